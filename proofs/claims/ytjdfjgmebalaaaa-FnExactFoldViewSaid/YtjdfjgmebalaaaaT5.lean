/- Part 5 of what the proof rests on: the executor and what it is worth, and the program's functions as it runs them. No condition. -/
import Derived.Test.YtjdfjgmebalaaaaT4
import Derived.ChangeOld
import Derived.OpenShut
set_option linter.unusedVariables false
set_option linter.unusedSimpArgs false
namespace Go.Av
theorem D5 (P:Nat→Prop) [DecidablePred P]:∀ n:Nat,(∀ i,i<n→P i)∨∃ j,j<n∧(∀ i,i<j→P i)∧¬ P j
 | 0=>.inl fun i hi=>by omega
 | n+1=>by
  rcases D5 P n with h|⟨j,h1,h2,h3⟩
  ·by_cases hn:P n
   ·exact .inl fun i hi=>by
     by_cases e:i=n
     ·subst e;exact hn
     ·exact h i (by omega)
   ·exact .inr ⟨n,by omega,h,hn⟩
  ·exact .inr ⟨j,by omega,h2,h3⟩
def dC (left:Int) (n:Nat):Int:=if(n:Int)≤left then left-n else -1
theorem AO (l:List Ex) {i:Nat} {a:Ex} (h:l[i]?=some a):Ex.aN (l.take (i+1))=Ex.aN (l.take i)+a.size:=by
 induction l generalizing i with
 | nil=>simp at h
 | cons b l ih =>
  cases i with
  | zero=>simp at h;subst h;simp[Ex.aN]
  | succ i=>have:=ih (i:=i) (by simpa using h);simp only[yR,Ex.aN]at this ⊢;omega
theorem F9 (l:List Ex) (i:Nat):Ex.aN (l.take i)≤Ex.aN l:=by
 induction l generalizing i with
 | nil=>simp[Ex.aN]
 | cons b l ih =>
  cases i with
  | zero=>simp[Ex.aN]
  | succ i=>simp only[yR,Ex.aN];have:=ih i;omega
theorem qA:∀ (l:List Ex) (i:Nat),i≤l.length→i≤Ex.aN (l.take i)
 | [],i,h=>by simp at h;subst h;simp
 | a::l,0,_=>by simp
 | a::l,i+1,h=>by
  have:=qA l i (by simpa using h);have:=Ex.jC a;simp only[yR,Ex.aN];omega
end Go.Av
namespace Go.Proofs.Ytjdfjgmebalaaaa
open Go Go.Av
set_option maxRecDepth 4000
set_option maxHeartbeats 1000000
theorem AG4 {e:Ex} {left:Int} (h:aH C0 17 [.i (.isl (Ex.aA e.kids)), .int left] []=some (.int (dC left (Ex.aN e.kids)),[])) :
 aH C0 44 [.i (.agg e.cells), .int left] []=some (.int (dC left (Ex.aN e.kids)),[]):=by
 rw[aI rfl Try.func44 rfl rfl,Ex.aB];simp[h];by_cases h0:dC left (Ex.aN e.kids)<0
 ·have:dC left (Ex.aN e.kids)=-1:=by unfold dC at h0 ⊢;split<;>rename_i hc<;>simp[hc]at h0 ⊢;omega
  simp[h0,this]
 ·simp[h0]
def szI (l:List Ex) (left:Int) (i:Nat):Int:=left-l.length-(Ex.aN (l.take i)-i)
def SZ (l:List Ex) (left:Int) (i:Nat):AS :=
 { env:=[(0, .i (.isl (Ex.aA l))),(1, .int (szI l left i)),(4, .int 0),(5, .int i),(11, .bool false),(15,jk i (.bool true)),(25,jk i (.bool false))],st:=[] }
theorem OD {l:List Ex} {left:Int} (h0:0≤left) (h1:left<1000000000) (hl:l.length<9223372036854775808)
 (ih:∀ a∈l,∀ left:Int,0≤left→left<1000000000→aH C0 44 [.i (.agg a.cells), .int left] []=some (.int (dC left (Ex.aN a.kids)),[])) :
 aH C0 17 [.i (.isl (Ex.aA l)), .int left] []=some (.int (dC left (Ex.aN l)),[]):=by
 rw[aI rfl Try.func17 rfl rfl];have w1:IntKind.i64.wrap (left-l.length)=left-l.length:=wrO;have hsl:=Ex.dM l;by_cases hc:left-l.length<0
 ·have:¬ ((Ex.aN l:Nat):Int)≤left:=by omega
  simp[w1,hc,dC,this]
 simp[w1,hc]
 have hpre:∀ i,i<l.length→∃ a,l[i]?=some a∧a∈l∧Ex.aN (l.take (i+1))=Ex.aN (l.take i)+(1+Ex.aN a.kids)∧gB (Ex.aA l) i=some a.cells:=by
  intro i hi;have h3:=zV hi;refine⟨_,h3,zT h3,?_,Ex.aJ h3⟩;rw[AO l h3,Ex.size_eq]
 have hround:∀ i,i<l.length→0≤szI l left i→∃ a:Ex,gB (Ex.aA l) i=some a.cells∧aH C0 44 [.i (.agg a.cells), .int (szI l left i)] []=some (.int (if 0≤szI l left (i+1)then szI l left (i+1)else -1),[]):=by
  intro i hi hs;obtain⟨a,h3,hm,hz,hn⟩:=hpre i hi;have hti:=qA l i (by omega);refine⟨a,hn,?_⟩;rw[ih a hm _ hs (by unfold szI;omega)];congr 2;unfold dC;congr 1;by_cases hle:((Ex.aN a.kids:Nat):Int)≤szI l left i
  ·rw[if_pos hle,if_pos (by unfold szI at hle ⊢;omega)];unfold szI;omega
  ·rw[if_neg hle,if_neg (by unfold szI at hle ⊢;omega)]
 rcases D5 (fun i=>0≤szI l left (i+1)) l.length with hall|⟨j,hj,hlt,hbad⟩
 ·rw[aV (SZ l left) l.length (by simp[SZ,szI,Ex.aN])]
  ·rw[aF]
   have hfin:dC left (Ex.aN l)=szI l left l.length:=by
    have hT:l.take l.length=l:=zX (by simp)
    have hge:0≤szI l left l.length:=by
     cases hn:l.length with
     | zero=>unfold szI;rw[hn];simp[Ex.aN];omega
     | succ n=>exact hn ▸ hall n (by omega)
    unfold dC;unfold szI at hge ⊢;rw[hT]at hge ⊢;rw[if_pos (by omega)];omega
   rw[hfin];simp[SZ]
  ·intro i hi
   have hs:0≤szI l left i:=by
    cases i with
    | zero=>unfold szI;simp[Ex.aN];omega
    | succ i=>exact hall i (by omega)
   obtain⟨a,hn,hc⟩:=hround i hi hs;have hs1:=hall i hi;have hs1:0≤szI l left (i+1):=hs1;rw[if_pos hs1]at hc;have w2:IntKind.i64.wrap ((i:Int)+1)=i+1:=wrO;rw[Ex.aB]at hn hc;simp[SZ,hi,hn,hc,w2,show ¬ szI l left (i+1)<0 by omega]
 ·have hsl2:dC left (Ex.aN l)=-1:=by
   have hm:=F9 l (j+1);have hbad:¬ 0≤szI l left (j+1):=hbad;obtain⟨a,h3,_,_,_⟩:=hpre j hj
   have hrest:Ex.aN (l.take (j+1))+(l.length-(j+1))≤Ex.aN l:=by
    have e1:Ex.aN l=Ex.aN (l.take (j+1))+Ex.aN (l.drop (j+1)):=by
     have key:∀ (n:Nat) (l:List Ex),Ex.aN l=Ex.aN (l.take n)+Ex.aN (l.drop n):=by
      intro n
      induction n with
      | zero=>intro l;simp[Ex.aN]
      | succ n ih=>intro l;cases l with
       | nil=>simp[Ex.aN]
       | cons b l=>simp only[yR,zA4,Ex.aN];have:=ih l;omega
     exact key _ _
    have e2:=Ex.dM (l.drop (j+1));simp at e2;omega
   unfold dC;unfold szI at hbad;rw[if_neg (by omega)]
  rw[hsl2,aV (SZ l left) j (by simp[SZ,szI,Ex.aN])]
  ·rw[aF]
   have hs:0≤szI l left j:=by
    cases j with
    | zero=>unfold szI;simp[Ex.aN];omega
    | succ j=>exact hlt j (by omega)
   obtain⟨a,hn,hc⟩:=hround j hj hs;have hbad:¬ 0≤szI l left (j+1):=hbad;rw[if_neg hbad]at hc;rw[Ex.aB]at hn hc;simp[SZ,hj,hn,hc]
  ·intro i hi
   have hs:0≤szI l left i:=by
    cases i with
    | zero=>unfold szI;simp[Ex.aN];omega
    | succ i=>exact hlt i (by omega)
   obtain⟨a,hn,hc⟩:=hround i (by omega) hs;have hs1:0≤szI l left (i+1):=hlt i hi;rw[if_pos hs1]at hc;have w2:IntKind.i64.wrap ((i:Int)+1)=i+1:=wrO;rw[Ex.aB]at hn hc;simp[SZ,show i<l.length by omega,hn,hc,w2,show ¬ szI l left (i+1)<0 by omega]
set_option maxHeartbeats 2000000
theorem AJ3:∀ (e:Ex),e.fat→∀ left:Int,0≤left→left<1000000000→aH C0 44 [.i (.agg e.cells), .int left] []=some (.int (dC left (Ex.aN e.kids)),[]):=by
 intro e
 induction e using Ex.ind with
 | h k c v ks ih =>
  intro hf left h0 h1;have hf':=(Ex.nG _).1 hf;exact AG4 (OD h0 h1 hf'.1 fun a ha=>ih a ha (hf'.2 a ha))
theorem AG2 (l:List Ex) (hl:l.length<9223372036854775808) (hf:∀ a∈l,a.fat) (left:Int) (h0:0≤left) (h1:left<1000000000):aH C0 17 [.i (.isl (Ex.aA l)), .int left] []=some (.int (dC left (Ex.aN l)),[]) :=
 OD h0 h1 hl fun a ha=>AJ3 a (hf a ha)
theorem ZQ (v:Val):aH C0 69 [.i (.agg [.bool v.null, .int v.n]), .i (.agg [.bool v.null, .int v.n])] []=some (.bool true,[]):=by
 rw[aI rfl Try.func69 rfl rfl];simp
theorem AHI {e:Ex} (h:aH C0 29 [.i (.isl (Ex.aA e.kids)), .i (.isl (Ex.aA e.kids))] []=some (.bool true,[])):aH C0 56 [.i (.agg e.cells), .i (.agg e.cells)] []=some (.bool true,[]):=by
 rw[aI rfl Try.func56 rfl rfl,Ex.aB];have hv:=ZQ e.val;simp[hv,h]
def EQ (l:List Ex) (i:Nat):AS :=
 { env:=[(0, .i (.isl (Ex.aA l))),(1, .i (.isl (Ex.aA l))),(4, .bool false),(5, .int i),(10, .bool false),(14,jk i (.bool true)),(26,jk i (.bool false))],st:=[] }
theorem ABJ {l:List Ex} (hl:l.length<9223372036854775808) (ih:∀ a∈l,aH C0 56 [.i (.agg a.cells), .i (.agg a.cells)] []=some (.bool true,[])):aH C0 29 [.i (.isl (Ex.aA l)), .i (.isl (Ex.aA l))] []=some (.bool true,[]):=by
 rw[aI rfl Try.func29 rfl rfl];simp;rw[aV (EQ l) l.length (by simp[EQ])]
 ·rw[aF];simp[EQ]
 ·intro i hi;have h3:=zV hi;have hc:=ih _ (zT h3);have r2:=Ex.aJ h3;generalize l[i]=a at h3 hc r2;have w2:IntKind.i64.wrap ((i:Int)+1)=i+1:=wrO;rw[Ex.aB]at hc r2;simp[EQ,hi,r2,hc,w2]
theorem ZT:∀ (e:Ex),e.fat→aH C0 56 [.i (.agg e.cells), .i (.agg e.cells)] []=some (.bool true,[]):=by
 intro e
 induction e using Ex.ind with
 | h k c v ks ih =>
  intro hf;have hf':=(Ex.nG _).1 hf;exact AHI (ABJ hf'.1 fun a ha=>ih a ha (hf'.2 a ha))
theorem ZR (l:List Ex) (hl:l.length<9223372036854775808) (hf:∀ a∈l,a.fat):aH C0 29 [.i (.isl (Ex.aA l)), .i (.isl (Ex.aA l))] []=some (.bool true,[]):=ABJ hl fun a ha=>ZT a (hf a ha)
def HD (l:List Ex) (k:Int) (i:Nat):AS :=
 { env:=[(0, .i (.isl (Ex.aA (Ex.iY k l)))),(1, .int (k+4*(Ex.aN (l.take i):Nat))),(4, .int 0),(5, .int i),(9,jk i (.bool true)),(18,jk i (.bool false)),(27,jk i (.bool false)),(39,jk i (.bool false)),(49,jk i (.bool false)),(60,jk i (.bool false))],st:=[] }
theorem RY {l:List Ex} {k:Int} (hk:0≤k) (hb:k+4*(Ex.aN l:Nat)<1000000000000) (ih:∀ a∈l,∀ k:Int,0≤k→k+4*(Ex.aN a.kids:Nat)<1000000000000→aH C0 33 [.i (.isl (Ex.aA (Ex.iY k a.kids))), .int k] []=some (.int (k+4*(Ex.aN a.kids:Nat)),[])) :
 aH C0 33 [.i (.isl (Ex.aA (Ex.iY k l))), .int k] []=some (.int (k+4*(Ex.aN l:Nat)),[]):=by
 rw[aI rfl Try.func33 rfl rfl];have hlen:=Ex.vP l k;have hsl:=Ex.dM l;simp;rw[aV (HD l k) l.length (by simp[HD,Ex.aN])]
 ·rw[aF];have hT:l.take l.length=l:=zX (by simp);simp[HD,hlen,hT]
 ·intro i hi;have h3:=zV hi;have r2:=Ex.aJ (Ex.KO l k h3);have hz:=AO l h3;have hmono:=F9 l (i+1);have hm:=zT h3;rw[Ex.size_eq]at hz;generalize hq:k+4*((Ex.aN (l.take i):Nat):Int)=q at r2;have hc:=ih _ hm (q+1+1+1+1) (by omega) (by omega);generalize l[i]=a at h3 r2 hc hz;rw[Ex.BN]at r2;have w2:IntKind.i64.wrap ((i:Int)+1)=i+1:=wrO;have w3:IntKind.i64.wrap (q+1)=q+1:=wrO;have w4:IntKind.i64.wrap (q+1+1)=q+1+1:=wrO;have w5:IntKind.i64.wrap (q+1+1+1)=q+1+1+1:=wrO;have w6:IntKind.i64.wrap (q+1+1+1+1)=q+1+1+1+1:=wrO;have hn:k+4*((Ex.aN (l.take (i+1)):Nat):Int)=q+1+1+1+1+4*(Ex.aN a.kids:Nat):=by rw[hz];push_cast;omega
  have hneg:¬ q+1+1+1+1+4*((Ex.aN a.kids:Nat):Int)<0:=by omega
  simp[HD,hlen,hi,r2,hc,hq,hn,w2,w3,w4,w5,w6,hneg]
theorem ZH:∀ (e:Ex) (k:Int),0≤k→k+4*(Ex.aN e.kids:Nat)<1000000000000→aH C0 33 [.i (.isl (Ex.aA (Ex.iY k e.kids))), .int k] []=some (.int (k+4*(Ex.aN e.kids:Nat)),[]):=by
 intro e
 induction e using Ex.ind with
 | h k c v ks ih =>
  intro k hk hb;exact RY hk hb ih
end Go.Proofs.Ytjdfjgmebalaaaa
namespace Go.Av
mutual
def Pn.fat:Pn→Prop
 | .mk _ _ es cs ks=>es.length<9223372036854775808∧(∀ e∈es,e.fat)∧cs.length<9223372036854775808∧ks.length<9223372036854775808∧Pn.WO ks
def Pn.WO:List Pn→Prop
 | []=>True
 | p::ps=>p.fat∧Pn.WO ps
end
theorem Pn.sU:∀ (l:List Pn),Pn.WO l↔∀ p∈l,p.fat
 | []=>by simp[Pn.WO]
 | p::ps=>by simp[Pn.WO,Pn.sU ps]
theorem Pn.nG (p:Pn):p.fat↔p.exprs.length<9223372036854775808∧(∀ e∈p.exprs,e.fat)∧p.cols.length<9223372036854775808∧p.kids.length<9223372036854775808∧∀ a∈p.kids,a.fat:=by
 cases p;simp[Pn.fat,Pn.sU]
end Go.Av
namespace Go.Proofs.Ytjdfjgmebalaaaa.P
open Go Go.Av
set_option maxRecDepth 4000
set_option maxHeartbeats 4000000
def TIX (l:List Int) (i:Nat):AS :=
 { env:=[(0, .i (.isl (aG l))),(2, .nils),(3, .osl 0 1 0 l.length),(4, .int i),(11,jk i (.bool true))],st:=[some (.arr 1 (aG (l.take i)++List.replicate (l.length-i) [.int 0]))] }
def EIX (l:List Int) (i:Nat):AS :=
 { env:=[(0, .i (.isl (aG l))),(1, .i (.isl (aG l))),(4, .bool false),(5, .int i),(10, .bool false),(14,jk i (.bool true)),(25,jk i (.bool false))],st:=[] }
theorem DF (l:List Int) (hl:l.length<9223372036854775808):aH C0 11 [.i (.isl (aG l)), .i (.isl (aG l))] []=some (.bool true,[]):=by
 rw[aI rfl Try.func11 rfl rfl];simp;rw[aV (EIX l) l.length (by simp[EIX])]
 ·rw[aF];simp[EIX]
 ·intro i hi;have h3:=zV hi;have r2:=bH h3;generalize l[i]=a at h3 r2;have w2:IntKind.i64.wrap ((i:Int)+1)=i+1:=wrO;simp[EIX,hi,r2,w2]
theorem WS {p:Pn} (h1:aH C0 29 [.i (.isl (Ex.aA p.exprs)), .i (.isl (Ex.aA p.exprs))] []=some (.bool true,[])) (h2:aH C0 11 [.i (.isl (aG p.cols)), .i (.isl (aG p.cols))] []=some (.bool true,[])) (h3:aH C0 30 [.i (.isl (Pn.aA p.kids)), .i (.isl (Pn.aA p.kids))] []=some (.bool true,[])) :
 aH C0 10 [.i (.agg p.cells), .i (.agg p.cells)] []=some (.bool true,[]):=by
 rw[aI rfl Try.func10 rfl rfl,Pn.aB];simp[h1,h2,h3]
def EPS (l:List Pn) (i:Nat):AS :=
 { env:=[(0, .i (.isl (Pn.aA l))),(1, .i (.isl (Pn.aA l))),(4, .bool false),(5, .int i),(10, .bool false),(14,jk i (.bool true)),(26,jk i (.bool false))],st:=[] }
theorem SK {l:List Pn} (hl:l.length<9223372036854775808) (ih:∀ a∈l,aH C0 10 [.i (.agg a.cells), .i (.agg a.cells)] []=some (.bool true,[])):aH C0 30 [.i (.isl (Pn.aA l)), .i (.isl (Pn.aA l))] []=some (.bool true,[]):=by
 rw[aI rfl Try.func30 rfl rfl];simp;rw[aV (EPS l) l.length (by simp[EPS])]
 ·rw[aF];simp[EPS]
 ·intro i hi;have h3:=zV hi;have hc:=ih _ (zT h3);have r2:=Pn.aJ h3;generalize l[i]=a at h3 hc r2;have w2:IntKind.i64.wrap ((i:Int)+1)=i+1:=wrO;rw[Pn.aB]at hc r2;simp[EPS,hi,r2,hc,w2]
theorem DD:∀ (p:Pn),p.fat→aH C0 10 [.i (.agg p.cells), .i (.agg p.cells)] []=some (.bool true,[]):=by
 intro p
 induction p using Pn.ind with
 | h k t es cs ks ih =>
  intro hf;obtain⟨h1,h2,h3,h4,h5⟩:=(Pn.nG _).1 hf;exact WS (ZR es h1 h2) (DF cs h3) (SK h4 fun a ha=>ih a ha (h5 a ha))
def zpw:List IV:=[.int 0, .int 0, .isl [], .isl [], .isl []]
end Go.Proofs.Ytjdfjgmebalaaaa.P
namespace Go.Av
mutual
def Pn.ms:Pn→Nat
 | .mk _ _ es cs ks=>1+(Ex.aN es+(cs.length+Pn.msL ks))
def Pn.msL:List Pn→Nat
 | []=>0
 | p::l=>p.ms+Pn.msL l
end
def Pn.meas (p:Pn):Nat:=Ex.aN p.exprs+(p.cols.length+Pn.msL p.kids)
theorem Pn.VG (p:Pn):p.ms=1+p.meas:=by cases p;simp[Pn.ms,Pn.meas,Pn.exprs,Pn.cols,Pn.kids]
theorem Pn.AB4 (p:Pn):1≤p.ms:=by rw[Pn.VG];omega
theorem Pn.pF:∀ (l:List Pn),l.length≤Pn.msL l
 | []=>by simp
 | p::l=>by have:=Pn.pF l;have:=Pn.AB4 p;simp only[zN,Pn.msL];omega
theorem Pn.VI:∀ {l:List Pn} {p:Pn},p∈l→p.ms≤Pn.msL l
 | a::l,p,h=>by
  simp only[Pn.msL]
  rcases zR.1 h with rfl|h
  ·omega
  ·have:=Pn.VI h;omega
theorem VH (l:List Pn) {i:Nat} {a:Pn} (h:l[i]?=some a):Pn.msL (l.take (i+1))=Pn.msL (l.take i)+a.ms:=by
 induction l generalizing i with
 | nil=>simp at h
 | cons b l ih =>
  cases i with
  | zero=>simp at h;subst h;simp[Pn.msL]
  | succ i=>have:=ih (i:=i) (by simpa using h);simp only[yR,Pn.msL]at this ⊢;omega
theorem Z5 (l:List Pn) (i:Nat):Pn.msL (l.take i)≤Pn.msL l:=by
 induction l generalizing i with
 | nil=>simp[Pn.msL]
 | cons b l ih =>
  cases i with
  | zero=>simp[Pn.msL]
  | succ i=>simp only[yR,Pn.msL];have:=ih i;omega
theorem vO:∀ (l:List Pn) (i:Nat),i≤l.length→i≤Pn.msL (l.take i)
 | [],i,h=>by simp at h;subst h;simp
 | a::l,0,_=>by simp
 | a::l,i+1,h=>by
  have:=vO l i (by simpa using h);have:=Pn.AB4 a;simp only[yR,Pn.msL];omega
theorem Pn.EU:∀ (p:Pn),p.meas<100000000→p.thin:=by
 intro p
 induction p using Pn.ind with
 | h k t es cs ks ih =>
  intro h;simp only[Pn.meas,Pn.exprs,Pn.cols,Pn.kids]at h;have h1:=Ex.dM es;have h2:=Pn.pF ks;refine(Pn.bL _).2 ⟨by simp only[Pn.exprs];omega,fun e he=>Ex.JR e (by have:=Ex.AP (show e∈es from he);omega),by simp only[Pn.cols];omega,by simp only[Pn.kids];omega,fun a ha=>ih a ha ?_⟩;have h3:=Pn.VI (show a∈ks from ha);rw[Pn.VG]at h3;omega
theorem KQ {left:Int} {a b:Nat} (h:0≤dC left a):dC (dC left a) b=dC left (a+b):=by
 unfold dC at h ⊢;by_cases ha:(a:Int)≤left
 ·rw[if_pos ha]at h ⊢;by_cases hb:(b:Int)≤left-a
  ·rw[if_pos hb,if_pos (by omega)];omega
  ·rw[if_neg hb,if_neg (by omega)]
 ·rw[if_neg ha]at h;omega
theorem BV {left:Int} {a:Nat} (h:dC left a<0) (b:Nat):dC left a=-1∧dC left (a+b)=-1:=by
 unfold dC at h ⊢;by_cases ha:(a:Int)≤left
 ·rw[if_pos ha]at h;omega
 ·rw[if_neg ha,if_neg (by omega)];exact⟨rfl,rfl⟩
theorem II {left:Int} {a:Nat} (h:0≤left):dC left a≤left:=by
 unfold dC;split<;>omega
end Go.Av
namespace Go.Proofs.Ytjdfjgmebalaaaa.P
open Go Go.Av
set_option maxRecDepth 4000
set_option maxHeartbeats 2000000
theorem YN (l:List Int) (hl:l.length<9223372036854775808) (left:Int) (h0:0≤left) (h1:left<1000000000):aH C0 18 [.i (.isl (aG l)), .int left] []=some (.int (dC left l.length),[]):=by
 rw[aI rfl Try.func18 rfl rfl];have w1:IntKind.i64.wrap (left-l.length)=left-l.length:=wrO;by_cases hc:left-l.length<0
 ·have:¬ ((l.length:Nat):Int)≤left:=by omega
  simp[w1,hc,dC,this]
 ·have:((l.length:Nat):Int)≤left:=by omega
  simp[w1,hc,dC,this]
theorem AG3 {p:Pn} {left:Int} (h1:aH C0 17 [.i (.isl (Ex.aA p.exprs)), .int left] []=some (.int (dC left (Ex.aN p.exprs)),[]))
 (h2:0≤dC left (Ex.aN p.exprs)→aH C0 18 [.i (.isl (aG p.cols)), .int (dC left (Ex.aN p.exprs))] []=some (.int (dC left (Ex.aN p.exprs+p.cols.length)),[]))
 (h3:0≤dC left (Ex.aN p.exprs+p.cols.length)→aH C0 19 [.i (.isl (Pn.aA p.kids)), .int (dC left (Ex.aN p.exprs+p.cols.length))] []=some (.int (dC left (Ex.aN p.exprs+p.cols.length+Pn.msL p.kids)),[])) :
 aH C0 5 [.i (.agg p.cells), .int left] []=some (.int (dC left p.meas),[]):=by
 rw[aI rfl Try.func5 rfl rfl,Pn.aB];have hm:p.meas=Ex.aN p.exprs+p.cols.length+Pn.msL p.kids:=by unfold Pn.meas;omega
 rw[hm];by_cases c1:dC left (Ex.aN p.exprs)<0
 ·obtain⟨e1,e2⟩:=BV c1 (p.cols.length+Pn.msL p.kids);rw[← Nat.add_assoc]at e2;simp[h1,c1,e2]
 ·have h2:=h2 (by omega);by_cases c2:dC left (Ex.aN p.exprs+p.cols.length)<0
  ·obtain⟨e1,e2⟩:=BV c2 (Pn.msL p.kids);simp[h1,c1,h2,c2,e2]
  ·have h3:=h3 (by omega);by_cases c3:dC left (Ex.aN p.exprs+p.cols.length+Pn.msL p.kids)<0
   ·obtain⟨e1,e2⟩:=BV c3 0;simp[h1,c1,h2,c2,h3,c3,e1]
   ·simp[h1,c1,h2,c2,h3,c3]
def szJ (l:List Pn) (left:Int) (i:Nat):Int:=left-l.length-(Pn.msL (l.take i)-i)
def SZP (l:List Pn) (left:Int) (i:Nat):AS :=
 { env:=[(0, .i (.isl (Pn.aA l))),(1, .int (szJ l left i)),(4, .int 0),(5, .int i),(11, .bool false),(15,jk i (.bool true)),(25,jk i (.bool false))],st:=[] }
theorem UL {l:List Pn} {left:Int} (h0:0≤left) (h1:left<1000000000) (hl:l.length<9223372036854775808)
 (ih:∀ a∈l,∀ left:Int,0≤left→left<1000000000→aH C0 5 [.i (.agg a.cells), .int left] []=some (.int (dC left (a.meas)),[])) :
 aH C0 19 [.i (.isl (Pn.aA l)), .int left] []=some (.int (dC left (Pn.msL l)),[]):=by
 rw[aI rfl Try.func19 rfl rfl];have w1:IntKind.i64.wrap (left-l.length)=left-l.length:=wrO;have hsl:=Pn.pF l;by_cases hc:left-l.length<0
 ·have:¬ ((Pn.msL l:Nat):Int)≤left:=by omega
  simp[w1,hc,dC,this]
 simp[w1,hc]
 have hpre:∀ i,i<l.length→∃ a,l[i]?=some a∧a∈l∧Pn.msL (l.take (i+1))=Pn.msL (l.take i)+(1+a.meas)∧gB (Pn.aA l) i=some a.cells:=by
  intro i hi;have h3:=zV hi;refine⟨_,h3,zT h3,?_,Pn.aJ h3⟩;rw[VH l h3,Pn.VG]
 have hround:∀ i,i<l.length→0≤szJ l left i→∃ a:Pn,gB (Pn.aA l) i=some a.cells∧aH C0 5 [.i (.agg a.cells), .int (szJ l left i)] []=some (.int (if 0≤szJ l left (i+1)then szJ l left (i+1)else -1),[]):=by
  intro i hi hs;obtain⟨a,h3,hm,hz,hn⟩:=hpre i hi;have hti:=vO l i (by omega);refine⟨a,hn,?_⟩;rw[ih a hm _ hs (by unfold szJ;omega)];congr 2;unfold dC;congr 1;by_cases hle:((a.meas:Nat):Int)≤szJ l left i
  ·rw[if_pos hle,if_pos (by unfold szJ at hle ⊢;omega)];unfold szJ;omega
  ·rw[if_neg hle,if_neg (by unfold szJ at hle ⊢;omega)]
 rcases D5 (fun i=>0≤szJ l left (i+1)) l.length with hall|⟨j,hj,hlt,hbad⟩
 ·rw[aV (SZP l left) l.length (by simp[SZP,szJ,Pn.msL])]
  ·rw[aF]
   have hfin:dC left (Pn.msL l)=szJ l left l.length:=by
    have hT:l.take l.length=l:=zX (by simp)
    have hge:0≤szJ l left l.length:=by
     cases hn:l.length with
     | zero=>unfold szJ;rw[hn];simp[Pn.msL];omega
     | succ n=>exact hn ▸ hall n (by omega)
    unfold dC;unfold szJ at hge ⊢;rw[hT]at hge ⊢;rw[if_pos (by omega)];omega
   rw[hfin];simp[SZP]
  ·intro i hi
   have hs:0≤szJ l left i:=by
    cases i with
    | zero=>unfold szJ;simp[Pn.msL];omega
    | succ i=>exact hall i (by omega)
   obtain⟨a,hn,hc⟩:=hround i hi hs;have hs1:=hall i hi;have hs1:0≤szJ l left (i+1):=hs1;rw[if_pos hs1]at hc;have w2:IntKind.i64.wrap ((i:Int)+1)=i+1:=wrO;rw[Pn.aB]at hn hc;simp[SZP,hi,hn,hc,w2,show ¬ szJ l left (i+1)<0 by omega]
 ·have hsl2:dC left (Pn.msL l)=-1:=by
   have hm:=Z5 l (j+1);have hbad:¬ 0≤szJ l left (j+1):=hbad;obtain⟨a,h3,_,_,_⟩:=hpre j hj
   have hrest:Pn.msL (l.take (j+1))+(l.length-(j+1))≤Pn.msL l:=by
    have e1:Pn.msL l=Pn.msL (l.take (j+1))+Pn.msL (l.drop (j+1)):=by
     have key:∀ (n:Nat) (l:List Pn),Pn.msL l=Pn.msL (l.take n)+Pn.msL (l.drop n):=by
      intro n
      induction n with
      | zero=>intro l;simp[Pn.msL]
      | succ n ih=>intro l;cases l with
       | nil=>simp[Pn.msL]
       | cons b l=>simp only[yR,zA4,Pn.msL];have:=ih l;omega
     exact key _ _
    have e2:=Pn.pF (l.drop (j+1));simp at e2;omega
   unfold dC;unfold szJ at hbad;rw[if_neg (by omega)]
  rw[hsl2,aV (SZP l left) j (by simp[SZP,szJ,Pn.msL])]
  ·rw[aF]
   have hs:0≤szJ l left j:=by
    cases j with
    | zero=>unfold szJ;simp[Pn.msL];omega
    | succ j=>exact hlt j (by omega)
   obtain⟨a,hn,hc⟩:=hround j hj hs;have hbad:¬ 0≤szJ l left (j+1):=hbad;rw[if_neg hbad]at hc;rw[Pn.aB]at hn hc;simp[SZP,hj,hn,hc]
  ·intro i hi
   have hs:0≤szJ l left i:=by
    cases i with
    | zero=>unfold szJ;simp[Pn.msL];omega
    | succ i=>exact hlt i (by omega)
   obtain⟨a,hn,hc⟩:=hround i (by omega) hs;have hs1:0≤szJ l left (i+1):=hlt i hi;rw[if_pos hs1]at hc;have w2:IntKind.i64.wrap ((i:Int)+1)=i+1:=wrO;rw[Pn.aB]at hn hc;simp[SZP,show i<l.length by omega,hn,hc,w2,show ¬ szJ l left (i+1)<0 by omega]
theorem UK:∀ (p:Pn),p.fat→∀ left:Int,0≤left→left<1000000000→aH C0 5 [.i (.agg p.cells), .int left] []=some (.int (dC left p.meas),[]):=by
 intro p
 induction p using Pn.ind with
 | h k t es cs ks ih =>
  intro hf left h0 h1;obtain⟨f1,f2,f3,f4,f5⟩:=(Pn.nG _).1 hf;refine AG3 (AG2 _ f1 f2 left h0 h1) (fun h=>?_) fun h=>?_
  ·rw[YN _ f3 _ h (by have:=II (a:=Ex.aN es) h0;simp only[Pn.exprs];omega),KQ h]
  ·rw[UL h (by have:=II (a:=Ex.aN es+cs.length) h0;simp only[Pn.exprs,Pn.cols];omega) f4 fun a ha left h0 h1=>ih a ha (f5 a ha) left h0 h1,KQ h]
end Go.Proofs.Ytjdfjgmebalaaaa.P
namespace Go.Av.Mk
open Go Go.Av
theorem H7 {W n i:Nat} {us V:List Value} (hi:i<n) (hu:W*n≤us.length) (hV:V.length=W):(us.take (W*i)++V++us.drop (W*(i+1))).take (W*n)=us.take (W*i)++V++(us.take (W*n)).drop (W*(i+1)):=by
 have m1:W*(i+1)=W*i+W:=by rw[zK];omega
 have m2:W*(i+1)≤W*n:=zI W (by omega);have hl:(us.take (W*i)++V).length=W*(i+1):=by simp;omega
 rw[xX,hl,zX (by rw[hl];omega),yE]
end Go.Av.Mk
namespace Go.Proofs.Ytjdfjgmebalaaaa.P
open Go Go.Av Go.Av.Mk
set_option maxRecDepth 4000
set_option maxHeartbeats 1000000
theorem VC:∃ c0 c1 cc body c3 cend,MLoop C0 13 1 19 (GS 13) Try.f13 c0 c1 cc body c3 cend∧∀ n:Int,O6 C0 AGW AEN AB3 1 19 body n:=by
 refine⟨_,_,_,_,_,_,{ func:=Try.func13,code:=rfl,ntmps:=rfl,big:=by omega,results:=rfl,ok0:=⟨by kernel_rfl,rfl⟩,ok1:=⟨by kernel_rfl,rfl⟩,okc:=⟨by kernel_rfl,rfl⟩,ok3:=⟨by kernel_rfl,rfl⟩,oke:=⟨by kernel_rfl,rfl⟩,x0:=?_,x1:=?_,xc:=?_,xo:=?_,x3:=?_,xe:=?_,xf:=?_,nil:=?_ },?_⟩
 ·intro n R q;simp[MS]
 ·intro n R q;simp[MS]
 ·intro n i R q hi;simp[MS,hi]
 ·intro n R q;simp[MS]
 ·intro n i R q hi;have w6:IntKind.i64.wrap ((i:Int)+1)=i+1:=wrO;simp[MS,w6]
 ·intro n R q;simp[MS]
 ·intro n R q;simp[MS]
 ·intro k;rw[aI rfl Try.func13 rfl rfl];simp;rw[aF];simp
 ·intro x b N n i us vs q F a w hin g hvs hT hnd hbF h0 h1;have hlen:=g.len;have hfit:=g.fit;have h1:q+1<1000000000000:=h1
  cases hT with
  | @lit v _ vs' _ ho hT =>
   cases hT
   have hR:=kG 1 n us i hin;rw[hvs]at hR;have hset:=oZ 1 n us [.int .i64 q] i hin (by omega) rfl;simp only[yT,zB6]at hR hset;have w2:IntKind.i64.wrap (q+1)=q+1:=wrO;generalize hRR:rowsOf 1 n us=R at hR hset;refine wp_mono (ZP eT (G:=GS 13) (R':=R.set i [.int q]) (q':=q+1) (j9:=.junk) g hRR (by kernel_rfl) rfl (by simp[MS,hin,hR,w2]) hset) ?_;rintro e a' w' ⟨rfl,us',g',e',f'⟩;refine⟨rfl,us',[.int .i64 q],g',?_, .lit rfl .nil,f'⟩;rw[e'];exact H7 hin (by omega) rfl
theorem ACP:tJ C0 AGW AEN AB3 13:=by
 obtain⟨c0,c1,cc,body,c3,cend,L,hR⟩:=VC;exact tJ.of eT (by decide) L (fun _=>rfl) (by omega) (fun _=>zQ _) hR
theorem AJO {w:World} {a:Ex} {vs:List Value} {F:List Nat} (h:TCells w a.cells vs F) :
 ∃ u,vs=[.int .i64 a.kind, .int .i64 a.col, .bool a.val.null, .int .i64 a.val.n,u]∧TCells w [.isl (Ex.aA a.kids)] [u] F:=by
 rw[Ex.aB]at h
 cases h with
 | @lit _ _ v1 _ o1 h1 =>
  cases h1 with
  | @lit _ _ v2 _ o2 h2 =>
   cases h2 with
   | @lit _ _ v3 _ o3 h3 =>
    cases h3 with
    | @lit _ _ v4 _ o4 h4 =>
     have hl:=h4.length
     cases v4 with
     | nil=>simp at hl
     | cons u r =>
      cases r with
      | cons=>simp at hl
      | nil=>exact⟨u,rfl,h4⟩
theorem ZN:∃ c0 c1 cc body c3 cend,MLoop C0 31 5 52 (GS 31) Try.f31 c0 c1 cc body c3 cend∧∀ x:Ex,O6 C0 Ex.cells Ex.pR exZ 5 52 body x:=by
 have hl:∃ c0 c1 cc body c3 cend,MLoop C0 31 5 52 (GS 31) Try.f31 c0 c1 cc body c3 cend∧((∀ x:Ex,(∀ (w:World) (v:Value) (F:List Nat) (k:Int),TCells w [.isl (Ex.aA x.kids)] [v] F→F.Nodup→0≤k→k+(bN exZ x.kids:Nat)<1000000000000→Calls Try.prog 31 #[v, .int .i64 k] w (AAE Ex.cells Ex.pR exZ w v F k x.kids))→O6 C0 Ex.cells Ex.pR exZ 5 52 body x)):=by
  refine⟨_,_,_,_,_,_,{ func:=Try.func31,code:=rfl,ntmps:=rfl,big:=by omega,results:=rfl,ok0:=⟨by kernel_rfl,rfl⟩,ok1:=⟨by kernel_rfl,rfl⟩,okc:=⟨by kernel_rfl,rfl⟩,ok3:=⟨by kernel_rfl,rfl⟩,oke:=⟨by kernel_rfl,rfl⟩,x0:=?_,x1:=?_,xc:=?_,xo:=?_,x3:=?_,xe:=?_,xf:=?_,nil:=?_ },?_⟩
  ·intro n R q;simp[MS]
  ·intro n R q;simp[MS]
  ·intro n i R q hi;simp[MS,hi]
  ·intro n R q;simp[MS]
  ·intro n i R q hi;have w6:IntKind.i64.wrap ((i:Int)+1)=i+1:=wrO;simp[MS,w6]
  ·intro n R q;simp[MS]
  ·intro n R q;simp[MS]
  ·intro k;rw[aI rfl Try.func31 rfl rfl];simp;rw[aF];simp
  ·intro x ih b N n i us vs q F a w hin g hvs hT hnd hbF h0 h1;have hlen:=g.len;have hfit:=g.fit;have hsz:exZ x=4+bN exZ x.kids:=by rw[oV];unfold exZ;rw[Ex.size_eq];omega
   rw[hsz]at h1;obtain⟨u,rfl,hu⟩:=AJO hT;have hR:=kG 5 n us i hin;rw[hvs]at hR;have hset:=oZ 5 n us [.int .i64 q, .int .i64 (q+1), .bool ((q+1+1).tmod 3 == 0), .int .i64 (q+1+1+1),u] i hin (by omega) rfl;simp only[yT,zB6]at hR hset;have w2:IntKind.i64.wrap (q+1)=q+1:=wrO;have w3:IntKind.i64.wrap (q+1+1)=q+1+1:=wrO;have w4:IntKind.i64.wrap (q+1+1+1)=q+1+1+1:=wrO;have w5:IntKind.i64.wrap (q+1+1+1+1)=q+1+1+1+1:=wrO;have rr:=g.to;generalize hRR:rowsOf 5 n us=R at hR hset rr;have hRl:R.length=n:=by rw[← hRR,eU]
   have hRs:∀ r:List IV,gB (R.set i r) i=some r:=fun r=>by rw[eY,List.getElem?_set_self (by omega)]
   refine wp_seq (wp_mono (mF eT (lN b N) (G:=GS 31) (S':=MS 5 n (R.set i [.int q, .int x.col, .bool x.val.null, .int x.val.n, .lit u]) q .junk (.int i) .junk) (e:=.normal) (by kernel_rfl) (by simp[MS,hin,hR,hRs,w2,w3,w4,w5]) rr) ?_);rintro _ x1 y1 ⟨rfl,r1⟩;refine wp_seq (wp_mono (mF eT (lN b N) (G:=GS 31) (S':=MS 5 n (R.set i [.int q, .int x.col, .bool x.val.null, .int x.val.n, .lit u]) (q+1) .junk (.int i) .junk) (e:=.normal) (by kernel_rfl) (by simp[MS,hin,hR,hRs,w2,w3,w4,w5]) r1) ?_);rintro _ x2 y2 ⟨rfl,r2⟩;refine wp_seq (wp_mono (mF eT (lN b N) (G:=GS 31) (S':=MS 5 n (R.set i [.int q, .int (q+1), .bool x.val.null, .int x.val.n, .lit u]) (q+1) .junk (.int i) .junk) (e:=.normal) (by kernel_rfl) (by simp[MS,hin,hR,hRs,w2,w3,w4,w5]) r2) ?_);rintro _ x3 y3 ⟨rfl,r3⟩;refine wp_seq (wp_mono (mF eT (lN b N) (G:=GS 31) (S':=MS 5 n (R.set i [.int q, .int (q+1), .bool x.val.null, .int x.val.n, .lit u]) (q+1+1) .junk (.int i) .junk) (e:=.normal) (by kernel_rfl) (by simp[MS,hin,hR,hRs,w2,w3,w4,w5]) r3) ?_);rintro _ x4 y4 ⟨rfl,r4⟩;refine wp_seq (wp_mono (mF eT (lN b N) (G:=GS 31) (S':=MS 5 n (R.set i [.int q, .int (q+1), .bool ((q+1+1).tmod 3 == 0), .int x.val.n, .lit u]) (q+1+1) .junk (.int i) .junk) (e:=.normal) (by kernel_rfl) (by simp[MS,hin,hR,hRs,w2,w3,w4,w5]) r4) ?_);rintro _ x5 y5 ⟨rfl,r5⟩;refine wp_seq (wp_mono (mF eT (lN b N) (G:=GS 31) (S':=MS 5 n (R.set i [.int q, .int (q+1), .bool ((q+1+1).tmod 3 == 0), .int x.val.n, .lit u]) (q+1+1+1) .junk (.int i) .junk) (e:=.normal) (by kernel_rfl) (by simp[MS,hin,hR,hRs,w2,w3,w4,w5]) r5) ?_);rintro _ x6 y6 ⟨rfl,r6⟩;refine wp_seq (wp_mono (mF eT (lN b N) (G:=GS 31) (S':=MS 5 n (R.set i [.int q, .int (q+1), .bool ((q+1+1).tmod 3 == 0), .int (q+1+1+1), .lit u]) (q+1+1+1) .junk (.int i) .junk) (e:=.normal) (by kernel_rfl) (by simp[MS,hin,hR,hRs,w2,w3,w4,w5]) r6) ?_);rintro _ x7 y7 ⟨rfl,r7⟩;refine wp_seq (wp_mono (mF eT (lN b N) (G:=GS 31) (S':=MS 5 n (R.set i [.int q, .int (q+1), .bool ((q+1+1).tmod 3 == 0), .int (q+1+1+1), .lit u]) (q+1+1+1+1) .junk (.int i) .junk) (e:=.normal) (by kernel_rfl) (by simp[MS,hin,hR,hRs,w2,w3,w4,w5]) r7) ?_);rintro _ x8 y8 ⟨rfl,r8⟩;obtain⟨us8,g8,e8,f8⟩:=g.of (vs:=us.take (5*i)++[.int .i64 q, .int .i64 (q+1), .bool ((q+1+1).tmod 3 == 0), .int .i64 (q+1+1+1),u]++us.drop (5*(i+1))) (q':=q+1+1+1+1) (i':=i) r8.1 rfl rfl rfl (by rw[← hset];rfl);rw[H7 (W:=5) (us:=us) (V:=[.int .i64 q, .int .i64 (q+1), .bool ((q+1+1).tmod 3 == 0), .int .i64 (q+1+1+1),u]) hin (by omega) rfl]at e8;have hR8:=kG 5 n us8 i hin
   have hrow8:(us8.drop (5*i)).take 5=[.int .i64 q, .int .i64 (q+1), .bool ((q+1+1).tmod 3 == 0), .int .i64 (q+1+1+1),u]:=by
    have:(us8.drop (5*i)).take 5=((us8.take (5*n)).drop (5*i)).take 5:=by rw[yE,zJ,yS (by omega)]
    rw[this,e8,yX,zA0 (by simp;omega)];rfl
   rw[hrow8]at hR8;simp only[yT,zB6]at hR8
   refine wp_mono (wS eT (s:=bN exZ x.kids) (K:=fun _ w2=>TCells w2 [.isl ((eP Ex.pR exZ (q+1+1+1+1) x.kids).map Ex.cells)] [u] F) (u:=u) (Fu:=F) g8 (os1:=[_,_,_,_,_,_]) rfl (by kernel_rfl) (zQ 1)
    (R1:=⟨upd (upd (upd (upd (upd (upd (aQ (MS 5 n (rowsOf 5 n us8) (q+1+1+1+1) .junk (.int i) .junk).env) 44 (.osl 0 5 0 n)) 45 (.int i)) 46 (.ownE 0 5 i 0)) 47 (.ownE 0 5 i 4)) 48 (.i (.lit u))) 49 (.int (q+1+1+1+1)),aT (MS 5 n (rowsOf 5 n us8) (q+1+1+1+1) .junk (.int i) .junk).st,[]⟩)
    (by simp[MS,hin,hR8]) rfl rfl rfl rfl rfl rfl (by decide) (by decide) (by decide) (by decide) (by decide) Try.func31 (by decide) (by intro h;cases h) ?_ hbF) ?_
   ·intro w1 f1
    have hu1:TCells w1 [.isl (Ex.aA x.kids)] [u] F:=hu.mono fun f hf=>by
     have hlt:=tlt hu f hf;rw[f1.same f (zM hlt f8.size) (by simp;intro e;subst e;exact hbF hf),f8.same f hlt (by simp;intro e;subst e;exact hbF hf)]
    refine(ih w1 u F _ hu1 hnd (by omega) (by push_cast at h1 ⊢;omega)).mono ?_;rintro en w2 ⟨p1,p2,p3,_⟩;exact⟨p1,p2,p3⟩
   ·rintro e a' w' ⟨rfl,us',g',e',w1,f1,f2,hK⟩;have hq:q+1+1+1+1+(bN exZ x.kids:Nat)=q+(exZ x:Nat):=by rw[hsz];push_cast;omega
    rw[hq]at g';refine⟨rfl,us',_,g',by rw[e',e8],?_,(f8.sub (by simp)).trans ((f1.sub (by simp)).trans (f2.sub fun f hf=>by simp[hf]))⟩;rw[Ex.BN,sP,Ex.aU];exact .lit rfl (.lit rfl (.lit rfl (.lit rfl hK)))
 obtain⟨c0,c1,cc,body,c3,cend,L,hR⟩:=hl;refine⟨c0,c1,cc,body,c3,cend,L,fun x=>?_⟩
 induction x using Ex.ind with
 | h kd cl vl l ih =>
  refine hR _ fun w v F k hT hnd hk0 hk1=>?_
  simp only[Ex.kids]at hT hk1 ⊢;rw[Ex.aU]at hT;exact IC eT (by decide) L (fun e=>by rw[Ex.aB];rfl) (by omega) ih hT hnd hk0 hk1 (by have:=nV (sz:=exZ) (fun e=>by unfold exZ;have:=Ex.jC e;omega) l;omega)
theorem ABH:tJ C0 Ex.cells Ex.pR exZ 31:=by
 obtain⟨c0,c1,cc,body,c3,cend,L,hR⟩:=ZN;exact tJ.of eT (by decide) L (fun e=>by rw[Ex.aB];rfl) (by omega) (fun e=>by unfold exZ;have:=Ex.jC e;omega) hR
theorem one_cell {w:World} {c:IV} {cs:List IV} {vs:List Value} {F:List Nat} (h:TCells w (c::cs) vs F):∃ v r F1 F2,vs=v::r∧F=F1++F2∧TCells w [c] [v] F1∧TCells w cs r F2:=by
 have hl:=h.length
 cases vs with
 | nil=>simp at hl
 | cons v r =>
  obtain⟨F1,F2,hF,h1,h2⟩:=h.split 1;exact⟨v,r,F1,F2,rfl,hF,by simpa using h1,by simpa using h2⟩
theorem AJ9 {w:World} {p:Pn} {vs:List Value} {F:List Nat} (h:TCells w p.cells vs F) :
 ∃ u1 u2 u3 F1 F2 F3,vs=[.int .i64 p.kind, .int .i64 p.table,u1,u2,u3]∧F=F1++(F2++F3)∧TCells w [.isl (Ex.aA p.exprs)] [u1] F1∧TCells w [.isl (aG p.cols)] [u2] F2∧TCells w [.isl (Pn.aA p.kids)] [u3] F3:=by
 rw[Pn.aB]at h
 cases h with
 | @lit _ _ v1 _ o1 h1 =>
  cases h1 with
  | @lit _ _ v2 _ o2 h2 =>
   obtain⟨u1,r1,F1,G1,rfl,rfl,k1,h3⟩:=one_cell h2;obtain⟨u2,r2,F2,G2,rfl,rfl,k2,h4⟩:=one_cell h3;obtain⟨u3,r3,F3,G3,rfl,rfl,k3,h5⟩:=one_cell h4
   cases h5
   exact⟨u1,u2,u3,F1,F2,F3,rfl,by simp,k1,k2,k3⟩
theorem YY:∃ c0 c1 cc body c3 cend,MLoop C0 32 5 48 (GS 32) Try.f32 c0 c1 cc body c3 cend∧∀ x:Pn,O6 C0 Pn.cells Pn.nS Pn.mz 5 48 body x:=by
 have hl:∃ c0 c1 cc body c3 cend,MLoop C0 32 5 48 (GS 32) Try.f32 c0 c1 cc body c3 cend∧((∀ x:Pn,(∀ (w:World) (v:Value) (F:List Nat) (k:Int),TCells w [.isl (Pn.aA x.kids)] [v] F→F.Nodup→0≤k→k+(bN Pn.mz x.kids:Nat)<1000000000000→Calls Try.prog 32 #[v, .int .i64 k] w (AAE Pn.cells Pn.nS Pn.mz w v F k x.kids))→O6 C0 Pn.cells Pn.nS Pn.mz 5 48 body x)):=by
  refine⟨_,_,_,_,_,_,{ func:=Try.func32,code:=rfl,ntmps:=rfl,big:=by omega,results:=rfl,ok0:=⟨by kernel_rfl,rfl⟩,ok1:=⟨by kernel_rfl,rfl⟩,okc:=⟨by kernel_rfl,rfl⟩,ok3:=⟨by kernel_rfl,rfl⟩,oke:=⟨by kernel_rfl,rfl⟩,x0:=?_,x1:=?_,xc:=?_,xo:=?_,x3:=?_,xe:=?_,xf:=?_,nil:=?_ },?_⟩
  ·intro n R q;simp[MS]
  ·intro n R q;simp[MS]
  ·intro n i R q hi;simp[MS,hi]
  ·intro n R q;simp[MS]
  ·intro n i R q hi;have w6:IntKind.i64.wrap ((i:Int)+1)=i+1:=wrO;simp[MS,w6]
  ·intro n R q;simp[MS]
  ·intro n R q;simp[MS]
  ·intro k;rw[aI rfl Try.func32 rfl rfl];simp;rw[aF];simp
  ·intro x ih b N n i us vs q F a w hin g hvs hT hnd hbF h0 h1;have hlen:=g.len;have hfit:=g.fit;have hsz:x.mz=2+(bN exZ x.exprs+(x.cols.length+bN Pn.mz x.kids)):=by rw[oV,oU];exact Pn.VE x
   rw[hsz]at h1;obtain⟨u1,u2,u3,F1,F2,F3,rfl,rfl,t1,t2,t3⟩:=AJ9 hT;have nd1:=yY.1 hnd;have nd2:=yY.1 nd1.2.1;have b1:b ∉ F1:=fun h=>hbF (by simp[h])
   have b2:b ∉ F2:=fun h=>hbF (by simp[h])
   have b3:b ∉ F3:=fun h=>hbF (by simp[h])
   have d12:∀ f∈F1,f ∉ F2:=fun f h h'=>nd1.2.2 f h f (by simp[h']) rfl
   have d13:∀ f∈F1,f ∉ F3:=fun f h h'=>nd1.2.2 f h f (by simp[h']) rfl
   have d23:∀ f∈F2,f ∉ F3:=fun f h h'=>nd2.2.2 f h f h' rfl
   have hR:=kG 5 n us i hin;rw[hvs]at hR;have hset:=oZ 5 n us [.int .i64 q, .int .i64 (q+1),u1,u2,u3] i hin (by omega) rfl;simp only[yT,zB6]at hR hset;have w2:IntKind.i64.wrap (q+1)=q+1:=wrO;have w3:IntKind.i64.wrap (q+1+1)=q+1+1:=wrO;have rr:=g.to;generalize hRR:rowsOf 5 n us=R at hR hset rr;have hRl:R.length=n:=by rw[← hRR,eU]
   have hRs:∀ r:List IV,gB (R.set i r) i=some r:=fun r=>by rw[eY,List.getElem?_set_self (by omega)]
   refine wp_seq (wp_mono (mF eT (lN b N) (G:=GS 32) (S':=MS 5 n (R.set i [.int q, .int x.table, .lit u1, .lit u2, .lit u3]) q .junk (.int i) .junk) (e:=.normal) (by kernel_rfl) (by simp[MS,hin,hR,hRs,w2,w3]) rr) ?_);rintro _ x1 y1 ⟨rfl,r1⟩;refine wp_seq (wp_mono (mF eT (lN b N) (G:=GS 32) (S':=MS 5 n (R.set i [.int q, .int x.table, .lit u1, .lit u2, .lit u3]) (q+1) .junk (.int i) .junk) (e:=.normal) (by kernel_rfl) (by simp[MS,hin,hR,hRs,w2,w3]) r1) ?_);rintro _ x2 y2 ⟨rfl,r2⟩;refine wp_seq (wp_mono (mF eT (lN b N) (G:=GS 32) (S':=MS 5 n (R.set i [.int q, .int (q+1), .lit u1, .lit u2, .lit u3]) (q+1) .junk (.int i) .junk) (e:=.normal) (by kernel_rfl) (by simp[MS,hin,hR,hRs,w2,w3]) r2) ?_);rintro _ x3 y3 ⟨rfl,r3⟩;refine wp_seq (wp_mono (mF eT (lN b N) (G:=GS 32) (S':=MS 5 n (R.set i [.int q, .int (q+1), .lit u1, .lit u2, .lit u3]) (q+1+1) .junk (.int i) .junk) (e:=.normal) (by kernel_rfl) (by simp[MS,hin,hR,hRs,w2,w3]) r3) ?_);rintro _ x4 y4 ⟨rfl,r4⟩;obtain⟨us8,g8,e8,f8⟩:=g.of (vs:=us.take (5*i)++[.int .i64 q, .int .i64 (q+1),u1,u2,u3]++us.drop (5*(i+1))) (q':=q+1+1) (i':=i) r4.1 rfl rfl rfl (by rw[← hset];rfl);rw[H7 (W:=5) (us:=us) (V:=[.int .i64 q, .int .i64 (q+1),u1,u2,u3]) hin (by omega) rfl]at e8
   have rowU:∀ us9:List Value,us9.take (5*n)=us8.take (5*n)→gB (rowsOf 5 n us9) i=some [.int q, .int (q+1), .lit u1, .lit u2, .lit u3]:=by
    intro us9 e9;have hR8:=kG 5 n us9 i hin
    have hrow8:(us9.drop (5*i)).take 5=[.int .i64 q, .int .i64 (q+1),u1,u2,u3]:=by
     have:(us9.drop (5*i)).take 5=((us9.take (5*n)).drop (5*i)).take 5:=by rw[yE,zJ,yS (by omega)]
     rw[this,e9,e8,yX,zA0 (by simp;omega)];rfl
    rw[hrow8]at hR8;exact hR8
   have keep:∀ {w1 w2:World} {cs:List IV} {vs:List Value} {A B:List Nat},Fr w1 w2 B→TCells w1 cs vs A→(∀ f∈A,f ∉ B)→TCells w2 cs vs A:=fun fr h hd=>h.mono fun f hf=>fr.same f (tlt h f hf) (hd f hf)
   have nb:∀ {A:List Nat},b ∉ A→∀ f∈A,f ∉ [b]:=fun h f hf hh=>h (by simp at hh;exact hh ▸ hf)
   have hR8:=rowU us8 rfl
   refine wp_seq (wp_mono (wS eT (s:=bN exZ x.exprs) (K:=fun _ w2=>TCells w2 [.isl ((eP Ex.pR exZ (q+1+1) x.exprs).map Ex.cells)] [u1] F1) (u:=u1) (Fu:=F1) g8 (os1:=[_,_,_,_,_,_]) rfl (by kernel_rfl) (zQ 1)
    (R1:=⟨upd (upd (upd (upd (upd (upd (aQ (MS 5 n (rowsOf 5 n us8) (q+1+1) .junk (.int i) .junk).env) 26 (.osl 0 5 0 n)) 27 (.int i)) 28 (.ownE 0 5 i 0)) 29 (.ownE 0 5 i 2)) 30 (.i (.lit u1))) 31 (.int (q+1+1)),aT (MS 5 n (rowsOf 5 n us8) (q+1+1) .junk (.int i) .junk).st,[]⟩)
    (by simp[MS,hin,hR8]) rfl rfl rfl rfl rfl rfl (by decide) (by decide) (by decide) (by decide) (by decide) Try.func31 (by decide) (by intro h;cases h) ?_ b1) ?_)
   ·intro w1 f1;have hu1:=keep f1 (keep f8 t1 (nb b1)) (nb b1);rw[Ex.aU]at hu1;refine(ABH x.exprs w1 u1 F1 _ hu1 nd1.1 (by omega) (by push_cast at h1 ⊢;omega)).mono ?_;rintro en w2 ⟨p1,p2,p3,_⟩;exact⟨p1,p2,p3⟩
   rintro e a9 y9 ⟨rfl,us9,g9,e9,wa,fa,fb,hK1⟩;have hR9:=rowU us9 e9;have t2a:=keep fb (keep fa (keep f8 t2 (nb b2)) (nb b2)) (fun f h h'=>d12 f h' h);have t3a:=keep fb (keep fa (keep f8 t3 (nb b3)) (nb b3)) (fun f h h'=>d13 f h' h)
   refine wp_seq (wp_mono (wS eT (s:=x.cols.length) (K:=fun _ w2=>TCells w2 [.isl ((vM (q+1+1+(bN exZ x.exprs:Nat)) x.cols).map AGW)] [u2] F2) (u:=u2) (Fu:=F2) g9 (os1:=[_,_,_,_,_,_]) rfl (by kernel_rfl) (zQ 1)
    (R1:=⟨upd (upd (upd (upd (upd (upd (aQ (MS 5 n (rowsOf 5 n us9) (q+1+1+(bN exZ x.exprs:Nat)) .junk (.int i) .junk).env) 33 (.osl 0 5 0 n)) 34 (.int i)) 35 (.ownE 0 5 i 0)) 36 (.ownE 0 5 i 3)) 37 (.i (.lit u2))) 38 (.int (q+1+1+(bN exZ x.exprs:Nat))),aT (MS 5 n (rowsOf 5 n us9) (q+1+1+(bN exZ x.exprs:Nat)) .junk (.int i) .junk).st,[]⟩)
    (by simp[MS,hin,hR9]) rfl rfl rfl rfl rfl rfl (by decide) (by decide) (by decide) (by decide) (by decide) Try.func13 (by decide) (by intro h;cases h) ?_ b2) ?_)
   ·intro w1 f1;have hu1:=keep f1 t2a (nb b2);rw[sQ]at hu1;refine(ACP x.cols w1 u2 F2 _ hu1 nd2.1 (by omega) (by rw[rZ];push_cast at h1 ⊢;omega)).mono ?_;rintro en w2 ⟨p1,p2,p3,_⟩;rw[rZ]at p1;exact⟨p1,p2,p3⟩
   rintro e a10 y10 ⟨rfl,us10,g10,e10,wc,fc,fd,hK2⟩;have hR10:=rowU us10 (e10.trans e9);have k1a:=keep fd (keep fc hK1 (nb b1)) (fun f h h'=>d12 f h h');have t3b:=keep fd (keep fc t3a (nb b3)) (fun f h h'=>d23 f h' h)
   refine wp_mono (wS eT (s:=bN Pn.mz x.kids) (K:=fun _ w2=>TCells w2 [.isl ((eP Pn.nS Pn.mz (q+1+1+(bN exZ x.exprs:Nat)+(x.cols.length:Nat)) x.kids).map Pn.cells)] [u3] F3) (u:=u3) (Fu:=F3) g10 (os1:=[_,_,_,_,_,_]) rfl (by kernel_rfl) (zQ 1)
    (R1:=⟨upd (upd (upd (upd (upd (upd (aQ (MS 5 n (rowsOf 5 n us10) (q+1+1+(bN exZ x.exprs:Nat)+(x.cols.length:Nat)) .junk (.int i) .junk).env) 40 (.osl 0 5 0 n)) 41 (.int i)) 42 (.ownE 0 5 i 0)) 43 (.ownE 0 5 i 4)) 44 (.i (.lit u3))) 45 (.int (q+1+1+(bN exZ x.exprs:Nat)+(x.cols.length:Nat))),aT (MS 5 n (rowsOf 5 n us10) (q+1+1+(bN exZ x.exprs:Nat)+(x.cols.length:Nat)) .junk (.int i) .junk).st,[]⟩)
    (by simp[MS,hin,hR10]) rfl rfl rfl rfl rfl rfl (by decide) (by decide) (by decide) (by decide) (by decide) Try.func32 (by decide) (by intro h;cases h) ?_ b3) ?_
   ·intro w1 f1;have hu1:=keep f1 t3b (nb b3);refine(ih w1 u3 F3 _ hu1 nd2.2.1 (by omega) (by push_cast at h1 ⊢;omega)).mono ?_;rintro en w2 ⟨p1,p2,p3,_⟩;exact⟨p1,p2,p3⟩
   rintro e a' w' ⟨rfl,us',g',e',w1,f1,f2,hK3⟩;have hq:q+1+1+(bN exZ x.exprs:Nat)+(x.cols.length:Nat)+(bN Pn.mz x.kids:Nat)=q+(x.mz:Nat):=by rw[hsz];push_cast;omega
   rw[hq]at g';have k1b:=keep f2 (keep f1 k1a (nb b1)) (fun f h h'=>d13 f h h');have k2b:=keep f2 (keep f1 hK2 (nb b2)) (fun f h h'=>d23 f h h');refine⟨rfl,us',_,g',by rw[e',e10,e9,e8],?_,(f8.sub (by simp)).trans ((fa.sub (by simp)).trans ((fb.sub fun f hf=>by simp[hf]).trans ((fc.sub (by simp)).trans ((fd.sub fun f hf=>by simp[hf]).trans ((f1.sub (by simp)).trans (f2.sub fun f hf=>by simp[hf]))))))⟩;rw[Pn.BL,sP,Ex.aU,sQ,o5,Pn.aU,← oV];exact .lit rfl (.lit rfl (k1b.append (k2b.append hK3)))
 obtain⟨c0,c1,cc,body,c3,cend,L,hR⟩:=hl;refine⟨c0,c1,cc,body,c3,cend,L,fun x=>?_⟩
 induction x using Pn.ind with
 | h k t es cs ks ih =>
  refine hR _ fun w v F k hT hnd hk0 hk1=>?_
  simp only[Pn.kids]at hT hk1 ⊢;rw[Pn.aU]at hT;exact IC eT (by decide) L (fun e=>by rw[Pn.aB];rfl) (by omega) ih hT hnd hk0 hk1 (by have:=nV (sz:=Pn.mz) (fun e=>by have:=Pn.VE e;omega) ks;omega)
theorem AGV:tJ C0 Pn.cells Pn.nS Pn.mz 32:=by
 obtain⟨c0,c1,cc,body,c3,cend,L,hR⟩:=YY;exact tJ.of eT (by decide) L (fun e=>by rw[Pn.aB];rfl) (by omega) (fun e=>by have:=Pn.VE e;omega) hR
noncomputable def ACH:FuncId→Option (List AV→StL→Option (AV×StL))
 | 48=>none
 | 22=>none
 | 8=>none
 | 7=>none
 | 23=>none
 | g=>if g=rH then none else some (aH C0 g)
def N8:FuncId→Bool
 | 48=>true
 | 22=>true
 | 8=>true
 | 7=>true
 | 23=>true
 | g=>keepR g
noncomputable def CT:Ctx:={ P:=Try.prog,G:=GS,ownArgs:=fM,keepRes:=N8,eqT:=G8,prim:=ACH,tree:=true }
@[simp] theorem ARS:CT.P=Try.prog:=(rfl)
@[simp] theorem ART (f):CT.G f=GS f:=(rfl)
@[simp] theorem ARP (f):CT.ownArgs f=fM f:=(rfl)
@[simp] theorem ARQ (f):CT.keepRes f=N8 f:=(rfl)
@[simp] theorem ARR (f):CT.eqT f=G8 f:=(rfl)
@[simp] theorem ARO:CT.tree=true:=(rfl)
@[simp] theorem kT1:N8 48=true:=(rfl)
@[simp] theorem kT2:N8 22=true:=(rfl)
@[simp] theorem kT3:N8 8=true:=(rfl)
@[simp] theorem kT4:N8 7=true:=(rfl)
@[simp] theorem kT5:N8 23=true:=(rfl)
theorem AGS:PrimOk CT:=by
 have h0:=aZ eT
 have key:∀ g q,CT.prim g=some q→g≠rH∧q=aH C0 g:=by
  intro g q h;have h:ACH g=some q:=h;unfold ACH at h;split at h<;>first|(cases h;done)|(split at h<;>first|(cases h;done)|(rename_i hy;injection h with h;exact⟨hy,h.symm⟩))
 constructor
 ·intro g args st p h;unfold dP at h
  cases hq:CT.prim g with
  | none=>rw[hq]at h;cases h
  | some q=>rw[hq]at h;obtain⟨hy,rfl⟩:=key g q hq;exact h0.name g args st p hy h
 ·intro g args st r st' h;unfold dP at h
  cases hq:CT.prim g with
  | none=>rw[hq]at h;cases h
  | some q=>rw[hq]at h;obtain⟨hy,rfl⟩:=key g q hq;exact h0.calls g args st r st' hy h
theorem AG8:SoundOk CT:=l7 (C:=CT) ft nt eqS mo AGS
@[simp] theorem ct1 (args:List AV) (st:StL):aH CT 65 args st=aH C0 65 args st:=bG (C:=CT) rfl args st
theorem AFY (v:Val):aH C0 65 [.i (.agg [.bool v.null, .int v.n])] []=some (.i (.agg [.bool v.null, .int v.n]),[]):=by
 rw[aI rfl Try.func65 rfl rfl];simp
theorem AFT {e:Ex} (h:aH CT 22 [.i (.isl (Ex.aA e.kids))] []=some (.osl 0 5 0 e.kids.length,[some (kW Ex.cells 5 e.kids)])):aH CT 48 [.i (.agg e.cells)] []=some (tE e 0,[some (kW Ex.cells 5 e.kids)]):=by
 rw[aI rfl Try.func48 rfl rfl,Ex.aB];have hv:=AFY e.val;simp[hv,h,tE]
def TTE (l:List Ex) (i:Nat):AS :=
 { env:=[(0, .i (.isl (Ex.aA l))),(2, .nils),(3, .osl 0 5 0 l.length),(4, .int i),(11,jk i (.bool true))],st:=[some (sS Ex.cells 5 AFK l l.length i)] }
theorem AAI {l:List Ex} (hl:l.length<1000000000) (ih:∀ a∈l,aH CT 48 [.i (.agg a.cells)] []=some (tE a 0,[some (kW Ex.cells 5 a.kids)])):aH CT 22 [.i (.isl (Ex.aA l))] []=some (.osl 0 5 0 l.length,[some (kW Ex.cells 5 l)]):=by
 rw[aI rfl Try.func22 rfl rfl];have hb:56*(l.length:Int)≤281474976710656:=by omega
 simp[hb];rw[aV (TTE l) l.length (by simp[TTE,sS,AFK])]
 ·rw[aF];simp[TTE,KZ]
 ·intro i hi;have h3:=zV hi;have hc:=ih _ (zT h3);have r2:=Ex.aJ h3;have hput:=KY (cells:=Ex.cells) (W:=5) (z:=AFK) (n:=l.length) h3 hi (by simp[AFK]) (by rw[Ex.aB];simp[AFK]) (by rw[Ex.aB];simp[uC,Y2]);generalize l[i]=a at h3 hc r2 hput;have w2:IntKind.i64.wrap ((i:Int)+1)=i+1:=wrO;rw[Ex.aB]at hc r2;simp only[Ex.aB,Ex.aU]at hput;simp[TTE,hi,r2,hc,tE,w2,hput]
theorem AFU:∀ (e:Ex),e.thin→aH CT 48 [.i (.agg e.cells)] []=some (tE e 0,[some (kW Ex.cells 5 e.kids)]):=by
 intro e
 induction e using Ex.ind with
 | h k c v ks ih =>
  intro ht;have ht':=(Ex.bL _).1 ht;exact AFT (AAI ht'.1 fun a ha=>ih a ha (ht'.2 a ha))
theorem AFQ (l:List Ex) (hl:l.length<1000000000) (ht:∀ a∈l,a.thin):aH CT 22 [.i (.isl (Ex.aA l))] []=some (.osl 0 5 0 l.length,[some (kW Ex.cells 5 l)]):=AAI hl fun a ha=>AFU a (ht a ha)
theorem AAJ (l:List Int) (hl:l.length<1000000000):aH CT 8 [.i (.isl (aG l))] []=some (.osl 0 1 0 l.length,[some (.arr 1 (aG l))]):=by
 rw[aI rfl Try.func8 rfl rfl];have hb:8*(l.length:Int)≤281474976710656:=by omega
 simp[hb];rw[aV (TIX l) l.length (by simp[TIX,aG])]
 ·rw[aF];have hT:l.take l.length=l:=zX (by simp);simp[TIX,hT]
 ·intro i hi;have h3:=zV hi;have r2:=bH h3;generalize l[i]=a at h3 r2;have w2:IntKind.i64.wrap ((i:Int)+1)=i+1:=wrO;have hD:(aG (l.take i)).length=i:=by simp;omega
  have g1:=PT (n:=l.length) (z:=[IV.int 0]) hD hi;have g2:=PS (n:=l.length) (z:=[IV.int 0]) (x:=[IV.int a]) hD hi;have hS:aG (l.take i)++[[IV.int a]]=aG (l.take (i+1)):=by rw[aO h3,RV]
  rw[hS]at g2;simp[TIX,hi,r2,w2,g1,g2]
theorem AFR {p:Pn} (h1:aH CT 22 [.i (.isl (Ex.aA p.exprs))] []=some (.osl 0 5 0 p.exprs.length,[some (kW Ex.cells 5 p.exprs)])) (h2:aH CT 8 [.i (.isl (aG p.cols))] []=some (.osl 0 1 0 p.cols.length,[some (.arr 1 (aG p.cols))])) (h3:aH CT 23 [.i (.isl (Pn.aA p.kids))] []=some (.osl 0 5 0 p.kids.length,[some (kW Pn.cells 5 p.kids)])) :
 aH CT 7 [.i (.agg p.cells)] []=some (tP p 0,tPB p):=by
 rw[aI rfl Try.func7 rfl rfl,Pn.aB];simp[h1,h2,h3,tP,tPB]
def TTP (l:List Pn) (i:Nat):AS :=
 { env:=[(0, .i (.isl (Pn.aA l))),(2, .nils),(3, .osl 0 5 0 l.length),(4, .int i),(11,jk i (.bool true))],st:=[some (sS Pn.cells 5 zpw l l.length i)] }
theorem iU (l:List Int):wH 1 0 l.length (some (.arr 1 (aG l)))=some (aG l):=by
 have:iA (aG l)=true:=by
  rw[sQ]
  induction l with
  | nil=>rfl
  | cons n l ih=>simp only[yT,iA,ih,Bool.and_true];rfl
 simp[wH,this]
theorem ABZ {l:List Pn} (hl:l.length<1000000000) (ih:∀ a∈l,aH CT 7 [.i (.agg a.cells)] []=some (tP a 0,tPB a)):aH CT 23 [.i (.isl (Pn.aA l))] []=some (.osl 0 5 0 l.length,[some (kW Pn.cells 5 l)]):=by
 rw[aI rfl Try.func23 rfl rfl];have hb:88*(l.length:Int)≤281474976710656:=by omega
 simp[hb];rw[aV (TTP l) l.length (by simp[TTP,sS,zpw])]
 ·rw[aF];simp[TTP,KZ]
 ·intro i hi;have h3:=zV hi;have hc:=ih _ (zT h3);have r2:=Pn.aJ h3;have hput:=KY (cells:=Pn.cells) (W:=5) (z:=zpw) (n:=l.length) h3 hi (by simp[zpw]) (by rw[Pn.aB];simp[zpw]) (by rw[Pn.aB];simp[uC,Y2]);generalize l[i]=a at h3 hc r2 hput;have w2:IntKind.i64.wrap ((i:Int)+1)=i+1:=wrO;have ha:=iU a.cols;rw[Pn.aB]at hc r2;simp only[Pn.aB,Ex.aU,Pn.aU]at hput;simp[TTP,hi,r2,hc,tP,tPB,w2,ha,hput]
theorem AFS:∀ (p:Pn),p.thin→aH CT 7 [.i (.agg p.cells)] []=some (tP p 0,tPB p):=by
 intro p
 induction p using Pn.ind with
 | h k t es cs ks ih =>
  intro ht;obtain⟨h1,h2,h3,h4,h5⟩:=(Pn.bL _).1 ht;exact AFR (AFQ es h1 h2) (AAJ cs h3) (ABZ h4 fun a ha=>ih a ha (h5 a ha))
end Go.Proofs.Ytjdfjgmebalaaaa.P
namespace Go.Av
end Go.Av
namespace Go.Proofs.Ytjdfjgmebalaaaa.P
open Go Go.Av Go.Av.Mk
set_option maxRecDepth 4000
set_option maxHeartbeats 1000000
end Go.Proofs.Ytjdfjgmebalaaaa.P
namespace Go.Av
open Go.Av.Mk
theorem eG:∀ l:List Int,iA (aG l)=true
 | []=>rfl
 | n::l=>by simp only[aG,iA,eG l,Bool.and_true];rfl
mutual
theorem Pn.AJK:∀ p:Pn,p.mz≤4*p.ms
 | .mk k t es cs ks=>by have:=Pn.VF ks;simp only[Pn.mz,Pn.ms];omega
theorem Pn.VF:∀ l:List Pn,Pn.mzL l≤4*Pn.msL l
 | []=>by simp[Pn.mzL]
 | p::l=>by have:=Pn.AJK p;have:=Pn.VF l;simp only[Pn.mzL,Pn.msL];omega
end
def Pn.mk4 (p:Pn):Nat:=4*Ex.aN p.exprs+(p.cols.length+Pn.mzL p.kids)
theorem Pn.VJ (p:Pn):p.mk4≤4*p.meas:=by
 have:=Pn.VF p.kids;unfold Pn.mk4 Pn.meas;omega
end Go.Av
namespace Go.Proofs.Ytjdfjgmebalaaaa.P
open Go Go.Av Go.Av.Mk
set_option maxRecDepth 4000
set_option maxHeartbeats 4000000
noncomputable def ACK:FuncId→Option (List AV→StL→Option (AV×StL))
 | 27=>none
 | 26=>none
 | 53=>some (MZ (aH C3) 53)
 | g=>if g=rH then none else some (aH C0 g)
def keepD:FuncId→Bool
 | 27=>true
 | 26=>true
 | g=>keepR g
noncomputable def CD:Ctx:={ P:=Try.prog,G:=GS,ownArgs:=fM,keepRes:=keepD,eqT:=G8,prim:=ACK,tree:=true }
@[simp] theorem ASA:CD.P=Try.prog:=(rfl)
@[simp] theorem ASB (f):CD.G f=GS f:=(rfl)
@[simp] theorem AS7 (f):CD.ownArgs f=fM f:=(rfl)
@[simp] theorem AS8 (f):CD.keepRes f=keepD f:=(rfl)
@[simp] theorem AS9 (f):CD.eqT f=G8 f:=(rfl)
@[simp] theorem AS6:CD.tree=true:=(rfl)
@[simp] theorem kD1:keepD 27=true:=(rfl)
@[simp] theorem kD2:keepD 26=true:=(rfl)
theorem AGU:PrimOk CD:=by
 have h0:=aZ eT;have h3:=aZ AGB
 have key:∀ g q,CD.prim g=some q→(g=53∧q=MZ (aH C3) g)∨(g≠rH∧q=aH C0 g):=by
  intro g q h;have h:ACK g=some q:=h;unfold ACK at h;split at h
  all_goals first
   | (cases h;done)
   | (injection h with h;exact .inl ⟨rfl,h.symm⟩)
   | (split at h
      ·cases h
      ·rename_i hy;injection h with h;exact .inr ⟨hy,h.symm⟩)
 constructor
 ·intro g args st p h;unfold dP at h
  cases hq:CD.prim g with
  | none=>rw[hq]at h;cases h
  | some q =>
   rw[hq]at h
   rcases key g q hq with ⟨rfl,rfl⟩|⟨hy,rfl⟩
   ·exact(BU h3 (r:=p.1) (stl':=p.2) h).1
   ·exact h0.name g args st p hy h
 ·intro g args st r st' h w m φ vs hi hr hb;unfold dP at h
  cases hq:CD.prim g with
  | none=>rw[hq]at h;cases h
  | some q =>
   rw[hq]at h
   rcases key g q hq with ⟨rfl,rfl⟩|⟨hy,rfl⟩
   ·exact(BU h3 h).2 w m φ vs hi hr hb
   ·exact h0.calls g args st r st' hy h w m φ vs hi hr hb
theorem AGA:SoundOk CD:=l7 (C:=CD) ft nt eqS mo AGU
@[simp] theorem AIY (a:List AV) (st:StL):aH CD 28 a st=aH C0 28 a st:=bG (C:=CD) rfl a st
@[simp] theorem AF7 (a:List AV) (st:StL):aH CD 51 a st=aH C0 51 a st:=bG (C:=CD) rfl a st
@[simp] theorem AF6 (a:List AV) (st:StL):aH CD 52 a st=aH C0 52 a st:=bG (C:=CD) rfl a st
theorem LP {es:List Ex} {i:Nat} {a:Ex} (ha:es[i]?=some a) (hs:a.size<1000000000):aH CD 53 [.ownE 0 5 i 0] [some (BJ es i)]=some (if a.kids=[]then .i (.agg a.cells)else tE a 1,if a.kids=[]then [some (BJ es i)]else [some (BJ es i),some (kW Ex.cells 5 a.kids)]):=by
 rw[bG (C:=CD) (p:=MZ (aH C3) 53) rfl];exact MX ha hs
def sc (q:Pn):AV:=.agg [.int q.kind, .int q.table, .nils, .nils, .nils]
theorem oI {p v:Pn} (hp:p.thin) {x:Bool} {n:Nat} {t:Int} (hn:n<1000000000000):aH CD 27 [.i (.iref p.cells), .own 0 0, .own 1 0, .own 2 0] (Fst x v n t) =
 some (.tup [sc (if p.eqb v=true then Pn.scan t else Pn.zero), .bool (p.eqb v)],Fst true v (n+if p.eqb v=true then 1 else 0) t):=by
 have he:=WR p hp v;have w2:IntKind.i64.wrap ((n:Int)+1)=n+1:=wrO;rw[aI rfl Try.func27 rfl rfl]
 cases hv:p.eqb v with
 | true =>
  rw[hv]at he;rw[Pn.aB p,Pn.aB v]at he
  cases x<;>(simp[Fst,vB,Pn.aB p,Pn.aB v,he,w2,Pn.scan,sc,Pn.bI,Pn.bM])
 | false =>
  rw[hv]at he;rw[Pn.aB p,Pn.aB v]at he
  cases x<;>(simp[Fst,vB,Pn.aB p,Pn.aB v,he,w2,Pn.zero,sc,Pn.bI,Pn.bM])
end Go.Proofs.Ytjdfjgmebalaaaa.P
namespace Go.Av
open Go.Av.Mk
def rqA (q:Pn) (j:Nat):AV :=
 .agg [.int q.kind, .int q.table,if q.exprs=[]then .nils else .osl j 5 0 q.exprs.length,if q.cols=[]then .nils else .osl (if q.exprs=[]then j else j+1) 1 0 q.cols.length,if q.kids=[]then .nils else .osl (if q.exprs=[]then(if q.cols=[]then j else j+1)else(if q.cols=[]then j+1 else j+2)) 5 0 q.kids.length]
def rqB (q:Pn):StL:=(if q.exprs=[]then []else [some (.tre 5 (Ex.aA q.exprs))])++((if q.cols=[]then []else [some (.arr 1 (aG q.cols))])++(if q.kids=[]then []else [some (.tre 5 (Pn.aA q.kids))]))
def ADL (k:Nat) (es:List (List IV)):Nat→StL
 | 0=>[]
 | _+1=>[some (.tre k es)]
@[simp] theorem AK9 (k:Nat) (es:List (List IV)):ADL k es 0=[]:=(rfl)
@[simp] theorem AK8 (k i:Nat) (es:List (List IV)):ADL k es (i+1)=[some (.tre k es)]:=(rfl)
theorem wQ {i:Nat} (h:i≠0) (k:Nat) (es:List (List IV)):ADL k es i=[some (.tre k es)]:=by cases i with|zero=>exact absurd rfl h|succ i=>rfl
theorem F5 (l:List Ex):(Ex.aA l).take l.length=Ex.aA l:=zX (by simp)
theorem EZ (l:List Int):(aG l).take l.length=aG l:=zX (by simp)
theorem EY (l:List Pn):(Pn.aA l).take l.length=Pn.aA l:=zX (by simp)
end Go.Av
namespace Go.Proofs.Ytjdfjgmebalaaaa.P
open Go Go.Av Go.Av.Mk
set_option maxRecDepth 4000
set_option maxHeartbeats 8000000
theorem U9 {p v:Pn} (hp:p.thin) {x:Bool} {n:Nat} {t:Int} (hn:n<1000000000000) (hh:p.eqb v=true):aH CD 26 [.i (.iref p.cells), .fn (.func 27) [.own 0 0, .own 1 0, .own 2 0]] (Fst x v n t)=some (rqA (Pn.scan t) 3,Fst true v (n+1) t++rqB (Pn.scan t)):=by
 have hf:=oI (x:=x) (t:=t) hp hn (v:=v);simp only[hh,if_true,Fst,sc,Pn.scan,Pn.bI,Pn.bM]at hf;rw[aI rfl Try.func26 rfl rfl];simp[Fst,hf,rqA,rqB,Pn.scan,Pn.bI,Pn.bM,Pn.bA,Pn.bU,Pn.dE]
def AI0 (p v:Pn) (n:Nat) (t:Int) (i:Nat):AS :=
 { env:=[(0, .i (.iref [.int p.kind, .int p.table, .isl (Ex.aA p.exprs), .isl (aG p.cols), .isl (Pn.aA p.kids)])),(1, .fn (.func 27) [.own 0 0, .own 1 0, .own 2 0]),(4, .own 3 0),(5, .own 4 0),(6, .bool false),(7, .own 5 0),(8,jk i (.int (i-1))),(9, .junk),(16, .bool false),(39, .int p.exprs.length),(40, .int i),(41,jk i (.bool true)),(57, .junk),(58, .junk),(59, .junk)],
   st:=vB true v::some (.box [.int n])::some (.box [.int t])::some (.box [.int 0, .int 0, .nils, .nils, .nils])::some (.box [.int 0, .int 0, .nils, .nils, .nils])::some (.box [.int p.kind, .int p.table, .osl 6 5 0 p.exprs.length, .osl 7 1 0 p.cols.length, .nils])::some (BJ p.exprs i)::some (.arr 1 (aG p.cols))::[] }
def AFG (p v:Pn) (n:Nat) (t:Int) (i:Nat):AS :=
 { env:=[(0, .i (.iref [.int p.kind, .int p.table, .isl (Ex.aA p.exprs), .isl (aG p.cols), .isl (Pn.aA p.kids)])),(1, .fn (.func 27) [.own 0 0, .own 1 0, .own 2 0]),(4, .own 3 0),(5, .own 4 0),(6, .bool false),(7, .own 5 0),(8, .int (p.exprs.length-1)),(9,jk i (.int (i-1))),(16, .bool false),(39, .int p.exprs.length),(40, .int p.exprs.length),(41, .bool false),(57, .int p.kids.length),(58, .int i),(59,jk i (.bool true))],
   st:=vB true v::some (.box [.int ((n+bK v (p.kids.take i):Nat):Int)])::some (.box [.int t])::some (.box [.int 0, .int 0, .nils, .nils, .nils])::some (.box [.int 0, .int 0, .nils, .nils, .nils])::some (.box [.int p.kind, .int p.table, .osl 6 5 0 p.exprs.length, .osl 7 1 0 p.cols.length,gro 8 5 i])::some (.tre 5 (Ex.aA p.exprs))::some (.arr 1 (aG p.cols))::(ADL 5 (Pn.aA (bS v t (p.kids.take i))) i) }
theorem JC {p v:Pn} (hp:p.thin) (hq:∀ e∈p.exprs,e.size<1000000000) (he:p.exprs≠[]) (hc:p.cols≠[]) {x:Bool} {n:Nat} {t:Int} (hn:n+bK v p.kids<1000000000000) (hh:p.eqb v=false)
 (ih:∀ a∈p.kids,∀ m:Nat,m+kE v a<1000000000000→aH CD 26 [.i (.iref a.cells), .fn (.func 27) [.own 0 0, .own 1 0, .own 2 0]] (Fst true v m t)=some (rqA (dF v t a) 3,Fst true v (m+kE v a) t++rqB (dF v t a))) :
 aH CD 26 [.i (.iref p.cells), .fn (.func 27) [.own 0 0, .own 1 0, .own 2 0]] (Fst x v n t)=some (rqA (dF v t p) 3,Fst true v (n+kE v p) t++rqB (dF v t p)):=by
 have hf:=oI (x:=x) (t:=t) hp (show n<1000000000000 by omega) (v:=v);simp only[hh,if_false,Fst,yO,sc,Pn.zero,Pn.bI,Pn.bM,yL]at hf;obtain⟨t1,t2,t3,t4,-⟩:=(Pn.bL _).1 hp;rw[Pn.aB]at hf;have hE:=DU he t1;have hel:p.exprs.length≠0:=fun h=>he (zY.1 h)
 have hI:=DT hc t3;have hcl:p.cols.length≠0:=fun h=>hc (zY.1 h)
 rw[aI rfl Try.func26 rfl rfl,gY hh,gN hh,Pn.aB];simp[Fst,hf,hE,hI];rw[aV (AI0 p v n t) p.exprs.length (by simp[AI0,BJ])]
 ·rw[aF];have hend:=P7 he;simp[AI0,hend];rw[aV (AFG p v n t) p.kids.length (by simp[AFG,bK,dI hel])]
  ·rw[aF]
   cases hm:p.kids.length with
   | zero =>
    have hk:p.kids=[]:=zY.1 hm;simp[AFG,rqA,rqB,Pn.bI,Pn.bM,Pn.bA,Pn.bU,Pn.dE,hk,bS,bK,he,hc]
   | succ m =>
    have hk:p.kids.take (m+1)=p.kids:=zX (by omega);have hk1:(bS v t p.kids).length=m+1:=by simp[hm]
    have hk3:bS v t p.kids≠[]:=fun h=>by rw[h]at hk1;simp at hk1
    simp[AFG,rqA,rqB,Pn.bI,Pn.bM,Pn.bA,Pn.bU,Pn.dE,hm,hk,hk1,hk3,he,hc]
  ·intro i hi;have h3:=zV hi;have hm:=zT h3;have r2:=Pn.aJ h3;have htk:=aO h3;generalize p.kids[i]=a at h3 hm r2 htk
   have hle:bK v (p.kids.take i)+kE v a≤bK v p.kids:=by
    rw[← dH,← htk];exact kJ v _ _
   have hk:=ih a hm (n+bK v (p.kids.take i)) (by omega);have w2:IntKind.i64.wrap ((i:Int)+1)=i+1:=wrO;have hfs:=kR v t (p.kids.take i) a;have hcs:=dH v (p.kids.take i) a;have hft:(bS v t (p.kids.take i)).length=i:=by simp;omega
   rw[Pn.aB a]at r2 hk;simp only[Fst]at hk;generalize dF v t a=q at hk hfs;generalize hGL:bS v t (p.kids.take i)=FL at hfs hft;have hl1:(i+1)*88≤140737488355328:=by omega
   have b1:=F5 q.exprs;have b2:=EZ q.cols;have b3:=EY q.kids;have b4:=eG q.cols;have b5:(Pn.aA FL).take i=Pn.aA FL:=zX (by simp;omega);have hrow:Pn.aA (FL++[q])=Pn.aA FL++[[.int q.kind, .int q.table, .isl (Ex.aA q.exprs), .isl (aG q.cols), .isl (Pn.aA q.kids)]]:=by rw[Pn.aX,Pn.aB q]
   have z1:Ex.aA []=[]:=rfl;have z2:aG []=[]:=rfl;have z3:Pn.aA []=[]:=rfl;by_cases h0:i=0
   ·subst h0;have hFL:FL=[]:=zY.1 hft;subst hFL;simp only[xW,bK,yL,xU,zO,zD,z3]at hk hcs hrow hfs htk
    by_cases q1:q.exprs=[]<;>by_cases q2:q.cols=[]<;>by_cases q3:q.kids=[] <;>
     (simp only[rqA,rqB,q1,q2,q3,if_true,if_false,zD,zG,zC,z1,z2,z3]at hk hrow b1 b2 b3 b4
      simp[AFG,hi,r2,hk,bZ,htk,hfs,hcs,hrow,b1,b2,b3,b4,bK,dI hel])
   ·have hi0:0<i:=by omega
    simp only[xU]at hk
    by_cases q1:q.exprs=[]<;>by_cases q2:q.cols=[]<;>by_cases q3:q.kids=[] <;>
     (simp only[rqA,rqB,q1,q2,q3,if_true,if_false,zD,zG,zC,z1,z2,z3]at hk hrow b1 b2 b3 b4
      simp[AFG,aP h0,wQ h0,dI h0,hi,hi0,r2,hk,w2,htk,hGL,hfs,hcs,hrow,b1,b2,b3,b4,b5,hft,hl1,h0,Int.add_assoc])
 ·intro i hi;have h3:=zV hi;have hs:=hq _ (zT h3);generalize p.exprs[i]=a at h3 hs;have hk:=LP h3 hs;have hput:=P5 h3;have w2:IntKind.i64.wrap ((i:Int)+1)=i+1:=wrO;by_cases hkk:a.kids=[]
  ·simp only[hkk,if_true,Ex.aB,Ex.aA]at hk hput;simp[AI0,hi,hk,w2,hput]
  ·simp only[hkk,if_false,tE]at hk;simp only[Ex.aB,Ex.aU]at hput;simp[AI0,hi,hk,w2,hput]
def AI1 (p v:Pn) (n:Nat) (t:Int) (i:Nat):AS :=
 { env:=[(0, .i (.iref [.int p.kind, .int p.table, .isl (Ex.aA p.exprs), .isl (aG p.cols), .isl (Pn.aA p.kids)])),(1, .fn (.func 27) [.own 0 0, .own 1 0, .own 2 0]),(4, .own 3 0),(5, .own 4 0),(6, .bool false),(7, .own 5 0),(8,jk i (.int (i-1))),(9, .junk),(16, .bool false),(39, .int p.exprs.length),(40, .int i),(41,jk i (.bool true)),(57, .junk),(58, .junk),(59, .junk)],
   st:=vB true v::some (.box [.int n])::some (.box [.int t])::some (.box [.int 0, .int 0, .nils, .nils, .nils])::some (.box [.int 0, .int 0, .nils, .nils, .nils])::some (.box [.int p.kind, .int p.table, .osl 6 5 0 p.exprs.length, .nils, .nils])::some (BJ p.exprs i)::[] }
def AFH (p v:Pn) (n:Nat) (t:Int) (i:Nat):AS :=
 { env:=[(0, .i (.iref [.int p.kind, .int p.table, .isl (Ex.aA p.exprs), .isl (aG p.cols), .isl (Pn.aA p.kids)])),(1, .fn (.func 27) [.own 0 0, .own 1 0, .own 2 0]),(4, .own 3 0),(5, .own 4 0),(6, .bool false),(7, .own 5 0),(8, .int (p.exprs.length-1)),(9,jk i (.int (i-1))),(16, .bool false),(39, .int p.exprs.length),(40, .int p.exprs.length),(41, .bool false),(57, .int p.kids.length),(58, .int i),(59,jk i (.bool true))],
   st:=vB true v::some (.box [.int ((n+bK v (p.kids.take i):Nat):Int)])::some (.box [.int t])::some (.box [.int 0, .int 0, .nils, .nils, .nils])::some (.box [.int 0, .int 0, .nils, .nils, .nils])::some (.box [.int p.kind, .int p.table, .osl 6 5 0 p.exprs.length, .nils,gro 7 5 i])::some (.tre 5 (Ex.aA p.exprs))::(ADL 5 (Pn.aA (bS v t (p.kids.take i))) i) }
theorem JD {p v:Pn} (hp:p.thin) (hq:∀ e∈p.exprs,e.size<1000000000) (he:p.exprs≠[]) (hc:p.cols=[]) {x:Bool} {n:Nat} {t:Int} (hn:n+bK v p.kids<1000000000000) (hh:p.eqb v=false)
 (ih:∀ a∈p.kids,∀ m:Nat,m+kE v a<1000000000000→aH CD 26 [.i (.iref a.cells), .fn (.func 27) [.own 0 0, .own 1 0, .own 2 0]] (Fst true v m t)=some (rqA (dF v t a) 3,Fst true v (m+kE v a) t++rqB (dF v t a))) :
 aH CD 26 [.i (.iref p.cells), .fn (.func 27) [.own 0 0, .own 1 0, .own 2 0]] (Fst x v n t)=some (rqA (dF v t p) 3,Fst true v (n+kE v p) t++rqB (dF v t p)):=by
 have hf:=oI (x:=x) (t:=t) hp (show n<1000000000000 by omega) (v:=v);simp only[hh,if_false,Fst,yO,sc,Pn.zero,Pn.bI,Pn.bM,yL]at hf;obtain⟨t1,t2,t3,t4,-⟩:=(Pn.bL _).1 hp;rw[Pn.aB]at hf;have hE:=DU he t1;have hel:p.exprs.length≠0:=fun h=>he (zY.1 h)
 have hI:=vW;rw[aI rfl Try.func26 rfl rfl,gY hh,gN hh,Pn.aB];simp only[hc,aG]at hf;simp[Fst,hf,hE,hI,hc,aG];rw[aV (AI1 p v n t) p.exprs.length (by simp[AI1,BJ,hc,aG])]
 ·rw[aF];have hend:=P7 he;simp[AI1,hend,hc,aG];rw[aV (AFH p v n t) p.kids.length (by simp[AFH,bK,dI hel,hc,aG])]
  ·rw[aF]
   cases hm:p.kids.length with
   | zero =>
    have hk:p.kids=[]:=zY.1 hm;simp[AFH,rqA,rqB,Pn.bI,Pn.bM,Pn.bA,Pn.bU,Pn.dE,hk,bS,bK,he,hc]
   | succ m =>
    have hk:p.kids.take (m+1)=p.kids:=zX (by omega);have hk1:(bS v t p.kids).length=m+1:=by simp[hm]
    have hk3:bS v t p.kids≠[]:=fun h=>by rw[h]at hk1;simp at hk1
    simp[AFH,rqA,rqB,Pn.bI,Pn.bM,Pn.bA,Pn.bU,Pn.dE,hm,hk,hk1,hk3,he,hc,hc,aG]
  ·intro i hi;have h3:=zV hi;have hm:=zT h3;have r2:=Pn.aJ h3;have htk:=aO h3;generalize p.kids[i]=a at h3 hm r2 htk
   have hle:bK v (p.kids.take i)+kE v a≤bK v p.kids:=by
    rw[← dH,← htk];exact kJ v _ _
   have hk:=ih a hm (n+bK v (p.kids.take i)) (by omega);have w2:IntKind.i64.wrap ((i:Int)+1)=i+1:=wrO;have hfs:=kR v t (p.kids.take i) a;have hcs:=dH v (p.kids.take i) a;have hft:(bS v t (p.kids.take i)).length=i:=by simp;omega
   rw[Pn.aB a]at r2 hk;simp only[Fst]at hk;generalize dF v t a=q at hk hfs;generalize hGL:bS v t (p.kids.take i)=FL at hfs hft;have hl1:(i+1)*88≤140737488355328:=by omega
   have b1:=F5 q.exprs;have b2:=EZ q.cols;have b3:=EY q.kids;have b4:=eG q.cols;have b5:(Pn.aA FL).take i=Pn.aA FL:=zX (by simp;omega);have hrow:Pn.aA (FL++[q])=Pn.aA FL++[[.int q.kind, .int q.table, .isl (Ex.aA q.exprs), .isl (aG q.cols), .isl (Pn.aA q.kids)]]:=by rw[Pn.aX,Pn.aB q]
   have z1:Ex.aA []=[]:=rfl;have z2:aG []=[]:=rfl;have z3:Pn.aA []=[]:=rfl;by_cases h0:i=0
   ·subst h0;have hFL:FL=[]:=zY.1 hft;subst hFL;simp only[xW,bK,yL,xU,zO,zD,z3]at hk hcs hrow hfs htk
    by_cases q1:q.exprs=[]<;>by_cases q2:q.cols=[]<;>by_cases q3:q.kids=[] <;>
     (simp only[rqA,rqB,q1,q2,q3,if_true,if_false,zD,zG,zC,z1,z2,z3]at hk hrow b1 b2 b3 b4
      simp[AFH,hi,r2,hk,bZ,htk,hfs,hcs,hrow,b1,b2,b3,b4,bK,dI hel,hc,aG])
   ·have hi0:0<i:=by omega
    simp only[xU]at hk
    by_cases q1:q.exprs=[]<;>by_cases q2:q.cols=[]<;>by_cases q3:q.kids=[] <;>
     (simp only[rqA,rqB,q1,q2,q3,if_true,if_false,zD,zG,zC,z1,z2,z3]at hk hrow b1 b2 b3 b4
      simp[AFH,aP h0,wQ h0,dI h0,hi,hi0,r2,hk,w2,htk,hGL,hfs,hcs,hrow,b1,b2,b3,b4,b5,hft,hl1,h0,Int.add_assoc,hc,aG])
 ·intro i hi;have h3:=zV hi;have hs:=hq _ (zT h3);generalize p.exprs[i]=a at h3 hs;have hk:=LP h3 hs;have hput:=P5 h3;have w2:IntKind.i64.wrap ((i:Int)+1)=i+1:=wrO;by_cases hkk:a.kids=[]
  ·simp only[hkk,if_true,Ex.aB,Ex.aA]at hk hput;simp[AI1,hi,hk,w2,hput,hc,aG]
  ·simp only[hkk,if_false,tE]at hk;simp only[Ex.aB,Ex.aU]at hput;simp[AI1,hi,hk,w2,hput,hc,aG]
def AFI (p v:Pn) (n:Nat) (t:Int) (i:Nat):AS :=
 { env:=[(0, .i (.iref [.int p.kind, .int p.table, .isl (Ex.aA p.exprs), .isl (aG p.cols), .isl (Pn.aA p.kids)])),(1, .fn (.func 27) [.own 0 0, .own 1 0, .own 2 0]),(4, .own 3 0),(5, .own 4 0),(6, .bool false),(7, .own 5 0),(8, .junk),(9,jk i (.int (i-1))),(16, .bool false),(39, .int p.exprs.length),(40, .int p.exprs.length),(41, .bool false),(57, .int p.kids.length),(58, .int i),(59,jk i (.bool true))],
   st:=vB true v::some (.box [.int ((n+bK v (p.kids.take i):Nat):Int)])::some (.box [.int t])::some (.box [.int 0, .int 0, .nils, .nils, .nils])::some (.box [.int 0, .int 0, .nils, .nils, .nils])::some (.box [.int p.kind, .int p.table, .nils, .osl 6 1 0 p.cols.length,gro 7 5 i])::some (.arr 1 (aG p.cols))::(ADL 5 (Pn.aA (bS v t (p.kids.take i))) i) }
theorem JE {p v:Pn} (hp:p.thin) (hq:∀ e∈p.exprs,e.size<1000000000) (he:p.exprs=[]) (hc:p.cols≠[]) {x:Bool} {n:Nat} {t:Int} (hn:n+bK v p.kids<1000000000000) (hh:p.eqb v=false)
 (ih:∀ a∈p.kids,∀ m:Nat,m+kE v a<1000000000000→aH CD 26 [.i (.iref a.cells), .fn (.func 27) [.own 0 0, .own 1 0, .own 2 0]] (Fst true v m t)=some (rqA (dF v t a) 3,Fst true v (m+kE v a) t++rqB (dF v t a))) :
 aH CD 26 [.i (.iref p.cells), .fn (.func 27) [.own 0 0, .own 1 0, .own 2 0]] (Fst x v n t)=some (rqA (dF v t p) 3,Fst true v (n+kE v p) t++rqB (dF v t p)):=by
 have hf:=oI (x:=x) (t:=t) hp (show n<1000000000000 by omega) (v:=v);simp only[hh,if_false,Fst,yO,sc,Pn.zero,Pn.bI,Pn.bM,yL]at hf;obtain⟨t1,t2,t3,t4,-⟩:=(Pn.bL _).1 hp;rw[Pn.aB]at hf;have hE:=vX;have hI:=DT hc t3;have hcl:p.cols.length≠0:=fun h=>hc (zY.1 h)
 rw[aI rfl Try.func26 rfl rfl,gY hh,gN hh,Pn.aB];simp only[he,Ex.aA]at hf;simp[Fst,hf,hE,hI,he,Ex.aA];rw[aF];simp;rw[aV (AFI p v n t) p.kids.length (by simp[AFI,bK,he,Ex.aA])]
 ·rw[aF]
  cases hm:p.kids.length with
  | zero =>
   have hk:p.kids=[]:=zY.1 hm;simp[AFI,rqA,rqB,Pn.bI,Pn.bM,Pn.bA,Pn.bU,Pn.dE,hk,bS,bK,he,hc]
  | succ m =>
   have hk:p.kids.take (m+1)=p.kids:=zX (by omega);have hk1:(bS v t p.kids).length=m+1:=by simp[hm]
   have hk3:bS v t p.kids≠[]:=fun h=>by rw[h]at hk1;simp at hk1
   simp[AFI,rqA,rqB,Pn.bI,Pn.bM,Pn.bA,Pn.bU,Pn.dE,hm,hk,hk1,hk3,he,hc,he,Ex.aA]
 ·intro i hi;have h3:=zV hi;have hm:=zT h3;have r2:=Pn.aJ h3;have htk:=aO h3;generalize p.kids[i]=a at h3 hm r2 htk
  have hle:bK v (p.kids.take i)+kE v a≤bK v p.kids:=by
   rw[← dH,← htk];exact kJ v _ _
  have hk:=ih a hm (n+bK v (p.kids.take i)) (by omega);have w2:IntKind.i64.wrap ((i:Int)+1)=i+1:=wrO;have hfs:=kR v t (p.kids.take i) a;have hcs:=dH v (p.kids.take i) a;have hft:(bS v t (p.kids.take i)).length=i:=by simp;omega
  rw[Pn.aB a]at r2 hk;simp only[Fst]at hk;generalize dF v t a=q at hk hfs;generalize hGL:bS v t (p.kids.take i)=FL at hfs hft;have hl1:(i+1)*88≤140737488355328:=by omega
  have b1:=F5 q.exprs;have b2:=EZ q.cols;have b3:=EY q.kids;have b4:=eG q.cols;have b5:(Pn.aA FL).take i=Pn.aA FL:=zX (by simp;omega);have hrow:Pn.aA (FL++[q])=Pn.aA FL++[[.int q.kind, .int q.table, .isl (Ex.aA q.exprs), .isl (aG q.cols), .isl (Pn.aA q.kids)]]:=by rw[Pn.aX,Pn.aB q]
  have z1:Ex.aA []=[]:=rfl;have z2:aG []=[]:=rfl;have z3:Pn.aA []=[]:=rfl;by_cases h0:i=0
  ·subst h0;have hFL:FL=[]:=zY.1 hft;subst hFL;simp only[xW,bK,yL,xU,zO,zD,z3]at hk hcs hrow hfs htk
   by_cases q1:q.exprs=[]<;>by_cases q2:q.cols=[]<;>by_cases q3:q.kids=[] <;>
    (simp only[rqA,rqB,q1,q2,q3,if_true,if_false,zD,zG,zC,z1,z2,z3]at hk hrow b1 b2 b3 b4
     simp[AFI,hi,r2,hk,bZ,htk,hfs,hcs,hrow,b1,b2,b3,b4,bK,he,Ex.aA])
  ·have hi0:0<i:=by omega
   simp only[xU]at hk
   by_cases q1:q.exprs=[]<;>by_cases q2:q.cols=[]<;>by_cases q3:q.kids=[] <;>
    (simp only[rqA,rqB,q1,q2,q3,if_true,if_false,zD,zG,zC,z1,z2,z3]at hk hrow b1 b2 b3 b4
     simp[AFI,aP h0,wQ h0,dI h0,hi,hi0,r2,hk,w2,htk,hGL,hfs,hcs,hrow,b1,b2,b3,b4,b5,hft,hl1,h0,Int.add_assoc,he,Ex.aA])
def AFJ (p v:Pn) (n:Nat) (t:Int) (i:Nat):AS :=
 { env:=[(0, .i (.iref [.int p.kind, .int p.table, .isl (Ex.aA p.exprs), .isl (aG p.cols), .isl (Pn.aA p.kids)])),(1, .fn (.func 27) [.own 0 0, .own 1 0, .own 2 0]),(4, .own 3 0),(5, .own 4 0),(6, .bool false),(7, .own 5 0),(8, .junk),(9,jk i (.int (i-1))),(16, .bool false),(39, .int p.exprs.length),(40, .int p.exprs.length),(41, .bool false),(57, .int p.kids.length),(58, .int i),(59,jk i (.bool true))],
   st:=vB true v::some (.box [.int ((n+bK v (p.kids.take i):Nat):Int)])::some (.box [.int t])::some (.box [.int 0, .int 0, .nils, .nils, .nils])::some (.box [.int 0, .int 0, .nils, .nils, .nils])::some (.box [.int p.kind, .int p.table, .nils, .nils,gro 6 5 i])::(ADL 5 (Pn.aA (bS v t (p.kids.take i))) i) }
theorem JF {p v:Pn} (hp:p.thin) (hq:∀ e∈p.exprs,e.size<1000000000) (he:p.exprs=[]) (hc:p.cols=[]) {x:Bool} {n:Nat} {t:Int} (hn:n+bK v p.kids<1000000000000) (hh:p.eqb v=false)
 (ih:∀ a∈p.kids,∀ m:Nat,m+kE v a<1000000000000→aH CD 26 [.i (.iref a.cells), .fn (.func 27) [.own 0 0, .own 1 0, .own 2 0]] (Fst true v m t)=some (rqA (dF v t a) 3,Fst true v (m+kE v a) t++rqB (dF v t a))) :
 aH CD 26 [.i (.iref p.cells), .fn (.func 27) [.own 0 0, .own 1 0, .own 2 0]] (Fst x v n t)=some (rqA (dF v t p) 3,Fst true v (n+kE v p) t++rqB (dF v t p)):=by
 have hf:=oI (x:=x) (t:=t) hp (show n<1000000000000 by omega) (v:=v);simp only[hh,if_false,Fst,yO,sc,Pn.zero,Pn.bI,Pn.bM,yL]at hf;obtain⟨t1,t2,t3,t4,-⟩:=(Pn.bL _).1 hp;rw[Pn.aB]at hf;have hE:=vX;have hI:=vW;rw[aI rfl Try.func26 rfl rfl,gY hh,gN hh,Pn.aB];simp only[he,Ex.aA,hc,aG]at hf;simp[Fst,hf,hE,hI,he,Ex.aA,hc,aG];rw[aF];simp;rw[aV (AFJ p v n t) p.kids.length (by simp[AFJ,bK,he,Ex.aA,hc,aG])]
 ·rw[aF]
  cases hm:p.kids.length with
  | zero =>
   have hk:p.kids=[]:=zY.1 hm;simp[AFJ,rqA,rqB,Pn.bI,Pn.bM,Pn.bA,Pn.bU,Pn.dE,hk,bS,bK,he,hc]
  | succ m =>
   have hk:p.kids.take (m+1)=p.kids:=zX (by omega);have hk1:(bS v t p.kids).length=m+1:=by simp[hm]
   have hk3:bS v t p.kids≠[]:=fun h=>by rw[h]at hk1;simp at hk1
   simp[AFJ,rqA,rqB,Pn.bI,Pn.bM,Pn.bA,Pn.bU,Pn.dE,hm,hk,hk1,hk3,he,hc,he,Ex.aA,hc,aG]
 ·intro i hi;have h3:=zV hi;have hm:=zT h3;have r2:=Pn.aJ h3;have htk:=aO h3;generalize p.kids[i]=a at h3 hm r2 htk
  have hle:bK v (p.kids.take i)+kE v a≤bK v p.kids:=by
   rw[← dH,← htk];exact kJ v _ _
  have hk:=ih a hm (n+bK v (p.kids.take i)) (by omega);have w2:IntKind.i64.wrap ((i:Int)+1)=i+1:=wrO;have hfs:=kR v t (p.kids.take i) a;have hcs:=dH v (p.kids.take i) a;have hft:(bS v t (p.kids.take i)).length=i:=by simp;omega
  rw[Pn.aB a]at r2 hk;simp only[Fst]at hk;generalize dF v t a=q at hk hfs;generalize hGL:bS v t (p.kids.take i)=FL at hfs hft;have hl1:(i+1)*88≤140737488355328:=by omega
  have b1:=F5 q.exprs;have b2:=EZ q.cols;have b3:=EY q.kids;have b4:=eG q.cols;have b5:(Pn.aA FL).take i=Pn.aA FL:=zX (by simp;omega);have hrow:Pn.aA (FL++[q])=Pn.aA FL++[[.int q.kind, .int q.table, .isl (Ex.aA q.exprs), .isl (aG q.cols), .isl (Pn.aA q.kids)]]:=by rw[Pn.aX,Pn.aB q]
  have z1:Ex.aA []=[]:=rfl;have z2:aG []=[]:=rfl;have z3:Pn.aA []=[]:=rfl;by_cases h0:i=0
  ·subst h0;have hFL:FL=[]:=zY.1 hft;subst hFL;simp only[xW,bK,yL,xU,zO,zD,z3]at hk hcs hrow hfs htk
   by_cases q1:q.exprs=[]<;>by_cases q2:q.cols=[]<;>by_cases q3:q.kids=[] <;>
    (simp only[rqA,rqB,q1,q2,q3,if_true,if_false,zD,zG,zC,z1,z2,z3]at hk hrow b1 b2 b3 b4
     simp[AFJ,hi,r2,hk,bZ,htk,hfs,hcs,hrow,b1,b2,b3,b4,bK,he,Ex.aA,hc,aG])
  ·have hi0:0<i:=by omega
   simp only[xU]at hk
   by_cases q1:q.exprs=[]<;>by_cases q2:q.cols=[]<;>by_cases q3:q.kids=[] <;>
    (simp only[rqA,rqB,q1,q2,q3,if_true,if_false,zD,zG,zC,z1,z2,z3]at hk hrow b1 b2 b3 b4
     simp[AFJ,aP h0,wQ h0,dI h0,hi,hi0,r2,hk,w2,htk,hGL,hfs,hcs,hrow,b1,b2,b3,b4,b5,hft,hl1,h0,Int.add_assoc,he,Ex.aA,hc,aG])
theorem YD {v:Pn} {t:Int}:∀ (p:Pn),p.thin→p.tiny→∀ (x:Bool) (n:Nat),n+kE v p<1000000000000→aH CD 26 [.i (.iref p.cells), .fn (.func 27) [.own 0 0, .own 1 0, .own 2 0]] (Fst x v n t)=some (rqA (dF v t p) 3,Fst true v (n+kE v p) t++rqB (dF v t p)):=by
 intro p
 induction p using Pn.ind with
 | h k tb es cs ks ih =>
  intro ht hy x n hn
  cases hh:Pn.eqb (.mk k tb es cs ks) v with
  | true =>
   rw[CV hh,IY hh]at *
   exact U9 ht (by omega) hh
  | false =>
   have ih':∀ a∈ks,∀ m:Nat,m+kE v a<1000000000000→_:=fun a ha m hm=>ih a ha (((Pn.bL _).1 ht).2.2.2.2 a ha) (((Pn.rU _).1 hy).2 a ha) true m hm
   have hq:∀ e∈es,e.size<1000000000:=((Pn.rU _).1 hy).1;have hn':=hn;rw[gN hh]at hn';by_cases he:es=[]
   ·by_cases hc:cs=[]
    ·exact JF ht hq he hc hn' hh ih'
    ·exact JE ht hq he hc hn' hh ih'
   ·by_cases hc:cs=[]
    ·exact JD ht hq he hc hn' hh ih'
    ·exact JC ht hq he hc hn' hh ih'
end Go.Proofs.Ytjdfjgmebalaaaa.P
namespace Go.Proofs.Ytjdfjgmebalaaaa.P
open Go Go.Av
set_option maxRecDepth 4000
set_option maxHeartbeats 4000000
theorem ZJ {α:Type} {D R:List α} {y x:α} {i:Nat} (hD:D.length=i):(D++y::R).set i x=D++x::R:=by
 subst hD;simp
theorem LD {α:Type} {l:List α} {i:Nat} {a:α} (h:l[i]?=some a):l.drop i=a::l.drop (i+1):=by
 obtain⟨hl,rfl⟩:=zZ.1 h;exact yD hl
def VL (v:Pn) (t:Int) (l:List Pn) (i:Nat):List (List IV):=Pn.aA (bS v t (l.take i)++l.drop i)
theorem KM (v:Pn) (t:Int) (l:List Pn):VL v t l 0=Pn.aA l:=by simp[VL,bS]
theorem OW (v:Pn) (t:Int) (l:List Pn):VL v t l l.length=Pn.aA (bS v t l):=by simp[VL]
theorem OU {v:Pn} {t:Int} {l:List Pn} {i:Nat} {a:Pn} (h:l[i]?=some a):(VL v t l i).set i (dF v t a).cells=VL v t l (i+1):=by
 have hl:=(zZ.1 h).1;unfold VL;rw[LD h,aO h,kR,Pn.iO,yX,Pn.iO];simp only[Pn.aA,zC,zD];exact ZJ (by simp;omega)
theorem OV {v:Pn} {t:Int} {l:List Pn} {i:Nat} {a:Pn} (h:l[i]?=some a):gB (VL v t l i) i=some a.cells:=by
 have hl:=(zZ.1 h).1;unfold VL;apply Pn.aJ;rw[yQ (by simp;omega),LD h];simp;rw[show i-min i l.length=0 by omega];rfl
theorem UV {p v:Pn} (hp:p.thin) {t:Int} (hh:p.eqb v=true):aH C0 21 [.i (.agg p.cells), .i (.agg v.cells), .int t] []=some (.tup [.i (.agg (Pn.scan t).cells), .int 1],[]):=by
 have hq:=oW p hp v;rw[hh]at hq;rw[aI rfl Try.func21 rfl rfl];rw[Pn.aB p,Pn.aB v]at *
 simp[hq,Pn.scan,Pn.cells,Ex.aA,aG,Pn.aA]
def EI (p:Pn) (i:Nat):Pn:=(p.kids[i]?).getD Pn.zero
def SY1 (p v:Pn) (t:Int) (i:Nat):AS :=
 { env:=[(0, .i (.agg [.int p.kind, .int p.table, .isl (Ex.aA p.exprs), .isl (aG p.cols), .isl (Pn.aA p.kids)])),(1, .i (.agg [.int v.kind, .int v.table, .isl (Ex.aA v.exprs), .isl (aG v.cols), .isl (Pn.aA v.kids)])),(2, .int t),(3, .own 0 0),(4, .own 1 0),(6, .own 2 0),(7, .int 0),(8, .own 3 0),(9, .int (bK v (p.kids.take i):Nat)),(10, .int i),(11,if i=0 then .junk else .own 7 0),(12,jk i (.int (kE v (EI p (i-1)):Nat))),(15, .bool false),(24,jk i (.bool true))],
   st:=some (.box [.int p.kind, .int p.table, .i (.isl (Ex.aA p.exprs)), .i (.isl (aG p.cols)), .i (.isl (Pn.aA p.kids))])::some (.box [.int v.kind, .int v.table, .i (.isl (Ex.aA v.exprs)), .i (.isl (aG v.cols)), .i (.isl (Pn.aA v.kids))])::some (.box [.int 0, .int 0, .nils, .nils, .nils])::some (.box [.int p.kind, .int p.table, .osl 4 5 0 p.exprs.length, .osl 5 1 0 p.cols.length, .osl 6 5 0 p.kids.length])::some (.arr 5 (Ex.aA p.exprs))::some (.arr 1 (aG p.cols))::some (.arr 5 (VL v t p.kids i))::(if i=0 then []else [some (.box (jE (dF v t (EI p (i-1))).cells))]) }
theorem MK {p v:Pn} (hp:p.thin) (he:p.exprs≠[]) (hk:p.kids≠[]) {t:Int} (hn:bK v p.kids<1000000000000) (hh:p.eqb v=false)
 (ih:∀ a∈p.kids,kE v a<1000000000000→aH C0 21 [.i (.agg a.cells), .i (.agg v.cells), .int t] []=some (.tup [.i (.agg (dF v t a).cells), .int (kE v a:Nat)],[])) :
 aH C0 21 [.i (.agg p.cells), .i (.agg v.cells), .int t] []=some (.tup [.i (.agg (dF v t p).cells), .int (kE v p:Nat)],[]):=by
 have hq:=oW p hp v;rw[hh]at hq;have hc:=qZ p hp;obtain⟨t1,t2,t3,t4,-⟩:=(Pn.bL _).1 hp;have hkl:p.kids.length≠0:=fun h=>hk (zY.1 h)
 have hel:p.exprs.length≠0:=fun h=>he (zY.1 h)
 simp[pcX,pcS,aP hkl,aL hkl,aP hel,aL hel,he]at hc;rw[aI rfl Try.func21 rfl rfl,gY hh,gN hh,Pn.dB];rw[Pn.aB p]at hq hc ⊢;rw[Pn.aB v]at hq ⊢;simp[hq,hc,hk];rw[aV (SY1 p v t) p.kids.length (by simp[SY1,bK,KM])]
 ·rw[aF];have hk2:(bS v t p.kids).take p.kids.length=bS v t p.kids:=zX (by simp);simp[SY1,hkl,OW,hk2]
 ·intro i hi;have h3:=zV hi;have hm:=zT h3;have r2:=Pn.aJ h3;have htk:=aO h3;have hkd:EI p i=p.kids[i]:=by simp[EI,h3]
  have hset:=OU (v:=v) (t:=t) h3;have hnt:=OV (v:=v) (t:=t) h3;generalize p.kids[i]=a at h3 hm r2 htk hkd hset hnt
  have hle:bK v (p.kids.take i)+kE v a≤bK v p.kids:=by
   rw[← dH,← htk];exact kJ v _ _
  have hk:=ih a hm (by omega);have w2:IntKind.i64.wrap ((i:Int)+1)=i+1:=wrO;have w3:IntKind.i64.wrap ((bK v (p.kids.take i):Int)+kE v a)=bK v (p.kids.take i)+kE v a:=wrO;rw[Pn.aB a]at r2 hk hnt;rw[Pn.aB (dF v t a)]at hk hset;rw[Pn.aB v]at hk;by_cases h0:i=0
  ·subst h0;simp only[xW,bK,Int.natCast_zero,Int.zero_add]at w3;simp[SY1,hi,r2,hk,bZ,htk,hkd,hset,hnt,w3,dH,bK,Pn.aB (dF v t a)]
  ·simp[SY1,dI h0,hi,r2,hk,w2,w3,htk,hkd,hset,hnt,dH,h0,Pn.aB (dF v t a),Pn.aB (dF v t (EI p (i-1)))]
def SY0 (p v:Pn) (t:Int) (i:Nat):AS :=
 { env:=[(0, .i (.agg [.int p.kind, .int p.table, .isl (Ex.aA p.exprs), .isl (aG p.cols), .isl (Pn.aA p.kids)])),(1, .i (.agg [.int v.kind, .int v.table, .isl (Ex.aA v.exprs), .isl (aG v.cols), .isl (Pn.aA v.kids)])),(2, .int t),(3, .own 0 0),(4, .own 1 0),(6, .own 2 0),(7, .int 0),(8, .own 3 0),(9, .int (bK v (p.kids.take i):Nat)),(10, .int i),(11,if i=0 then .junk else .own 6 0),(12,jk i (.int (kE v (EI p (i-1)):Nat))),(15, .bool false),(24,jk i (.bool true))],
   st:=some (.box [.int p.kind, .int p.table, .i (.isl (Ex.aA p.exprs)), .i (.isl (aG p.cols)), .i (.isl (Pn.aA p.kids))])::some (.box [.int v.kind, .int v.table, .i (.isl (Ex.aA v.exprs)), .i (.isl (aG v.cols)), .i (.isl (Pn.aA v.kids))])::some (.box [.int 0, .int 0, .nils, .nils, .nils])::some (.box [.int p.kind, .int p.table, .nils, .osl 4 1 0 p.cols.length, .osl 5 5 0 p.kids.length])::some (.arr 1 (aG p.cols))::some (.arr 5 (VL v t p.kids i))::(if i=0 then []else [some (.box (jE (dF v t (EI p (i-1))).cells))]) }
theorem ML {p v:Pn} (hp:p.thin) (he:p.exprs=[]) (hk:p.kids≠[]) {t:Int} (hn:bK v p.kids<1000000000000) (hh:p.eqb v=false)
 (ih:∀ a∈p.kids,kE v a<1000000000000→aH C0 21 [.i (.agg a.cells), .i (.agg v.cells), .int t] []=some (.tup [.i (.agg (dF v t a).cells), .int (kE v a:Nat)],[])) :
 aH C0 21 [.i (.agg p.cells), .i (.agg v.cells), .int t] []=some (.tup [.i (.agg (dF v t p).cells), .int (kE v p:Nat)],[]):=by
 have hq:=oW p hp v;rw[hh]at hq;have hc:=qZ p hp;obtain⟨t1,t2,t3,t4,-⟩:=(Pn.bL _).1 hp;have hkl:p.kids.length≠0:=fun h=>hk (zY.1 h)
 simp[pcX,pcS,aP hkl,aL hkl,he,Ex.aA]at hc;rw[aI rfl Try.func21 rfl rfl,gY hh,gN hh,Pn.dB];rw[Pn.aB p]at hq hc ⊢;rw[Pn.aB v]at hq ⊢;simp only[he,Ex.aA]at hq hc ⊢;simp[hq,hc,he,hk];rw[aV (SY0 p v t) p.kids.length (by simp[SY0,bK,KM,he,Ex.aA])]
 ·rw[aF];have hk2:(bS v t p.kids).take p.kids.length=bS v t p.kids:=zX (by simp);simp[SY0,hkl,OW,hk2,he,Ex.aA]
 ·intro i hi;have h3:=zV hi;have hm:=zT h3;have r2:=Pn.aJ h3;have htk:=aO h3;have hkd:EI p i=p.kids[i]:=by simp[EI,h3]
  have hset:=OU (v:=v) (t:=t) h3;have hnt:=OV (v:=v) (t:=t) h3;generalize p.kids[i]=a at h3 hm r2 htk hkd hset hnt
  have hle:bK v (p.kids.take i)+kE v a≤bK v p.kids:=by
   rw[← dH,← htk];exact kJ v _ _
  have hk:=ih a hm (by omega);have w2:IntKind.i64.wrap ((i:Int)+1)=i+1:=wrO;have w3:IntKind.i64.wrap ((bK v (p.kids.take i):Int)+kE v a)=bK v (p.kids.take i)+kE v a:=wrO;rw[Pn.aB a]at r2 hk hnt;rw[Pn.aB (dF v t a)]at hk hset;rw[Pn.aB v]at hk;by_cases h0:i=0
  ·subst h0;simp only[xW,bK,Int.natCast_zero,Int.zero_add]at w3;simp[SY0,hi,r2,hk,bZ,htk,hkd,hset,hnt,w3,dH,bK,Pn.aB (dF v t a),he,Ex.aA]
  ·simp[SY0,dI h0,hi,r2,hk,w2,w3,htk,hkd,hset,hnt,dH,h0,Pn.aB (dF v t a),Pn.aB (dF v t (EI p (i-1))),he,Ex.aA]
theorem R6 {p v:Pn} (hp:p.thin) (hk:p.kids=[]) {t:Int} (hh:p.eqb v=false) :
 aH C0 21 [.i (.agg p.cells), .i (.agg v.cells), .int t] []=some (.tup [.i (.agg (dF v t p).cells), .int (kE v p:Nat)],[]):=by
 have hq:=oW p hp v;rw[hh]at hq;have hc:=qZ p hp;rw[aI rfl Try.func21 rfl rfl,gY hh,gN hh,Pn.dB];rw[Pn.aB v]at hq ⊢;rw[Pn.aB p]at hq hc ⊢;simp only[hk,Pn.aA]at hq hc ⊢;by_cases he:p.exprs=[]
 ·simp[pcX,pcS,hk,he,Pn.aA,Ex.aA]at hc;simp only[he,Ex.aA]at hq ⊢;simp[hq,hc,hk,he,Pn.aA,Ex.aA];rw[aF];simp[bS,bK,Pn.aA]
 ·have hel:p.exprs.length≠0:=fun h=>he (zY.1 h)
  simp[pcX,pcS,hk,aP hel,aL hel,he,Pn.aA]at hc;simp[hq,hc,hk,Pn.aA];rw[aF];simp[bS,bK,Pn.aA]
theorem YT {v:Pn} {t:Int}:∀ (p:Pn),p.thin→kE v p<1000000000000→aH C0 21 [.i (.agg p.cells), .i (.agg v.cells), .int t] []=some (.tup [.i (.agg (dF v t p).cells), .int (kE v p:Nat)],[]):=by
 intro p
 induction p using Pn.ind with
 | h k tb es cs ks ih =>
  intro ht hn
  cases hh:Pn.eqb (.mk k tb es cs ks) v with
  | true=>rw[CV hh,IY hh];exact UV ht hh
  | false =>
   rw[gN hh]at hn;by_cases hk:ks=[]
   ·exact R6 ht hk hh
   have ih':∀ a∈ks,kE v a<1000000000000→_:=fun a ha hm=>ih a ha (((Pn.bL _).1 ht).2.2.2.2 a ha) hm
   by_cases he:es=[]
   ·exact ML ht he hk hn hh ih'
   ·exact MK ht he hk hn hh ih'
end Go.Proofs.Ytjdfjgmebalaaaa.P
namespace Go.Proofs.Ytjdfjgmebalaaaa
open Go Go.Av
set_option maxRecDepth 4000
noncomputable def AJ7:FuncId→Option (List AV→StL→Option (AV×StL))
 | 1000000007=>none
 | 9=>none
 | 16=>none
 | 59=>some (AJL (aH C0) 59)
 | 26=>some (ABG (aH C0) 26)
 | 60=>some (ABG (aH C0) 60)
 | 47=>some (ALB (aH C0) 47)
 | g=>some (aH C0 g)
def AK6:FuncId→Bool
 | 59=>true
 | g=>fM g
noncomputable def CP:Ctx:={ P:=Try.prog,G:=GS,ownArgs:=AK6,keepRes:=keepR,eqT:=G8,prim:=AJ7 }
@[simp] theorem ARY:CP.P=Try.prog:=(rfl)
@[simp] theorem ARZ (f):CP.G f=GS f:=(rfl)
@[simp] theorem ARV (f):CP.ownArgs f=AK6 f:=(rfl)
@[simp] theorem ARW (f):CP.keepRes f=keepR f:=(rfl)
@[simp] theorem ARX (f):CP.eqT f=G8 f:=(rfl)
@[simp] theorem ARU:CP.tree=false:=(rfl)
end Go.Proofs.Ytjdfjgmebalaaaa
namespace Go.Av
def AHM (v:Pn) (ws:List Int) (t:Int):Bool:=decide (v.width ws≠0) && (decide (0≤t) && (decide (t<ws.length) && decide (ws[t.toNat]?=some (v.width ws))))
def ADN (p v:Pn) (ws:List Int) (t:Int):Bool:=decide (p.width ws≠0) && AHM v ws t
def fvP (p v:Pn) (ws:List Int) (t:Int):Pn:=if ADN p v ws t=true then dF v t p else Pn.zero
def fvN (p v:Pn) (ws:List Int) (t:Int):Int:=if ADN p v ws t=true then kE v p else -1
theorem YE {p:Pn} {ws:List Int} (h:p.width ws≠0):I9 ws=true:=by
 unfold Pn.width at h;exact(ABC h).1
theorem YZ {ws:List Int} (h:I9 ws=true) {i:Nat} {w:Int} (hw:ws[i]?=some w):1≤w:=by
 simp only[I9,zU,yV]at h;have:=h.2 w (zT hw);simp[dN]at this;omega
end Go.Av
namespace Go.Proofs.Ytjdfjgmebalaaaa.P
open Go Go.Av
set_option maxRecDepth 4000
set_option maxHeartbeats 4000000
theorem TA (v:Pn) (ws:List Int) (t:Int):aH C0 25 [.i (.agg v.cells), .i (.isl (aG ws)), .int t] []=some (.bool (AHM v ws t),[]):=by
 have hv:=vL v ws;rw[aI rfl Try.func25 rfl rfl];unfold AHM;rw[Pn.aB]at hv ⊢;by_cases h1:v.width ws=0
 ·simp[hv,h1]
 by_cases h2:0≤t
 case neg=>simp[hv,h1,h2]
 by_cases h3:t<ws.length
 case neg=>simp[hv,h1,h2,h3]
 have hlt:t.toNat<ws.length:=by omega
 have h4:=zV hlt;generalize ws[t.toNat]=x at h4;obtain⟨_,h4'⟩:=zZ.1 h4;have r2:=bH h4;by_cases h5:x=v.width ws
 ·simp[hv,h1,h2,h3,r2,h4',h5]
 ·have hb:(x == v.width ws)=false:=by simpa using h5
  simp[hv,h1,h2,h3,r2,h4',h5,hb]
theorem JL (p v:Pn) (hp:p.lim) (hv:v.lim) (ws:List Int) (hl:ws.length<9223372036854775808) (t:Int):aH C0 20 [.i (.agg p.cells), .i (.agg v.cells), .i (.isl (aG ws)), .int t] []=some (.bool (ADN p v ws t),[]):=by
 have e1:=EO p hp ws hl;have e2:=EO v hv ws hl;have g1:=Pn.wY (p:=p) (ws:=ws);have g2:=Pn.wY (p:=v) (ws:=ws);have w2:IntKind.i64.wrap ((ws.length:Int)-1)=ws.length-1:=wrO;rw[aI rfl Try.func20 rfl rfl];unfold ADN AHM;rw[Pn.aB p]at e1 ⊢;rw[Pn.aB v]at e2 ⊢;by_cases h1:p.width ws=0
 ·simp[e1,h1]
 have h1':0<p.width ws:=by omega
 by_cases h2:0≤t
 case neg=>simp[e1,h1,h1',h2,w2]
 by_cases h3:t<ws.length
 case neg=>simp[e1,h1,h1',h2,h3,w2,show ¬ t≤(ws.length:Int)-1 by omega]
 have hlt:t.toNat<ws.length:=by omega
 have h4:=zV hlt;generalize ws[t.toNat]=x at h4;obtain⟨_,h4'⟩:=zZ.1 h4;have r2:=bH h4;have hx:=YZ (YE h1) h4;by_cases h5:v.width ws=x
 ·have h6:¬ x=0:=by omega
  simp[e1,e2,h1,h1',h2,h3,r2,h4',h5,w2,h6,show t≤(ws.length:Int)-1 by omega]
 ·have h5':¬ x=v.width ws:=fun e=>h5 e.symm
  have hb:(v.width ws == x)=false:=by simpa using h5
  simp[e1,e2,h1,h1',h2,h3,r2,h4',h5,h5',hb,w2,show t≤(ws.length:Int)-1 by omega]
theorem X3 {p v:Pn} {ws:List Int} (h:p.width ws≠0):kE v p<512:=by
 have:=(Pn.JH h).2;have:=X0 v p;omega
theorem K4 (p v:Pn) (hp:p.thin) (hv:v.thin) (ws:List Int) (hl:ws.length<9223372036854775808) (t:Int):aH C0 6 [.i (.agg p.cells), .i (.agg v.cells), .i (.isl (aG ws)), .int t] []=some (.tup [.i (.agg (fvP p v ws t).cells), .int (fvN p v ws t)],[]):=by
 have e1:=JL p v (Pn.OB p hp) (Pn.OB v hv) ws hl t;rw[aI rfl Try.func6 rfl rfl];unfold fvP fvN
 cases h:ADN p v ws t with
 | false =>
  rw[h]at e1;rw[Pn.aB p,Pn.aB v]at *
  simp[e1,Pn.zero,Pn.cells,Ex.aA,aG,Pn.aA]
 | true =>
  rw[h]at e1;have hw:p.width ws≠0:=by unfold ADN at h;simp at h;exact h.1
  have e2:=YT (v:=v) (t:=t) p hp (by have:=X3 (v:=v) hw;omega);simp only[if_true];rw[Pn.aB (dF v t p)]at *
  rw[Pn.aB p,Pn.aB v]at *
  simp[e1,e2]
end Go.Proofs.Ytjdfjgmebalaaaa.P
namespace Go.Proofs.Ytjdfjgmebalaaaa.P
open Go Go.Av Go.Av.Mk
set_option maxRecDepth 4000
set_option maxHeartbeats 8000000
noncomputable def ACI:FuncId→Option (List AV→StL→Option (AV×StL))
 | 9=>none
 | 26=>some (ABG (aH CD) 26)
 | g=>if g=rH then none else some (aH C0 g)
def ACY:FuncId→Bool
 | 9=>true
 | g=>keepR g
noncomputable def CK:Ctx:={ P:=Try.prog,G:=GS,ownArgs:=fM,keepRes:=ACY,eqT:=G8,prim:=ACI,tree:=true }
@[simp] theorem AS4:CK.P=Try.prog:=(rfl)
@[simp] theorem AS5 (f):CK.G f=GS f:=(rfl)
@[simp] theorem AS1 (f):CK.ownArgs f=fM f:=(rfl)
@[simp] theorem AS2 (f):CK.keepRes f=ACY f:=(rfl)
@[simp] theorem AS3 (f):CK.eqT f=G8 f:=(rfl)
@[simp] theorem AS0:CK.tree=true:=(rfl)
@[simp] theorem kK1:ACY 9=true:=(rfl)
theorem AGT:PrimOk CK:=by
 have h0:=aZ eT;have hD:=aZ AGA
 have key:∀ g q,CK.prim g=some q→(g=26∧q=ABG (aH CD) g)∨(g≠rH∧q=aH C0 g):=by
  intro g q h;have h:ACI g=some q:=h;unfold ACI at h;split at h
  all_goals first
   | (cases h;done)
   | (injection h with h;exact .inl ⟨rfl,h.symm⟩)
   | (split at h
      ·cases h
      ·rename_i hy;injection h with h;exact .inr ⟨hy,h.symm⟩)
 constructor
 ·intro g args st p h;unfold dP at h
  cases hq:CK.prim g with
  | none=>rw[hq]at h;cases h
  | some q =>
   rw[hq]at h
   rcases key g q hq with ⟨rfl,rfl⟩|⟨hy,rfl⟩
   ·exact(G5 hD (r:=p.1) (stl':=p.2) h).1
   ·exact h0.name g args st p hy h
 ·intro g args st r st' h w m φ vs hi hr hb;unfold dP at h
  cases hq:CK.prim g with
  | none=>rw[hq]at h;cases h
  | some q =>
   rw[hq]at h
   rcases key g q hq with ⟨rfl,rfl⟩|⟨hy,rfl⟩
   ·exact(G5 hD h).2 w m φ vs hi hr hb
   ·exact h0.calls g args st r st' hy h w m φ vs hi hr hb
theorem AG9:SoundOk CK:=l7 (C:=CK) ft nt eqS mo AGT
@[simp] theorem ABL (a:List AV) (st:StL):aH CK 24 a st=aH C0 24 a st:=bG (C:=CK) rfl a st
@[simp] theorem AF3 (a:List AV) (st:StL):aH CK 25 a st=aH C0 25 a st:=bG (C:=CK) rfl a st
theorem LJ {p v:Pn} (hp:p.thin) (hy:p.tiny) {t:Int} (hn:kE v p<1000000000000):aH CK 26 [.own 0 0, .fn (.func 27) [.own 1 0, .own 2 0, .own 3 0]] [some (.box (jE p.cells)),some (.box (jE v.cells)),some (.box [.int 0]),some (.box [.int t])] =
 some (rqA (dF v t p) 4,[some (.fbox p.cells),some (.fbox v.cells),some (.box [.int (kE v p:Nat)]),some (.box [.int t])]++rqB (dF v t p)):=by
 have h:=YD (v:=v) (t:=t) p hp hy false 0 (by omega);rw[bG (C:=CK) (p:=ABG (aH CD) 26) rfl];unfold ABG;rw[Pn.aB p,Pn.aB v];simp only[Fst,vB,zO,if_true,yO,if_false]at h;rw[Pn.aB p,Pn.aB v]at h;generalize dF v t p=q at h ⊢
 by_cases q1:q.exprs=[]<;>by_cases q2:q.cols=[]<;>by_cases q3:q.kids=[] <;>
  (simp only[rqA,rqB,q1,q2,q3,if_true,if_false,zD,zG,zC]at h ⊢
   simp at h
   simp[h])
theorem M3 (p v:Pn) (hp:p.thin) (ws:List Int) (t:Int):aH CK 9 [.i (.agg p.cells), .i (.agg v.cells), .i (.isl (aG ws)), .int t] []=some (.tup [rqA (fvP p v ws t) 0, .int (fvN p v ws t)],rqB (fvP p v ws t)):=by
 have e1:=vL p ws;have e2:=TA v ws t;rw[aI rfl Try.func9 rfl rfl];unfold fvP fvN ADN;by_cases h1:p.width ws=0
 ·rw[Pn.aB p,Pn.aB v]at *
  simp[e1,e2,h1,rqA,rqB,Pn.zero,Pn.bI,Pn.bM,Pn.bA,Pn.bU,Pn.dE]
 cases h2:AHM v ws t with
 | false =>
  rw[h2]at e2;rw[Pn.aB p,Pn.aB v]at *
  simp[e1,e2,h1,rqA,rqB,Pn.zero,Pn.bI,Pn.bM,Pn.bA,Pn.bU,Pn.dE]
 | true =>
  rw[h2]at e2;have e3:=LJ (v:=v) (t:=t) hp (Pn.JH h1).1 (by have:=X3 (v:=v) h1;omega);simp only[h1,ne_eq,not_false_eq_true,decide_true,Bool.and_self,if_true];rw[Pn.aB p,Pn.aB v]at *
  generalize dF v t p=q at e3 ⊢
  by_cases q1:q.exprs=[]<;>by_cases q2:q.cols=[]<;>by_cases q3:q.kids=[] <;>
   (simp only[rqA,rqB,q1,q2,q3,if_true,if_false,zD,zG,zC]at e3 ⊢
    simp at e3
    simp[e1,e2,h1,e3])
set_option maxHeartbeats 1000000
theorem OQ (l:List Int) (k:Int) {i:Nat} (h:i<l.length):(vM k l)[i]?=some (k+i):=by
 have h3:=zV h;have:=sO AEN AB3 l k h3;rw[rZ,xN,yS (by omega)]at this;exact this
def HIX (l:List Int) (k:Int) (i:Nat):AS :=
 { env:=[(0, .i (.isl (aG (vM k l)))),(1, .int (k+i)),(4, .int 0),(5, .int i),(9,jk i (.bool true)),(17,jk i (.bool false))],st:=[] }
theorem PR (l:List Int) (k:Int) (h0:0≤k) (h1:k+(l.length:Nat)<1000000000000):aH C0 34 [.i (.isl (aG (vM k l))), .int k] []=some (.int (k+(l.length:Nat)),[]):=by
 rw[aI rfl Try.func34 rfl rfl];have hlen:=dO AEN AB3 l k;simp;rw[aV (HIX l k) l.length (by simp[HIX])]
 ·rw[aF];simp[HIX,hlen]
 ·intro i hi;have r2:=bH (OQ l k hi);have w2:IntKind.i64.wrap ((i:Int)+1)=i+1:=wrO;have w3:IntKind.i64.wrap (k+i+1)=k+(i+1):=by rw[wrO];omega
  simp[HIX,hlen,hi,r2,w2,w3]
theorem ABF (l:List Ex) (k:Int) (h0:0≤k) (h1:k+4*(Ex.aN l:Nat)<1000000000000):aH C0 33 [.i (.isl (Ex.aA (Ex.iY k l))), .int k] []=some (.int (k+4*(Ex.aN l:Nat)),[]):=by
 have:=ZH (.mk 0 0 Val.zero l) k h0 (by simpa [Ex.kids]using h1);simpa [Ex.kids]using this
def HPX (l:List Pn) (k:Int) (i:Nat):AS :=
 { env:=[(0, .i (.isl (Pn.aA (eP Pn.nS Pn.mz k l)))),(1, .int (k+(bN Pn.mz (l.take i):Nat))),(4, .int 0),(5, .int i),(9,jk i (.bool true)),(18,jk i (.bool false)),(27,jk i (.bool false)),(38,jk i (.bool false)),(47,jk i (.bool false)),(56,jk i (.bool false))],st:=[] }
theorem ZI {l:List Pn} {k:Int} (h0:0≤k) (h1:k+(bN Pn.mz l:Nat)<1000000000000) (ih:∀ p∈l,∀ q:Int,0≤q→q+(Pn.mzL p.kids:Nat)<1000000000000→aH C0 35 [.i (.isl (Pn.aA (Pn.jW q p.kids))), .int q] []=some (.int (q+(Pn.mzL p.kids:Nat)),[])) :
 aH C0 35 [.i (.isl (Pn.aA (eP Pn.nS Pn.mz k l))), .int k] []=some (.int (k+(bN Pn.mz l:Nat)),[]):=by
 rw[aI rfl Try.func35 rfl rfl];have hlen:=dO Pn.nS Pn.mz l k;have hle:=nV (sz:=Pn.mz) (fun e=>by have:=Pn.VE e;omega) l;simp;rw[aV (HPX l k) l.length (by simp[HPX,bN])]
 ·rw[aF];have hT:l.take l.length=l:=zX (by simp);simp[HPX,hlen,hT]
 ·intro i hi;have h3:=zV hi;have hm:=zT h3;generalize l[i]=a at h3 hm;have r2:=Pn.aJ (sO Pn.nS Pn.mz l k h3);have hz:=qJ Pn.mz l h3;have hmono:=tY Pn.mz l (i+1);have hza:=Pn.VE a;have w2:IntKind.i64.wrap ((i:Int)+1)=i+1:=wrO;have hzz:k+((bN Pn.mz (l.take (i+1)):Nat):Int)=k+(bN Pn.mz (l.take i):Nat)+1+1+4*(Ex.aN a.exprs:Nat)+(a.cols.length:Nat)+(Pn.mzL a.kids:Nat):=by rw[hz,hza];push_cast;omega
  generalize hq:k+((bN Pn.mz (l.take i):Nat):Int)=q at r2 hzz;have hq0:0≤q:=by omega
  have hlim:q+1+1+4*(Ex.aN a.exprs:Nat)+(a.cols.length:Nat)+(Pn.mzL a.kids:Nat)<1000000000000:=by omega
  have w3:IntKind.i64.wrap (q+1)=q+1:=wrO;have w4:IntKind.i64.wrap (q+1+1)=q+1+1:=wrO;have c1:=ABF a.exprs (q+1+1) (by omega) (by omega);have c2:=PR a.cols (q+1+1+4*(Ex.aN a.exprs:Nat)) (by omega) (by omega);have c3:=ih a hm (q+1+1+4*(Ex.aN a.exprs:Nat)+(a.cols.length:Nat)) (by omega) (by omega);have n1:¬ q+1+1+4*(Ex.aN a.exprs:Int)<0:=by omega
  have n2:¬ q+1+1+4*(Ex.aN a.exprs:Int)+(a.cols.length:Int)<0:=by omega
  have n3:¬ q+1+1+4*(Ex.aN a.exprs:Int)+(a.cols.length:Int)+(Pn.mzL a.kids:Int)<0:=by omega
  rw[Pn.BL]at r2;push_cast at r2 c1 c2 c3 hzz;simp[HPX,hlen,hi,r2,hq,hzz,c1,c2,c3,n1,n2,n3,w2,w3,w4]
theorem RZ:∀ (p:Pn) (k:Int),0≤k→k+(Pn.mzL p.kids:Nat)<1000000000000→aH C0 35 [.i (.isl (Pn.aA (Pn.jW k p.kids))), .int k] []=some (.int (k+(Pn.mzL p.kids:Nat)),[]):=by
 intro p
 induction p using Pn.ind with
 | h k t es cs ks ih =>
  intro q h0 h1;simp only[Pn.kids]at h1 ⊢;rw[o5,← oU];rw[← oU]at h1;exact ZI h0 h1 ih
end Go.Proofs.Ytjdfjgmebalaaaa.P
namespace Go.Av
open Go.Av.Mk
def Pn.mkK (k:Int) (q:Pn):Pn:=.mk q.kind q.table (Ex.iY k q.exprs) (vM (k+4*(Ex.aN q.exprs:Nat)) q.cols) (Pn.jW (k+4*(Ex.aN q.exprs:Nat)+(q.cols.length:Nat)) q.kids)
theorem BM (l:List Ex) (k:Int):(Ex.iY k l).length=l.length:=by rw[sP];exact dO _ _ l k
theorem uB (l:List Pn) (k:Int):(Pn.jW k l).length=l.length:=by rw[o5];exact dO _ _ l k
theorem IA (l:List Int) (k:Int):(vM k l).length=l.length:=dO _ _ l k
theorem PE {l:List Ex} (h:l≠[]) (k:Int):Ex.iY k l≠[]:=fun e=>by have:=BM l k;rw[e]at this;exact h (zY.1 (by simpa using this.symm))
theorem KN {l:List Pn} (h:l≠[]) (k:Int):Pn.jW k l≠[]:=fun e=>by have:=uB l k;rw[e]at this;exact h (zY.1 (by simpa using this.symm))
theorem ACQ {l:List Int} (h:l≠[]) (k:Int):vM k l≠[]:=fun e=>by have:=IA l k;rw[e]at this;exact h (zY.1 (by simpa using this.symm))
theorem UY {q:Pn} {k:Int}:rqB (q.mkK k)=(if q.exprs=[]then []else [some (.tre 5 (Ex.aA (Ex.iY k q.exprs)))])++((if q.cols=[]then []else [some (.arr 1 (aG (vM (k+4*(Ex.aN q.exprs:Nat)) q.cols)))])++(if q.kids=[]then []else [some (.tre 5 (Pn.aA (Pn.jW (k+4*(Ex.aN q.exprs:Nat)+(q.cols.length:Nat)) q.kids)))])):=by
 unfold rqB Pn.mkK;simp only[Pn.bA,Pn.bU,Pn.dE]
 by_cases q1:q.exprs=[]<;>by_cases q2:q.cols=[]<;>by_cases q3:q.kids=[] <;>
  simp[q1,q2,q3,Ex.iY,Pn.jW,eP,Pn.bI,Pn.bM,Pn.bA,Pn.bU,Pn.dE,PE,KN,ACQ]
theorem VK (q:Pn):(q.mk4:Int)=4*(Ex.aN q.exprs:Nat)+((q.cols.length:Nat)+(Pn.mzL q.kids:Nat)):=by unfold Pn.mk4;push_cast;rfl
end Go.Av
namespace Go.Proofs.Ytjdfjgmebalaaaa.P
open Go Go.Av Go.Av.Mk
set_option maxRecDepth 4000
set_option maxHeartbeats 8000000
theorem NE {q:Pn} {k:Int} (h0:0≤k) (h1:k+(q.mk4:Nat)<1000000000000):aH C0 14 [.i (.agg (q.mkK k).cells), .int k] []=some (.int (k+(q.mk4:Nat)),[]):=by
 have hm:=VK q;have c1:=ABF q.exprs k h0 (by omega);have c2:=PR q.cols (k+4*(Ex.aN q.exprs:Nat)) (by omega) (by omega);have c3:=RZ q (k+4*(Ex.aN q.exprs:Nat)+(q.cols.length:Nat)) (by omega) (by omega);have n1:¬ k+4*(Ex.aN q.exprs:Int)<0:=by omega
 have n2:¬ k+4*(Ex.aN q.exprs:Int)+(q.cols.length:Int)<0:=by omega
 have n3:¬ k+4*(Ex.aN q.exprs:Int)+(q.cols.length:Int)+(Pn.mzL q.kids:Int)<0:=by omega
 rw[aI rfl Try.func14 rfl rfl,Pn.aB];have hm2:k+(q.mk4:Int)=k+4*(Ex.aN q.exprs:Nat)+(q.cols.length:Nat)+(Pn.mzL q.kids:Nat):=by omega
 rw[hm2];simp[Pn.mkK,Pn.bI,Pn.bM,Pn.bA,Pn.bU,Pn.dE,c1,c2,c3,n1,n2,n3]
attribute [local simp] IG WC give pV qH rR A7 mfA mfR AEP AEQ mfC AB5 mfB.eq_1 mfB.eq_2 mfB.eq_7 jQ sM
noncomputable def ACG:FuncId→Option (List AV→StL→Option (AV×StL))
 | 3=>none
 | 12=>none
 | 13=>none
 | 32=>some (qR Pn.cells Pn.nS Pn.mz 5)
 | 31=>some (qR Ex.cells Ex.pR exZ 5)
 | 7=>some (IG (aH CT) 7)
 | 8=>some (IG (aH CT) 8)
 | 9=>some (IG (aH CK) 9)
 | 6=>some (give (aH C0) 6)
 | g=>if g=rH then none else some (IG (aH C0) g)
noncomputable def CZ:Ctx:={ P:=Try.prog,G:=GS,ownArgs:=fun _=>true,keepRes:=fun _=>false,eqT:=G8,prim:=ACG,tree:=true }
@[simp] theorem ARL:CZ.P=Try.prog:=(rfl)
@[simp] theorem ARN (f):CZ.G f=GS f:=(rfl)
@[simp] theorem ARI (f):CZ.ownArgs f=true:=(rfl)
@[simp] theorem ARJ (f):CZ.keepRes f=false:=(rfl)
@[simp] theorem ARK (f):CZ.eqT f=G8 f:=(rfl)
@[simp] theorem ARH:CZ.tree=true:=(rfl)
theorem AGR:PrimOk CZ:=by
 have h0:=aZ eT;have hT:=aZ AG8;have hK:=aZ AG9
 have key:∀ g q,CZ.prim g=some q→(g=32∧q=qR Pn.cells Pn.nS Pn.mz 5)∨(g=31∧q=qR Ex.cells Ex.pR exZ 5)∨(g=7∧q=IG (aH CT) g)∨(g=8∧q=IG (aH CT) g)∨(g=9∧q=IG (aH CK) g)∨(g=6∧q=give (aH C0) g)∨(g≠rH∧q=IG (aH C0) g):=by
  intro g q h;have h:ACG g=some q:=h;unfold ACG at h;split at h
  all_goals first
   | (cases h;done)
   | (injection h with h;subst h;simp;done)
   | (split at h
      ·cases h
      ·rename_i hy;injection h with h;subst h;exact .inr (.inr (.inr (.inr (.inr (.inr ⟨hy,rfl⟩))))))
 constructor
 ·intro g args st p h;unfold dP at h
  cases hq:CZ.prim g with
  | none=>rw[hq]at h;cases h
  | some q =>
   rw[hq]at h
   rcases key g q hq with ⟨rfl,rfl⟩|⟨rfl,rfl⟩|⟨rfl,rfl⟩|⟨rfl,rfl⟩|⟨rfl,rfl⟩|⟨rfl,rfl⟩|⟨hy,rfl⟩
   ·exact⟨Try.f32,Try.func32,by decide,rfl⟩
   ·exact⟨Try.f31,Try.func31,by decide,rfl⟩
   ·exact(gX hT (r:=p.1) (stl':=p.2) h).1
   ·exact(gX hT (r:=p.1) (stl':=p.2) h).1
   ·exact(gX hK (r:=p.1) (stl':=p.2) h).1
   ·exact(FZ h0 (r:=p.1) (stl':=p.2) h).1
   ·exact(gX h0 (r:=p.1) (stl':=p.2) h hy).1
 ·intro g args st r st' h w m φ vs hi hr hb;unfold dP at h
  cases hq:CZ.prim g with
  | none=>rw[hq]at h;cases h
  | some q =>
   rw[hq]at h
   rcases key g q hq with ⟨rfl,rfl⟩|⟨rfl,rfl⟩|⟨rfl,rfl⟩|⟨rfl,rfl⟩|⟨rfl,rfl⟩|⟨rfl,rfl⟩|⟨hy,rfl⟩
   ·exact FQ (C:=C0) AGV (fun e=>by rw[Pn.aB];rfl) Pn.uM h w m φ vs hi hr hb
   ·exact FQ (C:=C0) ABH (fun e=>by rw[Ex.aB];rfl) Ex.uM h w m φ vs hi hr hb
   ·exact(gX hT h).2 w m φ vs hi hr hb
   ·exact(gX hT h).2 w m φ vs hi hr hb
   ·exact(gX hK h).2 w m φ vs hi hr hb
   ·exact(FZ h0 h).2 w m φ vs hi hr hb
   ·exact(gX h0 h hy).2 w m φ vs hi hr hb
theorem AG7:SoundOk CZ:=l7 (C:=CZ) ft nt eqS mo AGR
theorem O9 {p:Pn} (hf:p.fat) {left:Int} (h0:0≤left) (h1:left<1000000000):aH CZ 5 [.i (.agg p.cells), .int left] []=some (.int (dC left p.meas),[]):=by
 rw[bG (C:=CZ) (p:=IG (aH C0) 5) rfl];have h:=UK p hf left h0 h1;simp[h]
theorem O8 {p:Pn} (ht:p.thin):aH CZ 7 [.i (.agg p.cells)] []=some (tP p 0,tPB p):=by
 rw[bG (C:=CZ) (p:=IG (aH CT) 7) rfl];simp[AFS p ht,tP,tPB,eG]
theorem YB {l:List Int} (hl:l.length<1000000000):aH CZ 8 [.i (.isl (aG l))] []=some (.osl 0 1 0 l.length,[some (.arr 1 (aG l))]):=by
 rw[bG (C:=CZ) (p:=IG (aH CT) 8) rfl];simp[AAJ l hl,eG]
theorem M7 {p v:Pn} (hp:p.thin) (hv:v.thin) {ws:List Int} (hl:ws.length<1000000000) {t:Int}:aH CZ 6 [tP p 0,tP v 3, .osl 6 1 0 ws.length, .int t] (tPB p++(tPB v++[some (.arr 1 (aG ws))]))=some (.tup [.i (.agg (fvP p v ws t).cells), .int (fvN p v ws t)],[none,none,none,none,none,none,none]):=by
 have h:=K4 p v hp hv ws (by omega) t;rw[bG (C:=CZ) (p:=give (aH C0) 6) rfl];rw[Pn.aB p,Pn.aB v]at h;simp only[Ex.aU p.exprs,Pn.aU p.kids,Ex.aU v.exprs,Pn.aU v.kids]at h;have ha:=iU ws;have hb:=iU p.cols;have hc:=iU v.cols;rw[Pn.aB (fvP p v ws t)]at h ⊢;simp[tP,tPB,h,ha,hb,hc]
theorem QH {p v:Pn} (hp:p.thin) {ws:List Int} {t:Int}:aH CZ 9 [tP p 0,tP v 3, .osl 6 1 0 ws.length, .int t] (tPB p++(tPB v++[some (.arr 1 (aG ws))]))=some (.tup [rqA (fvP p v ws t) 7, .int (fvN p v ws t)],tPB p++(tPB v++([some (.arr 1 (aG ws))]++rqB (fvP p v ws t)))):=by
 have h:=M3 p v hp ws t;rw[bG (C:=CZ) (p:=IG (aH CK) 9) rfl];rw[Pn.aB p,Pn.aB v]at h;simp only[Ex.aU p.exprs,Pn.aU p.kids,Ex.aU v.exprs,Pn.aU v.kids]at h;have ha:=iU ws;have hb:=iU p.cols;have hc:=iU v.cols;generalize fvP p v ws t=q at h ⊢;have b4:=eG q.cols
 by_cases q1:q.exprs=[]<;>by_cases q2:q.cols=[]<;>by_cases q3:q.kids=[] <;>
  (simp only[rqA,rqB,q1,q2,q3,if_true,if_false,zD,zG,zC]at h ⊢
   simp[tP,tPB,h,ha,hb,hc,b4])
theorem JA {p:Pn} (hp:p.fat):aH CZ 10 [tP p 0,tP p 3] (tPB p++tPB p)=some (.bool true,tPB p++tPB p):=by
 have h:=DD p hp;rw[bG (C:=CZ) (p:=IG (aH C0) 10) rfl];rw[Pn.aB,Ex.aU,Pn.aU]at h;have hb:=iU p.cols;simp[tP,tPB,h,hb]
theorem U5 {q:Pn} (hq:q.fat):aH CZ 10 [rqA q 0, .i (.agg q.cells)] (rqB q)=some (.bool true,rqB q):=by
 have h:=DD q hq;rw[bG (C:=CZ) (p:=IG (aH C0) 10) rfl];rw[Pn.aB]at h ⊢;have b1:=F5 q.exprs;have b2:=EZ q.cols;have b3:=EY q.kids;have b4:=eG q.cols
 by_cases q1:q.exprs=[]<;>by_cases q2:q.cols=[]<;>by_cases q3:q.kids=[] <;>
  (simp only[rqA,rqB,q1,q2,q3,if_true,if_false,zD,zG,zC,Ex.aA,aG,Pn.aA]at h b1 b2 b3 b4 ⊢
   simp[h,b1,b2,b3,b4])
theorem YC {l:List Int} (hl:l.length<9223372036854775808):aH CZ 11 [.osl 0 1 0 l.length, .osl 1 1 0 l.length] [some (.arr 1 (aG l)),some (.arr 1 (aG l))]=some (.bool true,[some (.arr 1 (aG l)),some (.arr 1 (aG l))]):=by
 have h:=DF l hl;rw[bG (C:=CZ) (p:=IG (aH C0) 11) rfl];have hb:=iU l;simp[h,hb]
def MIZ (l:List Int) (k:Int) (i:Nat):AS :=
 { env:=[(0, .osl 0 1 0 l.length),(1, .int (k+i)),(4, .int 0),(5, .int i),(9,jk i (.bool true))],st:=[some (.arr 1 (aG ((vM k l).take i++l.drop i)))] }
theorem tO {l:List Int} {k:Int} (h0:0≤k) (h1:k+(l.length:Nat)<1000000000000):aH CZ 13 [.osl 0 1 0 l.length, .int k] [some (.arr 1 (aG l))]=some (.int (k+(l.length:Nat)),[some (.arr 1 (aG (vM k l)))]):=by
 rw[aI rfl Try.func13 rfl rfl];have hlen:(vM k l).length=l.length:=dO AEN AB3 l k;simp;rw[aV (MIZ l k) l.length (by simp[MIZ])]
 ·rw[aF];have ht:(vM k l).take l.length=vM k l:=zX (by omega);simp[MIZ,ht]
 ·intro i hi;have hs:=aO (OQ l k hi);have hd:=yD hi;generalize l[i]=a at hd;have hA:(aG ((vM k l).take i)).length=i:=by simp[hlen];omega
  have w2:IntKind.i64.wrap ((i:Int)+1)=i+1:=wrO;have w3:IntKind.i64.wrap (k+i+1)=k+(i+1):=by rw[wrO];omega
  have g1:gB (aG ((vM k l).take i)++[.int a]::aG (l.drop (i+1))) i=some [.int a]:=by
   have:=kP (aG ((vM k l).take i)) [IV.int a] (aG (l.drop (i+1)))
   rwa [hA]at this
  have g2:(aG ((vM k l).take i)++[.int a]::aG (l.drop (i+1))).set i [.int (k+i)]=aG ((vM k l).take i)++[.int (k+i)]::aG (l.drop (i+1)):=by
   rw[List.set_append_right _ _ (by omega),hA,Nat.sub_self,xC]
  have e1:aG ((vM k l).take i++l.drop i)=aG ((vM k l).take i)++[.int a]::aG (l.drop (i+1)):=by
   rw[lF,hd];rfl
  have e2:aG ((vM k l).take (i+1)++l.drop (i+1))=aG ((vM k l).take i)++[.int (k+i)]::aG (l.drop (i+1)):=by
   rw[hs,lF,lF,yX];rfl
  simp only[MIZ,e1,e2];simp[hi,g1,g2,w2,w3]
theorem M9 {k:Int}:aH CZ 13 [.nils, .int k] []=some (.int k,[]):=by
 rw[aI rfl Try.func13 rfl rfl];simp;rw[aF];simp
theorem J9 {l:List Ex} {k:Int} (h0:0≤k) (h1:k+4*(Ex.aN l:Nat)<1000000000000):aH CZ 31 [.osl 0 5 0 l.length, .int k] [some (kW Ex.cells 5 l)]=some (.int (k+4*(Ex.aN l:Nat)),[some (kW Ex.cells 5 (Ex.iY k l))]):=by
 rw[bG (C:=CZ) (p:=qR Ex.cells Ex.pR exZ 5) rfl];have:=PD (W:=5) (mk:=Ex.pR) (sz:=exZ) Ex.uN (l:=l) (k:=k) h0 (by rw[oV];push_cast;omega);rw[oV,← sP]at this;push_cast at this;exact this
theorem QG {k:Int} (h0:0≤k) (h1:k<1000000000000):aH CZ 31 [.nils, .int k] []=some (.int k,[]):=by
 rw[bG (C:=CZ) (p:=qR Ex.cells Ex.pR exZ 5) rfl];simp[qR,h0,h1]
theorem J8 {l:List Pn} {k:Int} (h0:0≤k) (h1:k+(Pn.mzL l:Nat)<1000000000000):aH CZ 32 [.osl 0 5 0 l.length, .int k] [some (kW Pn.cells 5 l)]=some (.int (k+(Pn.mzL l:Nat)),[some (kW Pn.cells 5 (Pn.jW k l))]):=by
 rw[bG (C:=CZ) (p:=qR Pn.cells Pn.nS Pn.mz 5) rfl];have:=PD (W:=5) (mk:=Pn.nS) (sz:=Pn.mz) Pn.LK (l:=l) (k:=k) h0 (by rw[oU];omega);rw[oU,← o5]at this;exact this
theorem QF {k:Int} (h0:0≤k) (h1:k<1000000000000):aH CZ 32 [.nils, .int k] []=some (.int k,[]):=by
 rw[bG (C:=CZ) (p:=qR Pn.cells Pn.nS Pn.mz 5) rfl];simp[qR,h0,h1]
theorem wV {p:Pn} {k:Int} (h0:0≤k) (h1:k+(p.mk4:Nat)<1000000000000):aH CZ 12 [tP p 0, .int k] (tPB p)=some (.int (k+(p.mk4:Nat)),tPB (p.mkK k)):=by
 have hm:=VK p;have c1:=J9 (l:=p.exprs) h0 (by omega);have c2:=tO (l:=p.cols) (k:=k+4*(Ex.aN p.exprs:Nat)) (by omega) (by omega);have c3:=J8 (l:=p.kids) (k:=k+4*(Ex.aN p.exprs:Nat)+(p.cols.length:Nat)) (by omega) (by omega);rw[aI rfl Try.func12 rfl rfl];have hm2:k+(p.mk4:Int)=k+4*(Ex.aN p.exprs:Nat)+(p.cols.length:Nat)+(Pn.mzL p.kids:Nat):=by omega
 rw[hm2];simp[tP,tPB,Pn.mkK,Pn.bI,Pn.bM,Pn.bA,Pn.bU,Pn.dE,c1,c2,c3]
theorem M8 {q:Pn} {k:Int} (h0:0≤k) (h1:k+(q.mk4:Nat)<1000000000000):aH CZ 12 [rqA q 0, .int k] (rqB q)=some (.int (k+(q.mk4:Nat)),rqB (q.mkK k)):=by
 have hm:=VK q;have hm2:k+(q.mk4:Int)=k+4*(Ex.aN q.exprs:Nat)+(q.cols.length:Nat)+(Pn.mzL q.kids:Nat):=by omega
 rw[aI rfl Try.func12 rfl rfl,UY,hm2];by_cases q1:q.exprs=[]<;>by_cases q2:q.cols=[]<;>by_cases q3:q.kids=[]
 all_goals
  have c1:=J9 (l:=q.exprs) h0 (by omega);have c2:=tO (l:=q.cols) (k:=k+4*(Ex.aN q.exprs:Nat)) (by omega) (by omega);have c3:=J8 (l:=q.kids) (k:=k+4*(Ex.aN q.exprs:Nat)+(q.cols.length:Nat)) (by omega) (by omega);have d1:=QG h0 (by omega);have d2:=M9 (k:=k+4*(Ex.aN q.exprs:Nat));have d3:=QF (k:=k+4*(Ex.aN q.exprs:Nat)+(q.cols.length:Nat)) (by omega) (by omega)
  try rw[kY q1,kY (PE q1 k),← Ex.aU,← Ex.aU]at c1
  try rw[kY q3,kY (KN q3 _),← Pn.aU,← Pn.aU]at c3
  simp only[rqA,rqB,q1,q2,q3,if_true,if_false,zD,zG,zC,Ex.aN,Pn.mzL,xZ]at c1 c2 c3 d1 d2 d3 ⊢
  try simp at c1 c2 c3 d1 d2 d3
  simp[c1,c2,c3,d1,d2,d3]
theorem MB {q:Pn} {k:Int} (h0:0≤k) (h1:k+(q.mk4:Nat)<1000000000000):aH CZ 14 [rqA q 0, .int k] (rqB (q.mkK k))=some (.int (k+(q.mk4:Nat)),rqB (q.mkK k)):=by
 have h:=NE h0 h1;rw[bG (C:=CZ) (p:=IG (aH C0) 14) rfl];rw[Pn.aB]at h;simp only[Pn.mkK,Pn.bI,Pn.bM,Pn.bA,Pn.bU,Pn.dE]at h;rw[UY];have b1:=F5 (Ex.iY k q.exprs);have b2:=EZ (vM (k+4*(Ex.aN q.exprs:Nat)) q.cols);have b3:=EY (Pn.jW (k+4*(Ex.aN q.exprs:Nat)+(q.cols.length:Nat)) q.kids);have b4:=eG (vM (k+4*(Ex.aN q.exprs:Nat)) q.cols);rw[BM]at b1;rw[IA]at b2;rw[uB]at b3
 by_cases q1:q.exprs=[]<;>by_cases q2:q.cols=[]<;>by_cases q3:q.kids=[] <;>
  (simp only[rqA,q1,q2,q3,if_true,if_false,zD,zG,zC,Ex.aA,aG,Pn.aA,Ex.iY,Pn.jW,eP]at h b1 b2 b3 b4 ⊢
   try simp at h
   simp[h,b1,b2,b3,b4,BM,uB,IA])
end Go.Proofs.Ytjdfjgmebalaaaa.P
namespace Go.Av
theorem XM {w:World} {a:Addr} {v:Value} (h:w.cell? (a.add 0)=some v):∃ b off,a=⟨b,off,none⟩:=by
 obtain⟨b,off,spot⟩:=a;simp only[Addr.add,if_true,World.cell?]at h
 cases spot with
 | none=>exact⟨b,off,rfl⟩
 | some s=>split at h<;>simp at h
theorem AG1 {cs:List Value} (h:cs.length=5):∃ c0 c1 c2 c3 c4,cs=[c0,c1,c2,c3,c4]:=by
 match cs,h with
 | [c0,c1,c2,c3,c4],_=>exact⟨c0,c1,c2,c3,c4,rfl⟩
end Go.Av
namespace Go.Proofs.Ytjdfjgmebalaaaa.P
open Go Go.Av
set_option maxRecDepth 4000
variable {H:Type} {enc:TypeId×Value→H} {w:World} {sp:Nat→Bool}
theorem ce3:Try.prog.cellsOf 3=1:=by kernel_rfl
theorem ce4:Try.prog.cellsOf 4=1:=by kernel_rfl
theorem AL3:Try.prog.cellsOf 67=2:=by kernel_rfl
theorem AL2:Try.prog.cellsOf 22=1:=by kernel_rfl
theorem AJW:Try.prog.cellsOf 69=5:=by kernel_rfl
theorem AHC {fuel:Nat} {cs:List Value} {r:DataW H×List MemPlace} (h:DataW.trod enc Try.prog w 0 sp true fuel 67 cs=some r):∃ v:Val,cs=[.bool v.null, .int .i64 v.n]:=by
 obtain⟨xs,n,rfl,_,hl,hx,hf⟩:=DataW.trod_struct Try.underlying67 h;rw[AL3]at hl;have h0:DataW.trod enc Try.prog w 0 sp true n 4 ((cs.drop 0).take (Try.prog.cellsOf 4))=xs[0]?:=hf 0 _ rfl;have h1:DataW.trod enc Try.prog w 0 sp true n 3 ((cs.drop 1).take (Try.prog.cellsOf 3))=xs[1]?:=hf 1 _ rfl;rw[ce4]at h0;rw[ce3]at h1;have hx:xs.length=2:=hx;rw[zV (by omega)]at h0 h1;obtain⟨b,hb,_⟩:=DataW.trod_bool Try.underlying4 h0;obtain⟨k,hk,_⟩:=DataW.trod_int Try.underlying3 h1
 match cs,hl with
 | [c0,c1],_ =>
  simp at hb hk;exact⟨⟨b,k⟩,by rw[hb,hk]⟩
theorem PO {b:Nat} {P:List Value→List IV→Prop} {k:Nat} (hk:∀ cs l,P cs l→l.length=k∧ICells (eO w) l cs):∀ (n off:Nat),(∀ i,i<n→∃ cs l,P cs l∧∀ j v,cs[j]?=some v→w.cell? ⟨b,off+k*i+j,none⟩=some v) →
 ∃ es:List (List IV),es.length=n∧IElems (eO w) b off k es∧∀ e∈es,∃ cs,P cs e
 | 0,off,_=>⟨[],rfl, .nil _ _ _,by simp⟩
 | n+1,off,h=>by
  obtain⟨cs,l,h1,h2⟩:=h 0 (by omega);obtain⟨k1,k2⟩:=hk cs l h1
  obtain⟨es,e1,e2,e3⟩:=PO hk n (off+k) (fun i hi=>by
   obtain⟨cs,l,h3,h4⟩:=h (i+1) (by omega)
   exact⟨cs,l,h3,fun j v hj=>by rw[← h4 j v hj];congr 2;rw[zK];omega⟩)
  refine⟨l::es,by simp[e1], .cons (IAt.mk off k2 fun j v hj=>?_) k1 e2,?_⟩
  ·have:=h2 j v hj;show w.cell? ⟨b,off+j,none⟩=some v;simpa using this
  ·intro e he
   rcases zR.1 he with rfl|he
   ·exact⟨cs,h1⟩
   ·exact e3 e he
theorem wP {fuel:Nat} {t e:TypeId} {c:Value} {r:DataW H×List MemPlace} {k:Nat} {P:List Value→List IV→Prop} (ht:Try.prog.underlying t=some (.slice e)) (hce:Try.prog.cellsOf e=k) (hk0:0<k) (hk:∀ cs l,P cs l→l.length=k∧ICells (eO w) l cs)
 (ih:∀ n,n<fuel→∀ cs x,DataW.trod enc Try.prog w 0 sp true n e cs=some x→∃ l,P cs l) (h:DataW.trod enc Try.prog w 0 sp true fuel t [c]=some r) :
 ∃ es:List (List IV),IRep (eO w) (.isl es) c∧es.length<9223372036854775808∧∀ x∈es,∃ cs,P cs x:=by
 rcases DataW.trod_slice ht h with ⟨h1,_⟩|⟨a,len,cap,elems,rest,n,rfl,h1,_,_,hlc,hcm,hel,hat,_,_⟩
 ·injection h1 with h1;subst h1;exact⟨[], .isl0 _ _ fun _=>rfl,by simp,by simp⟩
 ·injection h1 with h1;subst h1;by_cases h0:len=0
  ·subst h0;exact⟨[], .isl0 _ _ (by simp),by simp,by simp⟩
  ·rw[hce]at hat
   have get:∀ i,i<len→∃ cs l,P cs l∧cs.length=k∧∀ j,j<k→w.cell? ((a.add (i*k)).add j)=cs[j]?:=by
    intro i hi;have h2:=hat i hi;rw[zV (by omega)]at h2;obtain⟨cs,h3,h4⟩:=Option.bind_eq_some_iff.1 h2;obtain⟨_,h5,h6⟩:=World.cells?_some h3;obtain⟨l,h7⟩:=ih n (by omega) cs _ h4;exact⟨cs,l,h7,h5,h6⟩
   obtain⟨b,off,rfl⟩:∃ b off,a=⟨b,off,none⟩:=by
    obtain⟨cs,l,_,h5,h6⟩:=get 0 (by omega);have h7:=h6 0 hk0;rw[zV (by omega)]at h7;refine XM (v:=cs[0]'(by omega)) (w:=w) ?_;rw[← h7,Nat.zero_mul];congr 1
   obtain⟨es,e1,e2,e3⟩:=PO (b:=b) hk len off (fun i hi=>by
    obtain⟨cs,l,h4,h5,h6⟩:=get i hi;refine⟨cs,l,h4,fun j v hj=>?_⟩;have hjl:=(zZ.1 hj).1;have:=h6 j (by omega);rw[hj,Addr.cZ,Addr.cZ]at this
    rw[← this,z8 k i])
   refine⟨es,?_,by rw[e1];unfold maxLen at hcm;omega,e3⟩;have hne:es≠[]:=fun h=>by rw[h]at e1;simp at e1;omega
   have:=IRep.isl (m:=eO w) (cap:=cap) hne e2 (by omega)
   rwa [e1]at this
theorem AHD:∀ (fuel:Nat) (cs:List Value) (r:DataW H×List MemPlace),DataW.trod enc Try.prog w 0 sp true fuel 69 cs=some r→∃ e:Ex,e.fat∧ICells (eO w) e.cells cs:=by
 intro fuel
 induction fuel using Nat.strongRecOn with
 | _ fuel ih =>
  intro cs r h;obtain⟨xs,n,rfl,_,hl,hx,hf⟩:=DataW.trod_struct Try.underlying69 h;rw[AJW]at hl;have h0:DataW.trod enc Try.prog w 0 sp true n 3 ((cs.drop 0).take (Try.prog.cellsOf 3))=xs[0]?:=hf 0 _ rfl;have h1:DataW.trod enc Try.prog w 0 sp true n 3 ((cs.drop 1).take (Try.prog.cellsOf 3))=xs[1]?:=hf 1 _ rfl;have h2:DataW.trod enc Try.prog w 0 sp true n 67 ((cs.drop 2).take (Try.prog.cellsOf 67))=xs[2]?:=hf 2 _ rfl;have h3:DataW.trod enc Try.prog w 0 sp true n 22 ((cs.drop 4).take (Try.prog.cellsOf 22))=xs[3]?:=hf 3 _ rfl;rw[ce3]at h0 h1;rw[AL3]at h2;rw[AL2]at h3;have hx:xs.length=4:=hx;rw[zV (by omega)]at h0 h1 h2 h3;obtain⟨c0,c1,c2,c3,c4,rfl⟩:=AG1 hl;obtain⟨k0,hk0,_⟩:=DataW.trod_int Try.underlying3 h0;obtain⟨k1,hk1,_⟩:=DataW.trod_int Try.underlying3 h1;obtain⟨v,hv⟩:=AHC h2;simp at hk0 hk1 hv;obtain⟨rfl,rfl⟩:=hv;subst hk0;subst hk1;simp at h3
  obtain⟨es,e1,e2,e3⟩:=wP (P:=fun cs l=>∃ e:Ex,e.fat∧l=e.cells∧ICells (eO w) l cs) Try.underlying22 AJW (by omega) (fun cs l ⟨e,_,h5,h6⟩=>⟨by rw[h5,Ex.aB];rfl,h6⟩)
   (fun m hm cs x hx=>by
    obtain⟨e,h5,h6⟩:=ih m (by omega) cs x hx
    exact⟨e.cells,e,h5,rfl,h6⟩) h3
  have hl:∃ l:List Ex,Ex.aA l=es∧∀ a∈l,a.fat:=by
   have key:∀ es:List (List IV),(∀ x∈es,∃ cs,∃ e:Ex,e.fat∧x=e.cells∧ICells (eO w) x cs)→∃ l:List Ex,Ex.aA l=es∧∀ a∈l,a.fat:=by
    intro es
    induction es with
    | nil=>intro _;exact⟨[],rfl,by simp⟩
    | cons x es ihe =>
     intro h;obtain⟨_,e,h5,h6,_⟩:=h x (by simp);obtain⟨l,h7,h8⟩:=ihe fun y hy=>h y (by simp[hy])
     exact⟨e::l,by simp[Ex.aA,h6,h7],fun a ha=>by
      rcases zR.1 ha with rfl|ha
      ·exact h5
      ·exact h8 a ha⟩
   exact key es e3
  obtain⟨l,rfl,hfat⟩:=hl;refine⟨.mk k0 k1 v l,(Ex.nG _).2 ⟨by simpa [Ex.kids]using e2,hfat⟩,?_⟩;rw[show(Ex.mk k0 k1 v l).cells=[.int k0, .int k1, .bool v.null, .int v.n, .isl (Ex.aA l)]by simp[Ex.cells]];exact .cons (.lit _) rfl (.cons (.lit _) rfl (.cons (.lit _) rfl (.cons (.lit _) rfl (.cons e1 (o7 e1) .nil))))
theorem ceI:Try.prog.cellsOf 3=1:=by kernel_rfl
theorem ALD:Try.prog.cellsOf 24=1:=by kernel_rfl
theorem ALE:Try.prog.cellsOf 23=1:=by kernel_rfl
theorem ceP:Try.prog.cellsOf 26=5:=by kernel_rfl
theorem WI {fuel:Nat} {c:Value} {r:DataW H×List MemPlace} (h:DataW.trod enc Try.prog w 0 sp true fuel 23 [c]=some r):∃ l:List Int,l.length<9223372036854775808∧IRep (eO w) (.isl (aG l)) c:=by
 obtain⟨es,e1,e2,e3⟩:=wP (P:=fun cs l=>∃ n:Int,l=[.int n]∧cs=[.int .i64 n]) Try.underlying23 ceI (by omega) (fun cs l ⟨v,h5,h6⟩=>⟨by rw[h5];rfl,by rw[h5,h6];exact .cons (.lit _) rfl .nil⟩)
  (fun m hm cs x hx=>by
   obtain⟨k,hk,_⟩:=DataW.trod_int Try.underlying3 hx
   exact⟨[.int k],k,rfl,hk⟩) h
 have key:∀ es:List (List IV),(∀ x∈es,∃ cs:List Value,∃ n:Int,x=[.int n]∧cs=[.int .i64 n])→∃ l:List Int,aG l=es:=by
  intro es
  induction es with
  | nil=>intro _;exact⟨[],rfl⟩
  | cons x es ihe =>
   intro h;obtain⟨_,v,h5,_⟩:=h x (by simp);obtain⟨l,h7⟩:=ihe fun y hy=>h y (by simp[hy])
   exact⟨v::l,by simp[aG,h5,h7]⟩
 obtain⟨l,rfl⟩:=key es e3;exact⟨l,by simpa using e2,e1⟩
theorem ADG {fuel:Nat} {c:Value} {r:DataW H×List MemPlace} (h:DataW.trod enc Try.prog w 0 sp true fuel 22 [c]=some r):∃ l:List Ex,l.length<9223372036854775808∧(∀ a∈l,a.fat)∧IRep (eO w) (.isl (Ex.aA l)) c:=by
 obtain⟨es,e1,e2,e3⟩:=wP (P:=fun cs l=>∃ e:Ex,e.fat∧l=e.cells∧ICells (eO w) l cs) Try.underlying22 AJW (by omega) (fun cs l ⟨e,_,h5,h6⟩=>⟨by rw[h5,Ex.aB];rfl,h6⟩)
  (fun m hm cs x hx=>by
   obtain⟨e,h5,h6⟩:=AHD m cs x hx
   exact⟨e.cells,e,h5,rfl,h6⟩) h
 have key:∀ es:List (List IV),(∀ x∈es,∃ cs,∃ e:Ex,e.fat∧x=e.cells∧ICells (eO w) x cs)→∃ l:List Ex,Ex.aA l=es∧∀ a∈l,a.fat:=by
  intro es
  induction es with
  | nil=>intro _;exact⟨[],rfl,by simp⟩
  | cons x es ihe =>
   intro h;obtain⟨_,e,h5,h6,_⟩:=h x (by simp);obtain⟨l,h7,h8⟩:=ihe fun y hy=>h y (by simp[hy])
   exact⟨e::l,by simp[Ex.aA,h6,h7],fun a ha=>by
    rcases zR.1 ha with rfl|ha
    ·exact h5
    ·exact h8 a ha⟩
 obtain⟨l,rfl,hfat⟩:=key es e3;exact⟨l,by simpa using e2,hfat,e1⟩
theorem WH:∀ (fuel:Nat) (cs:List Value) (r:DataW H×List MemPlace),DataW.trod enc Try.prog w 0 sp true fuel 26 cs=some r→∃ p:Pn,p.fat∧ICells (eO w) p.cells cs:=by
 intro fuel
 induction fuel using Nat.strongRecOn with
 | _ fuel ih =>
  intro cs r h;obtain⟨xs,n,rfl,_,hl,hx,hf⟩:=DataW.trod_struct Try.underlying26 h;rw[ceP]at hl;have h0:DataW.trod enc Try.prog w 0 sp true n 3 ((cs.drop 0).take (Try.prog.cellsOf 3))=xs[0]?:=hf 0 _ rfl;have h1:DataW.trod enc Try.prog w 0 sp true n 3 ((cs.drop 1).take (Try.prog.cellsOf 3))=xs[1]?:=hf 1 _ rfl;have h2:DataW.trod enc Try.prog w 0 sp true n 22 ((cs.drop 2).take (Try.prog.cellsOf 22))=xs[2]?:=hf 2 _ rfl;have h3:DataW.trod enc Try.prog w 0 sp true n 23 ((cs.drop 3).take (Try.prog.cellsOf 23))=xs[3]?:=hf 3 _ rfl;have h4:DataW.trod enc Try.prog w 0 sp true n 24 ((cs.drop 4).take (Try.prog.cellsOf 24))=xs[4]?:=hf 4 _ rfl;rw[ceI]at h0 h1;rw[AL2]at h2;rw[ALE]at h3;rw[ALD]at h4;have hx:xs.length=5:=hx;rw[zV (by omega)]at h0 h1 h2 h3 h4;obtain⟨c0,c1,c2,c3,c4,rfl⟩:=AG1 hl;obtain⟨k0,hk0,_⟩:=DataW.trod_int Try.underlying3 h0;obtain⟨k1,hk1,_⟩:=DataW.trod_int Try.underlying3 h1;simp at hk0 hk1;subst hk0;subst hk1;simp at h2 h3 h4;obtain⟨es,le,fe,re⟩:=ADG h2;obtain⟨is,li,ri⟩:=WI h3
  obtain⟨ps,e1,e2,e3⟩:=wP (P:=fun cs l=>∃ e:Pn,e.fat∧l=e.cells∧ICells (eO w) l cs) Try.underlying24 ceP (by omega) (fun cs l ⟨e,_,h5,h6⟩=>⟨by rw[h5,Pn.aB];rfl,h6⟩)
   (fun m hm cs x hx=>by
    obtain⟨e,h5,h6⟩:=ih m (by omega) cs x hx
    exact⟨e.cells,e,h5,rfl,h6⟩) h4
  have key:∀ es:List (List IV),(∀ x∈es,∃ cs,∃ e:Pn,e.fat∧x=e.cells∧ICells (eO w) x cs)→∃ l:List Pn,Pn.aA l=es∧∀ a∈l,a.fat:=by
   intro es
   induction es with
   | nil=>intro _;exact⟨[],rfl,by simp⟩
   | cons x es ihe =>
    intro h;obtain⟨_,e,h5,h6,_⟩:=h x (by simp);obtain⟨l,h7,h8⟩:=ihe fun y hy=>h y (by simp[hy])
    exact⟨e::l,by simp[Pn.aA,h6,h7],fun a ha=>by
     rcases zR.1 ha with rfl|ha
     ·exact h5
     ·exact h8 a ha⟩
  obtain⟨l,rfl,hfat⟩:=key ps e3;refine⟨.mk k0 k1 es is l,(Pn.nG _).2 ⟨le,fe,li,by simpa using e2,hfat⟩,?_⟩;rw[Pn.dB];exact .cons (.lit _) rfl (.cons (.lit _) rfl (.cons re (o7 re) (.cons ri (o7 ri) (.cons e1 (o7 e1) .nil))))
end Go.Proofs.Ytjdfjgmebalaaaa.P
namespace Go.Av
theorem Ex.AA:∀ (e:Ex),e.thin→e.fat:=by
 intro e
 induction e using Ex.ind with
 | h k c v ks ih =>
  intro h;have h':=(Ex.bL _).1 h;exact(Ex.nG _).2 ⟨by have:=h'.1;omega,fun a ha=>ih a ha (h'.2 a ha)⟩
theorem Pn.AA:∀ (p:Pn),p.thin→p.fat:=by
 intro p
 induction p using Pn.ind with
 | h k t es cs ks ih =>
  intro h;obtain⟨h1,h2,h3,h4,h5⟩:=(Pn.bL _).1 h;exact(Pn.nG _).2 ⟨by omega,fun e he=>Ex.AA e (h2 e he),by omega,by omega,fun a ha=>ih a ha (h5 a ha)⟩
theorem WJ {p v:Pn} (hp:p.thin) (ws:List Int) (t:Int):(fvP p v ws t).thin:=by
 unfold fvP;split
 ·exact SE v t p hp
 ·exact Pn.U4
mutual
theorem PW (v:Pn) (t:Int):∀ p:Pn,(dF v t p).ms≤p.ms
 | .mk k tb es cs ks=>by
  have:=L8 v t ks;unfold dF;split
  ·simp[Pn.scan,Pn.ms,Ex.aN,Pn.msL]
  ·simp only[Pn.ms];omega
theorem L8 (v:Pn) (t:Int):∀ l:List Pn,Pn.msL (bS v t l)≤Pn.msL l
 | []=>by simp[bS]
 | p::l=>by have:=PW v t p;have:=L8 v t l;simp only[bS,Pn.msL];omega
end
theorem ZK (p v:Pn) (ws:List Int) (t:Int):(fvP p v ws t).meas≤p.meas:=by
 unfold fvP;split
 ·have:=PW v t p;rw[Pn.VG,Pn.VG]at this;omega
 ·simp[Pn.zero,Pn.meas,Ex.aN,Pn.msL]
end Go.Av
namespace Go.Proofs.Ytjdfjgmebalaaaa.P
open Go Go.Av Go.Av.Mk
set_option maxRecDepth 8000
set_option maxHeartbeats 16000000
theorem uG {p v:Pn} {ws:List Int} {t:Int} (hp:p.fat) (hv:v.fat) (hl:ws.length<9223372036854775808):aH CZ 3 [.i (.agg p.cells), .i (.agg v.cells), .i (.isl (aG ws)), .int t] []=some (.bool true,[]):=by
 rw[aI rfl Try.func3 rfl rfl];by_cases hw:(1048576:Int)<ws.length
 ·rw[Pn.aB p,Pn.aB v];simp[hw]
 have s1:=O9 hp (left:=1048576) (by omega) (by omega);by_cases c1:dC 1048576 p.meas<0
 ·rw[Pn.aB p,Pn.aB v]at *
  simp[hw,s1,c1]
 have l1:=II (left:=1048576) (a:=p.meas) (by omega);have s2:=O9 hv (left:=dC 1048576 p.meas) (by omega) (by omega);by_cases c2:dC (dC 1048576 p.meas) v.meas<0
 ·rw[Pn.aB p,Pn.aB v]at *
  simp[hw,s1,c1,s2,c2]
 have m1:p.meas≤1048576:=by
  unfold dC at c1;split at c1<;>omega
 have m2:v.meas≤1048576:=by
  rw[dC]at c2;split at c2<;>omega
 have tp:=Pn.EU p (by omega);have tv:=Pn.EU v (by omega);have e1:=O8 tp;have e1':=O8 tv;have e2:=YB (l:=ws) (by omega);have e3:=M7 tp tv (ws:=ws) (by omega) (t:=t);have e4:=QH (v:=v) tp (ws:=ws) (t:=t);have e5:=JA hp;have e5':=JA hv;have e6:=YC (l:=ws) (by omega);have mk:=Pn.VJ p;have mk':=Pn.VJ v;have e7:=wV (p:=p) (k:=1) (by omega) (by omega);have e7':=wV (p:=v) (k:=1+(p.mk4:Nat)) (by omega) (by omega);have e8:=tO (l:=ws) (k:=1+(p.mk4:Nat)+(v.mk4:Nat)) (by omega) (by omega);have n1:¬ 1+(p.mk4:Int)+(v.mk4:Int)+(ws.length:Int)<0:=by omega
 have tq:=WJ (v:=v) tp ws t;have mq:=ZK p v ws t;generalize fvP p v ws t=q at *
 generalize fvN p v ws t=N at *
 have mkq:=Pn.VJ q;have e9:=U5 (Pn.AA q tq);have e10:=M8 (q:=q) (k:=1) (by omega) (by omega);have e11:=MB (q:=q) (k:=1) (by omega) (by omega);have n2:¬ 1+(q.mk4:Int)<0:=by omega
 rw[UY]at e10 e11;rw[Pn.aB p,Pn.aB v]at *
 rw[Pn.aB q]at *
 simp[tP,tPB]at e1 e1' e3 e4 e5 e5' e7 e7'
 by_cases q1:q.exprs=[]<;>by_cases q2:q.cols=[]<;>by_cases q3:q.kids=[] <;>
  (simp only[rqA,rqB,q1,q2,q3,if_true,if_false,zD,zG,zC]at e3 e4 e9 e10 e11
   try simp at e4 e9 e10 e11
   simp[hw,s1,c1,s2,c2,e1,e1',e2,e3,e4,e5,e5',e6,e7,e7',e8,e9,e10,e11,n1,n2])
theorem nA {w:World} {p q:Pn} {v v':Value} {ws:List Int} {t:Int} {c:Value} (hp:p.fat) (hq:q.fat) (rp:IRep (eO w) (.agg p.cells) v) (rq:IRep (eO w) (.agg q.cells) v') (hl:ws.length<9223372036854775808) (hw:IRep (eO w) (.isl (aG ws)) c) :
 Calls Try.prog 3 #[v,v',c, .int .i64 t] w fun e w'=>e=.returned (.bool true)∧RowKit.Below w.heap.size w w' :=
 TB AG7 (.cons (.i rp) (.cons (.i rq) (.cons (.i hw) (.cons (.i (.lit _)) .nil)))) (uG hp hq hl)
end Go.Proofs.Ytjdfjgmebalaaaa.P

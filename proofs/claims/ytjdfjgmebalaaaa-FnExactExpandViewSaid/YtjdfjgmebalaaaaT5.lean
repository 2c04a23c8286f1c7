/- Part 5 of what the proof rests on: the executor and what it is worth, and the program's functions as it runs them. No condition. -/
import Derived.Test.YtjdfjgmebalaaaaT4
import Derived.ChangeOld
import Derived.OpenShut
set_option linter.unusedVariables false
set_option linter.unusedSimpArgs false
namespace Go.Av
mutual
def Pn.fat:Pn→Prop
 | .mk _ _ es cs ks=>es.length<9223372036854775808∧(∀ e∈es,e.fat)∧cs.length<9223372036854775808∧ks.length<9223372036854775808∧Pn.XE ks
def Pn.XE:List Pn→Prop
 | []=>True
 | p::ps=>p.fat∧Pn.XE ps
end
theorem Pn.sZ:∀ (l:List Pn),Pn.XE l↔∀ p∈l,p.fat
 | []=>by simp[Pn.XE]
 | p::ps=>by simp[Pn.XE,Pn.sZ ps]
theorem Pn.nA (p:Pn):p.fat↔p.exprs.length<9223372036854775808∧(∀ e∈p.exprs,e.fat)∧p.cols.length<9223372036854775808∧p.kids.length<9223372036854775808∧∀ a∈p.kids,a.fat:=by
 cases p;simp[Pn.fat,Pn.sZ]
end Go.Av
namespace Go.Proofs.Ytjdfjgmebalaaaa.P
open Go Go.Av
set_option maxRecDepth 4000
set_option maxHeartbeats 4000000
def TIX (l:List Int) (i:Nat):AS :=
 { env:=[(0, .i (.isl (aF l))),(2, .nils),(3, .osl 0 1 0 l.length),(4, .int i),(11,jk i (.bool true))],st:=[some (.arr 1 (aF (l.take i)++List.replicate (l.length-i) [.int 0]))] }
def EIX (l:List Int) (i:Nat):AS :=
 { env:=[(0, .i (.isl (aF l))),(1, .i (.isl (aF l))),(4, .bool false),(5, .int i),(10, .bool false),(14,jk i (.bool true)),(25,jk i (.bool false))],st:=[] }
theorem ED (l:List Int) (hl:l.length<9223372036854775808):aH C0 11 [.i (.isl (aF l)), .i (.isl (aF l))] []=some (.bool true,[]):=by
 rw[aI rfl Try.func11 rfl rfl];simp;rw[aV (EIX l) l.length (by simp[EIX])]
 ·rw[aG];simp[EIX]
 ·intro i hi;have h3:=zW hi;have r2:=bO h3;generalize l[i]=a at h3 r2;have w2:IntKind.i64.wrap ((i:Int)+1)=i+1:=wrO;simp[EIX,hi,r2,w2]
theorem XK {p:Pn} (h1:aH C0 29 [.i (.isl (Ex.aA p.exprs)), .i (.isl (Ex.aA p.exprs))] []=some (.bool true,[])) (h2:aH C0 11 [.i (.isl (aF p.cols)), .i (.isl (aF p.cols))] []=some (.bool true,[])) (h3:aH C0 30 [.i (.isl (Pn.aA p.kids)), .i (.isl (Pn.aA p.kids))] []=some (.bool true,[])) :
 aH C0 10 [.i (.agg p.cells), .i (.agg p.cells)] []=some (.bool true,[]):=by
 rw[aI rfl Try.func10 rfl rfl,Pn.aB];simp[h1,h2,h3]
def EPS (l:List Pn) (i:Nat):AS :=
 { env:=[(0, .i (.isl (Pn.aA l))),(1, .i (.isl (Pn.aA l))),(4, .bool false),(5, .int i),(10, .bool false),(14,jk i (.bool true)),(26,jk i (.bool false))],st:=[] }
theorem TL {l:List Pn} (hl:l.length<9223372036854775808) (ih:∀ a∈l,aH C0 10 [.i (.agg a.cells), .i (.agg a.cells)] []=some (.bool true,[])):aH C0 30 [.i (.isl (Pn.aA l)), .i (.isl (Pn.aA l))] []=some (.bool true,[]):=by
 rw[aI rfl Try.func30 rfl rfl];simp;rw[aV (EPS l) l.length (by simp[EPS])]
 ·rw[aG];simp[EPS]
 ·intro i hi;have h3:=zW hi;have hc:=ih _ (zT h3);have r2:=Pn.aP h3;generalize l[i]=a at h3 hc r2;have w2:IntKind.i64.wrap ((i:Int)+1)=i+1:=wrO;rw[Pn.aB]at hc r2;simp[EPS,hi,r2,hc,w2]
theorem EC:∀ (p:Pn),p.fat→aH C0 10 [.i (.agg p.cells), .i (.agg p.cells)] []=some (.bool true,[]):=by
 intro p
 induction p using Pn.ind with
 | h k t es cs ks ih =>
  intro hf;obtain⟨h1,h2,h3,h4,h5⟩:=(Pn.nA _).1 hf;exact XK (AAQ es h1 h2) (ED cs h3) (TL h4 fun a ha=>ih a ha (h5 a ha))
def zpw:List IV:=[.int 0, .int 0, .isl [], .isl [], .isl []]
end Go.Proofs.Ytjdfjgmebalaaaa.P
namespace Go.Av
mutual
def Pn.ms:Pn→Nat
 | .mk _ _ es cs ks=>1+(Ex.aL es+(cs.length+Pn.msL ks))
def Pn.msL:List Pn→Nat
 | []=>0
 | p::l=>p.ms+Pn.msL l
end
def Pn.meas (p:Pn):Nat:=Ex.aL p.exprs+(p.cols.length+Pn.msL p.kids)
theorem Pn.SA (p:Pn):p.ms=1+p.meas:=by cases p;simp[Pn.ms,Pn.meas,Pn.exprs,Pn.cols,Pn.kids]
theorem Pn.AC9 (p:Pn):1≤p.ms:=by rw[Pn.SA];omega
theorem Pn.pG:∀ (l:List Pn),l.length≤Pn.msL l
 | []=>by simp
 | p::l=>by have:=Pn.pG l;have:=Pn.AC9 p;simp only[zP,Pn.msL];omega
theorem Pn.WH:∀ {l:List Pn} {p:Pn},p∈l→p.ms≤Pn.msL l
 | a::l,p,h=>by
  simp only[Pn.msL]
  rcases zS.1 h with rfl|h
  ·omega
  ·have:=Pn.WH h;omega
theorem WG (l:List Pn) {i:Nat} {a:Pn} (h:l[i]?=some a):Pn.msL (l.take (i+1))=Pn.msL (l.take i)+a.ms:=by
 induction l generalizing i with
 | nil=>simp at h
 | cons b l ih =>
  cases i with
  | zero=>simp at h;subst h;simp[Pn.msL]
  | succ i=>have:=ih (i:=i) (by simpa using h);simp only[yP,Pn.msL]at this ⊢;omega
theorem AA1 (l:List Pn) (i:Nat):Pn.msL (l.take i)≤Pn.msL l:=by
 induction l generalizing i with
 | nil=>simp[Pn.msL]
 | cons b l ih =>
  cases i with
  | zero=>simp[Pn.msL]
  | succ i=>simp only[yP,Pn.msL];have:=ih i;omega
theorem vW:∀ (l:List Pn) (i:Nat),i≤l.length→i≤Pn.msL (l.take i)
 | [],i,h=>by simp at h;subst h;simp
 | a::l,0,_=>by simp
 | a::l,i+1,h=>by
  have:=vW l i (by simpa using h);have:=Pn.AC9 a;simp only[yP,Pn.msL];omega
theorem Pn.G5:∀ (p:Pn),p.meas<100000000→p.thin:=by
 intro p
 induction p using Pn.ind with
 | h k t es cs ks ih =>
  intro h;simp only[Pn.meas,Pn.exprs,Pn.cols,Pn.kids]at h;have h1:=Ex.dJ es;have h2:=Pn.pG ks;refine(Pn.bR _).2 ⟨by simp only[Pn.exprs];omega,fun e he=>Ex.KP e (by have:=Ex.BK (show e∈es from he);omega),by simp only[Pn.cols];omega,by simp only[Pn.kids];omega,fun a ha=>ih a ha ?_⟩;have h3:=Pn.WH (show a∈ks from ha);rw[Pn.SA]at h3;omega
theorem LP {left:Int} {a b:Nat} (h:0≤dD left a):dD (dD left a) b=dD left (a+b):=by
 unfold dD at h ⊢;by_cases ha:(a:Int)≤left
 ·rw[if_pos ha]at h ⊢;by_cases hb:(b:Int)≤left-a
  ·rw[if_pos hb,if_pos (by omega)];omega
  ·rw[if_neg hb,if_neg (by omega)]
 ·rw[if_neg ha]at h;omega
theorem CW {left:Int} {a:Nat} (h:dD left a<0) (b:Nat):dD left a=-1∧dD left (a+b)=-1:=by
 unfold dD at h ⊢;by_cases ha:(a:Int)≤left
 ·rw[if_pos ha]at h;omega
 ·rw[if_neg ha,if_neg (by omega)];exact⟨rfl,rfl⟩
theorem JG {left:Int} {a:Nat} (h:0≤left):dD left a≤left:=by
 unfold dD;split<;>omega
end Go.Av
namespace Go.Proofs.Ytjdfjgmebalaaaa.P
open Go Go.Av
set_option maxRecDepth 4000
set_option maxHeartbeats 2000000
theorem ZL (l:List Int) (hl:l.length<9223372036854775808) (left:Int) (h0:0≤left) (h1:left<1000000000):aH C0 18 [.i (.isl (aF l)), .int left] []=some (.int (dD left l.length),[]):=by
 rw[aI rfl Try.func18 rfl rfl];have w1:IntKind.i64.wrap (left-l.length)=left-l.length:=wrO;by_cases hc:left-l.length<0
 ·have:¬ ((l.length:Nat):Int)≤left:=by omega
  simp[w1,hc,dD,this]
 ·have:((l.length:Nat):Int)≤left:=by omega
  simp[w1,hc,dD,this]
theorem AH7 {p:Pn} {left:Int} (h1:aH C0 17 [.i (.isl (Ex.aA p.exprs)), .int left] []=some (.int (dD left (Ex.aL p.exprs)),[]))
 (h2:0≤dD left (Ex.aL p.exprs)→aH C0 18 [.i (.isl (aF p.cols)), .int (dD left (Ex.aL p.exprs))] []=some (.int (dD left (Ex.aL p.exprs+p.cols.length)),[]))
 (h3:0≤dD left (Ex.aL p.exprs+p.cols.length)→aH C0 19 [.i (.isl (Pn.aA p.kids)), .int (dD left (Ex.aL p.exprs+p.cols.length))] []=some (.int (dD left (Ex.aL p.exprs+p.cols.length+Pn.msL p.kids)),[])) :
 aH C0 5 [.i (.agg p.cells), .int left] []=some (.int (dD left p.meas),[]):=by
 rw[aI rfl Try.func5 rfl rfl,Pn.aB];have hm:p.meas=Ex.aL p.exprs+p.cols.length+Pn.msL p.kids:=by unfold Pn.meas;omega
 rw[hm];by_cases c1:dD left (Ex.aL p.exprs)<0
 ·obtain⟨e1,e2⟩:=CW c1 (p.cols.length+Pn.msL p.kids);rw[← Nat.add_assoc]at e2;simp[h1,c1,e2]
 ·have h2:=h2 (by omega);by_cases c2:dD left (Ex.aL p.exprs+p.cols.length)<0
  ·obtain⟨e1,e2⟩:=CW c2 (Pn.msL p.kids);simp[h1,c1,h2,c2,e2]
  ·have h3:=h3 (by omega);by_cases c3:dD left (Ex.aL p.exprs+p.cols.length+Pn.msL p.kids)<0
   ·obtain⟨e1,e2⟩:=CW c3 0;simp[h1,c1,h2,c2,h3,c3,e1]
   ·simp[h1,c1,h2,c2,h3,c3]
def szJ (l:List Pn) (left:Int) (i:Nat):Int:=left-l.length-(Pn.msL (l.take i)-i)
def SZP (l:List Pn) (left:Int) (i:Nat):AS :=
 { env:=[(0, .i (.isl (Pn.aA l))),(1, .int (szJ l left i)),(4, .int 0),(5, .int i),(11, .bool false),(15,jk i (.bool true)),(25,jk i (.bool false))],st:=[] }
theorem VG {l:List Pn} {left:Int} (h0:0≤left) (h1:left<1000000000) (hl:l.length<9223372036854775808)
 (ih:∀ a∈l,∀ left:Int,0≤left→left<1000000000→aH C0 5 [.i (.agg a.cells), .int left] []=some (.int (dD left (a.meas)),[])) :
 aH C0 19 [.i (.isl (Pn.aA l)), .int left] []=some (.int (dD left (Pn.msL l)),[]):=by
 rw[aI rfl Try.func19 rfl rfl];have w1:IntKind.i64.wrap (left-l.length)=left-l.length:=wrO;have hsl:=Pn.pG l;by_cases hc:left-l.length<0
 ·have:¬ ((Pn.msL l:Nat):Int)≤left:=by omega
  simp[w1,hc,dD,this]
 simp[w1,hc]
 have hpre:∀ i,i<l.length→∃ a,l[i]?=some a∧a∈l∧Pn.msL (l.take (i+1))=Pn.msL (l.take i)+(1+a.meas)∧gB (Pn.aA l) i=some a.cells:=by
  intro i hi;have h3:=zW hi;refine⟨_,h3,zT h3,?_,Pn.aP h3⟩;rw[WG l h3,Pn.SA]
 have hround:∀ i,i<l.length→0≤szJ l left i→∃ a:Pn,gB (Pn.aA l) i=some a.cells∧aH C0 5 [.i (.agg a.cells), .int (szJ l left i)] []=some (.int (if 0≤szJ l left (i+1)then szJ l left (i+1)else -1),[]):=by
  intro i hi hs;obtain⟨a,h3,hm,hz,hn⟩:=hpre i hi;have hti:=vW l i (by omega);refine⟨a,hn,?_⟩;rw[ih a hm _ hs (by unfold szJ;omega)];congr 2;unfold dD;congr 1;by_cases hle:((a.meas:Nat):Int)≤szJ l left i
  ·rw[if_pos hle,if_pos (by unfold szJ at hle ⊢;omega)];unfold szJ;omega
  ·rw[if_neg hle,if_neg (by unfold szJ at hle ⊢;omega)]
 rcases DY (fun i=>0≤szJ l left (i+1)) l.length with hall|⟨j,hj,hlt,hbad⟩
 ·rw[aV (SZP l left) l.length (by simp[SZP,szJ,Pn.msL])]
  ·rw[aG]
   have hfin:dD left (Pn.msL l)=szJ l left l.length:=by
    have hT:l.take l.length=l:=zX (by simp)
    have hge:0≤szJ l left l.length:=by
     cases hn:l.length with
     | zero=>unfold szJ;rw[hn];simp[Pn.msL];omega
     | succ n=>exact hn ▸ hall n (by omega)
    unfold dD;unfold szJ at hge ⊢;rw[hT]at hge ⊢;rw[if_pos (by omega)];omega
   rw[hfin];simp[SZP]
  ·intro i hi
   have hs:0≤szJ l left i:=by
    cases i with
    | zero=>unfold szJ;simp[Pn.msL];omega
    | succ i=>exact hall i (by omega)
   obtain⟨a,hn,hc⟩:=hround i hi hs;have hs1:=hall i hi;have hs1:0≤szJ l left (i+1):=hs1;rw[if_pos hs1]at hc;have w2:IntKind.i64.wrap ((i:Int)+1)=i+1:=wrO;rw[Pn.aB]at hn hc;simp[SZP,hi,hn,hc,w2,show ¬ szJ l left (i+1)<0 by omega]
 ·have hsl2:dD left (Pn.msL l)=-1:=by
   have hm:=AA1 l (j+1);have hbad:¬ 0≤szJ l left (j+1):=hbad;obtain⟨a,h3,_,_,_⟩:=hpre j hj
   have hrest:Pn.msL (l.take (j+1))+(l.length-(j+1))≤Pn.msL l:=by
    have e1:Pn.msL l=Pn.msL (l.take (j+1))+Pn.msL (l.drop (j+1)):=by
     have key:∀ (n:Nat) (l:List Pn),Pn.msL l=Pn.msL (l.take n)+Pn.msL (l.drop n):=by
      intro n
      induction n with
      | zero=>intro l;simp[Pn.msL]
      | succ n ih=>intro l;cases l with
       | nil=>simp[Pn.msL]
       | cons b l=>simp only[yP,zA7,Pn.msL];have:=ih l;omega
     exact key _ _
    have e2:=Pn.pG (l.drop (j+1));simp at e2;omega
   unfold dD;unfold szJ at hbad;rw[if_neg (by omega)]
  rw[hsl2,aV (SZP l left) j (by simp[SZP,szJ,Pn.msL])]
  ·rw[aG]
   have hs:0≤szJ l left j:=by
    cases j with
    | zero=>unfold szJ;simp[Pn.msL];omega
    | succ j=>exact hlt j (by omega)
   obtain⟨a,hn,hc⟩:=hround j hj hs;have hbad:¬ 0≤szJ l left (j+1):=hbad;rw[if_neg hbad]at hc;rw[Pn.aB]at hn hc;simp[SZP,hj,hn,hc]
  ·intro i hi
   have hs:0≤szJ l left i:=by
    cases i with
    | zero=>unfold szJ;simp[Pn.msL];omega
    | succ i=>exact hlt i (by omega)
   obtain⟨a,hn,hc⟩:=hround i (by omega) hs;have hs1:0≤szJ l left (i+1):=hlt i hi;rw[if_pos hs1]at hc;have w2:IntKind.i64.wrap ((i:Int)+1)=i+1:=wrO;rw[Pn.aB]at hn hc;simp[SZP,show i<l.length by omega,hn,hc,w2,show ¬ szJ l left (i+1)<0 by omega]
theorem VF:∀ (p:Pn),p.fat→∀ left:Int,0≤left→left<1000000000→aH C0 5 [.i (.agg p.cells), .int left] []=some (.int (dD left p.meas),[]):=by
 intro p
 induction p using Pn.ind with
 | h k t es cs ks ih =>
  intro hf left h0 h1;obtain⟨f1,f2,f3,f4,f5⟩:=(Pn.nA _).1 hf;refine AH7 (AH6 _ f1 f2 left h0 h1) (fun h=>?_) fun h=>?_
  ·rw[ZL _ f3 _ h (by have:=JG (a:=Ex.aL es) h0;simp only[Pn.exprs];omega),LP h]
  ·rw[VG h (by have:=JG (a:=Ex.aL es+cs.length) h0;simp only[Pn.exprs,Pn.cols];omega) f4 fun a ha left h0 h1=>ih a ha (f5 a ha) left h0 h1,LP h]
end Go.Proofs.Ytjdfjgmebalaaaa.P
namespace Go.Av.Mk
open Go Go.Av
theorem IX {W n i:Nat} {us V:List Value} (hi:i<n) (hu:W*n≤us.length) (hV:V.length=W):(us.take (W*i)++V++us.drop (W*(i+1))).take (W*n)=us.take (W*i)++V++(us.take (W*n)).drop (W*(i+1)):=by
 have m1:W*(i+1)=W*i+W:=by rw[zI];omega
 have m2:W*(i+1)≤W*n:=zJ W (by omega);have hl:(us.take (W*i)++V).length=W*(i+1):=by simp;omega
 rw[xZ,hl,zX (by rw[hl];omega),yC]
end Go.Av.Mk
namespace Go.Proofs.Ytjdfjgmebalaaaa.P
open Go Go.Av Go.Av.Mk
set_option maxRecDepth 4000
set_option maxHeartbeats 1000000
theorem WB:∃ c0 c1 cc body c3 cend,MLoop C0 13 1 19 (GS 13) Try.f13 c0 c1 cc body c3 cend∧∀ n:Int,OU C0 AHY AFV AC8 1 19 body n:=by
 refine⟨_,_,_,_,_,_,{ func:=Try.func13,code:=rfl,ntmps:=rfl,big:=by omega,results:=rfl,ok0:=⟨by kernel_rfl,rfl⟩,ok1:=⟨by kernel_rfl,rfl⟩,okc:=⟨by kernel_rfl,rfl⟩,ok3:=⟨by kernel_rfl,rfl⟩,oke:=⟨by kernel_rfl,rfl⟩,x0:=?_,x1:=?_,xc:=?_,xo:=?_,x3:=?_,xe:=?_,xf:=?_,nil:=?_ },?_⟩
 ·intro n R q;simp[MS]
 ·intro n R q;simp[MS]
 ·intro n i R q hi;simp[MS,hi]
 ·intro n R q;simp[MS]
 ·intro n i R q hi;have w6:IntKind.i64.wrap ((i:Int)+1)=i+1:=wrO;simp[MS,w6]
 ·intro n R q;simp[MS]
 ·intro n R q;simp[MS]
 ·intro k;rw[aI rfl Try.func13 rfl rfl];simp;rw[aG];simp
 ·intro x b N n i us vs q F a w hin g hvs hT hnd hbF h0 h1;have hlen:=g.len;have hfit:=g.fit;have h1:q+1<1000000000000:=h1
  cases hT with
  | @lit v _ vs' _ ho hT =>
   cases hT
   have hR:=kG 1 n us i hin;rw[hvs]at hR;have hset:=p8 1 n us [.int .i64 q] i hin (by omega) rfl;simp only[yS,zC3]at hR hset;have w2:IntKind.i64.wrap (q+1)=q+1:=wrO;generalize hRR:rowsOf 1 n us=R at hR hset;refine wp_mono (AAN eH (G:=GS 13) (R':=R.set i [.int q]) (q':=q+1) (j9:=.junk) g hRR (by kernel_rfl) rfl (by simp[MS,hin,hR,w2]) hset) ?_;rintro e a' w' ⟨rfl,us',g',e',f'⟩;refine⟨rfl,us',[.int .i64 q],g',?_, .lit rfl .nil,f'⟩;rw[e'];exact IX hin (by omega) rfl
theorem ADZ:tV C0 AHY AFV AC8 13:=by
 obtain⟨c0,c1,cc,body,c3,cend,L,hR⟩:=WB;exact tV.of eH (by decide) L (fun _=>rfl) (by omega) (fun _=>zQ _) hR
theorem AKR {w:World} {a:Ex} {vs:List Value} {F:List Nat} (h:TCells w a.cells vs F) :
 ∃ u,vs=[.int .i64 a.kind, .int .i64 a.col, .bool a.val.null, .int .i64 a.val.n,u]∧TCells w [.isl (Ex.aA a.kids)] [u] F:=by
 rw[Ex.aB]at h
 cases h with
 | @lit _ _ v1 _ o1 h1 =>
  cases h1 with
  | @lit _ _ v2 _ o2 h2 =>
   cases h2 with
   | @lit _ _ v3 _ o3 h3 =>
    cases h3 with
    | @lit _ _ v4 _ o4 h4 =>
     have hl:=h4.length
     cases v4 with
     | nil=>simp at hl
     | cons u r =>
      cases r with
      | cons=>simp at hl
      | nil=>exact⟨u,rfl,h4⟩
theorem AAK:∃ c0 c1 cc body c3 cend,MLoop C0 31 5 52 (GS 31) Try.f31 c0 c1 cc body c3 cend∧∀ x:Ex,OU C0 Ex.cells Ex.pU exZ 5 52 body x:=by
 have hl:∃ c0 c1 cc body c3 cend,MLoop C0 31 5 52 (GS 31) Try.f31 c0 c1 cc body c3 cend∧((∀ x:Ex,(∀ (w:World) (v:Value) (F:List Nat) (k:Int),TCells w [.isl (Ex.aA x.kids)] [v] F→F.Nodup→0≤k→k+(bI exZ x.kids:Nat)<1000000000000→Calls Try.prog 31 #[v, .int .i64 k] w (ABG Ex.cells Ex.pU exZ w v F k x.kids))→OU C0 Ex.cells Ex.pU exZ 5 52 body x)):=by
  refine⟨_,_,_,_,_,_,{ func:=Try.func31,code:=rfl,ntmps:=rfl,big:=by omega,results:=rfl,ok0:=⟨by kernel_rfl,rfl⟩,ok1:=⟨by kernel_rfl,rfl⟩,okc:=⟨by kernel_rfl,rfl⟩,ok3:=⟨by kernel_rfl,rfl⟩,oke:=⟨by kernel_rfl,rfl⟩,x0:=?_,x1:=?_,xc:=?_,xo:=?_,x3:=?_,xe:=?_,xf:=?_,nil:=?_ },?_⟩
  ·intro n R q;simp[MS]
  ·intro n R q;simp[MS]
  ·intro n i R q hi;simp[MS,hi]
  ·intro n R q;simp[MS]
  ·intro n i R q hi;have w6:IntKind.i64.wrap ((i:Int)+1)=i+1:=wrO;simp[MS,w6]
  ·intro n R q;simp[MS]
  ·intro n R q;simp[MS]
  ·intro k;rw[aI rfl Try.func31 rfl rfl];simp;rw[aG];simp
  ·intro x ih b N n i us vs q F a w hin g hvs hT hnd hbF h0 h1;have hlen:=g.len;have hfit:=g.fit;have hsz:exZ x=4+bI exZ x.kids:=by rw[oZ];unfold exZ;rw[Ex.size_eq];omega
   rw[hsz]at h1;obtain⟨u,rfl,hu⟩:=AKR hT;have hR:=kG 5 n us i hin;rw[hvs]at hR;have hset:=p8 5 n us [.int .i64 q, .int .i64 (q+1), .bool ((q+1+1).tmod 3 == 0), .int .i64 (q+1+1+1),u] i hin (by omega) rfl;simp only[yS,zC3]at hR hset;have w2:IntKind.i64.wrap (q+1)=q+1:=wrO;have w3:IntKind.i64.wrap (q+1+1)=q+1+1:=wrO;have w4:IntKind.i64.wrap (q+1+1+1)=q+1+1+1:=wrO;have w5:IntKind.i64.wrap (q+1+1+1+1)=q+1+1+1+1:=wrO;have rr:=g.to;generalize hRR:rowsOf 5 n us=R at hR hset rr;have hRl:R.length=n:=by rw[← hRR,eO]
   have hRs:∀ r:List IV,gB (R.set i r) i=some r:=fun r=>by rw[fE,List.getElem?_set_self (by omega)]
   refine wp_seq (wp_mono (lZ eH (lI b N) (G:=GS 31) (S':=MS 5 n (R.set i [.int q, .int x.col, .bool x.val.null, .int x.val.n, .lit u]) q .junk (.int i) .junk) (e:=.normal) (by kernel_rfl) (by simp[MS,hin,hR,hRs,w2,w3,w4,w5]) rr) ?_);rintro _ x1 y1 ⟨rfl,r1⟩;refine wp_seq (wp_mono (lZ eH (lI b N) (G:=GS 31) (S':=MS 5 n (R.set i [.int q, .int x.col, .bool x.val.null, .int x.val.n, .lit u]) (q+1) .junk (.int i) .junk) (e:=.normal) (by kernel_rfl) (by simp[MS,hin,hR,hRs,w2,w3,w4,w5]) r1) ?_);rintro _ x2 y2 ⟨rfl,r2⟩;refine wp_seq (wp_mono (lZ eH (lI b N) (G:=GS 31) (S':=MS 5 n (R.set i [.int q, .int (q+1), .bool x.val.null, .int x.val.n, .lit u]) (q+1) .junk (.int i) .junk) (e:=.normal) (by kernel_rfl) (by simp[MS,hin,hR,hRs,w2,w3,w4,w5]) r2) ?_);rintro _ x3 y3 ⟨rfl,r3⟩;refine wp_seq (wp_mono (lZ eH (lI b N) (G:=GS 31) (S':=MS 5 n (R.set i [.int q, .int (q+1), .bool x.val.null, .int x.val.n, .lit u]) (q+1+1) .junk (.int i) .junk) (e:=.normal) (by kernel_rfl) (by simp[MS,hin,hR,hRs,w2,w3,w4,w5]) r3) ?_);rintro _ x4 y4 ⟨rfl,r4⟩;refine wp_seq (wp_mono (lZ eH (lI b N) (G:=GS 31) (S':=MS 5 n (R.set i [.int q, .int (q+1), .bool ((q+1+1).tmod 3 == 0), .int x.val.n, .lit u]) (q+1+1) .junk (.int i) .junk) (e:=.normal) (by kernel_rfl) (by simp[MS,hin,hR,hRs,w2,w3,w4,w5]) r4) ?_);rintro _ x5 y5 ⟨rfl,r5⟩;refine wp_seq (wp_mono (lZ eH (lI b N) (G:=GS 31) (S':=MS 5 n (R.set i [.int q, .int (q+1), .bool ((q+1+1).tmod 3 == 0), .int x.val.n, .lit u]) (q+1+1+1) .junk (.int i) .junk) (e:=.normal) (by kernel_rfl) (by simp[MS,hin,hR,hRs,w2,w3,w4,w5]) r5) ?_);rintro _ x6 y6 ⟨rfl,r6⟩;refine wp_seq (wp_mono (lZ eH (lI b N) (G:=GS 31) (S':=MS 5 n (R.set i [.int q, .int (q+1), .bool ((q+1+1).tmod 3 == 0), .int (q+1+1+1), .lit u]) (q+1+1+1) .junk (.int i) .junk) (e:=.normal) (by kernel_rfl) (by simp[MS,hin,hR,hRs,w2,w3,w4,w5]) r6) ?_);rintro _ x7 y7 ⟨rfl,r7⟩;refine wp_seq (wp_mono (lZ eH (lI b N) (G:=GS 31) (S':=MS 5 n (R.set i [.int q, .int (q+1), .bool ((q+1+1).tmod 3 == 0), .int (q+1+1+1), .lit u]) (q+1+1+1+1) .junk (.int i) .junk) (e:=.normal) (by kernel_rfl) (by simp[MS,hin,hR,hRs,w2,w3,w4,w5]) r7) ?_);rintro _ x8 y8 ⟨rfl,r8⟩;obtain⟨us8,g8,e8,f8⟩:=g.of (vs:=us.take (5*i)++[.int .i64 q, .int .i64 (q+1), .bool ((q+1+1).tmod 3 == 0), .int .i64 (q+1+1+1),u]++us.drop (5*(i+1))) (q':=q+1+1+1+1) (i':=i) r8.1 rfl rfl rfl (by rw[← hset];rfl);rw[IX (W:=5) (us:=us) (V:=[.int .i64 q, .int .i64 (q+1), .bool ((q+1+1).tmod 3 == 0), .int .i64 (q+1+1+1),u]) hin (by omega) rfl]at e8;have hR8:=kG 5 n us8 i hin
   have hrow8:(us8.drop (5*i)).take 5=[.int .i64 q, .int .i64 (q+1), .bool ((q+1+1).tmod 3 == 0), .int .i64 (q+1+1+1),u]:=by
    have:(us8.drop (5*i)).take 5=((us8.take (5*n)).drop (5*i)).take 5:=by rw[yC,zG,yQ (by omega)]
    rw[this,e8,yY,zA2 (by simp;omega)];rfl
   rw[hrow8]at hR8;simp only[yS,zC3]at hR8
   refine wp_mono (AL eH (s:=bI exZ x.kids) (K:=fun _ w2=>TCells w2 [.isl ((eF Ex.pU exZ (q+1+1+1+1) x.kids).map Ex.cells)] [u] F) (u:=u) (Fu:=F) g8 (os1:=[_,_,_,_,_,_]) rfl (by kernel_rfl) (zQ 1)
    (R1:=⟨upd (upd (upd (upd (upd (upd (aQ (MS 5 n (rowsOf 5 n us8) (q+1+1+1+1) .junk (.int i) .junk).env) 44 (.osl 0 5 0 n)) 45 (.int i)) 46 (.ownE 0 5 i 0)) 47 (.ownE 0 5 i 4)) 48 (.i (.lit u))) 49 (.int (q+1+1+1+1)),aS (MS 5 n (rowsOf 5 n us8) (q+1+1+1+1) .junk (.int i) .junk).st,[]⟩)
    (by simp[MS,hin,hR8]) rfl rfl rfl rfl rfl rfl (by decide) (by decide) (by decide) (by decide) (by decide) Try.func31 (by decide) (by intro h;cases h) ?_ hbF) ?_
   ·intro w1 f1
    have hu1:TCells w1 [.isl (Ex.aA x.kids)] [u] F:=hu.mono fun f hf=>by
     have hlt:=tlt hu f hf;rw[f1.same f (zK hlt f8.size) (by simp;intro e;subst e;exact hbF hf),f8.same f hlt (by simp;intro e;subst e;exact hbF hf)]
    refine(ih w1 u F _ hu1 hnd (by omega) (by push_cast at h1 ⊢;omega)).mono ?_;rintro en w2 ⟨p1,p2,p3,_⟩;exact⟨p1,p2,p3⟩
   ·rintro e a' w' ⟨rfl,us',g',e',w1,f1,f2,hK⟩;have hq:q+1+1+1+1+(bI exZ x.kids:Nat)=q+(exZ x:Nat):=by rw[hsz];push_cast;omega
    rw[hq]at g';refine⟨rfl,us',_,g',by rw[e',e8],?_,(f8.sub (by simp)).trans ((f1.sub (by simp)).trans (f2.sub fun f hf=>by simp[hf]))⟩;rw[Ex.CK,sQ,Ex.aU];exact .lit rfl (.lit rfl (.lit rfl (.lit rfl hK)))
 obtain⟨c0,c1,cc,body,c3,cend,L,hR⟩:=hl;refine⟨c0,c1,cc,body,c3,cend,L,fun x=>?_⟩
 induction x using Ex.ind with
 | h kd cl vl l ih =>
  refine hR _ fun w v F k hT hnd hk0 hk1=>?_
  simp only[Ex.kids]at hT hk1 ⊢;rw[Ex.aU]at hT;exact JE eH (by decide) L (fun e=>by rw[Ex.aB];rfl) (by omega) ih hT hnd hk0 hk1 (by have:=nW (sz:=exZ) (fun e=>by unfold exZ;have:=Ex.jX e;omega) l;omega)
theorem ACK:tV C0 Ex.cells Ex.pU exZ 31:=by
 obtain⟨c0,c1,cc,body,c3,cend,L,hR⟩:=AAK;exact tV.of eH (by decide) L (fun e=>by rw[Ex.aB];rfl) (by omega) (fun e=>by unfold exZ;have:=Ex.jX e;omega) hR
theorem one_cell {w:World} {c:IV} {cs:List IV} {vs:List Value} {F:List Nat} (h:TCells w (c::cs) vs F):∃ v r F1 F2,vs=v::r∧F=F1++F2∧TCells w [c] [v] F1∧TCells w cs r F2:=by
 have hl:=h.length
 cases vs with
 | nil=>simp at hl
 | cons v r =>
  obtain⟨F1,F2,hF,h1,h2⟩:=h.split 1;exact⟨v,r,F1,F2,rfl,hF,by simpa using h1,by simpa using h2⟩
theorem AKB {w:World} {p:Pn} {vs:List Value} {F:List Nat} (h:TCells w p.cells vs F) :
 ∃ u1 u2 u3 F1 F2 F3,vs=[.int .i64 p.kind, .int .i64 p.table,u1,u2,u3]∧F=F1++(F2++F3)∧TCells w [.isl (Ex.aA p.exprs)] [u1] F1∧TCells w [.isl (aF p.cols)] [u2] F2∧TCells w [.isl (Pn.aA p.kids)] [u3] F3:=by
 rw[Pn.aB]at h
 cases h with
 | @lit _ _ v1 _ o1 h1 =>
  cases h1 with
  | @lit _ _ v2 _ o2 h2 =>
   obtain⟨u1,r1,F1,G1,rfl,rfl,k1,h3⟩:=one_cell h2;obtain⟨u2,r2,F2,G2,rfl,rfl,k2,h4⟩:=one_cell h3;obtain⟨u3,r3,F3,G3,rfl,rfl,k3,h5⟩:=one_cell h4
   cases h5
   exact⟨u1,u2,u3,F1,F2,F3,rfl,by simp,k1,k2,k3⟩
theorem ZX:∃ c0 c1 cc body c3 cend,MLoop C0 32 5 48 (GS 32) Try.f32 c0 c1 cc body c3 cend∧∀ x:Pn,OU C0 Pn.cells Pn.nR Pn.mz 5 48 body x:=by
 have hl:∃ c0 c1 cc body c3 cend,MLoop C0 32 5 48 (GS 32) Try.f32 c0 c1 cc body c3 cend∧((∀ x:Pn,(∀ (w:World) (v:Value) (F:List Nat) (k:Int),TCells w [.isl (Pn.aA x.kids)] [v] F→F.Nodup→0≤k→k+(bI Pn.mz x.kids:Nat)<1000000000000→Calls Try.prog 32 #[v, .int .i64 k] w (ABG Pn.cells Pn.nR Pn.mz w v F k x.kids))→OU C0 Pn.cells Pn.nR Pn.mz 5 48 body x)):=by
  refine⟨_,_,_,_,_,_,{ func:=Try.func32,code:=rfl,ntmps:=rfl,big:=by omega,results:=rfl,ok0:=⟨by kernel_rfl,rfl⟩,ok1:=⟨by kernel_rfl,rfl⟩,okc:=⟨by kernel_rfl,rfl⟩,ok3:=⟨by kernel_rfl,rfl⟩,oke:=⟨by kernel_rfl,rfl⟩,x0:=?_,x1:=?_,xc:=?_,xo:=?_,x3:=?_,xe:=?_,xf:=?_,nil:=?_ },?_⟩
  ·intro n R q;simp[MS]
  ·intro n R q;simp[MS]
  ·intro n i R q hi;simp[MS,hi]
  ·intro n R q;simp[MS]
  ·intro n i R q hi;have w6:IntKind.i64.wrap ((i:Int)+1)=i+1:=wrO;simp[MS,w6]
  ·intro n R q;simp[MS]
  ·intro n R q;simp[MS]
  ·intro k;rw[aI rfl Try.func32 rfl rfl];simp;rw[aG];simp
  ·intro x ih b N n i us vs q F a w hin g hvs hT hnd hbF h0 h1;have hlen:=g.len;have hfit:=g.fit;have hsz:x.mz=2+(bI exZ x.exprs+(x.cols.length+bI Pn.mz x.kids)):=by rw[oZ,oW];exact Pn.WE x
   rw[hsz]at h1;obtain⟨u1,u2,u3,F1,F2,F3,rfl,rfl,t1,t2,t3⟩:=AKB hT;have nd1:=zF.1 hnd;have nd2:=zF.1 nd1.2.1;have b1:b ∉ F1:=fun h=>hbF (by simp[h])
   have b2:b ∉ F2:=fun h=>hbF (by simp[h])
   have b3:b ∉ F3:=fun h=>hbF (by simp[h])
   have d12:∀ f∈F1,f ∉ F2:=fun f h h'=>nd1.2.2 f h f (by simp[h']) rfl
   have d13:∀ f∈F1,f ∉ F3:=fun f h h'=>nd1.2.2 f h f (by simp[h']) rfl
   have d23:∀ f∈F2,f ∉ F3:=fun f h h'=>nd2.2.2 f h f h' rfl
   have hR:=kG 5 n us i hin;rw[hvs]at hR;have hset:=p8 5 n us [.int .i64 q, .int .i64 (q+1),u1,u2,u3] i hin (by omega) rfl;simp only[yS,zC3]at hR hset;have w2:IntKind.i64.wrap (q+1)=q+1:=wrO;have w3:IntKind.i64.wrap (q+1+1)=q+1+1:=wrO;have rr:=g.to;generalize hRR:rowsOf 5 n us=R at hR hset rr;have hRl:R.length=n:=by rw[← hRR,eO]
   have hRs:∀ r:List IV,gB (R.set i r) i=some r:=fun r=>by rw[fE,List.getElem?_set_self (by omega)]
   refine wp_seq (wp_mono (lZ eH (lI b N) (G:=GS 32) (S':=MS 5 n (R.set i [.int q, .int x.table, .lit u1, .lit u2, .lit u3]) q .junk (.int i) .junk) (e:=.normal) (by kernel_rfl) (by simp[MS,hin,hR,hRs,w2,w3]) rr) ?_);rintro _ x1 y1 ⟨rfl,r1⟩;refine wp_seq (wp_mono (lZ eH (lI b N) (G:=GS 32) (S':=MS 5 n (R.set i [.int q, .int x.table, .lit u1, .lit u2, .lit u3]) (q+1) .junk (.int i) .junk) (e:=.normal) (by kernel_rfl) (by simp[MS,hin,hR,hRs,w2,w3]) r1) ?_);rintro _ x2 y2 ⟨rfl,r2⟩;refine wp_seq (wp_mono (lZ eH (lI b N) (G:=GS 32) (S':=MS 5 n (R.set i [.int q, .int (q+1), .lit u1, .lit u2, .lit u3]) (q+1) .junk (.int i) .junk) (e:=.normal) (by kernel_rfl) (by simp[MS,hin,hR,hRs,w2,w3]) r2) ?_);rintro _ x3 y3 ⟨rfl,r3⟩;refine wp_seq (wp_mono (lZ eH (lI b N) (G:=GS 32) (S':=MS 5 n (R.set i [.int q, .int (q+1), .lit u1, .lit u2, .lit u3]) (q+1+1) .junk (.int i) .junk) (e:=.normal) (by kernel_rfl) (by simp[MS,hin,hR,hRs,w2,w3]) r3) ?_);rintro _ x4 y4 ⟨rfl,r4⟩;obtain⟨us8,g8,e8,f8⟩:=g.of (vs:=us.take (5*i)++[.int .i64 q, .int .i64 (q+1),u1,u2,u3]++us.drop (5*(i+1))) (q':=q+1+1) (i':=i) r4.1 rfl rfl rfl (by rw[← hset];rfl);rw[IX (W:=5) (us:=us) (V:=[.int .i64 q, .int .i64 (q+1),u1,u2,u3]) hin (by omega) rfl]at e8
   have rowU:∀ us9:List Value,us9.take (5*n)=us8.take (5*n)→gB (rowsOf 5 n us9) i=some [.int q, .int (q+1), .lit u1, .lit u2, .lit u3]:=by
    intro us9 e9;have hR8:=kG 5 n us9 i hin
    have hrow8:(us9.drop (5*i)).take 5=[.int .i64 q, .int .i64 (q+1),u1,u2,u3]:=by
     have:(us9.drop (5*i)).take 5=((us9.take (5*n)).drop (5*i)).take 5:=by rw[yC,zG,yQ (by omega)]
     rw[this,e9,e8,yY,zA2 (by simp;omega)];rfl
    rw[hrow8]at hR8;exact hR8
   have keep:∀ {w1 w2:World} {cs:List IV} {vs:List Value} {A B:List Nat},Fr w1 w2 B→TCells w1 cs vs A→(∀ f∈A,f ∉ B)→TCells w2 cs vs A:=fun fr h hd=>h.mono fun f hf=>fr.same f (tlt h f hf) (hd f hf)
   have nb:∀ {A:List Nat},b ∉ A→∀ f∈A,f ∉ [b]:=fun h f hf hh=>h (by simp at hh;exact hh ▸ hf)
   have hR8:=rowU us8 rfl
   refine wp_seq (wp_mono (AL eH (s:=bI exZ x.exprs) (K:=fun _ w2=>TCells w2 [.isl ((eF Ex.pU exZ (q+1+1) x.exprs).map Ex.cells)] [u1] F1) (u:=u1) (Fu:=F1) g8 (os1:=[_,_,_,_,_,_]) rfl (by kernel_rfl) (zQ 1)
    (R1:=⟨upd (upd (upd (upd (upd (upd (aQ (MS 5 n (rowsOf 5 n us8) (q+1+1) .junk (.int i) .junk).env) 26 (.osl 0 5 0 n)) 27 (.int i)) 28 (.ownE 0 5 i 0)) 29 (.ownE 0 5 i 2)) 30 (.i (.lit u1))) 31 (.int (q+1+1)),aS (MS 5 n (rowsOf 5 n us8) (q+1+1) .junk (.int i) .junk).st,[]⟩)
    (by simp[MS,hin,hR8]) rfl rfl rfl rfl rfl rfl (by decide) (by decide) (by decide) (by decide) (by decide) Try.func31 (by decide) (by intro h;cases h) ?_ b1) ?_)
   ·intro w1 f1;have hu1:=keep f1 (keep f8 t1 (nb b1)) (nb b1);rw[Ex.aU]at hu1;refine(ACK x.exprs w1 u1 F1 _ hu1 nd1.1 (by omega) (by push_cast at h1 ⊢;omega)).mono ?_;rintro en w2 ⟨p1,p2,p3,_⟩;exact⟨p1,p2,p3⟩
   rintro e a9 y9 ⟨rfl,us9,g9,e9,wa,fa,fb,hK1⟩;have hR9:=rowU us9 e9;have t2a:=keep fb (keep fa (keep f8 t2 (nb b2)) (nb b2)) (fun f h h'=>d12 f h' h);have t3a:=keep fb (keep fa (keep f8 t3 (nb b3)) (nb b3)) (fun f h h'=>d13 f h' h)
   refine wp_seq (wp_mono (AL eH (s:=x.cols.length) (K:=fun _ w2=>TCells w2 [.isl ((vU (q+1+1+(bI exZ x.exprs:Nat)) x.cols).map AHY)] [u2] F2) (u:=u2) (Fu:=F2) g9 (os1:=[_,_,_,_,_,_]) rfl (by kernel_rfl) (zQ 1)
    (R1:=⟨upd (upd (upd (upd (upd (upd (aQ (MS 5 n (rowsOf 5 n us9) (q+1+1+(bI exZ x.exprs:Nat)) .junk (.int i) .junk).env) 33 (.osl 0 5 0 n)) 34 (.int i)) 35 (.ownE 0 5 i 0)) 36 (.ownE 0 5 i 3)) 37 (.i (.lit u2))) 38 (.int (q+1+1+(bI exZ x.exprs:Nat))),aS (MS 5 n (rowsOf 5 n us9) (q+1+1+(bI exZ x.exprs:Nat)) .junk (.int i) .junk).st,[]⟩)
    (by simp[MS,hin,hR9]) rfl rfl rfl rfl rfl rfl (by decide) (by decide) (by decide) (by decide) (by decide) Try.func13 (by decide) (by intro h;cases h) ?_ b2) ?_)
   ·intro w1 f1;have hu1:=keep f1 t2a (nb b2);rw[sS]at hu1;refine(ADZ x.cols w1 u2 F2 _ hu1 nd2.1 (by omega) (by rw[rZ];push_cast at h1 ⊢;omega)).mono ?_;rintro en w2 ⟨p1,p2,p3,_⟩;rw[rZ]at p1;exact⟨p1,p2,p3⟩
   rintro e a10 y10 ⟨rfl,us10,g10,e10,wc,fc,fd,hK2⟩;have hR10:=rowU us10 (e10.trans e9);have k1a:=keep fd (keep fc hK1 (nb b1)) (fun f h h'=>d12 f h h');have t3b:=keep fd (keep fc t3a (nb b3)) (fun f h h'=>d23 f h' h)
   refine wp_mono (AL eH (s:=bI Pn.mz x.kids) (K:=fun _ w2=>TCells w2 [.isl ((eF Pn.nR Pn.mz (q+1+1+(bI exZ x.exprs:Nat)+(x.cols.length:Nat)) x.kids).map Pn.cells)] [u3] F3) (u:=u3) (Fu:=F3) g10 (os1:=[_,_,_,_,_,_]) rfl (by kernel_rfl) (zQ 1)
    (R1:=⟨upd (upd (upd (upd (upd (upd (aQ (MS 5 n (rowsOf 5 n us10) (q+1+1+(bI exZ x.exprs:Nat)+(x.cols.length:Nat)) .junk (.int i) .junk).env) 40 (.osl 0 5 0 n)) 41 (.int i)) 42 (.ownE 0 5 i 0)) 43 (.ownE 0 5 i 4)) 44 (.i (.lit u3))) 45 (.int (q+1+1+(bI exZ x.exprs:Nat)+(x.cols.length:Nat))),aS (MS 5 n (rowsOf 5 n us10) (q+1+1+(bI exZ x.exprs:Nat)+(x.cols.length:Nat)) .junk (.int i) .junk).st,[]⟩)
    (by simp[MS,hin,hR10]) rfl rfl rfl rfl rfl rfl (by decide) (by decide) (by decide) (by decide) (by decide) Try.func32 (by decide) (by intro h;cases h) ?_ b3) ?_
   ·intro w1 f1;have hu1:=keep f1 t3b (nb b3);refine(ih w1 u3 F3 _ hu1 nd2.2.1 (by omega) (by push_cast at h1 ⊢;omega)).mono ?_;rintro en w2 ⟨p1,p2,p3,_⟩;exact⟨p1,p2,p3⟩
   rintro e a' w' ⟨rfl,us',g',e',w1,f1,f2,hK3⟩;have hq:q+1+1+(bI exZ x.exprs:Nat)+(x.cols.length:Nat)+(bI Pn.mz x.kids:Nat)=q+(x.mz:Nat):=by rw[hsz];push_cast;omega
   rw[hq]at g';have k1b:=keep f2 (keep f1 k1a (nb b1)) (fun f h h'=>d13 f h h');have k2b:=keep f2 (keep f1 hK2 (nb b2)) (fun f h h'=>d23 f h h');refine⟨rfl,us',_,g',by rw[e',e10,e9,e8],?_,(f8.sub (by simp)).trans ((fa.sub (by simp)).trans ((fb.sub fun f hf=>by simp[hf]).trans ((fc.sub (by simp)).trans ((fd.sub fun f hf=>by simp[hf]).trans ((f1.sub (by simp)).trans (f2.sub fun f hf=>by simp[hf]))))))⟩;rw[Pn.CG,sQ,Ex.aU,sS,o7,Pn.aU,← oZ];exact .lit rfl (.lit rfl (k1b.append (k2b.append hK3)))
 obtain⟨c0,c1,cc,body,c3,cend,L,hR⟩:=hl;refine⟨c0,c1,cc,body,c3,cend,L,fun x=>?_⟩
 induction x using Pn.ind with
 | h k t es cs ks ih =>
  refine hR _ fun w v F k hT hnd hk0 hk1=>?_
  simp only[Pn.kids]at hT hk1 ⊢;rw[Pn.aU]at hT;exact JE eH (by decide) L (fun e=>by rw[Pn.aB];rfl) (by omega) ih hT hnd hk0 hk1 (by have:=nW (sz:=Pn.mz) (fun e=>by have:=Pn.WE e;omega) ks;omega)
theorem AHX:tV C0 Pn.cells Pn.nR Pn.mz 32:=by
 obtain⟨c0,c1,cc,body,c3,cend,L,hR⟩:=ZX;exact tV.of eH (by decide) L (fun e=>by rw[Pn.aB];rfl) (by omega) (fun e=>by have:=Pn.WE e;omega) hR
noncomputable def ADR:FuncId→Option (List AV→StL→Option (AV×StL))
 | 48=>none
 | 22=>none
 | 8=>none
 | 7=>none
 | 23=>none
 | g=>if g=qJ then none else some (aH C0 g)
def NR:FuncId→Bool
 | 48=>true
 | 22=>true
 | 8=>true
 | 7=>true
 | 23=>true
 | g=>keepR g
noncomputable def CT:Ctx:={ P:=Try.prog,G:=GS,ownArgs:=eU,keepRes:=NR,eqT:=EB,prim:=ADR,tree:=true }
@[simp] theorem ATE:CT.P=Try.prog:=(rfl)
@[simp] theorem ATF (f):CT.G f=GS f:=(rfl)
@[simp] theorem ATB (f):CT.ownArgs f=eU f:=(rfl)
@[simp] theorem ATC (f):CT.keepRes f=NR f:=(rfl)
@[simp] theorem ATD (f):CT.eqT f=EB f:=(rfl)
@[simp] theorem ATA:CT.tree=true:=(rfl)
@[simp] theorem kT1:NR 48=true:=(rfl)
@[simp] theorem kT2:NR 22=true:=(rfl)
@[simp] theorem kT3:NR 8=true:=(rfl)
@[simp] theorem kT4:NR 7=true:=(rfl)
@[simp] theorem kT5:NR 23=true:=(rfl)
theorem AHV:PrimOk CT:=by
 have h0:=aY eH
 have key:∀ g q,CT.prim g=some q→g≠qJ∧q=aH C0 g:=by
  intro g q h;have h:ADR g=some q:=h;unfold ADR at h;split at h<;>first|(cases h;done)|(split at h<;>first|(cases h;done)|(rename_i hy;injection h with h;exact⟨hy,h.symm⟩))
 constructor
 ·intro g args st p h;unfold dB at h
  cases hq:CT.prim g with
  | none=>rw[hq]at h;cases h
  | some q=>rw[hq]at h;obtain⟨hy,rfl⟩:=key g q hq;exact h0.name g args st p hy h
 ·intro g args st r st' h;unfold dB at h
  cases hq:CT.prim g with
  | none=>rw[hq]at h;cases h
  | some q=>rw[hq]at h;obtain⟨hy,rfl⟩:=key g q hq;exact h0.calls g args st r st' hy h
theorem AHC:SoundOk CT:=jW (C:=CT) ft nt eqS mo AHV
@[simp] theorem ct1 (args:List AV) (st:StL):aH CT 65 args st=aH C0 65 args st:=aZ (C:=CT) rfl args st
theorem AH2 (v:Val):aH C0 65 [.i (.agg [.bool v.null, .int v.n])] []=some (.i (.agg [.bool v.null, .int v.n]),[]):=by
 rw[aI rfl Try.func65 rfl rfl];simp
theorem AGX {e:Ex} (h:aH CT 22 [.i (.isl (Ex.aA e.kids))] []=some (.osl 0 5 0 e.kids.length,[some (kL Ex.cells 5 e.kids)])):aH CT 48 [.i (.agg e.cells)] []=some (tE e 0,[some (kL Ex.cells 5 e.kids)]):=by
 rw[aI rfl Try.func48 rfl rfl,Ex.aB];have hv:=AH2 e.val;simp[hv,h,tE]
def TTE (l:List Ex) (i:Nat):AS :=
 { env:=[(0, .i (.isl (Ex.aA l))),(2, .nils),(3, .osl 0 5 0 l.length),(4, .int i),(11,jk i (.bool true))],st:=[some (sV Ex.cells 5 AGO l l.length i)] }
theorem ABL {l:List Ex} (hl:l.length<1000000000) (ih:∀ a∈l,aH CT 48 [.i (.agg a.cells)] []=some (tE a 0,[some (kL Ex.cells 5 a.kids)])):aH CT 22 [.i (.isl (Ex.aA l))] []=some (.osl 0 5 0 l.length,[some (kL Ex.cells 5 l)]):=by
 rw[aI rfl Try.func22 rfl rfl];have hb:56*(l.length:Int)≤281474976710656:=by omega
 simp[hb];rw[aV (TTE l) l.length (by simp[TTE,sV,AGO])]
 ·rw[aG];simp[TTE,M0]
 ·intro i hi;have h3:=zW hi;have hc:=ih _ (zT h3);have r2:=Ex.aP h3;have hput:=LZ (cells:=Ex.cells) (W:=5) (z:=AGO) (n:=l.length) h3 hi (by simp[AGO]) (by rw[Ex.aB];simp[AGO]) (by rw[Ex.aB];simp[uK,YV]);generalize l[i]=a at h3 hc r2 hput;have w2:IntKind.i64.wrap ((i:Int)+1)=i+1:=wrO;rw[Ex.aB]at hc r2;simp only[Ex.aB,Ex.aU]at hput;simp[TTE,hi,r2,hc,tE,w2,hput]
theorem AGY:∀ (e:Ex),e.thin→aH CT 48 [.i (.agg e.cells)] []=some (tE e 0,[some (kL Ex.cells 5 e.kids)]):=by
 intro e
 induction e using Ex.ind with
 | h k c v ks ih =>
  intro ht;have ht':=(Ex.bR _).1 ht;exact AGX (ABL ht'.1 fun a ha=>ih a ha (ht'.2 a ha))
theorem AGU (l:List Ex) (hl:l.length<1000000000) (ht:∀ a∈l,a.thin):aH CT 22 [.i (.isl (Ex.aA l))] []=some (.osl 0 5 0 l.length,[some (kL Ex.cells 5 l)]):=ABL hl fun a ha=>AGY a (ht a ha)
theorem ABM (l:List Int) (hl:l.length<1000000000):aH CT 8 [.i (.isl (aF l))] []=some (.osl 0 1 0 l.length,[some (.arr 1 (aF l))]):=by
 rw[aI rfl Try.func8 rfl rfl];have hb:8*(l.length:Int)≤281474976710656:=by omega
 simp[hb];rw[aV (TIX l) l.length (by simp[TIX,aF])]
 ·rw[aG];have hT:l.take l.length=l:=zX (by simp);simp[TIX,hT]
 ·intro i hi;have h3:=zW hi;have r2:=bO h3;generalize l[i]=a at h3 r2;have w2:IntKind.i64.wrap ((i:Int)+1)=i+1:=wrO;have hD:(aF (l.take i)).length=i:=by simp;omega
  have g1:=Q6 (n:=l.length) (z:=[IV.int 0]) hD hi;have g2:=Q5 (n:=l.length) (z:=[IV.int 0]) (x:=[IV.int a]) hD hi;have hS:aF (l.take i)++[[IV.int a]]=aF (l.take (i+1)):=by rw[aN h3,SS]
  rw[hS]at g2;simp[TIX,hi,r2,w2,g1,g2]
theorem AGV {p:Pn} (h1:aH CT 22 [.i (.isl (Ex.aA p.exprs))] []=some (.osl 0 5 0 p.exprs.length,[some (kL Ex.cells 5 p.exprs)])) (h2:aH CT 8 [.i (.isl (aF p.cols))] []=some (.osl 0 1 0 p.cols.length,[some (.arr 1 (aF p.cols))])) (h3:aH CT 23 [.i (.isl (Pn.aA p.kids))] []=some (.osl 0 5 0 p.kids.length,[some (kL Pn.cells 5 p.kids)])) :
 aH CT 7 [.i (.agg p.cells)] []=some (tP p 0,tPB p):=by
 rw[aI rfl Try.func7 rfl rfl,Pn.aB];simp[h1,h2,h3,tP,tPB]
def TTP (l:List Pn) (i:Nat):AS :=
 { env:=[(0, .i (.isl (Pn.aA l))),(2, .nils),(3, .osl 0 5 0 l.length),(4, .int i),(11,jk i (.bool true))],st:=[some (sV Pn.cells 5 zpw l l.length i)] }
theorem iP (l:List Int):tT 1 0 l.length (some (.arr 1 (aF l)))=some (aF l):=by
 have:fV (aF l)=true:=by
  rw[sS]
  induction l with
  | nil=>rfl
  | cons n l ih=>simp only[yS,fV,ih,Bool.and_true];rfl
 simp[tT,this]
theorem AD2 {l:List Pn} (hl:l.length<1000000000) (ih:∀ a∈l,aH CT 7 [.i (.agg a.cells)] []=some (tP a 0,tPB a)):aH CT 23 [.i (.isl (Pn.aA l))] []=some (.osl 0 5 0 l.length,[some (kL Pn.cells 5 l)]):=by
 rw[aI rfl Try.func23 rfl rfl];have hb:88*(l.length:Int)≤281474976710656:=by omega
 simp[hb];rw[aV (TTP l) l.length (by simp[TTP,sV,zpw])]
 ·rw[aG];simp[TTP,M0]
 ·intro i hi;have h3:=zW hi;have hc:=ih _ (zT h3);have r2:=Pn.aP h3;have hput:=LZ (cells:=Pn.cells) (W:=5) (z:=zpw) (n:=l.length) h3 hi (by simp[zpw]) (by rw[Pn.aB];simp[zpw]) (by rw[Pn.aB];simp[uK,YV]);generalize l[i]=a at h3 hc r2 hput;have w2:IntKind.i64.wrap ((i:Int)+1)=i+1:=wrO;have ha:=iP a.cols;rw[Pn.aB]at hc r2;simp only[Pn.aB,Ex.aU,Pn.aU]at hput;simp[TTP,hi,r2,hc,tP,tPB,w2,ha,hput]
theorem AGW:∀ (p:Pn),p.thin→aH CT 7 [.i (.agg p.cells)] []=some (tP p 0,tPB p):=by
 intro p
 induction p using Pn.ind with
 | h k t es cs ks ih =>
  intro ht;obtain⟨h1,h2,h3,h4,h5⟩:=(Pn.bR _).1 ht;exact AGV (AGU es h1 h2) (ABM cs h3) (AD2 h4 fun a ha=>ih a ha (h5 a ha))
end Go.Proofs.Ytjdfjgmebalaaaa.P
namespace Go.Av
end Go.Av
namespace Go.Proofs.Ytjdfjgmebalaaaa.P
open Go Go.Av Go.Av.Mk
set_option maxRecDepth 4000
set_option maxHeartbeats 1000000
end Go.Proofs.Ytjdfjgmebalaaaa.P
namespace Go.Av
open Go.Av.Mk
theorem dU:∀ l:List Int,fV (aF l)=true
 | []=>rfl
 | n::l=>by simp only[aF,fV,dU l,Bool.and_true];rfl
mutual
theorem Pn.AKN:∀ p:Pn,p.mz≤4*p.ms
 | .mk k t es cs ks=>by have:=Pn.WF ks;simp only[Pn.mz,Pn.ms];omega
theorem Pn.WF:∀ l:List Pn,Pn.mzL l≤4*Pn.msL l
 | []=>by simp[Pn.mzL]
 | p::l=>by have:=Pn.AKN p;have:=Pn.WF l;simp only[Pn.mzL,Pn.msL];omega
end
def Pn.mk4 (p:Pn):Nat:=4*Ex.aL p.exprs+(p.cols.length+Pn.mzL p.kids)
theorem Pn.WI (p:Pn):p.mk4≤4*p.meas:=by
 have:=Pn.WF p.kids;unfold Pn.mk4 Pn.meas;omega
end Go.Av
namespace Go.Proofs.Ytjdfjgmebalaaaa.P
open Go Go.Av Go.Av.Mk
set_option maxRecDepth 4000
set_option maxHeartbeats 4000000
noncomputable def AK9:FuncId→Option (List AV→StL→Option (AV×StL))
 | 27=>none
 | 26=>none
 | 53=>some (CV (aH C3) 53)
 | g=>if g=qJ then none else some (aH C0 g)
def keepD:FuncId→Bool
 | 27=>true
 | 26=>true
 | g=>keepR g
noncomputable def CD:Ctx:={ P:=Try.prog,G:=GS,ownArgs:=eU,keepRes:=keepD,eqT:=EB,prim:=AK9,tree:=true }
@[simp] theorem AU3:CD.P=Try.prog:=(rfl)
@[simp] theorem AU4 (f):CD.G f=GS f:=(rfl)
@[simp] theorem AU0 (f):CD.ownArgs f=eU f:=(rfl)
@[simp] theorem AU1 (f):CD.keepRes f=keepD f:=(rfl)
@[simp] theorem AU2 (f):CD.eqT f=EB f:=(rfl)
@[simp] theorem ATZ:CD.tree=true:=(rfl)
@[simp] theorem kD1:keepD 27=true:=(rfl)
@[simp] theorem kD2:keepD 26=true:=(rfl)
def sc (q:Pn):AV:=.agg [.int q.kind, .int q.table, .nils, .nils, .nils]
end Go.Proofs.Ytjdfjgmebalaaaa.P
namespace Go.Av
def rqA (q:Pn) (j:Nat):AV :=
 .agg [.int q.kind, .int q.table,if q.exprs=[]then .nils else .osl j 5 0 q.exprs.length,if q.cols=[]then .nils else .osl (if q.exprs=[]then j else j+1) 1 0 q.cols.length,if q.kids=[]then .nils else .osl (if q.exprs=[]then(if q.cols=[]then j else j+1)else(if q.cols=[]then j+1 else j+2)) 5 0 q.kids.length]
def rqB (q:Pn):StL:=(if q.exprs=[]then []else [some (.tre 5 (Ex.aA q.exprs))])++((if q.cols=[]then []else [some (.arr 1 (aF q.cols))])++(if q.kids=[]then []else [some (.tre 5 (Pn.aA q.kids))]))
section
variable {w:World} {m:Mem}
theorem ADX {φ:Pl} {st:StL} (hi:Inv w m φ (aS st)) (hb:∀ id,φ id≠none→id<st.length) {b len:Nat} {F:List Nat} {blk:Blk} (hbF:b∈F) (hlt:∀ f∈F,f<w.heap.size) (hfr:∀ f∈F,fK φ f) (hblk:∀ φ':Pl,BlkOk w m φ' b ⟨len,fun f=>f∈F⟩ blk) :
 Inv w m (upd φ st.length (some (b,⟨len,fun f=>f∈F⟩))) (aS (st++[some blk]))∧∀ id,upd φ st.length (some (b,⟨len,fun f=>f∈F⟩)) id≠none→id<st.length+1:=by
 have hp:PLe φ (upd φ st.length (some (b,⟨len,fun f=>f∈F⟩))):=fun i r n e=>by
  refine⟨n,?_,rfl,fun _ h=>h⟩;have:i≠st.length:=fun h=>by have:=hb i (by rw[e];simp);omega
  simp[upd,this,e]
 have hst:∀ i blk1,aS (st++[some blk]) i=some blk1→(i≠st.length∧aS st i=some blk1)∨(i=st.length∧blk1=blk):=by
  intro i blk1 h;rw[mI]at h;by_cases h1:i<st.length
  ·rw[yU h1]at h;exact .inl ⟨by omega,by rw[mI];exact h⟩
  ·rw[yR (by omega)]at h
   cases h2:i-st.length with
   | zero=>rw[h2]at h;simp at h;exact .inr ⟨by omega,h.symm⟩
   | succ j=>rw[h2]at h;simp at h
 refine⟨⟨hi.mem,?_,?_,?_⟩,?_⟩
 ·intro i blk1 h
  rcases hst i blk1 h with ⟨h1,h2⟩|⟨rfl,rfl⟩
  ·obtain⟨r,n,q1,q2,q3⟩:=hi.live i blk1 h2;exact⟨r,n,by simp[upd,h1,q1],q2,q3.mono q2.1 (fun _ _=>rfl) (.refl _) hp fun _ _ _=>rfl⟩
  ·exact⟨b,⟨len,fun f=>f∈F⟩,by simp[upd],⟨hbF,hlt⟩,hblk _⟩
 ·intro i j r r' n n' b1 b2 f e1 e2 p1 p2 o1 o2
  rcases hst i b1 e1 with ⟨h1,h2⟩|⟨rfl,rfl⟩<;>rcases hst j b2 e2 with ⟨h3,h4⟩|⟨rfl,rfl⟩
  ·simp[upd,h1]at p1;simp[upd,h3]at p2;exact hi.inj i j r r' n n' b1 b2 f h2 h4 p1 p2 o1 o2
  ·simp[upd,h1]at p1;simp[upd]at p2;obtain⟨rfl,rfl⟩:=p2;exact absurd o1 (hfr f o2 i r n p1)
  ·simp[upd,h3]at p2;simp[upd]at p1;obtain⟨rfl,rfl⟩:=p1;exact absurd o2 (hfr f o1 j r' n' p2)
  ·rfl
 ·intro i r n f e ho;by_cases h:i=st.length
  ·simp[upd,h]at e;obtain⟨rfl,rfl⟩:=e;exact hlt f ho
  ·simp[upd,h]at e;exact hi.low i r n f e ho
 ·intro id h;by_cases h1:id=st.length
  ·omega
  ·simp[upd,h1]at h;have:=hb id h;omega
theorem Y9:∀ {cs:List IV} {vs:List Value} {F:List Nat},TCells w cs vs F→jR cs=true→F=[]
 | _,_,_, .nil,_=>rfl
 | _,_,_, .lit _ r,h=>Y9 r (by simp only[jR,zU]at h;exact h.2)
 | _,_,_, .isl0 _ r,h=>Y9 r (by simp only[jR,zU]at h;exact h.2)
 | _,_,_, .isl (es:=es) hn _ _ _ _ _ _ _,h=>by
  cases es with
  | nil=>exact absurd rfl hn
  | cons=>simp[jR,jS]at h
theorem NI {φ:Pl} {st:StL} (hi:Inv w m φ (aS st)) (hb:∀ id,φ id≠none→id<st.length) {es:List (List IV)} {k:Nat} {v:Value} {F:List Nat} (hk0:0<k) (hk:∀ e∈es,e.length=k) (ht:TCells w [.isl es] [v] F) (hn:F.Nodup) (hm:∀ f∈F,∀ o,m f o=none) (hlt:∀ f∈F,f<w.heap.size) (hfr:∀ f∈F,fK φ f)
 (hnil:es=[]→v=.slice none 0 0) {blk:Blk} (hmk:blk=.tre k es∨(blk=.arr k es∧fV es=true)) (c:Prop) [Decidable c] (hc:c↔es=[]) :
 ∃ φ',Inv w m φ' (aS (st++if c then []else [some blk]))∧(∀ id,φ' id≠none→id<(st++if c then []else [some blk]).length)∧PLe φ φ'∧Rep m φ' (if c then .nils else .osl st.length k 0 es.length) v∧(∀ f,fK φ f→f ∉ F→fK φ' f)∧∀ id b n f,φ' id=some (b,n)→n.own f→f∈F∨φ id=some (b,n):=by
 by_cases h:c
 ·have he:=hc.1 h;simp only[h,if_true,zO];exact⟨φ,hi,hb, .refl _,by rw[hnil he];exact .nils,fun f h1 _=>h1,fun id b n f h1 _=>.inr h1⟩
 ·have he:es≠[]:=fun e=>h (hc.2 e)
  simp only[h,if_false]
  cases ht with
  | isl0=>exact absurd rfl he
  | @isl b kk cap _ us G _ _ F1 t1 t2 t3 t4 t5 t6 t7 t8 =>
   cases t8
   obtain rfl:kk=k:=by
    cases es with
    | nil=>exact absurd rfl he
    | cons a l=>rw[← t4 a (by simp),hk a (by simp)]
   obtain⟨T,t2,t9⟩:=t2;simp only[zO]at hn hm hlt hfr ⊢
   have hblk:∀ φ':Pl,BlkOk w m φ' b ⟨us.length,fun f=>f∈b::G⟩ blk:=by
    intro φ';have hfit:kk*es.length≤us.length:=xN (zJ kk t6) t5
    rcases hmk with rfl|⟨rfl,hbr⟩
    ·exact .tre (T:=T) t2 rfl hk0 t4 t7.toU hfit hn (fun f hf=>zA5 _ hf) (fun f hf o=>hm f hf o) t9
    ·have hGe:G=[]:=Y9 t7 (fD hbr);subst hGe;exact .arr (T:=T) t2 rfl hk0 t4 (QL (fD hbr) t7.toI) hfit (hm b (by simp)) (fun f hf=>by simpa using hf) t9
   obtain⟨i1,i2⟩:=ADX hi hb (b:=b) (len:=us.length) (F:=b::G) (by simp) hlt hfr hblk;refine⟨_,i1,by simpa using i2,fun i r n e=>⟨n,?_,rfl,fun _ h=>h⟩,?_,?_,?_⟩
   ·have:i≠st.length:=fun h=>by have:=hb i (by rw[e];simp);omega
    simp[upd,this,e]
   ·exact .osl (b:=b) (n:=⟨us.length,fun f=>f∈b::G⟩) (by simp[upd]) t6 (by simpa using t5) (fun _=>by simp) (fun h=>by cases h)
   ·intro f h1 h2 id r n e ho;by_cases hid:id=st.length
    ·simp[upd,hid]at e;obtain⟨rfl,rfl⟩:=e;exact h2 (zS.2 ho)
    ·simp[upd,hid]at e;exact h1 id r n e ho
   ·intro id r n f e ho;by_cases hid:id=st.length
    ·simp[upd,hid]at e;obtain⟨rfl,rfl⟩:=e;exact .inl (zS.2 ho)
    ·simp[upd,hid]at e;exact .inr e
end
theorem IG {l:List Ex}:l=[]↔Ex.aA l=[]:=by cases l<;>simp[Ex.aA]
theorem IC {l:List Pn}:l=[]↔Pn.aA l=[]:=by cases l<;>simp[Pn.aA]
theorem IE {l:List Int}:l=[]↔aF l=[]:=by cases l<;>simp[aF]
theorem AL8:∀ (l:List Ex),∀ r∈Ex.aA l,r.length=5
 | [],r,h=>by simp[Ex.aA]at h
 | a::l,r,h=>by
  simp only[Ex.aA,zS]at h
  rcases h with rfl|h
  ·rw[Ex.aB];rfl
  ·exact AL8 l r h
theorem AL6:∀ (l:List Pn),∀ r∈Pn.aA l,r.length=5
 | [],r,h=>by simp[Pn.aA]at h
 | a::l,r,h=>by
  simp only[Pn.aA,zS]at h
  rcases h with rfl|h
  ·exact Pn.bP _
  ·exact AL6 l r h
theorem AL7:∀ (l:List Int),∀ r∈aF l,r.length=1
 | [],r,h=>by simp[aF]at h
 | a::l,r,h=>by
  simp only[aF,yS,zS]at h
  rcases h with rfl|h
  ·rfl
  ·exact AL7 l r (by simpa [aF]using h)
theorem EY.own {wi:World} {mi:Mem} {p:Pn} {e:Ending} {w:World} (h:EY wi mi p e w):dC wi mi (fun _=>none) (rqA p 0) (rqB p) e w:=by
 obtain⟨v0,v1,v2,v3,v4,F,m,rfl,hone,hm,ha,hc⟩:=h;have ht:=hc.kc.1.toT (fun f hf=>(hc.all f hf).2.2.2.2);obtain⟨nE,nC,nK⟩:=hc.kc.2;have hnd:=hc.nd;have hall:=hc.all;clear hc;rw[Pn.aB]at ht
 cases ht with
 | lit o0 ht =>
 cases ht with
 | lit o1 ht =>
 obtain⟨FE,G,hF,tE,ht2⟩:=ht.split 1;obtain⟨FC,FK,hG,tC,tK⟩:=ht2.split 1;simp at tE tC tK;subst hG;subst hF;have n1:=zF.1 hnd;have n2:=zF.1 n1.2.1
 have i0:Inv w m (fun _=>none) (aS []):=⟨hm,fun id blk e=>by simp[aS]at e,fun id id' b b' n n' blk blk' f e=>by simp[aS]at e,fun _ _ _ _ e=>by cases e⟩
 obtain⟨φ1,i1,b1,p1,r1,f1,q1⟩:=NI (st:=[]) i0 (fun id h=>absurd rfl h) (k:=5) (by omega) (AL8 p.exprs) tE n1.1 (fun f hf=>(hall f (by simp[hf])).2.2.2.1) (fun f hf=>(hall f (by simp[hf])).2.1) (fun f hf=>(hall f (by simp[hf])).2.2.1) (fun h=>nE (IG.2 h)) (blk:=.tre 5 (Ex.aA p.exprs)) (.inl rfl) (p.exprs=[]) IG;have fr1:∀ f∈FC++FK,fK φ1 f:=fun f hf=>f1 f (hall f (by simp at hf ⊢;exact .inr hf)).2.2.1 fun h=>n1.2.2 f h f hf rfl
 obtain⟨φ2,i2,b2,p2,r2,f2,q2⟩:=NI i1 b1 (k:=1) (by omega) (AL7 p.cols) tC n2.1 (fun f hf=>(hall f (by simp[hf])).2.2.2.1) (fun f hf=>(hall f (by simp[hf])).2.1) (fun f hf=>fr1 f (by simp[hf])) (fun h=>nC (IE.2 h)) (blk:=.arr 1 (aF p.cols)) (.inr ⟨rfl,uP _⟩) (p.cols=[]) IE;obtain⟨φ3,i3,b3,p3,r3,f3,q3⟩:=NI i2 b2 (k:=5) (by omega) (AL6 p.kids) tK n2.2.1 (fun f hf=>(hall f (by simp[hf])).2.2.2.1) (fun f hf=>(hall f (by simp[hf])).2.1) (fun f hf=>f2 f (fr1 f (by simp[hf])) fun h=>n2.2.2 f h f hf rfl) (fun h=>nK (IC.2 h)) (blk:=.tre 5 (Pn.aA p.kids)) (.inl rfl) (p.kids=[]) IC;have r1:=r1.mono (.refl m) (p2.trans p3);have r2:=r2.mono (.refl m) p3;refine⟨_,m,φ3,rfl,?_,by simpa [rqB]using i3,⟨ha.size,ha.os,ha.tape,ha.output,ha.block,ha.mle,ha.mnew,(fun _ _ _ h=>by cases h),fun id b n f e1 e2=>?_⟩,by simpa [rqB]using b3⟩
 ·have ho:∀ v∈[v2,v3,v4],v.oneCell'=true:=fun v hv=>hone v (by simp at hv ⊢;rcases hv with h|h|h<;>simp[h])
  refine .agg (.cons (.i (.lit _)) rfl (.cons (.i (.lit _)) rfl (.cons ?_ (ho _ (by simp)) (.cons ?_ (ho _ (by simp)) (.cons ?_ (ho _ (by simp)) .nil)))))
  ·by_cases c1:p.exprs=[]<;>simpa [c1]using r1
  ·by_cases c1:p.exprs=[]<;>by_cases c2:p.cols=[]<;>simpa [c1,c2]using r2
  ·by_cases c1:p.exprs=[]<;>by_cases c2:p.cols=[]<;>by_cases c3:p.kids=[]<;>simpa [c1,c2,c3]using r3
 ·rcases q3 id b n f e1 e2 with h|h
  ·exact .inl (hall f (by simp[h])).1
  ·rcases q2 id b n f h e2 with h|h
   ·exact .inl (hall f (by simp[h])).1
   ·rcases q1 id b n f h e2 with h|h
    ·exact .inl (hall f (by simp[h])).1
    ·cases h
noncomputable def EI:List AV→StL→Option (AV×StL)
 | [.i (.iref cs)],[]=>@dite _ (∃ p:Pn,p.small∧p.cells=cs) (Classical.propDecidable _) (fun h=>some (rqA h.choose 0,rqB h.choose)) fun _=>none
 | _,_=>none
theorem XO {p:Pn} (h:p.small):EI [.i (.iref p.cells)] []=some (rqA p 0,rqB p):=by
 have hh:∃ x:Pn,x.small∧x.cells=p.cells:=⟨p,h,rfl⟩
 unfold EI;simp only;rw[dif_pos hh,Pn.EM _ _ hh.choose_spec.2]
theorem OC {args:List AV} {st:StL} {r:AV×StL} (h:EI args st=some r):∃ p:Pn,p.small∧args=[.i (.iref p.cells)]∧st=[]∧r=(rqA p 0,rqB p):=by
 unfold EI at h;split at h
 ·rename_i cs;by_cases hc:∃ p:Pn,p.small∧p.cells=cs
  ·rw[dif_pos hc]at h;injection h with h;exact⟨hc.choose,hc.choose_spec.1,by rw[hc.choose_spec.2],rfl,h.symm⟩
  ·rw[dif_neg hc]at h;cases h
 ·cases h
end Go.Av
namespace Go.Proofs.Ytjdfjgmebalaaaa.P
open Go Go.Av
set_option maxRecDepth 4000
set_option maxHeartbeats 4000000
noncomputable def ADU:FuncId→Option (List AV→StL→Option (AV×StL))
 | 43=>some EI
 | _=>none
noncomputable def C4:Ctx:={ P:=Try.prog,G:=GS,ownArgs:=eU,keepRes:=keepR,eqT:=EB,prim:=ADU,tree:=true }
theorem ZU:PrimOk C4:=by
 have key:∀ g q,C4.prim g=some q→g=43∧q=EI:=by
  intro g q h;have h:ADU g=some q:=h;unfold ADU at h;split at h
  ·injection h with h;exact⟨rfl,h.symm⟩
  ·cases h
 constructor
 ·intro g args st p h;unfold dB at h
  cases hq:C4.prim g with
  | none=>rw[hq]at h;cases h
  | some q =>
   obtain⟨rfl,rfl⟩:=key g q hq;exact⟨Try.f43,Try.func43,by decide,rfl⟩
 ·intro g args stl r stl' h w m φ vs hi hr h0;unfold dB at h
  cases hq:C4.prim g with
  | none=>rw[hq]at h;cases h
  | some q =>
   obtain⟨rfl,rfl⟩:=key g q hq;rw[hq]at h;obtain⟨p,⟨k1,k2,k3⟩,rfl,rfl,hres⟩:=OC h;injection hres with h1 h2;subst h1;subst h2
   obtain rfl:φ=fun _=>none:=by
    funext id
    cases h:φ id with
    | none=>rfl
    | some p=>exact absurd (h0 id (by rw[h];simp)) (xJ _)
   exact(G.oN k1 k2 k3 hi hr).mono fun _ _ h=>h.own
theorem AHE:SoundOk C4:=jW (C:=C4) ft nt eqS mo ZU
theorem XX {p:Pn} (h:p.small):aH C4 43 [.i (.iref p.cells)] []=some (rqA p 0,rqB p):=by
 rw[aZ (C:=C4) (p:=EI) rfl];exact XO h
end Go.Proofs.Ytjdfjgmebalaaaa.P
namespace Go.Proofs.Ytjdfjgmebalaaaa.P
open Go Go.Av Go.Av.Mk
set_option maxRecDepth 4000
set_option maxHeartbeats 4000000
def Est (v:Pn) (t:Int):StL:=[some (.box [.int t]),vB true v]
noncomputable def VY:FuncId→Option (List AV→StL→Option (AV×StL))
 | 42=>none
 | 26=>none
 | 53=>some (CV (aH C3) 53)
 | 43=>some (aH C4 43)
 | g=>if g=qJ then none else some (aH C0 g)
def PW:FuncId→Bool
 | 42=>true
 | 26=>true
 | g=>keepR g
noncomputable def CN:Ctx:={ P:=Try.prog,G:=GS,ownArgs:=eU,keepRes:=PW,eqT:=EB,prim:=VY,tree:=true }
@[simp] theorem ATQ:CN.P=Try.prog:=(rfl)
@[simp] theorem ATR (f):CN.G f=GS f:=(rfl)
@[simp] theorem ATN (f):CN.ownArgs f=eU f:=(rfl)
@[simp] theorem ATO (f):CN.keepRes f=PW f:=(rfl)
@[simp] theorem ATP (f):CN.eqT f=EB f:=(rfl)
@[simp] theorem ATM:CN.tree=true:=(rfl)
@[simp] theorem AP0:PW 42=true:=(rfl)
@[simp] theorem AOZ:PW 26=true:=(rfl)
theorem ADQ:PrimOk CN:=by
 have h0:=aY eH;have h3:=aY AC4;have h4:=aY AHE
 have key:∀ g q,CN.prim g=some q→(g=53∧q=CV (aH C3) g)∨(g=43∧q=aH C4 g)∨(g≠qJ∧q=aH C0 g):=by
  intro g q h;have h:VY g=some q:=h;unfold VY at h;split at h
  all_goals first
   | (cases h;done)
   | (injection h with h;subst h;simp;done)
   | (split at h
      ·cases h
      ·rename_i hy;injection h with h;exact .inr (.inr ⟨hy,h.symm⟩))
 constructor
 ·intro g args st p h;unfold dB at h
  cases hq:CN.prim g with
  | none=>rw[hq]at h;cases h
  | some q =>
   rw[hq]at h
   rcases key g q hq with ⟨rfl,rfl⟩|⟨rfl,rfl⟩|⟨hy,rfl⟩
   ·exact(mX h3 (r:=p.1) (stl':=p.2) h).1
   ·exact h4.name _ args st p (by decide) h
   ·exact h0.name g args st p hy h
 ·intro g args st r st' h w m φ vs hi hr hb;unfold dB at h
  cases hq:CN.prim g with
  | none=>rw[hq]at h;cases h
  | some q =>
   rw[hq]at h
   rcases key g q hq with ⟨rfl,rfl⟩|⟨rfl,rfl⟩|⟨hy,rfl⟩
   ·exact(mX h3 h).2 w m φ vs hi hr hb
   ·exact h4.calls _ args st r st' (by decide) h w m φ vs hi hr hb
   ·exact h0.calls g args st r st' hy h w m φ vs hi hr hb
theorem ADB:SoundOk CN:=jW (C:=CN) ft nt eqS mo ADQ
@[simp] theorem AGB (a:List AV) (st:StL):aH CN 51 a st=aH C0 51 a st:=aZ (C:=CN) rfl a st
@[simp] theorem AGA (a:List AV) (st:StL):aH CN 52 a st=aH C0 52 a st:=aZ (C:=CN) rfl a st
theorem MC {es:List Ex} {i:Nat} {a:Ex} (ha:es[i]?=some a) (hs:a.size<1000000000):aH CN 53 [.ownE 0 5 i 0] [some (tY es i)]=some (if a.kids=[]then .i (.agg a.cells)else tE a 1,if a.kids=[]then [some (tY es i)]else [some (tY es i),some (kL Ex.cells 5 a.kids)]):=by
 rw[aZ (C:=CN) (p:=CV (aH C3) 53) rfl];exact CS ha hs
theorem TW {v:Pn} (h:v.small):aH CN 43 [.i (.iref v.cells)] []=some (rqA v 0,rqB v):=by
 rw[aZ (C:=CN) (p:=aH C4 43) rfl];exact XX h
theorem tJ {p v:Pn} (hv:v.small) {t:Int}:aH CN 42 [.i (.iref p.cells), .own 0 0, .own 1 0] (Est v t) =
 some (.tup [if p.hit t=true then rqA v 2 else sc Pn.zero, .bool (p.hit t)],Est v t++if p.hit t=true then rqB v else []):=by
 have hc:=TW hv;rw[aI rfl Try.func42 rfl rfl];unfold Pn.hit;rw[Pn.aB v]at hc;by_cases h1:p.kind=1
 ·by_cases h2:p.table=t
  ·by_cases q1:v.exprs=[]<;>by_cases q2:v.cols=[]<;>by_cases q3:v.kids=[] <;>
    (simp only[rqA,rqB,q1,q2,q3,if_true,if_false,zC,zO,zH]at hc ⊢
     try simp at hc
     simp[Est,vB,Pn.aB p,Pn.aB v,q1,q2,q3,hc,h1,h2])
  ·simp[Est,vB,Pn.aB p,Pn.aB v,hc,h1,h2,Pn.zero,sc]
 ·simp[Est,vB,Pn.aB p,Pn.aB v,hc,h1,Pn.zero,sc]
end Go.Proofs.Ytjdfjgmebalaaaa.P
namespace Go.Av
def AEV (k:Nat) (es:List (List IV)):Nat→StL
 | 0=>[]
 | _+1=>[some (.tre k es)]
@[simp] theorem ALG (k:Nat) (es:List (List IV)):AEV k es 0=[]:=(rfl)
@[simp] theorem ALF (k i:Nat) (es:List (List IV)):AEV k es (i+1)=[some (.tre k es)]:=(rfl)
theorem AB {i:Nat} (h:i≠0) (k:Nat) (es:List (List IV)):AEV k es i=[some (.tre k es)]:=by cases i with|zero=>exact absurd rfl h|succ i=>rfl
theorem BD (l:List Ex):(Ex.aA l).take l.length=Ex.aA l:=zX (by simp)
theorem BC (l:List Int):(aF l).take l.length=aF l:=zX (by simp)
theorem BB (l:List Pn):(Pn.aA l).take l.length=Pn.aA l:=zX (by simp)
end Go.Av
namespace Go.Proofs.Ytjdfjgmebalaaaa.P
open Go Go.Av Go.Av.Mk
set_option maxRecDepth 4000
set_option maxHeartbeats 8000000
theorem V4 {p v:Pn} (hv:v.small) {t:Int} (hh:p.hit t=true):aH CN 26 [.i (.iref p.cells), .fn (.func 42) [.own 0 0, .own 1 0]] (Est v t)=some (rqA v 2,Est v t++rqB v):=by
 have hf:=tJ (p:=p) (t:=t) hv;simp only[hh,if_true,Est]at hf;rw[aI rfl Try.func26 rfl rfl]
 by_cases q1:v.exprs=[]<;>by_cases q2:v.cols=[]<;>by_cases q3:v.kids=[] <;>
  (simp only[rqA,rqB,q1,q2,q3,if_true,if_false,zC,zO,zH]at hf ⊢
   try simp at hf
   simp[Est,hf])
def YE (p v:Pn) (t:Int) (i:Nat):AS :=
 { env:=[(0, .i (.iref [.int p.kind, .int p.table, .isl (Ex.aA p.exprs), .isl (aF p.cols), .isl (Pn.aA p.kids)])),(1, .fn (.func 42) [.own 0 0, .own 1 0]),(4, .own 2 0),(5, .own 3 0),(6, .bool false),(7, .own 4 0),(8,jk i (.int (i-1))),(9, .junk),(16, .bool false),(39, .int p.exprs.length),(40, .int i),(41,jk i (.bool true)),(57, .junk),(58, .junk),(59, .junk)],
   st:=some (.box [.int t])::vB true v::some (.box [.int 0, .int 0, .nils, .nils, .nils])::some (.box [.int 0, .int 0, .nils, .nils, .nils])::some (.box [.int p.kind, .int p.table, .osl 5 5 0 p.exprs.length, .osl 6 1 0 p.cols.length, .nils])::some (tY p.exprs i)::some (.arr 1 (aF p.cols))::[] }
def UF (p v:Pn) (t:Int) (i:Nat):AS :=
 { env:=[(0, .i (.iref [.int p.kind, .int p.table, .isl (Ex.aA p.exprs), .isl (aF p.cols), .isl (Pn.aA p.kids)])),(1, .fn (.func 42) [.own 0 0, .own 1 0]),(4, .own 2 0),(5, .own 3 0),(6, .bool false),(7, .own 4 0),(8, .int (p.exprs.length-1)),(9,jk i (.int (i-1))),(16, .bool false),(39, .int p.exprs.length),(40, .int p.exprs.length),(41, .bool false),(57, .int p.kids.length),(58, .int i),(59,jk i (.bool true))],
   st:=some (.box [.int t])::vB true v::some (.box [.int 0, .int 0, .nils, .nils, .nils])::some (.box [.int 0, .int 0, .nils, .nils, .nils])::some (.box [.int p.kind, .int p.table, .osl 5 5 0 p.exprs.length, .osl 6 1 0 p.cols.length,gro 7 5 i])::some (.tre 5 (Ex.aA p.exprs))::some (.arr 1 (aF p.cols))::(AEV 5 (Pn.aA (dA v t (p.kids.take i))) i) }
theorem K8 {p v:Pn} (hv:v.small) (hp:p.thin) (hq:∀ e∈p.exprs,e.size<1000000000) (he:p.exprs≠[]) (hc:p.cols≠[]) {t:Int} (hh:p.hit t=false)
 (ih:∀ a∈p.kids,aH CN 26 [.i (.iref a.cells), .fn (.func 42) [.own 0 0, .own 1 0]] (Est v t)=some (rqA (iQ v t a) 2,Est v t++rqB (iQ v t a))) :
 aH CN 26 [.i (.iref p.cells), .fn (.func 42) [.own 0 0, .own 1 0]] (Est v t)=some (rqA (iQ v t p) 2,Est v t++rqB (iQ v t p)):=by
 have hf:=tJ (p:=p) (t:=t) hv;simp only[hh,if_false,Est,yN,sc,Pn.zero,Pn.bK,Pn.bY,zO]at hf;obtain⟨t1,t2,t3,t4,-⟩:=(Pn.bR _).1 hp;rw[Pn.aB]at hf;have hE:=EL he t1;have hel:p.exprs.length≠0:=fun h=>he (zZ.1 h)
 have hI:=EK hc t3;have hcl:p.cols.length≠0:=fun h=>hc (zZ.1 h)
 rw[aI rfl Try.func26 rfl rfl,gL hh,Pn.aB];simp[Est,hf,hE,hI];rw[aV (YE p v t) p.exprs.length (by simp[YE,tY])]
 ·rw[aG];have hend:=JD he;simp[YE,hend];rw[aV (UF p v t) p.kids.length (by simp[UF,d9 hel])]
  ·rw[aG]
   cases hm:p.kids.length with
   | zero =>
    have hk:p.kids=[]:=zZ.1 hm;simp[UF,rqA,rqB,Pn.bK,Pn.bY,Pn.bD,Pn.bW,Pn.dF,hk,dA,he,hc]
   | succ m =>
    have hk:p.kids.take (m+1)=p.kids:=zX (by omega);have hk1:(dA v t p.kids).length=m+1:=by simp[hm]
    have hk3:dA v t p.kids≠[]:=fun h=>by rw[h]at hk1;simp at hk1
    simp[UF,rqA,rqB,Pn.bK,Pn.bY,Pn.bD,Pn.bW,Pn.dF,hm,hk,hk1,hk3,he,hc]
  ·intro i hi;have h3:=zW hi;have hm:=zT h3;have r2:=Pn.aP h3;have htk:=aN h3;generalize p.kids[i]=a at h3 hm r2 htk;have hk:=ih a hm;have w2:IntKind.i64.wrap ((i:Int)+1)=i+1:=wrO;have hfs:=lY v t (p.kids.take i) a;have hft:(dA v t (p.kids.take i)).length=i:=by simp;omega
   rw[Pn.aB a]at r2 hk;simp only[Est]at hk;generalize iQ v t a=q at hk hfs;generalize hGL:dA v t (p.kids.take i)=FL at hfs hft;have hl1:(i+1)*88≤140737488355328:=by omega
   have b1:=BD q.exprs;have b2:=BC q.cols;have b3:=BB q.kids;have b4:=dU q.cols;have b5:(Pn.aA FL).take i=Pn.aA FL:=zX (by simp;omega);have hrow:Pn.aA (FL++[q])=Pn.aA FL++[[.int q.kind, .int q.table, .isl (Ex.aA q.exprs), .isl (aF q.cols), .isl (Pn.aA q.kids)]]:=by rw[Pn.aX,Pn.aB q]
   have z1:Ex.aA []=[]:=rfl;have z2:aF []=[]:=rfl;have z3:Pn.aA []=[]:=rfl;by_cases h0:i=0
   ·subst h0;have hFL:FL=[]:=zZ.1 hft;subst hFL;simp only[xG,zC,z3]at hrow hfs htk
    by_cases q1:q.exprs=[]<;>by_cases q2:q.cols=[]<;>by_cases q3:q.kids=[] <;>
     (simp only[rqA,rqB,q1,q2,q3,if_true,if_false,zC,zO,zH,z1,z2,z3]at hk hrow b1 b2 b3 b4
      simp[UF,hi,r2,hk,bS,htk,hfs,hrow,b1,b2,b3,b4,d9 hel])
   ·have hi0:0<i:=by omega
    by_cases q1:q.exprs=[]<;>by_cases q2:q.cols=[]<;>by_cases q3:q.kids=[] <;>
     (simp only[rqA,rqB,q1,q2,q3,if_true,if_false,zC,zO,zH,z1,z2,z3]at hk hrow b1 b2 b3 b4
      simp[UF,aO h0,AB h0,d9 h0,hi,hi0,r2,hk,w2,htk,hGL,hfs,hrow,b1,b2,b3,b4,b5,hft,hl1,h0])
 ·intro i hi;have h3:=zW hi;have hs:=hq _ (zT h3);generalize p.exprs[i]=a at h3 hs;have hk:=MC h3 hs;have hput:=JC h3;have w2:IntKind.i64.wrap ((i:Int)+1)=i+1:=wrO;by_cases hkk:a.kids=[]
  ·simp only[hkk,if_true,Ex.aB,Ex.aA]at hk hput;simp[YE,hi,hk,w2,hput]
  ·simp only[hkk,if_false,tE]at hk;simp only[Ex.aB,Ex.aU]at hput;simp[YE,hi,hk,w2,hput]
def YF (p v:Pn) (t:Int) (i:Nat):AS :=
 { env:=[(0, .i (.iref [.int p.kind, .int p.table, .isl (Ex.aA p.exprs), .isl (aF p.cols), .isl (Pn.aA p.kids)])),(1, .fn (.func 42) [.own 0 0, .own 1 0]),(4, .own 2 0),(5, .own 3 0),(6, .bool false),(7, .own 4 0),(8,jk i (.int (i-1))),(9, .junk),(16, .bool false),(39, .int p.exprs.length),(40, .int i),(41,jk i (.bool true)),(57, .junk),(58, .junk),(59, .junk)],
   st:=some (.box [.int t])::vB true v::some (.box [.int 0, .int 0, .nils, .nils, .nils])::some (.box [.int 0, .int 0, .nils, .nils, .nils])::some (.box [.int p.kind, .int p.table, .osl 5 5 0 p.exprs.length, .nils, .nils])::some (tY p.exprs i)::[] }
def UG (p v:Pn) (t:Int) (i:Nat):AS :=
 { env:=[(0, .i (.iref [.int p.kind, .int p.table, .isl (Ex.aA p.exprs), .isl (aF p.cols), .isl (Pn.aA p.kids)])),(1, .fn (.func 42) [.own 0 0, .own 1 0]),(4, .own 2 0),(5, .own 3 0),(6, .bool false),(7, .own 4 0),(8, .int (p.exprs.length-1)),(9,jk i (.int (i-1))),(16, .bool false),(39, .int p.exprs.length),(40, .int p.exprs.length),(41, .bool false),(57, .int p.kids.length),(58, .int i),(59,jk i (.bool true))],
   st:=some (.box [.int t])::vB true v::some (.box [.int 0, .int 0, .nils, .nils, .nils])::some (.box [.int 0, .int 0, .nils, .nils, .nils])::some (.box [.int p.kind, .int p.table, .osl 5 5 0 p.exprs.length, .nils,gro 6 5 i])::some (.tre 5 (Ex.aA p.exprs))::(AEV 5 (Pn.aA (dA v t (p.kids.take i))) i) }
theorem K9 {p v:Pn} (hv:v.small) (hp:p.thin) (hq:∀ e∈p.exprs,e.size<1000000000) (he:p.exprs≠[]) (hc:p.cols=[]) {t:Int} (hh:p.hit t=false)
 (ih:∀ a∈p.kids,aH CN 26 [.i (.iref a.cells), .fn (.func 42) [.own 0 0, .own 1 0]] (Est v t)=some (rqA (iQ v t a) 2,Est v t++rqB (iQ v t a))) :
 aH CN 26 [.i (.iref p.cells), .fn (.func 42) [.own 0 0, .own 1 0]] (Est v t)=some (rqA (iQ v t p) 2,Est v t++rqB (iQ v t p)):=by
 have hf:=tJ (p:=p) (t:=t) hv;simp only[hh,if_false,Est,yN,sc,Pn.zero,Pn.bK,Pn.bY,zO]at hf;obtain⟨t1,t2,t3,t4,-⟩:=(Pn.bR _).1 hp;rw[Pn.aB]at hf;have hE:=EL he t1;have hel:p.exprs.length≠0:=fun h=>he (zZ.1 h)
 have hI:=wH;rw[aI rfl Try.func26 rfl rfl,gL hh,Pn.aB];simp only[hc,aF]at hf;simp[Est,hf,hE,hI,hc,aF];rw[aV (YF p v t) p.exprs.length (by simp[YF,tY,hc,aF])]
 ·rw[aG];have hend:=JD he;simp[YF,hend,hc,aF];rw[aV (UG p v t) p.kids.length (by simp[UG,d9 hel,hc,aF])]
  ·rw[aG]
   cases hm:p.kids.length with
   | zero =>
    have hk:p.kids=[]:=zZ.1 hm;simp[UG,rqA,rqB,Pn.bK,Pn.bY,Pn.bD,Pn.bW,Pn.dF,hk,dA,he,hc]
   | succ m =>
    have hk:p.kids.take (m+1)=p.kids:=zX (by omega);have hk1:(dA v t p.kids).length=m+1:=by simp[hm]
    have hk3:dA v t p.kids≠[]:=fun h=>by rw[h]at hk1;simp at hk1
    simp[UG,rqA,rqB,Pn.bK,Pn.bY,Pn.bD,Pn.bW,Pn.dF,hm,hk,hk1,hk3,he,hc,hc,aF]
  ·intro i hi;have h3:=zW hi;have hm:=zT h3;have r2:=Pn.aP h3;have htk:=aN h3;generalize p.kids[i]=a at h3 hm r2 htk;have hk:=ih a hm;have w2:IntKind.i64.wrap ((i:Int)+1)=i+1:=wrO;have hfs:=lY v t (p.kids.take i) a;have hft:(dA v t (p.kids.take i)).length=i:=by simp;omega
   rw[Pn.aB a]at r2 hk;simp only[Est]at hk;generalize iQ v t a=q at hk hfs;generalize hGL:dA v t (p.kids.take i)=FL at hfs hft;have hl1:(i+1)*88≤140737488355328:=by omega
   have b1:=BD q.exprs;have b2:=BC q.cols;have b3:=BB q.kids;have b4:=dU q.cols;have b5:(Pn.aA FL).take i=Pn.aA FL:=zX (by simp;omega);have hrow:Pn.aA (FL++[q])=Pn.aA FL++[[.int q.kind, .int q.table, .isl (Ex.aA q.exprs), .isl (aF q.cols), .isl (Pn.aA q.kids)]]:=by rw[Pn.aX,Pn.aB q]
   have z1:Ex.aA []=[]:=rfl;have z2:aF []=[]:=rfl;have z3:Pn.aA []=[]:=rfl;by_cases h0:i=0
   ·subst h0;have hFL:FL=[]:=zZ.1 hft;subst hFL;simp only[xG,zC,z3]at hrow hfs htk
    by_cases q1:q.exprs=[]<;>by_cases q2:q.cols=[]<;>by_cases q3:q.kids=[] <;>
     (simp only[rqA,rqB,q1,q2,q3,if_true,if_false,zC,zO,zH,z1,z2,z3]at hk hrow b1 b2 b3 b4
      simp[UG,hi,r2,hk,bS,htk,hfs,hrow,b1,b2,b3,b4,d9 hel,hc,aF])
   ·have hi0:0<i:=by omega
    by_cases q1:q.exprs=[]<;>by_cases q2:q.cols=[]<;>by_cases q3:q.kids=[] <;>
     (simp only[rqA,rqB,q1,q2,q3,if_true,if_false,zC,zO,zH,z1,z2,z3]at hk hrow b1 b2 b3 b4
      simp[UG,aO h0,AB h0,d9 h0,hi,hi0,r2,hk,w2,htk,hGL,hfs,hrow,b1,b2,b3,b4,b5,hft,hl1,h0,hc,aF])
 ·intro i hi;have h3:=zW hi;have hs:=hq _ (zT h3);generalize p.exprs[i]=a at h3 hs;have hk:=MC h3 hs;have hput:=JC h3;have w2:IntKind.i64.wrap ((i:Int)+1)=i+1:=wrO;by_cases hkk:a.kids=[]
  ·simp only[hkk,if_true,Ex.aB,Ex.aA]at hk hput;simp[YF,hi,hk,w2,hput,hc,aF]
  ·simp only[hkk,if_false,tE]at hk;simp only[Ex.aB,Ex.aU]at hput;simp[YF,hi,hk,w2,hput,hc,aF]
def UH (p v:Pn) (t:Int) (i:Nat):AS :=
 { env:=[(0, .i (.iref [.int p.kind, .int p.table, .isl (Ex.aA p.exprs), .isl (aF p.cols), .isl (Pn.aA p.kids)])),(1, .fn (.func 42) [.own 0 0, .own 1 0]),(4, .own 2 0),(5, .own 3 0),(6, .bool false),(7, .own 4 0),(8, .junk),(9,jk i (.int (i-1))),(16, .bool false),(39, .int p.exprs.length),(40, .int p.exprs.length),(41, .bool false),(57, .int p.kids.length),(58, .int i),(59,jk i (.bool true))],
   st:=some (.box [.int t])::vB true v::some (.box [.int 0, .int 0, .nils, .nils, .nils])::some (.box [.int 0, .int 0, .nils, .nils, .nils])::some (.box [.int p.kind, .int p.table, .nils, .osl 5 1 0 p.cols.length,gro 6 5 i])::some (.arr 1 (aF p.cols))::(AEV 5 (Pn.aA (dA v t (p.kids.take i))) i) }
theorem KA {p v:Pn} (hv:v.small) (hp:p.thin) (hq:∀ e∈p.exprs,e.size<1000000000) (he:p.exprs=[]) (hc:p.cols≠[]) {t:Int} (hh:p.hit t=false)
 (ih:∀ a∈p.kids,aH CN 26 [.i (.iref a.cells), .fn (.func 42) [.own 0 0, .own 1 0]] (Est v t)=some (rqA (iQ v t a) 2,Est v t++rqB (iQ v t a))) :
 aH CN 26 [.i (.iref p.cells), .fn (.func 42) [.own 0 0, .own 1 0]] (Est v t)=some (rqA (iQ v t p) 2,Est v t++rqB (iQ v t p)):=by
 have hf:=tJ (p:=p) (t:=t) hv;simp only[hh,if_false,Est,yN,sc,Pn.zero,Pn.bK,Pn.bY,zO]at hf;obtain⟨t1,t2,t3,t4,-⟩:=(Pn.bR _).1 hp;rw[Pn.aB]at hf;have hE:=wI;have hI:=EK hc t3;have hcl:p.cols.length≠0:=fun h=>hc (zZ.1 h)
 rw[aI rfl Try.func26 rfl rfl,gL hh,Pn.aB];simp only[he,Ex.aA]at hf;simp[Est,hf,hE,hI,he,Ex.aA];rw[aG];simp;rw[aV (UH p v t) p.kids.length (by simp[UH,he,Ex.aA])]
 ·rw[aG]
  cases hm:p.kids.length with
  | zero =>
   have hk:p.kids=[]:=zZ.1 hm;simp[UH,rqA,rqB,Pn.bK,Pn.bY,Pn.bD,Pn.bW,Pn.dF,hk,dA,he,hc]
  | succ m =>
   have hk:p.kids.take (m+1)=p.kids:=zX (by omega);have hk1:(dA v t p.kids).length=m+1:=by simp[hm]
   have hk3:dA v t p.kids≠[]:=fun h=>by rw[h]at hk1;simp at hk1
   simp[UH,rqA,rqB,Pn.bK,Pn.bY,Pn.bD,Pn.bW,Pn.dF,hm,hk,hk1,hk3,he,hc,he,Ex.aA]
 ·intro i hi;have h3:=zW hi;have hm:=zT h3;have r2:=Pn.aP h3;have htk:=aN h3;generalize p.kids[i]=a at h3 hm r2 htk;have hk:=ih a hm;have w2:IntKind.i64.wrap ((i:Int)+1)=i+1:=wrO;have hfs:=lY v t (p.kids.take i) a;have hft:(dA v t (p.kids.take i)).length=i:=by simp;omega
  rw[Pn.aB a]at r2 hk;simp only[Est]at hk;generalize iQ v t a=q at hk hfs;generalize hGL:dA v t (p.kids.take i)=FL at hfs hft;have hl1:(i+1)*88≤140737488355328:=by omega
  have b1:=BD q.exprs;have b2:=BC q.cols;have b3:=BB q.kids;have b4:=dU q.cols;have b5:(Pn.aA FL).take i=Pn.aA FL:=zX (by simp;omega);have hrow:Pn.aA (FL++[q])=Pn.aA FL++[[.int q.kind, .int q.table, .isl (Ex.aA q.exprs), .isl (aF q.cols), .isl (Pn.aA q.kids)]]:=by rw[Pn.aX,Pn.aB q]
  have z1:Ex.aA []=[]:=rfl;have z2:aF []=[]:=rfl;have z3:Pn.aA []=[]:=rfl;by_cases h0:i=0
  ·subst h0;have hFL:FL=[]:=zZ.1 hft;subst hFL;simp only[xG,zC,z3]at hrow hfs htk
   by_cases q1:q.exprs=[]<;>by_cases q2:q.cols=[]<;>by_cases q3:q.kids=[] <;>
    (simp only[rqA,rqB,q1,q2,q3,if_true,if_false,zC,zO,zH,z1,z2,z3]at hk hrow b1 b2 b3 b4
     simp[UH,hi,r2,hk,bS,htk,hfs,hrow,b1,b2,b3,b4,he,Ex.aA])
  ·have hi0:0<i:=by omega
   by_cases q1:q.exprs=[]<;>by_cases q2:q.cols=[]<;>by_cases q3:q.kids=[] <;>
    (simp only[rqA,rqB,q1,q2,q3,if_true,if_false,zC,zO,zH,z1,z2,z3]at hk hrow b1 b2 b3 b4
     simp[UH,aO h0,AB h0,d9 h0,hi,hi0,r2,hk,w2,htk,hGL,hfs,hrow,b1,b2,b3,b4,b5,hft,hl1,h0,he,Ex.aA])
def UI (p v:Pn) (t:Int) (i:Nat):AS :=
 { env:=[(0, .i (.iref [.int p.kind, .int p.table, .isl (Ex.aA p.exprs), .isl (aF p.cols), .isl (Pn.aA p.kids)])),(1, .fn (.func 42) [.own 0 0, .own 1 0]),(4, .own 2 0),(5, .own 3 0),(6, .bool false),(7, .own 4 0),(8, .junk),(9,jk i (.int (i-1))),(16, .bool false),(39, .int p.exprs.length),(40, .int p.exprs.length),(41, .bool false),(57, .int p.kids.length),(58, .int i),(59,jk i (.bool true))],
   st:=some (.box [.int t])::vB true v::some (.box [.int 0, .int 0, .nils, .nils, .nils])::some (.box [.int 0, .int 0, .nils, .nils, .nils])::some (.box [.int p.kind, .int p.table, .nils, .nils,gro 5 5 i])::(AEV 5 (Pn.aA (dA v t (p.kids.take i))) i) }
theorem KC {p v:Pn} (hv:v.small) (hp:p.thin) (hq:∀ e∈p.exprs,e.size<1000000000) (he:p.exprs=[]) (hc:p.cols=[]) {t:Int} (hh:p.hit t=false)
 (ih:∀ a∈p.kids,aH CN 26 [.i (.iref a.cells), .fn (.func 42) [.own 0 0, .own 1 0]] (Est v t)=some (rqA (iQ v t a) 2,Est v t++rqB (iQ v t a))) :
 aH CN 26 [.i (.iref p.cells), .fn (.func 42) [.own 0 0, .own 1 0]] (Est v t)=some (rqA (iQ v t p) 2,Est v t++rqB (iQ v t p)):=by
 have hf:=tJ (p:=p) (t:=t) hv;simp only[hh,if_false,Est,yN,sc,Pn.zero,Pn.bK,Pn.bY,zO]at hf;obtain⟨t1,t2,t3,t4,-⟩:=(Pn.bR _).1 hp;rw[Pn.aB]at hf;have hE:=wI;have hI:=wH;rw[aI rfl Try.func26 rfl rfl,gL hh,Pn.aB];simp only[he,Ex.aA,hc,aF]at hf;simp[Est,hf,hE,hI,he,Ex.aA,hc,aF];rw[aG];simp;rw[aV (UI p v t) p.kids.length (by simp[UI,he,Ex.aA,hc,aF])]
 ·rw[aG]
  cases hm:p.kids.length with
  | zero =>
   have hk:p.kids=[]:=zZ.1 hm;simp[UI,rqA,rqB,Pn.bK,Pn.bY,Pn.bD,Pn.bW,Pn.dF,hk,dA,he,hc]
  | succ m =>
   have hk:p.kids.take (m+1)=p.kids:=zX (by omega);have hk1:(dA v t p.kids).length=m+1:=by simp[hm]
   have hk3:dA v t p.kids≠[]:=fun h=>by rw[h]at hk1;simp at hk1
   simp[UI,rqA,rqB,Pn.bK,Pn.bY,Pn.bD,Pn.bW,Pn.dF,hm,hk,hk1,hk3,he,hc,he,Ex.aA,hc,aF]
 ·intro i hi;have h3:=zW hi;have hm:=zT h3;have r2:=Pn.aP h3;have htk:=aN h3;generalize p.kids[i]=a at h3 hm r2 htk;have hk:=ih a hm;have w2:IntKind.i64.wrap ((i:Int)+1)=i+1:=wrO;have hfs:=lY v t (p.kids.take i) a;have hft:(dA v t (p.kids.take i)).length=i:=by simp;omega
  rw[Pn.aB a]at r2 hk;simp only[Est]at hk;generalize iQ v t a=q at hk hfs;generalize hGL:dA v t (p.kids.take i)=FL at hfs hft;have hl1:(i+1)*88≤140737488355328:=by omega
  have b1:=BD q.exprs;have b2:=BC q.cols;have b3:=BB q.kids;have b4:=dU q.cols;have b5:(Pn.aA FL).take i=Pn.aA FL:=zX (by simp;omega);have hrow:Pn.aA (FL++[q])=Pn.aA FL++[[.int q.kind, .int q.table, .isl (Ex.aA q.exprs), .isl (aF q.cols), .isl (Pn.aA q.kids)]]:=by rw[Pn.aX,Pn.aB q]
  have z1:Ex.aA []=[]:=rfl;have z2:aF []=[]:=rfl;have z3:Pn.aA []=[]:=rfl;by_cases h0:i=0
  ·subst h0;have hFL:FL=[]:=zZ.1 hft;subst hFL;simp only[xG,zC,z3]at hrow hfs htk
   by_cases q1:q.exprs=[]<;>by_cases q2:q.cols=[]<;>by_cases q3:q.kids=[] <;>
    (simp only[rqA,rqB,q1,q2,q3,if_true,if_false,zC,zO,zH,z1,z2,z3]at hk hrow b1 b2 b3 b4
     simp[UI,hi,r2,hk,bS,htk,hfs,hrow,b1,b2,b3,b4,he,Ex.aA,hc,aF])
  ·have hi0:0<i:=by omega
   by_cases q1:q.exprs=[]<;>by_cases q2:q.cols=[]<;>by_cases q3:q.kids=[] <;>
    (simp only[rqA,rqB,q1,q2,q3,if_true,if_false,zC,zO,zH,z1,z2,z3]at hk hrow b1 b2 b3 b4
     simp[UI,aO h0,AB h0,d9 h0,hi,hi0,r2,hk,w2,htk,hGL,hfs,hrow,b1,b2,b3,b4,b5,hft,hl1,h0,he,Ex.aA,hc,aF])
theorem ZA {v:Pn} (hv:v.small) {t:Int}:∀ (p:Pn),p.thin→p.tiny→aH CN 26 [.i (.iref p.cells), .fn (.func 42) [.own 0 0, .own 1 0]] (Est v t)=some (rqA (iQ v t p) 2,Est v t++rqB (iQ v t p)):=by
 intro p
 induction p using Pn.ind with
 | h k tb es cs ks ih =>
  intro ht hy
  cases hh:(Pn.mk k tb es cs ks).hit t with
  | true =>
   rw[tH hh];exact V4 hv hh
  | false =>
   have ih':∀ a∈ks,_:=fun a ha=>ih a ha (((Pn.bR _).1 ht).2.2.2.2 a ha) (((Pn.rV _).1 hy).2 a ha)
   have hq:∀ e∈es,e.size<1000000000:=((Pn.rV _).1 hy).1;by_cases he:es=[]
   ·by_cases hc:cs=[]
    ·exact KC hv ht hq he hc hh ih'
    ·exact KA hv ht hq he hc hh ih'
   ·by_cases hc:cs=[]
    ·exact K9 hv ht hq he hc hh ih'
    ·exact K8 hv ht hq he hc hh ih'
end Go.Proofs.Ytjdfjgmebalaaaa.P
namespace Go.Proofs.Ytjdfjgmebalaaaa.P
open Go Go.Av
set_option maxRecDepth 4000
set_option maxHeartbeats 4000000
theorem AAG {α:Type} {D R:List α} {y x:α} {i:Nat} (hD:D.length=i):(D++y::R).set i x=D++x::R:=by
 subst hD;simp
theorem M8 {α:Type} {l:List α} {i:Nat} {a:α} (h:l[i]?=some a):l.drop i=a::l.drop (i+1):=by
 obtain⟨hl,rfl⟩:=zY.1 h;exact yH hl
end Go.Proofs.Ytjdfjgmebalaaaa.P
namespace Go.Proofs.Ytjdfjgmebalaaaa
open Go Go.Av
set_option maxRecDepth 4000
noncomputable def AK8:FuncId→Option (List AV→StL→Option (AV×StL))
 | 1000000007=>none
 | 9=>none
 | 16=>none
 | 59=>some (AKO (aH C0) 59)
 | 26=>some (ACJ (aH C0) 26)
 | 60=>some (ACJ (aH C0) 60)
 | 47=>some (AMJ (aH C0) 47)
 | g=>some (aH C0 g)
def ALD:FuncId→Bool
 | 59=>true
 | g=>eU g
noncomputable def CP:Ctx:={ P:=Try.prog,G:=GS,ownArgs:=ALD,keepRes:=keepR,eqT:=EB,prim:=AK8 }
@[simp] theorem ATK:CP.P=Try.prog:=(rfl)
@[simp] theorem ATL (f):CP.G f=GS f:=(rfl)
@[simp] theorem ATH (f):CP.ownArgs f=ALD f:=(rfl)
@[simp] theorem ATI (f):CP.keepRes f=keepR f:=(rfl)
@[simp] theorem ATJ (f):CP.eqT f=EB f:=(rfl)
@[simp] theorem ATG:CP.tree=false:=(rfl)
end Go.Proofs.Ytjdfjgmebalaaaa
namespace Go.Av
def Z0 (v:Pn) (ws:List Int) (t:Int):Bool:=decide (v.width ws≠0) && (decide (0≤t) && (decide (t<ws.length) && decide (ws[t.toNat]?=some (v.width ws))))
def AG7 (p v:Pn) (ws:List Int) (t:Int):Bool:=decide (p.width ws≠0) && Z0 v ws t
theorem ZB {p:Pn} {ws:List Int} (h:p.width ws≠0):J9 ws=true:=by
 unfold Pn.width at h;exact(X6 h).1
theorem ZY {ws:List Int} (h:J9 ws=true) {i:Nat} {w:Int} (hw:ws[i]?=some w):1≤w:=by
 simp only[J9,zU,yV]at h;have:=h.2 w (zT hw);simp[dK]at this;omega
end Go.Av
namespace Go.Proofs.Ytjdfjgmebalaaaa.P
open Go Go.Av
set_option maxRecDepth 4000
set_option maxHeartbeats 4000000
theorem TY (v:Pn) (ws:List Int) (t:Int):aH C0 25 [.i (.agg v.cells), .i (.isl (aF ws)), .int t] []=some (.bool (Z0 v ws t),[]):=by
 have hv:=nY v ws;rw[aI rfl Try.func25 rfl rfl];unfold Z0;rw[Pn.aB]at hv ⊢;by_cases h1:v.width ws=0
 ·simp[hv,h1]
 by_cases h2:0≤t
 case neg=>simp[hv,h1,h2]
 by_cases h3:t<ws.length
 case neg=>simp[hv,h1,h2,h3]
 have hlt:t.toNat<ws.length:=by omega
 have h4:=zW hlt;generalize ws[t.toNat]=x at h4;obtain⟨_,h4'⟩:=zY.1 h4;have r2:=bO h4;by_cases h5:x=v.width ws
 ·simp[hv,h1,h2,h3,r2,h4',h5]
 ·have hb:(x == v.width ws)=false:=by simpa using h5
  simp[hv,h1,h2,h3,r2,h4',h5,hb]
theorem KH (p v:Pn) (hp:p.lim) (hv:v.lim) (ws:List Int) (hl:ws.length<9223372036854775808) (t:Int):aH C0 20 [.i (.agg p.cells), .i (.agg v.cells), .i (.isl (aF ws)), .int t] []=some (.bool (AG7 p v ws t),[]):=by
 have e1:=uC p hp ws hl;have e2:=uC v hv ws hl;have g1:=Pn.AU (p:=p) (ws:=ws);have g2:=Pn.AU (p:=v) (ws:=ws);have w2:IntKind.i64.wrap ((ws.length:Int)-1)=ws.length-1:=wrO;rw[aI rfl Try.func20 rfl rfl];unfold AG7 Z0;rw[Pn.aB p]at e1 ⊢;rw[Pn.aB v]at e2 ⊢;by_cases h1:p.width ws=0
 ·simp[e1,h1]
 have h1':0<p.width ws:=by omega
 by_cases h2:0≤t
 case neg=>simp[e1,h1,h1',h2,w2]
 by_cases h3:t<ws.length
 case neg=>simp[e1,h1,h1',h2,h3,w2,show ¬ t≤(ws.length:Int)-1 by omega]
 have hlt:t.toNat<ws.length:=by omega
 have h4:=zW hlt;generalize ws[t.toNat]=x at h4;obtain⟨_,h4'⟩:=zY.1 h4;have r2:=bO h4;have hx:=ZY (ZB h1) h4;by_cases h5:v.width ws=x
 ·have h6:¬ x=0:=by omega
  simp[e1,e2,h1,h1',h2,h3,r2,h4',h5,w2,h6,show t≤(ws.length:Int)-1 by omega]
 ·have h5':¬ x=v.width ws:=fun e=>h5 e.symm
  have hb:(v.width ws == x)=false:=by simpa using h5
  simp[e1,e2,h1,h1',h2,h3,r2,h4',h5,h5',hb,w2,show t≤(ws.length:Int)-1 by omega]
def PHX (p:Pn) (i:Nat):AS :=
 { env:=[(0, .i (.iref [.int p.kind, .int p.table, .isl (Ex.aA p.exprs), .isl (aF p.cols), .isl (Pn.aA p.kids)])),(2, .int 0),(3, .int (wD (p.kids.take i):Nat)),(4,jk i (.int (i-1))),(9, .int p.kids.length),(10, .int i),(11,jk i (.bool true))],st:=[] }
theorem RZ:∀ (p:Pn),p.thin→p.size<1000000000→aH C0 41 [.i (.iref p.cells)] []=some (.int (htP p:Nat),[]):=by -- 40
 intro p
 induction p using Pn.ind with
 | h k tb es cs ks ih =>
  intro ht hn;generalize hp:Pn.mk k tb es cs ks=p at *
  have hks:ks=p.kids:=by rw[← hp];rfl
  subst hks;obtain⟨t1,t2,t3,t4,t5⟩:=(Pn.bR _).1 ht;have hsz:=Pn.size_eq p;rw[aI rfl Try.func41 rfl rfl,Pn.aB,H9];simp;rw[aV (PHX p) p.kids.length (by simp[PHX,wD])]
  ·rw[aG];simp[PHX]
  ·intro i hi;have h3:=zW hi;have hm:=zT h3;have r2:=Pn.aP h3;have htk:=aN h3;generalize p.kids[i]=a at h3 hm r2 htk
   have hle:a.size≤Pn.aL p.kids:=by
    have h:=Pn.fP (p.kids.take (i+1)) (p.kids.drop (i+1));rw[yG,htk,Pn.fP]at h;simp only[Pn.aL]at h;omega
   have hk:=ih a hm (t5 a hm) (by omega);have hh:=sU a;have w2:IntKind.i64.wrap ((i:Int)+1)=i+1:=wrO;have w3:IntKind.i64.wrap (1+(htP a:Int))=1+htP a:=wrO;rw[Pn.aB a]at r2 hk;have hmx:max (wD (p.kids.take i):Int) (1+(htP a:Int))=((max (wD (p.kids.take i)) (1+htP a):Nat):Int):=by omega
   by_cases h0:i=0
   ·subst h0;simp[wD]at hmx;simp[PHX,hi,r2,hk,bS,w3,htk,DF,wD,hmx];omega
   ·simp[PHX,d9 h0,hi,r2,hk,w2,w3,htk,DF,hmx];split<;>omega
def PDX (p:Pn) (t:Int) (i:Nat):AS :=
 { env:=[(0, .i (.iref [.int p.kind, .int p.table, .isl (Ex.aA p.exprs), .isl (aF p.cols), .isl (Pn.aA p.kids)])),(1, .int t),(4, .int 0),(5, .int (AJ t (p.kids.take i))),(6,jk i (.int (i-1))),(19, .bool false),(24, .int p.kids.length),(25, .int i),(26,jk i (.bool true))],st:=[] }
theorem TM:∀ (p:Pn),p.thin→p.size<1000000000→∀ t:Int,aH C0 40 [.i (.iref p.cells), .int t] []=some (.int (dsP t p),[]):=by
 intro p
 induction p using Pn.ind with
 | h k tb es cs ks ih =>
  intro ht hn t;generalize hp:Pn.mk k tb es cs ks=p at *
  have hks:ks=p.kids:=by rw[← hp];rfl
  subst hks;obtain⟨t1,t2,t3,t4,t5⟩:=(Pn.bR _).1 ht;have hsz:=Pn.size_eq p
  cases hh:p.hit t with
  | true =>
   rw[O9 hh];simp only[Pn.hit,zU,yT]at hh;rw[aI rfl Try.func40 rfl rfl,Pn.aB];simp[hh.1,hh.2]
  | false =>
   have hge:=OA t p.kids;have hmx0:max (-17:Int) (AJ t p.kids)=AJ t p.kids:=by omega
   rw[JN hh,hmx0];rw[aI rfl Try.func40 rfl rfl,Pn.aB];simp only[Pn.hit,zA4,xA]at hh
   have hc:p.kind≠1∨(p.kind=1∧p.table≠t):=by
    rcases hh with h|h
    ·exact .inl h
    ·by_cases h1:p.kind=1
     ·exact .inr ⟨h1,h⟩
     ·exact .inl h1
   rcases hc with hc|⟨hc1,hc2⟩
   ·simp[hc];rw[aV (PDX p t) p.kids.length (by simp[PDX,AJ])]
    ·rw[aG];simp[PDX]
    ·intro i hi;have h3:=zW hi;have hm:=zT h3;have r2:=Pn.aP h3;have htk:=aN h3;generalize p.kids[i]=a at h3 hm r2 htk
     have hle:a.size≤Pn.aL p.kids:=by
      have h:=Pn.fP (p.kids.take (i+1)) (p.kids.drop (i+1));rw[yG,htk,Pn.fP]at h;simp only[Pn.aL]at h;omega
     have hk:=ih a hm (t5 a hm) (by omega) t;have hr:=EF t a;have hs:=sU a;have w2:IntKind.i64.wrap ((i:Int)+1)=i+1:=wrO;have w3:IntKind.i64.wrap (1+dsP t a)=1+dsP t a:=wrO;rw[Pn.aB a]at r2 hk;by_cases h0:i=0
     ·subst h0;simp[PDX,hi,r2,hk,bS,w3,htk,oM,AJ];split<;>omega
     ·simp[PDX,d9 h0,hi,r2,hk,w2,w3,htk,oM];split<;>omega
   ·simp[hc1,hc2];rw[aV (PDX p t) p.kids.length (by simp[PDX,AJ,hc1,hc2])]
    ·rw[aG];simp[PDX]
    ·intro i hi;have h3:=zW hi;have hm:=zT h3;have r2:=Pn.aP h3;have htk:=aN h3;generalize p.kids[i]=a at h3 hm r2 htk
     have hle:a.size≤Pn.aL p.kids:=by
      have h:=Pn.fP (p.kids.take (i+1)) (p.kids.drop (i+1));rw[yG,htk,Pn.fP]at h;simp only[Pn.aL]at h;omega
     have hk:=ih a hm (t5 a hm) (by omega) t;have hr:=EF t a;have hs:=sU a;have w2:IntKind.i64.wrap ((i:Int)+1)=i+1:=wrO;have w3:IntKind.i64.wrap (1+dsP t a)=1+dsP t a:=wrO;rw[Pn.aB a]at r2 hk;by_cases h0:i=0
     ·subst h0;simp[PDX,hi,r2,hk,bS,w3,htk,oM,AJ];split<;>omega
     ·simp[PDX,d9 h0,hi,r2,hk,w2,w3,htk,oM];split<;>omega
theorem VO {p:Pn} {b:Bool} {t:Int}:aH C0 61 [.i (.iref p.cells), .own 0 0, .own 1 0] [some (.box [.bool b]),some (.box [.int t])]=some (.tup [],[some (.box [.bool (b || p.hit t)]),some (.box [.int t])]):=by
 rw[aI rfl Try.func61 rfl rfl,Pn.aB];unfold Pn.hit
 cases b
 ·by_cases h1:p.kind=1
  ·by_cases h2:p.table=t
   ·simp[h1,h2]
   ·simp[h1,h2]
  ·simp[h1]
 ·simp
def SPX (p:Pn) (b:Bool) (t:Int) (i:Nat):AS :=
 { env:=[(0, .i (.iref [.int p.kind, .int p.table, .isl (Ex.aA p.exprs), .isl (aF p.cols), .isl (Pn.aA p.kids)])),(1, .fn (.func 61) [.own 0 0, .own 1 0]),(4,jk i (.int (i-1))),(12, .int p.kids.length),(13, .int i),(14,jk i (.bool true))],
   st:=[some (.box [.bool ((b || p.hit t) || NE t (p.kids.take i))]),some (.box [.int t])] }
theorem O8:∀ (p:Pn),p.thin→∀ (b:Bool) (t:Int),aH C0 60 [.i (.iref p.cells), .fn (.func 61) [.own 0 0, .own 1 0]] [some (.box [.bool b]),some (.box [.int t])]=some (.tup [],[some (.box [.bool (b || scP t p)]),some (.box [.int t])]):=by
 intro p
 induction p using Pn.ind with
 | h k tb es cs ks ih =>
  intro ht b t;generalize hp:Pn.mk k tb es cs ks=p at *
  have hks:ks=p.kids:=by rw[← hp];rfl
  subst hks;obtain⟨t1,t2,t3,t4,t5⟩:=(Pn.bR _).1 ht;have hone:=VO (p:=p) (b:=b) (t:=t);rw[aI rfl Try.func60 rfl rfl,AC5];rw[Pn.aB]at hone ⊢;simp[hone];rw[aV (SPX p b t) p.kids.length (by simp[SPX,NE])]
  ·rw[aG];simp[SPX,zB7]
  ·intro i hi;have h3:=zW hi;have hm:=zT h3;have r2:=Pn.aP h3;have htk:=aN h3;generalize p.kids[i]=a at h3 hm r2 htk;have hk:=ih a hm (t5 a hm) ((b || p.hit t) || NE t (p.kids.take i)) t;have w2:IntKind.i64.wrap ((i:Int)+1)=i+1:=wrO;rw[Pn.aB a]at r2 hk;by_cases h0:i=0
   ·subst h0;simp[NE]at hk;simp[SPX,hi,r2,hk,bS,htk,BN,NE,zB7]
   ·simp only[zB7]at hk;simp[SPX,d9 h0,hi,r2,hk,w2,htk,BN,zB7]
theorem ZQ (p:Pn) (hp:p.thin) (t:Int):aH C0 39 [.i (.iref p.cells), .int t] []=some (.bool (scP t p),[]):=by
 have h:=O8 p hp false t;rw[aI rfl Try.func39 rfl rfl];rw[Pn.aB]at h ⊢;simp at h;simp[h]
end Go.Proofs.Ytjdfjgmebalaaaa.P
namespace Go.Proofs.Ytjdfjgmebalaaaa.P
open Go Go.Av Go.Av.Mk
set_option maxRecDepth 4000
set_option maxHeartbeats 8000000
noncomputable def ADS:FuncId→Option (List AV→StL→Option (AV×StL))
 | 16=>none
 | 26=>some (ACJ (aH CN) 26)
 | 24=>some (A9 (aH C0) 24)
 | g=>if g=qJ then none else some (aH C0 g)
def AEA:FuncId→Bool
 | 16=>true
 | g=>keepR g
def AJG:FuncId→Bool
 | 24=>true
 | g=>eU g
@[simp] theorem AKD (g:FuncId):AJG g=if g=24 then true else eU g:=by
  unfold AJG;split
  ·rfl
  ·rename_i h;rw[if_neg h]
noncomputable def CM:Ctx:={ P:=Try.prog,G:=GS,ownArgs:=AJG,keepRes:=AEA,eqT:=EB,prim:=ADS,tree:=true }
@[simp] theorem ATW:CM.P=Try.prog:=(rfl)
@[simp] theorem ATY (f):CM.G f=GS f:=(rfl)
@[simp] theorem ATT (f):CM.ownArgs f=AJG f:=(rfl)
@[simp] theorem ATU (f):CM.keepRes f=AEA f:=(rfl)
@[simp] theorem ATV (f):CM.eqT f=EB f:=(rfl)
@[simp] theorem ATS:CM.tree=true:=(rfl)
@[simp] theorem kM1:AEA 16=true:=(rfl)
theorem AHW:PrimOk CM:=by
 have h0:=aY eH;have hD:=aY ADB
 have key:∀ g q,CM.prim g=some q→(g=26∧q=ACJ (aH CN) g)∨(g=24∧q=A9 (aH C0) g)∨(g≠qJ∧q=aH C0 g):=by
  intro g q h;have h:ADS g=some q:=h;unfold ADS at h;split at h
  all_goals first
   | (cases h;done)
   | (injection h with h;subst h;simp;done)
   | (split at h
      ·cases h
      ·rename_i hy;injection h with h;exact .inr (.inr ⟨hy,h.symm⟩))
 constructor
 ·intro g args st p h;unfold dB at h
  cases hq:CM.prim g with
  | none=>rw[hq]at h;cases h
  | some q =>
   rw[hq]at h
   rcases key g q hq with ⟨rfl,rfl⟩|⟨rfl,rfl⟩|⟨hy,rfl⟩
   ·exact(HZ hD (r:=p.1) (stl':=p.2) h).1
   ·exact(fB h0 (r:=p.1) (stl':=p.2) h).1
   ·exact h0.name g args st p hy h
 ·intro g args st r st' h w m φ vs hi hr hb;unfold dB at h
  cases hq:CM.prim g with
  | none=>rw[hq]at h;cases h
  | some q =>
   rw[hq]at h
   rcases key g q hq with ⟨rfl,rfl⟩|⟨rfl,rfl⟩|⟨hy,rfl⟩
   ·exact(HZ hD h).2 w m φ vs hi hr hb
   ·exact(fB h0 h).2 w m φ vs hi hr hb
   ·exact h0.calls g args st r st' hy h w m φ vs hi hr hb
theorem AHD:SoundOk CM:=jW (C:=CM) ft nt eqS mo AHW
@[simp] theorem AGD (a:List AV) (st:StL):aH CM 25 a st=aH C0 25 a st:=aZ (C:=CM) rfl a st
@[simp] theorem AJZ (a:List AV) (st:StL):aH CM 39 a st=aH C0 39 a st:=aZ (C:=CM) rfl a st
@[simp] theorem AGC (a:List AV) (st:StL):aH CM 40 a st=aH C0 40 a st:=aZ (C:=CM) rfl a st
@[simp] theorem AIM (a:List AV) (st:StL):aH CM 41 a st=aH C0 41 a st:=aZ (C:=CM) rfl a st
attribute [local simp] A9 SI nT pQ qA wQ mfA mfR AE2 AE3 mfC AA4 iU
theorem AAY {p:Pn} {ws:List Int}:aH CM 24 [.i (.agg p.cells), .i (.isl (aF ws))] []=some (.int (p.width ws),[]):=by
 have h:=nY p ws;rw[aZ (C:=CM) (p:=A9 (aH C0) 24) rfl];simp[h]
theorem XT {q:Pn} {ws:List Int}:aH CM 24 [rqA q 0, .i (.isl (aF ws))] (rqB q)=some (.int (q.width ws),rqB q):=by
 have h:=nY q ws;rw[aZ (C:=CM) (p:=A9 (aH C0) 24) rfl];rw[Pn.aB]at h;have b1:=BD q.exprs;have b2:=BC q.cols;have b3:=BB q.kids;have b4:=dU q.cols
 by_cases q1:q.exprs=[]<;>by_cases q2:q.cols=[]<;>by_cases q3:q.kids=[] <;>
  (simp only[rqA,rqB,q1,q2,q3,if_true,if_false,zC,zO,zH,Ex.aA,aF,Pn.aA]at h b1 b2 b3 b4 ⊢
   simp[h,b1,b2,b3,b4])
theorem AAX {q v:Pn} (hv:v.small) (hq:q.thin) (hy:q.tiny) {t:Int}:aH CM 26 [.own 0 0, .fn (.func 42) [.own 1 0, .own 2 0]] [some (.fbox q.cells),some (.box [.int t]),some (.fbox v.cells)] =
 some (rqA (iQ v t q) 3,[some (.fbox q.cells),some (.box [.int t]),some (.fbox v.cells)]++rqB (iQ v t q)):=by
 have h:=ZA hv (t:=t) q hq hy;simp only[Est,vB,if_true]at h;rw[Pn.aB q,Pn.aB v]at *
 rw[aZ (C:=CM) (p:=ACJ (aH CN) 26) rfl];unfold ACJ;generalize iQ v t q=x at h ⊢
 by_cases q1:x.exprs=[]<;>by_cases q2:x.cols=[]<;>by_cases q3:x.kids=[] <;>
  (simp only[rqA,rqB,q1,q2,q3,if_true,if_false,zC,zO,zH]at h ⊢
   try simp at h
   simp[h])
def FP (q v:Pn) (ws:List Int) (t:Int):Bool:=decide (q.width ws≠0) && (Z0 v ws t && (!scP t v && (decide (dsP t q+htP v≤8) && decide ((iQ v t q).width ws≠0))))
def O6 (q v:Pn) (ws:List Int) (t:Int):Pn:=if FP q v ws t=true then iQ v t q else Pn.zero
theorem FT {q v:Pn} (hq:q.thin) (hv:v.thin) (ws:List Int) (t:Int) :
 aH CM 16 [.i (.agg q.cells), .i (.agg v.cells), .i (.isl (aF ws)), .int t] []=some (.tup [rqA (O6 q v ws t) 0, .bool (FP q v ws t)],rqB (O6 q v ws t)):=by
 have e1:=AAY (p:=q) (ws:=ws);have e2:=TY v ws t;rw[aI rfl Try.func16 rfl rfl];unfold O6 FP;by_cases h1:q.width ws=0
 ·rw[Pn.aB q,Pn.aB v]at *
  simp[e1,h1,rqA,rqB,Pn.zero]
 cases h2:Z0 v ws t with
 | false =>
  rw[h2]at e2;rw[Pn.aB q,Pn.aB v]at *
  simp[e1,e2,h1,rqA,rqB,Pn.zero]
 | true =>
  have hvw:v.width ws≠0:=by unfold Z0 at h2;simp at h2;exact h2.1
  have hvf:=Pn.rQ hvw;have hqf:=Pn.rQ h1
  have hvs:v.small:=⟨by omega,hv,hvf.1⟩
  have e3:=ZQ v hv t;rw[h2]at e2
  cases h3:scP t v with
  | true =>
   rw[h3]at e3;rw[Pn.aB q,Pn.aB v]at *
   simp[e1,e2,e3,h1,rqA,rqB,Pn.zero]
  | false =>
   rw[h3]at e3;have e4:=TM q hq (by omega) t;have e5:=RZ v hv (by omega);have e6:=AAX hvs hq hqf.1 (t:=t);have e7:=XT (q:=iQ v t q) (ws:=ws);have hr:=EF t q;have hs:=sU q;have hs2:=sU v;have w1:IntKind.i64.wrap (dsP t q+htP v)=dsP t q+htP v:=wrO;by_cases h4:dsP t q+(htP v:Int)≤8
   case neg =>
    have w2:8<dsP t q+(htP v:Int):=by omega
    rw[Pn.aB q,Pn.aB v]at *
    simp[e1,e2,e3,e4,e5,h1,w1,w2,h4,rqA,rqB,Pn.zero]
   have w2:¬ 8<dsP t q+(htP v:Int):=by omega
   generalize iQ v t q=x at *
   rw[Pn.aB q,Pn.aB v]at *
   by_cases h5:x.width ws=0
   ·have hz:rqA Pn.zero 0=.agg [.int 0, .int 0, .nils, .nils, .nils]:=by simp[rqA,Pn.zero]
    have hz2:rqB Pn.zero=[]:=by simp[rqB,Pn.zero]
    by_cases q1:x.exprs=[]<;>by_cases q2:x.cols=[]<;>by_cases q3:x.kids=[] <;>
     (simp[rqA,rqB,q1,q2,q3]at e6 e7
      simp[e1,e2,e3,e4,e5,e6,e7,h1,h5,w1,w2,h4,hz,hz2])
   ·by_cases q1:x.exprs=[]<;>by_cases q2:x.cols=[]<;>by_cases q3:x.kids=[] <;>
     (simp[rqA,rqB,q1,q2,q3]at e6 e7
      simp[e1,e2,e3,e4,e5,e6,e7,h1,h5,w1,w2,h4,rqA,rqB,q1,q2,q3])
end Go.Proofs.Ytjdfjgmebalaaaa.P
namespace Go.Av
def YY (l:List Int) (n:Int):List Int:=if l[l.findIdx fun x=>!decide (x<n)]?=some n then l else l.take (l.findIdx fun x=>!decide (x<n))++n::l.drop (l.findIdx fun x=>!decide (x<n))
theorem AAD {l:List Int} {n x:Int}:x∈YY l n↔x∈l∨x=n:=by
 unfold YY;split
 ·rename_i h;constructor
  ·exact .inl
  ·rintro(h1|rfl)
   ·exact h1
   ·exact zT h
 ·have e:l.take (l.findIdx fun x=>!decide (x<n))++l.drop (l.findIdx fun x=>!decide (x<n))=l:=yG _ _;generalize l.findIdx (fun x=>!decide (x<n))=k at *
  constructor
  ·intro h
   rcases zV.1 h with h|h
   ·exact .inl (zA h)
   ·rcases zS.1 h with h|h
    ·exact .inr h
    ·exact .inl (yM h)
  ·rintro(h|rfl)
   ·rw[← e]at h
    rcases zV.1 h with h|h
    ·exact zV.2 (.inl h)
    ·exact zV.2 (.inr (zS.2 (.inr h)))
   ·exact zV.2 (.inr (zS.2 (.inl rfl)))
def tIn (l:List Int) (k t:Int):List Int:=if k=1 then YY l t else l
mutual
def UU (l:List Int):Pn→List Int
 | .mk k t _ _ ks=>lH (tIn l k t) ks
def lH:List Int→List Pn→List Int
 | l,[]=>l
 | l,p::ps=>lH (UU l p) ps
end
theorem OQ (l:List Int) (p:Pn):UU l p=lH (tIn l p.kind p.table) p.kids:=by
 cases p;rw[UU];rfl
theorem vD (a:Pn):∀ (ps:List Pn) (l:List Int),lH l (ps++[a])=UU (lH l ps) a
 | [],l=>by simp[lH]
 | p::ps,l=>by simp[lH,vD a ps]
theorem ABC:∀ (p:Pn) (l:List Int) (x:Int),x∈UU l p↔x∈l∨scP x p=true:=by
 intro p
 induction p using Pn.ind with
 | h k t es cs ks ih =>
  intro l x
  have key:∀ (xs:List Pn) (l:List Int),(∀ e∈xs,e∈ks)→(x∈lH l xs↔x∈l∨NE x xs=true):=by
   intro xs
   induction xs with
   | nil=>intro l _;simp[lH,NE]
   | cons a xs ihx =>
    intro l h1;simp only[lH,NE];rw[ihx _ fun e he=>h1 e (by simp[he]),ih a (h1 a (by simp)) l x];simp[or_assoc]
  rw[OQ,AC5];simp only[Pn.kind,Pn.table,Pn.kids];rw[key ks _ fun e he=>he];unfold tIn;by_cases h1:k=1
  ·simp only[h1,if_true,AAD,Pn.hit,Pn.kind,Pn.table];simp only[zC0,zU,yT,beq_iff_eq];constructor
   ·rintro((h|rfl)|h)
    ·exact .inl h
    ·exact .inr (.inl (by simp))
    ·exact .inr (.inr h)
   ·rintro(h|h|h)
    ·exact .inl (.inl h)
    ·exact .inl (.inr (by first|exact h.2.symm|exact(zR h.2).symm))
    ·exact .inr h
  ·simp[h1,Pn.hit,Pn.kind]
theorem QO:∀ (p:Pn) (l:List Int),(UU l p).length≤l.length+p.size:=by
 intro p
 induction p using Pn.ind with
 | h k t es cs ks ih =>
  intro l
  have hi:∀ (l:List Int) (n:Int),(YY l n).length≤l.length+1:=by
   intro l n;unfold YY;split
   ·omega
   ·simp only[zM,yA,zP,xE];omega
  have key:∀ (xs:List Pn) (l:List Int),(∀ e∈xs,e∈ks)→(lH l xs).length≤l.length+Pn.aL xs:=by
   intro xs
   induction xs with
   | nil=>intro l _;simp[lH]
   | cons a xs ihx =>
    intro l h1;have h2:=ihx (UU l a) fun e he=>h1 e (by simp[he])
    have h3:=ih a (h1 a (by simp)) l;simp only[lH,Pn.aL];omega
  rw[OQ];have h1:=key ks (tIn l k t) fun e he=>he
  have h2:(tIn l k t).length≤l.length+1:=by
   unfold tIn;split
   ·exact hi l t
   ·omega
  simp only[Pn.kind,Pn.table,Pn.kids,Pn.size]at *
  omega
theorem TE (v:Pn) (t:Int):∀ p:Pn,dsP t p+htP v≤htP (iQ v t p)∨dsP t p≤htP p-17:=by
 intro p
 induction p using Pn.ind with
 | h k tb es cs ks ih =>
  cases hh:Pn.hit t (.mk k tb es cs ks)with
  | true=>left;rw[O9 hh,tH hh];omega
  | false =>
   rw[JN hh,gL hh,H9 (.mk _ _ _ _ (dA v t _)),H9 (.mk k tb es cs ks)];simp only[Pn.dF]
   have key:∀ l:List Pn,(∀ p∈l,dsP t p+htP v≤htP (iQ v t p)∨dsP t p≤htP p-17)→AJ t l+htP v≤wD (dA v t l)∨AJ t l≤wD l-17:=by
    intro l
    induction l with
    | nil=>intro _;right;simp[AJ,wD]
    | cons a l ihl =>
     intro h;have h1:=h a (by simp);have h2:=ihl fun p hp=>h p (by simp[hp])
     simp only[wD,AJ,dA];omega
   have:=key ks ih;have:=OA t ks;omega
theorem oD {p:Pn} {ws:List Int} (h:p.width ws≠0):htP p≤8:=by
 unfold Pn.width at h;split at h
 ·exact V6 p 8 h
 ·exact absurd rfl h
theorem AAL {v q:Pn} {ws:List Int} {t:Int} (hq:q.width ws≠0) (hv:v.width ws≠0) (hx:(iQ v t q).width ws≠0):dsP t q+htP v≤8:=by
 have h1:=oD hq;have h2:=oD hv;have h3:=oD hx;have:=TE v t q;omega
mutual
theorem E9 (v:Pn) (hv:v.thin) (t:Int):∀ p:Pn,p.thin→(iQ v t p).thin
 | .mk k tb es cs ks,h=>by
  cases hh:Pn.hit t (.mk k tb es cs ks)with
  | true=>rw[tH hh];exact hv
  | false =>
   rw[gL hh];obtain⟨h1,h2,h3,h4,h5⟩:=(Pn.bR _).1 h;exact(Pn.bR _).2 ⟨h1,h2,h3,by simpa using h4,fun a ha=>I5 v hv t ks h5 a ha⟩
theorem I5 (v:Pn) (hv:v.thin) (t:Int):∀ l:List Pn,(∀ a∈l,a.thin)→∀ a∈dA v t l,a.thin
 | [],_,a,ha=>by simp[dA]at ha
 | b::l,h,a,ha=>by
  simp only[dA,zS]at ha
  rcases ha with rfl|ha
  ·exact E9 v hv t b (h b (by simp))
  ·exact I5 v hv t l (fun c hc=>h c (by simp[hc])) a ha
end
end Go.Av
namespace Go.Proofs.Ytjdfjgmebalaaaa.P
open Go Go.Av
set_option maxRecDepth 4000
set_option maxHeartbeats 4000000
def WK (v:Pn) (t:Int) (l:List Pn) (i:Nat):List (List IV):=Pn.aA (dA v t (l.take i)++l.drop i)
theorem sN (v:Pn) (t:Int) (l:List Pn):WK v t l 0=Pn.aA l:=by simp[WK,dA]
theorem wZ (v:Pn) (t:Int) (l:List Pn):WK v t l l.length=Pn.aA (dA v t l):=by simp[WK]
theorem wX {v:Pn} {t:Int} {l:List Pn} {i:Nat} {a:Pn} (h:l[i]?=some a):(WK v t l i).set i (iQ v t a).cells=WK v t l (i+1):=by
 have hl:=(zY.1 h).1;unfold WK;rw[M8 h,aN h,lY,Pn.iJ,yY,Pn.iJ];simp only[Pn.aA,zH,zC];exact AAG (by simp;omega)
theorem wY {v:Pn} {t:Int} {l:List Pn} {i:Nat} {a:Pn} (h:l[i]?=some a):gB (WK v t l i) i=some a.cells:=by
 have hl:=(zY.1 h).1;unfold WK;apply Pn.aP;rw[yR (by simp;omega),M8 h];simp;rw[show i-min i l.length=0 by omega];rfl
theorem ZP {p v:Pn} (hv:v.thin) {t:Int} (hh:p.hit t=true):aH C0 37 [.i (.agg p.cells), .i (.agg v.cells), .int t] []=some (.i (.agg (iQ v t p).cells),[]):=by
 have hc:=nG v hv;rw[tH hh];simp only[Pn.hit,zU,yT]at hh;rw[aI rfl Try.func37 rfl rfl];rw[Pn.aB v]at *
 rw[Pn.aB p];by_cases he:v.exprs=[]<;>by_cases hk:v.kids=[]
 ·simp[pcX,pcS,hk,he,Ex.aA,Pn.aA]at hc;simp[hc,hh.1,hh.2,he,hk,Ex.aA,Pn.aA]
 ·have hkl:v.kids.length≠0:=fun h=>hk (zZ.1 h)
  simp[pcX,pcS,aO hkl,aJ hkl,he,Ex.aA]at hc;simp[hc,hh.1,hh.2,he,Ex.aA]
 ·have hel:v.exprs.length≠0:=fun h=>he (zZ.1 h)
  simp[pcX,pcS,aO hel,aJ hel,hk,he,Pn.aA]at hc;simp[hc,hh.1,hh.2,hk,Pn.aA]
 ·have hel:v.exprs.length≠0:=fun h=>he (zZ.1 h)
  have hkl:v.kids.length≠0:=fun h=>hk (zZ.1 h)
  simp[pcX,pcS,aO hel,aJ hel,aO hkl,aJ hkl,he]at hc;simp[hc,hh.1,hh.2]
def XY1 (p v:Pn) (t:Int) (i:Nat):AS :=
 { env:=[(0, .i (.agg [.int p.kind, .int p.table, .isl (Ex.aA p.exprs), .isl (aF p.cols), .isl (Pn.aA p.kids)])),(1, .i (.agg [.int v.kind, .int v.table, .isl (Ex.aA v.exprs), .isl (aF v.cols), .isl (Pn.aA v.kids)])),(2, .int t),(3, .own 0 0),(4, .own 1 0),(6, .own 2 0),(7, .own 3 0),(8, .int i),(17, .bool false),(26,jk i (.bool true))],
   st:=some (.box [.int p.kind, .int p.table, .i (.isl (Ex.aA p.exprs)), .i (.isl (aF p.cols)), .i (.isl (Pn.aA p.kids))])::some (.box [.int v.kind, .int v.table, .i (.isl (Ex.aA v.exprs)), .i (.isl (aF v.cols)), .i (.isl (Pn.aA v.kids))])::some (.box [.int 0, .int 0, .nils, .nils, .nils])::some (.box [.int p.kind, .int p.table, .osl 4 5 0 p.exprs.length, .osl 5 1 0 p.cols.length, .osl 6 5 0 p.kids.length])::some (.arr 5 (Ex.aA p.exprs))::some (.arr 1 (aF p.cols))::some (.arr 5 (WK v t p.kids i))::[] }
theorem RN {p v:Pn} (hp:p.thin) (he:p.exprs≠[]) (hk:p.kids≠[]) {t:Int} (hh:p.hit t=false)
 (ih:∀ a∈p.kids,aH C0 37 [.i (.agg a.cells), .i (.agg v.cells), .int t] []=some (.i (.agg (iQ v t a).cells),[])) :
 aH C0 37 [.i (.agg p.cells), .i (.agg v.cells), .int t] []=some (.i (.agg (iQ v t p).cells),[]):=by
 have hc:=nG p hp;obtain⟨t1,t2,t3,t4,-⟩:=(Pn.bR _).1 hp;have hkl:p.kids.length≠0:=fun h=>hk (zZ.1 h)
 have hel:p.exprs.length≠0:=fun h=>he (zZ.1 h)
 simp[pcX,pcS,aO hkl,aJ hkl,he,aO hel,aJ hel]at hc;rw[aI rfl Try.func37 rfl rfl,gL hh,Pn.bV];simp only[Pn.hit,zA4,xA]at hh;rw[Pn.aB p]at hc ⊢;rw[Pn.aB v]
 have hkt:p.kind≠1∨(p.kind=1∧p.table≠t):=by
  rcases hh with h|h
  ·exact .inl h
  ·by_cases h1:p.kind=1
   ·exact .inr ⟨h1,h⟩
   ·exact .inl h1
 rcases hkt with h1|⟨h1,h2⟩
 ·simp[hc,h1];rw[aV (XY1 p v t) p.kids.length (by simp[XY1,sN,h1])]
  ·rw[aG];have hk2:(dA v t p.kids).take p.kids.length=dA v t p.kids:=zX (by simp);simp[XY1,hkl,wZ,hk2,h1]
  ·intro i hi;have h3:=zW hi;have hm:=zT h3;have r2:=Pn.aP h3;have hset:=wX (v:=v) (t:=t) h3;have hnt:=wY (v:=v) (t:=t) h3;generalize p.kids[i]=a at h3 hm r2 hset hnt;have hk:=ih a hm;have w2:IntKind.i64.wrap ((i:Int)+1)=i+1:=wrO;rw[Pn.aB a]at r2 hk hnt;rw[Pn.aB (iQ v t a)]at hk hset;rw[Pn.aB v]at hk;simp[XY1,hi,r2,hk,w2,hset,hnt]
 ·simp only[h1]at hc;simp[hc,h1,h2];rw[aV (XY1 p v t) p.kids.length (by simp[XY1,sN,h1,h2])]
  ·rw[aG];have hk2:(dA v t p.kids).take p.kids.length=dA v t p.kids:=zX (by simp);simp[XY1,hkl,wZ,hk2,h1,h2]
  ·intro i hi;have h3:=zW hi;have hm:=zT h3;have r2:=Pn.aP h3;have hset:=wX (v:=v) (t:=t) h3;have hnt:=wY (v:=v) (t:=t) h3;generalize p.kids[i]=a at h3 hm r2 hset hnt;have hk:=ih a hm;have w2:IntKind.i64.wrap ((i:Int)+1)=i+1:=wrO;rw[Pn.aB a]at r2 hk hnt;rw[Pn.aB (iQ v t a)]at hk hset;rw[Pn.aB v]at hk;simp[XY1,hi,r2,hk,w2,hset,hnt]
def XY0 (p v:Pn) (t:Int) (i:Nat):AS :=
 { env:=[(0, .i (.agg [.int p.kind, .int p.table, .isl (Ex.aA p.exprs), .isl (aF p.cols), .isl (Pn.aA p.kids)])),(1, .i (.agg [.int v.kind, .int v.table, .isl (Ex.aA v.exprs), .isl (aF v.cols), .isl (Pn.aA v.kids)])),(2, .int t),(3, .own 0 0),(4, .own 1 0),(6, .own 2 0),(7, .own 3 0),(8, .int i),(17, .bool false),(26,jk i (.bool true))],
   st:=some (.box [.int p.kind, .int p.table, .i (.isl (Ex.aA p.exprs)), .i (.isl (aF p.cols)), .i (.isl (Pn.aA p.kids))])::some (.box [.int v.kind, .int v.table, .i (.isl (Ex.aA v.exprs)), .i (.isl (aF v.cols)), .i (.isl (Pn.aA v.kids))])::some (.box [.int 0, .int 0, .nils, .nils, .nils])::some (.box [.int p.kind, .int p.table, .nils, .osl 4 1 0 p.cols.length, .osl 5 5 0 p.kids.length])::some (.arr 1 (aF p.cols))::some (.arr 5 (WK v t p.kids i))::[] }
theorem RO {p v:Pn} (hp:p.thin) (he:p.exprs=[]) (hk:p.kids≠[]) {t:Int} (hh:p.hit t=false)
 (ih:∀ a∈p.kids,aH C0 37 [.i (.agg a.cells), .i (.agg v.cells), .int t] []=some (.i (.agg (iQ v t a).cells),[])) :
 aH C0 37 [.i (.agg p.cells), .i (.agg v.cells), .int t] []=some (.i (.agg (iQ v t p).cells),[]):=by
 have hc:=nG p hp;obtain⟨t1,t2,t3,t4,-⟩:=(Pn.bR _).1 hp;have hkl:p.kids.length≠0:=fun h=>hk (zZ.1 h)
 simp[pcX,pcS,aO hkl,aJ hkl,he,Ex.aA]at hc;rw[aI rfl Try.func37 rfl rfl,gL hh,Pn.bV];simp only[Pn.hit,zA4,xA]at hh;rw[Pn.aB p]at hc ⊢;rw[Pn.aB v];simp only[he,Ex.aA]at hc ⊢
 have hkt:p.kind≠1∨(p.kind=1∧p.table≠t):=by
  rcases hh with h|h
  ·exact .inl h
  ·by_cases h1:p.kind=1
   ·exact .inr ⟨h1,h⟩
   ·exact .inl h1
 rcases hkt with h1|⟨h1,h2⟩
 ·simp[hc,h1,he];rw[aV (XY0 p v t) p.kids.length (by simp[XY0,sN,h1,he,Ex.aA])]
  ·rw[aG];have hk2:(dA v t p.kids).take p.kids.length=dA v t p.kids:=zX (by simp);simp[XY0,hkl,wZ,hk2,h1,he,Ex.aA]
  ·intro i hi;have h3:=zW hi;have hm:=zT h3;have r2:=Pn.aP h3;have hset:=wX (v:=v) (t:=t) h3;have hnt:=wY (v:=v) (t:=t) h3;generalize p.kids[i]=a at h3 hm r2 hset hnt;have hk:=ih a hm;have w2:IntKind.i64.wrap ((i:Int)+1)=i+1:=wrO;rw[Pn.aB a]at r2 hk hnt;rw[Pn.aB (iQ v t a)]at hk hset;rw[Pn.aB v]at hk;simp[XY0,hi,r2,hk,w2,hset,hnt,he,Ex.aA]
 ·simp only[h1]at hc;simp[hc,h1,h2,he];rw[aV (XY0 p v t) p.kids.length (by simp[XY0,sN,h1,h2,he,Ex.aA])]
  ·rw[aG];have hk2:(dA v t p.kids).take p.kids.length=dA v t p.kids:=zX (by simp);simp[XY0,hkl,wZ,hk2,h1,h2,he,Ex.aA]
  ·intro i hi;have h3:=zW hi;have hm:=zT h3;have r2:=Pn.aP h3;have hset:=wX (v:=v) (t:=t) h3;have hnt:=wY (v:=v) (t:=t) h3;generalize p.kids[i]=a at h3 hm r2 hset hnt;have hk:=ih a hm;have w2:IntKind.i64.wrap ((i:Int)+1)=i+1:=wrO;rw[Pn.aB a]at r2 hk hnt;rw[Pn.aB (iQ v t a)]at hk hset;rw[Pn.aB v]at hk;simp[XY0,hi,r2,hk,w2,hset,hnt,he,Ex.aA]
theorem VN {p v:Pn} (hp:p.thin) (hk:p.kids=[]) {t:Int} (hh:p.hit t=false) :
 aH C0 37 [.i (.agg p.cells), .i (.agg v.cells), .int t] []=some (.i (.agg (iQ v t p).cells),[]):=by
 have hc:=nG p hp;rw[aI rfl Try.func37 rfl rfl,gL hh,Pn.bV];simp only[Pn.hit,zA4,xA]at hh;rw[Pn.aB v];rw[Pn.aB p]at hc ⊢;simp only[hk,Pn.aA]at hc ⊢
 have hkt:p.kind≠1∨(p.kind=1∧p.table≠t):=by
  rcases hh with h|h
  ·exact .inl h
  ·by_cases h1:p.kind=1
   ·exact .inr ⟨h1,h⟩
   ·exact .inl h1
 by_cases he:p.exprs=[]
 ·simp[pcX,pcS,hk,he,Pn.aA,Ex.aA]at hc;simp only[he,Ex.aA]at hc ⊢
  rcases hkt with h1|⟨h1,h2⟩
  ·simp[hc,h1,hk,he,Pn.aA,Ex.aA];rw[aG];simp[dA,Pn.aA]
  ·simp only[h1]at hc;simp[hc,h1,h2,hk,he,Pn.aA,Ex.aA];rw[aG];simp[dA,Pn.aA]
 ·have hel:p.exprs.length≠0:=fun h=>he (zZ.1 h)
  simp[pcX,pcS,hk,aO hel,aJ hel,he,Pn.aA]at hc
  rcases hkt with h1|⟨h1,h2⟩
  ·simp[hc,h1,hk,Pn.aA];rw[aG];simp[dA,Pn.aA]
  ·simp only[h1]at hc;simp[hc,h1,h2,hk,Pn.aA];rw[aG];simp[dA,Pn.aA]
theorem ADE {v:Pn} (hv:v.thin) {t:Int}:∀ (p:Pn),p.thin→aH C0 37 [.i (.agg p.cells), .i (.agg v.cells), .int t] []=some (.i (.agg (iQ v t p).cells),[]):=by
 intro p
 induction p using Pn.ind with
 | h k tb es cs ks ih =>
  intro ht
  cases hh:Pn.hit t (.mk k tb es cs ks)with
  | true=>exact ZP hv hh
  | false =>
   by_cases hk:ks=[]
   ·exact VN ht hk hh
   have ih':∀ a∈ks,_:=fun a ha=>ih a ha (((Pn.bR _).1 ht).2.2.2.2 a ha)
   by_cases he:es=[]
   ·exact RO ht he hk hh ih'
   ·exact RN ht he hk hh ih'
theorem AAO {q v:Pn} {ws:List Int} {t:Int}:FP q v ws t=(AG7 q v ws t && (!scP t v && decide ((iQ v t q).width ws≠0))):=by
 unfold FP AG7
 cases h1:decide (q.width ws≠0)with
 | false=>rfl
 | true =>
  cases h2:Z0 v ws t with
  | false=>rfl
  | true =>
   cases h3:scP t v with
   | true=>rfl
   | false =>
    cases h4:decide ((iQ v t q).width ws≠0)with
    | false=>simp
    | true =>
     have h1:=zR h1;have h4:=zR h4;have hv:v.width ws≠0:=by unfold Z0 at h2;simp at h2;exact h2.1
     simp[AAL h1 hv h4]
def ANX (l:List Int) (n:Int) (i:Nat):AS :=
 { env:=[(0, .i (.isl (aF l))),(1, .int n),(4, .nils),(5, .int i),(6, .junk),(18,jk i (.bool true)),(32, .junk)],st:=[] }
theorem MO (l:List Int) (n:Int) (hl:l.length<1000000):aH C0 57 [.i (.isl (aF l)), .int n] []=some (.i (.isl (aF (YY l n))),[]):=by
 rw[aI rfl Try.func57 rfl rfl]
 have hlt:∀ i,i<l.findIdx (fun x=>!decide (x<n))→∃ x,l[i]?=some x∧x<n:=by
  intro i hi;have hle:=List.findIdx_le_length (xs:=l) (p:=fun x=>!decide (x<n));have:=List.not_of_lt_findIdx hi;exact⟨l[i]'(by omega),zW (by omega),by simpa using this⟩
 have hat:∀ x,l[l.findIdx fun x=>!decide (x<n)]?=some x→¬ x<n:=by
  intro x hx;obtain⟨h1,rfl⟩:=zY.1 hx;have:=List.findIdx_getElem (w:=h1);simpa using this
 have hle:=List.findIdx_le_length (xs:=l) (p:=fun x=>!decide (x<n));unfold YY;generalize l.findIdx (fun x=>!decide (x<n))=j at *
 simp;rw[aV (ANX l n) j (by simp[ANX])]
 ·rw[aG]
  cases hj:l[j]? with
  | none =>
   have hjl:j=l.length:=by have:=zB0.1 hj;omega
   subst hjl;have hb:((l.length:Int)+1)*8≤140737488355328:=by omega
   have hb1:(l.length+1)*8≤140737488355328:=by omega
   have hb2:l.length*8≤140737488355328:=by omega
   have ht:List.take (l.length+1) (aF l++[[IV.lit (Value.int IntKind.i64 n)]])=aF l++[[IV.lit (Value.int IntKind.i64 n)]]:=zX (by simp);simp[ANX,hb1,hb2,gW,aF,ht]
  | some x =>
   have hx:=hat x hj;have hjl:=(zY.1 hj).1;have r2:=bO hj;by_cases hxn:x=n
   ·subst hxn;simp[ANX,hjl,r2]
   ·have hb1:(j+1)*8≤140737488355328:=by omega
    have hb2:j*8≤140737488355328:=by omega
    have hb3:(j+1+(l.length-j))*8≤140737488355328:=by omega
    have t1:(l.take j).length=j:=by simp;omega
    have t2:(aF (l.take j)++[[IV.lit (Value.int IntKind.i64 n)]]).take (j+1)=aF (l.take j)++[[IV.lit (Value.int IntKind.i64 n)]]:=zX (by simp;omega);have t3:(l.drop j).take (l.length-j)=l.drop j:=zX (by simp);have t4:(aF (l.take j)++[[IV.lit (Value.int IntKind.i64 n)]]++aF (l.drop j)).take (j+1+(l.length-j))=aF (l.take j)++[[IV.lit (Value.int IntKind.i64 n)]]++aF (l.drop j):=zX (by simp;omega);have t5:(l.take j).take j=l.take j:=zX (by omega);simp[ANX,hjl,hle,r2,hx,hxn,hb1,hb2,hb3,gW,aF];rw[t5,t2,t3,t4];simp
 ·intro i hi;obtain⟨x,h3,hx⟩:=hlt i hi;have r2:=bO h3;have hil:=(zY.1 h3).1;have w2:IntKind.i64.wrap ((i:Int)+1)=i+1:=wrO;simp[ANX,hil,r2,hx,w2]
theorem AAI (q:Nat→Bool) (n:Nat):∃ j,j≤n∧(∀ i,i<j→q i=false)∧(j=n∨q j=true):=by
 induction n with
 | zero=>exact⟨0,zQ _,fun i hi=>by omega, .inl rfl⟩
 | succ n ih =>
  obtain⟨j,h1,h2,h3⟩:=ih
  rcases h3 with rfl|h3
  ·cases hq:q j with
   | true=>exact⟨j,by omega,h2, .inr hq⟩
   | false=>exact⟨j+1,zQ _,fun i hi=>by
    by_cases e:i=j
    ·subst e;exact hq
    ·exact h2 i (by omega), .inl rfl⟩
  ·exact⟨j,by omega,h2, .inr h3⟩
def ATX (p:Pn) (l:List Int) (i:Nat):AS :=
 { env:=[(0, .i (.isl (aF (lH l (p.kids.take i))))),(1, .i (.agg [.int p.kind, .int p.table, .isl (Ex.aA p.exprs), .isl (aF p.cols), .isl (Pn.aA p.kids)])),(3, .own 0 0),(4, .nils),(5, .int i),(8, .bool (p.kind == 1)),(17,jk i (.bool true))],
   st:=[some (.box [.i (.int p.kind), .i (.int p.table), .i (.isl (Ex.aA p.exprs)), .i (.isl (aF p.cols)), .i (.isl (Pn.aA p.kids))])] }
theorem MN:∀ p:Pn,∀ l:List Int,l.length+p.size<1000000→aH C0 36 [.i (.isl (aF l)), .i (.agg p.cells)] []=some (.i (.isl (aF (UU l p))),[]):=by
 intro p
 induction p using Pn.ind with
 | h k t es cs ks ih =>
  intro l hs;generalize he:Pn.mk k t es cs ks=p at *
  have hks:ks=p.kids:=by rw[← he];rfl
  subst hks;have hsz:=Pn.size_eq p
  have hadd:∀ (xs:List Pn) (l:List Int),(lH l xs).length≤l.length+Pn.aL xs:=by
   intro xs
   induction xs with
   | nil=>intro l;simp[lH]
   | cons a xs ihx=>intro l;have h1:=ihx (UU l a);have h2:=QO a l;simp only[lH,Pn.aL];omega
  have hsum:∀ (xs ys:List Pn),Pn.aL (xs++ys)=Pn.aL xs+Pn.aL ys:=by
   intro xs
   induction xs with
   | nil=>intro ys;simp[Pn.aL]
   | cons a xs ihx=>intro ys;simp[Pn.aL,ihx,yK]
  have hln:p.kids.length≤Pn.aL p.kids:=by
   generalize p.kids=xs
   induction xs with
   | nil=>simp
   | cons a xs ihx=>have:=Pn.size_eq a;simp only[zP,Pn.aL];omega
  have hrd:∀ l':List Int,l'.length≤l.length+1→∀ i,i<p.kids.length→∃ a,p.kids[i]?=some a∧p.kids.take (i+1)=p.kids.take i++[a]∧gB (Pn.aA p.kids) i=some a.cells∧aH C0 36 [.i (.isl (aF (lH l' (p.kids.take i)))), .i (.agg a.cells)] []=some (.i (.isl (aF (UU (lH l' (p.kids.take i)) a))),[]):=by
   intro l' hl' i hi;have h3:=zW hi;have hm:=zT h3;have htk:=aN h3;refine⟨p.kids[i],h3,htk,Pn.aP h3,ih _ hm _ ?_⟩;have h1:=hadd (p.kids.take i) l';have h2:=hsum (p.kids.take (i+1)) (p.kids.drop (i+1));rw[yG,htk,hsum]at h2;simp only[Pn.aL]at h2;omega
  rw[aI rfl Try.func36 rfl rfl,Pn.aB,OQ];by_cases h1:p.kind=1
  ·have hn:=MO l p.table (by omega)
   have hil:(YY l p.table).length≤l.length+1:=by
    unfold YY;split
    ·omega
    ·simp only[zM,yA,zP,xE];omega
   simp[h1,hn,tIn];rw[aV (ATX p (YY l p.table)) p.kids.length (by simp[ATX,lH,h1])]
   ·rw[aG];simp[ATX]
   ·intro i hi;obtain⟨a,h3,htk,r2,hk⟩:=hrd _ hil i hi;have w2:IntKind.i64.wrap ((i:Int)+1)=i+1:=wrO;rw[Pn.aB a]at r2 hk;simp[ATX,hi,r2,hk,w2,htk,vD]
  ·simp[h1,tIn];rw[aV (ATX p l) p.kids.length (by simp[ATX,lH,h1])]
   ·rw[aG];simp[ATX]
   ·intro i hi;obtain⟨a,h3,htk,r2,hk⟩:=hrd l (by omega) i hi;have w2:IntKind.i64.wrap ((i:Int)+1)=i+1:=wrO;rw[Pn.aB a]at r2 hk;simp[ATX,hi,r2,hk,w2,htk,vD]
def EN (p:Pn):List IV:=[.int p.kind, .int p.table, .isl (Ex.aA p.exprs), .isl (aF p.cols), .isl (Pn.aA p.kids)]
def AFA (p:Pn):Option Blk:=some (.box [.int p.kind, .int p.table, .i (.isl (Ex.aA p.exprs)), .i (.isl (aF p.cols)), .i (.isl (Pn.aA p.kids))])
def SLX (q v:Pn) (ws l:List Int) (t:Int) (i:Nat):AS :=
 { env:=[(0, .i (.agg (EN q))),(1, .i (.agg (EN v))),(2, .i (.isl (aF ws))),(3, .int t),(4, .own 0 0),(5, .own 1 0),(8, .own 2 0),(9, .bool false),(10, .i (.isl (aF l))),(11, .int i),(12, .junk),(18, .bool false),(26,jk i (.bool true)),(34,jk i (.bool false)),(43, .junk)],
   st:=[AFA q,AFA v,some (.box [.int 0, .int 0, .nils, .nils, .nils])] }
theorem FB {q v:Pn} (hq:q.thin) (hv:v.thin) {ws:List Int} (hl:ws.length<9223372036854775808) (t:Int):aH C0 15 [.i (.agg q.cells), .i (.agg v.cells), .i (.isl (aF ws)), .int t] []=some (.tup [.i (.agg (O6 q v ws t).cells), .bool (FP q v ws t)],[]):=by
 have e1:=KH q v (Pn.IW q hq) (Pn.IW v hv) ws hl t;rw[aI rfl Try.func15 rfl rfl];unfold O6;rw[AAO]
 cases h:AG7 q v ws t with
 | false =>
  rw[h]at e1;rw[Pn.aB q,Pn.aB v]at *
  simp[e1,Pn.zero,Pn.cells,Ex.aA,aF,Pn.aA]
 | true =>
  rw[h]at e1;have hvw:v.width ws≠0:=by unfold AG7 Z0 at h;simp at h;exact h.2.1
  have hvs:=(Pn.rQ hvw).2;have e2:=MN v [] (by simp;omega);have hmem:t∈UU [] v↔scP t v=true:=by rw[ABC];simp
  have hlen:=QO v [];simp only[yI,zL]at hlen;have e3:=ADE hv (t:=t) q hq;have e4:=uC (iQ v t q) (Pn.IW _ (E9 v hv t q hq)) ws hl;have e0:aF []=[]:=rfl;rw[e0]at e2;generalize UU [] v=L at e2 hmem hlen;generalize iQ v t q=x at e3 e4 ⊢;rw[Pn.aB x]at *
  rw[Pn.aB q,Pn.aB v]at *
  simp[e1,e2];obtain⟨j,hj,h1,h2⟩:=AAI (fun i=>decide (L[i]?=some t)) L.length;rw[aV (SLX q v ws L t) j (by simp[SLX,EN,AFA])]
  ·rw[aG];by_cases hjl:j=L.length
   ·have hsc:scP t v=false:=by
     cases hs:scP t v with
     | false=>rfl
     | true =>
      obtain⟨i,hi,e⟩:=List.mem_iff_getElem.1 (hmem.2 hs);have:=h1 i (by omega);rw[zW hi,e]at this;simp at this
    subst hjl;by_cases hx0:x.width ws=0
    ·simp[SLX,EN,AFA,hsc,e3,e4,hx0,Pn.zero,Pn.cells,Ex.aA,aF,Pn.aA]
    ·simp[SLX,EN,AFA,hsc,e3,e4,hx0,Pn.aB x]
   ·have hb:=zR (h2.resolve_left hjl);have hjl2:j<L.length:=by omega
    have hsc:scP t v=true:=hmem.1 (zT hb);have r2:=bO hb;simp[SLX,EN,AFA,hsc,hjl2,r2,Pn.zero,Pn.cells,Ex.aA,aF,Pn.aA]
  ·intro i hi;have hil:i<L.length:=by omega
   have h3:=zW hil;have hne:=h1 i hi;rw[h3]at hne;generalize L[i]=a at h3 hne;have r2:=bO h3;have hne2:¬ a=t:=by simpa using hne
   have w2:IntKind.i64.wrap ((i:Int)+1)=i+1:=wrO;simp[SLX,EN,AFA,hil,r2,w2,hne2]
end Go.Proofs.Ytjdfjgmebalaaaa.P
namespace Go.Proofs.Ytjdfjgmebalaaaa.P
open Go Go.Av Go.Av.Mk
set_option maxRecDepth 4000
set_option maxHeartbeats 1000000
theorem PI (l:List Int) (k:Int) {i:Nat} (h:i<l.length):(vU k l)[i]?=some (k+i):=by
 have h3:=zW h;have:=sP AFV AC8 l k h3;rw[rZ,yA,yQ (by omega)]at this;exact this
def HIX (l:List Int) (k:Int) (i:Nat):AS :=
 { env:=[(0, .i (.isl (aF (vU k l)))),(1, .int (k+i)),(4, .int 0),(5, .int i),(9,jk i (.bool true)),(17,jk i (.bool false))],st:=[] }
theorem Q4 (l:List Int) (k:Int) (h0:0≤k) (h1:k+(l.length:Nat)<1000000000000):aH C0 34 [.i (.isl (aF (vU k l))), .int k] []=some (.int (k+(l.length:Nat)),[]):=by
 rw[aI rfl Try.func34 rfl rfl];have hlen:=dL AFV AC8 l k;simp;rw[aV (HIX l k) l.length (by simp[HIX])]
 ·rw[aG];simp[HIX,hlen]
 ·intro i hi;have r2:=bO (PI l k hi);have w2:IntKind.i64.wrap ((i:Int)+1)=i+1:=wrO;have w3:IntKind.i64.wrap (k+i+1)=k+(i+1):=by rw[wrO];omega
  simp[HIX,hlen,hi,r2,w2,w3]
theorem ACI (l:List Ex) (k:Int) (h0:0≤k) (h1:k+4*(Ex.aL l:Nat)<1000000000000):aH C0 33 [.i (.isl (Ex.aA (Ex.iW k l))), .int k] []=some (.int (k+4*(Ex.aL l:Nat)),[]):=by
 have:=AAE (.mk 0 0 Val.zero l) k h0 (by simpa [Ex.kids]using h1);simpa [Ex.kids]using this
def HPX (l:List Pn) (k:Int) (i:Nat):AS :=
 { env:=[(0, .i (.isl (Pn.aA (eF Pn.nR Pn.mz k l)))),(1, .int (k+(bI Pn.mz (l.take i):Nat))),(4, .int 0),(5, .int i),(9,jk i (.bool true)),(18,jk i (.bool false)),(27,jk i (.bool false)),(38,jk i (.bool false)),(47,jk i (.bool false)),(56,jk i (.bool false))],st:=[] }
theorem AAF {l:List Pn} {k:Int} (h0:0≤k) (h1:k+(bI Pn.mz l:Nat)<1000000000000) (ih:∀ p∈l,∀ q:Int,0≤q→q+(Pn.mzL p.kids:Nat)<1000000000000→aH C0 35 [.i (.isl (Pn.aA (Pn.jU q p.kids))), .int q] []=some (.int (q+(Pn.mzL p.kids:Nat)),[])) :
 aH C0 35 [.i (.isl (Pn.aA (eF Pn.nR Pn.mz k l))), .int k] []=some (.int (k+(bI Pn.mz l:Nat)),[]):=by
 rw[aI rfl Try.func35 rfl rfl];have hlen:=dL Pn.nR Pn.mz l k;have hle:=nW (sz:=Pn.mz) (fun e=>by have:=Pn.WE e;omega) l;simp;rw[aV (HPX l k) l.length (by simp[HPX,bI])]
 ·rw[aG];have hT:l.take l.length=l:=zX (by simp);simp[HPX,hlen,hT]
 ·intro i hi;have h3:=zW hi;have hm:=zT h3;generalize l[i]=a at h3 hm;have r2:=Pn.aP (sP Pn.nR Pn.mz l k h3);have hz:=qM Pn.mz l h3;have hmono:=uF Pn.mz l (i+1);have hza:=Pn.WE a;have w2:IntKind.i64.wrap ((i:Int)+1)=i+1:=wrO;have hzz:k+((bI Pn.mz (l.take (i+1)):Nat):Int)=k+(bI Pn.mz (l.take i):Nat)+1+1+4*(Ex.aL a.exprs:Nat)+(a.cols.length:Nat)+(Pn.mzL a.kids:Nat):=by rw[hz,hza];push_cast;omega
  generalize hq:k+((bI Pn.mz (l.take i):Nat):Int)=q at r2 hzz;have hq0:0≤q:=by omega
  have hlim:q+1+1+4*(Ex.aL a.exprs:Nat)+(a.cols.length:Nat)+(Pn.mzL a.kids:Nat)<1000000000000:=by omega
  have w3:IntKind.i64.wrap (q+1)=q+1:=wrO;have w4:IntKind.i64.wrap (q+1+1)=q+1+1:=wrO;have c1:=ACI a.exprs (q+1+1) (by omega) (by omega);have c2:=Q4 a.cols (q+1+1+4*(Ex.aL a.exprs:Nat)) (by omega) (by omega);have c3:=ih a hm (q+1+1+4*(Ex.aL a.exprs:Nat)+(a.cols.length:Nat)) (by omega) (by omega);have n1:¬ q+1+1+4*(Ex.aL a.exprs:Int)<0:=by omega
  have n2:¬ q+1+1+4*(Ex.aL a.exprs:Int)+(a.cols.length:Int)<0:=by omega
  have n3:¬ q+1+1+4*(Ex.aL a.exprs:Int)+(a.cols.length:Int)+(Pn.mzL a.kids:Int)<0:=by omega
  rw[Pn.CG]at r2;push_cast at r2 c1 c2 c3 hzz;simp[HPX,hlen,hi,r2,hq,hzz,c1,c2,c3,n1,n2,n3,w2,w3,w4]
theorem T9:∀ (p:Pn) (k:Int),0≤k→k+(Pn.mzL p.kids:Nat)<1000000000000→aH C0 35 [.i (.isl (Pn.aA (Pn.jU k p.kids))), .int k] []=some (.int (k+(Pn.mzL p.kids:Nat)),[]):=by
 intro p
 induction p using Pn.ind with
 | h k t es cs ks ih =>
  intro q h0 h1;simp only[Pn.kids]at h1 ⊢;rw[o7,← oW];rw[← oW]at h1;exact AAF h0 h1 ih
end Go.Proofs.Ytjdfjgmebalaaaa.P
namespace Go.Av
open Go.Av.Mk
def Pn.mkK (k:Int) (q:Pn):Pn:=.mk q.kind q.table (Ex.iW k q.exprs) (vU (k+4*(Ex.aL q.exprs:Nat)) q.cols) (Pn.jU (k+4*(Ex.aL q.exprs:Nat)+(q.cols.length:Nat)) q.kids)
theorem CJ (l:List Ex) (k:Int):(Ex.iW k l).length=l.length:=by rw[sQ];exact dL _ _ l k
theorem uJ (l:List Pn) (k:Int):(Pn.jU k l).length=l.length:=by rw[o7];exact dL _ _ l k
theorem JA (l:List Int) (k:Int):(vU k l).length=l.length:=dL _ _ l k
theorem PS {l:List Ex} (h:l≠[]) (k:Int):Ex.iW k l≠[]:=fun e=>by have:=CJ l k;rw[e]at this;exact h (zZ.1 (by simpa using this.symm))
theorem LJ {l:List Pn} (h:l≠[]) (k:Int):Pn.jU k l≠[]:=fun e=>by have:=uJ l k;rw[e]at this;exact h (zZ.1 (by simpa using this.symm))
theorem AE0 {l:List Int} (h:l≠[]) (k:Int):vU k l≠[]:=fun e=>by have:=JA l k;rw[e]at this;exact h (zZ.1 (by simpa using this.symm))
theorem VP {q:Pn} {k:Int}:rqB (q.mkK k)=(if q.exprs=[]then []else [some (.tre 5 (Ex.aA (Ex.iW k q.exprs)))])++((if q.cols=[]then []else [some (.arr 1 (aF (vU (k+4*(Ex.aL q.exprs:Nat)) q.cols)))])++(if q.kids=[]then []else [some (.tre 5 (Pn.aA (Pn.jU (k+4*(Ex.aL q.exprs:Nat)+(q.cols.length:Nat)) q.kids)))])):=by
 unfold rqB Pn.mkK;simp only[Pn.bD,Pn.bW,Pn.dF]
 by_cases q1:q.exprs=[]<;>by_cases q2:q.cols=[]<;>by_cases q3:q.kids=[] <;>
  simp[q1,q2,q3,Ex.iW,Pn.jU,eF,Pn.bK,Pn.bY,Pn.bD,Pn.bW,Pn.dF,PS,LJ,AE0]
theorem WJ (q:Pn):(q.mk4:Int)=4*(Ex.aL q.exprs:Nat)+((q.cols.length:Nat)+(Pn.mzL q.kids:Nat)):=by unfold Pn.mk4;push_cast;rfl
end Go.Av
namespace Go.Proofs.Ytjdfjgmebalaaaa.P
open Go Go.Av Go.Av.Mk
set_option maxRecDepth 4000
set_option maxHeartbeats 8000000
theorem NY {q:Pn} {k:Int} (h0:0≤k) (h1:k+(q.mk4:Nat)<1000000000000):aH C0 14 [.i (.agg (q.mkK k).cells), .int k] []=some (.int (k+(q.mk4:Nat)),[]):=by
 have hm:=WJ q;have c1:=ACI q.exprs k h0 (by omega);have c2:=Q4 q.cols (k+4*(Ex.aL q.exprs:Nat)) (by omega) (by omega);have c3:=T9 q (k+4*(Ex.aL q.exprs:Nat)+(q.cols.length:Nat)) (by omega) (by omega);have n1:¬ k+4*(Ex.aL q.exprs:Int)<0:=by omega
 have n2:¬ k+4*(Ex.aL q.exprs:Int)+(q.cols.length:Int)<0:=by omega
 have n3:¬ k+4*(Ex.aL q.exprs:Int)+(q.cols.length:Int)+(Pn.mzL q.kids:Int)<0:=by omega
 rw[aI rfl Try.func14 rfl rfl,Pn.aB];have hm2:k+(q.mk4:Int)=k+4*(Ex.aL q.exprs:Nat)+(q.cols.length:Nat)+(Pn.mzL q.kids:Nat):=by omega
 rw[hm2];simp[Pn.mkK,Pn.bK,Pn.bY,Pn.bD,Pn.bW,Pn.dF,c1,c2,c3,n1,n2,n3]
attribute [local simp] A9 SI give nT pQ qA wQ mfA mfR AE2 AE3 mfC AA4 mfB.eq_1 mfB.eq_2 mfB.eq_7 iU sM
noncomputable def ADO:FuncId→Option (List AV→StL→Option (AV×StL))
 | 4=>none
 | 12=>none
 | 13=>none
 | 32=>some (qW Pn.cells Pn.nR Pn.mz 5)
 | 31=>some (qW Ex.cells Ex.pU exZ 5)
 | 7=>some (A9 (aH CT) 7)
 | 8=>some (A9 (aH CT) 8)
 | 16=>some (A9 (aH CM) 16)
 | 15=>some (give (aH C0) 15)
 | g=>if g=qJ then none else some (A9 (aH C0) g)
noncomputable def CZ:Ctx:={ P:=Try.prog,G:=GS,ownArgs:=fun _=>true,keepRes:=fun _=>false,eqT:=EB,prim:=ADO,tree:=true }
@[simp] theorem AT8:CZ.P=Try.prog:=(rfl)
@[simp] theorem AT9 (f):CZ.G f=GS f:=(rfl)
@[simp] theorem AT5 (f):CZ.ownArgs f=true:=(rfl)
@[simp] theorem AT6 (f):CZ.keepRes f=false:=(rfl)
@[simp] theorem AT7 (f):CZ.eqT f=EB f:=(rfl)
@[simp] theorem AT4:CZ.tree=true:=(rfl)
theorem AHU:PrimOk CZ:=by
 have h0:=aY eH;have hT:=aY AHC;have hK:=aY AHD
 have key:∀ g q,CZ.prim g=some q→(g=32∧q=qW Pn.cells Pn.nR Pn.mz 5)∨(g=31∧q=qW Ex.cells Ex.pU exZ 5)∨(g=7∧q=A9 (aH CT) g)∨(g=8∧q=A9 (aH CT) g)∨(g=16∧q=A9 (aH CM) g)∨(g=15∧q=give (aH C0) g)∨(g≠qJ∧q=A9 (aH C0) g):=by
  intro g q h;have h:ADO g=some q:=h;unfold ADO at h;split at h
  all_goals first
   | (cases h;done)
   | (injection h with h;subst h;simp;done)
   | (split at h
      ·cases h
      ·rename_i hy;injection h with h;subst h;exact .inr (.inr (.inr (.inr (.inr (.inr ⟨hy,rfl⟩))))))
 constructor
 ·intro g args st p h;unfold dB at h
  cases hq:CZ.prim g with
  | none=>rw[hq]at h;cases h
  | some q =>
   rw[hq]at h
   rcases key g q hq with ⟨rfl,rfl⟩|⟨rfl,rfl⟩|⟨rfl,rfl⟩|⟨rfl,rfl⟩|⟨rfl,rfl⟩|⟨rfl,rfl⟩|⟨hy,rfl⟩
   ·exact⟨Try.f32,Try.func32,by decide,rfl⟩
   ·exact⟨Try.f31,Try.func31,by decide,rfl⟩
   ·exact(fB hT (r:=p.1) (stl':=p.2) h).1
   ·exact(fB hT (r:=p.1) (stl':=p.2) h).1
   ·exact(fB hK (r:=p.1) (stl':=p.2) h).1
   ·exact(HV h0 (r:=p.1) (stl':=p.2) h).1
   ·exact(fB h0 (r:=p.1) (stl':=p.2) h hy).1
 ·intro g args st r st' h w m φ vs hi hr hb;unfold dB at h
  cases hq:CZ.prim g with
  | none=>rw[hq]at h;cases h
  | some q =>
   rw[hq]at h
   rcases key g q hq with ⟨rfl,rfl⟩|⟨rfl,rfl⟩|⟨rfl,rfl⟩|⟨rfl,rfl⟩|⟨rfl,rfl⟩|⟨rfl,rfl⟩|⟨hy,rfl⟩
   ·exact GY (C:=C0) AHX (fun e=>by rw[Pn.aB];rfl) Pn.uU h w m φ vs hi hr hb
   ·exact GY (C:=C0) ACK (fun e=>by rw[Ex.aB];rfl) Ex.uU h w m φ vs hi hr hb
   ·exact(fB hT h).2 w m φ vs hi hr hb
   ·exact(fB hT h).2 w m φ vs hi hr hb
   ·exact(fB hK h).2 w m φ vs hi hr hb
   ·exact(HV h0 h).2 w m φ vs hi hr hb
   ·exact(fB h0 h hy).2 w m φ vs hi hr hb
theorem AHB:SoundOk CZ:=jW (C:=CZ) ft nt eqS mo AHU
theorem OW {p:Pn} (hf:p.fat) {left:Int} (h0:0≤left) (h1:left<1000000000):aH CZ 5 [.i (.agg p.cells), .int left] []=some (.int (dD left p.meas),[]):=by
 rw[aZ (C:=CZ) (p:=A9 (aH C0) 5) rfl];have h:=VF p hf left h0 h1;simp[h]
theorem OV {p:Pn} (ht:p.thin):aH CZ 7 [.i (.agg p.cells)] []=some (tP p 0,tPB p):=by
 rw[aZ (C:=CZ) (p:=A9 (aH CT) 7) rfl];simp[AGW p ht,tP,tPB,dU]
theorem Z8 {l:List Int} (hl:l.length<1000000000):aH CZ 8 [.i (.isl (aF l))] []=some (.osl 0 1 0 l.length,[some (.arr 1 (aF l))]):=by
 rw[aZ (C:=CZ) (p:=A9 (aH CT) 8) rfl];simp[ABM l hl,dU]
theorem IM {p v:Pn} (hp:p.thin) (hv:v.thin) {ws:List Int} (hl:ws.length<1000000000) {t:Int}:aH CZ 15 [tP p 0,tP v 3, .osl 6 1 0 ws.length, .int t] (tPB p++(tPB v++[some (.arr 1 (aF ws))]))=some (.tup [.i (.agg (O6 p v ws t).cells), .bool (FP p v ws t)],[none,none,none,none,none,none,none]):=by
 have h:=FB hp hv (ws:=ws) (by omega) t;rw[aZ (C:=CZ) (p:=give (aH C0) 15) rfl];rw[Pn.aB p,Pn.aB v]at h;simp only[Ex.aU p.exprs,Pn.aU p.kids,Ex.aU v.exprs,Pn.aU v.kids]at h;have ha:=iP ws;have hb:=iP p.cols;have hc:=iP v.cols;rw[Pn.aB (O6 p v ws t)]at h ⊢;simp[tP,tPB,h,ha,hb,hc]
theorem K6 {p v:Pn} (hp:p.thin) (hv:v.thin) {ws:List Int} {t:Int}:aH CZ 16 [tP p 0,tP v 3, .osl 6 1 0 ws.length, .int t] (tPB p++(tPB v++[some (.arr 1 (aF ws))]))=some (.tup [rqA (O6 p v ws t) 7, .bool (FP p v ws t)],tPB p++(tPB v++([some (.arr 1 (aF ws))]++rqB (O6 p v ws t)))):=by
 have h:=FT hp hv ws t;rw[aZ (C:=CZ) (p:=A9 (aH CM) 16) rfl];rw[Pn.aB p,Pn.aB v]at h;simp only[Ex.aU p.exprs,Pn.aU p.kids,Ex.aU v.exprs,Pn.aU v.kids]at h;have ha:=iP ws;have hb:=iP p.cols;have hc:=iP v.cols;generalize O6 p v ws t=q at h ⊢;have b4:=dU q.cols
 by_cases q1:q.exprs=[]<;>by_cases q2:q.cols=[]<;>by_cases q3:q.kids=[] <;>
  (simp only[rqA,rqB,q1,q2,q3,if_true,if_false,zC,zO,zH]at h ⊢
   simp[tP,tPB,h,ha,hb,hc,b4])
theorem K5 {p:Pn} (hp:p.fat):aH CZ 10 [tP p 0,tP p 3] (tPB p++tPB p)=some (.bool true,tPB p++tPB p):=by
 have h:=EC p hp;rw[aZ (C:=CZ) (p:=A9 (aH C0) 10) rfl];rw[Pn.aB,Ex.aU,Pn.aU]at h;have hb:=iP p.cols;simp[tP,tPB,h,hb]
theorem UW {q:Pn} (hq:q.fat):aH CZ 10 [rqA q 0, .i (.agg q.cells)] (rqB q)=some (.bool true,rqB q):=by
 have h:=EC q hq;rw[aZ (C:=CZ) (p:=A9 (aH C0) 10) rfl];rw[Pn.aB]at h ⊢;have b1:=BD q.exprs;have b2:=BC q.cols;have b3:=BB q.kids;have b4:=dU q.cols
 by_cases q1:q.exprs=[]<;>by_cases q2:q.cols=[]<;>by_cases q3:q.kids=[] <;>
  (simp only[rqA,rqB,q1,q2,q3,if_true,if_false,zC,zO,zH,Ex.aA,aF,Pn.aA]at h b1 b2 b3 b4 ⊢
   simp[h,b1,b2,b3,b4])
theorem Z9 {l:List Int} (hl:l.length<9223372036854775808):aH CZ 11 [.osl 0 1 0 l.length, .osl 1 1 0 l.length] [some (.arr 1 (aF l)),some (.arr 1 (aF l))]=some (.bool true,[some (.arr 1 (aF l)),some (.arr 1 (aF l))]):=by
 have h:=ED l hl;rw[aZ (C:=CZ) (p:=A9 (aH C0) 11) rfl];have hb:=iP l;simp[h,hb]
def MIZ (l:List Int) (k:Int) (i:Nat):AS :=
 { env:=[(0, .osl 0 1 0 l.length),(1, .int (k+i)),(4, .int 0),(5, .int i),(9,jk i (.bool true))],st:=[some (.arr 1 (aF ((vU k l).take i++l.drop i)))] }
theorem uA {l:List Int} {k:Int} (h0:0≤k) (h1:k+(l.length:Nat)<1000000000000):aH CZ 13 [.osl 0 1 0 l.length, .int k] [some (.arr 1 (aF l))]=some (.int (k+(l.length:Nat)),[some (.arr 1 (aF (vU k l)))]):=by
 rw[aI rfl Try.func13 rfl rfl];have hlen:(vU k l).length=l.length:=dL AFV AC8 l k;simp;rw[aV (MIZ l k) l.length (by simp[MIZ])]
 ·rw[aG];have ht:(vU k l).take l.length=vU k l:=zX (by omega);simp[MIZ,ht]
 ·intro i hi;have hs:=aN (PI l k hi);have hd:=yH hi;generalize l[i]=a at hd;have hA:(aF ((vU k l).take i)).length=i:=by simp[hlen];omega
  have w2:IntKind.i64.wrap ((i:Int)+1)=i+1:=wrO;have w3:IntKind.i64.wrap (k+i+1)=k+(i+1):=by rw[wrO];omega
  have g1:gB (aF ((vU k l).take i)++[.int a]::aF (l.drop (i+1))) i=some [.int a]:=by
   have:=kN (aF ((vU k l).take i)) [IV.int a] (aF (l.drop (i+1)))
   rwa [hA]at this
  have g2:(aF ((vU k l).take i)++[.int a]::aF (l.drop (i+1))).set i [.int (k+i)]=aF ((vU k l).take i)++[.int (k+i)]::aF (l.drop (i+1)):=by
   rw[List.set_append_right _ _ (by omega),hA,Nat.sub_self,zA0]
  have e1:aF ((vU k l).take i++l.drop i)=aF ((vU k l).take i)++[.int a]::aF (l.drop (i+1)):=by
   rw[gW,hd];rfl
  have e2:aF ((vU k l).take (i+1)++l.drop (i+1))=aF ((vU k l).take i)++[.int (k+i)]::aF (l.drop (i+1)):=by
   rw[hs,gW,gW,yY];rfl
  simp only[MIZ,e1,e2];simp[hi,g1,g2,w2,w3]
theorem MX {k:Int}:aH CZ 13 [.nils, .int k] []=some (.int k,[]):=by
 rw[aI rfl Try.func13 rfl rfl];simp;rw[aG];simp
theorem K4 {l:List Ex} {k:Int} (h0:0≤k) (h1:k+4*(Ex.aL l:Nat)<1000000000000):aH CZ 31 [.osl 0 5 0 l.length, .int k] [some (kL Ex.cells 5 l)]=some (.int (k+4*(Ex.aL l:Nat)),[some (kL Ex.cells 5 (Ex.iW k l))]):=by
 rw[aZ (C:=CZ) (p:=qW Ex.cells Ex.pU exZ 5) rfl];have:=PR (W:=5) (mk:=Ex.pU) (sz:=exZ) Ex.uV (l:=l) (k:=k) h0 (by rw[oZ];push_cast;omega);rw[oZ,← sQ]at this;push_cast at this;exact this
theorem QT {k:Int} (h0:0≤k) (h1:k<1000000000000):aH CZ 31 [.nils, .int k] []=some (.int k,[]):=by
 rw[aZ (C:=CZ) (p:=qW Ex.cells Ex.pU exZ 5) rfl];simp[qW,h0,h1]
theorem K3 {l:List Pn} {k:Int} (h0:0≤k) (h1:k+(Pn.mzL l:Nat)<1000000000000):aH CZ 32 [.osl 0 5 0 l.length, .int k] [some (kL Pn.cells 5 l)]=some (.int (k+(Pn.mzL l:Nat)),[some (kL Pn.cells 5 (Pn.jU k l))]):=by
 rw[aZ (C:=CZ) (p:=qW Pn.cells Pn.nR Pn.mz 5) rfl];have:=PR (W:=5) (mk:=Pn.nR) (sz:=Pn.mz) Pn.EM (l:=l) (k:=k) h0 (by rw[oW];omega);rw[oW,← o7]at this;exact this
theorem QS {k:Int} (h0:0≤k) (h1:k<1000000000000):aH CZ 32 [.nils, .int k] []=some (.int k,[]):=by
 rw[aZ (C:=CZ) (p:=qW Pn.cells Pn.nR Pn.mz 5) rfl];simp[qW,h0,h1]
theorem AP {p:Pn} {k:Int} (h0:0≤k) (h1:k+(p.mk4:Nat)<1000000000000):aH CZ 12 [tP p 0, .int k] (tPB p)=some (.int (k+(p.mk4:Nat)),tPB (p.mkK k)):=by
 have hm:=WJ p;have c1:=K4 (l:=p.exprs) h0 (by omega);have c2:=uA (l:=p.cols) (k:=k+4*(Ex.aL p.exprs:Nat)) (by omega) (by omega);have c3:=K3 (l:=p.kids) (k:=k+4*(Ex.aL p.exprs:Nat)+(p.cols.length:Nat)) (by omega) (by omega);rw[aI rfl Try.func12 rfl rfl];have hm2:k+(p.mk4:Int)=k+4*(Ex.aL p.exprs:Nat)+(p.cols.length:Nat)+(Pn.mzL p.kids:Nat):=by omega
 rw[hm2];simp[tP,tPB,Pn.mkK,Pn.bK,Pn.bY,Pn.bD,Pn.bW,Pn.dF,c1,c2,c3]
theorem MW {q:Pn} {k:Int} (h0:0≤k) (h1:k+(q.mk4:Nat)<1000000000000):aH CZ 12 [rqA q 0, .int k] (rqB q)=some (.int (k+(q.mk4:Nat)),rqB (q.mkK k)):=by
 have hm:=WJ q;have hm2:k+(q.mk4:Int)=k+4*(Ex.aL q.exprs:Nat)+(q.cols.length:Nat)+(Pn.mzL q.kids:Nat):=by omega
 rw[aI rfl Try.func12 rfl rfl,VP,hm2];by_cases q1:q.exprs=[]<;>by_cases q2:q.cols=[]<;>by_cases q3:q.kids=[]
 all_goals
  have c1:=K4 (l:=q.exprs) h0 (by omega);have c2:=uA (l:=q.cols) (k:=k+4*(Ex.aL q.exprs:Nat)) (by omega) (by omega);have c3:=K3 (l:=q.kids) (k:=k+4*(Ex.aL q.exprs:Nat)+(q.cols.length:Nat)) (by omega) (by omega);have d1:=QT h0 (by omega);have d2:=MX (k:=k+4*(Ex.aL q.exprs:Nat));have d3:=QS (k:=k+4*(Ex.aL q.exprs:Nat)+(q.cols.length:Nat)) (by omega) (by omega)
  try rw[kV q1,kV (PS q1 k),← Ex.aU,← Ex.aU]at c1
  try rw[kV q3,kV (LJ q3 _),← Pn.aU,← Pn.aU]at c3
  simp only[rqA,rqB,q1,q2,q3,if_true,if_false,zC,zO,zH,Ex.aL,Pn.mzL,yI]at c1 c2 c3 d1 d2 d3 ⊢
  try simp at c1 c2 c3 d1 d2 d3
  simp[c1,c2,c3,d1,d2,d3]
theorem MZ {q:Pn} {k:Int} (h0:0≤k) (h1:k+(q.mk4:Nat)<1000000000000):aH CZ 14 [rqA q 0, .int k] (rqB (q.mkK k))=some (.int (k+(q.mk4:Nat)),rqB (q.mkK k)):=by
 have h:=NY h0 h1;rw[aZ (C:=CZ) (p:=A9 (aH C0) 14) rfl];rw[Pn.aB]at h;simp only[Pn.mkK,Pn.bK,Pn.bY,Pn.bD,Pn.bW,Pn.dF]at h;rw[VP];have b1:=BD (Ex.iW k q.exprs);have b2:=BC (vU (k+4*(Ex.aL q.exprs:Nat)) q.cols);have b3:=BB (Pn.jU (k+4*(Ex.aL q.exprs:Nat)+(q.cols.length:Nat)) q.kids);have b4:=dU (vU (k+4*(Ex.aL q.exprs:Nat)) q.cols);rw[CJ]at b1;rw[JA]at b2;rw[uJ]at b3
 by_cases q1:q.exprs=[]<;>by_cases q2:q.cols=[]<;>by_cases q3:q.kids=[] <;>
  (simp only[rqA,q1,q2,q3,if_true,if_false,zC,zO,zH,Ex.aA,aF,Pn.aA,Ex.iW,Pn.jU,eF]at h b1 b2 b3 b4 ⊢
   try simp at h
   simp[h,b1,b2,b3,b4,CJ,uJ,JA])
end Go.Proofs.Ytjdfjgmebalaaaa.P
namespace Go.Av
theorem YD {w:World} {a:Addr} {v:Value} (h:w.cell? (a.add 0)=some v):∃ b off,a=⟨b,off,none⟩:=by
 obtain⟨b,off,spot⟩:=a;simp only[Addr.add,if_true,World.cell?]at h
 cases spot with
 | none=>exact⟨b,off,rfl⟩
 | some s=>split at h<;>simp at h
theorem AH5 {cs:List Value} (h:cs.length=5):∃ c0 c1 c2 c3 c4,cs=[c0,c1,c2,c3,c4]:=by
 match cs,h with
 | [c0,c1,c2,c3,c4],_=>exact⟨c0,c1,c2,c3,c4,rfl⟩
end Go.Av
namespace Go.Proofs.Ytjdfjgmebalaaaa.P
open Go Go.Av
set_option maxRecDepth 4000
variable {H:Type} {enc:TypeId×Value→H} {w:World} {sp:Nat→Bool}
theorem ce3:Try.prog.cellsOf 3=1:=by kernel_rfl
theorem ce4:Try.prog.cellsOf 4=1:=by kernel_rfl
theorem AMB:Try.prog.cellsOf 67=2:=by kernel_rfl
theorem AMA:Try.prog.cellsOf 22=1:=by kernel_rfl
theorem AL0:Try.prog.cellsOf 69=5:=by kernel_rfl
theorem AID {fuel:Nat} {cs:List Value} {r:DataW H×List MemPlace} (h:DataW.trod enc Try.prog w 0 sp true fuel 67 cs=some r):∃ v:Val,cs=[.bool v.null, .int .i64 v.n]:=by
 obtain⟨xs,n,rfl,_,hl,hx,hf⟩:=DataW.trod_struct Try.underlying67 h;rw[AMB]at hl;have h0:DataW.trod enc Try.prog w 0 sp true n 4 ((cs.drop 0).take (Try.prog.cellsOf 4))=xs[0]?:=hf 0 _ rfl;have h1:DataW.trod enc Try.prog w 0 sp true n 3 ((cs.drop 1).take (Try.prog.cellsOf 3))=xs[1]?:=hf 1 _ rfl;rw[ce4]at h0;rw[ce3]at h1;have hx:xs.length=2:=hx;rw[zW (by omega)]at h0 h1;obtain⟨b,hb,_⟩:=DataW.trod_bool Try.underlying4 h0;obtain⟨k,hk,_⟩:=DataW.trod_int Try.underlying3 h1
 match cs,hl with
 | [c0,c1],_ =>
  simp at hb hk;exact⟨⟨b,k⟩,by rw[hb,hk]⟩
theorem Q0 {b:Nat} {P:List Value→List IV→Prop} {k:Nat} (hk:∀ cs l,P cs l→l.length=k∧ICells (eD w) l cs):∀ (n off:Nat),(∀ i,i<n→∃ cs l,P cs l∧∀ j v,cs[j]?=some v→w.cell? ⟨b,off+k*i+j,none⟩=some v) →
 ∃ es:List (List IV),es.length=n∧IElems (eD w) b off k es∧∀ e∈es,∃ cs,P cs e
 | 0,off,_=>⟨[],rfl, .nil _ _ _,by simp⟩
 | n+1,off,h=>by
  obtain⟨cs,l,h1,h2⟩:=h 0 (by omega);obtain⟨k1,k2⟩:=hk cs l h1
  obtain⟨es,e1,e2,e3⟩:=Q0 hk n (off+k) (fun i hi=>by
   obtain⟨cs,l,h3,h4⟩:=h (i+1) (by omega)
   exact⟨cs,l,h3,fun j v hj=>by rw[← h4 j v hj];congr 2;rw[zI];omega⟩)
  refine⟨l::es,by simp[e1], .cons (IAt.mk off k2 fun j v hj=>?_) k1 e2,?_⟩
  ·have:=h2 j v hj;show w.cell? ⟨b,off+j,none⟩=some v;simpa using this
  ·intro e he
   rcases zS.1 he with rfl|he
   ·exact⟨cs,h1⟩
   ·exact e3 e he
theorem AA {fuel:Nat} {t e:TypeId} {c:Value} {r:DataW H×List MemPlace} {k:Nat} {P:List Value→List IV→Prop} (ht:Try.prog.underlying t=some (.slice e)) (hce:Try.prog.cellsOf e=k) (hk0:0<k) (hk:∀ cs l,P cs l→l.length=k∧ICells (eD w) l cs)
 (ih:∀ n,n<fuel→∀ cs x,DataW.trod enc Try.prog w 0 sp true n e cs=some x→∃ l,P cs l) (h:DataW.trod enc Try.prog w 0 sp true fuel t [c]=some r) :
 ∃ es:List (List IV),IRep (eD w) (.isl es) c∧es.length<9223372036854775808∧∀ x∈es,∃ cs,P cs x:=by
 rcases DataW.trod_slice ht h with ⟨h1,_⟩|⟨a,len,cap,elems,rest,n,rfl,h1,_,_,hlc,hcm,hel,hat,_,_⟩
 ·injection h1 with h1;subst h1;exact⟨[], .isl0 _ _ fun _=>rfl,by simp,by simp⟩
 ·injection h1 with h1;subst h1;by_cases h0:len=0
  ·subst h0;exact⟨[], .isl0 _ _ (by simp),by simp,by simp⟩
  ·rw[hce]at hat
   have get:∀ i,i<len→∃ cs l,P cs l∧cs.length=k∧∀ j,j<k→w.cell? ((a.add (i*k)).add j)=cs[j]?:=by
    intro i hi;have h2:=hat i hi;rw[zW (by omega)]at h2;obtain⟨cs,h3,h4⟩:=Option.bind_eq_some_iff.1 h2;obtain⟨_,h5,h6⟩:=World.cells?_some h3;obtain⟨l,h7⟩:=ih n (by omega) cs _ h4;exact⟨cs,l,h7,h5,h6⟩
   obtain⟨b,off,rfl⟩:∃ b off,a=⟨b,off,none⟩:=by
    obtain⟨cs,l,_,h5,h6⟩:=get 0 (by omega);have h7:=h6 0 hk0;rw[zW (by omega)]at h7;refine YD (v:=cs[0]'(by omega)) (w:=w) ?_;rw[← h7,Nat.zero_mul];congr 1
   obtain⟨es,e1,e2,e3⟩:=Q0 (b:=b) hk len off (fun i hi=>by
    obtain⟨cs,l,h4,h5,h6⟩:=get i hi;refine⟨cs,l,h4,fun j v hj=>?_⟩;have hjl:=(zY.1 hj).1;have:=h6 j (by omega);rw[hj,Addr.cO,Addr.cO]at this
    rw[← this,z8 k i])
   refine⟨es,?_,by rw[e1];unfold maxLen at hcm;omega,e3⟩;have hne:es≠[]:=fun h=>by rw[h]at e1;simp at e1;omega
   have:=IRep.isl (m:=eD w) (cap:=cap) hne e2 (by omega)
   rwa [e1]at this
theorem AIE:∀ (fuel:Nat) (cs:List Value) (r:DataW H×List MemPlace),DataW.trod enc Try.prog w 0 sp true fuel 69 cs=some r→∃ e:Ex,e.fat∧ICells (eD w) e.cells cs:=by
 intro fuel
 induction fuel using Nat.strongRecOn with
 | _ fuel ih =>
  intro cs r h;obtain⟨xs,n,rfl,_,hl,hx,hf⟩:=DataW.trod_struct Try.underlying69 h;rw[AL0]at hl;have h0:DataW.trod enc Try.prog w 0 sp true n 3 ((cs.drop 0).take (Try.prog.cellsOf 3))=xs[0]?:=hf 0 _ rfl;have h1:DataW.trod enc Try.prog w 0 sp true n 3 ((cs.drop 1).take (Try.prog.cellsOf 3))=xs[1]?:=hf 1 _ rfl;have h2:DataW.trod enc Try.prog w 0 sp true n 67 ((cs.drop 2).take (Try.prog.cellsOf 67))=xs[2]?:=hf 2 _ rfl;have h3:DataW.trod enc Try.prog w 0 sp true n 22 ((cs.drop 4).take (Try.prog.cellsOf 22))=xs[3]?:=hf 3 _ rfl;rw[ce3]at h0 h1;rw[AMB]at h2;rw[AMA]at h3;have hx:xs.length=4:=hx;rw[zW (by omega)]at h0 h1 h2 h3;obtain⟨c0,c1,c2,c3,c4,rfl⟩:=AH5 hl;obtain⟨k0,hk0,_⟩:=DataW.trod_int Try.underlying3 h0;obtain⟨k1,hk1,_⟩:=DataW.trod_int Try.underlying3 h1;obtain⟨v,hv⟩:=AID h2;simp at hk0 hk1 hv;obtain⟨rfl,rfl⟩:=hv;subst hk0;subst hk1;simp at h3
  obtain⟨es,e1,e2,e3⟩:=AA (P:=fun cs l=>∃ e:Ex,e.fat∧l=e.cells∧ICells (eD w) l cs) Try.underlying22 AL0 (by omega) (fun cs l ⟨e,_,h5,h6⟩=>⟨by rw[h5,Ex.aB];rfl,h6⟩)
   (fun m hm cs x hx=>by
    obtain⟨e,h5,h6⟩:=ih m (by omega) cs x hx
    exact⟨e.cells,e,h5,rfl,h6⟩) h3
  have hl:∃ l:List Ex,Ex.aA l=es∧∀ a∈l,a.fat:=by
   have key:∀ es:List (List IV),(∀ x∈es,∃ cs,∃ e:Ex,e.fat∧x=e.cells∧ICells (eD w) x cs)→∃ l:List Ex,Ex.aA l=es∧∀ a∈l,a.fat:=by
    intro es
    induction es with
    | nil=>intro _;exact⟨[],rfl,by simp⟩
    | cons x es ihe =>
     intro h;obtain⟨_,e,h5,h6,_⟩:=h x (by simp);obtain⟨l,h7,h8⟩:=ihe fun y hy=>h y (by simp[hy])
     exact⟨e::l,by simp[Ex.aA,h6,h7],fun a ha=>by
      rcases zS.1 ha with rfl|ha
      ·exact h5
      ·exact h8 a ha⟩
   exact key es e3
  obtain⟨l,rfl,hfat⟩:=hl;refine⟨.mk k0 k1 v l,(Ex.nA _).2 ⟨by simpa [Ex.kids]using e2,hfat⟩,?_⟩;rw[show(Ex.mk k0 k1 v l).cells=[.int k0, .int k1, .bool v.null, .int v.n, .isl (Ex.aA l)]by simp[Ex.cells]];exact .cons (.lit _) rfl (.cons (.lit _) rfl (.cons (.lit _) rfl (.cons (.lit _) rfl (.cons e1 (o9 e1) .nil))))
theorem ceI:Try.prog.cellsOf 3=1:=by kernel_rfl
theorem AML:Try.prog.cellsOf 24=1:=by kernel_rfl
theorem AMM:Try.prog.cellsOf 23=1:=by kernel_rfl
theorem ceP:Try.prog.cellsOf 26=5:=by kernel_rfl
theorem XA {fuel:Nat} {c:Value} {r:DataW H×List MemPlace} (h:DataW.trod enc Try.prog w 0 sp true fuel 23 [c]=some r):∃ l:List Int,l.length<9223372036854775808∧IRep (eD w) (.isl (aF l)) c:=by
 obtain⟨es,e1,e2,e3⟩:=AA (P:=fun cs l=>∃ n:Int,l=[.int n]∧cs=[.int .i64 n]) Try.underlying23 ceI (by omega) (fun cs l ⟨v,h5,h6⟩=>⟨by rw[h5];rfl,by rw[h5,h6];exact .cons (.lit _) rfl .nil⟩)
  (fun m hm cs x hx=>by
   obtain⟨k,hk,_⟩:=DataW.trod_int Try.underlying3 hx
   exact⟨[.int k],k,rfl,hk⟩) h
 have key:∀ es:List (List IV),(∀ x∈es,∃ cs:List Value,∃ n:Int,x=[.int n]∧cs=[.int .i64 n])→∃ l:List Int,aF l=es:=by
  intro es
  induction es with
  | nil=>intro _;exact⟨[],rfl⟩
  | cons x es ihe =>
   intro h;obtain⟨_,v,h5,_⟩:=h x (by simp);obtain⟨l,h7⟩:=ihe fun y hy=>h y (by simp[hy])
   exact⟨v::l,by simp[aF,h5,h7]⟩
 obtain⟨l,rfl⟩:=key es e3;exact⟨l,by simpa using e2,e1⟩
theorem AER {fuel:Nat} {c:Value} {r:DataW H×List MemPlace} (h:DataW.trod enc Try.prog w 0 sp true fuel 22 [c]=some r):∃ l:List Ex,l.length<9223372036854775808∧(∀ a∈l,a.fat)∧IRep (eD w) (.isl (Ex.aA l)) c:=by
 obtain⟨es,e1,e2,e3⟩:=AA (P:=fun cs l=>∃ e:Ex,e.fat∧l=e.cells∧ICells (eD w) l cs) Try.underlying22 AL0 (by omega) (fun cs l ⟨e,_,h5,h6⟩=>⟨by rw[h5,Ex.aB];rfl,h6⟩)
  (fun m hm cs x hx=>by
   obtain⟨e,h5,h6⟩:=AIE m cs x hx
   exact⟨e.cells,e,h5,rfl,h6⟩) h
 have key:∀ es:List (List IV),(∀ x∈es,∃ cs,∃ e:Ex,e.fat∧x=e.cells∧ICells (eD w) x cs)→∃ l:List Ex,Ex.aA l=es∧∀ a∈l,a.fat:=by
  intro es
  induction es with
  | nil=>intro _;exact⟨[],rfl,by simp⟩
  | cons x es ihe =>
   intro h;obtain⟨_,e,h5,h6,_⟩:=h x (by simp);obtain⟨l,h7,h8⟩:=ihe fun y hy=>h y (by simp[hy])
   exact⟨e::l,by simp[Ex.aA,h6,h7],fun a ha=>by
    rcases zS.1 ha with rfl|ha
    ·exact h5
    ·exact h8 a ha⟩
 obtain⟨l,rfl,hfat⟩:=key es e3;exact⟨l,by simpa using e2,hfat,e1⟩
theorem X9:∀ (fuel:Nat) (cs:List Value) (r:DataW H×List MemPlace),DataW.trod enc Try.prog w 0 sp true fuel 26 cs=some r→∃ p:Pn,p.fat∧ICells (eD w) p.cells cs:=by
 intro fuel
 induction fuel using Nat.strongRecOn with
 | _ fuel ih =>
  intro cs r h;obtain⟨xs,n,rfl,_,hl,hx,hf⟩:=DataW.trod_struct Try.underlying26 h;rw[ceP]at hl;have h0:DataW.trod enc Try.prog w 0 sp true n 3 ((cs.drop 0).take (Try.prog.cellsOf 3))=xs[0]?:=hf 0 _ rfl;have h1:DataW.trod enc Try.prog w 0 sp true n 3 ((cs.drop 1).take (Try.prog.cellsOf 3))=xs[1]?:=hf 1 _ rfl;have h2:DataW.trod enc Try.prog w 0 sp true n 22 ((cs.drop 2).take (Try.prog.cellsOf 22))=xs[2]?:=hf 2 _ rfl;have h3:DataW.trod enc Try.prog w 0 sp true n 23 ((cs.drop 3).take (Try.prog.cellsOf 23))=xs[3]?:=hf 3 _ rfl;have h4:DataW.trod enc Try.prog w 0 sp true n 24 ((cs.drop 4).take (Try.prog.cellsOf 24))=xs[4]?:=hf 4 _ rfl;rw[ceI]at h0 h1;rw[AMA]at h2;rw[AMM]at h3;rw[AML]at h4;have hx:xs.length=5:=hx;rw[zW (by omega)]at h0 h1 h2 h3 h4;obtain⟨c0,c1,c2,c3,c4,rfl⟩:=AH5 hl;obtain⟨k0,hk0,_⟩:=DataW.trod_int Try.underlying3 h0;obtain⟨k1,hk1,_⟩:=DataW.trod_int Try.underlying3 h1;simp at hk0 hk1;subst hk0;subst hk1;simp at h2 h3 h4;obtain⟨es,le,fe,re⟩:=AER h2;obtain⟨is,li,ri⟩:=XA h3
  obtain⟨ps,e1,e2,e3⟩:=AA (P:=fun cs l=>∃ e:Pn,e.fat∧l=e.cells∧ICells (eD w) l cs) Try.underlying24 ceP (by omega) (fun cs l ⟨e,_,h5,h6⟩=>⟨by rw[h5,Pn.aB];rfl,h6⟩)
   (fun m hm cs x hx=>by
    obtain⟨e,h5,h6⟩:=ih m (by omega) cs x hx
    exact⟨e.cells,e,h5,rfl,h6⟩) h4
  have key:∀ es:List (List IV),(∀ x∈es,∃ cs,∃ e:Pn,e.fat∧x=e.cells∧ICells (eD w) x cs)→∃ l:List Pn,Pn.aA l=es∧∀ a∈l,a.fat:=by
   intro es
   induction es with
   | nil=>intro _;exact⟨[],rfl,by simp⟩
   | cons x es ihe =>
    intro h;obtain⟨_,e,h5,h6,_⟩:=h x (by simp);obtain⟨l,h7,h8⟩:=ihe fun y hy=>h y (by simp[hy])
    exact⟨e::l,by simp[Pn.aA,h6,h7],fun a ha=>by
     rcases zS.1 ha with rfl|ha
     ·exact h5
     ·exact h8 a ha⟩
  obtain⟨l,rfl,hfat⟩:=key ps e3;refine⟨.mk k0 k1 es is l,(Pn.nA _).2 ⟨le,fe,li,by simpa using e2,hfat⟩,?_⟩;rw[Pn.bV];exact .cons (.lit _) rfl (.cons (.lit _) rfl (.cons re (o9 re) (.cons ri (o9 ri) (.cons e1 (o9 e1) .nil))))
end Go.Proofs.Ytjdfjgmebalaaaa.P
namespace Go.Av
theorem Ex.BA:∀ (e:Ex),e.thin→e.fat:=by
 intro e
 induction e using Ex.ind with
 | h k c v ks ih =>
  intro h;have h':=(Ex.bR _).1 h;exact(Ex.nA _).2 ⟨by have:=h'.1;omega,fun a ha=>ih a ha (h'.2 a ha)⟩
theorem Pn.BA:∀ (p:Pn),p.thin→p.fat:=by
 intro p
 induction p using Pn.ind with
 | h k t es cs ks ih =>
  intro h;obtain⟨h1,h2,h3,h4,h5⟩:=(Pn.bR _).1 h;exact(Pn.nA _).2 ⟨by omega,fun e he=>Ex.BA e (h2 e he),by omega,by omega,fun a ha=>ih a ha (h5 a ha)⟩
mutual
theorem XF (v:Pn) (t:Int):∀ p:Pn,(iQ v t p).ms≤p.ms+p.size*v.ms
 | .mk k tb es cs ks=>by
  have ih:=QB v t ks;have hs:=Pn.size_eq (.mk k tb es cs ks);simp only[Pn.dF]at hs
  cases hh:Pn.hit t (.mk k tb es cs ks)with
  | true =>
   rw[tH hh,hs,zB2];omega
  | false =>
   rw[gL hh,hs,zB2];simp only[Pn.ms,Pn.bK,Pn.bY,Pn.bD,Pn.bW,Pn.dF];omega
theorem QB (v:Pn) (t:Int):∀ l:List Pn,Pn.msL (dA v t l)≤Pn.msL l+Pn.aL l*v.ms
 | []=>by simp[dA]
 | p::l=>by
  have h1:=XF v t p;have h2:=QB v t l;simp only[dA,Pn.msL,Pn.aL,zB2];omega
end
end Go.Av
namespace Go.Proofs.Ytjdfjgmebalaaaa.P
open Go Go.Av Go.Av.Mk
set_option maxRecDepth 8000
set_option maxHeartbeats 16000000
theorem XI {p v:Pn} (hp:p.thin) (hv:v.thin) (ws:List Int) (t:Int):(O6 p v ws t).thin:=by
 unfold O6;split
 ·exact E9 v hv t p hp
 ·exact Pn.UV
theorem XJ {p v:Pn} {ws:List Int} {t:Int} (hp:p.meas≤1048576) (hv:v.meas≤1048576):(O6 p v ws t).meas≤1000000000:=by
 unfold O6;split
 ·rename_i h;have hw:p.width ws≠0:=by unfold FP at h;simp at h;exact h.1
  have hs:=(Pn.rQ hw).2;have h1:=XF v t p;have h2:p.size*v.ms≤512*1048577:=Nat.mul_le_mul (by omega) (by rw[Pn.SA];omega);rw[Pn.SA,Pn.SA p]at h1;omega
 ·simp[Pn.zero,Pn.meas,Ex.aL,Pn.msL]
theorem qY {p v:Pn} {ws:List Int} {t:Int} (hp:p.fat) (hv:v.fat) (hl:ws.length<9223372036854775808):aH CZ 4 [.i (.agg p.cells), .i (.agg v.cells), .i (.isl (aF ws)), .int t] []=some (.bool true,[]):=by
 rw[aI rfl Try.func4 rfl rfl];by_cases hw:(1048576:Int)<ws.length
 ·rw[Pn.aB p,Pn.aB v];simp[hw]
 have s1:=OW hp (left:=1048576) (by omega) (by omega);by_cases c1:dD 1048576 p.meas<0
 ·rw[Pn.aB p,Pn.aB v]at *
  simp[hw,s1,c1]
 have l1:=JG (left:=1048576) (a:=p.meas) (by omega);have s2:=OW hv (left:=dD 1048576 p.meas) (by omega) (by omega);by_cases c2:dD (dD 1048576 p.meas) v.meas<0
 ·rw[Pn.aB p,Pn.aB v]at *
  simp[hw,s1,c1,s2,c2]
 have m1:p.meas≤1048576:=by
  unfold dD at c1;split at c1<;>omega
 have m2:v.meas≤1048576:=by
  rw[dD]at c2;split at c2<;>omega
 have tp:=Pn.G5 p (by omega);have tv:=Pn.G5 v (by omega);have e1:=OV tp;have e1':=OV tv;have e2:=Z8 (l:=ws) (by omega);have e3:=IM tp tv (ws:=ws) (by omega) (t:=t);have e4:=K6 tp tv (ws:=ws) (t:=t);have e5:=K5 hp;have e5':=K5 hv;have e6:=Z9 (l:=ws) (by omega);have mk:=Pn.WI p;have mk':=Pn.WI v;have e7:=AP (p:=p) (k:=1) (by omega) (by omega);have e7':=AP (p:=v) (k:=1+(p.mk4:Nat)) (by omega) (by omega);have e8:=uA (l:=ws) (k:=1+(p.mk4:Nat)+(v.mk4:Nat)) (by omega) (by omega);have n1:¬ 1+(p.mk4:Int)+(v.mk4:Int)+(ws.length:Int)<0:=by omega
 have tq:=XI tp tv ws t;have mq:=XJ (ws:=ws) (t:=t) m1 m2;generalize O6 p v ws t=q at *
 generalize FP p v ws t=N at *
 have mkq:=Pn.WI q;have e9:=UW (Pn.BA q tq);have e10:=MW (q:=q) (k:=1) (by omega) (by omega);have e11:=MZ (q:=q) (k:=1) (by omega) (by omega);have n2:¬ 1+(q.mk4:Int)<0:=by omega
 rw[VP]at e10 e11;rw[Pn.aB p,Pn.aB v]at *
 rw[Pn.aB q]at *
 simp[tP,tPB]at e1 e1' e3 e4 e5 e5' e7 e7'
 by_cases q1:q.exprs=[]<;>by_cases q2:q.cols=[]<;>by_cases q3:q.kids=[] <;>
  (simp only[rqA,rqB,q1,q2,q3,if_true,if_false,zC,zO,zH]at e3 e4 e9 e10 e11
   try simp at e4 e9 e10 e11
   simp[hw,s1,c1,s2,c2,e1,e1',e2,e3,e4,e5,e5',e6,e7,e7',e8,e9,e10,e11,n1,n2])
theorem lD {w:World} {p q:Pn} {v v':Value} {ws:List Int} {t:Int} {c:Value} (hp:p.fat) (hq:q.fat) (rp:IRep (eD w) (.agg p.cells) v) (rq:IRep (eD w) (.agg q.cells) v') (hl:ws.length<9223372036854775808) (hw:IRep (eD w) (.isl (aF ws)) c) :
 Calls Try.prog 4 #[v,v',c, .int .i64 t] w fun e w'=>e=.returned (.bool true)∧RowKit.Below w.heap.size w w' :=
 TZ AHB (.cons (.i rp) (.cons (.i rq) (.cons (.i hw) (.cons (.i (.lit _)) .nil)))) (qY hp hq hl)
end Go.Proofs.Ytjdfjgmebalaaaa.P

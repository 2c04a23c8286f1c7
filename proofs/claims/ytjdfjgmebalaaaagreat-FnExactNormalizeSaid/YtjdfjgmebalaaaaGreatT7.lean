/- Part 7 of what the proof rests on: the executor and what it is worth, and the program's functions as it runs them. No condition. -/
import Derived.Test.YtjdfjgmebalaaaaGreatT6
import Derived.ChangeOld
import Derived.OpenShut
set_option linter.unusedVariables false
set_option linter.unusedSimpArgs false
namespace Go.Av
def aps (ws:List Int):List (Int×List Int)→Pn→Option Pn
 | [],p=>some p
 | s::l,p=>(apO p ws s.1 s.2).bind (aps ws l)
theorem VM {ws:List Int}:∀ (l:List (Int×List Int)) (p q:Pn),aps ws l p=some q→q.width ws=p.width ws∧(∀ t,scP t q=scP t p)∧(p.width ws≠0→q.wd ws 8≠0)
 | [],p,q,h=>by
  simp only[aps,Option.some.injEq]at h;subst h;exact⟨rfl,fun _=>rfl,fun h=>(gL h).2⟩
 | s::l,p,q,h=>by
  simp only[aps]at h
  cases hx:apO p ws s.1 s.2 with
  | none=>rw[hx]at h;cases h
  | some x =>
   rw[hx]at h;obtain⟨h1,h2,h3⟩:=VM l x q h
   have hw:x.width ws=p.width ws:=by
    have hx':=hx;unfold apO at hx';split at hx'
    ·cases hx'
    ·rename_i h0;obtain⟨hw,hp8⟩:=gL h0
     have hr:∀ w∈ws,0≤w∧w≤6:=fun w hm=>by
      unfold kM at hw;simp only[zT]at hw;have:=zO.1 hw.2 w hm;unfold bQ at this;simp at this;omega
     rw[AJ7 hr hp8]at hx';have:=AXM hr hp8 hx';unfold Pn.width;rw[if_pos hw,if_pos hw];exact this
   exact⟨h1.trans hw,fun t=>(h2 t).trans (AXO hx t),fun h=>h3 (by rw[hw];exact h)⟩
def jkL (i:Nat) (l:StL):StL:=if i=0 then []else l
@[simp] theorem AhI (l:StL):jkL 0 l=[]:=(rfl)
@[simp] theorem AYR (i:Nat) (l:StL):jkL (i+1) l=l:=(rfl)
theorem mQ {i:Nat} (h:i≠0) (l:StL):jkL i l=l:=by unfold jkL;rw[if_neg h]
def jA (i:Nat) (v:AV):AV:=if i=0 then .junk else v
@[simp] theorem AnD (v:AV):jA 0 v=.junk:=(rfl)
@[simp] theorem AaA (i:Nat) (v:AV):jA (i+1) v=v:=(rfl)
theorem tL {i:Nat} (h:i≠0) (v:AV):jA i v=v:=by unfold jA;rw[if_neg h]
theorem P7 {ws:List Int} {p:Pn} (h:p.wd ws 8≠0):p.tiny∧p.size<512:=by
 have:=Pn.tT p 8 h;exact⟨this.1,by omega⟩
end Go.Av
namespace Go.Proofs.YtjdfjgmebalaaaaGreat.P
open Go Go.Av
set_option maxRecDepth 4000
set_option maxHeartbeats 1000000
@[simp] theorem ATW (a:List AV) (st:StL):aI CA 71 a st=aI C0 71 a st:=by rw[aU (p:=aI C0 71) rfl]
theorem YJ {p:Pn} (hp:p.thin):aI CA 62 [.i (.agg p.cells)] []=some (.i (.agg p.cells),[]):=by
 have:=Y8 p hp;rw[aU (p:=AS8 (aI C0) 62) rfl]at this ⊢;exact this
def zpB:Option Blk:=some (.box [.int 0, .int 0, .nils, .nils, .nils])
theorem dQ (l:List Stp):(bR l).length=l.length:=by simp[bR]
end Go.Proofs.YtjdfjgmebalaaaaGreat.P
namespace Go.Av
end Go.Av
namespace Go.Proofs.YtjdfjgmebalaaaaGreat.P
open Go Go.Av Go.Av.Mk
set_option maxRecDepth 4000
set_option maxHeartbeats 8000000
noncomputable def AQW:FuncId→Option (List AV→StL→Option (AV×StL))
 | 40=>none
 | 59=>some (aI C4 59)
 | 26=>some (o8 (aI C5) 26)
 | g=>if g=lU then none else some (aI C0 g)
def ARH:FuncId→Bool
 | 40=>true
 | g=>keepR g
def AbJ:FuncId→Bool
 | 26=>true
 | g=>dC g
noncomputable def C6:Ctx:={ P:=Tryz.prog,G:=GS,ownArgs:=AbJ,keepRes:=ARH,eqT:=wS,prim:=AQW,tree:=true }
@[simp] theorem AqM:C6.P=Tryz.prog:=(rfl)
@[simp] theorem AqN (f):C6.G f=GS f:=(rfl)
@[simp] theorem AqJ (f):C6.ownArgs f=AbJ f:=(rfl)
@[simp] theorem AqK (f):C6.keepRes f=ARH f:=(rfl)
@[simp] theorem AqL (f):C6.eqT f=wS f:=(rfl)
@[simp] theorem AqI:C6.tree=true:=(rfl)
@[simp] theorem k61:ARH 40=true:=(rfl)
theorem AW6:PrimOk C6:=by
 have h0:=aS bH;have h4:=aS AOE;have h5:=aS AFN
 have key:∀ g q,C6.prim g=some q→(g=59∧q=aI C4 g)∨(g=26∧q=o8 (aI C5) g)∨(g≠lU∧q=aI C0 g):=by
  intro g q h;have h:AQW g=some q:=h;unfold AQW at h;split at h
  all_goals first
   | (cases h;done)
   | (injection h with h;subst h;simp;done)
   | (split at h
      ·cases h
      ·rename_i hy;injection h with h;exact .inr (.inr ⟨hy,h.symm⟩))
 constructor
 ·intro g args st p h;unfold bE at h
  cases hq:C6.prim g with
  | none=>rw[hq]at h;cases h
  | some q =>
   rw[hq]at h
   rcases key g q hq with ⟨rfl,rfl⟩|⟨rfl,rfl⟩|⟨hy,rfl⟩
   ·exact h4.name _ args st p (by decide) h
   ·exact(bW h5 (r:=p.1) (stl':=p.2) h).1
   ·exact h0.name g args st p hy h
 ·intro g args st r st' h w m φ vs hi hr hb;unfold bE at h
  cases hq:C6.prim g with
  | none=>rw[hq]at h;cases h
  | some q =>
   rw[hq]at h
   rcases key g q hq with ⟨rfl,rfl⟩|⟨rfl,rfl⟩|⟨hy,rfl⟩
   ·exact h4.calls _ args st r st' (by decide) h w m φ vs hi hr hb
   ·exact(bW h5 h).2 w m φ vs hi hr hb
   ·exact h0.calls g args st r st' hy h w m φ vs hi hr hb
theorem AQ9:SoundOk C6:=gF (C:=C6) ft nt eqS mo AW6
def LK:Code→Option Code
 | .loop b=>some b
 | .seq a b=>match LK a with
  | some x=>some x
  | none=>LK b
 | .block _ c=>LK c
 | _=>none
end Go.Proofs.YtjdfjgmebalaaaaGreat.P
namespace Go.Proofs.YtjdfjgmebalaaaaGreat
open Go Go.Av
end Go.Proofs.YtjdfjgmebalaaaaGreat
namespace Go.Av
theorem LW (P:Nat→Prop) [DecidablePred P]:∀ n:Nat,(∀ i,i<n→P i)∨∃ j,j<n∧(∀ i,i<j→P i)∧¬ P j
 | 0=>.inl fun i hi=>by omega
 | n+1=>by
  rcases LW P n with h|⟨j,h1,h2,h3⟩
  ·by_cases hn:P n
   ·exact .inl fun i hi=>by
     by_cases e:i=n
     ·subst e;exact hn
     ·exact h i (by omega)
   ·exact .inr ⟨n,by omega,h,hn⟩
  ·exact .inr ⟨j,by omega,h2,h3⟩
def dZ (left:Int) (n:Nat):Int:=if(n:Int)≤left then left-n else -1
theorem JR (l:List Ex) {i:Nat} {a:Ex} (h:l[i]?=some a):Ex.aM (l.take (i+1))=Ex.aM (l.take i)+a.size:=by
 induction l generalizing i with
 | nil=>simp at h
 | cons b l ih =>
  cases i with
  | zero=>simp at h;subst h;simp[Ex.aM]
  | succ i=>have:=ih (i:=i) (by simpa using h);simp only[yL,Ex.aM]at this ⊢;omega
theorem NM (l:List Ex) (i:Nat):Ex.aM (l.take i)≤Ex.aM l:=by
 induction l generalizing i with
 | nil=>simp[Ex.aM]
 | cons b l ih =>
  cases i with
  | zero=>simp[Ex.aM]
  | succ i=>simp only[yL,Ex.aM];have:=ih i;omega
theorem wL:∀ (l:List Ex) (i:Nat),i≤l.length→i≤Ex.aM (l.take i)
 | [],i,h=>by simp at h;subst h;simp
 | a::l,0,_=>by simp
 | a::l,i+1,h=>by
  have:=wL l i (by simpa using h);have:=Ex.mZ a;simp only[yL,Ex.aM];omega
end Go.Av
namespace Go.Proofs.YtjdfjgmebalaaaaGreat
open Go Go.Av
set_option maxRecDepth 4000
set_option maxHeartbeats 1000000
theorem AUP {e:Ex} {left:Int} (h:aI C0 48 [.i (.isl (Ex.aB e.kids)), .int left] []=some (.int (dZ left (Ex.aM e.kids)),[])) :
 aI C0 82 [.i (.agg e.cells), .int left] []=some (.int (dZ left (Ex.aM e.kids)),[]):=by
 rw[aF rfl Tryz.func82 rfl rfl,Ex.aA];simp[h];by_cases h0:dZ left (Ex.aM e.kids)<0
 ·have:dZ left (Ex.aM e.kids)=-1:=by unfold dZ at h0 ⊢;split<;>rename_i hc<;>simp[hc]at h0 ⊢;omega
  simp[h0,this]
 ·simp[h0]
def szI (l:List Ex) (left:Int) (i:Nat):Int:=left-l.length-(Ex.aM (l.take i)-i)
def SZ (l:List Ex) (left:Int) (i:Nat):AS :=
 { env:=[(0, .i (.isl (Ex.aB l))),(1, .int (szI l left i)),(4, .int 0),(5, .int i),(11, .bool false),(15,jk i (.bool true)),(25,jk i (.bool false))],st:=[] }
theorem Z5 {l:List Ex} {left:Int} (h0:0≤left) (h1:left<1000000000) (hl:l.length<9223372036854775808)
 (ih:∀ a∈l,∀ left:Int,0≤left→left<1000000000→aI C0 82 [.i (.agg a.cells), .int left] []=some (.int (dZ left (Ex.aM a.kids)),[])) :
 aI C0 48 [.i (.isl (Ex.aB l)), .int left] []=some (.int (dZ left (Ex.aM l)),[]):=by
 rw[aF rfl Tryz.func48 rfl rfl];have w1:IntKind.i64.wrap (left-l.length)=left-l.length:=wrO;have hsl:=Ex.bP l;by_cases hc:left-l.length<0
 ·have:¬ ((Ex.aM l:Nat):Int)≤left:=by omega
  simp[w1,hc,dZ,this]
 simp[w1,hc]
 have hpre:∀ i,i<l.length→∃ a,l[i]?=some a∧a∈l∧Ex.aM (l.take (i+1))=Ex.aM (l.take i)+(1+Ex.aM a.kids)∧fU (Ex.aB l) i=some a.cells:=by
  intro i hi;have h3:=zX hi;refine⟨_,h3,zU h3,?_,Ex.aP h3⟩;rw[JR l h3,Ex.size_eq]
 have hround:∀ i,i<l.length→0≤szI l left i→∃ a:Ex,fU (Ex.aB l) i=some a.cells∧aI C0 82 [.i (.agg a.cells), .int (szI l left i)] []=some (.int (if 0≤szI l left (i+1)then szI l left (i+1)else -1),[]):=by
  intro i hi hs;obtain⟨a,h3,hm,hz,hn⟩:=hpre i hi;have hti:=wL l i (by omega);refine⟨a,hn,?_⟩;rw[ih a hm _ hs (by unfold szI;omega)];congr 2;unfold dZ;congr 1;by_cases hle:((Ex.aM a.kids:Nat):Int)≤szI l left i
  ·rw[if_pos hle,if_pos (by unfold szI at hle ⊢;omega)];unfold szI;omega
  ·rw[if_neg hle,if_neg (by unfold szI at hle ⊢;omega)]
 rcases LW (fun i=>0≤szI l left (i+1)) l.length with hall|⟨j,hj,hlt,hbad⟩
 ·rw[aT (SZ l left) l.length (by simp[SZ,szI,Ex.aM])]
  ·rw[aG]
   have hfin:dZ left (Ex.aM l)=szI l left l.length:=by
    have hT:l.take l.length=l:=zZ (by simp)
    have hge:0≤szI l left l.length:=by
     cases hn:l.length with
     | zero=>unfold szI;rw[hn];simp[Ex.aM];omega
     | succ n=>exact hn ▸ hall n (by omega)
    unfold dZ;unfold szI at hge ⊢;rw[hT]at hge ⊢;rw[if_pos (by omega)];omega
   rw[hfin];simp[SZ]
  ·intro i hi
   have hs:0≤szI l left i:=by
    cases i with
    | zero=>unfold szI;simp[Ex.aM];omega
    | succ i=>exact hall i (by omega)
   obtain⟨a,hn,hc⟩:=hround i hi hs;have hs1:=hall i hi;have hs1:0≤szI l left (i+1):=hs1;rw[if_pos hs1]at hc;have w2:IntKind.i64.wrap ((i:Int)+1)=i+1:=wrO;rw[Ex.aA]at hn hc;simp[SZ,hi,hn,hc,w2,show ¬ szI l left (i+1)<0 by omega]
 ·have hsl2:dZ left (Ex.aM l)=-1:=by
   have hm:=NM l (j+1);have hbad:¬ 0≤szI l left (j+1):=hbad;obtain⟨a,h3,_,_,_⟩:=hpre j hj
   have hrest:Ex.aM (l.take (j+1))+(l.length-(j+1))≤Ex.aM l:=by
    have e1:Ex.aM l=Ex.aM (l.take (j+1))+Ex.aM (l.drop (j+1)):=by
     have key:∀ (n:Nat) (l:List Ex),Ex.aM l=Ex.aM (l.take n)+Ex.aM (l.drop n):=by
      intro n
      induction n with
      | zero=>intro l;simp[Ex.aM]
      | succ n ih=>intro l;cases l with
       | nil=>simp[Ex.aM]
       | cons b l=>simp only[yL,zC6,Ex.aM];have:=ih l;omega
     exact key _ _
    have e2:=Ex.bP (l.drop (j+1));simp at e2;omega
   unfold dZ;unfold szI at hbad;rw[if_neg (by omega)]
  rw[hsl2,aT (SZ l left) j (by simp[SZ,szI,Ex.aM])]
  ·rw[aG]
   have hs:0≤szI l left j:=by
    cases j with
    | zero=>unfold szI;simp[Ex.aM];omega
    | succ j=>exact hlt j (by omega)
   obtain⟨a,hn,hc⟩:=hround j hj hs;have hbad:¬ 0≤szI l left (j+1):=hbad;rw[if_neg hbad]at hc;rw[Ex.aA]at hn hc;simp[SZ,hj,hn,hc]
  ·intro i hi
   have hs:0≤szI l left i:=by
    cases i with
    | zero=>unfold szI;simp[Ex.aM];omega
    | succ i=>exact hlt i (by omega)
   obtain⟨a,hn,hc⟩:=hround i (by omega) hs;have hs1:0≤szI l left (i+1):=hlt i hi;rw[if_pos hs1]at hc;have w2:IntKind.i64.wrap ((i:Int)+1)=i+1:=wrO;rw[Ex.aA]at hn hc;simp[SZ,show i<l.length by omega,hn,hc,w2,show ¬ szI l left (i+1)<0 by omega]
set_option maxHeartbeats 2000000
theorem AZ7:∀ (e:Ex),e.fat→∀ left:Int,0≤left→left<1000000000→aI C0 82 [.i (.agg e.cells), .int left] []=some (.int (dZ left (Ex.aM e.kids)),[]):=by
 intro e
 induction e using Ex.ind with
 | h k c v ks ih =>
  intro hf left h0 h1;have hf':=(Ex.sI _).1 hf;exact AUP (Z5 h0 h1 hf'.1 fun a ha=>ih a ha (hf'.2 a ha))
theorem AUN (l:List Ex) (hl:l.length<9223372036854775808) (hf:∀ a∈l,a.fat) (left:Int) (h0:0≤left) (h1:left<1000000000):aI C0 48 [.i (.isl (Ex.aB l)), .int left] []=some (.int (dZ left (Ex.aM l)),[]) :=
 Z5 h0 h1 hl fun a ha=>AZ7 a (hf a ha)
theorem AMP (v:Val):aI C0 124 [.i (.agg [.bool v.null, .int v.n]), .i (.agg [.bool v.null, .int v.n])] []=some (.bool true,[]):=by
 rw[aF rfl Tryz.func124 rfl rfl];simp
theorem AX6 {e:Ex} (h:aI C0 55 [.i (.isl (Ex.aB e.kids)), .i (.isl (Ex.aB e.kids))] []=some (.bool true,[])):aI C0 87 [.i (.agg e.cells), .i (.agg e.cells)] []=some (.bool true,[]):=by
 rw[aF rfl Tryz.func87 rfl rfl,Ex.aA];have hv:=AMP e.val;simp[hv,h]
def EQ (l:List Ex) (i:Nat):AS :=
 { env:=[(0, .i (.isl (Ex.aB l))),(1, .i (.isl (Ex.aB l))),(4, .bool false),(5, .int i),(10, .bool false),(14,jk i (.bool true)),(26,jk i (.bool false))],st:=[] }
theorem AP0 {l:List Ex} (hl:l.length<9223372036854775808) (ih:∀ a∈l,aI C0 87 [.i (.agg a.cells), .i (.agg a.cells)] []=some (.bool true,[])):aI C0 55 [.i (.isl (Ex.aB l)), .i (.isl (Ex.aB l))] []=some (.bool true,[]):=by
 rw[aF rfl Tryz.func55 rfl rfl];simp;rw[aT (EQ l) l.length (by simp[EQ])]
 ·rw[aG];simp[EQ]
 ·intro i hi;have h3:=zX hi;have hc:=ih _ (zU h3);have r2:=Ex.aP h3;generalize l[i]=a at h3 hc r2;have w2:IntKind.i64.wrap ((i:Int)+1)=i+1:=wrO;rw[Ex.aA]at hc r2;simp[EQ,hi,r2,hc,w2]
theorem AMR:∀ (e:Ex),e.fat→aI C0 87 [.i (.agg e.cells), .i (.agg e.cells)] []=some (.bool true,[]):=by
 intro e
 induction e using Ex.ind with
 | h k c v ks ih =>
  intro hf;have hf':=(Ex.sI _).1 hf;exact AX6 (AP0 hf'.1 fun a ha=>ih a ha (hf'.2 a ha))
theorem AMQ (l:List Ex) (hl:l.length<9223372036854775808) (hf:∀ a∈l,a.fat):aI C0 55 [.i (.isl (Ex.aB l)), .i (.isl (Ex.aB l))] []=some (.bool true,[]):=AP0 hl fun a ha=>AMR a (hf a ha)
def HD (l:List Ex) (k:Int) (i:Nat):AS :=
 { env:=[(0, .i (.isl (Ex.aB (Ex.lF k l)))),(1, .int (k+4*(Ex.aM (l.take i):Nat))),(4, .int 0),(5, .int i),(9,jk i (.bool true)),(18,jk i (.bool false)),(27,jk i (.bool false)),(39,jk i (.bool false)),(49,jk i (.bool false)),(60,jk i (.bool false))],st:=[] }
theorem AD2 {l:List Ex} {k:Int} (hk:0≤k) (hb:k+4*(Ex.aM l:Nat)<1000000000000) (ih:∀ a∈l,∀ k:Int,0≤k→k+4*(Ex.aM a.kids:Nat)<1000000000000→aI C0 75 [.i (.isl (Ex.aB (Ex.lF k a.kids))), .int k] []=some (.int (k+4*(Ex.aM a.kids:Nat)),[])) :
 aI C0 75 [.i (.isl (Ex.aB (Ex.lF k l))), .int k] []=some (.int (k+4*(Ex.aM l:Nat)),[]):=by
 rw[aF rfl Tryz.func75 rfl rfl];have hlen:=Ex.GU l k;have hsl:=Ex.bP l;simp;rw[aT (HD l k) l.length (by simp[HD,Ex.aM])]
 ·rw[aG];have hT:l.take l.length=l:=zZ (by simp);simp[HD,hlen,hT]
 ·intro i hi;have h3:=zX hi;have r2:=Ex.aP (Ex.UE l k h3);have hz:=JR l h3;have hmono:=NM l (i+1);have hm:=zU h3;rw[Ex.size_eq]at hz;generalize hq:k+4*((Ex.aM (l.take i):Nat):Int)=q at r2;have hc:=ih _ hm (q+1+1+1+1) (by omega) (by omega);generalize l[i]=a at h3 r2 hc hz;rw[Ex.KQ]at r2;have w2:IntKind.i64.wrap ((i:Int)+1)=i+1:=wrO;have w3:IntKind.i64.wrap (q+1)=q+1:=wrO;have w4:IntKind.i64.wrap (q+1+1)=q+1+1:=wrO;have w5:IntKind.i64.wrap (q+1+1+1)=q+1+1+1:=wrO;have w6:IntKind.i64.wrap (q+1+1+1+1)=q+1+1+1+1:=wrO;have hn:k+4*((Ex.aM (l.take (i+1)):Nat):Int)=q+1+1+1+1+4*(Ex.aM a.kids:Nat):=by rw[hz];push_cast;omega
  have hneg:¬ q+1+1+1+1+4*((Ex.aM a.kids:Nat):Int)<0:=by omega
  simp[HD,hlen,hi,r2,hc,hq,hn,w2,w3,w4,w5,w6,hneg]
theorem AME:∀ (e:Ex) (k:Int),0≤k→k+4*(Ex.aM e.kids:Nat)<1000000000000→aI C0 75 [.i (.isl (Ex.aB (Ex.lF k e.kids))), .int k] []=some (.int (k+4*(Ex.aM e.kids:Nat)),[]):=by
 intro e
 induction e using Ex.ind with
 | h k c v ks ih =>
  intro k hk hb;exact AD2 hk hb ih
end Go.Proofs.YtjdfjgmebalaaaaGreat
namespace Go.Av
mutual
def Pn.fat:Pn→Prop
 | .mk _ _ es cs ks=>es.length<9223372036854775808∧(∀ e∈es,e.fat)∧cs.length<9223372036854775808∧ks.length<9223372036854775808∧Pn.AI2 ks
def Pn.AI2:List Pn→Prop
 | []=>True
 | p::ps=>p.fat∧Pn.AI2 ps
end
theorem Pn.DJ:∀ (l:List Pn),Pn.AI2 l↔∀ p∈l,p.fat
 | []=>by simp[Pn.AI2]
 | p::ps=>by simp[Pn.AI2,Pn.DJ ps]
theorem Pn.sI (p:Pn):p.fat↔p.exprs.length<9223372036854775808∧(∀ e∈p.exprs,e.fat)∧p.cols.length<9223372036854775808∧p.kids.length<9223372036854775808∧∀ a∈p.kids,a.fat:=by
 cases p;simp[Pn.fat,Pn.DJ]
end Go.Av
namespace Go.Proofs.YtjdfjgmebalaaaaGreat.P
open Go Go.Av
set_option maxRecDepth 4000
set_option maxHeartbeats 4000000
def TIX (l:List Int) (i:Nat):AS :=
 { env:=[(0, .i (.isl (aD l))),(2, .nils),(3, .osl 0 1 0 l.length),(4, .int i),(11,jk i (.bool true))],st:=[some (.arr 1 (aD (l.take i)++List.replicate (l.length-i) [.int 0]))] }
def EIX (l:List Int) (i:Nat):AS :=
 { env:=[(0, .i (.isl (aD l))),(1, .i (.isl (aD l))),(4, .bool false),(5, .int i),(10, .bool false),(14,jk i (.bool true)),(25,jk i (.bool false))],st:=[] }
theorem AY (l:List Int) (hl:l.length<9223372036854775808):aI C0 18 [.i (.isl (aD l)), .i (.isl (aD l))] []=some (.bool true,[]):=by
 rw[aF rfl Tryz.func18 rfl rfl];simp;rw[aT (EIX l) l.length (by simp[EIX])]
 ·rw[aG];simp[EIX]
 ·intro i hi;have h3:=zX hi;have r2:=bK h3;generalize l[i]=a at h3 r2;have w2:IntKind.i64.wrap ((i:Int)+1)=i+1:=wrO;simp[EIX,hi,r2,w2]
theorem AI6 {p:Pn} (h1:aI C0 55 [.i (.isl (Ex.aB p.exprs)), .i (.isl (Ex.aB p.exprs))] []=some (.bool true,[])) (h2:aI C0 18 [.i (.isl (aD p.cols)), .i (.isl (aD p.cols))] []=some (.bool true,[])) (h3:aI C0 56 [.i (.isl (Pn.aB p.kids)), .i (.isl (Pn.aB p.kids))] []=some (.bool true,[])) :
 aI C0 17 [.i (.agg p.cells), .i (.agg p.cells)] []=some (.bool true,[]):=by
 rw[aF rfl Tryz.func17 rfl rfl,Pn.aA];simp[h1,h2,h3]
def EPS (l:List Pn) (i:Nat):AS :=
 { env:=[(0, .i (.isl (Pn.aB l))),(1, .i (.isl (Pn.aB l))),(4, .bool false),(5, .int i),(10, .bool false),(14,jk i (.bool true)),(26,jk i (.bool false))],st:=[] }
theorem ADC {l:List Pn} (hl:l.length<9223372036854775808) (ih:∀ a∈l,aI C0 17 [.i (.agg a.cells), .i (.agg a.cells)] []=some (.bool true,[])):aI C0 56 [.i (.isl (Pn.aB l)), .i (.isl (Pn.aB l))] []=some (.bool true,[]):=by
 rw[aF rfl Tryz.func56 rfl rfl];simp;rw[aT (EPS l) l.length (by simp[EPS])]
 ·rw[aG];simp[EPS]
 ·intro i hi;have h3:=zX hi;have hc:=ih _ (zU h3);have r2:=Pn.aP h3;generalize l[i]=a at h3 hc r2;have w2:IntKind.i64.wrap ((i:Int)+1)=i+1:=wrO;rw[Pn.aA]at hc r2;simp[EPS,hi,r2,hc,w2]
theorem M3:∀ (p:Pn),p.fat→aI C0 17 [.i (.agg p.cells), .i (.agg p.cells)] []=some (.bool true,[]):=by
 intro p
 induction p using Pn.ind with
 | h k t es cs ks ih =>
  intro hf;obtain⟨h1,h2,h3,h4,h5⟩:=(Pn.sI _).1 hf;exact AI6 (AMQ es h1 h2) (AY cs h3) (ADC h4 fun a ha=>ih a ha (h5 a ha))
def zpw:List IV:=[.int 0, .int 0, .isl [], .isl [], .isl []]
end Go.Proofs.YtjdfjgmebalaaaaGreat.P
namespace Go.Av
mutual
def Pn.ms:Pn→Nat
 | .mk _ _ es cs ks=>1+(Ex.aM es+(cs.length+Pn.msL ks))
def Pn.msL:List Pn→Nat
 | []=>0
 | p::l=>p.ms+Pn.msL l
end
def Pn.meas (p:Pn):Nat:=Ex.aM p.exprs+(p.cols.length+Pn.msL p.kids)
theorem Pn.ALP (p:Pn):p.ms=1+p.meas:=by cases p;simp[Pn.ms,Pn.meas,Pn.exprs,Pn.cols,Pn.kids]
theorem Pn.AON (p:Pn):1≤p.ms:=by rw[Pn.ALP];omega
theorem Pn.vO:∀ (l:List Pn),l.length≤Pn.msL l
 | []=>by simp
 | p::l=>by have:=Pn.vO l;have:=Pn.AON p;simp only[zQ,Pn.msL];omega
theorem Pn.AGV:∀ {l:List Pn} {p:Pn},p∈l→p.ms≤Pn.msL l
 | a::l,p,h=>by
  simp only[Pn.msL]
  rcases zS.1 h with rfl|h
  ·omega
  ·have:=Pn.AGV h;omega
theorem AGU (l:List Pn) {i:Nat} {a:Pn} (h:l[i]?=some a):Pn.msL (l.take (i+1))=Pn.msL (l.take i)+a.ms:=by
 induction l generalizing i with
 | nil=>simp at h
 | cons b l ih =>
  cases i with
  | zero=>simp at h;subst h;simp[Pn.msL]
  | succ i=>have:=ih (i:=i) (by simpa using h);simp only[yL,Pn.msL]at this ⊢;omega
theorem ALQ (l:List Pn) (i:Nat):Pn.msL (l.take i)≤Pn.msL l:=by
 induction l generalizing i with
 | nil=>simp[Pn.msL]
 | cons b l ih =>
  cases i with
  | zero=>simp[Pn.msL]
  | succ i=>simp only[yL,Pn.msL];have:=ih i;omega
theorem GN:∀ (l:List Pn) (i:Nat),i≤l.length→i≤Pn.msL (l.take i)
 | [],i,h=>by simp at h;subst h;simp
 | a::l,0,_=>by simp
 | a::l,i+1,h=>by
  have:=GN l i (by simpa using h);have:=Pn.AON a;simp only[yL,Pn.msL];omega
theorem Pn.ABQ:∀ (p:Pn),p.meas<100000000→p.thin:=by
 intro p
 induction p using Pn.ind with
 | h k t es cs ks ih =>
  intro h;simp only[Pn.meas,Pn.exprs,Pn.cols,Pn.kids]at h;have h1:=Ex.bP es;have h2:=Pn.vO ks;refine(Pn.bO _).2 ⟨by simp only[Pn.exprs];omega,fun e he=>Ex.fZ e (by have:=Ex.jF (show e∈es from he);omega),by simp only[Pn.cols];omega,by simp only[Pn.kids];omega,fun a ha=>ih a ha ?_⟩;have h3:=Pn.AGV (show a∈ks from ha);rw[Pn.ALP]at h3;omega
theorem UI {left:Int} {a b:Nat} (h:0≤dZ left a):dZ (dZ left a) b=dZ left (a+b):=by
 unfold dZ at h ⊢;by_cases ha:(a:Int)≤left
 ·rw[if_pos ha]at h ⊢;by_cases hb:(b:Int)≤left-a
  ·rw[if_pos hb,if_pos (by omega)];omega
  ·rw[if_neg hb,if_neg (by omega)]
 ·rw[if_neg ha]at h;omega
theorem L6 {left:Int} {a:Nat} (h:dZ left a<0) (b:Nat):dZ left a=-1∧dZ left (a+b)=-1:=by
 unfold dZ at h ⊢;by_cases ha:(a:Int)≤left
 ·rw[if_pos ha]at h;omega
 ·rw[if_neg ha,if_neg (by omega)];exact⟨rfl,rfl⟩
theorem AA3 {left:Int} {a:Nat} (h:0≤left):dZ left a≤left:=by
 unfold dZ;split<;>omega
end Go.Av
namespace Go.Proofs.YtjdfjgmebalaaaaGreat.P
open Go Go.Av
set_option maxRecDepth 4000
set_option maxHeartbeats 2000000
theorem AKN (l:List Int) (hl:l.length<9223372036854775808) (left:Int) (h0:0≤left) (h1:left<1000000000):aI C0 49 [.i (.isl (aD l)), .int left] []=some (.int (dZ left l.length),[]):=by
 rw[aF rfl Tryz.func49 rfl rfl];have w1:IntKind.i64.wrap (left-l.length)=left-l.length:=wrO;by_cases hc:left-l.length<0
 ·have:¬ ((l.length:Nat):Int)≤left:=by omega
  simp[w1,hc,dZ,this]
 ·have:((l.length:Nat):Int)≤left:=by omega
  simp[w1,hc,dZ,this]
theorem AUO {p:Pn} {left:Int} (h1:aI C0 48 [.i (.isl (Ex.aB p.exprs)), .int left] []=some (.int (dZ left (Ex.aM p.exprs)),[]))
 (h2:0≤dZ left (Ex.aM p.exprs)→aI C0 49 [.i (.isl (aD p.cols)), .int (dZ left (Ex.aM p.exprs))] []=some (.int (dZ left (Ex.aM p.exprs+p.cols.length)),[]))
 (h3:0≤dZ left (Ex.aM p.exprs+p.cols.length)→aI C0 50 [.i (.isl (Pn.aB p.kids)), .int (dZ left (Ex.aM p.exprs+p.cols.length))] []=some (.int (dZ left (Ex.aM p.exprs+p.cols.length+Pn.msL p.kids)),[])) :
 aI C0 10 [.i (.agg p.cells), .int left] []=some (.int (dZ left p.meas),[]):=by
 rw[aF rfl Tryz.func10 rfl rfl,Pn.aA];have hm:p.meas=Ex.aM p.exprs+p.cols.length+Pn.msL p.kids:=by unfold Pn.meas;omega
 rw[hm];by_cases c1:dZ left (Ex.aM p.exprs)<0
 ·obtain⟨e1,e2⟩:=L6 c1 (p.cols.length+Pn.msL p.kids);rw[← Nat.add_assoc]at e2;simp[h1,c1,e2]
 ·have h2:=h2 (by omega);by_cases c2:dZ left (Ex.aM p.exprs+p.cols.length)<0
  ·obtain⟨e1,e2⟩:=L6 c2 (Pn.msL p.kids);simp[h1,c1,h2,c2,e2]
  ·have h3:=h3 (by omega);by_cases c3:dZ left (Ex.aM p.exprs+p.cols.length+Pn.msL p.kids)<0
   ·obtain⟨e1,e2⟩:=L6 c3 0;simp[h1,c1,h2,c2,h3,c3,e1]
   ·simp[h1,c1,h2,c2,h3,c3]
def szJ (l:List Pn) (left:Int) (i:Nat):Int:=left-l.length-(Pn.msL (l.take i)-i)
def SZP (l:List Pn) (left:Int) (i:Nat):AS :=
 { env:=[(0, .i (.isl (Pn.aB l))),(1, .int (szJ l left i)),(4, .int 0),(5, .int i),(11, .bool false),(15,jk i (.bool true)),(25,jk i (.bool false))],st:=[] }
theorem AFB {l:List Pn} {left:Int} (h0:0≤left) (h1:left<1000000000) (hl:l.length<9223372036854775808)
 (ih:∀ a∈l,∀ left:Int,0≤left→left<1000000000→aI C0 10 [.i (.agg a.cells), .int left] []=some (.int (dZ left (a.meas)),[])) :
 aI C0 50 [.i (.isl (Pn.aB l)), .int left] []=some (.int (dZ left (Pn.msL l)),[]):=by
 rw[aF rfl Tryz.func50 rfl rfl];have w1:IntKind.i64.wrap (left-l.length)=left-l.length:=wrO;have hsl:=Pn.vO l;by_cases hc:left-l.length<0
 ·have:¬ ((Pn.msL l:Nat):Int)≤left:=by omega
  simp[w1,hc,dZ,this]
 simp[w1,hc]
 have hpre:∀ i,i<l.length→∃ a,l[i]?=some a∧a∈l∧Pn.msL (l.take (i+1))=Pn.msL (l.take i)+(1+a.meas)∧fU (Pn.aB l) i=some a.cells:=by
  intro i hi;have h3:=zX hi;refine⟨_,h3,zU h3,?_,Pn.aP h3⟩;rw[AGU l h3,Pn.ALP]
 have hround:∀ i,i<l.length→0≤szJ l left i→∃ a:Pn,fU (Pn.aB l) i=some a.cells∧aI C0 10 [.i (.agg a.cells), .int (szJ l left i)] []=some (.int (if 0≤szJ l left (i+1)then szJ l left (i+1)else -1),[]):=by
  intro i hi hs;obtain⟨a,h3,hm,hz,hn⟩:=hpre i hi;have hti:=GN l i (by omega);refine⟨a,hn,?_⟩;rw[ih a hm _ hs (by unfold szJ;omega)];congr 2;unfold dZ;congr 1;by_cases hle:((a.meas:Nat):Int)≤szJ l left i
  ·rw[if_pos hle,if_pos (by unfold szJ at hle ⊢;omega)];unfold szJ;omega
  ·rw[if_neg hle,if_neg (by unfold szJ at hle ⊢;omega)]
 rcases LW (fun i=>0≤szJ l left (i+1)) l.length with hall|⟨j,hj,hlt,hbad⟩
 ·rw[aT (SZP l left) l.length (by simp[SZP,szJ,Pn.msL])]
  ·rw[aG]
   have hfin:dZ left (Pn.msL l)=szJ l left l.length:=by
    have hT:l.take l.length=l:=zZ (by simp)
    have hge:0≤szJ l left l.length:=by
     cases hn:l.length with
     | zero=>unfold szJ;rw[hn];simp[Pn.msL];omega
     | succ n=>exact hn ▸ hall n (by omega)
    unfold dZ;unfold szJ at hge ⊢;rw[hT]at hge ⊢;rw[if_pos (by omega)];omega
   rw[hfin];simp[SZP]
  ·intro i hi
   have hs:0≤szJ l left i:=by
    cases i with
    | zero=>unfold szJ;simp[Pn.msL];omega
    | succ i=>exact hall i (by omega)
   obtain⟨a,hn,hc⟩:=hround i hi hs;have hs1:=hall i hi;have hs1:0≤szJ l left (i+1):=hs1;rw[if_pos hs1]at hc;have w2:IntKind.i64.wrap ((i:Int)+1)=i+1:=wrO;rw[Pn.aA]at hn hc;simp[SZP,hi,hn,hc,w2,show ¬ szJ l left (i+1)<0 by omega]
 ·have hsl2:dZ left (Pn.msL l)=-1:=by
   have hm:=ALQ l (j+1);have hbad:¬ 0≤szJ l left (j+1):=hbad;obtain⟨a,h3,_,_,_⟩:=hpre j hj
   have hrest:Pn.msL (l.take (j+1))+(l.length-(j+1))≤Pn.msL l:=by
    have e1:Pn.msL l=Pn.msL (l.take (j+1))+Pn.msL (l.drop (j+1)):=by
     have key:∀ (n:Nat) (l:List Pn),Pn.msL l=Pn.msL (l.take n)+Pn.msL (l.drop n):=by
      intro n
      induction n with
      | zero=>intro l;simp[Pn.msL]
      | succ n ih=>intro l;cases l with
       | nil=>simp[Pn.msL]
       | cons b l=>simp only[yL,zC6,Pn.msL];have:=ih l;omega
     exact key _ _
    have e2:=Pn.vO (l.drop (j+1));simp at e2;omega
   unfold dZ;unfold szJ at hbad;rw[if_neg (by omega)]
  rw[hsl2,aT (SZP l left) j (by simp[SZP,szJ,Pn.msL])]
  ·rw[aG]
   have hs:0≤szJ l left j:=by
    cases j with
    | zero=>unfold szJ;simp[Pn.msL];omega
    | succ j=>exact hlt j (by omega)
   obtain⟨a,hn,hc⟩:=hround j hj hs;have hbad:¬ 0≤szJ l left (j+1):=hbad;rw[if_neg hbad]at hc;rw[Pn.aA]at hn hc;simp[SZP,hj,hn,hc]
  ·intro i hi
   have hs:0≤szJ l left i:=by
    cases i with
    | zero=>unfold szJ;simp[Pn.msL];omega
    | succ i=>exact hlt i (by omega)
   obtain⟨a,hn,hc⟩:=hround i (by omega) hs;have hs1:0≤szJ l left (i+1):=hlt i hi;rw[if_pos hs1]at hc;have w2:IntKind.i64.wrap ((i:Int)+1)=i+1:=wrO;rw[Pn.aA]at hn hc;simp[SZP,show i<l.length by omega,hn,hc,w2,show ¬ szJ l left (i+1)<0 by omega]
theorem AFA:∀ (p:Pn),p.fat→∀ left:Int,0≤left→left<1000000000→aI C0 10 [.i (.agg p.cells), .int left] []=some (.int (dZ left p.meas),[]):=by
 intro p
 induction p using Pn.ind with
 | h k t es cs ks ih =>
  intro hf left h0 h1;obtain⟨f1,f2,f3,f4,f5⟩:=(Pn.sI _).1 hf;refine AUO (AUN _ f1 f2 left h0 h1) (fun h=>?_) fun h=>?_
  ·rw[AKN _ f3 _ h (by have:=AA3 (a:=Ex.aM es) h0;simp only[Pn.exprs];omega),UI h]
  ·rw[AFB h (by have:=AA3 (a:=Ex.aM es+cs.length) h0;simp only[Pn.exprs,Pn.cols];omega) f4 fun a ha left h0 h1=>ih a ha (f5 a ha) left h0 h1,UI h]
end Go.Proofs.YtjdfjgmebalaaaaGreat.P
namespace Go.Av.Mk
open Go Go.Av
theorem II {W n i:Nat} {us V:List Value} (hi:i<n) (hu:W*n≤us.length) (hV:V.length=W):(us.take (W*i)++V++us.drop (W*(i+1))).take (W*n)=us.take (W*i)++V++(us.take (W*n)).drop (W*(i+1)):=by
 have m1:W*(i+1)=W*i+W:=by rw[zB];omega
 have m2:W*(i+1)≤W*n:=zC W (by omega);have hl:(us.take (W*i)++V).length=W*(i+1):=by simp;omega
 rw[xO,hl,zZ (by rw[hl];omega),xY]
end Go.Av.Mk
namespace Go.Proofs.YtjdfjgmebalaaaaGreat.P
open Go Go.Av Go.Av.Mk
set_option maxRecDepth 4000
set_option maxHeartbeats 1000000
theorem AGL:∃ c0 c1 cc body c3 cend,MLoop C0 30 1 19 (GS 30) Tryz.f30 c0 c1 cc body c3 cend∧∀ n:Int,WB C0 ATH ATG AOM 1 19 body n:=by
 refine⟨_,_,_,_,_,_,{ func:=Tryz.func30,code:=rfl,ntmps:=rfl,big:=by omega,results:=rfl,ok0:=⟨by kernel_rfl,rfl⟩,ok1:=⟨by kernel_rfl,rfl⟩,okc:=⟨by kernel_rfl,rfl⟩,ok3:=⟨by kernel_rfl,rfl⟩,oke:=⟨by kernel_rfl,rfl⟩,x0:=?_,x1:=?_,xc:=?_,xo:=?_,x3:=?_,xe:=?_,xf:=?_,nil:=?_ },?_⟩
 ·intro n R q;simp[MS]
 ·intro n R q;simp[MS]
 ·intro n i R q hi;simp[MS,hi]
 ·intro n R q;simp[MS]
 ·intro n i R q hi;have w6:IntKind.i64.wrap ((i:Int)+1)=i+1:=wrO;simp[MS,w6]
 ·intro n R q;simp[MS]
 ·intro n R q;simp[MS]
 ·intro k;rw[aF rfl Tryz.func30 rfl rfl];simp;rw[aG];simp
 ·intro x b N n i us vs q F a w hin g hvs hT hnd hbF h0 h1;have hlen:=g.len;have hfit:=g.fit;have h1:q+1<1000000000000:=h1
  cases hT with
  | @lit v _ vs' _ ho hT =>
   cases hT
   have hR:=jR 1 n us i hin;rw[hvs]at hR;have hset:=qF 1 n us [.int .i64 q] i hin (by omega) rfl;simp only[yS,zC3]at hR hset;have w2:IntKind.i64.wrap (q+1)=q+1:=wrO;generalize hRR:rowsOf 1 n us=R at hR hset;refine wp_mono (AMO bH (G:=GS 30) (R':=R.set i [.int q]) (q':=q+1) (j9:=.junk) g hRR (by kernel_rfl) rfl (by simp[MS,hin,hR,w2]) hset) ?_;rintro e a' w' ⟨rfl,us',g',e',f'⟩;refine⟨rfl,us',[.int .i64 q],g',?_, .lit rfl .nil,f'⟩;rw[e'];exact II hin (by omega) rfl
theorem AGK:vD C0 ATH ATG AOM 30:=by
 obtain⟨c0,c1,cc,body,c3,cend,L,hR⟩:=AGL;exact vD.of bH (by decide) L (fun _=>rfl) (by omega) (fun _=>zP _) hR
theorem AaU {w:World} {a:Ex} {vs:List Value} {F:List Nat} (h:TCells w a.cells vs F) :
 ∃ u,vs=[.int .i64 a.kind, .int .i64 a.col, .bool a.val.null, .int .i64 a.val.n,u]∧TCells w [.isl (Ex.aB a.kids)] [u] F:=by
 rw[Ex.aA]at h
 cases h with
 | @lit _ _ v1 _ o1 h1 =>
  cases h1 with
  | @lit _ _ v2 _ o2 h2 =>
   cases h2 with
   | @lit _ _ v3 _ o3 h3 =>
    cases h3 with
    | @lit _ _ v4 _ o4 h4 =>
     have hl:=h4.length
     cases v4 with
     | nil=>simp at hl
     | cons u r =>
      cases r with
      | cons=>simp at hl
      | nil=>exact⟨u,rfl,h4⟩
theorem AMN:∃ c0 c1 cc body c3 cend,MLoop C0 72 5 52 (GS 72) Tryz.f72 c0 c1 cc body c3 cend∧∀ x:Ex,WB C0 Ex.cells Ex.wB exZ 5 52 body x:=by
 have hl:∃ c0 c1 cc body c3 cend,MLoop C0 72 5 52 (GS 72) Tryz.f72 c0 c1 cc body c3 cend∧((∀ x:Ex,(∀ (w:World) (v:Value) (F:List Nat) (k:Int),TCells w [.isl (Ex.aB x.kids)] [v] F→F.Nodup→0≤k→k+(bM exZ x.kids:Nat)<1000000000000→Calls Tryz.prog 72 #[v, .int .i64 k] w (ANL Ex.cells Ex.wB exZ w v F k x.kids))→WB C0 Ex.cells Ex.wB exZ 5 52 body x)):=by
  refine⟨_,_,_,_,_,_,{ func:=Tryz.func72,code:=rfl,ntmps:=rfl,big:=by omega,results:=rfl,ok0:=⟨by kernel_rfl,rfl⟩,ok1:=⟨by kernel_rfl,rfl⟩,okc:=⟨by kernel_rfl,rfl⟩,ok3:=⟨by kernel_rfl,rfl⟩,oke:=⟨by kernel_rfl,rfl⟩,x0:=?_,x1:=?_,xc:=?_,xo:=?_,x3:=?_,xe:=?_,xf:=?_,nil:=?_ },?_⟩
  ·intro n R q;simp[MS]
  ·intro n R q;simp[MS]
  ·intro n i R q hi;simp[MS,hi]
  ·intro n R q;simp[MS]
  ·intro n i R q hi;have w6:IntKind.i64.wrap ((i:Int)+1)=i+1:=wrO;simp[MS,w6]
  ·intro n R q;simp[MS]
  ·intro n R q;simp[MS]
  ·intro k;rw[aF rfl Tryz.func72 rfl rfl];simp;rw[aG];simp
  ·intro x ih b N n i us vs q F a w hin g hvs hT hnd hbF h0 h1;have hlen:=g.len;have hfit:=g.fit;have hsz:exZ x=4+bM exZ x.kids:=by rw[vJ];unfold exZ;rw[Ex.size_eq];omega
   rw[hsz]at h1;obtain⟨u,rfl,hu⟩:=AaU hT;have hR:=jR 5 n us i hin;rw[hvs]at hR;have hset:=qF 5 n us [.int .i64 q, .int .i64 (q+1), .bool ((q+1+1).tmod 3 == 0), .int .i64 (q+1+1+1),u] i hin (by omega) rfl;simp only[yS,zC3]at hR hset;have w2:IntKind.i64.wrap (q+1)=q+1:=wrO;have w3:IntKind.i64.wrap (q+1+1)=q+1+1:=wrO;have w4:IntKind.i64.wrap (q+1+1+1)=q+1+1+1:=wrO;have w5:IntKind.i64.wrap (q+1+1+1+1)=q+1+1+1+1:=wrO;have rr:=g.to;generalize hRR:rowsOf 5 n us=R at hR hset rr;have hRl:R.length=n:=by rw[← hRR,fE]
   have hRs:∀ r:List IV,fU (R.set i r) i=some r:=fun r=>by rw[fI,zD5 (by omega)]
   refine wp_seq (wp_mono (oN bH (oI b N) (G:=GS 72) (S':=MS 5 n (R.set i [.int q, .int x.col, .bool x.val.null, .int x.val.n, .lit u]) q .junk (.int i) .junk) (e:=.normal) (by kernel_rfl) (by simp[MS,hin,hR,hRs,w2,w3,w4,w5]) rr) ?_);rintro _ x1 y1 ⟨rfl,r1⟩;refine wp_seq (wp_mono (oN bH (oI b N) (G:=GS 72) (S':=MS 5 n (R.set i [.int q, .int x.col, .bool x.val.null, .int x.val.n, .lit u]) (q+1) .junk (.int i) .junk) (e:=.normal) (by kernel_rfl) (by simp[MS,hin,hR,hRs,w2,w3,w4,w5]) r1) ?_);rintro _ x2 y2 ⟨rfl,r2⟩;refine wp_seq (wp_mono (oN bH (oI b N) (G:=GS 72) (S':=MS 5 n (R.set i [.int q, .int (q+1), .bool x.val.null, .int x.val.n, .lit u]) (q+1) .junk (.int i) .junk) (e:=.normal) (by kernel_rfl) (by simp[MS,hin,hR,hRs,w2,w3,w4,w5]) r2) ?_);rintro _ x3 y3 ⟨rfl,r3⟩;refine wp_seq (wp_mono (oN bH (oI b N) (G:=GS 72) (S':=MS 5 n (R.set i [.int q, .int (q+1), .bool x.val.null, .int x.val.n, .lit u]) (q+1+1) .junk (.int i) .junk) (e:=.normal) (by kernel_rfl) (by simp[MS,hin,hR,hRs,w2,w3,w4,w5]) r3) ?_);rintro _ x4 y4 ⟨rfl,r4⟩;refine wp_seq (wp_mono (oN bH (oI b N) (G:=GS 72) (S':=MS 5 n (R.set i [.int q, .int (q+1), .bool ((q+1+1).tmod 3 == 0), .int x.val.n, .lit u]) (q+1+1) .junk (.int i) .junk) (e:=.normal) (by kernel_rfl) (by simp[MS,hin,hR,hRs,w2,w3,w4,w5]) r4) ?_);rintro _ x5 y5 ⟨rfl,r5⟩;refine wp_seq (wp_mono (oN bH (oI b N) (G:=GS 72) (S':=MS 5 n (R.set i [.int q, .int (q+1), .bool ((q+1+1).tmod 3 == 0), .int x.val.n, .lit u]) (q+1+1+1) .junk (.int i) .junk) (e:=.normal) (by kernel_rfl) (by simp[MS,hin,hR,hRs,w2,w3,w4,w5]) r5) ?_);rintro _ x6 y6 ⟨rfl,r6⟩;refine wp_seq (wp_mono (oN bH (oI b N) (G:=GS 72) (S':=MS 5 n (R.set i [.int q, .int (q+1), .bool ((q+1+1).tmod 3 == 0), .int (q+1+1+1), .lit u]) (q+1+1+1) .junk (.int i) .junk) (e:=.normal) (by kernel_rfl) (by simp[MS,hin,hR,hRs,w2,w3,w4,w5]) r6) ?_);rintro _ x7 y7 ⟨rfl,r7⟩;refine wp_seq (wp_mono (oN bH (oI b N) (G:=GS 72) (S':=MS 5 n (R.set i [.int q, .int (q+1), .bool ((q+1+1).tmod 3 == 0), .int (q+1+1+1), .lit u]) (q+1+1+1+1) .junk (.int i) .junk) (e:=.normal) (by kernel_rfl) (by simp[MS,hin,hR,hRs,w2,w3,w4,w5]) r7) ?_);rintro _ x8 y8 ⟨rfl,r8⟩;obtain⟨us8,g8,e8,f8⟩:=g.of (vs:=us.take (5*i)++[.int .i64 q, .int .i64 (q+1), .bool ((q+1+1).tmod 3 == 0), .int .i64 (q+1+1+1),u]++us.drop (5*(i+1))) (q':=q+1+1+1+1) (i':=i) r8.1 rfl rfl rfl (by rw[← hset];rfl);rw[II (W:=5) (us:=us) (V:=[.int .i64 q, .int .i64 (q+1), .bool ((q+1+1).tmod 3 == 0), .int .i64 (q+1+1+1),u]) hin (by omega) rfl]at e8;have hR8:=jR 5 n us8 i hin
   have hrow8:(us8.drop (5*i)).take 5=[.int .i64 q, .int .i64 (q+1), .bool ((q+1+1).tmod 3 == 0), .int .i64 (q+1+1+1),u]:=by
    have:(us8.drop (5*i)).take 5=((us8.take (5*n)).drop (5*i)).take 5:=by rw[xY,zG,yN (by omega)]
    rw[this,e8,yY,zA2 (by simp;omega)];rfl
   rw[hrow8]at hR8;simp only[yS,zC3]at hR8
   refine wp_mono (DU bH (s:=bM exZ x.kids) (K:=fun _ w2=>TCells w2 [.isl ((dY Ex.wB exZ (q+1+1+1+1) x.kids).map Ex.cells)] [u] F) (u:=u) (Fu:=F) g8 (os1:=[_,_,_,_,_,_]) rfl (by kernel_rfl) (zP 1)
    (R1:=⟨upd (upd (upd (upd (upd (upd (aN (MS 5 n (rowsOf 5 n us8) (q+1+1+1+1) .junk (.int i) .junk).env) 44 (.osl 0 5 0 n)) 45 (.int i)) 46 (.ownE 0 5 i 0)) 47 (.ownE 0 5 i 4)) 48 (.i (.lit u))) 49 (.int (q+1+1+1+1)),aR (MS 5 n (rowsOf 5 n us8) (q+1+1+1+1) .junk (.int i) .junk).st,[]⟩)
    (by simp[MS,hin,hR8]) rfl rfl rfl rfl rfl rfl (by decide) (by decide) (by decide) (by decide) (by decide) Tryz.func72 (by decide) (by intro h;cases h) ?_ hbF) ?_
   ·intro w1 f1
    have hu1:TCells w1 [.isl (Ex.aB x.kids)] [u] F:=hu.mono fun f hf=>by
     have hlt:=tlt hu f hf;rw[f1.same f (zJ hlt f8.size) (by simp;intro e;subst e;exact hbF hf),f8.same f hlt (by simp;intro e;subst e;exact hbF hf)]
    refine(ih w1 u F _ hu1 hnd (by omega) (by push_cast at h1 ⊢;omega)).mono ?_;rintro en w2 ⟨p1,p2,p3,_⟩;exact⟨p1,p2,p3⟩
   ·rintro e a' w' ⟨rfl,us',g',e',w1,f1,f2,hK⟩;have hq:q+1+1+1+1+(bM exZ x.kids:Nat)=q+(exZ x:Nat):=by rw[hsz];push_cast;omega
    rw[hq]at g';refine⟨rfl,us',_,g',by rw[e',e8],?_,(f8.sub (by simp)).trans ((f1.sub (by simp)).trans (f2.sub fun f hf=>by simp[hf]))⟩;rw[Ex.KQ,D7,Ex.bS];exact .lit rfl (.lit rfl (.lit rfl (.lit rfl hK)))
 obtain⟨c0,c1,cc,body,c3,cend,L,hR⟩:=hl;refine⟨c0,c1,cc,body,c3,cend,L,fun x=>?_⟩
 induction x using Ex.ind with
 | h kd cl vl l ih =>
  refine hR _ fun w v F k hT hnd hk0 hk1=>?_
  simp only[Ex.kids]at hT hk1 ⊢;rw[Ex.bS]at hT;exact Q5 bH (by decide) L (fun e=>by rw[Ex.aA];rfl) (by omega) ih hT hnd hk0 hk1 (by have:=qE (sz:=exZ) (fun e=>by unfold exZ;have:=Ex.mZ e;omega) l;omega)
theorem AOY:vD C0 Ex.cells Ex.wB exZ 72:=by
 obtain⟨c0,c1,cc,body,c3,cend,L,hR⟩:=AMN;exact vD.of bH (by decide) L (fun e=>by rw[Ex.aA];rfl) (by omega) (fun e=>by unfold exZ;have:=Ex.mZ e;omega) hR
theorem one_cell {w:World} {c:IV} {cs:List IV} {vs:List Value} {F:List Nat} (h:TCells w (c::cs) vs F):∃ v r F1 F2,vs=v::r∧F=F1++F2∧TCells w [c] [v] F1∧TCells w cs r F2:=by
 have hl:=h.length
 cases vs with
 | nil=>simp at hl
 | cons v r =>
  obtain⟨F1,F2,hF,h1,h2⟩:=h.split 1;exact⟨v,r,F1,F2,rfl,hF,by simpa using h1,by simpa using h2⟩
theorem AZR {w:World} {p:Pn} {vs:List Value} {F:List Nat} (h:TCells w p.cells vs F) :
 ∃ u1 u2 u3 F1 F2 F3,vs=[.int .i64 p.kind, .int .i64 p.table,u1,u2,u3]∧F=F1++(F2++F3)∧TCells w [.isl (Ex.aB p.exprs)] [u1] F1∧TCells w [.isl (aD p.cols)] [u2] F2∧TCells w [.isl (Pn.aB p.kids)] [u3] F3:=by
 rw[Pn.aA]at h
 cases h with
 | @lit _ _ v1 _ o1 h1 =>
  cases h1 with
  | @lit _ _ v2 _ o2 h2 =>
   obtain⟨u1,r1,F1,G1,rfl,rfl,k1,h3⟩:=one_cell h2;obtain⟨u2,r2,F2,G2,rfl,rfl,k2,h4⟩:=one_cell h3;obtain⟨u3,r3,F3,G3,rfl,rfl,k3,h5⟩:=one_cell h4
   cases h5
   exact⟨u1,u2,u3,F1,F2,F3,rfl,by simp,k1,k2,k3⟩
theorem ALJ:∃ c0 c1 cc body c3 cend,MLoop C0 73 5 48 (GS 73) Tryz.f73 c0 c1 cc body c3 cend∧∀ x:Pn,WB C0 Pn.cells Pn.tO Pn.mz 5 48 body x:=by
 have hl:∃ c0 c1 cc body c3 cend,MLoop C0 73 5 48 (GS 73) Tryz.f73 c0 c1 cc body c3 cend∧((∀ x:Pn,(∀ (w:World) (v:Value) (F:List Nat) (k:Int),TCells w [.isl (Pn.aB x.kids)] [v] F→F.Nodup→0≤k→k+(bM Pn.mz x.kids:Nat)<1000000000000→Calls Tryz.prog 73 #[v, .int .i64 k] w (ANL Pn.cells Pn.tO Pn.mz w v F k x.kids))→WB C0 Pn.cells Pn.tO Pn.mz 5 48 body x)):=by
  refine⟨_,_,_,_,_,_,{ func:=Tryz.func73,code:=rfl,ntmps:=rfl,big:=by omega,results:=rfl,ok0:=⟨by kernel_rfl,rfl⟩,ok1:=⟨by kernel_rfl,rfl⟩,okc:=⟨by kernel_rfl,rfl⟩,ok3:=⟨by kernel_rfl,rfl⟩,oke:=⟨by kernel_rfl,rfl⟩,x0:=?_,x1:=?_,xc:=?_,xo:=?_,x3:=?_,xe:=?_,xf:=?_,nil:=?_ },?_⟩
  ·intro n R q;simp[MS]
  ·intro n R q;simp[MS]
  ·intro n i R q hi;simp[MS,hi]
  ·intro n R q;simp[MS]
  ·intro n i R q hi;have w6:IntKind.i64.wrap ((i:Int)+1)=i+1:=wrO;simp[MS,w6]
  ·intro n R q;simp[MS]
  ·intro n R q;simp[MS]
  ·intro k;rw[aF rfl Tryz.func73 rfl rfl];simp;rw[aG];simp
  ·intro x ih b N n i us vs q F a w hin g hvs hT hnd hbF h0 h1;have hlen:=g.len;have hfit:=g.fit;have hsz:x.mz=2+(bM exZ x.exprs+(x.cols.length+bM Pn.mz x.kids)):=by rw[vJ,vH];exact Pn.AGS x
   rw[hsz]at h1;obtain⟨u1,u2,u3,F1,F2,F3,rfl,rfl,t1,t2,t3⟩:=AZR hT;have nd1:=zH.1 hnd;have nd2:=zH.1 nd1.2.1;have b1:b ∉ F1:=fun h=>hbF (by simp[h])
   have b2:b ∉ F2:=fun h=>hbF (by simp[h])
   have b3:b ∉ F3:=fun h=>hbF (by simp[h])
   have d12:∀ f∈F1,f ∉ F2:=fun f h h'=>nd1.2.2 f h f (by simp[h']) rfl
   have d13:∀ f∈F1,f ∉ F3:=fun f h h'=>nd1.2.2 f h f (by simp[h']) rfl
   have d23:∀ f∈F2,f ∉ F3:=fun f h h'=>nd2.2.2 f h f h' rfl
   have hR:=jR 5 n us i hin;rw[hvs]at hR;have hset:=qF 5 n us [.int .i64 q, .int .i64 (q+1),u1,u2,u3] i hin (by omega) rfl;simp only[yS,zC3]at hR hset;have w2:IntKind.i64.wrap (q+1)=q+1:=wrO;have w3:IntKind.i64.wrap (q+1+1)=q+1+1:=wrO;have rr:=g.to;generalize hRR:rowsOf 5 n us=R at hR hset rr;have hRl:R.length=n:=by rw[← hRR,fE]
   have hRs:∀ r:List IV,fU (R.set i r) i=some r:=fun r=>by rw[fI,zD5 (by omega)]
   refine wp_seq (wp_mono (oN bH (oI b N) (G:=GS 73) (S':=MS 5 n (R.set i [.int q, .int x.table, .lit u1, .lit u2, .lit u3]) q .junk (.int i) .junk) (e:=.normal) (by kernel_rfl) (by simp[MS,hin,hR,hRs,w2,w3]) rr) ?_);rintro _ x1 y1 ⟨rfl,r1⟩;refine wp_seq (wp_mono (oN bH (oI b N) (G:=GS 73) (S':=MS 5 n (R.set i [.int q, .int x.table, .lit u1, .lit u2, .lit u3]) (q+1) .junk (.int i) .junk) (e:=.normal) (by kernel_rfl) (by simp[MS,hin,hR,hRs,w2,w3]) r1) ?_);rintro _ x2 y2 ⟨rfl,r2⟩;refine wp_seq (wp_mono (oN bH (oI b N) (G:=GS 73) (S':=MS 5 n (R.set i [.int q, .int (q+1), .lit u1, .lit u2, .lit u3]) (q+1) .junk (.int i) .junk) (e:=.normal) (by kernel_rfl) (by simp[MS,hin,hR,hRs,w2,w3]) r2) ?_);rintro _ x3 y3 ⟨rfl,r3⟩;refine wp_seq (wp_mono (oN bH (oI b N) (G:=GS 73) (S':=MS 5 n (R.set i [.int q, .int (q+1), .lit u1, .lit u2, .lit u3]) (q+1+1) .junk (.int i) .junk) (e:=.normal) (by kernel_rfl) (by simp[MS,hin,hR,hRs,w2,w3]) r3) ?_);rintro _ x4 y4 ⟨rfl,r4⟩;obtain⟨us8,g8,e8,f8⟩:=g.of (vs:=us.take (5*i)++[.int .i64 q, .int .i64 (q+1),u1,u2,u3]++us.drop (5*(i+1))) (q':=q+1+1) (i':=i) r4.1 rfl rfl rfl (by rw[← hset];rfl);rw[II (W:=5) (us:=us) (V:=[.int .i64 q, .int .i64 (q+1),u1,u2,u3]) hin (by omega) rfl]at e8
   have rowU:∀ us9:List Value,us9.take (5*n)=us8.take (5*n)→fU (rowsOf 5 n us9) i=some [.int q, .int (q+1), .lit u1, .lit u2, .lit u3]:=by
    intro us9 e9;have hR8:=jR 5 n us9 i hin
    have hrow8:(us9.drop (5*i)).take 5=[.int .i64 q, .int .i64 (q+1),u1,u2,u3]:=by
     have:(us9.drop (5*i)).take 5=((us9.take (5*n)).drop (5*i)).take 5:=by rw[xY,zG,yN (by omega)]
     rw[this,e9,e8,yY,zA2 (by simp;omega)];rfl
    rw[hrow8]at hR8;exact hR8
   have keep:∀ {w1 w2:World} {cs:List IV} {vs:List Value} {A B:List Nat},Fr w1 w2 B→TCells w1 cs vs A→(∀ f∈A,f ∉ B)→TCells w2 cs vs A:=fun fr h hd=>h.mono fun f hf=>fr.same f (tlt h f hf) (hd f hf)
   have nb:∀ {A:List Nat},b ∉ A→∀ f∈A,f ∉ [b]:=fun h f hf hh=>h (by simp at hh;exact hh ▸ hf)
   have hR8:=rowU us8 rfl
   refine wp_seq (wp_mono (DU bH (s:=bM exZ x.exprs) (K:=fun _ w2=>TCells w2 [.isl ((dY Ex.wB exZ (q+1+1) x.exprs).map Ex.cells)] [u1] F1) (u:=u1) (Fu:=F1) g8 (os1:=[_,_,_,_,_,_]) rfl (by kernel_rfl) (zP 1)
    (R1:=⟨upd (upd (upd (upd (upd (upd (aN (MS 5 n (rowsOf 5 n us8) (q+1+1) .junk (.int i) .junk).env) 26 (.osl 0 5 0 n)) 27 (.int i)) 28 (.ownE 0 5 i 0)) 29 (.ownE 0 5 i 2)) 30 (.i (.lit u1))) 31 (.int (q+1+1)),aR (MS 5 n (rowsOf 5 n us8) (q+1+1) .junk (.int i) .junk).st,[]⟩)
    (by simp[MS,hin,hR8]) rfl rfl rfl rfl rfl rfl (by decide) (by decide) (by decide) (by decide) (by decide) Tryz.func72 (by decide) (by intro h;cases h) ?_ b1) ?_)
   ·intro w1 f1;have hu1:=keep f1 (keep f8 t1 (nb b1)) (nb b1);rw[Ex.bS]at hu1;refine(AOY x.exprs w1 u1 F1 _ hu1 nd1.1 (by omega) (by push_cast at h1 ⊢;omega)).mono ?_;rintro en w2 ⟨p1,p2,p3,_⟩;exact⟨p1,p2,p3⟩
   rintro e a9 y9 ⟨rfl,us9,g9,e9,wa,fa,fb,hK1⟩;have hR9:=rowU us9 e9;have t2a:=keep fb (keep fa (keep f8 t2 (nb b2)) (nb b2)) (fun f h h'=>d12 f h' h);have t3a:=keep fb (keep fa (keep f8 t3 (nb b3)) (nb b3)) (fun f h h'=>d13 f h' h)
   refine wp_seq (wp_mono (DU bH (s:=x.cols.length) (K:=fun _ w2=>TCells w2 [.isl ((DZ (q+1+1+(bM exZ x.exprs:Nat)) x.cols).map ATH)] [u2] F2) (u:=u2) (Fu:=F2) g9 (os1:=[_,_,_,_,_,_]) rfl (by kernel_rfl) (zP 1)
    (R1:=⟨upd (upd (upd (upd (upd (upd (aN (MS 5 n (rowsOf 5 n us9) (q+1+1+(bM exZ x.exprs:Nat)) .junk (.int i) .junk).env) 33 (.osl 0 5 0 n)) 34 (.int i)) 35 (.ownE 0 5 i 0)) 36 (.ownE 0 5 i 3)) 37 (.i (.lit u2))) 38 (.int (q+1+1+(bM exZ x.exprs:Nat))),aR (MS 5 n (rowsOf 5 n us9) (q+1+1+(bM exZ x.exprs:Nat)) .junk (.int i) .junk).st,[]⟩)
    (by simp[MS,hin,hR9]) rfl rfl rfl rfl rfl rfl (by decide) (by decide) (by decide) (by decide) (by decide) Tryz.func30 (by decide) (by intro h;cases h) ?_ b2) ?_)
   ·intro w1 f1;have hu1:=keep f1 t2a (nb b2);rw[o9]at hu1;refine(AGK x.cols w1 u2 F2 _ hu1 nd2.1 (by omega) (by rw[qD];push_cast at h1 ⊢;omega)).mono ?_;rintro en w2 ⟨p1,p2,p3,_⟩;rw[qD]at p1;exact⟨p1,p2,p3⟩
   rintro e a10 y10 ⟨rfl,us10,g10,e10,wc,fc,fd,hK2⟩;have hR10:=rowU us10 (e10.trans e9);have k1a:=keep fd (keep fc hK1 (nb b1)) (fun f h h'=>d12 f h h');have t3b:=keep fd (keep fc t3a (nb b3)) (fun f h h'=>d23 f h' h)
   refine wp_mono (DU bH (s:=bM Pn.mz x.kids) (K:=fun _ w2=>TCells w2 [.isl ((dY Pn.tO Pn.mz (q+1+1+(bM exZ x.exprs:Nat)+(x.cols.length:Nat)) x.kids).map Pn.cells)] [u3] F3) (u:=u3) (Fu:=F3) g10 (os1:=[_,_,_,_,_,_]) rfl (by kernel_rfl) (zP 1)
    (R1:=⟨upd (upd (upd (upd (upd (upd (aN (MS 5 n (rowsOf 5 n us10) (q+1+1+(bM exZ x.exprs:Nat)+(x.cols.length:Nat)) .junk (.int i) .junk).env) 40 (.osl 0 5 0 n)) 41 (.int i)) 42 (.ownE 0 5 i 0)) 43 (.ownE 0 5 i 4)) 44 (.i (.lit u3))) 45 (.int (q+1+1+(bM exZ x.exprs:Nat)+(x.cols.length:Nat))),aR (MS 5 n (rowsOf 5 n us10) (q+1+1+(bM exZ x.exprs:Nat)+(x.cols.length:Nat)) .junk (.int i) .junk).st,[]⟩)
    (by simp[MS,hin,hR10]) rfl rfl rfl rfl rfl rfl (by decide) (by decide) (by decide) (by decide) (by decide) Tryz.func73 (by decide) (by intro h;cases h) ?_ b3) ?_
   ·intro w1 f1;have hu1:=keep f1 t3b (nb b3);refine(ih w1 u3 F3 _ hu1 nd2.2.1 (by omega) (by push_cast at h1 ⊢;omega)).mono ?_;rintro en w2 ⟨p1,p2,p3,_⟩;exact⟨p1,p2,p3⟩
   rintro e a' w' ⟨rfl,us',g',e',w1,f1,f2,hK3⟩;have hq:q+1+1+(bM exZ x.exprs:Nat)+(x.cols.length:Nat)+(bM Pn.mz x.kids:Nat)=q+(x.mz:Nat):=by rw[hsz];push_cast;omega
   rw[hq]at g';have k1b:=keep f2 (keep f1 k1a (nb b1)) (fun f h h'=>d13 f h h');have k2b:=keep f2 (keep f1 hK2 (nb b2)) (fun f h h'=>d23 f h h');refine⟨rfl,us',_,g',by rw[e',e10,e9,e8],?_,(f8.sub (by simp)).trans ((fa.sub (by simp)).trans ((fb.sub fun f hf=>by simp[hf]).trans ((fc.sub (by simp)).trans ((fd.sub fun f hf=>by simp[hf]).trans ((f1.sub (by simp)).trans (f2.sub fun f hf=>by simp[hf]))))))⟩;rw[Pn.KO,D7,Ex.bS,o9,uH,Pn.bS,← vJ];exact .lit rfl (.lit rfl (k1b.append (k2b.append hK3)))
 obtain⟨c0,c1,cc,body,c3,cend,L,hR⟩:=hl;refine⟨c0,c1,cc,body,c3,cend,L,fun x=>?_⟩
 induction x using Pn.ind with
 | h k t es cs ks ih =>
  refine hR _ fun w v F k hT hnd hk0 hk1=>?_
  simp only[Pn.kids]at hT hk1 ⊢;rw[Pn.bS]at hT;exact Q5 bH (by decide) L (fun e=>by rw[Pn.aA];rfl) (by omega) ih hT hnd hk0 hk1 (by have:=qE (sz:=Pn.mz) (fun e=>by have:=Pn.AGS e;omega) ks;omega)
theorem AW7:vD C0 Pn.cells Pn.tO Pn.mz 73:=by
 obtain⟨c0,c1,cc,body,c3,cend,L,hR⟩:=ALJ;exact vD.of bH (by decide) L (fun e=>by rw[Pn.aA];rfl) (by omega) (fun e=>by have:=Pn.AGS e;omega) hR
noncomputable def AQS:FuncId→Option (List AV→StL→Option (AV×StL))
 | 84=>none
 | 52=>none
 | 14=>none
 | 13=>none
 | 53=>none
 | 35=>none
 | 15=>none
 | g=>if g=lU then none else some (aI C0 g)
def Q8:FuncId→Bool
 | 84=>true
 | 52=>true
 | 14=>true
 | 13=>true
 | 53=>true
 | 35=>true
 | 15=>true
 | g=>keepR g
noncomputable def CT:Ctx:={ P:=Tryz.prog,G:=GS,ownArgs:=dC,keepRes:=Q8,eqT:=wS,prim:=AQS,tree:=true }
@[simp] theorem ApG:CT.P=Tryz.prog:=(rfl)
@[simp] theorem ApH (f):CT.G f=GS f:=(rfl)
@[simp] theorem ApD (f):CT.ownArgs f=dC f:=(rfl)
@[simp] theorem ApE (f):CT.keepRes f=Q8 f:=(rfl)
@[simp] theorem ApF (f):CT.eqT f=wS f:=(rfl)
@[simp] theorem ApC:CT.tree=true:=(rfl)
@[simp] theorem kT1:Q8 84=true:=(rfl)
@[simp] theorem kT2:Q8 52=true:=(rfl)
@[simp] theorem kT3:Q8 14=true:=(rfl)
@[simp] theorem kT4:Q8 13=true:=(rfl)
@[simp] theorem kT5:Q8 53=true:=(rfl)
@[simp] theorem kT6:Q8 35=true:=(rfl)
@[simp] theorem kT7:Q8 15=true:=(rfl)
theorem AVX:PrimOk CT:=by
 have h0:=aS bH
 have key:∀ g q,CT.prim g=some q→g≠lU∧q=aI C0 g:=by
  intro g q h;have h:AQS g=some q:=h;unfold AQS at h;split at h<;>first|(cases h;done)|(split at h<;>first|(cases h;done)|(rename_i hy;injection h with h;exact⟨hy,h.symm⟩))
 constructor
 ·intro g args st p h;unfold bE at h
  cases hq:CT.prim g with
  | none=>rw[hq]at h;cases h
  | some q=>rw[hq]at h;obtain⟨hy,rfl⟩:=key g q hq;exact h0.name g args st p hy h
 ·intro g args st r st' h;unfold bE at h
  cases hq:CT.prim g with
  | none=>rw[hq]at h;cases h
  | some q=>rw[hq]at h;obtain⟨hy,rfl⟩:=key g q hq;exact h0.calls g args st r st' hy h
theorem AV6:SoundOk CT:=gF (C:=CT) ft nt eqS mo AVX
@[simp] theorem ct1 (args:List AV) (st:StL):aI CT 123 args st=aI C0 123 args st:=aU (C:=CT) rfl args st
theorem AUK (v:Val):aI C0 123 [.i (.agg [.bool v.null, .int v.n])] []=some (.i (.agg [.bool v.null, .int v.n]),[]):=by
 rw[aF rfl Tryz.func123 rfl rfl];simp
theorem AUE {e:Ex} (h:aI CT 52 [.i (.isl (Ex.aB e.kids))] []=some (.osl 0 5 0 e.kids.length,[some (nQ Ex.cells 5 e.kids)])):aI CT 84 [.i (.agg e.cells)] []=some (tE e 0,[some (nQ Ex.cells 5 e.kids)]):=by
 rw[aF rfl Tryz.func84 rfl rfl,Ex.aA];have hv:=AUK e.val;simp[hv,h,tE]
def TTE (l:List Ex) (i:Nat):AS :=
 { env:=[(0, .i (.isl (Ex.aB l))),(2, .nils),(3, .osl 0 5 0 l.length),(4, .int i),(11,jk i (.bool true))],st:=[some (DF Ex.cells 5 AEQ l l.length i)] }
theorem ANQ {l:List Ex} (hl:l.length<1000000000) (ih:∀ a∈l,aI CT 84 [.i (.agg a.cells)] []=some (tE a 0,[some (nQ Ex.cells 5 a.kids)])):aI CT 52 [.i (.isl (Ex.aB l))] []=some (.osl 0 5 0 l.length,[some (nQ Ex.cells 5 l)]):=by
 rw[aF rfl Tryz.func52 rfl rfl];have hb:56*(l.length:Int)≤281474976710656:=by omega
 simp[hb];rw[aT (TTE l) l.length (by simp[TTE,DF,AEQ])]
 ·rw[aG];simp[TTE,UZ]
 ·intro i hi;have h3:=zX hi;have hc:=ih _ (zU h3);have r2:=Ex.aP h3;have hput:=UY (cells:=Ex.cells) (W:=5) (z:=AEQ) (n:=l.length) h3 hi (by simp[AEQ]) (by rw[Ex.aA];simp[AEQ]) (by rw[Ex.aA];simp[uI,ACS]);generalize l[i]=a at h3 hc r2 hput;have w2:IntKind.i64.wrap ((i:Int)+1)=i+1:=wrO;rw[Ex.aA]at hc r2;simp only[Ex.aA,Ex.bS]at hput;simp[TTE,hi,r2,hc,tE,w2,hput]
theorem AUF:∀ (e:Ex),e.thin→aI CT 84 [.i (.agg e.cells)] []=some (tE e 0,[some (nQ Ex.cells 5 e.kids)]):=by
 intro e
 induction e using Ex.ind with
 | h k c v ks ih =>
  intro ht;have ht':=(Ex.bO _).1 ht;exact AUE (ANQ ht'.1 fun a ha=>ih a ha (ht'.2 a ha))
theorem AUB (l:List Ex) (hl:l.length<1000000000) (ht:∀ a∈l,a.thin):aI CT 52 [.i (.isl (Ex.aB l))] []=some (.osl 0 5 0 l.length,[some (nQ Ex.cells 5 l)]):=ANQ hl fun a ha=>AUF a (ht a ha)
theorem ANR (l:List Int) (hl:l.length<1000000000):aI CT 14 [.i (.isl (aD l))] []=some (.osl 0 1 0 l.length,[some (.arr 1 (aD l))]):=by
 rw[aF rfl Tryz.func14 rfl rfl];have hb:8*(l.length:Int)≤281474976710656:=by omega
 simp[hb];rw[aT (TIX l) l.length (by simp[TIX,aD])]
 ·rw[aG];have hT:l.take l.length=l:=zZ (by simp);simp[TIX,hT]
 ·intro i hi;have h3:=zX hi;have r2:=bK h3;generalize l[i]=a at h3 r2;have w2:IntKind.i64.wrap ((i:Int)+1)=i+1:=wrO;have hD:(aD (l.take i)).length=i:=by simp;omega
  have g1:=vS (n:=l.length) (z:=[IV.int 0]) hD hi;have g2:=vR (n:=l.length) (z:=[IV.int 0]) (x:=[IV.int a]) hD hi;have hS:aD (l.take i)++[[IV.int a]]=aD (l.take (i+1)):=by rw[aL h3,lH]
  rw[hS]at g2;simp[TIX,hi,r2,w2,g1,g2]
theorem AUC {p:Pn} (h1:aI CT 52 [.i (.isl (Ex.aB p.exprs))] []=some (.osl 0 5 0 p.exprs.length,[some (nQ Ex.cells 5 p.exprs)])) (h2:aI CT 14 [.i (.isl (aD p.cols))] []=some (.osl 0 1 0 p.cols.length,[some (.arr 1 (aD p.cols))])) (h3:aI CT 53 [.i (.isl (Pn.aB p.kids))] []=some (.osl 0 5 0 p.kids.length,[some (nQ Pn.cells 5 p.kids)])) :
 aI CT 13 [.i (.agg p.cells)] []=some (tP p 0,tPB p):=by
 rw[aF rfl Tryz.func13 rfl rfl,Pn.aA];simp[h1,h2,h3,tP,tPB]
def TTP (l:List Pn) (i:Nat):AS :=
 { env:=[(0, .i (.isl (Pn.aB l))),(2, .nils),(3, .osl 0 5 0 l.length),(4, .int i),(11,jk i (.bool true))],st:=[some (DF Pn.cells 5 zpw l l.length i)] }
theorem oH (l:List Int):vX 1 0 l.length (some (.arr 1 (aD l)))=some (aD l):=by
 have:fO (aD l)=true:=by
  rw[o9]
  induction l with
  | nil=>rfl
  | cons n l ih=>simp only[yS,fO,ih,zD7];rfl
 simp[vX,this]
theorem APM {l:List Pn} (hl:l.length<1000000000) (ih:∀ a∈l,aI CT 13 [.i (.agg a.cells)] []=some (tP a 0,tPB a)):aI CT 53 [.i (.isl (Pn.aB l))] []=some (.osl 0 5 0 l.length,[some (nQ Pn.cells 5 l)]):=by
 rw[aF rfl Tryz.func53 rfl rfl];have hb:88*(l.length:Int)≤281474976710656:=by omega
 simp[hb];rw[aT (TTP l) l.length (by simp[TTP,DF,zpw])]
 ·rw[aG];simp[TTP,UZ]
 ·intro i hi;have h3:=zX hi;have hc:=ih _ (zU h3);have r2:=Pn.aP h3;have hput:=UY (cells:=Pn.cells) (W:=5) (z:=zpw) (n:=l.length) h3 hi (by simp[zpw]) (by rw[Pn.aA];simp[zpw]) (by rw[Pn.aA];simp[uI,ACS]);generalize l[i]=a at h3 hc r2 hput;have w2:IntKind.i64.wrap ((i:Int)+1)=i+1:=wrO;have ha:=oH a.cols;rw[Pn.aA]at hc r2;simp only[Pn.aA,Ex.bS,Pn.bS]at hput;simp[TTP,hi,r2,hc,tP,tPB,w2,ha,hput]
theorem AUD:∀ (p:Pn),p.thin→aI CT 13 [.i (.agg p.cells)] []=some (tP p 0,tPB p):=by
 intro p
 induction p using Pn.ind with
 | h k t es cs ks ih =>
  intro ht;obtain⟨h1,h2,h3,h4,h5⟩:=(Pn.bO _).1 ht;exact AUC (AUB es h1 h2) (ANR cs h3) (APM h4 fun a ha=>ih a ha (h5 a ha))
theorem AZ8 {w:World} {s:Stp} {vs:List Value} {F:List Nat} (h:TCells w (wX s) vs F):∃ u,vs=[.int .i64 s.1,u]∧TCells w [.isl (aD s.2)] [u] F:=by
 simp only[wX]at h
 cases h with
 | @lit _ _ v1 _ o1 h1 =>
  have hl:=h1.length
  cases v1 with
  | nil=>simp at hl
  | cons u r =>
   cases r with
   | cons=>simp at hl
   | nil=>exact⟨u,rfl,h1⟩
theorem AKR:∃ c0 c1 cc body c3 cend,MLoop C0 31 2 27 (GS 31) Tryz.f31 c0 c1 cc body c3 cend∧∀ x:Stp,WB C0 wX IJ oJ 2 27 body x:=by
 refine⟨_,_,_,_,_,_,{ func:=Tryz.func31,code:=rfl,ntmps:=rfl,big:=by omega,results:=rfl,ok0:=⟨by kernel_rfl,rfl⟩,ok1:=⟨by kernel_rfl,rfl⟩,okc:=⟨by kernel_rfl,rfl⟩,ok3:=⟨by kernel_rfl,rfl⟩,oke:=⟨by kernel_rfl,rfl⟩,x0:=?_,x1:=?_,xc:=?_,xo:=?_,x3:=?_,xe:=?_,xf:=?_,nil:=?_ },?_⟩
 ·intro n R q;simp[MS]
 ·intro n R q;simp[MS]
 ·intro n i R q hi;simp[MS,hi]
 ·intro n R q;simp[MS]
 ·intro n i R q hi;have w6:IntKind.i64.wrap ((i:Int)+1)=i+1:=wrO;simp[MS,w6]
 ·intro n R q;simp[MS]
 ·intro n R q;simp[MS]
 ·intro k;rw[aF rfl Tryz.func31 rfl rfl];simp;rw[aG];simp
 ·intro x b N n i us vs q F a w hin g hvs hT hnd hbF h0 h1;have hlen:=g.len;have hfit:=g.fit;have h1:q+((1+x.2.length:Nat):Int)<1000000000000:=h1;obtain⟨u,rfl,hu⟩:=AZ8 hT;have hR:=jR 2 n us i hin;rw[hvs]at hR;have hset:=qF 2 n us [.int .i64 q,u] i hin (by omega) rfl;simp only[yS,zC3]at hR hset;have w2:IntKind.i64.wrap (q+1)=q+1:=wrO;have rr:=g.to;generalize hRR:rowsOf 2 n us=R at hR hset rr;have hRl:R.length=n:=by rw[← hRR,fE]
  have hRs:∀ r:List IV,fU (R.set i r) i=some r:=fun r=>by rw[fI,zD5 (by omega)]
  refine wp_seq (wp_mono (oN bH (oI b N) (G:=GS 31) (S':=MS 2 n (R.set i [.int q, .lit u]) q .junk (.int i) .junk) (e:=.normal) (by kernel_rfl) (by simp[MS,hin,hR,hRs,w2]) rr) ?_);rintro _ x1 y1 ⟨rfl,r1⟩;refine wp_seq (wp_mono (oN bH (oI b N) (G:=GS 31) (S':=MS 2 n (R.set i [.int q, .lit u]) (q+1) .junk (.int i) .junk) (e:=.normal) (by kernel_rfl) (by simp[MS,hin,hR,hRs,w2]) r1) ?_);rintro _ x2 y2 ⟨rfl,r2⟩;obtain⟨us8,g8,e8,f8⟩:=g.of (vs:=us.take (2*i)++[.int .i64 q,u]++us.drop (2*(i+1))) (q':=q+1) (i':=i) r2.1 rfl rfl rfl (by rw[← hset];rfl);rw[II (W:=2) (us:=us) (V:=[.int .i64 q,u]) hin (by omega) rfl]at e8;have hR8:=jR 2 n us8 i hin
  have hrow8:(us8.drop (2*i)).take 2=[.int .i64 q,u]:=by
   have:(us8.drop (2*i)).take 2=((us8.take (2*n)).drop (2*i)).take 2:=by rw[xY,zG,yN (by omega)]
   rw[this,e8,yY,zA2 (by simp;omega)];rfl
  rw[hrow8]at hR8;simp only[yS,zC3]at hR8
  refine wp_mono (DU bH (s:=x.2.length) (K:=fun _ w2=>TCells w2 [.isl ((DZ (q+1) x.2).map ATH)] [u] F) (u:=u) (Fu:=F) g8 (os1:=[_,_,_,_,_,_]) rfl (by kernel_rfl) (zP 1)
   (R1:=⟨upd (upd (upd (upd (upd (upd (aN (MS 2 n (rowsOf 2 n us8) (q+1) .junk (.int i) .junk).env) 19 (.osl 0 2 0 n)) 20 (.int i)) 21 (.ownE 0 2 i 0)) 22 (.ownE 0 2 i 1)) 23 (.i (.lit u))) 24 (.int (q+1)),aR (MS 2 n (rowsOf 2 n us8) (q+1) .junk (.int i) .junk).st,[]⟩)
   (by simp[MS,hin,hR8]) rfl rfl rfl rfl rfl rfl (by decide) (by decide) (by decide) (by decide) (by decide) Tryz.func30 (by decide) (by intro h;cases h) ?_ hbF) ?_
  ·intro w1 f1
   have hu1:TCells w1 [.isl (aD x.2)] [u] F:=hu.mono fun f hf=>by
    have hlt:=tlt hu f hf;rw[f1.same f (zJ hlt f8.size) (by simp;intro e;subst e;exact hbF hf),f8.same f hlt (by simp;intro e;subst e;exact hbF hf)]
   rw[o9]at hu1;refine(AGK x.2 w1 u F _ hu1 hnd (by omega) (by rw[qD];push_cast at h1 ⊢;omega)).mono ?_;rintro en w2 ⟨p1,p2,p3,_⟩;rw[qD]at p1;exact⟨p1,p2,p3⟩
  ·rintro e a' w' ⟨rfl,us',g',e',w1,f1,f2,hK⟩;have hq:q+1+(x.2.length:Nat)=q+(oJ x:Nat):=by unfold oJ;push_cast;omega
   rw[hq]at g';refine⟨rfl,us',_,g',by rw[e',e8],?_,(f8.sub (by simp)).trans ((f1.sub (by simp)).trans (f2.sub fun f hf=>by simp[hf]))⟩;simp only[wX,IJ,o9];exact .lit rfl hK
theorem AUR:vD C0 wX IJ oJ 31:=by
 obtain⟨c0,c1,cc,body,c3,cend,L,hR⟩:=AKR;exact vD.of bH (by decide) L (fun _=>rfl) (by omega) (fun e=>by unfold oJ;omega) hR
end Go.Proofs.YtjdfjgmebalaaaaGreat.P
namespace Go.Av
open Go.Av.Mk
theorem iR:∀ l:List Int,fO (aD l)=true
 | []=>rfl
 | n::l=>by simp only[aD,fO,iR l,zD7];rfl
mutual
theorem Pn.Aa7:∀ p:Pn,p.mz≤4*p.ms
 | .mk k t es cs ks=>by have:=Pn.AGT ks;simp only[Pn.mz,Pn.ms];omega
theorem Pn.AGT:∀ l:List Pn,Pn.mzL l≤4*Pn.msL l
 | []=>by simp[Pn.mzL]
 | p::l=>by have:=Pn.Aa7 p;have:=Pn.AGT l;simp only[Pn.mzL,Pn.msL];omega
end
def Pn.mk4 (p:Pn):Nat:=4*Ex.aM p.exprs+(p.cols.length+Pn.mzL p.kids)
theorem Pn.AOO (p:Pn):p.mk4≤4*p.meas:=by
 have:=Pn.AGT p.kids;unfold Pn.mk4 Pn.meas;omega
end Go.Av
namespace Go.Av
def ABA (R:Rng) (cs:List AV) (s:Stp):StL:=some (.loop R cs (.over .ret))::some (.box [.int s.1,if s.2=[]then .nils else .osl 3 1 0 s.2.length])::some (.box [.bool true])::(if s.2=[]then []else [some (.arr 1 (aD s.2))])
def AEP (R:Rng) (cs:List AV):Option Stp→Option (AV×StL)
 | none=>some (.bool true,NS0 R cs)
 | some s=>some (.bool false,ABA R cs s)
def ABT:Option Stp→Nat→AV
 | none,_=>.agg [.int 0, .nils]
 | some s,j=>.agg [.int s.1,if s.2=[]then .nils else .osl j 1 0 s.2.length]
def EH:Option Stp→StL
 | none=>[]
 | some s=>if s.2=[]then []else [some (.arr 1 (aD s.2))]
end Go.Av
namespace Go.Proofs.YtjdfjgmebalaaaaGreat.P
open Go Go.Av Go.Av.Mk
set_option maxRecDepth 4000
set_option maxHeartbeats 8000000
noncomputable def AQV:FuncId→Option (List AV→StL→Option (AV×StL))
 | 78=>none
 | 95=>none
 | 96=>none
 | 122=>some (o8 (aI C0) 122)
 | g=>if g=lU then none else some (aI C0 g)
def ACV:FuncId→Bool
 | 78=>true
 | g=>keepR g
def AYD:FuncId→Bool
 | 122=>true
 | g=>dC g
@[simp] theorem AZW (g:FuncId):AYD g=if g=122 then true else dC g:=by
  unfold AYD;split
  ·rfl
  ·rename_i h;rw[if_neg h]
noncomputable def C7:Ctx:={ P:=Tryz.prog,G:=GS,ownArgs:=AYD,keepRes:=ACV,eqT:=wS,prim:=AQV,tree:=true }
@[simp] theorem AqG:C7.P=Tryz.prog:=(rfl)
@[simp] theorem AqH (f):C7.G f=GS f:=(rfl)
@[simp] theorem AqD (f):C7.ownArgs f=AYD f:=(rfl)
@[simp] theorem AqE (f):C7.keepRes f=ACV f:=(rfl)
@[simp] theorem AqF (f):C7.eqT f=wS f:=(rfl)
@[simp] theorem AqC:C7.tree=true:=(rfl)
@[simp] theorem k71:ACV 78=true:=(rfl)
@[simp] theorem k72:ACV 95=keepR 95:=(rfl)
@[simp] theorem k73:ACV 96=keepR 96:=(rfl)
@[simp] theorem k74:ACV lU=keepR lU:=(rfl)
theorem AW5:PrimOk C7:=by
 have h0:=aS bH
 have key:∀ g q,C7.prim g=some q→(g=122∧q=o8 (aI C0) g)∨(g≠lU∧q=aI C0 g):=by
  intro g q h;have h:AQV g=some q:=h;unfold AQV at h;split at h
  all_goals first
   | (cases h;done)
   | (injection h with h;subst h;simp;done)
   | (split at h
      ·cases h
      ·rename_i hy;injection h with h;exact .inr ⟨hy,h.symm⟩)
 constructor
 ·intro g args st p h;unfold bE at h
  cases hq:C7.prim g with
  | none=>rw[hq]at h;cases h
  | some q =>
   rw[hq]at h
   rcases key g q hq with ⟨rfl,rfl⟩|⟨hy,rfl⟩
   ·exact(bW h0 (r:=p.1) (stl':=p.2) h).1
   ·exact h0.name g args st p hy h
 ·intro g args st r st' h w m φ vs hi hr hb;unfold bE at h
  cases hq:C7.prim g with
  | none=>rw[hq]at h;cases h
  | some q =>
   rw[hq]at h
   rcases key g q hq with ⟨rfl,rfl⟩|⟨hy,rfl⟩
   ·exact(bW h0 h).2 w m φ vs hi hr hb
   ·exact h0.calls g args st r st' hy h w m φ vs hi hr hb
theorem AV8:SoundOk C7:=gF (C:=C7) ft nt eqS mo AW5
@[simp] theorem AP8 (a:List AV) (st:StL):aI C7 70 a st=aI C0 70 a st:=aU (C:=C7) rfl a st
@[simp] theorem AP9 (a:List AV) (st:StL):aI C7 93 a st=aI C0 93 a st:=aU (C:=C7) rfl a st
@[simp] theorem AZ2 (a:List AV) (st:StL):aI C7 60 a st=aI C0 60 a st:=aU (C:=C7) rfl a st
theorem AAV (r:Int):aI C7 122 [.agg [.int r, .nils]] []=some (.bool (EU r),[]):=by
 have h:=CV r [];rw[aU (C:=C7) (p:=o8 (aI C0) 122) rfl];simp[aD]at h;simp[o8,oP,l7,kY,tY,h,mfA,mfR,mfC,WG,fP,bnd,tst]
theorem AAU (r:Int) (path:List Int):aI C7 122 [.agg [.int r, .osl 0 1 0 path.length]] [some (.arr 1 (aD path))]=some (.bool (EU r),[some (.arr 1 (aD path))]):=by
 have h:=CV r path;rw[aU (C:=C7) (p:=o8 (aI C0) 122) rfl];have hb:=sS path;simp[o8,oP,l7,kY,tY,h,mfA,mfR,mfC,WG,fP,bnd,tst,vX,hb,aR]
structure YnT (R:Rng) (cs:List AV):Prop where
 ids:cs=[.own 1 0, .own 2 0, .junk, .junk, .junk]
 n0:∀ r:Int,EU r=false→aI C7 lU [.fn (.yield 0) [.own 0 0], .agg [.int r, .nils]] (NS0 R cs)=some (.bool true,NS0 R cs)
 n1:∀ (r:Int) (path:List Int),path≠[]→EU r=false→aI C7 lU [.fn (.yield 0) [.own 0 0], .agg [.int r, .osl 3 1 0 path.length]] (NS0 R cs++[some (.arr 1 (aD path))])=some (.bool true,NS0 R cs++[some (.arr 1 (aD path))])
 y0:∀ r:Int,EU r=true→aI C7 lU [.fn (.yield 0) [.own 0 0], .agg [.int r, .nils]] (NS0 R cs)=some (.bool false,ABA R cs (r,[]))
 y1:∀ (r:Int) (path:List Int),path≠[]→EU r=true→aI C7 lU [.fn (.yield 0) [.own 0 0], .agg [.int r, .osl 3 1 0 path.length]] (NS0 R cs++[some (.arr 1 (aD path))])=some (.bool false,ABA R cs (r,path))
theorem QH {R:Rng} {cs:List AV} (hY:YnT R cs) {ws:List Int} (hw:kM ws=true):∀ (p:Pn) (path:List Int),path.length≤8→p.wd ws (8-path.length)≠0 →
 aI C7 96 [.i (.iref p.cells), .i (.isl (aD ws)), .i (.isl (aD path)), .fn (.yield 0) [.own 0 0]] (NS0 R cs)=AEP R cs (lJ (stI ws path p)):=by
 obtain⟨rfl,n0,n1,y0,y1⟩:=hY;intro p
 induction p using Pn.ind with
 | h k t es cols ks ih =>
  intro path hl hp;have hp8:(Pn.mk k t es cols ks).wd ws 8≠0:=by rw[Pn.gD _ _ 8 hp (by omega)];exact hp
  have hkids:=fun h=>WT (p:=.mk k t es cols ks) (lv:=8-path.length) hp h
  have hacc:=AFM ws path (.mk k t es cols ks);generalize hpe:Pn.mk k t es cols ks=p at *
  have hks:ks=p.kids:=by rw[← hpe];rfl
  subst hks
  obtain⟨lv,hlv⟩:∃ lv:Nat,8-path.length=lv:=⟨_,rfl⟩
  have hw8:IntKind.i64.wrap (8-(path.length:Int))=(lv:Int):=by rw[wrO];omega
  have hr:=fun r=>lX hw hp8 r (lv:=lv) (by omega)
  have hcp:=ADM path;obtain⟨j,hj,h1,h2⟩:=XZ (fun i=>(rwL ws ((i:Int)+1) (8-path.length) p).isSome && EU ((i:Int)+1)) 11;rw[hacc,sF,aF rfl Tryz.func96 rfl rfl,Pn.aA];rw[Pn.aA p]at hr;simp[NS0];rw[aT (RNX R [.own 1 0, .own 2 0, .junk, .junk, .junk] ws path p) j (by simp[RNX,NS0,OX])]
  ·rw[aG];by_cases hj11:j=11
   ·subst hj11;rw[MK (by omega) h1];obtain⟨j2,hj2,g1,g2⟩:=XZ (fun i=>(lJ (stI ws (path++[(i:Int)]) ((p.kids[i]?).getD Pn.zero))).isSome) p.kids.length;have g1':∀ k,k<j2→lJ (stI ws (path++[(k:Int)]) ((p.kids[k]?).getD Pn.zero))=none:=fun k hk=>by simpa using g1 k hk
    have hkid:∀ (i:Nat) (a:Pn),p.kids[i]?=some a→p.kids.length≤2∧path.length+1≤8∧aI C7 96 [.i (.iref a.cells), .i (.isl (aD ws)), .i (.isl (aD path++[[.int i]])), .fn (.yield 0) [.own 0 0]] (NS0 R [.own 1 0, .own 2 0, .junk, .junk, .junk])=AEP R [.own 1 0, .own 2 0, .junk, .junk, .junk] (lJ (stI ws (path++[(i:Int)]) a)):=fun i a ha=>by
     have hm:=zU ha;obtain⟨hk2,hlv0,hkw⟩:=hkids (by intro h;rw[h]at hm;simp at hm);have hpl:(path++[(i:Int)]).length=path.length+1:=by simp
     have:=ih a hm (path++[(i:Int)]) (by omega) (by rw[hpl,show 8-(path.length+1)=8-path.length-1 by omega];exact hkw a hm);rw[lH]at this;exact⟨hk2,by omega,this⟩
    have hl1:(path.length+1)*8≤140737488355328:=by omega
    have ht1:∀ i:Nat,List.take (path.length+1) (aD path++[[.int (i:Int)]])=aD path++[[.int i]]:=fun i=>zZ (by simp)
    by_cases ha:OX ws path p 11=[]
    all_goals
     simp[RNX,NS0,ha];rw[aT (KNX R [.own 1 0, .own 2 0, .junk, .junk, .junk] ws path p) j2 (by simp[KNX,NS0,ha])]
     ·rw[aG];by_cases hjk:j2=p.kids.length
      ·have hz:lJ (I8 ws path 0 p.kids)=none:=by
        have:=JP (ws:=ws) (path:=path) (l:=p.kids) (i:=p.kids.length) (zP _) (by rw[← hjk];exact g1')
        rwa [zD9]at this
       rw[hz];simp[KNX,NS0,AEP,ha,hjk]
      ·have hjl:j2<p.kids.length:=by omega
       have h3:=zX hjl;generalize p.kids[j2]=a at h3;have r2:=Pn.aP h3;obtain⟨hk2,hpl8,hk⟩:=hkid j2 a h3;have hb:=g2.resolve_left hjk;rw[h3]at hb
       cases hf:lJ (stI ws (path++[(j2:Int)]) a)with
       | none=>simp[hf]at hb
       | some s =>
        obtain⟨r,hr2⟩:=AMI hf;have hs0:s.2≠[]:=by rw[hr2];simp
        rw[AC3 h3 g1' hf];rw[hf]at hk;simp[AEP,NS0,ABA,hs0]at hk;rw[Pn.aA a]at r2 hk
        rcases hcp with rfl|hcp
        ·simp[aD]at hk;simp[KNX,NS0,AEP,ABA,ha,hjl,r2,pI,hk,aD,hs0]
        ·have hc:=sK hcp (by omega);simp[KNX,NS0,AEP,ABA,ha,hjl,r2,hc,hk,aD,hs0,hl1,ht1]
     ·intro i hi;have hil:i<p.kids.length:=by omega
      have h3:=zX hil;generalize p.kids[i]=a at h3;have r2:=Pn.aP h3;obtain⟨hk2,hpl8,hk⟩:=hkid i a h3;have hn:=g1' i hi;rw[h3]at hn;simp only[xS]at hn;rw[hn]at hk;simp[AEP,NS0]at hk;have w2:IntKind.i64.wrap ((i:Int)+1)=i+1:=wrO;rw[Pn.aA a]at r2 hk
      rcases hcp with rfl|hcp
      ·simp[aD]at hk;simp[KNX,NS0,ha,hil,r2,w2,pI,hk,aD]
      ·have hc:=sK hcp (by omega);simp[KNX,NS0,ha,hil,r2,w2,hc,hk,aD,hl1,ht1]
   ·have hb:=(h2.resolve_left hj11)
    have hjl:j<11:=by omega
    rw[AJD hjl h1 hb];simp only[zT]at hb;obtain⟨hb1,hb2⟩:=hb;have hr1:=hr ((j:Int)+1);rw[hlv]at hb1;rw[hb1]at hr1;have hi11:(j:Int)+1≤11:=by omega
    rcases hcp with rfl|hcp
    ·have hc:=pI;have hy:=y0 _ hb2;obtain rfl:lv=8:=by simpa using hlv.symm
     simp at hw8;rw[show((8:Nat):Int)=8 from rfl]at hr1;simp[NS0,ABA]at hy;by_cases ha:OX ws [] p j=[]<;>simp[RNX,NS0,AEP,ABA,ha,hr1,hw8,hi11,hc,hy,aD]
    ·have hc:=sK hcp (by omega);have hy:=y1 _ path hcp hb2;simp[NS0,ABA,hcp]at hy;by_cases ha:OX ws path p j=[]<;>simp[RNX,NS0,AEP,ABA,ha,hr1,hw8,hi11,hlv,hc,hy,hcp]
  ·intro i hi;have hs:=DX (ws:=ws) (path:=path) (p:=p) (i:=i) (by omega);have w2:IntKind.i64.wrap ((i:Int)+1+1)=i+1+1:=wrO;have hi11:(i:Int)+1≤11:=by omega
   have hr1:=hr ((i:Int)+1);have hnb:=h1 i hi;rw[hlv]at hs hnb
   cases hb:(rwL ws ((i:Int)+1) lv p).isSome with
   | false =>
    rw[hb]at hs hr1;simp at hs;by_cases ha:OX ws path p i=[]<;>simp[RNX,NS0,hs,ha,hr1,hw8,w2,hi11,hlv,hb]
   | true =>
    rw[hb]at hs hr1 hnb;simp at hs hnb
    rcases hcp with rfl|hcp
    ·have hc:=pI;have hy:=n0 _ hnb;obtain rfl:lv=8:=by simpa using hlv.symm
     simp at hw8;rw[show((8:Nat):Int)=8 from rfl]at hr1;simp[NS0]at hy;by_cases ha:OX ws [] p i=[]<;>simp[RNX,NS0,hs,ha,hr1,hw8,w2,hi11,hb,hc,hy,aD]
    ·have hc:=sK hcp (by omega);have hy:=n1 _ path hcp hnb;simp[NS0]at hy;by_cases ha:OX ws path p i=[]<;>simp[RNX,NS0,hs,ha,hr1,hw8,w2,hi11,hlv,hb,hc,hy]
theorem WY {R:Rng} {cs:List AV} (hY:YnT R cs) {ws:List Int} (hw:kM ws=true) {p:Pn} (hp:p.wd ws 8≠0):aI C7 95 [.fn (.yield 0) [.own 0 0], .own 3 0, .own 4 0] [some (.loop R cs .ready),some (.box [.int 0, .nils]),some (.box [.bool false]),some (.box [.i (.iref p.cells)]),some (.box [.i (.isl (aD ws))])] =
 match lJ (stI ws [] p)with
 | none=>some (.tup [],[some (.loop R cs .ready),some (.box [.int 0, .nils]),some (.box [.bool false]),some (.box [.i (.iref p.cells)]),some (.box [.i (.isl (aD ws))])])
 | some s=>some (.tup [],some (.loop R cs (.over .ret))::some (.box [.int s.1,if s.2=[]then .nils else .osl 5 1 0 s.2.length])::some (.box [.bool true])::some (.box [.i (.iref p.cells)])::some (.box [.i (.isl (aD ws))])::(if s.2=[]then []else [some (.arr 1 (aD s.2))])):=by
 have h:=QH hY hw p [] (by simp) (by simpa using hp);obtain⟨rfl,_⟩:=hY;rw[aF rfl Tryz.func95 rfl rfl]
 cases hf:lJ (stI ws [] p)with
 | none =>
  simp[hf,AEP,NS0,aD]at h;simp[h]
 | some s =>
  by_cases hs:s.2=[]
  ·simp[hf,AEP,NS0,ABA,hs,aD]at h;simp[h,hs]
  ·simp[hf,AEP,NS0,ABA,hs,aD]at h;simp[h,hs]
theorem U7 {ws:List Int} (hw:kM ws=true) {p:Pn} (hp:p.wd ws 8≠0):aI C7 78 [.i (.iref p.cells), .i (.isl (aD ws))] []=some (.tup [ABT (lJ (stI ws [] p)) 0, .bool (lJ (stI ws [] p)).isSome],EH (lJ (stI ws [] p))):=by
 have c3:=fun R cs (hY:YnT R cs)=>WY hY hw hp
 have c2:=AKT p ws;rw[aF rfl Tryz.func78 rfl rfl];simp only[Pn.aA p]at c2 c3 ⊢;simp[c2,bJ,AOG,PD,AF9,APR,Op.operands,Call.operands,lU];generalize hR:Rng.mk [0,1,4,5,6,9,10,12] _ [10] _ _=R
 have hY:YnT R [.own 1 0, .own 2 0, .junk, .junk, .junk]:=by
  clear c2 c3;refine⟨rfl,?_,?_,?_,?_⟩
  ·intro r h;have hn:=AAV r;rw[h]at hn;subst hR;rw[DV];simp[NS0,hn]
  ·intro r path hp h;have hn:=AAU r path;rw[h]at hn;subst hR;rw[DV];have ht:path.take path.length=path:=zZ (by omega);simp[NS0,hn,ht]
  ·intro r h;have hn:=AAV r;rw[h]at hn;subst hR;rw[DV];simp[NS0,ABA,hn]
  ·intro r path hp h;have hn:=AAU r path;rw[h]at hn;subst hR;rw[DV];have ht:path.take path.length=path:=zZ (by omega);simp[NS0,ABA,hn,ht,hp]
 have c3:=c3 R _ hY;clear hR
 cases hf:lJ (stI ws [] p)with
 | none =>
  simp[hf]at c3;simp[c3,ABT,EH, *]
 | some s =>
  by_cases hs:s.2=[]
  ·simp[hf,hs]at c3;simp[c3,ABT,EH,hs,aD]
  ·simp[hf,hs]at c3;simp[c3,ABT,EH, *]
end Go.Proofs.YtjdfjgmebalaaaaGreat.P
namespace Go.Av
def SH (st:Store):AV→Option IV
 | .own id 0=>match st id with
  | some (.box cs)=>bnd (kY st cs) fun l=>some (.iref l)
  | _=>none
 | v=>l7 st v
def EF (st:Store):List AV→Option (List AV)
 | []=>some []
 | c::r=>bnd (SH st c) fun v=>bnd (EF st r) fun l=>some (.i v::l)
theorem SG {w:World} {m:Mem} {φ:Pl} {st:Store} {c:AV} {x:Value} {iv:IV} (hi:Inv w m φ st) (hr:Rep m φ c x) (h:SH st c=some iv):IRep (dD w) iv x:=by
 unfold SH at h;split at h
 ·rename_i id;split at h
  ·rename_i cs hs;obtain⟨l,h1,h2⟩:=aH.1 h;injection h2 with h2;subst h2
   cases hr with
   | @own _ _ b n e =>
    obtain⟨hb,hok⟩:=bZ hi e hs
    cases hok with
    | @box T _ vs hh hl hrc hm =>
     refine .iref (IAt.mk 0 (tX hi hrc h1) fun j v hj=>?_);show w.cell? ⟨b,0+j,none⟩=some v;rw[aY hh,zF];exact hj
  ·cases h
 ·exact wU hi hr h
theorem BU {w:World} {m:Mem} {φ:Pl} {st:Store} (hi:Inv w m φ st):∀ {cs us:List AV} {xs:List Value},RepL m φ cs xs→EF st cs=some us→RepL (dD w) (fun _=>none) us xs
 | [],us,_, .nil,h=>by simp[EF]at h;subst h;exact .nil
 | c::cs,us,_, .cons a b,h=>by
  simp only[EF]at h;obtain⟨v,h1,h2⟩:=aH.1 h;obtain⟨l',h3,h4⟩:=aH.1 h2;injection h4 with h4;subst h4;exact .cons (.i (SG hi a h1)) (BU hi b h3)
def XM (call:dB) (g:FuncId) (args:List AV) (st:StL):Option (AV×StL):=bnd (EF (aR st) args) fun us=>XK call g us st
theorem KZ {C:Ctx} {call:dB} (hcall:CallOk C call) {g:FuncId} {args:List AV} {stl stl':StL} {r:AV} (h:XM call g args stl=some (r,stl')) (hy:g≠lU:=by decide) :
 (∃ fn,C.P.funcs[g]?=some fn∧fn.name≠ "runtime.NumGoroutine"∧fn.body.isSome=true)∧∀ (w:World) (m:Mem) (φ:Pl) (vs:List Value),Inv w m φ (aR stl)→RepL m φ args vs→(∀ id,φ id≠none→id<stl.length) →
  Calls C.P g vs.toArray w (bF w m φ r stl'):=by
 unfold XM at h;obtain⟨us,h1,h2⟩:=aH.1 h;exact AP hcall (us:=us) (fun w m φ vs hi hr=>BU hi hr h1) h2 hy
theorem AEY (q:Pn):kY (aR (some (.box (rqL q 1))::rqB q)) (rqL q 1)=some q.cells:=by
 rw[Pn.aA];have b1:=TB q.exprs;have b2:=TA q.cols;have b3:=T9 q.kids;have b4:=sS q.cols
 by_cases q1:q.exprs=[]<;>by_cases q2:q.cols=[]<;>by_cases q3:q.kids=[] <;>
  simp[rqL,rqB,q1,q2,q3,kY,tY,aR,vX,bnd,tst,b4,Ex.aB,Pn.aB,aD]<;>simp_all [aD]
theorem AM7 {call:dB} {g:FuncId} {q:Pn} {a:IV} {r:AV} {stl:StL} (h:call g [.i (.iref q.cells), .i a] []=some (r,stl)) (hm:mfA r=true) (hs:WG stl=true):XM call g [.own 0 0, .i a] (some (.box (rqL q 1))::rqB q)=some (ren (fun j=>some (j+(1+(rqB q).length))) r,some (.box (rqL q 1))::(rqB q++fP (1+(rqB q).length) stl)):=by
 unfold XM
 have h1:SH (aR (some (.box (rqL q 1))::rqB q)) (.own 0 0)=some (.iref q.cells):=by
  show bnd (kY (aR (some (.box (rqL q 1))::rqB q)) (rqL q 1)) (fun l=>some (IV.iref l))=_;rw[AEY];rfl
 have h2:SH (aR (some (.box (rqL q 1))::rqB q)) (.i a)=some a:=rfl;simp only[EF,h1,h2,bnd];unfold XK;simp only[h,bnd,hm,hs,zD6,tst,zQ,zC8 (rqB q).length 1];rfl
theorem AEZ (q:Pn) (B:StL):l7 (aR (rqB q++B)) (rqA q 0)=some (.agg q.cells):=by
 rw[Pn.aA];have b1:=TB q.exprs;have b2:=TA q.cols;have b3:=T9 q.kids;have b4:=sS q.cols
 by_cases q1:q.exprs=[]<;>by_cases q2:q.cols=[]<;>by_cases q3:q.kids=[] <;>
  simp[rqA,rqB,q1,q2,q3,l7,kY,tY,aR,vX,bnd,tst,b4,Ex.aB,Pn.aB,aD]<;>simp_all [aD]
theorem AKV (A:StL) (b:Option Blk) (B:StL):aR (A++b::B) A.length=b:=by
 induction A with
 | nil=>rfl
 | cons a A ih=>simpa [aR]using ih
theorem AM5 {call:dB} {g:FuncId} {q x:Pn} {a:IV} {r:Int} {path:List Int} {o:Bool} (hp:path≠[]) (h:call g [.i (.agg q.cells), .i a, .i (.agg [.int r, .isl (aD path)])] []=some (.tup [rqA x 0, .bool o],rqB x)):o8 call g [rqA q 0, .i a, .agg [.int r, .osl (rqB q).length 1 0 path.length]] (rqB q++[some (.arr 1 (aD path))])=some (.tup [rqA x ((rqB q).length+1), .bool o],rqB q++(some (.arr 1 (aD path))::rqB x)):=by
 unfold o8;have h1:=AEZ q [some (.arr 1 (aD path))];have h2:l7 (aR (rqB q++[some (.arr 1 (aD path))])) (.i a)=some a:=rfl
 have h3:l7 (aR (rqB q++[some (.arr 1 (aD path))])) (.agg [.int r, .osl (rqB q).length 1 0 path.length])=some (.agg [.int r, .isl (aD path)]):=by
  have hb:=sS path;simp only[l7,kY,tY,AKV];simp[vX,bnd,tst,hb]
 simp only[oP,h1,h2,h3,bnd,h,mfA,AJS,AWE,AH2,ZA,ren,A7,AOF,zN,zQ,yT];simp[mfR,mfC,jI,tst]
theorem AM6 {call:dB} {g:FuncId} {q x:Pn} {a:IV} {r:Int} {o:Bool} (h:call g [.i (.agg q.cells), .i a, .i (.agg [.int r, .isl []])] []=some (.tup [rqA x 0, .bool o],rqB x)):o8 call g [rqA q 0, .i a, .agg [.int r, .nils]] (rqB q)=some (.tup [rqA x (rqB q).length, .bool o],rqB q++rqB x):=by
 unfold o8;have h2:l7 (aR (rqB q)) (.i a)=some a:=rfl;have h3:l7 (aR (rqB q)) (.agg [.int r, .nils])=some (.agg [.int r, .isl []]):=rfl;simp only[oP,AKD,h2,h3,bnd,h,mfA,AJS,AWE,AH2,ZA,ren,A7,AOF];simp[mfR,mfC,jI,tst]
end Go.Av
namespace Go.Proofs.YtjdfjgmebalaaaaGreat.P
open Go Go.Av
set_option maxRecDepth 4000
set_option maxHeartbeats 4000000
end Go.Proofs.YtjdfjgmebalaaaaGreat.P
namespace Go.Av
end Go.Av
namespace Go.Proofs.YtjdfjgmebalaaaaGreat.P
open Go Go.Av
set_option maxRecDepth 4000
set_option maxHeartbeats 4000000
structure SSt where
 q:Pn
 L:List Stp
 p:Int
 b:Bool
theorem ABS (l:List Stp) (k:Nat):bR (l.take k)=(bR l).take k:=by simp[bR,zC4]
set_option maxHeartbeats 8000000
theorem AHA (r:Int):aI C0 77 [.int r] []=some (.bool (EU r),[]):=by
 rw[aF rfl Tryz.func77 rfl rfl];unfold EU;by_cases h2:r=2
 ·simp[h2]
 ·by_cases h5:r=5
  ·simp[h5]
  ·by_cases h6:r=6
   ·simp[h6]
   ·simp[h2,h5,h6]
set_option maxHeartbeats 2000000
end Go.Proofs.YtjdfjgmebalaaaaGreat.P
namespace Go.Av
theorem ABX {p:Pn} {ws:List Int} {s:Stp}:s∈JL p ws↔(apO p ws s.1 s.2).isSome=true:=by
 unfold JL apO;by_cases h0:p.width ws=0
 ·simp[h0]
 ·obtain⟨hw,hp8,hv⟩:=nO h0;rw[if_neg h0,if_neg h0,EJ (CU hw) hp8,AFJ,AJ7 (CU hw) hp8]
end Go.Av
namespace Go.Proofs.YtjdfjgmebalaaaaGreat.P
open Go Go.Av
set_option maxRecDepth 4000
set_option maxHeartbeats 2000000
end Go.Proofs.YtjdfjgmebalaaaaGreat.P
namespace Go.Av
def nP (ws:List Int) (p:Pn):Nat→Pn
 | 0=>p
 | i+1=>match lJ (stI ws [] (nP ws p i))with
  | some s=>IY (apO (nP ws p i) ws s.1 s.2)
  | none=>nP ws p i
def nL (ws:List Int) (p:Pn):Nat→List Stp
 | 0=>[]
 | i+1=>match lJ (stI ws [] (nP ws p i))with
  | some s=>nL ws p i++[s]
  | none=>nL ws p i
theorem IZ {ws:List Int} {p:Pn} {s:Stp} (h0:p.width ws≠0) (h:lJ (stI ws [] p)=some s):∃ q,apO p ws s.1 s.2=some q∧s∈stI ws [] p∧EU s.1=true:=by
 have hm:s∈stI ws [] p:=List.mem_of_find?_eq_some h
 have hl:EU s.1=true:=by
  have:=List.find?_some h;simpa using this
 have:s∈JL p ws:=by unfold JL;rw[if_neg h0];exact hm
 have:=ABX.1 this
 cases hq:apO p ws s.1 s.2 with
 | none=>rw[hq]at this;cases this
 | some q=>exact⟨q,rfl,hm,hl⟩
theorem AXN {p q:Pn} {ws:List Int} {r:Int} {path:List Int} (h:apO p ws r path=some q):q.width ws=p.width ws:=by
 have:=VM (ws:=ws) [(r,path)] p q (by simp[aps,h]);exact this.1
theorem D6 {ws:List Int} {p:Pn} (h0:p.width ws≠0):∀ i,(nP ws p i).width ws=p.width ws
 | 0=>rfl
 | i+1=>by
  have ih:=D6 h0 i;simp only[nP]
  cases hf:lJ (stI ws [] (nP ws p i))with
  | none=>exact ih
  | some s =>
   obtain⟨q,hq,_,_⟩:=IZ (by rw[ih];exact h0) hf;simp only[hq,IY,xS];exact(AXN hq).trans ih
theorem ZR {ws:List Int} {p:Pn}:∀ j,(∀ i,i<j→(lJ (stI ws [] (nP ws p i))).isSome=true)→(nL ws p j).length=j
 | 0,_=>rfl
 | j+1,h=>by
  have ih:=ZR j fun i hi=>h i (by omega)
  have:=h j (by omega);simp only[nL]
  cases hf:lJ (stI ws [] (nP ws p j))with
  | none=>rw[hf]at this;cases this
  | some s=>simp[ih]
theorem AGR {ws:List Int} {p:Pn} {j:Nat} (h:lJ (stI ws [] (nP ws p j))=none):∀ k,nP ws p (j+k)=nP ws p j∧nL ws p (j+k)=nL ws p j
 | 0=>⟨rfl,rfl⟩
 | k+1=>by
  obtain⟨h1,h2⟩:=AGR h k;rw[← Nat.add_assoc];simp only[nP,nL,h1,h,h2,and_self]
theorem KF (ws:List Int) (p:Pn):∃ j,j≤40∧(∀ i,i<j→∃ s,lJ (stI ws [] (nP ws p i))=some s)∧(j=40∨lJ (stI ws [] (nP ws p j))=none)∧nP ws p 40=nP ws p j∧nL ws p 40=nL ws p j∧(nL ws p j).length=j:=by
 obtain⟨j,h1,h2,h3⟩:=XZ (fun i=>(lJ (stI ws [] (nP ws p i))).isNone) 40
 have h2':∀ i,i<j→∃ s,lJ (stI ws [] (nP ws p i))=some s:=fun i hi=>by
  have:=h2 i hi
  cases hf:lJ (stI ws [] (nP ws p i))with
  | none=>rw[hf]at this;cases this
  | some s=>exact⟨s,rfl⟩
 have hl:=ZR (ws:=ws) (p:=p) j fun i hi=>by obtain⟨s,hs⟩:=h2' i hi;rw[hs];rfl
 rcases h3 with rfl|h3
 ·exact⟨40,h1,h2', .inl rfl,rfl,rfl,hl⟩
 ·have hn:lJ (stI ws [] (nP ws p j))=none:=by
   cases hf:lJ (stI ws [] (nP ws p j))with
   | none=>rfl
   | some s=>rw[hf]at h3;cases h3
  have:=AGR hn (40-j);rw[show j+(40-j)=40 by omega]at this;exact⟨j,h1,h2', .inr hn,this.1,this.2,hl⟩
theorem AHX:∀ {S:List Stp} {s:Stp},lJ S=some s→∃ k:Nat,S[k]?=some s∧EU s.1=true∧∀ i,i<k→∃ u:Stp,S[i]?=some u∧EU u.1=false
 | [],s,h=>by simp[lJ]at h
 | a::S,s,h=>by
  unfold lJ at h;rw[List.find?_cons]at h
  cases ha:EU a.1 with
  | true =>
   simp only[ha]at h;injection h with h;subst h;exact⟨0,rfl,ha,fun i hi=>by omega⟩
  | false =>
   simp only[ha]at h;obtain⟨k,h1,h2,h3⟩:=AHX (S:=S) h;refine⟨k+1,h1,h2,fun i hi=>?_⟩
   cases i with
   | zero=>exact⟨a,rfl,ha⟩
   | succ i=>exact h3 i (by omega)
theorem AS7 {S:List Stp} (h:lJ S=none):∀ i,i<S.length→∃ u:Stp,S[i]?=some u∧EU u.1=false:=by
 intro i hi;refine⟨S[i],zX hi,?_⟩;unfold lJ at h;have:=List.find?_eq_none.1 h S[i] (xJ hi)
 cases hb:EU S[i].1 with
 | true=>rw[hb]at this;exact absurd rfl this
 | false=>rfl
end Go.Av
namespace Go.Proofs.YtjdfjgmebalaaaaGreat.P
open Go Go.Av
set_option maxRecDepth 4000
set_option maxHeartbeats 4000000
def nrR (ws:List Int) (p:Pn):AV×StL:=if p.width ws=0 then(.tup [.i (.agg Pn.zero.cells), .i (.isl [])],[])else(.tup [.i (.agg (nP ws p 40).cells), .i (.isl (bR (nL ws p 40)))],[])
@[simp] theorem ASN (a:List AV) (st:StL):aI CA 64 a st=aI C0 64 a st:=by rw[aU (p:=aI C0 64) rfl]
@[simp] theorem AP6 (a:List AV) (st:StL):aI CA 65 a st=aI C0 65 a st:=by rw[aU (p:=aI C0 65) rfl]
@[simp] theorem AXD (a:List AV) (st:StL):aI CA 77 a st=aI C0 77 a st:=by rw[aU (p:=aI C0 77) rfl]
def jB (i k:Nat):AV:=if k=0 then jk i (.bool false)else .bool true
@[simp] theorem AnC (i:Nat):jB i 0=jk i (.bool false):=(rfl)
@[simp] theorem Aa9 (i k:Nat):jB i (k+1)=.bool true:=(rfl)
def SI (ws:List Int) (p:Pn) (i:Nat):List Stp:=stI ws [] (nP ws p i)
def KI (ws:List Int) (p:Pn) (i:Nat):Nat:=(SI ws p i).findIdx fun s=>EU s.1
def AXV (p:Pn) (ws:List Int) (i:Nat):AS :=
 { env:=[(0, .i (.agg p.cells)),(1, .i (.isl (aD ws))),(2, .own 0 0),(4, .own 1 0),(5, .nils),(6, .osl 2 2 0 i),(7, .own 3 0),(8,jk i (.isl (bR (SI ws p (i-1))))),(9,jk i (.int (KI ws p (i-1):Nat))),(10,jA i (.own 4 0)),(16, .bool false),(23,jk i (.bool true)),(39,jk i (.bool false)),(45,jk i (.bool false))],
   st:=[mU p,zpB,some (.arr 2 (bR (nL ws p i))),mU (nP ws p i)]++jkL i [mU (nP ws p i)] }
def SNI (p:Pn) (ws:List Int) (i k:Nat):AS :=
 { env:=[(0, .i (.agg p.cells)),(1, .i (.isl (aD ws))),(2, .own 0 0),(4, .own 1 0),(5, .nils),(6, .osl 2 2 0 i),(7, .own 3 0),(8, .i (.isl (bR (SI ws p i)))),(9, .int k),(10,jA i (.own 4 0)),(16, .bool false),(23, .bool true),(39,jB i k),(45,jk i (.bool false))],
   st:=[mU p,zpB,some (.arr 2 (bR (nL ws p i))),mU (nP ws p i)]++jkL i [mU (nP ws p i)] }
theorem PK (p:Pn) (hp:p.thin) (ws:List Int) (hl:ws.length<1000000000):aI CA 41 [.i (.agg p.cells), .i (.isl (aD ws))] []=some (nrR ws p):=by
 have c1:=ABH p (Pn.Z0 p hp) ws (by omega);rw[aF rfl Tryz.func41 rfl rfl];unfold nrR;by_cases h0:p.width ws=0
 ·rw[Pn.aA p]at c1 ⊢;simp[c1,h0,Pn.zero,Pn.cells,Ex.aB,aD,Pn.aB]
 simp only[h0,if_false];obtain⟨hw,hp8⟩:=gL h0;have c2:=YJ hp;obtain⟨j,hj,h1,h2,h3,h4,h5⟩:=KF ws p;rw[h3,h4];have hwd:∀ i,(nP ws p i).width ws≠0:=fun i=>by rw[D6 h0];exact h0
 have hst:∀ i,aI C0 64 [.i (.agg (nP ws p i).cells), .i (.isl (aD ws))] []=some (.i (.isl (bR (SI ws p i))),[]):=fun i=>by
  have:=TI hw (gL (hwd i)).2;rw[← EJ (CU hw) (gL (hwd i)).2]at this;exact this
 have hsl:∀ i,(SI ws p i).length<10000:=fun i=>by
  have:=APZ ws (nP ws p i) [];have:=(P7 (gL (hwd i)).2).2;unfold SI;omega
 have hlow:=AHA;rw[Pn.aA p]at c1 c2 ⊢;simp[c1,h0,c2];rw[aT (AXV p ws) j (by simp[AXV,zpB,mU,nP,nL,bR,h0,Pn.aA p])]
 ·rw[aG];have ht:List.take j (bR (nL ws p j))=bR (nL ws p j):=zZ (by rw[dQ];omega);by_cases hj40:j=40
  ·subst hj40;simp[AXV,zpB,mU,bU,mQ,tL,ht,Pn.aA (nP ws p 40),dQ,h5]
  ·have hn:=h2.resolve_left hj40;have hall:=AS7 (S:=SI ws p j) hn;have hlt:(j:Int)<40:=by omega
   have e1:=hst j;rw[Pn.aA (nP ws p j)]at e1;simp only[AXV,zpB,mU];by_cases hi0:j=0
   ·subst hi0;simp[e1];rw[aT (SNI p ws 0) (SI ws p 0).length (by simp[SNI,zpB,mU])]
    ·rw[aG];simp[SNI,zpB,mU,dQ,Pn.aA (nP ws p 0),nL,bR]
    ·intro k hk;obtain⟨u,hu,hu2⟩:=hall k hk;have r1:=nX hu;have e2:=hlow u.1;rw[hu2]at e2;have w2:IntKind.i64.wrap ((k:Int)+1)=k+1:=wrap64 (by have:=hsl 0;omega) (by have:=hsl 0;omega);simp only[wX]at r1;simp[SNI,zpB,mU,dQ,hk,r1,e2,w2]
   ·simp[hi0,bU hi0,mQ hi0,tL hi0,hlt,e1];rw[aT (SNI p ws j) (SI ws p j).length (by simp[SNI,zpB,mU,hi0,bU hi0,mQ hi0,tL hi0])]
    ·rw[aG];simp[SNI,zpB,mU,hi0,bU hi0,mQ hi0,tL hi0,dQ,Pn.aA (nP ws p j),ht,h5]
    ·intro k hk;obtain⟨u,hu,hu2⟩:=hall k hk;have r1:=nX hu;have e2:=hlow u.1;rw[hu2]at e2;have w2:IntKind.i64.wrap ((k:Int)+1)=k+1:=wrap64 (by have:=hsl j;omega) (by have:=hsl j;omega);simp only[wX]at r1;simp[SNI,zpB,mU,hi0,bU hi0,mQ hi0,tL hi0,dQ,hk,r1,e2,w2]
 ·intro i hi;obtain⟨s,hs⟩:=h1 i hi;obtain⟨q,hq,_,_⟩:=IZ (hwd i) hs;obtain⟨k,k1,k2,k3⟩:=AHX (S:=SI ws p i) hs;have hk:=(zY.1 k1).1
  have hKI:KI ws p i=k:=by
   unfold KI;obtain⟨hk',e⟩:=zY.1 k1;refine List.findIdx_eq hk' |>.2 ⟨by rw[e];exact k2,fun m hm=>?_⟩
   obtain⟨u,hu,hu2⟩:=k3 m hm;obtain⟨hm',e'⟩:=zY.1 hu;rw[e'];exact hu2
  have e5:=uW hw (gL (hwd i)).2 s.1 (path:=s.2) (by
   have:=ABY (p:=nP ws p i) (ws:=ws) s (by unfold JL;rw[if_neg (hwd i)];exact zU k1)
   omega)
  have hqS:apS ws s.1 s.2 (nP ws p i)=some q:=by
   rw[← AJ7 (CU hw) (gL (hwd i)).2];unfold apO at hq;rw[if_neg (hwd i)]at hq;exact hq
  rw[hqS]at e5;have hP1:nP ws p (i+1)=q:=by simp[nP,hs,hq,IY]
  have hL1:nL ws p (i+1)=nL ws p i++[s]:=by simp[nL,hs]
  have hlen:(nL ws p i).length=i:=ZR i fun k hk=>by obtain⟨s,hs⟩:=h1 k (by omega);rw[hs];rfl
  have hS:bR (nL ws p i)++[[.int s.1, .isl (aD s.2)]]=bR (nL ws p (i+1)):=by rw[hL1,G8];rfl
  have ht:List.take i (bR (nL ws p i))=bR (nL ws p i):=zZ (by rw[dQ];omega);have hlt:(i:Int)<40:=by omega
  have hb:(i+1)*32≤140737488355328:=by omega
  have e1:=hst i;have r0:=nX k1;have e20:=hlow s.1;rw[k2]at e20;simp only[wX]at r0;have hne:¬ (k:Int)=(SI ws p i).length:=by omega
  have hne2:¬ k=(SI ws p i).length:=by omega
  rw[Pn.aA (nP ws p i)]at e5 e1;simp[IY,Pn.aA q]at e5;simp only[AXV,hP1,Nat.add_sub_cancel,hKI];by_cases hi0:i=0
  ·subst hi0;simp[zpB,mU,e1];rw[aT (SNI p ws 0) k (by simp[SNI,zpB,mU])]
   ·rw[aG];have hL0:nL ws p 0=[]:=rfl;have hS0:bR (nL ws p 1)=[[IV.int s.1,IV.isl (aD s.2)]]:=by rw[hL1];simp[nL,bR,wX]
    simp[SNI,zpB,mU,dQ,hk,r0,e20,hne,hne2,e5,hL0,AFD,hS0]
   ·intro k' hk';obtain⟨u,hu,hu2⟩:=k3 k' hk';have hkl:=(zY.1 hu).1;have r1:=nX hu;have e2:=hlow u.1;rw[hu2]at e2;have w2:IntKind.i64.wrap ((k':Int)+1)=k'+1:=wrap64 (by have:=hsl 0;omega) (by have:=hsl 0;omega);simp only[wX]at r1;simp[SNI,zpB,mU,dQ,hkl,r1,e2,w2]
  ·simp[zpB,mU,hi0,bU hi0,mQ hi0,tL hi0,hlt,e1];rw[aT (SNI p ws i) k (by simp[SNI,zpB,mU,hi0,bU hi0,mQ hi0,tL hi0])]
   ·rw[aG];simp[SNI,zpB,mU,hi0,bU hi0,mQ hi0,tL hi0,dQ,hk,r0,e20,hne,hne2,e5,ht,hS,hb,hlen]
   ·intro k' hk';obtain⟨u,hu,hu2⟩:=k3 k' hk';have hkl:=(zY.1 hu).1;have r1:=nX hu;have e2:=hlow u.1;rw[hu2]at e2;have w2:IntKind.i64.wrap ((k':Int)+1)=k'+1:=wrap64 (by have:=hsl i;omega) (by have:=hsl i;omega);simp only[wX]at r1;simp[SNI,zpB,mU,hi0,bU hi0,mQ hi0,tL hi0,dQ,hkl,r1,e2,w2]
end Go.Proofs.YtjdfjgmebalaaaaGreat.P
namespace Go.Av
theorem l8:∀ l:List Stp,kL (bR l)=true
 | []=>rfl
 | s::l=>by have:=l8 l;simp only[bR]at this;simp[bR,kL,this];rfl
end Go.Av
namespace Go.Proofs.YtjdfjgmebalaaaaGreat.P
open Go Go.Av Go.Av.Mk
set_option maxRecDepth 4000
set_option maxHeartbeats 8000000
noncomputable def AQU:FuncId→Option (List AV→StL→Option (AV×StL))
 | 42=>none
 | 59=>some (aI C4 59)
 | 26=>some (o8 (aI C5) 26)
 | 78=>some (XM (aI C7) 78)
 | g=>if g=lU then none else some (aI C0 g)
def ARG:FuncId→Bool
 | 42=>true
 | g=>keepR g
def AYC:FuncId→Bool
 | 26=>true
 | 78=>true
 | g=>dC g
@[simp] theorem AZV (g:FuncId):AYC g=if g=26∨g=78 then true else dC g:=by
  unfold AYC;split
  ·rfl
  ·rfl
  ·rename_i h1 h2;rw[if_neg (fun h=>h.elim h1 h2)]
noncomputable def C8:Ctx:={ P:=Tryz.prog,G:=GS,ownArgs:=AYC,keepRes:=ARG,eqT:=wS,prim:=AQU,tree:=true }
@[simp] theorem AqA:C8.P=Tryz.prog:=(rfl)
@[simp] theorem AqB (f):C8.G f=GS f:=(rfl)
@[simp] theorem Aq7 (f):C8.ownArgs f=AYC f:=(rfl)
@[simp] theorem Aq8 (f):C8.keepRes f=ARG f:=(rfl)
@[simp] theorem Aq9 (f):C8.eqT f=wS f:=(rfl)
@[simp] theorem Aq6:C8.tree=true:=(rfl)
@[simp] theorem k81:ARG 42=true:=(rfl)
theorem AW4:PrimOk C8:=by
 have h0:=aS bH;have h4:=aS AOE;have h5:=aS AFN;have h7:=aS AV8
 have key:∀ g q,C8.prim g=some q→(g=59∧q=aI C4 g)∨(g=26∧q=o8 (aI C5) g)∨(g=78∧q=XM (aI C7) g)∨(g≠lU∧q=aI C0 g):=by
  intro g q h;have h:AQU g=some q:=h;unfold AQU at h;split at h
  all_goals first
   | (cases h;done)
   | (injection h with h;subst h;simp;done)
   | (split at h
      ·cases h
      ·rename_i hy;injection h with h;exact .inr (.inr (.inr ⟨hy,h.symm⟩)))
 constructor
 ·intro g args st p h;unfold bE at h
  cases hq:C8.prim g with
  | none=>rw[hq]at h;cases h
  | some q =>
   rw[hq]at h
   rcases key g q hq with ⟨rfl,rfl⟩|⟨rfl,rfl⟩|⟨rfl,rfl⟩|⟨hy,rfl⟩
   ·exact h4.name _ args st p (by decide) h
   ·exact(bW h5 (r:=p.1) (stl':=p.2) h).1
   ·exact(KZ h7 (r:=p.1) (stl':=p.2) h).1
   ·exact h0.name g args st p hy h
 ·intro g args st r st' h w m φ vs hi hr hb;unfold bE at h
  cases hq:C8.prim g with
  | none=>rw[hq]at h;cases h
  | some q =>
   rw[hq]at h
   rcases key g q hq with ⟨rfl,rfl⟩|⟨rfl,rfl⟩|⟨rfl,rfl⟩|⟨hy,rfl⟩
   ·exact h4.calls _ args st r st' (by decide) h w m φ vs hi hr hb
   ·exact(bW h5 h).2 w m φ vs hi hr hb
   ·exact(KZ h7 h).2 w m φ vs hi hr hb
   ·exact h0.calls g args st r st' hy h w m φ vs hi hr hb
theorem AQ8:SoundOk C8:=gF (C:=C8) ft nt eqS mo AW4
@[simp] theorem AZ1 (a:List AV) (st:StL):aI C8 68 a st=aI C0 68 a st:=aU (C:=C8) rfl a st
theorem AII {p:Pn} (h:p.small):aI C8 59 [.i (.iref p.cells)] []=some (rqA p 0,rqB p):=by
 rw[aU (C:=C8) (p:=aI C4 59) rfl];exact AIL h
theorem AIH {ws:List Int} (hw:kM ws=true) {q:Pn} (hq:q.wd ws 8≠0):aI C8 78 [.own 0 0, .i (.isl (aD ws))] (some (.box (rqL q 1))::rqB q)=some (.tup [ABT (lJ (stI ws [] q)) (1+(rqB q).length), .bool (lJ (stI ws [] q)).isSome],some (.box (rqL q 1))::(rqB q++EH (lJ (stI ws [] q)))):=by
 have h:=U7 hw hq;rw[aU (C:=C8) (p:=XM (aI C7) 78) rfl]
 have hs:∀ (o:Option Stp) (n:Nat),mfA (.tup [ABT o 0, .bool o.isSome])=true∧WG (EH o)=true∧ren (fun j=>some (j+n)) (.tup [ABT o 0, .bool o.isSome])=.tup [ABT o n, .bool o.isSome]∧fP n (EH o)=EH o:=by
  intro o n
  cases o with
  | none=>exact⟨rfl,rfl,rfl,rfl⟩
  | some s =>
   have hb:=sS s.2;by_cases h0:s.2=[]
   ·simp[ABT,EH,h0,mfA,AJS,mfR,ALV,mfC,jI,WG,ren,A7,fP]
   ·simp[ABT,EH,h0,mfA,AJS,mfR,ALV,mfC,jI,WG,mfB,hb,ren,A7,fP,CL]
 obtain⟨s1,s2,s3,s4⟩:=hs (lJ (stI ws [] q)) (1+(rqB q).length);have:=AM7 (g:=78) h s1 s2;rw[s3,s4]at this;exact this
theorem AIJ (q:Pn) (ws:List Int) (r:Int) {path:List Int} (hp:path≠[]):aI C8 26 [rqA q 0, .i (.isl (aD ws)), .agg [.int r, .osl (rqB q).length 1 0 path.length]] (rqB q++[some (.arr 1 (aD path))])=some (.tup [rqA (IY (apO q ws r path)) ((rqB q).length+1), .bool (apO q ws r path).isSome],rqB q++(some (.arr 1 (aD path))::rqB (IY (apO q ws r path)))):=by
 rw[aU (C:=C8) (p:=o8 (aI C5) 26) rfl];exact AM5 hp (AAW q ws r path)
theorem AIK (q:Pn) (ws:List Int) (r:Int):aI C8 26 [rqA q 0, .i (.isl (aD ws)), .agg [.int r, .nils]] (rqB q)=some (.tup [rqA (IY (apO q ws r [])) (rqB q).length, .bool (apO q ws r []).isSome],rqB q++rqB (IY (apO q ws r []))):=by
 rw[aU (C:=C8) (p:=o8 (aI C5) 26) rfl];exact AM6 (AAW q ws r [])
def AYF (ws:List Int) (p:Pn):AV×StL :=
 if p.width ws=0 then(.tup [rqA Pn.zero 0, .nils],[])
 else(.tup [rqA (nP ws p 40) 0,if nL ws p 40=[]then .nils else .osl (rqB (nP ws p 40)).length 2 0 (nL ws p 40).length],rqB (nP ws p 40)++if nL ws p 40=[]then []else [some (.tre 2 (bR (nL ws p 40)))])
def NRT (p:Pn) (ws:List Int) (q:Pn) (l:List Stp) (s:Stp) (i:Nat):AS :=
 { env:=[(0, .i (.agg [.int p.kind, .int p.table, .isl (Ex.aB p.exprs), .isl (aD p.cols), .isl (Pn.aB p.kids)])),(1, .i (.isl (aD ws))),(2, .own 0 0),(4, .own 1 0),(5, .nils),(6, .own 2 0),(7,if i=0 then .nils else .osl (3+(rqB q).length) 2 0 i),(8,jA i (.own (4+(rqB q).length) 0)),(9,jk i (.bool true)),(13, .bool false),(18,jk i (.bool true)),(25,jk i (.bool false))],
   st:=some (.fbox [.int p.kind, .int p.table, .isl (Ex.aB p.exprs), .isl (aD p.cols), .isl (Pn.aB p.kids)])::zpB::some (.box (rqL q 3))::(rqB q++jkL i (some (.tre 2 (bR l))::some (.box [.int s.1,if s.2=[]then .nils else .osl (5+(rqB q).length) 1 0 s.2.length])::(if s.2=[]then []else [none]))) }
theorem AGO {p:Pn} {ws:List Int} (hw:kM ws=true) {B:Code} (hB:(Tryz.f42.body.bind LK)=some B) {i:Nat} {q q':Pn} {l:List Stp} {s s':Stp} (hi:i<40) (hl:l.length=i) (hqw:q.wd ws 8≠0) (hq:Shp q) (hq':Shp q') (hf:lJ (stI ws [] q)=some s') (ha:apO q ws s'.1 s'.2=some q'):dR C8 (GS 42) 0 B (NRT p ws q l s i)=some (.normal,NRT p ws q' (l++[s']) s' (i+1)):=by
 obtain rfl:=Option.some.inj (show some _=some B from hB);have hk:=AIH hw hqw;rw[hf]at hk;have hlt:(i:Int)<40:=by omega
 have hb:(i+1)*32≤140737488355328:=by omega
 have ht:List.take i (bR l)=bR l:=zZ (by rw[dQ];omega);have hS:bR (l++[s'])=bR l++[[.int s'.1, .isl (aD s'.2)]]:=by rw[G8];rfl
 have hsl:=dQ l;have hpu:=l8 l;by_cases hs0:s'.2=[]
 ·have e5:=AIK q ws s'.1;rw[hs0]at ha;rw[ha]at e5;simp only[IY,xS,xA]at e5;simp only[ABT,EH,hs0,if_true,xA,zA]at hk;by_cases hi0:i=0
  ·subst hi0;obtain rfl:l=[]:=zW.1 hl
   rcases hq with ⟨a1,a2,a3⟩|⟨a1,a2,a3⟩|⟨a1,a2,a3⟩|⟨a1,a2,a3⟩<;>rcases hq' with ⟨b1,b2,b3⟩|⟨b1,b2,b3⟩|⟨b1,b2,b3⟩|⟨b1,b2,b3⟩ <;>
    (simp only[rqA,rqL,rqB,a1,a2,a3,b1,b2,b3,if_true,if_false,yQ,zA,yX,zQ,yT]at e5 hk
     try simp at e5
     try simp at hk
     simp[NRT,zpB,rqL,rqB,a1,a2,a3,b1,b2,b3,hk,e5,hs0,hS,bR,aD,wX])
  ·have hpos:0<i:=by omega
   by_cases hss:s.2=[]<;>rcases hq with ⟨a1,a2,a3⟩|⟨a1,a2,a3⟩|⟨a1,a2,a3⟩|⟨a1,a2,a3⟩<;>rcases hq' with ⟨b1,b2,b3⟩|⟨b1,b2,b3⟩|⟨b1,b2,b3⟩|⟨b1,b2,b3⟩ <;>
    (simp only[rqA,rqL,rqB,a1,a2,a3,b1,b2,b3,if_true,if_false,yQ,zA,yX,zQ,yT]at e5 hk
     try simp at e5
     try simp at hk
     simp[NRT,zpB,rqL,rqB,a1,a2,a3,b1,b2,b3,hi0,bU hi0,mQ hi0,tL hi0,hlt,hpos,hpu,hk,e5,hs0,hss,hS,hb,ht,hl,hsl,aD])
 ·have e5:=AIJ q ws s'.1 hs0;rw[ha]at e5;simp only[IY,xS,xA]at e5;simp only[ABT,EH,hs0,if_false,xA]at hk;by_cases hi0:i=0
  ·subst hi0;obtain rfl:l=[]:=zW.1 hl
   rcases hq with ⟨a1,a2,a3⟩|⟨a1,a2,a3⟩|⟨a1,a2,a3⟩|⟨a1,a2,a3⟩<;>rcases hq' with ⟨b1,b2,b3⟩|⟨b1,b2,b3⟩|⟨b1,b2,b3⟩|⟨b1,b2,b3⟩ <;>
    (simp only[rqA,rqL,rqB,a1,a2,a3,b1,b2,b3,if_true,if_false,yQ,zA,yX,zQ,yT]at e5 hk
     try simp at e5
     try simp at hk
     simp[NRT,zpB,rqL,rqB,a1,a2,a3,b1,b2,b3,hk,e5,hs0,hS,bR,wX])
  ·have hpos:0<i:=by omega
   by_cases hss:s.2=[]<;>rcases hq with ⟨a1,a2,a3⟩|⟨a1,a2,a3⟩|⟨a1,a2,a3⟩|⟨a1,a2,a3⟩<;>rcases hq' with ⟨b1,b2,b3⟩|⟨b1,b2,b3⟩|⟨b1,b2,b3⟩|⟨b1,b2,b3⟩ <;>
    (simp only[rqA,rqL,rqB,a1,a2,a3,b1,b2,b3,if_true,if_false,yQ,zA,yX,zQ,yT]at e5 hk
     try simp at e5
     try simp at hk
     simp[NRT,zpB,rqL,rqB,a1,a2,a3,b1,b2,b3,hi0,bU hi0,mQ hi0,tL hi0,hlt,hpos,hpu,hk,e5,hs0,hss,hS,hb,ht,hl,hsl])
theorem R6 (p:Pn) (ws:List Int):aI C8 42 [.i (.agg p.cells), .i (.isl (aD ws))] []=some (AYF ws p):=by
 have c1:=jU p ws;rw[aF rfl Tryz.func42 rfl rfl];unfold AYF;by_cases h0:p.width ws=0
 ·rw[Pn.aA p]at c1 ⊢;simp[c1,h0,rqA,Pn.zero]
 simp only[h0,if_false];obtain⟨hw,hp8⟩:=gL h0
 obtain⟨p',hp'⟩:∃ x,x=p:=⟨p,rfl⟩
 have c2:aI C8 59 [.i (.iref p.cells)] []=some (rqA p' 0,rqB p'):=by
  rw[hp'];exact AII ⟨by have:=(P7 hp8).2;omega,dJ p 8 hp8,(P7 hp8).1⟩
 obtain⟨j,hj,h1,h2,h3,h4,h5⟩:=KF ws p;rw[h3,h4];have hwd:∀ i,(nP ws p i).width ws≠0:=fun i=>by rw[D6 h0];exact h0
 have hw8:∀ i,(nP ws p i).wd ws 8≠0:=fun i=>(gL (hwd i)).2
 have hlen:∀ i,i≤j→(nL ws p i).length=i:=fun i hi=>ZR i fun k hk=>by obtain⟨s,hs⟩:=h1 k (by omega);rw[hs];rfl
 have hrounds:∀ B,(Tryz.f42.body.bind LK)=some B→∀ i,i<j→dR C8 [0,1,2,4,5,6,7,8,9,13,18,25] 0 B (NRT p ws (nP ws p i) (nL ws p i) (((nL ws p i).getLast?).getD (0,[])) i)=some (.normal,NRT p ws (nP ws p (i+1)) (nL ws p (i+1)) (((nL ws p (i+1)).getLast?).getD (0,[])) (i+1)):=by
  intro B hB i hi;obtain⟨s,hs⟩:=h1 i hi;obtain⟨q,hq,_,_⟩:=IZ (hwd i) hs;have hP1:nP ws p (i+1)=q:=by simp[nP,hs,hq,IY]
  have hL1:nL ws p (i+1)=nL ws p i++[s]:=by simp[nL,hs]
  have hgl:((nL ws p (i+1)).getLast?).getD (0,[])=s:=by rw[hL1];simp
  have hsq:=RU (hw8 (i+1));rw[hgl,hP1,hL1];rw[hP1]at hsq;exact AGO hw hB (by omega) (hlen i (by omega)) (hw8 i) (RU (hw8 i)) hsq hs hq
 have hk:j≠40→aI C8 78 [.own 0 0, .i (.isl (aD ws))] (some (.box (rqL (nP ws p j) 1))::rqB (nP ws p j))=some (.tup [.agg [.int 0, .nils], .bool false],some (.box (rqL (nP ws p j) 1))::rqB (nP ws p j)):=by
  intro hj40;have:=AIH hw (hw8 j);rw[h2.resolve_left hj40]at this;simpa [ABT,EH]using this
 have hx:=RU (hw8 j);have hll:=hlen j (zP j);have hcl:∀ l:List Stp,l.length=j→List.take j (bR l)=bR l:=fun l h=>zZ (by rw[dQ];omega)
 have hpu:=l8 (nL ws p j);have hsl:=dQ (nL ws p j);have ht:=hcl _ hll;have hnil:nL ws p j=[]↔j=0:=by rw[← List.length_eq_zero_iff,hll]
 rw[Pn.aA p]at c1 c2 ⊢;have hp:=RU hp8;rw[← hp']at hp;have h0':¬ p'.width ws=0:=by rw[hp'];exact h0
 rcases hp with ⟨a1,a2,a3⟩|⟨a1,a2,a3⟩|⟨a1,a2,a3⟩|⟨a1,a2,a3⟩
 all_goals
  simp only[rqA,rqB,a1,a2,a3,if_true,if_false,yQ,zA,yX]at c2
  try simp at c2
  simp[c1,h0,c2];rw[aT (fun i=>NRT p ws (nP ws p i) (nL ws p i) (((nL ws p i).getLast?).getD (0,[])) i) j (by simp[NRT,zpB,nP,nL,← hp',h0',rqL,rqB,a1,a2,a3]) (hrounds _ rfl)];rw[aG];clear hrounds;generalize ((nL ws p j).getLast?).getD (0,[])=s;generalize nL ws p j=l at *
  generalize nP ws p j=x at *
  clear h1 h2 hwd hw8 hlen c1 c2 h3 h4;by_cases hj40:j=40
  ·subst hj40;have hne:l≠[]:=fun e=>by have:=hnil.1 e;omega
   clear hk hnil
   rcases hx with ⟨b1,b2,b3⟩|⟨b1,b2,b3⟩|⟨b1,b2,b3⟩|⟨b1,b2,b3⟩<;>by_cases hss:s.2=[] <;>
    simp[NRT,zpB,rqA,rqL,rqB,b1,b2,b3,hss,hne,hll,hsl,ht,hpu]
  ·have hk:=hk hj40;have hlt:(j:Int)<40:=by omega
   by_cases hi0:j=0
   ·have hne:=hnil.2 hi0;subst hi0;subst hne;clear hnil
    rcases hx with ⟨b1,b2,b3⟩|⟨b1,b2,b3⟩|⟨b1,b2,b3⟩|⟨b1,b2,b3⟩ <;>
     (simp only[rqL,rqB,b1,b2,b3,if_true,if_false,yQ,zA,yX]at hk
      try simp at hk
      simp[NRT,zpB,rqA,rqL,rqB,b1,b2,b3,hk])
   ·have hne:l≠[]:=fun e=>hi0 (hnil.1 e)
    clear hnil
    rcases hx with ⟨b1,b2,b3⟩|⟨b1,b2,b3⟩|⟨b1,b2,b3⟩|⟨b1,b2,b3⟩<;>by_cases hss:s.2=[] <;>
     (simp only[rqL,rqB,b1,b2,b3,if_true,if_false,yQ,zA,yX]at hk
      try simp at hk
      simp[NRT,zpB,rqA,rqL,rqB,b1,b2,b3,hi0,bU hi0,mQ hi0,tL hi0,hss,hne,hlt,hk,hll,hsl,ht,hpu])
end Go.Proofs.YtjdfjgmebalaaaaGreat.P
namespace Go.Av
theorem AJC {w:World} {a:Addr} {v:Value} (h:w.cell? (a.add 0)=some v):∃ b off,a=⟨b,off,none⟩:=by
 obtain⟨b,off,spot⟩:=a;simp only[Addr.add,if_true,World.cell?]at h
 cases spot with
 | none=>exact⟨b,off,rfl⟩
 | some s=>split at h<;>simp at h
theorem AUM {cs:List Value} (h:cs.length=5):∃ c0 c1 c2 c3 c4,cs=[c0,c1,c2,c3,c4]:=by
 match cs,h with
 | [c0,c1,c2,c3,c4],_=>exact⟨c0,c1,c2,c3,c4,rfl⟩
end Go.Av
namespace Go.Proofs.YtjdfjgmebalaaaaGreat.P
open Go Go.Av
set_option maxRecDepth 4000
variable {H:Type} {enc:TypeId×Value→H} {w:World} {sp:Nat→Bool}
theorem ce3:Tryz.prog.cellsOf 3=1:=by kernel_rfl
theorem ce4:Tryz.prog.cellsOf 4=1:=by kernel_rfl
theorem AcA:Tryz.prog.cellsOf 109=2:=by kernel_rfl
theorem Ac9:Tryz.prog.cellsOf 22=1:=by kernel_rfl
theorem Ab4:Tryz.prog.cellsOf 111=5:=by kernel_rfl
theorem AWX {fuel:Nat} {cs:List Value} {r:DataW H×List MemPlace} (h:DataW.trod enc Tryz.prog w 0 sp true fuel 109 cs=some r):∃ v:Val,cs=[.bool v.null, .int .i64 v.n]:=by
 obtain⟨xs,n,rfl,_,hl,hx,hf⟩:=DataW.trod_struct Tryz.underlying109 h;rw[AcA]at hl;have h0:DataW.trod enc Tryz.prog w 0 sp true n 4 ((cs.drop 0).take (Tryz.prog.cellsOf 4))=xs[0]?:=hf 0 _ rfl;have h1:DataW.trod enc Tryz.prog w 0 sp true n 3 ((cs.drop 1).take (Tryz.prog.cellsOf 3))=xs[1]?:=hf 1 _ rfl;rw[ce4]at h0;rw[ce3]at h1;have hx:xs.length=2:=hx;rw[zX (by omega)]at h0 h1;obtain⟨b,hb,_⟩:=DataW.trod_bool Tryz.underlying4 h0;obtain⟨k,hk,_⟩:=DataW.trod_int Tryz.underlying3 h1
 match cs,hl with
 | [c0,c1],_ =>
  simp at hb hk;exact⟨⟨b,k⟩,by rw[hb,hk]⟩
theorem AA7 {b:Nat} {P:List Value→List IV→Prop} {k:Nat} (hk:∀ cs l,P cs l→l.length=k∧ICells (dD w) l cs):∀ (n off:Nat),(∀ i,i<n→∃ cs l,P cs l∧∀ j v,cs[j]?=some v→w.cell? ⟨b,off+k*i+j,none⟩=some v) →
 ∃ es:List (List IV),es.length=n∧IElems (dD w) b off k es∧∀ e∈es,∃ cs,P cs e
 | 0,off,_=>⟨[],rfl, .nil _ _ _,by simp⟩
 | n+1,off,h=>by
  obtain⟨cs,l,h1,h2⟩:=h 0 (by omega);obtain⟨k1,k2⟩:=hk cs l h1
  obtain⟨es,e1,e2,e3⟩:=AA7 hk n (off+k) (fun i hi=>by
   obtain⟨cs,l,h3,h4⟩:=h (i+1) (by omega)
   exact⟨cs,l,h3,fun j v hj=>by rw[← h4 j v hj];congr 2;rw[zB];omega⟩)
  refine⟨l::es,by simp[e1], .cons (IAt.mk off k2 fun j v hj=>?_) k1 e2,?_⟩
  ·have:=h2 j v hj;show w.cell? ⟨b,off+j,none⟩=some v;simpa using this
  ·intro e he
   rcases zS.1 he with rfl|he
   ·exact⟨cs,h1⟩
   ·exact e3 e he
theorem IW {fuel:Nat} {t e:TypeId} {c:Value} {r:DataW H×List MemPlace} {k:Nat} {P:List Value→List IV→Prop} (ht:Tryz.prog.underlying t=some (.slice e)) (hce:Tryz.prog.cellsOf e=k) (hk0:0<k) (hk:∀ cs l,P cs l→l.length=k∧ICells (dD w) l cs)
 (ih:∀ n,n<fuel→∀ cs x,DataW.trod enc Tryz.prog w 0 sp true n e cs=some x→∃ l,P cs l) (h:DataW.trod enc Tryz.prog w 0 sp true fuel t [c]=some r) :
 ∃ es:List (List IV),IRep (dD w) (.isl es) c∧es.length<9223372036854775808∧∀ x∈es,∃ cs,P cs x:=by
 rcases DataW.trod_slice ht h with ⟨h1,_⟩|⟨a,len,cap,elems,rest,n,rfl,h1,_,_,hlc,hcm,hel,hat,_,_⟩
 ·injection h1 with h1;subst h1;exact⟨[], .isl0 _ _ fun _=>rfl,by simp,by simp⟩
 ·injection h1 with h1;subst h1;by_cases h0:len=0
  ·subst h0;exact⟨[], .isl0 _ _ (by simp),by simp,by simp⟩
  ·rw[hce]at hat
   have get:∀ i,i<len→∃ cs l,P cs l∧cs.length=k∧∀ j,j<k→w.cell? ((a.add (i*k)).add j)=cs[j]?:=by
    intro i hi;have h2:=hat i hi;rw[zX (by omega)]at h2;obtain⟨cs,h3,h4⟩:=Option.bind_eq_some_iff.1 h2;obtain⟨_,h5,h6⟩:=World.cells?_some h3;obtain⟨l,h7⟩:=ih n (by omega) cs _ h4;exact⟨cs,l,h7,h5,h6⟩
   obtain⟨b,off,rfl⟩:∃ b off,a=⟨b,off,none⟩:=by
    obtain⟨cs,l,_,h5,h6⟩:=get 0 (by omega);have h7:=h6 0 hk0;rw[zX (by omega)]at h7;refine AJC (v:=cs[0]'(by omega)) (w:=w) ?_;rw[← h7,Nat.zero_mul];congr 1
   obtain⟨es,e1,e2,e3⟩:=AA7 (b:=b) hk len off (fun i hi=>by
    obtain⟨cs,l,h4,h5,h6⟩:=get i hi;refine⟨cs,l,h4,fun j v hj=>?_⟩;have hjl:=(zY.1 hj).1;have:=h6 j (by omega);rw[hj,Addr.dO,Addr.dO]at this
    rw[← this,yV k i])
   refine⟨es,?_,by rw[e1];unfold maxLen at hcm;omega,e3⟩;have hne:es≠[]:=fun h=>by rw[h]at e1;simp at e1;omega
   have:=IRep.isl (m:=dD w) (cap:=cap) hne e2 (by omega)
   rwa [e1]at this
theorem AWY:∀ (fuel:Nat) (cs:List Value) (r:DataW H×List MemPlace),DataW.trod enc Tryz.prog w 0 sp true fuel 111 cs=some r→∃ e:Ex,e.fat∧ICells (dD w) e.cells cs:=by
 intro fuel
 induction fuel using Nat.strongRecOn with
 | _ fuel ih =>
  intro cs r h;obtain⟨xs,n,rfl,_,hl,hx,hf⟩:=DataW.trod_struct Tryz.underlying111 h;rw[Ab4]at hl;have h0:DataW.trod enc Tryz.prog w 0 sp true n 3 ((cs.drop 0).take (Tryz.prog.cellsOf 3))=xs[0]?:=hf 0 _ rfl;have h1:DataW.trod enc Tryz.prog w 0 sp true n 3 ((cs.drop 1).take (Tryz.prog.cellsOf 3))=xs[1]?:=hf 1 _ rfl;have h2:DataW.trod enc Tryz.prog w 0 sp true n 109 ((cs.drop 2).take (Tryz.prog.cellsOf 109))=xs[2]?:=hf 2 _ rfl;have h3:DataW.trod enc Tryz.prog w 0 sp true n 22 ((cs.drop 4).take (Tryz.prog.cellsOf 22))=xs[3]?:=hf 3 _ rfl;rw[ce3]at h0 h1;rw[AcA]at h2;rw[Ac9]at h3;have hx:xs.length=4:=hx;rw[zX (by omega)]at h0 h1 h2 h3;obtain⟨c0,c1,c2,c3,c4,rfl⟩:=AUM hl;obtain⟨k0,hk0,_⟩:=DataW.trod_int Tryz.underlying3 h0;obtain⟨k1,hk1,_⟩:=DataW.trod_int Tryz.underlying3 h1;obtain⟨v,hv⟩:=AWX h2;simp at hk0 hk1 hv;obtain⟨rfl,rfl⟩:=hv;subst hk0;subst hk1;simp at h3
  obtain⟨es,e1,e2,e3⟩:=IW (P:=fun cs l=>∃ e:Ex,e.fat∧l=e.cells∧ICells (dD w) l cs) Tryz.underlying22 Ab4 (by omega) (fun cs l ⟨e,_,h5,h6⟩=>⟨by rw[h5,Ex.aA];rfl,h6⟩)
   (fun m hm cs x hx=>by
    obtain⟨e,h5,h6⟩:=ih m (by omega) cs x hx
    exact⟨e.cells,e,h5,rfl,h6⟩) h3
  have hl:∃ l:List Ex,Ex.aB l=es∧∀ a∈l,a.fat:=by
   have key:∀ es:List (List IV),(∀ x∈es,∃ cs,∃ e:Ex,e.fat∧x=e.cells∧ICells (dD w) x cs)→∃ l:List Ex,Ex.aB l=es∧∀ a∈l,a.fat:=by
    intro es
    induction es with
    | nil=>intro _;exact⟨[],rfl,by simp⟩
    | cons x es ihe =>
     intro h;obtain⟨_,e,h5,h6,_⟩:=h x (by simp);obtain⟨l,h7,h8⟩:=ihe fun y hy=>h y (by simp[hy])
     exact⟨e::l,by simp[Ex.aB,h6,h7],fun a ha=>by
      rcases zS.1 ha with rfl|ha
      ·exact h5
      ·exact h8 a ha⟩
   exact key es e3
  obtain⟨l,rfl,hfat⟩:=hl;refine⟨.mk k0 k1 v l,(Ex.sI _).2 ⟨by simpa [Ex.kids]using e2,hfat⟩,?_⟩;rw[show(Ex.mk k0 k1 v l).cells=[.int k0, .int k1, .bool v.null, .int v.n, .isl (Ex.aB l)]by simp[Ex.cells]];exact .cons (.lit _) rfl (.cons (.lit _) rfl (.cons (.lit _) rfl (.cons (.lit _) rfl (.cons e1 (uK e1) .nil))))
theorem ceI:Tryz.prog.cellsOf 3=1:=by kernel_rfl
theorem AkE:Tryz.prog.cellsOf 24=1:=by kernel_rfl
theorem AkF:Tryz.prog.cellsOf 23=1:=by kernel_rfl
theorem ceP:Tryz.prog.cellsOf 26=5:=by kernel_rfl
theorem AHN {fuel:Nat} {c:Value} {r:DataW H×List MemPlace} (h:DataW.trod enc Tryz.prog w 0 sp true fuel 23 [c]=some r):∃ l:List Int,l.length<9223372036854775808∧IRep (dD w) (.isl (aD l)) c:=by
 obtain⟨es,e1,e2,e3⟩:=IW (P:=fun cs l=>∃ n:Int,l=[.int n]∧cs=[.int .i64 n]) Tryz.underlying23 ceI (by omega) (fun cs l ⟨v,h5,h6⟩=>⟨by rw[h5];rfl,by rw[h5,h6];exact .cons (.lit _) rfl .nil⟩)
  (fun m hm cs x hx=>by
   obtain⟨k,hk,_⟩:=DataW.trod_int Tryz.underlying3 hx
   exact⟨[.int k],k,rfl,hk⟩) h
 have key:∀ es:List (List IV),(∀ x∈es,∃ cs:List Value,∃ n:Int,x=[.int n]∧cs=[.int .i64 n])→∃ l:List Int,aD l=es:=by
  intro es
  induction es with
  | nil=>intro _;exact⟨[],rfl⟩
  | cons x es ihe =>
   intro h;obtain⟨_,v,h5,_⟩:=h x (by simp);obtain⟨l,h7⟩:=ihe fun y hy=>h y (by simp[hy])
   exact⟨v::l,by simp[aD,h5,h7]⟩
 obtain⟨l,rfl⟩:=key es e3;exact⟨l,by simpa using e2,e1⟩
theorem AS2 {fuel:Nat} {c:Value} {r:DataW H×List MemPlace} (h:DataW.trod enc Tryz.prog w 0 sp true fuel 22 [c]=some r):∃ l:List Ex,l.length<9223372036854775808∧(∀ a∈l,a.fat)∧IRep (dD w) (.isl (Ex.aB l)) c:=by
 obtain⟨es,e1,e2,e3⟩:=IW (P:=fun cs l=>∃ e:Ex,e.fat∧l=e.cells∧ICells (dD w) l cs) Tryz.underlying22 Ab4 (by omega) (fun cs l ⟨e,_,h5,h6⟩=>⟨by rw[h5,Ex.aA];rfl,h6⟩)
  (fun m hm cs x hx=>by
   obtain⟨e,h5,h6⟩:=AWY m cs x hx
   exact⟨e.cells,e,h5,rfl,h6⟩) h
 have key:∀ es:List (List IV),(∀ x∈es,∃ cs,∃ e:Ex,e.fat∧x=e.cells∧ICells (dD w) x cs)→∃ l:List Ex,Ex.aB l=es∧∀ a∈l,a.fat:=by
  intro es
  induction es with
  | nil=>intro _;exact⟨[],rfl,by simp⟩
  | cons x es ihe =>
   intro h;obtain⟨_,e,h5,h6,_⟩:=h x (by simp);obtain⟨l,h7,h8⟩:=ihe fun y hy=>h y (by simp[hy])
   exact⟨e::l,by simp[Ex.aB,h6,h7],fun a ha=>by
    rcases zS.1 ha with rfl|ha
    ·exact h5
    ·exact h8 a ha⟩
 obtain⟨l,rfl,hfat⟩:=key es e3;exact⟨l,by simpa using e2,hfat,e1⟩
theorem AS1:∀ (fuel:Nat) (cs:List Value) (r:DataW H×List MemPlace),DataW.trod enc Tryz.prog w 0 sp true fuel 26 cs=some r→∃ p:Pn,p.fat∧ICells (dD w) p.cells cs:=by
 intro fuel
 induction fuel using Nat.strongRecOn with
 | _ fuel ih =>
  intro cs r h;obtain⟨xs,n,rfl,_,hl,hx,hf⟩:=DataW.trod_struct Tryz.underlying26 h;rw[ceP]at hl;have h0:DataW.trod enc Tryz.prog w 0 sp true n 3 ((cs.drop 0).take (Tryz.prog.cellsOf 3))=xs[0]?:=hf 0 _ rfl;have h1:DataW.trod enc Tryz.prog w 0 sp true n 3 ((cs.drop 1).take (Tryz.prog.cellsOf 3))=xs[1]?:=hf 1 _ rfl;have h2:DataW.trod enc Tryz.prog w 0 sp true n 22 ((cs.drop 2).take (Tryz.prog.cellsOf 22))=xs[2]?:=hf 2 _ rfl;have h3:DataW.trod enc Tryz.prog w 0 sp true n 23 ((cs.drop 3).take (Tryz.prog.cellsOf 23))=xs[3]?:=hf 3 _ rfl;have h4:DataW.trod enc Tryz.prog w 0 sp true n 24 ((cs.drop 4).take (Tryz.prog.cellsOf 24))=xs[4]?:=hf 4 _ rfl;rw[ceI]at h0 h1;rw[Ac9]at h2;rw[AkF]at h3;rw[AkE]at h4;have hx:xs.length=5:=hx;rw[zX (by omega)]at h0 h1 h2 h3 h4;obtain⟨c0,c1,c2,c3,c4,rfl⟩:=AUM hl;obtain⟨k0,hk0,_⟩:=DataW.trod_int Tryz.underlying3 h0;obtain⟨k1,hk1,_⟩:=DataW.trod_int Tryz.underlying3 h1;simp at hk0 hk1;subst hk0;subst hk1;simp at h2 h3 h4;obtain⟨es,le,fe,re⟩:=AS2 h2;obtain⟨is,li,ri⟩:=AHN h3
  obtain⟨ps,e1,e2,e3⟩:=IW (P:=fun cs l=>∃ e:Pn,e.fat∧l=e.cells∧ICells (dD w) l cs) Tryz.underlying24 ceP (by omega) (fun cs l ⟨e,_,h5,h6⟩=>⟨by rw[h5,Pn.aA];rfl,h6⟩)
   (fun m hm cs x hx=>by
    obtain⟨e,h5,h6⟩:=ih m (by omega) cs x hx
    exact⟨e.cells,e,h5,rfl,h6⟩) h4
  have key:∀ es:List (List IV),(∀ x∈es,∃ cs,∃ e:Pn,e.fat∧x=e.cells∧ICells (dD w) x cs)→∃ l:List Pn,Pn.aB l=es∧∀ a∈l,a.fat:=by
   intro es
   induction es with
   | nil=>intro _;exact⟨[],rfl,by simp⟩
   | cons x es ihe =>
    intro h;obtain⟨_,e,h5,h6,_⟩:=h x (by simp);obtain⟨l,h7,h8⟩:=ihe fun y hy=>h y (by simp[hy])
    exact⟨e::l,by simp[Pn.aB,h6,h7],fun a ha=>by
     rcases zS.1 ha with rfl|ha
     ·exact h5
     ·exact h8 a ha⟩
  obtain⟨l,rfl,hfat⟩:=key ps e3;refine⟨.mk k0 k1 es is l,(Pn.sI _).2 ⟨le,fe,li,by simpa using e2,hfat⟩,?_⟩;rw[Pn.dX];exact .cons (.lit _) rfl (.cons (.lit _) rfl (.cons re (uK re) (.cons ri (uK ri) (.cons e1 (uK e1) .nil))))
end Go.Proofs.YtjdfjgmebalaaaaGreat.P
namespace Go.Av
end Go.Av
namespace Go.Proofs.YtjdfjgmebalaaaaGreat.P
open Go Go.Av
set_option maxRecDepth 4000
set_option maxHeartbeats 1000000
theorem Y6 (s:Stp) (hl:s.2.length<9223372036854775808):aI C0 36 [.i (.agg [.int s.1, .isl (aD s.2)]), .i (.agg [.int s.1, .isl (aD s.2)])] []=some (.bool true,[]):=by
 have h:=AY s.2 hl;rw[aF rfl Tryz.func36 rfl rfl];simp[h]
def ETS (l:List Stp) (i:Nat):AS :=
 { env:=[(0, .i (.isl (bR l))),(1, .i (.isl (bR l))),(4, .bool false),(5, .int i),(10, .bool false),(14,jk i (.bool true)),(26,jk i (.bool false))],st:=[] }
theorem H8 (l:List Stp) (hl:l.length<9223372036854775808) (hs:∀ s∈l,s.2.length<9223372036854775808):aI C0 19 [.i (.isl (bR l)), .i (.isl (bR l))] []=some (.bool true,[]):=by
 rw[aF rfl Tryz.func19 rfl rfl];have hlen:(bR l).length=l.length:=by simp[bR]
 simp[hlen];rw[aT (ETS l) l.length (by simp[ETS])]
 ·rw[aG];simp[ETS,hlen]
 ·intro i hi;have h3:=zX hi;have hm:=zU h3;have r2:=nX h3;generalize l[i]=a at h3 r2 hm;have hc:=Y6 a (hs a hm);have w2:IntKind.i64.wrap ((i:Int)+1)=i+1:=wrO;simp only[wX]at r2;simp[ETS,hlen,hi,r2,hc,w2]
end Go.Proofs.YtjdfjgmebalaaaaGreat.P
namespace Go.Proofs.YtjdfjgmebalaaaaGreat.P
open Go Go.Av Go.Av.Mk
set_option maxRecDepth 4000
set_option maxHeartbeats 1000000
theorem ZQ (l:List Int) (k:Int) {i:Nat} (h:i<l.length):(DZ k l)[i]?=some (k+i):=by
 have h3:=zX h;have:=uG ATG AOM l k h3;rw[qD,yF,yN (by omega)]at this;exact this
def HIX (l:List Int) (k:Int) (i:Nat):AS :=
 { env:=[(0, .i (.isl (aD (DZ k l)))),(1, .int (k+i)),(4, .int 0),(5, .int i),(9,jk i (.bool true)),(17,jk i (.bool false))],st:=[] }
theorem Q9 (l:List Int) (k:Int) (h0:0≤k) (h1:k+(l.length:Nat)<1000000000000):aI C0 74 [.i (.isl (aD (DZ k l))), .int k] []=some (.int (k+(l.length:Nat)),[]):=by
 rw[aF rfl Tryz.func74 rfl rfl];have hlen:=dG ATG AOM l k;simp;rw[aT (HIX l k) l.length (by simp[HIX])]
 ·rw[aG];simp[HIX,hlen]
 ·intro i hi;have r2:=bK (ZQ l k hi);have w2:IntKind.i64.wrap ((i:Int)+1)=i+1:=wrO;have w3:IntKind.i64.wrap (k+i+1)=k+(i+1):=by rw[wrO];omega
  simp[HIX,hlen,hi,r2,w2,w3]
def HSX (l:List Stp) (k:Int) (i:Nat):AS :=
 { env:=[(0, .i (.isl (bR (dY IJ oJ k l)))),(1, .int (k+(bM oJ (l.take i):Nat))),(4, .int 0),(5, .int i),(9,jk i (.bool true)),(18,jk i (.bool false)),(29,jk i (.bool false))],st:=[] }
theorem UW (l:List Stp) (k:Int) (h0:0≤k) (h1:k+(bM oJ l:Nat)<1000000000000):aI C0 32 [.i (.isl (bR (dY IJ oJ k l))), .int k] []=some (.int (k+(bM oJ l:Nat)),[]):=by
 rw[aF rfl Tryz.func32 rfl rfl];have hlen:=dG IJ oJ l k;have hle:=qE (sz:=oJ) (fun e=>by unfold oJ;omega) l;simp;rw[aT (HSX l k) l.length (by simp[HSX,bM])]
 ·rw[aG];have hT:l.take l.length=l:=zZ (by simp);simp[HSX,hlen,hT]
 ·intro i hi;have h3:=zX hi;generalize l[i]=a at h3;have r2:=nX (uG IJ oJ l k h3);have hz:=rP oJ l h3;have hmono:=vI oJ l (i+1);have w2:IntKind.i64.wrap ((i:Int)+1)=i+1:=wrO;have hzz:k+((bM oJ (l.take (i+1)):Nat):Int)=k+(bM oJ (l.take i):Nat)+1+(a.2.length:Nat):=by rw[hz];unfold oJ;push_cast;omega
  generalize hq:k+((bM oJ (l.take i):Nat):Int)=q at r2 hzz;have w3:IntKind.i64.wrap (q+1)=q+1:=wrO;have hc:=Q9 a.2 (q+1) (by omega) (by omega);have hneg:¬ q+1+(a.2.length:Int)<0:=by omega
  simp only[wX,IJ]at r2;simp[HSX,hlen,hi,r2,hq,hzz,hc,hneg,w2,w3]
theorem AOX (l:List Ex) (k:Int) (h0:0≤k) (h1:k+4*(Ex.aM l:Nat)<1000000000000):aI C0 75 [.i (.isl (Ex.aB (Ex.lF k l))), .int k] []=some (.int (k+4*(Ex.aM l:Nat)),[]):=by
 have:=AME (.mk 0 0 Val.zero l) k h0 (by simpa [Ex.kids]using h1);simpa [Ex.kids]using this
def HPX (l:List Pn) (k:Int) (i:Nat):AS :=
 { env:=[(0, .i (.isl (Pn.aB (dY Pn.tO Pn.mz k l)))),(1, .int (k+(bM Pn.mz (l.take i):Nat))),(4, .int 0),(5, .int i),(9,jk i (.bool true)),(18,jk i (.bool false)),(27,jk i (.bool false)),(38,jk i (.bool false)),(47,jk i (.bool false)),(56,jk i (.bool false))],st:=[] }
theorem AMF {l:List Pn} {k:Int} (h0:0≤k) (h1:k+(bM Pn.mz l:Nat)<1000000000000) (ih:∀ p∈l,∀ q:Int,0≤q→q+(Pn.mzL p.kids:Nat)<1000000000000→aI C0 76 [.i (.isl (Pn.aB (Pn.mW q p.kids))), .int q] []=some (.int (q+(Pn.mzL p.kids:Nat)),[])) :
 aI C0 76 [.i (.isl (Pn.aB (dY Pn.tO Pn.mz k l))), .int k] []=some (.int (k+(bM Pn.mz l:Nat)),[]):=by
 rw[aF rfl Tryz.func76 rfl rfl];have hlen:=dG Pn.tO Pn.mz l k;have hle:=qE (sz:=Pn.mz) (fun e=>by have:=Pn.AGS e;omega) l;simp;rw[aT (HPX l k) l.length (by simp[HPX,bM])]
 ·rw[aG];have hT:l.take l.length=l:=zZ (by simp);simp[HPX,hlen,hT]
 ·intro i hi;have h3:=zX hi;have hm:=zU h3;generalize l[i]=a at h3 hm;have r2:=Pn.aP (uG Pn.tO Pn.mz l k h3);have hz:=rP Pn.mz l h3;have hmono:=vI Pn.mz l (i+1);have hza:=Pn.AGS a;have w2:IntKind.i64.wrap ((i:Int)+1)=i+1:=wrO;have hzz:k+((bM Pn.mz (l.take (i+1)):Nat):Int)=k+(bM Pn.mz (l.take i):Nat)+1+1+4*(Ex.aM a.exprs:Nat)+(a.cols.length:Nat)+(Pn.mzL a.kids:Nat):=by rw[hz,hza];push_cast;omega
  generalize hq:k+((bM Pn.mz (l.take i):Nat):Int)=q at r2 hzz;have hq0:0≤q:=by omega
  have hlim:q+1+1+4*(Ex.aM a.exprs:Nat)+(a.cols.length:Nat)+(Pn.mzL a.kids:Nat)<1000000000000:=by omega
  have w3:IntKind.i64.wrap (q+1)=q+1:=wrO;have w4:IntKind.i64.wrap (q+1+1)=q+1+1:=wrO;have c1:=AOX a.exprs (q+1+1) (by omega) (by omega);have c2:=Q9 a.cols (q+1+1+4*(Ex.aM a.exprs:Nat)) (by omega) (by omega);have c3:=ih a hm (q+1+1+4*(Ex.aM a.exprs:Nat)+(a.cols.length:Nat)) (by omega) (by omega);have n1:¬ q+1+1+4*(Ex.aM a.exprs:Int)<0:=by omega
  have n2:¬ q+1+1+4*(Ex.aM a.exprs:Int)+(a.cols.length:Int)<0:=by omega
  have n3:¬ q+1+1+4*(Ex.aM a.exprs:Int)+(a.cols.length:Int)+(Pn.mzL a.kids:Int)<0:=by omega
  rw[Pn.KO]at r2;push_cast at r2 c1 c2 c3 hzz;simp[HPX,hlen,hi,r2,hq,hzz,c1,c2,c3,n1,n2,n3,w2,w3,w4]
theorem AD3:∀ (p:Pn) (k:Int),0≤k→k+(Pn.mzL p.kids:Nat)<1000000000000→aI C0 76 [.i (.isl (Pn.aB (Pn.mW k p.kids))), .int k] []=some (.int (k+(Pn.mzL p.kids:Nat)),[]):=by
 intro p
 induction p using Pn.ind with
 | h k t es cs ks ih =>
  intro q h0 h1;simp only[Pn.kids]at h1 ⊢;rw[uH,← vH];rw[← vH]at h1;exact AMF h0 h1 ih
end Go.Proofs.YtjdfjgmebalaaaaGreat.P
namespace Go.Av
open Go.Av.Mk
def Pn.mkK (k:Int) (q:Pn):Pn:=.mk q.kind q.table (Ex.lF k q.exprs) (DZ (k+4*(Ex.aM q.exprs:Nat)) q.cols) (Pn.mW (k+4*(Ex.aM q.exprs:Nat)+(q.cols.length:Nat)) q.kids)
theorem KP (l:List Ex) (k:Int):(Ex.lF k l).length=l.length:=by rw[D7];exact dG _ _ l k
theorem ET (l:List Pn) (k:Int):(Pn.mW k l).length=l.length:=by rw[uH];exact dG _ _ l k
theorem PZ (l:List Int) (k:Int):(DZ k l).length=l.length:=dG _ _ l k
theorem ZZ {l:List Ex} (h:l≠[]) (k:Int):Ex.lF k l≠[]:=fun e=>by have:=KP l k;rw[e]at this;exact h (zW.1 (by simpa using this.symm))
theorem UD {l:List Pn} (h:l≠[]) (k:Int):Pn.mW k l≠[]:=fun e=>by have:=ET l k;rw[e]at this;exact h (zW.1 (by simpa using this.symm))
theorem AR2 {l:List Int} (h:l≠[]) (k:Int):DZ k l≠[]:=fun e=>by have:=PZ l k;rw[e]at this;exact h (zW.1 (by simpa using this.symm))
theorem AFT {q:Pn} {k:Int}:rqB (q.mkK k)=(if q.exprs=[]then []else [some (.tre 5 (Ex.aB (Ex.lF k q.exprs)))])++((if q.cols=[]then []else [some (.arr 1 (aD (DZ (k+4*(Ex.aM q.exprs:Nat)) q.cols)))])++(if q.kids=[]then []else [some (.tre 5 (Pn.aB (Pn.mW (k+4*(Ex.aM q.exprs:Nat)+(q.cols.length:Nat)) q.kids)))])):=by
 unfold rqB Pn.mkK;simp only[Pn.cB,Pn.eT,Pn.fQ]
 by_cases q1:q.exprs=[]<;>by_cases q2:q.cols=[]<;>by_cases q3:q.kids=[] <;>
  simp[q1,q2,q3,Ex.lF,Pn.mW,dY,Pn.eO,Pn.iW,Pn.cB,Pn.eT,Pn.fQ,ZZ,UD,AR2]
theorem AFE:∀ (a b:Stp),wX a=wX b→a=b:=by
 intro a b h;simp only[wX,List.cons.injEq,IV.lit.injEq,Value.int.injEq,IV.isl.injEq,true_and,and_true]at h;exact Prod.ext h.1 (DD h.2)
@[simp] theorem ABU (s:Stp):oL (wX s)=true:=(rfl)
theorem AGX (q:Pn):(q.mk4:Int)=4*(Ex.aM q.exprs:Nat)+((q.cols.length:Nat)+(Pn.mzL q.kids:Nat)):=by unfold Pn.mk4;push_cast;rfl
end Go.Av
namespace Go.Proofs.YtjdfjgmebalaaaaGreat.P
open Go Go.Av Go.Av.Mk
set_option maxRecDepth 4000
set_option maxHeartbeats 8000000
theorem XX {q:Pn} {k:Int} (h0:0≤k) (h1:k+(q.mk4:Nat)<1000000000000):aI C0 38 [.i (.agg (q.mkK k).cells), .int k] []=some (.int (k+(q.mk4:Nat)),[]):=by
 have hm:=AGX q;have c1:=AOX q.exprs k h0 (by omega);have c2:=Q9 q.cols (k+4*(Ex.aM q.exprs:Nat)) (by omega) (by omega);have c3:=AD3 q (k+4*(Ex.aM q.exprs:Nat)+(q.cols.length:Nat)) (by omega) (by omega);have n1:¬ k+4*(Ex.aM q.exprs:Int)<0:=by omega
 have n2:¬ k+4*(Ex.aM q.exprs:Int)+(q.cols.length:Int)<0:=by omega
 have n3:¬ k+4*(Ex.aM q.exprs:Int)+(q.cols.length:Int)+(Pn.mzL q.kids:Int)<0:=by omega
 rw[aF rfl Tryz.func38 rfl rfl,Pn.aA];have hm2:k+(q.mk4:Int)=k+4*(Ex.aM q.exprs:Nat)+(q.cols.length:Nat)+(Pn.mzL q.kids:Nat):=by omega
 rw[hm2];simp[Pn.mkK,Pn.eO,Pn.iW,Pn.cB,Pn.eT,Pn.fQ,c1,c2,c3,n1,n2,n3]
attribute [local simp] o8 XK give oP l7 kY tY mfA mfR AJS ALV mfC WG mfB.eq_1 mfB.eq_2 mfB.eq_7 fP CY
noncomputable def AQR:FuncId→Option (List AV→StL→Option (AV×StL))
 | 6=>none
 | 7=>none
 | 8=>none
 | 29=>none
 | 30=>none
 | 37=>none
 | 73=>some (qJ Pn.cells Pn.tO Pn.mz 5)
 | 72=>some (qJ Ex.cells Ex.wB exZ 5)
 | 31=>some (qJ wX IJ oJ 2)
 | 13=>some (o8 (aI CT) 13)
 | 14=>some (o8 (aI CT) 14)
 | 35=>some (o8 (aI CT) 35)
 | 15=>some (o8 (aI CT) 15)
 | 26=>some (o8 (aI C5) 26)
 | 40=>some (o8 (aI C6) 40)
 | 42=>some (o8 (aI C8) 42)
 | 34=>some (give (aI C0) 34)
 | 39=>some (give (aI CA) 39)
 | 41=>some (give (aI CA) 41)
 | g=>if g=lU then none else some (o8 (aI C0) g)
noncomputable def CZ:Ctx:={ P:=Tryz.prog,G:=GS,ownArgs:=fun _=>true,keepRes:=fun _=>false,eqT:=wS,prim:=AQR,tree:=true }
@[simp] theorem Ap9:CZ.P=Tryz.prog:=(rfl)
@[simp] theorem ApB (f):CZ.G f=GS f:=(rfl)
@[simp] theorem Ap6 (f):CZ.ownArgs f=true:=(rfl)
@[simp] theorem Ap7 (f):CZ.keepRes f=false:=(rfl)
@[simp] theorem Ap8 (f):CZ.eqT f=wS f:=(rfl)
@[simp] theorem Ap5:CZ.tree=true:=(rfl)
theorem AVW:PrimOk CZ:=by
 have h0:=aS bH;have hT:=aS AV6;have h5:=aS AFN;have h6:=aS AQ9;have h8:=aS AQ8;have hA:=aS AQA
 have key:∀ g q,CZ.prim g=some q→(g=73∧q=qJ Pn.cells Pn.tO Pn.mz 5)∨(g=72∧q=qJ Ex.cells Ex.wB exZ 5)∨(g=31∧q=qJ wX IJ oJ 2)∨(g=13∧q=o8 (aI CT) g)∨(g=14∧q=o8 (aI CT) g)∨(g=35∧q=o8 (aI CT) g)∨(g=15∧q=o8 (aI CT) g)∨(g=26∧q=o8 (aI C5) g)∨(g=40∧q=o8 (aI C6) g)∨(g=42∧q=o8 (aI C8) g)∨(g=34∧q=give (aI C0) g)∨(g=39∧q=give (aI CA) g)∨(g=41∧q=give (aI CA) g)∨(g≠lU∧q=o8 (aI C0) g):=by
  intro g q h;have h:AQR g=some q:=h;unfold AQR at h;split at h
  all_goals first
   | (cases h;done)
   | (injection h with h;subst h;simp;done)
   | (split at h
      ·cases h
      ·rename_i hy;injection h with h;subst h;exact .inr (.inr (.inr (.inr (.inr (.inr (.inr (.inr (.inr (.inr (.inr (.inr (.inr ⟨hy,rfl⟩)))))))))))))
 constructor
 ·intro g args st p h;unfold bE at h
  cases hq:CZ.prim g with
  | none=>rw[hq]at h;cases h
  | some q =>
   rw[hq]at h
   rcases key g q hq with ⟨rfl,rfl⟩|⟨rfl,rfl⟩|⟨rfl,rfl⟩|⟨rfl,rfl⟩|⟨rfl,rfl⟩|⟨rfl,rfl⟩|⟨rfl,rfl⟩|⟨rfl,rfl⟩|⟨rfl,rfl⟩|⟨rfl,rfl⟩|⟨rfl,rfl⟩|⟨rfl,rfl⟩|⟨rfl,rfl⟩|⟨hy,rfl⟩
   ·exact⟨Tryz.f73,Tryz.func73,by decide,rfl⟩
   ·exact⟨Tryz.f72,Tryz.func72,by decide,rfl⟩
   ·exact⟨Tryz.f31,Tryz.func31,by decide,rfl⟩
   ·exact(bW hT (r:=p.1) (stl':=p.2) h).1
   ·exact(bW hT (r:=p.1) (stl':=p.2) h).1
   ·exact(bW hT (r:=p.1) (stl':=p.2) h).1
   ·exact(bW hT (r:=p.1) (stl':=p.2) h).1
   ·exact(bW h5 (r:=p.1) (stl':=p.2) h).1
   ·exact(bW h6 (r:=p.1) (stl':=p.2) h).1
   ·exact(bW h8 (r:=p.1) (stl':=p.2) h).1
   ·exact(nT h0 (r:=p.1) (stl':=p.2) h).1
   ·exact(nT hA (r:=p.1) (stl':=p.2) h).1
   ·exact(nT hA (r:=p.1) (stl':=p.2) h).1
   ·exact(bW h0 (r:=p.1) (stl':=p.2) h hy).1
 ·intro g args st r st' h w m φ vs hi hr hb;unfold bE at h
  cases hq:CZ.prim g with
  | none=>rw[hq]at h;cases h
  | some q =>
   rw[hq]at h
   rcases key g q hq with ⟨rfl,rfl⟩|⟨rfl,rfl⟩|⟨rfl,rfl⟩|⟨rfl,rfl⟩|⟨rfl,rfl⟩|⟨rfl,rfl⟩|⟨rfl,rfl⟩|⟨rfl,rfl⟩|⟨rfl,rfl⟩|⟨rfl,rfl⟩|⟨rfl,rfl⟩|⟨rfl,rfl⟩|⟨rfl,rfl⟩|⟨hy,rfl⟩
   ·exact ER (C:=C0) AW7 (fun e=>by rw[Pn.aA];rfl) Pn.FB h w m φ vs hi hr hb
   ·exact ER (C:=C0) AOY (fun e=>by rw[Ex.aA];rfl) Ex.FB h w m φ vs hi hr hb
   ·exact ER (C:=C0) AUR (fun _=>rfl) ABU h w m φ vs hi hr hb
   ·exact(bW hT h).2 w m φ vs hi hr hb
   ·exact(bW hT h).2 w m φ vs hi hr hb
   ·exact(bW hT h).2 w m φ vs hi hr hb
   ·exact(bW hT h).2 w m φ vs hi hr hb
   ·exact(bW h5 h).2 w m φ vs hi hr hb
   ·exact(bW h6 h).2 w m φ vs hi hr hb
   ·exact(bW h8 h).2 w m φ vs hi hr hb
   ·exact(nT h0 h).2 w m φ vs hi hr hb
   ·exact(nT hA h).2 w m φ vs hi hr hb
   ·exact(nT hA h).2 w m φ vs hi hr hb
   ·exact(bW h0 h hy).2 w m φ vs hi hr hb
theorem AV5:SoundOk CZ:=gF (C:=CZ) ft nt eqS mo AVW
theorem AK4 {p:Pn} (hf:p.fat) {left:Int} (h0:0≤left) (h1:left<1000000000):aI CZ 10 [.i (.agg p.cells), .int left] []=some (.int (dZ left p.meas),[]):=by
 rw[aU (C:=CZ) (p:=o8 (aI C0) 10) rfl];have h:=AFA p hf left h0 h1;simp[h]
theorem AK2 {p:Pn} (ht:p.thin):aI CZ 13 [.i (.agg p.cells)] []=some (tP p 0,tPB p):=by
 rw[aU (C:=CZ) (p:=o8 (aI CT) 13) rfl];simp[AUD p ht,tP,tPB,iR]
theorem AK3 {l:List Int} (hl:l.length<1000000000):aI CZ 14 [.i (.isl (aD l))] []=some (.osl 0 1 0 l.length,[some (.arr 1 (aD l))]):=by
 rw[aU (C:=CZ) (p:=o8 (aI CT) 14) rfl];simp[ANR l hl,iR]
def tU (l:List Stp) (j:Nat):AV:=.osl j 2 0 l.length
theorem AER {p:Pn} (hp:p.fat):aI CZ 17 [tP p 0,tP p 3] (tPB p++tPB p)=some (.bool true,tPB p++tPB p):=by
 have h:=M3 p hp;rw[aU (C:=CZ) (p:=o8 (aI C0) 17) rfl];rw[Pn.aA,Ex.bS,Pn.bS]at h;have hb:=oH p.cols;simp[tP,tPB,h,hb]
theorem AES {q:Pn} (hq:q.fat):aI CZ 17 [rqA q 0, .i (.agg q.cells)] (rqB q)=some (.bool true,rqB q):=by
 have h:=M3 q hq;rw[aU (C:=CZ) (p:=o8 (aI C0) 17) rfl];rw[Pn.aA]at h ⊢;have b1:=TB q.exprs;have b2:=TA q.cols;have b3:=T9 q.kids;have b4:=iR q.cols
 by_cases q1:q.exprs=[]<;>by_cases q2:q.cols=[]<;>by_cases q3:q.kids=[] <;>
  (simp only[rqA,rqB,q1,q2,q3,if_true,if_false,yQ,zA,yX,Ex.aB,aD,Pn.aB]at h b1 b2 b3 b4 ⊢
   simp[h,b1,b2,b3,b4])
theorem AK5 {l:List Int} (hl:l.length<9223372036854775808):aI CZ 18 [.osl 0 1 0 l.length, .osl 1 1 0 l.length] [some (.arr 1 (aD l)),some (.arr 1 (aD l))]=some (.bool true,[some (.arr 1 (aD l)),some (.arr 1 (aD l))]):=by
 have h:=AY l hl;rw[aU (C:=CZ) (p:=o8 (aI C0) 18) rfl];have hb:=oH l;simp[h,hb]
def MIZ (l:List Int) (k:Int) (i:Nat):AS :=
 { env:=[(0, .osl 0 1 0 l.length),(1, .int (k+i)),(4, .int 0),(5, .int i),(9,jk i (.bool true))],st:=[some (.arr 1 (aD ((DZ k l).take i++l.drop i)))] }
theorem EB {l:List Int} {k:Int} (h0:0≤k) (h1:k+(l.length:Nat)<1000000000000):aI CZ 30 [.osl 0 1 0 l.length, .int k] [some (.arr 1 (aD l))]=some (.int (k+(l.length:Nat)),[some (.arr 1 (aD (DZ k l)))]):=by
 rw[aF rfl Tryz.func30 rfl rfl];have hlen:(DZ k l).length=l.length:=dG ATG AOM l k;simp;rw[aT (MIZ l k) l.length (by simp[MIZ])]
 ·rw[aG];have ht:(DZ k l).take l.length=DZ k l:=zZ (by omega);simp[MIZ,ht]
 ·intro i hi;have hs:=aL (ZQ l k hi);have hd:=yE hi;generalize l[i]=a at hd;have hA:(aD ((DZ k l).take i)).length=i:=by simp[hlen];omega
  have w2:IntKind.i64.wrap ((i:Int)+1)=i+1:=wrO;have w3:IntKind.i64.wrap (k+i+1)=k+(i+1):=by rw[wrO];omega
  have g1:fU (aD ((DZ k l).take i)++[.int a]::aD (l.drop (i+1))) i=some [.int a]:=by
   have:=o6 (aD ((DZ k l).take i)) [IV.int a] (aD (l.drop (i+1)))
   rwa [hA]at this
  have g2:(aD ((DZ k l).take i)++[.int a]::aD (l.drop (i+1))).set i [.int (k+i)]=aD ((DZ k l).take i)++[.int (k+i)]::aD (l.drop (i+1)):=by
   rw[zA1 _ _ (by omega),hA,zE0,zB5]
  have e1:aD ((DZ k l).take i++l.drop i)=aD ((DZ k l).take i)++[.int a]::aD (l.drop (i+1)):=by
   rw[gB,hd];rfl
  have e2:aD ((DZ k l).take (i+1)++l.drop (i+1))=aD ((DZ k l).take i)++[.int (k+i)]::aD (l.drop (i+1)):=by
   rw[hs,gB,gB,yY];rfl
  simp only[MIZ,e1,e2];simp[hi,g1,g2,w2,w3]
theorem WO {k:Int}:aI CZ 30 [.nils, .int k] []=some (.int k,[]):=by
 rw[aF rfl Tryz.func30 rfl rfl];simp;rw[aG];simp
theorem WK {l:List Stp} {k:Int} (h0:0≤k) (h1:k+(bM oJ l:Nat)<1000000000000):aI CZ 31 [tU l 0, .int k] [some (nQ wX 2 l)]=some (.int (k+(bM oJ l:Nat)),[some (nQ wX 2 (dY IJ oJ k l))]):=by
 rw[aU (C:=CZ) (p:=qJ wX IJ oJ 2) rfl];exact Q6 (W:=2) (mk:=IJ) (sz:=oJ) AFE (l:=l) (k:=k) h0 h1
theorem RH {l:List Ex} {k:Int} (h0:0≤k) (h1:k+4*(Ex.aM l:Nat)<1000000000000):aI CZ 72 [.osl 0 5 0 l.length, .int k] [some (nQ Ex.cells 5 l)]=some (.int (k+4*(Ex.aM l:Nat)),[some (nQ Ex.cells 5 (Ex.lF k l))]):=by
 rw[aU (C:=CZ) (p:=qJ Ex.cells Ex.wB exZ 5) rfl];have:=Q6 (W:=5) (mk:=Ex.wB) (sz:=exZ) Ex.FD (l:=l) (k:=k) h0 (by rw[vJ];push_cast;omega);rw[vJ,← D7]at this;push_cast at this;exact this
theorem ABD {k:Int} (h0:0≤k) (h1:k<1000000000000):aI CZ 72 [.nils, .int k] []=some (.int k,[]):=by
 rw[aU (C:=CZ) (p:=qJ Ex.cells Ex.wB exZ 5) rfl];simp[qJ,h0,h1]
theorem RG {l:List Pn} {k:Int} (h0:0≤k) (h1:k+(Pn.mzL l:Nat)<1000000000000):aI CZ 73 [.osl 0 5 0 l.length, .int k] [some (nQ Pn.cells 5 l)]=some (.int (k+(Pn.mzL l:Nat)),[some (nQ Pn.cells 5 (Pn.mW k l))]):=by
 rw[aU (C:=CZ) (p:=qJ Pn.cells Pn.tO Pn.mz 5) rfl];have:=Q6 (W:=5) (mk:=Pn.tO) (sz:=Pn.mz) Pn.M9 (l:=l) (k:=k) h0 (by rw[vH];omega);rw[vH,← uH]at this;exact this
theorem ABC {k:Int} (h0:0≤k) (h1:k<1000000000000):aI CZ 73 [.nils, .int k] []=some (.int k,[]):=by
 rw[aU (C:=CZ) (p:=qJ Pn.cells Pn.tO Pn.mz 5) rfl];simp[qJ,h0,h1]
theorem WM {p:Pn} {k:Int} (h0:0≤k) (h1:k+(p.mk4:Nat)<1000000000000):aI CZ 29 [tP p 0, .int k] (tPB p)=some (.int (k+(p.mk4:Nat)),tPB (p.mkK k)):=by
 have hm:=AGX p;have c1:=RH (l:=p.exprs) h0 (by omega);have c2:=EB (l:=p.cols) (k:=k+4*(Ex.aM p.exprs:Nat)) (by omega) (by omega);have c3:=RG (l:=p.kids) (k:=k+4*(Ex.aM p.exprs:Nat)+(p.cols.length:Nat)) (by omega) (by omega);rw[aF rfl Tryz.func29 rfl rfl];have hm2:k+(p.mk4:Int)=k+4*(Ex.aM p.exprs:Nat)+(p.cols.length:Nat)+(Pn.mzL p.kids:Nat):=by omega
 rw[hm2];simp[tP,tPB,Pn.mkK,Pn.eO,Pn.iW,Pn.cB,Pn.eT,Pn.fQ,c1,c2,c3]
theorem WN {q:Pn} {k:Int} (h0:0≤k) (h1:k+(q.mk4:Nat)<1000000000000):aI CZ 29 [rqA q 0, .int k] (rqB q)=some (.int (k+(q.mk4:Nat)),rqB (q.mkK k)):=by
 have hm:=AGX q;have hm2:k+(q.mk4:Int)=k+4*(Ex.aM q.exprs:Nat)+(q.cols.length:Nat)+(Pn.mzL q.kids:Nat):=by omega
 rw[aF rfl Tryz.func29 rfl rfl,AFT,hm2];by_cases q1:q.exprs=[]<;>by_cases q2:q.cols=[]<;>by_cases q3:q.kids=[]
 all_goals
  have c1:=RH (l:=q.exprs) h0 (by omega);have c2:=EB (l:=q.cols) (k:=k+4*(Ex.aM q.exprs:Nat)) (by omega) (by omega);have c3:=RG (l:=q.kids) (k:=k+4*(Ex.aM q.exprs:Nat)+(q.cols.length:Nat)) (by omega) (by omega);have d1:=ABD h0 (by omega);have d2:=WO (k:=k+4*(Ex.aM q.exprs:Nat));have d3:=ABC (k:=k+4*(Ex.aM q.exprs:Nat)+(q.cols.length:Nat)) (by omega) (by omega)
  try rw[lN q1,lN (ZZ q1 k),← Ex.bS,← Ex.bS]at c1
  try rw[lN q3,lN (UD q3 _),← Pn.bS,← Pn.bS]at c3
  simp only[rqA,rqB,q1,q2,q3,if_true,if_false,yQ,zA,yX,Ex.aM,Pn.mzL,yT]at c1 c2 c3 d1 d2 d3 ⊢
  try simp at c1 c2 c3 d1 d2 d3
  simp[c1,c2,c3,d1,d2,d3]
theorem WP {q:Pn} {k:Int} (h0:0≤k) (h1:k+(q.mk4:Nat)<1000000000000):aI CZ 38 [rqA q 0, .int k] (rqB (q.mkK k))=some (.int (k+(q.mk4:Nat)),rqB (q.mkK k)):=by
 have h:=XX h0 h1;rw[aU (C:=CZ) (p:=o8 (aI C0) 38) rfl];rw[Pn.aA]at h;simp only[Pn.mkK,Pn.eO,Pn.iW,Pn.cB,Pn.eT,Pn.fQ]at h;rw[AFT];have b1:=TB (Ex.lF k q.exprs);have b2:=TA (DZ (k+4*(Ex.aM q.exprs:Nat)) q.cols);have b3:=T9 (Pn.mW (k+4*(Ex.aM q.exprs:Nat)+(q.cols.length:Nat)) q.kids);have b4:=iR (DZ (k+4*(Ex.aM q.exprs:Nat)) q.cols);rw[KP]at b1;rw[PZ]at b2;rw[ET]at b3
 by_cases q1:q.exprs=[]<;>by_cases q2:q.cols=[]<;>by_cases q3:q.kids=[] <;>
  (simp only[rqA,q1,q2,q3,if_true,if_false,yQ,zA,yX,Ex.aB,aD,Pn.aB,Ex.lF,Pn.mW,dY]at h b1 b2 b3 b4 ⊢
   try simp at h
   simp[h,b1,b2,b3,b4,KP,ET,PZ])
def nrP (ws:List Int) (p:Pn):Pn:=if p.width ws=0 then Pn.zero else nP ws p 40
def nrL (ws:List Int) (p:Pn):List Stp:=if p.width ws=0 then []else nL ws p 40
theorem RB {p:Pn} (hp:p.thin) {ws:List Int} (hl:ws.length<1000000000):aI CZ 41 [tP p 0, .osl 3 1 0 ws.length] (tPB p++[some (.arr 1 (aD ws))])=some (.tup [.i (.agg (nrP ws p).cells), .i (.isl (bR (nrL ws p)))],[none,none,none,none]):=by
 have h:=PK p hp ws hl
 have hr:nrR ws p=(.tup [.i (.agg (nrP ws p).cells), .i (.isl (bR (nrL ws p)))],[]):=by
  unfold nrR nrP nrL;split<;>rfl
 rw[hr]at h;rw[aU (C:=CZ) (p:=give (aI CA) 41) rfl];rw[Pn.aA p]at h;simp only[Ex.bS p.exprs,Pn.bS p.kids]at h;have ha:=oH ws;have hb:=oH p.cols;generalize nrP ws p=q at h ⊢;generalize nrL ws p=l at h ⊢;rw[Pn.aA q]at h ⊢;simp[tP,tPB,h,ha,hb]
theorem WQ {p:Pn} {ws:List Int}:aI CZ 42 [tP p 0, .osl 3 1 0 ws.length] (tPB p++[some (.arr 1 (aD ws))])=some (.tup [rqA (nrP ws p) 4,if nrL ws p=[]then .nils else .osl (4+(rqB (nrP ws p)).length) 2 0 (nrL ws p).length],tPB p++([some (.arr 1 (aD ws))]++(rqB (nrP ws p)++if nrL ws p=[]then []else [some (.tre 2 (bR (nrL ws p)))]))):=by
 have h:=R6 p ws
 have hr:AYF ws p=(.tup [rqA (nrP ws p) 0,if nrL ws p=[]then .nils else .osl (rqB (nrP ws p)).length 2 0 (nrL ws p).length],rqB (nrP ws p)++if nrL ws p=[]then []else [some (.tre 2 (bR (nrL ws p)))]):=by
  unfold AYF nrP nrL;by_cases h0:p.width ws=0
  ·simp[h0,rqB,Pn.zero]
  ·simp[h0]
 rw[hr]at h;rw[aU (C:=CZ) (p:=o8 (aI C8) 42) rfl];rw[Pn.aA p]at h;simp only[Ex.bS p.exprs,Pn.bS p.kids]at h;have ha:=oH ws;have hb:=oH p.cols;generalize nrP ws p=q at h ⊢;generalize nrL ws p=l at h ⊢;have b4:=iR q.cols;have b5:=l8 l
 by_cases hl:l=[]<;>by_cases q1:q.exprs=[]<;>by_cases q2:q.cols=[]<;>by_cases q3:q.kids=[] <;>
  (simp only[rqA,rqB,hl,q1,q2,q3,if_true,if_false,yQ,zA,yX,zQ,yT]at h ⊢
   simp[tP,tPB,h,ha,hb,b4,b5])
theorem ABE {l:List Stp} (hl:l.length<9223372036854775808) (hs:∀ s∈l,s.2.length<9223372036854775808):aI CZ 19 [.osl 0 2 0 l.length, .i (.isl (bR l))] [some (.tre 2 (bR l))]=some (.bool true,[some (.tre 2 (bR l))]):=by
 have h:=H8 l hl hs;rw[aU (C:=CZ) (p:=o8 (aI C0) 19) rfl];have ht:(bR l).take l.length=bR l:=zZ (by rw[dQ];omega);have b5:=l8 l;have b6:=dQ l;simp[h,ht,b5,b6]
theorem ABF:aI CZ 19 [.nils, .i (.isl [])] []=some (.bool true,[]):=by
 have h:=H8 [] (by simp) (by simp);rw[aU (C:=CZ) (p:=o8 (aI C0) 19) rfl];simp[bR]at h;simp[h]
theorem RD {l:List Stp} (hn:l≠[]) {k:Int} (h0:0≤k) (h1:k+(bM oJ l:Nat)<1000000000000):aI CZ 31 [.osl 0 2 0 l.length, .int k] [some (.tre 2 (bR l))]=some (.int (k+(bM oJ l:Nat)),[some (.tre 2 (bR (dY IJ oJ k l)))]):=by
 have h:=WK (l:=l) h0 h1
 have hn2:dY IJ oJ k l≠[]:=by
  intro e;have:=dG IJ oJ l k;rw[e]at this;exact hn (zW.1 (by simpa using this.symm))
 rw[lN hn,lN hn2]at h;exact h
theorem RF {k:Int} (h0:0≤k) (h1:k<1000000000000):aI CZ 31 [.nils, .int k] []=some (.int k,[]):=by
 rw[aU (C:=CZ) (p:=qJ wX IJ oJ 2) rfl];simp[qJ,h0,h1]
theorem RI {l:List Stp} {k:Int} (h0:0≤k) (h1:k+(bM oJ l:Nat)<1000000000000):aI CZ 32 [.osl 0 2 0 l.length, .int k] [some (.tre 2 (bR (dY IJ oJ k l)))]=some (.int (k+(bM oJ l:Nat)),[some (.tre 2 (bR (dY IJ oJ k l)))]):=by
 have h:=UW l k h0 h1;have hl:=dG IJ oJ l k;rw[aU (C:=CZ) (p:=o8 (aI C0) 32) rfl];have b6:=dQ (dY IJ oJ k l);have ht:(bR (dY IJ oJ k l)).take l.length=bR (dY IJ oJ k l):=zZ (by rw[b6];omega);have b5:=l8 (dY IJ oJ k l);simp[h,ht,hl,b5,b6]
theorem RJ {k:Int} (h0:0≤k) (h1:k<1000000000000):aI CZ 32 [.nils, .int k] []=some (.int k,[]):=by
 have h:=UW [] k h0 (by simp[bM];omega);rw[aU (C:=CZ) (p:=o8 (aI C0) 32) rfl];simp[bR,dY,bM]at h;simp[h]
end Go.Proofs.YtjdfjgmebalaaaaGreat.P
namespace Go.Proofs.YtjdfjgmebalaaaaGreat.P
open Go Go.Av
set_option maxRecDepth 4000
set_option maxHeartbeats 1000000
noncomputable def AZP:FuncId→Option (List AV→StL→Option (AV×StL))
 | 3=>none
 | 10=>some (aI C0 10)
 | 11=>some (aI C0 11)
 | 13=>some (aI C0 13)
 | 14=>some (aI C0 14)
 | 15=>some (aI C0 15)
 | 17=>some (aI C0 17)
 | 18=>some (aI C0 18)
 | 19=>some (aI C0 19)
 | 16=>some (aI CA 16)
 | 12=>some (aI CA 12)
 | g=>ACJ g
noncomputable def CXk:Ctx:={ P:=Tryz.prog,G:=GS,ownArgs:=ATE,keepRes:=ARF,eqT:=wS,prim:=AZP }
@[simp] theorem AkQ:CXk.P=Tryz.prog:=(rfl)
@[simp] theorem AkR (f):CXk.G f=GS f:=(rfl)
@[simp] theorem AkN (f):CXk.ownArgs f=ATE f:=(rfl)
@[simp] theorem AkO (f):CXk.keepRes f=(keepR f || decide (f=159)):=(rfl)
@[simp] theorem AkP (f):CXk.eqT f=wS f:=(rfl)
@[simp] theorem AkM:CXk.tree=false:=(rfl)
section
variable {H:Type} {enc:TypeId×Value→H} {w:World} {sp:Nat→Bool}
end
end Go.Proofs.YtjdfjgmebalaaaaGreat.P
namespace Go.Av
theorem Ex.JI:∀ (e:Ex),e.thin→e.fat:=by
 intro e
 induction e using Ex.ind with
 | h k c v ks ih =>
  intro h;have h':=(Ex.bO _).1 h;exact(Ex.sI _).2 ⟨by have:=h'.1;omega,fun a ha=>ih a ha (h'.2 a ha)⟩
theorem Pn.JI:∀ (p:Pn),p.thin→p.fat:=by
 intro p
 induction p using Pn.ind with
 | h k t es cs ks ih =>
  intro h;obtain⟨h1,h2,h3,h4,h5⟩:=(Pn.bO _).1 h;exact(Pn.sI _).2 ⟨by omega,fun e he=>Ex.JI e (h2 e he),by omega,by omega,fun a ha=>ih a ha (h5 a ha)⟩
theorem TP:∀ {l:List Ex},(∀ e∈l,e.size<1000)→Ex.aM l≤1000*l.length
 | [],_=>by simp[Ex.aM]
 | a::l,h=>by
  have h1:=h a (by simp);have h2:=TP (l:=l) fun e he=>h e (by simp[he])
  simp only[Ex.aM,zQ];omega
theorem AU7 {ws:List Int}:∀ (p:Pn) (lv:Nat),p.wd ws lv≠0→p.ms≤7000*p.size:=by
 intro p
 induction p using Pn.ind with
 | h k t es cs ks ih =>
  intro lv h;have hsh:=rC h;generalize hp:Pn.mk k t es cs ks=p at hsh h;have hk:ks=p.kids:=by rw[← hp];rfl
  subst hk;have hkid:∀ a∈p.kids,∀ m,a.wd ws m≠0→a.ms≤7000*a.size:=fun a ha m h=>ih a ha m h
  cases hsh with
  | scan t W h0 h1 hW=>simp[Pn.scan,Pn.ms,Pn.size,Ex.aM,Pn.msL,Pn.aM]
  | filt m e a h1 ha he =>
   have:=hkid a (by simp[filt]) m ha;have:=Ex.gH he;simp only[filt,Pn.ms,Pn.size,Ex.aM,Pn.msL,Pn.aM,yT];omega
  | proj m es a h1 ha hl he =>
   have:=hkid a (by simp[proj]) m ha;have h2:=TP (l:=es) fun e h=>Ex.gH (he e h)
   have h3:es.length≤6:=by simp[bQ]at hl;omega
   simp only[proj,Pn.ms,Pn.size,Pn.msL,Pn.aM,yT];omega
  | pair m k e a b h1 hk ha hb hl he =>
   have:=hkid a (by simp[bB]) m ha;have:=hkid b (by simp[bB]) m hb;have:=Ex.gH he;simp only[bB,Pn.ms,Pn.size,Ex.aM,Pn.msL,Pn.aM,yT];omega
  | union m a b h1 ha hb =>
   have:=hkid a (by simp[dF]) m ha;have:=hkid b (by simp[dF]) m (by rw[hb];exact ha);simp only[dF,Pn.ms,Pn.size,Ex.aM,Pn.msL,Pn.aM,yT];omega
  | dist m a h1 ha =>
   have:=hkid a (by simp) m ha;simp only[Pn.ms,Pn.size,Ex.aM,Pn.msL,Pn.aM,yT];omega
  | group m cs a h1 ha hc ho =>
   have:=hkid a (by simp) m ha;simp only[Pn.ms,Pn.size,Ex.aM,Pn.msL,Pn.aM];omega
theorem AK8 {ws:List Int} {p:Pn} (h:p.wd ws 8≠0):p.meas<100000000:=by
 have h1:=AU7 p 8 h;have h2:=(Pn.tT p 8 h).2;rw[Pn.ALP]at h1;omega
end Go.Av
namespace Go.Proofs.YtjdfjgmebalaaaaGreat.P
open Go Go.Av Go.Av.Mk
set_option maxRecDepth 8000
set_option maxHeartbeats 16000000
theorem AGP {ws:List Int} {p:Pn}:(nrL ws p).length≤40∧∀ s∈nrL ws p,s.2.length≤8:=by
 unfold nrL;by_cases h0:p.width ws=0
 ·simp[h0]
 ·simp only[h0,if_false];obtain⟨j,hj,h1,h2,h3,h4,h5⟩:=KF ws p;refine⟨by rw[h4,h5];exact hj,?_⟩
  have key:∀ i,∀ s∈nL ws p i,s.2.length≤8:=by
   intro i
   induction i with
   | zero=>intro s h;simp[nL]at h
   | succ i ih =>
    intro s h;simp only[nL]at h
    cases hf:lJ (stI ws [] (nP ws p i))with
    | none=>rw[hf]at h;exact ih s h
    | some u =>
     rw[hf]at h
     rcases zV.1 h with h|h
     ·exact ih s h
     ·have hu:s=u:=by simpa using h
      subst hu;obtain⟨q,hq,_,_⟩:=IZ (by rw[D6 h0];exact h0) hf;unfold apO at hq;split at hq
      ·cases hq
      ·unfold apI at hq;split at hq
       ·rename_i hl;exact hl
       ·cases hq
  exact key 40
theorem AZY {ws:List Int} {p:Pn} (h0:p.width ws≠0) (n:Nat):(nP ws p n).thin∧(nP ws p n).meas<100000000∧Shp (nP ws p n):=by
 have hw8:=(gL (ws:=ws) (p:=nP ws p n) (by rw[D6 h0];exact h0)).2;exact⟨dJ _ 8 hw8,AK8 hw8,RU hw8⟩
theorem AWC (ws:List Int) (p:Pn):(nrP ws p).thin∧(nrP ws p).meas<100000000∧Shp (nrP ws p):=by
 by_cases h0:p.width ws=0
 ·have h1:nrP ws p=Pn.zero:=if_pos h0;rw[h1];exact⟨Pn.J6,by simp[Pn.zero,Pn.meas,Ex.aM,Pn.msL], .inl ⟨rfl,rfl,rfl⟩⟩
 ·have h1:nrP ws p=nP ws p 40:=if_neg h0;rw[h1];exact AZY h0 40
theorem D8 {p:Pn} {ws:List Int} (hp:p.fat) (hl:ws.length<9223372036854775808):aI CZ 8 [.i (.agg p.cells), .i (.isl (aD ws))] []=some (.bool true,[]):=by
 rw[aF rfl Tryz.func8 rfl rfl];by_cases hw:(1048576:Int)<ws.length
 ·rw[Pn.aA p];simp[hw]
 have s1:=AK4 hp (left:=1048576) (by omega) (by omega);by_cases c1:dZ 1048576 p.meas<0
 ·rw[Pn.aA p]at *
  simp[hw,s1,c1]
 have m1:p.meas≤1048576:=by
  unfold dZ at c1;split at c1<;>omega
 have tp:=Pn.ABQ p (by omega);have e1:=AK2 tp;have e2:=AK3 (l:=ws) (by omega);have e5:=AER hp;have e6:=AK5 (l:=ws) (by omega);have mk:=Pn.AOO p;have e7:=WM (p:=p) (k:=1) (by omega) (by omega);have e8:=EB (l:=ws) (k:=1+(p.mk4:Nat)) (by omega) (by omega);have n1:¬ 1+(p.mk4:Int)+(ws.length:Int)<0:=by omega
 have tq:=AWC ws p
 obtain⟨q,l,tq,mq,hsq,ln,lm,e3,e4⟩:∃ (q:Pn) (l:List Stp),q.thin∧q.meas<100000000∧Shp q∧l.length≤40∧(∀ s∈l,s.2.length≤8)∧aI CZ 41 [tP p 0, .osl 3 1 0 ws.length] (tPB p++[some (.arr 1 (aD ws))])=some (.tup [.i (.agg q.cells), .i (.isl (bR l))],[none,none,none,none]) ∧
  aI CZ 42 [tP p 0, .osl 3 1 0 ws.length] (tPB p++[some (.arr 1 (aD ws))])=some (.tup [rqA q 4,if l=[]then .nils else .osl (4+(rqB q).length) 2 0 l.length],tPB p++([some (.arr 1 (aD ws))]++(rqB q++if l=[]then []else [some (.tre 2 (bR l))]))) :=
  ⟨nrP ws p,nrL ws p,tq.1,tq.2.1,tq.2.2,AGP.1,AGP.2,RB tp (ws:=ws) (by omega),WQ⟩
 have mkq:=Pn.AOO q
 have hz:bM oJ l≤360:=by
  have:∀ m:List Stp,(∀ s∈m,s.2.length≤8)→bM oJ m≤9*m.length:=by
   intro m
   induction m with
   | nil=>intro _;simp[bM]
   | cons a m ih =>
    intro h;have h1:=h a (by simp);have h2:=ih fun s hs=>h s (by simp[hs])
    simp only[bM,oJ,zQ];omega
  have:=this l lm;omega
 have e9:=AES (Pn.JI q tq);have e10:=WN (q:=q) (k:=1) (by omega) (by omega);have e11:=WP (q:=q) (k:=1) (by omega) (by omega);have n2:¬ 1+(q.mk4:Int)<0:=by omega
 rw[AFT]at e10 e11;rw[Pn.aA p]at *
 rw[Pn.aA q]at *
 simp[tP,tPB]at e1 e3 e4 e5 e7;by_cases hln:l=[]
 ·subst hln;have f1:=ABF;have f2:=RF (k:=1+(q.mk4:Nat)) (by omega) (by omega);have f3:=RJ (k:=1+(q.mk4:Nat)) (by omega) (by omega);have e0:bR []=[]:=rfl;rw[e0]at e3
  rcases hsq with ⟨q1,q2,q3⟩|⟨q1,q2,q3⟩|⟨q1,q2,q3⟩|⟨q1,q2,q3⟩ <;>
   (simp only[rqA,rqB,q1,q2,q3,if_true,if_false,yQ,zA,yX,zQ,yT]at e3 e4 e9 e10 e11
    try simp at e4
    try simp at e9
    try simp at e10
    try simp at e11
    simp[hw,s1,c1,e1,e2,e3,e4,e5,e6,e7,e8,e9,e10,e11,f1,f2,f3,n1,n2])
 ·have f1:=ABE (l:=l) (by omega) (fun s h=>by have:=lm s h;omega);have f2:=RD hln (k:=1+(q.mk4:Nat)) (by omega) (by omega);have f3:=RI (l:=l) (k:=1+(q.mk4:Nat)) (by omega) (by omega);have n3:¬ 1+(q.mk4:Int)+(bM oJ l:Int)<0:=by omega
  simp only[hln,if_false]at e4
  rcases hsq with ⟨q1,q2,q3⟩|⟨q1,q2,q3⟩|⟨q1,q2,q3⟩|⟨q1,q2,q3⟩ <;>
   (simp only[rqA,rqB,q1,q2,q3,if_true,if_false,yQ,zA,yX,zQ,yT]at e3 e4 e9 e10 e11
    try simp at e4
    try simp at e9
    try simp at e10
    try simp at e11
    simp[hw,s1,c1,e1,e2,e3,e4,e5,e6,e7,e8,e9,e10,e11,f1,f2,f3,n1,n2,n3])
theorem qK {w:World} {p:Pn} {v:Value} {ws:List Int} {c:Value} (hp:p.fat) (rp:IRep (dD w) (.agg p.cells) v) (hl:ws.length<9223372036854775808) (hw:IRep (dD w) (.isl (aD ws)) c) :
 Calls Tryz.prog 8 #[v,c] w fun e w'=>e=.returned (.bool true)∧RowKit.Below w.heap.size w w' :=
 ADS AV5 (.cons (.i rp) (.cons (.i hw) .nil)) (D8 hp hl)
end Go.Proofs.YtjdfjgmebalaaaaGreat.P

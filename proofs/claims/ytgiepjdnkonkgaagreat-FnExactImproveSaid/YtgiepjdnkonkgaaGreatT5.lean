/- Part 5 of what the proof rests on: the executor and what it is worth, and the program's functions as it runs them. No condition. -/
import Derived.Test.YtgiepjdnkonkgaaGreatT4
set_option linter.unusedVariables false
set_option linter.unusedSimpArgs false
namespace Go.Av.V
open Go.Av
def Hand (todo K:KL) (p:Nat×Nat) (x:Ex):Prop:=(p,(x,none))∈K∧(x.kids=[]∨(∃ b' c,(p,(x,some (b',c)))∈K)∨(p,(x,none))∈todo)
structure WL (root:Nat×Nat) (e:Ex) (todo K:KL):Prop where
 rk:∃ rk:Nat→Nat,∀ b o x b' c,((b,o),(x,some (b',c)))∈K→rk b<rk b'
 uniq:∀ p q x y b' c c',(p,(x,some (b',c)))∈K→(q,(y,some (b',c')))∈K→p=q
 kids:∀ p x b' c,(p,(x,some (b',c)))∈K→∀ (j:Nat) kid,x.kids[j]?=some kid→Hand todo K (b',5*j) kid
 hroot:Hand todo K root e
 sub:∀ k∈todo,k∈K∧k.2.2=none
 nodup:(todo.map (·.1)).Nodup
 nolit:∀ k∈todo,∀ k'∈K,k'.1=k.1→k'.2.2=none
theorem iJ {b:Nat}:∀ (o:Nat) (l:List Ex),∀ k∈bL b o l,k.2.2=none∧k.1.1=b∧o≤k.1.2
 | _,[]=>by simp[bL]
 | o,a::l=>by
  intro k hk;simp only[bL,zS]at hk
  rcases hk with rfl|hk
  ·exact⟨rfl,rfl,zO _⟩
  ·obtain⟨h1,h2,h3⟩:=iJ (o+5) l k hk;exact⟨h1,h2,by omega⟩
theorem I9 {b:Nat}:∀ (o:Nat) (l:List Ex),((bL b o l).map (·.1)).Nodup
 | _,[]=>by simp[bL]
 | o,a::l=>by
  simp only[bL,yS,yX];refine⟨fun h=>?_,I9 (o+5) l⟩;obtain⟨k,hk,e⟩:=yI.1 h;have:=(iJ (o+5) l k hk).2.2;rw[e]at this;simp at this;omega
theorem QR {b o:Nat} {x:Ex} {b' cap:Nat} {k:(Nat×Nat)×Nd} (h:k∈AF3 b o x b' cap):x.kids≠[]∧(k=((b,o),(x,some (b',cap)))∨k∈bL b' 0 x.kids):=by
 unfold AF3 at h;split at h
 ·cases h
 ·rename_i hx;exact⟨hx,zS.1 h⟩
theorem UZ {b o:Nat} {x:Ex} {b' cap:Nat} {k:(Nat×Nat)×Nd} (h:k∈bL b' 0 x.kids):k∈AF3 b o x b' cap:=by
 unfold AF3;split
 ·rename_i hx;rw[hx]at h;simp[bL]at h
 ·exact zB5 _ h
theorem WL.start (b3:Nat) (e:Ex):WL (b3,0) e [((b3,0),(e,none))] [((b3,0),(e,none))]:=by
 refine⟨⟨fun _=>0,?_⟩,?_,?_,⟨by simp, .inr (.inr (by simp))⟩,by simp,by simp,?_⟩
 ·intro b o x b' c h;simp at h
 ·intro p q x y b' c c' h;simp at h
 ·intro p x b' c h;simp at h
 ·intro k hk k' hk' _;simp at hk';rw[hk']
theorem WL.step {root:Nat×Nat} {e x:Ex} {init K:KL} {b o b' cap:Nat} (h:WL root e (init++[((b,o),(x,none))]) K) (hf:x.kids≠[]→∀ k∈K,k.1.1≠b'∧∀ b2 c2,k.2.2=some (b2,c2)→b2≠b') :
 WL root e (init++bL b' 0 x.kids) (K++AF3 b o x b' cap):=by
 have hcur:((b,o),(x,none))∈K:=(h.sub _ (by simp)).1
 have litIn:∀ {p:Nat×Nat} {y:Ex} {f c:Nat},(p,(y,some (f,c)))∈K++AF3 b o x b' cap→(p,(y,some (f,c)))∈K∨(x.kids≠[]∧p=(b,o)∧y=x∧f=b'∧c=cap):=by
  intro p y f c hm
  rcases zV.1 hm with hm|hm
  ·exact .inl hm
  ·obtain⟨hx,hm⟩:=QR hm
   rcases hm with hm|hm
   ·injection hm with e1 e2;injection e2 with e2 e3;injection e3 with e3;injection e3 with e3 e4;exact .inr ⟨hx,e1,e2,e3,e4⟩
   ·have:=(iJ 0 _ _ hm).1;cases this
 have up:∀ {p:Nat×Nat} {y:Ex},Hand (init++[((b,o),(x,none))]) K p y→Hand (init++bL b' 0 x.kids) (K++AF3 b o x b' cap) p y:=by
  rintro p y ⟨h1,h2⟩;refine⟨List.mem_append_left _ h1,?_⟩
  rcases h2 with h2|⟨f,c,h2⟩|h2
  ·exact .inl h2
  ·exact .inr (.inl ⟨f,c,yL _ h2⟩)
  ·rcases zV.1 h2 with h2|h2
   ·exact .inr (.inr (yL _ h2))
   ·simp only[zA6,Prod.mk.injEq,and_true]at h2;obtain⟨rfl,rfl⟩:=h2;by_cases hx:y.kids=[]
    ·exact .inl hx
    ·exact .inr (.inl ⟨b',cap,zD3 _ (by unfold AF3;rw[if_neg hx];simp)⟩)
 have hnd:=h.nodup;rw[yB,zJ]at hnd;refine⟨?_,?_,?_,up h.hroot,?_,?_,?_⟩
 ·obtain⟨rk,hr⟩:=h.rk;refine⟨fun f=>if x.kids≠[]∧f=b' then rk b+1 else rk f,?_⟩;intro b1 o1 y f c hm
  rcases litIn hm with hm|⟨hx,e1,rfl,rfl,rfl⟩
  ·have hlt:=hr _ _ _ _ _ hm;have n1:¬ (x.kids≠[]∧b1=b'):=fun hh=>(hf hh.1 _ hm).1 hh.2
   have n2:¬ (x.kids≠[]∧f=b'):=fun hh=>(hf hh.1 _ hm).2 _ _ rfl hh.2
   simp only[if_neg n1,if_neg n2];exact hlt
  ·injection e1 with e1 e2;subst e1;subst e2;have n1:¬ (y.kids≠[]∧b1=f):=fun hh=>(hf hh.1 _ hcur).1 hh.2
   show(if y.kids≠[]∧b1=f then rk b1+1 else rk b1)<(if y.kids≠[]∧f=f then rk b1+1 else rk f);rw[if_neg n1,if_pos ⟨hx,rfl⟩];omega
 ·intro p q y z f c c' h1 h2
  rcases litIn h1 with g1|⟨hx,a1,a2,a3,a4⟩
  ·rcases litIn h2 with g2|⟨hx,a1,a2,a3,a4⟩
   ·exact h.uniq _ _ _ _ _ _ _ g1 g2
   ·exact absurd a3 ((hf hx _ g1).2 _ _ rfl)
  ·rcases litIn h2 with g2|⟨_,c1,_,_,_⟩
   ·exact absurd a3 ((hf hx _ g2).2 _ _ rfl)
   ·rw[a1,c1]
 ·intro p y f c hm j kid hk
  rcases litIn hm with hm|⟨hx,rfl,rfl,rfl,rfl⟩
  ·exact up (h.kids p y f c hm j kid hk)
  ·have hkm:=vV (b:=f) (o:=0) hk;rw[zH]at hkm;exact⟨List.mem_append_right _ (UZ hkm), .inr (.inr (zD3 _ hkm))⟩
 ·intro k hk
  rcases zV.1 hk with hk|hk
  ·obtain⟨h1,h2⟩:=h.sub k (by simp[hk]);exact⟨List.mem_append_left _ h1,h2⟩
  ·exact⟨List.mem_append_right _ (UZ hk),(iJ 0 _ _ hk).1⟩
 ·rw[yB,zJ];refine⟨hnd.1,I9 0 _,fun p hp q hq e=>?_⟩;subst e;obtain⟨k1,h1,e1⟩:=yI.1 hp;obtain⟨k2,h2,e2⟩:=yI.1 hq;have hx:x.kids≠[]:=fun hx=>by rw[hx]at h2;simp[bL]at h2
  have:=(hf hx k1 (h.sub k1 (by simp[h1])).1).1;rw[e1,← e2,(iJ 0 _ _ h2).2.1]at this;exact this rfl
 ·intro k hk k' hk' e1
  rcases zV.1 hk with hk|hk
  ·rcases zV.1 hk' with hk'|hk'
   ·exact h.nolit k (by simp[hk]) k' hk' e1
   ·obtain⟨hx,hm⟩:=QR hk'
    rcases hm with rfl|hm
    ·exact absurd e1.symm (hnd.2.2 k.1 (yI.2 ⟨k,hk,rfl⟩) (b,o) (by simp))
    ·exact(iJ 0 _ _ hm).1
  ·have hx:x.kids≠[]:=fun hx=>by rw[hx]at hk;simp[bL]at hk
   have hkb:=(iJ 0 _ _ hk).2.1
   rcases zV.1 hk' with hk'|hk'
   ·exact absurd (by rw[e1,hkb]) (hf hx k' hk').1
   ·obtain⟨_,hm⟩:=QR hk'
    rcases hm with rfl|hm
    ·refine absurd ?_ (hf hx _ hcur).1;have:=congrArg Prod.fst e1;rw[hkb]at this;exact this
    ·exact(iJ 0 _ _ hm).1
inductive Und (K:KL) (p:Nat×Nat):Nat→Prop
 | base {x:Ex} {f c:Nat}:(p,(x,some (f,c)))∈K→Und K p f
 | step {b o:Nat} {x:Ex} {f c:Nat}:((b,o),(x,some (f,c)))∈K→Und K p b→Und K p f
section
variable {root:Nat×Nat} {e:Ex} {todo K:KL}
theorem WL.AFP (h:WL root e todo K) {rk:Nat→Nat} (hr:∀ b o x b' c,((b,o),(x,some (b',c)))∈K→rk b<rk b') {p:Nat×Nat} {f:Nat} (hu:Und K p f):rk p.1<rk f:=by
 induction hu with
 | base hm=>exact hr _ p.2 _ _ _ hm
 | step hm _ ih=>exact Nat.lt_trans ih (hr _ _ _ _ _ hm)
theorem WL.sib (h:WL root e todo K) {p q:Nat×Nat} {f:Nat} (hp:Und K p f):Und K q f→p.1=q.1→p=q:=by
 obtain⟨rk,hr⟩:=h.rk
 induction hp with
 | base hm =>
  intro hq e1
  cases hq with
  | base hm2=>exact h.uniq _ _ _ _ _ _ _ hm hm2
  | step hm2 hq2 =>
   have:=h.uniq _ _ _ _ _ _ _ hm hm2;have lt:=h.AFP hr hq2;rw[← e1,this]at lt;exact absurd lt (xL _)
 | step hm hp2 ih =>
  intro hq e1
  cases hq with
  | base hm2 =>
   have:=h.uniq _ _ _ _ _ _ _ hm hm2;have lt:=h.AFP hr hp2;rw[e1,← this]at lt;exact absurd lt (xL _)
  | step hm2 hq2 =>
   have:=h.uniq _ _ _ _ _ _ _ hm hm2;injection this with e2 e3;subst e2;exact ih hq2 e1
theorem AKR {p:Nat×Nat} {x:Ex} {b' c j f:Nat} (hm:(p,(x,some (b',c)))∈K) (hu:Und K (b',j) f):Und K p f:=by
 induction hu with
 | base h2=>exact .step h2 (.base hm)
 | step h2 _ ih=>exact .step h2 ih
end
theorem AAV (k c:Int) (v:Val) (l:List Ex):(Ex.mk k c v l).kids=l:=rfl
theorem AR8 {w:World} {a:Ex} {u:Value} {F:List Nat} (h:TCells w [.isl (Ex.aB a.kids)] [u] F):TCells w a.cells [.int .i64 a.kind, .int .i64 a.col, .bool a.val.null, .int .i64 a.val.n,u] F:=by
 rw[Ex.aA];exact .lit rfl (.lit rfl (.lit rfl (.lit rfl h)))
theorem KD {w:World} {b:Nat} {us:List Value} {o:Nat} {v:Value} (hr:rowOf w b us) (h:w.cell? ⟨b,o,none⟩=some v):us[o]?=some v:=by
 obtain⟨T,e,_⟩:=hr;rw[bG e]at h;exact h
theorem Ae6 {us:List Value} {o:Nat} {v0 v1 v2 v3 v4:Value} (h0:us[o]?=some v0) (h1:us[o+1]?=some v1) (h2:us[o+2]?=some v2) (h3:us[o+3]?=some v3) (h4:us[o+4]?=some v4):us.drop o=[v0,v1,v2,v3,v4]++us.drop (o+5):=by
 have g:∀ {o:Nat} {v:Value},us[o]?=some v→us.drop o=v::us.drop (o+1):=by
  intro o v h;obtain⟨hl,rfl⟩:=zZ.1 h;exact yD hl
 rw[g h0,g h1,g h2,g h3,g h4];rfl
section
variable {root:Nat×Nat} {e:Ex} {K:KL} {B:Nat} {w:World} {m:Mem} {φ:Pl}
theorem WL.tree (h:WL root e [] K) (hK:∀ k∈K,PF B w m φ k.1.1 k.1.2 k.2) (hm:kR w m):∀ (x:Ex) (p:Nat×Nat),Hand [] K p x →
 ∃ v F,ExAt m p.1 p.2 x v∧TCells w [.isl (Ex.aB x.kids)] [v] F∧F.Nodup∧∀ f∈F,Und K p f∧B≤f∧eD φ f:=by
 intro x
 induction x using Ex.ind with
 | h kd cl vl ks ih =>
  intro p hp;obtain⟨hp1,hp2⟩:=hp;have pf:=hK _ hp1;obtain⟨v,hx⟩:=FY pf.cel;refine⟨v,?_⟩;simp only[AAV]at hp2 ⊢;have hkids:=hx.kids;rw[AAV]at hkids;by_cases hks:ks=[]
  ·subst hks;simp only[Ex.aB]at hkids ⊢;refine⟨[],hx,?_,by simp,by simp⟩
   cases hkids with
   | isl0 ao cap hc=>exact .isl0 hc .nil
   | isl hn=>exact absurd rfl hn
  ·obtain⟨b',cap,hl⟩:∃ b' c,(p,(Ex.mk kd cl vl ks,some (b',c)))∈K:=by
    rcases hp2 with h1|h1|h1
    ·exact absurd h1 hks
    ·exact h1
    ·cases h1
   obtain⟨l1,l2,l3,us,T,l4,l5,l6⟩:=(hK _ hl).lit b' cap rfl
   have hv:v=.slice (some ⟨b',0,none⟩) ks.length cap:=by
    have:=hx.c4;rw[l1]at this;injection this with this;exact this.symm
   subst hv
   have hrow:rowOf w b' us:=⟨T,l4,l6⟩
   have hlen:(Ex.aB ks).length=ks.length:=by simp
   have hne:Ex.aB ks≠[]:=fun hh=>by rw[hh]at hlen;simp at hlen;exact hks (zW.1 hlen.symm)
   have hcap:ks.length≤cap:=by
    rcases l9 hkids with ⟨h1,_⟩|⟨_,b2,off,k2,cap2,h1,_,h2⟩
    ·exact absurd h1 hne
    ·injection h1 with _ _ h3;subst h3;rw[hlen]at h2;exact h2
   have list:∀ (l:List Ex) (j:Nat),(∀ a∈l,a∈ks)→(∀ i kid,l[i]?=some kid→Hand [] K (b',5*(j+i)) kid)→∃ F,TCells w (Ex.aB l).flatten ((us.drop (5*j)).take (5*l.length)) F∧F.Nodup∧∀ f∈F,(∃ i,Und K (b',5*(j+i)) f)∧B≤f∧eD φ f:=by
    intro l
    induction l with
    | nil=>intro j _ _;exact⟨[],by simpa [Ex.aB]using TCells.nil,by simp,by simp⟩
    | cons a l ihl =>
     intro j hin hh;have h0:=hh 0 a rfl;obtain⟨va,Fa,ha,ta,na,ua⟩:=ih a (hin a (by simp)) (b',5*(j+0)) h0;simp only[yE]at ha ua
     obtain⟨Fl,tl,nl,ul⟩:=ihl (j+1) (fun x hx=>hin x (by simp[hx])) (fun i kid hi=>by
      have:=hh (i+1) kid (by simpa using hi)
      rwa [show j+(i+1)=j+1+i by omega]at this)
     have hr5:=Ae6 (KD hrow (hm _ _ _ ha.c0)) (KD hrow (hm _ _ _ ha.c1)) (KD hrow (hm _ _ _ ha.c2)) (KD hrow (hm _ _ _ ha.c3)) (KD hrow (hm _ _ _ ha.c4));refine⟨Fa++Fl,?_,?_,?_⟩
     ·rw[hr5,zP,show 5*(l.length+1)=5+5*l.length by omega];rw[xM,zY (by simp)];simp only[Ex.aB,z8];have t2:=AR8 ta;have e1:5+5*l.length-[Value.int .i64 a.kind, .int .i64 a.col, .bool a.val.null, .int .i64 a.val.n,va].length=5*l.length:=by simp
      rw[e1,show 5*j+5=5*(j+1)by omega];exact t2.append tl
     ·rw[zJ];refine⟨na,nl,fun f hf g hg e1=>?_⟩;subst e1;obtain⟨i,hi⟩:=(ul f hg).1;have:=h.sib (ua f hf).1 hi rfl;injection this with _ this;omega
     ·intro f hf
      rcases zV.1 hf with hf|hf
      ·exact⟨⟨0,(ua f hf).1⟩,(ua f hf).2⟩
      ·obtain⟨⟨i,hi⟩,q⟩:=ul f hf;exact⟨⟨1+i,by rwa [show j+(1+i)=j+1+i by omega]⟩,q⟩
   obtain⟨F,t1,n1,u1⟩:=list ks 0 (fun _ h=>h) (fun i kid hi=>by
    have:=h.kids p _ b' cap hl i kid hi
    rwa [zH])
   simp only[Nat.mul_zero,List.drop_zero]at t1
   have hkw:∀ r∈Ex.aB ks,r.length=5:=by
    have wid:∀ (l:List Ex),∀ r∈Ex.aB l,r.length=5:=by
     intro l
     induction l with
     | nil=>simp[Ex.aB]
     | cons a l ihl =>
      intro r hr;simp only[Ex.aB,zS]at hr
      rcases hr with rfl|hr
      ·rw[Ex.aA];rfl
      ·exact ihl r hr
    exact wid ks
   refine⟨b'::F,hx,?_,?_,?_⟩
   ·have:=TCells.isl (w:=w) (b:=b') (k:=5) (cap:=cap) (us:=us) (G:=F) hne hrow (by omega) hkw l5 (by omega) (by rw[hlen];exact t1) .nil;rw[hlen]at this;simpa using this
   ·rw[yX];refine⟨fun hf=>?_,n1⟩;obtain⟨⟨i,hi⟩,_⟩:=u1 b' hf;obtain⟨rk,hr⟩:=h.rk;exact absurd (h.AFP hr hi) (xL _)
   ·intro f hf
    rcases zS.1 hf with rfl|hf
    ·exact⟨.base hl,l2,l3⟩
    ·obtain⟨⟨i,hi⟩,q⟩:=u1 f hf;exact⟨AKR hl hi,q⟩
end
end Go.Av.V
namespace Go.Av.V.Sx
open Go Go.Av Go.Av.V Go.Av.Mk Go.Proofs Go.Proofs.YtgiepjdnkonkgaaGreat
set_option maxRecDepth 4000
def ZP (e:Ex):AS:={ env:=[(0, .i (.iref e.cells))],st:=[] }
def AJZ (e:Ex):AS:={ env:=[(0, .i (.iref e.cells)),(2, .own 0 0),(3, .own 1 0),(4, .junk),(5, .junk),(6, .junk),(13, .junk),(37, .junk),(38, .junk),(39, .junk)],st:=[some (.box zc),some (.box (lF e.cells))] }
def SL (b3:Nat) (todo X:KL):AS :=
 { env:=[(0, .junk),(2, .own 0 0),(3, .i (ptr (b3,0))),(4, .osl 1 1 0 todo.length),(5, .junk),(6, .junk),(13, .junk),(37, .junk),(38, .junk),(39, .junk)],st:=[some (.box zc),some (.arr 1 ((todo++X).map fun k=>[ptr k.1]))] }
theorem KM:∀ (l:KL),∀ c∈(l.map fun k=>[ptr k.1]).flatten,∃ v,c=.lit v
 | [],c,h=>by simp at h
 | k::l,c,h=>by
  simp only[yS,z8,zV,zA6]at h
  rcases h with rfl|h
  ·exact⟨_,rfl⟩
  ·exact KM l c h
def PP (b3:Nat) (b o n:Nat) (x:Ex) (ES:List (List IV)) (env:Nat→AV) (st:Store):Prop :=
 env 2=.own 0 0∧env 3=.i (ptr (b3,0))∧env 4=.osl 1 1 0 n∧env 5=.i (ptr (b,o))∧env 32=.i (ptr (b,o+4))∧st 0=some (.box zc)∧st 1=some (.arr 1 ES) ∧
  ((env 30=.nils∧x.kids=[])∨∃ id,env 30=.osl id 5 0 x.kids.length∧x.kids≠[]∧st id=some (.arr 5 (Ex.aB x.kids))∧2≤id)
def RW (init:KL) (b' i:Nat):List (List IV):=(init.map fun k=>[ptr k.1])++(List.range i).map fun j=>[ptr (b',j*5)]
theorem X4 (init:KL) (b' i:Nat):(RW init b' i).length=init.length+i:=by simp[RW]
theorem N7 (init:KL) (b' i:Nat):RW init b' i++[[ptr (b',i*5)]]=RW init b' (i+1):=by simp[RW,zC8]
theorem qF (b:Nat):∀ (o:Nat) (l:List Ex),(bL b o l).map (fun k=>[ptr k.1])=(List.range l.length).map fun j=>[ptr (b,o+j*5)]
 | _,[]=>by simp[bL]
 | o,a::l=>by
  simp only[bL,yS,qF b (o+5) l,zP,zE1,List.map_map];simp only[List.cons.injEq,Nat.zero_mul,yE,true_and];apply zD4;intro j _;simp only[Function.comp,Nat.succ_eq_add_one];rw[show o+5+j*5=o+(j+1)*5 by omega]
theorem qG (b:Nat):∀ (o:Nat) (l:List Ex),(bL b o l).length=l.length
 | _,[]=>rfl
 | o,a::l=>by simp[bL,qG b (o+5) l]
theorem qE (b:Nat):∀ (o:Nat) (l:List Ex),((bL b o l).map fun k=>k.2.1.size).sum=Ex.aL l
 | _,[]=>rfl
 | o,a::l=>by simp[bL,Ex.aL,qE b (o+5) l]
def YS (b3 b' cap:Nat) (x:Ex) (init:KL) (ES:List (List IV)) (i:Nat):AS :=
 { env:=[(0, .junk),(2, .own 0 0),(3, .i (ptr (b3,0))),(4,if i=0 then .osl 1 1 0 init.length else .osl 2 1 0 (init.length+i)),(5, .i (.iref [.int x.kind, .int x.col, .bool x.val.null, .int x.val.n, .lit (.slice (some ⟨b',0,none⟩) x.kids.length cap)])),(6,jk i (.int (i-1))),(13, .junk),(37, .int x.kids.length),(38, .int i),(39,jk i (.bool true))],
   st:=some (.box zc)::if i=0 then [some (.arr 1 ES)]else [none,some (.arr 1 (RW init b' i))] }
set_option maxHeartbeats 1000000
theorem Z8 {e:Ex} (he:e.size<1000000000) (hne:e.kids≠[]) {wi:World} {mi:Mem} {φ:Pl} {vs:List Value} (hi:Inv wi mi φ (aR [])) (hr:RepL mi φ [.i (.iref e.cells)] vs) (h0:∀ id,φ id≠none→id<0) :
 Calls Tryz.prog 59 vs.toArray wi (bS wi mi φ (tE e 0) [some (jG Ex.cells 5 e.kids)]):=by
 obtain rfl:φ=fun _=>none:=by
  funext id
  cases h:φ id with
  | none=>rfl
  | some p=>exact absurd (h0 id (by rw[h];simp)) (xS _)
 refine calls_of_wp (fn:=Tryz.f59) Tryz.func59 rfl ?_
 have g0:GG wi mi 52 (fun id=>id<(ZP e).st.length) [] (aJ (ZP e).env) (aR (ZP e).st) { tmps:=vs.toArray++Array.replicate (52-vs.toArray.size) undef,defers:=[] } wi:=by
  refine⟨⟨mi,fun _=>none,hi,?_, .refl _ _ _,fun id h=>absurd rfl h,fun k hk=>by simp at hk⟩,by simp;omega,rfl⟩;intro t;have:=mG (m:=mi) (φ:=fun _=>none) (52-vs.toArray.size) hr t
  cases t with
  | zero=>simpa [ZP,aJ,sN]using this
  | succ t=>simp only[ZP,aJ];simp;exact .junk _
 refine wp_seq (wp_mono (GG.eF iA (G:=GS 59) (S:=ZP e) (e:=.normal) (S':={ AJZ e with env:=[(0, .i (.iref e.cells)),(2, .own 0 0),(3, .junk),(4, .junk),(5, .junk),(6, .junk),(13, .junk),(37, .junk),(38, .junk),(39, .junk)],st:=[some (.box zc)] }) (by kernel_rfl) (by simp[ZP,zc]) g0) ?_);rintro _ a1 w1 ⟨rfl,g1⟩;refine wp_seq (wp_mono (GG.eF iA (G:=GS 59) (S:={ AJZ e with env:=[(0, .i (.iref e.cells)),(2, .own 0 0),(3, .junk),(4, .junk),(5, .junk),(6, .junk),(13, .junk),(37, .junk),(38, .junk),(39, .junk)],st:=[some (.box zc)] }) (e:=.normal) (S':=AJZ e) (by kernel_rfl) (by simp[AJZ,zc]) g1) ?_);rintro _ a2 w2 ⟨rfl,g2⟩
 obtain⟨b3,g3⟩:=g2.pub (u:=3) (id:=1) (e:=e) (st':=aR [some (.box zc)]) (ok':=fun id=>id<1) rfl rfl (by
  intro i blk h
  cases i with
  | zero=>simp[aR]at h;subst h;exact⟨by omega,rfl,by simp[gU,zc]⟩
  | succ i=>simp[aR]at h) (by
  intro i h
  cases i with
  | zero=>omega
  | succ i=>simp[aR]at h)
 have g3:=g3 (aJ [(2, .own 0 0),(3, .i (ptr (b3,0)))]) (by
  intro t;simp only[aJ];by_cases h2:t=2
  ·subst h2;exact .inr (.inr ⟨rfl,by simp[AJZ,aJ,jV,aR]⟩)
  ·by_cases h3:t=3
   ·subst h3;exact .inr (.inl ⟨rfl,rfl⟩)
   ·simp[h2,h3])
 refine wp_seq (wp_mono (GG.eF iA (G:=GS 59) (S:={ env:=[(2, .own 0 0),(3, .i (ptr (b3,0)))],st:=[some (.box zc)] }) (e:=.normal) (S':=SL b3 [((b3,0),(e,none))] []) (by kernel_rfl) (by simp[SL,ptr,zc]) g3) ?_);rintro _ a3 w3 ⟨rfl,g4⟩;refine wp_seq (wp_block ?_);refine tX (fun n a w=>∃ todo X K:KL,WL (b3,0) e todo K∧(todo.map fun k=>k.2.1.size).sum=n∧n<1000000000∧GG wi mi 52 (fun id=>id<(SL b3 todo X).st.length) K (aJ (SL b3 todo X).env) (aR (SL b3 todo X).st) a w) ?_ (n:=e.size) ⟨[((b3,0),(e,none))],[],[((b3,0),(e,none))], .start b3 e,by simp,he,g4⟩;rintro n a w ⟨todo,X,K,hWL,hsum,hn,g⟩
 rcases zD2 todo with rfl|⟨init,k,rfl⟩
 ·refine wp_mono (GG.eF iA (G:=GS 59) (S:=SL b3 [] X) (e:=.exit 0) (S':={ env:=[(0, .junk),(2, .own 0 0),(3, .i (ptr (b3,0))),(4, .osl 1 1 0 0),(5, .junk),(6, .junk),(13, .bool false),(37, .junk),(38, .junk),(39, .junk)],st:=[some (.box zc),some (.arr 1 (X.map fun k=>[ptr k.1]))] }) (by kernel_rfl) (by simp[SL,ptr,zc]) g) ?_;rintro _ a5 w5 ⟨rfl,g5⟩;simp only[gQ,Exit.then,Exit.inBlock,if_true];obtain⟨⟨m5,φ5,hi5,henv5,hadv5,hok5,hK5⟩,hsz5,hdf5⟩:=g5;obtain⟨v,F,hx5,ht5,hnd5,hF5⟩:=hWL.tree hK5 hi5.mem e (b3,0) hWL.hroot;have h05:∀ id,φ5 id≠none→id<2:=hok5
  have hroot:IAt m5 b3 0 [.int e.kind, .int e.col, .bool e.val.null, .int e.val.n, .lit v]:=by
   have ho:=pO hx5.kids;exact .cons (by simpa using hx5.c0) (.lit _) rfl (.cons hx5.c1 (.lit _) rfl (.cons hx5.c2 (.lit _) rfl (.cons hx5.c3 (.lit _) rfl (.cons hx5.c4 (.lit _) ho (.nil _ _)))))
  have hp3:a5.tmps.getD 3 undef=.pointer (some ⟨b3,0,none⟩):=by
   have h3:Rep m5 φ5 (.i (ptr (b3,0))) (a5.tmps.getD 3 undef):=henv5 3;exact h3.lit_eq
  have r5:MZ [] w5 m5 φ5 52 2 { env:=[(2, .own 0 0),(3, .i (.iref [.int e.kind, .int e.col, .bool e.val.null, .int e.val.n, .lit v]))],st:=[some (.box zc),some (.arr 1 (X.map fun k=>[ptr k.1]))] } a5 w5:=by
   refine⟨⟨⟨m5,φ5,by simpa using hi5,fun t=>?_, .refl _ _ _,hok5, .nil _ _ _⟩,hsz5,hdf5⟩,zO _⟩;simp only[aJ];by_cases h2:t=2
   ·subst h2;simp only[if_true];exact henv5 2
   ·by_cases h3:t=3
    ·subst h3;simp only[if_true];rw[hp3];exact .i (.iref hroot)
    ·simp only[h2,h3,if_false];exact .junk _
  refine wp_mono (oI iA h05 (G:=GS 59) (S:={ env:=[(2, .own 0 0),(3, .i (.iref [.int e.kind, .int e.col, .bool e.val.null, .int e.val.n, .lit v]))],st:=[some (.box zc),some (.arr 1 (X.map fun k=>[ptr k.1]))] }) (e:=.ret) (S':={ env:=[(0, .junk),(2, .own 0 0),(3, .i (.iref [.int e.kind, .int e.col, .bool e.val.null, .int e.val.n, .lit v])),(4, .junk),(5, .junk),(6, .junk),(13, .junk),(37, .junk),(38, .junk),(39, .junk)],st:=[some (.box [.int e.kind, .int e.col, .bool e.val.null, .int e.val.n, .i (.lit v)]),some (.arr 1 (X.map fun k=>[ptr k.1]))] }) (by kernel_rfl) (by simp[zc]) r5) ?_;rintro _ a6 w6 ⟨rfl,r6⟩
  obtain⟨vv,k1,k2⟩:=fJ (C:=C1) (fn:=Tryz.f59) (keep:=false) (na:=2) (S:={ env:=[(0, .junk),(2, .own 0 0),(3, .i (.iref [.int e.kind, .int e.col, .bool e.val.null, .int e.val.n, .lit v])),(4, .junk),(5, .junk),(6, .junk),(13, .junk),(37, .junk),(38, .junk),(39, .junk)],st:=[some (.box [.int e.kind, .int e.col, .bool e.val.null, .int e.val.n, .i (.lit v)]),some (.arr 1 (X.map fun k=>[ptr k.1]))] }) (r:=.i (.agg [.int e.kind, .int e.col, .bool e.val.null, .int e.val.n, .lit v])) (stl':=[some (.box [.int e.kind, .int e.col, .bool e.val.null, .int e.val.n, .i (.lit v)]),some (.arr 1 (X.map fun k=>[ptr k.1]))]) h05 r6 (by
   show finish C1 false [ResultVar.cell 2 86] 2 _=_
   simp)
  refine⟨r6.1.defers,vv,k1,?_⟩;obtain⟨y,m6,φ6,hy,j1,j2,j3,j4⟩:=k2;injection hy with hy;subst hy
  have hvv:vv=.agg [.int .i64 e.kind, .int .i64 e.col, .bool e.val.null, .int .i64 e.val.n,v].toArray:=by
   cases j1 with
   | i r=>cases r with
    | agg hc =>
     have:=AHX (vs:=[.int .i64 e.kind, .int .i64 e.col, .bool e.val.null, .int .i64 e.val.n,v]) hc;rw[this]
  subst hvv;have hall:=hadv5.trans j3;have hwi:∀ f,f<wi.heap.size→w6.heap[f]?=wi.heap[f]?:=fun f hf=>hall.block f hf fun id b n e=>by cases e
  have ht6:=ht5.mono (w':=w6) fun f hf=>j3.block f (tlt ht5 f hf) (hF5 f hf).2.2
  have hlt6:=tlt ht6;have hlen:(Ex.aB e.kids).length=e.kids.length:=by simp
  have hcne:Ex.aB e.kids≠[]:=fun h=>by rw[h]at hlen;simp at hlen;exact hne (zW.1 hlen.symm)
  generalize hes:Ex.aB e.kids=es at ht6 hlen hcne
  cases ht6 with
  | isl0=>exact absurd rfl hcne
  | @isl b' kk cap _ us G _ _ F1 t1 t2 t3 t4 t5 t6 t7 t8 =>
   cases t8
   obtain rfl:kk=5:=by
    cases hks:e.kids with
    | nil=>exact absurd hks hne
    | cons a l=>rw[← t4 a.cells (by rw[← hes,hks];simp[Ex.aB]),Ex.aA];rfl
   simp only[zA]at hnd5 hF5 hlt6;obtain⟨T,t2,t9⟩:=t2;have hge:∀ f∈b'::G,wi.heap.size≤f:=fun f hf=>(hF5 f hf).2.1
   have hmi:∀ f∈b'::G,∀ o,mi f o=none:=fun f hf o=>by
    cases hx:mi f o with
    | none=>rfl
    | some u=>have:=hi.mem.lt hx;have:=hge f hf;omega
   refine⟨_,mi,fun id=>if id=0 then some (b',⟨us.length,fun f=>f∈b'::G⟩)else none,rfl,?_,⟨fun b o u hu=>?_,?_,?_,fun id b n f h1 ho=>by
    by_cases hid:id=0
    ·subst hid;simp only[if_true]at h1;injection h1 with h1;injection h1 with e1 e2;subst e2;exact hlt6 f ho
    ·simp[hid]at h1,hi.kn.same hwi⟩,⟨hall.size,hall.os,hall.tape,hall.output,fun f hf _=>hwi f hf, .refl _,fun _ _ _ _=>rfl,(fun _ _ _ h=>by cases h),?_⟩,?_⟩
   ·refine .agg (.cons (.i (.lit _)) rfl (.cons (.i (.lit _)) rfl (.cons (.i (.lit _)) rfl (.cons (.i (.lit _)) rfl (.cons ?_ rfl .nil)))));rw[hlen];exact .osl (n:=⟨us.length,fun f=>f∈b'::G⟩) rfl (by omega) (by simpa using t5) (fun _=>by simp) (fun h=>by cases h)
   ·rw[cell_of_heap (hwi b (hi.mem.lt hu))];exact hi.mem b o u hu
   ·intro id blk hb
    cases id with
    | succ id=>simp[aR]at hb
    | zero =>
     simp only[aR]at hb;rw[oL hne,← Ex.bO,hes]at hb;injection hb with hb;subst hb;refine⟨b',⟨us.length,fun f=>f∈b'::G⟩,rfl,⟨by simp,fun f hf=>hlt6 f hf⟩,?_⟩;exact .tre (T:=T) t2 rfl (by omega) t4 t7.toU (by show 5*es.length≤us.length;omega) hnd5 (fun f hf=>zB5 _ hf) hmi t9
   ·intro i j x x' n1 n2 b1 b2 f h1 h2 _ _ _ _
    cases i with
    | succ i=>simp[aR]at h1
    | zero=>cases j with
     | zero=>rfl
     | succ j=>simp[aR]at h2
   ·intro id b n f h1 ho;by_cases hid:id=0
    ·subst hid;simp only[if_true]at h1;injection h1 with h1;injection h1 with e1 e2;subst e2;exact .inl (hge f ho)
    ·simp[hid]at h1
   ·intro id hne';by_cases hid:id=0
    ·subst hid;simp
    ·simp[hid]at hne'
 ·clear g0 g4 g3 g1 g2;obtain⟨⟨b,o⟩,x,nn⟩:=k;obtain rfl:nn=none:=(hWL.sub ((b,o),(x,nn)) (by simp)).2;rw[List.concat_eq_append]at hWL hsum g
  have hlen:∀ l:KL,l.length≤(l.map fun k=>k.2.1.size).sum:=by
   intro l
   induction l with
   | nil=>simp
   | cons a l ih=>have:=Ex.nA a.2.1;simp;omega
  have hil:=hlen init;simp at hsum;have hxk:((b,o),(x,none))∈K:=(hWL.sub _ (by simp)).1;have hxs:=Ex.size_eq x;have hkl:=Ex.bN x.kids;have hne:¬ ((init.length:Int)+1≤0):=by omega
  have hpos:(0:Int)<(init.length:Int)+1:=by omega
  have w1:IntKind.i64.wrap (init.length:Int)=init.length:=wrO;generalize hES:((init++[((b,o),((x,none):Nd))]++X:KL).map fun k=>[ptr k.1])=ES
  have hnth:fT ES init.length=some [ptr (b,o)]:=by
   rw[fA,← hES];simp
  have hlit:∀ c∈ES.flatten,∃ v,c=.lit v:=by rw[← hES];exact KM _
  have hlt:(init.length:Int)<(init.length:Int)+1:=by omega
  have hlt2:(init.length:Int)≤(init.length:Int)+1:=by omega
  refine wp_seq (wp_mono (GG.eF iA (G:=GS 59) (S:=SL b3 (init++[((b,o),((x,none):Nd))]) X) (e:=.normal) (S':={ env:=[(0, .junk),(2, .own 0 0),(3, .i (ptr (b3,0))),(4, .osl 1 1 0 (init.length+1)),(5, .junk),(6, .junk),(13, .bool true),(37, .junk),(38, .junk),(39, .junk)],st:=[some (.box zc),some (.arr 1 ES)] }) (by kernel_rfl) (by simp only[SL,hES];simp[ptr,zc,hpos]) (by simpa using g)) ?_);rintro _ a5 w5 ⟨rfl,g5⟩;clear g;refine wp_block ?_;refine wp_seq (wp_mono (GG.eF iA (G:=GS 59) (S:={ env:=[(0, .junk),(2, .own 0 0),(3, .i (ptr (b3,0))),(4, .osl 1 1 0 (init.length+1)),(5, .junk),(6, .junk),(13, .bool true),(37, .junk),(38, .junk),(39, .junk)],st:=[some (.box zc),some (.arr 1 ES)] }) (e:=.normal) (S':={ env:=[(0, .junk),(2, .own 0 0),(3, .i (ptr (b3,0))),(4, .osl 1 1 0 (init.length+1)),(5,(.i (ptr (b,o)))),(6, .junk),(13, .bool true),(37, .junk),(38, .junk),(39, .junk)],st:=[some (.box zc),some (.arr 1 ES)] }) (by kernel_rfl) (by simp only[ptr]at hnth;simp[ptr,zc,hnth,w1,hlt]) g5) ?_);rintro _ a6 w6 ⟨rfl,g6⟩;clear g5;refine wp_seq (wp_mono (GG.eF iA (G:=GS 59) (S:={ env:=[(0, .junk),(2, .own 0 0),(3, .i (ptr (b3,0))),(4, .osl 1 1 0 (init.length+1)),(5,(.i (ptr (b,o)))),(6, .junk),(13, .bool true),(37, .junk),(38, .junk),(39, .junk)],st:=[some (.box zc),some (.arr 1 ES)] }) (e:=.normal) (S':={ env:=[(0, .junk),(2, .own 0 0),(3, .i (ptr (b3,0))),(4, .osl 1 1 0 init.length),(5,(.i (ptr (b,o)))),(6, .junk),(13, .bool true),(37, .junk),(38, .junk),(39, .junk)],st:=[some (.box zc),some (.arr 1 ES)] }) (by kernel_rfl) (by simp[ptr,zc,w1,hlt2]) g6) ?_);rintro _ a7 w7 ⟨rfl,g7⟩;clear g6
  refine wp_seq (GG.region iA (os1:=[_,_]) (os2:=[_,_,_,_,_,_]) (u:=26) (PP:=PP b3 b o init.length x ES) rfl (by
   have h:∀ ops:Array Oper,ops.all (gN 52)=true→∀ o∈ops,gN 52 o=true:=fun ops h o ho=>yG.1 h o ho
   exact h _ (by kernel_rfl)) g7 hxk ?_ ?_)
  ·rw[Ex.aA];by_cases hx:x.kids=[]
   ·simp[ptr,zc,hx,PP,Ex.aB,AIW]
   ·simp[ptr,zc,PP,ABF hx (by omega),hx]
  ·rintro env st a8 w8 ⟨p2,p3,p4,p5,p32,q0,q1,p30⟩ g8;clear g7
   obtain⟨w9,b',ao,cap,e1,e2,hrun,hG,hfr⟩:=GG.turn (C:=C1) (ok':=fun id=>id<2) (st':=aR [some (.box zc),some (.arr 1 ES)]) (u:=30) (t:=30) g8 (by simp) ⟨hi.mem,hi.kn⟩ hxk (fun k hk he'=>hWL.nolit ((b,o),(x,none)) (by simp) k hk he') rfl (by
    rcases p30 with ⟨h1,h2⟩|⟨id,h1,h2,h3,h4⟩
    ·refine .inl ⟨h1,h2,?_⟩;intro i blk h
     rcases i with _|_|i
     ·simp[aR]at h;subst h;exact q0
     ·simp[aR]at h;subst h;exact q1
     ·simp[aR]at h
    ·refine .inr ⟨id,h1,h2,h3,?_⟩;intro i blk h
     rcases i with _|_|i
     ·simp[aR]at h;subst h;exact⟨by omega,q0⟩
     ·simp[aR]at h;subst h;exact⟨by omega,q1⟩
     ·simp[aR]at h) (by
    intro i blk h
    rcases i with _|_|i
    ·simp[aR]at h;subst h;simp[gU,zc]
    ·simp[aR]at h;subst h;exact hlit
    ·simp[aR]at h) (by
    intro i h
    rcases i with _|_|i
    ·omega
    ·omega
    ·simp[aR]at h)
   have ev5:=g8.ADF (t:=5) p5;have ev32:=g8.ADF (t:=32) p32
   refine NY (C:=C1) (w':=w9) rfl (by
    show(Instr.storeAt 30 (a8.tmps.getD 32 undef) (a8.tmps.getD 30 undef)).run C1.P w8=_
    rw[ev32];exact hrun) ?_
   have g9:=hG (aJ [(2, .own 0 0),(3, .i (ptr (b3,0))),(4, .osl 1 1 0 init.length),(5,(.i (.iref [.int x.kind, .int x.col, .bool x.val.null, .int x.val.n, .lit (.slice ao x.kids.length cap)])))]) (by
    intro t;simp only[aJ];by_cases h2:t=2
    ·subst h2;exact .inr (.inr ⟨by simp[p2],by rw[p2];simp[jV,aR]⟩)
    by_cases h3:t=3
    ·subst h3;exact .inr (.inr ⟨by simp[p3],by rw[p3];simp[jV,ptr]⟩)
    by_cases h4:t=4
    ·subst h4;exact .inr (.inr ⟨by simp[p4],by rw[p4];simp[jV,aR]⟩)
    by_cases h5:t=5
    ·subst h5;exact .inr (.inl ⟨ev5,by simp⟩)
    ·simp[h2,h3,h4,h5])
   clear hG g8;show Code.wp _ _ _ _ _;refine wp_seq (wp_mono (GG.eF iA (G:=GS 59) (S:={ env:=[(2, .own 0 0),(3, .i (ptr (b3,0))),(4, .osl 1 1 0 init.length),(5,(.i (.iref [.int x.kind, .int x.col, .bool x.val.null, .int x.val.n, .lit (.slice ao x.kids.length cap)])))],st:=[some (.box zc),some (.arr 1 ES)] }) (e:=.normal) (S':={ env:=[(0, .junk),(2, .own 0 0),(3, .i (ptr (b3,0))),(4, .osl 1 1 0 init.length),(5,(.i (.iref [.int x.kind, .int x.col, .bool x.val.null, .int x.val.n, .lit (.slice ao x.kids.length cap)]))),(6, .junk),(13, .junk),(37, .int x.kids.length),(38, .int 0),(39, .junk)],st:=[some (.box zc),some (.arr 1 ES)] }) (by kernel_rfl) (by simp[ptr,zc]) g9) ?_);rintro _ a10 w10 ⟨rfl,g10⟩;clear g9;by_cases hx:x.kids=[]
   ·refine wp_mono (GG.eF iA (G:=GS 59) (S:={ env:=[(0, .junk),(2, .own 0 0),(3, .i (ptr (b3,0))),(4, .osl 1 1 0 init.length),(5,(.i (.iref [.int x.kind, .int x.col, .bool x.val.null, .int x.val.n, .lit (.slice ao x.kids.length cap)]))),(6, .junk),(13, .junk),(37, .int x.kids.length),(38, .int 0),(39, .junk)],st:=[some (.box zc),some (.arr 1 ES)] }) (e:=.normal) (S':={ env:=[(0, .junk),(2, .own 0 0),(3, .i (ptr (b3,0))),(4, .osl 1 1 0 init.length),(5,(.i (.iref [.int x.kind, .int x.col, .bool x.val.null, .int x.val.n, .lit (.slice ao x.kids.length cap)]))),(6, .junk),(13, .junk),(37, .int x.kids.length),(38, .int 0),(39, .bool false)],st:=[some (.box zc),some (.arr 1 ES)] }) (by kernel_rfl) (by
     simp only[hx,yT];simp;rw[aG]
     simp[ptr,zc]) g10) ?_
    rintro _ a11 w11 ⟨rfl,g11⟩;simp only[gQ,Exit.then,Exit.inBlock];refine⟨n-1,by omega,init,((b,o),(x,none))::X,K++AF3 b o x b' cap,by have:=hWL.step (b':=b') (cap:=cap) hfr;rwa [hx,show bL b' 0 []=[]from rfl,zA]at this,?_,by omega,?_⟩
    ·rw[hx]at hxs;simp[Ex.aL]at hxs;omega
    ·have hES2:((init++((b,o),((x,none):Nd))::X:KL).map fun k=>[ptr k.1])=ES:=by rw[← hES];simp
     simp only[SL,hES2]
     exact g11.envTo (by
      intro t;simp only[aJ];by_cases h2:t=2
      ·subst h2;simp
      by_cases h3:t=3
      ·subst h3;simp
      by_cases h4:t=4
      ·subst h4;simp
      ·simp[h2,h3,h4])
   ·obtain rfl:=e2 hx;have hET:ES.take init.length=RW init b' 0:=by rw[← hES];simp[RW]
    have hEL:init.length≤ES.length:=by rw[← hES];simp
    have hlim:∀ i,i≤x.kids.length→(init.length+i+1)*8≤140737488355328:=fun i hi=>by omega
    have hk0:x.kids.length≠0:=fun h=>hx (zW.1 h)
    refine wp_mono (GG.eF iA (G:=GS 59) (S:={ env:=[(0, .junk),(2, .own 0 0),(3, .i (ptr (b3,0))),(4, .osl 1 1 0 init.length),(5,(.i (.iref [.int x.kind, .int x.col, .bool x.val.null, .int x.val.n, .lit (.slice (some ⟨b',0,none⟩) x.kids.length cap)]))),(6, .junk),(13, .junk),(37, .int x.kids.length),(38, .int 0),(39, .junk)],st:=[some (.box zc),some (.arr 1 ES)] }) (e:=.normal) (S':={ env:=[(0, .junk),(2, .own 0 0),(3, .i (ptr (b3,0))),(4, .osl 2 1 0 (init.length+x.kids.length)),(5,(.i (.iref [.int x.kind, .int x.col, .bool x.val.null, .int x.val.n, .lit (.slice (some ⟨b',0,none⟩) x.kids.length cap)]))),(6, .int (x.kids.length-1)),(13, .junk),(37, .int x.kids.length),(38, .int x.kids.length),(39, .bool false)],st:=[some (.box zc),none,some (.arr 1 (RW init b' x.kids.length))] }) (by kernel_rfl) (by
     simp;rw[aS (YS b3 b' cap x init ES) x.kids.length (by simp[YS])]
     ·rw[aG];simp[YS,hk0,bT hk0,zc,ptr]
     ·intro i hi;have w2:IntKind.i64.wrap ((i:Int)+1)=i+1:=wrO;have hi0:(i:Int)<x.kids.length:=by omega
      by_cases h0:i=0
      ·subst h0;have hl:(init.length+1)*8≤140737488355328:=by omega
       have hR:RW init b' 0++[[.lit (.pointer (some ⟨b',0,none⟩))]]=RW init b' 1:=by simpa [ptr]using N7 init b' 0
       simp[YS,zc,ptr,AFH,hi,hET,hEL,hl,hR]
      ·have hl:=hlim i (by omega);have hT:(RW init b' i).take (init.length+i)=RW init b' i:=zY (by rw[X4];omega);have hR:RW init b' i++[[.lit (.pointer (some ⟨b',i*5,none⟩))]]=RW init b' (i+1):=by simpa [ptr]using N7 init b' i
       simp[YS,h0,bT h0,zc,ptr,w2,hi,hT,X4,hl,hR,← Nat.add_assoc]) g10) ?_
    rintro _ a11 w11 ⟨rfl,g11⟩;simp only[gQ,Exit.then,Exit.inBlock];refine⟨n-1,by omega,init++bL b' 0 x.kids,[],K++AF3 b o x b' cap,hWL.step hfr,?_,by omega,?_⟩
    ·rw[yB,List.sum_append,qE];omega
    ·have g12:=g11.settle [2,3,4]
     have hR:List.map (fun k:(Nat×Nat)×Nd=>[ptr k.1]) (init++bL b' 0 x.kids++[])=RW init b' x.kids.length:=by
      rw[zA,yB,qF];simp[RW]
     have hl:(init++bL b' 0 x.kids).length=init.length+x.kids.length:=by rw[zL,qG]
     simp only[SL,hR,hl]
     have hs:Av.settle [2,3,4] 0 (aJ [(0, .junk),(2, .own 0 0),(3, .i (ptr (b3,0))),(4, .osl 2 1 0 (init.length+x.kids.length)),(5, .i (.iref [.int x.kind, .int x.col, .bool x.val.null, .int x.val.n, .lit (.slice (some ⟨b',0,none⟩) x.kids.length cap)])),(6, .int (x.kids.length-1)),(13, .junk),(37, .int x.kids.length),(38, .int x.kids.length),(39, .bool false)]) (aR [some (.box zc),none,some (.arr 1 (RW init b' x.kids.length))])={ env:=[(2, .own 0 0),(3, .i (ptr (b3,0))),(4, .osl 1 1 0 (init.length+x.kids.length))],st:=[some (.box zc),some (.arr 1 (RW init b' x.kids.length))] }:=by
      simp[zc,ptr]
     rw[hs]at g12
     exact g12.envTo (by
      intro t;simp only[aJ];by_cases h2:t=2
      ·subst h2;simp
      by_cases h3:t=3
      ·subst h3;simp
      by_cases h4:t=4
      ·subst h4;simp
      ·simp[h2,h3,h4])
end Go.Av.V.Sx
namespace Go.Av
def unC:IV→IV
 | .iref [c]=>c
 | c=>c
theorem AKT (c:IV):unC (XH c)=c:=by
 unfold XH;split
 ·rename_i h
  cases c with
  | iref cs=>simp[jM]at h
  | _=>rfl
 ·rfl
def qX (k ix off:Nat):Option Blk→Option IV
 | some (.arr k' es)=>tst (decide (k'=k∧off≤k)) (bnd (fT es ix) fun e=>some (.iref (dropE off e)))
 | some (.tre k' es)=>tst (decide (k'=k∧off≤k)) (bnd (fT es ix) fun e=>some (.iref (dropE off (e.map unC))))
 | _=>none
def AQ7 (st:Store):AV→Option IV
 | .ownE id k ix off=>qX k ix off (st id)
 | v=>kS st v
def O4 (st:Store):List AV→Option (List AV)
 | []=>some []
 | c::r=>bnd (AQ7 st c) fun v=>bnd (O4 st r) fun l=>some (.i v::l)
def YA (call:dI) (g:FuncId) (args:List AV) (st:StL):Option (AV×StL):=bnd (O4 (aR st) args) fun us=>ADH call g us st
theorem UCells.toI {w:World} {m:Mem} (hm:kR w m):∀ {cs:List IV} {vs:List Value} {F:List Nat},UCells w m cs vs F→ICells (dR w) (cs.map unC) vs
 | _,_,_, .nil=>.nil
 | _,_,_, .lit o r=>.cons (.lit _) o (r.toI hm)
 | _,_,_, .isl0 c r=>.cons (.isl0 _ _ c) rfl (r.toI hm)
 | _,_,_, .isl hn hr hk hl hf hc g r=>by
  have:=(TCells.isl hn hr hk hl hf hc g .nil).toI
  cases this with
  | cons a _ _=>exact .cons a rfl (r.toI hm)
 | _,_,_, .kn a o r=>.cons (a.mono (DV hm)) o (r.toI hm)
theorem PZ {w:World} {m:Mem} {φ:Pl} {st:Store} {id k ix off:Nat} {x:Value} {iv:IV} (hi:Inv w m φ st) (hr:Rep m φ (.ownE id k ix off) x) (h:qX k ix off (st id)=some iv):IRep (dR w) iv x:=by
 cases hr with
 | @ownE _ _ _ _ b n e =>
  cases hst:st id with
  | none=>rw[hst]at h;simp[qX]at h
  | some blk =>
   rw[hst]at h;obtain⟨hb,hok⟩:=MQ hi e hst
   have key:∀ {T:TypeId} {vs:List Value} {es:List (List IV)} {er:List IV},w.heap[b]?=some (.cells vs.toArray T (0,0))→(∀ r∈es,r.length=k)→ICells (dR w) es.flatten (vs.take (k*es.length))→es[ix]?=some er→off≤k→IRep (dR w) (.iref (dropE off er)) (.pointer (some ⟨b,k*ix+off,none⟩)):=by
    intro T vs es er hh hw hc h1 ho
    have he:IElems (dR w) b 0 k es:=gV 0 hw hc fun j v hj=>by
     show w.cell? ⟨b,0+j,none⟩=some v;rw[zH,bG hh];rw[zF]at hj;split at hj
     ·exact hj
     ·cases hj
    obtain⟨hat,hl⟩:=JG he h1;have:=IAt.dropE off hat (by omega);rw[zH]at this;exact .iref this
   cases hok with
   | arr hh hl hpos hw1 hc hfit hm hown1 hone =>
    simp only[qX]at h;obtain⟨hk,h0⟩:=aQ.1 h;obtain⟨rfl,ho⟩:=zR hk;obtain⟨er,h1,h2⟩:=aI.1 h0;injection h2 with h2;subst h2;rw[fA]at h1;exact key hh hw1 (hc.mono (DV hi.mem)) h1 ho
   | @tre T k' es vs F hh hl hpos hw1 hc hfit hnd hF hm hone =>
    simp only[qX]at h;obtain⟨hk,h0⟩:=aQ.1 h;obtain⟨rfl,ho⟩:=zR hk;obtain⟨er,h1,h2⟩:=aI.1 h0;injection h2 with h2;subst h2;rw[fA]at h1;refine key (es:=es.map (List.map unC)) hh (fun r hr=>?_) ?_ (by rw[xJ,h1];rfl) ho
    ·obtain⟨r',hr',rfl⟩:=yI.1 hr;rw[zB1];exact hw1 r' hr'
    ·have:=hc.toI hi.mem;rw[List.map_flatten]at this;rw[zB1];exact this
   | _=>simp[qX]at h
theorem GM {w:World} {m:Mem} {φ:Pl} {st:Store} (hi:Inv w m φ st):∀ {cs us:List AV} {xs:List Value},RepL m φ cs xs→O4 st cs=some us→RepL (dR w) (fun _=>none) us xs
 | [],us,_, .nil,h=>by simp[O4]at h;subst h;exact .nil
 | c::cs,us,_, .cons a b,h=>by
  simp only[O4]at h;obtain⟨v,h1,h2⟩:=aI.1 h;obtain⟨l',h3,h4⟩:=aI.1 h2;injection h4 with h4;subst h4;refine .cons (.i ?_) (GM hi b h3);unfold AQ7 at h1;split at h1
  ·exact PZ hi a h1
  ·exact JU hi a h1
theorem LF {C:Ctx} {call:dI} (hcall:CallOk C call) {g:FuncId} {args:List AV} {stl stl':StL} {r:AV} (h:YA call g args stl=some (r,stl')) (hy:g≠oG:=by decide) :
 (∃ fn,C.P.funcs[g]?=some fn∧fn.name≠ "runtime.NumGoroutine"∧fn.body.isSome=true)∧∀ (w:World) (m:Mem) (φ:Pl) (vs:List Value),Inv w m φ (aR stl)→RepL m φ args vs→(∀ id,φ id≠none→id<stl.length) →
  Calls C.P g vs.toArray w (bS w m φ r stl'):=by
 unfold YA at h;obtain⟨us,h1,h2⟩:=aI.1 h;exact LD hcall (us:=us) (fun w m φ vs hi hr=>GM hi hr h1) h2 hy
end Go.Av
namespace Go.Av
open Go.Av.Mk
def ARI (e:Ex):AV×StL:=if e.kids=[]then(.i (.agg e.cells),[])else(tE e 0,[some (jG Ex.cells 5 e.kids)])
noncomputable def Z4:List AV→StL→Option (AV×StL)
 | [.i (.iref cs)],[]=>@dite _ (∃ e:Ex,e.size<1000000000∧e.cells=cs) (Classical.propDecidable _) (fun h=>some (ARI h.choose)) fun _=>none
 | _,_=>none
theorem ANB {e:Ex} (h:e.size<1000000000):Z4 [.i (.iref e.cells)] []=some (ARI e):=by
 have hh:∃ x:Ex,x.size<1000000000∧x.cells=e.cells:=⟨e,h,rfl⟩
 unfold Z4;simp only;rw[dif_pos hh,Ex.G5 _ _ hh.choose_spec.2]
theorem AE4 {args:List AV} {st:StL} {r:AV×StL} (h:Z4 args st=some r):∃ e:Ex,e.size<1000000000∧args=[.i (.iref e.cells)]∧st=[]∧r=ARI e:=by
 unfold Z4 at h;split at h
 ·rename_i cs;by_cases hc:∃ e:Ex,e.size<1000000000∧e.cells=cs
  ·rw[dif_pos hc]at h;injection h with h;exact⟨hc.choose,hc.choose_spec.1,by rw[hc.choose_spec.2],rfl,h.symm⟩
  ·rw[dif_neg hc]at h;cases h
 ·cases h
theorem TV:∀ l:List IV,(mM l).map unC=l
 | []=>rfl
 | c::l=>by simp only[mM,yS,AKT,TV l]
theorem NV:∀ {l:List IV},mJ l=true→mM l=l
 | [],_=>rfl
 | c::l,h=>by
  simp only[mJ,zT]at h;simp[mM,XH,h.1,NV h.2]
theorem JN:∀ {l:List (List IV)},fM l=true→gD l=l
 | [],_=>rfl
 | c::l,h=>by
  simp only[fM,zT]at h;simp[gD,NV h.1,JN h.2]
def NI (es:List Ex):Nat→Blk
 | 0=>.arr 5 (Ex.aB es)
 | i+1=>.tre 5 (Ex.aB (es.take (i+1))++gD (Ex.aB (es.drop (i+1))))
@[simp] theorem AWW (r:Nat→Option Nat) (es:List Ex):∀ i,DN r (some (NI es i))=some (NI es i)
  | 0=>rfl
  | _+1=>rfl
@[simp] theorem AT4 (es:List Ex):∀ i,iL (some (NI es i))=[]
  | 0=>rfl
  | _+1=>rfl
theorem AM8 {es:List Ex} (h:es≠[]):NI es es.length=.tre 5 (Ex.aB es):=by
 cases hl:es.length with
 | zero=>exact absurd (zW.1 hl) h
 | succ n =>
  have h1:es.take (n+1)=es:=zY (by omega);have h2:es.drop (n+1)=[]:=List.drop_eq_nil_of_le (by omega);simp[NI,h1,h2,Ex.aB,gD]
theorem AAM {es:List Ex} {i:Nat} {a:Ex} (h:es[i+1]?=some a):Ex.aB (es.take (i+1))++gD (Ex.aB (es.drop (i+1)))=Ex.aB (es.take (i+1))++mM a.cells::gD (Ex.aB (es.drop (i+2))):=by
 obtain⟨hl,rfl⟩:=zZ.1 h;rw[yD hl];rfl
theorem AAN {es:List Ex} {i:Nat} {a:Ex} (h:es[i]?=some a):(Ex.aB (es.take i)).length=i:=by
 have:=(zZ.1 h).1;simp;omega
theorem AHJ {es:List Ex} {i:Nat} {a:Ex} (h:es[i]?=some a):qX 5 i 0 (some (NI es i))=some (.iref a.cells):=by
 have hd:∀ l:List IV,dropE 0 l=l:=fun l=>by cases l<;>rfl
 cases i with
 | zero =>
  have:=Ex.aO h;simp[NI,qX,tst,bnd,this,hd]
 | succ i =>
  have h1:=nW (Ex.aB (es.take (i+1))) (mM a.cells) (gD (Ex.aB (es.drop (i+2))));rw[AAN h]at h1;simp only[NI,AAM h];simp[qX,tst,bnd,h1,hd,TV]
theorem AM7 {es:List Ex} {i:Nat} {a:Ex} (h:es[i]?=some a) (id:Nat) (st:Store):dQ id 5 i 0 a.cells st (some (NI es i))=some (upd st id (some (NI es (i+1)))):=by
 have hl:DY a.cells=false:=by rw[Ex.aA];simp[DY,AI0]
 have g3:splice a.cells 0 a.cells=some a.cells:=jP rfl;have g4:splice (mM a.cells) 0 a.cells=some a.cells:=jP (by rw[C8])
 cases i with
 | zero =>
  cases es with
  | nil=>simp at h
  | cons x es =>
   simp at h;subst h;by_cases hb:fM (Ex.aB (x::es))=true
   ·have hb2:=hb;simp only[Ex.aB,fM,zT]at hb2;simp only[Ex.aB]at hb;simp[NI,dQ,wO,bnd,tst,fA,g3,g4,hl,hb,Ex.aB,JN hb2.2]
   ·simp only[Ex.aB]at hb;simp[NI,dQ,wO,bnd,tst,fA,g3,g4,hl,hb,Ex.aB,gD]
 | succ i =>
  have hn:=AAN h;have h1:=nW (Ex.aB (es.take (i+1))) (mM a.cells) (gD (Ex.aB (es.drop (i+2))));rw[hn]at h1
  have h2:(Ex.aB (es.take (i+1))++mM a.cells::gD (Ex.aB (es.drop (i+2)))).set (i+1) a.cells=Ex.aB (es.take (i+1))++a.cells::gD (Ex.aB (es.drop (i+2))):=by
   rw[zA9 _ _ (by omega),hn,zE6,zC6]
  have h3:Ex.aB (es.take (i+2))=Ex.aB (es.take (i+1))++[a.cells]:=by rw[aN h,Ex.aZ]
  simp only[NI,AAM h,h3,yZ,List.singleton_append];simp[dQ,bnd,tst,h1,g4,h2]
end Go.Av
namespace Go.Proofs.YtgiepjdnkonkgaaGreat.P
open Go Go.Av Go.Av.Mk
set_option maxRecDepth 4000
set_option maxHeartbeats 4000000
noncomputable def ARW:FuncId→Option (List AV→StL→Option (AV×StL))
 | 59=>some Z4
 | _=>none
noncomputable def C3:Ctx:={ P:=Tryz.prog,G:=GS,ownArgs:=bU,keepRes:=keepR,eqT:=ED,prim:=ARW,tree:=true }
theorem ALV:PrimOk C3:=by
 have key:∀ g q,C3.prim g=some q→g=59∧q=Z4:=by
  intro g q h;have h:ARW g=some q:=h;unfold ARW at h;split at h
  ·injection h with h;exact⟨rfl,h.symm⟩
  ·cases h
 constructor
 ·intro g args st p h;unfold bV at h
  cases hq:C3.prim g with
  | none=>rw[hq]at h;cases h
  | some q =>
   obtain⟨rfl,rfl⟩:=key g q hq;exact⟨Tryz.f59,Tryz.func59,by decide,rfl⟩
 ·intro g args stl r stl' h w m φ vs hi hr h0;unfold bV at h
  cases hq:C3.prim g with
  | none=>rw[hq]at h;cases h
  | some q =>
   obtain⟨rfl,rfl⟩:=key g q hq;rw[hq]at h;obtain⟨e,he,rfl,rfl,hres⟩:=AE4 h;unfold ARI at hres;split at hres
   ·injection hres with h1 h2;subst h1;subst h2;exact IG he hi hr h0
   ·rename_i hk;injection hres with h1 h2;subst h1;subst h2;exact Go.Av.V.Sx.Z8 he hk hi hr h0
theorem AWH:SoundOk C3:=iU (C:=C3) ft nt eqS mo ALV
attribute [local simp] YA ADH O4 AQ7 mfA mfR AMA AP8 mfC ADA iH
theorem Y9 {es:List Ex} {i:Nat} {a:Ex} (ha:es[i]?=some a) (hs:a.size<1000000000):YA (aH C3) 59 [.ownE 0 5 i 0] [some (NI es i)]=some (if a.kids=[]then .i (.agg a.cells)else tE a 1,if a.kids=[]then [some (NI es i)]else [some (NI es i),some (jG Ex.cells 5 a.kids)]):=by
 have h1:aH C3 59 [.i (.iref a.cells)] []=some (ARI a):=by
  rw[aT (C:=C3) (p:=Z4) rfl];exact ANB hs
 have h2:=AHJ ha;by_cases hk:a.kids=[]
 ·simp only[ARI,hk,if_true]at h1 ⊢;rw[Ex.aA,hk]at h1 h2 ⊢;simp only[Ex.aB]at h1 h2 ⊢;simp[h1,h2]
 ·simp only[ARI,hk,if_false]at h1 ⊢;simp[h1,h2,tE]
end Go.Proofs.YtgiepjdnkonkgaaGreat.P
namespace Go.Proofs.YtgiepjdnkonkgaaGreat.G
open Go Go.Av
set_option maxRecDepth 4000
set_option maxHeartbeats 4000000
noncomputable def ARX:FuncId→Option (List AV→StL→Option (AV×StL))
 | 59=>some (YA (aH P.C3) 59)
 | _=>none
noncomputable def C2:Ctx:={ P:=Tryz.prog,G:=GS,ownArgs:=bU,keepRes:=keepR,eqT:=ED,prim:=ARX,tree:=true }
@[simp] theorem AtO:C2.P=Tryz.prog:=(rfl)
@[simp] theorem AtQ (f):C2.G f=GS f:=(rfl)
@[simp] theorem AtL (f):C2.ownArgs f=bU f:=(rfl)
@[simp] theorem AtM (f):C2.keepRes f=keepR f:=(rfl)
@[simp] theorem AtN (f):C2.eqT f=ED f:=(rfl)
@[simp] theorem AtJ:C2.tree=true:=(rfl)
theorem ALW:PrimOk C2:=by
 have h3:=aY P.AWH
 have key:∀ g q,C2.prim g=some q→g=59∧q=YA (aH P.C3) g:=by
  intro g q h;have h:ARX g=some q:=h;unfold ARX at h;split at h
  ·injection h with h;exact⟨rfl,h.symm⟩
  ·cases h
 constructor
 ·intro g args st p h;unfold bV at h
  cases hq:C2.prim g with
  | none=>rw[hq]at h;cases h
  | some q =>
   obtain⟨rfl,rfl⟩:=key g q hq;rw[hq]at h;exact(LF h3 (r:=p.1) (stl':=p.2) h).1
 ·intro g args stl r stl' h w m φ vs hi hr h0;unfold bV at h
  cases hq:C2.prim g with
  | none=>rw[hq]at h;cases h
  | some q =>
   obtain⟨rfl,rfl⟩:=key g q hq;rw[hq]at h;exact(LF h3 h).2 w m φ vs hi hr h0
theorem kD:SoundOk C2:=iU (C:=C2) ft nt eqS mo ALW
theorem AYK:aH C2 58 [.i (.isl [])] []=some (.nils,[]):=by
 rw[aD rfl Tryz.func58 rfl rfl];simp
theorem ATK {ks:List Ex} (h:ks≠[]) (hl:ks.length<1000000000):aH C2 58 [.i (.isl (Ex.aB ks))] []=some (.osl 0 5 0 ks.length,[some (.arr 5 (Ex.aB ks))]):=by
 rw[aD rfl Tryz.func58 rfl rfl];have h1:56*(ks.length:Int)≤281474976710656:=by omega
 simp[h,h1];unfold over;simp
theorem APZ:aH C2 60 [.i (.isl [])] []=some (.nils,[]):=by
 rw[aD rfl Tryz.func60 rfl rfl];simp
theorem AJ8 {l:List Int} (h:l≠[]) (hl:l.length<1000000000):aH C2 60 [.i (.isl (aF l))] []=some (.osl 0 1 0 l.length,[some (.arr 1 (aF l))]):=by
 rw[aD rfl Tryz.func60 rfl rfl];have h1:8*(l.length:Int)≤281474976710656:=by omega
 simp[h,h1];unfold over;simp
theorem ABP:aH C2 61 [.i (.isl [])] []=some (.nils,[]):=by
 rw[aD rfl Tryz.func61 rfl rfl];simp
theorem SA {ks:List Pn} (h:ks≠[]) (hl:ks.length<1000000000):aH C2 61 [.i (.isl (Pn.aB ks))] []=some (.osl 0 5 0 ks.length,[some (.arr 5 (Pn.aB ks))]):=by
 rw[aD rfl Tryz.func61 rfl rfl];have h1:88*(ks.length:Int)≤281474976710656:=by omega
 simp[h,h1];unfold over;simp
theorem AYJ {es:List Ex} {i:Nat} {a:Ex} (ha:es[i]?=some a) (hs:a.size<1000000000):aH C2 59 [.ownE 0 5 i 0] [some (NI es i)]=some (if a.kids=[]then .i (.agg a.cells)else tE a 1,if a.kids=[]then [some (NI es i)]else [some (NI es i),some (Mk.jG Ex.cells 5 a.kids)]):=by
 rw[aT (C:=C2) (p:=YA (aH P.C3) 59) rfl];exact P.Y9 ha hs
def zp:List AV:=[.int 0, .int 0, .nils, .nils, .nils]
def EV (b3:Nat) (v4 v5 v6 v7 v14 v38 v39 v40 v76 v77 v78:AV):List (Nat×AV):=[(0, .junk),(2, .own 0 0),(3, .i (ptr (b3,0))),(4,v4),(5,v5),(6,v6),(7,v7),(14,v14),(38,v38),(39,v39),(40,v40),(76,v76),(77,v77),(78,v78)]
def mP (l:PL):List (List IV):=l.map fun k=>[ptr k.1]
def SLp (b3:Nat) (todo X:PL):AS:={ env:=EV b3 (.osl 1 1 0 todo.length) .junk .junk .junk .junk .junk .junk .junk .junk .junk .junk,st:=[some (.box zp),some (.arr 1 (mP (todo++X)))] }
def SRp (b3 n o:Nat) (ES:List (List IV)) (v6 v7 v14 v38 v39 v40 v76 v77 v78:AV) (cells:List AV) (L:StL):AS:={ env:=EV b3 (.osl 1 1 0 n) (.own 2 o) v6 v7 v14 v38 v39 v40 v76 v77 v78,st:=some (.box zp)::some (.arr 1 ES)::some (.box cells)::L }
theorem QG:∀ (l:PL),∀ c∈(mP l).flatten,∃ v,c=.lit v
 | [],c,h=>by simp[mP]at h
 | k::l,c,h=>by
  simp only[mP,yS,z8,zV,zA6]at h
  rcases h with rfl|h
  ·exact⟨_,rfl⟩
  ·exact QG l c h
theorem K5 (a b x:Option Blk):upd (aR [a,b]) 2 x=aR [a,b,x]:=by
 funext i;rcases i with _|_|_|i<;>simp[aR,upd]
theorem AbX (b3:Nat) (v4 v5 v5' v6 v7 v14 v38 v39 v40 v76 v77 v78:AV):upd (aJ (EV b3 v4 v5 v6 v7 v14 v38 v39 v40 v76 v77 v78)) 5 v5'=aJ (EV b3 v4 v5' v6 v7 v14 v38 v39 v40 v76 v77 v78):=by
 funext t;simp only[upd,EV,aJ];by_cases h5:t=5
 ·subst h5;simp
 ·simp only[h5,if_false]
def XS (b3 n:Nat) (ES:List (List IV)) (pre post:List Value) (k t:Int) (es:List Ex) (aC aK:AV) (v14:AV) (i:Nat):AS :=
 SRp b3 n pre.length ES (jk i (.int (i-1))) .junk v14 (.int es.length) (.int i) (jk i (.bool true)) .junk .junk .junk (lT pre [.int k, .int t, .osl 3 5 0 es.length,aC,aK] post) [some (NI es i)]
set_option maxHeartbeats 8000000
def jj:List (Nat×AV):=[(4, .junk),(5, .junk),(6, .junk),(7, .junk),(14, .junk),(38, .junk),(39, .junk),(40, .junk),(76, .junk),(77, .junk),(78, .junk)]
theorem kX:XA (fun _ _ _=>True):=fun _ _ _ _ _ _ _ _=>trivial
theorem AQ4:IntKind.i64.wrap 1=1:=wrO
def RWp (init:PL) (b' i:Nat):List (List IV):=mP init++(List.range i).map fun j=>[ptr (b',j*5)]
theorem AK1 (init:PL) (b' i:Nat):(RWp init b' i).length=init.length+i:=by simp[RWp,mP]
theorem AO7 (init:PL) (b' i:Nat):RWp init b' i++[[ptr (b',i*5)]]=RWp init b' (i+1):=by simp[RWp,zC8]
theorem OT (b:Nat):∀ (o:Nat) (l:List Pn),mP (nI b o l)=(List.range l.length).map fun j=>[ptr (b,o+j*5)]
 | _,[]=>by simp[nI,mP]
 | o,a::l=>by
  have ih:=OT b (o+5) l;simp only[mP]at ih ⊢;simp only[nI,yS,ih,zP,zE1,List.map_map];simp only[List.cons.injEq,Nat.zero_mul,yE,true_and];apply zD4;intro j _;simp only[Function.comp,Nat.succ_eq_add_one];rw[show o+5+j*5=o+(j+1)*5 by omega]
theorem VG (b:Nat):∀ (o:Nat) (l:List Pn),(nI b o l).length=l.length
 | _,[]=>rfl
 | o,a::l=>by simp[nI,VG b (o+5) l]
theorem VE (b:Nat):∀ (o:Nat) (l:List Pn),((nI b o l).map fun k=>k.2.size).sum=Pn.aL l
 | _,[]=>by simp[nI,Pn.aL]
 | o,a::l=>by simp[nI,Pn.aL,VE b (o+5) l]
theorem VF {b:Nat}:∀ {o:Nat} {l:List Pn},∀ q∈nI b o l,q.2∈l∧q.1.1=b
 | _,[],q,h=>by simp[nI]at h
 | o,a::l,q,h=>by
  simp only[nI,zS]at h
  rcases h with rfl|h
  ·simp
  ·have:=VF q h;exact⟨by simp[this.1],this.2⟩
def iE (es:List Ex):Nat:=if es.length=0 then 100 else 3
def lE0 (es:List Ex):StL:=if es.length=0 then []else [some (.arr 5 (Ex.aB es))]
def lE (es:List Ex):StL:=if es.length=0 then []else [some (.tre 5 (Ex.aB es))]
def iC (es:List Ex) (cs:List Int):Nat:=if cs.length=0 then 101 else 3+(lE es).length
def lC (es:List Ex) (cs:List Int):StL:=if cs.length=0 then lE es else lE es++[some (.arr 1 (aF cs))]
def iK (es:List Ex) (cs:List Int) (ks:List Pn):Nat:=if ks.length=0 then 102 else 3+(lC es cs).length
def lK (es:List Ex) (cs:List Int) (ks:List Pn):StL:=if ks.length=0 then lC es cs else lC es cs++[some (.arr 5 (Pn.aB ks))]
def YP (b3 n o:Nat) (ES:List (List IV)) (init:PL) (b' nk:Nat) (cells:List AV) (i:Nat):AS :=
 { env:=EV b3 (if i=0 then .osl 1 1 0 n else .osl 3 1 0 (n+i)) (.own 2 o) .junk (jk i (.int (i-1))) (.bool true) .junk .junk .junk (.int nk) (.int i) (jk i (.bool true)),
   st:=some (.box zp)::(if i=0 then some (.arr 1 ES)else none)::some (.box cells)::(if i=0 then []else [some (.arr 1 (RWp init b' i))]) }
theorem AG9 (a b c:Option Blk):∀ (l:StL) {x:Option Blk},aR (a::b::c::(l++[x])) (3+l.length)=x:=by
 intro l x;rw[rE]
 have:(a::b::c::(l++[x]))[3+l.length]?=some x:=by
  rw[show 3+l.length=l.length+1+1+1 by omega];simp
 rw[this];rfl
theorem iO {p:Pn} (hsz:p.size<1000000000) (hth:p.thin) (hty:p.tiny) {wi:World} {mi:Mem} {vs:List Value} (hi:Inv wi mi (fun _=>none) (aR [])) (hr:RepL mi (fun _=>none) [.i (.iref p.cells)] vs) :
 Calls Tryz.prog 33 vs.toArray wi (vG wi mi p):=by
 refine calls_of_wp (fn:=Tryz.f33) Tryz.func33 rfl ?_;have hv1:vs.length=1:=by simpa using hr.length.symm
 have g0:GR wi mi 91 (fun id=>id<({ env:=[(0, .i (.iref p.cells))],st:=[] }:AS).st.length) (fun _ _ _=>True) (aJ [(0, .i (.iref p.cells))]) (aR []) { tmps:=vs.toArray++Array.replicate (91-vs.toArray.size) undef,defers:=[] } wi:=by
  refine⟨⟨mi,fun _=>none,hi,?_, .refl _ _ _,fun id h=>absurd rfl h,trivial⟩,by simp;omega,rfl⟩;intro t;have:=mG (m:=mi) (φ:=fun _=>none) (91-vs.toArray.size) hr t
  cases t with
  | zero=>simpa [aJ,sN]using this
  | succ t=>simp only[aJ];simp;exact .junk _
 refine wp_seq (wp_mono (GR.eF kD (G:=GS 33) (S:={ env:=[(0, .i (.iref p.cells))],st:=[] }) (e:=.normal) (S':={ env:=[(0, .i (.iref p.cells)),(2, .own 0 0),(3, .junk)]++jj,st:=[some (.box zp)] }) kX (by kernel_rfl) (by simp[zp,jj]) g0) ?_);rintro _ a1 w1 ⟨rfl,g1⟩;refine wp_seq (wp_mono (GR.eF kD (G:=GS 33) (S:={ env:=[(0, .i (.iref p.cells)),(2, .own 0 0),(3, .junk)]++jj,st:=[some (.box zp)] }) (e:=.normal) (S':={ env:=[(0, .i (.iref p.cells)),(2, .own 0 0),(3, .own 1 0)]++jj,st:=[some (.box zp),some (.box (lF p.cells))] }) kX (by kernel_rfl) (by rw[Pn.aA];simp[zp,jj]) g1) ?_);rintro _ a2 w2 ⟨rfl,g2⟩
 obtain⟨b3,g3⟩:=g2.Ae8 (u:=3) (id:=1) (p:=p) (st':=aR [some (.box zp)]) rfl rfl (by
  intro i blk h
  cases i with
  | zero=>simp[aR]at h;subst h;exact⟨by omega,rfl,by simp[gU,zp]⟩
  | succ i=>simp[aR]at h)
 have g3:=g3 (aJ [(2, .own 0 0),(3, .i (ptr (b3,0)))]) (by
  intro t;simp only[aJ];by_cases h2:t=2
  ·subst h2;exact .inr (.inr ⟨rfl,by simp[aJ,jV,aR,jj]⟩)
  ·by_cases h3:t=3
   ·subst h3;exact .inr (.inl ⟨rfl,rfl⟩)
   ·simp[h2,h3])
 have g3:=g3.ok' (ok':=fun id=>id<({ env:=[(2, .own 0 0),(3, .i (ptr (b3,0)))],st:=[some (.box zp)] }:AS).st.length) (by
  intro i h
  cases i with
  | zero=>simp
  | succ i=>simp[aR]at h)
 refine wp_seq (wp_mono (GR.eF kD (G:=GS 33) (S:={ env:=[(2, .own 0 0),(3, .i (ptr (b3,0)))],st:=[some (.box zp)] }) (e:=.normal) (S':=SLp b3 [((b3,0),p)] []) (RAW.D8 _ _ _ _ _) (by kernel_rfl) (by simp[SLp,EV,mP,ptr,zp]) g3) ?_);rintro _ a3 w3 ⟨rfl,g4⟩;clear g0 g1 g2 g3;refine wp_seq (wp_block ?_);refine tX (fun n a w=>∃ (todo X H:PL) (F:List Nat),H.Perm todo∧(todo.map fun k=>k.2.size).sum=n∧n<1000000000∧(∀ q∈todo,q.2.thin∧q.2.tiny)∧GR wi mi 91 (fun id=>id<(SLp b3 todo X).st.length) (RAW wi b3 p F H) (aJ (SLp b3 todo X).env) (aR (SLp b3 todo X).st) a w) ?_ (n:=p.size) ⟨[((b3,0),p)],[],[((b3,0),p)],[], .refl _,by simp,hsz,by simpa using ⟨hth,hty⟩,g4⟩;clear g4;rintro n a w ⟨todo,X,H,F,hperm,hsum,hn,hall,g⟩
 rcases zD2 todo with rfl|⟨init,k,rfl⟩
 ·obtain rfl:=List.perm_nil.1 hperm;refine wp_mono (GR.eF kD (G:=GS 33) (S:=SLp b3 [] X) (e:=.exit 0) (S':={ env:=EV b3 (.osl 1 1 0 0) .junk .junk .junk (.bool false) .junk .junk .junk .junk .junk .junk,st:=[some (.box zp),some (.arr 1 (mP X))] }) (RAW.D8 _ _ _ _ _) (by kernel_rfl) (by simp[SLp,EV,zp]) g) ?_;rintro _ a5 w5 ⟨rfl,g5⟩;simp only[gQ,Exit.then,Exit.inBlock,if_true];obtain⟨v0,v1,v2,v3,v4,post,hone,g6⟩:=g5.AQ2 (u:=3) (k:=2) rfl rfl (by simp)
  have g6:=(g6 (aJ [(2, .own 0 0),(3, .own 2 0)]) (by
   intro t;simp only[aJ];by_cases h2:t=2
   ·subst h2;exact .inr (.inr (by simp[aJ,EV]))
   ·by_cases h3:t=3
    ·subst h3;exact .inr (.inl ⟨rfl,rfl⟩)
    ·simp[h2,h3])).ok' (ok':=fun id=>id<({ env:=[(2, .own 0 0),(3, .own 2 0)],st:=[some (.box zp),some (.arr 1 (mP X)),some (.box (bD [v0,v1,v2,v3,v4]++bD post))] }:AS).st.length) (by
   intro i h
   simp at h ⊢;omega)
  rw[K5]at g6
  refine wp_mono (GR.eF kD (G:=GS 33) (S:={ env:=[(2, .own 0 0),(3, .own 2 0)],st:=[some (.box zp),some (.arr 1 (mP X)),some (.box (bD [v0,v1,v2,v3,v4]++bD post))] }) (e:=.ret) (S':={ env:=[(0, .junk),(2, .own 0 0),(3, .own 2 0)]++jj,st:=[some (.box (bD [v0,v1,v2,v3,v4])),some (.arr 1 (mP X)),some (.box (bD [v0,v1,v2,v3,v4]++bD post))] }) (CPY.D8 _ _ _ _ _ _ _ _) (by kernel_rfl) (by
   have hz:bD [v0,v1,v2,v3,v4]=[.i (.lit v0), .i (.lit v1), .i (.lit v2), .i (.lit v3), .i (.lit v4)]:=rfl;rw[hz]
   simp[zp,jj,BC,FH]) g6) ?_
  rintro _ a6 w6 ⟨rfl,g7⟩;obtain⟨⟨m,φ,q1,q2,q3,q4,q5⟩,q6,q7⟩:=g7
  obtain⟨v,k1,k2⟩:=fJ (C:=C2) (fn:=Tryz.f33) (keep:=false) (na:=0) (S:={ env:=[(0, .junk),(2, .own 0 0),(3, .own 2 0)]++jj,st:=[some (.box (bD [v0,v1,v2,v3,v4])),some (.arr 1 (mP X)),some (.box (bD [v0,v1,v2,v3,v4]++bD post))] }) (r:=.i (.agg [.lit v0, .lit v1, .lit v2, .lit v3, .lit v4])) (stl':=[]) (fun id h=>absurd rfl h) ⟨⟨⟨m,φ,q1,q2,q3,q4, .nil _ _ _⟩,q6,q7⟩,zB9 _⟩ (by
   show finish C2 false [ResultVar.cell 2 33] 0 _=_;have hz:bD [v0,v1,v2,v3,v4]=[.i (.lit v0), .i (.lit v1), .i (.lit v2), .i (.lit v3), .i (.lit v4)]:=rfl;rw[hz]
   simp)
  have hv:v=.agg #[v0,v1,v2,v3,v4]:=by
   obtain⟨_,_,_,e,r,_⟩:=k2;injection e with e;subst e
   cases r with
   | i r=>cases r with
    | agg r =>
     cases r with|cons a0 _ r=>cases r with|cons a1 _ r=>cases r with|cons a2 _ r=>cases r with|cons a3 _ r=>cases r with|cons a4 _ r =>
     cases r
     rw[eO a0,eO a1,eO a2,eO a3,eO a4]
  subst hv;refine⟨q7,_,k1,v0,v1,v2,v3,v4,F,m,rfl,hone,⟨q1.mem,q1.kn⟩,⟨q3.size,q3.os,q3.tape,q3.output,q3.block,q3.mle,q3.mnew, .refl _,fun _ _ _ _ e=>by cases e⟩,q5.th,q5.cells,q5.nd,fun f hf=>?_,q5.kc⟩;obtain⟨z1,z2,z3,z4,z5⟩:=q5.all f hf;exact⟨z1,z2,(by intro _ _ _ e;cases e),z4,z5⟩
 ·obtain⟨⟨b,o⟩,x⟩:=k;rw[List.concat_eq_append]at hperm hsum hall g
  have hlen:∀ l:PL,l.length≤(l.map fun k=>k.2.size).sum:=by
   intro l
   induction l with
   | nil=>simp
   | cons a l ih=>have:=Pn.nA a.2;simp;omega
  have hil:=hlen init;simp at hsum;have hq:((b,o),x)∈H:=hperm.mem_iff.2 (by simp);have hxs:=Pn.size_eq x;have hkl:=Pn.bN x.kids;have hpos:(0:Int)<(init.length:Int)+1:=by omega
  have w1:IntKind.i64.wrap (init.length:Int)=init.length:=wrO;generalize hES:mP (init++[((b,o),x)]++X)=ES at *
  have hnth:fT ES init.length=some [ptr (b,o)]:=by
   rw[fA,← hES];simp[mP]
  have hlit:∀ c∈ES.flatten,∃ v,c=.lit v:=by rw[← hES];exact QG _
  have htake:ES.take init.length=mP init:=by rw[← hES];simp[mP]
  have hESl:init.length≤ES.length:=by rw[← hES];simp[mP]
  have hlt:(init.length:Int)<(init.length:Int)+1:=by omega
  have hlt2:(init.length:Int)≤(init.length:Int)+1:=by omega
  obtain⟨hxt,hxy⟩:=hall ((b,o),x) (by simp);simp only at hxt hxy;refine wp_seq (wp_mono (GR.eF kD (G:=GS 33) (S:=SLp b3 (init++[((b,o),x)]) X) (e:=.normal) (S':={ env:=EV b3 (.osl 1 1 0 (init.length+1)) .junk .junk .junk (.bool true) .junk .junk .junk .junk .junk .junk,st:=[some (.box zp),some (.arr 1 ES)] }) (RAW.D8 _ _ _ _ _) (by kernel_rfl) (by simp only[SLp,hES];simp[EV,zp,hpos]) g) ?_);rintro _ a5 w5 ⟨rfl,g5⟩;clear g;refine wp_block ?_;refine wp_seq (wp_mono (GR.eF kD (G:=GS 33) (S:={ env:=EV b3 (.osl 1 1 0 (init.length+1)) .junk .junk .junk (.bool true) .junk .junk .junk .junk .junk .junk,st:=[some (.box zp),some (.arr 1 ES)] }) (e:=.normal) (S':={ env:=EV b3 (.osl 1 1 0 (init.length+1)) (.i (ptr (b,o))) .junk .junk (.bool true) .junk .junk .junk .junk .junk .junk,st:=[some (.box zp),some (.arr 1 ES)] }) (RAW.D8 _ _ _ _ _) (by kernel_rfl) (by simp only[ptr]at hnth;simp[EV,ptr,zp,hnth,w1,hlt]) g5) ?_);rintro _ a6 w6 ⟨rfl,g6⟩;clear g5;refine wp_seq (wp_mono (GR.eF kD (G:=GS 33) (S:={ env:=EV b3 (.osl 1 1 0 (init.length+1)) (.i (ptr (b,o))) .junk .junk (.bool true) .junk .junk .junk .junk .junk .junk,st:=[some (.box zp),some (.arr 1 ES)] }) (e:=.normal) (S':={ env:=EV b3 (.osl 1 1 0 init.length) (.i (ptr (b,o))) .junk .junk (.bool true) .junk .junk .junk .junk .junk .junk,st:=[some (.box zp),some (.arr 1 ES)] }) (RAW.D8 _ _ _ _ _) (by kernel_rfl) (by simp[EV,ptr,zp,w1,hlt2]) g6) ?_);rintro _ a7 w7 ⟨rfl,g7⟩;clear g6;obtain⟨pre,post,us,ma,e1,e2,e3,e4,e5,g8⟩:=g7.adopt (u:=5) (y:=x) rfl (by simp) hq rfl;clear g7;rw[AbX,K5]at g8;subst e3;obtain⟨kd,tb,es,cs,ks⟩:=x;obtain⟨t1,t2,t3,t4,t5⟩:=(Pn.bM _).1 hxt;obtain⟨y1,y2⟩:=(Pn.Q4 _).1 hxy;simp only[Pn.fB,Pn.bR,Pn.dZ]at t1 t2 t3 t4 t5 y1 y2 hxs hkl;rw[Pn.bF]at g8;have hst:=ADP.D8 wi b3 p F H b us w7 ma
  refine wp_seq (wp_mono (GR.eF kD (G:=GS 33) (S:=SRp b3 init.length pre.length ES .junk .junk (.bool true) .junk .junk .junk .junk .junk .junk (lT pre [.int kd, .int tb, .i (.isl (Ex.aB es)), .i (.isl (aF cs)), .i (.isl (Pn.aB ks))] post) []) (e:=.normal) (S':=SRp b3 init.length pre.length ES .junk .junk (.bool true) .junk .junk .junk .junk .junk .junk (lT pre [.int kd, .int tb,slA es.length (iE es) 5, .i (.isl (aF cs)), .i (.isl (Pn.aB ks))] post) (lE0 es)) hst (by kernel_rfl) (by
   by_cases he:es=[]
   ·subst he;simp[SRp,EV,zp,AQI,XU,bE,bQ,Ex.aB,AYK,slA,lE0]
   ·have hel:es.length≠0:=fun h=>he (zW.1 h)
    simp[SRp,EV,zp,AQI,XU,bE,bQ,ATK he t1,slA,lE0,iE,he]) (g8.ok' fun id h=>by simp at h ⊢;simp[SRp];omega)) ?_)
  rintro _ a9 w9 ⟨rfl,g9⟩;clear g8
  refine wp_seq (wp_mono (GR.AYG kD (G:=GS 33) (S:=SRp b3 init.length pre.length ES .junk .junk (.bool true) .junk .junk .junk .junk .junk .junk (lT pre [.int kd, .int tb,slA es.length (iE es) 5, .i (.isl (aF cs)), .i (.isl (Pn.aB ks))] post) (lE0 es)) hst
   (PP:=fun e S'=>e=.normal∧∃ v6 v38 v39 v40,S'=SRp b3 init.length pre.length ES v6 .junk (.bool true) v38 v39 v40 .junk .junk .junk (lT pre [.int kd, .int tb,slA es.length (iE es) 5, .i (.isl (aF cs)), .i (.isl (Pn.aB ks))] post) (lE es)) (by kernel_rfl) (by
   by_cases he:es=[]
   ·subst he;refine⟨.normal,SRp b3 init.length pre.length ES .junk .junk (.bool true) (.int 0) (.int 0) (.bool false) .junk .junk .junk (lT pre [.int kd, .int tb,slA 0 (iE []) 5, .i (.isl (aF cs)), .i (.isl (Pn.aB ks))] post) (lE []),?_,rfl,_,_,_,_,rfl⟩;simp[SRp,EV,zp,AQI,XU,bE,bQ,slA,lE,lE0];rw[aG];simp[bE,bQ]
   ·have hel:es.length≠0:=fun h=>he (zW.1 h)
    refine⟨.normal,SRp b3 init.length pre.length ES (.int (es.length-1)) .junk (.bool true) (.int es.length) (.int es.length) (.bool false) .junk .junk .junk (lT pre [.int kd, .int tb,slA es.length (iE es) 5, .i (.isl (aF cs)), .i (.isl (Pn.aB ks))] post) (lE es),?_,rfl,_,_,_,_,rfl⟩;simp[SRp,EV,zp,AQI,XU,bE,bQ,slA,lE,lE0,iE,he];rw[aS (XS b3 init.length ES pre post kd tb es (.i (.isl (aF cs))) (.i (.isl (Pn.aB ks))) (.bool true)) es.length (by simp[XS,SRp,EV,zp,NI])]
    ·rw[aG];have hend:=AM8 he;simp[hend,XS,SRp,EV,zp,AQI,XU,bE,bQ,bT hel]
    ·intro i hi;have h3:=zX hi;have hs:=y1 _ (zU h3);generalize es[i]=a at h3 hs;have hk:=AYJ h3 hs;have hput:=AM7 h3;have w2:IntKind.i64.wrap ((i:Int)+1)=i+1:=wrO;by_cases hkk:a.kids=[]
     ·simp only[hkk,if_true,Ex.aA,Ex.aB]at hk hput;simp[XS,SRp,EV,zp,AQI,XU,bE,bQ,hi,hk,w2,hput]
     ·simp only[hkk,if_false,tE]at hk;simp only[Ex.aA,Ex.bO]at hput
      simp[XS,SRp,EV,zp,AQI,XU,bE,bQ,hi,hk,w2,hput]) g9) ?_)
  rintro _ a10 w10 ⟨e,S',rfl,⟨rfl,v6,v38,v39,v40,rfl⟩,g10⟩;clear g9
  have g10:=(g10.envTo (env':=aJ (SRp b3 init.length pre.length ES .junk .junk (.bool true) .junk .junk .junk .junk .junk .junk (lT pre [.int kd, .int tb,slA es.length (iE es) 5, .i (.isl (aF cs)), .i (.isl (Pn.aB ks))] post) (lE es)).env) (by
   intro t;simp only[SRp,EV,aJ];by_cases h6:t=6
   ·subst h6;simp
   by_cases h38:t=38
   ·subst h38;simp
   by_cases h39:t=39
   ·subst h39;simp
   by_cases h40:t=40
   ·subst h40;simp
   ·simp[h6,h38,h39,h40]))
  refine wp_seq (wp_mono (GR.eF kD (G:=GS 33) (S:=SRp b3 init.length pre.length ES .junk .junk (.bool true) .junk .junk .junk .junk .junk .junk (lT pre [.int kd, .int tb,slA es.length (iE es) 5, .i (.isl (aF cs)), .i (.isl (Pn.aB ks))] post) (lE es)) (e:=.normal) (S':=SRp b3 init.length pre.length ES .junk .junk (.bool true) .junk .junk .junk .junk .junk .junk (lT pre [.int kd, .int tb,slA es.length (iE es) 5,slA cs.length (iC es cs) 1, .i (.isl (Pn.aB ks))] post) (lC es cs)) hst (by kernel_rfl) (by
   by_cases he:es=[]<;>by_cases hc:cs=[]
   ·subst he;subst hc;simp[SRp,EV,zp,AZ5,ALA,bE,bQ,aF,APZ,slA,lE,lC]
   ·have hcl:cs.length≠0:=fun h=>hc (zW.1 h)
    subst he;simp[SRp,EV,zp,AZ5,ALA,bE,bQ,AJ8 hc t3,slA,lE,lC,iC,hc]
   ·have hel:es.length≠0:=fun h=>he (zW.1 h)
    subst hc;simp[SRp,EV,zp,AZ5,ALA,bE,bQ,aF,APZ,slA,lE,lC,iE,he]
   ·have hel:es.length≠0:=fun h=>he (zW.1 h)
    have hcl:cs.length≠0:=fun h=>hc (zW.1 h)
    simp[SRp,EV,zp,AZ5,ALA,bE,bQ,AJ8 hc t3,slA,lE,lC,iE,iC,he,hc]) g10) ?_)
  rintro _ a11 w11 ⟨rfl,g11⟩;clear g10
  refine wp_seq (wp_mono (GR.eF kD (G:=GS 33) (S:=SRp b3 init.length pre.length ES .junk .junk (.bool true) .junk .junk .junk .junk .junk .junk (lT pre [.int kd, .int tb,slA es.length (iE es) 5,slA cs.length (iC es cs) 1, .i (.isl (Pn.aB ks))] post) (lC es cs)) (e:=.normal) (S':=SRp b3 init.length pre.length ES .junk .junk (.bool true) .junk .junk .junk .junk .junk .junk (lT pre [.int kd, .int tb,slA es.length (iE es) 5,slA cs.length (iC es cs) 1,slA ks.length (iK es cs ks) 5] post) (lK es cs ks)) hst (by kernel_rfl) (by
   by_cases he:es=[]<;>by_cases hc:cs=[]<;>by_cases hk:ks=[]
   all_goals (try subst he)
   all_goals (try subst hc)
   all_goals (try subst hk)
   ·simp[SRp,EV,zp,ACC,U6,bE,bQ,Pn.aB,ABP,slA,lE,lC,lK]
   ·simp[SRp,EV,zp,ACC,U6,bE,bQ,SA hk t4,slA,lE,lC,lK,iK,hk]
   ·simp[SRp,EV,zp,ACC,U6,bE,bQ,Pn.aB,ABP,slA,lE,lC,lK,iC,hc]
   ·simp[SRp,EV,zp,ACC,U6,bE,bQ,SA hk t4,slA,lE,lC,lK,iC,iK,hc,hk]
   ·simp[SRp,EV,zp,ACC,U6,bE,bQ,Pn.aB,ABP,slA,lE,lC,lK,iE,he]
   ·simp[SRp,EV,zp,ACC,U6,bE,bQ,SA hk t4,slA,lE,lC,lK,iE,iK,he,hk]
   ·simp[SRp,EV,zp,ACC,U6,bE,bQ,Pn.aB,ABP,slA,lE,lC,lK,iE,iC,he,hc]
   ·simp[SRp,EV,zp,ACC,U6,bE,bQ,SA hk t4,slA,lE,lC,lK,iE,iC,iK,he,hc,hk]) g11) ?_)
  rintro _ a12 w12 ⟨rfl,g12⟩;clear g11
  obtain⟨F',H',us',b',cap,vE,vC,m2,hpm,hus,hone,hbn,g13⟩:=g12.Ab3 (u:=5) (st':=aR [some (.box zp),some (.arr 1 ES)]) (env':=aJ (EV b3 (.osl 1 1 0 init.length) (.own 2 pre.length) .junk .junk (.bool true) .junk .junk .junk .junk .junk .junk)) (idE:=iE es) (idC:=iC es cs) (idK:=iK es cs ks) (oq:=pre.length) e1 e2 rfl e4 hq rfl
   (fun h=>by simp[SRp,iE,lE,lC,lK,h];split<;>split<;>simp[aR])
   (fun h=>by simp only[SRp,iC,lC,lK,h,if_false];cases hh:lE es with
    | nil=>split<;>simp[aR]
    | cons a l =>
     have:l=[]:=by unfold lE at hh;split at hh<;>simp_all
     subst this;split<;>simp[aR])
   (fun h=>by simp only[SRp,iK,lK,h,if_false];exact AG9 _ _ _ _)
   (by unfold iE iC iK lC lE;repeat' split<;>simp_all)
   (by
    intro i blk h
    rcases i with _|_|i
    ·simp[aR]at h;subst h;exact⟨by omega,rfl,by simp[gU,zp]⟩
    ·simp[aR]at h;subst h;exact⟨by omega,rfl,hlit⟩
    ·simp[aR]at h)
   (by
    intro t;simp only[SRp,EV,aJ];by_cases h0:t=0
    ·subst h0;simp
    by_cases h2:t=2
    ·subst h2;exact .inr ⟨by simp, .inr (by simp[jV,aR])⟩
    by_cases h3:t=3
    ·subst h3;exact .inr ⟨by simp, .inr (by simp[jV,ptr])⟩
    by_cases h4:t=4
    ·subst h4;exact .inr ⟨by simp, .inr (by simp[jV,aR])⟩
    by_cases h5:t=5
    ·subst h5;exact .inr ⟨by simp, .inl (by simp)⟩
    by_cases h14:t=14
    ·subst h14;exact .inr ⟨by simp, .inr (by simp[jV])⟩
    simp[h0,h2,h3,h4,h5,h14])
  clear g12;rw[K5]at g13;have hbx:bD us'=lT pre [.i (.lit (.int .i64 kd)), .i (.lit (.int .i64 tb)), .i (.lit vE), .i (.lit vC), .i (.lit (if ks.length=0 then .slice none 0 0 else .slice (some ⟨b',0,none⟩) ks.length cap))] post:=by rw[hus];simp[lT,bD]
  rw[hbx]at g13;have hst':=ADP.D8 wi b3 p F' H' b us' w12 m2
  refine wp_mono (GR.AYG kD (G:=GS 33) (S:=SRp b3 init.length pre.length ES .junk .junk (.bool true) .junk .junk .junk .junk .junk .junk (lT pre [.i (.lit (.int .i64 kd)), .i (.lit (.int .i64 tb)), .i (.lit vE), .i (.lit vC), .i (.lit (if ks.length=0 then .slice none 0 0 else .slice (some ⟨b',0,none⟩) ks.length cap))] post) []) hst'
   (PP:=fun e S'=>e=.normal∧∃ v7 v76 v77 v78,S'={ env:=EV b3 (if ks.length=0 then .osl 1 1 0 init.length else .osl 3 1 0 (init.length+ks.length)) (.own 2 pre.length) .junk v7 (.bool true) .junk .junk .junk v76 v77 v78,st:=some (.box zp)::(if ks.length=0 then some (.arr 1 ES)else none)::some (.box (lT pre [.i (.lit (.int .i64 kd)), .i (.lit (.int .i64 tb)), .i (.lit vE), .i (.lit vC), .i (.lit (if ks.length=0 then .slice none 0 0 else .slice (some ⟨b',0,none⟩) ks.length cap))] post))::(if ks.length=0 then []else [some (.arr 1 (RWp init b' ks.length))]) }) (by kernel_rfl) (by
   by_cases h0:ks.length=0
   ·refine⟨.normal,{ env:=EV b3 (.osl 1 1 0 init.length) (.own 2 pre.length) .junk .junk (.bool true) .junk .junk .junk (.int 0) (.int 0) (.bool false),st:=some (.box zp)::some (.arr 1 ES)::some (.box (lT pre [.i (.lit (.int .i64 kd)), .i (.lit (.int .i64 tb)), .i (.lit vE), .i (.lit vC), .i (.lit (if ks.length=0 then .slice none 0 0 else .slice (some ⟨b',0,none⟩) ks.length cap))] post))::[] },?_,rfl, .junk, .int 0, .int 0, .bool false,by simp[h0]⟩;simp[SRp,EV,zp,ACC,bE,bQ,h0];rw[aG];simp[bE,bQ]
   ·refine⟨.normal,{ env:=EV b3 (.osl 3 1 0 (init.length+ks.length)) (.own 2 pre.length) .junk (.int (ks.length-1)) (.bool true) .junk .junk .junk (.int ks.length) (.int ks.length) (.bool false),st:=some (.box zp)::none::some (.box (lT pre [.i (.lit (.int .i64 kd)), .i (.lit (.int .i64 tb)), .i (.lit vE), .i (.lit vC), .i (.lit (if ks.length=0 then .slice none 0 0 else .slice (some ⟨b',0,none⟩) ks.length cap))] post))::[some (.arr 1 (RWp init b' ks.length))] },?_,rfl, .int (ks.length-1), .int ks.length, .int ks.length, .bool false,by simp[h0]⟩;simp only[h0,if_false];simp[SRp,EV,zp,ACC,bE,bQ];rw[aS (YP b3 init.length pre.length ES init b' ks.length (lT pre [.i (.lit (.int .i64 kd)), .i (.lit (.int .i64 tb)), .i (.lit vE), .i (.lit vC), .i (.lit (if ks.length=0 then .slice none 0 0 else .slice (some ⟨b',0,none⟩) ks.length cap))] post)) ks.length (by simp[YP,EV,zp,h0])]
    ·rw[aG];simp[YP,EV,zp,ACC,bE,bQ,h0,bT h0]
    ·intro i hi;have w2:IntKind.i64.wrap ((i:Int)+1)=i+1:=wrO;by_cases hi0:i=0
     ·subst hi0;have hR:mP init++[[.lit (.pointer (some ⟨b',0,none⟩))]]=RWp init b' 1:=by simp[RWp,ptr]
      have hl:(init.length+1)*8≤140737488355328:=by omega
      simp[YP,EV,zp,ACC,bE,bQ,h0,AQ4,hi,htake,hR,hl,hESl]
     ·have hl:(init.length+i+1)*8≤140737488355328:=by omega
      have hT:(RWp init b' i).take (init.length+i)=RWp init b' i:=zY (by rw[AK1];omega);have hR:RWp init b' i++[[.lit (.pointer (some ⟨b',i*5,none⟩))]]=RWp init b' (i+1):=by simpa [ptr]using AO7 init b' i
      simp[YP,EV,zp,ACC,bE,bQ,h0,hi0,bT hi0,w2,hi,hT,AK1,hl,hR,← Nat.add_assoc]) (g13.ok' fun id h=>by simp[SRp];omega)) ?_
  rintro _ a13 w13 ⟨e,S',rfl,⟨rfl,v7,v76,v77,v78,rfl⟩,g14⟩;clear g13;simp only[gQ,Exit.then,Exit.inBlock]
  have hpm2:H'.Perm (init++nI b' 0 ks):=by
   have h1:(((b,pre.length),Pn.mk kd tb es cs ks)::H').Perm (((b,pre.length),Pn.mk kd tb es cs ks)::(init++nI b' 0 ks)):=by
    refine hpm.trans ((hperm.append_right _).trans ?_);rw[yZ];exact List.perm_middle
   exact(List.perm_cons _).1 h1
  have hszx:(Pn.mk kd tb es cs ks).size=1+Pn.aL ks:=hxs
  have hall2:∀ q∈init++nI b' 0 ks,q.2.thin∧q.2.tiny:=by
   intro q hq'
   rcases zV.1 hq' with h|h
   ·exact hall q (by simp[h])
   ·have:=(VF q h).1;exact⟨t5 _ this,y2 _ this⟩
  have hsum2:((init++nI b' 0 ks).map fun k=>k.2.size).sum=n-1:=by
   rw[yB,List.sum_append,VE];omega
  by_cases hk0:ks.length=0
  ·have hks:ks=[]:=zW.1 hk0;subst hks;simp only[yT,if_true]at g14 hbx
   have g15:=g14.AB2 (st':=aR [some (.box zp),some (.arr 1 ES)]) (env':=aJ (EV b3 (.osl 1 1 0 init.length) .junk .junk .junk .junk .junk .junk .junk .junk .junk .junk)) (by rw[hbx];rfl) (by
    intro i blk h
    rcases i with _|_|i
    ·simp[aR]at h;subst h;exact⟨by omega,rfl,by simp[gU,zp]⟩
    ·simp[aR]at h;subst h;exact⟨by omega,rfl,hlit⟩
    ·simp[aR]at h) (by
    intro t;simp only[EV,aJ];by_cases h0:t=0
    ·subst h0;simp
    by_cases h2:t=2
    ·subst h2;exact .inr ⟨by simp,by simp[jV,aR]⟩
    by_cases h3:t=3
    ·subst h3;exact .inr ⟨by simp,by simp[jV,ptr]⟩
    by_cases h4:t=4
    ·subst h4;exact .inr ⟨by simp,by simp[jV,aR]⟩
    simp[h0,h2,h3,h4])
   simp only[nI,zA]at hpm2 hall2 hsum2;refine⟨n-1,by omega,init,[((b,pre.length),Pn.mk kd tb es cs [])]++X,H',F',hpm2,hsum2,by omega,hall2,?_⟩;have hES2:mP (init++([((b,pre.length),Pn.mk kd tb es cs [])]++X))=ES:=by rw[← hES,yZ]
   simp only[SLp,hES2]
   exact g15.ok' (by
    intro i h
    rcases i with _|_|i
    ·simp
    ·simp
    ·simp[aR]at h)
  ·simp only[hk0,if_false]at g14 hbx
   have g15:=g14.AB2 (st':=aR [some (.box zp),none,none,some (.arr 1 (RWp init b' ks.length))]) (env':=aJ [(2, .own 0 0),(3, .i (ptr (b3,0))),(4, .osl 3 1 0 (init.length+ks.length))]) (by rw[hbx];rfl) (by
    intro i blk h
    rcases i with _|_|_|_|i
    ·simp[aR]at h;subst h;exact⟨by omega,rfl,by simp[gU,zp]⟩
    ·simp[aR]at h
    ·simp[aR]at h
    ·simp[aR]at h;subst h;exact⟨by omega,rfl,by
      intro c hc;rw[List.mem_flatten]at hc;obtain⟨r,hr1,hr2⟩:=hc;unfold RWp at hr1
      rcases zV.1 hr1 with h|h
      ·exact QG init c (List.mem_flatten.2 ⟨r,h,hr2⟩)
      ·obtain⟨j,_,rfl⟩:=yI.1 h
       simp at hr2;subst hr2;exact⟨_,rfl⟩⟩
    ·simp[aR]at h) (by
    intro t;simp only[EV,aJ];by_cases h2:t=2
    ·subst h2;exact .inr ⟨by simp,by simp[jV,aR]⟩
    by_cases h3:t=3
    ·subst h3;exact .inr ⟨by simp,by simp[jV,ptr]⟩
    by_cases h4:t=4
    ·subst h4;exact .inr ⟨by simp,by simp[jV,aR]⟩
    simp[h2,h3,h4])
   have g16:=g15.settle (fun w m φ ids h=>RAW.keep ids h) [2,3,4]
   have hs:Av.settle [2,3,4] 0 (aJ [(2, .own 0 0),(3, .i (ptr (b3,0))),(4, .osl 3 1 0 (init.length+ks.length))]) (aR [some (.box zp),none,none,some (.arr 1 (RWp init b' ks.length))])={ env:=[(2, .own 0 0),(3, .i (ptr (b3,0))),(4, .osl 1 1 0 (init.length+ks.length))],st:=[some (.box zp),some (.arr 1 (RWp init b' ks.length))] }:=by
    simp[zp,ptr]
   rw[hs]at g16;refine⟨n-1,by omega,init++nI b' 0 ks,[],H',F',hpm2,hsum2,by omega,hall2,?_⟩
   have hR:mP (init++nI b' 0 ks++[])=RWp init b' ks.length:=by
    rw[zA];have:=OT b' 0 ks;simp only[mP]at this;simp only[mP,RWp,yB,this,zH]
   have hl:(init++nI b' 0 ks).length=init.length+ks.length:=by rw[zL,VG]
   simp only[SLp,hR,hl]
   exact g16.envTo (by
    intro t;simp only[EV,aJ];by_cases h0:t=0
    ·subst h0;simp
    by_cases h2:t=2
    ·subst h2;simp
    by_cases h3:t=3
    ·subst h3;simp
    by_cases h4:t=4
    ·subst h4;simp
    ·simp[h0,h2,h3,h4])
theorem RP {p:Pn} (hsz:p.size<1000000000) (hth:p.thin) (hty:p.tiny) {wi:World} {mi:Mem} {φ:Pl} {vs:List Value} (hi:Inv wi mi φ (aR [])) (hr:RepL mi φ [.i (.iref p.cells)] vs) (h0:∀ id,φ id≠none→id<0) :
 Calls Tryz.prog 33 vs.toArray wi (bS wi mi φ (.i (.agg p.cells)) []):=by
 obtain rfl:φ=fun _=>none:=by
  funext id
  cases h:φ id with
  | none=>rfl
  | some p=>exact absurd (h0 id (by rw[h];simp)) (xS _)
 exact(iO hsz hth hty hi hr).mono fun _ _ h=>h.tree
end Go.Proofs.YtgiepjdnkonkgaaGreat.G
namespace Go.Proofs.YtgiepjdnkonkgaaGreat
open Go Go.Av
theorem UR {g:FuncId} {q:List AV→StL→Option (AV×StL)} (h:C0.prim g=some q):(g=59∧q=Z6)∨(g=33∧q=ANC):=by
 have h:ARR g=some q:=h;unfold ARR at h;split at h
 ·injection h with h;exact .inl ⟨rfl,h.symm⟩
 ·injection h with h;exact .inr ⟨rfl,h.symm⟩
 ·cases h
theorem Ab7:PrimOk C0:=by
 constructor
 ·intro g args st p h;unfold bV at h
  cases hq:C0.prim g with
  | none=>rw[hq]at h;cases h
  | some q =>
   rcases UR hq with ⟨rfl,rfl⟩|⟨rfl,rfl⟩
   ·exact⟨Tryz.f59,Tryz.func59,by decide,rfl⟩
   ·exact⟨Tryz.f33,Tryz.func33,by decide,rfl⟩
 ·intro g args stl r stl' h w m φ vs hi hr h0;unfold bV at h
  cases hq:C0.prim g with
  | none=>rw[hq]at h;cases h
  | some q =>
   rcases UR hq with ⟨rfl,rfl⟩|⟨rfl,rfl⟩
   ·rw[hq]at h;obtain⟨e,he,hres,hor⟩:=AE6 h;injection hres with h1 h2;subst h1;subst h2
    rcases hor with ⟨rfl,rfl⟩|⟨j,es,rfl,rfl,hes⟩
    ·exact IG he hi hr h0
    ·exact AE8 he hes hi hr h0
   ·rw[hq]at h;obtain⟨p,⟨k1,k2,k3⟩,rfl,rfl,hres⟩:=AE5 h;injection hres with h1 h2;subst h1;subst h2;exact G.RP k1 k2 k3 hi hr h0
theorem dG:SoundOk C0:=iU (C:=C0) ft nt eqS mo Ab7
end Go.Proofs.YtgiepjdnkonkgaaGreat
namespace Go.Proofs.YtgiepjdnkonkgaaGreat.P
open Go Go.Av
set_option maxRecDepth 4000
set_option maxHeartbeats 8000000
noncomputable def ARP:FuncId→Option (List AV→StL→Option (AV×StL))
 | 1000000007=>none
 | 82=>none
 | 57=>none
 | 31=>none
 | g=>some (aH C0 g)
def AZD:FuncId→Bool
 | 82=>true
 | g=>bU g
@[simp] theorem AbA (g:FuncId):AZD g=if g=82 then true else bU g:=by
  unfold AZD;split
  ·rfl
  ·rename_i h;rw[if_neg h]
noncomputable def CS:Ctx:={ P:=Tryz.prog,G:=GS,ownArgs:=AZD,keepRes:=keepR,eqT:=ED,prim:=ARP }
@[simp] theorem At3:CS.P=Tryz.prog:=(rfl)
@[simp] theorem At4 (f):CS.G f=GS f:=(rfl)
@[simp] theorem At0 (f):CS.ownArgs f=AZD f:=(rfl)
@[simp] theorem At1 (f):CS.keepRes f=keepR f:=(rfl)
@[simp] theorem At2 (f):CS.eqT f=ED f:=(rfl)
@[simp] theorem AsZ:CS.tree=false:=(rfl)
theorem AX5:PrimOk CS:=by
 have h0:=aY dG
 have key:∀ g q,CS.prim g=some q→q=aH C0 g:=by
  intro g q h;have h:ARP g=some q:=h;unfold ARP at h;split at h<;>first|(cases h;done)|(injection h with h;exact h.symm)
 constructor
 ·intro g args st p h;unfold bV at h
  cases hq:CS.prim g with
  | none=>rw[hq]at h;cases h
  | some q =>
   rw[hq]at h;obtain rfl:=key g q hq;by_cases hg:g=oG
   ·subst hg;cases hq
   ·exact h0.name g args st p hg h
 ·intro g args st r st' h w m φ vs hi hr hb;unfold bV at h
  cases hq:CS.prim g with
  | none=>rw[hq]at h;cases h
  | some q =>
   rw[hq]at h;obtain rfl:=key g q hq;by_cases hg:g=oG
   ·subst hg;cases hq
   ·exact h0.calls g args st r st' hg h w m φ vs hi hr hb
theorem AWD:SoundOk CS:=iU (C:=CS) ft nt eqS mo AX5
@[simp] theorem Aa0 (a:List AV) (st:StL):aH CS 106 a st=aH C0 106 a st:=by rw[aT (p:=aH C0 106) rfl]
@[simp] theorem AdN (a:List AV) (st:StL):aH CS 107 a st=aH C0 107 a st:=by rw[aT (p:=aH C0 107) rfl]
@[simp] theorem ANA (a:List AV) (st:StL):aH CS 81 a st=aH C0 81 a st:=by rw[aT (p:=aH C0 81) rfl]
@[simp] theorem AKD (a:List AV) (st:StL):aH CS 32 a st=aH C0 32 a st:=by rw[aT (p:=aH C0 32) rfl]
@[simp] theorem APQ (a:List AV) (st:StL):aH CS 64 a st=aH C0 64 a st:=by rw[aT (p:=aH C0 64) rfl]
theorem APF (x c:Int):(if c<x then c else x)=min x c:=by split<;>omega
theorem AhI (a b:Int):(if a<b then b else a)=max a b:=by split<;>omega
theorem YY {sts:List Sts} (hs:∀ s∈sts,s.ok=true):∀ (p:Pn) (lv:Nat),p.wd (stW sts) lv≠0→∀ c:Int,0≤c→c+1000000000*p.size≤4000000000000000000 →
 aH CS 82 [.i (.iref p.cells), .i (.isl (gM sts)), .own 0 0] [some (.box [.int c])]=some (.int (p.est sts),[some (.box [.int (c+p.cst sts)])]):=by
 intro p
 induction p using Pn.ind with
 | h k t es cs ks ih =>
  intro lv h c hc0 hc1;have hsh:=mX h;have hr:=iN hs _ lv h;have hcr:=lJ hs _ lv h;have v1:=dA;have v2:IntKind.i64.wrap (2:Int)=2:=wrO;generalize hp:Pn.mk k t es cs ks=p at hsh h hr hcr hc1;have hk:ks=p.kids:=by rw[← hp];rfl
  subst hk
  cases hsh with
  | scan t W h0 h1 hW =>
   unfold stW at h1;rw[xJ]at h1;obtain⟨s,q1,q2⟩:=zE0.1 h1;have hi:=(zZ.1 q1).1;have q:=gI q1;have hi':t<(sts.length:Int):=by omega
   have hce:(Pn.scan t).cst sts=(Pn.scan t).est sts:=by rw[Pn.EF];show _+Pn.JH sts []=_;simp only[Pn.JH,xC]
   rw[hce];rw[RB,q1]at hr ⊢;simp only[xG,yP]at hr ⊢;have w1:IntKind.i64.wrap (c+s.rows)=c+s.rows:=wrO;rw[aD rfl Tryz.func82 rfl rfl];simp[Pn.scan,Pn.bF,Pn.aB];rw[aG];simp[h0,hi',q,w1]
  | filt m e a h1 ha he =>
   have hce:(filt e a).cst sts=(filt e a).est sts+a.cst sts:=by rw[Pn.EF];show _+Pn.JH sts [a]=_;simp only[Pn.JH,xC]
   have hsz:(filt e a).size=1+a.size:=by rw[Pn.size_eq];show 1+Pn.aL [a]=_;simp only[Pn.aL,yE]
   have i1:=ih a (by simp[filt]) m ha c hc0 (by omega);have ra:=iN hs a m ha;have rc:=lJ hs a m ha;obtain⟨hwf,_,_⟩:=Ex.tL he;have e1:=P6 e hwf;have r3:=uS e hwf;obtain⟨m1,m2,m3,m4⟩:=AKY ra.1 ra.2 r3.1 r3.2;have w1:IntKind.i64.wrap (a.est sts*e.fix)=a.est sts*e.fix:=wrO;have w2:IntKind.i64.wrap ((a.est sts*e.fix).tdiv 1000)=(a.est sts*e.fix).tdiv 1000:=wrO;rw[hce,RG];by_cases hk1:a.kind=1
   ·obtain⟨s,q1,q2,q3,q4⟩:=Q8 hs ha hk1;rw[if_pos hk1,q1];simp only[yP];have q:=gI q1;have hsok:=hs s (zU q1);have e2:=NE hsok e (by rw[q2];exact hwf);have r4:=AO hsok e (by rw[q2];exact hwf);obtain⟨n1,n2,n3,n4⟩:=AKY ra.1 ra.2 r4.1 r4.2;have w3:IntKind.i64.wrap (a.est sts*e.sel s)=a.est sts*e.sel s:=wrO;have w4:IntKind.i64.wrap ((a.est sts*e.sel s).tdiv 1000)=(a.est sts*e.sel s).tdiv 1000:=wrO;have w5:IntKind.i64.wrap (c+a.cst sts+(a.est sts*e.sel s).tdiv 1000)=c+a.cst sts+(a.est sts*e.sel s).tdiv 1000:=wrO;have hfin:c+((a.est sts*e.sel s).tdiv 1000+a.cst sts)=c+a.cst sts+(a.est sts*e.sel s).tdiv 1000:=by omega
    rw[aD rfl Tryz.func82 rfl rfl];rw[Pn.aA a]at i1;simp[filt,Pn.bF,Pn.aB,Ex.aB,Pn.aA a];rw[aG];simp[i1,v1];rw[aG];simp[e1,e2,hk1,q,q3,q4,w3,w4,w5,hfin]
   ·rw[if_neg hk1];have w5:IntKind.i64.wrap (c+a.cst sts+(a.est sts*e.fix).tdiv 1000)=c+a.cst sts+(a.est sts*e.fix).tdiv 1000:=wrO;have hfin:c+((a.est sts*e.fix).tdiv 1000+a.cst sts)=c+a.cst sts+(a.est sts*e.fix).tdiv 1000:=by omega
    rw[aD rfl Tryz.func82 rfl rfl];rw[Pn.aA a]at i1;simp[filt,Pn.bF,Pn.aB,Ex.aB,Pn.aA a];rw[aG];simp[i1,v1];rw[aG];simp[e1,hk1,w1,w2,w5,hfin]
  | proj m es a h1 ha hl he =>
   have hce:(proj es a).cst sts=(proj es a).est sts+a.cst sts:=by rw[Pn.EF];show _+Pn.JH sts [a]=_;simp only[Pn.JH,xC]
   have hsz:(proj es a).size=1+a.size:=by rw[Pn.size_eq];show 1+Pn.aL [a]=_;simp only[Pn.aL,yE]
   have i1:=ih a (by simp[proj]) m ha c hc0 (by omega);have ra:=iN hs a m ha;have rc:=lJ hs a m ha;rw[hce,RD];have w5:IntKind.i64.wrap (c+a.cst sts+a.est sts)=c+a.cst sts+a.est sts:=wrO;have hfin:c+(a.est sts+a.cst sts)=c+a.cst sts+a.est sts:=by omega
   rw[aD rfl Tryz.func82 rfl rfl];rw[Pn.aA a]at i1;simp[proj,Pn.bF,Pn.aB,Pn.aA a];rw[aG];simp[i1,v1];rw[aG];simp[w5,hfin]
  | pair m k e a b h1 hk ha hb hl6 he =>
   have hce:(bB k e a b).cst sts=(bB k e a b).est sts+(a.cst sts+b.cst sts):=by rw[Pn.EF];show _+Pn.JH sts [a,b]=_;simp only[Pn.JH,xC]
   have hsz:(bB k e a b).size=1+(a.size+b.size):=by rw[Pn.size_eq];show 1+Pn.aL [a,b]=_;simp only[Pn.aL,yE]
   have ra:=iN hs a m ha;have rc:=lJ hs a m ha;have rb:=iN hs b m hb;have rd:=lJ hs b m hb;have i1:=ih a (by simp[bB]) m ha c hc0 (by omega);have i2:=ih b (by simp[bB]) m hb (c+a.cst sts) (by omega) (by omega);obtain⟨hwf,_,_⟩:=Ex.tL he;have e1:=P6 e hwf;have r3:=uS e hwf;obtain⟨p1,p2⟩:=FI ra.1 ra.2 rb.1 rb.2;have w1:IntKind.i64.wrap (a.est sts*b.est sts)=a.est sts*b.est sts:=wrO;obtain⟨m1,m2,m3,m4⟩:=AKY (show 0≤min (a.est sts*b.est sts) 1000000000 by omega) (by omega) r3.1 r3.2;have w2:IntKind.i64.wrap (min (a.est sts*b.est sts) 1000000000*e.fix)=min (a.est sts*b.est sts) 1000000000*e.fix:=wrO;have w3:IntKind.i64.wrap ((min (a.est sts*b.est sts) 1000000000*e.fix).tdiv 1000)=(min (a.est sts*b.est sts) 1000000000*e.fix).tdiv 1000:=wrO;rw[hce,RF sts hk];generalize hM:(min (a.est sts*b.est sts) 1000000000*e.fix).tdiv 1000=M at *
   rw[aD rfl Tryz.func82 rfl rfl];rw[Pn.aA a]at i1;rw[Pn.aA b]at i2
   rcases hk with rfl|rfl
   ·have w5:IntKind.i64.wrap (c+a.cst sts+b.cst sts+M)=c+a.cst sts+b.cst sts+M:=wrO;have hfin:c+(M+(a.cst sts+b.cst sts))=c+a.cst sts+b.cst sts+M:=by omega
    simp[bB,Pn.bF,Pn.aB,Ex.aB,Pn.aA a,Pn.aA b];rw[aG];simp[i1,v1];rw[aG];simp[i2,v2];rw[aG];simp[e1,APF,w1,w2,w3,hM,w5,hfin]
   ·have w5:IntKind.i64.wrap (c+a.cst sts+b.cst sts+max M (a.est sts))=c+a.cst sts+b.cst sts+max M (a.est sts):=wrO;have hfin:c+(max M (a.est sts)+(a.cst sts+b.cst sts))=c+a.cst sts+b.cst sts+max M (a.est sts):=by omega
    simp[bB,Pn.bF,Pn.aB,Ex.aB,Pn.aA a,Pn.aA b];rw[aG];simp[i1,v1];rw[aG];simp[i2,v2];rw[aG];simp[e1,APF,AhI,w1,w2,w3,hM,w5,hfin]
  | union m a b h1 ha hb =>
   have hb':b.wd (stW sts) m≠0:=by rw[hb];exact ha
   have hce:(bX a b).cst sts=(bX a b).est sts+(a.cst sts+b.cst sts):=by rw[Pn.EF];show _+Pn.JH sts [a,b]=_;simp only[Pn.JH,xC]
   have hsz:(bX a b).size=1+(a.size+b.size):=by rw[Pn.size_eq];show 1+Pn.aL [a,b]=_;simp only[Pn.aL,yE]
   have ra:=iN hs a m ha;have rc:=lJ hs a m ha;have rb:=iN hs b m hb';have rd:=lJ hs b m hb';have i1:=ih a (by simp[bX]) m ha c hc0 (by omega);have i2:=ih b (by simp[bX]) m hb' (c+a.cst sts) (by omega) (by omega);have w1:IntKind.i64.wrap (a.est sts+b.est sts)=a.est sts+b.est sts:=wrO;rw[hce,MC];have w5:IntKind.i64.wrap (c+a.cst sts+b.cst sts+min (a.est sts+b.est sts) 1000000000)=c+a.cst sts+b.cst sts+min (a.est sts+b.est sts) 1000000000:=wrO;have hfin:c+(min (a.est sts+b.est sts) 1000000000+(a.cst sts+b.cst sts))=c+a.cst sts+b.cst sts+min (a.est sts+b.est sts) 1000000000:=by omega
   rw[aD rfl Tryz.func82 rfl rfl];rw[Pn.aA a]at i1;rw[Pn.aA b]at i2;simp[bX,Pn.bF,Pn.aB,Pn.aA a,Pn.aA b];rw[aG];simp[i1,v1];rw[aG];simp[i2,v2];rw[aG];simp[APF,w1,w5,hfin]
  | dist m a h1 ha =>
   have hce:(Pn.mk 7 0 [] [] [a]).cst sts=(Pn.mk 7 0 [] [] [a]).est sts+a.cst sts:=by rw[Pn.EF];show _+Pn.JH sts [a]=_;simp only[Pn.JH,xC]
   have hsz:(Pn.mk 7 0 [] [] [a]).size=1+a.size:=by rw[Pn.size_eq];show 1+Pn.aL [a]=_;simp only[Pn.aL,yE]
   have i1:=ih a (by simp) m ha c hc0 (by omega);have ra:=iN hs a m ha;have rc:=lJ hs a m ha;rw[hce,RH];have w5:IntKind.i64.wrap (c+a.cst sts+a.est sts)=c+a.cst sts+a.est sts:=wrO;have hfin:c+(a.est sts+a.cst sts)=c+a.cst sts+a.est sts:=by omega
   rw[aD rfl Tryz.func82 rfl rfl];rw[Pn.aA a]at i1;simp[Pn.bF,Pn.aB,Pn.aA a];rw[aG];simp[i1,v1];rw[aG];simp[w5,hfin]
  | group m cs a h1 ha hc6 ho =>
   have hce:(Pn.mk 8 0 [] cs [a]).cst sts=(Pn.mk 8 0 [] cs [a]).est sts+a.cst sts:=by rw[Pn.EF];show _+Pn.JH sts [a]=_;simp only[Pn.JH,xC]
   have hsz:(Pn.mk 8 0 [] cs [a]).size=1+a.size:=by rw[Pn.size_eq];show 1+Pn.aL [a]=_;simp only[Pn.aL,yE]
   have i1:=ih a (by simp) m ha c hc0 (by omega);have ra:=iN hs a m ha;have rc:=lJ hs a m ha;rw[hce,ME];rw[aD rfl Tryz.func82 rfl rfl];rw[Pn.aA a]at i1
   cases cs with
   | nil =>
    have w5:IntKind.i64.wrap (c+a.cst sts+min (a.est sts) 1)=c+a.cst sts+min (a.est sts) 1:=wrO;have hfin:c+(min (a.est sts) 1+a.cst sts)=c+a.cst sts+min (a.est sts) 1:=by omega
    simp[Pn.bF,Pn.aB,Pn.aA a];rw[aG];simp[i1,v1];rw[aG];simp[APF,aF,w5,hfin]
   | cons c1 cs =>
    have n0:¬ ((cs.length:Int)+1=0):=by omega
    have w5:IntKind.i64.wrap (c+a.cst sts+a.est sts)=c+a.cst sts+a.est sts:=wrO;have hfin:c+(a.est sts+a.cst sts)=c+a.cst sts+a.est sts:=by omega
    simp[Pn.bF,Pn.aB,Pn.aA a];rw[aG];simp[i1,v1];rw[aG];simp[aF,n0,w5,hfin]
end Go.Proofs.YtgiepjdnkonkgaaGreat.P
namespace Go.Av
def J6 (sts:List Sts) (p:Pn):Bool:=sts.all Sts.ok && decide (p.width (stW sts)≠0)
def AN9 (sts:List Sts) (p:Pn):Int:=if J6 sts p=true then p.cst sts else -1
theorem jZ (sts:List Sts):(stW sts).length=sts.length:=by simp[stW]
theorem rD {sts:List Sts} {p:Pn}:J6 sts p=true↔(∀ s∈sts,s.ok=true)∧p.width (stW sts)≠0:=by
 unfold J6;rw[zT,zQ];simp
theorem AL5 {sts:List Sts} {p:Pn} (h:J6 sts p=true):sts.length≤4:=by
 obtain⟨_,h2⟩:=rD.1 h;unfold Pn.width at h2;by_cases hw:kH (stW sts)=true
 ·unfold kH at hw;simp[jZ]at hw;omega
 ·rw[if_neg hw]at h2;exact absurd rfl h2
end Go.Av
namespace Go.Proofs.YtgiepjdnkonkgaaGreat.P
open Go Go.Av
set_option maxRecDepth 4000
set_option maxHeartbeats 4000000
def SWX (sts:List Sts) (i:Nat):AS :=
 { env:=[(0, .i (.isl (gM sts))),(2, .nils),(3,gro 0 1 i),(4,jk i (.int ((i:Int)-1))),(6, .int sts.length),(7, .int i),(8,jk i (.bool true))],st:=ADS 1 (aF ((stW sts).take i)) i }
theorem wP (sts:List Sts) (hl:sts.length<2000000) (hd:∀ s∈sts,s.d.length<1000000000):aH C0 32 [.i (.isl (gM sts))] []=some (.i (.isl (aF (stW sts))),[]):=by
 rw[aD rfl Tryz.func32 rfl rfl];simp;rw[aS (SWX sts) sts.length (by simp[SWX])]
 ·rw[aG];have e1:(stW sts).take sts.length=stW sts:=zY (by rw[jZ];omega);by_cases hz:sts.length=0
  ·have:sts=[]:=zW.1 hz;subst this;simp[SWX,stW,aF]
  ·have e2:(aF (stW sts)).take sts.length=aF (stW sts):=zY (by simp[jZ]);simp[SWX,aP hz,aM hz,hz,e1,e2,jZ]
 ·intro i hi
  obtain⟨s,hs⟩:∃ s,sts[i]?=some s:=⟨_,zX hi⟩
  have q:=gI hs;have hw:(stW sts)[i]?=some (s.d.length:Int):=by simp[stW,hs]
  have hT:=aN hw;have w3:IntKind.i64.wrap ((i:Int)+1)=i+1:=wrO;have hb:(i+1)*8≤140737488355328:=by omega
  have e1:((stW sts).take i).take i=(stW sts).take i:=by rw[zK,Nat.min_self]
  have hmin:min i (stW sts).length=i:=by rw[jZ];omega
  by_cases h0:i=0
  ·subst h0;simp at hT;simp[SWX,hi,q,hT,dA,aF]
  ·simp[SWX,hi,q,hT,w3,hb,e1,h0,aP h0,aM h0,bT h0,hmin,dX,aF]
def ESX (p:Pn) (sts:List Sts) (i:Nat):AS :=
 { env:=[(0, .i (.iref [.int p.kind, .int p.table, .isl (Ex.aB p.exprs), .isl (aF p.cols), .isl (Pn.aB p.kids)])),(1, .i (.isl (gM sts))),(4, .int 0),(5, .int 0),(6,jk i (.int ((i:Int)-1))),(7, .junk),(8, .junk),(11, .bool false),(13, .int sts.length),(14, .int i),(15,jk i (.bool true)),(28,jk i (.bool false)),(36, .junk)],st:=[] }
theorem VS (p:Pn) (sts:List Sts) (hl:sts.length<2000000) (hd:∀ s∈sts,s.d.length<1000000000∧s.n.length<1000000000):∃ n,aH CS 57 [.i (.iref p.cells), .i (.isl (gM sts))] []=some (.tup [.int n, .int (AN9 sts p)],[]):=by
 rw[aD rfl Tryz.func57 rfl rfl];unfold AN9;by_cases h4:4<sts.length
 ·have hq:J6 sts p=false:=by
   cases h:J6 sts p with
   | false=>rfl
   | true=>have:=AL5 h;omega
  have h4':(4:Int)<sts.length:=by omega
  refine⟨-1,?_⟩;rw[Pn.aA p];simp[h4',h4,hq]
 have h4':¬ (4:Int)<sts.length:=by omega
 obtain⟨j,h1,h2⟩:=gG Sts.ok sts;have c1:=wP sts hl fun s hs=>(hd s hs).1
 have c2:=oW p (stW sts);rw[Pn.aA p]at c2 ⊢
 rcases h2 with ⟨hj,ha⟩|⟨s,h3,h3m,h5,ha⟩
 ·have hs:∀ s∈sts,s.ok=true:=zQ.1 ha;by_cases hw:p.width (stW sts)=0
  ·have hq:J6 sts p=false:=by
    cases h:J6 sts p with
    | false=>rfl
    | true=>exact absurd hw (rD.1 h).2
   refine⟨-1,?_⟩;simp[h4',h4];rw[aS (ESX p sts) j (by simp[ESX])]
   ·rw[aG];by_cases hz:sts.length=0
    ·simp[ESX,hj,hz,c1,c2,hw,hq]
    ·simp[ESX,hj,hz,c1,c2,hw,hq]
   ·intro i hi;obtain⟨k,e1,e2,e3⟩:=h1 i hi;have q:=gI e1;have hil:=(zZ.1 e1).1;have v:=mY k (hd k e2).1 (hd k e2).2;rw[e3]at v;have w3:IntKind.i64.wrap ((i:Int)+1)=i+1:=wrO;simp[ESX,hil,q,v,w3]
  ·have hq:J6 sts p=true:=rD.2 ⟨hs,hw⟩
   obtain⟨hws,hp8,hpw⟩:kH (stW sts)=true∧p.wd (stW sts) 8≠0∧p.width (stW sts)=p.wd (stW sts) 8:=by
    unfold Pn.width at hw ⊢;split at hw
    ·rename_i hk;exact⟨hk,hw,if_pos hk⟩
    ·exact absurd rfl hw
   have hsz:=(Pn.tY p 8 hp8).2;have c3:=YY hs p 8 hp8 0 (by omega) (by omega);rw[Pn.aA p]at c3;simp only[Int.zero_add]at c3;refine⟨p.est sts,?_⟩;simp[h4',h4];rw[aS (ESX p sts) j (by simp[ESX])]
   ·rw[aG];by_cases hz:sts.length=0
    ·simp[ESX,hj,hz,c1,c2,c3,hw,hq]
    ·simp[ESX,hj,hz,c1,c2,c3,hw,hq]
   ·intro i hi;obtain⟨k,e1,e2,e3⟩:=h1 i hi;have q:=gI e1;have hil:=(zZ.1 e1).1;have v:=mY k (hd k e2).1 (hd k e2).2;rw[e3]at v;have w3:IntKind.i64.wrap ((i:Int)+1)=i+1:=wrO;simp[ESX,hil,q,v,w3]
 ·have hq:J6 sts p=false:=by unfold J6;rw[ha];rfl
  refine⟨-1,?_⟩;simp[h4',h4];rw[aS (ESX p sts) j (by simp[ESX])]
  ·rw[aG];have q:=gI h3;have hil:=(zZ.1 h3).1;have v:=mY s (hd s h3m).1 (hd s h3m).2;rw[h5]at v;simp[ESX,hil,q,v,hq]
  ·intro i hi;obtain⟨k,e1,e2,e3⟩:=h1 i hi;have q:=gI e1;have hil:=(zZ.1 e1).1;have v:=mY k (hd k e2).1 (hd k e2).2;rw[e3]at v;have w3:IntKind.i64.wrap ((i:Int)+1)=i+1:=wrO;simp[ESX,hil,q,v,w3]
theorem uT (p:Pn) (sts:List Sts) (hl:sts.length<2000000) (hd:∀ s∈sts,s.d.length<1000000000∧s.n.length<1000000000):aH CS 31 [.i (.agg p.cells), .i (.isl (gM sts))] []=some (.int (AN9 sts p),[]):=by
 obtain⟨n,h⟩:=VS p sts hl hd;rw[aD rfl Tryz.func31 rfl rfl];rw[Pn.aA p]at h ⊢;simp[h]
end Go.Proofs.YtgiepjdnkonkgaaGreat.P
namespace Go.Av
def Val.cmp (a b:Val):Int:=if a.null=true then(if b.null=true then 0 else -1)else if b.null=true then 1 else if a.n<b.n then -1 else if b.n<a.n then 1 else 0
theorem ML (a b:Val):(Val.cmp a b=-1∧((a.null=true∧b.null=false)∨(a.null=false∧b.null=false∧a.n<b.n)))∨(Val.cmp a b=0∧((a.null=true∧b.null=true)∨(a.null=false∧b.null=false∧a.n=b.n)))∨(Val.cmp a b=1∧((a.null=false∧b.null=true)∨(a.null=false∧b.null=false∧b.n<a.n))):=by
 unfold Val.cmp;by_cases h1:a.n<b.n<;>by_cases h2:b.n<a.n<;>cases a.null<;>cases b.null<;>simp[h1,h2]<;>omega
theorem Val.AJ2 {a b c:Val} (h1:Val.cmp a b≤0) (h2:Val.cmp b c≤0):Val.cmp a c≤0∧(Val.cmp a c=0→Val.cmp a b=0∧Val.cmp b c=0):=by
 rcases ML a b with ⟨e1,q1⟩|⟨e1,q1⟩|⟨e1,q1⟩<;>rcases ML b c with ⟨e2,q2⟩|⟨e2,q2⟩|⟨e2,q2⟩<;>rcases ML a c with ⟨e3,q3⟩|⟨e3,q3⟩|⟨e3,q3⟩<;>(try omega) <;>
  (rcases q1 with ⟨x1,x2⟩|⟨x1,x2,x3⟩<;>rcases q2 with ⟨y1,y2⟩|⟨y1,y2,y3⟩<;>rcases q3 with ⟨z1,z2⟩|⟨z1,z2,z3⟩<;>simp_all<;>omega)
def tF:List Val→List Val→Int
 | [],[]=>0
 | [],_::_=>-1
 | _::_,[]=>1
 | a::l,b::m=>if Val.cmp a b=0 then tF l m else Val.cmp a b
theorem H7:∀ {a b c:List Val},tF a b≤0→tF b c≤0→tF a c≤0
 | [],_,[],_,_=>by simp[tF]
 | [],_,_::_,_,_=>by simp[tF]
 | _::_,[],_,h,_=>by simp[tF]at h
 | _::_,_::_,[],_,h=>by simp[tF]at h
 | a::l,b::m,c::n,h1,h2=>by
  simp only[tF]at *
  have k1:Val.cmp a b≤0:=by split at h1<;>omega
  have k2:Val.cmp b c≤0:=by split at h2<;>omega
  obtain⟨k3,k4⟩:=Val.AJ2 k1 k2;split
  ·rename_i h0;obtain⟨k5,k6⟩:=k4 h0;rw[if_pos k5]at h1;rw[if_pos k6]at h2;exact H7 h1 h2
  ·exact k3
def UI (a b:List Val):Bool:=decide (tF a b≤0)
theorem XW {a b c:List Val} (h1:UI a b=true) (h2:UI b c=true):UI a c=true:=by
 unfold UI at *
 simp only[zM]at *
 exact H7 h1 h2
abbrev Srt (l:List (List Val)):Prop:=l.Pairwise fun a b=>UI a b=true
def AhH (l:List (List Val)) (r:List Val):List (List Val):=l.takeWhile (fun x=>UI x r)++r::l.dropWhile (fun x=>UI x r)
def AaP (l:List (List Val)):List (List Val):=l.foldl AhH []
def AaZ (l:List (List Val)):List (List IV):=l.map fun r=>[.isl (wF r)]
structure Tbl where
 w:Int
 rows:List (List Val)
def Tbl.cells (t:Tbl):List IV:=[.int t.w, .isl (AaZ t.rows)]
def tab (w:Int) (rows:List (List Val)):Tbl:=if 400<rows.length then⟨w,[]⟩else⟨w,AaP rows⟩
def chainB:List (List Val)→Bool
 | a::b::l=>UI a b && chainB (b::l)
 | _=>true
theorem PQ:∀ {l:List (List Val)},chainB l=true↔Srt l
 | []=>by simp[chainB]
 | [a]=>by simp[chainB]
 | a::b::l=>by
  rw[chainB,zT,PQ,Srt,Srt,zD7 (a:=a)];constructor
  ·rintro⟨h1,h2⟩;refine⟨fun x hx=>?_,h2⟩
   rcases zS.1 hx with rfl|hx
   ·exact h1
   ·exact XW h1 ((zD7.1 h2).1 x hx)
  ·rintro⟨h1,h2⟩;exact⟨h1 b (by simp),h2⟩
def rowOk (w:Int) (r:List Val):Bool:=decide ((r.length:Int)=w) && r.all Val.ok
def Tbl.ok (t:Tbl):Bool:=bH t.w && (decide (t.rows.length≤400) && (t.rows.all (rowOk t.w) && chainB t.rows))
def isT (e:Ex) (r:List Val):Bool:=decide ((e.ev r).tr=2)
def AXD (n:Int):List Val:=List.replicate n.toNat ⟨true,0⟩
def AXU (e:Ex) (rs:List (List Val)) (r:List Val):List (List Val):=(rs.map (r ++ ·)).filter (isT e)
def joinL (e:Ex) (outer:Bool) (w:Int) (rs:List (List Val)) (r:List Val):List (List Val) :=
 if(outer && (AXU e rs r).isEmpty)=true then [r++AXD w]else AXU e rs r
def AXT (e:Ex) (outer:Bool) (a b:Tbl):List (List Val):=a.rows.flatMap (joinL e outer b.w b.rows)
def dd:List Val→List (List Val)→List (List Val)
 | _,[]=>[]
 | p,a::l=>if tF p a=0 then dd a l else a::dd a l
def AYD:List (List Val)→List (List Val)
 | []=>[]
 | a::l=>a::dd a l
def Ab9 (cs:List Int) (r:List Val):List Val:=cs.map fun c=>(r[c.toNat]?).getD Val.zero
def bump (key:List Val):List (List Val×Nat)→List (List Val×Nat)
 | []=>[(key,1)]
 | g::l=>if tF g.1 key=0 then(g.1,g.2+1)::l else g::bump key l
def groups (cs:List Int) (rows:List (List Val)):List (List Val×Nat):=rows.foldl (fun acc r=>bump (Ab9 cs r) acc) []
def AXC (g:List Val×Nat):List Val:=g.1++[⟨false,(g.2:Int)⟩]
def VM (cs:List Int) (rows:List (List Val)):List (List Val):=(groups cs rows).map AXC
def AQJ:Tbl:=⟨0,[]⟩
def exO (es:List Ex):Ex:=(es[0]?).getD (.mk 0 0 Val.zero [])
def evK (db:List Tbl) (k t:Int) (es:List Ex) (cs:List Int) (a b:Tbl):Tbl :=
 if k=1 then tab ((db[t.toNat]?).getD AQJ).w ((db[t.toNat]?).getD AQJ).rows
 else if k=2 then tab a.w (a.rows.filter (isT (exO es)))
 else if k=3 then tab es.length (a.rows.map fun r=>es.map (Ex.ev r))
 else if k=4∨k=5 then tab (a.w+b.w) (AXT (exO es) (decide (k=5)) a b)
 else if k=6 then tab a.w (a.rows++b.rows)
 else if k=7 then tab a.w (AYD a.rows)
 else tab ((cs.length:Int)+1) (VM cs a.rows)
mutual
def Pn.evP (db:List Tbl):Pn→Tbl
 | .mk k t es cs ks=>evK db k t es cs (((Pn.AbU db ks)[0]?).getD AQJ) (((Pn.AbU db ks)[1]?).getD AQJ)
def Pn.AbU (db:List Tbl):List Pn→List Tbl
 | []=>[]
 | p::ps=>Pn.evP db p::Pn.AbU db ps
end
theorem Tbl.wU (t:Tbl):t.ok=true↔bH t.w=true∧t.rows.length≤400∧(∀ r∈t.rows,rowOk t.w r=true)∧Srt t.rows:=by
 unfold Tbl.ok;simp only[zT,zM,zQ,PQ]
section
variable {rows:List (List Val)} {w:Int} (hr:∀ r∈rows,rowOk w r=true) (hw:bH w=true)
include hr hw
end
def rbK (cnt:List Int) (k t:Int) (cs:List Int) (a b:Int):Int :=
 if k=1 then(cnt[t.toNat]?).getD 0 else min (if k=4 then a*b else if k=5 then a*max 1 b else if k=6 then a+b else if k=8∧cs=[]then min a 1 else a) 1000000000
mutual
def Pn.rb (cnt:List Int):Pn→Int
 | .mk k t es cs ks=>rbK cnt k t cs (((Pn.rbL cnt ks)[0]?).getD 0) (((Pn.rbL cnt ks)[1]?).getD 0)
def Pn.rbL (cnt:List Int):List Pn→List Int
 | []=>[]
 | p::ps=>Pn.rb cnt p::Pn.rbL cnt ps
end
theorem AAU {k:Int} {n:Nat} (h:(n:Int)=bZ k) (h1:k≠1) (h2:k≠2) (h10:k≠10) (h11:k≠11):n=2:=by
 unfold bZ at h;by_cases c1:k=1∨k=2
 ·omega
 ·by_cases c2:k=10∨k=11
  ·omega
  ·rw[if_neg c1,if_neg c2]at h;split at h<;>omega
def AVT (fl:List Bool):List Int:=fl.map fun b=>if b=true then 7 else 3
def AXE (e:Ex) (fl:List Bool):List Bool:=(List.range fl.length).map fun i=>(fl[i]?).getD false && jU (KR ((AVT fl).set i 4) e) 2
def nlK (flags:List (List Bool)) (k t:Int) (es:List Ex) (cs:List Int) (a b:List Bool):List Bool :=
 if k=1 then(flags[t.toNat]?).getD []
 else if k=2 then AXE (exO es) a
 else if k=3 then es.map fun e=>jU (KR (AVT a) e) 4
 else if k=4 then a++b
 else if k=5 then a++b.map fun _=>true
 else if k=6 then List.zipWith (· || ·) a b
 else if k=8 then(cs.map fun c=>(a[c.toNat]?).getD false)++[false]
 else a
mutual
def Pn.nl (flags:List (List Bool)):Pn→List Bool
 | .mk k t es cs ks=>nlK flags k t es cs (((Pn.nlL flags ks)[0]?).getD []) (((Pn.nlL flags ks)[1]?).getD [])
def Pn.nlL (flags:List (List Bool)):List Pn→List (List Bool)
 | []=>[]
 | p::ps=>Pn.nl flags p::Pn.nlL flags ps
end
def Ae7 (db:List Tbl) (k t:Int) (es:List Ex) (cs:List Int) (a b:Tbl):List (List Val) :=
 if k=1 then((db[t.toNat]?).getD AQJ).rows
 else if k=2 then a.rows.filter (isT (exO es))
 else if k=3 then a.rows.map fun r=>es.map (Ex.ev r)
 else if k=4∨k=5 then AXT (exO es) (decide (k=5)) a b
 else if k=6 then a.rows++b.rows
 else if k=7 then AYD a.rows
 else VM cs a.rows
def Pn.raw (db:List Tbl) (p:Pn):List (List Val):=Ae7 db p.kind p.table p.exprs p.cols ((p.kids[0]?.map (Pn.evP db)).getD AQJ) ((p.kids[1]?.map (Pn.evP db)).getD AQJ)
mutual
def Pn.fit (db:List Tbl):Pn→Bool
 | .mk k t es cs ks=>decide ((Pn.raw db (.mk k t es cs ks)).length≤400) && Pn.AcS db ks
def Pn.AcS (db:List Tbl):List Pn→Bool
 | []=>true
 | p::ps=>Pn.fit db p && Pn.AcS db ps
end
mutual
def Pn.bd (n:Nat):Pn→Nat
 | .mk _ _ es _ ks=>bdK n es (Pn.bdL n ks)
def Pn.bdL (n:Nat):List Pn→List Nat
 | []=>[]
 | p::ps=>Pn.bd n p::Pn.bdL n ps
def bdK (n:Nat) (es:List Ex):List Nat→Nat
 | []=>n
 | [a]=>a
 | a::b::_=>if es=[]then a+b else a*b
end
theorem ATP (n:Nat) (t:Int):(Pn.scan t).bd n=n:=by simp[Pn.scan,Pn.bd,Pn.bdL,bdK]
theorem AJL (n:Nat) (k t:Int) (es:List Ex) (cs:List Int) (a:Pn):(Pn.mk k t es cs [a]).bd n=a.bd n:=by simp[Pn.bd,Pn.bdL,bdK]
def Th (P:Pn) (j j':Nat) (u u':Int):Prop:=P.thin∧(j'≤j∧u'≤u∧∀ n:Nat,1≤n→P.bd n≤2 ^ (u-u').toNat*n ^ (j-j'+1))∧(P.exprs=[]→P.kids.length=2→P.kind=6)
theorem Th.scan {t:Int} (h:(Pn.scan t).thin) (j:Nat) (u:Int):Th (.scan t) j j u u:=by
 refine⟨h,⟨Nat.le_refl _,Int.le_refl _,fun n _=>?_⟩,by simp[Pn.scan]⟩;rw[ATP];simp
theorem Th.one {k t:Int} {es:List Ex} {cs:List Int} {K:Pn} {j j1:Nat} {u u1:Int} (hth:(Pn.mk k t es cs [K]).thin) (h:Th K j j1 u u1):Th (.mk k t es cs [K]) j j1 u u1:=by
 refine⟨hth,⟨h.2.1.1,h.2.1.2.1,fun n hn=>?_⟩,by simp⟩;rw[AJL];exact h.2.1.2.2 n hn
theorem Th.skip {k t:Int} {es:List Ex} {cs:List Int} {K:Pn} {j j1 j2:Nat} {u u1 u2:Int} (hth:(Pn.mk k t es cs [K]).thin) (h:Th K j j1 u u1) (h2:j2≤j1) (h3:u2≤u1):Th (.mk k t es cs [K]) j j2 u u2:=by
 obtain⟨-,⟨g1,g2,g3⟩,-⟩:=h;refine⟨hth,⟨by omega,by omega,fun n hn=>?_⟩,by simp⟩;rw[AJL];refine xX (g3 n hn) (Nat.mul_le_mul (Nat.pow_le_pow_right (by omega) (by omega)) (Nat.pow_le_pow_right hn (by omega)))
def BdV (P:Pn):Prop:=∀ (ws:List Int) (lv n:Nat),1≤n→P.wd ws lv≠0→P.bd n≤2*n ^ 2
def Rt (P:Pn):Prop:=P.thin∧(∀ n:Nat,1≤n→P.bd n≤2*n ^ 2)∧(P.exprs=[]→P.kids.length=2→P.kind=6)
theorem Rt.one {k t:Int} {es:List Ex} {cs:List Int} {P:Pn} (hth:(Pn.mk k t es cs [P]).thin) (h:Rt P):Rt (.mk k t es cs [P]):=⟨hth,fun n hn=>by rw[AJL];exact h.2.1 n hn,by simp⟩
theorem Rt.all {P:Pn} (h:Rt P):BdV P:=fun ws lv n hn _=>h.2.1 n hn
end Go.Av
namespace Go.Proofs.YtgiepjdnkonkgaaGreat
open Go Go.Av
set_option maxRecDepth 4000
def tS (v:Val):Int:=if v.null=true then 2 else if v.n=0 then 0 else 1
theorem AVO (v:Val):(tS v=0∧v.tr=0)∨(tS v=1∧v.tr=2)∨(tS v=2∧v.tr=1):=by
 unfold tS Val.tr
 cases v.null
 ·by_cases h:v.n=0<;>simp[h]
 ·simp
@[simp] theorem AZ7 (b:Bool) (n:Int):aH C0 98 [.i (.agg [.bool b, .int n])] []=some (.int (tS ⟨b,n⟩),[]):=by
  rw[aD rfl Tryz.func98 rfl rfl]
  cases b
  ·by_cases h:n=0<;>simp[tS,h]
  ·simp[tS]
@[simp] theorem AVW (b:Bool):aH C0 97 [.bool b] []=some (.int (if b=true then 1 else 0),[]):=by
  rw[aD rfl Tryz.func97 rfl rfl]
  cases b<;>simp
end Go.Proofs.YtgiepjdnkonkgaaGreat
namespace Go.Proofs.YtgiepjdnkonkgaaGreat.P
open Go Go.Av
set_option maxRecDepth 4000
set_option maxHeartbeats 2000000
def only (k t:Int) (es:List Ex) (cs:List Int) (ks:List Pn):Bool:=decide (1≤k∧k≤8) && (decide ((ks.length:Int)=jJ k) && (decide ((es.length:Int)=if k=3 then(es.length:Int)else eU k) && ((decide (t=0) || decide (k=1)) && (decide (cs=[]) || decide (k=8)))))
theorem eH (k t:Int) (es:List Ex) (cs:List Int) (ks:List Pn):aH C0 76 [.i (.agg [.int k, .int t, .isl (Ex.aB es), .isl (aF cs), .isl (Pn.aB ks)])] []=some (.bool (only k t es cs ks),[]):=by
 rw[aD rfl Tryz.func76 rfl rfl]
 rcases uF k with rfl|rfl|rfl|rfl|rfl|rfl|rfl|rfl|h
 case inr.inr.inr.inr.inr.inr.inr.inr =>
  have h1:¬ (1≤k∧k≤8):=by omega
  simp[h.1,h.2.1,h.2.2.1,h.2.2.2.1,h.2.2.2.2.1,h.2.2.2.2.2.1,h1,only]
 case inr.inr.inl =>
  by_cases c1:(ks.length:Int)=1
  case neg=>simp[c1,only]
  by_cases c3:t=0
  case neg=>simp[c1,c3,only]
  by_cases c5:cs=[]<;>simp[c1,c3,c5,only,aF]
 case inl =>
  by_cases c1:ks=[]
  case neg=>simp[c1,only]
  by_cases c2:es=[]
  case neg=>simp[c1,c2,only]
  by_cases c3:t=0<;>by_cases c5:cs=[]<;>simp[c1,c2,c3,c5,only,aF,Ex.aB,Pn.aB]
 case inr.inl =>
  by_cases c1:(ks.length:Int)=1
  case neg=>simp[c1,only]
  by_cases c2:(es.length:Int)=1
  case neg=>simp[c1,c2,only]
  by_cases c3:t=0
  case neg=>simp[c1,c2,c3,only]
  by_cases c5:cs=[]<;>simp[c1,c2,c3,c5,only,aF]
 case inr.inr.inr.inl =>
  by_cases c1:(ks.length:Int)=2
  case neg=>simp[c1,only]
  by_cases c2:(es.length:Int)=1
  case neg=>simp[c1,c2,only]
  by_cases c3:t=0
  case neg=>simp[c1,c2,c3,only]
  by_cases c5:cs=[]<;>simp[c1,c2,c3,c5,only,aF]
 case inr.inr.inr.inr.inl =>
  by_cases c1:(ks.length:Int)=2
  case neg=>simp[c1,only]
  by_cases c2:(es.length:Int)=1
  case neg=>simp[c1,c2,only]
  by_cases c3:t=0
  case neg=>simp[c1,c2,c3,only]
  by_cases c5:cs=[]<;>simp[c1,c2,c3,c5,only,aF]
 case inr.inr.inr.inr.inr.inl =>
  by_cases c1:(ks.length:Int)=2
  case neg=>simp[c1,only]
  by_cases c2:es=[]
  case neg=>simp[c1,c2,only]
  by_cases c3:t=0
  case neg=>simp[c1,c2,c3,only]
  by_cases c5:cs=[]<;>simp[c1,c2,c3,c5,only,aF,Ex.aB]
 case inr.inr.inr.inr.inr.inr.inl =>
  by_cases c1:(ks.length:Int)=1
  case neg=>simp[c1,only]
  by_cases c2:es=[]
  case neg=>simp[c1,c2,only]
  by_cases c3:t=0
  case neg=>simp[c1,c2,c3,only]
  by_cases c5:cs=[]<;>simp[c1,c2,c3,c5,only,aF,Ex.aB]
 case inr.inr.inr.inr.inr.inr.inr.inl =>
  by_cases c1:(ks.length:Int)=1
  case neg=>simp[c1,only]
  by_cases c2:es=[]
  case neg=>simp[c1,c2,only]
  by_cases c3:t=0
  case neg=>simp[c1,c2,c3,only]
  by_cases c5:cs=[]<;>simp[c1,c2,c3,c5,only,aF,Ex.aB]
theorem ARJ {cs:List Int} {w:Int}:∀ {i:Nat},(∀ k,k<i→∃ x,(cs.zip (-1::cs))[k]?=some x∧x∈cs.zip (-1::cs)∧decide (x.2<x.1∧x.1<w)=true)→-1≤pv cs i∧(i≠0→0≤pv cs i)
 | 0,_=>by simp[pv]
 | i+1,h=>by
  obtain⟨x,h3,_,h4⟩:=h i (by omega);obtain⟨c1,c2⟩:=EH h3;rw[AGV c1];have hb:x.2<x.1∧x.1<w:=by simpa using h4
  have:=ARJ (i:=i) fun k hk=>h k (by omega)
  omega
def CX (cs:List Int) (w:Int) (i:Nat):AS :=
 { env:=[(0, .i (.isl (aF cs))),(1, .int w),(4, .bool false),(5, .int i),(9,jk i (.bool true)),(35,jk i (.bool false))],st:=[] }
theorem TT (cs:List Int) (w:Int) (hl:cs.length<9223372036854775808) (hw:0≤w∧w≤6):aH C0 79 [.i (.isl (aF cs)), .int w] []=some (.bool (tH w cs),[]):=by
 rw[aD rfl Tryz.func79 rfl rfl];have w1:IntKind.i64.wrap (w-1)=w-1:=wrO;simp;obtain⟨j,h1,h2⟩:=gG (fun x:Int×Int=>decide (x.2<x.1∧x.1<w)) (cs.zip (-1::cs));rw[aS (CX cs w) j (by simp[CX])]
 ·rw[aG]
  rcases h2 with ⟨hj,ha⟩|⟨x,h3,_,h4,ha⟩
  ·rw[ABL]at hj;have ha:tH w cs=true:=ha;simp[CX,hj,ha]
  ·obtain⟨c1,c2⟩:=EH h3;have r1:=(zZ.1 c1).1;have r2:=aX c1;have hb:¬ (x.2<x.1∧x.1<w):=by simpa using h4
   have ha:tH w cs=false:=ha;have hp:=ARJ (i:=j) h1;by_cases hin:0≤x.1∧x.1≤w-1
   ·have hj:j≠0:=fun h=>by subst h;simp[pv]at c2;omega
    obtain⟨j,rfl⟩:∃ i,j=i+1:=⟨j-1,by omega⟩
    have q1:cs[j]?=some x.2:=by
     have:pv cs (j+1)=x.2:=c2;simp only[pv,xZ]at this;rw[zX (by omega)]at this ⊢;simpa using this
    have q2:=aX q1;have w4:IntKind.i64.wrap ((j:Int)+1-1)=j:=by rw[wrO];omega
    have w5:IntKind.i64.wrap ((j:Int))=j:=by rw[wrO]
    simp[CX,r1,r2,w1,hin,ha,q2,w4,w5,show(0:Int)<j+1 by omega,show x.1≤x.2 by omega,show(0:Int)≤(j:Int)+1 by omega,show j<cs.length by omega,show((j:Int)+1<cs.length)by omega]
   ·simp[CX,r1,r2,w1,hin,ha]
 ·intro i hi;obtain⟨x,h3,_,h4⟩:=h1 i hi;obtain⟨c1,c2⟩:=EH h3;have r1:=(zZ.1 c1).1;have r2:=aX c1;have hb:x.2<x.1∧x.1<w:=by simpa using h4
  have hp:=ARJ (i:=i) fun k hk=>h1 k (by omega)
  have hin:0≤x.1∧x.1≤w-1:=by omega
  have w2:IntKind.i64.wrap ((i:Int)+1)=i+1:=wrO;by_cases h0:i=0
  ·subst h0;simp[CX,r1,r2,w1,hin,dA]
  ·obtain⟨i,rfl⟩:∃ j,i=j+1:=⟨i-1,by omega⟩
   have q1:cs[i]?=some x.2:=by
    have:pv cs (i+1)=x.2:=c2;simp only[pv,xZ]at this;rw[zX (by omega)]at this ⊢;simpa using this
   have q2:=aX q1;have w5:IntKind.i64.wrap ((i:Int))=i:=by rw[wrO]
   have w2':IntKind.i64.wrap ((i:Int)+1+1)=i+1+1:=wrO;simp[CX,r1,r2,w1,hin,q2,w5,w2',show(0:Int)<i+1 by omega,show ¬ x.1≤x.2 by omega,show(0:Int)≤(i:Int)+1 by omega,show i<cs.length by omega,show((i:Int)+1<cs.length)by omega]
def pW (es:List Ex) (w:Int):Int:=if es.all (Ex.ok w)=true∧es.length≤6 then(es.length:Int)else 0
def QX (es:List Ex) (w:Int) (i:Nat):AS :=
 { env:=[(0, .i (.isl (Ex.aB es))),(1, .int w),(4, .int 0),(5, .int i),(9,jk i (.bool true)),(18,jk i (.bool false)),(21, .junk)],st:=[] }
theorem KN (es:List Ex) (w:Int) (hl:es.length<9223372036854775808):aH C0 78 [.i (.isl (Ex.aB es)), .int w] []=some (.int (pW es w),[]):=by
 rw[aD rfl Tryz.func78 rfl rfl];simp;obtain⟨j,h1,h2⟩:=gG (Ex.ok w) es;rw[aS (QX es w) j (by simp[QX])]
 ·rw[aG]
  rcases h2 with ⟨hj,hall⟩|⟨x,h3,_,h5,hall⟩
  ·by_cases h6:es.length≤6
   ·have hq:pW es w=es.length:=if_pos ⟨hall,h6⟩;simp[QX,hj,hq,show ¬ (6:Int)<es.length by omega]
   ·have hq:pW es w=0:=if_neg fun h=>h6 h.2
    simp[QX,hj,hq,show(6:Int)<es.length by omega]
  ·have r1:=(zZ.1 h3).1;have r2:=Ex.aO h3;have r3:=U9 w x;rw[h5]at r3;rw[Ex.aA]at r2 r3;have hq:pW es w=0:=if_neg fun h=>by rw[hall]at h;simp at h
   simp[QX,r1,r2,r3,hq]
 ·intro i hi;obtain⟨x,h3,_,h5⟩:=h1 i hi;have r1:=(zZ.1 h3).1;have r2:=Ex.aO h3;have r3:=U9 w x;rw[h5]at r3;rw[Ex.aA]at r2 r3;have w2:IntKind.i64.wrap ((i:Int)+1)=i+1:=wrO;simp[QX,r1,r2,r3,w2]
def UX (ws:List Int) (i:Nat):AS :=
 { env:=[(0, .i (.isl (aF ws))),(2, .bool false),(3, .int i),(7,jk i (.bool true)),(15,jk i (.bool false))],st:=[] }
theorem JW (ws:List Int) (hl:ws.length<9223372036854775808):aH C0 70 [.i (.isl (aF ws))] []=some (.bool (kH ws),[]):=by
 rw[aD rfl Tryz.func70 rfl rfl];simp;obtain⟨j,h1',h2⟩:=gG bH ws;rw[aS (UX ws) j (by simp[UX])]
 ·rw[aG]
  rcases h2 with ⟨hj,ha⟩|⟨x,h3,_,h5,ha⟩
  ·by_cases h4:1≤ws.length∧ws.length≤4
   ·simp[UX,hj,kH,h4,ha,show(1:Int)≤ws.length∧(ws.length:Int)≤4 by omega]
   ·simp[UX,hj,kH,h4,ha,show ¬ ((1:Int)≤ws.length∧(ws.length:Int)≤4)by omega]
  ·have r1:=(zZ.1 h3).1;have r2:=aX h3;have h5:¬ (1≤x∧x≤6):=by simpa [bH]using h5
   simp[UX,r1,r2,h5,kH,ha]
 ·intro i hi;obtain⟨x,h3,_,h5⟩:=h1' i hi;have r1:=(zZ.1 h3).1;have r2:=aX h3;have h5:1≤x∧x≤6:=by simpa [bH]using h5
  have w2:IntKind.i64.wrap ((i:Int)+1)=i+1:=wrO;simp[UX,r1,r2,h5,w2]
theorem AL9 {ws:List Int} {k t:Int} {es:List Ex} {cs:List Int} {ks:List Pn} {lv:Nat} (h:¬ (only k t es cs ks=true∧(ks=[]∨lv≠0))):aH C0 55 [.i (.agg [.int k, .int t, .isl (Ex.aB es), .isl (aF cs), .isl (Pn.aB ks)]), .i (.isl (aF ws)), .int lv] []=some (.int 0,[]):=by
 rw[aD rfl Tryz.func55 rfl rfl];have ho:=eH k t es cs ks
 cases hq:only k t es cs ks with
 | false=>rw[hq]at ho;simp[ho]
 | true =>
  rw[hq]at ho;by_cases hk:ks=[]
  ·exact absurd ⟨hq, .inl hk⟩ h
  by_cases hl:lv=0
  ·have:0<ks.length:=xN.2 hk;subst hl;simp[ho,hk,this]
  ·exact absurd ⟨hq, .inr hl⟩ h
theorem ACZ {ws:List Int} {lv:Nat} {t:Int} (ho:only 1 t [] [] []=true) (hw:ws.length<1000000000):aH C0 55 [.i (.agg [.int 1, .int t, .isl (Ex.aB []), .isl (aF []), .isl (Pn.aB [])]), .i (.isl (aF ws)), .int lv] []=some (.int (if 0≤t then(ws[t.toNat]?).getD 0 else 0),[]):=by
 rw[aD rfl Tryz.func55 rfl rfl];have hf:=eH 1 t [] [] [];rw[ho]at hf;have w1:IntKind.i64.wrap ((ws.length:Int)-1)=ws.length-1:=wrO;simp only[Ex.aB,Pn.aB,aF]at hf ⊢;simp[hf,w1];rw[aG];by_cases h0:0≤t
 case neg=>simp[h0,w1]
 cases hx:ws[t.toNat]? with
 | none =>
  have:=zB7.1 hx;simp[h0,w1,show ¬ t≤ws.length-1 by omega]
 | some x =>
  have r1:=(zZ.1 hx).1;have r2:=aX hx;simp[h0,w1,show t≤ws.length-1 by omega,show t<ws.length by omega,r2]
theorem ACY {ws:List Int} {lv:Nat} {a:Pn} {va:Int} {e:Ex} (ho:only 2 0 [e] [] [a]=true) (hl:lv≠0) (hl8:lv≤8) (ha:aH C0 55 [.i (.agg a.cells), .i (.isl (aF ws)), .int (lv-1:Nat)] []=some (.int va,[])) (ra:0≤va∧va≤6):aH C0 55 [.i (.agg [.int 2, .int 0, .isl (Ex.aB [e]), .isl (aF []), .isl (Pn.aB [a])]), .i (.isl (aF ws)), .int lv] []=some (.int (if va=0 then 0 else if e.ok va=true then va else 0),[]):=by
 rw[aD rfl Tryz.func55 rfl rfl];have hf:=eH 2 0 [e] [] [a];rw[ho]at hf;have c3':¬ (lv:Int)=0:=by omega
 have w1:IntKind.i64.wrap ((lv:Int)-1)=(lv-1:Nat):=by rw[wrO];omega
 have w2:IntKind.i64.wrap (1:Int)=1:=dA;have w3:IntKind.i64.wrap (2:Int)=2:=wrO;have r0:fT [a.cells] 0=some a.cells:=rfl;simp only[Pn.aB,aF,Ex.aB]at hf ⊢;have q0:fT [e.cells] 0=some e.cells:=rfl;have qe:=U9 (va) e;rw[Ex.aA e]at q0 qe hf ⊢;rw[Pn.aA a]at ha r0 hf ⊢;simp[hf,hl,c3'];rw[aG];by_cases z1:va=0
 case pos=>simp[w1,ha,r0,z1]
 simp[w1,w2,ha,r0,z1];rw[aG]
 cases hv:e.ok va<;>rw[hv]at qe<;>simp[z1,q0,qe]
theorem O8 {ws:List Int} {lv:Nat} {a:Pn} {va:Int} {es:List Ex} (ho:only 3 0 es [] [a]=true) (hl:lv≠0) (hl8:lv≤8) (ha:aH C0 55 [.i (.agg a.cells), .i (.isl (aF ws)), .int (lv-1:Nat)] []=some (.int va,[])) (ra:0≤va∧va≤6) (he:es.length<9223372036854775808):aH C0 55 [.i (.agg [.int 3, .int 0, .isl (Ex.aB es), .isl (aF []), .isl (Pn.aB [a])]), .i (.isl (aF ws)), .int lv] []=some (.int (if va=0 then 0 else pW es va),[]):=by
 rw[aD rfl Tryz.func55 rfl rfl];have hf:=eH 3 0 es [] [a];rw[ho]at hf;have c3':¬ (lv:Int)=0:=by omega
 have w1:IntKind.i64.wrap ((lv:Int)-1)=(lv-1:Nat):=by rw[wrO];omega
 have w2:IntKind.i64.wrap (1:Int)=1:=dA;have w3:IntKind.i64.wrap (2:Int)=2:=wrO;have r0:fT [a.cells] 0=some a.cells:=rfl;simp only[Pn.aB,aF,Ex.aB]at hf ⊢;rw[Pn.aA a]at ha r0 hf ⊢;simp[hf,hl,c3'];rw[aG];by_cases z1:va=0
 case pos=>simp[w1,ha,r0,z1]
 simp[w1,w2,ha,r0,z1];rw[aG];have hp:=KN es va he;simp[z1,hp]
theorem ACW {ws:List Int} {lv:Nat} {a:Pn} {va:Int} {b:Pn} {vb:Int} {e:Ex} (ho:only 4 0 [e] [] [a,b]=true) (hl:lv≠0) (hl8:lv≤8) (ha:aH C0 55 [.i (.agg a.cells), .i (.isl (aF ws)), .int (lv-1:Nat)] []=some (.int va,[])) (ra:0≤va∧va≤6) (hb:aH C0 55 [.i (.agg b.cells), .i (.isl (aF ws)), .int (lv-1:Nat)] []=some (.int vb,[])) (rb:0≤vb∧vb≤6):aH C0 55 [.i (.agg [.int 4, .int 0, .isl (Ex.aB [e]), .isl (aF []), .isl (Pn.aB [a,b])]), .i (.isl (aF ws)), .int lv] []=some (.int (if va=0∨vb=0 then 0 else if va+vb≤6∧e.ok (va+vb)=true then va+vb else 0),[]):=by
 rw[aD rfl Tryz.func55 rfl rfl];have hf:=eH 4 0 [e] [] [a,b];rw[ho]at hf;have c3':¬ (lv:Int)=0:=by omega
 have w1:IntKind.i64.wrap ((lv:Int)-1)=(lv-1:Nat):=by rw[wrO];omega
 have w2:IntKind.i64.wrap (1:Int)=1:=dA;have w3:IntKind.i64.wrap (2:Int)=2:=wrO;have r0:fT [a.cells,b.cells] 0=some a.cells:=rfl;have r1:fT [a.cells,b.cells] 1=some b.cells:=rfl;simp only[Pn.aB,aF,Ex.aB]at hf ⊢;have q0:fT [e.cells] 0=some e.cells:=rfl;have qe:=U9 (va+vb) e;rw[Ex.aA e]at q0 qe hf ⊢;rw[Pn.aA a]at ha r0 hf ⊢;rw[Pn.aA a]at r1;rw[Pn.aA b]at hb r0 r1 hf ⊢;simp[hf,hl,c3'];rw[aG];by_cases z1:va=0
 case pos=>simp[w1,ha,r0,z1]
 simp[w1,w2,ha,r0,z1];rw[aG];by_cases z2:vb=0
 case pos=>simp[w1,hb,r1,z2]
 simp[w1,hb,r1,z1,z2,w2,w3];rw[aG];have w4:IntKind.i64.wrap (va+vb)=va+vb:=wrO;by_cases h6:va+vb≤6
 ·cases hv:e.ok (va+vb)<;>rw[hv]at qe<;>simp[z1,z2,q0,qe,w4,h6]
 ·simp[z1,z2,w4,h6]
theorem ACV {ws:List Int} {lv:Nat} {a:Pn} {va:Int} {b:Pn} {vb:Int} {e:Ex} (ho:only 5 0 [e] [] [a,b]=true) (hl:lv≠0) (hl8:lv≤8) (ha:aH C0 55 [.i (.agg a.cells), .i (.isl (aF ws)), .int (lv-1:Nat)] []=some (.int va,[])) (ra:0≤va∧va≤6) (hb:aH C0 55 [.i (.agg b.cells), .i (.isl (aF ws)), .int (lv-1:Nat)] []=some (.int vb,[])) (rb:0≤vb∧vb≤6):aH C0 55 [.i (.agg [.int 5, .int 0, .isl (Ex.aB [e]), .isl (aF []), .isl (Pn.aB [a,b])]), .i (.isl (aF ws)), .int lv] []=some (.int (if va=0∨vb=0 then 0 else if va+vb≤6∧e.ok (va+vb)=true then va+vb else 0),[]):=by
 rw[aD rfl Tryz.func55 rfl rfl];have hf:=eH 5 0 [e] [] [a,b];rw[ho]at hf;have c3':¬ (lv:Int)=0:=by omega
 have w1:IntKind.i64.wrap ((lv:Int)-1)=(lv-1:Nat):=by rw[wrO];omega
 have w2:IntKind.i64.wrap (1:Int)=1:=dA;have w3:IntKind.i64.wrap (2:Int)=2:=wrO;have r0:fT [a.cells,b.cells] 0=some a.cells:=rfl;have r1:fT [a.cells,b.cells] 1=some b.cells:=rfl;simp only[Pn.aB,aF,Ex.aB]at hf ⊢;have q0:fT [e.cells] 0=some e.cells:=rfl;have qe:=U9 (va+vb) e;rw[Ex.aA e]at q0 qe hf ⊢;rw[Pn.aA a]at ha r0 hf ⊢;rw[Pn.aA a]at r1;rw[Pn.aA b]at hb r0 r1 hf ⊢;simp[hf,hl,c3'];rw[aG];by_cases z1:va=0
 case pos=>simp[w1,ha,r0,z1]
 simp[w1,w2,ha,r0,z1];rw[aG];by_cases z2:vb=0
 case pos=>simp[w1,hb,r1,z2]
 simp[w1,hb,r1,z1,z2,w2,w3];rw[aG];have w4:IntKind.i64.wrap (va+vb)=va+vb:=wrO;by_cases h6:va+vb≤6
 ·cases hv:e.ok (va+vb)<;>rw[hv]at qe<;>simp[z1,z2,q0,qe,w4,h6]
 ·simp[z1,z2,w4,h6]
theorem ACU {ws:List Int} {lv:Nat} {a:Pn} {va:Int} {b:Pn} {vb:Int} (ho:only 6 0 [] [] [a,b]=true) (hl:lv≠0) (hl8:lv≤8) (ha:aH C0 55 [.i (.agg a.cells), .i (.isl (aF ws)), .int (lv-1:Nat)] []=some (.int va,[])) (ra:0≤va∧va≤6) (hb:aH C0 55 [.i (.agg b.cells), .i (.isl (aF ws)), .int (lv-1:Nat)] []=some (.int vb,[])) (rb:0≤vb∧vb≤6):aH C0 55 [.i (.agg [.int 6, .int 0, .isl (Ex.aB []), .isl (aF []), .isl (Pn.aB [a,b])]), .i (.isl (aF ws)), .int lv] []=some (.int (if va=0∨vb=0 then 0 else if va=vb then va else 0),[]):=by
 rw[aD rfl Tryz.func55 rfl rfl];have hf:=eH 6 0 [] [] [a,b];rw[ho]at hf;have c3':¬ (lv:Int)=0:=by omega
 have w1:IntKind.i64.wrap ((lv:Int)-1)=(lv-1:Nat):=by rw[wrO];omega
 have w2:IntKind.i64.wrap (1:Int)=1:=dA;have w3:IntKind.i64.wrap (2:Int)=2:=wrO;have r0:fT [a.cells,b.cells] 0=some a.cells:=rfl;have r1:fT [a.cells,b.cells] 1=some b.cells:=rfl;simp only[Pn.aB,aF,Ex.aB]at hf ⊢;rw[Pn.aA a]at ha r0 hf ⊢;rw[Pn.aA a]at r1;rw[Pn.aA b]at hb r0 r1 hf ⊢;simp[hf,hl,c3'];rw[aG];by_cases z1:va=0
 case pos=>simp[w1,ha,r0,z1]
 simp[w1,w2,ha,r0,z1];rw[aG];by_cases z2:vb=0
 case pos=>simp[w1,hb,r1,z2]
 simp[w1,hb,r1,z1,z2,w2,w3];rw[aG];by_cases h6:va=vb<;>simp[z1,z2,h6]
theorem ACT {ws:List Int} {lv:Nat} {a:Pn} {va:Int} (ho:only 7 0 [] [] [a]=true) (hl:lv≠0) (hl8:lv≤8) (ha:aH C0 55 [.i (.agg a.cells), .i (.isl (aF ws)), .int (lv-1:Nat)] []=some (.int va,[])) (ra:0≤va∧va≤6):aH C0 55 [.i (.agg [.int 7, .int 0, .isl (Ex.aB []), .isl (aF []), .isl (Pn.aB [a])]), .i (.isl (aF ws)), .int lv] []=some (.int (if va=0 then 0 else va),[]):=by
 rw[aD rfl Tryz.func55 rfl rfl];have hf:=eH 7 0 [] [] [a];rw[ho]at hf;have c3':¬ (lv:Int)=0:=by omega
 have w1:IntKind.i64.wrap ((lv:Int)-1)=(lv-1:Nat):=by rw[wrO];omega
 have w2:IntKind.i64.wrap (1:Int)=1:=dA;have w3:IntKind.i64.wrap (2:Int)=2:=wrO;have r0:fT [a.cells] 0=some a.cells:=rfl;simp only[Pn.aB,aF,Ex.aB]at hf ⊢;rw[Pn.aA a]at ha r0 hf ⊢;simp[hf,hl,c3'];rw[aG];by_cases z1:va=0
 case pos=>simp[w1,ha,r0,z1]
 simp[w1,w2,ha,r0,z1];rw[aG];simp[z1]
theorem ACS {ws:List Int} {lv:Nat} {a:Pn} {va:Int} {cs:List Int} (ho:only 8 0 [] cs [a]=true) (hl:lv≠0) (hl8:lv≤8) (ha:aH C0 55 [.i (.agg a.cells), .i (.isl (aF ws)), .int (lv-1:Nat)] []=some (.int va,[])) (ra:0≤va∧va≤6) (hc:cs.length<9223372036854775808):aH C0 55 [.i (.agg [.int 8, .int 0, .isl (Ex.aB []), .isl (aF cs), .isl (Pn.aB [a])]), .i (.isl (aF ws)), .int lv] []=some (.int (if va=0 then 0 else if cs.length<6∧tH va cs=true then(cs.length:Int)+1 else 0),[]):=by
 rw[aD rfl Tryz.func55 rfl rfl];have hf:=eH 8 0 [] cs [a];rw[ho]at hf;have c3':¬ (lv:Int)=0:=by omega
 have w1:IntKind.i64.wrap ((lv:Int)-1)=(lv-1:Nat):=by rw[wrO];omega
 have w2:IntKind.i64.wrap (1:Int)=1:=dA;have w3:IntKind.i64.wrap (2:Int)=2:=wrO;have r0:fT [a.cells] 0=some a.cells:=rfl;simp only[Pn.aB,aF,Ex.aB]at hf ⊢;rw[Pn.aA a]at ha r0 hf ⊢;simp[hf,hl,c3'];rw[aG];by_cases z1:va=0
 case pos=>simp[w1,ha,r0,z1]
 simp[w1,w2,ha,r0,z1];rw[aG];have hp:=TT cs va hc ra;by_cases h6:cs.length<6
 ·have w5:IntKind.i64.wrap ((cs.length:Int)+1)=cs.length+1:=wrO
  cases hv:tH va cs<;>rw[hv]at hp<;>simp[z1,hp,h6,show(cs.length:Int)<6 by omega,w5]
 ·cases hv:tH va cs<;>rw[hv]at hp<;>simp[z1,hp,h6,show ¬ (cs.length:Int)<6 by omega]
theorem AAJ (k t:Int) (es:List Ex) (cs:List Int) (ks:List Pn):only k t es cs ks=true↔((1≤k∧k≤8)∧(ks.length:Int)=jJ k∧((es.length:Int)=if k=3 then(es.length:Int)else eU k)∧(t=0∨k=1)∧(cs=[]∨k=8)):=by
 unfold only;simp only[zT,zE8,zM]
theorem D9 {ws:List Int} (hw:∀ w∈ws,0≤w∧w≤6) (hwl:ws.length<1000000000):∀ (p:Pn),p.lim→∀ (lv:Nat),lv≤8→aH C0 55 [.i (.agg p.cells), .i (.isl (aF ws)), .int lv] []=some (.int (p.wd ws lv),[]):=by
 intro p
 induction p using Pn.ind with
 | h k t es cs ks ih =>
  intro hp lv hlv;have hp:=(Pn.LC _).1 hp;simp only[Pn.bR,Pn.dZ,Pn.fB]at hp;obtain⟨he,hc,-,hks⟩:=hp;rw[Pn.bF];have hr:=fun a=>Pn.qV hw a (lv-1)
  by_cases ho:only k t es cs ks=true∧(ks=[]∨lv≠0)
  case neg =>
   rw[AL9 ho,Pn.AC5];intro hh;apply ho;refine⟨?_,hh.2⟩;have h:=(nP k t es cs ks).1 hh.1;rw[AAJ];refine⟨?_,h.1,?_,h.2.2.1.symm,h.2.2.2.symm⟩
   ·rcases KV k with h1|h1|h1|h1<;>omega
   ·by_cases h3:k=3
    ·rw[if_pos h3]
    ·have:=h.2.1;rw[if_neg fun h=>h3 h.1]at this;rw[if_neg h3];exact this
  have hoo:=ho.1;have hq:=(AAJ k t es cs ks).1 ho.1;obtain⟨h0,h1,h2,h3,h4⟩:=hq;have h5:=ho.2;by_cases hd:Pn.headOk (.mk k t es cs ks)=true
  case neg =>
   rw[Pn.AC5 fun h=>hd h.1]
   have hk3:k=3∧¬ bH es.length=true∧(es.length:Int)≠1:=by
    by_cases hk:k=3
    ·refine⟨hk,?_,?_⟩
     ·intro hv;exact hd ((nP k t es cs ks).2 ⟨h1,by rw[if_pos ⟨hk,hv⟩],h3.symm,h4.symm⟩)
     ·intro hv;have:bH es.length=true:=by rw[hv];decide
      exact hd ((nP k t es cs ks).2 ⟨h1,by rw[if_pos ⟨hk,this⟩],h3.symm,h4.symm⟩)
    ·exact absurd ((nP k t es cs ks).2 ⟨h1,by rw[if_neg fun h=>hk h.1];rwa [if_neg hk]at h2,h3.symm,h4.symm⟩) hd
   obtain⟨rfl,hv,hv1⟩:=hk3;obtain⟨a,rfl⟩:=mQ (by simpa using h1);obtain rfl:cs=[]:=by simpa using h4
   obtain rfl:t=0:=by simpa using h3
   have hl:lv≠0:=by simpa using h5
   rw[O8 hoo hl hlv (ih a (by simp) (hks a (by simp)) (lv-1) (by omega)) (hr a) he]
   have:pW es (a.wd ws (lv-1))=0:=by
    unfold pW;split
    ·rename_i h;have:¬ (1≤(es.length:Int)∧(es.length:Int)≤6):=by simpa [bH]using hv
     omega
    ·rfl
   simp[this]
  have hx:=Pn.A9 ws lv (.mk k t es cs ks);rw[if_pos (by simpa using (⟨hd,h5⟩:_∧_))]at hx;simp only[Pn.dW,Pn.gH,Pn.bR,Pn.dZ,Pn.fB]at hx;rw[hx]
  rcases uF k with rfl|rfl|rfl|rfl|rfl|rfl|rfl|rfl|h
  ·obtain rfl:=iB (by simpa using h1);obtain rfl:es=[]:=iB (by simpa using h2);obtain rfl:cs=[]:=by simpa using h4
   exact ACZ hoo hwl
  ·obtain⟨a,rfl⟩:=mQ (by simpa using h1);obtain⟨e,rfl⟩:=mQ (by simpa using h2);obtain rfl:cs=[]:=by simpa using h4
   obtain rfl:t=0:=by simpa using h3
   have hl:lv≠0:=by simpa using h5
   rw[ACY hoo hl hlv (ih a (by simp) (hks a (by simp)) (lv-1) (by omega)) (hr a)];by_cases z:a.wd ws (lv-1)=0<;>simp[z,dF]
  ·obtain⟨a,rfl⟩:=mQ (by simpa using h1);obtain rfl:cs=[]:=by simpa using h4
   obtain rfl:t=0:=by simpa using h3
   have hl:lv≠0:=by simpa using h5
   rw[O8 hoo hl hlv (ih a (by simp) (hks a (by simp)) (lv-1) (by omega)) (hr a) he];have h6:=Pn.uN hd;simp only[Pn.bR]at h6;by_cases z:a.wd ws (lv-1)=0<;>simp[z,dF,pW,h6]
  ·obtain⟨a,b,rfl⟩:=FN (by simpa using h1);obtain⟨e,rfl⟩:=mQ (by simpa using h2);obtain rfl:cs=[]:=by simpa using h4
   obtain rfl:t=0:=by simpa using h3
   have hl:lv≠0:=by simpa using h5
   rw[ACW hoo hl hlv (ih a (by simp) (hks a (by simp)) (lv-1) (by omega)) (hr a) (ih b (by simp) (hks b (by simp)) (lv-1) (by omega)) (hr b)];by_cases z:a.wd ws (lv-1)=0<;>by_cases z2:b.wd ws (lv-1)=0<;>simp[z,z2,dF]
  ·obtain⟨a,b,rfl⟩:=FN (by simpa using h1);obtain⟨e,rfl⟩:=mQ (by simpa using h2);obtain rfl:cs=[]:=by simpa using h4
   obtain rfl:t=0:=by simpa using h3
   have hl:lv≠0:=by simpa using h5
   rw[ACV hoo hl hlv (ih a (by simp) (hks a (by simp)) (lv-1) (by omega)) (hr a) (ih b (by simp) (hks b (by simp)) (lv-1) (by omega)) (hr b)];by_cases z:a.wd ws (lv-1)=0<;>by_cases z2:b.wd ws (lv-1)=0<;>simp[z,z2,dF]
  ·obtain⟨a,b,rfl⟩:=FN (by simpa using h1);obtain rfl:es=[]:=iB (by simpa using h2);obtain rfl:cs=[]:=by simpa using h4
   obtain rfl:t=0:=by simpa using h3
   have hl:lv≠0:=by simpa using h5
   rw[ACU hoo hl hlv (ih a (by simp) (hks a (by simp)) (lv-1) (by omega)) (hr a) (ih b (by simp) (hks b (by simp)) (lv-1) (by omega)) (hr b)];by_cases z:a.wd ws (lv-1)=0<;>by_cases z2:b.wd ws (lv-1)=0<;>simp[z,z2,dF]
  ·obtain⟨a,rfl⟩:=mQ (by simpa using h1);obtain rfl:es=[]:=iB (by simpa using h2);obtain rfl:cs=[]:=by simpa using h4
   obtain rfl:t=0:=by simpa using h3
   have hl:lv≠0:=by simpa using h5
   rw[ACT hoo hl hlv (ih a (by simp) (hks a (by simp)) (lv-1) (by omega)) (hr a)];by_cases z:a.wd ws (lv-1)=0<;>simp[z,dF]
  ·obtain⟨a,rfl⟩:=mQ (by simpa using h1);obtain rfl:es=[]:=iB (by simpa using h2);obtain rfl:t=0:=by simpa using h3
   have hl:lv≠0:=by simpa using h5
   rw[ACS hoo hl hlv (ih a (by simp) (hks a (by simp)) (lv-1) (by omega)) (hr a) hc];by_cases z:a.wd ws (lv-1)=0<;>simp[z,dF]
  ·omega
theorem AC4 (p:Pn) (hp:p.lim) (ws:List Int) (hl:ws.length<9223372036854775808):aH C0 48 [.i (.agg p.cells), .i (.isl (aF ws))] []=some (.int (p.width ws),[]):=by
 rw[aD rfl Tryz.func48 rfl rfl];have hv:=JW ws hl
 cases h:kH ws with
 | false=>rw[h]at hv;rw[Pn.aA];simp[hv,Pn.width,h]
 | true =>
  rw[h]at hv;have h4:ws.length≤4:=by simp[kH]at h;omega
  have hb:=D9 (l7 h) (by omega) p hp 8 (by omega);rw[show((8:Nat):Int)=8 from rfl]at hb;rw[Pn.aA]at hb ⊢;simp[hv,Pn.width,h,hb]
set_option maxHeartbeats 8000000
def SVX (s:Sts) (i:Nat):AS :=
 { env:=[(0, .i (.agg [.int s.rows, .isl (aF s.d), .isl (aF s.n)])),(1, .int s.d.length),(2, .own 0 0),(4, .bool false),(5, .int i),(23, .bool false),(26,jk i (.bool true)),(54,jk i (.bool false))],
   st:=[some (.box [.int s.rows, .i (.isl (aF s.d)), .i (.isl (aF s.n))])] }
theorem NB (s:Sts) (hd:s.d.length<1000000000) (hn:s.n.length<1000000000):aH C0 69 [.i (.agg [.int s.rows, .isl (aF s.d), .isl (aF s.n)]), .int s.d.length] []=some (.bool (decide (0≤s.rows) && (decide (s.rows≤400) && s.okL s.d s.n)),[]):=by
 rw[aD rfl Tryz.func69 rfl rfl];by_cases hr:0≤s.rows∧s.rows≤400
 case neg =>
  by_cases h0:0≤s.rows
  ·have h4:¬ s.rows≤400:=fun h=>hr ⟨h0,h⟩
   simp[h0,h4]
  ·simp[h0]
 obtain⟨r0,r1⟩:=hr;by_cases hl:s.n.length=s.d.length
 case neg =>
  have hl':¬ (s.n.length:Int)=s.d.length:=by omega
  have hf:s.okL s.d s.n=false:=by
   cases h:s.okL s.d s.n with
   | false=>rfl
   | true=>exact absurd (Sts.QP h) hl
  simp[r0,r1,hl',hf]
 obtain⟨j,h1,h2⟩:=s.QO s.d s.n hl;simp[r0,r1,hl];rw[aS (SVX s) j (by simp[SVX])]
 ·rw[aG]
  rcases h2 with ⟨hj,ho⟩|⟨d,n,e1,e2,hc,ho⟩
  ·rw[ho];by_cases hz:s.d.length=0
   ·simp[SVX,hj,hz]
   ·simp[SVX,hj,hz]
  ·rw[ho];have hjl:=(zZ.1 e1).1;have q1:=aX e1;have q2:=aX e2;have hjn:j<s.n.length:=by omega
   have wr:0≤n→n≤s.rows→IntKind.i64.wrap (s.rows-n)=s.rows-n:=fun a b=>wrO
   unfold Sts.okC at hc;by_cases c1:0≤n
   case neg=>simp[SVX,hjl,hjn,q1,q2,c1]
   by_cases c2:n≤s.rows
   case neg=>simp[SVX,hjl,hjn,q1,q2,c1,c2]
   have w:=wr c1 c2;by_cases c3:0≤d
   case neg=>simp[SVX,hjl,hjn,q1,q2,c1,c2,c3,w]
   have c4:¬ d≤s.rows-n:=by
    simp[c1,c2,c3]at hc;omega
   simp[SVX,hjl,hjn,q1,q2,c1,c2,c3,c4,w]
 ·intro i hi;obtain⟨d,n,e1,e2,hc⟩:=h1 i hi;obtain⟨c1,c2,c3,c4⟩:=Sts.Y5.1 hc;have hil:=(zZ.1 e1).1;have q1:=aX e1;have q2:=aX e2;have hin:i<s.n.length:=by omega
  have w:IntKind.i64.wrap (s.rows-n)=s.rows-n:=wrO;have w2:IntKind.i64.wrap ((i:Int)+1)=i+1:=wrO;simp[SVX,hil,hin,q1,q2,c1,c2,c3,c4,w,w2]
theorem wS (s:Sts) (hd:s.d.length<1000000000) (hn:s.n.length<1000000000):aH C0 47 [.i (.agg [.int s.rows, .isl (aF s.d), .isl (aF s.n)]), .int s.d.length] []=some (.bool s.ok,[]):=by
 have h:=NB s hd hn;rw[aD rfl Tryz.func47 rfl rfl];unfold Sts.ok bH;by_cases h1:(1:Int)≤s.d.length∧(s.d.length:Int)≤6
 ·simp[h1.1,h1.2,h]
 ·by_cases h2:(1:Int)≤s.d.length
  ·have h3:¬ (s.d.length:Int)≤6:=fun h=>h1 ⟨h2,h⟩
   simp[h2,h3]
  ·simp[h2]
theorem UD {s:Sts} (hs:s.ok=true) {c d n:Int} (h0:0≤c) (e1:s.d[c.toNat]?=some d) (e2:s.n[c.toNat]?=some n) (n0:0≤n) (n1:n≤s.rows) (d0:0≤d) (d1:d≤s.rows-n):aH C0 99 [.i (.agg [.int s.rows, .isl (aF s.d), .isl (aF s.n)]), .int c] []=some (.int (if s.rows=0∨d=0 then 0 else(1000*(s.rows-n)).tdiv (s.rows*d)),[]):=by
 rw[aD rfl Tryz.func99 rfl rfl];have hr:s.rows≤400:=(Sts.wU.1 hs).2.2.1;have q1:=aX e1;have q2:=aX e2;have hl1:=(zZ.1 e1).1;have hl:=(zZ.1 e2).1;have c1:c<(s.d.length:Int):=by omega
 have c2:c<(s.n.length:Int):=by omega
 have w1:IntKind.i64.wrap (s.rows-n)=s.rows-n:=wrO;have w2:IntKind.i64.wrap (1000*(s.rows-n))=1000*(s.rows-n):=wrO;obtain⟨m0,m1⟩:=FI (show 0≤s.rows by omega) hr d0 (show d≤400 by omega);have w3:IntKind.i64.wrap (s.rows*d)=s.rows*d:=wrO;by_cases r0:s.rows=0
 ·simp[r0,q1,h0,c1]
 by_cases d00:d=0
 ·simp[r0,q1,d00,h0,c1]
 ·have hm:s.rows*d≠0:=by
   intro h
   rcases Int.mul_eq_zero.1 h with h|h
   ·exact r0 h
   ·exact d00 h
  have hm2:(s.rows*d != 0)=true:=by simpa using hm
  have hrg:=sD (c:=1000) (show 0≤1000*(s.rows-n)by omega) (show 0<s.rows*d by omega) (by
   have hm1:s.rows*1≤s.rows*d:=zA1 (show 1≤d by omega) (by omega)
   omega)
  have w4:IntKind.i64.wrap ((1000*(s.rows-n)).tdiv (s.rows*d))=(1000*(s.rows-n)).tdiv (s.rows*d):=wrO;simp[r0,c1,c2,h0,q1,q2,d00,w1,w2,w3,w4,hm2]
theorem UE (v:Val):(if tS v=1 then(1000:Int)else 0)=RQ v:=by
 unfold RQ
 rcases AVO v with ⟨h1,h2⟩|⟨h1,h2⟩|⟨h1,h2⟩<;>rw[h1,h2]<;>decide
theorem AFG (b:Bool):IntKind.i64.wrap (1000*(if b=true then 1 else 0))=if b=true then 1000 else 0:=by
 cases b<;>exact wrap64 (by simp) (by simp)
theorem U7 {s:Sts} (hs:s.ok=true):∀ (e:Ex),e.wf s.d.length=true→aH C0 71 [.i (.agg e.cells), .i (.agg [.int s.rows, .isl (aF s.d), .isl (aF s.n)])] []=some (.int (e.sel s),[]):=by
 intro e
 induction e using Ex.ind with
 | h k c v ks ih =>
  intro hw;have hk:=vW hw
  have hi:∀ a∈ks,aH C0 71 [.i (.agg a.cells), .i (.agg [.int s.rows, .isl (aF s.d), .isl (aF s.n)])] []=some (.int (a.sel s),[])∧0≤a.sel s∧a.sel s≤1000∧a.wf s.d.length=true:=fun a ha =>
   have hwa:=Ex.gX hw ha
   ⟨ih a ha hwa,(AO hs a hwa).1,(AO hs a hwa).2,hwa⟩
  rw[Ex.AGE];generalize hE:Ex.mk k c v ks=E at *
  have hks:ks=E.kids:=by rw[← hE];rfl
  rw[hks]at hi;have hcon:=UE E.val;have hwi:=AFG (decide (tS E.val=1));rw[aD rfl Tryz.func71 rfl rfl];rw[Ex.aA E];unfold AWJ
  rcases hk with ⟨k1,ck⟩|⟨k1,ck⟩|⟨k1,a,ck⟩|⟨k1,k2,k3,k4,a,b,ck⟩
  ·simp[k1]
  ·rw[← hcon];by_cases ht:tS E.val=1
   ·simp[ht]at hwi;simp[k1,ht,hwi]
   ·simp[ht]at hwi;simp[k1,ht,hwi]
  ·rw[ck]at hi ⊢;obtain⟨i1,r0,r1,hwa⟩:=hi a (by simp);rw[Ex.aA a]at i1;have w1:IntKind.i64.wrap (1000-a.sel s)=1000-a.sel s:=wrO
   rcases k1 with k1|k1
   ·simp[k1,Ex.aB,Ex.aA a,i1,w1]
   ·unfold AD8;simp only[Ex.aB];rw[Ex.aA a];by_cases h1:a.kind=1
    case neg=>simp[k1,h1]
    have hr0:0≤s.rows:=(Sts.wU.1 hs).2.1;by_cases h2:s.rows=0
    ·simp[k1,h1,h2]
    ·have hr1:0<s.rows:=by omega
     obtain⟨c0,c1,_⟩:=Ex.mV hwa h1;obtain⟨d,n,e1,e2,n0,n1,d0,d1⟩:=Sts.col hs c0 c1;have hr:s.rows≤400:=(Sts.wU.1 hs).2.2.1;have q2:=aX e2;have hl:=(zZ.1 e2).1;have c2:a.col<(s.n.length:Int):=by omega
     have hrg:=sD (c:=1000) (show 0≤1000*n by omega) (show 0<s.rows by omega) (by omega);have hm2:(s.rows != 0)=true:=by simpa using h2
     have w2:IntKind.i64.wrap (1000*n)=1000*n:=wrO;have w3:IntKind.i64.wrap ((1000*n).tdiv s.rows)=(1000*n).tdiv s.rows:=wrO;have hg:s.n[a.col.toNat]=n:=(zZ.1 e2).2;simp[k1,h1,h2,hr1,c0,c2,q2,w2,w3,hm2];rw[hg]
  ·rw[ck]at hi;obtain⟨i1,r0,r1,hwa⟩:=hi a (by simp);obtain⟨i2,r2,r3,hwb⟩:=hi b (by simp);rw[Ex.aA a]at i1;rw[Ex.aA b]at i2;obtain⟨p1,p2,p3,p4,p5,p6,p7⟩:=OH r0 r1 r2 r3;have w1:IntKind.i64.wrap (a.sel s*b.sel s)=a.sel s*b.sel s:=wrO;have w2:IntKind.i64.wrap ((a.sel s*b.sel s).tdiv 1000)=(a.sel s*b.sel s).tdiv 1000:=wrO;have w3:IntKind.i64.wrap (a.sel s+b.sel s)=a.sel s+b.sel s:=wrO;have w4:IntKind.i64.wrap (a.sel s+b.sel s-(a.sel s*b.sel s).tdiv 1000)=a.sel s+b.sel s-(a.sel s*b.sel s).tdiv 1000:=wrO;rw[ck];by_cases h8:E.kind=8
   ·simp[h8,Ex.aB,Ex.aA a,Ex.aA b,i1,i2,w1,w2]
   by_cases h9:E.kind=9
   ·simp[h9,Ex.aB,Ex.aA a,Ex.aA b,i1,i2,w1,w2,w3,w4]
   by_cases h6:E.kind=6
   ·unfold AT8;by_cases h1:a.kind=1
    case neg=>simp[h6,h1,Ex.aB,Ex.aA a,Ex.aA b]
    by_cases h2:b.kind=2
    case neg=>simp[h6,h1,h2,Ex.aB,Ex.aA a,Ex.aA b]
    cases h3:b.val.null with
    | true=>simp[h6,h1,h2,h3,Ex.aB,Ex.aA a,Ex.aA b]
    | false =>
     obtain⟨c0,c1,_⟩:=Ex.mV hwa h1;obtain⟨d,n,e1,e2,n0,n1,d0,d1⟩:=Sts.col hs c0 c1;have hq:=UD hs c0 e1 e2 n0 n1 d0 d1;have hg:(s.n[a.col.toNat]?).getD 0=n:=by rw[e2];rfl
     have hg2:(s.d[a.col.toNat]?).getD 0=d:=by rw[e1];rfl
     simp only[zC5,xZ,yP,hg,hg2];simp[h6,h1,h2,h3,Ex.aB,Ex.aA a,Ex.aA b,hq]
   by_cases h7:E.kind=7
   ·simp[h7]
   ·simp[k1,k2,k3,k4,h8,h9,h6,h7]
theorem UB {w:Int}:∀ (e:Ex),e.wf w=true→aH C0 72 [.i (.agg e.cells)] []=some (.int e.fix,[]):=by
 intro e
 induction e using Ex.ind with
 | h k c v ks ih =>
  intro hw;have hk:=vW hw
  have hi:∀ a∈ks,aH C0 72 [.i (.agg a.cells)] []=some (.int a.fix,[])∧0≤a.fix∧a.fix≤1000:=fun a ha =>
   have hwa:=Ex.gX hw ha
   ⟨ih a ha hwa,uS a hwa⟩
  rw[Ex.AIK];generalize hE:Ex.mk k c v ks=E at *
  have hks:ks=E.kids:=by rw[← hE];rfl
  rw[hks]at hi;have hcon:=UE E.val;have hwi:=AFG (decide (tS E.val=1));rw[aD rfl Tryz.func72 rfl rfl];rw[Ex.aA E];unfold AY5
  rcases hk with ⟨k1,ck⟩|⟨k1,ck⟩|⟨k1,a,ck⟩|⟨k1,k2,k3,k4,a,b,ck⟩
  ·simp[k1]
  ·rw[← hcon];by_cases ht:tS E.val=1
   ·simp[ht]at hwi;simp[k1,ht,hwi]
   ·simp[ht]at hwi;simp[k1,ht,hwi]
  ·rcases k1 with k1|k1<;>simp[k1]
  ·rw[ck]at hi ⊢;obtain⟨i1,r0,r1⟩:=hi a (by simp);obtain⟨i2,r2,r3⟩:=hi b (by simp);rw[Ex.aA a]at i1;rw[Ex.aA b]at i2;obtain⟨p1,p2,p3,p4,p5,p6,p7⟩:=OH r0 r1 r2 r3;have w1:IntKind.i64.wrap (a.fix*b.fix)=a.fix*b.fix:=wrO;have w2:IntKind.i64.wrap ((a.fix*b.fix).tdiv 1000)=(a.fix*b.fix).tdiv 1000:=wrO;by_cases h8:E.kind=8
   ·simp[h8,Ex.aB,Ex.aA a,Ex.aA b,i1,i2,w1,w2]
   by_cases h6:E.kind=6
   ·simp[h6]
   ·simp[k2,h8,h6]
end Go.Proofs.YtgiepjdnkonkgaaGreat.P
namespace Go.Av
theorem LG:∀ (l:List Int) (i:Nat) (x:Int),(aF l).set i [.int x]=aF (l.set i x)
 | [],i,x=>by simp[aF]
 | a::l,0,x=>by simp[aF]
 | a::l,i+1,x=>by simp[aF,LG l i x]
end Go.Av
namespace Go.Proofs.YtgiepjdnkonkgaaGreat.P
open Go Go.Av
set_option maxRecDepth 4000
set_option maxHeartbeats 2000000
def IX (l m:List Int) (i:Nat):AS :=
 { env:=[(0, .i (.isl (aF l))),(1, .i (.isl (aF m))),(4, .bool false),(5, .int i),(10, .bool false),(14,jk i (.bool true)),(25,jk i (.bool false))],st:=[] }
def SX (l m:List Int) (i:Nat):AS :=
 { env:=[(0, .i (.isl (aF l))),(1, .i (.isl (aF m))),(4, .bool false),(5,jk i (.int (i-1))),(10, .bool false),(12, .int l.length),(13, .int i),(14,jk i (.bool true)),(24,jk i (.bool false))],st:=[] }
def EX (a b:Ex) (i:Nat):AS :=
 { env:=[(0, .i (.iref [.int a.kind, .int a.col, .bool a.val.null, .int a.val.n, .isl (Ex.aB a.kids)])),(1, .i (.iref [.int b.kind, .int b.col, .bool b.val.null, .int b.val.n, .isl (Ex.aB b.kids)])),(4, .bool false),(5,jk i (.int (i-1))),(49, .bool false),(54, .int a.kids.length),(55, .int i),(56,jk i (.bool true)),(71,jk i (.bool false))],st:=[] }
def FX (a b:Ex) (i:Nat):AS :=
 { env:=[(0, .i (.agg [.int a.kind, .int a.col, .bool a.val.null, .int a.val.n, .isl (Ex.aB a.kids)])),(1, .i (.agg [.int b.kind, .int b.col, .bool b.val.null, .int b.val.n, .isl (Ex.aB b.kids)])),(2, .own 0 0),(3, .own 1 0),(4, .bool false),(5, .int i),(33, .bool false),(38,jk i (.bool true)),(52,jk i (.bool false))],
   st:=[some (.box [.int a.kind, .int a.col, .bool a.val.null, .int a.val.n, .i (.isl (Ex.aB a.kids))]),some (.box [.int b.kind, .int b.col, .bool b.val.null, .int b.val.n, .i (.isl (Ex.aB b.kids))])] }
def HX (p q:Pn) (n m:Nat) (i j k:AV) (x51 x65 x70 x83 x88 x102:AV):AS :=
 { env:=[(0, .i (.agg [.int p.kind, .int p.table, .isl (Ex.aB p.exprs), .isl (aF p.cols), .isl (Pn.aB p.kids)])),(1, .i (.agg [.int q.kind, .int q.table, .isl (Ex.aB q.exprs), .isl (aF q.cols), .isl (Pn.aB q.kids)])),(2, .own 0 0),(3, .own 1 0),(4, .bool false),(5,i),(6,j),(7,k),(46, .bool false),(51,x51),(65,x65),(70,x70),(83,x83),(88,x88),(102,x102)],
   st:=[some (.box [.int p.kind, .int p.table, .i (.isl (Ex.aB p.exprs)), .i (.isl (aF p.cols)), .i (.isl (Pn.aB p.kids))]),some (.box [.int q.kind, .int q.table, .i (.isl (Ex.aB q.exprs)), .i (.isl (aF q.cols)), .i (.isl (Pn.aB q.kids))])] }
def H1 (p q:Pn) (i:Nat):AS:=HX p q 0 0 (.int i) .junk .junk (jk i (.bool true)) (jk i (.bool false)) .junk .junk .junk .junk
def H2 (p q:Pn) (i:Nat):AS:=HX p q 0 0 (.int p.exprs.length) (.int i) .junk (.bool false) (jk p.exprs.length (.bool false)) (jk i (.bool true)) (jk i (.bool false)) .junk .junk
def KX (p:Pn) (i:Nat):AS :=
 { env:=[(0, .i (.agg [.int p.kind, .int p.table, .isl (Ex.aB p.exprs), .isl (aF p.cols), .isl (Pn.aB p.kids)])),(1, .own 0 0),(2, .own 1 0),(3, .own 2 0),(4, .int i),(5, .junk),(19,jk i (.bool true)),(37, .junk)],
   st:=some (.box [.int p.kind, .int p.table, .i (.isl (Ex.aB p.exprs)), .i (.isl (aF p.cols)), .i (.isl (Pn.aB p.kids))])::some (.box [.int 0, .int 0, .nils, .nils, .nils]) ::
    some (.box [.int p.kind, .int p.table,gro 3 5 i, .osl (if i=0 then 3 else 4) 1 0 p.cols.length, .nils])::(ADS 5 (Ex.aB (p.exprs.take i)) i++[some (.arr 1 (aF p.cols))]) }
def K2 (p:Pn) (i:Nat):AS :=
 { env:=[(0, .i (.agg [.int p.kind, .int p.table, .isl (Ex.aB p.exprs), .isl (aF p.cols), .isl (Pn.aB p.kids)])),(1, .own 0 0),(2, .own 1 0),(3, .own 2 0),(4, .int p.exprs.length),(5, .int i),(19, .bool false),(37,jk i (.bool true))],
   st:=some (.box [.int p.kind, .int p.table, .i (.isl (Ex.aB p.exprs)), .i (.isl (aF p.cols)), .i (.isl (Pn.aB p.kids))])::some (.box [.int 0, .int 0, .nils, .nils, .nils]) ::
    some (.box [.int p.kind, .int p.table,gro 3 5 p.exprs.length, .osl (if p.exprs.length=0 then 3 else 4) 1 0 p.cols.length,gro (if p.exprs.length=0 then 4 else 5) 5 i])::(ADS 5 (Ex.aB p.exprs) p.exprs.length++some (.arr 1 (aF p.cols))::ADS 5 (Pn.aB (p.kids.take i)) i) }
def pcX (p:Pn):AV:=.agg [.int p.kind, .int p.table,gro 0 5 p.exprs.length, .osl (if p.exprs.length=0 then 0 else 1) 1 0 p.cols.length,gro (if p.exprs.length=0 then 1 else 2) 5 p.kids.length]
def pcS (p:Pn):StL:=ADS 5 (Ex.aB p.exprs) p.exprs.length++some (.arr 1 (aF p.cols))::ADS 5 (Pn.aB p.kids) p.kids.length
theorem RO {p:Pn} (hp:p.thin) (ih:∀ a∈p.kids,aH C0 23 [.i (.agg a.cells)] []=some (pcX a,pcS a)) :
 aH C0 23 [.i (.agg p.cells)] []=some (pcX p,pcS p):=by
 have ht:=(Pn.bM _).1 hp;obtain⟨t1,t2,t3,t4,-⟩:=ht;rw[aD rfl Tryz.func23 rfl rfl,Pn.aA];by_cases hc:p.cols=[]
 ·simp[hc,aF];rw[aS (KX p) p.exprs.length (by simp[KX,hc,aF])]
  ·rw[aG]
   cases hn:p.exprs.length with
   | zero =>
    have he:p.exprs=[]:=zW.1 hn;simp[KX,he,hc,aF,Ex.aB];rw[aS (K2 p) p.kids.length (by simp[K2,he,hc,aF,Ex.aB])]
    ·rw[aG]
     cases hm:p.kids.length with
     | zero =>
      have hk:p.kids=[]:=zW.1 hm;simp[K2,he,hc,aF,hk,Ex.aB,Pn.aB,pcX,pcS]
     | succ m =>
      have hk:p.kids.take (m+1)=p.kids:=zY (by omega);simp[K2,he,hc,aF,hm,hk,Ex.aB,pcX,pcS]
    ·intro i hi;have h3:=zX hi;have hc':=ih _ (zU h3);have r2:=Pn.aO h3;generalize p.kids[i]=a at h3 hc' r2;have w2:IntKind.i64.wrap ((i:Int)+1)=i+1:=wrO;rw[Pn.aA]at r2 hc';simp only[pcX,pcS]at hc';have hl1:(i+1)*88≤140737488355328:=by omega
     have hl2:min i p.kids.length=i:=by omega
     by_cases a1:a.exprs=[]
     ·by_cases a2:a.kids=[]
      ·simp[a1,a2,Ex.aB,Pn.aB]at hc' r2;by_cases h0:i=0
       ·subst h0;simp[K2,he,hc,aF,hi,r2,hc',dA,aN h3,Ex.aB,Pn.aB,Pn.aA a,a1,a2]
       ·simp[K2,he,hc,aF,aP h0,aM h0,bT h0,hi,r2,hc',w2,aN h3,Ex.aB,Pn.aB,Pn.aZ,hl1,hl2,zK,Pn.aA a,h0,a1,a2]
      ·have a2':a.kids.length≠0:=fun h=>a2 (zW.1 h)
       simp[a1,aP a2',aM a2',a2,Ex.aB,Pn.aB]at hc' r2;by_cases h0:i=0
       ·subst h0;simp[K2,he,hc,aF,hi,r2,hc',dA,aN h3,Ex.aB,Pn.aB,Pn.aA a,a1,aP a2',aM a2',a2]
       ·simp[K2,he,hc,aF,aP h0,aM h0,bT h0,hi,r2,hc',w2,aN h3,Ex.aB,Pn.aB,Pn.aZ,hl1,hl2,zK,Pn.aA a,h0,a1,aP a2',aM a2',a2]
     ·by_cases a2:a.kids=[]
      ·have a1':a.exprs.length≠0:=fun h=>a1 (zW.1 h)
       simp[aP a1',aM a1',a1,a2,Ex.aB,Pn.aB]at hc' r2;by_cases h0:i=0
       ·subst h0;simp[K2,he,hc,aF,hi,r2,hc',dA,aN h3,Ex.aB,Pn.aB,Pn.aA a,aP a1',aM a1',a1,a2]
       ·simp[K2,he,hc,aF,aP h0,aM h0,bT h0,hi,r2,hc',w2,aN h3,Ex.aB,Pn.aB,Pn.aZ,hl1,hl2,zK,Pn.aA a,h0,aP a1',aM a1',a1,a2]
      ·have a1':a.exprs.length≠0:=fun h=>a1 (zW.1 h)
       have a2':a.kids.length≠0:=fun h=>a2 (zW.1 h)
       simp[aP a1',aM a1',a1,aP a2',aM a2',a2,Ex.aB,Pn.aB]at hc' r2;by_cases h0:i=0
       ·subst h0;simp[K2,he,hc,aF,hi,r2,hc',dA,aN h3,Ex.aB,Pn.aB,Pn.aA a,aP a1',aM a1',a1,aP a2',aM a2',a2]
       ·simp[K2,he,hc,aF,aP h0,aM h0,bT h0,hi,r2,hc',w2,aN h3,Ex.aB,Pn.aB,Pn.aZ,hl1,hl2,zK,Pn.aA a,h0,aP a1',aM a1',a1,aP a2',aM a2',a2]
   | succ n =>
    have he:p.exprs.take (n+1)=p.exprs:=zY (by omega);simp[KX,hn,he,hc,aF];rw[aS (K2 p) p.kids.length (by simp[K2,hn,hc,aF,Ex.aB])]
    ·rw[aG]
     cases hm:p.kids.length with
     | zero =>
      have hk:p.kids=[]:=zW.1 hm;simp[K2,hn,hc,aF,hk,Ex.aB,Pn.aB,pcX,pcS]
     | succ m =>
      have hk:p.kids.take (m+1)=p.kids:=zY (by omega);simp[K2,hn,hc,aF,hm,hk,Ex.aB,pcX,pcS]
    ·intro i hi;have h3:=zX hi;have hc':=ih _ (zU h3);have r2:=Pn.aO h3;generalize p.kids[i]=a at h3 hc' r2;have w2:IntKind.i64.wrap ((i:Int)+1)=i+1:=wrO;rw[Pn.aA]at r2 hc';simp only[pcX,pcS]at hc';have hl1:(i+1)*88≤140737488355328:=by omega
     have hl2:min i p.kids.length=i:=by omega
     by_cases a1:a.exprs=[]
     ·by_cases a2:a.kids=[]
      ·simp[a1,a2,Ex.aB,Pn.aB]at hc' r2;by_cases h0:i=0
       ·subst h0;simp[K2,hn,hc,aF,hi,r2,hc',dA,aN h3,Ex.aB,Pn.aB,Pn.aA a,a1,a2]
       ·simp[K2,hn,hc,aF,aP h0,aM h0,bT h0,hi,r2,hc',w2,aN h3,Ex.aB,Pn.aB,Pn.aZ,hl1,hl2,zK,Pn.aA a,h0,a1,a2]
      ·have a2':a.kids.length≠0:=fun h=>a2 (zW.1 h)
       simp[a1,aP a2',aM a2',a2,Ex.aB,Pn.aB]at hc' r2;by_cases h0:i=0
       ·subst h0;simp[K2,hn,hc,aF,hi,r2,hc',dA,aN h3,Ex.aB,Pn.aB,Pn.aA a,a1,aP a2',aM a2',a2]
       ·simp[K2,hn,hc,aF,aP h0,aM h0,bT h0,hi,r2,hc',w2,aN h3,Ex.aB,Pn.aB,Pn.aZ,hl1,hl2,zK,Pn.aA a,h0,a1,aP a2',aM a2',a2]
     ·by_cases a2:a.kids=[]
      ·have a1':a.exprs.length≠0:=fun h=>a1 (zW.1 h)
       simp[aP a1',aM a1',a1,a2,Ex.aB,Pn.aB]at hc' r2;by_cases h0:i=0
       ·subst h0;simp[K2,hn,hc,aF,hi,r2,hc',dA,aN h3,Ex.aB,Pn.aB,Pn.aA a,aP a1',aM a1',a1,a2]
       ·simp[K2,hn,hc,aF,aP h0,aM h0,bT h0,hi,r2,hc',w2,aN h3,Ex.aB,Pn.aB,Pn.aZ,hl1,hl2,zK,Pn.aA a,h0,aP a1',aM a1',a1,a2]
      ·have a1':a.exprs.length≠0:=fun h=>a1 (zW.1 h)
       have a2':a.kids.length≠0:=fun h=>a2 (zW.1 h)
       simp[aP a1',aM a1',a1,aP a2',aM a2',a2,Ex.aB,Pn.aB]at hc' r2;by_cases h0:i=0
       ·subst h0;simp[K2,hn,hc,aF,hi,r2,hc',dA,aN h3,Ex.aB,Pn.aB,Pn.aA a,aP a1',aM a1',a1,aP a2',aM a2',a2]
       ·simp[K2,hn,hc,aF,aP h0,aM h0,bT h0,hi,r2,hc',w2,aN h3,Ex.aB,Pn.aB,Pn.aZ,hl1,hl2,zK,Pn.aA a,h0,aP a1',aM a1',a1,aP a2',aM a2',a2]
  ·intro i hi;have h3:=zX hi;have hc':=BM _ (t2 _ (zU h3));have r2:=Ex.aO h3;generalize p.exprs[i]=a at h3 hc' r2;have w2:IntKind.i64.wrap ((i:Int)+1)=i+1:=wrO;rw[Ex.aA]at r2 hc';by_cases h0:i=0
   ·subst h0;simp[KX,hc,aF,hi,r2,hc',dA,aN h3,Ex.aB,Ex.aA a]
   ·simp[KX,hc,aF,aP h0,aM h0,bT h0,hi,r2,hc',w2,aN h3,Ex.aZ,show min i p.exprs.length=i by omega,show(i+1)*56≤140737488355328 by omega,zK,Ex.aA a,h0]
 simp[hc,show p.cols.length*8≤140737488355328 by omega];rw[aS (KX p) p.exprs.length (by simp[KX,hc])]
 ·rw[aG]
  cases hn:p.exprs.length with
  | zero =>
   have he:p.exprs=[]:=zW.1 hn;simp[KX,he,hc,Ex.aB];rw[aS (K2 p) p.kids.length (by simp[K2,he,hc,Ex.aB])]
   ·rw[aG]
    cases hm:p.kids.length with
    | zero =>
     have hk:p.kids=[]:=zW.1 hm;simp[K2,he,hc,hk,Ex.aB,Pn.aB,pcX,pcS]
    | succ m =>
     have hk:p.kids.take (m+1)=p.kids:=zY (by omega);simp[K2,he,hc,hm,hk,Ex.aB,pcX,pcS]
   ·intro i hi;have h3:=zX hi;have hc':=ih _ (zU h3);have r2:=Pn.aO h3;generalize p.kids[i]=a at h3 hc' r2;have w2:IntKind.i64.wrap ((i:Int)+1)=i+1:=wrO;rw[Pn.aA]at r2 hc';simp only[pcX,pcS]at hc';have hl1:(i+1)*88≤140737488355328:=by omega
    have hl2:min i p.kids.length=i:=by omega
    by_cases a1:a.exprs=[]
    ·by_cases a2:a.kids=[]
     ·simp[a1,a2,Ex.aB,Pn.aB]at hc' r2;by_cases h0:i=0
      ·subst h0;simp[K2,he,hc,hi,r2,hc',dA,aN h3,Ex.aB,Pn.aB,Pn.aA a,a1,a2]
      ·simp[K2,he,hc,aP h0,aM h0,bT h0,hi,r2,hc',w2,aN h3,Ex.aB,Pn.aB,Pn.aZ,hl1,hl2,zK,Pn.aA a,h0,a1,a2]
     ·have a2':a.kids.length≠0:=fun h=>a2 (zW.1 h)
      simp[a1,aP a2',aM a2',a2,Ex.aB,Pn.aB]at hc' r2;by_cases h0:i=0
      ·subst h0;simp[K2,he,hc,hi,r2,hc',dA,aN h3,Ex.aB,Pn.aB,Pn.aA a,a1,aP a2',aM a2',a2]
      ·simp[K2,he,hc,aP h0,aM h0,bT h0,hi,r2,hc',w2,aN h3,Ex.aB,Pn.aB,Pn.aZ,hl1,hl2,zK,Pn.aA a,h0,a1,aP a2',aM a2',a2]
    ·by_cases a2:a.kids=[]
     ·have a1':a.exprs.length≠0:=fun h=>a1 (zW.1 h)
      simp[aP a1',aM a1',a1,a2,Ex.aB,Pn.aB]at hc' r2;by_cases h0:i=0
      ·subst h0;simp[K2,he,hc,hi,r2,hc',dA,aN h3,Ex.aB,Pn.aB,Pn.aA a,aP a1',aM a1',a1,a2]
      ·simp[K2,he,hc,aP h0,aM h0,bT h0,hi,r2,hc',w2,aN h3,Ex.aB,Pn.aB,Pn.aZ,hl1,hl2,zK,Pn.aA a,h0,aP a1',aM a1',a1,a2]
     ·have a1':a.exprs.length≠0:=fun h=>a1 (zW.1 h)
      have a2':a.kids.length≠0:=fun h=>a2 (zW.1 h)
      simp[aP a1',aM a1',a1,aP a2',aM a2',a2,Ex.aB,Pn.aB]at hc' r2;by_cases h0:i=0
      ·subst h0;simp[K2,he,hc,hi,r2,hc',dA,aN h3,Ex.aB,Pn.aB,Pn.aA a,aP a1',aM a1',a1,aP a2',aM a2',a2]
      ·simp[K2,he,hc,aP h0,aM h0,bT h0,hi,r2,hc',w2,aN h3,Ex.aB,Pn.aB,Pn.aZ,hl1,hl2,zK,Pn.aA a,h0,aP a1',aM a1',a1,aP a2',aM a2',a2]
  | succ n =>
   have he:p.exprs.take (n+1)=p.exprs:=zY (by omega);simp[KX,hn,he,hc];rw[aS (K2 p) p.kids.length (by simp[K2,hn,hc,Ex.aB])]
   ·rw[aG]
    cases hm:p.kids.length with
    | zero =>
     have hk:p.kids=[]:=zW.1 hm;simp[K2,hn,hc,hk,Ex.aB,Pn.aB,pcX,pcS]
    | succ m =>
     have hk:p.kids.take (m+1)=p.kids:=zY (by omega);simp[K2,hn,hc,hm,hk,Ex.aB,pcX,pcS]
   ·intro i hi;have h3:=zX hi;have hc':=ih _ (zU h3);have r2:=Pn.aO h3;generalize p.kids[i]=a at h3 hc' r2;have w2:IntKind.i64.wrap ((i:Int)+1)=i+1:=wrO;rw[Pn.aA]at r2 hc';simp only[pcX,pcS]at hc';have hl1:(i+1)*88≤140737488355328:=by omega
    have hl2:min i p.kids.length=i:=by omega
    by_cases a1:a.exprs=[]
    ·by_cases a2:a.kids=[]
     ·simp[a1,a2,Ex.aB,Pn.aB]at hc' r2;by_cases h0:i=0
      ·subst h0;simp[K2,hn,hc,hi,r2,hc',dA,aN h3,Ex.aB,Pn.aB,Pn.aA a,a1,a2]
      ·simp[K2,hn,hc,aP h0,aM h0,bT h0,hi,r2,hc',w2,aN h3,Ex.aB,Pn.aB,Pn.aZ,hl1,hl2,zK,Pn.aA a,h0,a1,a2]
     ·have a2':a.kids.length≠0:=fun h=>a2 (zW.1 h)
      simp[a1,aP a2',aM a2',a2,Ex.aB,Pn.aB]at hc' r2;by_cases h0:i=0
      ·subst h0;simp[K2,hn,hc,hi,r2,hc',dA,aN h3,Ex.aB,Pn.aB,Pn.aA a,a1,aP a2',aM a2',a2]
      ·simp[K2,hn,hc,aP h0,aM h0,bT h0,hi,r2,hc',w2,aN h3,Ex.aB,Pn.aB,Pn.aZ,hl1,hl2,zK,Pn.aA a,h0,a1,aP a2',aM a2',a2]
    ·by_cases a2:a.kids=[]
     ·have a1':a.exprs.length≠0:=fun h=>a1 (zW.1 h)
      simp[aP a1',aM a1',a1,a2,Ex.aB,Pn.aB]at hc' r2;by_cases h0:i=0
      ·subst h0;simp[K2,hn,hc,hi,r2,hc',dA,aN h3,Ex.aB,Pn.aB,Pn.aA a,aP a1',aM a1',a1,a2]
      ·simp[K2,hn,hc,aP h0,aM h0,bT h0,hi,r2,hc',w2,aN h3,Ex.aB,Pn.aB,Pn.aZ,hl1,hl2,zK,Pn.aA a,h0,aP a1',aM a1',a1,a2]
     ·have a1':a.exprs.length≠0:=fun h=>a1 (zW.1 h)
      have a2':a.kids.length≠0:=fun h=>a2 (zW.1 h)
      simp[aP a1',aM a1',a1,aP a2',aM a2',a2,Ex.aB,Pn.aB]at hc' r2;by_cases h0:i=0
      ·subst h0;simp[K2,hn,hc,hi,r2,hc',dA,aN h3,Ex.aB,Pn.aB,Pn.aA a,aP a1',aM a1',a1,aP a2',aM a2',a2]
      ·simp[K2,hn,hc,aP h0,aM h0,bT h0,hi,r2,hc',w2,aN h3,Ex.aB,Pn.aB,Pn.aZ,hl1,hl2,zK,Pn.aA a,h0,aP a1',aM a1',a1,aP a2',aM a2',a2]
 ·intro i hi;have h3:=zX hi;have hc':=BM _ (t2 _ (zU h3));have r2:=Ex.aO h3;generalize p.exprs[i]=a at h3 hc' r2;have w2:IntKind.i64.wrap ((i:Int)+1)=i+1:=wrO;rw[Ex.aA]at r2 hc';by_cases h0:i=0
  ·subst h0;simp[KX,hc,hi,r2,hc',dA,aN h3,Ex.aB,Ex.aA a]
  ·simp[KX,hc,aP h0,aM h0,bT h0,hi,r2,hc',w2,aN h3,Ex.aZ,show min i p.exprs.length=i by omega,show(i+1)*56≤140737488355328 by omega,zK,Ex.aA a,h0]
theorem BL:∀ (p:Pn),p.thin→aH C0 23 [.i (.agg p.cells)] []=some (pcX p,pcS p):=by
 intro p
 induction p using Pn.ind with
 | h k t es cs ks ih =>
  intro ht;exact RO ht fun a ha=>ih a ha (((Pn.bM _).1 ht).2.2.2.2 a ha)
def vB (x:Bool) (v:Pn):Option Blk:=if x=true then some (.fbox v.cells)else some (.box (lF v.cells))
theorem II:aH C0 60 [.i (.isl [])] []=some (.nils,[]):=by
 rw[aD rfl Tryz.func60 rfl rfl];simp
theorem MJ {l:List Int} (h:l≠[]) (hl:l.length<1000000000):aH C0 60 [.i (.isl (aF l))] []=some (.osl 0 1 0 l.length,[some (.arr 1 (aF l))]):=by
 rw[aD rfl Tryz.func60 rfl rfl];have h1:8*(l.length:Int)≤281474976710656:=by omega
 simp[h,h1];unfold over;simp
theorem AHH {a:Nat} (ha:a<64):a % 2 ^ IntKind.i64.bits=a:=by
 show a % 18446744073709551616=a;exact Nat.mod_eq_of_lt (by omega)
theorem AS2 {a:Nat} (ha:a<64):(a:Int) % 2 ^ IntKind.i64.bits=a:=by
 show(a:Int) % 18446744073709551616=a;omega
theorem ALZ {a b:Nat} (ha:a<64) (hb:b<64):IntKind.i64.wrap ((a ||| b:Nat):Int)=((a ||| b:Nat):Int):=by
 have h3:a ||| b<2 ^ 6:=zB2 (by omega) (by omega)
 exact wrO
theorem AKM {a:Nat} (ha:a<64):IntKind.i64.wrap (a:Int)=a:=wrO
def KBX (e:Ex) (i:Nat):AS :=
 { env:=[(0, .i (.iref [.int e.kind, .int e.col, .bool e.val.null, .int e.val.n, .isl (Ex.aB e.kids)])),(2, .int 0),(3, .int (Ex.sJ (e.kids.take i):Nat)),(4,jk i (.int (i-1))),(9, .bool false),(19, .int e.kids.length),(20, .int i),(21,jk i (.bool true))],st:=[] }
theorem PM:∀ e:Ex,e.size<1000000000→e.wL (fun c=>decide (0≤c∧c<6))=true→aH C0 113 [.i (.iref e.cells)] []=some (.int (e.bits:Nat),[]):=by
 intro e
 induction e using Ex.ind with
 | h k c v ks ih =>
  intro hs ha;generalize he:Ex.mk k c v ks=e at *
  have hk1:k=e.kind:=by rw[← he];rfl
  have hks:ks=e.kids:=by rw[← he];rfl
  subst hks;have hsz:=Ex.size_eq e;have hln:=Ex.bN e.kids;rw[aD rfl Tryz.func113 rfl rfl,Ex.aA];rw[Ex.mU]at ha;by_cases h1:e.kind=1
  ·simp only[h1,if_true]at ha;have ha:=zR ha;rw[Ex.SF h1];have hc:e.col=0∨e.col=1∨e.col=2∨e.col=3∨e.col=4∨e.col=5:=by omega
   rcases hc with hc|hc|hc|hc|hc|hc<;>(simp[h1,hc];decide)
  ·simp only[h1,if_false,zQ]at ha;rw[Ex.SC h1];simp[h1];rw[aS (KBX e) e.kids.length (by simp[KBX,Ex.sJ,h1])]
   ·rw[aG];simp[KBX]
   ·intro i hi;have h3:=zX hi;have hm:=zU h3;have r2:=Ex.aO h3;have htk:=aN h3;generalize e.kids[i]=a at h3 hm r2 htk;have hk:=ih a hm (by have:=Ex.jE hm;omega) (ha a hm);have w2:IntKind.i64.wrap ((i:Int)+1)=i+1:=wrO;have hb:a.bits<2 ^ 6:=Ex.SE a (ha a hm);have hbl:Ex.sJ (e.kids.take i)<2 ^ 6:=Ex.SG fun x hx=>Ex.SE x (ha x (yY hx))
    have hor:=ALZ (a:=Ex.sJ (e.kids.take i)) (b:=a.bits) (by omega) (by omega);rw[Ex.aA a]at r2 hk;by_cases h0:i=0
    ·subst h0;simp[KBX,hi,r2,hk,dA,htk,Ex.GA,Ex.sJ,AS2 (show a.bits<64 by omega),AKM (show a.bits<64 by omega)]
    ·simp[KBX,bT h0,hi,r2,hk,w2,htk,Ex.GA,hor,AHH (show a.bits<64 by omega),AHH (show Ex.sJ (e.kids.take i)<64 by omega)]
def ANX (l:List Int) (n:Int) (i:Nat):AS :=
 { env:=[(0, .i (.isl (aF l))),(1, .int n),(4, .nils),(5, .int i),(6, .junk),(18,jk i (.bool true)),(32, .junk)],st:=[] }
theorem WT (l:List Int) (n:Int) (hl:l.length<1000000):aH C0 136 [.i (.isl (aF l)), .int n] []=some (.i (.isl (aF (YF l n))),[]):=by
 rw[aD rfl Tryz.func136 rfl rfl]
 have hlt:∀ i,i<l.findIdx (fun x=>!decide (x<n))→∃ x,l[i]?=some x∧x<n:=by
  intro i hi;have hle:=zD9 (xs:=l) (p:=fun x=>!decide (x<n));have:=List.not_of_lt_findIdx hi;exact⟨l[i]'(by omega),zX (by omega),by simpa using this⟩
 have hat:∀ x,l[l.findIdx fun x=>!decide (x<n)]?=some x→¬ x<n:=by
  intro x hx;obtain⟨h1,rfl⟩:=zZ.1 hx;have:=List.findIdx_getElem (w:=h1);simpa using this
 have hle:=zD9 (xs:=l) (p:=fun x=>!decide (x<n));unfold YF;generalize l.findIdx (fun x=>!decide (x<n))=j at *
 simp;rw[aS (ANX l n) j (by simp[ANX])]
 ·rw[aG]
  cases hj:l[j]? with
  | none =>
   have hjl:j=l.length:=by have:=zB7.1 hj;omega
   subst hjl;have hb:((l.length:Int)+1)*8≤140737488355328:=by omega
   have hb1:(l.length+1)*8≤140737488355328:=by omega
   have hb2:l.length*8≤140737488355328:=by omega
   have ht:List.take (l.length+1) (aF l++[[IV.lit (Value.int IntKind.i64 n)]])=aF l++[[IV.lit (Value.int IntKind.i64 n)]]:=zY (by simp);simp[ANX,hb1,hb2,dX,aF,ht]
  | some x =>
   have hx:=hat x hj;have hjl:=(zZ.1 hj).1;have r2:=aX hj;by_cases hxn:x=n
   ·subst hxn;simp[ANX,hjl,r2]
   ·have hb1:(j+1)*8≤140737488355328:=by omega
    have hb2:j*8≤140737488355328:=by omega
    have hb3:(j+1+(l.length-j))*8≤140737488355328:=by omega
    have t1:(l.take j).length=j:=by simp;omega
    have t2:(aF (l.take j)++[[IV.lit (Value.int IntKind.i64 n)]]).take (j+1)=aF (l.take j)++[[IV.lit (Value.int IntKind.i64 n)]]:=zY (by simp;omega);have t3:(l.drop j).take (l.length-j)=l.drop j:=zY (by simp);have t4:(aF (l.take j)++[[IV.lit (Value.int IntKind.i64 n)]]++aF (l.drop j)).take (j+1+(l.length-j))=aF (l.take j)++[[IV.lit (Value.int IntKind.i64 n)]]++aF (l.drop j):=zY (by simp;omega);have t5:(l.take j).take j=l.take j:=zY (by omega);simp[ANX,hjl,hle,r2,hx,hxn,hb1,hb2,hb3,dX,aF];rw[t5,t2,t3,t4];simp
 ·intro i hi;obtain⟨x,h3,hx⟩:=hlt i hi;have r2:=aX h3;have hil:=(zZ.1 h3).1;have w2:IntKind.i64.wrap ((i:Int)+1)=i+1:=wrO;simp[ANX,hil,r2,hx,w2]
set_option maxHeartbeats 4000000
@[simp] theorem wr0:IntKind.i64.wrap 0=0:=by decide
@[simp] theorem wr1:IntKind.i64.wrap 1=1:=by decide
@[simp] theorem wr2:IntKind.i64.wrap 2=2:=by decide
@[simp] theorem wr3:IntKind.i64.wrap 3=3:=by decide
@[simp] theorem wr4:IntKind.i64.wrap 4=4:=by decide
@[simp] theorem wr7:IntKind.i64.wrap 7=7:=by decide
@[simp] theorem AkN:(2:Nat) ^ IntKind.i64.bits=18446744073709551616:=rfl
@[simp] theorem AkO:(2:Int) ^ IntKind.i64.bits=18446744073709551616:=rfl
def ACX (e:Ex) (l:List Int) (i:Nat):AS :=
 { env:=[(0, .i (.isl (aF (nM l (e.kids.take i))))),(1, .i (.agg [.int e.kind, .int e.col, .bool e.val.null, .int e.val.n, .isl (Ex.aB e.kids)])),(3, .own 0 0),(4, .nils),(5, .int i),(8, .bool (e.kind == 1)),(17,jk i (.bool true))],
   st:=[some (.box [.int e.kind, .int e.col, .bool e.val.null, .int e.val.n, .i (.isl (Ex.aB e.kids))])] }
theorem SI:∀ e:Ex,∀ l:List Int,l.length+e.size<1000000→aH C0 121 [.i (.isl (aF l)), .i (.agg e.cells)] []=some (.i (.isl (aF (SK l e))),[]):=by
 intro e
 induction e using Ex.ind with
 | h k c v ks ih =>
  intro l hs;generalize he:Ex.mk k c v ks=e at *
  have hks:ks=e.kids:=by rw[← he];rfl
  subst hks;have hsz:=Ex.size_eq e;have hln:=Ex.bN e.kids
  have hrd:∀ l':List Int,l'.length≤l.length+1→∀ i,i<e.kids.length→∃ a,e.kids[i]?=some a∧e.kids.take (i+1)=e.kids.take i++[a]∧fT (Ex.aB e.kids) i=some a.cells∧aH C0 121 [.i (.isl (aF (nM l' (e.kids.take i)))), .i (.agg a.cells)] []=some (.i (.isl (aF (SK (nM l' (e.kids.take i)) a))),[]):=by
   intro l' hl' i hi;have h3:=zX hi;have hm:=zU h3;have htk:=aN h3;refine⟨e.kids[i],h3,htk,Ex.aO h3,ih _ hm _ ?_⟩
   have hadd:∀ (xs:List Ex) (l:List Int),(nM l xs).length≤l.length+Ex.aL xs:=by
    intro xs
    induction xs with
    | nil=>intro l;simp[nM]
    | cons a xs ihx=>intro l;have h1:=ihx (SK l a);have h2:=WU a l;simp only[nM,Ex.aL];omega
   have h1:=hadd (e.kids.take i) l'
   have hsum:∀ (xs ys:List Ex),Ex.aL (xs++ys)=Ex.aL xs+Ex.aL ys:=by
    intro xs
    induction xs with
    | nil=>intro ys;simp[Ex.aL]
    | cons a xs ihx=>intro ys;simp[Ex.aL,ihx,yC]
   have h2:=hsum (e.kids.take (i+1)) (e.kids.drop (i+1));rw[xV,htk,hsum]at h2;simp only[Ex.aL]at h2;omega
  rw[aD rfl Tryz.func121 rfl rfl,Ex.aA,ZO];by_cases h1:e.kind=1
  ·have hn:=WT l e.col (by omega)
   have hil:(YF l e.col).length≤l.length+1:=by
    unfold YF;split
    ·omega
    ·simp only[zL,xY,zP,zA2];omega
   simp[h1,hn];rw[aS (ACX e (YF l e.col)) e.kids.length (by simp[ACX,nM,h1])]
   ·rw[aG];simp[ACX]
   ·intro i hi;obtain⟨a,h3,htk,r2,hk⟩:=hrd _ hil i hi;have w2:IntKind.i64.wrap ((i:Int)+1)=i+1:=wrO;rw[Ex.aA a]at r2 hk;simp[ACX,hi,r2,hk,w2,htk,GI]
  ·simp[h1];rw[aS (ACX e l) e.kids.length (by simp[ACX,nM,h1])]
   ·rw[aG];simp[ACX]
   ·intro i hi;obtain⟨a,h3,htk,r2,hk⟩:=hrd l (by omega) i hi;have w2:IntKind.i64.wrap ((i:Int)+1)=i+1:=wrO;rw[Ex.aA a]at r2 hk;simp[ACX,hi,r2,hk,w2,htk,GI]
theorem TJ (e:Ex) {m:Int} (hw:e.wf m=true) (hs:e.size<100000) (lo hi:Int) (hh:-100≤hi∧hi≤100):aH C0 101 [.i (.agg e.cells), .int lo, .int (hi-1)] []=some (.bool (e.cin lo hi),[]):=by
 have ha:=SI e [] (by simp;omega);have hc:=ANH hw lo hi;have hsz:=WU e [];rw[aD rfl Tryz.func101 rfl rfl];generalize SK [] e=l at *
 rw[Ex.aA]at *
 simp only[aF]at ha
 cases hl:l with
 | nil =>
  have:e.cin lo hi=true:=hc.1 (.inl hl);rw[hl]at ha;simp[ha,this,aF]
 | cons a r =>
  have h0:l[0]?=some a:=by rw[hl];rfl
  have hlen:0<l.length:=by rw[hl];simp
  have hk:l.length-1<l.length:=by omega
  have h2:=zX hk;generalize l[l.length-1]=b at h2;have r0:=aX h0;have r2:=aX h2;have w1:IntKind.i64.wrap ((l.length:Int)-1)=((l.length-1:Nat):Int):=by rw[wrap64 (by simp at hsz;omega) (by simp at hsz;omega)];omega
  have hne:¬ l=[]:=by rw[hl];simp
  have hiff:e.cin lo hi=(decide (lo≤a) && decide (b≤hi-1)):=by
   rw[zC9,← hc];simp only[zT,zM];constructor
   ·rintro(h|⟨⟨x,hx,h3⟩,y,hy,h4⟩)
    ·exact absurd h hne
    ·rw[h0]at hx;rw[h2]at hy;injection hx with hx;injection hy with hy;subst hx;subst hy;exact⟨h3,h4⟩
   ·rintro⟨h3,h4⟩;exact .inr ⟨⟨a,h0,h3⟩,b,h2,h4⟩
  rw[hiff];by_cases q:lo≤a
  ·have q2:a ≥ lo:=q;simp[ha,hne,r0,r2,w1,hlen,hk,q]
  ·simp[ha,hne,r0,hlen,q]
theorem mE (b:Bool) (n:Int):aH C0 141 [.i (.agg [.bool b, .int n])] []=some (.int (stV ⟨b,n⟩),[]):=by
 rw[aD rfl Tryz.func141 rfl rfl]
 cases b
 ·by_cases h:n=0<;>simp[stV,h]
 ·simp[stV]
theorem U4 (b:Bool) (n:Int):aH C0 137 [.i (.agg [.bool b, .int n])] []=some (.int (stV ⟨b,n⟩),[]):=by
 rw[aD rfl Tryz.func137 rfl rfl]
 cases b
 ·by_cases h:n=0<;>simp[stV,h]
 ·simp[stV]
theorem AC8 (x:Int):aH C0 144 [.int x] []=some (.i (.agg [.bool (decide (x=4)), .int (if x=2 then 1 else 0)]),[]):=by
 rw[aD rfl Tryz.func144 rfl rfl];by_cases h:x=4
 ·subst h;simp
 ·by_cases h2:x=2
  ·subst h2;simp
  ·simp[h,h2]
theorem eight {a:Int} (h:0≤a∧a≤7):a=0∨a=1∨a=2∨a=3∨a=4∨a=5∨a=6∨a=7:=by omega
theorem MB {a:Int} (h:0≤a∧a≤7):aH C0 147 [.int a] []=some (.i (.isl (wF (exS a))),[]):=by
 rw[aD rfl Tryz.func147 rfl rfl];have s0:=mE false 0;have s1:=mE false 1;have s2:=mE true 0;simp only[stV,yK,if_false,if_true,Int.reduceEq]at s0 s1 s2
 rcases eight h with rfl|rfl|rfl|rfl|rfl|rfl|rfl|rfl
 all_goals
  simp;rw[aG];simp[s0,s1,s2];rw[aG];simp[s0,s1,s2];rw[aG];simp[s0,s1,s2];rw[aG];simp[exS,jU,wF]
theorem aU (e:Ex) (k:Pn):(filt e k).cells=[.int 2, .int 0, .isl [e.cells], .isl [], .isl [k.cells]]:=by simp[filt,Pn.cells,Ex.aB,aF,Pn.aB]
theorem jR (es:List Ex) (k:Pn):(proj es k).cells=[.int 3, .int 0, .isl (Ex.aB es), .isl [], .isl [k.cells]]:=by simp[proj,Pn.cells,aF,Pn.aB]
theorem pair_cells (kd:Int) (e:Ex) (a b:Pn):(bB kd e a b).cells=[.int kd, .int 0, .isl [e.cells], .isl [], .isl [a.cells,b.cells]]:=by simp[bB,Pn.cells,Ex.aB,aF,Pn.aB]
theorem JV (a b:Pn):(bX a b).cells=[.int 6, .int 0, .isl [], .isl [], .isl [a.cells,b.cells]]:=by simp[bX,Pn.cells,Ex.aB,aF,Pn.aB]
theorem qL (a b:Ex):(ABW a b).cells=[.int 8, .int 0, .bool false, .int 0, .isl [a.cells,b.cells]]:=by simp[ABW,Ex.cells,Ex.aB,Val.zero]
theorem lL (c:Int):(ABM c).cells=[.int 1, .int c, .bool false, .int 0, .isl []]:=by simp[ABM,Ex.cells,Ex.aB,Val.zero]
theorem aV:Pn.zero.cells=[.int 0, .int 0, .isl [], .isl [], .isl []]:=by simp[Pn.zero,Pn.cells,Ex.aB,aF,Pn.aB]
theorem eT (e:Ex) (k:Pn):aH C0 111 [.i (.agg e.cells), .i (.agg k.cells)] []=some (.i (.agg (filt e k).cells),[]):=by
 rw[aD rfl Tryz.func111 rfl rfl,aU,Ex.aA,Pn.aA];simp
theorem nV (kd:Int) (e:Ex) (a b:Pn):aH C0 114 [.int kd, .i (.agg e.cells), .i (.agg a.cells), .i (.agg b.cells)] []=some (.i (.agg (bB kd e a b).cells),[]):=by
 rw[aD rfl Tryz.func114 rfl rfl,pair_cells,Ex.aA,Pn.aA a,Pn.aA b];simp
theorem AJA (a b:Ex):aH C0 112 [.i (.agg a.cells), .i (.agg b.cells)] []=some (.i (.agg (ABW a b).cells),[]):=by
 rw[aD rfl Tryz.func112 rfl rfl,qL,Ex.aA a,Ex.aA b];simp
theorem FV (c:Int):aH C0 118 [.int c] []=some (.i (.agg (ABM c).cells),[]):=by
 rw[aD rfl Tryz.func118 rfl rfl,lL];simp
theorem fK {p:Pn} {kd:Int} (h:p.kind≠2):aH C0 110 [.i (.iref p.cells), .int kd] []=some (.tup [.i (.lit (.pointer none)), .i (.lit (.pointer none)), .bool false],[]):=by
 rw[aD rfl Tryz.func110 rfl rfl,Pn.aA];simp[h]
theorem dU {e:Ex} {k:Pn} {kd:Int} (h:k.kind≠kd):aH C0 110 [.i (.iref (filt e k).cells), .int kd] []=some (.tup [.i (.lit (.pointer none)), .i (.lit (.pointer none)), .bool false],[]):=by
 rw[aD rfl Tryz.func110 rfl rfl,aU,Pn.aA k];simp[h]
theorem fQ {e:Ex} {k:Pn} {kd:Int} (h:k.kind=kd):aH C0 110 [.i (.iref (filt e k).cells), .int kd] []=some (.tup [.i (.iref e.cells), .i (.iref k.cells), .bool true],[]):=by
 rw[aD rfl Tryz.func110 rfl rfl,aU,Pn.aA k,Ex.aA e];simp[h]
theorem Y2 (c w:Int) (h0:0≤c∧c≤6) (hw:0≤w∧w≤6):aH C0 116 [.int c, .own 0 0] [some (.box [.int w])]=some (.int (c-w),[some (.box [.int w])]):=by
 rw[aD rfl Tryz.func116 rfl rfl];have w1:IntKind.i64.wrap (c-w)=c-w:=wrO;simp[w1]
theorem OI (c a b:Int) (h0:0≤c∧c≤12) (ha:0≤a∧a≤6) (hb:0≤b∧b≤6):aH C0 117 [.int c, .own 0 0, .own 1 0] [some (.box [.int a]),some (.box [.int b])]=some (.int (rC a b c),[some (.box [.int a]),some (.box [.int b])]):=by
 rw[aD rfl Tryz.func117 rfl rfl];have w1:IntKind.i64.wrap (c-a)=c-a:=wrO;have w2:IntKind.i64.wrap (c+b)=c+b:=wrO;unfold rC;by_cases h:c<a
 ·simp[h,w2]
 ·simp[h,w1]
def zrw:List IV:=[.int 0, .int 0, .bool false, .int 0, .isl []]
@[simp] theorem AIZ {e:Ex} (h:e.size<1000000000):aH C0 59 [.i (.iref e.cells)] []=some (.i (.agg e.cells),[]):=by
  rw[aT (p:=Z6) rfl];exact ABH h
theorem AGS {e:Ex} {w:Int} (hw:0≤w∧w≤6) (hk:e.kind=1) (hc:0≤e.col∧e.col<6) :
 aH C0 131 [.i (.iref e.cells), .own 0 0] [some (.box [.fn (.func 116) [.own 1 0]]),some (.box [.int w])]=some (.i (.agg (ABM (e.col-w)).cells),[some (.box [.fn (.func 116) [.own 1 0]]),some (.box [.int w])]):=by
 have hp:=Y2 e.col w (by omega) hw;have h2:=FV (e.col-w);rw[aD rfl Tryz.func131 rfl rfl,Ex.aA e];rw[lL]at *
 simp[hk,hp,h2]
theorem AGQ {e:Ex} {w:Int} (hk:e.kind≠1) (hs:e.size<1000000000) :
 aH C0 131 [.i (.iref e.cells), .own 0 0] [some (.box [.fn (.func 116) [.own 1 0]]),some (.box [.int w])]=some (.i (.agg e.cells),[some (.box [.fn (.func 116) [.own 1 0]]),some (.box [.int w])]):=by
 have hc:=AIZ hs;rw[aD rfl Tryz.func131 rfl rfl];rw[Ex.aA e]at *
 simp[hk,hc]
def RNR (e:Ex) (w:Int) (f:Ex→Ex) (i:Nat):AS :=
 { env:=[(0, .i (.iref [.int e.kind, .int e.col, .bool e.val.null, .int e.val.n, .isl (Ex.aB e.kids)])),(1, .fn (.func 131) [.own 0 0]),(4, .own 2 0),(5, .own 3 0),(6,jk i (.int (i-1))),(12, .bool ((e.kids.length:Int) == 0)),(39, .int e.kids.length),(40, .int i),(41,jk i (.bool true))],
   st:=[some (.box [.fn (.func 116) [.own 1 0]]),some (.box [.int w]),some (.box [.int 0, .int 0, .bool false, .int 0, .nils]),some (.box [.int e.kind, .int e.col, .bool e.val.null, .int e.val.n, .osl 4 5 0 e.kids.length]),some (.arr 5 (Ex.aB ((e.kids.map f).take i)++List.replicate (e.kids.length-i) zrw))] }
theorem Ab2 {e:Ex} {w:Int} {f:Ex→Ex} (hk:e.kids≠[]) (hl:e.kids.length<1000000000) (ih:∀ x∈e.kids,aH C0 130 [.i (.iref x.cells), .fn (.func 131) [.own 0 0]] [some (.box [.fn (.func 116) [.own 1 0]]),some (.box [.int w])]=some (.i (.agg (f x).cells),[some (.box [.fn (.func 116) [.own 1 0]]),some (.box [.int w])])) :
 aH C0 130 [.i (.iref e.cells), .fn (.func 131) [.own 0 0]] [some (.box [.fn (.func 116) [.own 1 0]]),some (.box [.int w])]=some (.i (.agg (Ex.mk e.kind e.col e.val (e.kids.map f)).cells),[some (.box [.fn (.func 116) [.own 1 0]]),some (.box [.int w])]):=by
 rw[aD rfl Tryz.func130 rfl rfl,Ex.aA];have hb:56*(e.kids.length:Int)≤281474976710656:=by omega
 simp[hk,hb];rw[aS (RNR e w f) e.kids.length (by simp[RNR,Ex.aB,zrw])]
 ·rw[aG];have ht:(e.kids.map f).take e.kids.length=e.kids.map f:=zY (by simp);simp[RNR,Ex.cells,ht]
 ·intro i hi;have h3:=zX hi;have hm:=zU h3;have hc:=ih _ hm;have r2:=Ex.aO h3;generalize e.kids[i]=x at h3 hc r2;have w2:IntKind.i64.wrap ((i:Int)+1)=i+1:=wrO;rw[Ex.aA]at hc r2;have hD:(Ex.aB ((e.kids.map f).take i)).length=i:=by simp;omega
  have hS:Ex.aB ((e.kids.map f).take i)++[(f x).cells]=Ex.aB ((e.kids.map f).take (i+1)):=by rw[aN (a:=f x) (by simp[h3]),Ex.aZ]
  have g1:=vY (n:=e.kids.length) (z:=zrw) hD hi;have g2:=vX (n:=e.kids.length) (z:=zrw) (x:=(f x).cells) hD hi;have g3:splice zrw 0 (f x).cells=some (f x).cells:=jP (by simp[zrw]);rw[hS]at g2;simp[RNR,hi,r2,hc,w2,g1,g2,g3]
theorem AWU {e x:Ex} {w:Int} (hk:e.kids=[]) (h:aH C0 131 [.i (.iref e.cells), .own 0 0] [some (.box [.fn (.func 116) [.own 1 0]]),some (.box [.int w])]=some (.i (.agg x.cells),[some (.box [.fn (.func 116) [.own 1 0]]),some (.box [.int w])])) :
 aH C0 130 [.i (.iref e.cells), .fn (.func 131) [.own 0 0]] [some (.box [.fn (.func 116) [.own 1 0]]),some (.box [.int w])]=some (.i (.agg x.cells),[some (.box [.fn (.func 116) [.own 1 0]]),some (.box [.int w])]):=by
 rw[aD rfl Tryz.func130 rfl rfl];rw[Ex.aA e]at h ⊢;rw[Ex.aA x]at h ⊢;simp[hk,Ex.aB]at h ⊢;simp[h]
theorem AGK {w:Int} (hw:0≤w∧w≤6):∀ (e:Ex),e.wf 6=true→e.size<1000000000→aH C0 130 [.i (.iref e.cells), .fn (.func 131) [.own 0 0]] [some (.box [.fn (.func 116) [.own 1 0]]),some (.box [.int w])]=some (.i (.agg (e.AZ (·-w)).cells),[some (.box [.fn (.func 116) [.own 1 0]]),some (.box [.int w])]):=by
 intro e
 induction e using Ex.ind with
 | h k c v ks ih =>
  intro hx6 hs;have hsz:=Ex.size_eq (.mk k c v ks);have hln:=Ex.bN ks;simp only[Ex.kids]at hsz;by_cases h1:k=1
  ·have hc:=Ex.mV hx6 (by simpa [Ex.kind]using h1);rw[Ex.JE _ (by simpa [Ex.kind]using h1)];exact AWU hc.2.2 (AGS hw (by simpa [Ex.kind]using h1) ⟨hc.1,hc.2.1⟩)
  ·rw[Ex.JD _ (by simpa [Ex.kind]using h1)];by_cases hk:ks=[]
   ·subst hk;exact AWU rfl (AGQ (by simpa [Ex.kind]using h1) hs)
   ·exact Ab2 hk (by simp only[Ex.kids];omega) fun x hx=>ih x hx (Ex.gX hx6 hx) (by have:=Ex.jE (l:=ks) hx;omega)
theorem XY {w:Int} (hw:0≤w∧w≤6) (e:Ex) (hx6:e.wf 6=true) (hs:e.size<1000000000):aH C0 115 [.i (.iref e.cells), .fn (.func 116) [.own 0 0]] [some (.box [.int w])]=some (.i (.agg (e.AZ (·-w)).cells),[some (.box [.int w])]):=by
 have h:=AGK hw e hx6 hs;rw[aD rfl Tryz.func115 rfl rfl];generalize e.AZ (·-w)=x at *
 rw[Ex.aA e,Ex.aA x]at *
 simp[h]
theorem AGR {e:Ex} {a b:Int} (ha:0≤a∧a≤6) (hb:0≤b∧b≤6) (hk:e.kind=1) (hc:0≤e.col∧e.col<6) :
 aH C0 131 [.i (.iref e.cells), .own 0 0] [some (.box [.fn (.func 117) [.own 1 0, .own 2 0]]),some (.box [.int a]),some (.box [.int b])]=some (.i (.agg (ABM (rC a b e.col)).cells),[some (.box [.fn (.func 117) [.own 1 0, .own 2 0]]),some (.box [.int a]),some (.box [.int b])]):=by
 have hp:=OI e.col a b (by omega) ha hb;have h2:=FV (rC a b e.col);rw[aD rfl Tryz.func131 rfl rfl,Ex.aA e];rw[lL]at *
 simp[hk,hp,h2]
theorem AGP {e:Ex} {a b:Int} (hk:e.kind≠1) (hs:e.size<1000000000) :
 aH C0 131 [.i (.iref e.cells), .own 0 0] [some (.box [.fn (.func 117) [.own 1 0, .own 2 0]]),some (.box [.int a]),some (.box [.int b])]=some (.i (.agg e.cells),[some (.box [.fn (.func 117) [.own 1 0, .own 2 0]]),some (.box [.int a]),some (.box [.int b])]):=by
 have hc:=AIZ hs;rw[aD rfl Tryz.func131 rfl rfl];rw[Ex.aA e]at *
 simp[hk,hc]
def RNS (e:Ex) (a b:Int) (f:Ex→Ex) (i:Nat):AS :=
 { env:=[(0, .i (.iref [.int e.kind, .int e.col, .bool e.val.null, .int e.val.n, .isl (Ex.aB e.kids)])),(1, .fn (.func 131) [.own 0 0]),(4, .own 3 0),(5, .own 4 0),(6,jk i (.int (i-1))),(12, .bool ((e.kids.length:Int) == 0)),(39, .int e.kids.length),(40, .int i),(41,jk i (.bool true))],
   st:=[some (.box [.fn (.func 117) [.own 1 0, .own 2 0]]),some (.box [.int a]),some (.box [.int b]),some (.box [.int 0, .int 0, .bool false, .int 0, .nils]),some (.box [.int e.kind, .int e.col, .bool e.val.null, .int e.val.n, .osl 5 5 0 e.kids.length]),some (.arr 5 (Ex.aB ((e.kids.map f).take i)++List.replicate (e.kids.length-i) zrw))] }
theorem Ab1 {e:Ex} {a b:Int} {f:Ex→Ex} (hk:e.kids≠[]) (hl:e.kids.length<1000000000) (ih:∀ x∈e.kids,aH C0 130 [.i (.iref x.cells), .fn (.func 131) [.own 0 0]] [some (.box [.fn (.func 117) [.own 1 0, .own 2 0]]),some (.box [.int a]),some (.box [.int b])]=some (.i (.agg (f x).cells),[some (.box [.fn (.func 117) [.own 1 0, .own 2 0]]),some (.box [.int a]),some (.box [.int b])])) :
 aH C0 130 [.i (.iref e.cells), .fn (.func 131) [.own 0 0]] [some (.box [.fn (.func 117) [.own 1 0, .own 2 0]]),some (.box [.int a]),some (.box [.int b])]=some (.i (.agg (Ex.mk e.kind e.col e.val (e.kids.map f)).cells),[some (.box [.fn (.func 117) [.own 1 0, .own 2 0]]),some (.box [.int a]),some (.box [.int b])]):=by
 rw[aD rfl Tryz.func130 rfl rfl,Ex.aA];have hb:56*(e.kids.length:Int)≤281474976710656:=by omega
 simp[hk,hb];rw[aS (RNS e a b f) e.kids.length (by simp[RNS,Ex.aB,zrw])]
 ·rw[aG];have ht:(e.kids.map f).take e.kids.length=e.kids.map f:=zY (by simp);simp[RNS,Ex.cells,ht]
 ·intro i hi;have h3:=zX hi;have hm:=zU h3;have hc:=ih _ hm;have r2:=Ex.aO h3;generalize e.kids[i]=x at h3 hc r2;have w2:IntKind.i64.wrap ((i:Int)+1)=i+1:=wrO;rw[Ex.aA]at hc r2;have hD:(Ex.aB ((e.kids.map f).take i)).length=i:=by simp;omega
  have hS:Ex.aB ((e.kids.map f).take i)++[(f x).cells]=Ex.aB ((e.kids.map f).take (i+1)):=by rw[aN (a:=f x) (by simp[h3]),Ex.aZ]
  have g1:=vY (n:=e.kids.length) (z:=zrw) hD hi;have g2:=vX (n:=e.kids.length) (z:=zrw) (x:=(f x).cells) hD hi;have g3:splice zrw 0 (f x).cells=some (f x).cells:=jP (by simp[zrw]);rw[hS]at g2;simp[RNS,hi,r2,hc,w2,g1,g2,g3]
theorem AWT {e x:Ex} {a b:Int} (hk:e.kids=[]) (h:aH C0 131 [.i (.iref e.cells), .own 0 0] [some (.box [.fn (.func 117) [.own 1 0, .own 2 0]]),some (.box [.int a]),some (.box [.int b])]=some (.i (.agg x.cells),[some (.box [.fn (.func 117) [.own 1 0, .own 2 0]]),some (.box [.int a]),some (.box [.int b])])) :
 aH C0 130 [.i (.iref e.cells), .fn (.func 131) [.own 0 0]] [some (.box [.fn (.func 117) [.own 1 0, .own 2 0]]),some (.box [.int a]),some (.box [.int b])]=some (.i (.agg x.cells),[some (.box [.fn (.func 117) [.own 1 0, .own 2 0]]),some (.box [.int a]),some (.box [.int b])]):=by
 rw[aD rfl Tryz.func130 rfl rfl];rw[Ex.aA e]at h ⊢;rw[Ex.aA x]at h ⊢;simp[hk,Ex.aB]at h ⊢;simp[h]
theorem AGJ {a b:Int} (ha:0≤a∧a≤6) (hb:0≤b∧b≤6):∀ (e:Ex),e.wf 6=true→e.size<1000000000→aH C0 130 [.i (.iref e.cells), .fn (.func 131) [.own 0 0]] [some (.box [.fn (.func 117) [.own 1 0, .own 2 0]]),some (.box [.int a]),some (.box [.int b])]=some (.i (.agg (e.AZ (rC a b)).cells),[some (.box [.fn (.func 117) [.own 1 0, .own 2 0]]),some (.box [.int a]),some (.box [.int b])]):=by
 intro e
 induction e using Ex.ind with
 | h k c v ks ih =>
  intro hx6 hs;have hsz:=Ex.size_eq (.mk k c v ks);have hln:=Ex.bN ks;simp only[Ex.kids]at hsz;by_cases h1:k=1
  ·have hc:=Ex.mV hx6 (by simpa [Ex.kind]using h1);rw[Ex.JE _ (by simpa [Ex.kind]using h1)];exact AWT hc.2.2 (AGR ha hb (by simpa [Ex.kind]using h1) ⟨hc.1,hc.2.1⟩)
  ·rw[Ex.JD _ (by simpa [Ex.kind]using h1)];by_cases hk:ks=[]
   ·subst hk;exact AWT rfl (AGP (by simpa [Ex.kind]using h1) hs)
   ·exact Ab1 hk (by simp only[Ex.kids];omega) fun x hx=>ih x hx (Ex.gX hx6 hx) (by have:=Ex.jE (l:=ks) hx;omega)
theorem XX {a b:Int} (ha:0≤a∧a≤6) (hb:0≤b∧b≤6) (e:Ex) (hx6:e.wf 6=true) (hs:e.size<1000000000):aH C0 115 [.i (.iref e.cells), .fn (.func 117) [.own 0 0, .own 1 0]] [some (.box [.int a]),some (.box [.int b])]=some (.i (.agg (e.AZ (rC a b)).cells),[some (.box [.int a]),some (.box [.int b])]):=by
 have h:=AGJ ha hb e hx6 hs;rw[aD rfl Tryz.func115 rfl rfl];generalize e.AZ (rC a b)=x at *
 rw[Ex.aA e,Ex.aA x]at *
 simp[h]
end Go.Proofs.YtgiepjdnkonkgaaGreat.P

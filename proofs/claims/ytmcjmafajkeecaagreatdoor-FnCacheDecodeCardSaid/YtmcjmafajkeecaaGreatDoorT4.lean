/- Part 4 of what the proof rests on: the executor and what it is worth, and the program's functions as it runs them. No condition. -/
import Derived.Test.YtmcjmafajkeecaaGreatDoorT3
import Derived.Shelf.Strconv.AtoiAll
import Derived.Shelf.Strings.IndexAnyAll
import Derived.Lib.Strings
set_option linter.unusedVariables false
set_option linter.unusedSimpArgs false
namespace Go.Av.V
open Go.Av
section
variable {C:Ctx} {wi:World} {mi:Mem} {nt:Nat}
theorem GG.WG {ok:Nat→Prop} {K:KL} {env:Nat→AV} {st:Store} {a:Act} {w:World} {t:Nat} {v:Value} (h:GG wi mi nt ok K env st a w) (ht:env t=.i (.lit v)):a.tmps.getD t undef=v:=by
 obtain⟨⟨m,φ,hi,henv,_⟩,_⟩:=h;have:=henv t;rw[ht]at this;exact this.lit_eq
theorem GG.region (hS:SoundOk C) {id:Nat} {ops:Array Oper} {os1 os2:List Oper} {o:Oper} {K:KL} {S:AS} {a:Act} {w:World} {u b' o':Nat} {x:Ex} {y:Option (Nat×Nat)} {Q:Exit→Act→World→Prop} {PP:(Nat→AV)→Store→Prop} (hops:ops.toList=os1++(os2++[o])) (hs:∀ o∈ops,jC nt o=true)
 (g:GG wi mi nt (fun id=>id<S.st.length) K (aY S.env) (aT S.st) a w) (hk:((b',o'),(x,y))∈K)
 (h:∃ R1,dJ C (aH C) ops.toList false S.st.length os1 0 { env:=aY S.env,st:=aT S.st,log:=[] }=some R1∧R1.env u=.i (.lit (.pointer (some ⟨b',o',none⟩))) ∧
  ∃ R2,dJ C (aH C) ops.toList false S.st.length os2 os1.length { env:=upd R1.env u (.i (.iref x.cells)),st:=R1.st,log:=R1.log }=some R2∧PP R2.env R2.st)
 (hfin:∀ env st a' w',PP env st→GG wi mi nt (fun _=>True) K env st a' w'→wpOpIn (FR none) 0 C.P ops Q (os1.length+os2.length) (fun a w=>wpOpsIn (FR none) 0 C.P ops Q [] a w) a' w'):(Code.region id ops false).wp C.P Q a w:=by
 obtain⟨R1,h1,h2,R2,h3,h4⟩:=h;refine vM ?_;have hsz:ops.size=os1.length+(os2.length+1):=by rw[← Array.length_toList,hops];simp
 have hget:∀ j,ops[j]?=(os1++(os2++[o]))[j]?:=fun j=>by rw[← hops,xE]
 rw[zA1,hsz,show List.range' 0 (os1.length+(os2.length+1))=List.range' 0 os1.length++(List.range' os1.length os2.length++[os1.length+os2.length])by
  rw[← List.range'_append_1,← List.range'_append_1];simp]
 have hcall:=aX hS;refine GG.ops hS.ctx hcall hs (R:={ env:=aY S.env,st:=aT S.st,log:=[] }) (base:=S.st.length) (i:=0) (fun j hj=>?_) h1 (g.ok' fun id h=>.inl h) fun a1 w1 g1=>?_
 ·rw[hget,zK,yV hj]
 ·have g2:=g1.see (u:=u) h2 hk;rw[zK]at g2;refine GG.ops hS.ctx hcall hs (R:={ env:=upd R1.env u (.i (.iref x.cells)),st:=R1.st,log:=R1.log }) (base:=S.st.length) (fun j hj=>?_) h3 g2 fun a2 w2 g3=>?_
  ·rw[hget,zB (by omega),xN,yV hj]
  ·rw[wpOpsIn_cons];exact hfin _ _ a2 w2 h4 (g3.ok' fun _ _=>trivial)
end
def Hand (todo K:KL) (p:Nat×Nat) (x:Ex):Prop:=(p,(x,none))∈K∧(x.kids=[]∨(∃ b' c,(p,(x,some (b',c)))∈K)∨(p,(x,none))∈todo)
structure WL (root:Nat×Nat) (e:Ex) (todo K:KL):Prop where
 rk:∃ rk:Nat→Nat,∀ b o x b' c,((b,o),(x,some (b',c)))∈K→rk b<rk b'
 uniq:∀ p q x y b' c c',(p,(x,some (b',c)))∈K→(q,(y,some (b',c')))∈K→p=q
 kids:∀ p x b' c,(p,(x,some (b',c)))∈K→∀ (j:Nat) kid,x.kids[j]?=some kid→Hand todo K (b',5*j) kid
 hroot:Hand todo K root e
 sub:∀ k∈todo,k∈K∧k.2.2=none
 nodup:(todo.map (·.1)).Nodup
 nolit:∀ k∈todo,∀ k'∈K,k'.1=k.1→k'.2.2=none
theorem gX {b:Nat}:∀ (o:Nat) (l:List Ex),∀ k∈bG b o l,k.2.2=none∧k.1.1=b∧o≤k.1.2
 | _,[]=>by simp[bG]
 | o,a::l=>by
  intro k hk;simp only[bG,zQ]at hk
  rcases hk with rfl|hk
  ·exact⟨rfl,rfl,zO _⟩
  ·obtain⟨h1,h2,h3⟩:=gX (o+5) l k hk;exact⟨h1,h2,by omega⟩
theorem AC {b:Nat}:∀ (o:Nat) (l:List Ex),((bG b o l).map (·.1)).Nodup
 | _,[]=>by simp[bG]
 | o,a::l=>by
  simp only[bG,yQ,zA];refine⟨fun h=>?_,AC (o+5) l⟩;obtain⟨k,hk,e⟩:=xZ.1 h;have:=(gX (o+5) l k hk).2.2;rw[e]at this;simp at this;omega
theorem KD {b o:Nat} {x:Ex} {b' cap:Nat} {k:(Nat×Nat)×Nd} (h:k∈YC b o x b' cap):x.kids≠[]∧(k=((b,o),(x,some (b',cap)))∨k∈bG b' 0 x.kids):=by
 unfold YC at h;split at h
 ·cases h
 ·rename_i hx;exact⟨hx,zQ.1 h⟩
theorem NR {b o:Nat} {x:Ex} {b' cap:Nat} {k:(Nat×Nat)×Nd} (h:k∈bG b' 0 x.kids):k∈YC b o x b' cap:=by
 unfold YC;split
 ·rename_i hx;rw[hx]at h;simp[bG]at h
 ·exact zA2 _ h
theorem WL.start (b3:Nat) (e:Ex):WL (b3,0) e [((b3,0),(e,none))] [((b3,0),(e,none))]:=by
 refine⟨⟨fun _=>0,?_⟩,?_,?_,⟨by simp, .inr (.inr (by simp))⟩,by simp,by simp,?_⟩
 ·intro b o x b' c h;simp at h
 ·intro p q x y b' c c' h;simp at h
 ·intro p x b' c h;simp at h
 ·intro k hk k' hk' _;simp at hk';rw[hk']
theorem WL.step {root:Nat×Nat} {e x:Ex} {init K:KL} {b o b' cap:Nat} (h:WL root e (init++[((b,o),(x,none))]) K) (hf:x.kids≠[]→∀ k∈K,k.1.1≠b'∧∀ b2 c2,k.2.2=some (b2,c2)→b2≠b') :
 WL root e (init++bG b' 0 x.kids) (K++YC b o x b' cap):=by
 have hcur:((b,o),(x,none))∈K:=(h.sub _ (by simp)).1
 have litIn:∀ {p:Nat×Nat} {y:Ex} {f c:Nat},(p,(y,some (f,c)))∈K++YC b o x b' cap→(p,(y,some (f,c)))∈K∨(x.kids≠[]∧p=(b,o)∧y=x∧f=b'∧c=cap):=by
  intro p y f c hm
  rcases zV.1 hm with hm|hm
  ·exact .inl hm
  ·obtain⟨hx,hm⟩:=KD hm
   rcases hm with hm|hm
   ·injection hm with e1 e2;injection e2 with e2 e3;injection e3 with e3;injection e3 with e3 e4;exact .inr ⟨hx,e1,e2,e3,e4⟩
   ·have:=(gX 0 _ _ hm).1;cases this
 have up:∀ {p:Nat×Nat} {y:Ex},Hand (init++[((b,o),(x,none))]) K p y→Hand (init++bG b' 0 x.kids) (K++YC b o x b' cap) p y:=by
  rintro p y ⟨h1,h2⟩;refine⟨List.mem_append_left _ h1,?_⟩
  rcases h2 with h2|⟨f,c,h2⟩|h2
  ·exact .inl h2
  ·exact .inr (.inl ⟨f,c,yN _ h2⟩)
  ·rcases zV.1 h2 with h2|h2
   ·exact .inr (.inr (yN _ h2))
   ·simp only[xS,Prod.mk.injEq,and_true]at h2;obtain⟨rfl,rfl⟩:=h2;by_cases hx:y.kids=[]
    ·exact .inl hx
    ·exact .inr (.inl ⟨b',cap,zA0 _ (by unfold YC;rw[if_neg hx];simp)⟩)
 have hnd:=h.nodup;rw[yG,zL]at hnd;refine⟨?_,?_,?_,up h.hroot,?_,?_,?_⟩
 ·obtain⟨rk,hr⟩:=h.rk;refine⟨fun f=>if x.kids≠[]∧f=b' then rk b+1 else rk f,?_⟩;intro b1 o1 y f c hm
  rcases litIn hm with hm|⟨hx,e1,rfl,rfl,rfl⟩
  ·have hlt:=hr _ _ _ _ _ hm;have n1:¬ (x.kids≠[]∧b1=b'):=fun hh=>(hf hh.1 _ hm).1 hh.2
   have n2:¬ (x.kids≠[]∧f=b'):=fun hh=>(hf hh.1 _ hm).2 _ _ rfl hh.2
   simp only[if_neg n1,if_neg n2];exact hlt
  ·injection e1 with e1 e2;subst e1;subst e2;have n1:¬ (y.kids≠[]∧b1=f):=fun hh=>(hf hh.1 _ hcur).1 hh.2
   show(if y.kids≠[]∧b1=f then rk b1+1 else rk b1)<(if y.kids≠[]∧f=f then rk b1+1 else rk f);rw[if_neg n1,if_pos ⟨hx,rfl⟩];omega
 ·intro p q y z f c c' h1 h2
  rcases litIn h1 with g1|⟨hx,a1,a2,a3,a4⟩
  ·rcases litIn h2 with g2|⟨hx,a1,a2,a3,a4⟩
   ·exact h.uniq _ _ _ _ _ _ _ g1 g2
   ·exact absurd a3 ((hf hx _ g1).2 _ _ rfl)
  ·rcases litIn h2 with g2|⟨_,c1,_,_,_⟩
   ·exact absurd a3 ((hf hx _ g2).2 _ _ rfl)
   ·rw[a1,c1]
 ·intro p y f c hm j kid hk
  rcases litIn hm with hm|⟨hx,rfl,rfl,rfl,rfl⟩
  ·exact up (h.kids p y f c hm j kid hk)
  ·have hkm:=rA (b:=f) (o:=0) hk;rw[zK]at hkm;exact⟨List.mem_append_right _ (NR hkm), .inr (.inr (zA0 _ hkm))⟩
 ·intro k hk
  rcases zV.1 hk with hk|hk
  ·obtain⟨h1,h2⟩:=h.sub k (by simp[hk]);exact⟨List.mem_append_left _ h1,h2⟩
  ·exact⟨List.mem_append_right _ (NR hk),(gX 0 _ _ hk).1⟩
 ·rw[yG,zL];refine⟨hnd.1,AC 0 _,fun p hp q hq e=>?_⟩;subst e;obtain⟨k1,h1,e1⟩:=xZ.1 hp;obtain⟨k2,h2,e2⟩:=xZ.1 hq;have hx:x.kids≠[]:=fun hx=>by rw[hx]at h2;simp[bG]at h2
  have:=(hf hx k1 (h.sub k1 (by simp[h1])).1).1;rw[e1,← e2,(gX 0 _ _ h2).2.1]at this;exact this rfl
 ·intro k hk k' hk' e1
  rcases zV.1 hk with hk|hk
  ·rcases zV.1 hk' with hk'|hk'
   ·exact h.nolit k (by simp[hk]) k' hk' e1
   ·obtain⟨hx,hm⟩:=KD hk'
    rcases hm with rfl|hm
    ·exact absurd e1.symm (hnd.2.2 k.1 (xZ.2 ⟨k,hk,rfl⟩) (b,o) (by simp))
    ·exact(gX 0 _ _ hm).1
  ·have hx:x.kids≠[]:=fun hx=>by rw[hx]at hk;simp[bG]at hk
   have hkb:=(gX 0 _ _ hk).2.1
   rcases zV.1 hk' with hk'|hk'
   ·exact absurd (by rw[e1,hkb]) (hf hx k' hk').1
   ·obtain⟨_,hm⟩:=KD hk'
    rcases hm with rfl|hm
    ·refine absurd ?_ (hf hx _ hcur).1;have:=congrArg Prod.fst e1;rw[hkb]at this;exact this
    ·exact(gX 0 _ _ hm).1
inductive Und (K:KL) (p:Nat×Nat):Nat→Prop
 | base {x:Ex} {f c:Nat}:(p,(x,some (f,c)))∈K→Und K p f
 | step {b o:Nat} {x:Ex} {f c:Nat}:((b,o),(x,some (f,c)))∈K→Und K p b→Und K p f
section
variable {root:Nat×Nat} {e:Ex} {todo K:KL}
theorem WL.YW (h:WL root e todo K) {rk:Nat→Nat} (hr:∀ b o x b' c,((b,o),(x,some (b',c)))∈K→rk b<rk b') {p:Nat×Nat} {f:Nat} (hu:Und K p f):rk p.1<rk f:=by
 induction hu with
 | base hm=>exact hr _ p.2 _ _ _ hm
 | step hm _ ih=>exact Nat.lt_trans ih (hr _ _ _ _ _ hm)
theorem WL.sib (h:WL root e todo K) {p q:Nat×Nat} {f:Nat} (hp:Und K p f):Und K q f→p.1=q.1→p=q:=by
 obtain⟨rk,hr⟩:=h.rk
 induction hp with
 | base hm =>
  intro hq e1
  cases hq with
  | base hm2=>exact h.uniq _ _ _ _ _ _ _ hm hm2
  | step hm2 hq2 =>
   have:=h.uniq _ _ _ _ _ _ _ hm hm2;have lt:=h.YW hr hq2;rw[← e1,this]at lt;exact absurd lt (yE _)
 | step hm hp2 ih =>
  intro hq e1
  cases hq with
  | base hm2 =>
   have:=h.uniq _ _ _ _ _ _ _ hm hm2;have lt:=h.YW hr hp2;rw[e1,← this]at lt;exact absurd lt (yE _)
  | step hm2 hq2 =>
   have:=h.uniq _ _ _ _ _ _ _ hm hm2;injection this with e2 e3;subst e2;exact ih hq2 e1
theorem ACV {p:Nat×Nat} {x:Ex} {b' c j f:Nat} (hm:(p,(x,some (b',c)))∈K) (hu:Und K (b',j) f):Und K p f:=by
 induction hu with
 | base h2=>exact .step h2 (.base hm)
 | step h2 _ ih=>exact .step h2 ih
end
theorem TN (k c:Int) (v:Val) (l:List Ex):(Ex.mk k c v l).kids=l:=rfl
theorem AHR {w:World} {a:Ex} {u:Value} {F:List Nat} (h:TCells w [.isl (Ex.aA a.kids)] [u] F):TCells w a.cells [.int .i64 a.kind, .int .i64 a.col, .bool a.val.null, .int .i64 a.val.n,u] F:=by
 rw[Ex.aB];exact .lit rfl (.lit rfl (.lit rfl (.lit rfl h)))
theorem D6 {w:World} {b:Nat} {us:List Value} {o:Nat} {v:Value} (hr:rowOf w b us) (h:w.cell? ⟨b,o,none⟩=some v):us[o]?=some v:=by
 obtain⟨T,e,_⟩:=hr;rw[bX e]at h;exact h
theorem ATH {us:List Value} {o:Nat} {v0 v1 v2 v3 v4:Value} (h0:us[o]?=some v0) (h1:us[o+1]?=some v1) (h2:us[o+2]?=some v2) (h3:us[o+3]?=some v3) (h4:us[o+4]?=some v4):us.drop o=[v0,v1,v2,v3,v4]++us.drop (o+5):=by
 have g:∀ {o:Nat} {v:Value},us[o]?=some v→us.drop o=v::us.drop (o+1):=by
  intro o v h;obtain⟨hl,rfl⟩:=zX.1 h;exact yL hl
 rw[g h0,g h1,g h2,g h3,g h4];rfl
section
variable {root:Nat×Nat} {e:Ex} {K:KL} {B:Nat} {w:World} {m:Mem} {φ:Pl}
theorem WL.tree (h:WL root e [] K) (hK:∀ k∈K,PF B w m φ k.1.1 k.1.2 k.2) (hm:mM w m):∀ (x:Ex) (p:Nat×Nat),Hand [] K p x →
 ∃ v F,ExAt m p.1 p.2 x v∧TCells w [.isl (Ex.aA x.kids)] [v] F∧F.Nodup∧∀ f∈F,Und K p f∧B≤f∧fH φ f:=by
 intro x
 induction x using Ex.ind with
 | h kd cl vl ks ih =>
  intro p hp;obtain⟨hp1,hp2⟩:=hp;have pf:=hK _ hp1;obtain⟨v,hx⟩:=wD pf.cel;refine⟨v,?_⟩;simp only[TN]at hp2 ⊢;have hkids:=hx.kids;rw[TN]at hkids;by_cases hks:ks=[]
  ·subst hks;simp only[Ex.aA]at hkids ⊢;refine⟨[],hx,?_,by simp,by simp⟩
   cases hkids with
   | isl0 ao cap hc=>exact .isl0 hc .nil
   | isl hn=>exact absurd rfl hn
  ·obtain⟨b',cap,hl⟩:∃ b' c,(p,(Ex.mk kd cl vl ks,some (b',c)))∈K:=by
    rcases hp2 with h1|h1|h1
    ·exact absurd h1 hks
    ·exact h1
    ·cases h1
   obtain⟨l1,l2,l3,us,T,l4,l5,l6⟩:=(hK _ hl).lit b' cap rfl
   have hv:v=.slice (some ⟨b',0,none⟩) ks.length cap:=by
    have:=hx.c4;rw[l1]at this;injection this with this;exact this.symm
   subst hv
   have hrow:rowOf w b' us:=⟨T,l4,l6⟩
   have hlen:(Ex.aA ks).length=ks.length:=by simp
   have hne:Ex.aA ks≠[]:=fun hh=>by rw[hh]at hlen;simp at hlen;exact hks (zZ.1 hlen.symm)
   have hcap:ks.length≤cap:=by
    rcases jW hkids with ⟨h1,_⟩|⟨_,b2,off,k2,cap2,h1,_,h2⟩
    ·exact absurd h1 hne
    ·injection h1 with _ _ h3;subst h3;rw[hlen]at h2;exact h2
   have list:∀ (l:List Ex) (j:Nat),(∀ a∈l,a∈ks)→(∀ i kid,l[i]?=some kid→Hand [] K (b',5*(j+i)) kid)→∃ F,TCells w (Ex.aA l).flatten ((us.drop (5*j)).take (5*l.length)) F∧F.Nodup∧∀ f∈F,(∃ i,Und K (b',5*(j+i)) f)∧B≤f∧fH φ f:=by
    intro l
    induction l with
    | nil=>intro j _ _;exact⟨[],by simpa [Ex.aA]using TCells.nil,by simp,by simp⟩
    | cons a l ihl =>
     intro j hin hh;have h0:=hh 0 a rfl;obtain⟨va,Fa,ha,ta,na,ua⟩:=ih a (hin a (by simp)) (b',5*(j+0)) h0;simp only[yF]at ha ua
     obtain⟨Fl,tl,nl,ul⟩:=ihl (j+1) (fun x hx=>hin x (by simp[hx])) (fun i kid hi=>by
      have:=hh (i+1) kid (by simpa using hi)
      rwa [show j+(i+1)=j+1+i by omega]at this)
     have hr5:=ATH (D6 hrow (hm _ _ _ ha.c0)) (D6 hrow (hm _ _ _ ha.c1)) (D6 hrow (hm _ _ _ ha.c2)) (D6 hrow (hm _ _ _ ha.c3)) (D6 hrow (hm _ _ _ ha.c4));refine⟨Fa++Fl,?_,?_,?_⟩
     ·rw[hr5,zS,show 5*(l.length+1)=5+5*l.length by omega];rw[yI,zY (by simp)];simp only[Ex.aA,zD];have t2:=AHR ta;have e1:5+5*l.length-[Value.int .i64 a.kind, .int .i64 a.col, .bool a.val.null, .int .i64 a.val.n,va].length=5*l.length:=by simp
      rw[e1,show 5*j+5=5*(j+1)by omega];exact t2.append tl
     ·rw[zL];refine⟨na,nl,fun f hf g hg e1=>?_⟩;subst e1;obtain⟨i,hi⟩:=(ul f hg).1;have:=h.sib (ua f hf).1 hi rfl;injection this with _ this;omega
     ·intro f hf
      rcases zV.1 hf with hf|hf
      ·exact⟨⟨0,(ua f hf).1⟩,(ua f hf).2⟩
      ·obtain⟨⟨i,hi⟩,q⟩:=ul f hf;exact⟨⟨1+i,by rwa [show j+(1+i)=j+1+i by omega]⟩,q⟩
   obtain⟨F,t1,n1,u1⟩:=list ks 0 (fun _ h=>h) (fun i kid hi=>by
    have:=h.kids p _ b' cap hl i kid hi
    rwa [zK])
   simp only[Nat.mul_zero,List.drop_zero]at t1
   have hkw:∀ r∈Ex.aA ks,r.length=5:=by
    have wid:∀ (l:List Ex),∀ r∈Ex.aA l,r.length=5:=by
     intro l
     induction l with
     | nil=>simp[Ex.aA]
     | cons a l ihl =>
      intro r hr;simp only[Ex.aA,zQ]at hr
      rcases hr with rfl|hr
      ·rw[Ex.aB];rfl
      ·exact ihl r hr
    exact wid ks
   refine⟨b'::F,hx,?_,?_,?_⟩
   ·have:=TCells.isl (w:=w) (b:=b') (k:=5) (cap:=cap) (us:=us) (G:=F) hne hrow (by omega) hkw l5 (by omega) (by rw[hlen];exact t1) .nil;rw[hlen]at this;simpa using this
   ·rw[zA];refine⟨fun hf=>?_,n1⟩;obtain⟨⟨i,hi⟩,_⟩:=u1 b' hf;obtain⟨rk,hr⟩:=h.rk;exact absurd (h.YW hr hi) (yE _)
   ·intro f hf
    rcases zQ.1 hf with rfl|hf
    ·exact⟨.base hl,l2,l3⟩
    ·obtain⟨⟨i,hi⟩,q⟩:=u1 f hf;exact⟨ACV hl hi,q⟩
end
end Go.Av.V
namespace Go.Av.Mk
open Go Go.Av
set_option maxRecDepth 4000
theorem AGE {m:Mem}:∀ {vs xs:List Value},ICells m (vs.map IV.lit) xs→xs=vs
 | [],_,h=>by cases h;rfl
 | v::vs,_,h=>by
  simp only[yQ]at h
  cases h with
  | cons a o r=>cases a;rw[AGE r]
structure Fr (w w':World) (S:List Nat):Prop where
 size:w.heap.size≤w'.heap.size
 os:w'.os=w.os
 tape:Tp w w'
 output:w'.output=w.output
 same:∀ f,f<w.heap.size→f ∉ S→w'.heap[f]?=w.heap[f]?
theorem Fr.refl (w:World) (S:List Nat):Fr w w S:=⟨Nat.le_refl _,rfl, .refl _,rfl,fun _ _ _=>rfl⟩
theorem Fr.trans {w1 w2 w3:World} {S:List Nat} (a:Fr w1 w2 S) (b:Fr w2 w3 S):Fr w1 w3 S :=
 ⟨Nat.le_trans a.size b.size,b.os.trans a.os,b.tape.trans a.tape,b.output.trans a.output,fun f h1 h2=>(b.same f (yY h1 a.size) h2).trans (a.same f h1 h2)⟩
theorem Fr.sub {w w':World} {S T:List Nat} (a:Fr w w' S) (h:∀ f∈S,f∈T):Fr w w' T :=
 ⟨a.size,a.os,a.tape,a.output,fun f h1 h2=>a.same f h1 fun h3=>h2 (h f h3)⟩
section
variable {C:Ctx} {nt:Nat}
theorem ARS (hS:SoundOk C) {w0:World} {m0:Mem} {φ0:Pl} {G:List Nat} {na:Nat} (h0:∀ id,φ0 id≠none→id<na) {c:Code} {S S':AS} {e:AExit} {a:Act} {w:World} (hc:codeOk nt c=true) (hx:eY C G na c S=some (e,S')) (h:FV [] w0 m0 φ0 nt na S a w) (hnr:bJ c=true:=by rfl) :
 c.wp C.P (fun e' a' w'=>e'=jP e∧FV [] w0 m0 φ0 nt na S' a' w') a w:=by
 obtain⟨n,hn⟩:=(dM _).1 hx;refine wpIn_wide.1 (wpIn_mono (bY (ρ:=none) hS.ctx (aX hS) (hS.draw _ (aX hS)) h0 n c S S' e [] a w hc (.inl rfl) hn h) ?_);rintro e' a' w' ⟨rfl,ds,k,kd⟩;have kd:=kd hnr;subst kd;exact⟨rfl,k⟩
end
structure MG (W nt b N n:Nat) (us:List Value) (q:Int) (j5:AV) (a:Act) (w:World):Prop where
 row:rowOf w b us
 len:us.length=N
 fit:W*n≤N
 pos:0<n
 wpos:0<W
 t0:∃ cap,n≤cap∧W*cap≤N∧a.tmps.getD 0 undef=.slice (some ⟨b,0,none⟩) n cap
 t1:a.tmps.getD 1 undef=.int .i64 q
 t5:Rep (fun _ _=>none) (fun _=>none) j5 (a.tmps.getD 5 undef)
 size:nt≤a.tmps.size
 defers:a.defers=[]
def MS (W n:Nat) (R:List (List IV)) (q:Int) (j4 j5 j9:AV):AS :=
 { env:=[(0, .osl 0 W 0 n),(1, .int q),(4,j4),(5,j5),(9,j9)],st:=[some (.arr W R)] }
theorem tlt {w:World}:∀ {cs:List IV} {vs:List Value} {F:List Nat},TCells w cs vs F→∀ f∈F,f<w.heap.size
 | _,_,_, .nil=>by simp
 | _,_,_, .lit _ r=>(tlt r)
 | _,_,_, .isl0 _ r=>(tlt r)
 | _,_,_, .isl _ ⟨T,hr,_⟩ _ _ _ _ g r=>by
  intro f hf;simp only[yT,zQ,zV]at hf
  rcases hf with rfl|hf|hf
  ·exact(zG.1 hr).1
  ·exact tlt g f hf
  ·exact tlt r f hf
section
variable {X:Type} (cells:X→List IV) (mk:Int→X→X) (sz:X→Nat)
end
structure MLoop (C:Ctx) (g:FuncId) (W nt:Nat) (G:List Nat) (fn:Func) (c0 c1 cc body c3 cend:Code):Prop where
 func:C.P.funcs[g]?=some fn
 code:fn.body=some (c0.seq ((c1.seq (.block 0 (.loop (cc.seq ((Code.block 1 body).seq c3))))).seq cend))
 ntmps:fn.ntmps=nt
 big:6≤nt
 results:fn.results.toList=[ResultVar.tmp 4]
 ok0:codeOk nt c0=true∧bJ c0=true
 ok1:codeOk nt c1=true∧bJ c1=true
 okc:codeOk nt cc=true∧bJ cc=true
 ok3:codeOk nt c3=true∧bJ c3=true
 oke:codeOk nt cend=true∧bJ cend=true
 x0:∀ n R q,eY C G 1 c0 (MS W n R q .junk .junk .junk)=some (.normal,MS W n R q (.int 0) .junk .junk)
 x1:∀ n R q,eY C G 1 c1 (MS W n R q (.int 0) .junk .junk)=some (.normal,MS W n R q (.int 0) (.int 0) .junk)
 xc:∀ (n i:Nat) R q,i<n→eY C G 1 cc (MS W n R q .junk (.int i) .junk)=some (.normal,MS W n R q .junk (.int i) (.bool true))
 xo:∀ (n:Nat) R q,eY C G 1 cc (MS W n R q .junk (.int n) .junk)=some (.exit 0,MS W n R q .junk (.int n) (.bool false))
 x3:∀ (n i:Nat) R q,i<1000000000000→eY C G 1 c3 (MS W n R q .junk (.int i) .junk)=some (.normal,MS W n R q .junk (.int (i+1)) .junk)
 xe:∀ (n:Nat) R q,eY C G 1 cend (MS W n R q .junk (.int n) (.bool false))=some (.ret,MS W n R q (.int q) (.int n) (.bool false))
 xf:∀ (n:Nat) R (q:Int),finish C false [ResultVar.tmp 4] 1 (MS W n R q (.int q) (.int n) (.bool false))=some (.int q,[some (.arr W R)])
 nil:∀ k:Int,aH C g [.i (.isl []), .int k] []=some (.int k,[])
section
variable {X:Type} {cells:X→List IV} {mk:Int→X→X} {sz:X→Nat} {W:Nat}
def PU (cells:X→List IV) (W:Nat) (l:List X):Blk:=if l=[]then .arr W []else .tre W (l.map cells)
@[simp] theorem AMH (r:Nat→Option Nat) (l:List X):vH r (some (PU cells W l))=some (PU cells W l):=by unfold PU;split<;>rfl
@[simp] theorem AJ3 (l:List X):gM (some (PU cells W l))=[]:=by unfold PU;split<;>rfl
theorem vT (h:∀ x,lU (cells x)=true):∀ l:List X,jA (l.map cells)=true
 | []=>rfl
 | x::l=>by simp only[yQ,jA,h x,vT h l,Bool.and_self]
@[simp] theorem APD (h:∀ x,lU (cells x)=true) (l:List X):mfB (some (PU cells W l))=true:=by
  unfold PU;split
  ·rfl
  ·simp only[mfB];exact vT h l
theorem AD0 {l:List X} (h:l≠[]):PU cells W l=.tre W (l.map cells):=by simp[PU,h]
end
end Go.Av.Mk
namespace Go.Av
theorem Ex.wG:∀ l:List Ex,Ex.aA l=l.map Ex.cells
 | []=>rfl
 | e::l=>by simp[Ex.aA,Ex.wG l]
def ASD (n:Int):List IV:=[.int n]
theorem O8:∀ (l:List Int),aI l=l.map ASD
 | []=>rfl
 | n::l=>by have:=O8 l;simp only[yQ,← this];simp[aI,ASD]
end Go.Av
namespace Go.Av.Mk
open Go Go.Av
section
variable {X:Type} {cells:X→List IV} {W:Nat} {z:List IV}
@[simp] theorem AOH (hp:∀ x,lU (cells x)=true) (l:List X):sH W 0 l.length (some (PU cells W l))=some (l.map cells):=by
  unfold PU;split
  ·rename_i h;subst h;simp[sH,fP]
  ·simp[sH,vT hp l]
end
end Go.Av.Mk
namespace Go.Av
@[simp] theorem Ex.JD (e:Ex):lU e.cells=true:=by rw[Ex.aB];rfl
@[simp] theorem Pn.JD (p:Pn):lU p.cells=true:=by rw[Pn.aB];rfl
@[simp] theorem Ex.iY:∀ l:List Ex,jA (Ex.aA l)=true
  | []=>by simp[Ex.aA,jA]
  | e::l=>by simp[Ex.aA,jA,Ex.iY l]
@[simp] theorem Pn.iY:∀ l:List Pn,jA (Pn.aA l)=true
  | []=>by simp[Pn.aA,jA]
  | p::l=>by simp[Pn.aA,jA,Pn.iY l]
def tE (e:Ex) (j:Nat):AV:=.agg [.int e.kind, .int e.col, .bool e.val.null, .int e.val.n, .osl j 5 0 e.kids.length]
end Go.Av
namespace Go.Av.V.Sx
open Go Go.Av Go.Av.V Go.Av.Mk Go.Proofs Go.Proofs.YtmcjmafajkeecaaGreatDoor
set_option maxRecDepth 4000
def RV (e:Ex):AS:={ env:=[(0, .i (.iref e.cells))],st:=[] }
def AC4 (e:Ex):AS:={ env:=[(0, .i (.iref e.cells)),(2, .own 0 0),(3, .own 1 0),(4, .junk),(5, .junk),(6, .junk),(13, .junk),(37, .junk),(38, .junk),(39, .junk)],st:=[some (.box zc),some (.box (kW e.cells))] }
def SL (b3:Nat) (todo X:KL):AS :=
 { env:=[(0, .junk),(2, .own 0 0),(3, .i (ptr (b3,0))),(4, .osl 1 1 0 todo.length),(5, .junk),(6, .junk),(13, .junk),(37, .junk),(38, .junk),(39, .junk)],st:=[some (.box zc),some (.arr 1 ((todo++X).map fun k=>[ptr k.1]))] }
theorem DJ:∀ (l:KL),∀ c∈(l.map fun k=>[ptr k.1]).flatten,∃ v,c=.lit v
 | [],c,h=>by simp at h
 | k::l,c,h=>by
  simp only[yQ,zD,zV,xS]at h
  rcases h with rfl|h
  ·exact⟨_,rfl⟩
  ·exact DJ l c h
def PP (b3:Nat) (b o n:Nat) (x:Ex) (ES:List (List IV)) (env:Nat→AV) (st:Store):Prop :=
 env 2=.own 0 0∧env 3=.i (ptr (b3,0))∧env 4=.osl 1 1 0 n∧env 5=.i (ptr (b,o))∧env 32=.i (ptr (b,o+4))∧st 0=some (.box zc)∧st 1=some (.arr 1 ES) ∧
  ((env 30=.nils∧x.kids=[])∨∃ id,env 30=.osl id 5 0 x.kids.length∧x.kids≠[]∧st id=some (.arr 5 (Ex.aA x.kids))∧2≤id)
def RW (init:KL) (b' i:Nat):List (List IV):=(init.map fun k=>[ptr k.1])++(List.range i).map fun j=>[ptr (b',j*5)]
theorem PH (init:KL) (b' i:Nat):(RW init b' i).length=init.length+i:=by simp[RW]
theorem FP (init:KL) (b' i:Nat):RW init b' i++[[ptr (b',i*5)]]=RW init b' (i+1):=by simp[RW,zB6]
theorem nR (b:Nat):∀ (o:Nat) (l:List Ex),(bG b o l).map (fun k=>[ptr k.1])=(List.range l.length).map fun j=>[ptr (b,o+j*5)]
 | _,[]=>by simp[bG]
 | o,a::l=>by
  simp only[bG,yQ,nR b (o+5) l,zS,zB2,zA6];simp only[List.cons.injEq,Nat.zero_mul,yF,true_and];apply y8;intro j _;simp only[Function.comp,Nat.succ_eq_add_one];rw[show o+5+j*5=o+(j+1)*5 by omega]
theorem nS (b:Nat):∀ (o:Nat) (l:List Ex),(bG b o l).length=l.length
 | _,[]=>rfl
 | o,a::l=>by simp[bG,nS b (o+5) l]
theorem nQ (b:Nat):∀ (o:Nat) (l:List Ex),((bG b o l).map fun k=>k.2.1.size).sum=Ex.bV l
 | _,[]=>rfl
 | o,a::l=>by simp[bG,Ex.bV,nQ b (o+5) l]
def YS (b3 b' cap:Nat) (x:Ex) (init:KL) (ES:List (List IV)) (i:Nat):AS :=
 { env:=[(0, .junk),(2, .own 0 0),(3, .i (ptr (b3,0))),(4,if i=0 then .osl 1 1 0 init.length else .osl 2 1 0 (init.length+i)),(5, .i (.iref [.int x.kind, .int x.col, .bool x.val.null, .int x.val.n, .lit (.slice (some ⟨b',0,none⟩) x.kids.length cap)])),(6,jk i (.int (i-1))),(13, .junk),(37, .int x.kids.length),(38, .int i),(39,jk i (.bool true))],
   st:=some (.box zc)::if i=0 then [some (.arr 1 ES)]else [none,some (.arr 1 (RW init b' i))] }
set_option maxHeartbeats 1000000
theorem R8 {e:Ex} (he:e.size<1000000000) (hne:e.kids≠[]) {wi:World} {mi:Mem} {φ:Pl} {vs:List Value} (hi:Inv wi mi φ (aT [])) (hr:RepL mi φ [.i (.iref e.cells)] vs) (h0:∀ id,φ id≠none→id<0) :
 Calls Tryz.prog 24 vs.toArray wi (bK wi mi φ (tE e 0) [some (PU Ex.cells 5 e.kids)]):=by
 obtain rfl:φ=fun _=>none:=by
  funext id
  cases h:φ id with
  | none=>rfl
  | some p=>exact absurd (h0 id (by rw[h];simp)) (xD _)
 refine calls_of_wp (fn:=Tryz.f24) Tryz.func24 rfl ?_
 have g0:GG wi mi 52 (fun id=>id<(RV e).st.length) [] (aY (RV e).env) (aT (RV e).st) { tmps:=vs.toArray++Array.replicate (52-vs.toArray.size) undef,defers:=[] } wi:=by
  refine⟨⟨mi,fun _=>none,hi,?_, .refl _ _ _,fun id h=>absurd rfl h,fun k hk=>by simp at hk⟩,by simp;omega,rfl⟩;intro t;have:=qJ (m:=mi) (φ:=fun _=>none) (52-vs.toArray.size) hr t
  cases t with
  | zero=>simpa [RV,aY,BM]using this
  | succ t=>simp only[RV,aY];simp;exact .junk _
 refine wp_seq (wp_mono (GG.iJ gK (G:=GS 24) (S:=RV e) (e:=.normal) (S':={ AC4 e with env:=[(0, .i (.iref e.cells)),(2, .own 0 0),(3, .junk),(4, .junk),(5, .junk),(6, .junk),(13, .junk),(37, .junk),(38, .junk),(39, .junk)],st:=[some (.box zc)] }) (by kernel_rfl) (by simp[RV,zc]) g0) ?_);rintro _ a1 w1 ⟨rfl,g1⟩;refine wp_seq (wp_mono (GG.iJ gK (G:=GS 24) (S:={ AC4 e with env:=[(0, .i (.iref e.cells)),(2, .own 0 0),(3, .junk),(4, .junk),(5, .junk),(6, .junk),(13, .junk),(37, .junk),(38, .junk),(39, .junk)],st:=[some (.box zc)] }) (e:=.normal) (S':=AC4 e) (by kernel_rfl) (by simp[AC4,zc]) g1) ?_);rintro _ a2 w2 ⟨rfl,g2⟩
 obtain⟨b3,g3⟩:=g2.pub (u:=3) (id:=1) (e:=e) (st':=aT [some (.box zc)]) (ok':=fun id=>id<1) rfl rfl (by
  intro i blk h
  cases i with
  | zero=>simp[aT]at h;subst h;exact⟨by omega,rfl,by simp[fZ,zc]⟩
  | succ i=>simp[aT]at h) (by
  intro i h
  cases i with
  | zero=>omega
  | succ i=>simp[aT]at h)
 have g3:=g3 (aY [(2, .own 0 0),(3, .i (ptr (b3,0)))]) (by
  intro t;simp only[aY];by_cases h2:t=2
  ·subst h2;exact .inr (.inr ⟨rfl,by simp[AC4,aY,jG,aT]⟩)
  ·by_cases h3:t=3
   ·subst h3;exact .inr (.inl ⟨rfl,rfl⟩)
   ·simp[h2,h3])
 refine wp_seq (wp_mono (GG.iJ gK (G:=GS 24) (S:={ env:=[(2, .own 0 0),(3, .i (ptr (b3,0)))],st:=[some (.box zc)] }) (e:=.normal) (S':=SL b3 [((b3,0),(e,none))] []) (by kernel_rfl) (by simp[SL,ptr,zc]) g3) ?_);rintro _ a3 w3 ⟨rfl,g4⟩;refine wp_seq (wp_block ?_);refine C8 (fun n a w=>∃ todo X K:KL,WL (b3,0) e todo K∧(todo.map fun k=>k.2.1.size).sum=n∧n<1000000000∧GG wi mi 52 (fun id=>id<(SL b3 todo X).st.length) K (aY (SL b3 todo X).env) (aT (SL b3 todo X).st) a w) ?_ (n:=e.size) ⟨[((b3,0),(e,none))],[],[((b3,0),(e,none))], .start b3 e,by simp,he,g4⟩;rintro n a w ⟨todo,X,K,hWL,hsum,hn,g⟩
 rcases List.eq_nil_or_concat todo with rfl|⟨init,k,rfl⟩
 ·refine wp_mono (GG.iJ gK (G:=GS 24) (S:=SL b3 [] X) (e:=.exit 0) (S':={ env:=[(0, .junk),(2, .own 0 0),(3, .i (ptr (b3,0))),(4, .osl 1 1 0 0),(5, .junk),(6, .junk),(13, .bool false),(37, .junk),(38, .junk),(39, .junk)],st:=[some (.box zc),some (.arr 1 (X.map fun k=>[ptr k.1]))] }) (by kernel_rfl) (by simp[SL,ptr,zc]) g) ?_;rintro _ a5 w5 ⟨rfl,g5⟩;simp only[jP,Exit.then,Exit.inBlock,if_true];obtain⟨⟨m5,φ5,hi5,henv5,hadv5,hok5,hK5⟩,hsz5,hdf5⟩:=g5;obtain⟨v,F,hx5,ht5,hnd5,hF5⟩:=hWL.tree hK5 hi5.mem e (b3,0) hWL.hroot;have h05:∀ id,φ5 id≠none→id<2:=hok5
  have hroot:IAt m5 b3 0 [.int e.kind, .int e.col, .bool e.val.null, .int e.val.n, .lit v]:=by
   have ho:=KM hx5.kids;exact .cons (by simpa using hx5.c0) (.lit _) rfl (.cons hx5.c1 (.lit _) rfl (.cons hx5.c2 (.lit _) rfl (.cons hx5.c3 (.lit _) rfl (.cons hx5.c4 (.lit _) ho (.nil _ _)))))
  have hp3:a5.tmps.getD 3 undef=.pointer (some ⟨b3,0,none⟩):=by
   have h3:Rep m5 φ5 (.i (ptr (b3,0))) (a5.tmps.getD 3 undef):=henv5 3;exact h3.lit_eq
  have r5:FV [] w5 m5 φ5 52 2 { env:=[(2, .own 0 0),(3, .i (.iref [.int e.kind, .int e.col, .bool e.val.null, .int e.val.n, .lit v]))],st:=[some (.box zc),some (.arr 1 (X.map fun k=>[ptr k.1]))] } a5 w5:=by
   refine⟨⟨⟨m5,φ5,by simpa using hi5,fun t=>?_, .refl _ _ _,hok5, .nil _ _ _⟩,hsz5,hdf5⟩,zO _⟩;simp only[aY];by_cases h2:t=2
   ·subst h2;simp only[if_true];exact henv5 2
   ·by_cases h3:t=3
    ·subst h3;simp only[if_true];rw[hp3];exact .i (.iref hroot)
    ·simp only[h2,h3,if_false];exact .junk _
  refine wp_mono (ARS gK h05 (G:=GS 24) (S:={ env:=[(2, .own 0 0),(3, .i (.iref [.int e.kind, .int e.col, .bool e.val.null, .int e.val.n, .lit v]))],st:=[some (.box zc),some (.arr 1 (X.map fun k=>[ptr k.1]))] }) (e:=.ret) (S':={ env:=[(0, .junk),(2, .own 0 0),(3, .i (.iref [.int e.kind, .int e.col, .bool e.val.null, .int e.val.n, .lit v])),(4, .junk),(5, .junk),(6, .junk),(13, .junk),(37, .junk),(38, .junk),(39, .junk)],st:=[some (.box [.int e.kind, .int e.col, .bool e.val.null, .int e.val.n, .i (.lit v)]),some (.arr 1 (X.map fun k=>[ptr k.1]))] }) (by kernel_rfl) (by simp[zc]) r5) ?_;rintro _ a6 w6 ⟨rfl,r6⟩
  obtain⟨vv,k1,k2⟩:=kQ (C:=C1) (fn:=Tryz.f24) (keep:=false) (na:=2) (S:={ env:=[(0, .junk),(2, .own 0 0),(3, .i (.iref [.int e.kind, .int e.col, .bool e.val.null, .int e.val.n, .lit v])),(4, .junk),(5, .junk),(6, .junk),(13, .junk),(37, .junk),(38, .junk),(39, .junk)],st:=[some (.box [.int e.kind, .int e.col, .bool e.val.null, .int e.val.n, .i (.lit v)]),some (.arr 1 (X.map fun k=>[ptr k.1]))] }) (r:=.i (.agg [.int e.kind, .int e.col, .bool e.val.null, .int e.val.n, .lit v])) (stl':=[some (.box [.int e.kind, .int e.col, .bool e.val.null, .int e.val.n, .i (.lit v)]),some (.arr 1 (X.map fun k=>[ptr k.1]))]) h05 r6 (by
   show finish C1 false [ResultVar.cell 2 47] 2 _=_
   simp)
  refine⟨r6.1.defers,vv,k1,?_⟩;obtain⟨y,m6,φ6,hy,j1,j2,j3,j4⟩:=k2;injection hy with hy;subst hy
  have hvv:vv=.agg [.int .i64 e.kind, .int .i64 e.col, .bool e.val.null, .int .i64 e.val.n,v].toArray:=by
   cases j1 with
   | i r=>cases r with
    | agg hc =>
     have:=AGE (vs:=[.int .i64 e.kind, .int .i64 e.col, .bool e.val.null, .int .i64 e.val.n,v]) hc;rw[this]
  subst hvv;have hall:=hadv5.trans j3;have hwi:∀ f,f<wi.heap.size→w6.heap[f]?=wi.heap[f]?:=fun f hf=>hall.block f hf fun id b n e=>by cases e
  have ht6:=ht5.mono (w':=w6) fun f hf=>j3.block f (tlt ht5 f hf) (hF5 f hf).2.2
  have hlt6:=tlt ht6;have hlen:(Ex.aA e.kids).length=e.kids.length:=by simp
  have hcne:Ex.aA e.kids≠[]:=fun h=>by rw[h]at hlen;simp at hlen;exact hne (zZ.1 hlen.symm)
  generalize hes:Ex.aA e.kids=es at ht6 hlen hcne
  cases ht6 with
  | isl0=>exact absurd rfl hcne
  | @isl b' kk cap _ us G _ _ F1 t1 t2 t3 t4 t5 t6 t7 t8 =>
   cases t8
   obtain rfl:kk=5:=by
    cases hks:e.kids with
    | nil=>exact absurd hks hne
    | cons a l=>rw[← t4 a.cells (by rw[← hes,hks];simp[Ex.aA]),Ex.aB];rfl
   simp only[z8]at hnd5 hF5 hlt6;obtain⟨T,t2,t9⟩:=t2;have hge:∀ f∈b'::G,wi.heap.size≤f:=fun f hf=>(hF5 f hf).2.1
   have hmi:∀ f∈b'::G,∀ o,mi f o=none:=fun f hf o=>by
    cases hx:mi f o with
    | none=>rfl
    | some u=>have:=hi.mem.lt hx;have:=hge f hf;omega
   refine⟨_,mi,fun id=>if id=0 then some (b',⟨us.length,fun f=>f∈b'::G⟩)else none,rfl,?_,⟨fun b o u hu=>?_,?_,?_,fun id b n f h1 ho=>by
    by_cases hid:id=0
    ·subst hid;simp only[if_true]at h1;injection h1 with h1;injection h1 with e1 e2;subst e2;exact hlt6 f ho
    ·simp[hid]at h1⟩,⟨hall.size,hall.os,hall.tape,hall.output,fun f hf _=>hwi f hf, .refl _,fun _ _ _ _=>rfl,(fun _ _ _ h=>by cases h),?_⟩,?_⟩
   ·refine .agg (.cons (.i (.lit _)) rfl (.cons (.i (.lit _)) rfl (.cons (.i (.lit _)) rfl (.cons (.i (.lit _)) rfl (.cons ?_ rfl .nil)))));rw[hlen];exact .osl (n:=⟨us.length,fun f=>f∈b'::G⟩) rfl (by omega) (by simpa using t5) (fun _=>by simp) (fun h=>by cases h)
   ·rw[cell_of_heap (hwi b (hi.mem.lt hu))];exact hi.mem b o u hu
   ·intro id blk hb
    cases id with
    | succ id=>simp[aT]at hb
    | zero =>
     simp only[aT]at hb;rw[AD0 hne,← Ex.wG,hes]at hb;injection hb with hb;subst hb;refine⟨b',⟨us.length,fun f=>f∈b'::G⟩,rfl,⟨by simp,fun f hf=>hlt6 f hf⟩,?_⟩;exact .tre (T:=T) t2 rfl (by omega) t4 t7.toU (by show 5*es.length≤us.length;omega) hnd5 (fun f hf=>zA2 _ hf) hmi t9
   ·intro i j x x' n1 n2 b1 b2 f h1 h2 _ _ _ _
    cases i with
    | succ i=>simp[aT]at h1
    | zero=>cases j with
     | zero=>rfl
     | succ j=>simp[aT]at h2
   ·intro id b n f h1 ho;by_cases hid:id=0
    ·subst hid;simp only[if_true]at h1;injection h1 with h1;injection h1 with e1 e2;subst e2;exact .inl (hge f ho)
    ·simp[hid]at h1
   ·intro id hne';by_cases hid:id=0
    ·subst hid;simp
    ·simp[hid]at hne'
 ·clear g0 g4 g3 g1 g2;obtain⟨⟨b,o⟩,x,nn⟩:=k;obtain rfl:nn=none:=(hWL.sub ((b,o),(x,nn)) (by simp)).2;rw[List.concat_eq_append]at hWL hsum g
  have hlen:∀ l:KL,l.length≤(l.map fun k=>k.2.1.size).sum:=by
   intro l
   induction l with
   | nil=>simp
   | cons a l ih=>have:=Ex.qX a.2.1;simp;omega
  have hil:=hlen init;simp at hsum;have hxk:((b,o),(x,none))∈K:=(hWL.sub _ (by simp)).1;have hxs:=Ex.size_eq x;have hkl:=Ex.gU x.kids;have hne:¬ ((init.length:Int)+1≤0):=by omega
  have hpos:(0:Int)<(init.length:Int)+1:=by omega
  have w1:IntKind.i64.wrap (init.length:Int)=init.length:=wrO;generalize hES:((init++[((b,o),((x,none):Nd))]++X:KL).map fun k=>[ptr k.1])=ES
  have hnth:iP ES init.length=some [ptr (b,o)]:=by
   rw[gV,← hES];simp
  have hlit:∀ c∈ES.flatten,∃ v,c=.lit v:=by rw[← hES];exact DJ _
  have hlt:(init.length:Int)<(init.length:Int)+1:=by omega
  have hlt2:(init.length:Int)≤(init.length:Int)+1:=by omega
  refine wp_seq (wp_mono (GG.iJ gK (G:=GS 24) (S:=SL b3 (init++[((b,o),((x,none):Nd))]) X) (e:=.normal) (S':={ env:=[(0, .junk),(2, .own 0 0),(3, .i (ptr (b3,0))),(4, .osl 1 1 0 (init.length+1)),(5, .junk),(6, .junk),(13, .bool true),(37, .junk),(38, .junk),(39, .junk)],st:=[some (.box zc),some (.arr 1 ES)] }) (by kernel_rfl) (by simp only[SL,hES];simp[ptr,zc,hpos]) (by simpa using g)) ?_);rintro _ a5 w5 ⟨rfl,g5⟩;clear g;refine wp_block ?_;refine wp_seq (wp_mono (GG.iJ gK (G:=GS 24) (S:={ env:=[(0, .junk),(2, .own 0 0),(3, .i (ptr (b3,0))),(4, .osl 1 1 0 (init.length+1)),(5, .junk),(6, .junk),(13, .bool true),(37, .junk),(38, .junk),(39, .junk)],st:=[some (.box zc),some (.arr 1 ES)] }) (e:=.normal) (S':={ env:=[(0, .junk),(2, .own 0 0),(3, .i (ptr (b3,0))),(4, .osl 1 1 0 (init.length+1)),(5,(.i (ptr (b,o)))),(6, .junk),(13, .bool true),(37, .junk),(38, .junk),(39, .junk)],st:=[some (.box zc),some (.arr 1 ES)] }) (by kernel_rfl) (by simp only[ptr]at hnth;simp[ptr,zc,hnth,w1,hlt]) g5) ?_);rintro _ a6 w6 ⟨rfl,g6⟩;clear g5;refine wp_seq (wp_mono (GG.iJ gK (G:=GS 24) (S:={ env:=[(0, .junk),(2, .own 0 0),(3, .i (ptr (b3,0))),(4, .osl 1 1 0 (init.length+1)),(5,(.i (ptr (b,o)))),(6, .junk),(13, .bool true),(37, .junk),(38, .junk),(39, .junk)],st:=[some (.box zc),some (.arr 1 ES)] }) (e:=.normal) (S':={ env:=[(0, .junk),(2, .own 0 0),(3, .i (ptr (b3,0))),(4, .osl 1 1 0 init.length),(5,(.i (ptr (b,o)))),(6, .junk),(13, .bool true),(37, .junk),(38, .junk),(39, .junk)],st:=[some (.box zc),some (.arr 1 ES)] }) (by kernel_rfl) (by simp[ptr,zc,w1,hlt2]) g6) ?_);rintro _ a7 w7 ⟨rfl,g7⟩;clear g6
  refine wp_seq (GG.region gK (os1:=[_,_]) (os2:=[_,_,_,_,_,_]) (u:=26) (PP:=PP b3 b o init.length x ES) rfl (by
   have h:∀ ops:Array Oper,ops.all (jC 52)=true→∀ o∈ops,jC 52 o=true:=fun ops h o ho=>yH.1 h o ho
   exact h _ (by kernel_rfl)) g7 hxk ?_ ?_)
  ·rw[Ex.aB];by_cases hx:x.kids=[]
   ·simp[ptr,zc,hx,PP,Ex.aA,AB7]
   ·simp[ptr,zc,PP,U3 hx (by omega),hx]
  ·rintro env st a8 w8 ⟨p2,p3,p4,p5,p32,q0,q1,p30⟩ g8;clear g7
   obtain⟨w9,b',ao,cap,e1,e2,hrun,hG,hfr⟩:=GG.turn (C:=C1) (ok':=fun id=>id<2) (st':=aT [some (.box zc),some (.arr 1 ES)]) (u:=30) (t:=23) g8 (by simp) hi.mem hxk (fun k hk he'=>hWL.nolit ((b,o),(x,none)) (by simp) k hk he') rfl (by
    rcases p30 with ⟨h1,h2⟩|⟨id,h1,h2,h3,h4⟩
    ·refine .inl ⟨h1,h2,?_⟩;intro i blk h
     rcases i with _|_|i
     ·simp[aT]at h;subst h;exact q0
     ·simp[aT]at h;subst h;exact q1
     ·simp[aT]at h
    ·refine .inr ⟨id,h1,h2,h3,?_⟩;intro i blk h
     rcases i with _|_|i
     ·simp[aT]at h;subst h;exact⟨by omega,q0⟩
     ·simp[aT]at h;subst h;exact⟨by omega,q1⟩
     ·simp[aT]at h) (by
    intro i blk h
    rcases i with _|_|i
    ·simp[aT]at h;subst h;simp[fZ,zc]
    ·simp[aT]at h;subst h;exact hlit
    ·simp[aT]at h) (by
    intro i h
    rcases i with _|_|i
    ·omega
    ·omega
    ·simp[aT]at h)
   have ev5:=g8.WG (t:=5) p5;have ev32:=g8.WG (t:=32) p32
   refine GM (C:=C1) (w':=w9) rfl (by
    show(Instr.storeAt 23 (a8.tmps.getD 32 undef) (a8.tmps.getD 30 undef)).run C1.P w8=_
    rw[ev32];exact hrun) ?_
   have g9:=hG (aY [(2, .own 0 0),(3, .i (ptr (b3,0))),(4, .osl 1 1 0 init.length),(5,(.i (.iref [.int x.kind, .int x.col, .bool x.val.null, .int x.val.n, .lit (.slice ao x.kids.length cap)])))]) (by
    intro t;simp only[aY];by_cases h2:t=2
    ·subst h2;exact .inr (.inr ⟨by simp[p2],by rw[p2];simp[jG,aT]⟩)
    by_cases h3:t=3
    ·subst h3;exact .inr (.inr ⟨by simp[p3],by rw[p3];simp[jG,ptr]⟩)
    by_cases h4:t=4
    ·subst h4;exact .inr (.inr ⟨by simp[p4],by rw[p4];simp[jG,aT]⟩)
    by_cases h5:t=5
    ·subst h5;exact .inr (.inl ⟨ev5,by simp⟩)
    ·simp[h2,h3,h4,h5])
   clear hG g8;show Code.wp _ _ _ _ _;refine wp_seq (wp_mono (GG.iJ gK (G:=GS 24) (S:={ env:=[(2, .own 0 0),(3, .i (ptr (b3,0))),(4, .osl 1 1 0 init.length),(5,(.i (.iref [.int x.kind, .int x.col, .bool x.val.null, .int x.val.n, .lit (.slice ao x.kids.length cap)])))],st:=[some (.box zc),some (.arr 1 ES)] }) (e:=.normal) (S':={ env:=[(0, .junk),(2, .own 0 0),(3, .i (ptr (b3,0))),(4, .osl 1 1 0 init.length),(5,(.i (.iref [.int x.kind, .int x.col, .bool x.val.null, .int x.val.n, .lit (.slice ao x.kids.length cap)]))),(6, .junk),(13, .junk),(37, .int x.kids.length),(38, .int 0),(39, .junk)],st:=[some (.box zc),some (.arr 1 ES)] }) (by kernel_rfl) (by simp[ptr,zc]) g9) ?_);rintro _ a10 w10 ⟨rfl,g10⟩;clear g9;by_cases hx:x.kids=[]
   ·refine wp_mono (GG.iJ gK (G:=GS 24) (S:={ env:=[(0, .junk),(2, .own 0 0),(3, .i (ptr (b3,0))),(4, .osl 1 1 0 init.length),(5,(.i (.iref [.int x.kind, .int x.col, .bool x.val.null, .int x.val.n, .lit (.slice ao x.kids.length cap)]))),(6, .junk),(13, .junk),(37, .int x.kids.length),(38, .int 0),(39, .junk)],st:=[some (.box zc),some (.arr 1 ES)] }) (e:=.normal) (S':={ env:=[(0, .junk),(2, .own 0 0),(3, .i (ptr (b3,0))),(4, .osl 1 1 0 init.length),(5,(.i (.iref [.int x.kind, .int x.col, .bool x.val.null, .int x.val.n, .lit (.slice ao x.kids.length cap)]))),(6, .junk),(13, .junk),(37, .int x.kids.length),(38, .int 0),(39, .bool false)],st:=[some (.box zc),some (.arr 1 ES)] }) (by kernel_rfl) (by
     simp only[hx,zI];simp;rw[aD]
     simp[ptr,zc]) g10) ?_
    rintro _ a11 w11 ⟨rfl,g11⟩;simp only[jP,Exit.then,Exit.inBlock];refine⟨n-1,by omega,init,((b,o),(x,none))::X,K++YC b o x b' cap,by have:=hWL.step (b':=b') (cap:=cap) hfr;rwa [hx,show bG b' 0 []=[]from rfl,z8]at this,?_,by omega,?_⟩
    ·rw[hx]at hxs;simp[Ex.bV]at hxs;omega
    ·have hES2:((init++((b,o),((x,none):Nd))::X:KL).map fun k=>[ptr k.1])=ES:=by rw[← hES];simp
     simp only[SL,hES2]
     exact g11.envTo (by
      intro t;simp only[aY];by_cases h2:t=2
      ·subst h2;simp
      by_cases h3:t=3
      ·subst h3;simp
      by_cases h4:t=4
      ·subst h4;simp
      ·simp[h2,h3,h4])
   ·obtain rfl:=e2 hx;have hET:ES.take init.length=RW init b' 0:=by rw[← hES];simp[RW]
    have hEL:init.length≤ES.length:=by rw[← hES];simp
    have hlim:∀ i,i≤x.kids.length→(init.length+i+1)*8≤140737488355328:=fun i hi=>by omega
    have hk0:x.kids.length≠0:=fun h=>hx (zZ.1 h)
    refine wp_mono (GG.iJ gK (G:=GS 24) (S:={ env:=[(0, .junk),(2, .own 0 0),(3, .i (ptr (b3,0))),(4, .osl 1 1 0 init.length),(5,(.i (.iref [.int x.kind, .int x.col, .bool x.val.null, .int x.val.n, .lit (.slice (some ⟨b',0,none⟩) x.kids.length cap)]))),(6, .junk),(13, .junk),(37, .int x.kids.length),(38, .int 0),(39, .junk)],st:=[some (.box zc),some (.arr 1 ES)] }) (e:=.normal) (S':={ env:=[(0, .junk),(2, .own 0 0),(3, .i (ptr (b3,0))),(4, .osl 2 1 0 (init.length+x.kids.length)),(5,(.i (.iref [.int x.kind, .int x.col, .bool x.val.null, .int x.val.n, .lit (.slice (some ⟨b',0,none⟩) x.kids.length cap)]))),(6, .int (x.kids.length-1)),(13, .junk),(37, .int x.kids.length),(38, .int x.kids.length),(39, .bool false)],st:=[some (.box zc),none,some (.arr 1 (RW init b' x.kids.length))] }) (by kernel_rfl) (by
     simp;rw[aW (YS b3 b' cap x init ES) x.kids.length (by simp[YS])]
     ·rw[aD];simp[YS,hk0,eP hk0,zc,ptr]
     ·intro i hi;have w2:IntKind.i64.wrap ((i:Int)+1)=i+1:=wrO;have hi0:(i:Int)<x.kids.length:=by omega
      by_cases h0:i=0
      ·subst h0;have hl:(init.length+1)*8≤140737488355328:=by omega
       have hR:RW init b' 0++[[.lit (.pointer (some ⟨b',0,none⟩))]]=RW init b' 1:=by simpa [ptr]using FP init b' 0
       simp[YS,zc,ptr,YJ,hi,hET,hEL,hl,hR]
      ·have hl:=hlim i (by omega);have hT:(RW init b' i).take (init.length+i)=RW init b' i:=zY (by rw[PH];omega);have hR:RW init b' i++[[.lit (.pointer (some ⟨b',i*5,none⟩))]]=RW init b' (i+1):=by simpa [ptr]using FP init b' i
       simp[YS,h0,eP h0,zc,ptr,w2,hi,hT,PH,hl,hR,← Nat.add_assoc]) g10) ?_
    rintro _ a11 w11 ⟨rfl,g11⟩;simp only[jP,Exit.then,Exit.inBlock];refine⟨n-1,by omega,init++bG b' 0 x.kids,[],K++YC b o x b' cap,hWL.step hfr,?_,by omega,?_⟩
    ·rw[yG,List.sum_append,nQ];omega
    ·have g12:=g11.settle [2,3,4]
     have hR:List.map (fun k:(Nat×Nat)×Nd=>[ptr k.1]) (init++bG b' 0 x.kids++[])=RW init b' x.kids.length:=by
      rw[z8,yG,nR];simp[RW]
     have hl:(init++bG b' 0 x.kids).length=init.length+x.kids.length:=by rw[zR,nS]
     simp only[SL,hR,hl]
     have hs:Av.settle [2,3,4] 0 (aY [(0, .junk),(2, .own 0 0),(3, .i (ptr (b3,0))),(4, .osl 2 1 0 (init.length+x.kids.length)),(5, .i (.iref [.int x.kind, .int x.col, .bool x.val.null, .int x.val.n, .lit (.slice (some ⟨b',0,none⟩) x.kids.length cap)])),(6, .int (x.kids.length-1)),(13, .junk),(37, .int x.kids.length),(38, .int x.kids.length),(39, .bool false)]) (aT [some (.box zc),none,some (.arr 1 (RW init b' x.kids.length))])={ env:=[(2, .own 0 0),(3, .i (ptr (b3,0))),(4, .osl 1 1 0 (init.length+x.kids.length))],st:=[some (.box zc),some (.arr 1 (RW init b' x.kids.length))] }:=by
      simp[zc,ptr]
     rw[hs]at g12
     exact g12.envTo (by
      intro t;simp only[aY];by_cases h2:t=2
      ·subst h2;simp
      by_cases h3:t=3
      ·subst h3;simp
      by_cases h4:t=4
      ·subst h4;simp
      ·simp[h2,h3,h4])
end Go.Av.V.Sx
namespace Go.Av
def unC:IV→IV
 | .iref [c]=>c
 | c=>c
theorem ACX (c:IV):unC (PR c)=c:=by
 unfold PR;split
 ·rename_i h
  cases c with
  | iref cs=>simp[jR]at h
  | _=>rfl
 ·rfl
def o6 (k ix off:Nat):Option Blk→Option IV
 | some (.arr k' es)=>tst (decide (k'=k∧off≤k)) (bnd (iP es ix) fun e=>some (.iref (dropE off e)))
 | some (.tre k' es)=>tst (decide (k'=k∧off≤k)) (bnd (iP es ix) fun e=>some (.iref (dropE off (e.map unC))))
 | _=>none
def AH5 (st:Store):AV→Option IV
 | .ownE id k ix off=>o6 k ix off (st id)
 | v=>CG st v
def GY (st:Store):List AV→Option (List AV)
 | []=>some []
 | c::r=>bnd (AH5 st c) fun v=>bnd (GY st r) fun l=>some (.i v::l)
def QL (call:dG) (g:FuncId) (args:List AV) (st:StL):Option (AV×StL):=bnd (GY (aT st) args) fun us=>WI call g us st
theorem UCells.toI {w:World} {m:Mem} (hm:mM w m):∀ {cs:List IV} {vs:List Value} {F:List Nat},UCells w m cs vs F→ICells (iW w) (cs.map unC) vs
 | _,_,_, .nil=>.nil
 | _,_,_, .lit o r=>.cons (.lit _) o (r.toI hm)
 | _,_,_, .isl0 c r=>.cons (.isl0 _ _ c) rfl (r.toI hm)
 | _,_,_, .isl hn hr hk hl hf hc g r=>by
  have:=(TCells.isl hn hr hk hl hf hc g .nil).toI
  cases this with
  | cons a _ _=>exact .cons a rfl (r.toI hm)
 | _,_,_, .kn a o r=>.cons (a.mono (nP hm)) o (r.toI hm)
theorem JL {w:World} {m:Mem} {φ:Pl} {st:Store} {id k ix off:Nat} {x:Value} {iv:IV} (hi:Inv w m φ st) (hr:Rep m φ (.ownE id k ix off) x) (h:o6 k ix off (st id)=some iv):IRep (iW w) iv x:=by
 cases hr with
 | @ownE _ _ _ _ b n e =>
  cases hst:st id with
  | none=>rw[hst]at h;simp[o6]at h
  | some blk =>
   rw[hst]at h;obtain⟨hb,hok⟩:=FI hi e hst
   have key:∀ {T:TypeId} {vs:List Value} {es:List (List IV)} {er:List IV},w.heap[b]?=some (.cells vs.toArray T (0,0))→(∀ r∈es,r.length=k)→ICells (iW w) es.flatten (vs.take (k*es.length))→es[ix]?=some er→off≤k→IRep (iW w) (.iref (dropE off er)) (.pointer (some ⟨b,k*ix+off,none⟩)):=by
    intro T vs es er hh hw hc h1 ho
    have he:IElems (iW w) b 0 k es:=gG 0 hw hc fun j v hj=>by
     show w.cell? ⟨b,0+j,none⟩=some v;rw[zK,bX hh];rw[zH]at hj;split at hj
     ·exact hj
     ·cases hj
    obtain⟨hat,hl⟩:=BR he h1;have:=IAt.dropE off hat (by omega);rw[zK]at this;exact .iref this
   cases hok with
   | arr hh hl hpos hw1 hc hfit hm hown1 hone =>
    simp only[o6]at h;obtain⟨hk,h0⟩:=aR.1 h;obtain⟨rfl,ho⟩:=zP hk;obtain⟨er,h1,h2⟩:=aG.1 h0;injection h2 with h2;subst h2;rw[gV]at h1;exact key hh hw1 (hc.mono (nP hi.mem)) h1 ho
   | @tre T k' es vs F hh hl hpos hw1 hc hfit hnd hF hm hone =>
    simp only[o6]at h;obtain⟨hk,h0⟩:=aR.1 h;obtain⟨rfl,ho⟩:=zP hk;obtain⟨er,h1,h2⟩:=aG.1 h0;injection h2 with h2;subst h2;rw[gV]at h1;refine key (es:=es.map (List.map unC)) hh (fun r hr=>?_) ?_ (by rw[zA8,h1];rfl) ho
    ·obtain⟨r',hr',rfl⟩:=xZ.1 hr;rw[x8];exact hw1 r' hr'
    ·have:=hc.toI hi.mem;rw[List.map_flatten]at this;rw[x8];exact this
   | _=>simp[o6]at h
theorem wQ {w:World} {m:Mem} {φ:Pl} {st:Store} (hi:Inv w m φ st):∀ {cs us:List AV} {xs:List Value},RepL m φ cs xs→GY st cs=some us→RepL (iW w) (fun _=>none) us xs
 | [],us,_, .nil,h=>by simp[GY]at h;subst h;exact .nil
 | c::cs,us,_, .cons a b,h=>by
  simp only[GY]at h;obtain⟨v,h1,h2⟩:=aG.1 h;obtain⟨l',h3,h4⟩:=aG.1 h2;injection h4 with h4;subst h4;refine .cons (.i ?_) (wQ hi b h3);unfold AH5 at h1;split at h1
  ·exact JL hi a h1
  ·exact CF hi a h1
theorem ED {C:Ctx} {call:dG} (hcall:CallOk C call) {g:FuncId} {args:List AV} {stl stl':StL} {r:AV} (h:QL call g args stl=some (r,stl')) (hy:g≠uB:=by decide) :
 (∃ fn,C.P.funcs[g]?=some fn∧fn.name≠ "runtime.NumGoroutine"∧fn.body.isSome=true)∧∀ (w:World) (m:Mem) (φ:Pl) (vs:List Value),Inv w m φ (aT stl)→RepL m φ args vs→(∀ id,φ id≠none→id<stl.length) →
  Calls C.P g vs.toArray w (bK w m φ r stl'):=by
 unfold QL at h;obtain⟨us,h1,h2⟩:=aG.1 h;exact tH hcall (us:=us) (fun w m φ vs hi hr=>wQ hi hr h1) h2 hy
end Go.Av
namespace Go.Av
open Go.Av.Mk
def rEx0 (e:Ex):AV×StL:=if e.kids=[]then(.i (.agg e.cells),[])else(tE e 0,[some (PU Ex.cells 5 e.kids)])
noncomputable def R6:List AV→StL→Option (AV×StL)
 | [.i (.iref cs)],[]=>@dite _ (∃ e:Ex,e.size<1000000000∧e.cells=cs) (Classical.propDecidable _) (fun h=>some (rEx0 h.choose)) fun _=>none
 | _,_=>none
theorem AEU {e:Ex} (h:e.size<1000000000):R6 [.i (.iref e.cells)] []=some (rEx0 e):=by
 have hh:∃ x:Ex,x.size<1000000000∧x.cells=e.cells:=⟨e,h,rfl⟩
 unfold R6;simp only;rw[dif_pos hh,Ex.JE _ _ hh.choose_spec.2]
theorem X5 {args:List AV} {st:StL} {r:AV×StL} (h:R6 args st=some r):∃ e:Ex,e.size<1000000000∧args=[.i (.iref e.cells)]∧st=[]∧r=rEx0 e:=by
 unfold R6 at h;split at h
 ·rename_i cs;by_cases hc:∃ e:Ex,e.size<1000000000∧e.cells=cs
  ·rw[dif_pos hc]at h;injection h with h;exact⟨hc.choose,hc.choose_spec.1,by rw[hc.choose_spec.2],rfl,h.symm⟩
  ·rw[dif_neg hc]at h;cases h
 ·cases h
theorem M6:∀ l:List IV,(kI l).map unC=l
 | []=>rfl
 | c::l=>by simp only[kI,yQ,ACX,M6 l]
theorem GK:∀ {l:List IV},kX l=true→kI l=l
 | [],_=>rfl
 | c::l,h=>by
  simp only[kX,zW]at h;simp[kI,PR,h.1,GK h.2]
theorem BZ:∀ {l:List (List IV)},fP l=true→fO l=l
 | [],_=>rfl
 | c::l,h=>by
  simp only[fP,zW]at h;simp[fO,GK h.1,BZ h.2]
def G8 (es:List Ex):Nat→Blk
 | 0=>.arr 5 (Ex.aA es)
 | i+1=>.tre 5 (Ex.aA (es.take (i+1))++fO (Ex.aA (es.drop (i+1))))
@[simp] theorem AMI (r:Nat→Option Nat) (es:List Ex):∀ i,vH r (some (G8 es i))=some (G8 es i)
  | 0=>rfl
  | _+1=>rfl
@[simp] theorem AJ4 (es:List Ex):∀ i,gM (some (G8 es i))=[]
  | 0=>rfl
  | _+1=>rfl
theorem AE7 {es:List Ex} (h:es≠[]):G8 es es.length=.tre 5 (Ex.aA es):=by
 cases hl:es.length with
 | zero=>exact absurd (zZ.1 hl) h
 | succ n =>
  have h1:es.take (n+1)=es:=zY (by omega);have h2:es.drop (n+1)=[]:=List.drop_eq_nil_of_le (by omega);simp[G8,h1,h2,Ex.aA,fO]
theorem TD {es:List Ex} {i:Nat} {a:Ex} (h:es[i+1]?=some a):Ex.aA (es.take (i+1))++fO (Ex.aA (es.drop (i+1)))=Ex.aA (es.take (i+1))++kI a.cells::fO (Ex.aA (es.drop (i+2))):=by
 obtain⟨hl,rfl⟩:=zX.1 h;rw[yL hl];rfl
theorem TE {es:List Ex} {i:Nat} {a:Ex} (h:es[i]?=some a):(Ex.aA (es.take i)).length=i:=by
 have:=(zX.1 h).1;simp;omega
theorem AAD {es:List Ex} {i:Nat} {a:Ex} (h:es[i]?=some a):o6 5 i 0 (some (G8 es i))=some (.iref a.cells):=by
 have hd:∀ l:List IV,dropE 0 l=l:=fun l=>by cases l<;>rfl
 cases i with
 | zero =>
  have:=Ex.aS h;simp[G8,o6,tst,bnd,this,hd]
 | succ i =>
  have h1:=oP (Ex.aA (es.take (i+1))) (kI a.cells) (fO (Ex.aA (es.drop (i+2))));rw[TE h]at h1;simp only[G8,TD h];simp[o6,tst,bnd,h1,hd,M6]
theorem AE6 {es:List Ex} {i:Nat} {a:Ex} (h:es[i]?=some a) (id:Nat) (st:Store):dW id 5 i 0 a.cells st (some (G8 es i))=some (upd st id (some (G8 es (i+1)))):=by
 have hl:BI a.cells=false:=by rw[Ex.aB];simp[BI,AEB]
 have g3:splice a.cells 0 a.cells=some a.cells:=lF rfl;have g4:splice (kI a.cells) 0 a.cells=some a.cells:=lF (by rw[BX])
 cases i with
 | zero =>
  cases es with
  | nil=>simp at h
  | cons x es =>
   simp at h;subst h;by_cases hb:fP (Ex.aA (x::es))=true
   ·have hb2:=hb;simp only[Ex.aA,fP,zW]at hb2;simp only[Ex.aA]at hb;simp[G8,dW,uI,bnd,tst,gV,g3,g4,hl,hb,Ex.aA,BZ hb2.2]
   ·simp only[Ex.aA]at hb;simp[G8,dW,uI,bnd,tst,gV,g3,g4,hl,hb,Ex.aA,fO]
 | succ i =>
  have hn:=TE h;have h1:=oP (Ex.aA (es.take (i+1))) (kI a.cells) (fO (Ex.aA (es.drop (i+2))));rw[hn]at h1
  have h2:(Ex.aA (es.take (i+1))++kI a.cells::fO (Ex.aA (es.drop (i+2)))).set (i+1) a.cells=Ex.aA (es.take (i+1))++a.cells::fO (Ex.aA (es.drop (i+2))):=by
   rw[List.set_append_right _ _ (by omega),hn,Nat.sub_self,List.set_cons_zero]
  have h3:Ex.aA (es.take (i+2))=Ex.aA (es.take (i+1))++[a.cells]:=by rw[aL h,Ex.bB]
  simp only[G8,TD h,h3,yR,xV];simp[dW,bnd,tst,h1,g4,h2]
end Go.Av
namespace Go.Proofs.YtmcjmafajkeecaaGreatDoor.P
open Go Go.Av Go.Av.Mk
set_option maxRecDepth 4000
set_option maxHeartbeats 4000000
noncomputable def AI9:FuncId→Option (List AV→StL→Option (AV×StL))
 | 24=>some R6
 | _=>none
noncomputable def C3:Ctx:={ P:=Tryz.prog,G:=GS,ownArgs:=dU,keepRes:=keepR,eqT:=vI,prim:=AI9,tree:=true }
theorem ADU:PrimOk C3:=by
 have key:∀ g q,C3.prim g=some q→g=24∧q=R6:=by
  intro g q h;have h:AI9 g=some q:=h;unfold AI9 at h;split at h
  ·injection h with h;exact⟨rfl,h.symm⟩
  ·cases h
 constructor
 ·intro g args st p h;unfold bM at h
  cases hq:C3.prim g with
  | none=>rw[hq]at h;cases h
  | some q =>
   obtain⟨rfl,rfl⟩:=key g q hq;exact⟨Tryz.f24,Tryz.func24,by decide,rfl⟩
 ·intro g args stl r stl' h w m φ vs hi hr h0;unfold bM at h
  cases hq:C3.prim g with
  | none=>rw[hq]at h;cases h
  | some q =>
   obtain⟨rfl,rfl⟩:=key g q hq;rw[hq]at h;obtain⟨e,he,rfl,rfl,hres⟩:=X5 h;unfold rEx0 at hres;split at hres
   ·injection hres with h1 h2;subst h1;subst h2;exact AU he hi hr h0
   ·rename_i hk;injection hres with h1 h2;subst h1;subst h2;exact Go.Av.V.Sx.R8 he hk hi hr h0
theorem AM6:SoundOk C3:=iF (C:=C3) ft nt eqS mo ADU
attribute [local simp] QL WI GY AH5 mfA mfR AN4 AN5 mfC ACF jL
theorem QK {es:List Ex} {i:Nat} {a:Ex} (ha:es[i]?=some a) (hs:a.size<1000000000):QL (aH C3) 24 [.ownE 0 5 i 0] [some (G8 es i)]=some (if a.kids=[]then .i (.agg a.cells)else tE a 1,if a.kids=[]then [some (G8 es i)]else [some (G8 es i),some (PU Ex.cells 5 a.kids)]):=by
 have h1:aH C3 24 [.i (.iref a.cells)] []=some (rEx0 a):=by
  rw[aN (C:=C3) (p:=R6) rfl];exact AEU hs
 have h2:=AAD ha;by_cases hk:a.kids=[]
 ·simp only[rEx0,hk,if_true]at h1 ⊢;rw[Ex.aB,hk]at h1 h2 ⊢;simp only[Ex.aA]at h1 h2 ⊢;simp[h1,h2]
 ·simp only[rEx0,hk,if_false]at h1 ⊢;simp[h1,h2,tE]
end Go.Proofs.YtmcjmafajkeecaaGreatDoor.P
namespace Go.Proofs.YtmcjmafajkeecaaGreatDoor.G
open Go Go.Av
set_option maxRecDepth 4000
set_option maxHeartbeats 4000000
noncomputable def AIA:FuncId→Option (List AV→StL→Option (AV×StL))
 | 24=>some (QL (aH P.C3) 24)
 | _=>none
noncomputable def C2:Ctx:={ P:=Tryz.prog,G:=GS,ownArgs:=dU,keepRes:=keepR,eqT:=vI,prim:=AIA,tree:=true }
@[simp] theorem AeL:C2.P=Tryz.prog:=(rfl)
@[simp] theorem AeM (f):C2.G f=GS f:=(rfl)
@[simp] theorem AeI (f):C2.ownArgs f=dU f:=(rfl)
@[simp] theorem AeJ (f):C2.keepRes f=keepR f:=(rfl)
@[simp] theorem AeK (f):C2.eqT f=vI f:=(rfl)
@[simp] theorem AeH:C2.tree=true:=(rfl)
theorem ADV:PrimOk C2:=by
 have h3:=aX P.AM6
 have key:∀ g q,C2.prim g=some q→g=24∧q=QL (aH P.C3) g:=by
  intro g q h;have h:AIA g=some q:=h;unfold AIA at h;split at h
  ·injection h with h;exact⟨rfl,h.symm⟩
  ·cases h
 constructor
 ·intro g args st p h;unfold bM at h
  cases hq:C2.prim g with
  | none=>rw[hq]at h;cases h
  | some q =>
   obtain⟨rfl,rfl⟩:=key g q hq;rw[hq]at h;exact(ED h3 (r:=p.1) (stl':=p.2) h).1
 ·intro g args stl r stl' h w m φ vs hi hr h0;unfold bM at h
  cases hq:C2.prim g with
  | none=>rw[hq]at h;cases h
  | some q =>
   obtain⟨rfl,rfl⟩:=key g q hq;rw[hq]at h;exact(ED h3 h).2 w m φ vs hi hr h0
theorem nM:SoundOk C2:=iF (C:=C2) ft nt eqS mo ADV
theorem AO7:aH C2 44 [.i (.isl [])] []=some (.nils,[]):=by
 rw[aF rfl Tryz.func44 rfl rfl];simp
theorem AK2 {ks:List Ex} (h:ks≠[]) (hl:ks.length<1000000000):aH C2 44 [.i (.isl (Ex.aA ks))] []=some (.osl 0 5 0 ks.length,[some (.arr 5 (Ex.aA ks))]):=by
 rw[aF rfl Tryz.func44 rfl rfl];have h1:56*(ks.length:Int)≤281474976710656:=by omega
 simp[h,h1];unfold over;simp
theorem AGV:aH C2 45 [.i (.isl [])] []=some (.nils,[]):=by
 rw[aF rfl Tryz.func45 rfl rfl];simp
theorem ABK {l:List Int} (h:l≠[]) (hl:l.length<1000000000):aH C2 45 [.i (.isl (aI l))] []=some (.osl 0 1 0 l.length,[some (.arr 1 (aI l))]):=by
 rw[aF rfl Tryz.func45 rfl rfl];have h1:8*(l.length:Int)≤281474976710656:=by omega
 simp[h,h1];unfold over;simp
theorem U7:aH C2 46 [.i (.isl [])] []=some (.nils,[]):=by
 rw[aF rfl Tryz.func46 rfl rfl];simp
theorem L8 {ks:List Pn} (h:ks≠[]) (hl:ks.length<1000000000):aH C2 46 [.i (.isl (Pn.aA ks))] []=some (.osl 0 5 0 ks.length,[some (.arr 5 (Pn.aA ks))]):=by
 rw[aF rfl Tryz.func46 rfl rfl];have h1:88*(ks.length:Int)≤281474976710656:=by omega
 simp[h,h1];unfold over;simp
theorem AO6 {es:List Ex} {i:Nat} {a:Ex} (ha:es[i]?=some a) (hs:a.size<1000000000):aH C2 24 [.ownE 0 5 i 0] [some (G8 es i)]=some (if a.kids=[]then .i (.agg a.cells)else tE a 1,if a.kids=[]then [some (G8 es i)]else [some (G8 es i),some (Mk.PU Ex.cells 5 a.kids)]):=by
 rw[aN (C:=C2) (p:=QL (aH P.C3) 24) rfl];exact P.QK ha hs
def zp:List AV:=[.int 0, .int 0, .nils, .nils, .nils]
def EV (b3:Nat) (v4 v5 v6 v7 v14 v38 v39 v40 v76 v77 v78:AV):List (Nat×AV):=[(0, .junk),(2, .own 0 0),(3, .i (ptr (b3,0))),(4,v4),(5,v5),(6,v6),(7,v7),(14,v14),(38,v38),(39,v39),(40,v40),(76,v76),(77,v77),(78,v78)]
def kT (l:PL):List (List IV):=l.map fun k=>[ptr k.1]
def SLp (b3:Nat) (todo X:PL):AS:={ env:=EV b3 (.osl 1 1 0 todo.length) .junk .junk .junk .junk .junk .junk .junk .junk .junk .junk,st:=[some (.box zp),some (.arr 1 (kT (todo++X)))] }
def SRp (b3 n o:Nat) (ES:List (List IV)) (v6 v7 v14 v38 v39 v40 v76 v77 v78:AV) (cells:List AV) (L:StL):AS:={ env:=EV b3 (.osl 1 1 0 n) (.own 2 o) v6 v7 v14 v38 v39 v40 v76 v77 v78,st:=some (.box zp)::some (.arr 1 ES)::some (.box cells)::L }
theorem K6:∀ (l:PL),∀ c∈(kT l).flatten,∃ v,c=.lit v
 | [],c,h=>by simp[kT]at h
 | k::l,c,h=>by
  simp only[kT,yQ,zD,zV,xS]at h
  rcases h with rfl|h
  ·exact⟨_,rfl⟩
  ·exact K6 l c h
theorem CV (a b x:Option Blk):upd (aT [a,b]) 2 x=aT [a,b,x]:=by
 funext i;rcases i with _|_|_|i<;>simp[aT,upd]
theorem AR8 (b3:Nat) (v4 v5 v5' v6 v7 v14 v38 v39 v40 v76 v77 v78:AV):upd (aY (EV b3 v4 v5 v6 v7 v14 v38 v39 v40 v76 v77 v78)) 5 v5'=aY (EV b3 v4 v5' v6 v7 v14 v38 v39 v40 v76 v77 v78):=by
 funext t;simp only[upd,EV,aY];by_cases h5:t=5
 ·subst h5;simp
 ·simp only[h5,if_false]
def XS (b3 n:Nat) (ES:List (List IV)) (pre post:List Value) (k t:Int) (es:List Ex) (aC aK:AV) (v14:AV) (i:Nat):AS :=
 SRp b3 n pre.length ES (jk i (.int (i-1))) .junk v14 (.int es.length) (.int i) (jk i (.bool true)) .junk .junk .junk (gI pre [.int k, .int t, .osl 3 5 0 es.length,aC,aK] post) [some (G8 es i)]
set_option maxHeartbeats 8000000
def jj:List (Nat×AV):=[(4, .junk),(5, .junk),(6, .junk),(7, .junk),(14, .junk),(38, .junk),(39, .junk),(40, .junk),(76, .junk),(77, .junk),(78, .junk)]
theorem AG5:AKE (fun _ _ _=>True):=fun _ _ _ _ _ _ _ _=>trivial
theorem AGY:IntKind.i64.wrap 1=1:=wrO
def RWp (init:PL) (b' i:Nat):List (List IV):=kT init++(List.range i).map fun j=>[ptr (b',j*5)]
theorem AC6 (init:PL) (b' i:Nat):(RWp init b' i).length=init.length+i:=by simp[RWp,kT]
theorem AFH (init:PL) (b' i:Nat):RWp init b' i++[[ptr (b',i*5)]]=RWp init b' (i+1):=by simp[RWp,zB6]
theorem IQ (b:Nat):∀ (o:Nat) (l:List Pn),kT (l9 b o l)=(List.range l.length).map fun j=>[ptr (b,o+j*5)]
 | _,[]=>by simp[l9,kT]
 | o,a::l=>by
  have ih:=IQ b (o+5) l;simp only[kT]at ih ⊢;simp only[l9,yQ,ih,zS,zB2,zA6];simp only[List.cons.injEq,Nat.zero_mul,yF,true_and];apply y8;intro j _;simp only[Function.comp,Nat.succ_eq_add_one];rw[show o+5+j*5=o+(j+1)*5 by omega]
theorem O4 (b:Nat):∀ (o:Nat) (l:List Pn),(l9 b o l).length=l.length
 | _,[]=>rfl
 | o,a::l=>by simp[l9,O4 b (o+5) l]
theorem O0 (b:Nat):∀ (o:Nat) (l:List Pn),((l9 b o l).map fun k=>k.2.size).sum=Pn.bV l
 | _,[]=>by simp[l9,Pn.bV]
 | o,a::l=>by simp[l9,Pn.bV,O0 b (o+5) l]
theorem O3 {b:Nat}:∀ {o:Nat} {l:List Pn},∀ q∈l9 b o l,q.2∈l∧q.1.1=b
 | _,[],q,h=>by simp[l9]at h
 | o,a::l,q,h=>by
  simp only[l9,zQ]at h
  rcases h with rfl|h
  ·simp
  ·have:=O3 q h;exact⟨by simp[this.1],this.2⟩
def iE (es:List Ex):Nat:=if es.length=0 then 100 else 3
def lE0 (es:List Ex):StL:=if es.length=0 then []else [some (.arr 5 (Ex.aA es))]
def lE (es:List Ex):StL:=if es.length=0 then []else [some (.tre 5 (Ex.aA es))]
def iC (es:List Ex) (cs:List Int):Nat:=if cs.length=0 then 101 else 3+(lE es).length
def lC (es:List Ex) (cs:List Int):StL:=if cs.length=0 then lE es else lE es++[some (.arr 1 (aI cs))]
def iK (es:List Ex) (cs:List Int) (ks:List Pn):Nat:=if ks.length=0 then 102 else 3+(lC es cs).length
def lK (es:List Ex) (cs:List Int) (ks:List Pn):StL:=if ks.length=0 then lC es cs else lC es cs++[some (.arr 5 (Pn.aA ks))]
def YP (b3 n o:Nat) (ES:List (List IV)) (init:PL) (b' nk:Nat) (cells:List AV) (i:Nat):AS :=
 { env:=EV b3 (if i=0 then .osl 1 1 0 n else .osl 3 1 0 (n+i)) (.own 2 o) .junk (jk i (.int (i-1))) (.bool true) .junk .junk .junk (.int nk) (.int i) (jk i (.bool true)),
   st:=some (.box zp)::(if i=0 then some (.arr 1 ES)else none)::some (.box cells)::(if i=0 then []else [some (.arr 1 (RWp init b' i))]) }
theorem ZG (a b c:Option Blk):∀ (l:StL) {x:Option Blk},aT (a::b::c::(l++[x])) (3+l.length)=x:=by
 intro l x;rw[l7]
 have:(a::b::c::(l++[x]))[3+l.length]?=some x:=by
  rw[show 3+l.length=l.length+1+1+1 by omega];simp
 rw[this];rfl
theorem qM {p:Pn} (hsz:p.size<1000000000) (hth:p.thin) (hty:p.tiny) {wi:World} {mi:Mem} {vs:List Value} (hi:Inv wi mi (fun _=>none) (aT [])) (hr:RepL mi (fun _=>none) [.i (.iref p.cells)] vs) :
 Calls Tryz.prog 17 vs.toArray wi (wM wi mi p):=by
 refine calls_of_wp (fn:=Tryz.f17) Tryz.func17 rfl ?_;have hv1:vs.length=1:=by simpa using hr.length.symm
 have g0:GR wi mi 91 (fun id=>id<({ env:=[(0, .i (.iref p.cells))],st:=[] }:AS).st.length) (fun _ _ _=>True) (aY [(0, .i (.iref p.cells))]) (aT []) { tmps:=vs.toArray++Array.replicate (91-vs.toArray.size) undef,defers:=[] } wi:=by
  refine⟨⟨mi,fun _=>none,hi,?_, .refl _ _ _,fun id h=>absurd rfl h,trivial⟩,by simp;omega,rfl⟩;intro t;have:=qJ (m:=mi) (φ:=fun _=>none) (91-vs.toArray.size) hr t
  cases t with
  | zero=>simpa [aY,BM]using this
  | succ t=>simp only[aY];simp;exact .junk _
 refine wp_seq (wp_mono (GR.iJ nM (G:=GS 17) (S:={ env:=[(0, .i (.iref p.cells))],st:=[] }) (e:=.normal) (S':={ env:=[(0, .i (.iref p.cells)),(2, .own 0 0),(3, .junk)]++jj,st:=[some (.box zp)] }) AG5 (by kernel_rfl) (by simp[zp,jj]) g0) ?_);rintro _ a1 w1 ⟨rfl,g1⟩;refine wp_seq (wp_mono (GR.iJ nM (G:=GS 17) (S:={ env:=[(0, .i (.iref p.cells)),(2, .own 0 0),(3, .junk)]++jj,st:=[some (.box zp)] }) (e:=.normal) (S':={ env:=[(0, .i (.iref p.cells)),(2, .own 0 0),(3, .own 1 0)]++jj,st:=[some (.box zp),some (.box (kW p.cells))] }) AG5 (by kernel_rfl) (by rw[Pn.aB];simp[zp,jj]) g1) ?_);rintro _ a2 w2 ⟨rfl,g2⟩
 obtain⟨b3,g3⟩:=g2.ATJ (u:=3) (id:=1) (p:=p) (st':=aT [some (.box zp)]) rfl rfl (by
  intro i blk h
  cases i with
  | zero=>simp[aT]at h;subst h;exact⟨by omega,rfl,by simp[fZ,zp]⟩
  | succ i=>simp[aT]at h)
 have g3:=g3 (aY [(2, .own 0 0),(3, .i (ptr (b3,0)))]) (by
  intro t;simp only[aY];by_cases h2:t=2
  ·subst h2;exact .inr (.inr ⟨rfl,by simp[aY,jG,aT,jj]⟩)
  ·by_cases h3:t=3
   ·subst h3;exact .inr (.inl ⟨rfl,rfl⟩)
   ·simp[h2,h3])
 have g3:=g3.ok' (ok':=fun id=>id<({ env:=[(2, .own 0 0),(3, .i (ptr (b3,0)))],st:=[some (.box zp)] }:AS).st.length) (by
  intro i h
  cases i with
  | zero=>simp
  | succ i=>simp[aT]at h)
 refine wp_seq (wp_mono (GR.iJ nM (G:=GS 17) (S:={ env:=[(2, .own 0 0),(3, .i (ptr (b3,0)))],st:=[some (.box zp)] }) (e:=.normal) (S':=SLp b3 [((b3,0),p)] []) (RAW.ACD _ _ _ _ _) (by kernel_rfl) (by simp[SLp,EV,kT,ptr,zp]) g3) ?_);rintro _ a3 w3 ⟨rfl,g4⟩;clear g0 g1 g2 g3;refine wp_seq (wp_block ?_);refine C8 (fun n a w=>∃ (todo X H:PL) (F:List Nat),H.Perm todo∧(todo.map fun k=>k.2.size).sum=n∧n<1000000000∧(∀ q∈todo,q.2.thin∧q.2.tiny)∧GR wi mi 91 (fun id=>id<(SLp b3 todo X).st.length) (RAW wi b3 p F H) (aY (SLp b3 todo X).env) (aT (SLp b3 todo X).st) a w) ?_ (n:=p.size) ⟨[((b3,0),p)],[],[((b3,0),p)],[], .refl _,by simp,hsz,by simpa using ⟨hth,hty⟩,g4⟩;clear g4;rintro n a w ⟨todo,X,H,F,hperm,hsum,hn,hall,g⟩
 rcases List.eq_nil_or_concat todo with rfl|⟨init,k,rfl⟩
 ·obtain rfl:=List.perm_nil.1 hperm;refine wp_mono (GR.iJ nM (G:=GS 17) (S:=SLp b3 [] X) (e:=.exit 0) (S':={ env:=EV b3 (.osl 1 1 0 0) .junk .junk .junk (.bool false) .junk .junk .junk .junk .junk .junk,st:=[some (.box zp),some (.arr 1 (kT X))] }) (RAW.ACD _ _ _ _ _) (by kernel_rfl) (by simp[SLp,EV,zp]) g) ?_;rintro _ a5 w5 ⟨rfl,g5⟩;simp only[jP,Exit.then,Exit.inBlock,if_true];obtain⟨v0,v1,v2,v3,v4,post,hone,g6⟩:=g5.AOG (u:=3) (k:=2) rfl rfl (by simp)
  have g6:=(g6 (aY [(2, .own 0 0),(3, .own 2 0)]) (by
   intro t;simp only[aY];by_cases h2:t=2
   ·subst h2;exact .inr (.inr (by simp[aY,EV]))
   ·by_cases h3:t=3
    ·subst h3;exact .inr (.inl ⟨rfl,rfl⟩)
    ·simp[h2,h3])).ok' (ok':=fun id=>id<({ env:=[(2, .own 0 0),(3, .own 2 0)],st:=[some (.box zp),some (.arr 1 (kT X)),some (.box (dR [v0,v1,v2,v3,v4]++dR post))] }:AS).st.length) (by
   intro i h
   simp at h ⊢;omega)
  rw[CV]at g6
  refine wp_mono (GR.iJ nM (G:=GS 17) (S:={ env:=[(2, .own 0 0),(3, .own 2 0)],st:=[some (.box zp),some (.arr 1 (kT X)),some (.box (dR [v0,v1,v2,v3,v4]++dR post))] }) (e:=.ret) (S':={ env:=[(0, .junk),(2, .own 0 0),(3, .own 2 0)]++jj,st:=[some (.box (dR [v0,v1,v2,v3,v4])),some (.arr 1 (kT X)),some (.box (dR [v0,v1,v2,v3,v4]++dR post))] }) (CPY.ACD _ _ _ _ _ _ _ _) (by kernel_rfl) (by
   have hz:dR [v0,v1,v2,v3,v4]=[.i (.lit v0), .i (.lit v1), .i (.lit v2), .i (.lit v3), .i (.lit v4)]:=rfl;rw[hz]
   simp[zp,jj,tL,vS]) g6) ?_
  rintro _ a6 w6 ⟨rfl,g7⟩;obtain⟨⟨m,φ,q1,q2,q3,q4,q5⟩,q6,q7⟩:=g7
  obtain⟨v,k1,k2⟩:=kQ (C:=C2) (fn:=Tryz.f17) (keep:=false) (na:=0) (S:={ env:=[(0, .junk),(2, .own 0 0),(3, .own 2 0)]++jj,st:=[some (.box (dR [v0,v1,v2,v3,v4])),some (.arr 1 (kT X)),some (.box (dR [v0,v1,v2,v3,v4]++dR post))] }) (r:=.i (.agg [.lit v0, .lit v1, .lit v2, .lit v3, .lit v4])) (stl':=[]) (fun id h=>absurd rfl h) ⟨⟨⟨m,φ,q1,q2,q3,q4, .nil _ _ _⟩,q6,q7⟩,zA9 _⟩ (by
   show finish C2 false [ResultVar.cell 2 27] 0 _=_;have hz:dR [v0,v1,v2,v3,v4]=[.i (.lit v0), .i (.lit v1), .i (.lit v2), .i (.lit v3), .i (.lit v4)]:=rfl;rw[hz]
   simp)
  have hv:v=.agg #[v0,v1,v2,v3,v4]:=by
   obtain⟨_,_,_,e,r,_⟩:=k2;injection e with e;subst e
   cases r with
   | i r=>cases r with
    | agg r =>
     cases r with|cons a0 _ r=>cases r with|cons a1 _ r=>cases r with|cons a2 _ r=>cases r with|cons a3 _ r=>cases r with|cons a4 _ r =>
     cases r
     rw[lV a0,lV a1,lV a2,lV a3,lV a4]
  subst hv;refine⟨q7,_,k1,v0,v1,v2,v3,v4,F,m,rfl,hone,q1.mem,⟨q3.size,q3.os,q3.tape,q3.output,q3.block,q3.mle,q3.mnew, .refl _,fun _ _ _ _ e=>by cases e⟩,q5.th,q5.cells,q5.nd,fun f hf=>?_,q5.kc⟩;obtain⟨z1,z2,z3,z4,z5⟩:=q5.all f hf;exact⟨z1,z2,(by intro _ _ _ e;cases e),z4,z5⟩
 ·obtain⟨⟨b,o⟩,x⟩:=k;rw[List.concat_eq_append]at hperm hsum hall g
  have hlen:∀ l:PL,l.length≤(l.map fun k=>k.2.size).sum:=by
   intro l
   induction l with
   | nil=>simp
   | cons a l ih=>have:=Pn.qX a.2;simp;omega
  have hil:=hlen init;simp at hsum;have hq:((b,o),x)∈H:=hperm.mem_iff.2 (by simp);have hxs:=Pn.size_eq x;have hkl:=Pn.gU x.kids;have hpos:(0:Int)<(init.length:Int)+1:=by omega
  have w1:IntKind.i64.wrap (init.length:Int)=init.length:=wrO;generalize hES:kT (init++[((b,o),x)]++X)=ES at *
  have hnth:iP ES init.length=some [ptr (b,o)]:=by
   rw[gV,← hES];simp[kT]
  have hlit:∀ c∈ES.flatten,∃ v,c=.lit v:=by rw[← hES];exact K6 _
  have htake:ES.take init.length=kT init:=by rw[← hES];simp[kT]
  have hESl:init.length≤ES.length:=by rw[← hES];simp[kT]
  have hlt:(init.length:Int)<(init.length:Int)+1:=by omega
  have hlt2:(init.length:Int)≤(init.length:Int)+1:=by omega
  obtain⟨hxt,hxy⟩:=hall ((b,o),x) (by simp);simp only at hxt hxy;refine wp_seq (wp_mono (GR.iJ nM (G:=GS 17) (S:=SLp b3 (init++[((b,o),x)]) X) (e:=.normal) (S':={ env:=EV b3 (.osl 1 1 0 (init.length+1)) .junk .junk .junk (.bool true) .junk .junk .junk .junk .junk .junk,st:=[some (.box zp),some (.arr 1 ES)] }) (RAW.ACD _ _ _ _ _) (by kernel_rfl) (by simp only[SLp,hES];simp[EV,zp,hpos]) g) ?_);rintro _ a5 w5 ⟨rfl,g5⟩;clear g;refine wp_block ?_;refine wp_seq (wp_mono (GR.iJ nM (G:=GS 17) (S:={ env:=EV b3 (.osl 1 1 0 (init.length+1)) .junk .junk .junk (.bool true) .junk .junk .junk .junk .junk .junk,st:=[some (.box zp),some (.arr 1 ES)] }) (e:=.normal) (S':={ env:=EV b3 (.osl 1 1 0 (init.length+1)) (.i (ptr (b,o))) .junk .junk (.bool true) .junk .junk .junk .junk .junk .junk,st:=[some (.box zp),some (.arr 1 ES)] }) (RAW.ACD _ _ _ _ _) (by kernel_rfl) (by simp only[ptr]at hnth;simp[EV,ptr,zp,hnth,w1,hlt]) g5) ?_);rintro _ a6 w6 ⟨rfl,g6⟩;clear g5;refine wp_seq (wp_mono (GR.iJ nM (G:=GS 17) (S:={ env:=EV b3 (.osl 1 1 0 (init.length+1)) (.i (ptr (b,o))) .junk .junk (.bool true) .junk .junk .junk .junk .junk .junk,st:=[some (.box zp),some (.arr 1 ES)] }) (e:=.normal) (S':={ env:=EV b3 (.osl 1 1 0 init.length) (.i (ptr (b,o))) .junk .junk (.bool true) .junk .junk .junk .junk .junk .junk,st:=[some (.box zp),some (.arr 1 ES)] }) (RAW.ACD _ _ _ _ _) (by kernel_rfl) (by simp[EV,ptr,zp,w1,hlt2]) g6) ?_);rintro _ a7 w7 ⟨rfl,g7⟩;clear g6;obtain⟨pre,post,us,ma,e1,e2,e3,e4,e5,g8⟩:=g7.RU (u:=5) (y:=x) rfl (by simp) hq rfl;clear g7;rw[AR8,CV]at g8;subst e3;obtain⟨kd,tb,es,cs,ks⟩:=x;obtain⟨t1,t2,t3,t4,t5⟩:=(Pn.dY _).1 hxt;obtain⟨y1,y2⟩:=(Pn.JP _).1 hxy;simp only[Pn.gW,Pn.bZ,Pn.eT]at t1 t2 t3 t4 t5 y1 y2 hxs hkl;rw[Pn.bD]at g8;have hst:=ADP.ACD wi b3 p F H b us w7 ma
  refine wp_seq (wp_mono (GR.iJ nM (G:=GS 17) (S:=SRp b3 init.length pre.length ES .junk .junk (.bool true) .junk .junk .junk .junk .junk .junk (gI pre [.int kd, .int tb, .i (.isl (Ex.aA es)), .i (.isl (aI cs)), .i (.isl (Pn.aA ks))] post) []) (e:=.normal) (S':=SRp b3 init.length pre.length ES .junk .junk (.bool true) .junk .junk .junk .junk .junk .junk (gI pre [.int kd, .int tb,slA es.length (iE es) 5, .i (.isl (aI cs)), .i (.isl (Pn.aA ks))] post) (lE0 es)) hst (by kernel_rfl) (by
   by_cases he:es=[]
   ·subst he;simp[SRp,EV,zp,AHD,PY,bA,bS,Ex.aA,AO7,slA,lE0]
   ·have hel:es.length≠0:=fun h=>he (zZ.1 h)
    simp[SRp,EV,zp,AHD,PY,bA,bS,AK2 he t1,slA,lE0,iE,he]) (g8.ok' fun id h=>by simp at h ⊢;simp[SRp];omega)) ?_)
  rintro _ a9 w9 ⟨rfl,g9⟩;clear g8
  refine wp_seq (wp_mono (GR.AO1 nM (G:=GS 17) (S:=SRp b3 init.length pre.length ES .junk .junk (.bool true) .junk .junk .junk .junk .junk .junk (gI pre [.int kd, .int tb,slA es.length (iE es) 5, .i (.isl (aI cs)), .i (.isl (Pn.aA ks))] post) (lE0 es)) hst
   (PP:=fun e S'=>e=.normal∧∃ v6 v38 v39 v40,S'=SRp b3 init.length pre.length ES v6 .junk (.bool true) v38 v39 v40 .junk .junk .junk (gI pre [.int kd, .int tb,slA es.length (iE es) 5, .i (.isl (aI cs)), .i (.isl (Pn.aA ks))] post) (lE es)) (by kernel_rfl) (by
   by_cases he:es=[]
   ·subst he;refine⟨.normal,SRp b3 init.length pre.length ES .junk .junk (.bool true) (.int 0) (.int 0) (.bool false) .junk .junk .junk (gI pre [.int kd, .int tb,slA 0 (iE []) 5, .i (.isl (aI cs)), .i (.isl (Pn.aA ks))] post) (lE []),?_,rfl,_,_,_,_,rfl⟩;simp[SRp,EV,zp,AHD,PY,bA,bS,slA,lE,lE0];rw[aD];simp[bA,bS]
   ·have hel:es.length≠0:=fun h=>he (zZ.1 h)
    refine⟨.normal,SRp b3 init.length pre.length ES (.int (es.length-1)) .junk (.bool true) (.int es.length) (.int es.length) (.bool false) .junk .junk .junk (gI pre [.int kd, .int tb,slA es.length (iE es) 5, .i (.isl (aI cs)), .i (.isl (Pn.aA ks))] post) (lE es),?_,rfl,_,_,_,_,rfl⟩;simp[SRp,EV,zp,AHD,PY,bA,bS,slA,lE,lE0,iE,he];rw[aW (XS b3 init.length ES pre post kd tb es (.i (.isl (aI cs))) (.i (.isl (Pn.aA ks))) (.bool true)) es.length (by simp[XS,SRp,EV,zp,G8])]
    ·rw[aD];have hend:=AE7 he;simp[hend,XS,SRp,EV,zp,AHD,PY,bA,bS,eP hel]
    ·intro i hi;have h3:=zT hi;have hs:=y1 _ (zU h3);generalize es[i]=a at h3 hs;have hk:=AO6 h3 hs;have hput:=AE6 h3;have w2:IntKind.i64.wrap ((i:Int)+1)=i+1:=wrO;by_cases hkk:a.kids=[]
     ·simp only[hkk,if_true,Ex.aB,Ex.aA]at hk hput;simp[XS,SRp,EV,zp,AHD,PY,bA,bS,hi,hk,w2,hput]
     ·simp only[hkk,if_false,tE]at hk;simp only[Ex.aB,Ex.wG]at hput
      simp[XS,SRp,EV,zp,AHD,PY,bA,bS,hi,hk,w2,hput]) g9) ?_)
  rintro _ a10 w10 ⟨e,S',rfl,⟨rfl,v6,v38,v39,v40,rfl⟩,g10⟩;clear g9
  have g10:=(g10.envTo (env':=aY (SRp b3 init.length pre.length ES .junk .junk (.bool true) .junk .junk .junk .junk .junk .junk (gI pre [.int kd, .int tb,slA es.length (iE es) 5, .i (.isl (aI cs)), .i (.isl (Pn.aA ks))] post) (lE es)).env) (by
   intro t;simp only[SRp,EV,aY];by_cases h6:t=6
   ·subst h6;simp
   by_cases h38:t=38
   ·subst h38;simp
   by_cases h39:t=39
   ·subst h39;simp
   by_cases h40:t=40
   ·subst h40;simp
   ·simp[h6,h38,h39,h40]))
  refine wp_seq (wp_mono (GR.iJ nM (G:=GS 17) (S:=SRp b3 init.length pre.length ES .junk .junk (.bool true) .junk .junk .junk .junk .junk .junk (gI pre [.int kd, .int tb,slA es.length (iE es) 5, .i (.isl (aI cs)), .i (.isl (Pn.aA ks))] post) (lE es)) (e:=.normal) (S':=SRp b3 init.length pre.length ES .junk .junk (.bool true) .junk .junk .junk .junk .junk .junk (gI pre [.int kd, .int tb,slA es.length (iE es) 5,slA cs.length (iC es cs) 1, .i (.isl (Pn.aA ks))] post) (lC es cs)) hst (by kernel_rfl) (by
   by_cases he:es=[]<;>by_cases hc:cs=[]
   ·subst he;subst hc;simp[SRp,EV,zp,AOV,ADC,bA,bS,aI,AGV,slA,lE,lC]
   ·have hcl:cs.length≠0:=fun h=>hc (zZ.1 h)
    subst he;simp[SRp,EV,zp,AOV,ADC,bA,bS,ABK hc t3,slA,lE,lC,iC,hc]
   ·have hel:es.length≠0:=fun h=>he (zZ.1 h)
    subst hc;simp[SRp,EV,zp,AOV,ADC,bA,bS,aI,AGV,slA,lE,lC,iE,he]
   ·have hel:es.length≠0:=fun h=>he (zZ.1 h)
    have hcl:cs.length≠0:=fun h=>hc (zZ.1 h)
    simp[SRp,EV,zp,AOV,ADC,bA,bS,ABK hc t3,slA,lE,lC,iE,iC,he,hc]) g10) ?_)
  rintro _ a11 w11 ⟨rfl,g11⟩;clear g10
  refine wp_seq (wp_mono (GR.iJ nM (G:=GS 17) (S:=SRp b3 init.length pre.length ES .junk .junk (.bool true) .junk .junk .junk .junk .junk .junk (gI pre [.int kd, .int tb,slA es.length (iE es) 5,slA cs.length (iC es cs) 1, .i (.isl (Pn.aA ks))] post) (lC es cs)) (e:=.normal) (S':=SRp b3 init.length pre.length ES .junk .junk (.bool true) .junk .junk .junk .junk .junk .junk (gI pre [.int kd, .int tb,slA es.length (iE es) 5,slA cs.length (iC es cs) 1,slA ks.length (iK es cs ks) 5] post) (lK es cs ks)) hst (by kernel_rfl) (by
   by_cases he:es=[]<;>by_cases hc:cs=[]<;>by_cases hk:ks=[]
   all_goals (try subst he)
   all_goals (try subst hc)
   all_goals (try subst hk)
   ·simp[SRp,EV,zp,UM,MK,bA,bS,Pn.aA,U7,slA,lE,lC,lK]
   ·simp[SRp,EV,zp,UM,MK,bA,bS,L8 hk t4,slA,lE,lC,lK,iK,hk]
   ·simp[SRp,EV,zp,UM,MK,bA,bS,Pn.aA,U7,slA,lE,lC,lK,iC,hc]
   ·simp[SRp,EV,zp,UM,MK,bA,bS,L8 hk t4,slA,lE,lC,lK,iC,iK,hc,hk]
   ·simp[SRp,EV,zp,UM,MK,bA,bS,Pn.aA,U7,slA,lE,lC,lK,iE,he]
   ·simp[SRp,EV,zp,UM,MK,bA,bS,L8 hk t4,slA,lE,lC,lK,iE,iK,he,hk]
   ·simp[SRp,EV,zp,UM,MK,bA,bS,Pn.aA,U7,slA,lE,lC,lK,iE,iC,he,hc]
   ·simp[SRp,EV,zp,UM,MK,bA,bS,L8 hk t4,slA,lE,lC,lK,iE,iC,iK,he,hc,hk]) g11) ?_)
  rintro _ a12 w12 ⟨rfl,g12⟩;clear g11
  obtain⟨F',H',us',b',cap,vE,vC,m2,hpm,hus,hone,hbn,g13⟩:=g12.AQ7 (u:=5) (st':=aT [some (.box zp),some (.arr 1 ES)]) (env':=aY (EV b3 (.osl 1 1 0 init.length) (.own 2 pre.length) .junk .junk (.bool true) .junk .junk .junk .junk .junk .junk)) (idE:=iE es) (idC:=iC es cs) (idK:=iK es cs ks) (oq:=pre.length) e1 e2 rfl e4 hq rfl
   (fun h=>by simp[SRp,iE,lE,lC,lK,h];split<;>split<;>simp[aT])
   (fun h=>by simp only[SRp,iC,lC,lK,h,if_false];cases hh:lE es with
    | nil=>split<;>simp[aT]
    | cons a l =>
     have:l=[]:=by unfold lE at hh;split at hh<;>simp_all
     subst this;split<;>simp[aT])
   (fun h=>by simp only[SRp,iK,lK,h,if_false];exact ZG _ _ _ _)
   (by unfold iE iC iK lC lE;repeat' split<;>simp_all)
   (by
    intro i blk h
    rcases i with _|_|i
    ·simp[aT]at h;subst h;exact⟨by omega,rfl,by simp[fZ,zp]⟩
    ·simp[aT]at h;subst h;exact⟨by omega,rfl,hlit⟩
    ·simp[aT]at h)
   (by
    intro t;simp only[SRp,EV,aY];by_cases h0:t=0
    ·subst h0;simp
    by_cases h2:t=2
    ·subst h2;exact .inr ⟨by simp, .inr (by simp[jG,aT])⟩
    by_cases h3:t=3
    ·subst h3;exact .inr ⟨by simp, .inr (by simp[jG,ptr])⟩
    by_cases h4:t=4
    ·subst h4;exact .inr ⟨by simp, .inr (by simp[jG,aT])⟩
    by_cases h5:t=5
    ·subst h5;exact .inr ⟨by simp, .inl (by simp)⟩
    by_cases h14:t=14
    ·subst h14;exact .inr ⟨by simp, .inr (by simp[jG])⟩
    simp[h0,h2,h3,h4,h5,h14])
  clear g12;rw[CV]at g13;have hbx:dR us'=gI pre [.i (.lit (.int .i64 kd)), .i (.lit (.int .i64 tb)), .i (.lit vE), .i (.lit vC), .i (.lit (if ks.length=0 then .slice none 0 0 else .slice (some ⟨b',0,none⟩) ks.length cap))] post:=by rw[hus];simp[gI,dR]
  rw[hbx]at g13;have hst':=ADP.ACD wi b3 p F' H' b us' w12 m2
  refine wp_mono (GR.AO1 nM (G:=GS 17) (S:=SRp b3 init.length pre.length ES .junk .junk (.bool true) .junk .junk .junk .junk .junk .junk (gI pre [.i (.lit (.int .i64 kd)), .i (.lit (.int .i64 tb)), .i (.lit vE), .i (.lit vC), .i (.lit (if ks.length=0 then .slice none 0 0 else .slice (some ⟨b',0,none⟩) ks.length cap))] post) []) hst'
   (PP:=fun e S'=>e=.normal∧∃ v7 v76 v77 v78,S'={ env:=EV b3 (if ks.length=0 then .osl 1 1 0 init.length else .osl 3 1 0 (init.length+ks.length)) (.own 2 pre.length) .junk v7 (.bool true) .junk .junk .junk v76 v77 v78,st:=some (.box zp)::(if ks.length=0 then some (.arr 1 ES)else none)::some (.box (gI pre [.i (.lit (.int .i64 kd)), .i (.lit (.int .i64 tb)), .i (.lit vE), .i (.lit vC), .i (.lit (if ks.length=0 then .slice none 0 0 else .slice (some ⟨b',0,none⟩) ks.length cap))] post))::(if ks.length=0 then []else [some (.arr 1 (RWp init b' ks.length))]) }) (by kernel_rfl) (by
   by_cases h0:ks.length=0
   ·refine⟨.normal,{ env:=EV b3 (.osl 1 1 0 init.length) (.own 2 pre.length) .junk .junk (.bool true) .junk .junk .junk (.int 0) (.int 0) (.bool false),st:=some (.box zp)::some (.arr 1 ES)::some (.box (gI pre [.i (.lit (.int .i64 kd)), .i (.lit (.int .i64 tb)), .i (.lit vE), .i (.lit vC), .i (.lit (if ks.length=0 then .slice none 0 0 else .slice (some ⟨b',0,none⟩) ks.length cap))] post))::[] },?_,rfl, .junk, .int 0, .int 0, .bool false,by simp[h0]⟩;simp[SRp,EV,zp,UM,bA,bS,h0];rw[aD];simp[bA,bS]
   ·refine⟨.normal,{ env:=EV b3 (.osl 3 1 0 (init.length+ks.length)) (.own 2 pre.length) .junk (.int (ks.length-1)) (.bool true) .junk .junk .junk (.int ks.length) (.int ks.length) (.bool false),st:=some (.box zp)::none::some (.box (gI pre [.i (.lit (.int .i64 kd)), .i (.lit (.int .i64 tb)), .i (.lit vE), .i (.lit vC), .i (.lit (if ks.length=0 then .slice none 0 0 else .slice (some ⟨b',0,none⟩) ks.length cap))] post))::[some (.arr 1 (RWp init b' ks.length))] },?_,rfl, .int (ks.length-1), .int ks.length, .int ks.length, .bool false,by simp[h0]⟩;simp only[h0,if_false];simp[SRp,EV,zp,UM,bA,bS];rw[aW (YP b3 init.length pre.length ES init b' ks.length (gI pre [.i (.lit (.int .i64 kd)), .i (.lit (.int .i64 tb)), .i (.lit vE), .i (.lit vC), .i (.lit (if ks.length=0 then .slice none 0 0 else .slice (some ⟨b',0,none⟩) ks.length cap))] post)) ks.length (by simp[YP,EV,zp,h0])]
    ·rw[aD];simp[YP,EV,zp,UM,bA,bS,h0,eP h0]
    ·intro i hi;have w2:IntKind.i64.wrap ((i:Int)+1)=i+1:=wrO;by_cases hi0:i=0
     ·subst hi0;have hR:kT init++[[.lit (.pointer (some ⟨b',0,none⟩))]]=RWp init b' 1:=by simp[RWp,ptr]
      have hl:(init.length+1)*8≤140737488355328:=by omega
      simp[YP,EV,zp,UM,bA,bS,h0,AGY,hi,htake,hR,hl,hESl]
     ·have hl:(init.length+i+1)*8≤140737488355328:=by omega
      have hT:(RWp init b' i).take (init.length+i)=RWp init b' i:=zY (by rw[AC6];omega);have hR:RWp init b' i++[[.lit (.pointer (some ⟨b',i*5,none⟩))]]=RWp init b' (i+1):=by simpa [ptr]using AFH init b' i
      simp[YP,EV,zp,UM,bA,bS,h0,hi0,eP hi0,w2,hi,hT,AC6,hl,hR,← Nat.add_assoc]) (g13.ok' fun id h=>by simp[SRp];omega)) ?_
  rintro _ a13 w13 ⟨e,S',rfl,⟨rfl,v7,v76,v77,v78,rfl⟩,g14⟩;clear g13;simp only[jP,Exit.then,Exit.inBlock]
  have hpm2:H'.Perm (init++l9 b' 0 ks):=by
   have h1:(((b,pre.length),Pn.mk kd tb es cs ks)::H').Perm (((b,pre.length),Pn.mk kd tb es cs ks)::(init++l9 b' 0 ks)):=by
    refine hpm.trans ((hperm.append_right _).trans ?_);rw[yR];exact List.perm_middle
   exact(List.perm_cons _).1 h1
  have hszx:(Pn.mk kd tb es cs ks).size=1+Pn.bV ks:=hxs
  have hall2:∀ q∈init++l9 b' 0 ks,q.2.thin∧q.2.tiny:=by
   intro q hq'
   rcases zV.1 hq' with h|h
   ·exact hall q (by simp[h])
   ·have:=(O3 q h).1;exact⟨t5 _ this,y2 _ this⟩
  have hsum2:((init++l9 b' 0 ks).map fun k=>k.2.size).sum=n-1:=by
   rw[yG,List.sum_append,O0];omega
  by_cases hk0:ks.length=0
  ·have hks:ks=[]:=zZ.1 hk0;subst hks;simp only[zI,if_true]at g14 hbx
   have g15:=g14.TU (st':=aT [some (.box zp),some (.arr 1 ES)]) (env':=aY (EV b3 (.osl 1 1 0 init.length) .junk .junk .junk .junk .junk .junk .junk .junk .junk .junk)) (by rw[hbx];rfl) (by
    intro i blk h
    rcases i with _|_|i
    ·simp[aT]at h;subst h;exact⟨by omega,rfl,by simp[fZ,zp]⟩
    ·simp[aT]at h;subst h;exact⟨by omega,rfl,hlit⟩
    ·simp[aT]at h) (by
    intro t;simp only[EV,aY];by_cases h0:t=0
    ·subst h0;simp
    by_cases h2:t=2
    ·subst h2;exact .inr ⟨by simp,by simp[jG,aT]⟩
    by_cases h3:t=3
    ·subst h3;exact .inr ⟨by simp,by simp[jG,ptr]⟩
    by_cases h4:t=4
    ·subst h4;exact .inr ⟨by simp,by simp[jG,aT]⟩
    simp[h0,h2,h3,h4])
   simp only[l9,z8]at hpm2 hall2 hsum2;refine⟨n-1,by omega,init,[((b,pre.length),Pn.mk kd tb es cs [])]++X,H',F',hpm2,hsum2,by omega,hall2,?_⟩;have hES2:kT (init++([((b,pre.length),Pn.mk kd tb es cs [])]++X))=ES:=by rw[← hES,yR]
   simp only[SLp,hES2]
   exact g15.ok' (by
    intro i h
    rcases i with _|_|i
    ·simp
    ·simp
    ·simp[aT]at h)
  ·simp only[hk0,if_false]at g14 hbx
   have g15:=g14.TU (st':=aT [some (.box zp),none,none,some (.arr 1 (RWp init b' ks.length))]) (env':=aY [(2, .own 0 0),(3, .i (ptr (b3,0))),(4, .osl 3 1 0 (init.length+ks.length))]) (by rw[hbx];rfl) (by
    intro i blk h
    rcases i with _|_|_|_|i
    ·simp[aT]at h;subst h;exact⟨by omega,rfl,by simp[fZ,zp]⟩
    ·simp[aT]at h
    ·simp[aT]at h
    ·simp[aT]at h;subst h;exact⟨by omega,rfl,by
      intro c hc;rw[List.mem_flatten]at hc;obtain⟨r,hr1,hr2⟩:=hc;unfold RWp at hr1
      rcases zV.1 hr1 with h|h
      ·exact K6 init c (List.mem_flatten.2 ⟨r,h,hr2⟩)
      ·obtain⟨j,_,rfl⟩:=xZ.1 h
       simp at hr2;subst hr2;exact⟨_,rfl⟩⟩
    ·simp[aT]at h) (by
    intro t;simp only[EV,aY];by_cases h2:t=2
    ·subst h2;exact .inr ⟨by simp,by simp[jG,aT]⟩
    by_cases h3:t=3
    ·subst h3;exact .inr ⟨by simp,by simp[jG,ptr]⟩
    by_cases h4:t=4
    ·subst h4;exact .inr ⟨by simp,by simp[jG,aT]⟩
    simp[h2,h3,h4])
   have g16:=g15.settle (fun w m φ ids h=>RAW.keep ids h) [2,3,4]
   have hs:Av.settle [2,3,4] 0 (aY [(2, .own 0 0),(3, .i (ptr (b3,0))),(4, .osl 3 1 0 (init.length+ks.length))]) (aT [some (.box zp),none,none,some (.arr 1 (RWp init b' ks.length))])={ env:=[(2, .own 0 0),(3, .i (ptr (b3,0))),(4, .osl 1 1 0 (init.length+ks.length))],st:=[some (.box zp),some (.arr 1 (RWp init b' ks.length))] }:=by
    simp[zp,ptr]
   rw[hs]at g16;refine⟨n-1,by omega,init++l9 b' 0 ks,[],H',F',hpm2,hsum2,by omega,hall2,?_⟩
   have hR:kT (init++l9 b' 0 ks++[])=RWp init b' ks.length:=by
    rw[z8];have:=IQ b' 0 ks;simp only[kT]at this;simp only[kT,RWp,yG,this,zK]
   have hl:(init++l9 b' 0 ks).length=init.length+ks.length:=by rw[zR,O4]
   simp only[SLp,hR,hl]
   exact g16.envTo (by
    intro t;simp only[EV,aY];by_cases h0:t=0
    ·subst h0;simp
    by_cases h2:t=2
    ·subst h2;simp
    by_cases h3:t=3
    ·subst h3;simp
    by_cases h4:t=4
    ·subst h4;simp
    ·simp[h0,h2,h3,h4])
theorem KZ {p:Pn} (hsz:p.size<1000000000) (hth:p.thin) (hty:p.tiny) {wi:World} {mi:Mem} {φ:Pl} {vs:List Value} (hi:Inv wi mi φ (aT [])) (hr:RepL mi φ [.i (.iref p.cells)] vs) (h0:∀ id,φ id≠none→id<0) :
 Calls Tryz.prog 17 vs.toArray wi (bK wi mi φ (.i (.agg p.cells)) []):=by
 obtain rfl:φ=fun _=>none:=by
  funext id
  cases h:φ id with
  | none=>rfl
  | some p=>exact absurd (h0 id (by rw[h];simp)) (xD _)
 exact(qM hsz hth hty hi hr).mono fun _ _ h=>h.tree
end Go.Proofs.YtmcjmafajkeecaaGreatDoor.G
namespace Go.Proofs.YtmcjmafajkeecaaGreatDoor
open Go Go.Av
theorem NC {g:FuncId} {q:List AV→StL→Option (AV×StL)} (h:C0.prim g=some q):(g=24∧q=X8)∨(g=17∧q=AEV):=by
 have h:AI5 g=some q:=h;unfold AI5 at h;split at h
 ·injection h with h;exact .inl ⟨rfl,h.symm⟩
 ·injection h with h;exact .inr ⟨rfl,h.symm⟩
 ·cases h
theorem AQA:PrimOk C0:=by
 constructor
 ·intro g args st p h;unfold bM at h
  cases hq:C0.prim g with
  | none=>rw[hq]at h;cases h
  | some q =>
   rcases NC hq with ⟨rfl,rfl⟩|⟨rfl,rfl⟩
   ·exact⟨Tryz.f24,Tryz.func24,by decide,rfl⟩
   ·exact⟨Tryz.f17,Tryz.func17,by decide,rfl⟩
 ·intro g args stl r stl' h w m φ vs hi hr h0;unfold bM at h
  cases hq:C0.prim g with
  | none=>rw[hq]at h;cases h
  | some q =>
   rcases NC hq with ⟨rfl,rfl⟩|⟨rfl,rfl⟩
   ·rw[hq]at h;obtain⟨e,he,hres,hor⟩:=X7 h;injection hres with h1 h2;subst h1;subst h2
    rcases hor with ⟨rfl,rfl⟩|⟨j,es,rfl,rfl,hes⟩
    ·exact AU he hi hr h0
    ·exact XA he hes hi hr h0
   ·rw[hq]at h;obtain⟨p,⟨k1,k2,k3⟩,rfl,rfl,hres⟩:=X6 h;injection hres with h1 h2;subst h1;subst h2;exact G.KZ k1 k2 k3 hi hr h0
theorem pJ:SoundOk C0:=iF (C:=C0) ft nt eqS mo AQA
end Go.Proofs.YtmcjmafajkeecaaGreatDoor
namespace Go.Proofs
open Go.Shelf
def Tryz.IW:Go.Shelf.Ren:=⟨fun|153=>106|152=>118|226=>119|227=>120|228=>121|137=>133|119=>134|224=>135|225=>136|217=>146|266=>151|n=>n,fun|9=>9|3=>3|4=>4|5=>5|21=>21|117=>145|116=>144|0=>0|46=>162|124=>163|n=>n,fun|n=>n⟩
theorem Tryz.AGJ:Go.Proofs.Lays.n153 Tryz.prog Tryz.IW:={
 mixed:=by kernel_rfl
 f119:=Tryz.func134.trans (congrArg some (by kernel_rfl))
 f137:=Tryz.func133.trans (congrArg some (by kernel_rfl))
 f152:=Tryz.func118.trans (congrArg some (by kernel_rfl))
 f153:=Tryz.func106.trans (congrArg some (by kernel_rfl))
 f217:=Tryz.func146.trans (congrArg some (by kernel_rfl))
 f224:=Tryz.func135.trans (congrArg some (by kernel_rfl))
 f225:=Tryz.func136.trans (congrArg some (by kernel_rfl))
 f226:=Tryz.func119.trans (congrArg some (by kernel_rfl))
 f227:=Tryz.func120.trans (congrArg some (by kernel_rfl))
 f228:=Tryz.func121.trans (congrArg some (by kernel_rfl))
 f266:=Tryz.func151.trans (congrArg some (by kernel_rfl))
 t0:=Tryz.underlying0
 a0:=Tryz.isAgg0
 z0:=Tryz.sizeOf0
 v0:=Tryz.zeroValue0
 t3:=Tryz.underlying3
 a3:=Tryz.isAgg3
 z3:=Tryz.sizeOf3
 v3:=Tryz.zeroValue3
 t4:=Tryz.underlying4
 a4:=Tryz.isAgg4
 z4:=Tryz.sizeOf4
 v4:=Tryz.zeroValue4
 t5:=Tryz.underlying5
 a5:=Tryz.isAgg5
 z5:=Tryz.sizeOf5
 v5:=Tryz.zeroValue5
 t9:=Tryz.underlying9
 a9:=Tryz.isAgg9
 z9:=Tryz.sizeOf9
 v9:=Tryz.zeroValue9
 t21:=Tryz.underlying21
 a21:=Tryz.isAgg21
 z21:=Tryz.sizeOf21
 v21:=Tryz.zeroValue21
 t46:=Tryz.underlying162
 a46:=Tryz.isAgg162
 z46:=Tryz.sizeOf162
 v46:=Tryz.zeroValue162
 t116:=Tryz.underlying144
 a116:=Tryz.isAgg144
 z116:=Tryz.sizeOf144
 t117:=Tryz.underlying145
 a117:=Tryz.isAgg145
 z117:=Tryz.sizeOf145
 v117:=Tryz.zeroValue145
 t124:=Tryz.underlying163
 a124:=Tryz.isAgg163
 z124:=Tryz.sizeOf163
 v124:=Tryz.zeroValue163 }
def Tryz.RO:Go.Shelf.Ren:=⟨fun|172=>88|244=>107|245=>108|247=>122|279=>123|280=>124|281=>125|282=>126|287=>137|316=>138|171=>113|205=>139|321=>147|322=>148|243=>132|246=>145|283=>128|284=>129|285=>130|286=>131|129=>141|317=>140|318=>142|319=>143|320=>144|337=>149|338=>150|n=>n,fun|9=>9|3=>3|75=>119|76=>120|4=>4|5=>5|167=>148|37=>22|0=>0|85=>149|2=>2|168=>151|53=>138|175=>164|46=>162|210=>168|127=>177|145=>180|143=>178|21=>21|171=>155|173=>158|212=>171|51=>172|20=>20|213=>173|232=>182|233=>183|80=>101|n=>n,fun|15=>0|16=>1|17=>2|18=>4|19=>5|n=>n⟩
theorem Tryz.AK7:Go.Proofs.LaysC.n172 Tryz.prog Tryz.RO:={
 mixed:=by kernel_rfl
 f129:=Tryz.func141.trans (congrArg some (by kernel_rfl))
 f171:=Tryz.func113.trans (congrArg some (by kernel_rfl))
 f172:=Tryz.func88.trans (congrArg some (by kernel_rfl))
 f205:=Tryz.func139.trans (congrArg some (by kernel_rfl))
 f243:=Tryz.func132.trans (congrArg some (by kernel_rfl))
 f244:=Tryz.func107.trans (congrArg some (by kernel_rfl))
 f245:=Tryz.func108.trans (congrArg some (by kernel_rfl))
 f246:=Tryz.func145.trans (congrArg some (by kernel_rfl))
 f247:=Tryz.func122.trans (congrArg some (by kernel_rfl))
 f279:=Tryz.func123.trans (congrArg some (by kernel_rfl))
 f280:=Tryz.func124.trans (congrArg some (by kernel_rfl))
 f281:=Tryz.func125.trans (congrArg some (by kernel_rfl))
 f282:=Tryz.func126.trans (congrArg some (by kernel_rfl))
 f283:=Tryz.func128.trans (congrArg some (by kernel_rfl))
 f284:=Tryz.func129.trans (congrArg some (by kernel_rfl))
 f285:=Tryz.func130.trans (congrArg some (by kernel_rfl))
 f286:=Tryz.func131.trans (congrArg some (by kernel_rfl))
 f287:=Tryz.func137.trans (congrArg some (by kernel_rfl))
 f316:=Tryz.func138.trans (congrArg some (by kernel_rfl))
 f317:=Tryz.func140.trans (congrArg some (by kernel_rfl))
 f318:=Tryz.func142.trans (congrArg some (by kernel_rfl))
 f319:=Tryz.func143.trans (congrArg some (by kernel_rfl))
 f320:=Tryz.func144.trans (congrArg some (by kernel_rfl))
 f321:=Tryz.func147.trans (congrArg some (by kernel_rfl))
 f322:=Tryz.func148.trans (congrArg some (by kernel_rfl))
 f337:=Tryz.func149.trans (congrArg some (by kernel_rfl))
 f338:=Tryz.func150.trans (congrArg some (by kernel_rfl))
 t0:=Tryz.underlying0
 a0:=Tryz.isAgg0
 z0:=Tryz.sizeOf0
 v0:=Tryz.zeroValue0
 t2:=Tryz.underlying2
 a2:=Tryz.isAgg2
 z2:=Tryz.sizeOf2
 v2:=Tryz.zeroValue2
 t3:=Tryz.underlying3
 a3:=Tryz.isAgg3
 z3:=Tryz.sizeOf3
 v3:=Tryz.zeroValue3
 t4:=Tryz.underlying4
 a4:=Tryz.isAgg4
 z4:=Tryz.sizeOf4
 v4:=Tryz.zeroValue4
 t5:=Tryz.underlying5
 a5:=Tryz.isAgg5
 z5:=Tryz.sizeOf5
 v5:=Tryz.zeroValue5
 t9:=Tryz.underlying9
 a9:=Tryz.isAgg9
 z9:=Tryz.sizeOf9
 v9:=Tryz.zeroValue9
 t20:=Tryz.underlying20
 a20:=Tryz.isAgg20
 z20:=Tryz.sizeOf20
 v20:=Tryz.zeroValue20
 t21:=Tryz.underlying21
 a21:=Tryz.isAgg21
 z21:=Tryz.sizeOf21
 v21:=Tryz.zeroValue21
 t37:=Tryz.underlying22
 a37:=Tryz.isAgg22
 z37:=Tryz.sizeOf22
 v37:=Tryz.zeroValue22
 t46:=Tryz.underlying162
 a46:=Tryz.isAgg162
 z46:=Tryz.sizeOf162
 v46:=Tryz.zeroValue162
 t51:=Tryz.underlying172
 a51:=Tryz.isAgg172
 z51:=Tryz.sizeOf172
 v51:=Tryz.zeroValue172
 t53:=Tryz.underlying138
 a53:=Tryz.isAgg138
 z53:=Tryz.sizeOf138
 v53:=Tryz.zeroValue138
 t75:=Tryz.underlying119
 a75:=Tryz.isAgg119
 z75:=Tryz.sizeOf119
 v75:=Tryz.zeroValue119
 t76:=Tryz.underlying120
 a76:=Tryz.isAgg120
 z76:=Tryz.sizeOf120
 v76:=Tryz.zeroValue120
 t85:=Tryz.underlying149
 a85:=Tryz.isAgg149
 z85:=Tryz.sizeOf149
 v85:=Tryz.zeroValue149
 t127:=Tryz.underlying177
 a127:=Tryz.isAgg177
 z127:=Tryz.sizeOf177
 v127:=Tryz.zeroValue177
 t143:=Tryz.underlying178
 a143:=Tryz.isAgg178
 z143:=Tryz.sizeOf178
 v143:=Tryz.zeroValue178
 t145:=Tryz.underlying180
 a145:=Tryz.isAgg180
 z145:=Tryz.sizeOf180
 v145:=Tryz.zeroValue180
 t167:=Tryz.underlying148
 a167:=Tryz.isAgg148
 z167:=Tryz.sizeOf148
 v167:=Tryz.zeroValue148
 t168:=Tryz.underlying151
 a168:=Tryz.isAgg151
 z168:=Tryz.sizeOf151
 v168:=Tryz.zeroValue151
 t171:=Tryz.underlying155
 a171:=Tryz.isAgg155
 z171:=Tryz.sizeOf155
 v171:=Tryz.zeroValue155
 t173:=Tryz.underlying158
 a173:=Tryz.isAgg158
 z173:=Tryz.sizeOf158
 v173:=Tryz.zeroValue158
 t175:=Tryz.underlying164
 a175:=Tryz.isAgg164
 z175:=Tryz.sizeOf164
 v175:=Tryz.zeroValue164
 t210:=Tryz.underlying168
 a210:=Tryz.isAgg168
 z210:=Tryz.sizeOf168
 v210:=Tryz.zeroValue168
 t212:=Tryz.underlying171
 a212:=Tryz.isAgg171
 z212:=Tryz.sizeOf171
 v212:=Tryz.zeroValue171
 t213:=Tryz.underlying173
 a213:=Tryz.isAgg173
 z213:=Tryz.sizeOf173
 t232:=Tryz.underlying182
 a232:=Tryz.isAgg182
 z232:=Tryz.sizeOf182
 v232:=Tryz.zeroValue182
 t233:=Tryz.underlying183
 a233:=Tryz.isAgg183
 z233:=Tryz.sizeOf183
 v233:=Tryz.zeroValue183
 g15:=by kernel_rfl
 g16:=by kernel_rfl
 g17:=by kernel_rfl
 g18:=by kernel_rfl
 g19:=by kernel_rfl
 t80:=Tryz.underlying101
 a80:=Tryz.isAgg101
 z80:=Tryz.sizeOf101
 v80:=Tryz.zeroValue101
 i0:=by kernel_rfl
 i2:=by kernel_rfl
 i3:=by kernel_rfl
 i4:=by kernel_rfl
 i5:=by kernel_rfl
 i9:=by kernel_rfl
 i20:=by kernel_rfl
 i21:=by kernel_rfl
 i37:=by kernel_rfl
 i46:=by kernel_rfl
 i51:=by kernel_rfl
 i53:=by kernel_rfl
 i75:=by kernel_rfl
 i76:=by kernel_rfl
 i80:=by kernel_rfl
 i85:=by kernel_rfl
 i127:=by kernel_rfl
 i143:=by kernel_rfl
 i145:=by kernel_rfl
 i167:=by kernel_rfl
 i168:=by kernel_rfl
 i171:=by kernel_rfl
 i173:=by kernel_rfl
 i175:=by kernel_rfl
 i210:=by kernel_rfl
 i212:=by kernel_rfl
 i232:=by kernel_rfl
 i233:=by kernel_rfl
 m15:=by kernel_rfl
 m16:=by kernel_rfl
 m17:=by kernel_rfl
 m18:=by kernel_rfl
 m19:=by kernel_rfl
 c0:=by kernel_rfl
 c2:=by kernel_rfl
 c3:=by kernel_rfl
 c4:=by kernel_rfl
 c5:=by kernel_rfl
 c9:=by kernel_rfl
 c20:=by kernel_rfl
 c21:=by kernel_rfl
 c37:=by kernel_rfl
 c46:=by kernel_rfl
 c51:=by kernel_rfl
 c53:=by kernel_rfl
 c75:=by kernel_rfl
 c76:=by kernel_rfl
 c80:=by kernel_rfl
 c85:=by kernel_rfl
 c127:=by kernel_rfl
 c143:=by kernel_rfl
 c145:=by kernel_rfl
 c167:=by kernel_rfl
 c168:=by kernel_rfl
 c171:=by kernel_rfl
 c173:=by kernel_rfl
 c175:=by kernel_rfl
 c210:=by kernel_rfl
 c212:=by kernel_rfl
 c213:=by kernel_rfl
 c232:=by kernel_rfl
 c233:=by kernel_rfl }
end Go.Proofs
namespace Go.Av
def dgN (n:Nat):List UInt8:=if h:n<10 then [UInt8.ofNat (48+n)]else dgN (n / 10)++[UInt8.ofNat (48+n % 10)]
termination_by n
decreasing_by omega
def dgI (n:Int):List UInt8:=if n<0 then 45::dgN n.natAbs else dgN n.toNat
theorem AJF {n:Nat} (h:n<10):dgN n=[UInt8.ofNat (48+n)]:=by unfold dgN;rw[dif_pos h]
theorem mD {n:Int} (h0:0≤n) (h:n<10):dgI n=[UInt8.ofNat (48+n.toNat)]:=by
 unfold dgI;rw[if_neg (by omega),AJF (by omega)]
def nmE (k:Int):List UInt8 :=
 if k=3 then [43]else if k=4 then [45]else if k=5 then [42]else if k=6 then [61]else if k=7 then [60]else if k=8 then [97,110,100]else if k=9 then [111,114]else if k=10 then [110,111,116]else if k=11 then [110,117,108,108]else []
def nmP (k:Int):List UInt8 :=
 if k=1 then [115,99,97,110]else if k=2 then [102,105,108,116,101,114]else if k=3 then [112,114,111,106,101,99,116]else if k=4 then [106,111,105,110]else if k=5 then [108,101,102,116]else if k=6 then [117,110,105,111,110]else if k=7 then [100,105,115,116,105,110,99,116]else if k=8 then [103,114,111,117,112]else []
def txV (v:Val):List UInt8:=if v.null=true then [110,117,108,108]else dgI v.n
mutual
def txE:Ex→List UInt8
 | .mk k c v ks=>if k=1 then 35::dgI c else if k=2 then txV v else 40::(nmE k++(gB ks++[41]))
def gB:List Ex→List UInt8
 | []=>[]
 | e::l=>32::(txE e++gB l)
end
def txC:List Int→List UInt8
 | []=>[]
 | c::l=>32::35::(dgI c++txC l)
mutual
def txP:Pn→List UInt8
 | .mk k t es cs ks=>40::(nmP k++((if k=1 then 32::dgI t else [])++(txC cs++(gB es++(qU ks++[41])))))
def qU:List Pn→List UInt8
 | []=>[]
 | p::l=>32::(txP p++qU l)
end
theorem iO (e:Ex):∀ l:List Ex,gB (l++[e])=gB l++32::txE e
 | []=>by simp[gB]
 | a::l=>by simp[gB,iO e l]
theorem o8 (c:Int):∀ l:List Int,txC (l++[c])=txC l++32::35::dgI c
 | []=>by simp[txC]
 | a::l=>by simp[txC,o8 c l]
theorem lN (p:Pn):∀ l:List Pn,qU (l++[p])=qU l++32::txP p
 | []=>by simp[qU]
 | a::l=>by simp[qU,lN p l]
theorem pR (e:Ex):txE e=if e.kind=1 then 35::dgI e.col else if e.kind=2 then txV e.val else 40::(nmE e.kind++(gB e.kids++[41])):=by
 obtain⟨k,c,v,ks⟩:=e;simp only[txE,Ex.kind,Ex.col,Ex.val,Ex.kids];by_cases h1:k=1
 ·simp[h1]
 ·by_cases h2:k=2<;>simp[h1,h2]
theorem lM (p:Pn):txP p=40::(nmP p.kind++((if p.kind=1 then 32::dgI p.table else [])++(txC p.cols++(gB p.exprs++(qU p.kids++[41]))))):=by
 obtain⟨k,t,es,cs,ks⟩:=p;simp only[txP,Pn.kind,Pn.table,Pn.cols,Pn.exprs,Pn.kids];by_cases h1:k=1<;>simp[h1]
mutual
def Ex.shp:Ex→Ex
 | .mk k c v ks=>if k=2 then .mk 2 0 ⟨false,0⟩ []else .mk k c ⟨false,0⟩ (Ex.PM ks)
def Ex.PM:List Ex→List Ex
 | []=>[]
 | e::l=>e.shp::Ex.PM l
end
mutual
def Pn.shp:Pn→Pn
 | .mk k t es cs ks=>.mk k t (Ex.PM es) cs (Pn.PM ks)
def Pn.PM:List Pn→List Pn
 | []=>[]
 | p::l=>p.shp::Pn.PM l
end
@[simp] theorem XF:∀ a b:List UInt8,aP (a++b)=aP a++aP b
  | [],b=>rfl
  | x::a,b=>by simp[aP,XF a b]
theorem OV:∀ l:List UInt8,bytesOf (aP l)=some (l.map fun b=>(b.toNat:Int))
 | []=>rfl
 | b::l=>by simp[aP,bytesOf,OV l,bnd]
theorem AHF (l:List UInt8):strOf (l.map fun b=>(b.toNat:Int))=⟨l.toArray⟩:=by
 unfold strOf;congr 1;congr 1;rw[zA6]
 conv=>rhs;rw[← List.map_id l]
 apply y8;intro b _;simp
theorem lQ (a b:List UInt8):(ByteArray.mk a.toArray)++(ByteArray.mk b.toArray)=ByteArray.mk (a++b).toArray:=by
 apply ByteArray.ext;simp
end Go.Av
namespace Go.Av
open Go.RowKit
theorem qZ {w w':World} {m:Mem} {φ:Pl} {stl:StL} {r:AV} {v:Value} (hi:Inv w m φ (aT stl)) (hb:∀ id,φ id≠none→id<stl.length) (h:Below w.heap.size w w') (hd:w.drawn≤w'.drawn) (hr:Rep m φ r v):bK w m φ r stl (.returned v) w' :=
 ⟨v,m,φ,rfl,hr,hi.later h.size (fun f hf=>h.block f hf),
  ⟨h.size,h.os,⟨h.tape,hd⟩,h.output,fun b hb _=>h.block b hb, .refl _,fun _ _ _ _=>rfl, .refl _,fun _ _ _ _ e ho=>.inr (fH.not e ho)⟩,hb⟩
def ascii (l:List UInt8):Bool:=l.all fun b=>decide (b.toNat<128)
theorem UC {l:List UInt8} (h:ascii l=true) (j:Nat) (b:UInt8) (e:l[j]?=some b):b.toNat<128:=zP (zM.1 h b (zU e))
def AAT (s c:ByteArray):Bool:=decide (2≤c.size) && (decide (s.size<4294967281) && (decide (c.size<4294967281) && (ascii s.data.toList && ascii c.data.toList)))
def AJ2:List AV→StL→Option (AV×StL)
 | [.i (.lit (.string s)), .i (.lit (.string c))],st=>tst (AAT s c) (some (.int (Lib.indexAny s.data.toList c.data.toList),st))
 | _,_=>none
theorem WN {P:Program} {f:FuncId} {t:TypeId}
 (h1:∀ (s c:ByteArray) (w:World),2≤c.size→s.size≤8→(∀ (j:Nat) b,s.data.toList[j]?=some b→b.toNat<128)→Calls P f #[.string s, .string c] w fun e w'=>e=.returned (.int .i64 (Lib.indexAny s.data.toList c.data.toList))∧∃ pos,w'=w.iter s pos)
 (h2:∀ (s c:ByteArray) (w:World),2≤c.size→8<s.size→s.size<4294967281→c.size<4294967281→(∀ (j:Nat) b,c.data.toList[j]?=some b→b.toNat<128)→Calls P f #[.string s, .string c] w fun e w'=>e=.returned (.int .i64 (Lib.indexAny s.data.toList c.data.toList))∧w'=((w.alloc (.cells (Lib.setCells c.data.toList) t)).alloc (.cells (Lib.setCells c.data.toList) t)))
 {args:List AV} {st st':StL} {r:AV} (h:AJ2 args st=some (r,st')) (w:World) (m:Mem) (φ:Pl) (vs:List Value) (hi:Inv w m φ (aT st)) (hr:RepL m φ args vs) (hb:∀ id,φ id≠none→id<st.length):Calls P f vs.toArray w (bK w m φ r st'):=by
 unfold AJ2 at h;split at h
 rotate_left
 ·cases h
 rename_i s c;obtain⟨h3,h4⟩:=aR.1 h;injection h4 with h4;injection h4 with h5 h6;subst h5;subst h6;simp only[AAT,zW,zN]at h3;obtain⟨k1,k2,k3,k4,k5⟩:=h3;obtain⟨x,y,rfl,e1,e2⟩:=XQ hr;rw[e1.lit_eq,e2.lit_eq];by_cases h8:s.size≤8
 ·refine(h1 s c w k1 h8 (UC k4)).mono ?_;rintro e w' ⟨rfl,pos,rfl⟩;exact qZ hi hb ((Below.refl _ w).alloc (zO _) _) (zO _) (.i (.lit _))
 ·refine(h2 s c w k1 (by omega) k2 k3 (UC k5)).mono ?_;rintro e w' ⟨rfl,rfl⟩;exact qZ hi hb (((Below.refl _ w).alloc (zO _) _).alloc (by simp) _) (zO _) (.i (.lit _))
def AFC (st:StL):Lib.NumEnd Int→Option (AV×StL)
 | .ok v=>some (.tup [.int v, .i (.lit .nilIface)],st)
 | _=>none
def P5:List AV→StL→Option (AV×StL)
 | [.i (.lit (.string s))],st=>tst (decide (s.size≤281474976710656)) (AFC st (Lib.atoiAll s.data.toList))
 | _,_=>none
theorem RN {P:Program} {f:FuncId} {t:TypeId}
 (h1:∀ (s:ByteArray) (v:Int) (w:World),s.size≤9223372036854775806→Lib.atoiAll s.data.toList=.ok v→Calls P f #[.string s] w fun e w'=>e=.returned (.tuple #[.int .i64 v, .nilIface])∧(w'=w∨∃ u,w'=Lib.bytesWorld w t u))
 {args:List AV} {st st':StL} {r:AV} (h:P5 args st=some (r,st')) (w:World) (m:Mem) (φ:Pl) (vs:List Value) (hi:Inv w m φ (aT st)) (hr:RepL m φ args vs) (hb:∀ id,φ id≠none→id<st.length):Calls P f vs.toArray w (bK w m φ r st'):=by
 unfold P5 at h;split at h
 rotate_left
 ·cases h
 rename_i s;obtain⟨h3,h4⟩:=aR.1 h;have h3:=zP h3;obtain⟨x,rfl,e1⟩:=P7 hr;rw[e1.lit_eq];unfold AFC at h4;split at h4
 rotate_left
 ·cases h4
 rename_i v hv;injection h4 with h4;injection h4 with h5 h6;subst h5;subst h6;refine(h1 s v w (by omega) hv).mono ?_;rintro e w' ⟨rfl,rfl|⟨u,rfl⟩⟩
 ·exact qZ hi hb (Below.refl _ _) (zO _) (.tup (.cons (.i (.lit _)) (.cons (.i (.lit _)) .nil)))
 ·exact qZ hi hb (Lib.bytesWorld_below w t u) (by simp[Lib.bytesWorld,World.freeze,World.alloc,World.drew,-World.alloc_eq,-World.drew_eq]) (.tup (.cons (.i (.lit _)) (.cons (.i (.lit _)) .nil)))
end Go.Av
namespace Go.Av
theorem qA (l:List UInt8):(ByteArray.mk l.toArray).toList=l:=by rw[Lib.toList_data]
theorem sM (l m:List UInt8):U8 .eql ⟨l.toArray⟩ ⟨m.toArray⟩=some (.lit (.bool (l == m))):=by rw[U8.eq_2,qA,qA]
theorem ZA (l m:List UInt8):U8 .neq ⟨l.toArray⟩ ⟨m.toArray⟩=some (.lit (.bool !(l == m))):=by rw[U8.eq_3,qA,qA]
theorem AGM (l:List UInt8) (i j:Nat):(ByteArray.mk l.toArray).extract i j=ByteArray.mk ((l.drop i).take (j-i)).toArray:=by
 apply ByteArray.ext;simp
theorem QZ (l:List UInt8) (j:Nat):(ByteArray.mk l.toArray).extract 0 j=ByteArray.mk (l.take j).toArray:=by rw[AGM];simp
theorem QY (l:List UInt8) (i:Nat):(ByteArray.mk l.toArray).extract i l.length=ByteArray.mk (l.drop i).toArray:=by
 rw[AGM,zY (by simp)]
def GJ (p l:List UInt8):Bool:=decide (p.length≤l.length) && (l.take p.length == p)
theorem BU (p t:List UInt8):GJ p (p++t)=true:=by simp[GJ]
theorem LB (c d:UInt8) (t:List UInt8):GJ [c] (d::t)=(d == c):=by simp[GJ]
theorem U9 (a b c d:UInt8) (t:List UInt8):GJ [a,b] (c::d::t)=(c == a && d == b):=by simp[GJ]
def rY (b:UInt8):Bool:=b != 32 && (b != 40 && b != 41)
def sN:List UInt8→Bool
 | []=>true
 | c::_=>!rY c
theorem AP:∀ (u t:List UInt8),u.all rY=true→sN t=true→Lib.indexAny (u++t) [32,40,41]=if t=[]then -1 else(u.length:Int)
 | [],t,_,ht=>by
  cases t with
  | nil=>rfl
  | cons c r =>
   simp only[sN,rY,Bool.not_eq_true',Bool.and_eq_false_iff,bne_eq_false_iff_eq]at ht;have:[32,40,41].contains c=true:=by rcases ht with h|h|h<;>subst h<;>rfl
   simp only[yS,Lib.indexAny,this,if_true];rw[if_neg (by simp)];rfl
 | b::u,t,hu,ht=>by
  simp only[List.all_cons,zW]at hu;have ih:=AP u t hu.2 ht
  have hb:[32,40,41].contains b=false:=by
   have h:=hu.1;simp only[rY,zW,bne_iff_ne]at h;simp[h.1,h.2.1,h.2.2]
  simp only[yT,Lib.indexAny,hb,yK,if_false,ih];by_cases h0:t=[]
  ·simp[h0]
  ·rw[if_neg h0,if_neg h0];have:((u.length:Int) == -1)=false:=by simp
   rw[this];simp
end Go.Av
namespace Go.Proofs.YtmcjmafajkeecaaGreatDoor.P
open Go Go.Av
set_option maxRecDepth 4000
set_option maxHeartbeats 4000000
theorem AB6:({ data:=#[48,49,50,51,52,53,54,55,56,57,97,98,99,100,101,102,103,104,105,106,107,108,109,110,111,112,113,114,115,116,117,118,119,120,121,122] }:ByteArray).size=36:=rfl
theorem SC {n:Nat} (h:n<10):aH C0 128 [.int n] []=some (.i (.lit (.string ⟨(dgI n).toArray⟩)),[]):=by
 have hd:=mD (n:=n) (by omega) (by omega);rw[hd];have hn:n=0∨n=1∨n=2∨n=3∨n=4∨n=5∨n=6∨n=7∨n=8∨n=9:=by omega
 have z:=AB6;rw[aF rfl Tryz.func128 rfl rfl]
 rcases hn with rfl|rfl|rfl|rfl|rfl|rfl|rfl|rfl|rfl|rfl
 ·have w2:IntKind.i64.wrap 1=1:=wrO;have e:({ data:=#[48,49,50,51,52,53,54,55,56,57,97,98,99,100,101,102,103,104,105,106,107,108,109,110,111,112,113,114,115,116,117,118,119,120,121,122] }:ByteArray).extract 0 1=⟨#[48]⟩:=rfl;simp[w2,z,e]
 ·have w2:IntKind.i64.wrap 2=2:=wrO;have e:({ data:=#[48,49,50,51,52,53,54,55,56,57,97,98,99,100,101,102,103,104,105,106,107,108,109,110,111,112,113,114,115,116,117,118,119,120,121,122] }:ByteArray).extract 1 2=⟨#[49]⟩:=rfl;simp[w2,z,e]
 ·have w2:IntKind.i64.wrap 3=3:=wrO;have e:({ data:=#[48,49,50,51,52,53,54,55,56,57,97,98,99,100,101,102,103,104,105,106,107,108,109,110,111,112,113,114,115,116,117,118,119,120,121,122] }:ByteArray).extract 2 3=⟨#[50]⟩:=rfl;simp[w2,z,e]
 ·have w2:IntKind.i64.wrap 4=4:=wrO;have e:({ data:=#[48,49,50,51,52,53,54,55,56,57,97,98,99,100,101,102,103,104,105,106,107,108,109,110,111,112,113,114,115,116,117,118,119,120,121,122] }:ByteArray).extract 3 4=⟨#[51]⟩:=rfl;simp[w2,z,e]
 ·have w2:IntKind.i64.wrap 5=5:=wrO;have e:({ data:=#[48,49,50,51,52,53,54,55,56,57,97,98,99,100,101,102,103,104,105,106,107,108,109,110,111,112,113,114,115,116,117,118,119,120,121,122] }:ByteArray).extract 4 5=⟨#[52]⟩:=rfl;simp[w2,z,e]
 ·have w2:IntKind.i64.wrap 6=6:=wrO;have e:({ data:=#[48,49,50,51,52,53,54,55,56,57,97,98,99,100,101,102,103,104,105,106,107,108,109,110,111,112,113,114,115,116,117,118,119,120,121,122] }:ByteArray).extract 5 6=⟨#[53]⟩:=rfl;simp[w2,z,e]
 ·have w2:IntKind.i64.wrap 7=7:=wrO;have e:({ data:=#[48,49,50,51,52,53,54,55,56,57,97,98,99,100,101,102,103,104,105,106,107,108,109,110,111,112,113,114,115,116,117,118,119,120,121,122] }:ByteArray).extract 6 7=⟨#[54]⟩:=rfl;simp[w2,z,e]
 ·have w2:IntKind.i64.wrap 8=8:=wrO;have e:({ data:=#[48,49,50,51,52,53,54,55,56,57,97,98,99,100,101,102,103,104,105,106,107,108,109,110,111,112,113,114,115,116,117,118,119,120,121,122] }:ByteArray).extract 7 8=⟨#[55]⟩:=rfl;simp[w2,z,e]
 ·have w2:IntKind.i64.wrap 9=9:=wrO;have e:({ data:=#[48,49,50,51,52,53,54,55,56,57,97,98,99,100,101,102,103,104,105,106,107,108,109,110,111,112,113,114,115,116,117,118,119,120,121,122] }:ByteArray).extract 8 9=⟨#[56]⟩:=rfl;simp[w2,z,e]
 ·have w2:IntKind.i64.wrap 10=10:=wrO;have e:({ data:=#[48,49,50,51,52,53,54,55,56,57,97,98,99,100,101,102,103,104,105,106,107,108,109,110,111,112,113,114,115,116,117,118,119,120,121,122] }:ByteArray).extract 9 10=⟨#[57]⟩:=rfl;simp[w2,z,e]
theorem YX {n:Nat} (h:n<10):IntKind.u64.wrap (n:Int)=n:=by
 have hn:n=0∨n=1∨n=2∨n=3∨n=4∨n=5∨n=6∨n=7∨n=8∨n=9:=by omega
 rcases hn with rfl|rfl|rfl|rfl|rfl|rfl|rfl|rfl|rfl|rfl<;>rfl
theorem ARA {n:Nat} (h:n<10):∃ c,dgI n=[c]:=⟨_,mD (n:=n) (by omega) (by omega)⟩
theorem XU {n:Nat} (h:n<10) (l:List UInt8) (hl:l.length<1000000000):aH C0 111 [.osl 0 1 0 l.length, .i (.lit (.int .u64 n)), .int 10] [some (.arr 1 (aP l))]=some (.osl 1 1 0 (l++dgI n).length,[none,some (.arr 1 (aP (l++dgI n)))]):=by
 have hs:=SC h;obtain⟨c,hc⟩:=ARA h;rw[hc]at hs ⊢;have hb:l.length+1≤140737488355328:=by omega
 have w1:IntKind.i64.wrap (n:Int)=n:=wrO;have h100:(n:Int)<100:=by omega
 have ht:(aP l).take l.length=aP l:=zY (by rw[aO];omega);rw[aF rfl Tryz.func111 rfl rfl];simp[hs,w1,h100,hb,ht,aP,aO]
theorem XY {n:Nat} (h:n<10) (l:List UInt8) (hl:l.length<1000000000):aH C0 96 [.osl 0 1 0 l.length, .int n, .int 10] [some (.arr 1 (aP l))]=some (.osl 1 1 0 (l++dgI n).length,[none,some (.arr 1 (aP (l++dgI n)))]):=by
 have hs:=XU h l hl;generalize l++dgI n=m at hs ⊢;have w1:=YX h;have h0:¬ (n:Int)<0:=by omega
 rw[aF rfl Tryz.func96 rfl rfl];simp[hs,w1,h0]
theorem FM {n:Nat} (h:n<10) (l:List UInt8) (hl:l.length<1000000000):aH C0 71 [.osl 0 1 0 l.length, .int n, .int 10] [some (.arr 1 (aP l))]=some (.osl 1 1 0 (l++dgI n).length,[none,some (.arr 1 (aP (l++dgI n)))]):=by
 have hs:=XY h l hl;generalize l++dgI n=m at hs ⊢;rw[aF rfl Tryz.func71 rfl rfl];simp[hs]
theorem dX (l:List UInt8):(aP l).take l.length=aP l:=zY (by rw[aO];omega)
theorem qQ {n:Nat} (h:n<10) (l:List UInt8) (hl:l.length<100000000):aH C0 72 [.osl 0 1 0 l.length, .int n] [some (.arr 1 (aP l))]=some (.osl 1 1 0 (l++35::dgI n).length,[none,some (.arr 1 (aP (l++35::dgI n)))]):=by
 have hs:=FM h (l++[35]) (by simp;omega);rw[yR,xV]at hs;generalize hm:l++35::dgI n=m at hs ⊢;have hb:l.length+1≤140737488355328:=by omega
 have ht:=dX l;simp[aP,aO]at hs;rw[aF rfl Tryz.func72 rfl rfl];simp[hs,hb,ht,aP,aO]
theorem OD {n:Nat} (h:n<10):aH C0 145 [.int n, .int 10] []=some (.i (.lit (.string ⟨(dgI n).toArray⟩)),[]):=by
 have hs:=SC h;have h0:(0:Int)≤n:=by omega
 have h100:(n:Int)<100:=by omega
 rw[aF rfl Tryz.func145 rfl rfl];simp[hs,h0,h100]
theorem AEH {n:Nat} (h:n<10):aH C0 132 [.int n] []=some (.i (.lit (.string ⟨(dgI n).toArray⟩)),[]):=by
 have hs:=OD h;rw[aF rfl Tryz.func132 rfl rfl];simp[hs]
theorem AIL {n:Nat} (h:n<10):aH C0 113 [.int n] []=some (.i (.lit (.string ⟨(dgI n).toArray⟩)),[]):=by
 have hs:=AEH h;rw[aF rfl Tryz.func113 rfl rfl];simp[hs]
theorem tT {k:Int} (h0:3≤k) (h1:k≤11):aH C0 92 [.int k] []=some (.i (.lit (.string ⟨(nmE k).toArray⟩)),[]):=by
 have hk:k=3∨k=4∨k=5∨k=6∨k=7∨k=8∨k=9∨k=10∨k=11:=by omega
 rw[aF rfl Tryz.func92 rfl rfl]
 rcases hk with rfl|rfl|rfl|rfl|rfl|rfl|rfl|rfl|rfl<;>simp[nmE]
theorem iV {k:Int} (h0:1≤k) (h1:k≤8):aH C0 57 [.int k] []=some (.i (.lit (.string ⟨(nmP k).toArray⟩)),[]):=by
 have hk:k=1∨k=2∨k=3∨k=4∨k=5∨k=6∨k=7∨k=8:=by omega
 rw[aF rfl Tryz.func57 rfl rfl]
 rcases hk with rfl|rfl|rfl|rfl|rfl|rfl|rfl|rfl<;>simp[nmP]
end Go.Proofs.YtmcjmafajkeecaaGreatDoor.P
namespace Go.Av
mutual
def Ex.tx:Ex→Prop
 | .mk k c v ks=>(k=1∧0≤c∧c<10)∨(k=2∧v=⟨false,0⟩)∨(3≤k∧k≤11∧Ex.txs ks)
def Ex.txs:List Ex→Prop
 | []=>True
 | e::l=>e.tx∧Ex.txs l
end
theorem Ex.CJ:∀ l:List Ex,Ex.txs l↔∀ e∈l,e.tx
 | []=>by simp[Ex.txs]
 | e::l=>by simp[Ex.txs,Ex.CJ l]
theorem Ex.gJ (e:Ex):e.tx↔(e.kind=1∧0≤e.col∧e.col<10)∨(e.kind=2∧e.val=⟨false,0⟩)∨(3≤e.kind∧e.kind≤11∧∀ a∈e.kids,a.tx):=by
 obtain⟨k,c,v,ks⟩:=e;simp only[Ex.tx,Ex.kind,Ex.col,Ex.val,Ex.kids,Ex.CJ]
theorem qV:∀ l:List Ex,l.length≤(gB l).length
 | []=>by simp
 | a::l=>by have:=qV l;simp only[gB,zS,zR];omega
def mE (e:Ex) (l:List UInt8) (i:Nat):List UInt8:=l++40::(nmE e.kind++gB (e.kids.take i))
end Go.Av
namespace Go.Proofs.YtmcjmafajkeecaaGreatDoor.P
open Go Go.Av
set_option maxRecDepth 4000
set_option maxHeartbeats 4000000
theorem ANT:aH C0 97 [.i (.agg [.bool false, .int 0])] []=some (.i (.lit (.string ⟨[48].toArray⟩)),[]):=by
 have h:=AIL (n:=0) (by omega);have hd:dgI (0:Nat)=[48]:=by rw[mD (by omega) (by omega)];rfl
 rw[hd]at h;have hv:Val.ok ⟨false,0⟩=true:=by decide
 rw[aF rfl Tryz.func97 rfl rfl];simp at h;simp[h,hv]
def ATE (e:Ex) (l:List UInt8) (i:Nat):AS :=
 { env:=[(0, .i (.iref [.int e.kind, .int e.col, .bool e.val.null, .int e.val.n, .isl (Ex.aA e.kids)])),(1, .osl 1 1 0 (mE e l i).length),(4, .nils),(5,jk i (.int (i-1))),(9, .int e.kind),(10, .bool false),(18, .bool false),(41, .int e.kids.length),(42, .int i),(43,jk i (.bool true))],
   st:=[none,some (.arr 1 (aP (mE e l i)))] }
theorem LD:∀ e:Ex,e.tx→∀ l:List UInt8,l.length+(txE e).length<10000000→aH C0 73 [.i (.iref e.cells), .osl 0 1 0 l.length] [some (.arr 1 (aP l))]=some (.osl 1 1 0 (l++txE e).length,[none,some (.arr 1 (aP (l++txE e)))]):=by
 intro e
 induction e using Ex.ind with
 | h k c v ks ih =>
  intro ht l hl;generalize he:Ex.mk k c v ks=e at *
  have hks:ks=e.kids:=by rw[← he];rfl
  subst hks;rw[aF rfl Tryz.func73 rfl rfl,Ex.aB];have hte:=pR e;have htk:=dX l
  rcases(Ex.gJ e).1 ht with ⟨h1,h2,h3⟩|⟨h1,h2⟩|⟨h1,h2,h3⟩
  ·rw[if_pos h1]at hte;rw[hte]at hl ⊢;obtain⟨n,hn⟩:=yP h2;have hc:=qQ (n:=n) (by omega) l (by omega);rw[hn];generalize l++35::dgI n=m at hc ⊢;simp[h1,hc]
  ·rw[if_neg (by omega),if_pos h1]at hte;have hv:txV e.val=[48]:=by rw[h2];simp[txV];rw[mD (by omega) (by omega)];rfl
   rw[hv]at hte;rw[hte]at hl ⊢;have hc:=ANT;have hb:l.length+1≤140737488355328:=by omega
   simp[h1,h2,hc,hb,htk,aP,aO]
  ·rw[if_neg (by omega),if_neg (by omega)]at hte;have hfin:l++txE e=mE e l e.kids.length++[41]:=by rw[hte];simp[mE]
   rw[hfin];have hnm:=tT h1 h2;have k1:¬ e.kind=1:=by omega
   have k2:¬ e.kind=2:=by omega
   have hlen:∀ i,(mE e l i).length+1≤l.length+(txE e).length:=by
    intro i
    have hle:∀ (xs:List Ex) (n:Nat),(gB (xs.take n)).length≤(gB xs).length:=by
     intro xs
     induction xs with
     | nil=>intro n;simp
     | cons a xs ihx =>
      intro n
      cases n with
      | zero=>simp[gB]
      | succ n=>have:=ihx n;simp only[yA,gB,zS,zR];omega
    have:=hle e.kids i;rw[hte];simp only[mE,zR,zS,zI];omega
   have hb1:l.length+1≤140737488355328:=by omega
   have hb2:l.length+1+(nmE e.kind).length≤140737488355328:=by have:=hlen 0;simp[mE,gB]at this;omega
   have htk2:=dX (l++[40]);simp[aP,aO]at htk2;simp[k1,k2,hnm,hb1,hb2,htk,htk2,aP,aO];rw[aW (ATE e l) e.kids.length (by simp[ATE,mE,gB,aP,aO];try omega)]
   ·rw[aD];have hb3:(mE e l e.kids.length).length+1≤140737488355328:=by have:=hlen e.kids.length;omega
    have htk3:=dX (mE e l e.kids.length);simp only[ATE];generalize mE e l e.kids.length=m at hb3 htk3 ⊢;simp[hb3,htk3,aP,aO]
   ·intro i hi;have h4:=zT hi;have hm:=zU h4;have r2:=Ex.aS h4;have hsn:=aL h4;generalize e.kids[i]=a at h4 hm r2 hsn;have hnext:mE e l (i+1)=mE e l i++[32]++txE a:=by unfold mE;rw[hsn,iO];simp
    have hl1:=hlen i;have hcnt:=qV e.kids;have hkl:e.kids.length<10000000:=by rw[hte]at hl;simp only[zR,zS,zI]at hl;omega
    have hl2:=hlen (i+1);rw[hnext]at hl2;simp at hl2;have hk:=ih a hm (h3 a hm) (mE e l i++[32]) (by simp;omega);rw[← hnext]at hk;have w2:IntKind.i64.wrap ((i:Int)+1)=i+1:=wrO;have hb3:(mE e l i).length+1≤140737488355328:=by omega
    have htk3:=dX (mE e l i);simp only[ATE];generalize mE e l (i+1)=m2 at hk ⊢;generalize mE e l i=m1 at hk hb3 htk3 ⊢;rw[Ex.aB a]at r2 hk;simp[aP,aO]at hk;simp[hi,r2,hk,w2,hb3,htk3,aP,aO]
end Go.Proofs.YtmcjmafajkeecaaGreatDoor.P
namespace Go.Proofs.YtmcjmafajkeecaaGreatDoor
open Go Go.Av
set_option maxRecDepth 4000
theorem RY:IntKind.i64.wrap 2=2:=wrO
end Go.Proofs.YtmcjmafajkeecaaGreatDoor
namespace Go.Av
end Go.Av
namespace Go.Proofs.YtmcjmafajkeecaaGreatDoor
open Go Go.Av
set_option maxRecDepth 4000
set_option maxHeartbeats 1000000
end Go.Proofs.YtmcjmafajkeecaaGreatDoor
namespace Go.Av
def gN (v:Val):Ex:=.mk 2 0 v []
theorem bO (v:Val):(gN v).cells=[.int 2, .int 0, .bool v.null, .int v.n, .isl []]:=by simp[gN,Ex.cells,Ex.aA]
end Go.Av
namespace Go.Proofs.YtmcjmafajkeecaaGreatDoor
open Go Go.Av
set_option maxRecDepth 4000
set_option maxHeartbeats 1000000
end Go.Proofs.YtmcjmafajkeecaaGreatDoor
namespace Go.Av
mutual
def Ex.ext (w:Int) (vs:List Val):Ex→Ex×List Val
 | .mk k c v ks=>if k=2 then(.mk 1 (w+vs.length) Val.zero [],vs++[v])else((.mk k c Val.zero (Ex.APJ w vs ks).1),(Ex.APJ w vs ks).2)
def Ex.APJ (w:Int) (vs:List Val):List Ex→List Ex×List Val
 | []=>([],vs)
 | e::es=>(((Ex.ext w vs e).1::(Ex.APJ w (Ex.ext w vs e).2 es).1),(Ex.APJ w (Ex.ext w vs e).2 es).2)
end
end Go.Av
namespace Go.Proofs.YtmcjmafajkeecaaGreatDoor
open Go Go.Av
set_option maxRecDepth 4000
set_option maxHeartbeats 2000000
def xv (a b:Nat):AV:=if b=a then .osl 0 2 0 a else .osl 1 2 0 b
def wi (n:Nat):Nat:=if n=0 then 1 else 2
end Go.Proofs.YtmcjmafajkeecaaGreatDoor
namespace Go.Av
end Go.Av
namespace Go.Proofs.YtmcjmafajkeecaaGreatDoor
open Go Go.Av
set_option maxRecDepth 4000
set_option maxHeartbeats 2000000
end Go.Proofs.YtmcjmafajkeecaaGreatDoor
namespace Go.Av
end Go.Av
namespace Go.Proofs.YtmcjmafajkeecaaGreatDoor
open Go Go.Av
set_option maxRecDepth 4000
set_option maxHeartbeats 2000000
set_option maxHeartbeats 4000000
def nW (c:Int):Ex:=.mk 1 c Val.zero []
def two (k:Int) (a b:Ex):Ex:=.mk k 0 Val.zero [a,b]
theorem dD (c:Int):(nW c).cells=[.int 1, .int c, .bool false, .int 0, .isl []]:=by simp[nW,Ex.cells,Ex.aA,Val.zero]
theorem dQ (k:Int) (a b:Ex):(two k a b).cells=[.int k, .int 0, .bool false, .int 0, .isl [a.cells,b.cells]]:=by simp[two,Ex.cells,Ex.aA,Val.zero]
def AET:Nat→Nat
 | 0=>40
 | n+1=>AET n+40
theorem OQ (l:List UInt8) (hl:l.length≤2000) (w:Int) (n c:Nat) (hn:n≤3) (p:Int) (h0:0≤p) (h1:p+10*n<500000000)
 (ih:n=0∨∀ p:Int,0≤p→p+10*((n:Int)-1)<500000000→∃ (e:Ex) (p':Int),aH C0 115 [.own 0 0, .int w, .int ((n:Int)-1)] [Rd l p]=some (.i (.agg e.cells),[Rd l p'])∧p≤p'∧p'≤p+c∧e.size≤c) :
 ∃ (e:Ex) (p':Int),aH C0 115 [.own 0 0, .int w, .int n] [Rd l p]=some (.i (.agg e.cells),[Rd l p'])∧p≤p'∧p'≤p+(c+40:Nat)∧e.size≤c+40:=by
 obtain⟨c1,hc1,-,-⟩:=bE l p w h0 (by omega) hl;obtain⟨x,hx,-,-⟩:=bE l (p+1) 4 (by omega) (by omega) hl;obtain⟨t,ht,-,-⟩:=bE l (p+1+1) 3 (by omega) (by omega) hl;obtain⟨c2,hc2,-,-⟩:=bE l (p+1+1+1) w (by omega) (by omega) hl;have hcon:=RB ⟨false,x⟩;rw[show(Ex.mk 2 0 ⟨false,x⟩ []).cells=(gN ⟨false,x⟩).cells from rfl]at hcon;simp at hcon;have wn:IntKind.i64.wrap ((n:Int)-1)=n-1:=wrO;by_cases g:t=0
 ·obtain⟨k,hk,-,-⟩:=bE l (p+1+1+1+1) 8 (by omega) (by omega) hl;by_cases k0:k=0
  ·obtain⟨e,p',he,a1,a2,a3⟩:=DI l hl w (p+1+1+1+1+1) (by omega) (by omega);refine⟨e,p',?_,by omega,by omega,by omega⟩;rw[aF rfl Tryz.func115 rfl rfl];simp[hc1,hx,ht,hk,hcon,g,hc2,dD,bO,dQ,Ex.aA,k0,he]
  by_cases k1:k=1
  ·refine⟨.mk 10 0 Val.zero [.mk 11 0 Val.zero [nW c1]],p+1+1+1+1+1,?_,by omega,by omega,by simp[nW,Ex.size,Ex.bV]⟩;rw[aF rfl Tryz.func115 rfl rfl];simp[hc1,hx,ht,hk,hcon,g,hc2,dD,bO,dQ,Ex.aA,k1,Ex.cells,Val.zero]
  by_cases k2:k=2
  ·rcases ih with rfl|ih
   ·refine⟨two 7 (nW c1) (nW c2),p+1+1+1+1+1,?_,by omega,by omega,by simp[two,nW,gN,Ex.size,Ex.bV]⟩;rw[aF rfl Tryz.func115 rfl rfl];simp[hc1,hx,ht,hk,hcon,g,hc2,dD,bO,dQ,Ex.aA,k2]
   ·by_cases n0:n=0
    ·refine⟨two 7 (nW c1) (nW c2),p+1+1+1+1+1,?_,by omega,by omega,by simp[two,nW,gN,Ex.size,Ex.bV]⟩;rw[aF rfl Tryz.func115 rfl rfl];simp[hc1,hx,ht,hk,hcon,g,hc2,dD,bO,dQ,Ex.aA,k2,n0]
    ·obtain⟨e,p',he,a1,a2,a3⟩:=ih (p+1+1+1+1+1) (by omega) (by omega);refine⟨two 8 e (two 6 (nW c1) (nW c2)),p',?_,by omega,by omega,by simp[two,nW,gN,Ex.size,Ex.bV];omega⟩;rw[aF rfl Tryz.func115 rfl rfl];simp[hc1,hx,ht,hk,hcon,g,hc2,dD,bO,dQ,Ex.aA,k2,n0,wn,he]
  by_cases k3:k=3
  ·refine⟨two 7 (nW c2) (nW c1),p+1+1+1+1+1,?_,by omega,by omega,by simp[two,nW,gN,Ex.size,Ex.bV]⟩;rw[aF rfl Tryz.func115 rfl rfl];simp[hc1,hx,ht,hk,hcon,g,hc2,dD,bO,dQ,Ex.aA,k3]
  by_cases k4:k=4
  ·refine⟨two 7 (nW c2) (nW c1),p+1+1+1+1+1,?_,by omega,by omega,by simp[two,nW,gN,Ex.size,Ex.bV]⟩;rw[aF rfl Tryz.func115 rfl rfl];simp[hc1,hx,ht,hk,hcon,g,hc2,dD,bO,dQ,Ex.aA,k4]
  by_cases k5:k=5
  ·refine⟨two 7 (nW c1) (nW c2),p+1+1+1+1+1,?_,by omega,by omega,by simp[two,nW,gN,Ex.size,Ex.bV]⟩;rw[aF rfl Tryz.func115 rfl rfl];simp[hc1,hx,ht,hk,hcon,g,hc2,dD,bO,dQ,Ex.aA,k5]
  refine⟨two 6 (nW c1) (nW c2),p+1+1+1+1+1,?_,by omega,by omega,by simp[two,nW,gN,Ex.size,Ex.bV]⟩;rw[aF rfl Tryz.func115 rfl rfl];simp[hc1,hx,ht,hk,hcon,g,hc2,dD,bO,dQ,Ex.aA,k0,k1,k2,k3,k4,k5]
 ·obtain⟨k,hk,-,-⟩:=bE l (p+1+1+1) 8 (by omega) (by omega) hl;by_cases k0:k=0
  ·obtain⟨e,p',he,a1,a2,a3⟩:=DI l hl w (p+1+1+1+1) (by omega) (by omega);refine⟨e,p',?_,by omega,by omega,by omega⟩;rw[aF rfl Tryz.func115 rfl rfl];simp[hc1,hx,ht,hk,hcon,g,dD,bO,dQ,Ex.aA,k0,he]
  by_cases k1:k=1
  ·refine⟨.mk 10 0 Val.zero [.mk 11 0 Val.zero [nW c1]],p+1+1+1+1,?_,by omega,by omega,by simp[nW,Ex.size,Ex.bV]⟩;rw[aF rfl Tryz.func115 rfl rfl];simp[hc1,hx,ht,hk,hcon,g,dD,bO,dQ,Ex.aA,k1,Ex.cells,Val.zero]
  by_cases k2:k=2
  ·rcases ih with rfl|ih
   ·refine⟨two 7 (nW c1) (gN ⟨false,x⟩),p+1+1+1+1,?_,by omega,by omega,by simp[two,nW,gN,Ex.size,Ex.bV]⟩;rw[aF rfl Tryz.func115 rfl rfl];simp[hc1,hx,ht,hk,hcon,g,dD,bO,dQ,Ex.aA,k2]
   ·by_cases n0:n=0
    ·refine⟨two 7 (nW c1) (gN ⟨false,x⟩),p+1+1+1+1,?_,by omega,by omega,by simp[two,nW,gN,Ex.size,Ex.bV]⟩;rw[aF rfl Tryz.func115 rfl rfl];simp[hc1,hx,ht,hk,hcon,g,dD,bO,dQ,Ex.aA,k2,n0]
    ·obtain⟨e,p',he,a1,a2,a3⟩:=ih (p+1+1+1+1) (by omega) (by omega);refine⟨two 8 e (two 6 (nW c1) (gN ⟨false,x⟩)),p',?_,by omega,by omega,by simp[two,nW,gN,Ex.size,Ex.bV];omega⟩;rw[aF rfl Tryz.func115 rfl rfl];simp[hc1,hx,ht,hk,hcon,g,dD,bO,dQ,Ex.aA,k2,n0,wn,he]
  by_cases k3:k=3
  ·refine⟨two 7 (gN ⟨false,x⟩) (nW c1),p+1+1+1+1,?_,by omega,by omega,by simp[two,nW,gN,Ex.size,Ex.bV]⟩;rw[aF rfl Tryz.func115 rfl rfl];simp[hc1,hx,ht,hk,hcon,g,dD,bO,dQ,Ex.aA,k3]
  by_cases k4:k=4
  ·refine⟨two 7 (gN ⟨false,x⟩) (nW c1),p+1+1+1+1,?_,by omega,by omega,by simp[two,nW,gN,Ex.size,Ex.bV]⟩;rw[aF rfl Tryz.func115 rfl rfl];simp[hc1,hx,ht,hk,hcon,g,dD,bO,dQ,Ex.aA,k4]
  by_cases k5:k=5
  ·refine⟨two 7 (nW c1) (gN ⟨false,x⟩),p+1+1+1+1,?_,by omega,by omega,by simp[two,nW,gN,Ex.size,Ex.bV]⟩;rw[aF rfl Tryz.func115 rfl rfl];simp[hc1,hx,ht,hk,hcon,g,dD,bO,dQ,Ex.aA,k5]
  refine⟨two 6 (nW c1) (gN ⟨false,x⟩),p+1+1+1+1,?_,by omega,by omega,by simp[two,nW,gN,Ex.size,Ex.bV]⟩;rw[aF rfl Tryz.func115 rfl rfl];simp[hc1,hx,ht,hk,hcon,g,dD,bO,dQ,Ex.aA,k0,k1,k2,k3,k4,k5]
theorem ABD (l:List UInt8) (hl:l.length≤2000) (w:Int):∀ (n:Nat),n≤3→∀ p:Int,0≤p→p+10*n<500000000→∃ (e:Ex) (p':Int),aH C0 115 [.own 0 0, .int w, .int n] [Rd l p]=some (.i (.agg e.cells),[Rd l p'])∧p≤p'∧p'≤p+AET n∧e.size≤AET n
 | 0,hn,p,h0,h1=>OQ l hl w 0 0 hn p h0 h1 (.inl rfl)
 | n+1,hn,p,h0,h1=>by
  refine OQ l hl w (n+1) (AET n) hn p h0 h1 (.inr fun q q0 q1=>?_);rw[show((n+1:Nat):Int)-1=n by omega]at q1 ⊢;exact ABD l hl w n (by omega) q q0 q1
end Go.Proofs.YtmcjmafajkeecaaGreatDoor
namespace Go.Av
end Go.Av
namespace Go.Proofs.YtmcjmafajkeecaaGreatDoor
open Go Go.Av
set_option maxRecDepth 4000
set_option maxHeartbeats 2000000
theorem aM (l:List UInt8) (hl:l.length≤2000) (w p:Int) (h0:0≤p) (h1:p<400000000):∃ (e:Ex) (p':Int),aH C0 102 [.own 0 0, .int w] [Rd l p]=some (.i (.agg e.cells),[Rd l p'])∧p≤p'∧p'≤p+120∧e.size≤120:=by
 obtain⟨e,p',he,a1,a2,a3⟩:=ABD l hl w 2 (by omega) p h0 (by omega);refine⟨e,p',?_,a1,a2,a3⟩;rw[aF rfl Tryz.func102 rfl rfl];rw[show((2:Nat):Int)=2 from rfl,Ex.aB]at he;rw[Ex.aB];simp[he]
end Go.Proofs.YtmcjmafajkeecaaGreatDoor
namespace Go.Proofs.YtmcjmafajkeecaaGreatDoor.P
open Go Go.Av
set_option maxRecDepth 4000
theorem pX (n:Int):n=1∨n=2∨n=3∨n=4∨n=5∨n=6∨n=7∨n=8∨(n≠1∧n≠2∧n≠3∧n≠4∧n≠5∧n≠6∧n≠7∧n≠8):=by omega
@[simp] theorem eF (n:Int):aH C0 58 [.int n] []=some (.tup [.int (bU n), .int (eX n)],[]):=by
  rw[aF rfl Tryz.func58 rfl rfl]
  rcases pX n with rfl|rfl|rfl|rfl|rfl|rfl|rfl|rfl|⟨h1,h2,h3,h4,h5,h6,h7,h8⟩
  all_goals first
   | (simp[bU,eX];done)
   | (have e1:bU n=0:=by unfold bU;rw[if_neg (by omega)]
      have e2:eX n=-1:=by unfold eX;rw[if_neg (by omega),if_neg (by omega),if_neg (by omega)]
      simp[e1,e2,h1,h2,h3,h4,h5,h6,h7,h8])
def pv (cs:List Int) (i:Nat):Int:=((-1)::cs)[i]?.getD 0
theorem ZT {cs:List Int} {i:Nat} {c:Int} (h:cs[i]?=some c):pv cs (i+1)=c:=by simp[pv,h]
theorem uY {cs:List Int} {i:Nat} {x:Int×Int} (h:(cs.zip (-1::cs))[i]?=some x):cs[i]?=some x.1∧pv cs i=x.2:=by
 rw[List.getElem?_zip_eq_some]at h;exact⟨h.1,by simp[pv,h.2]⟩
theorem U6 (cs:List Int):(cs.zip (-1::cs)).length=cs.length:=by simp
def GX (cs:List Int) (w:Int) (i:Nat):AS :=
 { env:=[(0, .i (.isl (aI cs))),(1, .int w),(4, .bool false),(5, .int (pv cs i)),(7,jk i (.int (pv cs i))),(10, .bool false),(11, .i (.isl (aI cs))),(12, .int cs.length),(13, .int i),(14,jk i (.bool true)),(24,jk i (.bool false))],st:=[] }
theorem rQ (cs:List Int) (w:Int):aH C0 98 [.i (.isl (aI cs)), .int w] []=some (.bool (decide (cs.length<6) && nV w cs),[]):=by
 rw[aF rfl Tryz.func98 rfl rfl];by_cases h6:cs.length<6
 case neg=>simp[h6,show(6:Int)≤cs.length by omega]
 simp[h6,show ¬ (6:Int)≤cs.length by omega];obtain⟨j,h1,h2⟩:=kD (fun x:Int×Int=>decide (x.2<x.1∧x.1<w)) (cs.zip (-1::cs));rw[aW (GX cs w) j (by simp[GX,pv])]
 ·rw[aD]
  rcases h2 with ⟨hj,ha⟩|⟨x,h3,_,h4,ha⟩
  ·rw[U6]at hj;have ha:nV w cs=true:=ha;simp[GX,hj,ha]
  ·obtain⟨c1,c2⟩:=uY h3;have r1:=(zX.1 c1).1;have r2:=dL c1;have hb:¬ (x.2<x.1∧x.1<w):=by simpa using h4
   have ha:nV w cs=false:=ha;by_cases hx:x.1≤x.2
   ·simp[GX,r1,r2,c2,hx,ha]
   ·simp[GX,r1,r2,c2,hx,ha,show w≤x.1 by omega]
 ·intro i hi;obtain⟨x,h3,_,h4⟩:=h1 i hi;obtain⟨c1,c2⟩:=uY h3;have r1:=(zX.1 c1).1;have r2:=dL c1;have c3:=ZT c1;have hb:x.2<x.1∧x.1<w:=by simpa using h4
  have w2:IntKind.i64.wrap ((i:Int)+1)=i+1:=wrO;simp[GX,r1,r2,c2,c3,w2,show ¬ x.1≤x.2 by omega,show ¬ w≤x.1 by omega]
def WX (p:Pn) (a b y:Int) (x14:Bool) (n21 n22:Nat) (x22:Bool) (n26 n27:Nat) (x27:Bool) (i:Nat):AS :=
 { env:=[(0, .i (.iref [.int p.kind, .int p.table, .isl (Ex.aA p.exprs), .isl (aI p.cols), .isl (Pn.aA p.kids)])),(1, .int a),(2, .int b),(6, .int 0),(7, .int y),(8,jk i (.int (i-1))),(13, .int p.kind),(14, .bool x14),(21,jk n21 (.bool false)),(22,jk n22 (.bool x22)),(26,jk n26 (.bool false)),(27,jk n27 (.bool x27)),(35, .junk),(46, .int p.exprs.length),(47, .int i),(48,jk i (.bool true)),(59,jk i (.bool false)),(65, .junk)],st:=[] }
theorem gT (p:Pn) (a b:Int) (ha:0≤a∧a≤6) (hb:0≤b∧b≤6) (hd:p.headOk=true):aH C0 75 [.i (.iref p.cells), .int a, .int b] []=some (.int (bR p.kind p.exprs p.cols a b),[]):=by
 rw[aF rfl Tryz.func75 rfl rfl];have he:=Pn.kP hd;rw[Pn.aB];have hg:=rQ p.cols a;have w1:IntKind.i64.wrap (a+b)=a+b:=wrO;by_cases h6:p.kind=6
 ·have h8:p.kind≠8:=by omega
  have h4:p.kind≠5:=by omega
  have hz:p.exprs=[]:=by
   simp only[Pn.headOk,zW,zN,h6]at hd;have:=hd.2.1;simp[bU]at this;exact this
  by_cases hab:a=b
  ·subst hab;simp[h6];rw[aD];simp[hz,h6,bR]
  ·simp[h6,hab,bR]
 by_cases h8:p.kind=8
 ·by_cases h9:p.cols.length<6
  ·have w3:IntKind.i64.wrap ((p.cols.length:Int)+1)=p.cols.length+1:=wrO
   cases hc:nV a p.cols<;>simp[h8,hg,h9,hc,bR,w3]
  ·simp[h8,hg,h9,bR]
 by_cases h45:p.kind=4∨p.kind=5
 ·by_cases hs:a+b≤6
  case neg=>rcases h45 with h4|h4<;>simp[h4,w1,show 6<a+b by omega,bR,hs]
  have h4:True:=trivial
  rcases h45 with h45|h45
  ·simp[h45,w1,show ¬ 6<a+b by omega];obtain⟨j,h1,h2⟩:=kD (Ex.ok (a+b)) p.exprs;rw[aW (WX p a b (a+b) true 1 0 false 0 0 false) j (by simp[WX,h45])]
   ·rw[aD]
    rcases h2 with ⟨hj,hall⟩|⟨x,h3,_,h5,hall⟩
    ·simp[WX,hj,hall,bR,h45,hs]
    ·have r1:=(zX.1 h3).1;have r2:=Ex.aS h3;have r3:=ok_eq (a+b) x;rw[h5]at r3;rw[Ex.aB]at r2 r3;simp[WX,r1,r2,r3,hall,bR,h45,hs]
   ·intro i hi;obtain⟨x,h3,_,h5⟩:=h1 i hi;have r1:=(zX.1 h3).1;have r2:=Ex.aS h3;have r3:=ok_eq (a+b) x;rw[h5]at r3;rw[Ex.aB]at r2 r3;have w2:IntKind.i64.wrap ((i:Int)+1)=i+1:=wrO;simp[WX,r1,r2,r3,w2,h45]
  ·simp[h45,w1,show ¬ 6<a+b by omega];obtain⟨j,h1,h2⟩:=kD (Ex.ok (a+b)) p.exprs;rw[aW (WX p a b (a+b) true 1 0 false 0 0 false) j (by simp[WX,h45])]
   ·rw[aD]
    rcases h2 with ⟨hj,hall⟩|⟨x,h3,_,h5,hall⟩
    ·simp[WX,hj,hall,bR,h45,hs]
    ·have r1:=(zX.1 h3).1;have r2:=Ex.aS h3;have r3:=ok_eq (a+b) x;rw[h5]at r3;rw[Ex.aB]at r2 r3;simp[WX,r1,r2,r3,hall,bR,h45,hs]
   ·intro i hi;obtain⟨x,h3,_,h5⟩:=h1 i hi;have r1:=(zX.1 h3).1;have r2:=Ex.aS h3;have r3:=ok_eq (a+b) x;rw[h5]at r3;rw[Ex.aB]at r2 r3;have w2:IntKind.i64.wrap ((i:Int)+1)=i+1:=wrO;simp[WX,r1,r2,r3,w2,h45]
 have h4:p.kind≠4:=by omega
 have h5':p.kind≠5:=by omega
 simp[h6,h8,h4,h5'];obtain⟨j,h1,h2⟩:=kD (Ex.ok (a)) p.exprs;rw[aW (WX p a b a false 0 1 false 0 1 false) j (by simp[WX,h6,h8,h5'])]
 ·rw[aD]
  rcases h2 with ⟨hj,hall⟩|⟨x,h3,_,h5,hall⟩
  ·by_cases h3':p.kind=3
   ·simp[WX,hj,hall,bR,h3']
   ·simp[WX,hj,hall,bR,h6,h8,h4,h5',h3']
  ·have r1:=(zX.1 h3).1;have r2:=Ex.aS h3;have r3:=ok_eq (a) x;rw[h5]at r3;rw[Ex.aB]at r2 r3;by_cases h3':p.kind=3
   ·simp[WX,r1,r2,r3,hall,bR,h3']
   ·simp[WX,r1,r2,r3,hall,bR,h6,h8,h4,h5',h3']
 ·intro i hi;obtain⟨x,h3,_,h5⟩:=h1 i hi;have r1:=(zX.1 h3).1;have r2:=Ex.aS h3;have r3:=ok_eq (a) x;rw[h5]at r3;rw[Ex.aB]at r2 r3;have w2:IntKind.i64.wrap ((i:Int)+1)=i+1:=wrO;simp[WX,r1,r2,r3,w2]
set_option maxHeartbeats 2000000
@[simp] theorem AQR:eX 1=0:=by decide
@[simp] theorem APB:bU 1=0:=by decide
@[simp] theorem AQQ:eX 2=1:=by decide
@[simp] theorem APA:bU 2=1:=by decide
@[simp] theorem AQP:eX 3=1:=by decide
@[simp] theorem AP9:bU 3=1:=by decide
@[simp] theorem AQO:eX 4=2:=by decide
@[simp] theorem AP8:bU 4=1:=by decide
@[simp] theorem AQN:eX 5=2:=by decide
@[simp] theorem AP7:bU 5=1:=by decide
@[simp] theorem AQM:eX 6=2:=by decide
@[simp] theorem AP6:bU 6=0:=by decide
@[simp] theorem AQL:eX 7=1:=by decide
@[simp] theorem AP5:bU 7=0:=by decide
@[simp] theorem AQK:eX 8=1:=by decide
@[simp] theorem AP4:bU 8=0:=by decide
theorem TB {k:Int} (h:k≠1∧k≠2∧k≠3∧k≠4∧k≠5∧k≠6∧k≠7∧k≠8):eX k=-1:=by
 unfold eX;rw[if_neg (by omega),if_neg (by omega),if_neg (by omega)]
theorem RJ {ws:List Int} {t:Int} {es:List Ex} {cs:List Int} {ks:List Pn} {lv:Nat} {k:Int} (h:k≠1∧k≠2∧k≠3∧k≠4∧k≠5∧k≠6∧k≠7∧k≠8):aH C0 40 [.i (.iref [.int k, .int t, .isl (Ex.aA es), .isl (aI cs), .isl (Pn.aA ks)]), .i (.isl (aI ws)), .int lv] []=some (.int 0,[]):=by
 rw[aF rfl Tryz.func40 rfl rfl];have c1:¬ (ks.length:Int)=-1:=by omega
 have hn:=TB h;simp[h.2.2.1,hn,c1]
theorem ABV {ws:List Int} {t:Int} {es:List Ex} {cs:List Int} {ks:List Pn} {lv:Nat} (h:¬ ((ks.length:Int)=0∧(es.length:Int)=0∧True∧cs=[])):aH C0 40 [.i (.iref [.int 1, .int t, .isl (Ex.aA es), .isl (aI cs), .isl (Pn.aA ks)]), .i (.isl (aI ws)), .int lv] []=some (.int 0,[]):=by
 rw[aF rfl Tryz.func40 rfl rfl];by_cases c1:(ks.length:Int)=0
 case neg=>simp at c1;simp[c1]
 by_cases c2:(es.length:Int)=0
 case neg=>simp at c2;simp[c1,c2]
 by_cases c5:cs=[]
 case neg=>simp[c1,c2,c5]
 exact absurd (by simp[c1,c2,c5]) h
theorem ABU {ws:List Int} {t:Int} {es:List Ex} {cs:List Int} {ks:List Pn} {lv:Nat} (h:¬ ((ks.length:Int)=1∧(es.length:Int)=1∧lv≠0∧t=0∧cs=[])):aH C0 40 [.i (.iref [.int 2, .int t, .isl (Ex.aA es), .isl (aI cs), .isl (Pn.aA ks)]), .i (.isl (aI ws)), .int lv] []=some (.int 0,[]):=by
 rw[aF rfl Tryz.func40 rfl rfl];by_cases c1:(ks.length:Int)=1
 case neg=>simp[c1]
 by_cases c2:(es.length:Int)=1
 case neg=>simp[c1,c2]
 by_cases c3:lv=0
 case pos=>subst c3;simp[c1,c2]
 have c3':¬ (lv:Int)=0:=by omega
 by_cases c4:t=0
 case neg=>simp[c1,c2,c3,c3',c4]
 by_cases c5:cs=[]
 case neg=>simp[c1,c2,c3,c3',c4,c5]
 exact absurd (by simp[c1,c2,c3,c3',c4,c5]) h
theorem ABT {ws:List Int} {t:Int} {es:List Ex} {cs:List Int} {ks:List Pn} {lv:Nat} (h:¬ ((ks.length:Int)=1∧(es.length:Int)=(if cK es.length=true then(es.length:Int)else 1)∧lv≠0∧t=0∧cs=[])):aH C0 40 [.i (.iref [.int 3, .int t, .isl (Ex.aA es), .isl (aI cs), .isl (Pn.aA ks)]), .i (.isl (aI ws)), .int lv] []=some (.int 0,[]):=by
 rw[aF rfl Tryz.func40 rfl rfl]
 cases hv:cK es.length
 ·have hq:(es.length:Int)≠1:=fun hq=>by rw[hq]at hv;simp[cK]at hv
  by_cases c1:(ks.length:Int)=1
  case neg=>simp[hv,c1]
  simp[hv,c1,hq]
 by_cases c1:(ks.length:Int)=1
 case neg=>simp[hv,c1]
 by_cases c3:lv=0
 case pos=>subst c3;simp[hv,c1]
 have c3':¬ (lv:Int)=0:=by omega
 by_cases c4:t=0
 case neg=>simp[hv,c1,c3,c3',c4]
 by_cases c5:cs=[]
 case neg=>simp[hv,c1,c3,c3',c4,c5]
 exact absurd (by simp[hv,c1,c3,c4,c5]) h
theorem ABS {ws:List Int} {t:Int} {es:List Ex} {cs:List Int} {ks:List Pn} {lv:Nat} (h:¬ ((ks.length:Int)=2∧(es.length:Int)=1∧lv≠0∧t=0∧cs=[])):aH C0 40 [.i (.iref [.int 4, .int t, .isl (Ex.aA es), .isl (aI cs), .isl (Pn.aA ks)]), .i (.isl (aI ws)), .int lv] []=some (.int 0,[]):=by
 rw[aF rfl Tryz.func40 rfl rfl];by_cases c1:(ks.length:Int)=2
 case neg=>simp[c1]
 by_cases c2:(es.length:Int)=1
 case neg=>simp[c1,c2]
 by_cases c3:lv=0
 case pos=>subst c3;simp[c1,c2]
 have c3':¬ (lv:Int)=0:=by omega
 by_cases c4:t=0
 case neg=>simp[c1,c2,c3,c3',c4]
 by_cases c5:cs=[]
 case neg=>simp[c1,c2,c3,c3',c4,c5]
 exact absurd (by simp[c1,c2,c3,c3',c4,c5]) h
theorem ABR {ws:List Int} {t:Int} {es:List Ex} {cs:List Int} {ks:List Pn} {lv:Nat} (h:¬ ((ks.length:Int)=2∧(es.length:Int)=1∧lv≠0∧t=0∧cs=[])):aH C0 40 [.i (.iref [.int 5, .int t, .isl (Ex.aA es), .isl (aI cs), .isl (Pn.aA ks)]), .i (.isl (aI ws)), .int lv] []=some (.int 0,[]):=by
 rw[aF rfl Tryz.func40 rfl rfl];by_cases c1:(ks.length:Int)=2
 case neg=>simp[c1]
 by_cases c2:(es.length:Int)=1
 case neg=>simp[c1,c2]
 by_cases c3:lv=0
 case pos=>subst c3;simp[c1,c2]
 have c3':¬ (lv:Int)=0:=by omega
 by_cases c4:t=0
 case neg=>simp[c1,c2,c3,c3',c4]
 by_cases c5:cs=[]
 case neg=>simp[c1,c2,c3,c3',c4,c5]
 exact absurd (by simp[c1,c2,c3,c3',c4,c5]) h
theorem ABQ {ws:List Int} {t:Int} {es:List Ex} {cs:List Int} {ks:List Pn} {lv:Nat} (h:¬ ((ks.length:Int)=2∧(es.length:Int)=0∧lv≠0∧t=0∧cs=[])):aH C0 40 [.i (.iref [.int 6, .int t, .isl (Ex.aA es), .isl (aI cs), .isl (Pn.aA ks)]), .i (.isl (aI ws)), .int lv] []=some (.int 0,[]):=by
 rw[aF rfl Tryz.func40 rfl rfl];by_cases c1:(ks.length:Int)=2
 case neg=>simp[c1]
 by_cases c2:(es.length:Int)=0
 case neg=>simp at c2;simp[c1,c2]
 by_cases c3:lv=0
 case pos=>subst c3;simp[c1,c2]
 have c3':¬ (lv:Int)=0:=by omega
 by_cases c4:t=0
 case neg=>simp[c1,c2,c3,c3',c4]
 by_cases c5:cs=[]
 case neg=>simp[c1,c2,c3,c3',c4,c5]
 exact absurd (by simp[c1,c2,c3,c3',c4,c5]) h
theorem ABP {ws:List Int} {t:Int} {es:List Ex} {cs:List Int} {ks:List Pn} {lv:Nat} (h:¬ ((ks.length:Int)=1∧(es.length:Int)=0∧lv≠0∧t=0∧cs=[])):aH C0 40 [.i (.iref [.int 7, .int t, .isl (Ex.aA es), .isl (aI cs), .isl (Pn.aA ks)]), .i (.isl (aI ws)), .int lv] []=some (.int 0,[]):=by
 rw[aF rfl Tryz.func40 rfl rfl];by_cases c1:(ks.length:Int)=1
 case neg=>simp[c1]
 by_cases c2:(es.length:Int)=0
 case neg=>simp at c2;simp[c1,c2]
 by_cases c3:lv=0
 case pos=>subst c3;simp[c1,c2]
 have c3':¬ (lv:Int)=0:=by omega
 by_cases c4:t=0
 case neg=>simp[c1,c2,c3,c3',c4]
 by_cases c5:cs=[]
 case neg=>simp[c1,c2,c3,c3',c4,c5]
 exact absurd (by simp[c1,c2,c3,c3',c4,c5]) h
theorem ABO {ws:List Int} {t:Int} {es:List Ex} {cs:List Int} {ks:List Pn} {lv:Nat} (h:¬ ((ks.length:Int)=1∧(es.length:Int)=0∧lv≠0∧t=0)):aH C0 40 [.i (.iref [.int 8, .int t, .isl (Ex.aA es), .isl (aI cs), .isl (Pn.aA ks)]), .i (.isl (aI ws)), .int lv] []=some (.int 0,[]):=by
 rw[aF rfl Tryz.func40 rfl rfl];by_cases c1:(ks.length:Int)=1
 case neg=>simp[c1]
 by_cases c2:(es.length:Int)=0
 case neg=>simp at c2;simp[c1,c2]
 by_cases c3:lv=0
 case pos=>subst c3;simp[c1,c2]
 have c3':¬ (lv:Int)=0:=by omega
 by_cases c4:t=0
 case neg=>simp[c1,c2,c3,c3',c4]
 exact absurd (by simp[c1,c2,c3,c3',c4]) h
theorem XO {ws:List Int} {t:Int} {lv:Nat}:aH C0 40 [.i (.iref [.int 1, .int t, .isl (Ex.aA []), .isl (aI []), .isl (Pn.aA [])]), .i (.isl (aI ws)), .int lv] []=some (.int (if 0≤t then(ws[t.toNat]?).getD 0 else 0),[]):=by
 rw[aF rfl Tryz.func40 rfl rfl];by_cases h0:0≤t
 case neg=>simp[Ex.aA,Pn.aA,aI,h0,show t<0 by omega]
 cases hx:ws[t.toNat]? with
 | none =>
  have:=List.getElem?_eq_none_iff.1 hx;simp[Ex.aA,Pn.aA,aI,h0,show ¬ t<0 by omega,show(ws.length:Int)≤t by omega]
 | some x =>
  have r1:=(zX.1 hx).1;have r2:=dL hx;simp[Ex.aA,Pn.aA,aI,h0,show ¬ t<0 by omega,show ¬ (ws.length:Int)≤t by omega,r2,show t<ws.length by omega]
theorem XN {ws:List Int} {es:List Ex} {a:Pn} {lv:Nat} {va:Int} (hl:lv≠0) (hl8:lv≤8) (hd:Pn.headOk (Pn.mk 2 0 es [] [a])=true) (ha:aH C0 40 [.i (.iref a.cells), .i (.isl (aI ws)), .int (lv-1:Nat)] []=some (.int va,[])) (ra:0≤va∧va≤6):aH C0 40 [.i (.iref [.int 2, .int 0, .isl (Ex.aA es), .isl (aI []), .isl (Pn.aA [a])]), .i (.isl (aI ws)), .int lv] []=some (.int (if va=0 then 0 else bR 2 es [] va 0),[]):=by
 rw[aF rfl Tryz.func40 rfl rfl];have c3':¬ (lv:Int)=0:=by omega
 have w1:IntKind.i64.wrap ((lv:Int)-1)=(lv-1:Nat):=by rw[wrO];omega
 have r0:iP [a.cells] 0=some a.cells:=rfl;have hov:=gT (Pn.mk 2 0 es [] [a]) va 0 ra (by omega) hd;rw[Pn.bD]at hov;simp only[Pn.eO,Pn.bZ,Pn.eT,Pn.aA,aI,Ex.aA]at hov;rw[Pn.aB a]at ha hov r0
 have c2:(es.length:Int)=1:=by
  simp only[Pn.headOk,zW,zN,Pn.bZ,Pn.eO]at hd;simpa using hd.2.1
 simp[c2,hl,c3',Pn.aA,aI,Ex.aA];rw[Pn.aB a];rw[aD];by_cases z1:va=0
 case pos=>simp[w1,ha,r0,z1]
 simp[w1,ha,r0,z1,bL];rw[aD];simp[hov,z1]
theorem XM {ws:List Int} {es:List Ex} {a:Pn} {lv:Nat} {va:Int} (hl:lv≠0) (hl8:lv≤8) (hd:Pn.headOk (Pn.mk 3 0 es [] [a])=true) (ha:aH C0 40 [.i (.iref a.cells), .i (.isl (aI ws)), .int (lv-1:Nat)] []=some (.int va,[])) (ra:0≤va∧va≤6):aH C0 40 [.i (.iref [.int 3, .int 0, .isl (Ex.aA es), .isl (aI []), .isl (Pn.aA [a])]), .i (.isl (aI ws)), .int lv] []=some (.int (if va=0 then 0 else bR 3 es [] va 0),[]):=by
 rw[aF rfl Tryz.func40 rfl rfl];have c3':¬ (lv:Int)=0:=by omega
 have w1:IntKind.i64.wrap ((lv:Int)-1)=(lv-1:Nat):=by rw[wrO];omega
 have r0:iP [a.cells] 0=some a.cells:=rfl;have hov:=gT (Pn.mk 3 0 es [] [a]) va 0 ra (by omega) hd;rw[Pn.bD]at hov;simp only[Pn.eO,Pn.bZ,Pn.eT,Pn.aA,aI,Ex.aA]at hov;rw[Pn.aB a]at ha hov r0
 have hv:cK es.length=true∨(es.length:Int)=1:=by
  simp only[Pn.headOk,zW,zN,Pn.bZ,Pn.eO]at hd;have:=hd.2.1;split at this
  ·rename_i h;exact .inl h.2
  ·exact .inr (by simpa using this)
 have hv:cK es.length=true:=by
  rcases hv with h|h
  ·exact h
  ·rw[h];decide
 simp[hv,hl,c3',Pn.aA,aI,Ex.aA];rw[Pn.aB a];rw[aD];by_cases z1:va=0
 case pos=>simp[w1,ha,r0,z1]
 simp[w1,ha,r0,z1,bL];rw[aD];simp[hov,z1]
theorem XL {ws:List Int} {es:List Ex} {a b:Pn} {lv:Nat} {va vb:Int} (hl:lv≠0) (hl8:lv≤8) (hd:Pn.headOk (Pn.mk 4 0 es [] [a,b])=true) (ha:aH C0 40 [.i (.iref a.cells), .i (.isl (aI ws)), .int (lv-1:Nat)] []=some (.int va,[])) (ra:0≤va∧va≤6) (hb:aH C0 40 [.i (.iref b.cells), .i (.isl (aI ws)), .int (lv-1:Nat)] []=some (.int vb,[])) (rb:0≤vb∧vb≤6):aH C0 40 [.i (.iref [.int 4, .int 0, .isl (Ex.aA es), .isl (aI []), .isl (Pn.aA [a,b])]), .i (.isl (aI ws)), .int lv] []=some (.int (if va=0∨vb=0 then 0 else bR 4 es [] va vb),[]):=by
 rw[aF rfl Tryz.func40 rfl rfl];have c3':¬ (lv:Int)=0:=by omega
 have w1:IntKind.i64.wrap ((lv:Int)-1)=(lv-1:Nat):=by rw[wrO];omega
 have r0:iP [a.cells,b.cells] 0=some a.cells:=rfl;have r1:iP [a.cells,b.cells] 1=some b.cells:=rfl;have hov:=gT (Pn.mk 4 0 es [] [a,b]) va vb ra rb hd;rw[Pn.bD]at hov;simp only[Pn.eO,Pn.bZ,Pn.eT,Pn.aA,aI,Ex.aA]at hov;rw[Pn.aB a]at ha hov r0 r1;rw[Pn.aB b]at hb hov r0 r1
 have c2:(es.length:Int)=1:=by
  simp only[Pn.headOk,zW,zN,Pn.bZ,Pn.eO]at hd;simpa using hd.2.1
 simp[c2,hl,c3',Pn.aA,aI,Ex.aA];rw[Pn.aB a,Pn.aB b];rw[aD];by_cases z1:va=0
 case pos=>simp[w1,ha,r0,z1]
 simp[w1,ha,r0,z1,bL];rw[aD];by_cases z2:vb=0
 case pos=>simp[w1,hb,r1,z2]
 simp[w1,hb,r1,z1,z2,wrap64 (x:=2) (by omega) (by omega)];rw[aD];simp[hov,z1,z2]
theorem XK {ws:List Int} {es:List Ex} {a b:Pn} {lv:Nat} {va vb:Int} (hl:lv≠0) (hl8:lv≤8) (hd:Pn.headOk (Pn.mk 5 0 es [] [a,b])=true) (ha:aH C0 40 [.i (.iref a.cells), .i (.isl (aI ws)), .int (lv-1:Nat)] []=some (.int va,[])) (ra:0≤va∧va≤6) (hb:aH C0 40 [.i (.iref b.cells), .i (.isl (aI ws)), .int (lv-1:Nat)] []=some (.int vb,[])) (rb:0≤vb∧vb≤6):aH C0 40 [.i (.iref [.int 5, .int 0, .isl (Ex.aA es), .isl (aI []), .isl (Pn.aA [a,b])]), .i (.isl (aI ws)), .int lv] []=some (.int (if va=0∨vb=0 then 0 else bR 5 es [] va vb),[]):=by
 rw[aF rfl Tryz.func40 rfl rfl];have c3':¬ (lv:Int)=0:=by omega
 have w1:IntKind.i64.wrap ((lv:Int)-1)=(lv-1:Nat):=by rw[wrO];omega
 have r0:iP [a.cells,b.cells] 0=some a.cells:=rfl;have r1:iP [a.cells,b.cells] 1=some b.cells:=rfl;have hov:=gT (Pn.mk 5 0 es [] [a,b]) va vb ra rb hd;rw[Pn.bD]at hov;simp only[Pn.eO,Pn.bZ,Pn.eT,Pn.aA,aI,Ex.aA]at hov;rw[Pn.aB a]at ha hov r0 r1;rw[Pn.aB b]at hb hov r0 r1
 have c2:(es.length:Int)=1:=by
  simp only[Pn.headOk,zW,zN,Pn.bZ,Pn.eO]at hd;simpa using hd.2.1
 simp[c2,hl,c3',Pn.aA,aI,Ex.aA];rw[Pn.aB a,Pn.aB b];rw[aD];by_cases z1:va=0
 case pos=>simp[w1,ha,r0,z1]
 simp[w1,ha,r0,z1,bL];rw[aD];by_cases z2:vb=0
 case pos=>simp[w1,hb,r1,z2]
 simp[w1,hb,r1,z1,z2,wrap64 (x:=2) (by omega) (by omega)];rw[aD];simp[hov,z1,z2]
theorem XJ {ws:List Int} {a b:Pn} {lv:Nat} {va vb:Int} (hl:lv≠0) (hl8:lv≤8) (hd:Pn.headOk (Pn.mk 6 0 [] [] [a,b])=true) (ha:aH C0 40 [.i (.iref a.cells), .i (.isl (aI ws)), .int (lv-1:Nat)] []=some (.int va,[])) (ra:0≤va∧va≤6) (hb:aH C0 40 [.i (.iref b.cells), .i (.isl (aI ws)), .int (lv-1:Nat)] []=some (.int vb,[])) (rb:0≤vb∧vb≤6):aH C0 40 [.i (.iref [.int 6, .int 0, .isl (Ex.aA []), .isl (aI []), .isl (Pn.aA [a,b])]), .i (.isl (aI ws)), .int lv] []=some (.int (if va=0∨vb=0 then 0 else bR 6 [] [] va vb),[]):=by
 rw[aF rfl Tryz.func40 rfl rfl];have c3':¬ (lv:Int)=0:=by omega
 have w1:IntKind.i64.wrap ((lv:Int)-1)=(lv-1:Nat):=by rw[wrO];omega
 have r0:iP [a.cells,b.cells] 0=some a.cells:=rfl;have r1:iP [a.cells,b.cells] 1=some b.cells:=rfl;have hov:=gT (Pn.mk 6 0 [] [] [a,b]) va vb ra rb hd;rw[Pn.bD]at hov;simp only[Pn.eO,Pn.bZ,Pn.eT,Pn.aA,aI,Ex.aA]at hov;rw[Pn.aB a]at ha hov r0 r1;rw[Pn.aB b]at hb hov r0 r1;simp[hl,c3',Pn.aA,aI,Ex.aA];rw[Pn.aB a,Pn.aB b];rw[aD];by_cases z1:va=0
 case pos=>simp[w1,ha,r0,z1]
 simp[w1,ha,r0,z1,bL];rw[aD];by_cases z2:vb=0
 case pos=>simp[w1,hb,r1,z2]
 simp[w1,hb,r1,z1,z2,wrap64 (x:=2) (by omega) (by omega)];rw[aD];simp[hov,z1,z2]
theorem XI {ws:List Int} {a:Pn} {lv:Nat} {va:Int} (hl:lv≠0) (hl8:lv≤8) (hd:Pn.headOk (Pn.mk 7 0 [] [] [a])=true) (ha:aH C0 40 [.i (.iref a.cells), .i (.isl (aI ws)), .int (lv-1:Nat)] []=some (.int va,[])) (ra:0≤va∧va≤6):aH C0 40 [.i (.iref [.int 7, .int 0, .isl (Ex.aA []), .isl (aI []), .isl (Pn.aA [a])]), .i (.isl (aI ws)), .int lv] []=some (.int (if va=0 then 0 else bR 7 [] [] va 0),[]):=by
 rw[aF rfl Tryz.func40 rfl rfl];have c3':¬ (lv:Int)=0:=by omega
 have w1:IntKind.i64.wrap ((lv:Int)-1)=(lv-1:Nat):=by rw[wrO];omega
 have r0:iP [a.cells] 0=some a.cells:=rfl;have hov:=gT (Pn.mk 7 0 [] [] [a]) va 0 ra (by omega) hd;rw[Pn.bD]at hov;simp only[Pn.eO,Pn.bZ,Pn.eT,Pn.aA,aI,Ex.aA]at hov;rw[Pn.aB a]at ha hov r0;simp[hl,c3',Pn.aA,aI,Ex.aA];rw[Pn.aB a];rw[aD];by_cases z1:va=0
 case pos=>simp[w1,ha,r0,z1]
 simp[w1,ha,r0,z1,bL];rw[aD];simp[hov,z1]
theorem XH {ws:List Int} {cs:List Int} {a:Pn} {lv:Nat} {va:Int} (hl:lv≠0) (hl8:lv≤8) (hd:Pn.headOk (Pn.mk 8 0 [] cs [a])=true) (ha:aH C0 40 [.i (.iref a.cells), .i (.isl (aI ws)), .int (lv-1:Nat)] []=some (.int va,[])) (ra:0≤va∧va≤6):aH C0 40 [.i (.iref [.int 8, .int 0, .isl (Ex.aA []), .isl (aI cs), .isl (Pn.aA [a])]), .i (.isl (aI ws)), .int lv] []=some (.int (if va=0 then 0 else bR 8 [] cs va 0),[]):=by
 rw[aF rfl Tryz.func40 rfl rfl];have c3':¬ (lv:Int)=0:=by omega
 have w1:IntKind.i64.wrap ((lv:Int)-1)=(lv-1:Nat):=by rw[wrO];omega
 have r0:iP [a.cells] 0=some a.cells:=rfl;have hov:=gT (Pn.mk 8 0 [] cs [a]) va 0 ra (by omega) hd;rw[Pn.bD]at hov;simp only[Pn.eO,Pn.bZ,Pn.eT,Pn.aA,aI,Ex.aA]at hov;rw[Pn.aB a]at ha hov r0;simp[hl,c3',Pn.aA,aI,Ex.aA];rw[Pn.aB a];rw[aD];by_cases z1:va=0
 case pos=>simp[w1,ha,r0,z1]
 simp[w1,ha,r0,z1,bL];rw[aD];simp[hov,z1]
theorem lI (k t:Int) (es:List Ex) (cs:List Int) (ks:List Pn):Pn.headOk (.mk k t es cs ks)=true↔((ks.length:Int)=eX k∧(es.length:Int)=(if k=3∧cK es.length=true then(es.length:Int)else bU k)∧(k=1∨t=0)∧(k=8∨cs=[])):=by
 unfold Pn.headOk;simp only[zW,yB,zN];exact Iff.rfl
theorem kU {α:Type} {l:List α} (h:(l.length:Int)=1):∃ a,l=[a]:=zB3.1 (by omega)
theorem vY {α:Type} {l:List α} (h:(l.length:Int)=2):∃ a b,l=[a,b]:=by
 match l,h with
 | [a,b],_=>exact⟨a,b,rfl⟩
 | [],h=>simp at h
 | [_],h=>simp at h
 | _::_::_::_,h=>simp at h;omega
theorem gL {α:Type} {l:List α} (h:(l.length:Int)=0):l=[]:=zZ.1 (by omega)
theorem JK {ws:List Int} (hw:∀ w∈ws,0≤w∧w≤6):∀ (p:Pn) (lv:Nat),lv≤8→aH C0 40 [.i (.iref p.cells), .i (.isl (aI ws)), .int lv] []=some (.int (p.wd ws lv),[]):=by
 intro p
 induction p using Pn.ind with
 | h k t es cs ks ih =>
  intro lv hlv;rw[Pn.bD];by_cases hh:Pn.headOk (.mk k t es cs ks)=true∧(ks=[]∨lv≠0)
  case neg =>
   rw[Pn.AH3 hh];rw[lI]at hh
   rcases pX k with rfl|rfl|rfl|rfl|rfl|rfl|rfl|rfl|h
   ·refine ABV fun h=>hh ?_
    have:=gL h.1;simp[h.2.1,h.2.2.2,this]
   ·exact ABU fun h=>hh (by simp[h.1,h.2.1,h.2.2.1,h.2.2.2.1,h.2.2.2.2])
   ·exact ABT fun h=>hh (by refine⟨⟨by simp[h.1],by simpa using h.2.1,by simp[h.2.2.2.1],by simp[h.2.2.2.2]⟩, .inr h.2.2.1⟩)
   ·exact ABS fun h=>hh (by simp[h.1,h.2.1,h.2.2.1,h.2.2.2.1,h.2.2.2.2])
   ·exact ABR fun h=>hh (by simp[h.1,h.2.1,h.2.2.1,h.2.2.2.1,h.2.2.2.2])
   ·exact ABQ fun h=>hh (by simp[h.1,gL h.2.1,h.2.2.1,h.2.2.2.1,h.2.2.2.2])
   ·exact ABP fun h=>hh (by simp[h.1,gL h.2.1,h.2.2.1,h.2.2.2.1,h.2.2.2.2])
   ·exact ABO fun h=>hh (by simp[h.1,gL h.2.1,h.2.2.1,h.2.2.2])
   ·exact RJ h
  have hd:=hh.1;have hx:=Pn.sI ws lv (.mk k t es cs ks);rw[if_pos (by simpa using hh)]at hx;simp only[Pn.eO,Pn.iR,Pn.bZ,Pn.eT,Pn.gW]at hx;rw[hx];rw[lI]at hh;obtain⟨⟨h1,h2,h3,h4⟩,h5⟩:=hh;have hr:=fun a=>Pn.kY hw a (lv-1)
  rcases pX k with rfl|rfl|rfl|rfl|rfl|rfl|rfl|rfl|h
  ·obtain rfl:=gL (by simpa using h1);obtain rfl:es=[]:=gL (by simpa using h2);obtain rfl:cs=[]:=by simpa using h4
   exact XO
  ·obtain⟨a,rfl⟩:=kU (by simpa using h1);obtain rfl:cs=[]:=by simpa using h4
   obtain rfl:t=0:=by simpa using h3
   have hl:lv≠0:=by simpa using h5
   rw[XN hl hlv hd (ih a (by simp) (lv-1) (by omega)) (hr a)];by_cases z:a.wd ws (lv-1)=0<;>simp[z]
  ·obtain⟨a,rfl⟩:=kU (by simpa using h1);obtain rfl:cs=[]:=by simpa using h4
   obtain rfl:t=0:=by simpa using h3
   have hl:lv≠0:=by simpa using h5
   rw[XM hl hlv hd (ih a (by simp) (lv-1) (by omega)) (hr a)];by_cases z:a.wd ws (lv-1)=0<;>simp[z]
  ·obtain⟨a,b,rfl⟩:=vY (by simpa using h1);obtain rfl:cs=[]:=by simpa using h4
   obtain rfl:t=0:=by simpa using h3
   have hl:lv≠0:=by simpa using h5
   rw[XL hl hlv hd (ih a (by simp) (lv-1) (by omega)) (hr a) (ih b (by simp) (lv-1) (by omega)) (hr b)];by_cases z:a.wd ws (lv-1)=0<;>by_cases z2:b.wd ws (lv-1)=0<;>simp[z,z2]
  ·obtain⟨a,b,rfl⟩:=vY (by simpa using h1);obtain rfl:cs=[]:=by simpa using h4
   obtain rfl:t=0:=by simpa using h3
   have hl:lv≠0:=by simpa using h5
   rw[XK hl hlv hd (ih a (by simp) (lv-1) (by omega)) (hr a) (ih b (by simp) (lv-1) (by omega)) (hr b)];by_cases z:a.wd ws (lv-1)=0<;>by_cases z2:b.wd ws (lv-1)=0<;>simp[z,z2]
  ·obtain⟨a,b,rfl⟩:=vY (by simpa using h1);obtain rfl:es=[]:=gL (by simpa using h2);obtain rfl:cs=[]:=by simpa using h4
   obtain rfl:t=0:=by simpa using h3
   have hl:lv≠0:=by simpa using h5
   rw[XJ hl hlv hd (ih a (by simp) (lv-1) (by omega)) (hr a) (ih b (by simp) (lv-1) (by omega)) (hr b)];by_cases z:a.wd ws (lv-1)=0<;>by_cases z2:b.wd ws (lv-1)=0<;>simp[z,z2]
  ·obtain⟨a,rfl⟩:=kU (by simpa using h1);obtain rfl:es=[]:=gL (by simpa using h2);obtain rfl:cs=[]:=by simpa using h4
   obtain rfl:t=0:=by simpa using h3
   have hl:lv≠0:=by simpa using h5
   rw[XI hl hlv hd (ih a (by simp) (lv-1) (by omega)) (hr a)];by_cases z:a.wd ws (lv-1)=0<;>simp[z]
  ·obtain⟨a,rfl⟩:=kU (by simpa using h1);obtain rfl:es=[]:=gL (by simpa using h2);obtain rfl:t=0:=by simpa using h3
   have hl:lv≠0:=by simpa using h5
   rw[XH hl hlv hd (ih a (by simp) (lv-1) (by omega)) (hr a)];by_cases z:a.wd ws (lv-1)=0<;>simp[z]
  ·exact absurd h1 (by rw[TB h];omega)
def VX (ws:List Int) (i:Nat):AS :=
 { env:=[(0, .i (.isl (aI ws))),(2, .bool false),(4,jk i (.int (ws[i-1]?.getD 0))),(12, .bool false),(13, .i (.isl (aI ws))),(14, .int ws.length),(15, .int i),(16,jk i (.bool true)),(21,jk i (.bool false))],st:=[] }
theorem FW (ws:List Int):aH C0 39 [.i (.isl (aI ws))] []=some (.bool (LK ws),[]):=by
 rw[aF rfl Tryz.func39 rfl rfl];by_cases h1:ws.length=0
 ·have:=zZ.1 h1;subst this;simp[aI,LK]
 by_cases h4:ws.length≤4
 case neg=>simp[LK,h4,show ¬ (ws.length:Int)<1 by omega,show 4<(ws.length:Int)by omega]
 simp[show ¬ (ws.length:Int)<1 by omega,show ¬ 4<(ws.length:Int)by omega];obtain⟨j,h1',h2⟩:=kD cK ws;rw[aW (VX ws) j (by simp[VX])]
 ·rw[aD]
  rcases h2 with ⟨hj,ha⟩|⟨x,h3,_,h5,ha⟩
  ·simp[VX,hj,LK,h4,ha,show 1≤ws.length by omega]
  ·have r1:=(zX.1 h3).1;have r2:=dL h3;simp[VX,r1,r2,h5,LK,ha]
 ·intro i hi;obtain⟨x,h3,_,h5⟩:=h1' i hi;have r1:=(zX.1 h3).1;have r2:=dL h3;have w2:IntKind.i64.wrap ((i:Int)+1)=i+1:=wrO;have h3':ws[i]=x:=(zX.1 h3).2;simp[VX,r1,r2,h5,w2,h3']
theorem IG {ws:List Int} (h:LK ws=true):∀ w∈ws,0≤w∧w≤6:=by
 intro w hw;simp only[LK,zW]at h;have:=zM.1 h.2 w hw;simp[cK]at this;omega
theorem mV (p:Pn) (ws:List Int):aH C0 14 [.i (.agg p.cells), .i (.isl (aI ws))] []=some (.int (p.width ws),[]):=by
 rw[aF rfl Tryz.func14 rfl rfl];have hv:=FW ws
 cases h:LK ws with
 | false=>rw[h]at hv;rw[Pn.aB];simp[hv,Pn.width,h]
 | true =>
  rw[h]at hv;have hb:=JK (IG h) p 8 (by omega);rw[show((8:Nat):Int)=8 from rfl]at hb;rw[Pn.aB]at hb ⊢;simp[hv,Pn.width,h,hb]
end Go.Proofs.YtmcjmafajkeecaaGreatDoor.P
namespace Go.Av
mutual
def Pn.tx:Pn→Prop
 | .mk k t es cs ks=>(1≤k∧k≤8)∧(k=1→0≤t∧t<10)∧(∀ c∈cs,0≤c∧c<10)∧(∀ e∈es,e.tx)∧Pn.txs ks
def Pn.txs:List Pn→Prop
 | []=>True
 | p::l=>p.tx∧Pn.txs l
end
theorem Pn.CJ:∀ l:List Pn,Pn.txs l↔∀ p∈l,p.tx
 | []=>by simp[Pn.txs]
 | p::l=>by simp[Pn.txs,Pn.CJ l]
theorem Pn.gJ (p:Pn):p.tx↔(1≤p.kind∧p.kind≤8)∧(p.kind=1→0≤p.table∧p.table<10)∧(∀ c∈p.cols,0≤c∧c<10)∧(∀ e∈p.exprs,e.tx)∧∀ a∈p.kids,a.tx:=by
 obtain⟨k,t,es,cs,ks⟩:=p;simp only[Pn.tx,Pn.kind,Pn.table,Pn.cols,Pn.exprs,Pn.kids,Pn.CJ]
def NY (l:List Int) (i:Nat):Int:=(l[i-1]?).getD 0
theorem BQ {l:List Int} {i:Nat} {c:Int} (h:l[i]?=some c):NY l (i+1)=c:=by simp[NY,h]
def m1P (p:Pn) (l:List UInt8):List UInt8:=(l++40::nmP p.kind)++(if p.kind=1 then 32::dgI p.table else [])
def mCP (p:Pn) (l:List UInt8) (i:Nat):List UInt8:=m1P p l++txC (p.cols.take i)
def mXP (p:Pn) (l:List UInt8) (i:Nat):List UInt8:=mCP p l p.cols.length++gB (p.exprs.take i)
def mKP (p:Pn) (l:List UInt8) (i:Nat):List UInt8:=mXP p l p.exprs.length++qU (p.kids.take i)
theorem YY (p:Pn) (l:List UInt8):l++txP p=mKP p l p.kids.length++[41]:=by
 rw[lM];simp[mKP,mXP,mCP,m1P]
theorem JO:∀ l:List Int,l.length≤(txC l).length
 | []=>by simp
 | a::l=>by have:=JO l;simp only[txC,zS,zR];omega
theorem BN:∀ l:List Pn,l.length≤(qU l).length
 | []=>by simp
 | a::l=>by have:=BN l;simp only[qU,zS,zR];omega
theorem SA:∀ (xs:List Int) (n:Nat),(txC (xs.take n)).length≤(txC xs).length
 | [],n=>by simp
 | a::xs,0=>by simp[txC]
 | a::xs,n+1=>by have:=SA xs n;simp only[yA,txC,zS,zR];omega
theorem vO:∀ (xs:List Ex) (n:Nat),(gB (xs.take n)).length≤(gB xs).length
 | [],n=>by simp
 | a::xs,0=>by simp[gB]
 | a::xs,n+1=>by have:=vO xs n;simp only[yA,gB,zS,zR];omega
theorem JN:∀ (xs:List Pn) (n:Nat),(qU (xs.take n)).length≤(qU xs).length
 | [],n=>by simp
 | a::xs,0=>by simp[qU]
 | a::xs,n+1=>by have:=JN xs n;simp only[yA,qU,zS,zR];omega
end Go.Av
namespace Go.Proofs.YtmcjmafajkeecaaGreatDoor.P
open Go Go.Av
set_option maxRecDepth 4000
set_option maxHeartbeats 8000000
def PCO (p:Pn) (l:List UInt8) (i:Nat):AS :=
 { env:=[(0, .i (.iref [.int p.kind, .int p.table, .isl (Ex.aA p.exprs), .isl (aI p.cols), .isl (Pn.aA p.kids)])),(1, .osl 1 1 0 (mCP p l i).length),(4, .nils),(6,jk i (.int (NY p.cols i))),(7, .junk),(8, .junk),(23, .bool (p.kind == 1)),(35, .i (.isl (aI p.cols))),(36, .int p.cols.length),(37, .int i),(38,jk i (.bool true)),(51, .junk),(52, .junk),(53, .junk),(70, .junk),(71, .junk),(72, .junk)],
   st:=[none,some (.arr 1 (aP (mCP p l i)))] }
def PXO (p:Pn) (l:List UInt8) (i:Nat):AS :=
 { env:=[(0, .i (.iref [.int p.kind, .int p.table, .isl (Ex.aA p.exprs), .isl (aI p.cols), .isl (Pn.aA p.kids)])),(1, .osl 1 1 0 (mXP p l i).length),(4, .nils),(6,jk p.cols.length (.int (NY p.cols p.cols.length))),(7,jk i (.int (i-1))),(8, .junk),(23, .bool (p.kind == 1)),(35, .i (.isl (aI p.cols))),(36, .int p.cols.length),(37, .int p.cols.length),(38, .bool false),(51, .int p.exprs.length),(52, .int i),(53,jk i (.bool true)),(70, .junk),(71, .junk),(72, .junk)],
   st:=[none,some (.arr 1 (aP (mXP p l i)))] }
def PKO (p:Pn) (l:List UInt8) (i:Nat):AS :=
 { env:=[(0, .i (.iref [.int p.kind, .int p.table, .isl (Ex.aA p.exprs), .isl (aI p.cols), .isl (Pn.aA p.kids)])),(1, .osl 1 1 0 (mKP p l i).length),(4, .nils),(6,jk p.cols.length (.int (NY p.cols p.cols.length))),(7,jk p.exprs.length (.int (p.exprs.length-1))),(8,jk i (.int (i-1))),(23, .bool (p.kind == 1)),(35, .i (.isl (aI p.cols))),(36, .int p.cols.length),(37, .int p.cols.length),(38, .bool false),(51, .int p.exprs.length),(52, .int p.exprs.length),(53, .bool false),(70, .int p.kids.length),(71, .int i),(72,jk i (.bool true))],
   st:=[none,some (.arr 1 (aP (mKP p l i)))] }
theorem XW {p:Pn} (ht:p.tx) {l:List UInt8} (hl:l.length+(txP p).length<9000000)
 (ih:∀ a∈p.kids,∀ l:List UInt8,l.length+(txP a).length<9000000→aH C0 38 [.i (.iref a.cells), .osl 0 1 0 l.length] [some (.arr 1 (aP l))]=some (.osl 1 1 0 (l++txP a).length,[none,some (.arr 1 (aP (l++txP a)))])) :
 aH C0 38 [.i (.iref p.cells), .osl 0 1 0 l.length] [some (.arr 1 (aP l))]=some (.osl 1 1 0 (l++txP p).length,[none,some (.arr 1 (aP (l++txP p)))]):=by
 obtain⟨⟨k1,k2⟩,k3,k4,k5,k6⟩:=(Pn.gJ p).1 ht;have hfin:=YY p l
 have hlp:(mKP p l p.kids.length).length+1=l.length+(txP p).length:=by
  have:=congrArg List.length hfin;simp at this;omega
 have hl':l.length+(txP p).length<9000000:=by exact hl
 have lX:(mXP p l p.exprs.length).length≤(mKP p l p.kids.length).length:=by simp[mKP]
 have lC:(mCP p l p.cols.length).length≤(mXP p l p.exprs.length).length:=by simp[mXP]
 have l1:(m1P p l).length≤(mCP p l p.cols.length).length:=by simp[mCP]
 have l0:(l++40::nmP p.kind).length≤(m1P p l).length:=by simp[m1P]
 have hC:∀ i,(mCP p l i).length≤(mCP p l p.cols.length).length:=fun i=>by have:=SA p.cols i;simp[mCP];exact this
 have hX:∀ i,(mXP p l i).length≤(mXP p l p.exprs.length).length:=fun i=>by have:=vO p.exprs i;simp[mXP];exact this
 have hK:∀ i,(mKP p l i).length≤(mKP p l p.kids.length).length:=fun i=>by have:=JN p.kids i;simp[mKP];exact this
 have nC:p.cols.length≤(mCP p l p.cols.length).length:=by have:=JO p.cols;simp[mCP];omega
 have nX:p.exprs.length≤(mXP p l p.exprs.length).length:=by have:=qV p.exprs;simp[mXP];omega
 have nK:p.kids.length≤(mKP p l p.kids.length).length:=by have:=BN p.kids;simp[mKP];omega
 have hnm:=iV k1 k2;have htk:=dX l;have htk2:=dX (l++[40]);simp[aP,aO]at htk2;simp at l0;have hb1:l.length+1≤140737488355328:=by omega
 have hb2:l.length+1+(nmP p.kind).length≤140737488355328:=by omega
 rw[hfin];rw[aF rfl Tryz.func38 rfl rfl,Pn.aB];have hC0:mCP p l 0=m1P p l:=by simp[mCP,txC]
 have hX0:mXP p l 0=mCP p l p.cols.length:=by simp[mXP,gB]
 have hK0:mKP p l 0=mXP p l p.exprs.length:=by simp[mKP,qU]
 by_cases h1:p.kind=1
 ·obtain⟨k7,k8⟩:=k3 h1;obtain⟨t,htt⟩:=yP k7;have hm1:m1P p l=(l++40::nmP p.kind++[32])++dgI t:=by simp[m1P,h1,htt]
  have hlm:=l1;rw[hm1]at hlm;simp at hlm;have hai:=FM (n:=t) (by omega) (l++40::nmP p.kind++[32]) (by simp;omega);rw[← hm1]at hai;have htk3:(aP l++[.lit (.int .u8 40)]::aP (nmP p.kind)).take (l.length+1+(nmP p.kind).length)=aP l++[.lit (.int .u8 40)]::aP (nmP p.kind):=zY (by simp[aO];omega);have hle3:l.length+1+(nmP p.kind).length≤l.length+((nmP p.kind).length+1):=by omega
  have hlen3:(l++40::nmP p.kind++[32]).length=l.length+1+(nmP p.kind).length+1:=by simp;omega
  rw[hlen3]at hai;have hb3:l.length+1+(nmP p.kind).length+1≤140737488355328:=by omega
  rw[h1]at hnm hb2 hb3 htk3 hai hle3;simp[aP,aO]at hai;simp[h1,htt,hnm,hb1,hb2,hb3,hle3,htk,htk2,htk3,hai,aP,aO];rw[aW (PCO p l) p.cols.length (by simp[PCO,hC0,h1,htt])]
  ·rw[aD];simp only[PCO];generalize mCP p l p.cols.length=mc at *
   simp;rw[aW (PXO p l) p.exprs.length (by simp[PXO,hX0])]
   ·rw[aD];simp only[PXO];generalize mXP p l p.exprs.length=mx at *
    simp;rw[aW (PKO p l) p.kids.length (by simp[PKO,hK0])]
    ·rw[aD];have hb9:(mKP p l p.kids.length).length+1≤140737488355328:=by omega
     have htk9:=dX (mKP p l p.kids.length);simp only[PKO];generalize mKP p l p.kids.length=mk at *
     simp[hb9,htk9,aP,aO]
    ·intro i hi;have h4:=zT hi;have hm:=zU h4;have r2:=Pn.aS h4;have hsn:=aL h4;generalize p.kids[i]=a at h4 hm r2 hsn;have hnext:mKP p l (i+1)=mKP p l i++[32]++txP a:=by unfold mKP;rw[hsn,lN];simp
     have hl1:=hK i;have hl2:=hK (i+1);rw[hnext]at hl2;simp at hl2;have hk:=ih a hm (mKP p l i++[32]) (by simp;omega);rw[← hnext]at hk;have w2:IntKind.i64.wrap ((i:Int)+1)=i+1:=wrO;have hb3:(mKP p l i).length+1≤140737488355328:=by omega
     have htk3:=dX (mKP p l i);simp only[PKO];generalize mKP p l (i+1)=m2 at hk ⊢;generalize mKP p l i=m1 at hk hb3 htk3 ⊢;rw[Pn.aB a]at r2 hk;simp[aP,aO]at hk;simp[hi,r2,hk,w2,hb3,htk3,aP,aO]
   ·intro i hi;have h4:=zT hi;have hm:=zU h4;have r2:=Ex.aS h4;have hsn:=aL h4;generalize p.exprs[i]=a at h4 hm r2 hsn;have hnext:mXP p l (i+1)=mXP p l i++[32]++txE a:=by unfold mXP;rw[hsn,iO];simp
    have hl1:=hX i;have hl2:=hX (i+1);rw[hnext]at hl2;simp at hl2;have hk:=LD a (k5 a hm) (mXP p l i++[32]) (by simp;omega);rw[← hnext]at hk;have w2:IntKind.i64.wrap ((i:Int)+1)=i+1:=wrO;have hb3:(mXP p l i).length+1≤140737488355328:=by omega
    have htk3:=dX (mXP p l i);simp only[PXO];generalize mXP p l (i+1)=m2 at hk ⊢;generalize mXP p l i=m1 at hk hb3 htk3 ⊢;rw[Ex.aB a]at r2 hk;simp[aP,aO]at hk;simp[hi,r2,hk,w2,hb3,htk3,aP,aO]
  ·intro i hi;have h4:=zT hi;have hm:=zU h4;have r2:=dL h4;have hsn:=aL h4;have hla:=BQ h4;generalize p.cols[i]=a at h4 hm r2 hsn hla;obtain⟨a0,a1⟩:=k4 a hm;obtain⟨c,rfl⟩:=yP a0;have hnext:mCP p l (i+1)=mCP p l i++[32]++35::dgI c:=by unfold mCP;rw[hsn,o8];simp
   have hl1:=hC i;have hk:=qQ (n:=c) (by omega) (mCP p l i++[32]) (by simp;omega);rw[← hnext]at hk;have w2:IntKind.i64.wrap ((i:Int)+1)=i+1:=wrO;have hb3:(mCP p l i).length+1≤140737488355328:=by omega
   have htk3:=dX (mCP p l i);simp only[PCO];generalize mCP p l (i+1)=m2 at hk ⊢;generalize mCP p l i=m1 at hk hb3 htk3 ⊢;simp[aP,aO]at hk;simp[hi,r2,hk,w2,hb3,htk3,hla,aP,aO]
 ·have hm1:m1P p l=l++40::nmP p.kind:=by simp[m1P,h1]
  simp[h1,hnm,hb1,hb2,htk,htk2,aP,aO];rw[aW (PCO p l) p.cols.length (by simp[PCO,hC0,hm1,h1,aP,aO];omega)]
  ·rw[aD];simp only[PCO];generalize mCP p l p.cols.length=mc at *
   simp;rw[aW (PXO p l) p.exprs.length (by simp[PXO,hX0])]
   ·rw[aD];simp only[PXO];generalize mXP p l p.exprs.length=mx at *
    simp;rw[aW (PKO p l) p.kids.length (by simp[PKO,hK0])]
    ·rw[aD];have hb9:(mKP p l p.kids.length).length+1≤140737488355328:=by omega
     have htk9:=dX (mKP p l p.kids.length);simp only[PKO];generalize mKP p l p.kids.length=mk at *
     simp[hb9,htk9,aP,aO]
    ·intro i hi;have h4:=zT hi;have hm:=zU h4;have r2:=Pn.aS h4;have hsn:=aL h4;generalize p.kids[i]=a at h4 hm r2 hsn;have hnext:mKP p l (i+1)=mKP p l i++[32]++txP a:=by unfold mKP;rw[hsn,lN];simp
     have hl1:=hK i;have hl2:=hK (i+1);rw[hnext]at hl2;simp at hl2;have hk:=ih a hm (mKP p l i++[32]) (by simp;omega);rw[← hnext]at hk;have w2:IntKind.i64.wrap ((i:Int)+1)=i+1:=wrO;have hb3:(mKP p l i).length+1≤140737488355328:=by omega
     have htk3:=dX (mKP p l i);simp only[PKO];generalize mKP p l (i+1)=m2 at hk ⊢;generalize mKP p l i=m1 at hk hb3 htk3 ⊢;rw[Pn.aB a]at r2 hk;simp[aP,aO]at hk;simp[hi,r2,hk,w2,hb3,htk3,aP,aO]
   ·intro i hi;have h4:=zT hi;have hm:=zU h4;have r2:=Ex.aS h4;have hsn:=aL h4;generalize p.exprs[i]=a at h4 hm r2 hsn;have hnext:mXP p l (i+1)=mXP p l i++[32]++txE a:=by unfold mXP;rw[hsn,iO];simp
    have hl1:=hX i;have hl2:=hX (i+1);rw[hnext]at hl2;simp at hl2;have hk:=LD a (k5 a hm) (mXP p l i++[32]) (by simp;omega);rw[← hnext]at hk;have w2:IntKind.i64.wrap ((i:Int)+1)=i+1:=wrO;have hb3:(mXP p l i).length+1≤140737488355328:=by omega
    have htk3:=dX (mXP p l i);simp only[PXO];generalize mXP p l (i+1)=m2 at hk ⊢;generalize mXP p l i=m1 at hk hb3 htk3 ⊢;rw[Ex.aB a]at r2 hk;simp[aP,aO]at hk;simp[hi,r2,hk,w2,hb3,htk3,aP,aO]
  ·intro i hi;have h4:=zT hi;have hm:=zU h4;have r2:=dL h4;have hsn:=aL h4;have hla:=BQ h4;generalize p.cols[i]=a at h4 hm r2 hsn hla;obtain⟨a0,a1⟩:=k4 a hm;obtain⟨c,rfl⟩:=yP a0;have hnext:mCP p l (i+1)=mCP p l i++[32]++35::dgI c:=by unfold mCP;rw[hsn,o8];simp
   have hl1:=hC i;have hk:=qQ (n:=c) (by omega) (mCP p l i++[32]) (by simp;omega);rw[← hnext]at hk;have w2:IntKind.i64.wrap ((i:Int)+1)=i+1:=wrO;have hb3:(mCP p l i).length+1≤140737488355328:=by omega
   have htk3:=dX (mCP p l i);simp only[PCO];generalize mCP p l (i+1)=m2 at hk ⊢;generalize mCP p l i=m1 at hk hb3 htk3 ⊢;simp[aP,aO]at hk;simp[hi,r2,hk,w2,hb3,htk3,hla,aP,aO]
def bxQ (p:Pn):Option Blk:=some (.box [.int p.kind, .int p.table, .i (.isl (Ex.aA p.exprs)), .i (.isl (aI p.cols)), .i (.isl (Pn.aA p.kids))])
def PCB (p:Pn) (l:List UInt8) (i:Nat):AS :=
 { env:=[(0, .own 0 0),(1, .osl 1 1 0 (mCP p l i).length),(4, .nils),(6,jk i (.int (NY p.cols i))),(7, .junk),(8, .junk),(23, .bool (p.kind == 1)),(35, .i (.isl (aI p.cols))),(36, .int p.cols.length),(37, .int i),(38,jk i (.bool true)),(51, .junk),(52, .junk),(53, .junk),(70, .junk),(71, .junk),(72, .junk)],
   st:=[bxQ p,some (.arr 1 (aP (mCP p l i)))] }
def PXB (p:Pn) (l:List UInt8) (i:Nat):AS :=
 { env:=[(0, .own 0 0),(1, .osl 1 1 0 (mXP p l i).length),(4, .nils),(6,jk p.cols.length (.int (NY p.cols p.cols.length))),(7,jk i (.int (i-1))),(8, .junk),(23, .bool (p.kind == 1)),(35, .i (.isl (aI p.cols))),(36, .int p.cols.length),(37, .int p.cols.length),(38, .bool false),(51, .int p.exprs.length),(52, .int i),(53,jk i (.bool true)),(70, .junk),(71, .junk),(72, .junk)],
   st:=[bxQ p,some (.arr 1 (aP (mXP p l i)))] }
def PKB (p:Pn) (l:List UInt8) (i:Nat):AS :=
 { env:=[(0, .own 0 0),(1, .osl 1 1 0 (mKP p l i).length),(4, .nils),(6,jk p.cols.length (.int (NY p.cols p.cols.length))),(7,jk p.exprs.length (.int (p.exprs.length-1))),(8,jk i (.int (i-1))),(23, .bool (p.kind == 1)),(35, .i (.isl (aI p.cols))),(36, .int p.cols.length),(37, .int p.cols.length),(38, .bool false),(51, .int p.exprs.length),(52, .int p.exprs.length),(53, .bool false),(70, .int p.kids.length),(71, .int i),(72,jk i (.bool true))],
   st:=[bxQ p,some (.arr 1 (aP (mKP p l i)))] }
theorem XX {p:Pn} (ht:p.tx) (hl:(txP p).length<9000000)
 (ih:∀ a∈p.kids,∀ l:List UInt8,l.length+(txP a).length<9000000→aH C0 38 [.i (.iref a.cells), .osl 0 1 0 l.length] [some (.arr 1 (aP l))]=some (.osl 1 1 0 (l++txP a).length,[none,some (.arr 1 (aP (l++txP a)))])) :
 aH C0 38 [.own 0 0, .nils] [bxQ p]=some (.osl 1 1 0 (txP p).length,[bxQ p,some (.arr 1 (aP (txP p)))]):=by
 obtain⟨l,hl0⟩:∃ l:List UInt8,l=[]:=⟨[],rfl⟩
 obtain⟨⟨k1,k2⟩,k3,k4,k5,k6⟩:=(Pn.gJ p).1 ht;have hfin:=YY p l
 have hlp:(mKP p l p.kids.length).length+1=l.length+(txP p).length:=by
  have:=congrArg List.length hfin;simp at this;omega
 have hl':l.length+(txP p).length<9000000:=by rw[hl0];simpa using hl
 have lX:(mXP p l p.exprs.length).length≤(mKP p l p.kids.length).length:=by simp[mKP]
 have lC:(mCP p l p.cols.length).length≤(mXP p l p.exprs.length).length:=by simp[mXP]
 have l1:(m1P p l).length≤(mCP p l p.cols.length).length:=by simp[mCP]
 have l0:(l++40::nmP p.kind).length≤(m1P p l).length:=by simp[m1P]
 have hC:∀ i,(mCP p l i).length≤(mCP p l p.cols.length).length:=fun i=>by have:=SA p.cols i;simp[mCP];exact this
 have hX:∀ i,(mXP p l i).length≤(mXP p l p.exprs.length).length:=fun i=>by have:=vO p.exprs i;simp[mXP];exact this
 have hK:∀ i,(mKP p l i).length≤(mKP p l p.kids.length).length:=fun i=>by have:=JN p.kids i;simp[mKP];exact this
 have nC:p.cols.length≤(mCP p l p.cols.length).length:=by have:=JO p.cols;simp[mCP];omega
 have nX:p.exprs.length≤(mXP p l p.exprs.length).length:=by have:=qV p.exprs;simp[mXP];omega
 have nK:p.kids.length≤(mKP p l p.kids.length).length:=by have:=BN p.kids;simp[mKP];omega
 have hnm:=iV k1 k2;have htk:=dX l;have htk2:=dX (l++[40]);simp[aP,aO]at htk2;simp at l0;have hb1:l.length+1≤140737488355328:=by omega
 have hb2:l.length+1+(nmP p.kind).length≤140737488355328:=by omega
 have hfin0:txP p=mKP p l p.kids.length++[41]:=by rw[← hfin,hl0];rfl
 rw[hfin0];rw[aF rfl Tryz.func38 rfl rfl];have hC0:mCP p l 0=m1P p l:=by simp[mCP,txC]
 have hX0:mXP p l 0=mCP p l p.cols.length:=by simp[mXP,gB]
 have hK0:mKP p l 0=mXP p l p.exprs.length:=by simp[mKP,qU]
 rw[hl0]at htk2
 try simp at htk2
 rw[hl0]at hb2
 try simp at hb2
 rw[hl0]at hC0;by_cases h1:p.kind=1
 ·obtain⟨k7,k8⟩:=k3 h1;obtain⟨t,htt⟩:=yP k7;have hm1:m1P p l=(l++40::nmP p.kind++[32])++dgI t:=by simp[m1P,h1,htt]
  have hlm:=l1;rw[hm1]at hlm;simp at hlm;have hai:=FM (n:=t) (by omega) (l++40::nmP p.kind++[32]) (by simp;omega);rw[← hm1]at hai;have htk3:(aP l++[.lit (.int .u8 40)]::aP (nmP p.kind)).take (l.length+1+(nmP p.kind).length)=aP l++[.lit (.int .u8 40)]::aP (nmP p.kind):=zY (by simp[aO];omega);have hle3:l.length+1+(nmP p.kind).length≤l.length+((nmP p.kind).length+1):=by omega
  have hlen3:(l++40::nmP p.kind++[32]).length=l.length+1+(nmP p.kind).length+1:=by simp;omega
  rw[hlen3]at hai;have hb3:l.length+1+(nmP p.kind).length+1≤140737488355328:=by omega
  rw[h1]at hnm hb2 hb3 htk3 hai hle3;rw[hl0]at htk3 hai hb3 hle3
  try simp[aP]at hb3 htk3 hle3
  simp[aP,aO]at hai;simp[bxQ,h1,htt,hnm,hb1,hb2,hb3,hle3,htk,htk2,htk3,hai,aP,aO];rw[aW (PCB p l) p.cols.length (by simp[bxQ,PCB,hC0,h1,htt,hl0])]
  ·rw[aD];simp only[PCB,bxQ];generalize mCP p l p.cols.length=mc at *
   simp;rw[aW (PXB p l) p.exprs.length (by simp[PXB,bxQ,hX0])]
   ·rw[aD];simp only[PXB,bxQ];generalize mXP p l p.exprs.length=mx at *
    simp;rw[aW (PKB p l) p.kids.length (by simp[PKB,bxQ,hK0])]
    ·rw[aD];have hb9:(mKP p l p.kids.length).length+1≤140737488355328:=by omega
     have htk9:=dX (mKP p l p.kids.length);simp only[PKB,bxQ];generalize mKP p l p.kids.length=mk at *
     simp[hb9,htk9,aP,aO];exact⟨h1,htt⟩
    ·intro i hi;have h4:=zT hi;have hm:=zU h4;have r2:=Pn.aS h4;have hsn:=aL h4;generalize p.kids[i]=a at h4 hm r2 hsn;have hnext:mKP p l (i+1)=mKP p l i++[32]++txP a:=by unfold mKP;rw[hsn,lN];simp
     have hl1:=hK i;have hl2:=hK (i+1);rw[hnext]at hl2;simp at hl2;have hk:=ih a hm (mKP p l i++[32]) (by simp;omega);rw[← hnext]at hk;have w2:IntKind.i64.wrap ((i:Int)+1)=i+1:=wrO;have hb3:(mKP p l i).length+1≤140737488355328:=by omega
     have htk3:=dX (mKP p l i);simp only[PKB,bxQ];generalize mKP p l (i+1)=m2 at hk ⊢;generalize mKP p l i=m1 at hk hb3 htk3 ⊢;rw[Pn.aB a]at r2 hk;simp[aP,aO]at hk;simp[hi,r2,hk,w2,hb3,htk3,aP,aO]
   ·intro i hi;have h4:=zT hi;have hm:=zU h4;have r2:=Ex.aS h4;have hsn:=aL h4;generalize p.exprs[i]=a at h4 hm r2 hsn;have hnext:mXP p l (i+1)=mXP p l i++[32]++txE a:=by unfold mXP;rw[hsn,iO];simp
    have hl1:=hX i;have hl2:=hX (i+1);rw[hnext]at hl2;simp at hl2;have hk:=LD a (k5 a hm) (mXP p l i++[32]) (by simp;omega);rw[← hnext]at hk;have w2:IntKind.i64.wrap ((i:Int)+1)=i+1:=wrO;have hb3:(mXP p l i).length+1≤140737488355328:=by omega
    have htk3:=dX (mXP p l i);simp only[PXB,bxQ];generalize mXP p l (i+1)=m2 at hk ⊢;generalize mXP p l i=m1 at hk hb3 htk3 ⊢;rw[Ex.aB a]at r2 hk;simp[aP,aO]at hk;simp[hi,r2,hk,w2,hb3,htk3,aP,aO]
  ·intro i hi;have h4:=zT hi;have hm:=zU h4;have r2:=dL h4;have hsn:=aL h4;have hla:=BQ h4;generalize p.cols[i]=a at h4 hm r2 hsn hla;obtain⟨a0,a1⟩:=k4 a hm;obtain⟨c,rfl⟩:=yP a0;have hnext:mCP p l (i+1)=mCP p l i++[32]++35::dgI c:=by unfold mCP;rw[hsn,o8];simp
   have hl1:=hC i;have hk:=qQ (n:=c) (by omega) (mCP p l i++[32]) (by simp;omega);rw[← hnext]at hk;have w2:IntKind.i64.wrap ((i:Int)+1)=i+1:=wrO;have hb3:(mCP p l i).length+1≤140737488355328:=by omega
   have htk3:=dX (mCP p l i);simp only[PCB,bxQ];generalize mCP p l (i+1)=m2 at hk ⊢;generalize mCP p l i=m1 at hk hb3 htk3 ⊢;simp[aP,aO]at hk;simp[hi,r2,hk,w2,hb3,htk3,hla,aP,aO]
 ·have hm1:m1P p l=l++40::nmP p.kind:=by simp[m1P,h1]
  rw[hl0]at hm1;simp[bxQ,h1,hnm,hb1,hb2,htk,htk2,aP,aO];rw[aW (PCB p l) p.cols.length (by simp[bxQ,PCB,hC0,hm1,h1,aP,aO,hl0];try omega)]
  ·rw[aD];simp only[PCB,bxQ];generalize mCP p l p.cols.length=mc at *
   simp;rw[aW (PXB p l) p.exprs.length (by simp[PXB,bxQ,hX0])]
   ·rw[aD];simp only[PXB,bxQ];generalize mXP p l p.exprs.length=mx at *
    simp;rw[aW (PKB p l) p.kids.length (by simp[PKB,bxQ,hK0])]
    ·rw[aD];have hb9:(mKP p l p.kids.length).length+1≤140737488355328:=by omega
     have htk9:=dX (mKP p l p.kids.length);simp only[PKB,bxQ];generalize mKP p l p.kids.length=mk at *
     simp[hb9,htk9,aP,aO]
    ·intro i hi;have h4:=zT hi;have hm:=zU h4;have r2:=Pn.aS h4;have hsn:=aL h4;generalize p.kids[i]=a at h4 hm r2 hsn;have hnext:mKP p l (i+1)=mKP p l i++[32]++txP a:=by unfold mKP;rw[hsn,lN];simp
     have hl1:=hK i;have hl2:=hK (i+1);rw[hnext]at hl2;simp at hl2;have hk:=ih a hm (mKP p l i++[32]) (by simp;omega);rw[← hnext]at hk;have w2:IntKind.i64.wrap ((i:Int)+1)=i+1:=wrO;have hb3:(mKP p l i).length+1≤140737488355328:=by omega
     have htk3:=dX (mKP p l i);simp only[PKB,bxQ];generalize mKP p l (i+1)=m2 at hk ⊢;generalize mKP p l i=m1 at hk hb3 htk3 ⊢;rw[Pn.aB a]at r2 hk;simp[aP,aO]at hk;simp[hi,r2,hk,w2,hb3,htk3,aP,aO]
   ·intro i hi;have h4:=zT hi;have hm:=zU h4;have r2:=Ex.aS h4;have hsn:=aL h4;generalize p.exprs[i]=a at h4 hm r2 hsn;have hnext:mXP p l (i+1)=mXP p l i++[32]++txE a:=by unfold mXP;rw[hsn,iO];simp
    have hl1:=hX i;have hl2:=hX (i+1);rw[hnext]at hl2;simp at hl2;have hk:=LD a (k5 a hm) (mXP p l i++[32]) (by simp;omega);rw[← hnext]at hk;have w2:IntKind.i64.wrap ((i:Int)+1)=i+1:=wrO;have hb3:(mXP p l i).length+1≤140737488355328:=by omega
    have htk3:=dX (mXP p l i);simp only[PXB,bxQ];generalize mXP p l (i+1)=m2 at hk ⊢;generalize mXP p l i=m1 at hk hb3 htk3 ⊢;rw[Ex.aB a]at r2 hk;simp[aP,aO]at hk;simp[hi,r2,hk,w2,hb3,htk3,aP,aO]
  ·intro i hi;have h4:=zT hi;have hm:=zU h4;have r2:=dL h4;have hsn:=aL h4;have hla:=BQ h4;generalize p.cols[i]=a at h4 hm r2 hsn hla;obtain⟨a0,a1⟩:=k4 a hm;obtain⟨c,rfl⟩:=yP a0;have hnext:mCP p l (i+1)=mCP p l i++[32]++35::dgI c:=by unfold mCP;rw[hsn,o8];simp
   have hl1:=hC i;have hk:=qQ (n:=c) (by omega) (mCP p l i++[32]) (by simp;omega);rw[← hnext]at hk;have w2:IntKind.i64.wrap ((i:Int)+1)=i+1:=wrO;have hb3:(mCP p l i).length+1≤140737488355328:=by omega
   have htk3:=dX (mCP p l i);simp only[PCB,bxQ];generalize mCP p l (i+1)=m2 at hk ⊢;generalize mCP p l i=m1 at hk hb3 htk3 ⊢;simp[aP,aO]at hk;simp[hi,r2,hk,w2,hb3,htk3,hla,aP,aO]
theorem AKA:∀ p:Pn,p.tx→∀ l:List UInt8,l.length+(txP p).length<9000000→aH C0 38 [.i (.iref p.cells), .osl 0 1 0 l.length] [some (.arr 1 (aP l))]=some (.osl 1 1 0 (l++txP p).length,[none,some (.arr 1 (aP (l++txP p)))]):=by
 intro p
 induction p using Pn.ind with
 | h k t es cs ks ih =>
  intro ht l hl;exact XW ht hl fun a ha=>ih a ha (((Pn.gJ _).1 ht).2.2.2.2 a ha)
theorem vF {p:Pn} {ws:List Int} (hp:p.tx) (hl:(txP p).length<9000000) (h0:p.width ws≠0):aH C0 13 [.i (.agg p.cells), .i (.isl (aI ws))] []=some (.i (.lit (.string ⟨(txP p).toArray⟩)),[]):=by
 have c1:=mV p ws;have c2:=XX hp hl fun a ha=>AKA a (((Pn.gJ _).1 hp).2.2.2.2 a ha)
 have hs:=AHF (txP p);have hb:=OV (txP p);have htk:=dX (txP p);have hlen:=aO (txP p);generalize txP p=m at *
 rw[aF rfl Tryz.func13 rfl rfl];rw[Pn.aB p]at *
 simp only[bxQ]at c2;simp[c1,h0,c2,hs,hb,htk,hlen]
end Go.Proofs.YtmcjmafajkeecaaGreatDoor.P

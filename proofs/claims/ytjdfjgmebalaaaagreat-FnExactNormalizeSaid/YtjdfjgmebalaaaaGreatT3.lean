/- Part 3 of what the proof rests on: the executor and what it is worth, and the program's functions as it runs them. No condition. -/
import Derived.Test.YtjdfjgmebalaaaaGreatT2
import Derived.Test.YtjdfjgmebalaaaaGreatProg
import Derived.KernelRfl
set_option linter.unusedVariables false
set_option linter.unusedSimpArgs false
namespace Go.Av
def rules:List Int:=[1,2,3,4,5,6,7,8,9,10,11]
abbrev Stp:=Int×List Int
mutual
def stI (ws:List Int):List Int→Pn→List Stp
 | path, .mk k t es cs ks=>((rules.filter fun r=>(rwL ws r (8-path.length) (.mk k t es cs ks)).isSome).map fun r=>(r,path))++I8 ws path 0 ks
def I8 (ws:List Int):List Int→Nat→List Pn→List Stp
 | _,_,[]=>[]
 | path,i,p::ps=>stI ws (path++[(i:Int)]) p++I8 ws path (i+1) ps
end
mutual
def p9:List Int→Pn→List (List Int)
 | path, .mk _ _ _ _ ks=>path::eF path 0 ks
def eF:List Int→Nat→List Pn→List (List Int)
 | _,_,[]=>[]
 | path,i,p::ps=>p9 (path++[(i:Int)]) p++eF path (i+1) ps
end
def atS (ws:List Int) (p:Pn) (path:List Int):List Stp:=(rules.filter fun r=>(apS ws r path p).isSome).map fun r=>(r,path)
def stS (ws:List Int) (p:Pn):List Stp:=(p9 [] p).flatMap (atS ws p)
theorem AOB (ws:List Int) (path:List Int) (p:Pn):stI ws path p=((rules.filter fun r=>(rwL ws r (8-path.length) p).isSome).map fun r=>(r,path))++I8 ws path 0 p.kids:=by
 obtain⟨k,t,es,cs,ks⟩:=p;simp[stI]
theorem KA (path:List Int) (p:Pn):p9 path p=path::eF path 0 p.kids:=by
 obtain⟨k,t,es,cs,ks⟩:=p;simp[p9]
theorem uU:∀ (path:List Int) (p a:Pn) (r:List Int),Pn.at path p=some a→Pn.at (path++r) p=Pn.at r a
 | [],p,a,r,e=>by simp[Pn.at]at e;subst e;rfl
 | i::s,p,a,r,e=>by
  obtain⟨n,rfl,b,hb,hr⟩:=Pn.pV e;have:=uU s b a r hr;simp[Pn.at,hb,this]
theorem APY {ws:List Int} (hw:∀ w∈ws,0≤w∧w≤6) {p:Pn} (hp:p.wd ws 8≠0):∀ (a:Pn) (path:List Int),Pn.at path p=some a→stI ws path a=(p9 path a).flatMap (atS ws p):=by
 intro a
 induction a using Pn.ind with
 | h k t es cs ks ih =>
  intro path ha;have hl:=(FL path p 8 _ hp ha).1;rw[AOB,KA,List.flatMap_cons];congr 1
  ·unfold atS;congr 1;apply List.filter_congr;intro r _;rw[← AJ7 hw hp];simp[apI,hl,ha]
  ·simp only[Pn.fQ]
   have:∀ (l:List Pn) (i:Nat),(∀ j b,l[j]?=some b→b∈ks∧ks[i+j]?=some b)→I8 ws path i l=(eF path i l).flatMap (atS ws p):=by
    intro l
    induction l with
    | nil=>intro i _;simp[I8,eF]
    | cons b l ihl =>
     intro i h;simp only[I8,eF,List.flatMap_append];have h0:=h 0 b (by simp);rw[ih b h0.1 (path++[(i:Int)]) (by rw[uU path p _ _ ha];simp[Pn.at];simpa using h0.2),ihl (i+1) fun j c hj=>by have:=h (j+1) c (by simpa using hj);rw[show i+1+j=i+(j+1)by omega];exact this]
   exact this ks 0 fun j b hj=>⟨List.mem_of_getElem? hj,by simpa using hj⟩
theorem EJ {ws:List Int} (hw:∀ w∈ws,0≤w∧w≤6) {p:Pn} (hp:p.wd ws 8≠0):stI ws [] p=stS ws p:=APY hw hp p [] rfl
theorem NV:∀ (a:Pn) (path q:List Int),q∈p9 path a↔∃ r,q=path++r∧(Pn.at r a).isSome=true:=by
 intro a
 induction a using Pn.ind with
 | h k t es cs ks ih =>
  intro path q;rw[KA];simp only[Pn.fQ,zS]
  have:∀ (l:List Pn) (i:Nat),(∀ b∈l,b∈ks)→(q∈eF path i l↔∃ j b r,l[j]?=some b∧q=path++((i+j:Nat):Int)::r∧(Pn.at r b).isSome=true):=by
   intro l
   induction l with
   | nil=>intro i _;simp[eF]
   | cons b l ihl =>
    intro i h;simp only[eF,zV];rw[ih b (h b (by simp)),ihl (i+1) fun c hc=>h c (by simp[hc])];constructor
    ·rintro(⟨r,rfl,hr⟩|⟨j,c,r,hj,rfl,hr⟩)
     ·exact⟨0,b,r,by simp,by simp,hr⟩
     ·exact⟨j+1,c,r,by simpa using hj,by rw[show i+1+j=i+(j+1)by omega],hr⟩
    ·rintro⟨j,c,r,hj,rfl,hr⟩
     cases j with
     | zero=>simp at hj;subst hj;exact .inl ⟨r,by simp,hr⟩
     | succ j=>exact .inr ⟨j,c,r,by simpa using hj,by rw[show i+1+j=i+(j+1)by omega],hr⟩
  rw[this ks 0 fun b hb=>hb];constructor
  ·rintro(rfl|⟨j,b,r,hj,rfl,hr⟩)
   ·exact⟨[],by simp,by simp[Pn.at]⟩
   ·exact⟨((0+j:Nat):Int)::r,rfl,by simp[Pn.at,hj,hr]⟩
  ·rintro⟨r,rfl,hr⟩
   cases r with
   | nil=>left;simp
   | cons i r =>
    right;obtain⟨x,hx⟩:=zB2.1 hr;obtain⟨n,rfl,b,hb,hb2⟩:=Pn.pV hx;exact⟨n,b,r,by simpa using hb,by simp,by rw[hb2];rfl⟩
theorem AL5 {ws:List Int} {rule:Int} {e:Ex} {k q:Pn} (h:rwF ws rule e k=some q):rule∈rules:=by
 unfold rwF at h;unfold rules;split at h
 ·rename_i hc;simp[hc.1]
 split at h
 ·rename_i hc;simp[hc.1]
 split at h
 ·rename_i hc;simp[hc.1]
 split at h
 ·rename_i hc;simp[hc.1]
 split at h
 ·rename_i hc;simp[hc.1]
 split at h
 ·rename_i hc;simp[hc.1]
 split at h
 ·rename_i hc;simp[hc.1]
 split at h
 ·rename_i hc;simp[hc.1]
 ·cases h
theorem ZC {ws:List Int} {rule:Int} {p q:Pn} (h:rwP ws rule p=some q):rule∈rules:=by
 unfold rwP at h;split at h
 ·exact AL5 h
 unfold rules;split at h
 ·rename_i hc;simp[hc.1]
 split at h
 ·rename_i hc;simp[hc.1]
 split at h
 ·rename_i hc;simp[hc.1]
 ·cases h
theorem APA {ws:List Int} {rule:Int} {path:List Int} {p q:Pn} (h:apS ws rule path p=some q):rule∈rules∧(Pn.at path p).isSome=true:=by
 unfold apS at h
 cases ha:Pn.at path p with
 | none=>simp[ha]at h
 | some a =>
  simp only[ha,yP]at h
  cases hr:rwP ws rule a with
  | none=>simp[hr]at h
  | some x=>exact⟨ZC hr,rfl⟩
theorem AFJ {ws:List Int} {p:Pn} {s:Stp}:s∈stS ws p↔(apS ws s.1 s.2 p).isSome=true:=by
 unfold stS atS;obtain⟨r,path⟩:=s;simp only[List.mem_flatMap,yK,List.mem_filter,Prod.mk.injEq];constructor
 ·rintro⟨q,hq,r',⟨h1,h2⟩,rfl,rfl⟩;exact h2
 ·intro h;obtain⟨x,hx⟩:=zB2.1 h;obtain⟨h1,h2⟩:=APA hx;exact⟨path,(NV p [] path).2 ⟨path,by simp,h2⟩,r,⟨h1,h⟩,rfl,rfl⟩
mutual
def Ex.bits:Ex→Nat
 | .mk k c _ ks=>if k=1 then 2 ^ c.toNat else Ex.sQ ks
def Ex.sQ:List Ex→Nat
 | []=>0
 | e::es=>Ex.bits e ||| Ex.sQ es
end
theorem Ex.QU {e:Ex} (h:e.kind=1):e.bits=2 ^ e.col.toNat:=by
 cases e;simp[Ex.kind]at h;simp[Ex.bits,h,Ex.col]
theorem Ex.QS {e:Ex} (h:e.kind≠1):e.bits=Ex.sQ e.kids:=by
 cases e;simp[Ex.kind]at h;simp[Ex.bits,h,Ex.kids]
theorem Ex.FJ:∀ (l:List Ex) (e:Ex),Ex.sQ (l++[e])=Ex.sQ l ||| e.bits
 | [],e=>by simp[Ex.sQ]
 | a::l,e=>by simp[Ex.sQ,Ex.FJ l e,Nat.or_assoc]
theorem Ex.QV {n:Nat}:∀ {l:List Ex},(∀ e∈l,e.bits<2 ^ n)→Ex.sQ l<2 ^ n
 | [],_=>by simp[Ex.sQ];exact Nat.two_pow_pos n
 | a::l,h=>by
  simp only[Ex.sQ];exact zA4 (h a (by simp)) (Ex.QV fun e he=>h e (by simp[he]))
theorem Ex.QT:∀ e:Ex,e.wF (fun c=>decide (0≤c∧c<6))=true→e.bits<2 ^ 6:=by
 intro e
 induction e using Ex.ind with
 | h k c v ks ih =>
  intro ha;rw[Ex.mV]at ha;by_cases h1:k=1
  ·subst h1;simp only[Ex.kind,Ex.col,if_true]at ha;have ha:=zR ha;rw[Ex.QU (by rfl)];exact Nat.pow_lt_pow_right (by omega) (by simp only[Ex.col];omega)
  ·simp only[Ex.kind,Ex.kids,h1,if_false,zO]at ha;rw[Ex.QS (by simpa [Ex.kind]using h1)];exact Ex.QV fun e he=>ih e he (ha e he)
theorem Ex.VK (i:Nat):∀ l:List Ex,(Ex.sQ l).testBit i=l.any fun e=>e.bits.testBit i
 | []=>by simp[Ex.sQ]
 | a::l=>by simp[Ex.sQ,Ex.VK i l]
theorem Ex.J3 (i:Nat):∀ e:Ex,e.wF (fun c=>decide (0≤c))=true→(e.bits.testBit i=true↔e.wF (fun c=>!decide (c=i))=false):=by
 intro e
 induction e using Ex.ind with
 | h k c v ks ih =>
  intro ha;rw[Ex.mV]at ha ⊢;by_cases h1:k=1
  ·subst h1;simp only[Ex.kind,Ex.col,if_true]at ha ⊢;have ha:=zR ha;rw[Ex.QU (by rfl),Nat.testBit_two_pow];simp only[Ex.col];rw[Bool.not_eq_false'];exact⟨fun h=>decide_eq_true (by have:=zR h;omega),fun h=>decide_eq_true (by have:=zR h;omega)⟩
  ·simp only[Ex.kind,Ex.kids,h1,if_false,zO]at ha ⊢;rw[Ex.QS (by simpa [Ex.kind]using h1),Ex.VK];simp only[Ex.kids,List.any_eq_true];rw[List.all_eq_false];constructor
   ·rintro⟨e,he,hb⟩;exact⟨e,he,by rw[(ih e he (ha e he)).1 hb];simp⟩
   ·rintro⟨e,he,hb⟩;exact⟨e,he,(ih e he (ha e he)).2 (by simpa using hb)⟩
theorem Ex.MI {f:Int→Bool}:∀ e:Ex,e.wF (fun c=>decide (0≤c))=true→(e.wF f=true↔∀ i:Nat,e.wF (fun c=>!decide (c=i))=false→f i=true):=by
 intro e
 induction e using Ex.ind with
 | h k c v ks ih =>
  intro ha;rw[Ex.mV]at ha ⊢;by_cases h1:k=1
  ·subst h1;simp only[Ex.kind,Ex.col,if_true]at ha ⊢;have ha:=zR ha;obtain⟨n,rfl⟩:=yO ha;constructor
   ·intro h i hi;rw[Ex.mV]at hi;simp only[Ex.kind,Ex.col,if_true]at hi;rw[Bool.not_eq_false']at hi;have hi:=zR hi;rw[← hi];exact h
   ·intro h;apply h n;rw[Ex.mV];simp[Ex.kind,Ex.col]
  ·simp only[Ex.kind,Ex.kids,h1,if_false,zO]at ha ⊢
   have hall:∀ i:Nat,Ex.wF (fun c=>!decide (c=i)) (.mk k c v ks)=ks.all (Ex.wF fun c=>!decide (c=i)):=fun i=>by
    rw[Ex.mV];simp[Ex.kind,Ex.kids,h1]
   constructor
   ·intro h i hi;rw[hall,List.all_eq_false]at hi;obtain⟨e,he,hb⟩:=hi;exact(ih e he (ha e he)).1 (h e he) i (by simpa using hb)
   ·intro h e he;refine(ih e he (ha e he)).2 fun i hi=>h i ?_
    rw[hall,List.all_eq_false];exact⟨e,he,by simp[hi]⟩
theorem ASQ {e:Ex} (h:e.wF (fun c=>decide (0≤c))=true) (w:Nat):e.bits / 2 ^ w=0↔e.wF (fun c=>decide (c<w))=true:=by
 rw[Ex.MI e h];constructor
 ·intro h0 i hi;have hb:=(Ex.J3 i e h).2 hi;simp only[zM];apply Classical.byContradiction;intro hn
  have:(e.bits / 2 ^ w).testBit (i-w)=true:=by
   rw[Nat.testBit_div_two_pow,show i-w+w=i by omega];exact hb
  rw[h0]at this;simp at this
 ·intro hall;apply Nat.eq_of_testBit_eq;intro i;rw[Nat.testBit_div_two_pow,Nat.zero_testBit]
  cases hb:e.bits.testBit (i+w)with
  | false=>rfl
  | true =>
   have:=hall (i+w) ((Ex.J3 (i+w) e h).1 hb);simp only[zM]at this;omega
theorem ASP {e:Ex} (h:e.wF (fun c=>decide (0≤c))=true) (w:Nat):e.bits &&& (2 ^ w-1)=0↔e.wF (fun c=>decide ((w:Int)≤c))=true:=by
 rw[Ex.MI e h];constructor
 ·intro h0 i hi;have hb:=(Ex.J3 i e h).2 hi;simp only[zM];apply Classical.byContradiction;intro hn
  have:(e.bits &&& (2 ^ w-1)).testBit i=true:=by
   rw[Nat.testBit_and,hb,Nat.testBit_two_pow_sub_one];simp;omega
  rw[h0]at this;simp at this
 ·intro hall;apply Nat.eq_of_testBit_eq;intro i;rw[Nat.testBit_and,Nat.zero_testBit,Nat.testBit_two_pow_sub_one]
  cases hb:e.bits.testBit i with
  | false=>rfl
  | true =>
   have:=hall i ((Ex.J3 i e h).1 hb);simp only[zM]at this;simp;omega
def Pn.small (p:Pn):Prop:=p.size<1000000000∧p.thin∧p.tiny
noncomputable def YB:List AV→StL→Option (AV×StL)
 | [.i (.iref cs)],[]=>@ite _ (∃ p:Pn,p.small∧p.cells=cs) (Classical.propDecidable _) (some (.i (.agg cs),[])) none
 | _,_=>none
theorem AMT {p:Pn} (h:p.small):YB [.i (.iref p.cells)] []=some (.i (.agg p.cells),[]):=by
 unfold YB;exact if_pos ⟨p,h,rfl⟩
theorem ADH {args:List AV} {st:StL} {r:AV×StL} (h:YB args st=some r):∃ p:Pn,p.small∧args=[.i (.iref p.cells)]∧st=[]∧r=(.i (.agg p.cells),[]):=by
 unfold YB at h;split at h
 ·rename_i cs;by_cases hc:∃ p:Pn,p.small∧p.cells=cs
  ·rw[if_pos hc]at h;obtain⟨p,h1,rfl⟩:=hc;injection h with h;exact⟨p,h1,rfl,rfl,h.symm⟩
  ·rw[if_neg hc]at h;cases h
 ·cases h
inductive KCells (w:World):List IV→List Value→List Nat→Prop
 | nil:KCells w [] [] []
 | lit {v:Value} {cs:List IV} {vs:List Value} {F:List Nat}:v.oneCell'=true→KCells w cs vs F→KCells w (.lit v::cs) (v::vs) F
 | isl0 {ao:Option Addr} {cap:Nat} {cs:List IV} {vs:List Value} {F:List Nat}:(ao=none→cap=0)→KCells w cs vs F→KCells w (.isl []::cs) (.slice ao 0 cap::vs) F
 | isl {b k cap:Nat} {es:List (List IV)} {us:List Value} {G:List Nat} {cs:List IV} {vs:List Value} {F:List Nat}:es≠[]→(∀ j,w.cell? ⟨b,j,none⟩=us[j]?)→0<k→(∀ e∈es,e.length=k)→k*cap≤us.length→es.length≤cap →
  KCells w es.flatten (us.take (k*es.length)) G→KCells w cs vs F→KCells w (.isl es::cs) (.slice (some ⟨b,0,none⟩) es.length cap::vs) (b::G++F)
theorem KCells.frame {w w':World}:∀ {cs:List IV} {vs:List Value} {F:List Nat},KCells w cs vs F→(∀ f∈F,∀ j,w'.cell? ⟨f,j,none⟩=w.cell? ⟨f,j,none⟩)→KCells w' cs vs F
 | _,_,_, .nil,_=>.nil
 | _,_,_, .lit o r,h=>.lit o (r.frame h)
 | _,_,_, .isl0 c r,h=>.isl0 c (r.frame h)
 | _,_,_, .isl hn hr hk hl hf hc g r,h=>.isl hn (fun j=>(h _ (by simp) j).trans (hr j)) hk hl hf hc (g.frame fun f hf=>h f (by simp[hf])) (r.frame fun f hf=>h f (by simp[hf]))
theorem TCells.toK {w:World}:∀ {cs:List IV} {vs:List Value} {F:List Nat},TCells w cs vs F→KCells w cs vs F
 | _,_,_, .nil=>.nil
 | _,_,_, .lit o r=>.lit o r.toK
 | _,_,_, .isl0 c r=>.isl0 c r.toK
 | _,_,_, .isl hn ⟨_,hr,_⟩ hk hl hf hc g r=>.isl hn (fun j=>aY hr j) hk hl hf hc g.toK r.toK
theorem KCells.toT {w:World}:∀ {cs:List IV} {vs:List Value} {F:List Nat},KCells w cs vs F→(∀ f∈F,∃ (us:List Value) (T:TypeId),w.heap[f]?=some (.cells us.toArray T (0,0))∧∀ v∈us,v.oneCell'=true)→TCells w cs vs F
 | _,_,_, .nil,_=>.nil
 | _,_,_, .lit o r,h=>.lit o (r.toT h)
 | _,_,_, .isl0 c r,h=>.isl0 c (r.toT h)
 | _,_,_, .isl (b:=b) (us:=us) hn hr hk hl hf hc g r,h=>by
  obtain⟨us',T,h1,h2⟩:=h b (by simp)
  have:us'=us:=by
   apply List.ext_getElem?;intro j;rw[← aY h1 j,hr j]
  exact .isl hn ⟨T,this ▸ h1,this ▸ h2⟩ hk hl hf hc (g.toT fun f hf=>h f (by simp[hf])) (r.toT fun f hf=>h f (by simp[hf]))
theorem KCells.toI {w:World} {m':Mem}:∀ {cs:List IV} {vs:List Value} {F:List Nat},KCells w cs vs F→(∀ f∈F,∀ j,m' f j=w.cell? ⟨f,j,none⟩)→ICells m' cs vs
 | _,_,_, .nil,_=>.nil
 | _,_,_, .lit o r,h=>.cons (.lit _) o (r.toI h)
 | _,_,_, .isl0 c r,h=>.cons (.isl0 _ _ c) rfl (r.toI h)
 | _,_,_, .isl (b:=b) (k:=k) (es:=es) (us:=us) hn hr hk hl hf hc g r,h=>by
  refine .cons (.isl hn (fK 0 hl (g.toI fun f hf=>h f (by simp[hf])) fun j v hj=>?_) hc) rfl (r.toI fun f hf=>h f (by simp[hf]));rw[zF,h b (by simp),hr];rw[zD]at hj;split at hj
  ·exact hj
  ·cases hj
theorem KCells.one {w:World} {c:IV} {v:Value} {F:List Nat} (h:KCells w [c] [v] F):v.oneCell'=true:=by
 cases h with
 | lit o _=>exact o
 | isl0 _ _=>rfl
 | isl=>rfl
theorem KCells.rep {w:World} {m':Mem} {c:IV} {v:Value} {F:List Nat} (h:KCells w [c] [v] F) (hF:∀ f∈F,∀ j,m' f j=w.cell? ⟨f,j,none⟩):IRep m' c v:=by
 cases h.toI hF with
 | cons a _ _=>exact a
abbrev PL:=List ((Nat×Nat)×Pn)
structure At5 (w:World) (b o:Nat) (v0 v1 v2 v3 v4:Value):Prop where
 c0:w.cell? ⟨b,o,none⟩=some v0
 c1:w.cell? ⟨b,o+1,none⟩=some v1
 c2:w.cell? ⟨b,o+2,none⟩=some v2
 c3:w.cell? ⟨b,o+3,none⟩=some v3
 c4:w.cell? ⟨b,o+4,none⟩=some v4
theorem At5.frame {w w':World} {b o:Nat} {v0 v1 v2 v3 v4:Value} (h:At5 w b o v0 v1 v2 v3 v4) (hw:∀ j,o≤j→j<o+5→w'.cell? ⟨b,j,none⟩=w.cell? ⟨b,j,none⟩):At5 w' b o v0 v1 v2 v3 v4 :=
 ⟨(hw _ (by omega) (by omega)).trans h.c0,(hw _ (by omega) (by omega)).trans h.c1,(hw _ (by omega) (by omega)).trans h.c2,(hw _ (by omega) (by omega)).trans h.c3,(hw _ (by omega) (by omega)).trans h.c4⟩
mutual
inductive TH (w:World) (m:Mem):Pn→Nat→Nat→List Nat→PL→Prop
 | fresh {x:Pn} {b o:Nat} {v0 v1 v2 v3 v4:Value}:ICells m x.cells [v0,v1,v2,v3,v4]→At5 w b o v0 v1 v2 v3 v4→TH w m x b o [] [((b,o),x)]
 | leaf {k t:Int} {es:List Ex} {cs:List Int} {b o:Nat} {vE vC:Value} {FE FC:List Nat}:At5 w b o (.int .i64 k) (.int .i64 t) vE vC (.slice none 0 0)→KCells w [.isl (Ex.aB es)] [vE] FE→KCells w [.isl (aD cs)] [vC] FC→((es=[]→vE=.slice none 0 0)∧(cs=[]→vC=.slice none 0 0))→TH w m (.mk k t es cs []) b o (FE++FC) []
 | node {k t:Int} {es:List Ex} {cs:List Int} {ks:List Pn} {b o b' cap:Nat} {vE vC:Value} {FE FC F:List Nat} {H:PL}:At5 w b o (.int .i64 k) (.int .i64 t) vE vC (.slice (some ⟨b',0,none⟩) ks.length cap)→KCells w [.isl (Ex.aB es)] [vE] FE→KCells w [.isl (aD cs)] [vC] FC→ks≠[]→ks.length≤cap→THL w m ks b' 0 F H→(w.cell? ⟨b',5*cap-1,none⟩).isSome=true→((es=[]→vE=.slice none 0 0)∧(cs=[]→vC=.slice none 0 0))→TH w m (.mk k t es cs ks) b o (FE++FC++(b'::F)) H
inductive THL (w:World) (m:Mem):List Pn→Nat→Nat→List Nat→PL→Prop
 | nil (b o:Nat):THL w m [] b o [] []
 | cons {x:Pn} {xs:List Pn} {b o:Nat} {F1 F2:List Nat} {H1 H2:PL}:TH w m x b o F1 H1→THL w m xs b (o+5) F2 H2→THL w m (x::xs) b o (F1++F2) (H1++H2)
end
theorem At5.some {w:World} {b o:Nat} {v0 v1 v2 v3 v4:Value} (h:At5 w b o v0 v1 v2 v3 v4):∀ i,i<5→(w.cell? ⟨b,o+i,none⟩).isSome=true
 | 0,_=>by rw[xQ,h.c0];rfl
 | 1,_=>by rw[h.c1];rfl
 | 2,_=>by rw[h.c2];rfl
 | 3,_=>by rw[h.c3];rfl
 | 4,_=>by rw[h.c4];rfl
 | i+5,h=>by omega
theorem TH.at5 {w:World} {m:Mem} {x:Pn} {b o:Nat} {F:List Nat} {H:PL} (h:TH w m x b o F H):∀ i,i<5→(w.cell? ⟨b,o+i,none⟩).isSome=true:=by
 cases h with
 | fresh _ h2=>exact h2.some
 | leaf h1 _ _ _=>exact h1.some
 | node h1 _ _ _ _ _ _ _=>exact h1.some
mutual
theorem TH.frame {w w':World} {m m':Mem} (hm:MLe m m') {x:Pn} {b o:Nat} {F:List Nat} {H:PL} (hw:∀ j,o≤j→j<o+5→w'.cell? ⟨b,j,none⟩=w.cell? ⟨b,j,none⟩) (hF:∀ f∈F,∀ j,w'.cell? ⟨f,j,none⟩=w.cell? ⟨f,j,none⟩):TH w m x b o F H→TH w' m' x b o F H
 | .fresh h1 h2=>.fresh (h1.mono hm) (h2.frame hw)
 | .leaf h1 h2 h3 h4=>.leaf (h1.frame hw) (h2.frame fun f hf=>hF f (by simp[hf])) (h3.frame fun f hf=>hF f (by simp[hf])) h4
 | .node h1 h2 h3 h4 h5 h6 h7 h8=>.node (h1.frame hw) (h2.frame fun f hf=>hF f (by simp[hf])) (h3.frame fun f hf=>hF f (by simp[hf])) h4 h5 (THL.frame hm (fun j _ _=>hF _ (by simp) j) (fun f hf=>hF f (by simp[hf])) h6) (by rw[hF _ (by simp)];exact h7) h8
theorem THL.frame {w w':World} {m m':Mem} (hm:MLe m m') {xs:List Pn} {b o:Nat} {F:List Nat} {H:PL} (hw:∀ j,o≤j→j<o+5*xs.length→w'.cell? ⟨b,j,none⟩=w.cell? ⟨b,j,none⟩) (hF:∀ f∈F,∀ j,w'.cell? ⟨f,j,none⟩=w.cell? ⟨f,j,none⟩):THL w m xs b o F H→THL w' m' xs b o F H
 | .nil b o=>.nil b o
 | .cons h1 h2=>.cons (TH.frame hm (fun j l1 l2=>hw j l1 (by simp only[zQ];omega)) (fun f hf=>hF f (by simp[hf])) h1) (THL.frame hm (fun j l1 l2=>hw j (by omega) (by simp only[zQ];omega)) (fun f hf=>hF f (by simp[hf])) h2)
end
mutual
theorem TH.holes {w:World} {m:Mem} {x:Pn} {b o:Nat} {F:List Nat} {H:PL}:TH w m x b o F H→∀ q∈H,q.1=(b,o)∨q.1.1∈F
 | .fresh _ _,q,hq=>by simp at hq;subst hq;exact .inl rfl
 | .leaf _ _ _ _,q,hq=>by simp at hq
 | .node _ _ _ _ _ h6 _ _,q,hq=>by
  rcases THL.holes h6 q hq with ⟨h,_⟩|h
  ·exact .inr (by simp[h])
  ·exact .inr (by simp[h])
theorem THL.holes {w:World} {m:Mem} {xs:List Pn} {b o:Nat} {F:List Nat} {H:PL}:THL w m xs b o F H→∀ q∈H,(q.1.1=b∧o≤q.1.2)∨q.1.1∈F
 | .nil _ _,q,hq=>by simp at hq
 | .cons h1 h2,q,hq=>by
  rcases zV.1 hq with h|h
  ·rcases TH.holes h1 q h with e|e
   ·exact .inl ⟨by rw[e],by rw[e];exact zP _⟩
   ·exact .inr (by simp[e])
  ·rcases THL.holes h2 q h with ⟨e1,e2⟩|e
   ·exact .inl ⟨e1,by omega⟩
   ·exact .inr (by simp[e])
end
mutual
theorem TH.fill {w w':World} {m m':Mem} (hm:MLe m m') {bq oq:Nat} {y:Pn} {G:List Nat} {HY:PL} (hy:TH w' m' y bq oq G HY) {x:Pn} {b o:Nat} {F:List Nat} {H:PL}:TH w m x b o F H→b ∉ F→F.Nodup→((bq,oq),y)∈H →
 (∀ f∈b::F,∀ j,(f≠bq∨j<oq∨oq+5≤j)→w'.cell? ⟨f,j,none⟩=w.cell? ⟨f,j,none⟩)→∃ F' H',TH w' m' x b o F' H'∧F'.Perm (F++G)∧(((bq,oq),y)::H').Perm (H++HY)
 | .fresh _ _,_,_,hq,_=>by
  simp at hq;obtain⟨⟨rfl,rfl⟩,rfl⟩:=hq;exact⟨G,HY,hy,by simp,by simp⟩
 | .leaf _ _ _ _,_,_,hq,_=>by simp at hq
 | .node h1 h2 h3 h4 h5 h6 h7 h8,hb,hn,hq,hw=>by
  rename_i b' cap vE vC FE FC F;have hn2:=(zH.1 hn).2.1;have hb':b' ∉ F:=(yU.1 hn2).1
  have hD:∀ f∈FE++FC,f≠bq:=fun f hf e=>by
   rcases THL.holes h6 _ hq with ⟨e1,_⟩|e1
   ·exact(zH.1 hn).2.2 f hf b' (by simp) (by rw[e];exact e1)
   ·exact(zH.1 hn).2.2 f hf bq (by simp at e1;simp[e1]) e
  have hne:b≠bq:=by
   intro e
   rcases THL.holes h6 _ hq with ⟨e1,_⟩|e1
   ·exact hb (by simp at e1;simp[e,e1])
   ·exact hb (by simp at e1;simp[e,e1])
  obtain⟨F',H',k1,k2,k3⟩:=THL.fill hm hy h6 hb' (yU.1 hn2).2 hq (fun f hf j hj=>hw f (by rcases zS.1 hf with rfl|h<;>simp[*]) j hj)
  have h7':(w'.cell? ⟨b',5*cap-1,none⟩).isSome=true:=by
   by_cases hj:b'≠bq∨5*cap-1<oq∨oq+5≤5*cap-1
   ·rw[hw b' (by simp) _ hj];exact h7
   ·have hbq:b'=bq:=by omega
    obtain⟨i,hi,e⟩:∃ i,i<5∧5*cap-1=oq+i:=⟨5*cap-1-oq,by omega,by omega⟩
    rw[hbq,e];exact hy.at5 i hi
  refine⟨FE++FC++(b'::F'),H', .node (h1.frame fun j _ _=>hw b (by simp) j (.inl hne)) (h2.frame fun f hf j=>hw f (by simp[hf]) j (.inl (hD f (by simp[hf])))) (h3.frame fun f hf j=>hw f (by simp[hf]) j (.inl (hD f (by simp[hf])))) h4 h5 k1 h7' h8,?_,k3⟩;rw[yY (FE++FC)];exact(k2.cons b').append_left _
theorem THL.fill {w w':World} {m m':Mem} (hm:MLe m m') {bq oq:Nat} {y:Pn} {G:List Nat} {HY:PL} (hy:TH w' m' y bq oq G HY) {xs:List Pn} {b o:Nat} {F:List Nat} {H:PL}:THL w m xs b o F H→b ∉ F→F.Nodup→((bq,oq),y)∈H →
 (∀ f∈b::F,∀ j,(f≠bq∨j<oq∨oq+5≤j)→w'.cell? ⟨f,j,none⟩=w.cell? ⟨f,j,none⟩)→∃ F' H',THL w' m' xs b o F' H'∧F'.Perm (F++G)∧(((bq,oq),y)::H').Perm (H++HY)
 | .nil _ _,_,_,hq,_=>by simp at hq
 | .cons (F1:=F1) (F2:=F2) (H1:=H1) (H2:=H2) h1 h2,hb,hn,hq,hw=>by
  have hb1:b ∉ F1:=fun h=>hb (by simp[h])
  have hb2:b ∉ F2:=fun h=>hb (by simp[h])
  obtain⟨n1,n2,n3⟩:=zH.1 hn
  rcases zV.1 hq with h|h
  ·obtain⟨F',H',k1,k2,k3⟩:=TH.fill hm hy h1 hb1 n1 h (fun f hf j hj=>hw f (by rcases zS.1 hf with rfl|h<;>simp[*]) j hj);refine⟨F'++F2,H'++H2, .cons k1 (THL.frame hm (fun j l1 l2=>hw b (by simp) j ?_) (fun f hf j=>hw f (by simp[hf]) j (.inl ?_)) h2),?_,?_⟩
   ·rcases TH.holes h1 _ h with e|e
    ·simp at e;exact .inr (.inr (by omega))
    ·exact .inl fun e2=>hb1 (by simp at e;rw[e2];exact e)
   ·rcases TH.holes h1 _ h with e|e
    ·simp at e;intro e2;rw[e2,e.1]at hf;exact hb2 hf
    ·simp at e;intro e2;rw[e2]at hf;exact n3 _ e _ hf rfl
   ·have:=k2.append_right F2;refine this.trans ?_;rw[yY,yY];exact(List.perm_append_comm (l₁:=G) (l₂:=F2)).append_left F1
   ·have:=k3.append_right H2;rw[yX]at this;refine this.trans ?_;rw[yY,yY];exact(List.perm_append_comm (l₁:=HY) (l₂:=H2)).append_left H1
  ·obtain⟨F',H',k1,k2,k3⟩:=THL.fill hm hy h2 hb2 n2 h (fun f hf j hj=>hw f (by rcases zS.1 hf with rfl|h<;>simp[*]) j hj);refine⟨F1++F',H1++H', .cons (TH.frame hm (fun j l1 l2=>hw b (by simp) j ?_) (fun f hf j=>hw f (by simp[hf]) j (.inl ?_)) h1) k1,?_,?_⟩
   ·rcases THL.holes h2 _ h with ⟨e1,e2⟩|e
    ·simp at e2;exact .inr (.inl (by omega))
    ·exact .inl fun e2=>hb2 (by simp at e;rw[e2];exact e)
   ·rcases THL.holes h2 _ h with ⟨e1,_⟩|e
    ·simp at e1;intro e2;rw[e2,e1]at hf;exact hb1 hf
    ·simp at e;intro e2;rw[e2]at hf;exact n3 _ hf _ e rfl
   ·rw[yY];exact k2.append_left F1
   ·rw[yY];refine List.perm_middle.symm.trans ?_;exact k3.append_left H1
end
mutual
theorem TH.iat {w:World} {m m':Mem} (hm:MLe m m') {x:Pn} {b o:Nat} {F:List Nat}:TH w m x b o F []→(∀ j,o≤j→j<o+5→m' b j=w.cell? ⟨b,j,none⟩)→(∀ f∈F,∀ j,m' f j=w.cell? ⟨f,j,none⟩)→IAt m' b o x.cells
 | .leaf h1 h2 h3 h4,hb,hF=>by
  rw[Pn.dX];exact .cons ((hb _ (by omega) (by omega)).trans h1.c0) (.lit _) rfl (.cons ((hb _ (by omega) (by omega)).trans h1.c1) (.lit _) rfl (.cons ((hb _ (by omega) (by omega)).trans h1.c2) (h2.rep fun f hf=>hF f (by simp[hf])) h2.one (.cons ((hb _ (by omega) (by omega)).trans h1.c3) (h3.rep fun f hf=>hF f (by simp[hf])) h3.one (.cons ((hb _ (by omega) (by omega)).trans h1.c4) (.isl0 _ _ fun _=>rfl) rfl (.nil _ _)))))
 | .node h1 h2 h3 h4 h5 h6 h7 h8,hb,hF=>by
  rename_i ks b' cap vE vC FE FC F;rw[Pn.dX];have he:=THL.iel hm h6 (fun j _ _=>hF b' (by simp) j) (fun f hf=>hF f (by simp[hf]));have hl:(Pn.aB ks).length=ks.length:=by simp
  have hn:Pn.aB ks≠[]:=fun e=>by rw[e]at hl;simp at hl;exact h4 (zW.1 hl.symm)
  have hk:IRep m' (.isl (Pn.aB ks)) (.slice (some ⟨b',0,none⟩) ks.length cap):=by
   have:=IRep.isl (cap:=cap) hn he (by omega)
   rwa [hl]at this
  exact .cons ((hb _ (by omega) (by omega)).trans h1.c0) (.lit _) rfl (.cons ((hb _ (by omega) (by omega)).trans h1.c1) (.lit _) rfl (.cons ((hb _ (by omega) (by omega)).trans h1.c2) (h2.rep fun f hf=>hF f (by simp[hf])) h2.one (.cons ((hb _ (by omega) (by omega)).trans h1.c3) (h3.rep fun f hf=>hF f (by simp[hf])) h3.one (.cons ((hb _ (by omega) (by omega)).trans h1.c4) hk rfl (.nil _ _)))))
theorem THL.iel {w:World} {m m':Mem} (hm:MLe m m') {xs:List Pn} {b o:Nat} {F:List Nat}:THL w m xs b o F []→(∀ j,o≤j→j<o+5*xs.length→m' b j=w.cell? ⟨b,j,none⟩)→(∀ f∈F,∀ j,m' f j=w.cell? ⟨f,j,none⟩)→IElems m' b o 5 (Pn.aB xs)
 | h,hb,hF=>by
  generalize hH:([]:PL)=H at h
  cases h with
  | nil b o=>simp only[Pn.aB];exact .nil b o 5
  | cons h1 h2 =>
   obtain⟨e1,e2⟩:=zD2.1 hH.symm;subst e1;subst e2;simp only[Pn.aB];exact .cons (TH.iat hm h1 (fun j l1 l2=>hb j l1 (by simp only[zQ];omega)) (fun f hf=>hF f (by simp[hf]))) (Pn.cK _) (THL.iel hm h2 (fun j l1 l2=>hb j (by omega) (by simp only[zQ];omega)) (fun f hf=>hF f (by simp[hf])))
end
theorem KCells.app {w:World}:∀ {cs cs':List IV} {vs vs':List Value} {F F':List Nat},KCells w cs vs F→KCells w cs' vs' F'→KCells w (cs++cs') (vs++vs') (F++F')
 | _,_,_,_,_,_, .nil,h=>h
 | _,_,_,_,_,_, .lit o r,h=>.lit o (r.app h)
 | _,_,_,_,_,_, .isl0 c r,h=>.isl0 c (r.app h)
 | _,_,_,_,_,_, .isl (F:=F) hn hr hk hl hf hc g r,h=>by
  have:=KCells.isl hn hr hk hl hf hc g (r.app h);simpa using this
theorem At5.uniq {w:World} {b o:Nat} {v0 v1 v2 v3 v4 u0 u1 u2 u3 u4:Value} (h:At5 w b o v0 v1 v2 v3 v4) (g:At5 w b o u0 u1 u2 u3 u4):v0=u0∧v1=u1∧v2=u2∧v3=u3∧v4=u4 :=
 ⟨Option.some.inj (h.c0.symm.trans g.c0),Option.some.inj (h.c1.symm.trans g.c1),Option.some.inj (h.c2.symm.trans g.c2),Option.some.inj (h.c3.symm.trans g.c3),Option.some.inj (h.c4.symm.trans g.c4)⟩
theorem AaY {us:List Value} {o:Nat} {v0 v1 v2 v3 v4:Value} (h0:us[o]?=some v0) (h1:us[o+1]?=some v1) (h2:us[o+2]?=some v2) (h3:us[o+3]?=some v3) (h4:us[o+4]?=some v4):us.drop o=[v0,v1,v2,v3,v4]++us.drop (o+5):=by
 have g:∀ {o:Nat} {v:Value},us[o]?=some v→us.drop o=v::us.drop (o+1):=by
  intro o v h;obtain⟨hl,rfl⟩:=zY.1 h;exact yE hl
 rw[g h0,g h1,g h2,g h3,g h4];rfl
theorem Pn.MC:∀ l:List Pn,Pn.aB l=l.map Pn.cells
 | []=>rfl
 | a::l=>by simp[Pn.aB,Pn.MC l]
mutual
theorem TH.kc {w:World} {m:Mem} {x:Pn} {b o:Nat} {F:List Nat}:TH w m x b o F []→(∀ f∈F,∃ (us:List Value) (T:TypeId),w.heap[f]?=some (.cells us.toArray T (0,0))∧∀ v∈us,v.oneCell'=true)→∃ v0 v1 v2 v3 v4,At5 w b o v0 v1 v2 v3 v4∧KCells w x.cells [v0,v1,v2,v3,v4] F∧(x.exprs=[]→v2=.slice none 0 0)∧(x.cols=[]→v3=.slice none 0 0)∧(x.kids=[]→v4=.slice none 0 0)
 | .leaf h1 h2 h3 h4,hrow=>by
  refine⟨_,_,_,_,_,h1,?_,h4.1,h4.2,fun _=>rfl⟩;rw[Pn.dX];exact .lit rfl (.lit rfl (h2.app (by have:=h3.app (KCells.isl0 (w:=w) (ao:=none) (cap:=0) (fun _=>rfl) .nil);simpa [Pn.aB]using this)))
 | .node (ks:=ks) (b':=b') (cap:=cap) (FE:=FE) (FC:=FC) (F:=F) h1 h2 h3 h4 h5 h6 h7 h8,hrow=>by
  refine⟨_,_,_,_,_,h1,?_,h8.1,h8.2,fun h=>absurd h h4⟩;rw[Pn.dX];obtain⟨us,T,hr,hone⟩:=hrow b' (by simp);have hb:∀ j,w.cell? ⟨b',j,none⟩=us[j]?:=fun j=>aY hr j
  have hk:=THL.kc h6 (fun f hf=>hrow f (by simp[hf])) hb;have hl:(Pn.aB ks).length=ks.length:=by simp
  have hn:Pn.aB ks≠[]:=fun e=>by rw[e]at hl;simp at hl;exact h4 (zW.1 hl.symm)
  have hpos:0<ks.length:=xK.2 h4
  have hfit:5*cap≤us.length:=by
   rw[hb]at h7
   cases hx:us[5*cap-1]? with
   | none=>rw[hx]at h7;cases h7
   | some u=>have:=(zY.1 hx).1;omega
  have hK:=KCells.isl (w:=w) (b:=b') (k:=5) (cap:=cap) (es:=Pn.aB ks) (us:=us) (G:=F) hn hb (by omega) (fun e he=>by
   rw[Pn.MC]at he;obtain⟨x,_,rfl⟩:=yK.1 he
   exact Pn.cK x) hfit (by omega) (by rw[hl];simpa using hk) .nil
  rw[hl,zA]at hK;exact .lit rfl (.lit rfl (by have:=h2.app (h3.app hK);simpa [yY]using this))
theorem THL.kc {w:World} {m:Mem} {xs:List Pn} {b o:Nat} {F:List Nat} {us:List Value}:THL w m xs b o F []→(∀ f∈F,∃ (us:List Value) (T:TypeId),w.heap[f]?=some (.cells us.toArray T (0,0))∧∀ v∈us,v.oneCell'=true)→(∀ j,w.cell? ⟨b,j,none⟩=us[j]?)→KCells w (Pn.aB xs).flatten ((us.drop o).take (5*xs.length)) F
 | h,hrow,hb=>by
  generalize hH:([]:PL)=H at h
  cases h with
  | nil b o=>simp only[Pn.aB];simpa using KCells.nil
  | @cons x xs _ _ F1 F2 H1 H2 h1 h2 =>
   obtain⟨e1,e2⟩:=zD2.1 hH.symm;subst e1;subst e2;obtain⟨v0,v1,v2,v3,v4,g1,g2,_⟩:=TH.kc h1 (fun f hf=>hrow f (by simp[hf]));have g3:=THL.kc h2 (fun f hf=>hrow f (by simp[hf])) hb;have hd:=AaY (us:=us) (o:=o) (by rw[← hb];exact g1.c0) (by rw[← hb];exact g1.c1) (by rw[← hb];exact g1.c2) (by rw[← hb];exact g1.c3) (by rw[← hb];exact g1.c4);rw[hd,zQ,show 5*(xs.length+1)=5+5*xs.length by omega,xO,zZ (by simp)];simp only[Pn.aB,yZ];have e5:5+5*xs.length-[v0,v1,v2,v3,v4].length=5*xs.length:=by simp
   rw[e5];exact g2.app g3
end
def AEO (R:World→Mem→Pl→Prop):Prop:=∀ w m φ w' m' φ',Adv w m φ w' m' φ'→R w m φ→R w' m' φ'
structure GR (wi:World) (mi:Mem) (nt:Nat) (ok:Nat→Prop) (R:World→Mem→Pl→Prop) (env:Nat→AV) (st:Store) (a:Act) (w:World):Prop where
 out:∃ m φ,Inv w m φ st∧(∀ t,Rep m φ (env t) (a.tmps.getD t undef))∧Adv wi mi (fun _=>none) w m φ∧(∀ id,φ id≠none→ok id)∧R w m φ
 size:nt≤a.tmps.size
 defers:a.defers=[]
section
variable {C:Ctx} {wi:World} {mi:Mem} {nt:Nat}
theorem GR.dW (hS:SoundOk C) {G:List Nat} {c:Code} {S S':AS} {e:AExit} {a:Act} {w:World} {R:World→Mem→Pl→Prop} (hR:AEO R) (hc:codeOk nt c=true) (hx:dR C G S.st.length c S=some (e,S')) (h:GR wi mi nt (fun id=>id<S.st.length) R (aN S.env) (aR S.st) a w) (hnr:bJ c=true:=by rfl) :
 c.wp C.P (fun e' a' w'=>e'=iF e∧GR wi mi nt (fun id=>id<S'.st.length) R (aN S'.env) (aR S'.st) a' w') a w:=by
 obtain⟨n,hn⟩:=(d9 _).1 hx;obtain⟨⟨m,φ,h1,h2,h3,h4,h5⟩,h6,h7⟩:=h;refine wpIn_wide.1 (wpIn_mono (bY (ρ:=none) hS.ctx (aS hS) (hS.draw _ (aS hS)) h4 n c S S' e [] a w hc (.inl rfl) hn ⟨⟨⟨m,φ,h1,h2, .refl _ _ _,h4, .nil _ _ _⟩,h6,h7⟩,zP _⟩) ?_);rintro e' a' w' ⟨rfl,ds,k,kd⟩;have kd:=kd hnr;subst kd;obtain⟨⟨⟨m',φ',k1,k2,k3,k4,_⟩,k5,k6⟩,_⟩:=k;exact⟨rfl,⟨⟨m',φ',k1,k2,h3.trans k3,k4,hR _ _ _ _ _ _ k3 h5⟩,k5,k6⟩⟩
theorem GR.turn {ok ok':Nat→Prop} {R R':World→Mem→Pl→Prop} {env env':Nat→AV} {st st':Store} {a:Act} {w:World} (h:GR wi mi nt ok R env st a w)
 (f:∀ m φ,Inv w m φ st→(∀ t,Rep m φ (env t) (a.tmps.getD t undef))→Adv wi mi (fun _=>none) w m φ→(∀ id,φ id≠none→ok id)→R w m φ →
  ∃ m' φ',Inv w m' φ' st'∧(∀ t,Rep m' φ' (env' t) (a.tmps.getD t undef))∧Adv wi mi (fun _=>none) w m' φ'∧(∀ id,φ' id≠none→ok' id)∧R' w m' φ'):GR wi mi nt ok' R' env' st' a w:=by
 obtain⟨⟨m,φ,h1,h2,h3,h4,h5⟩,h6,h7⟩:=h;exact⟨f m φ h1 h2 h3 h4 h5,h6,h7⟩
def pG (st':Store) (φ:Pl):Pl:=fun i=>match st' i with
 | some _=>φ i
 | none=>none
theorem dA {st':Store} {φ:Pl} {i:Nat} {p:Nat×Ext} (h:pG st' φ i=some p):φ i=some p∧st' i≠none:=by
 unfold pG at h
 cases e:st' i with
 | none=>rw[e]at h;cases h
 | some _=>rw[e]at h;exact⟨h,by simp⟩
theorem mR {st':Store} {φ:Pl} {i:Nat} (h:st' i≠none):pG st' φ i=φ i:=by
 unfold pG
 cases e:st' i with
 | none=>exact absurd e h
 | some _=>rfl
theorem Inv.cut {w:World} {m:Mem} {φ:Pl} {st st':Store} (hi:Inv w m φ st) (hst:∀ i blk,st' i=some blk→st i=some blk∧gT blk):Inv w m (pG st' φ) st':=by
 refine⟨hi.mem,?_,?_,fun i b n f e ho=>hi.low i b n f (dA e).1 ho⟩
 ·intro i blk hb;obtain⟨h1,h2⟩:=hst i blk hb;obtain⟨b,n,q1,q2,q3⟩:=hi.live i blk h1;exact⟨b,n,by rw[mR (by rw[hb];simp)];exact q1,q2,q3.WF h2 rfl fun o h=>h⟩
 ·intro i j b bx n n2 b1 b2 f h1 h2 h3 h4 o1 o2;exact hi.inj i j b bx n n2 b1 b2 f (hst i b1 h1).1 (hst j b2 h2).1 (dA h3).1 (dA h4).1 o1 o2
theorem Adv.cut {w:World} {m:Mem} {φ:Pl} {st':Store} (h:Adv wi mi (fun _=>none) w m φ):Adv wi mi (fun _=>none) w m (pG st' φ) :=
 ⟨h.size,h.os,h.tape,h.output,h.block,h.mle,h.mnew,(fun _ _ _ h=>by cases h),fun i b n f e ho=>h.pnew i b n f (dA e).1 ho⟩
theorem gK.cut {φ:Pl} {st':Store} {f:Nat} (h:gK φ f):gK (pG st' φ) f:=fun i b n e=>h i b n (dA e).1
theorem uP {w:World} {m:Mem} {φ:Pl} {st st':Store} {id b f:Nat} {n:Ext} {blk:Blk} (hi:Inv w m φ st) (hst:∀ i blk,st' i=some blk→st i=some blk∧gT blk) (hid:st id=some blk) (hn:st' id=none) (e:φ id=some (b,n)) (ho:n.own f):gK (pG st' φ) f:=by
 intro i r n' e' ho';obtain⟨h1,h2⟩:=dA e'
 cases hb:st' i with
 | none=>exact h2 hb
 | some blk' =>
  have:=hi.inj i id r b n' n blk' blk f (hst i blk' hb).1 hid h1 e ho' ho;rw[this,hn]at hb;cases hb
theorem D5 {w:World} {m:Mem} {φ:Pl} {id b f:Nat} {n:Ext} (h:Adv wi mi (fun _=>none) w m φ) (e:φ id=some (b,n)) (ho:n.own f):wi.heap.size≤f:=by
 rcases h.pnew id b n f e ho with h|h
 ·exact h
 ·exact absurd (fun id b n e=>by cases e) h
theorem Inv.adopt {w:World} {m:Mem} {φ:Pl} {st:Store} {id b:Nat} {cs:List AV} {vs:List Value} {T:TypeId} (hi:Inv w m φ st) (h1:st id=none) (h2:φ id=none) (hf:gK φ b) (hm:∀ o,m b o=none) (hh:w.heap[b]?=some (.cells vs.toArray T (0,0)))
 (hc:RepC m (upd φ id (some (b,one b vs.length))) cs vs):Inv w m (upd φ id (some (b,one b vs.length))) (upd st id (some (.box cs))):=by
 have hlt:b<w.heap.size:=(zL.1 hh).1
 have hp:PLe φ (upd φ id (some (b,one b vs.length))):=fun i r n e=>by
  refine⟨n,?_,rfl,fun _ h=>h⟩;have:i≠id:=fun h=>by rw[h,h2]at e;cases e
  simp[upd,this,e]
 refine⟨hi.mem,?_,?_,?_⟩
 ·intro i blk hb;by_cases hid:i=id
  ·subst hid;simp[upd]at hb;subst hb;exact⟨b,one b vs.length,by simp[upd],⟨rfl,fun f hf=>by rw[show f=b from hf];exact hlt⟩, .box hh rfl hc hm⟩
  ·simp[upd,hid]at hb;obtain⟨r,n,q1,q2,q3⟩:=hi.live i blk hb;exact⟨r,n,by simp[upd,hid,q1],q2,q3.mono q2.1 (fun _ _=>rfl) (.refl _) hp fun _ _ _=>rfl⟩
 ·intro i j r r' n n' b1 b2 f e1 e2 p1 p2 o1 o2;by_cases hi1:i=id
  ·by_cases hj1:j=id
   ·rw[hi1,hj1]
   ·subst hi1;simp[upd]at p1;simp[upd,hj1]at p2;obtain⟨rfl,rfl⟩:=p1;rw[show f=_ from o1]at o2;exact absurd o2 (hf j r' n' p2)
  ·by_cases hj1:j=id
   ·subst hj1;simp[upd]at p2;simp[upd,hi1]at p1;obtain⟨rfl,rfl⟩:=p2;rw[show f=_ from o2]at o1;exact absurd o1 (hf i r n p1)
   ·simp[upd,hi1]at e1 p1;simp[upd,hj1]at e2 p2;exact hi.inj i j r r' n n' b1 b2 f e1 e2 p1 p2 o1 o2
 ·intro i r n f e ho;by_cases hid:i=id
  ·subst hid;simp[upd]at e;obtain⟨rfl,rfl⟩:=e;rw[show f=_ from ho];exact hlt
  ·simp[upd,hid]at e;exact hi.low i r n f e ho
theorem Adv.adopt {w:World} {m:Mem} {φ:Pl} {id b k:Nat} (h:Adv wi mi (fun _=>none) w m φ) (hb:wi.heap.size≤b):Adv wi mi (fun _=>none) w m (upd φ id (some (b,one b k))):=by
 refine⟨h.size,h.os,h.tape,h.output,h.block,h.mle,h.mnew,(fun _ _ _ h=>by cases h),fun i r n f e ho=>?_⟩;by_cases hid:i=id
 ·subst hid;simp[upd]at e;obtain⟨rfl,rfl⟩:=e;rw[show f=_ from ho];exact .inl hb
 ·simp[upd,hid]at e;exact h.pnew i r n f e ho
def bI (vs:List Value):List AV:=vs.map fun v=>.i (.lit v)
theorem o7 {m:Mem} {φ:Pl}:∀ {vs:List Value},(∀ v∈vs,v.oneCell'=true)→RepC m φ (bI vs) vs
 | [],_=>.nil
 | v::vs,h=>.cons (.i (.lit v)) (h v (by simp)) (o7 fun u hu=>h u (by simp[hu]))
theorem lS {m:Mem} {φ:Pl}:∀ {vs us:List Value},RepC m φ (bI vs) us→us=vs
 | [],_, .nil=>rfl
 | v::vs,_, .cons a _ b=>by rw[a.bX,lS b]
theorem jL {m:Mem} {φ:Pl}:∀ {a b:List AV} {vs:List Value},RepC m φ (a++b) vs→∃ us xs,vs=us++xs∧RepC m φ a us∧RepC m φ b xs
 | [],b,vs,h=>⟨[],vs,rfl, .nil,h⟩
 | c::a,b,_, .cons h1 h2 h3=>by
  obtain⟨us,xs,rfl,k1,k2⟩:=jL h3;exact⟨_::us,xs,rfl, .cons h1 h2 k1,k2⟩
theorem K3 {m:Mem} {φ:Pl}:∀ {a b:List AV} {us xs:List Value},RepC m φ a us→RepC m φ b xs→RepC m φ (a++b) (us++xs)
 | [],_,_,_, .nil,h=>h
 | _::_,_,_,_, .cons h1 h2 h3,h=>.cons h1 h2 (K3 h3 h)
end
structure RAW (wi:World) (root:Nat) (p:Pn) (F:List Nat) (H:PL) (w:World) (m:Mem) (φ:Pl):Prop where
 th:TH w m p root 0 F H
 nr:root ∉ F
 nd:F.Nodup
 all:∀ f∈root::F,wi.heap.size≤f∧f<w.heap.size∧gK φ f∧(∀ o,m f o=none)∧∃ (vs:List Value) (T:TypeId),w.heap[f]?=some (.cells vs.toArray T (0,0))∧∀ v∈vs,v.oneCell'=true
theorem gV {w w':World} {f:Nat} (h:w'.heap[f]?=w.heap[f]?) (j:Nat):w'.cell? ⟨f,j,none⟩=w.cell? ⟨f,j,none⟩:=cell_of_heap h
theorem RAW.EK (wi:World) (root:Nat) (p:Pn) (F:List Nat) (H:PL):AEO (RAW wi root p F H):=by
 intro w m φ w' m' φ' ha h;have hs:∀ f∈root::F,w'.heap[f]?=w.heap[f]?:=fun f hf=>ha.block f (h.all f hf).2.1 (h.all f hf).2.2.1
 refine⟨h.th.frame ha.mle (fun j _ _=>gV (hs root (by simp)) j) (fun f hf j=>gV (hs f (by simp[hf])) j),h.nr,h.nd,fun f hf=>?_⟩;obtain⟨k1,k2,k3,k4,vs,T,k5,k6⟩:=h.all f hf;exact⟨k1,zJ k2 ha.size,ha.range k2 k3,fun o=>(ha.mnew f k2 k3 o).trans (k4 o),vs,T,by rw[hs f hf];exact k5,k6⟩
structure ADP (wi:World) (root:Nat) (p:Pn) (F:List Nat) (H:PL) (bq:Nat) (us:List Value) (wa:World) (ma:Mem) (w:World) (m:Mem) (φ:Pl):Prop where
 th:TH wa ma p root 0 F H
 nr:root ∉ F
 nd:F.Nodup
 le:MLe ma m
 inF:bq∈root::F
 own:∃ n,φ 2=some (bq,n)
 row:∃ T,wa.heap[bq]?=some (.cells us.toArray T (0,0))
 bqn:wi.heap.size≤bq
 oth:∀ f∈root::F,f≠bq→wi.heap.size≤f∧f<w.heap.size∧gK φ f∧(∀ o,m f o=none)∧w.heap[f]?=wa.heap[f]?∧∃ (vs:List Value) (T:TypeId),wa.heap[f]?=some (.cells vs.toArray T (0,0))∧∀ v∈vs,v.oneCell'=true
theorem ADP.EK (wi:World) (root:Nat) (p:Pn) (F:List Nat) (H:PL) (bq:Nat) (us:List Value) (wa:World) (ma:Mem):AEO (ADP wi root p F H bq us wa ma):=by
 intro w m φ w' m' φ' ha h;refine⟨h.th,h.nr,h.nd,h.le.trans ha.mle,h.inF,?_,h.row,h.bqn,fun f hf hne=>?_⟩
 ·obtain⟨n,e⟩:=h.own;obtain⟨n',e',_⟩:=ha.ple _ _ _ e;exact⟨n',e'⟩
 ·obtain⟨k1,k2,k3,k4,k5,k6⟩:=h.oth f hf hne;exact⟨k1,zJ k2 ha.size,ha.range k2 k3,fun o=>(ha.mnew f k2 k3 o).trans (k4 o),(ha.block f k2 k3).trans k5,k6⟩
theorem IK {us:List Value} {o:Nat} {v0 v1 v2 v3 v4:Value} (h0:us[o]?=some v0) (h1:us[o+1]?=some v1) (h2:us[o+2]?=some v2) (h3:us[o+3]?=some v3) (h4:us[o+4]?=some v4):us=us.take o++([v0,v1,v2,v3,v4]++us.drop (o+5)):=by
 have g:∀ {o:Nat} {v:Value},us[o]?=some v→us.drop o=v::us.drop (o+1):=by
  intro o v h;obtain⟨hl,rfl⟩:=zY.1 h;exact yE hl
 have:us.drop o=[v0,v1,v2,v3,v4]++us.drop (o+5):=by rw[g h0,g h1,g h2,g h3,g h4];rfl
 rw[← this,yA]
mutual
theorem TH.hole {w:World} {m:Mem} {x:Pn} {b o:Nat} {F:List Nat} {H:PL}:TH w m x b o F H→∀ q∈H,∃ v0 v1 v2 v3 v4,ICells m q.2.cells [v0,v1,v2,v3,v4]∧At5 w q.1.1 q.1.2 v0 v1 v2 v3 v4
 | .fresh h1 h2,q,hq=>by simp at hq;subst hq;exact⟨_,_,_,_,_,h1,h2⟩
 | .leaf _ _ _ _,q,hq=>by simp at hq
 | .node _ _ _ _ _ h6 _ _,q,hq=>THL.hole h6 q hq
theorem THL.hole {w:World} {m:Mem} {xs:List Pn} {b o:Nat} {F:List Nat} {H:PL}:THL w m xs b o F H→∀ q∈H,∃ v0 v1 v2 v3 v4,ICells m q.2.cells [v0,v1,v2,v3,v4]∧At5 w q.1.1 q.1.2 v0 v1 v2 v3 v4
 | .nil _ _,q,hq=>by simp at hq
 | .cons h1 h2,q,hq=>by
  rcases zV.1 hq with h|h
  ·exact TH.hole h1 q h
  ·exact THL.hole h2 q h
end
theorem AA8 {m:Mem} {φ:Pl}:∀ {cs:List IV} {vs:List Value},ICells m cs vs→RepC m φ (jW cs) vs
 | [],_, .nil=>.nil
 | c::cs,_, .cons a o b=>.cons (.i a) o (AA8 b)
section
variable {wi:World} {mi:Mem} {nt:Nat}
def jH (pre:List Value) (row:List AV) (post:List Value):List AV:=bI pre++(row++bI post)
theorem GR.adopt {ok:Nat→Prop} {root:Nat} {p:Pn} {F:List Nat} {H:PL} {env:Nat→AV} {st:Store} {a:Act} {w:World} {u bq oq:Nat} {y:Pn} (h:GR wi mi nt ok (RAW wi root p F H) env st a w) (hst:st 2=none) (hok:¬ ok 2) (hq:((bq,oq),y)∈H) (hu:env u=.i (.lit (.pointer (some ⟨bq,oq,none⟩)))) :
 ∃ pre post us ma,us.take oq=pre∧us.drop (oq+5)=post∧pre.length=oq∧us.length=oq+5+post.length∧(∀ v∈us,v.oneCell'=true) ∧
   GR wi mi nt (fun id=>ok id∨id=2) (ADP wi root p F H bq us w ma) (upd env u (.own 2 oq)) (upd st 2 (some (.box (jH pre (jW y.cells) post)))) a w:=by
 obtain⟨⟨m,φ,hi,henv,hadv,hk,hr⟩,h6,h7⟩:=h;obtain⟨v0,v1,v2,v3,v4,hc,h5⟩:=hr.th.hole _ hq;simp only at hc h5
 have hinF:bq∈root::F:=by
  rcases hr.th.holes _ hq with e|e
  ·simp at e;simp[e]
  ·simp at e;simp[e]
 obtain⟨k1,k2,k3,k4,us,T,k5,k6⟩:=hr.all bq hinF;have gc:∀ {o:Nat} {v:Value},w.cell? ⟨bq,o,none⟩=some v→us[o]?=some v:=fun h=>by rwa [aY k5]at h
 have hrow:=IK (gc h5.c0) (gc h5.c1) (gc h5.c2) (gc h5.c3) (gc h5.c4);have hl4:=(zY.1 (gc h5.c4)).1;refine⟨us.take oq,us.drop (oq+5),us,m,rfl,rfl,by rw[yF];omega,by rw[xD];omega,k6,?_⟩
 have hφ2:φ 2=none:=by
  cases e:φ 2 with
  | none=>rfl
  | some q=>exact absurd (hk 2 (by rw[e];simp)) hok
 have hrep:RepC m (upd φ 2 (some (bq,one bq us.length))) (jH (us.take oq) (jW y.cells) (us.drop (oq+5))) us:=by
  have h1:=o7 (m:=m) (φ:=upd φ 2 (some (bq,one bq us.length))) (vs:=us.take oq) fun v hv=>k6 v (z8 hv)
  have h2:=o7 (m:=m) (φ:=upd φ 2 (some (bq,one bq us.length))) (vs:=us.drop (oq+5)) fun v hv=>k6 v (yG hv)
  have h3:=K3 h1 (K3 (AA8 hc) h2);rw[← hrow]at h3;exact h3
 have hp:PLe φ (upd φ 2 (some (bq,one bq us.length))):=fun i r n e=>by
  refine⟨n,?_,rfl,fun _ h=>h⟩;have:i≠2:=fun h=>by rw[h,hφ2]at e;cases e
  simp[upd,this,e]
 refine⟨⟨m,upd φ 2 (some (bq,one bq us.length)),hi.adopt hst hφ2 k3 k4 k5 hrep,fun t=>?_,hadv.adopt k1,fun id hid=>?_,?_⟩,h6,h7⟩
 ·by_cases ht:t=u
  ·subst ht;have:=henv t;rw[hu]at this;simp only[upd,if_true];rw[this.bX];exact .own (n:=one bq us.length) (by simp[upd])
  ·simp only[upd,ht,if_false];exact(henv t).mono (.refl _) hp
 ·by_cases e:id=2
  ·exact .inr e
  ·simp[upd,e]at hid;exact .inl (hk id hid)
 ·refine⟨hr.th,hr.nr,hr.nd, .refl _,hinF,⟨one bq us.length,by simp[upd]⟩,⟨T,k5⟩,k1,fun f hf hne=>?_⟩;obtain⟨q1,q2,q3,q4,q5⟩:=hr.all f hf;refine⟨q1,q2,fun i r n e ho=>?_,q4,rfl,q5⟩;by_cases e2:i=2
  ·subst e2;simp[upd]at e;obtain⟨rfl,rfl⟩:=e;exact hne ho
  ·simp[upd,e2]at e;exact q3 i r n e ho
def slA (n id k:Nat):AV:=if n=0 then .nils else .osl id k 0 n
def nH (b:Nat):Nat→List Pn→PL
 | _,[]=>[]
 | o,x::l=>((b,o),x)::nH b (o+5) l
theorem Inv.AZO {w:World} {m:Mem} {φ:Pl} {st:Store} {id b:Nat} {n:Ext} {blk blk':Blk} (hi:Inv w m φ st) (h:st id=some blk) (e:φ id=some (b,n)) (hb:BlkOk w m φ b n blk'):Inv w m φ (upd st id (some blk')):=by
 refine⟨hi.mem,?_,?_,hi.low⟩
 ·intro i bl hbl;by_cases hid:i=id
  ·subst hid;simp[upd]at hbl;subst hbl;exact⟨b,n,e,(bZ hi e h).1,hb⟩
  ·simp[upd,hid]at hbl;exact hi.live i bl hbl
 ·intro i j r r' n1 n2 b1 b2 f e1 e2 p1 p2 o1 o2
  have g:∀ i b1,upd st id (some blk') i=some b1→∃ b2,st i=some b2:=fun i b1 h1=>by
   by_cases hid:i=id
   ·subst hid;exact⟨blk,h⟩
   ·simp[upd,hid]at h1;exact⟨b1,h1⟩
  obtain⟨x1,y1⟩:=g i b1 e1;obtain⟨x2,y2⟩:=g j b2 e2;exact hi.inj i j r r' n1 n2 x1 x2 f y1 y2 p1 p2 o1 o2
theorem O6 {w:World} {m:Mem} {b:Nat}:∀ {ks:List Pn} {o:Nat} {vs:List Value},ICells m (Pn.aB ks).flatten vs→(∀ j v,vs[j]?=some v→w.cell? ⟨b,o+j,none⟩=some v)→THL w m ks b o [] (nH b o ks)
 | [],o,_,_,_=>.nil b o
 | k::ks,o,vs,h,hw=>by
  simp only[Pn.aB,yZ]at h;have h1:=h.take 5;have h2:=h.drop 5;rw[zE4 (Pn.cK k)]at h1;rw[zA2 (Pn.cK k)]at h2;have hl:=h1.length;rw[Pn.cK]at hl;have hlen:5≤vs.length:=by rw[yF]at hl;omega
  have hf:THL w m (k::ks) b o ([]++[]) ([((b,o),k)]++nH b (o+5) ks):=by
   refine .cons ?_ (O6 h2 fun j v hj=>?_)
   ·have e:vs.take 5=[vs[0],vs[1],vs[2],vs[3],vs[4]]:=by
     apply List.ext_getElem (by simp;omega);intro i l1 l2;simp at l1 l2
     rcases i with _|_|_|_|_|i
     ·simp
     ·simp
     ·simp
     ·simp
     ·simp
     ·omega
    rw[e]at h1;exact .fresh h1 ⟨hw 0 _ (by simp),hw 1 _ (by simp),hw 2 _ (by simp),hw 3 _ (by simp),hw 4 _ (by simp)⟩
   ·rw[yI]at hj;have:=hw (5+j) v hj
    rwa [← Nat.add_assoc]at this
  exact hf
theorem TCells.rows {w:World}:∀ {cs:List IV} {vs:List Value} {F:List Nat},TCells w cs vs F→∀ f∈F,∃ (us:List Value) (T:TypeId),w.heap[f]?=some (.cells us.toArray T (0,0))∧∀ v∈us,v.oneCell'=true
 | _,_,_, .nil,f,hf=>by simp at hf
 | _,_,_, .lit _ r,f,hf=>r.rows f hf
 | _,_,_, .isl0 _ r,f,hf=>r.rows f hf
 | _,_,_, .isl _ ⟨T,h1,h2⟩ _ _ _ _ g r,f,hf=>by
  rw[yX,zS,zV]at hf
  rcases hf with e|e|e
  ·rw[e];exact⟨_,T,h1,h2⟩
  ·exact g.rows f e
  ·exact r.rows f e
theorem V5:∀ l:List Ex,kL (Ex.aB l)=true
 | []=>rfl
 | e::l=>by simp only[Ex.aB,kL,V5 l,zD7];rw[Ex.aA];rfl
theorem F6:∀ l:List Int,fO (aD l)=true
 | []=>rfl
 | n::l=>by simp only[aD,fO,F6 l,zD7];rfl
theorem AkJ {st:Store} {es:List Ex} {cs:List Int} {idE idC:Nat} (hE:es.length≠0→st idE=some (.tre 5 (Ex.aB es))) (hC:cs.length≠0→st idC=some (.arr 1 (aD cs))) (hne:idE≠idC) :
 ∃ st2,wG st [slA es.length idE 5,slA cs.length idC 1]=some ([.isl (Ex.aB es), .isl (aD cs)],st2)∧∀ i,i≠idE→i≠idC→st2 i=st i:=by
 have hp:=V5 es;have hb:=F6 cs;have tE:(Ex.aB es).take es.length=Ex.aB es:=zZ (by simp);have tC:(aD cs).take cs.length=aD cs:=zZ (by simp);by_cases h1:es.length=0<;>by_cases h2:cs.length=0
 ·have:=zW.1 h1;have:=zW.1 h2;subst es;subst cs;exact⟨st,by simp[slA,wG,EA,bnd,Ex.aB,aD],fun _ _ _=>rfl⟩
 ·have:=zW.1 h1;subst es;refine⟨upd st idC none,by simp[slA,wG,EA,bnd,Ex.aB,h2,hC h2,vX,tst,hb,window,tC],fun i _ h=>by simp[upd,h]⟩
 ·have:=zW.1 h2;subst cs;refine⟨upd st idE none,by simp[slA,wG,EA,bnd,aD,h1,hE h1,vX,tst,hp,window,tE],fun i h _=>by simp[upd,h]⟩
 ·have hC':upd st idE none idC=some (.arr 1 (aD cs)):=by simp[upd,Ne.symm hne,hC h2]
  refine⟨upd (upd st idE none) idC none,by simp[slA,wG,EA,bnd,h1,h2,hE h1,hC',vX,tst,hp,hb,window,tE,tC],fun i h h'=>by simp[upd,h,h']⟩
theorem GR.AZN {ok:Nat→Prop} {root:Nat} {p:Pn} {F:List Nat} {H:PL} {env env':Nat→AV} {st st':Store} {a:Act} {w wa:World} {ma:Mem} {u bq oq idE idC idK:Nat} {pre post us:List Value} {k t:Int} {es:List Ex} {cs:List Int} {ks:List Pn}
 (h:GR wi mi nt ok (ADP wi root p F H bq us wa ma) env st a w) (h1:us.take oq=pre) (h2:us.drop (oq+5)=post) (h3:pre.length=oq) (h4:us.length=oq+5+post.length)
 (hq:((bq,oq),Pn.mk k t es cs ks)∈H) (hbox:st 2=some (.box (jH pre [.int k, .int t,slA es.length idE 5,slA cs.length idC 1,slA ks.length idK 5] post)))
 (hE:es.length≠0→st idE=some (.tre 5 (Ex.aB es))) (hC:cs.length≠0→st idC=some (.arr 1 (aD cs))) (hK:ks.length≠0→st idK=some (.arr 5 (Pn.aB ks)))
 (hd:2<idE∧2<idC∧2<idK∧idE≠idC∧idE≠idK∧idC≠idK)
 (hst:∀ i blk,st' i=some blk→i<2∧st i=some blk∧gT blk) (he:∀ t,env' t=.junk∨(env' t=env t∧(env t=.own 2 oq∨kD st' (env t)))) :
 ∃ F' H' us' b' cap vE vC m2,(((bq,oq),Pn.mk k t es cs ks)::H').Perm (H++nH b' 0 ks)∧us'=pre++([.int .i64 k, .int .i64 t,vE,vC,if ks.length=0 then .slice none 0 0 else .slice (some ⟨b',0,none⟩) ks.length cap]++post)∧(∀ v∈us',v.oneCell'=true)∧(∀ q∈H,q.1.1≠b') ∧
   GR wi mi nt (fun id=>id≤2) (ADP wi root p F' H' bq us' w m2) env' (upd st' 2 (some (.box (bI us')))) a w:=by
 obtain⟨⟨m,φ,hi,henv,hadv,hk,hr⟩,h6,h7⟩:=h;obtain⟨n2,e2⟩:=hr.own;obtain⟨hb2,hok2⟩:=bZ hi e2 hbox;obtain⟨d1,d2,d3,d4,d5,d6⟩:=hd
 cases hok2 with
 | @box T _ vs hh hl hrc hm =>
  have hone:=hrc.one;obtain⟨vp,x,rfl,r1,r2⟩:=jL hrc;obtain⟨vr,vq,rfl,r3,r4⟩:=jL r2;obtain rfl:=(lS r1).symm;obtain rfl:=(lS r4).symm
  cases r3 with
  | cons a0 o0 r3 =>
  cases r3 with
  | cons a1 o1 r3 =>
  cases r3 with
  | @cons _ vE _ _ aE oE r3 =>
  cases r3 with
  | @cons _ vC _ _ aC oC r3 =>
  cases r3 with
  | @cons _ vK _ _ aK oK r3 =>
  cases r3
  obtain rfl:=a0.bX;obtain rfl:=a1.bX;obtain⟨st2,ha2,s2⟩:=AkJ hE hC d4;obtain⟨FO,O,ab⟩:=nV hi (.cons aE oE (.cons aC oC .nil)) ha2;obtain⟨FE,FC,hFO,tE,tC⟩:=ab.cells.split 1
  have hfree:∀ f∈FE++FC,wi.heap.size≤f∧f<w.heap.size∧(∀ o,m f o=none)∧(∃ (vs:List Value) (T:TypeId),w.heap[f]?=some (.cells vs.toArray T (0,0))∧∀ v∈vs,v.oneCell'=true)∧O f:=by
   intro f hf;rw[← hFO]at hf;obtain⟨y1,y2,id,b,n,blk,y3,y4,y5⟩:=ab.free f (ab.own f hf);exact⟨D5 hadv y4 y5,y2,y1,ab.cells.rows f hf,ab.own f hf⟩
  have hsub:∀ i blk,st2 i=some blk→st i=some blk:=fun i blk e=>(ab.less i blk e).1
  have i2:Inv w m φ st2:=hi.forget hsub;have hA:=hadv;have hm2:∀ o,m bq o=none:=hm;have hlit:BlkOk w m φ bq n2 (.box (bI (pre++([.int .i64 k, .int .i64 t,vE,vC,vK]++post)))):=.box hh hl (o7 hone) hm2;have i3:=i2.AZO (by rw[s2 2 (by omega) (by omega)];exact hbox) e2 hlit;generalize hus:pre++([.int .i64 k, .int .i64 t,vE,vC,vK]++post)=us' at hh hl hone hlit i3
  have hst2:∀ i blk,upd st' 2 (some (.box (bI us'))) i=some blk→upd st2 2 (some (.box (bI us'))) i=some blk∧gT blk:=by
   intro i blk hb;by_cases hid:i=2
   ·subst hid;simp[upd]at hb ⊢;refine⟨hb,?_⟩;subst hb;intro c hc;obtain⟨v,_,rfl⟩:=yK.1 hc;exact .inl ⟨v,rfl⟩
   ·simp[upd,hid]at hb ⊢;obtain⟨q1,q2,q3⟩:=hst i blk hb;exact⟨by rw[s2 i (by omega) (by omega)];exact q2,q3⟩
  have i4:=i3.cut hst2
  have hat:At5 w bq oq (.int .i64 k) (.int .i64 t) vE vC vK:=by
   have g:∀ (j:Nat) (v:Value),[Value.int .i64 k, .int .i64 t,vE,vC,vK][j]?=some v→w.cell? ⟨bq,oq+j,none⟩=some v:=by
    intro j v hj;have hj5:=(zY.1 hj).1;rw[aY hh,← hus,zI (by omega),h3,xZ,zK hj5];exact hj
   exact⟨g 0 _ rfl,g 1 _ rfl,g 2 _ rfl,g 3 _ rfl,g 4 _ rfl⟩
  have hHlt:∀ q∈H,q.1.1∈root::F:=fun q hq=>by
   rcases hr.th.holes q hq with e|e
   ·simp[e]
   ·simp[e]
  have hlt:∀ f∈root::F,f<w.heap.size:=fun f hf=>by
   by_cases hne:f=bq
   ·subst hne;exact(zL.1 hh).1
   ·exact(hr.oth f hf hne).2.1
  have hmon:=hr.le;have h22:=s2 2 (by omega) (by omega)
  have hG0:∀ f∈FE++FC,wi.heap.size≤f∧f<w.heap.size∧gK (pG (upd st' 2 (some (.box (bI us')))) φ) f∧(∀ o,m f o=none)∧(∃ (vs:List Value) (T:TypeId),w.heap[f]?=some (.cells vs.toArray T (0,0))∧∀ v∈vs,v.oneCell'=true)∧f≠bq∧f ∉ root::F:=by
   intro f hf;obtain⟨y1,y2,y3,y4,y5⟩:=hfree f hf;have hfb:f≠bq:=fun e=>(ab.less 2 _ (h22.trans hbox)).2 _ _ e2 bq hb2.1 (e ▸ y5)
   refine⟨y1,y2,fun id r n e ho=>?_,y3,y4,hfb,fun hm'=>?_⟩
   ·obtain⟨z1,z2⟩:=dA e;by_cases hid:id=2
    ·subst hid;exact(ab.less 2 _ (h22.trans hbox)).2 _ _ z1 f ho y5
    ·simp[upd,hid]at z2
     cases hx:st' id with
     | none=>exact z2 hx
     | some blk =>
      obtain⟨u1,u2,_⟩:=hst id blk hx;exact(ab.less id blk ((s2 id (by omega) (by omega)).trans u2)).2 _ _ z1 f ho y5
   ·obtain⟨_,_,id,b,n,blk,x3,x4,x5⟩:=ab.free f y5;exact(hr.oth f hm' hfb).2.2.1 id b n x4 x5
  have hnd0:(FE++FC).Nodup:=hFO ▸ ab.nodup;have kE:KCells w [.isl (Ex.aB es)] [vE] FE:=by simpa using tE.toK
  have kC:KCells w [.isl (aD cs)] [vC] FC:=by simpa using tC.toK
  have hnil:(es=[]→vE=.slice none 0 0)∧(cs=[]→vC=.slice none 0 0):=by
   refine⟨fun h=>?_,fun h=>?_⟩
   ·subst h;simp only[slA,yT,if_true]at aE;cases aE;rfl
   ·subst h;simp only[slA,yT,if_true]at aC;cases aC;rfl
  obtain⟨b',cap,G,hvK,hTH,hG,hGn,hbn⟩:∃ b' cap G,vK=(if ks.length=0 then Value.slice none 0 0 else Value.slice (some ⟨b',0,none⟩) ks.length cap)∧TH w m (.mk k t es cs ks) bq oq G (nH b' 0 ks) ∧
   (∀ f∈G,wi.heap.size≤f∧f<w.heap.size∧gK (pG (upd st' 2 (some (.box (bI us')))) φ) f∧(∀ o,m f o=none)∧(∃ (vs:List Value) (T:TypeId),w.heap[f]?=some (.cells vs.toArray T (0,0))∧∀ v∈vs,v.oneCell'=true)∧f≠bq∧f ∉ root::F)∧G.Nodup∧∀ q∈H,q.1.1≠b':=by
   by_cases h0:ks.length=0
   ·have hks:ks=[]:=zW.1 h0;subst hks;simp only[slA,yT,if_true]at aK
    cases aK
    exact⟨w.heap.size,0,FE++FC,rfl, .leaf hat kE kC hnil,hG0,hnd0,fun q hq e=>by have:=hlt _ (hHlt q hq);omega⟩
   ·simp only[slA,h0,if_false]at aK
    cases aK with
    | @osl _ _ _ _ cap b' nK ao eK l1 l2 l3 l4 =>
     have hao:=l3 (by omega);subst hao;have hK2:st2 idK=some (.arr 5 (Pn.aB ks)):=by rw[s2 idK (by omega) (by omega)];exact hK h0
     obtain⟨hbK,hokK⟩:=bZ i2 eK hK2
     cases hokK with
     | @arr TK _ _ vk q1 q2 q3 q4 q5 q6 q7 q8 q9 =>
      have hb'q:b'≠bq:=fun e=>by
       subst e;have:=hi.inj idK 2 b' b' nK n2 _ _ b' (hK h0) hbox eK e2 hbK.1 hb2.1;omega
      have hnF:b' ∉ root::F:=fun hm=>by
       exact(hr.oth b' hm hb'q).2.2.1 idK b' nK eK hbK.1
      have hb0:b' ∉ FE++FC:=fun hm'=>(ab.less idK _ hK2).2 _ _ eK b' hbK.1 (hfree b' hm').2.2.2.2
      refine⟨b',cap,FE++FC++(b'::[]),by simp[h0],?_,?_,?_,fun q hq e=>hnF (e ▸ hHlt q hq)⟩
      ·refine .node hat kE kC (fun e=>h0 (by rw[e];rfl)) (by omega) ?_ (by
        rw[aY q1];have:5*cap-1<vk.length:=by omega
        rw[zX this];rfl) hnil
       rw[Pn.bA]at q5
       exact O6 q5 fun j v hj=>by
        rw[zF,aY q1];rw[zD]at hj;split at hj
        ·exact hj
        ·cases hj
      rotate_left
      ·rw[zH];refine⟨hnd0,by simp,fun x hx y hy e=>?_⟩;simp at hy;subst hy;subst e;exact hb0 hx
      ·intro f hf
       rcases zV.1 hf with hf|hf
       ·exact hG0 f hf
       simp at hf;subst hf;refine⟨D5 hadv eK hbK.1,hbK.2 _ hbK.1,?_,q7,⟨vk,TK,q1,q9⟩,hb'q,hnF⟩;refine uP i3 hst2 (id:=idK) (blk:=.arr 5 (Pn.aB ks)) (by simp[upd,show idK≠2 by omega,hK2]) ?_ eK hbK.1;have:idK≠2:=by omega
       simp only[upd,this,if_false]
       cases hx:st' idK with
       | none=>rfl
       | some blk=>have:=(hst idK blk hx).1;omega
  obtain⟨T0,hrow0⟩:=hr.row
  have hsame:∀ f∈root::F,∀ j,(f≠bq∨j<oq∨oq+5≤j)→w.cell? ⟨f,j,none⟩=wa.cell? ⟨f,j,none⟩:=by
   intro f hf j hj;by_cases hne:f=bq
   ·subst hne;rw[aY hh,aY hrow0,← hus]
    rcases hj with hj|hj|hj
    ·exact absurd rfl hj
    ·rw[zK (by omega),← h1,zD];simp[hj]
    ·rw[zI (by omega),zI (by simp;omega),← h2,yI];simp only[zQ,yT,h3];congr 1;omega
   ·exact gV (hr.oth f hf hne).2.2.2.2.1 j
  obtain⟨F1,H1,k1,k2,k3⟩:=TH.fill hmon hTH hr.th hr.nr hr.nd hq hsame;have hF1:∀ f,f∈F1↔f∈F∨f∈G:=fun f=>by rw[k2.mem_iff,zV]
  refine⟨F1,H1,us',b',cap,vE,vC,m,k3,by rw[← hus,hvK],hone,hbn,⟨⟨m,pG (upd st' 2 (some (.box (bI us')))) φ,i4,fun x=>?_,hA.cut,fun id hid=>?_,?_⟩,h6,h7⟩⟩
  ·rcases he x with e|⟨e,e'|e'⟩
   ·rw[e];exact .junk _
   ·rw[e,e'];have hx:=henv x;rw[e']at hx;generalize a.tmps.getD x undef=yy at hx ⊢
    cases hx with
    | own e3=>exact .own (by rw[mR (by simp[upd])];exact e3)
   ·rw[e];refine kD.rep e' (fun i hi'=>?_) (henv x);refine mR ?_;by_cases hid:i=2
    ·subst hid;simp[upd]
    ·simpa [upd,hid]using hi'
  ·cases hx:pG (upd st' 2 (some (.box (bI us')))) φ id with
   | none=>exact absurd hx hid
   | some q =>
    have:=(dA hx).2;by_cases hid2:id=2
    ·omega
    ·simp[upd,hid2]at this
     cases hy:st' id with
     | none=>exact absurd hy this
     | some blk=>have:=(hst id blk hy).1;omega
  ·refine⟨k1,fun hm=>?_,?_, .refl _,?_,⟨n2,by rw[mR (by simp[upd])];exact e2⟩,⟨T,hh⟩,hr.bqn,fun f hf hne=>?_⟩
   ·rcases(hF1 root).1 hm with h|h
    ·exact hr.nr h
    ·exact(hG root h).2.2.2.2.2.2 (by simp)
   ·rw[k2.nodup_iff];exact zH.2 ⟨hr.nd,hGn,fun x hx y hy e=>(hG y hy).2.2.2.2.2.2 (by rw[← e];simp[hx])⟩
   ·rcases zS.1 hr.inF with e|e
    ·simp[e]
    ·simp[(hF1 bq).2 (.inl e)]
   ·have hf':f∈root::F∨f∈G:=by
     rcases zS.1 hf with e|e
     ·exact .inl (by simp[e])
     ·rcases(hF1 f).1 e with e|e
      ·exact .inl (by simp[e])
      ·exact .inr e
    rcases hf' with hf'|hf'
    ·obtain⟨q1,q2,q3,q4,q5,vs,T',q6,q7⟩:=hr.oth f hf' hne;refine⟨q1,q2,q3.cut,fun o=>?_,rfl,vs,T',by rw[q5];exact q6,q7⟩;exact q4 o
    ·obtain⟨q1,q2,q3,q4,q5,_⟩:=hG f hf';exact⟨q1,q2,q3,q4,rfl,q5⟩
theorem GR.AAD {ok:Nat→Prop} {root:Nat} {p:Pn} {F:List Nat} {H:PL} {env env':Nat→AV} {st st':Store} {a:Act} {w wa:World} {ma:Mem} {bq:Nat} {us:List Value}
 (h:GR wi mi nt ok (ADP wi root p F H bq us wa ma) env st a w) (hbox:st 2=some (.box (bI us)))
 (hst:∀ i blk,st' i=some blk→i≠2∧st i=some blk∧gT blk) (he:∀ t,env' t=.junk∨(env' t=env t∧kD st' (env t))) :
 GR wi mi nt (fun id=>st' id≠none) (RAW wi root p F H) env' st' a w:=by
 obtain⟨⟨m,φ,hi,henv,hadv,hk,hr⟩,h6,h7⟩:=h;obtain⟨n2,e2⟩:=hr.own;obtain⟨hb2,hok2⟩:=bZ hi e2 hbox;have hst2:∀ i blk,st' i=some blk→st i=some blk∧gT blk:=fun i blk hb=>(hst i blk hb).2
 cases hok2 with
 | @box T _ vs hh hl hrc hm =>
  have hone:=hrc.one;obtain rfl:=(lS hrc).symm;obtain⟨T0,hrow0⟩:=hr.row
  have hcell:∀ f∈root::F,∀ j,w.cell? ⟨f,j,none⟩=wa.cell? ⟨f,j,none⟩:=by
   intro f hf j;by_cases hne:f=bq
   ·subst hne;rw[aY hh,aY hrow0]
   ·exact gV (hr.oth f hf hne).2.2.2.2.1 j
  refine⟨⟨m,pG st' φ,hi.cut hst2,fun x=>?_,hadv.cut,fun id hid=>?_,?_⟩,h6,h7⟩
  ·rcases he x with e|⟨e,e'⟩
   ·rw[e];exact .junk _
   ·rw[e];exact e'.rep (fun i hi'=>mR hi') (henv x)
  ·cases hx:pG st' φ id with
   | none=>exact absurd hx hid
   | some q=>exact(dA hx).2
  ·refine⟨hr.th.frame hr.le (fun j _ _=>hcell root (by simp) j) (fun f hf j=>hcell f (by simp[hf]) j),hr.nr,hr.nd,fun f hf=>?_⟩;by_cases hne:f=bq
   ·subst hne;refine⟨hr.bqn,(zL.1 hh).1,?_,hm,us,T,hh,hone⟩;refine uP hi hst2 hbox ?_ e2 hb2.1
    cases hx:st' 2 with
    | none=>rfl
    | some blk=>exact absurd rfl (hst 2 blk hx).1
   ·obtain⟨q1,q2,q3,q4,q5,vs',T',q6,q7⟩:=hr.oth f hf hne;exact⟨q1,q2,q3.cut,q4,vs',T',by rw[q5];exact q6,q7⟩
end
theorem K4 {m:Mem} {φ:Pl}:∀ {cs:List IV} {vs:List Value},RepC m φ (jW cs) vs→ICells m cs vs
 | [],_, .nil=>.nil
 | c::cs,_, .cons a o b=>by
  cases a with
  | i a=>exact .cons a o (K4 b)
section
variable {wi:World} {mi:Mem} {nt:Nat}
theorem GR.AcU {ok:Nat→Prop} {R:World→Mem→Pl→Prop} {p:Pn} {env:Nat→AV} {st st':Store} {a:Act} {w:World} {u id:Nat} (h:GR wi mi nt ok R env st a w) (hu:env u=.own id 0) (hbox:st id=some (.box (jW p.cells)))
 (hst:∀ i blk,st' i=some blk→i≠id∧st i=some blk∧gT blk) :
 ∃ b3,∀ env',(∀ t,env' t=.junk∨(t=u∧env' t=.i (.lit (.pointer (some ⟨b3,0,none⟩))))∨(env' t=env t∧kD st' (env t)))→GR wi mi nt (fun i=>st' i≠none) (RAW wi b3 p [] [((b3,0),p)]) env' st' a w:=by
 obtain⟨⟨m,φ,hi,henv,hadv,hk,_⟩,h6,h7⟩:=h;have hr:=henv u;rw[hu]at hr;generalize hy:a.tmps.getD u undef=yy at hr
 cases hr with
 | @own _ _ b3 n3 e3 =>
  obtain⟨hb,hok⟩:=bZ hi e3 hbox;have hst2:∀ i blk,st' i=some blk→st i=some blk∧gT blk:=fun i blk hb=>(hst i blk hb).2
  cases hok with
  | @box T _ vs hh hl hrc hm =>
   have hc:=K4 hrc;have hlen:=hc.length;rw[Pn.cK]at hlen
   obtain⟨v0,v1,v2,v3,v4,rfl⟩:∃ v0 v1 v2 v3 v4,vs=[v0,v1,v2,v3,v4]:=by
    match vs,hlen with
    | [v0,v1,v2,v3,v4],_=>exact⟨v0,v1,v2,v3,v4,rfl⟩
   refine⟨b3,fun env' he=>⟨⟨m,pG st' φ,hi.cut hst2,fun t=>?_,hadv.cut,fun i hi'=>?_,?_⟩,h6,h7⟩⟩
   ·rcases he t with e|⟨rfl,e⟩|⟨e,e'⟩
    ·rw[e];exact .junk _
    ·rw[e,hy];exact .i (.lit _)
    ·rw[e];exact e'.rep (fun i hi'=>mR hi') (henv t)
   ·cases hx:pG st' φ i with
    | none=>exact absurd hx hi'
    | some q=>exact(dA hx).2
   ·refine⟨.fresh hc ⟨by rw[aY hh];rfl,by rw[aY hh];rfl,by rw[aY hh];rfl,by rw[aY hh];rfl,by rw[aY hh];rfl⟩,by simp,List.nodup_nil,fun f hf=>?_⟩;simp at hf;subst hf;refine⟨D5 hadv e3 hb.1,hb.2 _ hb.1,?_,hm,_,T,hh,hrc.one⟩;refine uP hi hst2 hbox ?_ e3 hb.1
    cases hx:st' id with
    | none=>rfl
    | some blk=>exact absurd rfl (hst id blk hx).1
theorem GR.fin {ok:Nat→Prop} {root:Nat} {p:Pn} {F:List Nat} {env:Nat→AV} {st:Store} {a:Act} {w:World} (h:GR wi mi nt ok (RAW wi root p F []) env st a w) (hst:∀ i blk,st i=some blk→gT blk) {u:Nat} (hu:env u=.i (.lit (.pointer (some ⟨root,0,none⟩)))) {env':Nat→AV} (he:∀ t,env' t=.junk∨(t=u∧env' t=.i (.iref p.cells))∨(env' t=env t∧kD st (env t))) :
 GR wi mi nt ok (fun _ _ _=>True) env' st a w:=by
 classical
 obtain⟨⟨m,φ,hi,henv,hadv,hk,hr⟩,h6,h7⟩:=h
 let m':Mem:=fun f o=>if f∈root::F then w.cell? ⟨f,o,none⟩else m f o
 have hin:∀ f,f∈root::F→∀ o,m' f o=w.cell? ⟨f,o,none⟩:=fun f hf o=>by show(if f∈root::F then _ else _)=_;rw[if_pos hf]
 have hout:∀ f,f ∉ root::F→∀ o,m' f o=m f o:=fun f hf o=>by show(if f∈root::F then _ else _)=_;rw[if_neg hf]
 have hle:MLe m m':=fun f o v e=>by
  by_cases hf:f∈root::F
  ·rw[(hr.all f hf).2.2.2.1 o]at e;cases e
  ·rw[hout f hf];exact e
 have hmem:kF w m':=fun f o v e=>by
  by_cases hf:f∈root::F
  ·rw[hin f hf]at e;exact e
  ·rw[hout f hf]at e;exact hi.mem f o v e
 have hat:IAt m' root 0 p.cells:=hr.th.iat hle (fun j _ _=>hin root (by simp) j) (fun f hf j=>hin f (by simp[hf]) j);refine⟨⟨m',φ,⟨hmem,fun i blk hb=>?_,hi.inj,hi.low⟩,fun t=>?_,⟨hadv.size,hadv.os,hadv.tape,hadv.output,hadv.block,hadv.mle.trans hle,fun f hf hfr o=>?_,hadv.ple,hadv.pnew⟩,hk,trivial⟩,h6,h7⟩
 ·obtain⟨b,n,q1,q2,q3⟩:=hi.live i blk hb;refine⟨b,n,q1,q2,q3.WF (hst i blk hb) rfl fun o ho=>?_⟩;rw[hout b (fun hf=>(hr.all b hf).2.2.1 i b n q1 q2.1)];exact ho
 ·rcases he t with e|⟨rfl,e⟩|⟨e,e'⟩
  ·rw[e];exact .junk _
  ·have hx:=henv t;rw[hu]at hx;rw[e,hx.bX];exact .i (.iref hat)
  ·rw[e];exact e'.rep (fun _ _=>rfl) (henv t)
 ·rw[hout f (fun hf'=>by have:=(hr.all f hf').1;omega)];exact hadv.mnew f hf hfr o
theorem RAW.keep {root:Nat} {p:Pn} {F:List Nat} {H:PL} {w:World} {m:Mem} {φ:Pl} (ids:List Nat) (h:RAW wi root p F H w m φ):RAW wi root p F H w m (eX ids φ):=by
 refine⟨h.th,h.nr,h.nd,fun f hf=>?_⟩;obtain⟨k1,k2,k3,k4,k5⟩:=h.all f hf;refine⟨k1,k2,fun id r n e=>?_,k4,k5⟩;unfold eX at e
 cases hx:ids[id]? with
 | none=>rw[hx]at e;cases e
 | some j=>rw[hx]at e;exact k3 j r n e
theorem GR.settle {ok:Nat→Prop} {R:World→Mem→Pl→Prop} (hR:∀ w m φ ids,R w m φ→R w m (eX ids φ)) {env:Nat→AV} {st:Store} {a:Act} {w:World} (G:List Nat) (h:GR wi mi nt ok R env st a w) :
 GR wi mi nt (fun id=>id<(Av.settle G 0 env st).st.length) R (aN (Av.settle G 0 env st).env) (aR (Av.settle G 0 env st).st) a w:=by
 obtain⟨⟨m,φ,hi,henv,hadv,hok,hK⟩,hsz,hdf⟩:=h;unfold Av.settle wZ;generalize hids:iO st 0 (DN env G)=ids;have hd:ids.Nodup:=by rw[← hids];exact gI _ _ _
 refine⟨⟨m,eX ids φ,hi.keep hd,?_,hadv.keep (fun id h=>absurd rfl h) (fun j hj=>absurd hj (xW j)),?_,hR _ _ _ ids hK⟩,hsz,hdf⟩
 ·intro t
  have key:∀ G:List Nat,Rep m (eX ids φ) (aN (mP (iH ids) env G) t) (a.tmps.getD t undef):=by
   intro G
   induction G with
   | nil=>exact .junk _
   | cons u G ih =>
    simp only[mP,aN];by_cases e:t=u
    ·subst e;simp only[if_true];exact(henv t).ren (lZ ids φ)
    ·simp only[e,if_false];exact ih
  exact key G
 ·intro id hne;simp only[gU];unfold eX at hne
  cases hx:ids[id]? with
  | none=>rw[hx]at hne;exact absurd rfl hne
  | some i=>exact(zY.1 hx).1
theorem GR.envTo {ok:Nat→Prop} {R:World→Mem→Pl→Prop} {env env':Nat→AV} {st:Store} {a:Act} {w:World} (h:GR wi mi nt ok R env st a w) (he:∀ t,env' t=.junk∨env' t=env t):GR wi mi nt ok R env' st a w:=by
 refine h.turn fun m φ h1 h2 h3 h4 h5=>⟨m,φ,h1,fun t=>?_,h3,h4,h5⟩
 rcases he t with e|e
 ·rw[e];exact .junk _
 ·rw[e];exact h2 t
theorem GR.ok' {ok ok':Nat→Prop} {R:World→Mem→Pl→Prop} {env:Nat→AV} {st:Store} {a:Act} {w:World} (h:GR wi mi nt ok R env st a w) (he:∀ id,ok id→ok' id):GR wi mi nt ok' R env st a w :=
 h.turn fun m φ h1 h2 h3 h4 h5=>⟨m,φ,h1,h2,h3,fun id hi=>he id (h4 id hi),h5⟩
theorem GR.AXB {C:Ctx} (hS:SoundOk C) {G:List Nat} {c:Code} {S:AS} {a:Act} {w:World} {R:World→Mem→Pl→Prop} (hR:AEO R) {PP:AExit→AS→Prop} (hc:codeOk nt c=true) (hx:∃ e S',dR C G S.st.length c S=some (e,S')∧PP e S') (h:GR wi mi nt (fun id=>id<S.st.length) R (aN S.env) (aR S.st) a w) (hnr:bJ c=true:=by rfl) :
 c.wp C.P (fun e' a' w'=>∃ e S',e'=iF e∧PP e S'∧GR wi mi nt (fun id=>id<S'.st.length) R (aN S'.env) (aR S'.st) a' w') a w:=by
 obtain⟨e,S',h1,h2⟩:=hx;refine wp_mono (GR.dW hS hR hc h1 h hnr) ?_;rintro e' a' w' ⟨rfl,hg⟩;exact⟨e,S',rfl,h2,hg⟩
end
@[simp] theorem GY (a:List Value):(bI a).length=a.length:=by simp[bI]
theorem V9 {α:Type}:∀ (a b:List α) (n:Nat),dropE (a.length+n) (a++b)=dropE n b
 | [],b,n=>by simp
 | x::a,b,n=>by
  rw[zQ,show a.length+1+n=(a.length+n)+1 by omega];exact V9 a b n
theorem NK {α:Type}:∀ (a b:List α) (n:Nat) (xs:List α),splice (a++b) (a.length+n) xs=bnd (splice b n xs) fun l=>some (a++l)
 | [],b,n,xs=>by simp;cases splice b n xs<;>rfl
 | x::a,b,n,xs=>by
  rw[zQ,show a.length+1+n=(a.length+n)+1 by omega];show bnd (splice (a++b) (a.length+n) xs) _=_;rw[NK a b n xs]
  cases splice b n xs<;>rfl
theorem QJ (pre post:List Value) (row:List AV) (j n:Nat):cut (jH pre row post) (pre.length+j) n=cut (row++bI post) j n:=by
 unfold cut jH;have:=V9 (bI pre) (row++bI post) j;rw[GY]at this;rw[this]
theorem nY (pre post:List Value) (row:List AV) (j:Nat) (xs:List AV):splice (jH pre row post) (pre.length+j) xs=bnd (splice (row++bI post) j xs) fun l=>some (bI pre++l):=by
 unfold jH;have:=NK (bI pre) (row++bI post) j xs;rw[GY]at this;exact this
theorem AQ (a:List Value):bC (bI a)=[]:=by
 induction a with
 | nil=>rfl
 | cons v a ih=>simpa [bI,bC,dK]using ih
theorem EN (r:Nat→Option Nat) (a:List Value):A7 r (bI a)=bI a:=by
 induction a with
 | nil=>rfl
 | cons v a ih=>simpa [bI,A7,ren]using ih
theorem AD1 (a b:List AV):bC (a++b)=bC a++bC b:=by
 induction a with
 | nil=>rfl
 | cons c a ih=>simp[bC,ih]
theorem ALB (r:Nat→Option Nat) (a b:List AV):A7 r (a++b)=A7 r a++A7 r b:=by
 induction a with
 | nil=>rfl
 | cons c a ih=>simp[A7,ih]
theorem bD (pre post:List Value) (row:List AV):bC (jH pre row post)=bC row:=by
 simp[jH,AD1,AQ]
theorem bV (r:Nat→Option Nat) (pre post:List Value) (row:List AV):A7 r (jH pre row post)=jH pre (A7 r row) post:=by
 simp[jH,ALB,EN]
section
variable (pre post:List Value) (a0 a1 a2 a3 a4 x:AV)
theorem Ab1:cut (jH pre [a0,a1,a2,a3,a4] post) (pre.length+2) 1=some [a2]:=by rw[QJ];rfl
theorem Ab0:cut (jH pre [a0,a1,a2,a3,a4] post) (pre.length+3) 1=some [a3]:=by rw[QJ];rfl
theorem AaZ:cut (jH pre [a0,a1,a2,a3,a4] post) (pre.length+4) 1=some [a4]:=by rw[QJ];rfl
theorem X5:splice (jH pre [a0,a1,a2,a3,a4] post) (pre.length+2) [x]=some (jH pre [a0,a1,x,a3,a4] post):=by rw[nY];rfl
theorem AL0:splice (jH pre [a0,a1,a2,a3,a4] post) (pre.length+3) [x]=some (jH pre [a0,a1,a2,x,a4] post):=by rw[nY];rfl
theorem TL:splice (jH pre [a0,a1,a2,a3,a4] post) (pre.length+4) [x]=some (jH pre [a0,a1,a2,a3,x] post):=by rw[nY];cases post<;>rfl
theorem APS:BZ 1 (dropE (pre.length+2) (jH pre [a0,a1,a2,a3,a4] post))=some [a2]:=Ab1 pre post a0 a1 a2 a3 a4
theorem AY4:BZ 1 (dropE (pre.length+3) (jH pre [a0,a1,a2,a3,a4] post))=some [a3]:=Ab0 pre post a0 a1 a2 a3 a4
theorem ABO:BZ 1 (dropE (pre.length+4) (jH pre [a0,a1,a2,a3,a4] post))=some [a4]:=AaZ pre post a0 a1 a2 a3 a4
end
mutual
theorem TH.AbM {w:World} {m m':Mem} (hm:MLe m m') {x:Pn} {b o:Nat} {F:List Nat} {H:PL}:TH w m x b o F H→(∀ j,o≤j→j<o+5→m' b j=w.cell? ⟨b,j,none⟩)→(∀ f∈F,∀ j,m' f j=w.cell? ⟨f,j,none⟩)→IAt m' b o x.cells
 | .fresh h1 h2,hb,hF=>by
  refine IAt.mk o (h1.mono hm) fun j v hj=>?_
  rcases j with _|_|_|_|_|j
  ·simp at hj;subst hj;exact(hb _ (by omega) (by omega)).trans h2.c0
  ·simp at hj;subst hj;exact(hb _ (by omega) (by omega)).trans h2.c1
  ·simp at hj;subst hj;exact(hb _ (by omega) (by omega)).trans h2.c2
  ·simp at hj;subst hj;exact(hb _ (by omega) (by omega)).trans h2.c3
  ·simp at hj;subst hj;exact(hb _ (by omega) (by omega)).trans h2.c4
  ·simp at hj
 | .leaf h1 h2 h3 h4,hb,hF=>by
  rw[Pn.dX];exact .cons ((hb _ (by omega) (by omega)).trans h1.c0) (.lit _) rfl (.cons ((hb _ (by omega) (by omega)).trans h1.c1) (.lit _) rfl (.cons ((hb _ (by omega) (by omega)).trans h1.c2) (h2.rep fun f hf=>hF f (by simp[hf])) h2.one (.cons ((hb _ (by omega) (by omega)).trans h1.c3) (h3.rep fun f hf=>hF f (by simp[hf])) h3.one (.cons ((hb _ (by omega) (by omega)).trans h1.c4) (.isl0 _ _ fun _=>rfl) rfl (.nil _ _)))))
 | .node h1 h2 h3 h4 h5 h6 h7 h8,hb,hF=>by
  rename_i ks b' cap vE vC FE FC F;rw[Pn.dX];have he:=THL.AaB hm h6 (fun j _ _=>hF b' (by simp) j) (fun f hf=>hF f (by simp[hf]));have hl:(Pn.aB ks).length=ks.length:=by simp
  have hn:Pn.aB ks≠[]:=fun e=>by rw[e]at hl;simp at hl;exact h4 (zW.1 hl.symm)
  have hk:IRep m' (.isl (Pn.aB ks)) (.slice (some ⟨b',0,none⟩) ks.length cap):=by
   have:=IRep.isl (cap:=cap) hn he (by omega)
   rwa [hl]at this
  exact .cons ((hb _ (by omega) (by omega)).trans h1.c0) (.lit _) rfl (.cons ((hb _ (by omega) (by omega)).trans h1.c1) (.lit _) rfl (.cons ((hb _ (by omega) (by omega)).trans h1.c2) (h2.rep fun f hf=>hF f (by simp[hf])) h2.one (.cons ((hb _ (by omega) (by omega)).trans h1.c3) (h3.rep fun f hf=>hF f (by simp[hf])) h3.one (.cons ((hb _ (by omega) (by omega)).trans h1.c4) hk rfl (.nil _ _)))))
theorem THL.AaB {w:World} {m m':Mem} (hm:MLe m m') {xs:List Pn} {b o:Nat} {F:List Nat} {H:PL}:THL w m xs b o F H→(∀ j,o≤j→j<o+5*xs.length→m' b j=w.cell? ⟨b,j,none⟩)→(∀ f∈F,∀ j,m' f j=w.cell? ⟨f,j,none⟩)→IElems m' b o 5 (Pn.aB xs)
 | .nil b o,hb,hF=>by simp only[Pn.aB];exact .nil b o 5
 | .cons h1 h2,hb,hF=>by
  simp only[Pn.aB];exact .cons (TH.AbM hm h1 (fun j l1 l2=>hb j l1 (by simp only[zQ];omega)) (fun f hf=>hF f (by simp[hf]))) (Pn.cK _) (THL.AaB hm h2 (fun j l1 l2=>hb j (by omega) (by simp only[zQ];omega)) (fun f hf=>hF f (by simp[hf])))
end
theorem THL.nth {w:World} {m:Mem} {b:Nat}:∀ {xs:List Pn} {o:Nat} {F:List Nat} {i:Nat} {x:Pn},THL w m xs b o F []→xs[i]?=some x →
 ∃ Fa Fi Fz,F=Fa++(Fi++Fz)∧TH w m x b (o+5*i) Fi []∧∀ {w':World} {m':Mem} {y:Pn} {G:List Nat} {HY:PL},MLe m m'→(∀ j,o≤j→j<o+5*xs.length→(j<o+5*i∨o+5*i+5≤j)→w'.cell? ⟨b,j,none⟩=w.cell? ⟨b,j,none⟩) →
   (∀ f∈Fa++Fz,∀ j,w'.cell? ⟨f,j,none⟩=w.cell? ⟨f,j,none⟩)→TH w' m' y b (o+5*i) G HY→THL w' m' (xs.set i y) b o (Fa++(G++Fz)) HY:=by
 intro xs
 induction xs with
 | nil=>intro o F i x _ h;simp at h
 | cons a xs ih =>
  intro o F i x h hx;generalize hH:([]:PL)=H at h
  cases h with
  | @cons _ _ _ _ F1 F2 H1 H2 h1 h2 =>
   obtain⟨rfl,rfl⟩:=zD2.1 hH.symm
   cases i with
   | zero =>
    simp at hx;subst hx;refine⟨[],F1,F2,by simp,by simpa using h1,fun {w' m' y G HY} hm hw hF hy=>?_⟩;have k2:=THL.frame hm (fun j l1 l2=>hw j (by omega) (by simp only[zQ];omega) (.inr (by omega))) (fun f hf=>hF f (by simp[hf])) h2;have:=THL.cons hy k2;simpa using this
   | succ i =>
    obtain⟨Fa,Fi,Fz,e,h3,h4⟩:=ih h2 (by simpa using hx);subst e;refine⟨F1++Fa,Fi,Fz,by simp,by rw[show o+5*(i+1)=o+5+5*i by omega];exact h3,fun {w' m' y G HY} hm hw hF hy=>?_⟩;rw[show o+5*(i+1)=o+5+5*i by omega]at hy;have k1:=TH.frame hm (fun j l1 l2=>hw j l1 (by simp only[zQ];omega) (.inl (by omega))) (fun f hf=>hF f (by simp[hf])) h1;have k2:=h4 hm (fun j l1 l2 l3=>hw j (by omega) (by simp only[zQ];omega) (by omega)) (fun f hf=>hF f (by rcases zV.1 hf with h|h<;>simp[h])) hy;have:=THL.cons k1 k2;simpa using this
theorem ALC {path:List Int} {x y z:Pn} {i:Nat} (h:Pn.at path x=some y):Pn.put (path++[(i:Int)]) x z=Pn.put path x (.mk y.kind y.table y.exprs y.cols (y.kids.set i z)):=by
 induction path generalizing x with
 | nil =>
  simp only[Pn.at,Option.some.injEq]at h;subst h
  cases hk:x.kids[i]? with
  | none =>
   have:x.kids.length≤i:=by simpa using hk
   simp[Pn.put,hk,List.set_eq_of_length_le this,Pn.eta]
  | some k=>simp[Pn.put,hk]
 | cons j path ih =>
  simp only[Pn.at]at h;split at h
  ·rename_i h0
   cases hk:x.kids[j.toNat]? with
   | none=>rw[hk]at h;cases h
   | some k =>
    rw[hk]at h;have:=ih h;simp[Pn.put,hk,this]
  ·cases h
structure AtP (w:World) (m:Mem) (x:Pn) (b o:Nat) (F:List Nat) (path:List Int) (y:Pn) (bq oq:Nat) (Fa Fy Fz:List Nat):Prop where
 eq:F=Fa++(Fy++Fz)
 inb:bq∈b::Fa
 nr:b ∉ F
 nd:F.Nodup
 is:Pn.at path x=some y
 th:TH w m y bq oq Fy []
 fill:∀ {w':World} {m':Mem} {y':Pn} {G:List Nat} {HY:PL},MLe m m'→(∀ f∈b::(Fa++Fz),∀ j,(f≠bq∨j<oq∨oq+5≤j)→w'.cell? ⟨f,j,none⟩=w.cell? ⟨f,j,none⟩)→TH w' m' y' bq oq G HY→TH w' m' (Pn.put path x y') b o (Fa++(G++Fz)) HY
theorem AtP.start {w:World} {m:Mem} {x:Pn} {b o:Nat} {F:List Nat} (h:TH w m x b o F []) (hr:b ∉ F) (hn:F.Nodup):AtP w m x b o F [] x b o [] F [] :=
 ⟨by simp,by simp,hr,hn,rfl,h,fun _ _ hy=>by simpa [Pn.put]using hy⟩
theorem AtP.mem {w:World} {m:Mem} {x:Pn} {b o:Nat} {F:List Nat} {path:List Int} {y:Pn} {bq oq:Nat} {Fa Fy Fz:List Nat} (h:AtP w m x b o F path y bq oq Fa Fy Fz):bq∈b::F:=by
 rw[h.eq]
 rcases zS.1 h.inb with e|e
 ·simp[e]
 ·simp[e]
theorem AtP.frame {w w':World} {m m':Mem} {x:Pn} {b o:Nat} {F:List Nat} {path:List Int} {y:Pn} {bq oq:Nat} {Fa Fy Fz:List Nat} (h:AtP w m x b o F path y bq oq Fa Fy Fz) (hm:MLe m m') (hF:∀ f∈b::F,∀ j,w'.cell? ⟨f,j,none⟩=w.cell? ⟨f,j,none⟩):AtP w' m' x b o F path y bq oq Fa Fy Fz:=by
 refine⟨h.eq,h.inb,h.nr,h.nd,h.is,h.th.frame hm (fun j _ _=>hF bq h.mem j) (fun f hf j=>hF f (by rw[h.eq];simp[hf]) j),fun hm' hw hy=>h.fill (hm.trans hm') (fun f hf j hj=>?_) hy⟩;rw[hw f hf j hj];refine hF f ?_ j;rw[h.eq]
 rcases zS.1 hf with e|e
 ·simp[e]
 ·rcases zV.1 e with e|e<;>simp[e]
theorem AtP.step {w:World} {m:Mem} {x:Pn} {b o:Nat} {F:List Nat} {path:List Int} {y z:Pn} {bq oq:Nat} {Fa Fy Fz:List Nat} {i:Nat} (h:AtP w m x b o F path y bq oq Fa Fy Fz) (hz:y.kids[i]?=some z) :
 ∃ b' cap,w.cell? ⟨bq,oq+4,none⟩=some (.slice (some ⟨b',0,none⟩) y.kids.length cap)∧y.kids.length≤cap∧∃ Fa' Fy' Fz',AtP w m x b o F (path++[(i:Int)]) z b' (5*i) Fa' Fy' Fz':=by
 have ht:=h.th;have hFq:=h.eq;generalize hH:([]:PL)=H at ht
 cases ht with
 | fresh=>cases hH
 | leaf h1 h2 h3 h4=>simp[Pn.kids]at hz
 | @node k t es cs ks _ _ b' cap vE vC FE FC F1 _ h1 h2 h3 h4 h5 h6 h7 h8 =>
  subst hH;have hz:ks[i]?=some z:=hz;obtain⟨Ga,Gi,Gz,e,t1,t2⟩:=h6.nth hz;subst e;have hnd:=h.nd;rw[hFq]at hnd;have hnr:=h.nr;rw[hFq]at hnr
  have hne:bq≠b':=by
   intro e
   rcases zS.1 h.inb with e'|e'
   ·exact hnr (by rw[← e',e];simp)
   ·rw[zH]at hnd;exact hnd.2.2 _ e' b' (by simp) e
  have hb1:FE++FC++(b'::(Ga++(Gi++Gz))++Fz) |>.Nodup:=by
   have hb:=(zH.1 hnd).2.1
   rwa [yY (FE++FC)]at hb
  have hdis:∀ f∈FE++FC,f≠b':=fun f hf=>(zH.1 hb1).2.2 f hf b' (by simp)
  have hb2:=(zH.1 hb1).2.1;simp only[yX,yU]at hb2;refine⟨b',cap,h1.c4,h5,Fa++(FE++FC++(b'::Ga)),Gi,Gz++Fz,by rw[hFq];simp,by simp,h.nr,h.nd,?_,by simpa using t1,fun {w' m' y' G HY} hm hw hy=>?_⟩
  ·rw[uU path x _ [(i:Int)] h.is];simp[Pn.at,Pn.kids,hz]
  ·rw[ALC h.is]
   have hK:THL w' m' (ks.set i y') b' 0 (Ga++(G++Gz)) HY:=by
    refine t2 hm (fun j _ _ hj=>hw b' (by simp) j (.inr (by omega))) (fun f hf j=>hw f (by rcases zV.1 hf with e|e<;>simp[e]) j (.inl ?_)) (by simpa using hy);intro e;subst e;exact hb2.1 (by rcases zV.1 hf with e|e<;>simp[e])
   have hlen:(ks.set i y').length=ks.length:=by simp
   have hn:ks.set i y'≠[]:=fun e=>by rw[e]at hlen;simp at hlen;exact h4 (zW.1 hlen.symm)
   have hbq:bq∈b::((Fa++(FE++FC++(b'::Ga)))++(Gz++Fz)):=by
    rcases zS.1 h.inb with e'|e'
    ·simp[e']
    ·simp[e']
   have hA:=h1.frame (w':=w') (fun j l1 l2=>hw bq hbq j (.inl hne));rw[← hlen]at hA
   have hY:TH w' m' (.mk k t es cs (ks.set i y')) bq oq (FE++FC++(b'::(Ga++(G++Gz)))) HY :=
    .node hA (h2.frame fun f hf j=>hw f (by simp[hf]) j (.inl (hdis f (by simp[hf])))) (h3.frame fun f hf j=>hw f (by simp[hf]) j (.inl (hdis f (by simp[hf])))) hn (by rw[hlen];exact h5) hK (by
     by_cases hj:5*cap-1<5*i∨5*i+5≤5*cap-1
     ·rw[hw b' (by simp) _ (.inr hj)];exact h7
     ·obtain⟨d,hd,e⟩:∃ d,d<5∧5*cap-1=5*i+d:=⟨5*cap-1-5*i,by omega,by omega⟩
      rw[e];exact hy.at5 d hd) h8
   have:=h.fill hm (fun f hf j hj=>hw f (by
    rcases zS.1 hf with e|e
    ·simp[e]
    ·rcases zV.1 e with e|e<;>simp[e]) j (by
    by_cases e:f=b'
    ·subst e;exfalso
     rcases zS.1 hf with e|e
     ·exact hnr (by rw[← e];simp)
     ·rcases zV.1 e with e|e
      ·exact(zH.1 hnd).2.2 _ e f (by simp) rfl
      ·exact hb2.1 (by simp[e])
    ·exact .inl e)) hY
   simpa [Pn.kind,Pn.table,Pn.exprs,Pn.cols,Pn.kids]using this
def fB:Blk→Prop
 | .box cs=>∀ c∈cs,(∃ v,c=.i v)∨c=.nils
 | .loop _ _ _=>False
 | _=>True
theorem RepC.tree {m:Mem} {φ φ':Pl}:∀ {cs:List AV} {vs:List Value},(∀ c∈cs,(∃ v,c=.i v)∨c=.nils)→RepC m φ cs vs→RepC m φ' cs vs
 | [],_,_, .nil=>.nil
 | c::cs,_,h, .cons a o r=>by
  have hr:=RepC.tree (m:=m) (φ':=φ') (fun d hd=>h d (by simp[hd])) r
  rcases h c (by simp)with ⟨v,rfl⟩|rfl
  ·cases a with|i a=>exact .cons (.i a) o hr
  ·cases a;exact .cons .nils o hr
theorem BlkOk.tree {w:World} {m:Mem} {φ φ':Pl} {b:Nat} {n:Ext} {blk:Blk} (hl:fB blk) (h:BlkOk w m φ b n blk):BlkOk w m φ' b n blk:=by
 cases h with
 | box h1 h2 h3 h4=>exact .box h1 h2 (h3.tree hl) h4
 | arr h1 h2 h3 h4 h5 h6 h7 h8 h9=>exact .arr h1 h2 h3 h4 h5 h6 h7 h8 h9
 | frz h1 h2=>exact .frz h1 h2
 | fbox h1=>exact .fbox h1
 | tre h1 h2 h3 h4 h5 h6 h7 h8 h9 h10=>exact .tre h1 h2 h3 h4 h5 h6 h7 h8 h9 h10
 | loop=>cases hl
theorem Inv.AX9 {w:World} {m:Mem} {φ:Pl} {st st':Store} (hi:Inv w m φ st) (hst:∀ i blk,st' i=some blk→st i=some blk∧fB blk):Inv w m (pG st' φ) st':=by
 refine⟨hi.mem,?_,?_,fun i b n f e ho=>hi.low i b n f (dA e).1 ho⟩
 ·intro i blk hb;obtain⟨h1,h2⟩:=hst i blk hb;obtain⟨b,n,q1,q2,q3⟩:=hi.live i blk h1;exact⟨b,n,by rw[mR (by rw[hb];simp)];exact q1,q2,q3.tree h2⟩
 ·intro i j b bx n n2 b1 b2 f h1 h2 h3 h4 o1 o2;exact hi.inj i j b bx n n2 b1 b2 f (hst i b1 h1).1 (hst j b2 h2).1 (dA h3).1 (dA h4).1 o1 o2
theorem sG {w:World} {m:Mem} {φ:Pl} {st st':Store} {id b f:Nat} {n:Ext} {blk:Blk} (hi:Inv w m φ st) (hst:∀ i blk,st' i=some blk→st i=some blk) (hid:st id=some blk) (hn:st' id=none) (e:φ id=some (b,n)) (ho:n.own f):gK (pG st' φ) f:=by
 intro i r n' e' ho';obtain⟨h1,h2⟩:=dA e'
 cases hb:st' i with
 | none=>exact h2 hb
 | some blk' =>
  have:=hi.inj i id r b n' n blk' blk f (hst i blk' hb) hid h1 e ho' ho;rw[this,hn]at hb;cases hb
def iG (st':Store):AV→Prop
 | .i _=>True
 | .own id _=>st' id≠none
 | .osl id _ _ _=>st' id≠none
 | .nils=>True
 | _=>False
theorem iG.rep {m:Mem} {φ φ':Pl} {st':Store} {v:AV} {x:Value} (h:iG st' v) (he:∀ i,st' i≠none→φ' i=φ i) (hr:Rep m φ v x):Rep m φ' v x:=by
 unfold iG at h;split at h
 ·cases hr with|i k=>exact .i k
 ·cases hr with
  | own e=>exact .own (by rw[he _ h];exact e)
 ·cases hr with
  | osl e a b c d=>exact .osl (by rw[he _ h];exact e) a b c d
 ·cases hr;exact .nils
 ·cases h
theorem Inv.AS5 {w w':World} {m m':Mem} {φ:Pl} {st:Store} (hi:Inv w m φ st) (ha:Adv w m (fun _=>none) w' m' (fun _=>none)) (hm:kF w' m'):Inv w' m' φ st∧Adv w m φ w' m' φ:=by
 have hb:∀ f,f<w.heap.size→w'.heap[f]?=w.heap[f]?:=fun f hf=>ha.block f hf fun _ _ _ e=>by cases e
 have hn:∀ f,f<w.heap.size→∀ o,m' f o=m f o:=fun f hf=>ha.mnew f hf fun _ _ _ e=>by cases e
 refine⟨⟨hm,fun id blk e=>?_,hi.inj,fun id b n f e ho=>zJ (hi.low id b n f e ho) ha.size⟩,⟨ha.size,ha.os,ha.tape,ha.output,fun b hb' _=>hb b hb',ha.mle,fun b hb' _=>hn b hb', .refl _,fun _ _ _ _ e ho=>.inr (gK.not e ho)⟩⟩;obtain⟨b,n,k1,k2,k3⟩:=hi.live id blk e;exact⟨b,n,k1,⟨k2.1,fun f hf=>zJ (k2.2 f hf) ha.size⟩,k3.mono k2.1 (fun f hf=>hb f (k2.2 f hf)) ha.mle (.refl _) fun f hf=>hn f (k2.2 f hf)⟩
structure CPY (wi:World) (p:Pn) (F:List Nat) (v0 v1 v2 v3 v4:Value) (w:World) (m:Mem) (φ:Pl):Prop where
 th:∀ {w':World} {m':Mem} {b o:Nat},MLe m m'→(∀ f∈F,∀ j,w'.cell? ⟨f,j,none⟩=w.cell? ⟨f,j,none⟩)→At5 w' b o v0 v1 v2 v3 v4→TH w' m' p b o F []
 cells:∀ {m':Mem},MLe m m'→(∀ f∈F,∀ j,m' f j=w.cell? ⟨f,j,none⟩)→ICells m' p.cells [v0,v1,v2,v3,v4]
 nd:F.Nodup
 all:∀ f∈F,wi.heap.size≤f∧f<w.heap.size∧gK φ f∧(∀ o,m f o=none)∧∃ (vs:List Value) (T:TypeId),w.heap[f]?=some (.cells vs.toArray T (0,0))∧∀ v∈vs,v.oneCell'=true
 kc:KCells w p.cells [v0,v1,v2,v3,v4] F∧(p.exprs=[]→v2=.slice none 0 0)∧(p.cols=[]→v3=.slice none 0 0)∧(p.kids=[]→v4=.slice none 0 0)
theorem CPY.EK (wi:World) (p:Pn) (F:List Nat) (v0 v1 v2 v3 v4:Value):AEO (CPY wi p F v0 v1 v2 v3 v4):=by
 intro w m φ w' m' φ' ha h;have hs:∀ f∈F,w'.heap[f]?=w.heap[f]?:=fun f hf=>ha.block f (h.all f hf).2.1 (h.all f hf).2.2.1
 refine⟨fun hm hw h5=>h.th (ha.mle.trans hm) (fun f hf j=>(hw f hf j).trans (gV (hs f hf) j)) h5,fun hm hw=>h.cells (ha.mle.trans hm) fun f hf j=>(hw f hf j).trans (gV (hs f hf) j),h.nd,fun f hf=>?_,h.kc.1.frame fun f hf j=>gV (hs f hf) j,h.kc.2⟩;obtain⟨k1,k2,k3,k4,vs,T,k5,k6⟩:=h.all f hf;exact⟨k1,zJ k2 ha.size,ha.range k2 k3,fun o=>(ha.mnew f k2 k3 o).trans (k4 o),vs,T,by rw[hs f hf];exact k5,k6⟩
theorem TH.cells {w:World} {m:Mem} {x:Pn} {b o:Nat} {F:List Nat} (h:TH w m x b o F []):∃ v0 v1 v2 v3 v4,At5 w b o v0 v1 v2 v3 v4∧(∀ v∈[v0,v1,v2,v3,v4],v.oneCell'=true)∧(∃ ao cap,v4=.slice ao x.kids.length cap)∧(∀ {w':World} {m':Mem} {b' o':Nat},MLe m m'→(∀ f∈F,∀ j,w'.cell? ⟨f,j,none⟩=w.cell? ⟨f,j,none⟩)→At5 w' b' o' v0 v1 v2 v3 v4→TH w' m' x b' o' F []) ∧
 ∀ {m':Mem},MLe m m'→(∀ f∈F,∀ j,m' f j=w.cell? ⟨f,j,none⟩)→ICells m' x.cells [v0,v1,v2,v3,v4]:=by
 generalize hH:([]:PL)=H at h
 cases h with
 | fresh=>cases hH
 | leaf h1 h2 h3 h4 =>
  refine⟨_,_,_,_,_,h1,(by intro v hv;simp only[zS,List.not_mem_nil,or_false]at hv;rcases hv with rfl|rfl|rfl|rfl|rfl<;>first|rfl|exact h2.one|exact h3.one),⟨_,_,rfl⟩,fun hm hF h5=>.leaf h5 (h2.frame fun f hf=>hF f (by simp[hf])) (h3.frame fun f hf=>hF f (by simp[hf])) h4,fun hm hF=>?_⟩;rw[Pn.dX];exact .cons (.lit _) rfl (.cons (.lit _) rfl (.cons (h2.rep fun f hf=>hF f (by simp[hf])) h2.one (.cons (h3.rep fun f hf=>hF f (by simp[hf])) h3.one (.cons (.isl0 _ _ fun _=>rfl) rfl .nil))))
 | @node k t es cs ks _ _ b' cap vE vC FE FC F1 _ h1 h2 h3 h4 h5 h6 h7 h8 =>
  subst hH;refine⟨_,_,_,_,_,h1,(by intro v hv;simp only[zS,List.not_mem_nil,or_false]at hv;rcases hv with rfl|rfl|rfl|rfl|rfl<;>first|rfl|exact h2.one|exact h3.one),⟨_,_,rfl⟩,fun hm hF k5=>.node k5 (h2.frame fun f hf=>hF f (by simp[hf])) (h3.frame fun f hf=>hF f (by simp[hf])) h4 h5 (h6.frame hm (fun j _ _=>hF _ (by simp) j) fun f hf=>hF f (by simp[hf])) (by rw[hF _ (by simp)];exact h7) h8,fun hm hF=>?_⟩;rw[Pn.dX];have he:=THL.AaB hm h6 (fun j _ _=>hF b' (by simp) j) (fun f hf=>hF f (by simp[hf]));have hl:(Pn.aB ks).length=ks.length:=by simp
  have hn:Pn.aB ks≠[]:=fun e=>by rw[e]at hl;simp at hl;exact h4 (zW.1 hl.symm)
  have hk:=IRep.isl (cap:=cap) hn he (by omega);rw[hl]at hk;exact .cons (.lit _) rfl (.cons (.lit _) rfl (.cons (h2.rep fun f hf=>hF f (by simp[hf])) h2.one (.cons (h3.rep fun f hf=>hF f (by simp[hf])) h3.one (.cons hk rfl .nil))))
structure RAT (wi:World) (root:Nat) (p:Pn) (F:List Nat) (path:List Int) (y:Pn) (bq oq:Nat) (Fa Fy Fz:List Nat) (w:World) (m:Mem) (φ:Pl):Prop where
 raw:RAW wi root p F [] w m φ
 pos:AtP w m p root 0 F path y bq oq Fa Fy Fz
theorem RAT.EK (wi:World) (root:Nat) (p:Pn) (F:List Nat) (path:List Int) (y:Pn) (bq oq:Nat) (Fa Fy Fz:List Nat):AEO (RAT wi root p F path y bq oq Fa Fy Fz):=by
 intro w m φ w' m' φ' ha h;exact⟨RAW.EK wi root p F [] w m φ w' m' φ' ha h.raw,h.pos.frame ha.mle fun f hf j=>gV (ha.block f (h.raw.all f hf).2.1 (h.raw.all f hf).2.2.1) j⟩
structure ADK (wi:World) (root:Nat) (p:Pn) (F:List Nat) (path:List Int) (y:Pn) (bq oq:Nat) (Fa Fy Fz:List Nat) (k:Nat) (wa:World) (ma:Mem) (w:World) (m:Mem) (φ:Pl):Prop where
 pos:AtP wa ma p root 0 F path y bq oq Fa Fy Fz
 le:MLe ma m
 own:∃ n,φ k=some (bq,n)
 bqn:wi.heap.size≤bq
 oth:∀ f∈root::F,f≠bq→wi.heap.size≤f∧f<w.heap.size∧gK φ f∧(∀ o,m f o=none)∧w.heap[f]?=wa.heap[f]?∧∃ (vs:List Value) (T:TypeId),wa.heap[f]?=some (.cells vs.toArray T (0,0))∧∀ v∈vs,v.oneCell'=true
theorem ADK.EK (wi:World) (root:Nat) (p:Pn) (F:List Nat) (path:List Int) (y:Pn) (bq oq:Nat) (Fa Fy Fz:List Nat) (k:Nat) (wa:World) (ma:Mem):AEO (ADK wi root p F path y bq oq Fa Fy Fz k wa ma):=by
 intro w m φ w' m' φ' ha h;refine⟨h.pos,h.le.trans ha.mle,?_,h.bqn,fun f hf hne=>?_⟩
 ·obtain⟨n,e⟩:=h.own;obtain⟨n',e',_⟩:=ha.ple _ _ _ e;exact⟨n',e'⟩
 ·obtain⟨k1,k2,k3,k4,k5,k6⟩:=h.oth f hf hne;exact⟨k1,zJ k2 ha.size,ha.range k2 k3,fun o=>(ha.mnew f k2 k3 o).trans (k4 o),(ha.block f k2 k3).trans k5,k6⟩
def uZ (wi:World) (mi:Mem) (p:Pn) (e:Ending) (w:World):Prop :=
 ∃ v0 v1 v2 v3 v4 F m,e=.returned (.agg #[v0,v1,v2,v3,v4])∧(∀ v∈[v0,v1,v2,v3,v4],v.oneCell'=true)∧kF w m∧Adv wi mi (fun _=>none) w m (fun _=>none)∧CPY wi p F v0 v1 v2 v3 v4 w m (fun _=>none)
theorem uZ.tree {wi:World} {mi:Mem} {p:Pn} {e:Ending} {w:World} (h:uZ wi mi p e w):bF wi mi (fun _=>none) (.i (.agg p.cells)) [] e w:=by
 classical
 obtain⟨v0,v1,v2,v3,v4,F,m,rfl,hone,hm,ha,hc⟩:=h
 let m':Mem:=fun f o=>if f∈F then w.cell? ⟨f,o,none⟩else m f o
 have hin:∀ f,f∈F→∀ o,m' f o=w.cell? ⟨f,o,none⟩:=fun f hf o=>by show(if f∈F then _ else _)=_;rw[if_pos hf]
 have hout:∀ f,f ∉ F→∀ o,m' f o=m f o:=fun f hf o=>by show(if f∈F then _ else _)=_;rw[if_neg hf]
 have hle:MLe m m':=fun f o v e=>by
  by_cases hf:f∈F
  ·rw[(hc.all f hf).2.2.2.1 o]at e;cases e
  ·rw[hout f hf];exact e
 have hmem:kF w m':=fun f o v e=>by
  by_cases hf:f∈F
  ·rw[hin f hf]at e;exact e
  ·rw[hout f hf]at e;exact hm f o v e
 refine⟨_,m',fun _=>none,rfl, .i (.agg (hc.cells hle hin)),⟨hmem,fun id blk e=>by simp[aR]at e,fun id id' b b' n n' blk blk' f e=>by simp[aR]at e,fun _ _ _ _ e=>by cases e⟩,⟨ha.size,ha.os,ha.tape,ha.output,ha.block,ha.mle.trans hle,fun f hf hfr o=>?_, .refl _,fun _ _ _ _ e=>by cases e⟩,fun id h=>absurd rfl h⟩;rw[hout f (fun hf'=>by have:=(hc.all f hf').1;omega)];exact ha.mnew f hf hfr o
section
variable {C:Ctx} {wi:World} {mi:Mem} {nt:Nat}
theorem GR.ops (hS:SoundOk C) {ops:Array Oper} {Q:Exit→Act→World→Prop} {base:Nat} {js:List Nat} {R:World→Mem→Pl→Prop} (hR:AEO R) (hs:ops.all (iM nt)=true) {os:List Oper} {i:Nat} {R0 R1:RS} {a:Act} {w:World} (hl:∀ j,j<os.length→os[j]?=ops[i+j]?) (hx:dH C (aI C) ops.toList false base os i R0=some R1)
 (h:GR wi mi nt (GL base fun j=>j<i) R R0.env R0.st a w) (hQ:∀ a' w',GR wi mi nt (GL base fun j=>j<i+os.length) R R1.env R1.st a' w'→wpOpsIn (FR none) 0 C.P ops Q js a' w'):wpOpsIn (FR none) 0 C.P ops Q (List.range' i os.length++js) a w:=by
 obtain⟨⟨m,φ,h1,h2,h3,h4,h5⟩,h6,h7⟩:=h;refine iX hS.ctx (aS hS) (fun o ho=>yB.1 hs o ho) os i R0 R1 a w hl hx ⟨⟨m,φ,h1,h2, .refl _ _ _,h4, .nil _ _ _⟩,h6,h7⟩ fun a' w' k=>hQ a' w' ?_
 obtain⟨⟨m',φ',k1,k2,k3,k4,_⟩,k5,k6⟩:=k;exact⟨⟨m',φ',k1,k2,h3.trans k3,k4,hR _ _ _ _ _ _ k3 h5⟩,k5,k6⟩
theorem GR.AOJ (hS:SoundOk C) {ops:Array Oper} {Q:Exit→Act→World→Prop} {base:Nat} {js:List Nat} {R:World→Mem→Pl→Prop} (hR:AEO R) (i k:Nat) (hk:decide (i+k≤ops.toList.length)=true) (hs:ops.all (iM nt)=true) {R0 R1:RS} {a:Act} {w:World} (hx:dH C (aI C) ops.toList false base ((ops.toList.drop i).take k) i R0=some R1)
 (h:GR wi mi nt (GL base fun j=>j<i) R R0.env R0.st a w) (hQ:∀ a' w',GR wi mi nt (GL base fun j=>j<i+k) R R1.env R1.st a' w'→wpOpsIn (FR none) 0 C.P ops Q js a' w'):wpOpsIn (FR none) 0 C.P ops Q (List.range' i k++js) a w:=by
 have hk:=zR hk;have hl:((ops.toList.drop i).take k).length=k:=by rw[yF,xD];omega
 have:=GR.ops (js:=js) hS hR hs (os:=(ops.toList.drop i).take k) (i:=i) (fun j hj=>by
  rw[hl]at hj
  rw[zD,if_pos hj,yI,xX]) hx h (by rw[hl];exact hQ)
 rwa [hl]at this
theorem qA {P:Program} {ops:Array Oper} {Q:Exit→Act→World→Prop} {K:Act→World→Prop} {i d:Nat} {g:FuncId} {args:Array Operand} {ts:Array TypeId} {a:Act} {w:World} {fn:Func} {o:Oper} (ho:ops[i]?=some o) (hop:o.op=.call ⟨.value (.func g),args,ts⟩) (hd:o.dst=some d) (hg:o.guard=none)
 (hf:P.funcs[g]?=some fn) (hn:fn.name≠ "runtime.NumGoroutine") (hb:fn.body.isSome=true) {vs:List Value} (hargs:args.toList.map a.eval=vs) (hc:Calls P g vs.toArray w fun e w'=>∃ y,e=.returned y∧K (a.put (some d) y) w'):wpOpIn (FR none) 0 P ops Q i K a w:=by
 obtain⟨dst,op,ty,pos,after,guard⟩:=o;simp only at hop hd hg;subst hop hd hg;have hmap:args.map a.eval=vs.toArray:=by apply Array.ext';simp[hargs]
 rw[← hmap]at hc;unfold wpOpIn;rw[ho];simp only[Region.wanted,if_true];refine⟨fun _ _=>trivial,?_⟩;rw[Oper.semAt_eq _ _ _ (fun c e=>by cases e)];have hbody:fn.body≠none:=by intro h;rw[h]at hb;cases hb
 have hrun:(execOp a.eval ⟨some d, .call ⟨.value (.func g),args,ts⟩,ty,pos,after,none⟩).run P w=.ok (.enter g (args.map a.eval)) w:=by
  unfold execOp;simp[resolve,Deferred.ofValue,Act.eval,invoke,callFunc,hf,hn,hbody]
 rw[hrun];rw[Oper.uponIn_enter];refine⟨fun h=>(by cases h),QP (hc.mono ?_)⟩;rintro e w' ⟨y,rfl,k⟩;exact k
theorem GR.put {ok:Nat→Prop} {R:World→Mem→Pl→Prop} {env:Nat→AV} {st:Store} {a:Act} {w:World} {d:Nat} {x:AV} {v:Value} (hd:d<nt) (h:GR wi mi nt ok R env st a w) (hr:∀ m φ,R w m φ→Rep m φ x v):GR wi mi nt ok R (upd env d x) st (a.put (some d) v) w:=by
 obtain⟨⟨m,φ,hi,henv,hadv,hok,hK⟩,hsz,hdf⟩:=h;exact⟨⟨m,φ,hi,vM (dst:=some d) henv hsz (by simpa [Y7]using hd) (hr m φ hK),hadv,hok,hK⟩,by rw[nA];exact hsz,by rw[iL];exact hdf⟩
theorem GR.AbI {ok:Nat→Prop} {wx:World} {p:Pn} {F:List Nat} {v0 v1 v2 v3 v4:Value} {env:Nat→AV} {st st':Store} {a:Act} {w:World} {u id:Nat} (h:GR wi mi nt ok (CPY wx p F v0 v1 v2 v3 v4) env st a w) (hwx:wi.heap.size≤wx.heap.size) (hu:env u=.own id 0) (hbox:st id=some (.box (bI [v0,v1,v2,v3,v4])))
 (hst:∀ i blk,st' i=some blk→i≠id∧st i=some blk∧fB blk) :
 ∃ b3,∀ env',(∀ t,env' t=.junk∨(t=u∧env' t=.i (.lit (.pointer (some ⟨b3,0,none⟩))))∨(env' t=env t∧iG st' (env t)))→GR wi mi nt (fun i=>st' i≠none) (RAW wi b3 p F []) env' st' a w:=by
 obtain⟨⟨m,φ,hi,henv,hadv,hk,hc⟩,h6,h7⟩:=h;have hr:=henv u;rw[hu]at hr;generalize hy:a.tmps.getD u undef=yy at hr
 cases hr with
 | @own _ _ b3 n3 e3 =>
  obtain⟨hb,hok⟩:=bZ hi e3 hbox;have hst2:∀ i blk,st' i=some blk→st i=some blk∧fB blk:=fun i blk hb=>(hst i blk hb).2
  cases hok with
  | @box T _ vs hh hl hrc hm =>
   obtain rfl:=(lS hrc).symm;have hnF:b3 ∉ F:=fun hf=>(hc.all b3 hf).2.2.1 id b3 n3 e3 hb.1
   refine⟨b3,fun env' he=>⟨⟨m,pG st' φ,hi.AX9 hst2,fun t=>?_,hadv.cut,fun i hi'=>?_,?_⟩,h6,h7⟩⟩
   ·rcases he t with e|⟨rfl,e⟩|⟨e,e'⟩
    ·rw[e];exact .junk _
    ·rw[e,hy];exact .i (.lit _)
    ·rw[e];exact e'.rep (fun i hi'=>mR hi') (henv t)
   ·cases hx:pG st' φ i with
    | none=>exact absurd hx hi'
    | some q=>exact(dA hx).2
   ·refine⟨hc.th (.refl _) (fun _ _ _=>rfl) ⟨by rw[aY hh];rfl,by rw[aY hh];rfl,by rw[aY hh];rfl,by rw[aY hh];rfl,by rw[aY hh];rfl⟩,hnF,hc.nd,fun f hf=>?_⟩
    rcases zS.1 hf with rfl|hf
    ·refine⟨D5 hadv e3 hb.1,hb.2 _ hb.1,?_,hm,_,T,hh,hrc.one⟩;refine sG hi (fun i blk h=>(hst2 i blk h).1) hbox ?_ e3 hb.1
     cases hx:st' id with
     | none=>rfl
     | some blk=>exact absurd rfl (hst id blk hx).1
    ·obtain⟨q1,q2,q3,q4,q5⟩:=hc.all f hf;exact⟨Nat.le_trans hwx q1,q2,q3.cut,q4,q5⟩
theorem GR.APB {ok:Nat→Prop} {root:Nat} {p:Pn} {F:List Nat} {env:Nat→AV} {st:Store} {a:Act} {w:World} {u k:Nat} (h:GR wi mi nt ok (RAW wi root p F []) env st a w) (hu:env u=.i (.lit (.pointer (some ⟨root,0,none⟩)))) (hk:st k=none) (hok:¬ ok k) :
 ∃ v0 v1 v2 v3 v4 post,(∀ v∈[v0,v1,v2,v3,v4],v.oneCell'=true)∧∀ env',(∀ t,env' t=.junk∨(t=u∧env' t=.own k 0)∨env' t=env t) →
   GR wi mi nt (fun id=>ok id∨id=k) (CPY wi p F v0 v1 v2 v3 v4) env' (upd st k (some (.box (bI [v0,v1,v2,v3,v4]++bI post)))) a w:=by
 obtain⟨⟨m,φ,hi,henv,hadv,hid,hr⟩,h6,h7⟩:=h;obtain⟨k1,k2,k3,k4,us,T,k5,k6⟩:=hr.all root (by simp);obtain⟨v0,v1,v2,v3,v4,h5,_,_,hth,hce⟩:=hr.th.cells;obtain⟨_,_,_,_,_,g5,gk,gn⟩:=hr.th.kc fun f hf=>(hr.all f (by simp[hf])).2.2.2.2
 obtain⟨rfl,rfl,rfl,rfl,rfl⟩:=h5.uniq g5;have gc:∀ {o:Nat} {v:Value},w.cell? ⟨root,o,none⟩=some v→us[o]?=some v:=fun h=>by rwa [aY k5]at h
 have hrow:=IK (gc h5.c0) (gc h5.c1) (gc h5.c2) (gc h5.c3) (gc h5.c4);simp only[List.take_zero,yQ,zF]at hrow
 have hφk:φ k=none:=by
  cases e:φ k with
  | none=>rfl
  | some q=>exact absurd (hid k (by rw[e];simp)) hok
 refine⟨v0,v1,v2,v3,v4,us.drop 5,fun v hv=>k6 v (by rw[hrow];exact yJ _ hv),fun env' he=>?_⟩
 have hrep:RepC m (upd φ k (some (root,one root us.length))) (bI [v0,v1,v2,v3,v4]++bI (us.drop 5)) us:=by
  have h1:=o7 (m:=m) (φ:=upd φ k (some (root,one root us.length))) (vs:=us) k6
  have:bI us=bI [v0,v1,v2,v3,v4]++bI (us.drop 5):=by
   conv=>lhs;rw[hrow]
   simp[bI]
  rwa [this]at h1
 have hp:PLe φ (upd φ k (some (root,one root us.length))):=fun i r n e=>by
  refine⟨n,?_,rfl,fun _ h=>h⟩;have:i≠k:=fun h=>by rw[h,hφk]at e;cases e
  simp[upd,this,e]
 refine⟨⟨m,upd φ k (some (root,one root us.length)),hi.adopt hk hφk k3 k4 k5 hrep,fun t=>?_,hadv.adopt k1,fun id hne=>?_,?_⟩,h6,h7⟩
 ·rcases he t with e|⟨rfl,e⟩|e
  ·rw[e];exact .junk _
  ·have:=henv t;rw[hu]at this;rw[e,this.bX];exact .own (n:=one root us.length) (by simp[upd])
  ·rw[e];exact(henv t).mono (.refl _) hp
 ·by_cases e:id=k
  ·exact .inr e
  ·simp[upd,e]at hne;exact .inl (hid id hne)
 ·refine⟨hth,hce,hr.nd,fun f hf=>?_,gk,gn⟩;obtain⟨q1,q2,q3,q4,q5⟩:=hr.all f (by simp[hf]);refine⟨q1,q2,fun i r n e ho=>?_,q4,q5⟩;by_cases e2:i=k
  ·subst e2;simp[upd]at e;obtain⟨rfl,rfl⟩:=e;have:f=root:=ho;exact hr.nr (this ▸ hf)
  ·simp[upd,e2]at e;exact q3 i r n e ho
theorem GR.AXR {ok:Nat→Prop} {root:Nat} {p:Pn} {F:List Nat} {path:List Int} {y:Pn} {bq oq:Nat} {Fa Fy Fz:List Nat} {env:Nat→AV} {st st':Store} {a:Act} {w:World} {u k:Nat} (h:GR wi mi nt ok (RAT wi root p F path y bq oq Fa Fy Fz) env st a w) (hu:env u=.i (.lit (.pointer (some ⟨bq,oq,none⟩))))
 (hst:∀ i blk,st' i=some blk→st i=some blk∧fB blk) (hk:st' k=none) :
 ∃ pre row post ma,row.length=5∧pre.length=oq∧∀ env',(∀ t,env' t=.junk∨(t=u∧env' t=.own k oq)∨(env' t=env t∧iG st' (env t))) →
   GR wi mi nt (fun id=>st' id≠none∨id=k) (fun w' m' φ'=>ADK wi root p F path y bq oq Fa Fy Fz k w ma w' m' φ'∧(∃ T,w.heap[bq]?=some (.cells (pre++(row++post)).toArray T (0,0)))) env' (upd st' k (some (.box (jH pre (bI row) post)))) a w:=by
 obtain⟨⟨m,φ,hi,henv,hadv,hok,hr⟩,h6,h7⟩:=h;have hinF:=hr.pos.mem;obtain⟨k1,k2,k3,k4,us,T,k5,k6⟩:=hr.raw.all bq hinF;obtain⟨v0,v1,v2,v3,v4,h5,_,_,_,_⟩:=hr.pos.th.cells;have gc:∀ {o:Nat} {v:Value},w.cell? ⟨bq,o,none⟩=some v→us[o]?=some v:=fun h=>by rwa [aY k5]at h
 have hrow:=IK (gc h5.c0) (gc h5.c1) (gc h5.c2) (gc h5.c3) (gc h5.c4);have hl4:=(zY.1 (gc h5.c4)).1;have hi2:=hi.AX9 hst;have hφk:pG st' φ k=none:=by unfold pG;rw[hk]
 have hfr:gK (pG st' φ) bq:=k3.cut;refine⟨us.take oq,[v0,v1,v2,v3,v4],us.drop (oq+5),m,rfl,by rw[yF];omega,fun env' he=>?_⟩
 have hrep:RepC m (upd (pG st' φ) k (some (bq,one bq us.length))) (jH (us.take oq) (bI [v0,v1,v2,v3,v4]) (us.drop (oq+5))) us:=by
  have h1:=o7 (m:=m) (φ:=upd (pG st' φ) k (some (bq,one bq us.length))) (vs:=us) k6
  have:bI us=jH (us.take oq) (bI [v0,v1,v2,v3,v4]) (us.drop (oq+5)):=by
   conv=>lhs;rw[hrow]
   simp[jH,bI]
  rwa [this]at h1
 have hp:PLe (pG st' φ) (upd (pG st' φ) k (some (bq,one bq us.length))):=fun i r n e=>by
  refine⟨n,?_,rfl,fun _ h=>h⟩;have:i≠k:=fun h=>by rw[h,hφk]at e;cases e
  simp[upd,this,e]
 refine⟨⟨m,upd (pG st' φ) k (some (bq,one bq us.length)),hi2.adopt hk hφk hfr k4 k5 hrep,fun t=>?_,(Adv.cut hadv).adopt k1,fun id hid=>?_,?_,?_⟩,h6,h7⟩
 ·rcases he t with e|⟨rfl,e⟩|⟨e,e'⟩
  ·rw[e];exact .junk _
  ·have:=henv t;rw[hu]at this;rw[e,this.bX];exact .own (n:=one bq us.length) (by simp[upd])
  ·rw[e];exact(e'.rep (fun i hi'=>mR hi') (henv t)).mono (.refl _) hp
 ·by_cases e:id=k
  ·exact .inr e
  ·simp[upd,e]at hid
   cases hx:pG st' φ id with
   | none=>exact absurd hx hid
   | some q=>exact .inl (dA hx).2
 ·refine⟨hr.pos, .refl _,⟨one bq us.length,by simp[upd]⟩,k1,fun f hf hne=>?_⟩;obtain⟨q1,q2,q3,q4,q5⟩:=hr.raw.all f hf;refine⟨q1,q2,fun i r n e ho=>?_,q4,rfl,q5⟩;by_cases e2:i=k
  ·subst e2;simp[upd]at e;obtain⟨rfl,rfl⟩:=e;exact hne ho
  ·simp[upd,e2]at e;exact q3 i r n (dA e).1 ho
 ·exact⟨T,by rw[← hrow];exact k5⟩
theorem GR.AaF {ok:Nat→Prop} {root:Nat} {p q:Pn} {F:List Nat} {path:List Int} {y:Pn} {bq oq:Nat} {Fa Fy Fz:List Nat} {env env':Nat→AV} {st st':Store} {a:Act} {w wa:World} {ma:Mem} {k:Nat} {pre row post:List Value}
 (h:GR wi mi nt ok (fun w' m' φ'=>ADK wi root p F path y bq oq Fa Fy Fz k wa ma w' m' φ'∧(∃ T,wa.heap[bq]?=some (.cells (pre++(row++post)).toArray T (0,0)))) env st a w) (hrl:row.length=5) (hpl:pre.length=oq) (hbox:st k=some (.box (jH pre (jW q.cells) post)))
 (hst:∀ i blk,st' i=some blk→i≠k∧st i=some blk∧fB blk) (he:∀ t,env' t=.junk∨(env' t=env t∧iG st' (env t))) :
 GR wi mi nt (fun id=>st' id≠none) (RAW wi root (Pn.put path p q) (Fa++([]++Fz)) [((bq,oq),q)]) env' st' a w:=by
 obtain⟨⟨m,φ,hi,henv,hadv,hk,hr,T0,hrow0⟩,h6,h7⟩:=h;obtain⟨n2,e2⟩:=hr.own;obtain⟨hb2,hok2⟩:=bZ hi e2 hbox;have hst2:∀ i blk,st' i=some blk→st i=some blk∧fB blk:=fun i blk hb=>(hst i blk hb).2
 cases hok2 with
 | @box T _ vs hh hl hrc hm =>
  have hone:=hrc.one;obtain⟨vp,x,rfl,r1,r2⟩:=jL hrc;obtain⟨vr,vq,rfl,r3,r4⟩:=jL r2;obtain rfl:=(lS r1).symm;obtain rfl:=(lS r4).symm;have hc:=K4 r3;have hlen:=hc.length;rw[Pn.cK]at hlen
  obtain⟨v0,v1,v2,v3,v4,rfl⟩:∃ v0 v1 v2 v3 v4,vr=[v0,v1,v2,v3,v4]:=by
   match vr,hlen with
   | [v0,v1,v2,v3,v4],_=>exact⟨v0,v1,v2,v3,v4,rfl⟩
  have hcell:∀ f∈root::F,f≠bq→∀ j,w.cell? ⟨f,j,none⟩=wa.cell? ⟨f,j,none⟩:=fun f hf hne j=>gV (hr.oth f hf hne).2.2.2.2.1 j
  have sub:∀ f∈root::(Fa++([]++Fz)),f∈root::F:=fun f hf=>by
   rw[hr.pos.eq]
   rcases zS.1 hf with e|e
   ·simp[e]
   ·rcases zV.1 e with e|e
    ·simp[e]
    ·simp at e;simp[e]
  have g:∀ (i:Nat),i<5→(pre++([v0,v1,v2,v3,v4]++post))[oq+i]?=[v0,v1,v2,v3,v4][i]?:=fun i hi=>by
   rw[zI (by omega),zK (by simp;omega),hpl,xZ]
  have far:∀ (r:List Value),r.length=5→∀ j,oq+5≤j→(pre++(r++post))[j]?=post[j-oq-5]?:=fun r hr j hj=>by
   rw[zI (by omega),zI (by omega),hr,hpl]
  have hth:TH w m (Pn.put path p q) root 0 (Fa++([]++Fz)) [((bq,oq),q)]:=by
   refine hr.pos.fill hr.le (fun f hf j hj=>?_) (.fresh hc ⟨?_,?_,?_,?_,?_⟩)
   ·by_cases hne:f=bq
    ·subst hne;rw[aY hh,aY hrow0]
     rcases hj with hj|hj|hj
     ·exact absurd rfl hj
     ·rw[zK (by omega),zK (by omega)]
     ·rw[far _ rfl j hj,far _ hrl j hj]
    ·refine hcell f ?_ hne j;rw[hr.pos.eq]
     rcases zS.1 hf with e|e
     ·simp[e]
     ·rcases zV.1 e with e|e<;>simp[e]
   ·rw[aY hh];exact g 0 (by omega)
   ·rw[aY hh];exact g 1 (by omega)
   ·rw[aY hh];exact g 2 (by omega)
   ·rw[aY hh];exact g 3 (by omega)
   ·rw[aY hh];exact g 4 (by omega)
  refine⟨⟨m,pG st' φ,hi.AX9 hst2,fun x=>?_,hadv.cut,fun id hid=>?_,?_⟩,h6,h7⟩
  ·rcases he x with e|⟨e,e'⟩
   ·rw[e];exact .junk _
   ·rw[e];exact e'.rep (fun i hi'=>mR hi') (henv x)
  ·cases hx:pG st' φ id with
   | none=>exact absurd hx hid
   | some q=>exact(dA hx).2
  ·have hnd:=hr.pos.nd;rw[hr.pos.eq]at hnd;refine⟨hth,fun hm'=>?_,?_,fun f hf=>?_⟩
   ·have:=sub root (by simp);refine hr.pos.nr ?_;rw[hr.pos.eq]
    rcases zV.1 hm' with e|e
    ·simp[e]
    ·simp at e;simp[e]
   ·rw[yQ];rw[zH]at hnd ⊢;refine⟨hnd.1,(zH.1 hnd.2.1).2.1,fun x hx z hz=>hnd.2.2 x hx z (by simp[hz])⟩
   ·have hf':=sub f hf;by_cases hne:f=bq
    ·subst hne;refine⟨hr.bqn,(zL.1 hh).1,?_,hm,_,T,hh,hone⟩;refine sG hi (fun i blk h=>(hst2 i blk h).1) hbox ?_ e2 hb2.1
     cases hx:st' k with
     | none=>rfl
     | some blk=>exact absurd rfl (hst k blk hx).1
    ·obtain⟨q1,q2,q3,q4,q5,vs',T',q6,q7⟩:=hr.oth f hf' hne;exact⟨q1,q2,q3.cut,q4,vs',T',by rw[q5];exact q6,q7⟩
theorem GR.AjY {ok:Nat→Prop} {root:Nat} {p:Pn} {F:List Nat} {H:PL} {env:Nat→AV} {st:Store} {a:Act} {w:World} (h:GR wi mi nt ok (RAW wi root p F H) env st a w) {u:Nat} (hu:env u=.i (.lit (.pointer (some ⟨root,0,none⟩)))) {env':Nat→AV} (he:∀ t,env' t=.junk∨(t=u∧env' t=.i (.iref p.cells))∨env' t=env t) :
 GR wi mi nt ok (fun _ _ _=>True) env' st a w:=by
 classical
 obtain⟨⟨m,φ,hi,henv,hadv,hk,hr⟩,h6,h7⟩:=h
 let m':Mem:=fun f o=>if f∈root::F then w.cell? ⟨f,o,none⟩else m f o
 have hin:∀ f,f∈root::F→∀ o,m' f o=w.cell? ⟨f,o,none⟩:=fun f hf o=>by show(if f∈root::F then _ else _)=_;rw[if_pos hf]
 have hout:∀ f,f ∉ root::F→∀ o,m' f o=m f o:=fun f hf o=>by show(if f∈root::F then _ else _)=_;rw[if_neg hf]
 have hle:MLe m m':=fun f o v e=>by
  by_cases hf:f∈root::F
  ·rw[(hr.all f hf).2.2.2.1 o]at e;cases e
  ·rw[hout f hf];exact e
 have hmem:kF w m':=fun f o v e=>by
  by_cases hf:f∈root::F
  ·rw[hin f hf]at e;exact e
  ·rw[hout f hf]at e;exact hi.mem f o v e
 have hat:IAt m' root 0 p.cells:=hr.th.AbM hle (fun j _ _=>hin root (by simp) j) (fun f hf j=>hin f (by simp[hf]) j);refine⟨⟨m',φ,⟨hmem,fun i blk hb=>?_,hi.inj,hi.low⟩,fun t=>?_,⟨hadv.size,hadv.os,hadv.tape,hadv.output,hadv.block,hadv.mle.trans hle,fun f hf hfr o=>?_,hadv.ple,hadv.pnew⟩,hk,trivial⟩,h6,h7⟩
 ·obtain⟨b,n,q1,q2,q3⟩:=hi.live i blk hb;exact⟨b,n,q1,q2,q3.mono q2.1 (fun _ _=>rfl) hle (.refl _) fun f hf o=>hout f (fun hf'=>(hr.all f hf').2.2.1 i b n q1 hf) o⟩
 ·rcases he t with e|⟨rfl,e⟩|e
  ·rw[e];exact .junk _
  ·have hx:=henv t;rw[hu]at hx;rw[e,hx.bX];exact .i (.iref hat)
  ·rw[e];exact(henv t).mono hle (.refl _)
 ·rw[hout f (fun hf'=>by have:=(hr.all f hf').1;omega)];exact hadv.mnew f hf hfr o
end
theorem DD:∀ {l m:List Int},aD l=aD m→l=m:=by
 intro l
 induction l with
 | nil=>intro m h;cases m with
  | nil=>rfl
  | cons b m=>simp[aD]at h
 | cons a l ih=>intro m h;cases m with
  | nil=>simp[aD]at h
  | cons b m =>
   simp only[aD,List.cons.injEq]at h;rw[show a=b by simpa using h.1,ih h.2]
theorem Ex.FD:∀ (a b:Ex),a.cells=b.cells→a=b:=by
 intro a
 induction a using Ex.ind with
 | h k c v ks ih =>
  intro b h;obtain⟨k',c',v',ks'⟩:=b
  have key:∀ {l m:List Ex},(∀ a∈l,∀ b,a.cells=b.cells→a=b)→Ex.aB l=Ex.aB m→l=m:=by
   intro l
   induction l with
   | nil=>intro m _ h;cases m with
    | nil=>rfl
    | cons b m=>simp[Ex.aB]at h
   | cons a l ihl=>intro m hi h;cases m with
    | nil=>simp[Ex.aB]at h
    | cons b m =>
     simp only[Ex.aB,List.cons.injEq]at h;rw[hi a (by simp) b h.1,ihl (fun x hx=>hi x (by simp[hx])) h.2]
  rw[Ex.aA,Ex.aA]at h;simp only[List.cons.injEq,IV.lit.injEq,Value.int.injEq,Value.bool.injEq,IV.isl.injEq,true_and,and_true]at h;obtain⟨h1,h2,h3,h4,h5⟩:=h;have h5:=key ih h5;obtain⟨b1,n1⟩:=v;obtain⟨b2,n2⟩:=v';simp only[Ex.kind,Ex.col,Ex.val,Ex.kids]at h1 h2 h3 h4 h5;subst h1 h2 h3 h4 h5;rfl
theorem Ex.YI:∀ {l m:List Ex},Ex.aB l=Ex.aB m→l=m:=by
 intro l
 induction l with
 | nil=>intro m h;cases m with
  | nil=>rfl
  | cons b m=>simp[Ex.aB]at h
 | cons a l ihl=>intro m h;cases m with
  | nil=>simp[Ex.aB]at h
  | cons b m =>
   simp only[Ex.aB,List.cons.injEq]at h;rw[Ex.FD a b h.1,ihl h.2]
theorem Pn.M9:∀ (a b:Pn),a.cells=b.cells→a=b:=by
 intro a
 induction a using Pn.ind with
 | h k t es cs ks ih =>
  intro b h;obtain⟨k',t',es',cs',ks'⟩:=b
  have key:∀ {l m:List Pn},(∀ a∈l,∀ b,a.cells=b.cells→a=b)→Pn.aB l=Pn.aB m→l=m:=by
   intro l
   induction l with
   | nil=>intro m _ h;cases m with
    | nil=>rfl
    | cons b m=>simp[Pn.aB]at h
   | cons a l ihl=>intro m hi h;cases m with
    | nil=>simp[Pn.aB]at h
    | cons b m =>
     simp only[Pn.aB,List.cons.injEq]at h;rw[hi a (by simp) b h.1,ihl (fun x hx=>hi x (by simp[hx])) h.2]
  rw[Pn.dX,Pn.dX]at h;simp only[List.cons.injEq,IV.lit.injEq,Value.int.injEq,IV.isl.injEq,true_and,and_true]at h;obtain⟨h1,h2,h3,h4,h5⟩:=h;rw[h1,h2,Ex.YI h3,DD h4,key ih h5]
def apO (p:Pn) (ws:List Int) (r:Int) (path:List Int):Option Pn:=if p.width ws=0 then none else apI ws r path p
def apR:Option Pn→AV×StL
 | some q=>(.tup [.i (.agg q.cells), .bool true],[])
 | none=>(.tup [.i (.agg Pn.zero.cells), .bool false],[])
def ApA (args:List AV) (x:Pn×List Int×Int×List Int):Prop:=args=[.i (.agg x.1.cells), .i (.isl (aD x.2.1)), .i (.agg [.int x.2.2.1, .isl (aD x.2.2.2)])]
noncomputable def VP:List AV→StL→Option (AV×StL)
 | args,[]=>open Classical in if h:∃ x,ApA args x then some (apR (apO h.choose.1 h.choose.2.1 h.choose.2.2.1 h.choose.2.2.2))else none
 | _,_=>none
theorem ApA.inj {args:List AV} {x y:Pn×List Int×Int×List Int} (hx:ApA args x) (hy:ApA args y):x=y:=by
 unfold ApA at hx hy;rw[hx]at hy;simp only[List.cons.injEq,AV.i.injEq,IV.agg.injEq,IV.isl.injEq,IV.lit.injEq,Value.int.injEq,true_and,and_true]at hy;obtain⟨h1,h2,h3,h4⟩:=hy;obtain⟨a,b,c,d⟩:=x;obtain⟨a',b',c',d'⟩:=y;simp only at h1 h2 h3 h4;rw[Pn.M9 _ _ h1,DD h2,h3,DD h4]
theorem YQ {args:List AV} {st:StL} {q:AV×StL} (h:VP args st=some q):∃ p ws r path,args=[.i (.agg (Pn.cells p)), .i (.isl (aD ws)), .i (.agg [.int r, .isl (aD path)])]∧st=[]∧q=apR (apO p ws r path):=by
 unfold VP at h;split at h
 ·split at h
  ·rename_i hx;injection h with h;exact⟨_,_,_,_,hx.choose_spec,rfl,h.symm⟩
  ·cases h
 ·cases h
theorem gL {p:Pn} {ws:List Int} (h:p.width ws≠0):kM ws=true∧p.wd ws 8≠0:=by
 unfold Pn.width at h;by_cases hw:kM ws=true
 ·rw[if_pos hw]at h;exact⟨hw,h⟩
 ·rw[if_neg hw]at h;exact absurd rfl h
noncomputable def AUL (C:Ctx) (G:List Nat) (na:Nat) (b:Code) (S:AS):XR:=dR C G na b S
@[simp] theorem ATS {C:Ctx} {G:List Nat} {na:Nat} (a b:Code) (S:AS):dR C G na (.seq a b) S=ACD (dR C G na a S) (AUL C G na b):=AI3 a b
@[simp] theorem AY5 {C:Ctx} {G:List Nat} {na:Nat} (b:Code) (e:List (Nat×AV)) (st:StL):AUL C G na b ⟨e,st⟩=dR C G na b ⟨e,st⟩:=(rfl)
def AID (C:Ctx) (call:dB) (all:List Oper) (draw:Bool) (base:Nat) (os:List Oper) (i:Nat) (env:Nat→AV) (dst:Option Tmp) (log:List (Nat×List Nat×Bool)) (p:AV×Store):Option RS:=dH C call all draw base os i ⟨BL env dst p.1,p.2,log⟩
@[simp] theorem AYY {C:Ctx} {call:dB} (all:List Oper) (draw:Bool) (base:Nat) (os:List Oper) (i:Nat) (env:Nat→AV) (dst:Option Tmp) (log:List (Nat×List Nat×Bool)) (v:AV) (st:Store):AID C call all draw base os i env dst log (v,st)=dH C call all draw base os i ⟨BL env dst v,st,log⟩:=(rfl)
attribute [simp] Y4 V6 ADB Y5 AD8 AI4 ADA AF3
@[simp] theorem AT1 (k:Nat):kX k []=true:=(rfl)
@[simp] theorem APE (k:Nat) (e:List IV) (es:List (List IV)):kX k (e::es)=(e.length == k && kX k es):=(rfl)
@[simp] theorem AOR:jM (.slice none 0 0)=.nils:=(rfl)
@[simp] theorem ATJ:EW (.slice none 0 0)=.nils:=(rfl)
@[simp] theorem AOS (b:Bool):jM (.bool b)=.i (.lit (.bool b)):=(rfl)
@[simp] theorem ATK (b:Bool):EW (.bool b)=.i (.lit (.bool b)):=(rfl)
@[simp] theorem AP5 (b:Bool):cellsOf (.i (.lit (.bool b)))=some [.i (.lit (.bool b))]:=(rfl)
@[simp] theorem ARC (k:IntKind) (n:Int):jM (.int k n)=.i (.lit (.int k n)):=(rfl)
@[simp] theorem AWH (k:IntKind) (n:Int):EW (.int k n)=.i (.lit (.int k n)):=(rfl)
@[simp] theorem ASM (k:IntKind) (n:Int):cellsOf (.i (.lit (.int k n)))=some [.i (.lit (.int k n))]:=(rfl)
@[simp] theorem AJT (s:ByteArray):jM (.string s)=.i (.lit (.string s)):=(rfl)
@[simp] theorem AOT (s:ByteArray):EW (.string s)=.i (.lit (.string s)):=(rfl)
@[simp] theorem AJX (s:ByteArray):cellsOf (.i (.lit (.string s)))=some [.i (.lit (.string s))]:=(rfl)
@[simp] theorem AHE (a:Option Addr):jM (.pointer a)=.i (.lit (.pointer a)):=(rfl)
@[simp] theorem AM2 (a:Option Addr):EW (.pointer a)=.i (.lit (.pointer a)):=(rfl)
@[simp] theorem AIE (a:Option Addr):cellsOf (.i (.lit (.pointer a)))=some [.i (.lit (.pointer a))]:=(rfl)
@[simp] theorem ARB (r:Option Nat):jM (.map r)=.i (.lit (.map r)):=(rfl)
@[simp] theorem AWG (r:Option Nat):EW (.map r)=.i (.lit (.map r)):=(rfl)
@[simp] theorem ASJ (r:Option Nat):cellsOf (.i (.lit (.map r)))=some [.i (.lit (.map r))]:=(rfl)
@[simp] theorem AHF :jM (.nilFunc)=.i (.lit (.nilFunc)):=(rfl)
@[simp] theorem AM3 :EW (.nilFunc)=.i (.lit (.nilFunc)):=(rfl)
@[simp] theorem AIF :cellsOf (.i (.lit (.nilFunc)))=some [.i (.lit (.nilFunc))]:=(rfl)
@[simp] theorem AEL :jM (.nilIface)=.i (.lit (.nilIface)):=(rfl)
@[simp] theorem AJU :EW (.nilIface)=.i (.lit (.nilIface)):=(rfl)
@[simp] theorem AEN :cellsOf (.i (.lit (.nilIface)))=some [.i (.lit (.nilIface))]:=(rfl)
@[simp] theorem AM1 (a:Array Value):jM (.tuple a)=.i (.lit (.tuple a)):=(rfl)
@[simp] theorem ARD (a:Array Value):EW (.tuple a)=.i (.lit (.tuple a)):=(rfl)
@[simp] theorem AWI (cs:Array Value):EW (.agg cs)=UC (eH cs.toList):=(rfl)
attribute [simp] eH.eq_1 eH.eq_2 cellsOf.eq_3 cellsOf.eq_4
@[simp] theorem AP3 :cellsOf .nils=some [.nils]:=(rfl)
@[simp] theorem ASH (i o:Nat):cellsOf (.own i o)=some [(.own i o)]:=(rfl)
@[simp] theorem AP2 (i k j o:Nat):cellsOf (.ownE i k j o)=some [(.ownE i k j o)]:=(rfl)
@[simp] theorem ASI (i k o l:Nat):cellsOf (.osl i k o l)=some [(.osl i k o l)]:=(rfl)
@[simp] theorem ATV (f:Fn) (cs:List AV):cellsOf (.fn f cs)=some [(.fn f cs)]:=(rfl)
@[simp] theorem AMY (a:Option Addr) (l c:Nat):cellsOf (.i (.lit (.slice a l c)))=some [(.i (.lit (.slice a l c)))]:=(rfl)
@[simp] theorem ASL (es:List (List IV)):cellsOf (.i (.isl es))=some [(.i (.isl es))]:=(rfl)
@[simp] theorem AP4 (cs:List IV):cellsOf (.i (.iref cs))=some [(.i (.iref cs))]:=(rfl)
@[simp] theorem ATT  (x:Option (List IV)):VC .nils x=none:=by cases x<;>rfl
@[simp] theorem AX1 (st:Store) :qZ st .nils=bnd (frz st wC .nils) fun p=>some (p.1,iD st p.2):=(rfl)
@[simp] theorem ASV (st:Store) :gQ st .nils=bnd (qZ st .nils) fun p=>some (.i p.1,p.2):=(rfl)
@[simp] theorem AYT (st:Store) (i o:Nat):qZ st (.own i o)=bnd (frz st wC (.own i o)) fun p=>some (p.1,iD st p.2):=(rfl)
@[simp] theorem ATY (st:Store) (i o:Nat):gQ st (.own i o)=bnd (qZ st (.own i o)) fun p=>some (.i p.1,p.2):=(rfl)
@[simp] theorem AXA (i k o l:Nat) (x:Option (List IV)):VC (.osl i k o l) x=none:=by cases x<;>rfl
@[simp] theorem AYU (st:Store) (i k o l:Nat):qZ st (.osl i k o l)=bnd (frz st wC (.osl i k o l)) fun p=>some (p.1,iD st p.2):=(rfl)
@[simp] theorem ATZ (st:Store) (i k o l:Nat):gQ st (.osl i k o l)=bnd (qZ st (.osl i k o l)) fun p=>some (.i p.1,p.2):=(rfl)
@[simp] theorem AZ0 (f:Fn) (cs:List AV) (x:Option (List IV)):VC (.fn f cs) x=none:=by cases x<;>rfl
@[simp] theorem AYV (st:Store) (cs:List AV):qZ st (.agg cs)=bnd (frz st wC (.agg cs)) fun p=>some (p.1,iD st p.2):=(rfl)
@[simp] theorem AU0 (st:Store) (cs:List AV):gQ st (.agg cs)=bnd (qZ st (.agg cs)) fun p=>some (.i p.1,p.2):=(rfl)
@[simp] theorem Ab2 (v:IV) (l:List IV):VC (.i v) (some l)=some (v::l):=(rfl)
@[simp] theorem AYZ (v:IV):VC (.i v) none=none:=(rfl)
@[simp] theorem AbT (st:Store) (v:IV):qZ st (.i v)=some (v,st):=(rfl)
@[simp] theorem AZ4 (st:Store) (v:IV):gQ st (.i v)=some (.i v,st):=(rfl)
@[simp] theorem AXL (st:Store) (f:Fn) (cs:List AV):gQ st (.fn f cs)=some (.fn f cs,st):=(rfl)
@[simp] theorem AU1:E5 (some .strct)=some true:=(rfl)
@[simp] theorem AU2 (e:TypeId):E5 (some (.slice e))=some false:=(rfl)
@[simp] theorem AZ6 (k:IntKind):E5 (some (.int k))=some false:=(rfl)
@[simp] theorem ASY:E5 (some .string)=some false:=(rfl)
@[simp] theorem AXP:E5 (some .bool)=some false:=(rfl)
@[simp] theorem AU3:E5 (some .other)=some false:=(rfl)
@[simp] theorem AU4 (n:Nat) (e:TypeId):E5 (some (.array n e))=some true:=(rfl)
@[simp] theorem AS0:eP .add=false:=(rfl)
@[simp] theorem ARN:eP .sub=false:=(rfl)
@[simp] theorem ART:eP .mul=false:=(rfl)
@[simp] theorem ARR:eP .quo=false:=(rfl)
@[simp] theorem ARQ:eP .rem=false:=(rfl)
@[simp] theorem ARZ:eP .and=false:=(rfl)
@[simp] theorem ATQ:eP .or=false:=(rfl)
@[simp] theorem ARL:eP .xor=false:=(rfl)
@[simp] theorem AJV:eP .andNot=false:=(rfl)
@[simp] theorem ARY:eP .eql=false:=(rfl)
@[simp] theorem ARS:eP .neq=false:=(rfl)
@[simp] theorem ARU:eP .lss=false:=(rfl)
@[simp] theorem ARV:eP .leq=false:=(rfl)
@[simp] theorem ARW:eP .gtr=false:=(rfl)
@[simp] theorem ARX:eP .geq=false:=(rfl)
@[simp] theorem ARP:eP .shl=true:=(rfl)
@[simp] theorem ARO:eP .shr=true:=(rfl)
@[simp] theorem AYB:NS []=.tup []:=(rfl)
@[simp] theorem AYA (v:AV):NS [v]=v:=(rfl)
@[simp] theorem AY9 (a b:AV) (l:List AV):NS (a::b::l)=.tup (a::b::l):=(rfl)
attribute [simp] uF.eq_1 uF.eq_2 fU.eq_1 fU.eq_2 fU.eq_3
section
variable (C:Ctx) (call:dB) (env:Nat→AV) (st:Store) (nb:Nat)
@[simp] theorem APW (x:Operand):cZ C call (.move x) env st nb=some (ev env x,st):=(rfl)
@[simp] theorem AKU (x:Operand):cZ C call (.assign x) env st nb=some (ev env x,st):=(rfl)
@[simp] theorem APV (c a b:Operand):cZ C call (.pick c a b) env st nb=bnd (AGF (ev env a) (ev env b) (ev env c)) fun v=>some (v,st):=(rfl)
@[simp] theorem AOA (t:TypeId):cZ C call (.alloc t) env st nb=bnd (zeroOf C.P t) fun z=>some (.own nb 0,upd st nb (some (.box (eH z)))):=(rfl)
@[simp] theorem AT9 (t:TypeId) (x:Operand):cZ C call (.box t x) env st nb=bnd (cellsOf (ev env x)) fun cs=>some (.own nb 0,upd st nb (some (.box cs))):=(rfl)
@[simp] theorem AO8 (t:TypeId) (ps:Array (Nat×Operand)):cZ C call (.build t ps) env st nb=bnd (E5 (bN C.P t)) fun g=>tst g (bnd (zeroOf C.P t) fun z=>bnd (partsOf env ps.toList) fun ps=>bnd (QE (K9 C.P t) (eH z) ps) fun cs=>some (UC cs,st)):=(rfl)
@[simp] theorem AC1 (t:TypeId) (n:Nat) (ps:Array (Nat×Operand)):cZ C call (.buildSlice t n ps) env st nb=bnd (IB (bN C.P t)) fun e=>bnd (partsOf env ps.toList) fun ps=>rO C e n st nb ps:=(rfl)
@[simp] theorem APX (t:TypeId) (a:Operand):cZ C call (.load t a) env st nb=bnd (KT C t (ev env a) st) fun v=>some (v,st):=(rfl)
@[simp] theorem AO3 (t:TypeId) (a x:Operand):cZ C call (.store t a x) env st nb=bnd (G9 C t (ev env a) (ev env x) st) fun st1=>some (.i (.lit undef),st1):=(rfl)
@[simp] theorem AFH (x:Operand):cZ C call (.nilCheck x) env st nb=bnd (ALO (ev env x)) fun v=>some (v,st):=(rfl)
@[simp] theorem AO9 (op:BinOp) (t:TypeId) (x y:Operand) (u:TypeId):cZ C call (.binOp op t x y u) env st nb=bnd (AN7 C op t (ev env x) (ev env y)) fun v=>some (.i v,st):=(rfl)
@[simp] theorem APU (op:UnOp) (t:TypeId) (x:Operand):cZ C call (.unOp op t x) env st nb=bnd (unA op (ev env x)) fun v=>some (.i v,st):=(rfl)
@[simp] theorem AJM (s d:TypeId) (x:Operand):cZ C call (.convert s d x) env st nb=bnd (ADO (bN C.P s) (bN C.P d) (ev env x)) fun v=>some (v,st):=(rfl)
@[simp] theorem AEG (t:TypeId) (l c:Operand):cZ C call (.makeSlice t l c) env st nb=XI C t st nb (ev env l) (ev env c):=(rfl)
@[simp] theorem AO4 (t:TypeId) (x:Operand) (lo hi:Option Operand):cZ C call (.slice t x lo hi none) env st nb=bnd (GA C t (evO env lo) (evO env hi) (ev env x)) fun v=>some (v,st):=(rfl)
@[simp] theorem AEI (s:TypeId) (x:Operand) (f:Nat):cZ C call (.fieldAddr s x f) env st nb=bnd (eB C.P s f) fun p=>bnd (jD C.P p.1) fun n=>tst (decide (0<n)) (bnd (jX p.2 (ev env x)) fun v=>some (v,st)):=(rfl)
@[simp] theorem AO6 (s:TypeId) (x:Operand) (f:Nat):cZ C call (.field s x f) env st nb=bnd (eB C.P s f) fun p=>bnd (jD C.P p.1) fun n=>bnd (E5 (bN C.P p.1)) fun g=>bnd (OE p.2 n g (ev env x)) fun v=>some (v,st):=(rfl)
@[simp] theorem AEH (t:TypeId) (x i:Operand):cZ C call (.indexAddr t x i) env st nb=bnd (nR C (ev env x) (ev env i) (bN C.P t)) fun v=>some (v,st):=(rfl)
@[simp] theorem AO5 (t:TypeId) (x i:Operand):cZ C call (.index t x i) env st nb=bnd (O8 C (ev env i) (bN C.P t) (ev env x)) fun v=>some (v,st):=(rfl)
@[simp] theorem AJL (x:Operand) (j:Nat):cZ C call (.extract x j) env st nb=bnd (DL j (ev env x)) fun v=>some (v,st):=(rfl)
@[simp] theorem AFI (f:Fn) (fs cs:Array Operand):cZ C call (.makeFunc f fs cs) env st nb=tst fs.toList.isEmpty (bnd (ALR (evL env cs.toList) f) fun v=>some (v,st)):=(rfl)
@[simp] theorem ATI (cs:List AV) (g:FuncId):ALR cs (.func g)=some (.fn (.func g) cs):=(rfl)
@[simp] theorem AJN (b:Builtin) (as1:Array Operand) (ts:Array TypeId):cZ C call (.call ⟨.builtin b,as1,ts⟩) env st nb=jC C st nb b ts.toList (evL env as1.toList):=(rfl)
@[simp] theorem AO7 (f:Operand) (as1:Array Operand) (ts:Array TypeId):cZ C call (.call ⟨.value f,as1,ts⟩) env st nb=MP C call (evL env as1.toList) st nb (ev env f):=(rfl)
@[simp] theorem APQ (x:Operand):bG env (.move x)=([],true):=(rfl)
@[simp] theorem AKM (x:Operand):bG env (.assign x)=([],true):=(rfl)
@[simp] theorem APP (c a b:Operand):bG env (.pick c a b)=([],true):=(rfl)
@[simp] theorem AO1 (t:TypeId):bG env (.alloc t)=([],true):=(rfl)
@[simp] theorem AT7 (t:TypeId) (x:Operand):bG env (.box t x)=([],true):=(rfl)
@[simp] theorem ANZ (t:TypeId) (ps:Array (Nat×Operand)):bG env (.build t ps)=([],true):=(rfl)
@[simp] theorem AF7 (x:Operand):bG env (.nilCheck x)=([],true):=(rfl)
@[simp] theorem AO0 (op:BinOp) (t:TypeId) (x y:Operand) (u:TypeId):bG env (.binOp op t x y u)=([],true):=(rfl)
@[simp] theorem APO (op:UnOp) (t:TypeId) (x:Operand):bG env (.unOp op t x)=([],true):=(rfl)
@[simp] theorem AJK (s d:TypeId) (x:Operand):bG env (.convert s d x)=([],true):=(rfl)
@[simp] theorem AED (t:TypeId) (l c:Operand):bG env (.makeSlice t l c)=([],true):=(rfl)
@[simp] theorem ANU (t:TypeId) (x:Operand) (lo hi:Option Operand):bG env (.slice t x lo hi none)=([],true):=(rfl)
@[simp] theorem AEF (s:TypeId) (x:Operand) (f:Nat):bG env (.fieldAddr s x f)=([],true):=(rfl)
@[simp] theorem ANW (s:TypeId) (x:Operand) (f:Nat):bG env (.field s x f)=([],true):=(rfl)
@[simp] theorem AEE (t:TypeId) (x i:Operand):bG env (.indexAddr t x i)=([],true):=(rfl)
@[simp] theorem ANV (t:TypeId) (x i:Operand):bG env (.index t x i)=([],true):=(rfl)
@[simp] theorem AJJ (x:Operand) (j:Nat):bG env (.extract x j)=([],true):=(rfl)
@[simp] theorem AF8 (f:Fn) (fs cs:Array Operand):bG env (.makeFunc f fs cs)=([],true):=(rfl)
attribute [simp] bG.eq_1 bG.eq_2 bG.eq_3 bG.eq_4 bG.eq_5 bG.eq_6
@[simp] theorem AT6 (as1:Array Operand) (ts:Array TypeId):bG env (.call ⟨.builtin .len,as1,ts⟩)=([],true):=(rfl)
@[simp] theorem AT4 (as1:Array Operand) (ts:Array TypeId):bG env (.call ⟨.builtin .min,as1,ts⟩)=([],true):=(rfl)
@[simp] theorem AT5 (as1:Array Operand) (ts:Array TypeId):bG env (.call ⟨.builtin .max,as1,ts⟩)=([],true):=(rfl)
@[simp] theorem AY7 (args:List AV) (g:FuncId) (cs:List AV):MP C call args st nb (.fn (.func g) cs)=if g=1000000007 then none else fM call (C.ownArgs g) g (args++cs) st nb:=(rfl)
@[simp] theorem AUU (args:List AV) (id:Nat):MP C call args st nb (.fn (.yield 0) [.own id 0])=fM call true lU (.fn (.yield 0) [.own id 0]::args) st nb:=(rfl)
variable (all:List Oper) (base i:Nat) (log:List (Nat×List Nat×Bool)) (dst:Option Tmp) (op:Op) (ty:TypeId) (pos:String) (after:Array Edge) (os:List Oper)
@[simp] theorem AVQ (t:Tmp) (v:AV):BL env (some t) v=upd env t v:=(rfl)
@[simp] theorem AVR (v:AV):BL env none v=env:=(rfl)
@[simp] theorem ATB (draw:Bool) (R:RS):dH C call all draw base [] i R=some R:=(rfl)
@[simp] theorem AVG:dH C call all false base (⟨dst,op,ty,pos,after,none⟩::os) i ⟨env,st,log⟩ =
 bnd (cZ C call op env st (base+8*i)) (AID C call all false base os (i+1) env dst []):=(rfl)
@[simp] theorem AVF (g:Nat×Bool):dH C call all false base (⟨dst,op,ty,pos,after,some g⟩::os) i ⟨env,st,log⟩ =
 bnd (SA env g.2 ((all[g.1]?).bind (·.dst))) fun b=>if b=true then bnd (cZ C call op env st (base+8*i)) (AID C call all false base os (i+1) env dst [])
  else dH C call all false base os (i+1) ⟨BL env dst (.i (.lit undef)),st,log⟩:=(rfl)
@[simp] theorem AVE:dH C call all true base (⟨dst,op,ty,pos,after,none⟩::os) i ⟨env,st,log⟩ =
 tst (AXC base all ⟨dst,op,ty,pos,after,none⟩ st (bG env op).1 (G7 st (bG env op)).1 (bG env op).2 log)
  (bnd (cZ C call op env st (base+8*i)) (AID C call all true base os (i+1) env dst (MJ i (bG env op).2 log (G7 st (bG env op)).1))):=(rfl)
@[simp] theorem AVD (g:Nat×Bool):dH C call all true base (⟨dst,op,ty,pos,after,some g⟩::os) i ⟨env,st,log⟩ =
 bnd (SA env g.2 ((all[g.1]?).bind (·.dst))) fun b=>if b=true then
  tst (AXC base all ⟨dst,op,ty,pos,after,some g⟩ st (bG env op).1 (G7 st (bG env op)).1 (bG env op).2 log)
   (bnd (cZ C call op env st (base+8*i)) (AID C call all true base os (i+1) env dst (MJ i (bG env op).2 log (G7 st (bG env op)).1)))
  else dH C call all true base os (i+1) ⟨BL env dst (.i (.lit undef)),st,log⟩:=(rfl)
end
attribute [simp] aN.eq_1 aN.eq_2
attribute [simp] aR.eq_1 aR.eq_2 aR.eq_3
attribute [simp] AJZ.eq_1 AJZ.eq_2
attribute [simp] ASX.eq_1 ASX.eq_2
attribute [simp] UC.eq_1
attribute [simp] jW.eq_1 jW.eq_2
attribute [simp] rX.eq_1 rX.eq_2
attribute [simp] iY.eq_1 iY.eq_2
attribute [simp] dropE.eq_1 dropE.eq_2 dropE.eq_3
attribute [simp] BZ.eq_1 BZ.eq_2 BZ.eq_3
attribute [simp] cut.eq_1
attribute [simp] splice.eq_1 splice.eq_2 splice.eq_3 splice.eq_4 splice.eq_5
attribute [simp] IB.eq_1
attribute [simp] wD.eq_1 wD.eq_2
attribute [simp] frz.eq_1 frz.eq_2 frz.eq_3 frz.eq_4 frz.eq_5 frz.eq_6
attribute [simp] DI.eq_1 DI.eq_2 DI.eq_3
attribute [simp] IA.eq_1 IA.eq_2 IA.eq_3
attribute [simp] wC.eq_1
attribute [simp] iD.eq_1 iD.eq_2
attribute [simp] oM.eq_1 oM.eq_2
attribute [simp] dK.eq_1 dK.eq_2 dK.eq_3 dK.eq_4 dK.eq_5 dK.eq_6 dK.eq_7 dK.eq_8 dK.eq_9
attribute [simp] bC.eq_1 bC.eq_2
attribute [simp] iP.eq_1 iP.eq_2 iP.eq_3 iP.eq_4 iP.eq_5 iP.eq_6 iP.eq_7
attribute [simp] ren.eq_1 ren.eq_2 ren.eq_3 ren.eq_4 ren.eq_5 ren.eq_6 ren.eq_7 ren.eq_8 ren.eq_9
attribute [simp] A7.eq_1 A7.eq_2
attribute [simp] CL.eq_1 CL.eq_2 CL.eq_3 CL.eq_4 CL.eq_5 CL.eq_6 CL.eq_7
attribute [simp] l9.eq_1 l9.eq_2
attribute [simp] iH.eq_1
attribute [simp] N7.eq_1 N7.eq_2
attribute [simp] reach.eq_1 reach.eq_2 reach.eq_3
attribute [simp] LJ.eq_1
attribute [simp] sD.eq_1 sD.eq_2
attribute [simp] upto.eq_1 upto.eq_2
attribute [simp] iO.eq_1
attribute [simp] lV.eq_1 lV.eq_2
attribute [simp] ev.eq_1 ev.eq_2 ev.eq_3 ev.eq_4
attribute [simp] evL.eq_1 evL.eq_2
attribute [simp] evO.eq_1 evO.eq_2
attribute [simp] R9.eq_1 R9.eq_2 R9.eq_3 R9.eq_4 R9.eq_5 R9.eq_6 R9.eq_7 R9.eq_8 R9.eq_9 R9.eq_10 R9.eq_11 R9.eq_12 R9.eq_13 R9.eq_14 R9.eq_15
attribute [simp] shI.eq_1 shI.eq_2
attribute [simp] AJY.eq_1 AJY.eq_2 AJY.eq_3 AJY.eq_4 AJY.eq_5 AJY.eq_6 AJY.eq_7
attribute [simp] AXK.eq_1 AXK.eq_2
attribute [simp] AXI.eq_1 AXI.eq_2
attribute [simp] ASR.eq_1 ASR.eq_2
attribute [simp] AN7.eq_1 AN7.eq_2 AN7.eq_3 AN7.eq_4 AN7.eq_5 AR3.eq_1 AR3.eq_2 AR3.eq_3 AR3.eq_4 AXJ.eq_1 AXJ.eq_2
attribute [simp] unA.eq_1 unA.eq_2
attribute [simp] nI.eq_1
attribute [simp] kN.eq_1 kN.eq_2
attribute [simp] pU.eq_1 pU.eq_2
attribute [simp] dS.eq_1 dS.eq_2 dS.eq_3 dS.eq_4
attribute [simp] I5.eq_1 I5.eq_2
attribute [simp] uY.eq_1
attribute [simp] VR.eq_1 VR.eq_2
attribute [simp] ASW.eq_1 ACW.eq_1 ANT.eq_1 kW.eq_1 kW.eq_2 VS.eq_1 I6.eq_1
@[simp] theorem AWW (k:Nat) (es:List (List IV)):ACW (some (.arr k es))=false:=(rfl)
@[simp] theorem AWU (k:Nat) (es:List (List IV)):ACW (some (.frz k es))=false:=(rfl)
@[simp] theorem AWV (cs:List AV):ACW (some (.box cs))=false:=(rfl)
@[simp] theorem AcQ (v:IV):slC (.i v)=false:=(rfl)
@[simp] theorem ATP:ACW none=false:=(rfl)
@[simp] theorem AUJ (st:Store):ANT st .nils=false:=(rfl)
@[simp] theorem AbD (st:Store) (v:IV):ANT st (.i v)=false:=(rfl)
attribute [simp] oG.eq_1
attribute [simp] M7.eq_1 M7.eq_2
attribute [simp] YD.eq_1
attribute [simp] AOU.eq_1 AOU.eq_2 AOU.eq_3 AOU.eq_4 AOU.eq_5
attribute [simp] GA.eq_1 GA.eq_2 GA.eq_3 GA.eq_4
attribute [simp] QE.eq_1 QE.eq_2
attribute [simp] partsOf.eq_1 partsOf.eq_2
attribute [simp] U2.eq_1 U2.eq_2
attribute [simp] K9.eq_1
attribute [simp] rR.eq_1 rR.eq_2 rR.eq_3
attribute [simp] oV.eq_1 oV.eq_2
attribute [simp] eZ.eq_1 eZ.eq_2
attribute [simp] ADQ.eq_1 ADQ.eq_2
attribute [simp] OZ.eq_1 OZ.eq_2
attribute [simp] AQN.eq_1 AQN.eq_2
attribute [simp] MZ.eq_1 MZ.eq_2
attribute [simp] MX.eq_1 MX.eq_2
attribute [simp] loadAt.eq_1 loadAt.eq_2 loadAt.eq_3
attribute [simp] KT.eq_1
attribute [simp] tJ.eq_1
attribute [simp] qC.eq_1
attribute [simp] storeAt.eq_1 storeAt.eq_2
attribute [simp] G9.eq_1
attribute [simp] gJ.eq_1 gJ.eq_2
attribute [simp] uV.eq_1 uV.eq_2
attribute [simp] kK.eq_1 kK.eq_2 kK.eq_3
attribute [simp] pJ.eq_1 pJ.eq_2 pJ.eq_3
attribute [simp] vV.eq_1
attribute [simp] kT.eq_1
attribute [simp] fM.eq_1
attribute [simp] wO.eq_1 wO.eq_2
attribute [simp] jC.eq_1 jC.eq_2 jC.eq_3 jC.eq_4 jC.eq_5
attribute [simp] ADO.eq_1 ADO.eq_2
attribute [simp] AGF.eq_1
attribute [simp] ALO.eq_1 ALO.eq_2 ALO.eq_3 ALO.eq_4 ALO.eq_5
attribute [simp] XI.eq_1
attribute [simp] jX.eq_1 jX.eq_2 jX.eq_3 jX.eq_4
attribute [simp] OE.eq_1 OE.eq_2
attribute [simp] L9.eq_1 L9.eq_2 L9.eq_3
attribute [simp] XU.eq_1
attribute [simp] nR.eq_1 nR.eq_2
attribute [simp] O8.eq_1 O8.eq_2
attribute [simp] DL.eq_1
attribute [simp] vG.eq_1 rO.eq_1 ATL.eq_1 AB2.eq_1 AB2.eq_2 slL.eq_1 slL.eq_2 slC.eq_1 slC.eq_2
attribute [simp] YW.eq_1 YW.eq_2
attribute [simp] SA.eq_1 SA.eq_2
attribute [simp] BR.eq_1 BR.eq_2
attribute [simp] gG.eq_1 gG.eq_2
attribute [simp] G7.eq_1
attribute [simp] allIn.eq_1 allIn.eq_2
attribute [simp] XG.eq_1 XG.eq_2
attribute [simp] AXC.eq_1
attribute [simp] AM0.eq_1 AM0.eq_2
attribute [simp] rY.eq_1 rY.eq_2
attribute [simp] AHK.eq_1
attribute [simp] qQ.eq_1 qQ.eq_2
attribute [simp] BS.eq_1
attribute [simp] GM.eq_1 GM.eq_2
attribute [simp] ACR.eq_1 ACR.eq_2
attribute [simp] MJ.eq_1 MJ.eq_2
attribute [simp] mP.eq_1 mP.eq_2
attribute [simp] DN.eq_1 DN.eq_2
attribute [simp] wZ.eq_1
attribute [simp] settle.eq_1
attribute [simp] AB1.eq_1 CO.eq_1 CO.eq_2 vL.eq_1 vL.eq_2 TV.eq_1 pR.eq_1 AIO.eq_1 PG.eq_1 LG.eq_1 ZG.eq_1 oZ.eq_1 oZ.eq_2 TT.eq_1 CK.eq_1 WJ.eq_1 N9.eq_1 setSt.eq_1 setSt.eq_2 setSt.eq_3
@[simp] theorem AT8 (k:Nat):PG (.exit k)=.over (.exit k):=(rfl)
@[simp] theorem AS6 (k:Nat):LG (.exit k)=false:=(rfl)
@[simp] theorem ATR:LG .ret=false:=(rfl)
@[simp] theorem AUT:PG .ret=.over .ret:=(rfl)
@[simp] theorem AYX (vs:List AV):WJ [] vs=[]:=(rfl)
@[simp] theorem AXH (vs:List AV) (E:List (Nat×AV)):N9 [] vs E=E:=(rfl)
attribute [simp] ACD.eq_1 ACD.eq_2 ACD.eq_3 ACD.eq_4
attribute [simp] ME.eq_1 ME.eq_2 ME.eq_3 ME.eq_4
attribute [simp] YG.eq_1
attribute [simp] AI8.eq_1 AI8.eq_2
attribute [simp] ZI.eq_1 ZI.eq_2
attribute [simp] JY.eq_1 JY.eq_2
attribute [simp] uN.eq_1 uN.eq_2
attribute [simp] ZJ.eq_1 ZJ.eq_2
attribute [simp] wP.eq_1 wP.eq_2
attribute [simp] XF.eq_1
attribute [simp] finish.eq_1
attribute [simp] ADE.eq_1 ADE.eq_2 ADE.eq_3 ADE.eq_4
attribute [simp] qU.eq_1 qU.eq_2 qU.eq_3
attribute [simp] M4.eq_1 M4.eq_2
attribute [simp] enter.eq_1
attribute [simp] CB.eq_1 CB.eq_2
attribute [simp] ZK.eq_1 ZK.eq_2
attribute [simp] jI.eq_1 jI.eq_2 jI.eq_3 jI.eq_4 jI.eq_5
attribute [simp] mG.eq_1 mG.eq_2
attribute [simp] fO.eq_1 fO.eq_2
attribute [simp] ACS.eq_1 ACS.eq_2 ACS.eq_3 ACS.eq_4
attribute [simp] uI.eq_1 uI.eq_2
attribute [simp] vX.eq_1 vX.eq_2 TZ.eq_1 oL.eq_1 oL.eq_2 kL.eq_1 kL.eq_2 WR.eq_1 mJ.eq_1 mJ.eq_2 fV.eq_1 fV.eq_2
@[simp] theorem AVS (v:Value):TZ (.lit v)=true:=(rfl)
@[simp] theorem AVT (es:List (List IV)):TZ (.isl es)=true:=(rfl)
@[simp] theorem AU5 (v:Value):WR (.lit v)=.lit v:=(rfl)
attribute [simp] EA.eq_1 EA.eq_2 EA.eq_3
attribute [simp] wG.eq_1 wG.eq_2
attribute [simp] wK.eq_1
attribute [simp] eD.eq_1 eD.eq_2
attribute [simp] storeT.eq_1 storeT.eq_2
@[simp] theorem AQJ (st:Store) (v:AV):JZ st [v]=some ([v],st):=(rfl)
@[simp] theorem AQK (st:Store):JZ st []=some ([],st):=(rfl)
@[simp] theorem AQI (st:Store) (a b:AV) (r:List AV):JZ st (a::b::r)=wP st (a::b::r):=(rfl)
@[simp] theorem AWQ (st:Store) (cs:List AV):F5 st (.agg cs)=bnd (qZ st (.agg cs)) fun p=>some (.i p.1,p.2):=(rfl)
@[simp] theorem ATN (st:Store) :F5 st .nils=some (.nils,st):=(rfl)
@[simp] theorem AWO (st:Store) (i o:Nat):F5 st (.own i o)=some ((.own i o),st):=(rfl)
@[simp] theorem ATM (st:Store) (i k j o:Nat):F5 st (.ownE i k j o)=some ((.ownE i k j o),st):=(rfl)
@[simp] theorem AWP (st:Store) (i k o l:Nat):F5 st (.osl i k o l)=some ((.osl i k o l),st):=(rfl)
@[simp] theorem AYQ (st:Store) (f:Fn) (cs:List AV):F5 st (.fn f cs)=some ((.fn f cs),st):=(rfl)
@[simp] theorem Aa8 (st:Store) (v:IV):F5 st (.i v)=some ((.i v),st):=(rfl)
@[simp] theorem AWN (st:Store) (cs:List AV):F5 st (.tup cs)=some ((.tup cs),st):=(rfl)
@[simp] theorem ATO (st:Store) :F5 st .junk=some (.junk,st):=(rfl)
@[simp] theorem AY0 (all:List Oper) (after:List Edge) (j:Nat):gM all 3 after j=if BS after j=true then true else after.any fun e=>Region.binds .any e && gM all 2 (vW all e.on) j:=(rfl)
@[simp] theorem AY1 (all:List Oper) (after:List Edge) (j:Nat):gM all 2 after j=if BS after j=true then true else after.any fun e=>Region.binds .any e && gM all 1 (vW all e.on) j:=(rfl)
@[simp] theorem AY2 (all:List Oper) (after:List Edge) (j:Nat):gM all 1 after j=if BS after j=true then true else after.any fun e=>Region.binds .any e && gM all 0 (vW all e.on) j:=(rfl)
@[simp] theorem AY3 (all:List Oper) (after:List Edge) (j:Nat):gM all 0 after j=BS after j:=(rfl)
attribute [simp] vW.eq_1
attribute [simp] undef
attribute [simp] wide
end Go.Av
namespace Go.Proofs.YtjdfjgmebalaaaaGreat
open Go Go.Av
def GS:FuncId→List Nat
 | 3=>[0,1,2,3,4,5,8,9,10,11,12,13,14,15,18,23,28,33,58,63,68,73,78]
 | 4=>[0,2,3,4,5,6,7,8,9,10,11,12,13,16,59,81,95]
 | 5=>[0,1,2,4,5,6,7,8,9,10,11,12,13,16,21,37,42,47,61,69,72,81,86,89]
 | 6=>[0,1,2,3,5,6,7,8,9,10,11,12,13,14,15,16,17,18,19,22,27,32,64,69,74,79,101,109,112,131,136,139]
 | 7=>[0,1,2,3,6,7,8,9,10,11,12,13,14,15,16,17,18,19,22,27,32,64,69,74,79,101,109,112,131,136,139]
 | 8=>[0,1,2,4,5,6,7,8,9,10,11,12,13,14,15,16,19,24,52,57,62,82,93,98,101,119,124,129,132]
 | 9=>[0,1,2,4,5,6,7,8,9,10,11,12,13,14,15,16,21,26,54,59,64,84,95,100,103,121,126,131,134]
 | 10=>[0,1,2,4,10,16,22]
 | 11=>[0,1,4,5,11,15,25]
 | 12=>[0,1,2,3,4,5,8,9,10]
 | 13=>[0,1,2,3]
 | 14=>[0,2,3,4,11]
 | 15=>[0,2,3,4,11]
 | 16=>[0,1,2,3,4,5,8,9,10]
 | 17=>[0,1,2,3,4,9,14,20,26,32]
 | 18=>[0,1,4,5,10,14,25]
 | 19=>[0,1,4,5,10,14,26]
 | 20=>[0,2,3]
 | 21=>[0,1,2,3,4,5,6,7,8,9,10,11,12,13,18,26,27,36,42]
 | 22=>[0,1,2,4,5,6,7,8,9,10,11,12,13,15,19,26,50,68]
 | 23=>[0,1,2,4,6]
 | 24=>[0,1,2,3,4,5,42,47,61]
 | 25=>[0,1,4,5,10,14,25]
 | 26=>[0,1,2,3,5,6,7,8,9,10,11,15,21,36]
 | 27=>[0,1,2,4,8]
 | 28=>[0,1,2,4,5,6,10,12,13]
 | 29=>[0,1,2,4]
 | 30=>[0,1,4,5,9]
 | 31=>[0,1,4,5,9]
 | 32=>[0,1,4,5,9,18,29]
 | 33=>[0,1,2,4,10]
 | 34=>[0,1,2,3,5,6,7,17]
 | 35=>[0,1,2,3]
 | 36=>[0,1,2,3,4,9,15]
 | 37=>[0,1,2,4]
 | 38=>[0,1,2,4,10,16,22]
 | 39=>[0,1,2,3,6,7,8,9,10,11,20,27,41]
 | 40=>[0,1,2,3,6,7,8,10,11,12,21,24,25,26,27,38]
 | 41=>[0,1,2,4,5,6,7,8,9,10,16,23,39,45]
 | 42=>[0,1,2,4,5,6,7,8,9,13,18,25]
 | 43=>[0,1,4,5,11,15,25]
 | 44=>[0,2,3,4,11]
 | 45=>[0,1,4,5,10,14,26]
 | 46=>[0,1,4,5,9]
 | 47=>[0,1,2,4,10]
 | 48=>[0,1,4,5,11,15,25]
 | 49=>[0,1,4,10]
 | 50=>[0,1,4,5,11,15,25]
 | 51=>[0,1,2,3,4,5,6,7,46,51,65,70,83,88,102]
 | 52=>[0,2,3,4,11]
 | 53=>[0,2,3,4,11]
 | 54=>[0,1,4,5,6,38,62,67,68,69,84,90,91,92,107]
 | 55=>[0,1,4,5,10,14,26]
 | 56=>[0,1,4,5,10,14,26]
 | 57=>[0,2,3,4,5,6]
 | 58=>[0,2,3,4,6,7,8]
 | 59=>[0,2,3,4,5,6,7,14,38,39,40,76,77,78]
 | 60=>[0,1,2,3,4]
 | 61=>[0,1,2,4,5,6,11,25]
 | 62=>[0,1,2,3,4,5,19,37]
 | 63=>[0,1,2,4,5,6,14]
 | 64=>[0,1,2,4,5,6,7,8,9,11,20,24,42]
 | 65=>[0,1,2,3,5,6,7,8,9,10,19,30,40]
 | 66=>[0,1,4,5,6,7,8,11,13,14,15,28,36]
 | 67=>[0,1,4,5,10,14,26]
 | 68=>[0,1,2,4,7]
 | 69=>[0,1,4,6,9,10,11,12,13,26]
 | 70=>[0,1,2,3,8,9,10,11,12,19,37]
 | 71=>[0,1,2,4,7]
 | 72=>[0,1,4,5,9]
 | 73=>[0,1,4,5,9]
 | 74=>[0,1,4,5,9,17]
 | 75=>[0,1,4,5,9,18,27,39,49,60]
 | 76=>[0,1,4,5,9,18,27,38,47,56]
 | 77=>[0,2]
 | 78=>[0,1,4,5,6,9,10,12]
 | 79=>[0,1,2,4,10,16]
 | 80=>[0,1,2,3]
 | 81=>[0,1,2,3,4,9,15,21]
 | 82=>[0,1,2,4,10]
 | 83=>[0,1,2,3,4,5,33,38,52]
 | 84=>[0,1,2,3]
 | 85=>[0,1,4,5,10,12,13,14,24]
 | 86=>[0,1,4,5,49,54,55,56,71]
 | 87=>[0,1,2,3,4,9,14,20,26]
 | 88=>[0,2,5]
 | 89=>[0,2,3,4,5,13]
 | 90=>[0,1,4,5,6,11,28]
 | 91=>[0,2,3,6]
 | 92=>[0,2,3,4,5,6,13,37,38,39]
 | 93=>[0,2,3,6]
 | 94=>[0,2,3,6]
 | 95=>[0,1,2]
 | 96=>[0,1,2,3,8,9,11,12,14,28,35,40,41,42,58]
 | 97=>[0,1,2,4]
 | 98=>[0,1,2,3,4,16]
 | 99=>[0,1,2,4,5,6,9,23,24,31,56,77,82,93,98]
 | 100=>[0,1,2,4,6,7,18]
 | 101=>[0,1,2,4,5,6,10,22]
 | 102=>[0,1,2,3,6,7,8,9,10,11,12,13,14,24,71,99,120]
 | 103=>[0,1,2,3,5,6,7,10]
 | 104=>[0,1,2,3,6,7,8,9,23,28,41,47,48,55,61,70,74,82,106,114,122,126,131,144]
 | 105=>[0,1,2,4,5,18,30,31,32,33,50,72]
 | 106=>[0,1,2,6,7,8,9,10,15,16,17,36,37,47,62,82,103,108,116,123]
 | 107=>[0,1,2,3,4]
 | 108=>[0,2,4,12,13,14,15,16,21]
 | 109=>[0,1,2,6,7,8,9,10,31,60,87,92,106,118,119,120,137]
 | 110=>[0,4,5,6,7,8,16]
 | 111=>[0,4,5,6,21]
 | 112=>[0,1,4,5,6,7,8,16,38]
 | 113=>[0,1,4,5,6,7,8,9,10,18,34]
 | 114=>[0,4,5,6,7,8,16]
 | 115=>[0,1,4,5,6,7,8,9,10,15,37,38,39]
 | 116=>[0,1,4,5,6,7,8,9,10,11,19,36,49]
 | 117=>[0,4,5,6,7,8,16]
 | 118=>[0,4,5,30]
 | 119=>[0,1,4,5,6,7,8,9,17]
 | 120=>[0,1,4,5,6,7,8,9,10,11,26,50,51,52,71]
 | 121=>[0,2,3,7,15]
 | 122=>[0,1,2]
 | 123=>[0,1,2,3]
 | 124=>[0,1,2,3,4,9,14]
 | 125=>[0,2,3,4,10]
 | 126=>[0,1,4,5,10,11,17,23,33]
 | 127=>[0,1,4,5,6,24,36]
 | 128=>[0,1,4]
 | 129=>[0,1,2,3,4,5,6,7,8,16,24,36,43]
 | 130=>[0,1,2,6,7,8,15]
 | 131=>[0,1,4,5,12,18,19,25,33]
 | 132=>[0,1,2,6]
 | 133=>[0,1,2,4,5,23,26,54]
 | 134=>[0,1,2,3,4,5,6,8,9,17,26,42,64,88,96,98,110]
 | 135=>[0,1,2,4,5,13,27]
 | 136=>[0,1,2,3,6,7,8,9,10,11,12,13,14,26,42,62,81,112,150,169,190,212]
 | 137=>[0,1,4,5,6,10]
 | 138=>[0,1,2,4,5,6,9,27]
 | 139=>[0,1,2,3,4,6,7,9,12,14,16]
 | 140=>[0,1,2,4]
 | 141=>[0,1,4,5,9,18,21]
 | 142=>[0,1,4,5,9,35]
 | 143=>[0,2]
 | 144=>[0,2,6,7,11,27]
 | 145=>[0,1,4,5,6,10,11,15,25,46,59,64,66,82]
 | 146=>[0,2,3,4,5,7,10,13,15]
 | 147=>[0,1,2,6,7,8,13,14,21,22,26,27,35,46,47,48,59,65]
 | 148=>[0,1,4,5,6,22]
 | 149=>[0,1,2,3,4]
 | 150=>[0,1,2,3,4]
 | 151=>[0,2,3,4,9,19,20,21]
 | 152=>[0,1,2,3,5,6,7,8]
 | 153=>[0,1,3,4]
 | 154=>[0,1,3]
 | 155=>[0,1,2,4,7]
 | 156=>[0,2]
 | 157=>[0,1,2,3,6,7,8,10,14,18,19,20,26,27,28,29,38]
 | 158=>[0,1,2,3,4,6,7,8,9,14,20,21,22,30,42]
 | 159=>[0,1,4,5,6,18]
 | 160=>[0,1,4,5,10,11,17,24]
 | 161=>[0,1,4,5,6,10,19]
 | 162=>[0,1,4,5,6,10]
 | 163=>[0,1,4,5,6,11,16]
 | 164=>[0,2,3]
 | 165=>[0,1,2,3,6]
 | 166=>[0,1,2,4,15]
 | 167=>[0,1,2,3,4]
 | 168=>[0,1,2,3,6,7]
 | 169=>[0,1,2,3,6]
 | 170=>[0,1,4,5,6,11]
 | 171=>[0,1,2,3,6,7,24,29,41,43,44,57]
 | 172=>[0,2,8]
 | 173=>[0,1,4,5,6,35,53]
 | 174=>[0,1,4,5,7,10,11,12,13,14,24]
 | 175=>[0,1,2,4]
 | 176=>[0,1,4,5,6,12,39,40,41]
 | 177=>[0,1,3,8]
 | 178=>[0,1,4,5,6,10,11,20,37,38,50,54,59]
 | 179=>[0,2,3,4,9,10,11]
 | 180=>[0,1,2,6,7,27,32,33,34,46]
 | 181=>[0,1,3,8]
 | 182=>[0,1,4,5,6,7,8,9,10,11,12,31,44,45,54,62,77,88,110,122,128,146,151,154]
 | 183=>[0,1,4]
 | 184=>[0,1,2,6,7,8,9,10,18,21,37]
 | 185=>[0,2,3,7,8,11]
 | 186=>[0,1,4,5,6,16,29]
 | 187=>[0,2,5]
 | 188=>[0,1,4,5,6,7,8,13,24]
 | 189=>[0,1,3,4,5,8,17]
 | 190=>[0,1,2,4,5,6,7,9,10,17,29,30,42,46,49,66,76,84,89]
 | 191=>[0,1,4,5,6,7,8,12,18,26]
 | 192=>[0,2,3,4,7,10]
 | 193=>[0,1,2]
 | 194=>[0,1,2,3,6]
 | 195=>[0,1,2,6,7,8,28,62,90,95,96,97,109]
 | 196=>[0,1,2,3,6]
 | 197=>[0,1,2,6,7,9,11,17,19,20,21,22,26,27,28,29,46,54,66]
 | 198=>[0,1,2,6,7,8,9,20,32,33,34,39,46,59,66]
 | 199=>[0,1,2]
 | 200=>[0,1,2,3,4,5,9]
 | 201=>[0,2]
 | 202=>[0,1,4,5,6,18,32]
 | 203=>[0,1,2,3,6]
 | 204=>[0,1,2,6,7,8,9,11,15,29]
 | 205=>[0,2,3,4,7,10]
 | 206=>[0,1,2,4]
 | 207=>[0,2,3,5,9,10,11,12,19]
 | 208=>[0,1,2,4,5,6,7,16,25,33,34,42,50,58]
 | 209=>[0,1,2,4,5,6,7,8,16,32,34,35,43,51,59]
 | 210=>[0,2,3,4,7]
 | 211=>[0,2]
 | 212=>[0]
 | 213=>[0,2,4]
 | 214=>[0,2,3,7]
 | 215=>[0,2,3]
 | 216=>[0,2,4]
 | 217=>[0,1,4,5,12]
 | 218=>[0,2,4]
 | 219=>[0,2,5]
 | 235=>[]
 | _=>[]
def dC:FuncId→Bool
 | 89=>true
 | 90=>true
 | 92=>true
 | 95=>true
 | 100=>true
 | 125=>true
 | 126=>true
 | 127=>true
 | 128=>true
 | 130=>true
 | 131=>true
 | 154=>true
 | 155=>true
 | 159=>true
 | 160=>true
 | 161=>true
 | 162=>true
 | 177=>true
 | 181=>true
 | 182=>true
 | 183=>true
 | 184=>true
 | 185=>true
 | 187=>true
 | 198=>true
 | _=>false
def keepR:FuncId→Bool
 | 88=>true
 | 162=>true
 | 130=>true
 | 125=>true
 | 126=>true
 | 160=>true
 | 91=>true
 | 94=>true
 | 93=>true
 | 137=>true
 | 62=>true
 | 100=>true
 | 60=>true
 | 188=>true
 | 201=>true
 | 129=>true
 | _=>false
def wS:TypeId→Bool
 | 108=>true
 | 109=>true
 | 113=>true
 | _=>false
@[simp] theorem gS8:GS 8=[0,1,2,4,5,6,7,8,9,10,11,12,13,14,15,16,19,24,52,57,62,82,93,98,101,119,124,129,132]:=(rfl)
@[simp] theorem Am5:dC 10=false:=(rfl)
@[simp] theorem An7:keepR 10=false:=(rfl)
@[simp] theorem AoQ:GS 10=[0,1,2,4,10,16,22]:=(rfl)
@[simp] theorem Am4:dC 13=false:=(rfl)
@[simp] theorem AoP:GS 13=[0,1,2,3]:=(rfl)
@[simp] theorem Am3:dC 14=false:=(rfl)
@[simp] theorem AoO:GS 14=[0,2,3,4,11]:=(rfl)
@[simp] theorem Am2:dC 17=false:=(rfl)
@[simp] theorem An6:keepR 17=false:=(rfl)
@[simp] theorem AoN:GS 17=[0,1,2,3,4,9,14,20,26,32]:=(rfl)
@[simp] theorem Am1:dC 18=false:=(rfl)
@[simp] theorem An5:keepR 18=false:=(rfl)
@[simp] theorem AoM:GS 18=[0,1,4,5,10,14,25]:=(rfl)
@[simp] theorem An4:keepR 19=false:=(rfl)
@[simp] theorem AoL:GS 19=[0,1,4,5,10,14,26]:=(rfl)
@[simp] theorem An3:keepR 26=false:=(rfl)
@[simp] theorem AoK:GS 26=[0,1,2,3,5,6,7,8,9,10,11,15,21,36]:=(rfl)
@[simp] theorem AoJ:GS 29=[0,1,2,4]:=(rfl)
@[simp] theorem An2:keepR 30=false:=(rfl)
@[simp] theorem AoI:GS 30=[0,1,4,5,9]:=(rfl)
@[simp] theorem An1:keepR 31=false:=(rfl)
@[simp] theorem AoH:GS 31=[0,1,4,5,9]:=(rfl)
@[simp] theorem An0:keepR 32=false:=(rfl)
@[simp] theorem AoG:GS 32=[0,1,4,5,9,18,29]:=(rfl)
@[simp] theorem Am0:dC 36=false:=(rfl)
@[simp] theorem AmZ:keepR 36=false:=(rfl)
@[simp] theorem AoF:GS 36=[0,1,2,3,4,9,15]:=(rfl)
@[simp] theorem AmY:keepR 38=false:=(rfl)
@[simp] theorem AoE:GS 38=[0,1,2,4,10,16,22]:=(rfl)
@[simp] theorem AmX:keepR 41=false:=(rfl)
@[simp] theorem AoD:GS 41=[0,1,2,4,5,6,7,8,9,10,16,23,39,45]:=(rfl)
@[simp] theorem AoC:GS 42=[0,1,2,4,5,6,7,8,9,13,18,25]:=(rfl)
@[simp] theorem AlZ:dC 48=false:=(rfl)
@[simp] theorem AmW:keepR 48=false:=(rfl)
@[simp] theorem AoB:GS 48=[0,1,4,5,11,15,25]:=(rfl)
@[simp] theorem AlY:dC 49=false:=(rfl)
@[simp] theorem AmV:keepR 49=false:=(rfl)
@[simp] theorem AoA:GS 49=[0,1,4,10]:=(rfl)
@[simp] theorem AlX:dC 50=false:=(rfl)
@[simp] theorem AmU:keepR 50=false:=(rfl)
@[simp] theorem Ao9:GS 50=[0,1,4,5,11,15,25]:=(rfl)
@[simp] theorem AlW:dC 52=false:=(rfl)
@[simp] theorem Ao8:GS 52=[0,2,3,4,11]:=(rfl)
@[simp] theorem AlV:dC 53=false:=(rfl)
@[simp] theorem Ao7:GS 53=[0,2,3,4,11]:=(rfl)
@[simp] theorem AlU:dC 55=false:=(rfl)
@[simp] theorem AmT:keepR 55=false:=(rfl)
@[simp] theorem Ao6:GS 55=[0,1,4,5,10,14,26]:=(rfl)
@[simp] theorem AlT:dC 56=false:=(rfl)
@[simp] theorem AmS:keepR 56=false:=(rfl)
@[simp] theorem Ao5:GS 56=[0,1,4,5,10,14,26]:=(rfl)
@[simp] theorem AlS:dC 59=false:=(rfl)
@[simp] theorem Ao4:GS 59=[0,2,3,4,5,6,7,14,38,39,40,76,77,78]:=(rfl)
@[simp] theorem AlR:dC 60=false:=(rfl)
@[simp] theorem AmR:keepR 60=true:=(rfl)
@[simp] theorem Ao3:GS 60=[0,1,2,3,4]:=(rfl)
@[simp] theorem AlQ:dC 62=false:=(rfl)
@[simp] theorem AmQ:keepR 62=true:=(rfl)
@[simp] theorem Ao2:GS 62=[0,1,2,3,4,5,19,37]:=(rfl)
@[simp] theorem AlP:dC 64=false:=(rfl)
@[simp] theorem AmP:keepR 64=false:=(rfl)
@[simp] theorem Ao1:GS 64=[0,1,2,4,5,6,7,8,9,11,20,24,42]:=(rfl)
@[simp] theorem AlO:dC 65=false:=(rfl)
@[simp] theorem AmO:keepR 65=false:=(rfl)
@[simp] theorem Ao0:GS 65=[0,1,2,3,5,6,7,8,9,10,19,30,40]:=(rfl)
@[simp] theorem AlN:dC 68=false:=(rfl)
@[simp] theorem AmN:keepR 68=false:=(rfl)
@[simp] theorem AnZ:GS 68=[0,1,2,4,7]:=(rfl)
@[simp] theorem AlM:dC 69=false:=(rfl)
@[simp] theorem AmM:keepR 69=false:=(rfl)
@[simp] theorem AnY:GS 69=[0,1,4,6,9,10,11,12,13,26]:=(rfl)
@[simp] theorem AlL:dC 70=false:=(rfl)
@[simp] theorem AmL:keepR 70=false:=(rfl)
@[simp] theorem AnX:GS 70=[0,1,2,3,8,9,10,11,12,19,37]:=(rfl)
@[simp] theorem AlK:dC 71=false:=(rfl)
@[simp] theorem AmK:keepR 71=false:=(rfl)
@[simp] theorem AnW:GS 71=[0,1,2,4,7]:=(rfl)
@[simp] theorem AmJ:keepR 72=false:=(rfl)
@[simp] theorem AnV:GS 72=[0,1,4,5,9]:=(rfl)
@[simp] theorem AmI:keepR 73=false:=(rfl)
@[simp] theorem AnU:GS 73=[0,1,4,5,9]:=(rfl)
@[simp] theorem AlJ:dC 74=false:=(rfl)
@[simp] theorem AmH:keepR 74=false:=(rfl)
@[simp] theorem AnT:GS 74=[0,1,4,5,9,17]:=(rfl)
@[simp] theorem AlI:dC 75=false:=(rfl)
@[simp] theorem AmG:keepR 75=false:=(rfl)
@[simp] theorem AnS:GS 75=[0,1,4,5,9,18,27,39,49,60]:=(rfl)
@[simp] theorem AlH:dC 76=false:=(rfl)
@[simp] theorem AmF:keepR 76=false:=(rfl)
@[simp] theorem AnR:GS 76=[0,1,4,5,9,18,27,38,47,56]:=(rfl)
@[simp] theorem AlG:dC 77=false:=(rfl)
@[simp] theorem AmE:keepR 77=false:=(rfl)
@[simp] theorem AnQ:GS 77=[0,2]:=(rfl)
@[simp] theorem AnP:GS 78=[0,1,4,5,6,9,10,12]:=(rfl)
@[simp] theorem AlF:dC 82=false:=(rfl)
@[simp] theorem AmD:keepR 82=false:=(rfl)
@[simp] theorem AnO:GS 82=[0,1,2,4,10]:=(rfl)
@[simp] theorem AlE:dC 84=false:=(rfl)
@[simp] theorem AnN:GS 84=[0,1,2,3]:=(rfl)
@[simp] theorem AlD:dC 87=false:=(rfl)
@[simp] theorem AmC:keepR 87=false:=(rfl)
@[simp] theorem AnM:GS 87=[0,1,2,3,4,9,14,20,26]:=(rfl)
@[simp] theorem AlC:dC 91=false:=(rfl)
@[simp] theorem AmB:keepR 91=true:=(rfl)
@[simp] theorem AnL:GS 91=[0,2,3,6]:=(rfl)
@[simp] theorem AlB:dC 92=true:=(rfl)
@[simp] theorem AnK:GS 92=[0,2,3,4,5,6,13,37,38,39]:=(rfl)
@[simp] theorem AlA:dC 93=false:=(rfl)
@[simp] theorem AmA:keepR 93=true:=(rfl)
@[simp] theorem AnJ:GS 93=[0,2,3,6]:=(rfl)
@[simp] theorem Al9:dC 94=false:=(rfl)
@[simp] theorem Am9:keepR 94=true:=(rfl)
@[simp] theorem AnI:GS 94=[0,2,3,6]:=(rfl)
@[simp] theorem Am8:keepR 95=false:=(rfl)
@[simp] theorem AnH:GS 95=[0,1,2]:=(rfl)
@[simp] theorem Al8:dC 96=false:=(rfl)
@[simp] theorem Am7:keepR 96=false:=(rfl)
@[simp] theorem AnG:GS 96=[0,1,2,3,8,9,11,12,14,28,35,40,41,42,58]:=(rfl)
@[simp] theorem Al7:dC 98=false:=(rfl)
@[simp] theorem Am6:keepR 98=false:=(rfl)
@[simp] theorem AnF:GS 98=[0,1,2,3,4,16]:=(rfl)
@[simp] theorem Af5:dC 100=true:=(rfl)
@[simp] theorem AhH:keepR 100=true:=(rfl)
@[simp] theorem AjX:GS 100=[0,1,2,4,6,7,18]:=(rfl)
@[simp] theorem Af4:dC 101=false:=(rfl)
@[simp] theorem AhG:keepR 101=false:=(rfl)
@[simp] theorem AjW:GS 101=[0,1,2,4,5,6,10,22]:=(rfl)
@[simp] theorem Af3:dC 102=false:=(rfl)
@[simp] theorem AhF:keepR 102=false:=(rfl)
@[simp] theorem AjV:GS 102=[0,1,2,3,6,7,8,9,10,11,12,13,14,24,71,99,120]:=(rfl)
@[simp] theorem Af2:dC 103=false:=(rfl)
@[simp] theorem AhE:keepR 103=false:=(rfl)
@[simp] theorem AjU:GS 103=[0,1,2,3,5,6,7,10]:=(rfl)
@[simp] theorem Af1:dC 104=false:=(rfl)
@[simp] theorem AhD:keepR 104=false:=(rfl)
@[simp] theorem AjT:GS 104=[0,1,2,3,6,7,8,9,23,28,41,47,48,55,61,70,74,82,106,114,122,126,131,144]:=(rfl)
@[simp] theorem Af0:dC 108=false:=(rfl)
@[simp] theorem AhC:keepR 108=false:=(rfl)
@[simp] theorem AjS:GS 108=[0,2,4,12,13,14,15,16,21]:=(rfl)
@[simp] theorem AeZ:dC 109=false:=(rfl)
@[simp] theorem AhB:keepR 109=false:=(rfl)
@[simp] theorem AjR:GS 109=[0,1,2,6,7,8,9,10,31,60,87,92,106,118,119,120,137]:=(rfl)
@[simp] theorem AeY:dC 110=false:=(rfl)
@[simp] theorem AhA:keepR 110=false:=(rfl)
@[simp] theorem AjQ:GS 110=[0,4,5,6,7,8,16]:=(rfl)
@[simp] theorem AeX:dC 111=false:=(rfl)
@[simp] theorem Ah9:keepR 111=false:=(rfl)
@[simp] theorem AjP:GS 111=[0,4,5,6,21]:=(rfl)
@[simp] theorem AeW:dC 112=false:=(rfl)
@[simp] theorem Ah8:keepR 112=false:=(rfl)
@[simp] theorem AjO:GS 112=[0,1,4,5,6,7,8,16,38]:=(rfl)
@[simp] theorem AeV:dC 113=false:=(rfl)
@[simp] theorem Ah7:keepR 113=false:=(rfl)
@[simp] theorem AjN:GS 113=[0,1,4,5,6,7,8,9,10,18,34]:=(rfl)
@[simp] theorem AeU:dC 114=false:=(rfl)
@[simp] theorem Ah6:keepR 114=false:=(rfl)
@[simp] theorem AjM:GS 114=[0,4,5,6,7,8,16]:=(rfl)
@[simp] theorem AeT:dC 115=false:=(rfl)
@[simp] theorem Ah5:keepR 115=false:=(rfl)
@[simp] theorem AjL:GS 115=[0,1,4,5,6,7,8,9,10,15,37,38,39]:=(rfl)
@[simp] theorem AeS:dC 116=false:=(rfl)
@[simp] theorem Ah4:keepR 116=false:=(rfl)
@[simp] theorem AjK:GS 116=[0,1,4,5,6,7,8,9,10,11,19,36,49]:=(rfl)
@[simp] theorem AeR:dC 117=false:=(rfl)
@[simp] theorem Ah3:keepR 117=false:=(rfl)
@[simp] theorem AjJ:GS 117=[0,4,5,6,7,8,16]:=(rfl)
@[simp] theorem AeQ:dC 118=false:=(rfl)
@[simp] theorem Ah2:keepR 118=false:=(rfl)
@[simp] theorem AjI:GS 118=[0,4,5,30]:=(rfl)
@[simp] theorem AeP:dC 119=false:=(rfl)
@[simp] theorem Ah1:keepR 119=false:=(rfl)
@[simp] theorem AjH:GS 119=[0,1,4,5,6,7,8,9,17]:=(rfl)
@[simp] theorem AeO:dC 120=false:=(rfl)
@[simp] theorem Ah0:keepR 120=false:=(rfl)
@[simp] theorem AjG:GS 120=[0,1,4,5,6,7,8,9,10,11,26,50,51,52,71]:=(rfl)
@[simp] theorem AeN:dC 121=false:=(rfl)
@[simp] theorem AgZ:keepR 121=false:=(rfl)
@[simp] theorem AjF:GS 121=[0,2,3,7,15]:=(rfl)
@[simp] theorem AgY:keepR 122=false:=(rfl)
@[simp] theorem AjE:GS 122=[0,1,2]:=(rfl)
@[simp] theorem AeM:dC 123=false:=(rfl)
@[simp] theorem AgX:keepR 123=false:=(rfl)
@[simp] theorem AjD:GS 123=[0,1,2,3]:=(rfl)
@[simp] theorem AeL:dC 124=false:=(rfl)
@[simp] theorem AgW:keepR 124=false:=(rfl)
@[simp] theorem AjC:GS 124=[0,1,2,3,4,9,14]:=(rfl)
@[simp] theorem AeK:dC 132=false:=(rfl)
@[simp] theorem AgV:keepR 132=false:=(rfl)
@[simp] theorem AjB:GS 132=[0,1,2,6]:=(rfl)
@[simp] theorem AeJ:dC 136=false:=(rfl)
@[simp] theorem AgU:keepR 136=false:=(rfl)
@[simp] theorem AjA:GS 136=[0,1,2,3,6,7,8,9,10,11,12,13,14,26,42,62,81,112,150,169,190,212]:=(rfl)
@[simp] theorem AeI:dC 137=false:=(rfl)
@[simp] theorem AgT:keepR 137=true:=(rfl)
@[simp] theorem Aj9:GS 137=[0,1,4,5,6,10]:=(rfl)
@[simp] theorem AeH:dC 138=false:=(rfl)
@[simp] theorem AgS:keepR 138=false:=(rfl)
@[simp] theorem Aj8:GS 138=[0,1,2,4,5,6,9,27]:=(rfl)
@[simp] theorem AeG:dC 139=false:=(rfl)
@[simp] theorem AgR:keepR 139=false:=(rfl)
@[simp] theorem Aj7:GS 139=[0,1,2,3,4,6,7,9,12,14,16]:=(rfl)
@[simp] theorem AeF:dC 140=false:=(rfl)
@[simp] theorem AgQ:keepR 140=false:=(rfl)
@[simp] theorem Aj6:GS 140=[0,1,2,4]:=(rfl)
@[simp] theorem AeE:dC 141=false:=(rfl)
@[simp] theorem AgP:keepR 141=false:=(rfl)
@[simp] theorem Aj5:GS 141=[0,1,4,5,9,18,21]:=(rfl)
@[simp] theorem AeD:dC 142=false:=(rfl)
@[simp] theorem AgO:keepR 142=false:=(rfl)
@[simp] theorem Aj4:GS 142=[0,1,4,5,9,35]:=(rfl)
@[simp] theorem AeC:dC 143=false:=(rfl)
@[simp] theorem AgN:keepR 143=false:=(rfl)
@[simp] theorem Aj3:GS 143=[0,2]:=(rfl)
@[simp] theorem AeB:dC 146=false:=(rfl)
@[simp] theorem AgM:keepR 146=false:=(rfl)
@[simp] theorem Aj2:GS 146=[0,2,3,4,5,7,10,13,15]:=(rfl)
@[simp] theorem AeA:dC 147=false:=(rfl)
@[simp] theorem AgL:keepR 147=false:=(rfl)
@[simp] theorem Aj1:GS 147=[0,1,2,6,7,8,13,14,21,22,26,27,35,46,47,48,59,65]:=(rfl)
@[simp] theorem Ae9:dC 148=false:=(rfl)
@[simp] theorem AgK:keepR 148=false:=(rfl)
@[simp] theorem Aj0:GS 148=[0,1,4,5,6,22]:=(rfl)
@[simp] theorem Ae8:dC 149=false:=(rfl)
@[simp] theorem AgJ:keepR 149=false:=(rfl)
@[simp] theorem AiZ:GS 149=[0,1,2,3,4]:=(rfl)
@[simp] theorem Ae7:dC 150=false:=(rfl)
@[simp] theorem AgI:keepR 150=false:=(rfl)
@[simp] theorem AiY:GS 150=[0,1,2,3,4]:=(rfl)
@[simp] theorem Ae6:dC 151=false:=(rfl)
@[simp] theorem AgH:keepR 151=false:=(rfl)
@[simp] theorem AiX:GS 151=[0,2,3,4,9,19,20,21]:=(rfl)
@[simp] theorem Ae5:dC 152=false:=(rfl)
@[simp] theorem AgG:keepR 152=false:=(rfl)
@[simp] theorem AiW:GS 152=[0,1,2,3,5,6,7,8]:=(rfl)
@[simp] theorem Ae4:dC 153=false:=(rfl)
@[simp] theorem AgF:keepR 153=false:=(rfl)
@[simp] theorem AiV:GS 153=[0,1,3,4]:=(rfl)
@[simp] theorem Ae3:dC 154=true:=(rfl)
@[simp] theorem AgE:keepR 154=false:=(rfl)
@[simp] theorem AiU:GS 154=[0,1,3]:=(rfl)
@[simp] theorem Ae2:dC 155=true:=(rfl)
@[simp] theorem AgD:keepR 155=false:=(rfl)
@[simp] theorem AiT:GS 155=[0,1,2,4,7]:=(rfl)
@[simp] theorem Ae1:dC 156=false:=(rfl)
@[simp] theorem AgC:keepR 156=false:=(rfl)
@[simp] theorem AiS:GS 156=[0,2]:=(rfl)
@[simp] theorem Ae0:dC 157=false:=(rfl)
@[simp] theorem AgB:keepR 157=false:=(rfl)
@[simp] theorem AiR:GS 157=[0,1,2,3,6,7,8,10,14,18,19,20,26,27,28,29,38]:=(rfl)
@[simp] theorem AdZ:dC 158=false:=(rfl)
@[simp] theorem AgA:keepR 158=false:=(rfl)
@[simp] theorem AiQ:GS 158=[0,1,2,3,4,6,7,8,9,14,20,21,22,30,42]:=(rfl)
@[simp] theorem AdY:dC 165=false:=(rfl)
@[simp] theorem Ag9:keepR 165=false:=(rfl)
@[simp] theorem AiP:GS 165=[0,1,2,3,6]:=(rfl)
@[simp] theorem AdX:dC 167=false:=(rfl)
@[simp] theorem Ag8:keepR 167=false:=(rfl)
@[simp] theorem AiO:GS 167=[0,1,2,3,4]:=(rfl)
@[simp] theorem AdW:dC 168=false:=(rfl)
@[simp] theorem Ag7:keepR 168=false:=(rfl)
@[simp] theorem AiN:GS 168=[0,1,2,3,6,7]:=(rfl)
@[simp] theorem AdV:dC 169=false:=(rfl)
@[simp] theorem Ag6:keepR 169=false:=(rfl)
@[simp] theorem AiM:GS 169=[0,1,2,3,6]:=(rfl)
@[simp] theorem AdU:dC 170=false:=(rfl)
@[simp] theorem Ag5:keepR 170=false:=(rfl)
@[simp] theorem AiL:GS 170=[0,1,4,5,6,11]:=(rfl)
@[simp] theorem AdT:dC 171=false:=(rfl)
@[simp] theorem Ag4:keepR 171=false:=(rfl)
@[simp] theorem AiK:GS 171=[0,1,2,3,6,7,24,29,41,43,44,57]:=(rfl)
@[simp] theorem AdS:dC 174=false:=(rfl)
@[simp] theorem Ag3:keepR 174=false:=(rfl)
@[simp] theorem AiJ:GS 174=[0,1,4,5,7,10,11,12,13,14,24]:=(rfl)
@[simp] theorem AdR:dC 175=false:=(rfl)
@[simp] theorem Ag2:keepR 175=false:=(rfl)
@[simp] theorem AiI:GS 175=[0,1,2,4]:=(rfl)
@[simp] theorem AdQ:dC 176=false:=(rfl)
@[simp] theorem Ag1:keepR 176=false:=(rfl)
@[simp] theorem AiH:GS 176=[0,1,4,5,6,12,39,40,41]:=(rfl)
@[simp] theorem AdP:dC 177=true:=(rfl)
@[simp] theorem Ag0:keepR 177=false:=(rfl)
@[simp] theorem AiG:GS 177=[0,1,3,8]:=(rfl)
@[simp] theorem AdO:dC 178=false:=(rfl)
@[simp] theorem AfZ:keepR 178=false:=(rfl)
@[simp] theorem AiF:GS 178=[0,1,4,5,6,10,11,20,37,38,50,54,59]:=(rfl)
@[simp] theorem AdN:dC 179=false:=(rfl)
@[simp] theorem AfY:keepR 179=false:=(rfl)
@[simp] theorem AiE:GS 179=[0,2,3,4,9,10,11]:=(rfl)
@[simp] theorem AdM:dC 180=false:=(rfl)
@[simp] theorem AfX:keepR 180=false:=(rfl)
@[simp] theorem AiD:GS 180=[0,1,2,6,7,27,32,33,34,46]:=(rfl)
@[simp] theorem AdL:dC 181=true:=(rfl)
@[simp] theorem AfW:keepR 181=false:=(rfl)
@[simp] theorem AiC:GS 181=[0,1,3,8]:=(rfl)
@[simp] theorem AdK:dC 189=false:=(rfl)
@[simp] theorem AfV:keepR 189=false:=(rfl)
@[simp] theorem AiB:GS 189=[0,1,3,4,5,8,17]:=(rfl)
@[simp] theorem AdJ:dC 190=false:=(rfl)
@[simp] theorem AfU:keepR 190=false:=(rfl)
@[simp] theorem AiA:GS 190=[0,1,2,4,5,6,7,9,10,17,29,30,42,46,49,66,76,84,89]:=(rfl)
@[simp] theorem AdI:dC 191=false:=(rfl)
@[simp] theorem AfT:keepR 191=false:=(rfl)
@[simp] theorem Ai9:GS 191=[0,1,4,5,6,7,8,12,18,26]:=(rfl)
@[simp] theorem AdH:dC 192=false:=(rfl)
@[simp] theorem AfS:keepR 192=false:=(rfl)
@[simp] theorem Ai8:GS 192=[0,2,3,4,7,10]:=(rfl)
@[simp] theorem AdG:dC 193=false:=(rfl)
@[simp] theorem AfR:keepR 193=false:=(rfl)
@[simp] theorem Ai7:GS 193=[0,1,2]:=(rfl)
@[simp] theorem AdF:dC 194=false:=(rfl)
@[simp] theorem AfQ:keepR 194=false:=(rfl)
@[simp] theorem Ai6:GS 194=[0,1,2,3,6]:=(rfl)
@[simp] theorem AdE:dC 195=false:=(rfl)
@[simp] theorem AfP:keepR 195=false:=(rfl)
@[simp] theorem Ai5:GS 195=[0,1,2,6,7,8,28,62,90,95,96,97,109]:=(rfl)
@[simp] theorem AdD:dC 196=false:=(rfl)
@[simp] theorem AfO:keepR 196=false:=(rfl)
@[simp] theorem Ai4:GS 196=[0,1,2,3,6]:=(rfl)
@[simp] theorem AdC:dC 197=false:=(rfl)
@[simp] theorem AfN:keepR 197=false:=(rfl)
@[simp] theorem Ai3:GS 197=[0,1,2,6,7,9,11,17,19,20,21,22,26,27,28,29,46,54,66]:=(rfl)
@[simp] theorem AdB:dC 202=false:=(rfl)
@[simp] theorem AfM:keepR 202=false:=(rfl)
@[simp] theorem Ai2:GS 202=[0,1,4,5,6,18,32]:=(rfl)
@[simp] theorem AdA:dC 203=false:=(rfl)
@[simp] theorem AfL:keepR 203=false:=(rfl)
@[simp] theorem Ai1:GS 203=[0,1,2,3,6]:=(rfl)
@[simp] theorem Ad9:dC 204=false:=(rfl)
@[simp] theorem AfK:keepR 204=false:=(rfl)
@[simp] theorem Ai0:GS 204=[0,1,2,6,7,8,9,11,15,29]:=(rfl)
@[simp] theorem Ad8:dC 205=false:=(rfl)
@[simp] theorem AfJ:keepR 205=false:=(rfl)
@[simp] theorem AhZ:GS 205=[0,2,3,4,7,10]:=(rfl)
@[simp] theorem Ad7:dC 206=false:=(rfl)
@[simp] theorem AfI:keepR 206=false:=(rfl)
@[simp] theorem AhY:GS 206=[0,1,2,4]:=(rfl)
@[simp] theorem Ad6:dC 207=false:=(rfl)
@[simp] theorem AfH:keepR 207=false:=(rfl)
@[simp] theorem AhX:GS 207=[0,2,3,5,9,10,11,12,19]:=(rfl)
@[simp] theorem Ad5:dC 208=false:=(rfl)
@[simp] theorem AfG:keepR 208=false:=(rfl)
@[simp] theorem AhW:GS 208=[0,1,2,4,5,6,7,16,25,33,34,42,50,58]:=(rfl)
@[simp] theorem Ad4:dC 209=false:=(rfl)
@[simp] theorem AfF:keepR 209=false:=(rfl)
@[simp] theorem AhV:GS 209=[0,1,2,4,5,6,7,8,16,32,34,35,43,51,59]:=(rfl)
@[simp] theorem Ad3:dC 210=false:=(rfl)
@[simp] theorem AfE:keepR 210=false:=(rfl)
@[simp] theorem AhU:GS 210=[0,2,3,4,7]:=(rfl)
@[simp] theorem Ad2:dC 211=false:=(rfl)
@[simp] theorem AfD:keepR 211=false:=(rfl)
@[simp] theorem AhT:GS 211=[0,2]:=(rfl)
@[simp] theorem Ad1:dC 212=false:=(rfl)
@[simp] theorem AfC:keepR 212=false:=(rfl)
@[simp] theorem AhS:GS 212=[0]:=(rfl)
@[simp] theorem Ad0:dC 213=false:=(rfl)
@[simp] theorem AfB:keepR 213=false:=(rfl)
@[simp] theorem AhR:GS 213=[0,2,4]:=(rfl)
@[simp] theorem AcZ:dC 214=false:=(rfl)
@[simp] theorem AfA:keepR 214=false:=(rfl)
@[simp] theorem AhQ:GS 214=[0,2,3,7]:=(rfl)
@[simp] theorem AcY:dC 215=false:=(rfl)
@[simp] theorem Af9:keepR 215=false:=(rfl)
@[simp] theorem AhP:GS 215=[0,2,3]:=(rfl)
@[simp] theorem AcX:dC 216=false:=(rfl)
@[simp] theorem Af8:keepR 216=false:=(rfl)
@[simp] theorem AhO:GS 216=[0,2,4]:=(rfl)
@[simp] theorem AcW:dC 217=false:=(rfl)
@[simp] theorem Af7:keepR 217=false:=(rfl)
@[simp] theorem AhN:GS 217=[0,1,4,5,12]:=(rfl)
@[simp] theorem AcV:dC 218=false:=(rfl)
@[simp] theorem Af6:keepR 218=false:=(rfl)
@[simp] theorem AhM:GS 218=[0,2,4]:=(rfl)
@[simp] theorem AjZ:wS 113=true:=(rfl)
noncomputable def AQT:FuncId→Option (List AV→StL→Option (AV×StL))
 | 92=>some YC
 | 59=>some YB
 | _=>none
noncomputable def C0:Ctx:={ P:=Tryz.prog,G:=GS,ownArgs:=dC,keepRes:=keepR,eqT:=wS,prim:=AQT }
@[simp] theorem dk3:bN Tryz.prog 3=some (.int .i64):=by kernel_rfl
@[simp] theorem sz3:jD Tryz.prog 3=some 1:=by kernel_rfl
@[simp] theorem by3:AAX Tryz.prog 3=some 8:=by kernel_rfl
@[simp] theorem ze3:zeroOf Tryz.prog 3=some [(.int .i64 0)]:=by kernel_rfl
@[simp] theorem dk4:bN Tryz.prog 4=some .bool:=by kernel_rfl
@[simp] theorem sz4:jD Tryz.prog 4=some 1:=by kernel_rfl
@[simp] theorem ze4:zeroOf Tryz.prog 4=some [(.bool false)]:=by kernel_rfl
@[simp] theorem sz6:jD Tryz.prog 6=some 1:=by kernel_rfl
@[simp] theorem AY6:jD Tryz.prog 10=some 1:=by kernel_rfl
@[simp] theorem AbE:jD Tryz.prog 11=some 1:=by kernel_rfl
@[simp] theorem Ap0:bN Tryz.prog 22=some (.slice 111):=by kernel_rfl
@[simp] theorem Al4:jD Tryz.prog 22=some 1:=by kernel_rfl
@[simp] theorem AoZ:bN Tryz.prog 23=some (.slice 3):=by kernel_rfl
@[simp] theorem Al3:jD Tryz.prog 23=some 1:=by kernel_rfl
@[simp] theorem Ap4:AAX Tryz.prog 23=some 24:=by kernel_rfl
@[simp] theorem AkV:zeroOf Tryz.prog 23=some [(.slice none 0 0)]:=by kernel_rfl
@[simp] theorem AoY:bN Tryz.prog 24=some (.slice 26):=by kernel_rfl
@[simp] theorem Al2:jD Tryz.prog 24=some 1:=by kernel_rfl
@[simp] theorem AoX:bN Tryz.prog 26=some .strct:=by kernel_rfl
@[simp] theorem Al1:jD Tryz.prog 26=some 5:=by kernel_rfl
@[simp] theorem Ac6:eB Tryz.prog 26 0=some (3,0):=by kernel_rfl
@[simp] theorem Ac5:eB Tryz.prog 26 1=some (3,1):=by kernel_rfl
@[simp] theorem Ac4:eB Tryz.prog 26 2=some (22,2):=by kernel_rfl
@[simp] theorem Ac3:eB Tryz.prog 26 3=some (23,3):=by kernel_rfl
@[simp] theorem Ac2:eB Tryz.prog 26 4=some (24,4):=by kernel_rfl
@[simp] theorem AoW:bN Tryz.prog 31=some (.slice 115):=by kernel_rfl
@[simp] theorem Al0:jD Tryz.prog 31=some 1:=by kernel_rfl
@[simp] theorem AoV:bN Tryz.prog 32=some (.slice 34):=by kernel_rfl
@[simp] theorem AkZ:jD Tryz.prog 32=some 1:=by kernel_rfl
@[simp] theorem AoU:bN Tryz.prog 34=some .strct:=by kernel_rfl
@[simp] theorem AkY:jD Tryz.prog 34=some 5:=by kernel_rfl
@[simp] theorem Ap3:AAX Tryz.prog 34=some 88:=by kernel_rfl
@[simp] theorem AkU:zeroOf Tryz.prog 34=some [(.int .i64 0),(.int .i64 0),(.slice none 0 0),(.slice none 0 0),(.slice none 0 0)]:=by kernel_rfl
@[simp] theorem Ac1:eB Tryz.prog 34 0=some (3,0):=by kernel_rfl
@[simp] theorem Ac0:eB Tryz.prog 34 1=some (3,1):=by kernel_rfl
@[simp] theorem AbZ:eB Tryz.prog 34 2=some (31,2):=by kernel_rfl
@[simp] theorem AbY:eB Tryz.prog 34 3=some (23,3):=by kernel_rfl
@[simp] theorem AbX:eB Tryz.prog 34 4=some (32,4):=by kernel_rfl
@[simp] theorem AoT:bN Tryz.prog 37=some (.slice 48):=by kernel_rfl
@[simp] theorem AoS:bN Tryz.prog 48=some .strct:=by kernel_rfl
@[simp] theorem AkX:jD Tryz.prog 48=some 2:=by kernel_rfl
@[simp] theorem Ap2:AAX Tryz.prog 48=some 32:=by kernel_rfl
@[simp] theorem AkT:zeroOf Tryz.prog 48=some [(.int .i64 0),(.slice none 0 0)]:=by kernel_rfl
@[simp] theorem AbW:eB Tryz.prog 48 0=some (3,0):=by kernel_rfl
@[simp] theorem AbV:eB Tryz.prog 48 1=some (23,1):=by kernel_rfl
@[simp] theorem AoR:bN Tryz.prog 83=some .other:=by kernel_rfl
@[simp] theorem AnE:UR Tryz.prog 83=true:=by kernel_rfl
@[simp] theorem AkW:jD Tryz.prog 83=some 1:=by kernel_rfl
@[simp] theorem Ap1:AAX Tryz.prog 83=some 8:=by kernel_rfl
@[simp] theorem AkS:zeroOf Tryz.prog 83=some [(.pointer none)]:=by kernel_rfl
@[simp] theorem AkC:bN Tryz.prog 109=some .strct:=by kernel_rfl
@[simp] theorem AcP:jD Tryz.prog 109=some 2:=by kernel_rfl
@[simp] theorem AaT:eB Tryz.prog 109 0=some (4,0):=by kernel_rfl
@[simp] theorem AaS:eB Tryz.prog 109 1=some (3,1):=by kernel_rfl
@[simp] theorem AkB:bN Tryz.prog 111=some .strct:=by kernel_rfl
@[simp] theorem AcO:jD Tryz.prog 111=some 5:=by kernel_rfl
@[simp] theorem AaR:eB Tryz.prog 111 0=some (3,0):=by kernel_rfl
@[simp] theorem AaQ:eB Tryz.prog 111 1=some (3,1):=by kernel_rfl
@[simp] theorem AaP:eB Tryz.prog 111 2=some (109,2):=by kernel_rfl
@[simp] theorem AaO:eB Tryz.prog 111 3=some (22,4):=by kernel_rfl
@[simp] theorem AkA:bN Tryz.prog 113=some .strct:=by kernel_rfl
@[simp] theorem AcN:jD Tryz.prog 113=some 2:=by kernel_rfl
@[simp] theorem AkI:AAX Tryz.prog 113=some 16:=by kernel_rfl
@[simp] theorem AcG:zeroOf Tryz.prog 113=some [(.bool false),(.int .i64 0)]:=by kernel_rfl
@[simp] theorem AaN:eB Tryz.prog 113 0=some (4,0):=by kernel_rfl
@[simp] theorem AaM:eB Tryz.prog 113 1=some (3,1):=by kernel_rfl
@[simp] theorem Ak9:bN Tryz.prog 115=some .strct:=by kernel_rfl
@[simp] theorem AcM:jD Tryz.prog 115=some 5:=by kernel_rfl
@[simp] theorem AkH:AAX Tryz.prog 115=some 56:=by kernel_rfl
@[simp] theorem AcF:zeroOf Tryz.prog 115=some [(.int .i64 0),(.int .i64 0),(.bool false),(.int .i64 0),(.slice none 0 0)]:=by kernel_rfl
@[simp] theorem AaL:eB Tryz.prog 115 0=some (3,0):=by kernel_rfl
@[simp] theorem AaK:eB Tryz.prog 115 1=some (3,1):=by kernel_rfl
@[simp] theorem AaJ:eB Tryz.prog 115 2=some (113,2):=by kernel_rfl
@[simp] theorem AaI:eB Tryz.prog 115 3=some (31,4):=by kernel_rfl
@[simp] theorem Ak8:bN Tryz.prog 118=some .other:=by kernel_rfl
@[simp] theorem AcL:jD Tryz.prog 118=some 1:=by kernel_rfl
@[simp] theorem AkG:AAX Tryz.prog 118=some 8:=by kernel_rfl
@[simp] theorem AcE:zeroOf Tryz.prog 118=some [(.pointer none)]:=by kernel_rfl
@[simp] theorem Ak7:bN Tryz.prog 124=some (.slice 83):=by kernel_rfl
@[simp] theorem Ak6:bN Tryz.prog 132=some (.slice 23):=by kernel_rfl
@[simp] theorem Ak5:bN Tryz.prog 141=some .other:=by kernel_rfl
@[simp] theorem AcK:jD Tryz.prog 141=some 1:=by kernel_rfl
@[simp] theorem Ak4:bN Tryz.prog 142=some (.array 12 141):=by kernel_rfl
@[simp] theorem AcJ:jD Tryz.prog 142=some 12:=by kernel_rfl
@[simp] theorem AcD:zeroOf Tryz.prog 142=some [(.nilFunc),(.nilFunc),(.nilFunc),(.nilFunc),(.nilFunc),(.nilFunc),(.nilFunc),(.nilFunc),(.nilFunc),(.nilFunc),(.nilFunc),(.nilFunc)]:=by kernel_rfl
@[simp] theorem Ak3:bN Tryz.prog 150=some .other:=by kernel_rfl
@[simp] theorem AcI:jD Tryz.prog 150=some 1:=by kernel_rfl
@[simp] theorem Ak2:bN Tryz.prog 158=some (.slice 118):=by kernel_rfl
@[simp] theorem Ak1:bN Tryz.prog 167=some (.array 2 3):=by kernel_rfl
@[simp] theorem AcC:zeroOf Tryz.prog 167=some [(.int .i64 0),(.int .i64 0)]:=by kernel_rfl
@[simp] theorem Ak0:bN Tryz.prog 184=some (.slice 113):=by kernel_rfl
end Go.Proofs.YtjdfjgmebalaaaaGreat
namespace Go.Av
def fnT (fn:Func):Bool:=(fn.name != "runtime.NumGoroutine") && match fn.body with
 | some c=>codeOk fn.ntmps c
 | none=>true
theorem AEA {α:Type} {p:α→Bool} {l:List α} (c n:Nat) (hc:0<c) (hl:l.length≤c*n) (h:∀ i,i<n→((l.drop (c*i)).take c).all p=true):l.all p=true:=by
 rw[zO];intro x hx;obtain⟨j,hj,rfl⟩:=List.getElem_of_mem hx;have hd:c*(j / c)+j % c=j:=Nat.div_add_mod j c;have hm:j % c<c:=Nat.mod_lt _ hc
 have hi:j / c<n:=by
  rw[Nat.div_lt_iff_lt_mul hc,yV];omega
 refine zO.1 (h (j / c) hi) _ ?_;refine zU (i:=j % c) ?_;rw[zD,if_pos hm,yI,hd,zX hj]
theorem AHZ {P:Program} (h:P.funcs.toList.all fnT=true):AAF P=true:=h
end Go.Av
namespace Go.Proofs.YtjdfjgmebalaaaaGreat
open Go Go.Av
set_option maxHeartbeats 2000000
theorem ft:LX Tryz.prog=true:=by kernel_rfl
theorem nt0:((Tryz.prog.funcs.toList.drop (25*0)).take 25).all fnT=true:=by kernel_rfl
theorem nt1:((Tryz.prog.funcs.toList.drop (25*1)).take 25).all fnT=true:=by kernel_rfl
theorem nt2:((Tryz.prog.funcs.toList.drop (25*2)).take 25).all fnT=true:=by kernel_rfl
theorem nt3:((Tryz.prog.funcs.toList.drop (25*3)).take 25).all fnT=true:=by kernel_rfl
theorem nt4:((Tryz.prog.funcs.toList.drop (25*4)).take 25).all fnT=true:=by kernel_rfl
theorem nt5:((Tryz.prog.funcs.toList.drop (25*5)).take 25).all fnT=true:=by kernel_rfl
theorem nt6:((Tryz.prog.funcs.toList.drop (25*6)).take 25).all fnT=true:=by kernel_rfl
theorem nt7:((Tryz.prog.funcs.toList.drop (25*7)).take 25).all fnT=true:=by kernel_rfl
theorem nt8:((Tryz.prog.funcs.toList.drop (25*8)).take 25).all fnT=true:=by kernel_rfl
theorem nt9:((Tryz.prog.funcs.toList.drop (25*9)).take 25).all fnT=true:=by kernel_rfl
theorem ntl:Tryz.prog.funcs.toList.length≤25*10:=zR (by kernel_rfl)
theorem nt:AAF Tryz.prog=true:=AHZ (AEA 25 10 (by decide) ntl fun i hi=>by
 have h:i=0∨i=1∨i=2∨i=3∨i=4∨i=5∨i=6∨i=7∨i=8∨i=9:=by omega
 rcases h with rfl|rfl|rfl|rfl|rfl|rfl|rfl|rfl|rfl|rfl
 ·exact nt0
 ·exact nt1
 ·exact nt2
 ·exact nt3
 ·exact nt4
 ·exact nt5
 ·exact nt6
 ·exact nt7
 ·exact nt8
 ·exact nt9)
theorem mo:Tryz.prog.follows .mixedOrders=true:=by kernel_rfl
theorem eqS:∀ t,wS t=true→AAJ Tryz.prog t=true:=by
 intro t h;unfold wS at h;split at h
 ·kernel_rfl
 ·kernel_rfl
 ·kernel_rfl
 ·cases h
@[simp] theorem C_P:C0.P=Tryz.prog:=(rfl)
@[simp] theorem C_G (f):C0.G f=GS f:=(rfl)
@[simp] theorem C_o (f):C0.ownArgs f=dC f:=(rfl)
@[simp] theorem C_k (f):C0.keepRes f=keepR f:=(rfl)
@[simp] theorem C_e (f):C0.eqT f=wS f:=(rfl)
@[simp] theorem C_t:C0.tree=false:=(rfl)
theorem wrap64 {x:Int} (h1:-9223372036854775808≤x) (h2:x<9223372036854775808):IntKind.i64.wrap x=x:=by
 unfold IntKind.wrap;simp[IntKind.signed,IntKind.bits];omega
theorem wrO {n:Int} (h1:-9223372036854775808≤n:=by omega) (h2:n<9223372036854775808:=by omega):IntKind.i64.wrap n=n:=wrap64 h1 h2
abbrev Rd (l:List UInt8) (p:Int):Option Blk:=some (.box [.i (.isl (qQ l)), .int p])
set_option maxRecDepth 4000
noncomputable def C1:Ctx:={ P:=Tryz.prog,G:=GS,ownArgs:=dC,keepRes:=keepR,eqT:=wS,prim:=fun _=>none }
@[simp] theorem AqY:C1.P=Tryz.prog:=(rfl)
@[simp] theorem AqZ (f):C1.G f=GS f:=(rfl)
@[simp] theorem AqV (f):C1.ownArgs f=dC f:=(rfl)
@[simp] theorem AqW (f):C1.keepRes f=keepR f:=(rfl)
@[simp] theorem AqX (f):C1.eqT f=wS f:=(rfl)
@[simp] theorem AqU:C1.tree=false:=(rfl)
theorem AI9:aI C1 91 [.i (.isl [])] []=some (.nils,[]):=by
 rw[aF rfl Tryz.func91 rfl rfl];simp
theorem AAN {ks:List Ex} (h:ks≠[]) (hl:ks.length<1000000000):aI C1 91 [.i (.isl (Ex.aB ks))] []=some (.osl 0 5 0 ks.length,[some (.arr 5 (Ex.aB ks))]):=by
 rw[aF rfl Tryz.func91 rfl rfl];have h1:56*(ks.length:Int)≤281474976710656:=by omega
 simp[h,h1];unfold over;simp
theorem iA:SoundOk C1:=gF (C:=C1) ft nt eqS mo (AGA fun _=>rfl)
def ptr (p:Nat×Nat):IV:=.lit (.pointer (some ⟨p.1,p.2,none⟩))
def zc:List AV:=[.int 0, .int 0, .bool false, .int 0, .nils]
def ASZ (p:Nat×Nat):AS:={ env:=[(0, .i (ptr p))],st:=[] }
def Ab9 (e:Ex) (p:Nat×Nat):AS:={ env:=[(0, .i (ptr p)),(2, .own 0 0),(3, .own 1 0),(4, .junk),(5, .junk),(6, .junk),(13, .junk),(37, .junk),(38, .junk),(39, .junk)],st:=[some (.box zc),some (.box (jW e.cells))] }
def SL (b3:Nat) (todo X:KL):AS :=
 { env:=[(0, .junk),(2, .own 0 0),(3, .i (ptr (b3,0))),(4, .osl 1 1 0 todo.length),(5, .junk),(6, .junk),(13, .junk),(37, .junk),(38, .junk),(39, .junk)],st:=[some (.box zc),some (.arr 1 ((todo++X).map fun k=>[ptr k.1]))] }
theorem K6:∀ (l:KL),∀ c∈(l.map fun k=>[ptr k.1]).flatten,∃ v,c=.lit v
 | [],c,h=>by simp at h
 | k::l,c,h=>by
  simp only[yS,yZ,zV,xB]at h
  rcases h with rfl|h
  ·exact⟨_,rfl⟩
  ·exact K6 l c h
def PP (b3:Nat) (b o n:Nat) (x:Ex) (ES:List (List IV)) (env:Nat→AV) (st:Store):Prop :=
 env 2=.own 0 0∧env 3=.i (ptr (b3,0))∧env 4=.osl 1 1 0 n∧env 5=.i (ptr (b,o))∧env 32=.i (ptr (b,o+4))∧st 0=some (.box zc)∧st 1=some (.arr 1 ES) ∧
  ((env 30=.nils∧x.kids=[])∨∃ id,env 30=.osl id 5 0 x.kids.length∧x.kids≠[]∧st id=some (.arr 5 (Ex.aB x.kids))∧2≤id)
theorem AET:IntKind.i64.wrap 1=1:=wrO
def RW (init:KL) (b' i:Nat):List (List IV):=(init.map fun k=>[ptr k.1])++(List.range i).map fun j=>[ptr (b',j*5)]
theorem WC (init:KL) (b' i:Nat):(RW init b' i).length=init.length+i:=by simp[RW]
theorem MM (init:KL) (b' i:Nat):RW init b' i++[[ptr (b',i*5)]]=RW init b' (i+1):=by simp[RW,zB7]
theorem qM (b:Nat):∀ (o:Nat) (l:List Ex),(bL b o l).map (fun k=>[ptr k.1])=(List.range l.length).map fun j=>[ptr (b,o+j*5)]
 | _,[]=>by simp[bL]
 | o,a::l=>by
  simp only[bL,yS,qM b (o+5) l,zQ,zD3,List.map_map];simp only[List.cons.injEq,Nat.zero_mul,xQ,true_and];apply zC7;intro j _;simp only[Function.comp,Nat.succ_eq_add_one];rw[show o+5+j*5=o+(j+1)*5 by omega]
theorem qN (b:Nat):∀ (o:Nat) (l:List Ex),(bL b o l).length=l.length
 | _,[]=>rfl
 | o,a::l=>by simp[bL,qN b (o+5) l]
theorem qL (b:Nat):∀ (o:Nat) (l:List Ex),((bL b o l).map fun k=>k.2.size).sum=Ex.aM l
 | _,[]=>rfl
 | o,a::l=>by simp[bL,Ex.aM,qL b (o+5) l]
def YS (b3 b' cap:Nat) (x:Ex) (init:KL) (ES:List (List IV)) (i:Nat):AS :=
 { env:=[(0, .junk),(2, .own 0 0),(3, .i (ptr (b3,0))),(4,if i=0 then .osl 1 1 0 init.length else .osl 2 1 0 (init.length+i)),(5, .i (.iref [.int x.kind, .int x.col, .bool x.val.null, .int x.val.n, .lit (.slice (some ⟨b',0,none⟩) x.kids.length cap)])),(6,jk i (.int (i-1))),(13, .junk),(37, .int x.kids.length),(38, .int i),(39,jk i (.bool true))],
   st:=some (.box zc)::if i=0 then [some (.arr 1 ES)]else [none,some (.arr 1 (RW init b' i))] }
set_option maxHeartbeats 1000000
theorem VB {e:Ex} (he:e.size<1000000000) {wi:World} {mi:Mem} {b o:Nat} (hi:Inv wi mi (fun _=>none) (aR []))
 (hrun:∀ w',wi.heap.size≤w'.heap.size→(∀ f,f<wi.heap.size→w'.heap[f]?=wi.heap[f]?)→∃ y,(Instr.loadAt 115 (.pointer (some ⟨b,o,none⟩))).run C1.P w'=.ok y w'∧IRep mi (.agg e.cells) y) :
 Calls Tryz.prog 92 #[.pointer (some ⟨b,o,none⟩)] wi (bF wi mi (fun _=>none) (.i (.agg e.cells)) []):=by
 refine calls_of_wp (fn:=Tryz.f92) Tryz.func92 rfl ?_
 have g0:GG wi mi 52 (fun id=>id<(ASZ (b,o)).st.length) [] (aN (ASZ (b,o)).env) (aR (ASZ (b,o)).st) { tmps:=[Value.pointer (some ⟨b,o,none⟩)].toArray++Array.replicate (52-1) undef,defers:=[] } wi:=by
  refine⟨⟨mi,fun _=>none,hi,?_, .refl _ _ _,fun id h=>absurd rfl h,fun k hk=>by simp at hk⟩,by simp,rfl⟩;intro t;have:=kR (m:=mi) (φ:=fun _=>none) (52-1) (show RepL mi (fun _=>none) [.i (ptr (b,o))] [.pointer (some ⟨b,o,none⟩)]from .cons (.i (.lit _)) .nil) t
  cases t with
  | zero=>simpa [ASZ,aN,qU]using this
  | succ t=>simp only[ASZ,aN];simp;exact .junk _
 refine wp_seq (wp_mono (GG.dW iA (G:=GS 92) (S:=ASZ (b,o)) (e:=.normal) (S':={ env:=[(0, .i (ptr (b,o))),(2, .own 0 0),(3, .junk),(4, .junk),(5, .junk),(6, .junk),(13, .junk),(37, .junk),(38, .junk),(39, .junk)],st:=[some (.box zc)] }) (by kernel_rfl) (by simp[ASZ,zc,ptr]) g0) ?_);rintro _ a1 w1 ⟨rfl,g1⟩
 refine wp_seq (GG.AQO iA (os1:=[_,_]) (os2:=[_,_]) (G:=GS 92) (S:={ env:=[(0, .i (ptr (b,o))),(2, .own 0 0),(3, .junk),(4, .junk),(5, .junk),(6, .junk),(13, .junk),(37, .junk),(38, .junk),(39, .junk)],st:=[some (.box zc)] }) (S':=Ab9 e (b,o)) rfl (by
  have h:∀ ops:Array Oper,ops.all (iM 52)=true→∀ o∈ops,iM 52 o=true:=fun ops h o ho=>yB.1 h o ho
  exact h _ (by kernel_rfl)) g1 (by decide) hrun ?_ ?_)
 ·rw[Ex.aA];simp[Ab9,zc,ptr,Ex.aA]
 intro a2 w2 g2
 obtain⟨b3,g3⟩:=g2.pub (u:=3) (id:=1) (e:=e) (st':=aR [some (.box zc)]) (ok':=fun id=>id<1) rfl rfl (by
  intro i blk h
  cases i with
  | zero=>simp[aR]at h;subst h;exact⟨by omega,rfl,by simp[gT,zc]⟩
  | succ i=>simp[aR]at h) (by
  intro i h
  cases i with
  | zero=>omega
  | succ i=>simp[aR]at h)
 have g3:=g3 (aN [(2, .own 0 0),(3, .i (ptr (b3,0)))]) (by
  intro t;simp only[aN];by_cases h2:t=2
  ·subst h2;exact .inr (.inr ⟨rfl,by simp[Ab9,aN,kD,aR]⟩)
  ·by_cases h3:t=3
   ·subst h3;exact .inr (.inl ⟨rfl,rfl⟩)
   ·simp[h2,h3])
 refine wp_seq (wp_mono (GG.dW iA (G:=GS 92) (S:={ env:=[(2, .own 0 0),(3, .i (ptr (b3,0)))],st:=[some (.box zc)] }) (e:=.normal) (S':=SL b3 [((b3,0),e)] []) (by kernel_rfl) (by simp[SL,ptr,zc]) g3) ?_);rintro _ a3 w3 ⟨rfl,g4⟩;refine wp_seq (wp_block ?_);refine tQ (fun n a w=>∃ todo X K:KL,(∀ k∈todo,k∈K)∧((b3,0),e)∈K∧(todo.map fun k=>k.2.size).sum=n∧n<1000000000∧GG wi mi 52 (fun id=>id<(SL b3 todo X).st.length) K (aN (SL b3 todo X).env) (aR (SL b3 todo X).st) a w) ?_ (n:=e.size) ⟨[((b3,0),e)],[],[((b3,0),e)],fun k hk=>hk,by simp,by simp,he,g4⟩;rintro n a w ⟨todo,X,K,hsub,hb3,hsum,hn,g⟩
 rcases zC1 todo with rfl|⟨init,k,rfl⟩
 ·refine wp_mono (GG.dW iA (G:=GS 92) (S:=SL b3 [] X) (e:=.exit 0) (S':={ env:=[(0, .junk),(2, .own 0 0),(3, .i (ptr (b3,0))),(4, .osl 1 1 0 0),(5, .junk),(6, .junk),(13, .bool false),(37, .junk),(38, .junk),(39, .junk)],st:=[some (.box zc),some (.arr 1 (X.map fun k=>[ptr k.1]))] }) (by kernel_rfl) (by simp[SL,ptr,zc]) g) ?_;rintro _ a5 w5 ⟨rfl,g5⟩;simp only[iF,Exit.then,Exit.inBlock,if_true]
  have g6:=(g5.see (u:=3) (b:=b3) (o:=0) rfl hb3).envTo (env':=aN [(2, .own 0 0),(3, .i (.iref e.cells))]) (by
   intro t;simp only[aN,upd];by_cases h2:t=2
   ·subst h2;simp
   ·by_cases h3:t=3
    ·subst h3;simp
    ·simp[h2,h3])
  refine wp_mono (GG.dW iA (G:=GS 92) (S:={ env:=[(2, .own 0 0),(3, .i (.iref e.cells))],st:=[some (.box zc),some (.arr 1 (X.map fun k=>[ptr k.1]))] }) (e:=.ret) (S':={ env:=[(0, .junk),(2, .own 0 0),(3, .i (.iref e.cells)),(4, .junk),(5, .junk),(6, .junk),(13, .junk),(37, .junk),(38, .junk),(39, .junk)],st:=[some (.box (jW e.cells)),some (.arr 1 (X.map fun k=>[ptr k.1]))] }) (by kernel_rfl) (by simp[zc]) g6) ?_;rintro _ a6 w6 ⟨rfl,g7⟩;obtain⟨⟨m,φ,q1,q2,q3,q4,q5⟩,q6,q7⟩:=g7
  obtain⟨v,k1,k2⟩:=eU (C:=C1) (fn:=Tryz.f92) (keep:=false) (na:=0) (S:={ env:=[(0, .junk),(2, .own 0 0),(3, .i (.iref e.cells)),(4, .junk),(5, .junk),(6, .junk),(13, .junk),(37, .junk),(38, .junk),(39, .junk)],st:=[some (.box (jW e.cells)),some (.arr 1 (X.map fun k=>[ptr k.1]))] }) (r:=.i (.agg e.cells)) (stl':=[]) (fun id h=>absurd rfl h) ⟨⟨⟨m,φ,q1,q2,q3,q4, .nil _ _ _⟩,q6,q7⟩,zB0 _⟩ (by
   show finish C1 false [ResultVar.cell 2 115] 0 _=_
   simp)
  exact⟨q7,v,k1,k2⟩
 ·clear g0 g4 g3 g1 g2;obtain⟨⟨b,o⟩,x⟩:=k
  have hlen:∀ l:KL,l.length≤(l.map fun k=>k.2.size).sum:=by
   intro l
   induction l with
   | nil=>simp
   | cons a l ih=>have:=Ex.mZ a.2;simp;omega
  have hil:=hlen init;simp at hsum;have hxk:((b,o),x)∈K:=hsub _ (by simp);have hxs:=Ex.size_eq x;have hkl:=Ex.bP x.kids;have hne:¬ ((init.length:Int)+1≤0):=by omega
  have hpos:(0:Int)<(init.length:Int)+1:=by omega
  have w1:IntKind.i64.wrap (init.length:Int)=init.length:=wrO;generalize hES:((init++[((b,o),x)]++X).map fun k=>[ptr k.1])=ES
  have hnth:fU ES init.length=some [ptr (b,o)]:=by
   rw[fI,← hES];simp
  have hlit:∀ c∈ES.flatten,∃ v,c=.lit v:=by rw[← hES];exact K6 _
  have hlt:(init.length:Int)<(init.length:Int)+1:=by omega
  have hlt2:(init.length:Int)≤(init.length:Int)+1:=by omega
  refine wp_seq (wp_mono (GG.dW iA (G:=GS 92) (S:=SL b3 (init++[((b,o),x)]) X) (e:=.normal) (S':={ env:=[(0, .junk),(2, .own 0 0),(3, .i (ptr (b3,0))),(4, .osl 1 1 0 (init.length+1)),(5, .junk),(6, .junk),(13, .bool true),(37, .junk),(38, .junk),(39, .junk)],st:=[some (.box zc),some (.arr 1 ES)] }) (by kernel_rfl) (by simp only[SL,hES];simp[ptr,zc,hpos]) (by simpa using g)) ?_);rintro _ a5 w5 ⟨rfl,g5⟩;clear g;refine wp_block ?_;refine wp_seq (wp_mono (GG.dW iA (G:=GS 92) (S:={ env:=[(0, .junk),(2, .own 0 0),(3, .i (ptr (b3,0))),(4, .osl 1 1 0 (init.length+1)),(5, .junk),(6, .junk),(13, .bool true),(37, .junk),(38, .junk),(39, .junk)],st:=[some (.box zc),some (.arr 1 ES)] }) (e:=.normal) (S':={ env:=[(0, .junk),(2, .own 0 0),(3, .i (ptr (b3,0))),(4, .osl 1 1 0 (init.length+1)),(5,(.i (ptr (b,o)))),(6, .junk),(13, .bool true),(37, .junk),(38, .junk),(39, .junk)],st:=[some (.box zc),some (.arr 1 ES)] }) (by kernel_rfl) (by simp only[ptr]at hnth;simp[ptr,zc,hnth,w1,hlt]) g5) ?_);rintro _ a6 w6 ⟨rfl,g6⟩;clear g5;refine wp_seq (wp_mono (GG.dW iA (G:=GS 92) (S:={ env:=[(0, .junk),(2, .own 0 0),(3, .i (ptr (b3,0))),(4, .osl 1 1 0 (init.length+1)),(5,(.i (ptr (b,o)))),(6, .junk),(13, .bool true),(37, .junk),(38, .junk),(39, .junk)],st:=[some (.box zc),some (.arr 1 ES)] }) (e:=.normal) (S':={ env:=[(0, .junk),(2, .own 0 0),(3, .i (ptr (b3,0))),(4, .osl 1 1 0 init.length),(5,(.i (ptr (b,o)))),(6, .junk),(13, .bool true),(37, .junk),(38, .junk),(39, .junk)],st:=[some (.box zc),some (.arr 1 ES)] }) (by kernel_rfl) (by simp[ptr,zc,w1,hlt2]) g6) ?_);rintro _ a7 w7 ⟨rfl,g7⟩;clear g6
  refine wp_seq (GG.region iA (os1:=[_,_]) (os2:=[_,_,_,_,_,_]) (u:=26) (PP:=PP b3 b o init.length x ES) rfl (by
   have h:∀ ops:Array Oper,ops.all (iM 52)=true→∀ o∈ops,iM 52 o=true:=fun ops h o ho=>yB.1 h o ho
   exact h _ (by kernel_rfl)) g7 hxk ?_ ?_)
  ·rw[Ex.aA];by_cases hx:x.kids=[]
   ·simp[ptr,zc,hx,PP,Ex.aB,AI9]
   ·simp[ptr,zc,PP,AAN hx (by omega),hx]
  ·rintro env st a8 w8 ⟨p2,p3,p4,p5,p32,q0,q1,p30⟩ g8;clear g7
   obtain⟨w9,b',ao,cap,e1,e2,hrun,hG⟩:=GG.turn (C:=C1) (ok':=fun id=>id<2) (st':=aR [some (.box zc),some (.arr 1 ES)]) (u:=30) (t:=31) g8 (by simp) hi.mem hxk rfl (by
    rcases p30 with ⟨h1,h2⟩|⟨id,h1,h2,h3,h4⟩
    ·refine .inl ⟨h1,h2,?_⟩;intro i blk h
     rcases i with _|_|i
     ·simp[aR]at h;subst h;exact q0
     ·simp[aR]at h;subst h;exact q1
     ·simp[aR]at h
    ·refine .inr ⟨id,h1,h2,h3,?_⟩;intro i blk h
     rcases i with _|_|i
     ·simp[aR]at h;subst h;exact⟨by omega,q0⟩
     ·simp[aR]at h;subst h;exact⟨by omega,q1⟩
     ·simp[aR]at h) (by
    intro i blk h
    rcases i with _|_|i
    ·simp[aR]at h;subst h;simp[gT,zc]
    ·simp[aR]at h;subst h;exact hlit
    ·simp[aR]at h) (by
    intro i h
    rcases i with _|_|i
    ·omega
    ·omega
    ·simp[aR]at h)
   have ev5:=g8.ACT (t:=5) p5;have ev32:=g8.ACT (t:=32) p32
   refine ND (C:=C1) (w':=w9) rfl (by
    show(Instr.storeAt 31 (a8.tmps.getD 32 undef) (a8.tmps.getD 30 undef)).run C1.P w8=_
    rw[ev32];exact hrun) ?_
   have g9:=hG (aN [(2, .own 0 0),(3, .i (ptr (b3,0))),(4, .osl 1 1 0 init.length),(5,(.i (.iref [.int x.kind, .int x.col, .bool x.val.null, .int x.val.n, .lit (.slice ao x.kids.length cap)])))]) (by
    intro t;simp only[aN];by_cases h2:t=2
    ·subst h2;exact .inr (.inr ⟨by simp[p2],by rw[p2];simp[kD,aR]⟩)
    by_cases h3:t=3
    ·subst h3;exact .inr (.inr ⟨by simp[p3],by rw[p3];simp[kD,ptr]⟩)
    by_cases h4:t=4
    ·subst h4;exact .inr (.inr ⟨by simp[p4],by rw[p4];simp[kD,aR]⟩)
    by_cases h5:t=5
    ·subst h5;exact .inr (.inl ⟨ev5,by simp⟩)
    ·simp[h2,h3,h4,h5])
   clear hG g8;show Code.wp _ _ _ _ _;refine wp_seq (wp_mono (GG.dW iA (G:=GS 92) (S:={ env:=[(2, .own 0 0),(3, .i (ptr (b3,0))),(4, .osl 1 1 0 init.length),(5,(.i (.iref [.int x.kind, .int x.col, .bool x.val.null, .int x.val.n, .lit (.slice ao x.kids.length cap)])))],st:=[some (.box zc),some (.arr 1 ES)] }) (e:=.normal) (S':={ env:=[(0, .junk),(2, .own 0 0),(3, .i (ptr (b3,0))),(4, .osl 1 1 0 init.length),(5,(.i (.iref [.int x.kind, .int x.col, .bool x.val.null, .int x.val.n, .lit (.slice ao x.kids.length cap)]))),(6, .junk),(13, .junk),(37, .int x.kids.length),(38, .int 0),(39, .junk)],st:=[some (.box zc),some (.arr 1 ES)] }) (by kernel_rfl) (by simp[ptr,zc]) g9) ?_);rintro _ a10 w10 ⟨rfl,g10⟩;clear g9;by_cases hx:x.kids=[]
   ·refine wp_mono (GG.dW iA (G:=GS 92) (S:={ env:=[(0, .junk),(2, .own 0 0),(3, .i (ptr (b3,0))),(4, .osl 1 1 0 init.length),(5,(.i (.iref [.int x.kind, .int x.col, .bool x.val.null, .int x.val.n, .lit (.slice ao x.kids.length cap)]))),(6, .junk),(13, .junk),(37, .int x.kids.length),(38, .int 0),(39, .junk)],st:=[some (.box zc),some (.arr 1 ES)] }) (e:=.normal) (S':={ env:=[(0, .junk),(2, .own 0 0),(3, .i (ptr (b3,0))),(4, .osl 1 1 0 init.length),(5,(.i (.iref [.int x.kind, .int x.col, .bool x.val.null, .int x.val.n, .lit (.slice ao x.kids.length cap)]))),(6, .junk),(13, .junk),(37, .int x.kids.length),(38, .int 0),(39, .bool false)],st:=[some (.box zc),some (.arr 1 ES)] }) (by kernel_rfl) (by
     simp only[hx,yT];simp;rw[aG]
     simp[ptr,zc]) g10) ?_
    rintro _ a11 w11 ⟨rfl,g11⟩;simp only[iF,Exit.then,Exit.inBlock];refine⟨n-1,by omega,init,((b,o),x)::X,K++bL b' 0 x.kids,fun k hk=>yJ _ (hsub k (by simp[hk])),yJ _ hb3,?_,by omega,?_⟩
    ·rw[hx]at hxs;simp[Ex.aM]at hxs;omega
    ·have hES2:((init++((b,o),x)::X).map fun k=>[ptr k.1])=ES:=by rw[← hES];simp
     simp only[SL,hES2]
     exact g11.envTo (by
      intro t;simp only[aN];by_cases h2:t=2
      ·subst h2;simp
      by_cases h3:t=3
      ·subst h3;simp
      by_cases h4:t=4
      ·subst h4;simp
      ·simp[h2,h3,h4])
   ·obtain rfl:=e2 hx;have hET:ES.take init.length=RW init b' 0:=by rw[← hES];simp[RW]
    have hEL:init.length≤ES.length:=by rw[← hES];simp
    have hlim:∀ i,i≤x.kids.length→(init.length+i+1)*8≤140737488355328:=fun i hi=>by omega
    have hk0:x.kids.length≠0:=fun h=>hx (zW.1 h)
    refine wp_mono (GG.dW iA (G:=GS 92) (S:={ env:=[(0, .junk),(2, .own 0 0),(3, .i (ptr (b3,0))),(4, .osl 1 1 0 init.length),(5,(.i (.iref [.int x.kind, .int x.col, .bool x.val.null, .int x.val.n, .lit (.slice (some ⟨b',0,none⟩) x.kids.length cap)]))),(6, .junk),(13, .junk),(37, .int x.kids.length),(38, .int 0),(39, .junk)],st:=[some (.box zc),some (.arr 1 ES)] }) (e:=.normal) (S':={ env:=[(0, .junk),(2, .own 0 0),(3, .i (ptr (b3,0))),(4, .osl 2 1 0 (init.length+x.kids.length)),(5,(.i (.iref [.int x.kind, .int x.col, .bool x.val.null, .int x.val.n, .lit (.slice (some ⟨b',0,none⟩) x.kids.length cap)]))),(6, .int (x.kids.length-1)),(13, .junk),(37, .int x.kids.length),(38, .int x.kids.length),(39, .bool false)],st:=[some (.box zc),none,some (.arr 1 (RW init b' x.kids.length))] }) (by kernel_rfl) (by
     simp;rw[aT (YS b3 b' cap x init ES) x.kids.length (by simp[YS])]
     ·rw[aG];simp[YS,hk0,bU hk0,zc,ptr]
     ·intro i hi;have w2:IntKind.i64.wrap ((i:Int)+1)=i+1:=wrO;have hi0:(i:Int)<x.kids.length:=by omega
      by_cases h0:i=0
      ·subst h0;have hl:(init.length+1)*8≤140737488355328:=by omega
       have hR:RW init b' 0++[[.lit (.pointer (some ⟨b',0,none⟩))]]=RW init b' 1:=by simpa [ptr]using MM init b' 0
       simp[YS,zc,ptr,AET,hi,hET,hEL,hl,hR]
      ·have hl:=hlim i (by omega);have hT:(RW init b' i).take (init.length+i)=RW init b' i:=zZ (by rw[WC];omega);have hR:RW init b' i++[[.lit (.pointer (some ⟨b',i*5,none⟩))]]=RW init b' (i+1):=by simpa [ptr]using MM init b' i
       simp[YS,h0,bU h0,zc,ptr,w2,hi,hT,WC,hl,hR,← Nat.add_assoc]) g10) ?_
    rintro _ a11 w11 ⟨rfl,g11⟩;simp only[iF,Exit.then,Exit.inBlock];refine⟨n-1,by omega,init++bL b' 0 x.kids,[],K++bL b' 0 x.kids,?_,yJ _ hb3,?_,by omega,?_⟩
    ·intro k hk
     rcases zV.1 hk with h|h
     ·exact yJ _ (hsub k (by simp[h]))
     ·exact zC2 _ h
    ·rw[yD,List.sum_append,qL];omega
    ·have g12:=g11.settle [2,3,4]
     have hR:List.map (fun k:(Nat×Nat)×Ex=>[ptr k.1]) (init++bL b' 0 x.kids++[])=RW init b' x.kids.length:=by
      rw[zA,yD,qM];simp[RW]
     have hl:(init++bL b' 0 x.kids).length=init.length+x.kids.length:=by rw[zN,qN]
     simp only[SL,hR,hl]
     have hs:Av.settle [2,3,4] 0 (aN [(0, .junk),(2, .own 0 0),(3, .i (ptr (b3,0))),(4, .osl 2 1 0 (init.length+x.kids.length)),(5, .i (.iref [.int x.kind, .int x.col, .bool x.val.null, .int x.val.n, .lit (.slice (some ⟨b',0,none⟩) x.kids.length cap)])),(6, .int (x.kids.length-1)),(13, .junk),(37, .int x.kids.length),(38, .int x.kids.length),(39, .bool false)]) (aR [some (.box zc),none,some (.arr 1 (RW init b' x.kids.length))])={ env:=[(2, .own 0 0),(3, .i (ptr (b3,0))),(4, .osl 1 1 0 (init.length+x.kids.length))],st:=[some (.box zc),some (.arr 1 (RW init b' x.kids.length))] }:=by
      simp[zc,ptr]
     rw[hs]at g12
     exact g12.envTo (by
      intro t;simp only[aN];by_cases h2:t=2
      ·subst h2;simp
      by_cases h3:t=3
      ·subst h3;simp
      by_cases h4:t=4
      ·subst h4;simp
      ·simp[h2,h3,h4])
theorem AA0 {w:World} {m:Mem} {φ:Pl} {st:Store} {t:TypeId} {a v:AV} {x:Value} (hi:Inv w m φ st) (hr:Rep m φ a x) (h:KT C1 t a st=some v):∃ y,(Instr.loadAt t x).run C1.P w=.ok y w∧Rep m φ v y:=by
 obtain⟨ad,y,k1,k2,k3⟩:=AO hi hr h;exact⟨y,by subst k1;simpa [Instr.loadAt,Instr.sureAddr]using k2,k3⟩
theorem AMA {w:World} {m:Mem} (h:kF w m):Inv w m (fun _=>none) (aR []):=⟨h,fun id blk e=>(by simp[aR]at e),fun i j b b' n n' b1 b2 f e=>(by simp[aR]at e),fun _ _ _ _ e=>(by cases e)⟩
theorem HV {e:Ex} (he:e.size<1000000000) {wi:World} {mi:Mem} {φ:Pl} {vs:List Value} (hi:Inv wi mi φ (aR [])) (hr:RepL mi φ [.i (.iref e.cells)] vs) (h0:∀ id,φ id≠none→id<0) :
 Calls Tryz.prog 92 vs.toArray wi (bF wi mi φ (.i (.agg e.cells)) []):=by
 obtain rfl:φ=fun _=>none:=by
  funext id
  cases h:φ id with
  | none=>rfl
  | some p=>exact absurd (h0 id (by rw[h];simp)) (xW _)
 cases hr with
 | cons h1 h2 =>
  cases h2
  have hp:=h1
  cases h1 with
  | i h1=>cases h1 with
   | iref ha =>
    refine VB he hi fun w' hs hw=>?_
    obtain⟨y,k1,k2⟩:=AA0 (t:=115) (v:=.i (.agg e.cells)) (hi.later hs hw) hp (by rw[Ex.aA];simp)
    cases k2 with
    | i k2=>exact⟨y,k1,k2⟩
theorem ADL {e:Ex} (he:e.size<1000000000) {w:World} {m:Mem} {φ:Pl} {vs:List Value} {es:List (List IV)} {j:Nat} (hes:es[j]?=some e.cells) (hi:Inv w m φ (aR [some (.arr 5 es)])) (hr:RepL m φ [.ownE 0 5 j 0] vs) (h0:∀ id,φ id≠none→id<1) :
 Calls Tryz.prog 92 vs.toArray w (bF w m φ (.i (.agg e.cells)) [some (.arr 5 es)]):=by
 cases hr with
 | cons h1 h2 =>
  cases h2
  have hp:=h1
  cases h1 with
  | ownE hφ =>
   refine(VB he (AMA hi.mem) fun w' hs hw=>?_).mono ?_
   ·obtain⟨y,k1,k2⟩:=AA0 (t:=115) (v:=.i (.agg e.cells)) (hi.later hs hw) hp (by
     have h5:=hes;rw[← fI]at h5
     rw[Ex.aA]at h5 ⊢;simp[h5])
    cases k2 with
    | i k2=>exact⟨y,k1,k2⟩
   ·rintro en w' ⟨v,m',φ',rfl,j1,j2,j3,j4⟩;have free0:∀ b,gK (fun _=>none) b:=fun b id r n e=>by cases e
    have hsame:∀ f,f<w.heap.size→w'.heap[f]?=w.heap[f]?:=fun f hf=>j3.block f hf (free0 f)
    refine⟨v,m',φ,rfl,?_,⟨j2.mem,fun id blk hb=>?_,hi.inj,fun id b n f e ho=>zJ (hi.low id b n f e ho) j3.size⟩,⟨j3.size,j3.os,j3.tape,j3.output,fun b hb' _=>hsame b hb',j3.mle,fun b hb' _ o=>j3.mnew b hb' (free0 b) o, .refl _,fun _ _ _ _ e ho=>.inr (gK.not e ho)⟩,h0⟩
    ·cases j1 with
     | i j1=>exact .i j1
    ·obtain⟨b,n,k1,k2,k3⟩:=hi.live id blk hb;exact⟨b,n,k1,⟨k2.1,fun f hf=>zJ (k2.2 f hf) j3.size⟩,k3.mono k2.1 (fun f hf=>hsame f (k2.2 f hf)) j3.mle (.refl _) fun f hf o=>j3.mnew f (k2.2 f hf) (free0 f) o⟩
end Go.Proofs.YtjdfjgmebalaaaaGreat

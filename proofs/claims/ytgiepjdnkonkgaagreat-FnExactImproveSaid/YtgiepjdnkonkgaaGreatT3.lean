/- Part 3 of what the proof rests on: the executor and what it is worth, and the program's functions as it runs them. No condition. -/
import Derived.Test.YtgiepjdnkonkgaaGreatT2
set_option linter.unusedVariables false
set_option linter.unusedSimpArgs false
namespace Go.Av
mutual
def Ex.bits:Ex→Nat
 | .mk k c _ ks=>if k=1 then 2 ^ c.toNat else Ex.sJ ks
def Ex.sJ:List Ex→Nat
 | []=>0
 | e::es=>Ex.bits e ||| Ex.sJ es
end
theorem Ex.SF {e:Ex} (h:e.kind=1):e.bits=2 ^ e.col.toNat:=by
 cases e;simp[Ex.kind]at h;simp[Ex.bits,h,Ex.col]
theorem Ex.SC {e:Ex} (h:e.kind≠1):e.bits=Ex.sJ e.kids:=by
 cases e;simp[Ex.kind]at h;simp[Ex.bits,h,Ex.kids]
theorem Ex.GA:∀ (l:List Ex) (e:Ex),Ex.sJ (l++[e])=Ex.sJ l ||| e.bits
 | [],e=>by simp[Ex.sJ]
 | a::l,e=>by simp[Ex.sJ,Ex.GA l e,Nat.or_assoc]
theorem Ex.SG {n:Nat}:∀ {l:List Ex},(∀ e∈l,e.bits<2 ^ n)→Ex.sJ l<2 ^ n
 | [],_=>by simp[Ex.sJ];exact Nat.two_pow_pos n
 | a::l,h=>by
  simp only[Ex.sJ];exact zB2 (h a (by simp)) (Ex.SG fun e he=>h e (by simp[he]))
theorem Ex.SE:∀ e:Ex,e.wL (fun c=>decide (0≤c∧c<6))=true→e.bits<2 ^ 6:=by
 intro e
 induction e using Ex.ind with
 | h k c v ks ih =>
  intro ha;rw[Ex.mU]at ha;by_cases h1:k=1
  ·subst h1;simp only[Ex.kind,Ex.col,if_true]at ha;have ha:=zR ha;rw[Ex.SF (by rfl)];exact Nat.pow_lt_pow_right (by omega) (by simp only[Ex.col];omega)
  ·simp only[Ex.kind,Ex.kids,h1,if_false,zQ]at ha;rw[Ex.SC (by simpa [Ex.kind]using h1)];exact Ex.SG fun e he=>ih e he (ha e he)
theorem Ex.WK (i:Nat):∀ l:List Ex,(Ex.sJ l).testBit i=l.any fun e=>e.bits.testBit i
 | []=>by simp[Ex.sJ]
 | a::l=>by simp[Ex.sJ,Ex.WK i l]
theorem Ex.JI (i:Nat):∀ e:Ex,e.wL (fun c=>decide (0≤c))=true→(e.bits.testBit i=true↔e.wL (fun c=>!decide (c=i))=false):=by
 intro e
 induction e using Ex.ind with
 | h k c v ks ih =>
  intro ha;rw[Ex.mU]at ha ⊢;by_cases h1:k=1
  ·subst h1;simp only[Ex.kind,Ex.col,if_true]at ha ⊢;have ha:=zR ha;rw[Ex.SF (by rfl),Nat.testBit_two_pow];simp only[Ex.col];rw[Bool.not_eq_false'];exact⟨fun h=>decide_eq_true (by have:=zR h;omega),fun h=>decide_eq_true (by have:=zR h;omega)⟩
  ·simp only[Ex.kind,Ex.kids,h1,if_false,zQ]at ha ⊢;rw[Ex.SC (by simpa [Ex.kind]using h1),Ex.WK];simp only[Ex.kids,List.any_eq_true];rw[List.all_eq_false];constructor
   ·rintro⟨e,he,hb⟩;exact⟨e,he,by rw[(ih e he (ha e he)).1 hb];simp⟩
   ·rintro⟨e,he,hb⟩;exact⟨e,he,(ih e he (ha e he)).2 (by simpa using hb)⟩
theorem Ex.MU {f:Int→Bool}:∀ e:Ex,e.wL (fun c=>decide (0≤c))=true→(e.wL f=true↔∀ i:Nat,e.wL (fun c=>!decide (c=i))=false→f i=true):=by
 intro e
 induction e using Ex.ind with
 | h k c v ks ih =>
  intro ha;rw[Ex.mU]at ha ⊢;by_cases h1:k=1
  ·subst h1;simp only[Ex.kind,Ex.col,if_true]at ha ⊢;have ha:=zR ha;obtain⟨n,rfl⟩:=yN ha;constructor
   ·intro h i hi;rw[Ex.mU]at hi;simp only[Ex.kind,Ex.col,if_true]at hi;rw[Bool.not_eq_false']at hi;have hi:=zR hi;rw[← hi];exact h
   ·intro h;apply h n;rw[Ex.mU];simp[Ex.kind,Ex.col]
  ·simp only[Ex.kind,Ex.kids,h1,if_false,zQ]at ha ⊢
   have hall:∀ i:Nat,Ex.wL (fun c=>!decide (c=i)) (.mk k c v ks)=ks.all (Ex.wL fun c=>!decide (c=i)):=fun i=>by
    rw[Ex.mU];simp[Ex.kind,Ex.kids,h1]
   constructor
   ·intro h i hi;rw[hall,List.all_eq_false]at hi;obtain⟨e,he,hb⟩:=hi;exact(ih e he (ha e he)).1 (h e he) i (by simpa using hb)
   ·intro h e he;refine(ih e he (ha e he)).2 fun i hi=>h i ?_
    rw[hall,List.all_eq_false];exact⟨e,he,by simp[hi]⟩
theorem ATM {e:Ex} (h:e.wL (fun c=>decide (0≤c))=true) (w:Nat):e.bits / 2 ^ w=0↔e.wL (fun c=>decide (c<w))=true:=by
 rw[Ex.MU e h];constructor
 ·intro h0 i hi;have hb:=(Ex.JI i e h).2 hi;simp only[zM];apply Classical.byContradiction;intro hn
  have:(e.bits / 2 ^ w).testBit (i-w)=true:=by
   rw[Nat.testBit_div_two_pow,show i-w+w=i by omega];exact hb
  rw[h0]at this;simp at this
 ·intro hall;apply Nat.eq_of_testBit_eq;intro i;rw[Nat.testBit_div_two_pow,Nat.zero_testBit]
  cases hb:e.bits.testBit (i+w)with
  | false=>rfl
  | true =>
   have:=hall (i+w) ((Ex.JI (i+w) e h).1 hb);simp only[zM]at this;omega
theorem ATL {e:Ex} (h:e.wL (fun c=>decide (0≤c))=true) (w:Nat):e.bits &&& (2 ^ w-1)=0↔e.wL (fun c=>decide ((w:Int)≤c))=true:=by
 rw[Ex.MU e h];constructor
 ·intro h0 i hi;have hb:=(Ex.JI i e h).2 hi;simp only[zM];apply Classical.byContradiction;intro hn
  have:(e.bits &&& (2 ^ w-1)).testBit i=true:=by
   rw[Nat.testBit_and,hb,Nat.testBit_two_pow_sub_one];simp;omega
  rw[h0]at this;simp at this
 ·intro hall;apply Nat.eq_of_testBit_eq;intro i;rw[Nat.testBit_and,Nat.zero_testBit,Nat.testBit_two_pow_sub_one]
  cases hb:e.bits.testBit i with
  | false=>rfl
  | true =>
   have:=hall i ((Ex.JI i e h).1 hb);simp only[zM]at this;simp;omega
def Pn.small (p:Pn):Prop:=p.size<1000000000∧p.thin∧p.tiny
noncomputable def ANC:List AV→StL→Option (AV×StL)
 | [.i (.iref cs)],[]=>@ite _ (∃ p:Pn,p.small∧p.cells=cs) (Classical.propDecidable _) (some (.i (.agg cs),[])) none
 | _,_=>none
theorem AE5 {args:List AV} {st:StL} {r:AV×StL} (h:ANC args st=some r):∃ p:Pn,p.small∧args=[.i (.iref p.cells)]∧st=[]∧r=(.i (.agg p.cells),[]):=by
 unfold ANC at h;split at h
 ·rename_i cs;by_cases hc:∃ p:Pn,p.small∧p.cells=cs
  ·rw[if_pos hc]at h;obtain⟨p,h1,rfl⟩:=hc;injection h with h;exact⟨p,h1,rfl,rfl,h.symm⟩
  ·rw[if_neg hc]at h;cases h
 ·cases h
inductive KCells (w:World):List IV→List Value→List Nat→Prop
 | nil:KCells w [] [] []
 | lit {v:Value} {cs:List IV} {vs:List Value} {F:List Nat}:v.oneCell'=true→KCells w cs vs F→KCells w (.lit v::cs) (v::vs) F
 | isl0 {ao:Option Addr} {cap:Nat} {cs:List IV} {vs:List Value} {F:List Nat}:(ao=none→cap=0)→KCells w cs vs F→KCells w (.isl []::cs) (.slice ao 0 cap::vs) F
 | isl {b k cap:Nat} {es:List (List IV)} {us:List Value} {G:List Nat} {cs:List IV} {vs:List Value} {F:List Nat}:es≠[]→(∀ j,w.cell? ⟨b,j,none⟩=us[j]?)→0<k→(∀ e∈es,e.length=k)→k*cap≤us.length→es.length≤cap →
  KCells w es.flatten (us.take (k*es.length)) G→KCells w cs vs F→KCells w (.isl es::cs) (.slice (some ⟨b,0,none⟩) es.length cap::vs) (b::G++F)
theorem KCells.frame {w w':World}:∀ {cs:List IV} {vs:List Value} {F:List Nat},KCells w cs vs F→(∀ f∈F,∀ j,w'.cell? ⟨f,j,none⟩=w.cell? ⟨f,j,none⟩)→KCells w' cs vs F
 | _,_,_, .nil,_=>.nil
 | _,_,_, .lit o r,h=>.lit o (r.frame h)
 | _,_,_, .isl0 c r,h=>.isl0 c (r.frame h)
 | _,_,_, .isl hn hr hk hl hf hc g r,h=>.isl hn (fun j=>(h _ (by simp) j).trans (hr j)) hk hl hf hc (g.frame fun f hf=>h f (by simp[hf])) (r.frame fun f hf=>h f (by simp[hf]))
theorem TCells.toK {w:World}:∀ {cs:List IV} {vs:List Value} {F:List Nat},TCells w cs vs F→KCells w cs vs F
 | _,_,_, .nil=>.nil
 | _,_,_, .lit o r=>.lit o r.toK
 | _,_,_, .isl0 c r=>.isl0 c r.toK
 | _,_,_, .isl hn ⟨_,hr,_⟩ hk hl hf hc g r=>.isl hn (fun j=>bG hr j) hk hl hf hc g.toK r.toK
theorem KCells.toT {w:World}:∀ {cs:List IV} {vs:List Value} {F:List Nat},KCells w cs vs F→(∀ f∈F,∃ (us:List Value) (T:TypeId),w.heap[f]?=some (.cells us.toArray T (0,0))∧∀ v∈us,v.oneCell'=true)→TCells w cs vs F
 | _,_,_, .nil,_=>.nil
 | _,_,_, .lit o r,h=>.lit o (r.toT h)
 | _,_,_, .isl0 c r,h=>.isl0 c (r.toT h)
 | _,_,_, .isl (b:=b) (us:=us) hn hr hk hl hf hc g r,h=>by
  obtain⟨us',T,h1,h2⟩:=h b (by simp)
  have:us'=us:=by
   apply List.ext_getElem?;intro j;rw[← bG h1 j,hr j]
  exact .isl hn ⟨T,this ▸ h1,this ▸ h2⟩ hk hl hf hc (g.toT fun f hf=>h f (by simp[hf])) (r.toT fun f hf=>h f (by simp[hf]))
theorem KCells.toI {w:World} {m':Mem}:∀ {cs:List IV} {vs:List Value} {F:List Nat},KCells w cs vs F→(∀ f∈F,∀ j,m' f j=w.cell? ⟨f,j,none⟩)→ICells m' cs vs
 | _,_,_, .nil,_=>.nil
 | _,_,_, .lit o r,h=>.cons (.lit _) o (r.toI h)
 | _,_,_, .isl0 c r,h=>.cons (.isl0 _ _ c) rfl (r.toI h)
 | _,_,_, .isl (b:=b) (k:=k) (es:=es) (us:=us) hn hr hk hl hf hc g r,h=>by
  refine .cons (.isl hn (gV 0 hl (g.toI fun f hf=>h f (by simp[hf])) fun j v hj=>?_) hc) rfl (r.toI fun f hf=>h f (by simp[hf]));rw[zH,h b (by simp),hr];rw[zF]at hj;split at hj
  ·exact hj
  ·cases hj
theorem KCells.one {w:World} {c:IV} {v:Value} {F:List Nat} (h:KCells w [c] [v] F):v.oneCell'=true:=by
 cases h with
 | lit o _=>exact o
 | isl0 _ _=>rfl
 | isl=>rfl
theorem KCells.rep {w:World} {m':Mem} {c:IV} {v:Value} {F:List Nat} (h:KCells w [c] [v] F) (hF:∀ f∈F,∀ j,m' f j=w.cell? ⟨f,j,none⟩):IRep m' c v:=by
 cases h.toI hF with
 | cons a _ _=>exact a
abbrev PL:=List ((Nat×Nat)×Pn)
structure At5 (w:World) (b o:Nat) (v0 v1 v2 v3 v4:Value):Prop where
 c0:w.cell? ⟨b,o,none⟩=some v0
 c1:w.cell? ⟨b,o+1,none⟩=some v1
 c2:w.cell? ⟨b,o+2,none⟩=some v2
 c3:w.cell? ⟨b,o+3,none⟩=some v3
 c4:w.cell? ⟨b,o+4,none⟩=some v4
theorem At5.frame {w w':World} {b o:Nat} {v0 v1 v2 v3 v4:Value} (h:At5 w b o v0 v1 v2 v3 v4) (hw:∀ j,o≤j→j<o+5→w'.cell? ⟨b,j,none⟩=w.cell? ⟨b,j,none⟩):At5 w' b o v0 v1 v2 v3 v4 :=
 ⟨(hw _ (by omega) (by omega)).trans h.c0,(hw _ (by omega) (by omega)).trans h.c1,(hw _ (by omega) (by omega)).trans h.c2,(hw _ (by omega) (by omega)).trans h.c3,(hw _ (by omega) (by omega)).trans h.c4⟩
mutual
inductive TH (w:World) (m:Mem):Pn→Nat→Nat→List Nat→PL→Prop
 | fresh {x:Pn} {b o:Nat} {v0 v1 v2 v3 v4:Value}:ICells m x.cells [v0,v1,v2,v3,v4]→At5 w b o v0 v1 v2 v3 v4→TH w m x b o [] [((b,o),x)]
 | leaf {k t:Int} {es:List Ex} {cs:List Int} {b o:Nat} {vE vC:Value} {FE FC:List Nat}:At5 w b o (.int .i64 k) (.int .i64 t) vE vC (.slice none 0 0)→KCells w [.isl (Ex.aB es)] [vE] FE→KCells w [.isl (aF cs)] [vC] FC→((es=[]→vE=.slice none 0 0)∧(cs=[]→vC=.slice none 0 0))→TH w m (.mk k t es cs []) b o (FE++FC) []
 | node {k t:Int} {es:List Ex} {cs:List Int} {ks:List Pn} {b o b' cap:Nat} {vE vC:Value} {FE FC F:List Nat} {H:PL}:At5 w b o (.int .i64 k) (.int .i64 t) vE vC (.slice (some ⟨b',0,none⟩) ks.length cap)→KCells w [.isl (Ex.aB es)] [vE] FE→KCells w [.isl (aF cs)] [vC] FC→ks≠[]→ks.length≤cap→THL w m ks b' 0 F H→(w.cell? ⟨b',5*cap-1,none⟩).isSome=true→((es=[]→vE=.slice none 0 0)∧(cs=[]→vC=.slice none 0 0))→TH w m (.mk k t es cs ks) b o (FE++FC++(b'::F)) H
inductive THL (w:World) (m:Mem):List Pn→Nat→Nat→List Nat→PL→Prop
 | nil (b o:Nat):THL w m [] b o [] []
 | cons {x:Pn} {xs:List Pn} {b o:Nat} {F1 F2:List Nat} {H1 H2:PL}:TH w m x b o F1 H1→THL w m xs b (o+5) F2 H2→THL w m (x::xs) b o (F1++F2) (H1++H2)
end
theorem At5.some {w:World} {b o:Nat} {v0 v1 v2 v3 v4:Value} (h:At5 w b o v0 v1 v2 v3 v4):∀ i,i<5→(w.cell? ⟨b,o+i,none⟩).isSome=true
 | 0,_=>by rw[yE,h.c0];rfl
 | 1,_=>by rw[h.c1];rfl
 | 2,_=>by rw[h.c2];rfl
 | 3,_=>by rw[h.c3];rfl
 | 4,_=>by rw[h.c4];rfl
 | i+5,h=>by omega
theorem TH.at5 {w:World} {m:Mem} {x:Pn} {b o:Nat} {F:List Nat} {H:PL} (h:TH w m x b o F H):∀ i,i<5→(w.cell? ⟨b,o+i,none⟩).isSome=true:=by
 cases h with
 | fresh _ h2=>exact h2.some
 | leaf h1 _ _ _=>exact h1.some
 | node h1 _ _ _ _ _ _ _=>exact h1.some
mutual
theorem TH.frame {w w':World} {m m':Mem} (hm:MLe m m') {x:Pn} {b o:Nat} {F:List Nat} {H:PL} (hw:∀ j,o≤j→j<o+5→w'.cell? ⟨b,j,none⟩=w.cell? ⟨b,j,none⟩) (hF:∀ f∈F,∀ j,w'.cell? ⟨f,j,none⟩=w.cell? ⟨f,j,none⟩):TH w m x b o F H→TH w' m' x b o F H
 | .fresh h1 h2=>.fresh (h1.mono hm) (h2.frame hw)
 | .leaf h1 h2 h3 h4=>.leaf (h1.frame hw) (h2.frame fun f hf=>hF f (by simp[hf])) (h3.frame fun f hf=>hF f (by simp[hf])) h4
 | .node h1 h2 h3 h4 h5 h6 h7 h8=>.node (h1.frame hw) (h2.frame fun f hf=>hF f (by simp[hf])) (h3.frame fun f hf=>hF f (by simp[hf])) h4 h5 (THL.frame hm (fun j _ _=>hF _ (by simp) j) (fun f hf=>hF f (by simp[hf])) h6) (by rw[hF _ (by simp)];exact h7) h8
theorem THL.frame {w w':World} {m m':Mem} (hm:MLe m m') {xs:List Pn} {b o:Nat} {F:List Nat} {H:PL} (hw:∀ j,o≤j→j<o+5*xs.length→w'.cell? ⟨b,j,none⟩=w.cell? ⟨b,j,none⟩) (hF:∀ f∈F,∀ j,w'.cell? ⟨f,j,none⟩=w.cell? ⟨f,j,none⟩):THL w m xs b o F H→THL w' m' xs b o F H
 | .nil b o=>.nil b o
 | .cons h1 h2=>.cons (TH.frame hm (fun j l1 l2=>hw j l1 (by simp only[zP];omega)) (fun f hf=>hF f (by simp[hf])) h1) (THL.frame hm (fun j l1 l2=>hw j (by omega) (by simp only[zP];omega)) (fun f hf=>hF f (by simp[hf])) h2)
end
mutual
theorem TH.holes {w:World} {m:Mem} {x:Pn} {b o:Nat} {F:List Nat} {H:PL}:TH w m x b o F H→∀ q∈H,q.1=(b,o)∨q.1.1∈F
 | .fresh _ _,q,hq=>by simp at hq;subst hq;exact .inl rfl
 | .leaf _ _ _ _,q,hq=>by simp at hq
 | .node _ _ _ _ _ h6 _ _,q,hq=>by
  rcases THL.holes h6 q hq with ⟨h,_⟩|h
  ·exact .inr (by simp[h])
  ·exact .inr (by simp[h])
theorem THL.holes {w:World} {m:Mem} {xs:List Pn} {b o:Nat} {F:List Nat} {H:PL}:THL w m xs b o F H→∀ q∈H,(q.1.1=b∧o≤q.1.2)∨q.1.1∈F
 | .nil _ _,q,hq=>by simp at hq
 | .cons h1 h2,q,hq=>by
  rcases zV.1 hq with h|h
  ·rcases TH.holes h1 q h with e|e
   ·exact .inl ⟨by rw[e],by rw[e];exact zO _⟩
   ·exact .inr (by simp[e])
  ·rcases THL.holes h2 q h with ⟨e1,e2⟩|e
   ·exact .inl ⟨e1,by omega⟩
   ·exact .inr (by simp[e])
end
mutual
theorem TH.fill {w w':World} {m m':Mem} (hm:MLe m m') {bq oq:Nat} {y:Pn} {G:List Nat} {HY:PL} (hy:TH w' m' y bq oq G HY) {x:Pn} {b o:Nat} {F:List Nat} {H:PL}:TH w m x b o F H→b ∉ F→F.Nodup→((bq,oq),y)∈H →
 (∀ f∈b::F,∀ j,(f≠bq∨j<oq∨oq+5≤j)→w'.cell? ⟨f,j,none⟩=w.cell? ⟨f,j,none⟩)→∃ F' H',TH w' m' x b o F' H'∧F'.Perm (F++G)∧(((bq,oq),y)::H').Perm (H++HY)
 | .fresh _ _,_,_,hq,_=>by
  simp at hq;obtain⟨⟨rfl,rfl⟩,rfl⟩:=hq;exact⟨G,HY,hy,by simp,by simp⟩
 | .leaf _ _ _ _,_,_,hq,_=>by simp at hq
 | .node h1 h2 h3 h4 h5 h6 h7 h8,hb,hn,hq,hw=>by
  rename_i b' cap vE vC FE FC F;have hn2:=(zJ.1 hn).2.1;have hb':b' ∉ F:=(yX.1 hn2).1
  have hD:∀ f∈FE++FC,f≠bq:=fun f hf e=>by
   rcases THL.holes h6 _ hq with ⟨e1,_⟩|e1
   ·exact(zJ.1 hn).2.2 f hf b' (by simp) (by rw[e];exact e1)
   ·exact(zJ.1 hn).2.2 f hf bq (by simp at e1;simp[e1]) e
  have hne:b≠bq:=by
   intro e
   rcases THL.holes h6 _ hq with ⟨e1,_⟩|e1
   ·exact hb (by simp at e1;simp[e,e1])
   ·exact hb (by simp at e1;simp[e,e1])
  obtain⟨F',H',k1,k2,k3⟩:=THL.fill hm hy h6 hb' (yX.1 hn2).2 hq (fun f hf j hj=>hw f (by rcases zS.1 hf with rfl|h<;>simp[*]) j hj)
  have h7':(w'.cell? ⟨b',5*cap-1,none⟩).isSome=true:=by
   by_cases hj:b'≠bq∨5*cap-1<oq∨oq+5≤5*cap-1
   ·rw[hw b' (by simp) _ hj];exact h7
   ·have hbq:b'=bq:=by omega
    obtain⟨i,hi,e⟩:∃ i,i<5∧5*cap-1=oq+i:=⟨5*cap-1-oq,by omega,by omega⟩
    rw[hbq,e];exact hy.at5 i hi
  refine⟨FE++FC++(b'::F'),H', .node (h1.frame fun j _ _=>hw b (by simp) j (.inl hne)) (h2.frame fun f hf j=>hw f (by simp[hf]) j (.inl (hD f (by simp[hf])))) (h3.frame fun f hf j=>hw f (by simp[hf]) j (.inl (hD f (by simp[hf])))) h4 h5 k1 h7' h8,?_,k3⟩;rw[yZ (FE++FC)];exact(k2.cons b').append_left _
theorem THL.fill {w w':World} {m m':Mem} (hm:MLe m m') {bq oq:Nat} {y:Pn} {G:List Nat} {HY:PL} (hy:TH w' m' y bq oq G HY) {xs:List Pn} {b o:Nat} {F:List Nat} {H:PL}:THL w m xs b o F H→b ∉ F→F.Nodup→((bq,oq),y)∈H →
 (∀ f∈b::F,∀ j,(f≠bq∨j<oq∨oq+5≤j)→w'.cell? ⟨f,j,none⟩=w.cell? ⟨f,j,none⟩)→∃ F' H',THL w' m' xs b o F' H'∧F'.Perm (F++G)∧(((bq,oq),y)::H').Perm (H++HY)
 | .nil _ _,_,_,hq,_=>by simp at hq
 | .cons (F1:=F1) (F2:=F2) (H1:=H1) (H2:=H2) h1 h2,hb,hn,hq,hw=>by
  have hb1:b ∉ F1:=fun h=>hb (by simp[h])
  have hb2:b ∉ F2:=fun h=>hb (by simp[h])
  obtain⟨n1,n2,n3⟩:=zJ.1 hn
  rcases zV.1 hq with h|h
  ·obtain⟨F',H',k1,k2,k3⟩:=TH.fill hm hy h1 hb1 n1 h (fun f hf j hj=>hw f (by rcases zS.1 hf with rfl|h<;>simp[*]) j hj);refine⟨F'++F2,H'++H2, .cons k1 (THL.frame hm (fun j l1 l2=>hw b (by simp) j ?_) (fun f hf j=>hw f (by simp[hf]) j (.inl ?_)) h2),?_,?_⟩
   ·rcases TH.holes h1 _ h with e|e
    ·simp at e;exact .inr (.inr (by omega))
    ·exact .inl fun e2=>hb1 (by simp at e;rw[e2];exact e)
   ·rcases TH.holes h1 _ h with e|e
    ·simp at e;intro e2;rw[e2,e.1]at hf;exact hb2 hf
    ·simp at e;intro e2;rw[e2]at hf;exact n3 _ e _ hf rfl
   ·have:=k2.append_right F2;refine this.trans ?_;rw[yZ,yZ];exact(List.perm_append_comm (l₁:=G) (l₂:=F2)).append_left F1
   ·have:=k3.append_right H2;rw[yV]at this;refine this.trans ?_;rw[yZ,yZ];exact(List.perm_append_comm (l₁:=HY) (l₂:=H2)).append_left H1
  ·obtain⟨F',H',k1,k2,k3⟩:=THL.fill hm hy h2 hb2 n2 h (fun f hf j hj=>hw f (by rcases zS.1 hf with rfl|h<;>simp[*]) j hj);refine⟨F1++F',H1++H', .cons (TH.frame hm (fun j l1 l2=>hw b (by simp) j ?_) (fun f hf j=>hw f (by simp[hf]) j (.inl ?_)) h1) k1,?_,?_⟩
   ·rcases THL.holes h2 _ h with ⟨e1,e2⟩|e
    ·simp at e2;exact .inr (.inl (by omega))
    ·exact .inl fun e2=>hb2 (by simp at e;rw[e2];exact e)
   ·rcases THL.holes h2 _ h with ⟨e1,_⟩|e
    ·simp at e1;intro e2;rw[e2,e1]at hf;exact hb1 hf
    ·simp at e;intro e2;rw[e2]at hf;exact n3 _ hf _ e rfl
   ·rw[yZ];exact k2.append_left F1
   ·rw[yZ];refine List.perm_middle.symm.trans ?_;exact k3.append_left H1
end
mutual
theorem TH.iat {w:World} {m m':Mem} (hm:MLe m m') {x:Pn} {b o:Nat} {F:List Nat}:TH w m x b o F []→(∀ j,o≤j→j<o+5→m' b j=w.cell? ⟨b,j,none⟩)→(∀ f∈F,∀ j,m' f j=w.cell? ⟨f,j,none⟩)→IAt m' b o x.cells
 | .leaf h1 h2 h3 h4,hb,hF=>by
  rw[Pn.bF];exact .cons ((hb _ (by omega) (by omega)).trans h1.c0) (.lit _) rfl (.cons ((hb _ (by omega) (by omega)).trans h1.c1) (.lit _) rfl (.cons ((hb _ (by omega) (by omega)).trans h1.c2) (h2.rep fun f hf=>hF f (by simp[hf])) h2.one (.cons ((hb _ (by omega) (by omega)).trans h1.c3) (h3.rep fun f hf=>hF f (by simp[hf])) h3.one (.cons ((hb _ (by omega) (by omega)).trans h1.c4) (.isl0 _ _ fun _=>rfl) rfl (.nil _ _)))))
 | .node h1 h2 h3 h4 h5 h6 h7 h8,hb,hF=>by
  rename_i ks b' cap vE vC FE FC F;rw[Pn.bF];have he:=THL.iel hm h6 (fun j _ _=>hF b' (by simp) j) (fun f hf=>hF f (by simp[hf]));have hl:(Pn.aB ks).length=ks.length:=by simp
  have hn:Pn.aB ks≠[]:=fun e=>by rw[e]at hl;simp at hl;exact h4 (zW.1 hl.symm)
  have hk:IRep m' (.isl (Pn.aB ks)) (.slice (some ⟨b',0,none⟩) ks.length cap):=by
   have:=IRep.isl (cap:=cap) hn he (by omega)
   rwa [hl]at this
  exact .cons ((hb _ (by omega) (by omega)).trans h1.c0) (.lit _) rfl (.cons ((hb _ (by omega) (by omega)).trans h1.c1) (.lit _) rfl (.cons ((hb _ (by omega) (by omega)).trans h1.c2) (h2.rep fun f hf=>hF f (by simp[hf])) h2.one (.cons ((hb _ (by omega) (by omega)).trans h1.c3) (h3.rep fun f hf=>hF f (by simp[hf])) h3.one (.cons ((hb _ (by omega) (by omega)).trans h1.c4) hk rfl (.nil _ _)))))
theorem THL.iel {w:World} {m m':Mem} (hm:MLe m m') {xs:List Pn} {b o:Nat} {F:List Nat}:THL w m xs b o F []→(∀ j,o≤j→j<o+5*xs.length→m' b j=w.cell? ⟨b,j,none⟩)→(∀ f∈F,∀ j,m' f j=w.cell? ⟨f,j,none⟩)→IElems m' b o 5 (Pn.aB xs)
 | h,hb,hF=>by
  generalize hH:([]:PL)=H at h
  cases h with
  | nil b o=>simp only[Pn.aB];exact .nil b o 5
  | cons h1 h2 =>
   obtain⟨e1,e2⟩:=zD8.1 hH.symm;subst e1;subst e2;simp only[Pn.aB];exact .cons (TH.iat hm h1 (fun j l1 l2=>hb j l1 (by simp only[zP];omega)) (fun f hf=>hF f (by simp[hf]))) (Pn.dH _) (THL.iel hm h2 (fun j l1 l2=>hb j (by omega) (by simp only[zP];omega)) (fun f hf=>hF f (by simp[hf])))
end
theorem KCells.app {w:World}:∀ {cs cs':List IV} {vs vs':List Value} {F F':List Nat},KCells w cs vs F→KCells w cs' vs' F'→KCells w (cs++cs') (vs++vs') (F++F')
 | _,_,_,_,_,_, .nil,h=>h
 | _,_,_,_,_,_, .lit o r,h=>.lit o (r.app h)
 | _,_,_,_,_,_, .isl0 c r,h=>.isl0 c (r.app h)
 | _,_,_,_,_,_, .isl (F:=F) hn hr hk hl hf hc g r,h=>by
  have:=KCells.isl hn hr hk hl hf hc g (r.app h);simpa using this
theorem At5.uniq {w:World} {b o:Nat} {v0 v1 v2 v3 v4 u0 u1 u2 u3 u4:Value} (h:At5 w b o v0 v1 v2 v3 v4) (g:At5 w b o u0 u1 u2 u3 u4):v0=u0∧v1=u1∧v2=u2∧v3=u3∧v4=u4 :=
 ⟨Option.some.inj (h.c0.symm.trans g.c0),Option.some.inj (h.c1.symm.trans g.c1),Option.some.inj (h.c2.symm.trans g.c2),Option.some.inj (h.c3.symm.trans g.c3),Option.some.inj (h.c4.symm.trans g.c4)⟩
theorem AbY {us:List Value} {o:Nat} {v0 v1 v2 v3 v4:Value} (h0:us[o]?=some v0) (h1:us[o+1]?=some v1) (h2:us[o+2]?=some v2) (h3:us[o+3]?=some v3) (h4:us[o+4]?=some v4):us.drop o=[v0,v1,v2,v3,v4]++us.drop (o+5):=by
 have g:∀ {o:Nat} {v:Value},us[o]?=some v→us.drop o=v::us.drop (o+1):=by
  intro o v h;obtain⟨hl,rfl⟩:=zZ.1 h;exact yD hl
 rw[g h0,g h1,g h2,g h3,g h4];rfl
theorem Pn.MN:∀ l:List Pn,Pn.aB l=l.map Pn.cells
 | []=>rfl
 | a::l=>by simp[Pn.aB,Pn.MN l]
mutual
theorem TH.kc {w:World} {m:Mem} {x:Pn} {b o:Nat} {F:List Nat}:TH w m x b o F []→(∀ f∈F,∃ (us:List Value) (T:TypeId),w.heap[f]?=some (.cells us.toArray T (0,0))∧∀ v∈us,v.oneCell'=true)→∃ v0 v1 v2 v3 v4,At5 w b o v0 v1 v2 v3 v4∧KCells w x.cells [v0,v1,v2,v3,v4] F∧(x.exprs=[]→v2=.slice none 0 0)∧(x.cols=[]→v3=.slice none 0 0)∧(x.kids=[]→v4=.slice none 0 0)
 | .leaf h1 h2 h3 h4,hrow=>by
  refine⟨_,_,_,_,_,h1,?_,h4.1,h4.2,fun _=>rfl⟩;rw[Pn.bF];exact .lit rfl (.lit rfl (h2.app (by have:=h3.app (KCells.isl0 (w:=w) (ao:=none) (cap:=0) (fun _=>rfl) .nil);simpa [Pn.aB]using this)))
 | .node (ks:=ks) (b':=b') (cap:=cap) (FE:=FE) (FC:=FC) (F:=F) h1 h2 h3 h4 h5 h6 h7 h8,hrow=>by
  refine⟨_,_,_,_,_,h1,?_,h8.1,h8.2,fun h=>absurd h h4⟩;rw[Pn.bF];obtain⟨us,T,hr,hone⟩:=hrow b' (by simp);have hb:∀ j,w.cell? ⟨b',j,none⟩=us[j]?:=fun j=>bG hr j
  have hk:=THL.kc h6 (fun f hf=>hrow f (by simp[hf])) hb;have hl:(Pn.aB ks).length=ks.length:=by simp
  have hn:Pn.aB ks≠[]:=fun e=>by rw[e]at hl;simp at hl;exact h4 (zW.1 hl.symm)
  have hpos:0<ks.length:=xN.2 h4
  have hfit:5*cap≤us.length:=by
   rw[hb]at h7
   cases hx:us[5*cap-1]? with
   | none=>rw[hx]at h7;cases h7
   | some u=>have:=(zZ.1 hx).1;omega
  have hK:=KCells.isl (w:=w) (b:=b') (k:=5) (cap:=cap) (es:=Pn.aB ks) (us:=us) (G:=F) hn hb (by omega) (fun e he=>by
   rw[Pn.MN]at he;obtain⟨x,_,rfl⟩:=yI.1 he
   exact Pn.dH x) hfit (by omega) (by rw[hl];simpa using hk) .nil
  rw[hl,zA]at hK;exact .lit rfl (.lit rfl (by have:=h2.app (h3.app hK);simpa [yZ]using this))
theorem THL.kc {w:World} {m:Mem} {xs:List Pn} {b o:Nat} {F:List Nat} {us:List Value}:THL w m xs b o F []→(∀ f∈F,∃ (us:List Value) (T:TypeId),w.heap[f]?=some (.cells us.toArray T (0,0))∧∀ v∈us,v.oneCell'=true)→(∀ j,w.cell? ⟨b,j,none⟩=us[j]?)→KCells w (Pn.aB xs).flatten ((us.drop o).take (5*xs.length)) F
 | h,hrow,hb=>by
  generalize hH:([]:PL)=H at h
  cases h with
  | nil b o=>simp only[Pn.aB];simpa using KCells.nil
  | @cons x xs _ _ F1 F2 H1 H2 h1 h2 =>
   obtain⟨e1,e2⟩:=zD8.1 hH.symm;subst e1;subst e2;obtain⟨v0,v1,v2,v3,v4,g1,g2,_⟩:=TH.kc h1 (fun f hf=>hrow f (by simp[hf]));have g3:=THL.kc h2 (fun f hf=>hrow f (by simp[hf])) hb;have hd:=AbY (us:=us) (o:=o) (by rw[← hb];exact g1.c0) (by rw[← hb];exact g1.c1) (by rw[← hb];exact g1.c2) (by rw[← hb];exact g1.c3) (by rw[← hb];exact g1.c4);rw[hd,zP,show 5*(xs.length+1)=5+5*xs.length by omega,xM,zY (by simp)];simp only[Pn.aB,z8];have e5:5+5*xs.length-[v0,v1,v2,v3,v4].length=5*xs.length:=by simp
   rw[e5];exact g2.app g3
end
def XA (R:World→Mem→Pl→Prop):Prop:=∀ w m φ w' m' φ',Adv w m φ w' m' φ'→R w m φ→R w' m' φ'
structure GR (wi:World) (mi:Mem) (nt:Nat) (ok:Nat→Prop) (R:World→Mem→Pl→Prop) (env:Nat→AV) (st:Store) (a:Act) (w:World):Prop where
 out:∃ m φ,Inv w m φ st∧(∀ t,Rep m φ (env t) (a.tmps.getD t undef))∧Adv wi mi (fun _=>none) w m φ∧(∀ id,φ id≠none→ok id)∧R w m φ
 size:nt≤a.tmps.size
 defers:a.defers=[]
section
variable {C:Ctx} {wi:World} {mi:Mem} {nt:Nat}
theorem GR.eF (hS:SoundOk C) {G:List Nat} {c:Code} {S S':AS} {e:AExit} {a:Act} {w:World} {R:World→Mem→Pl→Prop} (hR:XA R) (hc:codeOk nt c=true) (hx:dY C G S.st.length c S=some (e,S')) (h:GR wi mi nt (fun id=>id<S.st.length) R (aJ S.env) (aR S.st) a w) (hnr:bK c=true:=by rfl) :
 c.wp C.P (fun e' a' w'=>e'=gQ e∧GR wi mi nt (fun id=>id<S'.st.length) R (aJ S'.env) (aR S'.st) a' w') a w:=by
 obtain⟨n,hn⟩:=(dD _).1 hx;obtain⟨⟨m,φ,h1,h2,h3,h4,h5⟩,h6,h7⟩:=h;refine wpIn_wide.1 (wpIn_mono (bW (ρ:=none) hS.ctx (aY hS) (hS.draw _ (aY hS)) h4 n c S S' e [] a w hc (.inl rfl) hn ⟨⟨⟨m,φ,h1,h2, .refl _ _ _,h4, .nil _ _ _⟩,h6,h7⟩,zO _⟩) ?_);rintro e' a' w' ⟨rfl,ds,k,kd⟩;have kd:=kd hnr;subst kd;obtain⟨⟨⟨m',φ',k1,k2,k3,k4,_⟩,k5,k6⟩,_⟩:=k;exact⟨rfl,⟨⟨m',φ',k1,k2,h3.trans k3,k4,hR _ _ _ _ _ _ k3 h5⟩,k5,k6⟩⟩
theorem GR.turn {ok ok':Nat→Prop} {R R':World→Mem→Pl→Prop} {env env':Nat→AV} {st st':Store} {a:Act} {w:World} (h:GR wi mi nt ok R env st a w)
 (f:∀ m φ,Inv w m φ st→(∀ t,Rep m φ (env t) (a.tmps.getD t undef))→Adv wi mi (fun _=>none) w m φ→(∀ id,φ id≠none→ok id)→R w m φ →
  ∃ m' φ',Inv w m' φ' st'∧(∀ t,Rep m' φ' (env' t) (a.tmps.getD t undef))∧Adv wi mi (fun _=>none) w m' φ'∧(∀ id,φ' id≠none→ok' id)∧R' w m' φ'):GR wi mi nt ok' R' env' st' a w:=by
 obtain⟨⟨m,φ,h1,h2,h3,h4,h5⟩,h6,h7⟩:=h;exact⟨f m φ h1 h2 h3 h4 h5,h6,h7⟩
def lI (st':Store) (φ:Pl):Pl:=fun i=>match st' i with
 | some _=>φ i
 | none=>none
theorem dN {st':Store} {φ:Pl} {i:Nat} {p:Nat×Ext} (h:lI st' φ i=some p):φ i=some p∧st' i≠none:=by
 unfold lI at h
 cases e:st' i with
 | none=>rw[e]at h;cases h
 | some _=>rw[e]at h;exact⟨h,by simp⟩
theorem lH {st':Store} {φ:Pl} {i:Nat} (h:st' i≠none):lI st' φ i=φ i:=by
 unfold lI
 cases e:st' i with
 | none=>exact absurd e h
 | some _=>rfl
theorem Inv.cut {w:World} {m:Mem} {φ:Pl} {st st':Store} (hi:Inv w m φ st) (hst:∀ i blk,st' i=some blk→st i=some blk∧gU blk):Inv w m (lI st' φ) st':=by
 refine⟨hi.mem,?_,?_,(fun i b n f e ho=>hi.low i b n f (dN e).1 ho),hi.kn⟩
 ·intro i blk hb;obtain⟨h1,h2⟩:=hst i blk hb;obtain⟨b,n,q1,q2,q3⟩:=hi.live i blk h1;exact⟨b,n,by rw[lH (by rw[hb];simp)];exact q1,q2,q3.X6 h2 rfl fun o h=>h⟩
 ·intro i j b bx n n2 b1 b2 f h1 h2 h3 h4 o1 o2;exact hi.inj i j b bx n n2 b1 b2 f (hst i b1 h1).1 (hst j b2 h2).1 (dN h3).1 (dN h4).1 o1 o2
theorem Adv.cut {w:World} {m:Mem} {φ:Pl} {st':Store} (h:Adv wi mi (fun _=>none) w m φ):Adv wi mi (fun _=>none) w m (lI st' φ) :=
 ⟨h.size,h.os,h.tape,h.output,h.block,h.mle,h.mnew,(fun _ _ _ h=>by cases h),fun i b n f e ho=>h.pnew i b n f (dN e).1 ho⟩
theorem eD.cut {φ:Pl} {st':Store} {f:Nat} (h:eD φ f):eD (lI st' φ) f:=fun i b n e=>h i b n (dN e).1
theorem uR {w:World} {m:Mem} {φ:Pl} {st st':Store} {id b f:Nat} {n:Ext} {blk:Blk} (hi:Inv w m φ st) (hst:∀ i blk,st' i=some blk→st i=some blk∧gU blk) (hid:st id=some blk) (hn:st' id=none) (e:φ id=some (b,n)) (ho:n.own f):eD (lI st' φ) f:=by
 intro i r n' e' ho';obtain⟨h1,h2⟩:=dN e'
 cases hb:st' i with
 | none=>exact h2 hb
 | some blk' =>
  have:=hi.inj i id r b n' n blk' blk f (hst i blk' hb).1 hid h1 e ho' ho;rw[this,hn]at hb;cases hb
theorem lZ {w:World} {m:Mem} {φ:Pl} {id b f:Nat} {n:Ext} (h:Adv wi mi (fun _=>none) w m φ) (e:φ id=some (b,n)) (ho:n.own f):wi.heap.size≤f:=by
 rcases h.pnew id b n f e ho with h|h
 ·exact h
 ·exact absurd (fun id b n e=>by cases e) h
theorem Inv.adopt {w:World} {m:Mem} {φ:Pl} {st:Store} {id b:Nat} {cs:List AV} {vs:List Value} {T:TypeId} (hi:Inv w m φ st) (h1:st id=none) (h2:φ id=none) (hf:eD φ b) (hm:∀ o,m b o=none) (hh:w.heap[b]?=some (.cells vs.toArray T (0,0)))
 (hc:RepC m (upd φ id (some (b,one b vs.length))) cs vs):Inv w m (upd φ id (some (b,one b vs.length))) (upd st id (some (.box cs))):=by
 have hlt:b<w.heap.size:=(zN.1 hh).1
 have hp:PLe φ (upd φ id (some (b,one b vs.length))):=fun i r n e=>by
  refine⟨n,?_,rfl,fun _ h=>h⟩;have:i≠id:=fun h=>by rw[h,h2]at e;cases e
  simp[upd,this,e]
 refine⟨hi.mem,?_,?_,?_,hi.kn⟩
 ·intro i blk hb;by_cases hid:i=id
  ·subst hid;simp[upd]at hb;subst hb;exact⟨b,one b vs.length,by simp[upd],⟨rfl,fun f hf=>by rw[show f=b from hf];exact hlt⟩, .box hh rfl hc hm⟩
  ·simp[upd,hid]at hb;obtain⟨r,n,q1,q2,q3⟩:=hi.live i blk hb;exact⟨r,n,by simp[upd,hid,q1],q2,q3.mono q2.1 (fun _ _=>rfl) (.refl _) hp fun _ _ _=>rfl⟩
 ·intro i j r r' n n' b1 b2 f e1 e2 p1 p2 o1 o2;by_cases hi1:i=id
  ·by_cases hj1:j=id
   ·rw[hi1,hj1]
   ·subst hi1;simp[upd]at p1;simp[upd,hj1]at p2;obtain⟨rfl,rfl⟩:=p1;rw[show f=_ from o1]at o2;exact absurd o2 (hf j r' n' p2)
  ·by_cases hj1:j=id
   ·subst hj1;simp[upd]at p2;simp[upd,hi1]at p1;obtain⟨rfl,rfl⟩:=p2;rw[show f=_ from o2]at o1;exact absurd o1 (hf i r n p1)
   ·simp[upd,hi1]at e1 p1;simp[upd,hj1]at e2 p2;exact hi.inj i j r r' n n' b1 b2 f e1 e2 p1 p2 o1 o2
 ·intro i r n f e ho;by_cases hid:i=id
  ·subst hid;simp[upd]at e;obtain⟨rfl,rfl⟩:=e;rw[show f=_ from ho];exact hlt
  ·simp[upd,hid]at e;exact hi.low i r n f e ho
theorem Adv.adopt {w:World} {m:Mem} {φ:Pl} {id b k:Nat} (h:Adv wi mi (fun _=>none) w m φ) (hb:wi.heap.size≤b):Adv wi mi (fun _=>none) w m (upd φ id (some (b,one b k))):=by
 refine⟨h.size,h.os,h.tape,h.output,h.block,h.mle,h.mnew,(fun _ _ _ h=>by cases h),fun i r n f e ho=>?_⟩;by_cases hid:i=id
 ·subst hid;simp[upd]at e;obtain⟨rfl,rfl⟩:=e;rw[show f=_ from ho];exact .inl hb
 ·simp[upd,hid]at e;exact h.pnew i r n f e ho
def bD (vs:List Value):List AV:=vs.map fun v=>.i (.lit v)
theorem nY {m:Mem} {φ:Pl}:∀ {vs:List Value},(∀ v∈vs,v.oneCell'=true)→RepC m φ (bD vs) vs
 | [],_=>.nil
 | v::vs,h=>.cons (.i (.lit v)) (h v (by simp)) (nY fun u hu=>h u (by simp[hu]))
theorem nH {m:Mem} {φ:Pl}:∀ {vs us:List Value},RepC m φ (bD vs) us→us=vs
 | [],_, .nil=>rfl
 | v::vs,_, .cons a _ b=>by rw[a.lit_eq,nH b]
theorem nU {m:Mem} {φ:Pl}:∀ {a b:List AV} {vs:List Value},RepC m φ (a++b) vs→∃ us xs,vs=us++xs∧RepC m φ a us∧RepC m φ b xs
 | [],b,vs,h=>⟨[],vs,rfl, .nil,h⟩
 | c::a,b,_, .cons h1 h2 h3=>by
  obtain⟨us,xs,rfl,k1,k2⟩:=nU h3;exact⟨_::us,xs,rfl, .cons h1 h2 k1,k2⟩
theorem KH {m:Mem} {φ:Pl}:∀ {a b:List AV} {us xs:List Value},RepC m φ a us→RepC m φ b xs→RepC m φ (a++b) (us++xs)
 | [],_,_,_, .nil,h=>h
 | _::_,_,_,_, .cons h1 h2 h3,h=>.cons h1 h2 (KH h3 h)
end
structure RAW (wi:World) (root:Nat) (p:Pn) (F:List Nat) (H:PL) (w:World) (m:Mem) (φ:Pl):Prop where
 th:TH w m p root 0 F H
 nr:root ∉ F
 nd:F.Nodup
 all:∀ f∈root::F,wi.heap.size≤f∧f<w.heap.size∧eD φ f∧(∀ o,m f o=none)∧∃ (vs:List Value) (T:TypeId),w.heap[f]?=some (.cells vs.toArray T (0,0))∧∀ v∈vs,v.oneCell'=true
theorem iZ {w w':World} {f:Nat} (h:w'.heap[f]?=w.heap[f]?) (j:Nat):w'.cell? ⟨f,j,none⟩=w.cell? ⟨f,j,none⟩:=cell_of_heap h
theorem RAW.D8 (wi:World) (root:Nat) (p:Pn) (F:List Nat) (H:PL):XA (RAW wi root p F H):=by
 intro w m φ w' m' φ' ha h;have hs:∀ f∈root::F,w'.heap[f]?=w.heap[f]?:=fun f hf=>ha.block f (h.all f hf).2.1 (h.all f hf).2.2.1
 refine⟨h.th.frame ha.mle (fun j _ _=>iZ (hs root (by simp)) j) (fun f hf j=>iZ (hs f (by simp[hf])) j),h.nr,h.nd,fun f hf=>?_⟩;obtain⟨k1,k2,k3,k4,vs,T,k5,k6⟩:=h.all f hf;exact⟨k1,zI k2 ha.size,ha.range k2 k3,fun o=>(ha.mnew f k2 k3 o).trans (k4 o),vs,T,by rw[hs f hf];exact k5,k6⟩
structure ADP (wi:World) (root:Nat) (p:Pn) (F:List Nat) (H:PL) (bq:Nat) (us:List Value) (wa:World) (ma:Mem) (w:World) (m:Mem) (φ:Pl):Prop where
 th:TH wa ma p root 0 F H
 nr:root ∉ F
 nd:F.Nodup
 le:MLe ma m
 inF:bq∈root::F
 own:∃ n,φ 2=some (bq,n)
 row:∃ T,wa.heap[bq]?=some (.cells us.toArray T (0,0))
 bqn:wi.heap.size≤bq
 oth:∀ f∈root::F,f≠bq→wi.heap.size≤f∧f<w.heap.size∧eD φ f∧(∀ o,m f o=none)∧w.heap[f]?=wa.heap[f]?∧∃ (vs:List Value) (T:TypeId),wa.heap[f]?=some (.cells vs.toArray T (0,0))∧∀ v∈vs,v.oneCell'=true
theorem ADP.D8 (wi:World) (root:Nat) (p:Pn) (F:List Nat) (H:PL) (bq:Nat) (us:List Value) (wa:World) (ma:Mem):XA (ADP wi root p F H bq us wa ma):=by
 intro w m φ w' m' φ' ha h;refine⟨h.th,h.nr,h.nd,h.le.trans ha.mle,h.inF,?_,h.row,h.bqn,fun f hf hne=>?_⟩
 ·obtain⟨n,e⟩:=h.own;obtain⟨n',e',_⟩:=ha.ple _ _ _ e;exact⟨n',e'⟩
 ·obtain⟨k1,k2,k3,k4,k5,k6⟩:=h.oth f hf hne;exact⟨k1,zI k2 ha.size,ha.range k2 k3,fun o=>(ha.mnew f k2 k3 o).trans (k4 o),(ha.block f k2 k3).trans k5,k6⟩
theorem Q9 {us:List Value} {o:Nat} {v0 v1 v2 v3 v4:Value} (h0:us[o]?=some v0) (h1:us[o+1]?=some v1) (h2:us[o+2]?=some v2) (h3:us[o+3]?=some v3) (h4:us[o+4]?=some v4):us=us.take o++([v0,v1,v2,v3,v4]++us.drop (o+5)):=by
 have g:∀ {o:Nat} {v:Value},us[o]?=some v→us.drop o=v::us.drop (o+1):=by
  intro o v h;obtain⟨hl,rfl⟩:=zZ.1 h;exact yD hl
 have:us.drop o=[v0,v1,v2,v3,v4]++us.drop (o+5):=by rw[g h0,g h1,g h2,g h3,g h4];rfl
 rw[← this,xV]
mutual
theorem TH.hole {w:World} {m:Mem} {x:Pn} {b o:Nat} {F:List Nat} {H:PL}:TH w m x b o F H→∀ q∈H,∃ v0 v1 v2 v3 v4,ICells m q.2.cells [v0,v1,v2,v3,v4]∧At5 w q.1.1 q.1.2 v0 v1 v2 v3 v4
 | .fresh h1 h2,q,hq=>by simp at hq;subst hq;exact⟨_,_,_,_,_,h1,h2⟩
 | .leaf _ _ _ _,q,hq=>by simp at hq
 | .node _ _ _ _ _ h6 _ _,q,hq=>THL.hole h6 q hq
theorem THL.hole {w:World} {m:Mem} {xs:List Pn} {b o:Nat} {F:List Nat} {H:PL}:THL w m xs b o F H→∀ q∈H,∃ v0 v1 v2 v3 v4,ICells m q.2.cells [v0,v1,v2,v3,v4]∧At5 w q.1.1 q.1.2 v0 v1 v2 v3 v4
 | .nil _ _,q,hq=>by simp at hq
 | .cons h1 h2,q,hq=>by
  rcases zV.1 hq with h|h
  ·exact TH.hole h1 q h
  ·exact THL.hole h2 q h
end
theorem AAZ {m:Mem} {φ:Pl}:∀ {cs:List IV} {vs:List Value},ICells m cs vs→RepC m φ (lF cs) vs
 | [],_, .nil=>.nil
 | c::cs,_, .cons a o b=>.cons (.i a) o (AAZ b)
section
variable {wi:World} {mi:Mem} {nt:Nat}
def lT (pre:List Value) (row:List AV) (post:List Value):List AV:=bD pre++(row++bD post)
theorem GR.adopt {ok:Nat→Prop} {root:Nat} {p:Pn} {F:List Nat} {H:PL} {env:Nat→AV} {st:Store} {a:Act} {w:World} {u bq oq:Nat} {y:Pn} (h:GR wi mi nt ok (RAW wi root p F H) env st a w) (hst:st 2=none) (hok:¬ ok 2) (hq:((bq,oq),y)∈H) (hu:env u=.i (.lit (.pointer (some ⟨bq,oq,none⟩)))) :
 ∃ pre post us ma,us.take oq=pre∧us.drop (oq+5)=post∧pre.length=oq∧us.length=oq+5+post.length∧(∀ v∈us,v.oneCell'=true) ∧
   GR wi mi nt (fun id=>ok id∨id=2) (ADP wi root p F H bq us w ma) (upd env u (.own 2 oq)) (upd st 2 (some (.box (lT pre (lF y.cells) post)))) a w:=by
 obtain⟨⟨m,φ,hi,henv,hadv,hk,hr⟩,h6,h7⟩:=h;obtain⟨v0,v1,v2,v3,v4,hc,h5⟩:=hr.th.hole _ hq;simp only at hc h5
 have hinF:bq∈root::F:=by
  rcases hr.th.holes _ hq with e|e
  ·simp at e;simp[e]
  ·simp at e;simp[e]
 obtain⟨k1,k2,k3,k4,us,T,k5,k6⟩:=hr.all bq hinF;have gc:∀ {o:Nat} {v:Value},w.cell? ⟨bq,o,none⟩=some v→us[o]?=some v:=fun h=>by rwa [bG k5]at h
 have hrow:=Q9 (gc h5.c0) (gc h5.c1) (gc h5.c2) (gc h5.c3) (gc h5.c4);have hl4:=(zZ.1 (gc h5.c4)).1;refine⟨us.take oq,us.drop (oq+5),us,m,rfl,rfl,by rw[xY];omega,by rw[zA2];omega,k6,?_⟩
 have hφ2:φ 2=none:=by
  cases e:φ 2 with
  | none=>rfl
  | some q=>exact absurd (hk 2 (by rw[e];simp)) hok
 have hrep:RepC m (upd φ 2 (some (bq,one bq us.length))) (lT (us.take oq) (lF y.cells) (us.drop (oq+5))) us:=by
  have h1:=nY (m:=m) (φ:=upd φ 2 (some (bq,one bq us.length))) (vs:=us.take oq) fun v hv=>k6 v (yY hv)
  have h2:=nY (m:=m) (φ:=upd φ 2 (some (bq,one bq us.length))) (vs:=us.drop (oq+5)) fun v hv=>k6 v (yF hv)
  have h3:=KH h1 (KH (AAZ hc) h2);rw[← hrow]at h3;exact h3
 have hp:PLe φ (upd φ 2 (some (bq,one bq us.length))):=fun i r n e=>by
  refine⟨n,?_,rfl,fun _ h=>h⟩;have:i≠2:=fun h=>by rw[h,hφ2]at e;cases e
  simp[upd,this,e]
 refine⟨⟨m,upd φ 2 (some (bq,one bq us.length)),hi.adopt hst hφ2 k3 k4 k5 hrep,fun t=>?_,hadv.adopt k1,fun id hid=>?_,?_⟩,h6,h7⟩
 ·by_cases ht:t=u
  ·subst ht;have:=henv t;rw[hu]at this;simp only[upd,if_true];rw[this.lit_eq];exact .own (n:=one bq us.length) (by simp[upd])
  ·simp only[upd,ht,if_false];exact(henv t).mono (.refl _) hp
 ·by_cases e:id=2
  ·exact .inr e
  ·simp[upd,e]at hid;exact .inl (hk id hid)
 ·refine⟨hr.th,hr.nr,hr.nd, .refl _,hinF,⟨one bq us.length,by simp[upd]⟩,⟨T,k5⟩,k1,fun f hf hne=>?_⟩;obtain⟨q1,q2,q3,q4,q5⟩:=hr.all f hf;refine⟨q1,q2,fun i r n e ho=>?_,q4,rfl,q5⟩;by_cases e2:i=2
  ·subst e2;simp[upd]at e;obtain⟨rfl,rfl⟩:=e;exact hne ho
  ·simp[upd,e2]at e;exact q3 i r n e ho
def slA (n id k:Nat):AV:=if n=0 then .nils else .osl id k 0 n
def nI (b:Nat):Nat→List Pn→PL
 | _,[]=>[]
 | o,x::l=>((b,o),x)::nI b (o+5) l
theorem Inv.Ab4 {w:World} {m:Mem} {φ:Pl} {st:Store} {id b:Nat} {n:Ext} {blk blk':Blk} (hi:Inv w m φ st) (h:st id=some blk) (e:φ id=some (b,n)) (hb:BlkOk w m φ b n blk'):Inv w m φ (upd st id (some blk')):=by
 refine⟨hi.mem,?_,?_,hi.low,hi.kn⟩
 ·intro i bl hbl;by_cases hid:i=id
  ·subst hid;simp[upd]at hbl;subst hbl;exact⟨b,n,e,(cK hi e h).1,hb⟩
  ·simp[upd,hid]at hbl;exact hi.live i bl hbl
 ·intro i j r r' n1 n2 b1 b2 f e1 e2 p1 p2 o1 o2
  have g:∀ i b1,upd st id (some blk') i=some b1→∃ b2,st i=some b2:=fun i b1 h1=>by
   by_cases hid:i=id
   ·subst hid;exact⟨blk,h⟩
   ·simp[upd,hid]at h1;exact⟨b1,h1⟩
  obtain⟨x1,y1⟩:=g i b1 e1;obtain⟨x2,y2⟩:=g j b2 e2;exact hi.inj i j r r' n1 n2 x1 x2 f y1 y2 p1 p2 o1 o2
theorem OQ {w:World} {m:Mem} {b:Nat}:∀ {ks:List Pn} {o:Nat} {vs:List Value},ICells m (Pn.aB ks).flatten vs→(∀ j v,vs[j]?=some v→w.cell? ⟨b,o+j,none⟩=some v)→THL w m ks b o [] (nI b o ks)
 | [],o,_,_,_=>.nil b o
 | k::ks,o,vs,h,hw=>by
  simp only[Pn.aB,z8]at h;have h1:=h.take 5;have h2:=h.drop 5;rw[zF0 (Pn.dH k)]at h1;rw[zB0 (Pn.dH k)]at h2;have hl:=h1.length;rw[Pn.dH]at hl;have hlen:5≤vs.length:=by rw[xY]at hl;omega
  have hf:THL w m (k::ks) b o ([]++[]) ([((b,o),k)]++nI b (o+5) ks):=by
   refine .cons ?_ (OQ h2 fun j v hj=>?_)
   ·have e:vs.take 5=[vs[0],vs[1],vs[2],vs[3],vs[4]]:=by
     apply List.ext_getElem (by simp;omega);intro i l1 l2;simp at l1 l2
     rcases i with _|_|_|_|_|i
     ·simp
     ·simp
     ·simp
     ·simp
     ·simp
     ·omega
    rw[e]at h1;exact .fresh h1 ⟨hw 0 _ (by simp),hw 1 _ (by simp),hw 2 _ (by simp),hw 3 _ (by simp),hw 4 _ (by simp)⟩
   ·rw[yJ]at hj;have:=hw (5+j) v hj
    rwa [← Nat.add_assoc]at this
  exact hf
theorem TCells.rows {w:World}:∀ {cs:List IV} {vs:List Value} {F:List Nat},TCells w cs vs F→∀ f∈F,∃ (us:List Value) (T:TypeId),w.heap[f]?=some (.cells us.toArray T (0,0))∧∀ v∈us,v.oneCell'=true
 | _,_,_, .nil,f,hf=>by simp at hf
 | _,_,_, .lit _ r,f,hf=>r.rows f hf
 | _,_,_, .isl0 _ r,f,hf=>r.rows f hf
 | _,_,_, .isl _ ⟨T,h1,h2⟩ _ _ _ _ g r,f,hf=>by
  rw[yV,zS,zV]at hf
  rcases hf with e|e|e
  ·rw[e];exact⟨_,T,h1,h2⟩
  ·exact g.rows f e
  ·exact r.rows f e
theorem VO:∀ l:List Ex,kG (Ex.aB l)=true
 | []=>rfl
 | e::l=>by simp only[Ex.aB,kG,VO l,zE3];rw[Ex.aA];rfl
theorem FU:∀ l:List Int,fM (aF l)=true
 | []=>rfl
 | n::l=>by simp only[aF,fM,FU l,zE3];rfl
theorem AjL {st:Store} {es:List Ex} {cs:List Int} {idE idC:Nat} (hE:es.length≠0→st idE=some (.tre 5 (Ex.aB es))) (hC:cs.length≠0→st idC=some (.arr 1 (aF cs))) (hne:idE≠idC) :
 ∃ st2,tV st [slA es.length idE 5,slA cs.length idC 1]=some ([.isl (Ex.aB es), .isl (aF cs)],st2)∧∀ i,i≠idE→i≠idC→st2 i=st i:=by
 have hp:=VO es;have hb:=FU cs;have tE:(Ex.aB es).take es.length=Ex.aB es:=zY (by simp);have tC:(aF cs).take cs.length=aF cs:=zY (by simp);by_cases h1:es.length=0<;>by_cases h2:cs.length=0
 ·have:=zW.1 h1;have:=zW.1 h2;subst es;subst cs;exact⟨st,by simp[slA,tV,ER,bnd,Ex.aB,aF],fun _ _ _=>rfl⟩
 ·have:=zW.1 h1;subst es;refine⟨upd st idC none,by simp[slA,tV,ER,bnd,Ex.aB,h2,hC h2,A7,tst,hb,window,tC],fun i _ h=>by simp[upd,h]⟩
 ·have:=zW.1 h2;subst cs;refine⟨upd st idE none,by simp[slA,tV,ER,bnd,aF,h1,hE h1,A7,tst,hp,window,tE],fun i h _=>by simp[upd,h]⟩
 ·have hC':upd st idE none idC=some (.arr 1 (aF cs)):=by simp[upd,Ne.symm hne,hC h2]
  refine⟨upd (upd st idE none) idC none,by simp[slA,tV,ER,bnd,h1,h2,hE h1,hC',A7,tst,hp,hb,window,tE,tC],fun i h h'=>by simp[upd,h,h']⟩
theorem GR.Ab3 {ok:Nat→Prop} {root:Nat} {p:Pn} {F:List Nat} {H:PL} {env env':Nat→AV} {st st':Store} {a:Act} {w wa:World} {ma:Mem} {u bq oq idE idC idK:Nat} {pre post us:List Value} {k t:Int} {es:List Ex} {cs:List Int} {ks:List Pn}
 (h:GR wi mi nt ok (ADP wi root p F H bq us wa ma) env st a w) (h1:us.take oq=pre) (h2:us.drop (oq+5)=post) (h3:pre.length=oq) (h4:us.length=oq+5+post.length)
 (hq:((bq,oq),Pn.mk k t es cs ks)∈H) (hbox:st 2=some (.box (lT pre [.int k, .int t,slA es.length idE 5,slA cs.length idC 1,slA ks.length idK 5] post)))
 (hE:es.length≠0→st idE=some (.tre 5 (Ex.aB es))) (hC:cs.length≠0→st idC=some (.arr 1 (aF cs))) (hK:ks.length≠0→st idK=some (.arr 5 (Pn.aB ks)))
 (hd:2<idE∧2<idC∧2<idK∧idE≠idC∧idE≠idK∧idC≠idK)
 (hst:∀ i blk,st' i=some blk→i<2∧st i=some blk∧gU blk) (he:∀ t,env' t=.junk∨(env' t=env t∧(env t=.own 2 oq∨jV st' (env t)))) :
 ∃ F' H' us' b' cap vE vC m2,(((bq,oq),Pn.mk k t es cs ks)::H').Perm (H++nI b' 0 ks)∧us'=pre++([.int .i64 k, .int .i64 t,vE,vC,if ks.length=0 then .slice none 0 0 else .slice (some ⟨b',0,none⟩) ks.length cap]++post)∧(∀ v∈us',v.oneCell'=true)∧(∀ q∈H,q.1.1≠b') ∧
   GR wi mi nt (fun id=>id≤2) (ADP wi root p F' H' bq us' w m2) env' (upd st' 2 (some (.box (bD us')))) a w:=by
 obtain⟨⟨m,φ,hi,henv,hadv,hk,hr⟩,h6,h7⟩:=h;obtain⟨n2,e2⟩:=hr.own;obtain⟨hb2,hok2⟩:=cK hi e2 hbox;obtain⟨d1,d2,d3,d4,d5,d6⟩:=hd
 cases hok2 with
 | @box T _ vs hh hl hrc hm =>
  have hone:=hrc.one;obtain⟨vp,x,rfl,r1,r2⟩:=nU hrc;obtain⟨vr,vq,rfl,r3,r4⟩:=nU r2;obtain rfl:=(nH r1).symm;obtain rfl:=(nH r4).symm
  cases r3 with
  | cons a0 o0 r3 =>
  cases r3 with
  | cons a1 o1 r3 =>
  cases r3 with
  | @cons _ vE _ _ aE oE r3 =>
  cases r3 with
  | @cons _ vC _ _ aC oC r3 =>
  cases r3 with
  | @cons _ vK _ _ aK oK r3 =>
  cases r3
  obtain rfl:=a0.lit_eq;obtain rfl:=a1.lit_eq;obtain⟨st2,ha2,s2⟩:=AjL hE hC d4;obtain⟨FO,O,ab⟩:=nR hi (.cons aE oE (.cons aC oC .nil)) ha2;obtain⟨FE,FC,hFO,tE,tC⟩:=ab.cells.split 1
  have hfree:∀ f∈FE++FC,wi.heap.size≤f∧f<w.heap.size∧(∀ o,m f o=none)∧(∃ (vs:List Value) (T:TypeId),w.heap[f]?=some (.cells vs.toArray T (0,0))∧∀ v∈vs,v.oneCell'=true)∧O f:=by
   intro f hf;rw[← hFO]at hf;obtain⟨y1,y2,id,b,n,blk,y3,y4,y5⟩:=ab.free f (ab.own f hf);exact⟨lZ hadv y4 y5,y2,y1,ab.cells.rows f hf,ab.own f hf⟩
  have hsub:∀ i blk,st2 i=some blk→st i=some blk:=fun i blk e=>(ab.less i blk e).1
  have i2:Inv w m φ st2:=hi.forget hsub;have hA:=hadv;have hm2:∀ o,m bq o=none:=hm;have hlit:BlkOk w m φ bq n2 (.box (bD (pre++([.int .i64 k, .int .i64 t,vE,vC,vK]++post)))):=.box hh hl (nY hone) hm2;have i3:=i2.Ab4 (by rw[s2 2 (by omega) (by omega)];exact hbox) e2 hlit;generalize hus:pre++([.int .i64 k, .int .i64 t,vE,vC,vK]++post)=us' at hh hl hone hlit i3
  have hst2:∀ i blk,upd st' 2 (some (.box (bD us'))) i=some blk→upd st2 2 (some (.box (bD us'))) i=some blk∧gU blk:=by
   intro i blk hb;by_cases hid:i=2
   ·subst hid;simp[upd]at hb ⊢;refine⟨hb,?_⟩;subst hb;intro c hc;obtain⟨v,_,rfl⟩:=yI.1 hc;exact .inl ⟨v,rfl⟩
   ·simp[upd,hid]at hb ⊢;obtain⟨q1,q2,q3⟩:=hst i blk hb;exact⟨by rw[s2 i (by omega) (by omega)];exact q2,q3⟩
  have i4:=i3.cut hst2
  have hat:At5 w bq oq (.int .i64 k) (.int .i64 t) vE vC vK:=by
   have g:∀ (j:Nat) (v:Value),[Value.int .i64 k, .int .i64 t,vE,vC,vK][j]?=some v→w.cell? ⟨bq,oq+j,none⟩=some v:=by
    intro j v hj;have hj5:=(zZ.1 hj).1;rw[bG hh,← hus,zB (by omega),h3,xQ,zG hj5];exact hj
   exact⟨g 0 _ rfl,g 1 _ rfl,g 2 _ rfl,g 3 _ rfl,g 4 _ rfl⟩
  have hHlt:∀ q∈H,q.1.1∈root::F:=fun q hq=>by
   rcases hr.th.holes q hq with e|e
   ·simp[e]
   ·simp[e]
  have hlt:∀ f∈root::F,f<w.heap.size:=fun f hf=>by
   by_cases hne:f=bq
   ·subst hne;exact(zN.1 hh).1
   ·exact(hr.oth f hf hne).2.1
  have hmon:=hr.le;have h22:=s2 2 (by omega) (by omega)
  have hG0:∀ f∈FE++FC,wi.heap.size≤f∧f<w.heap.size∧eD (lI (upd st' 2 (some (.box (bD us')))) φ) f∧(∀ o,m f o=none)∧(∃ (vs:List Value) (T:TypeId),w.heap[f]?=some (.cells vs.toArray T (0,0))∧∀ v∈vs,v.oneCell'=true)∧f≠bq∧f ∉ root::F:=by
   intro f hf;obtain⟨y1,y2,y3,y4,y5⟩:=hfree f hf;have hfb:f≠bq:=fun e=>(ab.less 2 _ (h22.trans hbox)).2 _ _ e2 bq hb2.1 (e ▸ y5)
   refine⟨y1,y2,fun id r n e ho=>?_,y3,y4,hfb,fun hm'=>?_⟩
   ·obtain⟨z1,z2⟩:=dN e;by_cases hid:id=2
    ·subst hid;exact(ab.less 2 _ (h22.trans hbox)).2 _ _ z1 f ho y5
    ·simp[upd,hid]at z2
     cases hx:st' id with
     | none=>exact z2 hx
     | some blk =>
      obtain⟨u1,u2,_⟩:=hst id blk hx;exact(ab.less id blk ((s2 id (by omega) (by omega)).trans u2)).2 _ _ z1 f ho y5
   ·obtain⟨_,_,id,b,n,blk,x3,x4,x5⟩:=ab.free f y5;exact(hr.oth f hm' hfb).2.2.1 id b n x4 x5
  have hnd0:(FE++FC).Nodup:=hFO ▸ ab.nodup;have kE:KCells w [.isl (Ex.aB es)] [vE] FE:=by simpa using tE.toK
  have kC:KCells w [.isl (aF cs)] [vC] FC:=by simpa using tC.toK
  have hnil:(es=[]→vE=.slice none 0 0)∧(cs=[]→vC=.slice none 0 0):=by
   refine⟨fun h=>?_,fun h=>?_⟩
   ·subst h;simp only[slA,yT,if_true]at aE;cases aE;rfl
   ·subst h;simp only[slA,yT,if_true]at aC;cases aC;rfl
  obtain⟨b',cap,G,hvK,hTH,hG,hGn,hbn⟩:∃ b' cap G,vK=(if ks.length=0 then Value.slice none 0 0 else Value.slice (some ⟨b',0,none⟩) ks.length cap)∧TH w m (.mk k t es cs ks) bq oq G (nI b' 0 ks) ∧
   (∀ f∈G,wi.heap.size≤f∧f<w.heap.size∧eD (lI (upd st' 2 (some (.box (bD us')))) φ) f∧(∀ o,m f o=none)∧(∃ (vs:List Value) (T:TypeId),w.heap[f]?=some (.cells vs.toArray T (0,0))∧∀ v∈vs,v.oneCell'=true)∧f≠bq∧f ∉ root::F)∧G.Nodup∧∀ q∈H,q.1.1≠b':=by
   by_cases h0:ks.length=0
   ·have hks:ks=[]:=zW.1 h0;subst hks;simp only[slA,yT,if_true]at aK
    cases aK
    exact⟨w.heap.size,0,FE++FC,rfl, .leaf hat kE kC hnil,hG0,hnd0,fun q hq e=>by have:=hlt _ (hHlt q hq);omega⟩
   ·simp only[slA,h0,if_false]at aK
    cases aK with
    | @osl _ _ _ _ cap b' nK ao eK l1 l2 l3 l4 =>
     have hao:=l3 (by omega);subst hao;have hK2:st2 idK=some (.arr 5 (Pn.aB ks)):=by rw[s2 idK (by omega) (by omega)];exact hK h0
     obtain⟨hbK,hokK⟩:=cK i2 eK hK2
     cases hokK with
     | @arr TK _ _ vk q1 q2 q3 q4 q5 q6 q7 q8 q9 =>
      have hb'q:b'≠bq:=fun e=>by
       subst e;have:=hi.inj idK 2 b' b' nK n2 _ _ b' (hK h0) hbox eK e2 hbK.1 hb2.1;omega
      have hnF:b' ∉ root::F:=fun hm=>by
       exact(hr.oth b' hm hb'q).2.2.1 idK b' nK eK hbK.1
      have hb0:b' ∉ FE++FC:=fun hm'=>(ab.less idK _ hK2).2 _ _ eK b' hbK.1 (hfree b' hm').2.2.2.2
      refine⟨b',cap,FE++FC++(b'::[]),by simp[h0],?_,?_,?_,fun q hq e=>hnF (e ▸ hHlt q hq)⟩
      ·refine .node hat kE kC (fun e=>h0 (by rw[e];rfl)) (by omega) ?_ (by
        rw[bG q1];have:5*cap-1<vk.length:=by omega
        rw[zX this];rfl) hnil
       rw[Pn.bA]at q5
       exact OQ q5 fun j v hj=>by
        rw[zH,bG q1];rw[zF]at hj;split at hj
        ·exact hj
        ·cases hj
      rotate_left
      ·rw[zJ];refine⟨hnd0,by simp,fun x hx y hy e=>?_⟩;simp at hy;subst hy;subst e;exact hb0 hx
      ·intro f hf
       rcases zV.1 hf with hf|hf
       ·exact hG0 f hf
       simp at hf;subst hf;refine⟨lZ hadv eK hbK.1,hbK.2 _ hbK.1,?_,q7,⟨vk,TK,q1,q9⟩,hb'q,hnF⟩;refine uR i3 hst2 (id:=idK) (blk:=.arr 5 (Pn.aB ks)) (by simp[upd,show idK≠2 by omega,hK2]) ?_ eK hbK.1;have:idK≠2:=by omega
       simp only[upd,this,if_false]
       cases hx:st' idK with
       | none=>rfl
       | some blk=>have:=(hst idK blk hx).1;omega
  obtain⟨T0,hrow0⟩:=hr.row
  have hsame:∀ f∈root::F,∀ j,(f≠bq∨j<oq∨oq+5≤j)→w.cell? ⟨f,j,none⟩=wa.cell? ⟨f,j,none⟩:=by
   intro f hf j hj;by_cases hne:f=bq
   ·subst hne;rw[bG hh,bG hrow0,← hus]
    rcases hj with hj|hj|hj
    ·exact absurd rfl hj
    ·rw[zG (by omega),← h1,zF];simp[hj]
    ·rw[zB (by omega),zB (by simp;omega),← h2,yJ];simp only[zP,yT,h3];congr 1;omega
   ·exact iZ (hr.oth f hf hne).2.2.2.2.1 j
  obtain⟨F1,H1,k1,k2,k3⟩:=TH.fill hmon hTH hr.th hr.nr hr.nd hq hsame;have hF1:∀ f,f∈F1↔f∈F∨f∈G:=fun f=>by rw[k2.mem_iff,zV]
  refine⟨F1,H1,us',b',cap,vE,vC,m,k3,by rw[← hus,hvK],hone,hbn,⟨⟨m,lI (upd st' 2 (some (.box (bD us')))) φ,i4,fun x=>?_,hA.cut,fun id hid=>?_,?_⟩,h6,h7⟩⟩
  ·rcases he x with e|⟨e,e'|e'⟩
   ·rw[e];exact .junk _
   ·rw[e,e'];have hx:=henv x;rw[e']at hx;generalize a.tmps.getD x undef=yy at hx ⊢
    cases hx with
    | own e3=>exact .own (by rw[lH (by simp[upd])];exact e3)
   ·rw[e];refine jV.rep e' (fun i hi'=>?_) (henv x);refine lH ?_;by_cases hid:i=2
    ·subst hid;simp[upd]
    ·simpa [upd,hid]using hi'
  ·cases hx:lI (upd st' 2 (some (.box (bD us')))) φ id with
   | none=>exact absurd hx hid
   | some q =>
    have:=(dN hx).2;by_cases hid2:id=2
    ·omega
    ·simp[upd,hid2]at this
     cases hy:st' id with
     | none=>exact absurd hy this
     | some blk=>have:=(hst id blk hy).1;omega
  ·refine⟨k1,fun hm=>?_,?_, .refl _,?_,⟨n2,by rw[lH (by simp[upd])];exact e2⟩,⟨T,hh⟩,hr.bqn,fun f hf hne=>?_⟩
   ·rcases(hF1 root).1 hm with h|h
    ·exact hr.nr h
    ·exact(hG root h).2.2.2.2.2.2 (by simp)
   ·rw[k2.nodup_iff];exact zJ.2 ⟨hr.nd,hGn,fun x hx y hy e=>(hG y hy).2.2.2.2.2.2 (by rw[← e];simp[hx])⟩
   ·rcases zS.1 hr.inF with e|e
    ·simp[e]
    ·simp[(hF1 bq).2 (.inl e)]
   ·have hf':f∈root::F∨f∈G:=by
     rcases zS.1 hf with e|e
     ·exact .inl (by simp[e])
     ·rcases(hF1 f).1 e with e|e
      ·exact .inl (by simp[e])
      ·exact .inr e
    rcases hf' with hf'|hf'
    ·obtain⟨q1,q2,q3,q4,q5,vs,T',q6,q7⟩:=hr.oth f hf' hne;refine⟨q1,q2,q3.cut,fun o=>?_,rfl,vs,T',by rw[q5];exact q6,q7⟩;exact q4 o
    ·obtain⟨q1,q2,q3,q4,q5,_⟩:=hG f hf';exact⟨q1,q2,q3,q4,rfl,q5⟩
theorem GR.AB2 {ok:Nat→Prop} {root:Nat} {p:Pn} {F:List Nat} {H:PL} {env env':Nat→AV} {st st':Store} {a:Act} {w wa:World} {ma:Mem} {bq:Nat} {us:List Value}
 (h:GR wi mi nt ok (ADP wi root p F H bq us wa ma) env st a w) (hbox:st 2=some (.box (bD us)))
 (hst:∀ i blk,st' i=some blk→i≠2∧st i=some blk∧gU blk) (he:∀ t,env' t=.junk∨(env' t=env t∧jV st' (env t))) :
 GR wi mi nt (fun id=>st' id≠none) (RAW wi root p F H) env' st' a w:=by
 obtain⟨⟨m,φ,hi,henv,hadv,hk,hr⟩,h6,h7⟩:=h;obtain⟨n2,e2⟩:=hr.own;obtain⟨hb2,hok2⟩:=cK hi e2 hbox;have hst2:∀ i blk,st' i=some blk→st i=some blk∧gU blk:=fun i blk hb=>(hst i blk hb).2
 cases hok2 with
 | @box T _ vs hh hl hrc hm =>
  have hone:=hrc.one;obtain rfl:=(nH hrc).symm;obtain⟨T0,hrow0⟩:=hr.row
  have hcell:∀ f∈root::F,∀ j,w.cell? ⟨f,j,none⟩=wa.cell? ⟨f,j,none⟩:=by
   intro f hf j;by_cases hne:f=bq
   ·subst hne;rw[bG hh,bG hrow0]
   ·exact iZ (hr.oth f hf hne).2.2.2.2.1 j
  refine⟨⟨m,lI st' φ,hi.cut hst2,fun x=>?_,hadv.cut,fun id hid=>?_,?_⟩,h6,h7⟩
  ·rcases he x with e|⟨e,e'⟩
   ·rw[e];exact .junk _
   ·rw[e];exact e'.rep (fun i hi'=>lH hi') (henv x)
  ·cases hx:lI st' φ id with
   | none=>exact absurd hx hid
   | some q=>exact(dN hx).2
  ·refine⟨hr.th.frame hr.le (fun j _ _=>hcell root (by simp) j) (fun f hf j=>hcell f (by simp[hf]) j),hr.nr,hr.nd,fun f hf=>?_⟩;by_cases hne:f=bq
   ·subst hne;refine⟨hr.bqn,(zN.1 hh).1,?_,hm,us,T,hh,hone⟩;refine uR hi hst2 hbox ?_ e2 hb2.1
    cases hx:st' 2 with
    | none=>rfl
    | some blk=>exact absurd rfl (hst 2 blk hx).1
   ·obtain⟨q1,q2,q3,q4,q5,vs',T',q6,q7⟩:=hr.oth f hf hne;exact⟨q1,q2,q3.cut,q4,vs',T',by rw[q5];exact q6,q7⟩
end
theorem UM {m:Mem} {φ:Pl}:∀ {cs:List IV} {vs:List Value},RepC m φ (lF cs) vs→ICells m cs vs
 | [],_, .nil=>.nil
 | c::cs,_, .cons a o b=>by
  cases a with
  | i a=>exact .cons a o (UM b)
section
variable {wi:World} {mi:Mem} {nt:Nat}
theorem GR.Ae8 {ok:Nat→Prop} {R:World→Mem→Pl→Prop} {p:Pn} {env:Nat→AV} {st st':Store} {a:Act} {w:World} {u id:Nat} (h:GR wi mi nt ok R env st a w) (hu:env u=.own id 0) (hbox:st id=some (.box (lF p.cells)))
 (hst:∀ i blk,st' i=some blk→i≠id∧st i=some blk∧gU blk) :
 ∃ b3,∀ env',(∀ t,env' t=.junk∨(t=u∧env' t=.i (.lit (.pointer (some ⟨b3,0,none⟩))))∨(env' t=env t∧jV st' (env t)))→GR wi mi nt (fun i=>st' i≠none) (RAW wi b3 p [] [((b3,0),p)]) env' st' a w:=by
 obtain⟨⟨m,φ,hi,henv,hadv,hk,_⟩,h6,h7⟩:=h;have hr:=henv u;rw[hu]at hr;generalize hy:a.tmps.getD u undef=yy at hr
 cases hr with
 | @own _ _ b3 n3 e3 =>
  obtain⟨hb,hok⟩:=cK hi e3 hbox;have hst2:∀ i blk,st' i=some blk→st i=some blk∧gU blk:=fun i blk hb=>(hst i blk hb).2
  cases hok with
  | @box T _ vs hh hl hrc hm =>
   have hc:=UM hrc;have hlen:=hc.length;rw[Pn.dH]at hlen
   obtain⟨v0,v1,v2,v3,v4,rfl⟩:∃ v0 v1 v2 v3 v4,vs=[v0,v1,v2,v3,v4]:=by
    match vs,hlen with
    | [v0,v1,v2,v3,v4],_=>exact⟨v0,v1,v2,v3,v4,rfl⟩
   refine⟨b3,fun env' he=>⟨⟨m,lI st' φ,hi.cut hst2,fun t=>?_,hadv.cut,fun i hi'=>?_,?_⟩,h6,h7⟩⟩
   ·rcases he t with e|⟨rfl,e⟩|⟨e,e'⟩
    ·rw[e];exact .junk _
    ·rw[e,hy];exact .i (.lit _)
    ·rw[e];exact e'.rep (fun i hi'=>lH hi') (henv t)
   ·cases hx:lI st' φ i with
    | none=>exact absurd hx hi'
    | some q=>exact(dN hx).2
   ·refine⟨.fresh hc ⟨by rw[bG hh];rfl,by rw[bG hh];rfl,by rw[bG hh];rfl,by rw[bG hh];rfl,by rw[bG hh];rfl⟩,by simp,List.nodup_nil,fun f hf=>?_⟩;simp at hf;subst hf;refine⟨lZ hadv e3 hb.1,hb.2 _ hb.1,?_,hm,_,T,hh,hrc.one⟩;refine uR hi hst2 hbox ?_ e3 hb.1
    cases hx:st' id with
    | none=>rfl
    | some blk=>exact absurd rfl (hst id blk hx).1
theorem GR.fin {ok:Nat→Prop} {root:Nat} {p:Pn} {F:List Nat} {env:Nat→AV} {st:Store} {a:Act} {w:World} (h:GR wi mi nt ok (RAW wi root p F []) env st a w) (hst:∀ i blk,st i=some blk→gU blk) {u:Nat} (hu:env u=.i (.lit (.pointer (some ⟨root,0,none⟩)))) {env':Nat→AV} (he:∀ t,env' t=.junk∨(t=u∧env' t=.i (.iref p.cells))∨(env' t=env t∧jV st (env t))) :
 GR wi mi nt ok (fun _ _ _=>True) env' st a w:=by
 classical
 obtain⟨⟨m,φ,hi,henv,hadv,hk,hr⟩,h6,h7⟩:=h
 let m':Mem:=fun f o=>if f∈root::F then w.cell? ⟨f,o,none⟩else m f o
 have hin:∀ f,f∈root::F→∀ o,m' f o=w.cell? ⟨f,o,none⟩:=fun f hf o=>by show(if f∈root::F then _ else _)=_;rw[if_pos hf]
 have hout:∀ f,f ∉ root::F→∀ o,m' f o=m f o:=fun f hf o=>by show(if f∈root::F then _ else _)=_;rw[if_neg hf]
 have hle:MLe m m':=fun f o v e=>by
  by_cases hf:f∈root::F
  ·rw[(hr.all f hf).2.2.2.1 o]at e;cases e
  ·rw[hout f hf];exact e
 have hmem:kR w m':=fun f o v e=>by
  by_cases hf:f∈root::F
  ·rw[hin f hf]at e;exact e
  ·rw[hout f hf]at e;exact hi.mem f o v e
 have hat:IAt m' root 0 p.cells:=hr.th.iat hle (fun j _ _=>hin root (by simp) j) (fun f hf j=>hin f (by simp[hf]) j);refine⟨⟨m',φ,⟨hmem,fun i blk hb=>?_,hi.inj,hi.low,hi.kn.mem hle⟩,fun t=>?_,⟨hadv.size,hadv.os,hadv.tape,hadv.output,hadv.block,hadv.mle.trans hle,fun f hf hfr o=>?_,hadv.ple,hadv.pnew⟩,hk,trivial⟩,h6,h7⟩
 ·obtain⟨b,n,q1,q2,q3⟩:=hi.live i blk hb;refine⟨b,n,q1,q2,q3.X6 (hst i blk hb) rfl fun o ho=>?_⟩;rw[hout b (fun hf=>(hr.all b hf).2.2.1 i b n q1 q2.1)];exact ho
 ·rcases he t with e|⟨rfl,e⟩|⟨e,e'⟩
  ·rw[e];exact .junk _
  ·have hx:=henv t;rw[hu]at hx;rw[e,hx.lit_eq];exact .i (.iref hat)
  ·rw[e];exact e'.rep (fun _ _=>rfl) (henv t)
 ·rw[hout f (fun hf'=>by have:=(hr.all f hf').1;omega)];exact hadv.mnew f hf hfr o
theorem RAW.keep {root:Nat} {p:Pn} {F:List Nat} {H:PL} {w:World} {m:Mem} {φ:Pl} (ids:List Nat) (h:RAW wi root p F H w m φ):RAW wi root p F H w m (eX ids φ):=by
 refine⟨h.th,h.nr,h.nd,fun f hf=>?_⟩;obtain⟨k1,k2,k3,k4,k5⟩:=h.all f hf;refine⟨k1,k2,fun id r n e=>?_,k4,k5⟩;unfold eX at e
 cases hx:ids[id]? with
 | none=>rw[hx]at e;cases e
 | some j=>rw[hx]at e;exact k3 j r n e
theorem GR.settle {ok:Nat→Prop} {R:World→Mem→Pl→Prop} (hR:∀ w m φ ids,R w m φ→R w m (eX ids φ)) {env:Nat→AV} {st:Store} {a:Act} {w:World} (G:List Nat) (h:GR wi mi nt ok R env st a w) :
 GR wi mi nt (fun id=>id<(Av.settle G 0 env st).st.length) R (aJ (Av.settle G 0 env st).env) (aR (Av.settle G 0 env st).st) a w:=by
 obtain⟨⟨m,φ,hi,henv,hadv,hok,hK⟩,hsz,hdf⟩:=h;unfold Av.settle AL;generalize hids:jL st 0 (EE env G)=ids;have hd:ids.Nodup:=by rw[← hids];exact iX _ _ _
 refine⟨⟨m,eX ids φ,hi.keep hd,?_,hadv.keep (fun id h=>absurd rfl h) (fun j hj=>absurd hj (xS j)),?_,hR _ _ _ ids hK⟩,hsz,hdf⟩
 ·intro t
  have key:∀ G:List Nat,Rep m (eX ids φ) (aJ (mR (iD ids) env G) t) (a.tmps.getD t undef):=by
   intro G
   induction G with
   | nil=>exact .junk _
   | cons u G ih =>
    simp only[mR,aJ];by_cases e:t=u
    ·subst e;simp only[if_true];exact(henv t).ren (nZ ids φ)
    ·simp only[e,if_false];exact ih
  exact key G
 ·intro id hne;simp only[iT];unfold eX at hne
  cases hx:ids[id]? with
  | none=>rw[hx]at hne;exact absurd rfl hne
  | some i=>exact(zZ.1 hx).1
theorem GR.envTo {ok:Nat→Prop} {R:World→Mem→Pl→Prop} {env env':Nat→AV} {st:Store} {a:Act} {w:World} (h:GR wi mi nt ok R env st a w) (he:∀ t,env' t=.junk∨env' t=env t):GR wi mi nt ok R env' st a w:=by
 refine h.turn fun m φ h1 h2 h3 h4 h5=>⟨m,φ,h1,fun t=>?_,h3,h4,h5⟩
 rcases he t with e|e
 ·rw[e];exact .junk _
 ·rw[e];exact h2 t
theorem GR.ok' {ok ok':Nat→Prop} {R:World→Mem→Pl→Prop} {env:Nat→AV} {st:Store} {a:Act} {w:World} (h:GR wi mi nt ok R env st a w) (he:∀ id,ok id→ok' id):GR wi mi nt ok' R env st a w :=
 h.turn fun m φ h1 h2 h3 h4 h5=>⟨m,φ,h1,h2,h3,fun id hi=>he id (h4 id hi),h5⟩
theorem GR.AYG {C:Ctx} (hS:SoundOk C) {G:List Nat} {c:Code} {S:AS} {a:Act} {w:World} {R:World→Mem→Pl→Prop} (hR:XA R) {PP:AExit→AS→Prop} (hc:codeOk nt c=true) (hx:∃ e S',dY C G S.st.length c S=some (e,S')∧PP e S') (h:GR wi mi nt (fun id=>id<S.st.length) R (aJ S.env) (aR S.st) a w) (hnr:bK c=true:=by rfl) :
 c.wp C.P (fun e' a' w'=>∃ e S',e'=gQ e∧PP e S'∧GR wi mi nt (fun id=>id<S'.st.length) R (aJ S'.env) (aR S'.st) a' w') a w:=by
 obtain⟨e,S',h1,h2⟩:=hx;refine wp_mono (GR.eF hS hR hc h1 h hnr) ?_;rintro e' a' w' ⟨rfl,hg⟩;exact⟨e,S',rfl,h2,hg⟩
end
@[simp] theorem I8 (a:List Value):(bD a).length=a.length:=by simp[bD]
theorem VV {α:Type}:∀ (a b:List α) (n:Nat),dropE (a.length+n) (a++b)=dropE n b
 | [],b,n=>by simp
 | x::a,b,n=>by
  rw[zP,show a.length+1+n=(a.length+n)+1 by omega];exact VV a b n
theorem O7 {α:Type}:∀ (a b:List α) (n:Nat) (xs:List α),splice (a++b) (a.length+n) xs=bnd (splice b n xs) fun l=>some (a++l)
 | [],b,n,xs=>by simp;cases splice b n xs<;>rfl
 | x::a,b,n,xs=>by
  rw[zP,show a.length+1+n=(a.length+n)+1 by omega];show bnd (splice (a++b) (a.length+n) xs) _=_;rw[O7 a b n xs]
  cases splice b n xs<;>rfl
theorem RN (pre post:List Value) (row:List AV) (j n:Nat):cut (lT pre row post) (pre.length+j) n=cut (row++bD post) j n:=by
 unfold cut lT;have:=VV (bD pre) (row++bD post) j;rw[I8]at this;rw[this]
theorem rF (pre post:List Value) (row:List AV) (j:Nat) (xs:List AV):splice (lT pre row post) (pre.length+j) xs=bnd (splice (row++bD post) j xs) fun l=>some (bD pre++l):=by
 unfold lT;have:=O7 (bD pre) (row++bD post) j xs;rw[I8]at this;exact this
theorem BC (a:List Value):bC (bD a)=[]:=by
 induction a with
 | nil=>rfl
 | cons v a ih=>simpa [bD,bC,dE]using ih
theorem FH (r:Nat→Option Nat) (a:List Value):DL r (bD a)=bD a:=by
 induction a with
 | nil=>rfl
 | cons v a ih=>simpa [bD,DL,ren]using ih
theorem ADN (a b:List AV):bC (a++b)=bC a++bC b:=by
 induction a with
 | nil=>rfl
 | cons c a ih=>simp[bC,ih]
theorem ALN (r:Nat→Option Nat) (a b:List AV):DL r (a++b)=DL r a++DL r b:=by
 induction a with
 | nil=>rfl
 | cons c a ih=>simp[DL,ih]
theorem bE (pre post:List Value) (row:List AV):bC (lT pre row post)=bC row:=by
 simp[lT,ADN,BC]
theorem bQ (r:Nat→Option Nat) (pre post:List Value) (row:List AV):DL r (lT pre row post)=lT pre (DL r row) post:=by
 simp[lT,ALN,FH]
section
variable (pre post:List Value) (a0 a1 a2 a3 a4 x:AV)
theorem Ac1:cut (lT pre [a0,a1,a2,a3,a4] post) (pre.length+2) 1=some [a2]:=by rw[RN];rfl
theorem Ac0:cut (lT pre [a0,a1,a2,a3,a4] post) (pre.length+3) 1=some [a3]:=by rw[RN];rfl
theorem AbZ:cut (lT pre [a0,a1,a2,a3,a4] post) (pre.length+4) 1=some [a4]:=by rw[RN];rfl
theorem XU:splice (lT pre [a0,a1,a2,a3,a4] post) (pre.length+2) [x]=some (lT pre [a0,a1,x,a3,a4] post):=by rw[rF];rfl
theorem ALA:splice (lT pre [a0,a1,a2,a3,a4] post) (pre.length+3) [x]=some (lT pre [a0,a1,a2,x,a4] post):=by rw[rF];rfl
theorem U6:splice (lT pre [a0,a1,a2,a3,a4] post) (pre.length+4) [x]=some (lT pre [a0,a1,a2,a3,x] post):=by rw[rF];cases post<;>rfl
theorem AQI:CY 1 (dropE (pre.length+2) (lT pre [a0,a1,a2,a3,a4] post))=some [a2]:=Ac1 pre post a0 a1 a2 a3 a4
theorem AZ5:CY 1 (dropE (pre.length+3) (lT pre [a0,a1,a2,a3,a4] post))=some [a3]:=Ac0 pre post a0 a1 a2 a3 a4
theorem ACC:CY 1 (dropE (pre.length+4) (lT pre [a0,a1,a2,a3,a4] post))=some [a4]:=AbZ pre post a0 a1 a2 a3 a4
end
mutual
theorem TH.AhJ {w:World} {m m':Mem} (hm:MLe m m') {x:Pn} {b o:Nat} {F:List Nat} {H:PL}:TH w m x b o F H→(∀ j,o≤j→j<o+5→m' b j=w.cell? ⟨b,j,none⟩)→(∀ f∈F,∀ j,m' f j=w.cell? ⟨f,j,none⟩)→IAt m' b o x.cells
 | .fresh h1 h2,hb,hF=>by
  refine IAt.mk o (h1.mono hm) fun j v hj=>?_
  rcases j with _|_|_|_|_|j
  ·simp at hj;subst hj;exact(hb _ (by omega) (by omega)).trans h2.c0
  ·simp at hj;subst hj;exact(hb _ (by omega) (by omega)).trans h2.c1
  ·simp at hj;subst hj;exact(hb _ (by omega) (by omega)).trans h2.c2
  ·simp at hj;subst hj;exact(hb _ (by omega) (by omega)).trans h2.c3
  ·simp at hj;subst hj;exact(hb _ (by omega) (by omega)).trans h2.c4
  ·simp at hj
 | .leaf h1 h2 h3 h4,hb,hF=>by
  rw[Pn.bF];exact .cons ((hb _ (by omega) (by omega)).trans h1.c0) (.lit _) rfl (.cons ((hb _ (by omega) (by omega)).trans h1.c1) (.lit _) rfl (.cons ((hb _ (by omega) (by omega)).trans h1.c2) (h2.rep fun f hf=>hF f (by simp[hf])) h2.one (.cons ((hb _ (by omega) (by omega)).trans h1.c3) (h3.rep fun f hf=>hF f (by simp[hf])) h3.one (.cons ((hb _ (by omega) (by omega)).trans h1.c4) (.isl0 _ _ fun _=>rfl) rfl (.nil _ _)))))
 | .node h1 h2 h3 h4 h5 h6 h7 h8,hb,hF=>by
  rename_i ks b' cap vE vC FE FC F;rw[Pn.bF];have he:=THL.AbQ hm h6 (fun j _ _=>hF b' (by simp) j) (fun f hf=>hF f (by simp[hf]));have hl:(Pn.aB ks).length=ks.length:=by simp
  have hn:Pn.aB ks≠[]:=fun e=>by rw[e]at hl;simp at hl;exact h4 (zW.1 hl.symm)
  have hk:IRep m' (.isl (Pn.aB ks)) (.slice (some ⟨b',0,none⟩) ks.length cap):=by
   have:=IRep.isl (cap:=cap) hn he (by omega)
   rwa [hl]at this
  exact .cons ((hb _ (by omega) (by omega)).trans h1.c0) (.lit _) rfl (.cons ((hb _ (by omega) (by omega)).trans h1.c1) (.lit _) rfl (.cons ((hb _ (by omega) (by omega)).trans h1.c2) (h2.rep fun f hf=>hF f (by simp[hf])) h2.one (.cons ((hb _ (by omega) (by omega)).trans h1.c3) (h3.rep fun f hf=>hF f (by simp[hf])) h3.one (.cons ((hb _ (by omega) (by omega)).trans h1.c4) hk rfl (.nil _ _)))))
theorem THL.AbQ {w:World} {m m':Mem} (hm:MLe m m') {xs:List Pn} {b o:Nat} {F:List Nat} {H:PL}:THL w m xs b o F H→(∀ j,o≤j→j<o+5*xs.length→m' b j=w.cell? ⟨b,j,none⟩)→(∀ f∈F,∀ j,m' f j=w.cell? ⟨f,j,none⟩)→IElems m' b o 5 (Pn.aB xs)
 | .nil b o,hb,hF=>by simp only[Pn.aB];exact .nil b o 5
 | .cons h1 h2,hb,hF=>by
  simp only[Pn.aB];exact .cons (TH.AhJ hm h1 (fun j l1 l2=>hb j l1 (by simp only[zP];omega)) (fun f hf=>hF f (by simp[hf]))) (Pn.dH _) (THL.AbQ hm h2 (fun j l1 l2=>hb j (by omega) (by simp only[zP];omega)) (fun f hf=>hF f (by simp[hf])))
end
theorem THL.nth {w:World} {m:Mem} {b:Nat}:∀ {xs:List Pn} {o:Nat} {F:List Nat} {i:Nat} {x:Pn},THL w m xs b o F []→xs[i]?=some x →
 ∃ Fa Fi Fz,F=Fa++(Fi++Fz)∧TH w m x b (o+5*i) Fi []∧∀ {w':World} {m':Mem} {y:Pn} {G:List Nat} {HY:PL},MLe m m'→(∀ j,o≤j→j<o+5*xs.length→(j<o+5*i∨o+5*i+5≤j)→w'.cell? ⟨b,j,none⟩=w.cell? ⟨b,j,none⟩) →
   (∀ f∈Fa++Fz,∀ j,w'.cell? ⟨f,j,none⟩=w.cell? ⟨f,j,none⟩)→TH w' m' y b (o+5*i) G HY→THL w' m' (xs.set i y) b o (Fa++(G++Fz)) HY:=by
 intro xs
 induction xs with
 | nil=>intro o F i x _ h;simp at h
 | cons a xs ih =>
  intro o F i x h hx;generalize hH:([]:PL)=H at h
  cases h with
  | @cons _ _ _ _ F1 F2 H1 H2 h1 h2 =>
   obtain⟨rfl,rfl⟩:=zD8.1 hH.symm
   cases i with
   | zero =>
    simp at hx;subst hx;refine⟨[],F1,F2,by simp,by simpa using h1,fun {w' m' y G HY} hm hw hF hy=>?_⟩;have k2:=THL.frame hm (fun j l1 l2=>hw j (by omega) (by simp only[zP];omega) (.inr (by omega))) (fun f hf=>hF f (by simp[hf])) h2;have:=THL.cons hy k2;simpa using this
   | succ i =>
    obtain⟨Fa,Fi,Fz,e,h3,h4⟩:=ih h2 (by simpa using hx);subst e;refine⟨F1++Fa,Fi,Fz,by simp,by rw[show o+5*(i+1)=o+5+5*i by omega];exact h3,fun {w' m' y G HY} hm hw hF hy=>?_⟩;rw[show o+5*(i+1)=o+5+5*i by omega]at hy;have k1:=TH.frame hm (fun j l1 l2=>hw j l1 (by simp only[zP];omega) (.inl (by omega))) (fun f hf=>hF f (by simp[hf])) h1;have k2:=h4 hm (fun j l1 l2 l3=>hw j (by omega) (by simp only[zP];omega) (by omega)) (fun f hf=>hF f (by rcases zV.1 hf with h|h<;>simp[h])) hy;have:=THL.cons k1 k2;simpa using this
theorem ALP {path:List Int} {x y z:Pn} {i:Nat} (h:Pn.at path x=some y):Pn.put (path++[(i:Int)]) x z=Pn.put path x (.mk y.kind y.table y.exprs y.cols (y.kids.set i z)):=by
 induction path generalizing x with
 | nil =>
  simp only[Pn.at,Option.some.injEq]at h;subst h
  cases hk:x.kids[i]? with
  | none =>
   have:x.kids.length≤i:=by simpa using hk
   simp[Pn.put,hk,List.set_eq_of_length_le this,Pn.eta]
  | some k=>simp[Pn.put,hk]
 | cons j path ih =>
  simp only[Pn.at]at h;split at h
  ·rename_i h0
   cases hk:x.kids[j.toNat]? with
   | none=>rw[hk]at h;cases h
   | some k =>
    rw[hk]at h;have:=ih h;simp[Pn.put,hk,this]
  ·cases h
structure AtP (w:World) (m:Mem) (x:Pn) (b o:Nat) (F:List Nat) (path:List Int) (y:Pn) (bq oq:Nat) (Fa Fy Fz:List Nat):Prop where
 eq:F=Fa++(Fy++Fz)
 inb:bq∈b::Fa
 nr:b ∉ F
 nd:F.Nodup
 is:Pn.at path x=some y
 th:TH w m y bq oq Fy []
 fill:∀ {w':World} {m':Mem} {y':Pn} {G:List Nat} {HY:PL},MLe m m'→(∀ f∈b::(Fa++Fz),∀ j,(f≠bq∨j<oq∨oq+5≤j)→w'.cell? ⟨f,j,none⟩=w.cell? ⟨f,j,none⟩)→TH w' m' y' bq oq G HY→TH w' m' (Pn.put path x y') b o (Fa++(G++Fz)) HY
theorem AtP.start {w:World} {m:Mem} {x:Pn} {b o:Nat} {F:List Nat} (h:TH w m x b o F []) (hr:b ∉ F) (hn:F.Nodup):AtP w m x b o F [] x b o [] F [] :=
 ⟨by simp,by simp,hr,hn,rfl,h,fun _ _ hy=>by simpa [Pn.put]using hy⟩
theorem AtP.mem {w:World} {m:Mem} {x:Pn} {b o:Nat} {F:List Nat} {path:List Int} {y:Pn} {bq oq:Nat} {Fa Fy Fz:List Nat} (h:AtP w m x b o F path y bq oq Fa Fy Fz):bq∈b::F:=by
 rw[h.eq]
 rcases zS.1 h.inb with e|e
 ·simp[e]
 ·simp[e]
theorem AtP.frame {w w':World} {m m':Mem} {x:Pn} {b o:Nat} {F:List Nat} {path:List Int} {y:Pn} {bq oq:Nat} {Fa Fy Fz:List Nat} (h:AtP w m x b o F path y bq oq Fa Fy Fz) (hm:MLe m m') (hF:∀ f∈b::F,∀ j,w'.cell? ⟨f,j,none⟩=w.cell? ⟨f,j,none⟩):AtP w' m' x b o F path y bq oq Fa Fy Fz:=by
 refine⟨h.eq,h.inb,h.nr,h.nd,h.is,h.th.frame hm (fun j _ _=>hF bq h.mem j) (fun f hf j=>hF f (by rw[h.eq];simp[hf]) j),fun hm' hw hy=>h.fill (hm.trans hm') (fun f hf j hj=>?_) hy⟩;rw[hw f hf j hj];refine hF f ?_ j;rw[h.eq]
 rcases zS.1 hf with e|e
 ·simp[e]
 ·rcases zV.1 e with e|e<;>simp[e]
theorem AtP.step {w:World} {m:Mem} {x:Pn} {b o:Nat} {F:List Nat} {path:List Int} {y z:Pn} {bq oq:Nat} {Fa Fy Fz:List Nat} {i:Nat} (h:AtP w m x b o F path y bq oq Fa Fy Fz) (hz:y.kids[i]?=some z) :
 ∃ b' cap,w.cell? ⟨bq,oq+4,none⟩=some (.slice (some ⟨b',0,none⟩) y.kids.length cap)∧y.kids.length≤cap∧∃ Fa' Fy' Fz',AtP w m x b o F (path++[(i:Int)]) z b' (5*i) Fa' Fy' Fz':=by
 have ht:=h.th;have hFq:=h.eq;generalize hH:([]:PL)=H at ht
 cases ht with
 | fresh=>cases hH
 | leaf h1 h2 h3 h4=>simp[Pn.kids]at hz
 | @node k t es cs ks _ _ b' cap vE vC FE FC F1 _ h1 h2 h3 h4 h5 h6 h7 h8 =>
  subst hH;have hz:ks[i]?=some z:=hz;obtain⟨Ga,Gi,Gz,e,t1,t2⟩:=h6.nth hz;subst e;have hnd:=h.nd;rw[hFq]at hnd;have hnr:=h.nr;rw[hFq]at hnr
  have hne:bq≠b':=by
   intro e
   rcases zS.1 h.inb with e'|e'
   ·exact hnr (by rw[← e',e];simp)
   ·rw[zJ]at hnd;exact hnd.2.2 _ e' b' (by simp) e
  have hb1:FE++FC++(b'::(Ga++(Gi++Gz))++Fz) |>.Nodup:=by
   have hb:=(zJ.1 hnd).2.1
   rwa [yZ (FE++FC)]at hb
  have hdis:∀ f∈FE++FC,f≠b':=fun f hf=>(zJ.1 hb1).2.2 f hf b' (by simp)
  have hb2:=(zJ.1 hb1).2.1;simp only[yV,yX]at hb2;refine⟨b',cap,h1.c4,h5,Fa++(FE++FC++(b'::Ga)),Gi,Gz++Fz,by rw[hFq];simp,by simp,h.nr,h.nd,?_,by simpa using t1,fun {w' m' y' G HY} hm hw hy=>?_⟩
  ·rw[uX path x _ [(i:Int)] h.is];simp[Pn.at,Pn.kids,hz]
  ·rw[ALP h.is]
   have hK:THL w' m' (ks.set i y') b' 0 (Ga++(G++Gz)) HY:=by
    refine t2 hm (fun j _ _ hj=>hw b' (by simp) j (.inr (by omega))) (fun f hf j=>hw f (by rcases zV.1 hf with e|e<;>simp[e]) j (.inl ?_)) (by simpa using hy);intro e;subst e;exact hb2.1 (by rcases zV.1 hf with e|e<;>simp[e])
   have hlen:(ks.set i y').length=ks.length:=by simp
   have hn:ks.set i y'≠[]:=fun e=>by rw[e]at hlen;simp at hlen;exact h4 (zW.1 hlen.symm)
   have hbq:bq∈b::((Fa++(FE++FC++(b'::Ga)))++(Gz++Fz)):=by
    rcases zS.1 h.inb with e'|e'
    ·simp[e']
    ·simp[e']
   have hA:=h1.frame (w':=w') (fun j l1 l2=>hw bq hbq j (.inl hne));rw[← hlen]at hA
   have hY:TH w' m' (.mk k t es cs (ks.set i y')) bq oq (FE++FC++(b'::(Ga++(G++Gz)))) HY :=
    .node hA (h2.frame fun f hf j=>hw f (by simp[hf]) j (.inl (hdis f (by simp[hf])))) (h3.frame fun f hf j=>hw f (by simp[hf]) j (.inl (hdis f (by simp[hf])))) hn (by rw[hlen];exact h5) hK (by
     by_cases hj:5*cap-1<5*i∨5*i+5≤5*cap-1
     ·rw[hw b' (by simp) _ (.inr hj)];exact h7
     ·obtain⟨d,hd,e⟩:∃ d,d<5∧5*cap-1=5*i+d:=⟨5*cap-1-5*i,by omega,by omega⟩
      rw[e];exact hy.at5 d hd) h8
   have:=h.fill hm (fun f hf j hj=>hw f (by
    rcases zS.1 hf with e|e
    ·simp[e]
    ·rcases zV.1 e with e|e<;>simp[e]) j (by
    by_cases e:f=b'
    ·subst e;exfalso
     rcases zS.1 hf with e|e
     ·exact hnr (by rw[← e];simp)
     ·rcases zV.1 e with e|e
      ·exact(zJ.1 hnd).2.2 _ e f (by simp) rfl
      ·exact hb2.1 (by simp[e])
    ·exact .inl e)) hY
   simpa [Pn.kind,Pn.table,Pn.exprs,Pn.cols,Pn.kids]using this
def eB:Blk→Prop
 | .box cs=>∀ c∈cs,(∃ v,c=.i v)∨c=.nils
 | .loop _ _ _=>False
 | _=>True
theorem RepC.tree {m:Mem} {φ φ':Pl}:∀ {cs:List AV} {vs:List Value},(∀ c∈cs,(∃ v,c=.i v)∨c=.nils)→RepC m φ cs vs→RepC m φ' cs vs
 | [],_,_, .nil=>.nil
 | c::cs,_,h, .cons a o r=>by
  have hr:=RepC.tree (m:=m) (φ':=φ') (fun d hd=>h d (by simp[hd])) r
  rcases h c (by simp)with ⟨v,rfl⟩|rfl
  ·cases a with|i a=>exact .cons (.i a) o hr
  ·cases a;exact .cons .nils o hr
theorem BlkOk.tree {w:World} {m:Mem} {φ φ':Pl} {b:Nat} {n:Ext} {blk:Blk} (hl:eB blk) (h:BlkOk w m φ b n blk):BlkOk w m φ' b n blk:=by
 cases h with
 | box h1 h2 h3 h4=>exact .box h1 h2 (h3.tree hl) h4
 | arr h1 h2 h3 h4 h5 h6 h7 h8 h9=>exact .arr h1 h2 h3 h4 h5 h6 h7 h8 h9
 | frz h1 h2=>exact .frz h1 h2
 | fbox h1=>exact .fbox h1
 | tre h1 h2 h3 h4 h5 h6 h7 h8 h9 h10=>exact .tre h1 h2 h3 h4 h5 h6 h7 h8 h9 h10
 | loop=>cases hl
theorem Inv.AUP {w:World} {m:Mem} {φ:Pl} {st st':Store} (hi:Inv w m φ st) (hst:∀ i blk,st' i=some blk→st i=some blk∧eB blk):Inv w m (lI st' φ) st':=by
 refine⟨hi.mem,?_,?_,(fun i b n f e ho=>hi.low i b n f (dN e).1 ho),hi.kn⟩
 ·intro i blk hb;obtain⟨h1,h2⟩:=hst i blk hb;obtain⟨b,n,q1,q2,q3⟩:=hi.live i blk h1;exact⟨b,n,by rw[lH (by rw[hb];simp)];exact q1,q2,q3.tree h2⟩
 ·intro i j b bx n n2 b1 b2 f h1 h2 h3 h4 o1 o2;exact hi.inj i j b bx n n2 b1 b2 f (hst i b1 h1).1 (hst j b2 h2).1 (dN h3).1 (dN h4).1 o1 o2
theorem kJ {w:World} {m:Mem} {φ:Pl} {st st':Store} {id b f:Nat} {n:Ext} {blk:Blk} (hi:Inv w m φ st) (hst:∀ i blk,st' i=some blk→st i=some blk) (hid:st id=some blk) (hn:st' id=none) (e:φ id=some (b,n)) (ho:n.own f):eD (lI st' φ) f:=by
 intro i r n' e' ho';obtain⟨h1,h2⟩:=dN e'
 cases hb:st' i with
 | none=>exact h2 hb
 | some blk' =>
  have:=hi.inj i id r b n' n blk' blk f (hst i blk' hb) hid h1 e ho' ho;rw[this,hn]at hb;cases hb
def cO (st':Store):AV→Prop
 | .i _=>True
 | .own id _=>st' id≠none
 | .osl id _ _ _=>st' id≠none
 | .nils=>True
 | _=>False
theorem cO.rep {m:Mem} {φ φ':Pl} {st':Store} {v:AV} {x:Value} (h:cO st' v) (he:∀ i,st' i≠none→φ' i=φ i) (hr:Rep m φ v x):Rep m φ' v x:=by
 unfold cO at h;split at h
 ·cases hr with|i k=>exact .i k
 ·cases hr with
  | own e=>exact .own (by rw[he _ h];exact e)
 ·cases hr with
  | osl e a b c d=>exact .osl (by rw[he _ h];exact e) a b c d
 ·cases hr;exact .nils
 ·cases h
theorem Inv.AY2 {w w':World} {m m':Mem} {φ:Pl} {st:Store} (hi:Inv w m φ st) (ha:Adv w m (fun _=>none) w' m' (fun _=>none)) (hm:kR w' m'):Inv w' m' φ st∧Adv w m φ w' m' φ:=by
 have hb:∀ f,f<w.heap.size→w'.heap[f]?=w.heap[f]?:=fun f hf=>ha.block f hf fun _ _ _ e=>by cases e
 have hn:∀ f,f<w.heap.size→∀ o,m' f o=m f o:=fun f hf=>ha.mnew f hf fun _ _ _ e=>by cases e
 refine⟨⟨hm,fun id blk e=>?_,hi.inj,(fun id b n f e ho=>zI (hi.low id b n f e ho) ha.size),(hi.kn.same hb).mem ha.mle⟩,⟨ha.size,ha.os,ha.tape,ha.output,fun b hb' _=>hb b hb',ha.mle,fun b hb' _=>hn b hb', .refl _,fun _ _ _ _ e ho=>.inr (eD.not e ho)⟩⟩;obtain⟨b,n,k1,k2,k3⟩:=hi.live id blk e;exact⟨b,n,k1,⟨k2.1,fun f hf=>zI (k2.2 f hf) ha.size⟩,k3.mono k2.1 (fun f hf=>hb f (k2.2 f hf)) ha.mle (.refl _) fun f hf=>hn f (k2.2 f hf)⟩
structure CPY (wi:World) (p:Pn) (F:List Nat) (v0 v1 v2 v3 v4:Value) (w:World) (m:Mem) (φ:Pl):Prop where
 th:∀ {w':World} {m':Mem} {b o:Nat},MLe m m'→(∀ f∈F,∀ j,w'.cell? ⟨f,j,none⟩=w.cell? ⟨f,j,none⟩)→At5 w' b o v0 v1 v2 v3 v4→TH w' m' p b o F []
 cells:∀ {m':Mem},MLe m m'→(∀ f∈F,∀ j,m' f j=w.cell? ⟨f,j,none⟩)→ICells m' p.cells [v0,v1,v2,v3,v4]
 nd:F.Nodup
 all:∀ f∈F,wi.heap.size≤f∧f<w.heap.size∧eD φ f∧(∀ o,m f o=none)∧∃ (vs:List Value) (T:TypeId),w.heap[f]?=some (.cells vs.toArray T (0,0))∧∀ v∈vs,v.oneCell'=true
 kc:KCells w p.cells [v0,v1,v2,v3,v4] F∧(p.exprs=[]→v2=.slice none 0 0)∧(p.cols=[]→v3=.slice none 0 0)∧(p.kids=[]→v4=.slice none 0 0)
theorem CPY.D8 (wi:World) (p:Pn) (F:List Nat) (v0 v1 v2 v3 v4:Value):XA (CPY wi p F v0 v1 v2 v3 v4):=by
 intro w m φ w' m' φ' ha h;have hs:∀ f∈F,w'.heap[f]?=w.heap[f]?:=fun f hf=>ha.block f (h.all f hf).2.1 (h.all f hf).2.2.1
 refine⟨fun hm hw h5=>h.th (ha.mle.trans hm) (fun f hf j=>(hw f hf j).trans (iZ (hs f hf) j)) h5,fun hm hw=>h.cells (ha.mle.trans hm) fun f hf j=>(hw f hf j).trans (iZ (hs f hf) j),h.nd,fun f hf=>?_,h.kc.1.frame fun f hf j=>iZ (hs f hf) j,h.kc.2⟩;obtain⟨k1,k2,k3,k4,vs,T,k5,k6⟩:=h.all f hf;exact⟨k1,zI k2 ha.size,ha.range k2 k3,fun o=>(ha.mnew f k2 k3 o).trans (k4 o),vs,T,by rw[hs f hf];exact k5,k6⟩
theorem TH.cells {w:World} {m:Mem} {x:Pn} {b o:Nat} {F:List Nat} (h:TH w m x b o F []):∃ v0 v1 v2 v3 v4,At5 w b o v0 v1 v2 v3 v4∧(∀ v∈[v0,v1,v2,v3,v4],v.oneCell'=true)∧(∃ ao cap,v4=.slice ao x.kids.length cap)∧(∀ {w':World} {m':Mem} {b' o':Nat},MLe m m'→(∀ f∈F,∀ j,w'.cell? ⟨f,j,none⟩=w.cell? ⟨f,j,none⟩)→At5 w' b' o' v0 v1 v2 v3 v4→TH w' m' x b' o' F []) ∧
 ∀ {m':Mem},MLe m m'→(∀ f∈F,∀ j,m' f j=w.cell? ⟨f,j,none⟩)→ICells m' x.cells [v0,v1,v2,v3,v4]:=by
 generalize hH:([]:PL)=H at h
 cases h with
 | fresh=>cases hH
 | leaf h1 h2 h3 h4 =>
  refine⟨_,_,_,_,_,h1,(by intro v hv;simp only[zS,zA4,or_false]at hv;rcases hv with rfl|rfl|rfl|rfl|rfl<;>first|rfl|exact h2.one|exact h3.one),⟨_,_,rfl⟩,fun hm hF h5=>.leaf h5 (h2.frame fun f hf=>hF f (by simp[hf])) (h3.frame fun f hf=>hF f (by simp[hf])) h4,fun hm hF=>?_⟩;rw[Pn.bF];exact .cons (.lit _) rfl (.cons (.lit _) rfl (.cons (h2.rep fun f hf=>hF f (by simp[hf])) h2.one (.cons (h3.rep fun f hf=>hF f (by simp[hf])) h3.one (.cons (.isl0 _ _ fun _=>rfl) rfl .nil))))
 | @node k t es cs ks _ _ b' cap vE vC FE FC F1 _ h1 h2 h3 h4 h5 h6 h7 h8 =>
  subst hH;refine⟨_,_,_,_,_,h1,(by intro v hv;simp only[zS,zA4,or_false]at hv;rcases hv with rfl|rfl|rfl|rfl|rfl<;>first|rfl|exact h2.one|exact h3.one),⟨_,_,rfl⟩,fun hm hF k5=>.node k5 (h2.frame fun f hf=>hF f (by simp[hf])) (h3.frame fun f hf=>hF f (by simp[hf])) h4 h5 (h6.frame hm (fun j _ _=>hF _ (by simp) j) fun f hf=>hF f (by simp[hf])) (by rw[hF _ (by simp)];exact h7) h8,fun hm hF=>?_⟩;rw[Pn.bF];have he:=THL.AbQ hm h6 (fun j _ _=>hF b' (by simp) j) (fun f hf=>hF f (by simp[hf]));have hl:(Pn.aB ks).length=ks.length:=by simp
  have hn:Pn.aB ks≠[]:=fun e=>by rw[e]at hl;simp at hl;exact h4 (zW.1 hl.symm)
  have hk:=IRep.isl (cap:=cap) hn he (by omega);rw[hl]at hk;exact .cons (.lit _) rfl (.cons (.lit _) rfl (.cons (h2.rep fun f hf=>hF f (by simp[hf])) h2.one (.cons (h3.rep fun f hf=>hF f (by simp[hf])) h3.one (.cons hk rfl .nil))))
structure RAT (wi:World) (root:Nat) (p:Pn) (F:List Nat) (path:List Int) (y:Pn) (bq oq:Nat) (Fa Fy Fz:List Nat) (w:World) (m:Mem) (φ:Pl):Prop where
 raw:RAW wi root p F [] w m φ
 pos:AtP w m p root 0 F path y bq oq Fa Fy Fz
theorem RAT.D8 (wi:World) (root:Nat) (p:Pn) (F:List Nat) (path:List Int) (y:Pn) (bq oq:Nat) (Fa Fy Fz:List Nat):XA (RAT wi root p F path y bq oq Fa Fy Fz):=by
 intro w m φ w' m' φ' ha h;exact⟨RAW.D8 wi root p F [] w m φ w' m' φ' ha h.raw,h.pos.frame ha.mle fun f hf j=>iZ (ha.block f (h.raw.all f hf).2.1 (h.raw.all f hf).2.2.1) j⟩
structure ADK (wi:World) (root:Nat) (p:Pn) (F:List Nat) (path:List Int) (y:Pn) (bq oq:Nat) (Fa Fy Fz:List Nat) (k:Nat) (wa:World) (ma:Mem) (w:World) (m:Mem) (φ:Pl):Prop where
 pos:AtP wa ma p root 0 F path y bq oq Fa Fy Fz
 le:MLe ma m
 own:∃ n,φ k=some (bq,n)
 bqn:wi.heap.size≤bq
 oth:∀ f∈root::F,f≠bq→wi.heap.size≤f∧f<w.heap.size∧eD φ f∧(∀ o,m f o=none)∧w.heap[f]?=wa.heap[f]?∧∃ (vs:List Value) (T:TypeId),wa.heap[f]?=some (.cells vs.toArray T (0,0))∧∀ v∈vs,v.oneCell'=true
theorem ADK.D8 (wi:World) (root:Nat) (p:Pn) (F:List Nat) (path:List Int) (y:Pn) (bq oq:Nat) (Fa Fy Fz:List Nat) (k:Nat) (wa:World) (ma:Mem):XA (ADK wi root p F path y bq oq Fa Fy Fz k wa ma):=by
 intro w m φ w' m' φ' ha h;refine⟨h.pos,h.le.trans ha.mle,?_,h.bqn,fun f hf hne=>?_⟩
 ·obtain⟨n,e⟩:=h.own;obtain⟨n',e',_⟩:=ha.ple _ _ _ e;exact⟨n',e'⟩
 ·obtain⟨k1,k2,k3,k4,k5,k6⟩:=h.oth f hf hne;exact⟨k1,zI k2 ha.size,ha.range k2 k3,fun o=>(ha.mnew f k2 k3 o).trans (k4 o),(ha.block f k2 k3).trans k5,k6⟩
def vG (wi:World) (mi:Mem) (p:Pn) (e:Ending) (w:World):Prop :=
 ∃ v0 v1 v2 v3 v4 F m,e=.returned (.agg #[v0,v1,v2,v3,v4])∧(∀ v∈[v0,v1,v2,v3,v4],v.oneCell'=true)∧(kR w m∧oD w m)∧Adv wi mi (fun _=>none) w m (fun _=>none)∧CPY wi p F v0 v1 v2 v3 v4 w m (fun _=>none)
theorem vG.tree {wi:World} {mi:Mem} {p:Pn} {e:Ending} {w:World} (h:vG wi mi p e w):bS wi mi (fun _=>none) (.i (.agg p.cells)) [] e w:=by
 classical
 obtain⟨v0,v1,v2,v3,v4,F,m,rfl,hone,hm,ha,hc⟩:=h
 let m':Mem:=fun f o=>if f∈F then w.cell? ⟨f,o,none⟩else m f o
 have hin:∀ f,f∈F→∀ o,m' f o=w.cell? ⟨f,o,none⟩:=fun f hf o=>by show(if f∈F then _ else _)=_;rw[if_pos hf]
 have hout:∀ f,f ∉ F→∀ o,m' f o=m f o:=fun f hf o=>by show(if f∈F then _ else _)=_;rw[if_neg hf]
 have hle:MLe m m':=fun f o v e=>by
  by_cases hf:f∈F
  ·rw[(hc.all f hf).2.2.2.1 o]at e;cases e
  ·rw[hout f hf];exact e
 have hmem:kR w m':=fun f o v e=>by
  by_cases hf:f∈F
  ·rw[hin f hf]at e;exact e
  ·rw[hout f hf]at e;exact hm.1 f o v e
 refine⟨_,m',fun _=>none,rfl, .i (.agg (hc.cells hle hin)),⟨hmem,fun id blk e=>by simp[aR]at e,fun id id' b b' n n' blk blk' f e=>by simp[aR]at e,(fun _ _ _ _ e=>by cases e),hm.2.mem hle⟩,⟨ha.size,ha.os,ha.tape,ha.output,ha.block,ha.mle.trans hle,fun f hf hfr o=>?_, .refl _,fun _ _ _ _ e=>by cases e⟩,fun id h=>absurd rfl h⟩;rw[hout f (fun hf'=>by have:=(hc.all f hf').1;omega)];exact ha.mnew f hf hfr o
section
variable {C:Ctx} {wi:World} {mi:Mem} {nt:Nat}
theorem GR.ops (hS:SoundOk C) {ops:Array Oper} {Q:Exit→Act→World→Prop} {base:Nat} {js:List Nat} {R:World→Mem→Pl→Prop} (hR:XA R) (hs:ops.all (gN nt)=true) {os:List Oper} {i:Nat} {R0 R1:RS} {a:Act} {w:World} (hl:∀ j,j<os.length→os[j]?=ops[i+j]?) (hx:dC C (aH C) ops.toList false base os i R0=some R1)
 (h:GR wi mi nt (J9 base fun j=>j<i) R R0.env R0.st a w) (hQ:∀ a' w',GR wi mi nt (J9 base fun j=>j<i+os.length) R R1.env R1.st a' w'→wpOpsIn (FR none) 0 C.P ops Q js a' w'):wpOpsIn (FR none) 0 C.P ops Q (List.range' i os.length++js) a w:=by
 obtain⟨⟨m,φ,h1,h2,h3,h4,h5⟩,h6,h7⟩:=h;refine iV hS.ctx (aY hS) (fun o ho=>yG.1 hs o ho) os i R0 R1 a w hl hx ⟨⟨m,φ,h1,h2, .refl _ _ _,h4, .nil _ _ _⟩,h6,h7⟩ fun a' w' k=>hQ a' w' ?_
 obtain⟨⟨m',φ',k1,k2,k3,k4,_⟩,k5,k6⟩:=k;exact⟨⟨m',φ',k1,k2,h3.trans k3,k4,hR _ _ _ _ _ _ k3 h5⟩,k5,k6⟩
theorem GR.AXB (hS:SoundOk C) {ops:Array Oper} {Q:Exit→Act→World→Prop} {base:Nat} {js:List Nat} {R:World→Mem→Pl→Prop} (hR:XA R) (i k:Nat) (hk:decide (i+k≤ops.toList.length)=true) (hs:ops.all (gN nt)=true) {R0 R1:RS} {a:Act} {w:World} (hx:dC C (aH C) ops.toList false base ((ops.toList.drop i).take k) i R0=some R1)
 (h:GR wi mi nt (J9 base fun j=>j<i) R R0.env R0.st a w) (hQ:∀ a' w',GR wi mi nt (J9 base fun j=>j<i+k) R R1.env R1.st a' w'→wpOpsIn (FR none) 0 C.P ops Q js a' w'):wpOpsIn (FR none) 0 C.P ops Q (List.range' i k++js) a w:=by
 have hk:=zR hk;have hl:((ops.toList.drop i).take k).length=k:=by rw[xY,zA2];omega
 have:=GR.ops (js:=js) hS hR hs (os:=(ops.toList.drop i).take k) (i:=i) (fun j hj=>by
  rw[hl]at hj
  rw[zF,if_pos hj,yJ,xU]) hx h (by rw[hl];exact hQ)
 rwa [hl]at this
theorem vI {P:Program} {ops:Array Oper} {Q:Exit→Act→World→Prop} {K:Act→World→Prop} {i d:Nat} {g:FuncId} {args:Array Operand} {ts:Array TypeId} {a:Act} {w:World} {fn:Func} {o:Oper} (ho:ops[i]?=some o) (hop:o.op=.call ⟨.value (.func g),args,ts⟩) (hd:o.dst=some d) (hg:o.guard=none)
 (hf:P.funcs[g]?=some fn) (hn:fn.name≠ "runtime.NumGoroutine") (hb:fn.body.isSome=true) {vs:List Value} (hargs:args.toList.map a.eval=vs) (hc:Calls P g vs.toArray w fun e w'=>∃ y,e=.returned y∧K (a.put (some d) y) w'):wpOpIn (FR none) 0 P ops Q i K a w:=by
 obtain⟨dst,op,ty,pos,after,guard⟩:=o;simp only at hop hd hg;subst hop hd hg;have hmap:args.map a.eval=vs.toArray:=by apply Array.ext';simp[hargs]
 rw[← hmap]at hc;unfold wpOpIn;rw[ho];simp only[Region.wanted,if_true];refine⟨fun _ _=>trivial,?_⟩;rw[Oper.semAt_eq _ _ _ (fun c e=>by cases e)];have hbody:fn.body≠none:=by intro h;rw[h]at hb;cases hb
 have hrun:(execOp a.eval ⟨some d, .call ⟨.value (.func g),args,ts⟩,ty,pos,after,none⟩).run P w=.ok (.enter g (args.map a.eval)) w:=by
  unfold execOp;simp[resolve,Deferred.ofValue,Act.eval,invoke,callFunc,hf,hn,hbody]
 rw[hrun];rw[Oper.uponIn_enter];refine⟨fun h=>(by cases h),RZ (hc.mono ?_)⟩;rintro e w' ⟨y,rfl,k⟩;exact k
theorem GR.put {ok:Nat→Prop} {R:World→Mem→Pl→Prop} {env:Nat→AV} {st:Store} {a:Act} {w:World} {d:Nat} {x:AV} {v:Value} (hd:d<nt) (h:GR wi mi nt ok R env st a w) (hr:∀ m φ,R w m φ→Rep m φ x v):GR wi mi nt ok R (upd env d x) st (a.put (some d) v) w:=by
 obtain⟨⟨m,φ,hi,henv,hadv,hok,hK⟩,hsz,hdf⟩:=h;exact⟨⟨m,φ,hi,vQ (dst:=some d) henv hsz (by simpa [YZ]using hd) (hr m φ hK),hadv,hok,hK⟩,by rw[nD];exact hsz,by rw[iI];exact hdf⟩
theorem GR.Ae9 {ok:Nat→Prop} {wx:World} {p:Pn} {F:List Nat} {v0 v1 v2 v3 v4:Value} {env:Nat→AV} {st st':Store} {a:Act} {w:World} {u id:Nat} (h:GR wi mi nt ok (CPY wx p F v0 v1 v2 v3 v4) env st a w) (hwx:wi.heap.size≤wx.heap.size) (hu:env u=.own id 0) (hbox:st id=some (.box (bD [v0,v1,v2,v3,v4])))
 (hst:∀ i blk,st' i=some blk→i≠id∧st i=some blk∧eB blk) :
 ∃ b3,∀ env',(∀ t,env' t=.junk∨(t=u∧env' t=.i (.lit (.pointer (some ⟨b3,0,none⟩))))∨(env' t=env t∧cO st' (env t)))→GR wi mi nt (fun i=>st' i≠none) (RAW wi b3 p F []) env' st' a w:=by
 obtain⟨⟨m,φ,hi,henv,hadv,hk,hc⟩,h6,h7⟩:=h;have hr:=henv u;rw[hu]at hr;generalize hy:a.tmps.getD u undef=yy at hr
 cases hr with
 | @own _ _ b3 n3 e3 =>
  obtain⟨hb,hok⟩:=cK hi e3 hbox;have hst2:∀ i blk,st' i=some blk→st i=some blk∧eB blk:=fun i blk hb=>(hst i blk hb).2
  cases hok with
  | @box T _ vs hh hl hrc hm =>
   obtain rfl:=(nH hrc).symm;have hnF:b3 ∉ F:=fun hf=>(hc.all b3 hf).2.2.1 id b3 n3 e3 hb.1
   refine⟨b3,fun env' he=>⟨⟨m,lI st' φ,hi.AUP hst2,fun t=>?_,hadv.cut,fun i hi'=>?_,?_⟩,h6,h7⟩⟩
   ·rcases he t with e|⟨rfl,e⟩|⟨e,e'⟩
    ·rw[e];exact .junk _
    ·rw[e,hy];exact .i (.lit _)
    ·rw[e];exact e'.rep (fun i hi'=>lH hi') (henv t)
   ·cases hx:lI st' φ i with
    | none=>exact absurd hx hi'
    | some q=>exact(dN hx).2
   ·refine⟨hc.th (.refl _) (fun _ _ _=>rfl) ⟨by rw[bG hh];rfl,by rw[bG hh];rfl,by rw[bG hh];rfl,by rw[bG hh];rfl,by rw[bG hh];rfl⟩,hnF,hc.nd,fun f hf=>?_⟩
    rcases zS.1 hf with rfl|hf
    ·refine⟨lZ hadv e3 hb.1,hb.2 _ hb.1,?_,hm,_,T,hh,hrc.one⟩;refine kJ hi (fun i blk h=>(hst2 i blk h).1) hbox ?_ e3 hb.1
     cases hx:st' id with
     | none=>rfl
     | some blk=>exact absurd rfl (hst id blk hx).1
    ·obtain⟨q1,q2,q3,q4,q5⟩:=hc.all f hf;exact⟨Nat.le_trans hwx q1,q2,q3.cut,q4,q5⟩
theorem GR.AQ2 {ok:Nat→Prop} {root:Nat} {p:Pn} {F:List Nat} {env:Nat→AV} {st:Store} {a:Act} {w:World} {u k:Nat} (h:GR wi mi nt ok (RAW wi root p F []) env st a w) (hu:env u=.i (.lit (.pointer (some ⟨root,0,none⟩)))) (hk:st k=none) (hok:¬ ok k) :
 ∃ v0 v1 v2 v3 v4 post,(∀ v∈[v0,v1,v2,v3,v4],v.oneCell'=true)∧∀ env',(∀ t,env' t=.junk∨(t=u∧env' t=.own k 0)∨env' t=env t) →
   GR wi mi nt (fun id=>ok id∨id=k) (CPY wi p F v0 v1 v2 v3 v4) env' (upd st k (some (.box (bD [v0,v1,v2,v3,v4]++bD post)))) a w:=by
 obtain⟨⟨m,φ,hi,henv,hadv,hid,hr⟩,h6,h7⟩:=h;obtain⟨k1,k2,k3,k4,us,T,k5,k6⟩:=hr.all root (by simp);obtain⟨v0,v1,v2,v3,v4,h5,_,_,hth,hce⟩:=hr.th.cells;obtain⟨_,_,_,_,_,g5,gk,gn⟩:=hr.th.kc fun f hf=>(hr.all f (by simp[hf])).2.2.2.2
 obtain⟨rfl,rfl,rfl,rfl,rfl⟩:=h5.uniq g5;have gc:∀ {o:Nat} {v:Value},w.cell? ⟨root,o,none⟩=some v→us[o]?=some v:=fun h=>by rwa [bG k5]at h
 have hrow:=Q9 (gc h5.c0) (gc h5.c1) (gc h5.c2) (gc h5.c3) (gc h5.c4);simp only[List.take_zero,yO,zH]at hrow
 have hφk:φ k=none:=by
  cases e:φ k with
  | none=>rfl
  | some q=>exact absurd (hid k (by rw[e];simp)) hok
 refine⟨v0,v1,v2,v3,v4,us.drop 5,fun v hv=>k6 v (by rw[hrow];exact yL _ hv),fun env' he=>?_⟩
 have hrep:RepC m (upd φ k (some (root,one root us.length))) (bD [v0,v1,v2,v3,v4]++bD (us.drop 5)) us:=by
  have h1:=nY (m:=m) (φ:=upd φ k (some (root,one root us.length))) (vs:=us) k6
  have:bD us=bD [v0,v1,v2,v3,v4]++bD (us.drop 5):=by
   conv=>lhs;rw[hrow]
   simp[bD]
  rwa [this]at h1
 have hp:PLe φ (upd φ k (some (root,one root us.length))):=fun i r n e=>by
  refine⟨n,?_,rfl,fun _ h=>h⟩;have:i≠k:=fun h=>by rw[h,hφk]at e;cases e
  simp[upd,this,e]
 refine⟨⟨m,upd φ k (some (root,one root us.length)),hi.adopt hk hφk k3 k4 k5 hrep,fun t=>?_,hadv.adopt k1,fun id hne=>?_,?_⟩,h6,h7⟩
 ·rcases he t with e|⟨rfl,e⟩|e
  ·rw[e];exact .junk _
  ·have:=henv t;rw[hu]at this;rw[e,this.lit_eq];exact .own (n:=one root us.length) (by simp[upd])
  ·rw[e];exact(henv t).mono (.refl _) hp
 ·by_cases e:id=k
  ·exact .inr e
  ·simp[upd,e]at hne;exact .inl (hid id hne)
 ·refine⟨hth,hce,hr.nd,fun f hf=>?_,gk,gn⟩;obtain⟨q1,q2,q3,q4,q5⟩:=hr.all f (by simp[hf]);refine⟨q1,q2,fun i r n e ho=>?_,q4,q5⟩;by_cases e2:i=k
  ·subst e2;simp[upd]at e;obtain⟨rfl,rfl⟩:=e;have:f=root:=ho;exact hr.nr (this ▸ hf)
  ·simp[upd,e2]at e;exact q3 i r n e ho
end
theorem uM:∀ {l m:List Int},aF l=aF m→l=m:=by
 intro l
 induction l with
 | nil=>intro m h;cases m with
  | nil=>rfl
  | cons b m=>simp[aF]at h
 | cons a l ih=>intro m h;cases m with
  | nil=>simp[aF]at h
  | cons b m =>
   simp only[aF,List.cons.injEq]at h;rw[show a=b by simpa using h.1,ih h.2]
theorem Ex.G5:∀ (a b:Ex),a.cells=b.cells→a=b:=by
 intro a
 induction a using Ex.ind with
 | h k c v ks ih =>
  intro b h;obtain⟨k',c',v',ks'⟩:=b
  have key:∀ {l m:List Ex},(∀ a∈l,∀ b,a.cells=b.cells→a=b)→Ex.aB l=Ex.aB m→l=m:=by
   intro l
   induction l with
   | nil=>intro m _ h;cases m with
    | nil=>rfl
    | cons b m=>simp[Ex.aB]at h
   | cons a l ihl=>intro m hi h;cases m with
    | nil=>simp[Ex.aB]at h
    | cons b m =>
     simp only[Ex.aB,List.cons.injEq]at h;rw[hi a (by simp) b h.1,ihl (fun x hx=>hi x (by simp[hx])) h.2]
  rw[Ex.aA,Ex.aA]at h;simp only[List.cons.injEq,IV.lit.injEq,Value.int.injEq,Value.bool.injEq,IV.isl.injEq,true_and,and_true]at h;obtain⟨h1,h2,h3,h4,h5⟩:=h;have h5:=key ih h5;obtain⟨b1,n1⟩:=v;obtain⟨b2,n2⟩:=v';simp only[Ex.kind,Ex.col,Ex.val,Ex.kids]at h1 h2 h3 h4 h5;subst h1 h2 h3 h4 h5;rfl
theorem Ex.ZF:∀ {l m:List Ex},Ex.aB l=Ex.aB m→l=m:=by
 intro l
 induction l with
 | nil=>intro m h;cases m with
  | nil=>rfl
  | cons b m=>simp[Ex.aB]at h
 | cons a l ihl=>intro m h;cases m with
  | nil=>simp[Ex.aB]at h
  | cons b m =>
   simp only[Ex.aB,List.cons.injEq]at h;rw[Ex.G5 a b h.1,ihl h.2]
theorem Pn.qJ:∀ (a b:Pn),a.cells=b.cells→a=b:=by
 intro a
 induction a using Pn.ind with
 | h k t es cs ks ih =>
  intro b h;obtain⟨k',t',es',cs',ks'⟩:=b
  have key:∀ {l m:List Pn},(∀ a∈l,∀ b,a.cells=b.cells→a=b)→Pn.aB l=Pn.aB m→l=m:=by
   intro l
   induction l with
   | nil=>intro m _ h;cases m with
    | nil=>rfl
    | cons b m=>simp[Pn.aB]at h
   | cons a l ihl=>intro m hi h;cases m with
    | nil=>simp[Pn.aB]at h
    | cons b m =>
     simp only[Pn.aB,List.cons.injEq]at h;rw[hi a (by simp) b h.1,ihl (fun x hx=>hi x (by simp[hx])) h.2]
  rw[Pn.bF,Pn.bF]at h;simp only[List.cons.injEq,IV.lit.injEq,Value.int.injEq,IV.isl.injEq,true_and,and_true]at h;obtain⟨h1,h2,h3,h4,h5⟩:=h;rw[h1,h2,Ex.ZF h3,uM h4,key ih h5]
def apO (p:Pn) (ws:List Int) (r:Int) (path:List Int):Option Pn:=if p.width ws=0 then none else apI ws r path p
def ApA (args:List AV) (x:Pn×List Int×Int×List Int):Prop:=args=[.i (.agg x.1.cells), .i (.isl (aF x.2.1)), .i (.agg [.int x.2.2.1, .isl (aF x.2.2.2)])]
theorem ApA.inj {args:List AV} {x y:Pn×List Int×Int×List Int} (hx:ApA args x) (hy:ApA args y):x=y:=by
 unfold ApA at hx hy;rw[hx]at hy;simp only[List.cons.injEq,AV.i.injEq,IV.agg.injEq,IV.isl.injEq,IV.lit.injEq,Value.int.injEq,true_and,and_true]at hy;obtain⟨h1,h2,h3,h4⟩:=hy;obtain⟨a,b,c,d⟩:=x;obtain⟨a',b',c',d'⟩:=y;simp only at h1 h2 h3 h4;rw[Pn.qJ _ _ h1,uM h2,h3,uM h4]
noncomputable def AVM (C:Ctx) (G:List Nat) (na:Nat) (b:Code) (S:AS):XR:=dY C G na b S
@[simp] theorem AUO {C:Ctx} {G:List Nat} {na:Nat} (a b:Code) (S:AS):dY C G na (.seq a b) S=AD0 (dY C G na a S) (AVM C G na b):=AIO a b
@[simp] theorem AZ6 {C:Ctx} {G:List Nat} {na:Nat} (b:Code) (e:List (Nat×AV)) (st:StL):AVM C G na b ⟨e,st⟩=dY C G na b ⟨e,st⟩:=(rfl)
def AJ1 (C:Ctx) (call:dI) (all:List Oper) (draw:Bool) (base:Nat) (os:List Oper) (i:Nat) (env:Nat→AV) (dst:Option Tmp) (log:List (Nat×List Nat×Bool)) (p:AV×Store):Option RS:=dC C call all draw base os i ⟨BV env dst p.1,p.2,log⟩
@[simp] theorem Aa1 {C:Ctx} {call:dI} (all:List Oper) (draw:Bool) (base:Nat) (os:List Oper) (i:Nat) (env:Nat→AV) (dst:Option Tmp) (log:List (Nat×List Nat×Bool)) (v:AV) (st:Store):AJ1 C call all draw base os i env dst log (v,st)=dC C call all draw base os i ⟨BV env dst v,st,log⟩:=(rfl)
attribute [simp] YW VP AE0 YX ADW AIP ADZ AFO
@[simp] theorem ATY (k:Nat):kV k []=true:=(rfl)
@[simp] theorem AQ5 (k:Nat) (e:List IV) (es:List (List IV)):kV k (e::es)=(e.length == k && kV k es):=(rfl)
@[simp] theorem APB:jK (.slice none 0 0)=.nils:=(rfl)
@[simp] theorem AUF:FM (.slice none 0 0)=.nils:=(rfl)
@[simp] theorem APC (b:Bool):jK (.bool b)=.i (.lit (.bool b)):=(rfl)
@[simp] theorem AUG (b:Bool):FM (.bool b)=.i (.lit (.bool b)):=(rfl)
@[simp] theorem APY (b:Bool):cellsOf (.i (.lit (.bool b)))=some [.i (.lit (.bool b))]:=(rfl)
@[simp] theorem AS8 (k:IntKind) (n:Int):jK (.int k n)=.i (.lit (.int k n)):=(rfl)
@[simp] theorem AXI (k:IntKind) (n:Int):FM (.int k n)=.i (.lit (.int k n)):=(rfl)
@[simp] theorem ATJ (k:IntKind) (n:Int):cellsOf (.i (.lit (.int k n)))=some [.i (.lit (.int k n))]:=(rfl)
@[simp] theorem AK9 (s:ByteArray):jK (.string s)=.i (.lit (.string s)):=(rfl)
@[simp] theorem APD (s:ByteArray):FM (.string s)=.i (.lit (.string s)):=(rfl)
@[simp] theorem AKF (s:ByteArray):cellsOf (.i (.lit (.string s)))=some [.i (.lit (.string s))]:=(rfl)
@[simp] theorem AHY (a:Option Addr):jK (.pointer a)=.i (.lit (.pointer a)):=(rfl)
@[simp] theorem AMG (a:Option Addr):FM (.pointer a)=.i (.lit (.pointer a)):=(rfl)
@[simp] theorem AJ6 (a:Option Addr):cellsOf (.i (.lit (.pointer a)))=some [.i (.lit (.pointer a))]:=(rfl)
@[simp] theorem AS7 (r:Option Nat):jK (.map r)=.i (.lit (.map r)):=(rfl)
@[simp] theorem AXH (r:Option Nat):FM (.map r)=.i (.lit (.map r)):=(rfl)
@[simp] theorem ATH (r:Option Nat):cellsOf (.i (.lit (.map r)))=some [.i (.lit (.map r))]:=(rfl)
@[simp] theorem AHZ :jK (.nilFunc)=.i (.lit (.nilFunc)):=(rfl)
@[simp] theorem AMH :FM (.nilFunc)=.i (.lit (.nilFunc)):=(rfl)
@[simp] theorem AJ7 :cellsOf (.i (.lit (.nilFunc)))=some [.i (.lit (.nilFunc))]:=(rfl)
@[simp] theorem AF5 :jK (.nilIface)=.i (.lit (.nilIface)):=(rfl)
@[simp] theorem AKA :FM (.nilIface)=.i (.lit (.nilIface)):=(rfl)
@[simp] theorem AF6 :cellsOf (.i (.lit (.nilIface)))=some [.i (.lit (.nilIface))]:=(rfl)
@[simp] theorem AMF (a:Array Value):jK (.tuple a)=.i (.lit (.tuple a)):=(rfl)
@[simp] theorem AS9 (a:Array Value):FM (.tuple a)=.i (.lit (.tuple a)):=(rfl)
@[simp] theorem AXJ (cs:Array Value):FM (.agg cs)=V6 (eP cs.toList):=(rfl)
attribute [simp] eP.eq_1 eP.eq_2 cellsOf.eq_3 cellsOf.eq_4
@[simp] theorem APW :cellsOf .nils=some [.nils]:=(rfl)
@[simp] theorem ATF (i o:Nat):cellsOf (.own i o)=some [(.own i o)]:=(rfl)
@[simp] theorem APV (i k j o:Nat):cellsOf (.ownE i k j o)=some [(.ownE i k j o)]:=(rfl)
@[simp] theorem ATG (i k o l:Nat):cellsOf (.osl i k o l)=some [(.osl i k o l)]:=(rfl)
@[simp] theorem AUU (f:Fn) (cs:List AV):cellsOf (.fn f cs)=some [(.fn f cs)]:=(rfl)
@[simp] theorem ANJ (a:Option Addr) (l c:Nat):cellsOf (.i (.lit (.slice a l c)))=some [(.i (.lit (.slice a l c)))]:=(rfl)
@[simp] theorem ATI (es:List (List IV)):cellsOf (.i (.isl es))=some [(.i (.isl es))]:=(rfl)
@[simp] theorem APX (cs:List IV):cellsOf (.i (.iref cs))=some [(.i (.iref cs))]:=(rfl)
@[simp] theorem AUQ  (x:Option (List IV)):VZ .nils x=none:=by cases x<;>rfl
@[simp] theorem AY3 (st:Store) :rV st .nils=bnd (frz st BG .nils) fun p=>some (p.1,iM st p.2):=(rfl)
@[simp] theorem ATS (st:Store) :jC st .nils=bnd (rV st .nils) fun p=>some (.i p.1,p.2):=(rfl)
@[simp] theorem AZU (st:Store) (i o:Nat):rV st (.own i o)=bnd (frz st BG (.own i o)) fun p=>some (p.1,iM st p.2):=(rfl)
@[simp] theorem AUX (st:Store) (i o:Nat):jC st (.own i o)=bnd (rV st (.own i o)) fun p=>some (.i p.1,p.2):=(rfl)
@[simp] theorem AYF (i k o l:Nat) (x:Option (List IV)):VZ (.osl i k o l) x=none:=by cases x<;>rfl
@[simp] theorem AZV (st:Store) (i k o l:Nat):rV st (.osl i k o l)=bnd (frz st BG (.osl i k o l)) fun p=>some (p.1,iM st p.2):=(rfl)
@[simp] theorem AUY (st:Store) (i k o l:Nat):jC st (.osl i k o l)=bnd (rV st (.osl i k o l)) fun p=>some (.i p.1,p.2):=(rfl)
@[simp] theorem Aa3 (f:Fn) (cs:List AV) (x:Option (List IV)):VZ (.fn f cs) x=none:=by cases x<;>rfl
@[simp] theorem AZW (st:Store) (cs:List AV):rV st (.agg cs)=bnd (frz st BG (.agg cs)) fun p=>some (p.1,iM st p.2):=(rfl)
@[simp] theorem AUZ (st:Store) (cs:List AV):jC st (.agg cs)=bnd (rV st (.agg cs)) fun p=>some (.i p.1,p.2):=(rfl)
@[simp] theorem Ac2 (v:IV) (l:List IV):VZ (.i v) (some l)=some (v::l):=(rfl)
@[simp] theorem Aa2 (v:IV):VZ (.i v) none=none:=(rfl)
@[simp] theorem AcR (st:Store) (v:IV):rV st (.i v)=some (v,st):=(rfl)
@[simp] theorem AaA (st:Store) (v:IV):jC st (.i v)=some (.i v,st):=(rfl)
@[simp] theorem AYQ (st:Store) (f:Fn) (cs:List AV):jC st (.fn f cs)=some (.fn f cs,st):=(rfl)
@[simp] theorem AV0:EP (some .strct)=some true:=(rfl)
@[simp] theorem AV1 (e:TypeId):EP (some (.slice e))=some false:=(rfl)
@[simp] theorem AaC (k:IntKind):EP (some (.int k))=some false:=(rfl)
@[simp] theorem ATV:EP (some .string)=some false:=(rfl)
@[simp] theorem AYS:EP (some .bool)=some false:=(rfl)
@[simp] theorem AV2:EP (some .other)=some false:=(rfl)
@[simp] theorem AV3 (n:Nat) (e:TypeId):EP (some (.array n e))=some true:=(rfl)
@[simp] theorem ASW:eQ .add=false:=(rfl)
@[simp] theorem ASI:eQ .sub=false:=(rfl)
@[simp] theorem ASP:eQ .mul=false:=(rfl)
@[simp] theorem ASN:eQ .quo=false:=(rfl)
@[simp] theorem ASM:eQ .rem=false:=(rfl)
@[simp] theorem ASV:eQ .and=false:=(rfl)
@[simp] theorem AUM:eQ .or=false:=(rfl)
@[simp] theorem ASH:eQ .xor=false:=(rfl)
@[simp] theorem AKB:eQ .andNot=false:=(rfl)
@[simp] theorem ASU:eQ .eql=false:=(rfl)
@[simp] theorem ASO:eQ .neq=false:=(rfl)
@[simp] theorem ASQ:eQ .lss=false:=(rfl)
@[simp] theorem ASR:eQ .leq=false:=(rfl)
@[simp] theorem ASS:eQ .gtr=false:=(rfl)
@[simp] theorem AST:eQ .geq=false:=(rfl)
@[simp] theorem ASL:eQ .shl=true:=(rfl)
@[simp] theorem ASJ:eQ .shr=true:=(rfl)
@[simp] theorem AZC:OE []=.tup []:=(rfl)
@[simp] theorem AZB (v:AV):OE [v]=v:=(rfl)
@[simp] theorem AZA (a b:AV) (l:List AV):OE (a::b::l)=.tup (a::b::l):=(rfl)
attribute [simp] uH.eq_1 uH.eq_2 fT.eq_1 fT.eq_2 fT.eq_3
section
variable (C:Ctx) (call:dI) (env:Nat→AV) (st:Store) (nb:Nat)
@[simp] theorem AQN (x:Operand):dB C call (.move x) env st nb=some (ev env x,st):=(rfl)
@[simp] theorem AL4 (x:Operand):dB C call (.assign x) env st nb=some (ev env x,st):=(rfl)
@[simp] theorem AQM (c a b:Operand):dB C call (.pick c a b) env st nb=bnd (AH2 (ev env a) (ev env b) (ev env c)) fun v=>some (v,st):=(rfl)
@[simp] theorem AOV (t:TypeId):dB C call (.alloc t) env st nb=bnd (zeroOf C.P t) fun z=>some (.own nb 0,upd st nb (some (.box (eP z)))):=(rfl)
@[simp] theorem AU6 (t:TypeId) (x:Operand):dB C call (.box t x) env st nb=bnd (cellsOf (ev env x)) fun cs=>some (.own nb 0,upd st nb (some (.box cs))):=(rfl)
@[simp] theorem AOT (t:TypeId) (ps:Array (Nat×Operand)):dB C call (.build t ps) env st nb=bnd (EP (bJ C.P t)) fun g=>tst g (bnd (zeroOf C.P t) fun z=>bnd (partsOf env ps.toList) fun ps=>bnd (R8 (KP C.P t) (eP z) ps) fun cs=>some (V6 cs,st)):=(rfl)
@[simp] theorem ACO (t:TypeId) (n:Nat) (ps:Array (Nat×Operand)):dB C call (.buildSlice t n ps) env st nb=bnd (IY (bJ C.P t)) fun e=>bnd (partsOf env ps.toList) fun ps=>rG C e n st nb ps:=(rfl)
@[simp] theorem AQO (t:TypeId) (a:Operand):dB C call (.load t a) env st nb=bnd (L9 C t (ev env a) st) fun v=>some (v,st):=(rfl)
@[simp] theorem AOO (t:TypeId) (a x:Operand):dB C call (.store t a x) env st nb=bnd (GY C t (ev env a) (ev env x) st) fun st1=>some (.i (.lit undef),st1):=(rfl)
@[simp] theorem AG6 (x:Operand):dB C call (.nilCheck x) env st nb=bnd (AM3 (ev env x)) fun v=>some (v,st):=(rfl)
@[simp] theorem AOU (op:BinOp) (t:TypeId) (x y:Operand) (u:TypeId):dB C call (.binOp op t x y u) env st nb=bnd (AF7 C op t (ev env x) (ev env y) y) fun v=>some (.i v,st):=(rfl)
@[simp] theorem Aa6 (op:BinOp) (t:TypeId) (a b:AV) (s:Nat):AF7 C op t a b (.tmp s)=ZH C op t a b:=(rfl)
@[simp] theorem Aa8 (op:BinOp) (t:TypeId) (a b:AV) (k:IntKind) (n:Int):AF7 C op t a b (.const (.int k n))=ZH C op t a b:=(rfl)
@[simp] theorem AYO (op:BinOp) (t:TypeId) (a b:AV) (k:Bool):AF7 C op t a b (.const (.bool k))=ZH C op t a b:=(rfl)
@[simp] theorem ATN (op:BinOp) (t:TypeId) (a b:AV) (k:ByteArray):AF7 C op t a b (.const (.string k))=ZH C op t a b:=(rfl)
@[simp] theorem AQ0 (op:BinOp) (t:TypeId) (a b:AV) (k:Option Addr):AF7 C op t a b (.const (.pointer k))=ZH C op t a b:=(rfl)
@[simp] theorem AUV (op:BinOp) (t:TypeId) (a b:AV) (k:Option Addr) (i j:Nat):AF7 C op t a b (.const (.slice k i j))=ZH C op t a b:=(rfl)
@[simp] theorem Aa9 (op:BinOp) (t:TypeId) (a b:AV) (k:Array Value):AF7 C op t a b (.const (.agg k))=ZH C op t a b:=(rfl)
@[simp] theorem Aa7 (op:BinOp) (t:TypeId) (a b:AV):AF7 C op t a b (.const .nilIface)=tst (AMM C.P t) (bnd (AUD a) fun q=>ANP op q):=(rfl)
@[simp] theorem AQL (op:UnOp) (t:TypeId) (x:Operand):dB C call (.unOp op t x) env st nb=bnd (unA op (ev env x)) fun v=>some (.i v,st):=(rfl)
@[simp] theorem AK5 (s d:TypeId) (x:Operand):dB C call (.convert s d x) env st nb=bnd (NN C.P st (bJ C.P d) (ev env x) (bJ C.P s)) fun v=>some (v,st):=(rfl)
@[simp] theorem AF0 (t:TypeId) (l c:Operand):dB C call (.makeSlice t l c) env st nb=Y8 C t st nb (ev env l) (ev env c):=(rfl)
@[simp] theorem AOP (t:TypeId) (x:Operand) (lo hi:Option Operand):dB C call (.slice t x lo hi none) env st nb=bnd (H5 C t (evO env lo) (evO env hi) (ev env x)) fun v=>some (v,st):=(rfl)
@[simp] theorem AF2 (s:TypeId) (x:Operand) (f:Nat):dB C call (.fieldAddr s x f) env st nb=bnd (dM C.P s f) fun p=>bnd (iF C.P p.1) fun n=>tst (decide (0<n)) (bnd (jT p.2 (ev env x)) fun v=>some (v,st)):=(rfl)
@[simp] theorem AOR (s:TypeId) (x:Operand) (f:Nat):dB C call (.field s x f) env st nb=bnd (dM C.P s f) fun p=>bnd (iF C.P p.1) fun n=>bnd (EP (bJ C.P p.1)) fun g=>bnd (P8 p.2 n g (ev env x)) fun v=>some (v,st):=(rfl)
@[simp] theorem AF1 (t:TypeId) (x i:Operand):dB C call (.indexAddr t x i) env st nb=bnd (nO C (ev env x) (ev env i) (bJ C.P t)) fun v=>some (v,st):=(rfl)
@[simp] theorem AOQ (t:TypeId) (x i:Operand):dB C call (.index t x i) env st nb=bnd (OV C (ev env i) (bJ C.P t) (ev env x)) fun v=>some (v,st):=(rfl)
@[simp] theorem AK4 (x:Operand) (j:Nat):dB C call (.extract x j) env st nb=bnd (EC j (ev env x)) fun v=>some (v,st):=(rfl)
@[simp] theorem AG7 (f:Fn) (fs cs:Array Operand):dB C call (.makeFunc f fs cs) env st nb=tst fs.toList.isEmpty (bnd (AM6 (evL env cs.toList) f) fun v=>some (v,st)):=(rfl)
@[simp] theorem AUE (cs:List AV) (g:FuncId):AM6 cs (.func g)=some (.fn (.func g) cs):=(rfl)
@[simp] theorem AK6 (b:Builtin) (as1:Array Operand) (ts:Array TypeId):dB C call (.call ⟨.builtin b,as1,ts⟩) env st nb=jB C st nb b ts.toList (evL env as1.toList):=(rfl)
@[simp] theorem AOS (f:Operand) (as1:Array Operand) (ts:Array TypeId):dB C call (.call ⟨.value f,as1,ts⟩) env st nb=NC C call (evL env as1.toList) st nb (ev env f):=(rfl)
@[simp] theorem AQG (x:Operand):bI env (.move x)=([],true):=(rfl)
@[simp] theorem AKX (x:Operand):bI env (.assign x)=([],true):=(rfl)
@[simp] theorem AQF (c a b:Operand):bI env (.pick c a b)=([],true):=(rfl)
@[simp] theorem AOL (t:TypeId):bI env (.alloc t)=([],true):=(rfl)
@[simp] theorem AU3 (t:TypeId) (x:Operand):bI env (.box t x)=([],true):=(rfl)
@[simp] theorem AOJ (t:TypeId) (ps:Array (Nat×Operand)):bI env (.build t ps)=([],true):=(rfl)
@[simp] theorem AFT (x:Operand):bI env (.nilCheck x)=([],true):=(rfl)
@[simp] theorem AOK (op:BinOp) (t:TypeId) (x y:Operand) (u:TypeId):bI env (.binOp op t x y u)=([],true):=(rfl)
@[simp] theorem AQE (op:UnOp) (t:TypeId) (x:Operand):bI env (.unOp op t x)=([],true):=(rfl)
@[simp] theorem AK3 (s d:TypeId) (x:Operand):bI env (.convert s d x)=(dE (ev env x),true):=(rfl)
@[simp] theorem AEX (t:TypeId) (l c:Operand):bI env (.makeSlice t l c)=([],true):=(rfl)
@[simp] theorem AOG (t:TypeId) (x:Operand) (lo hi:Option Operand):bI env (.slice t x lo hi none)=([],true):=(rfl)
@[simp] theorem AEZ (s:TypeId) (x:Operand) (f:Nat):bI env (.fieldAddr s x f)=([],true):=(rfl)
@[simp] theorem AOI (s:TypeId) (x:Operand) (f:Nat):bI env (.field s x f)=([],true):=(rfl)
@[simp] theorem AEY (t:TypeId) (x i:Operand):bI env (.indexAddr t x i)=([],true):=(rfl)
@[simp] theorem AOH (t:TypeId) (x i:Operand):bI env (.index t x i)=([],true):=(rfl)
@[simp] theorem AK2 (x:Operand) (j:Nat):bI env (.extract x j)=([],true):=(rfl)
@[simp] theorem AFU (f:Fn) (fs cs:Array Operand):bI env (.makeFunc f fs cs)=([],true):=(rfl)
attribute [simp] bI.eq_1 bI.eq_3 bI.eq_4 bI.eq_5 bI.eq_6 bI.eq_7
@[simp] theorem AU2 (as1:Array Operand) (ts:Array TypeId):bI env (.call ⟨.builtin .len,as1,ts⟩)=([],true):=(rfl)
@[simp] theorem AU0 (as1:Array Operand) (ts:Array TypeId):bI env (.call ⟨.builtin .min,as1,ts⟩)=([],true):=(rfl)
@[simp] theorem AU1 (as1:Array Operand) (ts:Array TypeId):bI env (.call ⟨.builtin .max,as1,ts⟩)=([],true):=(rfl)
@[simp] theorem AZ8 (args:List AV) (g:FuncId) (cs:List AV):NC C call args st nb (.fn (.func g) cs)=if g=1000000007 then none else gT call (C.ownArgs g) g (args++cs) st nb:=(rfl)
@[simp] theorem AVX (args:List AV) (id:Nat):NC C call args st nb (.fn (.yield 0) [.own id 0])=gT call true oG (.fn (.yield 0) [.own id 0]::args) st nb:=(rfl)
variable (all:List Oper) (base i:Nat) (log:List (Nat×List Nat×Bool)) (dst:Option Tmp) (op:Op) (ty:TypeId) (pos:String) (after:Array Edge) (os:List Oper)
@[simp] theorem AWX (t:Tmp) (v:AV):BV env (some t) v=upd env t v:=(rfl)
@[simp] theorem AWY (v:AV):BV env none v=env:=(rfl)
@[simp] theorem AU8 (draw:Bool) (R:RS):dC C call all draw base [] i R=some R:=(rfl)
@[simp] theorem AWN:dC C call all false base (⟨dst,op,ty,pos,after,none⟩::os) i ⟨env,st,log⟩ =
 bnd (dB C call op env st (base+8*i)) (AJ1 C call all false base os (i+1) env dst []):=(rfl)
@[simp] theorem AWM (g:Nat×Bool):dC C call all false base (⟨dst,op,ty,pos,after,some g⟩::os) i ⟨env,st,log⟩ =
 bnd (TR env g.2 ((all[g.1]?).bind (·.dst))) fun b=>if b=true then bnd (dB C call op env st (base+8*i)) (AJ1 C call all false base os (i+1) env dst [])
  else dC C call all false base os (i+1) ⟨BV env dst (.i (.lit undef)),st,log⟩:=(rfl)
@[simp] theorem AWL:dC C call all true base (⟨dst,op,ty,pos,after,none⟩::os) i ⟨env,st,log⟩ =
 tst (AYI base all ⟨dst,op,ty,pos,after,none⟩ st (bI env op).1 (GV st (bI env op)).1 (bI env op).2 log)
  (bnd (dB C call op env st (base+8*i)) (AJ1 C call all true base os (i+1) env dst (MV i (bI env op).2 log (GV st (bI env op)).1))):=(rfl)
@[simp] theorem AWK (g:Nat×Bool):dC C call all true base (⟨dst,op,ty,pos,after,some g⟩::os) i ⟨env,st,log⟩ =
 bnd (TR env g.2 ((all[g.1]?).bind (·.dst))) fun b=>if b=true then
  tst (AYI base all ⟨dst,op,ty,pos,after,some g⟩ st (bI env op).1 (GV st (bI env op)).1 (bI env op).2 log)
   (bnd (dB C call op env st (base+8*i)) (AJ1 C call all true base os (i+1) env dst (MV i (bI env op).2 log (GV st (bI env op)).1)))
  else dC C call all true base os (i+1) ⟨BV env dst (.i (.lit undef)),st,log⟩:=(rfl)
end
attribute [simp] aJ.eq_1 aJ.eq_2
attribute [simp] aR.eq_1 aR.eq_2 aR.eq_3
attribute [simp] AKH.eq_1 AKH.eq_2
attribute [simp] ATU.eq_1 ATU.eq_2
attribute [simp] V6.eq_1
attribute [simp] lF.eq_1 lF.eq_2
attribute [simp] rR.eq_1 rR.eq_2
attribute [simp] iW.eq_1 iW.eq_2
attribute [simp] dropE.eq_1 dropE.eq_2 dropE.eq_3
attribute [simp] CY.eq_1 CY.eq_2 CY.eq_3
attribute [simp] cut.eq_1
attribute [simp] splice.eq_1 splice.eq_2 splice.eq_3 splice.eq_4 splice.eq_5
attribute [simp] IY.eq_1
attribute [simp] wJ.eq_1 wJ.eq_2
attribute [simp] frz.eq_1 frz.eq_2 frz.eq_3 frz.eq_4 frz.eq_5 frz.eq_6
attribute [simp] EN.eq_1 EN.eq_2 EN.eq_3
attribute [simp] IW.eq_1 IW.eq_2 IW.eq_3
attribute [simp] BG.eq_1
attribute [simp] iM.eq_1 iM.eq_2
attribute [simp] oH.eq_1 oH.eq_2
attribute [simp] dE.eq_1 dE.eq_2 dE.eq_3 dE.eq_4 dE.eq_5 dE.eq_6 dE.eq_7 dE.eq_8 dE.eq_9
attribute [simp] bC.eq_1 bC.eq_2
attribute [simp] iL.eq_1 iL.eq_2 iL.eq_3 iL.eq_4 iL.eq_5 iL.eq_6 iL.eq_7
attribute [simp] ren.eq_1 ren.eq_2 ren.eq_3 ren.eq_4 ren.eq_5 ren.eq_6 ren.eq_7 ren.eq_8 ren.eq_9
attribute [simp] DL.eq_1 DL.eq_2
attribute [simp] DN.eq_1 DN.eq_2 DN.eq_3 DN.eq_4 DN.eq_5 DN.eq_6 DN.eq_7
attribute [simp] kZ.eq_1 kZ.eq_2
attribute [simp] iD.eq_1
attribute [simp] NM.eq_1 NM.eq_2
attribute [simp] reach.eq_1 reach.eq_2 reach.eq_3
attribute [simp] LZ.eq_1
attribute [simp] rU.eq_1 rU.eq_2
attribute [simp] upto.eq_1 upto.eq_2
attribute [simp] jL.eq_1
attribute [simp] lU.eq_1 lU.eq_2
attribute [simp] ev.eq_1 ev.eq_2 ev.eq_3 ev.eq_4
attribute [simp] evL.eq_1 evL.eq_2
attribute [simp] evO.eq_1 evO.eq_2
attribute [simp] TB.eq_1 TB.eq_2 TB.eq_3 TB.eq_4 TB.eq_5 TB.eq_6 TB.eq_7 TB.eq_8 TB.eq_9 TB.eq_10 TB.eq_11 TB.eq_12 TB.eq_13 TB.eq_14 TB.eq_15
attribute [simp] shI.eq_1 shI.eq_2
attribute [simp] AKG.eq_1 AKG.eq_2 AKG.eq_3 AKG.eq_4 AKG.eq_5 AKG.eq_6 AKG.eq_7
attribute [simp] AYP.eq_1 AYP.eq_2
attribute [simp] AYN.eq_1 AYN.eq_2
attribute [simp] ATO.eq_1 ATO.eq_2
attribute [simp] AUD.eq_1 AUD.eq_2 ZH.eq_1 ZH.eq_2 ZH.eq_3 ZH.eq_4 ZH.eq_5 AS1.eq_1 AS1.eq_2 AS1.eq_3 AS1.eq_4 ANP.eq_1 ANP.eq_2
attribute [simp] unA.eq_1 unA.eq_2
attribute [simp] nJ.eq_1
attribute [simp] kI.eq_1 kI.eq_2
attribute [simp] pQ.eq_1 pQ.eq_2
attribute [simp] dK.eq_1 dK.eq_2 dK.eq_3 dK.eq_4
attribute [simp] IP.eq_1 IP.eq_2
attribute [simp] vF.eq_1
attribute [simp] WP.eq_1 WP.eq_2
attribute [simp] ATT.eq_1 ADI.eq_1 AOF.eq_1 kQ.eq_1 kQ.eq_2 WQ.eq_1 IQ.eq_1
@[simp] theorem AXX (k:Nat) (es:List (List IV)):ADI (some (.arr k es))=false:=(rfl)
@[simp] theorem AXV (k:Nat) (es:List (List IV)):ADI (some (.frz k es))=false:=(rfl)
@[simp] theorem AXW (cs:List AV):ADI (some (.box cs))=false:=(rfl)
@[simp] theorem Ae4 (v:IV):slC (.i v)=false:=(rfl)
@[simp] theorem AUL:ADI none=false:=(rfl)
@[simp] theorem AVK (st:Store):AOF st .nils=false:=(rfl)
@[simp] theorem AcB (st:Store) (v:IV):AOF st (.i v)=false:=(rfl)
attribute [simp] o7.eq_1
attribute [simp] MI.eq_1 MI.eq_2
attribute [simp] Z7.eq_1
attribute [simp] APE.eq_1 APE.eq_2 APE.eq_3 APE.eq_4 APE.eq_5
attribute [simp] H5.eq_1 H5.eq_2 H5.eq_3 H5.eq_4
attribute [simp] R8.eq_1 R8.eq_2
attribute [simp] partsOf.eq_1 partsOf.eq_2
attribute [simp] UT.eq_1 UT.eq_2
attribute [simp] KP.eq_1
attribute [simp] rJ.eq_1 rJ.eq_2 rJ.eq_3
attribute [simp] oO.eq_1 oO.eq_2
attribute [simp] eZ.eq_1 eZ.eq_2
attribute [simp] AEB.eq_1 AEB.eq_2
attribute [simp] PU.eq_1 PU.eq_2
attribute [simp] ARG.eq_1 ARG.eq_2
attribute [simp] NK.eq_1 NK.eq_2
attribute [simp] NJ.eq_1 NJ.eq_2
attribute [simp] loadAt.eq_1 loadAt.eq_2 loadAt.eq_3
attribute [simp] L9.eq_1
attribute [simp] sW.eq_1
attribute [simp] pX.eq_1
attribute [simp] storeAt.eq_1 storeAt.eq_2
attribute [simp] GY.eq_1
attribute [simp] gL.eq_1 gL.eq_2
attribute [simp] uY.eq_1 uY.eq_2
attribute [simp] kF.eq_1 kF.eq_2 kF.eq_3
attribute [simp] pF.eq_1 pF.eq_2 pF.eq_3
attribute [simp] wD.eq_1
attribute [simp] lS.eq_1
attribute [simp] gT.eq_1
attribute [simp] wV.eq_1 wV.eq_2
attribute [simp] jB.eq_1 jB.eq_2 jB.eq_3 jB.eq_4 jB.eq_5
attribute [simp] ZA.eq_1 ZA.eq_2 NN.eq_1 ABJ.eq_1 AbP.eq_1 slV.eq_1 slV.eq_2 slV.eq_3 bytesOf.eq_1 bytesOf.eq_2
@[simp] theorem AYE (P:Program) (st:Store) (d:Option DK) (x:AV) (k:IntKind):NN P st d x (some (.int k))=ZA (some (.int k)) d x:=(rfl)
@[simp] theorem APR (P:Program) (st:Store) (d:Option DK) (x:AV):NN P st d x (some .string)=ZA (some .string) d x:=(rfl)
attribute [simp] AH2.eq_1
attribute [simp] AM3.eq_1 AM3.eq_2 AM3.eq_3 AM3.eq_4 AM3.eq_5
attribute [simp] Y8.eq_1
attribute [simp] jT.eq_1 jT.eq_2 jT.eq_3 jT.eq_4
attribute [simp] P8.eq_1 P8.eq_2
attribute [simp] LH.eq_1 LH.eq_2 LH.eq_3
attribute [simp] YH.eq_1
attribute [simp] nO.eq_1 nO.eq_2
attribute [simp] OV.eq_1 OV.eq_2
attribute [simp] EC.eq_1
attribute [simp] vM.eq_1 rG.eq_1 AUH.eq_1 ABV.eq_1 ABV.eq_2 slL.eq_1 slL.eq_2 slC.eq_1 slC.eq_2
attribute [simp] ZQ.eq_1 ZQ.eq_2
attribute [simp] TR.eq_1 TR.eq_2
attribute [simp] CK.eq_1 CK.eq_2
attribute [simp] gJ.eq_1 gJ.eq_2
attribute [simp] GV.eq_1
attribute [simp] allIn.eq_1 allIn.eq_2
attribute [simp] Y4.eq_1 Y4.eq_2
attribute [simp] AYI.eq_1
attribute [simp] AME.eq_1 AME.eq_2
attribute [simp] rT.eq_1 rT.eq_2
attribute [simp] AI4.eq_1
attribute [simp] tJ.eq_1 tJ.eq_2
attribute [simp] CL.eq_1
attribute [simp] I1.eq_1 I1.eq_2
attribute [simp] ADE.eq_1 ADE.eq_2
attribute [simp] MV.eq_1 MV.eq_2
attribute [simp] mR.eq_1 mR.eq_2
attribute [simp] EE.eq_1 EE.eq_2
attribute [simp] AL.eq_1
attribute [simp] settle.eq_1
attribute [simp] ABU.eq_1 DR.eq_1 DR.eq_2 vP.eq_1 vP.eq_2 UN.eq_1 pK.eq_1 AJB.eq_1 Q6.eq_1 LX.eq_1 AAA.eq_1 oQ.eq_1 oQ.eq_2 UK.eq_1 DJ.eq_1 X9.eq_1 NQ.eq_1 setSt.eq_1 setSt.eq_2 setSt.eq_3
@[simp] theorem AU5 (k:Nat):Q6 (.exit k)=.over (.exit k):=(rfl)
@[simp] theorem AT5 (k:Nat):LX (.exit k)=false:=(rfl)
@[simp] theorem AUN:LX .ret=false:=(rfl)
@[simp] theorem AVV:Q6 .ret=.over .ret:=(rfl)
@[simp] theorem AZZ (vs:List AV):X9 [] vs=[]:=(rfl)
@[simp] theorem AYM (vs:List AV) (E:List (Nat×AV)):NQ [] vs E=E:=(rfl)
attribute [simp] AD0.eq_1 AD0.eq_2 AD0.eq_3 AD0.eq_4
attribute [simp] MP.eq_1 MP.eq_2 MP.eq_3 MP.eq_4
attribute [simp] ZC.eq_1
attribute [simp] AIU.eq_1 AIU.eq_2
attribute [simp] AAC.eq_1 AAC.eq_2
attribute [simp] KF.eq_1 KF.eq_2
attribute [simp] uP.eq_1 uP.eq_2
attribute [simp] AAD.eq_1 AAD.eq_2
attribute [simp] wX.eq_1 wX.eq_2
attribute [simp] AH4.eq_1
attribute [simp] finish.eq_1
attribute [simp] AIT.eq_1 AIT.eq_2 AIT.eq_3 AIT.eq_4
attribute [simp] sN.eq_1 sN.eq_2 sN.eq_3
attribute [simp] P9.eq_1 P9.eq_2
attribute [simp] enter.eq_1
attribute [simp] D7.eq_1 D7.eq_2
attribute [simp] AAE.eq_1 AAE.eq_2
attribute [simp] jM.eq_1 jM.eq_2 jM.eq_3 jM.eq_4 jM.eq_5
attribute [simp] mJ.eq_1 mJ.eq_2
attribute [simp] fM.eq_1 fM.eq_2
attribute [simp] AI0.eq_1 AI0.eq_2 AI0.eq_3 AI0.eq_4
attribute [simp] DY.eq_1 DY.eq_2
attribute [simp] A7.eq_1 A7.eq_2 KJ.eq_1 jI.eq_1 jI.eq_2 kG.eq_1 kG.eq_2 XH.eq_1 mM.eq_1 mM.eq_2 gD.eq_1 gD.eq_2
@[simp] theorem AWZ (v:Value):KJ (.lit v)=true:=(rfl)
@[simp] theorem AX0 (es:List (List IV)):KJ (.isl es)=true:=(rfl)
@[simp] theorem AV4 (v:Value):XH (.lit v)=.lit v:=(rfl)
attribute [simp] ER.eq_1 ER.eq_2 ER.eq_3
attribute [simp] tV.eq_1 tV.eq_2
attribute [simp] wO.eq_1
attribute [simp] dQ.eq_1 dQ.eq_2
attribute [simp] storeT.eq_1 storeT.eq_2 JY.eq_1 JY.eq_2
@[simp] theorem ARB (st:Store) (v:AV):KG st [v]=some ([v],st):=(rfl)
@[simp] theorem ARC (st:Store):KG st []=some ([],st):=(rfl)
@[simp] theorem ARA (st:Store) (a b:AV) (r:List AV):KG st (a::b::r)=wX st (a::b::r):=(rfl)
@[simp] theorem AXQ (st:Store) (cs:List AV):FP st (.agg cs)=bnd (rV st (.agg cs)) fun p=>some (.i p.1,p.2):=(rfl)
@[simp] theorem AUJ (st:Store) :FP st .nils=some (.nils,st):=(rfl)
@[simp] theorem AXO (st:Store) (i o:Nat):FP st (.own i o)=some ((.own i o),st):=(rfl)
@[simp] theorem AUI (st:Store) (i k j o:Nat):FP st (.ownE i k j o)=some ((.ownE i k j o),st):=(rfl)
@[simp] theorem AXP (st:Store) (i k o l:Nat):FP st (.osl i k o l)=some ((.osl i k o l),st):=(rfl)
@[simp] theorem AZQ (st:Store) (f:Fn) (cs:List AV):FP st (.fn f cs)=some ((.fn f cs),st):=(rfl)
@[simp] theorem AbN (st:Store) (v:IV):FP st (.i v)=some ((.i v),st):=(rfl)
@[simp] theorem AXN (st:Store) (cs:List AV):FP st (.tup cs)=some ((.tup cs),st):=(rfl)
@[simp] theorem AUK (st:Store) :FP st .junk=some (.junk,st):=(rfl)
@[simp] theorem AZ1 (all:List Oper) (after:List Edge) (j:Nat):fV all 3 after j=if CL after j=true then true else after.any fun e=>Region.binds .any e && fV all 2 (wE all e.on) j:=(rfl)
@[simp] theorem AZ2 (all:List Oper) (after:List Edge) (j:Nat):fV all 2 after j=if CL after j=true then true else after.any fun e=>Region.binds .any e && fV all 1 (wE all e.on) j:=(rfl)
@[simp] theorem AZ3 (all:List Oper) (after:List Edge) (j:Nat):fV all 1 after j=if CL after j=true then true else after.any fun e=>Region.binds .any e && fV all 0 (wE all e.on) j:=(rfl)
@[simp] theorem AZ4 (all:List Oper) (after:List Edge) (j:Nat):fV all 0 after j=CL after j:=(rfl)
attribute [simp] wE.eq_1
attribute [simp] undef
attribute [simp] wide
def rqA (q:Pn) (j:Nat):AV :=
 .agg [.int q.kind, .int q.table,if q.exprs=[]then .nils else .osl j 5 0 q.exprs.length,if q.cols=[]then .nils else .osl (if q.exprs=[]then j else j+1) 1 0 q.cols.length,if q.kids=[]then .nils else .osl (if q.exprs=[]then(if q.cols=[]then j else j+1)else(if q.cols=[]then j+1 else j+2)) 5 0 q.kids.length]
def rqB (q:Pn):StL:=(if q.exprs=[]then []else [some (.tre 5 (Ex.aB q.exprs))])++((if q.cols=[]then []else [some (.arr 1 (aF q.cols))])++(if q.kids=[]then []else [some (.tre 5 (Pn.aB q.kids))]))
section
variable {w:World} {m:Mem}
theorem ARY {φ:Pl} {st:StL} (hi:Inv w m φ (aR st)) (hb:∀ id,φ id≠none→id<st.length) {b len:Nat} {F:List Nat} {blk:Blk} (hbF:b∈F) (hlt:∀ f∈F,f<w.heap.size) (hfr:∀ f∈F,eD φ f) (hblk:∀ φ':Pl,BlkOk w m φ' b ⟨len,fun f=>f∈F⟩ blk) :
 Inv w m (upd φ st.length (some (b,⟨len,fun f=>f∈F⟩))) (aR (st++[some blk]))∧∀ id,upd φ st.length (some (b,⟨len,fun f=>f∈F⟩)) id≠none→id<st.length+1:=by
 have hp:PLe φ (upd φ st.length (some (b,⟨len,fun f=>f∈F⟩))):=fun i r n e=>by
  refine⟨n,?_,rfl,fun _ h=>h⟩;have:i≠st.length:=fun h=>by have:=hb i (by rw[e];simp);omega
  simp[upd,this,e]
 have hst:∀ i blk1,aR (st++[some blk]) i=some blk1→(i≠st.length∧aR st i=some blk1)∨(i=st.length∧blk1=blk):=by
  intro i blk1 h;rw[rE]at h;by_cases h1:i<st.length
  ·rw[zG h1]at h;exact .inl ⟨by omega,by rw[rE];exact h⟩
  ·rw[zB (by omega)]at h
   cases h2:i-st.length with
   | zero=>rw[h2]at h;simp at h;exact .inr ⟨by omega,h.symm⟩
   | succ j=>rw[h2]at h;simp at h
 refine⟨⟨hi.mem,?_,?_,?_,hi.kn⟩,?_⟩
 ·intro i blk1 h
  rcases hst i blk1 h with ⟨h1,h2⟩|⟨rfl,rfl⟩
  ·obtain⟨r,n,q1,q2,q3⟩:=hi.live i blk1 h2;exact⟨r,n,by simp[upd,h1,q1],q2,q3.mono q2.1 (fun _ _=>rfl) (.refl _) hp fun _ _ _=>rfl⟩
  ·exact⟨b,⟨len,fun f=>f∈F⟩,by simp[upd],⟨hbF,hlt⟩,hblk _⟩
 ·intro i j r r' n n' b1 b2 f e1 e2 p1 p2 o1 o2
  rcases hst i b1 e1 with ⟨h1,h2⟩|⟨rfl,rfl⟩<;>rcases hst j b2 e2 with ⟨h3,h4⟩|⟨rfl,rfl⟩
  ·simp[upd,h1]at p1;simp[upd,h3]at p2;exact hi.inj i j r r' n n' b1 b2 f h2 h4 p1 p2 o1 o2
  ·simp[upd,h1]at p1;simp[upd]at p2;obtain⟨rfl,rfl⟩:=p2;exact absurd o1 (hfr f o2 i r n p1)
  ·simp[upd,h3]at p2;simp[upd]at p1;obtain⟨rfl,rfl⟩:=p1;exact absurd o2 (hfr f o1 j r' n' p2)
  ·rfl
 ·intro i r n f e ho;by_cases h:i=st.length
  ·simp[upd,h]at e;obtain⟨rfl,rfl⟩:=e;exact hlt f ho
  ·simp[upd,h]at e;exact hi.low i r n f e ho
 ·intro id h;by_cases h1:id=st.length
  ·omega
  ·simp[upd,h1]at h;have:=hb id h;omega
theorem AJM:∀ {cs:List IV} {vs:List Value} {F:List Nat},TCells w cs vs F→mJ cs=true→F=[]
 | _,_,_, .nil,_=>rfl
 | _,_,_, .lit _ r,h=>AJM r (by simp only[mJ,zT]at h;exact h.2)
 | _,_,_, .isl0 _ r,h=>AJM r (by simp only[mJ,zT]at h;exact h.2)
 | _,_,_, .isl (es:=es) hn _ _ _ _ _ _ _,h=>by
  cases es with
  | nil=>exact absurd rfl hn
  | cons=>simp[mJ,jM]at h
theorem QK {φ:Pl} {st:StL} (hi:Inv w m φ (aR st)) (hb:∀ id,φ id≠none→id<st.length) {es:List (List IV)} {k:Nat} {v:Value} {F:List Nat} (hk0:0<k) (hk:∀ e∈es,e.length=k) (ht:TCells w [.isl es] [v] F) (hn:F.Nodup) (hm:∀ f∈F,∀ o,m f o=none) (hlt:∀ f∈F,f<w.heap.size) (hfr:∀ f∈F,eD φ f)
 (hnil:es=[]→v=.slice none 0 0) {blk:Blk} (hmk:blk=.tre k es∨(blk=.arr k es∧fM es=true)) (c:Prop) [Decidable c] (hc:c↔es=[]) :
 ∃ φ',Inv w m φ' (aR (st++if c then []else [some blk]))∧(∀ id,φ' id≠none→id<(st++if c then []else [some blk]).length)∧PLe φ φ'∧Rep m φ' (if c then .nils else .osl st.length k 0 es.length) v∧(∀ f,eD φ f→f ∉ F→eD φ' f)∧∀ id b n f,φ' id=some (b,n)→n.own f→f∈F∨φ id=some (b,n):=by
 by_cases h:c
 ·have he:=hc.1 h;simp only[h,if_true,zA];exact⟨φ,hi,hb, .refl _,by rw[hnil he];exact .nils,fun f h1 _=>h1,fun id b n f h1 _=>.inr h1⟩
 ·have he:es≠[]:=fun e=>h (hc.2 e)
  simp only[h,if_false]
  cases ht with
  | isl0=>exact absurd rfl he
  | @isl b kk cap _ us G _ _ F1 t1 t2 t3 t4 t5 t6 t7 t8 =>
   cases t8
   obtain rfl:kk=k:=by
    cases es with
    | nil=>exact absurd rfl he
    | cons a l=>rw[← t4 a (by simp),hk a (by simp)]
   obtain⟨T,t2,t9⟩:=t2;simp only[zA]at hn hm hlt hfr ⊢
   have hblk:∀ φ':Pl,BlkOk w m φ' b ⟨us.length,fun f=>f∈b::G⟩ blk:=by
    intro φ';have hfit:kk*es.length≤us.length:=xX (zD kk t6) t5
    rcases hmk with rfl|⟨rfl,hbr⟩
    ·exact .tre (T:=T) t2 rfl hk0 t4 t7.toU hfit hn (fun f hf=>zB5 _ hf) (fun f hf o=>hm f hf o) t9
    ·have hGe:G=[]:=AJM t7 (gW hbr);subst hGe;exact .arr (T:=T) t2 rfl hk0 t4 (ABT (gW hbr) t7.toI) hfit (hm b (by simp)) (fun f hf=>by simpa using hf) t9
   obtain⟨i1,i2⟩:=ARY hi hb (b:=b) (len:=us.length) (F:=b::G) (by simp) hlt hfr hblk;refine⟨_,i1,by simpa using i2,fun i r n e=>⟨n,?_,rfl,fun _ h=>h⟩,?_,?_,?_⟩
   ·have:i≠st.length:=fun h=>by have:=hb i (by rw[e];simp);omega
    simp[upd,this,e]
   ·exact .osl (b:=b) (n:=⟨us.length,fun f=>f∈b::G⟩) (by simp[upd]) t6 (by simpa using t5) (fun _=>by simp) (fun h=>by cases h)
   ·intro f h1 h2 id r n e ho;by_cases hid:id=st.length
    ·simp[upd,hid]at e;obtain⟨rfl,rfl⟩:=e;exact h2 (zS.2 ho)
    ·simp[upd,hid]at e;exact h1 id r n e ho
   ·intro id r n f e ho;by_cases hid:id=st.length
    ·simp[upd,hid]at e;obtain⟨rfl,rfl⟩:=e;exact .inl (zS.2 ho)
    ·simp[upd,hid]at e;exact .inr e
end
theorem G7 {l:List Ex}:l=[]↔Ex.aB l=[]:=by cases l<;>simp[Ex.aB]
theorem G6 {l:List Pn}:l=[]↔Pn.aB l=[]:=by cases l<;>simp[Pn.aB]
theorem wB {l:List Int}:l=[]↔aF l=[]:=by cases l<;>simp[aF]
theorem AaF:∀ (l:List Ex),∀ r∈Ex.aB l,r.length=5
 | [],r,h=>by simp[Ex.aB]at h
 | a::l,r,h=>by
  simp only[Ex.aB,zS]at h
  rcases h with rfl|h
  ·rw[Ex.aA];rfl
  ·exact AaF l r h
theorem AaE:∀ (l:List Pn),∀ r∈Pn.aB l,r.length=5
 | [],r,h=>by simp[Pn.aB]at h
 | a::l,r,h=>by
  simp only[Pn.aB,zS]at h
  rcases h with rfl|h
  ·exact Pn.dH _
  ·exact AaE l r h
theorem AZ0:∀ (l:List Int),∀ r∈aF l,r.length=1
 | [],r,h=>by simp[aF]at h
 | a::l,r,h=>by
  simp only[aF,yS,zS]at h
  rcases h with rfl|h
  ·rfl
  ·exact AZ0 l r (by simpa [aF]using h)
theorem vG.own {wi:World} {mi:Mem} {p:Pn} {e:Ending} {w:World} (h:vG wi mi p e w):bS wi mi (fun _=>none) (rqA p 0) (rqB p) e w:=by
 obtain⟨v0,v1,v2,v3,v4,F,m,rfl,hone,hm,ha,hc⟩:=h;have ht:=hc.kc.1.toT (fun f hf=>(hc.all f hf).2.2.2.2);obtain⟨nE,nC,nK⟩:=hc.kc.2;have hnd:=hc.nd;have hall:=hc.all;clear hc;rw[Pn.aA]at ht
 cases ht with
 | lit o0 ht =>
 cases ht with
 | lit o1 ht =>
 obtain⟨FE,G,hF,tE,ht2⟩:=ht.split 1;obtain⟨FC,FK,hG,tC,tK⟩:=ht2.split 1;simp at tE tC tK;subst hG;subst hF;have n1:=zJ.1 hnd;have n2:=zJ.1 n1.2.1
 have i0:Inv w m (fun _=>none) (aR []):=⟨hm.1,fun id blk e=>by simp[aR]at e,fun id id' b b' n n' blk blk' f e=>by simp[aR]at e,(fun _ _ _ _ e=>by cases e),hm.2⟩
 obtain⟨φ1,i1,b1,p1,r1,f1,q1⟩:=QK (st:=[]) i0 (fun id h=>absurd rfl h) (k:=5) (by omega) (AaF p.exprs) tE n1.1 (fun f hf=>(hall f (by simp[hf])).2.2.2.1) (fun f hf=>(hall f (by simp[hf])).2.1) (fun f hf=>(hall f (by simp[hf])).2.2.1) (fun h=>nE (G7.2 h)) (blk:=.tre 5 (Ex.aB p.exprs)) (.inl rfl) (p.exprs=[]) G7;have fr1:∀ f∈FC++FK,eD φ1 f:=fun f hf=>f1 f (hall f (by simp at hf ⊢;exact .inr hf)).2.2.1 fun h=>n1.2.2 f h f hf rfl
 obtain⟨φ2,i2,b2,p2,r2,f2,q2⟩:=QK i1 b1 (k:=1) (by omega) (AZ0 p.cols) tC n2.1 (fun f hf=>(hall f (by simp[hf])).2.2.2.1) (fun f hf=>(hall f (by simp[hf])).2.1) (fun f hf=>fr1 f (by simp[hf])) (fun h=>nC (wB.2 h)) (blk:=.arr 1 (aF p.cols)) (.inr ⟨rfl,FU _⟩) (p.cols=[]) wB;obtain⟨φ3,i3,b3,p3,r3,f3,q3⟩:=QK i2 b2 (k:=5) (by omega) (AaE p.kids) tK n2.2.1 (fun f hf=>(hall f (by simp[hf])).2.2.2.1) (fun f hf=>(hall f (by simp[hf])).2.1) (fun f hf=>f2 f (fr1 f (by simp[hf])) fun h=>n2.2.2 f h f hf rfl) (fun h=>nK (G6.2 h)) (blk:=.tre 5 (Pn.aB p.kids)) (.inl rfl) (p.kids=[]) G6;have r1:=r1.mono (.refl m) (p2.trans p3);have r2:=r2.mono (.refl m) p3;refine⟨_,m,φ3,rfl,?_,by simpa [rqB]using i3,⟨ha.size,ha.os,ha.tape,ha.output,ha.block,ha.mle,ha.mnew,(fun _ _ _ h=>by cases h),fun id b n f e1 e2=>?_⟩,by simpa [rqB]using b3⟩
 ·have ho:∀ v∈[v2,v3,v4],v.oneCell'=true:=fun v hv=>hone v (by simp at hv ⊢;rcases hv with h|h|h<;>simp[h])
  refine .agg (.cons (.i (.lit _)) rfl (.cons (.i (.lit _)) rfl (.cons ?_ (ho _ (by simp)) (.cons ?_ (ho _ (by simp)) (.cons ?_ (ho _ (by simp)) .nil)))))
  ·by_cases c1:p.exprs=[]<;>simpa [c1]using r1
  ·by_cases c1:p.exprs=[]<;>by_cases c2:p.cols=[]<;>simpa [c1,c2]using r2
  ·by_cases c1:p.exprs=[]<;>by_cases c2:p.cols=[]<;>by_cases c3:p.kids=[]<;>simpa [c1,c2,c3]using r3
 ·rcases q3 id b n f e1 e2 with h|h
  ·exact .inl (hall f (by simp[h])).1
  ·rcases q2 id b n f h e2 with h|h
   ·exact .inl (hall f (by simp[h])).1
   ·rcases q1 id b n f h e2 with h|h
    ·exact .inl (hall f (by simp[h])).1
    ·cases h
def AcO (k:Nat) (es:List (List IV)):Nat→StL
 | 0=>[]
 | _+1=>[some (.tre k es)]
@[simp] theorem AcN (k:Nat) (es:List (List IV)):AcO k es 0=[]:=(rfl)
@[simp] theorem AcM (k i:Nat) (es:List (List IV)):AcO k es (i+1)=[some (.tre k es)]:=(rfl)
theorem AFY (l:List Ex):(Ex.aB l).take l.length=Ex.aB l:=zY (by simp)
theorem AFX (l:List Int):(aF l).take l.length=aF l:=zY (by simp)
theorem AFW (l:List Pn):(Pn.aB l).take l.length=Pn.aB l:=zY (by simp)
end Go.Av
namespace Go.Av.Mk
open Go Go.Av
set_option maxRecDepth 4000
def rowsOf (W:Nat):Nat→List Value→List (List IV)
 | 0,_=>[]
 | n+1,vs=>(vs.take W).map IV.lit::rowsOf W n (vs.drop W)
theorem fG (W:Nat):∀ (n:Nat) (vs:List Value),(rowsOf W n vs).length=n
 | 0,_=>rfl
 | n+1,vs=>by simp[rowsOf,fG W n]
theorem pJ (W:Nat):∀ (n:Nat) (vs:List Value),(rowsOf W n vs).flatten=(vs.take (W*n)).map IV.lit
 | 0,vs=>by simp[rowsOf]
 | n+1,vs=>by
  simp only[rowsOf,z8,pJ W n];rw[← List.map_append,show W*(n+1)=W+W*n by rw[zC];omega,List.take_add]
theorem H6 (W:Nat):∀ (n:Nat) (vs:List Value),W*n≤vs.length→∀ e∈rowsOf W n vs,e.length=W
 | 0,_,_=>by simp[rowsOf]
 | n+1,vs,h=>by
  intro e he;have hm:W*(n+1)=W*n+W:=by rw[zC];omega
  simp only[rowsOf,zS]at he
  rcases he with rfl|he
  ·simp;omega
  ·exact H6 W n _ (by simp;omega) e he
theorem jQ (W:Nat):∀ (n:Nat) (vs:List Value) (i:Nat),i<n→fT (rowsOf W n vs) i=some (((vs.drop (W*i)).take W).map IV.lit)
 | 0,_,_,h=>by omega
 | n+1,vs,0,_=>by simp[rowsOf,fT]
 | n+1,vs,i+1,h=>by
  simp only[rowsOf,fT];rw[jQ W n _ i (by omega),xE,show W+W*i=W*(i+1)by rw[zC];omega]
theorem pY (W:Nat):∀ (n:Nat) (us vals:List Value) (i:Nat),i<n→W*n≤us.length→vals.length=W→(rowsOf W n us).set i (vals.map IV.lit)=rowsOf W n (us.take (W*i)++vals++us.drop (W*(i+1)))
 | 0,_,_,_,h,_,_=>by omega
 | n+1,us,vals,0,_,hu,hv=>by
  simp only[rowsOf,zC6,Nat.mul_zero,List.take_zero,yO,zH,zB8];rw[zF0 hv,zB0 hv]
 | n+1,us,vals,i+1,h,hu,hv=>by
  have m1:W*(n+1)=W*n+W:=by rw[zC];omega
  have m2:W*(i+1)=W+W*i:=by rw[zC];omega
  have m3:W*(i+1+1)=W+W*(i+1):=by rw[zC W (i+1)];omega
  have m4:W*i≤W*n:=zD W (by omega);simp only[rowsOf,List.set_cons_succ];rw[pY W n _ vals i (by omega) (by simp;omega) hv]
  have e1:(us.take (W*(i+1))++vals++us.drop (W*(i+1+1))).take W=us.take W:=by
   rw[yZ,zA0 (by simp;omega),zK,yM (by omega)]
  have e2:(us.take (W*(i+1))++vals++us.drop (W*(i+1+1))).drop W=(us.drop W).take (W*i)++vals++(us.drop W).drop (W*(i+1)):=by
   rw[yZ,List.drop_append_of_le_length (by simp;omega),xW,xE,yZ,m3];congr 2;congr 1;omega
  rw[e1,e2]
theorem AP4 {m:Mem}:∀ (vs:List Value),(∀ v∈vs,v.oneCell'=true)→ICells m (vs.map IV.lit) vs
 | [],_=>.nil
 | v::vs,h=>.cons (.lit v) (h v (by simp)) (AP4 vs fun u hu=>h u (by simp[hu]))
theorem AHX {m:Mem}:∀ {vs xs:List Value},ICells m (vs.map IV.lit) xs→xs=vs
 | [],_,h=>by cases h;rfl
 | v::vs,_,h=>by
  simp only[yS]at h
  cases h with
  | cons a o r=>cases a;rw[AHX r]
structure Fr (w w':World) (S:List Nat):Prop where
 size:w.heap.size≤w'.heap.size
 os:w'.os=w.os
 tape:Tp w w'
 output:w'.output=w.output
 same:∀ f,f<w.heap.size→f ∉ S→w'.heap[f]?=w.heap[f]?
theorem Fr.refl (w:World) (S:List Nat):Fr w w S:=⟨Nat.le_refl _,rfl, .refl _,rfl,fun _ _ _=>rfl⟩
theorem Fr.trans {w1 w2 w3:World} {S:List Nat} (a:Fr w1 w2 S) (b:Fr w2 w3 S):Fr w1 w3 S :=
 ⟨Nat.le_trans a.size b.size,b.os.trans a.os,b.tape.trans a.tape,b.output.trans a.output,fun f h1 h2=>(b.same f (zI h1 a.size) h2).trans (a.same f h1 h2)⟩
theorem Fr.sub {w w':World} {S T:List Nat} (a:Fr w w' S) (h:∀ f∈S,f∈T):Fr w w' T :=
 ⟨a.size,a.os,a.tape,a.output,fun f h1 h2=>a.same f h1 fun h3=>h2 (h f h3)⟩
section
variable {C:Ctx} {nt:Nat}
theorem oI (hS:SoundOk C) {w0:World} {m0:Mem} {φ0:Pl} {G:List Nat} {na:Nat} (h0:∀ id,φ0 id≠none→id<na) {c:Code} {S S':AS} {e:AExit} {a:Act} {w:World} (hc:codeOk nt c=true) (hx:dY C G na c S=some (e,S')) (h:MZ [] w0 m0 φ0 nt na S a w) (hnr:bK c=true:=by rfl) :
 c.wp C.P (fun e' a' w'=>e'=gQ e∧MZ [] w0 m0 φ0 nt na S' a' w') a w:=by
 obtain⟨n,hn⟩:=(dD _).1 hx;refine wpIn_wide.1 (wpIn_mono (bW (ρ:=none) hS.ctx (aY hS) (hS.draw _ (aY hS)) h0 n c S S' e [] a w hc (.inl rfl) hn h) ?_);rintro e' a' w' ⟨rfl,ds,k,kd⟩;have kd:=kd hnr;subst kd;exact⟨rfl,k⟩
end
theorem AD3 {C:Ctx} {nt:Nat} (hS:SoundOk C) {id base:Nat} {ops:Array Oper} {os1:List Oper} {o1 o2:Oper} {w0:World} {m0:Mem} {φ0:Pl} {env:Nat→AV} {st:Store} {R1:RS} {a:Act} {w:World} {Q:Exit→Act→World→Prop} (hops:ops.toList=os1++[o1,o2]) (hs:∀ o∈ops,gN nt o=true)
 (hx:dC C (aH C) ops.toList false base os1 0 { env:=env,st:=st,log:=[] }=some R1) (h:ARel [] w0 m0 φ0 nt (fun id=>id<base) env st a w)
 (hfin:∀ a' w',ARel [] w0 m0 φ0 nt (fun _=>True) R1.env R1.st a' w'→wpOpIn (FR none) 0 C.P ops Q os1.length (wpOpIn (FR none) 0 C.P ops Q (os1.length+1) (fun a w=>Q .normal a w)) a' w'):(Code.region id ops false).wp C.P Q a w:=by
 refine kY ?_;have hsz:ops.size=os1.length+2:=by rw[← Array.length_toList,hops];simp
 have hget:∀ j,ops[j]?=(os1++[o1,o2])[j]?:=fun j=>by rw[← hops,xU]
 rw[zB4,hsz,show List.range' 0 (os1.length+2)=List.range' 0 os1.length++[os1.length,os1.length+1]by
  rw[← List.range'_append_1];simp[List.range'_succ]]
 refine iV (w0:=w0) (m0:=m0) (φ0:=φ0) hS.ctx (aY hS) hs os1 0 { env:=env,st:=st,log:=[] } R1 a w (fun j hj=>?_) hx ?_ fun a' w' h'=>?_
 ·rw[hget,zH,zG hj]
 ·obtain⟨⟨m,φ,k1,k2,k3,k4,k7⟩,k5,k6⟩:=h;exact⟨⟨m,φ,k1,k2,k3,fun id hne=>.inl (k4 id hne),k7⟩,k5,k6⟩
 ·obtain⟨⟨m,φ,k1,k2,k3,k4,k7⟩,k5,k6⟩:=h';have:=hfin a' w' ⟨⟨m,φ,k1,k2,k3,fun _ _=>trivial,k7⟩,k5,k6⟩;have hnil:wpOpsIn (FR none) 0 C.P ops Q []=fun a w=>Q .normal a w:=by funext a w;simp[wpOpsIn]
  have hone:wpOpsIn (FR none) 0 C.P ops Q [os1.length+1]=wpOpIn (FR none) 0 C.P ops Q (os1.length+1) (fun a w=>Q .normal a w):=by funext a w;rw[wpOpsIn_cons,hnil]
  rw[wpOpsIn_cons,hone];exact this
theorem AC3 {P:Program} {ops:Array Oper} {Q:Exit→Act→World→Prop} {K:Act→World→Prop} {i d:Nat} {g:FuncId} {fn:Func} {args:Array Operand} {ts:Array TypeId} {ty:TypeId} {pos:String} {after:Array Edge} {a:Act} {w:World}
 (ho:ops[i]?=some ⟨some d, .call ⟨.value (.func g),args,ts⟩,ty,pos,after,none⟩) (g1:P.funcs[g]?=some fn) (g2:fn.name≠ "runtime.NumGoroutine") (g3:fn.body≠none)
 (hc:Calls P g (args.map a.eval) w fun e w'=>∃ y,e=.returned y∧K (a.put (some d) y) w'):wpOpIn (FR none) 0 P ops Q i K a w:=by
 unfold wpOpIn;rw[ho];simp only[Region.wanted,if_true];refine⟨fun _ _=>trivial,?_⟩;rw[Oper.semAt_eq _ _ _ (fun c e=>by cases e)]
 have hrun:(execOp a.eval ⟨some d, .call ⟨.value (.func g),args,ts⟩,ty,pos,after,none⟩).run P w=.ok (.enter g (args.map a.eval)) w:=by
  unfold execOp;have hev:a.eval (.func g)=.func (.func g) #[] #[]:=rfl
  simp[resolve,Deferred.ofValue,hev,invoke,callFunc,g1,g2,g3]
 rw[hrun];rw[Oper.uponIn_enter];refine⟨fun h=>(by cases h),RZ (hc.mono ?_)⟩;rintro e w' ⟨y,rfl,k⟩;exact k
theorem XI {P:Program} {ops:Array Oper} {Q:Exit→Act→World→Prop} {K:Act→World→Prop} {i d:Nat} {x:Operand} {ty:TypeId} {pos:String} {after:Array Edge} {a:Act} {w:World}
 (ho:ops[i]?=some ⟨some d, .assign x,ty,pos,after,none⟩) (hK:K (a.put (some d) (a.eval x)) w):wpOpIn (FR none) 0 P ops Q i K a w:=by
 unfold wpOpIn;rw[ho];simp only[Region.wanted,if_true];refine⟨fun _ _=>trivial,?_⟩;rw[Oper.semAt_eq _ _ _ (fun c e=>by cases e)]
 have hrun:(execOp a.eval ⟨some d, .assign x,ty,pos,after,none⟩).run P w=.ok (.value (a.eval x)) w:=by
  unfold execOp;simp
 rw[hrun];simpa [Oper.uponIn]using hK
theorem QE {a:Act} {d:Nat} {x:Value} (hd:d<a.tmps.size) (t:Nat):(a.put (some d) x).tmps.getD t undef=if t=d then x else a.tmps.getD t undef:=by
 simp only[Act.put];by_cases e:t=d
 ·subst e;simp[Array.getD,hd]
 ·rw[if_neg e];simp only[xR];rw[zC4 (Ne.symm e)]
def P1 (b N:Nat):Pl:=fun id=>if id=0 then some (b,one b N)else none
theorem oF (b N:Nat):∀ id,P1 b N id≠none→id<1:=fun id h=>by
 by_cases e:id=0
 ·omega
 ·simp[P1,e]at h
structure MG (W nt b N n:Nat) (us:List Value) (q:Int) (j5:AV) (a:Act) (w:World):Prop where
 nokn:AaL=[]
 row:rowOf w b us
 len:us.length=N
 fit:W*n≤N
 pos:0<n
 wpos:0<W
 t0:∃ cap,n≤cap∧W*cap≤N∧a.tmps.getD 0 undef=.slice (some ⟨b,0,none⟩) n cap
 t1:a.tmps.getD 1 undef=.int .i64 q
 t5:Rep (fun _ _=>none) (fun _=>none) j5 (a.tmps.getD 5 undef)
 size:nt≤a.tmps.size
 defers:a.defers=[]
def MS (W n:Nat) (R:List (List IV)) (q:Int) (j4 j5 j9:AV):AS :=
 { env:=[(0, .osl 0 W 0 n),(1, .int q),(4,j4),(5,j5),(9,j9)],st:=[some (.arr W R)] }
theorem MG.to {W nt b N n:Nat} {us:List Value} {q:Int} {j5:AV} {a:Act} {w:World} (h:MG W nt b N n us q j5 a w):MZ [] w (fun _ _=>none) (P1 b N) nt 1 (MS W n (rowsOf W n us) q .junk j5 .junk) a w:=by
 obtain⟨T,hrow,hone⟩:=h.row;refine⟨⟨⟨fun _ _=>none,P1 b N,⟨fun _ _ _ e=>(by cases e),?_,?_,?_,fun p hp=>absurd (h.nokn ▸ hp) (zA4)⟩,?_, .refl _ _ _,oF b N,Marks.nil _ _ _⟩,h.size,h.defers⟩,zO _⟩
 ·intro id blk e
  cases id with
  | zero =>
   simp[MS,aR]at e;subst e;refine⟨b,Go.Av.one b N,rfl,⟨rfl,fun f hf=>?_⟩, .arr (T:=T) hrow h.len h.wpos (H6 W n us (by have:=h.len;have:=h.fit;omega)) ?_ (by rw[fG];exact h.fit) (fun _=>rfl) (fun _ hf=>hf) hone⟩
   ·have hf:f=b:=hf;subst hf;exact(zN.1 hrow).1
   ·rw[pJ,fG];exact AP4 _ fun v hv=>hone v (yY hv)
  | succ id=>simp[MS,aR]at e
 ·intro i j b b' n n' b1 b2 f h1 h2 _ _ _ _
  cases i with
  | succ i=>simp[MS,aR]at h1
  | zero=>cases j with
   | zero=>rfl
   | succ j=>simp[MS,aR]at h2
 ·intro id b' n' f e ho;by_cases hid:id=0
  ·subst hid;simp only[P1,if_true]at e;injection e with e;injection e with e1 e2;subst e1;subst e2;have ho:f=b:=ho;subst ho;exact(zN.1 hrow).1
  ·simp[P1,hid]at e
 ·intro t;simp only[MS,aJ];by_cases h0:t=0
  ·subst h0;obtain⟨cap,c1,c2,c3⟩:=h.t0;rw[c3];exact .osl (n:=Go.Av.one b N) rfl c1 (by simp;exact c2) (fun _=>by simp) (fun h=>by cases h)
  by_cases h1:t=1
  ·subst h1;rw[h.t1];exact .i (.lit _)
  by_cases h5:t=5
  ·subst h5;exact h.t5.mono (.refl _) (fun _ _ _ e=>by cases e)
  simp[h0,h1,h5];exact .junk _
theorem MG.of {W nt b N n:Nat} {us vs:List Value} {q q' i':Int} {j5:AV} {a a':Act} {w w0 w':World} (h:MG W nt b N n us q j5 a w) {env:Nat→AV} {st:Store} {ok:Nat→Prop} (hS:ARel [] w0 (fun _ _=>none) (P1 b N) nt ok env st a' w') (h0:env 0=.osl 0 W 0 n) (h1:env 1=.int q') (h5:env 5=.int i') (hst:st 0=some (.arr W (rowsOf W n vs))) :
 ∃ us',MG W nt b N n us' q' (.int i') a' w'∧us'.take (W*n)=vs.take (W*n)∧Fr w0 w' [b]:=by
 obtain⟨⟨m,φ,hi,henv,hadv,hok,_⟩,hsz,hdf⟩:=hS;obtain⟨n',e0,el,eo⟩:=hadv.ple 0 b (Go.Av.one b N) rfl;obtain⟨_,hok2⟩:=cK hi e0 hst;have t0:=henv 0;rw[h0]at t0;have t1:=henv 1;rw[h1]at t1;have t5:=henv 5;rw[h5]at t5;have hpos:=h.pos
 have fr:Fr w0 w' [b]:=by
  refine⟨hadv.size,hadv.os,hadv.tape,hadv.output,fun f hf hne=>hadv.block f hf ?_⟩;intro id r x e ho;by_cases hid:id=0
  ·subst hid;simp only[P1,if_true]at e;injection e with e;injection e with e1 e2;subst e2;have ho:f=b:=ho;exact hne (by simp[ho])
  ·simp[P1,hid]at e
 cases hok2 with
 | @arr T k es xs hh hl hk hw hc hfit hm hown hone =>
  rw[pJ,fG]at hc;have hx:=AHX hc;rw[fG]at hfit;refine⟨xs,⟨h.nokn,⟨T,hh,hone⟩,by rw[hl,el];rfl,h.fit,hpos,h.wpos,?_,?_,?_,hsz,hdf⟩,hx,fr⟩
  ·generalize a'.tmps.getD 0 undef=x0 at t0
   cases t0 with
   | @osl _ _ _ _ cap b2 n2 ao e2 c1 c2 c3 c4 =>
    rw[e0]at e2;injection e2 with e2;injection e2 with e3 e4;subst e3;subst e4
    rw[c3 (by omega)];exact⟨cap,c1,by rw[el]at c2;simpa using c2,by simp⟩
  ·generalize a'.tmps.getD 1 undef=x1 at t1
   cases t1 with|i r=>cases r;rfl
  ·generalize a'.tmps.getD 5 undef=x5 at t5
   cases t5 with|i r=>cases r;exact .i (.lit _)
theorem tlt {w:World}:∀ {cs:List IV} {vs:List Value} {F:List Nat},TCells w cs vs F→∀ f∈F,f<w.heap.size
 | _,_,_, .nil=>by simp
 | _,_,_, .lit _ r=>(tlt r)
 | _,_,_, .isl0 _ r=>(tlt r)
 | _,_,_, .isl _ ⟨T,hr,_⟩ _ _ _ _ g r=>by
  intro f hf;simp only[yV,zS,zV]at hf
  rcases hf with rfl|hf|hf
  ·exact(zN.1 hr).1
  ·exact tlt g f hf
  ·exact tlt r f hf
section
variable {X:Type} (cells:X→List IV) (mk:Int→X→X) (sz:X→Nat)
def fP:Int→List X→List X
 | _,[]=>[]
 | k,x::l=>mk k x::fP (k+sz x) l
def bY:List X→Nat
 | []=>0
 | x::l=>sz x+bY l
theorem dV:∀ (l:List X) (k:Int),(fP mk sz k l).length=l.length
 | [],_=>rfl
 | x::l,k=>by simp[fP,dV l]
theorem DW:∀ (l:List X) (k:Int) {i:Nat} {x:X},l[i]?=some x→(fP mk sz k l)[i]?=some (mk (k+(bY sz (l.take i):Nat)) x)
 | [],_,i,x,h=>by simp at h
 | y::l,k,0,x,h=>by simp at h;subst h;simp[fP,bY]
 | y::l,k,i+1,x,h=>by
  have:=DW l (k+sz y) (i:=i) (x:=x) (by simpa using h);simp only[fP,xZ,yR,bY];rw[this];congr 2;push_cast;omega
theorem AJ:∀ (l:List X) {i:Nat} {x:X},l[i]?=some x→bY sz (l.take (i+1))=bY sz (l.take i)+sz x
 | [],i,x,h=>by simp at h
 | y::l,0,x,h=>by simp at h;subst h;simp[bY]
 | y::l,i+1,x,h=>by have:=AJ l (i:=i) (x:=x) (by simpa using h);simp only[yR,bY]at this ⊢;omega
theorem FB:∀ (l:List X) (i:Nat),bY sz (l.take i)≤bY sz l
 | [],i=>by simp[bY]
 | x::l,0=>by simp[bY]
 | x::l,i+1=>by have:=FB l i;simp only[yR,bY];omega
def AK8 (k:Int) (l:List X) (i:Nat):List X:=(fP mk sz k l).take i++l.drop i
theorem AHL (k:Int) (l:List X):AK8 mk sz k l 0=l:=by simp[AK8]
theorem AM9 (k:Int) (l:List X):AK8 mk sz k l l.length=fP mk sz k l:=by
 unfold AK8;rw[zY (by rw[dV];omega)];simp
theorem AD9 {k:Int} {l:List X} {i:Nat} {x:X} (h:l[i]?=some x):AK8 mk sz k l i=(fP mk sz k l).take i++(x::l.drop (i+1)):=by
 have hi:=(zZ.1 h).1;unfold AK8;rw[yD hi];have:l[i]=x:=by have:=zX hi;rw[h]at this;injection this with this;exact this.symm
 rw[this]
theorem AHM {k:Int} {l:List X} {i:Nat} {x:X} (h:l[i]?=some x):AK8 mk sz k l (i+1)=(fP mk sz k l).take i++(mk (k+(bY sz (l.take i):Nat)) x::l.drop (i+1)):=by
 unfold AK8;rw[aN (DW mk sz l k h)];simp
theorem M5 {W:Nat} (hW:∀ x,(cells x).length=W):∀ l:List X,(l.map cells).flatten.length=W*l.length
 | []=>by simp
 | x::l=>by simp only[yS,z8,zL,M5 hW l,hW,zP,zC];omega
end
structure MLoop (C:Ctx) (g:FuncId) (W nt:Nat) (G:List Nat) (fn:Func) (c0 c1 cc body c3 cend:Code):Prop where
 func:C.P.funcs[g]?=some fn
 code:fn.body=some (c0.seq ((c1.seq (.block 0 (.loop (cc.seq ((Code.block 1 body).seq c3))))).seq cend))
 ntmps:fn.ntmps=nt
 big:6≤nt
 results:fn.results.toList=[ResultVar.tmp 4]
 ok0:codeOk nt c0=true∧bK c0=true
 ok1:codeOk nt c1=true∧bK c1=true
 okc:codeOk nt cc=true∧bK cc=true
 ok3:codeOk nt c3=true∧bK c3=true
 oke:codeOk nt cend=true∧bK cend=true
 x0:∀ n R q,dY C G 1 c0 (MS W n R q .junk .junk .junk)=some (.normal,MS W n R q (.int 0) .junk .junk)
 x1:∀ n R q,dY C G 1 c1 (MS W n R q (.int 0) .junk .junk)=some (.normal,MS W n R q (.int 0) (.int 0) .junk)
 xc:∀ (n i:Nat) R q,i<n→dY C G 1 cc (MS W n R q .junk (.int i) .junk)=some (.normal,MS W n R q .junk (.int i) (.bool true))
 xo:∀ (n:Nat) R q,dY C G 1 cc (MS W n R q .junk (.int n) .junk)=some (.exit 0,MS W n R q .junk (.int n) (.bool false))
 x3:∀ (n i:Nat) R q,i<1000000000000→dY C G 1 c3 (MS W n R q .junk (.int i) .junk)=some (.normal,MS W n R q .junk (.int (i+1)) .junk)
 xe:∀ (n:Nat) R q,dY C G 1 cend (MS W n R q .junk (.int n) (.bool false))=some (.ret,MS W n R q (.int q) (.int n) (.bool false))
 xf:∀ (n:Nat) R (q:Int),finish C false [ResultVar.tmp 4] 1 (MS W n R q (.int q) (.int n) (.bool false))=some (.int q,[some (.arr W R)])
 nil:∀ k:Int,aH C g [.i (.isl []), .int k] []=some (.int k,[])
def X3 (C:Ctx) {X:Type} (cells:X→List IV) (mk:Int→X→X) (sz:X→Nat) (W nt:Nat) (body:Code) (x:X):Prop :=
 ∀ (b N n i:Nat) (us vs:List Value) (q:Int) (F:List Nat) (a:Act) (w:World),i<n→MG W nt b N n us q (.int i) a w→(us.drop (W*i)).take W=vs→TCells w (cells x) vs F→F.Nodup→b ∉ F→0≤q→q+sz x<1000000000000 →
   body.wp C.P (fun e a' w'=>e=.normal∧∃ us' vs',MG W nt b N n us' (q+sz x) (.int i) a' w'∧us'.take (W*n)=us.take (W*i)++vs'++(us.take (W*n)).drop (W*(i+1))∧TCells w' (cells (mk q x)) vs' F∧Fr w w' (b::F)) a w
def AO8 {X:Type} (cells:X→List IV) (mk:Int→X→X) (sz:X→Nat) (w:World) (v:Value) (F:List Nat) (k:Int) (l:List X) (en:Ending) (w':World):Prop :=
 en=.returned (.int .i64 (k+(bY sz l:Nat)))∧Fr w w' F∧TCells w' [.isl ((fP mk sz k l).map cells)] [v] F∧∀ b0 cap us0,v=.slice (some ⟨b0,0,none⟩) l.length cap→l≠[]→rowOf w b0 us0→∃ us1,rowOf w' b0 us1∧us1.length=us0.length
theorem QT {C:Ctx} (hS:SoundOk C) {X:Type} {cells:X→List IV} {mk:Int→X→X} {sz:X→Nat} {g:FuncId} {W nt:Nat} {G:List Nat} {fn:Func} {c0 c1 cc body c3 cend:Code} (hg:g≠oG) (L:MLoop C g W nt G fn c0 c1 cc body c3 cend) (hW:∀ x,(cells x).length=W) (hW0:0<W)
 {l:List X} (hR:∀ x∈l,X3 C cells mk sz W nt body x) {w:World} {v:Value} {F:List Nat} {k:Int} (hT:TCells w [.isl (l.map cells)] [v] F) (hnd:F.Nodup) (hk0:0≤k) (hk1:k+(bY sz l:Nat)<1000000000000) (hl12:l.length<1000000000000) (hk:AaL=[]:=by rfl) :
 Calls C.P g #[v, .int .i64 k] w (AO8 cells mk sz w v F k l):=by
 generalize hces:l.map cells=ces at hT
 cases hT with
 | @isl0 ao cap _ _ F1 hc hr =>
  cases hr
  have hl:l=[]:=by simpa using hces
  subst hl;refine((aY hS).calls _ _ _ _ _ hg (L.nil k) w (dR w) (fun _=>none) [.slice ao 0 cap, .int .i64 k] (inv0 w (fun _ hp=>absurd (hk ▸ hp) (zA4))) (.cons (.i (.isl0 ao cap hc)) (.cons (.i (.lit _)) .nil)) (fun id h=>absurd rfl h)).mono ?_;rintro en w' ⟨y,m',φ',rfl,j1,j2,j3,j4⟩;have hy:y=.int .i64 k:=by cases j1 with|i r=>cases r;rfl
  subst hy;refine⟨by simp[bY],⟨j3.size,j3.os,j3.tape,j3.output,fun f hf _=>j3.block f hf fun id b n e=>by cases e⟩,?_,fun _ _ _ _ h _=>absurd rfl h⟩;simp only[fP,zA7];exact .isl0 hc .nil
 | @isl b kk cap _ us G1 _ _ F1 hne hrow hkk hw hf hcp hg1 hr =>
  cases hr
  subst hces;have hlne:l≠[]:=fun h=>by subst h;exact hne rfl
  obtain rfl:kk=W:=by
   cases l with
   | nil=>exact absurd rfl hlne
   | cons x l=>rw[← hw (cells x) (by simp),hW]
  simp only[zA]at hnd ⊢;have hbG:=(yX.1 hnd).1;have hGn:=(yX.1 hnd).2;rw[zB1]at hcp hg1 ⊢;generalize hn:l.length=n at hcp hg1 ⊢;have hnpos:0<n:=by rw[← hn];exact xN.2 hlne
  generalize hN:us.length=N at hf;have hfitN:kk*n≤N:=xX (zD kk hcp) hf;refine calls_of_wp (fn:=fn) L.func L.code ?_
  have g0:MG kk nt b N n us k .junk { tmps:=#[Value.slice (some ⟨b,0,none⟩) n cap, .int .i64 k]++Array.replicate (nt-2) undef,defers:=[] } w :=
   ⟨hk,hrow,hN,hfitN,hnpos,hW0,⟨cap,hcp,hf,by simp[Array.getElem?_append]⟩,by simp[Array.getElem?_append], .junk _,by simp;have:=L.big;omega,rfl⟩
  have r0:=g0.to;refine wp_seq (wp_mono (oI hS (oF b N) (G:=G) (nt:=nt) L.ok0.1 (L.x0 n (rowsOf kk n us) k) (by rw[L.ntmps];exact r0) L.ok0.2) ?_);rintro _ x1 y1 ⟨rfl,r1⟩;refine wp_seq (wp_seq (wp_mono (oI hS (oF b N) (G:=G) (nt:=nt) L.ok1.1 (L.x1 n (rowsOf kk n us) k) r1 L.ok1.2) ?_));rintro _ x2 y2 ⟨rfl,r2⟩;obtain⟨us2,g2,e2,f2⟩:=g0.of (q':=k) (i':=0) r2.1 rfl rfl rfl rfl;clear r0 r1 r2;refine wp_block ?_
  refine tX (fun m a w'=>∃ i us',m=n-i∧i≤n∧MG kk nt b N n us' (k+(bY sz (l.take i):Nat)) (.int i) a w'∧Fr w w' (b::G1)∧TCells w' ((AK8 mk sz k l i).map cells).flatten (us'.take (kk*n)) G1) ?_ (n:=n) ⟨0,us2,by omega,by omega,by simpa [bY]using g2,f2.sub (by simp),by
   rw[AHL,e2];refine hg1.mono fun f hf'=>?_
   have hlt:f<w.heap.size:=tlt hg1 f hf'
   exact f2.same f hlt (by simp;intro h;subst h;exact hbG hf')⟩
  rintro m a w' ⟨i,us',rfl,hin',g,fr,ht⟩;have rr:=g.to
  have keepG:∀ {w1 w2:World} {cs:List IV} {vs:List Value} {F:List Nat},(∀ f∈F,f∈G1)→Fr w1 w2 [b]→TCells w1 cs vs F→TCells w2 cs vs F:=by
   intro w1 w2 cs vs F hF hfr h;refine h.mono fun f hf'=>hfr.same f (tlt h f hf') ?_
   simp;intro e;subst e;exact hbG (hF f hf')
  by_cases hi:i=n
  ·subst hi;have hTl:l.take i=l:=zY (by omega);rw[hTl]at g rr;generalize hq:k+(bY sz l:Nat)=q at g rr;refine wp_seq (wp_mono (oI hS (oF b N) (G:=G) (nt:=nt) L.okc.1 (L.xo i (rowsOf kk i us') q) rr L.okc.2) ?_);rintro _ x3 y3 ⟨rfl,r3⟩;simp only[gQ,Exit.then,Exit.inBlock,if_true];refine wp_mono (oI hS (oF b N) (G:=G) (nt:=nt) L.oke.1 (L.xe i (rowsOf kk i us') q) r3 L.oke.2) ?_;rintro _ x4 y4 ⟨rfl,r4⟩;obtain⟨v4,k1,k2⟩:=fJ (C:=C) (fn:=fn) (keep:=false) (na:=1) (oF b N) r4 (by rw[L.results];exact L.xf i (rowsOf kk i us') q);obtain⟨us4,g4,e4,f4⟩:=g.of (q':=q) (i':=i) r4.1 rfl rfl rfl rfl;obtain⟨y,m',φ',hy,j1,_⟩:=k2;injection hy with hy;subst hy;have hv4:v4=.int .i64 q:=by cases j1 with|i r=>cases r;rfl
   subst hv4;refine⟨g4.defers,_,k1,by rw[hq],fr.trans (f4.sub (by simp)),?_⟩;have hml:=dV mk sz l k;have hcl:((fP mk sz k l).map cells).length=i:=by rw[zB1,hml,hn]
   have hne':(fP mk sz k l).map cells≠[]:=fun h=>by rw[h]at hcl;simp at hcl;omega
   have:=TCells.isl (w:=y4) (b:=b) (k:=kk) (cap:=cap) (es:=(fP mk sz k l).map cells) (us:=us4) (G:=G1) (cs:=[]) (vs:=[]) (F:=[]) hne' g4.row hkk ?_ (by rw[g4.len];exact hf) (by omega) ?_ .nil
   ·refine⟨by rw[hcl]at this;simpa using this,?_⟩;rintro b0 cap0 us0 hv0 _ ⟨T0,hr0,_⟩;injection hv0 with hv0;injection hv0 with hv0;injection hv0 with hv0;subst hv0;obtain⟨T,hrow',_⟩:=hrow;rw[hrow']at hr0;injection hr0 with hr0;injection hr0 with hr0;have:us=us0:=by simpa using congrArg Array.toList hr0
    subst this;exact⟨us4,g4.row,by rw[g4.len,hN]⟩
   ·intro e he;obtain⟨x,_,rfl⟩:=yI.1 he;exact hW x
   ·rw[hcl,e4];rw[show AK8 mk sz k l i=fP mk sz k l by rw[← hn];exact AM9 mk sz k l]at ht;exact keepG (fun f h=>h) f4 ht
  ·have hin:i<n:=by omega
   have h3:=zX (l:=l) (i:=i) (by omega);have hm3:=zU h3;generalize l[i]'(by omega)=x at h3 hm3;have hml:=dV mk sz l k;rw[AD9 mk sz h3,yB,zC3]at ht;simp only[yS,z8]at ht;have hA:(((fP mk sz k l).take i).map cells).flatten.length=kk*i:=by rw[M5 cells hW];simp;rw[yM (by omega)]
   have hB:(cells x).length=kk:=hW x;obtain⟨Ga,Gr,hG1,t1,t23⟩:=ht.split (kk*i);rw[zF0 hA]at t1;rw[zB0 hA]at t23;obtain⟨Gx,Gb,hG2,t2,t3⟩:=t23.split kk;rw[zF0 hB]at t2;rw[zB0 hB]at t3;have hlen':=g.len;have hfit':=g.fit;have hstep:kk*(i+1)=kk*i+kk:=by rw[zC];omega
   have hle1:kk*(i+1)≤kk*n:=zD kk (by omega)
   have hrowi:(us'.drop (kk*i)).take kk=((us'.take (kk*n)).drop (kk*i)).take kk:=by
    rw[xW,zK,yM (by omega)]
   have hzs:=AJ sz l h3;have hmono:=FB sz l (i+1);generalize hq:k+((bY sz (l.take i):Nat):Int)=q at g rr;refine wp_seq (wp_mono (oI hS (oF b N) (G:=G) (nt:=nt) L.okc.1 (L.xc n i (rowsOf kk n us') q hin) rr L.okc.2) ?_);rintro _ x0 y0 ⟨rfl,r0⟩;obtain⟨us0,g0,e0,f0⟩:=g.of (q':=q) (i':=i) r0.1 rfl rfl rfl rfl;have sx:∀ f∈Gx,f∈G1:=fun f hf'=>by rw[hG1,hG2];simp[hf']
   have sa:∀ f∈Ga,f∈G1:=fun f hf'=>by rw[hG1];simp[hf']
   have sb:∀ f∈Gb,f∈G1:=fun f hf'=>by rw[hG1,hG2];simp[hf']
   have hn2:(Ga++(Gx++Gb)).Nodup:=by rw[← hG2,← hG1];exact hGn
   have nd1:=zJ.1 hn2;have nd2:=zJ.1 nd1.2.1
   have hrow0:(us0.drop (kk*i)).take kk=((us'.take (kk*n)).drop (kk*i)).take kk:=by
    rw[← e0,xW,zK,yM (by omega)]
   simp only[gQ,Exit.then,Exit.inBlock];refine wp_seq ?_;refine wp_block ?_;refine wp_mono (hR x hm3 b N n i us0 _ q Gx x0 y0 hin g0 hrow0 (keepG sx f0 t2) nd2.1 (fun h=>hbG (sx b h)) (by omega) (by omega)) ?_;rintro _ x5 y5 ⟨rfl,us5,vs5,g5,e5,t5,f5⟩;simp only[Exit.then,Exit.inBlock];have r5:=g5.to;refine wp_mono (oI hS (oF b N) (G:=G) (nt:=nt) L.ok3.1 (L.x3 n i (rowsOf kk n us5) (q+sz x) (by omega)) r5 L.ok3.2) ?_;rintro _ x6 y6 ⟨rfl,r6⟩;obtain⟨us6,g6,e6,f6⟩:=g5.of (q':=q+sz x) (i':=i+1) r6.1 rfl rfl rfl rfl;simp only[gQ,Exit.then,Exit.inBlock];have hnx:k+((bY sz (l.take (i+1)):Nat):Int)=q+sz x:=by rw[hzs];push_cast;omega
   refine⟨n-(i+1),by omega,i+1,us6,rfl,by omega,?_,?_,?_⟩
   ·rw[hnx];exact g6
   ·exact((fr.trans (f0.sub (by simp))).trans (f5.sub fun f hf'=>by
     rcases zS.1 hf' with rfl|hf'
     ·simp
     ·simp[sx f hf'])).trans (f6.sub (by simp))
   ·rw[AHM mk sz h3,yB,zC3,hq];simp only[yS,z8]
    have hvs:us6.take (kk*n)=(us'.take (kk*n)).take (kk*i)++(vs5++((us'.take (kk*n)).drop (kk*i)).drop kk):=by
     rw[e6,e5,e0,yZ,xE,← hstep,zK,yM (by omega)];congr 1;have:=congrArg (List.take (kk*i)) e0;rw[zK,zK,yM (by omega)]at this;exact this
    rw[hvs]
    have bx:∀ f∈Ga++Gb,f ∉ Gx:=fun f hf' hx=>by
     rcases zV.1 hf' with h|h
     ·exact nd1.2.2 f h f (by simp[hx]) rfl
     ·exact nd2.2.2 f hx f h rfl
    have m1:TCells y6 (((fP mk sz k l).take i).map cells).flatten ((us'.take (kk*n)).take (kk*i)) Ga:=by
     have h1:=keepG sa f0 t1
     have h2:=h1.mono (w':=y5) fun f hf'=>f5.same f (tlt h1 f hf') fun hh=>by
      rcases zS.1 hh with rfl|hh
      ·exact hbG (sa _ hf')
      ·exact bx f (by simp[hf']) hh
     exact keepG sa f6 h2
    have m3:TCells y6 ((l.drop (i+1)).map cells).flatten (((us'.take (kk*n)).drop (kk*i)).drop kk) Gb:=by
     have h1:=keepG sb f0 t3
     have h2:=h1.mono (w':=y5) fun f hf'=>f5.same f (tlt h1 f hf') fun hh=>by
      rcases zS.1 hh with rfl|hh
      ·exact hbG (sb _ hf')
      ·exact bx f (by simp[hf']) hh
     exact keepG sb f6 h2
    rw[hG1,hG2];exact m1.append ((keepG sx f6 t5).append m3)
theorem wC {C:Ctx} (hS:SoundOk C) {W nt b N n i:Nat} {us:List Value} {q:Int} {a:Act} {w:World} (g:MG W nt b N n us q (.int i) a w) {id base:Nat} {ops:Array Oper} {os1:List Oper} {R1:RS} {ts tk td:Nat} {h:FuncId} {fn:Func} {tys:Array TypeId} {ty ty':TypeId} {pos pos':String} {after after':Array Edge} {u:Value} {s:Nat} {Fu:List Nat} {K:World→World→Prop}
 (hops:ops.toList=os1++[⟨some td, .call ⟨.value (.func h),#[.tmp ts, .tmp tk],tys⟩,ty,pos,after,none⟩,⟨some 1, .assign (.tmp td),ty',pos',after',none⟩]) (hs:ops.all (gN nt)=true) (hb:1≤base)
 (hx:dC C (aH C) ops.toList false base os1 0 ⟨aJ (MS W n (rowsOf W n us) q .junk (.int i) .junk).env,aR (MS W n (rowsOf W n us) q .junk (.int i) .junk).st,[]⟩=some R1)
 (e0:R1.env 0=.osl 0 W 0 n) (e1:R1.env 1=.int q) (e5:R1.env 5=.int i) (es:R1.env ts=.i (.lit u)) (ek:R1.env tk=.int q) (est:R1.st 0=some (.arr W (rowsOf W n us)))
 (d0:td≠0) (d1:td≠1) (d5:td≠5) (dn:td<nt) (d2:6≤nt)
 (g1:C.P.funcs[h]?=some fn) (g2:fn.name≠ "runtime.NumGoroutine") (g3:fn.body≠none)
 (hc:∀ w1,Fr w w1 [b]→Calls C.P h #[u, .int .i64 q] w1 (fun en w2=>en=.returned (.int .i64 (q+s))∧Fr w1 w2 Fu∧K w1 w2)) (hbF:b ∉ Fu) :
 (Code.region id ops false).wp C.P (fun e a' w'=>e=.normal∧∃ us',MG W nt b N n us' (q+s) (.int i) a' w'∧us'.take (W*n)=us.take (W*n)∧∃ w1,Fr w w1 [b]∧Fr w1 w' Fu∧K w1 w') a w:=by
 have r8:=g.to
 have hlen:∀ {C:Prop},ops.toList.length=os1.length+2→(ops.toList[os1.length]?=some ⟨some td, .call ⟨.value (.func h),#[.tmp ts, .tmp tk],tys⟩,ty,pos,after,none⟩→ops.toList[os1.length+1]?=some ⟨some 1, .assign (.tmp td),ty',pos',after',none⟩→C)→C:=by
  intro C _ k;refine k ?_ ?_<;>rw[hops]<;>simp
 refine AD3 hS hops (fun o ho=>yG.1 hs o ho) hx ⟨⟨r8.1.out.choose,r8.1.out.choose_spec.choose,r8.1.out.choose_spec.choose_spec.1,r8.1.out.choose_spec.choose_spec.2.1,r8.1.out.choose_spec.choose_spec.2.2.1,fun id hne=>zI (by simpa [MS]using r8.1.out.choose_spec.choose_spec.2.2.2.1 id hne) hb,r8.1.out.choose_spec.choose_spec.2.2.2.2⟩,r8.1.size,r8.1.defers⟩ ?_;intro x9 y9 r9;refine hlen (by rw[hops];simp) fun ho1 ho2=>?_
 rw[xU]at ho1 ho2
 have v48:x9.tmps.getD ts undef=u:=by
  obtain⟨⟨m,φ,_,henv,_⟩,_⟩:=r9;have h48:=henv ts;rw[es]at h48;exact h48.lit_eq
 have v49:x9.tmps.getD tk undef=.int .i64 q:=by
  obtain⟨⟨m,φ,_,henv,_⟩,_⟩:=r9;have h49:=henv tk;rw[ek]at h49;exact h49.lit_eq
 obtain⟨us9,g9,e9,f9⟩:=g.of (q':=q) (i':=i) r9 e0 e1 e5 est;refine AC3 (fn:=fn) (g:=h) ho1 g1 g2 g3 ?_
 have hargs:(#[Operand.tmp ts,Operand.tmp tk].map x9.eval)=#[u, .int .i64 q]:=by
  have e1:(#[Operand.tmp ts,Operand.tmp tk].map x9.eval)=#[x9.eval (.tmp ts),x9.eval (.tmp tk)]:=by simp
  rw[e1];show #[x9.tmps.getD ts undef,x9.tmps.getD tk undef]=_
  rw[v48,v49]
 rw[hargs];refine(hc y9 f9).mono ?_;rintro en y10 ⟨rfl,f10,hK⟩;refine⟨_,rfl,?_⟩;refine XI ho2 ?_;have hs9:nt≤x9.tmps.size:=g9.size
 have hev:(x9.put (some td) (.int .i64 (q+s))).eval (.tmp td)=.int .i64 (q+s):=by
  show(x9.put (some td) _).tmps.getD td undef=_;rw[QE (by omega),if_pos rfl]
 rw[hev];generalize hx11:((x9.put (some td) (.int .i64 (q+s))).put (some 1) (.int .i64 (q+s)))=x11;have hsz10:nt≤(x9.put (some td) (.int .i64 (q+s))).tmps.size:=by rw[nD];exact hs9
 have get11:∀ t,t≠1→t≠td→x11.tmps.getD t undef=x9.tmps.getD t undef:=fun t h1 h2=>by
  rw[← hx11,QE (by omega),if_neg h1,QE (by omega),if_neg h2]
 have hbs:b<y9.heap.size:=by obtain⟨T,hh,_⟩:=g9.row;exact(zN.1 hh).1
 refine⟨rfl,us9,⟨g9.nokn,?_,g9.len,g9.fit,g9.pos,g9.wpos,?_,?_,?_,?_,?_⟩,e9,y9,f9,f10,hK⟩
 ·obtain⟨T,hh,ho⟩:=g9.row;exact⟨T,(f10.same b hbs hbF).trans hh,ho⟩
 ·rw[get11 0 (by omega) (Ne.symm d0)];exact g9.t0
 ·rw[← hx11,QE (by omega),if_pos rfl]
 ·rw[get11 5 (by omega) (Ne.symm d5)];exact g9.t5
 ·rw[← hx11,nD,nD];exact hs9
 ·rw[← hx11,iI,iI];exact g9.defers
theorem AN3 {C:Ctx} (hS:SoundOk C) {W nt b N n i:Nat} {us us2:List Value} {q q':Int} {a:Act} {w:World} {G:List Nat} {c:Code} {R R':List (List IV)} {j9:AV} (g:MG W nt b N n us q (.int i) a w) (hR:rowsOf W n us=R) (hc:codeOk nt c=true) (hn:bK c=true)
 (hx:dY C G 1 c (MS W n R q .junk (.int i) .junk)=some (.normal,MS W n R' q' .junk (.int i) j9)) (hR':R'=rowsOf W n us2) :
 c.wp C.P (fun e a' w'=>e=.normal∧∃ us',MG W nt b N n us' q' (.int i) a' w'∧us'.take (W*n)=us2.take (W*n)∧Fr w w' [b]) a w:=by
 subst hR hR';refine wp_mono (oI hS (oF b N) (G:=G) (nt:=nt) hc hx g.to hn) ?_;rintro _ x3 y3 ⟨rfl,r3⟩;obtain⟨us',g',e',f'⟩:=g.of (q':=q') (i':=i) r3.1 rfl rfl rfl rfl;exact⟨rfl,us',g',e',f'⟩
section
variable {X:Type} {cells:X→List IV} {mk:Int→X→X} {sz:X→Nat} {W:Nat}
theorem uB (h:∀ x,1≤sz x):∀ l:List X,l.length≤bY sz l
 | []=>by simp
 | x::l=>by have:=uB h l;have:=h x;simp only[zP,bY];omega
def vH (C:Ctx) {X:Type} (cells:X→List IV) (mk:Int→X→X) (sz:X→Nat) (g:FuncId):Prop :=
 ∀ (l:List X) (w:World) (v:Value) (F:List Nat) (k:Int),TCells w [.isl (l.map cells)] [v] F→F.Nodup→0≤k→k+(bY sz l:Nat)<1000000000000→Calls C.P g #[v, .int .i64 k] w (AO8 cells mk sz w v F k l)
theorem vH.of {C:Ctx} (hS:SoundOk C) {g:FuncId} {nt:Nat} {G:List Nat} {fn:Func} {c0 c1 cc body c3 cend:Code} (hg:g≠oG) (L:MLoop C g W nt G fn c0 c1 cc body c3 cend) (hW:∀ x,(cells x).length=W) (hW0:0<W) (h1:∀ x,1≤sz x)
 (hR:∀ x,X3 C cells mk sz W nt body x):vH C cells mk sz g:=fun l w v F k hT hnd hk0 hk1 =>
 QT hS hg L hW hW0 (fun x _=>hR x) hT hnd hk0 hk1 (by have:=uB h1 l;omega)
def jG (cells:X→List IV) (W:Nat) (l:List X):Blk:=if l=[]then .arr W []else .tre W (l.map cells)
@[simp] theorem AWV (r:Nat→Option Nat) (l:List X):DN r (some (jG cells W l))=some (jG cells W l):=by unfold jG;split<;>rfl
@[simp] theorem AT3 (l:List X):iL (some (jG cells W l))=[]:=by unfold jG;split<;>rfl
theorem vR (h:∀ x,jI (cells x)=true):∀ l:List X,kG (l.map cells)=true
 | []=>rfl
 | x::l=>by simp only[yS,kG,h x,vR h l,Bool.and_self]
@[simp] theorem AZP (h:∀ x,jI (cells x)=true) (l:List X):mfB (some (jG cells W l))=true:=by
  unfold jG;split
  ·rfl
  ·simp only[mfB];exact vR h l
theorem oL {l:List X} (h:l≠[]):jG cells W l=.tre W (l.map cells):=by simp[jG,h]
theorem AHT {cells:X→List IV} (h:∀ x y,cells x=cells y→x=y):∀ {l m:List X},l.map cells=m.map cells→l=m
 | [],[],_=>rfl
 | [],_::_,e=>by simp at e
 | _::_,[],e=>by simp at e
 | x::l,y::m,e=>by
  simp only[yS,List.cons.injEq]at e;rw[h x y e.1,AHT h e.2]
theorem AKW (hi:∀ x y,cells x=cells y→x=y) {l m:List X} (h:jG cells W l=jG cells W m):l=m:=by
 unfold jG at h;split at h<;>split at h
 ·rename_i h1 h2;rw[h1,h2]
 ·cases h
 ·cases h
 ·injection h with _ h;exact AHT hi h
noncomputable def tO (cells:X→List IV) (mk:Int→X→X) (sz:X→Nat) (W:Nat):List AV→StL→Option (AV×StL)
 | [.osl 0 W' 0 n, .i (.lit (.int .i64 k))],[some B] =>
  @dite _ (W'=W∧∃ l:List X,B=jG cells W l∧l.length=n∧0≤k∧k+(bY sz l:Nat)<1000000000000) (Classical.propDecidable _)
   (fun h=>some (.int (k+(bY sz h.2.choose:Nat)),[some (jG cells W (fP mk sz k h.2.choose))])) fun _=>none
 | [.i (.isl []), .i (.lit (.int .i64 k))],[]=>tst (decide (0≤k∧k<1000000000000)) (some (.int k,[]))
 | [.nils, .i (.lit (.int .i64 k))],[]=>tst (decide (0≤k∧k<1000000000000)) (some (.int k,[]))
 | _,_=>none
theorem QU (hi:∀ x y,cells x=cells y→x=y) {l:List X} {k:Int} (h0:0≤k) (h1:k+(bY sz l:Nat)<1000000000000):tO cells mk sz W [.osl 0 W 0 l.length, .int k] [some (jG cells W l)]=some (.int (k+(bY sz l:Nat)),[some (jG cells W (fP mk sz k l))]):=by
 have h:W=W∧∃ m:List X,jG cells W l=jG cells W m∧m.length=l.length∧0≤k∧k+(bY sz m:Nat)<1000000000000:=⟨rfl,l,rfl,rfl,h0,h1⟩
 unfold tO;simp only;rw[dif_pos h];have e:l=h.2.choose:=AKW hi h.2.choose_spec.1;rw[← e]
theorem ADB {args:List AV} {st:StL} {r:AV×StL} (h:tO cells mk sz W args st=some r) :
 (∃ (l:List X) (k:Int),args=[.osl 0 W 0 l.length, .int k]∧st=[some (jG cells W l)]∧0≤k∧k+(bY sz l:Nat)<1000000000000∧r=(.int (k+(bY sz l:Nat)),[some (jG cells W (fP mk sz k l))])) ∨
 ∃ k:Int,(args=[.i (.isl []), .int k]∨args=[.nils, .int k])∧st=[]∧0≤k∧k<1000000000000∧r=(.int k,[]):=by
 unfold tO at h;split at h
 ·rename_i W' n k B;by_cases hc:W'=W∧∃ l:List X,B=jG cells W l∧l.length=n∧0≤k∧k+(bY sz l:Nat)<1000000000000
  ·rw[dif_pos hc]at h;injection h with h;obtain⟨s1,s2,s3,s4⟩:=hc.2.choose_spec;exact .inl ⟨hc.2.choose,k,by rw[s2,hc.1],by rw[← s1],s3,s4,h.symm⟩
  ·rw[dif_neg hc]at h;cases h
 ·rename_i k;obtain⟨h1,h2⟩:=aQ.1 h;injection h2 with h2;obtain⟨h3,h4⟩:=zR h1;exact .inr ⟨k, .inl rfl,rfl,h3,h4,h2.symm⟩
 ·rename_i k;obtain⟨h1,h2⟩:=aQ.1 h;injection h2 with h2;obtain⟨h3,h4⟩:=zR h1;exact .inr ⟨k, .inr rfl,rfl,h3,h4,h2.symm⟩
 ·cases h
theorem FJ {C:Ctx} {g:FuncId} (hM:vH C cells mk sz g) (hW:∀ x,(cells x).length=W) (hP:∀ x,jI (cells x)=true) {args:List AV} {stl stl':StL} {r:AV} (h:tO cells mk sz W args stl=some (r,stl')) (w:World) (m:Mem) (φ:Pl) (vs:List Value) (hi:Inv w m φ (aR stl)) (hr:RepL m φ args vs) (hb:∀ id,φ id≠none→id<stl.length) :
 Calls C.P g vs.toArray w (bS w m φ r stl'):=by
 have empty:∀ (v:Value) (k:Int) (st:StL),TCells w [.isl []] [v] []→0≤k→k<1000000000000→Inv w m φ (aR st)→(∀ id,φ id≠none→id<st.length)→Calls C.P g #[v, .int .i64 k] w (bS w m φ (.int k) st):=by
  intro v k st hT hk0 hk1 hi hb;refine(hM [] w v [] k (by simpa using hT) (by simp) hk0 (by simpa [bY]using hk1)).mono ?_;rintro en w' ⟨rfl,fr,_,_⟩;have hsame:∀ f,f<w.heap.size→w'.heap[f]?=w.heap[f]?:=fun f hf=>fr.same f hf (by simp)
  refine⟨_,m,φ,rfl,?_,⟨fun b o u e=>by rw[cell_of_heap (hsame b (hi.mem.lt e))];exact hi.mem b o u e,?_,hi.inj,(fun id b n f e ho=>zI (hi.low id b n f e ho) fr.size),hi.kn.same hsame⟩,⟨fr.size,fr.os,fr.tape,fr.output,fun b hb _=>hsame b hb, .refl _,fun _ _ _ _=>rfl, .refl _,fun _ _ _ _ e ho=>.inr (eD.not e ho)⟩,hb⟩
  ·simp[bY];exact .i (.lit _)
  ·intro id blk e;obtain⟨b,n,q1,q2,q3⟩:=hi.live id blk e;exact⟨b,n,q1,⟨q2.1,fun f hf=>zI (q2.2 f hf) fr.size⟩,q3.mono q2.1 (fun f hf=>hsame f (q2.2 f hf)) (.refl _) (.refl _) fun _ _ _=>rfl⟩
 rcases ADB h with ⟨l,k,rfl,rfl,hk0,hk1,hrr⟩|⟨k,ha,rfl,hk0,hk1,hrr⟩
 ·injection hrr with e1 e2;subst e1;subst e2
  cases hr with
  | cons ra rb =>
   cases rb with
   | cons rk rn =>
    cases rn
    cases rk with
    | i rk =>
     cases rk
     cases ra with
     | @osl _ _ _ _ cap b n ao eφ hlc hcap ha1 ha2 =>
      by_cases hl:l=[]
      ·subst hl;have:=empty (.slice ao 0 cap) k [some (jG cells W [])] (.isl0 ha2 .nil) hk0 (by simpa [bY]using hk1) hi hb;simpa [bY,fP]using this
      ·have hln:0<l.length:=xN.2 hl;have hst:aR [some (jG cells W l)] 0=some (.tre W (l.map cells)):=by rw[oL hl];rfl
       obtain⟨hown,hok⟩:=cK hi eφ hst;have hao:=ha1 (by omega);subst hao
       cases hok with
       | @tre T kk es us F hh hlen hpos hw1 hcu hfit hnd hF hm hone =>
        have hc:=hcu.pure (lN (vR hP l));have hcl:(l.map cells).length=l.length:=by simp
        have hne:l.map cells≠[]:=fun h=>by rw[h]at hcl;simp at hcl;omega
        have hT:TCells w [.isl (l.map cells)] [.slice (some ⟨b,W*0,none⟩) l.length cap] (b::F++[]):=by
         have:=TCells.isl (w:=w) (b:=b) (k:=W) (cap:=cap) (us:=us) (G:=F) hne ⟨T,hh,hone⟩ hpos hw1 (by rw[hlen];simpa using hcap) (by omega) hc .nil
         rwa [hcl]at this
        rw[zA]at hT;refine(hM l w _ (b::F) k hT hnd hk0 hk1).mono ?_;rintro en w' ⟨rfl,fr,ht,hrl⟩;have hmlen:=dV mk sz l k;have hml:fP mk sz k l≠[]:=fun h=>by rw[h]at hmlen;simp at hmlen;omega
        obtain⟨us1,hr1,hl1⟩:=hrl b cap us rfl hl ⟨T,hh,hone⟩
        have hFo:∀ f∈b::F,n.own f:=fun f hf=>by
         rcases zS.1 hf with rfl|hf
         ·exact hown.1
         ·exact hF f hf
        have hsame:∀ f,f<w.heap.size→¬ n.own f→w'.heap[f]?=w.heap[f]?:=fun f hf hno=>fr.same f hf fun h=>hno (hFo f h)
        refine⟨_,m,φ,rfl, .i (.lit _),⟨fun b' o u e=>?_,?_,?_,(fun id b n f e ho=>zI (hi.low id b n f e ho) fr.size),fun _ hp=>absurd hp zA4⟩,⟨fr.size,fr.os,fr.tape,fr.output,fun f hf hfree=>hsame f hf (hfree 0 b n eφ), .refl _,fun _ _ _ _=>rfl, .refl _,fun _ _ _ _ e ho=>.inr (eD.not e ho)⟩,hb⟩
        ·rw[cell_of_heap (hsame b' (hi.mem.lt e) fun ho=>by rw[hm b' ho o]at e;cases e)];exact hi.mem b' o u e
        ·intro id blk e
         cases id with
         | succ id=>simp[aR]at e
         | zero =>
          simp only[aR]at e;rw[oL hml]at e;injection e with e;subst e;refine⟨b,n,eφ,⟨hown.1,fun f hf=>zI (hown.2 f hf) fr.size⟩,?_⟩;have hcm:((fP mk sz k l).map cells).length=l.length:=by rw[zB1,hmlen]
          have hwid:∀ e∈(fP mk sz k l).map cells,e.length=W:=fun e he=>by
           obtain⟨x,_,rfl⟩:=yI.1 he;exact hW x
          generalize hes:(fP mk sz k l).map cells=es2 at ht hcm hwid;generalize hvv:Value.slice (some ⟨b,W*0,none⟩) l.length cap=vv at ht;generalize hFF:b::F=FF at ht
          cases ht with
          | isl0=>simp at hcm;omega
          | @isl b2 k2 cap2 _ us2 G2 _ _ F2 h1 h2 h3 h4 h5 h6 h7 h8 =>
           cases h8
           injection hvv with hv1 hv2 hv3;injection hv1 with hv1;injection hv1 with hv1;subst hv1;simp only[zA,List.cons.injEq,true_and]at hFF;subst hFF;obtain⟨T1,hr1,ho1⟩:=hr1;obtain⟨T2,h2,ho2⟩:=h2;rw[h2]at hr1;injection hr1 with hr1;injection hr1 with hr1 hr2;have hus:us2=us1:=by simpa using congrArg Array.toList hr1
           subst hus
           obtain rfl:k2=W:=by
            cases es2 with
            | nil=>exact absurd rfl h1
            | cons e es=>rw[← h4 e (by simp),hwid e (by simp)]
           exact .tre (T:=T2) h2 (by rw[hl1];exact hlen) h3 h4 h7.toU (by rw[hcm,← hcl];exact hfit) hnd hF hm ho2
        ·intro i j x x' n1 n2 b1 b2 f e1 e2 _ _ _ _
         cases i with
         | succ i=>simp[aR]at e1
         | zero=>cases j with
          | zero=>rfl
          | succ j=>simp[aR]at e2
 ·injection hrr with e1 e2;subst e1;subst e2
  rcases ha with rfl|rfl
  ·cases hr with
   | cons ra rb =>
    cases rb with
    | cons rk rn =>
     cases rn
     cases rk with
     | i rk =>
      cases rk
      cases ra with
      | i ra =>
       cases ra with
       | isl0 ao cap hc=>exact empty _ k [] (.isl0 hc .nil) hk0 hk1 hi hb
       | isl hn=>exact absurd rfl hn
  ·cases hr with
   | cons ra rb =>
    cases rb with
    | cons rk rn =>
     cases rn
     cases rk with
     | i rk =>
      cases rk
      cases ra
      exact empty _ k [] (.isl0 (fun _=>rfl) .nil) hk0 hk1 hi hb
end
end Go.Av.Mk
namespace Go.Av
mutual
def Ex.fat:Ex→Prop
 | .mk _ _ _ ks=>ks.length<9223372036854775808∧Ex.AIN ks
def Ex.AIN:List Ex→Prop
 | []=>True
 | e::es=>e.fat∧Ex.AIN es
end
theorem Ex.EB:∀ (l:List Ex),Ex.AIN l↔∀ k∈l,k.fat
 | []=>by simp[Ex.AIN]
 | e::es=>by simp[Ex.AIN,Ex.EB es]
theorem Ex.rX (e:Ex):e.fat↔e.kids.length<9223372036854775808∧∀ k∈e.kids,k.fat:=by
 cases e;simp[Ex.fat,Ex.kids,Ex.EB]
mutual
def Ex.wH (k:Int):Ex→Ex
 | .mk _ _ _ ks=>.mk k (k+1) ⟨(k+1+1).tmod 3 == 0,k+1+1+1⟩ (Ex.kT (k+1+1+1+1) ks)
def Ex.kT (k:Int):List Ex→List Ex
 | []=>[]
 | e::es=>Ex.wH k e::Ex.kT (k+4*e.size) es
end
theorem Ex.I6:∀ (l:List Ex) (k:Int),(Ex.kT k l).length=l.length
 | [],k=>by simp[Ex.kT]
 | e::es,k=>by simp[Ex.kT,Ex.I6 es]
theorem Ex.V8:∀ (l:List Ex) (k:Int) {i:Nat} {a:Ex},l[i]?=some a→(Ex.kT k l)[i]?=some (Ex.wH (k+4*(Ex.aL (l.take i):Nat)) a)
 | [],k,i,a,h=>by simp at h
 | e::es,k,0,a,h=>by simp at h;subst h;simp[Ex.kT,Ex.aL]
 | e::es,k,i+1,a,h=>by
  have:=Ex.V8 es (k+4*e.size) (i:=i) (a:=a) (by simpa using h);simp only[Ex.kT,xZ,yR,Ex.aL];rw[this];congr 2;push_cast;omega
theorem Ex.L8 (k:Int) (a:Ex):(Ex.wH k a).cells=[.int k, .int (k+1), .bool ((k+1+1).tmod 3 == 0), .int (k+1+1+1), .isl (Ex.aB (Ex.kT (k+1+1+1+1) a.kids))]:=by
 cases a;simp[Ex.wH,Ex.cells,Ex.kids]
theorem Ex.bO:∀ l:List Ex,Ex.aB l=l.map Ex.cells
 | []=>rfl
 | e::l=>by simp[Ex.aB,Ex.bO l]
theorem Pn.bO:∀ l:List Pn,Pn.aB l=l.map Pn.cells
 | []=>rfl
 | e::l=>by simp[Pn.aB,Pn.bO l]
def AS0 (n:Int):List IV:=[.int n]
def AUC (q:Int) (_:Int):Int:=q
def AP5 (_:Int):Nat:=1
theorem mF:∀ (l:List Int),aF l=l.map AS0
 | []=>rfl
 | n::l=>by have:=mF l;simp only[yS,← this];simp[aF,AS0]
abbrev tN (k:Int) (l:List Int):List Int:=Mk.fP AUC AP5 k l
theorem lX:∀ l:List Int,Mk.bY AP5 l=l.length
 | []=>rfl
 | n::l=>by simp only[Mk.bY,lX l,AP5,zP];omega
def exZ (e:Ex):Nat:=4*e.size
theorem vO:∀ l:List Ex,Mk.bY exZ l=4*Ex.aL l
 | []=>by simp[Mk.bY,Ex.aL]
 | e::l=>by simp only[Mk.bY,vO l,exZ,Ex.aL];omega
theorem DX:∀ (l:List Ex) (k:Int),Ex.kT k l=Mk.fP Ex.wH exZ k l
 | [],k=>by simp[Mk.fP,Ex.kT]
 | e::l,k=>by
  simp only[Mk.fP,Ex.kT,DX l];unfold exZ;push_cast;rfl
mutual
def Pn.mz:Pn→Nat
 | .mk _ _ es cs ks=>2+(4*Ex.aL es+(cs.length+Pn.mzL ks))
def Pn.mzL:List Pn→Nat
 | []=>0
 | p::l=>p.mz+Pn.mzL l
end
mutual
def Pn.tQ (k:Int):Pn→Pn
 | .mk _ _ es cs ks=>.mk k (k+1) (Ex.kT (k+1+1) es) (tN (k+1+1+(4*Ex.aL es:Nat)) cs) (Pn.mD (k+1+1+(4*Ex.aL es:Nat)+(cs.length:Nat)) ks)
def Pn.mD (k:Int):List Pn→List Pn
 | []=>[]
 | p::l=>Pn.tQ k p::Pn.mD (k+p.mz) l
end
theorem uI:∀ (l:List Pn) (k:Int),Pn.mD k l=Mk.fP Pn.tQ Pn.mz k l
 | [],k=>by simp[Mk.fP,Pn.mD]
 | e::l,k=>by simp only[Mk.fP,Pn.mD,uI l]
theorem vN:∀ l:List Pn,Mk.bY Pn.mz l=Pn.mzL l
 | []=>by simp[Mk.bY,Pn.mzL]
 | e::l=>by simp only[Mk.bY,vN l,Pn.mzL]
theorem Pn.AHD (p:Pn):p.mz=2+(4*Ex.aL p.exprs+(p.cols.length+Pn.mzL p.kids)):=by cases p;simp[Pn.mz,Pn.exprs,Pn.cols,Pn.kids]
theorem Pn.KZ (k:Int) (p:Pn):(Pn.tQ k p).cells=[.int k, .int (k+1), .isl (Ex.aB (Ex.kT (k+1+1) p.exprs)), .isl (aF (tN (k+1+1+(4*Ex.aL p.exprs:Nat)) p.cols)), .isl (Pn.aB (Pn.mD (k+1+1+(4*Ex.aL p.exprs:Nat)+(p.cols.length:Nat)) p.kids))]:=by
 cases p;simp[Pn.tQ,Pn.cells,Pn.exprs,Pn.cols,Pn.kids]
end Go.Av
namespace Go.Av.Mk
open Go Go.Av
section
variable {X:Type} {cells:X→List IV} {W:Nat} {z:List IV}
@[simp] theorem AJW (hp:∀ x,jI (cells x)=true) (l:List X):A7 W 0 l.length (some (jG cells W l))=some (l.map cells):=by
  unfold jG;split
  ·rename_i h;subst h;simp[A7,fM]
  ·simp[A7,vR hp l]
def wI (cells:X→List IV) (W:Nat) (z:List IV) (l:List X) (n:Nat):Nat→Blk
 | 0=>.arr W (List.replicate n z)
 | i+1=>.tre W ((l.take (i+1)).map cells++List.replicate (n-(i+1)) z)
theorem LW {l:List X} {n:Nat} (h:l.length=n):wI cells W z l n n=jG cells W l:=by
 subst h
 cases hl:l.length with
 | zero=>have:=zW.1 hl;subst this;simp[wI,jG]
 | succ n =>
  have hT:l.take (n+1)=l:=zY (by omega);have hne:l≠[]:=fun h=>by subst h;simp at hl
  simp[wI,oL hne,hT]
@[simp] theorem AUA (r:Nat→Option Nat) (l:List X) (n:Nat):∀ i,DN r (some (wI cells W z l n i))=some (wI cells W z l n i)
  | 0=>rfl
  | _+1=>rfl
@[simp] theorem APG (l:List X) (n:Nat):∀ i,iL (some (wI cells W z l n i))=[]
  | 0=>rfl
  | _+1=>rfl
theorem LV {l:List X} {n i:Nat} {a:X} (ha:l[i]?=some a) (hn:i<n) (hz:mJ z=true) (hzl:z.length=(cells a).length) (hl:DY (cells a)=false) (id:Nat) (st:Store) :
 dQ id W i 0 (cells a) st (some (wI cells W z l n i))=some (upd st id (some (wI cells W z l n (i+1)))):=by
 have hil:=(zZ.1 ha).1;have hS:(l.take i).map cells++[cells a]=(l.take (i+1)).map cells:=by rw[aN ha];simp
 have hD:((l.take i).map cells).length=i:=by simp;omega
 have g1:=vY (n:=n) (z:=z) hD hn;have g2:=vX (n:=n) (z:=z) (x:=cells a) hD hn;have g3:splice z 0 (cells a)=some (cells a):=jP hzl;have g4:splice (mM z) 0 (cells a)=some (cells a):=jP (by rw[C8];exact hzl);rw[hS]at g2;simp only[zE4]at g1 g2
 cases i with
 | zero =>
  simp at g1 g2;simp[wI,dQ,wO,bnd,tst,g1,g3,g4,hl,g2,hz]
 | succ i=>simp[wI,dQ,bnd,tst,g1,g2,g3]
end
end Go.Av.Mk
namespace Go.Av
@[simp] theorem Ex.lM (e:Ex):jI e.cells=true:=by rw[Ex.aA];rfl
@[simp] theorem Pn.lM (p:Pn):jI p.cells=true:=by rw[Pn.aA];rfl
@[simp] theorem Ex.BQ:∀ l:List Ex,kG (Ex.aB l)=true
  | []=>by simp[Ex.aB,kG]
  | e::l=>by simp[Ex.aB,kG,Ex.BQ l]
@[simp] theorem Pn.BQ:∀ l:List Pn,kG (Pn.aB l)=true
  | []=>by simp[Pn.aB,kG]
  | p::l=>by simp[Pn.aB,kG,Pn.BQ l]
def tP (p:Pn) (j:Nat):AV:=.agg [.int p.kind, .int p.table, .osl j 5 0 p.exprs.length, .osl (j+1) 1 0 p.cols.length, .osl (j+2) 5 0 p.kids.length]
def tPB (p:Pn):StL:=[some (Mk.jG Ex.cells 5 p.exprs),some (.arr 1 (aF p.cols)),some (Mk.jG Pn.cells 5 p.kids)]
def tE (e:Ex) (j:Nat):AV:=.agg [.int e.kind, .int e.col, .bool e.val.null, .int e.val.n, .osl j 5 0 e.kids.length]
end Go.Av
namespace Go.Av
open Go.Av.Mk
theorem EJ (l:List Int):fM (aF l)=true:=by
 rw[mF]
 induction l with
 | nil=>rfl
 | cons n l ih=>simp only[yS,fM,ih,zE3];rfl
theorem AKP (q:Pn):kS (aR (rqB q)) (rqA q 0)=some (.agg q.cells):=by
 rw[Pn.aA];have b1:=AFY q.exprs;have b2:=AFX q.cols;have b3:=AFW q.kids;have b4:=EJ q.cols
 by_cases q1:q.exprs=[]<;>by_cases q2:q.cols=[]<;>by_cases q3:q.kids=[] <;>
  simp[rqA,rqB,q1,q2,q3,kS,sV,CO,aR,A7,bnd,tst,b4,Ex.aB,Pn.aB,aF]<;>simp_all [aF]
theorem AXF (q:Pn):mfR (rqA q 0)=true:=by
 by_cases q1:q.exprs=[]<;>by_cases q2:q.cols=[]<;>by_cases q3:q.kids=[] <;>
  simp[rqA,q1,q2,q3,mfR,AP8,mfC,jM]
theorem AHN (q:Pn):ADA (rqB q)=true:=by
 have b4:=EJ q.cols
 by_cases q1:q.exprs=[]<;>by_cases q2:q.cols=[]<;>by_cases q3:q.kids=[] <;>
  simp[rqB,q1,q2,q3,ADA,mfB,b4]
theorem AOZ (q:Pn) (n:Nat):ren (fun j=>some (j+n)) (rqA q 0)=rqA q n:=by
 by_cases q1:q.exprs=[]<;>by_cases q2:q.cols=[]<;>by_cases q3:q.kids=[] <;>
  simp[rqA,q1,q2,q3,ren,DL,AU9,zE7]
theorem AA6 (q:Pn) (n:Nat):iH n (rqB q)=rqB q:=by
 by_cases q1:q.exprs=[]<;>by_cases q2:q.cols=[]<;>by_cases q3:q.kids=[] <;>
  simp[rqB,q1,q2,q3,iH,DN]
def Shp (q:Pn):Prop:=(q.exprs=[]∧q.cols=[]∧q.kids=[])∨(q.exprs≠[]∧q.cols=[]∧q.kids≠[])∨(q.exprs=[]∧q.cols=[]∧q.kids≠[])∨(q.exprs=[]∧q.cols≠[]∧q.kids≠[])
theorem NZ {ws:List Int} {lv:Nat} {p:Pn} (h:p.wd ws lv≠0):Shp p:=by
 cases mX h with
 | scan t W h0 h1 hW=>exact .inl ⟨rfl,rfl,rfl⟩
 | filt m e a h1 ha he=>exact .inr (.inl ⟨by simp[filt],rfl,by simp[filt]⟩)
 | proj m es a h1 ha hl he =>
  refine .inr (.inl ⟨fun e=>?_,rfl,by simp[proj]⟩);have:es=[]:=e;subst this;simp[bH]at hl
 | pair m k e a b h1 hk ha hb hl he=>exact .inr (.inl ⟨by simp[bB],rfl,by simp[bB]⟩)
 | union m a b h1 ha hb=>exact .inr (.inr (.inl ⟨rfl,rfl,by simp[bX]⟩))
 | dist m a h1 ha=>exact .inr (.inr (.inl ⟨rfl,rfl,by simp⟩))
 | group m cs a h1 ha hc ho =>
  by_cases hcs:cs=[]
  ·exact .inr (.inr (.inl ⟨rfl,hcs,by simp⟩))
  ·exact .inr (.inr (.inr ⟨rfl,hcs,by simp⟩))
end Go.Av
namespace Go.Av
def YF (l:List Int) (n:Int):List Int:=if l[l.findIdx fun x=>!decide (x<n)]?=some n then l else l.take (l.findIdx fun x=>!decide (x<n))++n::l.drop (l.findIdx fun x=>!decide (x<n))
mutual
def SK:List Int→Ex→List Int
 | l, .mk k c _ ks=>nM (if k=1 then YF l c else l) ks
def nM:List Int→List Ex→List Int
 | l,[]=>l
 | l,e::es=>nM (SK l e) es
end
theorem ZO (l:List Int) (e:Ex):SK l e=nM (if e.kind=1 then YF l e.col else l) e.kids:=by
 cases e;simp only[SK,Ex.kind,Ex.col,Ex.kids];congr
theorem GI:∀ (ks:List Ex) (l:List Int) (e:Ex),nM l (ks++[e])=SK (nM l ks) e
 | [],l,e=>by simp[nM]
 | a::ks,l,e=>by simp[nM,GI ks]
theorem AMO {l:List Int} {n x:Int}:x∈YF l n↔x∈l∨x=n:=by
 unfold YF;split
 ·rename_i h;constructor
  ·exact .inl
  ·rintro(h1|rfl)
   ·exact h1
   ·exact zU h
 ·have e:l.take (l.findIdx fun x=>!decide (x<n))++l.drop (l.findIdx fun x=>!decide (x<n))=l:=xV _ _;generalize l.findIdx (fun x=>!decide (x<n))=k at *
  constructor
  ·intro h
   rcases zV.1 h with h|h
   ·exact .inl (yY h)
   ·rcases zS.1 h with h|h
    ·exact .inr h
    ·exact .inl (yF h)
  ·rintro(h|rfl)
   ·rw[← e]at h
    rcases zV.1 h with h|h
    ·exact zV.2 (.inl h)
    ·exact zV.2 (.inr (zS.2 (.inr h)))
   ·exact zV.2 (.inr (zS.2 (.inl rfl)))
def Asc (l:List Int):Prop:=l.Pairwise (· < ·)
theorem AMP {l:List Int} {n:Int} (h:Asc l):Asc (YF l n):=by
 unfold YF;split
 ·exact h
 ·rename_i hne;have e:l.take (l.findIdx fun x=>!decide (x<n))++l.drop (l.findIdx fun x=>!decide (x<n))=l:=xV _ _
  have hlt:∀ x∈l.take (l.findIdx fun x=>!decide (x<n)),x<n:=by
   intro x hx;obtain⟨i,hi⟩:=List.mem_iff_getElem?.1 hx;rw[zF]at hi;split at hi
   ·rename_i hk;have:=List.not_of_lt_findIdx hk;rw[zX (by have:=zD9 (xs:=l) (p:=fun x=>!decide (x<n));omega)]at hi;injection hi with hi;rw[hi]at this;simpa using this
   ·cases hi
  have hge:∀ x∈l.drop (l.findIdx fun x=>!decide (x<n)),n<x:=by
   intro x hx
   rcases zD5 (l.findIdx fun x=>!decide (x<n)) l.length with hk|hk
   ·have h1:=List.findIdx_getElem (w:=hk);have hd:=yD hk;have hn:l[l.findIdx fun x=>!decide (x<n)]≠n:=fun e=>hne (by rw[zX hk,e])
    rw[hd]at hx;have hs:Asc (l.drop (l.findIdx fun x=>!decide (x<n))):=List.Pairwise.sublist (List.drop_sublist _ _) h;rw[hd]at hs;have hs:=zD7.1 hs;simp at h1
    rcases zS.1 hx with rfl|hx
    ·omega
    ·have:=hs.1 x hx;omega
   ·rw[List.drop_eq_nil_of_le hk]at hx;cases hx
  generalize l.findIdx (fun x=>!decide (x<n))=k at *
  rw[← e]at h;unfold Asc at *
  rw[List.pairwise_append]at h ⊢;refine⟨h.1,zD7.2 ⟨hge,h.2.1⟩,?_⟩;intro a ha b hb
  rcases zS.1 hb with rfl|hb
  ·exact hlt a ha
  ·exact h.2.2 a ha b hb
theorem AO0:∀ (e:Ex) (l:List Int),Asc l→Asc (SK l e):=by
 intro e
 induction e using Ex.ind with
 | h k c v ks ih =>
  intro l hl;rw[ZO]
  have:∀ (xs:List Ex) (l:List Int),(∀ e∈xs,∀ l,Asc l→Asc (SK l e))→Asc l→Asc (nM l xs):=by
   intro xs
   induction xs with
   | nil=>intro l _ h;simpa [nM]using h
   | cons a xs ihx=>intro l h1 h2;exact ihx _ (fun e he=>h1 e (by simp[he])) (h1 a (by simp) l h2)
  refine this _ _ (fun e he=>ih e (by simpa [Ex.kids]using he)) ?_;split
  ·exact AMP hl
  ·exact hl
theorem AO1 {m:Int} (P:Int→Bool):∀ (e:Ex) (l:List Int),e.wf m=true→((∀ x∈SK l e,P x=true)↔(∀ x∈l,P x=true)∧e.wL P=true):=by
 intro e
 induction e using Ex.ind with
 | h k c v ks ih =>
  intro l hw;rw[ZO,Ex.mU]
  have:∀ (xs:List Ex) (l:List Int),(∀ e∈xs,e∈ks)→((∀ x∈nM l xs,P x=true)↔(∀ x∈l,P x=true)∧xs.all (Ex.wL P)=true):=by
   intro xs
   induction xs with
   | nil=>intro l _;simp[nM]
   | cons a xs ihx =>
    intro l h1;have ha:=h1 a (by simp);simp only[nM,List.all_cons,zT];rw[ihx _ fun e he=>h1 e (by simp[he]),ih a ha l (Ex.gX hw (by simpa [Ex.kids]using ha))];exact and_assoc
  simp only[Ex.kind,Ex.col,Ex.kids];rw[this ks _ fun e he=>he];by_cases h1:k=1
  ·have hk:=(Ex.mV hw (by simpa [Ex.kind]using h1)).2.2;simp only[Ex.kids]at hk;subst hk;simp only[h1,if_true,AMO];simp;constructor
   ·intro h;exact⟨fun x hx=>h x (.inl hx),h c (.inr rfl)⟩
   ·rintro⟨h2,h3⟩ x (hx|rfl)
    ·exact h2 x hx
    ·exact h3
  ·simp only[h1,if_false]
theorem AJP {l:List Int} (h:Asc l) (lo hi:Int):(∀ x∈l,lo≤x∧x≤hi)↔(l=[]∨(∃ a,l[0]?=some a∧lo≤a)∧(∃ b,l[l.length-1]?=some b∧b≤hi)):=by
 constructor
 ·intro hall
  cases hl:l with
  | nil=>exact .inl rfl
  | cons a r =>
   right;rw[← hl];have h0:l[0]?=some a:=by rw[hl];rfl
   have hk:l.length-1<l.length:=by rw[hl];simp
   exact⟨⟨a,h0,(hall a (zU h0)).1⟩,⟨l[l.length-1],zX hk,(hall _ (zA3 hk)).2⟩⟩
 ·rintro(rfl|⟨⟨a,h0,h1⟩,b,h2,h3⟩) x hx
  ·cases hx
  ·obtain⟨i,hi⟩:=List.mem_iff_getElem?.1 hx
   have hil:=(zZ.1 hi)
   have h0l:=(zZ.1 h0)
   have h2l:=(zZ.1 h2)
   obtain⟨p1,rfl⟩:=hil;obtain⟨p2,rfl⟩:=h0l;obtain⟨p3,rfl⟩:=h2l;have hp:=List.pairwise_iff_getElem.1 h;constructor
   ·by_cases hz:i=0
    ·subst hz;exact h1
    ·have:=hp 0 i p2 p1 (by omega);omega
   ·by_cases hz:i=l.length-1
    ·subst hz;exact h3
    ·have:=hp i (l.length-1) p1 p3 (by omega);omega
theorem Ex.AQ6 {w w':Int} (h:w≤w'):∀ e:Ex,e.wf w=true→e.wf w'=true:=by
 intro e
 induction e using Ex.ind with
 | h k c v ks ih =>
  intro hw;rw[Ex.PW]at hw ⊢;simp only[zT]at hw ⊢;refine⟨hw.1,?_,?_⟩
  ·have h2:=hw.2.1;unfold Ex.headOk at h2 ⊢;split at h2
   ·rename_i h1;rw[if_pos h1];simp only[zT,zM]at h2 ⊢;exact⟨h2.1,by omega,h2.2.2⟩
   ·rename_i h1;rw[if_neg h1];exact h2
  ·rw[zQ]at *
   exact fun x hx=>ih x hx (hw.2.2 x hx)
theorem Ex.tL {w:Int} {e:Ex} (h:e.ok w=true):e.wf w=true∧1≤w∧w≤6:=by
 unfold Ex.ok bH at h;rw[Ex.TU]at h;simp only[zT,zM]at h;exact⟨h.2.1,h.1.1,h.1.2⟩
theorem Ex.AH6 {w:Int} {e:Ex} (h:e.ok w=true):e.wf 6=true:=Ex.AQ6 (Ex.tL h).2.2 e (Ex.tL h).1
theorem Ex.ZR {e:Ex} (h:e.wf 6=true):e.wL (fun c=>decide (0≤c∧c<6))=true:=Ex.PX e h
theorem Ex.AKN {w:Int} {e:Ex} (h:e.wf w=true):e.wL (fun c=>decide (0≤c))=true:=Ex.qM (fun c hc=>by simp only[zM]at hc ⊢;exact hc.1) e (Ex.PX e h)
theorem Ex.ABY {f g:Int→Bool}:∀ e:Ex,e.wL f=true→e.wL g=true→e.wL (fun c=>f c && g c)=true:=by
 intro e
 induction e using Ex.ind with
 | h k c v ks ih =>
  intro h1 h2;rw[Ex.mU]at *
  by_cases hk:k=1
  ·subst hk;simp only[Ex.kind,Ex.col,if_true]at h1 h2 ⊢;simp[h1,h2]
  ·simp only[Ex.kind,Ex.kids,hk,if_false,zQ]at h1 h2 ⊢;exact fun x hx=>ih x hx (h1 x hx) (h2 x hx)
theorem ANH {e:Ex} {m:Int} (h:e.wf m=true) (lo hi:Int):(SK [] e=[]∨(∃ a,(SK [] e)[0]?=some a∧lo≤a)∧(∃ b,(SK [] e)[(SK [] e).length-1]?=some b∧b≤hi-1))↔e.cin lo hi=true:=by
 rw[← AJP (AO0 e [] List.Pairwise.nil)];have:=AO1 (fun x=>decide (lo≤x∧x<hi)) e [] h;unfold Ex.cin;constructor
 ·intro h1;exact(this.1 fun x hx=>by have:=h1 x hx;simp only[zM];omega).2
 ·intro h1 x hx;have:=this.2 ⟨by simp,h1⟩ x hx;simp only[zM]at this;omega
theorem WU:∀ (e:Ex) (l:List Int),(SK l e).length≤l.length+e.size:=by
 intro e
 induction e using Ex.ind with
 | h k c v ks ih =>
  intro l;have hm:SK l (.mk k c v ks)=nM (if k=1 then YF l c else l) ks:=by simp[SK]
  have hz:(Ex.mk k c v ks).size=1+Ex.aL ks:=by simp[Ex.size]
  rw[hm,hz]
  have:∀ (xs:List Ex) (l:List Int),(∀ x∈xs,x∈ks)→(nM l xs).length≤l.length+Ex.aL xs:=by
   intro xs
   induction xs with
   | nil=>intro l _;simp[nM]
   | cons a xs ihx =>
    intro l h;have h1:=ihx (SK l a) fun x hx=>h x (by simp[hx])
    have h2:=ih a (h a (by simp)) l;simp only[nM,Ex.aL];omega
  have h2:(YF l c).length≤l.length+1:=by
   unfold YF;split
   ·omega
   ·simp only[zL,xY,zP,zA2];omega
  by_cases h1:k=1
  ·rw[if_pos h1];have:=this ks (YF l c) fun x hx=>hx
   omega
  ·rw[if_neg h1];have:=this ks l fun x hx=>hx
   omega
def okS (a:Int):Prop:=1≤a∧a≤7
theorem ANF:∀ a b:Fin 8,a.val≠0→b.val≠0→(1≤mW 8 a.val b.val∧mW 8 a.val b.val≤7)∧(1≤mW 9 a.val b.val∧mW 9 a.val b.val≤7)∧(1≤mW 3 a.val b.val∧mW 3 a.val b.val≤7)∧(1≤mW 6 a.val b.val∧mW 6 a.val b.val≤7):=by decide
theorem ATD {k a b:Int} (ha:okS a) (hb:okS b):okS (mW k a b):=by
 obtain⟨a,rfl⟩:=yN (show 0≤a by have:=ha.1;omega);obtain⟨b,rfl⟩:=yN (show 0≤b by have:=hb.1;omega);have h:=ANF ⟨a,by have:=ha.2;omega⟩ ⟨b,by have:=hb.2;omega⟩ (by have:=ha.1;simp;omega) (by have:=hb.1;simp;omega);unfold okS;by_cases h8:k=8
 ·subst h8;exact h.1
 ·by_cases h9:k=9
  ·subst h9;exact h.2.1
  ·by_cases h6:k<6
   ·have e:mW k a b=mW 3 a b:=by simp[mW,h8,h9,h6]
    rw[e];exact h.2.2.1
   ·have e:mW k a b=mW 6 a b:=by simp[mW,h8,h9,h6]
    rw[e];exact h.2.2.2
theorem AM0:∀ a:Fin 8,a.val≠0→(1≤AZG a.val∧AZG a.val≤7)∧(1≤AZF a.val∧AZF a.val≤7):=by decide
theorem AVY (v:Val):okS (stV v):=by
 unfold stV okS;split
 ·omega
 ·split<;>omega
theorem Y3 (st:List Int) (e:Ex):KR st e=if e.kind=1 then(st[e.col.toNat]?).getD 0 else if e.kind=2 then stV e.val else if e.kind=10 then AZG ((e.kids[0]?.map (KR st)).getD 0)else if e.kind=11 then AZF ((e.kids[0]?.map (KR st)).getD 0)else mW e.kind ((e.kids[0]?.map (KR st)).getD 0) ((e.kids[1]?.map (KR st)).getD 0):=by
 cases e
 simp only[KR,UW,Ex.kind,Ex.col,Ex.val,Ex.kids,xJ];congr
def AON (s:Stp):List IV:=[.int s.1, .isl (aF s.2)]
def lV (l:List Stp):List (List IV):=l.map AON
@[simp] theorem AOM (l:List Stp):(lV l).length=l.length:=by simp[lV]
@[simp] theorem AU4 (n:Nat) (l:List Stp):(lV l).take n=lV (l.take n):=by simp[lV,zE4]
theorem AG2 {l:List Stp} {i:Nat} {s:Stp} (h:l[i]?=some s):fT (lV l) i=some (AON s):=by
 rw[fA];simp[lV,h]
end Go.Av

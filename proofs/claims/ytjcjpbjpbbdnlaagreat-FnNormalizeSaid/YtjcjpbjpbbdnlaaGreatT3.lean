/- Part 3 of what the proof rests on: the executor and what it is worth, and the program's functions as it runs them. No condition. -/
import Derived.Test.YtjcjpbjpbbdnlaaGreatT2
import Derived.Test.YtjcjpbjpbbdnlaaGreatProg
import Derived.KernelRfl
set_option linter.unusedVariables false
set_option linter.unusedSimpArgs false
namespace Go.Av
def Pn.at:List Int→Pn→Option Pn
 | [],p=>some p
 | i :: r,p=>if 0≤i then (p.kids[i.toNat]?).bind (Pn.at r) else none
def Pn.put:List Int→Pn→Pn→Pn
 | [],_,q=>q
 | i :: r,p,q=>.mk p.kind p.table p.exprs p.cols (p.kids.set i.toNat (Pn.put r ((p.kids[i.toNat]?).getD Pn.zero) q))
theorem Pn.at_cons {i:Int} {r:List Int} {p a:Pn} (h:Pn.at (i :: r) p=some a):∃ n:Nat,i=n∧∃ b,p.kids[n]?=some b∧Pn.at r b=some a:=by
 unfold Pn.at at h
 split at h
 ·rename_i h0
  obtain ⟨n,rfl⟩:=Int.eq_ofNat_of_zero_le h0
  cases hb:p.kids[n]? with
  | none=>simp [hb] at h
  | some b=>exact ⟨n,rfl,b,hb,by simpa [hb] using h⟩
 ·cases h
theorem Pn.put_cons {n:Nat} {r:List Int} {p b:Pn} (q:Pn) (h:p.kids[n]?=some b):Pn.put ((n:Int) :: r) p q=.mk p.kind p.table p.exprs p.cols (p.kids.set n (Pn.put r b q)):=by
 simp [Pn.put,h]
theorem wd_congr {ws:List Int} {lv:Nat} {k t:Int} {es:List Ex} {cs:List Int} {ks ls:List Pn} (h:ks.map (Pn.wd ws (lv - 1))=ls.map (Pn.wd ws (lv - 1))):(Pn.mk k t es cs ks).wd ws lv=(Pn.mk k t es cs ls).wd ws lv:=by
 have hl:ks.length=ls.length:=by have:=congrArg List.length h; simpa using this
 have hn:ks=[] ↔ ls=[]:=by rw [← List.length_eq_zero_iff,← List.length_eq_zero_iff,hl]
 have ho:(Pn.mk k t es cs ks).headOk=(Pn.mk k t es cs ls).headOk:=by simp [Pn.headOk,hl]; congr
 simp only [Pn.wd,Pn.wdL_map,h,ho,hn]
theorem at_wd {ws : List Int} : ∀ (path : List Int) (p : Pn) (lv : Nat) (a : Pn), p.wd ws lv ≠ 0 → Pn.at path p = some a → path.length ≤ lv ∧ a.wd ws (lv - path.length) ≠ 0
  | [], p, lv, a, h, e => by simp [Pn.at] at e; subst e; exact ⟨by simp, by simpa using h⟩
  | i :: r, p, lv, a, h, e => by
    obtain ⟨n, rfl, b, hb, hr⟩ := Pn.at_cons e
    obtain ⟨m, rfl⟩ := wd_lv h (fun e => by rw [e] at hb; simp at hb)
    rw [Pn.wd_eq] at h
    obtain ⟨hc, h⟩ := ite_ne h
    have hbw : b.wd ws m ≠ 0 := by
      by_cases h1 : p.kind = 1
      · have := Pn.headOk_leaf hc.1 h1
        rw [this] at hb; simp at hb
      · simp only [h1, if_false] at h
        obtain ⟨hall, -⟩ := ite_ne h
        simpa using List.all_eq_true.1 hall b (List.mem_of_getElem? hb)
    have := at_wd r b m a hbw hr
    simp only [List.length_cons]
    exact ⟨by omega, by rw [show m + 1 - (r.length + 1) = m - r.length by omega]; exact this.2⟩
theorem put_at {q : Pn} : ∀ (path : List Int) (p a : Pn), Pn.at path p = some a → Pn.at path (Pn.put path p q) = some q
  | [], p, a, e => by simp [Pn.at, Pn.put]
  | i :: r, p, a, e => by
    obtain ⟨n, rfl, b, hb, hr⟩ := Pn.at_cons e
    have hl := (List.getElem?_eq_some_iff.1 hb).1
    rw [Pn.put_cons q hb]
    have := put_at (q := q) r b a hr
    simp [Pn.at, hl, this]
theorem put_wd {ws : List Int} {q : Pn} : ∀ (path : List Int) (p : Pn) (lv : Nat) (a : Pn), path.length ≤ lv → Pn.at path p = some a → q.wd ws (lv - path.length) = a.wd ws (lv - path.length) → (Pn.put path p q).wd ws lv = p.wd ws lv
  | [], p, lv, a, _, e, h => by simp [Pn.at] at e; subst e; simpa [Pn.put] using h
  | i :: r, p, lv, a, hl, e, h => by
    obtain ⟨n, rfl, b, hb, hr⟩ := Pn.at_cons e
    rw [Pn.put_cons q hb]
    simp only [List.length_cons] at hl h
    have := put_wd (q := q) r b (lv - 1) a (by omega) hr (by rw [show lv - 1 - r.length = lv - (r.length + 1) by omega]; exact h)
    obtain ⟨k, t, es, cs, ks⟩ := p
    apply wd_congr
    simp only [Pn.kids_mk] at hb ⊢
    rw [List.map_set, this]
    apply List.ext_getElem?
    intro j
    rw [List.getElem?_set]
    split
    · rename_i hj; subst hj
      have hlt := (List.getElem?_eq_some_iff.1 hb).1
      rw [List.getElem?_eq_getElem hlt] at hb
      injection hb with hb
      simp [hb, hlt]
    · rfl
def apI (ws:List Int) (rule:Int) (path:List Int) (p:Pn):Option Pn :=
 if path.length≤8 then (Pn.at path p).bind fun a=>(rwL ws rule (8 - path.length) a).map (Pn.put path p) else none
def apS (ws:List Int) (rule:Int) (path:List Int) (p:Pn):Option Pn :=
 (Pn.at path p).bind fun a=>(rwP ws rule a).bind fun q=>if (Pn.put path p q).wd ws 8≠0 then some (Pn.put path p q) else none
theorem ap_eq {ws : List Int} (hw : ∀ w ∈ ws, 0 ≤ w ∧ w ≤ 6) {rule : Int} {path : List Int} {p : Pn} (hp : p.wd ws 8 ≠ 0) : apI ws rule path p = apS ws rule path p := by
  unfold apI apS
  cases ha : Pn.at path p with
  | none => simp
  | some a =>
    obtain ⟨hl, hv⟩ := at_wd path p 8 a hp ha
    simp only [hl, if_true, Option.bind_some]
    unfold rwL
    cases hr : rwP ws rule a with
    | none => simp
    | some q =>
      simp only [Option.bind_some]
      have h8 : a.wd ws 8 ≠ 0 := by rw [Pn.wd_more a _ 8 hv (by omega)]; exact hv
      by_cases hq : q.wd ws (8 - path.length) = 0
      · have : (Pn.put path p q).wd ws 8 = 0 := by
          by_cases h0 : (Pn.put path p q).wd ws 8 = 0
          · exact h0
          · exact absurd hq (at_wd path _ 8 q h0 (put_at path p a ha)).2
        simp [hq, this]
      · have e := rwP_keeps hw (Wd_of hv) hr h8 (Wd_of hq)
        have : (Pn.put path p q).wd ws 8 = p.wd ws 8 := put_wd path p 8 a hl ha e
        simp [hq, this, hp]
theorem apS_wd {ws : List Int} (hw : ∀ w ∈ ws, 0 ≤ w ∧ w ≤ 6) {rule : Int} {path : List Int} {p q : Pn} (hp : p.wd ws 8 ≠ 0) (h : apS ws rule path p = some q) : q.wd ws 8 = p.wd ws 8 := by
  rw [← ap_eq hw hp] at h
  unfold apI at h
  split at h
  · rename_i hl
    cases ha : Pn.at path p with
    | none => simp [ha] at h
    | some a =>
      obtain ⟨-, hv⟩ := at_wd path p 8 a hp ha
      simp only [ha, Option.bind_some, rwL] at h
      cases hr : rwP ws rule a with
      | none => simp [hr] at h
      | some x =>
        have h8 : a.wd ws 8 ≠ 0 := by rw [Pn.wd_more a _ 8 hv (by omega)]; exact hv
        simp only [hr, Option.bind_some] at h
        by_cases hq : x.wd ws (8 - path.length) = 0
        · simp [hq] at h
        · simp only [hq, ne_eq, not_false_eq_true, if_true, Option.map_some, Option.some.injEq] at h
          subst h
          exact put_wd path p 8 a hl ha (rwP_keeps hw (Wd_of hv) hr h8 (Wd_of hq))
  · cases h
end Go.Av

namespace Go.Av
def rules:List Int:=[1,2,3,4,5,6,7,8,9,10,11]
abbrev Stp:=Int×List Int
mutual
def stI (ws:List Int):List Int→Pn→List Stp
 | path, .mk k t es cs ks=>((rules.filter fun r=>(rwL ws r (8 - path.length) (.mk k t es cs ks)).isSome).map fun r=>(r,path)) ++ stIL ws path 0 ks
def stIL (ws:List Int):List Int→Nat→List Pn→List Stp
 | _,_,[]=>[]
 | path,i,p :: ps=>stI ws (path ++ [(i:Int)]) p ++ stIL ws path (i + 1) ps
end
mutual
def pathsP:List Int→Pn→List (List Int)
 | path, .mk _ _ _ _ ks=>path :: pathsPL path 0 ks
def pathsPL:List Int→Nat→List Pn→List (List Int)
 | _,_,[]=>[]
 | path,i,p :: ps=>pathsP (path ++ [(i:Int)]) p ++ pathsPL path (i + 1) ps
end
def atS (ws:List Int) (p:Pn) (path:List Int):List Stp:=(rules.filter fun r=>(apS ws r path p).isSome).map fun r=>(r,path)
def stS (ws:List Int) (p:Pn):List Stp:=(pathsP [] p).flatMap (atS ws p)
theorem stI_eq (ws:List Int) (path:List Int) (p:Pn):stI ws path p=((rules.filter fun r=>(rwL ws r (8 - path.length) p).isSome).map fun r=>(r,path)) ++ stIL ws path 0 p.kids:=by
 obtain ⟨k,t,es,cs,ks⟩:=p; simp [stI]
theorem pathsP_eq (path:List Int) (p:Pn):pathsP path p=path :: pathsPL path 0 p.kids:=by
 obtain ⟨k,t,es,cs,ks⟩:=p; simp [pathsP]
theorem at_append : ∀ (path : List Int) (p a : Pn) (r : List Int), Pn.at path p = some a → Pn.at (path ++ r) p = Pn.at r a
  | [], p, a, r, e => by simp [Pn.at] at e; subst e; rfl
  | i :: s, p, a, r, e => by
    obtain ⟨n, rfl, b, hb, hr⟩ := Pn.at_cons e
    have := at_append s b a r hr
    simp [Pn.at, hb, this]
theorem stI_stS {ws : List Int} (hw : ∀ w ∈ ws, 0 ≤ w ∧ w ≤ 6) {p : Pn} (hp : p.wd ws 8 ≠ 0) : ∀ (a : Pn) (path : List Int), Pn.at path p = some a → stI ws path a = (pathsP path a).flatMap (atS ws p) := by
  intro a
  induction a using Pn.ind with
  | h k t es cs ks ih =>
    intro path ha
    have hl := (at_wd path p 8 _ hp ha).1
    rw [stI_eq, pathsP_eq, List.flatMap_cons]
    congr 1
    · unfold atS
      congr 1
      apply List.filter_congr
      intro r _
      rw [← ap_eq hw hp]
      simp [apI, hl, ha]
    · simp only [Pn.kids_mk]
      have : ∀ (l : List Pn) (i : Nat), (∀ j b, l[j]? = some b → b ∈ ks ∧ ks[i + j]? = some b) → stIL ws path i l = (pathsPL path i l).flatMap (atS ws p) := by
        intro l
        induction l with
        | nil => intro i _; simp [stIL, pathsPL]
        | cons b l ihl =>
          intro i h
          simp only [stIL, pathsPL, List.flatMap_append]
          have h0 := h 0 b (by simp)
          rw [ih b h0.1 (path ++ [(i : Int)]) (by rw [at_append path p _ _ ha]; simp [Pn.at]; simpa using h0.2), ihl (i + 1) fun j c hj => by have := h (j + 1) c (by simpa using hj); rw [show i + 1 + j = i + (j + 1) by omega]; exact this]
      exact this ks 0 fun j b hj => ⟨List.mem_of_getElem? hj, by simpa using hj⟩
theorem steps_same {ws:List Int} (hw:∀ w∈ws,0≤w∧w≤6) {p:Pn} (hp:p.wd ws 8≠0):stI ws [] p=stS ws p:=stI_stS hw hp p [] rfl
theorem pathsP_mem : ∀ (a : Pn) (path q : List Int), q ∈ pathsP path a ↔ ∃ r, q = path ++ r ∧ (Pn.at r a).isSome = true := by
  intro a
  induction a using Pn.ind with
  | h k t es cs ks ih =>
    intro path q
    rw [pathsP_eq]
    simp only [Pn.kids_mk, List.mem_cons]
    have : ∀ (l : List Pn) (i : Nat), (∀ b ∈ l, b ∈ ks) → (q ∈ pathsPL path i l ↔ ∃ j b r, l[j]? = some b ∧ q = path ++ ((i + j : Nat) : Int) :: r ∧ (Pn.at r b).isSome = true) := by
      intro l
      induction l with
      | nil => intro i _; simp [pathsPL]
      | cons b l ihl =>
        intro i h
        simp only [pathsPL, List.mem_append]
        rw [ih b (h b (by simp)), ihl (i + 1) fun c hc => h c (by simp [hc])]
        constructor
        · rintro (⟨r, rfl, hr⟩ | ⟨j, c, r, hj, rfl, hr⟩)
          · exact ⟨0, b, r, by simp, by simp, hr⟩
          · exact ⟨j + 1, c, r, by simpa using hj, by rw [show i + 1 + j = i + (j + 1) by omega], hr⟩
        · rintro ⟨j, c, r, hj, rfl, hr⟩
          cases j with
          | zero => simp at hj; subst hj; exact .inl ⟨r, by simp, hr⟩
          | succ j => exact .inr ⟨j, c, r, by simpa using hj, by rw [show i + 1 + j = i + (j + 1) by omega], hr⟩
    rw [this ks 0 fun b hb => hb]
    constructor
    · rintro (rfl | ⟨j, b, r, hj, rfl, hr⟩)
      · exact ⟨[], by simp, by simp [Pn.at]⟩
      · exact ⟨((0 + j : Nat) : Int) :: r, rfl, by simp [Pn.at, hj, hr]⟩
    · rintro ⟨r, rfl, hr⟩
      cases r with
      | nil => left; simp
      | cons i r =>
        right
        obtain ⟨x, hx⟩ := Option.isSome_iff_exists.1 hr
        obtain ⟨n, rfl, b, hb, hb2⟩ := Pn.at_cons hx
        exact ⟨n, b, r, by simpa using hb, by simp, by rw [hb2]; rfl⟩
theorem rwF_rule {ws:List Int} {rule:Int} {e:Ex} {k q:Pn} (h:rwF ws rule e k=some q):rule∈rules:=by
 unfold rwF at h
 unfold rules
 split at h
 ·rename_i hc; simp [hc.1]
 split at h
 ·rename_i hc; simp [hc.1]
 split at h
 ·rename_i hc; simp [hc.1]
 split at h
 ·rename_i hc; simp [hc.1]
 split at h
 ·rename_i hc; simp [hc.1]
 split at h
 ·rename_i hc; simp [hc.1]
 split at h
 ·rename_i hc; simp [hc.1]
 split at h
 ·rename_i hc; simp [hc.1]
 ·cases h
theorem rwP_rule {ws:List Int} {rule:Int} {p q:Pn} (h:rwP ws rule p=some q):rule∈rules:=by
 unfold rwP at h
 split at h
 ·exact rwF_rule h
 unfold rules
 split at h
 ·rename_i hc; simp [hc.1]
 split at h
 ·rename_i hc; simp [hc.1]
 split at h
 ·rename_i hc; simp [hc.1]
 ·cases h
theorem apS_at {ws : List Int} {rule : Int} {path : List Int} {p q : Pn} (h : apS ws rule path p = some q) : rule ∈ rules ∧ (Pn.at path p).isSome = true := by
  unfold apS at h
  cases ha : Pn.at path p with
  | none => simp [ha] at h
  | some a =>
    simp only [ha, Option.bind_some] at h
    cases hr : rwP ws rule a with
    | none => simp [hr] at h
    | some x => exact ⟨rwP_rule hr, rfl⟩
theorem stS_mem {ws:List Int} {p:Pn} {s:Stp}:s∈stS ws p ↔ (apS ws s.1 s.2 p).isSome=true:=by
 unfold stS atS
 obtain ⟨r,path⟩:=s
 simp only [List.mem_flatMap,List.mem_map,List.mem_filter,Prod.mk.injEq]
 constructor
 ·rintro ⟨q,hq,r',⟨h1,h2⟩,rfl,rfl⟩; exact h2
 ·intro h
  obtain ⟨x,hx⟩:=Option.isSome_iff_exists.1 h
  obtain ⟨h1,h2⟩:=apS_at hx
  exact ⟨path,(pathsP_mem p [] path).2 ⟨path,by simp,h2⟩,r,⟨h1,h⟩,rfl,rfl⟩
end Go.Av

namespace Go.Av
mutual
def Ex.bits:Ex→Nat
 | .mk k c _ ks=>if k=1 then 2 ^ c.toNat else Ex.bitsL ks
def Ex.bitsL:List Ex→Nat
 | []=>0
 | e :: es=>Ex.bits e ||| Ex.bitsL es
end
theorem Ex.bits_col {e:Ex} (h:e.kind=1):e.bits=2 ^ e.col.toNat:=by
 cases e; simp [Ex.kind] at h; simp [Ex.bits,h,Ex.col]
theorem Ex.bits_not {e:Ex} (h:e.kind≠1):e.bits=Ex.bitsL e.kids:=by
 cases e; simp [Ex.kind] at h; simp [Ex.bits,h,Ex.kids]
theorem Ex.bitsL_snoc:∀ (l:List Ex) (e:Ex),Ex.bitsL (l ++ [e])=Ex.bitsL l ||| e.bits
 | [],e=>by simp [Ex.bitsL]
 | a :: l,e=>by simp [Ex.bitsL,Ex.bitsL_snoc l e,Nat.or_assoc]
theorem Ex.bitsL_lt {n : Nat} : ∀ {l : List Ex}, (∀ e ∈ l, e.bits < 2 ^ n) → Ex.bitsL l < 2 ^ n
  | [], _ => by simp [Ex.bitsL]; exact Nat.two_pow_pos n
  | a :: l, h => by
    simp only [Ex.bitsL]
    exact Nat.or_lt_two_pow (h a (by simp)) (Ex.bitsL_lt fun e he => h e (by simp [he]))
theorem Ex.bits_lt : ∀ e : Ex, e.allC (fun c => decide (0 ≤ c ∧ c < 6)) = true → e.bits < 2 ^ 6 := by
  intro e
  induction e using Ex.ind with
  | h k c v ks ih =>
    intro ha
    rw [Ex.allC_eq] at ha
    by_cases h1 : k = 1
    · subst h1
      simp only [Ex.kind, Ex.col, if_true] at ha
      have ha := of_decide_eq_true ha
      rw [Ex.bits_col (by rfl)]
      exact Nat.pow_lt_pow_right (by omega) (by simp only [Ex.col]; omega)
    · simp only [Ex.kind, Ex.kids, h1, if_false, List.all_eq_true] at ha
      rw [Ex.bits_not (by simpa [Ex.kind] using h1)]
      exact Ex.bitsL_lt fun e he => ih e he (ha e he)
theorem Ex.bitsL_bit (i:Nat):∀ l:List Ex,(Ex.bitsL l).testBit i=l.any fun e=>e.bits.testBit i
 | []=>by simp [Ex.bitsL]
 | a :: l=>by simp [Ex.bitsL,Ex.bitsL_bit i l]
theorem Ex.bits_bit (i : Nat) : ∀ e : Ex, e.allC (fun c => decide (0 ≤ c)) = true → (e.bits.testBit i = true ↔ e.allC (fun c => !decide (c = i)) = false) := by
  intro e
  induction e using Ex.ind with
  | h k c v ks ih =>
    intro ha
    rw [Ex.allC_eq] at ha ⊢
    by_cases h1 : k = 1
    · subst h1
      simp only [Ex.kind, Ex.col, if_true] at ha ⊢
      have ha := of_decide_eq_true ha
      rw [Ex.bits_col (by rfl), Nat.testBit_two_pow]
      simp only [Ex.col]
      rw [Bool.not_eq_false']
      exact ⟨fun h => decide_eq_true (by have := of_decide_eq_true h; omega), fun h => decide_eq_true (by have := of_decide_eq_true h; omega)⟩
    · simp only [Ex.kind, Ex.kids, h1, if_false, List.all_eq_true] at ha ⊢
      rw [Ex.bits_not (by simpa [Ex.kind] using h1), Ex.bitsL_bit]
      simp only [Ex.kids, List.any_eq_true]
      rw [List.all_eq_false]
      constructor
      · rintro ⟨e, he, hb⟩; exact ⟨e, he, by rw [(ih e he (ha e he)).1 hb]; simp⟩
      · rintro ⟨e, he, hb⟩; exact ⟨e, he, (ih e he (ha e he)).2 (by simpa using hb)⟩
theorem Ex.allC_forall {f : Int → Bool} : ∀ e : Ex, e.allC (fun c => decide (0 ≤ c)) = true → (e.allC f = true ↔ ∀ i : Nat, e.allC (fun c => !decide (c = i)) = false → f i = true) := by
  intro e
  induction e using Ex.ind with
  | h k c v ks ih =>
    intro ha
    rw [Ex.allC_eq] at ha ⊢
    by_cases h1 : k = 1
    · subst h1
      simp only [Ex.kind, Ex.col, if_true] at ha ⊢
      have ha := of_decide_eq_true ha
      obtain ⟨n, rfl⟩ := Int.eq_ofNat_of_zero_le ha
      constructor
      · intro h i hi
        rw [Ex.allC_eq] at hi
        simp only [Ex.kind, Ex.col, if_true] at hi
        rw [Bool.not_eq_false'] at hi
        have hi := of_decide_eq_true hi
        rw [← hi]; exact h
      · intro h
        apply h n
        rw [Ex.allC_eq]
        simp [Ex.kind, Ex.col]
    · simp only [Ex.kind, Ex.kids, h1, if_false, List.all_eq_true] at ha ⊢
      have hall : ∀ i : Nat, Ex.allC (fun c => !decide (c = i)) (.mk k c v ks) = ks.all (Ex.allC fun c => !decide (c = i)) := fun i => by
        rw [Ex.allC_eq]; simp [Ex.kind, Ex.kids, h1]
      constructor
      · intro h i hi
        rw [hall, List.all_eq_false] at hi
        obtain ⟨e, he, hb⟩ := hi
        exact (ih e he (ha e he)).1 (h e he) i (by simpa using hb)
      · intro h e he
        refine (ih e he (ha e he)).2 fun i hi => h i ?_
        rw [hall, List.all_eq_false]
        exact ⟨e, he, by simp [hi]⟩
theorem bits_hi {e : Ex} (h : e.allC (fun c => decide (0 ≤ c)) = true) (w : Nat) : e.bits / 2 ^ w = 0 ↔ e.allC (fun c => decide (c < w)) = true := by
  rw [Ex.allC_forall e h]
  constructor
  · intro h0 i hi
    have hb := (Ex.bits_bit i e h).2 hi
    simp only [decide_eq_true_eq]
    apply Classical.byContradiction
    intro hn
    have : (e.bits / 2 ^ w).testBit (i - w) = true := by
      rw [Nat.testBit_div_two_pow, show i - w + w = i by omega]; exact hb
    rw [h0] at this
    simp at this
  · intro hall
    apply Nat.eq_of_testBit_eq
    intro i
    rw [Nat.testBit_div_two_pow, Nat.zero_testBit]
    cases hb : e.bits.testBit (i + w) with
    | false => rfl
    | true =>
      have := hall (i + w) ((Ex.bits_bit (i + w) e h).1 hb)
      simp only [decide_eq_true_eq] at this
      omega
theorem bits_lo {e : Ex} (h : e.allC (fun c => decide (0 ≤ c)) = true) (w : Nat) : e.bits &&& (2 ^ w - 1) = 0 ↔ e.allC (fun c => decide ((w : Int) ≤ c)) = true := by
  rw [Ex.allC_forall e h]
  constructor
  · intro h0 i hi
    have hb := (Ex.bits_bit i e h).2 hi
    simp only [decide_eq_true_eq]
    apply Classical.byContradiction
    intro hn
    have : (e.bits &&& (2 ^ w - 1)).testBit i = true := by
      rw [Nat.testBit_and, hb, Nat.testBit_two_pow_sub_one]; simp; omega
    rw [h0] at this
    simp at this
  · intro hall
    apply Nat.eq_of_testBit_eq
    intro i
    rw [Nat.testBit_and, Nat.zero_testBit, Nat.testBit_two_pow_sub_one]
    cases hb : e.bits.testBit i with
    | false => rfl
    | true =>
      have := hall i ((Ex.bits_bit i e h).1 hb)
      simp only [decide_eq_true_eq] at this
      simp; omega
end Go.Av

namespace Go.Av
def Pn.small (p:Pn):Prop:=p.size < 1000000000∧p.thin∧p.tiny
noncomputable def copyP:List AV→StL→Option (AV×StL)
 | [.i (.iref cs)],[]=>@ite _ (∃ p:Pn,p.small∧p.cells=cs) (Classical.propDecidable _) (some (.i (.agg cs),[])) none
 | _,_=>none
theorem copyP_eq {p:Pn} (h:p.small):copyP [.i (.iref p.cells)] []=some (.i (.agg p.cells),[]):=by
 unfold copyP
 exact if_pos ⟨p,h,rfl⟩
theorem copyP_some {args:List AV} {st:StL} {r:AV×StL} (h:copyP args st=some r):∃ p:Pn,p.small∧args=[.i (.iref p.cells)]∧st=[]∧r=(.i (.agg p.cells),[]):=by
 unfold copyP at h
 split at h
 ·rename_i cs
  by_cases hc:∃ p:Pn,p.small∧p.cells=cs
  ·rw [if_pos hc] at h
   obtain ⟨p,h1,rfl⟩:=hc
   injection h with h
   exact ⟨p,h1,rfl,rfl,h.symm⟩
  ·rw [if_neg hc] at h; cases h
 ·cases h
end Go.Av

namespace Go.Av
abbrev PL:=List ((Nat×Nat)×Pn)
structure At5 (w:World) (b o:Nat) (v0 v1 v2 v3 v4:Value):Prop where
 c0:w.cell? ⟨b,o,none⟩=some v0
 c1:w.cell? ⟨b,o + 1,none⟩=some v1
 c2:w.cell? ⟨b,o + 2,none⟩=some v2
 c3:w.cell? ⟨b,o + 3,none⟩=some v3
 c4:w.cell? ⟨b,o + 4,none⟩=some v4
theorem At5.frame {w w':World} {b o:Nat} {v0 v1 v2 v3 v4:Value} (h:At5 w b o v0 v1 v2 v3 v4) (hw:∀ j,o≤j→j < o + 5→w'.cell? ⟨b,j,none⟩=w.cell? ⟨b,j,none⟩):At5 w' b o v0 v1 v2 v3 v4 :=
 ⟨(hw _ (by omega) (by omega)).trans h.c0,(hw _ (by omega) (by omega)).trans h.c1,(hw _ (by omega) (by omega)).trans h.c2,(hw _ (by omega) (by omega)).trans h.c3,(hw _ (by omega) (by omega)).trans h.c4⟩
mutual
inductive TH (w:World) (m:Mem):Pn→Nat→Nat→List Nat→PL→Prop
 | fresh {x:Pn} {b o:Nat} {v0 v1 v2 v3 v4:Value}:ICells m x.cells [v0,v1,v2,v3,v4]→At5 w b o v0 v1 v2 v3 v4→TH w m x b o [] [((b,o),x)]
 | leaf {k t:Int} {es:List Ex} {cs:List Int} {b o:Nat} {vE vC:Value} {ao:Option Addr} {cap:Nat}:At5 w b o (.int .i64 k) (.int .i64 t) vE vC (.slice ao 0 cap)→IRep m (.isl (Ex.cellsL es)) vE→IRep m (.isl (intsL cs)) vC→(ao=none→cap=0)→TH w m (.mk k t es cs []) b o [] []
 | node {k t:Int} {es:List Ex} {cs:List Int} {ks:List Pn} {b o b' cap:Nat} {vE vC:Value} {F:List Nat} {H:PL}:At5 w b o (.int .i64 k) (.int .i64 t) vE vC (.slice (some ⟨b',0,none⟩) ks.length cap)→IRep m (.isl (Ex.cellsL es)) vE→IRep m (.isl (intsL cs)) vC→ks≠[]→ks.length≤cap→THL w m ks b' 0 F H→TH w m (.mk k t es cs ks) b o (b' :: F) H
inductive THL (w:World) (m:Mem):List Pn→Nat→Nat→List Nat→PL→Prop
 | nil (b o:Nat):THL w m [] b o [] []
 | cons {x:Pn} {xs:List Pn} {b o:Nat} {F1 F2:List Nat} {H1 H2:PL}:TH w m x b o F1 H1→THL w m xs b (o + 5) F2 H2→THL w m (x :: xs) b o (F1 ++ F2) (H1 ++ H2)
end
mutual
theorem TH.frame {w w':World} {m m':Mem} (hm:MLe m m') {x:Pn} {b o:Nat} {F:List Nat} {H:PL} (hw:∀ j,o≤j→j < o + 5→w'.cell? ⟨b,j,none⟩=w.cell? ⟨b,j,none⟩) (hF:∀ f∈F,∀ j,w'.cell? ⟨f,j,none⟩=w.cell? ⟨f,j,none⟩):TH w m x b o F H→TH w' m' x b o F H
 | .fresh h1 h2=>.fresh (h1.mono hm) (h2.frame hw)
 | .leaf h1 h2 h3 h4=>.leaf (h1.frame hw) (h2.mono hm) (h3.mono hm) h4
 | .node h1 h2 h3 h4 h5 h6=>.node (h1.frame hw) (h2.mono hm) (h3.mono hm) h4 h5 (THL.frame hm (fun j _ _=>hF _ (by simp) j) (fun f hf=>hF f (by simp [hf])) h6)
theorem THL.frame {w w':World} {m m':Mem} (hm:MLe m m') {xs:List Pn} {b o:Nat} {F:List Nat} {H:PL} (hw:∀ j,o≤j→j < o + 5 * xs.length→w'.cell? ⟨b,j,none⟩=w.cell? ⟨b,j,none⟩) (hF:∀ f∈F,∀ j,w'.cell? ⟨f,j,none⟩=w.cell? ⟨f,j,none⟩):THL w m xs b o F H→THL w' m' xs b o F H
 | .nil b o=>.nil b o
 | .cons h1 h2=>.cons (TH.frame hm (fun j l1 l2=>hw j l1 (by simp only [List.length_cons]; omega)) (fun f hf=>hF f (by simp [hf])) h1) (THL.frame hm (fun j l1 l2=>hw j (by omega) (by simp only [List.length_cons]; omega)) (fun f hf=>hF f (by simp [hf])) h2)
end
mutual
theorem TH.holes {w : World} {m : Mem} {x : Pn} {b o : Nat} {F : List Nat} {H : PL} : TH w m x b o F H → ∀ q ∈ H, q.1 = (b, o) ∨ q.1.1 ∈ F
  | .fresh _ _, q, hq => by simp at hq; subst hq; exact .inl rfl
  | .leaf _ _ _ _, q, hq => by simp at hq
  | .node _ _ _ _ _ h6, q, hq => by
    rcases THL.holes h6 q hq with ⟨h, _⟩ | h
    · exact .inr (by simp [h])
    · exact .inr (by simp [h])
theorem THL.holes {w : World} {m : Mem} {xs : List Pn} {b o : Nat} {F : List Nat} {H : PL} : THL w m xs b o F H → ∀ q ∈ H, (q.1.1 = b ∧ o ≤ q.1.2) ∨ q.1.1 ∈ F
  | .nil _ _, q, hq => by simp at hq
  | .cons h1 h2, q, hq => by
    rcases List.mem_append.1 hq with h | h
    · rcases TH.holes h1 q h with e | e
      · exact .inl ⟨by rw [e], by rw [e]; exact Nat.le_refl _⟩
      · exact .inr (by simp [e])
    · rcases THL.holes h2 q h with ⟨e1, e2⟩ | e
      · exact .inl ⟨e1, by omega⟩
      · exact .inr (by simp [e])
end
mutual
theorem TH.fill {w w' : World} {m m' : Mem} (hm : MLe m m') {bq oq : Nat} {y : Pn} {G : List Nat} {HY : PL} (hy : TH w' m' y bq oq G HY) {x : Pn} {b o : Nat} {F : List Nat} {H : PL} : TH w m x b o F H → b ∉ F → F.Nodup → ((bq, oq), y) ∈ H →
    (∀ f ∈ b :: F, ∀ j, (f ≠ bq ∨ j < oq ∨ oq + 5 ≤ j) → w'.cell? ⟨f, j, none⟩ = w.cell? ⟨f, j, none⟩) → ∃ F' H', TH w' m' x b o F' H' ∧ F'.Perm (F ++ G) ∧ (((bq, oq), y) :: H').Perm (H ++ HY)
  | .fresh _ _, _, _, hq, _ => by
    simp at hq
    obtain ⟨⟨rfl, rfl⟩, rfl⟩ := hq
    exact ⟨G, HY, hy, by simp, by simp⟩
  | .leaf _ _ _ _, _, _, hq, _ => by simp at hq
  | .node h1 h2 h3 h4 h5 h6, hb, hn, hq, hw => by
    rename_i b' cap vE vC F
    have hb' : b' ∉ F := (List.nodup_cons.1 hn).1
    have hne : b ≠ bq := by
      intro e
      rcases THL.holes h6 _ hq with ⟨e1, _⟩ | e1
      · exact hb (by simp at e1; simp [e, e1])
      · exact hb (by simp at e1; simp [e, e1])
    obtain ⟨F', H', k1, k2, k3⟩ := THL.fill hm hy h6 hb' (List.nodup_cons.1 hn).2 hq (fun f hf j hj => hw f (by rcases List.mem_cons.1 hf with rfl | h <;> simp [*]) j hj)
    exact ⟨b' :: F', H', .node (h1.frame fun j _ _ => hw b (by simp) j (.inl hne)) (h2.mono hm) (h3.mono hm) h4 h5 k1, k2.cons _, k3⟩
theorem THL.fill {w w' : World} {m m' : Mem} (hm : MLe m m') {bq oq : Nat} {y : Pn} {G : List Nat} {HY : PL} (hy : TH w' m' y bq oq G HY) {xs : List Pn} {b o : Nat} {F : List Nat} {H : PL} : THL w m xs b o F H → b ∉ F → F.Nodup → ((bq, oq), y) ∈ H →
    (∀ f ∈ b :: F, ∀ j, (f ≠ bq ∨ j < oq ∨ oq + 5 ≤ j) → w'.cell? ⟨f, j, none⟩ = w.cell? ⟨f, j, none⟩) → ∃ F' H', THL w' m' xs b o F' H' ∧ F'.Perm (F ++ G) ∧ (((bq, oq), y) :: H').Perm (H ++ HY)
  | .nil _ _, _, _, hq, _ => by simp at hq
  | .cons (F1 := F1) (F2 := F2) (H1 := H1) (H2 := H2) h1 h2, hb, hn, hq, hw => by
    have hb1 : b ∉ F1 := fun h => hb (by simp [h])
    have hb2 : b ∉ F2 := fun h => hb (by simp [h])
    obtain ⟨n1, n2, n3⟩ := List.nodup_append.1 hn
    rcases List.mem_append.1 hq with h | h
    · obtain ⟨F', H', k1, k2, k3⟩ := TH.fill hm hy h1 hb1 n1 h (fun f hf j hj => hw f (by rcases List.mem_cons.1 hf with rfl | h <;> simp [*]) j hj)
      refine ⟨F' ++ F2, H' ++ H2, .cons k1 (THL.frame hm (fun j l1 l2 => hw b (by simp) j ?_) (fun f hf j => hw f (by simp [hf]) j (.inl ?_)) h2), ?_, ?_⟩
      · rcases TH.holes h1 _ h with e | e
        · simp at e; exact .inr (.inr (by omega))
        · exact .inl fun e2 => hb1 (by simp at e; rw [e2]; exact e)
      · rcases TH.holes h1 _ h with e | e
        · simp at e; intro e2; rw [e2, e.1] at hf; exact hb2 hf
        · simp at e; intro e2; rw [e2] at hf; exact n3 _ e _ hf rfl
      · have := k2.append_right F2
        refine this.trans ?_
        rw [List.append_assoc, List.append_assoc]
        exact (List.perm_append_comm (l₁ := G) (l₂ := F2)).append_left F1
      · have := k3.append_right H2
        rw [List.cons_append] at this
        refine this.trans ?_
        rw [List.append_assoc, List.append_assoc]
        exact (List.perm_append_comm (l₁ := HY) (l₂ := H2)).append_left H1
    · obtain ⟨F', H', k1, k2, k3⟩ := THL.fill hm hy h2 hb2 n2 h (fun f hf j hj => hw f (by rcases List.mem_cons.1 hf with rfl | h <;> simp [*]) j hj)
      refine ⟨F1 ++ F', H1 ++ H', .cons (TH.frame hm (fun j l1 l2 => hw b (by simp) j ?_) (fun f hf j => hw f (by simp [hf]) j (.inl ?_)) h1) k1, ?_, ?_⟩
      · rcases THL.holes h2 _ h with ⟨e1, e2⟩ | e
        · simp at e2; exact .inr (.inl (by omega))
        · exact .inl fun e2 => hb2 (by simp at e; rw [e2]; exact e)
      · rcases THL.holes h2 _ h with ⟨e1, _⟩ | e
        · simp at e1; intro e2; rw [e2, e1] at hf; exact hb1 hf
        · simp at e; intro e2; rw [e2] at hf; exact n3 _ hf _ e rfl
      · rw [List.append_assoc]; exact k2.append_left F1
      · rw [List.append_assoc]
        refine List.perm_middle.symm.trans ?_
        exact k3.append_left H1
end
mutual
theorem TH.iat {w : World} {m m' : Mem} (hm : MLe m m') {x : Pn} {b o : Nat} {F : List Nat} : TH w m x b o F [] → (∀ j, o ≤ j → j < o + 5 → m' b j = w.cell? ⟨b, j, none⟩) → (∀ f ∈ F, ∀ j, m' f j = w.cell? ⟨f, j, none⟩) → IAt m' b o x.cells
  | .leaf h1 h2 h3 h4, hb, hF => by
    rw [Pn.cells_mk]
    have o2 : (∀ es v, IRep m (.isl es) v → v.oneCell' = true) := fun es v h => by cases h <;> rfl
    exact .cons ((hb _ (by omega) (by omega)).trans h1.c0) (.lit _) rfl (.cons ((hb _ (by omega) (by omega)).trans h1.c1) (.lit _) rfl (.cons ((hb _ (by omega) (by omega)).trans h1.c2) (h2.mono hm) (o2 _ _ h2) (.cons ((hb _ (by omega) (by omega)).trans h1.c3) (h3.mono hm) (o2 _ _ h3) (.cons ((hb _ (by omega) (by omega)).trans h1.c4) (.isl0 _ _ h4) rfl (.nil _ _)))))
  | .node h1 h2 h3 h4 h5 h6, hb, hF => by
    rename_i ks b' cap vE vC F
    rw [Pn.cells_mk]
    have o2 : (∀ es v, IRep m (.isl es) v → v.oneCell' = true) := fun es v h => by cases h <;> rfl
    have he := THL.iel hm h6 (fun j _ _ => hF b' (by simp) j) (fun f hf => hF f (by simp [hf]))
    have hl : (Pn.cellsL ks).length = ks.length := by simp
    have hn : Pn.cellsL ks ≠ [] := fun e => by rw [e] at hl; simp at hl; exact h4 (List.length_eq_zero_iff.1 hl.symm)
    have hk : IRep m' (.isl (Pn.cellsL ks)) (.slice (some ⟨b', 0, none⟩) ks.length cap) := by
      have := IRep.isl (cap := cap) hn he (by omega)
      rwa [hl] at this
    exact .cons ((hb _ (by omega) (by omega)).trans h1.c0) (.lit _) rfl (.cons ((hb _ (by omega) (by omega)).trans h1.c1) (.lit _) rfl (.cons ((hb _ (by omega) (by omega)).trans h1.c2) (h2.mono hm) (o2 _ _ h2) (.cons ((hb _ (by omega) (by omega)).trans h1.c3) (h3.mono hm) (o2 _ _ h3) (.cons ((hb _ (by omega) (by omega)).trans h1.c4) hk rfl (.nil _ _)))))
theorem THL.iel {w : World} {m m' : Mem} (hm : MLe m m') {xs : List Pn} {b o : Nat} {F : List Nat} : THL w m xs b o F [] → (∀ j, o ≤ j → j < o + 5 * xs.length → m' b j = w.cell? ⟨b, j, none⟩) → (∀ f ∈ F, ∀ j, m' f j = w.cell? ⟨f, j, none⟩) → IElems m' b o 5 (Pn.cellsL xs)
  | h, hb, hF => by
    generalize hH : ([] : PL) = H at h
    cases h with
    | nil b o => simp only [Pn.cellsL]; exact .nil b o 5
    | cons h1 h2 =>
      obtain ⟨e1, e2⟩ := List.append_eq_nil_iff.1 hH.symm
      subst e1; subst e2
      simp only [Pn.cellsL]
      exact .cons (TH.iat hm h1 (fun j l1 l2 => hb j l1 (by simp only [List.length_cons]; omega)) (fun f hf => hF f (by simp [hf]))) (Pn.cells_length _) (THL.iel hm h2 (fun j l1 l2 => hb j (by omega) (by simp only [List.length_cons]; omega)) (fun f hf => hF f (by simp [hf])))
end
end Go.Av

namespace Go.Av
def Stab (R:World→Mem→Pl→Prop):Prop:=∀ w m φ w' m' φ',Adv w m φ w' m' φ'→R w m φ→R w' m' φ'
structure GR (wi:World) (mi:Mem) (nt:Nat) (ok:Nat→Prop) (R:World→Mem→Pl→Prop) (env:Nat→AV) (st:Store) (a:Act) (w:World):Prop where
 out:∃ m φ,Inv w m φ st∧(∀ t,Rep m φ (env t) (a.tmps.getD t undef))∧Adv wi mi (fun _=>none) w m φ∧(∀ id,φ id≠none→ok id)∧R w m φ
 size:nt≤a.tmps.size
 defers:a.defers=[]
section
variable {C:Ctx} {wi:World} {mi:Mem} {nt:Nat}
theorem GR.codeA (hS:SoundOk C) {G:List Nat} {c:Code} {S S':AS} {e:AExit} {a:Act} {w:World} {R:World→Mem→Pl→Prop} (hR:Stab R) (hc:codeOk nt c=true) (hx:execA C G S.st.length c S=some (e,S')) (h:GR wi mi nt (fun id=>id < S.st.length) R (envOf S.env) (stOf S.st) a w) (hnr:noRange c=true:=by rfl) :
  c.wp C.P (fun e' a' w'=>e'=exitOf e∧GR wi mi nt (fun id=>id < S'.st.length) R (envOf S'.env) (stOf S'.st) a' w') a w:=by
 obtain ⟨n,hn⟩:=(execA_iff _).1 hx
 obtain ⟨⟨m,φ,h1,h2,h3,h4,h5⟩,h6,h7⟩:=h
 refine wpIn_wide.1 (wpIn_mono (exec_sound (ρ:=none) hS.ctx (callA_sound hS) (hS.draw _ (callA_sound hS)) h4 n c S S' e [] a w hc (.inl rfl) hn ⟨⟨⟨m,φ,h1,h2, .refl _ _ _,h4, .nil _ _ _⟩,h6,h7⟩,Nat.le_refl _⟩) ?_)
 rintro e' a' w' ⟨rfl,ds,k,kd⟩
 have kd:=kd hnr
 subst kd
 obtain ⟨⟨⟨m',φ',k1,k2,k3,k4,_⟩,k5,k6⟩,_⟩:=k
 exact ⟨rfl,⟨⟨m',φ',k1,k2,h3.trans k3,k4,hR _ _ _ _ _ _ k3 h5⟩,k5,k6⟩⟩
theorem GR.turn {ok ok':Nat→Prop} {R R':World→Mem→Pl→Prop} {env env':Nat→AV} {st st':Store} {a:Act} {w:World} (h:GR wi mi nt ok R env st a w)
  (f:∀ m φ,Inv w m φ st→(∀ t,Rep m φ (env t) (a.tmps.getD t undef))→Adv wi mi (fun _=>none) w m φ→(∀ id,φ id≠none→ok id)→R w m φ →
   ∃ m' φ',Inv w m' φ' st'∧(∀ t,Rep m' φ' (env' t) (a.tmps.getD t undef))∧Adv wi mi (fun _=>none) w m' φ'∧(∀ id,φ' id≠none→ok' id)∧R' w m' φ'):GR wi mi nt ok' R' env' st' a w:=by
 obtain ⟨⟨m,φ,h1,h2,h3,h4,h5⟩,h6,h7⟩:=h
 exact ⟨f m φ h1 h2 h3 h4 h5,h6,h7⟩
def cutP (st':Store) (φ:Pl):Pl:=fun i=>match st' i with
 | some _=>φ i
 | none=>none
theorem cutP_some {st':Store} {φ:Pl} {i:Nat} {p:Nat×Ext} (h:cutP st' φ i=some p):φ i=some p∧st' i≠none:=by
 unfold cutP at h
 cases e:st' i with
 | none=>rw [e] at h; cases h
 | some _=>rw [e] at h; exact ⟨h,by simp⟩
theorem cutP_eq {st':Store} {φ:Pl} {i:Nat} (h:st' i≠none):cutP st' φ i=φ i:=by
 unfold cutP
 cases e:st' i with
 | none=>exact absurd e h
 | some _=>rfl
theorem Inv.cut {w:World} {m:Mem} {φ:Pl} {st st':Store} (hi:Inv w m φ st) (hst:∀ i blk,st' i=some blk→st i=some blk∧LitBlk blk):Inv w m (cutP st' φ) st':=by
 refine ⟨hi.mem,?_,?_,fun i b n f e ho=>hi.low i b n f (cutP_some e).1 ho⟩
 ·intro i blk hb
  obtain ⟨h1,h2⟩:=hst i blk hb
  obtain ⟨b,n,q1,q2,q3⟩:=hi.live i blk h1
  exact ⟨b,n,by rw [cutP_eq (by rw [hb]; simp)]; exact q1,q2,q3.mlit h2 rfl fun o h=>h⟩
 ·intro i j b bx n n2 b1 b2 f h1 h2 h3 h4 o1 o2
  exact hi.inj i j b bx n n2 b1 b2 f (hst i b1 h1).1 (hst j b2 h2).1 (cutP_some h3).1 (cutP_some h4).1 o1 o2
theorem Adv.cut {w:World} {m:Mem} {φ:Pl} {st':Store} (h:Adv wi mi (fun _=>none) w m φ):Adv wi mi (fun _=>none) w m (cutP st' φ) :=
 ⟨h.size,h.os,h.tape,h.output,h.block,h.mle,h.mnew,(fun _ _ _ h=>by cases h),fun i b n f e ho=>h.pnew i b n f (cutP_some e).1 ho⟩
theorem Free.cut {φ:Pl} {st':Store} {f:Nat} (h:Free φ f):Free (cutP st' φ) f:=fun i b n e=>h i b n (cutP_some e).1
theorem free_dropped {w : World} {m : Mem} {φ : Pl} {st st' : Store} {id b f : Nat} {n : Ext} {blk : Blk} (hi : Inv w m φ st) (hst : ∀ i blk, st' i = some blk → st i = some blk ∧ LitBlk blk) (hid : st id = some blk) (hn : st' id = none) (e : φ id = some (b, n)) (ho : n.own f) : Free (cutP st' φ) f := by
  intro i r n' e' ho'
  obtain ⟨h1, h2⟩ := cutP_some e'
  cases hb : st' i with
  | none => exact h2 hb
  | some blk' =>
    have := hi.inj i id r b n' n blk' blk f (hst i blk' hb).1 hid h1 e ho' ho
    rw [this, hn] at hb; cases hb
theorem new_owned {w:World} {m:Mem} {φ:Pl} {id b f:Nat} {n:Ext} (h:Adv wi mi (fun _=>none) w m φ) (e:φ id=some (b,n)) (ho:n.own f):wi.heap.size≤f:=by
 rcases h.pnew id b n f e ho with h | h
 ·exact h
 ·exact absurd (fun id b n e=>by cases e) h
theorem Inv.adopt {w:World} {m:Mem} {φ:Pl} {st:Store} {id b:Nat} {cs:List AV} {vs:List Value} {T:TypeId} (hi:Inv w m φ st) (h1:st id=none) (h2:φ id=none) (hf:Free φ b) (hm:∀ o,m b o=none) (hh:w.heap[b]?=some (.cells vs.toArray T (0,0)))
  (hc:RepC m (upd φ id (some (b,one b vs.length))) cs vs):Inv w m (upd φ id (some (b,one b vs.length))) (upd st id (some (.box cs))):=by
 have hlt:b < w.heap.size:=(Array.getElem?_eq_some_iff.1 hh).1
 have hp:PLe φ (upd φ id (some (b,one b vs.length))):=fun i r n e=>by
  refine ⟨n,?_,rfl,fun _ h=>h⟩
  have:i≠id:=fun h=>by rw [h,h2] at e; cases e
  simp [upd,this,e]
 refine ⟨hi.mem,?_,?_,?_⟩
 ·intro i blk hb
  by_cases hid:i=id
  ·subst hid
   simp [upd] at hb
   subst hb
   exact ⟨b,one b vs.length,by simp [upd],⟨rfl,fun f hf=>by rw [show f=b from hf]; exact hlt⟩, .box hh rfl hc hm⟩
  ·simp [upd,hid] at hb
   obtain ⟨r,n,q1,q2,q3⟩:=hi.live i blk hb
   exact ⟨r,n,by simp [upd,hid,q1],q2,q3.mono q2.1 (fun _ _=>rfl) (.refl _) hp fun _ _ _=>rfl⟩
 ·intro i j r r' n n' b1 b2 f e1 e2 p1 p2 o1 o2
  by_cases hi1:i=id
  ·by_cases hj1:j=id
   ·rw [hi1,hj1]
   ·subst hi1
    simp [upd] at p1
    simp [upd,hj1] at p2
    obtain ⟨rfl,rfl⟩:=p1
    rw [show f=_ from o1] at o2
    exact absurd o2 (hf j r' n' p2)
  ·by_cases hj1:j=id
   ·subst hj1
    simp [upd] at p2
    simp [upd,hi1] at p1
    obtain ⟨rfl,rfl⟩:=p2
    rw [show f=_ from o2] at o1
    exact absurd o1 (hf i r n p1)
   ·simp [upd,hi1] at e1 p1
    simp [upd,hj1] at e2 p2
    exact hi.inj i j r r' n n' b1 b2 f e1 e2 p1 p2 o1 o2
 ·intro i r n f e ho
  by_cases hid:i=id
  ·subst hid
   simp [upd] at e
   obtain ⟨rfl,rfl⟩:=e
   rw [show f=_ from ho]; exact hlt
  ·simp [upd,hid] at e
   exact hi.low i r n f e ho
theorem Adv.adopt {w:World} {m:Mem} {φ:Pl} {id b k:Nat} (h:Adv wi mi (fun _=>none) w m φ) (hb:wi.heap.size≤b):Adv wi mi (fun _=>none) w m (upd φ id (some (b,one b k))):=by
 refine ⟨h.size,h.os,h.tape,h.output,h.block,h.mle,h.mnew,(fun _ _ _ h=>by cases h),fun i r n f e ho=>?_⟩
 by_cases hid:i=id
 ·subst hid
  simp [upd] at e
  obtain ⟨rfl,rfl⟩:=e
  rw [show f=_ from ho]; exact .inl hb
 ·simp [upd,hid] at e
  exact h.pnew i r n f e ho
def litVs (vs:List Value):List AV:=vs.map fun v=>.i (.lit v)
theorem litVs_rep {m:Mem} {φ:Pl}:∀ {vs:List Value},(∀ v∈vs,v.oneCell'=true)→RepC m φ (litVs vs) vs
 | [],_=>.nil
 | v :: vs,h=>.cons (.i (.lit v)) (h v (by simp)) (litVs_rep fun u hu=>h u (by simp [hu]))
theorem litVs_eq {m:Mem} {φ:Pl}:∀ {vs us:List Value},RepC m φ (litVs vs) us→us=vs
 | [],_, .nil=>rfl
 | v :: vs,_, .cons a _ b=>by rw [a.lit_eq,litVs_eq b]
theorem repC_append {m : Mem} {φ : Pl} : ∀ {a b : List AV} {vs : List Value}, RepC m φ (a ++ b) vs → ∃ us xs, vs = us ++ xs ∧ RepC m φ a us ∧ RepC m φ b xs
  | [], b, vs, h => ⟨[], vs, rfl, .nil, h⟩
  | c :: a, b, _, .cons h1 h2 h3 => by
    obtain ⟨us, xs, rfl, k1, k2⟩ := repC_append h3
    exact ⟨_ :: us, xs, rfl, .cons h1 h2 k1, k2⟩
theorem repC_join {m:Mem} {φ:Pl}:∀ {a b:List AV} {us xs:List Value},RepC m φ a us→RepC m φ b xs→RepC m φ (a ++ b) (us ++ xs)
 | [],_,_,_, .nil,h=>h
 | _ :: _,_,_,_, .cons h1 h2 h3,h=>.cons h1 h2 (repC_join h3 h)
end
end Go.Av

namespace Go.Av
structure RAW (wi:World) (root:Nat) (p:Pn) (F:List Nat) (H:PL) (w:World) (m:Mem) (φ:Pl):Prop where
 th:TH w m p root 0 F H
 nr:root ∉ F
 nd:F.Nodup
 all:∀ f∈root :: F,wi.heap.size≤f∧f < w.heap.size∧Free φ f∧(∀ o,m f o=none)∧∃ (vs:List Value) (T:TypeId),w.heap[f]?=some (.cells vs.toArray T (0,0))∧∀ v∈vs,v.oneCell'=true
theorem cells_same {w w':World} {f:Nat} (h:w'.heap[f]?=w.heap[f]?) (j:Nat):w'.cell? ⟨f,j,none⟩=w.cell? ⟨f,j,none⟩:=cell_of_heap h
theorem RAW.stab (wi:World) (root:Nat) (p:Pn) (F:List Nat) (H:PL):Stab (RAW wi root p F H):=by
 intro w m φ w' m' φ' ha h
 have hs:∀ f∈root :: F,w'.heap[f]?=w.heap[f]?:=fun f hf=>ha.block f (h.all f hf).2.1 (h.all f hf).2.2.1
 refine ⟨h.th.frame ha.mle (fun j _ _=>cells_same (hs root (by simp)) j) (fun f hf j=>cells_same (hs f (by simp [hf])) j),h.nr,h.nd,fun f hf=>?_⟩
 obtain ⟨k1,k2,k3,k4,vs,T,k5,k6⟩:=h.all f hf
 exact ⟨k1,Nat.lt_of_lt_of_le k2 ha.size,ha.range k2 k3,fun o=>(ha.mnew f k2 k3 o).trans (k4 o),vs,T,by rw [hs f hf]; exact k5,k6⟩
structure ADP (wi:World) (root:Nat) (p:Pn) (F:List Nat) (H:PL) (bq:Nat) (us:List Value) (wa:World) (ma:Mem) (w:World) (m:Mem) (φ:Pl):Prop where
 th:TH wa ma p root 0 F H
 nr:root ∉ F
 nd:F.Nodup
 le:MLe ma m
 inF:bq∈root :: F
 own:∃ n,φ 2=some (bq,n)
 row:∃ T,wa.heap[bq]?=some (.cells us.toArray T (0,0))
 bqn:wi.heap.size≤bq
 oth:∀ f∈root :: F,f≠bq→wi.heap.size≤f∧f < w.heap.size∧Free φ f∧(∀ o,m f o=none)∧w.heap[f]?=wa.heap[f]?∧∃ (vs:List Value) (T:TypeId),wa.heap[f]?=some (.cells vs.toArray T (0,0))∧∀ v∈vs,v.oneCell'=true
theorem ADP.stab (wi:World) (root:Nat) (p:Pn) (F:List Nat) (H:PL) (bq:Nat) (us:List Value) (wa:World) (ma:Mem):Stab (ADP wi root p F H bq us wa ma):=by
 intro w m φ w' m' φ' ha h
 refine ⟨h.th,h.nr,h.nd,h.le.trans ha.mle,h.inF,?_,h.row,h.bqn,fun f hf hne=>?_⟩
 ·obtain ⟨n,e⟩:=h.own
  obtain ⟨n',e',_⟩:=ha.ple _ _ _ e
  exact ⟨n',e'⟩
 ·obtain ⟨k1,k2,k3,k4,k5,k6⟩:=h.oth f hf hne
  exact ⟨k1,Nat.lt_of_lt_of_le k2 ha.size,ha.range k2 k3,fun o=>(ha.mnew f k2 k3 o).trans (k4 o),(ha.block f k2 k3).trans k5,k6⟩
theorem row_five {us:List Value} {o:Nat} {v0 v1 v2 v3 v4:Value} (h0:us[o]?=some v0) (h1:us[o + 1]?=some v1) (h2:us[o + 2]?=some v2) (h3:us[o + 3]?=some v3) (h4:us[o + 4]?=some v4):us=us.take o ++ ([v0,v1,v2,v3,v4] ++ us.drop (o + 5)):=by
 have g:∀ {o:Nat} {v:Value},us[o]?=some v→us.drop o=v :: us.drop (o + 1):=by
  intro o v h
  obtain ⟨hl,rfl⟩:=List.getElem?_eq_some_iff.1 h
  exact List.drop_eq_getElem_cons hl
 have:us.drop o=[v0,v1,v2,v3,v4] ++ us.drop (o + 5):=by rw [g h0,g h1,g h2,g h3,g h4]; rfl
 rw [← this,List.take_append_drop]
mutual
theorem TH.hole {w : World} {m : Mem} {x : Pn} {b o : Nat} {F : List Nat} {H : PL} : TH w m x b o F H → ∀ q ∈ H, ∃ v0 v1 v2 v3 v4, ICells m q.2.cells [v0, v1, v2, v3, v4] ∧ At5 w q.1.1 q.1.2 v0 v1 v2 v3 v4
  | .fresh h1 h2, q, hq => by simp at hq; subst hq; exact ⟨_, _, _, _, _, h1, h2⟩
  | .leaf _ _ _ _, q, hq => by simp at hq
  | .node _ _ _ _ _ h6, q, hq => THL.hole h6 q hq
theorem THL.hole {w : World} {m : Mem} {xs : List Pn} {b o : Nat} {F : List Nat} {H : PL} : THL w m xs b o F H → ∀ q ∈ H, ∃ v0 v1 v2 v3 v4, ICells m q.2.cells [v0, v1, v2, v3, v4] ∧ At5 w q.1.1 q.1.2 v0 v1 v2 v3 v4
  | .nil _ _, q, hq => by simp at hq
  | .cons h1 h2, q, hq => by
    rcases List.mem_append.1 hq with h | h
    · exact TH.hole h1 q h
    · exact THL.hole h2 q h
end
theorem impI_rep {m:Mem} {φ:Pl}:∀ {cs:List IV} {vs:List Value},ICells m cs vs→RepC m φ (impI cs) vs
 | [],_, .nil=>.nil
 | c :: cs,_, .cons a o b=>.cons (.i a) o (impI_rep b)
section
variable {wi:World} {mi:Mem} {nt:Nat}
def boxL (pre:List Value) (row:List AV) (post:List Value):List AV:=litVs pre ++ (row ++ litVs post)
theorem GR.adopt {ok:Nat→Prop} {root:Nat} {p:Pn} {F:List Nat} {H:PL} {env:Nat→AV} {st:Store} {a:Act} {w:World} {u bq oq:Nat} {y:Pn} (h:GR wi mi nt ok (RAW wi root p F H) env st a w) (hst:st 2=none) (hok:¬ ok 2) (hq:((bq,oq),y)∈H) (hu:env u=.i (.lit (.pointer (some ⟨bq,oq,none⟩)))) :
  ∃ pre post us ma,us.take oq=pre∧us.drop (oq + 5)=post∧pre.length=oq∧us.length=oq + 5 + post.length∧(∀ v∈us,v.oneCell'=true) ∧
   GR wi mi nt (fun id=>ok id∨id=2) (ADP wi root p F H bq us w ma) (upd env u (.own 2 oq)) (upd st 2 (some (.box (boxL pre (impI y.cells) post)))) a w:=by
 obtain ⟨⟨m,φ,hi,henv,hadv,hk,hr⟩,h6,h7⟩:=h
 obtain ⟨v0,v1,v2,v3,v4,hc,h5⟩:=hr.th.hole _ hq
 simp only at hc h5
 have hinF:bq∈root :: F:=by
  rcases hr.th.holes _ hq with e | e
  ·simp at e; simp [e]
  ·simp at e; simp [e]
 obtain ⟨k1,k2,k3,k4,us,T,k5,k6⟩:=hr.all bq hinF
 have gc:∀ {o:Nat} {v:Value},w.cell? ⟨bq,o,none⟩=some v→us[o]?=some v:=fun h=>by rwa [cell_row k5] at h
 have hrow:=row_five (gc h5.c0) (gc h5.c1) (gc h5.c2) (gc h5.c3) (gc h5.c4)
 have hl4:=(List.getElem?_eq_some_iff.1 (gc h5.c4)).1
 refine ⟨us.take oq,us.drop (oq + 5),us,m,rfl,rfl,by rw [List.length_take]; omega,by rw [List.length_drop]; omega,k6,?_⟩
 have hφ2:φ 2=none:=by
  cases e:φ 2 with
  | none=>rfl
  | some q=>exact absurd (hk 2 (by rw [e]; simp)) hok
 have hrep:RepC m (upd φ 2 (some (bq,one bq us.length))) (boxL (us.take oq) (impI y.cells) (us.drop (oq + 5))) us:=by
  have h1:=litVs_rep (m:=m) (φ:=upd φ 2 (some (bq,one bq us.length))) (vs:=us.take oq) fun v hv=>k6 v (List.mem_of_mem_take hv)
  have h2:=litVs_rep (m:=m) (φ:=upd φ 2 (some (bq,one bq us.length))) (vs:=us.drop (oq + 5)) fun v hv=>k6 v (List.mem_of_mem_drop hv)
  have h3:=repC_join h1 (repC_join (impI_rep hc) h2)
  rw [← hrow] at h3
  exact h3
 have hp:PLe φ (upd φ 2 (some (bq,one bq us.length))):=fun i r n e=>by
  refine ⟨n,?_,rfl,fun _ h=>h⟩
  have:i≠2:=fun h=>by rw [h,hφ2] at e; cases e
  simp [upd,this,e]
 refine ⟨⟨m,upd φ 2 (some (bq,one bq us.length)),hi.adopt hst hφ2 k3 k4 k5 hrep,fun t=>?_,hadv.adopt k1,fun id hid=>?_,?_⟩,h6,h7⟩
 ·by_cases ht:t=u
  ·subst ht
   have:=henv t; rw [hu] at this
   simp only [upd,if_true]
   rw [this.lit_eq]
   exact .own (n:=one bq us.length) (by simp [upd])
  ·simp only [upd,ht,if_false]
   exact (henv t).mono (.refl _) hp
 ·by_cases e:id=2
  ·exact .inr e
  ·simp [upd,e] at hid
   exact .inl (hk id hid)
 ·refine ⟨hr.th,hr.nr,hr.nd, .refl _,hinF,⟨one bq us.length,by simp [upd]⟩,⟨T,k5⟩,k1,fun f hf hne=>?_⟩
  obtain ⟨q1,q2,q3,q4,q5⟩:=hr.all f hf
  refine ⟨q1,q2,fun i r n e ho=>?_,q4,rfl,q5⟩
  by_cases e2:i=2
  ·subst e2
   simp [upd] at e
   obtain ⟨rfl,rfl⟩:=e
   exact hne ho
  ·simp [upd,e2] at e
   exact q3 i r n e ho
def slA (n id k:Nat):AV:=if n=0 then .nils else .osl id k 0 n
def kidsP (b:Nat):Nat→List Pn→PL
 | _,[]=>[]
 | o,x :: l=>((b,o),x) :: kidsP b (o + 5) l
theorem Inv.reblk {w:World} {m:Mem} {φ:Pl} {st:Store} {id b:Nat} {n:Ext} {blk blk':Blk} (hi:Inv w m φ st) (h:st id=some blk) (e:φ id=some (b,n)) (hb:BlkOk w m φ b n blk'):Inv w m φ (upd st id (some blk')):=by
 refine ⟨hi.mem,?_,?_,hi.low⟩
 ·intro i bl hbl
  by_cases hid:i=id
  ·subst hid
   simp [upd] at hbl; subst hbl
   exact ⟨b,n,e,(blk_own hi e h).1,hb⟩
  ·simp [upd,hid] at hbl
   exact hi.live i bl hbl
 ·intro i j r r' n1 n2 b1 b2 f e1 e2 p1 p2 o1 o2
  have g:∀ i b1,upd st id (some blk') i=some b1→∃ b2,st i=some b2:=fun i b1 h1=>by
   by_cases hid:i=id
   ·subst hid; exact ⟨blk,h⟩
   ·simp [upd,hid] at h1; exact ⟨b1,h1⟩
  obtain ⟨x1,y1⟩:=g i b1 e1
  obtain ⟨x2,y2⟩:=g j b2 e2
  exact hi.inj i j r r' n1 n2 x1 x2 f y1 y2 p1 p2 o1 o2
theorem slA_frz {w:World} {m:Mem} {φ:Pl} {st:Store} {n id k:Nat} {v:Value} {es:List (List IV)} (hn:es.length=n) (hi:Inv w m φ st) (hr:Rep m φ (slA n id k) v) (hst:n≠0→st id=some (.arr k es)) :
  ∃ m1,IRep m1 (.isl es) v∧Inv w m1 φ (if n=0 then st else upd st id (some (.frz k es)))∧Adv w m φ w m1 φ:=by
 unfold slA at hr
 by_cases h0:n=0
 ·simp only [h0,if_true] at hr ⊢
  have:es=[]:=List.length_eq_zero_iff.1 (by omega)
  subst this
  cases hr
  exact ⟨m, .isl0 _ _ (fun _=>rfl),hi, .refl _ _ _⟩
 ·simp only [h0,if_false] at hr ⊢
  have hid:=hst h0
  have hfr:frzV st (.osl id k 0 n)=some (.isl es,upd st id (some (.frz k es))):=by
   simp [frzV,frz,fuelF,frzSl,hid,tst,window,bnd,frzIds,List.take_of_length_le,hn]
  exact frzV_sound hi hr hfr
theorem kids_fresh {w : World} {m : Mem} {b : Nat} : ∀ {ks : List Pn} {o : Nat} {vs : List Value}, ICells m (Pn.cellsL ks).flatten vs → (∀ j v, vs[j]? = some v → w.cell? ⟨b, o + j, none⟩ = some v) → THL w m ks b o [] (kidsP b o ks)
  | [], o, _, _, _ => .nil b o
  | k :: ks, o, vs, h, hw => by
    simp only [Pn.cellsL, List.flatten_cons] at h
    have h1 := h.take 5
    have h2 := h.drop 5
    rw [List.take_left' (Pn.cells_length k)] at h1
    rw [List.drop_left' (Pn.cells_length k)] at h2
    have hl := h1.length
    rw [Pn.cells_length] at hl
    have hlen : 5 ≤ vs.length := by rw [List.length_take] at hl; omega
    have hf : THL w m (k :: ks) b o ([] ++ []) ([((b, o), k)] ++ kidsP b (o + 5) ks) := by
      refine .cons ?_ (kids_fresh h2 fun j v hj => ?_)
      · have e : vs.take 5 = [vs[0], vs[1], vs[2], vs[3], vs[4]] := by
          apply List.ext_getElem (by simp; omega)
          intro i l1 l2
          simp at l1 l2
          rcases i with _ | _ | _ | _ | _ | i
          · simp
          · simp
          · simp
          · simp
          · simp
          · omega
        rw [e] at h1
        exact .fresh h1 ⟨hw 0 _ (by simp), hw 1 _ (by simp), hw 2 _ (by simp), hw 3 _ (by simp), hw 4 _ (by simp)⟩
      · rw [List.getElem?_drop] at hj
        have := hw (5 + j) v hj
        rwa [← Nat.add_assoc] at this
    exact hf
theorem GR.relit {ok : Nat → Prop} {root : Nat} {p : Pn} {F : List Nat} {H : PL} {env env' : Nat → AV} {st st' : Store} {a : Act} {w wa : World} {ma : Mem} {u bq oq idE idC idK : Nat} {pre post us : List Value} {k t : Int} {es : List Ex} {cs : List Int} {ks : List Pn}
    (h : GR wi mi nt ok (ADP wi root p F H bq us wa ma) env st a w) (h1 : us.take oq = pre) (h2 : us.drop (oq + 5) = post) (h3 : pre.length = oq) (h4 : us.length = oq + 5 + post.length)
    (hq : ((bq, oq), Pn.mk k t es cs ks) ∈ H) (hbox : st 2 = some (.box (boxL pre [.int k, .int t, slA es.length idE 5, slA cs.length idC 1, slA ks.length idK 5] post)))
    (hE : es.length ≠ 0 → st idE = some (.arr 5 (Ex.cellsL es))) (hC : cs.length ≠ 0 → st idC = some (.arr 1 (intsL cs))) (hK : ks.length ≠ 0 → st idK = some (.arr 5 (Pn.cellsL ks)))
    (hd : 2 < idE ∧ 2 < idC ∧ 2 < idK ∧ idE ≠ idC ∧ idE ≠ idK ∧ idC ≠ idK)
    (hst : ∀ i blk, st' i = some blk → i < 2 ∧ st i = some blk ∧ LitBlk blk) (he : ∀ t, env' t = .junk ∨ (env' t = env t ∧ (env t = .own 2 oq ∨ Stays st' (env t)))) :
    ∃ F' H' us' b' cap vE vC m2, (((bq, oq), Pn.mk k t es cs ks) :: H').Perm (H ++ kidsP b' 0 ks) ∧ us' = pre ++ ([.int .i64 k, .int .i64 t, vE, vC, if ks.length = 0 then .slice none 0 0 else .slice (some ⟨b', 0, none⟩) ks.length cap] ++ post) ∧ (∀ v ∈ us', v.oneCell' = true) ∧ (∀ q ∈ H, q.1.1 ≠ b') ∧
      GR wi mi nt (fun id => id ≤ 2) (ADP wi root p F' H' bq us' w m2) env' (upd st' 2 (some (.box (litVs us')))) a w := by
  obtain ⟨⟨m, φ, hi, henv, hadv, hk, hr⟩, h6, h7⟩ := h
  obtain ⟨n2, e2⟩ := hr.own
  obtain ⟨hb2, hok2⟩ := blk_own hi e2 hbox
  obtain ⟨d1, d2, d3, d4, d5, d6⟩ := hd
  cases hok2 with
  | @box T _ vs hh hl hrc hm =>
    have hone := hrc.one
    obtain ⟨vp, x, rfl, r1, r2⟩ := repC_append hrc
    obtain ⟨vr, vq, rfl, r3, r4⟩ := repC_append r2
    obtain rfl := (litVs_eq r1).symm
    obtain rfl := (litVs_eq r4).symm
    cases r3 with
    | cons a0 o0 r3 =>
    cases r3 with
    | cons a1 o1 r3 =>
    cases r3 with
    | @cons _ vE _ _ aE oE r3 =>
    cases r3 with
    | @cons _ vC _ _ aC oC r3 =>
    cases r3 with
    | @cons _ vK _ _ aK oK r3 =>
    cases r3
    obtain rfl := a0.lit_eq
    obtain rfl := a1.lit_eq
    obtain ⟨m1, f1, i1, g1⟩ := slA_frz (es := Ex.cellsL es) (by simp) hi aE hE
    have s1 : ∀ i, i ≠ idE → (if es.length = 0 then st else upd st idE (some (.frz 5 (Ex.cellsL es)))) i = st i := fun i hne => by
      split
      · rfl
      · simp [upd, hne]
    generalize (if es.length = 0 then st else upd st idE (some (.frz 5 (Ex.cellsL es)))) = st1 at i1 s1
    obtain ⟨m2, f2, i2, g2⟩ := slA_frz (es := intsL cs) (by simp) i1 (aC.mono g1.mle (.refl _)) (fun h0 => by rw [s1 _ (by omega)]; exact hC h0)
    have s2 : ∀ i, i ≠ idE → i ≠ idC → (if cs.length = 0 then st1 else upd st1 idC (some (.frz 1 (intsL cs)))) i = st i := fun i hne hne2 => by
      split
      · exact s1 i hne
      · simp [upd, hne2, s1 i hne]
    generalize (if cs.length = 0 then st1 else upd st1 idC (some (.frz 1 (intsL cs)))) = st2 at i2 s2
    have hA := (hadv.trans g1).trans g2
    have hm2 : ∀ o, m2 bq o = none := by
      have hb := s2 2 (by omega) (by omega)
      rw [hbox] at hb
      obtain ⟨_, hok⟩ := blk_own i2 e2 hb
      cases hok with | box _ _ _ q => exact q
    have hlit : BlkOk w m2 φ bq n2 (.box (litVs (pre ++ ([.int .i64 k, .int .i64 t, vE, vC, vK] ++ post)))) := .box hh hl (litVs_rep hone) hm2
    have i3 := i2.reblk (by rw [s2 2 (by omega) (by omega)]; exact hbox) e2 hlit
    generalize hus : pre ++ ([.int .i64 k, .int .i64 t, vE, vC, vK] ++ post) = us' at hh hl hone hlit i3
    have hst2 : ∀ i blk, upd st' 2 (some (.box (litVs us'))) i = some blk → upd st2 2 (some (.box (litVs us'))) i = some blk ∧ LitBlk blk := by
      intro i blk hb
      by_cases hid : i = 2
      · subst hid
        simp [upd] at hb ⊢
        refine ⟨hb, ?_⟩
        subst hb
        intro c hc
        obtain ⟨v, _, rfl⟩ := List.mem_map.1 hc
        exact .inl ⟨v, rfl⟩
      · simp [upd, hid] at hb ⊢
        obtain ⟨q1, q2, q3⟩ := hst i blk hb
        exact ⟨by rw [s2 i (by omega) (by omega)]; exact q2, q3⟩
    have i4 := i3.cut hst2
    have hat : At5 w bq oq (.int .i64 k) (.int .i64 t) vE vC vK := by
      have g : ∀ (j : Nat) (v : Value), [Value.int .i64 k, .int .i64 t, vE, vC, vK][j]? = some v → w.cell? ⟨bq, oq + j, none⟩ = some v := by
        intro j v hj
        have hj5 := (List.getElem?_eq_some_iff.1 hj).1
        rw [cell_row hh, ← hus, List.getElem?_append_right (by omega), h3, Nat.add_sub_cancel_left, List.getElem?_append_left hj5]
        exact hj
      exact ⟨g 0 _ rfl, g 1 _ rfl, g 2 _ rfl, g 3 _ rfl, g 4 _ rfl⟩
    have hHlt : ∀ q ∈ H, q.1.1 ∈ root :: F := fun q hq => by
      rcases hr.th.holes q hq with e | e
      · simp [e]
      · simp [e]
    have hlt : ∀ f ∈ root :: F, f < w.heap.size := fun f hf => by
      by_cases hne : f = bq
      · subst hne; exact (Array.getElem?_eq_some_iff.1 hh).1
      · exact (hr.oth f hf hne).2.1
    have hmon := hr.le.trans (g1.mle.trans g2.mle)
    have fE : IRep m2 (.isl (Ex.cellsL es)) vE := f1.mono g2.mle
    obtain ⟨b', cap, G, hvK, hTH, hG, hGn, hbn⟩ : ∃ b' cap G, vK = (if ks.length = 0 then Value.slice none 0 0 else Value.slice (some ⟨b', 0, none⟩) ks.length cap) ∧ TH w m2 (.mk k t es cs ks) bq oq G (kidsP b' 0 ks) ∧
        (∀ f ∈ G, wi.heap.size ≤ f ∧ f < w.heap.size ∧ Free (cutP (upd st' 2 (some (.box (litVs us')))) φ) f ∧ (∀ o, m2 f o = none) ∧ (∃ (vs : List Value) (T : TypeId), w.heap[f]? = some (.cells vs.toArray T (0, 0)) ∧ ∀ v ∈ vs, v.oneCell' = true) ∧ f ≠ bq ∧ f ∉ root :: F) ∧ G.Nodup ∧ ∀ q ∈ H, q.1.1 ≠ b' := by
      by_cases h0 : ks.length = 0
      · have hks : ks = [] := List.length_eq_zero_iff.1 h0
        subst hks
        simp only [slA, List.length_nil, if_true] at aK
        cases aK
        exact ⟨w.heap.size, 0, [], rfl, .leaf hat fE f2 (fun _ => rfl), by simp, List.nodup_nil, fun q hq e => by have := hlt _ (hHlt q hq); omega⟩
      · simp only [slA, h0, if_false] at aK
        cases aK with
        | @osl _ _ _ _ cap b' nK ao eK l1 l2 l3 l4 =>
          have hao := l3 (by omega)
          subst hao
          have hK2 : st2 idK = some (.arr 5 (Pn.cellsL ks)) := by rw [s2 idK (by omega) (by omega)]; exact hK h0
          obtain ⟨hbK, hokK⟩ := blk_own i2 eK hK2
          cases hokK with
          | @arr TK _ _ vk q1 q2 q3 q4 q5 q6 q7 q8 q9 =>
            have hb'q : b' ≠ bq := fun e => by
              subst e
              have := hi.inj idK 2 b' b' nK n2 _ _ b' (hK h0) hbox eK e2 hbK.1 hb2.1
              omega
            have hnF : b' ∉ root :: F := fun hm => by
              exact (hr.oth b' hm hb'q).2.2.1 idK b' nK eK hbK.1
            refine ⟨b', cap, [b'], by simp [h0], ?_, ?_, by simp, fun q hq e => hnF (e ▸ hHlt q hq)⟩
            · refine .node hat fE f2 (fun e => h0 (by rw [e]; rfl)) (by omega) ?_
              rw [Pn.cellsL_length] at q5
              exact kids_fresh q5 fun j v hj => by
                rw [Nat.zero_add, cell_row q1]
                rw [List.getElem?_take] at hj
                split at hj
                · exact hj
                · cases hj
            · intro f hf
              simp at hf
              subst hf
              refine ⟨new_owned hadv eK hbK.1, hbK.2 _ hbK.1, ?_, q7, ⟨vk, TK, q1, q9⟩, hb'q, hnF⟩
              refine free_dropped i3 hst2 (id := idK) (blk := .arr 5 (Pn.cellsL ks)) (by simp [upd, show idK ≠ 2 by omega, hK2]) ?_ eK hbK.1
              have : idK ≠ 2 := by omega
              simp only [upd, this, if_false]
              cases hx : st' idK with
              | none => rfl
              | some blk => have := (hst idK blk hx).1; omega
    obtain ⟨T0, hrow0⟩ := hr.row
    have hsame : ∀ f ∈ root :: F, ∀ j, (f ≠ bq ∨ j < oq ∨ oq + 5 ≤ j) → w.cell? ⟨f, j, none⟩ = wa.cell? ⟨f, j, none⟩ := by
      intro f hf j hj
      by_cases hne : f = bq
      · subst hne
        rw [cell_row hh, cell_row hrow0, ← hus]
        rcases hj with hj | hj | hj
        · exact absurd rfl hj
        · rw [List.getElem?_append_left (by omega), ← h1, List.getElem?_take]
          simp [hj]
        · rw [List.getElem?_append_right (by omega), List.getElem?_append_right (by simp; omega), ← h2, List.getElem?_drop]
          simp only [List.length_cons, List.length_nil, h3]
          congr 1
          omega
      · exact cells_same (hr.oth f hf hne).2.2.2.2.1 j
    obtain ⟨F1, H1, k1, k2, k3⟩ := TH.fill hmon hTH hr.th hr.nr hr.nd hq hsame
    have hF1 : ∀ f, f ∈ F1 ↔ f ∈ F ∨ f ∈ G := fun f => by rw [k2.mem_iff, List.mem_append]
    refine ⟨F1, H1, us', b', cap, vE, vC, m2, k3, by rw [← hus, hvK], hone, hbn, ⟨⟨m2, cutP (upd st' 2 (some (.box (litVs us')))) φ, i4, fun x => ?_, hA.cut, fun id hid => ?_, ?_⟩, h6, h7⟩⟩
    · rcases he x with e | ⟨e, e' | e'⟩
      · rw [e]; exact .junk _
      · rw [e, e']
        have hx := henv x
        rw [e'] at hx
        generalize a.tmps.getD x undef = yy at hx ⊢
        cases hx with
        | own e3 => exact .own (by rw [cutP_eq (by simp [upd])]; exact e3)
      · rw [e]
        refine Stays.rep e' (fun i hi' => ?_) (henv x)
        refine cutP_eq ?_
        by_cases hid : i = 2
        · subst hid; simp [upd]
        · simpa [upd, hid] using hi'
    · cases hx : cutP (upd st' 2 (some (.box (litVs us')))) φ id with
      | none => exact absurd hx hid
      | some q =>
        have := (cutP_some hx).2
        by_cases hid2 : id = 2
        · omega
        · simp [upd, hid2] at this
          cases hy : st' id with
          | none => exact absurd hy this
          | some blk => have := (hst id blk hy).1; omega
    · refine ⟨k1, fun hm => ?_, ?_, .refl _, ?_, ⟨n2, by rw [cutP_eq (by simp [upd])]; exact e2⟩, ⟨T, hh⟩, hr.bqn, fun f hf hne => ?_⟩
      · rcases (hF1 root).1 hm with h | h
        · exact hr.nr h
        · exact (hG root h).2.2.2.2.2.2 (by simp)
      · rw [k2.nodup_iff]
        exact List.nodup_append.2 ⟨hr.nd, hGn, fun x hx y hy e => (hG y hy).2.2.2.2.2.2 (by rw [← e]; simp [hx])⟩
      · rcases List.mem_cons.1 hr.inF with e | e
        · simp [e]
        · simp [(hF1 bq).2 (.inl e)]
      · have hf' : f ∈ root :: F ∨ f ∈ G := by
          rcases List.mem_cons.1 hf with e | e
          · exact .inl (by simp [e])
          · rcases (hF1 f).1 e with e | e
            · exact .inl (by simp [e])
            · exact .inr e
        rcases hf' with hf' | hf'
        · obtain ⟨q1, q2, q3, q4, q5, vs, T', q6, q7⟩ := hr.oth f hf' hne
          refine ⟨q1, q2, q3.cut, fun o => ?_, rfl, vs, T', by rw [q5]; exact q6, q7⟩
          rw [(g1.trans g2).mnew f q2 q3 o]; exact q4 o
        · obtain ⟨q1, q2, q3, q4, q5, _⟩ := hG f hf'
          exact ⟨q1, q2, q3, q4, rfl, q5⟩
theorem GR.giveback {ok : Nat → Prop} {root : Nat} {p : Pn} {F : List Nat} {H : PL} {env env' : Nat → AV} {st st' : Store} {a : Act} {w wa : World} {ma : Mem} {bq : Nat} {us : List Value}
    (h : GR wi mi nt ok (ADP wi root p F H bq us wa ma) env st a w) (hbox : st 2 = some (.box (litVs us)))
    (hst : ∀ i blk, st' i = some blk → i ≠ 2 ∧ st i = some blk ∧ LitBlk blk) (he : ∀ t, env' t = .junk ∨ (env' t = env t ∧ Stays st' (env t))) :
    GR wi mi nt (fun id => st' id ≠ none) (RAW wi root p F H) env' st' a w := by
  obtain ⟨⟨m, φ, hi, henv, hadv, hk, hr⟩, h6, h7⟩ := h
  obtain ⟨n2, e2⟩ := hr.own
  obtain ⟨hb2, hok2⟩ := blk_own hi e2 hbox
  have hst2 : ∀ i blk, st' i = some blk → st i = some blk ∧ LitBlk blk := fun i blk hb => (hst i blk hb).2
  cases hok2 with
  | @box T _ vs hh hl hrc hm =>
    have hone := hrc.one
    obtain rfl := (litVs_eq hrc).symm
    obtain ⟨T0, hrow0⟩ := hr.row
    have hcell : ∀ f ∈ root :: F, ∀ j, w.cell? ⟨f, j, none⟩ = wa.cell? ⟨f, j, none⟩ := by
      intro f hf j
      by_cases hne : f = bq
      · subst hne; rw [cell_row hh, cell_row hrow0]
      · exact cells_same (hr.oth f hf hne).2.2.2.2.1 j
    refine ⟨⟨m, cutP st' φ, hi.cut hst2, fun x => ?_, hadv.cut, fun id hid => ?_, ?_⟩, h6, h7⟩
    · rcases he x with e | ⟨e, e'⟩
      · rw [e]; exact .junk _
      · rw [e]; exact e'.rep (fun i hi' => cutP_eq hi') (henv x)
    · cases hx : cutP st' φ id with
      | none => exact absurd hx hid
      | some q => exact (cutP_some hx).2
    · refine ⟨hr.th.frame hr.le (fun j _ _ => hcell root (by simp) j) (fun f hf j => hcell f (by simp [hf]) j), hr.nr, hr.nd, fun f hf => ?_⟩
      by_cases hne : f = bq
      · subst hne
        refine ⟨hr.bqn, (Array.getElem?_eq_some_iff.1 hh).1, ?_, hm, us, T, hh, hone⟩
        refine free_dropped hi hst2 hbox ?_ e2 hb2.1
        cases hx : st' 2 with
        | none => rfl
        | some blk => exact absurd rfl (hst 2 blk hx).1
      · obtain ⟨q1, q2, q3, q4, q5, vs', T', q6, q7⟩ := hr.oth f hf hne
        exact ⟨q1, q2, q3.cut, q4, vs', T', by rw [q5]; exact q6, q7⟩
end
end Go.Av

namespace Go.Av
theorem repC_impI {m : Mem} {φ : Pl} : ∀ {cs : List IV} {vs : List Value}, RepC m φ (impI cs) vs → ICells m cs vs
  | [], _, .nil => .nil
  | c :: cs, _, .cons a o b => by
    cases a with
    | i a => exact .cons a o (repC_impI b)
section
variable {wi:World} {mi:Mem} {nt:Nat}
theorem GR.pubP {ok : Nat → Prop} {R : World → Mem → Pl → Prop} {p : Pn} {env : Nat → AV} {st st' : Store} {a : Act} {w : World} {u id : Nat} (h : GR wi mi nt ok R env st a w) (hu : env u = .own id 0) (hbox : st id = some (.box (impI p.cells)))
    (hst : ∀ i blk, st' i = some blk → i ≠ id ∧ st i = some blk ∧ LitBlk blk) :
    ∃ b3, ∀ env', (∀ t, env' t = .junk ∨ (t = u ∧ env' t = .i (.lit (.pointer (some ⟨b3, 0, none⟩)))) ∨ (env' t = env t ∧ Stays st' (env t))) → GR wi mi nt (fun i => st' i ≠ none) (RAW wi b3 p [] [((b3, 0), p)]) env' st' a w := by
  obtain ⟨⟨m, φ, hi, henv, hadv, hk, _⟩, h6, h7⟩ := h
  have hr := henv u; rw [hu] at hr
  generalize hy : a.tmps.getD u undef = yy at hr
  cases hr with
  | @own _ _ b3 n3 e3 =>
    obtain ⟨hb, hok⟩ := blk_own hi e3 hbox
    have hst2 : ∀ i blk, st' i = some blk → st i = some blk ∧ LitBlk blk := fun i blk hb => (hst i blk hb).2
    cases hok with
    | @box T _ vs hh hl hrc hm =>
      have hc := repC_impI hrc
      have hlen := hc.length
      rw [Pn.cells_length] at hlen
      obtain ⟨v0, v1, v2, v3, v4, rfl⟩ : ∃ v0 v1 v2 v3 v4, vs = [v0, v1, v2, v3, v4] := by
        match vs, hlen with
        | [v0, v1, v2, v3, v4], _ => exact ⟨v0, v1, v2, v3, v4, rfl⟩
      refine ⟨b3, fun env' he => ⟨⟨m, cutP st' φ, hi.cut hst2, fun t => ?_, hadv.cut, fun i hi' => ?_, ?_⟩, h6, h7⟩⟩
      · rcases he t with e | ⟨rfl, e⟩ | ⟨e, e'⟩
        · rw [e]; exact .junk _
        · rw [e, hy]; exact .i (.lit _)
        · rw [e]; exact e'.rep (fun i hi' => cutP_eq hi') (henv t)
      · cases hx : cutP st' φ i with
        | none => exact absurd hx hi'
        | some q => exact (cutP_some hx).2
      · refine ⟨.fresh hc ⟨by rw [cell_row hh]; rfl, by rw [cell_row hh]; rfl, by rw [cell_row hh]; rfl, by rw [cell_row hh]; rfl, by rw [cell_row hh]; rfl⟩, by simp, List.nodup_nil, fun f hf => ?_⟩
        simp at hf; subst hf
        refine ⟨new_owned hadv e3 hb.1, hb.2 _ hb.1, ?_, hm, _, T, hh, hrc.one⟩
        refine free_dropped hi hst2 hbox ?_ e3 hb.1
        cases hx : st' id with
        | none => rfl
        | some blk => exact absurd rfl (hst id blk hx).1
theorem GR.fin {ok:Nat→Prop} {root:Nat} {p:Pn} {F:List Nat} {env:Nat→AV} {st:Store} {a:Act} {w:World} (h:GR wi mi nt ok (RAW wi root p F []) env st a w) (hst:∀ i blk,st i=some blk→LitBlk blk) {u:Nat} (hu:env u=.i (.lit (.pointer (some ⟨root,0,none⟩)))) {env':Nat→AV} (he:∀ t,env' t=.junk∨(t=u∧env' t=.i (.iref p.cells))∨(env' t=env t∧Stays st (env t))) :
  GR wi mi nt ok (fun _ _ _=>True) env' st a w:=by
 classical
 obtain ⟨⟨m,φ,hi,henv,hadv,hk,hr⟩,h6,h7⟩:=h
 let m':Mem:=fun f o=>if f∈root :: F then w.cell? ⟨f,o,none⟩ else m f o
 have hin:∀ f,f∈root :: F→∀ o,m' f o=w.cell? ⟨f,o,none⟩:=fun f hf o=>by show (if f∈root :: F then _ else _)=_; rw [if_pos hf]
 have hout:∀ f,f ∉ root :: F→∀ o,m' f o=m f o:=fun f hf o=>by show (if f∈root :: F then _ else _)=_; rw [if_neg hf]
 have hle:MLe m m':=fun f o v e=>by
  by_cases hf:f∈root :: F
  ·rw [(hr.all f hf).2.2.2.1 o] at e; cases e
  ·rw [hout f hf]; exact e
 have hmem:MemOk w m':=fun f o v e=>by
  by_cases hf:f∈root :: F
  ·rw [hin f hf] at e; exact e
  ·rw [hout f hf] at e; exact hi.mem f o v e
 have hat:IAt m' root 0 p.cells:=hr.th.iat hle (fun j _ _=>hin root (by simp) j) (fun f hf j=>hin f (by simp [hf]) j)
 refine ⟨⟨m',φ,⟨hmem,fun i blk hb=>?_,hi.inj,hi.low⟩,fun t=>?_,⟨hadv.size,hadv.os,hadv.tape,hadv.output,hadv.block,hadv.mle.trans hle,fun f hf hfr o=>?_,hadv.ple,hadv.pnew⟩,hk,trivial⟩,h6,h7⟩
 ·obtain ⟨b,n,q1,q2,q3⟩:=hi.live i blk hb
  refine ⟨b,n,q1,q2,q3.mlit (hst i blk hb) rfl fun o ho=>?_⟩
  rw [hout b (fun hf=>(hr.all b hf).2.2.1 i b n q1 q2.1)]; exact ho
 ·rcases he t with e | ⟨rfl,e⟩ | ⟨e,e'⟩
  ·rw [e]; exact .junk _
  ·have hx:=henv t
   rw [hu] at hx
   rw [e,hx.lit_eq]
   exact .i (.iref hat)
  ·rw [e]; exact e'.rep (fun _ _=>rfl) (henv t)
 ·rw [hout f (fun hf'=>by have:=(hr.all f hf').1; omega)]
  exact hadv.mnew f hf hfr o
theorem RAW.keep {root:Nat} {p:Pn} {F:List Nat} {H:PL} {w:World} {m:Mem} {φ:Pl} (ids:List Nat) (h:RAW wi root p F H w m φ):RAW wi root p F H w m (keepP ids φ):=by
 refine ⟨h.th,h.nr,h.nd,fun f hf=>?_⟩
 obtain ⟨k1,k2,k3,k4,k5⟩:=h.all f hf
 refine ⟨k1,k2,fun id r n e=>?_,k4,k5⟩
 unfold keepP at e
 cases hx:ids[id]? with
 | none=>rw [hx] at e; cases e
 | some j=>rw [hx] at e; exact k3 j r n e
theorem GR.settle {ok : Nat → Prop} {R : World → Mem → Pl → Prop} (hR : ∀ w m φ ids, R w m φ → R w m (keepP ids φ)) {env : Nat → AV} {st : Store} {a : Act} {w : World} (G : List Nat) (h : GR wi mi nt ok R env st a w) :
    GR wi mi nt (fun id => id < (Av.settle G 0 env st).st.length) R (envOf (Av.settle G 0 env st).env) (stOf (Av.settle G 0 env st).st) a w := by
  obtain ⟨⟨m, φ, hi, henv, hadv, hok, hK⟩, hsz, hdf⟩ := h
  unfold Av.settle settleW
  generalize hids : keepIds st 0 (envAt env G) = ids
  have hd : ids.Nodup := by rw [← hids]; exact keepIds_nodup _ _ _
  refine ⟨⟨m, keepP ids φ, hi.keep hd, ?_, hadv.keep (fun id h => absurd rfl h) (fun j hj => absurd hj (Nat.not_lt_zero j)), ?_, hR _ _ _ ids hK⟩, hsz, hdf⟩
  · intro t
    have key : ∀ G : List Nat, Rep m (keepP ids φ) (envOf (keepEnv (posOf ids) env G) t) (a.tmps.getD t undef) := by
      intro G
      induction G with
      | nil => exact .junk _
      | cons u G ih =>
        simp only [keepEnv, envOf]
        by_cases e : t = u
        · subst e; simp only [if_true]; exact (henv t).ren (keepP_ren ids φ)
        · simp only [e, if_false]; exact ih
    exact key G
  · intro id hne
    simp only [takeSt_len]
    unfold keepP at hne
    cases hx : ids[id]? with
    | none => rw [hx] at hne; exact absurd rfl hne
    | some i => exact (List.getElem?_eq_some_iff.1 hx).1
theorem GR.envTo {ok:Nat→Prop} {R:World→Mem→Pl→Prop} {env env':Nat→AV} {st:Store} {a:Act} {w:World} (h:GR wi mi nt ok R env st a w) (he:∀ t,env' t=.junk∨env' t=env t):GR wi mi nt ok R env' st a w:=by
 refine h.turn fun m φ h1 h2 h3 h4 h5=>⟨m,φ,h1,fun t=>?_,h3,h4,h5⟩
 rcases he t with e | e
 ·rw [e]; exact .junk _
 ·rw [e]; exact h2 t
theorem GR.ok' {ok ok':Nat→Prop} {R:World→Mem→Pl→Prop} {env:Nat→AV} {st:Store} {a:Act} {w:World} (h:GR wi mi nt ok R env st a w) (he:∀ id,ok id→ok' id):GR wi mi nt ok' R env st a w :=
 h.turn fun m φ h1 h2 h3 h4 h5=>⟨m,φ,h1,h2,h3,fun id hi=>he id (h4 id hi),h5⟩
theorem GR.codeX {C:Ctx} (hS:SoundOk C) {G:List Nat} {c:Code} {S:AS} {a:Act} {w:World} {R:World→Mem→Pl→Prop} (hR:Stab R) {PP:AExit→AS→Prop} (hc:codeOk nt c=true) (hx:∃ e S',execA C G S.st.length c S=some (e,S')∧PP e S') (h:GR wi mi nt (fun id=>id < S.st.length) R (envOf S.env) (stOf S.st) a w) (hnr:noRange c=true:=by rfl) :
  c.wp C.P (fun e' a' w'=>∃ e S',e'=exitOf e∧PP e S'∧GR wi mi nt (fun id=>id < S'.st.length) R (envOf S'.env) (stOf S'.st) a' w') a w:=by
 obtain ⟨e,S',h1,h2⟩:=hx
 refine wp_mono (GR.codeA hS hR hc h1 h hnr) ?_
 rintro e' a' w' ⟨rfl,hg⟩
 exact ⟨e,S',rfl,h2,hg⟩
end
@[simp] theorem litVs_length (a:List Value):(litVs a).length=a.length:=by simp [litVs]
theorem dropE_add {α : Type} : ∀ (a b : List α) (n : Nat), dropE (a.length + n) (a ++ b) = dropE n b
  | [], b, n => by simp
  | x :: a, b, n => by
    rw [List.length_cons, show a.length + 1 + n = (a.length + n) + 1 by omega]
    exact dropE_add a b n
theorem splice_add {α : Type} : ∀ (a b : List α) (n : Nat) (xs : List α), splice (a ++ b) (a.length + n) xs = bnd (splice b n xs) fun l => some (a ++ l)
  | [], b, n, xs => by simp; cases splice b n xs <;> rfl
  | x :: a, b, n, xs => by
    rw [List.length_cons, show a.length + 1 + n = (a.length + n) + 1 by omega]
    show bnd (splice (a ++ b) (a.length + n) xs) _ = _
    rw [splice_add a b n xs]
    cases splice b n xs <;> rfl
theorem cut_boxL (pre post:List Value) (row:List AV) (j n:Nat):cut (boxL pre row post) (pre.length + j) n=cut (row ++ litVs post) j n:=by
 unfold cut boxL
 have:=dropE_add (litVs pre) (row ++ litVs post) j
 rw [litVs_length] at this
 rw [this]
theorem splice_boxL (pre post:List Value) (row:List AV) (j:Nat) (xs:List AV):splice (boxL pre row post) (pre.length + j) xs=bnd (splice (row ++ litVs post) j xs) fun l=>some (litVs pre ++ l):=by
 unfold boxL
 have:=splice_add (litVs pre) (row ++ litVs post) j xs
 rw [litVs_length] at this
 exact this
theorem idsOf_litVs (a:List Value):idsOfL (litVs a)=[]:=by
 induction a with
 | nil=>rfl
 | cons v a ih=>simpa [litVs,idsOfL,idsOf] using ih
theorem renL_litVs (r:Nat→Option Nat) (a:List Value):renL r (litVs a)=litVs a:=by
 induction a with
 | nil=>rfl
 | cons v a ih=>simpa [litVs,renL,ren] using ih
theorem idsOfL_app (a b:List AV):idsOfL (a ++ b)=idsOfL a ++ idsOfL b:=by
 induction a with
 | nil=>rfl
 | cons c a ih=>simp [idsOfL,ih]
theorem renL_app (r:Nat→Option Nat) (a b:List AV):renL r (a ++ b)=renL r a ++ renL r b:=by
 induction a with
 | nil=>rfl
 | cons c a ih=>simp [renL,ih]
theorem idsOfL_boxL (pre post:List Value) (row:List AV):idsOfL (boxL pre row post)=idsOfL row:=by
 simp [boxL,idsOfL_app,idsOf_litVs]
theorem renL_boxL (r:Nat→Option Nat) (pre post:List Value) (row:List AV):renL r (boxL pre row post)=boxL pre (renL r row) post:=by
 simp [boxL,renL_app,renL_litVs]
section
variable (pre post:List Value) (a0 a1 a2 a3 a4 x:AV)
theorem cutB2:cut (boxL pre [a0,a1,a2,a3,a4] post) (pre.length + 2) 1=some [a2]:=by rw [cut_boxL]; rfl
theorem cutB3:cut (boxL pre [a0,a1,a2,a3,a4] post) (pre.length + 3) 1=some [a3]:=by rw [cut_boxL]; rfl
theorem cutB4:cut (boxL pre [a0,a1,a2,a3,a4] post) (pre.length + 4) 1=some [a4]:=by rw [cut_boxL]; rfl
theorem splB2:splice (boxL pre [a0,a1,a2,a3,a4] post) (pre.length + 2) [x]=some (boxL pre [a0,a1,x,a3,a4] post):=by rw [splice_boxL]; rfl
theorem splB3:splice (boxL pre [a0,a1,a2,a3,a4] post) (pre.length + 3) [x]=some (boxL pre [a0,a1,a2,x,a4] post):=by rw [splice_boxL]; rfl
theorem splB4:splice (boxL pre [a0,a1,a2,a3,a4] post) (pre.length + 4) [x]=some (boxL pre [a0,a1,a2,a3,x] post):=by rw [splice_boxL]; cases post<;>rfl
theorem tkB2:takeE 1 (dropE (pre.length + 2) (boxL pre [a0,a1,a2,a3,a4] post))=some [a2]:=cutB2 pre post a0 a1 a2 a3 a4
theorem tkB3:takeE 1 (dropE (pre.length + 3) (boxL pre [a0,a1,a2,a3,a4] post))=some [a3]:=cutB3 pre post a0 a1 a2 a3 a4
theorem tkB4:takeE 1 (dropE (pre.length + 4) (boxL pre [a0,a1,a2,a3,a4] post))=some [a4]:=cutB4 pre post a0 a1 a2 a3 a4
end
end Go.Av

namespace Go.Av
mutual
theorem TH.iat2 {w : World} {m m' : Mem} (hm : MLe m m') {x : Pn} {b o : Nat} {F : List Nat} {H : PL} : TH w m x b o F H → (∀ j, o ≤ j → j < o + 5 → m' b j = w.cell? ⟨b, j, none⟩) → (∀ f ∈ F, ∀ j, m' f j = w.cell? ⟨f, j, none⟩) → IAt m' b o x.cells
  | .fresh h1 h2, hb, hF => by
    refine IAt.mk o (h1.mono hm) fun j v hj => ?_
    rcases j with _ | _ | _ | _ | _ | j
    · simp at hj; subst hj; exact (hb _ (by omega) (by omega)).trans h2.c0
    · simp at hj; subst hj; exact (hb _ (by omega) (by omega)).trans h2.c1
    · simp at hj; subst hj; exact (hb _ (by omega) (by omega)).trans h2.c2
    · simp at hj; subst hj; exact (hb _ (by omega) (by omega)).trans h2.c3
    · simp at hj; subst hj; exact (hb _ (by omega) (by omega)).trans h2.c4
    · simp at hj
  | .leaf h1 h2 h3 h4, hb, hF => by
    rw [Pn.cells_mk]
    have o2 : (∀ es v, IRep m (.isl es) v → v.oneCell' = true) := fun es v h => by cases h <;> rfl
    exact .cons ((hb _ (by omega) (by omega)).trans h1.c0) (.lit _) rfl (.cons ((hb _ (by omega) (by omega)).trans h1.c1) (.lit _) rfl (.cons ((hb _ (by omega) (by omega)).trans h1.c2) (h2.mono hm) (o2 _ _ h2) (.cons ((hb _ (by omega) (by omega)).trans h1.c3) (h3.mono hm) (o2 _ _ h3) (.cons ((hb _ (by omega) (by omega)).trans h1.c4) (.isl0 _ _ h4) rfl (.nil _ _)))))
  | .node h1 h2 h3 h4 h5 h6, hb, hF => by
    rename_i ks b' cap vE vC F
    rw [Pn.cells_mk]
    have o2 : (∀ es v, IRep m (.isl es) v → v.oneCell' = true) := fun es v h => by cases h <;> rfl
    have he := THL.iel2 hm h6 (fun j _ _ => hF b' (by simp) j) (fun f hf => hF f (by simp [hf]))
    have hl : (Pn.cellsL ks).length = ks.length := by simp
    have hn : Pn.cellsL ks ≠ [] := fun e => by rw [e] at hl; simp at hl; exact h4 (List.length_eq_zero_iff.1 hl.symm)
    have hk : IRep m' (.isl (Pn.cellsL ks)) (.slice (some ⟨b', 0, none⟩) ks.length cap) := by
      have := IRep.isl (cap := cap) hn he (by omega)
      rwa [hl] at this
    exact .cons ((hb _ (by omega) (by omega)).trans h1.c0) (.lit _) rfl (.cons ((hb _ (by omega) (by omega)).trans h1.c1) (.lit _) rfl (.cons ((hb _ (by omega) (by omega)).trans h1.c2) (h2.mono hm) (o2 _ _ h2) (.cons ((hb _ (by omega) (by omega)).trans h1.c3) (h3.mono hm) (o2 _ _ h3) (.cons ((hb _ (by omega) (by omega)).trans h1.c4) hk rfl (.nil _ _)))))
theorem THL.iel2 {w : World} {m m' : Mem} (hm : MLe m m') {xs : List Pn} {b o : Nat} {F : List Nat} {H : PL} : THL w m xs b o F H → (∀ j, o ≤ j → j < o + 5 * xs.length → m' b j = w.cell? ⟨b, j, none⟩) → (∀ f ∈ F, ∀ j, m' f j = w.cell? ⟨f, j, none⟩) → IElems m' b o 5 (Pn.cellsL xs)
  | .nil b o, hb, hF => by simp only [Pn.cellsL]; exact .nil b o 5
  | .cons h1 h2, hb, hF => by
    simp only [Pn.cellsL]
    exact .cons (TH.iat2 hm h1 (fun j l1 l2 => hb j l1 (by simp only [List.length_cons]; omega)) (fun f hf => hF f (by simp [hf]))) (Pn.cells_length _) (THL.iel2 hm h2 (fun j l1 l2 => hb j (by omega) (by simp only [List.length_cons]; omega)) (fun f hf => hF f (by simp [hf])))
end
theorem THL.nth {w : World} {m : Mem} {b : Nat} : ∀ {xs : List Pn} {o : Nat} {F : List Nat} {i : Nat} {x : Pn}, THL w m xs b o F [] → xs[i]? = some x →
    ∃ Fa Fi Fz, F = Fa ++ (Fi ++ Fz) ∧ TH w m x b (o + 5 * i) Fi [] ∧ ∀ {w' : World} {m' : Mem} {y : Pn} {G : List Nat} {HY : PL}, MLe m m' → (∀ j, o ≤ j → j < o + 5 * xs.length → (j < o + 5 * i ∨ o + 5 * i + 5 ≤ j) → w'.cell? ⟨b, j, none⟩ = w.cell? ⟨b, j, none⟩) →
      (∀ f ∈ Fa ++ Fz, ∀ j, w'.cell? ⟨f, j, none⟩ = w.cell? ⟨f, j, none⟩) → TH w' m' y b (o + 5 * i) G HY → THL w' m' (xs.set i y) b o (Fa ++ (G ++ Fz)) HY := by
  intro xs
  induction xs with
  | nil => intro o F i x _ h; simp at h
  | cons a xs ih =>
    intro o F i x h hx
    generalize hH : ([] : PL) = H at h
    cases h with
    | @cons _ _ _ _ F1 F2 H1 H2 h1 h2 =>
      obtain ⟨rfl, rfl⟩ := List.append_eq_nil_iff.1 hH.symm
      cases i with
      | zero =>
        simp at hx; subst hx
        refine ⟨[], F1, F2, by simp, by simpa using h1, fun {w' m' y G HY} hm hw hF hy => ?_⟩
        have k2 := THL.frame hm (fun j l1 l2 => hw j (by omega) (by simp only [List.length_cons]; omega) (.inr (by omega))) (fun f hf => hF f (by simp [hf])) h2
        have := THL.cons hy k2
        simpa using this
      | succ i =>
        obtain ⟨Fa, Fi, Fz, e, h3, h4⟩ := ih h2 (by simpa using hx)
        subst e
        refine ⟨F1 ++ Fa, Fi, Fz, by simp, by rw [show o + 5 * (i + 1) = o + 5 + 5 * i by omega]; exact h3, fun {w' m' y G HY} hm hw hF hy => ?_⟩
        rw [show o + 5 * (i + 1) = o + 5 + 5 * i by omega] at hy
        have k1 := TH.frame hm (fun j l1 l2 => hw j l1 (by simp only [List.length_cons]; omega) (.inl (by omega))) (fun f hf => hF f (by simp [hf])) h1
        have k2 := h4 hm (fun j l1 l2 l3 => hw j (by omega) (by simp only [List.length_cons]; omega) (by omega)) (fun f hf => hF f (by rcases List.mem_append.1 hf with h | h <;> simp [h])) hy
        have := THL.cons k1 k2
        simpa using this
theorem put_snoc {path : List Int} {x y z : Pn} {i : Nat} (h : Pn.at path x = some y) : Pn.put (path ++ [(i : Int)]) x z = Pn.put path x (.mk y.kind y.table y.exprs y.cols (y.kids.set i z)) := by
  induction path generalizing x with
  | nil =>
    simp only [Pn.at, Option.some.injEq] at h; subst h
    cases hk : x.kids[i]? with
    | none =>
      have : x.kids.length ≤ i := by simpa using hk
      simp [Pn.put, hk, List.set_eq_of_length_le this, Pn.eta]
    | some k => simp [Pn.put, hk]
  | cons j path ih =>
    simp only [Pn.at] at h
    split at h
    · rename_i h0
      cases hk : x.kids[j.toNat]? with
      | none => rw [hk] at h; cases h
      | some k =>
        rw [hk] at h
        have := ih h
        simp [Pn.put, hk, this]
    · cases h
structure AtP (w:World) (m:Mem) (x:Pn) (b o:Nat) (F:List Nat) (path:List Int) (y:Pn) (bq oq:Nat) (Fa Fy Fz:List Nat):Prop where
 eq:F=Fa ++ (Fy ++ Fz)
 inb:bq∈b :: Fa
 nr:b ∉ F
 nd:F.Nodup
 is:Pn.at path x=some y
 th:TH w m y bq oq Fy []
 fill:∀ {w':World} {m':Mem} {y':Pn} {G:List Nat} {HY:PL},MLe m m'→(∀ f∈b :: (Fa ++ Fz),∀ j,(f≠bq∨j < oq∨oq + 5≤j)→w'.cell? ⟨f,j,none⟩=w.cell? ⟨f,j,none⟩)→TH w' m' y' bq oq G HY→TH w' m' (Pn.put path x y') b o (Fa ++ (G ++ Fz)) HY
theorem AtP.start {w:World} {m:Mem} {x:Pn} {b o:Nat} {F:List Nat} (h:TH w m x b o F []) (hr:b ∉ F) (hn:F.Nodup):AtP w m x b o F [] x b o [] F [] :=
 ⟨by simp,by simp,hr,hn,rfl,h,fun _ _ hy=>by simpa [Pn.put] using hy⟩
theorem AtP.mem {w:World} {m:Mem} {x:Pn} {b o:Nat} {F:List Nat} {path:List Int} {y:Pn} {bq oq:Nat} {Fa Fy Fz:List Nat} (h:AtP w m x b o F path y bq oq Fa Fy Fz):bq∈b :: F:=by
 rw [h.eq]
 rcases List.mem_cons.1 h.inb with e | e
 ·simp [e]
 ·simp [e]
theorem AtP.frame {w w':World} {m m':Mem} {x:Pn} {b o:Nat} {F:List Nat} {path:List Int} {y:Pn} {bq oq:Nat} {Fa Fy Fz:List Nat} (h:AtP w m x b o F path y bq oq Fa Fy Fz) (hm:MLe m m') (hF:∀ f∈b :: F,∀ j,w'.cell? ⟨f,j,none⟩=w.cell? ⟨f,j,none⟩):AtP w' m' x b o F path y bq oq Fa Fy Fz:=by
 refine ⟨h.eq,h.inb,h.nr,h.nd,h.is,h.th.frame hm (fun j _ _=>hF bq h.mem j) (fun f hf j=>hF f (by rw [h.eq]; simp [hf]) j),fun hm' hw hy=>h.fill (hm.trans hm') (fun f hf j hj=>?_) hy⟩
 rw [hw f hf j hj]
 refine hF f ?_ j
 rw [h.eq]
 rcases List.mem_cons.1 hf with e | e
 ·simp [e]
 ·rcases List.mem_append.1 e with e | e<;>simp [e]
theorem AtP.step {w : World} {m : Mem} {x : Pn} {b o : Nat} {F : List Nat} {path : List Int} {y z : Pn} {bq oq : Nat} {Fa Fy Fz : List Nat} {i : Nat} (h : AtP w m x b o F path y bq oq Fa Fy Fz) (hz : y.kids[i]? = some z) :
    ∃ b' cap, w.cell? ⟨bq, oq + 4, none⟩ = some (.slice (some ⟨b', 0, none⟩) y.kids.length cap) ∧ y.kids.length ≤ cap ∧ ∃ Fa' Fy' Fz', AtP w m x b o F (path ++ [(i : Int)]) z b' (5 * i) Fa' Fy' Fz' := by
  have ht := h.th
  have hFq := h.eq
  generalize hH : ([] : PL) = H at ht
  cases ht with
  | fresh => cases hH
  | leaf h1 h2 h3 h4 => simp [Pn.kids] at hz
  | @node k t es cs ks _ _ b' cap vE vC F1 _ h1 h2 h3 h4 h5 h6 =>
    subst hH
    have hz : ks[i]? = some z := hz
    obtain ⟨Ga, Gi, Gz, e, t1, t2⟩ := h6.nth hz
    subst e
    have hnd := h.nd
    rw [hFq] at hnd
    have hnr := h.nr
    rw [hFq] at hnr
    have hne : bq ≠ b' := by
      intro e
      rcases List.mem_cons.1 h.inb with e' | e'
      · exact hnr (by rw [← e', e]; simp)
      · rw [List.nodup_append] at hnd
        exact hnd.2.2 _ e' b' (by simp) e
    refine ⟨b', cap, h1.c4, h5, Fa ++ (b' :: Ga), Gi, Gz ++ Fz, by rw [hFq]; simp, by simp, h.nr, h.nd, ?_, by simpa using t1, fun {w' m' y' G HY} hm hw hy => ?_⟩
    · rw [at_append path x _ [(i : Int)] h.is]
      simp [Pn.at, Pn.kids, hz]
    · rw [put_snoc h.is]
      have hK : THL w' m' (ks.set i y') b' 0 (Ga ++ (G ++ Gz)) HY := by
        refine t2 hm (fun j _ _ hj => hw b' (by simp) j (.inr (by omega))) (fun f hf j => hw f (by rcases List.mem_append.1 hf with e | e <;> simp [e]) j (.inl ?_)) (by simpa using hy)
        intro e
        subst e
        have hb := (List.nodup_append.1 hnd).2.1
        simp only [List.cons_append, List.nodup_cons] at hb
        exact hb.1 (by rcases List.mem_append.1 hf with e | e <;> simp [e])
      have hlen : (ks.set i y').length = ks.length := by simp
      have hn : ks.set i y' ≠ [] := fun e => by rw [e] at hlen; simp at hlen; exact h4 (List.length_eq_zero_iff.1 hlen.symm)
      have hbq : bq ∈ b :: ((Fa ++ b' :: Ga) ++ (Gz ++ Fz)) := by
        rcases List.mem_cons.1 h.inb with e' | e'
        · simp [e']
        · simp [e']
      have hA := h1.frame (w' := w') (fun j l1 l2 => hw bq hbq j (.inl hne))
      rw [← hlen] at hA
      have hY : TH w' m' (.mk k t es cs (ks.set i y')) bq oq (b' :: (Ga ++ (G ++ Gz))) HY :=
        .node hA (h2.mono hm) (h3.mono hm) hn (by rw [hlen]; exact h5) hK
      have := h.fill hm (fun f hf j hj => hw f (by
        rcases List.mem_cons.1 hf with e | e
        · simp [e]
        · rcases List.mem_append.1 e with e | e <;> simp [e]) j (by
        by_cases e : f = b'
        · subst e
          exfalso
          rcases List.mem_cons.1 hf with e | e
          · exact hnr (by rw [← e]; simp)
          · rcases List.mem_append.1 e with e | e
            · exact (List.nodup_append.1 hnd).2.2 _ e f (by simp) rfl
            · have hb := (List.nodup_append.1 hnd).2.1
              simp only [List.cons_append, List.nodup_cons] at hb
              exact hb.1 (by simp [e])
        · exact .inl e)) hY
      simpa [Pn.kind, Pn.table, Pn.exprs, Pn.cols, Pn.kids] using this
end Go.Av

namespace Go.Av
def TreeBlk:Blk→Prop
 | .box cs=>∀ c∈cs,(∃ v,c=.i v)∨c=.nils
 | .loop _ _ _=>False
 | _=>True
theorem RepC.tree {m : Mem} {φ φ' : Pl} : ∀ {cs : List AV} {vs : List Value}, (∀ c ∈ cs, (∃ v, c = .i v) ∨ c = .nils) → RepC m φ cs vs → RepC m φ' cs vs
  | [], _, _, .nil => .nil
  | c :: cs, _, h, .cons a o r => by
    have hr := RepC.tree (m := m) (φ' := φ') (fun d hd => h d (by simp [hd])) r
    rcases h c (by simp) with ⟨v, rfl⟩ | rfl
    · cases a with | i a => exact .cons (.i a) o hr
    · cases a; exact .cons .nils o hr
theorem BlkOk.tree {w:World} {m:Mem} {φ φ':Pl} {b:Nat} {n:Ext} {blk:Blk} (hl:TreeBlk blk) (h:BlkOk w m φ b n blk):BlkOk w m φ' b n blk:=by
 cases h with
 | box h1 h2 h3 h4=>exact .box h1 h2 (h3.tree hl) h4
 | arr h1 h2 h3 h4 h5 h6 h7 h8 h9=>exact .arr h1 h2 h3 h4 h5 h6 h7 h8 h9
 | frz h1 h2=>exact .frz h1 h2
 | fbox h1=>exact .fbox h1
 | tre h1 h2 h3 h4 h5 h6 h7 h8 h9=>exact .tre h1 h2 h3 h4 h5 h6 h7 h8 h9
 | loop=>cases hl
theorem Inv.cutT {w:World} {m:Mem} {φ:Pl} {st st':Store} (hi:Inv w m φ st) (hst:∀ i blk,st' i=some blk→st i=some blk∧TreeBlk blk):Inv w m (cutP st' φ) st':=by
 refine ⟨hi.mem,?_,?_,fun i b n f e ho=>hi.low i b n f (cutP_some e).1 ho⟩
 ·intro i blk hb
  obtain ⟨h1,h2⟩:=hst i blk hb
  obtain ⟨b,n,q1,q2,q3⟩:=hi.live i blk h1
  exact ⟨b,n,by rw [cutP_eq (by rw [hb]; simp)]; exact q1,q2,q3.tree h2⟩
 ·intro i j b bx n n2 b1 b2 f h1 h2 h3 h4 o1 o2
  exact hi.inj i j b bx n n2 b1 b2 f (hst i b1 h1).1 (hst j b2 h2).1 (cutP_some h3).1 (cutP_some h4).1 o1 o2
theorem free_droppedT {w : World} {m : Mem} {φ : Pl} {st st' : Store} {id b f : Nat} {n : Ext} {blk : Blk} (hi : Inv w m φ st) (hst : ∀ i blk, st' i = some blk → st i = some blk) (hid : st id = some blk) (hn : st' id = none) (e : φ id = some (b, n)) (ho : n.own f) : Free (cutP st' φ) f := by
  intro i r n' e' ho'
  obtain ⟨h1, h2⟩ := cutP_some e'
  cases hb : st' i with
  | none => exact h2 hb
  | some blk' =>
    have := hi.inj i id r b n' n blk' blk f (hst i blk' hb) hid h1 e ho' ho
    rw [this, hn] at hb; cases hb
def StaysT (st':Store):AV→Prop
 | .i _=>True
 | .own id _=>st' id≠none
 | .osl id _ _ _=>st' id≠none
 | .nils=>True
 | _=>False
theorem StaysT.rep {m:Mem} {φ φ':Pl} {st':Store} {v:AV} {x:Value} (h:StaysT st' v) (he:∀ i,st' i≠none→φ' i=φ i) (hr:Rep m φ v x):Rep m φ' v x:=by
 unfold StaysT at h
 split at h
 ·cases hr with | i k=>exact .i k
 ·cases hr with
  | own e=>exact .own (by rw [he _ h]; exact e)
 ·cases hr with
  | osl e a b c d=>exact .osl (by rw [he _ h]; exact e) a b c d
 ·cases hr; exact .nils
 ·cases h
theorem Inv.growN {w w':World} {m m':Mem} {φ:Pl} {st:Store} (hi:Inv w m φ st) (ha:Adv w m (fun _=>none) w' m' (fun _=>none)) (hm:MemOk w' m'):Inv w' m' φ st∧Adv w m φ w' m' φ:=by
 have hb:∀ f,f < w.heap.size→w'.heap[f]?=w.heap[f]?:=fun f hf=>ha.block f hf fun _ _ _ e=>by cases e
 have hn:∀ f,f < w.heap.size→∀ o,m' f o=m f o:=fun f hf=>ha.mnew f hf fun _ _ _ e=>by cases e
 refine ⟨⟨hm,fun id blk e=>?_,hi.inj,fun id b n f e ho=>Nat.lt_of_lt_of_le (hi.low id b n f e ho) ha.size⟩,⟨ha.size,ha.os,ha.tape,ha.output,fun b hb' _=>hb b hb',ha.mle,fun b hb' _=>hn b hb', .refl _,fun _ _ _ _ e ho=>.inr (Free.not e ho)⟩⟩
 obtain ⟨b,n,k1,k2,k3⟩:=hi.live id blk e
 exact ⟨b,n,k1,⟨k2.1,fun f hf=>Nat.lt_of_lt_of_le (k2.2 f hf) ha.size⟩,k3.mono k2.1 (fun f hf=>hb f (k2.2 f hf)) ha.mle (.refl _) fun f hf=>hn f (k2.2 f hf)⟩
structure CPY (wi:World) (p:Pn) (F:List Nat) (v0 v1 v2 v3 v4:Value) (w:World) (m:Mem) (φ:Pl):Prop where
 th:∀ {w':World} {m':Mem} {b o:Nat},MLe m m'→(∀ f∈F,∀ j,w'.cell? ⟨f,j,none⟩=w.cell? ⟨f,j,none⟩)→At5 w' b o v0 v1 v2 v3 v4→TH w' m' p b o F []
 cells:∀ {m':Mem},MLe m m'→(∀ f∈F,∀ j,m' f j=w.cell? ⟨f,j,none⟩)→ICells m' p.cells [v0,v1,v2,v3,v4]
 nd:F.Nodup
 all:∀ f∈F,wi.heap.size≤f∧f < w.heap.size∧Free φ f∧(∀ o,m f o=none)∧∃ (vs:List Value) (T:TypeId),w.heap[f]?=some (.cells vs.toArray T (0,0))∧∀ v∈vs,v.oneCell'=true
theorem CPY.stab (wi:World) (p:Pn) (F:List Nat) (v0 v1 v2 v3 v4:Value):Stab (CPY wi p F v0 v1 v2 v3 v4):=by
 intro w m φ w' m' φ' ha h
 have hs:∀ f∈F,w'.heap[f]?=w.heap[f]?:=fun f hf=>ha.block f (h.all f hf).2.1 (h.all f hf).2.2.1
 refine ⟨fun hm hw h5=>h.th (ha.mle.trans hm) (fun f hf j=>(hw f hf j).trans (cells_same (hs f hf) j)) h5,fun hm hw=>h.cells (ha.mle.trans hm) fun f hf j=>(hw f hf j).trans (cells_same (hs f hf) j),h.nd,fun f hf=>?_⟩
 obtain ⟨k1,k2,k3,k4,vs,T,k5,k6⟩:=h.all f hf
 exact ⟨k1,Nat.lt_of_lt_of_le k2 ha.size,ha.range k2 k3,fun o=>(ha.mnew f k2 k3 o).trans (k4 o),vs,T,by rw [hs f hf]; exact k5,k6⟩
theorem TH.cells {w : World} {m : Mem} {x : Pn} {b o : Nat} {F : List Nat} (h : TH w m x b o F []) : ∃ v0 v1 v2 v3 v4, At5 w b o v0 v1 v2 v3 v4 ∧ (∀ v ∈ [v0, v1, v2, v3, v4], v.oneCell' = true) ∧ (∃ ao cap, v4 = .slice ao x.kids.length cap) ∧ (∀ {w' : World} {m' : Mem} {b' o' : Nat}, MLe m m' → (∀ f ∈ F, ∀ j, w'.cell? ⟨f, j, none⟩ = w.cell? ⟨f, j, none⟩) → At5 w' b' o' v0 v1 v2 v3 v4 → TH w' m' x b' o' F []) ∧
    ∀ {m' : Mem}, MLe m m' → (∀ f ∈ F, ∀ j, m' f j = w.cell? ⟨f, j, none⟩) → ICells m' x.cells [v0, v1, v2, v3, v4] := by
  have o2 : ∀ {m : Mem} es v, IRep m (.isl es) v → v.oneCell' = true := fun es v h => by cases h <;> rfl
  generalize hH : ([] : PL) = H at h
  cases h with
  | fresh => cases hH
  | leaf h1 h2 h3 h4 =>
    refine ⟨_, _, _, _, _, h1, (by intro v hv; simp only [List.mem_cons, List.not_mem_nil, or_false] at hv; rcases hv with rfl | rfl | rfl | rfl | rfl <;> first | rfl | exact o2 _ _ h2 | exact o2 _ _ h3), ⟨_, _, rfl⟩, fun hm _ h5 => .leaf h5 (h2.mono hm) (h3.mono hm) h4, fun hm _ => ?_⟩
    rw [Pn.cells_mk]
    exact .cons (.lit _) rfl (.cons (.lit _) rfl (.cons (h2.mono hm) (o2 _ _ h2) (.cons (h3.mono hm) (o2 _ _ h3) (.cons (.isl0 _ _ h4) rfl .nil))))
  | @node k t es cs ks _ _ b' cap vE vC F1 _ h1 h2 h3 h4 h5 h6 =>
    subst hH
    refine ⟨_, _, _, _, _, h1, (by intro v hv; simp only [List.mem_cons, List.not_mem_nil, or_false] at hv; rcases hv with rfl | rfl | rfl | rfl | rfl <;> first | rfl | exact o2 _ _ h2 | exact o2 _ _ h3), ⟨_, _, rfl⟩, fun hm hF k5 => .node k5 (h2.mono hm) (h3.mono hm) h4 h5 (h6.frame hm (fun j _ _ => hF _ (by simp) j) fun f hf => hF f (by simp [hf])), fun hm hF => ?_⟩
    rw [Pn.cells_mk]
    have he := THL.iel2 hm h6 (fun j _ _ => hF b' (by simp) j) (fun f hf => hF f (by simp [hf]))
    have hl : (Pn.cellsL ks).length = ks.length := by simp
    have hn : Pn.cellsL ks ≠ [] := fun e => by rw [e] at hl; simp at hl; exact h4 (List.length_eq_zero_iff.1 hl.symm)
    have hk := IRep.isl (cap := cap) hn he (by omega)
    rw [hl] at hk
    exact .cons (.lit _) rfl (.cons (.lit _) rfl (.cons (h2.mono hm) (o2 _ _ h2) (.cons (h3.mono hm) (o2 _ _ h3) (.cons hk rfl .nil))))
structure RAT (wi:World) (root:Nat) (p:Pn) (F:List Nat) (path:List Int) (y:Pn) (bq oq:Nat) (Fa Fy Fz:List Nat) (w:World) (m:Mem) (φ:Pl):Prop where
 raw:RAW wi root p F [] w m φ
 pos:AtP w m p root 0 F path y bq oq Fa Fy Fz
theorem RAT.stab (wi:World) (root:Nat) (p:Pn) (F:List Nat) (path:List Int) (y:Pn) (bq oq:Nat) (Fa Fy Fz:List Nat):Stab (RAT wi root p F path y bq oq Fa Fy Fz):=by
 intro w m φ w' m' φ' ha h
 exact ⟨RAW.stab wi root p F [] w m φ w' m' φ' ha h.raw,h.pos.frame ha.mle fun f hf j=>cells_same (ha.block f (h.raw.all f hf).2.1 (h.raw.all f hf).2.2.1) j⟩
structure ADK (wi:World) (root:Nat) (p:Pn) (F:List Nat) (path:List Int) (y:Pn) (bq oq:Nat) (Fa Fy Fz:List Nat) (k:Nat) (wa:World) (ma:Mem) (w:World) (m:Mem) (φ:Pl):Prop where
 pos:AtP wa ma p root 0 F path y bq oq Fa Fy Fz
 le:MLe ma m
 own:∃ n,φ k=some (bq,n)
 bqn:wi.heap.size≤bq
 oth:∀ f∈root :: F,f≠bq→wi.heap.size≤f∧f < w.heap.size∧Free φ f∧(∀ o,m f o=none)∧w.heap[f]?=wa.heap[f]?∧∃ (vs:List Value) (T:TypeId),wa.heap[f]?=some (.cells vs.toArray T (0,0))∧∀ v∈vs,v.oneCell'=true
theorem ADK.stab (wi:World) (root:Nat) (p:Pn) (F:List Nat) (path:List Int) (y:Pn) (bq oq:Nat) (Fa Fy Fz:List Nat) (k:Nat) (wa:World) (ma:Mem):Stab (ADK wi root p F path y bq oq Fa Fy Fz k wa ma):=by
 intro w m φ w' m' φ' ha h
 refine ⟨h.pos,h.le.trans ha.mle,?_,h.bqn,fun f hf hne=>?_⟩
 ·obtain ⟨n,e⟩:=h.own
  obtain ⟨n',e',_⟩:=ha.ple _ _ _ e
  exact ⟨n',e'⟩
 ·obtain ⟨k1,k2,k3,k4,k5,k6⟩:=h.oth f hf hne
  exact ⟨k1,Nat.lt_of_lt_of_le k2 ha.size,ha.range k2 k3,fun o=>(ha.mnew f k2 k3 o).trans (k4 o),(ha.block f k2 k3).trans k5,k6⟩
def RawPost (wi:World) (mi:Mem) (p:Pn) (e:Ending) (w:World):Prop :=
 ∃ v0 v1 v2 v3 v4 F m,e=.returned (.agg #[v0,v1,v2,v3,v4])∧(∀ v∈[v0,v1,v2,v3,v4],v.oneCell'=true)∧MemOk w m∧Adv wi mi (fun _=>none) w m (fun _=>none)∧CPY wi p F v0 v1 v2 v3 v4 w m (fun _=>none)
theorem RawPost.tree {wi:World} {mi:Mem} {p:Pn} {e:Ending} {w:World} (h:RawPost wi mi p e w):CallPost wi mi (fun _=>none) (.i (.agg p.cells)) [] e w:=by
 classical
 obtain ⟨v0,v1,v2,v3,v4,F,m,rfl,hone,hm,ha,hc⟩:=h
 let m':Mem:=fun f o=>if f∈F then w.cell? ⟨f,o,none⟩ else m f o
 have hin:∀ f,f∈F→∀ o,m' f o=w.cell? ⟨f,o,none⟩:=fun f hf o=>by show (if f∈F then _ else _)=_; rw [if_pos hf]
 have hout:∀ f,f ∉ F→∀ o,m' f o=m f o:=fun f hf o=>by show (if f∈F then _ else _)=_; rw [if_neg hf]
 have hle:MLe m m':=fun f o v e=>by
  by_cases hf:f∈F
  ·rw [(hc.all f hf).2.2.2.1 o] at e; cases e
  ·rw [hout f hf]; exact e
 have hmem:MemOk w m':=fun f o v e=>by
  by_cases hf:f∈F
  ·rw [hin f hf] at e; exact e
  ·rw [hout f hf] at e; exact hm f o v e
 refine ⟨_,m',fun _=>none,rfl, .i (.agg (hc.cells hle hin)),⟨hmem,fun id blk e=>by simp [stOf] at e,fun id id' b b' n n' blk blk' f e=>by simp [stOf] at e,fun _ _ _ _ e=>by cases e⟩,⟨ha.size,ha.os,ha.tape,ha.output,ha.block,ha.mle.trans hle,fun f hf hfr o=>?_, .refl _,fun _ _ _ _ e=>by cases e⟩,fun id h=>absurd rfl h⟩
 rw [hout f (fun hf'=>by have:=(hc.all f hf').1; omega)]
 exact ha.mnew f hf hfr o
section
variable {C:Ctx} {wi:World} {mi:Mem} {nt:Nat}
theorem GR.ops (hS:SoundOk C) {ops:Array Oper} {Q:Exit→Act→World→Prop} {base:Nat} {js:List Nat} {R:World→Mem→Pl→Prop} (hR:Stab R) (hs:ops.all (operOk nt)=true) {os:List Oper} {i:Nat} {R0 R1:RS} {a:Act} {w:World} (hl:∀ j,j < os.length→os[j]?=ops[i + j]?) (hx:runOps C (callA C) ops.toList false base os i R0=some R1)
  (h:GR wi mi nt (okIn base fun j=>j < i) R R0.env R0.st a w) (hQ:∀ a' w',GR wi mi nt (okIn base fun j=>j < i + os.length) R R1.env R1.st a' w'→wpOpsIn (FR none) 0 C.P ops Q js a' w'):wpOpsIn (FR none) 0 C.P ops Q (List.range' i os.length ++ js) a w:=by
 obtain ⟨⟨m,φ,h1,h2,h3,h4,h5⟩,h6,h7⟩:=h
 refine runOps_wp_pre hS.ctx (callA_sound hS) (fun o ho=>Array.all_eq_true_iff_forall_mem.1 hs o ho) os i R0 R1 a w hl hx ⟨⟨m,φ,h1,h2, .refl _ _ _,h4, .nil _ _ _⟩,h6,h7⟩ fun a' w' k=>hQ a' w' ?_
 obtain ⟨⟨m',φ',k1,k2,k3,k4,_⟩,k5,k6⟩:=k
 exact ⟨⟨m',φ',k1,k2,h3.trans k3,k4,hR _ _ _ _ _ _ k3 h5⟩,k5,k6⟩
theorem GR.opsK (hS:SoundOk C) {ops:Array Oper} {Q:Exit→Act→World→Prop} {base:Nat} {js:List Nat} {R:World→Mem→Pl→Prop} (hR:Stab R) (i k:Nat) (hk:decide (i + k≤ops.toList.length)=true) (hs:ops.all (operOk nt)=true) {R0 R1:RS} {a:Act} {w:World} (hx:runOps C (callA C) ops.toList false base ((ops.toList.drop i).take k) i R0=some R1)
  (h:GR wi mi nt (okIn base fun j=>j < i) R R0.env R0.st a w) (hQ:∀ a' w',GR wi mi nt (okIn base fun j=>j < i + k) R R1.env R1.st a' w'→wpOpsIn (FR none) 0 C.P ops Q js a' w'):wpOpsIn (FR none) 0 C.P ops Q (List.range' i k ++ js) a w:=by
 have hk:=of_decide_eq_true hk
 have hl:((ops.toList.drop i).take k).length=k:=by rw [List.length_take,List.length_drop]; omega
 have:=GR.ops (js:=js) hS hR hs (os:=(ops.toList.drop i).take k) (i:=i) (fun j hj=>by
  rw [hl] at hj
  rw [List.getElem?_take,if_pos hj,List.getElem?_drop,Array.getElem?_toList]) hx h (by rw [hl]; exact hQ)
 rwa [hl] at this
theorem wpOp_callX {P:Program} {ops:Array Oper} {Q:Exit→Act→World→Prop} {K:Act→World→Prop} {i d:Nat} {g:FuncId} {args:Array Operand} {ts:Array TypeId} {a:Act} {w:World} {fn:Func} {o:Oper} (ho:ops[i]?=some o) (hop:o.op=.call ⟨.value (.func g),args,ts⟩) (hd:o.dst=some d) (hg:o.guard=none)
  (hf:P.funcs[g]?=some fn) (hn:fn.name≠ "runtime.NumGoroutine") (hb:fn.body.isSome=true) {vs:List Value} (hargs:args.toList.map a.eval=vs) (hc:Calls P g vs.toArray w fun e w'=>∃ y,e=.returned y∧K (a.put (some d) y) w'):wpOpIn (FR none) 0 P ops Q i K a w:=by
 obtain ⟨dst,op,ty,pos,after,guard⟩:=o
 simp only at hop hd hg
 subst hop hd hg
 have hmap:args.map a.eval=vs.toArray:=by apply Array.ext'; simp [hargs]
 rw [← hmap] at hc
 unfold wpOpIn
 rw [ho]
 simp only [Region.wanted,if_true]
 refine ⟨fun _ _=>trivial,?_⟩
 rw [Oper.semAt_eq _ _ _ (fun c e=>by cases e)]
 have hbody:fn.body≠none:=by intro h; rw [h] at hb; cases hb
 have hrun:(execOp a.eval ⟨some d, .call ⟨.value (.func g),args,ts⟩,ty,pos,after,none⟩).run P w=.ok (.enter g (args.map a.eval)) w:=by
  unfold execOp
  simp [resolve,Deferred.ofValue,Act.eval,invoke,callFunc,hf,hn,hbody]
 rw [hrun]
 rw [Oper.uponIn_enter]
 refine ⟨fun h=>(by cases h),callsFR (hc.mono ?_)⟩
 rintro e w' ⟨y,rfl,k⟩
 exact k
theorem GR.put {ok:Nat→Prop} {R:World→Mem→Pl→Prop} {env:Nat→AV} {st:Store} {a:Act} {w:World} {d:Nat} {x:AV} {v:Value} (hd:d < nt) (h:GR wi mi nt ok R env st a w) (hr:∀ m φ,R w m φ→Rep m φ x v):GR wi mi nt ok R (upd env d x) st (a.put (some d) v) w:=by
 obtain ⟨⟨m,φ,hi,henv,hadv,hok,hK⟩,hsz,hdf⟩:=h
 exact ⟨⟨m,φ,hi,putA_rep (dst:=some d) henv hsz (by simpa [dstOk] using hd) (hr m φ hK),hadv,hok,hK⟩,by rw [put_size]; exact hsz,by rw [put_defers']; exact hdf⟩
theorem GR.pubC {ok : Nat → Prop} {wx : World} {p : Pn} {F : List Nat} {v0 v1 v2 v3 v4 : Value} {env : Nat → AV} {st st' : Store} {a : Act} {w : World} {u id : Nat} (h : GR wi mi nt ok (CPY wx p F v0 v1 v2 v3 v4) env st a w) (hwx : wi.heap.size ≤ wx.heap.size) (hu : env u = .own id 0) (hbox : st id = some (.box (litVs [v0, v1, v2, v3, v4])))
    (hst : ∀ i blk, st' i = some blk → i ≠ id ∧ st i = some blk ∧ TreeBlk blk) :
    ∃ b3, ∀ env', (∀ t, env' t = .junk ∨ (t = u ∧ env' t = .i (.lit (.pointer (some ⟨b3, 0, none⟩)))) ∨ (env' t = env t ∧ StaysT st' (env t))) → GR wi mi nt (fun i => st' i ≠ none) (RAW wi b3 p F []) env' st' a w := by
  obtain ⟨⟨m, φ, hi, henv, hadv, hk, hc⟩, h6, h7⟩ := h
  have hr := henv u; rw [hu] at hr
  generalize hy : a.tmps.getD u undef = yy at hr
  cases hr with
  | @own _ _ b3 n3 e3 =>
    obtain ⟨hb, hok⟩ := blk_own hi e3 hbox
    have hst2 : ∀ i blk, st' i = some blk → st i = some blk ∧ TreeBlk blk := fun i blk hb => (hst i blk hb).2
    cases hok with
    | @box T _ vs hh hl hrc hm =>
      obtain rfl := (litVs_eq hrc).symm
      have hnF : b3 ∉ F := fun hf => (hc.all b3 hf).2.2.1 id b3 n3 e3 hb.1
      refine ⟨b3, fun env' he => ⟨⟨m, cutP st' φ, hi.cutT hst2, fun t => ?_, hadv.cut, fun i hi' => ?_, ?_⟩, h6, h7⟩⟩
      · rcases he t with e | ⟨rfl, e⟩ | ⟨e, e'⟩
        · rw [e]; exact .junk _
        · rw [e, hy]; exact .i (.lit _)
        · rw [e]; exact e'.rep (fun i hi' => cutP_eq hi') (henv t)
      · cases hx : cutP st' φ i with
        | none => exact absurd hx hi'
        | some q => exact (cutP_some hx).2
      · refine ⟨hc.th (.refl _) (fun _ _ _ => rfl) ⟨by rw [cell_row hh]; rfl, by rw [cell_row hh]; rfl, by rw [cell_row hh]; rfl, by rw [cell_row hh]; rfl, by rw [cell_row hh]; rfl⟩, hnF, hc.nd, fun f hf => ?_⟩
        rcases List.mem_cons.1 hf with rfl | hf
        · refine ⟨new_owned hadv e3 hb.1, hb.2 _ hb.1, ?_, hm, _, T, hh, hrc.one⟩
          refine free_droppedT hi (fun i blk h => (hst2 i blk h).1) hbox ?_ e3 hb.1
          cases hx : st' id with
          | none => rfl
          | some blk => exact absurd rfl (hst id blk hx).1
        · obtain ⟨q1, q2, q3, q4, q5⟩ := hc.all f hf
          exact ⟨Nat.le_trans hwx q1, q2, q3.cut, q4, q5⟩
theorem GR.adoptC {ok:Nat→Prop} {root:Nat} {p:Pn} {F:List Nat} {env:Nat→AV} {st:Store} {a:Act} {w:World} {u k:Nat} (h:GR wi mi nt ok (RAW wi root p F []) env st a w) (hu:env u=.i (.lit (.pointer (some ⟨root,0,none⟩)))) (hk:st k=none) (hok:¬ ok k) :
  ∃ v0 v1 v2 v3 v4 post,(∀ v∈[v0,v1,v2,v3,v4],v.oneCell'=true)∧∀ env',(∀ t,env' t=.junk∨(t=u∧env' t=.own k 0)∨env' t=env t) →
   GR wi mi nt (fun id=>ok id∨id=k) (CPY wi p F v0 v1 v2 v3 v4) env' (upd st k (some (.box (litVs [v0,v1,v2,v3,v4] ++ litVs post)))) a w:=by
 obtain ⟨⟨m,φ,hi,henv,hadv,hid,hr⟩,h6,h7⟩:=h
 obtain ⟨k1,k2,k3,k4,us,T,k5,k6⟩:=hr.all root (by simp)
 obtain ⟨v0,v1,v2,v3,v4,h5,_,_,hth,hce⟩:=hr.th.cells
 have gc:∀ {o:Nat} {v:Value},w.cell? ⟨root,o,none⟩=some v→us[o]?=some v:=fun h=>by rwa [cell_row k5] at h
 have hrow:=row_five (gc h5.c0) (gc h5.c1) (gc h5.c2) (gc h5.c3) (gc h5.c4)
 simp only [List.take_zero,List.nil_append,Nat.zero_add] at hrow
 have hφk:φ k=none:=by
  cases e:φ k with
  | none=>rfl
  | some q=>exact absurd (hid k (by rw [e]; simp)) hok
 refine ⟨v0,v1,v2,v3,v4,us.drop 5,fun v hv=>k6 v (by rw [hrow]; exact List.mem_append_left _ hv),fun env' he=>?_⟩
 have hrep:RepC m (upd φ k (some (root,one root us.length))) (litVs [v0,v1,v2,v3,v4] ++ litVs (us.drop 5)) us:=by
  have h1:=litVs_rep (m:=m) (φ:=upd φ k (some (root,one root us.length))) (vs:=us) k6
  have:litVs us=litVs [v0,v1,v2,v3,v4] ++ litVs (us.drop 5):=by
   conv=>lhs; rw [hrow]
   simp [litVs]
  rwa [this] at h1
 have hp:PLe φ (upd φ k (some (root,one root us.length))):=fun i r n e=>by
  refine ⟨n,?_,rfl,fun _ h=>h⟩
  have:i≠k:=fun h=>by rw [h,hφk] at e; cases e
  simp [upd,this,e]
 refine ⟨⟨m,upd φ k (some (root,one root us.length)),hi.adopt hk hφk k3 k4 k5 hrep,fun t=>?_,hadv.adopt k1,fun id hne=>?_,?_⟩,h6,h7⟩
 ·rcases he t with e | ⟨rfl,e⟩ | e
  ·rw [e]; exact .junk _
  ·have:=henv t; rw [hu] at this
   rw [e,this.lit_eq]
   exact .own (n:=one root us.length) (by simp [upd])
  ·rw [e]
   exact (henv t).mono (.refl _) hp
 ·by_cases e:id=k
  ·exact .inr e
  ·simp [upd,e] at hne
   exact .inl (hid id hne)
 ·refine ⟨hth,hce,hr.nd,fun f hf=>?_⟩
  obtain ⟨q1,q2,q3,q4,q5⟩:=hr.all f (by simp [hf])
  refine ⟨q1,q2,fun i r n e ho=>?_,q4,q5⟩
  by_cases e2:i=k
  ·subst e2
   simp [upd] at e
   obtain ⟨rfl,rfl⟩:=e
   have:f=root:=ho
   exact hr.nr (this ▸ hf)
  ·simp [upd,e2] at e
   exact q3 i r n e ho
theorem GR.adoptP {ok:Nat→Prop} {root:Nat} {p:Pn} {F:List Nat} {path:List Int} {y:Pn} {bq oq:Nat} {Fa Fy Fz:List Nat} {env:Nat→AV} {st st':Store} {a:Act} {w:World} {u k:Nat} (h:GR wi mi nt ok (RAT wi root p F path y bq oq Fa Fy Fz) env st a w) (hu:env u=.i (.lit (.pointer (some ⟨bq,oq,none⟩))))
  (hst:∀ i blk,st' i=some blk→st i=some blk∧TreeBlk blk) (hk:st' k=none) :
  ∃ pre row post ma,row.length=5∧pre.length=oq∧∀ env',(∀ t,env' t=.junk∨(t=u∧env' t=.own k oq)∨(env' t=env t∧StaysT st' (env t))) →
   GR wi mi nt (fun id=>st' id≠none∨id=k) (fun w' m' φ'=>ADK wi root p F path y bq oq Fa Fy Fz k w ma w' m' φ'∧(∃ T,w.heap[bq]?=some (.cells (pre ++ (row ++ post)).toArray T (0,0)))) env' (upd st' k (some (.box (boxL pre (litVs row) post)))) a w:=by
 obtain ⟨⟨m,φ,hi,henv,hadv,hok,hr⟩,h6,h7⟩:=h
 have hinF:=hr.pos.mem
 obtain ⟨k1,k2,k3,k4,us,T,k5,k6⟩:=hr.raw.all bq hinF
 obtain ⟨v0,v1,v2,v3,v4,h5,_,_,_,_⟩:=hr.pos.th.cells
 have gc:∀ {o:Nat} {v:Value},w.cell? ⟨bq,o,none⟩=some v→us[o]?=some v:=fun h=>by rwa [cell_row k5] at h
 have hrow:=row_five (gc h5.c0) (gc h5.c1) (gc h5.c2) (gc h5.c3) (gc h5.c4)
 have hl4:=(List.getElem?_eq_some_iff.1 (gc h5.c4)).1
 have hi2:=hi.cutT hst
 have hφk:cutP st' φ k=none:=by unfold cutP; rw [hk]
 have hfr:Free (cutP st' φ) bq:=k3.cut
 refine ⟨us.take oq,[v0,v1,v2,v3,v4],us.drop (oq + 5),m,rfl,by rw [List.length_take]; omega,fun env' he=>?_⟩
 have hrep:RepC m (upd (cutP st' φ) k (some (bq,one bq us.length))) (boxL (us.take oq) (litVs [v0,v1,v2,v3,v4]) (us.drop (oq + 5))) us:=by
  have h1:=litVs_rep (m:=m) (φ:=upd (cutP st' φ) k (some (bq,one bq us.length))) (vs:=us) k6
  have:litVs us=boxL (us.take oq) (litVs [v0,v1,v2,v3,v4]) (us.drop (oq + 5)):=by
   conv=>lhs; rw [hrow]
   simp [boxL,litVs]
  rwa [this] at h1
 have hp:PLe (cutP st' φ) (upd (cutP st' φ) k (some (bq,one bq us.length))):=fun i r n e=>by
  refine ⟨n,?_,rfl,fun _ h=>h⟩
  have:i≠k:=fun h=>by rw [h,hφk] at e; cases e
  simp [upd,this,e]
 refine ⟨⟨m,upd (cutP st' φ) k (some (bq,one bq us.length)),hi2.adopt hk hφk hfr k4 k5 hrep,fun t=>?_,(Adv.cut hadv).adopt k1,fun id hid=>?_,?_,?_⟩,h6,h7⟩
 ·rcases he t with e | ⟨rfl,e⟩ | ⟨e,e'⟩
  ·rw [e]; exact .junk _
  ·have:=henv t; rw [hu] at this
   rw [e,this.lit_eq]
   exact .own (n:=one bq us.length) (by simp [upd])
  ·rw [e]
   exact (e'.rep (fun i hi'=>cutP_eq hi') (henv t)).mono (.refl _) hp
 ·by_cases e:id=k
  ·exact .inr e
  ·simp [upd,e] at hid
   cases hx:cutP st' φ id with
   | none=>exact absurd hx hid
   | some q=>exact .inl (cutP_some hx).2
 ·refine ⟨hr.pos, .refl _,⟨one bq us.length,by simp [upd]⟩,k1,fun f hf hne=>?_⟩
  obtain ⟨q1,q2,q3,q4,q5⟩:=hr.raw.all f hf
  refine ⟨q1,q2,fun i r n e ho=>?_,q4,rfl,q5⟩
  by_cases e2:i=k
  ·subst e2
   simp [upd] at e
   obtain ⟨rfl,rfl⟩:=e
   exact hne ho
  ·simp [upd,e2] at e
   exact q3 i r n (cutP_some e).1 ho
 ·exact ⟨T,by rw [← hrow]; exact k5⟩
theorem GR.giveP {ok : Nat → Prop} {root : Nat} {p q : Pn} {F : List Nat} {path : List Int} {y : Pn} {bq oq : Nat} {Fa Fy Fz : List Nat} {env env' : Nat → AV} {st st' : Store} {a : Act} {w wa : World} {ma : Mem} {k : Nat} {pre row post : List Value}
    (h : GR wi mi nt ok (fun w' m' φ' => ADK wi root p F path y bq oq Fa Fy Fz k wa ma w' m' φ' ∧ (∃ T, wa.heap[bq]? = some (.cells (pre ++ (row ++ post)).toArray T (0, 0)))) env st a w) (hrl : row.length = 5) (hpl : pre.length = oq) (hbox : st k = some (.box (boxL pre (impI q.cells) post)))
    (hst : ∀ i blk, st' i = some blk → i ≠ k ∧ st i = some blk ∧ TreeBlk blk) (he : ∀ t, env' t = .junk ∨ (env' t = env t ∧ StaysT st' (env t))) :
    GR wi mi nt (fun id => st' id ≠ none) (RAW wi root (Pn.put path p q) (Fa ++ ([] ++ Fz)) [((bq, oq), q)]) env' st' a w := by
  obtain ⟨⟨m, φ, hi, henv, hadv, hk, hr, T0, hrow0⟩, h6, h7⟩ := h
  obtain ⟨n2, e2⟩ := hr.own
  obtain ⟨hb2, hok2⟩ := blk_own hi e2 hbox
  have hst2 : ∀ i blk, st' i = some blk → st i = some blk ∧ TreeBlk blk := fun i blk hb => (hst i blk hb).2
  cases hok2 with
  | @box T _ vs hh hl hrc hm =>
    have hone := hrc.one
    obtain ⟨vp, x, rfl, r1, r2⟩ := repC_append hrc
    obtain ⟨vr, vq, rfl, r3, r4⟩ := repC_append r2
    obtain rfl := (litVs_eq r1).symm
    obtain rfl := (litVs_eq r4).symm
    have hc := repC_impI r3
    have hlen := hc.length
    rw [Pn.cells_length] at hlen
    obtain ⟨v0, v1, v2, v3, v4, rfl⟩ : ∃ v0 v1 v2 v3 v4, vr = [v0, v1, v2, v3, v4] := by
      match vr, hlen with
      | [v0, v1, v2, v3, v4], _ => exact ⟨v0, v1, v2, v3, v4, rfl⟩
    have hcell : ∀ f ∈ root :: F, f ≠ bq → ∀ j, w.cell? ⟨f, j, none⟩ = wa.cell? ⟨f, j, none⟩ := fun f hf hne j => cells_same (hr.oth f hf hne).2.2.2.2.1 j
    have sub : ∀ f ∈ root :: (Fa ++ ([] ++ Fz)), f ∈ root :: F := fun f hf => by
      rw [hr.pos.eq]
      rcases List.mem_cons.1 hf with e | e
      · simp [e]
      · rcases List.mem_append.1 e with e | e
        · simp [e]
        · simp at e; simp [e]
    have g : ∀ (i : Nat), i < 5 → (pre ++ ([v0, v1, v2, v3, v4] ++ post))[oq + i]? = [v0, v1, v2, v3, v4][i]? := fun i hi => by
      rw [List.getElem?_append_right (by omega), List.getElem?_append_left (by simp; omega), hpl, Nat.add_sub_cancel_left]
    have far : ∀ (r : List Value), r.length = 5 → ∀ j, oq + 5 ≤ j → (pre ++ (r ++ post))[j]? = post[j - oq - 5]? := fun r hr j hj => by
      rw [List.getElem?_append_right (by omega), List.getElem?_append_right (by omega), hr, hpl]
    have hth : TH w m (Pn.put path p q) root 0 (Fa ++ ([] ++ Fz)) [((bq, oq), q)] := by
      refine hr.pos.fill hr.le (fun f hf j hj => ?_) (.fresh hc ⟨?_, ?_, ?_, ?_, ?_⟩)
      · by_cases hne : f = bq
        · subst hne
          rw [cell_row hh, cell_row hrow0]
          rcases hj with hj | hj | hj
          · exact absurd rfl hj
          · rw [List.getElem?_append_left (by omega), List.getElem?_append_left (by omega)]
          · rw [far _ rfl j hj, far _ hrl j hj]
        · refine hcell f ?_ hne j
          rw [hr.pos.eq]
          rcases List.mem_cons.1 hf with e | e
          · simp [e]
          · rcases List.mem_append.1 e with e | e <;> simp [e]
      · rw [cell_row hh]; exact g 0 (by omega)
      · rw [cell_row hh]; exact g 1 (by omega)
      · rw [cell_row hh]; exact g 2 (by omega)
      · rw [cell_row hh]; exact g 3 (by omega)
      · rw [cell_row hh]; exact g 4 (by omega)
    refine ⟨⟨m, cutP st' φ, hi.cutT hst2, fun x => ?_, hadv.cut, fun id hid => ?_, ?_⟩, h6, h7⟩
    · rcases he x with e | ⟨e, e'⟩
      · rw [e]; exact .junk _
      · rw [e]; exact e'.rep (fun i hi' => cutP_eq hi') (henv x)
    · cases hx : cutP st' φ id with
      | none => exact absurd hx hid
      | some q => exact (cutP_some hx).2
    · have hnd := hr.pos.nd
      rw [hr.pos.eq] at hnd
      refine ⟨hth, fun hm' => ?_, ?_, fun f hf => ?_⟩
      · have := sub root (by simp)
        refine hr.pos.nr ?_
        rw [hr.pos.eq]
        rcases List.mem_append.1 hm' with e | e
        · simp [e]
        · simp at e; simp [e]
      · rw [List.nil_append]
        rw [List.nodup_append] at hnd ⊢
        refine ⟨hnd.1, (List.nodup_append.1 hnd.2.1).2.1, fun x hx z hz => hnd.2.2 x hx z (by simp [hz])⟩
      · have hf' := sub f hf
        by_cases hne : f = bq
        · subst hne
          refine ⟨hr.bqn, (Array.getElem?_eq_some_iff.1 hh).1, ?_, hm, _, T, hh, hone⟩
          refine free_droppedT hi (fun i blk h => (hst2 i blk h).1) hbox ?_ e2 hb2.1
          cases hx : st' k with
          | none => rfl
          | some blk => exact absurd rfl (hst k blk hx).1
        · obtain ⟨q1, q2, q3, q4, q5, vs', T', q6, q7⟩ := hr.oth f hf' hne
          exact ⟨q1, q2, q3.cut, q4, vs', T', by rw [q5]; exact q6, q7⟩
theorem GR.fin2 {ok:Nat→Prop} {root:Nat} {p:Pn} {F:List Nat} {H:PL} {env:Nat→AV} {st:Store} {a:Act} {w:World} (h:GR wi mi nt ok (RAW wi root p F H) env st a w) {u:Nat} (hu:env u=.i (.lit (.pointer (some ⟨root,0,none⟩)))) {env':Nat→AV} (he:∀ t,env' t=.junk∨(t=u∧env' t=.i (.iref p.cells))∨env' t=env t) :
  GR wi mi nt ok (fun _ _ _=>True) env' st a w:=by
 classical
 obtain ⟨⟨m,φ,hi,henv,hadv,hk,hr⟩,h6,h7⟩:=h
 let m':Mem:=fun f o=>if f∈root :: F then w.cell? ⟨f,o,none⟩ else m f o
 have hin:∀ f,f∈root :: F→∀ o,m' f o=w.cell? ⟨f,o,none⟩:=fun f hf o=>by show (if f∈root :: F then _ else _)=_; rw [if_pos hf]
 have hout:∀ f,f ∉ root :: F→∀ o,m' f o=m f o:=fun f hf o=>by show (if f∈root :: F then _ else _)=_; rw [if_neg hf]
 have hle:MLe m m':=fun f o v e=>by
  by_cases hf:f∈root :: F
  ·rw [(hr.all f hf).2.2.2.1 o] at e; cases e
  ·rw [hout f hf]; exact e
 have hmem:MemOk w m':=fun f o v e=>by
  by_cases hf:f∈root :: F
  ·rw [hin f hf] at e; exact e
  ·rw [hout f hf] at e; exact hi.mem f o v e
 have hat:IAt m' root 0 p.cells:=hr.th.iat2 hle (fun j _ _=>hin root (by simp) j) (fun f hf j=>hin f (by simp [hf]) j)
 refine ⟨⟨m',φ,⟨hmem,fun i blk hb=>?_,hi.inj,hi.low⟩,fun t=>?_,⟨hadv.size,hadv.os,hadv.tape,hadv.output,hadv.block,hadv.mle.trans hle,fun f hf hfr o=>?_,hadv.ple,hadv.pnew⟩,hk,trivial⟩,h6,h7⟩
 ·obtain ⟨b,n,q1,q2,q3⟩:=hi.live i blk hb
  exact ⟨b,n,q1,q2,q3.mono q2.1 (fun _ _=>rfl) hle (.refl _) fun f hf o=>hout f (fun hf'=>(hr.all f hf').2.2.1 i b n q1 hf) o⟩
 ·rcases he t with e | ⟨rfl,e⟩ | e
  ·rw [e]; exact .junk _
  ·have hx:=henv t
   rw [hu] at hx
   rw [e,hx.lit_eq]
   exact .i (.iref hat)
  ·rw [e]; exact (henv t).mono hle (.refl _)
 ·rw [hout f (fun hf'=>by have:=(hr.all f hf').1; omega)]
  exact hadv.mnew f hf hfr o
end
end Go.Av

namespace Go.Av
theorem intsL_inj : ∀ {l m : List Int}, intsL l = intsL m → l = m := by
  intro l
  induction l with
  | nil => intro m h; cases m with
    | nil => rfl
    | cons b m => simp [intsL] at h
  | cons a l ih => intro m h; cases m with
    | nil => simp [intsL] at h
    | cons b m =>
      simp only [intsL, List.cons.injEq] at h
      rw [show a = b by simpa using h.1, ih h.2]
theorem Ex.cells_inj2 : ∀ (a b : Ex), a.cells = b.cells → a = b := by
  intro a
  induction a using Ex.ind with
  | h k c v ks ih =>
    intro b h
    obtain ⟨k', c', v', ks'⟩ := b
    have key : ∀ {l m : List Ex}, (∀ a ∈ l, ∀ b, a.cells = b.cells → a = b) → Ex.cellsL l = Ex.cellsL m → l = m := by
      intro l
      induction l with
      | nil => intro m _ h; cases m with
        | nil => rfl
        | cons b m => simp [Ex.cellsL] at h
      | cons a l ihl => intro m hi h; cases m with
        | nil => simp [Ex.cellsL] at h
        | cons b m =>
          simp only [Ex.cellsL, List.cons.injEq] at h
          rw [hi a (by simp) b h.1, ihl (fun x hx => hi x (by simp [hx])) h.2]
    rw [Ex.cells_eq, Ex.cells_eq] at h
    simp only [List.cons.injEq, IV.lit.injEq, Value.int.injEq, Value.bool.injEq, IV.isl.injEq, true_and, and_true] at h
    obtain ⟨h1, h2, h3, h4, h5⟩ := h
    have h5 := key ih h5
    obtain ⟨b1, n1⟩ := v; obtain ⟨b2, n2⟩ := v'
    simp only [Ex.kind, Ex.col, Ex.val, Ex.kids] at h1 h2 h3 h4 h5
    subst h1 h2 h3 h4 h5; rfl
theorem Ex.cellsL_inj2 : ∀ {l m : List Ex}, Ex.cellsL l = Ex.cellsL m → l = m := by
  intro l
  induction l with
  | nil => intro m h; cases m with
    | nil => rfl
    | cons b m => simp [Ex.cellsL] at h
  | cons a l ihl => intro m h; cases m with
    | nil => simp [Ex.cellsL] at h
    | cons b m =>
      simp only [Ex.cellsL, List.cons.injEq] at h
      rw [Ex.cells_inj2 a b h.1, ihl h.2]
theorem Pn.cells_inj : ∀ (a b : Pn), a.cells = b.cells → a = b := by
  intro a
  induction a using Pn.ind with
  | h k t es cs ks ih =>
    intro b h
    obtain ⟨k', t', es', cs', ks'⟩ := b
    have key : ∀ {l m : List Pn}, (∀ a ∈ l, ∀ b, a.cells = b.cells → a = b) → Pn.cellsL l = Pn.cellsL m → l = m := by
      intro l
      induction l with
      | nil => intro m _ h; cases m with
        | nil => rfl
        | cons b m => simp [Pn.cellsL] at h
      | cons a l ihl => intro m hi h; cases m with
        | nil => simp [Pn.cellsL] at h
        | cons b m =>
          simp only [Pn.cellsL, List.cons.injEq] at h
          rw [hi a (by simp) b h.1, ihl (fun x hx => hi x (by simp [hx])) h.2]
    rw [Pn.cells_mk, Pn.cells_mk] at h
    simp only [List.cons.injEq, IV.lit.injEq, Value.int.injEq, IV.isl.injEq, true_and, and_true] at h
    obtain ⟨h1, h2, h3, h4, h5⟩ := h
    rw [h1, h2, Ex.cellsL_inj2 h3, intsL_inj h4, key ih h5]
def apO (p:Pn) (ws:List Int) (r:Int) (path:List Int):Option Pn:=if p.width ws=0 then none else apI ws r path p
def apR:Option Pn→AV×StL
 | some q=>(.tup [.i (.agg q.cells), .bool true],[])
 | none=>(.tup [.i (.agg Pn.zero.cells), .bool false],[])
def ApA (args:List AV) (x:Pn×List Int×Int×List Int):Prop:=args=[.i (.agg x.1.cells), .i (.isl (intsL x.2.1)), .i (.agg [.int x.2.2.1, .isl (intsL x.2.2.2)])]
noncomputable def applyE:List AV→StL→Option (AV×StL)
 | args,[]=>open Classical in if h:∃ x,ApA args x then some (apR (apO h.choose.1 h.choose.2.1 h.choose.2.2.1 h.choose.2.2.2)) else none
 | _,_=>none
theorem ApA.inj {args:List AV} {x y:Pn×List Int×Int×List Int} (hx:ApA args x) (hy:ApA args y):x=y:=by
 unfold ApA at hx hy
 rw [hx] at hy
 simp only [List.cons.injEq,AV.i.injEq,IV.agg.injEq,IV.isl.injEq,IV.lit.injEq,Value.int.injEq,true_and,and_true] at hy
 obtain ⟨h1,h2,h3,h4⟩:=hy
 obtain ⟨a,b,c,d⟩:=x; obtain ⟨a',b',c',d'⟩:=y
 simp only at h1 h2 h3 h4
 rw [Pn.cells_inj _ _ h1,intsL_inj h2,h3,intsL_inj h4]
theorem applyE_eq (p:Pn) (ws:List Int) (r:Int) (path:List Int):applyE [.i (.agg p.cells), .i (.isl (intsL ws)), .i (.agg [.int r, .isl (intsL path)])] []=some (apR (apO p ws r path)):=by
 have h:∃ x,ApA [.i (.agg p.cells), .i (.isl (intsL ws)), .i (.agg [.int r, .isl (intsL path)])] x:=⟨(p,ws,r,path),rfl⟩
 unfold applyE
 simp only
 rw [dif_pos h]
 have:=h.choose_spec.inj (y:=(p,ws,r,path)) rfl
 rw [this]
theorem applyE_some {args:List AV} {st:StL} {q:AV×StL} (h:applyE args st=some q):∃ p ws r path,args=[.i (.agg (Pn.cells p)), .i (.isl (intsL ws)), .i (.agg [.int r, .isl (intsL path)])]∧st=[]∧q=apR (apO p ws r path):=by
 unfold applyE at h
 split at h
 ·split at h
  ·rename_i hx
   injection h with h
   exact ⟨_,_,_,_,hx.choose_spec,rfl,h.symm⟩
  ·cases h
 ·cases h
end Go.Av

namespace Go.Av
theorem width_ok2 {p:Pn} {ws:List Int} (h:p.width ws≠0):okWs ws=true∧p.wd ws 8≠0:=by
 unfold Pn.width at h
 by_cases hw:okWs ws=true
 ·rw [if_pos hw] at h; exact ⟨hw,h⟩
 ·rw [if_neg hw] at h; exact absurd rfl h
end Go.Av

namespace Go.Av
noncomputable def thenA (C:Ctx) (G:List Nat) (na:Nat) (b:Code) (S:AS):XR:=execA C G na b S
@[simp] theorem execA_seqT {C:Ctx} {G:List Nat} {na:Nat} (a b:Code) (S:AS):execA C G na (.seq a b) S=seqK (execA C G na a S) (thenA C G na b):=execA_seq a b
@[simp] theorem thenA_ap {C:Ctx} {G:List Nat} {na:Nat} (b:Code) (e:List (Nat×AV)) (st:StL):thenA C G na b ⟨e,st⟩=execA C G na b ⟨e,st⟩:=(rfl)
def contA (C:Ctx) (call:CallF) (all:List Oper) (draw:Bool) (base:Nat) (os:List Oper) (i:Nat) (env:Nat→AV) (dst:Option Tmp) (log:List (Nat×List Nat×Bool)) (p:AV×Store):Option RS:=runOps C call all draw base os i ⟨putA env dst p.1,p.2,log⟩
@[simp] theorem contA_ap {C:Ctx} {call:CallF} (all:List Oper) (draw:Bool) (base:Nat) (os:List Oper) (i:Nat) (env:Nat→AV) (dst:Option Tmp) (log:List (Nat×List Nat×Bool)) (v:AV) (st:Store):contA C call all draw base os i env dst log (v,st)=runOps C call all draw base os i ⟨putA env dst v,st,log⟩:=(rfl)
attribute [simp] execA_range execA_region execA_cond execA_block execA_skip execA_ret execA_exit upd_apply
@[simp] theorem widths_nil (k:Nat):widths k []=true:=(rfl)
@[simp] theorem widths_cons (k:Nat) (e:List IV) (es:List (List IV)):widths k (e :: es)=(e.length == k && widths k es):=(rfl)
@[simp] theorem litCell_nils:litCell (.slice none 0 0)=.nils:=(rfl)
@[simp] theorem litAV_nils:litAV (.slice none 0 0)=.nils:=(rfl)
@[simp] theorem litCell_bool (b:Bool):litCell (.bool b)=.i (.lit (.bool b)):=(rfl)
@[simp] theorem litAV_bool (b:Bool):litAV (.bool b)=.i (.lit (.bool b)):=(rfl)
@[simp] theorem cellsOf_bool (b:Bool):cellsOf (.i (.lit (.bool b)))=some [.i (.lit (.bool b))]:=(rfl)
@[simp] theorem litCell_int (k:IntKind) (n:Int):litCell (.int k n)=.i (.lit (.int k n)):=(rfl)
@[simp] theorem litAV_int (k:IntKind) (n:Int):litAV (.int k n)=.i (.lit (.int k n)):=(rfl)
@[simp] theorem cellsOf_int (k:IntKind) (n:Int):cellsOf (.i (.lit (.int k n)))=some [.i (.lit (.int k n))]:=(rfl)
@[simp] theorem litCell_string (s:ByteArray):litCell (.string s)=.i (.lit (.string s)):=(rfl)
@[simp] theorem litAV_string (s:ByteArray):litAV (.string s)=.i (.lit (.string s)):=(rfl)
@[simp] theorem cellsOf_string (s:ByteArray):cellsOf (.i (.lit (.string s)))=some [.i (.lit (.string s))]:=(rfl)
@[simp] theorem litCell_pointer (a:Option Addr):litCell (.pointer a)=.i (.lit (.pointer a)):=(rfl)
@[simp] theorem litAV_pointer (a:Option Addr):litAV (.pointer a)=.i (.lit (.pointer a)):=(rfl)
@[simp] theorem cellsOf_pointer (a:Option Addr):cellsOf (.i (.lit (.pointer a)))=some [.i (.lit (.pointer a))]:=(rfl)
@[simp] theorem litCell_map (r:Option Nat):litCell (.map r)=.i (.lit (.map r)):=(rfl)
@[simp] theorem litAV_map (r:Option Nat):litAV (.map r)=.i (.lit (.map r)):=(rfl)
@[simp] theorem cellsOf_map (r:Option Nat):cellsOf (.i (.lit (.map r)))=some [.i (.lit (.map r))]:=(rfl)
@[simp] theorem litCell_nilFunc :litCell (.nilFunc)=.i (.lit (.nilFunc)):=(rfl)
@[simp] theorem litAV_nilFunc :litAV (.nilFunc)=.i (.lit (.nilFunc)):=(rfl)
@[simp] theorem cellsOf_nilFunc :cellsOf (.i (.lit (.nilFunc)))=some [.i (.lit (.nilFunc))]:=(rfl)
@[simp] theorem litCell_nilIface :litCell (.nilIface)=.i (.lit (.nilIface)):=(rfl)
@[simp] theorem litAV_nilIface :litAV (.nilIface)=.i (.lit (.nilIface)):=(rfl)
@[simp] theorem cellsOf_nilIface :cellsOf (.i (.lit (.nilIface)))=some [.i (.lit (.nilIface))]:=(rfl)
@[simp] theorem litCell_tuple (a:Array Value):litCell (.tuple a)=.i (.lit (.tuple a)):=(rfl)
@[simp] theorem litAV_tuple (a:Array Value):litAV (.tuple a)=.i (.lit (.tuple a)):=(rfl)
@[simp] theorem litAV_agg (cs:Array Value):litAV (.agg cs)=mkAgg (litCells cs.toList):=(rfl)
attribute [simp] litCells.eq_1 litCells.eq_2 cellsOf.eq_3 cellsOf.eq_4
@[simp] theorem cellsOf_nils :cellsOf .nils=some [.nils]:=(rfl)
@[simp] theorem cellsOf_own (i o:Nat):cellsOf (.own i o)=some [(.own i o)]:=(rfl)
@[simp] theorem cellsOf_ownE (i k j o:Nat):cellsOf (.ownE i k j o)=some [(.ownE i k j o)]:=(rfl)
@[simp] theorem cellsOf_osl (i k o l:Nat):cellsOf (.osl i k o l)=some [(.osl i k o l)]:=(rfl)
@[simp] theorem cellsOf_fn (f:Fn) (cs:List AV):cellsOf (.fn f cs)=some [(.fn f cs)]:=(rfl)
@[simp] theorem cellsOf_slice (a:Option Addr) (l c:Nat):cellsOf (.i (.lit (.slice a l c)))=some [(.i (.lit (.slice a l c)))]:=(rfl)
@[simp] theorem cellsOf_isl (es:List (List IV)):cellsOf (.i (.isl es))=some [(.i (.isl es))]:=(rfl)
@[simp] theorem cellsOf_iref (cs:List IV):cellsOf (.i (.iref cs))=some [(.i (.iref cs))]:=(rfl)
@[simp] theorem consI_nils  (x:Option (List IV)):consI .nils x=none:=by cases x<;>rfl
@[simp] theorem frzV_nils (st:Store) :frzV st .nils=bnd (frz st fuelF .nils) fun p=>some (p.1,frzIds st p.2):=(rfl)
@[simp] theorem argVal_nils (st:Store) :argVal st .nils=bnd (frzV st .nils) fun p=>some (.i p.1,p.2):=(rfl)
@[simp] theorem consI_own (i o:Nat) (x:Option (List IV)):consI (.own i o) x=none:=by cases x<;>rfl
@[simp] theorem frzV_own (st:Store) (i o:Nat):frzV st (.own i o)=bnd (frz st fuelF (.own i o)) fun p=>some (p.1,frzIds st p.2):=(rfl)
@[simp] theorem argVal_own (st:Store) (i o:Nat):argVal st (.own i o)=bnd (frzV st (.own i o)) fun p=>some (.i p.1,p.2):=(rfl)
@[simp] theorem consI_osl (i k o l:Nat) (x:Option (List IV)):consI (.osl i k o l) x=none:=by cases x<;>rfl
@[simp] theorem frzV_osl (st:Store) (i k o l:Nat):frzV st (.osl i k o l)=bnd (frz st fuelF (.osl i k o l)) fun p=>some (p.1,frzIds st p.2):=(rfl)
@[simp] theorem argVal_osl (st:Store) (i k o l:Nat):argVal st (.osl i k o l)=bnd (frzV st (.osl i k o l)) fun p=>some (.i p.1,p.2):=(rfl)
@[simp] theorem consI_fn (f:Fn) (cs:List AV) (x:Option (List IV)):consI (.fn f cs) x=none:=by cases x<;>rfl
@[simp] theorem frzV_agg (st:Store) (cs:List AV):frzV st (.agg cs)=bnd (frz st fuelF (.agg cs)) fun p=>some (p.1,frzIds st p.2):=(rfl)
@[simp] theorem argVal_agg (st:Store) (cs:List AV):argVal st (.agg cs)=bnd (frzV st (.agg cs)) fun p=>some (.i p.1,p.2):=(rfl)
@[simp] theorem consI_i (v:IV) (l:List IV):consI (.i v) (some l)=some (v :: l):=(rfl)
@[simp] theorem consI_in (v:IV):consI (.i v) none=none:=(rfl)
@[simp] theorem frzV_i (st:Store) (v:IV):frzV st (.i v)=some (v,st):=(rfl)
@[simp] theorem argVal_i (st:Store) (v:IV):argVal st (.i v)=some (.i v,st):=(rfl)
@[simp] theorem argVal_fn (st:Store) (f:Fn) (cs:List AV):argVal st (.fn f cs)=some (.fn f cs,st):=(rfl)
@[simp] theorem aggD_strct:aggD (some .strct)=some true:=(rfl)
@[simp] theorem aggD_slice (e:TypeId):aggD (some (.slice e))=some false:=(rfl)
@[simp] theorem aggD_int (k:IntKind):aggD (some (.int k))=some false:=(rfl)
@[simp] theorem aggD_string:aggD (some .string)=some false:=(rfl)
@[simp] theorem aggD_bool:aggD (some .bool)=some false:=(rfl)
@[simp] theorem aggD_other:aggD (some .other)=some false:=(rfl)
@[simp] theorem aggD_array (n:Nat) (e:TypeId):aggD (some (.array n e))=some true:=(rfl)
@[simp] theorem isShift_add:isShift .add=false:=(rfl)
@[simp] theorem isShift_sub:isShift .sub=false:=(rfl)
@[simp] theorem isShift_mul:isShift .mul=false:=(rfl)
@[simp] theorem isShift_quo:isShift .quo=false:=(rfl)
@[simp] theorem isShift_rem:isShift .rem=false:=(rfl)
@[simp] theorem isShift_and:isShift .and=false:=(rfl)
@[simp] theorem isShift_or:isShift .or=false:=(rfl)
@[simp] theorem isShift_xor:isShift .xor=false:=(rfl)
@[simp] theorem isShift_andNot:isShift .andNot=false:=(rfl)
@[simp] theorem isShift_eql:isShift .eql=false:=(rfl)
@[simp] theorem isShift_neq:isShift .neq=false:=(rfl)
@[simp] theorem isShift_lss:isShift .lss=false:=(rfl)
@[simp] theorem isShift_leq:isShift .leq=false:=(rfl)
@[simp] theorem isShift_gtr:isShift .gtr=false:=(rfl)
@[simp] theorem isShift_geq:isShift .geq=false:=(rfl)
@[simp] theorem isShift_shl:isShift .shl=true:=(rfl)
@[simp] theorem isShift_shr:isShift .shr=true:=(rfl)
@[simp] theorem retVal_0:retVal []=.tup []:=(rfl)
@[simp] theorem retVal_1 (v:AV):retVal [v]=v:=(rfl)
@[simp] theorem retVal_2 (a b:AV) (l:List AV):retVal (a :: b :: l)=.tup (a :: b :: l):=(rfl)
attribute [simp] minmaxA.eq_1 minmaxA.eq_2 nthE.eq_1 nthE.eq_2 nthE.eq_3
section
variable (C:Ctx) (call:CallF) (env:Nat→AV) (st:Store) (nb:Nat)
@[simp] theorem stepOp_move (x:Operand):stepOp C call (.move x) env st nb=some (ev env x,st):=(rfl)
@[simp] theorem stepOp_assign (x:Operand):stepOp C call (.assign x) env st nb=some (ev env x,st):=(rfl)
@[simp] theorem stepOp_pick (c a b:Operand):stepOp C call (.pick c a b) env st nb=bnd (pickA (ev env a) (ev env b) (ev env c)) fun v=>some (v,st):=(rfl)
@[simp] theorem stepOp_alloc (t:TypeId):stepOp C call (.alloc t) env st nb=bnd (zeroOf C.P t) fun z=>some (.own nb 0,upd st nb (some (.box (litCells z)))):=(rfl)
@[simp] theorem stepOp_box (t:TypeId) (x:Operand):stepOp C call (.box t x) env st nb=bnd (cellsOf (ev env x)) fun cs=>some (.own nb 0,upd st nb (some (.box cs))):=(rfl)
@[simp] theorem stepOp_build (t:TypeId) (ps:Array (Nat×Operand)):stepOp C call (.build t ps) env st nb=bnd (aggD (descK C.P t)) fun g=>tst g (bnd (zeroOf C.P t) fun z=>bnd (partsOf env ps.toList) fun ps=>bnd (fillA (placeS C.P t) (litCells z) ps) fun cs=>some (mkAgg cs,st)):=(rfl)
@[simp] theorem stepOp_buildSlice (t:TypeId) (n:Nat) (ps:Array (Nat×Operand)):stepOp C call (.buildSlice t n ps) env st nb=bnd (elemD (descK C.P t)) fun e=>bnd (partsOf env ps.toList) fun ps=>sliceLit C e n st nb ps:=(rfl)
@[simp] theorem stepOp_load (t:TypeId) (a:Operand):stepOp C call (.load t a) env st nb=bnd (loadA C t (ev env a) st) fun v=>some (v,st):=(rfl)
@[simp] theorem stepOp_store (t:TypeId) (a x:Operand):stepOp C call (.store t a x) env st nb=bnd (storeA C t (ev env a) (ev env x) st) fun st1=>some (.i (.lit undef),st1):=(rfl)
@[simp] theorem stepOp_nilCheck (x:Operand):stepOp C call (.nilCheck x) env st nb=bnd (nilA (ev env x)) fun v=>some (v,st):=(rfl)
@[simp] theorem stepOp_binOp (op:BinOp) (t:TypeId) (x y:Operand) (u:TypeId):stepOp C call (.binOp op t x y u) env st nb=bnd (binA C op t (ev env x) (ev env y)) fun v=>some (.i v,st):=(rfl)
@[simp] theorem stepOp_unOp (op:UnOp) (t:TypeId) (x:Operand):stepOp C call (.unOp op t x) env st nb=bnd (unA op (ev env x)) fun v=>some (.i v,st):=(rfl)
@[simp] theorem stepOp_convert (s d:TypeId) (x:Operand):stepOp C call (.convert s d x) env st nb=bnd (convA (descK C.P s) (descK C.P d) (ev env x)) fun v=>some (v,st):=(rfl)
@[simp] theorem stepOp_makeSlice (t:TypeId) (l c:Operand):stepOp C call (.makeSlice t l c) env st nb=makeA C t st nb (ev env l) (ev env c):=(rfl)
@[simp] theorem stepOp_slice (t:TypeId) (x:Operand) (lo hi:Option Operand):stepOp C call (.slice t x lo hi none) env st nb=bnd (sliceA C t (evO env lo) (evO env hi) (ev env x)) fun v=>some (v,st):=(rfl)
@[simp] theorem stepOp_fieldAddr (s:TypeId) (x:Operand) (f:Nat):stepOp C call (.fieldAddr s x f) env st nb=bnd (fieldT C.P s f) fun p=>bnd (szOf C.P p.1) fun n=>tst (decide (0 < n)) (bnd (fieldAddrA p.2 (ev env x)) fun v=>some (v,st)):=(rfl)
@[simp] theorem stepOp_field (s:TypeId) (x:Operand) (f:Nat):stepOp C call (.field s x f) env st nb=bnd (fieldT C.P s f) fun p=>bnd (szOf C.P p.1) fun n=>bnd (aggD (descK C.P p.1)) fun g=>bnd (fieldA p.2 n g (ev env x)) fun v=>some (v,st):=(rfl)
@[simp] theorem stepOp_indexAddr (t:TypeId) (x i:Operand):stepOp C call (.indexAddr t x i) env st nb=bnd (indexAddrA C (ev env x) (ev env i) (descK C.P t)) fun v=>some (v,st):=(rfl)
@[simp] theorem stepOp_index (t:TypeId) (x i:Operand):stepOp C call (.index t x i) env st nb=bnd (indexA C (ev env i) (descK C.P t) (ev env x)) fun v=>some (v,st):=(rfl)
@[simp] theorem stepOp_extract (x:Operand) (j:Nat):stepOp C call (.extract x j) env st nb=bnd (extractA j (ev env x)) fun v=>some (v,st):=(rfl)
@[simp] theorem stepOp_makeFunc (f:Fn) (fs cs:Array Operand):stepOp C call (.makeFunc f fs cs) env st nb=tst fs.toList.isEmpty (bnd (mkFnA (evL env cs.toList) f) fun v=>some (v,st)):=(rfl)
@[simp] theorem mkFnA_func (cs:List AV) (g:FuncId):mkFnA cs (.func g)=some (.fn (.func g) cs):=(rfl)
@[simp] theorem stepOp_builtin (b:Builtin) (as1:Array Operand) (ts:Array TypeId):stepOp C call (.call ⟨.builtin b,as1,ts⟩) env st nb=builtinA C st nb b ts.toList (evL env as1.toList):=(rfl)
@[simp] theorem stepOp_callV (f:Operand) (as1:Array Operand) (ts:Array TypeId):stepOp C call (.call ⟨.value f,as1,ts⟩) env st nb=stepC C call (evL env as1.toList) st nb (ev env f):=(rfl)
@[simp] theorem touchI_move (x:Operand):touchI env (.move x)=([],true):=(rfl)
@[simp] theorem touchI_assign (x:Operand):touchI env (.assign x)=([],true):=(rfl)
@[simp] theorem touchI_pick (c a b:Operand):touchI env (.pick c a b)=([],true):=(rfl)
@[simp] theorem touchI_alloc (t:TypeId):touchI env (.alloc t)=([],true):=(rfl)
@[simp] theorem touchI_box (t:TypeId) (x:Operand):touchI env (.box t x)=([],true):=(rfl)
@[simp] theorem touchI_build (t:TypeId) (ps:Array (Nat×Operand)):touchI env (.build t ps)=([],true):=(rfl)
@[simp] theorem touchI_nilCheck (x:Operand):touchI env (.nilCheck x)=([],true):=(rfl)
@[simp] theorem touchI_binOp (op:BinOp) (t:TypeId) (x y:Operand) (u:TypeId):touchI env (.binOp op t x y u)=([],true):=(rfl)
@[simp] theorem touchI_unOp (op:UnOp) (t:TypeId) (x:Operand):touchI env (.unOp op t x)=([],true):=(rfl)
@[simp] theorem touchI_convert (s d:TypeId) (x:Operand):touchI env (.convert s d x)=([],true):=(rfl)
@[simp] theorem touchI_makeSlice (t:TypeId) (l c:Operand):touchI env (.makeSlice t l c)=([],true):=(rfl)
@[simp] theorem touchI_slice (t:TypeId) (x:Operand) (lo hi:Option Operand):touchI env (.slice t x lo hi none)=([],true):=(rfl)
@[simp] theorem touchI_fieldAddr (s:TypeId) (x:Operand) (f:Nat):touchI env (.fieldAddr s x f)=([],true):=(rfl)
@[simp] theorem touchI_field (s:TypeId) (x:Operand) (f:Nat):touchI env (.field s x f)=([],true):=(rfl)
@[simp] theorem touchI_indexAddr (t:TypeId) (x i:Operand):touchI env (.indexAddr t x i)=([],true):=(rfl)
@[simp] theorem touchI_index (t:TypeId) (x i:Operand):touchI env (.index t x i)=([],true):=(rfl)
@[simp] theorem touchI_extract (x:Operand) (j:Nat):touchI env (.extract x j)=([],true):=(rfl)
@[simp] theorem touchI_makeFunc (f:Fn) (fs cs:Array Operand):touchI env (.makeFunc f fs cs)=([],true):=(rfl)
attribute [simp] touchI.eq_1 touchI.eq_2 touchI.eq_3 touchI.eq_4 touchI.eq_5 touchI.eq_6
@[simp] theorem touchI_len (as1:Array Operand) (ts:Array TypeId):touchI env (.call ⟨.builtin .len,as1,ts⟩)=([],true):=(rfl)
@[simp] theorem touchI_min (as1:Array Operand) (ts:Array TypeId):touchI env (.call ⟨.builtin .min,as1,ts⟩)=([],true):=(rfl)
@[simp] theorem touchI_max (as1:Array Operand) (ts:Array TypeId):touchI env (.call ⟨.builtin .max,as1,ts⟩)=([],true):=(rfl)
@[simp] theorem stepC_fn (args:List AV) (g:FuncId) (cs:List AV):stepC C call args st nb (.fn (.func g) cs)=if g=1000000007 then none else callGo call (C.ownArgs g) g (args ++ cs) st nb:=(rfl)
@[simp] theorem stepC_yld (args:List AV) (id:Nat):stepC C call args st nb (.fn (.yield 0) [.own id 0])=callGo call true yldF (.fn (.yield 0) [.own id 0] :: args) st nb:=(rfl)
variable (all:List Oper) (base i:Nat) (log:List (Nat×List Nat×Bool)) (dst:Option Tmp) (op:Op) (ty:TypeId) (pos:String) (after:Array Edge) (os:List Oper)
@[simp] theorem putA_some (t:Tmp) (v:AV):putA env (some t) v=upd env t v:=(rfl)
@[simp] theorem putA_none (v:AV):putA env none v=env:=(rfl)
@[simp] theorem runOps_nil (draw:Bool) (R:RS):runOps C call all draw base [] i R=some R:=(rfl)
@[simp] theorem runOps_f0:runOps C call all false base (⟨dst,op,ty,pos,after,none⟩ :: os) i ⟨env,st,log⟩ =
  bnd (stepOp C call op env st (base + 8 * i)) (contA C call all false base os (i + 1) env dst []):=(rfl)
@[simp] theorem runOps_f1 (g:Nat×Bool):runOps C call all false base (⟨dst,op,ty,pos,after,some g⟩ :: os) i ⟨env,st,log⟩ =
  bnd (wantD env g.2 ((all[g.1]?).bind (·.dst))) fun b=>if b=true then bnd (stepOp C call op env st (base + 8 * i)) (contA C call all false base os (i + 1) env dst [])
   else runOps C call all false base os (i + 1) ⟨putA env dst (.i (.lit undef)),st,log⟩:=(rfl)
@[simp] theorem runOps_t0:runOps C call all true base (⟨dst,op,ty,pos,after,none⟩ :: os) i ⟨env,st,log⟩ =
  tst (chkT base all ⟨dst,op,ty,pos,after,none⟩ st (touchI env op).1 (touchA st (touchI env op)).1 (touchI env op).2 log)
   (bnd (stepOp C call op env st (base + 8 * i)) (contA C call all true base os (i + 1) env dst (addLog i (touchI env op).2 log (touchA st (touchI env op)).1))):=(rfl)
@[simp] theorem runOps_t1 (g:Nat×Bool):runOps C call all true base (⟨dst,op,ty,pos,after,some g⟩ :: os) i ⟨env,st,log⟩ =
  bnd (wantD env g.2 ((all[g.1]?).bind (·.dst))) fun b=>if b=true then
   tst (chkT base all ⟨dst,op,ty,pos,after,some g⟩ st (touchI env op).1 (touchA st (touchI env op)).1 (touchI env op).2 log)
    (bnd (stepOp C call op env st (base + 8 * i)) (contA C call all true base os (i + 1) env dst (addLog i (touchI env op).2 log (touchA st (touchI env op)).1)))
   else runOps C call all true base os (i + 1) ⟨putA env dst (.i (.lit undef)),st,log⟩:=(rfl)
end
attribute [simp] envOf.eq_1 envOf.eq_2
attribute [simp] stOf.eq_1 stOf.eq_2 stOf.eq_3
attribute [simp] allI.eq_1 allI.eq_2
attribute [simp] aggOf.eq_1 aggOf.eq_2
attribute [simp] mkAgg.eq_1
attribute [simp] impI.eq_1 impI.eq_2
attribute [simp] ofCells.eq_1 ofCells.eq_2
attribute [simp] ofCellsI.eq_1 ofCellsI.eq_2
attribute [simp] dropE.eq_1 dropE.eq_2 dropE.eq_3
attribute [simp] takeE.eq_1 takeE.eq_2 takeE.eq_3
attribute [simp] cut.eq_1
attribute [simp] splice.eq_1 splice.eq_2 splice.eq_3 splice.eq_4 splice.eq_5
attribute [simp] elemD.eq_1
attribute [simp] frzSl.eq_1 frzSl.eq_2
attribute [simp] frz.eq_1 frz.eq_2 frz.eq_3 frz.eq_4 frz.eq_5 frz.eq_6
attribute [simp] frzP.eq_1 frzP.eq_2 frzP.eq_3
attribute [simp] frzL.eq_1 frzL.eq_2 frzL.eq_3
attribute [simp] fuelF.eq_1
attribute [simp] frzIds.eq_1 frzIds.eq_2
attribute [simp] frzVs.eq_1 frzVs.eq_2
attribute [simp] idsOf.eq_1 idsOf.eq_2 idsOf.eq_3 idsOf.eq_4 idsOf.eq_5 idsOf.eq_6 idsOf.eq_7 idsOf.eq_8 idsOf.eq_9
attribute [simp] idsOfL.eq_1 idsOfL.eq_2
attribute [simp] idsOfB.eq_1 idsOfB.eq_2 idsOfB.eq_3 idsOfB.eq_4 idsOfB.eq_5 idsOfB.eq_6 idsOfB.eq_7
attribute [simp] ren.eq_1 ren.eq_2 ren.eq_3 ren.eq_4 ren.eq_5 ren.eq_6 ren.eq_7 ren.eq_8 ren.eq_9
attribute [simp] renL.eq_1 renL.eq_2
attribute [simp] renB.eq_1 renB.eq_2 renB.eq_3 renB.eq_4 renB.eq_5 renB.eq_6 renB.eq_7
attribute [simp] posFrom.eq_1 posFrom.eq_2
attribute [simp] posOf.eq_1
attribute [simp] hasId.eq_1 hasId.eq_2
attribute [simp] reach.eq_1 reach.eq_2 reach.eq_3
attribute [simp] fuelR.eq_1
attribute [simp] idsOfBs.eq_1 idsOfBs.eq_2
attribute [simp] upto.eq_1 upto.eq_2
attribute [simp] keepIds.eq_1
attribute [simp] takeSt.eq_1 takeSt.eq_2
attribute [simp] ev.eq_1 ev.eq_2 ev.eq_3 ev.eq_4
attribute [simp] evL.eq_1 evL.eq_2
attribute [simp] evO.eq_1 evO.eq_2
attribute [simp] binI.eq_1 binI.eq_2 binI.eq_3 binI.eq_4 binI.eq_5 binI.eq_6 binI.eq_7 binI.eq_8 binI.eq_9 binI.eq_10 binI.eq_11 binI.eq_12 binI.eq_13 binI.eq_14 binI.eq_15
attribute [simp] shI.eq_1 shI.eq_2
attribute [simp] binS.eq_1 binS.eq_2 binS.eq_3 binS.eq_4 binS.eq_5 binS.eq_6 binS.eq_7
attribute [simp] binB.eq_1 binB.eq_2
attribute [simp] binV.eq_1 binV.eq_2
attribute [simp] binIK.eq_1 binIK.eq_2
attribute [simp] binA.eq_1 binA.eq_2 binA.eq_3 binA.eq_4 binA.eq_5 nilQ.eq_1 nilQ.eq_2 nilQ.eq_3 nilQ.eq_4 binP.eq_1 binP.eq_2
attribute [simp] unA.eq_1 unA.eq_2
attribute [simp] idxBelow.eq_1
attribute [simp] idxUpto.eq_1 idxUpto.eq_2
attribute [simp] elemsSl.eq_1 elemsSl.eq_2
attribute [simp] elemsOf.eq_1 elemsOf.eq_2 elemsOf.eq_3 elemsOf.eq_4
attribute [simp] appNil.eq_1 appNil.eq_2
attribute [simp] appOsl.eq_1
attribute [simp] appTo.eq_1 appTo.eq_2
attribute [simp] appA.eq_1
attribute [simp] copyOsl.eq_1
attribute [simp] copyTo.eq_1 copyTo.eq_2
attribute [simp] copyA.eq_1
attribute [simp] lenA.eq_1 lenA.eq_2 lenA.eq_3 lenA.eq_4 lenA.eq_5
attribute [simp] sliceA.eq_1 sliceA.eq_2 sliceA.eq_3 sliceA.eq_4
attribute [simp] fillA.eq_1 fillA.eq_2
attribute [simp] partsOf.eq_1 partsOf.eq_2
attribute [simp] placeD.eq_1 placeD.eq_2
attribute [simp] placeS.eq_1
attribute [simp] setElem.eq_1 setElem.eq_2 setElem.eq_3
attribute [simp] setElems.eq_1 setElems.eq_2
attribute [simp] frzParts.eq_1 frzParts.eq_2
attribute [simp] consZ.eq_1 consZ.eq_2
attribute [simp] zeroI.eq_1 zeroI.eq_2
attribute [simp] repl.eq_1 repl.eq_2
attribute [simp] loadB.eq_1 loadB.eq_2
attribute [simp] loadE.eq_1 loadE.eq_2
attribute [simp] loadAt.eq_1 loadAt.eq_2 loadAt.eq_3
attribute [simp] loadA.eq_1
attribute [simp] storeB.eq_1
attribute [simp] storeE.eq_1
attribute [simp] storeAt.eq_1 storeAt.eq_2
attribute [simp] storeA.eq_1
attribute [simp] argsVal.eq_1 argsVal.eq_2
attribute [simp] argsFor.eq_1 argsFor.eq_2
attribute [simp] putBack.eq_1 putBack.eq_2 putBack.eq_3
attribute [simp] backOf.eq_1 backOf.eq_2 backOf.eq_3
attribute [simp] callBack.eq_1
attribute [simp] callWith.eq_1
attribute [simp] callGo.eq_1
attribute [simp] notInt.eq_1 notInt.eq_2
attribute [simp] builtinA.eq_1 builtinA.eq_2 builtinA.eq_3 builtinA.eq_4 builtinA.eq_5
attribute [simp] convA.eq_1 convA.eq_2
attribute [simp] pickA.eq_1
attribute [simp] nilA.eq_1 nilA.eq_2 nilA.eq_3 nilA.eq_4 nilA.eq_5
attribute [simp] makeA.eq_1
attribute [simp] fieldAddrA.eq_1 fieldAddrA.eq_2 fieldAddrA.eq_3 fieldAddrA.eq_4
attribute [simp] fieldA.eq_1 fieldA.eq_2
attribute [simp] indexSl.eq_1 indexSl.eq_2 indexSl.eq_3
attribute [simp] indexAr.eq_1
attribute [simp] indexAddrA.eq_1 indexAddrA.eq_2
attribute [simp] indexA.eq_1 indexA.eq_2
attribute [simp] extractA.eq_1
attribute [simp] sliceLit.eq_1
attribute [simp] yieldA.eq_1 yieldA.eq_2
attribute [simp] wantD.eq_1 wantD.eq_2
attribute [simp] wantA.eq_1 wantA.eq_2
attribute [simp] partOps.eq_1 partOps.eq_2
attribute [simp] touchA.eq_1
attribute [simp] allIn.eq_1 allIn.eq_2
attribute [simp] oldOk.eq_1 oldOk.eq_2
attribute [simp] chkT.eq_1
attribute [simp] liveO.eq_1 liveO.eq_2
attribute [simp] liveAll.eq_1 liveAll.eq_2
attribute [simp] isStrD.eq_1
attribute [simp] bytesI.eq_1 bytesI.eq_2
attribute [simp] waitsA.eq_1
attribute [simp] noneOf.eq_1 noneOf.eq_2
attribute [simp] logOk.eq_1 logOk.eq_2
attribute [simp] addLog.eq_1 addLog.eq_2
attribute [simp] keepEnv.eq_1 keepEnv.eq_2
attribute [simp] envAt.eq_1 envAt.eq_2
attribute [simp] settleW.eq_1
attribute [simp] settle.eq_1
attribute [simp] asgK.eq_1 rangeOut.eq_1 rangeOut.eq_2 rangeEnd.eq_1 rangeEnd.eq_2 rangeW.eq_1 rangeGo.eq_1 bodyW.eq_1 stopA.eq_1 goesOn.eq_1 roundF.eq_1 roundE.eq_1 roundE.eq_2 roundB.eq_1 roundW.eq_1 envZ.eq_1 bindE.eq_1 setSt.eq_1 setSt.eq_2 setSt.eq_3
@[simp] theorem stopA_exit (k:Nat):stopA (.exit k)=.over (.exit k):=(rfl)
@[simp] theorem goesOn_exit (k:Nat):goesOn (.exit k)=false:=(rfl)
@[simp] theorem goesOn_ret:goesOn .ret=false:=(rfl)
@[simp] theorem stopA_ret:stopA .ret=.over .ret:=(rfl)
@[simp] theorem envZ_nil (vs:List AV):envZ [] vs=[]:=(rfl)
@[simp] theorem bindE_nil (vs:List AV) (E:List (Nat×AV)):bindE [] vs E=E:=(rfl)
attribute [simp] seqK.eq_1 seqK.eq_2 seqK.eq_3 seqK.eq_4
attribute [simp] blockK.eq_1 blockK.eq_2 blockK.eq_3 blockK.eq_4
attribute [simp] condK.eq_1
attribute [simp] doneK.eq_1 doneK.eq_2
attribute [simp] retOne.eq_1 retOne.eq_2
attribute [simp] retAll.eq_1 retAll.eq_2
attribute [simp] frzRes.eq_1 frzRes.eq_2
attribute [simp] resFor.eq_1 resFor.eq_2
attribute [simp] keepVs.eq_1 keepVs.eq_2
attribute [simp] outOf.eq_1
attribute [simp] finish.eq_1
attribute [simp] endK.eq_1 endK.eq_2 endK.eq_3 endK.eq_4
attribute [simp] argAt.eq_1 argAt.eq_2 argAt.eq_3
attribute [simp] enterE.eq_1 enterE.eq_2
attribute [simp] enter.eq_1
attribute [simp] storeAny.eq_1 storeAny.eq_2
attribute [simp] resAny.eq_1 resAny.eq_2
attribute [simp] bareC.eq_1 bareC.eq_2 bareC.eq_3 bareC.eq_4 bareC.eq_5
attribute [simp] bareL.eq_1 bareL.eq_2
attribute [simp] bareLL.eq_1 bareLL.eq_2
attribute [simp] litC.eq_1 litC.eq_2 litC.eq_3 litC.eq_4
attribute [simp] litsL.eq_1 litsL.eq_2
attribute [simp] absE.eq_1 absE.eq_2
attribute [simp] absC.eq_1 absC.eq_2 absC.eq_3
attribute [simp] absL.eq_1 absL.eq_2
attribute [simp] treArr.eq_1
attribute [simp] storeTE.eq_1 storeTE.eq_2
attribute [simp] storeT.eq_1 storeT.eq_2
@[simp] theorem resKeep_one (st:Store) (v:AV):resKeep st [v]=some ([v],st):=(rfl)
@[simp] theorem resKeep_nil (st:Store):resKeep st []=some ([],st):=(rfl)
@[simp] theorem resKeep_two (st:Store) (a b:AV) (r:List AV):resKeep st (a :: b :: r)=keepVs st (a :: b :: r):=(rfl)
@[simp] theorem keepV_agg (st:Store) (cs:List AV):keepV st (.agg cs)=bnd (frzV st (.agg cs)) fun p=>some (.i p.1,p.2):=(rfl)
@[simp] theorem keepV_nils (st:Store) :keepV st .nils=some (.nils,st):=(rfl)
@[simp] theorem keepV_own (st:Store) (i o:Nat):keepV st (.own i o)=some ((.own i o),st):=(rfl)
@[simp] theorem keepV_ownE (st:Store) (i k j o:Nat):keepV st (.ownE i k j o)=some ((.ownE i k j o),st):=(rfl)
@[simp] theorem keepV_osl (st:Store) (i k o l:Nat):keepV st (.osl i k o l)=some ((.osl i k o l),st):=(rfl)
@[simp] theorem keepV_fn (st:Store) (f:Fn) (cs:List AV):keepV st (.fn f cs)=some ((.fn f cs),st):=(rfl)
@[simp] theorem keepV_i (st:Store) (v:IV):keepV st (.i v)=some ((.i v),st):=(rfl)
@[simp] theorem keepV_tup (st:Store) (cs:List AV):keepV st (.tup cs)=some ((.tup cs),st):=(rfl)
@[simp] theorem keepV_junk (st:Store) :keepV st .junk=some (.junk,st):=(rfl)
@[simp] theorem waitsN_3 (all:List Oper) (after:List Edge) (j:Nat):waitsN all 3 after j=if waitsA after j=true then true else after.any fun e=>Region.binds .any e && waitsN all 2 (aftersOf all e.on) j:=(rfl)
@[simp] theorem waitsN_2 (all:List Oper) (after:List Edge) (j:Nat):waitsN all 2 after j=if waitsA after j=true then true else after.any fun e=>Region.binds .any e && waitsN all 1 (aftersOf all e.on) j:=(rfl)
@[simp] theorem waitsN_1 (all:List Oper) (after:List Edge) (j:Nat):waitsN all 1 after j=if waitsA after j=true then true else after.any fun e=>Region.binds .any e && waitsN all 0 (aftersOf all e.on) j:=(rfl)
@[simp] theorem waitsN_0 (all:List Oper) (after:List Edge) (j:Nat):waitsN all 0 after j=waitsA after j:=(rfl)
attribute [simp] aftersOf.eq_1
attribute [simp] undef
attribute [simp] wide
end Go.Av

namespace Go.Proofs.YtjcjpbjpbbdnlaaGreat
open Go Go.Av
def GS:FuncId→List Nat
 | 3=>[0,2,3,4,5,6,7,8,9,12,45]
 | 4=>[0,1,4,5,6,7,8,9,10,11,12,13,14,15,16,24,57]
 | 5=>[0,1,2,3,5,6,7,8,9,10,11,12,13,14,15,16,17,18,19,22,27,32,64,69,74,79,101,109,112,131,136,139]
 | 6=>[0,2,3,4,5,6,7,10,29]
 | 7=>[0,2,3,4,5,6,7,8,11,44]
 | 8=>[0,1,2,3,4,5,8,9,10,11,12,13,14,15,18,23,28,33,58,63,68,73,78]
 | 9=>[0,1,2,3,6,7,8,9,10,11,12,13,14,15,16,17,18,19,22,27,32,64,69,74,79,101,109,112,131,136,139]
 | 10=>[0,2,3,4,5,6,7,8,11,44]
 | 11=>[0,2,3,4,5,6,7,8,9,12,37]
 | 12=>[0,1,2,4,5,6,7,8,9,10,11,12,13,14,15,16,19,24,52,57,62,82,93,98,101,119,124,129,132]
 | 13=>[0,2,3,4,5,6,7]
 | 14=>[0,1,2,3,5,6,7,8,9,10,11,15,21,36]
 | 15=>[0,1,2,3,5,6,7,17]
 | 16=>[0,1,2,3,4,5,42,47,61]
 | 17=>[0,1,2,4,7]
 | 18=>[0,1,4,5,10,14,25]
 | 19=>[0,1,2,4,5,6,10,12,13,14,17]
 | 20=>[0,2,3,4]
 | 21=>[0,1,2,3,6,7,8,10,11,12,21,24,25,26,27,38]
 | 22=>[0,1,2,3,6,7,8,9,10,11,20,27,41]
 | 23=>[0,1,2,4,10,16,22]
 | 24=>[0,1,2,4,10]
 | 25=>[0,1,2,3]
 | 26=>[0,2,3,4,11]
 | 27=>[0,1,2,3]
 | 28=>[0,1,2,3,4,9,14,20,26,32]
 | 29=>[0,1,4,5,10,14,25]
 | 30=>[0,1,2,3,4,9,15]
 | 31=>[0,1,2,4]
 | 32=>[0,1,4,5,9]
 | 33=>[0,1,2,4]
 | 34=>[0,1,2,4,10,16,22]
 | 35=>[0,2,3,4,5,6,7,18]
 | 36=>[0,1,2,4,6,10]
 | 37=>[0,1,2,4,5,6,10,17,25]
 | 38=>[0,1,2,4,5,6,7,8,9,13,18,25]
 | 39=>[0,2,3]
 | 40=>[0,1,2,4,5,6,7,8,9,10,16,23,39,45]
 | 41=>[0,1,4,5,10,14,41]
 | 42=>[0,1,4,5,11,15,25]
 | 43=>[0,1,2,3,4,5,8,9,10]
 | 44=>[0,2,3,4,11]
 | 45=>[0,1,2,3,4,5,8,9,10]
 | 46=>[0,1,4,5,10,14,26]
 | 47=>[0,1,4,5,9]
 | 48=>[0,2,3,4,5,6,7,8,9,10,11,33]
 | 49=>[0,1,4,5,9,18,29]
 | 50=>[0,2,5]
 | 51=>[0,2,3,4,5,13]
 | 52=>[0,1,2,4,6,7,8,19]
 | 53=>[0,1,4,6,9,10,11,12,13,26]
 | 54=>[0,1,2,3,8,9,10,11,12,19,37]
 | 55=>[0,2,3,4,5,6,7,14,38,39,40,76,77,78]
 | 56=>[0,1,2,4,7]
 | 57=>[0,1,2,3,5,6,7,8,9,10,19,30,40]
 | 58=>[0,1,4,5,10,14,26]
 | 59=>[0,2,4,12,13,14,15,16,21]
 | 60=>[0,1,2,6,7,8,9,10,31,60,87,92,106,118,119,120,137]
 | 61=>[0,1,3,4,5]
 | 62=>[0,2,3,4,5,6,7,8,9,10,11,12,23,41]
 | 63=>[0,1,2,3,4,5,19,37]
 | 64=>[0,1,4,5,11,15,25]
 | 65=>[0,1,4,10]
 | 66=>[0,1,4,5,11,15,25]
 | 67=>[0,2,3,4,11]
 | 68=>[0,2,3,4,11]
 | 69=>[0,1,4,5,10,14,26]
 | 70=>[0,1,4,5,10,14,26]
 | 71=>[0,1,4,5,9]
 | 72=>[0,1,4,5,9]
 | 73=>[0,1,4,5,9,18,27,39,49,60]
 | 74=>[0,1,4,5,9,17]
 | 75=>[0,1,4,5,9,18,27,38,47,56]
 | 76=>[0,1,4,5,6,24,36]
 | 77=>[0,1,4,5,6,9,10,12]
 | 78=>[0,1,2,4,5,6,7,8,9,11,20,24,42]
 | 79=>[0,2]
 | 80=>[0,1,2,3,4,5,6,7,46,51,65,70,83,88,102]
 | 81=>[0,1,4,5,6,38,62,67,68,69,84,90,91,92,107]
 | 82=>[0,2,3,4,10]
 | 83=>[0,1,4,5,10,11,17,23,33]
 | 84=>[0,1,4]
 | 85=>[0,1,2,4,8]
 | 86=>[0,2,3,4,9]
 | 87=>[0,4,5,6,7,8,16]
 | 88=>[0,4,5,6,21]
 | 89=>[0,1,4,5,6,7,8,16,38]
 | 90=>[0,1,4,5,6,7,8,9,10,18,34]
 | 91=>[0,4,5,6,7,8,16]
 | 92=>[0,1,4,5,6,7,8,9,10,15,37,38,39]
 | 93=>[0,1,4,5,6,7,8,9,10,11,19,36,49]
 | 94=>[0,4,5,6,7,8,16]
 | 95=>[0,4,5,30]
 | 96=>[0,1,4,5,6,7,8,9,17]
 | 97=>[0,1,4,5,6,7,8,9,10,11,26,50,51,52,71]
 | 98=>[0,2,3,6]
 | 99=>[0,2,3,4,5,6,13,37,38,39]
 | 100=>[0,2,3,6]
 | 101=>[0,2,3,6]
 | 102=>[0,2,3,7,15]
 | 103=>[0,1,2,3,6,7,8,9,23,28,41,47,48,55,61,70,74,82,106,114,122,126,131,144]
 | 104=>[0,1,2,4,5,6,10,22]
 | 105=>[0,1,2,3,6,7,8,9,10,11,12,13,14,24,71,99,120]
 | 106=>[0,1,2,3,5,6,7,10]
 | 107=>[0,1,2,3,4]
 | 108=>[0,2]
 | 109=>[0,2,3,4,5,7,10,13,15]
 | 110=>[0,1,2,6,7,8,13,14,21,22,26,27,35,46,47,48,59,65]
 | 111=>[0,1,4,12,13,14]
 | 112=>[0,1,2]
 | 113=>[0,1,2,3,4,16]
 | 114=>[0,1,2,4,10]
 | 115=>[0,1,2,3]
 | 116=>[0,1,2,3,4,9,14,20,26]
 | 117=>[0,1,2,3,4]
 | 118=>[0,1,2]
 | 119=>[0,1,2,4,6,7,18]
 | 120=>[0,1,2,3,4,5,33,38,52]
 | 121=>[0,1,4,5,10,12,13,14,24]
 | 122=>[0,1,4,5,49,54,55,56,71]
 | 123=>[0,1,4,5,6,18]
 | 124=>[0,1,4,5,10,11,17,24]
 | 125=>[0,1,4,5,6,22]
 | 126=>[0,1,2,3,4]
 | 127=>[0,1,2,3,4]
 | 128=>[0,2,3,4,9,19,20,21]
 | 129=>[0,1,2,3,5,6,7,8]
 | 130=>[0,1,3,4]
 | 131=>[0,1,3]
 | 132=>[0,1,2,4,7]
 | 133=>[0,2]
 | 134=>[0,1,2,3,6,7,8,10,14,18,19,20,26,27,28,29,38]
 | 135=>[0,1,2,3,4,6,7,8,9,14,20,21,22,30,42]
 | 136=>[0,1,2,6]
 | 137=>[0,1,2,3,4,6,7,9,12,14,16]
 | 138=>[0,1,2,4]
 | 139=>[0,1,4,5,9,18,21]
 | 140=>[0,1,4,5,9,35]
 | 141=>[0,1,2,3,6,7,8,9,10,11,12,13,14,26,42,62,81,112,150,169,190,212]
 | 142=>[0,1,4,5,6,10]
 | 143=>[0,1,2,4,5,6,9,27]
 | 144=>[0,1,4,5,7,10,11,12,13,14,24]
 | 145=>[0,1,2,4]
 | 146=>[0,1,2,3]
 | 147=>[0,1,2,3,4,9,14]
 | 148=>[0,1,2]
 | 149=>[0,1,2,3,8,9,11,12,14,28,35,40,41,42,58]
 | 150=>[0,1,4,5,6,7,8,9,10,11,12,31,44,45,54,62,77,88,110,122,128,146,151,154]
 | 151=>[0,1,2,3,4]
 | 152=>[0,1,4]
 | 153=>[0,1,2,6,7,8,9,10,18,21,37]
 | 154=>[0,2,3,7,8,11]
 | 155=>[0,1,4,5,6,12,39,40,41]
 | 156=>[0,1,3,8]
 | 157=>[0,1,4,5,6,10,11,20,37,38,50,54,59]
 | 158=>[0,2,3,4,9,10,11]
 | 159=>[0,1,2,6,7,27,32,33,34,46]
 | 160=>[0,1,3,8]
 | 161=>[0,1,2,3,6,7,24,29,41,43,44,57]
 | 162=>[0,1,2,3,6,7]
 | 163=>[0,1,2,3,6]
 | 164=>[0,1,4,5,6,11]
 | 165=>[0,1,2,6,7,8,28,62,90,95,96,97,109]
 | 166=>[0,1,2,6,7,8,9,20,32,33,34,39,46,59,66]
 | 167=>[0,1,2]
 | 168=>[0,2,5]
 | 169=>[0,2,3,4,7,10]
 | 170=>[0,1,2,3,6]
 | 171=>[0,1,2,6,7,9,11,17,19,20,21,22,26,27,28,29,46,54,66]
 | 172=>[0,1,2]
 | 173=>[0,1,3,4,5,8,17]
 | 174=>[0,1,2,4,5,6,7,9,10,17,29,30,42,46,49,66,76,84,89]
 | 175=>[0,1,4,5,6,7,8,12,18,26]
 | 176=>[0,2,3,4,7,10]
 | 177=>[0,1,2,4]
 | 178=>[0,2,3,5,9,10,11,12,19]
 | 179=>[0,1,2,4,5,6,7,16,25,33,34,42,50,58]
 | 180=>[0,1,4,5,6,18,32]
 | 181=>[0,1,2,3,6]
 | 182=>[0,1,2,6,7,8,9,11,15,29]
 | 183=>[0,2]
 | 184=>[0]
 | 185=>[0,1,2,3,6]
 | 186=>[0,2,4]
 | 187=>[0,2,3,7]
 | 188=>[0,2,3]
 | 189=>[0,1,2,4,5,6,7,8,16,32,34,35,43,51,59]
 | 190=>[0,2,3,4,7]
 | 191=>[0,2,4]
 | 192=>[0,1,4,5,12]
 | 193=>[0,1,2,3,6]
 | 194=>[0,2,4]
 | 195=>[0,2,5]
 | 196=>[0,2,3]
 | 212=>[]
 | _=>[]
def ownA:FuncId→Bool
 | 51=>true
 | 52=>true
 | 62=>true
 | 76=>true
 | 82=>true
 | 83=>true
 | 84=>true
 | 86=>true
 | 99=>true
 | 111=>true
 | 112=>true
 | 119=>true
 | 123=>true
 | 124=>true
 | 131=>true
 | 132=>true
 | 148=>true
 | 150=>true
 | 152=>true
 | 153=>true
 | 154=>true
 | 156=>true
 | 160=>true
 | 166=>true
 | 168=>true
 | _=>false
def keepR:FuncId→Bool
 | 50=>true
 | 82=>true
 | 83=>true
 | 124=>true
 | 98=>true
 | 101=>true
 | 100=>true
 | 142=>true
 | 63=>true
 | 119=>true
 | 117=>true
 | _=>false
def eqTy:TypeId→Bool
 | 109=>true
 | 110=>true
 | 128=>true
 | _=>false
@[simp] theorem kR3:keepR 3=false:=(rfl)
@[simp] theorem gS3:GS 3=[0,2,3,4,5,6,7,8,9,12,45]:=(rfl)
@[simp] theorem kR4:keepR 4=false:=(rfl)
@[simp] theorem gS4:GS 4=[0,1,4,5,6,7,8,9,10,11,12,13,14,15,16,24,57]:=(rfl)
@[simp] theorem kR6:keepR 6=false:=(rfl)
@[simp] theorem gS6:GS 6=[0,2,3,4,5,6,7,10,29]:=(rfl)
@[simp] theorem kR7:keepR 7=false:=(rfl)
@[simp] theorem gS7:GS 7=[0,2,3,4,5,6,7,8,11,44]:=(rfl)
@[simp] theorem kR10:keepR 10=false:=(rfl)
@[simp] theorem gS10:GS 10=[0,2,3,4,5,6,7,8,11,44]:=(rfl)
@[simp] theorem kR11:keepR 11=false:=(rfl)
@[simp] theorem gS11:GS 11=[0,2,3,4,5,6,7,8,9,12,37]:=(rfl)
@[simp] theorem oA13:ownA 13=false:=(rfl)
@[simp] theorem kR13:keepR 13=false:=(rfl)
@[simp] theorem gS13:GS 13=[0,2,3,4,5,6,7]:=(rfl)
@[simp] theorem oA14:ownA 14=false:=(rfl)
@[simp] theorem kR14:keepR 14=false:=(rfl)
@[simp] theorem gS14:GS 14=[0,1,2,3,5,6,7,8,9,10,11,15,21,36]:=(rfl)
@[simp] theorem oA15:ownA 15=false:=(rfl)
@[simp] theorem kR15:keepR 15=false:=(rfl)
@[simp] theorem gS15:GS 15=[0,1,2,3,5,6,7,17]:=(rfl)
@[simp] theorem oA16:ownA 16=false:=(rfl)
@[simp] theorem kR16:keepR 16=false:=(rfl)
@[simp] theorem gS16:GS 16=[0,1,2,3,4,5,42,47,61]:=(rfl)
@[simp] theorem oA17:ownA 17=false:=(rfl)
@[simp] theorem kR17:keepR 17=false:=(rfl)
@[simp] theorem gS17:GS 17=[0,1,2,4,7]:=(rfl)
@[simp] theorem oA18:ownA 18=false:=(rfl)
@[simp] theorem kR18:keepR 18=false:=(rfl)
@[simp] theorem gS18:GS 18=[0,1,4,5,10,14,25]:=(rfl)
@[simp] theorem oA19:ownA 19=false:=(rfl)
@[simp] theorem kR19:keepR 19=false:=(rfl)
@[simp] theorem gS19:GS 19=[0,1,2,4,5,6,10,12,13,14,17]:=(rfl)
@[simp] theorem oA20:ownA 20=false:=(rfl)
@[simp] theorem kR20:keepR 20=false:=(rfl)
@[simp] theorem gS20:GS 20=[0,2,3,4]:=(rfl)
@[simp] theorem oA21:ownA 21=false:=(rfl)
@[simp] theorem kR21:keepR 21=false:=(rfl)
@[simp] theorem gS21:GS 21=[0,1,2,3,6,7,8,10,11,12,21,24,25,26,27,38]:=(rfl)
@[simp] theorem oA22:ownA 22=false:=(rfl)
@[simp] theorem kR22:keepR 22=false:=(rfl)
@[simp] theorem gS22:GS 22=[0,1,2,3,6,7,8,9,10,11,20,27,41]:=(rfl)
@[simp] theorem oA35:ownA 35=false:=(rfl)
@[simp] theorem kR35:keepR 35=false:=(rfl)
@[simp] theorem gS35:GS 35=[0,2,3,4,5,6,7,18]:=(rfl)
@[simp] theorem oA36:ownA 36=false:=(rfl)
@[simp] theorem kR36:keepR 36=false:=(rfl)
@[simp] theorem gS36:GS 36=[0,1,2,4,6,10]:=(rfl)
@[simp] theorem oA37:ownA 37=false:=(rfl)
@[simp] theorem kR37:keepR 37=false:=(rfl)
@[simp] theorem gS37:GS 37=[0,1,2,4,5,6,10,17,25]:=(rfl)
@[simp] theorem oA38:ownA 38=false:=(rfl)
@[simp] theorem kR38:keepR 38=false:=(rfl)
@[simp] theorem gS38:GS 38=[0,1,2,4,5,6,7,8,9,13,18,25]:=(rfl)
@[simp] theorem oA39:ownA 39=false:=(rfl)
@[simp] theorem kR39:keepR 39=false:=(rfl)
@[simp] theorem gS39:GS 39=[0,2,3]:=(rfl)
@[simp] theorem oA40:ownA 40=false:=(rfl)
@[simp] theorem kR40:keepR 40=false:=(rfl)
@[simp] theorem gS40:GS 40=[0,1,2,4,5,6,7,8,9,10,16,23,39,45]:=(rfl)
@[simp] theorem oA41:ownA 41=false:=(rfl)
@[simp] theorem kR41:keepR 41=false:=(rfl)
@[simp] theorem gS41:GS 41=[0,1,4,5,10,14,41]:=(rfl)
@[simp] theorem oA43:ownA 43=false:=(rfl)
@[simp] theorem kR43:keepR 43=false:=(rfl)
@[simp] theorem gS43:GS 43=[0,1,2,3,4,5,8,9,10]:=(rfl)
@[simp] theorem oA45:ownA 45=false:=(rfl)
@[simp] theorem kR45:keepR 45=false:=(rfl)
@[simp] theorem gS45:GS 45=[0,1,2,3,4,5,8,9,10]:=(rfl)
@[simp] theorem oA48:ownA 48=false:=(rfl)
@[simp] theorem kR48:keepR 48=false:=(rfl)
@[simp] theorem gS48:GS 48=[0,2,3,4,5,6,7,8,9,10,11,33]:=(rfl)
@[simp] theorem oA50:ownA 50=false:=(rfl)
@[simp] theorem kR50:keepR 50=true:=(rfl)
@[simp] theorem gS50:GS 50=[0,2,5]:=(rfl)
@[simp] theorem oA51:ownA 51=true:=(rfl)
@[simp] theorem kR51:keepR 51=false:=(rfl)
@[simp] theorem gS51:GS 51=[0,2,3,4,5,13]:=(rfl)
@[simp] theorem oA52:ownA 52=true:=(rfl)
@[simp] theorem kR52:keepR 52=false:=(rfl)
@[simp] theorem gS52:GS 52=[0,1,2,4,6,7,8,19]:=(rfl)
@[simp] theorem oA53:ownA 53=false:=(rfl)
@[simp] theorem kR53:keepR 53=false:=(rfl)
@[simp] theorem gS53:GS 53=[0,1,4,6,9,10,11,12,13,26]:=(rfl)
@[simp] theorem oA54:ownA 54=false:=(rfl)
@[simp] theorem kR54:keepR 54=false:=(rfl)
@[simp] theorem gS54:GS 54=[0,1,2,3,8,9,10,11,12,19,37]:=(rfl)
@[simp] theorem oA55:ownA 55=false:=(rfl)
@[simp] theorem gS55:GS 55=[0,2,3,4,5,6,7,14,38,39,40,76,77,78]:=(rfl)
@[simp] theorem oA56:ownA 56=false:=(rfl)
@[simp] theorem kR56:keepR 56=false:=(rfl)
@[simp] theorem gS56:GS 56=[0,1,2,4,7]:=(rfl)
@[simp] theorem oA57:ownA 57=false:=(rfl)
@[simp] theorem kR57:keepR 57=false:=(rfl)
@[simp] theorem gS57:GS 57=[0,1,2,3,5,6,7,8,9,10,19,30,40]:=(rfl)
@[simp] theorem oA58:ownA 58=false:=(rfl)
@[simp] theorem kR58:keepR 58=false:=(rfl)
@[simp] theorem gS58:GS 58=[0,1,4,5,10,14,26]:=(rfl)
@[simp] theorem oA59:ownA 59=false:=(rfl)
@[simp] theorem kR59:keepR 59=false:=(rfl)
@[simp] theorem gS59:GS 59=[0,2,4,12,13,14,15,16,21]:=(rfl)
@[simp] theorem oA60:ownA 60=false:=(rfl)
@[simp] theorem kR60:keepR 60=false:=(rfl)
@[simp] theorem gS60:GS 60=[0,1,2,6,7,8,9,10,31,60,87,92,106,118,119,120,137]:=(rfl)
@[simp] theorem oA61:ownA 61=false:=(rfl)
@[simp] theorem kR61:keepR 61=false:=(rfl)
@[simp] theorem gS61:GS 61=[0,1,3,4,5]:=(rfl)
@[simp] theorem oA62:ownA 62=true:=(rfl)
@[simp] theorem kR62:keepR 62=false:=(rfl)
@[simp] theorem gS62:GS 62=[0,2,3,4,5,6,7,8,9,10,11,12,23,41]:=(rfl)
@[simp] theorem oA63:ownA 63=false:=(rfl)
@[simp] theorem kR63:keepR 63=true:=(rfl)
@[simp] theorem gS63:GS 63=[0,1,2,3,4,5,19,37]:=(rfl)
@[simp] theorem oA76:ownA 76=true:=(rfl)
@[simp] theorem kR76:keepR 76=false:=(rfl)
@[simp] theorem gS76:GS 76=[0,1,4,5,6,24,36]:=(rfl)
@[simp] theorem oA77:ownA 77=false:=(rfl)
@[simp] theorem kR77:keepR 77=false:=(rfl)
@[simp] theorem gS77:GS 77=[0,1,4,5,6,9,10,12]:=(rfl)
@[simp] theorem oA78:ownA 78=false:=(rfl)
@[simp] theorem kR78:keepR 78=false:=(rfl)
@[simp] theorem gS78:GS 78=[0,1,2,4,5,6,7,8,9,11,20,24,42]:=(rfl)
@[simp] theorem oA79:ownA 79=false:=(rfl)
@[simp] theorem kR79:keepR 79=false:=(rfl)
@[simp] theorem gS79:GS 79=[0,2]:=(rfl)
@[simp] theorem oA80:ownA 80=false:=(rfl)
@[simp] theorem kR80:keepR 80=false:=(rfl)
@[simp] theorem gS80:GS 80=[0,1,2,3,4,5,6,7,46,51,65,70,83,88,102]:=(rfl)
@[simp] theorem oA81:ownA 81=false:=(rfl)
@[simp] theorem kR81:keepR 81=false:=(rfl)
@[simp] theorem gS81:GS 81=[0,1,4,5,6,38,62,67,68,69,84,90,91,92,107]:=(rfl)
@[simp] theorem oA82:ownA 82=true:=(rfl)
@[simp] theorem kR82:keepR 82=true:=(rfl)
@[simp] theorem gS82:GS 82=[0,2,3,4,10]:=(rfl)
@[simp] theorem oA83:ownA 83=true:=(rfl)
@[simp] theorem kR83:keepR 83=true:=(rfl)
@[simp] theorem gS83:GS 83=[0,1,4,5,10,11,17,23,33]:=(rfl)
@[simp] theorem oA84:ownA 84=true:=(rfl)
@[simp] theorem kR84:keepR 84=false:=(rfl)
@[simp] theorem gS84:GS 84=[0,1,4]:=(rfl)
@[simp] theorem oA85:ownA 85=false:=(rfl)
@[simp] theorem kR85:keepR 85=false:=(rfl)
@[simp] theorem gS85:GS 85=[0,1,2,4,8]:=(rfl)
@[simp] theorem oA86:ownA 86=true:=(rfl)
@[simp] theorem kR86:keepR 86=false:=(rfl)
@[simp] theorem gS86:GS 86=[0,2,3,4,9]:=(rfl)
@[simp] theorem oA87:ownA 87=false:=(rfl)
@[simp] theorem kR87:keepR 87=false:=(rfl)
@[simp] theorem gS87:GS 87=[0,4,5,6,7,8,16]:=(rfl)
@[simp] theorem oA88:ownA 88=false:=(rfl)
@[simp] theorem kR88:keepR 88=false:=(rfl)
@[simp] theorem gS88:GS 88=[0,4,5,6,21]:=(rfl)
@[simp] theorem oA89:ownA 89=false:=(rfl)
@[simp] theorem kR89:keepR 89=false:=(rfl)
@[simp] theorem gS89:GS 89=[0,1,4,5,6,7,8,16,38]:=(rfl)
@[simp] theorem oA90:ownA 90=false:=(rfl)
@[simp] theorem kR90:keepR 90=false:=(rfl)
@[simp] theorem gS90:GS 90=[0,1,4,5,6,7,8,9,10,18,34]:=(rfl)
@[simp] theorem oA91:ownA 91=false:=(rfl)
@[simp] theorem kR91:keepR 91=false:=(rfl)
@[simp] theorem gS91:GS 91=[0,4,5,6,7,8,16]:=(rfl)
@[simp] theorem oA92:ownA 92=false:=(rfl)
@[simp] theorem kR92:keepR 92=false:=(rfl)
@[simp] theorem gS92:GS 92=[0,1,4,5,6,7,8,9,10,15,37,38,39]:=(rfl)
@[simp] theorem oA93:ownA 93=false:=(rfl)
@[simp] theorem kR93:keepR 93=false:=(rfl)
@[simp] theorem gS93:GS 93=[0,1,4,5,6,7,8,9,10,11,19,36,49]:=(rfl)
@[simp] theorem oA94:ownA 94=false:=(rfl)
@[simp] theorem kR94:keepR 94=false:=(rfl)
@[simp] theorem gS94:GS 94=[0,4,5,6,7,8,16]:=(rfl)
@[simp] theorem oA95:ownA 95=false:=(rfl)
@[simp] theorem kR95:keepR 95=false:=(rfl)
@[simp] theorem gS95:GS 95=[0,4,5,30]:=(rfl)
@[simp] theorem oA96:ownA 96=false:=(rfl)
@[simp] theorem kR96:keepR 96=false:=(rfl)
@[simp] theorem gS96:GS 96=[0,1,4,5,6,7,8,9,17]:=(rfl)
@[simp] theorem oA97:ownA 97=false:=(rfl)
@[simp] theorem kR97:keepR 97=false:=(rfl)
@[simp] theorem gS97:GS 97=[0,1,4,5,6,7,8,9,10,11,26,50,51,52,71]:=(rfl)
@[simp] theorem oA98:ownA 98=false:=(rfl)
@[simp] theorem kR98:keepR 98=true:=(rfl)
@[simp] theorem gS98:GS 98=[0,2,3,6]:=(rfl)
@[simp] theorem oA99:ownA 99=true:=(rfl)
@[simp] theorem gS99:GS 99=[0,2,3,4,5,6,13,37,38,39]:=(rfl)
@[simp] theorem oA100:ownA 100=false:=(rfl)
@[simp] theorem kR100:keepR 100=true:=(rfl)
@[simp] theorem gS100:GS 100=[0,2,3,6]:=(rfl)
@[simp] theorem oA101:ownA 101=false:=(rfl)
@[simp] theorem kR101:keepR 101=true:=(rfl)
@[simp] theorem gS101:GS 101=[0,2,3,6]:=(rfl)
@[simp] theorem oA102:ownA 102=false:=(rfl)
@[simp] theorem kR102:keepR 102=false:=(rfl)
@[simp] theorem gS102:GS 102=[0,2,3,7,15]:=(rfl)
@[simp] theorem oA103:ownA 103=false:=(rfl)
@[simp] theorem kR103:keepR 103=false:=(rfl)
@[simp] theorem gS103:GS 103=[0,1,2,3,6,7,8,9,23,28,41,47,48,55,61,70,74,82,106,114,122,126,131,144]:=(rfl)
@[simp] theorem oA104:ownA 104=false:=(rfl)
@[simp] theorem kR104:keepR 104=false:=(rfl)
@[simp] theorem gS104:GS 104=[0,1,2,4,5,6,10,22]:=(rfl)
@[simp] theorem oA105:ownA 105=false:=(rfl)
@[simp] theorem kR105:keepR 105=false:=(rfl)
@[simp] theorem gS105:GS 105=[0,1,2,3,6,7,8,9,10,11,12,13,14,24,71,99,120]:=(rfl)
@[simp] theorem oA106:ownA 106=false:=(rfl)
@[simp] theorem kR106:keepR 106=false:=(rfl)
@[simp] theorem gS106:GS 106=[0,1,2,3,5,6,7,10]:=(rfl)
@[simp] theorem oA107:ownA 107=false:=(rfl)
@[simp] theorem kR107:keepR 107=false:=(rfl)
@[simp] theorem gS107:GS 107=[0,1,2,3,4]:=(rfl)
@[simp] theorem oA108:ownA 108=false:=(rfl)
@[simp] theorem kR108:keepR 108=false:=(rfl)
@[simp] theorem gS108:GS 108=[0,2]:=(rfl)
@[simp] theorem oA109:ownA 109=false:=(rfl)
@[simp] theorem kR109:keepR 109=false:=(rfl)
@[simp] theorem gS109:GS 109=[0,2,3,4,5,7,10,13,15]:=(rfl)
@[simp] theorem oA110:ownA 110=false:=(rfl)
@[simp] theorem kR110:keepR 110=false:=(rfl)
@[simp] theorem gS110:GS 110=[0,1,2,6,7,8,13,14,21,22,26,27,35,46,47,48,59,65]:=(rfl)
@[simp] theorem oA111:ownA 111=true:=(rfl)
@[simp] theorem kR111:keepR 111=false:=(rfl)
@[simp] theorem gS111:GS 111=[0,1,4,12,13,14]:=(rfl)
@[simp] theorem oA112:ownA 112=true:=(rfl)
@[simp] theorem kR112:keepR 112=false:=(rfl)
@[simp] theorem gS112:GS 112=[0,1,2]:=(rfl)
@[simp] theorem oA113:ownA 113=false:=(rfl)
@[simp] theorem kR113:keepR 113=false:=(rfl)
@[simp] theorem gS113:GS 113=[0,1,2,3,4,16]:=(rfl)
@[simp] theorem oA117:ownA 117=false:=(rfl)
@[simp] theorem kR117:keepR 117=true:=(rfl)
@[simp] theorem gS117:GS 117=[0,1,2,3,4]:=(rfl)
@[simp] theorem oA118:ownA 118=false:=(rfl)
@[simp] theorem kR118:keepR 118=false:=(rfl)
@[simp] theorem gS118:GS 118=[0,1,2]:=(rfl)
@[simp] theorem oA119:ownA 119=true:=(rfl)
@[simp] theorem kR119:keepR 119=true:=(rfl)
@[simp] theorem gS119:GS 119=[0,1,2,4,6,7,18]:=(rfl)
@[simp] theorem oA120:ownA 120=false:=(rfl)
@[simp] theorem kR120:keepR 120=false:=(rfl)
@[simp] theorem gS120:GS 120=[0,1,2,3,4,5,33,38,52]:=(rfl)
@[simp] theorem oA121:ownA 121=false:=(rfl)
@[simp] theorem kR121:keepR 121=false:=(rfl)
@[simp] theorem gS121:GS 121=[0,1,4,5,10,12,13,14,24]:=(rfl)
@[simp] theorem oA122:ownA 122=false:=(rfl)
@[simp] theorem kR122:keepR 122=false:=(rfl)
@[simp] theorem gS122:GS 122=[0,1,4,5,49,54,55,56,71]:=(rfl)
@[simp] theorem oA123:ownA 123=true:=(rfl)
@[simp] theorem kR123:keepR 123=false:=(rfl)
@[simp] theorem gS123:GS 123=[0,1,4,5,6,18]:=(rfl)
@[simp] theorem oA124:ownA 124=true:=(rfl)
@[simp] theorem kR124:keepR 124=true:=(rfl)
@[simp] theorem gS124:GS 124=[0,1,4,5,10,11,17,24]:=(rfl)
@[simp] theorem oA125:ownA 125=false:=(rfl)
@[simp] theorem kR125:keepR 125=false:=(rfl)
@[simp] theorem gS125:GS 125=[0,1,4,5,6,22]:=(rfl)
@[simp] theorem oA126:ownA 126=false:=(rfl)
@[simp] theorem kR126:keepR 126=false:=(rfl)
@[simp] theorem gS126:GS 126=[0,1,2,3,4]:=(rfl)
@[simp] theorem oA127:ownA 127=false:=(rfl)
@[simp] theorem kR127:keepR 127=false:=(rfl)
@[simp] theorem gS127:GS 127=[0,1,2,3,4]:=(rfl)
@[simp] theorem oA128:ownA 128=false:=(rfl)
@[simp] theorem kR128:keepR 128=false:=(rfl)
@[simp] theorem gS128:GS 128=[0,2,3,4,9,19,20,21]:=(rfl)
@[simp] theorem oA129:ownA 129=false:=(rfl)
@[simp] theorem kR129:keepR 129=false:=(rfl)
@[simp] theorem gS129:GS 129=[0,1,2,3,5,6,7,8]:=(rfl)
@[simp] theorem oA130:ownA 130=false:=(rfl)
@[simp] theorem kR130:keepR 130=false:=(rfl)
@[simp] theorem gS130:GS 130=[0,1,3,4]:=(rfl)
@[simp] theorem oA131:ownA 131=true:=(rfl)
@[simp] theorem kR131:keepR 131=false:=(rfl)
@[simp] theorem gS131:GS 131=[0,1,3]:=(rfl)
@[simp] theorem oA132:ownA 132=true:=(rfl)
@[simp] theorem kR132:keepR 132=false:=(rfl)
@[simp] theorem gS132:GS 132=[0,1,2,4,7]:=(rfl)
@[simp] theorem oA133:ownA 133=false:=(rfl)
@[simp] theorem kR133:keepR 133=false:=(rfl)
@[simp] theorem gS133:GS 133=[0,2]:=(rfl)
@[simp] theorem oA134:ownA 134=false:=(rfl)
@[simp] theorem kR134:keepR 134=false:=(rfl)
@[simp] theorem gS134:GS 134=[0,1,2,3,6,7,8,10,14,18,19,20,26,27,28,29,38]:=(rfl)
@[simp] theorem oA135:ownA 135=false:=(rfl)
@[simp] theorem kR135:keepR 135=false:=(rfl)
@[simp] theorem gS135:GS 135=[0,1,2,3,4,6,7,8,9,14,20,21,22,30,42]:=(rfl)
@[simp] theorem oA136:ownA 136=false:=(rfl)
@[simp] theorem kR136:keepR 136=false:=(rfl)
@[simp] theorem gS136:GS 136=[0,1,2,6]:=(rfl)
@[simp] theorem oA137:ownA 137=false:=(rfl)
@[simp] theorem kR137:keepR 137=false:=(rfl)
@[simp] theorem gS137:GS 137=[0,1,2,3,4,6,7,9,12,14,16]:=(rfl)
@[simp] theorem oA138:ownA 138=false:=(rfl)
@[simp] theorem kR138:keepR 138=false:=(rfl)
@[simp] theorem gS138:GS 138=[0,1,2,4]:=(rfl)
@[simp] theorem oA139:ownA 139=false:=(rfl)
@[simp] theorem kR139:keepR 139=false:=(rfl)
@[simp] theorem gS139:GS 139=[0,1,4,5,9,18,21]:=(rfl)
@[simp] theorem oA140:ownA 140=false:=(rfl)
@[simp] theorem kR140:keepR 140=false:=(rfl)
@[simp] theorem gS140:GS 140=[0,1,4,5,9,35]:=(rfl)
@[simp] theorem oA141:ownA 141=false:=(rfl)
@[simp] theorem kR141:keepR 141=false:=(rfl)
@[simp] theorem gS141:GS 141=[0,1,2,3,6,7,8,9,10,11,12,13,14,26,42,62,81,112,150,169,190,212]:=(rfl)
@[simp] theorem oA142:ownA 142=false:=(rfl)
@[simp] theorem kR142:keepR 142=true:=(rfl)
@[simp] theorem gS142:GS 142=[0,1,4,5,6,10]:=(rfl)
@[simp] theorem oA143:ownA 143=false:=(rfl)
@[simp] theorem kR143:keepR 143=false:=(rfl)
@[simp] theorem gS143:GS 143=[0,1,2,4,5,6,9,27]:=(rfl)
@[simp] theorem oA144:ownA 144=false:=(rfl)
@[simp] theorem kR144:keepR 144=false:=(rfl)
@[simp] theorem gS144:GS 144=[0,1,4,5,7,10,11,12,13,14,24]:=(rfl)
@[simp] theorem oA145:ownA 145=false:=(rfl)
@[simp] theorem kR145:keepR 145=false:=(rfl)
@[simp] theorem gS145:GS 145=[0,1,2,4]:=(rfl)
@[simp] theorem kR148:keepR 148=false:=(rfl)
@[simp] theorem gS148:GS 148=[0,1,2]:=(rfl)
@[simp] theorem oA149:ownA 149=false:=(rfl)
@[simp] theorem kR149:keepR 149=false:=(rfl)
@[simp] theorem gS149:GS 149=[0,1,2,3,8,9,11,12,14,28,35,40,41,42,58]:=(rfl)
@[simp] theorem oA150:ownA 150=true:=(rfl)
@[simp] theorem kR150:keepR 150=false:=(rfl)
@[simp] theorem gS150:GS 150=[0,1,4,5,6,7,8,9,10,11,12,31,44,45,54,62,77,88,110,122,128,146,151,154]:=(rfl)
@[simp] theorem oA151:ownA 151=false:=(rfl)
@[simp] theorem kR151:keepR 151=false:=(rfl)
@[simp] theorem gS151:GS 151=[0,1,2,3,4]:=(rfl)
@[simp] theorem oA152:ownA 152=true:=(rfl)
@[simp] theorem kR152:keepR 152=false:=(rfl)
@[simp] theorem gS152:GS 152=[0,1,4]:=(rfl)
@[simp] theorem oA153:ownA 153=true:=(rfl)
@[simp] theorem kR153:keepR 153=false:=(rfl)
@[simp] theorem gS153:GS 153=[0,1,2,6,7,8,9,10,18,21,37]:=(rfl)
@[simp] theorem oA154:ownA 154=true:=(rfl)
@[simp] theorem kR154:keepR 154=false:=(rfl)
@[simp] theorem gS154:GS 154=[0,2,3,7,8,11]:=(rfl)
@[simp] theorem oA155:ownA 155=false:=(rfl)
@[simp] theorem kR155:keepR 155=false:=(rfl)
@[simp] theorem gS155:GS 155=[0,1,4,5,6,12,39,40,41]:=(rfl)
@[simp] theorem oA156:ownA 156=true:=(rfl)
@[simp] theorem kR156:keepR 156=false:=(rfl)
@[simp] theorem gS156:GS 156=[0,1,3,8]:=(rfl)
@[simp] theorem oA157:ownA 157=false:=(rfl)
@[simp] theorem kR157:keepR 157=false:=(rfl)
@[simp] theorem gS157:GS 157=[0,1,4,5,6,10,11,20,37,38,50,54,59]:=(rfl)
@[simp] theorem oA158:ownA 158=false:=(rfl)
@[simp] theorem kR158:keepR 158=false:=(rfl)
@[simp] theorem gS158:GS 158=[0,2,3,4,9,10,11]:=(rfl)
@[simp] theorem oA159:ownA 159=false:=(rfl)
@[simp] theorem kR159:keepR 159=false:=(rfl)
@[simp] theorem gS159:GS 159=[0,1,2,6,7,27,32,33,34,46]:=(rfl)
@[simp] theorem oA160:ownA 160=true:=(rfl)
@[simp] theorem kR160:keepR 160=false:=(rfl)
@[simp] theorem gS160:GS 160=[0,1,3,8]:=(rfl)
@[simp] theorem oA161:ownA 161=false:=(rfl)
@[simp] theorem kR161:keepR 161=false:=(rfl)
@[simp] theorem gS161:GS 161=[0,1,2,3,6,7,24,29,41,43,44,57]:=(rfl)
@[simp] theorem oA162:ownA 162=false:=(rfl)
@[simp] theorem kR162:keepR 162=false:=(rfl)
@[simp] theorem gS162:GS 162=[0,1,2,3,6,7]:=(rfl)
@[simp] theorem oA163:ownA 163=false:=(rfl)
@[simp] theorem kR163:keepR 163=false:=(rfl)
@[simp] theorem gS163:GS 163=[0,1,2,3,6]:=(rfl)
@[simp] theorem oA164:ownA 164=false:=(rfl)
@[simp] theorem kR164:keepR 164=false:=(rfl)
@[simp] theorem gS164:GS 164=[0,1,4,5,6,11]:=(rfl)
@[simp] theorem oA165:ownA 165=false:=(rfl)
@[simp] theorem kR165:keepR 165=false:=(rfl)
@[simp] theorem gS165:GS 165=[0,1,2,6,7,8,28,62,90,95,96,97,109]:=(rfl)
@[simp] theorem oA166:ownA 166=true:=(rfl)
@[simp] theorem kR166:keepR 166=false:=(rfl)
@[simp] theorem gS166:GS 166=[0,1,2,6,7,8,9,20,32,33,34,39,46,59,66]:=(rfl)
@[simp] theorem oA167:ownA 167=false:=(rfl)
@[simp] theorem kR167:keepR 167=false:=(rfl)
@[simp] theorem gS167:GS 167=[0,1,2]:=(rfl)
@[simp] theorem oA168:ownA 168=true:=(rfl)
@[simp] theorem kR168:keepR 168=false:=(rfl)
@[simp] theorem gS168:GS 168=[0,2,5]:=(rfl)
@[simp] theorem oA169:ownA 169=false:=(rfl)
@[simp] theorem kR169:keepR 169=false:=(rfl)
@[simp] theorem gS169:GS 169=[0,2,3,4,7,10]:=(rfl)
@[simp] theorem oA170:ownA 170=false:=(rfl)
@[simp] theorem kR170:keepR 170=false:=(rfl)
@[simp] theorem gS170:GS 170=[0,1,2,3,6]:=(rfl)
@[simp] theorem oA171:ownA 171=false:=(rfl)
@[simp] theorem kR171:keepR 171=false:=(rfl)
@[simp] theorem gS171:GS 171=[0,1,2,6,7,9,11,17,19,20,21,22,26,27,28,29,46,54,66]:=(rfl)
@[simp] theorem oA172:ownA 172=false:=(rfl)
@[simp] theorem kR172:keepR 172=false:=(rfl)
@[simp] theorem gS172:GS 172=[0,1,2]:=(rfl)
@[simp] theorem oA173:ownA 173=false:=(rfl)
@[simp] theorem kR173:keepR 173=false:=(rfl)
@[simp] theorem gS173:GS 173=[0,1,3,4,5,8,17]:=(rfl)
@[simp] theorem oA174:ownA 174=false:=(rfl)
@[simp] theorem kR174:keepR 174=false:=(rfl)
@[simp] theorem gS174:GS 174=[0,1,2,4,5,6,7,9,10,17,29,30,42,46,49,66,76,84,89]:=(rfl)
@[simp] theorem oA175:ownA 175=false:=(rfl)
@[simp] theorem kR175:keepR 175=false:=(rfl)
@[simp] theorem gS175:GS 175=[0,1,4,5,6,7,8,12,18,26]:=(rfl)
@[simp] theorem oA176:ownA 176=false:=(rfl)
@[simp] theorem kR176:keepR 176=false:=(rfl)
@[simp] theorem gS176:GS 176=[0,2,3,4,7,10]:=(rfl)
@[simp] theorem oA177:ownA 177=false:=(rfl)
@[simp] theorem kR177:keepR 177=false:=(rfl)
@[simp] theorem gS177:GS 177=[0,1,2,4]:=(rfl)
@[simp] theorem oA178:ownA 178=false:=(rfl)
@[simp] theorem kR178:keepR 178=false:=(rfl)
@[simp] theorem gS178:GS 178=[0,2,3,5,9,10,11,12,19]:=(rfl)
@[simp] theorem oA179:ownA 179=false:=(rfl)
@[simp] theorem kR179:keepR 179=false:=(rfl)
@[simp] theorem gS179:GS 179=[0,1,2,4,5,6,7,16,25,33,34,42,50,58]:=(rfl)
@[simp] theorem oA180:ownA 180=false:=(rfl)
@[simp] theorem kR180:keepR 180=false:=(rfl)
@[simp] theorem gS180:GS 180=[0,1,4,5,6,18,32]:=(rfl)
@[simp] theorem oA181:ownA 181=false:=(rfl)
@[simp] theorem kR181:keepR 181=false:=(rfl)
@[simp] theorem gS181:GS 181=[0,1,2,3,6]:=(rfl)
@[simp] theorem oA182:ownA 182=false:=(rfl)
@[simp] theorem kR182:keepR 182=false:=(rfl)
@[simp] theorem gS182:GS 182=[0,1,2,6,7,8,9,11,15,29]:=(rfl)
@[simp] theorem oA183:ownA 183=false:=(rfl)
@[simp] theorem kR183:keepR 183=false:=(rfl)
@[simp] theorem gS183:GS 183=[0,2]:=(rfl)
@[simp] theorem oA184:ownA 184=false:=(rfl)
@[simp] theorem kR184:keepR 184=false:=(rfl)
@[simp] theorem gS184:GS 184=[0]:=(rfl)
@[simp] theorem oA185:ownA 185=false:=(rfl)
@[simp] theorem kR185:keepR 185=false:=(rfl)
@[simp] theorem gS185:GS 185=[0,1,2,3,6]:=(rfl)
@[simp] theorem oA186:ownA 186=false:=(rfl)
@[simp] theorem kR186:keepR 186=false:=(rfl)
@[simp] theorem gS186:GS 186=[0,2,4]:=(rfl)
@[simp] theorem oA187:ownA 187=false:=(rfl)
@[simp] theorem kR187:keepR 187=false:=(rfl)
@[simp] theorem gS187:GS 187=[0,2,3,7]:=(rfl)
@[simp] theorem oA188:ownA 188=false:=(rfl)
@[simp] theorem kR188:keepR 188=false:=(rfl)
@[simp] theorem gS188:GS 188=[0,2,3]:=(rfl)
@[simp] theorem oA189:ownA 189=false:=(rfl)
@[simp] theorem kR189:keepR 189=false:=(rfl)
@[simp] theorem gS189:GS 189=[0,1,2,4,5,6,7,8,16,32,34,35,43,51,59]:=(rfl)
@[simp] theorem oA190:ownA 190=false:=(rfl)
@[simp] theorem kR190:keepR 190=false:=(rfl)
@[simp] theorem gS190:GS 190=[0,2,3,4,7]:=(rfl)
@[simp] theorem oA191:ownA 191=false:=(rfl)
@[simp] theorem kR191:keepR 191=false:=(rfl)
@[simp] theorem gS191:GS 191=[0,2,4]:=(rfl)
@[simp] theorem oA192:ownA 192=false:=(rfl)
@[simp] theorem kR192:keepR 192=false:=(rfl)
@[simp] theorem gS192:GS 192=[0,1,4,5,12]:=(rfl)
@[simp] theorem oA193:ownA 193=false:=(rfl)
@[simp] theorem kR193:keepR 193=false:=(rfl)
@[simp] theorem gS193:GS 193=[0,1,2,3,6]:=(rfl)
@[simp] theorem oA194:ownA 194=false:=(rfl)
@[simp] theorem kR194:keepR 194=false:=(rfl)
@[simp] theorem gS194:GS 194=[0,2,4]:=(rfl)
@[simp] theorem eT110:eqTy 110=true:=(rfl)
noncomputable def primF:FuncId→Option (List AV→StL→Option (AV×StL))
 | 99=>some copyE
 | 55=>some copyP
 | _=>none
noncomputable def C0:Ctx:={ P:=Tryz.prog,G:=GS,ownArgs:=ownA,keepRes:=keepR,eqT:=eqTy,prim:=primF }
@[simp] theorem dk3:descK Tryz.prog 3=some (.int .i64):=by kernel_rfl
@[simp] theorem sz3:szOf Tryz.prog 3=some 1:=by kernel_rfl
@[simp] theorem by3:byOf Tryz.prog 3=some 8:=by kernel_rfl
@[simp] theorem ze3:zeroOf Tryz.prog 3=some [(.int .i64 0)]:=by kernel_rfl
@[simp] theorem dk4:descK Tryz.prog 4=some .bool:=by kernel_rfl
@[simp] theorem sz4:szOf Tryz.prog 4=some 1:=by kernel_rfl
@[simp] theorem ze4:zeroOf Tryz.prog 4=some [(.bool false)]:=by kernel_rfl
@[simp] theorem dk5:descK Tryz.prog 5=some (.int .u8):=by kernel_rfl
@[simp] theorem sz5:szOf Tryz.prog 5=some 1:=by kernel_rfl
@[simp] theorem sz6:szOf Tryz.prog 6=some 1:=by kernel_rfl
@[simp] theorem sz10:szOf Tryz.prog 10=some 1:=by kernel_rfl
@[simp] theorem dk22:descK Tryz.prog 22=some (.slice 5):=by kernel_rfl
@[simp] theorem sz22:szOf Tryz.prog 22=some 1:=by kernel_rfl
@[simp] theorem dk23:descK Tryz.prog 23=some (.slice 112):=by kernel_rfl
@[simp] theorem sz23:szOf Tryz.prog 23=some 1:=by kernel_rfl
@[simp] theorem dk24:descK Tryz.prog 24=some (.slice 3):=by kernel_rfl
@[simp] theorem sz24:szOf Tryz.prog 24=some 1:=by kernel_rfl
@[simp] theorem by24:byOf Tryz.prog 24=some 24:=by kernel_rfl
@[simp] theorem ze24:zeroOf Tryz.prog 24=some [(.slice none 0 0)]:=by kernel_rfl
@[simp] theorem dk25:descK Tryz.prog 25=some (.slice 27):=by kernel_rfl
@[simp] theorem sz25:szOf Tryz.prog 25=some 1:=by kernel_rfl
@[simp] theorem dk27:descK Tryz.prog 27=some .strct:=by kernel_rfl
@[simp] theorem sz27:szOf Tryz.prog 27=some 5:=by kernel_rfl
@[simp] theorem by27:byOf Tryz.prog 27=some 88:=by kernel_rfl
@[simp] theorem ze27:zeroOf Tryz.prog 27=some [(.int .i64 0),(.int .i64 0),(.slice none 0 0),(.slice none 0 0),(.slice none 0 0)]:=by kernel_rfl
@[simp] theorem fd27_0:fieldT Tryz.prog 27 0=some (3,0):=by kernel_rfl
@[simp] theorem fd27_1:fieldT Tryz.prog 27 1=some (3,1):=by kernel_rfl
@[simp] theorem fd27_2:fieldT Tryz.prog 27 2=some (23,2):=by kernel_rfl
@[simp] theorem fd27_3:fieldT Tryz.prog 27 3=some (24,3):=by kernel_rfl
@[simp] theorem fd27_4:fieldT Tryz.prog 27 4=some (25,4):=by kernel_rfl
@[simp] theorem dk29:descK Tryz.prog 29=some .strct:=by kernel_rfl
@[simp] theorem sz29:szOf Tryz.prog 29=some 2:=by kernel_rfl
@[simp] theorem by29:byOf Tryz.prog 29=some 32:=by kernel_rfl
@[simp] theorem ze29:zeroOf Tryz.prog 29=some [(.int .i64 0),(.slice none 0 0)]:=by kernel_rfl
@[simp] theorem fd29_0:fieldT Tryz.prog 29 0=some (3,0):=by kernel_rfl
@[simp] theorem fd29_1:fieldT Tryz.prog 29 1=some (24,1):=by kernel_rfl
@[simp] theorem dk39:descK Tryz.prog 39=some (.slice 29):=by kernel_rfl
@[simp] theorem dk75:descK Tryz.prog 75=some .other:=by kernel_rfl
@[simp] theorem sz75:szOf Tryz.prog 75=some 1:=by kernel_rfl
@[simp] theorem dk79:descK Tryz.prog 79=some .other:=by kernel_rfl
@[simp] theorem ip79:isPtrT Tryz.prog 79=true:=by kernel_rfl
@[simp] theorem sz79:szOf Tryz.prog 79=some 1:=by kernel_rfl
@[simp] theorem by79:byOf Tryz.prog 79=some 8:=by kernel_rfl
@[simp] theorem ze79:zeroOf Tryz.prog 79=some [(.pointer none)]:=by kernel_rfl
@[simp] theorem dk95:descK Tryz.prog 95=some .other:=by kernel_rfl
@[simp] theorem sz95:szOf Tryz.prog 95=some 1:=by kernel_rfl
@[simp] theorem dk101:descK Tryz.prog 101=some .strct:=by kernel_rfl
@[simp] theorem ze101:zeroOf Tryz.prog 101=some [(.slice none 0 0),(.int .i64 0)]:=by kernel_rfl
@[simp] theorem fd101_0:fieldT Tryz.prog 101 0=some (22,0):=by kernel_rfl
@[simp] theorem fd101_1:fieldT Tryz.prog 101 1=some (3,1):=by kernel_rfl
@[simp] theorem dk105:descK Tryz.prog 105=some .other:=by kernel_rfl
@[simp] theorem sz105:szOf Tryz.prog 105=some 1:=by kernel_rfl
@[simp] theorem dk106:descK Tryz.prog 106=some (.array 12 105):=by kernel_rfl
@[simp] theorem sz106:szOf Tryz.prog 106=some 12:=by kernel_rfl
@[simp] theorem ze106:zeroOf Tryz.prog 106=some [(.nilFunc),(.nilFunc),(.nilFunc),(.nilFunc),(.nilFunc),(.nilFunc),(.nilFunc),(.nilFunc),(.nilFunc),(.nilFunc),(.nilFunc),(.nilFunc)]:=by kernel_rfl
@[simp] theorem dk107:descK Tryz.prog 107=some (.slice 79):=by kernel_rfl
@[simp] theorem dk110:descK Tryz.prog 110=some .strct:=by kernel_rfl
@[simp] theorem sz110:szOf Tryz.prog 110=some 2:=by kernel_rfl
@[simp] theorem by110:byOf Tryz.prog 110=some 16:=by kernel_rfl
@[simp] theorem ze110:zeroOf Tryz.prog 110=some [(.bool false),(.int .i64 0)]:=by kernel_rfl
@[simp] theorem fd110_0:fieldT Tryz.prog 110 0=some (4,0):=by kernel_rfl
@[simp] theorem fd110_1:fieldT Tryz.prog 110 1=some (3,1):=by kernel_rfl
@[simp] theorem dk112:descK Tryz.prog 112=some .strct:=by kernel_rfl
@[simp] theorem sz112:szOf Tryz.prog 112=some 5:=by kernel_rfl
@[simp] theorem by112:byOf Tryz.prog 112=some 56:=by kernel_rfl
@[simp] theorem ze112:zeroOf Tryz.prog 112=some [(.int .i64 0),(.int .i64 0),(.bool false),(.int .i64 0),(.slice none 0 0)]:=by kernel_rfl
@[simp] theorem fd112_0:fieldT Tryz.prog 112 0=some (3,0):=by kernel_rfl
@[simp] theorem fd112_1:fieldT Tryz.prog 112 1=some (3,1):=by kernel_rfl
@[simp] theorem fd112_2:fieldT Tryz.prog 112 2=some (110,2):=by kernel_rfl
@[simp] theorem fd112_3:fieldT Tryz.prog 112 3=some (23,4):=by kernel_rfl
@[simp] theorem dk122:descK Tryz.prog 122=some (.array 2 3):=by kernel_rfl
@[simp] theorem ze122:zeroOf Tryz.prog 122=some [(.int .i64 0),(.int .i64 0)]:=by kernel_rfl
@[simp] theorem dk136:descK Tryz.prog 136=some (.slice 24):=by kernel_rfl
@[simp] theorem dk139:descK Tryz.prog 139=some .other:=by kernel_rfl
@[simp] theorem sz139:szOf Tryz.prog 139=some 1:=by kernel_rfl
@[simp] theorem by139:byOf Tryz.prog 139=some 8:=by kernel_rfl
@[simp] theorem ze139:zeroOf Tryz.prog 139=some [(.pointer none)]:=by kernel_rfl
@[simp] theorem dk152:descK Tryz.prog 152=some (.slice 139):=by kernel_rfl
@[simp] theorem dk165:descK Tryz.prog 165=some .strct:=by kernel_rfl
@[simp] theorem ze165:zeroOf Tryz.prog 165=some [(.pointer none),(.slice none 0 0),(.int .i64 0),(.int .i64 0)]:=by kernel_rfl
@[simp] theorem fd165_0:fieldT Tryz.prog 165 0=some (75,0):=by kernel_rfl
@[simp] theorem fd165_1:fieldT Tryz.prog 165 1=some (24,1):=by kernel_rfl
@[simp] theorem fd165_2:fieldT Tryz.prog 165 2=some (3,2):=by kernel_rfl
@[simp] theorem fd165_3:fieldT Tryz.prog 165 3=some (3,3):=by kernel_rfl
@[simp] theorem dk182:descK Tryz.prog 182=some (.slice 110):=by kernel_rfl
end Go.Proofs.YtjcjpbjpbbdnlaaGreat

namespace Go.Av
def fnT (fn:Func):Bool:=(fn.name != "runtime.NumGoroutine") && match fn.body with
 | some c=>codeOk fn.ntmps c
 | none=>true
theorem all_chunks {α:Type} {p:α→Bool} {l:List α} (c n:Nat) (hc:0 < c) (hl:l.length≤c * n) (h:∀ i,i < n→((l.drop (c * i)).take c).all p=true):l.all p=true:=by
 rw [List.all_eq_true]
 intro x hx
 obtain ⟨j,hj,rfl⟩:=List.getElem_of_mem hx
 have hd:c * (j / c) + j % c=j:=Nat.div_add_mod j c
 have hm:j % c < c:=Nat.mod_lt _ hc
 have hi:j / c < n:=by
  rw [Nat.div_lt_iff_lt_mul hc,Nat.mul_comm]; omega
 refine List.all_eq_true.1 (h (j / c) hi) _ ?_
 refine List.mem_of_getElem? (i:=j % c) ?_
 rw [List.getElem?_take,if_pos hm,List.getElem?_drop,hd,List.getElem?_eq_getElem hj]
theorem fnTest_of {P:Program} (h:P.funcs.toList.all fnT=true):fnTest P=true:=h
end Go.Av

namespace Go.Proofs.YtjcjpbjpbbdnlaaGreat
open Go Go.Av
set_option maxHeartbeats 2000000
theorem ft:fieldTest Tryz.prog=true:=by kernel_rfl
theorem nt0:((Tryz.prog.funcs.toList.drop (25 * 0)).take 25).all fnT=true:=by kernel_rfl
theorem nt1:((Tryz.prog.funcs.toList.drop (25 * 1)).take 25).all fnT=true:=by kernel_rfl
theorem nt2:((Tryz.prog.funcs.toList.drop (25 * 2)).take 25).all fnT=true:=by kernel_rfl
theorem nt3:((Tryz.prog.funcs.toList.drop (25 * 3)).take 25).all fnT=true:=by kernel_rfl
theorem nt4:((Tryz.prog.funcs.toList.drop (25 * 4)).take 25).all fnT=true:=by kernel_rfl
theorem nt5:((Tryz.prog.funcs.toList.drop (25 * 5)).take 25).all fnT=true:=by kernel_rfl
theorem nt6:((Tryz.prog.funcs.toList.drop (25 * 6)).take 25).all fnT=true:=by kernel_rfl
theorem nt7:((Tryz.prog.funcs.toList.drop (25 * 7)).take 25).all fnT=true:=by kernel_rfl
theorem nt8:((Tryz.prog.funcs.toList.drop (25 * 8)).take 25).all fnT=true:=by kernel_rfl
theorem ntl:Tryz.prog.funcs.toList.length≤25 * 9:=of_decide_eq_true (by kernel_rfl)
theorem nt:fnTest Tryz.prog=true:=fnTest_of (all_chunks 25 9 (by decide) ntl fun i hi=>by
 have h:i=0∨i=1∨i=2∨i=3∨i=4∨i=5∨i=6∨i=7∨i=8:=by omega
 rcases h with rfl | rfl | rfl | rfl | rfl | rfl | rfl | rfl | rfl
 ·exact nt0
 ·exact nt1
 ·exact nt2
 ·exact nt3
 ·exact nt4
 ·exact nt5
 ·exact nt6
 ·exact nt7
 ·exact nt8)
theorem mo:Tryz.prog.follows .mixedOrders=true:=by kernel_rfl
theorem eqS:∀ t,eqTy t=true→eqTest Tryz.prog t=true:=by
 intro t h
 unfold eqTy at h
 split at h
 ·kernel_rfl
 ·kernel_rfl
 ·kernel_rfl
 ·cases h
end Go.Proofs.YtjcjpbjpbbdnlaaGreat

namespace Go.Proofs.YtjcjpbjpbbdnlaaGreat
open Go Go.Av
@[simp] theorem C_P:C0.P=Tryz.prog:=(rfl)
@[simp] theorem C_G (f):C0.G f=GS f:=(rfl)
@[simp] theorem C_o (f):C0.ownArgs f=ownA f:=(rfl)
@[simp] theorem C_k (f):C0.keepRes f=keepR f:=(rfl)
@[simp] theorem C_e (f):C0.eqT f=eqTy f:=(rfl)
@[simp] theorem C_t:C0.tree=false:=(rfl)
theorem bytesI_get : ∀ {l : List UInt8} {j : Nat}, j < l.length → ∃ x : Nat, x < 256 ∧ nthE (bytesI l) j = some [.lit (.int .u8 x)]
  | [], j, h => by simp at h
  | b :: l, 0, _ => ⟨b.toNat, b.toNat_lt, by simp [bytesI, nthE]⟩
  | b :: l, j + 1, h => by
    obtain ⟨x, h1, h2⟩ := bytesI_get (l := l) (j := j) (by simpa using h)
    exact ⟨x, h1, by simpa [bytesI, nthE] using h2⟩
theorem bytesI_length:∀ (l:List UInt8),(bytesI l).length=l.length
 | []=>rfl
 | _ :: l=>by simp [bytesI,bytesI_length l]
theorem wrap64 {x:Int} (h1:-9223372036854775808≤x) (h2:x < 9223372036854775808):IntKind.i64.wrap x=x:=by
 unfold IntKind.wrap
 simp [IntKind.signed,IntKind.bits]
 omega
abbrev Rd (l:List UInt8) (p:Int):Option Blk:=some (.box [.i (.isl (bytesI l)), .int p])
end Go.Proofs.YtjcjpbjpbbdnlaaGreat

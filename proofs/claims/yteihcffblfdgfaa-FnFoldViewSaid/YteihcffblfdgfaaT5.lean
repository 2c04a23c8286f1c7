/- Part 5 of what the proof rests on: the executor and what it is worth, and the program's functions as it runs them. No condition. -/
import Derived.Test.YteihcffblfdgfaaT4
set_option linter.unusedVariables false
set_option linter.unusedSimpArgs false
/- Plans that have a width are small. No condition. -/
namespace Go.Av
theorem wdOver_exprs {k : Int} {es : List Ex} {cs : List Int} {a b : Int} (h : wdOver k es cs a b ≠ 0) (h6 : k = 6 → es = []) (h8 : k = 8 → es = []) : ∀ e ∈ es, e.size < 1000 := by
  unfold wdOver at h
  intro e he
  have fin : ∀ w : Int, es.all (Ex.ok w) = true → e.size < 1000 := fun w hw => Ex.ok_size (List.all_eq_true.1 hw e he)
  split at h
  · split at h
    · rename_i hc; exact fin _ hc.2
    · exact absurd rfl h
  · split at h
    · rename_i hk; rw [h6 hk] at he; cases he
    · split at h
      · rename_i hk; rw [h8 hk] at he; cases he
      · split at h
        · split at h
          · rename_i hc; exact fin _ hc
          · exact absurd rfl h
        · split at h
          · rename_i hc; exact fin _ hc
          · exact absurd rfl h
theorem ite_ne {p : Prop} [Decidable p] {a : Int} (h : (if p then a else 0) ≠ 0) : p ∧ a ≠ 0 := by
  by_cases hp : p
  · rw [if_pos hp] at h; exact ⟨hp, h⟩
  · rw [if_neg hp] at h; exact absurd rfl h
theorem Pn.headOk_none {p : Pn} (h : p.headOk = true) (hk : p.kind = 1 ∨ p.kind = 6 ∨ p.kind = 7 ∨ p.kind = 8) : p.exprs = [] := by
  unfold Pn.headOk at h
  simp only [Bool.and_eq_true, decide_eq_true_eq] at h
  have h2 := h.2.1
  have hn : nExprs p.kind = 0 := by unfold nExprs; rcases hk with e | e | e | e <;> simp [e]
  split at h2
  · rename_i hc; rcases hk with e | e | e | e <;> (rw [e] at hc; exact absurd hc.1 (by decide))
  · rw [hn] at h2; exact List.length_eq_zero_iff.1 (by omega)
theorem Pn.headOk_leaf {p : Pn} (h : p.headOk = true) (hk : p.kind = 1) : p.kids = [] := by
  unfold Pn.headOk at h
  simp only [Bool.and_eq_true, decide_eq_true_eq] at h
  have h2 := h.1
  rw [hk] at h2
  simp [nKids] at h2
  exact h2
theorem Pn.sizeL_two : ∀ (l : List Pn) (c : Nat), l.length ≤ 2 → (∀ p ∈ l, p.size ≤ c) → Pn.sizeL l ≤ 2 * c
  | [], c, _, _ => by simp [Pn.sizeL]
  | [a], c, _, h => by have := h a (by simp); simp [Pn.sizeL]; omega
  | [a, b], c, _, h => by have := h a (by simp); have := h b (by simp); simp [Pn.sizeL]; omega
  | _ :: _ :: _ :: _, _, h, _ => by simp at h
theorem Pn.wd_fit {ws : List Int} : ∀ (p : Pn) (lv : Nat), p.wd ws lv ≠ 0 → p.tiny ∧ p.size + 1 ≤ 2 ^ (lv + 1) := by
  intro p
  induction p using Pn.ind with
  | h k t es cs ks ih =>
    intro lv h
    rw [Pn.wd_eq] at h
    split at h
    · rename_i hc
      obtain ⟨hh, hlv⟩ := hc
      have hkl := Pn.headOk_kids hh
      simp only [Pn.kids_mk, Pn.kind_mk, Pn.table_mk, Pn.exprs_mk, Pn.cols_mk] at h hlv hkl
      by_cases h1 : k = 1
      · have e1 : es = [] := Pn.headOk_none hh (.inl h1)
        have e2 : ks = [] := Pn.headOk_leaf hh h1
        subst e1; subst e2
        refine ⟨by simp [Pn.tiny, Pn.tinyL], ?_⟩
        have : 1 ≤ 2 ^ lv := Nat.one_le_two_pow
        simp [Pn.size, Pn.sizeL, Nat.pow_succ]; omega
      · simp only [h1, if_false] at h
        obtain ⟨hall, h⟩ := ite_ne h
        · rw [List.all_eq_true] at hall
          have hes : ∀ e ∈ es, e.size < 1000 := wdOver_exprs h (fun e => Pn.headOk_none hh (.inr (.inl e))) (fun e => Pn.headOk_none hh (.inr (.inr (.inr e))))
          by_cases hkn : ks = []
          · subst hkn
            refine ⟨(Pn.tiny_iff _).2 ⟨fun e he => by have := hes e he; omega, by simp⟩, ?_⟩
            have : 1 ≤ 2 ^ lv := Nat.one_le_two_pow
            simp [Pn.size, Pn.sizeL, Nat.pow_succ]; omega
          · have hl0 : lv ≠ 0 := by rcases hlv with e | e; exact absurd e hkn; exact e
            have hk : ∀ a ∈ ks, a.tiny ∧ a.size + 1 ≤ 2 ^ (lv - 1 + 1) := fun a ha => ih a ha (lv - 1) (by simpa using hall a ha)
            refine ⟨(Pn.tiny_iff _).2 ⟨fun e he => by have := hes e he; omega, fun a ha => (hk a ha).1⟩, ?_⟩
            rw [show lv - 1 + 1 = lv by omega] at hk
            have hp : 1 ≤ 2 ^ lv := Nat.one_le_two_pow
            have := Pn.sizeL_two ks (2 ^ lv - 1) hkl fun a ha => by have := (hk a ha).2; omega
            simp only [Pn.size, Nat.pow_succ]; omega
    · exact absurd rfl h
theorem Pn.width_fit {p : Pn} {ws : List Int} (h : p.width ws ≠ 0) : p.tiny ∧ p.size < 512 := by
  unfold Pn.width at h
  split at h
  · have := Pn.wd_fit p 8 h
    exact ⟨this.1, by have := this.2; simp at this; omega⟩
  · exact absurd rfl h
theorem Pn.width_range {p : Pn} {ws : List Int} : 0 ≤ p.width ws ∧ p.width ws ≤ 6 := by
  unfold Pn.width
  split
  · rename_i h
    refine Pn.wd_range (fun w hw => ?_) p 8
    simp only [okWs, Bool.and_eq_true, List.all_eq_true] at h
    have := h.2 w hw
    simp [okWidth] at this; omega
  · omega
end Go.Av

/- Views expanded; what a plan scans; levels. No condition. -/
namespace Go.Av
def Pn.hit (t : Int) (p : Pn) : Bool := decide (p.kind = 1) && decide (p.table = t)
mutual
/-- Scans of a table, replaced by a view. -/
def expP (v : Pn) (t : Int) : Pn → Pn
  | .mk k tb es cs ks => if Pn.hit t (.mk k tb es cs ks) = true then v else .mk k tb es cs (expPL v t ks)
def expPL (v : Pn) (t : Int) : List Pn → List Pn
  | [] => []
  | p :: ps => expP v t p :: expPL v t ps
end
mutual
/-- Whether it scans a table. -/
def scP (t : Int) : Pn → Bool
  | .mk k tb es cs ks => Pn.hit t (.mk k tb es cs ks) || scPL t ks
def scPL (t : Int) : List Pn → Bool
  | [] => false
  | p :: ps => scP t p || scPL t ps
end
mutual
/-- Its levels of kids. -/
def htP : Pn → Nat
  | .mk _ _ _ _ ks => htPL ks
def htPL : List Pn → Nat
  | [] => 0
  | p :: ps => max (1 + htP p) (htPL ps)
end
mutual
/-- The level of the lowest scan of a table. -/
def dsP (t : Int) : Pn → Int
  | .mk k tb es cs ks => if Pn.hit t (.mk k tb es cs ks) = true then 0 else max (-17) (dsPL t ks)
def dsPL (t : Int) : List Pn → Int
  | [] => -17
  | p :: ps => max (1 + dsP t p) (dsPL t ps)
end
theorem expPL_map (v : Pn) (t : Int) : ∀ l : List Pn, expPL v t l = l.map (expP v t)
  | [] => by simp [expPL]
  | p :: l => by simp [expPL, expPL_map v t l]
theorem expP_hit {v : Pn} {t : Int} {p : Pn} (h : p.hit t = true) : expP v t p = v := by
  obtain ⟨k, tb, es, cs, ks⟩ := p; simp [expP, h]
theorem expP_miss {v : Pn} {t : Int} {p : Pn} (h : p.hit t = false) : expP v t p = .mk p.kind p.table p.exprs p.cols (expPL v t p.kids) := by
  obtain ⟨k, tb, es, cs, ks⟩ := p; simp [expP, h]
theorem expPL_snoc (v : Pn) (t : Int) (l : List Pn) (p : Pn) : expPL v t (l ++ [p]) = expPL v t l ++ [expP v t p] := by simp [expPL_map]
@[simp] theorem expPL_length (v : Pn) (t : Int) (l : List Pn) : (expPL v t l).length = l.length := by simp [expPL_map]
theorem scP_eq (t : Int) (p : Pn) : scP t p = (p.hit t || scPL t p.kids) := by obtain ⟨k, tb, es, cs, ks⟩ := p; simp [scP]
theorem htP_eq (p : Pn) : htP p = htPL p.kids := by obtain ⟨k, tb, es, cs, ks⟩ := p; simp [htP]
theorem dsP_hit {t : Int} {p : Pn} (h : p.hit t = true) : dsP t p = 0 := by obtain ⟨k, tb, es, cs, ks⟩ := p; simp [dsP, h]
theorem dsP_miss {t : Int} {p : Pn} (h : p.hit t = false) : dsP t p = max (-17) (dsPL t p.kids) := by obtain ⟨k, tb, es, cs, ks⟩ := p; simp [dsP, h]
theorem scPL_snoc (t : Int) : ∀ (l : List Pn) (p : Pn), scPL t (l ++ [p]) = (scPL t l || scP t p)
  | [], p => by simp [scPL]
  | a :: l, p => by simp [scPL, scPL_snoc t l p, Bool.or_assoc]
theorem scPL_none {t : Int} : ∀ {l : List Pn}, scPL t l = false → ∀ p ∈ l, scP t p = false
  | [], _, p, h => by cases h
  | a :: l, h, p, hp => by
    simp only [scPL, Bool.or_eq_false_iff] at h
    rcases List.mem_cons.1 hp with rfl | hp
    · exact h.1
    · exact scPL_none h.2 p hp
theorem htPL_snoc : ∀ (l : List Pn) (p : Pn), htPL (l ++ [p]) = max (htPL l) (1 + htP p)
  | [], p => by simp [htPL]
  | a :: l, p => by simp only [List.cons_append, htPL, htPL_snoc l p]; omega
theorem dsPL_ge (t : Int) : ∀ l : List Pn, -17 ≤ dsPL t l
  | [] => by simp [dsPL]
  | a :: l => by have := dsPL_ge t l; simp only [dsPL]; omega
theorem dsPL_snoc (t : Int) : ∀ (l : List Pn) (p : Pn), dsPL t (l ++ [p]) = max (dsPL t l) (1 + dsP t p)
  | [], p => by simp only [List.nil_append, dsPL]; omega
  | a :: l, p => by simp only [List.cons_append, dsPL, dsPL_snoc t l p]; omega
theorem htP_size : ∀ p : Pn, htP p < p.size := by
  intro p
  induction p using Pn.ind with
  | h k tb es cs ks ih =>
    rw [htP_eq, Pn.size_eq]
    simp only [Pn.kids_mk]
    have : ∀ l : List Pn, (∀ p ∈ l, htP p < p.size) → htPL l ≤ Pn.sizeL l := by
      intro l
      induction l with
      | nil => intro _; simp [htPL]
      | cons a l ihl =>
        intro h
        have h1 := h a (by simp)
        have h2 := ihl fun p hp => h p (by simp [hp])
        simp only [htPL, Pn.sizeL]; omega
    have := this ks ih
    omega
theorem dsP_range (t : Int) : ∀ p : Pn, -17 ≤ dsP t p ∧ dsP t p ≤ htP p := by
  intro p
  induction p using Pn.ind with
  | h k tb es cs ks ih =>
    cases hh : Pn.hit t (.mk k tb es cs ks) with
    | true => rw [dsP_hit hh]; omega
    | false =>
      rw [dsP_miss hh, htP_eq]
      simp only [Pn.kids_mk]
      have : ∀ l : List Pn, (∀ p ∈ l, -17 ≤ dsP t p ∧ dsP t p ≤ htP p) → dsPL t l ≤ htPL l := by
        intro l
        induction l with
        | nil => intro _; simp [dsPL]
        | cons a l ihl =>
          intro h
          have h1 := h a (by simp)
          have h2 := ihl fun p hp => h p (by simp [hp])
          simp only [htPL, dsPL]; omega
      have := this ks ih
      omega
/-- Expanding inverts folding. -/
theorem exp_fold (v : Pn) (t : Int) : ∀ p : Pn, scP t p = false → expP v t (foldP v t p) = p := by
  intro p
  induction p using Pn.ind with
  | h k tb es cs ks ih =>
    intro hs
    cases hh : Pn.eqb (.mk k tb es cs ks) v with
    | true =>
      rw [foldP_hit hh, expP_hit (by simp [Pn.scan, Pn.hit])]
      exact ((Pn.eqb_iff _ _).1 hh).symm
    | false =>
      rw [scP_eq, Bool.or_eq_false_iff] at hs
      rw [foldP_miss hh]
      simp only [Pn.kids_mk, Pn.kind_mk, Pn.table_mk, Pn.exprs_mk, Pn.cols_mk] at hs ⊢
      rw [expP_miss (p := .mk k tb es cs (foldPL v t ks)) hs.1]
      simp only [Pn.kids_mk, Pn.kind_mk, Pn.table_mk, Pn.exprs_mk, Pn.cols_mk]
      have : ∀ l : List Pn, (∀ p ∈ l, scP t p = false → expP v t (foldP v t p) = p) → scPL t l = false → expPL v t (foldPL v t l) = l := by
        intro l
        induction l with
        | nil => intro _ _; simp [foldPL, expPL]
        | cons a l ihl =>
          intro h h0
          simp only [scPL, Bool.or_eq_false_iff] at h0
          simp only [foldPL, expPL]
          rw [h a (by simp) h0.1, ihl (fun p hp => h p (by simp [hp])) h0.2]
      rw [this ks ih hs.2]
theorem ite_inst {p : Prop} {d e : Decidable p} {a b : Int} : @ite _ p d a b = @ite _ p e a b := by rw [Subsingleton.elim d e]
/-- A width does not depend on how many levels there may be. -/
theorem Pn.wd_more {ws : List Int} : ∀ (p : Pn) (lv lv' : Nat), p.wd ws lv ≠ 0 → lv ≤ lv' → p.wd ws lv' = p.wd ws lv := by
  intro p
  induction p using Pn.ind with
  | h k t es cs ks ih =>
    intro lv lv' h hl
    have h0 := h
    rw [Pn.wd_eq] at h
    by_cases hc : (Pn.mk k t es cs ks).headOk = true ∧ ((Pn.mk k t es cs ks).kids = [] ∨ lv ≠ 0)
    case neg => rw [if_neg hc] at h; exact absurd rfl h
    rw [if_pos hc] at h
    have hc' : (Pn.mk k t es cs ks).headOk = true ∧ ((Pn.mk k t es cs ks).kids = [] ∨ lv' ≠ 0) := ⟨hc.1, hc.2.imp id fun h => by omega⟩
    rw [Pn.wd_eq, Pn.wd_eq, if_pos hc, if_pos hc']
    simp only [Pn.kids_mk, Pn.kind_mk, Pn.table_mk, Pn.exprs_mk, Pn.cols_mk] at h ⊢
    by_cases h1 : k = 1
    · simp only [h1, if_true]
    · simp only [h1, if_false] at h ⊢
      obtain ⟨hall, h⟩ := ite_ne h
      have hall2 := List.all_eq_true.1 hall
      have hk : ∀ a ∈ ks, a.wd ws (lv' - 1) = a.wd ws (lv - 1) := fun a ha => ih a ha (lv - 1) (lv' - 1) (by simpa using hall2 a ha) (by omega)
      have e1 : (ks.all fun x => decide (x.wd ws (lv' - 1) ≠ 0)) = (ks.all fun x => decide (x.wd ws (lv - 1) ≠ 0)) := by
        rw [Bool.eq_iff_iff, List.all_eq_true, List.all_eq_true]
        exact ⟨fun g a ha => by rw [← hk a ha]; exact g a ha, fun g a ha => by rw [hk a ha]; exact g a ha⟩
      have e2 : ∀ i : Nat, (ks[i]?.map (Pn.wd ws (lv' - 1))) = (ks[i]?.map (Pn.wd ws (lv - 1))) := fun i => by
        cases hx : ks[i]? with
        | none => rfl
        | some a => simp [hk a (List.mem_of_getElem? hx)]
      rw [e2 0, e2 1]
      simp only [e1]
      exact ite_inst
theorem scan_wd {ws : List Int} {t W : Int} (h0 : 0 ≤ t) (hw : ws[t.toNat]? = some W) (lv : Nat) : (Pn.scan t).wd ws lv = W := by
  rw [Pn.wd_eq]
  have hh : (Pn.scan t).headOk = true := by simp [Pn.scan, Pn.headOk, nKids, nExprs]
  rw [if_pos ⟨hh, .inl rfl⟩]
  simp [Pn.scan, h0, hw]
/-- Folding keeps the width. -/
theorem fold_wd {v : Pn} {ws : List Int} {t W : Int} (h0 : 0 ≤ t) (hw : ws[t.toNat]? = some W) (hv : v.wd ws 8 = W) : ∀ (p : Pn) (lv : Nat), lv ≤ 8 → p.wd ws lv ≠ 0 → (foldP v t p).wd ws lv = p.wd ws lv := by
  intro p
  induction p using Pn.ind with
  | h k tb es cs ks ih =>
    intro lv hlv h
    cases hh : Pn.eqb (.mk k tb es cs ks) v with
    | true =>
      rw [foldP_hit hh, scan_wd h0 hw]
      have e := (Pn.eqb_iff _ _).1 hh
      rw [e] at h ⊢
      rw [← Pn.wd_more v lv 8 h hlv, hv]
    | false =>
      rw [foldP_miss hh]
      simp only [Pn.kids_mk, Pn.kind_mk, Pn.table_mk, Pn.exprs_mk, Pn.cols_mk]
      have h1 := h
      rw [Pn.wd_eq] at h1
      by_cases hc : (Pn.mk k tb es cs ks).headOk = true ∧ ((Pn.mk k tb es cs ks).kids = [] ∨ lv ≠ 0)
      case neg => rw [if_neg hc] at h1; exact absurd rfl h1
      rw [if_pos hc] at h1
      have hho : (Pn.mk k tb es cs (foldPL v t ks)).headOk = (Pn.mk k tb es cs ks).headOk := by
        simp [Pn.headOk]
        congr
      have hc' : (Pn.mk k tb es cs (foldPL v t ks)).headOk = true ∧ ((Pn.mk k tb es cs (foldPL v t ks)).kids = [] ∨ lv ≠ 0) := by
        refine ⟨by rw [hho]; exact hc.1, hc.2.imp (fun e => ?_) id⟩
        simp only [Pn.kids_mk] at e ⊢
        rw [e]; simp [foldPL]
      rw [Pn.wd_eq, Pn.wd_eq, if_pos hc, if_pos hc']
      simp only [Pn.kids_mk, Pn.kind_mk, Pn.table_mk, Pn.exprs_mk, Pn.cols_mk] at h1 ⊢
      by_cases hk1 : k = 1
      · simp only [hk1, if_true]
        exact ite_inst
      · simp only [hk1, if_false] at h1 ⊢
        obtain ⟨hall, h1⟩ := ite_ne h1
        have hall2 := List.all_eq_true.1 hall
        have hk : ∀ a ∈ ks, (foldP v t a).wd ws (lv - 1) = a.wd ws (lv - 1) := fun a ha => ih a ha (lv - 1) (by omega) (by simpa using hall2 a ha)
        have e1 : ((foldPL v t ks).all fun x => decide (x.wd ws (lv - 1) ≠ 0)) = (ks.all fun x => decide (x.wd ws (lv - 1) ≠ 0)) := by
          rw [foldPL_map, List.all_map, Bool.eq_iff_iff, List.all_eq_true, List.all_eq_true]
          exact ⟨fun g a ha => by have := g a ha; simp only [Function.comp] at this; rwa [hk a ha] at this, fun g a ha => by simp only [Function.comp]; rw [hk a ha]; exact g a ha⟩
        have e2 : ∀ i : Nat, ((foldPL v t ks)[i]?.map (Pn.wd ws (lv - 1))) = (ks[i]?.map (Pn.wd ws (lv - 1))) := fun i => by
          rw [foldPL_map, List.getElem?_map]
          cases hx : ks[i]? with
          | none => rfl
          | some a => simp [hk a (List.mem_of_getElem? hx)]
        rw [e2 0, e2 1]
        simp only [e1]
        exact ite_inst
theorem wd_levels {ws : List Int} : ∀ (p : Pn) (lv : Nat), p.wd ws lv ≠ 0 → htP p ≤ lv := by
  intro p
  induction p using Pn.ind with
  | h k t es cs ks ih =>
    intro lv h
    rw [Pn.wd_eq] at h
    by_cases hc : (Pn.mk k t es cs ks).headOk = true ∧ ((Pn.mk k t es cs ks).kids = [] ∨ lv ≠ 0)
    case neg => rw [if_neg hc] at h; exact absurd rfl h
    rw [if_pos hc] at h
    rw [htP_eq]
    simp only [Pn.kids_mk, Pn.kind_mk, Pn.table_mk, Pn.exprs_mk, Pn.cols_mk] at h ⊢
    by_cases hn : ks = []
    · rw [hn]; simp [htPL]
    · have hl0 : lv ≠ 0 := by rcases hc.2 with e | e; exact absurd e hn; exact e
      by_cases h1 : k = 1
      · have := Pn.headOk_leaf hc.1 h1
        exact absurd this hn
      · simp only [h1, if_false] at h
        obtain ⟨hall, _⟩ := ite_ne h
        have hall2 := List.all_eq_true.1 hall
        have : ∀ l : List Pn, (∀ a ∈ l, htP a ≤ lv - 1) → htPL l ≤ lv := by
          intro l
          induction l with
          | nil => intro _; simp [htPL]
          | cons a l ihl =>
            intro g
            have g1 := g a (by simp)
            have g2 := ihl fun p hp => g p (by simp [hp])
            simp only [htPL]; omega
        exact this ks fun a ha => ih a ha (lv - 1) (by simpa using hall2 a ha)
/-- How deep a folded plan scans the table. -/
theorem fold_deep (v : Pn) (t : Int) : ∀ p : Pn, scP t p = false → dsP t (foldP v t p) + htP v ≤ htP p ∨ dsP t (foldP v t p) ≤ -17 + htP p := by
  intro p
  induction p using Pn.ind with
  | h k tb es cs ks ih =>
    intro hs
    cases hh : Pn.eqb (.mk k tb es cs ks) v with
    | true =>
      rw [foldP_hit hh, dsP_hit (by simp [Pn.scan, Pn.hit]), ← (Pn.eqb_iff _ _).1 hh]
      exact .inl (by omega)
    | false =>
      rw [scP_eq, Bool.or_eq_false_iff] at hs
      rw [foldP_miss hh, htP_eq (.mk k tb es cs ks)]
      simp only [Pn.kids_mk, Pn.kind_mk, Pn.table_mk, Pn.exprs_mk, Pn.cols_mk] at hs ⊢
      rw [dsP_miss (p := .mk k tb es cs (foldPL v t ks)) hs.1]
      simp only [Pn.kids_mk]
      have : ∀ l : List Pn, (∀ p ∈ l, scP t p = false → dsP t (foldP v t p) + htP v ≤ htP p ∨ dsP t (foldP v t p) ≤ -17 + htP p) → scPL t l = false → dsPL t (foldPL v t l) + htP v ≤ htPL l ∨ dsPL t (foldPL v t l) ≤ -17 + htPL l := by
        intro l
        induction l with
        | nil => intro _ _; exact .inr (by simp [foldPL, dsPL, htPL])
        | cons a l ihl =>
          intro h h0
          simp only [scPL, Bool.or_eq_false_iff] at h0
          have h1 := h a (by simp) h0.1
          have h2 := ihl (fun p hp => h p (by simp [hp])) h0.2
          simp only [foldPL, dsPL, htPL]
          omega
      have := this ks ih hs.2
      have := dsPL_ge t (foldPL v t ks)
      omega
end Go.Av

/- The tables that a plan scans. No condition. -/
namespace Go.Av
/-- The tables below n that a plan scans. -/
def tabsN (p : Pn) : Nat → List Int
  | 0 => []
  | n + 1 => tabsN p n ++ if scP n p = true then [(n : Int)] else []
/-- The tables of a plan. -/
def tabP (p : Pn) (ws : List Int) : List Int := if p.width ws = 0 then [] else tabsN p ws.length
theorem tabsN_mem {p : Pn} {t : Int} : ∀ {n : Nat}, t ∈ tabsN p n ↔ 0 ≤ t ∧ t < n ∧ scP t p = true
  | 0 => by simp [tabsN]; omega
  | n + 1 => by
    simp only [tabsN, List.mem_append, tabsN_mem (n := n)]
    constructor
    · rintro (⟨h1, h2, h3⟩ | h)
      · exact ⟨h1, by omega, h3⟩
      · split at h
        · rename_i hs
          have : t = n := by simpa using h
          subst this
          exact ⟨by omega, by omega, hs⟩
        · cases h
    · rintro ⟨h1, h2, h3⟩
      by_cases hn : t = n
      · subst hn; right; simp [h3]
      · left; exact ⟨h1, by omega, h3⟩
theorem tabsN_len {p : Pn} : ∀ {n : Nat}, (tabsN p n).length ≤ n
  | 0 => by simp [tabsN]
  | n + 1 => by
    have := tabsN_len (p := p) (n := n)
    simp only [tabsN, List.length_append]
    split <;> simp <;> omega
theorem foldP_width {p v : Pn} {ws : List Int} {t : Int} (ho : p.width ws ≠ 0) (h0 : 0 ≤ t) (hw : ws[t.toNat]? = some (v.width ws)) : (foldP v t p).width ws = p.width ws := by
  unfold Pn.width at ho hw ⊢
  cases hk : okWs ws with
  | false => simp [hk] at ho
  | true =>
    simp only [hk, if_true] at ho hw ⊢
    exact fold_wd h0 hw rfl p 8 (by omega) ho
theorem fold_levels {p v : Pn} {ws : List Int} {t : Int} (ho : p.width ws ≠ 0) (hv : v.width ws ≠ 0) (hs : scP t p = false) : dsP t (foldP v t p) + htP v ≤ 8 := by
  have h1 : htP p ≤ 8 := by
    unfold Pn.width at ho
    split at ho
    · exact wd_levels p 8 ho
    · exact absurd rfl ho
  have h2 : htP v ≤ 8 := by
    unfold Pn.width at hv
    split at hv
    · exact wd_levels v 8 hv
    · exact absurd rfl hv
  have := fold_deep v t p hs
  omega
end Go.Av

/- Values of expressions, as data. No condition. -/
namespace Go.Av
def Val.tr (v : Val) : Int := if v.null = true then 1 else if v.n = 0 then 0 else 2
def trV (t : Int) : Val := if t = 1 then ⟨true, 0⟩ else ⟨false, if t = 2 then 1 else 0⟩
def numV (n : Int) : Val := if -9999 ≤ n ∧ n ≤ 9999 then ⟨false, n⟩ else ⟨true, 0⟩
def flagV (b : Bool) : Val := ⟨false, if b = true then 1 else 0⟩
def Val.cmb (k : Int) (a b : Val) : Val :=
  if k = 8 then trV (if b.tr < a.tr then b.tr else a.tr) else if k = 9 then trV (if b.tr > a.tr then b.tr else a.tr) else
  if a.null = true ∨ b.null = true then ⟨true, 0⟩ else if k = 3 then numV (a.n + b.n) else if k = 4 then numV (a.n - b.n) else if k = 5 then numV (a.n * b.n) else
  if k = 6 then flagV (a.n == b.n) else flagV (decide (a.n < b.n))
/-- What a part comes to, by what its kids come to. -/
def evN (row : List Val) (k c : Int) (v : Val) (vs : List Val) : Val :=
  if k = 1 then (row[c.toNat]?).getD Val.zero else if k = 2 then v else
  if k = 10 then trV (2 - ((vs[0]?).getD Val.zero).tr) else if k = 11 then flagV ((vs[0]?).getD Val.zero).null else
  Val.cmb k ((vs[0]?).getD Val.zero) ((vs[1]?).getD Val.zero)
mutual
def Ex.ev (row : List Val) : Ex → Val
  | .mk k c v ks => evN row k c v (Ex.evL row ks)
def Ex.evL (row : List Val) : List Ex → List Val
  | [] => []
  | e :: es => e.ev row :: Ex.evL row es
end
theorem Ex.evL_map (row : List Val) : ∀ l, Ex.evL row l = l.map (Ex.ev row)
  | [] => rfl
  | e :: es => by simp [Ex.evL, Ex.evL_map row es]
theorem Ex.ev_eq (row : List Val) (e : Ex) : e.ev row = evN row e.kind e.col e.val (e.kids.map (Ex.ev row)) := by
  cases e; simp [Ex.ev, Ex.evL_map, Ex.kind, Ex.col, Ex.val, Ex.kids]
theorem trV_ok (t : Int) : (trV t).ok = true := by unfold trV; split <;> simp [Val.ok]; split <;> simp
theorem numV_ok (n : Int) : (numV n).ok = true := by unfold numV; split <;> simp_all [Val.ok]
theorem flagV_ok (b : Bool) : (flagV b).ok = true := by cases b <;> simp [flagV, Val.ok]
theorem cmb_ok (k : Int) (a b : Val) : (Val.cmb k a b).ok = true := by
  unfold Val.cmb
  repeat' split
  all_goals first | exact trV_ok _ | exact numV_ok _ | exact flagV_ok _ | rfl
def valsL : List Val → List (List IV)
  | [] => []
  | v :: vs => [.bool v.null, .int v.n] :: valsL vs
@[simp] theorem valsL_length : ∀ l : List Val, (valsL l).length = l.length
  | [] => rfl
  | _ :: l => by simp [valsL, valsL_length l]
theorem valsL_nth : ∀ {l : List Val} {i : Nat} {v : Val}, l[i]? = some v → nthE (valsL l) i = some [.bool v.null, .int v.n]
  | [], _, _, e => by simp at e
  | a :: l, 0, v, e => by simp at e; subst e; simp [valsL, nthE]
  | a :: l, i + 1, v, e => by simp only [valsL, nthE]; exact valsL_nth (by simpa using e)
@[simp] theorem valsL_widths : ∀ l : List Val, widths 2 (valsL l) = true
  | [] => rfl
  | _ :: l => by have := valsL_widths l; simp only [widths] at this; simp [valsL, widths, this]
@[simp] theorem valsL_take : ∀ (n : Nat) (l : List Val), (valsL l).take n = valsL (l.take n)
  | 0, l => by simp [valsL]
  | n + 1, [] => by simp [valsL]
  | n + 1, e :: l => by simp [valsL, valsL_take n l]
theorem valsL_append (a b : List Val) : valsL (a ++ b) = valsL a ++ valsL b := by
  induction a with
  | nil => simp [valsL]
  | cons e a ih => simp [valsL, ih]
theorem valsL_snoc (l : List Val) (v : Val) : valsL (l ++ [v]) = valsL l ++ [[.bool v.null, .int v.n]] := by
  rw [valsL_append]; simp [valsL]
def okRow (row : List Val) : Bool := okWidth row.length && row.all Val.ok
/-- Substitution commutes with what is come to. -/
theorem ev_sub {m : Int} (l : List Ex) (hm : m = l.length) (row : List Val) : ∀ (e : Ex), e.wf m = true → (e.sub l).ev row = e.ev (l.map (Ex.ev row)) := by
  intro e
  induction e using Ex.ind with
  | h k c v ks ih =>
    intro h
    by_cases hk : k = 1
    · obtain ⟨h0, h1, _⟩ := Ex.wf_col h hk
      have hi : c.toNat < l.length := by simp [Ex.col] at h0 h1; omega
      have hb := List.getElem?_eq_getElem hi
      rw [Ex.sub_col l (e := .mk k c v ks) hk hb]
      simp [Ex.ev, evN, hk, hb]
    · rw [Ex.sub_not l (e := .mk k c v ks) hk]
      simp only [Ex.ev, Ex.evL_map, Ex.kind, Ex.col, Ex.val, Ex.kids, List.map_map]
      have : List.map (Ex.ev row ∘ Ex.sub l) ks = List.map (Ex.ev (l.map (Ex.ev row))) ks := List.map_congr_left fun x hx => ih x hx (Ex.wf_kids h hx)
      rw [this]
      simp [evN, hk]
theorem ev_ok {m : Int} (row : List Val) (hm : m = row.length) (hr : row.all Val.ok = true) : ∀ (e : Ex), e.wf m = true → (e.ev row).ok = true := by
  intro e h
  rw [Ex.ev_eq]
  unfold evN
  have h' := h
  rw [Ex.wf_eq] at h'
  simp at h'
  by_cases hk : e.kind = 1
  · obtain ⟨h0, h1, _⟩ := Ex.wf_col h hk
    have hi : e.col.toNat < row.length := by omega
    have hb := List.getElem?_eq_getElem hi
    simp [hk, hb]
    exact List.all_eq_true.1 hr _ (List.getElem_mem hi)
  · by_cases hk2 : e.kind = 2
    · simp [hk2]; have := h'.2.1; simp [Ex.headOk, hk2] at this; exact this.2
    · simp only [hk, hk2, if_false]
      split; · exact trV_ok _
      split; · exact flagV_ok _
      · exact cmb_ok _ _ _
end Go.Av

/- Ready contracts: what a copy of a plan is. Definitions alone. No condition. -/
namespace Go.Av
/-- A plan that may be copied. -/
def Pn.small (p : Pn) : Prop := p.size < 1000000000 ∧ p.thin ∧ p.tiny
/-- A copy of a plan that came in. -/
noncomputable def copyP : List AV → StL → Option (AV × StL)
  | [.i (.iref cs)], [] => @ite _ (∃ p : Pn, p.small ∧ p.cells = cs) (Classical.propDecidable _) (some (.i (.agg cs), [])) none
  | _, _ => none
theorem copyP_eq {p : Pn} (h : p.small) : copyP [.i (.iref p.cells)] [] = some (.i (.agg p.cells), []) := by
  unfold copyP
  exact if_pos ⟨p, h, rfl⟩
theorem copyP_some {args : List AV} {st : StL} {r : AV × StL} (h : copyP args st = some r) : ∃ p : Pn, p.small ∧ args = [.i (.iref p.cells)] ∧ st = [] ∧ r = (.i (.agg p.cells), []) := by
  unfold copyP at h
  split at h
  · rename_i cs
    by_cases hc : ∃ p : Pn, p.small ∧ p.cells = cs
    · rw [if_pos hc] at h
      obtain ⟨p, h1, rfl⟩ := hc
      injection h with h
      exact ⟨p, h1, rfl, rfl, h.symm⟩
    · rw [if_neg hc] at h; cases h
  · cases h
end Go.Av

/- Plans in memory that are being copied: what has been turned, what has not. No condition. -/
namespace Go.Av
abbrev PL := List ((Nat × Nat) × Pn)
/-- Five cells at a place. -/
structure At5 (w : World) (b o : Nat) (v0 v1 v2 v3 v4 : Value) : Prop where
  c0 : w.cell? ⟨b, o, none⟩ = some v0
  c1 : w.cell? ⟨b, o + 1, none⟩ = some v1
  c2 : w.cell? ⟨b, o + 2, none⟩ = some v2
  c3 : w.cell? ⟨b, o + 3, none⟩ = some v3
  c4 : w.cell? ⟨b, o + 4, none⟩ = some v4
theorem At5.frame {w w' : World} {b o : Nat} {v0 v1 v2 v3 v4 : Value} (h : At5 w b o v0 v1 v2 v3 v4) (hw : ∀ j, o ≤ j → j < o + 5 → w'.cell? ⟨b, j, none⟩ = w.cell? ⟨b, j, none⟩) : At5 w' b o v0 v1 v2 v3 v4 :=
  ⟨(hw _ (by omega) (by omega)).trans h.c0, (hw _ (by omega) (by omega)).trans h.c1, (hw _ (by omega) (by omega)).trans h.c2, (hw _ (by omega) (by omega)).trans h.c3, (hw _ (by omega) (by omega)).trans h.c4⟩
mutual
/-- A plan at a place: which blocks lie under it, which of its parts have not been turned. -/
inductive TH (w : World) (m : Mem) : Pn → Nat → Nat → List Nat → PL → Prop
  | fresh {x : Pn} {b o : Nat} {v0 v1 v2 v3 v4 : Value} : ICells m x.cells [v0, v1, v2, v3, v4] → At5 w b o v0 v1 v2 v3 v4 → TH w m x b o [] [((b, o), x)]
  | leaf {k t : Int} {es : List Ex} {cs : List Int} {b o : Nat} {vE vC : Value} {ao : Option Addr} {cap : Nat} : At5 w b o (.int .i64 k) (.int .i64 t) vE vC (.slice ao 0 cap) → IRep m (.isl (Ex.cellsL es)) vE → IRep m (.isl (intsL cs)) vC → (ao = none → cap = 0) → TH w m (.mk k t es cs []) b o [] []
  | node {k t : Int} {es : List Ex} {cs : List Int} {ks : List Pn} {b o b' cap : Nat} {vE vC : Value} {F : List Nat} {H : PL} : At5 w b o (.int .i64 k) (.int .i64 t) vE vC (.slice (some ⟨b', 0, none⟩) ks.length cap) → IRep m (.isl (Ex.cellsL es)) vE → IRep m (.isl (intsL cs)) vC → ks ≠ [] → ks.length ≤ cap → THL w m ks b' 0 F H → TH w m (.mk k t es cs ks) b o (b' :: F) H
inductive THL (w : World) (m : Mem) : List Pn → Nat → Nat → List Nat → PL → Prop
  | nil (b o : Nat) : THL w m [] b o [] []
  | cons {x : Pn} {xs : List Pn} {b o : Nat} {F1 F2 : List Nat} {H1 H2 : PL} : TH w m x b o F1 H1 → THL w m xs b (o + 5) F2 H2 → THL w m (x :: xs) b o (F1 ++ F2) (H1 ++ H2)
end
mutual
theorem TH.frame {w w' : World} {m m' : Mem} (hm : MLe m m') {x : Pn} {b o : Nat} {F : List Nat} {H : PL} (hw : ∀ j, o ≤ j → j < o + 5 → w'.cell? ⟨b, j, none⟩ = w.cell? ⟨b, j, none⟩) (hF : ∀ f ∈ F, ∀ j, w'.cell? ⟨f, j, none⟩ = w.cell? ⟨f, j, none⟩) : TH w m x b o F H → TH w' m' x b o F H
  | .fresh h1 h2 => .fresh (h1.mono hm) (h2.frame hw)
  | .leaf h1 h2 h3 h4 => .leaf (h1.frame hw) (h2.mono hm) (h3.mono hm) h4
  | .node h1 h2 h3 h4 h5 h6 => .node (h1.frame hw) (h2.mono hm) (h3.mono hm) h4 h5 (THL.frame hm (fun j _ _ => hF _ (by simp) j) (fun f hf => hF f (by simp [hf])) h6)
theorem THL.frame {w w' : World} {m m' : Mem} (hm : MLe m m') {xs : List Pn} {b o : Nat} {F : List Nat} {H : PL} (hw : ∀ j, o ≤ j → j < o + 5 * xs.length → w'.cell? ⟨b, j, none⟩ = w.cell? ⟨b, j, none⟩) (hF : ∀ f ∈ F, ∀ j, w'.cell? ⟨f, j, none⟩ = w.cell? ⟨f, j, none⟩) : THL w m xs b o F H → THL w' m' xs b o F H
  | .nil b o => .nil b o
  | .cons h1 h2 => .cons (TH.frame hm (fun j l1 l2 => hw j l1 (by simp only [List.length_cons]; omega)) (fun f hf => hF f (by simp [hf])) h1) (THL.frame hm (fun j l1 l2 => hw j (by omega) (by simp only [List.length_cons]; omega)) (fun f hf => hF f (by simp [hf])) h2)
end
mutual
/-- Where its unturned parts lie. -/
theorem TH.holes {w : World} {m : Mem} {x : Pn} {b o : Nat} {F : List Nat} {H : PL} : TH w m x b o F H → ∀ q ∈ H, q.1 = (b, o) ∨ q.1.1 ∈ F
  | .fresh _ _, q, hq => by simp at hq; subst hq; exact .inl rfl
  | .leaf _ _ _ _, q, hq => by simp at hq
  | .node _ _ _ _ _ h6, q, hq => by
    rcases THL.holes h6 q hq with ⟨h, _⟩ | h
    · exact .inr (by simp [h])
    · exact .inr (by simp [h])
theorem THL.holes {w : World} {m : Mem} {xs : List Pn} {b o : Nat} {F : List Nat} {H : PL} : THL w m xs b o F H → ∀ q ∈ H, (q.1.1 = b ∧ o ≤ q.1.2) ∨ q.1.1 ∈ F
  | .nil _ _, q, hq => by simp at hq
  | .cons h1 h2, q, hq => by
    rcases List.mem_append.1 hq with h | h
    · rcases TH.holes h1 q h with e | e
      · exact .inl ⟨by rw [e], by rw [e]; exact Nat.le_refl _⟩
      · exact .inr (by simp [e])
    · rcases THL.holes h2 q h with ⟨e1, e2⟩ | e
      · exact .inl ⟨e1, by omega⟩
      · exact .inr (by simp [e])
end
mutual
/-- One of its unturned parts is turned. -/
theorem TH.fill {w w' : World} {m m' : Mem} (hm : MLe m m') {bq oq : Nat} {y : Pn} {G : List Nat} {HY : PL} (hy : TH w' m' y bq oq G HY) {x : Pn} {b o : Nat} {F : List Nat} {H : PL} : TH w m x b o F H → b ∉ F → F.Nodup → ((bq, oq), y) ∈ H →
    (∀ f ∈ b :: F, ∀ j, (f ≠ bq ∨ j < oq ∨ oq + 5 ≤ j) → w'.cell? ⟨f, j, none⟩ = w.cell? ⟨f, j, none⟩) → ∃ F' H', TH w' m' x b o F' H' ∧ F'.Perm (F ++ G) ∧ (((bq, oq), y) :: H').Perm (H ++ HY)
  | .fresh _ _, _, _, hq, _ => by
    simp at hq
    obtain ⟨⟨rfl, rfl⟩, rfl⟩ := hq
    exact ⟨G, HY, hy, by simp, by simp⟩
  | .leaf _ _ _ _, _, _, hq, _ => by simp at hq
  | .node h1 h2 h3 h4 h5 h6, hb, hn, hq, hw => by
    rename_i b' cap vE vC F
    have hb' : b' ∉ F := (List.nodup_cons.1 hn).1
    have hne : b ≠ bq := by
      intro e
      rcases THL.holes h6 _ hq with ⟨e1, _⟩ | e1
      · exact hb (by simp at e1; simp [e, e1])
      · exact hb (by simp at e1; simp [e, e1])
    obtain ⟨F', H', k1, k2, k3⟩ := THL.fill hm hy h6 hb' (List.nodup_cons.1 hn).2 hq (fun f hf j hj => hw f (by rcases List.mem_cons.1 hf with rfl | h <;> simp [*]) j hj)
    exact ⟨b' :: F', H', .node (h1.frame fun j _ _ => hw b (by simp) j (.inl hne)) (h2.mono hm) (h3.mono hm) h4 h5 k1, k2.cons _, k3⟩
theorem THL.fill {w w' : World} {m m' : Mem} (hm : MLe m m') {bq oq : Nat} {y : Pn} {G : List Nat} {HY : PL} (hy : TH w' m' y bq oq G HY) {xs : List Pn} {b o : Nat} {F : List Nat} {H : PL} : THL w m xs b o F H → b ∉ F → F.Nodup → ((bq, oq), y) ∈ H →
    (∀ f ∈ b :: F, ∀ j, (f ≠ bq ∨ j < oq ∨ oq + 5 ≤ j) → w'.cell? ⟨f, j, none⟩ = w.cell? ⟨f, j, none⟩) → ∃ F' H', THL w' m' xs b o F' H' ∧ F'.Perm (F ++ G) ∧ (((bq, oq), y) :: H').Perm (H ++ HY)
  | .nil _ _, _, _, hq, _ => by simp at hq
  | .cons (F1 := F1) (F2 := F2) (H1 := H1) (H2 := H2) h1 h2, hb, hn, hq, hw => by
    have hb1 : b ∉ F1 := fun h => hb (by simp [h])
    have hb2 : b ∉ F2 := fun h => hb (by simp [h])
    obtain ⟨n1, n2, n3⟩ := List.nodup_append.1 hn
    rcases List.mem_append.1 hq with h | h
    · obtain ⟨F', H', k1, k2, k3⟩ := TH.fill hm hy h1 hb1 n1 h (fun f hf j hj => hw f (by rcases List.mem_cons.1 hf with rfl | h <;> simp [*]) j hj)
      refine ⟨F' ++ F2, H' ++ H2, .cons k1 (THL.frame hm (fun j l1 l2 => hw b (by simp) j ?_) (fun f hf j => hw f (by simp [hf]) j (.inl ?_)) h2), ?_, ?_⟩
      · rcases TH.holes h1 _ h with e | e
        · simp at e; exact .inr (.inr (by omega))
        · exact .inl fun e2 => hb1 (by simp at e; rw [e2]; exact e)
      · rcases TH.holes h1 _ h with e | e
        · simp at e; intro e2; rw [e2, e.1] at hf; exact hb2 hf
        · simp at e; intro e2; rw [e2] at hf; exact n3 _ e _ hf rfl
      · have := k2.append_right F2
        refine this.trans ?_
        rw [List.append_assoc, List.append_assoc]
        exact (List.perm_append_comm (l₁ := G) (l₂ := F2)).append_left F1
      · have := k3.append_right H2
        rw [List.cons_append] at this
        refine this.trans ?_
        rw [List.append_assoc, List.append_assoc]
        exact (List.perm_append_comm (l₁ := HY) (l₂ := H2)).append_left H1
    · obtain ⟨F', H', k1, k2, k3⟩ := THL.fill hm hy h2 hb2 n2 h (fun f hf j hj => hw f (by rcases List.mem_cons.1 hf with rfl | h <;> simp [*]) j hj)
      refine ⟨F1 ++ F', H1 ++ H', .cons (TH.frame hm (fun j l1 l2 => hw b (by simp) j ?_) (fun f hf j => hw f (by simp [hf]) j (.inl ?_)) h1) k1, ?_, ?_⟩
      · rcases THL.holes h2 _ h with ⟨e1, e2⟩ | e
        · simp at e2; exact .inr (.inl (by omega))
        · exact .inl fun e2 => hb2 (by simp at e; rw [e2]; exact e)
      · rcases THL.holes h2 _ h with ⟨e1, _⟩ | e
        · simp at e1; intro e2; rw [e2, e1] at hf; exact hb1 hf
        · simp at e; intro e2; rw [e2] at hf; exact n3 _ hf _ e rfl
      · rw [List.append_assoc]; exact k2.append_left F1
      · rw [List.append_assoc]
        refine List.perm_middle.symm.trans ?_
        exact k3.append_left H1
end
mutual
/-- All turned: it lies in memory. -/
theorem TH.iat {w : World} {m m' : Mem} (hm : MLe m m') {x : Pn} {b o : Nat} {F : List Nat} : TH w m x b o F [] → (∀ j, o ≤ j → j < o + 5 → m' b j = w.cell? ⟨b, j, none⟩) → (∀ f ∈ F, ∀ j, m' f j = w.cell? ⟨f, j, none⟩) → IAt m' b o x.cells
  | .leaf h1 h2 h3 h4, hb, hF => by
    rw [Pn.cells_mk]
    have o2 : (∀ es v, IRep m (.isl es) v → v.oneCell' = true) := fun es v h => by cases h <;> rfl
    exact .cons ((hb _ (by omega) (by omega)).trans h1.c0) (.lit _) rfl (.cons ((hb _ (by omega) (by omega)).trans h1.c1) (.lit _) rfl (.cons ((hb _ (by omega) (by omega)).trans h1.c2) (h2.mono hm) (o2 _ _ h2) (.cons ((hb _ (by omega) (by omega)).trans h1.c3) (h3.mono hm) (o2 _ _ h3) (.cons ((hb _ (by omega) (by omega)).trans h1.c4) (.isl0 _ _ h4) rfl (.nil _ _)))))
  | .node h1 h2 h3 h4 h5 h6, hb, hF => by
    rename_i ks b' cap vE vC F
    rw [Pn.cells_mk]
    have o2 : (∀ es v, IRep m (.isl es) v → v.oneCell' = true) := fun es v h => by cases h <;> rfl
    have he := THL.iel hm h6 (fun j _ _ => hF b' (by simp) j) (fun f hf => hF f (by simp [hf]))
    have hl : (Pn.cellsL ks).length = ks.length := by simp
    have hn : Pn.cellsL ks ≠ [] := fun e => by rw [e] at hl; simp at hl; exact h4 (List.length_eq_zero_iff.1 hl.symm)
    have hk : IRep m' (.isl (Pn.cellsL ks)) (.slice (some ⟨b', 0, none⟩) ks.length cap) := by
      have := IRep.isl (cap := cap) hn he (by omega)
      rwa [hl] at this
    exact .cons ((hb _ (by omega) (by omega)).trans h1.c0) (.lit _) rfl (.cons ((hb _ (by omega) (by omega)).trans h1.c1) (.lit _) rfl (.cons ((hb _ (by omega) (by omega)).trans h1.c2) (h2.mono hm) (o2 _ _ h2) (.cons ((hb _ (by omega) (by omega)).trans h1.c3) (h3.mono hm) (o2 _ _ h3) (.cons ((hb _ (by omega) (by omega)).trans h1.c4) hk rfl (.nil _ _)))))
theorem THL.iel {w : World} {m m' : Mem} (hm : MLe m m') {xs : List Pn} {b o : Nat} {F : List Nat} : THL w m xs b o F [] → (∀ j, o ≤ j → j < o + 5 * xs.length → m' b j = w.cell? ⟨b, j, none⟩) → (∀ f ∈ F, ∀ j, m' f j = w.cell? ⟨f, j, none⟩) → IElems m' b o 5 (Pn.cellsL xs)
  | h, hb, hF => by
    generalize hH : ([] : PL) = H at h
    cases h with
    | nil b o => simp only [Pn.cellsL]; exact .nil b o 5
    | cons h1 h2 =>
      obtain ⟨e1, e2⟩ := List.append_eq_nil_iff.1 hH.symm
      subst e1; subst e2
      simp only [Pn.cellsL]
      exact .cons (TH.iat hm h1 (fun j l1 l2 => hb j l1 (by simp only [List.length_cons]; omega)) (fun f hf => hF f (by simp [hf]))) (Pn.cells_length _) (THL.iel hm h2 (fun j l1 l2 => hb j (by omega) (by simp only [List.length_cons]; omega)) (fun f hf => hF f (by simp [hf])))
end
end Go.Av

/- The executor's relation, with whatever else is known of memory. No condition. -/
namespace Go.Av
/-- It stays true when memory goes on. -/
def Stab (R : World → Mem → Pl → Prop) : Prop := ∀ w m φ w' m' φ', Adv w m φ w' m' φ' → R w m φ → R w' m' φ'
structure GR (wi : World) (mi : Mem) (nt : Nat) (ok : Nat → Prop) (R : World → Mem → Pl → Prop) (env : Nat → AV) (st : Store) (a : Act) (w : World) : Prop where
  out : ∃ m φ, Inv w m φ st ∧ (∀ t, Rep m φ (env t) (a.tmps.getD t undef)) ∧ Adv wi mi (fun _ => none) w m φ ∧ (∀ id, φ id ≠ none → ok id) ∧ R w m φ
  size : nt ≤ a.tmps.size
  defers : a.defers = []
section
variable {C : Ctx} {wi : World} {mi : Mem} {nt : Nat}
theorem GR.codeA (hS : SoundOk C) {G : List Nat} {c : Code} {S S' : AS} {e : AExit} {a : Act} {w : World} {R : World → Mem → Pl → Prop} (hR : Stab R) (hc : codeOk nt c = true) (hx : execA C G S.st.length c S = some (e, S')) (h : GR wi mi nt (fun id => id < S.st.length) R (envOf S.env) (stOf S.st) a w) (hnr : noRange c = true := by rfl) :
    c.wp C.P (fun e' a' w' => e' = exitOf e ∧ GR wi mi nt (fun id => id < S'.st.length) R (envOf S'.env) (stOf S'.st) a' w') a w := by
  obtain ⟨n, hn⟩ := (execA_iff _).1 hx
  obtain ⟨⟨m, φ, h1, h2, h3, h4, h5⟩, h6, h7⟩ := h
  refine wpIn_wide.1 (wpIn_mono (exec_sound (ρ := none) hS.ctx (callA_sound hS) (hS.draw _ (callA_sound hS)) h4 n c S S' e [] a w hc (.inl rfl) hn ⟨⟨⟨m, φ, h1, h2, .refl _ _ _, h4, .nil _ _ _⟩, h6, h7⟩, Nat.le_refl _⟩) ?_)
  rintro e' a' w' ⟨rfl, ds, k, kd⟩
  have kd := kd hnr
  subst kd
  obtain ⟨⟨⟨m', φ', k1, k2, k3, k4, _⟩, k5, k6⟩, _⟩ := k
  exact ⟨rfl, ⟨⟨m', φ', k1, k2, h3.trans k3, k4, hR _ _ _ _ _ _ k3 h5⟩, k5, k6⟩⟩
theorem GR.turn {ok ok' : Nat → Prop} {R R' : World → Mem → Pl → Prop} {env env' : Nat → AV} {st st' : Store} {a : Act} {w : World} (h : GR wi mi nt ok R env st a w)
    (f : ∀ m φ, Inv w m φ st → (∀ t, Rep m φ (env t) (a.tmps.getD t undef)) → Adv wi mi (fun _ => none) w m φ → (∀ id, φ id ≠ none → ok id) → R w m φ →
      ∃ m' φ', Inv w m' φ' st' ∧ (∀ t, Rep m' φ' (env' t) (a.tmps.getD t undef)) ∧ Adv wi mi (fun _ => none) w m' φ' ∧ (∀ id, φ' id ≠ none → ok' id) ∧ R' w m' φ') : GR wi mi nt ok' R' env' st' a w := by
  obtain ⟨⟨m, φ, h1, h2, h3, h4, h5⟩, h6, h7⟩ := h
  exact ⟨f m φ h1 h2 h3 h4 h5, h6, h7⟩
/-! ### Blocks given up -/
def cutP (st' : Store) (φ : Pl) : Pl := fun i => match st' i with
  | some _ => φ i
  | none => none
theorem cutP_some {st' : Store} {φ : Pl} {i : Nat} {p : Nat × Ext} (h : cutP st' φ i = some p) : φ i = some p ∧ st' i ≠ none := by
  unfold cutP at h
  cases e : st' i with
  | none => rw [e] at h; cases h
  | some _ => rw [e] at h; exact ⟨h, by simp⟩
theorem cutP_eq {st' : Store} {φ : Pl} {i : Nat} (h : st' i ≠ none) : cutP st' φ i = φ i := by
  unfold cutP
  cases e : st' i with
  | none => exact absurd e h
  | some _ => rfl
theorem Inv.cut {w : World} {m : Mem} {φ : Pl} {st st' : Store} (hi : Inv w m φ st) (hst : ∀ i blk, st' i = some blk → st i = some blk ∧ LitBlk blk) : Inv w m (cutP st' φ) st' := by
  refine ⟨hi.mem, ?_, ?_, fun i b n f e ho => hi.low i b n f (cutP_some e).1 ho⟩
  · intro i blk hb
    obtain ⟨h1, h2⟩ := hst i blk hb
    obtain ⟨b, n, q1, q2, q3⟩ := hi.live i blk h1
    exact ⟨b, n, by rw [cutP_eq (by rw [hb]; simp)]; exact q1, q2, q3.mlit h2 rfl fun o h => h⟩
  · intro i j b bx n n2 b1 b2 f h1 h2 h3 h4 o1 o2
    exact hi.inj i j b bx n n2 b1 b2 f (hst i b1 h1).1 (hst j b2 h2).1 (cutP_some h3).1 (cutP_some h4).1 o1 o2
theorem Adv.cut {w : World} {m : Mem} {φ : Pl} {st' : Store} (h : Adv wi mi (fun _ => none) w m φ) : Adv wi mi (fun _ => none) w m (cutP st' φ) :=
  ⟨h.size, h.os, h.tape, h.output, h.block, h.mle, h.mnew, (fun _ _ _ h => by cases h), fun i b n f e ho => h.pnew i b n f (cutP_some e).1 ho⟩
theorem Free.cut {φ : Pl} {st' : Store} {f : Nat} (h : Free φ f) : Free (cutP st' φ) f := fun i b n e => h i b n (cutP_some e).1
/-- A block that has been given up is nobody's. -/
theorem free_dropped {w : World} {m : Mem} {φ : Pl} {st st' : Store} {id b f : Nat} {n : Ext} {blk : Blk} (hi : Inv w m φ st) (hst : ∀ i blk, st' i = some blk → st i = some blk ∧ LitBlk blk) (hid : st id = some blk) (hn : st' id = none) (e : φ id = some (b, n)) (ho : n.own f) : Free (cutP st' φ) f := by
  intro i r n' e' ho'
  obtain ⟨h1, h2⟩ := cutP_some e'
  cases hb : st' i with
  | none => exact h2 hb
  | some blk' =>
    have := hi.inj i id r b n' n blk' blk f (hst i blk' hb).1 hid h1 e ho' ho
    rw [this, hn] at hb; cases hb
theorem new_owned {w : World} {m : Mem} {φ : Pl} {id b f : Nat} {n : Ext} (h : Adv wi mi (fun _ => none) w m φ) (e : φ id = some (b, n)) (ho : n.own f) : wi.heap.size ≤ f := by
  rcases h.pnew id b n f e ho with h | h
  · exact h
  · exact absurd (fun id b n e => by cases e) h
/-! ### A block taken over -/
theorem Inv.adopt {w : World} {m : Mem} {φ : Pl} {st : Store} {id b : Nat} {cs : List AV} {vs : List Value} {T : TypeId} (hi : Inv w m φ st) (h1 : st id = none) (h2 : φ id = none) (hf : Free φ b) (hm : ∀ o, m b o = none) (hh : w.heap[b]? = some (.cells vs.toArray T (0, 0)))
    (hc : RepC m (upd φ id (some (b, one b vs.length))) cs vs) : Inv w m (upd φ id (some (b, one b vs.length))) (upd st id (some (.box cs))) := by
  have hlt : b < w.heap.size := (Array.getElem?_eq_some_iff.1 hh).1
  have hp : PLe φ (upd φ id (some (b, one b vs.length))) := fun i r n e => by
    refine ⟨n, ?_, rfl, fun _ h => h⟩
    have : i ≠ id := fun h => by rw [h, h2] at e; cases e
    simp [upd, this, e]
  refine ⟨hi.mem, ?_, ?_, ?_⟩
  · intro i blk hb
    by_cases hid : i = id
    · subst hid
      simp [upd] at hb
      subst hb
      exact ⟨b, one b vs.length, by simp [upd], ⟨rfl, fun f hf => by rw [show f = b from hf]; exact hlt⟩, .box hh rfl hc hm⟩
    · simp [upd, hid] at hb
      obtain ⟨r, n, q1, q2, q3⟩ := hi.live i blk hb
      exact ⟨r, n, by simp [upd, hid, q1], q2, q3.mono q2.1 (fun _ _ => rfl) (.refl _) hp fun _ _ _ => rfl⟩
  · intro i j r r' n n' b1 b2 f e1 e2 p1 p2 o1 o2
    by_cases hi1 : i = id
    · by_cases hj1 : j = id
      · rw [hi1, hj1]
      · subst hi1
        simp [upd] at p1
        simp [upd, hj1] at p2
        obtain ⟨rfl, rfl⟩ := p1
        rw [show f = _ from o1] at o2
        exact absurd o2 (hf j r' n' p2)
    · by_cases hj1 : j = id
      · subst hj1
        simp [upd] at p2
        simp [upd, hi1] at p1
        obtain ⟨rfl, rfl⟩ := p2
        rw [show f = _ from o2] at o1
        exact absurd o1 (hf i r n p1)
      · simp [upd, hi1] at e1 p1
        simp [upd, hj1] at e2 p2
        exact hi.inj i j r r' n n' b1 b2 f e1 e2 p1 p2 o1 o2
  · intro i r n f e ho
    by_cases hid : i = id
    · subst hid
      simp [upd] at e
      obtain ⟨rfl, rfl⟩ := e
      rw [show f = _ from ho]; exact hlt
    · simp [upd, hid] at e
      exact hi.low i r n f e ho
theorem Adv.adopt {w : World} {m : Mem} {φ : Pl} {id b k : Nat} (h : Adv wi mi (fun _ => none) w m φ) (hb : wi.heap.size ≤ b) : Adv wi mi (fun _ => none) w m (upd φ id (some (b, one b k))) := by
  refine ⟨h.size, h.os, h.tape, h.output, h.block, h.mle, h.mnew, (fun _ _ _ h => by cases h), fun i r n f e ho => ?_⟩
  by_cases hid : i = id
  · subst hid
    simp [upd] at e
    obtain ⟨rfl, rfl⟩ := e
    rw [show f = _ from ho]; exact .inl hb
  · simp [upd, hid] at e
    exact h.pnew i r n f e ho
/-! ### Values as they are -/
def litVs (vs : List Value) : List AV := vs.map fun v => .i (.lit v)
theorem litVs_rep {m : Mem} {φ : Pl} : ∀ {vs : List Value}, (∀ v ∈ vs, v.oneCell' = true) → RepC m φ (litVs vs) vs
  | [], _ => .nil
  | v :: vs, h => .cons (.i (.lit v)) (h v (by simp)) (litVs_rep fun u hu => h u (by simp [hu]))
theorem litVs_eq {m : Mem} {φ : Pl} : ∀ {vs us : List Value}, RepC m φ (litVs vs) us → us = vs
  | [], _, .nil => rfl
  | v :: vs, _, .cons a _ b => by rw [a.lit_eq, litVs_eq b]
theorem repC_append {m : Mem} {φ : Pl} : ∀ {a b : List AV} {vs : List Value}, RepC m φ (a ++ b) vs → ∃ us xs, vs = us ++ xs ∧ RepC m φ a us ∧ RepC m φ b xs
  | [], b, vs, h => ⟨[], vs, rfl, .nil, h⟩
  | c :: a, b, _, .cons h1 h2 h3 => by
    obtain ⟨us, xs, rfl, k1, k2⟩ := repC_append h3
    exact ⟨_ :: us, xs, rfl, .cons h1 h2 k1, k2⟩
theorem repC_join {m : Mem} {φ : Pl} : ∀ {a b : List AV} {us xs : List Value}, RepC m φ a us → RepC m φ b xs → RepC m φ (a ++ b) (us ++ xs)
  | [], _, _, _, .nil, h => h
  | _ :: _, _, _, _, .cons h1 h2 h3, h => .cons h1 h2 (repC_join h3 h)
end
end Go.Av

/- Plans being copied: a place taken over by the executor, and given back. No condition. -/
namespace Go.Av
/-- What is known of the copy under way. -/
structure RAW (wi : World) (root : Nat) (p : Pn) (F : List Nat) (H : PL) (w : World) (m : Mem) (φ : Pl) : Prop where
  th : TH w m p root 0 F H
  nr : root ∉ F
  nd : F.Nodup
  all : ∀ f ∈ root :: F, wi.heap.size ≤ f ∧ f < w.heap.size ∧ Free φ f ∧ (∀ o, m f o = none) ∧ ∃ (vs : List Value) (T : TypeId), w.heap[f]? = some (.cells vs.toArray T (0, 0)) ∧ ∀ v ∈ vs, v.oneCell' = true
theorem cells_same {w w' : World} {f : Nat} (h : w'.heap[f]? = w.heap[f]?) (j : Nat) : w'.cell? ⟨f, j, none⟩ = w.cell? ⟨f, j, none⟩ := cell_of_heap h
theorem RAW.stab (wi : World) (root : Nat) (p : Pn) (F : List Nat) (H : PL) : Stab (RAW wi root p F H) := by
  intro w m φ w' m' φ' ha h
  have hs : ∀ f ∈ root :: F, w'.heap[f]? = w.heap[f]? := fun f hf => ha.block f (h.all f hf).2.1 (h.all f hf).2.2.1
  refine ⟨h.th.frame ha.mle (fun j _ _ => cells_same (hs root (by simp)) j) (fun f hf j => cells_same (hs f (by simp [hf])) j), h.nr, h.nd, fun f hf => ?_⟩
  obtain ⟨k1, k2, k3, k4, vs, T, k5, k6⟩ := h.all f hf
  exact ⟨k1, Nat.lt_of_lt_of_le k2 ha.size, ha.range k2 k3, fun o => (ha.mnew f k2 k3 o).trans (k4 o), vs, T, by rw [hs f hf]; exact k5, k6⟩
/-- What is known while one of its places is the executor's. -/
structure ADP (wi : World) (root : Nat) (p : Pn) (F : List Nat) (H : PL) (bq : Nat) (us : List Value) (wa : World) (ma : Mem) (w : World) (m : Mem) (φ : Pl) : Prop where
  th : TH wa ma p root 0 F H
  nr : root ∉ F
  nd : F.Nodup
  le : MLe ma m
  inF : bq ∈ root :: F
  own : ∃ n, φ 2 = some (bq, n)
  row : ∃ T, wa.heap[bq]? = some (.cells us.toArray T (0, 0))
  bqn : wi.heap.size ≤ bq
  oth : ∀ f ∈ root :: F, f ≠ bq → wi.heap.size ≤ f ∧ f < w.heap.size ∧ Free φ f ∧ (∀ o, m f o = none) ∧ w.heap[f]? = wa.heap[f]? ∧ ∃ (vs : List Value) (T : TypeId), wa.heap[f]? = some (.cells vs.toArray T (0, 0)) ∧ ∀ v ∈ vs, v.oneCell' = true
theorem ADP.stab (wi : World) (root : Nat) (p : Pn) (F : List Nat) (H : PL) (bq : Nat) (us : List Value) (wa : World) (ma : Mem) : Stab (ADP wi root p F H bq us wa ma) := by
  intro w m φ w' m' φ' ha h
  refine ⟨h.th, h.nr, h.nd, h.le.trans ha.mle, h.inF, ?_, h.row, h.bqn, fun f hf hne => ?_⟩
  · obtain ⟨n, e⟩ := h.own
    obtain ⟨n', e', _⟩ := ha.ple _ _ _ e
    exact ⟨n', e'⟩
  · obtain ⟨k1, k2, k3, k4, k5, k6⟩ := h.oth f hf hne
    exact ⟨k1, Nat.lt_of_lt_of_le k2 ha.size, ha.range k2 k3, fun o => (ha.mnew f k2 k3 o).trans (k4 o), (ha.block f k2 k3).trans k5, k6⟩
theorem row_five {us : List Value} {o : Nat} {v0 v1 v2 v3 v4 : Value} (h0 : us[o]? = some v0) (h1 : us[o + 1]? = some v1) (h2 : us[o + 2]? = some v2) (h3 : us[o + 3]? = some v3) (h4 : us[o + 4]? = some v4) : us = us.take o ++ ([v0, v1, v2, v3, v4] ++ us.drop (o + 5)) := by
  have g : ∀ {o : Nat} {v : Value}, us[o]? = some v → us.drop o = v :: us.drop (o + 1) := by
    intro o v h
    obtain ⟨hl, rfl⟩ := List.getElem?_eq_some_iff.1 h
    exact List.drop_eq_getElem_cons hl
  have : us.drop o = [v0, v1, v2, v3, v4] ++ us.drop (o + 5) := by rw [g h0, g h1, g h2, g h3, g h4]; rfl
  rw [← this, List.take_append_drop]
mutual
/-- What lies at an unturned place. -/
theorem TH.hole {w : World} {m : Mem} {x : Pn} {b o : Nat} {F : List Nat} {H : PL} : TH w m x b o F H → ∀ q ∈ H, ∃ v0 v1 v2 v3 v4, ICells m q.2.cells [v0, v1, v2, v3, v4] ∧ At5 w q.1.1 q.1.2 v0 v1 v2 v3 v4
  | .fresh h1 h2, q, hq => by simp at hq; subst hq; exact ⟨_, _, _, _, _, h1, h2⟩
  | .leaf _ _ _ _, q, hq => by simp at hq
  | .node _ _ _ _ _ h6, q, hq => THL.hole h6 q hq
theorem THL.hole {w : World} {m : Mem} {xs : List Pn} {b o : Nat} {F : List Nat} {H : PL} : THL w m xs b o F H → ∀ q ∈ H, ∃ v0 v1 v2 v3 v4, ICells m q.2.cells [v0, v1, v2, v3, v4] ∧ At5 w q.1.1 q.1.2 v0 v1 v2 v3 v4
  | .nil _ _, q, hq => by simp at hq
  | .cons h1 h2, q, hq => by
    rcases List.mem_append.1 hq with h | h
    · exact TH.hole h1 q h
    · exact THL.hole h2 q h
end
theorem impI_rep {m : Mem} {φ : Pl} : ∀ {cs : List IV} {vs : List Value}, ICells m cs vs → RepC m φ (impI cs) vs
  | [], _, .nil => .nil
  | c :: cs, _, .cons a o b => .cons (.i a) o (impI_rep b)
section
variable {wi : World} {mi : Mem} {nt : Nat}
/-- A place's cells, seen as they are: its own, and the others of its block. -/
def boxL (pre : List Value) (row : List AV) (post : List Value) : List AV := litVs pre ++ (row ++ litVs post)
/-- An unturned place becomes the executor's. -/
theorem GR.adopt {ok : Nat → Prop} {root : Nat} {p : Pn} {F : List Nat} {H : PL} {env : Nat → AV} {st : Store} {a : Act} {w : World} {u bq oq : Nat} {y : Pn} (h : GR wi mi nt ok (RAW wi root p F H) env st a w) (hst : st 2 = none) (hok : ¬ ok 2) (hq : ((bq, oq), y) ∈ H) (hu : env u = .i (.lit (.pointer (some ⟨bq, oq, none⟩)))) :
    ∃ pre post us ma, us.take oq = pre ∧ us.drop (oq + 5) = post ∧ pre.length = oq ∧ us.length = oq + 5 + post.length ∧ (∀ v ∈ us, v.oneCell' = true) ∧
      GR wi mi nt (fun id => ok id ∨ id = 2) (ADP wi root p F H bq us w ma) (upd env u (.own 2 oq)) (upd st 2 (some (.box (boxL pre (impI y.cells) post)))) a w := by
  obtain ⟨⟨m, φ, hi, henv, hadv, hk, hr⟩, h6, h7⟩ := h
  obtain ⟨v0, v1, v2, v3, v4, hc, h5⟩ := hr.th.hole _ hq
  simp only at hc h5
  have hinF : bq ∈ root :: F := by
    rcases hr.th.holes _ hq with e | e
    · simp at e; simp [e]
    · simp at e; simp [e]
  obtain ⟨k1, k2, k3, k4, us, T, k5, k6⟩ := hr.all bq hinF
  have gc : ∀ {o : Nat} {v : Value}, w.cell? ⟨bq, o, none⟩ = some v → us[o]? = some v := fun h => by rwa [cell_row k5] at h
  have hrow := row_five (gc h5.c0) (gc h5.c1) (gc h5.c2) (gc h5.c3) (gc h5.c4)
  have hl4 := (List.getElem?_eq_some_iff.1 (gc h5.c4)).1
  refine ⟨us.take oq, us.drop (oq + 5), us, m, rfl, rfl, by rw [List.length_take]; omega, by rw [List.length_drop]; omega, k6, ?_⟩
  have hφ2 : φ 2 = none := by
    cases e : φ 2 with
    | none => rfl
    | some q => exact absurd (hk 2 (by rw [e]; simp)) hok
  have hrep : RepC m (upd φ 2 (some (bq, one bq us.length))) (boxL (us.take oq) (impI y.cells) (us.drop (oq + 5))) us := by
    have h1 := litVs_rep (m := m) (φ := upd φ 2 (some (bq, one bq us.length))) (vs := us.take oq) fun v hv => k6 v (List.mem_of_mem_take hv)
    have h2 := litVs_rep (m := m) (φ := upd φ 2 (some (bq, one bq us.length))) (vs := us.drop (oq + 5)) fun v hv => k6 v (List.mem_of_mem_drop hv)
    have h3 := repC_join h1 (repC_join (impI_rep hc) h2)
    rw [← hrow] at h3
    exact h3
  have hp : PLe φ (upd φ 2 (some (bq, one bq us.length))) := fun i r n e => by
    refine ⟨n, ?_, rfl, fun _ h => h⟩
    have : i ≠ 2 := fun h => by rw [h, hφ2] at e; cases e
    simp [upd, this, e]
  refine ⟨⟨m, upd φ 2 (some (bq, one bq us.length)), hi.adopt hst hφ2 k3 k4 k5 hrep, fun t => ?_, hadv.adopt k1, fun id hid => ?_, ?_⟩, h6, h7⟩
  · by_cases ht : t = u
    · subst ht
      have := henv t; rw [hu] at this
      simp only [upd, if_true]
      rw [this.lit_eq]
      exact .own (n := one bq us.length) (by simp [upd])
    · simp only [upd, ht, if_false]
      exact (henv t).mono (.refl _) hp
  · by_cases e : id = 2
    · exact .inr e
    · simp [upd, e] at hid
      exact .inl (hk id hid)
  · refine ⟨hr.th, hr.nr, hr.nd, .refl _, hinF, ⟨one bq us.length, by simp [upd]⟩, ⟨T, k5⟩, k1, fun f hf hne => ?_⟩
    obtain ⟨q1, q2, q3, q4, q5⟩ := hr.all f hf
    refine ⟨q1, q2, fun i r n e ho => ?_, q4, rfl, q5⟩
    by_cases e2 : i = 2
    · subst e2
      simp [upd] at e
      obtain ⟨rfl, rfl⟩ := e
      exact hne ho
    · simp [upd, e2] at e
      exact q3 i r n e ho
/-- A slice that is nil if nothing is in it. -/
def slA (n id k : Nat) : AV := if n = 0 then .nils else .osl id k 0 n
def kidsP (b : Nat) : Nat → List Pn → PL
  | _, [] => []
  | o, x :: l => ((b, o), x) :: kidsP b (o + 5) l
theorem Inv.reblk {w : World} {m : Mem} {φ : Pl} {st : Store} {id b : Nat} {n : Ext} {blk blk' : Blk} (hi : Inv w m φ st) (h : st id = some blk) (e : φ id = some (b, n)) (hb : BlkOk w m φ b n blk') : Inv w m φ (upd st id (some blk')) := by
  refine ⟨hi.mem, ?_, ?_, hi.low⟩
  · intro i bl hbl
    by_cases hid : i = id
    · subst hid
      simp [upd] at hbl; subst hbl
      exact ⟨b, n, e, (blk_own hi e h).1, hb⟩
    · simp [upd, hid] at hbl
      exact hi.live i bl hbl
  · intro i j r r' n1 n2 b1 b2 f e1 e2 p1 p2 o1 o2
    have g : ∀ i b1, upd st id (some blk') i = some b1 → ∃ b2, st i = some b2 := fun i b1 h1 => by
      by_cases hid : i = id
      · subst hid; exact ⟨blk, h⟩
      · simp [upd, hid] at h1; exact ⟨b1, h1⟩
    obtain ⟨x1, y1⟩ := g i b1 e1
    obtain ⟨x2, y2⟩ := g j b2 e2
    exact hi.inj i j r r' n1 n2 x1 x2 f y1 y2 p1 p2 o1 o2
/-- What a slice of an own array holds, given up to memory. -/
theorem slA_frz {w : World} {m : Mem} {φ : Pl} {st : Store} {n id k : Nat} {v : Value} {es : List (List IV)} (hn : es.length = n) (hi : Inv w m φ st) (hr : Rep m φ (slA n id k) v) (hst : n ≠ 0 → st id = some (.arr k es)) :
    ∃ m1, IRep m1 (.isl es) v ∧ Inv w m1 φ (if n = 0 then st else upd st id (some (.frz k es))) ∧ Adv w m φ w m1 φ := by
  unfold slA at hr
  by_cases h0 : n = 0
  · simp only [h0, if_true] at hr ⊢
    have : es = [] := List.length_eq_zero_iff.1 (by omega)
    subst this
    cases hr
    exact ⟨m, .isl0 _ _ (fun _ => rfl), hi, .refl _ _ _⟩
  · simp only [h0, if_false] at hr ⊢
    have hid := hst h0
    have hfr : frzV st (.osl id k 0 n) = some (.isl es, upd st id (some (.frz k es))) := by
      simp [frzV, frz, fuelF, frzSl, hid, tst, window, bnd, frzIds, List.take_of_length_le, hn]
    exact frzV_sound hi hr hfr
theorem kids_fresh {w : World} {m : Mem} {b : Nat} : ∀ {ks : List Pn} {o : Nat} {vs : List Value}, ICells m (Pn.cellsL ks).flatten vs → (∀ j v, vs[j]? = some v → w.cell? ⟨b, o + j, none⟩ = some v) → THL w m ks b o [] (kidsP b o ks)
  | [], o, _, _, _ => .nil b o
  | k :: ks, o, vs, h, hw => by
    simp only [Pn.cellsL, List.flatten_cons] at h
    have h1 := h.take 5
    have h2 := h.drop 5
    rw [List.take_left' (Pn.cells_length k)] at h1
    rw [List.drop_left' (Pn.cells_length k)] at h2
    have hl := h1.length
    rw [Pn.cells_length] at hl
    have hlen : 5 ≤ vs.length := by rw [List.length_take] at hl; omega
    have hf : THL w m (k :: ks) b o ([] ++ []) ([((b, o), k)] ++ kidsP b (o + 5) ks) := by
      refine .cons ?_ (kids_fresh h2 fun j v hj => ?_)
      · have e : vs.take 5 = [vs[0], vs[1], vs[2], vs[3], vs[4]] := by
          apply List.ext_getElem (by simp; omega)
          intro i l1 l2
          simp at l1 l2
          rcases i with _ | _ | _ | _ | _ | i
          · simp
          · simp
          · simp
          · simp
          · simp
          · omega
        rw [e] at h1
        exact .fresh h1 ⟨hw 0 _ (by simp), hw 1 _ (by simp), hw 2 _ (by simp), hw 3 _ (by simp), hw 4 _ (by simp)⟩
      · rw [List.getElem?_drop] at hj
        have := hw (5 + j) v hj
        rwa [← Nat.add_assoc] at this
    exact hf
/-- The turned place, its cells as they are; its kids are places. -/
theorem GR.relit {ok : Nat → Prop} {root : Nat} {p : Pn} {F : List Nat} {H : PL} {env env' : Nat → AV} {st st' : Store} {a : Act} {w wa : World} {ma : Mem} {u bq oq idE idC idK : Nat} {pre post us : List Value} {k t : Int} {es : List Ex} {cs : List Int} {ks : List Pn}
    (h : GR wi mi nt ok (ADP wi root p F H bq us wa ma) env st a w) (h1 : us.take oq = pre) (h2 : us.drop (oq + 5) = post) (h3 : pre.length = oq) (h4 : us.length = oq + 5 + post.length)
    (hq : ((bq, oq), Pn.mk k t es cs ks) ∈ H) (hbox : st 2 = some (.box (boxL pre [.int k, .int t, slA es.length idE 5, slA cs.length idC 1, slA ks.length idK 5] post)))
    (hE : es.length ≠ 0 → st idE = some (.arr 5 (Ex.cellsL es))) (hC : cs.length ≠ 0 → st idC = some (.arr 1 (intsL cs))) (hK : ks.length ≠ 0 → st idK = some (.arr 5 (Pn.cellsL ks)))
    (hd : 2 < idE ∧ 2 < idC ∧ 2 < idK ∧ idE ≠ idC ∧ idE ≠ idK ∧ idC ≠ idK)
    (hst : ∀ i blk, st' i = some blk → i < 2 ∧ st i = some blk ∧ LitBlk blk) (he : ∀ t, env' t = .junk ∨ (env' t = env t ∧ (env t = .own 2 oq ∨ Stays st' (env t)))) :
    ∃ F' H' us' b' cap vE vC m2, (((bq, oq), Pn.mk k t es cs ks) :: H').Perm (H ++ kidsP b' 0 ks) ∧ us' = pre ++ ([.int .i64 k, .int .i64 t, vE, vC, if ks.length = 0 then .slice none 0 0 else .slice (some ⟨b', 0, none⟩) ks.length cap] ++ post) ∧ (∀ v ∈ us', v.oneCell' = true) ∧ (∀ q ∈ H, q.1.1 ≠ b') ∧
      GR wi mi nt (fun id => id ≤ 2) (ADP wi root p F' H' bq us' w m2) env' (upd st' 2 (some (.box (litVs us')))) a w := by
  obtain ⟨⟨m, φ, hi, henv, hadv, hk, hr⟩, h6, h7⟩ := h
  obtain ⟨n2, e2⟩ := hr.own
  obtain ⟨hb2, hok2⟩ := blk_own hi e2 hbox
  obtain ⟨d1, d2, d3, d4, d5, d6⟩ := hd
  cases hok2 with
  | @box T _ vs hh hl hrc hm =>
    have hone := hrc.one
    obtain ⟨vp, x, rfl, r1, r2⟩ := repC_append hrc
    obtain ⟨vr, vq, rfl, r3, r4⟩ := repC_append r2
    obtain rfl := (litVs_eq r1).symm
    obtain rfl := (litVs_eq r4).symm
    cases r3 with
    | cons a0 o0 r3 =>
    cases r3 with
    | cons a1 o1 r3 =>
    cases r3 with
    | @cons _ vE _ _ aE oE r3 =>
    cases r3 with
    | @cons _ vC _ _ aC oC r3 =>
    cases r3 with
    | @cons _ vK _ _ aK oK r3 =>
    cases r3
    obtain rfl := a0.lit_eq
    obtain rfl := a1.lit_eq
    -- what the slices of expressions and columns hold goes to memory
    obtain ⟨m1, f1, i1, g1⟩ := slA_frz (es := Ex.cellsL es) (by simp) hi aE hE
    have s1 : ∀ i, i ≠ idE → (if es.length = 0 then st else upd st idE (some (.frz 5 (Ex.cellsL es)))) i = st i := fun i hne => by
      split
      · rfl
      · simp [upd, hne]
    generalize (if es.length = 0 then st else upd st idE (some (.frz 5 (Ex.cellsL es)))) = st1 at i1 s1
    obtain ⟨m2, f2, i2, g2⟩ := slA_frz (es := intsL cs) (by simp) i1 (aC.mono g1.mle (.refl _)) (fun h0 => by rw [s1 _ (by omega)]; exact hC h0)
    have s2 : ∀ i, i ≠ idE → i ≠ idC → (if cs.length = 0 then st1 else upd st1 idC (some (.frz 1 (intsL cs)))) i = st i := fun i hne hne2 => by
      split
      · exact s1 i hne
      · simp [upd, hne2, s1 i hne]
    generalize (if cs.length = 0 then st1 else upd st1 idC (some (.frz 1 (intsL cs)))) = st2 at i2 s2
    have hA := (hadv.trans g1).trans g2
    have hm2 : ∀ o, m2 bq o = none := by
      have hb := s2 2 (by omega) (by omega)
      rw [hbox] at hb
      obtain ⟨_, hok⟩ := blk_own i2 e2 hb
      cases hok with | box _ _ _ q => exact q
    have hlit : BlkOk w m2 φ bq n2 (.box (litVs (pre ++ ([.int .i64 k, .int .i64 t, vE, vC, vK] ++ post)))) := .box hh hl (litVs_rep hone) hm2
    have i3 := i2.reblk (by rw [s2 2 (by omega) (by omega)]; exact hbox) e2 hlit
    generalize hus : pre ++ ([.int .i64 k, .int .i64 t, vE, vC, vK] ++ post) = us' at hh hl hone hlit i3
    have hst2 : ∀ i blk, upd st' 2 (some (.box (litVs us'))) i = some blk → upd st2 2 (some (.box (litVs us'))) i = some blk ∧ LitBlk blk := by
      intro i blk hb
      by_cases hid : i = 2
      · subst hid
        simp [upd] at hb ⊢
        refine ⟨hb, ?_⟩
        subst hb
        intro c hc
        obtain ⟨v, _, rfl⟩ := List.mem_map.1 hc
        exact .inl ⟨v, rfl⟩
      · simp [upd, hid] at hb ⊢
        obtain ⟨q1, q2, q3⟩ := hst i blk hb
        exact ⟨by rw [s2 i (by omega) (by omega)]; exact q2, q3⟩
    have i4 := i3.cut hst2
    have hat : At5 w bq oq (.int .i64 k) (.int .i64 t) vE vC vK := by
      have g : ∀ (j : Nat) (v : Value), [Value.int .i64 k, .int .i64 t, vE, vC, vK][j]? = some v → w.cell? ⟨bq, oq + j, none⟩ = some v := by
        intro j v hj
        have hj5 := (List.getElem?_eq_some_iff.1 hj).1
        rw [cell_row hh, ← hus, List.getElem?_append_right (by omega), h3, Nat.add_sub_cancel_left, List.getElem?_append_left hj5]
        exact hj
      exact ⟨g 0 _ rfl, g 1 _ rfl, g 2 _ rfl, g 3 _ rfl, g 4 _ rfl⟩
    have hHlt : ∀ q ∈ H, q.1.1 ∈ root :: F := fun q hq => by
      rcases hr.th.holes q hq with e | e
      · simp [e]
      · simp [e]
    have hlt : ∀ f ∈ root :: F, f < w.heap.size := fun f hf => by
      by_cases hne : f = bq
      · subst hne; exact (Array.getElem?_eq_some_iff.1 hh).1
      · exact (hr.oth f hf hne).2.1
    have hmon := hr.le.trans (g1.mle.trans g2.mle)
    have fE : IRep m2 (.isl (Ex.cellsL es)) vE := f1.mono g2.mle
    -- the kids
    obtain ⟨b', cap, G, hvK, hTH, hG, hGn, hbn⟩ : ∃ b' cap G, vK = (if ks.length = 0 then Value.slice none 0 0 else Value.slice (some ⟨b', 0, none⟩) ks.length cap) ∧ TH w m2 (.mk k t es cs ks) bq oq G (kidsP b' 0 ks) ∧
        (∀ f ∈ G, wi.heap.size ≤ f ∧ f < w.heap.size ∧ Free (cutP (upd st' 2 (some (.box (litVs us')))) φ) f ∧ (∀ o, m2 f o = none) ∧ (∃ (vs : List Value) (T : TypeId), w.heap[f]? = some (.cells vs.toArray T (0, 0)) ∧ ∀ v ∈ vs, v.oneCell' = true) ∧ f ≠ bq ∧ f ∉ root :: F) ∧ G.Nodup ∧ ∀ q ∈ H, q.1.1 ≠ b' := by
      by_cases h0 : ks.length = 0
      · have hks : ks = [] := List.length_eq_zero_iff.1 h0
        subst hks
        simp only [slA, List.length_nil, if_true] at aK
        cases aK
        exact ⟨w.heap.size, 0, [], rfl, .leaf hat fE f2 (fun _ => rfl), by simp, List.nodup_nil, fun q hq e => by have := hlt _ (hHlt q hq); omega⟩
      · simp only [slA, h0, if_false] at aK
        cases aK with
        | @osl _ _ _ _ cap b' nK ao eK l1 l2 l3 l4 =>
          have hao := l3 (by omega)
          subst hao
          have hK2 : st2 idK = some (.arr 5 (Pn.cellsL ks)) := by rw [s2 idK (by omega) (by omega)]; exact hK h0
          obtain ⟨hbK, hokK⟩ := blk_own i2 eK hK2
          cases hokK with
          | @arr TK _ _ vk q1 q2 q3 q4 q5 q6 q7 q8 q9 =>
            have hb'q : b' ≠ bq := fun e => by
              subst e
              have := hi.inj idK 2 b' b' nK n2 _ _ b' (hK h0) hbox eK e2 hbK.1 hb2.1
              omega
            have hnF : b' ∉ root :: F := fun hm => by
              exact (hr.oth b' hm hb'q).2.2.1 idK b' nK eK hbK.1
            refine ⟨b', cap, [b'], by simp [h0], ?_, ?_, by simp, fun q hq e => hnF (e ▸ hHlt q hq)⟩
            · refine .node hat fE f2 (fun e => h0 (by rw [e]; rfl)) (by omega) ?_
              rw [Pn.cellsL_length] at q5
              exact kids_fresh q5 fun j v hj => by
                rw [Nat.zero_add, cell_row q1]
                rw [List.getElem?_take] at hj
                split at hj
                · exact hj
                · cases hj
            · intro f hf
              simp at hf
              subst hf
              refine ⟨new_owned hadv eK hbK.1, hbK.2 _ hbK.1, ?_, q7, ⟨vk, TK, q1, q9⟩, hb'q, hnF⟩
              refine free_dropped i3 hst2 (id := idK) (blk := .arr 5 (Pn.cellsL ks)) (by simp [upd, show idK ≠ 2 by omega, hK2]) ?_ eK hbK.1
              have : idK ≠ 2 := by omega
              simp only [upd, this, if_false]
              cases hx : st' idK with
              | none => rfl
              | some blk => have := (hst idK blk hx).1; omega
    obtain ⟨T0, hrow0⟩ := hr.row
    have hsame : ∀ f ∈ root :: F, ∀ j, (f ≠ bq ∨ j < oq ∨ oq + 5 ≤ j) → w.cell? ⟨f, j, none⟩ = wa.cell? ⟨f, j, none⟩ := by
      intro f hf j hj
      by_cases hne : f = bq
      · subst hne
        rw [cell_row hh, cell_row hrow0, ← hus]
        rcases hj with hj | hj | hj
        · exact absurd rfl hj
        · rw [List.getElem?_append_left (by omega), ← h1, List.getElem?_take]
          simp [hj]
        · rw [List.getElem?_append_right (by omega), List.getElem?_append_right (by simp; omega), ← h2, List.getElem?_drop]
          simp only [List.length_cons, List.length_nil, h3]
          congr 1
          omega
      · exact cells_same (hr.oth f hf hne).2.2.2.2.1 j
    obtain ⟨F1, H1, k1, k2, k3⟩ := TH.fill hmon hTH hr.th hr.nr hr.nd hq hsame
    have hF1 : ∀ f, f ∈ F1 ↔ f ∈ F ∨ f ∈ G := fun f => by rw [k2.mem_iff, List.mem_append]
    refine ⟨F1, H1, us', b', cap, vE, vC, m2, k3, by rw [← hus, hvK], hone, hbn, ⟨⟨m2, cutP (upd st' 2 (some (.box (litVs us')))) φ, i4, fun x => ?_, hA.cut, fun id hid => ?_, ?_⟩, h6, h7⟩⟩
    · rcases he x with e | ⟨e, e' | e'⟩
      · rw [e]; exact .junk _
      · rw [e, e']
        have hx := henv x
        rw [e'] at hx
        generalize a.tmps.getD x undef = yy at hx ⊢
        cases hx with
        | own e3 => exact .own (by rw [cutP_eq (by simp [upd])]; exact e3)
      · rw [e]
        refine Stays.rep e' (fun i hi' => ?_) (henv x)
        refine cutP_eq ?_
        by_cases hid : i = 2
        · subst hid; simp [upd]
        · simpa [upd, hid] using hi'
    · cases hx : cutP (upd st' 2 (some (.box (litVs us')))) φ id with
      | none => exact absurd hx hid
      | some q =>
        have := (cutP_some hx).2
        by_cases hid2 : id = 2
        · omega
        · simp [upd, hid2] at this
          cases hy : st' id with
          | none => exact absurd hy this
          | some blk => have := (hst id blk hy).1; omega
    · refine ⟨k1, fun hm => ?_, ?_, .refl _, ?_, ⟨n2, by rw [cutP_eq (by simp [upd])]; exact e2⟩, ⟨T, hh⟩, hr.bqn, fun f hf hne => ?_⟩
      · rcases (hF1 root).1 hm with h | h
        · exact hr.nr h
        · exact (hG root h).2.2.2.2.2.2 (by simp)
      · rw [k2.nodup_iff]
        exact List.nodup_append.2 ⟨hr.nd, hGn, fun x hx y hy e => (hG y hy).2.2.2.2.2.2 (by rw [← e]; simp [hx])⟩
      · rcases List.mem_cons.1 hr.inF with e | e
        · simp [e]
        · simp [(hF1 bq).2 (.inl e)]
      · have hf' : f ∈ root :: F ∨ f ∈ G := by
          rcases List.mem_cons.1 hf with e | e
          · exact .inl (by simp [e])
          · rcases (hF1 f).1 e with e | e
            · exact .inl (by simp [e])
            · exact .inr e
        rcases hf' with hf' | hf'
        · obtain ⟨q1, q2, q3, q4, q5, vs, T', q6, q7⟩ := hr.oth f hf' hne
          refine ⟨q1, q2, q3.cut, fun o => ?_, rfl, vs, T', by rw [q5]; exact q6, q7⟩
          rw [(g1.trans g2).mnew f q2 q3 o]; exact q4 o
        · obtain ⟨q1, q2, q3, q4, q5, _⟩ := hG f hf'
          exact ⟨q1, q2, q3, q4, rfl, q5⟩
/-- A place of which the executor has looked at the cells is given back. -/
theorem GR.giveback {ok : Nat → Prop} {root : Nat} {p : Pn} {F : List Nat} {H : PL} {env env' : Nat → AV} {st st' : Store} {a : Act} {w wa : World} {ma : Mem} {bq : Nat} {us : List Value}
    (h : GR wi mi nt ok (ADP wi root p F H bq us wa ma) env st a w) (hbox : st 2 = some (.box (litVs us)))
    (hst : ∀ i blk, st' i = some blk → i ≠ 2 ∧ st i = some blk ∧ LitBlk blk) (he : ∀ t, env' t = .junk ∨ (env' t = env t ∧ Stays st' (env t))) :
    GR wi mi nt (fun id => st' id ≠ none) (RAW wi root p F H) env' st' a w := by
  obtain ⟨⟨m, φ, hi, henv, hadv, hk, hr⟩, h6, h7⟩ := h
  obtain ⟨n2, e2⟩ := hr.own
  obtain ⟨hb2, hok2⟩ := blk_own hi e2 hbox
  have hst2 : ∀ i blk, st' i = some blk → st i = some blk ∧ LitBlk blk := fun i blk hb => (hst i blk hb).2
  cases hok2 with
  | @box T _ vs hh hl hrc hm =>
    have hone := hrc.one
    obtain rfl := (litVs_eq hrc).symm
    obtain ⟨T0, hrow0⟩ := hr.row
    have hcell : ∀ f ∈ root :: F, ∀ j, w.cell? ⟨f, j, none⟩ = wa.cell? ⟨f, j, none⟩ := by
      intro f hf j
      by_cases hne : f = bq
      · subst hne; rw [cell_row hh, cell_row hrow0]
      · exact cells_same (hr.oth f hf hne).2.2.2.2.1 j
    refine ⟨⟨m, cutP st' φ, hi.cut hst2, fun x => ?_, hadv.cut, fun id hid => ?_, ?_⟩, h6, h7⟩
    · rcases he x with e | ⟨e, e'⟩
      · rw [e]; exact .junk _
      · rw [e]; exact e'.rep (fun i hi' => cutP_eq hi') (henv x)
    · cases hx : cutP st' φ id with
      | none => exact absurd hx hid
      | some q => exact (cutP_some hx).2
    · refine ⟨hr.th.frame hr.le (fun j _ _ => hcell root (by simp) j) (fun f hf j => hcell f (by simp [hf]) j), hr.nr, hr.nd, fun f hf => ?_⟩
      by_cases hne : f = bq
      · subst hne
        refine ⟨hr.bqn, (Array.getElem?_eq_some_iff.1 hh).1, ?_, hm, us, T, hh, hone⟩
        refine free_dropped hi hst2 hbox ?_ e2 hb2.1
        cases hx : st' 2 with
        | none => rfl
        | some blk => exact absurd rfl (hst 2 blk hx).1
      · obtain ⟨q1, q2, q3, q4, q5, vs', T', q6, q7⟩ := hr.oth f hf hne
        exact ⟨q1, q2, q3.cut, q4, vs', T', by rw [q5]; exact q6, q7⟩
end
end Go.Av

/- Plans being copied: the first place, and the copy when all is done. No condition. -/
namespace Go.Av
theorem repC_impI {m : Mem} {φ : Pl} : ∀ {cs : List IV} {vs : List Value}, RepC m φ (impI cs) vs → ICells m cs vs
  | [], _, .nil => .nil
  | c :: cs, _, .cons a o b => by
    cases a with
    | i a => exact .cons a o (repC_impI b)
section
variable {wi : World} {mi : Mem} {nt : Nat}
/-- The first place. -/
theorem GR.pubP {ok : Nat → Prop} {R : World → Mem → Pl → Prop} {p : Pn} {env : Nat → AV} {st st' : Store} {a : Act} {w : World} {u id : Nat} (h : GR wi mi nt ok R env st a w) (hu : env u = .own id 0) (hbox : st id = some (.box (impI p.cells)))
    (hst : ∀ i blk, st' i = some blk → i ≠ id ∧ st i = some blk ∧ LitBlk blk) :
    ∃ b3, ∀ env', (∀ t, env' t = .junk ∨ (t = u ∧ env' t = .i (.lit (.pointer (some ⟨b3, 0, none⟩)))) ∨ (env' t = env t ∧ Stays st' (env t))) → GR wi mi nt (fun i => st' i ≠ none) (RAW wi b3 p [] [((b3, 0), p)]) env' st' a w := by
  obtain ⟨⟨m, φ, hi, henv, hadv, hk, _⟩, h6, h7⟩ := h
  have hr := henv u; rw [hu] at hr
  generalize hy : a.tmps.getD u undef = yy at hr
  cases hr with
  | @own _ _ b3 n3 e3 =>
    obtain ⟨hb, hok⟩ := blk_own hi e3 hbox
    have hst2 : ∀ i blk, st' i = some blk → st i = some blk ∧ LitBlk blk := fun i blk hb => (hst i blk hb).2
    cases hok with
    | @box T _ vs hh hl hrc hm =>
      have hc := repC_impI hrc
      have hlen := hc.length
      rw [Pn.cells_length] at hlen
      obtain ⟨v0, v1, v2, v3, v4, rfl⟩ : ∃ v0 v1 v2 v3 v4, vs = [v0, v1, v2, v3, v4] := by
        match vs, hlen with
        | [v0, v1, v2, v3, v4], _ => exact ⟨v0, v1, v2, v3, v4, rfl⟩
      refine ⟨b3, fun env' he => ⟨⟨m, cutP st' φ, hi.cut hst2, fun t => ?_, hadv.cut, fun i hi' => ?_, ?_⟩, h6, h7⟩⟩
      · rcases he t with e | ⟨rfl, e⟩ | ⟨e, e'⟩
        · rw [e]; exact .junk _
        · rw [e, hy]; exact .i (.lit _)
        · rw [e]; exact e'.rep (fun i hi' => cutP_eq hi') (henv t)
      · cases hx : cutP st' φ i with
        | none => exact absurd hx hi'
        | some q => exact (cutP_some hx).2
      · refine ⟨.fresh hc ⟨by rw [cell_row hh]; rfl, by rw [cell_row hh]; rfl, by rw [cell_row hh]; rfl, by rw [cell_row hh]; rfl, by rw [cell_row hh]; rfl⟩, by simp, List.nodup_nil, fun f hf => ?_⟩
        simp at hf; subst hf
        refine ⟨new_owned hadv e3 hb.1, hb.2 _ hb.1, ?_, hm, _, T, hh, hrc.one⟩
        refine free_dropped hi hst2 hbox ?_ e3 hb.1
        cases hx : st' id with
        | none => rfl
        | some blk => exact absurd rfl (hst id blk hx).1
/-- All is done: the first place leads to the copy. -/
theorem GR.fin {ok : Nat → Prop} {root : Nat} {p : Pn} {F : List Nat} {env : Nat → AV} {st : Store} {a : Act} {w : World} (h : GR wi mi nt ok (RAW wi root p F []) env st a w) (hst : ∀ i blk, st i = some blk → LitBlk blk) {u : Nat} (hu : env u = .i (.lit (.pointer (some ⟨root, 0, none⟩)))) {env' : Nat → AV} (he : ∀ t, env' t = .junk ∨ (t = u ∧ env' t = .i (.iref p.cells)) ∨ (env' t = env t ∧ Stays st (env t))) :
    GR wi mi nt ok (fun _ _ _ => True) env' st a w := by
  classical
  obtain ⟨⟨m, φ, hi, henv, hadv, hk, hr⟩, h6, h7⟩ := h
  let m' : Mem := fun f o => if f ∈ root :: F then w.cell? ⟨f, o, none⟩ else m f o
  have hin : ∀ f, f ∈ root :: F → ∀ o, m' f o = w.cell? ⟨f, o, none⟩ := fun f hf o => by show (if f ∈ root :: F then _ else _) = _; rw [if_pos hf]
  have hout : ∀ f, f ∉ root :: F → ∀ o, m' f o = m f o := fun f hf o => by show (if f ∈ root :: F then _ else _) = _; rw [if_neg hf]
  have hle : MLe m m' := fun f o v e => by
    by_cases hf : f ∈ root :: F
    · rw [(hr.all f hf).2.2.2.1 o] at e; cases e
    · rw [hout f hf]; exact e
  have hmem : MemOk w m' := fun f o v e => by
    by_cases hf : f ∈ root :: F
    · rw [hin f hf] at e; exact e
    · rw [hout f hf] at e; exact hi.mem f o v e
  have hat : IAt m' root 0 p.cells := hr.th.iat hle (fun j _ _ => hin root (by simp) j) (fun f hf j => hin f (by simp [hf]) j)
  refine ⟨⟨m', φ, ⟨hmem, fun i blk hb => ?_, hi.inj, hi.low⟩, fun t => ?_, ⟨hadv.size, hadv.os, hadv.tape, hadv.output, hadv.block, hadv.mle.trans hle, fun f hf hfr o => ?_, hadv.ple, hadv.pnew⟩, hk, trivial⟩, h6, h7⟩
  · obtain ⟨b, n, q1, q2, q3⟩ := hi.live i blk hb
    refine ⟨b, n, q1, q2, q3.mlit (hst i blk hb) rfl fun o ho => ?_⟩
    rw [hout b (fun hf => (hr.all b hf).2.2.1 i b n q1 q2.1)]; exact ho
  · rcases he t with e | ⟨rfl, e⟩ | ⟨e, e'⟩
    · rw [e]; exact .junk _
    · have hx := henv t
      rw [hu] at hx
      rw [e, hx.lit_eq]
      exact .i (.iref hat)
    · rw [e]; exact e'.rep (fun _ _ => rfl) (henv t)
  · rw [hout f (fun hf' => by have := (hr.all f hf').1; omega)]
    exact hadv.mnew f hf hfr o
theorem RAW.keep {root : Nat} {p : Pn} {F : List Nat} {H : PL} {w : World} {m : Mem} {φ : Pl} (ids : List Nat) (h : RAW wi root p F H w m φ) : RAW wi root p F H w m (keepP ids φ) := by
  refine ⟨h.th, h.nr, h.nd, fun f hf => ?_⟩
  obtain ⟨k1, k2, k3, k4, k5⟩ := h.all f hf
  refine ⟨k1, k2, fun id r n e => ?_, k4, k5⟩
  unfold keepP at e
  cases hx : ids[id]? with
  | none => rw [hx] at e; cases e
  | some j => rw [hx] at e; exact k3 j r n e
theorem GR.settle {ok : Nat → Prop} {R : World → Mem → Pl → Prop} (hR : ∀ w m φ ids, R w m φ → R w m (keepP ids φ)) {env : Nat → AV} {st : Store} {a : Act} {w : World} (G : List Nat) (h : GR wi mi nt ok R env st a w) :
    GR wi mi nt (fun id => id < (Av.settle G 0 env st).st.length) R (envOf (Av.settle G 0 env st).env) (stOf (Av.settle G 0 env st).st) a w := by
  obtain ⟨⟨m, φ, hi, henv, hadv, hok, hK⟩, hsz, hdf⟩ := h
  unfold Av.settle settleW
  generalize hids : keepIds st 0 (envAt env G) = ids
  have hd : ids.Nodup := by rw [← hids]; exact keepIds_nodup _ _ _
  refine ⟨⟨m, keepP ids φ, hi.keep hd, ?_, hadv.keep (fun id h => absurd rfl h) (fun j hj => absurd hj (Nat.not_lt_zero j)), ?_, hR _ _ _ ids hK⟩, hsz, hdf⟩
  · intro t
    have key : ∀ G : List Nat, Rep m (keepP ids φ) (envOf (keepEnv (posOf ids) env G) t) (a.tmps.getD t undef) := by
      intro G
      induction G with
      | nil => exact .junk _
      | cons u G ih =>
        simp only [keepEnv, envOf]
        by_cases e : t = u
        · subst e; simp only [if_true]; exact (henv t).ren (keepP_ren ids φ)
        · simp only [e, if_false]; exact ih
    exact key G
  · intro id hne
    simp only [takeSt_len]
    unfold keepP at hne
    cases hx : ids[id]? with
    | none => rw [hx] at hne; exact absurd rfl hne
    | some i => exact (List.getElem?_eq_some_iff.1 hx).1
theorem GR.envTo {ok : Nat → Prop} {R : World → Mem → Pl → Prop} {env env' : Nat → AV} {st : Store} {a : Act} {w : World} (h : GR wi mi nt ok R env st a w) (he : ∀ t, env' t = .junk ∨ env' t = env t) : GR wi mi nt ok R env' st a w := by
  refine h.turn fun m φ h1 h2 h3 h4 h5 => ⟨m, φ, h1, fun t => ?_, h3, h4, h5⟩
  rcases he t with e | e
  · rw [e]; exact .junk _
  · rw [e]; exact h2 t
theorem GR.ok' {ok ok' : Nat → Prop} {R : World → Mem → Pl → Prop} {env : Nat → AV} {st : Store} {a : Act} {w : World} (h : GR wi mi nt ok R env st a w) (he : ∀ id, ok id → ok' id) : GR wi mi nt ok' R env st a w :=
  h.turn fun m φ h1 h2 h3 h4 h5 => ⟨m, φ, h1, h2, h3, fun id hi => he id (h4 id hi), h5⟩
/-- Code whose result is known in part. -/
theorem GR.codeX {C : Ctx} (hS : SoundOk C) {G : List Nat} {c : Code} {S : AS} {a : Act} {w : World} {R : World → Mem → Pl → Prop} (hR : Stab R) {PP : AExit → AS → Prop} (hc : codeOk nt c = true) (hx : ∃ e S', execA C G S.st.length c S = some (e, S') ∧ PP e S') (h : GR wi mi nt (fun id => id < S.st.length) R (envOf S.env) (stOf S.st) a w) (hnr : noRange c = true := by rfl) :
    c.wp C.P (fun e' a' w' => ∃ e S', e' = exitOf e ∧ PP e S' ∧ GR wi mi nt (fun id => id < S'.st.length) R (envOf S'.env) (stOf S'.st) a' w') a w := by
  obtain ⟨e, S', h1, h2⟩ := hx
  refine wp_mono (GR.codeA hS hR hc h1 h hnr) ?_
  rintro e' a' w' ⟨rfl, hg⟩
  exact ⟨e, S', rfl, h2, hg⟩
end
/-! ### A place's cells in the executor -/
theorem litVs_append (a b : List Value) : litVs (a ++ b) = litVs a ++ litVs b := by simp [litVs]
@[simp] theorem litVs_length (a : List Value) : (litVs a).length = a.length := by simp [litVs]
theorem dropE_add {α : Type} : ∀ (a b : List α) (n : Nat), dropE (a.length + n) (a ++ b) = dropE n b
  | [], b, n => by simp
  | x :: a, b, n => by
    rw [List.length_cons, show a.length + 1 + n = (a.length + n) + 1 by omega]
    exact dropE_add a b n
theorem splice_add {α : Type} : ∀ (a b : List α) (n : Nat) (xs : List α), splice (a ++ b) (a.length + n) xs = bnd (splice b n xs) fun l => some (a ++ l)
  | [], b, n, xs => by simp; cases splice b n xs <;> rfl
  | x :: a, b, n, xs => by
    rw [List.length_cons, show a.length + 1 + n = (a.length + n) + 1 by omega]
    show bnd (splice (a ++ b) (a.length + n) xs) _ = _
    rw [splice_add a b n xs]
    cases splice b n xs <;> rfl
theorem cut_boxL (pre post : List Value) (row : List AV) (j n : Nat) : cut (boxL pre row post) (pre.length + j) n = cut (row ++ litVs post) j n := by
  unfold cut boxL
  have := dropE_add (litVs pre) (row ++ litVs post) j
  rw [litVs_length] at this
  rw [this]
theorem splice_boxL (pre post : List Value) (row : List AV) (j : Nat) (xs : List AV) : splice (boxL pre row post) (pre.length + j) xs = bnd (splice (row ++ litVs post) j xs) fun l => some (litVs pre ++ l) := by
  unfold boxL
  have := splice_add (litVs pre) (row ++ litVs post) j xs
  rw [litVs_length] at this
  exact this
theorem idsOf_litVs (a : List Value) : idsOfL (litVs a) = [] := by
  induction a with
  | nil => rfl
  | cons v a ih => simpa [litVs, idsOfL, idsOf] using ih
theorem renL_litVs (r : Nat → Option Nat) (a : List Value) : renL r (litVs a) = litVs a := by
  induction a with
  | nil => rfl
  | cons v a ih => simpa [litVs, renL, ren] using ih
theorem idsOfL_app (a b : List AV) : idsOfL (a ++ b) = idsOfL a ++ idsOfL b := by
  induction a with
  | nil => rfl
  | cons c a ih => simp [idsOfL, ih]
theorem renL_app (r : Nat → Option Nat) (a b : List AV) : renL r (a ++ b) = renL r a ++ renL r b := by
  induction a with
  | nil => rfl
  | cons c a ih => simp [renL, ih]
theorem idsOfL_boxL (pre post : List Value) (row : List AV) : idsOfL (boxL pre row post) = idsOfL row := by
  simp [boxL, idsOfL_app, idsOf_litVs]
theorem renL_boxL (r : Nat → Option Nat) (pre post : List Value) (row : List AV) : renL r (boxL pre row post) = boxL pre (renL r row) post := by
  simp [boxL, renL_app, renL_litVs]
section
variable (pre post : List Value) (a0 a1 a2 a3 a4 x : AV)
theorem cutB2 : cut (boxL pre [a0, a1, a2, a3, a4] post) (pre.length + 2) 1 = some [a2] := by rw [cut_boxL]; rfl
theorem cutB3 : cut (boxL pre [a0, a1, a2, a3, a4] post) (pre.length + 3) 1 = some [a3] := by rw [cut_boxL]; rfl
theorem cutB4 : cut (boxL pre [a0, a1, a2, a3, a4] post) (pre.length + 4) 1 = some [a4] := by rw [cut_boxL]; rfl
theorem splB2 : splice (boxL pre [a0, a1, a2, a3, a4] post) (pre.length + 2) [x] = some (boxL pre [a0, a1, x, a3, a4] post) := by rw [splice_boxL]; rfl
theorem splB3 : splice (boxL pre [a0, a1, a2, a3, a4] post) (pre.length + 3) [x] = some (boxL pre [a0, a1, a2, x, a4] post) := by rw [splice_boxL]; rfl
theorem splB4 : splice (boxL pre [a0, a1, a2, a3, a4] post) (pre.length + 4) [x] = some (boxL pre [a0, a1, a2, a3, x] post) := by rw [splice_boxL]; cases post <;> rfl
theorem tkB2 : takeE 1 (dropE (pre.length + 2) (boxL pre [a0, a1, a2, a3, a4] post)) = some [a2] := cutB2 pre post a0 a1 a2 a3 a4
theorem tkB3 : takeE 1 (dropE (pre.length + 3) (boxL pre [a0, a1, a2, a3, a4] post)) = some [a3] := cutB3 pre post a0 a1 a2 a3 a4
theorem tkB4 : takeE 1 (dropE (pre.length + 4) (boxL pre [a0, a1, a2, a3, a4] post)) = some [a4] := cutB4 pre post a0 a1 a2 a3 a4
end
end Go.Av

/- Which equations the executor is run by. No condition. -/
namespace Go.Av
/-- What follows, not looked into before it is reached. -/
noncomputable def thenA (C : Ctx) (G : List Nat) (na : Nat) (b : Code) (S : AS) : XR := execA C G na b S
@[simp] theorem execA_seqT {C : Ctx} {G : List Nat} {na : Nat} (a b : Code) (S : AS) : execA C G na (.seq a b) S = seqK (execA C G na a S) (thenA C G na b) := execA_seq a b
@[simp] theorem thenA_ap {C : Ctx} {G : List Nat} {na : Nat} (b : Code) (e : List (Nat × AV)) (st : StL) : thenA C G na b ⟨e, st⟩ = execA C G na b ⟨e, st⟩ := (rfl)
def contA (C : Ctx) (call : CallF) (all : List Oper) (draw : Bool) (base : Nat) (os : List Oper) (i : Nat) (env : Nat → AV) (dst : Option Tmp) (log : List (Nat × List Nat × Bool)) (p : AV × Store) : Option RS := runOps C call all draw base os i ⟨putA env dst p.1, p.2, log⟩
@[simp] theorem contA_ap {C : Ctx} {call : CallF} (all : List Oper) (draw : Bool) (base : Nat) (os : List Oper) (i : Nat) (env : Nat → AV) (dst : Option Tmp) (log : List (Nat × List Nat × Bool)) (v : AV) (st : Store) : contA C call all draw base os i env dst log (v, st) = runOps C call all draw base os i ⟨putA env dst v, st, log⟩ := (rfl)
attribute [simp] execA_range execA_region execA_cond execA_block execA_skip execA_ret execA_exit upd_apply
@[simp] theorem widths_nil (k : Nat) : widths k [] = true := (rfl)
@[simp] theorem widths_cons (k : Nat) (e : List IV) (es : List (List IV)) : widths k (e :: es) = (e.length == k && widths k es) := (rfl)
@[simp] theorem litCell_nils : litCell (.slice none 0 0) = .nils := (rfl)
@[simp] theorem litAV_nils : litAV (.slice none 0 0) = .nils := (rfl)
@[simp] theorem litCell_bool (b : Bool) : litCell (.bool b) = .i (.lit (.bool b)) := (rfl)
@[simp] theorem litAV_bool (b : Bool) : litAV (.bool b) = .i (.lit (.bool b)) := (rfl)
@[simp] theorem cellsOf_bool (b : Bool) : cellsOf (.i (.lit (.bool b))) = some [.i (.lit (.bool b))] := (rfl)
@[simp] theorem litCell_int (k : IntKind) (n : Int) : litCell (.int k n) = .i (.lit (.int k n)) := (rfl)
@[simp] theorem litAV_int (k : IntKind) (n : Int) : litAV (.int k n) = .i (.lit (.int k n)) := (rfl)
@[simp] theorem cellsOf_int (k : IntKind) (n : Int) : cellsOf (.i (.lit (.int k n))) = some [.i (.lit (.int k n))] := (rfl)
@[simp] theorem litCell_string (s : ByteArray) : litCell (.string s) = .i (.lit (.string s)) := (rfl)
@[simp] theorem litAV_string (s : ByteArray) : litAV (.string s) = .i (.lit (.string s)) := (rfl)
@[simp] theorem cellsOf_string (s : ByteArray) : cellsOf (.i (.lit (.string s))) = some [.i (.lit (.string s))] := (rfl)
@[simp] theorem litCell_pointer (a : Option Addr) : litCell (.pointer a) = .i (.lit (.pointer a)) := (rfl)
@[simp] theorem litAV_pointer (a : Option Addr) : litAV (.pointer a) = .i (.lit (.pointer a)) := (rfl)
@[simp] theorem cellsOf_pointer (a : Option Addr) : cellsOf (.i (.lit (.pointer a))) = some [.i (.lit (.pointer a))] := (rfl)
@[simp] theorem litCell_map (r : Option Nat) : litCell (.map r) = .i (.lit (.map r)) := (rfl)
@[simp] theorem litAV_map (r : Option Nat) : litAV (.map r) = .i (.lit (.map r)) := (rfl)
@[simp] theorem cellsOf_map (r : Option Nat) : cellsOf (.i (.lit (.map r))) = some [.i (.lit (.map r))] := (rfl)
@[simp] theorem litCell_nilFunc  : litCell (.nilFunc) = .i (.lit (.nilFunc)) := (rfl)
@[simp] theorem litAV_nilFunc  : litAV (.nilFunc) = .i (.lit (.nilFunc)) := (rfl)
@[simp] theorem cellsOf_nilFunc  : cellsOf (.i (.lit (.nilFunc))) = some [.i (.lit (.nilFunc))] := (rfl)
@[simp] theorem litCell_nilIface  : litCell (.nilIface) = .i (.lit (.nilIface)) := (rfl)
@[simp] theorem litAV_nilIface  : litAV (.nilIface) = .i (.lit (.nilIface)) := (rfl)
@[simp] theorem cellsOf_nilIface  : cellsOf (.i (.lit (.nilIface))) = some [.i (.lit (.nilIface))] := (rfl)
@[simp] theorem litCell_tuple (a : Array Value) : litCell (.tuple a) = .i (.lit (.tuple a)) := (rfl)
@[simp] theorem litAV_tuple (a : Array Value) : litAV (.tuple a) = .i (.lit (.tuple a)) := (rfl)
@[simp] theorem litAV_agg (cs : Array Value) : litAV (.agg cs) = mkAgg (litCells cs.toList) := (rfl)
attribute [simp] litCells.eq_1 litCells.eq_2 cellsOf.eq_3 cellsOf.eq_4
@[simp] theorem cellsOf_nils  : cellsOf .nils = some [.nils] := (rfl)
@[simp] theorem cellsOf_own (i o : Nat) : cellsOf (.own i o) = some [(.own i o)] := (rfl)
@[simp] theorem cellsOf_ownE (i k j o : Nat) : cellsOf (.ownE i k j o) = some [(.ownE i k j o)] := (rfl)
@[simp] theorem cellsOf_osl (i k o l : Nat) : cellsOf (.osl i k o l) = some [(.osl i k o l)] := (rfl)
@[simp] theorem cellsOf_fn (f : Fn) (cs : List AV) : cellsOf (.fn f cs) = some [(.fn f cs)] := (rfl)
@[simp] theorem cellsOf_slice (a : Option Addr) (l c : Nat) : cellsOf (.i (.lit (.slice a l c))) = some [(.i (.lit (.slice a l c)))] := (rfl)
@[simp] theorem cellsOf_isl (es : List (List IV)) : cellsOf (.i (.isl es)) = some [(.i (.isl es))] := (rfl)
@[simp] theorem cellsOf_iref (cs : List IV) : cellsOf (.i (.iref cs)) = some [(.i (.iref cs))] := (rfl)
@[simp] theorem consI_nils  (x : Option (List IV)) : consI .nils x = none := by cases x <;> rfl
@[simp] theorem frzV_nils (st : Store)  : frzV st .nils = bnd (frz st fuelF .nils) fun p => some (p.1, frzIds st p.2) := (rfl)
@[simp] theorem argVal_nils (st : Store)  : argVal st .nils = bnd (frzV st .nils) fun p => some (.i p.1, p.2) := (rfl)
@[simp] theorem consI_own (i o : Nat) (x : Option (List IV)) : consI (.own i o) x = none := by cases x <;> rfl
@[simp] theorem frzV_own (st : Store) (i o : Nat) : frzV st (.own i o) = bnd (frz st fuelF (.own i o)) fun p => some (p.1, frzIds st p.2) := (rfl)
@[simp] theorem argVal_own (st : Store) (i o : Nat) : argVal st (.own i o) = bnd (frzV st (.own i o)) fun p => some (.i p.1, p.2) := (rfl)
@[simp] theorem consI_ownE (i k j o : Nat) (x : Option (List IV)) : consI (.ownE i k j o) x = none := by cases x <;> rfl
@[simp] theorem consI_osl (i k o l : Nat) (x : Option (List IV)) : consI (.osl i k o l) x = none := by cases x <;> rfl
@[simp] theorem frzV_osl (st : Store) (i k o l : Nat) : frzV st (.osl i k o l) = bnd (frz st fuelF (.osl i k o l)) fun p => some (p.1, frzIds st p.2) := (rfl)
@[simp] theorem argVal_osl (st : Store) (i k o l : Nat) : argVal st (.osl i k o l) = bnd (frzV st (.osl i k o l)) fun p => some (.i p.1, p.2) := (rfl)
@[simp] theorem consI_fn (f : Fn) (cs : List AV) (x : Option (List IV)) : consI (.fn f cs) x = none := by cases x <;> rfl
@[simp] theorem consI_agg (cs : List AV) (x : Option (List IV)) : consI (.agg cs) x = none := by cases x <;> rfl
@[simp] theorem frzV_agg (st : Store) (cs : List AV) : frzV st (.agg cs) = bnd (frz st fuelF (.agg cs)) fun p => some (p.1, frzIds st p.2) := (rfl)
@[simp] theorem argVal_agg (st : Store) (cs : List AV) : argVal st (.agg cs) = bnd (frzV st (.agg cs)) fun p => some (.i p.1, p.2) := (rfl)
@[simp] theorem consI_tup (cs : List AV) (x : Option (List IV)) : consI (.tup cs) x = none := by cases x <;> rfl
@[simp] theorem consI_junk  (x : Option (List IV)) : consI .junk x = none := by cases x <;> rfl
@[simp] theorem consI_i (v : IV) (l : List IV) : consI (.i v) (some l) = some (v :: l) := (rfl)
@[simp] theorem consI_in (v : IV) : consI (.i v) none = none := (rfl)
@[simp] theorem frzV_i (st : Store) (v : IV) : frzV st (.i v) = some (v, st) := (rfl)
@[simp] theorem argVal_i (st : Store) (v : IV) : argVal st (.i v) = some (.i v, st) := (rfl)
@[simp] theorem argVal_fn (st : Store) (f : Fn) (cs : List AV) : argVal st (.fn f cs) = some (.fn f cs, st) := (rfl)
@[simp] theorem aggD_strct : aggD (some .strct) = some true := (rfl)
@[simp] theorem aggD_slice (e : TypeId) : aggD (some (.slice e)) = some false := (rfl)
@[simp] theorem aggD_int (k : IntKind) : aggD (some (.int k)) = some false := (rfl)
@[simp] theorem aggD_string : aggD (some .string) = some false := (rfl)
@[simp] theorem aggD_bool : aggD (some .bool) = some false := (rfl)
@[simp] theorem aggD_other : aggD (some .other) = some false := (rfl)
@[simp] theorem aggD_array (n : Nat) (e : TypeId) : aggD (some (.array n e)) = some true := (rfl)
@[simp] theorem isShift_add : isShift .add = false := (rfl)
@[simp] theorem isShift_sub : isShift .sub = false := (rfl)
@[simp] theorem isShift_mul : isShift .mul = false := (rfl)
@[simp] theorem isShift_quo : isShift .quo = false := (rfl)
@[simp] theorem isShift_rem : isShift .rem = false := (rfl)
@[simp] theorem isShift_and : isShift .and = false := (rfl)
@[simp] theorem isShift_or : isShift .or = false := (rfl)
@[simp] theorem isShift_xor : isShift .xor = false := (rfl)
@[simp] theorem isShift_andNot : isShift .andNot = false := (rfl)
@[simp] theorem isShift_eql : isShift .eql = false := (rfl)
@[simp] theorem isShift_neq : isShift .neq = false := (rfl)
@[simp] theorem isShift_lss : isShift .lss = false := (rfl)
@[simp] theorem isShift_leq : isShift .leq = false := (rfl)
@[simp] theorem isShift_gtr : isShift .gtr = false := (rfl)
@[simp] theorem isShift_geq : isShift .geq = false := (rfl)
@[simp] theorem isShift_shl : isShift .shl = true := (rfl)
@[simp] theorem isShift_shr : isShift .shr = true := (rfl)
@[simp] theorem retVal_0 : retVal [] = .tup [] := (rfl)
@[simp] theorem retVal_1 (v : AV) : retVal [v] = v := (rfl)
@[simp] theorem retVal_2 (a b : AV) (l : List AV) : retVal (a :: b :: l) = .tup (a :: b :: l) := (rfl)
attribute [simp] minmaxA.eq_1 minmaxA.eq_2 nthE.eq_1 nthE.eq_2 nthE.eq_3
section
variable (C : Ctx) (call : CallF) (env : Nat → AV) (st : Store) (nb : Nat)
@[simp] theorem stepOp_move (x : Operand) : stepOp C call (.move x) env st nb = some (ev env x, st) := (rfl)
@[simp] theorem stepOp_assign (x : Operand) : stepOp C call (.assign x) env st nb = some (ev env x, st) := (rfl)
@[simp] theorem stepOp_pick (c a b : Operand) : stepOp C call (.pick c a b) env st nb = bnd (pickA (ev env a) (ev env b) (ev env c)) fun v => some (v, st) := (rfl)
@[simp] theorem stepOp_alloc (t : TypeId) : stepOp C call (.alloc t) env st nb = bnd (zeroOf C.P t) fun z => some (.own nb 0, upd st nb (some (.box (litCells z)))) := (rfl)
@[simp] theorem stepOp_box (t : TypeId) (x : Operand) : stepOp C call (.box t x) env st nb = bnd (cellsOf (ev env x)) fun cs => some (.own nb 0, upd st nb (some (.box cs))) := (rfl)
@[simp] theorem stepOp_build (t : TypeId) (ps : Array (Nat × Operand)) : stepOp C call (.build t ps) env st nb = bnd (aggD (descK C.P t)) fun g => tst g (bnd (zeroOf C.P t) fun z => bnd (partsOf env ps.toList) fun ps => bnd (fillA (placeS C.P t) (litCells z) ps) fun cs => some (mkAgg cs, st)) := (rfl)
@[simp] theorem stepOp_buildSlice (t : TypeId) (n : Nat) (ps : Array (Nat × Operand)) : stepOp C call (.buildSlice t n ps) env st nb = bnd (elemD (descK C.P t)) fun e => bnd (partsOf env ps.toList) fun ps => sliceLit C e n st nb ps := (rfl)
@[simp] theorem stepOp_load (t : TypeId) (a : Operand) : stepOp C call (.load t a) env st nb = bnd (loadA C t (ev env a) st) fun v => some (v, st) := (rfl)
@[simp] theorem stepOp_store (t : TypeId) (a x : Operand) : stepOp C call (.store t a x) env st nb = bnd (storeA C t (ev env a) (ev env x) st) fun st1 => some (.i (.lit undef), st1) := (rfl)
@[simp] theorem stepOp_nilCheck (x : Operand) : stepOp C call (.nilCheck x) env st nb = bnd (nilA (ev env x)) fun v => some (v, st) := (rfl)
@[simp] theorem stepOp_binOp (op : BinOp) (t : TypeId) (x y : Operand) (u : TypeId) : stepOp C call (.binOp op t x y u) env st nb = bnd (binA C op t (ev env x) (ev env y)) fun v => some (.i v, st) := (rfl)
@[simp] theorem stepOp_unOp (op : UnOp) (t : TypeId) (x : Operand) : stepOp C call (.unOp op t x) env st nb = bnd (unA op (ev env x)) fun v => some (.i v, st) := (rfl)
@[simp] theorem stepOp_convert (s d : TypeId) (x : Operand) : stepOp C call (.convert s d x) env st nb = bnd (convA (descK C.P s) (descK C.P d) (ev env x)) fun v => some (v, st) := (rfl)
@[simp] theorem stepOp_makeSlice (t : TypeId) (l c : Operand) : stepOp C call (.makeSlice t l c) env st nb = makeA C t st nb (ev env l) (ev env c) := (rfl)
@[simp] theorem stepOp_slice (t : TypeId) (x : Operand) (lo hi : Option Operand) : stepOp C call (.slice t x lo hi none) env st nb = bnd (sliceA C t (evO env lo) (evO env hi) (ev env x)) fun v => some (v, st) := (rfl)
@[simp] theorem stepOp_fieldAddr (s : TypeId) (x : Operand) (f : Nat) : stepOp C call (.fieldAddr s x f) env st nb = bnd (fieldT C.P s f) fun p => bnd (szOf C.P p.1) fun n => tst (decide (0 < n)) (bnd (fieldAddrA p.2 (ev env x)) fun v => some (v, st)) := (rfl)
@[simp] theorem stepOp_field (s : TypeId) (x : Operand) (f : Nat) : stepOp C call (.field s x f) env st nb = bnd (fieldT C.P s f) fun p => bnd (szOf C.P p.1) fun n => bnd (aggD (descK C.P p.1)) fun g => bnd (fieldA p.2 n g (ev env x)) fun v => some (v, st) := (rfl)
@[simp] theorem stepOp_indexAddr (t : TypeId) (x i : Operand) : stepOp C call (.indexAddr t x i) env st nb = bnd (indexAddrA C (ev env x) (ev env i) (descK C.P t)) fun v => some (v, st) := (rfl)
@[simp] theorem stepOp_index (t : TypeId) (x i : Operand) : stepOp C call (.index t x i) env st nb = bnd (indexA C (ev env i) (descK C.P t) (ev env x)) fun v => some (v, st) := (rfl)
@[simp] theorem stepOp_extract (x : Operand) (j : Nat) : stepOp C call (.extract x j) env st nb = bnd (extractA j (ev env x)) fun v => some (v, st) := (rfl)
@[simp] theorem stepOp_makeFunc (f : Fn) (fs cs : Array Operand) : stepOp C call (.makeFunc f fs cs) env st nb = tst fs.toList.isEmpty (bnd (mkFnA (evL env cs.toList) f) fun v => some (v, st)) := (rfl)
@[simp] theorem mkFnA_func (cs : List AV) (g : FuncId) : mkFnA cs (.func g) = some (.fn (.func g) cs) := (rfl)
@[simp] theorem stepOp_builtin (b : Builtin) (as1 : Array Operand) (ts : Array TypeId) : stepOp C call (.call ⟨.builtin b, as1, ts⟩) env st nb = builtinA C st nb b ts.toList (evL env as1.toList) := (rfl)
@[simp] theorem stepOp_callV (f : Operand) (as1 : Array Operand) (ts : Array TypeId) : stepOp C call (.call ⟨.value f, as1, ts⟩) env st nb = stepC C call (evL env as1.toList) st nb (ev env f) := (rfl)
@[simp] theorem touchI_move (x : Operand) : touchI env (.move x) = ([], true) := (rfl)
@[simp] theorem touchI_assign (x : Operand) : touchI env (.assign x) = ([], true) := (rfl)
@[simp] theorem touchI_pick (c a b : Operand) : touchI env (.pick c a b) = ([], true) := (rfl)
@[simp] theorem touchI_alloc (t : TypeId) : touchI env (.alloc t) = ([], true) := (rfl)
@[simp] theorem touchI_box (t : TypeId) (x : Operand) : touchI env (.box t x) = ([], true) := (rfl)
@[simp] theorem touchI_build (t : TypeId) (ps : Array (Nat × Operand)) : touchI env (.build t ps) = ([], true) := (rfl)
@[simp] theorem touchI_nilCheck (x : Operand) : touchI env (.nilCheck x) = ([], true) := (rfl)
@[simp] theorem touchI_binOp (op : BinOp) (t : TypeId) (x y : Operand) (u : TypeId) : touchI env (.binOp op t x y u) = ([], true) := (rfl)
@[simp] theorem touchI_unOp (op : UnOp) (t : TypeId) (x : Operand) : touchI env (.unOp op t x) = ([], true) := (rfl)
@[simp] theorem touchI_convert (s d : TypeId) (x : Operand) : touchI env (.convert s d x) = ([], true) := (rfl)
@[simp] theorem touchI_makeSlice (t : TypeId) (l c : Operand) : touchI env (.makeSlice t l c) = ([], true) := (rfl)
@[simp] theorem touchI_slice (t : TypeId) (x : Operand) (lo hi : Option Operand) : touchI env (.slice t x lo hi none) = ([], true) := (rfl)
@[simp] theorem touchI_fieldAddr (s : TypeId) (x : Operand) (f : Nat) : touchI env (.fieldAddr s x f) = ([], true) := (rfl)
@[simp] theorem touchI_field (s : TypeId) (x : Operand) (f : Nat) : touchI env (.field s x f) = ([], true) := (rfl)
@[simp] theorem touchI_indexAddr (t : TypeId) (x i : Operand) : touchI env (.indexAddr t x i) = ([], true) := (rfl)
@[simp] theorem touchI_index (t : TypeId) (x i : Operand) : touchI env (.index t x i) = ([], true) := (rfl)
@[simp] theorem touchI_extract (x : Operand) (j : Nat) : touchI env (.extract x j) = ([], true) := (rfl)
@[simp] theorem touchI_makeFunc (f : Fn) (fs cs : Array Operand) : touchI env (.makeFunc f fs cs) = ([], true) := (rfl)
attribute [simp] touchI.eq_1 touchI.eq_2 touchI.eq_3 touchI.eq_4 touchI.eq_5 touchI.eq_6
@[simp] theorem touchI_len (as1 : Array Operand) (ts : Array TypeId) : touchI env (.call ⟨.builtin .len, as1, ts⟩) = ([], true) := (rfl)
@[simp] theorem touchI_min (as1 : Array Operand) (ts : Array TypeId) : touchI env (.call ⟨.builtin .min, as1, ts⟩) = ([], true) := (rfl)
@[simp] theorem touchI_max (as1 : Array Operand) (ts : Array TypeId) : touchI env (.call ⟨.builtin .max, as1, ts⟩) = ([], true) := (rfl)
@[simp] theorem stepC_fn (args : List AV) (g : FuncId) (cs : List AV) : stepC C call args st nb (.fn (.func g) cs) = if g = 1000000007 then none else callGo call (C.ownArgs g) g (args ++ cs) st nb := (rfl)
@[simp] theorem stepC_yld (args : List AV) (id : Nat) : stepC C call args st nb (.fn (.yield 0) [.own id 0]) = callGo call true yldF (.fn (.yield 0) [.own id 0] :: args) st nb := (rfl)
variable (all : List Oper) (base i : Nat) (log : List (Nat × List Nat × Bool)) (dst : Option Tmp) (op : Op) (ty : TypeId) (pos : String) (after : Array Edge) (os : List Oper)
@[simp] theorem putA_some (t : Tmp) (v : AV) : putA env (some t) v = upd env t v := (rfl)
@[simp] theorem putA_none (v : AV) : putA env none v = env := (rfl)
@[simp] theorem runOps_nil (draw : Bool) (R : RS) : runOps C call all draw base [] i R = some R := (rfl)
@[simp] theorem runOps_f0 : runOps C call all false base (⟨dst, op, ty, pos, after, none⟩ :: os) i ⟨env, st, log⟩ =
    bnd (stepOp C call op env st (base + 8 * i)) (contA C call all false base os (i + 1) env dst []) := (rfl)
@[simp] theorem runOps_f1 (g : Nat × Bool) : runOps C call all false base (⟨dst, op, ty, pos, after, some g⟩ :: os) i ⟨env, st, log⟩ =
    bnd (wantD env g.2 ((all[g.1]?).bind (·.dst))) fun b => if b = true then bnd (stepOp C call op env st (base + 8 * i)) (contA C call all false base os (i + 1) env dst [])
      else runOps C call all false base os (i + 1) ⟨putA env dst (.i (.lit undef)), st, log⟩ := (rfl)
@[simp] theorem runOps_t0 : runOps C call all true base (⟨dst, op, ty, pos, after, none⟩ :: os) i ⟨env, st, log⟩ =
    tst (chkT base all ⟨dst, op, ty, pos, after, none⟩ st (touchI env op).1 (touchA st (touchI env op)).1 (touchI env op).2 log)
      (bnd (stepOp C call op env st (base + 8 * i)) (contA C call all true base os (i + 1) env dst (addLog i (touchI env op).2 log (touchA st (touchI env op)).1))) := (rfl)
@[simp] theorem runOps_t1 (g : Nat × Bool) : runOps C call all true base (⟨dst, op, ty, pos, after, some g⟩ :: os) i ⟨env, st, log⟩ =
    bnd (wantD env g.2 ((all[g.1]?).bind (·.dst))) fun b => if b = true then
      tst (chkT base all ⟨dst, op, ty, pos, after, some g⟩ st (touchI env op).1 (touchA st (touchI env op)).1 (touchI env op).2 log)
        (bnd (stepOp C call op env st (base + 8 * i)) (contA C call all true base os (i + 1) env dst (addLog i (touchI env op).2 log (touchA st (touchI env op)).1)))
      else runOps C call all true base os (i + 1) ⟨putA env dst (.i (.lit undef)), st, log⟩ := (rfl)
end
attribute [simp] envOf.eq_1 envOf.eq_2
attribute [simp] stOf.eq_1 stOf.eq_2 stOf.eq_3
attribute [simp] allI.eq_1 allI.eq_2
attribute [simp] aggOf.eq_1 aggOf.eq_2
attribute [simp] mkAgg.eq_1
attribute [simp] impI.eq_1 impI.eq_2
attribute [simp] ofCells.eq_1 ofCells.eq_2
attribute [simp] ofCellsI.eq_1 ofCellsI.eq_2
attribute [simp] dropE.eq_1 dropE.eq_2 dropE.eq_3
attribute [simp] takeE.eq_1 takeE.eq_2 takeE.eq_3
attribute [simp] cut.eq_1
attribute [simp] splice.eq_1 splice.eq_2 splice.eq_3 splice.eq_4 splice.eq_5
attribute [simp] elemD.eq_1
attribute [simp] frzSl.eq_1 frzSl.eq_2
attribute [simp] frz.eq_1 frz.eq_2 frz.eq_3 frz.eq_4 frz.eq_5 frz.eq_6
attribute [simp] frzP.eq_1 frzP.eq_2 frzP.eq_3
attribute [simp] frzL.eq_1 frzL.eq_2 frzL.eq_3
attribute [simp] fuelF.eq_1
attribute [simp] frzIds.eq_1 frzIds.eq_2
attribute [simp] frzVs.eq_1 frzVs.eq_2
attribute [simp] idsOf.eq_1 idsOf.eq_2 idsOf.eq_3 idsOf.eq_4 idsOf.eq_5 idsOf.eq_6 idsOf.eq_7 idsOf.eq_8 idsOf.eq_9
attribute [simp] idsOfL.eq_1 idsOfL.eq_2
attribute [simp] idsOfB.eq_1 idsOfB.eq_2 idsOfB.eq_3 idsOfB.eq_4 idsOfB.eq_5 idsOfB.eq_6 idsOfB.eq_7
attribute [simp] ren.eq_1 ren.eq_2 ren.eq_3 ren.eq_4 ren.eq_5 ren.eq_6 ren.eq_7 ren.eq_8 ren.eq_9
attribute [simp] renL.eq_1 renL.eq_2
attribute [simp] renB.eq_1 renB.eq_2 renB.eq_3 renB.eq_4 renB.eq_5 renB.eq_6 renB.eq_7
attribute [simp] posFrom.eq_1 posFrom.eq_2
attribute [simp] posOf.eq_1
attribute [simp] hasId.eq_1 hasId.eq_2
attribute [simp] reach.eq_1 reach.eq_2 reach.eq_3
attribute [simp] fuelR.eq_1
attribute [simp] idsOfBs.eq_1 idsOfBs.eq_2
attribute [simp] upto.eq_1 upto.eq_2
attribute [simp] keepIds.eq_1
attribute [simp] takeSt.eq_1 takeSt.eq_2
attribute [simp] ev.eq_1 ev.eq_2 ev.eq_3 ev.eq_4
attribute [simp] evL.eq_1 evL.eq_2
attribute [simp] evO.eq_1 evO.eq_2
attribute [simp] binI.eq_1 binI.eq_2 binI.eq_3 binI.eq_4 binI.eq_5 binI.eq_6 binI.eq_7 binI.eq_8 binI.eq_9 binI.eq_10 binI.eq_11 binI.eq_12 binI.eq_13 binI.eq_14 binI.eq_15
attribute [simp] shI.eq_1 shI.eq_2
attribute [simp] binS.eq_1 binS.eq_2 binS.eq_3 binS.eq_4 binS.eq_5 binS.eq_6 binS.eq_7
attribute [simp] binB.eq_1 binB.eq_2
attribute [simp] binV.eq_1 binV.eq_2
attribute [simp] binIK.eq_1 binIK.eq_2
attribute [simp] binA.eq_1 binA.eq_2 binA.eq_3 binA.eq_4
attribute [simp] unA.eq_1 unA.eq_2
attribute [simp] idxBelow.eq_1
attribute [simp] idxUpto.eq_1 idxUpto.eq_2
attribute [simp] elemsSl.eq_1 elemsSl.eq_2
attribute [simp] elemsOf.eq_1 elemsOf.eq_2 elemsOf.eq_3 elemsOf.eq_4
attribute [simp] appNil.eq_1 appNil.eq_2
attribute [simp] appOsl.eq_1
attribute [simp] appTo.eq_1 appTo.eq_2
attribute [simp] appA.eq_1
attribute [simp] copyOsl.eq_1
attribute [simp] copyTo.eq_1 copyTo.eq_2
attribute [simp] copyA.eq_1
attribute [simp] lenA.eq_1 lenA.eq_2 lenA.eq_3 lenA.eq_4 lenA.eq_5
attribute [simp] sliceA.eq_1 sliceA.eq_2 sliceA.eq_3 sliceA.eq_4
attribute [simp] fillA.eq_1 fillA.eq_2
attribute [simp] partsOf.eq_1 partsOf.eq_2
attribute [simp] placeD.eq_1 placeD.eq_2
attribute [simp] placeS.eq_1
attribute [simp] setElem.eq_1 setElem.eq_2 setElem.eq_3
attribute [simp] setElems.eq_1 setElems.eq_2
attribute [simp] frzParts.eq_1 frzParts.eq_2
attribute [simp] consZ.eq_1 consZ.eq_2
attribute [simp] zeroI.eq_1 zeroI.eq_2
attribute [simp] repl.eq_1 repl.eq_2
attribute [simp] loadB.eq_1 loadB.eq_2
attribute [simp] loadE.eq_1 loadE.eq_2
attribute [simp] loadAt.eq_1 loadAt.eq_2 loadAt.eq_3
attribute [simp] loadA.eq_1
attribute [simp] storeB.eq_1
attribute [simp] storeE.eq_1
attribute [simp] storeAt.eq_1 storeAt.eq_2
attribute [simp] storeA.eq_1
attribute [simp] argsVal.eq_1 argsVal.eq_2
attribute [simp] argsFor.eq_1 argsFor.eq_2
attribute [simp] putBack.eq_1 putBack.eq_2 putBack.eq_3
attribute [simp] backOf.eq_1 backOf.eq_2 backOf.eq_3
attribute [simp] callBack.eq_1
attribute [simp] callWith.eq_1
attribute [simp] callGo.eq_1
attribute [simp] notInt.eq_1 notInt.eq_2
attribute [simp] builtinA.eq_1 builtinA.eq_2 builtinA.eq_3 builtinA.eq_4 builtinA.eq_5
attribute [simp] convA.eq_1 convA.eq_2
attribute [simp] pickA.eq_1
attribute [simp] nilA.eq_1 nilA.eq_2 nilA.eq_3 nilA.eq_4 nilA.eq_5
attribute [simp] makeA.eq_1
attribute [simp] fieldAddrA.eq_1 fieldAddrA.eq_2 fieldAddrA.eq_3 fieldAddrA.eq_4
attribute [simp] fieldA.eq_1 fieldA.eq_2
attribute [simp] indexSl.eq_1 indexSl.eq_2 indexSl.eq_3
attribute [simp] indexAr.eq_1
attribute [simp] indexAddrA.eq_1 indexAddrA.eq_2
attribute [simp] indexA.eq_1 indexA.eq_2
attribute [simp] extractA.eq_1
attribute [simp] sliceLit.eq_1
attribute [simp] yieldA.eq_1 yieldA.eq_2
attribute [simp] wantD.eq_1 wantD.eq_2
attribute [simp] wantA.eq_1 wantA.eq_2
attribute [simp] partOps.eq_1 partOps.eq_2
attribute [simp] touchA.eq_1
attribute [simp] allIn.eq_1 allIn.eq_2
attribute [simp] oldOk.eq_1 oldOk.eq_2
attribute [simp] chkT.eq_1
attribute [simp] liveO.eq_1 liveO.eq_2
attribute [simp] liveAll.eq_1 liveAll.eq_2
attribute [simp] isStrD.eq_1
attribute [simp] bytesI.eq_1 bytesI.eq_2
attribute [simp] waitsA.eq_1
attribute [simp] noneOf.eq_1 noneOf.eq_2
attribute [simp] logOk.eq_1 logOk.eq_2
attribute [simp] addLog.eq_1 addLog.eq_2
attribute [simp] keepEnv.eq_1 keepEnv.eq_2
attribute [simp] envAt.eq_1 envAt.eq_2
attribute [simp] settleW.eq_1
attribute [simp] settle.eq_1
attribute [simp] asgK.eq_1 rangeOut.eq_1 rangeOut.eq_2 rangeEnd.eq_1 rangeEnd.eq_2 rangeW.eq_1 rangeGo.eq_1 bodyW.eq_1 stopA.eq_1 goesOn.eq_1 roundF.eq_1 roundE.eq_1 roundE.eq_2 roundB.eq_1 roundW.eq_1 envZ.eq_1 bindE.eq_1 setSt.eq_1 setSt.eq_2 setSt.eq_3
@[simp] theorem stopA_exit (k : Nat) : stopA (.exit k) = .over (.exit k) := (rfl)
@[simp] theorem goesOn_exit (k : Nat) : goesOn (.exit k) = false := (rfl)
@[simp] theorem goesOn_ret : goesOn .ret = false := (rfl)
@[simp] theorem stopA_ret : stopA .ret = .over .ret := (rfl)
@[simp] theorem envZ_nil (vs : List AV) : envZ [] vs = [] := (rfl)
@[simp] theorem bindE_nil (vs : List AV) (E : List (Nat × AV)) : bindE [] vs E = E := (rfl)
attribute [simp] seqK.eq_1 seqK.eq_2 seqK.eq_3 seqK.eq_4
attribute [simp] blockK.eq_1 blockK.eq_2 blockK.eq_3 blockK.eq_4
attribute [simp] condK.eq_1
attribute [simp] doneK.eq_1 doneK.eq_2
attribute [simp] retOne.eq_1 retOne.eq_2
attribute [simp] retAll.eq_1 retAll.eq_2
attribute [simp] frzRes.eq_1 frzRes.eq_2
attribute [simp] resFor.eq_1 resFor.eq_2
attribute [simp] keepVs.eq_1 keepVs.eq_2
attribute [simp] outOf.eq_1
attribute [simp] finish.eq_1
attribute [simp] endK.eq_1 endK.eq_2 endK.eq_3 endK.eq_4
attribute [simp] argAt.eq_1 argAt.eq_2 argAt.eq_3
attribute [simp] enterE.eq_1 enterE.eq_2
attribute [simp] enter.eq_1
attribute [simp] storeAny.eq_1 storeAny.eq_2
attribute [simp] resAny.eq_1 resAny.eq_2
attribute [simp] bareC.eq_1 bareC.eq_2 bareC.eq_3 bareC.eq_4 bareC.eq_5
attribute [simp] bareL.eq_1 bareL.eq_2
attribute [simp] bareLL.eq_1 bareLL.eq_2
attribute [simp] litC.eq_1 litC.eq_2 litC.eq_3 litC.eq_4
attribute [simp] litsL.eq_1 litsL.eq_2
attribute [simp] absE.eq_1 absE.eq_2
attribute [simp] absC.eq_1 absC.eq_2 absC.eq_3
attribute [simp] absL.eq_1 absL.eq_2
attribute [simp] treArr.eq_1
attribute [simp] storeTE.eq_1 storeTE.eq_2
attribute [simp] storeT.eq_1 storeT.eq_2
@[simp] theorem resKeep_one (st : Store) (v : AV) : resKeep st [v] = some ([v], st) := (rfl)
@[simp] theorem resKeep_nil (st : Store) : resKeep st [] = some ([], st) := (rfl)
@[simp] theorem resKeep_two (st : Store) (a b : AV) (r : List AV) : resKeep st (a :: b :: r) = keepVs st (a :: b :: r) := (rfl)
@[simp] theorem keepV_agg (st : Store) (cs : List AV) : keepV st (.agg cs) = bnd (frzV st (.agg cs)) fun p => some (.i p.1, p.2) := (rfl)
@[simp] theorem keepV_nils (st : Store)  : keepV st .nils = some (.nils, st) := (rfl)
@[simp] theorem keepV_own (st : Store) (i o : Nat) : keepV st (.own i o) = some ((.own i o), st) := (rfl)
@[simp] theorem keepV_ownE (st : Store) (i k j o : Nat) : keepV st (.ownE i k j o) = some ((.ownE i k j o), st) := (rfl)
@[simp] theorem keepV_osl (st : Store) (i k o l : Nat) : keepV st (.osl i k o l) = some ((.osl i k o l), st) := (rfl)
@[simp] theorem keepV_fn (st : Store) (f : Fn) (cs : List AV) : keepV st (.fn f cs) = some ((.fn f cs), st) := (rfl)
@[simp] theorem keepV_i (st : Store) (v : IV) : keepV st (.i v) = some ((.i v), st) := (rfl)
@[simp] theorem keepV_tup (st : Store) (cs : List AV) : keepV st (.tup cs) = some ((.tup cs), st) := (rfl)
@[simp] theorem keepV_junk (st : Store)  : keepV st .junk = some (.junk, st) := (rfl)
@[simp] theorem waitsN_3 (all : List Oper) (after : List Edge) (j : Nat) : waitsN all 3 after j = if waitsA after j = true then true else after.any fun e => Region.binds .any e && waitsN all 2 (aftersOf all e.on) j := (rfl)
@[simp] theorem waitsN_2 (all : List Oper) (after : List Edge) (j : Nat) : waitsN all 2 after j = if waitsA after j = true then true else after.any fun e => Region.binds .any e && waitsN all 1 (aftersOf all e.on) j := (rfl)
@[simp] theorem waitsN_1 (all : List Oper) (after : List Edge) (j : Nat) : waitsN all 1 after j = if waitsA after j = true then true else after.any fun e => Region.binds .any e && waitsN all 0 (aftersOf all e.on) j := (rfl)
@[simp] theorem waitsN_0 (all : List Oper) (after : List Edge) (j : Nat) : waitsN all 0 after j = waitsA after j := (rfl)
attribute [simp] aftersOf.eq_1
attribute [simp] undef
attribute [simp] wide
end Go.Av

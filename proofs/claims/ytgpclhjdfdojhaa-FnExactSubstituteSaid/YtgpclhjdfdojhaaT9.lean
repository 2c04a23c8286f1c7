/- Part 9 of what the proof rests on: the executor and what it is worth, and the program's functions as it runs them. No condition. -/
import Derived.Test.YtgpclhjdfdojhaaT8
set_option linter.unusedVariables false
set_option linter.unusedSimpArgs false
/- The context of the exact law of Substitute; what is called in it. No condition. -/
namespace Go.Proofs.Ytgpclhjdfdojhaa
open Go Go.Av
set_option maxRecDepth 4000
set_option maxHeartbeats 2000000
noncomputable def primV : FuncId → Option (List AV → StL → Option (AV × StL))
  | 27 => some markP
  | 26 => none
  | 5 => none
  | 12 => some (give (callA CT) 12)
  | 11 => some (lend (callA CU) 11)
  | g => some (lend (callA CT) g)
noncomputable def CV : Ctx := { P := Try.prog, G := GS, ownArgs := fun _ => true, keepRes := fun _ => false, eqT := eqTy, prim := primV, tree := true }
@[simp] theorem CV_P : CV.P = Try.prog := (rfl)
@[simp] theorem CV_G (f) : CV.G f = GS f := (rfl)
@[simp] theorem CV_o (f) : CV.ownArgs f = true := (rfl)
@[simp] theorem CV_k (f) : CV.keepRes f = false := (rfl)
@[simp] theorem CV_e (f) : CV.eqT f = eqTy f := (rfl)
@[simp] theorem CV_t : CV.tree = true := (rfl)
theorem primV0 : CallOk CV (primCall CV) := by
  have h0 := callA_sound soundT
  have hU := callA_sound soundU
  have key : ∀ g q, CV.prim g = some q → (g = 27 ∧ q = markP) ∨ q = give (callA CT) g ∨ q = lend (callA CT) g ∨ q = lend (callA CU) g := by
    intro g q h
    have h : primV g = some q := h
    unfold primV at h
    split at h <;> first | (cases h; done) | (injection h with h; exact .inl ⟨rfl, h.symm⟩) | (injection h with h; exact .inr (.inl h.symm)) | (injection h with h; exact .inr (.inr (.inl h.symm))) | (injection h with h; exact .inr (.inr (.inr h.symm)))
  constructor
  · intro g args st p h
    unfold primCall at h
    cases hq : CV.prim g with
    | none => rw [hq] at h; cases h
    | some q =>
      rw [hq] at h
      rcases key g q hq with ⟨rfl, rfl⟩ | rfl | rfl | rfl
      · exact ⟨Try.f27, Try.func27, by decide, rfl⟩
      · exact (give_sound h0 (r := p.1) (stl' := p.2) h).1
      · exact (lend_sound h0 (r := p.1) (stl' := p.2) h).1
      · exact (lend_sound hU (r := p.1) (stl' := p.2) h).1
  · intro g args st r st' h w m φ vs hi hr hb
    unfold primCall at h
    cases hq : CV.prim g with
    | none => rw [hq] at h; cases h
    | some q =>
      rw [hq] at h
      rcases key g q hq with ⟨rfl, rfl⟩ | rfl | rfl | rfl
      · exact mark_sound h w m φ vs hi hr hb
      · exact (give_sound h0 h).2 w m φ vs hi hr hb
      · exact (lend_sound h0 h).2 w m φ vs hi hr hb
      · exact (lend_sound hU h).2 w m φ vs hi hr hb
theorem soundV : SoundOk CV := sound_ok (C := CV) ft nt (fun t ht => by
  have h : eqTy t = true := ht
  unfold eqTy at h
  split at h
  · exact e23
  · exact e24
  · exact e42
  · cases h) mo primV0
theorem v_sz {e : Ex} (hf : e.fat) {left : Int} (h0 : 0 ≤ left) (h1 : left < 1000000000) : callA CV 20 [.i (.agg e.cells), .int left] [] = some (.int (leftOf left (Ex.sizeL e.kids)), []) := by
  rw [callA_prim (C := CV) (p := lend (callA CT) 20) rfl]
  simp [sz_eq e hf left h0 h1]
theorem v_toE {e : Ex} (ht : e.thin) : callA CV 22 [.i (.agg e.cells)] [] = some (tX e 0, [some (treB e.kids)]) := by
  rw [callA_prim (C := CV) (p := lend (callA CT) 22) rfl]
  simp [toE_eq e ht, tX]
theorem v_eq0 {x : Ex} (h : x.fat) : callA CV 24 [.i (.agg x.cells), .i (.agg x.cells)] [] = some (.bool true, []) := by
  rw [callA_prim (C := CV) (p := lend (callA CT) 24) rfl]
  simp [eqE_refl x h]
theorem v_eqz : callA CV 24 [zT, .i (.agg Ex.zero.cells)] [] = some (.bool true, []) := by
  rw [callA_prim (C := CV) (p := lend (callA CT) 24) rfl]
  have := eqE_refl Ex.zero (by simp [Ex.zero, Ex.fat, Ex.fatL])
  rw [zero_cells] at this
  simp [zT, zero_cells, this]
theorem v_eq1 {x : Ex} (h : x.fat) : callA CV 24 [tX x 0, .i (.agg x.cells)] [some (treB x.kids)] = some (.bool true, [some (treB x.kids)]) := by
  rw [callA_prim (C := CV) (p := lend (callA CT) 24) rfl]
  have := eqE_refl x h
  rw [Ex.cells_eq] at this ⊢
  simp [tX, this]
theorem v_eq2 {x : Ex} (h : x.fat) : callA CV 24 [tX x 0, tX x 1] [some (treB x.kids), some (treB x.kids)] = some (.bool true, [some (treB x.kids), some (treB x.kids)]) := by
  rw [callA_prim (C := CV) (p := lend (callA CT) 24) rfl]
  have := eqE_refl x h
  rw [Ex.cells_eq] at this
  simp [tX, this]
theorem v_mk1 {x : Ex} {k : Int} (h0 : 0 ≤ k) (h1 : k + 4 * (Ex.sizeL x.kids : Nat) < 1000000000000) : callA CV 26 [tX x 0, .int k] [some (treB x.kids)] = some (.int (k + 4 * (Ex.sizeL x.kids : Nat)), [some (treB (Ex.markL k x.kids))]) := by
  rw [callA_eq rfl Try.func26 rfl rfl]
  have hm : callA CV 27 [.osl 0 5 0 x.kids.length, .int k] [some (treB x.kids)] = some (.int (k + 4 * (Ex.sizeL x.kids : Nat)), [some (treB (Ex.markL k x.kids))]) := by
    rw [callA_prim (C := CV) (p := markP) rfl]; exact markP_eq h0 h1
  simp [tX, hm]
theorem v_mk0 {x : Ex} {k : Int} (hx : x.kids = []) (h0 : 0 ≤ k) (h1 : k < 1000000000000) : callA CV 26 [.i (.agg x.cells), .int k] [] = some (.int k, []) := by
  rw [callA_eq rfl Try.func26 rfl rfl]
  have hm : callA CV 27 [.i (.isl []), .int k] [] = some (.int k, []) := by
    rw [callA_prim (C := CV) (p := markP) rfl]; simp [markP, h0, h1]
  rw [Ex.cells_eq, hx]
  simp [Ex.cellsL, hm]
theorem v_mkz {k : Int} (h0 : 0 ≤ k) (h1 : k < 1000000000000) : callA CV 26 [zT, .int k] [] = some (.int k, []) := by
  rw [callA_eq rfl Try.func26 rfl rfl]
  have hm : callA CV 27 [.nils, .int k] [] = some (.int k, []) := by
    rw [callA_prim (C := CV) (p := markP) rfl]; simp [markP, h0, h1]
  simp [zT, hm]
theorem v_held1 {x : Ex} {k : Int} (h0 : 0 ≤ k) (h1 : k + 4 * (Ex.sizeL x.kids : Nat) < 1000000000000) : callA CV 28 [tX x 0, .int k] [some (treB (Ex.markL k x.kids))] = some (.int (k + 4 * (Ex.sizeL x.kids : Nat)), [some (treB (Ex.markL k x.kids))]) := by
  rw [callA_prim (C := CV) (p := lend (callA CT) 28) rfl]
  obtain ⟨kd, cl, vl, ks⟩ := x
  rw [kids_mk] at h1 ⊢
  have h := heldE_of (e := .mk kd cl vl (Ex.markL k ks)) (k := k) (by omega) (heldS_eq (.mk kd cl vl ks) k h0 h1)
  rw [cells_mk, kids_mk] at h
  simp [tX_mk, h]
theorem v_held0 {x : Ex} {k : Int} (hx : x.kids = []) (h0 : 0 ≤ k) (h1 : k < 1000000000000) : callA CV 28 [.i (.agg x.cells), .int k] [] = some (.int k, []) := by
  rw [callA_prim (C := CV) (p := lend (callA CT) 28) rfl]
  have h2 := heldS_eq x k h0 (by simp [hx, Ex.sizeL]; omega)
  rw [hx] at h2
  simp [Ex.markL, Ex.cellsL, Ex.sizeL] at h2
  have h := heldE_of (e := x) (k := k) h0 (by rw [hx]; simpa [Ex.cellsL] using h2)
  simp [h]
theorem v_heldz {k : Int} (h0 : 0 ≤ k) (h1 : k < 1000000000000) : callA CV 28 [zT, .int k] [] = some (.int k, []) := by
  have h := v_held0 (x := Ex.zero) (k := k) rfl h0 h1
  rw [callA_prim (C := CV) (p := lend (callA CT) 28) rfl] at h ⊢
  rw [zero_cells] at h
  simpa [zT] using h
@[simp] theorem ctp_sS (args : List AV) (st : StL) : callA CT 12 args st = callA C0 12 args st := callA_prim (C := CT) rfl args st
theorem v_szS {l : List Ex} (hl : l.length < 9223372036854775808) (hf : ∀ a ∈ l, a.fat) {left : Int} (h0 : 0 ≤ left) (h1 : left < 1000000000) : callA CV 21 [.i (.isl (Ex.cellsL l)), .int left] [] = some (.int (leftOf left (Ex.sizeL l)), []) := by
  rw [callA_prim (C := CV) (p := lend (callA CT) 21) rfl]
  simp [szS_eq l hl hf left h0 h1]
theorem v_toS {l : List Ex} (hl : l.length < 1000000000) (ht : ∀ a ∈ l, a.thin) : callA CV 23 [.i (.isl (Ex.cellsL l))] [] = some (.osl 0 5 0 l.length, [some (treB l)]) := by
  rw [callA_prim (C := CV) (p := lend (callA CT) 23) rfl]
  simp [toS_eq l hl ht]
theorem ssub_res {e : Ex} {l : List Ex} {w : Int} : callA C0 12 [.i (.agg e.cells), .i (.isl (Ex.cellsL l)), .int w] [] = some (resE (e.subst l w), []) := by
  cases h : e.ok l.length with
  | true => exact ssub_go h
  | false => exact ssub_no h
theorem isubT_eq {e : Ex} {l : List Ex} {w : Int} : callA CU 11 [.i (.agg e.cells), .i (.isl (Ex.cellsL l)), .int w] [] = some (resBT (e.subst l w)) := by
  cases h : e.ok l.length with
  | true => exact isubT_go h
  | false => exact isubT_no h
theorem v_sS {e : Ex} {w : Int} {l : List Ex} : callA CV 12 [tX e 0, .osl 1 5 0 l.length, .int w] [some (treB e.kids), some (treB l)] = some (resE (e.subst l w), [none, none]) := by
  rw [callA_prim (C := CV) (p := give (callA CT) 12) rfl]
  have h := ssub_res (e := e) (l := l) (w := w)
  rw [Ex.cells_eq] at h
  cases ho : e.subst l w with
  | none => rw [ho] at h; simp [tX, h, resE]
  | some x => rw [ho] at h; simp [tX, h, resE]
theorem v_iS {e : Ex} {w : Int} {l : List Ex} : callA CV 11 [tX e 0, .osl 1 5 0 l.length, .int w] [some (treB e.kids), some (treB l)] = some (resBL [some (treB e.kids), some (treB l)] (e.subst l w)) := by
  rw [callA_prim (C := CV) (p := lend (callA CU) 11) rfl]
  have h := isubT_eq (e := e) (l := l) (w := w)
  rw [Ex.cells_eq] at h
  cases ho : e.subst l w with
  | none =>
    rw [ho] at h
    simp [tX, h, resBT, resBL, zT]
  | some x =>
    rw [ho] at h
    by_cases hx : x.kids = []
    · simp only [resBT, hx, if_true] at h
      simp [tX, h, resBL, hx, Ex.cells_eq, Ex.cellsL]
    · simp only [resBT, hx, if_false] at h
      simp [tX, h, resBL, hx]
theorem v_eqS {l : List Ex} (hl : l.length < 9223372036854775808) (hf : ∀ a ∈ l, a.fat) : callA CV 25 [.osl 0 5 0 l.length, .osl 1 5 0 l.length] [some (treB l), some (treB l)] = some (.bool true, [some (treB l), some (treB l)]) := by
  rw [callA_prim (C := CV) (p := lend (callA CT) 25) rfl]
  simp [eqS_refl l hl hf]
theorem v_mkS {l : List Ex} {k : Int} (h0 : 0 ≤ k) (h1 : k + 4 * (Ex.sizeL l : Nat) < 1000000000000) : callA CV 27 [.osl 0 5 0 l.length, .int k] [some (treB l)] = some (.int (k + 4 * (Ex.sizeL l : Nat)), [some (treB (Ex.markL k l))]) := by
  rw [callA_prim (C := CV) (p := markP) rfl]; exact markP_eq h0 h1
end Go.Proofs.Ytgpclhjdfdojhaa

/- The law that Substitute returns what the reference's returns. No condition. -/
namespace Go.Proofs.Ytgpclhjdfdojhaa
open Go Go.Av
set_option maxRecDepth 8000
set_option maxHeartbeats 8000000
theorem subst_some {e x : Ex} {w : Int} {l : List Ex} (h : e.subst l w = some x) : x.size < 10000 := by
  unfold Ex.subst at h
  split at h
  · rename_i hc
    injection h with h
    simp only [Bool.and_eq_true] at hc
    have := Ex.ok_size hc.2.2
    rw [← h]; omega
  · cases h
theorem lawX_subst {e : Ex} {w : Int} {l : List Ex} (hf : e.fat) (hl : l.length < 9223372036854775808) (hfl : ∀ a ∈ l, a.fat) :
    callA CV 5 [.i (.agg e.cells), .i (.isl (Ex.cellsL l)), .int w] [] = some (.bool true, []) := by
  rw [callA_eq rfl Try.func5 rfl rfl]
  have f1 := v_sz hf (left := 1048576) (by omega) (by omega)
  by_cases hs : ((Ex.sizeL e.kids : Nat) : Int) ≤ 1048576
  case neg =>
    simp only [leftOf, if_neg hs] at f1
    rw [Ex.cells_eq] at f1 ⊢
    simp [f1]
  simp only [leftOf, if_pos hs] at f1
  have f2 := v_szS hl hfl (left := 1048576 - (Ex.sizeL e.kids : Nat)) (by omega) (by omega)
  by_cases hv : ((Ex.sizeL l : Nat) : Int) ≤ 1048576 - (Ex.sizeL e.kids : Nat)
  case neg =>
    simp only [leftOf, if_neg hv] at f2
    rw [Ex.cells_eq] at f1 ⊢
    simp [f1, f2, show ¬ (1048576 - ((Ex.sizeL e.kids : Nat) : Int)) < 0 by omega]
  simp only [leftOf, if_pos hv] at f2
  have hthin : e.thin := Ex.thin_of_size e (by rw [Ex.size_eq]; omega)
  have hll := Ex.sizeL_length l
  have hthl : ∀ a ∈ l, a.thin := fun a ha => Ex.thin_of_size a (by have := Ex.sizeL_mem ha; omega)
  have f3 := v_toE hthin
  have f4 := v_toS (l := l) (by omega) hthl
  have f5 := v_sS (e := e) (w := w) (l := l)
  have f6 := v_iS (e := e) (w := w) (l := l)
  have f8 := v_eq2 hf
  have f9 := v_eqS hl hfl
  have f10 := v_mk1 (x := e) (k := 1) (by omega) (by omega)
  have f11 := v_mkS (l := l) (k := 1 + 4 * (Ex.sizeL e.kids : Nat)) (by omega) (by omega)
  have n1 : ¬ (1048576 - ((Ex.sizeL e.kids : Nat) : Int)) < 0 := by omega
  have n2 : ¬ (1048576 - ((Ex.sizeL e.kids : Nat) : Int) - ((Ex.sizeL l : Nat) : Int)) < 0 := by omega
  have n3 : ¬ (1 + 4 * ((Ex.sizeL e.kids : Nat) : Int) + 4 * ((Ex.sizeL l : Nat) : Int)) < 0 := by omega
  cases ho : e.subst l w with
  | none =>
    rw [ho] at f5 f6
    simp only [resE, resBL, zT] at f5 f6
    have f7 := v_eqz
    have f13 := v_mkz (k := 1) (by omega) (by omega)
    have f14 := v_heldz (k := 1) (by omega) (by omega)
    rw [zero_cells] at f5 f7
    simp only [zT] at f7 f13 f14
    rw [Ex.cells_eq] at f1 f3 ⊢
    simp only [tX] at f3 f5 f6 f8 f10
    simp [f1, f2, f3, f4, f5, f6, f7, f8, f9, f10, f11, f13, f14, n1, n2, n3]
  | some x =>
    have hxs := subst_some ho
    have hxthin : x.thin := Ex.thin_of_size x (by omega)
    have hxs2 := Ex.size_eq x
    rw [ho] at f5 f6
    simp only [resE] at f5
    by_cases hx : x.kids = []
    · simp only [resBL, hx, if_true] at f6
      have f7 := v_eq0 (Ex.thin_fat x hxthin)
      have f13 := v_mk0 (x := x) (k := 1) hx (by omega) (by omega)
      have f14 := v_held0 (x := x) (k := 1) hx (by omega) (by omega)
      rw [Ex.cells_eq x, hx] at f5 f6 f7 f13 f14
      rw [Ex.cells_eq] at f1 f3 ⊢
      simp only [tX] at f3 f5 f6 f8 f10
      simp [f1, f2, f3, f4, f5, f6, f7, f8, f9, f10, f11, f13, f14, n1, n2, n3]
    · simp only [resBL, hx, if_false] at f6
      have f7 := v_eq1 (Ex.thin_fat x hxthin)
      have f13 := v_mk1 (x := x) (k := 1) (by omega) (by omega)
      have f14 := v_held1 (x := x) (k := 1) (by omega) (by omega)
      rw [Ex.cells_eq x] at f5 f7
      rw [Ex.cells_eq] at f1 f3 ⊢
      simp only [tX] at f3 f5 f6 f7 f8 f10 f13 f14
      have n4 : ¬ (1 + 4 * ((Ex.sizeL x.kids : Nat) : Int)) < 0 := by omega
      simp at f6
      simp [f1, f2, f3, f4, f5, f6, f7, f8, f9, f10, f11, f13, f14, n1, n2, n3, n4]
variable {H : Type} {enc : TypeId × Value → H} {w : World} {sp : Nat → Bool}
/-- Expressions that came in. -/
theorem in_exps {fuel : Nat} {c : Value} {r : DataW H × List MemPlace} (h : DataW.trod enc Try.prog w 0 sp true fuel 43 [c] = some r) : ∃ l : List Ex, l.length < 9223372036854775808 ∧ (∀ a ∈ l, a.fat) ∧ IRep (memOf w) (.isl (Ex.cellsL l)) c := by
  obtain ⟨es, e1, e2, e3⟩ := in_slice (P := fun cs l => ∃ e : Ex, e.fat ∧ l = e.cells ∧ ICells (memOf w) l cs) Try.underlying43 ce45 (by omega) (fun cs l ⟨e, _, h5, h6⟩ => ⟨by rw [h5, Ex.cells_eq]; rfl, h6⟩)
    (fun m hm cs x hx => by
      obtain ⟨e, h5, h6⟩ := in_exp _ _ _ hx
      exact ⟨e.cells, e, h5, rfl, h6⟩) h
  have key : ∀ es : List (List IV), (∀ x ∈ es, ∃ cs, ∃ e : Ex, e.fat ∧ x = e.cells ∧ ICells (memOf w) x cs) → ∃ l : List Ex, Ex.cellsL l = es ∧ ∀ a ∈ l, a.fat := by
    intro es
    induction es with
    | nil => intro _; exact ⟨[], rfl, by simp⟩
    | cons x es ihe =>
      intro h
      obtain ⟨_, e, h5, h6, _⟩ := h x (by simp)
      obtain ⟨l, h7, h8⟩ := ihe fun y hy => h y (by simp [hy])
      exact ⟨e :: l, by simp [Ex.cellsL, h6, h7], fun a ha => by
        rcases List.mem_cons.1 ha with rfl | ha
        · exact h5
        · exact h8 a ha⟩
  obtain ⟨l, rfl, hfat⟩ := key es e3
  exact ⟨l, by simpa using e2, hfat, e1⟩
theorem lawX_subst_calls {e : Ex} {v : Value} {k : Int} {l : List Ex} {c : Value} (hf : e.fat) (he : IRep (memOf w) (.agg e.cells) v) (hl : l.length < 9223372036854775808) (hfl : ∀ a ∈ l, a.fat) (hv : IRep (memOf w) (.isl (Ex.cellsL l)) c) :
    Calls Try.prog 5 #[v, c, .int .i64 k] w fun e w' => e = .returned (.bool true) ∧ RowKit.Below w.heap.size w w' :=
  calls_true soundV (.cons (.i he) (.cons (.i hv) (.cons (.i (.lit _)) .nil))) (lawX_subst hf hl hfl)
end Go.Proofs.Ytgpclhjdfdojhaa

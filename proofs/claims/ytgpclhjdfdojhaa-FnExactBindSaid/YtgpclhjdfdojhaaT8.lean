/- Part 8 of what the proof rests on: the executor and what it is worth, and the program's functions as it runs them. No condition. -/
import Derived.Test.YtgpclhjdfdojhaaT7
set_option linter.unusedVariables false
set_option linter.unusedSimpArgs false
/- The law that Extract returns what the reference's returns. No condition. -/
namespace Go.Proofs.Ytgpclhjdfdojhaa
open Go Go.Av
set_option maxRecDepth 8000
set_option maxHeartbeats 8000000
theorem sextr_any {e : Ex} {w : Int} : callA C0 17 [.i (.agg e.cells), .int w] [] = some (resX (e.extO w), []) := by
  by_cases hb : -1000 < w ∧ w < 1000
  · exact sextr_eq hb.1 hb.2
  · rw [callA_eq rfl Try.func17 rfl rfl]
    have hok := sok_eq w e
    have hk : e.ok w = false := by
      have : okWidth w = false := by simp [okWidth]; omega
      simp [Ex.ok, this]
    rw [hk, Ex.cells_eq] at hok
    rw [Ex.cells_eq]
    simp [hok, Ex.extO, hk, resX, zero_cells]
theorem c_sE {e : Ex} {w : Int} : callA CL 17 [tX e 0, .int w] [some (treB e.kids)] = some (resX (e.extO w), [none]) := by
  rw [callA_prim (C := CL) (p := give (callA CT) 17) rfl]
  have h := sextr_any (e := e) (w := w)
  rw [Ex.cells_eq] at h
  cases ho : e.extO w with
  | none => rw [ho] at h; simp [tX, h, resX]
  | some x => rw [ho] at h; simp [tX, h, resX]
theorem c_iE0 {e : Ex} {w : Int} (ho : e.extO w = none) : callA CL 16 [tX e 0, .int w] [some (treB e.kids)] = some (.tup [zT, .nils, .bool false], [some (treB e.kids)]) := by
  rw [callA_prim (C := CL) (p := lend (callA CT) 16) rfl]
  have h := iextT_eq (e := e) (w := w)
  rw [Ex.cells_eq, ho] at h
  simp [tX, h, resXT, zT]
theorem c_iE1 {e x : Ex} {w : Int} (ho : e.extO w = some (x, [])) (hx : x.kids = []) : callA CL 16 [tX e 0, .int w] [some (treB e.kids)] = some (.tup [.i (.agg x.cells), .nils, .bool true], [some (treB e.kids)]) := by
  rw [callA_prim (C := CL) (p := lend (callA CT) 16) rfl]
  have h := iextT_eq (e := e) (w := w)
  rw [Ex.cells_eq, ho] at h
  simp [resXT, hx, vT, vTB] at h
  simp [tX, h, Ex.cells_eq, hx, Ex.cellsL]
theorem c_iE2 {e x : Ex} {w : Int} {us : List Val} (ho : e.extO w = some (x, us)) (hx : x.kids = []) (hu : us ≠ []) : callA CL 16 [tX e 0, .int w] [some (treB e.kids)] = some (.tup [.i (.agg x.cells), .osl 1 2 0 us.length, .bool true], [some (treB e.kids), some (.arr 2 (valsL us))]) := by
  rw [callA_prim (C := CL) (p := lend (callA CT) 16) rfl]
  have h := iextT_eq (e := e) (w := w)
  rw [Ex.cells_eq, ho] at h
  simp [resXT, hx, vT, vTB, hu] at h
  simp [tX, h, Ex.cells_eq, hx, Ex.cellsL]
theorem c_iE3 {e x : Ex} {w : Int} (ho : e.extO w = some (x, [])) (hx : x.kids ≠ []) : callA CL 16 [tX e 0, .int w] [some (treB e.kids)] = some (.tup [tX x 1, .nils, .bool true], [some (treB e.kids), some (treB x.kids)]) := by
  rw [callA_prim (C := CL) (p := lend (callA CT) 16) rfl]
  have h := iextT_eq (e := e) (w := w)
  rw [Ex.cells_eq, ho] at h
  simp [resXT, hx, vT, vTB] at h
  simp [tX, h]
theorem c_iE4 {e x : Ex} {w : Int} {us : List Val} (ho : e.extO w = some (x, us)) (hx : x.kids ≠ []) (hu : us ≠ []) : callA CL 16 [tX e 0, .int w] [some (treB e.kids)] = some (.tup [tX x 1, .osl 2 2 0 us.length, .bool true], [some (treB e.kids), some (treB x.kids), some (.arr 2 (valsL us))]) := by
  rw [callA_prim (C := CL) (p := lend (callA CT) 16) rfl]
  have h := iextT_eq (e := e) (w := w)
  rw [Ex.cells_eq, ho] at h
  simp [resXT, hx, vT, vTB, hu] at h
  simp [tX, h]
theorem c_eV0 : callA CL 29 [.nils, .i (.isl [])] [] = some (.bool true, []) := by
  rw [callA_prim (C := CL) (p := lend (callA CT) 29) rfl]
  have := eqVS_refl [] (by simp)
  simp [valsL] at this
  simp [this]
theorem c_eV1 {vs : List Val} (hl : vs.length < 9223372036854775808) : callA CL 29 [.osl 0 2 0 vs.length, .i (.isl (valsL vs))] [some (.arr 2 (valsL vs))] = some (.bool true, [some (.arr 2 (valsL vs))]) := by
  rw [callA_prim (C := CL) (p := lend (callA CT) 29) rfl]
  simp [eqVS_refl vs hl]
theorem c_mkV0 {k : Int} : callA CL 30 [.nils, .int k] [] = some (.int k, []) := by
  rw [callA_eq rfl Try.func30 rfl rfl]
  simp
  rw [execA_loop]
  simp
theorem c_hV0 {k : Int} (h0 : 0 ≤ k) (h1 : k < 1000000000000) : callA CL 31 [.nils, .int k] [] = some (.int k, []) := by
  rw [callA_prim (C := CL) (p := lend (callA CT) 31) rfl]
  have := heldV_eq [] k h0 h1 (by simp)
  simp [valsL, markV] at this
  simp [this]
theorem c_hV1 {vs : List Val} {k : Int} (h0 : 0 ≤ k) (h1 : k < 1000000000000) (hl : vs.length < 1000000000) : callA CL 31 [.osl 0 2 0 vs.length, .int k] [some (.arr 2 (valsL (markV k vs)))] = some (.int (k + 2 * (vs.length : Nat)), [some (.arr 2 (valsL (markV k vs)))]) := by
  rw [callA_prim (C := CL) (p := lend (callA CT) 31) rfl]
  have := heldV_eq vs k h0 h1 hl
  simp [this, markV_length]
theorem extO_some {e x : Ex} {w : Int} {us : List Val} (h : e.extO w = some (x, us)) : e.size < 10000 ∧ x.size < 10000 ∧ us.length < 10 := by
  have hh := h
  unfold Ex.extO at h
  split at h
  · rename_i hc
    injection h with h
    simp only [Bool.and_eq_true, decide_eq_true_eq] at hc
    have h6 : 1 ≤ w ∧ w ≤ 6 := by have := hc.1; simp [Ex.ok, okWidth] at this; omega
    obtain ⟨n, rfl⟩ : ∃ n : Nat, w = n := ⟨w.toNat, by omega⟩
    have hb := bindO_some (ext_bind hh)
    have h2 := hc.2
    rw [h] at h2
    exact ⟨hb.2, hb.1, by simp only at h2; omega⟩
  · cases h
theorem lawX_extract {e : Ex} {w : Int} (hf : e.fat) : callA CL 6 [.i (.agg e.cells), .int w] [] = some (.bool true, []) := by
  rw [callA_eq rfl Try.func6 rfl rfl]
  have f1 := c_sz hf (left := 1048576) (by omega) (by omega)
  by_cases hs : ((Ex.sizeL e.kids : Nat) : Int) ≤ 1048576
  case neg =>
    simp only [leftOf, if_neg hs] at f1
    rw [Ex.cells_eq] at f1 ⊢
    simp [f1]
  simp only [leftOf, if_pos hs] at f1
  have hthin : e.thin := Ex.thin_of_size e (by rw [Ex.size_eq]; omega)
  have f3 := c_toE hthin
  have f5 := c_sE (e := e) (w := w)
  have f8 := c_eq2 hf
  have f10 := c_mk1 (x := e) (k := 1) (by omega) (by omega)
  have n1 : ¬ (1048576 - ((Ex.sizeL e.kids : Nat) : Int)) < 0 := by omega
  have n3 : ¬ (1 + 4 * ((Ex.sizeL e.kids : Nat) : Int)) < 0 := by omega
  cases ho : e.extO w with
  | none =>
    have f6 := c_iE0 ho
    rw [ho] at f5
    simp only [resX] at f5
    have f7 := c_eqz
    have f13 := c_mkz (k := 1) (by omega) (by omega)
    have f14 := c_heldz (k := 1) (by omega) (by omega)
    have f15 := c_eV0
    have f16 := c_mkV0 (k := 1)
    have f17 := c_hV0 (k := 1) (by omega) (by omega)
    rw [zero_cells] at f5 f7
    simp only [zT] at f6 f7 f13 f14
    rw [Ex.cells_eq] at f1 f3 ⊢
    simp only [tX] at f3 f5 f6 f8 f10
    simp [f1, f3, f5, f6, f7, f8, f10, f13, f14, f15, f16, f17, n1, n3]
  | some xu =>
    obtain ⟨x, us⟩ := xu
    obtain ⟨hes, hxs, hul⟩ := extO_some ho
    have hxthin : x.thin := Ex.thin_of_size x (by omega)
    have hxs2 := Ex.size_eq x
    rw [ho] at f5
    simp only [resX] at f5
    by_cases hu : us = []
    · subst hu
      simp only [valsL] at f5
      have f15 := c_eV0
      by_cases hx : x.kids = []
      · have f6 := c_iE1 ho hx
        have f7 := c_eq0 (Ex.thin_fat x hxthin)
        have f13 := c_mk0 (x := x) (k := 1) hx (by omega) (by omega)
        have f14 := c_held0 (x := x) (k := 1) hx (by omega) (by omega)
        have f16 := c_mkV0 (k := 1)
        have f17 := c_hV0 (k := 1) (by omega) (by omega)
        rw [Ex.cells_eq x, hx] at f5 f6 f7 f13 f14
        rw [Ex.cells_eq] at f1 f3 ⊢
        simp only [tX] at f3 f5 f6 f8 f10
        simp [f1, f3, f5, f6, f7, f8, f10, f13, f14, f15, f16, f17, n1, n3]
      · have f6 := c_iE3 ho hx
        have f7 := c_eq1 (Ex.thin_fat x hxthin)
        have f13 := c_mk1 (x := x) (k := 1) (by omega) (by omega)
        have f14 := c_held1 (x := x) (k := 1) (by omega) (by omega)
        have f16 := c_mkV0 (k := 1 + 4 * ((Ex.sizeL x.kids : Nat) : Int))
        have f17 := c_hV0 (k := 1 + 4 * ((Ex.sizeL x.kids : Nat) : Int)) (by omega) (by omega)
        rw [Ex.cells_eq x] at f5 f7
        rw [Ex.cells_eq] at f1 f3 ⊢
        simp only [tX] at f3 f5 f6 f7 f8 f10 f13 f14
        have n4 : ¬ (1 + 4 * ((Ex.sizeL x.kids : Nat) : Int)) < 0 := by omega
        simp [f1, f3, f5, f6, f7, f8, f10, f13, f14, f15, f16, f17, n1, n3, n4]
    · have f15 := c_eV1 (vs := us) (by omega)
      by_cases hx : x.kids = []
      · have f6 := c_iE2 ho hx hu
        have f7 := c_eq0 (Ex.thin_fat x hxthin)
        have f13 := c_mk0 (x := x) (k := 1) hx (by omega) (by omega)
        have f14 := c_held0 (x := x) (k := 1) hx (by omega) (by omega)
        have f16 := c_mkV (l := us) (k := 1) (by omega) (by omega) (by omega)
        have f17 := c_hV1 (vs := us) (k := 1) (by omega) (by omega) (by omega)
        have n5 : ¬ (1 + 2 * ((us.length : Nat) : Int)) < 0 := by omega
        rw [Ex.cells_eq x, hx] at f5 f6 f7 f13 f14
        rw [Ex.cells_eq] at f1 f3 ⊢
        simp only [tX] at f3 f5 f6 f8 f10
        simp [f1, f3, f5, f6, f7, f8, f10, f13, f14, f15, f16, f17, n1, n3, n5]
      · have f6 := c_iE4 ho hx hu
        have f7 := c_eq1 (Ex.thin_fat x hxthin)
        have f13 := c_mk1 (x := x) (k := 1) (by omega) (by omega)
        have f14 := c_held1 (x := x) (k := 1) (by omega) (by omega)
        have f16 := c_mkV (l := us) (k := 1 + 4 * ((Ex.sizeL x.kids : Nat) : Int)) (by omega) (by omega) (by omega)
        have f17 := c_hV1 (vs := us) (k := 1 + 4 * ((Ex.sizeL x.kids : Nat) : Int)) (by omega) (by omega) (by omega)
        rw [Ex.cells_eq x] at f5 f7
        rw [Ex.cells_eq] at f1 f3 ⊢
        simp only [tX] at f3 f5 f6 f7 f8 f10 f13 f14
        have n4 : ¬ (1 + 4 * ((Ex.sizeL x.kids : Nat) : Int)) < 0 := by omega
        have n5 : ¬ (1 + 4 * ((Ex.sizeL x.kids : Nat) : Int) + 2 * ((us.length : Nat) : Int)) < 0 := by omega
        simp [f1, f3, f5, f6, f7, f8, f10, f13, f14, f15, f16, f17, n1, n3, n4, n5]
end Go.Proofs.Ytgpclhjdfdojhaa

/- Expressions and values that came in, as trees. No condition. -/
namespace Go.Av
theorem addr_none {w : World} {a : Addr} {v : Value} (h : w.cell? (a.add 0) = some v) : ∃ b off, a = ⟨b, off, none⟩ := by
  obtain ⟨b, off, spot⟩ := a
  simp only [Addr.add, if_true, World.cell?] at h
  cases spot with
  | none => exact ⟨b, off, rfl⟩
  | some s => split at h <;> simp at h
theorem take5 {cs : List Value} (h : cs.length = 5) : ∃ c0 c1 c2 c3 c4, cs = [c0, c1, c2, c3, c4] := by
  match cs, h with
  | [c0, c1, c2, c3, c4], _ => exact ⟨c0, c1, c2, c3, c4, rfl⟩
end Go.Av
namespace Go.Proofs.Ytgpclhjdfdojhaa
open Go Go.Av
set_option maxRecDepth 4000
variable {H : Type} {enc : TypeId × Value → H} {w : World} {sp : Nat → Bool}
theorem ce3 : Try.prog.cellsOf 3 = 1 := by kernel_rfl
theorem ce4 : Try.prog.cellsOf 4 = 1 := by kernel_rfl
theorem ce42 : Try.prog.cellsOf 42 = 2 := by kernel_rfl
theorem ce43 : Try.prog.cellsOf 43 = 1 := by kernel_rfl
theorem ce45 : Try.prog.cellsOf 45 = 5 := by kernel_rfl
theorem in_val {fuel : Nat} {cs : List Value} {r : DataW H × List MemPlace} (h : DataW.trod enc Try.prog w 0 sp true fuel 42 cs = some r) : ∃ v : Val, cs = [.bool v.null, .int .i64 v.n] := by
  obtain ⟨xs, n, rfl, _, hl, hx, hf⟩ := DataW.trod_struct Try.underlying42 h
  rw [ce42] at hl
  have h0 : DataW.trod enc Try.prog w 0 sp true n 4 ((cs.drop 0).take (Try.prog.cellsOf 4)) = xs[0]? := hf 0 _ rfl
  have h1 : DataW.trod enc Try.prog w 0 sp true n 3 ((cs.drop 1).take (Try.prog.cellsOf 3)) = xs[1]? := hf 1 _ rfl
  rw [ce4] at h0
  rw [ce3] at h1
  have hx : xs.length = 2 := hx
  rw [List.getElem?_eq_getElem (by omega)] at h0 h1
  obtain ⟨b, hb, _⟩ := DataW.trod_bool Try.underlying4 h0
  obtain ⟨k, hk, _⟩ := DataW.trod_int Try.underlying3 h1
  match cs, hl with
  | [c0, c1], _ =>
    simp at hb hk
    exact ⟨⟨b, k⟩, by rw [hb, hk]⟩
/-- The elements of a slice that came in. -/
theorem in_elems {b : Nat} {P : List Value → List IV → Prop} {k : Nat} (hk : ∀ cs l, P cs l → l.length = k ∧ ICells (memOf w) l cs) : ∀ (n off : Nat), (∀ i, i < n → ∃ cs l, P cs l ∧ ∀ j v, cs[j]? = some v → w.cell? ⟨b, off + k * i + j, none⟩ = some v) →
    ∃ es : List (List IV), es.length = n ∧ IElems (memOf w) b off k es ∧ ∀ e ∈ es, ∃ cs, P cs e
  | 0, off, _ => ⟨[], rfl, .nil _ _ _, by simp⟩
  | n + 1, off, h => by
    obtain ⟨cs, l, h1, h2⟩ := h 0 (by omega)
    obtain ⟨k1, k2⟩ := hk cs l h1
    obtain ⟨es, e1, e2, e3⟩ := in_elems hk n (off + k) (fun i hi => by
      obtain ⟨cs, l, h3, h4⟩ := h (i + 1) (by omega)
      exact ⟨cs, l, h3, fun j v hj => by rw [← h4 j v hj]; congr 2; rw [Nat.mul_add]; omega⟩)
    refine ⟨l :: es, by simp [e1], .cons (IAt.mk off k2 fun j v hj => ?_) k1 e2, ?_⟩
    · have := h2 j v hj
      show w.cell? ⟨b, off + j, none⟩ = some v
      simpa using this
    · intro e he
      rcases List.mem_cons.1 he with rfl | he
      · exact ⟨cs, h1⟩
      · exact e3 e he
theorem in_slice {fuel : Nat} {t e : TypeId} {c : Value} {r : DataW H × List MemPlace} {k : Nat} {P : List Value → List IV → Prop} (ht : Try.prog.underlying t = some (.slice e)) (hce : Try.prog.cellsOf e = k) (hk0 : 0 < k) (hk : ∀ cs l, P cs l → l.length = k ∧ ICells (memOf w) l cs)
    (ih : ∀ n, n < fuel → ∀ cs x, DataW.trod enc Try.prog w 0 sp true n e cs = some x → ∃ l, P cs l) (h : DataW.trod enc Try.prog w 0 sp true fuel t [c] = some r) :
    ∃ es : List (List IV), IRep (memOf w) (.isl es) c ∧ es.length < 9223372036854775808 ∧ ∀ x ∈ es, ∃ cs, P cs x := by
  rcases DataW.trod_slice ht h with ⟨h1, _⟩ | ⟨a, len, cap, elems, rest, n, rfl, h1, _, _, hlc, hcm, hel, hat, _, _⟩
  · injection h1 with h1; subst h1
    exact ⟨[], .isl0 _ _ fun _ => rfl, by simp, by simp⟩
  · injection h1 with h1; subst h1
    by_cases h0 : len = 0
    · subst h0; exact ⟨[], .isl0 _ _ (by simp), by simp, by simp⟩
    · rw [hce] at hat
      have get : ∀ i, i < len → ∃ cs l, P cs l ∧ cs.length = k ∧ ∀ j, j < k → w.cell? ((a.add (i * k)).add j) = cs[j]? := by
        intro i hi
        have h2 := hat i hi
        rw [List.getElem?_eq_getElem (by omega)] at h2
        obtain ⟨cs, h3, h4⟩ := Option.bind_eq_some_iff.1 h2
        obtain ⟨_, h5, h6⟩ := World.cells?_some h3
        obtain ⟨l, h7⟩ := ih n (by omega) cs _ h4
        exact ⟨cs, l, h7, h5, h6⟩
      obtain ⟨b, off, rfl⟩ : ∃ b off, a = ⟨b, off, none⟩ := by
        obtain ⟨cs, l, _, h5, h6⟩ := get 0 (by omega)
        have h7 := h6 0 hk0
        rw [List.getElem?_eq_getElem (by omega)] at h7
        refine addr_none (v := cs[0]'(by omega)) (w := w) ?_
        rw [← h7, Nat.zero_mul]
        congr 1
      obtain ⟨es, e1, e2, e3⟩ := in_elems (b := b) hk len off (fun i hi => by
        obtain ⟨cs, l, h4, h5, h6⟩ := get i hi
        refine ⟨cs, l, h4, fun j v hj => ?_⟩
        have hjl := (List.getElem?_eq_some_iff.1 hj).1
        have := h6 j (by omega)
        rw [hj, Addr.add_none, Addr.add_none] at this
        rw [← this, Nat.mul_comm k i])
      refine ⟨es, ?_, by rw [e1]; unfold maxLen at hcm; omega, e3⟩
      have hne : es ≠ [] := fun h => by rw [h] at e1; simp at e1; omega
      have := IRep.isl (m := memOf w) (cap := cap) hne e2 (by omega)
      rwa [e1] at this
/-- An expression that came in. -/
theorem in_exp : ∀ (fuel : Nat) (cs : List Value) (r : DataW H × List MemPlace), DataW.trod enc Try.prog w 0 sp true fuel 45 cs = some r → ∃ e : Ex, e.fat ∧ ICells (memOf w) e.cells cs := by
  intro fuel
  induction fuel using Nat.strongRecOn with
  | _ fuel ih =>
    intro cs r h
    obtain ⟨xs, n, rfl, _, hl, hx, hf⟩ := DataW.trod_struct Try.underlying45 h
    rw [ce45] at hl
    have h0 : DataW.trod enc Try.prog w 0 sp true n 3 ((cs.drop 0).take (Try.prog.cellsOf 3)) = xs[0]? := hf 0 _ rfl
    have h1 : DataW.trod enc Try.prog w 0 sp true n 3 ((cs.drop 1).take (Try.prog.cellsOf 3)) = xs[1]? := hf 1 _ rfl
    have h2 : DataW.trod enc Try.prog w 0 sp true n 42 ((cs.drop 2).take (Try.prog.cellsOf 42)) = xs[2]? := hf 2 _ rfl
    have h3 : DataW.trod enc Try.prog w 0 sp true n 43 ((cs.drop 4).take (Try.prog.cellsOf 43)) = xs[3]? := hf 3 _ rfl
    rw [ce3] at h0 h1
    rw [ce42] at h2
    rw [ce43] at h3
    have hx : xs.length = 4 := hx
    rw [List.getElem?_eq_getElem (by omega)] at h0 h1 h2 h3
    obtain ⟨c0, c1, c2, c3, c4, rfl⟩ := take5 hl
    obtain ⟨k0, hk0, _⟩ := DataW.trod_int Try.underlying3 h0
    obtain ⟨k1, hk1, _⟩ := DataW.trod_int Try.underlying3 h1
    obtain ⟨v, hv⟩ := in_val h2
    simp at hk0 hk1 hv
    obtain ⟨rfl, rfl⟩ := hv
    subst hk0; subst hk1
    simp at h3
    obtain ⟨es, e1, e2, e3⟩ := in_slice (P := fun cs l => ∃ e : Ex, e.fat ∧ l = e.cells ∧ ICells (memOf w) l cs) Try.underlying43 ce45 (by omega) (fun cs l ⟨e, _, h5, h6⟩ => ⟨by rw [h5, Ex.cells_eq]; rfl, h6⟩)
      (fun m hm cs x hx => by
        obtain ⟨e, h5, h6⟩ := ih m (by omega) cs x hx
        exact ⟨e.cells, e, h5, rfl, h6⟩) h3
    have hl : ∃ l : List Ex, Ex.cellsL l = es ∧ ∀ a ∈ l, a.fat := by
      have key : ∀ es : List (List IV), (∀ x ∈ es, ∃ cs, ∃ e : Ex, e.fat ∧ x = e.cells ∧ ICells (memOf w) x cs) → ∃ l : List Ex, Ex.cellsL l = es ∧ ∀ a ∈ l, a.fat := by
        intro es
        induction es with
        | nil => intro _; exact ⟨[], rfl, by simp⟩
        | cons x es ihe =>
          intro h
          obtain ⟨_, e, h5, h6, _⟩ := h x (by simp)
          obtain ⟨l, h7, h8⟩ := ihe fun y hy => h y (by simp [hy])
          exact ⟨e :: l, by simp [Ex.cellsL, h6, h7], fun a ha => by
            rcases List.mem_cons.1 ha with rfl | ha
            · exact h5
            · exact h8 a ha⟩
      exact key es e3
    obtain ⟨l, rfl, hfat⟩ := hl
    refine ⟨.mk k0 k1 v l, (Ex.fat_iff _).2 ⟨by rw [kids_mk]; simpa using e2, hfat⟩, ?_⟩
    rw [cells_mk]
    exact .cons (.lit _) rfl (.cons (.lit _) rfl (.cons (.lit _) rfl (.cons (.lit _) rfl (.cons e1 (isl_one e1) .nil))))
/-- Values that came in. -/
theorem in_vals {fuel : Nat} {c : Value} {r : DataW H × List MemPlace} (h : DataW.trod enc Try.prog w 0 sp true fuel 56 [c] = some r) : ∃ vs : List Val, vs.length < 9223372036854775808 ∧ IRep (memOf w) (.isl (valsL vs)) c := by
  obtain ⟨es, e1, e2, e3⟩ := in_slice (P := fun cs l => ∃ v : Val, l = [.bool v.null, .int v.n] ∧ cs = [.bool v.null, .int .i64 v.n]) Try.underlying56 ce42 (by omega) (fun cs l ⟨v, h5, h6⟩ => ⟨by rw [h5]; rfl, by rw [h5, h6]; exact .cons (.lit _) rfl (.cons (.lit _) rfl .nil)⟩)
    (fun m hm cs x hx => by obtain ⟨v, hv⟩ := in_val hx; exact ⟨_, v, rfl, hv⟩) h
  have key : ∀ es : List (List IV), (∀ x ∈ es, ∃ cs : List Value, ∃ v : Val, x = [.bool v.null, .int v.n] ∧ cs = [.bool v.null, .int .i64 v.n]) → ∃ l : List Val, valsL l = es := by
    intro es
    induction es with
    | nil => intro _; exact ⟨[], rfl⟩
    | cons x es ihe =>
      intro h
      obtain ⟨_, v, h5, _⟩ := h x (by simp)
      obtain ⟨l, h7⟩ := ihe fun y hy => h y (by simp [hy])
      exact ⟨v :: l, by simp [valsL, h5, h7]⟩
  obtain ⟨l, rfl⟩ := key es e3
  exact ⟨l, by simpa using e2, e1⟩
/-! ### The laws' contracts -/
theorem lawX_bind_calls {e : Ex} {v : Value} {k : Int} {vs : List Val} {c : Value} (hf : e.fat) (he : IRep (memOf w) (.agg e.cells) v) (hk0 : -9223372036854775808 ≤ k) (hk1 : k < 9223372036854775808) (hl : vs.length < 9223372036854775808) (hv : IRep (memOf w) (.isl (valsL vs)) c) :
    Calls Try.prog 7 #[v, .int .i64 k, c] w fun e w' => e = .returned (.bool true) ∧ RowKit.Below w.heap.size w w' :=
  calls_true soundL (.cons (.i he) (.cons (.i (.lit _)) (.cons (.i hv) .nil))) (lawX_bind hf hl hk0 hk1)
theorem lawX_extract_calls {e : Ex} {v : Value} {k : Int} (hf : e.fat) (he : IRep (memOf w) (.agg e.cells) v) :
    Calls Try.prog 6 #[v, .int .i64 k] w fun e w' => e = .returned (.bool true) ∧ RowKit.Below w.heap.size w w' :=
  calls_true soundL (.cons (.i he) (.cons (.i (.lit _)) .nil)) (lawX_extract hf)
end Go.Proofs.Ytgpclhjdfdojhaa

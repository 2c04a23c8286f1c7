/- Part 8 of what the proof rests on: the executor and what it is worth, and the program's functions as it runs them. No condition. -/
import Derived.Test.YtgpclhjdfdojhaaT7
set_option linter.unusedVariables false
set_option linter.unusedSimpArgs false
/- The law that Extract returns what the reference's returns. No condition. -/
namespace Go.Proofs.Ytgpclhjdfdojhaa
open Go Go.Av
set_option maxRecDepth 8000
set_option maxHeartbeats 8000000
theorem sextr_any {e : Ex} {w : Int} : callA C0 17 [.i (.agg e.cells), .int w] [] = some (resX (e.extO w), []) := by
  by_cases hb : -1000 < w ∧ w < 1000
  · exact sextr_eq hb.1 hb.2
  · rw [callA_eq rfl Try.func17 rfl rfl]
    have hok := sok_eq w e
    have hk : e.ok w = false := by
      have : okWidth w = false := by simp [okWidth]; omega
      simp [Ex.ok, this]
    rw [hk, Ex.cells_eq] at hok
    rw [Ex.cells_eq]
    simp [hok, Ex.extO, hk, resX, zero_cells]
theorem c_sE {e : Ex} {w : Int} : callA CL 17 [tX e 0, .int w] [some (treB e.kids)] = some (resX (e.extO w), [none]) := by
  rw [callA_prim (C := CL) (p := give (callA CT) 17) rfl]
  have h := sextr_any (e := e) (w := w)
  rw [Ex.cells_eq] at h
  cases ho : e.extO w with
  | none => rw [ho] at h; simp [tX, h, resX]
  | some x => rw [ho] at h; simp [tX, h, resX]
theorem c_iE0 {e : Ex} {w : Int} (ho : e.extO w = none) : callA CL 16 [tX e 0, .int w] [some (treB e.kids)] = some (.tup [zT, .nils, .bool false], [some (treB e.kids)]) := by
  rw [callA_prim (C := CL) (p := lend (callA CT) 16) rfl]
  have h := iextT_eq (e := e) (w := w)
  rw [Ex.cells_eq, ho] at h
  simp [tX, h, resXT, zT]
theorem c_iE1 {e x : Ex} {w : Int} (ho : e.extO w = some (x, [])) (hx : x.kids = []) : callA CL 16 [tX e 0, .int w] [some (treB e.kids)] = some (.tup [.i (.agg x.cells), .nils, .bool true], [some (treB e.kids)]) := by
  rw [callA_prim (C := CL) (p := lend (callA CT) 16) rfl]
  have h := iextT_eq (e := e) (w := w)
  rw [Ex.cells_eq, ho] at h
  simp [resXT, hx, vT, vTB] at h
  simp [tX, h, Ex.cells_eq, hx, Ex.cellsL]
theorem c_iE2 {e x : Ex} {w : Int} {us : List Val} (ho : e.extO w = some (x, us)) (hx : x.kids = []) (hu : us ≠ []) : callA CL 16 [tX e 0, .int w] [some (treB e.kids)] = some (.tup [.i (.agg x.cells), .osl 1 2 0 us.length, .bool true], [some (treB e.kids), some (.arr 2 (valsL us))]) := by
  rw [callA_prim (C := CL) (p := lend (callA CT) 16) rfl]
  have h := iextT_eq (e := e) (w := w)
  rw [Ex.cells_eq, ho] at h
  simp [resXT, hx, vT, vTB, hu] at h
  simp [tX, h, Ex.cells_eq, hx, Ex.cellsL]
theorem c_iE3 {e x : Ex} {w : Int} (ho : e.extO w = some (x, [])) (hx : x.kids ≠ []) : callA CL 16 [tX e 0, .int w] [some (treB e.kids)] = some (.tup [tX x 1, .nils, .bool true], [some (treB e.kids), some (treB x.kids)]) := by
  rw [callA_prim (C := CL) (p := lend (callA CT) 16) rfl]
  have h := iextT_eq (e := e) (w := w)
  rw [Ex.cells_eq, ho] at h
  simp [resXT, hx, vT, vTB] at h
  simp [tX, h]
theorem c_iE4 {e x : Ex} {w : Int} {us : List Val} (ho : e.extO w = some (x, us)) (hx : x.kids ≠ []) (hu : us ≠ []) : callA CL 16 [tX e 0, .int w] [some (treB e.kids)] = some (.tup [tX x 1, .osl 2 2 0 us.length, .bool true], [some (treB e.kids), some (treB x.kids), some (.arr 2 (valsL us))]) := by
  rw [callA_prim (C := CL) (p := lend (callA CT) 16) rfl]
  have h := iextT_eq (e := e) (w := w)
  rw [Ex.cells_eq, ho] at h
  simp [resXT, hx, vT, vTB, hu] at h
  simp [tX, h]
theorem c_eV0 : callA CL 29 [.nils, .i (.isl [])] [] = some (.bool true, []) := by
  rw [callA_prim (C := CL) (p := lend (callA CT) 29) rfl]
  have := eqVS_refl [] (by simp)
  simp [valsL] at this
  simp [this]
theorem c_eV1 {vs : List Val} (hl : vs.length < 9223372036854775808) : callA CL 29 [.osl 0 2 0 vs.length, .i (.isl (valsL vs))] [some (.arr 2 (valsL vs))] = some (.bool true, [some (.arr 2 (valsL vs))]) := by
  rw [callA_prim (C := CL) (p := lend (callA CT) 29) rfl]
  simp [eqVS_refl vs hl]
theorem c_mkV0 {k : Int} : callA CL 30 [.nils, .int k] [] = some (.int k, []) := by
  rw [callA_eq rfl Try.func30 rfl rfl]
  simp
  rw [execA_loop]
  simp
theorem c_hV0 {k : Int} (h0 : 0 ≤ k) (h1 : k < 1000000000000) : callA CL 31 [.nils, .int k] [] = some (.int k, []) := by
  rw [callA_prim (C := CL) (p := lend (callA CT) 31) rfl]
  have := heldV_eq [] k h0 h1 (by simp)
  simp [valsL, markV] at this
  simp [this]
theorem c_hV1 {vs : List Val} {k : Int} (h0 : 0 ≤ k) (h1 : k < 1000000000000) (hl : vs.length < 1000000000) : callA CL 31 [.osl 0 2 0 vs.length, .int k] [some (.arr 2 (valsL (markV k vs)))] = some (.int (k + 2 * (vs.length : Nat)), [some (.arr 2 (valsL (markV k vs)))]) := by
  rw [callA_prim (C := CL) (p := lend (callA CT) 31) rfl]
  have := heldV_eq vs k h0 h1 hl
  simp [this, markV_length]
theorem extO_some {e x : Ex} {w : Int} {us : List Val} (h : e.extO w = some (x, us)) : e.size < 10000 ∧ x.size < 10000 ∧ us.length < 10 := by
  have hh := h
  unfold Ex.extO at h
  split at h
  · rename_i hc
    injection h with h
    simp only [Bool.and_eq_true, decide_eq_true_eq] at hc
    have h6 : 1 ≤ w ∧ w ≤ 6 := by have := hc.1; simp [Ex.ok, okWidth] at this; omega
    obtain ⟨n, rfl⟩ : ∃ n : Nat, w = n := ⟨w.toNat, by omega⟩
    have hb := bindO_some (ext_bind hh)
    have h2 := hc.2
    rw [h] at h2
    exact ⟨hb.2, hb.1, by simp only at h2; omega⟩
  · cases h
theorem lawX_extract {e : Ex} {w : Int} (hf : e.fat) : callA CL 6 [.i (.agg e.cells), .int w] [] = some (.bool true, []) := by
  rw [callA_eq rfl Try.func6 rfl rfl]
  have f1 := c_sz hf (left := 1048576) (by omega) (by omega)
  by_cases hs : ((Ex.sizeL e.kids : Nat) : Int) ≤ 1048576
  case neg =>
    simp only [leftOf, if_neg hs] at f1
    rw [Ex.cells_eq] at f1 ⊢
    simp [f1]
  simp only [leftOf, if_pos hs] at f1
  have hthin : e.thin := Ex.thin_of_size e (by rw [Ex.size_eq]; omega)
  have f3 := c_toE hthin
  have f5 := c_sE (e := e) (w := w)
  have f8 := c_eq2 hf
  have f10 := c_mk1 (x := e) (k := 1) (by omega) (by omega)
  have n1 : ¬ (1048576 - ((Ex.sizeL e.kids : Nat) : Int)) < 0 := by omega
  have n3 : ¬ (1 + 4 * ((Ex.sizeL e.kids : Nat) : Int)) < 0 := by omega
  cases ho : e.extO w with
  | none =>
    have f6 := c_iE0 ho
    rw [ho] at f5
    simp only [resX] at f5
    have f7 := c_eqz
    have f13 := c_mkz (k := 1) (by omega) (by omega)
    have f14 := c_heldz (k := 1) (by omega) (by omega)
    have f15 := c_eV0
    have f16 := c_mkV0 (k := 1)
    have f17 := c_hV0 (k := 1) (by omega) (by omega)
    rw [zero_cells] at f5 f7
    simp only [zT] at f6 f7 f13 f14
    rw [Ex.cells_eq] at f1 f3 ⊢
    simp only [tX] at f3 f5 f6 f8 f10
    simp [f1, f3, f5, f6, f7, f8, f10, f13, f14, f15, f16, f17, n1, n3]
  | some xu =>
    obtain ⟨x, us⟩ := xu
    obtain ⟨hes, hxs, hul⟩ := extO_some ho
    have hxthin : x.thin := Ex.thin_of_size x (by omega)
    have hxs2 := Ex.size_eq x
    rw [ho] at f5
    simp only [resX] at f5
    by_cases hu : us = []
    · subst hu
      simp only [valsL] at f5
      have f15 := c_eV0
      by_cases hx : x.kids = []
      · have f6 := c_iE1 ho hx
        have f7 := c_eq0 (Ex.thin_fat x hxthin)
        have f13 := c_mk0 (x := x) (k := 1) hx (by omega) (by omega)
        have f14 := c_held0 (x := x) (k := 1) hx (by omega) (by omega)
        have f16 := c_mkV0 (k := 1)
        have f17 := c_hV0 (k := 1) (by omega) (by omega)
        rw [Ex.cells_eq x, hx] at f5 f6 f7 f13 f14
        rw [Ex.cells_eq] at f1 f3 ⊢
        simp only [tX] at f3 f5 f6 f8 f10
        simp [f1, f3, f5, f6, f7, f8, f10, f13, f14, f15, f16, f17, n1, n3]
      · have f6 := c_iE3 ho hx
        have f7 := c_eq1 (Ex.thin_fat x hxthin)
        have f13 := c_mk1 (x := x) (k := 1) (by omega) (by omega)
        have f14 := c_held1 (x := x) (k := 1) (by omega) (by omega)
        have f16 := c_mkV0 (k := 1 + 4 * ((Ex.sizeL x.kids : Nat) : Int))
        have f17 := c_hV0 (k := 1 + 4 * ((Ex.sizeL x.kids : Nat) : Int)) (by omega) (by omega)
        rw [Ex.cells_eq x] at f5 f7
        rw [Ex.cells_eq] at f1 f3 ⊢
        simp only [tX] at f3 f5 f6 f7 f8 f10 f13 f14
        have n4 : ¬ (1 + 4 * ((Ex.sizeL x.kids : Nat) : Int)) < 0 := by omega
        simp [f1, f3, f5, f6, f7, f8, f10, f13, f14, f15, f16, f17, n1, n3, n4]
    · have f15 := c_eV1 (vs := us) (by omega)
      by_cases hx : x.kids = []
      · have f6 := c_iE2 ho hx hu
        have f7 := c_eq0 (Ex.thin_fat x hxthin)
        have f13 := c_mk0 (x := x) (k := 1) hx (by omega) (by omega)
        have f14 := c_held0 (x := x) (k := 1) hx (by omega) (by omega)
        have f16 := c_mkV (l := us) (k := 1) (by omega) (by omega) (by omega)
        have f17 := c_hV1 (vs := us) (k := 1) (by omega) (by omega) (by omega)
        have n5 : ¬ (1 + 2 * ((us.length : Nat) : Int)) < 0 := by omega
        rw [Ex.cells_eq x, hx] at f5 f6 f7 f13 f14
        rw [Ex.cells_eq] at f1 f3 ⊢
        simp only [tX] at f3 f5 f6 f8 f10
        simp [f1, f3, f5, f6, f7, f8, f10, f13, f14, f15, f16, f17, n1, n3, n5]
      · have f6 := c_iE4 ho hx hu
        have f7 := c_eq1 (Ex.thin_fat x hxthin)
        have f13 := c_mk1 (x := x) (k := 1) (by omega) (by omega)
        have f14 := c_held1 (x := x) (k := 1) (by omega) (by omega)
        have f16 := c_mkV (l := us) (k := 1 + 4 * ((Ex.sizeL x.kids : Nat) : Int)) (by omega) (by omega) (by omega)
        have f17 := c_hV1 (vs := us) (k := 1 + 4 * ((Ex.sizeL x.kids : Nat) : Int)) (by omega) (by omega) (by omega)
        rw [Ex.cells_eq x] at f5 f7
        rw [Ex.cells_eq] at f1 f3 ⊢
        simp only [tX] at f3 f5 f6 f7 f8 f10 f13 f14
        have n4 : ¬ (1 + 4 * ((Ex.sizeL x.kids : Nat) : Int)) < 0 := by omega
        have n5 : ¬ (1 + 4 * ((Ex.sizeL x.kids : Nat) : Int) + 2 * ((us.length : Nat) : Int)) < 0 := by omega
        simp [f1, f3, f5, f6, f7, f8, f10, f13, f14, f15, f16, f17, n1, n3, n4, n5]
end Go.Proofs.Ytgpclhjdfdojhaa

/- Expressions and values that came in, as trees. No condition. -/
namespace Go.Av
theorem addr_none {w : World} {a : Addr} {v : Value} (h : w.cell? (a.add 0) = some v) : ∃ b off, a = ⟨b, off, none⟩ := by
  obtain ⟨b, off, spot⟩ := a
  simp only [Addr.add, if_true, World.cell?] at h
  cases spot with
  | none => exact ⟨b, off, rfl⟩
  | some s => split at h <;> simp at h
theorem take5 {cs : List Value} (h : cs.length = 5) : ∃ c0 c1 c2 c3 c4, cs = [c0, c1, c2, c3, c4] := by
  match cs, h with
  | [c0, c1, c2, c3, c4], _ => exact ⟨c0, c1, c2, c3, c4, rfl⟩
end Go.Av
namespace Go.Proofs.Ytgpclhjdfdojhaa
open Go Go.Av
set_option maxRecDepth 4000
variable {H : Type} {enc : TypeId × Value → H} {w : World} {sp : Nat → Bool}
theorem ce3 : Try.prog.cellsOf 3 = 1 := by kernel_rfl
theorem ce4 : Try.prog.cellsOf 4 = 1 := by kernel_rfl
theorem ce42 : Try.prog.cellsOf 42 = 2 := by kernel_rfl
theorem ce43 : Try.prog.cellsOf 43 = 1 := by kernel_rfl
theorem ce45 : Try.prog.cellsOf 45 = 5 := by kernel_rfl
theorem in_val {fuel : Nat} {cs : List Value} {r : DataW H × List MemPlace} (h : DataW.trod enc Try.prog w 0 sp true fuel 42 cs = some r) : ∃ v : Val, cs = [.bool v.null, .int .i64 v.n] := by
  obtain ⟨xs, n, rfl, _, hl, hx, hf⟩ := DataW.trod_struct Try.underlying42 h
  rw [ce42] at hl
  have h0 : DataW.trod enc Try.prog w 0 sp true n 4 ((cs.drop 0).take (Try.prog.cellsOf 4)) = xs[0]? := hf 0 _ rfl
  have h1 : DataW.trod enc Try.prog w 0 sp true n 3 ((cs.drop 1).take (Try.prog.cellsOf 3)) = xs[1]? := hf 1 _ rfl
  rw [ce4] at h0
  rw [ce3] at h1
  have hx : xs.length = 2 := hx
  rw [List.getElem?_eq_getElem (by omega)] at h0 h1
  obtain ⟨b, hb, _⟩ := DataW.trod_bool Try.underlying4 h0
  obtain ⟨k, hk, _⟩ := DataW.trod_int Try.underlying3 h1
  match cs, hl with
  | [c0, c1], _ =>
    simp at hb hk
    exact ⟨⟨b, k⟩, by rw [hb, hk]⟩
/-- The elements of a slice that came in. -/
theorem in_elems {b : Nat} {P : List Value → List IV → Prop} {k : Nat} (hk : ∀ cs l, P cs l → l.length = k ∧ ICells (memOf w) l cs) : ∀ (n off : Nat), (∀ i, i < n → ∃ cs l, P cs l ∧ ∀ j v, cs[j]? = some v → w.cell? ⟨b, off + k * i + j, none⟩ = some v) →
    ∃ es : List (List IV), es.length = n ∧ IElems (memOf w) b off k es ∧ ∀ e ∈ es, ∃ cs, P cs e
  | 0, off, _ => ⟨[], rfl, .nil _ _ _, by simp⟩
  | n + 1, off, h => by
    obtain ⟨cs, l, h1, h2⟩ := h 0 (by omega)
    obtain ⟨k1, k2⟩ := hk cs l h1
    obtain ⟨es, e1, e2, e3⟩ := in_elems hk n (off + k) (fun i hi => by
      obtain ⟨cs, l, h3, h4⟩ := h (i + 1) (by omega)
      exact ⟨cs, l, h3, fun j v hj => by rw [← h4 j v hj]; congr 2; rw [Nat.mul_add]; omega⟩)
    refine ⟨l :: es, by simp [e1], .cons (IAt.mk off k2 fun j v hj => ?_) k1 e2, ?_⟩
    · have := h2 j v hj
      show w.cell? ⟨b, off + j, none⟩ = some v
      simpa using this
    · intro e he
      rcases List.mem_cons.1 he with rfl | he
      · exact ⟨cs, h1⟩
      · exact e3 e he
theorem in_slice {fuel : Nat} {t e : TypeId} {c : Value} {r : DataW H × List MemPlace} {k : Nat} {P : List Value → List IV → Prop} (ht : Try.prog.underlying t = some (.slice e)) (hce : Try.prog.cellsOf e = k) (hk0 : 0 < k) (hk : ∀ cs l, P cs l → l.length = k ∧ ICells (memOf w) l cs)
    (ih : ∀ n, n < fuel → ∀ cs x, DataW.trod enc Try.prog w 0 sp true n e cs = some x → ∃ l, P cs l) (h : DataW.trod enc Try.prog w 0 sp true fuel t [c] = some r) :
    ∃ es : List (List IV), IRep (memOf w) (.isl es) c ∧ es.length < 9223372036854775808 ∧ ∀ x ∈ es, ∃ cs, P cs x := by
  rcases DataW.trod_slice ht h with ⟨h1, _⟩ | ⟨a, len, cap, elems, rest, n, rfl, h1, _, _, hlc, hcm, hel, hat, _, _⟩
  · injection h1 with h1; subst h1
    exact ⟨[], .isl0 _ _ fun _ => rfl, by simp, by simp⟩
  · injection h1 with h1; subst h1
    by_cases h0 : len = 0
    · subst h0; exact ⟨[], .isl0 _ _ (by simp), by simp, by simp⟩
    · rw [hce] at hat
      have get : ∀ i, i < len → ∃ cs l, P cs l ∧ cs.length = k ∧ ∀ j, j < k → w.cell? ((a.add (i * k)).add j) = cs[j]? := by
        intro i hi
        have h2 := hat i hi
        rw [List.getElem?_eq_getElem (by omega)] at h2
        obtain ⟨cs, h3, h4⟩ := Option.bind_eq_some_iff.1 h2
        obtain ⟨_, h5, h6⟩ := World.cells?_some h3
        obtain ⟨l, h7⟩ := ih n (by omega) cs _ h4
        exact ⟨cs, l, h7, h5, h6⟩
      obtain ⟨b, off, rfl⟩ : ∃ b off, a = ⟨b, off, none⟩ := by
        obtain ⟨cs, l, _, h5, h6⟩ := get 0 (by omega)
        have h7 := h6 0 hk0
        rw [List.getElem?_eq_getElem (by omega)] at h7
        refine addr_none (v := cs[0]'(by omega)) (w := w) ?_
        rw [← h7, Nat.zero_mul]
        congr 1
      obtain ⟨es, e1, e2, e3⟩ := in_elems (b := b) hk len off (fun i hi => by
        obtain ⟨cs, l, h4, h5, h6⟩ := get i hi
        refine ⟨cs, l, h4, fun j v hj => ?_⟩
        have hjl := (List.getElem?_eq_some_iff.1 hj).1
        have := h6 j (by omega)
        rw [hj, Addr.add_none, Addr.add_none] at this
        rw [← this, Nat.mul_comm k i])
      refine ⟨es, ?_, by rw [e1]; unfold maxLen at hcm; omega, e3⟩
      have hne : es ≠ [] := fun h => by rw [h] at e1; simp at e1; omega
      have := IRep.isl (m := memOf w) (cap := cap) hne e2 (by omega)
      rwa [e1] at this
/-- An expression that came in. -/
theorem in_exp : ∀ (fuel : Nat) (cs : List Value) (r : DataW H × List MemPlace), DataW.trod enc Try.prog w 0 sp true fuel 45 cs = some r → ∃ e : Ex, e.fat ∧ ICells (memOf w) e.cells cs := by
  intro fuel
  induction fuel using Nat.strongRecOn with
  | _ fuel ih =>
    intro cs r h
    obtain ⟨xs, n, rfl, _, hl, hx, hf⟩ := DataW.trod_struct Try.underlying45 h
    rw [ce45] at hl
    have h0 : DataW.trod enc Try.prog w 0 sp true n 3 ((cs.drop 0).take (Try.prog.cellsOf 3)) = xs[0]? := hf 0 _ rfl
    have h1 : DataW.trod enc Try.prog w 0 sp true n 3 ((cs.drop 1).take (Try.prog.cellsOf 3)) = xs[1]? := hf 1 _ rfl
    have h2 : DataW.trod enc Try.prog w 0 sp true n 42 ((cs.drop 2).take (Try.prog.cellsOf 42)) = xs[2]? := hf 2 _ rfl
    have h3 : DataW.trod enc Try.prog w 0 sp true n 43 ((cs.drop 4).take (Try.prog.cellsOf 43)) = xs[3]? := hf 3 _ rfl
    rw [ce3] at h0 h1
    rw [ce42] at h2
    rw [ce43] at h3
    have hx : xs.length = 4 := hx
    rw [List.getElem?_eq_getElem (by omega)] at h0 h1 h2 h3
    obtain ⟨c0, c1, c2, c3, c4, rfl⟩ := take5 hl
    obtain ⟨k0, hk0, _⟩ := DataW.trod_int Try.underlying3 h0
    obtain ⟨k1, hk1, _⟩ := DataW.trod_int Try.underlying3 h1
    obtain ⟨v, hv⟩ := in_val h2
    simp at hk0 hk1 hv
    obtain ⟨rfl, rfl⟩ := hv
    subst hk0; subst hk1
    simp at h3
    obtain ⟨es, e1, e2, e3⟩ := in_slice (P := fun cs l => ∃ e : Ex, e.fat ∧ l = e.cells ∧ ICells (memOf w) l cs) Try.underlying43 ce45 (by omega) (fun cs l ⟨e, _, h5, h6⟩ => ⟨by rw [h5, Ex.cells_eq]; rfl, h6⟩)
      (fun m hm cs x hx => by
        obtain ⟨e, h5, h6⟩ := ih m (by omega) cs x hx
        exact ⟨e.cells, e, h5, rfl, h6⟩) h3
    have hl : ∃ l : List Ex, Ex.cellsL l = es ∧ ∀ a ∈ l, a.fat := by
      have key : ∀ es : List (List IV), (∀ x ∈ es, ∃ cs, ∃ e : Ex, e.fat ∧ x = e.cells ∧ ICells (memOf w) x cs) → ∃ l : List Ex, Ex.cellsL l = es ∧ ∀ a ∈ l, a.fat := by
        intro es
        induction es with
        | nil => intro _; exact ⟨[], rfl, by simp⟩
        | cons x es ihe =>
          intro h
          obtain ⟨_, e, h5, h6, _⟩ := h x (by simp)
          obtain ⟨l, h7, h8⟩ := ihe fun y hy => h y (by simp [hy])
          exact ⟨e :: l, by simp [Ex.cellsL, h6, h7], fun a ha => by
            rcases List.mem_cons.1 ha with rfl | ha
            · exact h5
            · exact h8 a ha⟩
      exact key es e3
    obtain ⟨l, rfl, hfat⟩ := hl
    refine ⟨.mk k0 k1 v l, (Ex.fat_iff _).2 ⟨by rw [kids_mk]; simpa using e2, hfat⟩, ?_⟩
    rw [cells_mk]
    exact .cons (.lit _) rfl (.cons (.lit _) rfl (.cons (.lit _) rfl (.cons (.lit _) rfl (.cons e1 (isl_one e1) .nil))))
/-- Values that came in. -/
theorem in_vals {fuel : Nat} {c : Value} {r : DataW H × List MemPlace} (h : DataW.trod enc Try.prog w 0 sp true fuel 56 [c] = some r) : ∃ vs : List Val, vs.length < 9223372036854775808 ∧ IRep (memOf w) (.isl (valsL vs)) c := by
  obtain ⟨es, e1, e2, e3⟩ := in_slice (P := fun cs l => ∃ v : Val, l = [.bool v.null, .int v.n] ∧ cs = [.bool v.null, .int .i64 v.n]) Try.underlying56 ce42 (by omega) (fun cs l ⟨v, h5, h6⟩ => ⟨by rw [h5]; rfl, by rw [h5, h6]; exact .cons (.lit _) rfl (.cons (.lit _) rfl .nil)⟩)
    (fun m hm cs x hx => by obtain ⟨v, hv⟩ := in_val hx; exact ⟨_, v, rfl, hv⟩) h
  have key : ∀ es : List (List IV), (∀ x ∈ es, ∃ cs : List Value, ∃ v : Val, x = [.bool v.null, .int v.n] ∧ cs = [.bool v.null, .int .i64 v.n]) → ∃ l : List Val, valsL l = es := by
    intro es
    induction es with
    | nil => intro _; exact ⟨[], rfl⟩
    | cons x es ihe =>
      intro h
      obtain ⟨_, v, h5, _⟩ := h x (by simp)
      obtain ⟨l, h7⟩ := ihe fun y hy => h y (by simp [hy])
      exact ⟨v :: l, by simp [valsL, h5, h7]⟩
  obtain ⟨l, rfl⟩ := key es e3
  exact ⟨l, by simpa using e2, e1⟩
/-! ### The laws' contracts -/
theorem lawX_bind_calls {e : Ex} {v : Value} {k : Int} {vs : List Val} {c : Value} (hf : e.fat) (he : IRep (memOf w) (.agg e.cells) v) (hk0 : -9223372036854775808 ≤ k) (hk1 : k < 9223372036854775808) (hl : vs.length < 9223372036854775808) (hv : IRep (memOf w) (.isl (valsL vs)) c) :
    Calls Try.prog 7 #[v, .int .i64 k, c] w fun e w' => e = .returned (.bool true) ∧ RowKit.Below w.heap.size w w' :=
  calls_true soundL (.cons (.i he) (.cons (.i (.lit _)) (.cons (.i hv) .nil))) (lawX_bind hf hl hk0 hk1)
theorem lawX_extract_calls {e : Ex} {v : Value} {k : Int} (hf : e.fat) (he : IRep (memOf w) (.agg e.cells) v) :
    Calls Try.prog 6 #[v, .int .i64 k] w fun e w' => e = .returned (.bool true) ∧ RowKit.Below w.heap.size w w' :=
  calls_true soundL (.cons (.i he) (.cons (.i (.lit _)) .nil)) (lawX_extract hf)
end Go.Proofs.Ytgpclhjdfdojhaa

/- The executor's relation, with places in memory that hold expressions, and which block is whose. No condition. -/
namespace Go.Av.V
open Go.Av
/-- A block of so many cells at least. -/
def RL (w : World) (b n : Nat) : Prop := ∃ (vs : List Value) (T : TypeId), w.heap[b]? = some (.cells vs.toArray T (0, 0)) ∧ n ≤ vs.length
theorem RL.lt {w : World} {b n : Nat} (h : RL w b n) : b < w.heap.size := by
  obtain ⟨vs, T, e, _⟩ := h
  exact (Array.getElem?_eq_some_iff.1 e).1
/-- An expression, and in which block its kids have been put. -/
abbrev Nd := Ex × Option (Nat × Nat)
/-- A place in memory that is new since a heap's size, not owned, and holds an expression. -/
structure PF (B : Nat) (w : World) (m : Mem) (φ : Pl) (b o : Nat) (y : Nd) : Prop where
  new : B ≤ b
  row : ∃ (vs : List Value) (T : TypeId), w.heap[b]? = some (.cells vs.toArray T (0, 0))
  free : Free φ b
  cel : IAt m b o y.1.cells
  lit : ∀ b' cap, y.2 = some (b', cap) → m b (o + 4) = some (.slice (some ⟨b', 0, none⟩) y.1.kids.length cap) ∧ B ≤ b' ∧ Free φ b' ∧ RL w b' (5 * cap)
abbrev KL := List ((Nat × Nat) × Nd)
theorem PF.lt {B : Nat} {w : World} {m : Mem} {φ : Pl} {b o : Nat} {x : Nd} (h : PF B w m φ b o x) : b < w.heap.size := by
  obtain ⟨vs, T, e⟩ := h.row
  exact (Array.getElem?_eq_some_iff.1 e).1
theorem PF.adv {B : Nat} {w w' : World} {m m' : Mem} {φ φ' : Pl} {b o : Nat} {x : Nd} (h : PF B w m φ b o x) (k : Adv w m φ w' m' φ') : PF B w' m' φ' b o x := by
  refine ⟨h.new, ?_, k.range h.lt h.free, h.cel.mono k.mle, fun b' cap e => ?_⟩
  · rw [k.block b h.lt h.free]; exact h.row
  · obtain ⟨h1, h2, h3, h4⟩ := h.lit b' cap e
    refine ⟨k.mle _ _ _ h1, h2, k.range h4.lt h3, ?_⟩
    obtain ⟨vs, T, e1, e2⟩ := h4
    exact ⟨vs, T, by rw [k.block b' (Array.getElem?_eq_some_iff.1 e1).1 h3]; exact e1, e2⟩
/-- The state, with places. -/
structure GG (wi : World) (mi : Mem) (nt : Nat) (ok : Nat → Prop) (K : KL) (env : Nat → AV) (st : Store) (a : Act) (w : World) : Prop where
  out : ∃ m φ, Inv w m φ st ∧ (∀ t, Rep m φ (env t) (a.tmps.getD t undef)) ∧ Adv wi mi (fun _ => none) w m φ ∧ (∀ id, φ id ≠ none → ok id) ∧ ∀ k ∈ K, PF wi.heap.size w m φ k.1.1 k.1.2 k.2
  size : nt ≤ a.tmps.size
  defers : a.defers = []
section
variable {C : Ctx} {wi : World} {mi : Mem} {nt : Nat}
theorem GG.ofA {ok ok' : Nat → Prop} {K : KL} {env env' : Nat → AV} {st st' : Store} {a a' : Act} {w w' : World} {m : Mem} {φ : Pl} (h3 : Adv wi mi (fun _ => none) w m φ) (h5 : ∀ k ∈ K, PF wi.heap.size w m φ k.1.1 k.1.2 k.2) (h : ARel w m φ nt ok' env' st' a' w') : GG wi mi nt ok' K env' st' a' w' := by
  obtain ⟨⟨m', φ', k1, k2, k3, k4⟩, k5, k6⟩ := h
  exact ⟨⟨m', φ', k1, k2, h3.trans k3, k4, fun k hk => (h5 k hk).adv k3⟩, k5, k6⟩
theorem GG.code (hC : CtxOk C) {call : CallF} (hcall : CallOk C call) (hdraw : DrawOk C call) {G : List Nat} {n : Nat} {c : Code} {S S' : AS} {e : AExit} {a : Act} {w : World} {K : KL} (hc : codeOk nt c = true) (hx : exec C call G S.st.length n c S = some (e, S')) (h : GG wi mi nt (fun id => id < S.st.length) K (envOf S.env) (stOf S.st) a w) :
    c.wp C.P (fun e' a' w' => e' = exitOf e ∧ GG wi mi nt (fun id => id < S'.st.length) K (envOf S'.env) (stOf S'.st) a' w') a w := by
  obtain ⟨⟨m, φ, h1, h2, h3, h4, h5⟩, h6, h7⟩ := h
  refine wp_mono (exec_sound hC hcall hdraw h4 n c S S' e a w hc hx ⟨⟨⟨m, φ, h1, h2, .refl _ _ _, h4⟩, h6, h7⟩, Nat.le_refl _⟩) ?_
  rintro e' a' w' ⟨rfl, k⟩
  exact ⟨rfl, .ofA (ok := fun _ => True) (env := fun _ => .junk) (st := st0) (a := a) h3 h5 k.1⟩
where st0 : Store := fun _ => none
/-- Some operations of a region, as the executor runs them. -/
theorem GG.ops (hC : CtxOk C) {call : CallF} (hcall : CallOk C call) {ops : Array Oper} {Q : Exit → Act → World → Prop} {base : Nat} {js : List Nat} {K : KL} (hs : ∀ o ∈ ops, operOk nt o = true) {os : List Oper} {i : Nat} {R R' : RS} {a : Act} {w : World} (hl : ∀ j, j < os.length → os[j]? = ops[i + j]?) (hx : runOps C call ops.toList false base os i R = some R')
    (h : GG wi mi nt (okIn base fun j => j < i) K R.env R.st a w) (hQ : ∀ a' w', GG wi mi nt (okIn base fun j => j < i + os.length) K R'.env R'.st a' w' → wpOps C.P ops Q js a' w') : wpOps C.P ops Q (List.range' i os.length ++ js) a w := by
  obtain ⟨⟨m, φ, h1, h2, h3, h4, h5⟩, h6, h7⟩ := h
  exact runOps_wp_pre hC hcall hs os i R R' a w hl hx ⟨⟨m, φ, h1, h2, .refl _ _ _, h4⟩, h6, h7⟩ fun a' w' k => hQ a' w' (.ofA (ok := fun _ => True) (env := fun _ => .junk) (st := fun _ => none) (a := a) h3 h5 k)
theorem GG.settle {ok : Nat → Prop} {K : KL} {env : Nat → AV} {st : Store} {a : Act} {w : World} (G : List Nat) (h : GG wi mi nt ok K env st a w) :
    GG wi mi nt (fun id => id < (settle G 0 env st).st.length) K (envOf (settle G 0 env st).env) (stOf (settle G 0 env st).st) a w := by
  obtain ⟨⟨m, φ, hi, henv, hadv, hok, hK⟩, hsz, hdf⟩ := h
  unfold Av.settle settleW
  generalize hids : keepIds st 0 (envAt env G) = ids
  have hd : ids.Nodup := by rw [← hids]; exact keepIds_nodup _ _ _
  have hfree : ∀ b, Free φ b → Free (keepP ids φ) b := by
    intro b hb id r n e
    unfold keepP at e
    cases hx : ids[id]? with
    | none => rw [hx] at e; cases e
    | some j => rw [hx] at e; exact hb j r n e
  refine ⟨⟨m, keepP ids φ, hi.keep hd, ?_, hadv.keep (fun id h => absurd rfl h) (fun j hj => absurd hj (Nat.not_lt_zero j)), ?_, fun k hk => ⟨(hK k hk).new, (hK k hk).row, hfree _ (hK k hk).free, (hK k hk).cel, fun b' cap e => by
    obtain ⟨h1, h2, h3, h4⟩ := (hK k hk).lit b' cap e
    exact ⟨h1, h2, hfree _ h3, h4⟩⟩⟩, hsz, hdf⟩
  · intro t
    have key : ∀ G : List Nat, Rep m (keepP ids φ) (envOf (keepEnv (posOf ids) env G) t) (a.tmps.getD t undef) := by
      intro G
      induction G with
      | nil => exact .junk _
      | cons u G ih =>
        simp only [keepEnv, envOf]
        by_cases e : t = u
        · subst e; simp only [if_true]; exact (henv t).ren (keepP_ren ids φ)
        · simp only [e, if_false]; exact ih
    exact key G
  · intro id hne
    simp only [takeSt_len]
    unfold keepP at hne
    cases hx : ids[id]? with
    | none => rw [hx] at hne; exact absurd rfl hne
    | some i => exact (List.getElem?_eq_some_iff.1 hx).1
/-- A place's pointer, seen as what it leads to. -/
theorem GG.see {ok : Nat → Prop} {K : KL} {env : Nat → AV} {st : Store} {a : Act} {w : World} {u b o : Nat} {x : Nd} (h : GG wi mi nt ok K env st a w) (hu : env u = .i (.lit (.pointer (some ⟨b, o, none⟩)))) (hk : ((b, o), x) ∈ K) : GG wi mi nt ok K (upd env u (.i (.iref x.1.cells))) st a w := by
  obtain ⟨⟨m, φ, hi, henv, hadv, hok, hK⟩, hsz, hdf⟩ := h
  refine ⟨⟨m, φ, hi, fun t => ?_, hadv, hok, hK⟩, hsz, hdf⟩
  simp only [upd]
  split
  · rename_i e; subst e
    have := henv t; rw [hu] at this
    rw [this.lit_eq]
    exact .i (.iref (hK _ hk).cel)
  · exact henv t
theorem GG.envTo {ok : Nat → Prop} {K : KL} {env env' : Nat → AV} {st : Store} {a : Act} {w : World} (h : GG wi mi nt ok K env st a w) (he : ∀ t, env' t = .junk ∨ env' t = env t) : GG wi mi nt ok K env' st a w := by
  obtain ⟨⟨m, φ, hi, henv, hadv, hok, hK⟩, hsz, hdf⟩ := h
  refine ⟨⟨m, φ, hi, fun t => ?_, hadv, hok, hK⟩, hsz, hdf⟩
  rcases he t with e | e
  · rw [e]; exact .junk _
  · rw [e]; exact henv t
theorem GG.ok' {ok ok' : Nat → Prop} {K : KL} {env : Nat → AV} {st : Store} {a : Act} {w : World} (h : GG wi mi nt ok K env st a w) (he : ∀ id, ok id → ok' id) : GG wi mi nt ok' K env st a w := by
  obtain ⟨⟨m, φ, hi, henv, hadv, hok, hK⟩, hsz, hdf⟩ := h
  exact ⟨⟨m, φ, hi, henv, hadv, fun id h => he id (hok id h), hK⟩, hsz, hdf⟩
end
end Go.Av.V

/- One cell turned, with blocks that belong to places. No condition. -/
namespace Go.Av.V
open Go.Av
section
variable {C : Ctx} {wi : World} {mi : Mem}
/-- The cell of the kids of a place, turned to a slice of the same kids. -/
theorem store_turn {w : World} {m : Mem} {φ : Pl} {st : Store} {K : KL} {b o : Nat} {y : Nd} {x : Ex} (hyx : y.1 = x) {v : Value} {t : TypeId} (ht : szOf C.P t = some 1) (hi : Inv w m φ st) (hst : StLit st) (hadv : Adv wi mi (fun _ => none) w m φ) (hmi : MemOk wi mi)
    (hK : ∀ k ∈ K, PF wi.heap.size w m φ k.1.1 k.1.2 k.2) (hk : ((b, o), y) ∈ K) (hnl : ∀ k ∈ K, k.1 = (b, o) → k.2.2 = none) (hv : IRep m (.isl (Ex.cellsL x.kids)) v) :
    ∃ w' m', (Instr.storeAt t (.pointer (some ⟨b, o + 4, none⟩)) v).run C.P w = .ok () w' ∧ Inv w' m' φ st ∧ Adv wi mi (fun _ => none) w' m' φ ∧ (∀ k ∈ K, PF wi.heap.size w' m' φ k.1.1 k.1.2 k.2) ∧
      IAt m' b o [.int x.kind, .int x.col, .bool x.val.null, .int x.val.n, .lit v] ∧ (∀ c n, RL w c n → RL w' c n) := by
  have hp := hK _ hk
  subst hyx
  obtain ⟨u, hx⟩ := exAt_of hp.cel
  obtain ⟨vs, T, hrow⟩ := hp.row
  have hone := isl_one hv
  have hcells : v.cells.toList = [v] := by
    rcases isl_inv hv with ⟨_, ao, cap, rfl⟩ | ⟨_, b', off, k', cap, rfl, _⟩ <;> rfl
  have hcsz : v.cells.size = 1 := by rw [← Array.length_toList, hcells]; rfl
  have hlen : o + 4 < vs.length := by
    have := hi.mem _ _ _ hx.c4
    simp only [World.cell?, hrow, Option.isSome_none] at this
    have h2 : vs.toArray[o + 4]? = some u := by simpa using this
    have := (Array.getElem?_eq_some_iff.1 h2).1
    simpa using this
  have hrun := storeVar_run (P := C.P) (t := t) (v := v) (off := o + 4) (by rw [hcsz]; exact ht) hrow (by omega) (by rw [hcells]; simpa using hone)
  rw [hcells, hcsz] at hrun
  generalize hvs' : vs.take (o + 4) ++ [v] ++ vs.drop (o + 4 + 1) = vs' at hrun
  have hheap : (w.setRow b vs'.toArray).heap[b]? = some (.cells vs'.toArray T (0, 0)) := setRow_heap w b _ _ T (0, 0) hrow
  have hother : ∀ k, k ≠ b → (w.setRow b vs'.toArray).heap[k]? = w.heap[k]? := fun k hk => setRow_other w b k _ hk
  have hget : ∀ j, vs'[j]? = if j = o + 4 then some v else vs[j]? := by
    intro j
    subst hvs'
    have hs : vs.take (o + 4) ++ [v] ++ vs.drop (o + 4 + 1) = vs.set (o + 4) v := by
      rw [List.set_eq_take_append_cons_drop]; simp [hlen]
    rw [hs, List.getElem?_set]
    by_cases e : o + 4 = j
    · subst e; simp [hlen]
    · simp [e, Ne.symm e]
  refine ⟨w.setRow b vs'.toArray, turn m b (o + 4) v, ?_, ?_, ?_, ?_, ?_, ?_⟩
  · simp only [Instr.storeAt, Instr.sureAddr, Sem.run_bind, Sem.run_pure, Result.andThen_ok]; exact hrun
  · refine ⟨?_, ?_, hi.inj⟩
    · intro b1 o1 q hq
      unfold turn at hq
      by_cases e1 : b1 = b
      · subst e1
        simp only [World.cell?, hheap, Option.isSome_none]
        have : vs'.toArray[o1]? = some q := by
          rw [List.getElem?_toArray, hget]
          split at hq
          · rename_i e; rw [if_pos e.2]; exact hq
          · rename_i e
            have e2 : o1 ≠ o + 4 := fun h => e ⟨rfl, h⟩
            rw [if_neg e2]
            have := hi.mem _ _ _ hq
            simp only [World.cell?, hrow, Option.isSome_none] at this
            simpa using this
        simpa using this
      · rw [if_neg (fun h => e1 h.1)] at hq
        have := hi.mem _ _ _ hq
        simp only [World.cell?] at this ⊢
        rw [hother b1 e1]; exact this
    · intro id blk hb
      obtain ⟨b2, n2, h1, h2, h3⟩ := hi.live id blk hb
      have hne : b2 ≠ b := fun e => hp.free id b2 n2 h1 (by rw [← e]; exact h2.1)
      refine ⟨b2, n2, h1, ⟨h2.1, fun f hf => by simpa [World.setRow] using h2.2 f hf⟩, h3.mlit (hst id blk hb) (hother b2 hne) fun o' ho' => ?_⟩
      unfold turn; rw [if_neg (fun h => hne h.1)]; exact ho'
  · refine ⟨by simpa [World.setRow] using hadv.size, hadv.os, hadv.tape, hadv.output, ?_, ?_, ?_, hadv.ple, hadv.pnew⟩
    · intro k hk hn
      rw [hother k (by have h3 : wi.heap.size ≤ b := hp.new; omega)]; exact hadv.block k hk hn
    · intro b1 o1 q hq
      have h1 := hadv.mle _ _ _ hq
      unfold turn
      rw [if_neg ?_]; · exact h1
      rintro ⟨rfl, _⟩
      have h2 := hmi _ _ _ hq
      have h3 : wi.heap.size ≤ b1 := hp.new
      simp only [World.cell?] at h2
      cases h4 : wi.heap[b1]? with
      | none => rw [h4] at h2; cases h2
      | some z => have := (Array.getElem?_eq_some_iff.1 h4).1; omega
    · intro k hk hn o'
      have h3 : wi.heap.size ≤ b := hp.new
      unfold turn
      rw [if_neg (fun h => by have := h.1; omega)]
      exact hadv.mnew k hk hn o'
  · intro k hk
    have h := hK k hk
    have hvl : vs'.length = vs.length := by subst hvs'; simp; omega
    refine ⟨h.new, ?_, h.free, turn_at hx hv _ _ _ h.cel, fun b' cap e => ?_⟩
    · by_cases e : k.1.1 = b
      · rw [e]; exact ⟨vs', T, hheap⟩
      · rw [hother _ e]; exact h.row
    · obtain ⟨h1, h2, h3, h4⟩ := h.lit b' cap e
      refine ⟨?_, h2, h3, ?_⟩
      · unfold turn
        rw [if_neg]
        · exact h1
        · rintro ⟨e1, e2⟩
          have := hnl k hk (by rw [← e1, show o = k.1.2 by omega])
          rw [this] at e; cases e
      · obtain ⟨vs2, T2, e1, e2⟩ := h4
        by_cases eb : b' = b
        · subst eb
          rw [hrow] at e1
          injection e1 with e1; injection e1 with e1 _
          have : vs = vs2 := by simpa using congrArg Array.toList e1
          subst this
          exact ⟨vs', T, hheap, by omega⟩
        · exact ⟨vs2, T2, by rw [hother _ eb]; exact e1, e2⟩
  · have low : ∀ i, i < 4 → ∀ q, m b (o + i) = some q → turn m b (o + 4) v b (o + i) = some q := by
      intro i hi q hq
      unfold turn; rw [if_neg (by rintro ⟨_, h⟩; omega)]; exact hq
    refine .cons (by simpa using low 0 (by omega) _ (by simpa using hx.c0)) (.lit _) rfl (.cons (low 1 (by omega) _ hx.c1) (.lit _) rfl (.cons (low 2 (by omega) _ hx.c2) (.lit _) rfl (.cons (low 3 (by omega) _ hx.c3) (.lit _) rfl (.cons ?_ (.lit _) hone (.nil _ _)))))
    unfold turn; rw [if_pos ⟨rfl, rfl⟩]
  · rintro c n ⟨vs2, T2, e1, e2⟩
    have hvl : vs'.length = vs.length := by subst hvs'; simp; omega
    by_cases eb : c = b
    · subst eb
      rw [hrow] at e1
      injection e1 with e1; injection e1 with e1 _
      have : vs = vs2 := by simpa using congrArg Array.toList e1
      subst this
      exact ⟨vs', T, hheap, by omega⟩
    · exact ⟨vs2, T2, by rw [hother _ eb]; exact e1, e2⟩
end
end Go.Av.V

/- What a call has made is given up to memory, with blocks that belong to places. No condition. -/
namespace Go.Av.V
open Go.Av
def kidsAt (b : Nat) : Nat → List Ex → KL
  | _, [] => []
  | o, x :: l => ((b, o), (x, none)) :: kidsAt b (o + 5) l
theorem kidsAt_mem {b : Nat} : ∀ {o : Nat} {l : List Ex} {i : Nat} {x : Ex}, l[i]? = some x → ((b, o + 5 * i), (x, none)) ∈ kidsAt b o l
  | _, [], _, _, h => by simp at h
  | o, a :: l, 0, x, h => by simp at h; subst h; simp [kidsAt]
  | o, a :: l, i + 1, x, h => by
    have := kidsAt_mem (b := b) (o := o + 5) (l := l) (i := i) (x := x) (by simpa using h)
    simp only [kidsAt, List.mem_cons]
    exact .inr (by rw [show o + 5 * (i + 1) = o + 5 + 5 * i by omega]; exact this)
theorem kidsAt_cel {m : Mem} {b : Nat} : ∀ {o k : Nat} {l : List Ex}, IElems m b o k (Ex.cellsL l) → ∀ p ∈ kidsAt b o l, p.1.1 = b ∧ p.2.2 = none ∧ IAt m p.1.1 p.1.2 p.2.1.cells
  | _, _, [], _, p, hp => by simp [kidsAt] at hp
  | o, k, a :: l, h, p, hp => by
    obtain ⟨rfl, h1, h2⟩ := elems_inv h
    simp only [kidsAt, List.mem_cons] at hp
    rcases hp with rfl | hp
    · exact ⟨rfl, rfl, h1⟩
    · exact kidsAt_cel h2 p hp
section
variable {C : Ctx} {wi : World} {mi : Mem}
theorem froz_osl {w : World} {m : Mem} {φ : Pl} {st st' : Store} {K : KL} {id : Nat} {v : Value} {ks : List Ex} (hks : ks ≠ []) (hi : Inv w m φ st) (hr : Rep m φ (.osl id 5 0 ks.length) v) (hid : st id = some (.arr 5 (Ex.cellsL ks))) (hadv : Adv wi mi (fun _ => none) w m φ)
    (hK : ∀ k ∈ K, PF wi.heap.size w m φ k.1.1 k.1.2 k.2) (hst : ∀ i blk, st' i = some blk → i ≠ id ∧ st i = some blk ∧ LitBlk blk) :
    ∃ b' cap m1 φ2, v = .slice (some ⟨b', 0, none⟩) ks.length cap ∧ Inv w m1 φ2 st' ∧ Adv wi mi (fun _ => none) w m1 φ2 ∧ (∀ k ∈ K ++ kidsAt b' 0 ks, PF wi.heap.size w m1 φ2 k.1.1 k.1.2 k.2) ∧ IRep m1 (.isl (Ex.cellsL ks)) v ∧
      (∀ i, st' i ≠ none → φ2 i = φ i) ∧ (∀ i, φ2 i ≠ none → st' i ≠ none) ∧
      (wi.heap.size ≤ b' ∧ Free φ2 b' ∧ RL w b' (5 * cap)) ∧ (∀ f, Free φ f → f ≠ b') := by
  have hlen : 0 < ks.length := List.length_pos_iff.2 hks
  have hfr : frzV st (.osl id 5 0 ks.length) = some (.isl (Ex.cellsL ks), upd st id (some (.frz 5 (Ex.cellsL ks)))) := by
    simp [frzV, frz, fuelF, frzSl, hid, tst, window, bnd, frzIds, List.take_of_length_le]
  obtain ⟨m1, k1, k2, k3⟩ := frzV_sound hi hr hfr
  cases hr with
  | @osl _ _ _ _ cap b' n' ao eφ hlc hcap ha1 ha2 =>
    have hao := ha1 (by omega)
    subst hao
    obtain ⟨hb, hok⟩ := blk_own hi eφ hid
    have hrl : RL w b' (5 * cap) := by
      cases hok with | arr h1 h2 => exact ⟨_, _, h1, by rw [h2]; simpa using hcap⟩
    have hrow : ∃ (vs : List Value) (T : TypeId), w.heap[b']? = some (.cells vs.toArray T (0, 0)) := by
      obtain ⟨vs, T, e, _⟩ := hrl
      exact ⟨vs, T, e⟩
    have hnew : wi.heap.size ≤ b' := by
      rcases hadv.pnew id b' n' b' eφ hb.1 with h | h
      · exact h
      · exact absurd (fun id b n e => by cases e) h
    have dec : ∀ i, st' i = none ∨ st' i ≠ none := fun i => by cases st' i <;> simp
    let φ2 : Pl := fun i => match st' i with
      | some _ => φ i
      | none => none
    have hφ2 : ∀ i, st' i ≠ none → φ2 i = φ i := fun i h => by
      show (match st' i with | some _ => φ i | none => none) = φ i
      cases e : st' i with
      | none => exact absurd e h
      | some _ => rfl
    have hφ2n : ∀ i, φ2 i ≠ none → st' i ≠ none := fun i h e => h (by
      show (match st' i with | some _ => φ i | none => none) = none
      rw [e])
    have hsub : ∀ i p, φ2 i = some p → φ i = some p ∧ st' i ≠ none := fun i p h => by
      have h1 := hφ2n i (by rw [h]; simp)
      exact ⟨by rw [← hφ2 i h1]; exact h, h1⟩
    have hA1 := hadv.trans k3
    have hfree2 : Free φ2 b' := by
      intro i r n e ho
      obtain ⟨h1, h2⟩ := hsub _ _ e
      cases hb2 : st' i with
      | none => exact h2 hb2
      | some blk =>
        obtain ⟨q1, q2, _⟩ := hst i blk hb2
        exact q1 (hi.inj i id r b' n n' blk _ b' q2 hid h1 eφ ho hb.1)
    refine ⟨b', cap, m1, φ2, by simp, ?_, ?_, ?_, k1, hφ2, hφ2n, ⟨hnew, hfree2, hrl⟩, fun f hf e => hf id b' n' eφ (e ▸ hb.1)⟩
    · refine ⟨k2.mem, ?_, ?_⟩
      · intro i blk hb'
        obtain ⟨h1, h2, h3⟩ := hst i blk hb'
        have h4 : upd st id (some (.frz 5 (Ex.cellsL ks))) i = some blk := by simp [upd, h1, h2]
        obtain ⟨b, n, q1, q2, q3⟩ := k2.live i blk h4
        exact ⟨b, n, by rw [hφ2 i (by rw [hb']; simp)]; exact q1, q2, q3.mlit h3 rfl fun o h => h⟩
      · intro i j b bx n n2 b1 b2 f h1 h2 h3 h4 o1 o2
        obtain ⟨q1, q2, _⟩ := hst i b1 h1
        obtain ⟨r1, r2, _⟩ := hst j b2 h2
        exact hi.inj i j b bx n n2 b1 b2 f q2 r2 (hsub _ _ h3).1 (hsub _ _ h4).1 o1 o2
    · refine ⟨hA1.size, hA1.os, hA1.tape, hA1.output, hA1.block, hA1.mle, hA1.mnew, (fun _ _ _ h => by cases h), ?_⟩
      intro i b n f h2 ho
      exact hA1.pnew i b n f (hsub _ _ h2).1 ho
    · intro k hk
      rcases List.mem_append.1 hk with hk | hk
      · have h := hK k hk
        exact ⟨h.new, h.row, fun i r n e => h.free i r n (hsub _ _ e).1, h.cel.mono k3.mle, fun b2 c2 e => by
          obtain ⟨h1, h2, h3, h4⟩ := h.lit b2 c2 e
          exact ⟨k3.mle _ _ _ h1, h2, fun i r n e => h3 i r n (hsub _ _ e).1, h4⟩⟩
      · have hel : IElems m1 b' 0 5 (Ex.cellsL ks) := by
          rcases isl_inv k1 with ⟨e1, _⟩ | ⟨_, b2, off, k', cap', hv, hel, _⟩
          · exact absurd (by cases ks with | nil => rfl | cons a l => simp [Ex.cellsL] at e1) hks
          · injection hv with q1 _ _
            injection q1 with q1; injection q1 with q1 q2; subst q1; subst q2
            cases ks with
            | nil => exact absurd rfl hks
            | cons a l => obtain ⟨rfl, _⟩ := elems_inv hel; exact hel
        obtain ⟨e1, e3, e2⟩ := kidsAt_cel hel k hk
        exact ⟨by rw [e1]; exact hnew, by rw [e1]; exact hrow, by rw [e1]; exact hfree2, e2, fun b2 c2 e => by rw [e3] at e; cases e⟩
end
end Go.Av.V

/- A box given up to memory; the worklist's step, with blocks that belong to places. No condition. -/
namespace Go.Av.V
open Go.Av
section
variable {C : Ctx} {wi : World} {mi : Mem} {nt : Nat}
theorem GG.codeA (hS : SoundOk C) {G : List Nat} {c : Code} {S S' : AS} {e : AExit} {a : Act} {w : World} {K : KL} (hc : codeOk nt c = true) (hx : execA C G S.st.length c S = some (e, S')) (h : GG wi mi nt (fun id => id < S.st.length) K (envOf S.env) (stOf S.st) a w) :
    c.wp C.P (fun e' a' w' => e' = exitOf e ∧ GG wi mi nt (fun id => id < S'.st.length) K (envOf S'.env) (stOf S'.st) a' w') a w := by
  obtain ⟨n, hn⟩ := (execA_iff _).1 hx
  exact GG.code hS.ctx (callA_sound hS) (hS.draw _ (callA_sound hS)) hc hn h
/-- Ownership kept for some blocks only. -/
theorem drop_ids {w : World} {m m1 : Mem} {φ : Pl} {st st1 st' : Store} {K : KL} {id b' : Nat} {n' : Ext} {blk0 : Blk} (hi : Inv w m φ st) (k2 : Inv w m1 φ st1) (hA1 : Adv wi mi (fun _ => none) w m1 φ) (hle : MLe m m1) (eφ : φ id = some (b', n')) (hid : st id = some blk0)
    (hK : ∀ k ∈ K, PF wi.heap.size w m φ k.1.1 k.1.2 k.2) (hst : ∀ i blk, st' i = some blk → i ≠ id ∧ st i = some blk ∧ st1 i = some blk ∧ LitBlk blk) :
    ∃ φ2, Inv w m1 φ2 st' ∧ Adv wi mi (fun _ => none) w m1 φ2 ∧ (∀ k ∈ K, PF wi.heap.size w m1 φ2 k.1.1 k.1.2 k.2) ∧ Free φ2 b' ∧ (∀ i, st' i ≠ none → φ2 i = φ i) ∧ (∀ i, φ2 i ≠ none → st' i ≠ none) := by
  let φ2 : Pl := fun i => match st' i with
    | some _ => φ i
    | none => none
  have hφ2 : ∀ i, st' i ≠ none → φ2 i = φ i := fun i h => by
    show (match st' i with | some _ => φ i | none => none) = φ i
    cases e : st' i with
    | none => exact absurd e h
    | some _ => rfl
  have hφ2n : ∀ i, φ2 i ≠ none → st' i ≠ none := fun i h e => h (by
    show (match st' i with | some _ => φ i | none => none) = none
    rw [e])
  have hsub : ∀ i p, φ2 i = some p → φ i = some p ∧ st' i ≠ none := fun i p h => by
    have h1 := hφ2n i (by rw [h]; simp)
    exact ⟨by rw [← hφ2 i h1]; exact h, h1⟩
  refine ⟨φ2, ⟨k2.mem, ?_, ?_⟩, ?_, ?_, ?_, hφ2, hφ2n⟩
  · intro i blk hb'
    obtain ⟨h1, h2, h4, h3⟩ := hst i blk hb'
    obtain ⟨b, n, q1, q2, q3⟩ := k2.live i blk h4
    exact ⟨b, n, by rw [hφ2 i (by rw [hb']; simp)]; exact q1, q2, q3.mlit h3 rfl fun o h => h⟩
  · intro i j b bx n n2 b1 b2 f h1 h2 h3 h4 o1 o2
    obtain ⟨q1, q2, _⟩ := hst i b1 h1
    obtain ⟨r1, r2, _⟩ := hst j b2 h2
    exact hi.inj i j b bx n n2 b1 b2 f q2 r2 (hsub _ _ h3).1 (hsub _ _ h4).1 o1 o2
  · refine ⟨hA1.size, hA1.os, hA1.tape, hA1.output, hA1.block, hA1.mle, hA1.mnew, (fun _ _ _ h => by cases h), ?_⟩
    intro i b n f h2 ho
    exact hA1.pnew i b n f (hsub _ _ h2).1 ho
  · intro k hk
    have h := hK k hk
    exact ⟨h.new, h.row, fun i r n e => h.free i r n (hsub _ _ e).1, h.cel.mono hle, fun b2 c2 e => by
      obtain ⟨h1, h2, h3, h4⟩ := h.lit b2 c2 e
      exact ⟨hle _ _ _ h1, h2, fun i r n e => h3 i r n (hsub _ _ e).1, h4⟩⟩
  · intro i r n e ho
    obtain ⟨h1, h2⟩ := hsub _ _ e
    cases hb2 : st' i with
    | none => exact h2 hb2
    | some blk =>
      obtain ⟨q1, q2, _⟩ := hst i blk hb2
      exact q1 (hi.inj i id r b' n n' blk _ b' q2 hid h1 eφ ho (blk_own hi eφ hid).1.1)
/-- An owned expression becomes a place in memory. -/
theorem GG.pub {ok ok' : Nat → Prop} {K : KL} {env : Nat → AV} {st st' : Store} {a : Act} {w : World} {u id : Nat} {e : Ex} (h : GG wi mi nt ok K env st a w) (hu : env u = .own id 0) (hid : st id = some (.box (impI e.cells)))
    (hst : ∀ i blk, st' i = some blk → i ≠ id ∧ st i = some blk ∧ LitBlk blk) (hok : ∀ i, st' i ≠ none → ok' i) :
    ∃ b', (∀ env', (∀ t, env' t = .junk ∨ (t = u ∧ env' t = .i (.lit (.pointer (some ⟨b', 0, none⟩)))) ∨ (env' t = env t ∧ Stays st' (env t))) → GG wi mi nt ok' (K ++ [((b', 0), (e, none))]) env' st' a w) := by
  obtain ⟨⟨m, φ, hi, henv, hadv, _, hK⟩, hsz, hdf⟩ := h
  have hr := henv u; rw [hu] at hr
  have hfr : frzV st (.own id 0) = some (.iref e.cells, upd st id (some (.fbox e.cells))) := by
    have h1 : ∀ (l : List IV) (n : Nat), frzL st (n + l.length + 1) (impI l) = some (l, []) := by
      intro l
      induction l with
      | nil => intro n; simp [impI, frzL]
      | cons c l ih => intro n; simp only [impI, List.length_cons]; rw [show n + (l.length + 1) + 1 = (n + l.length + 1) + 1 by omega]; simp [frzL, frz, bnd, ih n]
    have h2 : frzL st 18 (impI e.cells) = some (e.cells, []) := by
      have := h1 e.cells 12
      rw [Ex.cells_length] at this
      exact this
    have h3 : frzP st 19 id 0 (some (.box (impI e.cells))) = some (.iref e.cells, [(id, .fbox e.cells)]) := by
      show bnd (frzL st 18 (impI e.cells)) (fun p => tst (decide (0 ≤ p.1.length)) (some (IV.iref (dropE 0 p.1), (id, Blk.fbox p.1) :: p.2))) = _
      rw [h2]; simp [dropE]
    have h4 : frz st 20 (.own id 0) = some (.iref e.cells, [(id, .fbox e.cells)]) := by
      show frzP st 19 id 0 (st id) = _
      rw [hid]; exact h3
    show bnd (frz st 20 (.own id 0)) (fun p => some (p.1, frzIds st p.2)) = _
    rw [h4]; rfl
  obtain ⟨m1, k1, k2, k3⟩ := frzV_sound hi hr hfr
  cases hr' : a.tmps.getD u undef with
  | pointer p =>
    rw [hr'] at hr k1
    cases hr with
    | @own _ _ b' n' eφ =>
      obtain ⟨hb, hbok⟩ := blk_own hi eφ hid
      have hrow : ∃ (vs : List Value) (T : TypeId), w.heap[b']? = some (.cells vs.toArray T (0, 0)) := by
        cases hbok with | box h1 => exact ⟨_, _, h1⟩
      have hnew : wi.heap.size ≤ b' := by
        rcases hadv.pnew id b' n' b' eφ hb.1 with h | h
        · exact h
        · exact absurd (fun id b n e => by cases e) h
      obtain ⟨φ2, g1, g2, g3, g4, g5, g6⟩ := drop_ids (wi := wi) (mi := mi) (K := K) hi k2 (hadv.trans k3) k3.mle eφ hid hK (st' := st') fun i blk hb' => by
        obtain ⟨q1, q2, q3⟩ := hst i blk hb'
        exact ⟨q1, q2, by simp [upd, q1, q2], q3⟩
      refine ⟨b', fun env' he => ⟨⟨m1, φ2, g1, fun t => ?_, g2, fun i hi' => hok i (g6 i hi'), ?_⟩, hsz, hdf⟩⟩
      · rcases he t with h | ⟨rfl, h⟩ | ⟨h, hs⟩
        · rw [h]; exact .junk _
        · rw [h, hr']; exact .i (.lit _)
        · rw [h]; exact hs.rep g5 (henv t)
      · intro k hk
        rcases List.mem_append.1 hk with hk | hk
        · exact g3 k hk
        · simp only [List.mem_singleton] at hk
          subst hk
          refine ⟨hnew, hrow, g4, ?_, fun b2 c2 e => by cases e⟩
          cases k1 with | iref hat => exact hat
  | _ => rw [hr'] at hr; cases hr
/-- What comes to the places when the kids of one have been put into a block. -/
def newN (b o : Nat) (x : Ex) (b' cap : Nat) : KL := if x.kids = [] then [] else ((b, o), (x, some (b', cap))) :: kidsAt b' 0 x.kids
/-- The worklist's store: the kids of a place become what the call has made of them. -/
theorem GG.turn {ok ok' : Nat → Prop} {K : KL} {env : Nat → AV} {st st' : Store} {a : Act} {w : World} {u b o : Nat} {x : Ex} {t : TypeId} {r : AV} (h : GG wi mi nt ok K env st a w) (ht : szOf C.P t = some 1) (hmi : MemOk wi mi) (hk : ((b, o), (x, none)) ∈ K) (hnl : ∀ k ∈ K, k.1 = (b, o) → k.2.2 = none) (hu : env u = r)
    (hr : (r = .nils ∧ x.kids = [] ∧ ∀ i blk, st' i = some blk → st i = some blk) ∨ ∃ id, r = .osl id 5 0 x.kids.length ∧ x.kids ≠ [] ∧ st id = some (.arr 5 (Ex.cellsL x.kids)) ∧ ∀ i blk, st' i = some blk → i ≠ id ∧ st i = some blk)
    (hlit : StLit st') (hok : ∀ i, st' i ≠ none → ok' i) :
    ∃ w' b' ao cap, a.tmps.getD u undef = .slice ao x.kids.length cap ∧ (x.kids ≠ [] → ao = some ⟨b', 0, none⟩) ∧ (Instr.storeAt t (.pointer (some ⟨b, o + 4, none⟩)) (a.tmps.getD u undef)).run C.P w = .ok () w' ∧
      (∀ env', (∀ t, env' t = .junk ∨ (a.tmps.getD t undef = .pointer (some ⟨b, o, none⟩) ∧ env' t = .i (.iref [.int x.kind, .int x.col, .bool x.val.null, .int x.val.n, .lit (.slice ao x.kids.length cap)])) ∨ (env' t = env t ∧ Stays st' (env t))) →
        GG wi mi nt ok' (K ++ newN b o x b' cap) env' st' a w') ∧ (x.kids ≠ [] → ∀ k ∈ K, k.1.1 ≠ b' ∧ ∀ b2 c2, k.2.2 = some (b2, c2) → b2 ≠ b') := by
  obtain ⟨⟨m, φ, hi, henv, hadv, _, hK⟩, hsz, hdf⟩ := h
  have hru := henv u; rw [hu] at hru
  have main : ∃ (b' : Nat) (ao : Option Addr) (cap : Nat) (m1 : Mem) (φ2 : Pl), a.tmps.getD u undef = .slice ao x.kids.length cap ∧ (x.kids ≠ [] → ao = some ⟨b', 0, none⟩) ∧ Inv w m1 φ2 st' ∧ Adv wi mi (fun _ => none) w m1 φ2 ∧ (∀ k ∈ K ++ kidsAt b' 0 x.kids, PF wi.heap.size w m1 φ2 k.1.1 k.1.2 k.2) ∧
      IRep m1 (.isl (Ex.cellsL x.kids)) (a.tmps.getD u undef) ∧ (∀ i, st' i ≠ none → φ2 i = φ i) ∧ (∀ i, φ2 i ≠ none → st' i ≠ none) ∧
      (x.kids ≠ [] → (wi.heap.size ≤ b' ∧ Free φ2 b' ∧ RL w b' (5 * cap)) ∧ (∀ f, Free φ f → f ≠ b')) := by
    rcases hr with ⟨rfl, hx, hst⟩ | ⟨id, rfl, hx, hid, hst⟩
    · generalize hv : a.tmps.getD u undef = v at hru
      cases hru
      let φ2 : Pl := fun i => match st' i with
        | some _ => φ i
        | none => none
      have hφ2 : ∀ i, st' i ≠ none → φ2 i = φ i := fun i h => by
        show (match st' i with | some _ => φ i | none => none) = φ i
        cases e : st' i with
        | none => exact absurd e h
        | some _ => rfl
      have hφ2n : ∀ i, φ2 i ≠ none → st' i ≠ none := fun i h e => h (by
        show (match st' i with | some _ => φ i | none => none) = none
        rw [e])
      have hsub : ∀ i p, φ2 i = some p → φ i = some p := fun i p h => by
        have h1 := hφ2n i (by rw [h]; simp)
        rw [← hφ2 i h1]; exact h
      refine ⟨0, none, 0, m, φ2, by rw [hx]; rfl, fun h => absurd hx h, ⟨hi.mem, ?_, ?_⟩, ?_, ?_, ?_, hφ2, hφ2n, fun h => absurd hx h⟩
      · intro i blk hb'
        obtain ⟨b, n, q1, q2, q3⟩ := hi.live i blk (hst i blk hb')
        exact ⟨b, n, by rw [hφ2 i (by rw [hb']; simp)]; exact q1, q2, q3.mlit (hlit i blk hb') rfl fun o h => h⟩
      · intro i j b bx n n2 b1 b2 f h1 h2 h3 h4 o1 o2
        exact hi.inj i j b bx n n2 b1 b2 f (hst i b1 h1) (hst j b2 h2) (hsub _ _ h3) (hsub _ _ h4) o1 o2
      · refine ⟨hadv.size, hadv.os, hadv.tape, hadv.output, hadv.block, hadv.mle, hadv.mnew, (fun _ _ _ h => by cases h), ?_⟩
        intro i b n f h2 ho
        exact hadv.pnew i b n f (hsub _ _ h2) ho
      · intro k hk
        rw [hx] at hk
        simp only [kidsAt, List.append_nil] at hk
        have h := hK k hk
        exact ⟨h.new, h.row, fun i r n e => h.free i r n (hsub _ _ e), h.cel, fun b2 c2 e => by
          obtain ⟨h1, h2, h3, h4⟩ := h.lit b2 c2 e
          exact ⟨h1, h2, fun i r n e => h3 i r n (hsub _ _ e), h4⟩⟩
      · rw [hx]; simp only [Ex.cellsL]; exact .isl0 _ _ fun _ => rfl
    · obtain ⟨b', cap, m1, φ2, e1, g1, g2, g3, g4, g5, g6, g7, g8⟩ := froz_osl (wi := wi) (mi := mi) (K := K) hx hi hru hid hadv hK (st' := st') fun i blk hb' => ⟨(hst i blk hb').1, (hst i blk hb').2, hlit i blk hb'⟩
      exact ⟨b', _, cap, m1, φ2, e1, fun _ => rfl, g1, g2, g3, g4, g5, g6, fun _ => ⟨g7, g8⟩⟩
  obtain ⟨b', ao, cap, m1, φ2, e1, e2, g1, g2, g3, g4, g5, g6, g7⟩ := main
  have hkn : ∀ (o' : Nat) (l : List Ex), ∀ k ∈ kidsAt b' o' l, k.2.2 = none := by
    intro o' l
    induction l generalizing o' with
    | nil => simp [kidsAt]
    | cons a l ih =>
      intro k hk'
      simp only [kidsAt, List.mem_cons] at hk'
      rcases hk' with rfl | hk'
      · rfl
      · exact ih _ k hk'
  obtain ⟨w', m', k1, k2, k3, k4, k5, k6⟩ := store_turn (C := C) (wi := wi) (mi := mi) (x := x) (y := (x, none)) rfl ht g1 hlit g2 hmi g3 (List.mem_append_left _ hk) (fun k hk' e => by
    rcases List.mem_append.1 hk' with h | h
    · exact hnl k h e
    · exact hkn _ _ k h) g4
  have hcell : m' b (o + 4) = some (a.tmps.getD u undef) := by
    obtain ⟨_, _, _, _, k5⟩ := k5.inv
    obtain ⟨_, _, _, _, k5⟩ := k5.inv
    obtain ⟨_, _, _, _, k5⟩ := k5.inv
    obtain ⟨_, _, _, _, k5⟩ := k5.inv
    obtain ⟨v5, q1, q2, _, _⟩ := k5.inv
    rw [lit_inv q2] at q1
    exact q1
  refine ⟨w', b', ao, cap, e1, e2, k1, fun env' he => ⟨⟨m', φ2, k2, fun t => ?_, k3, fun i hi' => hok i (g6 i hi'), ?_⟩, hsz, hdf⟩, fun hx k hk' => ?_⟩
  · rcases he t with h | ⟨h1, h⟩ | ⟨h, hs⟩
    · rw [h]; exact .junk _
    · rw [h, h1, ← e1]; exact .i (.iref k5)
    · rw [h]; exact hs.rep g5 (henv t)
  · intro k hk'
    rcases List.mem_append.1 hk' with h | h
    · exact k4 k (List.mem_append_left _ h)
    · unfold newN at h
      split at h
      · cases h
      · rename_i hx
        rcases List.mem_cons.1 h with rfl | h
        · have hp := k4 ((b, o), (x, none)) (List.mem_append_left _ hk)
          refine ⟨hp.new, hp.row, hp.free, hp.cel, fun b2 c2 e => ?_⟩
          injection e with e; injection e with e3 e4; subst e3; subst e4
          obtain ⟨⟨q1, q2, q3⟩, _⟩ := g7 hx
          refine ⟨?_, q1, q2, k6 _ _ q3⟩
          have := e2 hx
          subst this
          rw [hcell, e1]
        · exact k4 k (List.mem_append_right _ h)
  · obtain ⟨_, q4⟩ := g7 hx
    have h := hK k hk'
    exact ⟨q4 _ h.free, fun b2 c2 e => q4 _ (h.lit b2 c2 e).2.2.1⟩
end
end Go.Av.V

/- A region whose last operation is the worklist's store, with blocks that belong to places. No condition. -/
namespace Go.Av.V
open Go.Av
section
variable {C : Ctx} {wi : World} {mi : Mem} {nt : Nat}
theorem GG.litAt {ok : Nat → Prop} {K : KL} {env : Nat → AV} {st : Store} {a : Act} {w : World} {t : Nat} {v : Value} (h : GG wi mi nt ok K env st a w) (ht : env t = .i (.lit v)) : a.tmps.getD t undef = v := by
  obtain ⟨⟨m, φ, hi, henv, _⟩, _⟩ := h
  have := henv t; rw [ht] at this
  exact this.lit_eq
theorem GG.region (hS : SoundOk C) {id : Nat} {ops : Array Oper} {os1 os2 : List Oper} {o : Oper} {K : KL} {S : AS} {a : Act} {w : World} {u b' o' : Nat} {x : Ex} {y : Option (Nat × Nat)} {Q : Exit → Act → World → Prop} {PP : (Nat → AV) → Store → Prop} (hops : ops.toList = os1 ++ (os2 ++ [o])) (hs : ∀ o ∈ ops, operOk nt o = true)
    (g : GG wi mi nt (fun id => id < S.st.length) K (envOf S.env) (stOf S.st) a w) (hk : ((b', o'), (x, y)) ∈ K)
    (h : ∃ R1, runOps C (callA C) ops.toList false S.st.length os1 0 { env := envOf S.env, st := stOf S.st, log := [] } = some R1 ∧ R1.env u = .i (.lit (.pointer (some ⟨b', o', none⟩))) ∧
      ∃ R2, runOps C (callA C) ops.toList false S.st.length os2 os1.length { env := upd R1.env u (.i (.iref x.cells)), st := R1.st, log := R1.log } = some R2 ∧ PP R2.env R2.st)
    (hfin : ∀ env st a' w', PP env st → GG wi mi nt (fun _ => True) K env st a' w' → wpOp C.P ops Q (os1.length + os2.length) (fun a w => wpOps C.P ops Q [] a w) a' w') : (Code.region id ops false).wp C.P Q a w := by
  obtain ⟨R1, h1, h2, R2, h3, h4⟩ := h
  refine wp_region ?_
  have hsz : ops.size = os1.length + (os2.length + 1) := by rw [← Array.length_toList, hops]; simp
  have hget : ∀ j, ops[j]? = (os1 ++ (os2 ++ [o]))[j]? := fun j => by rw [← hops, Array.getElem?_toList]
  rw [List.range_eq_range', hsz, show List.range' 0 (os1.length + (os2.length + 1)) = List.range' 0 os1.length ++ (List.range' os1.length os2.length ++ [os1.length + os2.length]) by
    rw [← List.range'_append_1, ← List.range'_append_1]; simp]
  have hcall := callA_sound hS
  refine GG.ops hS.ctx hcall hs (R := { env := envOf S.env, st := stOf S.st, log := [] }) (base := S.st.length) (i := 0) (fun j hj => ?_) h1 (g.ok' fun id h => .inl h) fun a1 w1 g1 => ?_
  · rw [hget, Nat.zero_add, List.getElem?_append_left hj]
  · have g2 := g1.see (u := u) h2 hk
    rw [Nat.zero_add] at g2
    refine GG.ops hS.ctx hcall hs (R := { env := upd R1.env u (.i (.iref x.cells)), st := R1.st, log := R1.log }) (base := S.st.length) (fun j hj => ?_) h3 g2 fun a2 w2 g3 => ?_
    · rw [hget, List.getElem?_append_right (by omega), Nat.add_sub_cancel_left, List.getElem?_append_left hj]
    · rw [wpOps_cons]
      exact hfin _ _ a2 w2 h4 (g3.ok' fun _ _ => trivial)
end
end Go.Av.V

/- The worklist of a copy: which block belongs to which place; the tree that it leaves. No condition. -/
namespace Go.Av.V
open Go.Av
/-- A place whose kids are seen to. -/
def Hand (todo K : KL) (p : Nat × Nat) (x : Ex) : Prop := (p, (x, none)) ∈ K ∧ (x.kids = [] ∨ (∃ b' c, (p, (x, some (b', c))) ∈ K) ∨ (p, (x, none)) ∈ todo)
structure WL (root : Nat × Nat) (e : Ex) (todo K : KL) : Prop where
  rk : ∃ rk : Nat → Nat, ∀ b o x b' c, ((b, o), (x, some (b', c))) ∈ K → rk b < rk b'
  uniq : ∀ p q x y b' c c', (p, (x, some (b', c))) ∈ K → (q, (y, some (b', c'))) ∈ K → p = q
  kids : ∀ p x b' c, (p, (x, some (b', c))) ∈ K → ∀ (j : Nat) kid, x.kids[j]? = some kid → Hand todo K (b', 5 * j) kid
  hroot : Hand todo K root e
  sub : ∀ k ∈ todo, k ∈ K ∧ k.2.2 = none
  nodup : (todo.map (·.1)).Nodup
  nolit : ∀ k ∈ todo, ∀ k' ∈ K, k'.1 = k.1 → k'.2.2 = none
theorem kidsAt_none {b : Nat} : ∀ (o : Nat) (l : List Ex), ∀ k ∈ kidsAt b o l, k.2.2 = none ∧ k.1.1 = b ∧ o ≤ k.1.2
  | _, [] => by simp [kidsAt]
  | o, a :: l => by
    intro k hk
    simp only [kidsAt, List.mem_cons] at hk
    rcases hk with rfl | hk
    · exact ⟨rfl, rfl, Nat.le_refl _⟩
    · obtain ⟨h1, h2, h3⟩ := kidsAt_none (o + 5) l k hk
      exact ⟨h1, h2, by omega⟩
theorem kidsAt_nodup {b : Nat} : ∀ (o : Nat) (l : List Ex), ((kidsAt b o l).map (·.1)).Nodup
  | _, [] => by simp [kidsAt]
  | o, a :: l => by
    simp only [kidsAt, List.map_cons, List.nodup_cons]
    refine ⟨fun h => ?_, kidsAt_nodup (o + 5) l⟩
    obtain ⟨k, hk, e⟩ := List.mem_map.1 h
    have := (kidsAt_none (o + 5) l k hk).2.2
    rw [e] at this
    simp at this
    omega
theorem newN_mem {b o : Nat} {x : Ex} {b' cap : Nat} {k : (Nat × Nat) × Nd} (h : k ∈ newN b o x b' cap) : x.kids ≠ [] ∧ (k = ((b, o), (x, some (b', cap))) ∨ k ∈ kidsAt b' 0 x.kids) := by
  unfold newN at h
  split at h
  · cases h
  · rename_i hx; exact ⟨hx, List.mem_cons.1 h⟩
theorem newN_kids {b o : Nat} {x : Ex} {b' cap : Nat} {k : (Nat × Nat) × Nd} (h : k ∈ kidsAt b' 0 x.kids) : k ∈ newN b o x b' cap := by
  unfold newN
  split
  · rename_i hx; rw [hx] at h; simp [kidsAt] at h
  · exact List.mem_cons_of_mem _ h
theorem WL.start (b3 : Nat) (e : Ex) : WL (b3, 0) e [((b3, 0), (e, none))] [((b3, 0), (e, none))] := by
  refine ⟨⟨fun _ => 0, ?_⟩, ?_, ?_, ⟨by simp, .inr (.inr (by simp))⟩, by simp, by simp, ?_⟩
  · intro b o x b' c h; simp at h
  · intro p q x y b' c c' h; simp at h
  · intro p x b' c h; simp at h
  · intro k hk k' hk' _
    simp at hk'; rw [hk']
theorem WL.step {root : Nat × Nat} {e x : Ex} {init K : KL} {b o b' cap : Nat} (h : WL root e (init ++ [((b, o), (x, none))]) K) (hf : x.kids ≠ [] → ∀ k ∈ K, k.1.1 ≠ b' ∧ ∀ b2 c2, k.2.2 = some (b2, c2) → b2 ≠ b') :
    WL root e (init ++ kidsAt b' 0 x.kids) (K ++ newN b o x b' cap) := by
  have hcur : ((b, o), (x, none)) ∈ K := (h.sub _ (by simp)).1
  have litIn : ∀ {p : Nat × Nat} {y : Ex} {f c : Nat}, (p, (y, some (f, c))) ∈ K ++ newN b o x b' cap → (p, (y, some (f, c))) ∈ K ∨ (x.kids ≠ [] ∧ p = (b, o) ∧ y = x ∧ f = b' ∧ c = cap) := by
    intro p y f c hm
    rcases List.mem_append.1 hm with hm | hm
    · exact .inl hm
    · obtain ⟨hx, hm⟩ := newN_mem hm
      rcases hm with hm | hm
      · injection hm with e1 e2; injection e2 with e2 e3; injection e3 with e3; injection e3 with e3 e4
        exact .inr ⟨hx, e1, e2, e3, e4⟩
      · have := (kidsAt_none 0 _ _ hm).1; cases this
  have up : ∀ {p : Nat × Nat} {y : Ex}, Hand (init ++ [((b, o), (x, none))]) K p y → Hand (init ++ kidsAt b' 0 x.kids) (K ++ newN b o x b' cap) p y := by
    rintro p y ⟨h1, h2⟩
    refine ⟨List.mem_append_left _ h1, ?_⟩
    rcases h2 with h2 | ⟨f, c, h2⟩ | h2
    · exact .inl h2
    · exact .inr (.inl ⟨f, c, List.mem_append_left _ h2⟩)
    · rcases List.mem_append.1 h2 with h2 | h2
      · exact .inr (.inr (List.mem_append_left _ h2))
      · simp only [List.mem_singleton, Prod.mk.injEq, and_true] at h2
        obtain ⟨rfl, rfl⟩ := h2
        by_cases hx : y.kids = []
        · exact .inl hx
        · exact .inr (.inl ⟨b', cap, List.mem_append_right _ (by unfold newN; rw [if_neg hx]; simp)⟩)
  have hnd := h.nodup
  rw [List.map_append, List.nodup_append] at hnd
  refine ⟨?_, ?_, ?_, up h.hroot, ?_, ?_, ?_⟩
  · obtain ⟨rk, hr⟩ := h.rk
    refine ⟨fun f => if x.kids ≠ [] ∧ f = b' then rk b + 1 else rk f, ?_⟩
    intro b1 o1 y f c hm
    rcases litIn hm with hm | ⟨hx, e1, rfl, rfl, rfl⟩
    · have hlt := hr _ _ _ _ _ hm
      have n1 : ¬ (x.kids ≠ [] ∧ b1 = b') := fun hh => (hf hh.1 _ hm).1 hh.2
      have n2 : ¬ (x.kids ≠ [] ∧ f = b') := fun hh => (hf hh.1 _ hm).2 _ _ rfl hh.2
      simp only [if_neg n1, if_neg n2]; exact hlt
    · injection e1 with e1 e2; subst e1; subst e2
      have n1 : ¬ (y.kids ≠ [] ∧ b1 = f) := fun hh => (hf hh.1 _ hcur).1 hh.2
      show (if y.kids ≠ [] ∧ b1 = f then rk b1 + 1 else rk b1) < (if y.kids ≠ [] ∧ f = f then rk b1 + 1 else rk f)
      rw [if_neg n1, if_pos ⟨hx, rfl⟩]; omega
  · intro p q y z f c c' h1 h2
    rcases litIn h1 with g1 | ⟨hx, a1, a2, a3, a4⟩
    · rcases litIn h2 with g2 | ⟨hx, a1, a2, a3, a4⟩
      · exact h.uniq _ _ _ _ _ _ _ g1 g2
      · exact absurd a3 ((hf hx _ g1).2 _ _ rfl)
    · rcases litIn h2 with g2 | ⟨_, c1, _, _, _⟩
      · exact absurd a3 ((hf hx _ g2).2 _ _ rfl)
      · rw [a1, c1]
  · intro p y f c hm j kid hk
    rcases litIn hm with hm | ⟨hx, rfl, rfl, rfl, rfl⟩
    · exact up (h.kids p y f c hm j kid hk)
    · have hkm := kidsAt_mem (b := f) (o := 0) hk
      rw [Nat.zero_add] at hkm
      exact ⟨List.mem_append_right _ (newN_kids hkm), .inr (.inr (List.mem_append_right _ hkm))⟩
  · intro k hk
    rcases List.mem_append.1 hk with hk | hk
    · obtain ⟨h1, h2⟩ := h.sub k (by simp [hk])
      exact ⟨List.mem_append_left _ h1, h2⟩
    · exact ⟨List.mem_append_right _ (newN_kids hk), (kidsAt_none 0 _ _ hk).1⟩
  · rw [List.map_append, List.nodup_append]
    refine ⟨hnd.1, kidsAt_nodup 0 _, fun p hp q hq e => ?_⟩
    subst e
    obtain ⟨k1, h1, e1⟩ := List.mem_map.1 hp
    obtain ⟨k2, h2, e2⟩ := List.mem_map.1 hq
    have hx : x.kids ≠ [] := fun hx => by rw [hx] at h2; simp [kidsAt] at h2
    have := (hf hx k1 (h.sub k1 (by simp [h1])).1).1
    rw [e1, ← e2, (kidsAt_none 0 _ _ h2).2.1] at this
    exact this rfl
  · intro k hk k' hk' e1
    rcases List.mem_append.1 hk with hk | hk
    · rcases List.mem_append.1 hk' with hk' | hk'
      · exact h.nolit k (by simp [hk]) k' hk' e1
      · obtain ⟨hx, hm⟩ := newN_mem hk'
        rcases hm with rfl | hm
        · exact absurd e1.symm (hnd.2.2 k.1 (List.mem_map.2 ⟨k, hk, rfl⟩) (b, o) (by simp))
        · exact (kidsAt_none 0 _ _ hm).1
    · have hx : x.kids ≠ [] := fun hx => by rw [hx] at hk; simp [kidsAt] at hk
      have hkb := (kidsAt_none 0 _ _ hk).2.1
      rcases List.mem_append.1 hk' with hk' | hk'
      · exact absurd (by rw [e1, hkb]) (hf hx k' hk').1
      · obtain ⟨_, hm⟩ := newN_mem hk'
        rcases hm with rfl | hm
        · refine absurd ?_ (hf hx _ hcur).1
          have := congrArg Prod.fst e1
          rw [hkb] at this
          exact this
        · exact (kidsAt_none 0 _ _ hm).1
/-- A block that lies below a place. -/
inductive Und (K : KL) (p : Nat × Nat) : Nat → Prop
  | base {x : Ex} {f c : Nat} : (p, (x, some (f, c))) ∈ K → Und K p f
  | step {b o : Nat} {x : Ex} {f c : Nat} : ((b, o), (x, some (f, c))) ∈ K → Und K p b → Und K p f
section
variable {root : Nat × Nat} {e : Ex} {todo K : KL}
theorem WL.und_rk (h : WL root e todo K) {rk : Nat → Nat} (hr : ∀ b o x b' c, ((b, o), (x, some (b', c))) ∈ K → rk b < rk b') {p : Nat × Nat} {f : Nat} (hu : Und K p f) : rk p.1 < rk f := by
  induction hu with
  | base hm => exact hr _ p.2 _ _ _ hm
  | step hm _ ih => exact Nat.lt_trans ih (hr _ _ _ _ _ hm)
theorem WL.sib (h : WL root e todo K) {p q : Nat × Nat} {f : Nat} (hp : Und K p f) : Und K q f → p.1 = q.1 → p = q := by
  obtain ⟨rk, hr⟩ := h.rk
  induction hp with
  | base hm =>
    intro hq e1
    cases hq with
    | base hm2 => exact h.uniq _ _ _ _ _ _ _ hm hm2
    | step hm2 hq2 =>
      have := h.uniq _ _ _ _ _ _ _ hm hm2
      have lt := h.und_rk hr hq2
      rw [← e1, this] at lt
      exact absurd lt (Nat.lt_irrefl _)
  | step hm hp2 ih =>
    intro hq e1
    cases hq with
    | base hm2 =>
      have := h.uniq _ _ _ _ _ _ _ hm hm2
      have lt := h.und_rk hr hp2
      rw [e1, ← this] at lt
      exact absurd lt (Nat.lt_irrefl _)
    | step hm2 hq2 =>
      have := h.uniq _ _ _ _ _ _ _ hm hm2
      injection this with e2 e3
      subst e2
      exact ih hq2 e1
theorem und_lift {p : Nat × Nat} {x : Ex} {b' c j f : Nat} (hm : (p, (x, some (b', c))) ∈ K) (hu : Und K (b', j) f) : Und K p f := by
  induction hu with
  | base h2 => exact .step h2 (.base hm)
  | step h2 _ ih => exact .step h2 ih
end
end Go.Av.V

/- The tree that a copy leaves. No condition. -/
namespace Go.Av.V
open Go.Av
theorem row_get {w : World} {b : Nat} {us : List Value} {o : Nat} {v : Value} (hr : rowOf w b us) (h : w.cell? ⟨b, o, none⟩ = some v) : us[o]? = some v := by
  obtain ⟨T, e⟩ := hr
  rw [cell_row e] at h; exact h
theorem row5 {us : List Value} {o : Nat} {v0 v1 v2 v3 v4 : Value} (h0 : us[o]? = some v0) (h1 : us[o + 1]? = some v1) (h2 : us[o + 2]? = some v2) (h3 : us[o + 3]? = some v3) (h4 : us[o + 4]? = some v4) : us.drop o = [v0, v1, v2, v3, v4] ++ us.drop (o + 5) := by
  have g : ∀ {o : Nat} {v : Value}, us[o]? = some v → us.drop o = v :: us.drop (o + 1) := by
    intro o v h
    obtain ⟨hl, rfl⟩ := List.getElem?_eq_some_iff.1 h
    exact List.drop_eq_getElem_cons hl
  rw [g h0, g h1, g h2, g h3, g h4]; rfl
section
variable {root : Nat × Nat} {e : Ex} {K : KL} {B : Nat} {w : World} {m : Mem} {φ : Pl}
theorem WL.tree (h : WL root e [] K) (hK : ∀ k ∈ K, PF B w m φ k.1.1 k.1.2 k.2) (hm : MemOk w m) : ∀ (x : Ex) (p : Nat × Nat), Hand [] K p x →
    ∃ v F, ExAt m p.1 p.2 x v ∧ TCells w [.isl (Ex.cellsL x.kids)] [v] F ∧ F.Nodup ∧ ∀ f ∈ F, Und K p f ∧ B ≤ f ∧ Free φ f := by
  intro x
  induction x using Ex.ind with
  | h kd cl vl ks ih =>
    intro p hp
    obtain ⟨hp1, hp2⟩ := hp
    have pf := hK _ hp1
    obtain ⟨v, hx⟩ := exAt_of pf.cel
    refine ⟨v, ?_⟩
    simp only [kids_mk] at hp2 ⊢
    have hkids := hx.kids
    rw [kids_mk] at hkids
    by_cases hks : ks = []
    · subst hks
      simp only [Ex.cellsL] at hkids ⊢
      refine ⟨[], hx, ?_, by simp, by simp⟩
      cases hkids with
      | isl0 ao cap hc => exact .isl0 hc .nil
      | isl hn => exact absurd rfl hn
    · obtain ⟨b', cap, hl⟩ : ∃ b' c, (p, (Ex.mk kd cl vl ks, some (b', c))) ∈ K := by
        rcases hp2 with h1 | h1 | h1
        · exact absurd h1 hks
        · exact h1
        · cases h1
      obtain ⟨l1, l2, l3, us, T, l4, l5⟩ := (hK _ hl).lit b' cap rfl
      have hv : v = .slice (some ⟨b', 0, none⟩) ks.length cap := by
        have := hx.c4
        rw [l1] at this
        injection this with this
        exact this.symm
      subst hv
      have hrow : rowOf w b' us := ⟨T, l4⟩
      have hlen : (Ex.cellsL ks).length = ks.length := by simp
      have hne : Ex.cellsL ks ≠ [] := fun hh => by rw [hh] at hlen; simp at hlen; exact hks (List.length_eq_zero_iff.1 hlen.symm)
      have hcap : ks.length ≤ cap := by
        rcases isl_inv hkids with ⟨h1, _⟩ | ⟨_, b2, off, k2, cap2, h1, _, h2⟩
        · exact absurd h1 hne
        · injection h1 with _ _ h3; subst h3; rw [hlen] at h2; exact h2
      -- the kids, from one on
      have list : ∀ (l : List Ex) (j : Nat), (∀ a ∈ l, a ∈ ks) → (∀ i kid, l[i]? = some kid → Hand [] K (b', 5 * (j + i)) kid) → ∃ F, TCells w (Ex.cellsL l).flatten ((us.drop (5 * j)).take (5 * l.length)) F ∧ F.Nodup ∧ ∀ f ∈ F, (∃ i, Und K (b', 5 * (j + i)) f) ∧ B ≤ f ∧ Free φ f := by
        intro l
        induction l with
        | nil => intro j _ _; exact ⟨[], by simpa [Ex.cellsL] using TCells.nil, by simp, by simp⟩
        | cons a l ihl =>
          intro j hin hh
          have h0 := hh 0 a rfl
          obtain ⟨va, Fa, ha, ta, na, ua⟩ := ih a (hin a (by simp)) (b', 5 * (j + 0)) h0
          simp only [Nat.add_zero] at ha ua
          obtain ⟨Fl, tl, nl, ul⟩ := ihl (j + 1) (fun x hx => hin x (by simp [hx])) (fun i kid hi => by
            have := hh (i + 1) kid (by simpa using hi)
            rwa [show j + (i + 1) = j + 1 + i by omega] at this)
          have hr5 := row5 (row_get hrow (hm _ _ _ ha.c0)) (row_get hrow (hm _ _ _ ha.c1)) (row_get hrow (hm _ _ _ ha.c2)) (row_get hrow (hm _ _ _ ha.c3)) (row_get hrow (hm _ _ _ ha.c4))
          refine ⟨Fa ++ Fl, ?_, ?_, ?_⟩
          · rw [hr5, List.length_cons, show 5 * (l.length + 1) = 5 + 5 * l.length by omega]
            rw [List.take_append, List.take_of_length_le (by simp)]
            simp only [Ex.cellsL, List.flatten_cons]
            have t2 := Go.Proofs.Ytgpclhjdfdojhaa.row_mk ta
            have e1 : 5 + 5 * l.length - [Value.int .i64 a.kind, .int .i64 a.col, .bool a.val.null, .int .i64 a.val.n, va].length = 5 * l.length := by simp
            rw [e1, show 5 * j + 5 = 5 * (j + 1) by omega]
            exact t2.append tl
          · rw [List.nodup_append]
            refine ⟨na, nl, fun f hf g hg e1 => ?_⟩
            subst e1
            obtain ⟨i, hi⟩ := (ul f hg).1
            have := h.sib (ua f hf).1 hi rfl
            injection this with _ this
            omega
          · intro f hf
            rcases List.mem_append.1 hf with hf | hf
            · exact ⟨⟨0, (ua f hf).1⟩, (ua f hf).2⟩
            · obtain ⟨⟨i, hi⟩, q⟩ := ul f hf
              exact ⟨⟨1 + i, by rwa [show j + (1 + i) = j + 1 + i by omega]⟩, q⟩
      obtain ⟨F, t1, n1, u1⟩ := list ks 0 (fun _ h => h) (fun i kid hi => by
        have := h.kids p _ b' cap hl i kid hi
        rwa [Nat.zero_add])
      simp only [Nat.mul_zero, List.drop_zero] at t1
      have hkw : ∀ r ∈ Ex.cellsL ks, r.length = 5 := by
        have wid : ∀ (l : List Ex), ∀ r ∈ Ex.cellsL l, r.length = 5 := by
          intro l
          induction l with
          | nil => simp [Ex.cellsL]
          | cons a l ihl =>
            intro r hr
            simp only [Ex.cellsL, List.mem_cons] at hr
            rcases hr with rfl | hr
            · rw [Ex.cells_eq]; rfl
            · exact ihl r hr
        exact wid ks
      refine ⟨b' :: F, hx, ?_, ?_, ?_⟩
      · have := TCells.isl (w := w) (b := b') (k := 5) (cap := cap) (us := us) (G := F) hne hrow (by omega) hkw l5 (by omega) (by rw [hlen]; exact t1) .nil
        rw [hlen] at this
        simpa using this
      · rw [List.nodup_cons]
        refine ⟨fun hf => ?_, n1⟩
        obtain ⟨⟨i, hi⟩, _⟩ := u1 b' hf
        obtain ⟨rk, hr⟩ := h.rk
        exact absurd (h.und_rk hr hi) (Nat.lt_irrefl _)
      · intro f hf
        rcases List.mem_cons.1 hf with rfl | hf
        · exact ⟨.base hl, l2, l3⟩
        · obtain ⟨⟨i, hi⟩, q⟩ := u1 f hf
          exact ⟨und_lift hl hi, q⟩
end
end Go.Av.V

/- The copy of an expression, in memory of its own. No condition. -/
namespace Go.Av.V.Sx
open Go Go.Av Go.Av.V Go.Proofs Go.Proofs.Ytgpclhjdfdojhaa
set_option maxRecDepth 4000
/-- The state at the worklist's head. -/
def SL (b3 : Nat) (todo X : KL) : AS :=
  { env := [(0, .junk), (2, .own 0 0), (3, .i (ptr (b3, 0))), (4, .osl 1 1 0 todo.length), (5, .junk), (6, .junk), (13, .junk), (37, .junk), (38, .junk), (39, .junk)], st := [some (.box zc), some (.arr 1 ((todo ++ X).map fun k => [ptr k.1]))] }
theorem ptr_lit : ∀ (l : KL), ∀ c ∈ (l.map fun k => [ptr k.1]).flatten, ∃ v, c = .lit v
  | [], c, h => by simp at h
  | k :: l, c, h => by
    simp only [List.map_cons, List.flatten_cons, List.mem_append, List.mem_singleton] at h
    rcases h with rfl | h
    · exact ⟨_, rfl⟩
    · exact ptr_lit l c h
/-- What is known when the kids have been copied, ahead of the store. -/
def PP (b3 : Nat) (b o n : Nat) (x : Ex) (ES : List (List IV)) (env : Nat → AV) (st : Store) : Prop :=
  env 2 = .own 0 0 ∧ env 3 = .i (ptr (b3, 0)) ∧ env 4 = .osl 1 1 0 n ∧ env 5 = .i (ptr (b, o)) ∧ env 32 = .i (ptr (b, o + 4)) ∧ st 0 = some (.box zc) ∧ st 1 = some (.arr 1 ES) ∧
    ((env 30 = .nils ∧ x.kids = []) ∨ ∃ id, env 30 = .osl id 5 0 x.kids.length ∧ x.kids ≠ [] ∧ st id = some (.arr 5 (Ex.cellsL x.kids)) ∧ 2 ≤ id)
/-- The pointers that have been put on the worklist. -/
def RW (init : KL) (b' i : Nat) : List (List IV) := (init.map fun k => [ptr k.1]) ++ (List.range i).map fun j => [ptr (b', j * 5)]
theorem RW_len (init : KL) (b' i : Nat) : (RW init b' i).length = init.length + i := by simp [RW]
theorem RW_succ (init : KL) (b' i : Nat) : RW init b' i ++ [[ptr (b', i * 5)]] = RW init b' (i + 1) := by simp [RW, List.range_succ]
theorem kidsAt_map (b : Nat) : ∀ (o : Nat) (l : List Ex), (kidsAt b o l).map (fun k => [ptr k.1]) = (List.range l.length).map fun j => [ptr (b, o + j * 5)]
  | _, [] => by simp [kidsAt]
  | o, a :: l => by
    simp only [kidsAt, List.map_cons, kidsAt_map b (o + 5) l, List.length_cons, List.range_succ_eq_map, List.map_map]
    simp only [List.cons.injEq, Nat.zero_mul, Nat.add_zero, true_and]
    apply List.map_congr_left
    intro j _
    simp only [Function.comp, Nat.succ_eq_add_one]
    rw [show o + 5 + j * 5 = o + (j + 1) * 5 by omega]
theorem kidsAt_len (b : Nat) : ∀ (o : Nat) (l : List Ex), (kidsAt b o l).length = l.length
  | _, [] => rfl
  | o, a :: l => by simp [kidsAt, kidsAt_len b (o + 5) l]
theorem kidsAt_sum (b : Nat) : ∀ (o : Nat) (l : List Ex), ((kidsAt b o l).map fun k => k.2.1.size).sum = Ex.sizeL l
  | _, [] => rfl
  | o, a :: l => by simp [kidsAt, Ex.sizeL, kidsAt_sum b (o + 5) l]
/-- The state when so many kids have been put on the worklist. -/
def YS (b3 b' cap : Nat) (x : Ex) (init : KL) (ES : List (List IV)) (i : Nat) : AS :=
  { env := [(0, .junk), (2, .own 0 0), (3, .i (ptr (b3, 0))), (4, if i = 0 then .osl 1 1 0 init.length else .osl 2 1 0 (init.length + i)), (5, .i (.iref [.int x.kind, .int x.col, .bool x.val.null, .int x.val.n, .lit (.slice (some ⟨b', 0, none⟩) x.kids.length cap)])), (6, jk i (.int (i - 1))), (13, .junk), (37, .int x.kids.length), (38, .int i), (39, jk i (.bool true))],
    st := some (.box zc) :: if i = 0 then [some (.arr 1 ES)] else [none, some (.arr 1 (RW init b' i))] }
set_option maxHeartbeats 1000000
theorem copied_tree {e : Ex} (he : e.size < 1000000000) (hne : e.kids ≠ []) {wi : World} {mi : Mem} {φ : Pl} {vs : List Value} (hi : Inv wi mi φ (stOf [])) (hr : RepL mi φ [.i (.iref e.cells)] vs) (h0 : ∀ id, φ id ≠ none → id < 0) :
    Calls Try.prog 45 vs.toArray wi (CallPost wi mi φ (tX e 0) [some (treB e.kids)]) := by
  obtain rfl : φ = fun _ => none := by
    funext id
    cases h : φ id with
    | none => rfl
    | some p => exact absurd (h0 id (by rw [h]; simp)) (Nat.not_lt_zero _)
  refine calls_of_wp (fn := Try.f45) Try.func45 rfl ?_
  have g0 : GG wi mi 52 (fun id => id < (Sini e).st.length) [] (envOf (Sini e).env) (stOf (Sini e).st) { tmps := vs.toArray ++ Array.replicate (52 - vs.toArray.size) undef, defers := [] } wi := by
    refine ⟨⟨mi, fun _ => none, hi, ?_, .refl _ _ _, fun id h => absurd rfl h, fun k hk => by simp at hk⟩, by simp; omega, rfl⟩
    intro t
    have := enter_rep (m := mi) (φ := fun _ => none) (52 - vs.toArray.size) hr t
    cases t with
    | zero => simpa [Sini, envOf, argAt] using this
    | succ t => simp only [Sini, envOf]; simp; exact .junk _
  refine wp_seq (wp_mono (GG.codeA sound1 (G := GS 45) (S := Sini e) (e := .normal) (S' := { Sout e with env := [(0, .i (.iref e.cells)), (2, .own 0 0), (3, .junk), (4, .junk), (5, .junk), (6, .junk), (13, .junk), (37, .junk), (38, .junk), (39, .junk)], st := [some (.box zc)] }) (by kernel_rfl) (by simp [Sini, zc]) g0) ?_)
  rintro _ a1 w1 ⟨rfl, g1⟩
  refine wp_seq (wp_mono (GG.codeA sound1 (G := GS 45) (S := { Sout e with env := [(0, .i (.iref e.cells)), (2, .own 0 0), (3, .junk), (4, .junk), (5, .junk), (6, .junk), (13, .junk), (37, .junk), (38, .junk), (39, .junk)], st := [some (.box zc)] }) (e := .normal) (S' := Sout e) (by kernel_rfl) (by simp [Sout, zc]) g1) ?_)
  rintro _ a2 w2 ⟨rfl, g2⟩
  obtain ⟨b3, g3⟩ := g2.pub (u := 3) (id := 1) (e := e) (st' := stOf [some (.box zc)]) (ok' := fun id => id < 1) rfl rfl (by
    intro i blk h
    cases i with
    | zero => simp [stOf] at h; subst h; exact ⟨by omega, rfl, by simp [LitBlk, zc]⟩
    | succ i => simp [stOf] at h) (by
    intro i h
    cases i with
    | zero => omega
    | succ i => simp [stOf] at h)
  have g3 := g3 (envOf [(2, .own 0 0), (3, .i (ptr (b3, 0)))]) (by
    intro t
    simp only [envOf]
    by_cases h2 : t = 2
    · subst h2; exact .inr (.inr ⟨rfl, by simp [Sout, envOf, Stays, stOf]⟩)
    · by_cases h3 : t = 3
      · subst h3; exact .inr (.inl ⟨rfl, rfl⟩)
      · simp [h2, h3])
  refine wp_seq (wp_mono (GG.codeA sound1 (G := GS 45) (S := { env := [(2, .own 0 0), (3, .i (ptr (b3, 0)))], st := [some (.box zc)] }) (e := .normal) (S' := SL b3 [((b3, 0), (e, none))] []) (by kernel_rfl) (by simp [SL, ptr, zc]) g3) ?_)
  rintro _ a3 w3 ⟨rfl, g4⟩
  refine wp_seq (wp_block ?_)
  refine wp_loop_n (fun n a w => ∃ todo X K : KL, WL (b3, 0) e todo K ∧ (todo.map fun k => k.2.1.size).sum = n ∧ n < 1000000000 ∧ GG wi mi 52 (fun id => id < (SL b3 todo X).st.length) K (envOf (SL b3 todo X).env) (stOf (SL b3 todo X).st) a w) ?_ (n := e.size) ⟨[((b3, 0), (e, none))], [], [((b3, 0), (e, none))], .start b3 e, by simp, he, g4⟩
  rintro n a w ⟨todo, X, K, hWL, hsum, hn, g⟩
  rcases List.eq_nil_or_concat todo with rfl | ⟨init, k, rfl⟩
  · refine wp_mono (GG.codeA sound1 (G := GS 45) (S := SL b3 [] X) (e := .exit 0) (S' := { env := [(0, .junk), (2, .own 0 0), (3, .i (ptr (b3, 0))), (4, .osl 1 1 0 0), (5, .junk), (6, .junk), (13, .bool false), (37, .junk), (38, .junk), (39, .junk)], st := [some (.box zc), some (.arr 1 (X.map fun k => [ptr k.1]))] }) (by kernel_rfl) (by simp [SL, ptr, zc]) g) ?_
    rintro _ a5 w5 ⟨rfl, g5⟩
    simp only [exitOf, Exit.then, Exit.inBlock, if_true]
    obtain ⟨⟨m5, φ5, hi5, henv5, hadv5, hok5, hK5⟩, hsz5, hdf5⟩ := g5
    obtain ⟨v, F, hx5, ht5, hnd5, hF5⟩ := hWL.tree hK5 hi5.mem e (b3, 0) hWL.hroot
    have h05 : ∀ id, φ5 id ≠ none → id < 2 := hok5
    have hroot : IAt m5 b3 0 [.int e.kind, .int e.col, .bool e.val.null, .int e.val.n, .lit v] := by
      have ho := isl_one hx5.kids
      exact .cons (by simpa using hx5.c0) (.lit _) rfl (.cons hx5.c1 (.lit _) rfl (.cons hx5.c2 (.lit _) rfl (.cons hx5.c3 (.lit _) rfl (.cons hx5.c4 (.lit _) ho (.nil _ _)))))
    have hp3 : a5.tmps.getD 3 undef = .pointer (some ⟨b3, 0, none⟩) := by
      have h3 : Rep m5 φ5 (.i (ptr (b3, 0))) (a5.tmps.getD 3 undef) := henv5 3
      exact h3.lit_eq
    have r5 : SRel w5 m5 φ5 52 2 { env := [(2, .own 0 0), (3, .i (.iref [.int e.kind, .int e.col, .bool e.val.null, .int e.val.n, .lit v]))], st := [some (.box zc), some (.arr 1 (X.map fun k => [ptr k.1]))] } a5 w5 := by
      refine ⟨⟨⟨m5, φ5, by simpa using hi5, fun t => ?_, .refl _ _ _, hok5⟩, hsz5, hdf5⟩, Nat.le_refl _⟩
      simp only [envOf]
      by_cases h2 : t = 2
      · subst h2; simp only [if_true]; exact henv5 2
      · by_cases h3 : t = 3
        · subst h3; simp only [if_true]; rw [hp3]; exact .i (.iref hroot)
        · simp only [h2, h3, if_false]; exact .junk _
    refine wp_mono (codeS sound1 h05 (G := GS 45) (S := { env := [(2, .own 0 0), (3, .i (.iref [.int e.kind, .int e.col, .bool e.val.null, .int e.val.n, .lit v]))], st := [some (.box zc), some (.arr 1 (X.map fun k => [ptr k.1]))] }) (e := .ret) (S' := { env := [(0, .junk), (2, .own 0 0), (3, .i (.iref [.int e.kind, .int e.col, .bool e.val.null, .int e.val.n, .lit v])), (4, .junk), (5, .junk), (6, .junk), (13, .junk), (37, .junk), (38, .junk), (39, .junk)], st := [some (.box [.int e.kind, .int e.col, .bool e.val.null, .int e.val.n, .i (.lit v)]), some (.arr 1 (X.map fun k => [ptr k.1]))] }) (by kernel_rfl) (by simp [zc]) r5) ?_
    rintro _ a6 w6 ⟨rfl, r6⟩
    obtain ⟨vv, k1, k2⟩ := finish_sound (C := C1) (fn := Try.f45) (keep := false) (na := 2) (S := { env := [(0, .junk), (2, .own 0 0), (3, .i (.iref [.int e.kind, .int e.col, .bool e.val.null, .int e.val.n, .lit v])), (4, .junk), (5, .junk), (6, .junk), (13, .junk), (37, .junk), (38, .junk), (39, .junk)], st := [some (.box [.int e.kind, .int e.col, .bool e.val.null, .int e.val.n, .i (.lit v)]), some (.arr 1 (X.map fun k => [ptr k.1]))] }) (r := .i (.agg [.int e.kind, .int e.col, .bool e.val.null, .int e.val.n, .lit v])) (stl' := [some (.box [.int e.kind, .int e.col, .bool e.val.null, .int e.val.n, .i (.lit v)]), some (.arr 1 (X.map fun k => [ptr k.1]))]) h05 r6 (by
      show finish C1 false [ResultVar.cell 2 27] 2 _ = _
      simp)
    refine ⟨r6.1.defers, vv, k1, ?_⟩
    obtain ⟨y, m6, φ6, hy, j1, j2, j3, j4⟩ := k2
    injection hy with hy
    subst hy
    have hvv : vv = .agg [.int .i64 e.kind, .int .i64 e.col, .bool e.val.null, .int .i64 e.val.n, v].toArray := by
      cases j1 with
      | i r => cases r with
        | agg hc =>
          have := ICells.litsEq (vs := [.int .i64 e.kind, .int .i64 e.col, .bool e.val.null, .int .i64 e.val.n, v]) hc
          rw [this]
    subst hvv
    have hall := hadv5.trans j3
    have hwi : ∀ f, f < wi.heap.size → w6.heap[f]? = wi.heap[f]? := fun f hf => hall.block f hf fun id b n e => by cases e
    have ht6 := ht5.mono (w' := w6) fun f hf => j3.block f (ht5.lt f hf) (hF5 f hf).2.2
    have hlt6 := ht6.lt
    have hlen : (Ex.cellsL e.kids).length = e.kids.length := by simp
    have hcne : Ex.cellsL e.kids ≠ [] := fun h => by rw [h] at hlen; simp at hlen; exact hne (List.length_eq_zero_iff.1 hlen.symm)
    generalize hes : Ex.cellsL e.kids = es at ht6 hlen hcne
    cases ht6 with
    | isl0 => exact absurd rfl hcne
    | @isl b' kk cap _ us G _ _ F1 t1 t2 t3 t4 t5 t6 t7 t8 =>
      cases t8
      obtain rfl : kk = 5 := by
        cases hks : e.kids with
        | nil => exact absurd hks hne
        | cons a l => rw [← t4 a.cells (by rw [← hes, hks]; simp [Ex.cellsL]), Ex.cells_eq]; rfl
      simp only [List.append_nil] at hnd5 hF5 hlt6
      obtain ⟨T, t2⟩ := t2
      have hge : ∀ f ∈ b' :: G, wi.heap.size ≤ f := fun f hf => (hF5 f hf).2.1
      have hmi : ∀ f ∈ b' :: G, ∀ o, mi f o = none := fun f hf o => by
        cases hx : mi f o with
        | none => rfl
        | some u => have := hi.mem.lt hx; have := hge f hf; omega
      refine ⟨_, mi, fun id => if id = 0 then some (b', ⟨us.length, fun f => f ∈ b' :: G⟩) else none, rfl, ?_, ⟨fun b o u hu => ?_, ?_, ?_⟩, ⟨hall.size, hall.os, hall.tape, hall.output, fun f hf _ => hwi f hf, .refl _, fun _ _ _ _ => rfl, (fun _ _ _ h => by cases h), ?_⟩, ?_⟩
      · refine .agg (.cons (.i (.lit _)) rfl (.cons (.i (.lit _)) rfl (.cons (.i (.lit _)) rfl (.cons (.i (.lit _)) rfl (.cons ?_ rfl .nil)))))
        rw [hlen]
        exact .osl (n := ⟨us.length, fun f => f ∈ b' :: G⟩) rfl (by omega) (by simpa using t5) (fun _ => by simp) (fun h => by cases h)
      · rw [cell_of_heap (hwi b (hi.mem.lt hu))]; exact hi.mem b o u hu
      · intro id blk hb
        cases id with
        | succ id => simp [stOf] at hb
        | zero =>
          simp only [stOf] at hb
          rw [treB_pos hne, hes] at hb
          injection hb with hb; subst hb
          refine ⟨b', ⟨us.length, fun f => f ∈ b' :: G⟩, rfl, ⟨by simp, fun f hf => hlt6 f hf⟩, ?_⟩
          exact .tre (T := T) t2 rfl (by omega) t4 t7 (by show 5 * es.length ≤ us.length; omega) hnd5 (fun f hf => List.mem_cons_of_mem _ hf) hmi
      · intro i j x x' n1 n2 b1 b2 f h1 h2 _ _ _ _
        cases i with
        | succ i => simp [stOf] at h1
        | zero => cases j with
          | zero => rfl
          | succ j => simp [stOf] at h2
      · intro id b n f h1 ho
        by_cases hid : id = 0
        · subst hid
          simp only [if_true] at h1
          injection h1 with h1; injection h1 with e1 e2; subst e2
          exact .inl (hge f ho)
        · simp [hid] at h1
      · intro id hne'
        by_cases hid : id = 0
        · subst hid; simp
        · simp [hid] at hne'
  · clear g0 g4 g3 g1 g2
    obtain ⟨⟨b, o⟩, x, nn⟩ := k
    obtain rfl : nn = none := (hWL.sub ((b, o), (x, nn)) (by simp)).2
    rw [List.concat_eq_append] at hWL hsum g
    have hlen : ∀ l : KL, l.length ≤ (l.map fun k => k.2.1.size).sum := by
      intro l
      induction l with
      | nil => simp
      | cons a l ih => have := Ex.size_pos a.2.1; simp; omega
    have hil := hlen init
    simp at hsum
    have hxk : ((b, o), (x, none)) ∈ K := (hWL.sub _ (by simp)).1
    have hxs := Ex.size_eq x
    have hkl := Ex.sizeL_length x.kids
    have hne : ¬ ((init.length : Int) + 1 ≤ 0) := by omega
    have hpos : (0 : Int) < (init.length : Int) + 1 := by omega
    have w1 : IntKind.i64.wrap (init.length : Int) = init.length := wrap64 (by omega) (by omega)
    generalize hES : ((init ++ [((b, o), ((x, none) : Nd))] ++ X : KL).map fun k => [ptr k.1]) = ES
    have hnth : nthE ES init.length = some [ptr (b, o)] := by
      rw [nthE_eq, ← hES]; simp
    have hlit : ∀ c ∈ ES.flatten, ∃ v, c = .lit v := by rw [← hES]; exact ptr_lit _
    have hlt : (init.length : Int) < (init.length : Int) + 1 := by omega
    have hlt2 : (init.length : Int) ≤ (init.length : Int) + 1 := by omega
    refine wp_seq (wp_mono (GG.codeA sound1 (G := GS 45) (S := SL b3 (init ++ [((b, o), ((x, none) : Nd))]) X) (e := .normal) (S' := { env := [(0, .junk), (2, .own 0 0), (3, .i (ptr (b3, 0))), (4, .osl 1 1 0 (init.length + 1)), (5, .junk), (6, .junk), (13, .bool true), (37, .junk), (38, .junk), (39, .junk)], st := [some (.box zc), some (.arr 1 ES)] }) (by kernel_rfl) (by simp only [SL, hES]; simp [ptr, zc, hpos]) (by simpa using g)) ?_)
    rintro _ a5 w5 ⟨rfl, g5⟩
    clear g
    refine wp_block ?_
    refine wp_seq (wp_mono (GG.codeA sound1 (G := GS 45) (S := { env := [(0, .junk), (2, .own 0 0), (3, .i (ptr (b3, 0))), (4, .osl 1 1 0 (init.length + 1)), (5, .junk), (6, .junk), (13, .bool true), (37, .junk), (38, .junk), (39, .junk)], st := [some (.box zc), some (.arr 1 ES)] }) (e := .normal) (S' := { env := [(0, .junk), (2, .own 0 0), (3, .i (ptr (b3, 0))), (4, .osl 1 1 0 (init.length + 1)), (5, (.i (ptr (b, o)))), (6, .junk), (13, .bool true), (37, .junk), (38, .junk), (39, .junk)], st := [some (.box zc), some (.arr 1 ES)] }) (by kernel_rfl) (by simp only [ptr] at hnth; simp [ptr, zc, hnth, w1, hlt]) g5) ?_)
    rintro _ a6 w6 ⟨rfl, g6⟩
    clear g5
    refine wp_seq (wp_mono (GG.codeA sound1 (G := GS 45) (S := { env := [(0, .junk), (2, .own 0 0), (3, .i (ptr (b3, 0))), (4, .osl 1 1 0 (init.length + 1)), (5, (.i (ptr (b, o)))), (6, .junk), (13, .bool true), (37, .junk), (38, .junk), (39, .junk)], st := [some (.box zc), some (.arr 1 ES)] }) (e := .normal) (S' := { env := [(0, .junk), (2, .own 0 0), (3, .i (ptr (b3, 0))), (4, .osl 1 1 0 init.length), (5, (.i (ptr (b, o)))), (6, .junk), (13, .bool true), (37, .junk), (38, .junk), (39, .junk)], st := [some (.box zc), some (.arr 1 ES)] }) (by kernel_rfl) (by simp [ptr, zc, w1, hlt2]) g6) ?_)
    rintro _ a7 w7 ⟨rfl, g7⟩
    clear g6
    refine wp_seq (GG.region sound1 (os1 := [_, _]) (os2 := [_, _, _, _, _, _]) (u := 26) (PP := PP b3 b o init.length x ES) rfl (by
      have h : ∀ ops : Array Oper, ops.all (operOk 52) = true → ∀ o ∈ ops, operOk 52 o = true := fun ops h o ho => Array.all_eq_true_iff_forall_mem.1 h o ho
      exact h _ (by kernel_rfl)) g7 hxk ?_ ?_)
    · rw [Ex.cells_eq]
      by_cases hx : x.kids = []
      · simp [ptr, zc, hx, PP, Ex.cellsL, cpl_nil]
      · simp [ptr, zc, PP, cpl_some hx (by omega), hx]
    · rintro env st a8 w8 ⟨p2, p3, p4, p5, p32, q0, q1, p30⟩ g8
      clear g7
      obtain ⟨w9, b', ao, cap, e1, e2, hrun, hG, hfr⟩ := GG.turn (C := C1) (ok' := fun id => id < 2) (st' := stOf [some (.box zc), some (.arr 1 ES)]) (u := 30) (t := 25) g8 (by simp) hi.mem hxk (fun k hk he' => hWL.nolit ((b, o), (x, none)) (by simp) k hk he') rfl (by
        rcases p30 with ⟨h1, h2⟩ | ⟨id, h1, h2, h3, h4⟩
        · refine .inl ⟨h1, h2, ?_⟩
          intro i blk h
          rcases i with _ | _ | i
          · simp [stOf] at h; subst h; exact q0
          · simp [stOf] at h; subst h; exact q1
          · simp [stOf] at h
        · refine .inr ⟨id, h1, h2, h3, ?_⟩
          intro i blk h
          rcases i with _ | _ | i
          · simp [stOf] at h; subst h; exact ⟨by omega, q0⟩
          · simp [stOf] at h; subst h; exact ⟨by omega, q1⟩
          · simp [stOf] at h) (by
        intro i blk h
        rcases i with _ | _ | i
        · simp [stOf] at h; subst h; simp [LitBlk, zc]
        · simp [stOf] at h; subst h; exact hlit
        · simp [stOf] at h) (by
        intro i h
        rcases i with _ | _ | i
        · omega
        · omega
        · simp [stOf] at h)
      have ev5 := g8.litAt (t := 5) p5
      have ev32 := g8.litAt (t := 32) p32
      refine wpOp_store (C := C1) (w' := w9) rfl (by
        show (Instr.storeAt 25 (a8.tmps.getD 32 undef) (a8.tmps.getD 30 undef)).run C1.P w8 = _
        rw [ev32]; exact hrun) ?_
      have g9 := hG (envOf [(2, .own 0 0), (3, .i (ptr (b3, 0))), (4, .osl 1 1 0 init.length), (5, (.i (.iref [.int x.kind, .int x.col, .bool x.val.null, .int x.val.n, .lit (.slice ao x.kids.length cap)])))]) (by
        intro t
        simp only [envOf]
        by_cases h2 : t = 2
        · subst h2; exact .inr (.inr ⟨by simp [p2], by rw [p2]; simp [Stays, stOf]⟩)
        by_cases h3 : t = 3
        · subst h3; exact .inr (.inr ⟨by simp [p3], by rw [p3]; simp [Stays, ptr]⟩)
        by_cases h4 : t = 4
        · subst h4; exact .inr (.inr ⟨by simp [p4], by rw [p4]; simp [Stays, stOf]⟩)
        by_cases h5 : t = 5
        · subst h5; exact .inr (.inl ⟨ev5, by simp⟩)
        · simp [h2, h3, h4, h5])
      clear hG g8
      show Code.wp _ _ _ _ _
      refine wp_seq (wp_mono (GG.codeA sound1 (G := GS 45) (S := { env := [(2, .own 0 0), (3, .i (ptr (b3, 0))), (4, .osl 1 1 0 init.length), (5, (.i (.iref [.int x.kind, .int x.col, .bool x.val.null, .int x.val.n, .lit (.slice ao x.kids.length cap)])))], st := [some (.box zc), some (.arr 1 ES)] }) (e := .normal) (S' := { env := [(0, .junk), (2, .own 0 0), (3, .i (ptr (b3, 0))), (4, .osl 1 1 0 init.length), (5, (.i (.iref [.int x.kind, .int x.col, .bool x.val.null, .int x.val.n, .lit (.slice ao x.kids.length cap)]))), (6, .junk), (13, .junk), (37, .int x.kids.length), (38, .int 0), (39, .junk)], st := [some (.box zc), some (.arr 1 ES)] }) (by kernel_rfl) (by simp [ptr, zc]) g9) ?_)
      rintro _ a10 w10 ⟨rfl, g10⟩
      clear g9
      by_cases hx : x.kids = []
      · refine wp_mono (GG.codeA sound1 (G := GS 45) (S := { env := [(0, .junk), (2, .own 0 0), (3, .i (ptr (b3, 0))), (4, .osl 1 1 0 init.length), (5, (.i (.iref [.int x.kind, .int x.col, .bool x.val.null, .int x.val.n, .lit (.slice ao x.kids.length cap)]))), (6, .junk), (13, .junk), (37, .int x.kids.length), (38, .int 0), (39, .junk)], st := [some (.box zc), some (.arr 1 ES)] }) (e := .normal) (S' := { env := [(0, .junk), (2, .own 0 0), (3, .i (ptr (b3, 0))), (4, .osl 1 1 0 init.length), (5, (.i (.iref [.int x.kind, .int x.col, .bool x.val.null, .int x.val.n, .lit (.slice ao x.kids.length cap)]))), (6, .junk), (13, .junk), (37, .int x.kids.length), (38, .int 0), (39, .bool false)], st := [some (.box zc), some (.arr 1 ES)] }) (by kernel_rfl) (by
          simp only [hx, List.length_nil]
          simp
          rw [execA_loop]
          simp [ptr, zc]) g10) ?_
        rintro _ a11 w11 ⟨rfl, g11⟩
        simp only [exitOf, Exit.then, Exit.inBlock]
        refine ⟨n - 1, by omega, init, ((b, o), (x, none)) :: X, K ++ newN b o x b' cap, by have := hWL.step (b' := b') (cap := cap) hfr; rwa [hx, show kidsAt b' 0 [] = [] from rfl, List.append_nil] at this, ?_, by omega, ?_⟩
        · rw [hx] at hxs; simp [Ex.sizeL] at hxs; omega
        · have hES2 : ((init ++ ((b, o), ((x, none) : Nd)) :: X : KL).map fun k => [ptr k.1]) = ES := by rw [← hES]; simp
          simp only [SL, hES2]
          exact g11.envTo (by
            intro t
            simp only [envOf]
            by_cases h2 : t = 2
            · subst h2; simp
            by_cases h3 : t = 3
            · subst h3; simp
            by_cases h4 : t = 4
            · subst h4; simp
            · simp [h2, h3, h4])
      · obtain rfl := e2 hx
        have hET : ES.take init.length = RW init b' 0 := by rw [← hES]; simp [RW]
        have hEL : init.length ≤ ES.length := by rw [← hES]; simp
        have hlim : ∀ i, i ≤ x.kids.length → (init.length + i + 1) * 8 ≤ 140737488355328 := fun i hi => by omega
        have hk0 : x.kids.length ≠ 0 := fun h => hx (List.length_eq_zero_iff.1 h)
        refine wp_mono (GG.codeA sound1 (G := GS 45) (S := { env := [(0, .junk), (2, .own 0 0), (3, .i (ptr (b3, 0))), (4, .osl 1 1 0 init.length), (5, (.i (.iref [.int x.kind, .int x.col, .bool x.val.null, .int x.val.n, .lit (.slice (some ⟨b', 0, none⟩) x.kids.length cap)]))), (6, .junk), (13, .junk), (37, .int x.kids.length), (38, .int 0), (39, .junk)], st := [some (.box zc), some (.arr 1 ES)] }) (e := .normal) (S' := { env := [(0, .junk), (2, .own 0 0), (3, .i (ptr (b3, 0))), (4, .osl 2 1 0 (init.length + x.kids.length)), (5, (.i (.iref [.int x.kind, .int x.col, .bool x.val.null, .int x.val.n, .lit (.slice (some ⟨b', 0, none⟩) x.kids.length cap)]))), (6, .int (x.kids.length - 1)), (13, .junk), (37, .int x.kids.length), (38, .int x.kids.length), (39, .bool false)], st := [some (.box zc), none, some (.arr 1 (RW init b' x.kids.length))] }) (by kernel_rfl) (by
          simp
          rw [loop_to (YS b3 b' cap x init ES) x.kids.length (by simp [YS])]
          · rw [execA_loop]
            simp [YS, hk0, jk_pos hk0, zc, ptr]
          · intro i hi
            have w2 : IntKind.i64.wrap ((i : Int) + 1) = i + 1 := wrap64 (by omega) (by omega)
            have hi0 : (i : Int) < x.kids.length := by omega
            by_cases h0 : i = 0
            · subst h0
              have hl : (init.length + 1) * 8 ≤ 140737488355328 := by omega
              have hR : RW init b' 0 ++ [[.lit (.pointer (some ⟨b', 0, none⟩))]] = RW init b' 1 := by simpa [ptr] using RW_succ init b' 0
              simp [YS, zc, ptr, wrap_1', hi, hET, hEL, hl, hR]
            · have hl := hlim i (by omega)
              have hT : (RW init b' i).take (init.length + i) = RW init b' i := List.take_of_length_le (by rw [RW_len]; omega)
              have hR : RW init b' i ++ [[.lit (.pointer (some ⟨b', i * 5, none⟩))]] = RW init b' (i + 1) := by simpa [ptr] using RW_succ init b' i
              simp [YS, h0, jk_pos h0, zc, ptr, w2, hi, hT, RW_len, hl, hR, ← Nat.add_assoc]) g10) ?_
        rintro _ a11 w11 ⟨rfl, g11⟩
        simp only [exitOf, Exit.then, Exit.inBlock]
        refine ⟨n - 1, by omega, init ++ kidsAt b' 0 x.kids, [], K ++ newN b o x b' cap, hWL.step hfr, ?_, by omega, ?_⟩
        · rw [List.map_append, List.sum_append, kidsAt_sum]; omega
        · have g12 := g11.settle [2, 3, 4]
          have hR : List.map (fun k : (Nat × Nat) × Nd => [ptr k.1]) (init ++ kidsAt b' 0 x.kids ++ []) = RW init b' x.kids.length := by
            rw [List.append_nil, List.map_append, kidsAt_map]; simp [RW]
          have hl : (init ++ kidsAt b' 0 x.kids).length = init.length + x.kids.length := by rw [List.length_append, kidsAt_len]
          simp only [SL, hR, hl]
          have hs : Av.settle [2, 3, 4] 0 (envOf [(0, .junk), (2, .own 0 0), (3, .i (ptr (b3, 0))), (4, .osl 2 1 0 (init.length + x.kids.length)), (5, .i (.iref [.int x.kind, .int x.col, .bool x.val.null, .int x.val.n, .lit (.slice (some ⟨b', 0, none⟩) x.kids.length cap)])), (6, .int (x.kids.length - 1)), (13, .junk), (37, .int x.kids.length), (38, .int x.kids.length), (39, .bool false)]) (stOf [some (.box zc), none, some (.arr 1 (RW init b' x.kids.length))]) = { env := [(2, .own 0 0), (3, .i (ptr (b3, 0))), (4, .osl 1 1 0 (init.length + x.kids.length))], st := [some (.box zc), some (.arr 1 (RW init b' x.kids.length))] } := by
            simp [zc, ptr]
          rw [hs] at g12
          exact g12.envTo (by
            intro t
            simp only [envOf]
            by_cases h2 : t = 2
            · subst h2; simp
            by_cases h3 : t = 3
            · subst h3; simp
            by_cases h4 : t = 4
            · subst h4; simp
            · simp [h2, h3, h4])
end Go.Av.V.Sx

/- Substitute where slices are kept apart. No condition. -/
namespace Go.Av
theorem cells_inj {a b : Ex} (h : a.cells = b.cells) : a = b := by
  have := cellsL_inj (l := [a]) (m := [b]) (by simp [Ex.cellsL, h])
  simpa using this
/-- A copy of an expression, in memory of its own. -/
noncomputable def copyT : List AV → StL → Option (AV × StL)
  | [.i (.iref cs)], [] => @dite _ (∃ e : Ex, e.size < 1000000000 ∧ e.cells = cs) (Classical.propDecidable _) (fun h => some (rX h.choose [])) fun _ => none
  | _, _ => none
theorem copyT_eq {e : Ex} (h : e.size < 1000000000) : copyT [.i (.iref e.cells)] [] = some (rX e []) := by
  have hh : ∃ x : Ex, x.size < 1000000000 ∧ x.cells = e.cells := ⟨e, h, rfl⟩
  unfold copyT
  simp only
  rw [dif_pos hh, cells_inj hh.choose_spec.2]
theorem copyT_some {args : List AV} {st : StL} {r : AV × StL} (h : copyT args st = some r) : ∃ e : Ex, e.size < 1000000000 ∧ args = [.i (.iref e.cells)] ∧ st = [] ∧ r = rX e [] := by
  unfold copyT at h
  split at h
  · rename_i cs
    by_cases hc : ∃ e : Ex, e.size < 1000000000 ∧ e.cells = cs
    · rw [dif_pos hc] at h
      injection h with h
      exact ⟨hc.choose, hc.choose_spec.1, by rw [hc.choose_spec.2], rfl, h.symm⟩
    · rw [dif_neg hc] at h; cases h
  · cases h
end Go.Av
namespace Go.Proofs.Ytgpclhjdfdojhaa
open Go Go.Av
set_option maxRecDepth 4000
set_option maxHeartbeats 2000000
noncomputable def primU : FuncId → Option (List AV → StL → Option (AV × StL))
  | 45 => some copyT
  | 43 => none
  | 44 => none
  | 11 => none
  | g => some (callA C0 g)
def keepU : FuncId → Bool
  | 43 => true
  | 44 => true
  | 11 => true
  | g => keepR g
noncomputable def CU : Ctx := { P := Try.prog, G := GS, ownArgs := ownA, keepRes := keepU, eqT := eqTy, prim := primU, tree := true }
@[simp] theorem CU_P : CU.P = Try.prog := (rfl)
@[simp] theorem CU_G (f) : CU.G f = GS f := (rfl)
@[simp] theorem CU_o (f) : CU.ownArgs f = ownA f := (rfl)
@[simp] theorem CU_k (f) : CU.keepRes f = keepU f := (rfl)
@[simp] theorem CU_e (f) : CU.eqT f = eqTy f := (rfl)
@[simp] theorem CU_t : CU.tree = true := (rfl)
@[simp] theorem kU1 : keepU 43 = true := (rfl)
@[simp] theorem kU2 : keepU 44 = true := (rfl)
@[simp] theorem kU3 : keepU 11 = true := (rfl)
@[simp] theorem cu1 (args : List AV) (st : StL) : callA CU 14 args st = callA C0 14 args st := callA_prim (C := CU) rfl args st
@[simp] theorem cu2 (args : List AV) (st : StL) : callA CU 41 args st = callA C0 41 args st := callA_prim (C := CU) rfl args st
@[simp] theorem cu3 (args : List AV) (st : StL) : callA CU 42 args st = callA C0 42 args st := callA_prim (C := CU) rfl args st
theorem primU0 : CallOk CU (primCall CU) := by
  have h0 := callA_sound sound0
  have key : ∀ g q, CU.prim g = some q → (g = 45 ∧ q = copyT) ∨ q = callA C0 g := by
    intro g q h
    have h : primU g = some q := h
    unfold primU at h
    split at h <;> first | (cases h; done) | (injection h with h; exact .inl ⟨rfl, h.symm⟩) | (injection h with h; exact .inr h.symm)
  constructor
  · intro g args st p h
    unfold primCall at h
    cases hq : CU.prim g with
    | none => rw [hq] at h; cases h
    | some q =>
      rw [hq] at h
      rcases key g q hq with ⟨rfl, rfl⟩ | rfl
      · exact ⟨Try.f45, Try.func45, by decide, rfl⟩
      · exact h0.name g args st p h
  · intro g args st r st' h w m φ vs hi hr hb
    unfold primCall at h
    cases hq : CU.prim g with
    | none => rw [hq] at h; cases h
    | some q =>
      rw [hq] at h
      rcases key g q hq with ⟨rfl, rfl⟩ | rfl
      · obtain ⟨e, he, rfl, rfl, hres⟩ := copyT_some h
        by_cases hk : e.kids = []
        · rw [rX_nil hk] at hres
          injection hres with h1 h2
          subst h1; subst h2
          exact copied_calls he hi hr hb
        · rw [rX_pos hk] at hres
          injection hres with h1 h2
          subst h1; subst h2
          exact Go.Av.V.Sx.copied_tree he hk hi hr hb
      · exact h0.calls g args st r st' h w m φ vs hi hr hb
theorem soundU : SoundOk CU := sound_ok (C := CU) ft nt (fun t ht => by
  have h : eqTy t = true := ht
  unfold eqTy at h
  split at h
  · exact e23
  · exact e24
  · exact e42
  · cases h) mo primU0
theorem copiedT_eq {e : Ex} (h : e.size < 1000000000) : callA CU 45 [.i (.iref e.cells)] [] = some (rX e []) := by
  rw [callA_prim (C := CU) (p := copyT) rfl]; exact copyT_eq h
def lst (l : List Ex) : StL := [some (.box [.i (.isl (Ex.cellsL l))])]
theorem sub1T_col {e b : Ex} {l : List Ex} (hk : e.kind = 1) (h0 : 0 ≤ e.col) (hb : l[e.col.toNat]? = some b) (hs : b.size < 1000000000) :
    callA CU 44 [.i (.iref e.cells), .own 0 0] (lst l) = some (rX b (lst l)) := by
  rw [callA_eq rfl Try.func44 rfl rfl]
  have hc := copiedT_eq hs
  have r2 := Ex.cellsL_nth hb
  have r1 := (List.getElem?_eq_some_iff.1 hb).1
  simp only [lst]
  by_cases hx : b.kids = []
  · rw [rX_nil hx] at hc ⊢
    rw [Ex.cells_eq] at hc r2 ⊢
    rw [Ex.cells_eq b]
    simp only [hx, Ex.cellsL] at hc r2 ⊢
    simp [hk, h0, r2, hc, show e.col < l.length by omega]
  · rw [rX_pos hx] at hc ⊢
    rw [Ex.cells_eq] at hc r2
    rw [Ex.cells_eq]
    simp at hc
    simp [hk, h0, r2, hc, show e.col < l.length by omega, tX]
theorem sub1T_not {e : Ex} {l : List Ex} (hk : e.kind ≠ 1) (he : e.kids = []) (hs : e.size < 1000000000) :
    callA CU 44 [.i (.iref e.cells), .own 0 0] (lst l) = some (rX e (lst l)) := by
  rw [callA_eq rfl Try.func44 rfl rfl]
  have hc := copiedT_eq hs
  rw [rX_nil he] at hc ⊢
  rw [Ex.cells_eq] at hc ⊢
  simp only [lst]
  simp [hk, hc, he, Ex.cellsL]
  simp only [he, Ex.cellsL] at hc
  simp [hc]
def RUT (e : Ex) (l : List Ex) (f : Ex → Ex) (i : Nat) : AS :=
  { env := [(0, .i (.iref [.int e.kind, .int e.col, .bool e.val.null, .int e.val.n, .isl (Ex.cellsL e.kids)])), (1, .fn (.func 44) [.own 0 0]), (4, .own 1 0), (5, .own 2 0), (6, jk i (.int (i - 1))), (12, .bool ((e.kids.length : Int) == 0)), (39, .int e.kids.length), (40, .int i), (41, jk i (.bool true))],
    st := [some (.box [.i (.isl (Ex.cellsL l))]), some (.box [.int 0, .int 0, .bool false, .int 0, .nils]), some (.box [.int e.kind, .int e.col, .bool e.val.null, .int e.val.n, .osl 3 5 0 e.kids.length]), some (halfT (e.kids.map f) e.kids.length i)] }
theorem repUT_step {e : Ex} {l : List Ex} {f : Ex → Ex} (hk : e.kids ≠ []) (hl : e.kids.length < 1000000000) (ih : ∀ a ∈ e.kids, callA CU 43 [.i (.iref a.cells), .fn (.func 44) [.own 0 0]] (lst l) = some (rX (f a) (lst l))) :
    callA CU 43 [.i (.iref e.cells), .fn (.func 44) [.own 0 0]] (lst l) = some (rX (Ex.mk e.kind e.col e.val (e.kids.map f)) (lst l)) := by
  rw [callA_eq rfl Try.func43 rfl rfl, Ex.cells_eq]
  have hb : 56 * (e.kids.length : Int) ≤ 281474976710656 := by omega
  rw [rX_pos (by simpa [Ex.kids] using hk)]
  simp only [lst] at ih ⊢
  simp [hk, hb]
  rw [loop_to (RUT e l f) e.kids.length (by simp [RUT, halfT, zrow])]
  · rw [execA_loop]
    simp [RUT, halfT_end (l := e.kids.map f) (n := e.kids.length) (by simp), tX_mk, kids_mk]
  · intro i hi
    have h3 := List.getElem?_eq_getElem hi
    have hm := List.mem_of_getElem? h3
    have hc := ih _ hm
    have r2 := Ex.cellsL_nth h3
    have hput := halfT_put (l := e.kids.map f) (n := e.kids.length) (i := i) (a := f e.kids[i]) (by simp [h3]) hi
    generalize e.kids[i] = a at h3 hc r2 hput
    have w2 : IntKind.i64.wrap ((i : Int) + 1) = i + 1 := wrap64 (by omega) (by omega)
    rw [Ex.cells_eq] at r2 hc
    generalize f a = x at hc hput
    by_cases hx : x.kids = []
    · rw [rX_nil hx] at hc
      simp only [Ex.cells_eq, hx, Ex.cellsL] at hput hc
      simp [RUT, hi, r2, hc, w2, hput]
    · rw [rX_pos hx] at hc
      simp only [Ex.cells_eq] at hput
      simp at hc
      simp [RUT, hi, r2, hc, tX, w2, hput]
theorem repUT_leaf {e x : Ex} {l : List Ex} (hk : e.kids = []) (h : callA CU 44 [.i (.iref e.cells), .own 0 0] (lst l) = some (rX x (lst l))) :
    callA CU 43 [.i (.iref e.cells), .fn (.func 44) [.own 0 0]] (lst l) = some (rX x (lst l)) := by
  rw [callA_eq rfl Try.func43 rfl rfl]
  rw [Ex.cells_eq e] at h ⊢
  by_cases hx : x.kids = []
  · rw [rX_nil hx] at h ⊢
    rw [Ex.cells_eq x] at h ⊢
    simp [hk, Ex.cellsL, lst] at h ⊢
    simp [h]
  · rw [rX_pos hx] at h ⊢
    simp [hk, Ex.cellsL, lst, tX] at h ⊢
    simp [h]
theorem replacedT_sub {m : Int} (l : List Ex) (hm : m = l.length) (hl : ∀ b ∈ l, b.size < 1000000000) : ∀ (e : Ex), e.wf m = true → e.size < 1000000000 →
    callA CU 43 [.i (.iref e.cells), .fn (.func 44) [.own 0 0]] (lst l) = some (rX (e.sub l) (lst l)) := by
  intro e
  induction e using Ex.ind with
  | h k c v ks ih =>
    intro hw hs
    have hsz := hs
    rw [Ex.size_eq] at hsz
    have hkl := Ex.sizeL_length ks
    by_cases hk : k = 1
    · obtain ⟨c0, c1, ck⟩ := Ex.wf_col hw hk
      have hi : c.toNat < l.length := by simp [Ex.col] at c0 c1; omega
      have hb := List.getElem?_eq_getElem hi
      rw [Ex.sub_col l (e := .mk k c v ks) hk hb]
      exact repUT_leaf ck (sub1T_col (e := .mk k c v ks) hk c0 hb (hl _ (List.getElem_mem hi)))
    · cases ks with
      | nil =>
        have hn := sub1T_not (e := .mk k c v []) (l := l) hk rfl hs
        rw [Ex.sub_not l (e := .mk k c v []) hk]
        exact repUT_leaf (e := .mk k c v []) rfl hn
      | cons a ks =>
        rw [Ex.sub_not l (e := .mk k c v (a :: ks)) hk]
        refine repUT_step (e := .mk k c v (a :: ks)) (by simp [Ex.kids]) (by simp only [Ex.kids] at hsz ⊢; omega) fun x hx => ih x hx (Ex.wf_kids hw hx) ?_
        have := Ex.sizeL_mem hx
        omega
theorem isubT_no {e : Ex} {l : List Ex} {w : Int} (h : e.ok l.length = false) : callA CU 11 [.i (.agg e.cells), .i (.isl (Ex.cellsL l)), .int w] [] = some (resBT (e.subst l w)) := by
  rw [callA_eq rfl Try.func11 rfl rfl]
  have hc := ok_eq l.length e
  rw [h] at hc
  rw [Ex.cells_eq e] at hc ⊢
  simp [hc, Ex.subst, h, resBT]
theorem isubT_go {e : Ex} {l : List Ex} {w : Int} (h : e.ok l.length = true) : callA CU 11 [.i (.agg e.cells), .i (.isl (Ex.cellsL l)), .int w] [] = some (resBT (e.subst l w)) := by
  rw [callA_eq rfl Try.func11 rfl rfl]
  have hc := ok_eq l.length e
  rw [h] at hc
  have hw : 1 ≤ (l.length : Int) ∧ (l.length : Int) ≤ 6 := by simp [Ex.ok, okWidth] at h; omega
  have hwf : e.wf l.length = true := by simp [Ex.ok, Ex.vB_eq] at h; exact h.2.1
  have hsz := Ex.ok_size h
  rw [Ex.cells_eq e] at hc ⊢
  have hb : 8 * (l.length : Int) ≤ 281474976710656 := by omega
  simp [hc, hb]
  obtain ⟨j, h1, h2⟩ := upto_bad (Ex.ok w) l
  rw [loop_to (IX e l w) j (by simp [IX, natsL])]
  · rw [execA_loop]
    rcases h2 with ⟨hj, ha⟩ | ⟨k, h3, h4, h5, ha⟩
    · have ht : (l.map Ex.ht).take l.length = l.map Ex.ht := List.take_of_length_le (by simp)
      have ht2 : (natsL (l.map Ex.ht)).take l.length = natsL (l.map Ex.ht) := List.take_of_length_le (by simp)
      have hf := fits_eq (m := l.length) (hs := l.map Ex.ht) (by simp) e hwf (by omega) 8 (by omega)
      have hr := replacedT_sub (m := l.length) l rfl (fun b hb => by have := Ex.ok_size (List.all_eq_true.1 ha b hb); omega) e hwf (by omega)
      have hwl : ∀ b ∈ l, b.wf w = true := fun b hb => by
        have := List.all_eq_true.1 ha b hb
        simp [Ex.ok, Ex.vB_eq] at this; exact this.2.1
      have hww : okWidth w = true := by
        cases l with
        | nil => simp at hw
        | cons b l => simp [Ex.ok] at ha; exact ha.1.1
      have hq : (e.sub l).ok w = decide ((e.htS (l.map Ex.ht) : Int) ≤ 8) := by
        simp only [Ex.ok, Ex.vB_eq, Ex.wf_sub (m := l.length) l rfl hwl e hwf, Ex.ht_sub (w := l.length) l rfl e hwf, hww, Bool.true_and]
        rw [Bool.eq_iff_iff]; simp; omega
      rw [Ex.cells_eq e] at hf hr
      rw [← hq] at hf
      cases hq' : (e.sub l).ok w with
      | true =>
        rw [hq'] at hf
        have hB : e.subst l w = some (e.sub l) := by simp only [Ex.subst, h, ha, hq', Bool.and_self, if_true]
        rw [hB]
        generalize e.sub l = x at hr
        by_cases hx : x.kids = []
        · rw [rX_nil hx] at hr
          simp only [lst] at hr
          simp [IX, hj, ht, ht2, hf, hr, resBT, hx]
        · rw [rX_pos hx] at hr
          simp only [lst] at hr
          simp at hr
          simp [IX, hj, ht, ht2, hf, hr, resBT, hx, tX]
      | false => rw [hq'] at hf; simp [IX, hj, ht, ht2, hf, Ex.subst, h, ha, hq', resBT]
    · have r1 := (List.getElem?_eq_some_iff.1 h3).1
      have r2 := Ex.cellsL_nth h3
      have r3 := ok_eq w k
      rw [h5] at r3
      simp [IX, r1, r2, r3, Ex.subst, h, ha, resBT]
  · intro i hi
    obtain ⟨k, h3, h4, h5⟩ := h1 i hi
    have r1 := (List.getElem?_eq_some_iff.1 h3).1
    have r2 := Ex.cellsL_nth h3
    have r3 := ok_eq w k
    have w2 : IntKind.i64.wrap ((i : Int) + 1) = i + 1 := wrap64 (by omega) (by omega)
    have hh := height_eq k (by have := Ex.ok_size h5; omega)
    rw [h5] at r3
    have hD : (natsL ((l.map Ex.ht).take i)).length = i := by simp; omega
    have g1 := half_nth (n := l.length) (z := [IV.int 0]) hD r1
    have g2 := half_set (n := l.length) (z := [IV.int 0]) (x := [IV.int k.ht]) hD r1
    rw [natsL_snoc, ← take_snoc (a := k.ht) (by simp [h3])] at g2
    simp [IX, r1, r2, r3, w2, hh, g1, g2]
end Go.Proofs.Ytgpclhjdfdojhaa

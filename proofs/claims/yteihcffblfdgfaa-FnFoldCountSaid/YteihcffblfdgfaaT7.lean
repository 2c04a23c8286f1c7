/- Part 7 of what the proof rests on: the executor and what it is worth, and the program's functions as it runs them. No condition. -/
import Derived.Test.YteihcffblfdgfaaT6
set_option linter.unusedVariables false
set_option linter.unusedSimpArgs false
/- The width of a plan, as the reference has it: the small functions. No condition. -/
namespace Go.Proofs.Yteihcffblfdgfaa.P
open Go Go.Av
set_option maxRecDepth 4000
set_option maxHeartbeats 2000000
/-- What the reference asks of the fields. -/
def only (k t : Int) (es : List Ex) (cs : List Int) (ks : List Pn) : Bool := decide (1 ≤ k ∧ k ≤ 8) && (decide ((ks.length : Int) = nKids k) && (decide ((es.length : Int) = if k = 3 then (es.length : Int) else nExprs k) && ((decide (t = 0) || decide (k = 1)) && (decide (cs = []) || decide (k = 8)))))
theorem onlyFields_eq (k t : Int) (es : List Ex) (cs : List Int) (ks : List Pn) : callA C0 84 [.i (.agg [.int k, .int t, .isl (Ex.cellsL es), .isl (intsL cs), .isl (Pn.cellsL ks)])] [] = some (.bool (only k t es cs ks), []) := by
  rw [callA_eq rfl Try.func84 rfl rfl]
  rcases partCases k with rfl | rfl | rfl | rfl | rfl | rfl | rfl | rfl | h
  case inr.inr.inr.inr.inr.inr.inr.inr =>
    have h1 : ¬ (1 ≤ k ∧ k ≤ 8) := by omega
    simp [h.1, h.2.1, h.2.2.1, h.2.2.2.1, h.2.2.2.2.1, h.2.2.2.2.2.1, h1, only]
  case inr.inr.inl =>
    by_cases c1 : (ks.length : Int) = 1
    case neg => simp [c1, only]
    by_cases c3 : t = 0
    case neg => simp [c1, c3, only]
    by_cases c5 : cs = [] <;> simp [c1, c3, c5, only, intsL]
  case inl =>
    by_cases c1 : ks = []
    case neg => simp [c1, only]
    by_cases c2 : es = []
    case neg => simp [c1, c2, only]
    by_cases c3 : t = 0 <;> by_cases c5 : cs = [] <;> simp [c1, c2, c3, c5, only, intsL, Ex.cellsL, Pn.cellsL]
  case inr.inl =>
    by_cases c1 : (ks.length : Int) = 1
    case neg => simp [c1, only]
    by_cases c2 : (es.length : Int) = 1
    case neg => simp [c1, c2, only]
    by_cases c3 : t = 0
    case neg => simp [c1, c2, c3, only]
    by_cases c5 : cs = [] <;> simp [c1, c2, c3, c5, only, intsL]
  case inr.inr.inr.inl =>
    by_cases c1 : (ks.length : Int) = 2
    case neg => simp [c1, only]
    by_cases c2 : (es.length : Int) = 1
    case neg => simp [c1, c2, only]
    by_cases c3 : t = 0
    case neg => simp [c1, c2, c3, only]
    by_cases c5 : cs = [] <;> simp [c1, c2, c3, c5, only, intsL]
  case inr.inr.inr.inr.inl =>
    by_cases c1 : (ks.length : Int) = 2
    case neg => simp [c1, only]
    by_cases c2 : (es.length : Int) = 1
    case neg => simp [c1, c2, only]
    by_cases c3 : t = 0
    case neg => simp [c1, c2, c3, only]
    by_cases c5 : cs = [] <;> simp [c1, c2, c3, c5, only, intsL]
  case inr.inr.inr.inr.inr.inl =>
    by_cases c1 : (ks.length : Int) = 2
    case neg => simp [c1, only]
    by_cases c2 : es = []
    case neg => simp [c1, c2, only]
    by_cases c3 : t = 0
    case neg => simp [c1, c2, c3, only]
    by_cases c5 : cs = [] <;> simp [c1, c2, c3, c5, only, intsL, Ex.cellsL]
  case inr.inr.inr.inr.inr.inr.inl =>
    by_cases c1 : (ks.length : Int) = 1
    case neg => simp [c1, only]
    by_cases c2 : es = []
    case neg => simp [c1, c2, only]
    by_cases c3 : t = 0
    case neg => simp [c1, c2, c3, only]
    by_cases c5 : cs = [] <;> simp [c1, c2, c3, c5, only, intsL, Ex.cellsL]
  case inr.inr.inr.inr.inr.inr.inr.inl =>
    by_cases c1 : (ks.length : Int) = 1
    case neg => simp [c1, only]
    by_cases c2 : es = []
    case neg => simp [c1, c2, only]
    by_cases c3 : t = 0
    case neg => simp [c1, c2, c3, only]
    by_cases c5 : cs = [] <;> simp [c1, c2, c3, c5, only, intsL, Ex.cellsL]
theorem pv_ge {cs : List Int} {w : Int} : ∀ {i : Nat}, (∀ k, k < i → ∃ x, (cs.zip (-1 :: cs))[k]? = some x ∧ x ∈ cs.zip (-1 :: cs) ∧ decide (x.2 < x.1 ∧ x.1 < w) = true) → -1 ≤ pv cs i ∧ (i ≠ 0 → 0 ≤ pv cs i)
  | 0, _ => by simp [pv]
  | i + 1, h => by
    obtain ⟨x, h3, _, h4⟩ := h i (by omega)
    obtain ⟨c1, c2⟩ := cols_nth h3
    rw [pv_succ c1]
    have hb : x.2 < x.1 ∧ x.1 < w := by simpa using h4
    have := pv_ge (i := i) fun k hk => h k (by omega)
    omega
def CX (cs : List Int) (w : Int) (i : Nat) : AS :=
  { env := [(0, .i (.isl (intsL cs))), (1, .int w), (4, .bool false), (5, .int i), (9, jk i (.bool true)), (35, jk i (.bool false))], st := [] }
theorem validCols_eq (cs : List Int) (w : Int) (hl : cs.length < 9223372036854775808) (hw : 0 ≤ w ∧ w ≤ 6) : callA C0 87 [.i (.isl (intsL cs)), .int w] [] = some (.bool (colsOk w cs), []) := by
  rw [callA_eq rfl Try.func87 rfl rfl]
  have w1 : IntKind.i64.wrap (w - 1) = w - 1 := wrap64 (by omega) (by omega)
  simp
  obtain ⟨j, h1, h2⟩ := upto_bad (fun x : Int × Int => decide (x.2 < x.1 ∧ x.1 < w)) (cs.zip (-1 :: cs))
  rw [loop_to (CX cs w) j (by simp [CX])]
  · rw [execA_loop]
    rcases h2 with ⟨hj, ha⟩ | ⟨x, h3, _, h4, ha⟩
    · rw [cols_len] at hj
      have ha : colsOk w cs = true := ha
      simp [CX, hj, ha]
    · obtain ⟨c1, c2⟩ := cols_nth h3
      have r1 := (List.getElem?_eq_some_iff.1 c1).1
      have r2 := intsL_nth c1
      have hb : ¬ (x.2 < x.1 ∧ x.1 < w) := by simpa using h4
      have ha : colsOk w cs = false := ha
      have hp := pv_ge (i := j) h1
      by_cases hin : 0 ≤ x.1 ∧ x.1 ≤ w - 1
      · have hj : j ≠ 0 := fun h => by subst h; simp [pv] at c2; omega
        obtain ⟨j, rfl⟩ : ∃ i, j = i + 1 := ⟨j - 1, by omega⟩
        have q1 : cs[j]? = some x.2 := by
          have : pv cs (j + 1) = x.2 := c2
          simp only [pv, List.getElem?_cons_succ] at this
          rw [List.getElem?_eq_getElem (by omega)] at this ⊢
          simpa using this
        have q2 := intsL_nth q1
        have w4 : IntKind.i64.wrap ((j : Int) + 1 - 1) = j := by rw [wrap64 (by omega) (by omega)]; omega
        have w5 : IntKind.i64.wrap ((j : Int)) = j := by rw [wrap64 (by omega) (by omega)]
        simp [CX, r1, r2, w1, hin, ha, q2, w4, w5, show (0 : Int) < j + 1 by omega, show x.1 ≤ x.2 by omega, show (0 : Int) ≤ (j : Int) + 1 by omega, show j < cs.length by omega, show ((j : Int) + 1 < cs.length) by omega]
      · simp [CX, r1, r2, w1, hin, ha]
  · intro i hi
    obtain ⟨x, h3, _, h4⟩ := h1 i hi
    obtain ⟨c1, c2⟩ := cols_nth h3
    have r1 := (List.getElem?_eq_some_iff.1 c1).1
    have r2 := intsL_nth c1
    have hb : x.2 < x.1 ∧ x.1 < w := by simpa using h4
    have hp := pv_ge (i := i) fun k hk => h1 k (by omega)
    have hin : 0 ≤ x.1 ∧ x.1 ≤ w - 1 := by omega
    have w2 : IntKind.i64.wrap ((i : Int) + 1) = i + 1 := wrap64 (by omega) (by omega)
    by_cases h0 : i = 0
    · subst h0
      simp [CX, r1, r2, w1, hin, wrap_1]
    · obtain ⟨i, rfl⟩ : ∃ j, i = j + 1 := ⟨i - 1, by omega⟩
      have q1 : cs[i]? = some x.2 := by
        have : pv cs (i + 1) = x.2 := c2
        simp only [pv, List.getElem?_cons_succ] at this
        rw [List.getElem?_eq_getElem (by omega)] at this ⊢
        simpa using this
      have q2 := intsL_nth q1
      have w5 : IntKind.i64.wrap ((i : Int)) = i := by rw [wrap64 (by omega) (by omega)]
      have w2' : IntKind.i64.wrap ((i : Int) + 1 + 1) = i + 1 + 1 := wrap64 (by omega) (by omega)
      simp [CX, r1, r2, w1, hin, q2, w5, w2', show (0 : Int) < i + 1 by omega, show ¬ x.1 ≤ x.2 by omega, show (0 : Int) ≤ (i : Int) + 1 by omega, show i < cs.length by omega, show ((i : Int) + 1 < cs.length) by omega]
def pW (es : List Ex) (w : Int) : Int := if es.all (Ex.ok w) = true ∧ es.length ≤ 6 then (es.length : Int) else 0
def QX (es : List Ex) (w : Int) (i : Nat) : AS :=
  { env := [(0, .i (.isl (Ex.cellsL es))), (1, .int w), (4, .int 0), (5, .int i), (9, jk i (.bool true)), (18, jk i (.bool false)), (21, .junk)], st := [] }
theorem projectWidth_eq (es : List Ex) (w : Int) (hl : es.length < 9223372036854775808) : callA C0 86 [.i (.isl (Ex.cellsL es)), .int w] [] = some (.int (pW es w), []) := by
  rw [callA_eq rfl Try.func86 rfl rfl]
  simp
  obtain ⟨j, h1, h2⟩ := upto_bad (Ex.ok w) es
  rw [loop_to (QX es w) j (by simp [QX])]
  · rw [execA_loop]
    rcases h2 with ⟨hj, hall⟩ | ⟨x, h3, _, h5, hall⟩
    · by_cases h6 : es.length ≤ 6
      · have hq : pW es w = es.length := if_pos ⟨hall, h6⟩
        simp [QX, hj, hq, show ¬ (6 : Int) < es.length by omega]
      · have hq : pW es w = 0 := if_neg fun h => h6 h.2
        simp [QX, hj, hq, show (6 : Int) < es.length by omega]
    · have r1 := (List.getElem?_eq_some_iff.1 h3).1
      have r2 := Ex.cellsL_nth h3
      have r3 := sok_eq w x
      rw [h5] at r3
      rw [Ex.cells_eq] at r2 r3
      have hq : pW es w = 0 := if_neg fun h => by rw [hall] at h; simp at h
      simp [QX, r1, r2, r3, hq]
  · intro i hi
    obtain ⟨x, h3, _, h5⟩ := h1 i hi
    have r1 := (List.getElem?_eq_some_iff.1 h3).1
    have r2 := Ex.cellsL_nth h3
    have r3 := sok_eq w x
    rw [h5] at r3
    rw [Ex.cells_eq] at r2 r3
    have w2 : IntKind.i64.wrap ((i : Int) + 1) = i + 1 := wrap64 (by omega) (by omega)
    simp [QX, r1, r2, r3, w2]
def UX (ws : List Int) (i : Nat) : AS :=
  { env := [(0, .i (.isl (intsL ws))), (2, .bool false), (3, .int i), (7, jk i (.bool true)), (15, jk i (.bool false))], st := [] }
theorem svalidWidths_eq (ws : List Int) (hl : ws.length < 9223372036854775808) : callA C0 82 [.i (.isl (intsL ws))] [] = some (.bool (okWs ws), []) := by
  rw [callA_eq rfl Try.func82 rfl rfl]
  simp
  obtain ⟨j, h1', h2⟩ := upto_bad okWidth ws
  rw [loop_to (UX ws) j (by simp [UX])]
  · rw [execA_loop]
    rcases h2 with ⟨hj, ha⟩ | ⟨x, h3, _, h5, ha⟩
    · by_cases h4 : 1 ≤ ws.length ∧ ws.length ≤ 4
      · simp [UX, hj, okWs, h4, ha, show (1 : Int) ≤ ws.length ∧ (ws.length : Int) ≤ 4 by omega]
      · simp [UX, hj, okWs, h4, ha, show ¬ ((1 : Int) ≤ ws.length ∧ (ws.length : Int) ≤ 4) by omega]
    · have r1 := (List.getElem?_eq_some_iff.1 h3).1
      have r2 := intsL_nth h3
      have h5 : ¬ (1 ≤ x ∧ x ≤ 6) := by simpa [okWidth] using h5
      simp [UX, r1, r2, h5, okWs, ha]
  · intro i hi
    obtain ⟨x, h3, _, h5⟩ := h1' i hi
    have r1 := (List.getElem?_eq_some_iff.1 h3).1
    have r2 := intsL_nth h3
    have h5 : 1 ≤ x ∧ x ≤ 6 := by simpa [okWidth] using h5
    have w2 : IntKind.i64.wrap ((i : Int) + 1) = i + 1 := wrap64 (by omega) (by omega)
    simp [UX, r1, r2, h5, w2]
end Go.Proofs.Yteihcffblfdgfaa.P

/- The width of a plan, as the reference has it, kind by kind. No condition. -/
namespace Go.Proofs.Yteihcffblfdgfaa.P
open Go Go.Av
set_option maxRecDepth 4000
set_option maxHeartbeats 2000000
theorem splan_no {ws : List Int} {k t : Int} {es : List Ex} {cs : List Int} {ks : List Pn} {lv : Nat} (h : ¬ (only k t es cs ks = true ∧ (ks = [] ∨ lv ≠ 0))) : callA C0 60 [.i (.agg [.int k, .int t, .isl (Ex.cellsL es), .isl (intsL cs), .isl (Pn.cellsL ks)]), .i (.isl (intsL ws)), .int lv] [] = some (.int 0, []) := by
  rw [callA_eq rfl Try.func60 rfl rfl]
  have ho := onlyFields_eq k t es cs ks
  cases hq : only k t es cs ks with
  | false => rw [hq] at ho; simp [ho]
  | true =>
    rw [hq] at ho
    by_cases hk : ks = []
    · exact absurd ⟨hq, .inl hk⟩ h
    by_cases hl : lv = 0
    · have : 0 < ks.length := List.length_pos_iff.2 hk
      subst hl; simp [ho, hk, this]
    · exact absurd ⟨hq, .inr hl⟩ h
theorem splan_yes1 {ws : List Int} {lv : Nat} {t : Int} (ho : only 1 t [] [] [] = true) (hw : ws.length < 1000000000) : callA C0 60 [.i (.agg [.int 1, .int t, .isl (Ex.cellsL []), .isl (intsL []), .isl (Pn.cellsL [])]), .i (.isl (intsL ws)), .int lv] [] = some (.int (if 0 ≤ t then (ws[t.toNat]?).getD 0 else 0), []) := by
  rw [callA_eq rfl Try.func60 rfl rfl]
  have hf := onlyFields_eq 1 t [] [] []
  rw [ho] at hf
  have w1 : IntKind.i64.wrap ((ws.length : Int) - 1) = ws.length - 1 := wrap64 (by omega) (by omega)
  simp only [Ex.cellsL, Pn.cellsL, intsL] at hf ⊢
  simp [hf, w1]
  rw [execA_loop]
  by_cases h0 : 0 ≤ t
  case neg => simp [h0, w1]
  cases hx : ws[t.toNat]? with
  | none =>
    have := List.getElem?_eq_none_iff.1 hx
    simp [h0, w1, show ¬ t ≤ ws.length - 1 by omega]
  | some x =>
    have r1 := (List.getElem?_eq_some_iff.1 hx).1
    have r2 := intsL_nth hx
    simp [h0, w1, show t ≤ ws.length - 1 by omega, show t < ws.length by omega, r2]
theorem splan_yes2 {ws : List Int} {lv : Nat} {a : Pn} {va : Int} {e : Ex} (ho : only 2 0 [e] [] [a] = true) (hl : lv ≠ 0) (hl8 : lv ≤ 8) (ha : callA C0 60 [.i (.agg a.cells), .i (.isl (intsL ws)), .int (lv - 1 : Nat)] [] = some (.int va, [])) (ra : 0 ≤ va ∧ va ≤ 6) : callA C0 60 [.i (.agg [.int 2, .int 0, .isl (Ex.cellsL [e]), .isl (intsL []), .isl (Pn.cellsL [a])]), .i (.isl (intsL ws)), .int lv] [] = some (.int (if va = 0 then 0 else if e.ok va = true then va else 0), []) := by
  rw [callA_eq rfl Try.func60 rfl rfl]
  have hf := onlyFields_eq 2 0 [e] [] [a]
  rw [ho] at hf
  have c3' : ¬ (lv : Int) = 0 := by omega
  have w1 : IntKind.i64.wrap ((lv : Int) - 1) = (lv - 1 : Nat) := by rw [wrap64 (by omega) (by omega)]; omega
  have w2 : IntKind.i64.wrap (1 : Int) = 1 := wrap_1
  have w3 : IntKind.i64.wrap (2 : Int) = 2 := wrap64 (by omega) (by omega)
  have r0 : nthE [a.cells] 0 = some a.cells := rfl
  simp only [Pn.cellsL, intsL, Ex.cellsL] at hf ⊢
  have q0 : nthE [e.cells] 0 = some e.cells := rfl
  have qe := sok_eq (va) e
  rw [Ex.cells_eq e] at q0 qe hf ⊢
  rw [Pn.cells_eq a] at ha r0 hf ⊢
  simp [hf, hl, c3']
  rw [execA_loop]
  by_cases z1 : va = 0
  case pos => simp [w1, ha, r0, z1]
  simp [w1, w2, ha, r0, z1]
  rw [execA_loop]
  cases hv : e.ok va <;> rw [hv] at qe <;> simp [z1, q0, qe]
theorem splan_yes3 {ws : List Int} {lv : Nat} {a : Pn} {va : Int} {es : List Ex} (ho : only 3 0 es [] [a] = true) (hl : lv ≠ 0) (hl8 : lv ≤ 8) (ha : callA C0 60 [.i (.agg a.cells), .i (.isl (intsL ws)), .int (lv - 1 : Nat)] [] = some (.int va, [])) (ra : 0 ≤ va ∧ va ≤ 6) (he : es.length < 9223372036854775808) : callA C0 60 [.i (.agg [.int 3, .int 0, .isl (Ex.cellsL es), .isl (intsL []), .isl (Pn.cellsL [a])]), .i (.isl (intsL ws)), .int lv] [] = some (.int (if va = 0 then 0 else pW es va), []) := by
  rw [callA_eq rfl Try.func60 rfl rfl]
  have hf := onlyFields_eq 3 0 es [] [a]
  rw [ho] at hf
  have c3' : ¬ (lv : Int) = 0 := by omega
  have w1 : IntKind.i64.wrap ((lv : Int) - 1) = (lv - 1 : Nat) := by rw [wrap64 (by omega) (by omega)]; omega
  have w2 : IntKind.i64.wrap (1 : Int) = 1 := wrap_1
  have w3 : IntKind.i64.wrap (2 : Int) = 2 := wrap64 (by omega) (by omega)
  have r0 : nthE [a.cells] 0 = some a.cells := rfl
  simp only [Pn.cellsL, intsL, Ex.cellsL] at hf ⊢
  rw [Pn.cells_eq a] at ha r0 hf ⊢
  simp [hf, hl, c3']
  rw [execA_loop]
  by_cases z1 : va = 0
  case pos => simp [w1, ha, r0, z1]
  simp [w1, w2, ha, r0, z1]
  rw [execA_loop]
  have hp := projectWidth_eq es va he
  simp [z1, hp]
theorem splan_yes4 {ws : List Int} {lv : Nat} {a : Pn} {va : Int} {b : Pn} {vb : Int} {e : Ex} (ho : only 4 0 [e] [] [a, b] = true) (hl : lv ≠ 0) (hl8 : lv ≤ 8) (ha : callA C0 60 [.i (.agg a.cells), .i (.isl (intsL ws)), .int (lv - 1 : Nat)] [] = some (.int va, [])) (ra : 0 ≤ va ∧ va ≤ 6) (hb : callA C0 60 [.i (.agg b.cells), .i (.isl (intsL ws)), .int (lv - 1 : Nat)] [] = some (.int vb, [])) (rb : 0 ≤ vb ∧ vb ≤ 6) : callA C0 60 [.i (.agg [.int 4, .int 0, .isl (Ex.cellsL [e]), .isl (intsL []), .isl (Pn.cellsL [a, b])]), .i (.isl (intsL ws)), .int lv] [] = some (.int (if va = 0 ∨ vb = 0 then 0 else if va + vb ≤ 6 ∧ e.ok (va + vb) = true then va + vb else 0), []) := by
  rw [callA_eq rfl Try.func60 rfl rfl]
  have hf := onlyFields_eq 4 0 [e] [] [a, b]
  rw [ho] at hf
  have c3' : ¬ (lv : Int) = 0 := by omega
  have w1 : IntKind.i64.wrap ((lv : Int) - 1) = (lv - 1 : Nat) := by rw [wrap64 (by omega) (by omega)]; omega
  have w2 : IntKind.i64.wrap (1 : Int) = 1 := wrap_1
  have w3 : IntKind.i64.wrap (2 : Int) = 2 := wrap64 (by omega) (by omega)
  have r0 : nthE [a.cells, b.cells] 0 = some a.cells := rfl
  have r1 : nthE [a.cells, b.cells] 1 = some b.cells := rfl
  simp only [Pn.cellsL, intsL, Ex.cellsL] at hf ⊢
  have q0 : nthE [e.cells] 0 = some e.cells := rfl
  have qe := sok_eq (va + vb) e
  rw [Ex.cells_eq e] at q0 qe hf ⊢
  rw [Pn.cells_eq a] at ha r0 hf ⊢
  rw [Pn.cells_eq a] at r1
  rw [Pn.cells_eq b] at hb r0 r1 hf ⊢
  simp [hf, hl, c3']
  rw [execA_loop]
  by_cases z1 : va = 0
  case pos => simp [w1, ha, r0, z1]
  simp [w1, w2, ha, r0, z1]
  rw [execA_loop]
  by_cases z2 : vb = 0
  case pos => simp [w1, hb, r1, z2]
  simp [w1, hb, r1, z1, z2, w2, w3]
  rw [execA_loop]
  have w4 : IntKind.i64.wrap (va + vb) = va + vb := wrap64 (by omega) (by omega)
  by_cases h6 : va + vb ≤ 6
  · cases hv : e.ok (va + vb) <;> rw [hv] at qe <;> simp [z1, z2, q0, qe, w4, h6]
  · simp [z1, z2, w4, h6]
theorem splan_yes5 {ws : List Int} {lv : Nat} {a : Pn} {va : Int} {b : Pn} {vb : Int} {e : Ex} (ho : only 5 0 [e] [] [a, b] = true) (hl : lv ≠ 0) (hl8 : lv ≤ 8) (ha : callA C0 60 [.i (.agg a.cells), .i (.isl (intsL ws)), .int (lv - 1 : Nat)] [] = some (.int va, [])) (ra : 0 ≤ va ∧ va ≤ 6) (hb : callA C0 60 [.i (.agg b.cells), .i (.isl (intsL ws)), .int (lv - 1 : Nat)] [] = some (.int vb, [])) (rb : 0 ≤ vb ∧ vb ≤ 6) : callA C0 60 [.i (.agg [.int 5, .int 0, .isl (Ex.cellsL [e]), .isl (intsL []), .isl (Pn.cellsL [a, b])]), .i (.isl (intsL ws)), .int lv] [] = some (.int (if va = 0 ∨ vb = 0 then 0 else if va + vb ≤ 6 ∧ e.ok (va + vb) = true then va + vb else 0), []) := by
  rw [callA_eq rfl Try.func60 rfl rfl]
  have hf := onlyFields_eq 5 0 [e] [] [a, b]
  rw [ho] at hf
  have c3' : ¬ (lv : Int) = 0 := by omega
  have w1 : IntKind.i64.wrap ((lv : Int) - 1) = (lv - 1 : Nat) := by rw [wrap64 (by omega) (by omega)]; omega
  have w2 : IntKind.i64.wrap (1 : Int) = 1 := wrap_1
  have w3 : IntKind.i64.wrap (2 : Int) = 2 := wrap64 (by omega) (by omega)
  have r0 : nthE [a.cells, b.cells] 0 = some a.cells := rfl
  have r1 : nthE [a.cells, b.cells] 1 = some b.cells := rfl
  simp only [Pn.cellsL, intsL, Ex.cellsL] at hf ⊢
  have q0 : nthE [e.cells] 0 = some e.cells := rfl
  have qe := sok_eq (va + vb) e
  rw [Ex.cells_eq e] at q0 qe hf ⊢
  rw [Pn.cells_eq a] at ha r0 hf ⊢
  rw [Pn.cells_eq a] at r1
  rw [Pn.cells_eq b] at hb r0 r1 hf ⊢
  simp [hf, hl, c3']
  rw [execA_loop]
  by_cases z1 : va = 0
  case pos => simp [w1, ha, r0, z1]
  simp [w1, w2, ha, r0, z1]
  rw [execA_loop]
  by_cases z2 : vb = 0
  case pos => simp [w1, hb, r1, z2]
  simp [w1, hb, r1, z1, z2, w2, w3]
  rw [execA_loop]
  have w4 : IntKind.i64.wrap (va + vb) = va + vb := wrap64 (by omega) (by omega)
  by_cases h6 : va + vb ≤ 6
  · cases hv : e.ok (va + vb) <;> rw [hv] at qe <;> simp [z1, z2, q0, qe, w4, h6]
  · simp [z1, z2, w4, h6]
theorem splan_yes6 {ws : List Int} {lv : Nat} {a : Pn} {va : Int} {b : Pn} {vb : Int} (ho : only 6 0 [] [] [a, b] = true) (hl : lv ≠ 0) (hl8 : lv ≤ 8) (ha : callA C0 60 [.i (.agg a.cells), .i (.isl (intsL ws)), .int (lv - 1 : Nat)] [] = some (.int va, [])) (ra : 0 ≤ va ∧ va ≤ 6) (hb : callA C0 60 [.i (.agg b.cells), .i (.isl (intsL ws)), .int (lv - 1 : Nat)] [] = some (.int vb, [])) (rb : 0 ≤ vb ∧ vb ≤ 6) : callA C0 60 [.i (.agg [.int 6, .int 0, .isl (Ex.cellsL []), .isl (intsL []), .isl (Pn.cellsL [a, b])]), .i (.isl (intsL ws)), .int lv] [] = some (.int (if va = 0 ∨ vb = 0 then 0 else if va = vb then va else 0), []) := by
  rw [callA_eq rfl Try.func60 rfl rfl]
  have hf := onlyFields_eq 6 0 [] [] [a, b]
  rw [ho] at hf
  have c3' : ¬ (lv : Int) = 0 := by omega
  have w1 : IntKind.i64.wrap ((lv : Int) - 1) = (lv - 1 : Nat) := by rw [wrap64 (by omega) (by omega)]; omega
  have w2 : IntKind.i64.wrap (1 : Int) = 1 := wrap_1
  have w3 : IntKind.i64.wrap (2 : Int) = 2 := wrap64 (by omega) (by omega)
  have r0 : nthE [a.cells, b.cells] 0 = some a.cells := rfl
  have r1 : nthE [a.cells, b.cells] 1 = some b.cells := rfl
  simp only [Pn.cellsL, intsL, Ex.cellsL] at hf ⊢
  rw [Pn.cells_eq a] at ha r0 hf ⊢
  rw [Pn.cells_eq a] at r1
  rw [Pn.cells_eq b] at hb r0 r1 hf ⊢
  simp [hf, hl, c3']
  rw [execA_loop]
  by_cases z1 : va = 0
  case pos => simp [w1, ha, r0, z1]
  simp [w1, w2, ha, r0, z1]
  rw [execA_loop]
  by_cases z2 : vb = 0
  case pos => simp [w1, hb, r1, z2]
  simp [w1, hb, r1, z1, z2, w2, w3]
  rw [execA_loop]
  by_cases h6 : va = vb <;> simp [z1, z2, h6]
theorem splan_yes7 {ws : List Int} {lv : Nat} {a : Pn} {va : Int} (ho : only 7 0 [] [] [a] = true) (hl : lv ≠ 0) (hl8 : lv ≤ 8) (ha : callA C0 60 [.i (.agg a.cells), .i (.isl (intsL ws)), .int (lv - 1 : Nat)] [] = some (.int va, [])) (ra : 0 ≤ va ∧ va ≤ 6) : callA C0 60 [.i (.agg [.int 7, .int 0, .isl (Ex.cellsL []), .isl (intsL []), .isl (Pn.cellsL [a])]), .i (.isl (intsL ws)), .int lv] [] = some (.int (if va = 0 then 0 else va), []) := by
  rw [callA_eq rfl Try.func60 rfl rfl]
  have hf := onlyFields_eq 7 0 [] [] [a]
  rw [ho] at hf
  have c3' : ¬ (lv : Int) = 0 := by omega
  have w1 : IntKind.i64.wrap ((lv : Int) - 1) = (lv - 1 : Nat) := by rw [wrap64 (by omega) (by omega)]; omega
  have w2 : IntKind.i64.wrap (1 : Int) = 1 := wrap_1
  have w3 : IntKind.i64.wrap (2 : Int) = 2 := wrap64 (by omega) (by omega)
  have r0 : nthE [a.cells] 0 = some a.cells := rfl
  simp only [Pn.cellsL, intsL, Ex.cellsL] at hf ⊢
  rw [Pn.cells_eq a] at ha r0 hf ⊢
  simp [hf, hl, c3']
  rw [execA_loop]
  by_cases z1 : va = 0
  case pos => simp [w1, ha, r0, z1]
  simp [w1, w2, ha, r0, z1]
  rw [execA_loop]
  simp [z1]
theorem splan_yes8 {ws : List Int} {lv : Nat} {a : Pn} {va : Int} {cs : List Int} (ho : only 8 0 [] cs [a] = true) (hl : lv ≠ 0) (hl8 : lv ≤ 8) (ha : callA C0 60 [.i (.agg a.cells), .i (.isl (intsL ws)), .int (lv - 1 : Nat)] [] = some (.int va, [])) (ra : 0 ≤ va ∧ va ≤ 6) (hc : cs.length < 9223372036854775808) : callA C0 60 [.i (.agg [.int 8, .int 0, .isl (Ex.cellsL []), .isl (intsL cs), .isl (Pn.cellsL [a])]), .i (.isl (intsL ws)), .int lv] [] = some (.int (if va = 0 then 0 else if cs.length < 6 ∧ colsOk va cs = true then (cs.length : Int) + 1 else 0), []) := by
  rw [callA_eq rfl Try.func60 rfl rfl]
  have hf := onlyFields_eq 8 0 [] cs [a]
  rw [ho] at hf
  have c3' : ¬ (lv : Int) = 0 := by omega
  have w1 : IntKind.i64.wrap ((lv : Int) - 1) = (lv - 1 : Nat) := by rw [wrap64 (by omega) (by omega)]; omega
  have w2 : IntKind.i64.wrap (1 : Int) = 1 := wrap_1
  have w3 : IntKind.i64.wrap (2 : Int) = 2 := wrap64 (by omega) (by omega)
  have r0 : nthE [a.cells] 0 = some a.cells := rfl
  simp only [Pn.cellsL, intsL, Ex.cellsL] at hf ⊢
  rw [Pn.cells_eq a] at ha r0 hf ⊢
  simp [hf, hl, c3']
  rw [execA_loop]
  by_cases z1 : va = 0
  case pos => simp [w1, ha, r0, z1]
  simp [w1, w2, ha, r0, z1]
  rw [execA_loop]
  have hp := validCols_eq cs va hc ra
  by_cases h6 : cs.length < 6
  · have w5 : IntKind.i64.wrap ((cs.length : Int) + 1) = cs.length + 1 := wrap64 (by omega) (by omega)
    cases hv : colsOk va cs <;> rw [hv] at hp <;> simp [z1, hp, h6, show (cs.length : Int) < 6 by omega, w5]
  · cases hv : colsOk va cs <;> rw [hv] at hp <;> simp [z1, hp, h6, show ¬ (cs.length : Int) < 6 by omega]
end Go.Proofs.Yteihcffblfdgfaa.P

/- The width of a plan, as the reference has it. No condition. -/
namespace Go.Proofs.Yteihcffblfdgfaa.P
open Go Go.Av
set_option maxRecDepth 4000
set_option maxHeartbeats 2000000
theorem only_iff (k t : Int) (es : List Ex) (cs : List Int) (ks : List Pn) : only k t es cs ks = true ↔ ((1 ≤ k ∧ k ≤ 8) ∧ (ks.length : Int) = nKids k ∧ ((es.length : Int) = if k = 3 then (es.length : Int) else nExprs k) ∧ (t = 0 ∨ k = 1) ∧ (cs = [] ∨ k = 8)) := by
  unfold only
  simp only [Bool.and_eq_true, Bool.or_eq_true, decide_eq_true_eq]
theorem splanWidth_eq {ws : List Int} (hw : ∀ w ∈ ws, 0 ≤ w ∧ w ≤ 6) (hwl : ws.length < 1000000000) : ∀ (p : Pn), p.lim → ∀ (lv : Nat), lv ≤ 8 → callA C0 60 [.i (.agg p.cells), .i (.isl (intsL ws)), .int lv] [] = some (.int (p.wd ws lv), []) := by
  intro p
  induction p using Pn.ind with
  | h k t es cs ks ih =>
    intro hp lv hlv
    have hp := (Pn.lim_iff _).1 hp
    simp only [Pn.exprs_mk, Pn.cols_mk, Pn.kids_mk] at hp
    obtain ⟨he, hc, -, hks⟩ := hp
    rw [Pn.cells_mk]
    have hr := fun a => Pn.wd_range hw a (lv - 1)
    by_cases ho : only k t es cs ks = true ∧ (ks = [] ∨ lv ≠ 0)
    case neg =>
      rw [splan_no ho, Pn.wd_no]
      intro hh
      apply ho
      refine ⟨?_, hh.2⟩
      have h := (headOk_iff k t es cs ks).1 hh.1
      rw [only_iff]
      refine ⟨?_, h.1, ?_, h.2.2.1.symm, h.2.2.2.symm⟩
      · rcases nKids_range k with h1 | h1 | h1 | h1 <;> omega
      · by_cases h3 : k = 3
        · rw [if_pos h3]
        · have := h.2.1; rw [if_neg fun h => h3 h.1] at this; rw [if_neg h3]; exact this
    have hoo := ho.1
    have hq := (only_iff k t es cs ks).1 ho.1
    obtain ⟨h0, h1, h2, h3, h4⟩ := hq
    have h5 := ho.2
    -- the head is right, but for a projection of no or many
    by_cases hd : Pn.headOk (.mk k t es cs ks) = true
    case neg =>
      rw [Pn.wd_no fun h => hd h.1]
      have hk3 : k = 3 ∧ ¬ okWidth es.length = true ∧ (es.length : Int) ≠ 1 := by
        by_cases hk : k = 3
        · refine ⟨hk, ?_, ?_⟩
          · intro hv
            exact hd ((headOk_iff k t es cs ks).2 ⟨h1, by rw [if_pos ⟨hk, hv⟩], h3.symm, h4.symm⟩)
          · intro hv
            have : okWidth es.length = true := by rw [hv]; decide
            exact hd ((headOk_iff k t es cs ks).2 ⟨h1, by rw [if_pos ⟨hk, this⟩], h3.symm, h4.symm⟩)
        · exact absurd ((headOk_iff k t es cs ks).2 ⟨h1, by rw [if_neg fun h => hk h.1]; rwa [if_neg hk] at h2, h3.symm, h4.symm⟩) hd
      obtain ⟨rfl, hv, hv1⟩ := hk3
      obtain ⟨a, rfl⟩ := len_one (by simpa using h1)
      obtain rfl : cs = [] := by simpa using h4
      obtain rfl : t = 0 := by simpa using h3
      have hl : lv ≠ 0 := by simpa using h5
      rw [splan_yes3 hoo hl hlv (ih a (by simp) (hks a (by simp)) (lv - 1) (by omega)) (hr a) he]
      have : pW es (a.wd ws (lv - 1)) = 0 := by
        unfold pW
        split
        · rename_i h
          have : ¬ (1 ≤ (es.length : Int) ∧ (es.length : Int) ≤ 6) := by simpa [okWidth] using hv
          omega
        · rfl
      simp [this]
    have hx := Pn.wd_eq ws lv (.mk k t es cs ks)
    rw [if_pos (by simpa using (⟨hd, h5⟩ : _ ∧ _))] at hx
    simp only [Pn.kind_mk, Pn.table_mk, Pn.exprs_mk, Pn.cols_mk, Pn.kids_mk] at hx
    rw [hx]
    rcases partCases k with rfl | rfl | rfl | rfl | rfl | rfl | rfl | rfl | h
    · obtain rfl := len_zero (by simpa using h1)
      obtain rfl : es = [] := len_zero (by simpa using h2)
      obtain rfl : cs = [] := by simpa using h4
      exact splan_yes1 hoo hwl
    · obtain ⟨a, rfl⟩ := len_one (by simpa using h1)
      obtain ⟨e, rfl⟩ := len_one (by simpa using h2)
      obtain rfl : cs = [] := by simpa using h4
      obtain rfl : t = 0 := by simpa using h3
      have hl : lv ≠ 0 := by simpa using h5
      rw [splan_yes2 hoo hl hlv (ih a (by simp) (hks a (by simp)) (lv - 1) (by omega)) (hr a)]
      by_cases z : a.wd ws (lv - 1) = 0 <;> simp [z, wdOver]
    · obtain ⟨a, rfl⟩ := len_one (by simpa using h1)
      obtain rfl : cs = [] := by simpa using h4
      obtain rfl : t = 0 := by simpa using h3
      have hl : lv ≠ 0 := by simpa using h5
      rw [splan_yes3 hoo hl hlv (ih a (by simp) (hks a (by simp)) (lv - 1) (by omega)) (hr a) he]
      have h6 := Pn.headOk_exprs hd
      simp only [Pn.exprs_mk] at h6
      by_cases z : a.wd ws (lv - 1) = 0 <;> simp [z, wdOver, pW, h6]
    · obtain ⟨a, b, rfl⟩ := len_two (by simpa using h1)
      obtain ⟨e, rfl⟩ := len_one (by simpa using h2)
      obtain rfl : cs = [] := by simpa using h4
      obtain rfl : t = 0 := by simpa using h3
      have hl : lv ≠ 0 := by simpa using h5
      rw [splan_yes4 hoo hl hlv (ih a (by simp) (hks a (by simp)) (lv - 1) (by omega)) (hr a) (ih b (by simp) (hks b (by simp)) (lv - 1) (by omega)) (hr b)]
      by_cases z : a.wd ws (lv - 1) = 0 <;> by_cases z2 : b.wd ws (lv - 1) = 0 <;> simp [z, z2, wdOver]
    · obtain ⟨a, b, rfl⟩ := len_two (by simpa using h1)
      obtain ⟨e, rfl⟩ := len_one (by simpa using h2)
      obtain rfl : cs = [] := by simpa using h4
      obtain rfl : t = 0 := by simpa using h3
      have hl : lv ≠ 0 := by simpa using h5
      rw [splan_yes5 hoo hl hlv (ih a (by simp) (hks a (by simp)) (lv - 1) (by omega)) (hr a) (ih b (by simp) (hks b (by simp)) (lv - 1) (by omega)) (hr b)]
      by_cases z : a.wd ws (lv - 1) = 0 <;> by_cases z2 : b.wd ws (lv - 1) = 0 <;> simp [z, z2, wdOver]
    · obtain ⟨a, b, rfl⟩ := len_two (by simpa using h1)
      obtain rfl : es = [] := len_zero (by simpa using h2)
      obtain rfl : cs = [] := by simpa using h4
      obtain rfl : t = 0 := by simpa using h3
      have hl : lv ≠ 0 := by simpa using h5
      rw [splan_yes6 hoo hl hlv (ih a (by simp) (hks a (by simp)) (lv - 1) (by omega)) (hr a) (ih b (by simp) (hks b (by simp)) (lv - 1) (by omega)) (hr b)]
      by_cases z : a.wd ws (lv - 1) = 0 <;> by_cases z2 : b.wd ws (lv - 1) = 0 <;> simp [z, z2, wdOver]
    · obtain ⟨a, rfl⟩ := len_one (by simpa using h1)
      obtain rfl : es = [] := len_zero (by simpa using h2)
      obtain rfl : cs = [] := by simpa using h4
      obtain rfl : t = 0 := by simpa using h3
      have hl : lv ≠ 0 := by simpa using h5
      rw [splan_yes7 hoo hl hlv (ih a (by simp) (hks a (by simp)) (lv - 1) (by omega)) (hr a)]
      by_cases z : a.wd ws (lv - 1) = 0 <;> simp [z, wdOver]
    · obtain ⟨a, rfl⟩ := len_one (by simpa using h1)
      obtain rfl : es = [] := len_zero (by simpa using h2)
      obtain rfl : t = 0 := by simpa using h3
      have hl : lv ≠ 0 := by simpa using h5
      rw [splan_yes8 hoo hl hlv (ih a (by simp) (hks a (by simp)) (lv - 1) (by omega)) (hr a) hc]
      by_cases z : a.wd ws (lv - 1) = 0 <;> simp [z, wdOver]
    · omega
theorem widthOf_eq (p : Pn) (hp : p.lim) (ws : List Int) (hl : ws.length < 9223372036854775808) : callA C0 56 [.i (.agg p.cells), .i (.isl (intsL ws))] [] = some (.int (p.width ws), []) := by
  rw [callA_eq rfl Try.func56 rfl rfl]
  have hv := svalidWidths_eq ws hl
  cases h : okWs ws with
  | false => rw [h] at hv; rw [Pn.cells_eq]; simp [hv, Pn.width, h]
  | true =>
    rw [h] at hv
    have h4 : ws.length ≤ 4 := by simp [okWs] at h; omega
    have hb := splanWidth_eq (okWs_range h) (by omega) p hp 8 (by omega)
    rw [show ((8 : Nat) : Int) = 8 from rfl] at hb
    rw [Pn.cells_eq] at hb ⊢
    simp [hv, Pn.width, h, hb]
end Go.Proofs.Yteihcffblfdgfaa.P

/- Equal plans, as the laws have it. No condition. -/
namespace Go.Proofs.Yteihcffblfdgfaa.P
open Go Go.Av
set_option maxRecDepth 4000
set_option maxHeartbeats 2000000
def IX (l m : List Int) (i : Nat) : AS :=
  { env := [(0, .i (.isl (intsL l))), (1, .i (.isl (intsL m))), (4, .bool false), (5, .int i), (10, .bool false), (14, jk i (.bool true)), (25, jk i (.bool false))], st := [] }
theorem equalInts_eq {l m : List Int} (hl : l.length < 9223372036854775808) : callA C0 34 [.i (.isl (intsL l)), .i (.isl (intsL m))] [] = some (.bool (l == m), []) := by
  rw [callA_eq rfl Try.func34 rfl rfl]
  by_cases hlm : l.length = m.length
  case neg =>
    have : (l == m) = false := by simp; intro h; rw [h] at hlm; exact hlm rfl
    simp [show ¬ (l.length : Int) = m.length by omega, this]
  obtain ⟨j, h1, h2⟩ := ints_upto l m hlm
  simp [hlm]
  rw [loop_to (IX l m) j (by simp [IX])]
  · rw [execA_loop]
    rcases h2 with ⟨hj, ha⟩ | ⟨a, b, k1, k2, k3, ha⟩
    · simp [IX, hj, hlm]
      exact (beq_iff_eq.1 ha)
    · have r1 := (List.getElem?_eq_some_iff.1 k1).1
      have s1 := intsL_nth k1
      have s2 := intsL_nth k2
      have ha := beq_eq_false_iff_ne.1 ha
      have r3 := (List.getElem?_eq_some_iff.1 k2).1
      simp [IX, r1, r3, s1, s2, k3, ha]
  · intro i hi
    obtain ⟨a, k1, k2⟩ := h1 i hi
    have r1 := (List.getElem?_eq_some_iff.1 k1).1
    have s1 := intsL_nth k1
    have s2 := intsL_nth k2
    have w2 : IntKind.i64.wrap ((i : Int) + 1) = i + 1 := wrap64 (by omega) (by omega)
    have r3 := (List.getElem?_eq_some_iff.1 k2).1
    simp [IX, r1, r3, s1, s2, w2]
theorem equalLists_eq {l m : List Ex} (hl : l.length < 1000000000) (ht : ∀ a ∈ l, a.thin) : callA C0 33 [.i (.isl (Ex.cellsL l)), .i (.isl (Ex.cellsL m))] [] = some (.bool (Ex.eqbL l m), []) :=
  eqL_step hl fun a ha b => equalExprs_eq a (ht a ha) b
def PX (p q : Pn) (i : Nat) : AS :=
  { env := [(0, .i (.agg [.int p.kind, .int p.table, .isl (Ex.cellsL p.exprs), .isl (intsL p.cols), .isl (Pn.cellsL p.kids)])), (1, .i (.agg [.int q.kind, .int q.table, .isl (Ex.cellsL q.exprs), .isl (intsL q.cols), .isl (Pn.cellsL q.kids)])), (2, .own 0 0), (3, .own 1 0), (4, .bool false), (5, .int i), (42, .bool false), (47, jk i (.bool true)), (61, jk i (.bool false))],
    st := [some (.box [.int p.kind, .int p.table, .i (.isl (Ex.cellsL p.exprs)), .i (.isl (intsL p.cols)), .i (.isl (Pn.cellsL p.kids))]), some (.box [.int q.kind, .int q.table, .i (.isl (Ex.cellsL q.exprs)), .i (.isl (intsL q.cols)), .i (.isl (Pn.cellsL q.kids))])] }
theorem equalPlans_step {p q : Pn} (hp : p.thin) (ih : ∀ a ∈ p.kids, ∀ b, callA C0 10 [.i (.agg a.cells), .i (.agg b.cells)] [] = some (.bool (a.eqb b), [])) :
    callA C0 10 [.i (.agg p.cells), .i (.agg q.cells)] [] = some (.bool (p.eqb q), []) := by
  have ht := (Pn.thin_iff _).1 hp
  obtain ⟨t1, t2, t3, t4, -⟩ := ht
  have q1 := equalLists_eq (m := q.exprs) t1 t2
  have q2 := equalInts_eq (l := p.cols) (m := q.cols) (by omega)
  rw [callA_eq rfl Try.func10 rfl rfl, Pn.cells_eq, Pn.cells_eq, Pn.eqb_def]
  by_cases h1 : p.kind = q.kind
  case neg => simp [h1]
  by_cases h2 : p.table = q.table
  case neg => simp [h1, h2]
  cases h3 : Ex.eqbL p.exprs q.exprs with
  | false => rw [h3] at q1; simp [h1, h2, q1]
  | true =>
  rw [h3] at q1
  by_cases h4 : p.cols = q.cols
  case neg =>
    have hb : (p.cols == q.cols) = false := by simpa using h4
    rw [hb] at q2; simp [h1, h2, q1, q2, h4]
  have hb : (p.cols == q.cols) = true := by simpa using h4
  rw [hb, h4] at q2
  by_cases h5 : p.kids.length = q.kids.length
  case neg => simp [h1, h2, q1, q2, h4, show ¬ (p.kids.length : Int) = q.kids.length by omega, Pn.eqbL_len _ _ h5]
  obtain ⟨j, u1, u2⟩ := Pn.eqbL_upto _ _ h5
  simp [h1, h2, h4, q1, q2, h5]
  rw [loop_to (PX p q) j (by simp [PX, h1, h2, h4])]
  · rw [execA_loop]
    rcases u2 with ⟨hj, ha⟩ | ⟨a, b, k1, k2, k3, k4, ha⟩
    · simp [PX, hj, h5, ha]
    · have r1 := (List.getElem?_eq_some_iff.1 k1).1
      have r3 := (List.getElem?_eq_some_iff.1 k2).1
      have s1 := Pn.cellsL_nth k1
      have s2 := Pn.cellsL_nth k2
      have hc := ih a k3 b
      rw [Pn.cells_eq] at s1 s2
      rw [Pn.cells_eq, Pn.cells_eq] at hc
      simp [PX, r1, r3, s1, s2, ha, hc, k4]
  · intro i hi
    obtain ⟨a, b, k1, k2, k3, k4⟩ := u1 i hi
    have r1 := (List.getElem?_eq_some_iff.1 k1).1
    have r3 := (List.getElem?_eq_some_iff.1 k2).1
    have s1 := Pn.cellsL_nth k1
    have s2 := Pn.cellsL_nth k2
    have hc := ih a k3 b
    have w2 : IntKind.i64.wrap ((i : Int) + 1) = i + 1 := wrap64 (by omega) (by omega)
    rw [Pn.cells_eq] at s1 s2
    rw [Pn.cells_eq, Pn.cells_eq] at hc
    simp [PX, r1, r3, s1, s2, hc, k4, w2]
theorem equalPlans_eq : ∀ (p : Pn), p.thin → ∀ q : Pn, callA C0 10 [.i (.agg p.cells), .i (.agg q.cells)] [] = some (.bool (p.eqb q), []) := by
  intro p
  induction p using Pn.ind with
  | h k t es cs ks ih =>
    intro ht q
    exact equalPlans_step ht fun a ha b => ih a ha (((Pn.thin_iff _).1 ht).2.2.2.2 a ha) b
end Go.Proofs.Yteihcffblfdgfaa.P

/- Equal plans, as the program has it. No condition. -/
namespace Go.Proofs.Yteihcffblfdgfaa.P
open Go Go.Av
set_option maxRecDepth 4000
set_option maxHeartbeats 2000000
def SX (l m : List Int) (i : Nat) : AS :=
  { env := [(0, .i (.isl (intsL l))), (1, .i (.isl (intsL m))), (4, .bool false), (5, jk i (.int (i - 1))), (10, .bool false), (12, .int l.length), (13, .int i), (14, jk i (.bool true)), (24, jk i (.bool false))], st := [] }
theorem sliceEqual_eq {l m : List Int} (hl : l.length < 9223372036854775808) : callA C0 71 [.i (.isl (intsL l)), .i (.isl (intsL m))] [] = some (.bool (l == m), []) := by
  rw [callA_eq rfl Try.func71 rfl rfl]
  by_cases hlm : l.length = m.length
  case neg =>
    have : (l == m) = false := by simp; intro h; rw [h] at hlm; exact hlm rfl
    simp [show ¬ (l.length : Int) = m.length by omega, this]
  obtain ⟨j, h1, h2⟩ := ints_upto l m hlm
  simp [hlm]
  rw [loop_to (SX l m) j (by simp [SX, hlm])]
  · rw [execA_loop]
    rcases h2 with ⟨hj, ha⟩ | ⟨a, b, k1, k2, k3, ha⟩
    · simp [SX, hj, hlm]
      exact (beq_iff_eq.1 ha)
    · have r1 := (List.getElem?_eq_some_iff.1 k1).1
      have s1 := intsL_nth k1
      have s2 := intsL_nth k2
      have ha := beq_eq_false_iff_ne.1 ha
      have r3 := (List.getElem?_eq_some_iff.1 k2).1
      simp [SX, r1, r3, s1, s2, k3, ha]
  · intro i hi
    obtain ⟨a, k1, k2⟩ := h1 i hi
    have r1 := (List.getElem?_eq_some_iff.1 k1).1
    have s1 := intsL_nth k1
    have s2 := intsL_nth k2
    have w2 : IntKind.i64.wrap ((i : Int) + 1) = i + 1 := wrap64 (by omega) (by omega)
    have r3 := (List.getElem?_eq_some_iff.1 k2).1
    simp [SX, r1, r3, s1, s2, w2]
def EX (a b : Ex) (i : Nat) : AS :=
  { env := [(0, .i (.iref [.int a.kind, .int a.col, .bool a.val.null, .int a.val.n, .isl (Ex.cellsL a.kids)])), (1, .i (.iref [.int b.kind, .int b.col, .bool b.val.null, .int b.val.n, .isl (Ex.cellsL b.kids)])), (4, .bool false), (5, jk i (.int (i - 1))), (49, .bool false), (54, .int a.kids.length), (55, .int i), (56, jk i (.bool true)), (71, jk i (.bool false))], st := [] }
theorem equalE_step {a b : Ex} (hl : a.kids.length < 1000000000) (ih : ∀ x ∈ a.kids, ∀ y, callA C0 72 [.i (.iref x.cells), .i (.iref y.cells)] [] = some (.bool (x.eqb y), [])) :
    callA C0 72 [.i (.iref a.cells), .i (.iref b.cells)] [] = some (.bool (a.eqb b), []) := by
  rw [callA_eq rfl Try.func72 rfl rfl, Ex.cells_eq, Ex.cells_eq, Ex.eqb_def]
  by_cases h1 : a.kind = b.kind
  case neg => simp [h1]
  by_cases h2 : a.col = b.col
  case neg => simp [h1, h2]
  cases h3 : (a.val.null == b.val.null && a.val.n == b.val.n) with
  | false => simp [h1, h2, h3]
  | true =>
  by_cases h5 : a.kids.length = b.kids.length
  case neg => simp [h1, h2, h3, show ¬ (a.kids.length : Int) = b.kids.length by omega, Ex.eqbL_len _ _ h5]
  obtain ⟨j, u1, u2⟩ := Ex.eqbL_upto _ _ h5
  simp [h1, h2, h3, h5]
  rw [loop_to (EX a b) j (by simp [EX, h1, h2, h5])]
  · rw [execA_loop]
    rcases u2 with ⟨hj, ha⟩ | ⟨x, y, k1, k2, k3, k4, ha⟩
    · simp [EX, hj, h5, ha]
    · have r1 := (List.getElem?_eq_some_iff.1 k1).1
      have r3 := (List.getElem?_eq_some_iff.1 k2).1
      have s1 := Ex.cellsL_nth k1
      have s2 := Ex.cellsL_nth k2
      have hc := ih x k3 y
      rw [Ex.cells_eq] at s1 s2
      rw [Ex.cells_eq, Ex.cells_eq] at hc
      simp [EX, r1, r3, s1, s2, ha, hc, k4]
  · intro i hi
    obtain ⟨x, y, k1, k2, k3, k4⟩ := u1 i hi
    have r1 := (List.getElem?_eq_some_iff.1 k1).1
    have r3 := (List.getElem?_eq_some_iff.1 k2).1
    have s1 := Ex.cellsL_nth k1
    have s2 := Ex.cellsL_nth k2
    have hc := ih x k3 y
    have w2 : IntKind.i64.wrap ((i : Int) + 1) = i + 1 := wrap64 (by omega) (by omega)
    rw [Ex.cells_eq] at s1 s2
    rw [Ex.cells_eq, Ex.cells_eq] at hc
    simp [EX, r1, r3, s1, s2, hc, k4, w2]
theorem equalE_eq : ∀ (a : Ex), a.thin → ∀ b : Ex, callA C0 72 [.i (.iref a.cells), .i (.iref b.cells)] [] = some (.bool (a.eqb b), []) := by
  intro a
  induction a using Ex.ind with
  | h k c v ks ih =>
    intro ht b
    have ht' := (Ex.thin_iff _).1 ht
    exact equalE_step ht'.1 fun x hx y => ih x hx (ht'.2 x hx) y
def OX (p q : Pn) (i : Nat) : AS :=
  { env := [(0, .i (.iref [.int p.kind, .int p.table, .isl (Ex.cellsL p.exprs), .isl (intsL p.cols), .isl (Pn.cellsL p.kids)])), (1, .i (.iref [.int q.kind, .int q.table, .isl (Ex.cellsL q.exprs), .isl (intsL q.cols), .isl (Pn.cellsL q.kids)])), (4, .bool false), (5, jk i (.int (i - 1))), (6, .junk), (38, .bool false), (62, .bool false), (67, .int p.exprs.length), (68, .int i), (69, jk i (.bool true)), (84, jk i (.bool false)), (90, .junk), (91, .junk), (92, .junk), (107, .junk)], st := [] }
def OY (p q : Pn) (i : Nat) : AS :=
  { env := [(0, .i (.iref [.int p.kind, .int p.table, .isl (Ex.cellsL p.exprs), .isl (intsL p.cols), .isl (Pn.cellsL p.kids)])), (1, .i (.iref [.int q.kind, .int q.table, .isl (Ex.cellsL q.exprs), .isl (intsL q.cols), .isl (Pn.cellsL q.kids)])), (4, .bool false), (5, jk p.exprs.length (.int (p.exprs.length - 1))), (6, jk i (.int (i - 1))), (38, .bool false), (62, .bool false), (67, .int p.exprs.length), (68, .int p.exprs.length), (69, .bool false), (84, jk p.exprs.length (.bool false)), (90, .int p.kids.length), (91, .int i), (92, jk i (.bool true)), (107, jk i (.bool false))], st := [] }
theorem equalP_step {p q : Pn} (hp : p.thin) (ih : ∀ a ∈ p.kids, ∀ b, callA C0 30 [.i (.iref a.cells), .i (.iref b.cells)] [] = some (.bool (a.eqb b), [])) :
    callA C0 30 [.i (.iref p.cells), .i (.iref q.cells)] [] = some (.bool (p.eqb q), []) := by
  have ht := (Pn.thin_iff _).1 hp
  obtain ⟨t1, t2, t3, t4, -⟩ := ht
  have q2 := sliceEqual_eq (l := p.cols) (m := q.cols) (by omega)
  rw [callA_eq rfl Try.func30 rfl rfl, Pn.cells_eq, Pn.cells_eq, Pn.eqb_def]
  by_cases h1 : p.kind = q.kind
  case neg => simp [h1]
  by_cases h2 : p.table = q.table
  case neg => simp [h1, h2]
  by_cases h4 : p.cols = q.cols
  case neg =>
    have hb : (p.cols == q.cols) = false := by simpa using h4
    rw [hb] at q2; simp [h1, h2, q2, h4]
  have hb : (p.cols == q.cols) = true := by simpa using h4
  rw [hb, h4] at q2
  by_cases h6 : p.exprs.length = q.exprs.length
  case neg => simp [h1, h2, q2, h4, show ¬ (p.exprs.length : Int) = q.exprs.length by omega, Ex.eqbL_len _ _ h6]
  by_cases h5 : p.kids.length = q.kids.length
  case neg => simp [h1, h2, q2, h4, h6, show ¬ (p.kids.length : Int) = q.kids.length by omega, Pn.eqbL_len _ _ h5]
  simp [h1, h2, h4, q2, h6, h5]
  obtain ⟨j, v1, v2⟩ := Ex.eqbL_upto _ _ h6
  rw [loop_to (OX p q) j (by simp [OX, h1, h2, h4, h6])]
  · rw [execA_loop]
    rcases v2 with ⟨hj, ha⟩ | ⟨a, b, k1, k2, k3, k4, ha⟩
    · simp [OX, hj, h6]
      rw [← h6]
      obtain ⟨j, u1, u2⟩ := Pn.eqbL_upto _ _ h5
      rw [loop_to (OY p q) j (by simp [OY, h6, h5])]
      · rw [execA_loop]
        rcases u2 with ⟨hj, hb⟩ | ⟨a, b, k1, k2, k3, k4, hb⟩
        · simp [OY, hj, h5, ha, hb]
        · have r1 := (List.getElem?_eq_some_iff.1 k1).1
          have r3 := (List.getElem?_eq_some_iff.1 k2).1
          have s1 := Pn.cellsL_nth k1
          have s2 := Pn.cellsL_nth k2
          have hc := ih a k3 b
          rw [Pn.cells_eq] at s1 s2
          rw [Pn.cells_eq, Pn.cells_eq] at hc
          simp [OY, r1, r3, s1, s2, ha, hb, hc, k4]
      · intro i hi
        obtain ⟨a, b, k1, k2, k3, k4⟩ := u1 i hi
        have r1 := (List.getElem?_eq_some_iff.1 k1).1
        have r3 := (List.getElem?_eq_some_iff.1 k2).1
        have s1 := Pn.cellsL_nth k1
        have s2 := Pn.cellsL_nth k2
        have hc := ih a k3 b
        have w2 : IntKind.i64.wrap ((i : Int) + 1) = i + 1 := wrap64 (by omega) (by omega)
        rw [Pn.cells_eq] at s1 s2
        rw [Pn.cells_eq, Pn.cells_eq] at hc
        simp [OY, r1, r3, s1, s2, hc, k4, w2]
    · have r1 := (List.getElem?_eq_some_iff.1 k1).1
      have r3 := (List.getElem?_eq_some_iff.1 k2).1
      have s1 := Ex.cellsL_nth k1
      have s2 := Ex.cellsL_nth k2
      have hc := equalE_eq a (t2 a k3) b
      rw [Ex.cells_eq] at s1 s2
      rw [Ex.cells_eq, Ex.cells_eq] at hc
      simp [OX, r1, r3, s1, s2, ha, hc, k4]
  · intro i hi
    obtain ⟨a, b, k1, k2, k3, k4⟩ := v1 i hi
    have r1 := (List.getElem?_eq_some_iff.1 k1).1
    have r3 := (List.getElem?_eq_some_iff.1 k2).1
    have s1 := Ex.cellsL_nth k1
    have s2 := Ex.cellsL_nth k2
    have hc := equalE_eq a (t2 a k3) b
    have w2 : IntKind.i64.wrap ((i : Int) + 1) = i + 1 := wrap64 (by omega) (by omega)
    rw [Ex.cells_eq] at s1 s2
    rw [Ex.cells_eq, Ex.cells_eq] at hc
    simp [OX, r1, r3, s1, s2, hc, k4, w2]
theorem equalP_eq : ∀ (p : Pn), p.thin → ∀ q : Pn, callA C0 30 [.i (.iref p.cells), .i (.iref q.cells)] [] = some (.bool (p.eqb q), []) := by
  intro p
  induction p using Pn.ind with
  | h k t es cs ks ih =>
    intro ht q
    exact equalP_step ht fun a ha b => ih a ha (((Pn.thin_iff _).1 ht).2.2.2.2 a ha) b
end Go.Proofs.Yteihcffblfdgfaa.P

/- Equal plans, as the reference has it. No condition. -/
namespace Go.Proofs.Yteihcffblfdgfaa.P
open Go Go.Av
set_option maxRecDepth 4000
set_option maxHeartbeats 2000000
def FX (a b : Ex) (i : Nat) : AS :=
  { env := [(0, .i (.agg [.int a.kind, .int a.col, .bool a.val.null, .int a.val.n, .isl (Ex.cellsL a.kids)])), (1, .i (.agg [.int b.kind, .int b.col, .bool b.val.null, .int b.val.n, .isl (Ex.cellsL b.kids)])), (2, .own 0 0), (3, .own 1 0), (4, .bool false), (5, .int i), (33, .bool false), (38, jk i (.bool true)), (52, jk i (.bool false))],
    st := [some (.box [.int a.kind, .int a.col, .bool a.val.null, .int a.val.n, .i (.isl (Ex.cellsL a.kids))]), some (.box [.int b.kind, .int b.col, .bool b.val.null, .int b.val.n, .i (.isl (Ex.cellsL b.kids))])] }
theorem sequalE_step {a b : Ex} (hl : a.kids.length < 1000000000) (ih : ∀ x ∈ a.kids, ∀ y, callA C0 93 [.i (.agg x.cells), .i (.agg y.cells)] [] = some (.bool (x.eqb y), [])) :
    callA C0 93 [.i (.agg a.cells), .i (.agg b.cells)] [] = some (.bool (a.eqb b), []) := by
  rw [callA_eq rfl Try.func93 rfl rfl, Ex.cells_eq, Ex.cells_eq, Ex.eqb_def]
  by_cases h1 : a.kind = b.kind
  case neg => simp [h1]
  by_cases h2 : a.col = b.col
  case neg => simp [h1, h2]
  cases h3 : (a.val.null == b.val.null && a.val.n == b.val.n) with
  | false => simp [h1, h2, h3]
  | true =>
  by_cases h5 : a.kids.length = b.kids.length
  case neg => simp [h1, h2, h3, show ¬ (a.kids.length : Int) = b.kids.length by omega, Ex.eqbL_len _ _ h5]
  obtain ⟨j, u1, u2⟩ := Ex.eqbL_upto _ _ h5
  simp [h1, h2, h3, h5]
  rw [loop_to (FX a b) j (by simp [FX, h1, h2])]
  · rw [execA_loop]
    rcases u2 with ⟨hj, ha⟩ | ⟨x, y, k1, k2, k3, k4, ha⟩
    · simp [FX, hj, h5, ha]
    · have r1 := (List.getElem?_eq_some_iff.1 k1).1
      have r3 := (List.getElem?_eq_some_iff.1 k2).1
      have s1 := Ex.cellsL_nth k1
      have s2 := Ex.cellsL_nth k2
      have hc := ih x k3 y
      rw [Ex.cells_eq] at s1 s2
      rw [Ex.cells_eq, Ex.cells_eq] at hc
      simp [FX, r1, r3, s1, s2, ha, hc, k4]
  · intro i hi
    obtain ⟨x, y, k1, k2, k3, k4⟩ := u1 i hi
    have r1 := (List.getElem?_eq_some_iff.1 k1).1
    have r3 := (List.getElem?_eq_some_iff.1 k2).1
    have s1 := Ex.cellsL_nth k1
    have s2 := Ex.cellsL_nth k2
    have hc := ih x k3 y
    have w2 : IntKind.i64.wrap ((i : Int) + 1) = i + 1 := wrap64 (by omega) (by omega)
    rw [Ex.cells_eq] at s1 s2
    rw [Ex.cells_eq, Ex.cells_eq] at hc
    simp [FX, r1, r3, s1, s2, hc, k4, w2]
theorem sequalE_eq : ∀ (a : Ex), a.thin → ∀ b : Ex, callA C0 93 [.i (.agg a.cells), .i (.agg b.cells)] [] = some (.bool (a.eqb b), []) := by
  intro a
  induction a using Ex.ind with
  | h k c v ks ih =>
    intro ht b
    have ht' := (Ex.thin_iff _).1 ht
    exact sequalE_step ht'.1 fun x hx y => ih x hx (ht'.2 x hx) y
def HX (p q : Pn) (n m : Nat) (i j k : AV) (x51 x65 x70 x83 x88 x102 : AV) : AS :=
  { env := [(0, .i (.agg [.int p.kind, .int p.table, .isl (Ex.cellsL p.exprs), .isl (intsL p.cols), .isl (Pn.cellsL p.kids)])), (1, .i (.agg [.int q.kind, .int q.table, .isl (Ex.cellsL q.exprs), .isl (intsL q.cols), .isl (Pn.cellsL q.kids)])), (2, .own 0 0), (3, .own 1 0), (4, .bool false), (5, i), (6, j), (7, k), (46, .bool false), (51, x51), (65, x65), (70, x70), (83, x83), (88, x88), (102, x102)],
    st := [some (.box [.int p.kind, .int p.table, .i (.isl (Ex.cellsL p.exprs)), .i (.isl (intsL p.cols)), .i (.isl (Pn.cellsL p.kids))]), some (.box [.int q.kind, .int q.table, .i (.isl (Ex.cellsL q.exprs)), .i (.isl (intsL q.cols)), .i (.isl (Pn.cellsL q.kids))])] }
def H1 (p q : Pn) (i : Nat) : AS := HX p q 0 0 (.int i) .junk .junk (jk i (.bool true)) (jk i (.bool false)) .junk .junk .junk .junk
def H2 (p q : Pn) (i : Nat) : AS := HX p q 0 0 (.int p.exprs.length) (.int i) .junk (.bool false) (jk p.exprs.length (.bool false)) (jk i (.bool true)) (jk i (.bool false)) .junk .junk
def H3 (p q : Pn) (i : Nat) : AS := HX p q 0 0 (.int p.exprs.length) (.int p.cols.length) (.int i) (.bool false) (jk p.exprs.length (.bool false)) (.bool false) (jk p.cols.length (.bool false)) (jk i (.bool true)) (jk i (.bool false))
theorem sequalP_step {p q : Pn} (hp : p.thin) (ih : ∀ a ∈ p.kids, ∀ b, callA C0 74 [.i (.agg a.cells), .i (.agg b.cells)] [] = some (.bool (a.eqb b), [])) :
    callA C0 74 [.i (.agg p.cells), .i (.agg q.cells)] [] = some (.bool (p.eqb q), []) := by
  have ht := (Pn.thin_iff _).1 hp
  obtain ⟨t1, t2, t3, t4, -⟩ := ht
  rw [callA_eq rfl Try.func74 rfl rfl, Pn.cells_eq, Pn.cells_eq, Pn.eqb_def]
  by_cases h1 : p.kind = q.kind
  case neg => simp [h1]
  by_cases h2 : p.table = q.table
  case neg => simp [h1, h2]
  by_cases h6 : p.exprs.length = q.exprs.length
  case neg => simp [h1, h2, show ¬ (p.exprs.length : Int) = q.exprs.length by omega, Ex.eqbL_len _ _ h6]
  by_cases h7 : p.cols.length = q.cols.length
  case neg =>
    have hb : p.cols ≠ q.cols := fun h => h7 (by rw [h])
    simp [h1, h2, h6, show ¬ (p.cols.length : Int) = q.cols.length by omega, hb]
  by_cases h5 : p.kids.length = q.kids.length
  case neg => simp [h1, h2, h6, h7, show ¬ (p.kids.length : Int) = q.kids.length by omega, Pn.eqbL_len _ _ h5]
  simp [h1, h2, h6, h7, h5]
  obtain ⟨j, v1, v2⟩ := Ex.eqbL_upto _ _ h6
  rw [loop_to (H1 p q) j (by simp [H1, HX, h1, h2])]
  · rw [execA_loop]
    rcases v2 with ⟨hj, hae⟩ | ⟨a, b, k1, k2, k3, k4, ha⟩
    · simp [H1, HX, hj]
      obtain ⟨j, g1, g2⟩ := ints_upto _ _ h7
      rw [loop_to (H2 p q) j (by simp [H2, HX])]
      · rw [execA_loop]
        rcases g2 with ⟨hj, hac⟩ | ⟨a, b, k1, k2, k3, hac⟩
        · simp [H2, HX, hj]
          obtain ⟨j, u1, u2⟩ := Pn.eqbL_upto _ _ h5
          have hac := beq_iff_eq.1 hac
          rw [loop_to (H3 p q) j (by simp [H3, HX])]
          · rw [execA_loop]
            rcases u2 with ⟨hj, hb⟩ | ⟨a, b, k1, k2, k3, k4, hb⟩
            · simp [H3, HX, hj, hae, hac, hb]
            · have r1 := (List.getElem?_eq_some_iff.1 k1).1
              have r3 := (List.getElem?_eq_some_iff.1 k2).1
              have s1 := Pn.cellsL_nth k1
              have s2 := Pn.cellsL_nth k2
              have hc := ih a k3 b
              rw [Pn.cells_eq] at s1 s2
              rw [Pn.cells_eq, Pn.cells_eq] at hc
              simp [H3, HX, r1, r3, s1, s2, hb, hc, k4]
          · intro i hi
            obtain ⟨a, b, k1, k2, k3, k4⟩ := u1 i hi
            have r1 := (List.getElem?_eq_some_iff.1 k1).1
            have r3 := (List.getElem?_eq_some_iff.1 k2).1
            have s1 := Pn.cellsL_nth k1
            have s2 := Pn.cellsL_nth k2
            have hc := ih a k3 b
            have w2 : IntKind.i64.wrap ((i : Int) + 1) = i + 1 := wrap64 (by omega) (by omega)
            rw [Pn.cells_eq] at s1 s2
            rw [Pn.cells_eq, Pn.cells_eq] at hc
            simp [H3, HX, r1, r3, s1, s2, hc, k4, w2]
        · have r1 := (List.getElem?_eq_some_iff.1 k1).1
          have r3 := (List.getElem?_eq_some_iff.1 k2).1
          have s1 := intsL_nth k1
          have s2 := intsL_nth k2
          have hac := beq_eq_false_iff_ne.1 hac
          simp [H2, HX, r1, r3, s1, s2, k3, hac]
      · intro i hi
        obtain ⟨a, k1, k2⟩ := g1 i hi
        have r1 := (List.getElem?_eq_some_iff.1 k1).1
        have r3 := (List.getElem?_eq_some_iff.1 k2).1
        have s1 := intsL_nth k1
        have s2 := intsL_nth k2
        have w2 : IntKind.i64.wrap ((i : Int) + 1) = i + 1 := wrap64 (by omega) (by omega)
        simp [H2, HX, r1, r3, s1, s2, w2]
    · have r1 := (List.getElem?_eq_some_iff.1 k1).1
      have r3 := (List.getElem?_eq_some_iff.1 k2).1
      have s1 := Ex.cellsL_nth k1
      have s2 := Ex.cellsL_nth k2
      have hc := sequalE_eq a (t2 a k3) b
      rw [Ex.cells_eq] at s1 s2
      rw [Ex.cells_eq, Ex.cells_eq] at hc
      simp [H1, HX, r1, r3, s1, s2, ha, hc, k4]
  · intro i hi
    obtain ⟨a, b, k1, k2, k3, k4⟩ := v1 i hi
    have r1 := (List.getElem?_eq_some_iff.1 k1).1
    have r3 := (List.getElem?_eq_some_iff.1 k2).1
    have s1 := Ex.cellsL_nth k1
    have s2 := Ex.cellsL_nth k2
    have hc := sequalE_eq a (t2 a k3) b
    have w2 : IntKind.i64.wrap ((i : Int) + 1) = i + 1 := wrap64 (by omega) (by omega)
    rw [Ex.cells_eq] at s1 s2
    rw [Ex.cells_eq, Ex.cells_eq] at hc
    simp [H1, HX, r1, r3, s1, s2, hc, k4, w2]
theorem sequalP_eq : ∀ (p : Pn), p.thin → ∀ q : Pn, callA C0 74 [.i (.agg p.cells), .i (.agg q.cells)] [] = some (.bool (p.eqb q), []) := by
  intro p
  induction p using Pn.ind with
  | h k t es cs ks ih =>
    intro ht q
    exact sequalP_step ht fun a ha b => ih a ha (((Pn.thin_iff _).1 ht).2.2.2.2 a ha) b
end Go.Proofs.Yteihcffblfdgfaa.P

/- Copies of plans. No condition. -/
namespace Go.Proofs.Yteihcffblfdgfaa.P
open Go Go.Av
set_option maxRecDepth 4000
set_option maxHeartbeats 2000000
def KX (p : Pn) (i : Nat) : AS :=
  { env := [(0, .i (.agg [.int p.kind, .int p.table, .isl (Ex.cellsL p.exprs), .isl (intsL p.cols), .isl (Pn.cellsL p.kids)])), (1, .own 0 0), (2, .own 1 0), (3, .own 2 0), (4, .int i), (5, .junk), (19, jk i (.bool true)), (37, .junk)],
    st := some (.box [.int p.kind, .int p.table, .i (.isl (Ex.cellsL p.exprs)), .i (.isl (intsL p.cols)), .i (.isl (Pn.cellsL p.kids))]) :: some (.box [.int 0, .int 0, .nils, .nils, .nils]) ::
      some (.box [.int p.kind, .int p.table, gro 3 5 i, .osl (if i = 0 then 3 else 4) 1 0 p.cols.length, .nils]) :: (groB 5 (Ex.cellsL (p.exprs.take i)) i ++ [some (.arr 1 (intsL p.cols))]) }
def K2 (p : Pn) (i : Nat) : AS :=
  { env := [(0, .i (.agg [.int p.kind, .int p.table, .isl (Ex.cellsL p.exprs), .isl (intsL p.cols), .isl (Pn.cellsL p.kids)])), (1, .own 0 0), (2, .own 1 0), (3, .own 2 0), (4, .int p.exprs.length), (5, .int i), (19, .bool false), (37, jk i (.bool true))],
    st := some (.box [.int p.kind, .int p.table, .i (.isl (Ex.cellsL p.exprs)), .i (.isl (intsL p.cols)), .i (.isl (Pn.cellsL p.kids))]) :: some (.box [.int 0, .int 0, .nils, .nils, .nils]) ::
      some (.box [.int p.kind, .int p.table, gro 3 5 p.exprs.length, .osl (if p.exprs.length = 0 then 3 else 4) 1 0 p.cols.length, gro (if p.exprs.length = 0 then 4 else 5) 5 i]) :: (groB 5 (Ex.cellsL p.exprs) p.exprs.length ++ some (.arr 1 (intsL p.cols)) :: groB 5 (Pn.cellsL (p.kids.take i)) i) }
/-- A copy of a plan, its lists its own. -/
def pcX (p : Pn) : AV := .agg [.int p.kind, .int p.table, gro 0 5 p.exprs.length, .osl (if p.exprs.length = 0 then 0 else 1) 1 0 p.cols.length, gro (if p.exprs.length = 0 then 1 else 2) 5 p.kids.length]
def pcS (p : Pn) : StL := groB 5 (Ex.cellsL p.exprs) p.exprs.length ++ some (.arr 1 (intsL p.cols)) :: groB 5 (Pn.cellsL p.kids) p.kids.length
theorem copyPlan_step {p : Pn} (hp : p.thin) (ih : ∀ a ∈ p.kids, callA C0 64 [.i (.agg a.cells)] [] = some (pcX a, pcS a)) :
    callA C0 64 [.i (.agg p.cells)] [] = some (pcX p, pcS p) := by
  have ht := (Pn.thin_iff _).1 hp
  obtain ⟨t1, t2, t3, t4, -⟩ := ht
  rw [callA_eq rfl Try.func64 rfl rfl, Pn.cells_eq]
  by_cases hc : p.cols = []
  · simp [hc, intsL]
    rw [loop_to (KX p) p.exprs.length (by simp [KX, hc, intsL])]
    · rw [execA_loop]
      cases hn : p.exprs.length with
      | zero =>
        have he : p.exprs = [] := List.length_eq_zero_iff.1 hn
        simp [KX, he, hc, intsL, Ex.cellsL]
        rw [loop_to (K2 p) p.kids.length (by simp [K2, he, hc, intsL, Ex.cellsL])]
        · rw [execA_loop]
          cases hm : p.kids.length with
          | zero =>
            have hk : p.kids = [] := List.length_eq_zero_iff.1 hm
            simp [K2, he, hc, intsL, hk, Ex.cellsL, Pn.cellsL, pcX, pcS]
          | succ m =>
            have hk : p.kids.take (m + 1) = p.kids := List.take_of_length_le (by omega)
            simp [K2, he, hc, intsL, hm, hk, Ex.cellsL, pcX, pcS]
        · intro i hi
          have h3 := List.getElem?_eq_getElem hi
          have hc' := ih _ (List.mem_of_getElem? h3)
          have r2 := Pn.cellsL_nth h3
          generalize p.kids[i] = a at h3 hc' r2
          have w2 : IntKind.i64.wrap ((i : Int) + 1) = i + 1 := wrap64 (by omega) (by omega)
          rw [Pn.cells_eq] at r2 hc'
          simp only [pcX, pcS] at hc'
          have hl1 : (i + 1) * 88 ≤ 140737488355328 := by omega
          have hl2 : min i p.kids.length = i := by omega
          by_cases a1 : a.exprs = []
          · by_cases a2 : a.kids = []
            · simp [a1, a2, Ex.cellsL, Pn.cellsL] at hc' r2
              by_cases h0 : i = 0
              · subst h0; simp [K2, he, hc, intsL, hi, r2, hc', wrap_1, take_snoc h3, Ex.cellsL, Pn.cellsL, Pn.cells_eq a, a1, a2]
              · simp [K2, he, hc, intsL, gro_pos h0, groB_pos h0, jk_pos h0, hi, r2, hc', w2, take_snoc h3, Ex.cellsL, Pn.cellsL, Pn.cellsL_snoc, hl1, hl2, List.take_take, Pn.cells_eq a, h0, a1, a2]
            · have a2' : a.kids.length ≠ 0 := fun h => a2 (List.length_eq_zero_iff.1 h)
              simp [a1, gro_pos a2', groB_pos a2', a2, Ex.cellsL, Pn.cellsL] at hc' r2
              by_cases h0 : i = 0
              · subst h0; simp [K2, he, hc, intsL, hi, r2, hc', wrap_1, take_snoc h3, Ex.cellsL, Pn.cellsL, Pn.cells_eq a, a1, gro_pos a2', groB_pos a2', a2]
              · simp [K2, he, hc, intsL, gro_pos h0, groB_pos h0, jk_pos h0, hi, r2, hc', w2, take_snoc h3, Ex.cellsL, Pn.cellsL, Pn.cellsL_snoc, hl1, hl2, List.take_take, Pn.cells_eq a, h0, a1, gro_pos a2', groB_pos a2', a2]
          · by_cases a2 : a.kids = []
            · have a1' : a.exprs.length ≠ 0 := fun h => a1 (List.length_eq_zero_iff.1 h)
              simp [gro_pos a1', groB_pos a1', a1, a2, Ex.cellsL, Pn.cellsL] at hc' r2
              by_cases h0 : i = 0
              · subst h0; simp [K2, he, hc, intsL, hi, r2, hc', wrap_1, take_snoc h3, Ex.cellsL, Pn.cellsL, Pn.cells_eq a, gro_pos a1', groB_pos a1', a1, a2]
              · simp [K2, he, hc, intsL, gro_pos h0, groB_pos h0, jk_pos h0, hi, r2, hc', w2, take_snoc h3, Ex.cellsL, Pn.cellsL, Pn.cellsL_snoc, hl1, hl2, List.take_take, Pn.cells_eq a, h0, gro_pos a1', groB_pos a1', a1, a2]
            · have a1' : a.exprs.length ≠ 0 := fun h => a1 (List.length_eq_zero_iff.1 h)
              have a2' : a.kids.length ≠ 0 := fun h => a2 (List.length_eq_zero_iff.1 h)
              simp [gro_pos a1', groB_pos a1', a1, gro_pos a2', groB_pos a2', a2, Ex.cellsL, Pn.cellsL] at hc' r2
              by_cases h0 : i = 0
              · subst h0; simp [K2, he, hc, intsL, hi, r2, hc', wrap_1, take_snoc h3, Ex.cellsL, Pn.cellsL, Pn.cells_eq a, gro_pos a1', groB_pos a1', a1, gro_pos a2', groB_pos a2', a2]
              · simp [K2, he, hc, intsL, gro_pos h0, groB_pos h0, jk_pos h0, hi, r2, hc', w2, take_snoc h3, Ex.cellsL, Pn.cellsL, Pn.cellsL_snoc, hl1, hl2, List.take_take, Pn.cells_eq a, h0, gro_pos a1', groB_pos a1', a1, gro_pos a2', groB_pos a2', a2]
      | succ n =>
        have he : p.exprs.take (n + 1) = p.exprs := List.take_of_length_le (by omega)
        simp [KX, hn, he, hc, intsL]
        rw [loop_to (K2 p) p.kids.length (by simp [K2, hn, hc, intsL, Ex.cellsL])]
        · rw [execA_loop]
          cases hm : p.kids.length with
          | zero =>
            have hk : p.kids = [] := List.length_eq_zero_iff.1 hm
            simp [K2, hn, hc, intsL, hk, Ex.cellsL, Pn.cellsL, pcX, pcS]
          | succ m =>
            have hk : p.kids.take (m + 1) = p.kids := List.take_of_length_le (by omega)
            simp [K2, hn, hc, intsL, hm, hk, Ex.cellsL, pcX, pcS]
        · intro i hi
          have h3 := List.getElem?_eq_getElem hi
          have hc' := ih _ (List.mem_of_getElem? h3)
          have r2 := Pn.cellsL_nth h3
          generalize p.kids[i] = a at h3 hc' r2
          have w2 : IntKind.i64.wrap ((i : Int) + 1) = i + 1 := wrap64 (by omega) (by omega)
          rw [Pn.cells_eq] at r2 hc'
          simp only [pcX, pcS] at hc'
          have hl1 : (i + 1) * 88 ≤ 140737488355328 := by omega
          have hl2 : min i p.kids.length = i := by omega
          by_cases a1 : a.exprs = []
          · by_cases a2 : a.kids = []
            · simp [a1, a2, Ex.cellsL, Pn.cellsL] at hc' r2
              by_cases h0 : i = 0
              · subst h0; simp [K2, hn, hc, intsL, hi, r2, hc', wrap_1, take_snoc h3, Ex.cellsL, Pn.cellsL, Pn.cells_eq a, a1, a2]
              · simp [K2, hn, hc, intsL, gro_pos h0, groB_pos h0, jk_pos h0, hi, r2, hc', w2, take_snoc h3, Ex.cellsL, Pn.cellsL, Pn.cellsL_snoc, hl1, hl2, List.take_take, Pn.cells_eq a, h0, a1, a2]
            · have a2' : a.kids.length ≠ 0 := fun h => a2 (List.length_eq_zero_iff.1 h)
              simp [a1, gro_pos a2', groB_pos a2', a2, Ex.cellsL, Pn.cellsL] at hc' r2
              by_cases h0 : i = 0
              · subst h0; simp [K2, hn, hc, intsL, hi, r2, hc', wrap_1, take_snoc h3, Ex.cellsL, Pn.cellsL, Pn.cells_eq a, a1, gro_pos a2', groB_pos a2', a2]
              · simp [K2, hn, hc, intsL, gro_pos h0, groB_pos h0, jk_pos h0, hi, r2, hc', w2, take_snoc h3, Ex.cellsL, Pn.cellsL, Pn.cellsL_snoc, hl1, hl2, List.take_take, Pn.cells_eq a, h0, a1, gro_pos a2', groB_pos a2', a2]
          · by_cases a2 : a.kids = []
            · have a1' : a.exprs.length ≠ 0 := fun h => a1 (List.length_eq_zero_iff.1 h)
              simp [gro_pos a1', groB_pos a1', a1, a2, Ex.cellsL, Pn.cellsL] at hc' r2
              by_cases h0 : i = 0
              · subst h0; simp [K2, hn, hc, intsL, hi, r2, hc', wrap_1, take_snoc h3, Ex.cellsL, Pn.cellsL, Pn.cells_eq a, gro_pos a1', groB_pos a1', a1, a2]
              · simp [K2, hn, hc, intsL, gro_pos h0, groB_pos h0, jk_pos h0, hi, r2, hc', w2, take_snoc h3, Ex.cellsL, Pn.cellsL, Pn.cellsL_snoc, hl1, hl2, List.take_take, Pn.cells_eq a, h0, gro_pos a1', groB_pos a1', a1, a2]
            · have a1' : a.exprs.length ≠ 0 := fun h => a1 (List.length_eq_zero_iff.1 h)
              have a2' : a.kids.length ≠ 0 := fun h => a2 (List.length_eq_zero_iff.1 h)
              simp [gro_pos a1', groB_pos a1', a1, gro_pos a2', groB_pos a2', a2, Ex.cellsL, Pn.cellsL] at hc' r2
              by_cases h0 : i = 0
              · subst h0; simp [K2, hn, hc, intsL, hi, r2, hc', wrap_1, take_snoc h3, Ex.cellsL, Pn.cellsL, Pn.cells_eq a, gro_pos a1', groB_pos a1', a1, gro_pos a2', groB_pos a2', a2]
              · simp [K2, hn, hc, intsL, gro_pos h0, groB_pos h0, jk_pos h0, hi, r2, hc', w2, take_snoc h3, Ex.cellsL, Pn.cellsL, Pn.cellsL_snoc, hl1, hl2, List.take_take, Pn.cells_eq a, h0, gro_pos a1', groB_pos a1', a1, gro_pos a2', groB_pos a2', a2]
    · intro i hi
      have h3 := List.getElem?_eq_getElem hi
      have hc' := copyExpr_eq _ (t2 _ (List.mem_of_getElem? h3))
      have r2 := Ex.cellsL_nth h3
      generalize p.exprs[i] = a at h3 hc' r2
      have w2 : IntKind.i64.wrap ((i : Int) + 1) = i + 1 := wrap64 (by omega) (by omega)
      rw [Ex.cells_eq] at r2 hc'
      by_cases h0 : i = 0
      · subst h0; simp [KX, hc, intsL, hi, r2, hc', wrap_1, take_snoc h3, Ex.cellsL, Ex.cells_eq a]
      · simp [KX, hc, intsL, gro_pos h0, groB_pos h0, jk_pos h0, hi, r2, hc', w2, take_snoc h3, Ex.cellsL_snoc, show min i p.exprs.length = i by omega, show (i + 1) * 56 ≤ 140737488355328 by omega, List.take_take, Ex.cells_eq a, h0]
  simp [hc, show p.cols.length * 8 ≤ 140737488355328 by omega]
  rw [loop_to (KX p) p.exprs.length (by simp [KX, hc])]
  · rw [execA_loop]
    cases hn : p.exprs.length with
    | zero =>
      have he : p.exprs = [] := List.length_eq_zero_iff.1 hn
      simp [KX, he, hc, Ex.cellsL]
      rw [loop_to (K2 p) p.kids.length (by simp [K2, he, hc, Ex.cellsL])]
      · rw [execA_loop]
        cases hm : p.kids.length with
        | zero =>
          have hk : p.kids = [] := List.length_eq_zero_iff.1 hm
          simp [K2, he, hc, hk, Ex.cellsL, Pn.cellsL, pcX, pcS]
        | succ m =>
          have hk : p.kids.take (m + 1) = p.kids := List.take_of_length_le (by omega)
          simp [K2, he, hc, hm, hk, Ex.cellsL, pcX, pcS]
      · intro i hi
        have h3 := List.getElem?_eq_getElem hi
        have hc' := ih _ (List.mem_of_getElem? h3)
        have r2 := Pn.cellsL_nth h3
        generalize p.kids[i] = a at h3 hc' r2
        have w2 : IntKind.i64.wrap ((i : Int) + 1) = i + 1 := wrap64 (by omega) (by omega)
        rw [Pn.cells_eq] at r2 hc'
        simp only [pcX, pcS] at hc'
        have hl1 : (i + 1) * 88 ≤ 140737488355328 := by omega
        have hl2 : min i p.kids.length = i := by omega
        by_cases a1 : a.exprs = []
        · by_cases a2 : a.kids = []
          · simp [a1, a2, Ex.cellsL, Pn.cellsL] at hc' r2
            by_cases h0 : i = 0
            · subst h0; simp [K2, he, hc, hi, r2, hc', wrap_1, take_snoc h3, Ex.cellsL, Pn.cellsL, Pn.cells_eq a, a1, a2]
            · simp [K2, he, hc, gro_pos h0, groB_pos h0, jk_pos h0, hi, r2, hc', w2, take_snoc h3, Ex.cellsL, Pn.cellsL, Pn.cellsL_snoc, hl1, hl2, List.take_take, Pn.cells_eq a, h0, a1, a2]
          · have a2' : a.kids.length ≠ 0 := fun h => a2 (List.length_eq_zero_iff.1 h)
            simp [a1, gro_pos a2', groB_pos a2', a2, Ex.cellsL, Pn.cellsL] at hc' r2
            by_cases h0 : i = 0
            · subst h0; simp [K2, he, hc, hi, r2, hc', wrap_1, take_snoc h3, Ex.cellsL, Pn.cellsL, Pn.cells_eq a, a1, gro_pos a2', groB_pos a2', a2]
            · simp [K2, he, hc, gro_pos h0, groB_pos h0, jk_pos h0, hi, r2, hc', w2, take_snoc h3, Ex.cellsL, Pn.cellsL, Pn.cellsL_snoc, hl1, hl2, List.take_take, Pn.cells_eq a, h0, a1, gro_pos a2', groB_pos a2', a2]
        · by_cases a2 : a.kids = []
          · have a1' : a.exprs.length ≠ 0 := fun h => a1 (List.length_eq_zero_iff.1 h)
            simp [gro_pos a1', groB_pos a1', a1, a2, Ex.cellsL, Pn.cellsL] at hc' r2
            by_cases h0 : i = 0
            · subst h0; simp [K2, he, hc, hi, r2, hc', wrap_1, take_snoc h3, Ex.cellsL, Pn.cellsL, Pn.cells_eq a, gro_pos a1', groB_pos a1', a1, a2]
            · simp [K2, he, hc, gro_pos h0, groB_pos h0, jk_pos h0, hi, r2, hc', w2, take_snoc h3, Ex.cellsL, Pn.cellsL, Pn.cellsL_snoc, hl1, hl2, List.take_take, Pn.cells_eq a, h0, gro_pos a1', groB_pos a1', a1, a2]
          · have a1' : a.exprs.length ≠ 0 := fun h => a1 (List.length_eq_zero_iff.1 h)
            have a2' : a.kids.length ≠ 0 := fun h => a2 (List.length_eq_zero_iff.1 h)
            simp [gro_pos a1', groB_pos a1', a1, gro_pos a2', groB_pos a2', a2, Ex.cellsL, Pn.cellsL] at hc' r2
            by_cases h0 : i = 0
            · subst h0; simp [K2, he, hc, hi, r2, hc', wrap_1, take_snoc h3, Ex.cellsL, Pn.cellsL, Pn.cells_eq a, gro_pos a1', groB_pos a1', a1, gro_pos a2', groB_pos a2', a2]
            · simp [K2, he, hc, gro_pos h0, groB_pos h0, jk_pos h0, hi, r2, hc', w2, take_snoc h3, Ex.cellsL, Pn.cellsL, Pn.cellsL_snoc, hl1, hl2, List.take_take, Pn.cells_eq a, h0, gro_pos a1', groB_pos a1', a1, gro_pos a2', groB_pos a2', a2]
    | succ n =>
      have he : p.exprs.take (n + 1) = p.exprs := List.take_of_length_le (by omega)
      simp [KX, hn, he, hc]
      rw [loop_to (K2 p) p.kids.length (by simp [K2, hn, hc, Ex.cellsL])]
      · rw [execA_loop]
        cases hm : p.kids.length with
        | zero =>
          have hk : p.kids = [] := List.length_eq_zero_iff.1 hm
          simp [K2, hn, hc, hk, Ex.cellsL, Pn.cellsL, pcX, pcS]
        | succ m =>
          have hk : p.kids.take (m + 1) = p.kids := List.take_of_length_le (by omega)
          simp [K2, hn, hc, hm, hk, Ex.cellsL, pcX, pcS]
      · intro i hi
        have h3 := List.getElem?_eq_getElem hi
        have hc' := ih _ (List.mem_of_getElem? h3)
        have r2 := Pn.cellsL_nth h3
        generalize p.kids[i] = a at h3 hc' r2
        have w2 : IntKind.i64.wrap ((i : Int) + 1) = i + 1 := wrap64 (by omega) (by omega)
        rw [Pn.cells_eq] at r2 hc'
        simp only [pcX, pcS] at hc'
        have hl1 : (i + 1) * 88 ≤ 140737488355328 := by omega
        have hl2 : min i p.kids.length = i := by omega
        by_cases a1 : a.exprs = []
        · by_cases a2 : a.kids = []
          · simp [a1, a2, Ex.cellsL, Pn.cellsL] at hc' r2
            by_cases h0 : i = 0
            · subst h0; simp [K2, hn, hc, hi, r2, hc', wrap_1, take_snoc h3, Ex.cellsL, Pn.cellsL, Pn.cells_eq a, a1, a2]
            · simp [K2, hn, hc, gro_pos h0, groB_pos h0, jk_pos h0, hi, r2, hc', w2, take_snoc h3, Ex.cellsL, Pn.cellsL, Pn.cellsL_snoc, hl1, hl2, List.take_take, Pn.cells_eq a, h0, a1, a2]
          · have a2' : a.kids.length ≠ 0 := fun h => a2 (List.length_eq_zero_iff.1 h)
            simp [a1, gro_pos a2', groB_pos a2', a2, Ex.cellsL, Pn.cellsL] at hc' r2
            by_cases h0 : i = 0
            · subst h0; simp [K2, hn, hc, hi, r2, hc', wrap_1, take_snoc h3, Ex.cellsL, Pn.cellsL, Pn.cells_eq a, a1, gro_pos a2', groB_pos a2', a2]
            · simp [K2, hn, hc, gro_pos h0, groB_pos h0, jk_pos h0, hi, r2, hc', w2, take_snoc h3, Ex.cellsL, Pn.cellsL, Pn.cellsL_snoc, hl1, hl2, List.take_take, Pn.cells_eq a, h0, a1, gro_pos a2', groB_pos a2', a2]
        · by_cases a2 : a.kids = []
          · have a1' : a.exprs.length ≠ 0 := fun h => a1 (List.length_eq_zero_iff.1 h)
            simp [gro_pos a1', groB_pos a1', a1, a2, Ex.cellsL, Pn.cellsL] at hc' r2
            by_cases h0 : i = 0
            · subst h0; simp [K2, hn, hc, hi, r2, hc', wrap_1, take_snoc h3, Ex.cellsL, Pn.cellsL, Pn.cells_eq a, gro_pos a1', groB_pos a1', a1, a2]
            · simp [K2, hn, hc, gro_pos h0, groB_pos h0, jk_pos h0, hi, r2, hc', w2, take_snoc h3, Ex.cellsL, Pn.cellsL, Pn.cellsL_snoc, hl1, hl2, List.take_take, Pn.cells_eq a, h0, gro_pos a1', groB_pos a1', a1, a2]
          · have a1' : a.exprs.length ≠ 0 := fun h => a1 (List.length_eq_zero_iff.1 h)
            have a2' : a.kids.length ≠ 0 := fun h => a2 (List.length_eq_zero_iff.1 h)
            simp [gro_pos a1', groB_pos a1', a1, gro_pos a2', groB_pos a2', a2, Ex.cellsL, Pn.cellsL] at hc' r2
            by_cases h0 : i = 0
            · subst h0; simp [K2, hn, hc, hi, r2, hc', wrap_1, take_snoc h3, Ex.cellsL, Pn.cellsL, Pn.cells_eq a, gro_pos a1', groB_pos a1', a1, gro_pos a2', groB_pos a2', a2]
            · simp [K2, hn, hc, gro_pos h0, groB_pos h0, jk_pos h0, hi, r2, hc', w2, take_snoc h3, Ex.cellsL, Pn.cellsL, Pn.cellsL_snoc, hl1, hl2, List.take_take, Pn.cells_eq a, h0, gro_pos a1', groB_pos a1', a1, gro_pos a2', groB_pos a2', a2]
  · intro i hi
    have h3 := List.getElem?_eq_getElem hi
    have hc' := copyExpr_eq _ (t2 _ (List.mem_of_getElem? h3))
    have r2 := Ex.cellsL_nth h3
    generalize p.exprs[i] = a at h3 hc' r2
    have w2 : IntKind.i64.wrap ((i : Int) + 1) = i + 1 := wrap64 (by omega) (by omega)
    rw [Ex.cells_eq] at r2 hc'
    by_cases h0 : i = 0
    · subst h0; simp [KX, hc, hi, r2, hc', wrap_1, take_snoc h3, Ex.cellsL, Ex.cells_eq a]
    · simp [KX, hc, gro_pos h0, groB_pos h0, jk_pos h0, hi, r2, hc', w2, take_snoc h3, Ex.cellsL_snoc, show min i p.exprs.length = i by omega, show (i + 1) * 56 ≤ 140737488355328 by omega, List.take_take, Ex.cells_eq a, h0]
theorem copyPlan_eq : ∀ (p : Pn), p.thin → callA C0 64 [.i (.agg p.cells)] [] = some (pcX p, pcS p) := by
  intro p
  induction p using Pn.ind with
  | h k t es cs ks ih =>
    intro ht
    exact copyPlan_step ht fun a ha => ih a ha (((Pn.thin_iff _).1 ht).2.2.2.2 a ha)
end Go.Proofs.Yteihcffblfdgfaa.P

/- The closure of FoldView. No condition. -/
namespace Go.Proofs.Yteihcffblfdgfaa.P
open Go Go.Av
set_option maxRecDepth 4000
set_option maxHeartbeats 2000000
/-- The box of the view, once it has been looked at or not. -/
def vB (x : Bool) (v : Pn) : Option Blk := if x = true then some (.fbox v.cells) else some (.box (impI v.cells))
@[simp] theorem idsOfB_vB (x : Bool) (v : Pn) : idsOfB (vB x v) = [] := by cases x <;> simp [vB, Pn.cells_eq]
@[simp] theorem renB_vB (r : Nat → Option Nat) (x : Bool) (v : Pn) : renB r (vB x v) = vB x v := by cases x <;> simp [vB, Pn.cells_eq]
@[simp] theorem liveO_vB (x : Bool) (v : Pn) : liveO (vB x v) = true := by cases x <;> rfl
def Fst (x : Bool) (v : Pn) (n : Nat) (t : Int) : StL := [vB x v, some (.box [.int n]), some (.box [.int t])]
theorem fold1_eq {p v : Pn} (hp : p.thin) {x : Bool} {n : Nat} {t : Int} (hn : n < 1000000000000) : callA C0 29 [.i (.iref p.cells), .own 0 0, .own 1 0, .own 2 0] (Fst x v n t) =
    some (.tup [.i (.agg (if p.eqb v = true then Pn.scan t else Pn.zero).cells), .bool (p.eqb v)], Fst true v (n + if p.eqb v = true then 1 else 0) t) := by
  have he := equalP_eq p hp v
  have w2 : IntKind.i64.wrap ((n : Int) + 1) = n + 1 := wrap64 (by omega) (by omega)
  rw [callA_eq rfl Try.func29 rfl rfl]
  cases hv : p.eqb v with
  | true =>
    rw [hv] at he
    rw [Pn.cells_eq p, Pn.cells_eq v] at he
    cases x <;> (simp [Fst, vB, Pn.cells_eq p, Pn.cells_eq v, he, w2, Pn.scan, Pn.cells, Ex.cellsL, intsL, Pn.cellsL])
  | false =>
    rw [hv] at he
    rw [Pn.cells_eq p, Pn.cells_eq v] at he
    cases x <;> (simp [Fst, vB, Pn.cells_eq p, Pn.cells_eq v, he, w2, Pn.zero, Pn.cells, Ex.cellsL, intsL, Pn.cellsL])
theorem copiedEs_nil : callA C0 68 [.i (.isl [])] [] = some (.nils, []) := by
  rw [callA_eq rfl Try.func68 rfl rfl]
  simp
theorem copiedEs_eq {ks : List Ex} (h : ks ≠ []) (hl : ks.length < 1000000000) : callA C0 68 [.i (.isl (Ex.cellsL ks))] [] = some (.osl 0 5 0 ks.length, [some (.arr 5 (Ex.cellsL ks))]) := by
  rw [callA_eq rfl Try.func68 rfl rfl]
  have h1 : 56 * (ks.length : Int) ≤ 281474976710656 := by omega
  simp [h, h1]
  unfold over
  simp
theorem copiedIs_nil : callA C0 69 [.i (.isl [])] [] = some (.nils, []) := by
  rw [callA_eq rfl Try.func69 rfl rfl]
  simp
theorem copiedIs_eq {l : List Int} (h : l ≠ []) (hl : l.length < 1000000000) : callA C0 69 [.i (.isl (intsL l))] [] = some (.osl 0 1 0 l.length, [some (.arr 1 (intsL l))]) := by
  rw [callA_eq rfl Try.func69 rfl rfl]
  have h1 : 8 * (l.length : Int) ≤ 281474976710656 := by omega
  simp [h, h1]
  unfold over
  simp
theorem copyE_call {e : Ex} {es : List (List IV)} {j : Nat} (h : e.size < 1000000000) (he : nthE es j = some e.cells) : callA C0 70 [.ownE 0 5 j 0] [some (.arr 5 es)] = some (.i (.agg e.cells), [some (.arr 5 es)]) := by
  rw [callA_prim (p := copyE) rfl]; exact copyE_row h (by rw [← nthE_eq]; exact he)
end Go.Proofs.Yteihcffblfdgfaa.P

/- A view folded: withParts with the closure of FoldView. No condition. -/
namespace Go.Proofs.Yteihcffblfdgfaa.P
open Go Go.Av
set_option maxRecDepth 4000
set_option maxHeartbeats 4000000
theorem withF_hit {p v : Pn} (hp : p.thin) {x : Bool} {n : Nat} {t : Int} (hn : n < 1000000000000) (hh : p.eqb v = true) : callA C0 28 [.i (.iref p.cells), .fn (.func 29) [.own 0 0, .own 1 0, .own 2 0]] (Fst x v n t) = some (.i (.agg (Pn.scan t).cells), Fst true v (n + 1) t) := by
  have hf := fold1_eq (x := x) (t := t) hp hn (v := v)
  simp only [hh, if_true, Fst] at hf
  rw [callA_eq rfl Try.func28 rfl rfl]
  simp [Fst, hf, Pn.scan, Pn.cells, Ex.cellsL, intsL, Pn.cellsL]
def WX11 (p v : Pn) (n : Nat) (t : Int) (i : Nat) : AS :=
  { env := [(0, .i (.iref [.int p.kind, .int p.table, .isl (Ex.cellsL p.exprs), .isl (intsL p.cols), .isl (Pn.cellsL p.kids)])), (1, .fn (.func 29) [.own 0 0, .own 1 0, .own 2 0]), (4, .own 3 0), (5, .own 4 0), (6, .bool false), (7, .own 5 0), (8, jk i (.int (i - 1))), (9, .junk), (16, .bool false), (39, .int p.exprs.length), (40, .int i), (41, jk i (.bool true)), (57, .junk), (58, .junk), (59, .junk)],
    st := vB true v :: some (.box [.int n]) :: some (.box [.int t]) :: some (.box [.int 0, .int 0, .nils, .nils, .nils]) :: some (.box [.int 0, .int 0, .i (.isl []), .i (.isl []), .i (.isl [])]) :: some (.box [.int p.kind, .int p.table, .osl 6 5 0 p.exprs.length, .osl 7 1 0 p.cols.length, .nils]) :: some (.arr 5 (Ex.cellsL p.exprs)) :: some (.arr 1 (intsL p.cols)) :: [] }
def WY11 (p v : Pn) (n : Nat) (t : Int) (i : Nat) : AS :=
  { env := [(0, .i (.iref [.int p.kind, .int p.table, .isl (Ex.cellsL p.exprs), .isl (intsL p.cols), .isl (Pn.cellsL p.kids)])), (1, .fn (.func 29) [.own 0 0, .own 1 0, .own 2 0]), (4, .own 3 0), (5, .own 4 0), (6, .bool false), (7, .own 5 0), (8, .int (p.exprs.length - 1)), (9, jk i (.int (i - 1))), (16, .bool false), (39, .int p.exprs.length), (40, .int p.exprs.length), (41, .bool false), (57, .int p.kids.length), (58, .int i), (59, jk i (.bool true))],
    st := vB true v :: some (.box [.int ((n + cntPL v (p.kids.take i) : Nat) : Int)]) :: some (.box [.int t]) :: some (.box [.int 0, .int 0, .nils, .nils, .nils]) :: some (.box [.int 0, .int 0, .i (.isl []), .i (.isl []), .i (.isl [])]) :: some (.box [.int p.kind, .int p.table, .osl 6 5 0 p.exprs.length, .osl 7 1 0 p.cols.length, gro 8 5 i]) :: some (.arr 5 (Ex.cellsL p.exprs)) :: some (.arr 1 (intsL p.cols)) :: (groB 5 (Pn.cellsL (foldPL v t (p.kids.take i))) i) }
theorem withF_miss11 {p v : Pn} (hp : p.thin) (hq : ∀ e ∈ p.exprs, e.size < 1000000000) (he : p.exprs ≠ []) (hc : p.cols ≠ []) {x : Bool} {n : Nat} {t : Int} (hn : n + cntPL v p.kids < 1000000000000) (hh : p.eqb v = false)
    (ih : ∀ a ∈ p.kids, ∀ m : Nat, m + cntP v a < 1000000000000 → callA C0 28 [.i (.iref a.cells), .fn (.func 29) [.own 0 0, .own 1 0, .own 2 0]] (Fst true v m t) = some (.i (.agg (foldP v t a).cells), Fst true v (m + cntP v a) t)) :
    callA C0 28 [.i (.iref p.cells), .fn (.func 29) [.own 0 0, .own 1 0, .own 2 0]] (Fst x v n t) = some (.i (.agg (foldP v t p).cells), Fst true v (n + cntP v p) t) := by
  have hf := fold1_eq (x := x) (t := t) hp (show n < 1000000000000 by omega) (v := v)
  simp only [hh, if_false, Fst, Bool.false_eq_true, Pn.zero, Pn.cells, Ex.cellsL, intsL, Pn.cellsL, Nat.add_zero] at hf
  obtain ⟨t1, t2, t3, t4, -⟩ := (Pn.thin_iff _).1 hp
  rw [Pn.cells_eq] at hf
  have hE := copiedEs_eq he t1
  have hel : p.exprs.length ≠ 0 := fun h => he (List.length_eq_zero_iff.1 h)
  have hI := copiedIs_eq hc t3
  have hcl : p.cols.length ≠ 0 := fun h => hc (List.length_eq_zero_iff.1 h)
  rw [callA_eq rfl Try.func28 rfl rfl, foldP_miss hh, cntP_miss hh, Pn.cells_mk, Pn.cells_eq]
  simp [Fst, hf, hE, hI]
  rw [loop_to (WX11 p v n t) p.exprs.length (by simp [WX11])]
  · rw [execA_loop]
    simp [WX11]
    rw [loop_to (WY11 p v n t) p.kids.length (by simp [WY11, cntPL, jk_pos hel])]
    · rw [execA_loop]
      cases hm : p.kids.length with
      | zero =>
        have hk : p.kids = [] := List.length_eq_zero_iff.1 hm
        simp [WY11, hk, foldPL, cntPL, Pn.cellsL]
      | succ m =>
        have hk : p.kids.take (m + 1) = p.kids := List.take_of_length_le (by omega)
        have hk2 : (foldPL v t p.kids).take (m + 1) = foldPL v t p.kids := List.take_of_length_le (by simp; omega)
        simp [WY11, hm, hk, hk2]
    · intro i hi
      have h3 := List.getElem?_eq_getElem hi
      have hm := List.mem_of_getElem? h3
      have r2 := Pn.cellsL_nth h3
      have htk := take_snoc h3
      generalize p.kids[i] = a at h3 hm r2 htk
      have hle : cntPL v (p.kids.take i) + cntP v a ≤ cntPL v p.kids := by
        rw [← cntPL_snoc, ← htk]; exact cntPL_take v _ _
      have hk := ih a hm (n + cntPL v (p.kids.take i)) (by omega)
      have w2 : IntKind.i64.wrap ((i : Int) + 1) = i + 1 := wrap64 (by omega) (by omega)
      rw [Pn.cells_eq a] at r2 hk
      rw [Pn.cells_eq] at hk
      simp only [Fst] at hk
      have hl1 : (i + 1) * 88 ≤ 140737488355328 := by omega
      have hl2 : min i p.kids.length = i := by omega
      have hl3 : (foldPL v t (p.kids.take i)).take i = foldPL v t (p.kids.take i) := List.take_of_length_le (by simp; omega)
      by_cases h0 : i = 0
      · subst h0; simp only [List.take_zero, cntPL, Nat.add_zero, Int.natCast_add] at hk; simp [WY11, hi, r2, hk, wrap_1, htk, foldPL_snoc, cntPL_snoc, Pn.cellsL_snoc, Pn.cells_eq (foldP v t a), foldPL, cntPL, Pn.cellsL]
      · simp only [Int.natCast_add] at hk; simp [WY11, gro_pos h0, groB_pos h0, jk_pos h0, hi, r2, hk, w2, htk, foldPL_snoc, cntPL_snoc, Pn.cellsL_snoc, hl1, hl2, List.take_take, Pn.cells_eq (foldP v t a), h0, hl3, Int.add_assoc]
  · intro i hi
    have h3 := List.getElem?_eq_getElem hi
    have hs := hq _ (List.mem_of_getElem? h3)
    have r2 := Ex.cellsL_nth h3
    generalize p.exprs[i] = a at h3 hs r2
    have hk := copyE_call hs r2
    have hput := Ex.cellsL_set h3
    have w2 : IntKind.i64.wrap ((i : Int) + 1) = i + 1 := wrap64 (by omega) (by omega)
    rw [Ex.cells_eq] at r2 hk hput
    simp [WX11, hi, r2, hk, w2, hput]
def WX10 (p v : Pn) (n : Nat) (t : Int) (i : Nat) : AS :=
  { env := [(0, .i (.iref [.int p.kind, .int p.table, .isl (Ex.cellsL p.exprs), .isl (intsL p.cols), .isl (Pn.cellsL p.kids)])), (1, .fn (.func 29) [.own 0 0, .own 1 0, .own 2 0]), (4, .own 3 0), (5, .own 4 0), (6, .bool false), (7, .own 5 0), (8, jk i (.int (i - 1))), (9, .junk), (16, .bool false), (39, .int p.exprs.length), (40, .int i), (41, jk i (.bool true)), (57, .junk), (58, .junk), (59, .junk)],
    st := vB true v :: some (.box [.int n]) :: some (.box [.int t]) :: some (.box [.int 0, .int 0, .nils, .nils, .nils]) :: some (.box [.int 0, .int 0, .i (.isl []), .i (.isl []), .i (.isl [])]) :: some (.box [.int p.kind, .int p.table, .osl 6 5 0 p.exprs.length, .nils, .nils]) :: some (.arr 5 (Ex.cellsL p.exprs)) :: [] }
def WY10 (p v : Pn) (n : Nat) (t : Int) (i : Nat) : AS :=
  { env := [(0, .i (.iref [.int p.kind, .int p.table, .isl (Ex.cellsL p.exprs), .isl (intsL p.cols), .isl (Pn.cellsL p.kids)])), (1, .fn (.func 29) [.own 0 0, .own 1 0, .own 2 0]), (4, .own 3 0), (5, .own 4 0), (6, .bool false), (7, .own 5 0), (8, .int (p.exprs.length - 1)), (9, jk i (.int (i - 1))), (16, .bool false), (39, .int p.exprs.length), (40, .int p.exprs.length), (41, .bool false), (57, .int p.kids.length), (58, .int i), (59, jk i (.bool true))],
    st := vB true v :: some (.box [.int ((n + cntPL v (p.kids.take i) : Nat) : Int)]) :: some (.box [.int t]) :: some (.box [.int 0, .int 0, .nils, .nils, .nils]) :: some (.box [.int 0, .int 0, .i (.isl []), .i (.isl []), .i (.isl [])]) :: some (.box [.int p.kind, .int p.table, .osl 6 5 0 p.exprs.length, .nils, gro 7 5 i]) :: some (.arr 5 (Ex.cellsL p.exprs)) :: (groB 5 (Pn.cellsL (foldPL v t (p.kids.take i))) i) }
theorem withF_miss10 {p v : Pn} (hp : p.thin) (hq : ∀ e ∈ p.exprs, e.size < 1000000000) (he : p.exprs ≠ []) (hc : p.cols = []) {x : Bool} {n : Nat} {t : Int} (hn : n + cntPL v p.kids < 1000000000000) (hh : p.eqb v = false)
    (ih : ∀ a ∈ p.kids, ∀ m : Nat, m + cntP v a < 1000000000000 → callA C0 28 [.i (.iref a.cells), .fn (.func 29) [.own 0 0, .own 1 0, .own 2 0]] (Fst true v m t) = some (.i (.agg (foldP v t a).cells), Fst true v (m + cntP v a) t)) :
    callA C0 28 [.i (.iref p.cells), .fn (.func 29) [.own 0 0, .own 1 0, .own 2 0]] (Fst x v n t) = some (.i (.agg (foldP v t p).cells), Fst true v (n + cntP v p) t) := by
  have hf := fold1_eq (x := x) (t := t) hp (show n < 1000000000000 by omega) (v := v)
  simp only [hh, if_false, Fst, Bool.false_eq_true, Pn.zero, Pn.cells, Ex.cellsL, intsL, Pn.cellsL, Nat.add_zero] at hf
  obtain ⟨t1, t2, t3, t4, -⟩ := (Pn.thin_iff _).1 hp
  rw [Pn.cells_eq] at hf
  have hE := copiedEs_eq he t1
  have hel : p.exprs.length ≠ 0 := fun h => he (List.length_eq_zero_iff.1 h)
  have hI := copiedIs_nil
  rw [callA_eq rfl Try.func28 rfl rfl, foldP_miss hh, cntP_miss hh, Pn.cells_mk, Pn.cells_eq]
  simp only [hc, intsL] at hf
  simp [Fst, hf, hE, hI, hc, intsL]
  rw [loop_to (WX10 p v n t) p.exprs.length (by simp [WX10, hc, intsL])]
  · rw [execA_loop]
    simp [WX10, hc, intsL]
    rw [loop_to (WY10 p v n t) p.kids.length (by simp [WY10, cntPL, hc, intsL, jk_pos hel])]
    · rw [execA_loop]
      cases hm : p.kids.length with
      | zero =>
        have hk : p.kids = [] := List.length_eq_zero_iff.1 hm
        simp [WY10, hk, foldPL, cntPL, Pn.cellsL, hc, intsL]
      | succ m =>
        have hk : p.kids.take (m + 1) = p.kids := List.take_of_length_le (by omega)
        have hk2 : (foldPL v t p.kids).take (m + 1) = foldPL v t p.kids := List.take_of_length_le (by simp; omega)
        simp [WY10, hm, hk, hk2, hc, intsL]
    · intro i hi
      have h3 := List.getElem?_eq_getElem hi
      have hm := List.mem_of_getElem? h3
      have r2 := Pn.cellsL_nth h3
      have htk := take_snoc h3
      generalize p.kids[i] = a at h3 hm r2 htk
      have hle : cntPL v (p.kids.take i) + cntP v a ≤ cntPL v p.kids := by
        rw [← cntPL_snoc, ← htk]; exact cntPL_take v _ _
      have hk := ih a hm (n + cntPL v (p.kids.take i)) (by omega)
      have w2 : IntKind.i64.wrap ((i : Int) + 1) = i + 1 := wrap64 (by omega) (by omega)
      rw [Pn.cells_eq a] at r2 hk
      rw [Pn.cells_eq] at hk
      simp only [Fst] at hk
      have hl1 : (i + 1) * 88 ≤ 140737488355328 := by omega
      have hl2 : min i p.kids.length = i := by omega
      have hl3 : (foldPL v t (p.kids.take i)).take i = foldPL v t (p.kids.take i) := List.take_of_length_le (by simp; omega)
      by_cases h0 : i = 0
      · subst h0; simp only [List.take_zero, cntPL, Nat.add_zero, Int.natCast_add] at hk; simp [WY10, hi, r2, hk, wrap_1, htk, foldPL_snoc, cntPL_snoc, Pn.cellsL_snoc, Pn.cells_eq (foldP v t a), foldPL, cntPL, Pn.cellsL, hc, intsL]
      · simp only [Int.natCast_add] at hk; simp [WY10, gro_pos h0, groB_pos h0, jk_pos h0, hi, r2, hk, w2, htk, foldPL_snoc, cntPL_snoc, Pn.cellsL_snoc, hl1, hl2, List.take_take, Pn.cells_eq (foldP v t a), h0, hl3, Int.add_assoc, hc, intsL]
  · intro i hi
    have h3 := List.getElem?_eq_getElem hi
    have hs := hq _ (List.mem_of_getElem? h3)
    have r2 := Ex.cellsL_nth h3
    generalize p.exprs[i] = a at h3 hs r2
    have hk := copyE_call hs r2
    have hput := Ex.cellsL_set h3
    have w2 : IntKind.i64.wrap ((i : Int) + 1) = i + 1 := wrap64 (by omega) (by omega)
    rw [Ex.cells_eq] at r2 hk hput
    simp [WX10, hi, r2, hk, w2, hput, hc, intsL]
def WY01 (p v : Pn) (n : Nat) (t : Int) (i : Nat) : AS :=
  { env := [(0, .i (.iref [.int p.kind, .int p.table, .isl (Ex.cellsL p.exprs), .isl (intsL p.cols), .isl (Pn.cellsL p.kids)])), (1, .fn (.func 29) [.own 0 0, .own 1 0, .own 2 0]), (4, .own 3 0), (5, .own 4 0), (6, .bool false), (7, .own 5 0), (8, .junk), (9, jk i (.int (i - 1))), (16, .bool false), (39, .int p.exprs.length), (40, .int p.exprs.length), (41, .bool false), (57, .int p.kids.length), (58, .int i), (59, jk i (.bool true))],
    st := vB true v :: some (.box [.int ((n + cntPL v (p.kids.take i) : Nat) : Int)]) :: some (.box [.int t]) :: some (.box [.int 0, .int 0, .nils, .nils, .nils]) :: some (.box [.int 0, .int 0, .i (.isl []), .i (.isl []), .i (.isl [])]) :: some (.box [.int p.kind, .int p.table, .nils, .osl 6 1 0 p.cols.length, gro 7 5 i]) :: some (.arr 1 (intsL p.cols)) :: (groB 5 (Pn.cellsL (foldPL v t (p.kids.take i))) i) }
theorem withF_miss01 {p v : Pn} (hp : p.thin) (hq : ∀ e ∈ p.exprs, e.size < 1000000000) (he : p.exprs = []) (hc : p.cols ≠ []) {x : Bool} {n : Nat} {t : Int} (hn : n + cntPL v p.kids < 1000000000000) (hh : p.eqb v = false)
    (ih : ∀ a ∈ p.kids, ∀ m : Nat, m + cntP v a < 1000000000000 → callA C0 28 [.i (.iref a.cells), .fn (.func 29) [.own 0 0, .own 1 0, .own 2 0]] (Fst true v m t) = some (.i (.agg (foldP v t a).cells), Fst true v (m + cntP v a) t)) :
    callA C0 28 [.i (.iref p.cells), .fn (.func 29) [.own 0 0, .own 1 0, .own 2 0]] (Fst x v n t) = some (.i (.agg (foldP v t p).cells), Fst true v (n + cntP v p) t) := by
  have hf := fold1_eq (x := x) (t := t) hp (show n < 1000000000000 by omega) (v := v)
  simp only [hh, if_false, Fst, Bool.false_eq_true, Pn.zero, Pn.cells, Ex.cellsL, intsL, Pn.cellsL, Nat.add_zero] at hf
  obtain ⟨t1, t2, t3, t4, -⟩ := (Pn.thin_iff _).1 hp
  rw [Pn.cells_eq] at hf
  have hE := copiedEs_nil
  have hI := copiedIs_eq hc t3
  have hcl : p.cols.length ≠ 0 := fun h => hc (List.length_eq_zero_iff.1 h)
  rw [callA_eq rfl Try.func28 rfl rfl, foldP_miss hh, cntP_miss hh, Pn.cells_mk, Pn.cells_eq]
  simp only [he, Ex.cellsL] at hf
  simp [Fst, hf, hE, hI, he, Ex.cellsL]
  rw [execA_loop]
  simp
  rw [loop_to (WY01 p v n t) p.kids.length (by simp [WY01, cntPL, he, Ex.cellsL])]
  · rw [execA_loop]
    cases hm : p.kids.length with
    | zero =>
      have hk : p.kids = [] := List.length_eq_zero_iff.1 hm
      simp [WY01, hk, foldPL, cntPL, Pn.cellsL, he, Ex.cellsL]
    | succ m =>
      have hk : p.kids.take (m + 1) = p.kids := List.take_of_length_le (by omega)
      have hk2 : (foldPL v t p.kids).take (m + 1) = foldPL v t p.kids := List.take_of_length_le (by simp; omega)
      simp [WY01, hm, hk, hk2, he, Ex.cellsL]
  · intro i hi
    have h3 := List.getElem?_eq_getElem hi
    have hm := List.mem_of_getElem? h3
    have r2 := Pn.cellsL_nth h3
    have htk := take_snoc h3
    generalize p.kids[i] = a at h3 hm r2 htk
    have hle : cntPL v (p.kids.take i) + cntP v a ≤ cntPL v p.kids := by
      rw [← cntPL_snoc, ← htk]; exact cntPL_take v _ _
    have hk := ih a hm (n + cntPL v (p.kids.take i)) (by omega)
    have w2 : IntKind.i64.wrap ((i : Int) + 1) = i + 1 := wrap64 (by omega) (by omega)
    rw [Pn.cells_eq a] at r2 hk
    rw [Pn.cells_eq] at hk
    simp only [Fst] at hk
    have hl1 : (i + 1) * 88 ≤ 140737488355328 := by omega
    have hl2 : min i p.kids.length = i := by omega
    have hl3 : (foldPL v t (p.kids.take i)).take i = foldPL v t (p.kids.take i) := List.take_of_length_le (by simp; omega)
    by_cases h0 : i = 0
    · subst h0; simp only [List.take_zero, cntPL, Nat.add_zero, Int.natCast_add] at hk; simp [WY01, hi, r2, hk, wrap_1, htk, foldPL_snoc, cntPL_snoc, Pn.cellsL_snoc, Pn.cells_eq (foldP v t a), foldPL, cntPL, Pn.cellsL, he, Ex.cellsL]
    · simp only [Int.natCast_add] at hk; simp [WY01, gro_pos h0, groB_pos h0, jk_pos h0, hi, r2, hk, w2, htk, foldPL_snoc, cntPL_snoc, Pn.cellsL_snoc, hl1, hl2, List.take_take, Pn.cells_eq (foldP v t a), h0, hl3, Int.add_assoc, he, Ex.cellsL]
def WY00 (p v : Pn) (n : Nat) (t : Int) (i : Nat) : AS :=
  { env := [(0, .i (.iref [.int p.kind, .int p.table, .isl (Ex.cellsL p.exprs), .isl (intsL p.cols), .isl (Pn.cellsL p.kids)])), (1, .fn (.func 29) [.own 0 0, .own 1 0, .own 2 0]), (4, .own 3 0), (5, .own 4 0), (6, .bool false), (7, .own 5 0), (8, .junk), (9, jk i (.int (i - 1))), (16, .bool false), (39, .int p.exprs.length), (40, .int p.exprs.length), (41, .bool false), (57, .int p.kids.length), (58, .int i), (59, jk i (.bool true))],
    st := vB true v :: some (.box [.int ((n + cntPL v (p.kids.take i) : Nat) : Int)]) :: some (.box [.int t]) :: some (.box [.int 0, .int 0, .nils, .nils, .nils]) :: some (.box [.int 0, .int 0, .i (.isl []), .i (.isl []), .i (.isl [])]) :: some (.box [.int p.kind, .int p.table, .nils, .nils, gro 6 5 i]) :: (groB 5 (Pn.cellsL (foldPL v t (p.kids.take i))) i) }
theorem withF_miss00 {p v : Pn} (hp : p.thin) (hq : ∀ e ∈ p.exprs, e.size < 1000000000) (he : p.exprs = []) (hc : p.cols = []) {x : Bool} {n : Nat} {t : Int} (hn : n + cntPL v p.kids < 1000000000000) (hh : p.eqb v = false)
    (ih : ∀ a ∈ p.kids, ∀ m : Nat, m + cntP v a < 1000000000000 → callA C0 28 [.i (.iref a.cells), .fn (.func 29) [.own 0 0, .own 1 0, .own 2 0]] (Fst true v m t) = some (.i (.agg (foldP v t a).cells), Fst true v (m + cntP v a) t)) :
    callA C0 28 [.i (.iref p.cells), .fn (.func 29) [.own 0 0, .own 1 0, .own 2 0]] (Fst x v n t) = some (.i (.agg (foldP v t p).cells), Fst true v (n + cntP v p) t) := by
  have hf := fold1_eq (x := x) (t := t) hp (show n < 1000000000000 by omega) (v := v)
  simp only [hh, if_false, Fst, Bool.false_eq_true, Pn.zero, Pn.cells, Ex.cellsL, intsL, Pn.cellsL, Nat.add_zero] at hf
  obtain ⟨t1, t2, t3, t4, -⟩ := (Pn.thin_iff _).1 hp
  rw [Pn.cells_eq] at hf
  have hE := copiedEs_nil
  have hI := copiedIs_nil
  rw [callA_eq rfl Try.func28 rfl rfl, foldP_miss hh, cntP_miss hh, Pn.cells_mk, Pn.cells_eq]
  simp only [he, Ex.cellsL, hc, intsL] at hf
  simp [Fst, hf, hE, hI, he, Ex.cellsL, hc, intsL]
  rw [execA_loop]
  simp
  rw [loop_to (WY00 p v n t) p.kids.length (by simp [WY00, cntPL, he, Ex.cellsL, hc, intsL])]
  · rw [execA_loop]
    cases hm : p.kids.length with
    | zero =>
      have hk : p.kids = [] := List.length_eq_zero_iff.1 hm
      simp [WY00, hk, foldPL, cntPL, Pn.cellsL, he, Ex.cellsL, hc, intsL]
    | succ m =>
      have hk : p.kids.take (m + 1) = p.kids := List.take_of_length_le (by omega)
      have hk2 : (foldPL v t p.kids).take (m + 1) = foldPL v t p.kids := List.take_of_length_le (by simp; omega)
      simp [WY00, hm, hk, hk2, he, Ex.cellsL, hc, intsL]
  · intro i hi
    have h3 := List.getElem?_eq_getElem hi
    have hm := List.mem_of_getElem? h3
    have r2 := Pn.cellsL_nth h3
    have htk := take_snoc h3
    generalize p.kids[i] = a at h3 hm r2 htk
    have hle : cntPL v (p.kids.take i) + cntP v a ≤ cntPL v p.kids := by
      rw [← cntPL_snoc, ← htk]; exact cntPL_take v _ _
    have hk := ih a hm (n + cntPL v (p.kids.take i)) (by omega)
    have w2 : IntKind.i64.wrap ((i : Int) + 1) = i + 1 := wrap64 (by omega) (by omega)
    rw [Pn.cells_eq a] at r2 hk
    rw [Pn.cells_eq] at hk
    simp only [Fst] at hk
    have hl1 : (i + 1) * 88 ≤ 140737488355328 := by omega
    have hl2 : min i p.kids.length = i := by omega
    have hl3 : (foldPL v t (p.kids.take i)).take i = foldPL v t (p.kids.take i) := List.take_of_length_le (by simp; omega)
    by_cases h0 : i = 0
    · subst h0; simp only [List.take_zero, cntPL, Nat.add_zero, Int.natCast_add] at hk; simp [WY00, hi, r2, hk, wrap_1, htk, foldPL_snoc, cntPL_snoc, Pn.cellsL_snoc, Pn.cells_eq (foldP v t a), foldPL, cntPL, Pn.cellsL, he, Ex.cellsL, hc, intsL]
    · simp only [Int.natCast_add] at hk; simp [WY00, gro_pos h0, groB_pos h0, jk_pos h0, hi, r2, hk, w2, htk, foldPL_snoc, cntPL_snoc, Pn.cellsL_snoc, hl1, hl2, List.take_take, Pn.cells_eq (foldP v t a), h0, hl3, Int.add_assoc, he, Ex.cellsL, hc, intsL]
theorem withF_eq {v : Pn} {t : Int} : ∀ (p : Pn), p.thin → p.tiny → ∀ (x : Bool) (n : Nat), n + cntP v p < 1000000000000 → callA C0 28 [.i (.iref p.cells), .fn (.func 29) [.own 0 0, .own 1 0, .own 2 0]] (Fst x v n t) = some (.i (.agg (foldP v t p).cells), Fst true v (n + cntP v p) t) := by
  intro p
  induction p using Pn.ind with
  | h k tb es cs ks ih =>
    intro ht hy x n hn
    cases hh : Pn.eqb (.mk k tb es cs ks) v with
    | true =>
      rw [foldP_hit hh, cntP_hit hh] at *
      exact withF_hit ht (by omega) hh
    | false =>
      have ih' : ∀ a ∈ ks, ∀ m : Nat, m + cntP v a < 1000000000000 → _ := fun a ha m hm => ih a ha (((Pn.thin_iff _).1 ht).2.2.2.2 a ha) (((Pn.tiny_iff _).1 hy).2 a ha) true m hm
      have hq : ∀ e ∈ es, e.size < 1000000000 := ((Pn.tiny_iff _).1 hy).1
      have hn' := hn
      rw [cntP_miss hh] at hn'
      by_cases he : es = []
      · by_cases hc : cs = []
        · exact withF_miss00 ht hq he hc hn' hh ih'
        · exact withF_miss01 ht hq he hc hn' hh ih'
      · by_cases hc : cs = []
        · exact withF_miss10 ht hq he hc hn' hh ih'
        · exact withF_miss11 ht hq he hc hn' hh ih'
end Go.Proofs.Yteihcffblfdgfaa.P

/- A view folded, as the reference has it. No condition. -/
namespace Go.Proofs.Yteihcffblfdgfaa.P
open Go Go.Av
set_option maxRecDepth 4000
set_option maxHeartbeats 4000000
theorem half_mid {α : Type} {D R : List α} {y x : α} {i : Nat} (hD : D.length = i) : (D ++ y :: R).set i x = D ++ x :: R := by
  subst hD; simp
theorem drop_cons {α : Type} {l : List α} {i : Nat} {a : α} (h : l[i]? = some a) : l.drop i = a :: l.drop (i + 1) := by
  obtain ⟨hl, rfl⟩ := List.getElem?_eq_some_iff.1 h
  exact List.drop_eq_getElem_cons hl
/-- The rows of the kids, so many of them replaced. -/
def mixK (v : Pn) (t : Int) (l : List Pn) (i : Nat) : List (List IV) := Pn.cellsL (foldPL v t (l.take i) ++ l.drop i)
theorem mixK_zero (v : Pn) (t : Int) (l : List Pn) : mixK v t l 0 = Pn.cellsL l := by simp [mixK, foldPL]
theorem mixK_all (v : Pn) (t : Int) (l : List Pn) : mixK v t l l.length = Pn.cellsL (foldPL v t l) := by simp [mixK]
@[simp] theorem mixK_len (v : Pn) (t : Int) (l : List Pn) (i : Nat) : (mixK v t l i).length = l.length := by simp [mixK]; omega
@[simp] theorem mixK_widths (v : Pn) (t : Int) (l : List Pn) (i : Nat) : widths 5 (mixK v t l i) = true := by simp [mixK]
theorem mixK_set {v : Pn} {t : Int} {l : List Pn} {i : Nat} {a : Pn} (h : l[i]? = some a) : (mixK v t l i).set i (foldP v t a).cells = mixK v t l (i + 1) := by
  have hl := (List.getElem?_eq_some_iff.1 h).1
  unfold mixK
  rw [drop_cons h, take_snoc h, foldPL_snoc, Pn.cellsL_append, List.append_assoc, Pn.cellsL_append]
  simp only [Pn.cellsL, List.cons_append, List.nil_append]
  exact half_mid (by simp; omega)
theorem mixK_nth {v : Pn} {t : Int} {l : List Pn} {i : Nat} {a : Pn} (h : l[i]? = some a) : nthE (mixK v t l i) i = some a.cells := by
  have hl := (List.getElem?_eq_some_iff.1 h).1
  unfold mixK
  apply Pn.cellsL_nth
  rw [List.getElem?_append_right (by simp; omega), drop_cons h]
  simp
  rw [show i - min i l.length = 0 by omega]; rfl
theorem sfold_hit {p v : Pn} (hp : p.thin) {t : Int} (hh : p.eqb v = true) : callA C0 32 [.i (.agg p.cells), .i (.agg v.cells), .int t] [] = some (.tup [.i (.agg (Pn.scan t).cells), .int 1], []) := by
  have hq := sequalP_eq p hp v
  rw [hh] at hq
  rw [callA_eq rfl Try.func32 rfl rfl]
  rw [Pn.cells_eq p, Pn.cells_eq v] at *
  simp [hq, Pn.scan, Pn.cells, Ex.cellsL, intsL, Pn.cellsL]
/-- The kid at a place. -/
def kidAt (p : Pn) (i : Nat) : Pn := (p.kids[i]?).getD Pn.zero
def SY1 (p v : Pn) (t : Int) (i : Nat) : AS :=
  { env := [(0, .i (.agg [.int p.kind, .int p.table, .isl (Ex.cellsL p.exprs), .isl (intsL p.cols), .isl (Pn.cellsL p.kids)])), (1, .i (.agg [.int v.kind, .int v.table, .isl (Ex.cellsL v.exprs), .isl (intsL v.cols), .isl (Pn.cellsL v.kids)])), (2, .int t), (3, .own 0 0), (4, .own 1 0), (6, .own 2 0), (7, .int 0), (8, .own 3 0), (9, .int (cntPL v (p.kids.take i) : Nat)), (10, .int i), (11, if i = 0 then .junk else .own 7 0), (12, jk i (.int (cntP v (kidAt p (i - 1)) : Nat))), (15, .bool false), (24, jk i (.bool true))],
    st := some (.box [.int p.kind, .int p.table, .i (.isl (Ex.cellsL p.exprs)), .i (.isl (intsL p.cols)), .i (.isl (Pn.cellsL p.kids))]) :: some (.box [.int v.kind, .int v.table, .i (.isl (Ex.cellsL v.exprs)), .i (.isl (intsL v.cols)), .i (.isl (Pn.cellsL v.kids))]) :: some (.box [.int 0, .int 0, .nils, .nils, .nils]) :: some (.box [.int p.kind, .int p.table, .osl 4 5 0 p.exprs.length, .osl 5 1 0 p.cols.length, .osl 6 5 0 p.kids.length]) :: some (.arr 5 (Ex.cellsL p.exprs)) :: some (.arr 1 (intsL p.cols)) :: some (.arr 5 (mixK v t p.kids i)) :: (if i = 0 then [] else [some (.box (impI (foldP v t (kidAt p (i - 1))).cells))]) }
theorem sfold_miss1 {p v : Pn} (hp : p.thin) (he : p.exprs ≠ []) (hk : p.kids ≠ []) {t : Int} (hn : cntPL v p.kids < 1000000000000) (hh : p.eqb v = false)
    (ih : ∀ a ∈ p.kids, cntP v a < 1000000000000 → callA C0 32 [.i (.agg a.cells), .i (.agg v.cells), .int t] [] = some (.tup [.i (.agg (foldP v t a).cells), .int (cntP v a : Nat)], [])) :
    callA C0 32 [.i (.agg p.cells), .i (.agg v.cells), .int t] [] = some (.tup [.i (.agg (foldP v t p).cells), .int (cntP v p : Nat)], []) := by
  have hq := sequalP_eq p hp v
  rw [hh] at hq
  have hc := copyPlan_eq p hp
  obtain ⟨t1, t2, t3, t4, -⟩ := (Pn.thin_iff _).1 hp
  have hkl : p.kids.length ≠ 0 := fun h => hk (List.length_eq_zero_iff.1 h)
  have hel : p.exprs.length ≠ 0 := fun h => he (List.length_eq_zero_iff.1 h)
  simp [pcX, pcS, gro_pos hkl, groB_pos hkl, gro_pos hel, groB_pos hel, he] at hc
  rw [callA_eq rfl Try.func32 rfl rfl, foldP_miss hh, cntP_miss hh, Pn.cells_mk]
  rw [Pn.cells_eq p] at hq hc ⊢
  rw [Pn.cells_eq v] at hq ⊢
  simp [hq, hc, hk]
  rw [loop_to (SY1 p v t) p.kids.length (by simp [SY1, cntPL, mixK_zero])]
  · rw [execA_loop]
    have hk2 : (foldPL v t p.kids).take p.kids.length = foldPL v t p.kids := List.take_of_length_le (by simp)
    simp [SY1, hkl, mixK_all, hk2]
  · intro i hi
    have h3 := List.getElem?_eq_getElem hi
    have hm := List.mem_of_getElem? h3
    have r2 := Pn.cellsL_nth h3
    have htk := take_snoc h3
    have hkd : kidAt p i = p.kids[i] := by simp [kidAt, h3]
    have hset := mixK_set (v := v) (t := t) h3
    have hnt := mixK_nth (v := v) (t := t) h3
    generalize p.kids[i] = a at h3 hm r2 htk hkd hset hnt
    have hle : cntPL v (p.kids.take i) + cntP v a ≤ cntPL v p.kids := by
      rw [← cntPL_snoc, ← htk]; exact cntPL_take v _ _
    have hk := ih a hm (by omega)
    have w2 : IntKind.i64.wrap ((i : Int) + 1) = i + 1 := wrap64 (by omega) (by omega)
    have w3 : IntKind.i64.wrap ((cntPL v (p.kids.take i) : Int) + cntP v a) = cntPL v (p.kids.take i) + cntP v a := wrap64 (by omega) (by omega)
    rw [Pn.cells_eq a] at r2 hk hnt
    rw [Pn.cells_eq (foldP v t a)] at hk hset
    rw [Pn.cells_eq v] at hk
    by_cases h0 : i = 0
    · subst h0
      simp only [List.take_zero, cntPL, Int.natCast_zero, Int.zero_add] at w3
      simp [SY1, hi, r2, hk, wrap_1, htk, hkd, hset, hnt, w3, cntPL_snoc, cntPL, Pn.cells_eq (foldP v t a)]
    · simp [SY1, jk_pos h0, hi, r2, hk, w2, w3, htk, hkd, hset, hnt, cntPL_snoc, h0, Pn.cells_eq (foldP v t a), Pn.cells_eq (foldP v t (kidAt p (i - 1)))]
def SY0 (p v : Pn) (t : Int) (i : Nat) : AS :=
  { env := [(0, .i (.agg [.int p.kind, .int p.table, .isl (Ex.cellsL p.exprs), .isl (intsL p.cols), .isl (Pn.cellsL p.kids)])), (1, .i (.agg [.int v.kind, .int v.table, .isl (Ex.cellsL v.exprs), .isl (intsL v.cols), .isl (Pn.cellsL v.kids)])), (2, .int t), (3, .own 0 0), (4, .own 1 0), (6, .own 2 0), (7, .int 0), (8, .own 3 0), (9, .int (cntPL v (p.kids.take i) : Nat)), (10, .int i), (11, if i = 0 then .junk else .own 6 0), (12, jk i (.int (cntP v (kidAt p (i - 1)) : Nat))), (15, .bool false), (24, jk i (.bool true))],
    st := some (.box [.int p.kind, .int p.table, .i (.isl (Ex.cellsL p.exprs)), .i (.isl (intsL p.cols)), .i (.isl (Pn.cellsL p.kids))]) :: some (.box [.int v.kind, .int v.table, .i (.isl (Ex.cellsL v.exprs)), .i (.isl (intsL v.cols)), .i (.isl (Pn.cellsL v.kids))]) :: some (.box [.int 0, .int 0, .nils, .nils, .nils]) :: some (.box [.int p.kind, .int p.table, .nils, .osl 4 1 0 p.cols.length, .osl 5 5 0 p.kids.length]) :: some (.arr 1 (intsL p.cols)) :: some (.arr 5 (mixK v t p.kids i)) :: (if i = 0 then [] else [some (.box (impI (foldP v t (kidAt p (i - 1))).cells))]) }
theorem sfold_miss0 {p v : Pn} (hp : p.thin) (he : p.exprs = []) (hk : p.kids ≠ []) {t : Int} (hn : cntPL v p.kids < 1000000000000) (hh : p.eqb v = false)
    (ih : ∀ a ∈ p.kids, cntP v a < 1000000000000 → callA C0 32 [.i (.agg a.cells), .i (.agg v.cells), .int t] [] = some (.tup [.i (.agg (foldP v t a).cells), .int (cntP v a : Nat)], [])) :
    callA C0 32 [.i (.agg p.cells), .i (.agg v.cells), .int t] [] = some (.tup [.i (.agg (foldP v t p).cells), .int (cntP v p : Nat)], []) := by
  have hq := sequalP_eq p hp v
  rw [hh] at hq
  have hc := copyPlan_eq p hp
  obtain ⟨t1, t2, t3, t4, -⟩ := (Pn.thin_iff _).1 hp
  have hkl : p.kids.length ≠ 0 := fun h => hk (List.length_eq_zero_iff.1 h)
  simp [pcX, pcS, gro_pos hkl, groB_pos hkl, he, Ex.cellsL] at hc
  rw [callA_eq rfl Try.func32 rfl rfl, foldP_miss hh, cntP_miss hh, Pn.cells_mk]
  rw [Pn.cells_eq p] at hq hc ⊢
  rw [Pn.cells_eq v] at hq ⊢
  simp only [he, Ex.cellsL] at hq hc ⊢
  simp [hq, hc, he, hk]
  rw [loop_to (SY0 p v t) p.kids.length (by simp [SY0, cntPL, mixK_zero, he, Ex.cellsL])]
  · rw [execA_loop]
    have hk2 : (foldPL v t p.kids).take p.kids.length = foldPL v t p.kids := List.take_of_length_le (by simp)
    simp [SY0, hkl, mixK_all, hk2, he, Ex.cellsL]
  · intro i hi
    have h3 := List.getElem?_eq_getElem hi
    have hm := List.mem_of_getElem? h3
    have r2 := Pn.cellsL_nth h3
    have htk := take_snoc h3
    have hkd : kidAt p i = p.kids[i] := by simp [kidAt, h3]
    have hset := mixK_set (v := v) (t := t) h3
    have hnt := mixK_nth (v := v) (t := t) h3
    generalize p.kids[i] = a at h3 hm r2 htk hkd hset hnt
    have hle : cntPL v (p.kids.take i) + cntP v a ≤ cntPL v p.kids := by
      rw [← cntPL_snoc, ← htk]; exact cntPL_take v _ _
    have hk := ih a hm (by omega)
    have w2 : IntKind.i64.wrap ((i : Int) + 1) = i + 1 := wrap64 (by omega) (by omega)
    have w3 : IntKind.i64.wrap ((cntPL v (p.kids.take i) : Int) + cntP v a) = cntPL v (p.kids.take i) + cntP v a := wrap64 (by omega) (by omega)
    rw [Pn.cells_eq a] at r2 hk hnt
    rw [Pn.cells_eq (foldP v t a)] at hk hset
    rw [Pn.cells_eq v] at hk
    by_cases h0 : i = 0
    · subst h0
      simp only [List.take_zero, cntPL, Int.natCast_zero, Int.zero_add] at w3
      simp [SY0, hi, r2, hk, wrap_1, htk, hkd, hset, hnt, w3, cntPL_snoc, cntPL, Pn.cells_eq (foldP v t a), he, Ex.cellsL]
    · simp [SY0, jk_pos h0, hi, r2, hk, w2, w3, htk, hkd, hset, hnt, cntPL_snoc, h0, Pn.cells_eq (foldP v t a), Pn.cells_eq (foldP v t (kidAt p (i - 1))), he, Ex.cellsL]
theorem sfold_leaf {p v : Pn} (hp : p.thin) (hk : p.kids = []) {t : Int} (hh : p.eqb v = false) :
    callA C0 32 [.i (.agg p.cells), .i (.agg v.cells), .int t] [] = some (.tup [.i (.agg (foldP v t p).cells), .int (cntP v p : Nat)], []) := by
  have hq := sequalP_eq p hp v
  rw [hh] at hq
  have hc := copyPlan_eq p hp
  rw [callA_eq rfl Try.func32 rfl rfl, foldP_miss hh, cntP_miss hh, Pn.cells_mk]
  rw [Pn.cells_eq v] at hq ⊢
  rw [Pn.cells_eq p] at hq hc ⊢
  simp only [hk, Pn.cellsL] at hq hc ⊢
  by_cases he : p.exprs = []
  · simp [pcX, pcS, hk, he, Pn.cellsL, Ex.cellsL] at hc
    simp only [he, Ex.cellsL] at hq ⊢
    simp [hq, hc, hk, he, Pn.cellsL, Ex.cellsL]
    rw [execA_loop]
    simp [foldPL, cntPL, Pn.cellsL]
  · have hel : p.exprs.length ≠ 0 := fun h => he (List.length_eq_zero_iff.1 h)
    simp [pcX, pcS, hk, gro_pos hel, groB_pos hel, he, Pn.cellsL] at hc
    simp [hq, hc, hk, Pn.cellsL]
    rw [execA_loop]
    simp [foldPL, cntPL, Pn.cellsL]
theorem sfold_eq {v : Pn} {t : Int} : ∀ (p : Pn), p.thin → cntP v p < 1000000000000 → callA C0 32 [.i (.agg p.cells), .i (.agg v.cells), .int t] [] = some (.tup [.i (.agg (foldP v t p).cells), .int (cntP v p : Nat)], []) := by
  intro p
  induction p using Pn.ind with
  | h k tb es cs ks ih =>
    intro ht hn
    cases hh : Pn.eqb (.mk k tb es cs ks) v with
    | true => rw [foldP_hit hh, cntP_hit hh]; exact sfold_hit ht hh
    | false =>
      rw [cntP_miss hh] at hn
      by_cases hk : ks = []
      · exact sfold_leaf ht hk hh
      have ih' : ∀ a ∈ ks, cntP v a < 1000000000000 → _ := fun a ha hm => ih a ha (((Pn.thin_iff _).1 ht).2.2.2.2 a ha) hm
      by_cases he : es = []
      · exact sfold_miss0 ht he hk hn hh ih'
      · exact sfold_miss1 ht he hk hn hh ih'
end Go.Proofs.Yteihcffblfdgfaa.P

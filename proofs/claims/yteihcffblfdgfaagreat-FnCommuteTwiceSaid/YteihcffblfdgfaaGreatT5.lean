/- Part 5 of what the proof rests on: the executor and what it is worth, and the program's functions as it runs them. No condition. -/
import Derived.Test.YteihcffblfdgfaaGreatT4
set_option linter.unusedVariables false
set_option linter.unusedSimpArgs false
namespace Go.Proofs.YteihcffblfdgfaaGreat.P
open Go Go.Av
set_option maxRecDepth 4000
set_option maxHeartbeats 2000000
@[simp] theorem nKids_1 : nKids 1 = 0 := by decide
@[simp] theorem nExprs_1 : nExprs 1 = 0 := by decide
@[simp] theorem nKids_2 : nKids 2 = 1 := by decide
@[simp] theorem nExprs_2 : nExprs 2 = 1 := by decide
@[simp] theorem nKids_3 : nKids 3 = 1 := by decide
@[simp] theorem nExprs_3 : nExprs 3 = 1 := by decide
@[simp] theorem nKids_4 : nKids 4 = 2 := by decide
@[simp] theorem nExprs_4 : nExprs 4 = 1 := by decide
@[simp] theorem nKids_5 : nKids 5 = 2 := by decide
@[simp] theorem nExprs_5 : nExprs 5 = 1 := by decide
@[simp] theorem nKids_6 : nKids 6 = 2 := by decide
@[simp] theorem nExprs_6 : nExprs 6 = 0 := by decide
@[simp] theorem nKids_7 : nKids 7 = 1 := by decide
@[simp] theorem nExprs_7 : nExprs 7 = 0 := by decide
@[simp] theorem nKids_8 : nKids 8 = 1 := by decide
@[simp] theorem nExprs_8 : nExprs 8 = 0 := by decide
theorem nKids_no {k : Int} (h : k ≠ 1 ∧ k ≠ 2 ∧ k ≠ 3 ∧ k ≠ 4 ∧ k ≠ 5 ∧ k ≠ 6 ∧ k ≠ 7 ∧ k ≠ 8) : nKids k = -1 := by
  unfold nKids; rw [if_neg (by omega), if_neg (by omega), if_neg (by omega)]
theorem below_other {ws : List Int} {t : Int} {es : List Ex} {cs : List Int} {ks : List Pn} {lv : Nat} {k : Int} (h : k ≠ 1 ∧ k ≠ 2 ∧ k ≠ 3 ∧ k ≠ 4 ∧ k ≠ 5 ∧ k ≠ 6 ∧ k ≠ 7 ∧ k ≠ 8) : callA C0 63 [.i (.iref [.int k, .int t, .isl (Ex.cellsL es), .isl (intsL cs), .isl (Pn.cellsL ks)]), .i (.isl (intsL ws)), .int lv] [] = some (.int 0, []) := by
  rw [callA_eq rfl Tryz.func63 rfl rfl]
  have c1 : ¬ (ks.length : Int) = -1 := by omega
  have hn := nKids_no h
  simp [h.2.2.1, hn, c1]
theorem below_no1 {ws : List Int} {t : Int} {es : List Ex} {cs : List Int} {ks : List Pn} {lv : Nat} (h : ¬ ((ks.length : Int) = 0 ∧ (es.length : Int) = 0 ∧ True ∧ cs = [])) : callA C0 63 [.i (.iref [.int 1, .int t, .isl (Ex.cellsL es), .isl (intsL cs), .isl (Pn.cellsL ks)]), .i (.isl (intsL ws)), .int lv] [] = some (.int 0, []) := by
  rw [callA_eq rfl Tryz.func63 rfl rfl]
  by_cases c1 : (ks.length : Int) = 0
  case neg => simp at c1; simp [c1]
  by_cases c2 : (es.length : Int) = 0
  case neg => simp at c2; simp [c1, c2]
  by_cases c5 : cs = []
  case neg => simp [c1, c2, c5]
  exact absurd (by simp [c1, c2, c5]) h
theorem below_no2 {ws : List Int} {t : Int} {es : List Ex} {cs : List Int} {ks : List Pn} {lv : Nat} (h : ¬ ((ks.length : Int) = 1 ∧ (es.length : Int) = 1 ∧ lv ≠ 0 ∧ t = 0 ∧ cs = [])) : callA C0 63 [.i (.iref [.int 2, .int t, .isl (Ex.cellsL es), .isl (intsL cs), .isl (Pn.cellsL ks)]), .i (.isl (intsL ws)), .int lv] [] = some (.int 0, []) := by
  rw [callA_eq rfl Tryz.func63 rfl rfl]
  by_cases c1 : (ks.length : Int) = 1
  case neg => simp [c1]
  by_cases c2 : (es.length : Int) = 1
  case neg => simp [c1, c2]
  by_cases c3 : lv = 0
  case pos => subst c3; simp [c1, c2]
  have c3' : ¬ (lv : Int) = 0 := by omega
  by_cases c4 : t = 0
  case neg => simp [c1, c2, c3, c3', c4]
  by_cases c5 : cs = []
  case neg => simp [c1, c2, c3, c3', c4, c5]
  exact absurd (by simp [c1, c2, c3, c3', c4, c5]) h
theorem below_no3 {ws : List Int} {t : Int} {es : List Ex} {cs : List Int} {ks : List Pn} {lv : Nat} (h : ¬ ((ks.length : Int) = 1 ∧ (es.length : Int) = (if okWidth es.length = true then (es.length : Int) else 1) ∧ lv ≠ 0 ∧ t = 0 ∧ cs = [])) : callA C0 63 [.i (.iref [.int 3, .int t, .isl (Ex.cellsL es), .isl (intsL cs), .isl (Pn.cellsL ks)]), .i (.isl (intsL ws)), .int lv] [] = some (.int 0, []) := by
  rw [callA_eq rfl Tryz.func63 rfl rfl]
  cases hv : okWidth es.length
  · have hq : (es.length : Int) ≠ 1 := fun hq => by rw [hq] at hv; simp [okWidth] at hv
    by_cases c1 : (ks.length : Int) = 1
    case neg => simp [hv, c1]
    simp [hv, c1, hq]
  by_cases c1 : (ks.length : Int) = 1
  case neg => simp [hv, c1]
  by_cases c3 : lv = 0
  case pos => subst c3; simp [hv, c1]
  have c3' : ¬ (lv : Int) = 0 := by omega
  by_cases c4 : t = 0
  case neg => simp [hv, c1, c3, c3', c4]
  by_cases c5 : cs = []
  case neg => simp [hv, c1, c3, c3', c4, c5]
  exact absurd (by simp [hv, c1, c3, c4, c5]) h
theorem below_no4 {ws : List Int} {t : Int} {es : List Ex} {cs : List Int} {ks : List Pn} {lv : Nat} (h : ¬ ((ks.length : Int) = 2 ∧ (es.length : Int) = 1 ∧ lv ≠ 0 ∧ t = 0 ∧ cs = [])) : callA C0 63 [.i (.iref [.int 4, .int t, .isl (Ex.cellsL es), .isl (intsL cs), .isl (Pn.cellsL ks)]), .i (.isl (intsL ws)), .int lv] [] = some (.int 0, []) := by
  rw [callA_eq rfl Tryz.func63 rfl rfl]
  by_cases c1 : (ks.length : Int) = 2
  case neg => simp [c1]
  by_cases c2 : (es.length : Int) = 1
  case neg => simp [c1, c2]
  by_cases c3 : lv = 0
  case pos => subst c3; simp [c1, c2]
  have c3' : ¬ (lv : Int) = 0 := by omega
  by_cases c4 : t = 0
  case neg => simp [c1, c2, c3, c3', c4]
  by_cases c5 : cs = []
  case neg => simp [c1, c2, c3, c3', c4, c5]
  exact absurd (by simp [c1, c2, c3, c3', c4, c5]) h
theorem below_no5 {ws : List Int} {t : Int} {es : List Ex} {cs : List Int} {ks : List Pn} {lv : Nat} (h : ¬ ((ks.length : Int) = 2 ∧ (es.length : Int) = 1 ∧ lv ≠ 0 ∧ t = 0 ∧ cs = [])) : callA C0 63 [.i (.iref [.int 5, .int t, .isl (Ex.cellsL es), .isl (intsL cs), .isl (Pn.cellsL ks)]), .i (.isl (intsL ws)), .int lv] [] = some (.int 0, []) := by
  rw [callA_eq rfl Tryz.func63 rfl rfl]
  by_cases c1 : (ks.length : Int) = 2
  case neg => simp [c1]
  by_cases c2 : (es.length : Int) = 1
  case neg => simp [c1, c2]
  by_cases c3 : lv = 0
  case pos => subst c3; simp [c1, c2]
  have c3' : ¬ (lv : Int) = 0 := by omega
  by_cases c4 : t = 0
  case neg => simp [c1, c2, c3, c3', c4]
  by_cases c5 : cs = []
  case neg => simp [c1, c2, c3, c3', c4, c5]
  exact absurd (by simp [c1, c2, c3, c3', c4, c5]) h
theorem below_no6 {ws : List Int} {t : Int} {es : List Ex} {cs : List Int} {ks : List Pn} {lv : Nat} (h : ¬ ((ks.length : Int) = 2 ∧ (es.length : Int) = 0 ∧ lv ≠ 0 ∧ t = 0 ∧ cs = [])) : callA C0 63 [.i (.iref [.int 6, .int t, .isl (Ex.cellsL es), .isl (intsL cs), .isl (Pn.cellsL ks)]), .i (.isl (intsL ws)), .int lv] [] = some (.int 0, []) := by
  rw [callA_eq rfl Tryz.func63 rfl rfl]
  by_cases c1 : (ks.length : Int) = 2
  case neg => simp [c1]
  by_cases c2 : (es.length : Int) = 0
  case neg => simp at c2; simp [c1, c2]
  by_cases c3 : lv = 0
  case pos => subst c3; simp [c1, c2]
  have c3' : ¬ (lv : Int) = 0 := by omega
  by_cases c4 : t = 0
  case neg => simp [c1, c2, c3, c3', c4]
  by_cases c5 : cs = []
  case neg => simp [c1, c2, c3, c3', c4, c5]
  exact absurd (by simp [c1, c2, c3, c3', c4, c5]) h
theorem below_no7 {ws : List Int} {t : Int} {es : List Ex} {cs : List Int} {ks : List Pn} {lv : Nat} (h : ¬ ((ks.length : Int) = 1 ∧ (es.length : Int) = 0 ∧ lv ≠ 0 ∧ t = 0 ∧ cs = [])) : callA C0 63 [.i (.iref [.int 7, .int t, .isl (Ex.cellsL es), .isl (intsL cs), .isl (Pn.cellsL ks)]), .i (.isl (intsL ws)), .int lv] [] = some (.int 0, []) := by
  rw [callA_eq rfl Tryz.func63 rfl rfl]
  by_cases c1 : (ks.length : Int) = 1
  case neg => simp [c1]
  by_cases c2 : (es.length : Int) = 0
  case neg => simp at c2; simp [c1, c2]
  by_cases c3 : lv = 0
  case pos => subst c3; simp [c1, c2]
  have c3' : ¬ (lv : Int) = 0 := by omega
  by_cases c4 : t = 0
  case neg => simp [c1, c2, c3, c3', c4]
  by_cases c5 : cs = []
  case neg => simp [c1, c2, c3, c3', c4, c5]
  exact absurd (by simp [c1, c2, c3, c3', c4, c5]) h
theorem below_no8 {ws : List Int} {t : Int} {es : List Ex} {cs : List Int} {ks : List Pn} {lv : Nat} (h : ¬ ((ks.length : Int) = 1 ∧ (es.length : Int) = 0 ∧ lv ≠ 0 ∧ t = 0)) : callA C0 63 [.i (.iref [.int 8, .int t, .isl (Ex.cellsL es), .isl (intsL cs), .isl (Pn.cellsL ks)]), .i (.isl (intsL ws)), .int lv] [] = some (.int 0, []) := by
  rw [callA_eq rfl Tryz.func63 rfl rfl]
  by_cases c1 : (ks.length : Int) = 1
  case neg => simp [c1]
  by_cases c2 : (es.length : Int) = 0
  case neg => simp at c2; simp [c1, c2]
  by_cases c3 : lv = 0
  case pos => subst c3; simp [c1, c2]
  have c3' : ¬ (lv : Int) = 0 := by omega
  by_cases c4 : t = 0
  case neg => simp [c1, c2, c3, c3', c4]
  exact absurd (by simp [c1, c2, c3, c3', c4]) h
end Go.Proofs.YteihcffblfdgfaaGreat.P

namespace Go.Proofs.YteihcffblfdgfaaGreat.P
open Go Go.Av
set_option maxRecDepth 4000
set_option maxHeartbeats 2000000
theorem below_yes1 {ws : List Int} {t : Int} {lv : Nat} : callA C0 63 [.i (.iref [.int 1, .int t, .isl (Ex.cellsL []), .isl (intsL []), .isl (Pn.cellsL [])]), .i (.isl (intsL ws)), .int lv] [] = some (.int (if 0 ≤ t then (ws[t.toNat]?).getD 0 else 0), []) := by
  rw [callA_eq rfl Tryz.func63 rfl rfl]
  by_cases h0 : 0 ≤ t
  case neg => simp [Ex.cellsL, Pn.cellsL, intsL, h0, show t < 0 by omega]
  cases hx : ws[t.toNat]? with
  | none =>
    have := List.getElem?_eq_none_iff.1 hx
    simp [Ex.cellsL, Pn.cellsL, intsL, h0, show ¬ t < 0 by omega, show (ws.length : Int) ≤ t by omega]
  | some x =>
    have r1 := (List.getElem?_eq_some_iff.1 hx).1
    have r2 := intsL_nth hx
    simp [Ex.cellsL, Pn.cellsL, intsL, h0, show ¬ t < 0 by omega, show ¬ (ws.length : Int) ≤ t by omega, r2, show t < ws.length by omega]
theorem below_yes2 {ws : List Int} {es : List Ex} {a : Pn} {lv : Nat} {va : Int} (hl : lv ≠ 0) (hl8 : lv ≤ 8) (hd : Pn.headOk (Pn.mk 2 0 es [] [a]) = true) (ha : callA C0 63 [.i (.iref a.cells), .i (.isl (intsL ws)), .int (lv - 1 : Nat)] [] = some (.int va, [])) (ra : 0 ≤ va ∧ va ≤ 6) : callA C0 63 [.i (.iref [.int 2, .int 0, .isl (Ex.cellsL es), .isl (intsL []), .isl (Pn.cellsL [a])]), .i (.isl (intsL ws)), .int lv] [] = some (.int (if va = 0 then 0 else wdOver 2 es [] va 0), []) := by
  rw [callA_eq rfl Tryz.func63 rfl rfl]
  have c3' : ¬ (lv : Int) = 0 := by omega
  have w1 : IntKind.i64.wrap ((lv : Int) - 1) = (lv - 1 : Nat) := by rw [wrap64 (by omega) (by omega)]; omega
  have r0 : nthE [a.cells] 0 = some a.cells := rfl
  have hov := widthOver_eq (Pn.mk 2 0 es [] [a]) va 0 ra (by omega) hd
  rw [Pn.cells_mk] at hov
  simp only [Pn.kind_mk, Pn.exprs_mk, Pn.cols_mk, Pn.cellsL, intsL, Ex.cellsL] at hov
  rw [Pn.cells_eq a] at ha hov r0
  have c2 : (es.length : Int) = 1 := by
    simp only [Pn.headOk, Bool.and_eq_true, decide_eq_true_eq, Pn.exprs_mk, Pn.kind_mk] at hd
    simpa using hd.2.1
  simp [c2, hl, c3', Pn.cellsL, intsL, Ex.cellsL]
  rw [Pn.cells_eq a]
  rw [execA_loop]
  by_cases z1 : va = 0
  case pos => simp [w1, ha, r0, z1]
  simp [w1, ha, r0, z1, wrap_1]
  rw [execA_loop]
  simp [hov, z1]
theorem below_yes3 {ws : List Int} {es : List Ex} {a : Pn} {lv : Nat} {va : Int} (hl : lv ≠ 0) (hl8 : lv ≤ 8) (hd : Pn.headOk (Pn.mk 3 0 es [] [a]) = true) (ha : callA C0 63 [.i (.iref a.cells), .i (.isl (intsL ws)), .int (lv - 1 : Nat)] [] = some (.int va, [])) (ra : 0 ≤ va ∧ va ≤ 6) : callA C0 63 [.i (.iref [.int 3, .int 0, .isl (Ex.cellsL es), .isl (intsL []), .isl (Pn.cellsL [a])]), .i (.isl (intsL ws)), .int lv] [] = some (.int (if va = 0 then 0 else wdOver 3 es [] va 0), []) := by
  rw [callA_eq rfl Tryz.func63 rfl rfl]
  have c3' : ¬ (lv : Int) = 0 := by omega
  have w1 : IntKind.i64.wrap ((lv : Int) - 1) = (lv - 1 : Nat) := by rw [wrap64 (by omega) (by omega)]; omega
  have r0 : nthE [a.cells] 0 = some a.cells := rfl
  have hov := widthOver_eq (Pn.mk 3 0 es [] [a]) va 0 ra (by omega) hd
  rw [Pn.cells_mk] at hov
  simp only [Pn.kind_mk, Pn.exprs_mk, Pn.cols_mk, Pn.cellsL, intsL, Ex.cellsL] at hov
  rw [Pn.cells_eq a] at ha hov r0
  have hv : okWidth es.length = true ∨ (es.length : Int) = 1 := by
    simp only [Pn.headOk, Bool.and_eq_true, decide_eq_true_eq, Pn.exprs_mk, Pn.kind_mk] at hd
    have := hd.2.1
    split at this
    · rename_i h; exact .inl h.2
    · exact .inr (by simpa using this)
  have hv : okWidth es.length = true := by
    rcases hv with h | h
    · exact h
    · rw [h]; decide
  simp [hv, hl, c3', Pn.cellsL, intsL, Ex.cellsL]
  rw [Pn.cells_eq a]
  rw [execA_loop]
  by_cases z1 : va = 0
  case pos => simp [w1, ha, r0, z1]
  simp [w1, ha, r0, z1, wrap_1]
  rw [execA_loop]
  simp [hov, z1]
theorem below_yes4 {ws : List Int} {es : List Ex} {a b : Pn} {lv : Nat} {va vb : Int} (hl : lv ≠ 0) (hl8 : lv ≤ 8) (hd : Pn.headOk (Pn.mk 4 0 es [] [a, b]) = true) (ha : callA C0 63 [.i (.iref a.cells), .i (.isl (intsL ws)), .int (lv - 1 : Nat)] [] = some (.int va, [])) (ra : 0 ≤ va ∧ va ≤ 6) (hb : callA C0 63 [.i (.iref b.cells), .i (.isl (intsL ws)), .int (lv - 1 : Nat)] [] = some (.int vb, [])) (rb : 0 ≤ vb ∧ vb ≤ 6) : callA C0 63 [.i (.iref [.int 4, .int 0, .isl (Ex.cellsL es), .isl (intsL []), .isl (Pn.cellsL [a, b])]), .i (.isl (intsL ws)), .int lv] [] = some (.int (if va = 0 ∨ vb = 0 then 0 else wdOver 4 es [] va vb), []) := by
  rw [callA_eq rfl Tryz.func63 rfl rfl]
  have c3' : ¬ (lv : Int) = 0 := by omega
  have w1 : IntKind.i64.wrap ((lv : Int) - 1) = (lv - 1 : Nat) := by rw [wrap64 (by omega) (by omega)]; omega
  have r0 : nthE [a.cells, b.cells] 0 = some a.cells := rfl
  have r1 : nthE [a.cells, b.cells] 1 = some b.cells := rfl
  have hov := widthOver_eq (Pn.mk 4 0 es [] [a, b]) va vb ra rb hd
  rw [Pn.cells_mk] at hov
  simp only [Pn.kind_mk, Pn.exprs_mk, Pn.cols_mk, Pn.cellsL, intsL, Ex.cellsL] at hov
  rw [Pn.cells_eq a] at ha hov r0 r1
  rw [Pn.cells_eq b] at hb hov r0 r1
  have c2 : (es.length : Int) = 1 := by
    simp only [Pn.headOk, Bool.and_eq_true, decide_eq_true_eq, Pn.exprs_mk, Pn.kind_mk] at hd
    simpa using hd.2.1
  simp [c2, hl, c3', Pn.cellsL, intsL, Ex.cellsL]
  rw [Pn.cells_eq a, Pn.cells_eq b]
  rw [execA_loop]
  by_cases z1 : va = 0
  case pos => simp [w1, ha, r0, z1]
  simp [w1, ha, r0, z1, wrap_1]
  rw [execA_loop]
  by_cases z2 : vb = 0
  case pos => simp [w1, hb, r1, z2]
  simp [w1, hb, r1, z1, z2, wrap64 (x := 2) (by omega) (by omega)]
  rw [execA_loop]
  simp [hov, z1, z2]
theorem below_yes5 {ws : List Int} {es : List Ex} {a b : Pn} {lv : Nat} {va vb : Int} (hl : lv ≠ 0) (hl8 : lv ≤ 8) (hd : Pn.headOk (Pn.mk 5 0 es [] [a, b]) = true) (ha : callA C0 63 [.i (.iref a.cells), .i (.isl (intsL ws)), .int (lv - 1 : Nat)] [] = some (.int va, [])) (ra : 0 ≤ va ∧ va ≤ 6) (hb : callA C0 63 [.i (.iref b.cells), .i (.isl (intsL ws)), .int (lv - 1 : Nat)] [] = some (.int vb, [])) (rb : 0 ≤ vb ∧ vb ≤ 6) : callA C0 63 [.i (.iref [.int 5, .int 0, .isl (Ex.cellsL es), .isl (intsL []), .isl (Pn.cellsL [a, b])]), .i (.isl (intsL ws)), .int lv] [] = some (.int (if va = 0 ∨ vb = 0 then 0 else wdOver 5 es [] va vb), []) := by
  rw [callA_eq rfl Tryz.func63 rfl rfl]
  have c3' : ¬ (lv : Int) = 0 := by omega
  have w1 : IntKind.i64.wrap ((lv : Int) - 1) = (lv - 1 : Nat) := by rw [wrap64 (by omega) (by omega)]; omega
  have r0 : nthE [a.cells, b.cells] 0 = some a.cells := rfl
  have r1 : nthE [a.cells, b.cells] 1 = some b.cells := rfl
  have hov := widthOver_eq (Pn.mk 5 0 es [] [a, b]) va vb ra rb hd
  rw [Pn.cells_mk] at hov
  simp only [Pn.kind_mk, Pn.exprs_mk, Pn.cols_mk, Pn.cellsL, intsL, Ex.cellsL] at hov
  rw [Pn.cells_eq a] at ha hov r0 r1
  rw [Pn.cells_eq b] at hb hov r0 r1
  have c2 : (es.length : Int) = 1 := by
    simp only [Pn.headOk, Bool.and_eq_true, decide_eq_true_eq, Pn.exprs_mk, Pn.kind_mk] at hd
    simpa using hd.2.1
  simp [c2, hl, c3', Pn.cellsL, intsL, Ex.cellsL]
  rw [Pn.cells_eq a, Pn.cells_eq b]
  rw [execA_loop]
  by_cases z1 : va = 0
  case pos => simp [w1, ha, r0, z1]
  simp [w1, ha, r0, z1, wrap_1]
  rw [execA_loop]
  by_cases z2 : vb = 0
  case pos => simp [w1, hb, r1, z2]
  simp [w1, hb, r1, z1, z2, wrap64 (x := 2) (by omega) (by omega)]
  rw [execA_loop]
  simp [hov, z1, z2]
theorem below_yes6 {ws : List Int} {a b : Pn} {lv : Nat} {va vb : Int} (hl : lv ≠ 0) (hl8 : lv ≤ 8) (hd : Pn.headOk (Pn.mk 6 0 [] [] [a, b]) = true) (ha : callA C0 63 [.i (.iref a.cells), .i (.isl (intsL ws)), .int (lv - 1 : Nat)] [] = some (.int va, [])) (ra : 0 ≤ va ∧ va ≤ 6) (hb : callA C0 63 [.i (.iref b.cells), .i (.isl (intsL ws)), .int (lv - 1 : Nat)] [] = some (.int vb, [])) (rb : 0 ≤ vb ∧ vb ≤ 6) : callA C0 63 [.i (.iref [.int 6, .int 0, .isl (Ex.cellsL []), .isl (intsL []), .isl (Pn.cellsL [a, b])]), .i (.isl (intsL ws)), .int lv] [] = some (.int (if va = 0 ∨ vb = 0 then 0 else wdOver 6 [] [] va vb), []) := by
  rw [callA_eq rfl Tryz.func63 rfl rfl]
  have c3' : ¬ (lv : Int) = 0 := by omega
  have w1 : IntKind.i64.wrap ((lv : Int) - 1) = (lv - 1 : Nat) := by rw [wrap64 (by omega) (by omega)]; omega
  have r0 : nthE [a.cells, b.cells] 0 = some a.cells := rfl
  have r1 : nthE [a.cells, b.cells] 1 = some b.cells := rfl
  have hov := widthOver_eq (Pn.mk 6 0 [] [] [a, b]) va vb ra rb hd
  rw [Pn.cells_mk] at hov
  simp only [Pn.kind_mk, Pn.exprs_mk, Pn.cols_mk, Pn.cellsL, intsL, Ex.cellsL] at hov
  rw [Pn.cells_eq a] at ha hov r0 r1
  rw [Pn.cells_eq b] at hb hov r0 r1
  simp [hl, c3', Pn.cellsL, intsL, Ex.cellsL]
  rw [Pn.cells_eq a, Pn.cells_eq b]
  rw [execA_loop]
  by_cases z1 : va = 0
  case pos => simp [w1, ha, r0, z1]
  simp [w1, ha, r0, z1, wrap_1]
  rw [execA_loop]
  by_cases z2 : vb = 0
  case pos => simp [w1, hb, r1, z2]
  simp [w1, hb, r1, z1, z2, wrap64 (x := 2) (by omega) (by omega)]
  rw [execA_loop]
  simp [hov, z1, z2]
theorem below_yes7 {ws : List Int} {a : Pn} {lv : Nat} {va : Int} (hl : lv ≠ 0) (hl8 : lv ≤ 8) (hd : Pn.headOk (Pn.mk 7 0 [] [] [a]) = true) (ha : callA C0 63 [.i (.iref a.cells), .i (.isl (intsL ws)), .int (lv - 1 : Nat)] [] = some (.int va, [])) (ra : 0 ≤ va ∧ va ≤ 6) : callA C0 63 [.i (.iref [.int 7, .int 0, .isl (Ex.cellsL []), .isl (intsL []), .isl (Pn.cellsL [a])]), .i (.isl (intsL ws)), .int lv] [] = some (.int (if va = 0 then 0 else wdOver 7 [] [] va 0), []) := by
  rw [callA_eq rfl Tryz.func63 rfl rfl]
  have c3' : ¬ (lv : Int) = 0 := by omega
  have w1 : IntKind.i64.wrap ((lv : Int) - 1) = (lv - 1 : Nat) := by rw [wrap64 (by omega) (by omega)]; omega
  have r0 : nthE [a.cells] 0 = some a.cells := rfl
  have hov := widthOver_eq (Pn.mk 7 0 [] [] [a]) va 0 ra (by omega) hd
  rw [Pn.cells_mk] at hov
  simp only [Pn.kind_mk, Pn.exprs_mk, Pn.cols_mk, Pn.cellsL, intsL, Ex.cellsL] at hov
  rw [Pn.cells_eq a] at ha hov r0
  simp [hl, c3', Pn.cellsL, intsL, Ex.cellsL]
  rw [Pn.cells_eq a]
  rw [execA_loop]
  by_cases z1 : va = 0
  case pos => simp [w1, ha, r0, z1]
  simp [w1, ha, r0, z1, wrap_1]
  rw [execA_loop]
  simp [hov, z1]
theorem below_yes8 {ws : List Int} {cs : List Int} {a : Pn} {lv : Nat} {va : Int} (hl : lv ≠ 0) (hl8 : lv ≤ 8) (hd : Pn.headOk (Pn.mk 8 0 [] cs [a]) = true) (ha : callA C0 63 [.i (.iref a.cells), .i (.isl (intsL ws)), .int (lv - 1 : Nat)] [] = some (.int va, [])) (ra : 0 ≤ va ∧ va ≤ 6) : callA C0 63 [.i (.iref [.int 8, .int 0, .isl (Ex.cellsL []), .isl (intsL cs), .isl (Pn.cellsL [a])]), .i (.isl (intsL ws)), .int lv] [] = some (.int (if va = 0 then 0 else wdOver 8 [] cs va 0), []) := by
  rw [callA_eq rfl Tryz.func63 rfl rfl]
  have c3' : ¬ (lv : Int) = 0 := by omega
  have w1 : IntKind.i64.wrap ((lv : Int) - 1) = (lv - 1 : Nat) := by rw [wrap64 (by omega) (by omega)]; omega
  have r0 : nthE [a.cells] 0 = some a.cells := rfl
  have hov := widthOver_eq (Pn.mk 8 0 [] cs [a]) va 0 ra (by omega) hd
  rw [Pn.cells_mk] at hov
  simp only [Pn.kind_mk, Pn.exprs_mk, Pn.cols_mk, Pn.cellsL, intsL, Ex.cellsL] at hov
  rw [Pn.cells_eq a] at ha hov r0
  simp [hl, c3', Pn.cellsL, intsL, Ex.cellsL]
  rw [Pn.cells_eq a]
  rw [execA_loop]
  by_cases z1 : va = 0
  case pos => simp [w1, ha, r0, z1]
  simp [w1, ha, r0, z1, wrap_1]
  rw [execA_loop]
  simp [hov, z1]
end Go.Proofs.YteihcffblfdgfaaGreat.P

namespace Go.Proofs.YteihcffblfdgfaaGreat.P
open Go Go.Av
set_option maxRecDepth 4000
set_option maxHeartbeats 2000000
theorem headOk_iff (k t : Int) (es : List Ex) (cs : List Int) (ks : List Pn) : Pn.headOk (.mk k t es cs ks) = true ↔ ((ks.length : Int) = nKids k ∧ (es.length : Int) = (if k = 3 ∧ okWidth es.length = true then (es.length : Int) else nExprs k) ∧ (k = 1 ∨ t = 0) ∧ (k = 8 ∨ cs = [])) := by
  unfold Pn.headOk
  simp only [Bool.and_eq_true, Bool.or_eq_true, decide_eq_true_eq]
  exact Iff.rfl
theorem len_one {α : Type} {l : List α} (h : (l.length : Int) = 1) : ∃ a, l = [a] := List.length_eq_one_iff.1 (by omega)
theorem len_two {α : Type} {l : List α} (h : (l.length : Int) = 2) : ∃ a b, l = [a, b] := by
  match l, h with
  | [a, b], _ => exact ⟨a, b, rfl⟩
  | [], h => simp at h
  | [_], h => simp at h
  | _ :: _ :: _ :: _, h => simp at h; omega
theorem len_zero {α : Type} {l : List α} (h : (l.length : Int) = 0) : l = [] := List.length_eq_zero_iff.1 (by omega)
theorem widthBelow_eq {ws : List Int} (hw : ∀ w ∈ ws, 0 ≤ w ∧ w ≤ 6) : ∀ (p : Pn) (lv : Nat), lv ≤ 8 → callA C0 63 [.i (.iref p.cells), .i (.isl (intsL ws)), .int lv] [] = some (.int (p.wd ws lv), []) := by
  intro p
  induction p using Pn.ind with
  | h k t es cs ks ih =>
    intro lv hlv
    rw [Pn.cells_mk]
    by_cases hh : Pn.headOk (.mk k t es cs ks) = true ∧ (ks = [] ∨ lv ≠ 0)
    case neg =>
      rw [Pn.wd_no hh]
      rw [headOk_iff] at hh
      rcases partCases k with rfl | rfl | rfl | rfl | rfl | rfl | rfl | rfl | h
      · refine below_no1 fun h => hh ?_
        have := len_zero h.1
        simp [h.2.1, h.2.2.2, this]
      · exact below_no2 fun h => hh (by simp [h.1, h.2.1, h.2.2.1, h.2.2.2.1, h.2.2.2.2])
      · exact below_no3 fun h => hh (by refine ⟨⟨by simp [h.1], by simpa using h.2.1, by simp [h.2.2.2.1], by simp [h.2.2.2.2]⟩, .inr h.2.2.1⟩)
      · exact below_no4 fun h => hh (by simp [h.1, h.2.1, h.2.2.1, h.2.2.2.1, h.2.2.2.2])
      · exact below_no5 fun h => hh (by simp [h.1, h.2.1, h.2.2.1, h.2.2.2.1, h.2.2.2.2])
      · exact below_no6 fun h => hh (by simp [h.1, len_zero h.2.1, h.2.2.1, h.2.2.2.1, h.2.2.2.2])
      · exact below_no7 fun h => hh (by simp [h.1, len_zero h.2.1, h.2.2.1, h.2.2.2.1, h.2.2.2.2])
      · exact below_no8 fun h => hh (by simp [h.1, len_zero h.2.1, h.2.2.1, h.2.2.2])
      · exact below_other h
    have hd := hh.1
    have hx := Pn.wd_eq ws lv (.mk k t es cs ks)
    rw [if_pos (by simpa using hh)] at hx
    simp only [Pn.kind_mk, Pn.table_mk, Pn.exprs_mk, Pn.cols_mk, Pn.kids_mk] at hx
    rw [hx]
    rw [headOk_iff] at hh
    obtain ⟨⟨h1, h2, h3, h4⟩, h5⟩ := hh
    have hr := fun a => Pn.wd_range hw a (lv - 1)
    rcases partCases k with rfl | rfl | rfl | rfl | rfl | rfl | rfl | rfl | h
    · obtain rfl := len_zero (by simpa using h1)
      obtain rfl : es = [] := len_zero (by simpa using h2)
      obtain rfl : cs = [] := by simpa using h4
      exact below_yes1
    · obtain ⟨a, rfl⟩ := len_one (by simpa using h1)
      obtain rfl : cs = [] := by simpa using h4
      obtain rfl : t = 0 := by simpa using h3
      have hl : lv ≠ 0 := by simpa using h5
      rw [below_yes2 hl hlv hd (ih a (by simp) (lv - 1) (by omega)) (hr a)]
      by_cases z : a.wd ws (lv - 1) = 0 <;> simp [z]
    · obtain ⟨a, rfl⟩ := len_one (by simpa using h1)
      obtain rfl : cs = [] := by simpa using h4
      obtain rfl : t = 0 := by simpa using h3
      have hl : lv ≠ 0 := by simpa using h5
      rw [below_yes3 hl hlv hd (ih a (by simp) (lv - 1) (by omega)) (hr a)]
      by_cases z : a.wd ws (lv - 1) = 0 <;> simp [z]
    · obtain ⟨a, b, rfl⟩ := len_two (by simpa using h1)
      obtain rfl : cs = [] := by simpa using h4
      obtain rfl : t = 0 := by simpa using h3
      have hl : lv ≠ 0 := by simpa using h5
      rw [below_yes4 hl hlv hd (ih a (by simp) (lv - 1) (by omega)) (hr a) (ih b (by simp) (lv - 1) (by omega)) (hr b)]
      by_cases z : a.wd ws (lv - 1) = 0 <;> by_cases z2 : b.wd ws (lv - 1) = 0 <;> simp [z, z2]
    · obtain ⟨a, b, rfl⟩ := len_two (by simpa using h1)
      obtain rfl : cs = [] := by simpa using h4
      obtain rfl : t = 0 := by simpa using h3
      have hl : lv ≠ 0 := by simpa using h5
      rw [below_yes5 hl hlv hd (ih a (by simp) (lv - 1) (by omega)) (hr a) (ih b (by simp) (lv - 1) (by omega)) (hr b)]
      by_cases z : a.wd ws (lv - 1) = 0 <;> by_cases z2 : b.wd ws (lv - 1) = 0 <;> simp [z, z2]
    · obtain ⟨a, b, rfl⟩ := len_two (by simpa using h1)
      obtain rfl : es = [] := len_zero (by simpa using h2)
      obtain rfl : cs = [] := by simpa using h4
      obtain rfl : t = 0 := by simpa using h3
      have hl : lv ≠ 0 := by simpa using h5
      rw [below_yes6 hl hlv hd (ih a (by simp) (lv - 1) (by omega)) (hr a) (ih b (by simp) (lv - 1) (by omega)) (hr b)]
      by_cases z : a.wd ws (lv - 1) = 0 <;> by_cases z2 : b.wd ws (lv - 1) = 0 <;> simp [z, z2]
    · obtain ⟨a, rfl⟩ := len_one (by simpa using h1)
      obtain rfl : es = [] := len_zero (by simpa using h2)
      obtain rfl : cs = [] := by simpa using h4
      obtain rfl : t = 0 := by simpa using h3
      have hl : lv ≠ 0 := by simpa using h5
      rw [below_yes7 hl hlv hd (ih a (by simp) (lv - 1) (by omega)) (hr a)]
      by_cases z : a.wd ws (lv - 1) = 0 <;> simp [z]
    · obtain ⟨a, rfl⟩ := len_one (by simpa using h1)
      obtain rfl : es = [] := len_zero (by simpa using h2)
      obtain rfl : t = 0 := by simpa using h3
      have hl : lv ≠ 0 := by simpa using h5
      rw [below_yes8 hl hlv hd (ih a (by simp) (lv - 1) (by omega)) (hr a)]
      by_cases z : a.wd ws (lv - 1) = 0 <;> simp [z]
    · exact absurd h1 (by rw [nKids_no h]; omega)
def VX (ws : List Int) (i : Nat) : AS :=
  { env := [(0, .i (.isl (intsL ws))), (2, .bool false), (4, jk i (.int (ws[i - 1]?.getD 0))), (12, .bool false), (13, .i (.isl (intsL ws))), (14, .int ws.length), (15, .int i), (16, jk i (.bool true)), (21, jk i (.bool false))], st := [] }
theorem validWidths_eq (ws : List Int) : callA C0 62 [.i (.isl (intsL ws))] [] = some (.bool (okWs ws), []) := by
  rw [callA_eq rfl Tryz.func62 rfl rfl]
  by_cases h1 : ws.length = 0
  · have := List.length_eq_zero_iff.1 h1
    subst this
    simp [intsL, okWs]
  by_cases h4 : ws.length ≤ 4
  case neg => simp [okWs, h4, show ¬ (ws.length : Int) < 1 by omega, show 4 < (ws.length : Int) by omega]
  simp [show ¬ (ws.length : Int) < 1 by omega, show ¬ 4 < (ws.length : Int) by omega]
  obtain ⟨j, h1', h2⟩ := upto_bad okWidth ws
  rw [loop_to (VX ws) j (by simp [VX])]
  · rw [execA_loop]
    rcases h2 with ⟨hj, ha⟩ | ⟨x, h3, _, h5, ha⟩
    · simp [VX, hj, okWs, h4, ha, show 1 ≤ ws.length by omega]
    · have r1 := (List.getElem?_eq_some_iff.1 h3).1
      have r2 := intsL_nth h3
      simp [VX, r1, r2, h5, okWs, ha]
  · intro i hi
    obtain ⟨x, h3, _, h5⟩ := h1' i hi
    have r1 := (List.getElem?_eq_some_iff.1 h3).1
    have r2 := intsL_nth h3
    have w2 : IntKind.i64.wrap ((i : Int) + 1) = i + 1 := wrap64 (by omega) (by omega)
    have h3' : ws[i] = x := (List.getElem?_eq_some_iff.1 h3).2
    simp [VX, r1, r2, h5, w2, h3']
theorem okWs_range {ws : List Int} (h : okWs ws = true) : ∀ w ∈ ws, 0 ≤ w ∧ w ≤ 6 := by
  intro w hw
  simp only [okWs, Bool.and_eq_true] at h
  have := List.all_eq_true.1 h.2 w hw
  simp [okWidth] at this
  omega
theorem planWidth_eq (p : Pn) (ws : List Int) : callA C0 40 [.i (.agg p.cells), .i (.isl (intsL ws))] [] = some (.int (p.width ws), []) := by
  rw [callA_eq rfl Tryz.func40 rfl rfl]
  have hv := validWidths_eq ws
  cases h : okWs ws with
  | false => rw [h] at hv; rw [Pn.cells_eq]; simp [hv, Pn.width, h]
  | true =>
    rw [h] at hv
    have hb := widthBelow_eq (okWs_range h) p 8 (by omega)
    rw [show ((8 : Nat) : Int) = 8 from rfl] at hb
    rw [Pn.cells_eq] at hb ⊢
    simp [hv, Pn.width, h, hb]
end Go.Proofs.YteihcffblfdgfaaGreat.P

namespace Go.Proofs.YteihcffblfdgfaaGreat.P
open Go Go.Av
set_option maxRecDepth 4000
set_option maxHeartbeats 2000000
def only (k t : Int) (es : List Ex) (cs : List Int) (ks : List Pn) : Bool := decide (1 ≤ k ∧ k ≤ 8) && (decide ((ks.length : Int) = nKids k) && (decide ((es.length : Int) = if k = 3 then (es.length : Int) else nExprs k) && ((decide (t = 0) || decide (k = 1)) && (decide (cs = []) || decide (k = 8)))))
theorem onlyFields_eq (k t : Int) (es : List Ex) (cs : List Int) (ks : List Pn) : callA C0 92 [.i (.agg [.int k, .int t, .isl (Ex.cellsL es), .isl (intsL cs), .isl (Pn.cellsL ks)])] [] = some (.bool (only k t es cs ks), []) := by
  rw [callA_eq rfl Tryz.func92 rfl rfl]
  rcases partCases k with rfl | rfl | rfl | rfl | rfl | rfl | rfl | rfl | h
  case inr.inr.inr.inr.inr.inr.inr.inr =>
    have h1 : ¬ (1 ≤ k ∧ k ≤ 8) := by omega
    simp [h.1, h.2.1, h.2.2.1, h.2.2.2.1, h.2.2.2.2.1, h.2.2.2.2.2.1, h1, only]
  case inr.inr.inl =>
    by_cases c1 : (ks.length : Int) = 1
    case neg => simp [c1, only]
    by_cases c3 : t = 0
    case neg => simp [c1, c3, only]
    by_cases c5 : cs = [] <;> simp [c1, c3, c5, only, intsL]
  case inl =>
    by_cases c1 : ks = []
    case neg => simp [c1, only]
    by_cases c2 : es = []
    case neg => simp [c1, c2, only]
    by_cases c3 : t = 0 <;> by_cases c5 : cs = [] <;> simp [c1, c2, c3, c5, only, intsL, Ex.cellsL, Pn.cellsL]
  case inr.inl =>
    by_cases c1 : (ks.length : Int) = 1
    case neg => simp [c1, only]
    by_cases c2 : (es.length : Int) = 1
    case neg => simp [c1, c2, only]
    by_cases c3 : t = 0
    case neg => simp [c1, c2, c3, only]
    by_cases c5 : cs = [] <;> simp [c1, c2, c3, c5, only, intsL]
  case inr.inr.inr.inl =>
    by_cases c1 : (ks.length : Int) = 2
    case neg => simp [c1, only]
    by_cases c2 : (es.length : Int) = 1
    case neg => simp [c1, c2, only]
    by_cases c3 : t = 0
    case neg => simp [c1, c2, c3, only]
    by_cases c5 : cs = [] <;> simp [c1, c2, c3, c5, only, intsL]
  case inr.inr.inr.inr.inl =>
    by_cases c1 : (ks.length : Int) = 2
    case neg => simp [c1, only]
    by_cases c2 : (es.length : Int) = 1
    case neg => simp [c1, c2, only]
    by_cases c3 : t = 0
    case neg => simp [c1, c2, c3, only]
    by_cases c5 : cs = [] <;> simp [c1, c2, c3, c5, only, intsL]
  case inr.inr.inr.inr.inr.inl =>
    by_cases c1 : (ks.length : Int) = 2
    case neg => simp [c1, only]
    by_cases c2 : es = []
    case neg => simp [c1, c2, only]
    by_cases c3 : t = 0
    case neg => simp [c1, c2, c3, only]
    by_cases c5 : cs = [] <;> simp [c1, c2, c3, c5, only, intsL, Ex.cellsL]
  case inr.inr.inr.inr.inr.inr.inl =>
    by_cases c1 : (ks.length : Int) = 1
    case neg => simp [c1, only]
    by_cases c2 : es = []
    case neg => simp [c1, c2, only]
    by_cases c3 : t = 0
    case neg => simp [c1, c2, c3, only]
    by_cases c5 : cs = [] <;> simp [c1, c2, c3, c5, only, intsL, Ex.cellsL]
  case inr.inr.inr.inr.inr.inr.inr.inl =>
    by_cases c1 : (ks.length : Int) = 1
    case neg => simp [c1, only]
    by_cases c2 : es = []
    case neg => simp [c1, c2, only]
    by_cases c3 : t = 0
    case neg => simp [c1, c2, c3, only]
    by_cases c5 : cs = [] <;> simp [c1, c2, c3, c5, only, intsL, Ex.cellsL]
theorem pv_ge {cs : List Int} {w : Int} : ∀ {i : Nat}, (∀ k, k < i → ∃ x, (cs.zip (-1 :: cs))[k]? = some x ∧ x ∈ cs.zip (-1 :: cs) ∧ decide (x.2 < x.1 ∧ x.1 < w) = true) → -1 ≤ pv cs i ∧ (i ≠ 0 → 0 ≤ pv cs i)
  | 0, _ => by simp [pv]
  | i + 1, h => by
    obtain ⟨x, h3, _, h4⟩ := h i (by omega)
    obtain ⟨c1, c2⟩ := cols_nth h3
    rw [pv_succ c1]
    have hb : x.2 < x.1 ∧ x.1 < w := by simpa using h4
    have := pv_ge (i := i) fun k hk => h k (by omega)
    omega
def CX (cs : List Int) (w : Int) (i : Nat) : AS :=
  { env := [(0, .i (.isl (intsL cs))), (1, .int w), (4, .bool false), (5, .int i), (9, jk i (.bool true)), (35, jk i (.bool false))], st := [] }
theorem validCols_eq (cs : List Int) (w : Int) (hl : cs.length < 9223372036854775808) (hw : 0 ≤ w ∧ w ≤ 6) : callA C0 95 [.i (.isl (intsL cs)), .int w] [] = some (.bool (colsOk w cs), []) := by
  rw [callA_eq rfl Tryz.func95 rfl rfl]
  have w1 : IntKind.i64.wrap (w - 1) = w - 1 := wrap64 (by omega) (by omega)
  simp
  obtain ⟨j, h1, h2⟩ := upto_bad (fun x : Int × Int => decide (x.2 < x.1 ∧ x.1 < w)) (cs.zip (-1 :: cs))
  rw [loop_to (CX cs w) j (by simp [CX])]
  · rw [execA_loop]
    rcases h2 with ⟨hj, ha⟩ | ⟨x, h3, _, h4, ha⟩
    · rw [cols_len] at hj
      have ha : colsOk w cs = true := ha
      simp [CX, hj, ha]
    · obtain ⟨c1, c2⟩ := cols_nth h3
      have r1 := (List.getElem?_eq_some_iff.1 c1).1
      have r2 := intsL_nth c1
      have hb : ¬ (x.2 < x.1 ∧ x.1 < w) := by simpa using h4
      have ha : colsOk w cs = false := ha
      have hp := pv_ge (i := j) h1
      by_cases hin : 0 ≤ x.1 ∧ x.1 ≤ w - 1
      · have hj : j ≠ 0 := fun h => by subst h; simp [pv] at c2; omega
        obtain ⟨j, rfl⟩ : ∃ i, j = i + 1 := ⟨j - 1, by omega⟩
        have q1 : cs[j]? = some x.2 := by
          have : pv cs (j + 1) = x.2 := c2
          simp only [pv, List.getElem?_cons_succ] at this
          rw [List.getElem?_eq_getElem (by omega)] at this ⊢
          simpa using this
        have q2 := intsL_nth q1
        have w4 : IntKind.i64.wrap ((j : Int) + 1 - 1) = j := by rw [wrap64 (by omega) (by omega)]; omega
        have w5 : IntKind.i64.wrap ((j : Int)) = j := by rw [wrap64 (by omega) (by omega)]
        simp [CX, r1, r2, w1, hin, ha, q2, w4, w5, show (0 : Int) < j + 1 by omega, show x.1 ≤ x.2 by omega, show (0 : Int) ≤ (j : Int) + 1 by omega, show j < cs.length by omega, show ((j : Int) + 1 < cs.length) by omega]
      · simp [CX, r1, r2, w1, hin, ha]
  · intro i hi
    obtain ⟨x, h3, _, h4⟩ := h1 i hi
    obtain ⟨c1, c2⟩ := cols_nth h3
    have r1 := (List.getElem?_eq_some_iff.1 c1).1
    have r2 := intsL_nth c1
    have hb : x.2 < x.1 ∧ x.1 < w := by simpa using h4
    have hp := pv_ge (i := i) fun k hk => h1 k (by omega)
    have hin : 0 ≤ x.1 ∧ x.1 ≤ w - 1 := by omega
    have w2 : IntKind.i64.wrap ((i : Int) + 1) = i + 1 := wrap64 (by omega) (by omega)
    by_cases h0 : i = 0
    · subst h0
      simp [CX, r1, r2, w1, hin, wrap_1]
    · obtain ⟨i, rfl⟩ : ∃ j, i = j + 1 := ⟨i - 1, by omega⟩
      have q1 : cs[i]? = some x.2 := by
        have : pv cs (i + 1) = x.2 := c2
        simp only [pv, List.getElem?_cons_succ] at this
        rw [List.getElem?_eq_getElem (by omega)] at this ⊢
        simpa using this
      have q2 := intsL_nth q1
      have w5 : IntKind.i64.wrap ((i : Int)) = i := by rw [wrap64 (by omega) (by omega)]
      have w2' : IntKind.i64.wrap ((i : Int) + 1 + 1) = i + 1 + 1 := wrap64 (by omega) (by omega)
      simp [CX, r1, r2, w1, hin, q2, w5, w2', show (0 : Int) < i + 1 by omega, show ¬ x.1 ≤ x.2 by omega, show (0 : Int) ≤ (i : Int) + 1 by omega, show i < cs.length by omega, show ((i : Int) + 1 < cs.length) by omega]
def pW (es : List Ex) (w : Int) : Int := if es.all (Ex.ok w) = true ∧ es.length ≤ 6 then (es.length : Int) else 0
def QX (es : List Ex) (w : Int) (i : Nat) : AS :=
  { env := [(0, .i (.isl (Ex.cellsL es))), (1, .int w), (4, .int 0), (5, .int i), (9, jk i (.bool true)), (18, jk i (.bool false)), (21, .junk)], st := [] }
theorem projectWidth_eq (es : List Ex) (w : Int) (hl : es.length < 9223372036854775808) : callA C0 94 [.i (.isl (Ex.cellsL es)), .int w] [] = some (.int (pW es w), []) := by
  rw [callA_eq rfl Tryz.func94 rfl rfl]
  simp
  obtain ⟨j, h1, h2⟩ := upto_bad (Ex.ok w) es
  rw [loop_to (QX es w) j (by simp [QX])]
  · rw [execA_loop]
    rcases h2 with ⟨hj, hall⟩ | ⟨x, h3, _, h5, hall⟩
    · by_cases h6 : es.length ≤ 6
      · have hq : pW es w = es.length := if_pos ⟨hall, h6⟩
        simp [QX, hj, hq, show ¬ (6 : Int) < es.length by omega]
      · have hq : pW es w = 0 := if_neg fun h => h6 h.2
        simp [QX, hj, hq, show (6 : Int) < es.length by omega]
    · have r1 := (List.getElem?_eq_some_iff.1 h3).1
      have r2 := Ex.cellsL_nth h3
      have r3 := sok_eq w x
      rw [h5] at r3
      rw [Ex.cells_eq] at r2 r3
      have hq : pW es w = 0 := if_neg fun h => by rw [hall] at h; simp at h
      simp [QX, r1, r2, r3, hq]
  · intro i hi
    obtain ⟨x, h3, _, h5⟩ := h1 i hi
    have r1 := (List.getElem?_eq_some_iff.1 h3).1
    have r2 := Ex.cellsL_nth h3
    have r3 := sok_eq w x
    rw [h5] at r3
    rw [Ex.cells_eq] at r2 r3
    have w2 : IntKind.i64.wrap ((i : Int) + 1) = i + 1 := wrap64 (by omega) (by omega)
    simp [QX, r1, r2, r3, w2]
def UX (ws : List Int) (i : Nat) : AS :=
  { env := [(0, .i (.isl (intsL ws))), (2, .bool false), (3, .int i), (7, jk i (.bool true)), (15, jk i (.bool false))], st := [] }
theorem svalidWidths_eq (ws : List Int) (hl : ws.length < 9223372036854775808) : callA C0 58 [.i (.isl (intsL ws))] [] = some (.bool (okWs ws), []) := by
  rw [callA_eq rfl Tryz.func58 rfl rfl]
  simp
  obtain ⟨j, h1', h2⟩ := upto_bad okWidth ws
  rw [loop_to (UX ws) j (by simp [UX])]
  · rw [execA_loop]
    rcases h2 with ⟨hj, ha⟩ | ⟨x, h3, _, h5, ha⟩
    · by_cases h4 : 1 ≤ ws.length ∧ ws.length ≤ 4
      · simp [UX, hj, okWs, h4, ha, show (1 : Int) ≤ ws.length ∧ (ws.length : Int) ≤ 4 by omega]
      · simp [UX, hj, okWs, h4, ha, show ¬ ((1 : Int) ≤ ws.length ∧ (ws.length : Int) ≤ 4) by omega]
    · have r1 := (List.getElem?_eq_some_iff.1 h3).1
      have r2 := intsL_nth h3
      have h5 : ¬ (1 ≤ x ∧ x ≤ 6) := by simpa [okWidth] using h5
      simp [UX, r1, r2, h5, okWs, ha]
  · intro i hi
    obtain ⟨x, h3, _, h5⟩ := h1' i hi
    have r1 := (List.getElem?_eq_some_iff.1 h3).1
    have r2 := intsL_nth h3
    have h5 : 1 ≤ x ∧ x ≤ 6 := by simpa [okWidth] using h5
    have w2 : IntKind.i64.wrap ((i : Int) + 1) = i + 1 := wrap64 (by omega) (by omega)
    simp [UX, r1, r2, h5, w2]
end Go.Proofs.YteihcffblfdgfaaGreat.P

namespace Go.Proofs.YteihcffblfdgfaaGreat.P
open Go Go.Av
set_option maxRecDepth 4000
set_option maxHeartbeats 2000000
theorem splan_no {ws : List Int} {k t : Int} {es : List Ex} {cs : List Int} {ks : List Pn} {lv : Nat} (h : ¬ (only k t es cs ks = true ∧ (ks = [] ∨ lv ≠ 0))) : callA C0 59 [.i (.agg [.int k, .int t, .isl (Ex.cellsL es), .isl (intsL cs), .isl (Pn.cellsL ks)]), .i (.isl (intsL ws)), .int lv] [] = some (.int 0, []) := by
  rw [callA_eq rfl Tryz.func59 rfl rfl]
  have ho := onlyFields_eq k t es cs ks
  cases hq : only k t es cs ks with
  | false => rw [hq] at ho; simp [ho]
  | true =>
    rw [hq] at ho
    by_cases hk : ks = []
    · exact absurd ⟨hq, .inl hk⟩ h
    by_cases hl : lv = 0
    · have : 0 < ks.length := List.length_pos_iff.2 hk
      subst hl; simp [ho, hk, this]
    · exact absurd ⟨hq, .inr hl⟩ h
theorem splan_yes1 {ws : List Int} {lv : Nat} {t : Int} (ho : only 1 t [] [] [] = true) (hw : ws.length < 1000000000) : callA C0 59 [.i (.agg [.int 1, .int t, .isl (Ex.cellsL []), .isl (intsL []), .isl (Pn.cellsL [])]), .i (.isl (intsL ws)), .int lv] [] = some (.int (if 0 ≤ t then (ws[t.toNat]?).getD 0 else 0), []) := by
  rw [callA_eq rfl Tryz.func59 rfl rfl]
  have hf := onlyFields_eq 1 t [] [] []
  rw [ho] at hf
  have w1 : IntKind.i64.wrap ((ws.length : Int) - 1) = ws.length - 1 := wrap64 (by omega) (by omega)
  simp only [Ex.cellsL, Pn.cellsL, intsL] at hf ⊢
  simp [hf, w1]
  rw [execA_loop]
  by_cases h0 : 0 ≤ t
  case neg => simp [h0, w1]
  cases hx : ws[t.toNat]? with
  | none =>
    have := List.getElem?_eq_none_iff.1 hx
    simp [h0, w1, show ¬ t ≤ ws.length - 1 by omega]
  | some x =>
    have r1 := (List.getElem?_eq_some_iff.1 hx).1
    have r2 := intsL_nth hx
    simp [h0, w1, show t ≤ ws.length - 1 by omega, show t < ws.length by omega, r2]
theorem splan_yes2 {ws : List Int} {lv : Nat} {a : Pn} {va : Int} {e : Ex} (ho : only 2 0 [e] [] [a] = true) (hl : lv ≠ 0) (hl8 : lv ≤ 8) (ha : callA C0 59 [.i (.agg a.cells), .i (.isl (intsL ws)), .int (lv - 1 : Nat)] [] = some (.int va, [])) (ra : 0 ≤ va ∧ va ≤ 6) : callA C0 59 [.i (.agg [.int 2, .int 0, .isl (Ex.cellsL [e]), .isl (intsL []), .isl (Pn.cellsL [a])]), .i (.isl (intsL ws)), .int lv] [] = some (.int (if va = 0 then 0 else if e.ok va = true then va else 0), []) := by
  rw [callA_eq rfl Tryz.func59 rfl rfl]
  have hf := onlyFields_eq 2 0 [e] [] [a]
  rw [ho] at hf
  have c3' : ¬ (lv : Int) = 0 := by omega
  have w1 : IntKind.i64.wrap ((lv : Int) - 1) = (lv - 1 : Nat) := by rw [wrap64 (by omega) (by omega)]; omega
  have w2 : IntKind.i64.wrap (1 : Int) = 1 := wrap_1
  have w3 : IntKind.i64.wrap (2 : Int) = 2 := wrap64 (by omega) (by omega)
  have r0 : nthE [a.cells] 0 = some a.cells := rfl
  simp only [Pn.cellsL, intsL, Ex.cellsL] at hf ⊢
  have q0 : nthE [e.cells] 0 = some e.cells := rfl
  have qe := sok_eq (va) e
  rw [Ex.cells_eq e] at q0 qe hf ⊢
  rw [Pn.cells_eq a] at ha r0 hf ⊢
  simp [hf, hl, c3']
  rw [execA_loop]
  by_cases z1 : va = 0
  case pos => simp [w1, ha, r0, z1]
  simp [w1, w2, ha, r0, z1]
  rw [execA_loop]
  cases hv : e.ok va <;> rw [hv] at qe <;> simp [z1, q0, qe]
theorem splan_yes3 {ws : List Int} {lv : Nat} {a : Pn} {va : Int} {es : List Ex} (ho : only 3 0 es [] [a] = true) (hl : lv ≠ 0) (hl8 : lv ≤ 8) (ha : callA C0 59 [.i (.agg a.cells), .i (.isl (intsL ws)), .int (lv - 1 : Nat)] [] = some (.int va, [])) (ra : 0 ≤ va ∧ va ≤ 6) (he : es.length < 9223372036854775808) : callA C0 59 [.i (.agg [.int 3, .int 0, .isl (Ex.cellsL es), .isl (intsL []), .isl (Pn.cellsL [a])]), .i (.isl (intsL ws)), .int lv] [] = some (.int (if va = 0 then 0 else pW es va), []) := by
  rw [callA_eq rfl Tryz.func59 rfl rfl]
  have hf := onlyFields_eq 3 0 es [] [a]
  rw [ho] at hf
  have c3' : ¬ (lv : Int) = 0 := by omega
  have w1 : IntKind.i64.wrap ((lv : Int) - 1) = (lv - 1 : Nat) := by rw [wrap64 (by omega) (by omega)]; omega
  have w2 : IntKind.i64.wrap (1 : Int) = 1 := wrap_1
  have w3 : IntKind.i64.wrap (2 : Int) = 2 := wrap64 (by omega) (by omega)
  have r0 : nthE [a.cells] 0 = some a.cells := rfl
  simp only [Pn.cellsL, intsL, Ex.cellsL] at hf ⊢
  rw [Pn.cells_eq a] at ha r0 hf ⊢
  simp [hf, hl, c3']
  rw [execA_loop]
  by_cases z1 : va = 0
  case pos => simp [w1, ha, r0, z1]
  simp [w1, w2, ha, r0, z1]
  rw [execA_loop]
  have hp := projectWidth_eq es va he
  simp [z1, hp]
theorem splan_yes4 {ws : List Int} {lv : Nat} {a : Pn} {va : Int} {b : Pn} {vb : Int} {e : Ex} (ho : only 4 0 [e] [] [a, b] = true) (hl : lv ≠ 0) (hl8 : lv ≤ 8) (ha : callA C0 59 [.i (.agg a.cells), .i (.isl (intsL ws)), .int (lv - 1 : Nat)] [] = some (.int va, [])) (ra : 0 ≤ va ∧ va ≤ 6) (hb : callA C0 59 [.i (.agg b.cells), .i (.isl (intsL ws)), .int (lv - 1 : Nat)] [] = some (.int vb, [])) (rb : 0 ≤ vb ∧ vb ≤ 6) : callA C0 59 [.i (.agg [.int 4, .int 0, .isl (Ex.cellsL [e]), .isl (intsL []), .isl (Pn.cellsL [a, b])]), .i (.isl (intsL ws)), .int lv] [] = some (.int (if va = 0 ∨ vb = 0 then 0 else if va + vb ≤ 6 ∧ e.ok (va + vb) = true then va + vb else 0), []) := by
  rw [callA_eq rfl Tryz.func59 rfl rfl]
  have hf := onlyFields_eq 4 0 [e] [] [a, b]
  rw [ho] at hf
  have c3' : ¬ (lv : Int) = 0 := by omega
  have w1 : IntKind.i64.wrap ((lv : Int) - 1) = (lv - 1 : Nat) := by rw [wrap64 (by omega) (by omega)]; omega
  have w2 : IntKind.i64.wrap (1 : Int) = 1 := wrap_1
  have w3 : IntKind.i64.wrap (2 : Int) = 2 := wrap64 (by omega) (by omega)
  have r0 : nthE [a.cells, b.cells] 0 = some a.cells := rfl
  have r1 : nthE [a.cells, b.cells] 1 = some b.cells := rfl
  simp only [Pn.cellsL, intsL, Ex.cellsL] at hf ⊢
  have q0 : nthE [e.cells] 0 = some e.cells := rfl
  have qe := sok_eq (va + vb) e
  rw [Ex.cells_eq e] at q0 qe hf ⊢
  rw [Pn.cells_eq a] at ha r0 hf ⊢
  rw [Pn.cells_eq a] at r1
  rw [Pn.cells_eq b] at hb r0 r1 hf ⊢
  simp [hf, hl, c3']
  rw [execA_loop]
  by_cases z1 : va = 0
  case pos => simp [w1, ha, r0, z1]
  simp [w1, w2, ha, r0, z1]
  rw [execA_loop]
  by_cases z2 : vb = 0
  case pos => simp [w1, hb, r1, z2]
  simp [w1, hb, r1, z1, z2, w2, w3]
  rw [execA_loop]
  have w4 : IntKind.i64.wrap (va + vb) = va + vb := wrap64 (by omega) (by omega)
  by_cases h6 : va + vb ≤ 6
  · cases hv : e.ok (va + vb) <;> rw [hv] at qe <;> simp [z1, z2, q0, qe, w4, h6]
  · simp [z1, z2, w4, h6]
theorem splan_yes5 {ws : List Int} {lv : Nat} {a : Pn} {va : Int} {b : Pn} {vb : Int} {e : Ex} (ho : only 5 0 [e] [] [a, b] = true) (hl : lv ≠ 0) (hl8 : lv ≤ 8) (ha : callA C0 59 [.i (.agg a.cells), .i (.isl (intsL ws)), .int (lv - 1 : Nat)] [] = some (.int va, [])) (ra : 0 ≤ va ∧ va ≤ 6) (hb : callA C0 59 [.i (.agg b.cells), .i (.isl (intsL ws)), .int (lv - 1 : Nat)] [] = some (.int vb, [])) (rb : 0 ≤ vb ∧ vb ≤ 6) : callA C0 59 [.i (.agg [.int 5, .int 0, .isl (Ex.cellsL [e]), .isl (intsL []), .isl (Pn.cellsL [a, b])]), .i (.isl (intsL ws)), .int lv] [] = some (.int (if va = 0 ∨ vb = 0 then 0 else if va + vb ≤ 6 ∧ e.ok (va + vb) = true then va + vb else 0), []) := by
  rw [callA_eq rfl Tryz.func59 rfl rfl]
  have hf := onlyFields_eq 5 0 [e] [] [a, b]
  rw [ho] at hf
  have c3' : ¬ (lv : Int) = 0 := by omega
  have w1 : IntKind.i64.wrap ((lv : Int) - 1) = (lv - 1 : Nat) := by rw [wrap64 (by omega) (by omega)]; omega
  have w2 : IntKind.i64.wrap (1 : Int) = 1 := wrap_1
  have w3 : IntKind.i64.wrap (2 : Int) = 2 := wrap64 (by omega) (by omega)
  have r0 : nthE [a.cells, b.cells] 0 = some a.cells := rfl
  have r1 : nthE [a.cells, b.cells] 1 = some b.cells := rfl
  simp only [Pn.cellsL, intsL, Ex.cellsL] at hf ⊢
  have q0 : nthE [e.cells] 0 = some e.cells := rfl
  have qe := sok_eq (va + vb) e
  rw [Ex.cells_eq e] at q0 qe hf ⊢
  rw [Pn.cells_eq a] at ha r0 hf ⊢
  rw [Pn.cells_eq a] at r1
  rw [Pn.cells_eq b] at hb r0 r1 hf ⊢
  simp [hf, hl, c3']
  rw [execA_loop]
  by_cases z1 : va = 0
  case pos => simp [w1, ha, r0, z1]
  simp [w1, w2, ha, r0, z1]
  rw [execA_loop]
  by_cases z2 : vb = 0
  case pos => simp [w1, hb, r1, z2]
  simp [w1, hb, r1, z1, z2, w2, w3]
  rw [execA_loop]
  have w4 : IntKind.i64.wrap (va + vb) = va + vb := wrap64 (by omega) (by omega)
  by_cases h6 : va + vb ≤ 6
  · cases hv : e.ok (va + vb) <;> rw [hv] at qe <;> simp [z1, z2, q0, qe, w4, h6]
  · simp [z1, z2, w4, h6]
theorem splan_yes6 {ws : List Int} {lv : Nat} {a : Pn} {va : Int} {b : Pn} {vb : Int} (ho : only 6 0 [] [] [a, b] = true) (hl : lv ≠ 0) (hl8 : lv ≤ 8) (ha : callA C0 59 [.i (.agg a.cells), .i (.isl (intsL ws)), .int (lv - 1 : Nat)] [] = some (.int va, [])) (ra : 0 ≤ va ∧ va ≤ 6) (hb : callA C0 59 [.i (.agg b.cells), .i (.isl (intsL ws)), .int (lv - 1 : Nat)] [] = some (.int vb, [])) (rb : 0 ≤ vb ∧ vb ≤ 6) : callA C0 59 [.i (.agg [.int 6, .int 0, .isl (Ex.cellsL []), .isl (intsL []), .isl (Pn.cellsL [a, b])]), .i (.isl (intsL ws)), .int lv] [] = some (.int (if va = 0 ∨ vb = 0 then 0 else if va = vb then va else 0), []) := by
  rw [callA_eq rfl Tryz.func59 rfl rfl]
  have hf := onlyFields_eq 6 0 [] [] [a, b]
  rw [ho] at hf
  have c3' : ¬ (lv : Int) = 0 := by omega
  have w1 : IntKind.i64.wrap ((lv : Int) - 1) = (lv - 1 : Nat) := by rw [wrap64 (by omega) (by omega)]; omega
  have w2 : IntKind.i64.wrap (1 : Int) = 1 := wrap_1
  have w3 : IntKind.i64.wrap (2 : Int) = 2 := wrap64 (by omega) (by omega)
  have r0 : nthE [a.cells, b.cells] 0 = some a.cells := rfl
  have r1 : nthE [a.cells, b.cells] 1 = some b.cells := rfl
  simp only [Pn.cellsL, intsL, Ex.cellsL] at hf ⊢
  rw [Pn.cells_eq a] at ha r0 hf ⊢
  rw [Pn.cells_eq a] at r1
  rw [Pn.cells_eq b] at hb r0 r1 hf ⊢
  simp [hf, hl, c3']
  rw [execA_loop]
  by_cases z1 : va = 0
  case pos => simp [w1, ha, r0, z1]
  simp [w1, w2, ha, r0, z1]
  rw [execA_loop]
  by_cases z2 : vb = 0
  case pos => simp [w1, hb, r1, z2]
  simp [w1, hb, r1, z1, z2, w2, w3]
  rw [execA_loop]
  by_cases h6 : va = vb <;> simp [z1, z2, h6]
theorem splan_yes7 {ws : List Int} {lv : Nat} {a : Pn} {va : Int} (ho : only 7 0 [] [] [a] = true) (hl : lv ≠ 0) (hl8 : lv ≤ 8) (ha : callA C0 59 [.i (.agg a.cells), .i (.isl (intsL ws)), .int (lv - 1 : Nat)] [] = some (.int va, [])) (ra : 0 ≤ va ∧ va ≤ 6) : callA C0 59 [.i (.agg [.int 7, .int 0, .isl (Ex.cellsL []), .isl (intsL []), .isl (Pn.cellsL [a])]), .i (.isl (intsL ws)), .int lv] [] = some (.int (if va = 0 then 0 else va), []) := by
  rw [callA_eq rfl Tryz.func59 rfl rfl]
  have hf := onlyFields_eq 7 0 [] [] [a]
  rw [ho] at hf
  have c3' : ¬ (lv : Int) = 0 := by omega
  have w1 : IntKind.i64.wrap ((lv : Int) - 1) = (lv - 1 : Nat) := by rw [wrap64 (by omega) (by omega)]; omega
  have w2 : IntKind.i64.wrap (1 : Int) = 1 := wrap_1
  have w3 : IntKind.i64.wrap (2 : Int) = 2 := wrap64 (by omega) (by omega)
  have r0 : nthE [a.cells] 0 = some a.cells := rfl
  simp only [Pn.cellsL, intsL, Ex.cellsL] at hf ⊢
  rw [Pn.cells_eq a] at ha r0 hf ⊢
  simp [hf, hl, c3']
  rw [execA_loop]
  by_cases z1 : va = 0
  case pos => simp [w1, ha, r0, z1]
  simp [w1, w2, ha, r0, z1]
  rw [execA_loop]
  simp [z1]
theorem splan_yes8 {ws : List Int} {lv : Nat} {a : Pn} {va : Int} {cs : List Int} (ho : only 8 0 [] cs [a] = true) (hl : lv ≠ 0) (hl8 : lv ≤ 8) (ha : callA C0 59 [.i (.agg a.cells), .i (.isl (intsL ws)), .int (lv - 1 : Nat)] [] = some (.int va, [])) (ra : 0 ≤ va ∧ va ≤ 6) (hc : cs.length < 9223372036854775808) : callA C0 59 [.i (.agg [.int 8, .int 0, .isl (Ex.cellsL []), .isl (intsL cs), .isl (Pn.cellsL [a])]), .i (.isl (intsL ws)), .int lv] [] = some (.int (if va = 0 then 0 else if cs.length < 6 ∧ colsOk va cs = true then (cs.length : Int) + 1 else 0), []) := by
  rw [callA_eq rfl Tryz.func59 rfl rfl]
  have hf := onlyFields_eq 8 0 [] cs [a]
  rw [ho] at hf
  have c3' : ¬ (lv : Int) = 0 := by omega
  have w1 : IntKind.i64.wrap ((lv : Int) - 1) = (lv - 1 : Nat) := by rw [wrap64 (by omega) (by omega)]; omega
  have w2 : IntKind.i64.wrap (1 : Int) = 1 := wrap_1
  have w3 : IntKind.i64.wrap (2 : Int) = 2 := wrap64 (by omega) (by omega)
  have r0 : nthE [a.cells] 0 = some a.cells := rfl
  simp only [Pn.cellsL, intsL, Ex.cellsL] at hf ⊢
  rw [Pn.cells_eq a] at ha r0 hf ⊢
  simp [hf, hl, c3']
  rw [execA_loop]
  by_cases z1 : va = 0
  case pos => simp [w1, ha, r0, z1]
  simp [w1, w2, ha, r0, z1]
  rw [execA_loop]
  have hp := validCols_eq cs va hc ra
  by_cases h6 : cs.length < 6
  · have w5 : IntKind.i64.wrap ((cs.length : Int) + 1) = cs.length + 1 := wrap64 (by omega) (by omega)
    cases hv : colsOk va cs <;> rw [hv] at hp <;> simp [z1, hp, h6, show (cs.length : Int) < 6 by omega, w5]
  · cases hv : colsOk va cs <;> rw [hv] at hp <;> simp [z1, hp, h6, show ¬ (cs.length : Int) < 6 by omega]
end Go.Proofs.YteihcffblfdgfaaGreat.P

namespace Go.Proofs.YteihcffblfdgfaaGreat.P
open Go Go.Av
set_option maxRecDepth 4000
set_option maxHeartbeats 2000000
theorem only_iff (k t : Int) (es : List Ex) (cs : List Int) (ks : List Pn) : only k t es cs ks = true ↔ ((1 ≤ k ∧ k ≤ 8) ∧ (ks.length : Int) = nKids k ∧ ((es.length : Int) = if k = 3 then (es.length : Int) else nExprs k) ∧ (t = 0 ∨ k = 1) ∧ (cs = [] ∨ k = 8)) := by
  unfold only
  simp only [Bool.and_eq_true, Bool.or_eq_true, decide_eq_true_eq]
theorem splanWidth_eq {ws : List Int} (hw : ∀ w ∈ ws, 0 ≤ w ∧ w ≤ 6) (hwl : ws.length < 1000000000) : ∀ (p : Pn), p.lim → ∀ (lv : Nat), lv ≤ 8 → callA C0 59 [.i (.agg p.cells), .i (.isl (intsL ws)), .int lv] [] = some (.int (p.wd ws lv), []) := by
  intro p
  induction p using Pn.ind with
  | h k t es cs ks ih =>
    intro hp lv hlv
    have hp := (Pn.lim_iff _).1 hp
    simp only [Pn.exprs_mk, Pn.cols_mk, Pn.kids_mk] at hp
    obtain ⟨he, hc, -, hks⟩ := hp
    rw [Pn.cells_mk]
    have hr := fun a => Pn.wd_range hw a (lv - 1)
    by_cases ho : only k t es cs ks = true ∧ (ks = [] ∨ lv ≠ 0)
    case neg =>
      rw [splan_no ho, Pn.wd_no]
      intro hh
      apply ho
      refine ⟨?_, hh.2⟩
      have h := (headOk_iff k t es cs ks).1 hh.1
      rw [only_iff]
      refine ⟨?_, h.1, ?_, h.2.2.1.symm, h.2.2.2.symm⟩
      · rcases nKids_range k with h1 | h1 | h1 | h1 <;> omega
      · by_cases h3 : k = 3
        · rw [if_pos h3]
        · have := h.2.1; rw [if_neg fun h => h3 h.1] at this; rw [if_neg h3]; exact this
    have hoo := ho.1
    have hq := (only_iff k t es cs ks).1 ho.1
    obtain ⟨h0, h1, h2, h3, h4⟩ := hq
    have h5 := ho.2
    by_cases hd : Pn.headOk (.mk k t es cs ks) = true
    case neg =>
      rw [Pn.wd_no fun h => hd h.1]
      have hk3 : k = 3 ∧ ¬ okWidth es.length = true ∧ (es.length : Int) ≠ 1 := by
        by_cases hk : k = 3
        · refine ⟨hk, ?_, ?_⟩
          · intro hv
            exact hd ((headOk_iff k t es cs ks).2 ⟨h1, by rw [if_pos ⟨hk, hv⟩], h3.symm, h4.symm⟩)
          · intro hv
            have : okWidth es.length = true := by rw [hv]; decide
            exact hd ((headOk_iff k t es cs ks).2 ⟨h1, by rw [if_pos ⟨hk, this⟩], h3.symm, h4.symm⟩)
        · exact absurd ((headOk_iff k t es cs ks).2 ⟨h1, by rw [if_neg fun h => hk h.1]; rwa [if_neg hk] at h2, h3.symm, h4.symm⟩) hd
      obtain ⟨rfl, hv, hv1⟩ := hk3
      obtain ⟨a, rfl⟩ := len_one (by simpa using h1)
      obtain rfl : cs = [] := by simpa using h4
      obtain rfl : t = 0 := by simpa using h3
      have hl : lv ≠ 0 := by simpa using h5
      rw [splan_yes3 hoo hl hlv (ih a (by simp) (hks a (by simp)) (lv - 1) (by omega)) (hr a) he]
      have : pW es (a.wd ws (lv - 1)) = 0 := by
        unfold pW
        split
        · rename_i h
          have : ¬ (1 ≤ (es.length : Int) ∧ (es.length : Int) ≤ 6) := by simpa [okWidth] using hv
          omega
        · rfl
      simp [this]
    have hx := Pn.wd_eq ws lv (.mk k t es cs ks)
    rw [if_pos (by simpa using (⟨hd, h5⟩ : _ ∧ _))] at hx
    simp only [Pn.kind_mk, Pn.table_mk, Pn.exprs_mk, Pn.cols_mk, Pn.kids_mk] at hx
    rw [hx]
    rcases partCases k with rfl | rfl | rfl | rfl | rfl | rfl | rfl | rfl | h
    · obtain rfl := len_zero (by simpa using h1)
      obtain rfl : es = [] := len_zero (by simpa using h2)
      obtain rfl : cs = [] := by simpa using h4
      exact splan_yes1 hoo hwl
    · obtain ⟨a, rfl⟩ := len_one (by simpa using h1)
      obtain ⟨e, rfl⟩ := len_one (by simpa using h2)
      obtain rfl : cs = [] := by simpa using h4
      obtain rfl : t = 0 := by simpa using h3
      have hl : lv ≠ 0 := by simpa using h5
      rw [splan_yes2 hoo hl hlv (ih a (by simp) (hks a (by simp)) (lv - 1) (by omega)) (hr a)]
      by_cases z : a.wd ws (lv - 1) = 0 <;> simp [z, wdOver]
    · obtain ⟨a, rfl⟩ := len_one (by simpa using h1)
      obtain rfl : cs = [] := by simpa using h4
      obtain rfl : t = 0 := by simpa using h3
      have hl : lv ≠ 0 := by simpa using h5
      rw [splan_yes3 hoo hl hlv (ih a (by simp) (hks a (by simp)) (lv - 1) (by omega)) (hr a) he]
      have h6 := Pn.headOk_exprs hd
      simp only [Pn.exprs_mk] at h6
      by_cases z : a.wd ws (lv - 1) = 0 <;> simp [z, wdOver, pW, h6]
    · obtain ⟨a, b, rfl⟩ := len_two (by simpa using h1)
      obtain ⟨e, rfl⟩ := len_one (by simpa using h2)
      obtain rfl : cs = [] := by simpa using h4
      obtain rfl : t = 0 := by simpa using h3
      have hl : lv ≠ 0 := by simpa using h5
      rw [splan_yes4 hoo hl hlv (ih a (by simp) (hks a (by simp)) (lv - 1) (by omega)) (hr a) (ih b (by simp) (hks b (by simp)) (lv - 1) (by omega)) (hr b)]
      by_cases z : a.wd ws (lv - 1) = 0 <;> by_cases z2 : b.wd ws (lv - 1) = 0 <;> simp [z, z2, wdOver]
    · obtain ⟨a, b, rfl⟩ := len_two (by simpa using h1)
      obtain ⟨e, rfl⟩ := len_one (by simpa using h2)
      obtain rfl : cs = [] := by simpa using h4
      obtain rfl : t = 0 := by simpa using h3
      have hl : lv ≠ 0 := by simpa using h5
      rw [splan_yes5 hoo hl hlv (ih a (by simp) (hks a (by simp)) (lv - 1) (by omega)) (hr a) (ih b (by simp) (hks b (by simp)) (lv - 1) (by omega)) (hr b)]
      by_cases z : a.wd ws (lv - 1) = 0 <;> by_cases z2 : b.wd ws (lv - 1) = 0 <;> simp [z, z2, wdOver]
    · obtain ⟨a, b, rfl⟩ := len_two (by simpa using h1)
      obtain rfl : es = [] := len_zero (by simpa using h2)
      obtain rfl : cs = [] := by simpa using h4
      obtain rfl : t = 0 := by simpa using h3
      have hl : lv ≠ 0 := by simpa using h5
      rw [splan_yes6 hoo hl hlv (ih a (by simp) (hks a (by simp)) (lv - 1) (by omega)) (hr a) (ih b (by simp) (hks b (by simp)) (lv - 1) (by omega)) (hr b)]
      by_cases z : a.wd ws (lv - 1) = 0 <;> by_cases z2 : b.wd ws (lv - 1) = 0 <;> simp [z, z2, wdOver]
    · obtain ⟨a, rfl⟩ := len_one (by simpa using h1)
      obtain rfl : es = [] := len_zero (by simpa using h2)
      obtain rfl : cs = [] := by simpa using h4
      obtain rfl : t = 0 := by simpa using h3
      have hl : lv ≠ 0 := by simpa using h5
      rw [splan_yes7 hoo hl hlv (ih a (by simp) (hks a (by simp)) (lv - 1) (by omega)) (hr a)]
      by_cases z : a.wd ws (lv - 1) = 0 <;> simp [z, wdOver]
    · obtain ⟨a, rfl⟩ := len_one (by simpa using h1)
      obtain rfl : es = [] := len_zero (by simpa using h2)
      obtain rfl : t = 0 := by simpa using h3
      have hl : lv ≠ 0 := by simpa using h5
      rw [splan_yes8 hoo hl hlv (ih a (by simp) (hks a (by simp)) (lv - 1) (by omega)) (hr a) hc]
      by_cases z : a.wd ws (lv - 1) = 0 <;> simp [z, wdOver]
    · omega
theorem widthOf_eq (p : Pn) (hp : p.lim) (ws : List Int) (hl : ws.length < 9223372036854775808) : callA C0 35 [.i (.agg p.cells), .i (.isl (intsL ws))] [] = some (.int (p.width ws), []) := by
  rw [callA_eq rfl Tryz.func35 rfl rfl]
  have hv := svalidWidths_eq ws hl
  cases h : okWs ws with
  | false => rw [h] at hv; rw [Pn.cells_eq]; simp [hv, Pn.width, h]
  | true =>
    rw [h] at hv
    have h4 : ws.length ≤ 4 := by simp [okWs] at h; omega
    have hb := splanWidth_eq (okWs_range h) (by omega) p hp 8 (by omega)
    rw [show ((8 : Nat) : Int) = 8 from rfl] at hb
    rw [Pn.cells_eq] at hb ⊢
    simp [hv, Pn.width, h, hb]
end Go.Proofs.YteihcffblfdgfaaGreat.P

namespace Go.Proofs.YteihcffblfdgfaaGreat.P
open Go Go.Av
set_option maxRecDepth 4000
set_option maxHeartbeats 2000000
def IX (l m : List Int) (i : Nat) : AS :=
  { env := [(0, .i (.isl (intsL l))), (1, .i (.isl (intsL m))), (4, .bool false), (5, .int i), (10, .bool false), (14, jk i (.bool true)), (25, jk i (.bool false))], st := [] }
theorem equalInts_eq {l m : List Int} (hl : l.length < 9223372036854775808) : callA C0 20 [.i (.isl (intsL l)), .i (.isl (intsL m))] [] = some (.bool (l == m), []) := by
  rw [callA_eq rfl Tryz.func20 rfl rfl]
  by_cases hlm : l.length = m.length
  case neg =>
    have : (l == m) = false := by simp; intro h; rw [h] at hlm; exact hlm rfl
    simp [show ¬ (l.length : Int) = m.length by omega, this]
  obtain ⟨j, h1, h2⟩ := ints_upto l m hlm
  simp [hlm]
  rw [loop_to (IX l m) j (by simp [IX])]
  · rw [execA_loop]
    rcases h2 with ⟨hj, ha⟩ | ⟨a, b, k1, k2, k3, ha⟩
    · simp [IX, hj, hlm]
      exact (beq_iff_eq.1 ha)
    · have r1 := (List.getElem?_eq_some_iff.1 k1).1
      have s1 := intsL_nth k1
      have s2 := intsL_nth k2
      have ha := beq_eq_false_iff_ne.1 ha
      have r3 := (List.getElem?_eq_some_iff.1 k2).1
      simp [IX, r1, r3, s1, s2, k3, ha]
  · intro i hi
    obtain ⟨a, k1, k2⟩ := h1 i hi
    have r1 := (List.getElem?_eq_some_iff.1 k1).1
    have s1 := intsL_nth k1
    have s2 := intsL_nth k2
    have w2 : IntKind.i64.wrap ((i : Int) + 1) = i + 1 := wrap64 (by omega) (by omega)
    have r3 := (List.getElem?_eq_some_iff.1 k2).1
    simp [IX, r1, r3, s1, s2, w2]
theorem equalLists_eq {l m : List Ex} (hl : l.length < 1000000000) (ht : ∀ a ∈ l, a.thin) : callA C0 26 [.i (.isl (Ex.cellsL l)), .i (.isl (Ex.cellsL m))] [] = some (.bool (Ex.eqbL l m), []) :=
  eqL_step hl fun a ha b => equalExprs_eq a (ht a ha) b
def PX (p q : Pn) (i : Nat) : AS :=
  { env := [(0, .i (.agg [.int p.kind, .int p.table, .isl (Ex.cellsL p.exprs), .isl (intsL p.cols), .isl (Pn.cellsL p.kids)])), (1, .i (.agg [.int q.kind, .int q.table, .isl (Ex.cellsL q.exprs), .isl (intsL q.cols), .isl (Pn.cellsL q.kids)])), (2, .own 0 0), (3, .own 1 0), (4, .bool false), (5, .int i), (42, .bool false), (47, jk i (.bool true)), (61, jk i (.bool false))],
    st := [some (.box [.int p.kind, .int p.table, .i (.isl (Ex.cellsL p.exprs)), .i (.isl (intsL p.cols)), .i (.isl (Pn.cellsL p.kids))]), some (.box [.int q.kind, .int q.table, .i (.isl (Ex.cellsL q.exprs)), .i (.isl (intsL q.cols)), .i (.isl (Pn.cellsL q.kids))])] }
theorem equalPlans_step {p q : Pn} (hp : p.thin) (ih : ∀ a ∈ p.kids, ∀ b, callA C0 24 [.i (.agg a.cells), .i (.agg b.cells)] [] = some (.bool (a.eqb b), [])) :
    callA C0 24 [.i (.agg p.cells), .i (.agg q.cells)] [] = some (.bool (p.eqb q), []) := by
  have ht := (Pn.thin_iff _).1 hp
  obtain ⟨t1, t2, t3, t4, -⟩ := ht
  have q1 := equalLists_eq (m := q.exprs) t1 t2
  have q2 := equalInts_eq (l := p.cols) (m := q.cols) (by omega)
  rw [callA_eq rfl Tryz.func24 rfl rfl, Pn.cells_eq, Pn.cells_eq, Pn.eqb_def]
  by_cases h1 : p.kind = q.kind
  case neg => simp [h1]
  by_cases h2 : p.table = q.table
  case neg => simp [h1, h2]
  cases h3 : Ex.eqbL p.exprs q.exprs with
  | false => rw [h3] at q1; simp [h1, h2, q1]
  | true =>
  rw [h3] at q1
  by_cases h4 : p.cols = q.cols
  case neg =>
    have hb : (p.cols == q.cols) = false := by simpa using h4
    rw [hb] at q2; simp [h1, h2, q1, q2, h4]
  have hb : (p.cols == q.cols) = true := by simpa using h4
  rw [hb, h4] at q2
  by_cases h5 : p.kids.length = q.kids.length
  case neg => simp [h1, h2, q1, q2, h4, show ¬ (p.kids.length : Int) = q.kids.length by omega, Pn.eqbL_len _ _ h5]
  obtain ⟨j, u1, u2⟩ := Pn.eqbL_upto _ _ h5
  simp [h1, h2, h4, q1, q2, h5]
  rw [loop_to (PX p q) j (by simp [PX, h1, h2, h4])]
  · rw [execA_loop]
    rcases u2 with ⟨hj, ha⟩ | ⟨a, b, k1, k2, k3, k4, ha⟩
    · simp [PX, hj, h5, ha]
    · have r1 := (List.getElem?_eq_some_iff.1 k1).1
      have r3 := (List.getElem?_eq_some_iff.1 k2).1
      have s1 := Pn.cellsL_nth k1
      have s2 := Pn.cellsL_nth k2
      have hc := ih a k3 b
      rw [Pn.cells_eq] at s1 s2
      rw [Pn.cells_eq, Pn.cells_eq] at hc
      simp [PX, r1, r3, s1, s2, ha, hc, k4]
  · intro i hi
    obtain ⟨a, b, k1, k2, k3, k4⟩ := u1 i hi
    have r1 := (List.getElem?_eq_some_iff.1 k1).1
    have r3 := (List.getElem?_eq_some_iff.1 k2).1
    have s1 := Pn.cellsL_nth k1
    have s2 := Pn.cellsL_nth k2
    have hc := ih a k3 b
    have w2 : IntKind.i64.wrap ((i : Int) + 1) = i + 1 := wrap64 (by omega) (by omega)
    rw [Pn.cells_eq] at s1 s2
    rw [Pn.cells_eq, Pn.cells_eq] at hc
    simp [PX, r1, r3, s1, s2, hc, k4, w2]
theorem equalPlans_eq : ∀ (p : Pn), p.thin → ∀ q : Pn, callA C0 24 [.i (.agg p.cells), .i (.agg q.cells)] [] = some (.bool (p.eqb q), []) := by
  intro p
  induction p using Pn.ind with
  | h k t es cs ks ih =>
    intro ht q
    exact equalPlans_step ht fun a ha b => ih a ha (((Pn.thin_iff _).1 ht).2.2.2.2 a ha) b
end Go.Proofs.YteihcffblfdgfaaGreat.P

namespace Go.Proofs.YteihcffblfdgfaaGreat.P
open Go Go.Av
set_option maxRecDepth 4000
set_option maxHeartbeats 2000000
def SX (l m : List Int) (i : Nat) : AS :=
  { env := [(0, .i (.isl (intsL l))), (1, .i (.isl (intsL m))), (4, .bool false), (5, jk i (.int (i - 1))), (10, .bool false), (12, .int l.length), (13, .int i), (14, jk i (.bool true)), (24, jk i (.bool false))], st := [] }
def EX (a b : Ex) (i : Nat) : AS :=
  { env := [(0, .i (.iref [.int a.kind, .int a.col, .bool a.val.null, .int a.val.n, .isl (Ex.cellsL a.kids)])), (1, .i (.iref [.int b.kind, .int b.col, .bool b.val.null, .int b.val.n, .isl (Ex.cellsL b.kids)])), (4, .bool false), (5, jk i (.int (i - 1))), (49, .bool false), (54, .int a.kids.length), (55, .int i), (56, jk i (.bool true)), (71, jk i (.bool false))], st := [] }
end Go.Proofs.YteihcffblfdgfaaGreat.P

namespace Go.Proofs.YteihcffblfdgfaaGreat.P
open Go Go.Av
set_option maxRecDepth 4000
set_option maxHeartbeats 2000000
def FX (a b : Ex) (i : Nat) : AS :=
  { env := [(0, .i (.agg [.int a.kind, .int a.col, .bool a.val.null, .int a.val.n, .isl (Ex.cellsL a.kids)])), (1, .i (.agg [.int b.kind, .int b.col, .bool b.val.null, .int b.val.n, .isl (Ex.cellsL b.kids)])), (2, .own 0 0), (3, .own 1 0), (4, .bool false), (5, .int i), (33, .bool false), (38, jk i (.bool true)), (52, jk i (.bool false))],
    st := [some (.box [.int a.kind, .int a.col, .bool a.val.null, .int a.val.n, .i (.isl (Ex.cellsL a.kids))]), some (.box [.int b.kind, .int b.col, .bool b.val.null, .int b.val.n, .i (.isl (Ex.cellsL b.kids))])] }
def HX (p q : Pn) (n m : Nat) (i j k : AV) (x51 x65 x70 x83 x88 x102 : AV) : AS :=
  { env := [(0, .i (.agg [.int p.kind, .int p.table, .isl (Ex.cellsL p.exprs), .isl (intsL p.cols), .isl (Pn.cellsL p.kids)])), (1, .i (.agg [.int q.kind, .int q.table, .isl (Ex.cellsL q.exprs), .isl (intsL q.cols), .isl (Pn.cellsL q.kids)])), (2, .own 0 0), (3, .own 1 0), (4, .bool false), (5, i), (6, j), (7, k), (46, .bool false), (51, x51), (65, x65), (70, x70), (83, x83), (88, x88), (102, x102)],
    st := [some (.box [.int p.kind, .int p.table, .i (.isl (Ex.cellsL p.exprs)), .i (.isl (intsL p.cols)), .i (.isl (Pn.cellsL p.kids))]), some (.box [.int q.kind, .int q.table, .i (.isl (Ex.cellsL q.exprs)), .i (.isl (intsL q.cols)), .i (.isl (Pn.cellsL q.kids))])] }
def H1 (p q : Pn) (i : Nat) : AS := HX p q 0 0 (.int i) .junk .junk (jk i (.bool true)) (jk i (.bool false)) .junk .junk .junk .junk
def H2 (p q : Pn) (i : Nat) : AS := HX p q 0 0 (.int p.exprs.length) (.int i) .junk (.bool false) (jk p.exprs.length (.bool false)) (jk i (.bool true)) (jk i (.bool false)) .junk .junk
end Go.Proofs.YteihcffblfdgfaaGreat.P

namespace Go.Proofs.YteihcffblfdgfaaGreat.P
open Go Go.Av
set_option maxRecDepth 4000
set_option maxHeartbeats 2000000
def KX (p : Pn) (i : Nat) : AS :=
  { env := [(0, .i (.agg [.int p.kind, .int p.table, .isl (Ex.cellsL p.exprs), .isl (intsL p.cols), .isl (Pn.cellsL p.kids)])), (1, .own 0 0), (2, .own 1 0), (3, .own 2 0), (4, .int i), (5, .junk), (19, jk i (.bool true)), (37, .junk)],
    st := some (.box [.int p.kind, .int p.table, .i (.isl (Ex.cellsL p.exprs)), .i (.isl (intsL p.cols)), .i (.isl (Pn.cellsL p.kids))]) :: some (.box [.int 0, .int 0, .nils, .nils, .nils]) ::
      some (.box [.int p.kind, .int p.table, gro 3 5 i, .osl (if i = 0 then 3 else 4) 1 0 p.cols.length, .nils]) :: (groB 5 (Ex.cellsL (p.exprs.take i)) i ++ [some (.arr 1 (intsL p.cols))]) }
def K2 (p : Pn) (i : Nat) : AS :=
  { env := [(0, .i (.agg [.int p.kind, .int p.table, .isl (Ex.cellsL p.exprs), .isl (intsL p.cols), .isl (Pn.cellsL p.kids)])), (1, .own 0 0), (2, .own 1 0), (3, .own 2 0), (4, .int p.exprs.length), (5, .int i), (19, .bool false), (37, jk i (.bool true))],
    st := some (.box [.int p.kind, .int p.table, .i (.isl (Ex.cellsL p.exprs)), .i (.isl (intsL p.cols)), .i (.isl (Pn.cellsL p.kids))]) :: some (.box [.int 0, .int 0, .nils, .nils, .nils]) ::
      some (.box [.int p.kind, .int p.table, gro 3 5 p.exprs.length, .osl (if p.exprs.length = 0 then 3 else 4) 1 0 p.cols.length, gro (if p.exprs.length = 0 then 4 else 5) 5 i]) :: (groB 5 (Ex.cellsL p.exprs) p.exprs.length ++ some (.arr 1 (intsL p.cols)) :: groB 5 (Pn.cellsL (p.kids.take i)) i) }
def pcX (p : Pn) : AV := .agg [.int p.kind, .int p.table, gro 0 5 p.exprs.length, .osl (if p.exprs.length = 0 then 0 else 1) 1 0 p.cols.length, gro (if p.exprs.length = 0 then 1 else 2) 5 p.kids.length]
def pcS (p : Pn) : StL := groB 5 (Ex.cellsL p.exprs) p.exprs.length ++ some (.arr 1 (intsL p.cols)) :: groB 5 (Pn.cellsL p.kids) p.kids.length
theorem copyPlan_step {p : Pn} (hp : p.thin) (ih : ∀ a ∈ p.kids, callA C0 117 [.i (.agg a.cells)] [] = some (pcX a, pcS a)) :
    callA C0 117 [.i (.agg p.cells)] [] = some (pcX p, pcS p) := by
  have ht := (Pn.thin_iff _).1 hp
  obtain ⟨t1, t2, t3, t4, -⟩ := ht
  rw [callA_eq rfl Tryz.func117 rfl rfl, Pn.cells_eq]
  by_cases hc : p.cols = []
  · simp [hc, intsL]
    rw [loop_to (KX p) p.exprs.length (by simp [KX, hc, intsL])]
    · rw [execA_loop]
      cases hn : p.exprs.length with
      | zero =>
        have he : p.exprs = [] := List.length_eq_zero_iff.1 hn
        simp [KX, he, hc, intsL, Ex.cellsL]
        rw [loop_to (K2 p) p.kids.length (by simp [K2, he, hc, intsL, Ex.cellsL])]
        · rw [execA_loop]
          cases hm : p.kids.length with
          | zero =>
            have hk : p.kids = [] := List.length_eq_zero_iff.1 hm
            simp [K2, he, hc, intsL, hk, Ex.cellsL, Pn.cellsL, pcX, pcS]
          | succ m =>
            have hk : p.kids.take (m + 1) = p.kids := List.take_of_length_le (by omega)
            simp [K2, he, hc, intsL, hm, hk, Ex.cellsL, pcX, pcS]
        · intro i hi
          have h3 := List.getElem?_eq_getElem hi
          have hc' := ih _ (List.mem_of_getElem? h3)
          have r2 := Pn.cellsL_nth h3
          generalize p.kids[i] = a at h3 hc' r2
          have w2 : IntKind.i64.wrap ((i : Int) + 1) = i + 1 := wrap64 (by omega) (by omega)
          rw [Pn.cells_eq] at r2 hc'
          simp only [pcX, pcS] at hc'
          have hl1 : (i + 1) * 88 ≤ 140737488355328 := by omega
          have hl2 : min i p.kids.length = i := by omega
          by_cases a1 : a.exprs = []
          · by_cases a2 : a.kids = []
            · simp [a1, a2, Ex.cellsL, Pn.cellsL] at hc' r2
              by_cases h0 : i = 0
              · subst h0; simp [K2, he, hc, intsL, hi, r2, hc', wrap_1, take_snoc h3, Ex.cellsL, Pn.cellsL, Pn.cells_eq a, a1, a2]
              · simp [K2, he, hc, intsL, gro_pos h0, groB_pos h0, jk_pos h0, hi, r2, hc', w2, take_snoc h3, Ex.cellsL, Pn.cellsL, Pn.cellsL_snoc, hl1, hl2, List.take_take, Pn.cells_eq a, h0, a1, a2]
            · have a2' : a.kids.length ≠ 0 := fun h => a2 (List.length_eq_zero_iff.1 h)
              simp [a1, gro_pos a2', groB_pos a2', a2, Ex.cellsL, Pn.cellsL] at hc' r2
              by_cases h0 : i = 0
              · subst h0; simp [K2, he, hc, intsL, hi, r2, hc', wrap_1, take_snoc h3, Ex.cellsL, Pn.cellsL, Pn.cells_eq a, a1, gro_pos a2', groB_pos a2', a2]
              · simp [K2, he, hc, intsL, gro_pos h0, groB_pos h0, jk_pos h0, hi, r2, hc', w2, take_snoc h3, Ex.cellsL, Pn.cellsL, Pn.cellsL_snoc, hl1, hl2, List.take_take, Pn.cells_eq a, h0, a1, gro_pos a2', groB_pos a2', a2]
          · by_cases a2 : a.kids = []
            · have a1' : a.exprs.length ≠ 0 := fun h => a1 (List.length_eq_zero_iff.1 h)
              simp [gro_pos a1', groB_pos a1', a1, a2, Ex.cellsL, Pn.cellsL] at hc' r2
              by_cases h0 : i = 0
              · subst h0; simp [K2, he, hc, intsL, hi, r2, hc', wrap_1, take_snoc h3, Ex.cellsL, Pn.cellsL, Pn.cells_eq a, gro_pos a1', groB_pos a1', a1, a2]
              · simp [K2, he, hc, intsL, gro_pos h0, groB_pos h0, jk_pos h0, hi, r2, hc', w2, take_snoc h3, Ex.cellsL, Pn.cellsL, Pn.cellsL_snoc, hl1, hl2, List.take_take, Pn.cells_eq a, h0, gro_pos a1', groB_pos a1', a1, a2]
            · have a1' : a.exprs.length ≠ 0 := fun h => a1 (List.length_eq_zero_iff.1 h)
              have a2' : a.kids.length ≠ 0 := fun h => a2 (List.length_eq_zero_iff.1 h)
              simp [gro_pos a1', groB_pos a1', a1, gro_pos a2', groB_pos a2', a2, Ex.cellsL, Pn.cellsL] at hc' r2
              by_cases h0 : i = 0
              · subst h0; simp [K2, he, hc, intsL, hi, r2, hc', wrap_1, take_snoc h3, Ex.cellsL, Pn.cellsL, Pn.cells_eq a, gro_pos a1', groB_pos a1', a1, gro_pos a2', groB_pos a2', a2]
              · simp [K2, he, hc, intsL, gro_pos h0, groB_pos h0, jk_pos h0, hi, r2, hc', w2, take_snoc h3, Ex.cellsL, Pn.cellsL, Pn.cellsL_snoc, hl1, hl2, List.take_take, Pn.cells_eq a, h0, gro_pos a1', groB_pos a1', a1, gro_pos a2', groB_pos a2', a2]
      | succ n =>
        have he : p.exprs.take (n + 1) = p.exprs := List.take_of_length_le (by omega)
        simp [KX, hn, he, hc, intsL]
        rw [loop_to (K2 p) p.kids.length (by simp [K2, hn, hc, intsL, Ex.cellsL])]
        · rw [execA_loop]
          cases hm : p.kids.length with
          | zero =>
            have hk : p.kids = [] := List.length_eq_zero_iff.1 hm
            simp [K2, hn, hc, intsL, hk, Ex.cellsL, Pn.cellsL, pcX, pcS]
          | succ m =>
            have hk : p.kids.take (m + 1) = p.kids := List.take_of_length_le (by omega)
            simp [K2, hn, hc, intsL, hm, hk, Ex.cellsL, pcX, pcS]
        · intro i hi
          have h3 := List.getElem?_eq_getElem hi
          have hc' := ih _ (List.mem_of_getElem? h3)
          have r2 := Pn.cellsL_nth h3
          generalize p.kids[i] = a at h3 hc' r2
          have w2 : IntKind.i64.wrap ((i : Int) + 1) = i + 1 := wrap64 (by omega) (by omega)
          rw [Pn.cells_eq] at r2 hc'
          simp only [pcX, pcS] at hc'
          have hl1 : (i + 1) * 88 ≤ 140737488355328 := by omega
          have hl2 : min i p.kids.length = i := by omega
          by_cases a1 : a.exprs = []
          · by_cases a2 : a.kids = []
            · simp [a1, a2, Ex.cellsL, Pn.cellsL] at hc' r2
              by_cases h0 : i = 0
              · subst h0; simp [K2, hn, hc, intsL, hi, r2, hc', wrap_1, take_snoc h3, Ex.cellsL, Pn.cellsL, Pn.cells_eq a, a1, a2]
              · simp [K2, hn, hc, intsL, gro_pos h0, groB_pos h0, jk_pos h0, hi, r2, hc', w2, take_snoc h3, Ex.cellsL, Pn.cellsL, Pn.cellsL_snoc, hl1, hl2, List.take_take, Pn.cells_eq a, h0, a1, a2]
            · have a2' : a.kids.length ≠ 0 := fun h => a2 (List.length_eq_zero_iff.1 h)
              simp [a1, gro_pos a2', groB_pos a2', a2, Ex.cellsL, Pn.cellsL] at hc' r2
              by_cases h0 : i = 0
              · subst h0; simp [K2, hn, hc, intsL, hi, r2, hc', wrap_1, take_snoc h3, Ex.cellsL, Pn.cellsL, Pn.cells_eq a, a1, gro_pos a2', groB_pos a2', a2]
              · simp [K2, hn, hc, intsL, gro_pos h0, groB_pos h0, jk_pos h0, hi, r2, hc', w2, take_snoc h3, Ex.cellsL, Pn.cellsL, Pn.cellsL_snoc, hl1, hl2, List.take_take, Pn.cells_eq a, h0, a1, gro_pos a2', groB_pos a2', a2]
          · by_cases a2 : a.kids = []
            · have a1' : a.exprs.length ≠ 0 := fun h => a1 (List.length_eq_zero_iff.1 h)
              simp [gro_pos a1', groB_pos a1', a1, a2, Ex.cellsL, Pn.cellsL] at hc' r2
              by_cases h0 : i = 0
              · subst h0; simp [K2, hn, hc, intsL, hi, r2, hc', wrap_1, take_snoc h3, Ex.cellsL, Pn.cellsL, Pn.cells_eq a, gro_pos a1', groB_pos a1', a1, a2]
              · simp [K2, hn, hc, intsL, gro_pos h0, groB_pos h0, jk_pos h0, hi, r2, hc', w2, take_snoc h3, Ex.cellsL, Pn.cellsL, Pn.cellsL_snoc, hl1, hl2, List.take_take, Pn.cells_eq a, h0, gro_pos a1', groB_pos a1', a1, a2]
            · have a1' : a.exprs.length ≠ 0 := fun h => a1 (List.length_eq_zero_iff.1 h)
              have a2' : a.kids.length ≠ 0 := fun h => a2 (List.length_eq_zero_iff.1 h)
              simp [gro_pos a1', groB_pos a1', a1, gro_pos a2', groB_pos a2', a2, Ex.cellsL, Pn.cellsL] at hc' r2
              by_cases h0 : i = 0
              · subst h0; simp [K2, hn, hc, intsL, hi, r2, hc', wrap_1, take_snoc h3, Ex.cellsL, Pn.cellsL, Pn.cells_eq a, gro_pos a1', groB_pos a1', a1, gro_pos a2', groB_pos a2', a2]
              · simp [K2, hn, hc, intsL, gro_pos h0, groB_pos h0, jk_pos h0, hi, r2, hc', w2, take_snoc h3, Ex.cellsL, Pn.cellsL, Pn.cellsL_snoc, hl1, hl2, List.take_take, Pn.cells_eq a, h0, gro_pos a1', groB_pos a1', a1, gro_pos a2', groB_pos a2', a2]
    · intro i hi
      have h3 := List.getElem?_eq_getElem hi
      have hc' := copyExpr_eq _ (t2 _ (List.mem_of_getElem? h3))
      have r2 := Ex.cellsL_nth h3
      generalize p.exprs[i] = a at h3 hc' r2
      have w2 : IntKind.i64.wrap ((i : Int) + 1) = i + 1 := wrap64 (by omega) (by omega)
      rw [Ex.cells_eq] at r2 hc'
      by_cases h0 : i = 0
      · subst h0; simp [KX, hc, intsL, hi, r2, hc', wrap_1, take_snoc h3, Ex.cellsL, Ex.cells_eq a]
      · simp [KX, hc, intsL, gro_pos h0, groB_pos h0, jk_pos h0, hi, r2, hc', w2, take_snoc h3, Ex.cellsL_snoc, show min i p.exprs.length = i by omega, show (i + 1) * 56 ≤ 140737488355328 by omega, List.take_take, Ex.cells_eq a, h0]
  simp [hc, show p.cols.length * 8 ≤ 140737488355328 by omega]
  rw [loop_to (KX p) p.exprs.length (by simp [KX, hc])]
  · rw [execA_loop]
    cases hn : p.exprs.length with
    | zero =>
      have he : p.exprs = [] := List.length_eq_zero_iff.1 hn
      simp [KX, he, hc, Ex.cellsL]
      rw [loop_to (K2 p) p.kids.length (by simp [K2, he, hc, Ex.cellsL])]
      · rw [execA_loop]
        cases hm : p.kids.length with
        | zero =>
          have hk : p.kids = [] := List.length_eq_zero_iff.1 hm
          simp [K2, he, hc, hk, Ex.cellsL, Pn.cellsL, pcX, pcS]
        | succ m =>
          have hk : p.kids.take (m + 1) = p.kids := List.take_of_length_le (by omega)
          simp [K2, he, hc, hm, hk, Ex.cellsL, pcX, pcS]
      · intro i hi
        have h3 := List.getElem?_eq_getElem hi
        have hc' := ih _ (List.mem_of_getElem? h3)
        have r2 := Pn.cellsL_nth h3
        generalize p.kids[i] = a at h3 hc' r2
        have w2 : IntKind.i64.wrap ((i : Int) + 1) = i + 1 := wrap64 (by omega) (by omega)
        rw [Pn.cells_eq] at r2 hc'
        simp only [pcX, pcS] at hc'
        have hl1 : (i + 1) * 88 ≤ 140737488355328 := by omega
        have hl2 : min i p.kids.length = i := by omega
        by_cases a1 : a.exprs = []
        · by_cases a2 : a.kids = []
          · simp [a1, a2, Ex.cellsL, Pn.cellsL] at hc' r2
            by_cases h0 : i = 0
            · subst h0; simp [K2, he, hc, hi, r2, hc', wrap_1, take_snoc h3, Ex.cellsL, Pn.cellsL, Pn.cells_eq a, a1, a2]
            · simp [K2, he, hc, gro_pos h0, groB_pos h0, jk_pos h0, hi, r2, hc', w2, take_snoc h3, Ex.cellsL, Pn.cellsL, Pn.cellsL_snoc, hl1, hl2, List.take_take, Pn.cells_eq a, h0, a1, a2]
          · have a2' : a.kids.length ≠ 0 := fun h => a2 (List.length_eq_zero_iff.1 h)
            simp [a1, gro_pos a2', groB_pos a2', a2, Ex.cellsL, Pn.cellsL] at hc' r2
            by_cases h0 : i = 0
            · subst h0; simp [K2, he, hc, hi, r2, hc', wrap_1, take_snoc h3, Ex.cellsL, Pn.cellsL, Pn.cells_eq a, a1, gro_pos a2', groB_pos a2', a2]
            · simp [K2, he, hc, gro_pos h0, groB_pos h0, jk_pos h0, hi, r2, hc', w2, take_snoc h3, Ex.cellsL, Pn.cellsL, Pn.cellsL_snoc, hl1, hl2, List.take_take, Pn.cells_eq a, h0, a1, gro_pos a2', groB_pos a2', a2]
        · by_cases a2 : a.kids = []
          · have a1' : a.exprs.length ≠ 0 := fun h => a1 (List.length_eq_zero_iff.1 h)
            simp [gro_pos a1', groB_pos a1', a1, a2, Ex.cellsL, Pn.cellsL] at hc' r2
            by_cases h0 : i = 0
            · subst h0; simp [K2, he, hc, hi, r2, hc', wrap_1, take_snoc h3, Ex.cellsL, Pn.cellsL, Pn.cells_eq a, gro_pos a1', groB_pos a1', a1, a2]
            · simp [K2, he, hc, gro_pos h0, groB_pos h0, jk_pos h0, hi, r2, hc', w2, take_snoc h3, Ex.cellsL, Pn.cellsL, Pn.cellsL_snoc, hl1, hl2, List.take_take, Pn.cells_eq a, h0, gro_pos a1', groB_pos a1', a1, a2]
          · have a1' : a.exprs.length ≠ 0 := fun h => a1 (List.length_eq_zero_iff.1 h)
            have a2' : a.kids.length ≠ 0 := fun h => a2 (List.length_eq_zero_iff.1 h)
            simp [gro_pos a1', groB_pos a1', a1, gro_pos a2', groB_pos a2', a2, Ex.cellsL, Pn.cellsL] at hc' r2
            by_cases h0 : i = 0
            · subst h0; simp [K2, he, hc, hi, r2, hc', wrap_1, take_snoc h3, Ex.cellsL, Pn.cellsL, Pn.cells_eq a, gro_pos a1', groB_pos a1', a1, gro_pos a2', groB_pos a2', a2]
            · simp [K2, he, hc, gro_pos h0, groB_pos h0, jk_pos h0, hi, r2, hc', w2, take_snoc h3, Ex.cellsL, Pn.cellsL, Pn.cellsL_snoc, hl1, hl2, List.take_take, Pn.cells_eq a, h0, gro_pos a1', groB_pos a1', a1, gro_pos a2', groB_pos a2', a2]
    | succ n =>
      have he : p.exprs.take (n + 1) = p.exprs := List.take_of_length_le (by omega)
      simp [KX, hn, he, hc]
      rw [loop_to (K2 p) p.kids.length (by simp [K2, hn, hc, Ex.cellsL])]
      · rw [execA_loop]
        cases hm : p.kids.length with
        | zero =>
          have hk : p.kids = [] := List.length_eq_zero_iff.1 hm
          simp [K2, hn, hc, hk, Ex.cellsL, Pn.cellsL, pcX, pcS]
        | succ m =>
          have hk : p.kids.take (m + 1) = p.kids := List.take_of_length_le (by omega)
          simp [K2, hn, hc, hm, hk, Ex.cellsL, pcX, pcS]
      · intro i hi
        have h3 := List.getElem?_eq_getElem hi
        have hc' := ih _ (List.mem_of_getElem? h3)
        have r2 := Pn.cellsL_nth h3
        generalize p.kids[i] = a at h3 hc' r2
        have w2 : IntKind.i64.wrap ((i : Int) + 1) = i + 1 := wrap64 (by omega) (by omega)
        rw [Pn.cells_eq] at r2 hc'
        simp only [pcX, pcS] at hc'
        have hl1 : (i + 1) * 88 ≤ 140737488355328 := by omega
        have hl2 : min i p.kids.length = i := by omega
        by_cases a1 : a.exprs = []
        · by_cases a2 : a.kids = []
          · simp [a1, a2, Ex.cellsL, Pn.cellsL] at hc' r2
            by_cases h0 : i = 0
            · subst h0; simp [K2, hn, hc, hi, r2, hc', wrap_1, take_snoc h3, Ex.cellsL, Pn.cellsL, Pn.cells_eq a, a1, a2]
            · simp [K2, hn, hc, gro_pos h0, groB_pos h0, jk_pos h0, hi, r2, hc', w2, take_snoc h3, Ex.cellsL, Pn.cellsL, Pn.cellsL_snoc, hl1, hl2, List.take_take, Pn.cells_eq a, h0, a1, a2]
          · have a2' : a.kids.length ≠ 0 := fun h => a2 (List.length_eq_zero_iff.1 h)
            simp [a1, gro_pos a2', groB_pos a2', a2, Ex.cellsL, Pn.cellsL] at hc' r2
            by_cases h0 : i = 0
            · subst h0; simp [K2, hn, hc, hi, r2, hc', wrap_1, take_snoc h3, Ex.cellsL, Pn.cellsL, Pn.cells_eq a, a1, gro_pos a2', groB_pos a2', a2]
            · simp [K2, hn, hc, gro_pos h0, groB_pos h0, jk_pos h0, hi, r2, hc', w2, take_snoc h3, Ex.cellsL, Pn.cellsL, Pn.cellsL_snoc, hl1, hl2, List.take_take, Pn.cells_eq a, h0, a1, gro_pos a2', groB_pos a2', a2]
        · by_cases a2 : a.kids = []
          · have a1' : a.exprs.length ≠ 0 := fun h => a1 (List.length_eq_zero_iff.1 h)
            simp [gro_pos a1', groB_pos a1', a1, a2, Ex.cellsL, Pn.cellsL] at hc' r2
            by_cases h0 : i = 0
            · subst h0; simp [K2, hn, hc, hi, r2, hc', wrap_1, take_snoc h3, Ex.cellsL, Pn.cellsL, Pn.cells_eq a, gro_pos a1', groB_pos a1', a1, a2]
            · simp [K2, hn, hc, gro_pos h0, groB_pos h0, jk_pos h0, hi, r2, hc', w2, take_snoc h3, Ex.cellsL, Pn.cellsL, Pn.cellsL_snoc, hl1, hl2, List.take_take, Pn.cells_eq a, h0, gro_pos a1', groB_pos a1', a1, a2]
          · have a1' : a.exprs.length ≠ 0 := fun h => a1 (List.length_eq_zero_iff.1 h)
            have a2' : a.kids.length ≠ 0 := fun h => a2 (List.length_eq_zero_iff.1 h)
            simp [gro_pos a1', groB_pos a1', a1, gro_pos a2', groB_pos a2', a2, Ex.cellsL, Pn.cellsL] at hc' r2
            by_cases h0 : i = 0
            · subst h0; simp [K2, hn, hc, hi, r2, hc', wrap_1, take_snoc h3, Ex.cellsL, Pn.cellsL, Pn.cells_eq a, gro_pos a1', groB_pos a1', a1, gro_pos a2', groB_pos a2', a2]
            · simp [K2, hn, hc, gro_pos h0, groB_pos h0, jk_pos h0, hi, r2, hc', w2, take_snoc h3, Ex.cellsL, Pn.cellsL, Pn.cellsL_snoc, hl1, hl2, List.take_take, Pn.cells_eq a, h0, gro_pos a1', groB_pos a1', a1, gro_pos a2', groB_pos a2', a2]
  · intro i hi
    have h3 := List.getElem?_eq_getElem hi
    have hc' := copyExpr_eq _ (t2 _ (List.mem_of_getElem? h3))
    have r2 := Ex.cellsL_nth h3
    generalize p.exprs[i] = a at h3 hc' r2
    have w2 : IntKind.i64.wrap ((i : Int) + 1) = i + 1 := wrap64 (by omega) (by omega)
    rw [Ex.cells_eq] at r2 hc'
    by_cases h0 : i = 0
    · subst h0; simp [KX, hc, hi, r2, hc', wrap_1, take_snoc h3, Ex.cellsL, Ex.cells_eq a]
    · simp [KX, hc, gro_pos h0, groB_pos h0, jk_pos h0, hi, r2, hc', w2, take_snoc h3, Ex.cellsL_snoc, show min i p.exprs.length = i by omega, show (i + 1) * 56 ≤ 140737488355328 by omega, List.take_take, Ex.cells_eq a, h0]
theorem copyPlan_eq : ∀ (p : Pn), p.thin → callA C0 117 [.i (.agg p.cells)] [] = some (pcX p, pcS p) := by
  intro p
  induction p using Pn.ind with
  | h k t es cs ks ih =>
    intro ht
    exact copyPlan_step ht fun a ha => ih a ha (((Pn.thin_iff _).1 ht).2.2.2.2 a ha)
end Go.Proofs.YteihcffblfdgfaaGreat.P

namespace Go.Proofs.YteihcffblfdgfaaGreat.P
open Go Go.Av
set_option maxRecDepth 4000
set_option maxHeartbeats 2000000
def vB (x : Bool) (v : Pn) : Option Blk := if x = true then some (.fbox v.cells) else some (.box (impI v.cells))
end Go.Proofs.YteihcffblfdgfaaGreat.P

namespace Go.Av
def insN (l : List Int) (n : Int) : List Int := if l[l.findIdx fun x => !decide (x < n)]? = some n then l else l.take (l.findIdx fun x => !decide (x < n)) ++ n :: l.drop (l.findIdx fun x => !decide (x < n))
mutual
def addC : List Int → Ex → List Int
  | l, .mk k c _ ks => addCL (if k = 1 then insN l c else l) ks
def addCL : List Int → List Ex → List Int
  | l, [] => l
  | l, e :: es => addCL (addC l e) es
end
theorem addC_eq (l : List Int) (e : Ex) : addC l e = addCL (if e.kind = 1 then insN l e.col else l) e.kids := by
  cases e; simp only [addC, Ex.kind, Ex.col, Ex.kids]; congr
theorem addCL_snoc : ∀ (ks : List Ex) (l : List Int) (e : Ex), addCL l (ks ++ [e]) = addC (addCL l ks) e
  | [], l, e => by simp [addCL]
  | a :: ks, l, e => by simp [addCL, addCL_snoc ks]
theorem insN_mem {l : List Int} {n x : Int} : x ∈ insN l n ↔ x ∈ l ∨ x = n := by
  unfold insN
  split
  · rename_i h
    constructor
    · exact .inl
    · rintro (h1 | rfl)
      · exact h1
      · exact List.mem_of_getElem? h
  · have e : l.take (l.findIdx fun x => !decide (x < n)) ++ l.drop (l.findIdx fun x => !decide (x < n)) = l := List.take_append_drop _ _
    generalize l.findIdx (fun x => !decide (x < n)) = k at *
    constructor
    · intro h
      rcases List.mem_append.1 h with h | h
      · exact .inl (List.mem_of_mem_take h)
      · rcases List.mem_cons.1 h with h | h
        · exact .inr h
        · exact .inl (List.mem_of_mem_drop h)
    · rintro (h | rfl)
      · rw [← e] at h
        rcases List.mem_append.1 h with h | h
        · exact List.mem_append.2 (.inl h)
        · exact List.mem_append.2 (.inr (List.mem_cons.2 (.inr h)))
      · exact List.mem_append.2 (.inr (List.mem_cons.2 (.inl rfl)))
def Asc (l : List Int) : Prop := l.Pairwise (· < ·)
theorem insN_asc {l : List Int} {n : Int} (h : Asc l) : Asc (insN l n) := by
  unfold insN
  split
  · exact h
  · rename_i hne
    have e : l.take (l.findIdx fun x => !decide (x < n)) ++ l.drop (l.findIdx fun x => !decide (x < n)) = l := List.take_append_drop _ _
    have hlt : ∀ x ∈ l.take (l.findIdx fun x => !decide (x < n)), x < n := by
      intro x hx
      obtain ⟨i, hi⟩ := List.mem_iff_getElem?.1 hx
      rw [List.getElem?_take] at hi
      split at hi
      · rename_i hk
        have := List.not_of_lt_findIdx hk
        rw [List.getElem?_eq_getElem (by have := List.findIdx_le_length (xs := l) (p := fun x => !decide (x < n)); omega)] at hi
        injection hi with hi
        rw [hi] at this
        simpa using this
      · cases hi
    have hge : ∀ x ∈ l.drop (l.findIdx fun x => !decide (x < n)), n < x := by
      intro x hx
      rcases Nat.lt_or_ge (l.findIdx fun x => !decide (x < n)) l.length with hk | hk
      · have h1 := List.findIdx_getElem (w := hk)
        have hd := List.drop_eq_getElem_cons hk
        have hn : l[l.findIdx fun x => !decide (x < n)] ≠ n := fun e => hne (by rw [List.getElem?_eq_getElem hk, e])
        rw [hd] at hx
        have hs : Asc (l.drop (l.findIdx fun x => !decide (x < n))) := List.Pairwise.sublist (List.drop_sublist _ _) h
        rw [hd] at hs
        have hs := List.pairwise_cons.1 hs
        simp at h1
        rcases List.mem_cons.1 hx with rfl | hx
        · omega
        · have := hs.1 x hx; omega
      · rw [List.drop_eq_nil_of_le hk] at hx; cases hx
    generalize l.findIdx (fun x => !decide (x < n)) = k at *
    rw [← e] at h
    unfold Asc at *
    rw [List.pairwise_append] at h ⊢
    refine ⟨h.1, List.pairwise_cons.2 ⟨hge, h.2.1⟩, ?_⟩
    intro a ha b hb
    rcases List.mem_cons.1 hb with rfl | hb
    · exact hlt a ha
    · exact h.2.2 a ha b hb
theorem addC_asc : ∀ (e : Ex) (l : List Int), Asc l → Asc (addC l e) := by
  intro e
  induction e using Ex.ind with
  | h k c v ks ih =>
    intro l hl
    rw [addC_eq]
    have : ∀ (xs : List Ex) (l : List Int), (∀ e ∈ xs, ∀ l, Asc l → Asc (addC l e)) → Asc l → Asc (addCL l xs) := by
      intro xs
      induction xs with
      | nil => intro l _ h; simpa [addCL] using h
      | cons a xs ihx => intro l h1 h2; exact ihx _ (fun e he => h1 e (by simp [he])) (h1 a (by simp) l h2)
    refine this _ _ (fun e he => ih e (by simpa [Ex.kids] using he)) ?_
    split
    · exact insN_asc hl
    · exact hl
theorem addC_all {m : Int} (P : Int → Bool) : ∀ (e : Ex) (l : List Int), e.wf m = true → ((∀ x ∈ addC l e, P x = true) ↔ (∀ x ∈ l, P x = true) ∧ e.allC P = true) := by
  intro e
  induction e using Ex.ind with
  | h k c v ks ih =>
    intro l hw
    rw [addC_eq, Ex.allC_eq]
    have : ∀ (xs : List Ex) (l : List Int), (∀ e ∈ xs, e ∈ ks) → ((∀ x ∈ addCL l xs, P x = true) ↔ (∀ x ∈ l, P x = true) ∧ xs.all (Ex.allC P) = true) := by
      intro xs
      induction xs with
      | nil => intro l _; simp [addCL]
      | cons a xs ihx =>
        intro l h1
        have ha := h1 a (by simp)
        simp only [addCL, List.all_cons, Bool.and_eq_true]
        rw [ihx _ fun e he => h1 e (by simp [he]), ih a ha l (Ex.wf_kids hw (by simpa [Ex.kids] using ha))]
        exact and_assoc
    simp only [Ex.kind, Ex.col, Ex.kids]
    rw [this ks _ fun e he => he]
    by_cases h1 : k = 1
    · have hk := (Ex.wf_col hw (by simpa [Ex.kind] using h1)).2.2
      simp only [Ex.kids] at hk
      subst hk
      simp only [h1, if_true, insN_mem]
      simp
      constructor
      · intro h; exact ⟨fun x hx => h x (.inl hx), h c (.inr rfl)⟩
      · rintro ⟨h2, h3⟩ x (hx | rfl)
        · exact h2 x hx
        · exact h3
    · simp only [h1, if_false]
theorem asc_range {l : List Int} (h : Asc l) (lo hi : Int) : (∀ x ∈ l, lo ≤ x ∧ x ≤ hi) ↔ (l = [] ∨ (∃ a, l[0]? = some a ∧ lo ≤ a) ∧ (∃ b, l[l.length - 1]? = some b ∧ b ≤ hi)) := by
  constructor
  · intro hall
    cases hl : l with
    | nil => exact .inl rfl
    | cons a r =>
      right
      rw [← hl]
      have h0 : l[0]? = some a := by rw [hl]; rfl
      have hk : l.length - 1 < l.length := by rw [hl]; simp
      exact ⟨⟨a, h0, (hall a (List.mem_of_getElem? h0)).1⟩, ⟨l[l.length - 1], List.getElem?_eq_getElem hk, (hall _ (List.getElem_mem hk)).2⟩⟩
  · rintro (rfl | ⟨⟨a, h0, h1⟩, b, h2, h3⟩) x hx
    · cases hx
    · obtain ⟨i, hi⟩ := List.mem_iff_getElem?.1 hx
      have hil := (List.getElem?_eq_some_iff.1 hi)
      have h0l := (List.getElem?_eq_some_iff.1 h0)
      have h2l := (List.getElem?_eq_some_iff.1 h2)
      obtain ⟨p1, rfl⟩ := hil
      obtain ⟨p2, rfl⟩ := h0l
      obtain ⟨p3, rfl⟩ := h2l
      have hp := List.pairwise_iff_getElem.1 h
      constructor
      · by_cases hz : i = 0
        · subst hz; exact h1
        · have := hp 0 i p2 p1 (by omega); omega
      · by_cases hz : i = l.length - 1
        · subst hz; exact h3
        · have := hp i (l.length - 1) p1 p3 (by omega); omega
end Go.Av

namespace Go.Proofs.YteihcffblfdgfaaGreat.P
open Go Go.Av
set_option maxRecDepth 4000
set_option maxHeartbeats 2000000
theorem mod_nat {a : Nat} (ha : a < 64) : a % 2 ^ IntKind.i64.bits = a := by
  show a % 18446744073709551616 = a
  exact Nat.mod_eq_of_lt (by omega)
theorem mod_int {a : Nat} (ha : a < 64) : (a : Int) % 2 ^ IntKind.i64.bits = a := by
  show (a : Int) % 18446744073709551616 = a
  omega
theorem or_small {a b : Nat} (ha : a < 64) (hb : b < 64) : IntKind.i64.wrap ((a ||| b : Nat) : Int) = ((a ||| b : Nat) : Int) := by
  have h3 : a ||| b < 2 ^ 6 := Nat.or_lt_two_pow (by omega) (by omega)
  exact wrap64 (by omega) (by omega)
theorem wrap_nat {a : Nat} (ha : a < 64) : IntKind.i64.wrap (a : Int) = a := wrap64 (by omega) (by omega)
def KBX (e : Ex) (i : Nat) : AS :=
  { env := [(0, .i (.iref [.int e.kind, .int e.col, .bool e.val.null, .int e.val.n, .isl (Ex.cellsL e.kids)])), (2, .int 0), (3, .int (Ex.bitsL (e.kids.take i) : Nat)), (4, jk i (.int (i - 1))), (9, .bool false), (19, .int e.kids.length), (20, .int i), (21, jk i (.bool true))], st := [] }
theorem columns_eq : ∀ e : Ex, e.size < 1000000000 → e.allC (fun c => decide (0 ≤ c ∧ c < 6)) = true → callA C0 106 [.i (.iref e.cells)] [] = some (.int (e.bits : Nat), []) := by
  intro e
  induction e using Ex.ind with
  | h k c v ks ih =>
    intro hs ha
    generalize he : Ex.mk k c v ks = e at *
    have hk1 : k = e.kind := by rw [← he]; rfl
    have hks : ks = e.kids := by rw [← he]; rfl
    subst hks
    have hsz := Ex.size_eq e
    have hln := Ex.sizeL_length e.kids
    rw [callA_eq rfl Tryz.func106 rfl rfl, Ex.cells_eq]
    rw [Ex.allC_eq] at ha
    by_cases h1 : e.kind = 1
    · simp only [h1, if_true] at ha
      have ha := of_decide_eq_true ha
      rw [Ex.bits_col h1]
      have hc : e.col = 0 ∨ e.col = 1 ∨ e.col = 2 ∨ e.col = 3 ∨ e.col = 4 ∨ e.col = 5 := by omega
      rcases hc with hc | hc | hc | hc | hc | hc <;> (simp [h1, hc]; decide)
    · simp only [h1, if_false, List.all_eq_true] at ha
      rw [Ex.bits_not h1]
      simp [h1]
      rw [loop_to (KBX e) e.kids.length (by simp [KBX, Ex.bitsL, h1])]
      · rw [execA_loop]
        simp [KBX]
      · intro i hi
        have h3 := List.getElem?_eq_getElem hi
        have hm := List.mem_of_getElem? h3
        have r2 := Ex.cellsL_nth h3
        have htk := take_snoc h3
        generalize e.kids[i] = a at h3 hm r2 htk
        have hk := ih a hm (by have := Ex.sizeL_mem hm; omega) (ha a hm)
        have w2 : IntKind.i64.wrap ((i : Int) + 1) = i + 1 := wrap64 (by omega) (by omega)
        have hb : a.bits < 2 ^ 6 := Ex.bits_lt a (ha a hm)
        have hbl : Ex.bitsL (e.kids.take i) < 2 ^ 6 := Ex.bitsL_lt fun x hx => Ex.bits_lt x (ha x (List.mem_of_mem_take hx))
        have hor := or_small (a := Ex.bitsL (e.kids.take i)) (b := a.bits) (by omega) (by omega)
        rw [Ex.cells_eq a] at r2 hk
        by_cases h0 : i = 0
        · subst h0; simp [KBX, hi, r2, hk, wrap_1, htk, Ex.bitsL_snoc, Ex.bitsL, mod_int (show a.bits < 64 by omega), wrap_nat (show a.bits < 64 by omega)]
        · simp [KBX, jk_pos h0, hi, r2, hk, w2, htk, Ex.bitsL_snoc, hor, mod_nat (show a.bits < 64 by omega), mod_nat (show Ex.bitsL (e.kids.take i) < 64 by omega)]
def ANX (l : List Int) (n : Int) (i : Nat) : AS :=
  { env := [(0, .i (.isl (intsL l))), (1, .int n), (4, .nils), (5, .int i), (6, .junk), (18, jk i (.bool true)), (32, .junk)], st := [] }
theorem addNumber_eq (l : List Int) (n : Int) (hl : l.length < 1000000) : callA C0 151 [.i (.isl (intsL l)), .int n] [] = some (.i (.isl (intsL (insN l n))), []) := by
  rw [callA_eq rfl Tryz.func151 rfl rfl]
  have hlt : ∀ i, i < l.findIdx (fun x => !decide (x < n)) → ∃ x, l[i]? = some x ∧ x < n := by
    intro i hi
    have hle := List.findIdx_le_length (xs := l) (p := fun x => !decide (x < n))
    have := List.not_of_lt_findIdx hi
    exact ⟨l[i]'(by omega), List.getElem?_eq_getElem (by omega), by simpa using this⟩
  have hat : ∀ x, l[l.findIdx fun x => !decide (x < n)]? = some x → ¬ x < n := by
    intro x hx
    obtain ⟨h1, rfl⟩ := List.getElem?_eq_some_iff.1 hx
    have := List.findIdx_getElem (w := h1)
    simpa using this
  have hle := List.findIdx_le_length (xs := l) (p := fun x => !decide (x < n))
  unfold insN
  generalize l.findIdx (fun x => !decide (x < n)) = j at *
  simp
  rw [loop_to (ANX l n) j (by simp [ANX])]
  · rw [execA_loop]
    cases hj : l[j]? with
    | none =>
      have hjl : j = l.length := by have := List.getElem?_eq_none_iff.1 hj; omega
      subst hjl
      have hb : ((l.length : Int) + 1) * 8 ≤ 140737488355328 := by omega
      have hb1 : (l.length + 1) * 8 ≤ 140737488355328 := by omega
      have hb2 : l.length * 8 ≤ 140737488355328 := by omega
      have ht : List.take (l.length + 1) (intsL l ++ [[IV.lit (Value.int IntKind.i64 n)]]) = intsL l ++ [[IV.lit (Value.int IntKind.i64 n)]] := List.take_of_length_le (by simp)
      simp [ANX, hb1, hb2, intsL_append, intsL, ht]
    | some x =>
      have hx := hat x hj
      have hjl := (List.getElem?_eq_some_iff.1 hj).1
      have r2 := intsL_nth hj
      by_cases hxn : x = n
      · subst hxn
        simp [ANX, hjl, r2]
      · have hb1 : (j + 1) * 8 ≤ 140737488355328 := by omega
        have hb2 : j * 8 ≤ 140737488355328 := by omega
        have hb3 : (j + 1 + (l.length - j)) * 8 ≤ 140737488355328 := by omega
        have t1 : (l.take j).length = j := by simp; omega
        have t2 : (intsL (l.take j) ++ [[IV.lit (Value.int IntKind.i64 n)]]).take (j + 1) = intsL (l.take j) ++ [[IV.lit (Value.int IntKind.i64 n)]] := List.take_of_length_le (by simp; omega)
        have t3 : (l.drop j).take (l.length - j) = l.drop j := List.take_of_length_le (by simp)
        have t4 : (intsL (l.take j) ++ [[IV.lit (Value.int IntKind.i64 n)]] ++ intsL (l.drop j)).take (j + 1 + (l.length - j)) = intsL (l.take j) ++ [[IV.lit (Value.int IntKind.i64 n)]] ++ intsL (l.drop j) := List.take_of_length_le (by simp; omega)
        have t5 : (l.take j).take j = l.take j := List.take_of_length_le (by omega)
        simp [ANX, hjl, hle, r2, hx, hxn, hb1, hb2, hb3, intsL_append, intsL]
        rw [t5, t2, t3, t4]
        simp
  · intro i hi
    obtain ⟨x, h3, hx⟩ := hlt i hi
    have r2 := intsL_nth h3
    have hil := (List.getElem?_eq_some_iff.1 h3).1
    have w2 : IntKind.i64.wrap ((i : Int) + 1) = i + 1 := wrap64 (by omega) (by omega)
    simp [ANX, hil, r2, hx, w2]
end Go.Proofs.YteihcffblfdgfaaGreat.P

namespace Go.Av
theorem Ex.wf_mono {w w' : Int} (h : w ≤ w') : ∀ e : Ex, e.wf w = true → e.wf w' = true := by
  intro e
  induction e using Ex.ind with
  | h k c v ks ih =>
    intro hw
    rw [Ex.wf_eq] at hw ⊢
    simp only [Bool.and_eq_true] at hw ⊢
    refine ⟨hw.1, ?_, ?_⟩
    · have h2 := hw.2.1
      unfold Ex.headOk at h2 ⊢
      split at h2
      · rename_i h1
        rw [if_pos h1]
        simp only [Bool.and_eq_true, decide_eq_true_eq] at h2 ⊢
        exact ⟨h2.1, by omega, h2.2.2⟩
      · rename_i h1
        rw [if_neg h1]
        exact h2
    · rw [List.all_eq_true] at *
      exact fun x hx => ih x hx (hw.2.2 x hx)
theorem Ex.ok_wf {w : Int} {e : Ex} (h : e.ok w = true) : e.wf w = true ∧ 1 ≤ w ∧ w ≤ 6 := by
  unfold Ex.ok okWidth at h
  rw [Ex.vB_eq] at h
  simp only [Bool.and_eq_true, decide_eq_true_eq] at h
  exact ⟨h.2.1, h.1.1, h.1.2⟩
theorem Ex.ok_wf6 {w : Int} {e : Ex} (h : e.ok w = true) : e.wf 6 = true := Ex.wf_mono (Ex.ok_wf h).2.2 e (Ex.ok_wf h).1
theorem Ex.wf6_cols {e : Ex} (h : e.wf 6 = true) : e.allC (fun c => decide (0 ≤ c ∧ c < 6)) = true := Ex.wf_allC e h
theorem Ex.wf_cols0 {w : Int} {e : Ex} (h : e.wf w = true) : e.allC (fun c => decide (0 ≤ c)) = true := Ex.allC_mono (fun c hc => by simp only [decide_eq_true_eq] at hc ⊢; exact hc.1) e (Ex.wf_allC e h)
theorem Ex.allC_and {f g : Int → Bool} : ∀ e : Ex, e.allC f = true → e.allC g = true → e.allC (fun c => f c && g c) = true := by
  intro e
  induction e using Ex.ind with
  | h k c v ks ih =>
    intro h1 h2
    rw [Ex.allC_eq] at *
    by_cases hk : k = 1
    · subst hk; simp only [Ex.kind, Ex.col, if_true] at h1 h2 ⊢; simp [h1, h2]
    · simp only [Ex.kind, Ex.kids, hk, if_false, List.all_eq_true] at h1 h2 ⊢
      exact fun x hx => ih x hx (h1 x hx) (h2 x hx)
theorem cin_list {e : Ex} {m : Int} (h : e.wf m = true) (lo hi : Int) : (addC [] e = [] ∨ (∃ a, (addC [] e)[0]? = some a ∧ lo ≤ a) ∧ (∃ b, (addC [] e)[(addC [] e).length - 1]? = some b ∧ b ≤ hi - 1)) ↔ e.cin lo hi = true := by
  rw [← asc_range (addC_asc e [] List.Pairwise.nil)]
  have := addC_all (fun x => decide (lo ≤ x ∧ x < hi)) e [] h
  unfold Ex.cin
  constructor
  · intro h1
    exact (this.1 fun x hx => by have := h1 x hx; simp only [decide_eq_true_eq]; omega).2
  · intro h1 x hx
    have := this.2 ⟨by simp, h1⟩ x hx
    simp only [decide_eq_true_eq] at this
    omega
theorem addC_size : ∀ (e : Ex) (l : List Int), (addC l e).length ≤ l.length + e.size := by
  intro e
  induction e using Ex.ind with
  | h k c v ks ih =>
    intro l
    have hm : addC l (.mk k c v ks) = addCL (if k = 1 then insN l c else l) ks := by simp [addC]
    have hz : (Ex.mk k c v ks).size = 1 + Ex.sizeL ks := by simp [Ex.size]
    rw [hm, hz]
    have : ∀ (xs : List Ex) (l : List Int), (∀ x ∈ xs, x ∈ ks) → (addCL l xs).length ≤ l.length + Ex.sizeL xs := by
      intro xs
      induction xs with
      | nil => intro l _; simp [addCL]
      | cons a xs ihx =>
        intro l h
        have h1 := ihx (addC l a) fun x hx => h x (by simp [hx])
        have h2 := ih a (h a (by simp)) l
        simp only [addCL, Ex.sizeL]
        omega
    have h2 : (insN l c).length ≤ l.length + 1 := by
      unfold insN
      split
      · omega
      · simp only [List.length_append, List.length_take, List.length_cons, List.length_drop]; omega
    by_cases h1 : k = 1
    · rw [if_pos h1]
      have := this ks (insN l c) fun x hx => hx
      omega
    · rw [if_neg h1]
      have := this ks l fun x hx => hx
      omega
def okS (a : Int) : Prop := 1 ≤ a ∧ a ≤ 7
theorem cmbS_tab : ∀ a b : Fin 8, a.val ≠ 0 → b.val ≠ 0 → (1 ≤ cmbS 8 a.val b.val ∧ cmbS 8 a.val b.val ≤ 7) ∧ (1 ≤ cmbS 9 a.val b.val ∧ cmbS 9 a.val b.val ≤ 7) ∧ (1 ≤ cmbS 3 a.val b.val ∧ cmbS 3 a.val b.val ≤ 7) ∧ (1 ≤ cmbS 6 a.val b.val ∧ cmbS 6 a.val b.val ≤ 7) := by decide
theorem cmbS_ok {k a b : Int} (ha : okS a) (hb : okS b) : okS (cmbS k a b) := by
  obtain ⟨a, rfl⟩ := Int.eq_ofNat_of_zero_le (show 0 ≤ a by have := ha.1; omega)
  obtain ⟨b, rfl⟩ := Int.eq_ofNat_of_zero_le (show 0 ≤ b by have := hb.1; omega)
  have h := cmbS_tab ⟨a, by have := ha.2; omega⟩ ⟨b, by have := hb.2; omega⟩ (by have := ha.1; simp; omega) (by have := hb.1; simp; omega)
  unfold okS
  by_cases h8 : k = 8
  · subst h8; exact h.1
  · by_cases h9 : k = 9
    · subst h9; exact h.2.1
    · by_cases h6 : k < 6
      · have e : cmbS k a b = cmbS 3 a b := by simp [cmbS, h8, h9, h6]
        rw [e]; exact h.2.2.1
      · have e : cmbS k a b = cmbS 6 a b := by simp [cmbS, h8, h9, h6]
        rw [e]; exact h.2.2.2
theorem notS_tab : ∀ a : Fin 8, a.val ≠ 0 → (1 ≤ notS a.val ∧ notS a.val ≤ 7) ∧ (1 ≤ nulS a.val ∧ nulS a.val ≤ 7) := by decide
theorem stV_ok (v : Val) : okS (stV v) := by
  unfold stV okS
  split
  · omega
  · split <;> omega
theorem outS_eq (st : List Int) (e : Ex) : outS st e = if e.kind = 1 then (st[e.col.toNat]?).getD 0 else if e.kind = 2 then stV e.val else if e.kind = 10 then notS ((e.kids[0]?.map (outS st)).getD 0) else if e.kind = 11 then nulS ((e.kids[0]?.map (outS st)).getD 0) else cmbS e.kind ((e.kids[0]?.map (outS st)).getD 0) ((e.kids[1]?.map (outS st)).getD 0) := by
  cases e
  simp only [outS, outSL_map, Ex.kind, Ex.col, Ex.val, Ex.kids, List.getElem?_map]
  congr
end Go.Av

namespace Go.Proofs.YteihcffblfdgfaaGreat.P
open Go Go.Av
set_option maxRecDepth 4000
set_option maxHeartbeats 4000000
@[simp] theorem wr0 : IntKind.i64.wrap 0 = 0 := by decide
@[simp] theorem wr1 : IntKind.i64.wrap 1 = 1 := by decide
@[simp] theorem wr2 : IntKind.i64.wrap 2 = 2 := by decide
@[simp] theorem wr3 : IntKind.i64.wrap 3 = 3 := by decide
@[simp] theorem wr4 : IntKind.i64.wrap 4 = 4 := by decide
@[simp] theorem wr7 : IntKind.i64.wrap 7 = 7 := by decide
@[simp] theorem p64n : (2 : Nat) ^ IntKind.i64.bits = 18446744073709551616 := rfl
@[simp] theorem p64i : (2 : Int) ^ IntKind.i64.bits = 18446744073709551616 := rfl
def ACX (e : Ex) (l : List Int) (i : Nat) : AS :=
  { env := [(0, .i (.isl (intsL (addCL l (e.kids.take i))))), (1, .i (.agg [.int e.kind, .int e.col, .bool e.val.null, .int e.val.n, .isl (Ex.cellsL e.kids)])), (3, .own 0 0), (4, .nils), (5, .int i), (8, .bool (e.kind == 1)), (17, jk i (.bool true))],
    st := [some (.box [.int e.kind, .int e.col, .bool e.val.null, .int e.val.n, .i (.isl (Ex.cellsL e.kids))])] }
theorem addColumns_eq : ∀ e : Ex, ∀ l : List Int, l.length + e.size < 1000000 → callA C0 144 [.i (.isl (intsL l)), .i (.agg e.cells)] [] = some (.i (.isl (intsL (addC l e))), []) := by
  intro e
  induction e using Ex.ind with
  | h k c v ks ih =>
    intro l hs
    generalize he : Ex.mk k c v ks = e at *
    have hks : ks = e.kids := by rw [← he]; rfl
    subst hks
    have hsz := Ex.size_eq e
    have hln := Ex.sizeL_length e.kids
    have hrd : ∀ l' : List Int, l'.length ≤ l.length + 1 → ∀ i, i < e.kids.length → ∃ a, e.kids[i]? = some a ∧ e.kids.take (i + 1) = e.kids.take i ++ [a] ∧ nthE (Ex.cellsL e.kids) i = some a.cells ∧ callA C0 144 [.i (.isl (intsL (addCL l' (e.kids.take i)))), .i (.agg a.cells)] [] = some (.i (.isl (intsL (addC (addCL l' (e.kids.take i)) a))), []) := by
      intro l' hl' i hi
      have h3 := List.getElem?_eq_getElem hi
      have hm := List.mem_of_getElem? h3
      have htk := take_snoc h3
      refine ⟨e.kids[i], h3, htk, Ex.cellsL_nth h3, ih _ hm _ ?_⟩
      have hadd : ∀ (xs : List Ex) (l : List Int), (addCL l xs).length ≤ l.length + Ex.sizeL xs := by
        intro xs
        induction xs with
        | nil => intro l; simp [addCL]
        | cons a xs ihx => intro l; have h1 := ihx (addC l a); have h2 := addC_size a l; simp only [addCL, Ex.sizeL]; omega
      have h1 := hadd (e.kids.take i) l'
      have hsum : ∀ (xs ys : List Ex), Ex.sizeL (xs ++ ys) = Ex.sizeL xs + Ex.sizeL ys := by
        intro xs
        induction xs with
        | nil => intro ys; simp [Ex.sizeL]
        | cons a xs ihx => intro ys; simp [Ex.sizeL, ihx, Nat.add_assoc]
      have h2 := hsum (e.kids.take (i + 1)) (e.kids.drop (i + 1))
      rw [List.take_append_drop, htk, hsum] at h2
      simp only [Ex.sizeL] at h2
      omega
    rw [callA_eq rfl Tryz.func144 rfl rfl, Ex.cells_eq, addC_eq]
    by_cases h1 : e.kind = 1
    · have hn := addNumber_eq l e.col (by omega)
      have hil : (insN l e.col).length ≤ l.length + 1 := by
        unfold insN
        split
        · omega
        · simp only [List.length_append, List.length_take, List.length_cons, List.length_drop]; omega
      simp [h1, hn]
      rw [loop_to (ACX e (insN l e.col)) e.kids.length (by simp [ACX, addCL, h1])]
      · rw [execA_loop]
        simp [ACX]
      · intro i hi
        obtain ⟨a, h3, htk, r2, hk⟩ := hrd _ hil i hi
        have w2 : IntKind.i64.wrap ((i : Int) + 1) = i + 1 := wrap64 (by omega) (by omega)
        rw [Ex.cells_eq a] at r2 hk
        simp [ACX, hi, r2, hk, w2, htk, addCL_snoc]
    · simp [h1]
      rw [loop_to (ACX e l) e.kids.length (by simp [ACX, addCL, h1])]
      · rw [execA_loop]
        simp [ACX]
      · intro i hi
        obtain ⟨a, h3, htk, r2, hk⟩ := hrd l (by omega) i hi
        have w2 : IntKind.i64.wrap ((i : Int) + 1) = i + 1 := wrap64 (by omega) (by omega)
        rw [Ex.cells_eq a] at r2 hk
        simp [ACX, hi, r2, hk, w2, htk, addCL_snoc]
theorem within_eq (e : Ex) {m : Int} (hw : e.wf m = true) (hs : e.size < 100000) (lo hi : Int) (hh : -100 ≤ hi ∧ hi ≤ 100) : callA C0 132 [.i (.agg e.cells), .int lo, .int (hi - 1)] [] = some (.bool (e.cin lo hi), []) := by
  have ha := addColumns_eq e [] (by simp; omega)
  have hc := cin_list hw lo hi
  have hsz := addC_size e []
  rw [callA_eq rfl Tryz.func132 rfl rfl]
  generalize addC [] e = l at *
  rw [Ex.cells_eq] at *
  simp only [intsL] at ha
  cases hl : l with
  | nil =>
    have : e.cin lo hi = true := hc.1 (.inl hl)
    rw [hl] at ha
    simp [ha, this, intsL]
  | cons a r =>
    have h0 : l[0]? = some a := by rw [hl]; rfl
    have hlen : 0 < l.length := by rw [hl]; simp
    have hk : l.length - 1 < l.length := by omega
    have h2 := List.getElem?_eq_getElem hk
    generalize l[l.length - 1] = b at h2
    have r0 := intsL_nth h0
    have r2 := intsL_nth h2
    have w1 : IntKind.i64.wrap ((l.length : Int) - 1) = ((l.length - 1 : Nat) : Int) := by rw [wrap64 (by simp at hsz; omega) (by simp at hsz; omega)]; omega
    have hne : ¬ l = [] := by rw [hl]; simp
    have hiff : e.cin lo hi = (decide (lo ≤ a) && decide (b ≤ hi - 1)) := by
      rw [Bool.eq_iff_iff, ← hc]
      simp only [Bool.and_eq_true, decide_eq_true_eq]
      constructor
      · rintro (h | ⟨⟨x, hx, h3⟩, y, hy, h4⟩)
        · exact absurd h hne
        · rw [h0] at hx; rw [h2] at hy; injection hx with hx; injection hy with hy; subst hx; subst hy; exact ⟨h3, h4⟩
      · rintro ⟨h3, h4⟩; exact .inr ⟨⟨a, h0, h3⟩, b, h2, h4⟩
    rw [hiff]
    by_cases q : lo ≤ a
    · have q2 : a ≥ lo := q
      simp [ha, hne, r0, r2, w1, hlen, hk, q]
    · simp [ha, hne, r0, hlen, q]
theorem istate_eq (b : Bool) (n : Int) : callA C0 142 [.i (.agg [.bool b, .int n])] [] = some (.int (stV ⟨b, n⟩), []) := by
  rw [callA_eq rfl Tryz.func142 rfl rfl]
  cases b
  · by_cases h : n = 0 <;> simp [stV, h]
  · simp [stV]
theorem sstate_eq (b : Bool) (n : Int) : callA C0 152 [.i (.agg [.bool b, .int n])] [] = some (.int (stV ⟨b, n⟩), []) := by
  rw [callA_eq rfl Tryz.func152 rfl rfl]
  cases b
  · by_cases h : n = 0 <;> simp [stV, h]
  · simp [stV]
theorem valueOf_eq (x : Int) : callA C0 161 [.int x] [] = some (.i (.agg [.bool (decide (x = 4)), .int (if x = 2 then 1 else 0)]), []) := by
  rw [callA_eq rfl Tryz.func161 rfl rfl]
  by_cases h : x = 4
  · subst h; simp
  · by_cases h2 : x = 2
    · subst h2; simp
    · simp [h, h2]
theorem eight {a : Int} (h : 0 ≤ a ∧ a ≤ 7) : a = 0 ∨ a = 1 ∨ a = 2 ∨ a = 3 ∨ a = 4 ∨ a = 5 ∨ a = 6 ∨ a = 7 := by omega
theorem examples_eq {a : Int} (h : 0 ≤ a ∧ a ≤ 7) : callA C0 149 [.int a] [] = some (.i (.isl (valsL (exS a))), []) := by
  rw [callA_eq rfl Tryz.func149 rfl rfl]
  have s0 := istate_eq false 0
  have s1 := istate_eq false 1
  have s2 := istate_eq true 0
  simp only [stV, Bool.false_eq_true, if_false, if_true, Int.reduceEq] at s0 s1 s2
  rcases eight h with rfl | rfl | rfl | rfl | rfl | rfl | rfl | rfl
  all_goals
    simp
    rw [execA_loop]
    simp [s0, s1, s2]
    rw [execA_loop]
    simp [s0, s1, s2]
    rw [execA_loop]
    simp [s0, s1, s2]
    rw [execA_loop]
    simp [exS, hasS, valsL]
end Go.Proofs.YteihcffblfdgfaaGreat.P

namespace Go.Proofs.YteihcffblfdgfaaGreat.P
open Go Go.Av
set_option maxRecDepth 4000
set_option maxHeartbeats 4000000
theorem filt_cells (e : Ex) (k : Pn) : (filt e k).cells = [.int 2, .int 0, .isl [e.cells], .isl [], .isl [k.cells]] := by simp [filt, Pn.cells, Ex.cellsL, intsL, Pn.cellsL]
theorem proj_cells (es : List Ex) (k : Pn) : (proj es k).cells = [.int 3, .int 0, .isl (Ex.cellsL es), .isl [], .isl [k.cells]] := by simp [proj, Pn.cells, intsL, Pn.cellsL]
theorem pair_cells (kd : Int) (e : Ex) (a b : Pn) : (pairP kd e a b).cells = [.int kd, .int 0, .isl [e.cells], .isl [], .isl [a.cells, b.cells]] := by simp [pairP, Pn.cells, Ex.cellsL, intsL, Pn.cellsL]
theorem union_cells (a b : Pn) : (unionP a b).cells = [.int 6, .int 0, .isl [], .isl [], .isl [a.cells, b.cells]] := by simp [unionP, Pn.cells, Ex.cellsL, intsL, Pn.cellsL]
theorem andE_cells (a b : Ex) : (andE a b).cells = [.int 8, .int 0, .bool false, .int 0, .isl [a.cells, b.cells]] := by simp [andE, Ex.cells, Ex.cellsL, Val.zero]
theorem colX_cells (c : Int) : (colX c).cells = [.int 1, .int c, .bool false, .int 0, .isl []] := by simp [colX, Ex.cells, Ex.cellsL, Val.zero]
theorem zero_cells : Pn.zero.cells = [.int 0, .int 0, .isl [], .isl [], .isl []] := by simp [Pn.zero, Pn.cells, Ex.cellsL, intsL, Pn.cellsL]
theorem filterPlan_eq (e : Ex) (k : Pn) : callA C0 104 [.i (.agg e.cells), .i (.agg k.cells)] [] = some (.i (.agg (filt e k).cells), []) := by
  rw [callA_eq rfl Tryz.func104 rfl rfl, filt_cells, Ex.cells_eq, Pn.cells_eq]
  simp
theorem pairPlan_eq (kd : Int) (e : Ex) (a b : Pn) : callA C0 107 [.int kd, .i (.agg e.cells), .i (.agg a.cells), .i (.agg b.cells)] [] = some (.i (.agg (pairP kd e a b).cells), []) := by
  rw [callA_eq rfl Tryz.func107 rfl rfl, pair_cells, Ex.cells_eq, Pn.cells_eq a, Pn.cells_eq b]
  simp
theorem both_eq (a b : Ex) : callA C0 105 [.i (.agg a.cells), .i (.agg b.cells)] [] = some (.i (.agg (andE a b).cells), []) := by
  rw [callA_eq rfl Tryz.func105 rfl rfl, andE_cells, Ex.cells_eq a, Ex.cells_eq b]
  simp
theorem icolumn_eq (c : Int) : callA C0 111 [.int c] [] = some (.i (.agg (colX c).cells), []) := by
  rw [callA_eq rfl Tryz.func111 rfl rfl, colX_cells]
  simp
theorem filterOver_no {p : Pn} {kd : Int} (h : p.kind ≠ 2) : callA C0 103 [.i (.iref p.cells), .int kd] [] = some (.tup [.i (.lit (.pointer none)), .i (.lit (.pointer none)), .bool false], []) := by
  rw [callA_eq rfl Tryz.func103 rfl rfl, Pn.cells_eq]
  simp [h]
theorem filterOver_not {e : Ex} {k : Pn} {kd : Int} (h : k.kind ≠ kd) : callA C0 103 [.i (.iref (filt e k).cells), .int kd] [] = some (.tup [.i (.lit (.pointer none)), .i (.lit (.pointer none)), .bool false], []) := by
  rw [callA_eq rfl Tryz.func103 rfl rfl, filt_cells, Pn.cells_eq k]
  simp [h]
theorem filterOver_yes {e : Ex} {k : Pn} {kd : Int} (h : k.kind = kd) : callA C0 103 [.i (.iref (filt e k).cells), .int kd] [] = some (.tup [.i (.iref e.cells), .i (.iref k.cells), .bool true], []) := by
  rw [callA_eq rfl Tryz.func103 rfl rfl, filt_cells, Pn.cells_eq k, Ex.cells_eq e]
  simp [h]
theorem place_right (c w : Int) (h0 : 0 ≤ c ∧ c ≤ 6) (hw : 0 ≤ w ∧ w ≤ 6) : callA C0 109 [.int c, .own 0 0] [some (.box [.int w])] = some (.int (c - w), [some (.box [.int w])]) := by
  rw [callA_eq rfl Tryz.func109 rfl rfl]
  have w1 : IntKind.i64.wrap (c - w) = c - w := wrap64 (by omega) (by omega)
  simp [w1]
theorem place_swap (c a b : Int) (h0 : 0 ≤ c ∧ c ≤ 12) (ha : 0 ≤ a ∧ a ≤ 6) (hb : 0 ≤ b ∧ b ≤ 6) : callA C0 110 [.int c, .own 0 0, .own 1 0] [some (.box [.int a]), some (.box [.int b])] = some (.int (swapC a b c), [some (.box [.int a]), some (.box [.int b])]) := by
  rw [callA_eq rfl Tryz.func110 rfl rfl]
  have w1 : IntKind.i64.wrap (c - a) = c - a := wrap64 (by omega) (by omega)
  have w2 : IntKind.i64.wrap (c + b) = c + b := wrap64 (by omega) (by omega)
  unfold swapC
  by_cases h : c < a
  · simp [h, w2]
  · simp [h, w1]
end Go.Proofs.YteihcffblfdgfaaGreat.P

namespace Go.Proofs.YteihcffblfdgfaaGreat.P
open Go Go.Av
set_option maxRecDepth 4000
set_option maxHeartbeats 4000000
def zrw : List IV := [.int 0, .int 0, .bool false, .int 0, .isl []]
@[simp] theorem copiedW {e : Ex} (h : e.size < 1000000000) : callA C0 85 [.i (.iref e.cells)] [] = some (.i (.agg e.cells), []) := by
  rw [callA_prim (p := copyE) rfl]; exact copyE_eq h
theorem ren1_colR {e : Ex} {w : Int} (hw : 0 ≤ w ∧ w ≤ 6) (hk : e.kind = 1) (hc : 0 ≤ e.col ∧ e.col < 6) :
    callA C0 127 [.i (.iref e.cells), .own 0 0] [some (.box [.fn (.func 109) [.own 1 0]]), some (.box [.int w])] = some (.i (.agg (colX (e.col - w)).cells), [some (.box [.fn (.func 109) [.own 1 0]]), some (.box [.int w])]) := by
  have hp := place_right e.col w (by omega) hw
  have h2 := icolumn_eq (e.col - w)
  rw [callA_eq rfl Tryz.func127 rfl rfl, Ex.cells_eq e]
  rw [colX_cells] at *
  simp [hk, hp, h2]
theorem ren1_notR {e : Ex} {w : Int} (hk : e.kind ≠ 1) (hs : e.size < 1000000000) :
    callA C0 127 [.i (.iref e.cells), .own 0 0] [some (.box [.fn (.func 109) [.own 1 0]]), some (.box [.int w])] = some (.i (.agg e.cells), [some (.box [.fn (.func 109) [.own 1 0]]), some (.box [.int w])]) := by
  have hc := copiedW hs
  rw [callA_eq rfl Tryz.func127 rfl rfl]
  rw [Ex.cells_eq e] at *
  simp [hk, hc]
def RNR (e : Ex) (w : Int) (f : Ex → Ex) (i : Nat) : AS :=
  { env := [(0, .i (.iref [.int e.kind, .int e.col, .bool e.val.null, .int e.val.n, .isl (Ex.cellsL e.kids)])), (1, .fn (.func 127) [.own 0 0]), (4, .own 2 0), (5, .own 3 0), (6, jk i (.int (i - 1))), (12, .bool ((e.kids.length : Int) == 0)), (39, .int e.kids.length), (40, .int i), (41, jk i (.bool true))],
    st := [some (.box [.fn (.func 109) [.own 1 0]]), some (.box [.int w]), some (.box [.int 0, .int 0, .bool false, .int 0, .nils]), some (.box [.int e.kind, .int e.col, .bool e.val.null, .int e.val.n, .osl 4 5 0 e.kids.length]), some (.arr 5 (Ex.cellsL ((e.kids.map f).take i) ++ List.replicate (e.kids.length - i) zrw))] }
theorem renSR {e : Ex} {w : Int} {f : Ex → Ex} (hk : e.kids ≠ []) (hl : e.kids.length < 1000000000) (ih : ∀ x ∈ e.kids, callA C0 126 [.i (.iref x.cells), .fn (.func 127) [.own 0 0]] [some (.box [.fn (.func 109) [.own 1 0]]), some (.box [.int w])] = some (.i (.agg (f x).cells), [some (.box [.fn (.func 109) [.own 1 0]]), some (.box [.int w])])) :
    callA C0 126 [.i (.iref e.cells), .fn (.func 127) [.own 0 0]] [some (.box [.fn (.func 109) [.own 1 0]]), some (.box [.int w])] = some (.i (.agg (Ex.mk e.kind e.col e.val (e.kids.map f)).cells), [some (.box [.fn (.func 109) [.own 1 0]]), some (.box [.int w])]) := by
  rw [callA_eq rfl Tryz.func126 rfl rfl, Ex.cells_eq]
  have hb : 56 * (e.kids.length : Int) ≤ 281474976710656 := by omega
  simp [hk, hb]
  rw [loop_to (RNR e w f) e.kids.length (by simp [RNR, Ex.cellsL, zrw])]
  · rw [execA_loop]
    have ht : (e.kids.map f).take e.kids.length = e.kids.map f := List.take_of_length_le (by simp)
    simp [RNR, Ex.cells, ht]
  · intro i hi
    have h3 := List.getElem?_eq_getElem hi
    have hm := List.mem_of_getElem? h3
    have hc := ih _ hm
    have r2 := Ex.cellsL_nth h3
    generalize e.kids[i] = x at h3 hc r2
    have w2 : IntKind.i64.wrap ((i : Int) + 1) = i + 1 := wrap64 (by omega) (by omega)
    rw [Ex.cells_eq] at hc r2
    have hD : (Ex.cellsL ((e.kids.map f).take i)).length = i := by simp; omega
    have hS : Ex.cellsL ((e.kids.map f).take i) ++ [(f x).cells] = Ex.cellsL ((e.kids.map f).take (i + 1)) := by rw [take_snoc (a := f x) (by simp [h3]), Ex.cellsL_snoc]
    have g1 := half_nth (n := e.kids.length) (z := zrw) hD hi
    have g2 := half_set (n := e.kids.length) (z := zrw) (x := (f x).cells) hD hi
    have g3 : splice zrw 0 (f x).cells = some (f x).cells := splice_all (by simp [zrw])
    rw [hS] at g2
    simp [RNR, hi, r2, hc, w2, g1, g2, g3]
theorem renLR {e x : Ex} {w : Int} (hk : e.kids = []) (h : callA C0 127 [.i (.iref e.cells), .own 0 0] [some (.box [.fn (.func 109) [.own 1 0]]), some (.box [.int w])] = some (.i (.agg x.cells), [some (.box [.fn (.func 109) [.own 1 0]]), some (.box [.int w])])) :
    callA C0 126 [.i (.iref e.cells), .fn (.func 127) [.own 0 0]] [some (.box [.fn (.func 109) [.own 1 0]]), some (.box [.int w])] = some (.i (.agg x.cells), [some (.box [.fn (.func 109) [.own 1 0]]), some (.box [.int w])]) := by
  rw [callA_eq rfl Tryz.func126 rfl rfl]
  rw [Ex.cells_eq e] at h ⊢
  rw [Ex.cells_eq x] at h ⊢
  simp [hk, Ex.cellsL] at h ⊢
  simp [h]
theorem replacedR {w : Int} (hw : 0 ≤ w ∧ w ≤ 6) : ∀ (e : Ex), e.wf 6 = true → e.size < 1000000000 → callA C0 126 [.i (.iref e.cells), .fn (.func 127) [.own 0 0]] [some (.box [.fn (.func 109) [.own 1 0]]), some (.box [.int w])] = some (.i (.agg (e.mapC (· - w)).cells), [some (.box [.fn (.func 109) [.own 1 0]]), some (.box [.int w])]) := by
  intro e
  induction e using Ex.ind with
  | h k c v ks ih =>
    intro hx6 hs
    have hsz := Ex.size_eq (.mk k c v ks)
    have hln := Ex.sizeL_length ks
    simp only [Ex.kids] at hsz
    by_cases h1 : k = 1
    · have hc := Ex.wf_col hx6 (by simpa [Ex.kind] using h1)
      rw [Ex.mapC_col _ (by simpa [Ex.kind] using h1)]
      exact renLR hc.2.2 (ren1_colR hw (by simpa [Ex.kind] using h1) ⟨hc.1, hc.2.1⟩)
    · rw [Ex.mapC_not _ (by simpa [Ex.kind] using h1)]
      by_cases hk : ks = []
      · subst hk
        exact renLR rfl (ren1_notR (by simpa [Ex.kind] using h1) hs)
      · exact renSR hk (by simp only [Ex.kids]; omega) fun x hx => ih x hx (Ex.wf_kids hx6 hx) (by have := Ex.sizeL_mem (l := ks) hx; omega)
theorem renumberedR {w : Int} (hw : 0 ≤ w ∧ w ≤ 6) (e : Ex) (hx6 : e.wf 6 = true) (hs : e.size < 1000000000) : callA C0 108 [.i (.iref e.cells), .fn (.func 109) [.own 0 0]] [some (.box [.int w])] = some (.i (.agg (e.mapC (· - w)).cells), [some (.box [.int w])]) := by
  have h := replacedR hw e hx6 hs
  rw [callA_eq rfl Tryz.func108 rfl rfl]
  generalize e.mapC (· - w) = x at *
  rw [Ex.cells_eq e, Ex.cells_eq x] at *
  simp [h]
theorem ren1_colS {e : Ex} {a b : Int} (ha : 0 ≤ a ∧ a ≤ 6) (hb : 0 ≤ b ∧ b ≤ 6) (hk : e.kind = 1) (hc : 0 ≤ e.col ∧ e.col < 6) :
    callA C0 127 [.i (.iref e.cells), .own 0 0] [some (.box [.fn (.func 110) [.own 1 0, .own 2 0]]), some (.box [.int a]), some (.box [.int b])] = some (.i (.agg (colX (swapC a b e.col)).cells), [some (.box [.fn (.func 110) [.own 1 0, .own 2 0]]), some (.box [.int a]), some (.box [.int b])]) := by
  have hp := place_swap e.col a b (by omega) ha hb
  have h2 := icolumn_eq (swapC a b e.col)
  rw [callA_eq rfl Tryz.func127 rfl rfl, Ex.cells_eq e]
  rw [colX_cells] at *
  simp [hk, hp, h2]
theorem ren1_notS {e : Ex} {a b : Int} (hk : e.kind ≠ 1) (hs : e.size < 1000000000) :
    callA C0 127 [.i (.iref e.cells), .own 0 0] [some (.box [.fn (.func 110) [.own 1 0, .own 2 0]]), some (.box [.int a]), some (.box [.int b])] = some (.i (.agg e.cells), [some (.box [.fn (.func 110) [.own 1 0, .own 2 0]]), some (.box [.int a]), some (.box [.int b])]) := by
  have hc := copiedW hs
  rw [callA_eq rfl Tryz.func127 rfl rfl]
  rw [Ex.cells_eq e] at *
  simp [hk, hc]
def RNS (e : Ex) (a b : Int) (f : Ex → Ex) (i : Nat) : AS :=
  { env := [(0, .i (.iref [.int e.kind, .int e.col, .bool e.val.null, .int e.val.n, .isl (Ex.cellsL e.kids)])), (1, .fn (.func 127) [.own 0 0]), (4, .own 3 0), (5, .own 4 0), (6, jk i (.int (i - 1))), (12, .bool ((e.kids.length : Int) == 0)), (39, .int e.kids.length), (40, .int i), (41, jk i (.bool true))],
    st := [some (.box [.fn (.func 110) [.own 1 0, .own 2 0]]), some (.box [.int a]), some (.box [.int b]), some (.box [.int 0, .int 0, .bool false, .int 0, .nils]), some (.box [.int e.kind, .int e.col, .bool e.val.null, .int e.val.n, .osl 5 5 0 e.kids.length]), some (.arr 5 (Ex.cellsL ((e.kids.map f).take i) ++ List.replicate (e.kids.length - i) zrw))] }
theorem renSS {e : Ex} {a b : Int} {f : Ex → Ex} (hk : e.kids ≠ []) (hl : e.kids.length < 1000000000) (ih : ∀ x ∈ e.kids, callA C0 126 [.i (.iref x.cells), .fn (.func 127) [.own 0 0]] [some (.box [.fn (.func 110) [.own 1 0, .own 2 0]]), some (.box [.int a]), some (.box [.int b])] = some (.i (.agg (f x).cells), [some (.box [.fn (.func 110) [.own 1 0, .own 2 0]]), some (.box [.int a]), some (.box [.int b])])) :
    callA C0 126 [.i (.iref e.cells), .fn (.func 127) [.own 0 0]] [some (.box [.fn (.func 110) [.own 1 0, .own 2 0]]), some (.box [.int a]), some (.box [.int b])] = some (.i (.agg (Ex.mk e.kind e.col e.val (e.kids.map f)).cells), [some (.box [.fn (.func 110) [.own 1 0, .own 2 0]]), some (.box [.int a]), some (.box [.int b])]) := by
  rw [callA_eq rfl Tryz.func126 rfl rfl, Ex.cells_eq]
  have hb : 56 * (e.kids.length : Int) ≤ 281474976710656 := by omega
  simp [hk, hb]
  rw [loop_to (RNS e a b f) e.kids.length (by simp [RNS, Ex.cellsL, zrw])]
  · rw [execA_loop]
    have ht : (e.kids.map f).take e.kids.length = e.kids.map f := List.take_of_length_le (by simp)
    simp [RNS, Ex.cells, ht]
  · intro i hi
    have h3 := List.getElem?_eq_getElem hi
    have hm := List.mem_of_getElem? h3
    have hc := ih _ hm
    have r2 := Ex.cellsL_nth h3
    generalize e.kids[i] = x at h3 hc r2
    have w2 : IntKind.i64.wrap ((i : Int) + 1) = i + 1 := wrap64 (by omega) (by omega)
    rw [Ex.cells_eq] at hc r2
    have hD : (Ex.cellsL ((e.kids.map f).take i)).length = i := by simp; omega
    have hS : Ex.cellsL ((e.kids.map f).take i) ++ [(f x).cells] = Ex.cellsL ((e.kids.map f).take (i + 1)) := by rw [take_snoc (a := f x) (by simp [h3]), Ex.cellsL_snoc]
    have g1 := half_nth (n := e.kids.length) (z := zrw) hD hi
    have g2 := half_set (n := e.kids.length) (z := zrw) (x := (f x).cells) hD hi
    have g3 : splice zrw 0 (f x).cells = some (f x).cells := splice_all (by simp [zrw])
    rw [hS] at g2
    simp [RNS, hi, r2, hc, w2, g1, g2, g3]
theorem renLS {e x : Ex} {a b : Int} (hk : e.kids = []) (h : callA C0 127 [.i (.iref e.cells), .own 0 0] [some (.box [.fn (.func 110) [.own 1 0, .own 2 0]]), some (.box [.int a]), some (.box [.int b])] = some (.i (.agg x.cells), [some (.box [.fn (.func 110) [.own 1 0, .own 2 0]]), some (.box [.int a]), some (.box [.int b])])) :
    callA C0 126 [.i (.iref e.cells), .fn (.func 127) [.own 0 0]] [some (.box [.fn (.func 110) [.own 1 0, .own 2 0]]), some (.box [.int a]), some (.box [.int b])] = some (.i (.agg x.cells), [some (.box [.fn (.func 110) [.own 1 0, .own 2 0]]), some (.box [.int a]), some (.box [.int b])]) := by
  rw [callA_eq rfl Tryz.func126 rfl rfl]
  rw [Ex.cells_eq e] at h ⊢
  rw [Ex.cells_eq x] at h ⊢
  simp [hk, Ex.cellsL] at h ⊢
  simp [h]
theorem replacedS {a b : Int} (ha : 0 ≤ a ∧ a ≤ 6) (hb : 0 ≤ b ∧ b ≤ 6) : ∀ (e : Ex), e.wf 6 = true → e.size < 1000000000 → callA C0 126 [.i (.iref e.cells), .fn (.func 127) [.own 0 0]] [some (.box [.fn (.func 110) [.own 1 0, .own 2 0]]), some (.box [.int a]), some (.box [.int b])] = some (.i (.agg (e.mapC (swapC a b)).cells), [some (.box [.fn (.func 110) [.own 1 0, .own 2 0]]), some (.box [.int a]), some (.box [.int b])]) := by
  intro e
  induction e using Ex.ind with
  | h k c v ks ih =>
    intro hx6 hs
    have hsz := Ex.size_eq (.mk k c v ks)
    have hln := Ex.sizeL_length ks
    simp only [Ex.kids] at hsz
    by_cases h1 : k = 1
    · have hc := Ex.wf_col hx6 (by simpa [Ex.kind] using h1)
      rw [Ex.mapC_col _ (by simpa [Ex.kind] using h1)]
      exact renLS hc.2.2 (ren1_colS ha hb (by simpa [Ex.kind] using h1) ⟨hc.1, hc.2.1⟩)
    · rw [Ex.mapC_not _ (by simpa [Ex.kind] using h1)]
      by_cases hk : ks = []
      · subst hk
        exact renLS rfl (ren1_notS (by simpa [Ex.kind] using h1) hs)
      · exact renSS hk (by simp only [Ex.kids]; omega) fun x hx => ih x hx (Ex.wf_kids hx6 hx) (by have := Ex.sizeL_mem (l := ks) hx; omega)
theorem renumberedS {a b : Int} (ha : 0 ≤ a ∧ a ≤ 6) (hb : 0 ≤ b ∧ b ≤ 6) (e : Ex) (hx6 : e.wf 6 = true) (hs : e.size < 1000000000) : callA C0 108 [.i (.iref e.cells), .fn (.func 110) [.own 0 0, .own 1 0]] [some (.box [.int a]), some (.box [.int b])] = some (.i (.agg (e.mapC (swapC a b)).cells), [some (.box [.int a]), some (.box [.int b])]) := by
  have h := replacedS ha hb e hx6 hs
  rw [callA_eq rfl Tryz.func108 rfl rfl]
  generalize e.mapC (swapC a b) = x at *
  rw [Ex.cells_eq e, Ex.cells_eq x] at *
  simp [h]
end Go.Proofs.YteihcffblfdgfaaGreat.P

namespace Go.Av
theorem orS_nat (a b : Nat) : orS a b = ((a ||| b : Nat) : Int) := by simp [orS]
def accI (k : Int) (v : Val) (l : List Val) (s : Int) (j : Nat) : Int := (l.take j).foldl (fun s w => orS s (stV (Val.cmb k v w))) s
def accO (k : Int) (l r : List Val) (i : Nat) : Int := (l.take i).foldl (fun s v => r.foldl (fun s w => orS s (stV (Val.cmb k v w))) s) 0
theorem accI_succ {k : Int} {v w : Val} {l : List Val} {s : Int} {j : Nat} (h : l[j]? = some w) : accI k v l s (j + 1) = orS (accI k v l s j) (stV (Val.cmb k v w)) := by
  unfold accI; rw [take_snoc h, List.foldl_append]; rfl
theorem accO_succ {k : Int} {v : Val} {l r : List Val} {i : Nat} (h : l[i]? = some v) : accO k l r (i + 1) = accI k v r (accO k l r i) r.length := by
  unfold accO accI; rw [take_snoc h, List.foldl_append, List.take_length]; rfl
def lowN (s : Int) : Prop := ∃ n : Nat, s = n ∧ n < 8
theorem stV_low (v : Val) : lowN (stV v) := by
  unfold stV
  split
  · exact ⟨4, rfl, by omega⟩
  · split
    · exact ⟨1, rfl, by omega⟩
    · exact ⟨2, rfl, by omega⟩
theorem orS_low {a b : Int} (ha : lowN a) (hb : lowN b) : lowN (orS a b) := by
  obtain ⟨m, rfl, hm⟩ := ha
  obtain ⟨n, rfl, hn⟩ := hb
  exact ⟨m ||| n, orS_nat m n, Nat.or_lt_two_pow (n := 3) hm hn⟩
theorem accI_low {k : Int} {v : Val} : ∀ (l : List Val) {s : Int} (j : Nat), lowN s → lowN (accI k v l s j)
  | [], s, j, h => by simpa [accI] using h
  | a :: l, s, 0, h => by simpa [accI] using h
  | a :: l, s, j + 1, h => by
    have := accI_low (k := k) (v := v) l (s := orS s (stV (Val.cmb k v a))) j (orS_low h (stV_low _))
    simpa [accI] using this
theorem accO_low {k : Int} {r : List Val} (l : List Val) (i : Nat) (hi : i ≤ l.length) : lowN (accO k l r i) := by
  induction i with
  | zero => exact ⟨0, by simp [accO], by omega⟩
  | succ i ih =>
    rw [accO_succ (List.getElem?_eq_getElem (show i < l.length by omega))]
    exact accI_low r _ (ih (by omega))
theorem cmbS_acc {k a b : Int} (h : k = 8 ∨ k = 9) : cmbS k a b = accO k (exS a) (exS b) (exS a).length := by
  unfold cmbS accO
  rw [if_pos h, List.take_length]
theorem exS_ok {a : Int} {v : Val} (h : v ∈ exS a) : v.ok = true := by
  unfold exS at h
  simp only [List.mem_append] at h
  rcases h with h | h | h
  · split at h
    · simp at h; subst h; rfl
    · cases h
  · split at h
    · simp at h; subst h; rfl
    · cases h
  · split at h
    · simp at h; subst h; rfl
    · cases h
theorem exS_ne {b : Int} (h : okS b) : exS b ≠ [] := by
  obtain ⟨h1, h2⟩ := h
  have : b = 1 ∨ b = 2 ∨ b = 3 ∨ b = 4 ∨ b = 5 ∨ b = 6 ∨ b = 7 := by omega
  rcases this with rfl | rfl | rfl | rfl | rfl | rfl | rfl <;> decide
theorem exS_len (a : Int) : (exS a).length ≤ 3 := by
  unfold exS; simp only [List.length_append]
  repeat' split
  all_goals simp
end Go.Av
namespace Go.Proofs.YteihcffblfdgfaaGreat.P
open Go Go.Av
set_option maxRecDepth 4000
set_option maxHeartbeats 4000000
theorem mod8 {n : Nat} (h : n < 8) : n % 18446744073709551616 = n := Nat.mod_eq_of_lt (by omega)
theorem or8 {m n : Nat} (hm : m < 8) (hn : n < 8) : IntKind.i64.wrap ((m ||| n : Nat) : Int) = ((m ||| n : Nat) : Int) := by
  have := Nat.or_lt_two_pow (n := 3) hm hn
  exact wrap64 (by omega) (by omega)
def vBx (v : Val) : Option Blk := some (.box [.bool v.null, .int v.n])
def vAt (l : List Val) (i : Nat) : Val := (l[i]?).getD Val.zero
def jz (i : Nat) (v : AV) : AV := if i = 0 then .junk else v
@[simp] theorem jz_0 (v : AV) : jz 0 v = .junk := rfl
@[simp] theorem jz_s (i : Nat) (v : AV) : jz (i + 1) v = v := rfl
theorem jz_pos {i : Nat} (h : i ≠ 0) (v : AV) : jz i v = v := if_neg h
def CSX (k a b : Int) (A B : List Val) (i : Nat) : AS :=
  { env := [(0, .int k), (1, .int a), (2, .int b), (6, .int 0), (7, .int (accO k A B i)), (9, jz i (.own 0 0)), (11, jz i (.own 1 0)), (17, .bool true), (19, .i (.isl (valsL A))), (20, .int A.length), (21, .int i), (22, jz i (.bool true)), (26, jz i (.i (.isl (valsL B)))), (27, jz i (.int B.length)), (28, jz i (.int B.length)), (29, jz i (.bool false)), (46, .junk), (54, .junk), (66, .junk)],
    st := if i = 0 then [] else [vBx (vAt A (i - 1)), vBx (vAt B (B.length - 1))] }
def CSI (k a b : Int) (A B : List Val) (i : Nat) (j : Nat) : AS :=
  { env := [(0, .int k), (1, .int a), (2, .int b), (6, .int 0), (7, .int (accI k (vAt A i) B (accO k A B i) j)), (9, .own 0 0), (11, if j = 0 then jz i (.own 1 0) else .own 1 0), (17, .bool true), (19, .i (.isl (valsL A))), (20, .int A.length), (21, .int i), (22, .bool true), (26, .i (.isl (valsL B))), (27, .int B.length), (28, .int j), (29, if j = 0 then jz i (.bool false) else .bool true), (46, .junk), (54, .junk), (66, .junk)],
    st := vBx (vAt A i) :: (if j = 0 then (if i = 0 then [] else [vBx (vAt B (B.length - 1))]) else [vBx (vAt B (j - 1))]) }
theorem combinedStates_and {k a b : Int} (hk : k = 8 ∨ k = 9) (ha : okS a) (hb : okS b) : callA C0 143 [.int k, .int a, .int b] [] = some (.int (cmbS k a b), []) := by
  have hea := examples_eq (a := a) ⟨by have := ha.1; omega, ha.2⟩
  have heb := examples_eq (a := b) ⟨by have := hb.1; omega, hb.2⟩
  have hbn := exS_ne hb
  have hbl : (exS b).length ≠ 0 := fun h => hbn (List.length_eq_zero_iff.1 h)
  have la := exS_len a
  have lb := exS_len b
  have oka : ∀ v ∈ exS a, v.ok = true := fun v hv => exS_ok hv
  have okb : ∀ v ∈ exS b, v.ok = true := fun v hv => exS_ok hv
  rw [callA_eq rfl Tryz.func143 rfl rfl, cmbS_acc hk]
  generalize exS a = A at *
  generalize exS b = B at *
  rcases hk with rfl | rfl
  · simp [hea]
    rw [loop_to (CSX 8 a b A B) A.length (by simp [CSX, accO])]
    · rw [execA_loop]
      simp [CSX]
    · intro i hi
      have h3 := List.getElem?_eq_getElem hi
      have hm := List.mem_of_getElem? h3
      generalize A[i] = v at h3 hm
      have rA := valsL_nth h3
      have hv : vAt A i = v := by simp [vAt, h3]
      have w2 : IntKind.i64.wrap ((i : Int) + 1) = i + 1 := wrap64 (by omega) (by omega)
      have hlow0 := accO_low (k := 8) (r := B) A i (by omega)
      have hsc := accO_succ (k := 8) (r := B) h3
      have inner : ∀ j, j < B.length → ∃ w, B[j]? = some w ∧ w ∈ B ∧ nthE (valsL B) j = some [.bool w.null, .int w.n] ∧ vAt B j = w ∧ ∃ m n : Nat, accI 8 v B (accO 8 A B i) j = m ∧ stV (Val.cmb 8 v w) = n ∧ m < 8 ∧ n < 8 ∧ accI 8 v B (accO 8 A B i) (j + 1) = ((m ||| n : Nat) : Int) ∧ IntKind.i64.wrap ((m ||| n : Nat) : Int) = ((m ||| n : Nat) : Int) := by
        intro j hj
        have q3 := List.getElem?_eq_getElem hj
        obtain ⟨m, hm1, hm2⟩ := accI_low (k := 8) (v := v) B j hlow0
        obtain ⟨n, hn1, hn2⟩ := stV_low (Val.cmb 8 v B[j])
        refine ⟨B[j], q3, List.getElem_mem hj, valsL_nth q3, by simp [vAt, q3], m, n, hm1, hn1, hm2, hn2, ?_, or8 hm2 hn2⟩
        rw [accI_succ q3, hm1, hn1, orS_nat]
      by_cases h0 : i = 0
      · subst h0
        simp [CSX, hi, rA, heb]
        rw [loop_to (CSI 8 a b A B 0) B.length (by simp [CSI, accI, hv, vBx])]
        · rw [execA_loop]
          simp [CSI, hbl, w2, hv, hsc, CSX, vBx]
        · intro j hj
          obtain ⟨w, q3, qm, q4, q5, m, n, m1, n1, m2, n2, hn, hwr⟩ := inner j hj
          have hcm := combined_eq 8 v w (oka v hm) (okb w qm)
          have hst := istate_eq (Val.cmb 8 v w).null (Val.cmb 8 v w).n
          have w3 : IntKind.i64.wrap ((j : Int) + 1) = j + 1 := wrap64 (by omega) (by omega)
          rw [show stV ⟨(Val.cmb 8 v w).null, (Val.cmb 8 v w).n⟩ = stV (Val.cmb 8 v w) from rfl, n1] at hst
          by_cases j0 : j = 0
          · subst j0
            simp [CSI, hj, hv, q4, q5, vBx, m1, hcm, hst, mod8 m2, mod8 n2, hwr, hn]
          · simp [CSI, hj, hv, q4, q5, vBx, m1, hcm, hst, mod8 m2, mod8 n2, hwr, hn, j0, w3]
      · simp [CSX, hi, rA, heb, h0, jz_pos h0, vBx]
        rw [loop_to (CSI 8 a b A B i) B.length (by simp [CSI, accI, hv, vBx, jz_pos h0, h0])]
        · rw [execA_loop]
          simp [CSI, hbl, w2, hv, hsc, CSX, vBx]
        · intro j hj
          obtain ⟨w, q3, qm, q4, q5, m, n, m1, n1, m2, n2, hn, hwr⟩ := inner j hj
          have hcm := combined_eq 8 v w (oka v hm) (okb w qm)
          have hst := istate_eq (Val.cmb 8 v w).null (Val.cmb 8 v w).n
          have w3 : IntKind.i64.wrap ((j : Int) + 1) = j + 1 := wrap64 (by omega) (by omega)
          rw [show stV ⟨(Val.cmb 8 v w).null, (Val.cmb 8 v w).n⟩ = stV (Val.cmb 8 v w) from rfl, n1] at hst
          by_cases j0 : j = 0
          · subst j0
            simp [CSI, hj, hv, q4, q5, vBx, m1, hcm, hst, mod8 m2, mod8 n2, hwr, hn, jz_pos h0, h0]
          · simp [CSI, hj, hv, q4, q5, vBx, m1, hcm, hst, mod8 m2, mod8 n2, hwr, hn, j0, w3, jz_pos h0, h0]
  · simp [hea]
    rw [loop_to (CSX 9 a b A B) A.length (by simp [CSX, accO])]
    · rw [execA_loop]
      simp [CSX]
    · intro i hi
      have h3 := List.getElem?_eq_getElem hi
      have hm := List.mem_of_getElem? h3
      generalize A[i] = v at h3 hm
      have rA := valsL_nth h3
      have hv : vAt A i = v := by simp [vAt, h3]
      have w2 : IntKind.i64.wrap ((i : Int) + 1) = i + 1 := wrap64 (by omega) (by omega)
      have hlow0 := accO_low (k := 9) (r := B) A i (by omega)
      have hsc := accO_succ (k := 9) (r := B) h3
      have inner : ∀ j, j < B.length → ∃ w, B[j]? = some w ∧ w ∈ B ∧ nthE (valsL B) j = some [.bool w.null, .int w.n] ∧ vAt B j = w ∧ ∃ m n : Nat, accI 9 v B (accO 9 A B i) j = m ∧ stV (Val.cmb 9 v w) = n ∧ m < 8 ∧ n < 8 ∧ accI 9 v B (accO 9 A B i) (j + 1) = ((m ||| n : Nat) : Int) ∧ IntKind.i64.wrap ((m ||| n : Nat) : Int) = ((m ||| n : Nat) : Int) := by
        intro j hj
        have q3 := List.getElem?_eq_getElem hj
        obtain ⟨m, hm1, hm2⟩ := accI_low (k := 9) (v := v) B j hlow0
        obtain ⟨n, hn1, hn2⟩ := stV_low (Val.cmb 9 v B[j])
        refine ⟨B[j], q3, List.getElem_mem hj, valsL_nth q3, by simp [vAt, q3], m, n, hm1, hn1, hm2, hn2, ?_, or8 hm2 hn2⟩
        rw [accI_succ q3, hm1, hn1, orS_nat]
      by_cases h0 : i = 0
      · subst h0
        simp [CSX, hi, rA, heb]
        rw [loop_to (CSI 9 a b A B 0) B.length (by simp [CSI, accI, hv, vBx])]
        · rw [execA_loop]
          simp [CSI, hbl, w2, hv, hsc, CSX, vBx]
        · intro j hj
          obtain ⟨w, q3, qm, q4, q5, m, n, m1, n1, m2, n2, hn, hwr⟩ := inner j hj
          have hcm := combined_eq 9 v w (oka v hm) (okb w qm)
          have hst := istate_eq (Val.cmb 9 v w).null (Val.cmb 9 v w).n
          have w3 : IntKind.i64.wrap ((j : Int) + 1) = j + 1 := wrap64 (by omega) (by omega)
          rw [show stV ⟨(Val.cmb 9 v w).null, (Val.cmb 9 v w).n⟩ = stV (Val.cmb 9 v w) from rfl, n1] at hst
          by_cases j0 : j = 0
          · subst j0
            simp [CSI, hj, hv, q4, q5, vBx, m1, hcm, hst, mod8 m2, mod8 n2, hwr, hn]
          · simp [CSI, hj, hv, q4, q5, vBx, m1, hcm, hst, mod8 m2, mod8 n2, hwr, hn, j0, w3]
      · simp [CSX, hi, rA, heb, h0, jz_pos h0, vBx]
        rw [loop_to (CSI 9 a b A B i) B.length (by simp [CSI, accI, hv, vBx, jz_pos h0, h0])]
        · rw [execA_loop]
          simp [CSI, hbl, w2, hv, hsc, CSX, vBx]
        · intro j hj
          obtain ⟨w, q3, qm, q4, q5, m, n, m1, n1, m2, n2, hn, hwr⟩ := inner j hj
          have hcm := combined_eq 9 v w (oka v hm) (okb w qm)
          have hst := istate_eq (Val.cmb 9 v w).null (Val.cmb 9 v w).n
          have w3 : IntKind.i64.wrap ((j : Int) + 1) = j + 1 := wrap64 (by omega) (by omega)
          rw [show stV ⟨(Val.cmb 9 v w).null, (Val.cmb 9 v w).n⟩ = stV (Val.cmb 9 v w) from rfl, n1] at hst
          by_cases j0 : j = 0
          · subst j0
            simp [CSI, hj, hv, q4, q5, vBx, m1, hcm, hst, mod8 m2, mod8 n2, hwr, hn, jz_pos h0, h0]
          · simp [CSI, hj, hv, q4, q5, vBx, m1, hcm, hst, mod8 m2, mod8 n2, hwr, hn, j0, w3, jz_pos h0, h0]
end Go.Proofs.YteihcffblfdgfaaGreat.P

namespace Go.Proofs.YteihcffblfdgfaaGreat.P
open Go Go.Av
set_option maxRecDepth 4000
set_option maxHeartbeats 8000000
theorem or_tab : ∀ m n : Fin 8, ((m.val ||| n.val) &&& 4 = 0 ∧ hasS (orS m.val n.val) 4 = false) ∨ ((m.val ||| n.val) &&& 4 = 4 ∧ hasS (orS m.val n.val) 4 = true) := by decide
theorem or_four {m n : Nat} (hm : m < 8) (hn : n < 8) : ((m ||| n) &&& 4 = 0 ∧ hasS (orS m n) 4 = false) ∨ ((m ||| n) &&& 4 = 4 ∧ hasS (orS m n) 4 = true) := or_tab ⟨m, hm⟩ ⟨n, hn⟩
theorem low_tab : ∀ m : Fin 8, (m.val &&& 18446744073709551611 = 0 ∧ (hasS m.val 1 || hasS m.val 2) = false) ∨ ((m.val &&& 18446744073709551611 = 1 ∨ m.val &&& 18446744073709551611 = 2 ∨ m.val &&& 18446744073709551611 = 3) ∧ (hasS m.val 1 || hasS m.val 2) = true) := by decide
theorem low_any {m : Nat} (hm : m < 8) : ∃ v : Nat, m &&& 18446744073709551611 = v ∧ IntKind.i64.wrap (v : Int) = v ∧ ((v = 0 ∧ (hasS m 1 || hasS m 2) = false) ∨ (¬ v = 0 ∧ (hasS m 1 || hasS m 2) = true)) := by
  rcases low_tab ⟨m, hm⟩ with ⟨h, q⟩ | ⟨h | h | h, q⟩
  · exact ⟨0, h, by decide, .inl ⟨rfl, q⟩⟩
  · exact ⟨1, h, by decide, .inr ⟨by omega, q⟩⟩
  · exact ⟨2, h, by decide, .inr ⟨by omega, q⟩⟩
  · exact ⟨3, h, by decide, .inr ⟨by omega, q⟩⟩
theorem combinedStates_rest {k : Int} (hk : 3 ≤ k ∧ k ≠ 8 ∧ k ≠ 9) {m n : Nat} (hm : m < 8) (hn : n < 8) : callA C0 143 [.int k, .int m, .int n] [] = some (.int (cmbS k m n), []) := by
  rw [callA_eq rfl Tryz.func143 rfl rfl]
  have h1 := mod8 hm
  have h2 := mod8 hn
  have h3 := or8 hm hn
  have h4 : (m ||| n) % 18446744073709551616 = m ||| n := mod8 (Nat.or_lt_two_pow (n := 3) hm hn)
  obtain ⟨x, x1, x2, x3⟩ := low_any hm
  obtain ⟨y, y1, y2, y3⟩ := low_any hn
  have k8 : ¬ k = 8 := hk.2.1
  have k9 : ¬ k = 9 := hk.2.2
  have e7 : orS 0 7 = 7 := by decide
  have e3 : orS 0 3 = 3 := by decide
  have e47 : orS 4 7 = 7 := by decide
  have e43 : orS 4 3 = 7 := by decide
  have e40 : orS 4 0 = 4 := by decide
  have e00 : orS 0 0 = 0 := by decide
  by_cases k6 : k < 6
  · have hk3 : k = 3 ∨ k = 4 ∨ k = 5 := by omega
    rcases hk3 with rfl | rfl | rfl
    · rcases or_four hm hn with ⟨p, q⟩ | ⟨p, q⟩
      · rcases x3 with ⟨x3, x4⟩ | ⟨x3, x4⟩
        · simp [h1, h2, h3, h4, p, x1, x2, x3, cmbS, q, x4, e00]
        · rcases y3 with ⟨y3, y4⟩ | ⟨y3, y4⟩
          · simp [h1, h2, h3, h4, p, x1, x2, x3, y1, y2, y3, cmbS, q, x4, y4, e00]
          · simp [h1, h2, h3, h4, p, x1, x2, x3, y1, y2, y3, cmbS, q, x4, y4, e7, e3]
      · rcases x3 with ⟨x3, x4⟩ | ⟨x3, x4⟩
        · simp [h1, h2, h3, h4, p, x1, x2, x3, cmbS, q, x4, e40]
        · rcases y3 with ⟨y3, y4⟩ | ⟨y3, y4⟩
          · simp [h1, h2, h3, h4, p, x1, x2, x3, y1, y2, y3, cmbS, q, x4, y4, e40]
          · simp [h1, h2, h3, h4, p, x1, x2, x3, y1, y2, y3, cmbS, q, x4, y4, e47, e43]
    · rcases or_four hm hn with ⟨p, q⟩ | ⟨p, q⟩
      · rcases x3 with ⟨x3, x4⟩ | ⟨x3, x4⟩
        · simp [h1, h2, h3, h4, p, x1, x2, x3, cmbS, q, x4, e00]
        · rcases y3 with ⟨y3, y4⟩ | ⟨y3, y4⟩
          · simp [h1, h2, h3, h4, p, x1, x2, x3, y1, y2, y3, cmbS, q, x4, y4, e00]
          · simp [h1, h2, h3, h4, p, x1, x2, x3, y1, y2, y3, cmbS, q, x4, y4, e7, e3]
      · rcases x3 with ⟨x3, x4⟩ | ⟨x3, x4⟩
        · simp [h1, h2, h3, h4, p, x1, x2, x3, cmbS, q, x4, e40]
        · rcases y3 with ⟨y3, y4⟩ | ⟨y3, y4⟩
          · simp [h1, h2, h3, h4, p, x1, x2, x3, y1, y2, y3, cmbS, q, x4, y4, e40]
          · simp [h1, h2, h3, h4, p, x1, x2, x3, y1, y2, y3, cmbS, q, x4, y4, e47, e43]
    · rcases or_four hm hn with ⟨p, q⟩ | ⟨p, q⟩
      · rcases x3 with ⟨x3, x4⟩ | ⟨x3, x4⟩
        · simp [h1, h2, h3, h4, p, x1, x2, x3, cmbS, q, x4, e00]
        · rcases y3 with ⟨y3, y4⟩ | ⟨y3, y4⟩
          · simp [h1, h2, h3, h4, p, x1, x2, x3, y1, y2, y3, cmbS, q, x4, y4, e00]
          · simp [h1, h2, h3, h4, p, x1, x2, x3, y1, y2, y3, cmbS, q, x4, y4, e7, e3]
      · rcases x3 with ⟨x3, x4⟩ | ⟨x3, x4⟩
        · simp [h1, h2, h3, h4, p, x1, x2, x3, cmbS, q, x4, e40]
        · rcases y3 with ⟨y3, y4⟩ | ⟨y3, y4⟩
          · simp [h1, h2, h3, h4, p, x1, x2, x3, y1, y2, y3, cmbS, q, x4, y4, e40]
          · simp [h1, h2, h3, h4, p, x1, x2, x3, y1, y2, y3, cmbS, q, x4, y4, e47, e43]
  · have k3 : ¬ k = 3 := by omega
    have k4 : ¬ k = 4 := by omega
    have k5 : ¬ k = 5 := by omega
    rcases or_four hm hn with ⟨p, q⟩ | ⟨p, q⟩
    · rcases x3 with ⟨x3, x4⟩ | ⟨x3, x4⟩
      · simp [h1, h2, h3, h4, p, x1, x2, x3, cmbS, q, x4, e00, k3, k4, k5, k6, k8, k9]
      · rcases y3 with ⟨y3, y4⟩ | ⟨y3, y4⟩
        · simp [h1, h2, h3, h4, p, x1, x2, x3, y1, y2, y3, cmbS, q, x4, y4, e00, k3, k4, k5, k6, k8, k9]
        · simp [h1, h2, h3, h4, p, x1, x2, x3, y1, y2, y3, cmbS, q, x4, y4, e7, e3, k3, k4, k5, k6, k8, k9]
    · rcases x3 with ⟨x3, x4⟩ | ⟨x3, x4⟩
      · simp [h1, h2, h3, h4, p, x1, x2, x3, cmbS, q, x4, e40, k3, k4, k5, k6, k8, k9]
      · rcases y3 with ⟨y3, y4⟩ | ⟨y3, y4⟩
        · simp [h1, h2, h3, h4, p, x1, x2, x3, y1, y2, y3, cmbS, q, x4, y4, e40, k3, k4, k5, k6, k8, k9]
        · simp [h1, h2, h3, h4, p, x1, x2, x3, y1, y2, y3, cmbS, q, x4, y4, e47, e43, k3, k4, k5, k6, k8, k9]
end Go.Proofs.YteihcffblfdgfaaGreat.P

namespace Go.Av
theorem Ex.wf_shape {w : Int} {e : Ex} (h : e.wf w = true) : (e.kind = 1 ∧ 0 ≤ e.col ∧ e.col < w ∧ e.kids = []) ∨ (e.kind = 2 ∧ e.kids = []) ∨ ((e.kind = 10 ∨ e.kind = 11) ∧ ∃ x, e.kids = [x] ∧ x.wf w = true) ∨ ((3 ≤ e.kind ∧ e.kind ≤ 9) ∧ ∃ x y, e.kids = [x, y] ∧ x.wf w = true ∧ y.wf w = true) := by
  have hk : ∀ x ∈ e.kids, x.wf w = true := fun x hx => Ex.wf_kids h hx
  by_cases h1 : e.kind = 1
  · have := Ex.wf_col h h1; exact .inl ⟨h1, this.1, this.2.1, this.2.2⟩
  rw [Ex.wf_eq] at h
  simp only [Bool.and_eq_true, decide_eq_true_eq] at h
  have hl := h.1
  unfold kidsK at hl
  split at hl
  · rename_i hc
    exact .inr (.inl ⟨by omega, List.length_eq_zero_iff.1 (by omega)⟩)
  · split at hl
    · rename_i hc
      obtain ⟨x, hx⟩ := list_one (show e.kids.length = 1 by omega)
      exact .inr (.inr (.inl ⟨hc, x, hx, hk x (by simp [hx])⟩))
    · split at hl
      · rename_i hc
        obtain ⟨x, y, hx⟩ := list_two (show e.kids.length = 2 by omega)
        exact .inr (.inr (.inr ⟨hc, x, y, hx, hk x (by simp [hx]), hk y (by simp [hx])⟩))
      · omega
theorem outS_ok {W : Int} (st : List Int) (hl : (st.length : Int) = W) (hs : ∀ a ∈ st, okS a) : ∀ e : Ex, e.wf W = true → okS (outS st e) := by
  intro e
  induction e using Ex.ind with
  | h k c v ks ih =>
    intro hw
    rw [outS_eq]
    rcases Ex.wf_shape hw with ⟨h1, h2, h3, h4⟩ | ⟨h1, h2⟩ | ⟨h1, x, h2, h3⟩ | ⟨h1, x, y, h2, h3, h4⟩
    · rw [if_pos h1]
      generalize Ex.col (.mk k c v ks) = cc at *
      have hlt : cc.toNat < st.length := by omega
      rw [List.getElem?_eq_getElem hlt]
      exact hs _ (List.getElem_mem hlt)
    · rw [if_neg (by omega), if_pos h1]; exact stV_ok _
    · have hx := ih x (by simp only [Ex.kids] at h2; simp [h2]) h3
      obtain ⟨n, hn⟩ := Int.eq_ofNat_of_zero_le (show 0 ≤ outS st x by have := hx.1; omega)
      have ht := notS_tab ⟨n, by have := hx.2; omega⟩ (by have := hx.1; simp; omega)
      rw [if_neg (by omega), if_neg (by omega), h2]
      simp only [List.getElem?_cons_zero, Option.map_some, Option.getD_some, hn]
      rcases h1 with h1 | h1
      · rw [if_pos h1]; exact ht.1
      · rw [if_neg (by omega), if_pos h1]; exact ht.2
    · have hx := ih x (by simp only [Ex.kids] at h2; simp [h2]) h3
      have hy := ih y (by simp only [Ex.kids] at h2; simp [h2]) h4
      rw [if_neg (by omega), if_neg (by omega), if_neg (by omega), if_neg (by omega), h2]
      exact cmbS_ok hx hy
end Go.Av
namespace Go.Proofs.YteihcffblfdgfaaGreat.P
open Go Go.Av
set_option maxRecDepth 4000
set_option maxHeartbeats 8000000
theorem seven {a : Int} (h : okS a) : a = 1 ∨ a = 2 ∨ a = 3 ∨ a = 4 ∨ a = 5 ∨ a = 6 ∨ a = 7 := by have := h.1; have := h.2; omega
theorem icomb_all {k a b : Int} (hk : 3 ≤ k) (ha : okS a) (hb : okS b) : callA C0 143 [.int k, .int a, .int b] [] = some (.int (cmbS k a b), []) := by
  by_cases h : k = 8 ∨ k = 9
  · exact combinedStates_and h ha hb
  · obtain ⟨m, rfl⟩ := Int.eq_ofNat_of_zero_le (show 0 ≤ a by have := ha.1; omega)
    obtain ⟨n, rfl⟩ := Int.eq_ofNat_of_zero_le (show 0 ≤ b by have := hb.1; omega)
    exact combinedStates_rest ⟨hk, by omega, by omega⟩ (by have := ha.2; omega) (by have := hb.2; omega)
theorem ioutcomes_eq {W : Int} (st : List Int) (hl : (st.length : Int) = W) (hs : ∀ a ∈ st, okS a) : ∀ e : Ex, e.wf W = true → callA C0 128 [.i (.iref e.cells), .i (.isl (intsL st))] [] = some (.int (outS st e), []) := by
  intro e
  induction e using Ex.ind with
  | h k c v ks ih =>
    intro hw
    have hall := outS_ok st hl hs
    rw [callA_eq rfl Tryz.func128 rfl rfl, Ex.cells_eq, outS_eq]
    rcases Ex.wf_shape hw with ⟨h1, h2, h3, h4⟩ | ⟨h1, h2⟩ | ⟨h1, x, h2, h3⟩ | ⟨h1, x, y, h2, h3, h4⟩
    · generalize Ex.mk k c v ks = e at *
      have hlt : e.col.toNat < st.length := by omega
      have h5 := List.getElem?_eq_getElem hlt
      generalize st[e.col.toNat] = s at h5
      have r2 := intsL_nth h5
      obtain ⟨_, h6⟩ := List.getElem?_eq_some_iff.1 h5
      simp [h1, h2, r2, h6, show e.col < st.length by omega]
    · generalize Ex.mk k c v ks = e at *
      have hst := istate_eq e.val.null e.val.n
      simp [h1, hst]
    · have hx := ih x (by simp only [Ex.kids] at h2; simp [h2]) h3
      have ho := hall x h3
      generalize Ex.mk k c v ks = e at *
      generalize hso : outS st x = s at hx ho
      rw [Ex.cells_eq] at hx
      rcases h1 with h1 | h1
      · rcases seven ho with rfl | rfl | rfl | rfl | rfl | rfl | rfl <;> (simp [h1, h2, Ex.cellsL, Ex.cells_eq x, hx, hso]; try decide)
      · rcases seven ho with rfl | rfl | rfl | rfl | rfl | rfl | rfl <;> (simp [h1, h2, Ex.cellsL, Ex.cells_eq x, hx, hso]; try decide)
    · have hx := ih x (by simp only [Ex.kids] at h2; simp [h2]) h3
      have hy := ih y (by simp only [Ex.kids] at h2; simp [h2]) h4
      have ho := hall x h3
      have hp := hall y h4
      generalize Ex.mk k c v ks = e at *
      have hc := icomb_all (k := e.kind) h1.1 ho hp
      generalize hso : outS st x = s at hx ho hc
      generalize hto : outS st y = t at hy hp hc
      rw [Ex.cells_eq] at hx hy
      have q1 : ¬ e.kind = 1 := by omega
      have q2 : ¬ e.kind = 2 := by omega
      have q3 : ¬ e.kind = 10 := by omega
      have q4 : ¬ e.kind = 11 := by omega
      simp [q1, q2, q3, q4, h2, Ex.cellsL, Ex.cells_eq x, Ex.cells_eq y, hx, hy, hc, hso, hto]
end Go.Proofs.YteihcffblfdgfaaGreat.P

namespace Go.Av
theorem intsL_rep (n : Nat) (x : Int) : intsL (List.replicate n x) = List.replicate n [.int x] := by
  induction n with
  | zero => rfl
  | succ n ih => simp [List.replicate_succ, intsL, ih]
theorem intsL_set : ∀ (l : List Int) (i : Nat) (x : Int), (intsL l).set i [.int x] = intsL (l.set i x)
  | [], i, x => by simp [intsL]
  | a :: l, 0, x => by simp [intsL]
  | a :: l, i + 1, x => by simp [intsL, intsL_set l i x]
def st1 (n i : Nat) : List Int := List.replicate i 7 ++ List.replicate (n - i) 0
def st2 (p m i : Nat) : List Int := List.replicate p 7 ++ (List.replicate i 4 ++ List.replicate (m - i) 7)
theorem rep_nth {a b : Int} {n i : Nat} (h : i < n) : (List.replicate i a ++ List.replicate (n - i) b)[i]? = some b := by
  rw [List.getElem?_append_right (by simp)]
  have : 0 < n - i := by omega
  simp [List.getElem?_replicate, this]
theorem rep_set {a b : Int} {n i : Nat} (h : i < n) : (List.replicate i a ++ List.replicate (n - i) b).set i a = List.replicate (i + 1) a ++ List.replicate (n - (i + 1)) b := by
  rw [List.set_append_right _ _ (by simp)]
  rw [show n - i = (n - (i + 1)) + 1 by omega, List.replicate_succ, List.replicate_succ']
  simp
theorem st1_nth {n i : Nat} (h : i < n) : (st1 n i)[i]? = some 0 := rep_nth h
theorem st1_set {n i : Nat} (h : i < n) : (st1 n i).set i 7 = st1 n (i + 1) := rep_set h
theorem st2_nth {p m i : Nat} (h : i < m) : (st2 p m i)[p + i]? = some 7 := by
  unfold st2
  rw [List.getElem?_append_right (by simp)]
  simpa using rep_nth (a := 4) (b := 7) h
theorem st2_set {p m i : Nat} (h : i < m) : (st2 p m i).set (p + i) 4 = st2 p m (i + 1) := by
  unfold st2
  rw [List.set_append_right _ _ (by simp)]
  simp only [List.length_replicate, Nat.add_sub_cancel_left]
  rw [rep_set h]
theorem st1_all {p m : Nat} : st1 (p + m) (p + m) = st2 p m 0 := by
  simp [st1, st2, List.replicate_append_replicate]
theorem st2_all (p m : Nat) : st2 p m m = nulls ((p + m : Nat) : Int) p := by
  unfold st2 nulls
  apply List.ext_getElem?
  intro i
  simp only [Nat.sub_self, List.replicate_zero, List.append_nil, Int.toNat_natCast, List.getElem?_map]
  by_cases h : i < p
  · rw [List.getElem?_append_left (by simpa using h)]
    simp [h, show i < p + m by omega]
  · rw [List.getElem?_append_right (by simp; omega)]
    by_cases h2 : i < p + m
    · simp [h2, show i - p < m by omega, show p ≤ i by omega]
    · simp [h2, show ¬ i - p < m by omega]
@[simp] theorem st2_length {p m i : Nat} (h : i ≤ m) : (st2 p m i).length = p + m := by simp [st2]; omega
def colsI (p m : Nat) : List Int := (List.range m).map fun (i : Nat) => ((p + i : Nat) : Int)
@[simp] theorem colsI_length (p m : Nat) : (colsI p m).length = m := by simp [colsI]
theorem colsI_nth {p m i : Nat} (h : i < m) : (colsI p m)[i]? = some ((p + i : Nat) : Int) := by simp [colsI, h]
theorem colsI_succ (p m : Nat) : colsI p (m + 1) = colsI p m ++ [((p + m : Nat) : Int)] := by simp [colsI, List.range_succ]
theorem nulls_ok (W left : Int) : ∀ a ∈ nulls W left, okS a := by
  intro a ha
  unfold nulls at ha
  obtain ⟨i, -, rfl⟩ := List.mem_map.1 ha
  unfold okS
  split <;> omega
theorem nulls_length (W left : Int) : (nulls W left).length = W.toNat := by simp [nulls]
theorem two_tab : ∀ a : Fin 8, (a.val &&& 2 = 0 ∧ hasS a.val 2 = false) ∨ (a.val &&& 2 = 2 ∧ hasS a.val 2 = true) := by decide
end Go.Av
namespace Go.Proofs.YteihcffblfdgfaaGreat.P
open Go Go.Av
set_option maxRecDepth 4000
set_option maxHeartbeats 8000000
def RJ1 (e : Ex) (l : List Int) (n : Nat) (i : Nat) : AS :=
  { env := [(0, .i (.agg [.int e.kind, .int e.col, .bool e.val.null, .int e.val.n, .isl (Ex.cellsL e.kids)])), (1, .int n), (2, .i (.isl (intsL l))), (3, .own 0 0), (6, .bool false), (7, .osl 1 1 0 n), (8, jk i (.int (i - 1))), (10, .junk), (14, .bool false), (18, .int n), (19, .int i), (20, jk i (.bool true)), (26, .junk), (27, .junk), (28, .junk), (29, .junk), (38, .junk)],
    st := [some (.box [.int e.kind, .int e.col, .bool e.val.null, .int e.val.n, .i (.isl (Ex.cellsL e.kids))]), some (.arr 1 (intsL (st1 n i)))] }
def RJ2 (e : Ex) (n p m : Nat) (i : Nat) : AS :=
  { env := [(0, .i (.agg [.int e.kind, .int e.col, .bool e.val.null, .int e.val.n, .isl (Ex.cellsL e.kids)])), (1, .int n), (2, .i (.isl (intsL (colsI p m)))), (3, .own 0 0), (6, .bool false), (7, .osl 1 1 0 n), (8, .int (n - 1)), (10, jk i (.int ((p : Int) + i - 1))), (14, .bool false), (18, .int n), (19, .int n), (20, .bool false), (26, .i (.isl (intsL (colsI p m)))), (27, .int m), (28, .int i), (29, jk i (.bool true)), (38, jk i (.bool true))],
    st := [some (.box [.int e.kind, .int e.col, .bool e.val.null, .int e.val.n, .i (.isl (Ex.cellsL e.kids))]), some (.arr 1 (intsL (st2 p m i)))] }
theorem irejects_eq (e : Ex) {n p m : Nat} (hn : n = p + m) (h : e.ok n = true) : callA C0 112 [.i (.agg e.cells), .int n, .i (.isl (intsL (colsI p m)))] [] = some (.bool (rejP e n p), []) := by
  have hok := ok_eq n e
  rw [h] at hok
  obtain ⟨hw, g1, g2⟩ := Ex.ok_wf h
  have hlen : ((nulls n p).length : Int) = (n : Int) := by rw [nulls_length]; omega
  have ho := ioutcomes_eq (nulls n p) hlen (nulls_ok _ _) e hw
  have hs := outS_ok (nulls n p) hlen (nulls_ok _ _) e hw
  rw [callA_eq rfl Tryz.func112 rfl rfl]
  unfold rejP
  generalize outS (nulls n p) e = s at ho hs
  obtain ⟨s, rfl⟩ := Int.eq_ofNat_of_zero_le (show 0 ≤ s by have := hs.1; omega)
  have hs8 : s < 8 := by have := hs.2; omega
  have hall := st2_all p m
  rw [← hn] at hall
  rw [← hall] at ho
  rw [Ex.cells_eq] at *
  have hb : 8 * (n : Int) ≤ 281474976710656 := by omega
  have hz := intsL_rep n 0
  have hz1 : st1 n 0 = List.replicate n 0 := by simp [st1]
  have hs1 : st1 n n = st2 p m 0 := by rw [hn]; exact st1_all
  have hl2 : ∀ i, i ≤ m → (st2 p m i).length = n := fun i hi => by rw [st2_length hi, hn]
  have hl3 : (st2 p m m).take n = st2 p m m := List.take_of_length_le (by rw [hl2 m (Nat.le_refl m)]; exact Nat.le_refl n)
  simp [hok, hb]
  rw [loop_to (RJ1 e (colsI p m) n) n (by simp [RJ1, hz1, hz])]
  · rw [execA_loop]
    simp [RJ1]
    rw [loop_to (RJ2 e n p m) m (by simp [RJ2, hs1, jk_pos (show n ≠ 0 by omega)])]
    · rw [execA_loop]
      have h2 := two_tab ⟨s, hs8⟩
      rcases h2 with ⟨h2, h3⟩ | ⟨h2, h3⟩
      · simp at h2 h3
        simp [RJ2, ho, mod8 hs8, h2, h3, hl2, hl3]
      · simp at h2 h3
        simp [RJ2, ho, mod8 hs8, h2, h3, hl2, hl3]
    · intro i hi
      have h3 := colsI_nth (p := p) hi
      have r2 := intsL_nth h3
      have r3 := intsL_nth (st2_nth (p := p) hi)
      have hset := st2_set (p := p) hi
      have hin : ((p : Int) + i) < n := by omega
      have hl := hl2 i (by omega)
      have hin2 : p + i < n := by omega
      have hin0 : 0 ≤ (p : Int) + i := by omega
      have w2 : IntKind.i64.wrap ((i : Int) + 1) = i + 1 := wrap64 (by omega) (by omega)
      simp [RJ2, hi, r2, r3, w2, intsL_set, hset, hin, hin0, hl, show ((p : Int) + i).toNat = p + i by omega]
      omega
  · intro i hi
    have r3 := intsL_nth (st1_nth hi)
    have hset := st1_set hi
    have w2 : IntKind.i64.wrap ((i : Int) + 1) = i + 1 := wrap64 (by omega) (by omega)
    simp [RJ1, hi, r3, w2, intsL_set, hset]
end Go.Proofs.YteihcffblfdgfaaGreat.P

namespace Go.Av
theorem nulls_nth {n p i : Nat} (h : i < n) : (nulls n p)[i]? = some (if p ≤ i then 4 else 7) := by
  have : i < (nulls (n : Int) p).length := by rw [nulls_length]; simpa using h
  unfold nulls
  simp [h]
end Go.Av
namespace Go.Proofs.YteihcffblfdgfaaGreat.P
open Go Go.Av
set_option maxRecDepth 4000
set_option maxHeartbeats 8000000
def CLX (n p : Nat) (i : Nat) : AS :=
  { env := [(0, .int p), (1, .int n), (4, .nils), (5, .osl 0 1 0 i), (6, .int ((p : Int) + i)), (11, jk i (.bool true))], st := [some (.arr 1 (intsL (colsI p i)))] }
theorem columnList_eq {n p m : Nat} (hn : n = p + m) (hb : n < 1000) : callA C0 134 [.int p, .int n] [] = some (.i (.isl (intsL (colsI p m))), []) := by
  rw [callA_eq rfl Tryz.func134 rfl rfl]
  simp
  rw [loop_to (CLX n p) m (by simp [CLX, colsI, intsL])]
  · rw [execA_loop]
    have h1 : ¬ ((p : Int) + m < n) := by omega
    have h2 : (colsI p m).take m = colsI p m := List.take_of_length_le (by simp)
    simp [CLX, h1, h2]
  · intro i hi
    have h1 : ((p : Int) + i < n) := by omega
    have w2 : IntKind.i64.wrap ((p : Int) + i + 1) = (p : Int) + (i + 1) := by rw [wrap64 (by omega) (by omega)]; omega
    have hl : (i + 1) * 8 ≤ 140737488355328 := by omega
    have h2 : (colsI p i).take i = colsI p i := List.take_of_length_le (by simp)
    simp [CLX, h1, w2, hl, h2, colsI_succ, intsL_snoc]
def nsS (p i k : Nat) : Int := if p ≤ i ∧ i < p + k then 4 else 7
def nsB (p m i : Nat) : AV := if m = 0 then .junk else jk i (.bool (decide ((p : Int) + (m - 1) = i - 1)))
@[simp] theorem idsOf_nsB (p m i : Nat) : idsOf (nsB p m i) = [] := by unfold nsB; split <;> simp
@[simp] theorem ren_nsB (r : Nat → Option Nat) (p m i : Nat) : ren r (nsB p m i) = nsB p m i := by unfold nsB; split <;> simp
def NSO (n p m : Nat) (i : Nat) : AS :=
  { env := [(0, .int n), (1, .i (.isl (intsL (colsI p m)))), (4, .nils), (5, .osl 0 1 0 i), (6, .int i), (7, jk i (.int (nsS p (i - 1) m))), (8, jk i (.int m)), (12, jk i (.bool true)), (18, jk i (.bool false)), (26, nsB p m i)], st := [some (.arr 1 (intsL ((nulls n p).take i)))] }
def NSI (n p m : Nat) (i k : Nat) : AS :=
  { env := [(0, .int n), (1, .i (.isl (intsL (colsI p m)))), (4, .nils), (5, .osl 0 1 0 i), (6, .int i), (7, .int (nsS p i k)), (8, .int k), (12, .bool true), (18, if k = 0 then jk i (.bool false) else .bool true), (26, if k = 0 then nsB p m i else .bool (decide ((p : Int) + (k - 1) = i)))], st := [some (.arr 1 (intsL ((nulls n p).take i)))] }
theorem nullStates_eq {n p m : Nat} (hn : n = p + m) (hb : n < 1000) : callA C0 146 [.int n, .i (.isl (intsL (colsI p m)))] [] = some (.i (.isl (intsL (nulls n p))), []) := by
  rw [callA_eq rfl Tryz.func146 rfl rfl]
  have hnl : (nulls (n : Int) p).length = n := by rw [nulls_length]; omega
  simp
  rw [loop_to (NSO n p m) n (by simp [NSO, intsL, nsB])]
  · rw [execA_loop]
    have h2 : (nulls (n : Int) p).take n = nulls n p := List.take_of_length_le (by omega)
    simp [NSO, h2, hnl]
  · intro i hi
    have w2 : IntKind.i64.wrap ((i : Int) + 1) = i + 1 := wrap64 (by omega) (by omega)
    have h3 := nulls_nth (p := p) hi
    have htk := take_snoc h3
    have hl : (i + 1) * 8 ≤ 140737488355328 := by omega
    have hsm : nsS p i m = if p ≤ i then 4 else 7 := by unfold nsS; by_cases h : p ≤ i <;> simp [h]; omega
    have hlt : ((nulls (n : Int) p).take i).length = i := by simp [hnl]; omega
    have htt : ((nulls (n : Int) p).take i).take i = (nulls (n : Int) p).take i := List.take_of_length_le (by omega)
    simp only [← hsm] at htk
    simp [NSO, hi]
    rw [loop_to (NSI n p m i) m (by simp [NSI, nsS]; try omega)]
    · rw [execA_loop]
      by_cases hm : m = 0
      · subst hm
        simp [NSI, NSO, w2, hl, htk, intsL_snoc, hlt, htt, nsB]
      · by_cases h0 : i = 0
        · subst h0
          simp [NSI, NSO, hl, htk, intsL_snoc, nsB, hm, intsL]
        · simp [NSI, NSO, w2, hl, htk, intsL_snoc, hlt, htt, nsB, hm]
    · intro k hk
      have h5 := colsI_nth (p := p) hk
      have r2 := intsL_nth h5
      have w3 : IntKind.i64.wrap ((k : Int) + 1) = k + 1 := wrap64 (by omega) (by omega)
      have e1 : ∀ x : AV, (if (k + 1 = 0) then x else (AV.bool (decide ((p : Int) + ((k + 1 : Nat) - 1) = i)))) = AV.bool (decide ((p : Int) + k = i)) := by intro x; simp
      by_cases he : (p : Int) + k = i
      · have hs : nsS p i (k + 1) = 4 := by unfold nsS; rw [if_pos (by omega)]
        by_cases k0 : k = 0
        · subst k0; simp at he; simp [NSI, hk, r2, hs, he]
        · simp [NSI, hk, r2, w3, hs, he, k0]
      · have hs : nsS p i (k + 1) = nsS p i k := by
          unfold nsS
          by_cases hp : p ≤ i ∧ i < p + k
          · rw [if_pos hp, if_pos (by omega)]
          · rw [if_neg hp, if_neg (by omega)]
        by_cases k0 : k = 0
        · subst k0; simp at he; simp [NSI, hk, r2, hs, he]
        · simp [NSI, hk, r2, w3, hs, he, k0]
end Go.Proofs.YteihcffblfdgfaaGreat.P

namespace Go.Av
def valX (x : Int) : Val := ⟨decide (x = 4), if x = 2 then 1 else 0⟩
def tsI (k a b x s : Int) (j : Nat) : Int := (([1, 2, 4] : List Int).take j).foldl (fun s y => if (hasS a x && hasS b y) = true then orS s (stV (Val.cmb k (valX x) (valX y))) else s) s
def tsO (k a b : Int) (i : Nat) : Int := (([1, 2, 4] : List Int).take i).foldl (fun s x => tsI k a b x s 3) 0
theorem tsI_low {k a b x s : Int} (hs : lowN s) (j : Nat) : lowN (tsI k a b x s j) := by
  unfold tsI
  generalize (([1, 2, 4] : List Int).take j) = l
  induction l generalizing s with
  | nil => simpa using hs
  | cons y l ih =>
    simp only [List.foldl_cons]
    apply ih
    split
    · exact orS_low hs (stV_low _)
    · exact hs
theorem tsO_low {k a b : Int} (i : Nat) : lowN (tsO k a b i) := by
  unfold tsO
  have : ∀ (l : List Int) (s : Int), lowN s → lowN (l.foldl (fun s x => tsI k a b x s 3) s) := by
    intro l
    induction l with
    | nil => intro s hs; simpa using hs
    | cons y l ih => intro s hs; exact ih _ (tsI_low hs 3)
  exact this _ _ ⟨0, rfl, by omega⟩
theorem ts_tab : ∀ a b : Fin 8, tsO 8 a.val b.val 3 = cmbS 8 a.val b.val ∧ tsO 9 a.val b.val 3 = cmbS 9 a.val b.val := by decide
end Go.Av
namespace Go.Proofs.YteihcffblfdgfaaGreat.P
open Go Go.Av
set_option maxRecDepth 4000
set_option maxHeartbeats 8000000
theorem struth_eq (b : Bool) (n : Int) : callA C0 164 [.i (.agg [.bool b, .int n])] [] = some (.int (if b = true then 2 else if n = 0 then 0 else 1), []) := by
  rw [callA_eq rfl Tryz.func164 rfl rfl]
  cases b
  · by_cases h : n = 0 <;> simp [h]
  · simp
theorem snot_eq (t : Int) (h : 0 ≤ t ∧ t ≤ 2) : callA C0 165 [.int t] [] = some (.int (if t = 2 then 2 else 1 - t), []) := by
  rw [callA_eq rfl Tryz.func165 rfl rfl]
  have : t = 0 ∨ t = 1 ∨ t = 2 := by omega
  rcases this with rfl | rfl | rfl <;> simp
theorem sand_eq (s t : Int) : callA C0 163 [.int s, .int t] [] = some (.int (if s = 0 ∨ t = 0 then 0 else if s = 1 ∧ t = 1 then 1 else 2), []) := by
  rw [callA_eq rfl Tryz.func163 rfl rfl]
  by_cases h1 : s = 0
  · simp [h1]
  · by_cases h2 : t = 0
    · simp [h1, h2]
    · by_cases h3 : s = 1
      · by_cases h4 : t = 1
        · simp [h3, h4]
        · simp [h3, h4, h2]
      · simp [h1, h2, h3]
theorem sof_eq (t : Int) : callA C0 162 [.int t] [] = some (.i (.agg [.bool (decide (t = 2)), .int (if t = 2 then 0 else t)]), []) := by
  rw [callA_eq rfl Tryz.func162 rfl rfl]
  by_cases h : t = 2
  · subst h; simp
  · simp [h]
theorem scomb_eq {k x y : Int} (hk : k = 8 ∨ k = 9) (hx : x = 1 ∨ x = 2 ∨ x = 4) (hy : y = 1 ∨ y = 2 ∨ y = 4) : callA C0 160 [.int k, .i (.agg [.bool (valX x).null, .int (valX x).n]), .i (.agg [.bool (valX y).null, .int (valX y).n])] [] = some (.i (.agg [.bool (Val.cmb k (valX x) (valX y)).null, .int (Val.cmb k (valX x) (valX y)).n]), []) := by
  rw [callA_eq rfl Tryz.func160 rfl rfl]
  rcases hk with rfl | rfl <;> rcases hx with rfl | rfl | rfl <;> rcases hy with rfl | rfl | rfl <;> (simp [valX, struth_eq, snot_eq, sand_eq, sof_eq]; try decide)
end Go.Proofs.YteihcffblfdgfaaGreat.P

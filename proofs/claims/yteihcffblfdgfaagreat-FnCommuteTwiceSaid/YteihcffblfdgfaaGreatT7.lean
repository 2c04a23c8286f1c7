/- Part 7 of what the proof rests on: the executor and what it is worth, and the program's functions as it runs them. No condition. -/
import Derived.Test.YteihcffblfdgfaaGreatT6
set_option linter.unusedVariables false
set_option linter.unusedSimpArgs false
namespace Go.Proofs.YteihcffblfdgfaaGreat.P
open Go Go.Av
set_option maxRecDepth 4000
set_option maxHeartbeats 8000000
def PSt (l : List UInt8) (ws : List Int) (k : Nat) (j u p : Int) : StL := [some (.box [.own 1 0, .osl 2 1 0 k, .int j, .int u]), Rd l p, some (.arr 1 (intsL ws))]
def PlanOk (l : List UInt8) (ws : List Int) (k d j c : Nat) : Prop := ∀ p u : Int, 0 ≤ p → p + c < 300000000 → 0 ≤ u → u ≤ 1 → ∃ (P : Pn) (p' u' : Int) (j' : Nat),
    callA CP 121 [.own 0 0, .int d] (PSt l ws k j u p) = some (.i (.agg P.cells), PSt l ws k j' u' p') ∧ P.thin ∧ p ≤ p' ∧ p' ≤ p + c ∧ j' ≤ j ∧ 0 ≤ u' ∧ u' ≤ 1
theorem scan_cells (t : Int) : (Pn.scan t).cells = [.int 1, .int t, .isl [], .isl [], .isl []] := by simp [Pn.scan, Pn.cells, Ex.cellsL, intsL, Pn.cellsL]
theorem plan_zero {l : List UInt8} (hl : l.length ≤ 2000) {ws : List Int} {k : Nat} (j : Nat) : PlanOk l ws k 0 j 1 := by
  intro p u h0 h1 hu0 hu1
  obtain ⟨t, ht, -, -⟩ := pick_eq l p k h0 (by omega) hl
  refine ⟨.scan t, p + 1, u, j, ?_, Pn.scan_thin t, by omega, by omega, by omega, by omega, by omega⟩
  rw [callA_eq rfl Tryz.func121 rfl rfl]
  simp [PSt, ht, scan_cells]
theorem plan_filter0 {l : List UInt8} (hl : l.length ≤ 2000) {ws : List Int} {k : Nat} {d j c2 : Nat} {p u t v W kk p1 u1 : Int} {j1 : Nat} {K : Pn} (hd : d < 100) (h1 : p1 + 400 + c2 < 300000000) (hp1 : 0 ≤ p1) (hu0 : 0 ≤ u1) (hu1 : u1 ≤ 1) (hW0 : 0 ≤ W) (hW6 : W ≤ 6) (hK : K.thin)
    (ht : callA C0 68 [.own 0 0, .int k] [Rd l p] = some (.int t, [Rd l (p + 1)])) (hv : callA C0 68 [.own 0 0, .int 6] [Rd l (p + 1)] = some (.int v, [Rd l (p + 1 + 1)])) (v0 : ¬ v = 0)
    (hkid : callA CP 121 [.own 0 0, .int d] (PSt l ws k j u (p + 1 + 1)) = some (.i (.agg K.cells), PSt l ws k j1 u1 p1))
    (hW : callA CP 59 [.i (.agg K.cells), .osl 0 1 0 k, .int 8] [some (.arr 1 (intsL ws))] = some (.int W, [some (.arr 1 (intsL ws))]))
    (hkk : callA C0 68 [.own 0 0, .int 10] [Rd l p1] = some (.int kk, [Rd l (p1 + 1)])) (hq : kk = 0) : ∃ (P : Pn) (p' u' : Int) (j' : Nat), callA CP 121 [.own 0 0, .int ((d + 1 : Nat) : Int)] (PSt l ws k j u p) = some (.i (.agg P.cells), PSt l ws k j' u' p') ∧ P.thin ∧ p1 ≤ p' ∧ p' ≤ p1 + 400 + c2 ∧ j' ≤ j1 ∧ 0 ≤ u' ∧ u' ≤ 1 := by
  have we : IntKind.i64.wrap (d : Int) = d := wrap64 (by omega) (by omega)
  have wn : ¬ ((d : Int) + 1 = 0) := by omega
  simp only [PSt] at hkid
  rw [Pn.cells_eq K] at hkid hW
  obtain ⟨e, p2, he, a1, a2, a3⟩ := randomCondition_eq l hl W (p1 + 1) (by omega) (by omega)
  have hf := filterOf_eq e K
  rw [filtP_cells, Pn.cells_eq K, Ex.cells_eq e] at hf
  rw [Ex.cells_eq e] at he
  refine ⟨filtP e K, p2, u1, j1, ?_, filtP_thin (by omega) hK, by omega, by omega, by omega, by omega, by omega⟩
  rw [callA_eq rfl Tryz.func121 rfl rfl]
  simp [PSt, ht, hv, v0, we, hkid, hW, hkk, wn, hq, he, hf, filtP_cells, Pn.cells_eq K, Ex.cells_eq e]
theorem plan_filter1 {l : List UInt8} (hl : l.length ≤ 2000) {ws : List Int} {k : Nat} {d j c2 : Nat} {p u t v W kk p1 u1 : Int} {j1 : Nat} {K : Pn} (hd : d < 100) (h1 : p1 + 400 + c2 < 300000000) (hp1 : 0 ≤ p1) (hu0 : 0 ≤ u1) (hu1 : u1 ≤ 1) (hW0 : 0 ≤ W) (hW6 : W ≤ 6) (hK : K.thin)
    (ht : callA C0 68 [.own 0 0, .int k] [Rd l p] = some (.int t, [Rd l (p + 1)])) (hv : callA C0 68 [.own 0 0, .int 6] [Rd l (p + 1)] = some (.int v, [Rd l (p + 1 + 1)])) (v0 : ¬ v = 0)
    (hkid : callA CP 121 [.own 0 0, .int d] (PSt l ws k j u (p + 1 + 1)) = some (.i (.agg K.cells), PSt l ws k j1 u1 p1))
    (hW : callA CP 59 [.i (.agg K.cells), .osl 0 1 0 k, .int 8] [some (.arr 1 (intsL ws))] = some (.int W, [some (.arr 1 (intsL ws))]))
    (hkk : callA C0 68 [.own 0 0, .int 10] [Rd l p1] = some (.int kk, [Rd l (p1 + 1)])) (hq : kk = 1) : ∃ (P : Pn) (p' u' : Int) (j' : Nat), callA CP 121 [.own 0 0, .int ((d + 1 : Nat) : Int)] (PSt l ws k j u p) = some (.i (.agg P.cells), PSt l ws k j' u' p') ∧ P.thin ∧ p1 ≤ p' ∧ p' ≤ p1 + 400 + c2 ∧ j' ≤ j1 ∧ 0 ≤ u' ∧ u' ≤ 1 := by
  have we : IntKind.i64.wrap (d : Int) = d := wrap64 (by omega) (by omega)
  have wn : ¬ ((d : Int) + 1 = 0) := by omega
  simp only [PSt] at hkid
  rw [Pn.cells_eq K] at hkid hW
  obtain ⟨e, p2, he, a1, a2, a3⟩ := randomCondition_eq l hl W (p1 + 1) (by omega) (by omega)
  have hf := filterOf_eq e K
  rw [filtP_cells, Pn.cells_eq K, Ex.cells_eq e] at hf
  rw [Ex.cells_eq e] at he
  refine ⟨filtP e K, p2, u1, j1, ?_, filtP_thin (by omega) hK, by omega, by omega, by omega, by omega, by omega⟩
  rw [callA_eq rfl Tryz.func121 rfl rfl]
  simp [PSt, ht, hv, v0, we, hkid, hW, hkk, wn, hq, he, hf, filtP_cells, Pn.cells_eq K, Ex.cells_eq e]
theorem plan_filter2 {l : List UInt8} (hl : l.length ≤ 2000) {ws : List Int} {k : Nat} {d j c2 : Nat} {p u t v W kk p1 u1 : Int} {j1 : Nat} {K : Pn} (hd : d < 100) (h1 : p1 + 400 + c2 < 300000000) (hp1 : 0 ≤ p1) (hu0 : 0 ≤ u1) (hu1 : u1 ≤ 1) (hW0 : 0 ≤ W) (hW6 : W ≤ 6) (hK : K.thin)
    (ht : callA C0 68 [.own 0 0, .int k] [Rd l p] = some (.int t, [Rd l (p + 1)])) (hv : callA C0 68 [.own 0 0, .int 6] [Rd l (p + 1)] = some (.int v, [Rd l (p + 1 + 1)])) (v0 : ¬ v = 0)
    (hkid : callA CP 121 [.own 0 0, .int d] (PSt l ws k j u (p + 1 + 1)) = some (.i (.agg K.cells), PSt l ws k j1 u1 p1))
    (hW : callA CP 59 [.i (.agg K.cells), .osl 0 1 0 k, .int 8] [some (.arr 1 (intsL ws))] = some (.int W, [some (.arr 1 (intsL ws))]))
    (hkk : callA C0 68 [.own 0 0, .int 10] [Rd l p1] = some (.int kk, [Rd l (p1 + 1)])) (hq : kk = 2) : ∃ (P : Pn) (p' u' : Int) (j' : Nat), callA CP 121 [.own 0 0, .int ((d + 1 : Nat) : Int)] (PSt l ws k j u p) = some (.i (.agg P.cells), PSt l ws k j' u' p') ∧ P.thin ∧ p1 ≤ p' ∧ p' ≤ p1 + 400 + c2 ∧ j' ≤ j1 ∧ 0 ≤ u' ∧ u' ≤ 1 := by
  have we : IntKind.i64.wrap (d : Int) = d := wrap64 (by omega) (by omega)
  have wn : ¬ ((d : Int) + 1 = 0) := by omega
  simp only [PSt] at hkid
  rw [Pn.cells_eq K] at hkid hW
  obtain ⟨e, p2, he, a1, a2, a3⟩ := randomCondition_eq l hl W (p1 + 1) (by omega) (by omega)
  have hf := filterOf_eq e K
  rw [filtP_cells, Pn.cells_eq K, Ex.cells_eq e] at hf
  rw [Ex.cells_eq e] at he
  refine ⟨filtP e K, p2, u1, j1, ?_, filtP_thin (by omega) hK, by omega, by omega, by omega, by omega, by omega⟩
  rw [callA_eq rfl Tryz.func121 rfl rfl]
  simp [PSt, ht, hv, v0, we, hkid, hW, hkk, wn, hq, he, hf, filtP_cells, Pn.cells_eq K, Ex.cells_eq e]
theorem plan_distinct {l : List UInt8} (hl : l.length ≤ 2000) {ws : List Int} {k : Nat} {d j c2 : Nat} {p u t v W kk p1 u1 : Int} {j1 : Nat} {K : Pn} (hd : d < 100) (h1 : p1 + 400 + c2 < 300000000) (hp1 : 0 ≤ p1) (hu0 : 0 ≤ u1) (hu1 : u1 ≤ 1) (hW0 : 0 ≤ W) (hW6 : W ≤ 6) (hK : K.thin)
    (ht : callA C0 68 [.own 0 0, .int k] [Rd l p] = some (.int t, [Rd l (p + 1)])) (hv : callA C0 68 [.own 0 0, .int 6] [Rd l (p + 1)] = some (.int v, [Rd l (p + 1 + 1)])) (v0 : ¬ v = 0)
    (hkid : callA CP 121 [.own 0 0, .int d] (PSt l ws k j u (p + 1 + 1)) = some (.i (.agg K.cells), PSt l ws k j1 u1 p1))
    (hW : callA CP 59 [.i (.agg K.cells), .osl 0 1 0 k, .int 8] [some (.arr 1 (intsL ws))] = some (.int W, [some (.arr 1 (intsL ws))]))
    (hkk : callA C0 68 [.own 0 0, .int 10] [Rd l p1] = some (.int kk, [Rd l (p1 + 1)])) (hq : kk = 8) : ∃ (P : Pn) (p' u' : Int) (j' : Nat), callA CP 121 [.own 0 0, .int ((d + 1 : Nat) : Int)] (PSt l ws k j u p) = some (.i (.agg P.cells), PSt l ws k j' u' p') ∧ P.thin ∧ p1 ≤ p' ∧ p' ≤ p1 + 400 + c2 ∧ j' ≤ j1 ∧ 0 ≤ u' ∧ u' ≤ 1 := by
  have we : IntKind.i64.wrap (d : Int) = d := wrap64 (by omega) (by omega)
  have wn : ¬ ((d : Int) + 1 = 0) := by omega
  simp only [PSt] at hkid
  rw [Pn.cells_eq K] at hkid hW
  refine ⟨.mk 7 0 [] [] [K], p1 + 1, u1, j1, ?_, by simp [Pn.thin, Pn.thinL, hK], by omega, by omega, by omega, by omega, by omega⟩
  rw [callA_eq rfl Tryz.func121 rfl rfl]
  simp [PSt, ht, hv, v0, we, hkid, hW, hkk, wn, hq, Pn.cells, Ex.cellsL, intsL, Pn.cellsL, Pn.cells_eq K]
theorem plan_nojoin5 {l : List UInt8} (hl : l.length ≤ 2000) {ws : List Int} {k : Nat} {d j c2 : Nat} {p u t v W kk p1 u1 : Int} {j1 : Nat} {K : Pn} (hd : d < 100) (h1 : p1 + 400 + c2 < 300000000) (hp1 : 0 ≤ p1) (hu0 : 0 ≤ u1) (hu1 : u1 ≤ 1) (hW0 : 0 ≤ W) (hW6 : W ≤ 6) (hK : K.thin)
    (ht : callA C0 68 [.own 0 0, .int k] [Rd l p] = some (.int t, [Rd l (p + 1)])) (hv : callA C0 68 [.own 0 0, .int 6] [Rd l (p + 1)] = some (.int v, [Rd l (p + 1 + 1)])) (v0 : ¬ v = 0)
    (hkid : callA CP 121 [.own 0 0, .int d] (PSt l ws k j u (p + 1 + 1)) = some (.i (.agg K.cells), PSt l ws k j1 u1 p1))
    (hW : callA CP 59 [.i (.agg K.cells), .osl 0 1 0 k, .int 8] [some (.arr 1 (intsL ws))] = some (.int W, [some (.arr 1 (intsL ws))]))
    (hkk : callA C0 68 [.own 0 0, .int 10] [Rd l p1] = some (.int kk, [Rd l (p1 + 1)])) (hj : j1 = 0) (hq : kk = 5) : ∃ (P : Pn) (p' u' : Int) (j' : Nat), callA CP 121 [.own 0 0, .int ((d + 1 : Nat) : Int)] (PSt l ws k j u p) = some (.i (.agg P.cells), PSt l ws k j' u' p') ∧ P.thin ∧ p1 ≤ p' ∧ p' ≤ p1 + 400 + c2 ∧ j' ≤ j1 ∧ 0 ≤ u' ∧ u' ≤ 1 := by
  have we : IntKind.i64.wrap (d : Int) = d := wrap64 (by omega) (by omega)
  have wn : ¬ ((d : Int) + 1 = 0) := by omega
  simp only [PSt] at hkid
  rw [Pn.cells_eq K] at hkid hW
  obtain ⟨e, p2, he, a1, a2, a3⟩ := randomCondition_eq l hl W (p1 + 1) (by omega) (by omega)
  have hf := filterOf_eq e K
  rw [filtP_cells, Pn.cells_eq K, Ex.cells_eq e] at hf
  rw [Ex.cells_eq e] at he
  refine ⟨filtP e K, p2, u1, j1, ?_, filtP_thin (by omega) hK, by omega, by omega, by omega, by omega, by omega⟩
  rw [callA_eq rfl Tryz.func121 rfl rfl]
  simp [PSt, ht, hv, v0, we, hkid, hW, hkk, wn, hq, he, hf, filtP_cells, Pn.cells_eq K, Ex.cells_eq e, hj]
theorem plan_wide5 {l : List UInt8} (hl : l.length ≤ 2000) {ws : List Int} {k : Nat} {d j c2 : Nat} {p u t v W kk p1 u1 : Int} {j1 : Nat} {K : Pn} (hd : d < 100) (h1 : p1 + 400 + c2 < 300000000) (hp1 : 0 ≤ p1) (hu0 : 0 ≤ u1) (hu1 : u1 ≤ 1) (hW0 : 0 ≤ W) (hW6 : W ≤ 6) (hK : K.thin)
    (ht : callA C0 68 [.own 0 0, .int k] [Rd l p] = some (.int t, [Rd l (p + 1)])) (hv : callA C0 68 [.own 0 0, .int 6] [Rd l (p + 1)] = some (.int v, [Rd l (p + 1 + 1)])) (v0 : ¬ v = 0)
    (hkid : callA CP 121 [.own 0 0, .int d] (PSt l ws k j u (p + 1 + 1)) = some (.i (.agg K.cells), PSt l ws k j1 u1 p1))
    (hW : callA CP 59 [.i (.agg K.cells), .osl 0 1 0 k, .int 8] [some (.arr 1 (intsL ws))] = some (.int W, [some (.arr 1 (intsL ws))]))
    (hkk : callA C0 68 [.own 0 0, .int 10] [Rd l p1] = some (.int kk, [Rd l (p1 + 1)])) (hj : j1 ≠ 0) (hw4 : ¬ W ≤ 4) (hq : kk = 5) : ∃ (P : Pn) (p' u' : Int) (j' : Nat), callA CP 121 [.own 0 0, .int ((d + 1 : Nat) : Int)] (PSt l ws k j u p) = some (.i (.agg P.cells), PSt l ws k j' u' p') ∧ P.thin ∧ p1 ≤ p' ∧ p' ≤ p1 + 400 + c2 ∧ j' ≤ j1 ∧ 0 ≤ u' ∧ u' ≤ 1 := by
  have we : IntKind.i64.wrap (d : Int) = d := wrap64 (by omega) (by omega)
  have wn : ¬ ((d : Int) + 1 = 0) := by omega
  simp only [PSt] at hkid
  rw [Pn.cells_eq K] at hkid hW
  have hj' : 0 < j1 := by omega
  obtain ⟨e, p2, he, a1, a2, a3⟩ := randomCondition_eq l hl W (p1 + 1) (by omega) (by omega)
  have hf := filterOf_eq e K
  rw [filtP_cells, Pn.cells_eq K, Ex.cells_eq e] at hf
  rw [Ex.cells_eq e] at he
  refine ⟨filtP e K, p2, u1, j1, ?_, filtP_thin (by omega) hK, by omega, by omega, by omega, by omega, by omega⟩
  rw [callA_eq rfl Tryz.func121 rfl rfl]
  simp [PSt, ht, hv, v0, we, hkid, hW, hkk, wn, hq, he, hf, filtP_cells, Pn.cells_eq K, Ex.cells_eq e, hj', hj, hw4]
theorem plan_nojoin6 {l : List UInt8} (hl : l.length ≤ 2000) {ws : List Int} {k : Nat} {d j c2 : Nat} {p u t v W kk p1 u1 : Int} {j1 : Nat} {K : Pn} (hd : d < 100) (h1 : p1 + 400 + c2 < 300000000) (hp1 : 0 ≤ p1) (hu0 : 0 ≤ u1) (hu1 : u1 ≤ 1) (hW0 : 0 ≤ W) (hW6 : W ≤ 6) (hK : K.thin)
    (ht : callA C0 68 [.own 0 0, .int k] [Rd l p] = some (.int t, [Rd l (p + 1)])) (hv : callA C0 68 [.own 0 0, .int 6] [Rd l (p + 1)] = some (.int v, [Rd l (p + 1 + 1)])) (v0 : ¬ v = 0)
    (hkid : callA CP 121 [.own 0 0, .int d] (PSt l ws k j u (p + 1 + 1)) = some (.i (.agg K.cells), PSt l ws k j1 u1 p1))
    (hW : callA CP 59 [.i (.agg K.cells), .osl 0 1 0 k, .int 8] [some (.arr 1 (intsL ws))] = some (.int W, [some (.arr 1 (intsL ws))]))
    (hkk : callA C0 68 [.own 0 0, .int 10] [Rd l p1] = some (.int kk, [Rd l (p1 + 1)])) (hj : j1 = 0) (hq : kk = 6) : ∃ (P : Pn) (p' u' : Int) (j' : Nat), callA CP 121 [.own 0 0, .int ((d + 1 : Nat) : Int)] (PSt l ws k j u p) = some (.i (.agg P.cells), PSt l ws k j' u' p') ∧ P.thin ∧ p1 ≤ p' ∧ p' ≤ p1 + 400 + c2 ∧ j' ≤ j1 ∧ 0 ≤ u' ∧ u' ≤ 1 := by
  have we : IntKind.i64.wrap (d : Int) = d := wrap64 (by omega) (by omega)
  have wn : ¬ ((d : Int) + 1 = 0) := by omega
  simp only [PSt] at hkid
  rw [Pn.cells_eq K] at hkid hW
  obtain ⟨e, p2, he, a1, a2, a3⟩ := randomCondition_eq l hl W (p1 + 1) (by omega) (by omega)
  have hf := filterOf_eq e K
  rw [filtP_cells, Pn.cells_eq K, Ex.cells_eq e] at hf
  rw [Ex.cells_eq e] at he
  refine ⟨filtP e K, p2, u1, j1, ?_, filtP_thin (by omega) hK, by omega, by omega, by omega, by omega, by omega⟩
  rw [callA_eq rfl Tryz.func121 rfl rfl]
  simp [PSt, ht, hv, v0, we, hkid, hW, hkk, wn, hq, he, hf, filtP_cells, Pn.cells_eq K, Ex.cells_eq e, hj]
theorem plan_wide6 {l : List UInt8} (hl : l.length ≤ 2000) {ws : List Int} {k : Nat} {d j c2 : Nat} {p u t v W kk p1 u1 : Int} {j1 : Nat} {K : Pn} (hd : d < 100) (h1 : p1 + 400 + c2 < 300000000) (hp1 : 0 ≤ p1) (hu0 : 0 ≤ u1) (hu1 : u1 ≤ 1) (hW0 : 0 ≤ W) (hW6 : W ≤ 6) (hK : K.thin)
    (ht : callA C0 68 [.own 0 0, .int k] [Rd l p] = some (.int t, [Rd l (p + 1)])) (hv : callA C0 68 [.own 0 0, .int 6] [Rd l (p + 1)] = some (.int v, [Rd l (p + 1 + 1)])) (v0 : ¬ v = 0)
    (hkid : callA CP 121 [.own 0 0, .int d] (PSt l ws k j u (p + 1 + 1)) = some (.i (.agg K.cells), PSt l ws k j1 u1 p1))
    (hW : callA CP 59 [.i (.agg K.cells), .osl 0 1 0 k, .int 8] [some (.arr 1 (intsL ws))] = some (.int W, [some (.arr 1 (intsL ws))]))
    (hkk : callA C0 68 [.own 0 0, .int 10] [Rd l p1] = some (.int kk, [Rd l (p1 + 1)])) (hj : j1 ≠ 0) (hw4 : ¬ W ≤ 4) (hq : kk = 6) : ∃ (P : Pn) (p' u' : Int) (j' : Nat), callA CP 121 [.own 0 0, .int ((d + 1 : Nat) : Int)] (PSt l ws k j u p) = some (.i (.agg P.cells), PSt l ws k j' u' p') ∧ P.thin ∧ p1 ≤ p' ∧ p' ≤ p1 + 400 + c2 ∧ j' ≤ j1 ∧ 0 ≤ u' ∧ u' ≤ 1 := by
  have we : IntKind.i64.wrap (d : Int) = d := wrap64 (by omega) (by omega)
  have wn : ¬ ((d : Int) + 1 = 0) := by omega
  simp only [PSt] at hkid
  rw [Pn.cells_eq K] at hkid hW
  have hj' : 0 < j1 := by omega
  obtain ⟨e, p2, he, a1, a2, a3⟩ := randomCondition_eq l hl W (p1 + 1) (by omega) (by omega)
  have hf := filterOf_eq e K
  rw [filtP_cells, Pn.cells_eq K, Ex.cells_eq e] at hf
  rw [Ex.cells_eq e] at he
  refine ⟨filtP e K, p2, u1, j1, ?_, filtP_thin (by omega) hK, by omega, by omega, by omega, by omega, by omega⟩
  rw [callA_eq rfl Tryz.func121 rfl rfl]
  simp [PSt, ht, hv, v0, we, hkid, hW, hkk, wn, hq, he, hf, filtP_cells, Pn.cells_eq K, Ex.cells_eq e, hj', hj, hw4]
theorem plan_nounion {l : List UInt8} (hl : l.length ≤ 2000) {ws : List Int} {k : Nat} {d j c2 : Nat} {p u t v W kk p1 u1 : Int} {j1 : Nat} {K : Pn} (hd : d < 100) (h1 : p1 + 400 + c2 < 300000000) (hp1 : 0 ≤ p1) (hu0 : 0 ≤ u1) (hu1 : u1 ≤ 1) (hW0 : 0 ≤ W) (hW6 : W ≤ 6) (hK : K.thin)
    (ht : callA C0 68 [.own 0 0, .int k] [Rd l p] = some (.int t, [Rd l (p + 1)])) (hv : callA C0 68 [.own 0 0, .int 6] [Rd l (p + 1)] = some (.int v, [Rd l (p + 1 + 1)])) (v0 : ¬ v = 0)
    (hkid : callA CP 121 [.own 0 0, .int d] (PSt l ws k j u (p + 1 + 1)) = some (.i (.agg K.cells), PSt l ws k j1 u1 p1))
    (hW : callA CP 59 [.i (.agg K.cells), .osl 0 1 0 k, .int 8] [some (.arr 1 (intsL ws))] = some (.int W, [some (.arr 1 (intsL ws))]))
    (hkk : callA C0 68 [.own 0 0, .int 10] [Rd l p1] = some (.int kk, [Rd l (p1 + 1)])) (hu : ¬ 0 < u1) (hq : kk = 7) : ∃ (P : Pn) (p' u' : Int) (j' : Nat), callA CP 121 [.own 0 0, .int ((d + 1 : Nat) : Int)] (PSt l ws k j u p) = some (.i (.agg P.cells), PSt l ws k j' u' p') ∧ P.thin ∧ p1 ≤ p' ∧ p' ≤ p1 + 400 + c2 ∧ j' ≤ j1 ∧ 0 ≤ u' ∧ u' ≤ 1 := by
  have we : IntKind.i64.wrap (d : Int) = d := wrap64 (by omega) (by omega)
  have wn : ¬ ((d : Int) + 1 = 0) := by omega
  simp only [PSt] at hkid
  rw [Pn.cells_eq K] at hkid hW
  obtain ⟨e, p2, he, a1, a2, a3⟩ := randomCondition_eq l hl W (p1 + 1) (by omega) (by omega)
  have hf := filterOf_eq e K
  rw [filtP_cells, Pn.cells_eq K, Ex.cells_eq e] at hf
  rw [Ex.cells_eq e] at he
  refine ⟨filtP e K, p2, u1, j1, ?_, filtP_thin (by omega) hK, by omega, by omega, by omega, by omega, by omega⟩
  rw [callA_eq rfl Tryz.func121 rfl rfl]
  simp [PSt, ht, hv, v0, we, hkid, hW, hkk, wn, hq, he, hf, filtP_cells, Pn.cells_eq K, Ex.cells_eq e, hu]
theorem plan_union {l : List UInt8} (hl : l.length ≤ 2000) {ws : List Int} {k : Nat} {d j c2 : Nat} {p u t v W kk p1 u1 : Int} {j1 : Nat} {K : Pn} (hd : d < 100) (h1 : p1 + 400 + c2 < 300000000) (hp1 : 0 ≤ p1) (hu0 : 0 ≤ u1) (hu1 : u1 ≤ 1) (hW0 : 0 ≤ W) (hW6 : W ≤ 6) (hK : K.thin)
    (ht : callA C0 68 [.own 0 0, .int k] [Rd l p] = some (.int t, [Rd l (p + 1)])) (hv : callA C0 68 [.own 0 0, .int 6] [Rd l (p + 1)] = some (.int v, [Rd l (p + 1 + 1)])) (v0 : ¬ v = 0)
    (hkid : callA CP 121 [.own 0 0, .int d] (PSt l ws k j u (p + 1 + 1)) = some (.i (.agg K.cells), PSt l ws k j1 u1 p1))
    (hW : callA CP 59 [.i (.agg K.cells), .osl 0 1 0 k, .int 8] [some (.arr 1 (intsL ws))] = some (.int W, [some (.arr 1 (intsL ws))]))
    (hkk : callA C0 68 [.own 0 0, .int 10] [Rd l p1] = some (.int kk, [Rd l (p1 + 1)])) (hu : 0 < u1) (hq : kk = 7) : ∃ (P : Pn) (p' u' : Int) (j' : Nat), callA CP 121 [.own 0 0, .int ((d + 1 : Nat) : Int)] (PSt l ws k j u p) = some (.i (.agg P.cells), PSt l ws k j' u' p') ∧ P.thin ∧ p1 ≤ p' ∧ p' ≤ p1 + 400 + c2 ∧ j' ≤ j1 ∧ 0 ≤ u' ∧ u' ≤ 1 := by
  have we : IntKind.i64.wrap (d : Int) = d := wrap64 (by omega) (by omega)
  have wn : ¬ ((d : Int) + 1 = 0) := by omega
  simp only [PSt] at hkid
  rw [Pn.cells_eq K] at hkid hW
  obtain ⟨e, p2, he, a1, a2, a3⟩ := randomCondition_eq l hl W (p1 + 1) (by omega) (by omega)
  have hf := filterOf_eq e K
  have hc := cp_copyPlan K hK
  have wu : IntKind.i64.wrap (u1 - 1) = u1 - 1 := wrap64 (by omega) (by omega)
  rw [filtP_cells, Pn.cells_eq K, Ex.cells_eq e] at hf
  rw [Pn.cells_eq K] at hc
  rw [Ex.cells_eq e] at he
  refine ⟨.mk 6 0 [] [] [K, filtP e K], p2, u1 - 1, j1, ?_, by have := filtP_thin (e := e) (by omega) hK; simp [Pn.thin, Pn.thinL, hK, this], by omega, by omega, by omega, by omega, by omega⟩
  rw [callA_eq rfl Tryz.func121 rfl rfl]
  simp [PSt, ht, hv, v0, we, hkid, hW, hkk, wn, hq, he, hf, filtP_cells, Pn.cells_eq K, Ex.cells_eq e, hu, hc, wu, Pn.cells_mk, Ex.cellsL, intsL, Pn.cellsL]
theorem plan_group1 {l : List UInt8} (hl : l.length ≤ 2000) {ws : List Int} {k : Nat} {d j c2 : Nat} {p u t v W kk p1 u1 : Int} {j1 : Nat} {K : Pn} (hd : d < 100) (h1 : p1 + 400 + c2 < 300000000) (hp1 : 0 ≤ p1) (hu0 : 0 ≤ u1) (hu1 : u1 ≤ 1) (hW0 : 0 ≤ W) (hW6 : W ≤ 6) (hK : K.thin)
    (ht : callA C0 68 [.own 0 0, .int k] [Rd l p] = some (.int t, [Rd l (p + 1)])) (hv : callA C0 68 [.own 0 0, .int 6] [Rd l (p + 1)] = some (.int v, [Rd l (p + 1 + 1)])) (v0 : ¬ v = 0)
    (hkid : callA CP 121 [.own 0 0, .int d] (PSt l ws k j u (p + 1 + 1)) = some (.i (.agg K.cells), PSt l ws k j1 u1 p1))
    (hW : callA CP 59 [.i (.agg K.cells), .osl 0 1 0 k, .int 8] [some (.arr 1 (intsL ws))] = some (.int W, [some (.arr 1 (intsL ws))]))
    (hkk : callA C0 68 [.own 0 0, .int 10] [Rd l p1] = some (.int kk, [Rd l (p1 + 1)])) (hw1 : ¬ 1 < W) (hq : kk = 9) : ∃ (P : Pn) (p' u' : Int) (j' : Nat), callA CP 121 [.own 0 0, .int ((d + 1 : Nat) : Int)] (PSt l ws k j u p) = some (.i (.agg P.cells), PSt l ws k j' u' p') ∧ P.thin ∧ p1 ≤ p' ∧ p' ≤ p1 + 400 + c2 ∧ j' ≤ j1 ∧ 0 ≤ u' ∧ u' ≤ 1 := by
  have we : IntKind.i64.wrap (d : Int) = d := wrap64 (by omega) (by omega)
  have wn : ¬ ((d : Int) + 1 = 0) := by omega
  simp only [PSt] at hkid
  rw [Pn.cells_eq K] at hkid hW
  refine ⟨.mk 8 0 [] [] [K], p1 + 1, u1, j1, ?_, by simp [Pn.thin, Pn.thinL, hK], by omega, by omega, by omega, by omega, by omega⟩
  rw [callA_eq rfl Tryz.func121 rfl rfl]
  simp [PSt, ht, hv, v0, we, hkid, hW, hkk, wn, hq, hw1, Pn.cells_mk, Ex.cellsL, intsL, Pn.cellsL, Pn.cells_eq K]
theorem plan_group2 {l : List UInt8} (hl : l.length ≤ 2000) {ws : List Int} {k : Nat} {d j c2 : Nat} {p u t v W kk p1 u1 : Int} {j1 : Nat} {K : Pn} (hd : d < 100) (h1 : p1 + 400 + c2 < 300000000) (hp1 : 0 ≤ p1) (hu0 : 0 ≤ u1) (hu1 : u1 ≤ 1) (hW0 : 0 ≤ W) (hW6 : W ≤ 6) (hK : K.thin)
    (ht : callA C0 68 [.own 0 0, .int k] [Rd l p] = some (.int t, [Rd l (p + 1)])) (hv : callA C0 68 [.own 0 0, .int 6] [Rd l (p + 1)] = some (.int v, [Rd l (p + 1 + 1)])) (v0 : ¬ v = 0)
    (hkid : callA CP 121 [.own 0 0, .int d] (PSt l ws k j u (p + 1 + 1)) = some (.i (.agg K.cells), PSt l ws k j1 u1 p1))
    (hW : callA CP 59 [.i (.agg K.cells), .osl 0 1 0 k, .int 8] [some (.arr 1 (intsL ws))] = some (.int W, [some (.arr 1 (intsL ws))]))
    (hkk : callA C0 68 [.own 0 0, .int 10] [Rd l p1] = some (.int kk, [Rd l (p1 + 1)])) (hw1 : 1 < W) (hq : kk = 9) : ∃ (P : Pn) (p' u' : Int) (j' : Nat), callA CP 121 [.own 0 0, .int ((d + 1 : Nat) : Int)] (PSt l ws k j u p) = some (.i (.agg P.cells), PSt l ws k j' u' p') ∧ P.thin ∧ p1 ≤ p' ∧ p' ≤ p1 + 400 + c2 ∧ j' ≤ j1 ∧ 0 ≤ u' ∧ u' ≤ 1 := by
  have we : IntKind.i64.wrap (d : Int) = d := wrap64 (by omega) (by omega)
  have wn : ¬ ((d : Int) + 1 = 0) := by omega
  simp only [PSt] at hkid
  rw [Pn.cells_eq K] at hkid hW
  obtain ⟨g, hg, -, -⟩ := pick_eq l (p1 + 1) W (by omega) (by omega) hl
  refine ⟨.mk 8 0 [] [g] [K], p1 + 1 + 1, u1, j1, ?_, by simp [Pn.thin, Pn.thinL, hK], by omega, by omega, by omega, by omega, by omega⟩
  rw [callA_eq rfl Tryz.func121 rfl rfl]
  simp [PSt, ht, hv, v0, we, hkid, hW, hkk, wn, hq, hg, hw1, Pn.cells_mk, Ex.cellsL, intsL, Pn.cellsL, Pn.cells_eq K]
theorem plan_join5 {l : List UInt8} (hl : l.length ≤ 2000) {ws : List Int} (hw : ∀ w ∈ ws, 0 ≤ w ∧ w ≤ 6) (hwl : ws.length < 1000000) {k : Nat} (hk0 : 0 < k) (hkl : k ≤ ws.length) {d j c2 : Nat} {p u t v W kk p1 u1 : Int} {j1 : Nat} {K : Pn} (hd : d < 100) (h1 : p1 + 400 + c2 < 300000000) (hp1 : 0 ≤ p1) (hu0 : 0 ≤ u1) (hu1 : u1 ≤ 1) (hW0 : 0 ≤ W) (hW6 : W ≤ 6) (hK : K.thin)
    (ht : callA C0 68 [.own 0 0, .int k] [Rd l p] = some (.int t, [Rd l (p + 1)])) (hv : callA C0 68 [.own 0 0, .int 6] [Rd l (p + 1)] = some (.int v, [Rd l (p + 1 + 1)])) (v0 : ¬ v = 0)
    (hkid : callA CP 121 [.own 0 0, .int d] (PSt l ws k j u (p + 1 + 1)) = some (.i (.agg K.cells), PSt l ws k j1 u1 p1))
    (hW : callA CP 59 [.i (.agg K.cells), .osl 0 1 0 k, .int 8] [some (.arr 1 (intsL ws))] = some (.int W, [some (.arr 1 (intsL ws))]))
    (hkk : callA C0 68 [.own 0 0, .int 10] [Rd l p1] = some (.int kk, [Rd l (p1 + 1)])) (hj : j1 ≠ 0) (hjb : j1 < 1000) (hw4 : W ≤ 4) (hoth : ∀ y : Nat, y ≤ 1 → PlanOk l ws k y (j1 - 1) c2) (hq : kk = 5) : ∃ (P : Pn) (p' u' : Int) (j' : Nat), callA CP 121 [.own 0 0, .int ((d + 1 : Nat) : Int)] (PSt l ws k j u p) = some (.i (.agg P.cells), PSt l ws k j' u' p') ∧ P.thin ∧ p1 ≤ p' ∧ p' ≤ p1 + 400 + c2 ∧ j' ≤ j1 ∧ 0 ≤ u' ∧ u' ≤ 1 := by
  have we : IntKind.i64.wrap (d : Int) = d := wrap64 (by omega) (by omega)
  have wn : ¬ ((d : Int) + 1 = 0) := by omega
  simp only [PSt] at hkid
  rw [Pn.cells_eq K] at hkid hW
  have hj' : 0 < j1 := by omega
  have wj : IntKind.i64.wrap ((j1 : Int) - 1) = ((j1 - 1 : Nat) : Int) := by rw [wrap64 (by omega) (by omega)]; omega
  obtain ⟨x, hx, hx1, -⟩ := pick_eq l (p1 + 1) 2 (by omega) (by omega) hl
  obtain ⟨x0, x1⟩ := hx1 (by omega)
  obtain ⟨y, rfl⟩ : ∃ y : Nat, x = y := ⟨x.toNat, by omega⟩
  obtain ⟨O, p2, u2, j2, hO, hOt, b1, b2, b3, b4, b5⟩ := hoth y (by omega) (p1 + 1 + 1) u1 (by omega) (by omega) hu0 hu1
  have hV := splanWidth_own hw hwl hk0 hkl O hOt
  have hVr := Pn.wd_range (ws := ws.take k) (fun w hm => hw w (List.mem_of_mem_take hm)) O 8
  generalize O.wd (ws.take k) 8 = V at hV hVr
  have wv : IntKind.i64.wrap (W + V) = W + V := wrap64 (by omega) (by omega)
  simp only [PSt] at hO
  rw [Pn.cells_eq O] at hO hV
  by_cases hs : W + V ≤ 6
  · have h1 := one_eq l p2 (by omega) (by omega) hl [[.int 4], [.int 5]] (by simp) (by simp) (by simp)
    obtain ⟨z, hz, hzm⟩ := h1
    obtain ⟨e, p3, he, a1, a2, a3⟩ := randomCondition_eq l hl (W + V) (p2 + 1) (by omega) (by omega)
    rw [Ex.cells_eq e] at he
    simp only [List.length_cons, List.length_nil, Nat.zero_add, Nat.reduceAdd] at hz
    have het := Ex.thin_of_size e (by omega)
    refine ⟨.mk z 0 [e] [] [K, O], p3, u2, j2, ?_, by simp [Pn.thin, Pn.thinL, hK, hOt, het], by omega, by omega, by omega, by omega, by omega⟩
    rw [callA_eq rfl Tryz.func121 rfl rfl]
    simp [PSt, ht, hv, v0, we, hkid, hW, hkk, wn, hq, hj', hj, hw4, wj, hx, hO, hV, wv, hs, hz, he, Pn.cells_mk, Ex.cellsL, intsL, Pn.cellsL, Pn.cells_eq K, Pn.cells_eq O, Ex.cells_eq e]
  · obtain ⟨e, p3, he, a1, a2, a3⟩ := randomCondition_eq l hl W p2 (by omega) (by omega)
    have hf := filterOf_eq e K
    rw [filtP_cells, Pn.cells_eq K, Ex.cells_eq e] at hf
    rw [Ex.cells_eq e] at he
    refine ⟨filtP e K, p3, u2, j2, ?_, filtP_thin (by omega) hK, by omega, by omega, by omega, by omega, by omega⟩
    rw [callA_eq rfl Tryz.func121 rfl rfl]
    simp [PSt, ht, hv, v0, we, hkid, hW, hkk, wn, hq, hj', hj, hw4, wj, hx, hO, hV, wv, hs, he, hf, filtP_cells, Pn.cells_eq K, Ex.cells_eq e]
theorem plan_join6 {l : List UInt8} (hl : l.length ≤ 2000) {ws : List Int} (hw : ∀ w ∈ ws, 0 ≤ w ∧ w ≤ 6) (hwl : ws.length < 1000000) {k : Nat} (hk0 : 0 < k) (hkl : k ≤ ws.length) {d j c2 : Nat} {p u t v W kk p1 u1 : Int} {j1 : Nat} {K : Pn} (hd : d < 100) (h1 : p1 + 400 + c2 < 300000000) (hp1 : 0 ≤ p1) (hu0 : 0 ≤ u1) (hu1 : u1 ≤ 1) (hW0 : 0 ≤ W) (hW6 : W ≤ 6) (hK : K.thin)
    (ht : callA C0 68 [.own 0 0, .int k] [Rd l p] = some (.int t, [Rd l (p + 1)])) (hv : callA C0 68 [.own 0 0, .int 6] [Rd l (p + 1)] = some (.int v, [Rd l (p + 1 + 1)])) (v0 : ¬ v = 0)
    (hkid : callA CP 121 [.own 0 0, .int d] (PSt l ws k j u (p + 1 + 1)) = some (.i (.agg K.cells), PSt l ws k j1 u1 p1))
    (hW : callA CP 59 [.i (.agg K.cells), .osl 0 1 0 k, .int 8] [some (.arr 1 (intsL ws))] = some (.int W, [some (.arr 1 (intsL ws))]))
    (hkk : callA C0 68 [.own 0 0, .int 10] [Rd l p1] = some (.int kk, [Rd l (p1 + 1)])) (hj : j1 ≠ 0) (hjb : j1 < 1000) (hw4 : W ≤ 4) (hoth : ∀ y : Nat, y ≤ 1 → PlanOk l ws k y (j1 - 1) c2) (hq : kk = 6) : ∃ (P : Pn) (p' u' : Int) (j' : Nat), callA CP 121 [.own 0 0, .int ((d + 1 : Nat) : Int)] (PSt l ws k j u p) = some (.i (.agg P.cells), PSt l ws k j' u' p') ∧ P.thin ∧ p1 ≤ p' ∧ p' ≤ p1 + 400 + c2 ∧ j' ≤ j1 ∧ 0 ≤ u' ∧ u' ≤ 1 := by
  have we : IntKind.i64.wrap (d : Int) = d := wrap64 (by omega) (by omega)
  have wn : ¬ ((d : Int) + 1 = 0) := by omega
  simp only [PSt] at hkid
  rw [Pn.cells_eq K] at hkid hW
  have hj' : 0 < j1 := by omega
  have wj : IntKind.i64.wrap ((j1 : Int) - 1) = ((j1 - 1 : Nat) : Int) := by rw [wrap64 (by omega) (by omega)]; omega
  obtain ⟨x, hx, hx1, -⟩ := pick_eq l (p1 + 1) 2 (by omega) (by omega) hl
  obtain ⟨x0, x1⟩ := hx1 (by omega)
  obtain ⟨y, rfl⟩ : ∃ y : Nat, x = y := ⟨x.toNat, by omega⟩
  obtain ⟨O, p2, u2, j2, hO, hOt, b1, b2, b3, b4, b5⟩ := hoth y (by omega) (p1 + 1 + 1) u1 (by omega) (by omega) hu0 hu1
  have hV := splanWidth_own hw hwl hk0 hkl O hOt
  have hVr := Pn.wd_range (ws := ws.take k) (fun w hm => hw w (List.mem_of_mem_take hm)) O 8
  generalize O.wd (ws.take k) 8 = V at hV hVr
  have wv : IntKind.i64.wrap (W + V) = W + V := wrap64 (by omega) (by omega)
  simp only [PSt] at hO
  rw [Pn.cells_eq O] at hO hV
  by_cases hs : W + V ≤ 6
  · have h1 := one_eq l p2 (by omega) (by omega) hl [[.int 4], [.int 5]] (by simp) (by simp) (by simp)
    obtain ⟨z, hz, hzm⟩ := h1
    obtain ⟨e, p3, he, a1, a2, a3⟩ := randomCondition_eq l hl (W + V) (p2 + 1) (by omega) (by omega)
    rw [Ex.cells_eq e] at he
    simp only [List.length_cons, List.length_nil, Nat.zero_add, Nat.reduceAdd] at hz
    have het := Ex.thin_of_size e (by omega)
    refine ⟨.mk z 0 [e] [] [K, O], p3, u2, j2, ?_, by simp [Pn.thin, Pn.thinL, hK, hOt, het], by omega, by omega, by omega, by omega, by omega⟩
    rw [callA_eq rfl Tryz.func121 rfl rfl]
    simp [PSt, ht, hv, v0, we, hkid, hW, hkk, wn, hq, hj', hj, hw4, wj, hx, hO, hV, wv, hs, hz, he, Pn.cells_mk, Ex.cellsL, intsL, Pn.cellsL, Pn.cells_eq K, Pn.cells_eq O, Ex.cells_eq e]
  · obtain ⟨e, p3, he, a1, a2, a3⟩ := randomCondition_eq l hl W p2 (by omega) (by omega)
    have hf := filterOf_eq e K
    rw [filtP_cells, Pn.cells_eq K, Ex.cells_eq e] at hf
    rw [Ex.cells_eq e] at he
    refine ⟨filtP e K, p3, u2, j2, ?_, filtP_thin (by omega) hK, by omega, by omega, by omega, by omega, by omega⟩
    rw [callA_eq rfl Tryz.func121 rfl rfl]
    simp [PSt, ht, hv, v0, we, hkid, hW, hkk, wn, hq, hj', hj, hw4, wj, hx, hO, hV, wv, hs, he, hf, filtP_cells, Pn.cells_eq K, Ex.cells_eq e]
theorem plan_proj3 {l : List UInt8} (hl : l.length ≤ 2000) {ws : List Int} {k : Nat} {d j c2 : Nat} {p u t v W kk p1 u1 : Int} {j1 : Nat} {K : Pn} (hd : d < 100) (h1 : p1 + 400 + c2 < 300000000) (hp1 : 0 ≤ p1) (hu0 : 0 ≤ u1) (hu1 : u1 ≤ 1) (hW0 : 0 ≤ W) (hW6 : W ≤ 6) (hK : K.thin)
    (ht : callA C0 68 [.own 0 0, .int k] [Rd l p] = some (.int t, [Rd l (p + 1)])) (hv : callA C0 68 [.own 0 0, .int 6] [Rd l (p + 1)] = some (.int v, [Rd l (p + 1 + 1)])) (v0 : ¬ v = 0)
    (hkid : callA CP 121 [.own 0 0, .int d] (PSt l ws k j u (p + 1 + 1)) = some (.i (.agg K.cells), PSt l ws k j1 u1 p1))
    (hW : callA CP 59 [.i (.agg K.cells), .osl 0 1 0 k, .int 8] [some (.arr 1 (intsL ws))] = some (.int W, [some (.arr 1 (intsL ws))]))
    (hkk : callA C0 68 [.own 0 0, .int 10] [Rd l p1] = some (.int kk, [Rd l (p1 + 1)])) (hq : kk = 3) : ∃ (P : Pn) (p' u' : Int) (j' : Nat), callA CP 121 [.own 0 0, .int ((d + 1 : Nat) : Int)] (PSt l ws k j u p) = some (.i (.agg P.cells), PSt l ws k j' u' p') ∧ P.thin ∧ p1 ≤ p' ∧ p' ≤ p1 + 400 + c2 ∧ j' ≤ j1 ∧ 0 ≤ u' ∧ u' ≤ 1 := by
  have we : IntKind.i64.wrap (d : Int) = d := wrap64 (by omega) (by omega)
  have wn : ¬ ((d : Int) + 1 = 0) := by omega
  simp only [PSt] at hkid
  rw [Pn.cells_eq K] at hkid hW
  obtain ⟨m, hm, hm1, -⟩ := pick_eq l (p1 + 1) 2 (by omega) (by omega) hl
  obtain ⟨m0, m1⟩ := hm1 (by omega)
  have w2 : IntKind.i64.wrap (2 : Int) = 2 := wrap64 (by omega) (by omega)
  have w1 := wrap_1
  have w0 : IntKind.i64.wrap (0 : Int) = 0 := wrap64 (by omega) (by omega)
  obtain ⟨x1, hx1, hy1, -⟩ := pick_eq l (p1 + 1 + 1) 2 (by omega) (by omega) hl
  obtain ⟨x1a, x1b⟩ := hy1 (by omega)
  obtain ⟨y1, rfl⟩ : ∃ y : Nat, x1 = y := ⟨x1.toNat, by omega⟩
  have hc1 : costE y1 ≤ 9 := by rcases (show y1 = 0 ∨ y1 = 1 by omega) with h | h <;> simp [h, costE]
  obtain ⟨e1, q1, he1, c1a, c1b, c1c⟩ := rE l hl W y1 (by omega) (by omega) ((p1 + 1 + 1) + 1) (by omega) (by omega)
  rw [Ex.cells_eq e1] at he1
  have t1 := Ex.thin_of_size e1 (by omega)
  rcases (show m = 0 ∨ m = 1 by omega) with rfl | rfl
  · refine ⟨.mk 3 0 [e1] [] [K], q1, u1, j1, ?_, by simp [Pn.thin, Pn.thinL, hK, t1], by omega, by omega, by omega, by omega, by omega⟩
    rw [callA_eq rfl Tryz.func121 rfl rfl]
    simp [PSt, ht, hv, v0, we, hkid, hW, hkk, wn, hq, hm, w1]
    rw [execA_loop]; simp [hx1, he1, w0]
    rw [execA_loop]; simp [Pn.cells_mk, Ex.cellsL, intsL, Pn.cellsL, Pn.cells_eq K, Ex.cells_eq e1, PSt]
  · obtain ⟨x2, hx2, hy2, -⟩ := pick_eq l q1 2 (by omega) (by omega) hl
    obtain ⟨x2a, x2b⟩ := hy2 (by omega)
    obtain ⟨y2, rfl⟩ : ∃ y : Nat, x2 = y := ⟨x2.toNat, by omega⟩
    have hc2 : costE y2 ≤ 9 := by rcases (show y2 = 0 ∨ y2 = 1 by omega) with h | h <;> simp [h, costE]
    obtain ⟨e2, q2, he2, c2a, c2b, c2c⟩ := rE l hl W y2 (by omega) (by omega) (q1 + 1) (by omega) (by omega)
    rw [Ex.cells_eq e2] at he2
    have t2 := Ex.thin_of_size e2 (by omega)
    refine ⟨.mk 3 0 [e1, e2] [] [K], q2, u1, j1, ?_, by simp [Pn.thin, Pn.thinL, hK, t1, t2], by omega, by omega, by omega, by omega, by omega⟩
    rw [callA_eq rfl Tryz.func121 rfl rfl]
    simp [PSt, ht, hv, v0, we, hkid, hW, hkk, wn, hq, hm, w2]
    rw [execA_loop]; simp [hx1, he1, w1]
    rw [execA_loop]; simp [hx2, he2, w0]
    rw [execA_loop]; simp [Pn.cells_mk, Ex.cellsL, intsL, Pn.cellsL, Pn.cells_eq K, Ex.cells_eq e1, Ex.cells_eq e2, PSt]
theorem plan_proj4 {l : List UInt8} (hl : l.length ≤ 2000) {ws : List Int} {k : Nat} {d j c2 : Nat} {p u t v W kk p1 u1 : Int} {j1 : Nat} {K : Pn} (hd : d < 100) (h1 : p1 + 400 + c2 < 300000000) (hp1 : 0 ≤ p1) (hu0 : 0 ≤ u1) (hu1 : u1 ≤ 1) (hW0 : 0 ≤ W) (hW6 : W ≤ 6) (hK : K.thin)
    (ht : callA C0 68 [.own 0 0, .int k] [Rd l p] = some (.int t, [Rd l (p + 1)])) (hv : callA C0 68 [.own 0 0, .int 6] [Rd l (p + 1)] = some (.int v, [Rd l (p + 1 + 1)])) (v0 : ¬ v = 0)
    (hkid : callA CP 121 [.own 0 0, .int d] (PSt l ws k j u (p + 1 + 1)) = some (.i (.agg K.cells), PSt l ws k j1 u1 p1))
    (hW : callA CP 59 [.i (.agg K.cells), .osl 0 1 0 k, .int 8] [some (.arr 1 (intsL ws))] = some (.int W, [some (.arr 1 (intsL ws))]))
    (hkk : callA C0 68 [.own 0 0, .int 10] [Rd l p1] = some (.int kk, [Rd l (p1 + 1)])) (hq : kk = 4) : ∃ (P : Pn) (p' u' : Int) (j' : Nat), callA CP 121 [.own 0 0, .int ((d + 1 : Nat) : Int)] (PSt l ws k j u p) = some (.i (.agg P.cells), PSt l ws k j' u' p') ∧ P.thin ∧ p1 ≤ p' ∧ p' ≤ p1 + 400 + c2 ∧ j' ≤ j1 ∧ 0 ≤ u' ∧ u' ≤ 1 := by
  have we : IntKind.i64.wrap (d : Int) = d := wrap64 (by omega) (by omega)
  have wn : ¬ ((d : Int) + 1 = 0) := by omega
  simp only [PSt] at hkid
  rw [Pn.cells_eq K] at hkid hW
  obtain ⟨m, hm, hm1, -⟩ := pick_eq l (p1 + 1) 2 (by omega) (by omega) hl
  obtain ⟨m0, m1⟩ := hm1 (by omega)
  have w2 : IntKind.i64.wrap (2 : Int) = 2 := wrap64 (by omega) (by omega)
  have w1 := wrap_1
  have w0 : IntKind.i64.wrap (0 : Int) = 0 := wrap64 (by omega) (by omega)
  obtain ⟨x1, hx1, hy1, -⟩ := pick_eq l (p1 + 1 + 1) 2 (by omega) (by omega) hl
  obtain ⟨x1a, x1b⟩ := hy1 (by omega)
  obtain ⟨y1, rfl⟩ : ∃ y : Nat, x1 = y := ⟨x1.toNat, by omega⟩
  have hc1 : costE y1 ≤ 9 := by rcases (show y1 = 0 ∨ y1 = 1 by omega) with h | h <;> simp [h, costE]
  obtain ⟨e1, q1, he1, c1a, c1b, c1c⟩ := rE l hl W y1 (by omega) (by omega) ((p1 + 1 + 1) + 1) (by omega) (by omega)
  rw [Ex.cells_eq e1] at he1
  have t1 := Ex.thin_of_size e1 (by omega)
  rcases (show m = 0 ∨ m = 1 by omega) with rfl | rfl
  · refine ⟨.mk 3 0 [e1] [] [K], q1, u1, j1, ?_, by simp [Pn.thin, Pn.thinL, hK, t1], by omega, by omega, by omega, by omega, by omega⟩
    rw [callA_eq rfl Tryz.func121 rfl rfl]
    simp [PSt, ht, hv, v0, we, hkid, hW, hkk, wn, hq, hm, w1]
    rw [execA_loop]; simp [hx1, he1, w0]
    rw [execA_loop]; simp [Pn.cells_mk, Ex.cellsL, intsL, Pn.cellsL, Pn.cells_eq K, Ex.cells_eq e1, PSt]
  · obtain ⟨x2, hx2, hy2, -⟩ := pick_eq l q1 2 (by omega) (by omega) hl
    obtain ⟨x2a, x2b⟩ := hy2 (by omega)
    obtain ⟨y2, rfl⟩ : ∃ y : Nat, x2 = y := ⟨x2.toNat, by omega⟩
    have hc2 : costE y2 ≤ 9 := by rcases (show y2 = 0 ∨ y2 = 1 by omega) with h | h <;> simp [h, costE]
    obtain ⟨e2, q2, he2, c2a, c2b, c2c⟩ := rE l hl W y2 (by omega) (by omega) (q1 + 1) (by omega) (by omega)
    rw [Ex.cells_eq e2] at he2
    have t2 := Ex.thin_of_size e2 (by omega)
    refine ⟨.mk 3 0 [e1, e2] [] [K], q2, u1, j1, ?_, by simp [Pn.thin, Pn.thinL, hK, t1, t2], by omega, by omega, by omega, by omega, by omega⟩
    rw [callA_eq rfl Tryz.func121 rfl rfl]
    simp [PSt, ht, hv, v0, we, hkid, hW, hkk, wn, hq, hm, w2]
    rw [execA_loop]; simp [hx1, he1, w1]
    rw [execA_loop]; simp [hx2, he2, w0]
    rw [execA_loop]; simp [Pn.cells_mk, Ex.cellsL, intsL, Pn.cellsL, Pn.cells_eq K, Ex.cells_eq e1, Ex.cells_eq e2, PSt]
end Go.Proofs.YteihcffblfdgfaaGreat.P

namespace Go.Proofs.YteihcffblfdgfaaGreat.P
open Go Go.Av
set_option maxRecDepth 4000
set_option maxHeartbeats 8000000
theorem plan_scan {l : List UInt8} {ws : List Int} {k : Nat} {d j : Nat} {p u t : Int} (hd : d < 100) (ht : callA C0 68 [.own 0 0, .int k] [Rd l p] = some (.int t, [Rd l (p + 1)])) (hv : callA C0 68 [.own 0 0, .int 6] [Rd l (p + 1)] = some (.int 0, [Rd l (p + 1 + 1)])) :
    callA CP 121 [.own 0 0, .int ((d + 1 : Nat) : Int)] (PSt l ws k j u p) = some (.i (.agg (Pn.scan t).cells), PSt l ws k j u (p + 1 + 1)) := by
  have wn : ¬ ((d : Int) + 1 = 0) := by omega
  rw [callA_eq rfl Tryz.func121 rfl rfl]
  simp [PSt, ht, hv, scan_cells, wn]
theorem plan_step {l : List UInt8} (hl : l.length ≤ 2000) {ws : List Int} (hw : ∀ w ∈ ws, 0 ≤ w ∧ w ≤ 6) (hwl : ws.length < 1000000) {k : Nat} (hk0 : 0 < k) (hkl : k ≤ ws.length) {d j c c2 : Nat} (hd : d < 100) (hjb : j < 1000) (ih : PlanOk l ws k d j c) (hoth : ∀ i : Nat, i < j → ∀ y : Nat, y ≤ 1 → PlanOk l ws k y i c2) : PlanOk l ws k (d + 1) j (c + c2 + 500) := by
  intro p u h0 h1 hu0 hu1
  obtain ⟨t, ht, -, -⟩ := pick_eq l p k h0 (by omega) hl
  obtain ⟨v, hv, -, -⟩ := pick_eq l (p + 1) 6 (by omega) (by omega) hl
  by_cases v0 : v = 0
  · subst v0
    exact ⟨.scan t, p + 1 + 1, u, j, plan_scan hd ht hv, Pn.scan_thin t, by omega, by omega, by omega, by omega, by omega⟩
  obtain ⟨K, p1, u1, j1, hkid, hK, a1, a2, a3, a4, a5⟩ := ih (p + 1 + 1) u (by omega) (by omega) hu0 hu1
  have hW := splanWidth_own hw hwl hk0 hkl K hK
  have hWr := Pn.wd_range (ws := ws.take k) (fun w hm => hw w (List.mem_of_mem_take hm)) K 8
  generalize K.wd (ws.take k) 8 = W at hW hWr
  obtain ⟨kk, hkk, hkk1, -⟩ := pick_eq l p1 10 (by omega) (by omega) hl
  obtain ⟨kk0, kk9⟩ := hkk1 (by omega)
  suffices H : ∃ (P : Pn) (p' u' : Int) (j' : Nat), callA CP 121 [.own 0 0, .int ((d + 1 : Nat) : Int)] (PSt l ws k j u p) = some (.i (.agg P.cells), PSt l ws k j' u' p') ∧ P.thin ∧ p1 ≤ p' ∧ p' ≤ p1 + 400 + c2 ∧ j' ≤ j1 ∧ 0 ≤ u' ∧ u' ≤ 1 by
    obtain ⟨P, p', u', j', b1, b2, b3, b4, b5, b6, b7⟩ := H
    exact ⟨P, p', u', j', b1, b2, by omega, by omega, by omega, b6, b7⟩
  have hb : p1 + 400 + c2 < 300000000 := by omega
  have hp1 : 0 ≤ p1 := by omega
  by_cases q0 : kk = 0
  · exact plan_filter0 hl hd hb hp1 a4 a5 hWr.1 hWr.2 hK ht hv v0 hkid hW hkk q0
  by_cases q1 : kk = 1
  · exact plan_filter1 hl hd hb hp1 a4 a5 hWr.1 hWr.2 hK ht hv v0 hkid hW hkk q1
  by_cases q2 : kk = 2
  · exact plan_filter2 hl hd hb hp1 a4 a5 hWr.1 hWr.2 hK ht hv v0 hkid hW hkk q2
  by_cases q3 : kk = 3
  · exact plan_proj3 hl hd hb hp1 a4 a5 hWr.1 hWr.2 hK ht hv v0 hkid hW hkk q3
  by_cases q4 : kk = 4
  · exact plan_proj4 hl hd hb hp1 a4 a5 hWr.1 hWr.2 hK ht hv v0 hkid hW hkk q4
  by_cases q5 : kk = 5
  · by_cases hj : j1 = 0
    · exact plan_nojoin5 hl hd hb hp1 a4 a5 hWr.1 hWr.2 hK ht hv v0 hkid hW hkk hj q5
    by_cases hw4 : W ≤ 4
    · exact plan_join5 hl hw hwl hk0 hkl hd hb hp1 a4 a5 hWr.1 hWr.2 hK ht hv v0 hkid hW hkk hj (by omega) hw4 (fun y hy => hoth (j1 - 1) (by omega) y hy) q5
    · exact plan_wide5 hl hd hb hp1 a4 a5 hWr.1 hWr.2 hK ht hv v0 hkid hW hkk hj hw4 q5
  by_cases q6 : kk = 6
  · by_cases hj : j1 = 0
    · exact plan_nojoin6 hl hd hb hp1 a4 a5 hWr.1 hWr.2 hK ht hv v0 hkid hW hkk hj q6
    by_cases hw4 : W ≤ 4
    · exact plan_join6 hl hw hwl hk0 hkl hd hb hp1 a4 a5 hWr.1 hWr.2 hK ht hv v0 hkid hW hkk hj (by omega) hw4 (fun y hy => hoth (j1 - 1) (by omega) y hy) q6
    · exact plan_wide6 hl hd hb hp1 a4 a5 hWr.1 hWr.2 hK ht hv v0 hkid hW hkk hj hw4 q6
  by_cases q7 : kk = 7
  · by_cases hu : 0 < u1
    · exact plan_union hl hd hb hp1 a4 a5 hWr.1 hWr.2 hK ht hv v0 hkid hW hkk hu q7
    · exact plan_nounion hl hd hb hp1 a4 a5 hWr.1 hWr.2 hK ht hv v0 hkid hW hkk hu q7
  by_cases q8 : kk = 8
  · exact plan_distinct hl hd hb hp1 a4 a5 hWr.1 hWr.2 hK ht hv v0 hkid hW hkk q8
  have q9 : kk = 9 := by omega
  by_cases hw1 : 1 < W
  · exact plan_group2 hl hd hb hp1 a4 a5 hWr.1 hWr.2 hK ht hv v0 hkid hW hkk hw1 q9
  · exact plan_group1 hl hd hb hp1 a4 a5 hWr.1 hWr.2 hK ht hv v0 hkid hW hkk hw1 q9
theorem PlanOk.le {l : List UInt8} {ws : List Int} {k : Nat} {d j c c' : Nat} (h : PlanOk l ws k d j c) (hc : c ≤ c') : PlanOk l ws k d j c' := by
  intro p u h0 h1 hu0 hu1
  obtain ⟨P, p', u', j', b1, b2, b3, b4, b5, b6, b7⟩ := h p u h0 (by omega) hu0 hu1
  exact ⟨P, p', u', j', b1, b2, b3, by omega, b5, b6, b7⟩
theorem plan_none {l : List UInt8} (hl : l.length ≤ 2000) {ws : List Int} (hw : ∀ w ∈ ws, 0 ≤ w ∧ w ≤ 6) (hwl : ws.length < 1000000) {k : Nat} (hk0 : 0 < k) (hkl : k ≤ ws.length) : ∀ d : Nat, d < 50 → PlanOk l ws k d 0 (500 * d + 1)
  | 0, _ => (plan_zero hl 0).le (by omega)
  | d + 1, h => (plan_step hl hw hwl hk0 hkl (c2 := 0) (by omega) (by omega) (plan_none hl hw hwl hk0 hkl d (by omega)) (fun i hi => by omega)).le (by omega)
theorem plan_one {l : List UInt8} (hl : l.length ≤ 2000) {ws : List Int} (hw : ∀ w ∈ ws, 0 ≤ w ∧ w ≤ 6) (hwl : ws.length < 1000000) {k : Nat} (hk0 : 0 < k) (hkl : k ≤ ws.length) : ∀ d : Nat, d < 50 → PlanOk l ws k d 1 (2000 * d + 1)
  | 0, _ => (plan_zero hl 1).le (by omega)
  | d + 1, h => (plan_step hl hw hwl hk0 hkl (c2 := 501) (by omega) (by omega) (plan_one hl hw hwl hk0 hkl d (by omega)) (fun i hi y hy => by
      obtain rfl : i = 0 := by omega
      exact (plan_none hl hw hwl hk0 hkl y (by omega)).le (by omega))).le (by omega)
theorem filt_step {e : Ex} {p : Pn} (he : e.size ≤ 120) (hp : p.thin) : (filtP e p).thin := filtP_thin (by omega) hp
end Go.Proofs.YteihcffblfdgfaaGreat.P

namespace Go.Proofs.YteihcffblfdgfaaGreat.P
open Go Go.Av
set_option maxRecDepth 4000
set_option maxHeartbeats 8000000
def bl (n : Nat) : Nat := if n = 0 then 0 else 1
def rX (b : Nat) (P : Pn) : AV := .agg [.int P.kind, .int P.table, gro b 5 P.exprs.length, gro (b + bl P.exprs.length) 1 P.cols.length, gro (b + bl P.exprs.length + bl P.cols.length) 5 P.kids.length]
def rS (P : Pn) : StL := groB 5 (Ex.cellsL P.exprs) P.exprs.length ++ (groB 1 (intsL P.cols) P.cols.length ++ groB 5 (Pn.cellsL P.kids) P.kids.length)
@[simp] theorem cq_plan (a : List AV) (st : StL) : callA CQ 121 a st = callA CP 121 a st := by rw [callA_prim (p := callA CP 121) rfl]
@[simp] theorem cq_filterOf (a : List AV) (st : StL) : callA CQ 122 a st = bodyA C0 true 122 a st := by rw [callA_prim (p := bodyA C0 true 122) rfl]
@[simp] theorem cq_planWidth (a : List AV) (st : StL) : callA CQ 59 a st = callA CP 59 a st := by rw [callA_prim (p := lookC (callA C0) 59) rfl, callA_prim (p := lookC (callA C0) 59) rfl]
@[simp] theorem cq_copyPlan (a : List AV) (st : StL) : callA CQ 117 a st = callA CP 117 a st := by rw [callA_prim (p := frzO (callA C0) 117) rfl, callA_prim (p := frzO (callA C0) 117) rfl]
@[simp] theorem cq_pick (a : List AV) (st : StL) : callA CQ 68 a st = callA C0 68 a st := by rw [callA_prim (p := callA C0 68) rfl]
@[simp] theorem cq_one (a : List AV) (st : StL) : callA CQ 69 a st = callA C0 69 a st := by rw [callA_prim (p := callA C0 69) rfl]
@[simp] theorem cq_cond (a : List AV) (st : StL) : callA CQ 123 a st = callA C0 123 a st := by rw [callA_prim (p := callA C0 123) rfl]
@[simp] theorem cq_expr (a : List AV) (st : StL) : callA CQ 124 a st = callA C0 124 a st := by rw [callA_prim (p := callA C0 124) rfl]
theorem filterOf_own (e : Ex) (p : Pn) : bodyA C0 true 122 [.i (.agg e.cells), .i (.agg p.cells)] [] = some (.agg [.int 2, .int 0, .osl 0 5 0 1, .nils, .osl 1 5 0 1], [some (.arr 5 [e.cells]), some (.arr 5 [p.cells])]) := by
  rw [bodyA_eq Tryz.func122 rfl rfl, Ex.cells_eq, Pn.cells_eq]
  simp
def RootOk (l : List UInt8) (ws : List Int) (k d j c : Nat) : Prop := ∀ p u : Int, 0 ≤ p → p + c < 300000000 → 0 ≤ u → u ≤ 1 → ∃ (P : Pn) (p' u' : Int) (j' : Nat),
    bodyA CQ true 121 [.own 0 0, .int d] (PSt l ws k j u p) = some (rX 3 P, PSt l ws k j' u' p' ++ rS P) ∧ P.thin ∧ p ≤ p' ∧ p' ≤ p + c ∧ j' ≤ j ∧ 0 ≤ u' ∧ u' ≤ 1 ∧ P.exprs.length ≤ 2 ∧ P.cols.length ≤ 1
theorem root_scan {l : List UInt8} {ws : List Int} {k : Nat} {d j : Nat} {p u t : Int} (hd : d < 100) (ht : callA C0 68 [.own 0 0, .int k] [Rd l p] = some (.int t, [Rd l (p + 1)])) (hv : callA C0 68 [.own 0 0, .int 6] [Rd l (p + 1)] = some (.int 0, [Rd l (p + 1 + 1)])) :
    bodyA CQ true 121 [.own 0 0, .int ((d + 1 : Nat) : Int)] (PSt l ws k j u p) = some (rX 3 (Pn.scan t), PSt l ws k j u (p + 1 + 1) ++ rS (Pn.scan t)) := by
  have wn : ¬ ((d : Int) + 1 = 0) := by omega
  rw [bodyA_eq Tryz.func121 rfl rfl]
  simp [PSt, ht, hv, wn, rX, rS, bl, Pn.scan]
theorem root_filter0 {l : List UInt8} (hl : l.length ≤ 2000) {ws : List Int} {k : Nat} {d j c2 : Nat} {p u t v W kk p1 u1 : Int} {j1 : Nat} {K : Pn} (hd : d < 100) (h1 : p1 + 400 + c2 < 300000000) (hp1 : 0 ≤ p1) (hu0 : 0 ≤ u1) (hu1 : u1 ≤ 1) (hW0 : 0 ≤ W) (hW6 : W ≤ 6) (hK : K.thin)
    (ht : callA C0 68 [.own 0 0, .int k] [Rd l p] = some (.int t, [Rd l (p + 1)])) (hv : callA C0 68 [.own 0 0, .int 6] [Rd l (p + 1)] = some (.int v, [Rd l (p + 1 + 1)])) (v0 : ¬ v = 0)
    (hkid : callA CP 121 [.own 0 0, .int d] (PSt l ws k j u (p + 1 + 1)) = some (.i (.agg K.cells), PSt l ws k j1 u1 p1))
    (hW : callA CP 59 [.i (.agg K.cells), .osl 0 1 0 k, .int 8] [some (.arr 1 (intsL ws))] = some (.int W, [some (.arr 1 (intsL ws))]))
    (hkk : callA C0 68 [.own 0 0, .int 10] [Rd l p1] = some (.int kk, [Rd l (p1 + 1)])) (hq : kk = 0) : ∃ (P : Pn) (p' u' : Int) (j' : Nat), bodyA CQ true 121 [.own 0 0, .int ((d + 1 : Nat) : Int)] (PSt l ws k j u p) = some (rX 3 P, PSt l ws k j' u' p' ++ rS P) ∧ P.thin ∧ p1 ≤ p' ∧ p' ≤ p1 + 400 + c2 ∧ j' ≤ j1 ∧ 0 ≤ u' ∧ u' ≤ 1 ∧ P.exprs.length ≤ 2 ∧ P.cols.length ≤ 1 := by
  have we : IntKind.i64.wrap (d : Int) = d := wrap64 (by omega) (by omega)
  have wn : ¬ ((d : Int) + 1 = 0) := by omega
  simp only [PSt] at hkid
  rw [Pn.cells_eq K] at hkid hW
  obtain ⟨e, p2, he, a1, a2, a3⟩ := randomCondition_eq l hl W (p1 + 1) (by omega) (by omega)
  have hf := filterOf_own e K
  rw [Pn.cells_eq K, Ex.cells_eq e] at hf
  rw [Ex.cells_eq e] at he
  refine ⟨filtP e K, p2, u1, j1, ?_, filtP_thin (by omega) hK, by omega, by omega, by omega, by omega, by omega, by simp [filtP, Pn.scan], by simp [filtP, Pn.scan]⟩
  rw [bodyA_eq Tryz.func121 rfl rfl]
  simp [PSt, ht, hv, v0, we, hkid, hW, hkk, wn, hq, rX, rS, bl, he, hf, filtP, Ex.cellsL, intsL, Pn.cellsL, Pn.cells_eq K, Ex.cells_eq e]
theorem root_filter1 {l : List UInt8} (hl : l.length ≤ 2000) {ws : List Int} {k : Nat} {d j c2 : Nat} {p u t v W kk p1 u1 : Int} {j1 : Nat} {K : Pn} (hd : d < 100) (h1 : p1 + 400 + c2 < 300000000) (hp1 : 0 ≤ p1) (hu0 : 0 ≤ u1) (hu1 : u1 ≤ 1) (hW0 : 0 ≤ W) (hW6 : W ≤ 6) (hK : K.thin)
    (ht : callA C0 68 [.own 0 0, .int k] [Rd l p] = some (.int t, [Rd l (p + 1)])) (hv : callA C0 68 [.own 0 0, .int 6] [Rd l (p + 1)] = some (.int v, [Rd l (p + 1 + 1)])) (v0 : ¬ v = 0)
    (hkid : callA CP 121 [.own 0 0, .int d] (PSt l ws k j u (p + 1 + 1)) = some (.i (.agg K.cells), PSt l ws k j1 u1 p1))
    (hW : callA CP 59 [.i (.agg K.cells), .osl 0 1 0 k, .int 8] [some (.arr 1 (intsL ws))] = some (.int W, [some (.arr 1 (intsL ws))]))
    (hkk : callA C0 68 [.own 0 0, .int 10] [Rd l p1] = some (.int kk, [Rd l (p1 + 1)])) (hq : kk = 1) : ∃ (P : Pn) (p' u' : Int) (j' : Nat), bodyA CQ true 121 [.own 0 0, .int ((d + 1 : Nat) : Int)] (PSt l ws k j u p) = some (rX 3 P, PSt l ws k j' u' p' ++ rS P) ∧ P.thin ∧ p1 ≤ p' ∧ p' ≤ p1 + 400 + c2 ∧ j' ≤ j1 ∧ 0 ≤ u' ∧ u' ≤ 1 ∧ P.exprs.length ≤ 2 ∧ P.cols.length ≤ 1 := by
  have we : IntKind.i64.wrap (d : Int) = d := wrap64 (by omega) (by omega)
  have wn : ¬ ((d : Int) + 1 = 0) := by omega
  simp only [PSt] at hkid
  rw [Pn.cells_eq K] at hkid hW
  obtain ⟨e, p2, he, a1, a2, a3⟩ := randomCondition_eq l hl W (p1 + 1) (by omega) (by omega)
  have hf := filterOf_own e K
  rw [Pn.cells_eq K, Ex.cells_eq e] at hf
  rw [Ex.cells_eq e] at he
  refine ⟨filtP e K, p2, u1, j1, ?_, filtP_thin (by omega) hK, by omega, by omega, by omega, by omega, by omega, by simp [filtP, Pn.scan], by simp [filtP, Pn.scan]⟩
  rw [bodyA_eq Tryz.func121 rfl rfl]
  simp [PSt, ht, hv, v0, we, hkid, hW, hkk, wn, hq, rX, rS, bl, he, hf, filtP, Ex.cellsL, intsL, Pn.cellsL, Pn.cells_eq K, Ex.cells_eq e]
theorem root_filter2 {l : List UInt8} (hl : l.length ≤ 2000) {ws : List Int} {k : Nat} {d j c2 : Nat} {p u t v W kk p1 u1 : Int} {j1 : Nat} {K : Pn} (hd : d < 100) (h1 : p1 + 400 + c2 < 300000000) (hp1 : 0 ≤ p1) (hu0 : 0 ≤ u1) (hu1 : u1 ≤ 1) (hW0 : 0 ≤ W) (hW6 : W ≤ 6) (hK : K.thin)
    (ht : callA C0 68 [.own 0 0, .int k] [Rd l p] = some (.int t, [Rd l (p + 1)])) (hv : callA C0 68 [.own 0 0, .int 6] [Rd l (p + 1)] = some (.int v, [Rd l (p + 1 + 1)])) (v0 : ¬ v = 0)
    (hkid : callA CP 121 [.own 0 0, .int d] (PSt l ws k j u (p + 1 + 1)) = some (.i (.agg K.cells), PSt l ws k j1 u1 p1))
    (hW : callA CP 59 [.i (.agg K.cells), .osl 0 1 0 k, .int 8] [some (.arr 1 (intsL ws))] = some (.int W, [some (.arr 1 (intsL ws))]))
    (hkk : callA C0 68 [.own 0 0, .int 10] [Rd l p1] = some (.int kk, [Rd l (p1 + 1)])) (hq : kk = 2) : ∃ (P : Pn) (p' u' : Int) (j' : Nat), bodyA CQ true 121 [.own 0 0, .int ((d + 1 : Nat) : Int)] (PSt l ws k j u p) = some (rX 3 P, PSt l ws k j' u' p' ++ rS P) ∧ P.thin ∧ p1 ≤ p' ∧ p' ≤ p1 + 400 + c2 ∧ j' ≤ j1 ∧ 0 ≤ u' ∧ u' ≤ 1 ∧ P.exprs.length ≤ 2 ∧ P.cols.length ≤ 1 := by
  have we : IntKind.i64.wrap (d : Int) = d := wrap64 (by omega) (by omega)
  have wn : ¬ ((d : Int) + 1 = 0) := by omega
  simp only [PSt] at hkid
  rw [Pn.cells_eq K] at hkid hW
  obtain ⟨e, p2, he, a1, a2, a3⟩ := randomCondition_eq l hl W (p1 + 1) (by omega) (by omega)
  have hf := filterOf_own e K
  rw [Pn.cells_eq K, Ex.cells_eq e] at hf
  rw [Ex.cells_eq e] at he
  refine ⟨filtP e K, p2, u1, j1, ?_, filtP_thin (by omega) hK, by omega, by omega, by omega, by omega, by omega, by simp [filtP, Pn.scan], by simp [filtP, Pn.scan]⟩
  rw [bodyA_eq Tryz.func121 rfl rfl]
  simp [PSt, ht, hv, v0, we, hkid, hW, hkk, wn, hq, rX, rS, bl, he, hf, filtP, Ex.cellsL, intsL, Pn.cellsL, Pn.cells_eq K, Ex.cells_eq e]
theorem root_distinct {l : List UInt8} (hl : l.length ≤ 2000) {ws : List Int} {k : Nat} {d j c2 : Nat} {p u t v W kk p1 u1 : Int} {j1 : Nat} {K : Pn} (hd : d < 100) (h1 : p1 + 400 + c2 < 300000000) (hp1 : 0 ≤ p1) (hu0 : 0 ≤ u1) (hu1 : u1 ≤ 1) (hW0 : 0 ≤ W) (hW6 : W ≤ 6) (hK : K.thin)
    (ht : callA C0 68 [.own 0 0, .int k] [Rd l p] = some (.int t, [Rd l (p + 1)])) (hv : callA C0 68 [.own 0 0, .int 6] [Rd l (p + 1)] = some (.int v, [Rd l (p + 1 + 1)])) (v0 : ¬ v = 0)
    (hkid : callA CP 121 [.own 0 0, .int d] (PSt l ws k j u (p + 1 + 1)) = some (.i (.agg K.cells), PSt l ws k j1 u1 p1))
    (hW : callA CP 59 [.i (.agg K.cells), .osl 0 1 0 k, .int 8] [some (.arr 1 (intsL ws))] = some (.int W, [some (.arr 1 (intsL ws))]))
    (hkk : callA C0 68 [.own 0 0, .int 10] [Rd l p1] = some (.int kk, [Rd l (p1 + 1)])) (hq : kk = 8) : ∃ (P : Pn) (p' u' : Int) (j' : Nat), bodyA CQ true 121 [.own 0 0, .int ((d + 1 : Nat) : Int)] (PSt l ws k j u p) = some (rX 3 P, PSt l ws k j' u' p' ++ rS P) ∧ P.thin ∧ p1 ≤ p' ∧ p' ≤ p1 + 400 + c2 ∧ j' ≤ j1 ∧ 0 ≤ u' ∧ u' ≤ 1 ∧ P.exprs.length ≤ 2 ∧ P.cols.length ≤ 1 := by
  have we : IntKind.i64.wrap (d : Int) = d := wrap64 (by omega) (by omega)
  have wn : ¬ ((d : Int) + 1 = 0) := by omega
  simp only [PSt] at hkid
  rw [Pn.cells_eq K] at hkid hW
  refine ⟨.mk 7 0 [] [] [K], p1 + 1, u1, j1, ?_, by simp [Pn.thin, Pn.thinL, hK], by omega, by omega, by omega, by omega, by omega, by simp [filtP, Pn.scan], by simp [filtP, Pn.scan]⟩
  rw [bodyA_eq Tryz.func121 rfl rfl]
  simp [PSt, ht, hv, v0, we, hkid, hW, hkk, wn, hq, rX, rS, bl, Pn.cells, Ex.cellsL, intsL, Pn.cellsL, Pn.cells_eq K]
theorem root_nojoin5 {l : List UInt8} (hl : l.length ≤ 2000) {ws : List Int} {k : Nat} {d j c2 : Nat} {p u t v W kk p1 u1 : Int} {j1 : Nat} {K : Pn} (hd : d < 100) (h1 : p1 + 400 + c2 < 300000000) (hp1 : 0 ≤ p1) (hu0 : 0 ≤ u1) (hu1 : u1 ≤ 1) (hW0 : 0 ≤ W) (hW6 : W ≤ 6) (hK : K.thin)
    (ht : callA C0 68 [.own 0 0, .int k] [Rd l p] = some (.int t, [Rd l (p + 1)])) (hv : callA C0 68 [.own 0 0, .int 6] [Rd l (p + 1)] = some (.int v, [Rd l (p + 1 + 1)])) (v0 : ¬ v = 0)
    (hkid : callA CP 121 [.own 0 0, .int d] (PSt l ws k j u (p + 1 + 1)) = some (.i (.agg K.cells), PSt l ws k j1 u1 p1))
    (hW : callA CP 59 [.i (.agg K.cells), .osl 0 1 0 k, .int 8] [some (.arr 1 (intsL ws))] = some (.int W, [some (.arr 1 (intsL ws))]))
    (hkk : callA C0 68 [.own 0 0, .int 10] [Rd l p1] = some (.int kk, [Rd l (p1 + 1)])) (hj : j1 = 0) (hq : kk = 5) : ∃ (P : Pn) (p' u' : Int) (j' : Nat), bodyA CQ true 121 [.own 0 0, .int ((d + 1 : Nat) : Int)] (PSt l ws k j u p) = some (rX 3 P, PSt l ws k j' u' p' ++ rS P) ∧ P.thin ∧ p1 ≤ p' ∧ p' ≤ p1 + 400 + c2 ∧ j' ≤ j1 ∧ 0 ≤ u' ∧ u' ≤ 1 ∧ P.exprs.length ≤ 2 ∧ P.cols.length ≤ 1 := by
  have we : IntKind.i64.wrap (d : Int) = d := wrap64 (by omega) (by omega)
  have wn : ¬ ((d : Int) + 1 = 0) := by omega
  simp only [PSt] at hkid
  rw [Pn.cells_eq K] at hkid hW
  obtain ⟨e, p2, he, a1, a2, a3⟩ := randomCondition_eq l hl W (p1 + 1) (by omega) (by omega)
  have hf := filterOf_own e K
  rw [Pn.cells_eq K, Ex.cells_eq e] at hf
  rw [Ex.cells_eq e] at he
  refine ⟨filtP e K, p2, u1, j1, ?_, filtP_thin (by omega) hK, by omega, by omega, by omega, by omega, by omega, by simp [filtP, Pn.scan], by simp [filtP, Pn.scan]⟩
  rw [bodyA_eq Tryz.func121 rfl rfl]
  simp [PSt, ht, hv, v0, we, hkid, hW, hkk, wn, hq, rX, rS, bl, he, hf, filtP, Ex.cellsL, intsL, Pn.cellsL, Pn.cells_eq K, Ex.cells_eq e, hj]
theorem root_wide5 {l : List UInt8} (hl : l.length ≤ 2000) {ws : List Int} {k : Nat} {d j c2 : Nat} {p u t v W kk p1 u1 : Int} {j1 : Nat} {K : Pn} (hd : d < 100) (h1 : p1 + 400 + c2 < 300000000) (hp1 : 0 ≤ p1) (hu0 : 0 ≤ u1) (hu1 : u1 ≤ 1) (hW0 : 0 ≤ W) (hW6 : W ≤ 6) (hK : K.thin)
    (ht : callA C0 68 [.own 0 0, .int k] [Rd l p] = some (.int t, [Rd l (p + 1)])) (hv : callA C0 68 [.own 0 0, .int 6] [Rd l (p + 1)] = some (.int v, [Rd l (p + 1 + 1)])) (v0 : ¬ v = 0)
    (hkid : callA CP 121 [.own 0 0, .int d] (PSt l ws k j u (p + 1 + 1)) = some (.i (.agg K.cells), PSt l ws k j1 u1 p1))
    (hW : callA CP 59 [.i (.agg K.cells), .osl 0 1 0 k, .int 8] [some (.arr 1 (intsL ws))] = some (.int W, [some (.arr 1 (intsL ws))]))
    (hkk : callA C0 68 [.own 0 0, .int 10] [Rd l p1] = some (.int kk, [Rd l (p1 + 1)])) (hj : j1 ≠ 0) (hw4 : ¬ W ≤ 4) (hq : kk = 5) : ∃ (P : Pn) (p' u' : Int) (j' : Nat), bodyA CQ true 121 [.own 0 0, .int ((d + 1 : Nat) : Int)] (PSt l ws k j u p) = some (rX 3 P, PSt l ws k j' u' p' ++ rS P) ∧ P.thin ∧ p1 ≤ p' ∧ p' ≤ p1 + 400 + c2 ∧ j' ≤ j1 ∧ 0 ≤ u' ∧ u' ≤ 1 ∧ P.exprs.length ≤ 2 ∧ P.cols.length ≤ 1 := by
  have we : IntKind.i64.wrap (d : Int) = d := wrap64 (by omega) (by omega)
  have wn : ¬ ((d : Int) + 1 = 0) := by omega
  simp only [PSt] at hkid
  rw [Pn.cells_eq K] at hkid hW
  have hj' : 0 < j1 := by omega
  obtain ⟨e, p2, he, a1, a2, a3⟩ := randomCondition_eq l hl W (p1 + 1) (by omega) (by omega)
  have hf := filterOf_own e K
  rw [Pn.cells_eq K, Ex.cells_eq e] at hf
  rw [Ex.cells_eq e] at he
  refine ⟨filtP e K, p2, u1, j1, ?_, filtP_thin (by omega) hK, by omega, by omega, by omega, by omega, by omega, by simp [filtP, Pn.scan], by simp [filtP, Pn.scan]⟩
  rw [bodyA_eq Tryz.func121 rfl rfl]
  simp [PSt, ht, hv, v0, we, hkid, hW, hkk, wn, hq, rX, rS, bl, he, hf, filtP, Ex.cellsL, intsL, Pn.cellsL, Pn.cells_eq K, Ex.cells_eq e, hj', hj, hw4]
theorem root_nojoin6 {l : List UInt8} (hl : l.length ≤ 2000) {ws : List Int} {k : Nat} {d j c2 : Nat} {p u t v W kk p1 u1 : Int} {j1 : Nat} {K : Pn} (hd : d < 100) (h1 : p1 + 400 + c2 < 300000000) (hp1 : 0 ≤ p1) (hu0 : 0 ≤ u1) (hu1 : u1 ≤ 1) (hW0 : 0 ≤ W) (hW6 : W ≤ 6) (hK : K.thin)
    (ht : callA C0 68 [.own 0 0, .int k] [Rd l p] = some (.int t, [Rd l (p + 1)])) (hv : callA C0 68 [.own 0 0, .int 6] [Rd l (p + 1)] = some (.int v, [Rd l (p + 1 + 1)])) (v0 : ¬ v = 0)
    (hkid : callA CP 121 [.own 0 0, .int d] (PSt l ws k j u (p + 1 + 1)) = some (.i (.agg K.cells), PSt l ws k j1 u1 p1))
    (hW : callA CP 59 [.i (.agg K.cells), .osl 0 1 0 k, .int 8] [some (.arr 1 (intsL ws))] = some (.int W, [some (.arr 1 (intsL ws))]))
    (hkk : callA C0 68 [.own 0 0, .int 10] [Rd l p1] = some (.int kk, [Rd l (p1 + 1)])) (hj : j1 = 0) (hq : kk = 6) : ∃ (P : Pn) (p' u' : Int) (j' : Nat), bodyA CQ true 121 [.own 0 0, .int ((d + 1 : Nat) : Int)] (PSt l ws k j u p) = some (rX 3 P, PSt l ws k j' u' p' ++ rS P) ∧ P.thin ∧ p1 ≤ p' ∧ p' ≤ p1 + 400 + c2 ∧ j' ≤ j1 ∧ 0 ≤ u' ∧ u' ≤ 1 ∧ P.exprs.length ≤ 2 ∧ P.cols.length ≤ 1 := by
  have we : IntKind.i64.wrap (d : Int) = d := wrap64 (by omega) (by omega)
  have wn : ¬ ((d : Int) + 1 = 0) := by omega
  simp only [PSt] at hkid
  rw [Pn.cells_eq K] at hkid hW
  obtain ⟨e, p2, he, a1, a2, a3⟩ := randomCondition_eq l hl W (p1 + 1) (by omega) (by omega)
  have hf := filterOf_own e K
  rw [Pn.cells_eq K, Ex.cells_eq e] at hf
  rw [Ex.cells_eq e] at he
  refine ⟨filtP e K, p2, u1, j1, ?_, filtP_thin (by omega) hK, by omega, by omega, by omega, by omega, by omega, by simp [filtP, Pn.scan], by simp [filtP, Pn.scan]⟩
  rw [bodyA_eq Tryz.func121 rfl rfl]
  simp [PSt, ht, hv, v0, we, hkid, hW, hkk, wn, hq, rX, rS, bl, he, hf, filtP, Ex.cellsL, intsL, Pn.cellsL, Pn.cells_eq K, Ex.cells_eq e, hj]
theorem root_wide6 {l : List UInt8} (hl : l.length ≤ 2000) {ws : List Int} {k : Nat} {d j c2 : Nat} {p u t v W kk p1 u1 : Int} {j1 : Nat} {K : Pn} (hd : d < 100) (h1 : p1 + 400 + c2 < 300000000) (hp1 : 0 ≤ p1) (hu0 : 0 ≤ u1) (hu1 : u1 ≤ 1) (hW0 : 0 ≤ W) (hW6 : W ≤ 6) (hK : K.thin)
    (ht : callA C0 68 [.own 0 0, .int k] [Rd l p] = some (.int t, [Rd l (p + 1)])) (hv : callA C0 68 [.own 0 0, .int 6] [Rd l (p + 1)] = some (.int v, [Rd l (p + 1 + 1)])) (v0 : ¬ v = 0)
    (hkid : callA CP 121 [.own 0 0, .int d] (PSt l ws k j u (p + 1 + 1)) = some (.i (.agg K.cells), PSt l ws k j1 u1 p1))
    (hW : callA CP 59 [.i (.agg K.cells), .osl 0 1 0 k, .int 8] [some (.arr 1 (intsL ws))] = some (.int W, [some (.arr 1 (intsL ws))]))
    (hkk : callA C0 68 [.own 0 0, .int 10] [Rd l p1] = some (.int kk, [Rd l (p1 + 1)])) (hj : j1 ≠ 0) (hw4 : ¬ W ≤ 4) (hq : kk = 6) : ∃ (P : Pn) (p' u' : Int) (j' : Nat), bodyA CQ true 121 [.own 0 0, .int ((d + 1 : Nat) : Int)] (PSt l ws k j u p) = some (rX 3 P, PSt l ws k j' u' p' ++ rS P) ∧ P.thin ∧ p1 ≤ p' ∧ p' ≤ p1 + 400 + c2 ∧ j' ≤ j1 ∧ 0 ≤ u' ∧ u' ≤ 1 ∧ P.exprs.length ≤ 2 ∧ P.cols.length ≤ 1 := by
  have we : IntKind.i64.wrap (d : Int) = d := wrap64 (by omega) (by omega)
  have wn : ¬ ((d : Int) + 1 = 0) := by omega
  simp only [PSt] at hkid
  rw [Pn.cells_eq K] at hkid hW
  have hj' : 0 < j1 := by omega
  obtain ⟨e, p2, he, a1, a2, a3⟩ := randomCondition_eq l hl W (p1 + 1) (by omega) (by omega)
  have hf := filterOf_own e K
  rw [Pn.cells_eq K, Ex.cells_eq e] at hf
  rw [Ex.cells_eq e] at he
  refine ⟨filtP e K, p2, u1, j1, ?_, filtP_thin (by omega) hK, by omega, by omega, by omega, by omega, by omega, by simp [filtP, Pn.scan], by simp [filtP, Pn.scan]⟩
  rw [bodyA_eq Tryz.func121 rfl rfl]
  simp [PSt, ht, hv, v0, we, hkid, hW, hkk, wn, hq, rX, rS, bl, he, hf, filtP, Ex.cellsL, intsL, Pn.cellsL, Pn.cells_eq K, Ex.cells_eq e, hj', hj, hw4]
theorem root_nounion {l : List UInt8} (hl : l.length ≤ 2000) {ws : List Int} {k : Nat} {d j c2 : Nat} {p u t v W kk p1 u1 : Int} {j1 : Nat} {K : Pn} (hd : d < 100) (h1 : p1 + 400 + c2 < 300000000) (hp1 : 0 ≤ p1) (hu0 : 0 ≤ u1) (hu1 : u1 ≤ 1) (hW0 : 0 ≤ W) (hW6 : W ≤ 6) (hK : K.thin)
    (ht : callA C0 68 [.own 0 0, .int k] [Rd l p] = some (.int t, [Rd l (p + 1)])) (hv : callA C0 68 [.own 0 0, .int 6] [Rd l (p + 1)] = some (.int v, [Rd l (p + 1 + 1)])) (v0 : ¬ v = 0)
    (hkid : callA CP 121 [.own 0 0, .int d] (PSt l ws k j u (p + 1 + 1)) = some (.i (.agg K.cells), PSt l ws k j1 u1 p1))
    (hW : callA CP 59 [.i (.agg K.cells), .osl 0 1 0 k, .int 8] [some (.arr 1 (intsL ws))] = some (.int W, [some (.arr 1 (intsL ws))]))
    (hkk : callA C0 68 [.own 0 0, .int 10] [Rd l p1] = some (.int kk, [Rd l (p1 + 1)])) (hu : ¬ 0 < u1) (hq : kk = 7) : ∃ (P : Pn) (p' u' : Int) (j' : Nat), bodyA CQ true 121 [.own 0 0, .int ((d + 1 : Nat) : Int)] (PSt l ws k j u p) = some (rX 3 P, PSt l ws k j' u' p' ++ rS P) ∧ P.thin ∧ p1 ≤ p' ∧ p' ≤ p1 + 400 + c2 ∧ j' ≤ j1 ∧ 0 ≤ u' ∧ u' ≤ 1 ∧ P.exprs.length ≤ 2 ∧ P.cols.length ≤ 1 := by
  have we : IntKind.i64.wrap (d : Int) = d := wrap64 (by omega) (by omega)
  have wn : ¬ ((d : Int) + 1 = 0) := by omega
  simp only [PSt] at hkid
  rw [Pn.cells_eq K] at hkid hW
  obtain ⟨e, p2, he, a1, a2, a3⟩ := randomCondition_eq l hl W (p1 + 1) (by omega) (by omega)
  have hf := filterOf_own e K
  rw [Pn.cells_eq K, Ex.cells_eq e] at hf
  rw [Ex.cells_eq e] at he
  refine ⟨filtP e K, p2, u1, j1, ?_, filtP_thin (by omega) hK, by omega, by omega, by omega, by omega, by omega, by simp [filtP, Pn.scan], by simp [filtP, Pn.scan]⟩
  rw [bodyA_eq Tryz.func121 rfl rfl]
  simp [PSt, ht, hv, v0, we, hkid, hW, hkk, wn, hq, rX, rS, bl, he, hf, filtP, Ex.cellsL, intsL, Pn.cellsL, Pn.cells_eq K, Ex.cells_eq e, hu]
theorem root_union {l : List UInt8} (hl : l.length ≤ 2000) {ws : List Int} {k : Nat} {d j c2 : Nat} {p u t v W kk p1 u1 : Int} {j1 : Nat} {K : Pn} (hd : d < 100) (h1 : p1 + 400 + c2 < 300000000) (hp1 : 0 ≤ p1) (hu0 : 0 ≤ u1) (hu1 : u1 ≤ 1) (hW0 : 0 ≤ W) (hW6 : W ≤ 6) (hK : K.thin)
    (ht : callA C0 68 [.own 0 0, .int k] [Rd l p] = some (.int t, [Rd l (p + 1)])) (hv : callA C0 68 [.own 0 0, .int 6] [Rd l (p + 1)] = some (.int v, [Rd l (p + 1 + 1)])) (v0 : ¬ v = 0)
    (hkid : callA CP 121 [.own 0 0, .int d] (PSt l ws k j u (p + 1 + 1)) = some (.i (.agg K.cells), PSt l ws k j1 u1 p1))
    (hW : callA CP 59 [.i (.agg K.cells), .osl 0 1 0 k, .int 8] [some (.arr 1 (intsL ws))] = some (.int W, [some (.arr 1 (intsL ws))]))
    (hkk : callA C0 68 [.own 0 0, .int 10] [Rd l p1] = some (.int kk, [Rd l (p1 + 1)])) (hu : 0 < u1) (hq : kk = 7) : ∃ (P : Pn) (p' u' : Int) (j' : Nat), bodyA CQ true 121 [.own 0 0, .int ((d + 1 : Nat) : Int)] (PSt l ws k j u p) = some (rX 3 P, PSt l ws k j' u' p' ++ rS P) ∧ P.thin ∧ p1 ≤ p' ∧ p' ≤ p1 + 400 + c2 ∧ j' ≤ j1 ∧ 0 ≤ u' ∧ u' ≤ 1 ∧ P.exprs.length ≤ 2 ∧ P.cols.length ≤ 1 := by
  have we : IntKind.i64.wrap (d : Int) = d := wrap64 (by omega) (by omega)
  have wn : ¬ ((d : Int) + 1 = 0) := by omega
  simp only [PSt] at hkid
  rw [Pn.cells_eq K] at hkid hW
  obtain ⟨e, p2, he, a1, a2, a3⟩ := randomCondition_eq l hl W (p1 + 1) (by omega) (by omega)
  have hf := filterOf_own e K
  have hc := cp_copyPlan K hK
  have wu : IntKind.i64.wrap (u1 - 1) = u1 - 1 := wrap64 (by omega) (by omega)
  rw [Pn.cells_eq K, Ex.cells_eq e] at hf
  rw [Pn.cells_eq K] at hc
  rw [Ex.cells_eq e] at he
  refine ⟨.mk 6 0 [] [] [K, filtP e K], p2, u1 - 1, j1, ?_, by have := filtP_thin (e := e) (by omega) hK; simp [Pn.thin, Pn.thinL, hK, this], by omega, by omega, by omega, by omega, by omega, by simp [filtP, Pn.scan], by simp [filtP, Pn.scan]⟩
  rw [bodyA_eq Tryz.func121 rfl rfl]
  simp [PSt, ht, hv, v0, we, hkid, hW, hkk, wn, hq, rX, rS, bl, he, hf, filtP, Ex.cellsL, intsL, Pn.cellsL, Pn.cells_eq K, Ex.cells_eq e, hu, hc, wu, Pn.cells_mk, Ex.cellsL, intsL, Pn.cellsL]
theorem root_group1 {l : List UInt8} (hl : l.length ≤ 2000) {ws : List Int} {k : Nat} {d j c2 : Nat} {p u t v W kk p1 u1 : Int} {j1 : Nat} {K : Pn} (hd : d < 100) (h1 : p1 + 400 + c2 < 300000000) (hp1 : 0 ≤ p1) (hu0 : 0 ≤ u1) (hu1 : u1 ≤ 1) (hW0 : 0 ≤ W) (hW6 : W ≤ 6) (hK : K.thin)
    (ht : callA C0 68 [.own 0 0, .int k] [Rd l p] = some (.int t, [Rd l (p + 1)])) (hv : callA C0 68 [.own 0 0, .int 6] [Rd l (p + 1)] = some (.int v, [Rd l (p + 1 + 1)])) (v0 : ¬ v = 0)
    (hkid : callA CP 121 [.own 0 0, .int d] (PSt l ws k j u (p + 1 + 1)) = some (.i (.agg K.cells), PSt l ws k j1 u1 p1))
    (hW : callA CP 59 [.i (.agg K.cells), .osl 0 1 0 k, .int 8] [some (.arr 1 (intsL ws))] = some (.int W, [some (.arr 1 (intsL ws))]))
    (hkk : callA C0 68 [.own 0 0, .int 10] [Rd l p1] = some (.int kk, [Rd l (p1 + 1)])) (hw1 : ¬ 1 < W) (hq : kk = 9) : ∃ (P : Pn) (p' u' : Int) (j' : Nat), bodyA CQ true 121 [.own 0 0, .int ((d + 1 : Nat) : Int)] (PSt l ws k j u p) = some (rX 3 P, PSt l ws k j' u' p' ++ rS P) ∧ P.thin ∧ p1 ≤ p' ∧ p' ≤ p1 + 400 + c2 ∧ j' ≤ j1 ∧ 0 ≤ u' ∧ u' ≤ 1 ∧ P.exprs.length ≤ 2 ∧ P.cols.length ≤ 1 := by
  have we : IntKind.i64.wrap (d : Int) = d := wrap64 (by omega) (by omega)
  have wn : ¬ ((d : Int) + 1 = 0) := by omega
  simp only [PSt] at hkid
  rw [Pn.cells_eq K] at hkid hW
  refine ⟨.mk 8 0 [] [] [K], p1 + 1, u1, j1, ?_, by simp [Pn.thin, Pn.thinL, hK], by omega, by omega, by omega, by omega, by omega, by simp [filtP, Pn.scan], by simp [filtP, Pn.scan]⟩
  rw [bodyA_eq Tryz.func121 rfl rfl]
  simp [PSt, ht, hv, v0, we, hkid, hW, hkk, wn, hq, rX, rS, bl, hw1, Pn.cells_mk, Ex.cellsL, intsL, Pn.cellsL, Pn.cells_eq K]
theorem root_group2 {l : List UInt8} (hl : l.length ≤ 2000) {ws : List Int} {k : Nat} {d j c2 : Nat} {p u t v W kk p1 u1 : Int} {j1 : Nat} {K : Pn} (hd : d < 100) (h1 : p1 + 400 + c2 < 300000000) (hp1 : 0 ≤ p1) (hu0 : 0 ≤ u1) (hu1 : u1 ≤ 1) (hW0 : 0 ≤ W) (hW6 : W ≤ 6) (hK : K.thin)
    (ht : callA C0 68 [.own 0 0, .int k] [Rd l p] = some (.int t, [Rd l (p + 1)])) (hv : callA C0 68 [.own 0 0, .int 6] [Rd l (p + 1)] = some (.int v, [Rd l (p + 1 + 1)])) (v0 : ¬ v = 0)
    (hkid : callA CP 121 [.own 0 0, .int d] (PSt l ws k j u (p + 1 + 1)) = some (.i (.agg K.cells), PSt l ws k j1 u1 p1))
    (hW : callA CP 59 [.i (.agg K.cells), .osl 0 1 0 k, .int 8] [some (.arr 1 (intsL ws))] = some (.int W, [some (.arr 1 (intsL ws))]))
    (hkk : callA C0 68 [.own 0 0, .int 10] [Rd l p1] = some (.int kk, [Rd l (p1 + 1)])) (hw1 : 1 < W) (hq : kk = 9) : ∃ (P : Pn) (p' u' : Int) (j' : Nat), bodyA CQ true 121 [.own 0 0, .int ((d + 1 : Nat) : Int)] (PSt l ws k j u p) = some (rX 3 P, PSt l ws k j' u' p' ++ rS P) ∧ P.thin ∧ p1 ≤ p' ∧ p' ≤ p1 + 400 + c2 ∧ j' ≤ j1 ∧ 0 ≤ u' ∧ u' ≤ 1 ∧ P.exprs.length ≤ 2 ∧ P.cols.length ≤ 1 := by
  have we : IntKind.i64.wrap (d : Int) = d := wrap64 (by omega) (by omega)
  have wn : ¬ ((d : Int) + 1 = 0) := by omega
  simp only [PSt] at hkid
  rw [Pn.cells_eq K] at hkid hW
  obtain ⟨g, hg, -, -⟩ := pick_eq l (p1 + 1) W (by omega) (by omega) hl
  refine ⟨.mk 8 0 [] [g] [K], p1 + 1 + 1, u1, j1, ?_, by simp [Pn.thin, Pn.thinL, hK], by omega, by omega, by omega, by omega, by omega, by simp [filtP, Pn.scan], by simp [filtP, Pn.scan]⟩
  rw [bodyA_eq Tryz.func121 rfl rfl]
  simp [PSt, ht, hv, v0, we, hkid, hW, hkk, wn, hq, rX, rS, bl, hg, hw1, Pn.cells_mk, Ex.cellsL, intsL, Pn.cellsL, Pn.cells_eq K]
theorem root_join5 {l : List UInt8} (hl : l.length ≤ 2000) {ws : List Int} (hw : ∀ w ∈ ws, 0 ≤ w ∧ w ≤ 6) (hwl : ws.length < 1000000) {k : Nat} (hk0 : 0 < k) (hkl : k ≤ ws.length) {d j c2 : Nat} {p u t v W kk p1 u1 : Int} {j1 : Nat} {K : Pn} (hd : d < 100) (h1 : p1 + 400 + c2 < 300000000) (hp1 : 0 ≤ p1) (hu0 : 0 ≤ u1) (hu1 : u1 ≤ 1) (hW0 : 0 ≤ W) (hW6 : W ≤ 6) (hK : K.thin)
    (ht : callA C0 68 [.own 0 0, .int k] [Rd l p] = some (.int t, [Rd l (p + 1)])) (hv : callA C0 68 [.own 0 0, .int 6] [Rd l (p + 1)] = some (.int v, [Rd l (p + 1 + 1)])) (v0 : ¬ v = 0)
    (hkid : callA CP 121 [.own 0 0, .int d] (PSt l ws k j u (p + 1 + 1)) = some (.i (.agg K.cells), PSt l ws k j1 u1 p1))
    (hW : callA CP 59 [.i (.agg K.cells), .osl 0 1 0 k, .int 8] [some (.arr 1 (intsL ws))] = some (.int W, [some (.arr 1 (intsL ws))]))
    (hkk : callA C0 68 [.own 0 0, .int 10] [Rd l p1] = some (.int kk, [Rd l (p1 + 1)])) (hj : j1 ≠ 0) (hjb : j1 < 1000) (hw4 : W ≤ 4) (hoth : ∀ y : Nat, y ≤ 1 → PlanOk l ws k y (j1 - 1) c2) (hq : kk = 5) : ∃ (P : Pn) (p' u' : Int) (j' : Nat), bodyA CQ true 121 [.own 0 0, .int ((d + 1 : Nat) : Int)] (PSt l ws k j u p) = some (rX 3 P, PSt l ws k j' u' p' ++ rS P) ∧ P.thin ∧ p1 ≤ p' ∧ p' ≤ p1 + 400 + c2 ∧ j' ≤ j1 ∧ 0 ≤ u' ∧ u' ≤ 1 ∧ P.exprs.length ≤ 2 ∧ P.cols.length ≤ 1 := by
  have we : IntKind.i64.wrap (d : Int) = d := wrap64 (by omega) (by omega)
  have wn : ¬ ((d : Int) + 1 = 0) := by omega
  simp only [PSt] at hkid
  rw [Pn.cells_eq K] at hkid hW
  have hj' : 0 < j1 := by omega
  have wj : IntKind.i64.wrap ((j1 : Int) - 1) = ((j1 - 1 : Nat) : Int) := by rw [wrap64 (by omega) (by omega)]; omega
  obtain ⟨x, hx, hx1, -⟩ := pick_eq l (p1 + 1) 2 (by omega) (by omega) hl
  obtain ⟨x0, x1⟩ := hx1 (by omega)
  obtain ⟨y, rfl⟩ : ∃ y : Nat, x = y := ⟨x.toNat, by omega⟩
  obtain ⟨O, p2, u2, j2, hO, hOt, b1, b2, b3, b4, b5⟩ := hoth y (by omega) (p1 + 1 + 1) u1 (by omega) (by omega) hu0 hu1
  have hV := splanWidth_own hw hwl hk0 hkl O hOt
  have hVr := Pn.wd_range (ws := ws.take k) (fun w hm => hw w (List.mem_of_mem_take hm)) O 8
  generalize O.wd (ws.take k) 8 = V at hV hVr
  have wv : IntKind.i64.wrap (W + V) = W + V := wrap64 (by omega) (by omega)
  simp only [PSt] at hO
  rw [Pn.cells_eq O] at hO hV
  by_cases hs : W + V ≤ 6
  · have h1 := one_eq l p2 (by omega) (by omega) hl [[.int 4], [.int 5]] (by simp) (by simp) (by simp)
    obtain ⟨z, hz, hzm⟩ := h1
    obtain ⟨e, p3, he, a1, a2, a3⟩ := randomCondition_eq l hl (W + V) (p2 + 1) (by omega) (by omega)
    rw [Ex.cells_eq e] at he
    simp only [List.length_cons, List.length_nil, Nat.zero_add, Nat.reduceAdd] at hz
    have het := Ex.thin_of_size e (by omega)
    refine ⟨.mk z 0 [e] [] [K, O], p3, u2, j2, ?_, by simp [Pn.thin, Pn.thinL, hK, hOt, het], by omega, by omega, by omega, by omega, by omega, by simp [filtP, Pn.scan], by simp [filtP, Pn.scan]⟩
    rw [bodyA_eq Tryz.func121 rfl rfl]
    simp [PSt, ht, hv, v0, we, hkid, hW, hkk, wn, hq, hj', hj, hw4, wj, hx, hO, hV, wv, hs, hz, he, rX, rS, bl, Pn.cells_mk, Ex.cellsL, intsL, Pn.cellsL, Pn.cells_eq K, Pn.cells_eq O, Ex.cells_eq e]
  · obtain ⟨e, p3, he, a1, a2, a3⟩ := randomCondition_eq l hl W p2 (by omega) (by omega)
    have hf := filterOf_own e K
    rw [Pn.cells_eq K, Ex.cells_eq e] at hf
    rw [Ex.cells_eq e] at he
    refine ⟨filtP e K, p3, u2, j2, ?_, filtP_thin (by omega) hK, by omega, by omega, by omega, by omega, by omega, by simp [filtP, Pn.scan], by simp [filtP, Pn.scan]⟩
    rw [bodyA_eq Tryz.func121 rfl rfl]
    simp [PSt, ht, hv, v0, we, hkid, hW, hkk, wn, hq, hj', hj, hw4, wj, hx, hO, hV, wv, hs, rX, rS, bl, he, hf, filtP, Ex.cellsL, intsL, Pn.cellsL, Pn.cells_eq K, Ex.cells_eq e]
theorem root_join6 {l : List UInt8} (hl : l.length ≤ 2000) {ws : List Int} (hw : ∀ w ∈ ws, 0 ≤ w ∧ w ≤ 6) (hwl : ws.length < 1000000) {k : Nat} (hk0 : 0 < k) (hkl : k ≤ ws.length) {d j c2 : Nat} {p u t v W kk p1 u1 : Int} {j1 : Nat} {K : Pn} (hd : d < 100) (h1 : p1 + 400 + c2 < 300000000) (hp1 : 0 ≤ p1) (hu0 : 0 ≤ u1) (hu1 : u1 ≤ 1) (hW0 : 0 ≤ W) (hW6 : W ≤ 6) (hK : K.thin)
    (ht : callA C0 68 [.own 0 0, .int k] [Rd l p] = some (.int t, [Rd l (p + 1)])) (hv : callA C0 68 [.own 0 0, .int 6] [Rd l (p + 1)] = some (.int v, [Rd l (p + 1 + 1)])) (v0 : ¬ v = 0)
    (hkid : callA CP 121 [.own 0 0, .int d] (PSt l ws k j u (p + 1 + 1)) = some (.i (.agg K.cells), PSt l ws k j1 u1 p1))
    (hW : callA CP 59 [.i (.agg K.cells), .osl 0 1 0 k, .int 8] [some (.arr 1 (intsL ws))] = some (.int W, [some (.arr 1 (intsL ws))]))
    (hkk : callA C0 68 [.own 0 0, .int 10] [Rd l p1] = some (.int kk, [Rd l (p1 + 1)])) (hj : j1 ≠ 0) (hjb : j1 < 1000) (hw4 : W ≤ 4) (hoth : ∀ y : Nat, y ≤ 1 → PlanOk l ws k y (j1 - 1) c2) (hq : kk = 6) : ∃ (P : Pn) (p' u' : Int) (j' : Nat), bodyA CQ true 121 [.own 0 0, .int ((d + 1 : Nat) : Int)] (PSt l ws k j u p) = some (rX 3 P, PSt l ws k j' u' p' ++ rS P) ∧ P.thin ∧ p1 ≤ p' ∧ p' ≤ p1 + 400 + c2 ∧ j' ≤ j1 ∧ 0 ≤ u' ∧ u' ≤ 1 ∧ P.exprs.length ≤ 2 ∧ P.cols.length ≤ 1 := by
  have we : IntKind.i64.wrap (d : Int) = d := wrap64 (by omega) (by omega)
  have wn : ¬ ((d : Int) + 1 = 0) := by omega
  simp only [PSt] at hkid
  rw [Pn.cells_eq K] at hkid hW
  have hj' : 0 < j1 := by omega
  have wj : IntKind.i64.wrap ((j1 : Int) - 1) = ((j1 - 1 : Nat) : Int) := by rw [wrap64 (by omega) (by omega)]; omega
  obtain ⟨x, hx, hx1, -⟩ := pick_eq l (p1 + 1) 2 (by omega) (by omega) hl
  obtain ⟨x0, x1⟩ := hx1 (by omega)
  obtain ⟨y, rfl⟩ : ∃ y : Nat, x = y := ⟨x.toNat, by omega⟩
  obtain ⟨O, p2, u2, j2, hO, hOt, b1, b2, b3, b4, b5⟩ := hoth y (by omega) (p1 + 1 + 1) u1 (by omega) (by omega) hu0 hu1
  have hV := splanWidth_own hw hwl hk0 hkl O hOt
  have hVr := Pn.wd_range (ws := ws.take k) (fun w hm => hw w (List.mem_of_mem_take hm)) O 8
  generalize O.wd (ws.take k) 8 = V at hV hVr
  have wv : IntKind.i64.wrap (W + V) = W + V := wrap64 (by omega) (by omega)
  simp only [PSt] at hO
  rw [Pn.cells_eq O] at hO hV
  by_cases hs : W + V ≤ 6
  · have h1 := one_eq l p2 (by omega) (by omega) hl [[.int 4], [.int 5]] (by simp) (by simp) (by simp)
    obtain ⟨z, hz, hzm⟩ := h1
    obtain ⟨e, p3, he, a1, a2, a3⟩ := randomCondition_eq l hl (W + V) (p2 + 1) (by omega) (by omega)
    rw [Ex.cells_eq e] at he
    simp only [List.length_cons, List.length_nil, Nat.zero_add, Nat.reduceAdd] at hz
    have het := Ex.thin_of_size e (by omega)
    refine ⟨.mk z 0 [e] [] [K, O], p3, u2, j2, ?_, by simp [Pn.thin, Pn.thinL, hK, hOt, het], by omega, by omega, by omega, by omega, by omega, by simp [filtP, Pn.scan], by simp [filtP, Pn.scan]⟩
    rw [bodyA_eq Tryz.func121 rfl rfl]
    simp [PSt, ht, hv, v0, we, hkid, hW, hkk, wn, hq, hj', hj, hw4, wj, hx, hO, hV, wv, hs, hz, he, rX, rS, bl, Pn.cells_mk, Ex.cellsL, intsL, Pn.cellsL, Pn.cells_eq K, Pn.cells_eq O, Ex.cells_eq e]
  · obtain ⟨e, p3, he, a1, a2, a3⟩ := randomCondition_eq l hl W p2 (by omega) (by omega)
    have hf := filterOf_own e K
    rw [Pn.cells_eq K, Ex.cells_eq e] at hf
    rw [Ex.cells_eq e] at he
    refine ⟨filtP e K, p3, u2, j2, ?_, filtP_thin (by omega) hK, by omega, by omega, by omega, by omega, by omega, by simp [filtP, Pn.scan], by simp [filtP, Pn.scan]⟩
    rw [bodyA_eq Tryz.func121 rfl rfl]
    simp [PSt, ht, hv, v0, we, hkid, hW, hkk, wn, hq, hj', hj, hw4, wj, hx, hO, hV, wv, hs, rX, rS, bl, he, hf, filtP, Ex.cellsL, intsL, Pn.cellsL, Pn.cells_eq K, Ex.cells_eq e]
theorem root_proj3 {l : List UInt8} (hl : l.length ≤ 2000) {ws : List Int} {k : Nat} {d j c2 : Nat} {p u t v W kk p1 u1 : Int} {j1 : Nat} {K : Pn} (hd : d < 100) (h1 : p1 + 400 + c2 < 300000000) (hp1 : 0 ≤ p1) (hu0 : 0 ≤ u1) (hu1 : u1 ≤ 1) (hW0 : 0 ≤ W) (hW6 : W ≤ 6) (hK : K.thin)
    (ht : callA C0 68 [.own 0 0, .int k] [Rd l p] = some (.int t, [Rd l (p + 1)])) (hv : callA C0 68 [.own 0 0, .int 6] [Rd l (p + 1)] = some (.int v, [Rd l (p + 1 + 1)])) (v0 : ¬ v = 0)
    (hkid : callA CP 121 [.own 0 0, .int d] (PSt l ws k j u (p + 1 + 1)) = some (.i (.agg K.cells), PSt l ws k j1 u1 p1))
    (hW : callA CP 59 [.i (.agg K.cells), .osl 0 1 0 k, .int 8] [some (.arr 1 (intsL ws))] = some (.int W, [some (.arr 1 (intsL ws))]))
    (hkk : callA C0 68 [.own 0 0, .int 10] [Rd l p1] = some (.int kk, [Rd l (p1 + 1)])) (hq : kk = 3) : ∃ (P : Pn) (p' u' : Int) (j' : Nat), bodyA CQ true 121 [.own 0 0, .int ((d + 1 : Nat) : Int)] (PSt l ws k j u p) = some (rX 3 P, PSt l ws k j' u' p' ++ rS P) ∧ P.thin ∧ p1 ≤ p' ∧ p' ≤ p1 + 400 + c2 ∧ j' ≤ j1 ∧ 0 ≤ u' ∧ u' ≤ 1 ∧ P.exprs.length ≤ 2 ∧ P.cols.length ≤ 1 := by
  have we : IntKind.i64.wrap (d : Int) = d := wrap64 (by omega) (by omega)
  have wn : ¬ ((d : Int) + 1 = 0) := by omega
  simp only [PSt] at hkid
  rw [Pn.cells_eq K] at hkid hW
  obtain ⟨m, hm, hm1, -⟩ := pick_eq l (p1 + 1) 2 (by omega) (by omega) hl
  obtain ⟨m0, m1⟩ := hm1 (by omega)
  have w2 : IntKind.i64.wrap (2 : Int) = 2 := wrap64 (by omega) (by omega)
  have w1 := wrap_1
  have w0 : IntKind.i64.wrap (0 : Int) = 0 := wrap64 (by omega) (by omega)
  obtain ⟨x1, hx1, hy1, -⟩ := pick_eq l (p1 + 1 + 1) 2 (by omega) (by omega) hl
  obtain ⟨x1a, x1b⟩ := hy1 (by omega)
  obtain ⟨y1, rfl⟩ : ∃ y : Nat, x1 = y := ⟨x1.toNat, by omega⟩
  have hc1 : costE y1 ≤ 9 := by rcases (show y1 = 0 ∨ y1 = 1 by omega) with h | h <;> simp [h, costE]
  obtain ⟨e1, q1, he1, c1a, c1b, c1c⟩ := rE l hl W y1 (by omega) (by omega) ((p1 + 1 + 1) + 1) (by omega) (by omega)
  rw [Ex.cells_eq e1] at he1
  have t1 := Ex.thin_of_size e1 (by omega)
  rcases (show m = 0 ∨ m = 1 by omega) with rfl | rfl
  · refine ⟨.mk 3 0 [e1] [] [K], q1, u1, j1, ?_, by simp [Pn.thin, Pn.thinL, hK, t1], by omega, by omega, by omega, by omega, by omega, by simp [filtP, Pn.scan], by simp [filtP, Pn.scan]⟩
    rw [bodyA_eq Tryz.func121 rfl rfl]
    simp [PSt, ht, hv, v0, we, hkid, hW, hkk, wn, hq, hm, w1]
    rw [execA_loop]; simp [hx1, he1, w0]
    rw [execA_loop]; simp [rX, rS, bl, Pn.cells_mk, Ex.cellsL, intsL, Pn.cellsL, Pn.cells_eq K, Ex.cells_eq e1, PSt]
  · obtain ⟨x2, hx2, hy2, -⟩ := pick_eq l q1 2 (by omega) (by omega) hl
    obtain ⟨x2a, x2b⟩ := hy2 (by omega)
    obtain ⟨y2, rfl⟩ : ∃ y : Nat, x2 = y := ⟨x2.toNat, by omega⟩
    have hc2 : costE y2 ≤ 9 := by rcases (show y2 = 0 ∨ y2 = 1 by omega) with h | h <;> simp [h, costE]
    obtain ⟨e2, q2, he2, c2a, c2b, c2c⟩ := rE l hl W y2 (by omega) (by omega) (q1 + 1) (by omega) (by omega)
    rw [Ex.cells_eq e2] at he2
    have t2 := Ex.thin_of_size e2 (by omega)
    refine ⟨.mk 3 0 [e1, e2] [] [K], q2, u1, j1, ?_, by simp [Pn.thin, Pn.thinL, hK, t1, t2], by omega, by omega, by omega, by omega, by omega, by simp [filtP, Pn.scan], by simp [filtP, Pn.scan]⟩
    rw [bodyA_eq Tryz.func121 rfl rfl]
    simp [PSt, ht, hv, v0, we, hkid, hW, hkk, wn, hq, hm, w2]
    rw [execA_loop]; simp [hx1, he1, w1]
    rw [execA_loop]; simp [hx2, he2, w0]
    rw [execA_loop]; simp [rX, rS, bl, Pn.cells_mk, Ex.cellsL, intsL, Pn.cellsL, Pn.cells_eq K, Ex.cells_eq e1, Ex.cells_eq e2, PSt]
theorem root_proj4 {l : List UInt8} (hl : l.length ≤ 2000) {ws : List Int} {k : Nat} {d j c2 : Nat} {p u t v W kk p1 u1 : Int} {j1 : Nat} {K : Pn} (hd : d < 100) (h1 : p1 + 400 + c2 < 300000000) (hp1 : 0 ≤ p1) (hu0 : 0 ≤ u1) (hu1 : u1 ≤ 1) (hW0 : 0 ≤ W) (hW6 : W ≤ 6) (hK : K.thin)
    (ht : callA C0 68 [.own 0 0, .int k] [Rd l p] = some (.int t, [Rd l (p + 1)])) (hv : callA C0 68 [.own 0 0, .int 6] [Rd l (p + 1)] = some (.int v, [Rd l (p + 1 + 1)])) (v0 : ¬ v = 0)
    (hkid : callA CP 121 [.own 0 0, .int d] (PSt l ws k j u (p + 1 + 1)) = some (.i (.agg K.cells), PSt l ws k j1 u1 p1))
    (hW : callA CP 59 [.i (.agg K.cells), .osl 0 1 0 k, .int 8] [some (.arr 1 (intsL ws))] = some (.int W, [some (.arr 1 (intsL ws))]))
    (hkk : callA C0 68 [.own 0 0, .int 10] [Rd l p1] = some (.int kk, [Rd l (p1 + 1)])) (hq : kk = 4) : ∃ (P : Pn) (p' u' : Int) (j' : Nat), bodyA CQ true 121 [.own 0 0, .int ((d + 1 : Nat) : Int)] (PSt l ws k j u p) = some (rX 3 P, PSt l ws k j' u' p' ++ rS P) ∧ P.thin ∧ p1 ≤ p' ∧ p' ≤ p1 + 400 + c2 ∧ j' ≤ j1 ∧ 0 ≤ u' ∧ u' ≤ 1 ∧ P.exprs.length ≤ 2 ∧ P.cols.length ≤ 1 := by
  have we : IntKind.i64.wrap (d : Int) = d := wrap64 (by omega) (by omega)
  have wn : ¬ ((d : Int) + 1 = 0) := by omega
  simp only [PSt] at hkid
  rw [Pn.cells_eq K] at hkid hW
  obtain ⟨m, hm, hm1, -⟩ := pick_eq l (p1 + 1) 2 (by omega) (by omega) hl
  obtain ⟨m0, m1⟩ := hm1 (by omega)
  have w2 : IntKind.i64.wrap (2 : Int) = 2 := wrap64 (by omega) (by omega)
  have w1 := wrap_1
  have w0 : IntKind.i64.wrap (0 : Int) = 0 := wrap64 (by omega) (by omega)
  obtain ⟨x1, hx1, hy1, -⟩ := pick_eq l (p1 + 1 + 1) 2 (by omega) (by omega) hl
  obtain ⟨x1a, x1b⟩ := hy1 (by omega)
  obtain ⟨y1, rfl⟩ : ∃ y : Nat, x1 = y := ⟨x1.toNat, by omega⟩
  have hc1 : costE y1 ≤ 9 := by rcases (show y1 = 0 ∨ y1 = 1 by omega) with h | h <;> simp [h, costE]
  obtain ⟨e1, q1, he1, c1a, c1b, c1c⟩ := rE l hl W y1 (by omega) (by omega) ((p1 + 1 + 1) + 1) (by omega) (by omega)
  rw [Ex.cells_eq e1] at he1
  have t1 := Ex.thin_of_size e1 (by omega)
  rcases (show m = 0 ∨ m = 1 by omega) with rfl | rfl
  · refine ⟨.mk 3 0 [e1] [] [K], q1, u1, j1, ?_, by simp [Pn.thin, Pn.thinL, hK, t1], by omega, by omega, by omega, by omega, by omega, by simp [filtP, Pn.scan], by simp [filtP, Pn.scan]⟩
    rw [bodyA_eq Tryz.func121 rfl rfl]
    simp [PSt, ht, hv, v0, we, hkid, hW, hkk, wn, hq, hm, w1]
    rw [execA_loop]; simp [hx1, he1, w0]
    rw [execA_loop]; simp [rX, rS, bl, Pn.cells_mk, Ex.cellsL, intsL, Pn.cellsL, Pn.cells_eq K, Ex.cells_eq e1, PSt]
  · obtain ⟨x2, hx2, hy2, -⟩ := pick_eq l q1 2 (by omega) (by omega) hl
    obtain ⟨x2a, x2b⟩ := hy2 (by omega)
    obtain ⟨y2, rfl⟩ : ∃ y : Nat, x2 = y := ⟨x2.toNat, by omega⟩
    have hc2 : costE y2 ≤ 9 := by rcases (show y2 = 0 ∨ y2 = 1 by omega) with h | h <;> simp [h, costE]
    obtain ⟨e2, q2, he2, c2a, c2b, c2c⟩ := rE l hl W y2 (by omega) (by omega) (q1 + 1) (by omega) (by omega)
    rw [Ex.cells_eq e2] at he2
    have t2 := Ex.thin_of_size e2 (by omega)
    refine ⟨.mk 3 0 [e1, e2] [] [K], q2, u1, j1, ?_, by simp [Pn.thin, Pn.thinL, hK, t1, t2], by omega, by omega, by omega, by omega, by omega, by simp [filtP, Pn.scan], by simp [filtP, Pn.scan]⟩
    rw [bodyA_eq Tryz.func121 rfl rfl]
    simp [PSt, ht, hv, v0, we, hkid, hW, hkk, wn, hq, hm, w2]
    rw [execA_loop]; simp [hx1, he1, w1]
    rw [execA_loop]; simp [hx2, he2, w0]
    rw [execA_loop]; simp [rX, rS, bl, Pn.cells_mk, Ex.cellsL, intsL, Pn.cellsL, Pn.cells_eq K, Ex.cells_eq e1, Ex.cells_eq e2, PSt]
end Go.Proofs.YteihcffblfdgfaaGreat.P

namespace Go.Proofs.YteihcffblfdgfaaGreat.P
open Go Go.Av
set_option maxRecDepth 4000
set_option maxHeartbeats 8000000
theorem root_step {l : List UInt8} (hl : l.length ≤ 2000) {ws : List Int} (hw : ∀ w ∈ ws, 0 ≤ w ∧ w ≤ 6) (hwl : ws.length < 1000000) {k : Nat} (hk0 : 0 < k) (hkl : k ≤ ws.length) {d j c c2 : Nat} (hd : d < 100) (hjb : j < 1000) (ih : PlanOk l ws k d j c) (hoth : ∀ i : Nat, i < j → ∀ y : Nat, y ≤ 1 → PlanOk l ws k y i c2) : RootOk l ws k (d + 1) j (c + c2 + 500) := by
  intro p u h0 h1 hu0 hu1
  obtain ⟨t, ht, -, -⟩ := pick_eq l p k h0 (by omega) hl
  obtain ⟨v, hv, -, -⟩ := pick_eq l (p + 1) 6 (by omega) (by omega) hl
  by_cases v0 : v = 0
  · subst v0
    exact ⟨.scan t, p + 1 + 1, u, j, root_scan hd ht hv, Pn.scan_thin t, by omega, by omega, by omega, by omega, by omega, by simp [Pn.scan], by simp [Pn.scan]⟩
  obtain ⟨K, p1, u1, j1, hkid, hK, a1, a2, a3, a4, a5⟩ := ih (p + 1 + 1) u (by omega) (by omega) hu0 hu1
  have hW := splanWidth_own hw hwl hk0 hkl K hK
  have hWr := Pn.wd_range (ws := ws.take k) (fun w hm => hw w (List.mem_of_mem_take hm)) K 8
  generalize K.wd (ws.take k) 8 = W at hW hWr
  obtain ⟨kk, hkk, hkk1, -⟩ := pick_eq l p1 10 (by omega) (by omega) hl
  obtain ⟨kk0, kk9⟩ := hkk1 (by omega)
  suffices H : ∃ (P : Pn) (p' u' : Int) (j' : Nat), bodyA CQ true 121 [.own 0 0, .int ((d + 1 : Nat) : Int)] (PSt l ws k j u p) = some (rX 3 P, PSt l ws k j' u' p' ++ rS P) ∧ P.thin ∧ p1 ≤ p' ∧ p' ≤ p1 + 400 + c2 ∧ j' ≤ j1 ∧ 0 ≤ u' ∧ u' ≤ 1 ∧ P.exprs.length ≤ 2 ∧ P.cols.length ≤ 1 by
    obtain ⟨P, p', u', j', b1, b2, b3, b4, b5, b6, b7, b8⟩ := H
    exact ⟨P, p', u', j', b1, b2, by omega, by omega, by omega, b6, b7, b8⟩
  have hb : p1 + 400 + c2 < 300000000 := by omega
  have hp1 : 0 ≤ p1 := by omega
  by_cases q0 : kk = 0
  · exact root_filter0 hl hd hb hp1 a4 a5 hWr.1 hWr.2 hK ht hv v0 hkid hW hkk q0
  by_cases q1 : kk = 1
  · exact root_filter1 hl hd hb hp1 a4 a5 hWr.1 hWr.2 hK ht hv v0 hkid hW hkk q1
  by_cases q2 : kk = 2
  · exact root_filter2 hl hd hb hp1 a4 a5 hWr.1 hWr.2 hK ht hv v0 hkid hW hkk q2
  by_cases q3 : kk = 3
  · exact root_proj3 hl hd hb hp1 a4 a5 hWr.1 hWr.2 hK ht hv v0 hkid hW hkk q3
  by_cases q4 : kk = 4
  · exact root_proj4 hl hd hb hp1 a4 a5 hWr.1 hWr.2 hK ht hv v0 hkid hW hkk q4
  by_cases q5 : kk = 5
  · by_cases hj : j1 = 0
    · exact root_nojoin5 hl hd hb hp1 a4 a5 hWr.1 hWr.2 hK ht hv v0 hkid hW hkk hj q5
    by_cases hw4 : W ≤ 4
    · exact root_join5 hl hw hwl hk0 hkl hd hb hp1 a4 a5 hWr.1 hWr.2 hK ht hv v0 hkid hW hkk hj (by omega) hw4 (fun y hy => hoth (j1 - 1) (by omega) y hy) q5
    · exact root_wide5 hl hd hb hp1 a4 a5 hWr.1 hWr.2 hK ht hv v0 hkid hW hkk hj hw4 q5
  by_cases q6 : kk = 6
  · by_cases hj : j1 = 0
    · exact root_nojoin6 hl hd hb hp1 a4 a5 hWr.1 hWr.2 hK ht hv v0 hkid hW hkk hj q6
    by_cases hw4 : W ≤ 4
    · exact root_join6 hl hw hwl hk0 hkl hd hb hp1 a4 a5 hWr.1 hWr.2 hK ht hv v0 hkid hW hkk hj (by omega) hw4 (fun y hy => hoth (j1 - 1) (by omega) y hy) q6
    · exact root_wide6 hl hd hb hp1 a4 a5 hWr.1 hWr.2 hK ht hv v0 hkid hW hkk hj hw4 q6
  by_cases q7 : kk = 7
  · by_cases hu : 0 < u1
    · exact root_union hl hd hb hp1 a4 a5 hWr.1 hWr.2 hK ht hv v0 hkid hW hkk hu q7
    · exact root_nounion hl hd hb hp1 a4 a5 hWr.1 hWr.2 hK ht hv v0 hkid hW hkk hu q7
  by_cases q8 : kk = 8
  · exact root_distinct hl hd hb hp1 a4 a5 hWr.1 hWr.2 hK ht hv v0 hkid hW hkk q8
  have q9 : kk = 9 := by omega
  by_cases hw1 : 1 < W
  · exact root_group2 hl hd hb hp1 a4 a5 hWr.1 hWr.2 hK ht hv v0 hkid hW hkk hw1 q9
  · exact root_group1 hl hd hb hp1 a4 a5 hWr.1 hWr.2 hK ht hv v0 hkid hW hkk hw1 q9
theorem RootOk.le {l : List UInt8} {ws : List Int} {k : Nat} {d j c c' : Nat} (h : RootOk l ws k d j c) (hc : c ≤ c') : RootOk l ws k d j c' := by
  intro p u h0 h1 hu0 hu1
  obtain ⟨P, p', u', j', b1, b2, b3, b4, b5, b6, b7, b8⟩ := h p u h0 (by omega) hu0 hu1
  exact ⟨P, p', u', j', b1, b2, b3, by omega, b5, b6, b7, b8⟩
theorem root_one {l : List UInt8} (hl : l.length ≤ 2000) {ws : List Int} (hw : ∀ w ∈ ws, 0 ≤ w ∧ w ≤ 6) (hwl : ws.length < 1000000) {k : Nat} (hk0 : 0 < k) (hkl : k ≤ ws.length) (d : Nat) (h : d + 1 < 50) : RootOk l ws k (d + 1) 1 (2000 * (d + 1) + 1) :=
  (root_step hl hw hwl hk0 hkl (c2 := 501) (by omega) (by omega) (plan_one hl hw hwl hk0 hkl d (by omega)) (fun i hi y hy => by
      obtain rfl : i = 0 := by omega
      exact (plan_none hl hw hwl hk0 hkl y (by omega)).le (by omega))).le (by omega)
@[simp] theorem cr_plan (a : List AV) (st : StL) : callA CR 121 a st = bodyA CQ true 121 a st := by rw [callA_prim (p := bodyA CQ true 121) rfl]
@[simp] theorem cr_filterOf (a : List AV) (st : StL) : callA CR 122 a st = bodyA C0 true 122 a st := by rw [callA_prim (p := bodyA C0 true 122) rfl]
@[simp] theorem cr_planWidth (a : List AV) (st : StL) : callA CR 59 a st = lookX (callA C0) 59 a st := by rw [callA_prim (p := lookX (callA C0) 59) rfl]
@[simp] theorem cr_pick (a : List AV) (st : StL) : callA CR 68 a st = callA C0 68 a st := by rw [callA_prim (p := callA C0 68) rfl]
@[simp] theorem cr_one (a : List AV) (st : StL) : callA CR 69 a st = callA C0 69 a st := by rw [callA_prim (p := callA C0 69) rfl]
@[simp] theorem cr_cond (a : List AV) (st : StL) : callA CR 123 a st = callA C0 123 a st := by rw [callA_prim (p := callA C0 123) rfl]
@[simp] theorem cr_anyExpr (a : List AV) (st : StL) : callA CR 102 a st = callA C0 102 a st := by rw [callA_prim (p := callA C0 102) rfl]
@[simp] theorem cr_widths (a : List AV) (st : StL) : callA CR 66 a st = callA C0 66 a st := by rw [callA_prim (p := callA C0 66) rfl]
@[simp] theorem cr_newReader (a : List AV) (st : StL) : callA CR 45 a st = callA C0 45 a st := by rw [callA_prim (p := callA C0 45) rfl]
theorem list_nil {α : Type} (l : List α) : l = [] ∨ (l.length ≠ 0 ∧ l ≠ [] ∧ 0 < l.length) := by cases l <;> simp
theorem randomPlan_root {l : List UInt8} (hl : l.length ≤ 2000) {ws : List Int} (hw : ∀ w ∈ ws, 0 ≤ w ∧ w ≤ 6) (hwl : ws.length < 1000000) (hk0 : 0 < ws.length) (p : Int) (h0 : 0 ≤ p) (h1 : p + 20000 < 200000000) : ∃ (P : Pn) (p' : Int),
    callA CR 101 [.own 0 0, .osl 1 1 0 ws.length] [Rd l p, some (.arr 1 (intsL ws))] = some (rX 2 P, [Rd l p', some (.arr 1 (intsL ws))] ++ rS P) ∧ P.thin ∧ p ≤ p' ∧ p' ≤ p + 20000 ∧ P.exprs.length ≤ 2 ∧ P.cols.length ≤ 1 := by
  obtain ⟨v, hv, hv1, -⟩ := pick_eq l p 4 h0 (by omega) hl
  obtain ⟨v0, v1⟩ := hv1 (by omega)
  obtain ⟨y, rfl⟩ : ∃ y : Nat, v = y := ⟨v.toNat, by omega⟩
  have w1 : IntKind.i64.wrap (1 + (y : Int)) = ((y + 1 : Nat) : Int) := by rw [wrap64 (by omega) (by omega)]; omega
  obtain ⟨P, p1, u', j', hP, hPt, b1, b2, b3, b4, b5, b6, b7⟩ := root_one hl hw hwl hk0 (Nat.le_refl _) y (by omega) (p + 1) 1 (by omega) (by omega) (by omega) (by omega)
  simp only [PSt, Int.natCast_one, Int.natCast_add] at hP
  obtain ⟨z, hz, -, -⟩ := pick_eq l p1 2 (by omega) (by omega) hl
  have te : P.exprs.take P.exprs.length = P.exprs := List.take_of_length_le (by simp)
  have tc : P.cols.take P.cols.length = P.cols := List.take_of_length_le (by simp)
  have tk : P.kids.take P.kids.length = P.kids := List.take_of_length_le (by simp)
  by_cases hz0 : z = 0
  · have hW := splanWidth_eq hw (by omega) P (Pn.thin_lim P hPt) 8 (by omega)
    have twd : ws.take ws.length = ws := List.take_of_length_le (by simp)
    obtain ⟨e, p2, he, a1, a2, a3⟩ := randomCondition_eq l hl (P.wd ws 8) (p1 + 1) (by omega) (by omega)
    have hf := filterOf_own e P
    refine ⟨filtP e P, p2, ?_, filt_step a3 hPt, by omega, by omega, by simp [filtP], by simp [filtP]⟩
    rw [callA_eq rfl Tryz.func101 rfl rfl]
    rw [Pn.cells_eq P, Ex.cells_eq e] at hf
    rw [Ex.cells_eq e] at he
    rw [Pn.cells_eq P] at hW
    rcases list_nil P.exprs with ce | ⟨ce, ce', ce''⟩ <;> rcases list_nil P.cols with cc | ⟨cc, cc', cc''⟩ <;> rcases list_nil P.kids with ck | ⟨ck, ck', ck''⟩ <;>
      (simp [rX, rS, bl, *, gro_pos, groB_pos, Ex.cellsL, intsL, Pn.cellsL] at hP hW hf
       simp [hv, w1, hP, hz, hz0, hW, he, hf, rX, rS, bl, filtP, lookX, viewXs, viewX, viewNs, viewN, viewW, bareC, *, Ex.cellsL, intsL, Pn.cellsL, Pn.cells_eq P, Ex.cells_eq e])
  · refine ⟨P, p1 + 1, ?_, hPt, by omega, by omega, b6, b7⟩
    rw [callA_eq rfl Tryz.func101 rfl rfl]
    rcases list_nil P.exprs with ce | ⟨ce, ce', ce''⟩ <;> rcases list_nil P.cols with cc | ⟨cc, cc', cc''⟩ <;> rcases list_nil P.kids with ck | ⟨ck, ck', ck''⟩ <;>
      (simp [rX, rS, bl, *, gro_pos, groB_pos, Ex.cellsL, intsL, Pn.cellsL] at hP
       simp [hv, w1, hP, hz, hz0, rX, rS, bl, *, gro_pos, groB_pos])
end Go.Proofs.YteihcffblfdgfaaGreat.P

namespace Go.Proofs.YteihcffblfdgfaaGreat.P
open Go Go.Av
set_option maxRecDepth 4000
set_option maxHeartbeats 8000000
theorem randomWidths_rng (l : List UInt8) (hl : l.length ≤ 2000) (p : Int) (h0 : 0 ≤ p) (h1 : p < 900000000) : ∃ (a b : Int) (r : List Int) (p' : Int), callA C0 66 [.own 0 0] [Rd l p] = some (.osl 1 1 0 (r.length + 2), [Rd l p', some (.arr 1 (intsL (a :: b :: r)))]) ∧ p ≤ p' ∧ p' ≤ p + 4 ∧ 1 ≤ a ∧ a ≤ 2 ∧ 1 ≤ b ∧ b ≤ 2 ∧ r.length ≤ 1 ∧ ∀ w ∈ r, 1 ≤ w ∧ w ≤ 2 := by
  obtain ⟨n, hn, hn1, -⟩ := pick_eq l p 2 h0 (by omega) hl
  obtain ⟨a, ha, ha1, -⟩ := pick_eq l (p + 1) 2 (by omega) (by omega) hl
  obtain ⟨b, hb, hb1, -⟩ := pick_eq l (p + 1 + 1) 2 (by omega) (by omega) hl
  have wa : IntKind.i64.wrap (1 + a) = 1 + a := wrap64 (by omega) (by omega)
  have wb : IntKind.i64.wrap (1 + b) = 1 + b := wrap64 (by omega) (by omega)
  have w2 : IntKind.i64.wrap (2 : Int) = 2 := wrap64 (by omega) (by omega)
  have w3 : IntKind.i64.wrap (3 : Int) = 3 := wrap64 (by omega) (by omega)
  have w1 := wrap_1
  have w0 : IntKind.i64.wrap (0 : Int) = 0 := wrap64 (by omega) (by omega)
  obtain ⟨n0, n1⟩ := hn1 (by omega)
  have hn2 : n = 0 ∨ n = 1 := by omega
  rcases hn2 with rfl | rfl
  · refine ⟨1 + a, 1 + b, [], p + 1 + 1 + 1, ?_, by omega, by omega, by omega, by omega, by omega, by omega, by simp, by simp⟩
    rw [callA_eq rfl Tryz.func66 rfl rfl]
    simp [hn, w2]
    rw [execA_loop]; simp [ha, wa, w1]
    rw [execA_loop]; simp [hb, wb, w0]
    rw [execA_loop]; simp [intsL]
  · obtain ⟨c, hc, hc1, -⟩ := pick_eq l (p + 1 + 1 + 1) 2 (by omega) (by omega) hl
    have wc : IntKind.i64.wrap (1 + c) = 1 + c := wrap64 (by omega) (by omega)
    refine ⟨1 + a, 1 + b, [1 + c], p + 1 + 1 + 1 + 1, ?_, by omega, by omega, by omega, by omega, by omega, by omega, by simp, by simp; omega⟩
    rw [callA_eq rfl Tryz.func66 rfl rfl]
    simp [hn, w3]
    rw [execA_loop]; simp [ha, wa, w2]
    rw [execA_loop]; simp [hb, wb, w1]
    rw [execA_loop]; simp [hc, wc, w0]
    rw [execA_loop]; simp [intsL]
theorem Pn.thin_with {P : Pn} (h : P.thin) (k t : Int) : (Pn.mk k t P.exprs P.cols P.kids).thin := by
  rw [Pn.thin_iff] at h ⊢; exact h
theorem Pn.thin_cols {P : Pn} (h : P.thin) (c : List Int) (hc : c.length < 1000000000) : (Pn.mk P.kind P.table P.exprs c P.kids).thin := by
  rw [Pn.thin_iff] at h ⊢; exact ⟨h.1, h.2.1, hc, h.2.2.2⟩
theorem Pn.thin_exprs {P : Pn} (h : P.thin) {e : Ex} (he : e.thin) (hl : P.exprs.length + 1 < 1000000000) : (Pn.mk P.kind P.table (P.exprs ++ [e]) P.cols P.kids).thin := by
  rw [Pn.thin_iff] at h ⊢
  refine ⟨by simpa [Pn.exprs] using hl, fun x hx => ?_, h.2.2⟩
  simp only [Pn.exprs, List.mem_append, List.mem_singleton] at hx
  rcases hx with hx | rfl
  · exact h.2.1 x hx
  · exact he
theorem anyPlan_root {l : List UInt8} (hl : l.length ≤ 2000) {ws : List Int} (hw : ∀ w ∈ ws, 0 ≤ w ∧ w ≤ 6) (hwl : ws.length < 1000000) (hk0 : 0 < ws.length) (p : Int) (h0 : 0 ≤ p) (h1 : p + 30000 < 200000000) : ∃ (P : Pn) (p' : Int),
    callA CR 67 [.own 0 0, .osl 1 1 0 ws.length] [Rd l p, some (.arr 1 (intsL ws))] = some (rX 2 P, [Rd l p', some (.arr 1 (intsL ws))] ++ rS P) ∧ P.thin ∧ p ≤ p' ∧ p' ≤ p + 30000 := by
  obtain ⟨P, p1, hP, hPt, b1, b2, b6, b7⟩ := randomPlan_root hl hw hwl hk0 p h0 (by omega)
  obtain ⟨k, hk, -, -⟩ := pick_eq l p1 18 (by omega) (by omega) hl
  have te : P.exprs.take P.exprs.length = P.exprs := List.take_of_length_le (by simp)
  have tc : P.cols.take P.cols.length = P.cols := List.take_of_length_le (by simp)
  have hthin := (Pn.thin_iff P).1 hPt
  by_cases k0 : k = 0
  · obtain ⟨x, hx, -⟩ := one_eq l (p1 + 1) (by omega) (by omega) hl [[.int 0], [.int 9], [.int 1], [.int 4]] (by simp) (by simp) (by simp)
    simp only [List.length_cons, List.length_nil, Nat.zero_add, Nat.reduceAdd] at hx
    refine ⟨.mk x P.table P.exprs P.cols P.kids, p1 + 1 + 1, ?_, Pn.thin_with hPt _ _, by omega, by omega⟩
    rw [callA_eq rfl Tryz.func67 rfl rfl]
    rcases list_nil P.exprs with ce | ⟨ce, ce', ce''⟩ <;> rcases list_nil P.cols with cc | ⟨cc, cc', cc''⟩ <;> rcases list_nil P.kids with ck | ⟨ck, ck', ck''⟩ <;>
      (simp [rX, rS, bl, ce, cc, ck, gro_pos, groB_pos] at hP
       simp [hP, hk, k0, hx, rX, rS, bl, ce, cc, ck, gro_pos, groB_pos])
  by_cases k1 : k = 1
  · obtain ⟨x, hx, -⟩ := one_eq l (p1 + 1) (by omega) (by omega) hl [[.int (-1)], [.int 4], [.int 1]] (by simp) (by simp) (by simp)
    simp only [List.length_cons, List.length_nil, Nat.zero_add, Nat.reduceAdd] at hx
    refine ⟨.mk P.kind x P.exprs P.cols P.kids, p1 + 1 + 1, ?_, Pn.thin_with hPt _ _, by omega, by omega⟩
    rw [callA_eq rfl Tryz.func67 rfl rfl]
    rcases list_nil P.exprs with ce | ⟨ce, ce', ce''⟩ <;> rcases list_nil P.cols with cc | ⟨cc, cc', cc''⟩ <;> rcases list_nil P.kids with ck | ⟨ck, ck', ck''⟩ <;>
      (simp [rX, rS, bl, ce, cc, ck, gro_pos, groB_pos] at hP
       simp [hP, hk, k0, k1, hx, rX, rS, bl, ce, cc, ck, gro_pos, groB_pos])
  by_cases k2 : k = 2
  · obtain ⟨x, hx, -⟩ := one_eq l (p1 + 1) (by omega) (by omega) hl [[.int 0], [.int 9]] (by simp) (by simp) (by simp)
    simp only [List.length_cons, List.length_nil, Nat.zero_add, Nat.reduceAdd] at hx
    refine ⟨.mk P.kind P.table P.exprs (P.cols ++ [x]) P.kids, p1 + 1 + 1, ?_, Pn.thin_cols hPt _ (by simp; omega), by omega, by omega⟩
    have hl1 : (P.cols.length + 1) * 8 ≤ 140737488355328 := by omega
    rw [callA_eq rfl Tryz.func67 rfl rfl]
    rcases list_nil P.exprs with ce | ⟨ce, ce', ce''⟩ <;> rcases list_nil P.cols with cc | ⟨cc, cc', cc''⟩ <;> rcases list_nil P.kids with ck | ⟨ck, ck', ck''⟩ <;>
      (simp [rX, rS, bl, ce, cc, ck, gro_pos, groB_pos] at hP
       simp [hP, hk, k0, k1, k2, hx, rX, rS, bl, ce, cc, ck, gro_pos, groB_pos, intsL, intsL_append, hl1, tc])
  by_cases k3 : k = 3
  · obtain ⟨e, p2, he, a1, a2, a3⟩ := anyExpr_eq l hl 2 (p1 + 1) (by omega) (by omega)
    refine ⟨.mk P.kind P.table (P.exprs ++ [e]) P.cols P.kids, p2, ?_, Pn.thin_exprs hPt (Ex.thin_of_size _ (by omega)) (by omega), by omega, by omega⟩
    have hl1 : (P.exprs.length + 1) * 56 ≤ 140737488355328 := by omega
    rw [callA_eq rfl Tryz.func67 rfl rfl]
    rw [Ex.cells_eq e] at he
    rcases list_nil P.exprs with ce | ⟨ce, ce', ce''⟩ <;> rcases list_nil P.cols with cc | ⟨cc, cc', cc''⟩ <;> rcases list_nil P.kids with ck | ⟨ck, ck', ck''⟩ <;>
      (simp [rX, rS, bl, ce, cc, ck, gro_pos, groB_pos] at hP
       simp [hP, hk, k0, k1, k2, k3, he, rX, rS, bl, ce, cc, ck, gro_pos, groB_pos, Ex.cellsL, Ex.cellsL_append, hl1, te, Ex.cells_eq e])
  · refine ⟨P, p1 + 1, ?_, hPt, by omega, by omega⟩
    rw [callA_eq rfl Tryz.func67 rfl rfl]
    rcases list_nil P.exprs with ce | ⟨ce, ce', ce''⟩ <;> rcases list_nil P.cols with cc | ⟨cc, cc', cc''⟩ <;> rcases list_nil P.kids with ck | ⟨ck, ck', ck''⟩ <;>
      (simp [rX, rS, bl, ce, cc, ck, gro_pos, groB_pos] at hP
       simp [hP, hk, k0, k1, k2, k3, rX, rS, bl, ce, cc, ck, gro_pos, groB_pos])
theorem planAndWidths_eq {l : List UInt8} (hl : l.length ≤ 2000) : ∃ (P : Pn) (ws : List Int) (p' : Int), callA CR 44 [.own 0 0] [Rd l 0] = some (.tup [.i (.agg P.cells), .i (.isl (intsL ws))], [Rd l p']) ∧ P.thin ∧ ws.length ≤ 3 ∧ 0 ≤ p' ∧ p' ≤ 40000 := by
  obtain ⟨a, b, r, p1, hr, r1, r2, r3, r4, r5, r6, r7, r8⟩ := randomWidths_rng l hl 0 (by omega) (by omega)
  have hw : ∀ w ∈ a :: b :: r, 0 ≤ w ∧ w ≤ 6 := by
    intro w hm
    simp only [List.mem_cons] at hm
    rcases hm with rfl | rfl | hm
    · omega
    · omega
    · have := r8 w hm; omega
  have hr0 : (0 : Int) < (r.length : Int) + 2 := by omega
  obtain ⟨P, p2, hP, hPt, c1, c2⟩ := anyPlan_root hl (ws := a :: b :: r) hw (by simp; omega) (by simp) p1 (by omega) (by omega)
  obtain ⟨k, hk, -, -⟩ := pick_eq l p2 18 (by omega) (by omega) hl
  have te : P.exprs.take P.exprs.length = P.exprs := List.take_of_length_le (by simp)
  have tc : P.cols.take P.cols.length = P.cols := List.take_of_length_le (by simp)
  have tk : P.kids.take P.kids.length = P.kids := List.take_of_length_le (by simp)
  by_cases k0 : k = 0
  · obtain ⟨x, hx, -⟩ := one_eq l (p2 + 1) (by omega) (by omega) hl [[.int 0], [.int 7], [.int 1]] (by simp) (by simp) (by simp)
    simp only [List.length_cons, List.length_nil, Nat.zero_add, Nat.reduceAdd] at hx
    refine ⟨P, x :: b :: r, p2 + 1 + 1, ?_, hPt, by simp; omega, by omega, by omega⟩
    rw [callA_eq rfl Tryz.func44 rfl rfl]
    rcases list_nil P.exprs with ce | ⟨ce, ce', ce''⟩ <;> rcases list_nil P.cols with cc | ⟨cc, cc', cc''⟩ <;> rcases list_nil P.kids with ck | ⟨ck, ck', ck''⟩ <;>
      (simp [rX, rS, bl, ce, cc, ck, gro_pos, groB_pos, intsL] at hP
       simp [hr, hP, hk, k0, hx, hr0, ce, cc, ck, intsL, te, tc, tk, Pn.cells_eq P, Ex.cellsL, Pn.cellsL])
  · refine ⟨P, a :: b :: r, p2 + 1, ?_, hPt, by simp; omega, by omega, by omega⟩
    rw [callA_eq rfl Tryz.func44 rfl rfl]
    rcases list_nil P.exprs with ce | ⟨ce, ce', ce''⟩ <;> rcases list_nil P.cols with cc | ⟨cc, cc', cc''⟩ <;> rcases list_nil P.kids with ck | ⟨ck, ck', ck''⟩ <;>
      (simp [rX, rS, bl, ce, cc, ck, gro_pos, groB_pos, intsL] at hP
       simp [hr, hP, hk, k0, ce, cc, ck, intsL, te, tc, tk, Pn.cells_eq P, Ex.cellsL, Pn.cellsL])
end Go.Proofs.YteihcffblfdgfaaGreat.P

namespace Go.Av
def pthL (l : List (List Int)) : List (List IV) := l.map fun p => [.isl (intsL p)]
@[simp] theorem pthL_length (l : List (List Int)) : (pthL l).length = l.length := by simp [pthL]
theorem pthL_append (a b : List (List Int)) : pthL (a ++ b) = pthL a ++ pthL b := by simp [pthL]
@[simp] theorem pthL_take (n : Nat) (l : List (List Int)) : (pthL l).take n = pthL (l.take n) := by simp [pthL, List.map_take]
theorem pthL_one (p : List Int) : pthL [p] = [[.isl (intsL p)]] := rfl
theorem pthL_nth {l : List (List Int)} {i : Nat} {p : List Int} (h : l[i]? = some p) : nthE (pthL l) i = some [.isl (intsL p)] := by
  rw [nthE_eq]; simp [pthL, h]
theorem pathsPL_append (path : List Int) : ∀ (l m : List Pn) (i : Nat), pathsPL path i (l ++ m) = pathsPL path i l ++ pathsPL path (i + l.length) m
  | [], m, i => by simp [pathsPL]
  | a :: l, m, i => by simp only [List.cons_append, pathsPL, pathsPL_append path l m (i + 1), List.append_assoc, List.length_cons]; congr 3; omega
theorem pathsPL_snoc (path : List Int) {l : List Pn} {i : Nat} {a : Pn} (h : l[i]? = some a) : pathsPL path 0 (l.take (i + 1)) = pathsPL path 0 (l.take i) ++ pathsP (path ++ [(i : Int)]) a := by
  have hl : (l.take i).length = i := by have := (List.getElem?_eq_some_iff.1 h).1; simp; omega
  rw [take_snoc h, pathsPL_append, hl]
  simp [pathsPL]
mutual
theorem pathsP_len : ∀ (p : Pn) (path : List Int), (pathsP path p).length = p.size
  | .mk _ _ _ _ ks, path => by simp only [pathsP, Pn.size, List.length_cons, pathsPL_len ks path 0]; omega
theorem pathsPL_len : ∀ (l : List Pn) (path : List Int) (i : Nat), (pathsPL path i l).length = Pn.sizeL l
  | [], _, _ => by simp [pathsPL, Pn.sizeL]
  | a :: l, path, i => by simp only [pathsPL, Pn.sizeL, List.length_append, pathsP_len a, pathsPL_len l]
end
end Go.Av
namespace Go.Proofs.YteihcffblfdgfaaGreat.P
open Go Go.Av
set_option maxRecDepth 4000
set_option maxHeartbeats 4000000
def ADX (p : Pn) (path : List Int) (L : List (List Int)) (i : Nat) : AS :=
  { env := [(0, .osl 2 1 0 (L ++ path :: pathsPL path 0 (p.kids.take i)).length), (1, .i (.agg [.int p.kind, .int p.table, .isl (Ex.cellsL p.exprs), .isl (intsL p.cols), .isl (Pn.cellsL p.kids)])), (2, .osl 1 1 0 path.length), (4, .own 3 0), (6, .nils), (7, .int i), (18, jk i (.bool true))],
    st := [none, some (.arr 1 (intsL path)), some (.arr 1 (pthL (L ++ path :: pathsPL path 0 (p.kids.take i)))), boxP p] }
theorem addPaths_eq : ∀ (p : Pn) (path : List Int) (L : List (List Int)), p.thin → path.length + p.size < 1000000 → L.length + p.size < 1000000 → callA C0 60 [.osl 0 1 0 L.length, .i (.agg p.cells), .osl 1 1 0 path.length] [some (.arr 1 (pthL L)), some (.arr 1 (intsL path))] = some (.osl 2 1 0 (L ++ pathsP path p).length, [none, some (.arr 1 (intsL path)), some (.arr 1 (pthL (L ++ pathsP path p)))]) := by
  intro p
  induction p using Pn.ind with
  | h k t es cs ks ih =>
    intro path L ht hp hL
    generalize hpe : Pn.mk k t es cs ks = p at *
    have hks : ks = p.kids := by rw [← hpe]; rfl
    subst hks
    have hkt := ((Pn.thin_iff p).1 ht).2.2.2.2
    have hsz := Pn.size_eq p
    have hkl := Pn.sizeL_length p.kids
    have htp : path.take path.length = path := List.take_of_length_le (by simp)
    have htL : L.take L.length = L := List.take_of_length_le (by simp)
    have hl1 : path.length * 8 ≤ 140737488355328 := by omega
    have hl2 : (L.length + 1) * 24 ≤ 140737488355328 := by omega
    have hl3 : (L.length + 1) * 32 ≤ 140737488355328 := by omega
    rw [callA_eq rfl Tryz.func60 rfl rfl, pathsP_eq]
    simp only [Pn.cells_eq p]
    simp [htp, htL, hl1, hl2, hl3]
    rw [loop_to (ADX p path L) p.kids.length (by simp [ADX, boxP, pathsPL, pthL_append, pthL_one])]
    · rw [execA_loop]
      simp [ADX, boxP]
    · intro i hi
      have h3 := List.getElem?_eq_getElem hi
      have hm := List.mem_of_getElem? h3
      have r2 := Pn.cellsL_nth h3
      have hsn := pathsPL_snoc path h3
      have htk := take_snoc h3
      generalize p.kids[i] = a at h3 hm r2 hsn htk
      have hle : Pn.sizeL (p.kids.take i) + a.size ≤ Pn.sizeL p.kids := by
        have h := Pn.sizeL_append (p.kids.take (i + 1)) (p.kids.drop (i + 1))
        rw [List.take_append_drop, htk, Pn.sizeL_append] at h
        simp only [Pn.sizeL] at h; omega
      have hpn := pathsPL_len (p.kids.take i) path 0
      have w2 : IntKind.i64.wrap ((i : Int) + 1) = i + 1 := wrap64 (by omega) (by omega)
      have hk := ih a hm (path ++ [(i : Int)]) (L ++ path :: pathsPL path 0 (p.kids.take i)) (hkt a hm) (by simp; omega) (by simp; omega)
      rw [Pn.cells_eq a] at r2 hk
      have hpi : intsL (path ++ [(i : Int)]) = intsL path ++ [[.int i]] := intsL_snoc path i
      have ht1 : List.take (path.length + 1) (intsL path ++ [[.int (i : Int)]]) = intsL path ++ [[.int i]] := List.take_of_length_le (by simp)
      have hl4 : (path.length + 1) * 8 ≤ 140737488355328 := by omega
      rw [hpi] at hk
      generalize pathsP (path ++ [(i : Int)]) a = S at hk hsn
      simp only [List.append_assoc, List.cons_append] at hk
      simp at hk
      simp [ADX, boxP, hi, r2, w2, hk, hsn, intsL, htp, hl1, hl4, ht1]
def okA (ws : List Int) (p : Pn) (path : List Int) (r : Int) : Bool := (apS ws r path p).isSome
def accA (ws : List Int) (p : Pn) (path : List Int) (i : Nat) : List Stp := ((rules.take i).filter (okA ws p path)).map fun r => (r, path)
theorem accA_succ {ws path : List Int} {p : Pn} {i : Nat} (h : i < 11) : accA ws p path (i + 1) = accA ws p path i ++ if okA ws p path ((i : Int) + 1) = true then [((i : Int) + 1, path)] else [] := by
  have h1 : rules[i]? = some ((i : Int) + 1) := by
    have : i = 0 ∨ i = 1 ∨ i = 2 ∨ i = 3 ∨ i = 4 ∨ i = 5 ∨ i = 6 ∨ i = 7 ∨ i = 8 ∨ i = 9 ∨ i = 10 := by omega
    rcases this with rfl | rfl | rfl | rfl | rfl | rfl | rfl | rfl | rfl | rfl | rfl <;> rfl
  unfold accA
  rw [take_snoc h1, List.filter_append, List.map_append]
  congr 1
  simp only [List.filter]
  split <;> rename_i h2 <;> simp [h2]
theorem accA_len (ws path : List Int) (p : Pn) (i : Nat) : (accA ws p path i).length ≤ 11 := by
  unfold accA
  rw [List.length_map]
  refine Nat.le_trans (List.length_filter_le _ _) ?_
  simp [rules]; omega
theorem atS_acc (ws path : List Int) (p : Pn) : atS ws p path = accA ws p path 11 := rfl
def SB (r : Int) (path : List Int) : StL := [some (.box [.int r, .osl 4 1 0 path.length]), some (.frz 1 (intsL path))]
def lastP (P : List (List Int)) (i : Nat) : List Int := (P[i - 1]?).getD []
def accO (ws : List Int) (p : Pn) (P : List (List Int)) (i : Nat) : List Stp := (P.take i).flatMap (atS ws p)
theorem accO_zero (ws : List Int) (p : Pn) (P : List (List Int)) : accO ws p P 0 = [] := rfl
theorem accO_all (ws : List Int) (p : Pn) (P : List (List Int)) : accO ws p P P.length = P.flatMap (atS ws p) := by unfold accO; rw [List.take_of_length_le (Nat.le_refl _)]
def SOX (p : Pn) (ws : List Int) (P : List (List Int)) (i : Nat) : AS :=
  { env := [(0, .i (.agg [.int p.kind, .int p.table, .isl (Ex.cellsL p.exprs), .isl (intsL p.cols), .isl (Pn.cellsL p.kids)])), (1, .i (.isl (intsL ws))), (2, .own 0 0), (4, .nils), (5, .osl 1 2 0 (accO ws p P i).length), (6, .osl 2 1 0 P.length), (7, .int i), (8, jk i (.int 12)), (9, if i = 0 then .junk else .own 3 0), (11, jk i (.bool (okA ws p (lastP P i) 11))), (20, jk i (.bool true)), (24, jk i (.bool false)), (42, jk i (.bool (okA ws p (lastP P i) 11)))],
    st := boxP p :: some (.arr 2 (stpsL (accO ws p P i))) :: some (.arr 1 (pthL P)) :: (if i = 0 then [] else SB 11 (lastP P i)) }
def SIX (p : Pn) (ws : List Int) (P : List (List Int)) (path : List Int) (i j : Nat) : AS :=
  { env := [(0, .i (.agg [.int p.kind, .int p.table, .isl (Ex.cellsL p.exprs), .isl (intsL p.cols), .isl (Pn.cellsL p.kids)])), (1, .i (.isl (intsL ws))), (2, .own 0 0), (4, .nils), (5, .osl 1 2 0 (accO ws p P i ++ accA ws p path j).length), (6, .osl 2 1 0 P.length), (7, .int i), (8, .int ((j : Int) + 1)), (9, if i + j = 0 then .junk else .own 3 0), (11, if j = 0 then jk i (.bool (okA ws p (lastP P i) 11)) else .bool (okA ws p path j)), (20, .bool true), (24, if j = 0 then jk i (.bool false) else .bool true), (42, if j = 0 then jk i (.bool (okA ws p (lastP P i) 11)) else .bool (okA ws p path j))],
    st := boxP p :: some (.arr 2 (stpsL (accO ws p P i ++ accA ws p path j))) :: some (.arr 1 (pthL P)) :: (if j = 0 then (if i = 0 then [] else SB 11 (lastP P i)) else SB j path) }
theorem sstepsFor_eq {ws : List Int} (hw : okWs ws = true) {p : Pn} (hp : p.wd ws 8 ≠ 0) : callA C0 36 [.i (.agg p.cells), .i (.isl (intsL ws))] [] = some (.i (.isl (stpsL (stS ws p))), []) := by
  have ht := wd_thin p 8 hp
  have hsz := (Pn.wd_fit p 8 hp).2
  have c1 := addPaths_eq p [] [] ht (by simp; omega) (by simp; omega)
  have hpl := pathsP_len p []
  have hP : ∀ path ∈ pathsP [] p, path.length ≤ 8 := by
    intro path hm
    obtain ⟨r, hr, hs⟩ := (pathsP_mem p [] path).1 hm
    rw [List.nil_append] at hr
    subst hr
    cases ha : Pn.at path p with
    | none => rw [ha] at hs; cases hs
    | some a => exact (at_wd path p 8 a hp ha).1
  unfold stS
  generalize pathsP [] p = P at *
  have hlen : ∀ l : List (List Int), (l.flatMap (atS ws p)).length ≤ 11 * l.length := by
    intro l
    induction l with
    | nil => simp
    | cons x l ih => have := accA_len ws x p 11; rw [← atS_acc] at this; simp only [List.flatMap_cons, List.length_append, List.length_cons]; omega
  rw [callA_eq rfl Tryz.func36 rfl rfl]
  simp only [Pn.cells_eq p] at c1 ⊢
  simp [pthL, intsL] at c1
  simp [c1]
  rw [loop_to (SOX p ws P) P.length (by simp [SOX, boxP, stpsL, pthL, accO_zero])]
  · rw [execA_loop]
    have ht1 : (accO ws p P P.length).take (accO ws p P P.length).length = accO ws p P P.length := List.take_of_length_le (Nat.le_refl _)
    rw [← accO_all ws p P]
    by_cases h0 : P.length = 0
    · simp [SOX, boxP, h0, accO_zero, stpsL]
    · simp [SOX, boxP, SB, h0, jk_pos h0, ht1]
  · intro i hi
    have q1 := List.getElem?_eq_getElem hi
    have hm := List.mem_of_getElem? q1
    generalize P[i] = path at q1 hm
    have r1 := pthL_nth q1
    have htk := take_snoc q1
    have hp8 := hP path hm
    have hac : (accO ws p P i).length ≤ 11 * i := by have := hlen (P.take i); unfold accO; have : (P.take i).length ≤ i := (by simp; omega); omega
    have w2 : IntKind.i64.wrap ((i : Int) + 1) = i + 1 := wrap64 (by omega) (by omega)
    have hlast : lastP P (i + 1) = path := by simp [lastP, q1]
    have hfl : accO ws p P (i + 1) = accO ws p P i ++ accA ws p path 11 := by unfold accO; rw [htk]; simp [atS_acc]
    by_cases h0 : i = 0
    · subst h0
      have hi0 : 0 < P.length := hi
      simp at w2 hlast hfl
      simp [SOX, boxP, SB, hi0]
      rw [loop_to (SIX p ws P path 0) 11 (by simp [SIX, boxP, SB, accA])]
      · rw [execA_loop]
        simp [SIX, boxP, SB, w2, hlast, hfl]
      · intro j hj
        have hs := accA_succ (ws := ws) (path := path) (p := p) hj
        have hlj := accA_len ws path p j
        have w3 : IntKind.i64.wrap ((j : Int) + 1 + 1) = j + 1 + 1 := wrap64 (by omega) (by omega)
        have hj11 : (j : Int) + 1 ≤ 11 := by omega
        have c2 := applyStep_eq hw hp ((j : Int) + 1) (path := path) (by omega)
        have htp : path.take path.length = path := List.take_of_length_le (by simp)
        have hl1 : path.length * 8 ≤ 140737488355328 := by omega
        rw [Pn.cells_eq p] at c2
        have hok : okA ws p path ((j : Int) + 1) = (apS ws ((j : Int) + 1) path p).isSome := rfl
        rw [← hok] at c2
        cases hb : okA ws p path ((j : Int) + 1) with
        | false =>
          rw [hb] at hs c2
          simp at hs
          by_cases j0 : j = 0
          · subst j0
            simp at c2 hb hs
            simp [SIX, boxP, SB, hi0, r1, hs, hj11, c2, hb, htp, hl1]
          · simp [SIX, boxP, SB, j0, hi0, r1, w3, hs, hj11, c2, hb, htp, hl1]
        | true =>
          rw [hb] at hs c2
          simp at hs
          have hl2 : ((accO ws p P 0).length + (accA ws p path j).length + 1) * 32 ≤ 140737488355328 := by omega
          have ht3 : (accO ws p P 0).take ((accO ws p P 0).length + (accA ws p path j).length) = accO ws p P 0 := List.take_of_length_le (by omega)
          have ht4 : (accA ws p path j).take (accA ws p path j).length = accA ws p path j := List.take_of_length_le (by omega)
          by_cases j0 : j = 0
          · subst j0
            simp at c2 hb hs hl2
            simp [SIX, boxP, SB, hi0, r1, hs, hj11, c2, hb, htp, hl1, hl2]
            exact ⟨by omega, by rw [List.take_of_length_le (by simp)]; simp [stpsL, stpC]⟩
          · simp [SIX, boxP, SB, j0, hi0, r1, w3, hs, hj11, c2, hb, htp, hl1, hl2]
            exact ⟨by omega, by rw [List.take_of_length_le (by simp)]; simp [stpsL, stpC]⟩
    · simp [SOX, boxP, SB, h0, jk_pos h0, hi]
      rw [loop_to (SIX p ws P path i) 11 (by simp [SIX, boxP, SB, h0, jk_pos h0, accA])]
      · rw [execA_loop]
        simp [SIX, boxP, SB, h0, jk_pos h0, w2, hlast, hfl]
      · intro j hj
        have hs := accA_succ (ws := ws) (path := path) (p := p) hj
        have hlj := accA_len ws path p j
        have w3 : IntKind.i64.wrap ((j : Int) + 1 + 1) = j + 1 + 1 := wrap64 (by omega) (by omega)
        have hj11 : (j : Int) + 1 ≤ 11 := by omega
        have c2 := applyStep_eq hw hp ((j : Int) + 1) (path := path) (by omega)
        have htp : path.take path.length = path := List.take_of_length_le (by simp)
        have hl1 : path.length * 8 ≤ 140737488355328 := by omega
        rw [Pn.cells_eq p] at c2
        have hok : okA ws p path ((j : Int) + 1) = (apS ws ((j : Int) + 1) path p).isSome := rfl
        rw [← hok] at c2
        cases hb : okA ws p path ((j : Int) + 1) with
        | false =>
          rw [hb] at hs c2
          simp at hs
          by_cases j0 : j = 0
          · subst j0
            simp at c2 hb hs
            simp [SIX, boxP, SB, h0, jk_pos h0, hi, r1, hs, hj11, c2, hb, htp, hl1]
          · simp [SIX, boxP, SB, h0, jk_pos h0, j0, hi, r1, w3, hs, hj11, c2, hb, htp, hl1]
        | true =>
          rw [hb] at hs c2
          simp at hs
          have hl2 : ((accO ws p P i).length + (accA ws p path j).length + 1) * 32 ≤ 140737488355328 := by omega
          have ht3 : (accO ws p P i).take ((accO ws p P i).length + (accA ws p path j).length) = accO ws p P i := List.take_of_length_le (by omega)
          have ht4 : (accA ws p path j).take (accA ws p path j).length = accA ws p path j := List.take_of_length_le (by omega)
          by_cases j0 : j = 0
          · subst j0
            simp at c2 hb hs hl2
            simp [SIX, boxP, SB, h0, jk_pos h0, hi, r1, hs, hj11, c2, hb, htp, hl1, hl2]
            exact ⟨by omega, by rw [List.take_of_length_le (by simp)]; simp [stpsL, stpC]⟩
          · simp [SIX, boxP, SB, h0, jk_pos h0, j0, hi, r1, w3, hs, hj11, c2, hb, htp, hl1, hl2]
            exact ⟨by omega, by rw [List.take_of_length_le (by simp)]; simp [stpsL, stpC]⟩
end Go.Proofs.YteihcffblfdgfaaGreat.P

namespace Go.Av
theorem okWs_rng {ws : List Int} (h : okWs ws = true) : ∀ w ∈ ws, 0 ≤ w ∧ w ≤ 6 := by
  intro w hw
  unfold okWs at h
  simp only [Bool.and_eq_true] at h
  have := List.all_eq_true.1 h.2 w hw
  unfold okWidth at this
  simp at this; omega
theorem stepsP_len {p : Pn} {ws : List Int} : ∀ s ∈ stepsP p ws, s.2.length ≤ 8 := by
  intro s hs
  unfold stepsP at hs
  split at hs
  · simp at hs
  · rename_i h0
    obtain ⟨hw, hp, _⟩ := width_okWs h0
    rw [steps_same (okWs_rng hw) hp] at hs
    have := (apS_at (ws := ws) (rule := s.1) (path := s.2) (p := p) (q := ((apS ws s.1 s.2 p).getD p)) (by
      have := stS_mem.1 hs
      cases h : apS ws s.1 s.2 p with
      | none => rw [h] at this; cases this
      | some q => rfl)).2
    cases ha : Pn.at s.2 p with
    | none => rw [ha] at this; cases this
    | some a => exact (at_wd s.2 p 8 a hp ha).1
end Go.Av
namespace Go.Proofs.YteihcffblfdgfaaGreat.P
open Go Go.Av
set_option maxRecDepth 4000
set_option maxHeartbeats 8000000
theorem sStepsFor_eq (p : Pn) (hp : p.thin) (ws : List Int) (hl : ws.length < 1000000) : callA C0 19 [.i (.agg p.cells), .i (.isl (intsL ws))] [] = some (.i (.isl (stpsL (stepsP p ws))), []) := by
  have c1 := widthOf_eq p (Pn.thin_lim p hp) ws (by omega)
  unfold stepsP
  by_cases h0 : p.width ws = 0
  · rw [callA_eq rfl Tryz.func19 rfl rfl]
    simp only [Pn.cells_eq p] at c1 ⊢
    simp [c1, h0, stpsL]
  · obtain ⟨hw, hp8, hv⟩ := width_okWs h0
    have c2 := sstepsFor_eq hw hp8
    rw [← steps_same (okWs_rng hw) hp8] at c2
    rw [callA_eq rfl Tryz.func19 rfl rfl]
    simp only [Pn.cells_eq p] at c1 c2 ⊢
    simp [c1, h0, c2]
theorem stepsP_small (p : Pn) (ws : List Int) : (stepsP p ws).length < 10000 := by
  unfold stepsP
  split
  · simp
  · rename_i h0
    have := (Pn.width_fit h0).2
    have := stI_len ws p []
    omega
@[simp] theorem cr_sStepsFor (a : List AV) (st : StL) : callA CR 19 a st = callA C0 19 a st := by rw [callA_prim (p := callA C0 19) rfl]
end Go.Proofs.YteihcffblfdgfaaGreat.P

namespace Go.Proofs.YteihcffblfdgfaaGreat.P
open Go Go.Av
set_option maxRecDepth 4000
set_option maxHeartbeats 4000000
def six : List (List IV) := [[.int 0], [.int 0], [.int 0], [.int 1], [.int 2], [.int (-1)]]
theorem oneSix (l : List UInt8) (hl : l.length ≤ 2000) (p : Int) (h0 : 0 ≤ p) (h1 : p < 900000000) : ∃ x : Int, callA C0 69 [.own 0 0, .osl 1 1 0 6] [Rd l p, some (.arr 1 [[.int 0], [.int 0], [.int 0], [.int 1], [.int 2], [.int (-1)]])] = some (.int x, [Rd l (p + 1), some (.arr 1 [[.int 0], [.int 0], [.int 0], [.int 1], [.int 2], [.int (-1)]])]) := by
  obtain ⟨x, hx, -⟩ := one_eq l p h0 (by omega) hl six (by simp [six]) (by simp [six]) (by simp [six])
  exact ⟨x, hx⟩
theorem somePath_eq (l : List UInt8) (hl : l.length ≤ 2000) (p : Int) (h0 : 0 ≤ p) (h1 : p < 800000000) : ∃ (path : List Int) (p' : Int), callA CR 72 [.own 0 0] [Rd l p] = some (.i (.isl (intsL path)), [Rd l p']) ∧ path.length ≤ 3 ∧ p ≤ p' ∧ p' ≤ p + 4 := by
  obtain ⟨n, hn, hn1, -⟩ := pick_eq l p 4 h0 (by omega) hl
  obtain ⟨n0, n1⟩ := hn1 (by omega)
  obtain ⟨a, ha⟩ := oneSix l hl (p + 1) (by omega) (by omega)
  obtain ⟨b, hb⟩ := oneSix l hl (p + 1 + 1) (by omega) (by omega)
  obtain ⟨c, hc⟩ := oneSix l hl (p + 1 + 1 + 1) (by omega) (by omega)
  have w3 : IntKind.i64.wrap (3 : Int) = 3 := wrap64 (by omega) (by omega)
  have w2 : IntKind.i64.wrap (2 : Int) = 2 := wrap64 (by omega) (by omega)
  have w1 := wrap_1
  have w0 : IntKind.i64.wrap (0 : Int) = 0 := wrap64 (by omega) (by omega)
  have hcase : n = 0 ∨ n = 1 ∨ n = 2 ∨ n = 3 := by omega
  rcases hcase with rfl | rfl | rfl | rfl
  · refine ⟨[], p + 1, ?_, by simp, by omega, by omega⟩
    rw [callA_eq rfl Tryz.func72 rfl rfl]
    simp [hn]
    rw [execA_loop]; simp [intsL]
  · refine ⟨[a], p + 1 + 1, ?_, by simp, by omega, by omega⟩
    rw [callA_eq rfl Tryz.func72 rfl rfl]
    simp [hn]
    rw [execA_loop]; simp [ha, w0]
    rw [execA_loop]; simp [intsL]
  · refine ⟨[a, b], p + 1 + 1 + 1, ?_, by simp, by omega, by omega⟩
    rw [callA_eq rfl Tryz.func72 rfl rfl]
    simp [hn]
    rw [execA_loop]; simp [ha, w1]
    rw [execA_loop]; simp [hb, w0]
    rw [execA_loop]; simp [intsL]
  · refine ⟨[a, b, c], p + 1 + 1 + 1 + 1, ?_, by simp, by omega, by omega⟩
    rw [callA_eq rfl Tryz.func72 rfl rfl]
    simp [hn]
    rw [execA_loop]; simp [ha, w2]
    rw [execA_loop]; simp [hb, w1]
    rw [execA_loop]; simp [hc, w0]
    rw [execA_loop]; simp [intsL]
theorem someStep_eq {l : List UInt8} (hl : l.length ≤ 2000) {P : Pn} (hP : P.thin) {ws : List Int} (hw : ws.length ≤ 1000) (p : Int) (h0 : 0 ≤ p) (h1 : p < 700000000) : ∃ (r : Int) (path : List Int) (p' : Int), callA CR 47 [.own 0 0, .i (.agg P.cells), .i (.isl (intsL ws))] [Rd l p] = some (.i (.agg [.int r, .isl (intsL path)]), [Rd l p']) ∧ path.length ≤ 8 ∧ p ≤ p' ∧ p' ≤ p + 8 := by
  have e1 := sStepsFor_eq P hP ws (by omega)
  have hsm := stepsP_small P ws
  have hs8 := stepsP_len (p := P) (ws := ws)
  rw [Pn.cells_eq P] at *
  generalize stepsP P ws = S at *
  obtain ⟨k, hk, hk1, -⟩ := pick_eq l p 5 h0 (by omega) hl
  obtain ⟨k0, k1⟩ := hk1 (by omega)
  by_cases hS : S = []
  · subst hS
    obtain ⟨n, hn, -, -⟩ := pick_eq l p 13 h0 (by omega) hl
    obtain ⟨path, p2, hp, q1, q2, q3⟩ := somePath_eq l hl (p + 1) (by omega) (by omega)
    refine ⟨n, path, p2, ?_, by omega, by omega, by omega⟩
    rw [callA_eq rfl Tryz.func47 rfl rfl]
    simp [stpsL] at e1
    simp [e1, hn, hp]
  · have hS0 : S.length ≠ 0 := fun h => hS (List.length_eq_zero_iff.1 h)
    by_cases hk0 : k = 0
    · obtain ⟨n, hn, -, -⟩ := pick_eq l (p + 1) 13 (by omega) (by omega) hl
      obtain ⟨path, p2, hp, q1, q2, q3⟩ := somePath_eq l hl (p + 1 + 1) (by omega) (by omega)
      refine ⟨n, path, p2, ?_, by omega, by omega, by omega⟩
      rw [callA_eq rfl Tryz.func47 rfl rfl]
      have hlt : 0 < S.length := by omega
      simp [e1, hk, hk0, hn, hp, hlt]
    · obtain ⟨j, hj, hj1, -⟩ := pick_eq l (p + 1) S.length (by omega) (by omega) hl
      obtain ⟨j0, j1⟩ := hj1 (by omega)
      obtain ⟨i, rfl⟩ := Int.eq_ofNat_of_zero_le j0
      have hi : i < S.length := by omega
      have q1 := List.getElem?_eq_getElem hi
      have hm := List.mem_of_getElem? q1
      generalize S[i] = s at q1 hm
      have r1 := stpsL_nth q1
      have h8 := hs8 s hm
      refine ⟨s.1, s.2, p + 1 + 1, ?_, by omega, by omega, by omega⟩
      rw [callA_eq rfl Tryz.func47 rfl rfl]
      have hlt : 0 < S.length := by omega
      have hkk : (0 : Int) < k := by omega
      simp only [stpC, Int.ofNat_eq_natCast] at r1 hj
      have hb : s.2.length * 8 ≤ 140737488355328 := by omega
      by_cases hs : s.2 = []
      · simp [hs, intsL] at r1
        simp [e1, hk, hkk, hlt, hj, hi, r1, hs, intsL]
      · have ht : List.take s.2.length (intsL s.2) = intsL s.2 := List.take_of_length_le (by simp)
        simp [e1, hk, hkk, hlt, hj, hi, r1, hb, ht]
theorem drawApply_eq (code : List UInt8) : ∃ (P : Pn) (ws : List Int) (r : Int) (path : List Int), callA CR 21 [.i (.isl (bytesI code))] [] = some (.tup [.i (.agg P.cells), .i (.isl (intsL ws)), .i (.agg [.int r, .isl (intsL path)])], []) ∧ P.thin ∧ ws.length ≤ 3 ∧ path.length ≤ 8 := by
  obtain ⟨c, hc, hr⟩ := newReader_eq code
  obtain ⟨P, ws, p', h, h1, h2, h3, h4⟩ := planAndWidths_eq hc
  obtain ⟨r, path, p2, hs, s1, s2, s3⟩ := someStep_eq hc h1 (ws := ws) (by omega) p' h3 (by omega)
  refine ⟨P, ws, r, path, ?_, h1, h2, s1⟩
  rw [callA_eq rfl Tryz.func21 rfl rfl]
  rw [Pn.cells_eq P] at *
  simp [hr, h, hs]
end Go.Proofs.YteihcffblfdgfaaGreat.P

namespace Go.Av
def viewB (st : Store) : AV → Option IV
  | .own id 0 => match st id with
    | some (.box cs) => bnd (viewNs st cs) fun l => some (.iref l)
    | _ => none
  | v => viewX st v
def viewBs (st : Store) : List AV → Option (List AV)
  | [] => some []
  | c :: r => bnd (viewB st c) fun v => bnd (viewBs st r) fun l => some (.i v :: l)
theorem viewB_sound {w : World} {m : Mem} {φ : Pl} {st : Store} {c : AV} {x : Value} {iv : IV} (hi : Inv w m φ st) (hr : Rep m φ c x) (h : viewB st c = some iv) : IRep (memOf w) iv x := by
  unfold viewB at h
  split at h
  · rename_i id
    split at h
    · rename_i cs hs
      obtain ⟨l, h1, h2⟩ := bnd_eq.1 h
      injection h2 with h2; subst h2
      cases hr with
      | @own _ _ b n e =>
        obtain ⟨hb, hok⟩ := blk_own hi e hs
        cases hok with
        | @box T _ vs hh hl hrc hm =>
          refine .iref (IAt.mk 0 (viewNs_sound hi hrc h1) fun j v hj => ?_)
          show w.cell? ⟨b, 0 + j, none⟩ = some v
          rw [cell_row hh, Nat.zero_add]; exact hj
    · cases h
  · exact viewX_sound hi hr h
theorem viewBs_sound {w : World} {m : Mem} {φ : Pl} {st : Store} (hi : Inv w m φ st) : ∀ {cs us : List AV} {xs : List Value}, RepL m φ cs xs → viewBs st cs = some us → RepL (memOf w) (fun _ => none) us xs
  | [], us, _, .nil, h => by simp [viewBs] at h; subst h; exact .nil
  | c :: cs, us, _, .cons a b, h => by
    simp only [viewBs] at h
    obtain ⟨v, h1, h2⟩ := bnd_eq.1 h
    obtain ⟨l', h3, h4⟩ := bnd_eq.1 h2
    injection h4 with h4; subst h4
    exact .cons (.i (viewB_sound hi a h1)) (viewBs_sound hi b h3)
def kvK (stl : StL) : AV → Option IV
  | .i (.lit v) => some (.lit v)
  | .nils => some (.isl [])
  | .osl id k off len => match stOf stl id with
    | some (.frz k' es) => tst (decide (k' = k ∧ off = 0 ∧ len ≤ es.length ∧ 0 < len)) (tst (es.all litsL) (some (.isl (es.take len))))
    | _ => none
  | _ => none
def kvKs (stl : StL) : List AV → Option (List IV)
  | [] => some []
  | c :: r => bnd (kvK stl c) fun v => bnd (kvKs stl r) fun l => some (v :: l)
def kvA (stl : StL) : AV → Option IV
  | .agg cs => bnd (kvKs stl cs) fun l => some (.agg l)
  | v => kvK stl v
def kvAs (stl : StL) : List AV → Option (List AV)
  | [] => some []
  | c :: r => bnd (kvA stl c) fun v => bnd (kvAs stl r) fun l => some (.i v :: l)
def kvT (stl : StL) : AV → Option AV
  | .tup cs => bnd (kvAs stl cs) fun l => some (.tup l)
  | v => bnd (kvA stl v) fun l => some (.i l)
section
variable {w w' : World} {m m' : Mem} {φ' : Pl} {stl : StL}
def memN (w : World) (m m' : Mem) : Mem := fun b o => if b < w.heap.size then m b o else m' b o
theorem memN_new {b : Nat} (h : w.heap.size ≤ b) (o : Nat) : memN w m m' b o = m' b o := by unfold memN; rw [if_neg (by omega)]
theorem memN_old {b : Nat} (h : b < w.heap.size) (o : Nat) : memN w m m' b o = m b o := by unfold memN; rw [if_pos h]
theorem at_lits {b : Nat} (hb : ∀ o, memN w m m' b o = m' b o) : ∀ {cs : List IV} {o : Nat}, litsL cs = true → IAt m' b o cs → IAt (memN w m m') b o cs
  | [], o, _, _ => .nil b o
  | c :: cs, o, hl, .cons e a q r => by
    simp only [litsL, Bool.and_eq_true] at hl
    refine .cons ((hb o).trans e) ?_ q (at_lits hb hl.2 r)
    cases c with
    | lit v => rw [lit_inv a]; exact .lit _
    | isl es => simp [litC] at hl
    | agg cs => simp [litC] at hl
    | iref cs => simp [litC] at hl
theorem elems_lits {b : Nat} (hb : ∀ o, memN w m m' b o = m' b o) {k : Nat} : ∀ {es : List (List IV)} {o : Nat}, es.all litsL = true → IElems m' b o k es → IElems (memN w m m') b o k es
  | [], o, _, _ => .nil b o k
  | e :: es, o, hl, .cons a hk r => by
    simp only [List.all_cons, Bool.and_eq_true] at hl
    exact .cons (at_lits hb hl.1 a) hk (elems_lits hb hl.2 r)
theorem kvK_sound (hi : Inv w' m' φ' (stOf stl)) (hadv : Adv w (memOf w) (fun _ => none) w' m' φ') {c : AV} {x : Value} {iv : IV} (hr : Rep m' φ' c x) (h : kvK stl c = some iv) : IRep (memN w m m') iv x := by
  unfold kvK at h
  split at h
  · injection h with h; subst h
    rw [hr.lit_eq]; exact .lit _
  · injection h with h; subst h
    cases hr; exact .isl0 _ _ fun _ => rfl
  · rename_i id k off len
    split at h
    · rename_i k' es hs
      obtain ⟨h1, h2⟩ := tst_eq.1 h
      obtain ⟨h3, h4⟩ := tst_eq.1 h2
      simp only [decide_eq_true_eq] at h1
      obtain ⟨rfl, rfl, hle, hpos⟩ := h1
      injection h4 with h4; subst h4
      cases hr with
      | @osl _ _ _ _ cap b n ao e hlc hkl hao hao2 =>
        obtain ⟨hb, hok⟩ := blk_own hi e hs
        cases hok with
        | frz hk0 he =>
          have hnew : w.heap.size ≤ b := by
            rcases hadv.pnew id b n b e hb.1 with h | h
            · exact h
            · exact absurd (fun _ _ _ e => by cases e) h
          have hcap : cap ≠ 0 := by omega
          have := hao hcap
          subst this
          have he2 := elems_lits (m := m) (fun o => memN_new hnew o) h3 he
          have hlen : (es.take len).length = len := by simp; omega
          have hne : es.take len ≠ [] := fun h => by rw [h] at hlen; simp at hlen; omega
          have he3 := elems_take len he2
          have := IRep.isl (cap := cap) hne he3 (by omega)
          rw [hlen] at this
          simpa using this
    · cases h
  · cases h
theorem kvKs_sound (hi : Inv w' m' φ' (stOf stl)) (hadv : Adv w (memOf w) (fun _ => none) w' m' φ') : ∀ {cs : List AV} {xs : List Value} {l : List IV}, RepC m' φ' cs xs → kvKs stl cs = some l → ICells (memN w m m') l xs
  | [], _, l, .nil, h => by simp [kvKs] at h; subst h; exact .nil
  | c :: cs, _, l, .cons a o b, h => by
    simp only [kvKs] at h
    obtain ⟨v, h1, h2⟩ := bnd_eq.1 h
    obtain ⟨l', h3, h4⟩ := bnd_eq.1 h2
    injection h4 with h4; subst h4
    exact .cons (kvK_sound hi hadv a h1) o (kvKs_sound hi hadv b h3)
theorem kvA_sound (hi : Inv w' m' φ' (stOf stl)) (hadv : Adv w (memOf w) (fun _ => none) w' m' φ') {c : AV} {x : Value} {iv : IV} (hr : Rep m' φ' c x) (h : kvA stl c = some iv) : IRep (memN w m m') iv x := by
  unfold kvA at h
  split at h
  · obtain ⟨l, h1, h2⟩ := bnd_eq.1 h
    injection h2 with h2; subst h2
    cases hr with | agg r => exact .agg (kvKs_sound hi hadv r h1)
  · exact kvK_sound hi hadv hr h
theorem kvAs_sound {φ : Pl} (hi : Inv w' m' φ' (stOf stl)) (hadv : Adv w (memOf w) (fun _ => none) w' m' φ') : ∀ {cs us : List AV} {xs : List Value}, RepL m' φ' cs xs → kvAs stl cs = some us → RepL (memN w m m') φ us xs
  | [], us, _, .nil, h => by simp [kvAs] at h; subst h; exact .nil
  | c :: cs, us, _, .cons a b, h => by
    simp only [kvAs] at h
    obtain ⟨v, h1, h2⟩ := bnd_eq.1 h
    obtain ⟨l', h3, h4⟩ := bnd_eq.1 h2
    injection h4 with h4; subst h4
    exact .cons (.i (kvA_sound hi hadv a h1)) (kvAs_sound hi hadv b h3)
theorem kvT_sound {φ : Pl} (hi : Inv w' m' φ' (stOf stl)) (hadv : Adv w (memOf w) (fun _ => none) w' m' φ') {c r : AV} {x : Value} (hr : Rep m' φ' c x) (h : kvT stl c = some r) : Rep (memN w m m') φ r x := by
  unfold kvT at h
  split at h
  · obtain ⟨l, h1, h2⟩ := bnd_eq.1 h
    injection h2 with h2; subst h2
    cases hr with | tup r => exact .tup (kvAs_sound hi hadv r h1)
  · obtain ⟨l, h1, h2⟩ := bnd_eq.1 h
    injection h2 with h2; subst h2
    exact .i (kvA_sound hi hadv hr h1)
end
def lookK (f : List AV → StL → Option (AV × StL)) (args : List AV) (st : StL) : Option (AV × StL) :=
  bnd (viewBs (stOf st) args) fun us => match f us [] with
    | some (r, stl) => bnd (kvT stl r) fun v => some (v, st)
    | none => none
theorem lookK_sound {C : Ctx} {g : FuncId} {f : List AV → StL → Option (AV × StL)} (hf : ∀ args stl r stl', f args stl = some (r, stl') → (∃ fn, C.P.funcs[g]? = some fn ∧ fn.name ≠ "runtime.NumGoroutine" ∧ fn.body.isSome = true) ∧ ∀ (w : World) (m : Mem) (φ : Pl) (vs : List Value), Inv w m φ (stOf stl) → RepL m φ args vs → (∀ id, φ id ≠ none → id < stl.length) → Calls C.P g vs.toArray w (CallPost w m φ r stl'))
    {args : List AV} {stl stl' : StL} {r : AV} (h : lookK f args stl = some (r, stl')) :
    (∃ fn, C.P.funcs[g]? = some fn ∧ fn.name ≠ "runtime.NumGoroutine" ∧ fn.body.isSome = true) ∧ ∀ (w : World) (m : Mem) (φ : Pl) (vs : List Value), Inv w m φ (stOf stl) → RepL m φ args vs → (∀ id, φ id ≠ none → id < stl.length) →
      Calls C.P g vs.toArray w (CallPost w m φ r stl') := by
  unfold lookK at h
  obtain ⟨us, h1, h2⟩ := bnd_eq.1 h
  split at h2
  · rename_i r0 stl0 h3
    obtain ⟨v0, h4, h5⟩ := bnd_eq.1 h2
    injection h5 with h5; injection h5 with h5 h6; subst h5; subst h6
    obtain ⟨q1, q2⟩ := hf _ _ _ _ h3
    refine ⟨q1, fun w m φ vs hi hr h0 => ?_⟩
    refine (q2 w (memOf w) (fun _ => none) vs (inv0 w) (viewBs_sound hi hr h1) (fun id h => absurd rfl h)).mono ?_
    rintro e w' ⟨v, m', φ', rfl, j1, j2, j3, j4⟩
    have hlt : ∀ b o u, m b o = some u → b < w.heap.size := fun b o u e => hi.mem.lt e
    have hsame : ∀ f, f < w.heap.size → w'.heap[f]? = w.heap[f]? := fun f hf => j3.block f hf fun id b n e => by cases e
    have hle : MLe m (memN w m m') := fun b o u e => by rw [memN_old (hlt b o u e)]; exact e
    have hmem : MemOk w' (memN w m m') := fun b o u e => by
      by_cases hb : b < w.heap.size
      · rw [memN_old hb] at e
        rw [cell_of_heap (hsame b hb)]; exact hi.mem b o u e
      · rw [memN_new (by omega)] at e
        exact j2.mem b o u e
    have ha : Adv w m (fun _ => none) w' (memN w m m') (fun _ => none) := ⟨j3.size, j3.os, j3.tape, j3.output, fun b hb _ => hsame b hb, hle, fun b hb _ o => memN_old hb o, .refl _, fun _ _ _ _ e => by cases e⟩
    obtain ⟨i2, a2⟩ := hi.growN ha hmem
    exact ⟨v, _, φ, rfl, kvT_sound j2 j3 j1 h4, i2, a2, h0⟩
  · cases h2
end Go.Av

namespace Go.Av
def lowR (r : Int) : Bool := decide (r ≠ 2 ∧ r ≠ 5 ∧ r ≠ 6)
def NS0 (R : Rng) (cs : List AV) : StL := [some (.loop R cs .ready), some (.box [.int 0, .nils]), some (.box [.bool false])]
def NS1 (R : Rng) (cs : List AV) (s : Stp) : StL := some (.loop R cs (.over .ret)) :: some (.box [.int s.1, if s.2 = [] then .nils else .osl 3 1 0 s.2.length]) :: some (.box [.bool true]) :: (if s.2 = [] then [] else [some (.frz 1 (intsL s.2))])
end Go.Av
namespace Go.Proofs.YteihcffblfdgfaaGreat.P
open Go Go.Av
set_option maxRecDepth 4000
set_option maxHeartbeats 8000000
structure Yn (R : Rng) (cs : List AV) : Prop where
  ids : cs = [.own 1 0, .own 2 0, .junk, .junk, .junk]
  n0 : ∀ r : Int, lowR r = false → callA C0 yldF [.fn (.yield 0) [.own 0 0], .agg [.int r, .nils]] (NS0 R cs) = some (.bool true, NS0 R cs)
  n1 : ∀ (r : Int) (path : List Int), path ≠ [] → lowR r = false → callA C0 yldF [.fn (.yield 0) [.own 0 0], .agg [.int r, .osl 3 1 0 path.length]] (NS0 R cs ++ [some (.arr 1 (intsL path))]) = some (.bool true, NS0 R cs ++ [some (.frz 1 (intsL path))])
  y0 : ∀ r : Int, lowR r = true → callA C0 yldF [.fn (.yield 0) [.own 0 0], .agg [.int r, .nils]] (NS0 R cs) = some (.bool false, NS1 R cs (r, []))
  y1 : ∀ (r : Int) (path : List Int), path ≠ [] → lowR r = true → callA C0 yldF [.fn (.yield 0) [.own 0 0], .agg [.int r, .osl 3 1 0 path.length]] (NS0 R cs ++ [some (.arr 1 (intsL path))]) = some (.bool false, NS1 R cs (r, path))
end Go.Proofs.YteihcffblfdgfaaGreat.P

namespace Go.Proofs.YteihcffblfdgfaaGreat.P
open Go Go.Av
set_option maxRecDepth 4000
set_option maxHeartbeats 4000000
theorem applyE_name {args : List AV} {st : StL} {q : AV × StL} (h : applyE args st = some q) : ∃ fn, Tryz.prog.funcs[22]? = some fn ∧ fn.name ≠ "runtime.NumGoroutine" ∧ fn.body.isSome = true := ⟨Tryz.f22, Tryz.func22, by decide, rfl⟩
theorem applyE_calls {args : List AV} {st st' : StL} {r : AV} (h : applyE args st = some (r, st')) : ∀ (w : World) (m : Mem) (φ : Pl) (vs : List Value), Inv w m φ (stOf st) → RepL m φ args vs → (∀ id, φ id ≠ none → id < st.length) → Calls Tryz.prog 22 vs.toArray w (CallPost w m φ r st') := by
  intro w m φ vs hi hr h0
  obtain ⟨p, ws, k, path, rfl, rfl, hq⟩ := applyE_some h
  cases ho : apO p ws k path with
  | none =>
    rw [ho] at hq
    injection hq with h1 h2
    subst h1; subst h2
    have hn : p.width ws = 0 ∨ apI ws k path p = none := by
      unfold apO at ho
      by_cases hw : p.width ws = 0
      · exact .inl hw
      · rw [if_neg hw] at ho; exact .inr ho
    exact (callA_sound sound0).calls _ _ _ _ _ (by decide) (apply_none hn) w m φ vs hi hr h0
  | some q =>
    rw [ho] at hq
    injection hq with h1 h2
    subst h1; subst h2
    unfold apO at ho
    by_cases hw : p.width ws = 0
    · rw [if_pos hw] at ho; cases ho
    · rw [if_neg hw] at ho
      obtain rfl : φ = fun _ => none := by
        funext id
        cases h : φ id with
        | none => rfl
        | some p => exact absurd (h0 id (by rw [h]; simp)) (Nat.not_lt_zero _)
      exact apply_some hw ho hi hr
def ownQ : FuncId → Bool
  | 41 => true
  | g => ownP g
@[simp] theorem ownQ_eq (g : FuncId) : ownQ g = if g = 41 then true else ownP g := by
  unfold ownQ; split
  · rfl
  · rename_i h; rw [if_neg h]
noncomputable def primA : FuncId → Option (List AV → StL → Option (AV × StL))
  | 22 => some applyE
  | 41 => some (lookK (bodyA C0 true 41))
  | 21 => some (callA CR 21)
  | 47 => some (callA CR 47)
  | 44 => some (callA CR 44)
  | g => primR g
noncomputable def CA : Ctx := { P := Tryz.prog, G := GS, ownArgs := ownQ, keepRes := keepQ, eqT := eqTy, prim := primA }
@[simp] theorem CA_P : CA.P = Tryz.prog := (rfl)
@[simp] theorem CA_G (f) : CA.G f = GS f := (rfl)
@[simp] theorem CA_o (f) : CA.ownArgs f = ownQ f := (rfl)
@[simp] theorem CA_k (f) : CA.keepRes f = (keepR f || decide (f = 101)) := (rfl)
@[simp] theorem CA_e (f) : CA.eqT f = eqTy f := (rfl)
@[simp] theorem CA_t : CA.tree = false := (rfl)
theorem primA0 : PrimOk CA := by
  constructor
  · intro g args st p h
    unfold primCall at h
    cases hq : CA.prim g with
    | none => rw [hq] at h; cases h
    | some q =>
      rw [hq] at h
      have hq : primA g = some q := hq
      unfold primA at hq
      split at hq
      all_goals first
        | (cases hq; done)
        | (injection hq with hq; subst hq; exact applyE_name h)
        | (injection hq with hq; subst hq; exact (lookK_sound (C := CA) (fun args stl r stl' h => bodyA_sound sound0 h) (r := p.1) (stl' := p.2) h).1)
        | (injection hq with hq; subst hq; exact (callA_sound soundR).name _ _ _ _ (by decide) h)
        | exact primR0.name g args st p (by unfold primCall; rw [show CR.prim g = some q from hq]; exact h)
  · intro g args st r st' h w m φ vs hi hr hb
    unfold primCall at h
    cases hq : CA.prim g with
    | none => rw [hq] at h; cases h
    | some q =>
      rw [hq] at h
      have hq : primA g = some q := hq
      unfold primA at hq
      split at hq
      all_goals first
        | (cases hq; done)
        | (injection hq with hq; subst hq; exact applyE_calls h w m φ vs hi hr hb)
        | (injection hq with hq; subst hq; exact (lookK_sound (C := CA) (fun args stl r stl' h => bodyA_sound sound0 h) h).2 w m φ vs hi hr hb)
        | (injection hq with hq; subst hq; exact (callA_sound soundR).calls _ _ _ _ _ (by decide) h w m φ vs hi hr hb)
        | exact primR0.calls g args st r st' (by unfold primCall; rw [show CR.prim g = some q from hq]; exact h) w m φ vs hi hr hb
theorem soundAp : SoundOk CA := sound_ok (C := CA) ft nt eqS mo primA0
theorem ca_ApplyStep (p : Pn) (ws : List Int) (r : Int) (path : List Int) : callA CA 22 [.i (.agg p.cells), .i (.isl (intsL ws)), .i (.agg [.int r, .isl (intsL path)])] [] = some (apR (apO p ws r path)) := by rw [callA_prim (p := applyE) rfl]; exact applyE_eq p ws r path
@[simp] theorem ca_Draw (a : List AV) (st : StL) : callA CA 21 a st = callA CR 21 a st := by rw [callA_prim (p := callA CR 21) rfl]
@[simp] theorem ca_sApplyStep (a : List AV) (st : StL) : callA CA 23 a st = callA C0 23 a st := by rw [callA_prim (p := callA C0 23) rfl]
@[simp] theorem ca_equalPlans (a : List AV) (st : StL) : callA CA 24 a st = callA C0 24 a st := by rw [callA_prim (p := callA C0 24) rfl]
@[simp] theorem ca_equalLists (a : List AV) (st : StL) : callA CA 26 a st = callA C0 26 a st := by rw [callA_prim (p := callA C0 26) rfl]
@[simp] theorem ca_kidOf (a : List AV) (st : StL) : callA CA 25 a st = callA C0 25 a st := by rw [callA_prim (p := callA C0 25) rfl]
theorem apO_thin {p q : Pn} {ws : List Int} {r : Int} {path : List Int} (h : apO p ws r path = some q) : q.thin ∧ p.width ws ≠ 0 ∧ q.width ws = p.width ws := by
  unfold apO at h
  by_cases h0 : p.width ws = 0
  · rw [if_pos h0] at h; cases h
  · rw [if_neg h0] at h
    obtain ⟨hw, hp8, hv⟩ := width_okWs h0
    rw [ap_eq (okWs_rng hw) hp8] at h
    have := apS_wd (okWs_rng hw) hp8 h
    exact ⟨wd_thin q 8 (by rw [this]; exact hp8), h0, by unfold Pn.width; rw [if_pos hw, if_pos hw]; exact this⟩
theorem sApplyStep_eq (p : Pn) (hp : p.thin) (ws : List Int) (hl : ws.length < 1000000) (r : Int) (path : List Int) (hpl : path.length < 1000000) : callA C0 23 [.i (.agg p.cells), .i (.isl (intsL ws)), .i (.agg [.int r, .isl (intsL path)])] [] = some (apR (apO p ws r path)) := by
  have c1 := widthOf_eq p (Pn.thin_lim p hp) ws (by omega)
  rw [callA_eq rfl Tryz.func23 rfl rfl]
  unfold apO
  by_cases h0 : p.width ws = 0
  · simp only [Pn.cells_eq p] at c1 ⊢
    simp [c1, h0, apR, Pn.zero, Pn.cells, Ex.cellsL, intsL, Pn.cellsL]
  · obtain ⟨hw, hp8, hv⟩ := width_okWs h0
    have c2 := applyStep_eq hw hp8 r (path := path) hpl
    rw [← ap_eq (okWs_rng hw) hp8] at c2
    by_cases h8 : path.length ≤ 8
    · have n8 : ¬ (8 : Int) < path.length := by omega
      cases hq : apI ws r path p with
      | none =>
        rw [hq] at c2
        simp only [Pn.cells_eq p] at c1 c2 ⊢
        simp [getP, Pn.zero, Pn.cells, Ex.cellsL, intsL, Pn.cellsL] at c2
        simp [c1, h0, c2, n8, apR, Pn.zero, Pn.cells, Ex.cellsL, intsL, Pn.cellsL]
      | some q =>
        rw [hq] at c2
        simp only [Pn.cells_eq p, Pn.cells_eq q, getP, Option.getD_some] at c1 c2 ⊢
        simp at c2
        simp [c1, h0, c2, n8, apR, Pn.cells_eq q]
    · have n8 : (8 : Int) < path.length := by omega
      have hq : apI ws r path p = none := by unfold apI; rw [if_neg h8]
      simp only [Pn.cells_eq p] at c1 ⊢
      simp [c1, h0, n8, hq, apR, Pn.zero, Pn.cells, Ex.cellsL, intsL, Pn.cellsL]
end Go.Proofs.YteihcffblfdgfaaGreat.P

namespace Go.Proofs.YteihcffblfdgfaaGreat.P
open Go Go.Av
set_option maxRecDepth 4000
set_option maxHeartbeats 2000000
theorem kidOf_eq (p : Pn) (i : Nat) : callA C0 25 [.i (.agg p.cells), .int i] [] = some (.i (.agg ((p.kids[i]?).getD Pn.zero).cells), []) := by
  rw [callA_eq rfl Tryz.func25 rfl rfl, Pn.cells_eq p]
  by_cases h : i < p.kids.length
  · have q1 := List.getElem?_eq_getElem h
    have r2 := Pn.cellsL_nth q1
    rw [q1]
    simp only [Option.getD_some]
    generalize p.kids[i] = a at r2
    rw [Pn.cells_eq a] at r2 ⊢
    have hn : ¬ p.kids.length ≤ i := by omega
    simp [hn, h, r2]
  · have hn : p.kids.length ≤ i := by omega
    rw [List.getElem?_eq_none hn]
    simp [hn, Pn.zero, Pn.cells, Ex.cellsL, intsL, Pn.cellsL]
theorem law_commuteTwice (code : List UInt8) : callA CA 6 [.i (.isl (bytesI code))] [] = some (.bool true, []) := by
  rw [callA_eq rfl Tryz.func6 rfl rfl]
  by_cases hl : (code.length : Int) > 1048576
  · simp [bytesI_length, hl, show ((1048576 : Int) < code.length) from hl]
  obtain ⟨p, ws, r, path, hd, hp, hws, hpl⟩ := drawApply_eq code
  have e1 := ca_ApplyStep p ws 6 []
  have e2 := sApplyStep_eq p hp ws (by omega) 6 [] (by simp)
  have e3 := ca_ApplyStep p ws r path
  have e4 := sApplyStep_eq p hp ws (by omega) r path (by omega)
  simp only [intsL] at e1 e2
  cases h1 : apO p ws 6 [] with
  | none =>
    rw [h1] at e1 e2
    have e5 := equalPlans_eq Pn.zero Pn.zero_thin Pn.zero
    rw [Pn.eqb_refl] at e5
    simp only [Pn.cells_eq p] at *
    simp [apR, Pn.zero, Pn.cells, Ex.cellsL, intsL, Pn.cellsL] at e1 e2 e5
    cases h2 : apO p ws r path with
    | none =>
      rw [h2] at e3 e4
      simp [apR, Pn.zero, Pn.cells, Ex.cellsL, intsL, Pn.cellsL] at e3 e4
      simp [bytesI_length, hl, hd, e1, e2, e3, e4, e5]
    | some x =>
      rw [h2] at e3 e4
      simp [apR, Pn.cells_eq x] at e3 e4
      simp [bytesI_length, hl, hd, e1, e2, e3, e4, e5]
  | some q =>
    rw [h1] at e1 e2
    obtain ⟨hq, _, _⟩ := apO_thin h1
    have e5 := equalPlans_eq q hq q
    rw [Pn.eqb_refl] at e5
    have e6 := ca_ApplyStep q ws 6 [0]
    obtain ⟨e, x, y, cs, hpx, he, hqx⟩ := commute_root h1
    have hp' := (Pn.thin_iff p).1 hp
    have hx : x.thin := hp'.2.2.2.2 x (by rw [hpx]; simp [pairP, Pn.kids])
    have hy : y.thin := hp'.2.2.2.2 y (by rw [hpx]; simp [pairP, Pn.kids])
    have hes : ∀ a ∈ [e], a.thin := fun a ha => hp'.2.1 a (by rw [hpx]; simpa [pairP, Pn.exprs] using ha)
    have k1 := kidOf_eq q 0
    have k2 := kidOf_eq (pairP 4 (e.mapC (swapC (x.wd ws 8) (y.wd ws 8))) y x) 0
    have p1 := equalPlans_eq y hy y
    rw [Pn.eqb_refl] at p1
    rw [show (q.kids[0]?).getD Pn.zero = pairP 4 (e.mapC (swapC (x.wd ws 8) (y.wd ws 8))) y x by rw [hqx]; rfl] at k1
    simp only [show ((pairP 4 (e.mapC (swapC (x.wd ws 8) (y.wd ws 8))) y x).kids[0]?).getD Pn.zero = y from rfl] at k2
    have hqk : q.kind = 3 := by rw [hqx]; rfl
    have hpk : Pn.cellsL p.kids = [x.cells, y.cells] := by rw [hpx]; simp [pairP, Pn.kids, Pn.cellsL]
    have hpe : Ex.cellsL p.exprs = [e.cells] := by rw [hpx]; simp [pairP, Pn.exprs, Ex.cellsL]
    have hpl2 : p.kids.length = 2 := by rw [hpx]; rfl
    cases h2 : apO q ws 6 [0] with
    | none =>
      rw [h2] at e6
      have k3 := kidOf_eq Pn.zero 0
      simp only [Pn.cells_eq p, Pn.cells_eq q, Pn.cells_eq y, Pn.cells_eq (pairP 4 (e.mapC (swapC (x.wd ws 8) (y.wd ws 8))) y x)] at *
      simp [Pn.zero, Pn.cells, Ex.cellsL, intsL, Pn.cellsL] at k3
      simp [apR, Pn.cells_eq q, hpk, hqk] at e1 e2 e5
      simp [hpk] at hd
      simp [apR, hqk, Pn.zero, Pn.cells, Ex.cellsL, intsL, Pn.cellsL] at e6
      simp [hqk] at k1 k2
      simp [bytesI_length, hl, hd, e1, e2, e5, e6, k1, k2, k3, p1, hqk, hpk, hpl2]
    | some b =>
      rw [h2] at e6
      obtain ⟨e', x', y', cs', ds, hp2, hb⟩ := commute_twice h1 h2
      rw [hpx] at hp2
      simp only [pairP, Pn.mk.injEq, List.cons.injEq, and_true, true_and] at hp2
      obtain ⟨rfl, rfl, rfl⟩ := hp2
      have k3 := kidOf_eq b 0
      have k4 := kidOf_eq (proj ds (pairP 4 e x y)) 0
      have k5 := kidOf_eq (pairP 4 e x y) 0
      rw [show (b.kids[0]?).getD Pn.zero = proj ds (pairP 4 e x y) by rw [hb]; rfl] at k3
      simp only [show ((proj ds (pairP 4 e x y)).kids[0]?).getD Pn.zero = pairP 4 e x y from rfl] at k4
      simp only [show ((pairP 4 e x y).kids[0]?).getD Pn.zero = x from rfl] at k5
      have hJ : Ex.cellsL (pairP 4 e x y).exprs = [e.cells] := by simp [pairP, Pn.exprs, Ex.cellsL]
      generalize pairP 4 e x y = J at k3 k4 k5 hJ
      generalize proj ds J = M at k3 k4
      have p2 := equalPlans_eq x hx x
      rw [Pn.eqb_refl] at p2
      have p3 := equalLists_eq (l := [e]) (m := [e]) (by simp) hes
      rw [show Ex.eqbL [e] [e] = true by simp [Ex.eqbL, Ex.eqb_refl]] at p3
      simp only [Pn.cells_eq p, Pn.cells_eq q, Pn.cells_eq b, Pn.cells_eq y, Pn.cells_eq x, Pn.cells_eq M, Pn.cells_eq J, Pn.cells_eq (pairP 4 (e.mapC (swapC (x.wd ws 8) (y.wd ws 8))) y x)] at *
      simp [apR, Pn.cells_eq q, hpk, hpe, hqk] at e1 e2 e5
      simp [hpk, hpe] at hd
      simp [apR, hqk, Pn.cells_eq b, intsL] at e6
      simp [hqk] at k1 k2 k3 k4 k5
      simp [Ex.cellsL] at p3
      simp [hJ] at k4 k5
      simp [bytesI_length, hl, hd, e1, e2, e5, e6, k1, k2, k3, k4, k5, p1, p2, p3, hqk, hpk, hpl2, hpe]
theorem law_commuteTwice_calls (a : Option Addr) (len cap : Nat) (zs : List Int) (w : World)
    (h : (a = none ∧ len = 0 ∧ cap = 0 ∧ zs = []) ∨ ∃ x, a = some x ∧ len ≤ cap ∧ cap ≤ maxLen ∧ zs.length = cap ∧ (∀ i, i < zs.length → w.cell? (x.add i) = some (.int .u8 (zs.getD i 0))) ∧ ∀ n ∈ zs, (Lit.int .u8 n).wf = true) :
    Calls Tryz.prog 6 #[.slice a len cap] w fun e w' => e = .returned (.bool true) ∧ RowKit.Below w.heap.size w w' := by
  obtain ⟨code, hc⟩ := bytes_rep h
  exact calls_true soundAp (.cons (.i hc) .nil) (law_commuteTwice code)
end Go.Proofs.YteihcffblfdgfaaGreat.P

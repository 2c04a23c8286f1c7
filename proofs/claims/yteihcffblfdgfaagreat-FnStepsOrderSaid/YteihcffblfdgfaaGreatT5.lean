/- Part 5 of what the proof rests on: the executor and what it is worth, and the program's functions as it runs them. No condition. -/
import Derived.Test.YteihcffblfdgfaaGreatT4
set_option linter.unusedVariables false
set_option linter.unusedSimpArgs false
namespace Go.Proofs.YteihcffblfdgfaaGreat.P
open Go Go.Av
set_option maxRecDepth 4000
set_option maxHeartbeats 8000000
def PSt (l : List UInt8) (ws : List Int) (k : Nat) (j u p : Int) : StL := [some (.box [.own 1 0, .osl 2 1 0 k, .int j, .int u]), Rd l p, some (.arr 1 (intsL ws))]
def PlanOk (l : List UInt8) (ws : List Int) (k d j c : Nat) : Prop := ∀ p u : Int, 0 ≤ p → p + c < 300000000 → 0 ≤ u → u ≤ 1 → ∃ (P : Pn) (p' u' : Int) (j' : Nat),
    callA CP 121 [.own 0 0, .int d] (PSt l ws k j u p) = some (.i (.agg P.cells), PSt l ws k j' u' p') ∧ P.thin ∧ p ≤ p' ∧ p' ≤ p + c ∧ j' ≤ j ∧ 0 ≤ u' ∧ u' ≤ 1
theorem scan_cells (t : Int) : (Pn.scan t).cells = [.int 1, .int t, .isl [], .isl [], .isl []] := by simp [Pn.scan, Pn.cells, Ex.cellsL, intsL, Pn.cellsL]
theorem plan_zero {l : List UInt8} (hl : l.length ≤ 2000) {ws : List Int} {k : Nat} (j : Nat) : PlanOk l ws k 0 j 1 := by
  intro p u h0 h1 hu0 hu1
  obtain ⟨t, ht, -, -⟩ := pick_eq l p k h0 (by omega) hl
  refine ⟨.scan t, p + 1, u, j, ?_, Pn.scan_thin t, by omega, by omega, by omega, by omega, by omega⟩
  rw [callA_eq rfl Tryz.func121 rfl rfl]
  simp [PSt, ht, scan_cells]
theorem plan_filter0 {l : List UInt8} (hl : l.length ≤ 2000) {ws : List Int} {k : Nat} {d j c2 : Nat} {p u t v W kk p1 u1 : Int} {j1 : Nat} {K : Pn} (hd : d < 100) (h1 : p1 + 400 + c2 < 300000000) (hp1 : 0 ≤ p1) (hu0 : 0 ≤ u1) (hu1 : u1 ≤ 1) (hW0 : 0 ≤ W) (hW6 : W ≤ 6) (hK : K.thin)
    (ht : callA C0 68 [.own 0 0, .int k] [Rd l p] = some (.int t, [Rd l (p + 1)])) (hv : callA C0 68 [.own 0 0, .int 6] [Rd l (p + 1)] = some (.int v, [Rd l (p + 1 + 1)])) (v0 : ¬ v = 0)
    (hkid : callA CP 121 [.own 0 0, .int d] (PSt l ws k j u (p + 1 + 1)) = some (.i (.agg K.cells), PSt l ws k j1 u1 p1))
    (hW : callA CP 59 [.i (.agg K.cells), .osl 0 1 0 k, .int 8] [some (.arr 1 (intsL ws))] = some (.int W, [some (.arr 1 (intsL ws))]))
    (hkk : callA C0 68 [.own 0 0, .int 10] [Rd l p1] = some (.int kk, [Rd l (p1 + 1)])) (hq : kk = 0) : ∃ (P : Pn) (p' u' : Int) (j' : Nat), callA CP 121 [.own 0 0, .int ((d + 1 : Nat) : Int)] (PSt l ws k j u p) = some (.i (.agg P.cells), PSt l ws k j' u' p') ∧ P.thin ∧ p1 ≤ p' ∧ p' ≤ p1 + 400 + c2 ∧ j' ≤ j1 ∧ 0 ≤ u' ∧ u' ≤ 1 := by
  have we : IntKind.i64.wrap (d : Int) = d := wrap64 (by omega) (by omega)
  have wn : ¬ ((d : Int) + 1 = 0) := by omega
  simp only [PSt] at hkid
  rw [Pn.cells_eq K] at hkid hW
  obtain ⟨e, p2, he, a1, a2, a3⟩ := randomCondition_eq l hl W (p1 + 1) (by omega) (by omega)
  have hf := filterOf_eq e K
  rw [filtP_cells, Pn.cells_eq K, Ex.cells_eq e] at hf
  rw [Ex.cells_eq e] at he
  refine ⟨filtP e K, p2, u1, j1, ?_, filtP_thin (by omega) hK, by omega, by omega, by omega, by omega, by omega⟩
  rw [callA_eq rfl Tryz.func121 rfl rfl]
  simp [PSt, ht, hv, v0, we, hkid, hW, hkk, wn, hq, he, hf, filtP_cells, Pn.cells_eq K, Ex.cells_eq e]
theorem plan_filter1 {l : List UInt8} (hl : l.length ≤ 2000) {ws : List Int} {k : Nat} {d j c2 : Nat} {p u t v W kk p1 u1 : Int} {j1 : Nat} {K : Pn} (hd : d < 100) (h1 : p1 + 400 + c2 < 300000000) (hp1 : 0 ≤ p1) (hu0 : 0 ≤ u1) (hu1 : u1 ≤ 1) (hW0 : 0 ≤ W) (hW6 : W ≤ 6) (hK : K.thin)
    (ht : callA C0 68 [.own 0 0, .int k] [Rd l p] = some (.int t, [Rd l (p + 1)])) (hv : callA C0 68 [.own 0 0, .int 6] [Rd l (p + 1)] = some (.int v, [Rd l (p + 1 + 1)])) (v0 : ¬ v = 0)
    (hkid : callA CP 121 [.own 0 0, .int d] (PSt l ws k j u (p + 1 + 1)) = some (.i (.agg K.cells), PSt l ws k j1 u1 p1))
    (hW : callA CP 59 [.i (.agg K.cells), .osl 0 1 0 k, .int 8] [some (.arr 1 (intsL ws))] = some (.int W, [some (.arr 1 (intsL ws))]))
    (hkk : callA C0 68 [.own 0 0, .int 10] [Rd l p1] = some (.int kk, [Rd l (p1 + 1)])) (hq : kk = 1) : ∃ (P : Pn) (p' u' : Int) (j' : Nat), callA CP 121 [.own 0 0, .int ((d + 1 : Nat) : Int)] (PSt l ws k j u p) = some (.i (.agg P.cells), PSt l ws k j' u' p') ∧ P.thin ∧ p1 ≤ p' ∧ p' ≤ p1 + 400 + c2 ∧ j' ≤ j1 ∧ 0 ≤ u' ∧ u' ≤ 1 := by
  have we : IntKind.i64.wrap (d : Int) = d := wrap64 (by omega) (by omega)
  have wn : ¬ ((d : Int) + 1 = 0) := by omega
  simp only [PSt] at hkid
  rw [Pn.cells_eq K] at hkid hW
  obtain ⟨e, p2, he, a1, a2, a3⟩ := randomCondition_eq l hl W (p1 + 1) (by omega) (by omega)
  have hf := filterOf_eq e K
  rw [filtP_cells, Pn.cells_eq K, Ex.cells_eq e] at hf
  rw [Ex.cells_eq e] at he
  refine ⟨filtP e K, p2, u1, j1, ?_, filtP_thin (by omega) hK, by omega, by omega, by omega, by omega, by omega⟩
  rw [callA_eq rfl Tryz.func121 rfl rfl]
  simp [PSt, ht, hv, v0, we, hkid, hW, hkk, wn, hq, he, hf, filtP_cells, Pn.cells_eq K, Ex.cells_eq e]
theorem plan_filter2 {l : List UInt8} (hl : l.length ≤ 2000) {ws : List Int} {k : Nat} {d j c2 : Nat} {p u t v W kk p1 u1 : Int} {j1 : Nat} {K : Pn} (hd : d < 100) (h1 : p1 + 400 + c2 < 300000000) (hp1 : 0 ≤ p1) (hu0 : 0 ≤ u1) (hu1 : u1 ≤ 1) (hW0 : 0 ≤ W) (hW6 : W ≤ 6) (hK : K.thin)
    (ht : callA C0 68 [.own 0 0, .int k] [Rd l p] = some (.int t, [Rd l (p + 1)])) (hv : callA C0 68 [.own 0 0, .int 6] [Rd l (p + 1)] = some (.int v, [Rd l (p + 1 + 1)])) (v0 : ¬ v = 0)
    (hkid : callA CP 121 [.own 0 0, .int d] (PSt l ws k j u (p + 1 + 1)) = some (.i (.agg K.cells), PSt l ws k j1 u1 p1))
    (hW : callA CP 59 [.i (.agg K.cells), .osl 0 1 0 k, .int 8] [some (.arr 1 (intsL ws))] = some (.int W, [some (.arr 1 (intsL ws))]))
    (hkk : callA C0 68 [.own 0 0, .int 10] [Rd l p1] = some (.int kk, [Rd l (p1 + 1)])) (hq : kk = 2) : ∃ (P : Pn) (p' u' : Int) (j' : Nat), callA CP 121 [.own 0 0, .int ((d + 1 : Nat) : Int)] (PSt l ws k j u p) = some (.i (.agg P.cells), PSt l ws k j' u' p') ∧ P.thin ∧ p1 ≤ p' ∧ p' ≤ p1 + 400 + c2 ∧ j' ≤ j1 ∧ 0 ≤ u' ∧ u' ≤ 1 := by
  have we : IntKind.i64.wrap (d : Int) = d := wrap64 (by omega) (by omega)
  have wn : ¬ ((d : Int) + 1 = 0) := by omega
  simp only [PSt] at hkid
  rw [Pn.cells_eq K] at hkid hW
  obtain ⟨e, p2, he, a1, a2, a3⟩ := randomCondition_eq l hl W (p1 + 1) (by omega) (by omega)
  have hf := filterOf_eq e K
  rw [filtP_cells, Pn.cells_eq K, Ex.cells_eq e] at hf
  rw [Ex.cells_eq e] at he
  refine ⟨filtP e K, p2, u1, j1, ?_, filtP_thin (by omega) hK, by omega, by omega, by omega, by omega, by omega⟩
  rw [callA_eq rfl Tryz.func121 rfl rfl]
  simp [PSt, ht, hv, v0, we, hkid, hW, hkk, wn, hq, he, hf, filtP_cells, Pn.cells_eq K, Ex.cells_eq e]
theorem plan_distinct {l : List UInt8} (hl : l.length ≤ 2000) {ws : List Int} {k : Nat} {d j c2 : Nat} {p u t v W kk p1 u1 : Int} {j1 : Nat} {K : Pn} (hd : d < 100) (h1 : p1 + 400 + c2 < 300000000) (hp1 : 0 ≤ p1) (hu0 : 0 ≤ u1) (hu1 : u1 ≤ 1) (hW0 : 0 ≤ W) (hW6 : W ≤ 6) (hK : K.thin)
    (ht : callA C0 68 [.own 0 0, .int k] [Rd l p] = some (.int t, [Rd l (p + 1)])) (hv : callA C0 68 [.own 0 0, .int 6] [Rd l (p + 1)] = some (.int v, [Rd l (p + 1 + 1)])) (v0 : ¬ v = 0)
    (hkid : callA CP 121 [.own 0 0, .int d] (PSt l ws k j u (p + 1 + 1)) = some (.i (.agg K.cells), PSt l ws k j1 u1 p1))
    (hW : callA CP 59 [.i (.agg K.cells), .osl 0 1 0 k, .int 8] [some (.arr 1 (intsL ws))] = some (.int W, [some (.arr 1 (intsL ws))]))
    (hkk : callA C0 68 [.own 0 0, .int 10] [Rd l p1] = some (.int kk, [Rd l (p1 + 1)])) (hq : kk = 8) : ∃ (P : Pn) (p' u' : Int) (j' : Nat), callA CP 121 [.own 0 0, .int ((d + 1 : Nat) : Int)] (PSt l ws k j u p) = some (.i (.agg P.cells), PSt l ws k j' u' p') ∧ P.thin ∧ p1 ≤ p' ∧ p' ≤ p1 + 400 + c2 ∧ j' ≤ j1 ∧ 0 ≤ u' ∧ u' ≤ 1 := by
  have we : IntKind.i64.wrap (d : Int) = d := wrap64 (by omega) (by omega)
  have wn : ¬ ((d : Int) + 1 = 0) := by omega
  simp only [PSt] at hkid
  rw [Pn.cells_eq K] at hkid hW
  refine ⟨.mk 7 0 [] [] [K], p1 + 1, u1, j1, ?_, by simp [Pn.thin, Pn.thinL, hK], by omega, by omega, by omega, by omega, by omega⟩
  rw [callA_eq rfl Tryz.func121 rfl rfl]
  simp [PSt, ht, hv, v0, we, hkid, hW, hkk, wn, hq, Pn.cells, Ex.cellsL, intsL, Pn.cellsL, Pn.cells_eq K]
theorem plan_nojoin5 {l : List UInt8} (hl : l.length ≤ 2000) {ws : List Int} {k : Nat} {d j c2 : Nat} {p u t v W kk p1 u1 : Int} {j1 : Nat} {K : Pn} (hd : d < 100) (h1 : p1 + 400 + c2 < 300000000) (hp1 : 0 ≤ p1) (hu0 : 0 ≤ u1) (hu1 : u1 ≤ 1) (hW0 : 0 ≤ W) (hW6 : W ≤ 6) (hK : K.thin)
    (ht : callA C0 68 [.own 0 0, .int k] [Rd l p] = some (.int t, [Rd l (p + 1)])) (hv : callA C0 68 [.own 0 0, .int 6] [Rd l (p + 1)] = some (.int v, [Rd l (p + 1 + 1)])) (v0 : ¬ v = 0)
    (hkid : callA CP 121 [.own 0 0, .int d] (PSt l ws k j u (p + 1 + 1)) = some (.i (.agg K.cells), PSt l ws k j1 u1 p1))
    (hW : callA CP 59 [.i (.agg K.cells), .osl 0 1 0 k, .int 8] [some (.arr 1 (intsL ws))] = some (.int W, [some (.arr 1 (intsL ws))]))
    (hkk : callA C0 68 [.own 0 0, .int 10] [Rd l p1] = some (.int kk, [Rd l (p1 + 1)])) (hj : j1 = 0) (hq : kk = 5) : ∃ (P : Pn) (p' u' : Int) (j' : Nat), callA CP 121 [.own 0 0, .int ((d + 1 : Nat) : Int)] (PSt l ws k j u p) = some (.i (.agg P.cells), PSt l ws k j' u' p') ∧ P.thin ∧ p1 ≤ p' ∧ p' ≤ p1 + 400 + c2 ∧ j' ≤ j1 ∧ 0 ≤ u' ∧ u' ≤ 1 := by
  have we : IntKind.i64.wrap (d : Int) = d := wrap64 (by omega) (by omega)
  have wn : ¬ ((d : Int) + 1 = 0) := by omega
  simp only [PSt] at hkid
  rw [Pn.cells_eq K] at hkid hW
  obtain ⟨e, p2, he, a1, a2, a3⟩ := randomCondition_eq l hl W (p1 + 1) (by omega) (by omega)
  have hf := filterOf_eq e K
  rw [filtP_cells, Pn.cells_eq K, Ex.cells_eq e] at hf
  rw [Ex.cells_eq e] at he
  refine ⟨filtP e K, p2, u1, j1, ?_, filtP_thin (by omega) hK, by omega, by omega, by omega, by omega, by omega⟩
  rw [callA_eq rfl Tryz.func121 rfl rfl]
  simp [PSt, ht, hv, v0, we, hkid, hW, hkk, wn, hq, he, hf, filtP_cells, Pn.cells_eq K, Ex.cells_eq e, hj]
theorem plan_wide5 {l : List UInt8} (hl : l.length ≤ 2000) {ws : List Int} {k : Nat} {d j c2 : Nat} {p u t v W kk p1 u1 : Int} {j1 : Nat} {K : Pn} (hd : d < 100) (h1 : p1 + 400 + c2 < 300000000) (hp1 : 0 ≤ p1) (hu0 : 0 ≤ u1) (hu1 : u1 ≤ 1) (hW0 : 0 ≤ W) (hW6 : W ≤ 6) (hK : K.thin)
    (ht : callA C0 68 [.own 0 0, .int k] [Rd l p] = some (.int t, [Rd l (p + 1)])) (hv : callA C0 68 [.own 0 0, .int 6] [Rd l (p + 1)] = some (.int v, [Rd l (p + 1 + 1)])) (v0 : ¬ v = 0)
    (hkid : callA CP 121 [.own 0 0, .int d] (PSt l ws k j u (p + 1 + 1)) = some (.i (.agg K.cells), PSt l ws k j1 u1 p1))
    (hW : callA CP 59 [.i (.agg K.cells), .osl 0 1 0 k, .int 8] [some (.arr 1 (intsL ws))] = some (.int W, [some (.arr 1 (intsL ws))]))
    (hkk : callA C0 68 [.own 0 0, .int 10] [Rd l p1] = some (.int kk, [Rd l (p1 + 1)])) (hj : j1 ≠ 0) (hw4 : ¬ W ≤ 4) (hq : kk = 5) : ∃ (P : Pn) (p' u' : Int) (j' : Nat), callA CP 121 [.own 0 0, .int ((d + 1 : Nat) : Int)] (PSt l ws k j u p) = some (.i (.agg P.cells), PSt l ws k j' u' p') ∧ P.thin ∧ p1 ≤ p' ∧ p' ≤ p1 + 400 + c2 ∧ j' ≤ j1 ∧ 0 ≤ u' ∧ u' ≤ 1 := by
  have we : IntKind.i64.wrap (d : Int) = d := wrap64 (by omega) (by omega)
  have wn : ¬ ((d : Int) + 1 = 0) := by omega
  simp only [PSt] at hkid
  rw [Pn.cells_eq K] at hkid hW
  have hj' : 0 < j1 := by omega
  obtain ⟨e, p2, he, a1, a2, a3⟩ := randomCondition_eq l hl W (p1 + 1) (by omega) (by omega)
  have hf := filterOf_eq e K
  rw [filtP_cells, Pn.cells_eq K, Ex.cells_eq e] at hf
  rw [Ex.cells_eq e] at he
  refine ⟨filtP e K, p2, u1, j1, ?_, filtP_thin (by omega) hK, by omega, by omega, by omega, by omega, by omega⟩
  rw [callA_eq rfl Tryz.func121 rfl rfl]
  simp [PSt, ht, hv, v0, we, hkid, hW, hkk, wn, hq, he, hf, filtP_cells, Pn.cells_eq K, Ex.cells_eq e, hj', hj, hw4]
theorem plan_nojoin6 {l : List UInt8} (hl : l.length ≤ 2000) {ws : List Int} {k : Nat} {d j c2 : Nat} {p u t v W kk p1 u1 : Int} {j1 : Nat} {K : Pn} (hd : d < 100) (h1 : p1 + 400 + c2 < 300000000) (hp1 : 0 ≤ p1) (hu0 : 0 ≤ u1) (hu1 : u1 ≤ 1) (hW0 : 0 ≤ W) (hW6 : W ≤ 6) (hK : K.thin)
    (ht : callA C0 68 [.own 0 0, .int k] [Rd l p] = some (.int t, [Rd l (p + 1)])) (hv : callA C0 68 [.own 0 0, .int 6] [Rd l (p + 1)] = some (.int v, [Rd l (p + 1 + 1)])) (v0 : ¬ v = 0)
    (hkid : callA CP 121 [.own 0 0, .int d] (PSt l ws k j u (p + 1 + 1)) = some (.i (.agg K.cells), PSt l ws k j1 u1 p1))
    (hW : callA CP 59 [.i (.agg K.cells), .osl 0 1 0 k, .int 8] [some (.arr 1 (intsL ws))] = some (.int W, [some (.arr 1 (intsL ws))]))
    (hkk : callA C0 68 [.own 0 0, .int 10] [Rd l p1] = some (.int kk, [Rd l (p1 + 1)])) (hj : j1 = 0) (hq : kk = 6) : ∃ (P : Pn) (p' u' : Int) (j' : Nat), callA CP 121 [.own 0 0, .int ((d + 1 : Nat) : Int)] (PSt l ws k j u p) = some (.i (.agg P.cells), PSt l ws k j' u' p') ∧ P.thin ∧ p1 ≤ p' ∧ p' ≤ p1 + 400 + c2 ∧ j' ≤ j1 ∧ 0 ≤ u' ∧ u' ≤ 1 := by
  have we : IntKind.i64.wrap (d : Int) = d := wrap64 (by omega) (by omega)
  have wn : ¬ ((d : Int) + 1 = 0) := by omega
  simp only [PSt] at hkid
  rw [Pn.cells_eq K] at hkid hW
  obtain ⟨e, p2, he, a1, a2, a3⟩ := randomCondition_eq l hl W (p1 + 1) (by omega) (by omega)
  have hf := filterOf_eq e K
  rw [filtP_cells, Pn.cells_eq K, Ex.cells_eq e] at hf
  rw [Ex.cells_eq e] at he
  refine ⟨filtP e K, p2, u1, j1, ?_, filtP_thin (by omega) hK, by omega, by omega, by omega, by omega, by omega⟩
  rw [callA_eq rfl Tryz.func121 rfl rfl]
  simp [PSt, ht, hv, v0, we, hkid, hW, hkk, wn, hq, he, hf, filtP_cells, Pn.cells_eq K, Ex.cells_eq e, hj]
theorem plan_wide6 {l : List UInt8} (hl : l.length ≤ 2000) {ws : List Int} {k : Nat} {d j c2 : Nat} {p u t v W kk p1 u1 : Int} {j1 : Nat} {K : Pn} (hd : d < 100) (h1 : p1 + 400 + c2 < 300000000) (hp1 : 0 ≤ p1) (hu0 : 0 ≤ u1) (hu1 : u1 ≤ 1) (hW0 : 0 ≤ W) (hW6 : W ≤ 6) (hK : K.thin)
    (ht : callA C0 68 [.own 0 0, .int k] [Rd l p] = some (.int t, [Rd l (p + 1)])) (hv : callA C0 68 [.own 0 0, .int 6] [Rd l (p + 1)] = some (.int v, [Rd l (p + 1 + 1)])) (v0 : ¬ v = 0)
    (hkid : callA CP 121 [.own 0 0, .int d] (PSt l ws k j u (p + 1 + 1)) = some (.i (.agg K.cells), PSt l ws k j1 u1 p1))
    (hW : callA CP 59 [.i (.agg K.cells), .osl 0 1 0 k, .int 8] [some (.arr 1 (intsL ws))] = some (.int W, [some (.arr 1 (intsL ws))]))
    (hkk : callA C0 68 [.own 0 0, .int 10] [Rd l p1] = some (.int kk, [Rd l (p1 + 1)])) (hj : j1 ≠ 0) (hw4 : ¬ W ≤ 4) (hq : kk = 6) : ∃ (P : Pn) (p' u' : Int) (j' : Nat), callA CP 121 [.own 0 0, .int ((d + 1 : Nat) : Int)] (PSt l ws k j u p) = some (.i (.agg P.cells), PSt l ws k j' u' p') ∧ P.thin ∧ p1 ≤ p' ∧ p' ≤ p1 + 400 + c2 ∧ j' ≤ j1 ∧ 0 ≤ u' ∧ u' ≤ 1 := by
  have we : IntKind.i64.wrap (d : Int) = d := wrap64 (by omega) (by omega)
  have wn : ¬ ((d : Int) + 1 = 0) := by omega
  simp only [PSt] at hkid
  rw [Pn.cells_eq K] at hkid hW
  have hj' : 0 < j1 := by omega
  obtain ⟨e, p2, he, a1, a2, a3⟩ := randomCondition_eq l hl W (p1 + 1) (by omega) (by omega)
  have hf := filterOf_eq e K
  rw [filtP_cells, Pn.cells_eq K, Ex.cells_eq e] at hf
  rw [Ex.cells_eq e] at he
  refine ⟨filtP e K, p2, u1, j1, ?_, filtP_thin (by omega) hK, by omega, by omega, by omega, by omega, by omega⟩
  rw [callA_eq rfl Tryz.func121 rfl rfl]
  simp [PSt, ht, hv, v0, we, hkid, hW, hkk, wn, hq, he, hf, filtP_cells, Pn.cells_eq K, Ex.cells_eq e, hj', hj, hw4]
theorem plan_nounion {l : List UInt8} (hl : l.length ≤ 2000) {ws : List Int} {k : Nat} {d j c2 : Nat} {p u t v W kk p1 u1 : Int} {j1 : Nat} {K : Pn} (hd : d < 100) (h1 : p1 + 400 + c2 < 300000000) (hp1 : 0 ≤ p1) (hu0 : 0 ≤ u1) (hu1 : u1 ≤ 1) (hW0 : 0 ≤ W) (hW6 : W ≤ 6) (hK : K.thin)
    (ht : callA C0 68 [.own 0 0, .int k] [Rd l p] = some (.int t, [Rd l (p + 1)])) (hv : callA C0 68 [.own 0 0, .int 6] [Rd l (p + 1)] = some (.int v, [Rd l (p + 1 + 1)])) (v0 : ¬ v = 0)
    (hkid : callA CP 121 [.own 0 0, .int d] (PSt l ws k j u (p + 1 + 1)) = some (.i (.agg K.cells), PSt l ws k j1 u1 p1))
    (hW : callA CP 59 [.i (.agg K.cells), .osl 0 1 0 k, .int 8] [some (.arr 1 (intsL ws))] = some (.int W, [some (.arr 1 (intsL ws))]))
    (hkk : callA C0 68 [.own 0 0, .int 10] [Rd l p1] = some (.int kk, [Rd l (p1 + 1)])) (hu : ¬ 0 < u1) (hq : kk = 7) : ∃ (P : Pn) (p' u' : Int) (j' : Nat), callA CP 121 [.own 0 0, .int ((d + 1 : Nat) : Int)] (PSt l ws k j u p) = some (.i (.agg P.cells), PSt l ws k j' u' p') ∧ P.thin ∧ p1 ≤ p' ∧ p' ≤ p1 + 400 + c2 ∧ j' ≤ j1 ∧ 0 ≤ u' ∧ u' ≤ 1 := by
  have we : IntKind.i64.wrap (d : Int) = d := wrap64 (by omega) (by omega)
  have wn : ¬ ((d : Int) + 1 = 0) := by omega
  simp only [PSt] at hkid
  rw [Pn.cells_eq K] at hkid hW
  obtain ⟨e, p2, he, a1, a2, a3⟩ := randomCondition_eq l hl W (p1 + 1) (by omega) (by omega)
  have hf := filterOf_eq e K
  rw [filtP_cells, Pn.cells_eq K, Ex.cells_eq e] at hf
  rw [Ex.cells_eq e] at he
  refine ⟨filtP e K, p2, u1, j1, ?_, filtP_thin (by omega) hK, by omega, by omega, by omega, by omega, by omega⟩
  rw [callA_eq rfl Tryz.func121 rfl rfl]
  simp [PSt, ht, hv, v0, we, hkid, hW, hkk, wn, hq, he, hf, filtP_cells, Pn.cells_eq K, Ex.cells_eq e, hu]
theorem plan_union {l : List UInt8} (hl : l.length ≤ 2000) {ws : List Int} {k : Nat} {d j c2 : Nat} {p u t v W kk p1 u1 : Int} {j1 : Nat} {K : Pn} (hd : d < 100) (h1 : p1 + 400 + c2 < 300000000) (hp1 : 0 ≤ p1) (hu0 : 0 ≤ u1) (hu1 : u1 ≤ 1) (hW0 : 0 ≤ W) (hW6 : W ≤ 6) (hK : K.thin)
    (ht : callA C0 68 [.own 0 0, .int k] [Rd l p] = some (.int t, [Rd l (p + 1)])) (hv : callA C0 68 [.own 0 0, .int 6] [Rd l (p + 1)] = some (.int v, [Rd l (p + 1 + 1)])) (v0 : ¬ v = 0)
    (hkid : callA CP 121 [.own 0 0, .int d] (PSt l ws k j u (p + 1 + 1)) = some (.i (.agg K.cells), PSt l ws k j1 u1 p1))
    (hW : callA CP 59 [.i (.agg K.cells), .osl 0 1 0 k, .int 8] [some (.arr 1 (intsL ws))] = some (.int W, [some (.arr 1 (intsL ws))]))
    (hkk : callA C0 68 [.own 0 0, .int 10] [Rd l p1] = some (.int kk, [Rd l (p1 + 1)])) (hu : 0 < u1) (hq : kk = 7) : ∃ (P : Pn) (p' u' : Int) (j' : Nat), callA CP 121 [.own 0 0, .int ((d + 1 : Nat) : Int)] (PSt l ws k j u p) = some (.i (.agg P.cells), PSt l ws k j' u' p') ∧ P.thin ∧ p1 ≤ p' ∧ p' ≤ p1 + 400 + c2 ∧ j' ≤ j1 ∧ 0 ≤ u' ∧ u' ≤ 1 := by
  have we : IntKind.i64.wrap (d : Int) = d := wrap64 (by omega) (by omega)
  have wn : ¬ ((d : Int) + 1 = 0) := by omega
  simp only [PSt] at hkid
  rw [Pn.cells_eq K] at hkid hW
  obtain ⟨e, p2, he, a1, a2, a3⟩ := randomCondition_eq l hl W (p1 + 1) (by omega) (by omega)
  have hf := filterOf_eq e K
  have hc := cp_copyPlan K hK
  have wu : IntKind.i64.wrap (u1 - 1) = u1 - 1 := wrap64 (by omega) (by omega)
  rw [filtP_cells, Pn.cells_eq K, Ex.cells_eq e] at hf
  rw [Pn.cells_eq K] at hc
  rw [Ex.cells_eq e] at he
  refine ⟨.mk 6 0 [] [] [K, filtP e K], p2, u1 - 1, j1, ?_, by have := filtP_thin (e := e) (by omega) hK; simp [Pn.thin, Pn.thinL, hK, this], by omega, by omega, by omega, by omega, by omega⟩
  rw [callA_eq rfl Tryz.func121 rfl rfl]
  simp [PSt, ht, hv, v0, we, hkid, hW, hkk, wn, hq, he, hf, filtP_cells, Pn.cells_eq K, Ex.cells_eq e, hu, hc, wu, Pn.cells_mk, Ex.cellsL, intsL, Pn.cellsL]
theorem plan_group1 {l : List UInt8} (hl : l.length ≤ 2000) {ws : List Int} {k : Nat} {d j c2 : Nat} {p u t v W kk p1 u1 : Int} {j1 : Nat} {K : Pn} (hd : d < 100) (h1 : p1 + 400 + c2 < 300000000) (hp1 : 0 ≤ p1) (hu0 : 0 ≤ u1) (hu1 : u1 ≤ 1) (hW0 : 0 ≤ W) (hW6 : W ≤ 6) (hK : K.thin)
    (ht : callA C0 68 [.own 0 0, .int k] [Rd l p] = some (.int t, [Rd l (p + 1)])) (hv : callA C0 68 [.own 0 0, .int 6] [Rd l (p + 1)] = some (.int v, [Rd l (p + 1 + 1)])) (v0 : ¬ v = 0)
    (hkid : callA CP 121 [.own 0 0, .int d] (PSt l ws k j u (p + 1 + 1)) = some (.i (.agg K.cells), PSt l ws k j1 u1 p1))
    (hW : callA CP 59 [.i (.agg K.cells), .osl 0 1 0 k, .int 8] [some (.arr 1 (intsL ws))] = some (.int W, [some (.arr 1 (intsL ws))]))
    (hkk : callA C0 68 [.own 0 0, .int 10] [Rd l p1] = some (.int kk, [Rd l (p1 + 1)])) (hw1 : ¬ 1 < W) (hq : kk = 9) : ∃ (P : Pn) (p' u' : Int) (j' : Nat), callA CP 121 [.own 0 0, .int ((d + 1 : Nat) : Int)] (PSt l ws k j u p) = some (.i (.agg P.cells), PSt l ws k j' u' p') ∧ P.thin ∧ p1 ≤ p' ∧ p' ≤ p1 + 400 + c2 ∧ j' ≤ j1 ∧ 0 ≤ u' ∧ u' ≤ 1 := by
  have we : IntKind.i64.wrap (d : Int) = d := wrap64 (by omega) (by omega)
  have wn : ¬ ((d : Int) + 1 = 0) := by omega
  simp only [PSt] at hkid
  rw [Pn.cells_eq K] at hkid hW
  refine ⟨.mk 8 0 [] [] [K], p1 + 1, u1, j1, ?_, by simp [Pn.thin, Pn.thinL, hK], by omega, by omega, by omega, by omega, by omega⟩
  rw [callA_eq rfl Tryz.func121 rfl rfl]
  simp [PSt, ht, hv, v0, we, hkid, hW, hkk, wn, hq, hw1, Pn.cells_mk, Ex.cellsL, intsL, Pn.cellsL, Pn.cells_eq K]
theorem plan_group2 {l : List UInt8} (hl : l.length ≤ 2000) {ws : List Int} {k : Nat} {d j c2 : Nat} {p u t v W kk p1 u1 : Int} {j1 : Nat} {K : Pn} (hd : d < 100) (h1 : p1 + 400 + c2 < 300000000) (hp1 : 0 ≤ p1) (hu0 : 0 ≤ u1) (hu1 : u1 ≤ 1) (hW0 : 0 ≤ W) (hW6 : W ≤ 6) (hK : K.thin)
    (ht : callA C0 68 [.own 0 0, .int k] [Rd l p] = some (.int t, [Rd l (p + 1)])) (hv : callA C0 68 [.own 0 0, .int 6] [Rd l (p + 1)] = some (.int v, [Rd l (p + 1 + 1)])) (v0 : ¬ v = 0)
    (hkid : callA CP 121 [.own 0 0, .int d] (PSt l ws k j u (p + 1 + 1)) = some (.i (.agg K.cells), PSt l ws k j1 u1 p1))
    (hW : callA CP 59 [.i (.agg K.cells), .osl 0 1 0 k, .int 8] [some (.arr 1 (intsL ws))] = some (.int W, [some (.arr 1 (intsL ws))]))
    (hkk : callA C0 68 [.own 0 0, .int 10] [Rd l p1] = some (.int kk, [Rd l (p1 + 1)])) (hw1 : 1 < W) (hq : kk = 9) : ∃ (P : Pn) (p' u' : Int) (j' : Nat), callA CP 121 [.own 0 0, .int ((d + 1 : Nat) : Int)] (PSt l ws k j u p) = some (.i (.agg P.cells), PSt l ws k j' u' p') ∧ P.thin ∧ p1 ≤ p' ∧ p' ≤ p1 + 400 + c2 ∧ j' ≤ j1 ∧ 0 ≤ u' ∧ u' ≤ 1 := by
  have we : IntKind.i64.wrap (d : Int) = d := wrap64 (by omega) (by omega)
  have wn : ¬ ((d : Int) + 1 = 0) := by omega
  simp only [PSt] at hkid
  rw [Pn.cells_eq K] at hkid hW
  obtain ⟨g, hg, -, -⟩ := pick_eq l (p1 + 1) W (by omega) (by omega) hl
  refine ⟨.mk 8 0 [] [g] [K], p1 + 1 + 1, u1, j1, ?_, by simp [Pn.thin, Pn.thinL, hK], by omega, by omega, by omega, by omega, by omega⟩
  rw [callA_eq rfl Tryz.func121 rfl rfl]
  simp [PSt, ht, hv, v0, we, hkid, hW, hkk, wn, hq, hg, hw1, Pn.cells_mk, Ex.cellsL, intsL, Pn.cellsL, Pn.cells_eq K]
theorem plan_join5 {l : List UInt8} (hl : l.length ≤ 2000) {ws : List Int} (hw : ∀ w ∈ ws, 0 ≤ w ∧ w ≤ 6) (hwl : ws.length < 1000000) {k : Nat} (hk0 : 0 < k) (hkl : k ≤ ws.length) {d j c2 : Nat} {p u t v W kk p1 u1 : Int} {j1 : Nat} {K : Pn} (hd : d < 100) (h1 : p1 + 400 + c2 < 300000000) (hp1 : 0 ≤ p1) (hu0 : 0 ≤ u1) (hu1 : u1 ≤ 1) (hW0 : 0 ≤ W) (hW6 : W ≤ 6) (hK : K.thin)
    (ht : callA C0 68 [.own 0 0, .int k] [Rd l p] = some (.int t, [Rd l (p + 1)])) (hv : callA C0 68 [.own 0 0, .int 6] [Rd l (p + 1)] = some (.int v, [Rd l (p + 1 + 1)])) (v0 : ¬ v = 0)
    (hkid : callA CP 121 [.own 0 0, .int d] (PSt l ws k j u (p + 1 + 1)) = some (.i (.agg K.cells), PSt l ws k j1 u1 p1))
    (hW : callA CP 59 [.i (.agg K.cells), .osl 0 1 0 k, .int 8] [some (.arr 1 (intsL ws))] = some (.int W, [some (.arr 1 (intsL ws))]))
    (hkk : callA C0 68 [.own 0 0, .int 10] [Rd l p1] = some (.int kk, [Rd l (p1 + 1)])) (hj : j1 ≠ 0) (hjb : j1 < 1000) (hw4 : W ≤ 4) (hoth : ∀ y : Nat, y ≤ 1 → PlanOk l ws k y (j1 - 1) c2) (hq : kk = 5) : ∃ (P : Pn) (p' u' : Int) (j' : Nat), callA CP 121 [.own 0 0, .int ((d + 1 : Nat) : Int)] (PSt l ws k j u p) = some (.i (.agg P.cells), PSt l ws k j' u' p') ∧ P.thin ∧ p1 ≤ p' ∧ p' ≤ p1 + 400 + c2 ∧ j' ≤ j1 ∧ 0 ≤ u' ∧ u' ≤ 1 := by
  have we : IntKind.i64.wrap (d : Int) = d := wrap64 (by omega) (by omega)
  have wn : ¬ ((d : Int) + 1 = 0) := by omega
  simp only [PSt] at hkid
  rw [Pn.cells_eq K] at hkid hW
  have hj' : 0 < j1 := by omega
  have wj : IntKind.i64.wrap ((j1 : Int) - 1) = ((j1 - 1 : Nat) : Int) := by rw [wrap64 (by omega) (by omega)]; omega
  obtain ⟨x, hx, hx1, -⟩ := pick_eq l (p1 + 1) 2 (by omega) (by omega) hl
  obtain ⟨x0, x1⟩ := hx1 (by omega)
  obtain ⟨y, rfl⟩ : ∃ y : Nat, x = y := ⟨x.toNat, by omega⟩
  obtain ⟨O, p2, u2, j2, hO, hOt, b1, b2, b3, b4, b5⟩ := hoth y (by omega) (p1 + 1 + 1) u1 (by omega) (by omega) hu0 hu1
  have hV := splanWidth_own hw hwl hk0 hkl O hOt
  have hVr := Pn.wd_range (ws := ws.take k) (fun w hm => hw w (List.mem_of_mem_take hm)) O 8
  generalize O.wd (ws.take k) 8 = V at hV hVr
  have wv : IntKind.i64.wrap (W + V) = W + V := wrap64 (by omega) (by omega)
  simp only [PSt] at hO
  rw [Pn.cells_eq O] at hO hV
  by_cases hs : W + V ≤ 6
  · have h1 := one_eq l p2 (by omega) (by omega) hl [[.int 4], [.int 5]] (by simp) (by simp) (by simp)
    obtain ⟨z, hz, hzm⟩ := h1
    obtain ⟨e, p3, he, a1, a2, a3⟩ := randomCondition_eq l hl (W + V) (p2 + 1) (by omega) (by omega)
    rw [Ex.cells_eq e] at he
    simp only [List.length_cons, List.length_nil, Nat.zero_add, Nat.reduceAdd] at hz
    have het := Ex.thin_of_size e (by omega)
    refine ⟨.mk z 0 [e] [] [K, O], p3, u2, j2, ?_, by simp [Pn.thin, Pn.thinL, hK, hOt, het], by omega, by omega, by omega, by omega, by omega⟩
    rw [callA_eq rfl Tryz.func121 rfl rfl]
    simp [PSt, ht, hv, v0, we, hkid, hW, hkk, wn, hq, hj', hj, hw4, wj, hx, hO, hV, wv, hs, hz, he, Pn.cells_mk, Ex.cellsL, intsL, Pn.cellsL, Pn.cells_eq K, Pn.cells_eq O, Ex.cells_eq e]
  · obtain ⟨e, p3, he, a1, a2, a3⟩ := randomCondition_eq l hl W p2 (by omega) (by omega)
    have hf := filterOf_eq e K
    rw [filtP_cells, Pn.cells_eq K, Ex.cells_eq e] at hf
    rw [Ex.cells_eq e] at he
    refine ⟨filtP e K, p3, u2, j2, ?_, filtP_thin (by omega) hK, by omega, by omega, by omega, by omega, by omega⟩
    rw [callA_eq rfl Tryz.func121 rfl rfl]
    simp [PSt, ht, hv, v0, we, hkid, hW, hkk, wn, hq, hj', hj, hw4, wj, hx, hO, hV, wv, hs, he, hf, filtP_cells, Pn.cells_eq K, Ex.cells_eq e]
theorem plan_join6 {l : List UInt8} (hl : l.length ≤ 2000) {ws : List Int} (hw : ∀ w ∈ ws, 0 ≤ w ∧ w ≤ 6) (hwl : ws.length < 1000000) {k : Nat} (hk0 : 0 < k) (hkl : k ≤ ws.length) {d j c2 : Nat} {p u t v W kk p1 u1 : Int} {j1 : Nat} {K : Pn} (hd : d < 100) (h1 : p1 + 400 + c2 < 300000000) (hp1 : 0 ≤ p1) (hu0 : 0 ≤ u1) (hu1 : u1 ≤ 1) (hW0 : 0 ≤ W) (hW6 : W ≤ 6) (hK : K.thin)
    (ht : callA C0 68 [.own 0 0, .int k] [Rd l p] = some (.int t, [Rd l (p + 1)])) (hv : callA C0 68 [.own 0 0, .int 6] [Rd l (p + 1)] = some (.int v, [Rd l (p + 1 + 1)])) (v0 : ¬ v = 0)
    (hkid : callA CP 121 [.own 0 0, .int d] (PSt l ws k j u (p + 1 + 1)) = some (.i (.agg K.cells), PSt l ws k j1 u1 p1))
    (hW : callA CP 59 [.i (.agg K.cells), .osl 0 1 0 k, .int 8] [some (.arr 1 (intsL ws))] = some (.int W, [some (.arr 1 (intsL ws))]))
    (hkk : callA C0 68 [.own 0 0, .int 10] [Rd l p1] = some (.int kk, [Rd l (p1 + 1)])) (hj : j1 ≠ 0) (hjb : j1 < 1000) (hw4 : W ≤ 4) (hoth : ∀ y : Nat, y ≤ 1 → PlanOk l ws k y (j1 - 1) c2) (hq : kk = 6) : ∃ (P : Pn) (p' u' : Int) (j' : Nat), callA CP 121 [.own 0 0, .int ((d + 1 : Nat) : Int)] (PSt l ws k j u p) = some (.i (.agg P.cells), PSt l ws k j' u' p') ∧ P.thin ∧ p1 ≤ p' ∧ p' ≤ p1 + 400 + c2 ∧ j' ≤ j1 ∧ 0 ≤ u' ∧ u' ≤ 1 := by
  have we : IntKind.i64.wrap (d : Int) = d := wrap64 (by omega) (by omega)
  have wn : ¬ ((d : Int) + 1 = 0) := by omega
  simp only [PSt] at hkid
  rw [Pn.cells_eq K] at hkid hW
  have hj' : 0 < j1 := by omega
  have wj : IntKind.i64.wrap ((j1 : Int) - 1) = ((j1 - 1 : Nat) : Int) := by rw [wrap64 (by omega) (by omega)]; omega
  obtain ⟨x, hx, hx1, -⟩ := pick_eq l (p1 + 1) 2 (by omega) (by omega) hl
  obtain ⟨x0, x1⟩ := hx1 (by omega)
  obtain ⟨y, rfl⟩ : ∃ y : Nat, x = y := ⟨x.toNat, by omega⟩
  obtain ⟨O, p2, u2, j2, hO, hOt, b1, b2, b3, b4, b5⟩ := hoth y (by omega) (p1 + 1 + 1) u1 (by omega) (by omega) hu0 hu1
  have hV := splanWidth_own hw hwl hk0 hkl O hOt
  have hVr := Pn.wd_range (ws := ws.take k) (fun w hm => hw w (List.mem_of_mem_take hm)) O 8
  generalize O.wd (ws.take k) 8 = V at hV hVr
  have wv : IntKind.i64.wrap (W + V) = W + V := wrap64 (by omega) (by omega)
  simp only [PSt] at hO
  rw [Pn.cells_eq O] at hO hV
  by_cases hs : W + V ≤ 6
  · have h1 := one_eq l p2 (by omega) (by omega) hl [[.int 4], [.int 5]] (by simp) (by simp) (by simp)
    obtain ⟨z, hz, hzm⟩ := h1
    obtain ⟨e, p3, he, a1, a2, a3⟩ := randomCondition_eq l hl (W + V) (p2 + 1) (by omega) (by omega)
    rw [Ex.cells_eq e] at he
    simp only [List.length_cons, List.length_nil, Nat.zero_add, Nat.reduceAdd] at hz
    have het := Ex.thin_of_size e (by omega)
    refine ⟨.mk z 0 [e] [] [K, O], p3, u2, j2, ?_, by simp [Pn.thin, Pn.thinL, hK, hOt, het], by omega, by omega, by omega, by omega, by omega⟩
    rw [callA_eq rfl Tryz.func121 rfl rfl]
    simp [PSt, ht, hv, v0, we, hkid, hW, hkk, wn, hq, hj', hj, hw4, wj, hx, hO, hV, wv, hs, hz, he, Pn.cells_mk, Ex.cellsL, intsL, Pn.cellsL, Pn.cells_eq K, Pn.cells_eq O, Ex.cells_eq e]
  · obtain ⟨e, p3, he, a1, a2, a3⟩ := randomCondition_eq l hl W p2 (by omega) (by omega)
    have hf := filterOf_eq e K
    rw [filtP_cells, Pn.cells_eq K, Ex.cells_eq e] at hf
    rw [Ex.cells_eq e] at he
    refine ⟨filtP e K, p3, u2, j2, ?_, filtP_thin (by omega) hK, by omega, by omega, by omega, by omega, by omega⟩
    rw [callA_eq rfl Tryz.func121 rfl rfl]
    simp [PSt, ht, hv, v0, we, hkid, hW, hkk, wn, hq, hj', hj, hw4, wj, hx, hO, hV, wv, hs, he, hf, filtP_cells, Pn.cells_eq K, Ex.cells_eq e]
theorem plan_proj3 {l : List UInt8} (hl : l.length ≤ 2000) {ws : List Int} {k : Nat} {d j c2 : Nat} {p u t v W kk p1 u1 : Int} {j1 : Nat} {K : Pn} (hd : d < 100) (h1 : p1 + 400 + c2 < 300000000) (hp1 : 0 ≤ p1) (hu0 : 0 ≤ u1) (hu1 : u1 ≤ 1) (hW0 : 0 ≤ W) (hW6 : W ≤ 6) (hK : K.thin)
    (ht : callA C0 68 [.own 0 0, .int k] [Rd l p] = some (.int t, [Rd l (p + 1)])) (hv : callA C0 68 [.own 0 0, .int 6] [Rd l (p + 1)] = some (.int v, [Rd l (p + 1 + 1)])) (v0 : ¬ v = 0)
    (hkid : callA CP 121 [.own 0 0, .int d] (PSt l ws k j u (p + 1 + 1)) = some (.i (.agg K.cells), PSt l ws k j1 u1 p1))
    (hW : callA CP 59 [.i (.agg K.cells), .osl 0 1 0 k, .int 8] [some (.arr 1 (intsL ws))] = some (.int W, [some (.arr 1 (intsL ws))]))
    (hkk : callA C0 68 [.own 0 0, .int 10] [Rd l p1] = some (.int kk, [Rd l (p1 + 1)])) (hq : kk = 3) : ∃ (P : Pn) (p' u' : Int) (j' : Nat), callA CP 121 [.own 0 0, .int ((d + 1 : Nat) : Int)] (PSt l ws k j u p) = some (.i (.agg P.cells), PSt l ws k j' u' p') ∧ P.thin ∧ p1 ≤ p' ∧ p' ≤ p1 + 400 + c2 ∧ j' ≤ j1 ∧ 0 ≤ u' ∧ u' ≤ 1 := by
  have we : IntKind.i64.wrap (d : Int) = d := wrap64 (by omega) (by omega)
  have wn : ¬ ((d : Int) + 1 = 0) := by omega
  simp only [PSt] at hkid
  rw [Pn.cells_eq K] at hkid hW
  obtain ⟨m, hm, hm1, -⟩ := pick_eq l (p1 + 1) 2 (by omega) (by omega) hl
  obtain ⟨m0, m1⟩ := hm1 (by omega)
  have w2 : IntKind.i64.wrap (2 : Int) = 2 := wrap64 (by omega) (by omega)
  have w1 := wrap_1
  have w0 : IntKind.i64.wrap (0 : Int) = 0 := wrap64 (by omega) (by omega)
  obtain ⟨x1, hx1, hy1, -⟩ := pick_eq l (p1 + 1 + 1) 2 (by omega) (by omega) hl
  obtain ⟨x1a, x1b⟩ := hy1 (by omega)
  obtain ⟨y1, rfl⟩ : ∃ y : Nat, x1 = y := ⟨x1.toNat, by omega⟩
  have hc1 : costE y1 ≤ 9 := by rcases (show y1 = 0 ∨ y1 = 1 by omega) with h | h <;> simp [h, costE]
  obtain ⟨e1, q1, he1, c1a, c1b, c1c⟩ := rE l hl W y1 (by omega) (by omega) ((p1 + 1 + 1) + 1) (by omega) (by omega)
  rw [Ex.cells_eq e1] at he1
  have t1 := Ex.thin_of_size e1 (by omega)
  rcases (show m = 0 ∨ m = 1 by omega) with rfl | rfl
  · refine ⟨.mk 3 0 [e1] [] [K], q1, u1, j1, ?_, by simp [Pn.thin, Pn.thinL, hK, t1], by omega, by omega, by omega, by omega, by omega⟩
    rw [callA_eq rfl Tryz.func121 rfl rfl]
    simp [PSt, ht, hv, v0, we, hkid, hW, hkk, wn, hq, hm, w1]
    rw [execA_loop]; simp [hx1, he1, w0]
    rw [execA_loop]; simp [Pn.cells_mk, Ex.cellsL, intsL, Pn.cellsL, Pn.cells_eq K, Ex.cells_eq e1, PSt]
  · obtain ⟨x2, hx2, hy2, -⟩ := pick_eq l q1 2 (by omega) (by omega) hl
    obtain ⟨x2a, x2b⟩ := hy2 (by omega)
    obtain ⟨y2, rfl⟩ : ∃ y : Nat, x2 = y := ⟨x2.toNat, by omega⟩
    have hc2 : costE y2 ≤ 9 := by rcases (show y2 = 0 ∨ y2 = 1 by omega) with h | h <;> simp [h, costE]
    obtain ⟨e2, q2, he2, c2a, c2b, c2c⟩ := rE l hl W y2 (by omega) (by omega) (q1 + 1) (by omega) (by omega)
    rw [Ex.cells_eq e2] at he2
    have t2 := Ex.thin_of_size e2 (by omega)
    refine ⟨.mk 3 0 [e1, e2] [] [K], q2, u1, j1, ?_, by simp [Pn.thin, Pn.thinL, hK, t1, t2], by omega, by omega, by omega, by omega, by omega⟩
    rw [callA_eq rfl Tryz.func121 rfl rfl]
    simp [PSt, ht, hv, v0, we, hkid, hW, hkk, wn, hq, hm, w2]
    rw [execA_loop]; simp [hx1, he1, w1]
    rw [execA_loop]; simp [hx2, he2, w0]
    rw [execA_loop]; simp [Pn.cells_mk, Ex.cellsL, intsL, Pn.cellsL, Pn.cells_eq K, Ex.cells_eq e1, Ex.cells_eq e2, PSt]
theorem plan_proj4 {l : List UInt8} (hl : l.length ≤ 2000) {ws : List Int} {k : Nat} {d j c2 : Nat} {p u t v W kk p1 u1 : Int} {j1 : Nat} {K : Pn} (hd : d < 100) (h1 : p1 + 400 + c2 < 300000000) (hp1 : 0 ≤ p1) (hu0 : 0 ≤ u1) (hu1 : u1 ≤ 1) (hW0 : 0 ≤ W) (hW6 : W ≤ 6) (hK : K.thin)
    (ht : callA C0 68 [.own 0 0, .int k] [Rd l p] = some (.int t, [Rd l (p + 1)])) (hv : callA C0 68 [.own 0 0, .int 6] [Rd l (p + 1)] = some (.int v, [Rd l (p + 1 + 1)])) (v0 : ¬ v = 0)
    (hkid : callA CP 121 [.own 0 0, .int d] (PSt l ws k j u (p + 1 + 1)) = some (.i (.agg K.cells), PSt l ws k j1 u1 p1))
    (hW : callA CP 59 [.i (.agg K.cells), .osl 0 1 0 k, .int 8] [some (.arr 1 (intsL ws))] = some (.int W, [some (.arr 1 (intsL ws))]))
    (hkk : callA C0 68 [.own 0 0, .int 10] [Rd l p1] = some (.int kk, [Rd l (p1 + 1)])) (hq : kk = 4) : ∃ (P : Pn) (p' u' : Int) (j' : Nat), callA CP 121 [.own 0 0, .int ((d + 1 : Nat) : Int)] (PSt l ws k j u p) = some (.i (.agg P.cells), PSt l ws k j' u' p') ∧ P.thin ∧ p1 ≤ p' ∧ p' ≤ p1 + 400 + c2 ∧ j' ≤ j1 ∧ 0 ≤ u' ∧ u' ≤ 1 := by
  have we : IntKind.i64.wrap (d : Int) = d := wrap64 (by omega) (by omega)
  have wn : ¬ ((d : Int) + 1 = 0) := by omega
  simp only [PSt] at hkid
  rw [Pn.cells_eq K] at hkid hW
  obtain ⟨m, hm, hm1, -⟩ := pick_eq l (p1 + 1) 2 (by omega) (by omega) hl
  obtain ⟨m0, m1⟩ := hm1 (by omega)
  have w2 : IntKind.i64.wrap (2 : Int) = 2 := wrap64 (by omega) (by omega)
  have w1 := wrap_1
  have w0 : IntKind.i64.wrap (0 : Int) = 0 := wrap64 (by omega) (by omega)
  obtain ⟨x1, hx1, hy1, -⟩ := pick_eq l (p1 + 1 + 1) 2 (by omega) (by omega) hl
  obtain ⟨x1a, x1b⟩ := hy1 (by omega)
  obtain ⟨y1, rfl⟩ : ∃ y : Nat, x1 = y := ⟨x1.toNat, by omega⟩
  have hc1 : costE y1 ≤ 9 := by rcases (show y1 = 0 ∨ y1 = 1 by omega) with h | h <;> simp [h, costE]
  obtain ⟨e1, q1, he1, c1a, c1b, c1c⟩ := rE l hl W y1 (by omega) (by omega) ((p1 + 1 + 1) + 1) (by omega) (by omega)
  rw [Ex.cells_eq e1] at he1
  have t1 := Ex.thin_of_size e1 (by omega)
  rcases (show m = 0 ∨ m = 1 by omega) with rfl | rfl
  · refine ⟨.mk 3 0 [e1] [] [K], q1, u1, j1, ?_, by simp [Pn.thin, Pn.thinL, hK, t1], by omega, by omega, by omega, by omega, by omega⟩
    rw [callA_eq rfl Tryz.func121 rfl rfl]
    simp [PSt, ht, hv, v0, we, hkid, hW, hkk, wn, hq, hm, w1]
    rw [execA_loop]; simp [hx1, he1, w0]
    rw [execA_loop]; simp [Pn.cells_mk, Ex.cellsL, intsL, Pn.cellsL, Pn.cells_eq K, Ex.cells_eq e1, PSt]
  · obtain ⟨x2, hx2, hy2, -⟩ := pick_eq l q1 2 (by omega) (by omega) hl
    obtain ⟨x2a, x2b⟩ := hy2 (by omega)
    obtain ⟨y2, rfl⟩ : ∃ y : Nat, x2 = y := ⟨x2.toNat, by omega⟩
    have hc2 : costE y2 ≤ 9 := by rcases (show y2 = 0 ∨ y2 = 1 by omega) with h | h <;> simp [h, costE]
    obtain ⟨e2, q2, he2, c2a, c2b, c2c⟩ := rE l hl W y2 (by omega) (by omega) (q1 + 1) (by omega) (by omega)
    rw [Ex.cells_eq e2] at he2
    have t2 := Ex.thin_of_size e2 (by omega)
    refine ⟨.mk 3 0 [e1, e2] [] [K], q2, u1, j1, ?_, by simp [Pn.thin, Pn.thinL, hK, t1, t2], by omega, by omega, by omega, by omega, by omega⟩
    rw [callA_eq rfl Tryz.func121 rfl rfl]
    simp [PSt, ht, hv, v0, we, hkid, hW, hkk, wn, hq, hm, w2]
    rw [execA_loop]; simp [hx1, he1, w1]
    rw [execA_loop]; simp [hx2, he2, w0]
    rw [execA_loop]; simp [Pn.cells_mk, Ex.cellsL, intsL, Pn.cellsL, Pn.cells_eq K, Ex.cells_eq e1, Ex.cells_eq e2, PSt]
end Go.Proofs.YteihcffblfdgfaaGreat.P

namespace Go.Proofs.YteihcffblfdgfaaGreat.P
open Go Go.Av
set_option maxRecDepth 4000
set_option maxHeartbeats 8000000
theorem plan_scan {l : List UInt8} {ws : List Int} {k : Nat} {d j : Nat} {p u t : Int} (hd : d < 100) (ht : callA C0 68 [.own 0 0, .int k] [Rd l p] = some (.int t, [Rd l (p + 1)])) (hv : callA C0 68 [.own 0 0, .int 6] [Rd l (p + 1)] = some (.int 0, [Rd l (p + 1 + 1)])) :
    callA CP 121 [.own 0 0, .int ((d + 1 : Nat) : Int)] (PSt l ws k j u p) = some (.i (.agg (Pn.scan t).cells), PSt l ws k j u (p + 1 + 1)) := by
  have wn : ¬ ((d : Int) + 1 = 0) := by omega
  rw [callA_eq rfl Tryz.func121 rfl rfl]
  simp [PSt, ht, hv, scan_cells, wn]
theorem plan_step {l : List UInt8} (hl : l.length ≤ 2000) {ws : List Int} (hw : ∀ w ∈ ws, 0 ≤ w ∧ w ≤ 6) (hwl : ws.length < 1000000) {k : Nat} (hk0 : 0 < k) (hkl : k ≤ ws.length) {d j c c2 : Nat} (hd : d < 100) (hjb : j < 1000) (ih : PlanOk l ws k d j c) (hoth : ∀ i : Nat, i < j → ∀ y : Nat, y ≤ 1 → PlanOk l ws k y i c2) : PlanOk l ws k (d + 1) j (c + c2 + 500) := by
  intro p u h0 h1 hu0 hu1
  obtain ⟨t, ht, -, -⟩ := pick_eq l p k h0 (by omega) hl
  obtain ⟨v, hv, -, -⟩ := pick_eq l (p + 1) 6 (by omega) (by omega) hl
  by_cases v0 : v = 0
  · subst v0
    exact ⟨.scan t, p + 1 + 1, u, j, plan_scan hd ht hv, Pn.scan_thin t, by omega, by omega, by omega, by omega, by omega⟩
  obtain ⟨K, p1, u1, j1, hkid, hK, a1, a2, a3, a4, a5⟩ := ih (p + 1 + 1) u (by omega) (by omega) hu0 hu1
  have hW := splanWidth_own hw hwl hk0 hkl K hK
  have hWr := Pn.wd_range (ws := ws.take k) (fun w hm => hw w (List.mem_of_mem_take hm)) K 8
  generalize K.wd (ws.take k) 8 = W at hW hWr
  obtain ⟨kk, hkk, hkk1, -⟩ := pick_eq l p1 10 (by omega) (by omega) hl
  obtain ⟨kk0, kk9⟩ := hkk1 (by omega)
  suffices H : ∃ (P : Pn) (p' u' : Int) (j' : Nat), callA CP 121 [.own 0 0, .int ((d + 1 : Nat) : Int)] (PSt l ws k j u p) = some (.i (.agg P.cells), PSt l ws k j' u' p') ∧ P.thin ∧ p1 ≤ p' ∧ p' ≤ p1 + 400 + c2 ∧ j' ≤ j1 ∧ 0 ≤ u' ∧ u' ≤ 1 by
    obtain ⟨P, p', u', j', b1, b2, b3, b4, b5, b6, b7⟩ := H
    exact ⟨P, p', u', j', b1, b2, by omega, by omega, by omega, b6, b7⟩
  have hb : p1 + 400 + c2 < 300000000 := by omega
  have hp1 : 0 ≤ p1 := by omega
  by_cases q0 : kk = 0
  · exact plan_filter0 hl hd hb hp1 a4 a5 hWr.1 hWr.2 hK ht hv v0 hkid hW hkk q0
  by_cases q1 : kk = 1
  · exact plan_filter1 hl hd hb hp1 a4 a5 hWr.1 hWr.2 hK ht hv v0 hkid hW hkk q1
  by_cases q2 : kk = 2
  · exact plan_filter2 hl hd hb hp1 a4 a5 hWr.1 hWr.2 hK ht hv v0 hkid hW hkk q2
  by_cases q3 : kk = 3
  · exact plan_proj3 hl hd hb hp1 a4 a5 hWr.1 hWr.2 hK ht hv v0 hkid hW hkk q3
  by_cases q4 : kk = 4
  · exact plan_proj4 hl hd hb hp1 a4 a5 hWr.1 hWr.2 hK ht hv v0 hkid hW hkk q4
  by_cases q5 : kk = 5
  · by_cases hj : j1 = 0
    · exact plan_nojoin5 hl hd hb hp1 a4 a5 hWr.1 hWr.2 hK ht hv v0 hkid hW hkk hj q5
    by_cases hw4 : W ≤ 4
    · exact plan_join5 hl hw hwl hk0 hkl hd hb hp1 a4 a5 hWr.1 hWr.2 hK ht hv v0 hkid hW hkk hj (by omega) hw4 (fun y hy => hoth (j1 - 1) (by omega) y hy) q5
    · exact plan_wide5 hl hd hb hp1 a4 a5 hWr.1 hWr.2 hK ht hv v0 hkid hW hkk hj hw4 q5
  by_cases q6 : kk = 6
  · by_cases hj : j1 = 0
    · exact plan_nojoin6 hl hd hb hp1 a4 a5 hWr.1 hWr.2 hK ht hv v0 hkid hW hkk hj q6
    by_cases hw4 : W ≤ 4
    · exact plan_join6 hl hw hwl hk0 hkl hd hb hp1 a4 a5 hWr.1 hWr.2 hK ht hv v0 hkid hW hkk hj (by omega) hw4 (fun y hy => hoth (j1 - 1) (by omega) y hy) q6
    · exact plan_wide6 hl hd hb hp1 a4 a5 hWr.1 hWr.2 hK ht hv v0 hkid hW hkk hj hw4 q6
  by_cases q7 : kk = 7
  · by_cases hu : 0 < u1
    · exact plan_union hl hd hb hp1 a4 a5 hWr.1 hWr.2 hK ht hv v0 hkid hW hkk hu q7
    · exact plan_nounion hl hd hb hp1 a4 a5 hWr.1 hWr.2 hK ht hv v0 hkid hW hkk hu q7
  by_cases q8 : kk = 8
  · exact plan_distinct hl hd hb hp1 a4 a5 hWr.1 hWr.2 hK ht hv v0 hkid hW hkk q8
  have q9 : kk = 9 := by omega
  by_cases hw1 : 1 < W
  · exact plan_group2 hl hd hb hp1 a4 a5 hWr.1 hWr.2 hK ht hv v0 hkid hW hkk hw1 q9
  · exact plan_group1 hl hd hb hp1 a4 a5 hWr.1 hWr.2 hK ht hv v0 hkid hW hkk hw1 q9
theorem PlanOk.le {l : List UInt8} {ws : List Int} {k : Nat} {d j c c' : Nat} (h : PlanOk l ws k d j c) (hc : c ≤ c') : PlanOk l ws k d j c' := by
  intro p u h0 h1 hu0 hu1
  obtain ⟨P, p', u', j', b1, b2, b3, b4, b5, b6, b7⟩ := h p u h0 (by omega) hu0 hu1
  exact ⟨P, p', u', j', b1, b2, b3, by omega, b5, b6, b7⟩
theorem plan_none {l : List UInt8} (hl : l.length ≤ 2000) {ws : List Int} (hw : ∀ w ∈ ws, 0 ≤ w ∧ w ≤ 6) (hwl : ws.length < 1000000) {k : Nat} (hk0 : 0 < k) (hkl : k ≤ ws.length) : ∀ d : Nat, d < 50 → PlanOk l ws k d 0 (500 * d + 1)
  | 0, _ => (plan_zero hl 0).le (by omega)
  | d + 1, h => (plan_step hl hw hwl hk0 hkl (c2 := 0) (by omega) (by omega) (plan_none hl hw hwl hk0 hkl d (by omega)) (fun i hi => by omega)).le (by omega)
theorem plan_one {l : List UInt8} (hl : l.length ≤ 2000) {ws : List Int} (hw : ∀ w ∈ ws, 0 ≤ w ∧ w ≤ 6) (hwl : ws.length < 1000000) {k : Nat} (hk0 : 0 < k) (hkl : k ≤ ws.length) : ∀ d : Nat, d < 50 → PlanOk l ws k d 1 (2000 * d + 1)
  | 0, _ => (plan_zero hl 1).le (by omega)
  | d + 1, h => (plan_step hl hw hwl hk0 hkl (c2 := 501) (by omega) (by omega) (plan_one hl hw hwl hk0 hkl d (by omega)) (fun i hi y hy => by
      obtain rfl : i = 0 := by omega
      exact (plan_none hl hw hwl hk0 hkl y (by omega)).le (by omega))).le (by omega)
theorem filt_step {e : Ex} {p : Pn} (he : e.size ≤ 120) (hp : p.thin) : (filtP e p).thin := filtP_thin (by omega) hp
end Go.Proofs.YteihcffblfdgfaaGreat.P

namespace Go.Proofs.YteihcffblfdgfaaGreat.P
open Go Go.Av
set_option maxRecDepth 4000
set_option maxHeartbeats 8000000
def bl (n : Nat) : Nat := if n = 0 then 0 else 1
def rX (b : Nat) (P : Pn) : AV := .agg [.int P.kind, .int P.table, gro b 5 P.exprs.length, gro (b + bl P.exprs.length) 1 P.cols.length, gro (b + bl P.exprs.length + bl P.cols.length) 5 P.kids.length]
def rS (P : Pn) : StL := groB 5 (Ex.cellsL P.exprs) P.exprs.length ++ (groB 1 (intsL P.cols) P.cols.length ++ groB 5 (Pn.cellsL P.kids) P.kids.length)
@[simp] theorem cq_plan (a : List AV) (st : StL) : callA CQ 121 a st = callA CP 121 a st := by rw [callA_prim (p := callA CP 121) rfl]
@[simp] theorem cq_filterOf (a : List AV) (st : StL) : callA CQ 122 a st = bodyA C0 true 122 a st := by rw [callA_prim (p := bodyA C0 true 122) rfl]
@[simp] theorem cq_planWidth (a : List AV) (st : StL) : callA CQ 59 a st = callA CP 59 a st := by rw [callA_prim (p := lookC (callA C0) 59) rfl, callA_prim (p := lookC (callA C0) 59) rfl]
@[simp] theorem cq_copyPlan (a : List AV) (st : StL) : callA CQ 117 a st = callA CP 117 a st := by rw [callA_prim (p := frzO (callA C0) 117) rfl, callA_prim (p := frzO (callA C0) 117) rfl]
@[simp] theorem cq_pick (a : List AV) (st : StL) : callA CQ 68 a st = callA C0 68 a st := by rw [callA_prim (p := callA C0 68) rfl]
@[simp] theorem cq_one (a : List AV) (st : StL) : callA CQ 69 a st = callA C0 69 a st := by rw [callA_prim (p := callA C0 69) rfl]
@[simp] theorem cq_cond (a : List AV) (st : StL) : callA CQ 123 a st = callA C0 123 a st := by rw [callA_prim (p := callA C0 123) rfl]
@[simp] theorem cq_expr (a : List AV) (st : StL) : callA CQ 124 a st = callA C0 124 a st := by rw [callA_prim (p := callA C0 124) rfl]
theorem filterOf_own (e : Ex) (p : Pn) : bodyA C0 true 122 [.i (.agg e.cells), .i (.agg p.cells)] [] = some (.agg [.int 2, .int 0, .osl 0 5 0 1, .nils, .osl 1 5 0 1], [some (.arr 5 [e.cells]), some (.arr 5 [p.cells])]) := by
  rw [bodyA_eq Tryz.func122 rfl rfl, Ex.cells_eq, Pn.cells_eq]
  simp
def RootOk (l : List UInt8) (ws : List Int) (k d j c : Nat) : Prop := ∀ p u : Int, 0 ≤ p → p + c < 300000000 → 0 ≤ u → u ≤ 1 → ∃ (P : Pn) (p' u' : Int) (j' : Nat),
    bodyA CQ true 121 [.own 0 0, .int d] (PSt l ws k j u p) = some (rX 3 P, PSt l ws k j' u' p' ++ rS P) ∧ P.thin ∧ p ≤ p' ∧ p' ≤ p + c ∧ j' ≤ j ∧ 0 ≤ u' ∧ u' ≤ 1 ∧ P.exprs.length ≤ 2 ∧ P.cols.length ≤ 1
theorem root_scan {l : List UInt8} {ws : List Int} {k : Nat} {d j : Nat} {p u t : Int} (hd : d < 100) (ht : callA C0 68 [.own 0 0, .int k] [Rd l p] = some (.int t, [Rd l (p + 1)])) (hv : callA C0 68 [.own 0 0, .int 6] [Rd l (p + 1)] = some (.int 0, [Rd l (p + 1 + 1)])) :
    bodyA CQ true 121 [.own 0 0, .int ((d + 1 : Nat) : Int)] (PSt l ws k j u p) = some (rX 3 (Pn.scan t), PSt l ws k j u (p + 1 + 1) ++ rS (Pn.scan t)) := by
  have wn : ¬ ((d : Int) + 1 = 0) := by omega
  rw [bodyA_eq Tryz.func121 rfl rfl]
  simp [PSt, ht, hv, wn, rX, rS, bl, Pn.scan]
theorem root_filter0 {l : List UInt8} (hl : l.length ≤ 2000) {ws : List Int} {k : Nat} {d j c2 : Nat} {p u t v W kk p1 u1 : Int} {j1 : Nat} {K : Pn} (hd : d < 100) (h1 : p1 + 400 + c2 < 300000000) (hp1 : 0 ≤ p1) (hu0 : 0 ≤ u1) (hu1 : u1 ≤ 1) (hW0 : 0 ≤ W) (hW6 : W ≤ 6) (hK : K.thin)
    (ht : callA C0 68 [.own 0 0, .int k] [Rd l p] = some (.int t, [Rd l (p + 1)])) (hv : callA C0 68 [.own 0 0, .int 6] [Rd l (p + 1)] = some (.int v, [Rd l (p + 1 + 1)])) (v0 : ¬ v = 0)
    (hkid : callA CP 121 [.own 0 0, .int d] (PSt l ws k j u (p + 1 + 1)) = some (.i (.agg K.cells), PSt l ws k j1 u1 p1))
    (hW : callA CP 59 [.i (.agg K.cells), .osl 0 1 0 k, .int 8] [some (.arr 1 (intsL ws))] = some (.int W, [some (.arr 1 (intsL ws))]))
    (hkk : callA C0 68 [.own 0 0, .int 10] [Rd l p1] = some (.int kk, [Rd l (p1 + 1)])) (hq : kk = 0) : ∃ (P : Pn) (p' u' : Int) (j' : Nat), bodyA CQ true 121 [.own 0 0, .int ((d + 1 : Nat) : Int)] (PSt l ws k j u p) = some (rX 3 P, PSt l ws k j' u' p' ++ rS P) ∧ P.thin ∧ p1 ≤ p' ∧ p' ≤ p1 + 400 + c2 ∧ j' ≤ j1 ∧ 0 ≤ u' ∧ u' ≤ 1 ∧ P.exprs.length ≤ 2 ∧ P.cols.length ≤ 1 := by
  have we : IntKind.i64.wrap (d : Int) = d := wrap64 (by omega) (by omega)
  have wn : ¬ ((d : Int) + 1 = 0) := by omega
  simp only [PSt] at hkid
  rw [Pn.cells_eq K] at hkid hW
  obtain ⟨e, p2, he, a1, a2, a3⟩ := randomCondition_eq l hl W (p1 + 1) (by omega) (by omega)
  have hf := filterOf_own e K
  rw [Pn.cells_eq K, Ex.cells_eq e] at hf
  rw [Ex.cells_eq e] at he
  refine ⟨filtP e K, p2, u1, j1, ?_, filtP_thin (by omega) hK, by omega, by omega, by omega, by omega, by omega, by simp [filtP, Pn.scan], by simp [filtP, Pn.scan]⟩
  rw [bodyA_eq Tryz.func121 rfl rfl]
  simp [PSt, ht, hv, v0, we, hkid, hW, hkk, wn, hq, rX, rS, bl, he, hf, filtP, Ex.cellsL, intsL, Pn.cellsL, Pn.cells_eq K, Ex.cells_eq e]
theorem root_filter1 {l : List UInt8} (hl : l.length ≤ 2000) {ws : List Int} {k : Nat} {d j c2 : Nat} {p u t v W kk p1 u1 : Int} {j1 : Nat} {K : Pn} (hd : d < 100) (h1 : p1 + 400 + c2 < 300000000) (hp1 : 0 ≤ p1) (hu0 : 0 ≤ u1) (hu1 : u1 ≤ 1) (hW0 : 0 ≤ W) (hW6 : W ≤ 6) (hK : K.thin)
    (ht : callA C0 68 [.own 0 0, .int k] [Rd l p] = some (.int t, [Rd l (p + 1)])) (hv : callA C0 68 [.own 0 0, .int 6] [Rd l (p + 1)] = some (.int v, [Rd l (p + 1 + 1)])) (v0 : ¬ v = 0)
    (hkid : callA CP 121 [.own 0 0, .int d] (PSt l ws k j u (p + 1 + 1)) = some (.i (.agg K.cells), PSt l ws k j1 u1 p1))
    (hW : callA CP 59 [.i (.agg K.cells), .osl 0 1 0 k, .int 8] [some (.arr 1 (intsL ws))] = some (.int W, [some (.arr 1 (intsL ws))]))
    (hkk : callA C0 68 [.own 0 0, .int 10] [Rd l p1] = some (.int kk, [Rd l (p1 + 1)])) (hq : kk = 1) : ∃ (P : Pn) (p' u' : Int) (j' : Nat), bodyA CQ true 121 [.own 0 0, .int ((d + 1 : Nat) : Int)] (PSt l ws k j u p) = some (rX 3 P, PSt l ws k j' u' p' ++ rS P) ∧ P.thin ∧ p1 ≤ p' ∧ p' ≤ p1 + 400 + c2 ∧ j' ≤ j1 ∧ 0 ≤ u' ∧ u' ≤ 1 ∧ P.exprs.length ≤ 2 ∧ P.cols.length ≤ 1 := by
  have we : IntKind.i64.wrap (d : Int) = d := wrap64 (by omega) (by omega)
  have wn : ¬ ((d : Int) + 1 = 0) := by omega
  simp only [PSt] at hkid
  rw [Pn.cells_eq K] at hkid hW
  obtain ⟨e, p2, he, a1, a2, a3⟩ := randomCondition_eq l hl W (p1 + 1) (by omega) (by omega)
  have hf := filterOf_own e K
  rw [Pn.cells_eq K, Ex.cells_eq e] at hf
  rw [Ex.cells_eq e] at he
  refine ⟨filtP e K, p2, u1, j1, ?_, filtP_thin (by omega) hK, by omega, by omega, by omega, by omega, by omega, by simp [filtP, Pn.scan], by simp [filtP, Pn.scan]⟩
  rw [bodyA_eq Tryz.func121 rfl rfl]
  simp [PSt, ht, hv, v0, we, hkid, hW, hkk, wn, hq, rX, rS, bl, he, hf, filtP, Ex.cellsL, intsL, Pn.cellsL, Pn.cells_eq K, Ex.cells_eq e]
theorem root_filter2 {l : List UInt8} (hl : l.length ≤ 2000) {ws : List Int} {k : Nat} {d j c2 : Nat} {p u t v W kk p1 u1 : Int} {j1 : Nat} {K : Pn} (hd : d < 100) (h1 : p1 + 400 + c2 < 300000000) (hp1 : 0 ≤ p1) (hu0 : 0 ≤ u1) (hu1 : u1 ≤ 1) (hW0 : 0 ≤ W) (hW6 : W ≤ 6) (hK : K.thin)
    (ht : callA C0 68 [.own 0 0, .int k] [Rd l p] = some (.int t, [Rd l (p + 1)])) (hv : callA C0 68 [.own 0 0, .int 6] [Rd l (p + 1)] = some (.int v, [Rd l (p + 1 + 1)])) (v0 : ¬ v = 0)
    (hkid : callA CP 121 [.own 0 0, .int d] (PSt l ws k j u (p + 1 + 1)) = some (.i (.agg K.cells), PSt l ws k j1 u1 p1))
    (hW : callA CP 59 [.i (.agg K.cells), .osl 0 1 0 k, .int 8] [some (.arr 1 (intsL ws))] = some (.int W, [some (.arr 1 (intsL ws))]))
    (hkk : callA C0 68 [.own 0 0, .int 10] [Rd l p1] = some (.int kk, [Rd l (p1 + 1)])) (hq : kk = 2) : ∃ (P : Pn) (p' u' : Int) (j' : Nat), bodyA CQ true 121 [.own 0 0, .int ((d + 1 : Nat) : Int)] (PSt l ws k j u p) = some (rX 3 P, PSt l ws k j' u' p' ++ rS P) ∧ P.thin ∧ p1 ≤ p' ∧ p' ≤ p1 + 400 + c2 ∧ j' ≤ j1 ∧ 0 ≤ u' ∧ u' ≤ 1 ∧ P.exprs.length ≤ 2 ∧ P.cols.length ≤ 1 := by
  have we : IntKind.i64.wrap (d : Int) = d := wrap64 (by omega) (by omega)
  have wn : ¬ ((d : Int) + 1 = 0) := by omega
  simp only [PSt] at hkid
  rw [Pn.cells_eq K] at hkid hW
  obtain ⟨e, p2, he, a1, a2, a3⟩ := randomCondition_eq l hl W (p1 + 1) (by omega) (by omega)
  have hf := filterOf_own e K
  rw [Pn.cells_eq K, Ex.cells_eq e] at hf
  rw [Ex.cells_eq e] at he
  refine ⟨filtP e K, p2, u1, j1, ?_, filtP_thin (by omega) hK, by omega, by omega, by omega, by omega, by omega, by simp [filtP, Pn.scan], by simp [filtP, Pn.scan]⟩
  rw [bodyA_eq Tryz.func121 rfl rfl]
  simp [PSt, ht, hv, v0, we, hkid, hW, hkk, wn, hq, rX, rS, bl, he, hf, filtP, Ex.cellsL, intsL, Pn.cellsL, Pn.cells_eq K, Ex.cells_eq e]
theorem root_distinct {l : List UInt8} (hl : l.length ≤ 2000) {ws : List Int} {k : Nat} {d j c2 : Nat} {p u t v W kk p1 u1 : Int} {j1 : Nat} {K : Pn} (hd : d < 100) (h1 : p1 + 400 + c2 < 300000000) (hp1 : 0 ≤ p1) (hu0 : 0 ≤ u1) (hu1 : u1 ≤ 1) (hW0 : 0 ≤ W) (hW6 : W ≤ 6) (hK : K.thin)
    (ht : callA C0 68 [.own 0 0, .int k] [Rd l p] = some (.int t, [Rd l (p + 1)])) (hv : callA C0 68 [.own 0 0, .int 6] [Rd l (p + 1)] = some (.int v, [Rd l (p + 1 + 1)])) (v0 : ¬ v = 0)
    (hkid : callA CP 121 [.own 0 0, .int d] (PSt l ws k j u (p + 1 + 1)) = some (.i (.agg K.cells), PSt l ws k j1 u1 p1))
    (hW : callA CP 59 [.i (.agg K.cells), .osl 0 1 0 k, .int 8] [some (.arr 1 (intsL ws))] = some (.int W, [some (.arr 1 (intsL ws))]))
    (hkk : callA C0 68 [.own 0 0, .int 10] [Rd l p1] = some (.int kk, [Rd l (p1 + 1)])) (hq : kk = 8) : ∃ (P : Pn) (p' u' : Int) (j' : Nat), bodyA CQ true 121 [.own 0 0, .int ((d + 1 : Nat) : Int)] (PSt l ws k j u p) = some (rX 3 P, PSt l ws k j' u' p' ++ rS P) ∧ P.thin ∧ p1 ≤ p' ∧ p' ≤ p1 + 400 + c2 ∧ j' ≤ j1 ∧ 0 ≤ u' ∧ u' ≤ 1 ∧ P.exprs.length ≤ 2 ∧ P.cols.length ≤ 1 := by
  have we : IntKind.i64.wrap (d : Int) = d := wrap64 (by omega) (by omega)
  have wn : ¬ ((d : Int) + 1 = 0) := by omega
  simp only [PSt] at hkid
  rw [Pn.cells_eq K] at hkid hW
  refine ⟨.mk 7 0 [] [] [K], p1 + 1, u1, j1, ?_, by simp [Pn.thin, Pn.thinL, hK], by omega, by omega, by omega, by omega, by omega, by simp [filtP, Pn.scan], by simp [filtP, Pn.scan]⟩
  rw [bodyA_eq Tryz.func121 rfl rfl]
  simp [PSt, ht, hv, v0, we, hkid, hW, hkk, wn, hq, rX, rS, bl, Pn.cells, Ex.cellsL, intsL, Pn.cellsL, Pn.cells_eq K]
theorem root_nojoin5 {l : List UInt8} (hl : l.length ≤ 2000) {ws : List Int} {k : Nat} {d j c2 : Nat} {p u t v W kk p1 u1 : Int} {j1 : Nat} {K : Pn} (hd : d < 100) (h1 : p1 + 400 + c2 < 300000000) (hp1 : 0 ≤ p1) (hu0 : 0 ≤ u1) (hu1 : u1 ≤ 1) (hW0 : 0 ≤ W) (hW6 : W ≤ 6) (hK : K.thin)
    (ht : callA C0 68 [.own 0 0, .int k] [Rd l p] = some (.int t, [Rd l (p + 1)])) (hv : callA C0 68 [.own 0 0, .int 6] [Rd l (p + 1)] = some (.int v, [Rd l (p + 1 + 1)])) (v0 : ¬ v = 0)
    (hkid : callA CP 121 [.own 0 0, .int d] (PSt l ws k j u (p + 1 + 1)) = some (.i (.agg K.cells), PSt l ws k j1 u1 p1))
    (hW : callA CP 59 [.i (.agg K.cells), .osl 0 1 0 k, .int 8] [some (.arr 1 (intsL ws))] = some (.int W, [some (.arr 1 (intsL ws))]))
    (hkk : callA C0 68 [.own 0 0, .int 10] [Rd l p1] = some (.int kk, [Rd l (p1 + 1)])) (hj : j1 = 0) (hq : kk = 5) : ∃ (P : Pn) (p' u' : Int) (j' : Nat), bodyA CQ true 121 [.own 0 0, .int ((d + 1 : Nat) : Int)] (PSt l ws k j u p) = some (rX 3 P, PSt l ws k j' u' p' ++ rS P) ∧ P.thin ∧ p1 ≤ p' ∧ p' ≤ p1 + 400 + c2 ∧ j' ≤ j1 ∧ 0 ≤ u' ∧ u' ≤ 1 ∧ P.exprs.length ≤ 2 ∧ P.cols.length ≤ 1 := by
  have we : IntKind.i64.wrap (d : Int) = d := wrap64 (by omega) (by omega)
  have wn : ¬ ((d : Int) + 1 = 0) := by omega
  simp only [PSt] at hkid
  rw [Pn.cells_eq K] at hkid hW
  obtain ⟨e, p2, he, a1, a2, a3⟩ := randomCondition_eq l hl W (p1 + 1) (by omega) (by omega)
  have hf := filterOf_own e K
  rw [Pn.cells_eq K, Ex.cells_eq e] at hf
  rw [Ex.cells_eq e] at he
  refine ⟨filtP e K, p2, u1, j1, ?_, filtP_thin (by omega) hK, by omega, by omega, by omega, by omega, by omega, by simp [filtP, Pn.scan], by simp [filtP, Pn.scan]⟩
  rw [bodyA_eq Tryz.func121 rfl rfl]
  simp [PSt, ht, hv, v0, we, hkid, hW, hkk, wn, hq, rX, rS, bl, he, hf, filtP, Ex.cellsL, intsL, Pn.cellsL, Pn.cells_eq K, Ex.cells_eq e, hj]
theorem root_wide5 {l : List UInt8} (hl : l.length ≤ 2000) {ws : List Int} {k : Nat} {d j c2 : Nat} {p u t v W kk p1 u1 : Int} {j1 : Nat} {K : Pn} (hd : d < 100) (h1 : p1 + 400 + c2 < 300000000) (hp1 : 0 ≤ p1) (hu0 : 0 ≤ u1) (hu1 : u1 ≤ 1) (hW0 : 0 ≤ W) (hW6 : W ≤ 6) (hK : K.thin)
    (ht : callA C0 68 [.own 0 0, .int k] [Rd l p] = some (.int t, [Rd l (p + 1)])) (hv : callA C0 68 [.own 0 0, .int 6] [Rd l (p + 1)] = some (.int v, [Rd l (p + 1 + 1)])) (v0 : ¬ v = 0)
    (hkid : callA CP 121 [.own 0 0, .int d] (PSt l ws k j u (p + 1 + 1)) = some (.i (.agg K.cells), PSt l ws k j1 u1 p1))
    (hW : callA CP 59 [.i (.agg K.cells), .osl 0 1 0 k, .int 8] [some (.arr 1 (intsL ws))] = some (.int W, [some (.arr 1 (intsL ws))]))
    (hkk : callA C0 68 [.own 0 0, .int 10] [Rd l p1] = some (.int kk, [Rd l (p1 + 1)])) (hj : j1 ≠ 0) (hw4 : ¬ W ≤ 4) (hq : kk = 5) : ∃ (P : Pn) (p' u' : Int) (j' : Nat), bodyA CQ true 121 [.own 0 0, .int ((d + 1 : Nat) : Int)] (PSt l ws k j u p) = some (rX 3 P, PSt l ws k j' u' p' ++ rS P) ∧ P.thin ∧ p1 ≤ p' ∧ p' ≤ p1 + 400 + c2 ∧ j' ≤ j1 ∧ 0 ≤ u' ∧ u' ≤ 1 ∧ P.exprs.length ≤ 2 ∧ P.cols.length ≤ 1 := by
  have we : IntKind.i64.wrap (d : Int) = d := wrap64 (by omega) (by omega)
  have wn : ¬ ((d : Int) + 1 = 0) := by omega
  simp only [PSt] at hkid
  rw [Pn.cells_eq K] at hkid hW
  have hj' : 0 < j1 := by omega
  obtain ⟨e, p2, he, a1, a2, a3⟩ := randomCondition_eq l hl W (p1 + 1) (by omega) (by omega)
  have hf := filterOf_own e K
  rw [Pn.cells_eq K, Ex.cells_eq e] at hf
  rw [Ex.cells_eq e] at he
  refine ⟨filtP e K, p2, u1, j1, ?_, filtP_thin (by omega) hK, by omega, by omega, by omega, by omega, by omega, by simp [filtP, Pn.scan], by simp [filtP, Pn.scan]⟩
  rw [bodyA_eq Tryz.func121 rfl rfl]
  simp [PSt, ht, hv, v0, we, hkid, hW, hkk, wn, hq, rX, rS, bl, he, hf, filtP, Ex.cellsL, intsL, Pn.cellsL, Pn.cells_eq K, Ex.cells_eq e, hj', hj, hw4]
theorem root_nojoin6 {l : List UInt8} (hl : l.length ≤ 2000) {ws : List Int} {k : Nat} {d j c2 : Nat} {p u t v W kk p1 u1 : Int} {j1 : Nat} {K : Pn} (hd : d < 100) (h1 : p1 + 400 + c2 < 300000000) (hp1 : 0 ≤ p1) (hu0 : 0 ≤ u1) (hu1 : u1 ≤ 1) (hW0 : 0 ≤ W) (hW6 : W ≤ 6) (hK : K.thin)
    (ht : callA C0 68 [.own 0 0, .int k] [Rd l p] = some (.int t, [Rd l (p + 1)])) (hv : callA C0 68 [.own 0 0, .int 6] [Rd l (p + 1)] = some (.int v, [Rd l (p + 1 + 1)])) (v0 : ¬ v = 0)
    (hkid : callA CP 121 [.own 0 0, .int d] (PSt l ws k j u (p + 1 + 1)) = some (.i (.agg K.cells), PSt l ws k j1 u1 p1))
    (hW : callA CP 59 [.i (.agg K.cells), .osl 0 1 0 k, .int 8] [some (.arr 1 (intsL ws))] = some (.int W, [some (.arr 1 (intsL ws))]))
    (hkk : callA C0 68 [.own 0 0, .int 10] [Rd l p1] = some (.int kk, [Rd l (p1 + 1)])) (hj : j1 = 0) (hq : kk = 6) : ∃ (P : Pn) (p' u' : Int) (j' : Nat), bodyA CQ true 121 [.own 0 0, .int ((d + 1 : Nat) : Int)] (PSt l ws k j u p) = some (rX 3 P, PSt l ws k j' u' p' ++ rS P) ∧ P.thin ∧ p1 ≤ p' ∧ p' ≤ p1 + 400 + c2 ∧ j' ≤ j1 ∧ 0 ≤ u' ∧ u' ≤ 1 ∧ P.exprs.length ≤ 2 ∧ P.cols.length ≤ 1 := by
  have we : IntKind.i64.wrap (d : Int) = d := wrap64 (by omega) (by omega)
  have wn : ¬ ((d : Int) + 1 = 0) := by omega
  simp only [PSt] at hkid
  rw [Pn.cells_eq K] at hkid hW
  obtain ⟨e, p2, he, a1, a2, a3⟩ := randomCondition_eq l hl W (p1 + 1) (by omega) (by omega)
  have hf := filterOf_own e K
  rw [Pn.cells_eq K, Ex.cells_eq e] at hf
  rw [Ex.cells_eq e] at he
  refine ⟨filtP e K, p2, u1, j1, ?_, filtP_thin (by omega) hK, by omega, by omega, by omega, by omega, by omega, by simp [filtP, Pn.scan], by simp [filtP, Pn.scan]⟩
  rw [bodyA_eq Tryz.func121 rfl rfl]
  simp [PSt, ht, hv, v0, we, hkid, hW, hkk, wn, hq, rX, rS, bl, he, hf, filtP, Ex.cellsL, intsL, Pn.cellsL, Pn.cells_eq K, Ex.cells_eq e, hj]
theorem root_wide6 {l : List UInt8} (hl : l.length ≤ 2000) {ws : List Int} {k : Nat} {d j c2 : Nat} {p u t v W kk p1 u1 : Int} {j1 : Nat} {K : Pn} (hd : d < 100) (h1 : p1 + 400 + c2 < 300000000) (hp1 : 0 ≤ p1) (hu0 : 0 ≤ u1) (hu1 : u1 ≤ 1) (hW0 : 0 ≤ W) (hW6 : W ≤ 6) (hK : K.thin)
    (ht : callA C0 68 [.own 0 0, .int k] [Rd l p] = some (.int t, [Rd l (p + 1)])) (hv : callA C0 68 [.own 0 0, .int 6] [Rd l (p + 1)] = some (.int v, [Rd l (p + 1 + 1)])) (v0 : ¬ v = 0)
    (hkid : callA CP 121 [.own 0 0, .int d] (PSt l ws k j u (p + 1 + 1)) = some (.i (.agg K.cells), PSt l ws k j1 u1 p1))
    (hW : callA CP 59 [.i (.agg K.cells), .osl 0 1 0 k, .int 8] [some (.arr 1 (intsL ws))] = some (.int W, [some (.arr 1 (intsL ws))]))
    (hkk : callA C0 68 [.own 0 0, .int 10] [Rd l p1] = some (.int kk, [Rd l (p1 + 1)])) (hj : j1 ≠ 0) (hw4 : ¬ W ≤ 4) (hq : kk = 6) : ∃ (P : Pn) (p' u' : Int) (j' : Nat), bodyA CQ true 121 [.own 0 0, .int ((d + 1 : Nat) : Int)] (PSt l ws k j u p) = some (rX 3 P, PSt l ws k j' u' p' ++ rS P) ∧ P.thin ∧ p1 ≤ p' ∧ p' ≤ p1 + 400 + c2 ∧ j' ≤ j1 ∧ 0 ≤ u' ∧ u' ≤ 1 ∧ P.exprs.length ≤ 2 ∧ P.cols.length ≤ 1 := by
  have we : IntKind.i64.wrap (d : Int) = d := wrap64 (by omega) (by omega)
  have wn : ¬ ((d : Int) + 1 = 0) := by omega
  simp only [PSt] at hkid
  rw [Pn.cells_eq K] at hkid hW
  have hj' : 0 < j1 := by omega
  obtain ⟨e, p2, he, a1, a2, a3⟩ := randomCondition_eq l hl W (p1 + 1) (by omega) (by omega)
  have hf := filterOf_own e K
  rw [Pn.cells_eq K, Ex.cells_eq e] at hf
  rw [Ex.cells_eq e] at he
  refine ⟨filtP e K, p2, u1, j1, ?_, filtP_thin (by omega) hK, by omega, by omega, by omega, by omega, by omega, by simp [filtP, Pn.scan], by simp [filtP, Pn.scan]⟩
  rw [bodyA_eq Tryz.func121 rfl rfl]
  simp [PSt, ht, hv, v0, we, hkid, hW, hkk, wn, hq, rX, rS, bl, he, hf, filtP, Ex.cellsL, intsL, Pn.cellsL, Pn.cells_eq K, Ex.cells_eq e, hj', hj, hw4]
theorem root_nounion {l : List UInt8} (hl : l.length ≤ 2000) {ws : List Int} {k : Nat} {d j c2 : Nat} {p u t v W kk p1 u1 : Int} {j1 : Nat} {K : Pn} (hd : d < 100) (h1 : p1 + 400 + c2 < 300000000) (hp1 : 0 ≤ p1) (hu0 : 0 ≤ u1) (hu1 : u1 ≤ 1) (hW0 : 0 ≤ W) (hW6 : W ≤ 6) (hK : K.thin)
    (ht : callA C0 68 [.own 0 0, .int k] [Rd l p] = some (.int t, [Rd l (p + 1)])) (hv : callA C0 68 [.own 0 0, .int 6] [Rd l (p + 1)] = some (.int v, [Rd l (p + 1 + 1)])) (v0 : ¬ v = 0)
    (hkid : callA CP 121 [.own 0 0, .int d] (PSt l ws k j u (p + 1 + 1)) = some (.i (.agg K.cells), PSt l ws k j1 u1 p1))
    (hW : callA CP 59 [.i (.agg K.cells), .osl 0 1 0 k, .int 8] [some (.arr 1 (intsL ws))] = some (.int W, [some (.arr 1 (intsL ws))]))
    (hkk : callA C0 68 [.own 0 0, .int 10] [Rd l p1] = some (.int kk, [Rd l (p1 + 1)])) (hu : ¬ 0 < u1) (hq : kk = 7) : ∃ (P : Pn) (p' u' : Int) (j' : Nat), bodyA CQ true 121 [.own 0 0, .int ((d + 1 : Nat) : Int)] (PSt l ws k j u p) = some (rX 3 P, PSt l ws k j' u' p' ++ rS P) ∧ P.thin ∧ p1 ≤ p' ∧ p' ≤ p1 + 400 + c2 ∧ j' ≤ j1 ∧ 0 ≤ u' ∧ u' ≤ 1 ∧ P.exprs.length ≤ 2 ∧ P.cols.length ≤ 1 := by
  have we : IntKind.i64.wrap (d : Int) = d := wrap64 (by omega) (by omega)
  have wn : ¬ ((d : Int) + 1 = 0) := by omega
  simp only [PSt] at hkid
  rw [Pn.cells_eq K] at hkid hW
  obtain ⟨e, p2, he, a1, a2, a3⟩ := randomCondition_eq l hl W (p1 + 1) (by omega) (by omega)
  have hf := filterOf_own e K
  rw [Pn.cells_eq K, Ex.cells_eq e] at hf
  rw [Ex.cells_eq e] at he
  refine ⟨filtP e K, p2, u1, j1, ?_, filtP_thin (by omega) hK, by omega, by omega, by omega, by omega, by omega, by simp [filtP, Pn.scan], by simp [filtP, Pn.scan]⟩
  rw [bodyA_eq Tryz.func121 rfl rfl]
  simp [PSt, ht, hv, v0, we, hkid, hW, hkk, wn, hq, rX, rS, bl, he, hf, filtP, Ex.cellsL, intsL, Pn.cellsL, Pn.cells_eq K, Ex.cells_eq e, hu]
theorem root_union {l : List UInt8} (hl : l.length ≤ 2000) {ws : List Int} {k : Nat} {d j c2 : Nat} {p u t v W kk p1 u1 : Int} {j1 : Nat} {K : Pn} (hd : d < 100) (h1 : p1 + 400 + c2 < 300000000) (hp1 : 0 ≤ p1) (hu0 : 0 ≤ u1) (hu1 : u1 ≤ 1) (hW0 : 0 ≤ W) (hW6 : W ≤ 6) (hK : K.thin)
    (ht : callA C0 68 [.own 0 0, .int k] [Rd l p] = some (.int t, [Rd l (p + 1)])) (hv : callA C0 68 [.own 0 0, .int 6] [Rd l (p + 1)] = some (.int v, [Rd l (p + 1 + 1)])) (v0 : ¬ v = 0)
    (hkid : callA CP 121 [.own 0 0, .int d] (PSt l ws k j u (p + 1 + 1)) = some (.i (.agg K.cells), PSt l ws k j1 u1 p1))
    (hW : callA CP 59 [.i (.agg K.cells), .osl 0 1 0 k, .int 8] [some (.arr 1 (intsL ws))] = some (.int W, [some (.arr 1 (intsL ws))]))
    (hkk : callA C0 68 [.own 0 0, .int 10] [Rd l p1] = some (.int kk, [Rd l (p1 + 1)])) (hu : 0 < u1) (hq : kk = 7) : ∃ (P : Pn) (p' u' : Int) (j' : Nat), bodyA CQ true 121 [.own 0 0, .int ((d + 1 : Nat) : Int)] (PSt l ws k j u p) = some (rX 3 P, PSt l ws k j' u' p' ++ rS P) ∧ P.thin ∧ p1 ≤ p' ∧ p' ≤ p1 + 400 + c2 ∧ j' ≤ j1 ∧ 0 ≤ u' ∧ u' ≤ 1 ∧ P.exprs.length ≤ 2 ∧ P.cols.length ≤ 1 := by
  have we : IntKind.i64.wrap (d : Int) = d := wrap64 (by omega) (by omega)
  have wn : ¬ ((d : Int) + 1 = 0) := by omega
  simp only [PSt] at hkid
  rw [Pn.cells_eq K] at hkid hW
  obtain ⟨e, p2, he, a1, a2, a3⟩ := randomCondition_eq l hl W (p1 + 1) (by omega) (by omega)
  have hf := filterOf_own e K
  have hc := cp_copyPlan K hK
  have wu : IntKind.i64.wrap (u1 - 1) = u1 - 1 := wrap64 (by omega) (by omega)
  rw [Pn.cells_eq K, Ex.cells_eq e] at hf
  rw [Pn.cells_eq K] at hc
  rw [Ex.cells_eq e] at he
  refine ⟨.mk 6 0 [] [] [K, filtP e K], p2, u1 - 1, j1, ?_, by have := filtP_thin (e := e) (by omega) hK; simp [Pn.thin, Pn.thinL, hK, this], by omega, by omega, by omega, by omega, by omega, by simp [filtP, Pn.scan], by simp [filtP, Pn.scan]⟩
  rw [bodyA_eq Tryz.func121 rfl rfl]
  simp [PSt, ht, hv, v0, we, hkid, hW, hkk, wn, hq, rX, rS, bl, he, hf, filtP, Ex.cellsL, intsL, Pn.cellsL, Pn.cells_eq K, Ex.cells_eq e, hu, hc, wu, Pn.cells_mk, Ex.cellsL, intsL, Pn.cellsL]
theorem root_group1 {l : List UInt8} (hl : l.length ≤ 2000) {ws : List Int} {k : Nat} {d j c2 : Nat} {p u t v W kk p1 u1 : Int} {j1 : Nat} {K : Pn} (hd : d < 100) (h1 : p1 + 400 + c2 < 300000000) (hp1 : 0 ≤ p1) (hu0 : 0 ≤ u1) (hu1 : u1 ≤ 1) (hW0 : 0 ≤ W) (hW6 : W ≤ 6) (hK : K.thin)
    (ht : callA C0 68 [.own 0 0, .int k] [Rd l p] = some (.int t, [Rd l (p + 1)])) (hv : callA C0 68 [.own 0 0, .int 6] [Rd l (p + 1)] = some (.int v, [Rd l (p + 1 + 1)])) (v0 : ¬ v = 0)
    (hkid : callA CP 121 [.own 0 0, .int d] (PSt l ws k j u (p + 1 + 1)) = some (.i (.agg K.cells), PSt l ws k j1 u1 p1))
    (hW : callA CP 59 [.i (.agg K.cells), .osl 0 1 0 k, .int 8] [some (.arr 1 (intsL ws))] = some (.int W, [some (.arr 1 (intsL ws))]))
    (hkk : callA C0 68 [.own 0 0, .int 10] [Rd l p1] = some (.int kk, [Rd l (p1 + 1)])) (hw1 : ¬ 1 < W) (hq : kk = 9) : ∃ (P : Pn) (p' u' : Int) (j' : Nat), bodyA CQ true 121 [.own 0 0, .int ((d + 1 : Nat) : Int)] (PSt l ws k j u p) = some (rX 3 P, PSt l ws k j' u' p' ++ rS P) ∧ P.thin ∧ p1 ≤ p' ∧ p' ≤ p1 + 400 + c2 ∧ j' ≤ j1 ∧ 0 ≤ u' ∧ u' ≤ 1 ∧ P.exprs.length ≤ 2 ∧ P.cols.length ≤ 1 := by
  have we : IntKind.i64.wrap (d : Int) = d := wrap64 (by omega) (by omega)
  have wn : ¬ ((d : Int) + 1 = 0) := by omega
  simp only [PSt] at hkid
  rw [Pn.cells_eq K] at hkid hW
  refine ⟨.mk 8 0 [] [] [K], p1 + 1, u1, j1, ?_, by simp [Pn.thin, Pn.thinL, hK], by omega, by omega, by omega, by omega, by omega, by simp [filtP, Pn.scan], by simp [filtP, Pn.scan]⟩
  rw [bodyA_eq Tryz.func121 rfl rfl]
  simp [PSt, ht, hv, v0, we, hkid, hW, hkk, wn, hq, rX, rS, bl, hw1, Pn.cells_mk, Ex.cellsL, intsL, Pn.cellsL, Pn.cells_eq K]
theorem root_group2 {l : List UInt8} (hl : l.length ≤ 2000) {ws : List Int} {k : Nat} {d j c2 : Nat} {p u t v W kk p1 u1 : Int} {j1 : Nat} {K : Pn} (hd : d < 100) (h1 : p1 + 400 + c2 < 300000000) (hp1 : 0 ≤ p1) (hu0 : 0 ≤ u1) (hu1 : u1 ≤ 1) (hW0 : 0 ≤ W) (hW6 : W ≤ 6) (hK : K.thin)
    (ht : callA C0 68 [.own 0 0, .int k] [Rd l p] = some (.int t, [Rd l (p + 1)])) (hv : callA C0 68 [.own 0 0, .int 6] [Rd l (p + 1)] = some (.int v, [Rd l (p + 1 + 1)])) (v0 : ¬ v = 0)
    (hkid : callA CP 121 [.own 0 0, .int d] (PSt l ws k j u (p + 1 + 1)) = some (.i (.agg K.cells), PSt l ws k j1 u1 p1))
    (hW : callA CP 59 [.i (.agg K.cells), .osl 0 1 0 k, .int 8] [some (.arr 1 (intsL ws))] = some (.int W, [some (.arr 1 (intsL ws))]))
    (hkk : callA C0 68 [.own 0 0, .int 10] [Rd l p1] = some (.int kk, [Rd l (p1 + 1)])) (hw1 : 1 < W) (hq : kk = 9) : ∃ (P : Pn) (p' u' : Int) (j' : Nat), bodyA CQ true 121 [.own 0 0, .int ((d + 1 : Nat) : Int)] (PSt l ws k j u p) = some (rX 3 P, PSt l ws k j' u' p' ++ rS P) ∧ P.thin ∧ p1 ≤ p' ∧ p' ≤ p1 + 400 + c2 ∧ j' ≤ j1 ∧ 0 ≤ u' ∧ u' ≤ 1 ∧ P.exprs.length ≤ 2 ∧ P.cols.length ≤ 1 := by
  have we : IntKind.i64.wrap (d : Int) = d := wrap64 (by omega) (by omega)
  have wn : ¬ ((d : Int) + 1 = 0) := by omega
  simp only [PSt] at hkid
  rw [Pn.cells_eq K] at hkid hW
  obtain ⟨g, hg, -, -⟩ := pick_eq l (p1 + 1) W (by omega) (by omega) hl
  refine ⟨.mk 8 0 [] [g] [K], p1 + 1 + 1, u1, j1, ?_, by simp [Pn.thin, Pn.thinL, hK], by omega, by omega, by omega, by omega, by omega, by simp [filtP, Pn.scan], by simp [filtP, Pn.scan]⟩
  rw [bodyA_eq Tryz.func121 rfl rfl]
  simp [PSt, ht, hv, v0, we, hkid, hW, hkk, wn, hq, rX, rS, bl, hg, hw1, Pn.cells_mk, Ex.cellsL, intsL, Pn.cellsL, Pn.cells_eq K]
theorem root_join5 {l : List UInt8} (hl : l.length ≤ 2000) {ws : List Int} (hw : ∀ w ∈ ws, 0 ≤ w ∧ w ≤ 6) (hwl : ws.length < 1000000) {k : Nat} (hk0 : 0 < k) (hkl : k ≤ ws.length) {d j c2 : Nat} {p u t v W kk p1 u1 : Int} {j1 : Nat} {K : Pn} (hd : d < 100) (h1 : p1 + 400 + c2 < 300000000) (hp1 : 0 ≤ p1) (hu0 : 0 ≤ u1) (hu1 : u1 ≤ 1) (hW0 : 0 ≤ W) (hW6 : W ≤ 6) (hK : K.thin)
    (ht : callA C0 68 [.own 0 0, .int k] [Rd l p] = some (.int t, [Rd l (p + 1)])) (hv : callA C0 68 [.own 0 0, .int 6] [Rd l (p + 1)] = some (.int v, [Rd l (p + 1 + 1)])) (v0 : ¬ v = 0)
    (hkid : callA CP 121 [.own 0 0, .int d] (PSt l ws k j u (p + 1 + 1)) = some (.i (.agg K.cells), PSt l ws k j1 u1 p1))
    (hW : callA CP 59 [.i (.agg K.cells), .osl 0 1 0 k, .int 8] [some (.arr 1 (intsL ws))] = some (.int W, [some (.arr 1 (intsL ws))]))
    (hkk : callA C0 68 [.own 0 0, .int 10] [Rd l p1] = some (.int kk, [Rd l (p1 + 1)])) (hj : j1 ≠ 0) (hjb : j1 < 1000) (hw4 : W ≤ 4) (hoth : ∀ y : Nat, y ≤ 1 → PlanOk l ws k y (j1 - 1) c2) (hq : kk = 5) : ∃ (P : Pn) (p' u' : Int) (j' : Nat), bodyA CQ true 121 [.own 0 0, .int ((d + 1 : Nat) : Int)] (PSt l ws k j u p) = some (rX 3 P, PSt l ws k j' u' p' ++ rS P) ∧ P.thin ∧ p1 ≤ p' ∧ p' ≤ p1 + 400 + c2 ∧ j' ≤ j1 ∧ 0 ≤ u' ∧ u' ≤ 1 ∧ P.exprs.length ≤ 2 ∧ P.cols.length ≤ 1 := by
  have we : IntKind.i64.wrap (d : Int) = d := wrap64 (by omega) (by omega)
  have wn : ¬ ((d : Int) + 1 = 0) := by omega
  simp only [PSt] at hkid
  rw [Pn.cells_eq K] at hkid hW
  have hj' : 0 < j1 := by omega
  have wj : IntKind.i64.wrap ((j1 : Int) - 1) = ((j1 - 1 : Nat) : Int) := by rw [wrap64 (by omega) (by omega)]; omega
  obtain ⟨x, hx, hx1, -⟩ := pick_eq l (p1 + 1) 2 (by omega) (by omega) hl
  obtain ⟨x0, x1⟩ := hx1 (by omega)
  obtain ⟨y, rfl⟩ : ∃ y : Nat, x = y := ⟨x.toNat, by omega⟩
  obtain ⟨O, p2, u2, j2, hO, hOt, b1, b2, b3, b4, b5⟩ := hoth y (by omega) (p1 + 1 + 1) u1 (by omega) (by omega) hu0 hu1
  have hV := splanWidth_own hw hwl hk0 hkl O hOt
  have hVr := Pn.wd_range (ws := ws.take k) (fun w hm => hw w (List.mem_of_mem_take hm)) O 8
  generalize O.wd (ws.take k) 8 = V at hV hVr
  have wv : IntKind.i64.wrap (W + V) = W + V := wrap64 (by omega) (by omega)
  simp only [PSt] at hO
  rw [Pn.cells_eq O] at hO hV
  by_cases hs : W + V ≤ 6
  · have h1 := one_eq l p2 (by omega) (by omega) hl [[.int 4], [.int 5]] (by simp) (by simp) (by simp)
    obtain ⟨z, hz, hzm⟩ := h1
    obtain ⟨e, p3, he, a1, a2, a3⟩ := randomCondition_eq l hl (W + V) (p2 + 1) (by omega) (by omega)
    rw [Ex.cells_eq e] at he
    simp only [List.length_cons, List.length_nil, Nat.zero_add, Nat.reduceAdd] at hz
    have het := Ex.thin_of_size e (by omega)
    refine ⟨.mk z 0 [e] [] [K, O], p3, u2, j2, ?_, by simp [Pn.thin, Pn.thinL, hK, hOt, het], by omega, by omega, by omega, by omega, by omega, by simp [filtP, Pn.scan], by simp [filtP, Pn.scan]⟩
    rw [bodyA_eq Tryz.func121 rfl rfl]
    simp [PSt, ht, hv, v0, we, hkid, hW, hkk, wn, hq, hj', hj, hw4, wj, hx, hO, hV, wv, hs, hz, he, rX, rS, bl, Pn.cells_mk, Ex.cellsL, intsL, Pn.cellsL, Pn.cells_eq K, Pn.cells_eq O, Ex.cells_eq e]
  · obtain ⟨e, p3, he, a1, a2, a3⟩ := randomCondition_eq l hl W p2 (by omega) (by omega)
    have hf := filterOf_own e K
    rw [Pn.cells_eq K, Ex.cells_eq e] at hf
    rw [Ex.cells_eq e] at he
    refine ⟨filtP e K, p3, u2, j2, ?_, filtP_thin (by omega) hK, by omega, by omega, by omega, by omega, by omega, by simp [filtP, Pn.scan], by simp [filtP, Pn.scan]⟩
    rw [bodyA_eq Tryz.func121 rfl rfl]
    simp [PSt, ht, hv, v0, we, hkid, hW, hkk, wn, hq, hj', hj, hw4, wj, hx, hO, hV, wv, hs, rX, rS, bl, he, hf, filtP, Ex.cellsL, intsL, Pn.cellsL, Pn.cells_eq K, Ex.cells_eq e]
theorem root_join6 {l : List UInt8} (hl : l.length ≤ 2000) {ws : List Int} (hw : ∀ w ∈ ws, 0 ≤ w ∧ w ≤ 6) (hwl : ws.length < 1000000) {k : Nat} (hk0 : 0 < k) (hkl : k ≤ ws.length) {d j c2 : Nat} {p u t v W kk p1 u1 : Int} {j1 : Nat} {K : Pn} (hd : d < 100) (h1 : p1 + 400 + c2 < 300000000) (hp1 : 0 ≤ p1) (hu0 : 0 ≤ u1) (hu1 : u1 ≤ 1) (hW0 : 0 ≤ W) (hW6 : W ≤ 6) (hK : K.thin)
    (ht : callA C0 68 [.own 0 0, .int k] [Rd l p] = some (.int t, [Rd l (p + 1)])) (hv : callA C0 68 [.own 0 0, .int 6] [Rd l (p + 1)] = some (.int v, [Rd l (p + 1 + 1)])) (v0 : ¬ v = 0)
    (hkid : callA CP 121 [.own 0 0, .int d] (PSt l ws k j u (p + 1 + 1)) = some (.i (.agg K.cells), PSt l ws k j1 u1 p1))
    (hW : callA CP 59 [.i (.agg K.cells), .osl 0 1 0 k, .int 8] [some (.arr 1 (intsL ws))] = some (.int W, [some (.arr 1 (intsL ws))]))
    (hkk : callA C0 68 [.own 0 0, .int 10] [Rd l p1] = some (.int kk, [Rd l (p1 + 1)])) (hj : j1 ≠ 0) (hjb : j1 < 1000) (hw4 : W ≤ 4) (hoth : ∀ y : Nat, y ≤ 1 → PlanOk l ws k y (j1 - 1) c2) (hq : kk = 6) : ∃ (P : Pn) (p' u' : Int) (j' : Nat), bodyA CQ true 121 [.own 0 0, .int ((d + 1 : Nat) : Int)] (PSt l ws k j u p) = some (rX 3 P, PSt l ws k j' u' p' ++ rS P) ∧ P.thin ∧ p1 ≤ p' ∧ p' ≤ p1 + 400 + c2 ∧ j' ≤ j1 ∧ 0 ≤ u' ∧ u' ≤ 1 ∧ P.exprs.length ≤ 2 ∧ P.cols.length ≤ 1 := by
  have we : IntKind.i64.wrap (d : Int) = d := wrap64 (by omega) (by omega)
  have wn : ¬ ((d : Int) + 1 = 0) := by omega
  simp only [PSt] at hkid
  rw [Pn.cells_eq K] at hkid hW
  have hj' : 0 < j1 := by omega
  have wj : IntKind.i64.wrap ((j1 : Int) - 1) = ((j1 - 1 : Nat) : Int) := by rw [wrap64 (by omega) (by omega)]; omega
  obtain ⟨x, hx, hx1, -⟩ := pick_eq l (p1 + 1) 2 (by omega) (by omega) hl
  obtain ⟨x0, x1⟩ := hx1 (by omega)
  obtain ⟨y, rfl⟩ : ∃ y : Nat, x = y := ⟨x.toNat, by omega⟩
  obtain ⟨O, p2, u2, j2, hO, hOt, b1, b2, b3, b4, b5⟩ := hoth y (by omega) (p1 + 1 + 1) u1 (by omega) (by omega) hu0 hu1
  have hV := splanWidth_own hw hwl hk0 hkl O hOt
  have hVr := Pn.wd_range (ws := ws.take k) (fun w hm => hw w (List.mem_of_mem_take hm)) O 8
  generalize O.wd (ws.take k) 8 = V at hV hVr
  have wv : IntKind.i64.wrap (W + V) = W + V := wrap64 (by omega) (by omega)
  simp only [PSt] at hO
  rw [Pn.cells_eq O] at hO hV
  by_cases hs : W + V ≤ 6
  · have h1 := one_eq l p2 (by omega) (by omega) hl [[.int 4], [.int 5]] (by simp) (by simp) (by simp)
    obtain ⟨z, hz, hzm⟩ := h1
    obtain ⟨e, p3, he, a1, a2, a3⟩ := randomCondition_eq l hl (W + V) (p2 + 1) (by omega) (by omega)
    rw [Ex.cells_eq e] at he
    simp only [List.length_cons, List.length_nil, Nat.zero_add, Nat.reduceAdd] at hz
    have het := Ex.thin_of_size e (by omega)
    refine ⟨.mk z 0 [e] [] [K, O], p3, u2, j2, ?_, by simp [Pn.thin, Pn.thinL, hK, hOt, het], by omega, by omega, by omega, by omega, by omega, by simp [filtP, Pn.scan], by simp [filtP, Pn.scan]⟩
    rw [bodyA_eq Tryz.func121 rfl rfl]
    simp [PSt, ht, hv, v0, we, hkid, hW, hkk, wn, hq, hj', hj, hw4, wj, hx, hO, hV, wv, hs, hz, he, rX, rS, bl, Pn.cells_mk, Ex.cellsL, intsL, Pn.cellsL, Pn.cells_eq K, Pn.cells_eq O, Ex.cells_eq e]
  · obtain ⟨e, p3, he, a1, a2, a3⟩ := randomCondition_eq l hl W p2 (by omega) (by omega)
    have hf := filterOf_own e K
    rw [Pn.cells_eq K, Ex.cells_eq e] at hf
    rw [Ex.cells_eq e] at he
    refine ⟨filtP e K, p3, u2, j2, ?_, filtP_thin (by omega) hK, by omega, by omega, by omega, by omega, by omega, by simp [filtP, Pn.scan], by simp [filtP, Pn.scan]⟩
    rw [bodyA_eq Tryz.func121 rfl rfl]
    simp [PSt, ht, hv, v0, we, hkid, hW, hkk, wn, hq, hj', hj, hw4, wj, hx, hO, hV, wv, hs, rX, rS, bl, he, hf, filtP, Ex.cellsL, intsL, Pn.cellsL, Pn.cells_eq K, Ex.cells_eq e]
theorem root_proj3 {l : List UInt8} (hl : l.length ≤ 2000) {ws : List Int} {k : Nat} {d j c2 : Nat} {p u t v W kk p1 u1 : Int} {j1 : Nat} {K : Pn} (hd : d < 100) (h1 : p1 + 400 + c2 < 300000000) (hp1 : 0 ≤ p1) (hu0 : 0 ≤ u1) (hu1 : u1 ≤ 1) (hW0 : 0 ≤ W) (hW6 : W ≤ 6) (hK : K.thin)
    (ht : callA C0 68 [.own 0 0, .int k] [Rd l p] = some (.int t, [Rd l (p + 1)])) (hv : callA C0 68 [.own 0 0, .int 6] [Rd l (p + 1)] = some (.int v, [Rd l (p + 1 + 1)])) (v0 : ¬ v = 0)
    (hkid : callA CP 121 [.own 0 0, .int d] (PSt l ws k j u (p + 1 + 1)) = some (.i (.agg K.cells), PSt l ws k j1 u1 p1))
    (hW : callA CP 59 [.i (.agg K.cells), .osl 0 1 0 k, .int 8] [some (.arr 1 (intsL ws))] = some (.int W, [some (.arr 1 (intsL ws))]))
    (hkk : callA C0 68 [.own 0 0, .int 10] [Rd l p1] = some (.int kk, [Rd l (p1 + 1)])) (hq : kk = 3) : ∃ (P : Pn) (p' u' : Int) (j' : Nat), bodyA CQ true 121 [.own 0 0, .int ((d + 1 : Nat) : Int)] (PSt l ws k j u p) = some (rX 3 P, PSt l ws k j' u' p' ++ rS P) ∧ P.thin ∧ p1 ≤ p' ∧ p' ≤ p1 + 400 + c2 ∧ j' ≤ j1 ∧ 0 ≤ u' ∧ u' ≤ 1 ∧ P.exprs.length ≤ 2 ∧ P.cols.length ≤ 1 := by
  have we : IntKind.i64.wrap (d : Int) = d := wrap64 (by omega) (by omega)
  have wn : ¬ ((d : Int) + 1 = 0) := by omega
  simp only [PSt] at hkid
  rw [Pn.cells_eq K] at hkid hW
  obtain ⟨m, hm, hm1, -⟩ := pick_eq l (p1 + 1) 2 (by omega) (by omega) hl
  obtain ⟨m0, m1⟩ := hm1 (by omega)
  have w2 : IntKind.i64.wrap (2 : Int) = 2 := wrap64 (by omega) (by omega)
  have w1 := wrap_1
  have w0 : IntKind.i64.wrap (0 : Int) = 0 := wrap64 (by omega) (by omega)
  obtain ⟨x1, hx1, hy1, -⟩ := pick_eq l (p1 + 1 + 1) 2 (by omega) (by omega) hl
  obtain ⟨x1a, x1b⟩ := hy1 (by omega)
  obtain ⟨y1, rfl⟩ : ∃ y : Nat, x1 = y := ⟨x1.toNat, by omega⟩
  have hc1 : costE y1 ≤ 9 := by rcases (show y1 = 0 ∨ y1 = 1 by omega) with h | h <;> simp [h, costE]
  obtain ⟨e1, q1, he1, c1a, c1b, c1c⟩ := rE l hl W y1 (by omega) (by omega) ((p1 + 1 + 1) + 1) (by omega) (by omega)
  rw [Ex.cells_eq e1] at he1
  have t1 := Ex.thin_of_size e1 (by omega)
  rcases (show m = 0 ∨ m = 1 by omega) with rfl | rfl
  · refine ⟨.mk 3 0 [e1] [] [K], q1, u1, j1, ?_, by simp [Pn.thin, Pn.thinL, hK, t1], by omega, by omega, by omega, by omega, by omega, by simp [filtP, Pn.scan], by simp [filtP, Pn.scan]⟩
    rw [bodyA_eq Tryz.func121 rfl rfl]
    simp [PSt, ht, hv, v0, we, hkid, hW, hkk, wn, hq, hm, w1]
    rw [execA_loop]; simp [hx1, he1, w0]
    rw [execA_loop]; simp [rX, rS, bl, Pn.cells_mk, Ex.cellsL, intsL, Pn.cellsL, Pn.cells_eq K, Ex.cells_eq e1, PSt]
  · obtain ⟨x2, hx2, hy2, -⟩ := pick_eq l q1 2 (by omega) (by omega) hl
    obtain ⟨x2a, x2b⟩ := hy2 (by omega)
    obtain ⟨y2, rfl⟩ : ∃ y : Nat, x2 = y := ⟨x2.toNat, by omega⟩
    have hc2 : costE y2 ≤ 9 := by rcases (show y2 = 0 ∨ y2 = 1 by omega) with h | h <;> simp [h, costE]
    obtain ⟨e2, q2, he2, c2a, c2b, c2c⟩ := rE l hl W y2 (by omega) (by omega) (q1 + 1) (by omega) (by omega)
    rw [Ex.cells_eq e2] at he2
    have t2 := Ex.thin_of_size e2 (by omega)
    refine ⟨.mk 3 0 [e1, e2] [] [K], q2, u1, j1, ?_, by simp [Pn.thin, Pn.thinL, hK, t1, t2], by omega, by omega, by omega, by omega, by omega, by simp [filtP, Pn.scan], by simp [filtP, Pn.scan]⟩
    rw [bodyA_eq Tryz.func121 rfl rfl]
    simp [PSt, ht, hv, v0, we, hkid, hW, hkk, wn, hq, hm, w2]
    rw [execA_loop]; simp [hx1, he1, w1]
    rw [execA_loop]; simp [hx2, he2, w0]
    rw [execA_loop]; simp [rX, rS, bl, Pn.cells_mk, Ex.cellsL, intsL, Pn.cellsL, Pn.cells_eq K, Ex.cells_eq e1, Ex.cells_eq e2, PSt]
theorem root_proj4 {l : List UInt8} (hl : l.length ≤ 2000) {ws : List Int} {k : Nat} {d j c2 : Nat} {p u t v W kk p1 u1 : Int} {j1 : Nat} {K : Pn} (hd : d < 100) (h1 : p1 + 400 + c2 < 300000000) (hp1 : 0 ≤ p1) (hu0 : 0 ≤ u1) (hu1 : u1 ≤ 1) (hW0 : 0 ≤ W) (hW6 : W ≤ 6) (hK : K.thin)
    (ht : callA C0 68 [.own 0 0, .int k] [Rd l p] = some (.int t, [Rd l (p + 1)])) (hv : callA C0 68 [.own 0 0, .int 6] [Rd l (p + 1)] = some (.int v, [Rd l (p + 1 + 1)])) (v0 : ¬ v = 0)
    (hkid : callA CP 121 [.own 0 0, .int d] (PSt l ws k j u (p + 1 + 1)) = some (.i (.agg K.cells), PSt l ws k j1 u1 p1))
    (hW : callA CP 59 [.i (.agg K.cells), .osl 0 1 0 k, .int 8] [some (.arr 1 (intsL ws))] = some (.int W, [some (.arr 1 (intsL ws))]))
    (hkk : callA C0 68 [.own 0 0, .int 10] [Rd l p1] = some (.int kk, [Rd l (p1 + 1)])) (hq : kk = 4) : ∃ (P : Pn) (p' u' : Int) (j' : Nat), bodyA CQ true 121 [.own 0 0, .int ((d + 1 : Nat) : Int)] (PSt l ws k j u p) = some (rX 3 P, PSt l ws k j' u' p' ++ rS P) ∧ P.thin ∧ p1 ≤ p' ∧ p' ≤ p1 + 400 + c2 ∧ j' ≤ j1 ∧ 0 ≤ u' ∧ u' ≤ 1 ∧ P.exprs.length ≤ 2 ∧ P.cols.length ≤ 1 := by
  have we : IntKind.i64.wrap (d : Int) = d := wrap64 (by omega) (by omega)
  have wn : ¬ ((d : Int) + 1 = 0) := by omega
  simp only [PSt] at hkid
  rw [Pn.cells_eq K] at hkid hW
  obtain ⟨m, hm, hm1, -⟩ := pick_eq l (p1 + 1) 2 (by omega) (by omega) hl
  obtain ⟨m0, m1⟩ := hm1 (by omega)
  have w2 : IntKind.i64.wrap (2 : Int) = 2 := wrap64 (by omega) (by omega)
  have w1 := wrap_1
  have w0 : IntKind.i64.wrap (0 : Int) = 0 := wrap64 (by omega) (by omega)
  obtain ⟨x1, hx1, hy1, -⟩ := pick_eq l (p1 + 1 + 1) 2 (by omega) (by omega) hl
  obtain ⟨x1a, x1b⟩ := hy1 (by omega)
  obtain ⟨y1, rfl⟩ : ∃ y : Nat, x1 = y := ⟨x1.toNat, by omega⟩
  have hc1 : costE y1 ≤ 9 := by rcases (show y1 = 0 ∨ y1 = 1 by omega) with h | h <;> simp [h, costE]
  obtain ⟨e1, q1, he1, c1a, c1b, c1c⟩ := rE l hl W y1 (by omega) (by omega) ((p1 + 1 + 1) + 1) (by omega) (by omega)
  rw [Ex.cells_eq e1] at he1
  have t1 := Ex.thin_of_size e1 (by omega)
  rcases (show m = 0 ∨ m = 1 by omega) with rfl | rfl
  · refine ⟨.mk 3 0 [e1] [] [K], q1, u1, j1, ?_, by simp [Pn.thin, Pn.thinL, hK, t1], by omega, by omega, by omega, by omega, by omega, by simp [filtP, Pn.scan], by simp [filtP, Pn.scan]⟩
    rw [bodyA_eq Tryz.func121 rfl rfl]
    simp [PSt, ht, hv, v0, we, hkid, hW, hkk, wn, hq, hm, w1]
    rw [execA_loop]; simp [hx1, he1, w0]
    rw [execA_loop]; simp [rX, rS, bl, Pn.cells_mk, Ex.cellsL, intsL, Pn.cellsL, Pn.cells_eq K, Ex.cells_eq e1, PSt]
  · obtain ⟨x2, hx2, hy2, -⟩ := pick_eq l q1 2 (by omega) (by omega) hl
    obtain ⟨x2a, x2b⟩ := hy2 (by omega)
    obtain ⟨y2, rfl⟩ : ∃ y : Nat, x2 = y := ⟨x2.toNat, by omega⟩
    have hc2 : costE y2 ≤ 9 := by rcases (show y2 = 0 ∨ y2 = 1 by omega) with h | h <;> simp [h, costE]
    obtain ⟨e2, q2, he2, c2a, c2b, c2c⟩ := rE l hl W y2 (by omega) (by omega) (q1 + 1) (by omega) (by omega)
    rw [Ex.cells_eq e2] at he2
    have t2 := Ex.thin_of_size e2 (by omega)
    refine ⟨.mk 3 0 [e1, e2] [] [K], q2, u1, j1, ?_, by simp [Pn.thin, Pn.thinL, hK, t1, t2], by omega, by omega, by omega, by omega, by omega, by simp [filtP, Pn.scan], by simp [filtP, Pn.scan]⟩
    rw [bodyA_eq Tryz.func121 rfl rfl]
    simp [PSt, ht, hv, v0, we, hkid, hW, hkk, wn, hq, hm, w2]
    rw [execA_loop]; simp [hx1, he1, w1]
    rw [execA_loop]; simp [hx2, he2, w0]
    rw [execA_loop]; simp [rX, rS, bl, Pn.cells_mk, Ex.cellsL, intsL, Pn.cellsL, Pn.cells_eq K, Ex.cells_eq e1, Ex.cells_eq e2, PSt]
end Go.Proofs.YteihcffblfdgfaaGreat.P

namespace Go.Proofs.YteihcffblfdgfaaGreat.P
open Go Go.Av
set_option maxRecDepth 4000
set_option maxHeartbeats 8000000
theorem root_step {l : List UInt8} (hl : l.length ≤ 2000) {ws : List Int} (hw : ∀ w ∈ ws, 0 ≤ w ∧ w ≤ 6) (hwl : ws.length < 1000000) {k : Nat} (hk0 : 0 < k) (hkl : k ≤ ws.length) {d j c c2 : Nat} (hd : d < 100) (hjb : j < 1000) (ih : PlanOk l ws k d j c) (hoth : ∀ i : Nat, i < j → ∀ y : Nat, y ≤ 1 → PlanOk l ws k y i c2) : RootOk l ws k (d + 1) j (c + c2 + 500) := by
  intro p u h0 h1 hu0 hu1
  obtain ⟨t, ht, -, -⟩ := pick_eq l p k h0 (by omega) hl
  obtain ⟨v, hv, -, -⟩ := pick_eq l (p + 1) 6 (by omega) (by omega) hl
  by_cases v0 : v = 0
  · subst v0
    exact ⟨.scan t, p + 1 + 1, u, j, root_scan hd ht hv, Pn.scan_thin t, by omega, by omega, by omega, by omega, by omega, by simp [Pn.scan], by simp [Pn.scan]⟩
  obtain ⟨K, p1, u1, j1, hkid, hK, a1, a2, a3, a4, a5⟩ := ih (p + 1 + 1) u (by omega) (by omega) hu0 hu1
  have hW := splanWidth_own hw hwl hk0 hkl K hK
  have hWr := Pn.wd_range (ws := ws.take k) (fun w hm => hw w (List.mem_of_mem_take hm)) K 8
  generalize K.wd (ws.take k) 8 = W at hW hWr
  obtain ⟨kk, hkk, hkk1, -⟩ := pick_eq l p1 10 (by omega) (by omega) hl
  obtain ⟨kk0, kk9⟩ := hkk1 (by omega)
  suffices H : ∃ (P : Pn) (p' u' : Int) (j' : Nat), bodyA CQ true 121 [.own 0 0, .int ((d + 1 : Nat) : Int)] (PSt l ws k j u p) = some (rX 3 P, PSt l ws k j' u' p' ++ rS P) ∧ P.thin ∧ p1 ≤ p' ∧ p' ≤ p1 + 400 + c2 ∧ j' ≤ j1 ∧ 0 ≤ u' ∧ u' ≤ 1 ∧ P.exprs.length ≤ 2 ∧ P.cols.length ≤ 1 by
    obtain ⟨P, p', u', j', b1, b2, b3, b4, b5, b6, b7, b8⟩ := H
    exact ⟨P, p', u', j', b1, b2, by omega, by omega, by omega, b6, b7, b8⟩
  have hb : p1 + 400 + c2 < 300000000 := by omega
  have hp1 : 0 ≤ p1 := by omega
  by_cases q0 : kk = 0
  · exact root_filter0 hl hd hb hp1 a4 a5 hWr.1 hWr.2 hK ht hv v0 hkid hW hkk q0
  by_cases q1 : kk = 1
  · exact root_filter1 hl hd hb hp1 a4 a5 hWr.1 hWr.2 hK ht hv v0 hkid hW hkk q1
  by_cases q2 : kk = 2
  · exact root_filter2 hl hd hb hp1 a4 a5 hWr.1 hWr.2 hK ht hv v0 hkid hW hkk q2
  by_cases q3 : kk = 3
  · exact root_proj3 hl hd hb hp1 a4 a5 hWr.1 hWr.2 hK ht hv v0 hkid hW hkk q3
  by_cases q4 : kk = 4
  · exact root_proj4 hl hd hb hp1 a4 a5 hWr.1 hWr.2 hK ht hv v0 hkid hW hkk q4
  by_cases q5 : kk = 5
  · by_cases hj : j1 = 0
    · exact root_nojoin5 hl hd hb hp1 a4 a5 hWr.1 hWr.2 hK ht hv v0 hkid hW hkk hj q5
    by_cases hw4 : W ≤ 4
    · exact root_join5 hl hw hwl hk0 hkl hd hb hp1 a4 a5 hWr.1 hWr.2 hK ht hv v0 hkid hW hkk hj (by omega) hw4 (fun y hy => hoth (j1 - 1) (by omega) y hy) q5
    · exact root_wide5 hl hd hb hp1 a4 a5 hWr.1 hWr.2 hK ht hv v0 hkid hW hkk hj hw4 q5
  by_cases q6 : kk = 6
  · by_cases hj : j1 = 0
    · exact root_nojoin6 hl hd hb hp1 a4 a5 hWr.1 hWr.2 hK ht hv v0 hkid hW hkk hj q6
    by_cases hw4 : W ≤ 4
    · exact root_join6 hl hw hwl hk0 hkl hd hb hp1 a4 a5 hWr.1 hWr.2 hK ht hv v0 hkid hW hkk hj (by omega) hw4 (fun y hy => hoth (j1 - 1) (by omega) y hy) q6
    · exact root_wide6 hl hd hb hp1 a4 a5 hWr.1 hWr.2 hK ht hv v0 hkid hW hkk hj hw4 q6
  by_cases q7 : kk = 7
  · by_cases hu : 0 < u1
    · exact root_union hl hd hb hp1 a4 a5 hWr.1 hWr.2 hK ht hv v0 hkid hW hkk hu q7
    · exact root_nounion hl hd hb hp1 a4 a5 hWr.1 hWr.2 hK ht hv v0 hkid hW hkk hu q7
  by_cases q8 : kk = 8
  · exact root_distinct hl hd hb hp1 a4 a5 hWr.1 hWr.2 hK ht hv v0 hkid hW hkk q8
  have q9 : kk = 9 := by omega
  by_cases hw1 : 1 < W
  · exact root_group2 hl hd hb hp1 a4 a5 hWr.1 hWr.2 hK ht hv v0 hkid hW hkk hw1 q9
  · exact root_group1 hl hd hb hp1 a4 a5 hWr.1 hWr.2 hK ht hv v0 hkid hW hkk hw1 q9
theorem RootOk.le {l : List UInt8} {ws : List Int} {k : Nat} {d j c c' : Nat} (h : RootOk l ws k d j c) (hc : c ≤ c') : RootOk l ws k d j c' := by
  intro p u h0 h1 hu0 hu1
  obtain ⟨P, p', u', j', b1, b2, b3, b4, b5, b6, b7, b8⟩ := h p u h0 (by omega) hu0 hu1
  exact ⟨P, p', u', j', b1, b2, b3, by omega, b5, b6, b7, b8⟩
theorem root_one {l : List UInt8} (hl : l.length ≤ 2000) {ws : List Int} (hw : ∀ w ∈ ws, 0 ≤ w ∧ w ≤ 6) (hwl : ws.length < 1000000) {k : Nat} (hk0 : 0 < k) (hkl : k ≤ ws.length) (d : Nat) (h : d + 1 < 50) : RootOk l ws k (d + 1) 1 (2000 * (d + 1) + 1) :=
  (root_step hl hw hwl hk0 hkl (c2 := 501) (by omega) (by omega) (plan_one hl hw hwl hk0 hkl d (by omega)) (fun i hi y hy => by
      obtain rfl : i = 0 := by omega
      exact (plan_none hl hw hwl hk0 hkl y (by omega)).le (by omega))).le (by omega)
@[simp] theorem cr_plan (a : List AV) (st : StL) : callA CR 121 a st = bodyA CQ true 121 a st := by rw [callA_prim (p := bodyA CQ true 121) rfl]
@[simp] theorem cr_filterOf (a : List AV) (st : StL) : callA CR 122 a st = bodyA C0 true 122 a st := by rw [callA_prim (p := bodyA C0 true 122) rfl]
@[simp] theorem cr_planWidth (a : List AV) (st : StL) : callA CR 59 a st = lookX (callA C0) 59 a st := by rw [callA_prim (p := lookX (callA C0) 59) rfl]
@[simp] theorem cr_pick (a : List AV) (st : StL) : callA CR 68 a st = callA C0 68 a st := by rw [callA_prim (p := callA C0 68) rfl]
@[simp] theorem cr_one (a : List AV) (st : StL) : callA CR 69 a st = callA C0 69 a st := by rw [callA_prim (p := callA C0 69) rfl]
@[simp] theorem cr_cond (a : List AV) (st : StL) : callA CR 123 a st = callA C0 123 a st := by rw [callA_prim (p := callA C0 123) rfl]
@[simp] theorem cr_anyExpr (a : List AV) (st : StL) : callA CR 102 a st = callA C0 102 a st := by rw [callA_prim (p := callA C0 102) rfl]
@[simp] theorem cr_widths (a : List AV) (st : StL) : callA CR 66 a st = callA C0 66 a st := by rw [callA_prim (p := callA C0 66) rfl]
@[simp] theorem cr_newReader (a : List AV) (st : StL) : callA CR 45 a st = callA C0 45 a st := by rw [callA_prim (p := callA C0 45) rfl]
theorem list_nil {α : Type} (l : List α) : l = [] ∨ (l.length ≠ 0 ∧ l ≠ [] ∧ 0 < l.length) := by cases l <;> simp
theorem randomPlan_root {l : List UInt8} (hl : l.length ≤ 2000) {ws : List Int} (hw : ∀ w ∈ ws, 0 ≤ w ∧ w ≤ 6) (hwl : ws.length < 1000000) (hk0 : 0 < ws.length) (p : Int) (h0 : 0 ≤ p) (h1 : p + 20000 < 200000000) : ∃ (P : Pn) (p' : Int),
    callA CR 101 [.own 0 0, .osl 1 1 0 ws.length] [Rd l p, some (.arr 1 (intsL ws))] = some (rX 2 P, [Rd l p', some (.arr 1 (intsL ws))] ++ rS P) ∧ P.thin ∧ p ≤ p' ∧ p' ≤ p + 20000 ∧ P.exprs.length ≤ 2 ∧ P.cols.length ≤ 1 := by
  obtain ⟨v, hv, hv1, -⟩ := pick_eq l p 4 h0 (by omega) hl
  obtain ⟨v0, v1⟩ := hv1 (by omega)
  obtain ⟨y, rfl⟩ : ∃ y : Nat, v = y := ⟨v.toNat, by omega⟩
  have w1 : IntKind.i64.wrap (1 + (y : Int)) = ((y + 1 : Nat) : Int) := by rw [wrap64 (by omega) (by omega)]; omega
  obtain ⟨P, p1, u', j', hP, hPt, b1, b2, b3, b4, b5, b6, b7⟩ := root_one hl hw hwl hk0 (Nat.le_refl _) y (by omega) (p + 1) 1 (by omega) (by omega) (by omega) (by omega)
  simp only [PSt, Int.natCast_one, Int.natCast_add] at hP
  obtain ⟨z, hz, -, -⟩ := pick_eq l p1 2 (by omega) (by omega) hl
  have te : P.exprs.take P.exprs.length = P.exprs := List.take_of_length_le (by simp)
  have tc : P.cols.take P.cols.length = P.cols := List.take_of_length_le (by simp)
  have tk : P.kids.take P.kids.length = P.kids := List.take_of_length_le (by simp)
  by_cases hz0 : z = 0
  · have hW := splanWidth_eq hw (by omega) P (Pn.thin_lim P hPt) 8 (by omega)
    have twd : ws.take ws.length = ws := List.take_of_length_le (by simp)
    obtain ⟨e, p2, he, a1, a2, a3⟩ := randomCondition_eq l hl (P.wd ws 8) (p1 + 1) (by omega) (by omega)
    have hf := filterOf_own e P
    refine ⟨filtP e P, p2, ?_, filt_step a3 hPt, by omega, by omega, by simp [filtP], by simp [filtP]⟩
    rw [callA_eq rfl Tryz.func101 rfl rfl]
    rw [Pn.cells_eq P, Ex.cells_eq e] at hf
    rw [Ex.cells_eq e] at he
    rw [Pn.cells_eq P] at hW
    rcases list_nil P.exprs with ce | ⟨ce, ce', ce''⟩ <;> rcases list_nil P.cols with cc | ⟨cc, cc', cc''⟩ <;> rcases list_nil P.kids with ck | ⟨ck, ck', ck''⟩ <;>
      (simp [rX, rS, bl, *, gro_pos, groB_pos, Ex.cellsL, intsL, Pn.cellsL] at hP hW hf
       simp [hv, w1, hP, hz, hz0, hW, he, hf, rX, rS, bl, filtP, lookX, viewXs, viewX, viewNs, viewN, viewW, bareC, *, Ex.cellsL, intsL, Pn.cellsL, Pn.cells_eq P, Ex.cells_eq e])
  · refine ⟨P, p1 + 1, ?_, hPt, by omega, by omega, b6, b7⟩
    rw [callA_eq rfl Tryz.func101 rfl rfl]
    rcases list_nil P.exprs with ce | ⟨ce, ce', ce''⟩ <;> rcases list_nil P.cols with cc | ⟨cc, cc', cc''⟩ <;> rcases list_nil P.kids with ck | ⟨ck, ck', ck''⟩ <;>
      (simp [rX, rS, bl, *, gro_pos, groB_pos, Ex.cellsL, intsL, Pn.cellsL] at hP
       simp [hv, w1, hP, hz, hz0, rX, rS, bl, *, gro_pos, groB_pos])
end Go.Proofs.YteihcffblfdgfaaGreat.P

namespace Go.Proofs.YteihcffblfdgfaaGreat.P
open Go Go.Av
set_option maxRecDepth 4000
set_option maxHeartbeats 8000000
theorem randomWidths_rng (l : List UInt8) (hl : l.length ≤ 2000) (p : Int) (h0 : 0 ≤ p) (h1 : p < 900000000) : ∃ (a b : Int) (r : List Int) (p' : Int), callA C0 66 [.own 0 0] [Rd l p] = some (.osl 1 1 0 (r.length + 2), [Rd l p', some (.arr 1 (intsL (a :: b :: r)))]) ∧ p ≤ p' ∧ p' ≤ p + 4 ∧ 1 ≤ a ∧ a ≤ 2 ∧ 1 ≤ b ∧ b ≤ 2 ∧ r.length ≤ 1 ∧ ∀ w ∈ r, 1 ≤ w ∧ w ≤ 2 := by
  obtain ⟨n, hn, hn1, -⟩ := pick_eq l p 2 h0 (by omega) hl
  obtain ⟨a, ha, ha1, -⟩ := pick_eq l (p + 1) 2 (by omega) (by omega) hl
  obtain ⟨b, hb, hb1, -⟩ := pick_eq l (p + 1 + 1) 2 (by omega) (by omega) hl
  have wa : IntKind.i64.wrap (1 + a) = 1 + a := wrap64 (by omega) (by omega)
  have wb : IntKind.i64.wrap (1 + b) = 1 + b := wrap64 (by omega) (by omega)
  have w2 : IntKind.i64.wrap (2 : Int) = 2 := wrap64 (by omega) (by omega)
  have w3 : IntKind.i64.wrap (3 : Int) = 3 := wrap64 (by omega) (by omega)
  have w1 := wrap_1
  have w0 : IntKind.i64.wrap (0 : Int) = 0 := wrap64 (by omega) (by omega)
  obtain ⟨n0, n1⟩ := hn1 (by omega)
  have hn2 : n = 0 ∨ n = 1 := by omega
  rcases hn2 with rfl | rfl
  · refine ⟨1 + a, 1 + b, [], p + 1 + 1 + 1, ?_, by omega, by omega, by omega, by omega, by omega, by omega, by simp, by simp⟩
    rw [callA_eq rfl Tryz.func66 rfl rfl]
    simp [hn, w2]
    rw [execA_loop]; simp [ha, wa, w1]
    rw [execA_loop]; simp [hb, wb, w0]
    rw [execA_loop]; simp [intsL]
  · obtain ⟨c, hc, hc1, -⟩ := pick_eq l (p + 1 + 1 + 1) 2 (by omega) (by omega) hl
    have wc : IntKind.i64.wrap (1 + c) = 1 + c := wrap64 (by omega) (by omega)
    refine ⟨1 + a, 1 + b, [1 + c], p + 1 + 1 + 1 + 1, ?_, by omega, by omega, by omega, by omega, by omega, by omega, by simp, by simp; omega⟩
    rw [callA_eq rfl Tryz.func66 rfl rfl]
    simp [hn, w3]
    rw [execA_loop]; simp [ha, wa, w2]
    rw [execA_loop]; simp [hb, wb, w1]
    rw [execA_loop]; simp [hc, wc, w0]
    rw [execA_loop]; simp [intsL]
theorem Pn.thin_with {P : Pn} (h : P.thin) (k t : Int) : (Pn.mk k t P.exprs P.cols P.kids).thin := by
  rw [Pn.thin_iff] at h ⊢; exact h
theorem Pn.thin_cols {P : Pn} (h : P.thin) (c : List Int) (hc : c.length < 1000000000) : (Pn.mk P.kind P.table P.exprs c P.kids).thin := by
  rw [Pn.thin_iff] at h ⊢; exact ⟨h.1, h.2.1, hc, h.2.2.2⟩
theorem Pn.thin_exprs {P : Pn} (h : P.thin) {e : Ex} (he : e.thin) (hl : P.exprs.length + 1 < 1000000000) : (Pn.mk P.kind P.table (P.exprs ++ [e]) P.cols P.kids).thin := by
  rw [Pn.thin_iff] at h ⊢
  refine ⟨by simpa [Pn.exprs] using hl, fun x hx => ?_, h.2.2⟩
  simp only [Pn.exprs, List.mem_append, List.mem_singleton] at hx
  rcases hx with hx | rfl
  · exact h.2.1 x hx
  · exact he
theorem anyPlan_root {l : List UInt8} (hl : l.length ≤ 2000) {ws : List Int} (hw : ∀ w ∈ ws, 0 ≤ w ∧ w ≤ 6) (hwl : ws.length < 1000000) (hk0 : 0 < ws.length) (p : Int) (h0 : 0 ≤ p) (h1 : p + 30000 < 200000000) : ∃ (P : Pn) (p' : Int),
    callA CR 67 [.own 0 0, .osl 1 1 0 ws.length] [Rd l p, some (.arr 1 (intsL ws))] = some (rX 2 P, [Rd l p', some (.arr 1 (intsL ws))] ++ rS P) ∧ P.thin ∧ p ≤ p' ∧ p' ≤ p + 30000 := by
  obtain ⟨P, p1, hP, hPt, b1, b2, b6, b7⟩ := randomPlan_root hl hw hwl hk0 p h0 (by omega)
  obtain ⟨k, hk, -, -⟩ := pick_eq l p1 18 (by omega) (by omega) hl
  have te : P.exprs.take P.exprs.length = P.exprs := List.take_of_length_le (by simp)
  have tc : P.cols.take P.cols.length = P.cols := List.take_of_length_le (by simp)
  have hthin := (Pn.thin_iff P).1 hPt
  by_cases k0 : k = 0
  · obtain ⟨x, hx, -⟩ := one_eq l (p1 + 1) (by omega) (by omega) hl [[.int 0], [.int 9], [.int 1], [.int 4]] (by simp) (by simp) (by simp)
    simp only [List.length_cons, List.length_nil, Nat.zero_add, Nat.reduceAdd] at hx
    refine ⟨.mk x P.table P.exprs P.cols P.kids, p1 + 1 + 1, ?_, Pn.thin_with hPt _ _, by omega, by omega⟩
    rw [callA_eq rfl Tryz.func67 rfl rfl]
    rcases list_nil P.exprs with ce | ⟨ce, ce', ce''⟩ <;> rcases list_nil P.cols with cc | ⟨cc, cc', cc''⟩ <;> rcases list_nil P.kids with ck | ⟨ck, ck', ck''⟩ <;>
      (simp [rX, rS, bl, ce, cc, ck, gro_pos, groB_pos] at hP
       simp [hP, hk, k0, hx, rX, rS, bl, ce, cc, ck, gro_pos, groB_pos])
  by_cases k1 : k = 1
  · obtain ⟨x, hx, -⟩ := one_eq l (p1 + 1) (by omega) (by omega) hl [[.int (-1)], [.int 4], [.int 1]] (by simp) (by simp) (by simp)
    simp only [List.length_cons, List.length_nil, Nat.zero_add, Nat.reduceAdd] at hx
    refine ⟨.mk P.kind x P.exprs P.cols P.kids, p1 + 1 + 1, ?_, Pn.thin_with hPt _ _, by omega, by omega⟩
    rw [callA_eq rfl Tryz.func67 rfl rfl]
    rcases list_nil P.exprs with ce | ⟨ce, ce', ce''⟩ <;> rcases list_nil P.cols with cc | ⟨cc, cc', cc''⟩ <;> rcases list_nil P.kids with ck | ⟨ck, ck', ck''⟩ <;>
      (simp [rX, rS, bl, ce, cc, ck, gro_pos, groB_pos] at hP
       simp [hP, hk, k0, k1, hx, rX, rS, bl, ce, cc, ck, gro_pos, groB_pos])
  by_cases k2 : k = 2
  · obtain ⟨x, hx, -⟩ := one_eq l (p1 + 1) (by omega) (by omega) hl [[.int 0], [.int 9]] (by simp) (by simp) (by simp)
    simp only [List.length_cons, List.length_nil, Nat.zero_add, Nat.reduceAdd] at hx
    refine ⟨.mk P.kind P.table P.exprs (P.cols ++ [x]) P.kids, p1 + 1 + 1, ?_, Pn.thin_cols hPt _ (by simp; omega), by omega, by omega⟩
    have hl1 : (P.cols.length + 1) * 8 ≤ 140737488355328 := by omega
    rw [callA_eq rfl Tryz.func67 rfl rfl]
    rcases list_nil P.exprs with ce | ⟨ce, ce', ce''⟩ <;> rcases list_nil P.cols with cc | ⟨cc, cc', cc''⟩ <;> rcases list_nil P.kids with ck | ⟨ck, ck', ck''⟩ <;>
      (simp [rX, rS, bl, ce, cc, ck, gro_pos, groB_pos] at hP
       simp [hP, hk, k0, k1, k2, hx, rX, rS, bl, ce, cc, ck, gro_pos, groB_pos, intsL, intsL_append, hl1, tc])
  by_cases k3 : k = 3
  · obtain ⟨e, p2, he, a1, a2, a3⟩ := anyExpr_eq l hl 2 (p1 + 1) (by omega) (by omega)
    refine ⟨.mk P.kind P.table (P.exprs ++ [e]) P.cols P.kids, p2, ?_, Pn.thin_exprs hPt (Ex.thin_of_size _ (by omega)) (by omega), by omega, by omega⟩
    have hl1 : (P.exprs.length + 1) * 56 ≤ 140737488355328 := by omega
    rw [callA_eq rfl Tryz.func67 rfl rfl]
    rw [Ex.cells_eq e] at he
    rcases list_nil P.exprs with ce | ⟨ce, ce', ce''⟩ <;> rcases list_nil P.cols with cc | ⟨cc, cc', cc''⟩ <;> rcases list_nil P.kids with ck | ⟨ck, ck', ck''⟩ <;>
      (simp [rX, rS, bl, ce, cc, ck, gro_pos, groB_pos] at hP
       simp [hP, hk, k0, k1, k2, k3, he, rX, rS, bl, ce, cc, ck, gro_pos, groB_pos, Ex.cellsL, Ex.cellsL_append, hl1, te, Ex.cells_eq e])
  · refine ⟨P, p1 + 1, ?_, hPt, by omega, by omega⟩
    rw [callA_eq rfl Tryz.func67 rfl rfl]
    rcases list_nil P.exprs with ce | ⟨ce, ce', ce''⟩ <;> rcases list_nil P.cols with cc | ⟨cc, cc', cc''⟩ <;> rcases list_nil P.kids with ck | ⟨ck, ck', ck''⟩ <;>
      (simp [rX, rS, bl, ce, cc, ck, gro_pos, groB_pos] at hP
       simp [hP, hk, k0, k1, k2, k3, rX, rS, bl, ce, cc, ck, gro_pos, groB_pos])
theorem planAndWidths_eq {l : List UInt8} (hl : l.length ≤ 2000) : ∃ (P : Pn) (ws : List Int) (p' : Int), callA CR 44 [.own 0 0] [Rd l 0] = some (.tup [.i (.agg P.cells), .i (.isl (intsL ws))], [Rd l p']) ∧ P.thin ∧ ws.length ≤ 3 ∧ 0 ≤ p' ∧ p' ≤ 40000 := by
  obtain ⟨a, b, r, p1, hr, r1, r2, r3, r4, r5, r6, r7, r8⟩ := randomWidths_rng l hl 0 (by omega) (by omega)
  have hw : ∀ w ∈ a :: b :: r, 0 ≤ w ∧ w ≤ 6 := by
    intro w hm
    simp only [List.mem_cons] at hm
    rcases hm with rfl | rfl | hm
    · omega
    · omega
    · have := r8 w hm; omega
  have hr0 : (0 : Int) < (r.length : Int) + 2 := by omega
  obtain ⟨P, p2, hP, hPt, c1, c2⟩ := anyPlan_root hl (ws := a :: b :: r) hw (by simp; omega) (by simp) p1 (by omega) (by omega)
  obtain ⟨k, hk, -, -⟩ := pick_eq l p2 18 (by omega) (by omega) hl
  have te : P.exprs.take P.exprs.length = P.exprs := List.take_of_length_le (by simp)
  have tc : P.cols.take P.cols.length = P.cols := List.take_of_length_le (by simp)
  have tk : P.kids.take P.kids.length = P.kids := List.take_of_length_le (by simp)
  by_cases k0 : k = 0
  · obtain ⟨x, hx, -⟩ := one_eq l (p2 + 1) (by omega) (by omega) hl [[.int 0], [.int 7], [.int 1]] (by simp) (by simp) (by simp)
    simp only [List.length_cons, List.length_nil, Nat.zero_add, Nat.reduceAdd] at hx
    refine ⟨P, x :: b :: r, p2 + 1 + 1, ?_, hPt, by simp; omega, by omega, by omega⟩
    rw [callA_eq rfl Tryz.func44 rfl rfl]
    rcases list_nil P.exprs with ce | ⟨ce, ce', ce''⟩ <;> rcases list_nil P.cols with cc | ⟨cc, cc', cc''⟩ <;> rcases list_nil P.kids with ck | ⟨ck, ck', ck''⟩ <;>
      (simp [rX, rS, bl, ce, cc, ck, gro_pos, groB_pos, intsL] at hP
       simp [hr, hP, hk, k0, hx, hr0, ce, cc, ck, intsL, te, tc, tk, Pn.cells_eq P, Ex.cellsL, Pn.cellsL])
  · refine ⟨P, a :: b :: r, p2 + 1, ?_, hPt, by simp; omega, by omega, by omega⟩
    rw [callA_eq rfl Tryz.func44 rfl rfl]
    rcases list_nil P.exprs with ce | ⟨ce, ce', ce''⟩ <;> rcases list_nil P.cols with cc | ⟨cc, cc', cc''⟩ <;> rcases list_nil P.kids with ck | ⟨ck, ck', ck''⟩ <;>
      (simp [rX, rS, bl, ce, cc, ck, gro_pos, groB_pos, intsL] at hP
       simp [hr, hP, hk, k0, ce, cc, ck, intsL, te, tc, tk, Pn.cells_eq P, Ex.cellsL, Pn.cellsL])
end Go.Proofs.YteihcffblfdgfaaGreat.P

namespace Go.Av
def insN (l : List Int) (n : Int) : List Int := if l[l.findIdx fun x => !decide (x < n)]? = some n then l else l.take (l.findIdx fun x => !decide (x < n)) ++ n :: l.drop (l.findIdx fun x => !decide (x < n))
mutual
def addC : List Int → Ex → List Int
  | l, .mk k c _ ks => addCL (if k = 1 then insN l c else l) ks
def addCL : List Int → List Ex → List Int
  | l, [] => l
  | l, e :: es => addCL (addC l e) es
end
theorem addC_eq (l : List Int) (e : Ex) : addC l e = addCL (if e.kind = 1 then insN l e.col else l) e.kids := by
  cases e; simp only [addC, Ex.kind, Ex.col, Ex.kids]; congr
theorem addCL_snoc : ∀ (ks : List Ex) (l : List Int) (e : Ex), addCL l (ks ++ [e]) = addC (addCL l ks) e
  | [], l, e => by simp [addCL]
  | a :: ks, l, e => by simp [addCL, addCL_snoc ks]
theorem insN_mem {l : List Int} {n x : Int} : x ∈ insN l n ↔ x ∈ l ∨ x = n := by
  unfold insN
  split
  · rename_i h
    constructor
    · exact .inl
    · rintro (h1 | rfl)
      · exact h1
      · exact List.mem_of_getElem? h
  · have e : l.take (l.findIdx fun x => !decide (x < n)) ++ l.drop (l.findIdx fun x => !decide (x < n)) = l := List.take_append_drop _ _
    generalize l.findIdx (fun x => !decide (x < n)) = k at *
    constructor
    · intro h
      rcases List.mem_append.1 h with h | h
      · exact .inl (List.mem_of_mem_take h)
      · rcases List.mem_cons.1 h with h | h
        · exact .inr h
        · exact .inl (List.mem_of_mem_drop h)
    · rintro (h | rfl)
      · rw [← e] at h
        rcases List.mem_append.1 h with h | h
        · exact List.mem_append.2 (.inl h)
        · exact List.mem_append.2 (.inr (List.mem_cons.2 (.inr h)))
      · exact List.mem_append.2 (.inr (List.mem_cons.2 (.inl rfl)))
def Asc (l : List Int) : Prop := l.Pairwise (· < ·)
theorem insN_asc {l : List Int} {n : Int} (h : Asc l) : Asc (insN l n) := by
  unfold insN
  split
  · exact h
  · rename_i hne
    have e : l.take (l.findIdx fun x => !decide (x < n)) ++ l.drop (l.findIdx fun x => !decide (x < n)) = l := List.take_append_drop _ _
    have hlt : ∀ x ∈ l.take (l.findIdx fun x => !decide (x < n)), x < n := by
      intro x hx
      obtain ⟨i, hi⟩ := List.mem_iff_getElem?.1 hx
      rw [List.getElem?_take] at hi
      split at hi
      · rename_i hk
        have := List.not_of_lt_findIdx hk
        rw [List.getElem?_eq_getElem (by have := List.findIdx_le_length (xs := l) (p := fun x => !decide (x < n)); omega)] at hi
        injection hi with hi
        rw [hi] at this
        simpa using this
      · cases hi
    have hge : ∀ x ∈ l.drop (l.findIdx fun x => !decide (x < n)), n < x := by
      intro x hx
      rcases Nat.lt_or_ge (l.findIdx fun x => !decide (x < n)) l.length with hk | hk
      · have h1 := List.findIdx_getElem (w := hk)
        have hd := List.drop_eq_getElem_cons hk
        have hn : l[l.findIdx fun x => !decide (x < n)] ≠ n := fun e => hne (by rw [List.getElem?_eq_getElem hk, e])
        rw [hd] at hx
        have hs : Asc (l.drop (l.findIdx fun x => !decide (x < n))) := List.Pairwise.sublist (List.drop_sublist _ _) h
        rw [hd] at hs
        have hs := List.pairwise_cons.1 hs
        simp at h1
        rcases List.mem_cons.1 hx with rfl | hx
        · omega
        · have := hs.1 x hx; omega
      · rw [List.drop_eq_nil_of_le hk] at hx; cases hx
    generalize l.findIdx (fun x => !decide (x < n)) = k at *
    rw [← e] at h
    unfold Asc at *
    rw [List.pairwise_append] at h ⊢
    refine ⟨h.1, List.pairwise_cons.2 ⟨hge, h.2.1⟩, ?_⟩
    intro a ha b hb
    rcases List.mem_cons.1 hb with rfl | hb
    · exact hlt a ha
    · exact h.2.2 a ha b hb
theorem addC_asc : ∀ (e : Ex) (l : List Int), Asc l → Asc (addC l e) := by
  intro e
  induction e using Ex.ind with
  | h k c v ks ih =>
    intro l hl
    rw [addC_eq]
    have : ∀ (xs : List Ex) (l : List Int), (∀ e ∈ xs, ∀ l, Asc l → Asc (addC l e)) → Asc l → Asc (addCL l xs) := by
      intro xs
      induction xs with
      | nil => intro l _ h; simpa [addCL] using h
      | cons a xs ihx => intro l h1 h2; exact ihx _ (fun e he => h1 e (by simp [he])) (h1 a (by simp) l h2)
    refine this _ _ (fun e he => ih e (by simpa [Ex.kids] using he)) ?_
    split
    · exact insN_asc hl
    · exact hl
theorem addC_all {m : Int} (P : Int → Bool) : ∀ (e : Ex) (l : List Int), e.wf m = true → ((∀ x ∈ addC l e, P x = true) ↔ (∀ x ∈ l, P x = true) ∧ e.allC P = true) := by
  intro e
  induction e using Ex.ind with
  | h k c v ks ih =>
    intro l hw
    rw [addC_eq, Ex.allC_eq]
    have : ∀ (xs : List Ex) (l : List Int), (∀ e ∈ xs, e ∈ ks) → ((∀ x ∈ addCL l xs, P x = true) ↔ (∀ x ∈ l, P x = true) ∧ xs.all (Ex.allC P) = true) := by
      intro xs
      induction xs with
      | nil => intro l _; simp [addCL]
      | cons a xs ihx =>
        intro l h1
        have ha := h1 a (by simp)
        simp only [addCL, List.all_cons, Bool.and_eq_true]
        rw [ihx _ fun e he => h1 e (by simp [he]), ih a ha l (Ex.wf_kids hw (by simpa [Ex.kids] using ha))]
        exact and_assoc
    simp only [Ex.kind, Ex.col, Ex.kids]
    rw [this ks _ fun e he => he]
    by_cases h1 : k = 1
    · have hk := (Ex.wf_col hw (by simpa [Ex.kind] using h1)).2.2
      simp only [Ex.kids] at hk
      subst hk
      simp only [h1, if_true, insN_mem]
      simp
      constructor
      · intro h; exact ⟨fun x hx => h x (.inl hx), h c (.inr rfl)⟩
      · rintro ⟨h2, h3⟩ x (hx | rfl)
        · exact h2 x hx
        · exact h3
    · simp only [h1, if_false]
theorem asc_range {l : List Int} (h : Asc l) (lo hi : Int) : (∀ x ∈ l, lo ≤ x ∧ x ≤ hi) ↔ (l = [] ∨ (∃ a, l[0]? = some a ∧ lo ≤ a) ∧ (∃ b, l[l.length - 1]? = some b ∧ b ≤ hi)) := by
  constructor
  · intro hall
    cases hl : l with
    | nil => exact .inl rfl
    | cons a r =>
      right
      rw [← hl]
      have h0 : l[0]? = some a := by rw [hl]; rfl
      have hk : l.length - 1 < l.length := by rw [hl]; simp
      exact ⟨⟨a, h0, (hall a (List.mem_of_getElem? h0)).1⟩, ⟨l[l.length - 1], List.getElem?_eq_getElem hk, (hall _ (List.getElem_mem hk)).2⟩⟩
  · rintro (rfl | ⟨⟨a, h0, h1⟩, b, h2, h3⟩) x hx
    · cases hx
    · obtain ⟨i, hi⟩ := List.mem_iff_getElem?.1 hx
      have hil := (List.getElem?_eq_some_iff.1 hi)
      have h0l := (List.getElem?_eq_some_iff.1 h0)
      have h2l := (List.getElem?_eq_some_iff.1 h2)
      obtain ⟨p1, rfl⟩ := hil
      obtain ⟨p2, rfl⟩ := h0l
      obtain ⟨p3, rfl⟩ := h2l
      have hp := List.pairwise_iff_getElem.1 h
      constructor
      · by_cases hz : i = 0
        · subst hz; exact h1
        · have := hp 0 i p2 p1 (by omega); omega
      · by_cases hz : i = l.length - 1
        · subst hz; exact h3
        · have := hp i (l.length - 1) p1 p3 (by omega); omega
end Go.Av

namespace Go.Proofs.YteihcffblfdgfaaGreat.P
open Go Go.Av
set_option maxRecDepth 4000
set_option maxHeartbeats 2000000
theorem mod_nat {a : Nat} (ha : a < 64) : a % 2 ^ IntKind.i64.bits = a := by
  show a % 18446744073709551616 = a
  exact Nat.mod_eq_of_lt (by omega)
theorem mod_int {a : Nat} (ha : a < 64) : (a : Int) % 2 ^ IntKind.i64.bits = a := by
  show (a : Int) % 18446744073709551616 = a
  omega
theorem or_small {a b : Nat} (ha : a < 64) (hb : b < 64) : IntKind.i64.wrap ((a ||| b : Nat) : Int) = ((a ||| b : Nat) : Int) := by
  have h3 : a ||| b < 2 ^ 6 := Nat.or_lt_two_pow (by omega) (by omega)
  exact wrap64 (by omega) (by omega)
theorem wrap_nat {a : Nat} (ha : a < 64) : IntKind.i64.wrap (a : Int) = a := wrap64 (by omega) (by omega)
def KBX (e : Ex) (i : Nat) : AS :=
  { env := [(0, .i (.iref [.int e.kind, .int e.col, .bool e.val.null, .int e.val.n, .isl (Ex.cellsL e.kids)])), (2, .int 0), (3, .int (Ex.bitsL (e.kids.take i) : Nat)), (4, jk i (.int (i - 1))), (9, .bool false), (19, .int e.kids.length), (20, .int i), (21, jk i (.bool true))], st := [] }
theorem columns_eq : ∀ e : Ex, e.size < 1000000000 → e.allC (fun c => decide (0 ≤ c ∧ c < 6)) = true → callA C0 106 [.i (.iref e.cells)] [] = some (.int (e.bits : Nat), []) := by
  intro e
  induction e using Ex.ind with
  | h k c v ks ih =>
    intro hs ha
    generalize he : Ex.mk k c v ks = e at *
    have hk1 : k = e.kind := by rw [← he]; rfl
    have hks : ks = e.kids := by rw [← he]; rfl
    subst hks
    have hsz := Ex.size_eq e
    have hln := Ex.sizeL_length e.kids
    rw [callA_eq rfl Tryz.func106 rfl rfl, Ex.cells_eq]
    rw [Ex.allC_eq] at ha
    by_cases h1 : e.kind = 1
    · simp only [h1, if_true] at ha
      have ha := of_decide_eq_true ha
      rw [Ex.bits_col h1]
      have hc : e.col = 0 ∨ e.col = 1 ∨ e.col = 2 ∨ e.col = 3 ∨ e.col = 4 ∨ e.col = 5 := by omega
      rcases hc with hc | hc | hc | hc | hc | hc <;> (simp [h1, hc]; decide)
    · simp only [h1, if_false, List.all_eq_true] at ha
      rw [Ex.bits_not h1]
      simp [h1]
      rw [loop_to (KBX e) e.kids.length (by simp [KBX, Ex.bitsL, h1])]
      · rw [execA_loop]
        simp [KBX]
      · intro i hi
        have h3 := List.getElem?_eq_getElem hi
        have hm := List.mem_of_getElem? h3
        have r2 := Ex.cellsL_nth h3
        have htk := take_snoc h3
        generalize e.kids[i] = a at h3 hm r2 htk
        have hk := ih a hm (by have := Ex.sizeL_mem hm; omega) (ha a hm)
        have w2 : IntKind.i64.wrap ((i : Int) + 1) = i + 1 := wrap64 (by omega) (by omega)
        have hb : a.bits < 2 ^ 6 := Ex.bits_lt a (ha a hm)
        have hbl : Ex.bitsL (e.kids.take i) < 2 ^ 6 := Ex.bitsL_lt fun x hx => Ex.bits_lt x (ha x (List.mem_of_mem_take hx))
        have hor := or_small (a := Ex.bitsL (e.kids.take i)) (b := a.bits) (by omega) (by omega)
        rw [Ex.cells_eq a] at r2 hk
        by_cases h0 : i = 0
        · subst h0; simp [KBX, hi, r2, hk, wrap_1, htk, Ex.bitsL_snoc, Ex.bitsL, mod_int (show a.bits < 64 by omega), wrap_nat (show a.bits < 64 by omega)]
        · simp [KBX, jk_pos h0, hi, r2, hk, w2, htk, Ex.bitsL_snoc, hor, mod_nat (show a.bits < 64 by omega), mod_nat (show Ex.bitsL (e.kids.take i) < 64 by omega)]
def ANX (l : List Int) (n : Int) (i : Nat) : AS :=
  { env := [(0, .i (.isl (intsL l))), (1, .int n), (4, .nils), (5, .int i), (6, .junk), (18, jk i (.bool true)), (32, .junk)], st := [] }
theorem addNumber_eq (l : List Int) (n : Int) (hl : l.length < 1000000) : callA C0 151 [.i (.isl (intsL l)), .int n] [] = some (.i (.isl (intsL (insN l n))), []) := by
  rw [callA_eq rfl Tryz.func151 rfl rfl]
  have hlt : ∀ i, i < l.findIdx (fun x => !decide (x < n)) → ∃ x, l[i]? = some x ∧ x < n := by
    intro i hi
    have hle := List.findIdx_le_length (xs := l) (p := fun x => !decide (x < n))
    have := List.not_of_lt_findIdx hi
    exact ⟨l[i]'(by omega), List.getElem?_eq_getElem (by omega), by simpa using this⟩
  have hat : ∀ x, l[l.findIdx fun x => !decide (x < n)]? = some x → ¬ x < n := by
    intro x hx
    obtain ⟨h1, rfl⟩ := List.getElem?_eq_some_iff.1 hx
    have := List.findIdx_getElem (w := h1)
    simpa using this
  have hle := List.findIdx_le_length (xs := l) (p := fun x => !decide (x < n))
  unfold insN
  generalize l.findIdx (fun x => !decide (x < n)) = j at *
  simp
  rw [loop_to (ANX l n) j (by simp [ANX])]
  · rw [execA_loop]
    cases hj : l[j]? with
    | none =>
      have hjl : j = l.length := by have := List.getElem?_eq_none_iff.1 hj; omega
      subst hjl
      have hb : ((l.length : Int) + 1) * 8 ≤ 140737488355328 := by omega
      have hb1 : (l.length + 1) * 8 ≤ 140737488355328 := by omega
      have hb2 : l.length * 8 ≤ 140737488355328 := by omega
      have ht : List.take (l.length + 1) (intsL l ++ [[IV.lit (Value.int IntKind.i64 n)]]) = intsL l ++ [[IV.lit (Value.int IntKind.i64 n)]] := List.take_of_length_le (by simp)
      simp [ANX, hb1, hb2, intsL_append, intsL, ht]
    | some x =>
      have hx := hat x hj
      have hjl := (List.getElem?_eq_some_iff.1 hj).1
      have r2 := intsL_nth hj
      by_cases hxn : x = n
      · subst hxn
        simp [ANX, hjl, r2]
      · have hb1 : (j + 1) * 8 ≤ 140737488355328 := by omega
        have hb2 : j * 8 ≤ 140737488355328 := by omega
        have hb3 : (j + 1 + (l.length - j)) * 8 ≤ 140737488355328 := by omega
        have t1 : (l.take j).length = j := by simp; omega
        have t2 : (intsL (l.take j) ++ [[IV.lit (Value.int IntKind.i64 n)]]).take (j + 1) = intsL (l.take j) ++ [[IV.lit (Value.int IntKind.i64 n)]] := List.take_of_length_le (by simp; omega)
        have t3 : (l.drop j).take (l.length - j) = l.drop j := List.take_of_length_le (by simp)
        have t4 : (intsL (l.take j) ++ [[IV.lit (Value.int IntKind.i64 n)]] ++ intsL (l.drop j)).take (j + 1 + (l.length - j)) = intsL (l.take j) ++ [[IV.lit (Value.int IntKind.i64 n)]] ++ intsL (l.drop j) := List.take_of_length_le (by simp; omega)
        have t5 : (l.take j).take j = l.take j := List.take_of_length_le (by omega)
        simp [ANX, hjl, hle, r2, hx, hxn, hb1, hb2, hb3, intsL_append, intsL]
        rw [t5, t2, t3, t4]
        simp
  · intro i hi
    obtain ⟨x, h3, hx⟩ := hlt i hi
    have r2 := intsL_nth h3
    have hil := (List.getElem?_eq_some_iff.1 h3).1
    have w2 : IntKind.i64.wrap ((i : Int) + 1) = i + 1 := wrap64 (by omega) (by omega)
    simp [ANX, hil, r2, hx, w2]
end Go.Proofs.YteihcffblfdgfaaGreat.P

namespace Go.Av
theorem Ex.wf_mono {w w' : Int} (h : w ≤ w') : ∀ e : Ex, e.wf w = true → e.wf w' = true := by
  intro e
  induction e using Ex.ind with
  | h k c v ks ih =>
    intro hw
    rw [Ex.wf_eq] at hw ⊢
    simp only [Bool.and_eq_true] at hw ⊢
    refine ⟨hw.1, ?_, ?_⟩
    · have h2 := hw.2.1
      unfold Ex.headOk at h2 ⊢
      split at h2
      · rename_i h1
        rw [if_pos h1]
        simp only [Bool.and_eq_true, decide_eq_true_eq] at h2 ⊢
        exact ⟨h2.1, by omega, h2.2.2⟩
      · rename_i h1
        rw [if_neg h1]
        exact h2
    · rw [List.all_eq_true] at *
      exact fun x hx => ih x hx (hw.2.2 x hx)
theorem Ex.ok_wf {w : Int} {e : Ex} (h : e.ok w = true) : e.wf w = true ∧ 1 ≤ w ∧ w ≤ 6 := by
  unfold Ex.ok okWidth at h
  rw [Ex.vB_eq] at h
  simp only [Bool.and_eq_true, decide_eq_true_eq] at h
  exact ⟨h.2.1, h.1.1, h.1.2⟩
theorem Ex.ok_wf6 {w : Int} {e : Ex} (h : e.ok w = true) : e.wf 6 = true := Ex.wf_mono (Ex.ok_wf h).2.2 e (Ex.ok_wf h).1
theorem Ex.wf6_cols {e : Ex} (h : e.wf 6 = true) : e.allC (fun c => decide (0 ≤ c ∧ c < 6)) = true := Ex.wf_allC e h
theorem Ex.wf_cols0 {w : Int} {e : Ex} (h : e.wf w = true) : e.allC (fun c => decide (0 ≤ c)) = true := Ex.allC_mono (fun c hc => by simp only [decide_eq_true_eq] at hc ⊢; exact hc.1) e (Ex.wf_allC e h)
theorem Ex.allC_and {f g : Int → Bool} : ∀ e : Ex, e.allC f = true → e.allC g = true → e.allC (fun c => f c && g c) = true := by
  intro e
  induction e using Ex.ind with
  | h k c v ks ih =>
    intro h1 h2
    rw [Ex.allC_eq] at *
    by_cases hk : k = 1
    · subst hk; simp only [Ex.kind, Ex.col, if_true] at h1 h2 ⊢; simp [h1, h2]
    · simp only [Ex.kind, Ex.kids, hk, if_false, List.all_eq_true] at h1 h2 ⊢
      exact fun x hx => ih x hx (h1 x hx) (h2 x hx)
theorem cin_list {e : Ex} {m : Int} (h : e.wf m = true) (lo hi : Int) : (addC [] e = [] ∨ (∃ a, (addC [] e)[0]? = some a ∧ lo ≤ a) ∧ (∃ b, (addC [] e)[(addC [] e).length - 1]? = some b ∧ b ≤ hi - 1)) ↔ e.cin lo hi = true := by
  rw [← asc_range (addC_asc e [] List.Pairwise.nil)]
  have := addC_all (fun x => decide (lo ≤ x ∧ x < hi)) e [] h
  unfold Ex.cin
  constructor
  · intro h1
    exact (this.1 fun x hx => by have := h1 x hx; simp only [decide_eq_true_eq]; omega).2
  · intro h1 x hx
    have := this.2 ⟨by simp, h1⟩ x hx
    simp only [decide_eq_true_eq] at this
    omega
theorem addC_size : ∀ (e : Ex) (l : List Int), (addC l e).length ≤ l.length + e.size := by
  intro e
  induction e using Ex.ind with
  | h k c v ks ih =>
    intro l
    have hm : addC l (.mk k c v ks) = addCL (if k = 1 then insN l c else l) ks := by simp [addC]
    have hz : (Ex.mk k c v ks).size = 1 + Ex.sizeL ks := by simp [Ex.size]
    rw [hm, hz]
    have : ∀ (xs : List Ex) (l : List Int), (∀ x ∈ xs, x ∈ ks) → (addCL l xs).length ≤ l.length + Ex.sizeL xs := by
      intro xs
      induction xs with
      | nil => intro l _; simp [addCL]
      | cons a xs ihx =>
        intro l h
        have h1 := ihx (addC l a) fun x hx => h x (by simp [hx])
        have h2 := ih a (h a (by simp)) l
        simp only [addCL, Ex.sizeL]
        omega
    have h2 : (insN l c).length ≤ l.length + 1 := by
      unfold insN
      split
      · omega
      · simp only [List.length_append, List.length_take, List.length_cons, List.length_drop]; omega
    by_cases h1 : k = 1
    · rw [if_pos h1]
      have := this ks (insN l c) fun x hx => hx
      omega
    · rw [if_neg h1]
      have := this ks l fun x hx => hx
      omega
def okS (a : Int) : Prop := 1 ≤ a ∧ a ≤ 7
theorem cmbS_tab : ∀ a b : Fin 8, a.val ≠ 0 → b.val ≠ 0 → (1 ≤ cmbS 8 a.val b.val ∧ cmbS 8 a.val b.val ≤ 7) ∧ (1 ≤ cmbS 9 a.val b.val ∧ cmbS 9 a.val b.val ≤ 7) ∧ (1 ≤ cmbS 3 a.val b.val ∧ cmbS 3 a.val b.val ≤ 7) ∧ (1 ≤ cmbS 6 a.val b.val ∧ cmbS 6 a.val b.val ≤ 7) := by decide
theorem cmbS_ok {k a b : Int} (ha : okS a) (hb : okS b) : okS (cmbS k a b) := by
  obtain ⟨a, rfl⟩ := Int.eq_ofNat_of_zero_le (show 0 ≤ a by have := ha.1; omega)
  obtain ⟨b, rfl⟩ := Int.eq_ofNat_of_zero_le (show 0 ≤ b by have := hb.1; omega)
  have h := cmbS_tab ⟨a, by have := ha.2; omega⟩ ⟨b, by have := hb.2; omega⟩ (by have := ha.1; simp; omega) (by have := hb.1; simp; omega)
  unfold okS
  by_cases h8 : k = 8
  · subst h8; exact h.1
  · by_cases h9 : k = 9
    · subst h9; exact h.2.1
    · by_cases h6 : k < 6
      · have e : cmbS k a b = cmbS 3 a b := by simp [cmbS, h8, h9, h6]
        rw [e]; exact h.2.2.1
      · have e : cmbS k a b = cmbS 6 a b := by simp [cmbS, h8, h9, h6]
        rw [e]; exact h.2.2.2
theorem notS_tab : ∀ a : Fin 8, a.val ≠ 0 → (1 ≤ notS a.val ∧ notS a.val ≤ 7) ∧ (1 ≤ nulS a.val ∧ nulS a.val ≤ 7) := by decide
theorem stV_ok (v : Val) : okS (stV v) := by
  unfold stV okS
  split
  · omega
  · split <;> omega
theorem outS_eq (st : List Int) (e : Ex) : outS st e = if e.kind = 1 then (st[e.col.toNat]?).getD 0 else if e.kind = 2 then stV e.val else if e.kind = 10 then notS ((e.kids[0]?.map (outS st)).getD 0) else if e.kind = 11 then nulS ((e.kids[0]?.map (outS st)).getD 0) else cmbS e.kind ((e.kids[0]?.map (outS st)).getD 0) ((e.kids[1]?.map (outS st)).getD 0) := by
  cases e
  simp only [outS, outSL_map, Ex.kind, Ex.col, Ex.val, Ex.kids, List.getElem?_map]
  congr
end Go.Av

namespace Go.Proofs.YteihcffblfdgfaaGreat.P
open Go Go.Av
set_option maxRecDepth 4000
set_option maxHeartbeats 4000000
@[simp] theorem wr0 : IntKind.i64.wrap 0 = 0 := by decide
@[simp] theorem wr1 : IntKind.i64.wrap 1 = 1 := by decide
@[simp] theorem wr2 : IntKind.i64.wrap 2 = 2 := by decide
@[simp] theorem wr3 : IntKind.i64.wrap 3 = 3 := by decide
@[simp] theorem wr4 : IntKind.i64.wrap 4 = 4 := by decide
@[simp] theorem wr7 : IntKind.i64.wrap 7 = 7 := by decide
@[simp] theorem p64n : (2 : Nat) ^ IntKind.i64.bits = 18446744073709551616 := rfl
@[simp] theorem p64i : (2 : Int) ^ IntKind.i64.bits = 18446744073709551616 := rfl
def ACX (e : Ex) (l : List Int) (i : Nat) : AS :=
  { env := [(0, .i (.isl (intsL (addCL l (e.kids.take i))))), (1, .i (.agg [.int e.kind, .int e.col, .bool e.val.null, .int e.val.n, .isl (Ex.cellsL e.kids)])), (3, .own 0 0), (4, .nils), (5, .int i), (8, .bool (e.kind == 1)), (17, jk i (.bool true))],
    st := [some (.box [.int e.kind, .int e.col, .bool e.val.null, .int e.val.n, .i (.isl (Ex.cellsL e.kids))])] }
theorem addColumns_eq : ∀ e : Ex, ∀ l : List Int, l.length + e.size < 1000000 → callA C0 144 [.i (.isl (intsL l)), .i (.agg e.cells)] [] = some (.i (.isl (intsL (addC l e))), []) := by
  intro e
  induction e using Ex.ind with
  | h k c v ks ih =>
    intro l hs
    generalize he : Ex.mk k c v ks = e at *
    have hks : ks = e.kids := by rw [← he]; rfl
    subst hks
    have hsz := Ex.size_eq e
    have hln := Ex.sizeL_length e.kids
    have hrd : ∀ l' : List Int, l'.length ≤ l.length + 1 → ∀ i, i < e.kids.length → ∃ a, e.kids[i]? = some a ∧ e.kids.take (i + 1) = e.kids.take i ++ [a] ∧ nthE (Ex.cellsL e.kids) i = some a.cells ∧ callA C0 144 [.i (.isl (intsL (addCL l' (e.kids.take i)))), .i (.agg a.cells)] [] = some (.i (.isl (intsL (addC (addCL l' (e.kids.take i)) a))), []) := by
      intro l' hl' i hi
      have h3 := List.getElem?_eq_getElem hi
      have hm := List.mem_of_getElem? h3
      have htk := take_snoc h3
      refine ⟨e.kids[i], h3, htk, Ex.cellsL_nth h3, ih _ hm _ ?_⟩
      have hadd : ∀ (xs : List Ex) (l : List Int), (addCL l xs).length ≤ l.length + Ex.sizeL xs := by
        intro xs
        induction xs with
        | nil => intro l; simp [addCL]
        | cons a xs ihx => intro l; have h1 := ihx (addC l a); have h2 := addC_size a l; simp only [addCL, Ex.sizeL]; omega
      have h1 := hadd (e.kids.take i) l'
      have hsum : ∀ (xs ys : List Ex), Ex.sizeL (xs ++ ys) = Ex.sizeL xs + Ex.sizeL ys := by
        intro xs
        induction xs with
        | nil => intro ys; simp [Ex.sizeL]
        | cons a xs ihx => intro ys; simp [Ex.sizeL, ihx, Nat.add_assoc]
      have h2 := hsum (e.kids.take (i + 1)) (e.kids.drop (i + 1))
      rw [List.take_append_drop, htk, hsum] at h2
      simp only [Ex.sizeL] at h2
      omega
    rw [callA_eq rfl Tryz.func144 rfl rfl, Ex.cells_eq, addC_eq]
    by_cases h1 : e.kind = 1
    · have hn := addNumber_eq l e.col (by omega)
      have hil : (insN l e.col).length ≤ l.length + 1 := by
        unfold insN
        split
        · omega
        · simp only [List.length_append, List.length_take, List.length_cons, List.length_drop]; omega
      simp [h1, hn]
      rw [loop_to (ACX e (insN l e.col)) e.kids.length (by simp [ACX, addCL, h1])]
      · rw [execA_loop]
        simp [ACX]
      · intro i hi
        obtain ⟨a, h3, htk, r2, hk⟩ := hrd _ hil i hi
        have w2 : IntKind.i64.wrap ((i : Int) + 1) = i + 1 := wrap64 (by omega) (by omega)
        rw [Ex.cells_eq a] at r2 hk
        simp [ACX, hi, r2, hk, w2, htk, addCL_snoc]
    · simp [h1]
      rw [loop_to (ACX e l) e.kids.length (by simp [ACX, addCL, h1])]
      · rw [execA_loop]
        simp [ACX]
      · intro i hi
        obtain ⟨a, h3, htk, r2, hk⟩ := hrd l (by omega) i hi
        have w2 : IntKind.i64.wrap ((i : Int) + 1) = i + 1 := wrap64 (by omega) (by omega)
        rw [Ex.cells_eq a] at r2 hk
        simp [ACX, hi, r2, hk, w2, htk, addCL_snoc]
theorem within_eq (e : Ex) {m : Int} (hw : e.wf m = true) (hs : e.size < 100000) (lo hi : Int) (hh : -100 ≤ hi ∧ hi ≤ 100) : callA C0 132 [.i (.agg e.cells), .int lo, .int (hi - 1)] [] = some (.bool (e.cin lo hi), []) := by
  have ha := addColumns_eq e [] (by simp; omega)
  have hc := cin_list hw lo hi
  have hsz := addC_size e []
  rw [callA_eq rfl Tryz.func132 rfl rfl]
  generalize addC [] e = l at *
  rw [Ex.cells_eq] at *
  simp only [intsL] at ha
  cases hl : l with
  | nil =>
    have : e.cin lo hi = true := hc.1 (.inl hl)
    rw [hl] at ha
    simp [ha, this, intsL]
  | cons a r =>
    have h0 : l[0]? = some a := by rw [hl]; rfl
    have hlen : 0 < l.length := by rw [hl]; simp
    have hk : l.length - 1 < l.length := by omega
    have h2 := List.getElem?_eq_getElem hk
    generalize l[l.length - 1] = b at h2
    have r0 := intsL_nth h0
    have r2 := intsL_nth h2
    have w1 : IntKind.i64.wrap ((l.length : Int) - 1) = ((l.length - 1 : Nat) : Int) := by rw [wrap64 (by simp at hsz; omega) (by simp at hsz; omega)]; omega
    have hne : ¬ l = [] := by rw [hl]; simp
    have hiff : e.cin lo hi = (decide (lo ≤ a) && decide (b ≤ hi - 1)) := by
      rw [Bool.eq_iff_iff, ← hc]
      simp only [Bool.and_eq_true, decide_eq_true_eq]
      constructor
      · rintro (h | ⟨⟨x, hx, h3⟩, y, hy, h4⟩)
        · exact absurd h hne
        · rw [h0] at hx; rw [h2] at hy; injection hx with hx; injection hy with hy; subst hx; subst hy; exact ⟨h3, h4⟩
      · rintro ⟨h3, h4⟩; exact .inr ⟨⟨a, h0, h3⟩, b, h2, h4⟩
    rw [hiff]
    by_cases q : lo ≤ a
    · have q2 : a ≥ lo := q
      simp [ha, hne, r0, r2, w1, hlen, hk, q]
    · simp [ha, hne, r0, hlen, q]
theorem istate_eq (b : Bool) (n : Int) : callA C0 142 [.i (.agg [.bool b, .int n])] [] = some (.int (stV ⟨b, n⟩), []) := by
  rw [callA_eq rfl Tryz.func142 rfl rfl]
  cases b
  · by_cases h : n = 0 <;> simp [stV, h]
  · simp [stV]
theorem sstate_eq (b : Bool) (n : Int) : callA C0 152 [.i (.agg [.bool b, .int n])] [] = some (.int (stV ⟨b, n⟩), []) := by
  rw [callA_eq rfl Tryz.func152 rfl rfl]
  cases b
  · by_cases h : n = 0 <;> simp [stV, h]
  · simp [stV]
theorem valueOf_eq (x : Int) : callA C0 161 [.int x] [] = some (.i (.agg [.bool (decide (x = 4)), .int (if x = 2 then 1 else 0)]), []) := by
  rw [callA_eq rfl Tryz.func161 rfl rfl]
  by_cases h : x = 4
  · subst h; simp
  · by_cases h2 : x = 2
    · subst h2; simp
    · simp [h, h2]
theorem eight {a : Int} (h : 0 ≤ a ∧ a ≤ 7) : a = 0 ∨ a = 1 ∨ a = 2 ∨ a = 3 ∨ a = 4 ∨ a = 5 ∨ a = 6 ∨ a = 7 := by omega
theorem examples_eq {a : Int} (h : 0 ≤ a ∧ a ≤ 7) : callA C0 149 [.int a] [] = some (.i (.isl (valsL (exS a))), []) := by
  rw [callA_eq rfl Tryz.func149 rfl rfl]
  have s0 := istate_eq false 0
  have s1 := istate_eq false 1
  have s2 := istate_eq true 0
  simp only [stV, Bool.false_eq_true, if_false, if_true, Int.reduceEq] at s0 s1 s2
  rcases eight h with rfl | rfl | rfl | rfl | rfl | rfl | rfl | rfl
  all_goals
    simp
    rw [execA_loop]
    simp [s0, s1, s2]
    rw [execA_loop]
    simp [s0, s1, s2]
    rw [execA_loop]
    simp [s0, s1, s2]
    rw [execA_loop]
    simp [exS, hasS, valsL]
end Go.Proofs.YteihcffblfdgfaaGreat.P

namespace Go.Proofs.YteihcffblfdgfaaGreat.P
open Go Go.Av
set_option maxRecDepth 4000
set_option maxHeartbeats 4000000
theorem filt_cells (e : Ex) (k : Pn) : (filt e k).cells = [.int 2, .int 0, .isl [e.cells], .isl [], .isl [k.cells]] := by simp [filt, Pn.cells, Ex.cellsL, intsL, Pn.cellsL]
theorem proj_cells (es : List Ex) (k : Pn) : (proj es k).cells = [.int 3, .int 0, .isl (Ex.cellsL es), .isl [], .isl [k.cells]] := by simp [proj, Pn.cells, intsL, Pn.cellsL]
theorem pair_cells (kd : Int) (e : Ex) (a b : Pn) : (pairP kd e a b).cells = [.int kd, .int 0, .isl [e.cells], .isl [], .isl [a.cells, b.cells]] := by simp [pairP, Pn.cells, Ex.cellsL, intsL, Pn.cellsL]
theorem union_cells (a b : Pn) : (unionP a b).cells = [.int 6, .int 0, .isl [], .isl [], .isl [a.cells, b.cells]] := by simp [unionP, Pn.cells, Ex.cellsL, intsL, Pn.cellsL]
theorem andE_cells (a b : Ex) : (andE a b).cells = [.int 8, .int 0, .bool false, .int 0, .isl [a.cells, b.cells]] := by simp [andE, Ex.cells, Ex.cellsL, Val.zero]
theorem colX_cells (c : Int) : (colX c).cells = [.int 1, .int c, .bool false, .int 0, .isl []] := by simp [colX, Ex.cells, Ex.cellsL, Val.zero]
theorem zero_cells : Pn.zero.cells = [.int 0, .int 0, .isl [], .isl [], .isl []] := by simp [Pn.zero, Pn.cells, Ex.cellsL, intsL, Pn.cellsL]
theorem filterPlan_eq (e : Ex) (k : Pn) : callA C0 104 [.i (.agg e.cells), .i (.agg k.cells)] [] = some (.i (.agg (filt e k).cells), []) := by
  rw [callA_eq rfl Tryz.func104 rfl rfl, filt_cells, Ex.cells_eq, Pn.cells_eq]
  simp
theorem pairPlan_eq (kd : Int) (e : Ex) (a b : Pn) : callA C0 107 [.int kd, .i (.agg e.cells), .i (.agg a.cells), .i (.agg b.cells)] [] = some (.i (.agg (pairP kd e a b).cells), []) := by
  rw [callA_eq rfl Tryz.func107 rfl rfl, pair_cells, Ex.cells_eq, Pn.cells_eq a, Pn.cells_eq b]
  simp
theorem both_eq (a b : Ex) : callA C0 105 [.i (.agg a.cells), .i (.agg b.cells)] [] = some (.i (.agg (andE a b).cells), []) := by
  rw [callA_eq rfl Tryz.func105 rfl rfl, andE_cells, Ex.cells_eq a, Ex.cells_eq b]
  simp
theorem icolumn_eq (c : Int) : callA C0 111 [.int c] [] = some (.i (.agg (colX c).cells), []) := by
  rw [callA_eq rfl Tryz.func111 rfl rfl, colX_cells]
  simp
theorem filterOver_no {p : Pn} {kd : Int} (h : p.kind ≠ 2) : callA C0 103 [.i (.iref p.cells), .int kd] [] = some (.tup [.i (.lit (.pointer none)), .i (.lit (.pointer none)), .bool false], []) := by
  rw [callA_eq rfl Tryz.func103 rfl rfl, Pn.cells_eq]
  simp [h]
theorem filterOver_not {e : Ex} {k : Pn} {kd : Int} (h : k.kind ≠ kd) : callA C0 103 [.i (.iref (filt e k).cells), .int kd] [] = some (.tup [.i (.lit (.pointer none)), .i (.lit (.pointer none)), .bool false], []) := by
  rw [callA_eq rfl Tryz.func103 rfl rfl, filt_cells, Pn.cells_eq k]
  simp [h]
theorem filterOver_yes {e : Ex} {k : Pn} {kd : Int} (h : k.kind = kd) : callA C0 103 [.i (.iref (filt e k).cells), .int kd] [] = some (.tup [.i (.iref e.cells), .i (.iref k.cells), .bool true], []) := by
  rw [callA_eq rfl Tryz.func103 rfl rfl, filt_cells, Pn.cells_eq k, Ex.cells_eq e]
  simp [h]
theorem place_right (c w : Int) (h0 : 0 ≤ c ∧ c ≤ 6) (hw : 0 ≤ w ∧ w ≤ 6) : callA C0 109 [.int c, .own 0 0] [some (.box [.int w])] = some (.int (c - w), [some (.box [.int w])]) := by
  rw [callA_eq rfl Tryz.func109 rfl rfl]
  have w1 : IntKind.i64.wrap (c - w) = c - w := wrap64 (by omega) (by omega)
  simp [w1]
theorem place_swap (c a b : Int) (h0 : 0 ≤ c ∧ c ≤ 12) (ha : 0 ≤ a ∧ a ≤ 6) (hb : 0 ≤ b ∧ b ≤ 6) : callA C0 110 [.int c, .own 0 0, .own 1 0] [some (.box [.int a]), some (.box [.int b])] = some (.int (swapC a b c), [some (.box [.int a]), some (.box [.int b])]) := by
  rw [callA_eq rfl Tryz.func110 rfl rfl]
  have w1 : IntKind.i64.wrap (c - a) = c - a := wrap64 (by omega) (by omega)
  have w2 : IntKind.i64.wrap (c + b) = c + b := wrap64 (by omega) (by omega)
  unfold swapC
  by_cases h : c < a
  · simp [h, w2]
  · simp [h, w1]
end Go.Proofs.YteihcffblfdgfaaGreat.P

namespace Go.Proofs.YteihcffblfdgfaaGreat.P
open Go Go.Av
set_option maxRecDepth 4000
set_option maxHeartbeats 4000000
def zrw : List IV := [.int 0, .int 0, .bool false, .int 0, .isl []]
@[simp] theorem copiedW {e : Ex} (h : e.size < 1000000000) : callA C0 85 [.i (.iref e.cells)] [] = some (.i (.agg e.cells), []) := by
  rw [callA_prim (p := copyE) rfl]; exact copyE_eq h
theorem ren1_colR {e : Ex} {w : Int} (hw : 0 ≤ w ∧ w ≤ 6) (hk : e.kind = 1) (hc : 0 ≤ e.col ∧ e.col < 6) :
    callA C0 127 [.i (.iref e.cells), .own 0 0] [some (.box [.fn (.func 109) [.own 1 0]]), some (.box [.int w])] = some (.i (.agg (colX (e.col - w)).cells), [some (.box [.fn (.func 109) [.own 1 0]]), some (.box [.int w])]) := by
  have hp := place_right e.col w (by omega) hw
  have h2 := icolumn_eq (e.col - w)
  rw [callA_eq rfl Tryz.func127 rfl rfl, Ex.cells_eq e]
  rw [colX_cells] at *
  simp [hk, hp, h2]
theorem ren1_notR {e : Ex} {w : Int} (hk : e.kind ≠ 1) (hs : e.size < 1000000000) :
    callA C0 127 [.i (.iref e.cells), .own 0 0] [some (.box [.fn (.func 109) [.own 1 0]]), some (.box [.int w])] = some (.i (.agg e.cells), [some (.box [.fn (.func 109) [.own 1 0]]), some (.box [.int w])]) := by
  have hc := copiedW hs
  rw [callA_eq rfl Tryz.func127 rfl rfl]
  rw [Ex.cells_eq e] at *
  simp [hk, hc]
def RNR (e : Ex) (w : Int) (f : Ex → Ex) (i : Nat) : AS :=
  { env := [(0, .i (.iref [.int e.kind, .int e.col, .bool e.val.null, .int e.val.n, .isl (Ex.cellsL e.kids)])), (1, .fn (.func 127) [.own 0 0]), (4, .own 2 0), (5, .own 3 0), (6, jk i (.int (i - 1))), (12, .bool ((e.kids.length : Int) == 0)), (39, .int e.kids.length), (40, .int i), (41, jk i (.bool true))],
    st := [some (.box [.fn (.func 109) [.own 1 0]]), some (.box [.int w]), some (.box [.int 0, .int 0, .bool false, .int 0, .nils]), some (.box [.int e.kind, .int e.col, .bool e.val.null, .int e.val.n, .osl 4 5 0 e.kids.length]), some (.arr 5 (Ex.cellsL ((e.kids.map f).take i) ++ List.replicate (e.kids.length - i) zrw))] }
theorem renSR {e : Ex} {w : Int} {f : Ex → Ex} (hk : e.kids ≠ []) (hl : e.kids.length < 1000000000) (ih : ∀ x ∈ e.kids, callA C0 126 [.i (.iref x.cells), .fn (.func 127) [.own 0 0]] [some (.box [.fn (.func 109) [.own 1 0]]), some (.box [.int w])] = some (.i (.agg (f x).cells), [some (.box [.fn (.func 109) [.own 1 0]]), some (.box [.int w])])) :
    callA C0 126 [.i (.iref e.cells), .fn (.func 127) [.own 0 0]] [some (.box [.fn (.func 109) [.own 1 0]]), some (.box [.int w])] = some (.i (.agg (Ex.mk e.kind e.col e.val (e.kids.map f)).cells), [some (.box [.fn (.func 109) [.own 1 0]]), some (.box [.int w])]) := by
  rw [callA_eq rfl Tryz.func126 rfl rfl, Ex.cells_eq]
  have hb : 56 * (e.kids.length : Int) ≤ 281474976710656 := by omega
  simp [hk, hb]
  rw [loop_to (RNR e w f) e.kids.length (by simp [RNR, Ex.cellsL, zrw])]
  · rw [execA_loop]
    have ht : (e.kids.map f).take e.kids.length = e.kids.map f := List.take_of_length_le (by simp)
    simp [RNR, Ex.cells, ht]
  · intro i hi
    have h3 := List.getElem?_eq_getElem hi
    have hm := List.mem_of_getElem? h3
    have hc := ih _ hm
    have r2 := Ex.cellsL_nth h3
    generalize e.kids[i] = x at h3 hc r2
    have w2 : IntKind.i64.wrap ((i : Int) + 1) = i + 1 := wrap64 (by omega) (by omega)
    rw [Ex.cells_eq] at hc r2
    have hD : (Ex.cellsL ((e.kids.map f).take i)).length = i := by simp; omega
    have hS : Ex.cellsL ((e.kids.map f).take i) ++ [(f x).cells] = Ex.cellsL ((e.kids.map f).take (i + 1)) := by rw [take_snoc (a := f x) (by simp [h3]), Ex.cellsL_snoc]
    have g1 := half_nth (n := e.kids.length) (z := zrw) hD hi
    have g2 := half_set (n := e.kids.length) (z := zrw) (x := (f x).cells) hD hi
    have g3 : splice zrw 0 (f x).cells = some (f x).cells := splice_all (by simp [zrw])
    rw [hS] at g2
    simp [RNR, hi, r2, hc, w2, g1, g2, g3]
theorem renLR {e x : Ex} {w : Int} (hk : e.kids = []) (h : callA C0 127 [.i (.iref e.cells), .own 0 0] [some (.box [.fn (.func 109) [.own 1 0]]), some (.box [.int w])] = some (.i (.agg x.cells), [some (.box [.fn (.func 109) [.own 1 0]]), some (.box [.int w])])) :
    callA C0 126 [.i (.iref e.cells), .fn (.func 127) [.own 0 0]] [some (.box [.fn (.func 109) [.own 1 0]]), some (.box [.int w])] = some (.i (.agg x.cells), [some (.box [.fn (.func 109) [.own 1 0]]), some (.box [.int w])]) := by
  rw [callA_eq rfl Tryz.func126 rfl rfl]
  rw [Ex.cells_eq e] at h ⊢
  rw [Ex.cells_eq x] at h ⊢
  simp [hk, Ex.cellsL] at h ⊢
  simp [h]
theorem replacedR {w : Int} (hw : 0 ≤ w ∧ w ≤ 6) : ∀ (e : Ex), e.wf 6 = true → e.size < 1000000000 → callA C0 126 [.i (.iref e.cells), .fn (.func 127) [.own 0 0]] [some (.box [.fn (.func 109) [.own 1 0]]), some (.box [.int w])] = some (.i (.agg (e.mapC (· - w)).cells), [some (.box [.fn (.func 109) [.own 1 0]]), some (.box [.int w])]) := by
  intro e
  induction e using Ex.ind with
  | h k c v ks ih =>
    intro hx6 hs
    have hsz := Ex.size_eq (.mk k c v ks)
    have hln := Ex.sizeL_length ks
    simp only [Ex.kids] at hsz
    by_cases h1 : k = 1
    · have hc := Ex.wf_col hx6 (by simpa [Ex.kind] using h1)
      rw [Ex.mapC_col _ (by simpa [Ex.kind] using h1)]
      exact renLR hc.2.2 (ren1_colR hw (by simpa [Ex.kind] using h1) ⟨hc.1, hc.2.1⟩)
    · rw [Ex.mapC_not _ (by simpa [Ex.kind] using h1)]
      by_cases hk : ks = []
      · subst hk
        exact renLR rfl (ren1_notR (by simpa [Ex.kind] using h1) hs)
      · exact renSR hk (by simp only [Ex.kids]; omega) fun x hx => ih x hx (Ex.wf_kids hx6 hx) (by have := Ex.sizeL_mem (l := ks) hx; omega)
theorem renumberedR {w : Int} (hw : 0 ≤ w ∧ w ≤ 6) (e : Ex) (hx6 : e.wf 6 = true) (hs : e.size < 1000000000) : callA C0 108 [.i (.iref e.cells), .fn (.func 109) [.own 0 0]] [some (.box [.int w])] = some (.i (.agg (e.mapC (· - w)).cells), [some (.box [.int w])]) := by
  have h := replacedR hw e hx6 hs
  rw [callA_eq rfl Tryz.func108 rfl rfl]
  generalize e.mapC (· - w) = x at *
  rw [Ex.cells_eq e, Ex.cells_eq x] at *
  simp [h]
theorem ren1_colS {e : Ex} {a b : Int} (ha : 0 ≤ a ∧ a ≤ 6) (hb : 0 ≤ b ∧ b ≤ 6) (hk : e.kind = 1) (hc : 0 ≤ e.col ∧ e.col < 6) :
    callA C0 127 [.i (.iref e.cells), .own 0 0] [some (.box [.fn (.func 110) [.own 1 0, .own 2 0]]), some (.box [.int a]), some (.box [.int b])] = some (.i (.agg (colX (swapC a b e.col)).cells), [some (.box [.fn (.func 110) [.own 1 0, .own 2 0]]), some (.box [.int a]), some (.box [.int b])]) := by
  have hp := place_swap e.col a b (by omega) ha hb
  have h2 := icolumn_eq (swapC a b e.col)
  rw [callA_eq rfl Tryz.func127 rfl rfl, Ex.cells_eq e]
  rw [colX_cells] at *
  simp [hk, hp, h2]
theorem ren1_notS {e : Ex} {a b : Int} (hk : e.kind ≠ 1) (hs : e.size < 1000000000) :
    callA C0 127 [.i (.iref e.cells), .own 0 0] [some (.box [.fn (.func 110) [.own 1 0, .own 2 0]]), some (.box [.int a]), some (.box [.int b])] = some (.i (.agg e.cells), [some (.box [.fn (.func 110) [.own 1 0, .own 2 0]]), some (.box [.int a]), some (.box [.int b])]) := by
  have hc := copiedW hs
  rw [callA_eq rfl Tryz.func127 rfl rfl]
  rw [Ex.cells_eq e] at *
  simp [hk, hc]
def RNS (e : Ex) (a b : Int) (f : Ex → Ex) (i : Nat) : AS :=
  { env := [(0, .i (.iref [.int e.kind, .int e.col, .bool e.val.null, .int e.val.n, .isl (Ex.cellsL e.kids)])), (1, .fn (.func 127) [.own 0 0]), (4, .own 3 0), (5, .own 4 0), (6, jk i (.int (i - 1))), (12, .bool ((e.kids.length : Int) == 0)), (39, .int e.kids.length), (40, .int i), (41, jk i (.bool true))],
    st := [some (.box [.fn (.func 110) [.own 1 0, .own 2 0]]), some (.box [.int a]), some (.box [.int b]), some (.box [.int 0, .int 0, .bool false, .int 0, .nils]), some (.box [.int e.kind, .int e.col, .bool e.val.null, .int e.val.n, .osl 5 5 0 e.kids.length]), some (.arr 5 (Ex.cellsL ((e.kids.map f).take i) ++ List.replicate (e.kids.length - i) zrw))] }
theorem renSS {e : Ex} {a b : Int} {f : Ex → Ex} (hk : e.kids ≠ []) (hl : e.kids.length < 1000000000) (ih : ∀ x ∈ e.kids, callA C0 126 [.i (.iref x.cells), .fn (.func 127) [.own 0 0]] [some (.box [.fn (.func 110) [.own 1 0, .own 2 0]]), some (.box [.int a]), some (.box [.int b])] = some (.i (.agg (f x).cells), [some (.box [.fn (.func 110) [.own 1 0, .own 2 0]]), some (.box [.int a]), some (.box [.int b])])) :
    callA C0 126 [.i (.iref e.cells), .fn (.func 127) [.own 0 0]] [some (.box [.fn (.func 110) [.own 1 0, .own 2 0]]), some (.box [.int a]), some (.box [.int b])] = some (.i (.agg (Ex.mk e.kind e.col e.val (e.kids.map f)).cells), [some (.box [.fn (.func 110) [.own 1 0, .own 2 0]]), some (.box [.int a]), some (.box [.int b])]) := by
  rw [callA_eq rfl Tryz.func126 rfl rfl, Ex.cells_eq]
  have hb : 56 * (e.kids.length : Int) ≤ 281474976710656 := by omega
  simp [hk, hb]
  rw [loop_to (RNS e a b f) e.kids.length (by simp [RNS, Ex.cellsL, zrw])]
  · rw [execA_loop]
    have ht : (e.kids.map f).take e.kids.length = e.kids.map f := List.take_of_length_le (by simp)
    simp [RNS, Ex.cells, ht]
  · intro i hi
    have h3 := List.getElem?_eq_getElem hi
    have hm := List.mem_of_getElem? h3
    have hc := ih _ hm
    have r2 := Ex.cellsL_nth h3
    generalize e.kids[i] = x at h3 hc r2
    have w2 : IntKind.i64.wrap ((i : Int) + 1) = i + 1 := wrap64 (by omega) (by omega)
    rw [Ex.cells_eq] at hc r2
    have hD : (Ex.cellsL ((e.kids.map f).take i)).length = i := by simp; omega
    have hS : Ex.cellsL ((e.kids.map f).take i) ++ [(f x).cells] = Ex.cellsL ((e.kids.map f).take (i + 1)) := by rw [take_snoc (a := f x) (by simp [h3]), Ex.cellsL_snoc]
    have g1 := half_nth (n := e.kids.length) (z := zrw) hD hi
    have g2 := half_set (n := e.kids.length) (z := zrw) (x := (f x).cells) hD hi
    have g3 : splice zrw 0 (f x).cells = some (f x).cells := splice_all (by simp [zrw])
    rw [hS] at g2
    simp [RNS, hi, r2, hc, w2, g1, g2, g3]
theorem renLS {e x : Ex} {a b : Int} (hk : e.kids = []) (h : callA C0 127 [.i (.iref e.cells), .own 0 0] [some (.box [.fn (.func 110) [.own 1 0, .own 2 0]]), some (.box [.int a]), some (.box [.int b])] = some (.i (.agg x.cells), [some (.box [.fn (.func 110) [.own 1 0, .own 2 0]]), some (.box [.int a]), some (.box [.int b])])) :
    callA C0 126 [.i (.iref e.cells), .fn (.func 127) [.own 0 0]] [some (.box [.fn (.func 110) [.own 1 0, .own 2 0]]), some (.box [.int a]), some (.box [.int b])] = some (.i (.agg x.cells), [some (.box [.fn (.func 110) [.own 1 0, .own 2 0]]), some (.box [.int a]), some (.box [.int b])]) := by
  rw [callA_eq rfl Tryz.func126 rfl rfl]
  rw [Ex.cells_eq e] at h ⊢
  rw [Ex.cells_eq x] at h ⊢
  simp [hk, Ex.cellsL] at h ⊢
  simp [h]
theorem replacedS {a b : Int} (ha : 0 ≤ a ∧ a ≤ 6) (hb : 0 ≤ b ∧ b ≤ 6) : ∀ (e : Ex), e.wf 6 = true → e.size < 1000000000 → callA C0 126 [.i (.iref e.cells), .fn (.func 127) [.own 0 0]] [some (.box [.fn (.func 110) [.own 1 0, .own 2 0]]), some (.box [.int a]), some (.box [.int b])] = some (.i (.agg (e.mapC (swapC a b)).cells), [some (.box [.fn (.func 110) [.own 1 0, .own 2 0]]), some (.box [.int a]), some (.box [.int b])]) := by
  intro e
  induction e using Ex.ind with
  | h k c v ks ih =>
    intro hx6 hs
    have hsz := Ex.size_eq (.mk k c v ks)
    have hln := Ex.sizeL_length ks
    simp only [Ex.kids] at hsz
    by_cases h1 : k = 1
    · have hc := Ex.wf_col hx6 (by simpa [Ex.kind] using h1)
      rw [Ex.mapC_col _ (by simpa [Ex.kind] using h1)]
      exact renLS hc.2.2 (ren1_colS ha hb (by simpa [Ex.kind] using h1) ⟨hc.1, hc.2.1⟩)
    · rw [Ex.mapC_not _ (by simpa [Ex.kind] using h1)]
      by_cases hk : ks = []
      · subst hk
        exact renLS rfl (ren1_notS (by simpa [Ex.kind] using h1) hs)
      · exact renSS hk (by simp only [Ex.kids]; omega) fun x hx => ih x hx (Ex.wf_kids hx6 hx) (by have := Ex.sizeL_mem (l := ks) hx; omega)
theorem renumberedS {a b : Int} (ha : 0 ≤ a ∧ a ≤ 6) (hb : 0 ≤ b ∧ b ≤ 6) (e : Ex) (hx6 : e.wf 6 = true) (hs : e.size < 1000000000) : callA C0 108 [.i (.iref e.cells), .fn (.func 110) [.own 0 0, .own 1 0]] [some (.box [.int a]), some (.box [.int b])] = some (.i (.agg (e.mapC (swapC a b)).cells), [some (.box [.int a]), some (.box [.int b])]) := by
  have h := replacedS ha hb e hx6 hs
  rw [callA_eq rfl Tryz.func108 rfl rfl]
  generalize e.mapC (swapC a b) = x at *
  rw [Ex.cells_eq e, Ex.cells_eq x] at *
  simp [h]
end Go.Proofs.YteihcffblfdgfaaGreat.P

namespace Go.Av
theorem orS_nat (a b : Nat) : orS a b = ((a ||| b : Nat) : Int) := by simp [orS]
def accI (k : Int) (v : Val) (l : List Val) (s : Int) (j : Nat) : Int := (l.take j).foldl (fun s w => orS s (stV (Val.cmb k v w))) s
def accO (k : Int) (l r : List Val) (i : Nat) : Int := (l.take i).foldl (fun s v => r.foldl (fun s w => orS s (stV (Val.cmb k v w))) s) 0
theorem accI_succ {k : Int} {v w : Val} {l : List Val} {s : Int} {j : Nat} (h : l[j]? = some w) : accI k v l s (j + 1) = orS (accI k v l s j) (stV (Val.cmb k v w)) := by
  unfold accI; rw [take_snoc h, List.foldl_append]; rfl
theorem accO_succ {k : Int} {v : Val} {l r : List Val} {i : Nat} (h : l[i]? = some v) : accO k l r (i + 1) = accI k v r (accO k l r i) r.length := by
  unfold accO accI; rw [take_snoc h, List.foldl_append, List.take_length]; rfl
def lowN (s : Int) : Prop := ∃ n : Nat, s = n ∧ n < 8
theorem stV_low (v : Val) : lowN (stV v) := by
  unfold stV
  split
  · exact ⟨4, rfl, by omega⟩
  · split
    · exact ⟨1, rfl, by omega⟩
    · exact ⟨2, rfl, by omega⟩
theorem orS_low {a b : Int} (ha : lowN a) (hb : lowN b) : lowN (orS a b) := by
  obtain ⟨m, rfl, hm⟩ := ha
  obtain ⟨n, rfl, hn⟩ := hb
  exact ⟨m ||| n, orS_nat m n, Nat.or_lt_two_pow (n := 3) hm hn⟩
theorem accI_low {k : Int} {v : Val} : ∀ (l : List Val) {s : Int} (j : Nat), lowN s → lowN (accI k v l s j)
  | [], s, j, h => by simpa [accI] using h
  | a :: l, s, 0, h => by simpa [accI] using h
  | a :: l, s, j + 1, h => by
    have := accI_low (k := k) (v := v) l (s := orS s (stV (Val.cmb k v a))) j (orS_low h (stV_low _))
    simpa [accI] using this
theorem accO_low {k : Int} {r : List Val} (l : List Val) (i : Nat) (hi : i ≤ l.length) : lowN (accO k l r i) := by
  induction i with
  | zero => exact ⟨0, by simp [accO], by omega⟩
  | succ i ih =>
    rw [accO_succ (List.getElem?_eq_getElem (show i < l.length by omega))]
    exact accI_low r _ (ih (by omega))
theorem cmbS_acc {k a b : Int} (h : k = 8 ∨ k = 9) : cmbS k a b = accO k (exS a) (exS b) (exS a).length := by
  unfold cmbS accO
  rw [if_pos h, List.take_length]
theorem exS_ok {a : Int} {v : Val} (h : v ∈ exS a) : v.ok = true := by
  unfold exS at h
  simp only [List.mem_append] at h
  rcases h with h | h | h
  · split at h
    · simp at h; subst h; rfl
    · cases h
  · split at h
    · simp at h; subst h; rfl
    · cases h
  · split at h
    · simp at h; subst h; rfl
    · cases h
theorem exS_ne {b : Int} (h : okS b) : exS b ≠ [] := by
  obtain ⟨h1, h2⟩ := h
  have : b = 1 ∨ b = 2 ∨ b = 3 ∨ b = 4 ∨ b = 5 ∨ b = 6 ∨ b = 7 := by omega
  rcases this with rfl | rfl | rfl | rfl | rfl | rfl | rfl <;> decide
theorem exS_len (a : Int) : (exS a).length ≤ 3 := by
  unfold exS; simp only [List.length_append]
  repeat' split
  all_goals simp
end Go.Av
namespace Go.Proofs.YteihcffblfdgfaaGreat.P
open Go Go.Av
set_option maxRecDepth 4000
set_option maxHeartbeats 4000000
theorem mod8 {n : Nat} (h : n < 8) : n % 18446744073709551616 = n := Nat.mod_eq_of_lt (by omega)
theorem or8 {m n : Nat} (hm : m < 8) (hn : n < 8) : IntKind.i64.wrap ((m ||| n : Nat) : Int) = ((m ||| n : Nat) : Int) := by
  have := Nat.or_lt_two_pow (n := 3) hm hn
  exact wrap64 (by omega) (by omega)
def vBx (v : Val) : Option Blk := some (.box [.bool v.null, .int v.n])
def vAt (l : List Val) (i : Nat) : Val := (l[i]?).getD Val.zero
def jz (i : Nat) (v : AV) : AV := if i = 0 then .junk else v
@[simp] theorem jz_0 (v : AV) : jz 0 v = .junk := rfl
@[simp] theorem jz_s (i : Nat) (v : AV) : jz (i + 1) v = v := rfl
theorem jz_pos {i : Nat} (h : i ≠ 0) (v : AV) : jz i v = v := if_neg h
def CSX (k a b : Int) (A B : List Val) (i : Nat) : AS :=
  { env := [(0, .int k), (1, .int a), (2, .int b), (6, .int 0), (7, .int (accO k A B i)), (9, jz i (.own 0 0)), (11, jz i (.own 1 0)), (17, .bool true), (19, .i (.isl (valsL A))), (20, .int A.length), (21, .int i), (22, jz i (.bool true)), (26, jz i (.i (.isl (valsL B)))), (27, jz i (.int B.length)), (28, jz i (.int B.length)), (29, jz i (.bool false)), (46, .junk), (54, .junk), (66, .junk)],
    st := if i = 0 then [] else [vBx (vAt A (i - 1)), vBx (vAt B (B.length - 1))] }
def CSI (k a b : Int) (A B : List Val) (i : Nat) (j : Nat) : AS :=
  { env := [(0, .int k), (1, .int a), (2, .int b), (6, .int 0), (7, .int (accI k (vAt A i) B (accO k A B i) j)), (9, .own 0 0), (11, if j = 0 then jz i (.own 1 0) else .own 1 0), (17, .bool true), (19, .i (.isl (valsL A))), (20, .int A.length), (21, .int i), (22, .bool true), (26, .i (.isl (valsL B))), (27, .int B.length), (28, .int j), (29, if j = 0 then jz i (.bool false) else .bool true), (46, .junk), (54, .junk), (66, .junk)],
    st := vBx (vAt A i) :: (if j = 0 then (if i = 0 then [] else [vBx (vAt B (B.length - 1))]) else [vBx (vAt B (j - 1))]) }
theorem combinedStates_and {k a b : Int} (hk : k = 8 ∨ k = 9) (ha : okS a) (hb : okS b) : callA C0 143 [.int k, .int a, .int b] [] = some (.int (cmbS k a b), []) := by
  have hea := examples_eq (a := a) ⟨by have := ha.1; omega, ha.2⟩
  have heb := examples_eq (a := b) ⟨by have := hb.1; omega, hb.2⟩
  have hbn := exS_ne hb
  have hbl : (exS b).length ≠ 0 := fun h => hbn (List.length_eq_zero_iff.1 h)
  have la := exS_len a
  have lb := exS_len b
  have oka : ∀ v ∈ exS a, v.ok = true := fun v hv => exS_ok hv
  have okb : ∀ v ∈ exS b, v.ok = true := fun v hv => exS_ok hv
  rw [callA_eq rfl Tryz.func143 rfl rfl, cmbS_acc hk]
  generalize exS a = A at *
  generalize exS b = B at *
  rcases hk with rfl | rfl
  · simp [hea]
    rw [loop_to (CSX 8 a b A B) A.length (by simp [CSX, accO])]
    · rw [execA_loop]
      simp [CSX]
    · intro i hi
      have h3 := List.getElem?_eq_getElem hi
      have hm := List.mem_of_getElem? h3
      generalize A[i] = v at h3 hm
      have rA := valsL_nth h3
      have hv : vAt A i = v := by simp [vAt, h3]
      have w2 : IntKind.i64.wrap ((i : Int) + 1) = i + 1 := wrap64 (by omega) (by omega)
      have hlow0 := accO_low (k := 8) (r := B) A i (by omega)
      have hsc := accO_succ (k := 8) (r := B) h3
      have inner : ∀ j, j < B.length → ∃ w, B[j]? = some w ∧ w ∈ B ∧ nthE (valsL B) j = some [.bool w.null, .int w.n] ∧ vAt B j = w ∧ ∃ m n : Nat, accI 8 v B (accO 8 A B i) j = m ∧ stV (Val.cmb 8 v w) = n ∧ m < 8 ∧ n < 8 ∧ accI 8 v B (accO 8 A B i) (j + 1) = ((m ||| n : Nat) : Int) ∧ IntKind.i64.wrap ((m ||| n : Nat) : Int) = ((m ||| n : Nat) : Int) := by
        intro j hj
        have q3 := List.getElem?_eq_getElem hj
        obtain ⟨m, hm1, hm2⟩ := accI_low (k := 8) (v := v) B j hlow0
        obtain ⟨n, hn1, hn2⟩ := stV_low (Val.cmb 8 v B[j])
        refine ⟨B[j], q3, List.getElem_mem hj, valsL_nth q3, by simp [vAt, q3], m, n, hm1, hn1, hm2, hn2, ?_, or8 hm2 hn2⟩
        rw [accI_succ q3, hm1, hn1, orS_nat]
      by_cases h0 : i = 0
      · subst h0
        simp [CSX, hi, rA, heb]
        rw [loop_to (CSI 8 a b A B 0) B.length (by simp [CSI, accI, hv, vBx])]
        · rw [execA_loop]
          simp [CSI, hbl, w2, hv, hsc, CSX, vBx]
        · intro j hj
          obtain ⟨w, q3, qm, q4, q5, m, n, m1, n1, m2, n2, hn, hwr⟩ := inner j hj
          have hcm := combined_eq 8 v w (oka v hm) (okb w qm)
          have hst := istate_eq (Val.cmb 8 v w).null (Val.cmb 8 v w).n
          have w3 : IntKind.i64.wrap ((j : Int) + 1) = j + 1 := wrap64 (by omega) (by omega)
          rw [show stV ⟨(Val.cmb 8 v w).null, (Val.cmb 8 v w).n⟩ = stV (Val.cmb 8 v w) from rfl, n1] at hst
          by_cases j0 : j = 0
          · subst j0
            simp [CSI, hj, hv, q4, q5, vBx, m1, hcm, hst, mod8 m2, mod8 n2, hwr, hn]
          · simp [CSI, hj, hv, q4, q5, vBx, m1, hcm, hst, mod8 m2, mod8 n2, hwr, hn, j0, w3]
      · simp [CSX, hi, rA, heb, h0, jz_pos h0, vBx]
        rw [loop_to (CSI 8 a b A B i) B.length (by simp [CSI, accI, hv, vBx, jz_pos h0, h0])]
        · rw [execA_loop]
          simp [CSI, hbl, w2, hv, hsc, CSX, vBx]
        · intro j hj
          obtain ⟨w, q3, qm, q4, q5, m, n, m1, n1, m2, n2, hn, hwr⟩ := inner j hj
          have hcm := combined_eq 8 v w (oka v hm) (okb w qm)
          have hst := istate_eq (Val.cmb 8 v w).null (Val.cmb 8 v w).n
          have w3 : IntKind.i64.wrap ((j : Int) + 1) = j + 1 := wrap64 (by omega) (by omega)
          rw [show stV ⟨(Val.cmb 8 v w).null, (Val.cmb 8 v w).n⟩ = stV (Val.cmb 8 v w) from rfl, n1] at hst
          by_cases j0 : j = 0
          · subst j0
            simp [CSI, hj, hv, q4, q5, vBx, m1, hcm, hst, mod8 m2, mod8 n2, hwr, hn, jz_pos h0, h0]
          · simp [CSI, hj, hv, q4, q5, vBx, m1, hcm, hst, mod8 m2, mod8 n2, hwr, hn, j0, w3, jz_pos h0, h0]
  · simp [hea]
    rw [loop_to (CSX 9 a b A B) A.length (by simp [CSX, accO])]
    · rw [execA_loop]
      simp [CSX]
    · intro i hi
      have h3 := List.getElem?_eq_getElem hi
      have hm := List.mem_of_getElem? h3
      generalize A[i] = v at h3 hm
      have rA := valsL_nth h3
      have hv : vAt A i = v := by simp [vAt, h3]
      have w2 : IntKind.i64.wrap ((i : Int) + 1) = i + 1 := wrap64 (by omega) (by omega)
      have hlow0 := accO_low (k := 9) (r := B) A i (by omega)
      have hsc := accO_succ (k := 9) (r := B) h3
      have inner : ∀ j, j < B.length → ∃ w, B[j]? = some w ∧ w ∈ B ∧ nthE (valsL B) j = some [.bool w.null, .int w.n] ∧ vAt B j = w ∧ ∃ m n : Nat, accI 9 v B (accO 9 A B i) j = m ∧ stV (Val.cmb 9 v w) = n ∧ m < 8 ∧ n < 8 ∧ accI 9 v B (accO 9 A B i) (j + 1) = ((m ||| n : Nat) : Int) ∧ IntKind.i64.wrap ((m ||| n : Nat) : Int) = ((m ||| n : Nat) : Int) := by
        intro j hj
        have q3 := List.getElem?_eq_getElem hj
        obtain ⟨m, hm1, hm2⟩ := accI_low (k := 9) (v := v) B j hlow0
        obtain ⟨n, hn1, hn2⟩ := stV_low (Val.cmb 9 v B[j])
        refine ⟨B[j], q3, List.getElem_mem hj, valsL_nth q3, by simp [vAt, q3], m, n, hm1, hn1, hm2, hn2, ?_, or8 hm2 hn2⟩
        rw [accI_succ q3, hm1, hn1, orS_nat]
      by_cases h0 : i = 0
      · subst h0
        simp [CSX, hi, rA, heb]
        rw [loop_to (CSI 9 a b A B 0) B.length (by simp [CSI, accI, hv, vBx])]
        · rw [execA_loop]
          simp [CSI, hbl, w2, hv, hsc, CSX, vBx]
        · intro j hj
          obtain ⟨w, q3, qm, q4, q5, m, n, m1, n1, m2, n2, hn, hwr⟩ := inner j hj
          have hcm := combined_eq 9 v w (oka v hm) (okb w qm)
          have hst := istate_eq (Val.cmb 9 v w).null (Val.cmb 9 v w).n
          have w3 : IntKind.i64.wrap ((j : Int) + 1) = j + 1 := wrap64 (by omega) (by omega)
          rw [show stV ⟨(Val.cmb 9 v w).null, (Val.cmb 9 v w).n⟩ = stV (Val.cmb 9 v w) from rfl, n1] at hst
          by_cases j0 : j = 0
          · subst j0
            simp [CSI, hj, hv, q4, q5, vBx, m1, hcm, hst, mod8 m2, mod8 n2, hwr, hn]
          · simp [CSI, hj, hv, q4, q5, vBx, m1, hcm, hst, mod8 m2, mod8 n2, hwr, hn, j0, w3]
      · simp [CSX, hi, rA, heb, h0, jz_pos h0, vBx]
        rw [loop_to (CSI 9 a b A B i) B.length (by simp [CSI, accI, hv, vBx, jz_pos h0, h0])]
        · rw [execA_loop]
          simp [CSI, hbl, w2, hv, hsc, CSX, vBx]
        · intro j hj
          obtain ⟨w, q3, qm, q4, q5, m, n, m1, n1, m2, n2, hn, hwr⟩ := inner j hj
          have hcm := combined_eq 9 v w (oka v hm) (okb w qm)
          have hst := istate_eq (Val.cmb 9 v w).null (Val.cmb 9 v w).n
          have w3 : IntKind.i64.wrap ((j : Int) + 1) = j + 1 := wrap64 (by omega) (by omega)
          rw [show stV ⟨(Val.cmb 9 v w).null, (Val.cmb 9 v w).n⟩ = stV (Val.cmb 9 v w) from rfl, n1] at hst
          by_cases j0 : j = 0
          · subst j0
            simp [CSI, hj, hv, q4, q5, vBx, m1, hcm, hst, mod8 m2, mod8 n2, hwr, hn, jz_pos h0, h0]
          · simp [CSI, hj, hv, q4, q5, vBx, m1, hcm, hst, mod8 m2, mod8 n2, hwr, hn, j0, w3, jz_pos h0, h0]
end Go.Proofs.YteihcffblfdgfaaGreat.P

namespace Go.Proofs.YteihcffblfdgfaaGreat.P
open Go Go.Av
set_option maxRecDepth 4000
set_option maxHeartbeats 8000000
theorem or_tab : ∀ m n : Fin 8, ((m.val ||| n.val) &&& 4 = 0 ∧ hasS (orS m.val n.val) 4 = false) ∨ ((m.val ||| n.val) &&& 4 = 4 ∧ hasS (orS m.val n.val) 4 = true) := by decide
theorem or_four {m n : Nat} (hm : m < 8) (hn : n < 8) : ((m ||| n) &&& 4 = 0 ∧ hasS (orS m n) 4 = false) ∨ ((m ||| n) &&& 4 = 4 ∧ hasS (orS m n) 4 = true) := or_tab ⟨m, hm⟩ ⟨n, hn⟩
theorem low_tab : ∀ m : Fin 8, (m.val &&& 18446744073709551611 = 0 ∧ (hasS m.val 1 || hasS m.val 2) = false) ∨ ((m.val &&& 18446744073709551611 = 1 ∨ m.val &&& 18446744073709551611 = 2 ∨ m.val &&& 18446744073709551611 = 3) ∧ (hasS m.val 1 || hasS m.val 2) = true) := by decide
theorem low_any {m : Nat} (hm : m < 8) : ∃ v : Nat, m &&& 18446744073709551611 = v ∧ IntKind.i64.wrap (v : Int) = v ∧ ((v = 0 ∧ (hasS m 1 || hasS m 2) = false) ∨ (¬ v = 0 ∧ (hasS m 1 || hasS m 2) = true)) := by
  rcases low_tab ⟨m, hm⟩ with ⟨h, q⟩ | ⟨h | h | h, q⟩
  · exact ⟨0, h, by decide, .inl ⟨rfl, q⟩⟩
  · exact ⟨1, h, by decide, .inr ⟨by omega, q⟩⟩
  · exact ⟨2, h, by decide, .inr ⟨by omega, q⟩⟩
  · exact ⟨3, h, by decide, .inr ⟨by omega, q⟩⟩
theorem combinedStates_rest {k : Int} (hk : 3 ≤ k ∧ k ≠ 8 ∧ k ≠ 9) {m n : Nat} (hm : m < 8) (hn : n < 8) : callA C0 143 [.int k, .int m, .int n] [] = some (.int (cmbS k m n), []) := by
  rw [callA_eq rfl Tryz.func143 rfl rfl]
  have h1 := mod8 hm
  have h2 := mod8 hn
  have h3 := or8 hm hn
  have h4 : (m ||| n) % 18446744073709551616 = m ||| n := mod8 (Nat.or_lt_two_pow (n := 3) hm hn)
  obtain ⟨x, x1, x2, x3⟩ := low_any hm
  obtain ⟨y, y1, y2, y3⟩ := low_any hn
  have k8 : ¬ k = 8 := hk.2.1
  have k9 : ¬ k = 9 := hk.2.2
  have e7 : orS 0 7 = 7 := by decide
  have e3 : orS 0 3 = 3 := by decide
  have e47 : orS 4 7 = 7 := by decide
  have e43 : orS 4 3 = 7 := by decide
  have e40 : orS 4 0 = 4 := by decide
  have e00 : orS 0 0 = 0 := by decide
  by_cases k6 : k < 6
  · have hk3 : k = 3 ∨ k = 4 ∨ k = 5 := by omega
    rcases hk3 with rfl | rfl | rfl
    · rcases or_four hm hn with ⟨p, q⟩ | ⟨p, q⟩
      · rcases x3 with ⟨x3, x4⟩ | ⟨x3, x4⟩
        · simp [h1, h2, h3, h4, p, x1, x2, x3, cmbS, q, x4, e00]
        · rcases y3 with ⟨y3, y4⟩ | ⟨y3, y4⟩
          · simp [h1, h2, h3, h4, p, x1, x2, x3, y1, y2, y3, cmbS, q, x4, y4, e00]
          · simp [h1, h2, h3, h4, p, x1, x2, x3, y1, y2, y3, cmbS, q, x4, y4, e7, e3]
      · rcases x3 with ⟨x3, x4⟩ | ⟨x3, x4⟩
        · simp [h1, h2, h3, h4, p, x1, x2, x3, cmbS, q, x4, e40]
        · rcases y3 with ⟨y3, y4⟩ | ⟨y3, y4⟩
          · simp [h1, h2, h3, h4, p, x1, x2, x3, y1, y2, y3, cmbS, q, x4, y4, e40]
          · simp [h1, h2, h3, h4, p, x1, x2, x3, y1, y2, y3, cmbS, q, x4, y4, e47, e43]
    · rcases or_four hm hn with ⟨p, q⟩ | ⟨p, q⟩
      · rcases x3 with ⟨x3, x4⟩ | ⟨x3, x4⟩
        · simp [h1, h2, h3, h4, p, x1, x2, x3, cmbS, q, x4, e00]
        · rcases y3 with ⟨y3, y4⟩ | ⟨y3, y4⟩
          · simp [h1, h2, h3, h4, p, x1, x2, x3, y1, y2, y3, cmbS, q, x4, y4, e00]
          · simp [h1, h2, h3, h4, p, x1, x2, x3, y1, y2, y3, cmbS, q, x4, y4, e7, e3]
      · rcases x3 with ⟨x3, x4⟩ | ⟨x3, x4⟩
        · simp [h1, h2, h3, h4, p, x1, x2, x3, cmbS, q, x4, e40]
        · rcases y3 with ⟨y3, y4⟩ | ⟨y3, y4⟩
          · simp [h1, h2, h3, h4, p, x1, x2, x3, y1, y2, y3, cmbS, q, x4, y4, e40]
          · simp [h1, h2, h3, h4, p, x1, x2, x3, y1, y2, y3, cmbS, q, x4, y4, e47, e43]
    · rcases or_four hm hn with ⟨p, q⟩ | ⟨p, q⟩
      · rcases x3 with ⟨x3, x4⟩ | ⟨x3, x4⟩
        · simp [h1, h2, h3, h4, p, x1, x2, x3, cmbS, q, x4, e00]
        · rcases y3 with ⟨y3, y4⟩ | ⟨y3, y4⟩
          · simp [h1, h2, h3, h4, p, x1, x2, x3, y1, y2, y3, cmbS, q, x4, y4, e00]
          · simp [h1, h2, h3, h4, p, x1, x2, x3, y1, y2, y3, cmbS, q, x4, y4, e7, e3]
      · rcases x3 with ⟨x3, x4⟩ | ⟨x3, x4⟩
        · simp [h1, h2, h3, h4, p, x1, x2, x3, cmbS, q, x4, e40]
        · rcases y3 with ⟨y3, y4⟩ | ⟨y3, y4⟩
          · simp [h1, h2, h3, h4, p, x1, x2, x3, y1, y2, y3, cmbS, q, x4, y4, e40]
          · simp [h1, h2, h3, h4, p, x1, x2, x3, y1, y2, y3, cmbS, q, x4, y4, e47, e43]
  · have k3 : ¬ k = 3 := by omega
    have k4 : ¬ k = 4 := by omega
    have k5 : ¬ k = 5 := by omega
    rcases or_four hm hn with ⟨p, q⟩ | ⟨p, q⟩
    · rcases x3 with ⟨x3, x4⟩ | ⟨x3, x4⟩
      · simp [h1, h2, h3, h4, p, x1, x2, x3, cmbS, q, x4, e00, k3, k4, k5, k6, k8, k9]
      · rcases y3 with ⟨y3, y4⟩ | ⟨y3, y4⟩
        · simp [h1, h2, h3, h4, p, x1, x2, x3, y1, y2, y3, cmbS, q, x4, y4, e00, k3, k4, k5, k6, k8, k9]
        · simp [h1, h2, h3, h4, p, x1, x2, x3, y1, y2, y3, cmbS, q, x4, y4, e7, e3, k3, k4, k5, k6, k8, k9]
    · rcases x3 with ⟨x3, x4⟩ | ⟨x3, x4⟩
      · simp [h1, h2, h3, h4, p, x1, x2, x3, cmbS, q, x4, e40, k3, k4, k5, k6, k8, k9]
      · rcases y3 with ⟨y3, y4⟩ | ⟨y3, y4⟩
        · simp [h1, h2, h3, h4, p, x1, x2, x3, y1, y2, y3, cmbS, q, x4, y4, e40, k3, k4, k5, k6, k8, k9]
        · simp [h1, h2, h3, h4, p, x1, x2, x3, y1, y2, y3, cmbS, q, x4, y4, e47, e43, k3, k4, k5, k6, k8, k9]
end Go.Proofs.YteihcffblfdgfaaGreat.P

namespace Go.Av
theorem Ex.wf_shape {w : Int} {e : Ex} (h : e.wf w = true) : (e.kind = 1 ∧ 0 ≤ e.col ∧ e.col < w ∧ e.kids = []) ∨ (e.kind = 2 ∧ e.kids = []) ∨ ((e.kind = 10 ∨ e.kind = 11) ∧ ∃ x, e.kids = [x] ∧ x.wf w = true) ∨ ((3 ≤ e.kind ∧ e.kind ≤ 9) ∧ ∃ x y, e.kids = [x, y] ∧ x.wf w = true ∧ y.wf w = true) := by
  have hk : ∀ x ∈ e.kids, x.wf w = true := fun x hx => Ex.wf_kids h hx
  by_cases h1 : e.kind = 1
  · have := Ex.wf_col h h1; exact .inl ⟨h1, this.1, this.2.1, this.2.2⟩
  rw [Ex.wf_eq] at h
  simp only [Bool.and_eq_true, decide_eq_true_eq] at h
  have hl := h.1
  unfold kidsK at hl
  split at hl
  · rename_i hc
    exact .inr (.inl ⟨by omega, List.length_eq_zero_iff.1 (by omega)⟩)
  · split at hl
    · rename_i hc
      obtain ⟨x, hx⟩ := list_one (show e.kids.length = 1 by omega)
      exact .inr (.inr (.inl ⟨hc, x, hx, hk x (by simp [hx])⟩))
    · split at hl
      · rename_i hc
        obtain ⟨x, y, hx⟩ := list_two (show e.kids.length = 2 by omega)
        exact .inr (.inr (.inr ⟨hc, x, y, hx, hk x (by simp [hx]), hk y (by simp [hx])⟩))
      · omega
theorem outS_ok {W : Int} (st : List Int) (hl : (st.length : Int) = W) (hs : ∀ a ∈ st, okS a) : ∀ e : Ex, e.wf W = true → okS (outS st e) := by
  intro e
  induction e using Ex.ind with
  | h k c v ks ih =>
    intro hw
    rw [outS_eq]
    rcases Ex.wf_shape hw with ⟨h1, h2, h3, h4⟩ | ⟨h1, h2⟩ | ⟨h1, x, h2, h3⟩ | ⟨h1, x, y, h2, h3, h4⟩
    · rw [if_pos h1]
      generalize Ex.col (.mk k c v ks) = cc at *
      have hlt : cc.toNat < st.length := by omega
      rw [List.getElem?_eq_getElem hlt]
      exact hs _ (List.getElem_mem hlt)
    · rw [if_neg (by omega), if_pos h1]; exact stV_ok _
    · have hx := ih x (by simp only [Ex.kids] at h2; simp [h2]) h3
      obtain ⟨n, hn⟩ := Int.eq_ofNat_of_zero_le (show 0 ≤ outS st x by have := hx.1; omega)
      have ht := notS_tab ⟨n, by have := hx.2; omega⟩ (by have := hx.1; simp; omega)
      rw [if_neg (by omega), if_neg (by omega), h2]
      simp only [List.getElem?_cons_zero, Option.map_some, Option.getD_some, hn]
      rcases h1 with h1 | h1
      · rw [if_pos h1]; exact ht.1
      · rw [if_neg (by omega), if_pos h1]; exact ht.2
    · have hx := ih x (by simp only [Ex.kids] at h2; simp [h2]) h3
      have hy := ih y (by simp only [Ex.kids] at h2; simp [h2]) h4
      rw [if_neg (by omega), if_neg (by omega), if_neg (by omega), if_neg (by omega), h2]
      exact cmbS_ok hx hy
end Go.Av
namespace Go.Proofs.YteihcffblfdgfaaGreat.P
open Go Go.Av
set_option maxRecDepth 4000
set_option maxHeartbeats 8000000
theorem seven {a : Int} (h : okS a) : a = 1 ∨ a = 2 ∨ a = 3 ∨ a = 4 ∨ a = 5 ∨ a = 6 ∨ a = 7 := by have := h.1; have := h.2; omega
theorem icomb_all {k a b : Int} (hk : 3 ≤ k) (ha : okS a) (hb : okS b) : callA C0 143 [.int k, .int a, .int b] [] = some (.int (cmbS k a b), []) := by
  by_cases h : k = 8 ∨ k = 9
  · exact combinedStates_and h ha hb
  · obtain ⟨m, rfl⟩ := Int.eq_ofNat_of_zero_le (show 0 ≤ a by have := ha.1; omega)
    obtain ⟨n, rfl⟩ := Int.eq_ofNat_of_zero_le (show 0 ≤ b by have := hb.1; omega)
    exact combinedStates_rest ⟨hk, by omega, by omega⟩ (by have := ha.2; omega) (by have := hb.2; omega)
theorem ioutcomes_eq {W : Int} (st : List Int) (hl : (st.length : Int) = W) (hs : ∀ a ∈ st, okS a) : ∀ e : Ex, e.wf W = true → callA C0 128 [.i (.iref e.cells), .i (.isl (intsL st))] [] = some (.int (outS st e), []) := by
  intro e
  induction e using Ex.ind with
  | h k c v ks ih =>
    intro hw
    have hall := outS_ok st hl hs
    rw [callA_eq rfl Tryz.func128 rfl rfl, Ex.cells_eq, outS_eq]
    rcases Ex.wf_shape hw with ⟨h1, h2, h3, h4⟩ | ⟨h1, h2⟩ | ⟨h1, x, h2, h3⟩ | ⟨h1, x, y, h2, h3, h4⟩
    · generalize Ex.mk k c v ks = e at *
      have hlt : e.col.toNat < st.length := by omega
      have h5 := List.getElem?_eq_getElem hlt
      generalize st[e.col.toNat] = s at h5
      have r2 := intsL_nth h5
      obtain ⟨_, h6⟩ := List.getElem?_eq_some_iff.1 h5
      simp [h1, h2, r2, h6, show e.col < st.length by omega]
    · generalize Ex.mk k c v ks = e at *
      have hst := istate_eq e.val.null e.val.n
      simp [h1, hst]
    · have hx := ih x (by simp only [Ex.kids] at h2; simp [h2]) h3
      have ho := hall x h3
      generalize Ex.mk k c v ks = e at *
      generalize hso : outS st x = s at hx ho
      rw [Ex.cells_eq] at hx
      rcases h1 with h1 | h1
      · rcases seven ho with rfl | rfl | rfl | rfl | rfl | rfl | rfl <;> (simp [h1, h2, Ex.cellsL, Ex.cells_eq x, hx, hso]; try decide)
      · rcases seven ho with rfl | rfl | rfl | rfl | rfl | rfl | rfl <;> (simp [h1, h2, Ex.cellsL, Ex.cells_eq x, hx, hso]; try decide)
    · have hx := ih x (by simp only [Ex.kids] at h2; simp [h2]) h3
      have hy := ih y (by simp only [Ex.kids] at h2; simp [h2]) h4
      have ho := hall x h3
      have hp := hall y h4
      generalize Ex.mk k c v ks = e at *
      have hc := icomb_all (k := e.kind) h1.1 ho hp
      generalize hso : outS st x = s at hx ho hc
      generalize hto : outS st y = t at hy hp hc
      rw [Ex.cells_eq] at hx hy
      have q1 : ¬ e.kind = 1 := by omega
      have q2 : ¬ e.kind = 2 := by omega
      have q3 : ¬ e.kind = 10 := by omega
      have q4 : ¬ e.kind = 11 := by omega
      simp [q1, q2, q3, q4, h2, Ex.cellsL, Ex.cells_eq x, Ex.cells_eq y, hx, hy, hc, hso, hto]
end Go.Proofs.YteihcffblfdgfaaGreat.P

namespace Go.Av
theorem intsL_rep (n : Nat) (x : Int) : intsL (List.replicate n x) = List.replicate n [.int x] := by
  induction n with
  | zero => rfl
  | succ n ih => simp [List.replicate_succ, intsL, ih]
theorem intsL_set : ∀ (l : List Int) (i : Nat) (x : Int), (intsL l).set i [.int x] = intsL (l.set i x)
  | [], i, x => by simp [intsL]
  | a :: l, 0, x => by simp [intsL]
  | a :: l, i + 1, x => by simp [intsL, intsL_set l i x]
def st1 (n i : Nat) : List Int := List.replicate i 7 ++ List.replicate (n - i) 0
def st2 (p m i : Nat) : List Int := List.replicate p 7 ++ (List.replicate i 4 ++ List.replicate (m - i) 7)
theorem rep_nth {a b : Int} {n i : Nat} (h : i < n) : (List.replicate i a ++ List.replicate (n - i) b)[i]? = some b := by
  rw [List.getElem?_append_right (by simp)]
  have : 0 < n - i := by omega
  simp [List.getElem?_replicate, this]
theorem rep_set {a b : Int} {n i : Nat} (h : i < n) : (List.replicate i a ++ List.replicate (n - i) b).set i a = List.replicate (i + 1) a ++ List.replicate (n - (i + 1)) b := by
  rw [List.set_append_right _ _ (by simp)]
  rw [show n - i = (n - (i + 1)) + 1 by omega, List.replicate_succ, List.replicate_succ']
  simp
theorem st1_nth {n i : Nat} (h : i < n) : (st1 n i)[i]? = some 0 := rep_nth h
theorem st1_set {n i : Nat} (h : i < n) : (st1 n i).set i 7 = st1 n (i + 1) := rep_set h
theorem st2_nth {p m i : Nat} (h : i < m) : (st2 p m i)[p + i]? = some 7 := by
  unfold st2
  rw [List.getElem?_append_right (by simp)]
  simpa using rep_nth (a := 4) (b := 7) h
theorem st2_set {p m i : Nat} (h : i < m) : (st2 p m i).set (p + i) 4 = st2 p m (i + 1) := by
  unfold st2
  rw [List.set_append_right _ _ (by simp)]
  simp only [List.length_replicate, Nat.add_sub_cancel_left]
  rw [rep_set h]
theorem st1_all {p m : Nat} : st1 (p + m) (p + m) = st2 p m 0 := by
  simp [st1, st2, List.replicate_append_replicate]
theorem st2_all (p m : Nat) : st2 p m m = nulls ((p + m : Nat) : Int) p := by
  unfold st2 nulls
  apply List.ext_getElem?
  intro i
  simp only [Nat.sub_self, List.replicate_zero, List.append_nil, Int.toNat_natCast, List.getElem?_map]
  by_cases h : i < p
  · rw [List.getElem?_append_left (by simpa using h)]
    simp [h, show i < p + m by omega]
  · rw [List.getElem?_append_right (by simp; omega)]
    by_cases h2 : i < p + m
    · simp [h2, show i - p < m by omega, show p ≤ i by omega]
    · simp [h2, show ¬ i - p < m by omega]
@[simp] theorem st2_length {p m i : Nat} (h : i ≤ m) : (st2 p m i).length = p + m := by simp [st2]; omega
def colsI (p m : Nat) : List Int := (List.range m).map fun (i : Nat) => ((p + i : Nat) : Int)
@[simp] theorem colsI_length (p m : Nat) : (colsI p m).length = m := by simp [colsI]
theorem colsI_nth {p m i : Nat} (h : i < m) : (colsI p m)[i]? = some ((p + i : Nat) : Int) := by simp [colsI, h]
theorem colsI_succ (p m : Nat) : colsI p (m + 1) = colsI p m ++ [((p + m : Nat) : Int)] := by simp [colsI, List.range_succ]
theorem nulls_ok (W left : Int) : ∀ a ∈ nulls W left, okS a := by
  intro a ha
  unfold nulls at ha
  obtain ⟨i, -, rfl⟩ := List.mem_map.1 ha
  unfold okS
  split <;> omega
theorem nulls_length (W left : Int) : (nulls W left).length = W.toNat := by simp [nulls]
theorem two_tab : ∀ a : Fin 8, (a.val &&& 2 = 0 ∧ hasS a.val 2 = false) ∨ (a.val &&& 2 = 2 ∧ hasS a.val 2 = true) := by decide
end Go.Av
namespace Go.Proofs.YteihcffblfdgfaaGreat.P
open Go Go.Av
set_option maxRecDepth 4000
set_option maxHeartbeats 8000000
def RJ1 (e : Ex) (l : List Int) (n : Nat) (i : Nat) : AS :=
  { env := [(0, .i (.agg [.int e.kind, .int e.col, .bool e.val.null, .int e.val.n, .isl (Ex.cellsL e.kids)])), (1, .int n), (2, .i (.isl (intsL l))), (3, .own 0 0), (6, .bool false), (7, .osl 1 1 0 n), (8, jk i (.int (i - 1))), (10, .junk), (14, .bool false), (18, .int n), (19, .int i), (20, jk i (.bool true)), (26, .junk), (27, .junk), (28, .junk), (29, .junk), (38, .junk)],
    st := [some (.box [.int e.kind, .int e.col, .bool e.val.null, .int e.val.n, .i (.isl (Ex.cellsL e.kids))]), some (.arr 1 (intsL (st1 n i)))] }
def RJ2 (e : Ex) (n p m : Nat) (i : Nat) : AS :=
  { env := [(0, .i (.agg [.int e.kind, .int e.col, .bool e.val.null, .int e.val.n, .isl (Ex.cellsL e.kids)])), (1, .int n), (2, .i (.isl (intsL (colsI p m)))), (3, .own 0 0), (6, .bool false), (7, .osl 1 1 0 n), (8, .int (n - 1)), (10, jk i (.int ((p : Int) + i - 1))), (14, .bool false), (18, .int n), (19, .int n), (20, .bool false), (26, .i (.isl (intsL (colsI p m)))), (27, .int m), (28, .int i), (29, jk i (.bool true)), (38, jk i (.bool true))],
    st := [some (.box [.int e.kind, .int e.col, .bool e.val.null, .int e.val.n, .i (.isl (Ex.cellsL e.kids))]), some (.arr 1 (intsL (st2 p m i)))] }
theorem irejects_eq (e : Ex) {n p m : Nat} (hn : n = p + m) (h : e.ok n = true) : callA C0 112 [.i (.agg e.cells), .int n, .i (.isl (intsL (colsI p m)))] [] = some (.bool (rejP e n p), []) := by
  have hok := ok_eq n e
  rw [h] at hok
  obtain ⟨hw, g1, g2⟩ := Ex.ok_wf h
  have hlen : ((nulls n p).length : Int) = (n : Int) := by rw [nulls_length]; omega
  have ho := ioutcomes_eq (nulls n p) hlen (nulls_ok _ _) e hw
  have hs := outS_ok (nulls n p) hlen (nulls_ok _ _) e hw
  rw [callA_eq rfl Tryz.func112 rfl rfl]
  unfold rejP
  generalize outS (nulls n p) e = s at ho hs
  obtain ⟨s, rfl⟩ := Int.eq_ofNat_of_zero_le (show 0 ≤ s by have := hs.1; omega)
  have hs8 : s < 8 := by have := hs.2; omega
  have hall := st2_all p m
  rw [← hn] at hall
  rw [← hall] at ho
  rw [Ex.cells_eq] at *
  have hb : 8 * (n : Int) ≤ 281474976710656 := by omega
  have hz := intsL_rep n 0
  have hz1 : st1 n 0 = List.replicate n 0 := by simp [st1]
  have hs1 : st1 n n = st2 p m 0 := by rw [hn]; exact st1_all
  have hl2 : ∀ i, i ≤ m → (st2 p m i).length = n := fun i hi => by rw [st2_length hi, hn]
  have hl3 : (st2 p m m).take n = st2 p m m := List.take_of_length_le (by rw [hl2 m (Nat.le_refl m)]; exact Nat.le_refl n)
  simp [hok, hb]
  rw [loop_to (RJ1 e (colsI p m) n) n (by simp [RJ1, hz1, hz])]
  · rw [execA_loop]
    simp [RJ1]
    rw [loop_to (RJ2 e n p m) m (by simp [RJ2, hs1, jk_pos (show n ≠ 0 by omega)])]
    · rw [execA_loop]
      have h2 := two_tab ⟨s, hs8⟩
      rcases h2 with ⟨h2, h3⟩ | ⟨h2, h3⟩
      · simp at h2 h3
        simp [RJ2, ho, mod8 hs8, h2, h3, hl2, hl3]
      · simp at h2 h3
        simp [RJ2, ho, mod8 hs8, h2, h3, hl2, hl3]
    · intro i hi
      have h3 := colsI_nth (p := p) hi
      have r2 := intsL_nth h3
      have r3 := intsL_nth (st2_nth (p := p) hi)
      have hset := st2_set (p := p) hi
      have hin : ((p : Int) + i) < n := by omega
      have hl := hl2 i (by omega)
      have hin2 : p + i < n := by omega
      have hin0 : 0 ≤ (p : Int) + i := by omega
      have w2 : IntKind.i64.wrap ((i : Int) + 1) = i + 1 := wrap64 (by omega) (by omega)
      simp [RJ2, hi, r2, r3, w2, intsL_set, hset, hin, hin0, hl, show ((p : Int) + i).toNat = p + i by omega]
      omega
  · intro i hi
    have r3 := intsL_nth (st1_nth hi)
    have hset := st1_set hi
    have w2 : IntKind.i64.wrap ((i : Int) + 1) = i + 1 := wrap64 (by omega) (by omega)
    simp [RJ1, hi, r3, w2, intsL_set, hset]
end Go.Proofs.YteihcffblfdgfaaGreat.P

namespace Go.Av
theorem nulls_nth {n p i : Nat} (h : i < n) : (nulls n p)[i]? = some (if p ≤ i then 4 else 7) := by
  have : i < (nulls (n : Int) p).length := by rw [nulls_length]; simpa using h
  unfold nulls
  simp [h]
end Go.Av
namespace Go.Proofs.YteihcffblfdgfaaGreat.P
open Go Go.Av
set_option maxRecDepth 4000
set_option maxHeartbeats 8000000
def CLX (n p : Nat) (i : Nat) : AS :=
  { env := [(0, .int p), (1, .int n), (4, .nils), (5, .osl 0 1 0 i), (6, .int ((p : Int) + i)), (11, jk i (.bool true))], st := [some (.arr 1 (intsL (colsI p i)))] }
theorem columnList_eq {n p m : Nat} (hn : n = p + m) (hb : n < 1000) : callA C0 134 [.int p, .int n] [] = some (.i (.isl (intsL (colsI p m))), []) := by
  rw [callA_eq rfl Tryz.func134 rfl rfl]
  simp
  rw [loop_to (CLX n p) m (by simp [CLX, colsI, intsL])]
  · rw [execA_loop]
    have h1 : ¬ ((p : Int) + m < n) := by omega
    have h2 : (colsI p m).take m = colsI p m := List.take_of_length_le (by simp)
    simp [CLX, h1, h2]
  · intro i hi
    have h1 : ((p : Int) + i < n) := by omega
    have w2 : IntKind.i64.wrap ((p : Int) + i + 1) = (p : Int) + (i + 1) := by rw [wrap64 (by omega) (by omega)]; omega
    have hl : (i + 1) * 8 ≤ 140737488355328 := by omega
    have h2 : (colsI p i).take i = colsI p i := List.take_of_length_le (by simp)
    simp [CLX, h1, w2, hl, h2, colsI_succ, intsL_snoc]
def nsS (p i k : Nat) : Int := if p ≤ i ∧ i < p + k then 4 else 7
def nsB (p m i : Nat) : AV := if m = 0 then .junk else jk i (.bool (decide ((p : Int) + (m - 1) = i - 1)))
@[simp] theorem idsOf_nsB (p m i : Nat) : idsOf (nsB p m i) = [] := by unfold nsB; split <;> simp
@[simp] theorem ren_nsB (r : Nat → Option Nat) (p m i : Nat) : ren r (nsB p m i) = nsB p m i := by unfold nsB; split <;> simp
def NSO (n p m : Nat) (i : Nat) : AS :=
  { env := [(0, .int n), (1, .i (.isl (intsL (colsI p m)))), (4, .nils), (5, .osl 0 1 0 i), (6, .int i), (7, jk i (.int (nsS p (i - 1) m))), (8, jk i (.int m)), (12, jk i (.bool true)), (18, jk i (.bool false)), (26, nsB p m i)], st := [some (.arr 1 (intsL ((nulls n p).take i)))] }
def NSI (n p m : Nat) (i k : Nat) : AS :=
  { env := [(0, .int n), (1, .i (.isl (intsL (colsI p m)))), (4, .nils), (5, .osl 0 1 0 i), (6, .int i), (7, .int (nsS p i k)), (8, .int k), (12, .bool true), (18, if k = 0 then jk i (.bool false) else .bool true), (26, if k = 0 then nsB p m i else .bool (decide ((p : Int) + (k - 1) = i)))], st := [some (.arr 1 (intsL ((nulls n p).take i)))] }
theorem nullStates_eq {n p m : Nat} (hn : n = p + m) (hb : n < 1000) : callA C0 146 [.int n, .i (.isl (intsL (colsI p m)))] [] = some (.i (.isl (intsL (nulls n p))), []) := by
  rw [callA_eq rfl Tryz.func146 rfl rfl]
  have hnl : (nulls (n : Int) p).length = n := by rw [nulls_length]; omega
  simp
  rw [loop_to (NSO n p m) n (by simp [NSO, intsL, nsB])]
  · rw [execA_loop]
    have h2 : (nulls (n : Int) p).take n = nulls n p := List.take_of_length_le (by omega)
    simp [NSO, h2, hnl]
  · intro i hi
    have w2 : IntKind.i64.wrap ((i : Int) + 1) = i + 1 := wrap64 (by omega) (by omega)
    have h3 := nulls_nth (p := p) hi
    have htk := take_snoc h3
    have hl : (i + 1) * 8 ≤ 140737488355328 := by omega
    have hsm : nsS p i m = if p ≤ i then 4 else 7 := by unfold nsS; by_cases h : p ≤ i <;> simp [h]; omega
    have hlt : ((nulls (n : Int) p).take i).length = i := by simp [hnl]; omega
    have htt : ((nulls (n : Int) p).take i).take i = (nulls (n : Int) p).take i := List.take_of_length_le (by omega)
    simp only [← hsm] at htk
    simp [NSO, hi]
    rw [loop_to (NSI n p m i) m (by simp [NSI, nsS]; try omega)]
    · rw [execA_loop]
      by_cases hm : m = 0
      · subst hm
        simp [NSI, NSO, w2, hl, htk, intsL_snoc, hlt, htt, nsB]
      · by_cases h0 : i = 0
        · subst h0
          simp [NSI, NSO, hl, htk, intsL_snoc, nsB, hm, intsL]
        · simp [NSI, NSO, w2, hl, htk, intsL_snoc, hlt, htt, nsB, hm]
    · intro k hk
      have h5 := colsI_nth (p := p) hk
      have r2 := intsL_nth h5
      have w3 : IntKind.i64.wrap ((k : Int) + 1) = k + 1 := wrap64 (by omega) (by omega)
      have e1 : ∀ x : AV, (if (k + 1 = 0) then x else (AV.bool (decide ((p : Int) + ((k + 1 : Nat) - 1) = i)))) = AV.bool (decide ((p : Int) + k = i)) := by intro x; simp
      by_cases he : (p : Int) + k = i
      · have hs : nsS p i (k + 1) = 4 := by unfold nsS; rw [if_pos (by omega)]
        by_cases k0 : k = 0
        · subst k0; simp at he; simp [NSI, hk, r2, hs, he]
        · simp [NSI, hk, r2, w3, hs, he, k0]
      · have hs : nsS p i (k + 1) = nsS p i k := by
          unfold nsS
          by_cases hp : p ≤ i ∧ i < p + k
          · rw [if_pos hp, if_pos (by omega)]
          · rw [if_neg hp, if_neg (by omega)]
        by_cases k0 : k = 0
        · subst k0; simp at he; simp [NSI, hk, r2, hs, he]
        · simp [NSI, hk, r2, w3, hs, he, k0]
end Go.Proofs.YteihcffblfdgfaaGreat.P

namespace Go.Av
def valX (x : Int) : Val := ⟨decide (x = 4), if x = 2 then 1 else 0⟩
def tsI (k a b x s : Int) (j : Nat) : Int := (([1, 2, 4] : List Int).take j).foldl (fun s y => if (hasS a x && hasS b y) = true then orS s (stV (Val.cmb k (valX x) (valX y))) else s) s
def tsO (k a b : Int) (i : Nat) : Int := (([1, 2, 4] : List Int).take i).foldl (fun s x => tsI k a b x s 3) 0
theorem tsI_low {k a b x s : Int} (hs : lowN s) (j : Nat) : lowN (tsI k a b x s j) := by
  unfold tsI
  generalize (([1, 2, 4] : List Int).take j) = l
  induction l generalizing s with
  | nil => simpa using hs
  | cons y l ih =>
    simp only [List.foldl_cons]
    apply ih
    split
    · exact orS_low hs (stV_low _)
    · exact hs
theorem tsO_low {k a b : Int} (i : Nat) : lowN (tsO k a b i) := by
  unfold tsO
  have : ∀ (l : List Int) (s : Int), lowN s → lowN (l.foldl (fun s x => tsI k a b x s 3) s) := by
    intro l
    induction l with
    | nil => intro s hs; simpa using hs
    | cons y l ih => intro s hs; exact ih _ (tsI_low hs 3)
  exact this _ _ ⟨0, rfl, by omega⟩
theorem ts_tab : ∀ a b : Fin 8, tsO 8 a.val b.val 3 = cmbS 8 a.val b.val ∧ tsO 9 a.val b.val 3 = cmbS 9 a.val b.val := by decide
end Go.Av
namespace Go.Proofs.YteihcffblfdgfaaGreat.P
open Go Go.Av
set_option maxRecDepth 4000
set_option maxHeartbeats 8000000
theorem struth_eq (b : Bool) (n : Int) : callA C0 164 [.i (.agg [.bool b, .int n])] [] = some (.int (if b = true then 2 else if n = 0 then 0 else 1), []) := by
  rw [callA_eq rfl Tryz.func164 rfl rfl]
  cases b
  · by_cases h : n = 0 <;> simp [h]
  · simp
theorem snot_eq (t : Int) (h : 0 ≤ t ∧ t ≤ 2) : callA C0 165 [.int t] [] = some (.int (if t = 2 then 2 else 1 - t), []) := by
  rw [callA_eq rfl Tryz.func165 rfl rfl]
  have : t = 0 ∨ t = 1 ∨ t = 2 := by omega
  rcases this with rfl | rfl | rfl <;> simp
theorem sand_eq (s t : Int) : callA C0 163 [.int s, .int t] [] = some (.int (if s = 0 ∨ t = 0 then 0 else if s = 1 ∧ t = 1 then 1 else 2), []) := by
  rw [callA_eq rfl Tryz.func163 rfl rfl]
  by_cases h1 : s = 0
  · simp [h1]
  · by_cases h2 : t = 0
    · simp [h1, h2]
    · by_cases h3 : s = 1
      · by_cases h4 : t = 1
        · simp [h3, h4]
        · simp [h3, h4, h2]
      · simp [h1, h2, h3]
theorem sof_eq (t : Int) : callA C0 162 [.int t] [] = some (.i (.agg [.bool (decide (t = 2)), .int (if t = 2 then 0 else t)]), []) := by
  rw [callA_eq rfl Tryz.func162 rfl rfl]
  by_cases h : t = 2
  · subst h; simp
  · simp [h]
theorem scomb_eq {k x y : Int} (hk : k = 8 ∨ k = 9) (hx : x = 1 ∨ x = 2 ∨ x = 4) (hy : y = 1 ∨ y = 2 ∨ y = 4) : callA C0 160 [.int k, .i (.agg [.bool (valX x).null, .int (valX x).n]), .i (.agg [.bool (valX y).null, .int (valX y).n])] [] = some (.i (.agg [.bool (Val.cmb k (valX x) (valX y)).null, .int (Val.cmb k (valX x) (valX y)).n]), []) := by
  rw [callA_eq rfl Tryz.func160 rfl rfl]
  rcases hk with rfl | rfl <;> rcases hx with rfl | rfl | rfl <;> rcases hy with rfl | rfl | rfl <;> (simp [valX, struth_eq, snot_eq, sand_eq, sof_eq]; try decide)
end Go.Proofs.YteihcffblfdgfaaGreat.P

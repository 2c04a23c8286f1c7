/- Part 10 of what the proof rests on: the executor and what it is worth, and the program's functions as it runs them. No condition. -/
import Derived.Test.YteihcffblfdgfaaT9
set_option linter.unusedVariables false
set_option linter.unusedSimpArgs false
/- Drawing plans and views. No condition. -/
namespace Go.Proofs.Yteihcffblfdgfaa.P
open Go Go.Av
set_option maxRecDepth 4000
set_option maxHeartbeats 8000000
theorem plan_scan {l : List UInt8} {ws : List Int} {k : Nat} {d j : Nat} {p u t : Int} (hd : d < 100) (ht : callA C0 59 [.own 0 0, .int k] [Rd l p] = some (.int t, [Rd l (p + 1)])) (hv : callA C0 59 [.own 0 0, .int 6] [Rd l (p + 1)] = some (.int 0, [Rd l (p + 1 + 1)])) :
    callA CP 58 [.own 0 0, .int ((d + 1 : Nat) : Int)] (PSt l ws k j u p) = some (.i (.agg (Pn.scan t).cells), PSt l ws k j u (p + 1 + 1)) := by
  have wn : ¬ ((d : Int) + 1 = 0) := by omega
  rw [callA_eq rfl Try.func58 rfl rfl]
  simp [PSt, ht, hv, scan_cells, wn]
theorem plan_step {l : List UInt8} (hl : l.length ≤ 2000) {ws : List Int} (hw : ∀ w ∈ ws, 0 ≤ w ∧ w ≤ 6) (hwl : ws.length < 1000000) {k : Nat} (hk0 : 0 < k) (hkl : k ≤ ws.length) {d j c c2 : Nat} (hd : d < 100) (hjb : j < 1000) (ih : PlanOk l ws k d j c) (hoth : ∀ i : Nat, i < j → ∀ y : Nat, y ≤ 1 → PlanOk l ws k y i c2) : PlanOk l ws k (d + 1) j (c + c2 + 500) := by
  intro p u h0 h1 hu0 hu1
  obtain ⟨t, ht, -, -⟩ := pick_eq l p k h0 (by omega) hl
  obtain ⟨v, hv, -, -⟩ := pick_eq l (p + 1) 6 (by omega) (by omega) hl
  by_cases v0 : v = 0
  · subst v0
    exact ⟨.scan t, p + 1 + 1, u, j, plan_scan hd ht hv, Pn.scan_thin t, by omega, by omega, by omega, by omega, by omega⟩
  obtain ⟨K, p1, u1, j1, hkid, hK, a1, a2, a3, a4, a5⟩ := ih (p + 1 + 1) u (by omega) (by omega) hu0 hu1
  have hW := splanWidth_own hw hwl hk0 hkl K hK
  have hWr := Pn.wd_range (ws := ws.take k) (fun w hm => hw w (List.mem_of_mem_take hm)) K 8
  generalize K.wd (ws.take k) 8 = W at hW hWr
  obtain ⟨kk, hkk, hkk1, -⟩ := pick_eq l p1 10 (by omega) (by omega) hl
  obtain ⟨kk0, kk9⟩ := hkk1 (by omega)
  suffices H : ∃ (P : Pn) (p' u' : Int) (j' : Nat), callA CP 58 [.own 0 0, .int ((d + 1 : Nat) : Int)] (PSt l ws k j u p) = some (.i (.agg P.cells), PSt l ws k j' u' p') ∧ P.thin ∧ p1 ≤ p' ∧ p' ≤ p1 + 400 + c2 ∧ j' ≤ j1 ∧ 0 ≤ u' ∧ u' ≤ 1 by
    obtain ⟨P, p', u', j', b1, b2, b3, b4, b5, b6, b7⟩ := H
    exact ⟨P, p', u', j', b1, b2, by omega, by omega, by omega, b6, b7⟩
  have hb : p1 + 400 + c2 < 300000000 := by omega
  have hp1 : 0 ≤ p1 := by omega
  by_cases q0 : kk = 0
  · exact plan_filter0 hl hd hb hp1 a4 a5 hWr.1 hWr.2 hK ht hv v0 hkid hW hkk q0
  by_cases q1 : kk = 1
  · exact plan_filter1 hl hd hb hp1 a4 a5 hWr.1 hWr.2 hK ht hv v0 hkid hW hkk q1
  by_cases q2 : kk = 2
  · exact plan_filter2 hl hd hb hp1 a4 a5 hWr.1 hWr.2 hK ht hv v0 hkid hW hkk q2
  by_cases q3 : kk = 3
  · exact plan_proj3 hl hd hb hp1 a4 a5 hWr.1 hWr.2 hK ht hv v0 hkid hW hkk q3
  by_cases q4 : kk = 4
  · exact plan_proj4 hl hd hb hp1 a4 a5 hWr.1 hWr.2 hK ht hv v0 hkid hW hkk q4
  by_cases q5 : kk = 5
  · by_cases hj : j1 = 0
    · exact plan_nojoin5 hl hd hb hp1 a4 a5 hWr.1 hWr.2 hK ht hv v0 hkid hW hkk hj q5
    by_cases hw4 : W ≤ 4
    · exact plan_join5 hl hw hwl hk0 hkl hd hb hp1 a4 a5 hWr.1 hWr.2 hK ht hv v0 hkid hW hkk hj (by omega) hw4 (fun y hy => hoth (j1 - 1) (by omega) y hy) q5
    · exact plan_wide5 hl hd hb hp1 a4 a5 hWr.1 hWr.2 hK ht hv v0 hkid hW hkk hj hw4 q5
  by_cases q6 : kk = 6
  · by_cases hj : j1 = 0
    · exact plan_nojoin6 hl hd hb hp1 a4 a5 hWr.1 hWr.2 hK ht hv v0 hkid hW hkk hj q6
    by_cases hw4 : W ≤ 4
    · exact plan_join6 hl hw hwl hk0 hkl hd hb hp1 a4 a5 hWr.1 hWr.2 hK ht hv v0 hkid hW hkk hj (by omega) hw4 (fun y hy => hoth (j1 - 1) (by omega) y hy) q6
    · exact plan_wide6 hl hd hb hp1 a4 a5 hWr.1 hWr.2 hK ht hv v0 hkid hW hkk hj hw4 q6
  by_cases q7 : kk = 7
  · by_cases hu : 0 < u1
    · exact plan_union hl hd hb hp1 a4 a5 hWr.1 hWr.2 hK ht hv v0 hkid hW hkk hu q7
    · exact plan_nounion hl hd hb hp1 a4 a5 hWr.1 hWr.2 hK ht hv v0 hkid hW hkk hu q7
  by_cases q8 : kk = 8
  · exact plan_distinct hl hd hb hp1 a4 a5 hWr.1 hWr.2 hK ht hv v0 hkid hW hkk q8
  have q9 : kk = 9 := by omega
  by_cases hw1 : 1 < W
  · exact plan_group2 hl hd hb hp1 a4 a5 hWr.1 hWr.2 hK ht hv v0 hkid hW hkk hw1 q9
  · exact plan_group1 hl hd hb hp1 a4 a5 hWr.1 hWr.2 hK ht hv v0 hkid hW hkk hw1 q9
theorem PlanOk.le {l : List UInt8} {ws : List Int} {k : Nat} {d j c c' : Nat} (h : PlanOk l ws k d j c) (hc : c ≤ c') : PlanOk l ws k d j c' := by
  intro p u h0 h1 hu0 hu1
  obtain ⟨P, p', u', j', b1, b2, b3, b4, b5, b6, b7⟩ := h p u h0 (by omega) hu0 hu1
  exact ⟨P, p', u', j', b1, b2, b3, by omega, b5, b6, b7⟩
/-- No joins. -/
theorem plan_none {l : List UInt8} (hl : l.length ≤ 2000) {ws : List Int} (hw : ∀ w ∈ ws, 0 ≤ w ∧ w ≤ 6) (hwl : ws.length < 1000000) {k : Nat} (hk0 : 0 < k) (hkl : k ≤ ws.length) : ∀ d : Nat, d < 50 → PlanOk l ws k d 0 (500 * d + 1)
  | 0, _ => (plan_zero hl 0).le (by omega)
  | d + 1, h => (plan_step hl hw hwl hk0 hkl (c2 := 0) (by omega) (by omega) (plan_none hl hw hwl hk0 hkl d (by omega)) (fun i hi => by omega)).le (by omega)
/-- One join. -/
theorem plan_one {l : List UInt8} (hl : l.length ≤ 2000) {ws : List Int} (hw : ∀ w ∈ ws, 0 ≤ w ∧ w ≤ 6) (hwl : ws.length < 1000000) {k : Nat} (hk0 : 0 < k) (hkl : k ≤ ws.length) : ∀ d : Nat, d < 50 → PlanOk l ws k d 1 (2000 * d + 1)
  | 0, _ => (plan_zero hl 1).le (by omega)
  | d + 1, h => (plan_step hl hw hwl hk0 hkl (c2 := 501) (by omega) (by omega) (plan_one hl hw hwl hk0 hkl d (by omega)) (fun i hi y hy => by
      obtain rfl : i = 0 := by omega
      exact (plan_none hl hw hwl hk0 hkl y (by omega)).le (by omega))).le (by omega)
theorem filt_step {e : Ex} {p : Pn} (he : e.size ≤ 120) (hp : p.thin) : (filtP e p).thin := filtP_thin (by omega) hp
/-- A plan over three tables, one join and one union at most. -/
theorem randomPlan_eq {l : List UInt8} (hl : l.length ≤ 2000) {ws : List Int} (hw : ∀ w ∈ ws, 0 ≤ w ∧ w ≤ 6) (hwl : ws.length < 1000000) (hk0 : 0 < ws.length) (p : Int) (h0 : 0 ≤ p) (h1 : p + 20000 < 200000000) : ∃ (P : Pn) (p' : Int),
    callA CP 61 [.own 0 0, .osl 1 1 0 ws.length] [Rd l p, some (.arr 1 (intsL ws))] = some (.i (.agg P.cells), [Rd l p', some (.arr 1 (intsL ws))]) ∧ P.thin ∧ p ≤ p' ∧ p' ≤ p + 20000 := by
  obtain ⟨v, hv, hv1, -⟩ := pick_eq l p 4 h0 (by omega) hl
  obtain ⟨v0, v1⟩ := hv1 (by omega)
  obtain ⟨y, rfl⟩ : ∃ y : Nat, v = y := ⟨v.toNat, by omega⟩
  have w1 : IntKind.i64.wrap (1 + (y : Int)) = ((y + 1 : Nat) : Int) := by rw [wrap64 (by omega) (by omega)]; omega
  obtain ⟨P, p1, u', j', hP, hPt, b1, b2, b3, b4, b5⟩ := plan_one hl hw hwl hk0 (Nat.le_refl _) (y + 1) (by omega) (p + 1) 1 (by omega) (by omega) (by omega) (by omega)
  simp only [PSt, Int.natCast_one, Int.natCast_add] at hP
  obtain ⟨z, hz, -, -⟩ := pick_eq l p1 2 (by omega) (by omega) hl
  by_cases hz0 : z = 0
  · have hW := splanWidth_own hw hwl hk0 (Nat.le_refl _) P hPt
    rw [List.take_length] at hW
    obtain ⟨e, p2, he, a1, a2, a3⟩ := randomCondition_eq l hl (P.wd ws 8) (p1 + 1) (by omega) (by omega)
    have hf := filterOf_eq e P
    refine ⟨filtP e P, p2, ?_, filt_step a3 hPt, by omega, by omega⟩
    rw [callA_eq rfl Try.func61 rfl rfl]
    rw [filtP_cells, Pn.cells_eq P, Ex.cells_eq e] at hf
    rw [Ex.cells_eq e] at he
    rw [Pn.cells_eq P] at hP hW
    rw [filtP_cells, Pn.cells_eq P, Ex.cells_eq e]
    simp [hv, w1, hP, hz, hz0, hW, he, hf]
  · refine ⟨P, p1 + 1, ?_, hPt, by omega, by omega⟩
    rw [callA_eq rfl Try.func61 rfl rfl]
    rw [Pn.cells_eq P] at hP ⊢
    simp [hv, w1, hP, hz, hz0]
end Go.Proofs.Yteihcffblfdgfaa.P

/- Drawing the arguments of FoldView. No condition. -/
namespace Go.Proofs.Yteihcffblfdgfaa.P
open Go Go.Av
set_option maxRecDepth 4000
set_option maxHeartbeats 8000000
theorem ints3 (a b c : Int) : intsL [a, b, c] = [[.int a], [.int b], [.int c]] := by simp [intsL]
theorem scan2_cells : (Pn.mk 1 2 [] [] []).cells = [.int 1, .int 2, .isl [], .isl [], .isl []] := by simp [Pn.cells, Ex.cellsL, intsL, Pn.cellsL]
theorem viewOf_eq {l : List UInt8} (hl : l.length ≤ 2000) : ∃ (P V : Pn) (ws : List Int) (t p' : Int), callA CP 24 [.own 0 0] [Rd l 0] = some (.tup [.i (.agg P.cells), .i (.agg V.cells), .i (.isl (intsL ws)), .int t], [Rd l p']) ∧ P.thin ∧ V.thin ∧ ws.length = 3 := by
  obtain ⟨a, b, r, p1, hr, r1, r2, r3, r4, r5, r6, r7⟩ := randomWidths_eq l hl 0 (by omega) (by omega)
  obtain ⟨v, hv, hv1, -⟩ := pick_eq l p1 2 (by omega) (by omega) hl
  obtain ⟨v0, v1⟩ := hv1 (by omega)
  obtain ⟨y, rfl⟩ : ∃ y : Nat, v = y := ⟨v.toNat, by omega⟩
  have w1 : IntKind.i64.wrap (1 + (y : Int)) = y + 1 := by rw [wrap64 (by omega) (by omega)]; omega
  have hw0 : ∀ w ∈ [a, b, 1], 0 ≤ w ∧ w ≤ 6 := by intro w hw; simp at hw; omega
  obtain ⟨V, p2, u', j', hV, hVt, b1, b2, b3, b4, b5⟩ := plan_none hl (ws := [a, b, 1]) hw0 (by simp) (k := 2) (by omega) (by simp) (y + 1) (by omega) (p1 + 1) 0 (by omega) (by omega) (by omega) (by omega)
  simp only [PSt, Int.natCast_zero, Int.natCast_add, Int.natCast_one] at hV
  have hW := splanWidth_own (ws := [a, b, 1]) hw0 (by simp) (k := 3) (by omega) (by simp) V hVt
  have hWr := Pn.wd_range (ws := [a, b, 1].take 3) (fun w hm => hw0 w (List.mem_of_mem_take hm)) V 8
  generalize V.wd ([a, b, 1].take 3) 8 = W at hW hWr
  obtain ⟨m, hm, m1, m2⟩ : ∃ m : Int, (if 6 < (if W < 1 then 1 else W) then 6 else (if W < 1 then 1 else W)) = m ∧ 1 ≤ m ∧ m ≤ 6 := ⟨_, rfl, by repeat' split <;> omega, by repeat' split <;> omega⟩
  have hw3 : ∀ w ∈ [a, b, m], 0 ≤ w ∧ w ≤ 6 := by intro w hw; simp at hw; omega
  obtain ⟨Q, p3, hQ, hQt, c1, c2⟩ := randomPlan_eq hl (ws := [a, b, m]) hw3 (by simp) (by simp) p2 (by omega) (by omega)
  obtain ⟨z1, hz1, hz1a, -⟩ := pick_eq l p3 3 (by omega) (by omega) hl
  obtain ⟨z1b, z1c⟩ := hz1a (by omega)
  have hl2 : (2 : Int) ≤ (r.length : Int) + 2 := by omega
  rw [ints3] at hV hW hQ
  simp only [List.length_cons, List.length_nil, Nat.zero_add, Nat.reduceAdd] at hQ
  rw [Pn.cells_eq V] at hV hW
  rw [Pn.cells_eq Q] at hQ
  have hc := cp_copyPlan V hVt
  rw [Pn.cells_eq V] at hc
  by_cases hW0 : 0 < W
  · by_cases h1 : 0 < z1
    · obtain ⟨e, p4, he, a1, a2, a3⟩ := randomCondition_eq l hl W (p3 + 1) (by omega) (by omega)
      have hf := filterOf_eq e V
      rw [filtP_cells, Pn.cells_eq V, Ex.cells_eq e] at hf
      rw [Ex.cells_eq e] at he
      obtain ⟨z2, hz2, -, -⟩ := pick_eq l p4 3 (by omega) (by omega) hl
      by_cases h2 : z2 = 0
      · obtain ⟨t, ht, -⟩ := one_eq l (p4 + 1) (by omega) (by omega) hl [[.int 2], [.int 2], [.int 2], [.int 2], [.int 0], [.int 3]] (by simp) (by simp) (by simp)
        simp only [List.length_cons, List.length_nil, Nat.zero_add, Nat.reduceAdd] at ht
        refine ⟨.mk 6 0 [] [] [V, .mk 1 2 [] [] []], V, [a, b, m], t, (p4 + 1) + 1, ?_, by simp [Pn.thin, Pn.thinL, hVt], hVt, by simp⟩
        rw [callA_eq rfl Try.func24 rfl rfl]
        simp [hl2, hr, hv, w1, hV, hW, hm, hQ, hz1, h1, hW0, ints3, intsL, hz2, h2, ht, he, hc, hf, filtP_cells, Ex.cells_eq e, hc, Pn.cells_mk, Ex.cellsL, Pn.cellsL, scan2_cells, Pn.cells_eq V]
      · obtain ⟨t, ht, -⟩ := one_eq l (p4 + 1) (by omega) (by omega) hl [[.int 2], [.int 2], [.int 2], [.int 2], [.int 0], [.int 3]] (by simp) (by simp) (by simp)
        simp only [List.length_cons, List.length_nil, Nat.zero_add, Nat.reduceAdd] at ht
        refine ⟨filtP e V, V, [a, b, m], t, (p4 + 1) + 1, ?_, filt_step a3 hVt, hVt, by simp⟩
        rw [callA_eq rfl Try.func24 rfl rfl]
        simp [hl2, hr, hv, w1, hV, hW, hm, hQ, hz1, h1, hW0, ints3, intsL, hz2, h2, ht, he, hc, hf, filtP_cells, Ex.cells_eq e, Pn.cells_eq V]
    · skip
      obtain ⟨z2, hz2, -, -⟩ := pick_eq l (p3 + 1) 3 (by omega) (by omega) hl
      by_cases h2 : z2 = 0
      · obtain ⟨t, ht, -⟩ := one_eq l ((p3 + 1) + 1) (by omega) (by omega) hl [[.int 2], [.int 2], [.int 2], [.int 2], [.int 0], [.int 3]] (by simp) (by simp) (by simp)
        simp only [List.length_cons, List.length_nil, Nat.zero_add, Nat.reduceAdd] at ht
        refine ⟨.mk 6 0 [] [] [V, .mk 1 2 [] [] []], V, [a, b, m], t, ((p3 + 1) + 1) + 1, ?_, by simp [Pn.thin, Pn.thinL, hVt], hVt, by simp⟩
        rw [callA_eq rfl Try.func24 rfl rfl]
        simp [hl2, hr, hv, w1, hV, hW, hm, hQ, hz1, h1, hW0, ints3, intsL, hz2, h2, ht, Pn.cells_eq Q, hc, Pn.cells_mk, Ex.cellsL, Pn.cellsL, scan2_cells, Pn.cells_eq V]
      · obtain ⟨t, ht, -⟩ := one_eq l ((p3 + 1) + 1) (by omega) (by omega) hl [[.int 2], [.int 2], [.int 2], [.int 2], [.int 0], [.int 3]] (by simp) (by simp) (by simp)
        simp only [List.length_cons, List.length_nil, Nat.zero_add, Nat.reduceAdd] at ht
        refine ⟨Q, V, [a, b, m], t, ((p3 + 1) + 1) + 1, ?_, hQt, hVt, by simp⟩
        rw [callA_eq rfl Try.func24 rfl rfl]
        simp [hl2, hr, hv, w1, hV, hW, hm, hQ, hz1, h1, hW0, ints3, intsL, hz2, h2, ht, Pn.cells_eq Q, Pn.cells_eq V]
  · by_cases h1 : 0 < z1
    · skip
      obtain ⟨z2, hz2, -, -⟩ := pick_eq l (p3 + 1) 3 (by omega) (by omega) hl
      by_cases h2 : z2 = 0
      · obtain ⟨t, ht, -⟩ := one_eq l ((p3 + 1) + 1) (by omega) (by omega) hl [[.int 2], [.int 2], [.int 2], [.int 2], [.int 0], [.int 3]] (by simp) (by simp) (by simp)
        simp only [List.length_cons, List.length_nil, Nat.zero_add, Nat.reduceAdd] at ht
        refine ⟨Q, V, [a, b, m], t, ((p3 + 1) + 1) + 1, ?_, hQt, hVt, by simp⟩
        rw [callA_eq rfl Try.func24 rfl rfl]
        simp [hl2, hr, hv, w1, hV, hW, hm, hQ, hz1, h1, hW0, ints3, intsL, hz2, h2, ht, Pn.cells_eq Q, Pn.cells_eq V]
      · obtain ⟨t, ht, -⟩ := one_eq l ((p3 + 1) + 1) (by omega) (by omega) hl [[.int 2], [.int 2], [.int 2], [.int 2], [.int 0], [.int 3]] (by simp) (by simp) (by simp)
        simp only [List.length_cons, List.length_nil, Nat.zero_add, Nat.reduceAdd] at ht
        refine ⟨Q, V, [a, b, m], t, ((p3 + 1) + 1) + 1, ?_, hQt, hVt, by simp⟩
        rw [callA_eq rfl Try.func24 rfl rfl]
        simp [hl2, hr, hv, w1, hV, hW, hm, hQ, hz1, h1, hW0, ints3, intsL, hz2, h2, ht, Pn.cells_eq Q, Pn.cells_eq V]
    · skip
      obtain ⟨z2, hz2, -, -⟩ := pick_eq l (p3 + 1) 3 (by omega) (by omega) hl
      by_cases h2 : z2 = 0
      · obtain ⟨t, ht, -⟩ := one_eq l ((p3 + 1) + 1) (by omega) (by omega) hl [[.int 2], [.int 2], [.int 2], [.int 2], [.int 0], [.int 3]] (by simp) (by simp) (by simp)
        simp only [List.length_cons, List.length_nil, Nat.zero_add, Nat.reduceAdd] at ht
        refine ⟨Q, V, [a, b, m], t, ((p3 + 1) + 1) + 1, ?_, hQt, hVt, by simp⟩
        rw [callA_eq rfl Try.func24 rfl rfl]
        simp [hl2, hr, hv, w1, hV, hW, hm, hQ, hz1, h1, hW0, ints3, intsL, hz2, h2, ht, Pn.cells_eq Q, Pn.cells_eq V]
      · obtain ⟨t, ht, -⟩ := one_eq l ((p3 + 1) + 1) (by omega) (by omega) hl [[.int 2], [.int 2], [.int 2], [.int 2], [.int 0], [.int 3]] (by simp) (by simp) (by simp)
        simp only [List.length_cons, List.length_nil, Nat.zero_add, Nat.reduceAdd] at ht
        refine ⟨Q, V, [a, b, m], t, ((p3 + 1) + 1) + 1, ?_, hQt, hVt, by simp⟩
        rw [callA_eq rfl Try.func24 rfl rfl]
        simp [hl2, hr, hv, w1, hV, hW, hm, hQ, hz1, h1, hW0, ints3, intsL, hz2, h2, ht, Pn.cells_eq Q, Pn.cells_eq V]
theorem drawFold_eq (code : List UInt8) : ∃ (P V : Pn) (ws : List Int) (t : Int), callA CP 7 [.i (.isl (bytesI code))] [] = some (.tup [.i (.agg P.cells), .i (.agg V.cells), .i (.isl (intsL ws)), .int t], []) ∧ P.thin ∧ V.thin ∧ ws.length = 3 := by
  obtain ⟨c, hc, hr⟩ := newReader_eq code
  obtain ⟨P, V, ws, t, p', h, h1, h2, h3⟩ := viewOf_eq hc
  refine ⟨P, V, ws, t, ?_, h1, h2, h3⟩
  rw [callA_eq rfl Try.func7 rfl rfl]
  rw [Pn.cells_eq P, Pn.cells_eq V] at *
  simp [hr, h]
end Go.Proofs.Yteihcffblfdgfaa.P

/- The law on counting folded parts. No condition. -/
namespace Go.Av
theorem fvP_thin {p v : Pn} (hp : p.thin) (ws : List Int) (t : Int) : (fvP p v ws t).thin := by
  unfold fvP
  split
  · exact foldP_thin v t p hp
  · exact Pn.zero_thin
theorem fvOk_self {p v : Pn} {ws : List Int} {t : Int} (h : fvOk p v ws t = true) : fvOk v v ws t = true := by
  unfold fvOk at h ⊢
  simp only [Bool.and_eq_true] at h ⊢
  refine ⟨?_, h.2⟩
  have h2 := h.2
  unfold canB at h2
  simp only [Bool.and_eq_true] at h2
  exact h2.1
theorem szP_fold {p v : Pn} {ws : List Int} {t : Int} (h : p.width ws ≠ 0) : szP (foldP v t p) ws ≤ szP p ws := by
  have := foldP_size v t p
  unfold szP
  rw [if_neg h]
  split <;> omega
end Go.Av
namespace Go.Proofs.Yteihcffblfdgfaa.P
open Go Go.Av
set_option maxRecDepth 4000
set_option maxHeartbeats 8000000
@[simp] theorem cp_equalPlans (a : List AV) (st : StL) : callA CP 10 a st = callA C0 10 a st := by rw [callA_prim (p := callA C0 10) rfl]
@[simp] theorem cp_sFoldView (a : List AV) (st : StL) : callA CP 9 a st = callA C0 9 a st := by rw [callA_prim (p := callA C0 9) rfl]
theorem law_foldCount (code : List UInt8) : callA CP 3 [.i (.isl (bytesI code))] [] = some (.bool true, []) := by
  rw [callA_eq rfl Try.func3 rfl rfl]
  by_cases hl : (code.length : Int) > 1048576
  · simp [bytesI_length, hl, show ((1048576 : Int) < code.length) from hl]
  obtain ⟨p, v, ws, t, hd, hp, hv, hws⟩ := drawFold_eq code
  have e1 := FoldView_eq p v hp ws t
  have e2 := sFoldView_eq p v hp hv ws (by omega) t
  have ht := fvP_thin (v := v) hp ws t
  have e3 := equalPlans_eq (fvP p v ws t) ht (fvP p v ws t)
  rw [Pn.eqb_refl] at e3
  rw [Pn.cells_eq p, Pn.cells_eq v] at hd e1 e2
  cases ho : fvOk p v ws t with
  | false =>
    have hn : fvN p v ws t = -1 := by simp [fvN, ho]
    rw [hn] at e1 e2
    generalize fvP p v ws t = q at e1 e2 e3
    rw [Pn.cells_eq q] at e1 e2 e3
    simp [bytesI_length, hl, hd, e1, e2, e3]
  | true =>
    have hw : p.width ws ≠ 0 := by unfold fvOk at ho; simp at ho; exact ho.1
    have hn : fvN p v ws t = cntP v p := by simp [fvN, ho]
    have hq : fvP p v ws t = foldP v t p := by simp [fvP, ho]
    have e4 := FoldView_eq v v hv ws t
    have hn1 : fvN v v ws t = 1 := by simp [fvN, fvOk_self ho, cntP_self]
    have hq1 : fvP v v ws t = Pn.scan t := by simp [fvP, fvOk_self ho, foldP_self]
    have e5 := equalPlans_eq (Pn.scan t) (Pn.scan_thin t) (Pn.scan t)
    rw [Pn.eqb_refl, scan_cells] at e5
    rw [hn1, hq1, scan_cells, Pn.cells_eq v] at e4
    have e6 := PlanSize_eq p hp ws
    have e7 := PlanSize_eq (fvP p v ws t) ht ws
    have hs : szP (fvP p v ws t) ws ≤ szP p ws := by rw [hq]; exact szP_fold hw
    have e8 := equalPlans_eq (fvP p v ws t) ht p
    have h0 : cntP v p = 0 → (fvP p v ws t).eqb p = true := fun h => by rw [hq, foldP_none v t p h]; exact Pn.eqb_refl p
    rw [hn] at e1 e2
    generalize fvP p v ws t = q at e1 e2 e3 e7 e8 hs h0
    rw [Pn.cells_eq q] at e1 e2 e3 e7 e8
    rw [Pn.cells_eq p] at e6 e8
    generalize cntP v p = n at e1 e2 h0
    by_cases hz : n = 0
    · rw [h0 hz] at e8
      subst hz
      simp only [Int.natCast_zero] at e1 e2
      simp [bytesI_length, hl, hd, e1, e2, e3, e4, e5, e6, e7, e8, hs]
    · have hn0 : ¬ (n : Int) < 0 := by omega
      have hn1 : 0 < n := by omega
      simp [bytesI_length, hl, hd, e1, e2, e3, e4, e5, e6, e7, hs, hn0, hn1]
theorem law_foldCount_calls (a : Option Addr) (len cap : Nat) (zs : List Int) (w : World)
    (h : (a = none ∧ len = 0 ∧ cap = 0 ∧ zs = []) ∨ ∃ x, a = some x ∧ len ≤ cap ∧ cap ≤ maxLen ∧ zs.length = cap ∧ (∀ i, i < zs.length → w.cell? (x.add i) = some (.int .u8 (zs.getD i 0))) ∧ ∀ n ∈ zs, (Lit.int .u8 n).wf = true) :
    Calls Try.prog 3 #[.slice a len cap] w fun e w' => e = .returned (.bool true) ∧ RowKit.Below w.heap.size w w' := by
  obtain ⟨code, hc⟩ := bytes_rep h
  exact calls_true soundP (.cons (.i hc) .nil) (law_foldCount code)
end Go.Proofs.Yteihcffblfdgfaa.P

/- ExpandView, TablesOf and isIn. No condition. -/
namespace Go.Proofs.Yteihcffblfdgfaa.P
open Go Go.Av
set_option maxRecDepth 4000
set_option maxHeartbeats 4000000
@[simp] theorem cp_scans (a : List AV) (st : StL) : callA CP 37 a st = callA C0 37 a st := by rw [callA_prim (p := callA C0 37) rfl]
@[simp] theorem cp_deepest (a : List AV) (st : StL) : callA CP 38 a st = callA C0 38 a st := by rw [callA_prim (p := callA C0 38) rfl]
@[simp] theorem cp_height (a : List AV) (st : StL) : callA CP 39 a st = callA C0 39 a st := by rw [callA_prim (p := callA C0 39) rfl]
@[simp] theorem cp_isIn (a : List AV) (st : StL) : callA CP 12 a st = callA C0 12 a st := by rw [callA_prim (p := callA C0 12) rfl]
@[simp] theorem cp_TablesOf (a : List AV) (st : StL) : callA CP 13 a st = callA C0 13 a st := by rw [callA_prim (p := callA C0 13) rfl]
theorem cp_withE {q v : Pn} (hv : v.small) (hq : q.thin) (hy : q.tiny) {t : Int} : callA CP 28 [.own 0 0, .fn (.func 40) [.own 1 0, .own 2 0]] [some (.fbox q.cells), some (.box [.int t]), some (.fbox v.cells)] =
    some (.i (.agg (expP v t q).cells), [some (.fbox q.cells), some (.box [.int t]), some (.fbox v.cells)]) := by
  have h := withE_eq hv (t := t) q hq hy
  simp only [Est, vB, if_true] at h
  rw [Pn.cells_eq q, Pn.cells_eq v] at *
  rw [callA_prim (p := frz1 (callA C0) 28) rfl]
  unfold frz1
  simp [h]
theorem wd_ws4 {p : Pn} {ws : List Int} (h : p.width ws ≠ 0) : ws.length ≤ 4 := by
  unfold Pn.width at h
  split at h
  · rename_i hk; simp [okWs] at hk; omega
  · exact absurd rfl h
theorem ExpandView_good {q v : Pn} (hq : q.thin) (hv : v.thin) {ws : List Int} {t : Int} (h1 : q.width ws ≠ 0) (h2 : canB v ws t = true) (h3 : scP t v = false) (h4 : dsP t q + htP v ≤ 8) (h5 : (expP v t q).width ws ≠ 0) :
    callA CP 14 [.i (.agg q.cells), .i (.agg v.cells), .i (.isl (intsL ws)), .int t] [] = some (.tup [.i (.agg (expP v t q).cells), .bool true], []) := by
  have hvw : v.width ws ≠ 0 := by unfold canB at h2; simp at h2; exact h2.1
  have hvf := Pn.width_fit hvw
  have hqf := Pn.width_fit h1
  have hvs : v.small := ⟨by omega, hv, hvf.1⟩
  have e1 := planWidth_eq q ws
  have e2 := canHold_eq v ws t
  have e3 := scans_eq v hv t
  have e4 := deepest_eq q hq (by omega) t
  have e5 := pheight_eq v hv (by omega)
  have e6 := cp_withE hvs hq hqf.1 (t := t)
  have e7 := planWidth_eq (expP v t q) ws
  have hr := dsP_range t q
  have hs := htP_size q
  have hs2 := htP_size v
  have w1 : IntKind.i64.wrap (dsP t q + htP v) = dsP t q + htP v := wrap64 (by omega) (by omega)
  have w2 : ¬ (8 < dsP t q + (htP v : Int)) := by omega
  rw [h2] at e2
  rw [h3] at e3
  rw [callA_eq rfl Try.func14 rfl rfl]
  generalize expP v t q = x at *
  rw [Pn.cells_eq q, Pn.cells_eq v, Pn.cells_eq x] at *
  try simp at e6
  simp [e1, e2, e3, e4, e5, e6, e7, h1, h5, w1, w2]
def IsX (l : List Int) (t : Int) (i : Nat) : AS :=
  { env := [(0, .i (.isl (intsL l))), (1, .int t), (4, .bool false), (5, .int i), (9, jk i (.bool true)), (17, jk i (.bool false))], st := [] }
theorem isIn_eq (l : List Int) (t : Int) (hl : l.length < 1000000000) : callA C0 12 [.i (.isl (intsL l)), .int t] [] = some (.bool (!l.all fun x => !decide (x = t)), []) := by
  rw [callA_eq rfl Try.func12 rfl rfl]
  obtain ⟨j, h1, h2⟩ := upto_bad (fun x : Int => !decide (x = t)) l
  have hj : j ≤ l.length := by
    rcases h2 with ⟨rfl, -⟩ | ⟨k, hk, -⟩
    · exact Nat.le_refl _
    · exact Nat.le_of_lt (List.getElem?_eq_some_iff.1 hk).1
  simp
  rw [loop_to (IsX l t) j (by simp [IsX])]
  · rcases h2 with ⟨rfl, ha⟩ | ⟨k, hk, -, hb, ha⟩
    · rw [execA_loop, ha]
      simp [IsX]
    · rw [execA_loop, ha]
      have r2 := intsL_nth hk
      have hlt := (List.getElem?_eq_some_iff.1 hk).1
      simp at hb
      simp [IsX, hlt, r2, hb]
  · intro i hi
    obtain ⟨k, hk, -, hb⟩ := h1 i hi
    have r2 := intsL_nth hk
    have hlt := (List.getElem?_eq_some_iff.1 hk).1
    have w2 : IntKind.i64.wrap ((i : Int) + 1) = i + 1 := wrap64 (by omega) (by omega)
    simp at hb
    simp [IsX, hlt, r2, hb, w2]
def TBX (p : Pn) (ws : List Int) (i : Nat) : AS :=
  { env := [(0, .i (.agg [.int p.kind, .int p.table, .isl (Ex.cellsL p.exprs), .isl (intsL p.cols), .isl (Pn.cellsL p.kids)])), (1, .i (.isl (intsL ws))), (2, .own 0 0), (4, .nils), (5, gro 1 1 (tabsN p i).length), (6, jk i (.int (i - 1))), (10, .bool false), (12, .int ws.length), (13, .int i), (14, jk i (.bool true)), (17, jk i (.bool (scP ((i : Int) - 1) p)))],
    st := (if i = 0 then some (.box (impI p.cells)) else some (.fbox p.cells)) :: groB 1 (intsL (tabsN p i)) (tabsN p i).length }
theorem tables_eq (p : Pn) (hp : p.thin) (ws : List Int) (hl : ws.length < 1000) (hw : p.width ws ≠ 0) : callA C0 13 [.i (.agg p.cells), .i (.isl (intsL ws))] [] = some (.i (.isl (intsL (tabsN p ws.length))), []) := by
  have e1 := planWidth_eq p ws
  rw [callA_eq rfl Try.func13 rfl rfl]
  rw [Pn.cells_eq] at *
  simp [e1, hw]
  rw [loop_to (TBX p ws) ws.length (by simp [TBX, tabsN, Pn.cells_eq, hw])]
  · rw [execA_loop]
    by_cases h0 : ws.length = 0
    · simp [TBX, h0, tabsN, intsL]
    · by_cases hm : (tabsN p ws.length).length = 0
      · have := List.length_eq_zero_iff.1 hm
        simp [TBX, this, intsL, h0]
      · simp [TBX, h0, gro_pos hm, groB_pos hm]
  · intro i hi
    have hs := scans_eq p hp i
    have w2 : IntKind.i64.wrap ((i : Int) + 1) = i + 1 := wrap64 (by omega) (by omega)
    have hlen := tabsN_len (p := p) (n := i)
    rw [Pn.cells_eq] at hs
    cases hsc : scP (i : Int) p with
    | false =>
      rw [hsc] at hs
      have ht : tabsN p (i + 1) = tabsN p i := by simp [tabsN, hsc]
      by_cases hm : (tabsN p i).length = 0
      · by_cases h0 : i = 0
        · subst h0; simp at hs hsc; simp [TBX, hi, hs, ht, wrap_1, hsc, Pn.cells_eq, tabsN]
        · have := List.length_eq_zero_iff.1 hm
          simp [TBX, hi, hs, ht, w2, hsc, Pn.cells_eq, jk_pos h0, this, h0]
      · have h0 : i ≠ 0 := fun e => by subst e; simp [tabsN] at hm
        simp [TBX, hi, hs, ht, w2, hsc, Pn.cells_eq, jk_pos h0, h0, gro_pos hm, groB_pos hm]
    | true =>
      rw [hsc] at hs
      have ht : tabsN p (i + 1) = tabsN p i ++ [(i : Int)] := by simp [tabsN, hsc]
      by_cases hm : (tabsN p i).length = 0
      · have hz := List.length_eq_zero_iff.1 hm
        by_cases h0 : i = 0
        · subst h0; simp at hs hsc; simp [TBX, hi, hs, ht, wrap_1, hsc, Pn.cells_eq, tabsN, intsL]
        · simp [TBX, hi, hs, ht, w2, hsc, Pn.cells_eq, jk_pos h0, hz, h0, intsL]
      · have h0 : i ≠ 0 := fun e => by subst e; simp [tabsN] at hm
        have hl1 : ((tabsN p i).length + 1) * 8 ≤ 140737488355328 := by omega
        simp [TBX, hi, hs, ht, w2, hsc, Pn.cells_eq, jk_pos h0, h0, gro_pos hm, groB_pos hm, intsL_snoc, hl1]
theorem isIn_tab (p : Pn) (hp : p.thin) (ws : List Int) (t : Int) (h0 : 0 ≤ t) (h1 : t < ws.length) (hw : p.width ws ≠ 0) :
    ∃ l, callA C0 13 [.i (.agg p.cells), .i (.isl (intsL ws))] [] = some (.i (.isl (intsL l)), []) ∧ callA C0 12 [.i (.isl (intsL l)), .int t] [] = some (.bool (scP t p), []) := by
  have hk := wd_ws4 hw
  refine ⟨tabsN p ws.length, tables_eq p hp ws (by omega) hw, ?_⟩
  have hlen := tabsN_len (p := p) (n := ws.length)
  rw [isIn_eq _ _ (by omega)]
  congr 3
  have hm := tabsN_mem (p := p) (t := t) (n := ws.length)
  cases hs : scP t p with
  | true => 
    have : t ∈ tabsN p ws.length := hm.2 ⟨h0, h1, hs⟩
    simp
    exact this
  | false =>
    simp
    intro x hx e
    subst e
    have := (hm.1 hx).2.2
    rw [hs] at this; cases this
end Go.Proofs.Yteihcffblfdgfaa.P

/- The law on expanding folded views. No condition. -/
namespace Go.Proofs.Yteihcffblfdgfaa.P
open Go Go.Av
set_option maxRecDepth 4000
set_option maxHeartbeats 8000000
theorem law_foldView (code : List UInt8) : callA CP 4 [.i (.isl (bytesI code))] [] = some (.bool true, []) := by
  rw [callA_eq rfl Try.func4 rfl rfl]
  by_cases hl : (code.length : Int) > 1048576
  · simp [bytesI_length, hl, show ((1048576 : Int) < code.length) from hl]
  obtain ⟨p, v, ws, t, hd, hp, hv, hws⟩ := drawFold_eq code
  have e1 := FoldView_eq p v hp ws t
  have e2 := sFoldView_eq p v hp hv ws (by omega) t
  have ht := fvP_thin (v := v) hp ws t
  have e3 := equalPlans_eq (fvP p v ws t) ht (fvP p v ws t)
  rw [Pn.eqb_refl] at e3
  cases ho : fvOk p v ws t with
  | false =>
    rw [Pn.cells_eq p, Pn.cells_eq v] at hd e1 e2
    have hn : fvN p v ws t = -1 := by simp [fvN, ho]
    rw [hn] at e1 e2
    generalize fvP p v ws t = q at e1 e2 e3
    rw [Pn.cells_eq q] at e1 e2 e3
    simp [bytesI_length, hl, hd, e1, e2, e3]
  | true =>
    have hw : p.width ws ≠ 0 := by unfold fvOk at ho; simp at ho; exact ho.1
    have hc : canB v ws t = true := by unfold fvOk at ho; simp at ho; exact ho.2
    have hcc := hc
    unfold canB at hcc
    simp only [Bool.and_eq_true, decide_eq_true_eq] at hcc
    obtain ⟨c1, c2, c3, c4⟩ := hcc
    have hn : fvN p v ws t = cntP v p := by simp [fvN, ho]
    have hq : fvP p v ws t = foldP v t p := by simp [fvP, ho]
    have e4 := isIn_tab p hp ws t c2 c3 hw
    have e5 := isIn_tab v hv ws t c2 c3 c1
    have hn0 : ¬ (cntP v p : Int) < 0 := by omega
    cases hs : scP t p with
    | true =>
      rw [hs] at e4
      obtain ⟨l1, e4a, e4b⟩ := e4
      rw [Pn.cells_eq p, Pn.cells_eq v] at hd e1 e2
      rw [Pn.cells_eq p] at e4a
      rw [hn] at e1 e2
      generalize fvP p v ws t = q at e1 e2 e3
      generalize cntP v p = n at e1 e2 hn0
      rw [Pn.cells_eq q] at e1 e2 e3
      simp [bytesI_length, hl, hd, e1, e2, e3, hn0, e4a, e4b]
    | false =>
      rw [hs] at e4
      obtain ⟨l1, e4a, e4b⟩ := e4
      cases hs2 : scP t v with
      | true =>
        rw [hs2] at e5
        obtain ⟨l2, e5a, e5b⟩ := e5
        rw [Pn.cells_eq p, Pn.cells_eq v] at hd e1 e2
        rw [Pn.cells_eq p] at e4a
        rw [Pn.cells_eq v] at e5a
        rw [hn] at e1 e2
        generalize fvP p v ws t = q at e1 e2 e3
        generalize cntP v p = n at e1 e2 hn0
        rw [Pn.cells_eq q] at e1 e2 e3
        simp [bytesI_length, hl, hd, e1, e2, e3, hn0, e4a, e4b, e5a, e5b]
      | false =>
        rw [hs2] at e5
        obtain ⟨l2, e5a, e5b⟩ := e5
        have hx := exp_fold v t p hs
        have e6 := ExpandView_good (q := fvP p v ws t) ht hv (ws := ws) (t := t) (by rw [hq, foldP_width hw c2 c4]; exact hw) hc hs2 (by rw [hq]; exact fold_levels hw c1 hs) (by rw [hq, hx]; exact hw)
        rw [hq, hx, ← hq] at e6
        have e7 := equalPlans_eq p hp p
        rw [Pn.eqb_refl] at e7
        rw [Pn.cells_eq p, Pn.cells_eq v] at hd e1 e2
        rw [Pn.cells_eq p] at e4a e6 e7
        rw [Pn.cells_eq v] at e5a e6
        rw [hn] at e1 e2
        generalize fvP p v ws t = q at e1 e2 e3 e6
        generalize cntP v p = n at e1 e2 hn0
        rw [Pn.cells_eq q] at e1 e2 e3 e6
        simp [bytesI_length, hl, hd, e1, e2, e3, hn0, e4a, e4b, e5a, e5b, e6, e7]
theorem law_foldView_calls (a : Option Addr) (len cap : Nat) (zs : List Int) (w : World)
    (h : (a = none ∧ len = 0 ∧ cap = 0 ∧ zs = []) ∨ ∃ x, a = some x ∧ len ≤ cap ∧ cap ≤ maxLen ∧ zs.length = cap ∧ (∀ i, i < zs.length → w.cell? (x.add i) = some (.int .u8 (zs.getD i 0))) ∧ ∀ n ∈ zs, (Lit.int .u8 n).wf = true) :
    Calls Try.prog 4 #[.slice a len cap] w fun e w' => e = .returned (.bool true) ∧ RowKit.Below w.heap.size w w' := by
  obtain ⟨code, hc⟩ := bytes_rep h
  exact calls_true soundP (.cons (.i hc) .nil) (law_foldView code)
end Go.Proofs.Yteihcffblfdgfaa.P

/- Part 6 of what the proof rests on: the executor and what it is worth, and the program's functions as it runs them. No condition. -/
import Derived.Test.YteihcffblfdgfaaGreatT5
set_option linter.unusedVariables false
set_option linter.unusedSimpArgs false
namespace Go.Proofs.YteihcffblfdgfaaGreat.P
open Go Go.Av
set_option maxRecDepth 4000
set_option maxHeartbeats 8000000
@[simp] theorem wr8 : IntKind.i64.wrap 8 = 8 := by decide
def pw (i : Nat) : Int := if i = 0 then 1 else if i = 1 then 2 else if i = 2 then 4 else 8
def TSO (k : Int) (a b : Nat) (i : Nat) : AS :=
  { env := [(0, .int k), (1, .int a), (2, .int b), (6, .int 0), (7, .int (tsO k a b i)), (8, .int (pw i)), (9, jk i (.int 8)), (11, jk i (.bool true)), (15, jk i (.bool false)), (29, jk i (.bool (hasS a (pw (i - 1)) && hasS b 4)))], st := [] }
def TSI (k : Int) (a b : Nat) (i : Nat) (j : Nat) : AS :=
  { env := [(0, .int k), (1, .int a), (2, .int b), (6, .int 0), (7, .int (tsI k a b (pw i) (tsO k a b i) j)), (8, .int (pw i)), (9, .int (pw j)), (11, .bool true), (15, if j = 0 then jk i (.bool false) else .bool true), (29, if j = 0 then jk i (.bool (hasS a (pw (i - 1)) && hasS b 4)) else .bool (hasS a (pw i) && hasS b (pw (j - 1))))], st := [] }
theorem has_one {a : Nat} (ha : a < 8) : IntKind.i64.wrap (a : Int) = a ∧ (hasS a 1 = decide ((a : Int).tmod 2 = 1)) := by
  refine ⟨wrap64 (by omega) (by omega), ?_⟩
  unfold hasS
  rw [Int.tmod_eq_emod_of_nonneg (by omega), Int.ediv_one]
theorem has_div {a : Nat} (ha : a < 8) {x : Int} (hx : 0 < x) (hx8 : x < 8) : IntKind.i64.wrap ((a : Int) / x) = (a : Int) / x ∧ (hasS a x = decide (((a : Int) / x).tmod 2 = 1)) := by
  have h2 : 0 ≤ (a : Int) / x := Int.ediv_nonneg (by omega) (by omega)
  have h3 : (a : Int) / x ≤ a := Int.ediv_le_self _ (by omega)
  refine ⟨wrap64 (by omega) (by omega), ?_⟩
  unfold hasS
  rw [Int.tmod_eq_emod_of_nonneg h2]
theorem valueX_eq (x : Int) : callA C0 161 [.int x] [] = some (.i (.agg [.bool (valX x).null, .int (valX x).n]), []) := valueOf_eq x
theorem tsI_succ {k a b x s : Int} {j : Nat} {y : Int} (h : (([1, 2, 4] : List Int))[j]? = some y) : tsI k a b x s (j + 1) = if (hasS a x && hasS b y) = true then orS (tsI k a b x s j) (stV (Val.cmb k (valX x) (valX y))) else tsI k a b x s j := by
  unfold tsI; rw [take_snoc h, List.foldl_append]; rfl
theorem tsO_succ {k a b : Int} {i : Nat} {x : Int} (h : (([1, 2, 4] : List Int))[i]? = some x) : tsO k a b (i + 1) = tsI k a b x (tsO k a b i) 3 := by
  unfold tsO; rw [take_snoc h, List.foldl_append]; rfl
theorem truthStates_8 {a b : Nat} (ha : a < 8) (hb : b < 8) : callA C0 153 [.int 8, .int a, .int b] [] = some (.int (tsO 8 a b 3), []) := by
  rw [callA_eq rfl Tryz.func153 rfl rfl]
  obtain ⟨a1, b1⟩ := has_one ha
  obtain ⟨a2, b2⟩ := has_div ha (x := 2) (by omega) (by omega)
  obtain ⟨a4, b4⟩ := has_div ha (x := 4) (by omega) (by omega)
  obtain ⟨c1, d1⟩ := has_one hb
  obtain ⟨c2, d2⟩ := has_div hb (x := 2) (by omega) (by omega)
  obtain ⟨c4, d4⟩ := has_div hb (x := 4) (by omega) (by omega)
  simp
  rw [loop_to (TSO 8 a b) 3 (by simp [TSO, tsO, pw])]
  · rw [execA_loop]
    simp [TSO, pw]
  · intro i hi
    have hi3 : i = 0 ∨ i = 1 ∨ i = 2 := by omega
    rcases hi3 with rfl | rfl | rfl
    · have hsc := tsO_succ (k := 8) (a := a) (b := b) (i := 0) (x := 1) rfl
      have hlo := tsO_low (k := 8) (a := a) (b := b) 0
      simp [TSO, pw]
      rw [loop_to (TSI 8 a b 0) 3 (by simp [TSI, tsI, pw])]
      · rw [execA_loop]
        simp [TSI, TSO, pw, hsc]
      · intro j hj
        have hj3 : j = 0 ∨ j = 1 ∨ j = 2 := by omega
        rcases hj3 with rfl | rfl | rfl
        · have hs := tsI_succ (k := 8) (a := a) (b := b) (x := 1) (s := tsO 8 a b 0) (j := 0) (y := 1) rfl
          obtain ⟨m, m1, m2⟩ := tsI_low (k := 8) (a := a) (b := b) (x := 1) hlo 0
          obtain ⟨n, n1, n2⟩ := stV_low (Val.cmb 8 (valX 1) (valX 1))
          have hcm := scomb_eq (k := 8) (x := 1) (y := 1) (by omega) (by omega) (by omega)
          have hst := sstate_eq (Val.cmb 8 (valX 1) (valX 1)).null (Val.cmb 8 (valX 1) (valX 1)).n
          rw [show stV ⟨(Val.cmb 8 (valX 1) (valX 1)).null, (Val.cmb 8 (valX 1) (valX 1)).n⟩ = stV (Val.cmb 8 (valX 1) (valX 1)) from rfl, n1] at hst
          rw [m1, n1, orS_nat] at hs
          by_cases p : hasS a 1 = true
          · by_cases q : hasS b 1 = true
            · rw [p, q] at hs
              simp only [Bool.and_self, if_true] at hs
              have p' := p; have q' := q
              rw [b1, decide_eq_true_eq] at p'
              rw [d1, decide_eq_true_eq] at q'
              simp [TSI, pw, a1, c1, p', q', p, q, valueX_eq, hcm, hst, m1, mod8 m2, mod8 n2, or8 m2 n2, hs]
            · have q2 : hasS b 1 = false := by simpa using q
              rw [p, q2] at hs
              simp only [Bool.and_false, Bool.false_eq_true, if_false] at hs
              have p' := p; have q' := q
              rw [b1, decide_eq_true_eq] at p'
              rw [d1, decide_eq_true_eq] at q'
              simp [TSI, pw, a1, c1, p', q', p, q2, m1, hs]
          · have p2 : hasS a 1 = false := by simpa using p
            rw [p2] at hs
            simp only [Bool.false_and, Bool.false_eq_true, if_false] at hs
            have p' := p
            rw [b1, decide_eq_true_eq] at p'
            simp [TSI, pw, a1, p', p2, m1, hs]
        · have hs := tsI_succ (k := 8) (a := a) (b := b) (x := 1) (s := tsO 8 a b 0) (j := 1) (y := 2) rfl
          obtain ⟨m, m1, m2⟩ := tsI_low (k := 8) (a := a) (b := b) (x := 1) hlo 1
          obtain ⟨n, n1, n2⟩ := stV_low (Val.cmb 8 (valX 1) (valX 2))
          have hcm := scomb_eq (k := 8) (x := 1) (y := 2) (by omega) (by omega) (by omega)
          have hst := sstate_eq (Val.cmb 8 (valX 1) (valX 2)).null (Val.cmb 8 (valX 1) (valX 2)).n
          rw [show stV ⟨(Val.cmb 8 (valX 1) (valX 2)).null, (Val.cmb 8 (valX 1) (valX 2)).n⟩ = stV (Val.cmb 8 (valX 1) (valX 2)) from rfl, n1] at hst
          rw [m1, n1, orS_nat] at hs
          by_cases p : hasS a 1 = true
          · by_cases q : hasS b 2 = true
            · rw [p, q] at hs
              simp only [Bool.and_self, if_true] at hs
              have p' := p; have q' := q
              rw [b1, decide_eq_true_eq] at p'
              rw [d2, decide_eq_true_eq] at q'
              simp [TSI, pw, a1, c2, p', q', p, q, valueX_eq, hcm, hst, m1, mod8 m2, mod8 n2, or8 m2 n2, hs]
            · have q2 : hasS b 2 = false := by simpa using q
              rw [p, q2] at hs
              simp only [Bool.and_false, Bool.false_eq_true, if_false] at hs
              have p' := p; have q' := q
              rw [b1, decide_eq_true_eq] at p'
              rw [d2, decide_eq_true_eq] at q'
              simp [TSI, pw, a1, c2, p', q', p, q2, m1, hs]
          · have p2 : hasS a 1 = false := by simpa using p
            rw [p2] at hs
            simp only [Bool.false_and, Bool.false_eq_true, if_false] at hs
            have p' := p
            rw [b1, decide_eq_true_eq] at p'
            simp [TSI, pw, a1, p', p2, m1, hs]
        · have hs := tsI_succ (k := 8) (a := a) (b := b) (x := 1) (s := tsO 8 a b 0) (j := 2) (y := 4) rfl
          obtain ⟨m, m1, m2⟩ := tsI_low (k := 8) (a := a) (b := b) (x := 1) hlo 2
          obtain ⟨n, n1, n2⟩ := stV_low (Val.cmb 8 (valX 1) (valX 4))
          have hcm := scomb_eq (k := 8) (x := 1) (y := 4) (by omega) (by omega) (by omega)
          have hst := sstate_eq (Val.cmb 8 (valX 1) (valX 4)).null (Val.cmb 8 (valX 1) (valX 4)).n
          rw [show stV ⟨(Val.cmb 8 (valX 1) (valX 4)).null, (Val.cmb 8 (valX 1) (valX 4)).n⟩ = stV (Val.cmb 8 (valX 1) (valX 4)) from rfl, n1] at hst
          rw [m1, n1, orS_nat] at hs
          by_cases p : hasS a 1 = true
          · by_cases q : hasS b 4 = true
            · rw [p, q] at hs
              simp only [Bool.and_self, if_true] at hs
              have p' := p; have q' := q
              rw [b1, decide_eq_true_eq] at p'
              rw [d4, decide_eq_true_eq] at q'
              simp [TSI, pw, a1, c4, p', q', p, q, valueX_eq, hcm, hst, m1, mod8 m2, mod8 n2, or8 m2 n2, hs]
            · have q2 : hasS b 4 = false := by simpa using q
              rw [p, q2] at hs
              simp only [Bool.and_false, Bool.false_eq_true, if_false] at hs
              have p' := p; have q' := q
              rw [b1, decide_eq_true_eq] at p'
              rw [d4, decide_eq_true_eq] at q'
              simp [TSI, pw, a1, c4, p', q', p, q2, m1, hs]
          · have p2 : hasS a 1 = false := by simpa using p
            rw [p2] at hs
            simp only [Bool.false_and, Bool.false_eq_true, if_false] at hs
            have p' := p
            rw [b1, decide_eq_true_eq] at p'
            simp [TSI, pw, a1, p', p2, m1, hs]
    · have hsc := tsO_succ (k := 8) (a := a) (b := b) (i := 1) (x := 2) rfl
      have hlo := tsO_low (k := 8) (a := a) (b := b) 1
      simp [TSO, pw]
      rw [loop_to (TSI 8 a b 1) 3 (by simp [TSI, tsI, pw])]
      · rw [execA_loop]
        simp [TSI, TSO, pw, hsc]
      · intro j hj
        have hj3 : j = 0 ∨ j = 1 ∨ j = 2 := by omega
        rcases hj3 with rfl | rfl | rfl
        · have hs := tsI_succ (k := 8) (a := a) (b := b) (x := 2) (s := tsO 8 a b 1) (j := 0) (y := 1) rfl
          obtain ⟨m, m1, m2⟩ := tsI_low (k := 8) (a := a) (b := b) (x := 2) hlo 0
          obtain ⟨n, n1, n2⟩ := stV_low (Val.cmb 8 (valX 2) (valX 1))
          have hcm := scomb_eq (k := 8) (x := 2) (y := 1) (by omega) (by omega) (by omega)
          have hst := sstate_eq (Val.cmb 8 (valX 2) (valX 1)).null (Val.cmb 8 (valX 2) (valX 1)).n
          rw [show stV ⟨(Val.cmb 8 (valX 2) (valX 1)).null, (Val.cmb 8 (valX 2) (valX 1)).n⟩ = stV (Val.cmb 8 (valX 2) (valX 1)) from rfl, n1] at hst
          rw [m1, n1, orS_nat] at hs
          by_cases p : hasS a 2 = true
          · by_cases q : hasS b 1 = true
            · rw [p, q] at hs
              simp only [Bool.and_self, if_true] at hs
              have p' := p; have q' := q
              rw [b2, decide_eq_true_eq] at p'
              rw [d1, decide_eq_true_eq] at q'
              simp [TSI, pw, a2, c1, p', q', p, q, valueX_eq, hcm, hst, m1, mod8 m2, mod8 n2, or8 m2 n2, hs]
            · have q2 : hasS b 1 = false := by simpa using q
              rw [p, q2] at hs
              simp only [Bool.and_false, Bool.false_eq_true, if_false] at hs
              have p' := p; have q' := q
              rw [b2, decide_eq_true_eq] at p'
              rw [d1, decide_eq_true_eq] at q'
              simp [TSI, pw, a2, c1, p', q', p, q2, m1, hs]
          · have p2 : hasS a 2 = false := by simpa using p
            rw [p2] at hs
            simp only [Bool.false_and, Bool.false_eq_true, if_false] at hs
            have p' := p
            rw [b2, decide_eq_true_eq] at p'
            simp [TSI, pw, a2, p', p2, m1, hs]
        · have hs := tsI_succ (k := 8) (a := a) (b := b) (x := 2) (s := tsO 8 a b 1) (j := 1) (y := 2) rfl
          obtain ⟨m, m1, m2⟩ := tsI_low (k := 8) (a := a) (b := b) (x := 2) hlo 1
          obtain ⟨n, n1, n2⟩ := stV_low (Val.cmb 8 (valX 2) (valX 2))
          have hcm := scomb_eq (k := 8) (x := 2) (y := 2) (by omega) (by omega) (by omega)
          have hst := sstate_eq (Val.cmb 8 (valX 2) (valX 2)).null (Val.cmb 8 (valX 2) (valX 2)).n
          rw [show stV ⟨(Val.cmb 8 (valX 2) (valX 2)).null, (Val.cmb 8 (valX 2) (valX 2)).n⟩ = stV (Val.cmb 8 (valX 2) (valX 2)) from rfl, n1] at hst
          rw [m1, n1, orS_nat] at hs
          by_cases p : hasS a 2 = true
          · by_cases q : hasS b 2 = true
            · rw [p, q] at hs
              simp only [Bool.and_self, if_true] at hs
              have p' := p; have q' := q
              rw [b2, decide_eq_true_eq] at p'
              rw [d2, decide_eq_true_eq] at q'
              simp [TSI, pw, a2, c2, p', q', p, q, valueX_eq, hcm, hst, m1, mod8 m2, mod8 n2, or8 m2 n2, hs]
            · have q2 : hasS b 2 = false := by simpa using q
              rw [p, q2] at hs
              simp only [Bool.and_false, Bool.false_eq_true, if_false] at hs
              have p' := p; have q' := q
              rw [b2, decide_eq_true_eq] at p'
              rw [d2, decide_eq_true_eq] at q'
              simp [TSI, pw, a2, c2, p', q', p, q2, m1, hs]
          · have p2 : hasS a 2 = false := by simpa using p
            rw [p2] at hs
            simp only [Bool.false_and, Bool.false_eq_true, if_false] at hs
            have p' := p
            rw [b2, decide_eq_true_eq] at p'
            simp [TSI, pw, a2, p', p2, m1, hs]
        · have hs := tsI_succ (k := 8) (a := a) (b := b) (x := 2) (s := tsO 8 a b 1) (j := 2) (y := 4) rfl
          obtain ⟨m, m1, m2⟩ := tsI_low (k := 8) (a := a) (b := b) (x := 2) hlo 2
          obtain ⟨n, n1, n2⟩ := stV_low (Val.cmb 8 (valX 2) (valX 4))
          have hcm := scomb_eq (k := 8) (x := 2) (y := 4) (by omega) (by omega) (by omega)
          have hst := sstate_eq (Val.cmb 8 (valX 2) (valX 4)).null (Val.cmb 8 (valX 2) (valX 4)).n
          rw [show stV ⟨(Val.cmb 8 (valX 2) (valX 4)).null, (Val.cmb 8 (valX 2) (valX 4)).n⟩ = stV (Val.cmb 8 (valX 2) (valX 4)) from rfl, n1] at hst
          rw [m1, n1, orS_nat] at hs
          by_cases p : hasS a 2 = true
          · by_cases q : hasS b 4 = true
            · rw [p, q] at hs
              simp only [Bool.and_self, if_true] at hs
              have p' := p; have q' := q
              rw [b2, decide_eq_true_eq] at p'
              rw [d4, decide_eq_true_eq] at q'
              simp [TSI, pw, a2, c4, p', q', p, q, valueX_eq, hcm, hst, m1, mod8 m2, mod8 n2, or8 m2 n2, hs]
            · have q2 : hasS b 4 = false := by simpa using q
              rw [p, q2] at hs
              simp only [Bool.and_false, Bool.false_eq_true, if_false] at hs
              have p' := p; have q' := q
              rw [b2, decide_eq_true_eq] at p'
              rw [d4, decide_eq_true_eq] at q'
              simp [TSI, pw, a2, c4, p', q', p, q2, m1, hs]
          · have p2 : hasS a 2 = false := by simpa using p
            rw [p2] at hs
            simp only [Bool.false_and, Bool.false_eq_true, if_false] at hs
            have p' := p
            rw [b2, decide_eq_true_eq] at p'
            simp [TSI, pw, a2, p', p2, m1, hs]
    · have hsc := tsO_succ (k := 8) (a := a) (b := b) (i := 2) (x := 4) rfl
      have hlo := tsO_low (k := 8) (a := a) (b := b) 2
      simp [TSO, pw]
      rw [loop_to (TSI 8 a b 2) 3 (by simp [TSI, tsI, pw])]
      · rw [execA_loop]
        simp [TSI, TSO, pw, hsc]
      · intro j hj
        have hj3 : j = 0 ∨ j = 1 ∨ j = 2 := by omega
        rcases hj3 with rfl | rfl | rfl
        · have hs := tsI_succ (k := 8) (a := a) (b := b) (x := 4) (s := tsO 8 a b 2) (j := 0) (y := 1) rfl
          obtain ⟨m, m1, m2⟩ := tsI_low (k := 8) (a := a) (b := b) (x := 4) hlo 0
          obtain ⟨n, n1, n2⟩ := stV_low (Val.cmb 8 (valX 4) (valX 1))
          have hcm := scomb_eq (k := 8) (x := 4) (y := 1) (by omega) (by omega) (by omega)
          have hst := sstate_eq (Val.cmb 8 (valX 4) (valX 1)).null (Val.cmb 8 (valX 4) (valX 1)).n
          rw [show stV ⟨(Val.cmb 8 (valX 4) (valX 1)).null, (Val.cmb 8 (valX 4) (valX 1)).n⟩ = stV (Val.cmb 8 (valX 4) (valX 1)) from rfl, n1] at hst
          rw [m1, n1, orS_nat] at hs
          by_cases p : hasS a 4 = true
          · by_cases q : hasS b 1 = true
            · rw [p, q] at hs
              simp only [Bool.and_self, if_true] at hs
              have p' := p; have q' := q
              rw [b4, decide_eq_true_eq] at p'
              rw [d1, decide_eq_true_eq] at q'
              simp [TSI, pw, a4, c1, p', q', p, q, valueX_eq, hcm, hst, m1, mod8 m2, mod8 n2, or8 m2 n2, hs]
            · have q2 : hasS b 1 = false := by simpa using q
              rw [p, q2] at hs
              simp only [Bool.and_false, Bool.false_eq_true, if_false] at hs
              have p' := p; have q' := q
              rw [b4, decide_eq_true_eq] at p'
              rw [d1, decide_eq_true_eq] at q'
              simp [TSI, pw, a4, c1, p', q', p, q2, m1, hs]
          · have p2 : hasS a 4 = false := by simpa using p
            rw [p2] at hs
            simp only [Bool.false_and, Bool.false_eq_true, if_false] at hs
            have p' := p
            rw [b4, decide_eq_true_eq] at p'
            simp [TSI, pw, a4, p', p2, m1, hs]
        · have hs := tsI_succ (k := 8) (a := a) (b := b) (x := 4) (s := tsO 8 a b 2) (j := 1) (y := 2) rfl
          obtain ⟨m, m1, m2⟩ := tsI_low (k := 8) (a := a) (b := b) (x := 4) hlo 1
          obtain ⟨n, n1, n2⟩ := stV_low (Val.cmb 8 (valX 4) (valX 2))
          have hcm := scomb_eq (k := 8) (x := 4) (y := 2) (by omega) (by omega) (by omega)
          have hst := sstate_eq (Val.cmb 8 (valX 4) (valX 2)).null (Val.cmb 8 (valX 4) (valX 2)).n
          rw [show stV ⟨(Val.cmb 8 (valX 4) (valX 2)).null, (Val.cmb 8 (valX 4) (valX 2)).n⟩ = stV (Val.cmb 8 (valX 4) (valX 2)) from rfl, n1] at hst
          rw [m1, n1, orS_nat] at hs
          by_cases p : hasS a 4 = true
          · by_cases q : hasS b 2 = true
            · rw [p, q] at hs
              simp only [Bool.and_self, if_true] at hs
              have p' := p; have q' := q
              rw [b4, decide_eq_true_eq] at p'
              rw [d2, decide_eq_true_eq] at q'
              simp [TSI, pw, a4, c2, p', q', p, q, valueX_eq, hcm, hst, m1, mod8 m2, mod8 n2, or8 m2 n2, hs]
            · have q2 : hasS b 2 = false := by simpa using q
              rw [p, q2] at hs
              simp only [Bool.and_false, Bool.false_eq_true, if_false] at hs
              have p' := p; have q' := q
              rw [b4, decide_eq_true_eq] at p'
              rw [d2, decide_eq_true_eq] at q'
              simp [TSI, pw, a4, c2, p', q', p, q2, m1, hs]
          · have p2 : hasS a 4 = false := by simpa using p
            rw [p2] at hs
            simp only [Bool.false_and, Bool.false_eq_true, if_false] at hs
            have p' := p
            rw [b4, decide_eq_true_eq] at p'
            simp [TSI, pw, a4, p', p2, m1, hs]
        · have hs := tsI_succ (k := 8) (a := a) (b := b) (x := 4) (s := tsO 8 a b 2) (j := 2) (y := 4) rfl
          obtain ⟨m, m1, m2⟩ := tsI_low (k := 8) (a := a) (b := b) (x := 4) hlo 2
          obtain ⟨n, n1, n2⟩ := stV_low (Val.cmb 8 (valX 4) (valX 4))
          have hcm := scomb_eq (k := 8) (x := 4) (y := 4) (by omega) (by omega) (by omega)
          have hst := sstate_eq (Val.cmb 8 (valX 4) (valX 4)).null (Val.cmb 8 (valX 4) (valX 4)).n
          rw [show stV ⟨(Val.cmb 8 (valX 4) (valX 4)).null, (Val.cmb 8 (valX 4) (valX 4)).n⟩ = stV (Val.cmb 8 (valX 4) (valX 4)) from rfl, n1] at hst
          rw [m1, n1, orS_nat] at hs
          by_cases p : hasS a 4 = true
          · by_cases q : hasS b 4 = true
            · rw [p, q] at hs
              simp only [Bool.and_self, if_true] at hs
              have p' := p; have q' := q
              rw [b4, decide_eq_true_eq] at p'
              rw [d4, decide_eq_true_eq] at q'
              simp [TSI, pw, a4, c4, p', q', p, q, valueX_eq, hcm, hst, m1, mod8 m2, mod8 n2, or8 m2 n2, hs]
            · have q2 : hasS b 4 = false := by simpa using q
              rw [p, q2] at hs
              simp only [Bool.and_false, Bool.false_eq_true, if_false] at hs
              have p' := p; have q' := q
              rw [b4, decide_eq_true_eq] at p'
              rw [d4, decide_eq_true_eq] at q'
              simp [TSI, pw, a4, c4, p', q', p, q2, m1, hs]
          · have p2 : hasS a 4 = false := by simpa using p
            rw [p2] at hs
            simp only [Bool.false_and, Bool.false_eq_true, if_false] at hs
            have p' := p
            rw [b4, decide_eq_true_eq] at p'
            simp [TSI, pw, a4, p', p2, m1, hs]
theorem truthStates_9 {a b : Nat} (ha : a < 8) (hb : b < 8) : callA C0 153 [.int 9, .int a, .int b] [] = some (.int (tsO 9 a b 3), []) := by
  rw [callA_eq rfl Tryz.func153 rfl rfl]
  obtain ⟨a1, b1⟩ := has_one ha
  obtain ⟨a2, b2⟩ := has_div ha (x := 2) (by omega) (by omega)
  obtain ⟨a4, b4⟩ := has_div ha (x := 4) (by omega) (by omega)
  obtain ⟨c1, d1⟩ := has_one hb
  obtain ⟨c2, d2⟩ := has_div hb (x := 2) (by omega) (by omega)
  obtain ⟨c4, d4⟩ := has_div hb (x := 4) (by omega) (by omega)
  simp
  rw [loop_to (TSO 9 a b) 3 (by simp [TSO, tsO, pw])]
  · rw [execA_loop]
    simp [TSO, pw]
  · intro i hi
    have hi3 : i = 0 ∨ i = 1 ∨ i = 2 := by omega
    rcases hi3 with rfl | rfl | rfl
    · have hsc := tsO_succ (k := 9) (a := a) (b := b) (i := 0) (x := 1) rfl
      have hlo := tsO_low (k := 9) (a := a) (b := b) 0
      simp [TSO, pw]
      rw [loop_to (TSI 9 a b 0) 3 (by simp [TSI, tsI, pw])]
      · rw [execA_loop]
        simp [TSI, TSO, pw, hsc]
      · intro j hj
        have hj3 : j = 0 ∨ j = 1 ∨ j = 2 := by omega
        rcases hj3 with rfl | rfl | rfl
        · have hs := tsI_succ (k := 9) (a := a) (b := b) (x := 1) (s := tsO 9 a b 0) (j := 0) (y := 1) rfl
          obtain ⟨m, m1, m2⟩ := tsI_low (k := 9) (a := a) (b := b) (x := 1) hlo 0
          obtain ⟨n, n1, n2⟩ := stV_low (Val.cmb 9 (valX 1) (valX 1))
          have hcm := scomb_eq (k := 9) (x := 1) (y := 1) (by omega) (by omega) (by omega)
          have hst := sstate_eq (Val.cmb 9 (valX 1) (valX 1)).null (Val.cmb 9 (valX 1) (valX 1)).n
          rw [show stV ⟨(Val.cmb 9 (valX 1) (valX 1)).null, (Val.cmb 9 (valX 1) (valX 1)).n⟩ = stV (Val.cmb 9 (valX 1) (valX 1)) from rfl, n1] at hst
          rw [m1, n1, orS_nat] at hs
          by_cases p : hasS a 1 = true
          · by_cases q : hasS b 1 = true
            · rw [p, q] at hs
              simp only [Bool.and_self, if_true] at hs
              have p' := p; have q' := q
              rw [b1, decide_eq_true_eq] at p'
              rw [d1, decide_eq_true_eq] at q'
              simp [TSI, pw, a1, c1, p', q', p, q, valueX_eq, hcm, hst, m1, mod8 m2, mod8 n2, or8 m2 n2, hs]
            · have q2 : hasS b 1 = false := by simpa using q
              rw [p, q2] at hs
              simp only [Bool.and_false, Bool.false_eq_true, if_false] at hs
              have p' := p; have q' := q
              rw [b1, decide_eq_true_eq] at p'
              rw [d1, decide_eq_true_eq] at q'
              simp [TSI, pw, a1, c1, p', q', p, q2, m1, hs]
          · have p2 : hasS a 1 = false := by simpa using p
            rw [p2] at hs
            simp only [Bool.false_and, Bool.false_eq_true, if_false] at hs
            have p' := p
            rw [b1, decide_eq_true_eq] at p'
            simp [TSI, pw, a1, p', p2, m1, hs]
        · have hs := tsI_succ (k := 9) (a := a) (b := b) (x := 1) (s := tsO 9 a b 0) (j := 1) (y := 2) rfl
          obtain ⟨m, m1, m2⟩ := tsI_low (k := 9) (a := a) (b := b) (x := 1) hlo 1
          obtain ⟨n, n1, n2⟩ := stV_low (Val.cmb 9 (valX 1) (valX 2))
          have hcm := scomb_eq (k := 9) (x := 1) (y := 2) (by omega) (by omega) (by omega)
          have hst := sstate_eq (Val.cmb 9 (valX 1) (valX 2)).null (Val.cmb 9 (valX 1) (valX 2)).n
          rw [show stV ⟨(Val.cmb 9 (valX 1) (valX 2)).null, (Val.cmb 9 (valX 1) (valX 2)).n⟩ = stV (Val.cmb 9 (valX 1) (valX 2)) from rfl, n1] at hst
          rw [m1, n1, orS_nat] at hs
          by_cases p : hasS a 1 = true
          · by_cases q : hasS b 2 = true
            · rw [p, q] at hs
              simp only [Bool.and_self, if_true] at hs
              have p' := p; have q' := q
              rw [b1, decide_eq_true_eq] at p'
              rw [d2, decide_eq_true_eq] at q'
              simp [TSI, pw, a1, c2, p', q', p, q, valueX_eq, hcm, hst, m1, mod8 m2, mod8 n2, or8 m2 n2, hs]
            · have q2 : hasS b 2 = false := by simpa using q
              rw [p, q2] at hs
              simp only [Bool.and_false, Bool.false_eq_true, if_false] at hs
              have p' := p; have q' := q
              rw [b1, decide_eq_true_eq] at p'
              rw [d2, decide_eq_true_eq] at q'
              simp [TSI, pw, a1, c2, p', q', p, q2, m1, hs]
          · have p2 : hasS a 1 = false := by simpa using p
            rw [p2] at hs
            simp only [Bool.false_and, Bool.false_eq_true, if_false] at hs
            have p' := p
            rw [b1, decide_eq_true_eq] at p'
            simp [TSI, pw, a1, p', p2, m1, hs]
        · have hs := tsI_succ (k := 9) (a := a) (b := b) (x := 1) (s := tsO 9 a b 0) (j := 2) (y := 4) rfl
          obtain ⟨m, m1, m2⟩ := tsI_low (k := 9) (a := a) (b := b) (x := 1) hlo 2
          obtain ⟨n, n1, n2⟩ := stV_low (Val.cmb 9 (valX 1) (valX 4))
          have hcm := scomb_eq (k := 9) (x := 1) (y := 4) (by omega) (by omega) (by omega)
          have hst := sstate_eq (Val.cmb 9 (valX 1) (valX 4)).null (Val.cmb 9 (valX 1) (valX 4)).n
          rw [show stV ⟨(Val.cmb 9 (valX 1) (valX 4)).null, (Val.cmb 9 (valX 1) (valX 4)).n⟩ = stV (Val.cmb 9 (valX 1) (valX 4)) from rfl, n1] at hst
          rw [m1, n1, orS_nat] at hs
          by_cases p : hasS a 1 = true
          · by_cases q : hasS b 4 = true
            · rw [p, q] at hs
              simp only [Bool.and_self, if_true] at hs
              have p' := p; have q' := q
              rw [b1, decide_eq_true_eq] at p'
              rw [d4, decide_eq_true_eq] at q'
              simp [TSI, pw, a1, c4, p', q', p, q, valueX_eq, hcm, hst, m1, mod8 m2, mod8 n2, or8 m2 n2, hs]
            · have q2 : hasS b 4 = false := by simpa using q
              rw [p, q2] at hs
              simp only [Bool.and_false, Bool.false_eq_true, if_false] at hs
              have p' := p; have q' := q
              rw [b1, decide_eq_true_eq] at p'
              rw [d4, decide_eq_true_eq] at q'
              simp [TSI, pw, a1, c4, p', q', p, q2, m1, hs]
          · have p2 : hasS a 1 = false := by simpa using p
            rw [p2] at hs
            simp only [Bool.false_and, Bool.false_eq_true, if_false] at hs
            have p' := p
            rw [b1, decide_eq_true_eq] at p'
            simp [TSI, pw, a1, p', p2, m1, hs]
    · have hsc := tsO_succ (k := 9) (a := a) (b := b) (i := 1) (x := 2) rfl
      have hlo := tsO_low (k := 9) (a := a) (b := b) 1
      simp [TSO, pw]
      rw [loop_to (TSI 9 a b 1) 3 (by simp [TSI, tsI, pw])]
      · rw [execA_loop]
        simp [TSI, TSO, pw, hsc]
      · intro j hj
        have hj3 : j = 0 ∨ j = 1 ∨ j = 2 := by omega
        rcases hj3 with rfl | rfl | rfl
        · have hs := tsI_succ (k := 9) (a := a) (b := b) (x := 2) (s := tsO 9 a b 1) (j := 0) (y := 1) rfl
          obtain ⟨m, m1, m2⟩ := tsI_low (k := 9) (a := a) (b := b) (x := 2) hlo 0
          obtain ⟨n, n1, n2⟩ := stV_low (Val.cmb 9 (valX 2) (valX 1))
          have hcm := scomb_eq (k := 9) (x := 2) (y := 1) (by omega) (by omega) (by omega)
          have hst := sstate_eq (Val.cmb 9 (valX 2) (valX 1)).null (Val.cmb 9 (valX 2) (valX 1)).n
          rw [show stV ⟨(Val.cmb 9 (valX 2) (valX 1)).null, (Val.cmb 9 (valX 2) (valX 1)).n⟩ = stV (Val.cmb 9 (valX 2) (valX 1)) from rfl, n1] at hst
          rw [m1, n1, orS_nat] at hs
          by_cases p : hasS a 2 = true
          · by_cases q : hasS b 1 = true
            · rw [p, q] at hs
              simp only [Bool.and_self, if_true] at hs
              have p' := p; have q' := q
              rw [b2, decide_eq_true_eq] at p'
              rw [d1, decide_eq_true_eq] at q'
              simp [TSI, pw, a2, c1, p', q', p, q, valueX_eq, hcm, hst, m1, mod8 m2, mod8 n2, or8 m2 n2, hs]
            · have q2 : hasS b 1 = false := by simpa using q
              rw [p, q2] at hs
              simp only [Bool.and_false, Bool.false_eq_true, if_false] at hs
              have p' := p; have q' := q
              rw [b2, decide_eq_true_eq] at p'
              rw [d1, decide_eq_true_eq] at q'
              simp [TSI, pw, a2, c1, p', q', p, q2, m1, hs]
          · have p2 : hasS a 2 = false := by simpa using p
            rw [p2] at hs
            simp only [Bool.false_and, Bool.false_eq_true, if_false] at hs
            have p' := p
            rw [b2, decide_eq_true_eq] at p'
            simp [TSI, pw, a2, p', p2, m1, hs]
        · have hs := tsI_succ (k := 9) (a := a) (b := b) (x := 2) (s := tsO 9 a b 1) (j := 1) (y := 2) rfl
          obtain ⟨m, m1, m2⟩ := tsI_low (k := 9) (a := a) (b := b) (x := 2) hlo 1
          obtain ⟨n, n1, n2⟩ := stV_low (Val.cmb 9 (valX 2) (valX 2))
          have hcm := scomb_eq (k := 9) (x := 2) (y := 2) (by omega) (by omega) (by omega)
          have hst := sstate_eq (Val.cmb 9 (valX 2) (valX 2)).null (Val.cmb 9 (valX 2) (valX 2)).n
          rw [show stV ⟨(Val.cmb 9 (valX 2) (valX 2)).null, (Val.cmb 9 (valX 2) (valX 2)).n⟩ = stV (Val.cmb 9 (valX 2) (valX 2)) from rfl, n1] at hst
          rw [m1, n1, orS_nat] at hs
          by_cases p : hasS a 2 = true
          · by_cases q : hasS b 2 = true
            · rw [p, q] at hs
              simp only [Bool.and_self, if_true] at hs
              have p' := p; have q' := q
              rw [b2, decide_eq_true_eq] at p'
              rw [d2, decide_eq_true_eq] at q'
              simp [TSI, pw, a2, c2, p', q', p, q, valueX_eq, hcm, hst, m1, mod8 m2, mod8 n2, or8 m2 n2, hs]
            · have q2 : hasS b 2 = false := by simpa using q
              rw [p, q2] at hs
              simp only [Bool.and_false, Bool.false_eq_true, if_false] at hs
              have p' := p; have q' := q
              rw [b2, decide_eq_true_eq] at p'
              rw [d2, decide_eq_true_eq] at q'
              simp [TSI, pw, a2, c2, p', q', p, q2, m1, hs]
          · have p2 : hasS a 2 = false := by simpa using p
            rw [p2] at hs
            simp only [Bool.false_and, Bool.false_eq_true, if_false] at hs
            have p' := p
            rw [b2, decide_eq_true_eq] at p'
            simp [TSI, pw, a2, p', p2, m1, hs]
        · have hs := tsI_succ (k := 9) (a := a) (b := b) (x := 2) (s := tsO 9 a b 1) (j := 2) (y := 4) rfl
          obtain ⟨m, m1, m2⟩ := tsI_low (k := 9) (a := a) (b := b) (x := 2) hlo 2
          obtain ⟨n, n1, n2⟩ := stV_low (Val.cmb 9 (valX 2) (valX 4))
          have hcm := scomb_eq (k := 9) (x := 2) (y := 4) (by omega) (by omega) (by omega)
          have hst := sstate_eq (Val.cmb 9 (valX 2) (valX 4)).null (Val.cmb 9 (valX 2) (valX 4)).n
          rw [show stV ⟨(Val.cmb 9 (valX 2) (valX 4)).null, (Val.cmb 9 (valX 2) (valX 4)).n⟩ = stV (Val.cmb 9 (valX 2) (valX 4)) from rfl, n1] at hst
          rw [m1, n1, orS_nat] at hs
          by_cases p : hasS a 2 = true
          · by_cases q : hasS b 4 = true
            · rw [p, q] at hs
              simp only [Bool.and_self, if_true] at hs
              have p' := p; have q' := q
              rw [b2, decide_eq_true_eq] at p'
              rw [d4, decide_eq_true_eq] at q'
              simp [TSI, pw, a2, c4, p', q', p, q, valueX_eq, hcm, hst, m1, mod8 m2, mod8 n2, or8 m2 n2, hs]
            · have q2 : hasS b 4 = false := by simpa using q
              rw [p, q2] at hs
              simp only [Bool.and_false, Bool.false_eq_true, if_false] at hs
              have p' := p; have q' := q
              rw [b2, decide_eq_true_eq] at p'
              rw [d4, decide_eq_true_eq] at q'
              simp [TSI, pw, a2, c4, p', q', p, q2, m1, hs]
          · have p2 : hasS a 2 = false := by simpa using p
            rw [p2] at hs
            simp only [Bool.false_and, Bool.false_eq_true, if_false] at hs
            have p' := p
            rw [b2, decide_eq_true_eq] at p'
            simp [TSI, pw, a2, p', p2, m1, hs]
    · have hsc := tsO_succ (k := 9) (a := a) (b := b) (i := 2) (x := 4) rfl
      have hlo := tsO_low (k := 9) (a := a) (b := b) 2
      simp [TSO, pw]
      rw [loop_to (TSI 9 a b 2) 3 (by simp [TSI, tsI, pw])]
      · rw [execA_loop]
        simp [TSI, TSO, pw, hsc]
      · intro j hj
        have hj3 : j = 0 ∨ j = 1 ∨ j = 2 := by omega
        rcases hj3 with rfl | rfl | rfl
        · have hs := tsI_succ (k := 9) (a := a) (b := b) (x := 4) (s := tsO 9 a b 2) (j := 0) (y := 1) rfl
          obtain ⟨m, m1, m2⟩ := tsI_low (k := 9) (a := a) (b := b) (x := 4) hlo 0
          obtain ⟨n, n1, n2⟩ := stV_low (Val.cmb 9 (valX 4) (valX 1))
          have hcm := scomb_eq (k := 9) (x := 4) (y := 1) (by omega) (by omega) (by omega)
          have hst := sstate_eq (Val.cmb 9 (valX 4) (valX 1)).null (Val.cmb 9 (valX 4) (valX 1)).n
          rw [show stV ⟨(Val.cmb 9 (valX 4) (valX 1)).null, (Val.cmb 9 (valX 4) (valX 1)).n⟩ = stV (Val.cmb 9 (valX 4) (valX 1)) from rfl, n1] at hst
          rw [m1, n1, orS_nat] at hs
          by_cases p : hasS a 4 = true
          · by_cases q : hasS b 1 = true
            · rw [p, q] at hs
              simp only [Bool.and_self, if_true] at hs
              have p' := p; have q' := q
              rw [b4, decide_eq_true_eq] at p'
              rw [d1, decide_eq_true_eq] at q'
              simp [TSI, pw, a4, c1, p', q', p, q, valueX_eq, hcm, hst, m1, mod8 m2, mod8 n2, or8 m2 n2, hs]
            · have q2 : hasS b 1 = false := by simpa using q
              rw [p, q2] at hs
              simp only [Bool.and_false, Bool.false_eq_true, if_false] at hs
              have p' := p; have q' := q
              rw [b4, decide_eq_true_eq] at p'
              rw [d1, decide_eq_true_eq] at q'
              simp [TSI, pw, a4, c1, p', q', p, q2, m1, hs]
          · have p2 : hasS a 4 = false := by simpa using p
            rw [p2] at hs
            simp only [Bool.false_and, Bool.false_eq_true, if_false] at hs
            have p' := p
            rw [b4, decide_eq_true_eq] at p'
            simp [TSI, pw, a4, p', p2, m1, hs]
        · have hs := tsI_succ (k := 9) (a := a) (b := b) (x := 4) (s := tsO 9 a b 2) (j := 1) (y := 2) rfl
          obtain ⟨m, m1, m2⟩ := tsI_low (k := 9) (a := a) (b := b) (x := 4) hlo 1
          obtain ⟨n, n1, n2⟩ := stV_low (Val.cmb 9 (valX 4) (valX 2))
          have hcm := scomb_eq (k := 9) (x := 4) (y := 2) (by omega) (by omega) (by omega)
          have hst := sstate_eq (Val.cmb 9 (valX 4) (valX 2)).null (Val.cmb 9 (valX 4) (valX 2)).n
          rw [show stV ⟨(Val.cmb 9 (valX 4) (valX 2)).null, (Val.cmb 9 (valX 4) (valX 2)).n⟩ = stV (Val.cmb 9 (valX 4) (valX 2)) from rfl, n1] at hst
          rw [m1, n1, orS_nat] at hs
          by_cases p : hasS a 4 = true
          · by_cases q : hasS b 2 = true
            · rw [p, q] at hs
              simp only [Bool.and_self, if_true] at hs
              have p' := p; have q' := q
              rw [b4, decide_eq_true_eq] at p'
              rw [d2, decide_eq_true_eq] at q'
              simp [TSI, pw, a4, c2, p', q', p, q, valueX_eq, hcm, hst, m1, mod8 m2, mod8 n2, or8 m2 n2, hs]
            · have q2 : hasS b 2 = false := by simpa using q
              rw [p, q2] at hs
              simp only [Bool.and_false, Bool.false_eq_true, if_false] at hs
              have p' := p; have q' := q
              rw [b4, decide_eq_true_eq] at p'
              rw [d2, decide_eq_true_eq] at q'
              simp [TSI, pw, a4, c2, p', q', p, q2, m1, hs]
          · have p2 : hasS a 4 = false := by simpa using p
            rw [p2] at hs
            simp only [Bool.false_and, Bool.false_eq_true, if_false] at hs
            have p' := p
            rw [b4, decide_eq_true_eq] at p'
            simp [TSI, pw, a4, p', p2, m1, hs]
        · have hs := tsI_succ (k := 9) (a := a) (b := b) (x := 4) (s := tsO 9 a b 2) (j := 2) (y := 4) rfl
          obtain ⟨m, m1, m2⟩ := tsI_low (k := 9) (a := a) (b := b) (x := 4) hlo 2
          obtain ⟨n, n1, n2⟩ := stV_low (Val.cmb 9 (valX 4) (valX 4))
          have hcm := scomb_eq (k := 9) (x := 4) (y := 4) (by omega) (by omega) (by omega)
          have hst := sstate_eq (Val.cmb 9 (valX 4) (valX 4)).null (Val.cmb 9 (valX 4) (valX 4)).n
          rw [show stV ⟨(Val.cmb 9 (valX 4) (valX 4)).null, (Val.cmb 9 (valX 4) (valX 4)).n⟩ = stV (Val.cmb 9 (valX 4) (valX 4)) from rfl, n1] at hst
          rw [m1, n1, orS_nat] at hs
          by_cases p : hasS a 4 = true
          · by_cases q : hasS b 4 = true
            · rw [p, q] at hs
              simp only [Bool.and_self, if_true] at hs
              have p' := p; have q' := q
              rw [b4, decide_eq_true_eq] at p'
              rw [d4, decide_eq_true_eq] at q'
              simp [TSI, pw, a4, c4, p', q', p, q, valueX_eq, hcm, hst, m1, mod8 m2, mod8 n2, or8 m2 n2, hs]
            · have q2 : hasS b 4 = false := by simpa using q
              rw [p, q2] at hs
              simp only [Bool.and_false, Bool.false_eq_true, if_false] at hs
              have p' := p; have q' := q
              rw [b4, decide_eq_true_eq] at p'
              rw [d4, decide_eq_true_eq] at q'
              simp [TSI, pw, a4, c4, p', q', p, q2, m1, hs]
          · have p2 : hasS a 4 = false := by simpa using p
            rw [p2] at hs
            simp only [Bool.false_and, Bool.false_eq_true, if_false] at hs
            have p' := p
            rw [b4, decide_eq_true_eq] at p'
            simp [TSI, pw, a4, p', p2, m1, hs]
theorem strue_eq {k a b : Int} (hk : k = 8 ∨ k = 9) (ha : okS a) (hb : okS b) : callA C0 153 [.int k, .int a, .int b] [] = some (.int (cmbS k a b), []) := by
  obtain ⟨m, rfl⟩ := Int.eq_ofNat_of_zero_le (show 0 ≤ a by have := ha.1; omega)
  obtain ⟨n, rfl⟩ := Int.eq_ofNat_of_zero_le (show 0 ≤ b by have := hb.1; omega)
  have hm : m < 8 := by have := ha.2; omega
  have hn : n < 8 := by have := hb.2; omega
  have ht := ts_tab ⟨m, hm⟩ ⟨n, hn⟩
  rcases hk with rfl | rfl
  · rw [truthStates_8 hm hn]; simp only at ht; rw [ht.1]
  · rw [truthStates_9 hm hn]; simp only at ht; rw [ht.2]
end Go.Proofs.YteihcffblfdgfaaGreat.P

namespace Go.Proofs.YteihcffblfdgfaaGreat.P
open Go Go.Av
set_option maxRecDepth 4000
set_option maxHeartbeats 8000000
theorem low3_tab : ∀ m : Fin 8, (m.val &&& 3 = 0 ∧ (hasS m.val 1 || hasS m.val 2) = false) ∨ ((m.val &&& 3 = 1 ∨ m.val &&& 3 = 2 ∨ m.val &&& 3 = 3) ∧ (hasS m.val 1 || hasS m.val 2) = true) := by decide
theorem low3 {m : Nat} (hm : m < 8) : ∃ v : Nat, m &&& 3 = v ∧ IntKind.i64.wrap (v : Int) = v ∧ ((v = 0 ∧ (hasS m 1 || hasS m 2) = false) ∨ (¬ v = 0 ∧ (hasS m 1 || hasS m 2) = true)) := by
  rcases low3_tab ⟨m, hm⟩ with ⟨h, q⟩ | ⟨h | h | h, q⟩
  · exact ⟨0, h, by decide, .inl ⟨rfl, q⟩⟩
  · exact ⟨1, h, by decide, .inr ⟨by omega, q⟩⟩
  · exact ⟨2, h, by decide, .inr ⟨by omega, q⟩⟩
  · exact ⟨3, h, by decide, .inr ⟨by omega, q⟩⟩
theorem soutcomes_eq {W : Int} (st : List Int) (hl : (st.length : Int) = W) (hs : ∀ a ∈ st, okS a) : ∀ e : Ex, e.wf W = true → callA C0 145 [.i (.agg e.cells), .i (.isl (intsL st))] [] = some (.int (outS st e), []) := by
  intro e
  induction e using Ex.ind with
  | h k c v ks ih =>
    intro hw
    have hall := outS_ok st hl hs
    rw [callA_eq rfl Tryz.func145 rfl rfl, Ex.cells_eq, outS_eq]
    rcases Ex.wf_shape hw with ⟨h1, h2, h3, h4⟩ | ⟨h1, h2⟩ | ⟨h1, x, h2, h3⟩ | ⟨h1, x, y, h2, h3, h4⟩
    · generalize Ex.mk k c v ks = e at *
      have hlt : e.col.toNat < st.length := by omega
      have h5 := List.getElem?_eq_getElem hlt
      generalize st[e.col.toNat] = s at h5
      have r2 := intsL_nth h5
      obtain ⟨_, h6⟩ := List.getElem?_eq_some_iff.1 h5
      simp [h1, h2, r2, h6, show e.col < st.length by omega]
    · generalize Ex.mk k c v ks = e at *
      have hst := sstate_eq e.val.null e.val.n
      simp [h1, hst]
    · have hx := ih x (by simp only [Ex.kids] at h2; simp [h2]) h3
      have ho := hall x h3
      generalize Ex.mk k c v ks = e at *
      generalize hso : outS st x = s at hx ho
      rw [Ex.cells_eq] at hx
      rcases h1 with h1 | h1
      · rcases seven ho with rfl | rfl | rfl | rfl | rfl | rfl | rfl <;> (simp [h1, h2, Ex.cellsL, Ex.cells_eq x, hx, hso]; try decide)
      · rcases seven ho with rfl | rfl | rfl | rfl | rfl | rfl | rfl <;> (simp [h1, h2, Ex.cellsL, Ex.cells_eq x, hx, hso]; try decide)
    · have hx := ih x (by simp only [Ex.kids] at h2; simp [h2]) h3
      have hy := ih y (by simp only [Ex.kids] at h2; simp [h2]) h4
      have ho := hall x h3
      have hp := hall y h4
      generalize Ex.mk k c v ks = e at *
      generalize hso : outS st x = s at hx ho
      generalize hto : outS st y = t at hy hp
      rw [Ex.cells_eq] at hx hy
      have q1 : ¬ e.kind = 1 := by omega
      have q2 : ¬ e.kind = 2 := by omega
      have q3 : ¬ e.kind = 10 := by omega
      have q4 : ¬ e.kind = 11 := by omega
      by_cases hk : e.kind = 8 ∨ e.kind = 9
      · have hc := strue_eq (k := e.kind) hk ho hp
        rcases hk with hk | hk <;> (rw [hk] at hc; simp [hk, h2, Ex.cellsL, Ex.cells_eq x, Ex.cells_eq y, hx, hy, hc, hso, hto])
      · have q5 : ¬ e.kind = 8 := by omega
        have q6 : ¬ e.kind = 9 := by omega
        have hcs : cmbS e.kind s t = orS (if hasS (orS s t) 4 = true then 4 else 0) (if (hasS s 1 || hasS s 2) = true ∧ (hasS t 1 || hasS t 2) = true then (if e.kind < 6 then 7 else 3) else 0) := if_neg hk
        obtain ⟨m, rfl⟩ := Int.eq_ofNat_of_zero_le (show 0 ≤ s by have := ho.1; omega)
        obtain ⟨n, rfl⟩ := Int.eq_ofNat_of_zero_le (show 0 ≤ t by have := hp.1; omega)
        have hm : m < 8 := by have := ho.2; omega
        have hn : n < 8 := by have := hp.2; omega
        have h1 := mod8 hm
        have h2' := mod8 hn
        have h3' := or8 hm hn
        have h4' : (m ||| n) % 18446744073709551616 = m ||| n := mod8 (Nat.or_lt_two_pow (n := 3) hm hn)
        obtain ⟨x', x1, x2, x3⟩ := low3 hm
        obtain ⟨y', y1, y2, y3⟩ := low3 hn
        have e7 : orS 0 7 = 7 := by decide
        have e3 : orS 0 3 = 3 := by decide
        have e47 : orS 4 7 = 7 := by decide
        have e43 : orS 4 3 = 7 := by decide
        have e40 : orS 4 0 = 4 := by decide
        have e00 : orS 0 0 = 0 := by decide
        rcases or_four hm hn with ⟨p, q⟩ | ⟨p, q⟩ <;> rcases x3 with ⟨x3, x4⟩ | ⟨x3, x4⟩ <;> rcases y3 with ⟨y3, y4⟩ | ⟨y3, y4⟩ <;> by_cases q7 : e.kind < 6 <;>
          simp [q1, q2, q3, q4, q5, q6, q7, h2, Ex.cellsL, Ex.cells_eq x, Ex.cells_eq y, hx, hy, hso, hto, hcs, h1, h2', h3', h4', p, q, x1, x2, x3, x4, y1, y2, y3, y4, e7, e3, e47, e43, e40, e00]
theorem srejects_eq (e : Ex) {n p m : Nat} (hn : n = p + m) (hb : n < 1000) (h : e.wf n = true) : callA C0 133 [.i (.agg e.cells), .int n, .i (.isl (intsL (colsI p m)))] [] = some (.bool (rejP e n p), []) := by
  have hlen : ((nulls n p).length : Int) = (n : Int) := by rw [nulls_length]; omega
  have ho := soutcomes_eq (nulls n p) hlen (nulls_ok _ _) e h
  have hs := outS_ok (nulls n p) hlen (nulls_ok _ _) e h
  have hns := nullStates_eq hn hb
  rw [callA_eq rfl Tryz.func133 rfl rfl]
  unfold rejP
  generalize outS (nulls n p) e = s at ho hs
  rw [Ex.cells_eq] at *
  rcases seven hs with rfl | rfl | rfl | rfl | rfl | rfl | rfl <;> (simp [hns, ho]; try decide)
end Go.Proofs.YteihcffblfdgfaaGreat.P

namespace Go.Proofs.YteihcffblfdgfaaGreat.P
open Go Go.Av
set_option maxRecDepth 4000
set_option maxHeartbeats 4000000
def RuleC (g : FuncId) (ws : List Int) (r : Int) (p : Pn) : Prop := ∃ (q : Pn) (b : Bool), callA C0 g [.i (.iref p.cells), .i (.isl (intsL ws))] [] = some (.tup [.i (.agg q.cells), .bool b], []) ∧ (b = true → rwP ws r p = some q) ∧ (b = false → ∀ q', rwP ws r p = some q' → ∀ lv, q'.wd ws lv = 0)
@[simp] theorem filt_kind (e : Ex) (k : Pn) : (filt e k).kind = 2 := rfl
@[simp] theorem proj_kind (es : List Ex) (k : Pn) : (proj es k).kind = 3 := rfl
@[simp] theorem pair_kind (kd : Int) (e : Ex) (a b : Pn) : (pairP kd e a b).kind = kd := rfl
@[simp] theorem union_kind (a b : Pn) : (unionP a b).kind = 6 := rfl
theorem rwP_filt (ws : List Int) (r : Int) (e : Ex) (k : Pn) : rwP ws r (filt e k) = rwF ws r e k := by simp [rwP, filt, Pn.ex0, Pn.kid0, Pn.kind, Pn.exprs, Pn.kids]
theorem RuleC.no {g : FuncId} {ws : List Int} {r : Int} {p : Pn} (h : callA C0 g [.i (.iref p.cells), .i (.isl (intsL ws))] [] = some (.tup [.i (.agg Pn.zero.cells), .bool false], [])) (hr : rwP ws r p = none) : RuleC g ws r p := ⟨.zero, false, h, by simp, by simp [hr]⟩
theorem RuleC.yes {g : FuncId} {ws : List Int} {r : Int} {p q : Pn} (h : callA C0 g [.i (.iref p.cells), .i (.isl (intsL ws))] [] = some (.tup [.i (.agg q.cells), .bool true], [])) (hr : rwP ws r p = some q) : RuleC g ws r p := ⟨q, true, h, fun _ => hr, by simp⟩
theorem rule1 {ws : List Int} {p : Pn} {W : Int} (hp : Wd ws p W) : RuleC 73 ws 1 p := by
  by_cases hk : p.kind = 2
  · obtain ⟨e, a, rfl⟩ := Wd_two hp hk
    by_cases hk2 : a.kind = 2
    · obtain ⟨e2, a2, rfl⟩ := Wd_two (Wd_filt hp).1 hk2
      refine .yes (q := filt (andE e2 e) a2) ?_ (by rw [rwP_filt]; simp [rwF, filt, Pn.ex0, Pn.kid0, Pn.kind, Pn.exprs, Pn.kids])
      have h1 := filterOver_yes (e := e) (k := filt e2 a2) (kd := 2) rfl
      have h2 := both_eq e2 e
      have h3 := filterPlan_eq (andE e2 e) a2
      rw [callA_eq rfl Tryz.func73 rfl rfl]
      simp only [filt_cells, andE_cells, Ex.cells_eq e, Ex.cells_eq e2, Pn.cells_eq a2] at h1 h2 h3 ⊢
      simp [h1, h2, h3]
    · refine .no ?_ (by rw [rwP_filt]; simp [rwF, hk2])
      have h1 := filterOver_not (e := e) (k := a) (kd := 2) hk2
      rw [callA_eq rfl Tryz.func73 rfl rfl]
      simp only [filt_cells, zero_cells] at h1 ⊢
      simp [h1]
  · refine .no ?_ (by simp [rwP, hk])
    have h1 := filterOver_no (p := p) (kd := 2) hk
    rw [callA_eq rfl Tryz.func73 rfl rfl]
    simp only [zero_cells, Pn.cells_eq p] at h1 ⊢
    simp [h1]
theorem rule5 {ws : List Int} {p : Pn} {W : Int} (hp : Wd ws p W) : RuleC 77 ws 5 p := by
  by_cases hk : p.kind = 2
  · obtain ⟨e, a, rfl⟩ := Wd_two hp hk
    by_cases hk2 : a.kind = 4
    · obtain ⟨e2, x, y, hx⟩ := Wd_four (Wd_filt hp).1 (.inl hk2)
      rw [hk2] at hx
      subst hx
      refine .yes (q := pairP 4 (andE e2 e) x y) ?_ (by rw [rwP_filt]; simp [rwF, pairP, Pn.ex0, Pn.kid0, Pn.kid1, Pn.kind, Pn.exprs, Pn.kids])
      have h1 := filterOver_yes (e := e) (k := pairP 4 e2 x y) (kd := 4) rfl
      have h2 := both_eq e2 e
      have h3 := pairPlan_eq 4 (andE e2 e) x y
      rw [callA_eq rfl Tryz.func77 rfl rfl]
      simp only [filt_cells, pair_cells, andE_cells, Ex.cells_eq e, Ex.cells_eq e2, Pn.cells_eq x, Pn.cells_eq y] at h1 h2 h3 ⊢
      simp [h1, h2, h3]
    · refine .no ?_ (by rw [rwP_filt]; simp [rwF, hk2])
      have h1 := filterOver_not (e := e) (k := a) (kd := 4) hk2
      rw [callA_eq rfl Tryz.func77 rfl rfl]
      simp only [filt_cells, zero_cells] at h1 ⊢
      simp [h1]
  · refine .no ?_ (by simp [rwP, hk])
    have h1 := filterOver_no (p := p) (kd := 4) hk
    rw [callA_eq rfl Tryz.func77 rfl rfl]
    simp only [zero_cells, Pn.cells_eq p] at h1 ⊢
    simp [h1]
theorem rule8 {ws : List Int} {p : Pn} {W : Int} (hp : Wd ws p W) : RuleC 80 ws 8 p := by
  by_cases hk : p.kind = 2
  · obtain ⟨e, a, rfl⟩ := Wd_two hp hk
    by_cases hk2 : a.kind = 6
    · obtain ⟨x, y, rfl⟩ := Wd_six (Wd_filt hp).1 hk2
      refine .yes (q := unionP (filt e x) (filt e y)) ?_ (by rw [rwP_filt]; simp [rwF, unionP, Pn.ex0, Pn.kid0, Pn.kid1, Pn.kind, Pn.exprs, Pn.kids])
      have h1 := filterOver_yes (e := e) (k := unionP x y) (kd := 6) rfl
      have h2 := filterPlan_eq e x
      have h3 := filterPlan_eq e y
      rw [callA_eq rfl Tryz.func80 rfl rfl]
      simp only [filt_cells, union_cells, Ex.cells_eq e, Pn.cells_eq x, Pn.cells_eq y] at h1 h2 h3 ⊢
      simp [h1, h2, h3]
    · refine .no ?_ (by rw [rwP_filt]; simp [rwF, hk2])
      have h1 := filterOver_not (e := e) (k := a) (kd := 6) hk2
      rw [callA_eq rfl Tryz.func80 rfl rfl]
      simp only [filt_cells, zero_cells] at h1 ⊢
      simp [h1]
  · refine .no ?_ (by simp [rwP, hk])
    have h1 := filterOver_no (p := p) (kd := 6) hk
    rw [callA_eq rfl Tryz.func80 rfl rfl]
    simp only [zero_cells, Pn.cells_eq p] at h1 ⊢
    simp [h1]
theorem rule9 {ws : List Int} {p : Pn} {W : Int} (hp : Wd ws p W) : RuleC 81 ws 9 p := by
  by_cases hk : p.kind = 7
  · obtain ⟨a, rfl⟩ := Wd_sev hp hk
    have hc : (Pn.mk 7 0 [] [] [a]).cells = [.int 7, .int 0, .isl [], .isl [], .isl [a.cells]] := by simp [Pn.cells, Ex.cellsL, intsL, Pn.cellsL]
    by_cases hk2 : a.kind = 7 ∨ a.kind = 8
    · refine .yes (q := a) ?_ (by simp [rwP, Pn.kid0, Pn.kids, hk2])
      rw [callA_eq rfl Tryz.func81 rfl rfl]
      simp only [hc, Pn.cells_eq a]
      rcases hk2 with hk2 | hk2 <;> simp [hk2]
    · refine .no ?_ (by simp [rwP, Pn.kid0, Pn.kids, hk2])
      rw [callA_eq rfl Tryz.func81 rfl rfl]
      simp only [hc, zero_cells, Pn.cells_eq a]
      have h7 : ¬ a.kind = 7 := by omega
      have h8 : ¬ a.kind = 8 := by omega
      simp [h7, h8]
  · refine .no ?_ ?_
    · rw [callA_eq rfl Tryz.func81 rfl rfl]
      simp only [zero_cells, Pn.cells_eq p]
      simp [hk]
    · unfold rwP
      split
      · unfold rwF; simp
      · simp [hk]
theorem rule2 {ws : List Int} {p : Pn} {W : Int} (hp : Wd ws p W) : RuleC 74 ws 2 p := by
  by_cases hk : p.kind = 2
  · obtain ⟨e, a, rfl⟩ := Wd_two hp hk
    by_cases hk2 : e.kind = 8
    · have hw := (Ex.ok_wf (Wd_filt hp).2).1
      obtain ⟨x, y, hxy⟩ : ∃ x y, e.kids = [x, y] := by
        rcases Ex.wf_shape hw with ⟨h, _⟩ | ⟨h, _⟩ | ⟨h, _⟩ | ⟨_, x, y, h, _⟩
        · omega
        · omega
        · omega
        · exact ⟨x, y, h⟩
      refine .yes (q := filt y (filt x a)) ?_ (by rw [rwP_filt]; simp [rwF, hk2, Ex.kid0, Ex.kid1, hxy])
      have h2 := filterPlan_eq x a
      have h3 := filterPlan_eq y (filt x a)
      rw [callA_eq rfl Tryz.func74 rfl rfl]
      simp only [filt_cells, Ex.cells_eq e, hxy, Ex.cellsL, Ex.cells_eq x, Ex.cells_eq y, Pn.cells_eq a] at h2 h3 ⊢
      simp [hk2, h2, h3]
    · refine .no ?_ (by rw [rwP_filt]; simp [rwF, hk2])
      rw [callA_eq rfl Tryz.func74 rfl rfl]
      simp only [filt_cells, zero_cells, Ex.cells_eq e]
      simp [hk2]
  · refine .no ?_ (by simp [rwP, hk])
    rw [callA_eq rfl Tryz.func74 rfl rfl]
    simp only [zero_cells, Pn.cells_eq p]
    simp [hk]
end Go.Proofs.YteihcffblfdgfaaGreat.P

namespace Go.Av
theorem filt8 {ws : List Int} {e : Ex} {a : Pn} (h : (filt e a).wd ws 8 ≠ 0) : a.wd ws 8 ≠ 0 ∧ e.ok (a.wd ws 8) = true ∧ (filt e a).wd ws 8 = a.wd ws 8 := by
  have h1 := h
  rw [wd_filt] at h1
  obtain ⟨h2, h3⟩ := ite_ne h1
  have hm := Pn.wd_more a 7 8 h3 (by omega)
  rw [hm]
  exact ⟨h3, h2.2, by rw [wd_filt, if_pos h2]⟩
theorem pair8 {ws : List Int} {kd : Int} {e : Ex} {a b : Pn} (hk : kd = 4 ∨ kd = 5) (h : (pairP kd e a b).wd ws 8 ≠ 0) : a.wd ws 8 ≠ 0 ∧ b.wd ws 8 ≠ 0 ∧ a.wd ws 8 + b.wd ws 8 ≤ 6 ∧ e.ok (a.wd ws 8 + b.wd ws 8) = true ∧ (pairP kd e a b).wd ws 8 = a.wd ws 8 + b.wd ws 8 := by
  have h1 := h
  rw [wd_pair hk] at h1
  obtain ⟨h2, h3⟩ := ite_ne h1
  rw [Pn.wd_more a 7 8 h2.1 (by omega), Pn.wd_more b 7 8 h2.2.1 (by omega)]
  exact ⟨h2.1, h2.2.1, h2.2.2.1, h2.2.2.2, by rw [wd_pair hk, if_pos h2]⟩
theorem proj8 {ws : List Int} {es : List Ex} {a : Pn} (h : (proj es a).wd ws 8 ≠ 0) : a.wd ws 8 ≠ 0 ∧ okWidth es.length = true ∧ es.all (Ex.ok (a.wd ws 8)) = true ∧ (proj es a).wd ws 8 = es.length := by
  have h1 := h
  rw [wd_proj] at h1
  obtain ⟨h2, h3⟩ := ite_ne h1
  rw [Pn.wd_more a 7 8 h2.1 (by omega)]
  exact ⟨h2.1, h2.2.1, h2.2.2, by rw [wd_proj, if_pos h2]⟩
theorem bits_hi' {e : Ex} {n : Nat} (h : e.allC (fun c => decide (0 ≤ c)) = true) : (e.bits / 2 ^ n = 0) = (e.cin 0 n = true) := by
  rw [eq_iff_iff, bits_hi h n]
  unfold Ex.cin
  constructor
  · intro h1; exact Ex.allC_mono (by simp) e (Ex.allC_and e h h1)
  · intro h1; exact Ex.allC_mono (fun c hc => by simp at hc ⊢; exact hc.2) e h1
theorem bits_lo' {e : Ex} {n W : Nat} (h : e.allC (fun c => decide (0 ≤ c ∧ c < (W : Int))) = true) : (e.bits &&& (2 ^ n - 1) = 0) = (e.cin n W = true) := by
  have h0 : e.allC (fun c => decide (0 ≤ c)) = true := Ex.allC_mono (fun c hc => by simp at hc ⊢; exact hc.1) e h
  rw [eq_iff_iff, bits_lo h0 n]
  unfold Ex.cin
  constructor
  · intro h1; exact Ex.allC_mono (fun c hc => by simp at hc ⊢; omega) e (Ex.allC_and e h h1)
  · intro h1; exact Ex.allC_mono (fun c hc => by simp at hc ⊢; exact hc.1) e h1
end Go.Av
namespace Go.Proofs.YteihcffblfdgfaaGreat.P
open Go Go.Av
set_option maxRecDepth 4000
set_option maxHeartbeats 4000000
theorem width8 {ws : List Int} (hw : okWs ws = true) (p : Pn) : callA C0 40 [.i (.agg p.cells), .i (.isl (intsL ws))] [] = some (.int (p.wd ws 8), []) := by
  rw [planWidth_eq]; unfold Pn.width; rw [if_pos hw]
theorem wdNat {ws : List Int} (hw : okWs ws = true) {p : Pn} (h : p.wd ws 8 ≠ 0) : ∃ n : Nat, p.wd ws 8 = n ∧ 1 ≤ n ∧ n ≤ 6 := by
  have := Pn.wd_range (okWs_range hw) p 8
  exact ⟨(p.wd ws 8).toNat, by omega, by omega, by omega⟩
theorem fdiv_nat (a b : Nat) : Int.fdiv (a : Int) (b : Int) = ((a / b : Nat) : Int) := by
  rw [Int.fdiv_eq_ediv_of_nonneg _ (Int.natCast_nonneg b)]; rfl
theorem shl1 {n : Nat} (hn : n ≤ 6) : (IntKind.i64.wrap (IntKind.i64.wrap (2 ^ min n IntKind.i64.bits) - 1) % 18446744073709551616).toNat = 2 ^ n - 1 := by
  have : n = 0 ∨ n = 1 ∨ n = 2 ∨ n = 3 ∨ n = 4 ∨ n = 5 ∨ n = 6 := by omega
  rcases this with rfl | rfl | rfl | rfl | rfl | rfl | rfl <;> decide
theorem rule3_go {ws : List Int} (hw : okWs ws = true) {e e2 : Ex} {x y : Pn} {kd : Int} (hkd : kd = 4 ∨ kd = 5) (hp : (filt e (pairP kd e2 x y)).wd ws 8 ≠ 0) : RuleC 75 ws 3 (filt e (pairP kd e2 x y)) := by
  obtain ⟨h1, h2, h3⟩ := filt8 hp
  obtain ⟨g1, g2, g3, g4, g5⟩ := pair8 hkd h1
  rw [g5] at h2
  obtain ⟨n, hn, n1, n2⟩ := wdNat hw g1
  have hwf := Ex.ok_wf6 h2
  have hcol := Ex.wf6_cols hwf
  have hb := Ex.bits_lt e hcol
  have c1 := columns_eq e (by have := Ex.ok_size h2; omega) hcol
  have c2 := width8 hw x
  have c3 := filterPlan_eq e x
  have c4 := pairPlan_eq kd e2 (filt e x) y
  have q := bits_hi' (n := n) (Ex.wf_cols0 hwf)
  rw [hn] at c2
  have o1 : callA C0 103 [.i (.iref (filt e (pairP kd e2 x y)).cells), .int kd] [] = _ := filterOver_yes (e := e) (k := pairP kd e2 x y) (kd := kd) rfl
  have o2 : kd = 5 → callA C0 103 [.i (.iref (filt e (pairP kd e2 x y)).cells), .int 4] [] = _ := fun h => filterOver_not (e := e) (k := pairP kd e2 x y) (kd := 4) (by simp [h])
  have hsh : shI .shr .i64 (e.bits : Int) (n : Int) = some (.lit (.int .i64 ((e.bits / 2 ^ n : Nat) : Int))) := by
    have h1 : min (n : Int).toNat IntKind.i64.bits = n := by simp [IntKind.bits]; omega
    have h2 : (0 : Int) ≤ n := by omega
    simp only [shI, h1, h2, decide_true, tst]
    rw [show (2 : Int) ^ n = ((2 ^ n : Nat) : Int) by simp, fdiv_nat]
  have hr : rwP ws 3 (filt e (pairP kd e2 x y)) = if e.cin 0 n = true then some (pairP kd e2 (filt e x) y) else none := by
    rw [rwP_filt]
    simp [rwF, pairP, Pn.ex0, Pn.kid0, Pn.kid1, Pn.kind, Pn.exprs, Pn.kids, hkd, hn]
  generalize hd : e.bits / 2 ^ n = d at *
  by_cases hc : e.cin 0 n = true
  · rw [if_pos hc] at hr
    have hd0 : d = 0 := by rw [q]; exact hc
    subst hd0
    refine .yes ?_ hr
    rw [callA_eq rfl Tryz.func75 rfl rfl]
    rcases hkd with rfl | rfl
    · simp only [filt_cells, pair_cells, Ex.cells_eq e, Ex.cells_eq e2, Pn.cells_eq x, Pn.cells_eq y] at o1 c1 c2 c3 c4 ⊢
      simp [o1, c1, c2, c3, c4, hsh]
    · have o2 := o2 rfl
      simp only [filt_cells, pair_cells, Ex.cells_eq e, Ex.cells_eq e2, Pn.cells_eq x, Pn.cells_eq y] at o1 o2 c1 c2 c3 c4 ⊢
      simp [o1, o2, c1, c2, c3, c4, hsh]
  · rw [if_neg hc] at hr
    have hd0 : ¬ d = 0 := by rw [q]; exact hc
    refine .no ?_ hr
    rw [callA_eq rfl Tryz.func75 rfl rfl]
    rcases hkd with rfl | rfl
    · simp only [filt_cells, pair_cells, zero_cells, Ex.cells_eq e, Ex.cells_eq e2, Pn.cells_eq x, Pn.cells_eq y] at o1 c1 c2 ⊢
      simp [o1, c1, c2, hsh, hd0]
    · have o2 := o2 rfl
      simp only [filt_cells, pair_cells, zero_cells, Ex.cells_eq e, Ex.cells_eq e2, Pn.cells_eq x, Pn.cells_eq y] at o1 o2 c1 c2 ⊢
      simp [o1, o2, c1, c2, hsh, hd0]
theorem rule3 {ws : List Int} (hw : okWs ws = true) {p : Pn} (hp : p.wd ws 8 ≠ 0) : RuleC 75 ws 3 p := by
  by_cases hk : p.kind = 2
  · obtain ⟨e, a, rfl⟩ := Wd_two (Wd_of hp) hk
    by_cases hk2 : a.kind = 4 ∨ a.kind = 5
    · obtain ⟨e2, x, y, hx⟩ := Wd_four (Wd_filt (Wd_of hp)).1 hk2
      generalize a.kind = kd at *
      subst hx
      exact rule3_go hw hk2 hp
    · have h1 := filterOver_not (e := e) (k := a) (kd := 4) (by omega)
      have h2 := filterOver_not (e := e) (k := a) (kd := 5) (by omega)
      refine .no ?_ (by rw [rwP_filt]; simp [rwF, hk2])
      rw [callA_eq rfl Tryz.func75 rfl rfl]
      simp only [filt_cells, zero_cells] at h1 h2 ⊢
      simp [h1, h2]
  · have h1 := filterOver_no (p := p) (kd := 4) hk
    have h2 := filterOver_no (p := p) (kd := 5) hk
    refine .no ?_ (by simp [rwP, hk])
    rw [callA_eq rfl Tryz.func75 rfl rfl]
    simp only [zero_cells, Pn.cells_eq p] at h1 h2 ⊢
    simp [h1, h2]
theorem and_wrap {b n : Nat} (hb : b < 64) : IntKind.i64.wrap ((b : Int) % 18446744073709551616 % 2 ^ n) = ((b &&& (2 ^ n - 1) : Nat) : Int) := by
  rw [Nat.and_two_pow_sub_one_eq_mod]
  have h1 : (b : Int) % 18446744073709551616 = b := by omega
  have h2 : (b : Int) % 2 ^ n = ((b % 2 ^ n : Nat) : Int) := by simp
  rw [h1, h2]
  have := Nat.mod_le b (2 ^ n)
  exact wrap64 (by omega) (by omega)
theorem rule4_go {ws : List Int} (hw : okWs ws = true) {e e2 : Ex} {x y : Pn} (hp : (filt e (pairP 4 e2 x y)).wd ws 8 ≠ 0) : RuleC 76 ws 4 (filt e (pairP 4 e2 x y)) := by
  obtain ⟨h1, h2, h3⟩ := filt8 hp
  obtain ⟨g1, g2, g3, g4, g5⟩ := pair8 (.inl rfl) h1
  rw [g5] at h2
  obtain ⟨n, hn, n1, n2⟩ := wdNat hw g1
  obtain ⟨m, hm, m1, m2⟩ := wdNat hw g2
  have hwf := Ex.ok_wf6 h2
  have hcol := Ex.wf6_cols hwf
  have hcolW := Ex.wf_allC e (Ex.ok_wf h2).1
  have hb := Ex.bits_lt e hcol
  have hsz : e.size < 1000000000 := by have := Ex.ok_size h2; omega
  have c1 := columns_eq e hsz hcol
  have c2 := width8 hw x
  have c5 := renumberedR (w := n) (by omega) e hwf hsz
  have c3 := filterPlan_eq (e.mapC (· - n)) y
  have c4 := pairPlan_eq 4 e2 x (filt (e.mapC (· - n)) y)
  rw [hn, hm, ← Int.natCast_add] at hcolW
  have q := bits_lo' (n := n) hcolW
  rw [hn] at c2
  have o1 := filterOver_yes (e := e) (k := pairP 4 e2 x y) (kd := 4) rfl
  have hr : rwP ws 4 (filt e (pairP 4 e2 x y)) = if e.cin n (n + m : Nat) = true then some (pairP 4 e2 x (filt (e.mapC (· - n)) y)) else none := by
    rw [rwP_filt]
    have : ∀ k : Pn, (Pn.mk 4 0 [e2] [] [x, y]).wd ws 8 = ((n + m : Nat) : Int) := fun _ => by
      have := g5; unfold pairP at this; rw [this, hn, hm]; simp
    simp [rwF, pairP, Pn.ex0, Pn.kid0, Pn.kid1, Pn.kind, Pn.exprs, Pn.kids, hn, this x]
  have haw := and_wrap (b := e.bits) (n := n) (by omega)
  by_cases hc : e.cin n (n + m : Nat) = true
  · rw [if_pos hc] at hr
    have hd0 : e.bits &&& (2 ^ n - 1) = 0 := by rw [q]; exact hc
    rw [hd0] at haw
    refine .yes ?_ hr
    generalize e.mapC (· - (n : Int)) = z at *
    rw [callA_eq rfl Tryz.func76 rfl rfl]
    simp only [filt_cells, pair_cells, Ex.cells_eq e, Ex.cells_eq e2, Ex.cells_eq z, Pn.cells_eq x, Pn.cells_eq y] at o1 c1 c2 c3 c4 c5 ⊢
    simp [o1, c1, c2, c3, c4, c5, shl1 n2, haw]
  · rw [if_neg hc] at hr
    have hd0 : ¬ (e.bits &&& (2 ^ n - 1) = 0) := by rw [q]; exact hc
    refine .no ?_ hr
    generalize e.bits &&& (2 ^ n - 1) = d at *
    rw [callA_eq rfl Tryz.func76 rfl rfl]
    simp only [filt_cells, pair_cells, zero_cells, Ex.cells_eq e, Ex.cells_eq e2, Pn.cells_eq x, Pn.cells_eq y] at o1 c1 c2 ⊢
    simp [o1, c1, c2, hd0, shl1 n2, haw]
theorem rule4 {ws : List Int} (hw : okWs ws = true) {p : Pn} (hp : p.wd ws 8 ≠ 0) : RuleC 76 ws 4 p := by
  by_cases hk : p.kind = 2
  · obtain ⟨e, a, rfl⟩ := Wd_two (Wd_of hp) hk
    by_cases hk2 : a.kind = 4
    · obtain ⟨e2, x, y, hx⟩ := Wd_four (Wd_filt (Wd_of hp)).1 (.inl hk2)
      rw [hk2] at hx
      subst hx
      exact rule4_go hw hp
    · have h1 := filterOver_not (e := e) (k := a) (kd := 4) hk2
      refine .no ?_ (by rw [rwP_filt]; simp [rwF, hk2])
      rw [callA_eq rfl Tryz.func76 rfl rfl]
      simp only [filt_cells, zero_cells] at h1 ⊢
      simp [h1]
  · have h1 := filterOver_no (p := p) (kd := 4) hk
    refine .no ?_ (by simp [rwP, hk])
    rw [callA_eq rfl Tryz.func76 rfl rfl]
    simp only [zero_cells, Pn.cells_eq p] at h1 ⊢
    simp [h1]
theorem rule10_go {ws : List Int} (hw : okWs ws = true) {e : Ex} {es : List Ex} {x : Pn} (hp : (filt e (proj es x)).wd ws 8 ≠ 0) : RuleC 82 ws 10 (filt e (proj es x)) := by
  obtain ⟨h1, h2, h3⟩ := filt8 hp
  obtain ⟨g1, g2, g3, g4⟩ := proj8 h1
  rw [g4] at h2
  have c2 := width8 hw x
  have c5 := isub_eq e es (x.wd ws 8)
  have o1 := filterOver_yes (e := e) (k := proj es x) (kd := 3) rfl
  have hr : rwP ws 10 (filt e (proj es x)) = some (proj es (filt (e.sub es) x)) := by
    rw [rwP_filt]
    simp [rwF, proj, Pn.ex0, Pn.kid0, Pn.kid1, Pn.kind, Pn.exprs, Pn.kids]
  have c3 := filterPlan_eq (getE (e.subst es (x.wd ws 8))) x
  refine ⟨proj es (filt (getE (e.subst es (x.wd ws 8))) x), (e.subst es (x.wd ws 8)).isSome, ?_, ?_, ?_⟩
  · generalize (e.subst es (x.wd ws 8)).isSome = b at *
    generalize getE (e.subst es (x.wd ws 8)) = z at *
    rw [callA_eq rfl Tryz.func82 rfl rfl]
    simp only [filt_cells, proj_cells, Ex.cells_eq e, Ex.cells_eq z, Pn.cells_eq x] at o1 c2 c3 c5 ⊢
    simp [o1, c2, c3, c5]
  · intro hb
    rw [hr]
    unfold Ex.subst at hb ⊢
    split at hb
    · rename_i hcc; rw [if_pos hcc]; rfl
    · simp at hb
  · intro hb q' hq lv
    rw [hr] at hq
    injection hq with hq
    subst hq
    cases lv with
    | zero => rw [Pn.wd_no]; simp [proj, Pn.kids]
    | succ lv =>
      rw [wd_proj]
      refine if_neg fun hc => ?_
      have hc1 := hc.1
      cases lv with
      | zero => exact hc1 (by rw [Pn.wd_no]; simp [filt, Pn.kids])
      | succ lv =>
        rw [wd_filt] at hc1
        obtain ⟨⟨hx, hok⟩, _⟩ := ite_ne hc1
        have e8 := Wd_at (Wd_of g1) hx
        rw [e8] at hok
        unfold Ex.subst at hb
        rw [if_pos (by simp only [Bool.and_eq_true]; exact ⟨h2, g3, hok⟩)] at hb
        simp at hb
theorem rule10 {ws : List Int} (hw : okWs ws = true) {p : Pn} (hp : p.wd ws 8 ≠ 0) : RuleC 82 ws 10 p := by
  by_cases hk : p.kind = 2
  · obtain ⟨e, a, rfl⟩ := Wd_two (Wd_of hp) hk
    by_cases hk2 : a.kind = 3
    · obtain ⟨es, x, rfl⟩ := Wd_three (Wd_filt (Wd_of hp)).1 hk2
      exact rule10_go hw hp
    · have h1 := filterOver_not (e := e) (k := a) (kd := 3) hk2
      refine .no ?_ (by rw [rwP_filt]; simp [rwF, hk2])
      rw [callA_eq rfl Tryz.func82 rfl rfl]
      simp only [filt_cells, zero_cells] at h1 ⊢
      simp [h1]
  · have h1 := filterOver_no (p := p) (kd := 3) hk
    refine .no ?_ (by simp [rwP, hk])
    rw [callA_eq rfl Tryz.func82 rfl rfl]
    simp only [zero_cells, Pn.cells_eq p] at h1 ⊢
    simp [h1]
end Go.Proofs.YteihcffblfdgfaaGreat.P

namespace Go.Proofs.YteihcffblfdgfaaGreat.P
open Go Go.Av
set_option maxRecDepth 4000
set_option maxHeartbeats 4000000
def OIX (e e2 : Ex) (x y : Pn) (ws : List Int) (n m i : Nat) : AS :=
  { env := [(0, .i (.iref [.int 2, .int 0, .isl [[.int e.kind, .int e.col, .bool e.val.null, .int e.val.n, .isl (Ex.cellsL e.kids)]], .isl [], .isl [[.int 5, .int 0, .isl [[.int e2.kind, .int e2.col, .bool e2.val.null, .int e2.val.n, .isl (Ex.cellsL e2.kids)]], .isl [], .isl [[.int x.kind, .int x.table, .isl (Ex.cellsL x.exprs), .isl (intsL x.cols), .isl (Pn.cellsL x.kids)], [.int y.kind, .int y.table, .isl (Ex.cellsL y.exprs), .isl (intsL y.cols), .isl (Pn.cellsL y.kids)]]]]])), (1, .i (.isl (intsL ws))), (4, .own 0 0), (5, .bool false), (6, .i (.iref [.int e.kind, .int e.col, .bool e.val.null, .int e.val.n, .isl (Ex.cellsL e.kids)])),
      (7, .i (.iref [.int 5, .int 0, .isl [[.int e2.kind, .int e2.col, .bool e2.val.null, .int e2.val.n, .isl (Ex.cellsL e2.kids)]], .isl [], .isl [[.int x.kind, .int x.table, .isl (Ex.cellsL x.exprs), .isl (intsL x.cols), .isl (Pn.cellsL x.kids)], [.int y.kind, .int y.table, .isl (Ex.cellsL y.exprs), .isl (intsL y.cols), .isl (Pn.cellsL y.kids)]]])), (8, .bool true), (9, .int ((n : Int) + m)), (10, gro 1 1 i), (11, .int ((n : Int) + i)), (19, .bool false), (36, jk i (.bool true)), (49, .junk)],
    st := some (.box [.int 0, .int 0, .nils, .nils, .nils]) :: groB 1 (intsL (colsI n i)) i }
theorem rule7_go {ws : List Int} (hw : okWs ws = true) {e e2 : Ex} {x y : Pn} (hp : (filt e (pairP 5 e2 x y)).wd ws 8 ≠ 0) : RuleC 79 ws 7 (filt e (pairP 5 e2 x y)) := by
  obtain ⟨h1, h2, h3⟩ := filt8 hp
  obtain ⟨g1, g2, g3, g4, g5⟩ := pair8 (.inr rfl) h1
  have c1 := width8 hw (pairP 5 e2 x y)
  rw [g5] at h2 c1
  obtain ⟨n, hn, n1, n2⟩ := wdNat hw g1
  obtain ⟨m, hm, m1, m2⟩ := wdNat hw g2
  have c2 := width8 hw x
  rw [hn, hm, ← Int.natCast_add] at h2 c1
  rw [hn] at c2
  have c3 := pairPlan_eq 4 e2 x y
  have c4 := filterPlan_eq e (pairP 4 e2 x y)
  have c5 := irejects_eq e (n := n + m) (p := n) (m := m) rfl h2
  have o1 := filterOver_yes (e := e) (k := pairP 5 e2 x y) (kd := 5) rfl
  have hr : rwP ws 7 (filt e (pairP 5 e2 x y)) = if rejP e (n + m : Nat) n = true then some (filt e (pairP 4 e2 x y)) else none := by
    rw [rwP_filt]
    have : (Pn.mk 5 0 [e2] [] [x, y]).wd ws 8 = ((n + m : Nat) : Int) := by
      have := g5; unfold pairP at this; rw [this, hn, hm]; simp
    simp [rwF, pairP, Pn.ex0, Pn.kid0, Pn.kid1, Pn.kind, Pn.exprs, Pn.kids, hn, this]
  generalize rejP e (n + m : Nat) n = b at *
  have key : callA C0 79 [.i (.iref (filt e (pairP 5 e2 x y)).cells), .i (.isl (intsL ws))] [] = some (.tup [.i (.agg (if b = true then filt e (pairP 4 e2 x y) else Pn.zero).cells), .bool b], []) := by
    rw [callA_eq rfl Tryz.func79 rfl rfl]
    simp only [filt_cells, pair_cells, zero_cells, Ex.cells_eq e, Ex.cells_eq e2, Pn.cells_eq x, Pn.cells_eq y] at o1 c1 c2 c3 c4 c5 ⊢
    have ht : ∀ k, (colsI n k).take k = colsI n k := fun k => List.take_of_length_le (by simp)
    simp only [Int.natCast_add] at c5
    simp [o1, c1, c2]
    rw [loop_to (OIX e e2 x y ws n m) m (by simp [OIX])]
    · rw [execA_loop]
      simp [OIX, gro_pos (show m ≠ 0 by omega), groB_pos (show m ≠ 0 by omega), jk_pos (show m ≠ 0 by omega)]
      cases b with
      | true => simp [c3, c4, c5, ht, filt_cells, pair_cells, Ex.cells_eq e, Ex.cells_eq e2, Pn.cells_eq x, Pn.cells_eq y]
      | false => simp [c5, ht, zero_cells]
    · intro i hi
      have w2 : IntKind.i64.wrap ((n : Int) + i + 1) = n + (i + 1) := by rw [wrap64 (by omega) (by omega)]; omega
      have hs := colsI_succ n i
      have hlt : (n : Int) + i < n + m := by omega
      by_cases h0 : i = 0
      · subst h0
        have hlt0 : (n : Int) < n + m := by omega
        have w3 : IntKind.i64.wrap ((n : Int) + 1) = n + 1 := by rw [wrap64 (by omega) (by omega)]
        simp [OIX, w3, hlt0, hs, intsL_append, intsL, colsI]
      · have hl1 : (i + 1) * 8 ≤ 140737488355328 := by omega
        simp [OIX, w2, hlt, hs, gro_pos h0, groB_pos h0, jk_pos h0, intsL_append, intsL, hl1, ht]
  cases b with
  | true => exact .yes key (by rw [hr]; rfl)
  | false => exact .no key (by rw [hr]; rfl)
theorem rule7 {ws : List Int} (hw : okWs ws = true) {p : Pn} (hp : p.wd ws 8 ≠ 0) : RuleC 79 ws 7 p := by
  by_cases hk : p.kind = 2
  · obtain ⟨e, a, rfl⟩ := Wd_two (Wd_of hp) hk
    by_cases hk2 : a.kind = 5
    · obtain ⟨e2, x, y, hx⟩ := Wd_four (Wd_filt (Wd_of hp)).1 (.inr hk2)
      rw [hk2] at hx
      subst hx
      exact rule7_go hw hp
    · have h1 := filterOver_not (e := e) (k := a) (kd := 5) hk2
      refine .no ?_ (by rw [rwP_filt]; simp [rwF, hk2])
      rw [callA_eq rfl Tryz.func79 rfl rfl]
      simp only [filt_cells, zero_cells] at h1 ⊢
      simp [h1]
  · have h1 := filterOver_no (p := p) (kd := 5) hk
    refine .no ?_ (by simp [rwP, hk])
    rw [callA_eq rfl Tryz.func79 rfl rfl]
    simp only [zero_cells, Pn.cells_eq p] at h1 ⊢
    simp [h1]
theorem comm_nth {n m i : Nat} (h : i < n + m) : (colsFrom (m : Int) n ++ colsFrom 0 m)[i]? = some (colX (swapC n m i)) := by
  by_cases hi : i < n
  · rw [List.getElem?_append_left (by simpa using hi), colsFrom_nth hi]
    unfold swapC; rw [if_pos (by omega), Int.add_comm]
  · rw [List.getElem?_append_right (by simp; omega), colsFrom_length, colsFrom_nth (by omega)]
    unfold swapC; rw [if_neg (by omega)]; congr 2; omega
def MPX (fs es : List Ex) (x : Pn) (ws : List Int) (W : Int) (zs : List Ex) (i : Nat) : AS :=
  { env := [(0, .i (.iref [.int 3, .int 0, .isl (Ex.cellsL fs), .isl [], .isl [[.int 3, .int 0, .isl (Ex.cellsL es), .isl [], .isl [[.int x.kind, .int x.table, .isl (Ex.cellsL x.exprs), .isl (intsL x.cols), .isl (Pn.cellsL x.kids)]]]]])), (1, .i (.isl (intsL ws))), (4, .own 0 0), (5, .bool false), (6, .i (.iref [.int 3, .int 0, .isl (Ex.cellsL es), .isl [], .isl [[.int x.kind, .int x.table, .isl (Ex.cellsL x.exprs), .isl (intsL x.cols), .isl (Pn.cellsL x.kids)]]])), (7, .int W), (8, .own 1 0), (9, jk i (.int (i - 1))), (10, if i = 0 then .junk else .own 3 0), (11, jk i (.bool true)), (26, .bool false), (50, .int fs.length), (51, .int i), (52, jk i (.bool true)), (71, jk i (.bool false))],
    st := some (.box [.int 0, .int 0, .nils, .nils, .nils]) :: some (.box [.int 3, .int 0, gro 2 5 i, .nils, .i (.isl [[.int x.kind, .int x.table, .isl (Ex.cellsL x.exprs), .isl (intsL x.cols), .isl (Pn.cellsL x.kids)]])]) :: (if i = 0 then [] else [some (.arr 5 (Ex.cellsL (zs.take i))), some (.box (impI ((zs[i - 1]?).getD Ex.zero).cells))]) }
def CJX (e : Ex) (x y : Pn) (ws : List Int) (n m i : Nat) : AS :=
  { env := [(0, .i (.iref [.int 4, .int 0, .isl [[.int e.kind, .int e.col, .bool e.val.null, .int e.val.n, .isl (Ex.cellsL e.kids)]], .isl [], .isl [[.int x.kind, .int x.table, .isl (Ex.cellsL x.exprs), .isl (intsL x.cols), .isl (Pn.cellsL x.kids)], [.int y.kind, .int y.table, .isl (Ex.cellsL y.exprs), .isl (intsL y.cols), .isl (Pn.cellsL y.kids)]]])), (1, .i (.isl (intsL ws))), (4, .own 0 0), (5, .bool false), (6, .own 1 0), (7, .own 2 0), (8, .fn (.func 110) [.own 1 0, .own 2 0]), (9, .own 3 0), (10, jk i (.int (i - 1))), (15, .bool false), (37, .int ((n : Int) + m)), (38, .int i), (39, jk i (.bool true))],
    st := some (.box [.int 0, .int 0, .nils, .nils, .nils]) :: some (.box [.int n]) :: some (.box [.int m]) :: some (.box [.int 3, .int 0, gro 4 5 i, .nils, .nils]) :: groB 5 (Ex.cellsL ((colsFrom (m : Int) n ++ colsFrom 0 m).take i)) i }
theorem rule6_go {ws : List Int} (hw : okWs ws = true) {e : Ex} {x y : Pn} (hp : (pairP 4 e x y).wd ws 8 ≠ 0) : RuleC 78 ws 6 (pairP 4 e x y) := by
  obtain ⟨g1, g2, g3, g4, g5⟩ := pair8 (.inl rfl) hp
  obtain ⟨n, hn, n1, n2⟩ := wdNat hw g1
  obtain ⟨m, hm, m1, m2⟩ := wdNat hw g2
  have c1 := width8 hw x
  have c2 := width8 hw y
  have hwf := Ex.ok_wf6 g4
  have hsz : e.size < 1000000000 := by have := Ex.ok_size g4; omega
  have c5 := renumberedS (a := n) (b := m) (by omega) (by omega) e hwf hsz
  have c4 := pairPlan_eq 4 (e.mapC (swapC n m)) y x
  have hr : rwP ws 6 (pairP 4 e x y) = some (proj (colsFrom m n ++ colsFrom 0 m) (pairP 4 (e.mapC (swapC n m)) y x)) := by
    simp [rwP, pairP, Pn.ex0, Pn.kid0, Pn.kid1, Pn.kind, Pn.exprs, Pn.kids, hn, hm]
  rw [hn] at c1
  rw [hm] at c2
  refine .yes ?_ hr
  generalize e.mapC (swapC n m) = z at *
  rw [callA_eq rfl Tryz.func78 rfl rfl]
  simp only [proj_cells, pair_cells, zero_cells, Ex.cells_eq e, Ex.cells_eq z, Pn.cells_eq x, Pn.cells_eq y] at c1 c2 c4 c5 ⊢
  have w0 : IntKind.i64.wrap ((n : Int) + m) = n + m := wrap64 (by omega) (by omega)
  have hlen : (colsFrom (m : Int) n ++ colsFrom 0 m).length = n + m := by simp
  simp [c1, c2, w0]
  rw [loop_to (CJX e x y ws n m) (n + m) (by simp [CJX])]
  · rw [execA_loop]
    have htk : (colsFrom (m : Int) n ++ colsFrom 0 m).take (n + m) = colsFrom (m : Int) n ++ colsFrom 0 m := List.take_of_length_le (by omega)
    simp [CJX, gro_pos (show n + m ≠ 0 by omega), groB_pos (show n + m ≠ 0 by omega), jk_pos (show n + m ≠ 0 by omega), htk, c4, c5]
  · intro i hi
    have hnth := comm_nth hi
    have htk := take_snoc hnth
    have hpl := place_swap i n m (by omega) (by omega) (by omega)
    have hco := icolumn_eq (swapC n m i)
    generalize swapC n m i = c at *
    rw [colX_cells] at hco
    have hlt : (i : Int) < n + m := by omega
    have w2 : IntKind.i64.wrap ((i : Int) + 1) = i + 1 := wrap64 (by omega) (by omega)
    by_cases h0 : i = 0
    · subst h0
      have hlt0 : (0 : Int) < n + m := by omega
      simp at hpl
      simp [CJX, hlt0, hpl, hco, wrap_1, htk, Ex.cellsL, colX_cells]
    · have hl1 : (i + 1) * 56 ≤ 140737488355328 := by omega
      have hl2 : i ≤ min i (n + m) := by omega
      simp [CJX, w2, hlt, hpl, hco, gro_pos h0, groB_pos h0, jk_pos h0, htk, Ex.cellsL_snoc, colX_cells, hl1, hl2, List.take_take]
theorem rule11_go {ws : List Int} (hw : okWs ws = true) {fs es : List Ex} {x : Pn} (hp : (proj fs (proj es x)).wd ws 8 ≠ 0) : RuleC 83 ws 11 (proj fs (proj es x)) := by
  obtain ⟨h1, h2, h3, h4⟩ := proj8 hp
  obtain ⟨g1, g2, g3, g4⟩ := proj8 h1
  rw [g4] at h3
  have c2 := width8 hw x
  have c5 := fun e => isub_eq e es (x.wd ws 8)
  have hr : rwP ws 11 (proj fs (proj es x)) = some (proj (fs.map (Ex.sub es)) x) := by
    simp [rwP, proj, Pn.ex0, Pn.kid0, Pn.kid1, Pn.kind, Pn.exprs, Pn.kids]
  generalize hW : x.wd ws 8 = W at *
  have hin : ∀ (i : Nat) (a : Ex), fs[i]? = some a → (a.subst es W).isSome = true → (fs.map (Ex.sub es))[i]? = some (a.sub es) ∧ a.subst es W = some (a.sub es) := by
    intro i a ha hs
    refine ⟨by simp [ha], ?_⟩
    unfold Ex.subst at hs ⊢
    split at hs
    · rename_i hc; rw [if_pos hc]
    · simp at hs
  have hlen : fs.length ≤ 6 := by unfold okWidth at h2; simp at h2; omega
  obtain ⟨j, k1, k2⟩ := upto_bad (fun e => (e.subst es W).isSome) fs
  have hround : ∀ i, i < j → i < fs.length ∧ ∃ f z, fs[i]? = some f ∧ nthE (Ex.cellsL fs) i = some f.cells ∧ (fs.map (Ex.sub es))[i]? = some z ∧ f.subst es W = some z := by
    intro i hi
    obtain ⟨f, q1, q2, q3⟩ := k1 i hi
    obtain ⟨q4, q5⟩ := hin i f q1 q3
    exact ⟨(List.getElem?_eq_some_iff.1 q1).1, f, _, q1, Ex.cellsL_nth q1, q4, q5⟩
  have hfl : fs.length ≠ 0 := by intro h; rw [h] at h2; simp [okWidth] at h2
  have hzl : (fs.map (Ex.sub es)).length = fs.length := by simp
  have hq : ∀ lv, (proj (fs.map (Ex.sub es)) x).wd ws lv ≠ 0 → ∀ f ∈ fs, (f.sub es).ok W = true := by
    intro lv hne f hf
    cases lv with
    | zero => exact absurd (by rw [Pn.wd_no]; simp [proj, Pn.kids]) hne
    | succ lv =>
      rw [wd_proj] at hne
      obtain ⟨⟨q1, q2, q3⟩, _⟩ := ite_ne hne
      have e8 := Wd_at (Wd_of (p := x) (lv := 8) (by rw [hW]; exact g1)) q1
      rw [e8, hW] at q3
      exact List.all_eq_true.1 q3 _ (List.mem_map_of_mem hf)
  generalize fs.map (Ex.sub es) = zs at *
  have main : ∀ r, callA C0 83 [.i (.iref (proj fs (proj es x)).cells), .i (.isl (intsL ws))] [] = r → r = if j = fs.length then some (.tup [.i (.agg (proj zs x).cells), .bool true], []) else some (.tup [.i (.agg Pn.zero.cells), .bool false], []) := by
    intro r hr'
    subst hr'
    rw [callA_eq rfl Tryz.func83 rfl rfl]
    simp only [proj_cells, Pn.cells_eq x] at c2 ⊢
    simp [c2]
    rw [loop_to (MPX fs es x ws W zs) j (by simp [MPX])]
    · rw [execA_loop]
      rcases k2 with ⟨hj, ha⟩ | ⟨f, q1, q2, q3, ha⟩
      · have htk : zs.take fs.length = zs := List.take_of_length_le (by omega)
        simp [MPX, hj, hfl, gro_pos hfl, htk, hzl]
      · have hj : j < fs.length := (List.getElem?_eq_some_iff.1 q1).1
        have hne : ¬ j = fs.length := by omega
        have r1 := Ex.cellsL_nth q1
        have hn : f.subst es W = none := by cases h : f.subst es W with | none => rfl | some _ => rw [h] at q3; simp at q3
        have c6 := c5 f
        rw [hn] at c6
        simp only [getE, Option.getD, Option.isSome, Ex.cells_eq f, zero_cells] at c6 r1
        by_cases h0 : j = 0
        · subst h0
          simp [MPX, hj, hne, r1, c6, zero_cells]
        · simp [MPX, hj, hne, r1, c6, h0, gro_pos h0, jk_pos h0, zero_cells]
    · intro i hi
      obtain ⟨hil, f, z, q1, r1, q4, q5⟩ := hround i hi
      have c6 := c5 f
      rw [q5] at c6
      have htk := take_snoc q4
      have w2 : IntKind.i64.wrap ((i : Int) + 1) = i + 1 := wrap64 (by omega) (by omega)
      simp only [getE, Option.getD, Option.isSome, Ex.cells_eq f, Ex.cells_eq z] at c6 r1
      by_cases h0 : i = 0
      · subst h0
        simp [MPX, hil, r1, c6, wrap_1, htk, q4, Ex.cellsL, Ex.cells_eq z]
      · have hl1 : (i + 1) * 56 ≤ 140737488355328 := by omega
        have hl2 : i ≤ min i zs.length := by omega
        simp [MPX, hil, r1, c6, w2, htk, q4, h0, gro_pos h0, jk_pos h0, Ex.cellsL_snoc, Ex.cells_eq z, hl1, hl2, List.take_take]
  have hm := main _ rfl
  rcases k2 with ⟨hj, ha⟩ | ⟨f, q1, q2, q3, ha⟩
  · rw [if_pos hj] at hm
    exact .yes hm hr
  · have hj : j < fs.length := (List.getElem?_eq_some_iff.1 q1).1
    rw [if_neg (by omega)] at hm
    refine ⟨.zero, false, hm, by simp, fun _ q' hq' lv => ?_⟩
    rw [hr] at hq'
    injection hq' with hq'
    subst hq'
    by_cases hne : (proj zs x).wd ws lv = 0
    · exact hne
    · have hok := hq lv hne f q2
      unfold Ex.subst at q3
      rw [if_pos (by simp only [Bool.and_eq_true]; exact ⟨List.all_eq_true.1 h3 f q2, g3, hok⟩)] at q3
      simp at q3
theorem rule6 {ws : List Int} (hw : okWs ws = true) {p : Pn} (hp : p.wd ws 8 ≠ 0) : RuleC 78 ws 6 p := by
  by_cases hk : p.kind = 4
  · obtain ⟨e, x, y, hx⟩ := Wd_four (Wd_of hp) (.inl hk)
    rw [hk] at hx
    subst hx
    exact rule6_go hw hp
  · refine .no ?_ ?_
    · rw [callA_eq rfl Tryz.func78 rfl rfl]
      simp only [zero_cells, Pn.cells_eq p]
      simp [hk]
    · unfold rwP
      split
      · unfold rwF; simp
      · simp [hk]
theorem rule11 {ws : List Int} (hw : okWs ws = true) {p : Pn} (hp : p.wd ws 8 ≠ 0) : RuleC 83 ws 11 p := by
  by_cases hk : p.kind = 3
  · obtain ⟨fs, a, rfl⟩ := Wd_three (Wd_of hp) hk
    by_cases hk2 : a.kind = 3
    · obtain ⟨V, hV, _⟩ := Wd_proj (Wd_of hp)
      obtain ⟨es, x, rfl⟩ := Wd_three hV hk2
      exact rule11_go hw hp
    · refine .no ?_ (by simp [rwP, Pn.kid0, proj, hk2])
      rw [callA_eq rfl Tryz.func83 rfl rfl]
      simp only [proj_cells, zero_cells, Pn.cells_eq a]
      simp [hk2]
  · refine .no ?_ ?_
    · rw [callA_eq rfl Tryz.func83 rfl rfl]
      simp only [zero_cells, Pn.cells_eq p]
      simp [hk]
    · unfold rwP
      split
      · unfold rwF; simp
      · simp [hk]
end Go.Proofs.YteihcffblfdgfaaGreat.P

namespace Go.Av
theorem rwL_none {ws : List Int} {r : Int} {lv : Nat} {p : Pn} (h : ∀ q', rwP ws r p = some q' → ∀ lv, q'.wd ws lv = 0) : rwL ws r lv p = none := by
  unfold rwL
  cases hq : rwP ws r p with
  | none => rfl
  | some q => simp [h q hq lv]
theorem rwL_some {ws : List Int} {r : Int} {lv : Nat} {p q : Pn} (h : rwP ws r p = some q) : rwL ws r lv p = if q.wd ws lv = 0 then none else some q := by
  unfold rwL
  rw [h]
  by_cases hq : q.wd ws lv = 0 <;> simp [hq]
def getP (o : Option Pn) : Pn := o.getD Pn.zero
end Go.Av
namespace Go.Proofs.YteihcffblfdgfaaGreat.P
open Go Go.Av
set_option maxRecDepth 4000
set_option maxHeartbeats 4000000
theorem rewritten_out {ws : List Int} {p : Pn} {r : Int} {lv : Nat} (h : r < 1 ∨ 11 < r) : callA C0 49 [.i (.iref p.cells), .i (.isl (intsL ws)), .int r, .int lv] [] = some (.tup [.i (.agg Pn.zero.cells), .bool false], []) := by
  rw [callA_eq rfl Tryz.func49 rfl rfl, zero_cells]
  rcases h with h | h
  · simp [h]
  · simp [show ¬ r < 1 by omega, show 12 ≤ r by omega]
theorem rewritten_eq {ws : List Int} (hw : okWs ws = true) {p : Pn} (hp : p.wd ws 8 ≠ 0) (r : Int) {lv : Nat} (hl : lv ≤ 8) : callA C0 49 [.i (.iref p.cells), .i (.isl (intsL ws)), .int r, .int lv] [] = some (.tup [.i (.agg (getP (rwL ws r lv p)).cells), .bool (rwL ws r lv p).isSome], []) := by
  have hr : (r < 1 ∨ 11 < r) ∨ (r = 1 ∧ RuleC 73 ws 1 p) ∨ (r = 2 ∧ RuleC 74 ws 2 p) ∨ (r = 3 ∧ RuleC 75 ws 3 p) ∨ (r = 4 ∧ RuleC 76 ws 4 p) ∨ (r = 5 ∧ RuleC 77 ws 5 p) ∨ (r = 6 ∧ RuleC 78 ws 6 p) ∨ (r = 7 ∧ RuleC 79 ws 7 p) ∨ (r = 8 ∧ RuleC 80 ws 8 p) ∨ (r = 9 ∧ RuleC 81 ws 9 p) ∨ (r = 10 ∧ RuleC 82 ws 10 p) ∨ (r = 11 ∧ RuleC 83 ws 11 p) := by
    by_cases h : r < 1 ∨ 11 < r
    · exact .inl h
    · refine .inr ?_
      have : r = 1 ∨ r = 2 ∨ r = 3 ∨ r = 4 ∨ r = 5 ∨ r = 6 ∨ r = 7 ∨ r = 8 ∨ r = 9 ∨ r = 10 ∨ r = 11 := by omega
      rcases this with rfl | rfl | rfl | rfl | rfl | rfl | rfl | rfl | rfl | rfl | rfl
      · exact (.inl ⟨rfl, rule1 (Wd_of hp)⟩)
      · exact (.inr (.inl ⟨rfl, rule2 (Wd_of hp)⟩))
      · exact (.inr (.inr (.inl ⟨rfl, rule3 hw hp⟩)))
      · exact (.inr (.inr (.inr (.inl ⟨rfl, rule4 hw hp⟩))))
      · exact (.inr (.inr (.inr (.inr (.inl ⟨rfl, rule5 (Wd_of hp)⟩)))))
      · exact (.inr (.inr (.inr (.inr (.inr (.inl ⟨rfl, rule6 hw hp⟩))))))
      · exact (.inr (.inr (.inr (.inr (.inr (.inr (.inl ⟨rfl, rule7 hw hp⟩)))))))
      · exact (.inr (.inr (.inr (.inr (.inr (.inr (.inr (.inl ⟨rfl, rule8 (Wd_of hp)⟩))))))))
      · exact (.inr (.inr (.inr (.inr (.inr (.inr (.inr (.inr (.inl ⟨rfl, rule9 (Wd_of hp)⟩)))))))))
      · exact (.inr (.inr (.inr (.inr (.inr (.inr (.inr (.inr (.inr (.inl ⟨rfl, rule10 hw hp⟩))))))))))
      · exact (.inr (.inr (.inr (.inr (.inr (.inr (.inr (.inr (.inr (.inr (⟨rfl, rule11 hw hp⟩)))))))))))
  rcases hr with h | ⟨rfl, q, b, h1, h2, h3⟩ | ⟨rfl, q, b, h1, h2, h3⟩ | ⟨rfl, q, b, h1, h2, h3⟩ | ⟨rfl, q, b, h1, h2, h3⟩ | ⟨rfl, q, b, h1, h2, h3⟩ | ⟨rfl, q, b, h1, h2, h3⟩ | ⟨rfl, q, b, h1, h2, h3⟩ | ⟨rfl, q, b, h1, h2, h3⟩ | ⟨rfl, q, b, h1, h2, h3⟩ | ⟨rfl, q, b, h1, h2, h3⟩ | ⟨rfl, q, b, h1, h2, h3⟩
  · rw [rewritten_out h]
    have : rwL ws r lv p = none := rwL_none fun q' hq => by
      have := rwP_rule hq
      simp [rules] at this
      omega
    rw [this]; rfl
  all_goals
    have h4 := widthBelow_eq (okWs_range hw) q lv hl
    rw [callA_eq rfl Tryz.func49 rfl rfl]
    cases b with
    | false =>
      rw [rwL_none (h3 rfl)]
      simp only [getP, Option.getD, Option.isSome, zero_cells, Pn.cells_eq p, Pn.cells_eq q] at h1 h4 ⊢
      simp [h1]
    | true =>
      rw [rwL_some (h2 rfl)]
      by_cases hq : q.wd ws lv = 0
      · rw [hq] at h4
        rw [if_pos hq]
        simp only [getP, Option.getD, Option.isSome, zero_cells, Pn.cells_eq p, Pn.cells_eq q] at h1 h4 ⊢
        simp [h1, h4]
      · rw [if_neg hq]
        simp only [getP, Option.getD, Option.isSome, Pn.cells_eq p, Pn.cells_eq q] at h1 h4 ⊢
        simp [h1, h4, hq]
end Go.Proofs.YteihcffblfdgfaaGreat.P

namespace Go.Av
theorem wd_kids {ws : List Int} {p : Pn} {lv : Nat} (h : p.wd ws lv ≠ 0) (hk : p.kids ≠ []) : p.kids.length ≤ 2 ∧ lv ≠ 0 ∧ ∀ a ∈ p.kids, a.wd ws (lv - 1) ≠ 0 := by
  rw [Pn.wd_eq] at h
  obtain ⟨h1, h2⟩ := ite_ne h
  refine ⟨Pn.headOk_kids h1.1, h1.2.resolve_left hk, ?_⟩
  split at h2
  · rename_i hk1
    exact absurd (Pn.headOk_leaf h1.1 hk1) hk
  · obtain ⟨h3, _⟩ := ite_ne h2
    exact fun a ha => by simpa using List.all_eq_true.1 h3 a ha
def stpC (s : Stp) : List IV := [.int s.1, .isl (intsL s.2)]
def stpsL (l : List Stp) : List (List IV) := l.map stpC
@[simp] theorem stpsL_length (l : List Stp) : (stpsL l).length = l.length := by simp [stpsL]
@[simp] theorem stpsL_take (n : Nat) (l : List Stp) : (stpsL l).take n = stpsL (l.take n) := by simp [stpsL, List.map_take]
theorem stpsL_nth {l : List Stp} {i : Nat} {s : Stp} (h : l[i]? = some s) : nthE (stpsL l) i = some (stpC s) := by
  rw [nthE_eq]; simp [stpsL, h]
theorem stI_len (ws : List Int) : ∀ (p : Pn) (path : List Int), (stI ws path p).length ≤ 11 * p.size := by
  intro p
  induction p using Pn.ind with
  | h k t es cs ks ih =>
    intro path
    have hL : ∀ (l : List Pn) (i : Nat), (∀ a ∈ l, a ∈ ks) → (stIL ws path i l).length ≤ 11 * Pn.sizeL l := by
      intro l
      induction l with
      | nil => intro i _; simp [stIL, Pn.sizeL]
      | cons a l ihl =>
        intro i hm
        have h1 := ih a (hm a (by simp)) (path ++ [(i : Int)])
        have h2 := ihl (i + 1) fun x hx => hm x (by simp [hx])
        simp only [stIL, Pn.sizeL, List.length_append]; omega
    have h1 := hL ks 0 fun a h => h
    have h2 : ∀ f : Int → Bool, (rules.filter f).length ≤ 11 := fun f => by have := List.length_filter_le f rules; simpa [rules] using this
    simp only [stI, Pn.size, List.length_append, List.length_map]
    have := h2 fun r => (rwL ws r (8 - path.length) (.mk k t es cs ks)).isSome
    omega
end Go.Av
namespace Go.Proofs.YteihcffblfdgfaaGreat.P
open Go Go.Av
set_option maxRecDepth 4000
set_option maxHeartbeats 4000000
structure Yl (R : Rng) (cs : List AV) : Prop where
  ids : cs = [.own 1 0, .junk, .junk]
  y00 : ∀ r : Int, callA C0 yldF [.fn (.yield 0) [.own 0 0], .agg [.int r, .nils]] [some (.loop R cs .ready), some (.box [.nils])] = some (.bool true, [some (.loop R cs .ready), some (.box [.osl 2 2 0 1]), some (.arr 2 [[.int r, .isl []]])])
  y01 : ∀ (r : Int) (path : List Int), path ≠ [] → callA C0 yldF [.fn (.yield 0) [.own 0 0], .agg [.int r, .osl 2 1 0 path.length]] [some (.loop R cs .ready), some (.box [.nils]), some (.arr 1 (intsL path))] = some (.bool true, [some (.loop R cs .ready), some (.box [.osl 3 2 0 1]), some (.frz 1 (intsL path)), some (.arr 2 [[.int r, .isl (intsL path)]])])
  y10 : ∀ (r : Int) (n : Nat) (l : List Stp), l.length = n → n ≠ 0 → n < 1000000 → callA C0 yldF [.fn (.yield 0) [.own 0 0], .agg [.int r, .nils]] [some (.loop R cs .ready), some (.box [.osl 2 2 0 n]), some (.arr 2 (stpsL l))] = some (.bool true, [some (.loop R cs .ready), some (.box [.osl 3 2 0 (n + 1)]), none, some (.arr 2 (stpsL l ++ [[.int r, .isl []]]))])
  y11 : ∀ (r : Int) (n : Nat) (l : List Stp) (path : List Int), path ≠ [] → l.length = n → n ≠ 0 → n < 1000000 → callA C0 yldF [.fn (.yield 0) [.own 0 0], .agg [.int r, .osl 3 1 0 path.length]] [some (.loop R cs .ready), some (.box [.osl 2 2 0 n]), some (.arr 2 (stpsL l)), some (.arr 1 (intsL path))] = some (.bool true, [some (.loop R cs .ready), some (.box [.osl 4 2 0 (n + 1)]), none, some (.frz 1 (intsL path)), some (.arr 2 (stpsL l ++ [[.int r, .isl (intsL path)]]))])
end Go.Proofs.YteihcffblfdgfaaGreat.P

namespace Go.Proofs.YteihcffblfdgfaaGreat.P
open Go Go.Av
set_option maxRecDepth 4000
set_option maxHeartbeats 8000000
end Go.Proofs.YteihcffblfdgfaaGreat.P

namespace Go.Av
theorem width_okWs {p : Pn} {ws : List Int} (h : p.width ws ≠ 0) : okWs ws = true ∧ p.wd ws 8 ≠ 0 ∧ p.width ws = p.wd ws 8 := by
  unfold Pn.width at h ⊢
  split at h
  · rename_i hw; exact ⟨hw, h, if_pos hw⟩
  · exact absurd rfl h
def stepsP (p : Pn) (ws : List Int) : List Stp := if p.width ws = 0 then [] else stI ws [] p
end Go.Av
namespace Go.Proofs.YteihcffblfdgfaaGreat.P
open Go Go.Av
set_option maxRecDepth 4000
set_option maxHeartbeats 8000000
end Go.Proofs.YteihcffblfdgfaaGreat.P

namespace Go.Av
theorem wd_thin {ws : List Int} : ∀ (p : Pn) (lv : Nat), p.wd ws lv ≠ 0 → p.thin := by
  intro p
  induction p using Pn.ind with
  | h k t es cs ks ih =>
    intro lv h
    have hk : ∀ a ∈ ks, a.thin := fun a ha => by
      have h2 := (wd_kids (p := .mk k t es cs ks) h (by intro e; simp only [Pn.kids] at e; rw [e] at ha; simp at ha)).2.2 a ha
      exact ih a ha _ h2
    have hs := wd_shape h
    rw [Pn.thin_iff]
    generalize hp : Pn.mk k t es cs ks = p at *
    have hks : ks = p.kids := by rw [← hp]; rfl
    subst hks
    have ok1 : ∀ {w : Int} {e : Ex}, e.ok w = true → e.thin := fun h => Ex.thin_of_size _ (by have := Ex.ok_size h; omega)
    cases hs with
    | scan => simp [Pn.scan, Pn.exprs, Pn.cols, Pn.kids]
    | filt m e a _ _ he => exact ⟨by simp [filt, Pn.exprs], fun x hx => by simp [filt, Pn.exprs] at hx; subst hx; exact ok1 he, by simp [filt, Pn.cols], by simp [filt, Pn.kids], hk⟩
    | proj m es a _ _ hl he => exact ⟨by simp [proj, Pn.exprs]; unfold okWidth at hl; simp at hl; omega, fun x hx => ok1 (he x hx), by simp [proj, Pn.cols], by simp [proj, Pn.kids], hk⟩
    | pair m kd e a b _ _ _ _ _ he => exact ⟨by simp [pairP, Pn.exprs], fun x hx => by simp [pairP, Pn.exprs] at hx; subst hx; exact ok1 he, by simp [pairP, Pn.cols], by simp [pairP, Pn.kids], hk⟩
    | union m a b => exact ⟨by simp [unionP, Pn.exprs], by simp [unionP, Pn.exprs], by simp [unionP, Pn.cols], by simp [unionP, Pn.kids], hk⟩
    | dist m a => exact ⟨by simp [Pn.exprs], by simp [Pn.exprs], by simp [Pn.cols], by simp [Pn.kids], hk⟩
    | group m cs a _ _ hc => exact ⟨by simp [Pn.exprs], by simp [Pn.exprs], by simp only [Pn.cols]; omega, by simp [Pn.kids], hk⟩
theorem colX_thin (c : Int) : (colX c).thin := by simp [colX, Ex.thin, Ex.thinL]
theorem colsFrom_thin (a : Int) (n : Nat) : ∀ b ∈ colsFrom a n, b.thin := by
  intro b hb
  simp only [colsFrom, List.mem_map] at hb
  obtain ⟨i, _, rfl⟩ := hb
  exact colX_thin _
theorem wd_lt8 {ws : List Int} {p : Pn} (h : p.wd ws 8 ≠ 0) (hk : p.kids ≠ []) : ∀ a ∈ p.kids, a.wd ws 8 ≠ 0 := fun a ha => by
  have h2 := (wd_kids h hk).2.2 a ha
  rw [Pn.wd_more a 7 8 h2 (by omega)]; exact h2
end Go.Av
namespace Go.Proofs.YteihcffblfdgfaaGreat.P
open Go Go.Av
set_option maxRecDepth 4000
set_option maxHeartbeats 4000000
theorem spw8 {ws : List Int} (hw : okWs ws = true) {p : Pn} (hp : p.thin) : callA C0 59 [.i (.agg p.cells), .i (.isl (intsL ws)), .int 8] [] = some (.int (p.wd ws 8), []) := by
  refine splanWidth_eq (okWs_range hw) ?_ p (Pn.thin_lim p hp) 8 (by omega)
  unfold okWs at hw; simp at hw; omega
theorem sfilterOf_eq (e : Ex) (p : Pn) : callA C0 122 [.i (.agg e.cells), .i (.agg p.cells)] [] = some (.i (.agg (filt e p).cells), []) := by
  rw [callA_eq rfl Tryz.func122 rfl rfl, filt_cells, Ex.cells_eq, Pn.cells_eq]
  simp
def CFX (a : Int) (n i : Nat) : AS :=
  { env := [(0, .int a), (1, .int n), (4, .nils), (5, .osl 0 5 0 i), (6, .int i), (10, jk i (.bool true))], st := [some (.arr 5 (Ex.cellsL (colsFrom a i)))] }
theorem scolsFrom_eq (a : Int) (ha : 0 ≤ a ∧ a ≤ 100) (n : Nat) (hn : n < 1000) : callA C0 115 [.int a, .int n] [] = some (.osl 0 5 0 n, [some (.arr 5 (Ex.cellsL (colsFrom a n)))]) := by
  rw [callA_eq rfl Tryz.func115 rfl rfl]
  simp
  rw [loop_to (CFX a n) n (by simp [CFX, colsFrom, Ex.cellsL])]
  · rw [execA_loop]
    have h8 : (colsFrom a n).take n = colsFrom a n := List.take_of_length_le (by simp)
    simp [CFX, h8]
  · intro i hi
    have w2 : IntKind.i64.wrap ((i : Int) + 1) = i + 1 := wrap64 (by omega) (by omega)
    have w3 : IntKind.i64.wrap (a + (i : Int)) = a + i := wrap64 (by omega) (by omega)
    have h8 : (colsFrom a i).take i = colsFrom a i := List.take_of_length_le (by simp)
    simp [CFX, hi, w2, w3, h8, colsFrom_succ, Ex.cellsL_snoc, colX_cells, show (i + 1) * 56 ≤ 140737488355328 by omega]
def SRule (ws : List Int) (r : Int) (e : Ex) (k : Pn) : Prop := callA C0 114 [.i (.agg (filt e k).cells), .int r, .i (.isl (intsL ws))] [] = some (.tup [.i (.agg ((rwF ws r e k).getD (filt e k)).cells), .bool (rwF ws r e k).isSome], [])
theorem srule_other {ws : List Int} (hw : okWs ws = true) {e : Ex} {k : Pn} (hp : (filt e k).wd ws 8 ≠ 0) {r : Int} (hr : r ≠ 1 ∧ r ≠ 2 ∧ r ≠ 3 ∧ r ≠ 4 ∧ r ≠ 5 ∧ r ≠ 7 ∧ r ≠ 8 ∧ r ≠ 10) : SRule ws r e k := by
  obtain ⟨h1, h2, h3⟩ := filt8 hp
  have c1 := spw8 hw (wd_thin k 8 h1)
  unfold SRule
  obtain ⟨r1, r2, r3, r4, r5, r7, r8, r10⟩ := hr
  have hn : rwF ws r e k = none := by simp [rwF, r1, r2, r3, r4, r5, r7, r8, r10]
  rw [hn, callA_eq rfl Tryz.func114 rfl rfl]
  cases hk : k.kids with
  | nil =>
    simp only [Option.getD, filt_cells, Ex.cells_eq e, Pn.cells_eq k, hk, Pn.cellsL] at c1 ⊢
    simp [c1, r1, r2, r3, r4, r5, r7, r8, r10]
  | cons x xs =>
    have c2 := spw8 hw (wd_thin x 8 (wd_lt8 h1 (by simp [hk]) x (by simp [hk])))
    simp only [Option.getD, filt_cells, Ex.cells_eq e, Pn.cells_eq k, hk, Pn.cellsL, Pn.cells_eq x] at c1 c2 ⊢
    simp [c1, c2, r1, r2, r3, r4, r5, r7, r8, r10]
end Go.Proofs.YteihcffblfdgfaaGreat.P

namespace Go.Proofs.YteihcffblfdgfaaGreat.P
open Go Go.Av
set_option maxRecDepth 4000
set_option maxHeartbeats 4000000
theorem srule_no {ws : List Int} (hw : okWs ws = true) {e : Ex} {k : Pn} (hp : (filt e k).wd ws 8 ≠ 0) {r : Int} (hr : (r = 1 ∧ k.kind ≠ 2) ∨ (r = 2 ∧ e.kind ≠ 8) ∨ (r = 3 ∧ ¬ (k.kind = 4 ∨ k.kind = 5)) ∨ (r = 4 ∧ k.kind ≠ 4) ∨ (r = 5 ∧ k.kind ≠ 4) ∨ (r = 7 ∧ k.kind ≠ 5) ∨ (r = 8 ∧ k.kind ≠ 6) ∨ (r = 10 ∧ k.kind ≠ 3)) : SRule ws r e k := by
  obtain ⟨h1, h2, h3⟩ := filt8 hp
  have c1 := spw8 hw (wd_thin k 8 h1)
  unfold SRule
  have hn : rwF ws r e k = none := by
    rcases hr with ⟨rfl, q⟩ | ⟨rfl, q⟩ | ⟨rfl, q⟩ | ⟨rfl, q⟩ | ⟨rfl, q⟩ | ⟨rfl, q⟩ | ⟨rfl, q⟩ | ⟨rfl, q⟩ <;> simp [rwF, q]
  have hr' : (r = 1 ∧ k.kind ≠ 2) ∨ (r = 2 ∧ e.kind ≠ 8) ∨ (r = 3 ∧ (k.kind ≠ 4 ∧ k.kind ≠ 5)) ∨ (r = 4 ∧ k.kind ≠ 4) ∨ (r = 5 ∧ k.kind ≠ 4) ∨ (r = 7 ∧ k.kind ≠ 5) ∨ (r = 8 ∧ k.kind ≠ 6) ∨ (r = 10 ∧ k.kind ≠ 3) := by omega
  rw [hn, callA_eq rfl Tryz.func114 rfl rfl]
  cases hk : k.kids with
  | nil =>
    simp only [Option.getD, filt_cells, Ex.cells_eq e, Pn.cells_eq k, hk, Pn.cellsL] at c1 ⊢
    rcases hr' with ⟨rfl, q⟩ | ⟨rfl, q⟩ | ⟨rfl, q⟩ | ⟨rfl, q⟩ | ⟨rfl, q⟩ | ⟨rfl, q⟩ | ⟨rfl, q⟩ | ⟨rfl, q⟩ <;> simp [c1, q]
  | cons x xs =>
    have c2 := spw8 hw (wd_thin x 8 (wd_lt8 h1 (by simp [hk]) x (by simp [hk])))
    simp only [Option.getD, filt_cells, Ex.cells_eq e, Pn.cells_eq k, hk, Pn.cellsL, Pn.cells_eq x] at c1 c2 ⊢
    rcases hr' with ⟨rfl, q⟩ | ⟨rfl, q⟩ | ⟨rfl, q⟩ | ⟨rfl, q⟩ | ⟨rfl, q⟩ | ⟨rfl, q⟩ | ⟨rfl, q⟩ | ⟨rfl, q⟩ <;> simp [c1, c2, q]
theorem srule1 {ws : List Int} (hw : okWs ws = true) {e e2 : Ex} {a : Pn} (hp : (filt e (filt e2 a)).wd ws 8 ≠ 0) : SRule ws 1 e (filt e2 a) := by
  obtain ⟨h1, h2, h3⟩ := filt8 hp
  have c1 := spw8 hw (wd_thin _ 8 h1)
  have c2 := spw8 hw (wd_thin _ 8 (filt8 h1).1)
  have c3 := sfilterOf_eq (andE e2 e) a
  have hr : rwF ws 1 e (filt e2 a) = some (filt (andE e2 e) a) := by simp [rwF, filt, Pn.ex0, Pn.kid0, Pn.kind, Pn.exprs, Pn.kids]
  unfold SRule
  rw [hr, callA_eq rfl Tryz.func114 rfl rfl]
  generalize (filt e2 a).wd ws 8 = W at *
  generalize a.wd ws 8 = V at *
  simp only [Option.getD, Option.isSome, filt_cells, andE_cells, Ex.cells_eq e, Ex.cells_eq e2, Pn.cells_eq a] at c1 c2 c3 ⊢
  simp [c1, c2, c3]
theorem srule2 {ws : List Int} (hw : okWs ws = true) {e x y : Ex} {k : Pn} (hp : (filt e k).wd ws 8 ≠ 0) (he : e.kind = 8) (hk2 : e.kids = [x, y]) : SRule ws 2 e k := by
  obtain ⟨h1, h2, h3⟩ := filt8 hp
  have c1 := spw8 hw (wd_thin k 8 h1)
  have c3 := sfilterOf_eq x k
  have c4 := sfilterOf_eq y (filt x k)
  have hr : rwF ws 2 e k = some (filt y (filt x k)) := by simp [rwF, he, Ex.kid0, Ex.kid1, hk2]
  unfold SRule
  rw [hr, callA_eq rfl Tryz.func114 rfl rfl]
  cases hk : k.kids with
  | nil =>
    simp only [Option.getD, Option.isSome, filt_cells, Ex.cells_eq e, hk2, Ex.cellsL, Ex.cells_eq x, Ex.cells_eq y, Pn.cells_eq k, hk, Pn.cellsL] at c1 c3 c4 ⊢
    simp [c1, c3, c4, he]
  | cons z zs =>
    have c2 := spw8 hw (wd_thin z 8 (wd_lt8 h1 (by simp [hk]) z (by simp [hk])))
    simp only [Option.getD, Option.isSome, filt_cells, Ex.cells_eq e, hk2, Ex.cellsL, Ex.cells_eq x, Ex.cells_eq y, Pn.cells_eq k, hk, Pn.cellsL, Pn.cells_eq z] at c1 c2 c3 c4 ⊢
    simp [c1, c2, c3, c4, he]
theorem srule3 {ws : List Int} (hw : okWs ws = true) {e e2 : Ex} {x y : Pn} {kd : Int} (hkd : kd = 4 ∨ kd = 5) (hp : (filt e (pairP kd e2 x y)).wd ws 8 ≠ 0) : SRule ws 3 e (pairP kd e2 x y) := by
  obtain ⟨h1, h2, h3⟩ := filt8 hp
  obtain ⟨g1, g2, g3, g4, g5⟩ := pair8 hkd h1
  have c1 := spw8 hw (wd_thin _ 8 h1)
  have c2 := spw8 hw (wd_thin _ 8 g1)
  obtain ⟨n, hn, n1, n2⟩ := wdNat hw g1
  rw [hn] at c2
  have c3 := sfilterOf_eq e x
  have c4 := within_eq e (Ex.ok_wf h2).1 (by have := Ex.ok_size h2; omega) 0 n (by omega)
  have w1 : IntKind.i64.wrap ((n : Int) - 1) = n - 1 := wrap64 (by omega) (by omega)
  have hr : rwF ws 3 e (pairP kd e2 x y) = if e.cin 0 n = true then some (pairP kd e2 (filt e x) y) else none := by
    simp [rwF, pairP, Pn.ex0, Pn.kid0, Pn.kid1, Pn.kind, Pn.exprs, Pn.kids, hkd, hn]
  unfold SRule
  rw [hr, callA_eq rfl Tryz.func114 rfl rfl]
  generalize (pairP kd e2 x y).wd ws 8 = W at *
  cases hb : e.cin 0 n with
  | true =>
    rw [hb] at c4
    simp only [if_true, Option.getD, Option.isSome, filt_cells, pair_cells, Ex.cells_eq e, Ex.cells_eq e2, Pn.cells_eq x, Pn.cells_eq y] at c1 c2 c3 c4 ⊢
    rcases hkd with rfl | rfl <;> simp [c1, c2, c3, c4, w1]
  | false =>
    rw [hb] at c4
    simp only [Bool.false_eq_true, if_false, Option.getD, Option.isSome, filt_cells, pair_cells, Ex.cells_eq e, Ex.cells_eq e2, Pn.cells_eq x, Pn.cells_eq y] at c1 c2 c3 c4 ⊢
    rcases hkd with rfl | rfl <;> simp [c1, c2, c4, w1]
theorem srule4 {ws : List Int} (hw : okWs ws = true) {e e2 : Ex} {x y : Pn} (hp : (filt e (pairP 4 e2 x y)).wd ws 8 ≠ 0) : SRule ws 4 e (pairP 4 e2 x y) := by
  obtain ⟨h1, h2, h3⟩ := filt8 hp
  obtain ⟨g1, g2, g3, g4, g5⟩ := pair8 (.inl rfl) h1
  have c1 := spw8 hw (wd_thin _ 8 h1)
  have c2 := spw8 hw (wd_thin _ 8 g1)
  obtain ⟨n, hn, n1, n2⟩ := wdNat hw g1
  obtain ⟨m, hm, m1, m2⟩ := wdNat hw g2
  have hwf := (Ex.ok_wf h2).1
  rw [g5, hn, hm, ← Int.natCast_add] at hwf
  have g5' := g5
  rw [hn, hm, ← Int.natCast_add] at g5'
  rw [g5'] at c1
  rw [hn] at c2
  have c4 := within_eq e hwf (by have := Ex.ok_size h2; omega) n (n + m : Nat) (by omega)
  have w1 : IntKind.i64.wrap ((n : Int) + m - 1) = n + m - 1 := wrap64 (by omega) (by omega)
  have w2 : IntKind.i64.wrap ((n : Int) + m - n) = m := by rw [wrap64 (by omega) (by omega)]; omega
  have hr : rwF ws 4 e (pairP 4 e2 x y) = if e.cin n (n + m : Nat) = true then some (pairP 4 e2 x (filt (e.mapC (· - n)) y)) else none := by
    have := g5'; unfold pairP at this
    simp [rwF, pairP, Pn.ex0, Pn.kid0, Pn.kid1, Pn.kind, Pn.exprs, Pn.kids, hn, this]
  have f1 := scolsFrom_eq 0 (by omega) n (by omega)
  have f2 := scolsFrom_eq 0 (by omega) m (by omega)
  have hlen : (colsFrom 0 n ++ colsFrom 0 m).length = n + m := by simp
  have f3 := substitute_eq (colsFrom 0 n ++ colsFrom 0 m) (fun b hb => by
    rcases List.mem_append.1 hb with h | h <;> exact colsFrom_thin _ _ b h) e (Ex.thin_of_size _ (by have := Ex.ok_size h2; omega)) (by rw [hlen]; exact Ex.wf_colsB e hwf)
  unfold SRule
  rw [hr, callA_eq rfl Tryz.func114 rfl rfl]
  cases hb : e.cin n (n + m : Nat) with
  | true =>
    have hsub : e.sub (colsFrom 0 n ++ colsFrom 0 m) = e.mapC (· - n) := Ex.sub_mapC (g := fun c => decide ((n : Int) ≤ c ∧ c < (n + m : Nat))) (fun c hc => by
      simp only [decide_eq_true_eq] at hc
      rw [List.getElem?_append_right (by simp; omega), colsFrom_length, colsFrom_nth (by omega)]
      congr 2; omega) e hb
    rw [hsub] at f3
    have c3 := sfilterOf_eq (e.mapC (· - n)) y
    generalize e.mapC (· - (n : Int)) = z at *
    rw [hb] at c4
    have ht : ∀ k : Nat, (colsFrom 0 k).take k = colsFrom 0 k := fun k => List.take_of_length_le (by simp)
    have ht2 : (Ex.cellsL (colsFrom 0 n) ++ Ex.cellsL (colsFrom 0 m)).take (n + m) = Ex.cellsL (colsFrom 0 n) ++ Ex.cellsL (colsFrom 0 m) := List.take_of_length_le (by simp)
    have hl1 : (n + m) * 56 ≤ 140737488355328 := by omega
    simp only [Int.natCast_add] at c1 c4
    simp only [if_true, Option.getD, Option.isSome, filt_cells, pair_cells, Ex.cells_eq e, Ex.cells_eq e2, Ex.cells_eq z, Pn.cells_eq x, Pn.cells_eq y, Ex.cellsL_append] at c1 c2 c3 c4 f3 ⊢
    simp [c1, c2, c3, c4, w1, w2, f1, f2, f3, ht, ht2, hl1]
  | false =>
    rw [hb] at c4
    simp only [Int.natCast_add] at c1 c4
    simp only [Bool.false_eq_true, if_false, Option.getD, Option.isSome, filt_cells, pair_cells, Ex.cells_eq e, Ex.cells_eq e2, Pn.cells_eq x, Pn.cells_eq y] at c1 c2 c4 ⊢
    simp [c1, c2, c4, w1]
theorem srule5 {ws : List Int} (hw : okWs ws = true) {e e2 : Ex} {x y : Pn} (hp : (filt e (pairP 4 e2 x y)).wd ws 8 ≠ 0) : SRule ws 5 e (pairP 4 e2 x y) := by
  obtain ⟨h1, h2, h3⟩ := filt8 hp
  obtain ⟨g1, g2, g3, g4, g5⟩ := pair8 (.inl rfl) h1
  have c1 := spw8 hw (wd_thin _ 8 h1)
  have c2 := spw8 hw (wd_thin _ 8 g1)
  have hr : rwF ws 5 e (pairP 4 e2 x y) = some (pairP 4 (andE e2 e) x y) := by
    simp [rwF, pairP, Pn.ex0, Pn.kid0, Pn.kid1, Pn.kind, Pn.exprs, Pn.kids]
  unfold SRule
  rw [hr, callA_eq rfl Tryz.func114 rfl rfl]
  generalize (pairP 4 e2 x y).wd ws 8 = W at *
  generalize x.wd ws 8 = V at *
  simp only [Option.getD, Option.isSome, filt_cells, pair_cells, andE_cells, Ex.cells_eq e, Ex.cells_eq e2, Pn.cells_eq x, Pn.cells_eq y] at c1 c2 ⊢
  simp [c1, c2]
theorem srule7 {ws : List Int} (hw : okWs ws = true) {e e2 : Ex} {x y : Pn} (hp : (filt e (pairP 5 e2 x y)).wd ws 8 ≠ 0) : SRule ws 7 e (pairP 5 e2 x y) := by
  obtain ⟨h1, h2, h3⟩ := filt8 hp
  obtain ⟨g1, g2, g3, g4, g5⟩ := pair8 (.inr rfl) h1
  have c1 := spw8 hw (wd_thin _ 8 h1)
  have c2 := spw8 hw (wd_thin _ 8 g1)
  obtain ⟨n, hn, n1, n2⟩ := wdNat hw g1
  obtain ⟨m, hm, m1, m2⟩ := wdNat hw g2
  have hwf := (Ex.ok_wf h2).1
  rw [g5, hn, hm, ← Int.natCast_add] at hwf
  have g5' := g5
  rw [hn, hm, ← Int.natCast_add] at g5'
  rw [g5'] at c1
  rw [hn] at c2
  have c3 := sfilterOf_eq e (pairP 4 e2 x y)
  have f1 := columnList_eq (n := n + m) (p := n) (m := m) rfl (by omega)
  have f2 := srejects_eq e (n := n + m) (p := n) (m := m) rfl (by omega) hwf
  have hr : rwF ws 7 e (pairP 5 e2 x y) = if rejP e (n + m : Nat) n = true then some (filt e (pairP 4 e2 x y)) else none := by
    have := g5'; unfold pairP at this
    simp [rwF, pairP, Pn.ex0, Pn.kid0, Pn.kid1, Pn.kind, Pn.exprs, Pn.kids, hn, this]
  unfold SRule
  rw [hr, callA_eq rfl Tryz.func114 rfl rfl]
  simp only [Int.natCast_add] at c1 f1 f2
  cases hb : rejP e (n + m : Nat) n with
  | true =>
    rw [show rejP e ((n : Int) + m) n = true by rw [← Int.natCast_add]; exact hb] at f2
    simp only [if_true, Option.getD, Option.isSome, filt_cells, pair_cells, Ex.cells_eq e, Ex.cells_eq e2, Pn.cells_eq x, Pn.cells_eq y] at c1 c2 c3 f2 ⊢
    simp [c1, c2, c3, f1, f2]
  | false =>
    rw [show rejP e ((n : Int) + m) n = false by rw [← Int.natCast_add]; exact hb] at f2
    simp only [Bool.false_eq_true, if_false, Option.getD, Option.isSome, filt_cells, pair_cells, Ex.cells_eq e, Ex.cells_eq e2, Pn.cells_eq x, Pn.cells_eq y] at c1 c2 f2 ⊢
    simp [c1, c2, f1, f2]
theorem srule8 {ws : List Int} (hw : okWs ws = true) {e : Ex} {x y : Pn} (hp : (filt e (unionP x y)).wd ws 8 ≠ 0) : SRule ws 8 e (unionP x y) := by
  obtain ⟨h1, h2, h3⟩ := filt8 hp
  have c1 := spw8 hw (wd_thin _ 8 h1)
  have c2 := spw8 hw (wd_thin x 8 (wd_lt8 h1 (by simp [unionP, Pn.kids]) x (by simp [unionP, Pn.kids])))
  have c3 := sfilterOf_eq e x
  have c4 := sfilterOf_eq e y
  have hr : rwF ws 8 e (unionP x y) = some (unionP (filt e x) (filt e y)) := by
    simp [rwF, unionP, Pn.ex0, Pn.kid0, Pn.kid1, Pn.kind, Pn.exprs, Pn.kids]
  unfold SRule
  rw [hr, callA_eq rfl Tryz.func114 rfl rfl]
  generalize (unionP x y).wd ws 8 = W at *
  generalize x.wd ws 8 = V at *
  simp only [Option.getD, Option.isSome, filt_cells, union_cells, Ex.cells_eq e, Pn.cells_eq x, Pn.cells_eq y] at c1 c2 c3 c4 ⊢
  simp [c1, c2, c3, c4]
theorem srule10 {ws : List Int} (hw : okWs ws = true) {e : Ex} {es : List Ex} {x : Pn} (hp : (filt e (proj es x)).wd ws 8 ≠ 0) : SRule ws 10 e (proj es x) := by
  obtain ⟨h1, h2, h3⟩ := filt8 hp
  obtain ⟨g1, g2, g3, g4⟩ := proj8 h1
  have c1 := spw8 hw (wd_thin _ 8 h1)
  have c2 := spw8 hw (wd_thin _ 8 g1)
  rw [g4] at h2
  have c3 := sfilterOf_eq (e.sub es) x
  have f3 := substitute_eq es (fun b hb => Ex.thin_of_size _ (by have := Ex.ok_size (List.all_eq_true.1 g3 b hb); omega)) e (Ex.thin_of_size _ (by have := Ex.ok_size h2; omega)) (Ex.wf_colsB e (Ex.ok_wf h2).1)
  have hr : rwF ws 10 e (proj es x) = some (proj es (filt (e.sub es) x)) := by
    simp [rwF, proj, Pn.ex0, Pn.kid0, Pn.kid1, Pn.kind, Pn.exprs, Pn.kids]
  unfold SRule
  rw [hr, callA_eq rfl Tryz.func114 rfl rfl]
  generalize (proj es x).wd ws 8 = W at *
  generalize x.wd ws 8 = V at *
  generalize e.sub es = z at *
  simp only [Option.getD, Option.isSome, filt_cells, proj_cells, Ex.cells_eq e, Ex.cells_eq z, Pn.cells_eq x] at c1 c2 c3 f3 ⊢
  simp [c1, c2, c3, f3]
end Go.Proofs.YteihcffblfdgfaaGreat.P

namespace Go.Proofs.YteihcffblfdgfaaGreat.P
open Go Go.Av
set_option maxRecDepth 4000
set_option maxHeartbeats 4000000
theorem srule_eq {ws : List Int} (hw : okWs ws = true) {e : Ex} {k : Pn} (hp : (filt e k).wd ws 8 ≠ 0) (r : Int) : SRule ws r e k := by
  obtain ⟨h1, h2, h3⟩ := filt8 hp
  by_cases hr : r ≠ 1 ∧ r ≠ 2 ∧ r ≠ 3 ∧ r ≠ 4 ∧ r ≠ 5 ∧ r ≠ 7 ∧ r ≠ 8 ∧ r ≠ 10
  · exact srule_other hw hp hr
  have hk := Wd_of h1
  have hr' : r = 1 ∨ r = 2 ∨ r = 3 ∨ r = 4 ∨ r = 5 ∨ r = 7 ∨ r = 8 ∨ r = 10 := by omega
  rcases hr' with rfl | rfl | rfl | rfl | rfl | rfl | rfl | rfl
  · by_cases q : k.kind = 2
    · obtain ⟨e2, a, rfl⟩ := Wd_two hk q
      exact srule1 hw hp
    · exact srule_no hw hp (.inl ⟨rfl, q⟩)
  · by_cases q : e.kind = 8
    · rcases Ex.wf_shape (Ex.ok_wf h2).1 with ⟨h, _⟩ | ⟨h, _⟩ | ⟨h, _⟩ | ⟨_, x, y, h, _⟩
      · omega
      · omega
      · omega
      · exact srule2 hw hp q h
    · exact srule_no hw hp (.inr (.inl ⟨rfl, q⟩))
  · by_cases q : k.kind = 4 ∨ k.kind = 5
    · obtain ⟨e2, x, y, hx⟩ := Wd_four hk q
      generalize k.kind = kd at *
      subst hx
      exact srule3 hw q hp
    · exact srule_no hw hp (.inr (.inr (.inl ⟨rfl, q⟩)))
  · by_cases q : k.kind = 4
    · obtain ⟨e2, x, y, hx⟩ := Wd_four hk (.inl q)
      rw [q] at hx; subst hx
      exact srule4 hw hp
    · exact srule_no hw hp (.inr (.inr (.inr (.inl ⟨rfl, q⟩))))
  · by_cases q : k.kind = 4
    · obtain ⟨e2, x, y, hx⟩ := Wd_four hk (.inl q)
      rw [q] at hx; subst hx
      exact srule5 hw hp
    · exact srule_no hw hp (.inr (.inr (.inr (.inr (.inl ⟨rfl, q⟩)))))
  · by_cases q : k.kind = 5
    · obtain ⟨e2, x, y, hx⟩ := Wd_four hk (.inr q)
      rw [q] at hx; subst hx
      exact srule7 hw hp
    · exact srule_no hw hp (.inr (.inr (.inr (.inr (.inr (.inl ⟨rfl, q⟩))))))
  · by_cases q : k.kind = 6
    · obtain ⟨x, y, rfl⟩ := Wd_six hk q
      exact srule8 hw hp
    · exact srule_no hw hp (.inr (.inr (.inr (.inr (.inr (.inr (.inl ⟨rfl, q⟩)))))))
  · by_cases q : k.kind = 3
    · obtain ⟨es, x, rfl⟩ := Wd_three hk q
      exact srule10 hw hp
    · exact srule_no hw hp (.inr (.inr (.inr (.inr (.inr (.inr (.inr ⟨rfl, q⟩)))))))
def SRw (ws : List Int) (r : Int) (p : Pn) : Prop := callA C0 89 [.i (.agg p.cells), .int r, .i (.isl (intsL ws))] [] = some (.tup [.i (.agg ((rwP ws r p).getD p).cells), .bool (rwP ws r p).isSome], [])
theorem srw_filt {ws : List Int} (hw : okWs ws = true) {e : Ex} {k : Pn} (hp : (filt e k).wd ws 8 ≠ 0) (r : Int) : SRw ws r (filt e k) := by
  have h := srule_eq hw hp r
  unfold SRule at h
  unfold SRw
  rw [rwP_filt]
  generalize (rwF ws r e k).getD (filt e k) = q at *
  generalize (rwF ws r e k).isSome = b at *
  rw [callA_eq rfl Tryz.func89 rfl rfl]
  simp only [filt_cells, Pn.cells_eq q] at h ⊢
  simp [h]
theorem srw_no {ws : List Int} {p : Pn} {r : Int} (h2 : p.kind ≠ 2) (h4 : ¬ (r = 6 ∧ p.kind = 4)) (h7 : ¬ (r = 9 ∧ p.kind = 7)) (h3 : ¬ (r = 11 ∧ p.kind = 3)) : SRw ws r p := by
  have hn : rwP ws r p = none := by
    unfold rwP
    rw [if_neg h2, if_neg h4, if_neg (fun h => h7 ⟨h.1, h.2.1⟩), if_neg (fun h => h3 ⟨h.1, h.2.1⟩)]
  unfold SRw
  rw [hn, callA_eq rfl Tryz.func89 rfl rfl]
  simp only [Option.getD, Option.isSome, Pn.cells_eq p]
  by_cases r6 : r = 6
  · have k4 : ¬ p.kind = 4 := fun h => h4 ⟨r6, h⟩
    simp [h2, r6, k4]
  · by_cases r9 : r = 9
    · have k7 : ¬ p.kind = 7 := fun h => h7 ⟨r9, h⟩
      simp [h2, r9, k7]
    · by_cases r11 : r = 11
      · have k3 : ¬ p.kind = 3 := fun h => h3 ⟨r11, h⟩
        simp [h2, r11, k3]
      · simp [h2, r6, r9, r11]
theorem srw_six {ws : List Int} (hw : okWs ws = true) {e : Ex} {x y : Pn} (hp : (pairP 4 e x y).wd ws 8 ≠ 0) : SRw ws 6 (pairP 4 e x y) := by
  obtain ⟨g1, g2, g3, g4, g5⟩ := pair8 (.inl rfl) hp
  have c1 := spw8 hw (wd_thin _ 8 g1)
  have c2 := spw8 hw (wd_thin _ 8 g2)
  obtain ⟨n, hn, n1, n2⟩ := wdNat hw g1
  obtain ⟨m, hm, m1, m2⟩ := wdNat hw g2
  have hwf := (Ex.ok_wf g4).1
  rw [hn] at c1 hwf
  rw [hm] at c2 hwf
  have f1 := scolsFrom_eq m (by omega) n (by omega)
  have f2 := scolsFrom_eq 0 (by omega) m (by omega)
  have hlen : (colsFrom (m : Int) n ++ colsFrom 0 m).length = n + m := by simp
  have f3 := substitute_eq (colsFrom (m : Int) n ++ colsFrom 0 m) (fun b hb => by
    rcases List.mem_append.1 hb with h | h <;> exact colsFrom_thin _ _ b h) e (Ex.thin_of_size _ (by have := Ex.ok_size g4; omega)) (by rw [hlen, Int.natCast_add]; exact Ex.wf_colsB e hwf)
  have hsub : e.sub (colsFrom (m : Int) n ++ colsFrom 0 m) = e.mapC (swapC n m) := Ex.sub_mapC (g := fun c => decide (0 ≤ c ∧ c < (n : Int) + m)) (fun c hc => by
      simp only [decide_eq_true_eq] at hc
      rw [comm_nth (by omega)]
      congr 3; omega) e (Ex.wf_allC e hwf)
  rw [hsub] at f3
  have hr : rwP ws 6 (pairP 4 e x y) = some (proj (colsFrom m n ++ colsFrom 0 m) (pairP 4 (e.mapC (swapC n m)) y x)) := by
    simp [rwP, pairP, Pn.ex0, Pn.kid0, Pn.kid1, Pn.kind, Pn.exprs, Pn.kids, hn, hm]
  unfold SRw
  rw [hr, callA_eq rfl Tryz.func89 rfl rfl]
  generalize e.mapC (swapC n m) = z at *
  have ht : ∀ (a : Int) (k : Nat), (colsFrom a k).take k = colsFrom a k := fun a k => List.take_of_length_le (by simp)
  have ht2 : (Ex.cellsL (colsFrom m n) ++ Ex.cellsL (colsFrom 0 m)).take (n + m) = Ex.cellsL (colsFrom m n) ++ Ex.cellsL (colsFrom 0 m) := List.take_of_length_le (by simp)
  have hl1 : (n + m) * 56 ≤ 140737488355328 := by omega
  simp only [Option.getD, Option.isSome, proj_cells, pair_cells, Ex.cells_eq e, Ex.cells_eq z, Pn.cells_eq x, Pn.cells_eq y, Ex.cellsL_append] at c1 c2 f3 ⊢
  simp [c1, c2, f1, f2, f3, ht, ht2, hl1]
theorem srw_nine {ws : List Int} {a : Pn} : SRw ws 9 (.mk 7 0 [] [] [a]) := by
  have hc : (Pn.mk 7 0 [] [] [a]).cells = [.int 7, .int 0, .isl [], .isl [], .isl [a.cells]] := by simp [Pn.cells, Ex.cellsL, intsL, Pn.cellsL]
  unfold SRw
  rw [callA_eq rfl Tryz.func89 rfl rfl]
  by_cases h : a.kind = 7 ∨ a.kind = 8
  · have hr : rwP ws 9 (.mk 7 0 [] [] [a]) = some a := by simp [rwP, Pn.kid0, Pn.kids, h]
    rw [hr]
    simp only [Option.getD, Option.isSome, hc, Pn.cells_eq a]
    rcases h with h | h <;> simp [h]
  · have hr : rwP ws 9 (.mk 7 0 [] [] [a]) = none := by simp [rwP, Pn.kid0, Pn.kids, h]
    rw [hr]
    simp only [Option.getD, Option.isSome, hc, Pn.cells_eq a]
    have h7 : ¬ a.kind = 7 := by omega
    have h8 : ¬ a.kind = 8 := by omega
    simp [h7, h8]
theorem srw_eleven_no {ws : List Int} {fs : List Ex} {a : Pn} (h : a.kind ≠ 3) : SRw ws 11 (proj fs a) := by
  have hr : rwP ws 11 (proj fs a) = none := by simp [rwP, Pn.kid0, Pn.kids, proj, h]
  unfold SRw
  rw [hr, callA_eq rfl Tryz.func89 rfl rfl]
  simp only [Option.getD, Option.isSome, proj_cells, Pn.cells_eq a]
  simp [h]
def SRX (fs es : List Ex) (x : Pn) (ws : List Int) (zs : List Ex) (i : Nat) : AS :=
  { env := [(0, .i (.agg [.int 3, .int 0, .isl (Ex.cellsL fs), .isl [], .isl [[.int 3, .int 0, .isl (Ex.cellsL es), .isl [], .isl [[.int x.kind, .int x.table, .isl (Ex.cellsL x.exprs), .isl (intsL x.cols), .isl (Pn.cellsL x.kids)]]]]])), (1, .int 11), (2, .i (.isl (intsL ws))), (3, .own 0 0), (6, .own 1 0), (7, .bool false), (8, .junk), (9, .junk), (10, .junk), (11, .junk), (12, .osl 2 5 0 i), (13, .int i), (14, .bool false), (24, .bool false), (71, .bool false), (99, .bool true), (120, jk i (.bool true))],
    st := [some (.box [.i (.int 3), .i (.int 0), .i (.isl (Ex.cellsL fs)), .i (.isl []), .i (.isl [[.int 3, .int 0, .isl (Ex.cellsL es), .isl [], .isl [[.int x.kind, .int x.table, .isl (Ex.cellsL x.exprs), .isl (intsL x.cols), .isl (Pn.cellsL x.kids)]]]])]), some (.box [.int 0, .int 0, .nils, .nils, .nils]), some (.arr 5 (Ex.cellsL (zs.take i)))] }
theorem srw_eleven {ws : List Int} {fs es : List Ex} {x : Pn} (hp : (proj fs (proj es x)).wd ws 8 ≠ 0) : SRw ws 11 (proj fs (proj es x)) := by
  obtain ⟨h1, h2, h3, h4⟩ := proj8 hp
  obtain ⟨g1, g2, g3, g4⟩ := proj8 h1
  rw [g4] at h3
  have f3 := fun f (hf : f ∈ fs) => substitute_eq es (fun b hb => Ex.thin_of_size _ (by have := Ex.ok_size (List.all_eq_true.1 g3 b hb); omega)) f (Ex.thin_of_size _ (by have := Ex.ok_size (List.all_eq_true.1 h3 f hf); omega)) (Ex.wf_colsB f (Ex.ok_wf (List.all_eq_true.1 h3 f hf)).1)
  have hr : rwP ws 11 (proj fs (proj es x)) = some (proj (fs.map (Ex.sub es)) x) := by
    simp [rwP, proj, Pn.ex0, Pn.kid0, Pn.kid1, Pn.kind, Pn.exprs, Pn.kids]
  unfold SRw
  rw [hr, callA_eq rfl Tryz.func89 rfl rfl]
  have hlen : fs.length ≤ 6 := by unfold okWidth at h2; simp at h2; omega
  have hz : ∀ (i : Nat) (f : Ex), fs[i]? = some f → (fs.map (Ex.sub es))[i]? = some (f.sub es) := fun i f h => by simp [h]
  have hzl : (fs.map (Ex.sub es)).length = fs.length := by simp
  generalize fs.map (Ex.sub es) = zs at *
  simp only [Option.getD, Option.isSome, proj_cells, Pn.cells_eq x]
  simp
  rw [loop_to (SRX fs es x ws zs) fs.length (by simp [SRX, Ex.cellsL])]
  · rw [execA_loop]
    have ht : zs.take fs.length = zs := List.take_of_length_le (by omega)
    simp [SRX, ht, hzl]
  · intro i hi
    have q1 := List.getElem?_eq_getElem hi
    have hm := List.mem_of_getElem? q1
    have r1 := Ex.cellsL_nth q1
    generalize fs[i] = f at q1 hm r1
    have q2 := hz i f q1
    have c5 := f3 f hm
    generalize f.sub es = z at q2 c5
    have htk := take_snoc q2
    have w2 : IntKind.i64.wrap ((i : Int) + 1) = i + 1 := wrap64 (by omega) (by omega)
    have hl1 : (i + 1) * 56 ≤ 140737488355328 := by omega
    have hl2 : i ≤ min i zs.length := by omega
    simp only [Ex.cells_eq f, Ex.cells_eq z] at c5 r1
    simp [SRX, hi, r1, c5, w2, htk, Ex.cellsL_snoc, Ex.cells_eq z, hl1, hl2, List.take_take]
theorem srw_eq {ws : List Int} (hw : okWs ws = true) {p : Pn} (hp : p.wd ws 8 ≠ 0) (r : Int) : SRw ws r p := by
  have hk := Wd_of hp
  by_cases k2 : p.kind = 2
  · obtain ⟨e, a, rfl⟩ := Wd_two hk k2
    exact srw_filt hw hp r
  by_cases k4 : r = 6 ∧ p.kind = 4
  · obtain ⟨rfl, k4⟩ := k4
    obtain ⟨e, x, y, hx⟩ := Wd_four hk (.inl k4)
    rw [k4] at hx; subst hx
    exact srw_six hw hp
  by_cases k7 : r = 9 ∧ p.kind = 7
  · obtain ⟨rfl, k7⟩ := k7
    obtain ⟨a, rfl⟩ := Wd_sev hk k7
    exact srw_nine
  by_cases k3 : r = 11 ∧ p.kind = 3
  · obtain ⟨rfl, k3⟩ := k3
    obtain ⟨fs, a, rfl⟩ := Wd_three hk k3
    by_cases k33 : a.kind = 3
    · obtain ⟨V, hV, _⟩ := Wd_proj hk
      obtain ⟨es, x, rfl⟩ := Wd_three hV k33
      exact srw_eleven hp
    · exact srw_eleven_no k33
  exact srw_no k2 k4 k7 k3
end Go.Proofs.YteihcffblfdgfaaGreat.P

namespace Go.Av
theorem at_snoc {path : List Int} {p a : Pn} {x : Int} (h : Pn.at path p = some a) : Pn.at (path ++ [x]) p = if 0 ≤ x then a.kids[x.toNat]? else none := by
  rw [at_append path p a [x] h]
  unfold Pn.at
  split
  · cases a.kids[x.toNat]? <;> simp [Pn.at]
  · rfl
theorem at_none {path r : List Int} {p : Pn} (h : Pn.at path p = none) : Pn.at (path ++ r) p = none := by
  induction path generalizing p with
  | nil => simp [Pn.at] at h
  | cons i path ih =>
    simp only [List.cons_append, Pn.at] at h ⊢
    split
    · rename_i h0
      rw [if_pos h0] at h
      cases hk : p.kids[i.toNat]? with
      | none => rfl
      | some b => rw [hk] at h; exact ih h
    · rfl
theorem at_upto (path : List Int) (p : Pn) : ∃ j : Nat, (∀ i, i < j → ∃ (x : Int) (a b : Pn), path[i]? = some x ∧ Pn.at (path.take i) p = some a ∧ 0 ≤ x ∧ a.kids[x.toNat]? = some b ∧ Pn.at (path.take (i + 1)) p = some b) ∧ ((∃ a, j = path.length ∧ Pn.at path p = some a) ∨ (∃ (x : Int) (a : Pn), path[j]? = some x ∧ Pn.at (path.take j) p = some a ∧ (0 ≤ x → a.kids[x.toNat]? = none) ∧ Pn.at path p = none)) := by
  generalize hn : path.length = n
  induction n generalizing path with
  | zero =>
    obtain rfl := List.length_eq_zero_iff.1 hn
    exact ⟨0, fun i hi => by omega, .inl ⟨p, rfl, rfl⟩⟩
  | succ n ih =>
    obtain ⟨l, x, rfl⟩ : ∃ l x, path = l ++ [x] := by
      rcases List.eq_nil_or_concat path with h | ⟨l, x, h⟩
      · rw [h] at hn; simp at hn
      · exact ⟨l, x, by simpa using h⟩
    have hln : l.length = n := by simpa using hn
    subst hln
    obtain ⟨j, h1, h2⟩ := ih l rfl
    have hlt : ∀ i, i < j → i < l.length := fun i hi => by
      obtain ⟨y, _, _, h, _⟩ := h1 i hi
      exact (List.getElem?_eq_some_iff.1 h).1
    have h1' : ∀ i, i < j → ∃ (x' : Int) (a b : Pn), (l ++ [x])[i]? = some x' ∧ Pn.at ((l ++ [x]).take i) p = some a ∧ 0 ≤ x' ∧ a.kids[x'.toNat]? = some b ∧ Pn.at ((l ++ [x]).take (i + 1)) p = some b := fun i hi => by
      obtain ⟨y, a, b, q1, q2, q3, q4, q5⟩ := h1 i hi
      have hl := hlt i hi
      refine ⟨y, a, b, by rw [List.getElem?_append_left hl]; exact q1, by rw [List.take_append_of_le_length (by omega)]; exact q2, q3, q4, by rw [List.take_append_of_le_length (by omega)]; exact q5⟩
    rcases h2 with ⟨a, rfl, ha⟩ | ⟨y, a, q1, q2, q3, q4⟩
    · have hs := at_snoc (x := x) ha
      by_cases hx : 0 ≤ x
      · rw [if_pos hx] at hs
        cases hk : a.kids[x.toNat]? with
        | none => exact ⟨l.length, h1', .inr ⟨x, a, by simp, by simpa using ha, fun _ => hk, by rw [hs, hk]⟩⟩
        | some b =>
          refine ⟨l.length + 1, fun i hi => ?_, .inl ⟨b, by simp, by rw [hs, hk]⟩⟩
          by_cases hi' : i < l.length
          · exact h1' i hi'
          · obtain rfl : i = l.length := by omega
            exact ⟨x, a, b, by simp, by simpa using ha, hx, hk, by rw [List.take_of_length_le (by simp), hs, hk]⟩
      · rw [if_neg hx] at hs
        exact ⟨l.length, h1', .inr ⟨x, a, by simp, by simpa using ha, fun h => absurd h hx, hs⟩⟩
    · have hl := (List.getElem?_eq_some_iff.1 q1).1
      exact ⟨j, h1', .inr ⟨y, a, by rw [List.getElem?_append_left hl]; exact q1, by rw [List.take_append_of_le_length (by omega)]; exact q2, q3, at_none q4⟩⟩
theorem at_thin : ∀ (path : List Int) (p a : Pn), p.thin → Pn.at path p = some a → a.thin
  | [], p, a, h, e => by simp [Pn.at] at e; subst e; exact h
  | i :: r, p, a, h, e => by
    obtain ⟨n, rfl, b, hb, hr⟩ := Pn.at_cons e
    exact at_thin r b a (((Pn.thin_iff p).1 h).2.2.2.2 b (List.mem_of_getElem? hb)) hr
theorem Pn.cellsL_set (l : List Pn) (n : Nat) (x : Pn) : (Pn.cellsL l).set n x.cells = Pn.cellsL (l.set n x) := by
  induction l generalizing n with
  | nil => simp [Pn.cellsL]
  | cons a l ih => cases n with
    | zero => simp [Pn.cellsL]
    | succ n => simp [Pn.cellsL, ih n]
end Go.Av
namespace Go.Proofs.YteihcffblfdgfaaGreat.P
open Go Go.Av
set_option maxRecDepth 4000
set_option maxHeartbeats 4000000
def boxP (a : Pn) : Option Blk := some (.box [.i (.int a.kind), .i (.int a.table), .i (.isl (Ex.cellsL a.exprs)), .i (.isl (intsL a.cols)), .i (.isl (Pn.cellsL a.kids))])
def PAX (p : Pn) (path : List Int) (a : Pn) (i : Nat) : AS :=
  { env := [(0, .i (.agg [.int p.kind, .int p.table, .isl (Ex.cellsL p.exprs), .isl (intsL p.cols), .isl (Pn.cellsL p.kids)])), (1, .i (.isl (intsL path))), (2, .own 0 0), (4, .own 1 0), (5, .bool false), (6, .int i), (10, jk i (.bool true)), (22, jk i (.bool false))],
    st := [boxP a, some (.box [.int 0, .int 0, .nils, .nils, .nils])] }
theorem planAt_eq {p : Pn} (hp : p.thin) {path : List Int} (hl : path.length < 1000000) : callA C0 88 [.i (.agg p.cells), .i (.isl (intsL path))] [] = some (.tup [.i (.agg ((Pn.at path p).getD Pn.zero).cells), .bool (Pn.at path p).isSome], []) := by
  obtain ⟨j, h1, h2⟩ := at_upto path p
  rw [callA_eq rfl Tryz.func88 rfl rfl]
  simp only [Pn.cells_eq p]
  simp
  rw [loop_to (fun i => PAX p path ((Pn.at (path.take i) p).getD Pn.zero) i) j (by simp [PAX, Pn.at, boxP])]
  · rw [execA_loop]
    rcases h2 with ⟨a, rfl, ha⟩ | ⟨x, a, q1, q2, q3, q4⟩
    · simp [PAX, boxP, ha, Pn.cells_eq a]
    · have r1 := intsL_nth q1
      have hj := (List.getElem?_eq_some_iff.1 q1).1
      have ha := at_thin _ _ _ hp q2
      have hka := ((Pn.thin_iff a).1 ha).2.2.2.1
      have w1 : IntKind.i64.wrap ((a.kids.length : Int) - 1) = a.kids.length - 1 := wrap64 (by omega) (by omega)
      have hin : (decide (0 ≤ x ∧ x ≤ (a.kids.length : Int) - 1)) = false := by
        rw [decide_eq_false_iff_not]
        rintro ⟨g1, g2⟩
        have := List.getElem?_eq_none_iff.1 (q3 g1)
        omega
      have hir := inRange_eq x 0 ((a.kids.length : Int) - 1)
      rw [hin] at hir
      simp [PAX, boxP, q2, q4, hj, r1, w1, hir, zero_cells]
  · intro i hi
    obtain ⟨x, a, b, q1, q2, q3, q4, q5⟩ := h1 i hi
    have r1 := intsL_nth q1
    have hj := (List.getElem?_eq_some_iff.1 q1).1
    have ha := at_thin _ _ _ hp q2
    have hka := ((Pn.thin_iff a).1 ha).2.2.2.1
    have hxl := (List.getElem?_eq_some_iff.1 q4).1
    have r4 := Pn.cellsL_nth q4
    have w1 : IntKind.i64.wrap ((a.kids.length : Int) - 1) = a.kids.length - 1 := wrap64 (by omega) (by omega)
    have w2 : IntKind.i64.wrap ((i : Int) + 1) = i + 1 := wrap64 (by omega) (by omega)
    have hin : (decide (0 ≤ x ∧ x ≤ (a.kids.length : Int) - 1)) = true := by rw [decide_eq_true_eq]; omega
    have hir := inRange_eq x 0 ((a.kids.length : Int) - 1)
    rw [hin] at hir
    rw [Pn.cells_eq b] at r4
    simp [PAX, boxP, q2, q5, hj, r1, w1, w2, hir, q3, show x < a.kids.length by omega, r4]
end Go.Proofs.YteihcffblfdgfaaGreat.P

namespace Go.Av
theorem filt_thin {e : Ex} {a : Pn} (he : e.thin) (ha : a.thin) : (filt e a).thin := by simp [filt, Pn.thin, Pn.thinL, he, ha]
theorem proj_thin {es : List Ex} {a : Pn} (hl : es.length < 1000000000) (he : ∀ e ∈ es, e.thin) (ha : a.thin) : (proj es a).thin := by simp [proj, Pn.thin, Pn.thinL, hl, ha]; exact he
theorem pair_thin {kd : Int} {e : Ex} {a b : Pn} (he : e.thin) (ha : a.thin) (hb : b.thin) : (pairP kd e a b).thin := by simp [pairP, Pn.thin, Pn.thinL, he, ha, hb]
theorem union_thin {a b : Pn} (ha : a.thin) (hb : b.thin) : (unionP a b).thin := by simp [unionP, Pn.thin, Pn.thinL, ha, hb]
theorem andE_thin {a b : Ex} (ha : a.thin) (hb : b.thin) : (andE a b).thin := by simp [andE, Ex.thin, Ex.thinL, ha, hb]
theorem exzero_thin : Ex.zero.thin := by simp [Ex.zero, Ex.thin, Ex.thinL]
theorem Pn.kid0_thin {p : Pn} (h : p.thin) : p.kid0.thin := by
  unfold Pn.kid0
  cases hk : p.kids[0]? with
  | none => exact Pn.zero_thin
  | some a => exact ((Pn.thin_iff p).1 h).2.2.2.2 a (List.mem_of_getElem? hk)
theorem Pn.kid1_thin {p : Pn} (h : p.thin) : p.kid1.thin := by
  unfold Pn.kid1
  cases hk : p.kids[1]? with
  | none => exact Pn.zero_thin
  | some a => exact ((Pn.thin_iff p).1 h).2.2.2.2 a (List.mem_of_getElem? hk)
theorem Pn.ex0_thin {p : Pn} (h : p.thin) : p.ex0.thin := by
  unfold Pn.ex0
  cases hk : p.exprs[0]? with
  | none => exact exzero_thin
  | some a => exact ((Pn.thin_iff p).1 h).2.1 a (List.mem_of_getElem? hk)
theorem Ex.kid0_thin {e : Ex} (h : e.thin) : e.kid0.thin := by
  unfold Ex.kid0
  cases hk : e.kids[0]? with
  | none => exact exzero_thin
  | some a => exact ((Ex.thin_iff e).1 h).2 a (List.mem_of_getElem? hk)
theorem Ex.kid1_thin {e : Ex} (h : e.thin) : e.kid1.thin := by
  unfold Ex.kid1
  cases hk : e.kids[1]? with
  | none => exact exzero_thin
  | some a => exact ((Ex.thin_iff e).1 h).2 a (List.mem_of_getElem? hk)
theorem Ex.sub_thin {l : List Ex} (hl : ∀ b ∈ l, b.thin) : ∀ e : Ex, e.thin → (e.sub l).thin := by
  intro e
  induction e using Ex.ind with
  | h k c v ks ih =>
    intro ht
    have h := (Ex.thin_iff _).1 ht
    by_cases hk : k = 1
    · unfold Ex.sub
      rw [if_pos hk]
      cases hx : l[c.toNat]? with
      | none => exact exzero_thin
      | some b => exact hl b (List.mem_of_getElem? hx)
    · rw [Ex.sub_not l (e := .mk k c v ks) hk, Ex.thin_iff]
      refine ⟨by simpa [Ex.kids] using h.1, fun x hx => ?_⟩
      simp only [Ex.kids, List.mem_map] at hx
      obtain ⟨y, hy, rfl⟩ := hx
      exact ih y hy (h.2 y hy)
theorem Ex.mapC_thin {f : Int → Int} : ∀ e : Ex, e.thin → (e.mapC f).thin := by
  intro e
  induction e using Ex.ind with
  | h k c v ks ih =>
    intro ht
    have h := (Ex.thin_iff _).1 ht
    by_cases hk : k = 1
    · rw [Ex.mapC_col f (e := .mk k c v ks) hk]; exact colX_thin _
    · rw [Ex.mapC_not f (e := .mk k c v ks) hk, Ex.thin_iff]
      refine ⟨by simpa [Ex.kids] using h.1, fun x hx => ?_⟩
      simp only [Ex.kids, List.mem_map] at hx
      obtain ⟨y, hy, rfl⟩ := hx
      exact ih y hy (h.2 y hy)
theorem rwF_thin {ws : List Int} {r : Int} {e : Ex} {k q : Pn} (he : e.thin) (hk : k.thin) (h : rwF ws r e k = some q) : q.thin := by
  have k0 := Pn.kid0_thin hk
  have k1 := Pn.kid1_thin hk
  have x0 := Pn.ex0_thin hk
  have hx := ((Pn.thin_iff k).1 hk).2.1
  have hl := ((Pn.thin_iff k).1 hk).1
  unfold rwF at h
  repeat' split at h
  all_goals first
    | (cases h; done)
    | (injection h with h; subst h
       first
        | exact filt_thin (andE_thin x0 he) k0
        | exact filt_thin (Ex.kid1_thin he) (filt_thin (Ex.kid0_thin he) hk)
        | exact pair_thin x0 (filt_thin he k0) k1
        | exact pair_thin x0 k0 (filt_thin (Ex.mapC_thin _ he) k1)
        | exact pair_thin (andE_thin x0 he) k0 k1
        | exact filt_thin he (pair_thin x0 k0 k1)
        | exact union_thin (filt_thin he k0) (filt_thin he k1)
        | exact proj_thin hl hx (filt_thin (Ex.sub_thin hx _ he) k0))
theorem rwP_thin {ws : List Int} (hw : ∀ w ∈ ws, 0 ≤ w ∧ w ≤ 6) {r : Int} {p q : Pn} (hp : p.thin) (h : rwP ws r p = some q) : q.thin := by
  have k0 := Pn.kid0_thin hp
  have k1 := Pn.kid1_thin hp
  have x0 := Pn.ex0_thin hp
  have hx := ((Pn.thin_iff p).1 hp).2.1
  have hl := ((Pn.thin_iff p).1 hp).1
  have hx0 := ((Pn.thin_iff _).1 k0).2.1
  have r0 := Pn.wd_range hw p.kid0 8
  have r1 := Pn.wd_range hw p.kid1 8
  unfold rwP at h
  split at h
  · exact rwF_thin x0 k0 h
  split at h
  · injection h with h; subst h
    refine proj_thin (by simp; omega) (fun e he => ?_) (pair_thin (Ex.mapC_thin _ x0) k1 k0)
    rcases List.mem_append.1 he with h | h <;> exact colsFrom_thin _ _ e h
  split at h
  · injection h with h; subst h; exact k0
  split at h
  · injection h with h; subst h
    refine proj_thin (by simpa using hl) (fun e he => ?_) (Pn.kid0_thin k0)
    obtain ⟨y, hy, rfl⟩ := List.mem_map.1 he
    exact Ex.sub_thin hx0 y (hx y hy)
  · cases h
theorem put_thin {q : Pn} (hq : q.thin) : ∀ (path : List Int) (p a : Pn), p.thin → Pn.at path p = some a → (Pn.put path p q).thin
  | [], p, a, _, _ => by simpa [Pn.put] using hq
  | x :: r, p, a, hp, ha => by
    obtain ⟨n, rfl, b, hb, hr⟩ := Pn.at_cons ha
    have h := (Pn.thin_iff p).1 hp
    have ih := put_thin hq r b a (h.2.2.2.2 b (List.mem_of_getElem? hb)) hr
    rw [Pn.put_cons q hb, Pn.thin_iff]
    refine ⟨h.1, h.2.1, h.2.2.1, by simpa [Pn.kids] using h.2.2.2.1, fun c hc => ?_⟩
    simp only [Pn.kids] at hc
    rcases List.mem_or_eq_of_mem_set hc with h1 | h1
    · exact h.2.2.2.2 c h1
    · rw [h1]; exact ih
end Go.Av
namespace Go.Proofs.YteihcffblfdgfaaGreat.P
open Go Go.Av
set_option maxRecDepth 4000
set_option maxHeartbeats 4000000
theorem replaceAt_nil {p q : Pn} (hq : q.thin) : callA C0 90 [.i (.agg p.cells), .i (.isl []), .i (.agg q.cells)] [] = some (.i (.agg q.cells), []) := by
  have h := copyPlan_eq q hq
  rw [callA_eq rfl Tryz.func90 rfl rfl]
  rw [Pn.cells_eq p, Pn.cells_eq q] at *
  by_cases he : q.exprs = []
  · by_cases hk : q.kids = []
    · simp [pcX, pcS, hk, he, Pn.cellsL, Ex.cellsL] at h
      simp [h, hk, he, Pn.cellsL, Ex.cellsL]
    · have hkl : q.kids.length ≠ 0 := fun h => hk (List.length_eq_zero_iff.1 h)
      simp [pcX, pcS, hk, he, gro_pos hkl, groB_pos hkl, Ex.cellsL] at h
      simp [h, he, Ex.cellsL]
  · have hel : q.exprs.length ≠ 0 := fun h => he (List.length_eq_zero_iff.1 h)
    by_cases hk : q.kids = []
    · simp [pcX, pcS, hk, he, gro_pos hel, groB_pos hel, Pn.cellsL] at h
      simp [h, hk, Pn.cellsL]
    · have hkl : q.kids.length ≠ 0 := fun h => hk (List.length_eq_zero_iff.1 h)
      simp [pcX, pcS, hk, he, gro_pos hel, groB_pos hel, gro_pos hkl, groB_pos hkl] at h
      simp [h]
theorem replaceAt_eq {q : Pn} (hq : q.thin) : ∀ (path : List Int) (p a : Pn), p.thin → path.length < 1000000 → Pn.at path p = some a → callA C0 90 [.i (.agg p.cells), .i (.isl (intsL path)), .i (.agg q.cells)] [] = some (.i (.agg (Pn.put path p q).cells), [])
  | [], p, a, hp, hl, ha => by simpa [intsL, Pn.put] using replaceAt_nil (p := p) hq
  | x :: r, p, a, hp, hl, ha => by
    obtain ⟨n, rfl, b, hb, hr⟩ := Pn.at_cons ha
    have hrl : r.length < 1000000 := by simp at hl; omega
    have ih := replaceAt_eq hq r b a (((Pn.thin_iff p).1 hp).2.2.2.2 b (List.mem_of_getElem? hb)) hrl hr
    have h := copyPlan_eq p hp
    have hk : p.kids ≠ [] := fun h => by rw [h] at hb; simp at hb
    have hkl : p.kids.length ≠ 0 := fun h => hk (List.length_eq_zero_iff.1 h)
    have hn := (List.getElem?_eq_some_iff.1 hb).1
    have r4 := Pn.cellsL_nth hb
    rw [Pn.put_cons q hb, callA_eq rfl Tryz.func90 rfl rfl]
    generalize Pn.put r b q = z at *
    have hs := Pn.cellsL_set p.kids n z
    have hsl : (p.kids.set n z).length = p.kids.length := by simp
    have hsn : p.kids.set n z ≠ [] := fun h => by rw [h] at hsl; simp at hsl; exact hkl hsl.symm
    have ht : (Pn.cellsL (p.kids.set n z)).take p.kids.length = Pn.cellsL (p.kids.set n z) := List.take_of_length_le (by simp)
    have hlen1 : (r.length : Int) + 1 ≠ 0 := by omega
    have hone : (1 : Int) ≤ (r.length : Int) + 1 := by omega
    rw [Pn.cells_eq p, Pn.cells_eq q] at *
    rw [Pn.cells_eq b, Pn.cells_eq z] at *
    have htr : List.take r.length (intsL r) = intsL r := List.take_of_length_le (by simp)
    by_cases he : p.exprs = []
    · simp [pcX, pcS, hk, he, gro_pos hkl, groB_pos hkl, Ex.cellsL] at h
      simp [h, he, Ex.cellsL, intsL, Pn.cells, hn, hlen1, hone, r4, ih, hs, ht, htr]
    · have hel : p.exprs.length ≠ 0 := fun h => he (List.length_eq_zero_iff.1 h)
      simp [pcX, pcS, hk, he, gro_pos hel, groB_pos hel, gro_pos hkl, groB_pos hkl] at h
      simp [h, intsL, Pn.cells, hn, hlen1, hone, r4, ih, hs, ht, htr]
theorem applyStep_eq {ws : List Int} (hw : okWs ws = true) {p : Pn} (hp : p.wd ws 8 ≠ 0) (r : Int) {path : List Int} (hl : path.length < 1000000) : callA C0 51 [.i (.agg p.cells), .i (.isl (intsL ws)), .i (.agg [.int r, .isl (intsL path)])] [] = some (.tup [.i (.agg (getP (apS ws r path p)).cells), .bool (apS ws r path p).isSome], []) := by
  have ht := wd_thin p 8 hp
  have c1 := planAt_eq ht hl
  unfold apS
  cases ha : Pn.at path p with
  | none =>
    rw [ha] at c1
    rw [callA_eq rfl Tryz.func51 rfl rfl]
    simp only [Option.getD, Option.isSome, Option.bind, getP, zero_cells, Pn.cells_eq p] at c1 ⊢
    simp [c1]
  | some a =>
    rw [ha] at c1
    have ha8 : a.wd ws 8 ≠ 0 := by
      obtain ⟨h1, h2⟩ := at_wd path p 8 a hp ha
      rw [Pn.wd_more a _ 8 h2 (by omega)]; exact h2
    have hat := wd_thin a 8 ha8
    have c2 := srw_eq hw ha8 r
    unfold SRw at c2
    cases hq : rwP ws r a with
    | none =>
      rw [hq] at c2
      rw [callA_eq rfl Tryz.func51 rfl rfl]
      simp only [hq, Option.getD, Option.isSome, Option.bind, getP, zero_cells, Pn.cells_eq p, Pn.cells_eq a] at c1 c2 ⊢
      simp [c1, c2]
    | some q =>
      rw [hq] at c2
      have hqt := rwP_thin (okWs_range hw) hat hq
      have c3 := replaceAt_eq hqt path p a ht hl ha
      have hzt := put_thin hqt path p a ht ha
      have c4 := spw8 hw hzt
      have hv : ((some a).bind fun a => (rwP ws r a).bind fun q => if (Pn.put path p q).wd ws 8 ≠ 0 then some (Pn.put path p q) else none) = if (Pn.put path p q).wd ws 8 ≠ 0 then some (Pn.put path p q) else none := by simp [hq]
      rw [hv]
      generalize Pn.put path p q = z at *
      rw [callA_eq rfl Tryz.func51 rfl rfl]
      by_cases hz : z.wd ws 8 = 0
      · rw [hz] at c4
        simp only [hq, hz, ne_eq, not_true_eq_false, if_false, Option.getD, Option.isSome, Option.bind, getP, zero_cells, Pn.cells_eq p, Pn.cells_eq a, Pn.cells_eq q, Pn.cells_eq z] at c1 c2 c3 c4 ⊢
        simp [c1, c2, c3, c4]
      · simp only [hq, hz, ne_eq, not_false_eq_true, if_true, Option.getD, Option.isSome, Option.bind, getP, Pn.cells_eq p, Pn.cells_eq a, Pn.cells_eq q, Pn.cells_eq z] at c1 c2 c3 c4 ⊢
        simp [c1, c2, c3, c4, hz]
end Go.Proofs.YteihcffblfdgfaaGreat.P

namespace Go.Av
def atV : Option Pn → AV
  | some a => .i (.iref a.cells)
  | none => .i (.lit (.pointer none))
def atI (path : List Int) (p : Pn) : Option Pn := if path.length ≤ 8 then Pn.at path p else none
end Go.Av
namespace Go.Proofs.YteihcffblfdgfaaGreat.P
open Go Go.Av
set_option maxRecDepth 4000
set_option maxHeartbeats 4000000
def AIX (p : Pn) (path : List Int) (i : Nat) : AS :=
  { env := [(0, .i (.iref ((Pn.at (path.take i) p).getD Pn.zero).cells)), (1, .i (.isl (intsL path))), (4, .i (.lit (.pointer none))), (6, jk i (.int ((path[i - 1]?).getD 0))), (9, .bool false), (10, .i (.isl (intsL path))), (11, .int path.length), (12, .int i), (13, jk i (.bool true)), (26, jk i (.bool false))], st := [] }
theorem iat_eq (p : Pn) (path : List Int) : callA C0 48 [.i (.iref p.cells), .i (.isl (intsL path))] [] = some (atV (atI path p), []) := by
  rw [callA_eq rfl Tryz.func48 rfl rfl]
  by_cases hl : path.length ≤ 8
  · have hl' : ¬ (8 : Int) < path.length := by omega
    obtain ⟨j, h1, h2⟩ := at_upto path p
    simp [hl', atI, hl]
    rw [loop_to (AIX p path) j (by simp [AIX, Pn.at])]
    · rw [execA_loop]
      rcases h2 with ⟨a, rfl, ha⟩ | ⟨x, a, q1, q2, q3, q4⟩
      · simp [AIX, ha, atV]
      · have hj := (List.getElem?_eq_some_iff.1 q1).1
        have r1 := intsL_nth q1
        have hx : x < 0 ∨ (0 ≤ x ∧ (a.kids.length : Int) ≤ x) := by
          by_cases h : x < 0
          · exact .inl h
          · have := q3 (by omega)
            simp at this; exact .inr ⟨by omega, by omega⟩
        simp only [AIX, q2, Option.getD_some, q4, atV]
        rw [Pn.cells_eq a]
        rcases hx with h | ⟨h, h'⟩
        · simp [hj, r1, h]
        · have hn : ¬ x < 0 := by omega
          simp [hj, r1, hn, h']
    · intro i hi
      obtain ⟨x, a, b, q1, q2, q3, q4, q5⟩ := h1 i hi
      obtain ⟨hj, qx⟩ := List.getElem?_eq_some_iff.1 q1
      have r1 := intsL_nth q1
      have hk := (List.getElem?_eq_some_iff.1 q4).1
      have r2 := Pn.cellsL_nth q4
      obtain ⟨n, rfl⟩ := Int.eq_ofNat_of_zero_le q3
      simp only [Int.ofNat_eq_natCast, Int.toNat_natCast] at *
      have w2 : IntKind.i64.wrap ((i : Int) + 1) = i + 1 := wrap64 (by omega) (by omega)
      have n1 : ¬ (n : Int) < 0 := by omega
      have n2 : ¬ a.kids.length ≤ n := by omega
      simp only [AIX, q2, q5, Option.getD_some]
      rw [Pn.cells_eq a, Pn.cells_eq b] at *
      simp [hj, r1, n1, n2, hk, r2, w2, q1, qx]
  · have hl' : (8 : Int) < path.length := by omega
    simp [hl', atI, hl, atV]
theorem apply_none {p : Pn} {ws : List Int} {r : Int} {path : List Int} (h : p.width ws = 0 ∨ apI ws r path p = none) : callA C0 22 [.i (.agg p.cells), .i (.isl (intsL ws)), .i (.agg [.int r, .isl (intsL path)])] [] = some (.tup [.i (.agg Pn.zero.cells), .bool false], []) := by
  have c1 := planWidth_eq p ws
  have c2 := iat_eq p path
  rw [callA_eq rfl Tryz.func22 rfl rfl]
  by_cases h0 : p.width ws = 0
  · rw [Pn.cells_eq p] at c1 ⊢
    simp [c1, h0, Pn.zero, Pn.cells, Ex.cellsL, intsL, Pn.cellsL]
  · obtain ⟨hw, hp8, hv⟩ := width_okWs h0
    have hn := h.resolve_left h0
    unfold apI at hn
    cases ha : atI path p with
    | none =>
      rw [ha] at c2
      rw [Pn.cells_eq p] at c1 c2 ⊢
      simp [atV] at c2
      simp [c1, h0, c2, Pn.zero, Pn.cells, Ex.cellsL, intsL, Pn.cellsL]
    | some a =>
      rw [ha] at c2
      unfold atI at ha
      split at ha
      · rename_i hl
        rw [if_pos hl, ha] at hn
        simp only [Option.bind_some] at hn
        obtain ⟨-, hav⟩ := at_wd path p 8 a hp8 ha
        have ha8 : a.wd ws 8 ≠ 0 := by rw [Pn.wd_more a _ 8 hav (by omega)]; exact hav
        have c3 := rewritten_eq hw ha8 r (lv := 8 - path.length) (by omega)
        have hr : rwL ws r (8 - path.length) a = none := by
          cases hq : rwL ws r (8 - path.length) a with
          | none => rfl
          | some q => rw [hq] at hn; cases hn
        rw [hr] at c3
        have w1 : IntKind.i64.wrap (8 - (path.length : Int)) = ((8 - path.length : Nat) : Int) := by rw [wrap64 (by omega) (by omega)]; omega
        simp only [atV] at c2
        rw [Pn.cells_eq p] at c1 c2 ⊢
        rw [Pn.cells_eq a] at c2 c3
        simp [getP, Pn.zero, Pn.cells, Ex.cellsL, intsL, Pn.cellsL] at c3
        simp [c1, h0, c2, w1, c3, Pn.zero, Pn.cells, Ex.cellsL, intsL, Pn.cellsL]
      · cases ha
end Go.Proofs.YteihcffblfdgfaaGreat.P

namespace Go.Proofs.YteihcffblfdgfaaGreat
open Go Go.Av
theorem prim_only {g : FuncId} {q : List AV → StL → Option (AV × StL)} (h : C0.prim g = some q) : (g = 85 ∧ q = copyE) ∨ (g = 50 ∧ q = copyP) := by
  have h : primF g = some q := h
  unfold primF at h
  split at h
  · injection h with h; exact .inl ⟨rfl, h.symm⟩
  · injection h with h; exact .inr ⟨rfl, h.symm⟩
  · cases h
theorem prim0 : PrimOk C0 := by
  constructor
  · intro g args st p h
    unfold primCall at h
    cases hq : C0.prim g with
    | none => rw [hq] at h; cases h
    | some q =>
      rcases prim_only hq with ⟨rfl, rfl⟩ | ⟨rfl, rfl⟩
      · exact ⟨Tryz.f85, Tryz.func85, by decide, rfl⟩
      · exact ⟨Tryz.f50, Tryz.func50, by decide, rfl⟩
  · intro g args stl r stl' h w m φ vs hi hr h0
    unfold primCall at h
    cases hq : C0.prim g with
    | none => rw [hq] at h; cases h
    | some q =>
      rcases prim_only hq with ⟨rfl, rfl⟩ | ⟨rfl, rfl⟩
      · rw [hq] at h
        obtain ⟨e, he, hres, hor⟩ := copyE_some h
        injection hres with h1 h2
        subst h1; subst h2
        rcases hor with ⟨rfl, rfl⟩ | ⟨j, es, rfl, rfl, hes⟩
        · exact copied_calls he hi hr h0
        · exact copied_row he hes hi hr h0
      · rw [hq] at h
        obtain ⟨p, ⟨k1, k2, k3⟩, rfl, rfl, hres⟩ := copyP_some h
        injection hres with h1 h2
        subst h1; subst h2
        exact G.copiedP_calls k1 k2 k3 hi hr h0
theorem sound0 : SoundOk C0 := sound_ok (C := C0) ft nt eqS mo prim0
end Go.Proofs.YteihcffblfdgfaaGreat

namespace Go.Av
section
variable {wi : World} {mi : Mem} {nt : Nat}
theorem GR.gotCopy {ok : Nat → Prop} {env : Nat → AV} {st : Store} {a : Act} {w : World} {d : Nat} {m1 : Mem} {φ : Pl} {p : Pn} (hd : d < nt) (hi : Inv w m1 φ st) (henv : ∀ t, Rep m1 φ (env t) (a.tmps.getD t undef)) (hadv : Adv wi mi (fun _ => none) w m1 φ) (hok : ∀ id, φ id ≠ none → ok id) (hsz : nt ≤ a.tmps.size) (hdf : a.defers = [])
    {e : Ending} {w' : World} (h : RawPost w m1 p e w') : ∃ y, e = .returned y ∧ ∃ v0 v1 v2 v3 v4 F, GR wi mi nt ok (CPY w p F v0 v1 v2 v3 v4) (upd env d (.i (.agg [.lit v0, .lit v1, .lit v2, .lit v3, .lit v4]))) st (a.put (some d) y) w' := by
  obtain ⟨v0, v1, v2, v3, v4, F, m2, rfl, hone, hm2, ha, hc⟩ := h
  obtain ⟨i2, a2⟩ := hi.growN ha hm2
  refine ⟨_, rfl, v0, v1, v2, v3, v4, F, ⟨m2, φ, i2, putA_rep (dst := some d) (fun t => (henv t).mono a2.mle a2.ple) hsz (by simpa [dstOk] using hd) (.i (.agg ?_)), hadv.trans a2, hok, ?_⟩, by rw [put_size]; exact hsz, by rw [put_defers']; exact hdf⟩
  · exact .cons (.lit _) (hone _ (by simp)) (.cons (.lit _) (hone _ (by simp)) (.cons (.lit _) (hone _ (by simp)) (.cons (.lit _) (hone _ (by simp)) (.cons (.lit _) (hone _ (by simp)) .nil))))
  · refine ⟨hc.th, hc.cells, hc.nd, fun f hf => ?_⟩
    obtain ⟨k1, k2, k3, k4, k5⟩ := hc.all f hf
    refine ⟨k1, k2, fun id b n e ho => ?_, k4, k5⟩
    have := hi.low id b n f e ho
    omega
theorem GR.gotPlace {ok : Nat → Prop} {env : Nat → AV} {st : Store} {a : Act} {w : World} {d : Nat} {m : Mem} {φ : Pl} {p y : Pn} {root : Nat} {F : List Nat} {path : List Int} (hd : d < nt) (hi : Inv w m φ st) (henv : ∀ t, Rep m φ (env t) (a.tmps.getD t undef)) (hadv : Adv wi mi (fun _ => none) w m φ) (hok : ∀ id, φ id ≠ none → ok id) (hsz : nt ≤ a.tmps.size) (hdf : a.defers = []) (hr : RAW wi root p F [] w m φ)
    {e : Ending} {w' : World} (h : ∃ bq oq Fa Fy Fz m', e = .returned (.pointer (some ⟨bq, oq, none⟩)) ∧ AtP w m p root 0 F path y bq oq Fa Fy Fz ∧ MemOk w' m' ∧ Adv w (memOf w) (fun _ => none) w' m' (fun _ => none)) :
    ∃ v, e = .returned v ∧ ∃ bq oq Fa Fy Fz, GR wi mi nt ok (RAT wi root p F path y bq oq Fa Fy Fz) (upd env d (.i (.lit (.pointer (some ⟨bq, oq, none⟩))))) st (a.put (some d) v) w' := by
  obtain ⟨bq, oq, Fa, Fy, Fz, m', rfl, hat, hm, ha⟩ := h
  have hsame : ∀ f, f < w.heap.size → w'.heap[f]? = w.heap[f]? := fun f hf => ha.block f hf fun id b n e => by cases e
  have i2 := hi.later ha.size hsame
  have a2 : Adv w m φ w' m φ := ⟨ha.size, ha.os, ha.tape, ha.output, fun b hb' _ => hsame b hb', .refl _, fun _ _ _ _ => rfl, .refl _, fun _ _ _ _ e ho => .inr (Free.not e ho)⟩
  exact ⟨_, rfl, bq, oq, Fa, Fy, Fz, ⟨m, φ, i2, putA_rep (dst := some d) henv hsz (by simpa [dstOk] using hd) (.i (.lit _)), hadv.trans a2, hok, RAT.stab _ _ _ _ _ _ _ _ _ _ _ _ _ _ _ _ _ a2 ⟨hr, hat⟩⟩, by rw [put_size]; exact hsz, by rw [put_defers']; exact hdf⟩
end
end Go.Av
namespace Go.Proofs.YteihcffblfdgfaaGreat.P
open Go Go.Av G
theorem hn50 : Tryz.f50.name ≠ "runtime.NumGoroutine" := by decide
theorem hb50 : Tryz.f50.body.isSome = true := rfl
theorem hb48 : Tryz.f48.body.isSome = true := rfl
theorem hn48 : Tryz.f48.name ≠ "runtime.NumGoroutine" := by decide
set_option maxRecDepth 4000
set_option maxHeartbeats 8000000
theorem updS {α : Type} (f : Nat → α) (a : Nat) (x y : α) : upd (upd f a x) a y = upd f a y := by funext i; simp only [upd]; split <;> rfl
def TEV (p : Pn) (ws : List Int) (r : Int) (path : List Int) (v3 v5 v6 v7 v8 v9 v10 v11 v15 v21 v36 : AV) : List (Nat × AV) := [(0, .i (.agg p.cells)), (1, .i (.isl (intsL ws))), (2, .i (.agg [.int r, .isl (intsL path)])), (3, v3), (5, v5), (6, v6), (7, v7), (8, v8), (9, v9), (10, v10), (11, v11), (15, v15), (21, v21), (36, v36)]
def bxP (p : Pn) : Option Blk := some (.box (impI p.cells))
def bxS (r : Int) (path : List Int) : Option Blk := some (.box [.i (.int r), .i (.isl (intsL path))])
theorem apply_some {p : Pn} {ws : List Int} {r : Int} {path : List Int} {q : Pn} (h0 : p.width ws ≠ 0) (hq : apI ws r path p = some q) {wi : World} {mi : Mem} {vs : List Value} (hi : Inv wi mi (fun _ => none) (stOf [])) (hr : RepL mi (fun _ => none) [.i (.agg p.cells), .i (.isl (intsL ws)), .i (.agg [.int r, .isl (intsL path)])] vs) :
    Calls Tryz.prog 22 vs.toArray wi (CallPost wi mi (fun _ => none) (.tup [.i (.agg q.cells), .bool true]) []) := by
  obtain ⟨hw, hp8, hv⟩ := width_okWs h0
  have hws := okWs_range hw
  unfold apI at hq
  split at hq
  rotate_left
  · cases hq
  rename_i hl
  cases ha : Pn.at path p with
  | none => rw [ha] at hq; cases hq
  | some a =>
  rw [ha] at hq
  simp only [Option.bind_some] at hq
  obtain ⟨-, hav⟩ := at_wd path p 8 a hp8 ha
  have ha8 : a.wd ws 8 ≠ 0 := by rw [Pn.wd_more a _ 8 hav (by omega)]; exact hav
  cases hx : rwL ws r (8 - path.length) a with
  | none => rw [hx] at hq; cases hq
  | some x =>
  rw [hx] at hq
  simp only [Option.map_some, Option.some.injEq] at hq
  subst hq
  have hxw : x.wd ws (8 - path.length) ≠ 0 := by
    unfold rwL at hx
    cases hy : rwP ws r a with
    | none => rw [hy] at hx; cases hx
    | some y =>
      rw [hy] at hx
      simp only [Option.bind_some] at hx
      split at hx
      · injection hx with hx; subst hx; assumption
      · cases hx
  have hx8 : x.wd ws 8 ≠ 0 := by rw [Pn.wd_more x _ 8 hxw (by omega)]; exact hxw
  have hxs : x.small := ⟨by have := (Pn.wd_fit x 8 hx8).2; omega, wd_thin x 8 hx8, (Pn.wd_fit x 8 hx8).1⟩
  have hps : p.small := ⟨by have := (Pn.wd_fit p 8 hp8).2; omega, wd_thin p 8 hp8, (Pn.wd_fit p 8 hp8).1⟩
  have c1 := planWidth_eq p ws
  have c2 := iat_eq p path
  simp only [atI, hl, if_true, ha, atV] at c2
  have c3 := rewritten_eq hw ha8 r (lv := 8 - path.length) (by omega)
  rw [hx] at c3
  simp only [getP, Option.getD_some, Option.isSome_some] at c3
  have c4 : callA C0 50 [.i (.iref x.cells)] [] = some (.i (.agg x.cells), []) := by
    rw [callA_prim (p := copyP) rfl]; exact copyP_eq hxs
  have w1 : IntKind.i64.wrap (8 - (path.length : Int)) = ((8 - path.length : Nat) : Int) := by rw [wrap64 (by omega) (by omega)]; omega
  refine calls_of_wp (fn := Tryz.f22) Tryz.func22 rfl ?_
  have hv1 : vs.length = 3 := by simpa using hr.length.symm
  have g0 : GR wi mi 45 (fun id => id < ({ env := [(0, .i (.agg p.cells)), (1, .i (.isl (intsL ws))), (2, .i (.agg [.int r, .isl (intsL path)]))], st := [] } : AS).st.length) (fun _ _ _ => True) (envOf [(0, .i (.agg p.cells)), (1, .i (.isl (intsL ws))), (2, .i (.agg [.int r, .isl (intsL path)]))]) (stOf []) { tmps := vs.toArray ++ Array.replicate (45 - vs.toArray.size) undef, defers := [] } wi := by
    refine ⟨⟨mi, fun _ => none, hi, ?_, .refl _ _ _, fun id h => absurd rfl h, trivial⟩, by simp; omega, rfl⟩
    intro t
    have := enter_rep (m := mi) (φ := fun _ => none) (45 - vs.toArray.size) hr t
    rcases t with _ | _ | _ | t
    · simpa [envOf, argAt] using this
    · simpa [envOf, argAt] using this
    · simpa [envOf, argAt] using this
    · simp only [envOf]; simp; exact .junk _
  refine wp_seq (wp_mono (GR.codeA sound0 (G := GS 22) (S := { env := [(0, .i (.agg p.cells)), (1, .i (.isl (intsL ws))), (2, .i (.agg [.int r, .isl (intsL path)]))], st := [] }) (e := .normal) (S' := { env := TEV p ws r path (.own 0 0) (.own 1 0) (.own 2 0) (.bool false) .junk .junk .junk .junk .junk .junk .junk, st := [bxP p, bxS r path, some (.box zp)] }) stTrue (by kernel_rfl) (by
    rw [Pn.cells_eq p] at *
    simp [TEV, bxP, bxS, zp, Pn.cells_eq p]) g0) ?_)
  rintro _ a1 w1' ⟨rfl, g1⟩
  refine wp_seq (wp_mono (GR.codeA sound0 (G := GS 22) (S := { env := TEV p ws r path (.own 0 0) (.own 1 0) (.own 2 0) (.bool false) .junk .junk .junk .junk .junk .junk .junk, st := [bxP p, bxS r path, some (.box zp)] }) (e := .normal) (S' := { env := TEV p ws r path (.own 0 0) (.own 1 0) (.own 2 0) (.bool false) .junk .junk .junk .junk (.bool false) .junk .junk, st := [bxP p, bxS r path, some (.box zp)] }) stTrue (by kernel_rfl) (by
    simp only [TEV, bxP, bxS]
    rw [Pn.cells_eq p] at *
    simp [zp, c1, h0]) g1) ?_)
  rintro _ a2 w2' ⟨rfl, g2⟩
  refine wp_seq (wp_mono (GR.codeA sound0 (G := GS 22) (S := { env := TEV p ws r path (.own 0 0) (.own 1 0) (.own 2 0) (.bool false) .junk .junk .junk .junk (.bool false) .junk .junk, st := [bxP p, bxS r path, some (.box zp)] }) (e := .normal) (S' := { env := TEV p ws r path (.own 0 0) (.own 1 0) (.own 2 0) (.bool false) (.i (.iref a.cells)) .junk .junk .junk (.bool false) .junk .junk, st := [some (.fbox p.cells), bxS r path, some (.box zp)] }) stTrue (by kernel_rfl) (by
    simp only [TEV, bxP, bxS]
    rw [Pn.cells_eq p, Pn.cells_eq a] at *
    simp [zp, c2]) g2) ?_)
  rintro _ a3 w3' ⟨rfl, g3⟩
  refine wp_seq (wp_mono (GR.codeA sound0 (G := GS 22) (S := { env := TEV p ws r path (.own 0 0) (.own 1 0) (.own 2 0) (.bool false) (.i (.iref a.cells)) .junk .junk .junk (.bool false) .junk .junk, st := [some (.fbox p.cells), bxS r path, some (.box zp)] }) (e := .normal) (S' := { env := TEV p ws r path (.own 0 0) (.own 1 0) (.own 2 0) (.bool false) (.i (.iref a.cells)) .junk .junk .junk (.bool false) (.bool false) .junk, st := [some (.fbox p.cells), bxS r path, some (.box zp)] }) stTrue (by kernel_rfl) (by
    simp only [TEV, bxP, bxS]
    simp [zp]) g3) ?_)
  rintro _ a4 w4' ⟨rfl, g4⟩
  refine wp_seq (wp_mono (GR.codeA sound0 (G := GS 22) (S := { env := TEV p ws r path (.own 0 0) (.own 1 0) (.own 2 0) (.bool false) (.i (.iref a.cells)) .junk .junk .junk (.bool false) (.bool false) .junk, st := [some (.fbox p.cells), bxS r path, some (.box zp)] }) (e := .normal) (S' := { env := TEV p ws r path (.own 0 0) (.own 1 0) (.own 2 0) (.bool false) (.i (.iref a.cells)) (.own 3 0) (.bool true) .junk (.bool false) (.bool false) .junk, st := [some (.fbox p.cells), bxS r path, some (.box zp), bxP x] }) stTrue (by kernel_rfl) (by
    simp only [TEV, bxP, bxS]
    rw [Pn.cells_eq a, Pn.cells_eq x] at *
    simp [zp, w1, c3]) g4) ?_)
  rintro _ a5 w5' ⟨rfl, g5⟩
  refine wp_seq (wp_mono (GR.codeA sound0 (G := GS 22) (S := { env := TEV p ws r path (.own 0 0) (.own 1 0) (.own 2 0) (.bool false) (.i (.iref a.cells)) (.own 3 0) (.bool true) .junk (.bool false) (.bool false) .junk, st := [some (.fbox p.cells), bxS r path, some (.box zp), bxP x] }) (e := .normal) (S' := { env := TEV p ws r path (.own 0 0) (.own 1 0) (.own 2 0) (.bool false) (.i (.iref a.cells)) (.own 3 0) (.bool true) .junk (.bool false) (.bool false) (.bool false), st := [some (.fbox p.cells), bxS r path, some (.box zp), bxP x] }) stTrue (by kernel_rfl) (by
    simp only [TEV, bxP, bxS]
    simp [zp, Pn.cells_eq x]) g5) ?_)
  rintro _ a6 w6 ⟨rfl, g6⟩
  clear g0 g1 g2 g3 g4 g5
  have hst6 : (6 : Nat) < 45 := by omega
  refine wp_seq (wp_regionW ?_)
  show wpOpsIn (FR none) 0 Tryz.prog _ _ (List.range 3) a6 w6
  rw [show List.range 3 = 0 :: (List.range' 1 2 ++ []) from rfl, wpOpsIn_cons]
  obtain ⟨⟨m6, φ6, i6, henv6, adv6, ok6, -⟩, sz6, df6⟩ := g6
  obtain ⟨m7, rp7, i7, adv7⟩ := argVal_sound i6 (henv6 3) (show argVal (stOf [some (.fbox p.cells), bxS r path, some (.box zp), bxP x]) (.own 0 0) = some (.i (.iref p.cells), stOf [some (.fbox p.cells), bxS r path, some (.box zp), bxP x]) by simp [argVal, frzV, frz, fuelF, frzP, stOf, bnd, tst, frzIds])
  have rp7' : RepL m7 (fun _ => none) [.i (.iref p.cells)] [a6.tmps.getD 3 undef] := .cons (by cases rp7 with | i k => exact .i k) .nil
  have i7' : Inv w6 m7 (fun _ => none) (stOf []) := ⟨i7.mem, fun id blk e => by simp [stOf] at e, fun _ _ _ _ _ _ _ _ _ e => by simp [stOf] at e, fun _ _ _ _ e => by cases e⟩
  refine wpOp_callX (P := Tryz.prog) (fn := Tryz.f50) (d := 38) (g := 50) (args := #[.tmp 3]) rfl rfl rfl rfl Tryz.func50 hn50 hb50 (vs := [a6.tmps.getD 3 undef]) rfl ((copiedRaw_calls hps.1 hps.2.1 hps.2.2 i7' rp7').mono fun e w7 hraw => ?_)
  obtain ⟨y, rfl, v0, v1, v2, v3, v4, F, g7⟩ := GR.gotCopy (nt := 45) (d := 38) (by omega) i7 (fun t => (henv6 t).mono adv7.mle adv7.ple) (adv6.trans adv7) ok6 sz6 df6 hraw
  refine ⟨y, rfl, ?_⟩
  have hsz6 : wi.heap.size ≤ w6.heap.size := adv6.size
  generalize hE8 : TEV p ws r path (.own 0 0) (.own 1 0) (.own 2 0) (.bool false) (.i (.iref a.cells)) (.own 3 0) (.bool true) .junk (.bool false) (.bool false) (.bool false) = E8 at g7
  refine GR.opsK sound0 (CPY.stab _ _ _ _ _ _ _ _) 1 2 rfl ?_ (base := 4) (R0 := { env := upd (envOf E8) 38 (.i (.agg [.lit v0, .lit v1, .lit v2, .lit v3, .lit v4])), st := stOf [some (.fbox p.cells), bxS r path, some (.box zp), bxP x], log := [] }) (R1 := { env := upd (upd (envOf E8) 38 (.i (.agg [.lit v0, .lit v1, .lit v2, .lit v3, .lit v4]))) 11 (.own 12 0), st := upd (stOf [some (.fbox p.cells), bxS r path, some (.box zp), bxP x]) 12 (some (.box (litVs [v0, v1, v2, v3, v4]))), log := [] }) ?_ (g7.ok' fun id h => .inl (by simpa using h)) fun a8 w8 g8 => ?_
  · kernel_rfl
  · simp [litVs, zp, updS]
  obtain ⟨b3, g9⟩ := g8.pubC (u := 11) (id := 12) (st' := stOf [some (.fbox p.cells), bxS r path, some (.box zp), bxP x]) hsz6 rfl rfl (by
    intro i blk h
    rcases i with _ | _ | _ | _ | i
    · simp [stOf] at h; subst h; simp [upd, stOf, TreeBlk]
    · simp [stOf, bxS] at h; subst h; simp [upd, stOf, TreeBlk, bxS]
    · simp [stOf] at h; subst h; simp [upd, stOf, TreeBlk, zp]
    · simp [stOf, bxP] at h; subst h; simp [upd, stOf, TreeBlk, bxP, Pn.cells_eq x, impI]
    · simp [stOf] at h)
  have g9 := (g9 (envOf [(5, .own 1 0), (6, .own 2 0), (9, .own 3 0), (11, .i (.lit (.pointer (some ⟨b3, 0, none⟩))))]) (by
    subst hE8
    intro t
    simp only [envOf]
    by_cases h5 : t = 5
    · subst h5; exact .inr (.inr ⟨by simp [upd, TEV, envOf], by simp [upd, TEV, envOf, StaysT, stOf, bxS]⟩)
    by_cases h6 : t = 6
    · subst h6; exact .inr (.inr ⟨by simp [upd, TEV, envOf], by simp [upd, TEV, envOf, StaysT, stOf]⟩)
    by_cases h9 : t = 9
    · subst h9; exact .inr (.inr ⟨by simp [upd, TEV, envOf], by simp [upd, TEV, envOf, StaysT, stOf, bxP]⟩)
    by_cases h11 : t = 11
    · subst h11; exact .inr (.inl ⟨rfl, rfl⟩)
    simp [h5, h6, h9, h11])).ok' (ok' := fun id => okIn 4 (fun j => j < 0) id) (by
    intro i h
    refine .inl ?_
    rcases i with _ | _ | _ | _ | i
    all_goals first | omega | (simp [stOf] at h))
  clear g7 g8
  refine wp_seq (wp_regionW ?_)
  show wpOpsIn (FR none) 0 Tryz.prog _ _ (List.range 6) a8 w8
  rw [show List.range 6 = List.range' 0 2 ++ (2 :: (List.range' 3 2 ++ (List.range' 5 1 ++ []))) from rfl]
  generalize hE9 : envOf [(5, .own 1 0), (6, .own 2 0), (9, .own 3 0), (11, .i (.lit (.pointer (some ⟨b3, 0, none⟩))))] = E9 at g9
  refine GR.opsK sound0 (RAW.stab _ _ _ _ _) 0 2 rfl ?_ (base := 4) (R0 := { env := E9, st := stOf [some (.fbox p.cells), bxS r path, some (.box zp), bxP x], log := [] }) (R1 := { env := upd (upd E9 39 (.own 1 1)) 40 (.i (.isl (intsL path))), st := stOf [some (.fbox p.cells), bxS r path, some (.box zp), bxP x], log := [] }) ?_ g9 fun a9 w9 g10 => ?_
  · kernel_rfl
  · subst hE9; simp [zp, bxS, updS]
  clear g9
  rw [wpOpsIn_cons]
  obtain ⟨⟨m10, φ10, i10, henv10, adv10, ok10, r10⟩, sz10, df10⟩ := g10
  have hv11 := henv10 11
  have hv40 := henv10 40
  simp only [show upd (upd E9 39 (.own 1 1)) 40 (.i (.isl (intsL path))) 11 = .i (.lit (.pointer (some ⟨b3, 0, none⟩))) from by subst hE9; rfl] at hv11
  simp only [show upd (upd E9 39 (.own 1 1)) 40 (.i (.isl (intsL path))) 40 = .i (.isl (intsL path)) from rfl] at hv40
  have hmm : MLe m10 (memOf w9) := i10.mem
  refine wpOp_callX (P := Tryz.prog) (fn := Tryz.f48) (d := 41) (g := 48) (args := #[.tmp 11, .tmp 40]) rfl rfl rfl rfl Tryz.func48 hn48 hb48 (vs := [a9.tmps.getD 11 undef, a9.tmps.getD 40 undef]) rfl ((at_calls r10.th r10.nr r10.nd ha hl (vs := [a9.tmps.getD 11 undef, a9.tmps.getD 40 undef]) (.cons (by cases hv11 with | i k => exact .i (k.mono hmm)) (.cons (by cases hv40 with | i k => exact .i (k.mono hmm)) .nil))).mono fun e w10 hplace => ?_)
  obtain ⟨y2, rfl, bq, oq, Fa, Fy, Fz, g11⟩ := GR.gotPlace (nt := 45) (d := 41) (by omega) i10 henv10 adv10 ok10 sz10 df10 r10 hplace
  refine ⟨y2, rfl, ?_⟩
  refine GR.opsK sound0 (RAT.stab _ _ _ _ _ _ _ _ _ _ _) 3 2 rfl ?_ (base := 4) (R0 := { env := upd (upd (upd E9 39 (.own 1 1)) 40 (.i (.isl (intsL path)))) 41 (.i (.lit (.pointer (some ⟨bq, oq, none⟩)))), st := stOf [some (.fbox p.cells), bxS r path, some (.box zp), bxP x], log := [] }) (R1 := { env := upd (upd (upd (upd (upd E9 39 (.own 1 1)) 40 (.i (.isl (intsL path)))) 41 (.i (.lit (.pointer (some ⟨bq, oq, none⟩))))) 42 (.i (.agg x.cells))) 43 (.i (.lit (.pointer (some ⟨bq, oq, none⟩)))), st := upd (stOf [some (.fbox p.cells), bxS r path, some (.box zp), bxP x]) 3 (some (.fbox x.cells)), log := [] }) ?_ (g11.ok' fun id h => okIn_mono (fun j hj => by omega) h) fun a10 w11 g12 => ?_
  · kernel_rfl
  · subst hE9
    rw [Pn.cells_eq x] at c4
    simp [zp, bxS, bxP, Pn.cells_eq x, c4, updS]
  clear g11
  obtain ⟨pre, row, post, ma, hrl, hpl, g13⟩ := g12.adoptP (u := 43) (k := 1) (st' := upd (fun _ => none) 2 (some (.box zp))) rfl (by
    intro i blk h
    by_cases h2 : i = 2
    · subst h2; simp [upd] at h; subst h; simp [upd, stOf, TreeBlk, zp]
    · simp [upd, h2] at h) (by simp [upd])
  have g13 := (g13 (envOf [(6, .own 2 0), (11, .i (.lit (.pointer (some ⟨b3, 0, none⟩)))), (42, .i (.agg x.cells)), (43, .own 1 oq)]) (by
    subst hE9
    intro t
    simp only [envOf]
    by_cases h6 : t = 6
    · subst h6; exact .inr (.inr ⟨by simp [upd, envOf], by simp [upd, envOf, StaysT]⟩)
    by_cases h11 : t = 11
    · subst h11; exact .inr (.inr ⟨by simp [upd, envOf], by simp [upd, envOf, StaysT]⟩)
    by_cases h42 : t = 42
    · subst h42; exact .inr (.inr ⟨by simp [upd, envOf], by simp [upd, envOf, StaysT]⟩)
    by_cases h43 : t = 43
    · subst h43; exact .inr (.inl ⟨rfl, rfl⟩)
    simp [h6, h11, h42, h43])).ok' (ok' := fun id => okIn 4 (fun j => j < 5) id) (by
    intro i h
    refine .inl ?_
    rcases h with h | h
    · by_cases h2 : i = 2
      · omega
      · simp [upd, h2] at h
    · omega)
  clear g12
  refine GR.opsK sound0 (fun w m φ w' m' φ' ha h => ⟨ADK.stab _ _ _ _ _ _ _ _ _ _ _ _ _ _ _ _ _ _ _ _ ha h.1, h.2⟩) 5 1 rfl ?_ (base := 4) (R0 := { env := envOf [(6, .own 2 0), (11, .i (.lit (.pointer (some ⟨b3, 0, none⟩)))), (42, .i (.agg x.cells)), (43, .own 1 oq)], st := upd (upd (fun _ => none) 2 (some (.box zp))) 1 (some (.box (boxL pre (litVs row) post))), log := [] }) (R1 := { env := envOf [(6, .own 2 0), (11, .i (.lit (.pointer (some ⟨b3, 0, none⟩)))), (42, .i (.agg x.cells)), (43, .own 1 oq)], st := upd (upd (upd (fun _ => none) 2 (some (.box zp))) 1 (some (.box (boxL pre (litVs row) post)))) 1 (some (.box (boxL pre (impI x.cells) post))), log := [] }) ?_ g13 fun a11 w12 g14 => ?_
  · kernel_rfl
  · subst hpl
    have hsp : splice (boxL pre (litVs row) post) pre.length (impI x.cells) = some (boxL pre (impI x.cells) post) := by
      have := splice_boxL pre post (litVs row) 0 (impI x.cells)
      rw [Nat.add_zero] at this
      rw [this]
      match row, hrl with
      | [r0, r1, r2, r3, r4], _ => rw [Pn.cells_eq]; simp [litVs, impI, boxL, splice, bnd]
    rw [Pn.cells_eq x] at *
    simp at hsp
    simp [hsp, updS]
  clear g13
  have g15 := g14.giveP (q := x) hrl hpl rfl (st' := upd (fun _ => none) 2 (some (.box zp))) (env' := envOf [(6, .own 2 0), (11, .i (.lit (.pointer (some ⟨b3, 0, none⟩))))]) (by
    intro i blk h
    by_cases h2 : i = 2
    · subst h2; simp [upd] at h; subst h; simp [upd, TreeBlk, zp]
    · simp [upd, h2] at h) (by
    intro t
    simp only [envOf]
    by_cases h6 : t = 6
    · subst h6; exact .inr ⟨by simp, by simp [StaysT, upd]⟩
    by_cases h11 : t = 11
    · subst h11; exact .inr ⟨by simp, by simp [StaysT]⟩
    simp [h6, h11])
  clear g14
  have g16 := g15.fin2 (u := 11) rfl (env' := envOf [(6, .own 2 0), (11, .i (.iref (Pn.put path p x).cells))]) (by
    intro t
    simp only [envOf]
    by_cases h6 : t = 6
    · subst h6; exact .inr (.inr (by simp))
    by_cases h11 : t = 11
    · subst h11; exact .inr (.inl ⟨rfl, by simp⟩)
    simp [h6, h11])
  clear g15
  generalize Pn.put path p x = q at *
  have g17 := g16.settle (fun _ _ _ _ h => h) [6, 11]
  have hset : Av.settle [6, 11] 0 (envOf [(6, .own 2 0), (11, .i (.iref q.cells))]) (upd (fun _ => none) 2 (some (.box zp))) = { env := [(6, .own 0 0), (11, .i (.iref q.cells))], st := [some (.box zp)] } := by simp [zp, upd]
  rw [hset] at g17
  clear g16
  refine wp_mono (GR.codeA sound0 (G := GS 22) (S := { env := [(6, .own 0 0), (11, .i (.iref q.cells))], st := [some (.box zp)] }) (e := .ret) (S' := { env := [(0, .junk), (1, .junk), (2, .junk), (3, .junk), (5, .junk), (6, .own 0 0), (7, .bool true), (8, .junk), (9, .junk), (10, .junk), (11, .i (.iref q.cells)), (15, .junk), (21, .junk), (36, .junk)], st := [bxP q] }) stTrue (by kernel_rfl) (by
    simp only [bxP]
    rw [Pn.cells_eq q]
    simp [zp]) g17) ?_
  rintro _ a12 w13 ⟨rfl, g18⟩
  obtain ⟨⟨m, φ, q1, q2, q3, q4, q5⟩, q6, q7⟩ := g18
  obtain ⟨v, k1, k2⟩ := finish_sound (C := C0) (fn := Tryz.f22) (keep := false) (na := 0) (S := { env := [(0, .junk), (1, .junk), (2, .junk), (3, .junk), (5, .junk), (6, .own 0 0), (7, .bool true), (8, .junk), (9, .junk), (10, .junk), (11, .i (.iref q.cells)), (15, .junk), (21, .junk), (36, .junk)], st := [bxP q] }) (r := .tup [.i (.agg q.cells), .bool true]) (stl' := []) (fun id h => absurd rfl h) ⟨⟨⟨m, φ, q1, q2, q3, q4, .nil _ _ _⟩, q6, q7⟩, Nat.zero_le _⟩ (by
    show finish C0 false [ResultVar.cell 6 32, ResultVar.tmp 7] 0 _ = _
    simp only [bxP]
    rw [Pn.cells_eq q]
    simp)
  exact ⟨q7, v, k1, k2⟩
end Go.Proofs.YteihcffblfdgfaaGreat.P

namespace Go.Proofs.YteihcffblfdgfaaGreat.P
open Go Go.Av
set_option maxRecDepth 4000
set_option maxHeartbeats 4000000
end Go.Proofs.YteihcffblfdgfaaGreat.P

namespace Go.Proofs.YteihcffblfdgfaaGreat.P
open Go Go.Av
set_option maxRecDepth 4000
set_option maxHeartbeats 4000000
end Go.Proofs.YteihcffblfdgfaaGreat.P

namespace Go.Proofs.YteihcffblfdgfaaGreat
open Go Go.Av
set_option maxRecDepth 4000
noncomputable def primP : FuncId → Option (List AV → StL → Option (AV × StL))
  | 1000000007 => none
  | 121 => none
  | 101 => none
  | 59 => some (lookC (callA C0) 59)
  | 117 => some (frzO (callA C0) 117)
  | g => some (callA C0 g)
def ownP : FuncId → Bool
  | 59 => true
  | g => ownA g
@[simp] theorem ownP_eq (g : FuncId) : ownP g = if g = 59 then true else ownA g := by
  unfold ownP; split
  · rfl
  · rename_i h; rw [if_neg h]
noncomputable def CP : Ctx := { P := Tryz.prog, G := GS, ownArgs := ownP, keepRes := keepR, eqT := eqTy, prim := primP }
@[simp] theorem CP_P : CP.P = Tryz.prog := (rfl)
@[simp] theorem CP_G (f) : CP.G f = GS f := (rfl)
@[simp] theorem CP_o (f) : CP.ownArgs f = ownP f := (rfl)
@[simp] theorem CP_k (f) : CP.keepRes f = keepR f := (rfl)
@[simp] theorem CP_e (f) : CP.eqT f = eqTy f := (rfl)
@[simp] theorem CP_t : CP.tree = false := (rfl)
theorem primP0 : PrimOk CP := by
  have h0 := callA_sound sound0
  have key : ∀ g q, CP.prim g = some q → g ≠ yldF ∧ (q = callA C0 g ∨ q = lookC (callA C0) g ∨ q = frz1 (callA C0) g ∨ q = frzO (callA C0) g) := by
    intro g q h
    have h : primP g = some q := h
    unfold primP at h
    split at h
    all_goals first
      | (cases h; done)
      | (injection h with h; subst h; exact ⟨by decide, .inr (.inl rfl)⟩)
      | (injection h with h; subst h; exact ⟨by decide, .inr (.inr (.inl rfl))⟩)
      | (injection h with h; subst h; exact ⟨by decide, .inr (.inr (.inr rfl))⟩)
      | (injection h with h; subst h; exact ⟨by assumption, .inl rfl⟩)
  constructor
  · intro g args st p h
    unfold primCall at h
    cases hq : CP.prim g with
    | none => rw [hq] at h; cases h
    | some q =>
      rw [hq] at h
      obtain ⟨hy, hor⟩ := key g q hq
      rcases hor with rfl | rfl | rfl | rfl
      · exact h0.name _ _ _ _ hy h
      · exact (look_sound h0 (r := p.1) (stl' := p.2) h hy).1
      · exact (frz1_sound h0 (r := p.1) (stl' := p.2) h hy).1
      · exact (frzO_sound h0 (r := p.1) (stl' := p.2) h hy).1
  · intro g args st r st' h w m φ vs hi hr hb
    unfold primCall at h
    cases hq : CP.prim g with
    | none => rw [hq] at h; cases h
    | some q =>
      rw [hq] at h
      obtain ⟨hy, hor⟩ := key g q hq
      rcases hor with rfl | rfl | rfl | rfl
      · exact h0.calls _ _ _ _ _ hy h w m φ vs hi hr hb
      · exact (look_sound h0 h hy).2 w m φ vs hi hr hb
      · exact (frz1_sound h0 h hy).2 w m φ vs hi hr hb
      · exact (frzO_sound h0 h hy).2 w m φ vs hi hr hb
theorem soundP : SoundOk CP := sound_ok (C := CP) ft nt eqS mo primP0
end Go.Proofs.YteihcffblfdgfaaGreat

namespace Go.Av
end Go.Av
namespace Go.Proofs.YteihcffblfdgfaaGreat.P
open Go Go.Av
set_option maxRecDepth 4000
set_option maxHeartbeats 4000000
end Go.Proofs.YteihcffblfdgfaaGreat.P

namespace Go.Proofs.YteihcffblfdgfaaGreat.P
open Go Go.Av
set_option maxRecDepth 4000
set_option maxHeartbeats 4000000
end Go.Proofs.YteihcffblfdgfaaGreat.P

namespace Go.Proofs.YteihcffblfdgfaaGreat.P
open Go Go.Av
set_option maxRecDepth 4000
set_option maxHeartbeats 4000000
@[simp] theorem cp_pick (a : List AV) (st : StL) : callA CP 68 a st = callA C0 68 a st := by rw [callA_prim (p := callA C0 68) rfl]
@[simp] theorem cp_one (a : List AV) (st : StL) : callA CP 69 a st = callA C0 69 a st := by rw [callA_prim (p := callA C0 69) rfl]
@[simp] theorem cp_cond (a : List AV) (st : StL) : callA CP 123 a st = callA C0 123 a st := by rw [callA_prim (p := callA C0 123) rfl]
@[simp] theorem cp_expr (a : List AV) (st : StL) : callA CP 124 a st = callA C0 124 a st := by rw [callA_prim (p := callA C0 124) rfl]
@[simp] theorem cp_filterOf (a : List AV) (st : StL) : callA CP 122 a st = callA C0 122 a st := by rw [callA_prim (p := callA C0 122) rfl]
theorem cp_copyPlan (p : Pn) (hp : p.thin) : callA CP 117 [.i (.agg p.cells)] [] = some (.i (.agg p.cells), []) := by
  have h := copyPlan_eq p hp
  rw [callA_prim (p := frzO (callA C0) 117) rfl]
  unfold frzO
  by_cases he : p.exprs = []
  · by_cases hk : p.kids = []
    · simp [pcX, pcS, hk, he, Pn.cellsL, Ex.cellsL] at h
      simp [h]
      rw [Pn.cells_eq]; simp [hk, he, Pn.cellsL, Ex.cellsL]
    · have hkl : p.kids.length ≠ 0 := fun h => hk (List.length_eq_zero_iff.1 h)
      simp [pcX, pcS, hk, he, gro_pos hkl, groB_pos hkl, Ex.cellsL] at h
      simp [h]
      rw [Pn.cells_eq]; simp [hk, he, Ex.cellsL]
  · have hel : p.exprs.length ≠ 0 := fun h => he (List.length_eq_zero_iff.1 h)
    by_cases hk : p.kids = []
    · simp [pcX, pcS, hk, he, gro_pos hel, groB_pos hel, Pn.cellsL] at h
      simp [h]
      rw [Pn.cells_eq]; simp [hk, he, Pn.cellsL]
    · have hkl : p.kids.length ≠ 0 := fun h => hk (List.length_eq_zero_iff.1 h)
      simp [pcX, pcS, hk, he, gro_pos hel, groB_pos hel, gro_pos hkl, groB_pos hkl] at h
      simp [h]
      rw [Pn.cells_eq]
theorem splanWidth_own {ws : List Int} (hw : ∀ w ∈ ws, 0 ≤ w ∧ w ≤ 6) (hwl : ws.length < 1000000) {k : Nat} (hk0 : 0 < k) (hk : k ≤ ws.length) (p : Pn) (hp : p.thin) : callA CP 59 [.i (.agg p.cells), .osl 0 1 0 k, .int 8] [some (.arr 1 (intsL ws))] = some (.int (p.wd (ws.take k) 8), [some (.arr 1 (intsL ws))]) := by
  have h := splanWidth_eq (ws := ws.take k) (fun w hm => hw w (List.mem_of_mem_take hm)) (by simp; omega) p (Pn.thin_lim p hp) 8 (by omega)
  rw [callA_prim (p := lookC (callA C0) 59) rfl]
  unfold lookC
  simp at h
  simp [viewWs, viewW, h, hk, hk0, bareC]
def filtP (e : Ex) (p : Pn) : Pn := .mk 2 0 [e] [] [p]
theorem filtP_cells (e : Ex) (p : Pn) : (filtP e p).cells = [.int 2, .int 0, .isl [e.cells], .isl [], .isl [p.cells]] := by simp [filtP, Pn.cells, Ex.cellsL, intsL, Pn.cellsL]
theorem filterOf_eq (e : Ex) (p : Pn) : callA C0 122 [.i (.agg e.cells), .i (.agg p.cells)] [] = some (.i (.agg (filtP e p).cells), []) := by
  rw [callA_eq rfl Tryz.func122 rfl rfl, filtP_cells, Ex.cells_eq, Pn.cells_eq]
  simp
theorem filtP_thin {e : Ex} {p : Pn} (he : e.size < 1000000) (hp : p.thin) : (filtP e p).thin := by
  have := Ex.thin_of_size e (by omega)
  simp [filtP, Pn.thin, Pn.thinL, this, hp]
end Go.Proofs.YteihcffblfdgfaaGreat.P

namespace Go.Proofs.YteihcffblfdgfaaGreat.P
open Go Go.Av
set_option maxRecDepth 4000
noncomputable def primQ : FuncId → Option (List AV → StL → Option (AV × StL))
  | 121 => some (callA CP 121)
  | 122 => some (bodyA C0 true 122)
  | g => primP g
noncomputable def CQ : Ctx := { P := Tryz.prog, G := GS, ownArgs := ownP, keepRes := keepR, eqT := eqTy, prim := primQ }
@[simp] theorem CQ_P : CQ.P = Tryz.prog := (rfl)
@[simp] theorem CQ_G (f) : CQ.G f = GS f := (rfl)
@[simp] theorem CQ_o (f) : CQ.ownArgs f = ownP f := (rfl)
@[simp] theorem CQ_k (f) : CQ.keepRes f = keepR f := (rfl)
@[simp] theorem CQ_e (f) : CQ.eqT f = eqTy f := (rfl)
@[simp] theorem CQ_t : CQ.tree = false := (rfl)
theorem primQ0 : PrimOk CQ := by
  have hP := callA_sound soundP
  constructor
  · intro g args st p h
    unfold primCall at h
    cases hq : CQ.prim g with
    | none => rw [hq] at h; cases h
    | some q =>
      rw [hq] at h
      have hq : primQ g = some q := hq
      unfold primQ at hq
      split at hq
      · injection hq with hq; subst hq; exact hP.name _ _ _ _ (by decide) h
      · injection hq with hq; subst hq; exact (bodyA_sound sound0 (r := p.1) (stl' := p.2) h).1
      · exact primP0.name g args st p (by unfold primCall; rw [show CP.prim g = some q from hq]; exact h)
  · intro g args st r st' h w m φ vs hi hr hb
    unfold primCall at h
    cases hq : CQ.prim g with
    | none => rw [hq] at h; cases h
    | some q =>
      rw [hq] at h
      have hq : primQ g = some q := hq
      unfold primQ at hq
      split at hq
      · injection hq with hq; subst hq; exact hP.calls _ _ _ _ _ (by decide) h w m φ vs hi hr hb
      · injection hq with hq; subst hq; exact (bodyA_sound sound0 h).2 w m φ vs hi hr hb
      · exact primP0.calls g args st r st' (by unfold primCall; rw [show CP.prim g = some q from hq]; exact h) w m φ vs hi hr hb
theorem soundQ : SoundOk CQ := sound_ok (C := CQ) ft nt eqS mo primQ0
noncomputable def primR : FuncId → Option (List AV → StL → Option (AV × StL))
  | 1000000007 => none
  | 4 => none
  | 5 => none
  | 6 => none
  | 7 => none
  | 16 => none
  | 21 => none
  | 44 => none
  | 67 => none
  | 101 => none
  | 47 => none
  | 72 => none
  | 121 => some (bodyA CQ true 121)
  | 122 => some (bodyA C0 true 122)
  | 59 => some (lookX (callA C0) 59)
  | g => primP g
def keepQ (g : FuncId) : Bool := keepR g || decide (g = 101)
noncomputable def CR : Ctx := { P := Tryz.prog, G := GS, ownArgs := ownP, keepRes := keepQ, eqT := eqTy, prim := primR }
@[simp] theorem CR_P : CR.P = Tryz.prog := (rfl)
@[simp] theorem CR_G (f) : CR.G f = GS f := (rfl)
@[simp] theorem CR_o (f) : CR.ownArgs f = ownP f := (rfl)
@[simp] theorem CR_k (f) : CR.keepRes f = (keepR f || decide (f = 101)) := (rfl)
@[simp] theorem CR_e (f) : CR.eqT f = eqTy f := (rfl)
@[simp] theorem CR_t : CR.tree = false := (rfl)
theorem primR0 : PrimOk CR := by
  constructor
  · intro g args st p h
    unfold primCall at h
    cases hq : CR.prim g with
    | none => rw [hq] at h; cases h
    | some q =>
      rw [hq] at h
      have hq : primR g = some q := hq
      unfold primR at hq
      split at hq
      all_goals first
        | (cases hq; done)
        | (injection hq with hq; subst hq; exact (bodyA_sound soundQ (r := p.1) (stl' := p.2) h).1)
        | (injection hq with hq; subst hq; exact (bodyA_sound sound0 (r := p.1) (stl' := p.2) h).1)
        | (injection hq with hq; subst hq; exact (lookX_sound (callA_sound sound0) (r := p.1) (stl' := p.2) h (by decide)).1)
        | exact primP0.name g args st p (by unfold primCall; rw [show CP.prim g = some q from hq]; exact h)
  · intro g args st r st' h w m φ vs hi hr hb
    unfold primCall at h
    cases hq : CR.prim g with
    | none => rw [hq] at h; cases h
    | some q =>
      rw [hq] at h
      have hq : primR g = some q := hq
      unfold primR at hq
      split at hq
      all_goals first
        | (cases hq; done)
        | (injection hq with hq; subst hq; exact (bodyA_sound soundQ h).2 w m φ vs hi hr hb)
        | (injection hq with hq; subst hq; exact (bodyA_sound sound0 h).2 w m φ vs hi hr hb)
        | (injection hq with hq; subst hq; exact (lookX_sound (callA_sound sound0) h (by decide)).2 w m φ vs hi hr hb)
        | exact primP0.calls g args st r st' (by unfold primCall; rw [show CP.prim g = some q from hq]; exact h) w m φ vs hi hr hb
theorem soundR : SoundOk CR := sound_ok (C := CR) ft nt eqS mo primR0
end Go.Proofs.YteihcffblfdgfaaGreat.P

/- Part 8 of what the proof rests on: the executor and what it is worth, and the program's functions as it runs them. No condition. -/
import Derived.Test.YteihcffblfdgfaaT7
set_option linter.unusedVariables false
set_option linter.unusedSimpArgs false
/- Equal plans, as the program has it. No condition. -/
namespace Go.Proofs.Yteihcffblfdgfaa.P
open Go Go.Av
set_option maxRecDepth 4000
set_option maxHeartbeats 2000000
def SX (l m : List Int) (i : Nat) : AS :=
  { env := [(0, .i (.isl (intsL l))), (1, .i (.isl (intsL m))), (4, .bool false), (5, jk i (.int (i - 1))), (10, .bool false), (12, .int l.length), (13, .int i), (14, jk i (.bool true)), (24, jk i (.bool false))], st := [] }
theorem sliceEqual_eq {l m : List Int} (hl : l.length < 9223372036854775808) : callA C0 71 [.i (.isl (intsL l)), .i (.isl (intsL m))] [] = some (.bool (l == m), []) := by
  rw [callA_eq rfl Try.func71 rfl rfl]
  by_cases hlm : l.length = m.length
  case neg =>
    have : (l == m) = false := by simp; intro h; rw [h] at hlm; exact hlm rfl
    simp [show ¬ (l.length : Int) = m.length by omega, this]
  obtain ⟨j, h1, h2⟩ := ints_upto l m hlm
  simp [hlm]
  rw [loop_to (SX l m) j (by simp [SX, hlm])]
  · rw [execA_loop]
    rcases h2 with ⟨hj, ha⟩ | ⟨a, b, k1, k2, k3, ha⟩
    · simp [SX, hj, hlm]
      exact (beq_iff_eq.1 ha)
    · have r1 := (List.getElem?_eq_some_iff.1 k1).1
      have s1 := intsL_nth k1
      have s2 := intsL_nth k2
      have ha := beq_eq_false_iff_ne.1 ha
      have r3 := (List.getElem?_eq_some_iff.1 k2).1
      simp [SX, r1, r3, s1, s2, k3, ha]
  · intro i hi
    obtain ⟨a, k1, k2⟩ := h1 i hi
    have r1 := (List.getElem?_eq_some_iff.1 k1).1
    have s1 := intsL_nth k1
    have s2 := intsL_nth k2
    have w2 : IntKind.i64.wrap ((i : Int) + 1) = i + 1 := wrap64 (by omega) (by omega)
    have r3 := (List.getElem?_eq_some_iff.1 k2).1
    simp [SX, r1, r3, s1, s2, w2]
def EX (a b : Ex) (i : Nat) : AS :=
  { env := [(0, .i (.iref [.int a.kind, .int a.col, .bool a.val.null, .int a.val.n, .isl (Ex.cellsL a.kids)])), (1, .i (.iref [.int b.kind, .int b.col, .bool b.val.null, .int b.val.n, .isl (Ex.cellsL b.kids)])), (4, .bool false), (5, jk i (.int (i - 1))), (49, .bool false), (54, .int a.kids.length), (55, .int i), (56, jk i (.bool true)), (71, jk i (.bool false))], st := [] }
theorem equalE_step {a b : Ex} (hl : a.kids.length < 1000000000) (ih : ∀ x ∈ a.kids, ∀ y, callA C0 72 [.i (.iref x.cells), .i (.iref y.cells)] [] = some (.bool (x.eqb y), [])) :
    callA C0 72 [.i (.iref a.cells), .i (.iref b.cells)] [] = some (.bool (a.eqb b), []) := by
  rw [callA_eq rfl Try.func72 rfl rfl, Ex.cells_eq, Ex.cells_eq, Ex.eqb_def]
  by_cases h1 : a.kind = b.kind
  case neg => simp [h1]
  by_cases h2 : a.col = b.col
  case neg => simp [h1, h2]
  cases h3 : (a.val.null == b.val.null && a.val.n == b.val.n) with
  | false => simp [h1, h2, h3]
  | true =>
  by_cases h5 : a.kids.length = b.kids.length
  case neg => simp [h1, h2, h3, show ¬ (a.kids.length : Int) = b.kids.length by omega, Ex.eqbL_len _ _ h5]
  obtain ⟨j, u1, u2⟩ := Ex.eqbL_upto _ _ h5
  simp [h1, h2, h3, h5]
  rw [loop_to (EX a b) j (by simp [EX, h1, h2, h5])]
  · rw [execA_loop]
    rcases u2 with ⟨hj, ha⟩ | ⟨x, y, k1, k2, k3, k4, ha⟩
    · simp [EX, hj, h5, ha]
    · have r1 := (List.getElem?_eq_some_iff.1 k1).1
      have r3 := (List.getElem?_eq_some_iff.1 k2).1
      have s1 := Ex.cellsL_nth k1
      have s2 := Ex.cellsL_nth k2
      have hc := ih x k3 y
      rw [Ex.cells_eq] at s1 s2
      rw [Ex.cells_eq, Ex.cells_eq] at hc
      simp [EX, r1, r3, s1, s2, ha, hc, k4]
  · intro i hi
    obtain ⟨x, y, k1, k2, k3, k4⟩ := u1 i hi
    have r1 := (List.getElem?_eq_some_iff.1 k1).1
    have r3 := (List.getElem?_eq_some_iff.1 k2).1
    have s1 := Ex.cellsL_nth k1
    have s2 := Ex.cellsL_nth k2
    have hc := ih x k3 y
    have w2 : IntKind.i64.wrap ((i : Int) + 1) = i + 1 := wrap64 (by omega) (by omega)
    rw [Ex.cells_eq] at s1 s2
    rw [Ex.cells_eq, Ex.cells_eq] at hc
    simp [EX, r1, r3, s1, s2, hc, k4, w2]
theorem equalE_eq : ∀ (a : Ex), a.thin → ∀ b : Ex, callA C0 72 [.i (.iref a.cells), .i (.iref b.cells)] [] = some (.bool (a.eqb b), []) := by
  intro a
  induction a using Ex.ind with
  | h k c v ks ih =>
    intro ht b
    have ht' := (Ex.thin_iff _).1 ht
    exact equalE_step ht'.1 fun x hx y => ih x hx (ht'.2 x hx) y
def OX (p q : Pn) (i : Nat) : AS :=
  { env := [(0, .i (.iref [.int p.kind, .int p.table, .isl (Ex.cellsL p.exprs), .isl (intsL p.cols), .isl (Pn.cellsL p.kids)])), (1, .i (.iref [.int q.kind, .int q.table, .isl (Ex.cellsL q.exprs), .isl (intsL q.cols), .isl (Pn.cellsL q.kids)])), (4, .bool false), (5, jk i (.int (i - 1))), (6, .junk), (38, .bool false), (62, .bool false), (67, .int p.exprs.length), (68, .int i), (69, jk i (.bool true)), (84, jk i (.bool false)), (90, .junk), (91, .junk), (92, .junk), (107, .junk)], st := [] }
def OY (p q : Pn) (i : Nat) : AS :=
  { env := [(0, .i (.iref [.int p.kind, .int p.table, .isl (Ex.cellsL p.exprs), .isl (intsL p.cols), .isl (Pn.cellsL p.kids)])), (1, .i (.iref [.int q.kind, .int q.table, .isl (Ex.cellsL q.exprs), .isl (intsL q.cols), .isl (Pn.cellsL q.kids)])), (4, .bool false), (5, jk p.exprs.length (.int (p.exprs.length - 1))), (6, jk i (.int (i - 1))), (38, .bool false), (62, .bool false), (67, .int p.exprs.length), (68, .int p.exprs.length), (69, .bool false), (84, jk p.exprs.length (.bool false)), (90, .int p.kids.length), (91, .int i), (92, jk i (.bool true)), (107, jk i (.bool false))], st := [] }
theorem equalP_step {p q : Pn} (hp : p.thin) (ih : ∀ a ∈ p.kids, ∀ b, callA C0 30 [.i (.iref a.cells), .i (.iref b.cells)] [] = some (.bool (a.eqb b), [])) :
    callA C0 30 [.i (.iref p.cells), .i (.iref q.cells)] [] = some (.bool (p.eqb q), []) := by
  have ht := (Pn.thin_iff _).1 hp
  obtain ⟨t1, t2, t3, t4, -⟩ := ht
  have q2 := sliceEqual_eq (l := p.cols) (m := q.cols) (by omega)
  rw [callA_eq rfl Try.func30 rfl rfl, Pn.cells_eq, Pn.cells_eq, Pn.eqb_def]
  by_cases h1 : p.kind = q.kind
  case neg => simp [h1]
  by_cases h2 : p.table = q.table
  case neg => simp [h1, h2]
  by_cases h4 : p.cols = q.cols
  case neg =>
    have hb : (p.cols == q.cols) = false := by simpa using h4
    rw [hb] at q2; simp [h1, h2, q2, h4]
  have hb : (p.cols == q.cols) = true := by simpa using h4
  rw [hb, h4] at q2
  by_cases h6 : p.exprs.length = q.exprs.length
  case neg => simp [h1, h2, q2, h4, show ¬ (p.exprs.length : Int) = q.exprs.length by omega, Ex.eqbL_len _ _ h6]
  by_cases h5 : p.kids.length = q.kids.length
  case neg => simp [h1, h2, q2, h4, h6, show ¬ (p.kids.length : Int) = q.kids.length by omega, Pn.eqbL_len _ _ h5]
  simp [h1, h2, h4, q2, h6, h5]
  obtain ⟨j, v1, v2⟩ := Ex.eqbL_upto _ _ h6
  rw [loop_to (OX p q) j (by simp [OX, h1, h2, h4, h6])]
  · rw [execA_loop]
    rcases v2 with ⟨hj, ha⟩ | ⟨a, b, k1, k2, k3, k4, ha⟩
    · simp [OX, hj, h6]
      rw [← h6]
      obtain ⟨j, u1, u2⟩ := Pn.eqbL_upto _ _ h5
      rw [loop_to (OY p q) j (by simp [OY, h6, h5])]
      · rw [execA_loop]
        rcases u2 with ⟨hj, hb⟩ | ⟨a, b, k1, k2, k3, k4, hb⟩
        · simp [OY, hj, h5, ha, hb]
        · have r1 := (List.getElem?_eq_some_iff.1 k1).1
          have r3 := (List.getElem?_eq_some_iff.1 k2).1
          have s1 := Pn.cellsL_nth k1
          have s2 := Pn.cellsL_nth k2
          have hc := ih a k3 b
          rw [Pn.cells_eq] at s1 s2
          rw [Pn.cells_eq, Pn.cells_eq] at hc
          simp [OY, r1, r3, s1, s2, ha, hb, hc, k4]
      · intro i hi
        obtain ⟨a, b, k1, k2, k3, k4⟩ := u1 i hi
        have r1 := (List.getElem?_eq_some_iff.1 k1).1
        have r3 := (List.getElem?_eq_some_iff.1 k2).1
        have s1 := Pn.cellsL_nth k1
        have s2 := Pn.cellsL_nth k2
        have hc := ih a k3 b
        have w2 : IntKind.i64.wrap ((i : Int) + 1) = i + 1 := wrap64 (by omega) (by omega)
        rw [Pn.cells_eq] at s1 s2
        rw [Pn.cells_eq, Pn.cells_eq] at hc
        simp [OY, r1, r3, s1, s2, hc, k4, w2]
    · have r1 := (List.getElem?_eq_some_iff.1 k1).1
      have r3 := (List.getElem?_eq_some_iff.1 k2).1
      have s1 := Ex.cellsL_nth k1
      have s2 := Ex.cellsL_nth k2
      have hc := equalE_eq a (t2 a k3) b
      rw [Ex.cells_eq] at s1 s2
      rw [Ex.cells_eq, Ex.cells_eq] at hc
      simp [OX, r1, r3, s1, s2, ha, hc, k4]
  · intro i hi
    obtain ⟨a, b, k1, k2, k3, k4⟩ := v1 i hi
    have r1 := (List.getElem?_eq_some_iff.1 k1).1
    have r3 := (List.getElem?_eq_some_iff.1 k2).1
    have s1 := Ex.cellsL_nth k1
    have s2 := Ex.cellsL_nth k2
    have hc := equalE_eq a (t2 a k3) b
    have w2 : IntKind.i64.wrap ((i : Int) + 1) = i + 1 := wrap64 (by omega) (by omega)
    rw [Ex.cells_eq] at s1 s2
    rw [Ex.cells_eq, Ex.cells_eq] at hc
    simp [OX, r1, r3, s1, s2, hc, k4, w2]
theorem equalP_eq : ∀ (p : Pn), p.thin → ∀ q : Pn, callA C0 30 [.i (.iref p.cells), .i (.iref q.cells)] [] = some (.bool (p.eqb q), []) := by
  intro p
  induction p using Pn.ind with
  | h k t es cs ks ih =>
    intro ht q
    exact equalP_step ht fun a ha b => ih a ha (((Pn.thin_iff _).1 ht).2.2.2.2 a ha) b
end Go.Proofs.Yteihcffblfdgfaa.P

/- Equal plans, as the reference has it. No condition. -/
namespace Go.Proofs.Yteihcffblfdgfaa.P
open Go Go.Av
set_option maxRecDepth 4000
set_option maxHeartbeats 2000000
def FX (a b : Ex) (i : Nat) : AS :=
  { env := [(0, .i (.agg [.int a.kind, .int a.col, .bool a.val.null, .int a.val.n, .isl (Ex.cellsL a.kids)])), (1, .i (.agg [.int b.kind, .int b.col, .bool b.val.null, .int b.val.n, .isl (Ex.cellsL b.kids)])), (2, .own 0 0), (3, .own 1 0), (4, .bool false), (5, .int i), (33, .bool false), (38, jk i (.bool true)), (52, jk i (.bool false))],
    st := [some (.box [.int a.kind, .int a.col, .bool a.val.null, .int a.val.n, .i (.isl (Ex.cellsL a.kids))]), some (.box [.int b.kind, .int b.col, .bool b.val.null, .int b.val.n, .i (.isl (Ex.cellsL b.kids))])] }
theorem sequalE_step {a b : Ex} (hl : a.kids.length < 1000000000) (ih : ∀ x ∈ a.kids, ∀ y, callA C0 93 [.i (.agg x.cells), .i (.agg y.cells)] [] = some (.bool (x.eqb y), [])) :
    callA C0 93 [.i (.agg a.cells), .i (.agg b.cells)] [] = some (.bool (a.eqb b), []) := by
  rw [callA_eq rfl Try.func93 rfl rfl, Ex.cells_eq, Ex.cells_eq, Ex.eqb_def]
  by_cases h1 : a.kind = b.kind
  case neg => simp [h1]
  by_cases h2 : a.col = b.col
  case neg => simp [h1, h2]
  cases h3 : (a.val.null == b.val.null && a.val.n == b.val.n) with
  | false => simp [h1, h2, h3]
  | true =>
  by_cases h5 : a.kids.length = b.kids.length
  case neg => simp [h1, h2, h3, show ¬ (a.kids.length : Int) = b.kids.length by omega, Ex.eqbL_len _ _ h5]
  obtain ⟨j, u1, u2⟩ := Ex.eqbL_upto _ _ h5
  simp [h1, h2, h3, h5]
  rw [loop_to (FX a b) j (by simp [FX, h1, h2])]
  · rw [execA_loop]
    rcases u2 with ⟨hj, ha⟩ | ⟨x, y, k1, k2, k3, k4, ha⟩
    · simp [FX, hj, h5, ha]
    · have r1 := (List.getElem?_eq_some_iff.1 k1).1
      have r3 := (List.getElem?_eq_some_iff.1 k2).1
      have s1 := Ex.cellsL_nth k1
      have s2 := Ex.cellsL_nth k2
      have hc := ih x k3 y
      rw [Ex.cells_eq] at s1 s2
      rw [Ex.cells_eq, Ex.cells_eq] at hc
      simp [FX, r1, r3, s1, s2, ha, hc, k4]
  · intro i hi
    obtain ⟨x, y, k1, k2, k3, k4⟩ := u1 i hi
    have r1 := (List.getElem?_eq_some_iff.1 k1).1
    have r3 := (List.getElem?_eq_some_iff.1 k2).1
    have s1 := Ex.cellsL_nth k1
    have s2 := Ex.cellsL_nth k2
    have hc := ih x k3 y
    have w2 : IntKind.i64.wrap ((i : Int) + 1) = i + 1 := wrap64 (by omega) (by omega)
    rw [Ex.cells_eq] at s1 s2
    rw [Ex.cells_eq, Ex.cells_eq] at hc
    simp [FX, r1, r3, s1, s2, hc, k4, w2]
theorem sequalE_eq : ∀ (a : Ex), a.thin → ∀ b : Ex, callA C0 93 [.i (.agg a.cells), .i (.agg b.cells)] [] = some (.bool (a.eqb b), []) := by
  intro a
  induction a using Ex.ind with
  | h k c v ks ih =>
    intro ht b
    have ht' := (Ex.thin_iff _).1 ht
    exact sequalE_step ht'.1 fun x hx y => ih x hx (ht'.2 x hx) y
def HX (p q : Pn) (n m : Nat) (i j k : AV) (x51 x65 x70 x83 x88 x102 : AV) : AS :=
  { env := [(0, .i (.agg [.int p.kind, .int p.table, .isl (Ex.cellsL p.exprs), .isl (intsL p.cols), .isl (Pn.cellsL p.kids)])), (1, .i (.agg [.int q.kind, .int q.table, .isl (Ex.cellsL q.exprs), .isl (intsL q.cols), .isl (Pn.cellsL q.kids)])), (2, .own 0 0), (3, .own 1 0), (4, .bool false), (5, i), (6, j), (7, k), (46, .bool false), (51, x51), (65, x65), (70, x70), (83, x83), (88, x88), (102, x102)],
    st := [some (.box [.int p.kind, .int p.table, .i (.isl (Ex.cellsL p.exprs)), .i (.isl (intsL p.cols)), .i (.isl (Pn.cellsL p.kids))]), some (.box [.int q.kind, .int q.table, .i (.isl (Ex.cellsL q.exprs)), .i (.isl (intsL q.cols)), .i (.isl (Pn.cellsL q.kids))])] }
def H1 (p q : Pn) (i : Nat) : AS := HX p q 0 0 (.int i) .junk .junk (jk i (.bool true)) (jk i (.bool false)) .junk .junk .junk .junk
def H2 (p q : Pn) (i : Nat) : AS := HX p q 0 0 (.int p.exprs.length) (.int i) .junk (.bool false) (jk p.exprs.length (.bool false)) (jk i (.bool true)) (jk i (.bool false)) .junk .junk
def H3 (p q : Pn) (i : Nat) : AS := HX p q 0 0 (.int p.exprs.length) (.int p.cols.length) (.int i) (.bool false) (jk p.exprs.length (.bool false)) (.bool false) (jk p.cols.length (.bool false)) (jk i (.bool true)) (jk i (.bool false))
theorem sequalP_step {p q : Pn} (hp : p.thin) (ih : ∀ a ∈ p.kids, ∀ b, callA C0 74 [.i (.agg a.cells), .i (.agg b.cells)] [] = some (.bool (a.eqb b), [])) :
    callA C0 74 [.i (.agg p.cells), .i (.agg q.cells)] [] = some (.bool (p.eqb q), []) := by
  have ht := (Pn.thin_iff _).1 hp
  obtain ⟨t1, t2, t3, t4, -⟩ := ht
  rw [callA_eq rfl Try.func74 rfl rfl, Pn.cells_eq, Pn.cells_eq, Pn.eqb_def]
  by_cases h1 : p.kind = q.kind
  case neg => simp [h1]
  by_cases h2 : p.table = q.table
  case neg => simp [h1, h2]
  by_cases h6 : p.exprs.length = q.exprs.length
  case neg => simp [h1, h2, show ¬ (p.exprs.length : Int) = q.exprs.length by omega, Ex.eqbL_len _ _ h6]
  by_cases h7 : p.cols.length = q.cols.length
  case neg =>
    have hb : p.cols ≠ q.cols := fun h => h7 (by rw [h])
    simp [h1, h2, h6, show ¬ (p.cols.length : Int) = q.cols.length by omega, hb]
  by_cases h5 : p.kids.length = q.kids.length
  case neg => simp [h1, h2, h6, h7, show ¬ (p.kids.length : Int) = q.kids.length by omega, Pn.eqbL_len _ _ h5]
  simp [h1, h2, h6, h7, h5]
  obtain ⟨j, v1, v2⟩ := Ex.eqbL_upto _ _ h6
  rw [loop_to (H1 p q) j (by simp [H1, HX, h1, h2])]
  · rw [execA_loop]
    rcases v2 with ⟨hj, hae⟩ | ⟨a, b, k1, k2, k3, k4, ha⟩
    · simp [H1, HX, hj]
      obtain ⟨j, g1, g2⟩ := ints_upto _ _ h7
      rw [loop_to (H2 p q) j (by simp [H2, HX])]
      · rw [execA_loop]
        rcases g2 with ⟨hj, hac⟩ | ⟨a, b, k1, k2, k3, hac⟩
        · simp [H2, HX, hj]
          obtain ⟨j, u1, u2⟩ := Pn.eqbL_upto _ _ h5
          have hac := beq_iff_eq.1 hac
          rw [loop_to (H3 p q) j (by simp [H3, HX])]
          · rw [execA_loop]
            rcases u2 with ⟨hj, hb⟩ | ⟨a, b, k1, k2, k3, k4, hb⟩
            · simp [H3, HX, hj, hae, hac, hb]
            · have r1 := (List.getElem?_eq_some_iff.1 k1).1
              have r3 := (List.getElem?_eq_some_iff.1 k2).1
              have s1 := Pn.cellsL_nth k1
              have s2 := Pn.cellsL_nth k2
              have hc := ih a k3 b
              rw [Pn.cells_eq] at s1 s2
              rw [Pn.cells_eq, Pn.cells_eq] at hc
              simp [H3, HX, r1, r3, s1, s2, hb, hc, k4]
          · intro i hi
            obtain ⟨a, b, k1, k2, k3, k4⟩ := u1 i hi
            have r1 := (List.getElem?_eq_some_iff.1 k1).1
            have r3 := (List.getElem?_eq_some_iff.1 k2).1
            have s1 := Pn.cellsL_nth k1
            have s2 := Pn.cellsL_nth k2
            have hc := ih a k3 b
            have w2 : IntKind.i64.wrap ((i : Int) + 1) = i + 1 := wrap64 (by omega) (by omega)
            rw [Pn.cells_eq] at s1 s2
            rw [Pn.cells_eq, Pn.cells_eq] at hc
            simp [H3, HX, r1, r3, s1, s2, hc, k4, w2]
        · have r1 := (List.getElem?_eq_some_iff.1 k1).1
          have r3 := (List.getElem?_eq_some_iff.1 k2).1
          have s1 := intsL_nth k1
          have s2 := intsL_nth k2
          have hac := beq_eq_false_iff_ne.1 hac
          simp [H2, HX, r1, r3, s1, s2, k3, hac]
      · intro i hi
        obtain ⟨a, k1, k2⟩ := g1 i hi
        have r1 := (List.getElem?_eq_some_iff.1 k1).1
        have r3 := (List.getElem?_eq_some_iff.1 k2).1
        have s1 := intsL_nth k1
        have s2 := intsL_nth k2
        have w2 : IntKind.i64.wrap ((i : Int) + 1) = i + 1 := wrap64 (by omega) (by omega)
        simp [H2, HX, r1, r3, s1, s2, w2]
    · have r1 := (List.getElem?_eq_some_iff.1 k1).1
      have r3 := (List.getElem?_eq_some_iff.1 k2).1
      have s1 := Ex.cellsL_nth k1
      have s2 := Ex.cellsL_nth k2
      have hc := sequalE_eq a (t2 a k3) b
      rw [Ex.cells_eq] at s1 s2
      rw [Ex.cells_eq, Ex.cells_eq] at hc
      simp [H1, HX, r1, r3, s1, s2, ha, hc, k4]
  · intro i hi
    obtain ⟨a, b, k1, k2, k3, k4⟩ := v1 i hi
    have r1 := (List.getElem?_eq_some_iff.1 k1).1
    have r3 := (List.getElem?_eq_some_iff.1 k2).1
    have s1 := Ex.cellsL_nth k1
    have s2 := Ex.cellsL_nth k2
    have hc := sequalE_eq a (t2 a k3) b
    have w2 : IntKind.i64.wrap ((i : Int) + 1) = i + 1 := wrap64 (by omega) (by omega)
    rw [Ex.cells_eq] at s1 s2
    rw [Ex.cells_eq, Ex.cells_eq] at hc
    simp [H1, HX, r1, r3, s1, s2, hc, k4, w2]
theorem sequalP_eq : ∀ (p : Pn), p.thin → ∀ q : Pn, callA C0 74 [.i (.agg p.cells), .i (.agg q.cells)] [] = some (.bool (p.eqb q), []) := by
  intro p
  induction p using Pn.ind with
  | h k t es cs ks ih =>
    intro ht q
    exact sequalP_step ht fun a ha b => ih a ha (((Pn.thin_iff _).1 ht).2.2.2.2 a ha) b
end Go.Proofs.Yteihcffblfdgfaa.P

/- Copies of plans. No condition. -/
namespace Go.Proofs.Yteihcffblfdgfaa.P
open Go Go.Av
set_option maxRecDepth 4000
set_option maxHeartbeats 2000000
def KX (p : Pn) (i : Nat) : AS :=
  { env := [(0, .i (.agg [.int p.kind, .int p.table, .isl (Ex.cellsL p.exprs), .isl (intsL p.cols), .isl (Pn.cellsL p.kids)])), (1, .own 0 0), (2, .own 1 0), (3, .own 2 0), (4, .int i), (5, .junk), (19, jk i (.bool true)), (37, .junk)],
    st := some (.box [.int p.kind, .int p.table, .i (.isl (Ex.cellsL p.exprs)), .i (.isl (intsL p.cols)), .i (.isl (Pn.cellsL p.kids))]) :: some (.box [.int 0, .int 0, .nils, .nils, .nils]) ::
      some (.box [.int p.kind, .int p.table, gro 3 5 i, .osl (if i = 0 then 3 else 4) 1 0 p.cols.length, .nils]) :: (groB 5 (Ex.cellsL (p.exprs.take i)) i ++ [some (.arr 1 (intsL p.cols))]) }
def K2 (p : Pn) (i : Nat) : AS :=
  { env := [(0, .i (.agg [.int p.kind, .int p.table, .isl (Ex.cellsL p.exprs), .isl (intsL p.cols), .isl (Pn.cellsL p.kids)])), (1, .own 0 0), (2, .own 1 0), (3, .own 2 0), (4, .int p.exprs.length), (5, .int i), (19, .bool false), (37, jk i (.bool true))],
    st := some (.box [.int p.kind, .int p.table, .i (.isl (Ex.cellsL p.exprs)), .i (.isl (intsL p.cols)), .i (.isl (Pn.cellsL p.kids))]) :: some (.box [.int 0, .int 0, .nils, .nils, .nils]) ::
      some (.box [.int p.kind, .int p.table, gro 3 5 p.exprs.length, .osl (if p.exprs.length = 0 then 3 else 4) 1 0 p.cols.length, gro (if p.exprs.length = 0 then 4 else 5) 5 i]) :: (groB 5 (Ex.cellsL p.exprs) p.exprs.length ++ some (.arr 1 (intsL p.cols)) :: groB 5 (Pn.cellsL (p.kids.take i)) i) }
/-- A copy of a plan, its lists its own. -/
def pcX (p : Pn) : AV := .agg [.int p.kind, .int p.table, gro 0 5 p.exprs.length, .osl (if p.exprs.length = 0 then 0 else 1) 1 0 p.cols.length, gro (if p.exprs.length = 0 then 1 else 2) 5 p.kids.length]
def pcS (p : Pn) : StL := groB 5 (Ex.cellsL p.exprs) p.exprs.length ++ some (.arr 1 (intsL p.cols)) :: groB 5 (Pn.cellsL p.kids) p.kids.length
theorem copyPlan_step {p : Pn} (hp : p.thin) (ih : ∀ a ∈ p.kids, callA C0 64 [.i (.agg a.cells)] [] = some (pcX a, pcS a)) :
    callA C0 64 [.i (.agg p.cells)] [] = some (pcX p, pcS p) := by
  have ht := (Pn.thin_iff _).1 hp
  obtain ⟨t1, t2, t3, t4, -⟩ := ht
  rw [callA_eq rfl Try.func64 rfl rfl, Pn.cells_eq]
  by_cases hc : p.cols = []
  · simp [hc, intsL]
    rw [loop_to (KX p) p.exprs.length (by simp [KX, hc, intsL])]
    · rw [execA_loop]
      cases hn : p.exprs.length with
      | zero =>
        have he : p.exprs = [] := List.length_eq_zero_iff.1 hn
        simp [KX, he, hc, intsL, Ex.cellsL]
        rw [loop_to (K2 p) p.kids.length (by simp [K2, he, hc, intsL, Ex.cellsL])]
        · rw [execA_loop]
          cases hm : p.kids.length with
          | zero =>
            have hk : p.kids = [] := List.length_eq_zero_iff.1 hm
            simp [K2, he, hc, intsL, hk, Ex.cellsL, Pn.cellsL, pcX, pcS]
          | succ m =>
            have hk : p.kids.take (m + 1) = p.kids := List.take_of_length_le (by omega)
            simp [K2, he, hc, intsL, hm, hk, Ex.cellsL, pcX, pcS]
        · intro i hi
          have h3 := List.getElem?_eq_getElem hi
          have hc' := ih _ (List.mem_of_getElem? h3)
          have r2 := Pn.cellsL_nth h3
          generalize p.kids[i] = a at h3 hc' r2
          have w2 : IntKind.i64.wrap ((i : Int) + 1) = i + 1 := wrap64 (by omega) (by omega)
          rw [Pn.cells_eq] at r2 hc'
          simp only [pcX, pcS] at hc'
          have hl1 : (i + 1) * 88 ≤ 140737488355328 := by omega
          have hl2 : min i p.kids.length = i := by omega
          by_cases a1 : a.exprs = []
          · by_cases a2 : a.kids = []
            · simp [a1, a2, Ex.cellsL, Pn.cellsL] at hc' r2
              by_cases h0 : i = 0
              · subst h0; simp [K2, he, hc, intsL, hi, r2, hc', wrap_1, take_snoc h3, Ex.cellsL, Pn.cellsL, Pn.cells_eq a, a1, a2]
              · simp [K2, he, hc, intsL, gro_pos h0, groB_pos h0, jk_pos h0, hi, r2, hc', w2, take_snoc h3, Ex.cellsL, Pn.cellsL, Pn.cellsL_snoc, hl1, hl2, List.take_take, Pn.cells_eq a, h0, a1, a2]
            · have a2' : a.kids.length ≠ 0 := fun h => a2 (List.length_eq_zero_iff.1 h)
              simp [a1, gro_pos a2', groB_pos a2', a2, Ex.cellsL, Pn.cellsL] at hc' r2
              by_cases h0 : i = 0
              · subst h0; simp [K2, he, hc, intsL, hi, r2, hc', wrap_1, take_snoc h3, Ex.cellsL, Pn.cellsL, Pn.cells_eq a, a1, gro_pos a2', groB_pos a2', a2]
              · simp [K2, he, hc, intsL, gro_pos h0, groB_pos h0, jk_pos h0, hi, r2, hc', w2, take_snoc h3, Ex.cellsL, Pn.cellsL, Pn.cellsL_snoc, hl1, hl2, List.take_take, Pn.cells_eq a, h0, a1, gro_pos a2', groB_pos a2', a2]
          · by_cases a2 : a.kids = []
            · have a1' : a.exprs.length ≠ 0 := fun h => a1 (List.length_eq_zero_iff.1 h)
              simp [gro_pos a1', groB_pos a1', a1, a2, Ex.cellsL, Pn.cellsL] at hc' r2
              by_cases h0 : i = 0
              · subst h0; simp [K2, he, hc, intsL, hi, r2, hc', wrap_1, take_snoc h3, Ex.cellsL, Pn.cellsL, Pn.cells_eq a, gro_pos a1', groB_pos a1', a1, a2]
              · simp [K2, he, hc, intsL, gro_pos h0, groB_pos h0, jk_pos h0, hi, r2, hc', w2, take_snoc h3, Ex.cellsL, Pn.cellsL, Pn.cellsL_snoc, hl1, hl2, List.take_take, Pn.cells_eq a, h0, gro_pos a1', groB_pos a1', a1, a2]
            · have a1' : a.exprs.length ≠ 0 := fun h => a1 (List.length_eq_zero_iff.1 h)
              have a2' : a.kids.length ≠ 0 := fun h => a2 (List.length_eq_zero_iff.1 h)
              simp [gro_pos a1', groB_pos a1', a1, gro_pos a2', groB_pos a2', a2, Ex.cellsL, Pn.cellsL] at hc' r2
              by_cases h0 : i = 0
              · subst h0; simp [K2, he, hc, intsL, hi, r2, hc', wrap_1, take_snoc h3, Ex.cellsL, Pn.cellsL, Pn.cells_eq a, gro_pos a1', groB_pos a1', a1, gro_pos a2', groB_pos a2', a2]
              · simp [K2, he, hc, intsL, gro_pos h0, groB_pos h0, jk_pos h0, hi, r2, hc', w2, take_snoc h3, Ex.cellsL, Pn.cellsL, Pn.cellsL_snoc, hl1, hl2, List.take_take, Pn.cells_eq a, h0, gro_pos a1', groB_pos a1', a1, gro_pos a2', groB_pos a2', a2]
      | succ n =>
        have he : p.exprs.take (n + 1) = p.exprs := List.take_of_length_le (by omega)
        simp [KX, hn, he, hc, intsL]
        rw [loop_to (K2 p) p.kids.length (by simp [K2, hn, hc, intsL, Ex.cellsL])]
        · rw [execA_loop]
          cases hm : p.kids.length with
          | zero =>
            have hk : p.kids = [] := List.length_eq_zero_iff.1 hm
            simp [K2, hn, hc, intsL, hk, Ex.cellsL, Pn.cellsL, pcX, pcS]
          | succ m =>
            have hk : p.kids.take (m + 1) = p.kids := List.take_of_length_le (by omega)
            simp [K2, hn, hc, intsL, hm, hk, Ex.cellsL, pcX, pcS]
        · intro i hi
          have h3 := List.getElem?_eq_getElem hi
          have hc' := ih _ (List.mem_of_getElem? h3)
          have r2 := Pn.cellsL_nth h3
          generalize p.kids[i] = a at h3 hc' r2
          have w2 : IntKind.i64.wrap ((i : Int) + 1) = i + 1 := wrap64 (by omega) (by omega)
          rw [Pn.cells_eq] at r2 hc'
          simp only [pcX, pcS] at hc'
          have hl1 : (i + 1) * 88 ≤ 140737488355328 := by omega
          have hl2 : min i p.kids.length = i := by omega
          by_cases a1 : a.exprs = []
          · by_cases a2 : a.kids = []
            · simp [a1, a2, Ex.cellsL, Pn.cellsL] at hc' r2
              by_cases h0 : i = 0
              · subst h0; simp [K2, hn, hc, intsL, hi, r2, hc', wrap_1, take_snoc h3, Ex.cellsL, Pn.cellsL, Pn.cells_eq a, a1, a2]
              · simp [K2, hn, hc, intsL, gro_pos h0, groB_pos h0, jk_pos h0, hi, r2, hc', w2, take_snoc h3, Ex.cellsL, Pn.cellsL, Pn.cellsL_snoc, hl1, hl2, List.take_take, Pn.cells_eq a, h0, a1, a2]
            · have a2' : a.kids.length ≠ 0 := fun h => a2 (List.length_eq_zero_iff.1 h)
              simp [a1, gro_pos a2', groB_pos a2', a2, Ex.cellsL, Pn.cellsL] at hc' r2
              by_cases h0 : i = 0
              · subst h0; simp [K2, hn, hc, intsL, hi, r2, hc', wrap_1, take_snoc h3, Ex.cellsL, Pn.cellsL, Pn.cells_eq a, a1, gro_pos a2', groB_pos a2', a2]
              · simp [K2, hn, hc, intsL, gro_pos h0, groB_pos h0, jk_pos h0, hi, r2, hc', w2, take_snoc h3, Ex.cellsL, Pn.cellsL, Pn.cellsL_snoc, hl1, hl2, List.take_take, Pn.cells_eq a, h0, a1, gro_pos a2', groB_pos a2', a2]
          · by_cases a2 : a.kids = []
            · have a1' : a.exprs.length ≠ 0 := fun h => a1 (List.length_eq_zero_iff.1 h)
              simp [gro_pos a1', groB_pos a1', a1, a2, Ex.cellsL, Pn.cellsL] at hc' r2
              by_cases h0 : i = 0
              · subst h0; simp [K2, hn, hc, intsL, hi, r2, hc', wrap_1, take_snoc h3, Ex.cellsL, Pn.cellsL, Pn.cells_eq a, gro_pos a1', groB_pos a1', a1, a2]
              · simp [K2, hn, hc, intsL, gro_pos h0, groB_pos h0, jk_pos h0, hi, r2, hc', w2, take_snoc h3, Ex.cellsL, Pn.cellsL, Pn.cellsL_snoc, hl1, hl2, List.take_take, Pn.cells_eq a, h0, gro_pos a1', groB_pos a1', a1, a2]
            · have a1' : a.exprs.length ≠ 0 := fun h => a1 (List.length_eq_zero_iff.1 h)
              have a2' : a.kids.length ≠ 0 := fun h => a2 (List.length_eq_zero_iff.1 h)
              simp [gro_pos a1', groB_pos a1', a1, gro_pos a2', groB_pos a2', a2, Ex.cellsL, Pn.cellsL] at hc' r2
              by_cases h0 : i = 0
              · subst h0; simp [K2, hn, hc, intsL, hi, r2, hc', wrap_1, take_snoc h3, Ex.cellsL, Pn.cellsL, Pn.cells_eq a, gro_pos a1', groB_pos a1', a1, gro_pos a2', groB_pos a2', a2]
              · simp [K2, hn, hc, intsL, gro_pos h0, groB_pos h0, jk_pos h0, hi, r2, hc', w2, take_snoc h3, Ex.cellsL, Pn.cellsL, Pn.cellsL_snoc, hl1, hl2, List.take_take, Pn.cells_eq a, h0, gro_pos a1', groB_pos a1', a1, gro_pos a2', groB_pos a2', a2]
    · intro i hi
      have h3 := List.getElem?_eq_getElem hi
      have hc' := copyExpr_eq _ (t2 _ (List.mem_of_getElem? h3))
      have r2 := Ex.cellsL_nth h3
      generalize p.exprs[i] = a at h3 hc' r2
      have w2 : IntKind.i64.wrap ((i : Int) + 1) = i + 1 := wrap64 (by omega) (by omega)
      rw [Ex.cells_eq] at r2 hc'
      by_cases h0 : i = 0
      · subst h0; simp [KX, hc, intsL, hi, r2, hc', wrap_1, take_snoc h3, Ex.cellsL, Ex.cells_eq a]
      · simp [KX, hc, intsL, gro_pos h0, groB_pos h0, jk_pos h0, hi, r2, hc', w2, take_snoc h3, Ex.cellsL_snoc, show min i p.exprs.length = i by omega, show (i + 1) * 56 ≤ 140737488355328 by omega, List.take_take, Ex.cells_eq a, h0]
  simp [hc, show p.cols.length * 8 ≤ 140737488355328 by omega]
  rw [loop_to (KX p) p.exprs.length (by simp [KX, hc])]
  · rw [execA_loop]
    cases hn : p.exprs.length with
    | zero =>
      have he : p.exprs = [] := List.length_eq_zero_iff.1 hn
      simp [KX, he, hc, Ex.cellsL]
      rw [loop_to (K2 p) p.kids.length (by simp [K2, he, hc, Ex.cellsL])]
      · rw [execA_loop]
        cases hm : p.kids.length with
        | zero =>
          have hk : p.kids = [] := List.length_eq_zero_iff.1 hm
          simp [K2, he, hc, hk, Ex.cellsL, Pn.cellsL, pcX, pcS]
        | succ m =>
          have hk : p.kids.take (m + 1) = p.kids := List.take_of_length_le (by omega)
          simp [K2, he, hc, hm, hk, Ex.cellsL, pcX, pcS]
      · intro i hi
        have h3 := List.getElem?_eq_getElem hi
        have hc' := ih _ (List.mem_of_getElem? h3)
        have r2 := Pn.cellsL_nth h3
        generalize p.kids[i] = a at h3 hc' r2
        have w2 : IntKind.i64.wrap ((i : Int) + 1) = i + 1 := wrap64 (by omega) (by omega)
        rw [Pn.cells_eq] at r2 hc'
        simp only [pcX, pcS] at hc'
        have hl1 : (i + 1) * 88 ≤ 140737488355328 := by omega
        have hl2 : min i p.kids.length = i := by omega
        by_cases a1 : a.exprs = []
        · by_cases a2 : a.kids = []
          · simp [a1, a2, Ex.cellsL, Pn.cellsL] at hc' r2
            by_cases h0 : i = 0
            · subst h0; simp [K2, he, hc, hi, r2, hc', wrap_1, take_snoc h3, Ex.cellsL, Pn.cellsL, Pn.cells_eq a, a1, a2]
            · simp [K2, he, hc, gro_pos h0, groB_pos h0, jk_pos h0, hi, r2, hc', w2, take_snoc h3, Ex.cellsL, Pn.cellsL, Pn.cellsL_snoc, hl1, hl2, List.take_take, Pn.cells_eq a, h0, a1, a2]
          · have a2' : a.kids.length ≠ 0 := fun h => a2 (List.length_eq_zero_iff.1 h)
            simp [a1, gro_pos a2', groB_pos a2', a2, Ex.cellsL, Pn.cellsL] at hc' r2
            by_cases h0 : i = 0
            · subst h0; simp [K2, he, hc, hi, r2, hc', wrap_1, take_snoc h3, Ex.cellsL, Pn.cellsL, Pn.cells_eq a, a1, gro_pos a2', groB_pos a2', a2]
            · simp [K2, he, hc, gro_pos h0, groB_pos h0, jk_pos h0, hi, r2, hc', w2, take_snoc h3, Ex.cellsL, Pn.cellsL, Pn.cellsL_snoc, hl1, hl2, List.take_take, Pn.cells_eq a, h0, a1, gro_pos a2', groB_pos a2', a2]
        · by_cases a2 : a.kids = []
          · have a1' : a.exprs.length ≠ 0 := fun h => a1 (List.length_eq_zero_iff.1 h)
            simp [gro_pos a1', groB_pos a1', a1, a2, Ex.cellsL, Pn.cellsL] at hc' r2
            by_cases h0 : i = 0
            · subst h0; simp [K2, he, hc, hi, r2, hc', wrap_1, take_snoc h3, Ex.cellsL, Pn.cellsL, Pn.cells_eq a, gro_pos a1', groB_pos a1', a1, a2]
            · simp [K2, he, hc, gro_pos h0, groB_pos h0, jk_pos h0, hi, r2, hc', w2, take_snoc h3, Ex.cellsL, Pn.cellsL, Pn.cellsL_snoc, hl1, hl2, List.take_take, Pn.cells_eq a, h0, gro_pos a1', groB_pos a1', a1, a2]
          · have a1' : a.exprs.length ≠ 0 := fun h => a1 (List.length_eq_zero_iff.1 h)
            have a2' : a.kids.length ≠ 0 := fun h => a2 (List.length_eq_zero_iff.1 h)
            simp [gro_pos a1', groB_pos a1', a1, gro_pos a2', groB_pos a2', a2, Ex.cellsL, Pn.cellsL] at hc' r2
            by_cases h0 : i = 0
            · subst h0; simp [K2, he, hc, hi, r2, hc', wrap_1, take_snoc h3, Ex.cellsL, Pn.cellsL, Pn.cells_eq a, gro_pos a1', groB_pos a1', a1, gro_pos a2', groB_pos a2', a2]
            · simp [K2, he, hc, gro_pos h0, groB_pos h0, jk_pos h0, hi, r2, hc', w2, take_snoc h3, Ex.cellsL, Pn.cellsL, Pn.cellsL_snoc, hl1, hl2, List.take_take, Pn.cells_eq a, h0, gro_pos a1', groB_pos a1', a1, gro_pos a2', groB_pos a2', a2]
    | succ n =>
      have he : p.exprs.take (n + 1) = p.exprs := List.take_of_length_le (by omega)
      simp [KX, hn, he, hc]
      rw [loop_to (K2 p) p.kids.length (by simp [K2, hn, hc, Ex.cellsL])]
      · rw [execA_loop]
        cases hm : p.kids.length with
        | zero =>
          have hk : p.kids = [] := List.length_eq_zero_iff.1 hm
          simp [K2, hn, hc, hk, Ex.cellsL, Pn.cellsL, pcX, pcS]
        | succ m =>
          have hk : p.kids.take (m + 1) = p.kids := List.take_of_length_le (by omega)
          simp [K2, hn, hc, hm, hk, Ex.cellsL, pcX, pcS]
      · intro i hi
        have h3 := List.getElem?_eq_getElem hi
        have hc' := ih _ (List.mem_of_getElem? h3)
        have r2 := Pn.cellsL_nth h3
        generalize p.kids[i] = a at h3 hc' r2
        have w2 : IntKind.i64.wrap ((i : Int) + 1) = i + 1 := wrap64 (by omega) (by omega)
        rw [Pn.cells_eq] at r2 hc'
        simp only [pcX, pcS] at hc'
        have hl1 : (i + 1) * 88 ≤ 140737488355328 := by omega
        have hl2 : min i p.kids.length = i := by omega
        by_cases a1 : a.exprs = []
        · by_cases a2 : a.kids = []
          · simp [a1, a2, Ex.cellsL, Pn.cellsL] at hc' r2
            by_cases h0 : i = 0
            · subst h0; simp [K2, hn, hc, hi, r2, hc', wrap_1, take_snoc h3, Ex.cellsL, Pn.cellsL, Pn.cells_eq a, a1, a2]
            · simp [K2, hn, hc, gro_pos h0, groB_pos h0, jk_pos h0, hi, r2, hc', w2, take_snoc h3, Ex.cellsL, Pn.cellsL, Pn.cellsL_snoc, hl1, hl2, List.take_take, Pn.cells_eq a, h0, a1, a2]
          · have a2' : a.kids.length ≠ 0 := fun h => a2 (List.length_eq_zero_iff.1 h)
            simp [a1, gro_pos a2', groB_pos a2', a2, Ex.cellsL, Pn.cellsL] at hc' r2
            by_cases h0 : i = 0
            · subst h0; simp [K2, hn, hc, hi, r2, hc', wrap_1, take_snoc h3, Ex.cellsL, Pn.cellsL, Pn.cells_eq a, a1, gro_pos a2', groB_pos a2', a2]
            · simp [K2, hn, hc, gro_pos h0, groB_pos h0, jk_pos h0, hi, r2, hc', w2, take_snoc h3, Ex.cellsL, Pn.cellsL, Pn.cellsL_snoc, hl1, hl2, List.take_take, Pn.cells_eq a, h0, a1, gro_pos a2', groB_pos a2', a2]
        · by_cases a2 : a.kids = []
          · have a1' : a.exprs.length ≠ 0 := fun h => a1 (List.length_eq_zero_iff.1 h)
            simp [gro_pos a1', groB_pos a1', a1, a2, Ex.cellsL, Pn.cellsL] at hc' r2
            by_cases h0 : i = 0
            · subst h0; simp [K2, hn, hc, hi, r2, hc', wrap_1, take_snoc h3, Ex.cellsL, Pn.cellsL, Pn.cells_eq a, gro_pos a1', groB_pos a1', a1, a2]
            · simp [K2, hn, hc, gro_pos h0, groB_pos h0, jk_pos h0, hi, r2, hc', w2, take_snoc h3, Ex.cellsL, Pn.cellsL, Pn.cellsL_snoc, hl1, hl2, List.take_take, Pn.cells_eq a, h0, gro_pos a1', groB_pos a1', a1, a2]
          · have a1' : a.exprs.length ≠ 0 := fun h => a1 (List.length_eq_zero_iff.1 h)
            have a2' : a.kids.length ≠ 0 := fun h => a2 (List.length_eq_zero_iff.1 h)
            simp [gro_pos a1', groB_pos a1', a1, gro_pos a2', groB_pos a2', a2, Ex.cellsL, Pn.cellsL] at hc' r2
            by_cases h0 : i = 0
            · subst h0; simp [K2, hn, hc, hi, r2, hc', wrap_1, take_snoc h3, Ex.cellsL, Pn.cellsL, Pn.cells_eq a, gro_pos a1', groB_pos a1', a1, gro_pos a2', groB_pos a2', a2]
            · simp [K2, hn, hc, gro_pos h0, groB_pos h0, jk_pos h0, hi, r2, hc', w2, take_snoc h3, Ex.cellsL, Pn.cellsL, Pn.cellsL_snoc, hl1, hl2, List.take_take, Pn.cells_eq a, h0, gro_pos a1', groB_pos a1', a1, gro_pos a2', groB_pos a2', a2]
  · intro i hi
    have h3 := List.getElem?_eq_getElem hi
    have hc' := copyExpr_eq _ (t2 _ (List.mem_of_getElem? h3))
    have r2 := Ex.cellsL_nth h3
    generalize p.exprs[i] = a at h3 hc' r2
    have w2 : IntKind.i64.wrap ((i : Int) + 1) = i + 1 := wrap64 (by omega) (by omega)
    rw [Ex.cells_eq] at r2 hc'
    by_cases h0 : i = 0
    · subst h0; simp [KX, hc, hi, r2, hc', wrap_1, take_snoc h3, Ex.cellsL, Ex.cells_eq a]
    · simp [KX, hc, gro_pos h0, groB_pos h0, jk_pos h0, hi, r2, hc', w2, take_snoc h3, Ex.cellsL_snoc, show min i p.exprs.length = i by omega, show (i + 1) * 56 ≤ 140737488355328 by omega, List.take_take, Ex.cells_eq a, h0]
theorem copyPlan_eq : ∀ (p : Pn), p.thin → callA C0 64 [.i (.agg p.cells)] [] = some (pcX p, pcS p) := by
  intro p
  induction p using Pn.ind with
  | h k t es cs ks ih =>
    intro ht
    exact copyPlan_step ht fun a ha => ih a ha (((Pn.thin_iff _).1 ht).2.2.2.2 a ha)
end Go.Proofs.Yteihcffblfdgfaa.P

/- The closure of FoldView. No condition. -/
namespace Go.Proofs.Yteihcffblfdgfaa.P
open Go Go.Av
set_option maxRecDepth 4000
set_option maxHeartbeats 2000000
/-- The box of the view, once it has been looked at or not. -/
def vB (x : Bool) (v : Pn) : Option Blk := if x = true then some (.fbox v.cells) else some (.box (impI v.cells))
@[simp] theorem idsOfB_vB (x : Bool) (v : Pn) : idsOfB (vB x v) = [] := by cases x <;> simp [vB, Pn.cells_eq]
@[simp] theorem renB_vB (r : Nat → Option Nat) (x : Bool) (v : Pn) : renB r (vB x v) = vB x v := by cases x <;> simp [vB, Pn.cells_eq]
@[simp] theorem liveO_vB (x : Bool) (v : Pn) : liveO (vB x v) = true := by cases x <;> rfl
def Fst (x : Bool) (v : Pn) (n : Nat) (t : Int) : StL := [vB x v, some (.box [.int n]), some (.box [.int t])]
theorem fold1_eq {p v : Pn} (hp : p.thin) {x : Bool} {n : Nat} {t : Int} (hn : n < 1000000000000) : callA C0 29 [.i (.iref p.cells), .own 0 0, .own 1 0, .own 2 0] (Fst x v n t) =
    some (.tup [.i (.agg (if p.eqb v = true then Pn.scan t else Pn.zero).cells), .bool (p.eqb v)], Fst true v (n + if p.eqb v = true then 1 else 0) t) := by
  have he := equalP_eq p hp v
  have w2 : IntKind.i64.wrap ((n : Int) + 1) = n + 1 := wrap64 (by omega) (by omega)
  rw [callA_eq rfl Try.func29 rfl rfl]
  cases hv : p.eqb v with
  | true =>
    rw [hv] at he
    rw [Pn.cells_eq p, Pn.cells_eq v] at he
    cases x <;> (simp [Fst, vB, Pn.cells_eq p, Pn.cells_eq v, he, w2, Pn.scan, Pn.cells, Ex.cellsL, intsL, Pn.cellsL])
  | false =>
    rw [hv] at he
    rw [Pn.cells_eq p, Pn.cells_eq v] at he
    cases x <;> (simp [Fst, vB, Pn.cells_eq p, Pn.cells_eq v, he, w2, Pn.zero, Pn.cells, Ex.cellsL, intsL, Pn.cellsL])
theorem copiedEs_nil : callA C0 68 [.i (.isl [])] [] = some (.nils, []) := by
  rw [callA_eq rfl Try.func68 rfl rfl]
  simp
theorem copiedEs_eq {ks : List Ex} (h : ks ≠ []) (hl : ks.length < 1000000000) : callA C0 68 [.i (.isl (Ex.cellsL ks))] [] = some (.osl 0 5 0 ks.length, [some (.arr 5 (Ex.cellsL ks))]) := by
  rw [callA_eq rfl Try.func68 rfl rfl]
  have h1 : 56 * (ks.length : Int) ≤ 281474976710656 := by omega
  simp [h, h1]
  unfold over
  simp
theorem copiedIs_nil : callA C0 69 [.i (.isl [])] [] = some (.nils, []) := by
  rw [callA_eq rfl Try.func69 rfl rfl]
  simp
theorem copiedIs_eq {l : List Int} (h : l ≠ []) (hl : l.length < 1000000000) : callA C0 69 [.i (.isl (intsL l))] [] = some (.osl 0 1 0 l.length, [some (.arr 1 (intsL l))]) := by
  rw [callA_eq rfl Try.func69 rfl rfl]
  have h1 : 8 * (l.length : Int) ≤ 281474976710656 := by omega
  simp [h, h1]
  unfold over
  simp
theorem copyE_call {e : Ex} {es : List (List IV)} {j : Nat} (h : e.size < 1000000000) (he : nthE es j = some e.cells) : callA C0 70 [.ownE 0 5 j 0] [some (.arr 5 es)] = some (.i (.agg e.cells), [some (.arr 5 es)]) := by
  rw [callA_prim (p := copyE) rfl]; exact copyE_row h (by rw [← nthE_eq]; exact he)
end Go.Proofs.Yteihcffblfdgfaa.P

/- A view folded: withParts with the closure of FoldView. No condition. -/
namespace Go.Proofs.Yteihcffblfdgfaa.P
open Go Go.Av
set_option maxRecDepth 4000
set_option maxHeartbeats 4000000
theorem withF_hit {p v : Pn} (hp : p.thin) {x : Bool} {n : Nat} {t : Int} (hn : n < 1000000000000) (hh : p.eqb v = true) : callA C0 28 [.i (.iref p.cells), .fn (.func 29) [.own 0 0, .own 1 0, .own 2 0]] (Fst x v n t) = some (.i (.agg (Pn.scan t).cells), Fst true v (n + 1) t) := by
  have hf := fold1_eq (x := x) (t := t) hp hn (v := v)
  simp only [hh, if_true, Fst] at hf
  rw [callA_eq rfl Try.func28 rfl rfl]
  simp [Fst, hf, Pn.scan, Pn.cells, Ex.cellsL, intsL, Pn.cellsL]
def WX11 (p v : Pn) (n : Nat) (t : Int) (i : Nat) : AS :=
  { env := [(0, .i (.iref [.int p.kind, .int p.table, .isl (Ex.cellsL p.exprs), .isl (intsL p.cols), .isl (Pn.cellsL p.kids)])), (1, .fn (.func 29) [.own 0 0, .own 1 0, .own 2 0]), (4, .own 3 0), (5, .own 4 0), (6, .bool false), (7, .own 5 0), (8, jk i (.int (i - 1))), (9, .junk), (16, .bool false), (39, .int p.exprs.length), (40, .int i), (41, jk i (.bool true)), (57, .junk), (58, .junk), (59, .junk)],
    st := vB true v :: some (.box [.int n]) :: some (.box [.int t]) :: some (.box [.int 0, .int 0, .nils, .nils, .nils]) :: some (.box [.int 0, .int 0, .i (.isl []), .i (.isl []), .i (.isl [])]) :: some (.box [.int p.kind, .int p.table, .osl 6 5 0 p.exprs.length, .osl 7 1 0 p.cols.length, .nils]) :: some (.arr 5 (Ex.cellsL p.exprs)) :: some (.arr 1 (intsL p.cols)) :: [] }
def WY11 (p v : Pn) (n : Nat) (t : Int) (i : Nat) : AS :=
  { env := [(0, .i (.iref [.int p.kind, .int p.table, .isl (Ex.cellsL p.exprs), .isl (intsL p.cols), .isl (Pn.cellsL p.kids)])), (1, .fn (.func 29) [.own 0 0, .own 1 0, .own 2 0]), (4, .own 3 0), (5, .own 4 0), (6, .bool false), (7, .own 5 0), (8, .int (p.exprs.length - 1)), (9, jk i (.int (i - 1))), (16, .bool false), (39, .int p.exprs.length), (40, .int p.exprs.length), (41, .bool false), (57, .int p.kids.length), (58, .int i), (59, jk i (.bool true))],
    st := vB true v :: some (.box [.int ((n + cntPL v (p.kids.take i) : Nat) : Int)]) :: some (.box [.int t]) :: some (.box [.int 0, .int 0, .nils, .nils, .nils]) :: some (.box [.int 0, .int 0, .i (.isl []), .i (.isl []), .i (.isl [])]) :: some (.box [.int p.kind, .int p.table, .osl 6 5 0 p.exprs.length, .osl 7 1 0 p.cols.length, gro 8 5 i]) :: some (.arr 5 (Ex.cellsL p.exprs)) :: some (.arr 1 (intsL p.cols)) :: (groB 5 (Pn.cellsL (foldPL v t (p.kids.take i))) i) }
theorem withF_miss11 {p v : Pn} (hp : p.thin) (hq : ∀ e ∈ p.exprs, e.size < 1000000000) (he : p.exprs ≠ []) (hc : p.cols ≠ []) {x : Bool} {n : Nat} {t : Int} (hn : n + cntPL v p.kids < 1000000000000) (hh : p.eqb v = false)
    (ih : ∀ a ∈ p.kids, ∀ m : Nat, m + cntP v a < 1000000000000 → callA C0 28 [.i (.iref a.cells), .fn (.func 29) [.own 0 0, .own 1 0, .own 2 0]] (Fst true v m t) = some (.i (.agg (foldP v t a).cells), Fst true v (m + cntP v a) t)) :
    callA C0 28 [.i (.iref p.cells), .fn (.func 29) [.own 0 0, .own 1 0, .own 2 0]] (Fst x v n t) = some (.i (.agg (foldP v t p).cells), Fst true v (n + cntP v p) t) := by
  have hf := fold1_eq (x := x) (t := t) hp (show n < 1000000000000 by omega) (v := v)
  simp only [hh, if_false, Fst, Bool.false_eq_true, Pn.zero, Pn.cells, Ex.cellsL, intsL, Pn.cellsL, Nat.add_zero] at hf
  obtain ⟨t1, t2, t3, t4, -⟩ := (Pn.thin_iff _).1 hp
  rw [Pn.cells_eq] at hf
  have hE := copiedEs_eq he t1
  have hel : p.exprs.length ≠ 0 := fun h => he (List.length_eq_zero_iff.1 h)
  have hI := copiedIs_eq hc t3
  have hcl : p.cols.length ≠ 0 := fun h => hc (List.length_eq_zero_iff.1 h)
  rw [callA_eq rfl Try.func28 rfl rfl, foldP_miss hh, cntP_miss hh, Pn.cells_mk, Pn.cells_eq]
  simp [Fst, hf, hE, hI]
  rw [loop_to (WX11 p v n t) p.exprs.length (by simp [WX11])]
  · rw [execA_loop]
    simp [WX11]
    rw [loop_to (WY11 p v n t) p.kids.length (by simp [WY11, cntPL, jk_pos hel])]
    · rw [execA_loop]
      cases hm : p.kids.length with
      | zero =>
        have hk : p.kids = [] := List.length_eq_zero_iff.1 hm
        simp [WY11, hk, foldPL, cntPL, Pn.cellsL]
      | succ m =>
        have hk : p.kids.take (m + 1) = p.kids := List.take_of_length_le (by omega)
        have hk2 : (foldPL v t p.kids).take (m + 1) = foldPL v t p.kids := List.take_of_length_le (by simp; omega)
        simp [WY11, hm, hk, hk2]
    · intro i hi
      have h3 := List.getElem?_eq_getElem hi
      have hm := List.mem_of_getElem? h3
      have r2 := Pn.cellsL_nth h3
      have htk := take_snoc h3
      generalize p.kids[i] = a at h3 hm r2 htk
      have hle : cntPL v (p.kids.take i) + cntP v a ≤ cntPL v p.kids := by
        rw [← cntPL_snoc, ← htk]; exact cntPL_take v _ _
      have hk := ih a hm (n + cntPL v (p.kids.take i)) (by omega)
      have w2 : IntKind.i64.wrap ((i : Int) + 1) = i + 1 := wrap64 (by omega) (by omega)
      rw [Pn.cells_eq a] at r2 hk
      rw [Pn.cells_eq] at hk
      simp only [Fst] at hk
      have hl1 : (i + 1) * 88 ≤ 140737488355328 := by omega
      have hl2 : min i p.kids.length = i := by omega
      have hl3 : (foldPL v t (p.kids.take i)).take i = foldPL v t (p.kids.take i) := List.take_of_length_le (by simp; omega)
      by_cases h0 : i = 0
      · subst h0; simp only [List.take_zero, cntPL, Nat.add_zero, Int.natCast_add] at hk; simp [WY11, hi, r2, hk, wrap_1, htk, foldPL_snoc, cntPL_snoc, Pn.cellsL_snoc, Pn.cells_eq (foldP v t a), foldPL, cntPL, Pn.cellsL]
      · simp only [Int.natCast_add] at hk; simp [WY11, gro_pos h0, groB_pos h0, jk_pos h0, hi, r2, hk, w2, htk, foldPL_snoc, cntPL_snoc, Pn.cellsL_snoc, hl1, hl2, List.take_take, Pn.cells_eq (foldP v t a), h0, hl3, Int.add_assoc]
  · intro i hi
    have h3 := List.getElem?_eq_getElem hi
    have hs := hq _ (List.mem_of_getElem? h3)
    have r2 := Ex.cellsL_nth h3
    generalize p.exprs[i] = a at h3 hs r2
    have hk := copyE_call hs r2
    have hput := Ex.cellsL_set h3
    have w2 : IntKind.i64.wrap ((i : Int) + 1) = i + 1 := wrap64 (by omega) (by omega)
    rw [Ex.cells_eq] at r2 hk hput
    simp [WX11, hi, r2, hk, w2, hput]
def WX10 (p v : Pn) (n : Nat) (t : Int) (i : Nat) : AS :=
  { env := [(0, .i (.iref [.int p.kind, .int p.table, .isl (Ex.cellsL p.exprs), .isl (intsL p.cols), .isl (Pn.cellsL p.kids)])), (1, .fn (.func 29) [.own 0 0, .own 1 0, .own 2 0]), (4, .own 3 0), (5, .own 4 0), (6, .bool false), (7, .own 5 0), (8, jk i (.int (i - 1))), (9, .junk), (16, .bool false), (39, .int p.exprs.length), (40, .int i), (41, jk i (.bool true)), (57, .junk), (58, .junk), (59, .junk)],
    st := vB true v :: some (.box [.int n]) :: some (.box [.int t]) :: some (.box [.int 0, .int 0, .nils, .nils, .nils]) :: some (.box [.int 0, .int 0, .i (.isl []), .i (.isl []), .i (.isl [])]) :: some (.box [.int p.kind, .int p.table, .osl 6 5 0 p.exprs.length, .nils, .nils]) :: some (.arr 5 (Ex.cellsL p.exprs)) :: [] }
def WY10 (p v : Pn) (n : Nat) (t : Int) (i : Nat) : AS :=
  { env := [(0, .i (.iref [.int p.kind, .int p.table, .isl (Ex.cellsL p.exprs), .isl (intsL p.cols), .isl (Pn.cellsL p.kids)])), (1, .fn (.func 29) [.own 0 0, .own 1 0, .own 2 0]), (4, .own 3 0), (5, .own 4 0), (6, .bool false), (7, .own 5 0), (8, .int (p.exprs.length - 1)), (9, jk i (.int (i - 1))), (16, .bool false), (39, .int p.exprs.length), (40, .int p.exprs.length), (41, .bool false), (57, .int p.kids.length), (58, .int i), (59, jk i (.bool true))],
    st := vB true v :: some (.box [.int ((n + cntPL v (p.kids.take i) : Nat) : Int)]) :: some (.box [.int t]) :: some (.box [.int 0, .int 0, .nils, .nils, .nils]) :: some (.box [.int 0, .int 0, .i (.isl []), .i (.isl []), .i (.isl [])]) :: some (.box [.int p.kind, .int p.table, .osl 6 5 0 p.exprs.length, .nils, gro 7 5 i]) :: some (.arr 5 (Ex.cellsL p.exprs)) :: (groB 5 (Pn.cellsL (foldPL v t (p.kids.take i))) i) }
theorem withF_miss10 {p v : Pn} (hp : p.thin) (hq : ∀ e ∈ p.exprs, e.size < 1000000000) (he : p.exprs ≠ []) (hc : p.cols = []) {x : Bool} {n : Nat} {t : Int} (hn : n + cntPL v p.kids < 1000000000000) (hh : p.eqb v = false)
    (ih : ∀ a ∈ p.kids, ∀ m : Nat, m + cntP v a < 1000000000000 → callA C0 28 [.i (.iref a.cells), .fn (.func 29) [.own 0 0, .own 1 0, .own 2 0]] (Fst true v m t) = some (.i (.agg (foldP v t a).cells), Fst true v (m + cntP v a) t)) :
    callA C0 28 [.i (.iref p.cells), .fn (.func 29) [.own 0 0, .own 1 0, .own 2 0]] (Fst x v n t) = some (.i (.agg (foldP v t p).cells), Fst true v (n + cntP v p) t) := by
  have hf := fold1_eq (x := x) (t := t) hp (show n < 1000000000000 by omega) (v := v)
  simp only [hh, if_false, Fst, Bool.false_eq_true, Pn.zero, Pn.cells, Ex.cellsL, intsL, Pn.cellsL, Nat.add_zero] at hf
  obtain ⟨t1, t2, t3, t4, -⟩ := (Pn.thin_iff _).1 hp
  rw [Pn.cells_eq] at hf
  have hE := copiedEs_eq he t1
  have hel : p.exprs.length ≠ 0 := fun h => he (List.length_eq_zero_iff.1 h)
  have hI := copiedIs_nil
  rw [callA_eq rfl Try.func28 rfl rfl, foldP_miss hh, cntP_miss hh, Pn.cells_mk, Pn.cells_eq]
  simp only [hc, intsL] at hf
  simp [Fst, hf, hE, hI, hc, intsL]
  rw [loop_to (WX10 p v n t) p.exprs.length (by simp [WX10, hc, intsL])]
  · rw [execA_loop]
    simp [WX10, hc, intsL]
    rw [loop_to (WY10 p v n t) p.kids.length (by simp [WY10, cntPL, hc, intsL, jk_pos hel])]
    · rw [execA_loop]
      cases hm : p.kids.length with
      | zero =>
        have hk : p.kids = [] := List.length_eq_zero_iff.1 hm
        simp [WY10, hk, foldPL, cntPL, Pn.cellsL, hc, intsL]
      | succ m =>
        have hk : p.kids.take (m + 1) = p.kids := List.take_of_length_le (by omega)
        have hk2 : (foldPL v t p.kids).take (m + 1) = foldPL v t p.kids := List.take_of_length_le (by simp; omega)
        simp [WY10, hm, hk, hk2, hc, intsL]
    · intro i hi
      have h3 := List.getElem?_eq_getElem hi
      have hm := List.mem_of_getElem? h3
      have r2 := Pn.cellsL_nth h3
      have htk := take_snoc h3
      generalize p.kids[i] = a at h3 hm r2 htk
      have hle : cntPL v (p.kids.take i) + cntP v a ≤ cntPL v p.kids := by
        rw [← cntPL_snoc, ← htk]; exact cntPL_take v _ _
      have hk := ih a hm (n + cntPL v (p.kids.take i)) (by omega)
      have w2 : IntKind.i64.wrap ((i : Int) + 1) = i + 1 := wrap64 (by omega) (by omega)
      rw [Pn.cells_eq a] at r2 hk
      rw [Pn.cells_eq] at hk
      simp only [Fst] at hk
      have hl1 : (i + 1) * 88 ≤ 140737488355328 := by omega
      have hl2 : min i p.kids.length = i := by omega
      have hl3 : (foldPL v t (p.kids.take i)).take i = foldPL v t (p.kids.take i) := List.take_of_length_le (by simp; omega)
      by_cases h0 : i = 0
      · subst h0; simp only [List.take_zero, cntPL, Nat.add_zero, Int.natCast_add] at hk; simp [WY10, hi, r2, hk, wrap_1, htk, foldPL_snoc, cntPL_snoc, Pn.cellsL_snoc, Pn.cells_eq (foldP v t a), foldPL, cntPL, Pn.cellsL, hc, intsL]
      · simp only [Int.natCast_add] at hk; simp [WY10, gro_pos h0, groB_pos h0, jk_pos h0, hi, r2, hk, w2, htk, foldPL_snoc, cntPL_snoc, Pn.cellsL_snoc, hl1, hl2, List.take_take, Pn.cells_eq (foldP v t a), h0, hl3, Int.add_assoc, hc, intsL]
  · intro i hi
    have h3 := List.getElem?_eq_getElem hi
    have hs := hq _ (List.mem_of_getElem? h3)
    have r2 := Ex.cellsL_nth h3
    generalize p.exprs[i] = a at h3 hs r2
    have hk := copyE_call hs r2
    have hput := Ex.cellsL_set h3
    have w2 : IntKind.i64.wrap ((i : Int) + 1) = i + 1 := wrap64 (by omega) (by omega)
    rw [Ex.cells_eq] at r2 hk hput
    simp [WX10, hi, r2, hk, w2, hput, hc, intsL]
def WY01 (p v : Pn) (n : Nat) (t : Int) (i : Nat) : AS :=
  { env := [(0, .i (.iref [.int p.kind, .int p.table, .isl (Ex.cellsL p.exprs), .isl (intsL p.cols), .isl (Pn.cellsL p.kids)])), (1, .fn (.func 29) [.own 0 0, .own 1 0, .own 2 0]), (4, .own 3 0), (5, .own 4 0), (6, .bool false), (7, .own 5 0), (8, .junk), (9, jk i (.int (i - 1))), (16, .bool false), (39, .int p.exprs.length), (40, .int p.exprs.length), (41, .bool false), (57, .int p.kids.length), (58, .int i), (59, jk i (.bool true))],
    st := vB true v :: some (.box [.int ((n + cntPL v (p.kids.take i) : Nat) : Int)]) :: some (.box [.int t]) :: some (.box [.int 0, .int 0, .nils, .nils, .nils]) :: some (.box [.int 0, .int 0, .i (.isl []), .i (.isl []), .i (.isl [])]) :: some (.box [.int p.kind, .int p.table, .nils, .osl 6 1 0 p.cols.length, gro 7 5 i]) :: some (.arr 1 (intsL p.cols)) :: (groB 5 (Pn.cellsL (foldPL v t (p.kids.take i))) i) }
theorem withF_miss01 {p v : Pn} (hp : p.thin) (hq : ∀ e ∈ p.exprs, e.size < 1000000000) (he : p.exprs = []) (hc : p.cols ≠ []) {x : Bool} {n : Nat} {t : Int} (hn : n + cntPL v p.kids < 1000000000000) (hh : p.eqb v = false)
    (ih : ∀ a ∈ p.kids, ∀ m : Nat, m + cntP v a < 1000000000000 → callA C0 28 [.i (.iref a.cells), .fn (.func 29) [.own 0 0, .own 1 0, .own 2 0]] (Fst true v m t) = some (.i (.agg (foldP v t a).cells), Fst true v (m + cntP v a) t)) :
    callA C0 28 [.i (.iref p.cells), .fn (.func 29) [.own 0 0, .own 1 0, .own 2 0]] (Fst x v n t) = some (.i (.agg (foldP v t p).cells), Fst true v (n + cntP v p) t) := by
  have hf := fold1_eq (x := x) (t := t) hp (show n < 1000000000000 by omega) (v := v)
  simp only [hh, if_false, Fst, Bool.false_eq_true, Pn.zero, Pn.cells, Ex.cellsL, intsL, Pn.cellsL, Nat.add_zero] at hf
  obtain ⟨t1, t2, t3, t4, -⟩ := (Pn.thin_iff _).1 hp
  rw [Pn.cells_eq] at hf
  have hE := copiedEs_nil
  have hI := copiedIs_eq hc t3
  have hcl : p.cols.length ≠ 0 := fun h => hc (List.length_eq_zero_iff.1 h)
  rw [callA_eq rfl Try.func28 rfl rfl, foldP_miss hh, cntP_miss hh, Pn.cells_mk, Pn.cells_eq]
  simp only [he, Ex.cellsL] at hf
  simp [Fst, hf, hE, hI, he, Ex.cellsL]
  rw [execA_loop]
  simp
  rw [loop_to (WY01 p v n t) p.kids.length (by simp [WY01, cntPL, he, Ex.cellsL])]
  · rw [execA_loop]
    cases hm : p.kids.length with
    | zero =>
      have hk : p.kids = [] := List.length_eq_zero_iff.1 hm
      simp [WY01, hk, foldPL, cntPL, Pn.cellsL, he, Ex.cellsL]
    | succ m =>
      have hk : p.kids.take (m + 1) = p.kids := List.take_of_length_le (by omega)
      have hk2 : (foldPL v t p.kids).take (m + 1) = foldPL v t p.kids := List.take_of_length_le (by simp; omega)
      simp [WY01, hm, hk, hk2, he, Ex.cellsL]
  · intro i hi
    have h3 := List.getElem?_eq_getElem hi
    have hm := List.mem_of_getElem? h3
    have r2 := Pn.cellsL_nth h3
    have htk := take_snoc h3
    generalize p.kids[i] = a at h3 hm r2 htk
    have hle : cntPL v (p.kids.take i) + cntP v a ≤ cntPL v p.kids := by
      rw [← cntPL_snoc, ← htk]; exact cntPL_take v _ _
    have hk := ih a hm (n + cntPL v (p.kids.take i)) (by omega)
    have w2 : IntKind.i64.wrap ((i : Int) + 1) = i + 1 := wrap64 (by omega) (by omega)
    rw [Pn.cells_eq a] at r2 hk
    rw [Pn.cells_eq] at hk
    simp only [Fst] at hk
    have hl1 : (i + 1) * 88 ≤ 140737488355328 := by omega
    have hl2 : min i p.kids.length = i := by omega
    have hl3 : (foldPL v t (p.kids.take i)).take i = foldPL v t (p.kids.take i) := List.take_of_length_le (by simp; omega)
    by_cases h0 : i = 0
    · subst h0; simp only [List.take_zero, cntPL, Nat.add_zero, Int.natCast_add] at hk; simp [WY01, hi, r2, hk, wrap_1, htk, foldPL_snoc, cntPL_snoc, Pn.cellsL_snoc, Pn.cells_eq (foldP v t a), foldPL, cntPL, Pn.cellsL, he, Ex.cellsL]
    · simp only [Int.natCast_add] at hk; simp [WY01, gro_pos h0, groB_pos h0, jk_pos h0, hi, r2, hk, w2, htk, foldPL_snoc, cntPL_snoc, Pn.cellsL_snoc, hl1, hl2, List.take_take, Pn.cells_eq (foldP v t a), h0, hl3, Int.add_assoc, he, Ex.cellsL]
def WY00 (p v : Pn) (n : Nat) (t : Int) (i : Nat) : AS :=
  { env := [(0, .i (.iref [.int p.kind, .int p.table, .isl (Ex.cellsL p.exprs), .isl (intsL p.cols), .isl (Pn.cellsL p.kids)])), (1, .fn (.func 29) [.own 0 0, .own 1 0, .own 2 0]), (4, .own 3 0), (5, .own 4 0), (6, .bool false), (7, .own 5 0), (8, .junk), (9, jk i (.int (i - 1))), (16, .bool false), (39, .int p.exprs.length), (40, .int p.exprs.length), (41, .bool false), (57, .int p.kids.length), (58, .int i), (59, jk i (.bool true))],
    st := vB true v :: some (.box [.int ((n + cntPL v (p.kids.take i) : Nat) : Int)]) :: some (.box [.int t]) :: some (.box [.int 0, .int 0, .nils, .nils, .nils]) :: some (.box [.int 0, .int 0, .i (.isl []), .i (.isl []), .i (.isl [])]) :: some (.box [.int p.kind, .int p.table, .nils, .nils, gro 6 5 i]) :: (groB 5 (Pn.cellsL (foldPL v t (p.kids.take i))) i) }
theorem withF_miss00 {p v : Pn} (hp : p.thin) (hq : ∀ e ∈ p.exprs, e.size < 1000000000) (he : p.exprs = []) (hc : p.cols = []) {x : Bool} {n : Nat} {t : Int} (hn : n + cntPL v p.kids < 1000000000000) (hh : p.eqb v = false)
    (ih : ∀ a ∈ p.kids, ∀ m : Nat, m + cntP v a < 1000000000000 → callA C0 28 [.i (.iref a.cells), .fn (.func 29) [.own 0 0, .own 1 0, .own 2 0]] (Fst true v m t) = some (.i (.agg (foldP v t a).cells), Fst true v (m + cntP v a) t)) :
    callA C0 28 [.i (.iref p.cells), .fn (.func 29) [.own 0 0, .own 1 0, .own 2 0]] (Fst x v n t) = some (.i (.agg (foldP v t p).cells), Fst true v (n + cntP v p) t) := by
  have hf := fold1_eq (x := x) (t := t) hp (show n < 1000000000000 by omega) (v := v)
  simp only [hh, if_false, Fst, Bool.false_eq_true, Pn.zero, Pn.cells, Ex.cellsL, intsL, Pn.cellsL, Nat.add_zero] at hf
  obtain ⟨t1, t2, t3, t4, -⟩ := (Pn.thin_iff _).1 hp
  rw [Pn.cells_eq] at hf
  have hE := copiedEs_nil
  have hI := copiedIs_nil
  rw [callA_eq rfl Try.func28 rfl rfl, foldP_miss hh, cntP_miss hh, Pn.cells_mk, Pn.cells_eq]
  simp only [he, Ex.cellsL, hc, intsL] at hf
  simp [Fst, hf, hE, hI, he, Ex.cellsL, hc, intsL]
  rw [execA_loop]
  simp
  rw [loop_to (WY00 p v n t) p.kids.length (by simp [WY00, cntPL, he, Ex.cellsL, hc, intsL])]
  · rw [execA_loop]
    cases hm : p.kids.length with
    | zero =>
      have hk : p.kids = [] := List.length_eq_zero_iff.1 hm
      simp [WY00, hk, foldPL, cntPL, Pn.cellsL, he, Ex.cellsL, hc, intsL]
    | succ m =>
      have hk : p.kids.take (m + 1) = p.kids := List.take_of_length_le (by omega)
      have hk2 : (foldPL v t p.kids).take (m + 1) = foldPL v t p.kids := List.take_of_length_le (by simp; omega)
      simp [WY00, hm, hk, hk2, he, Ex.cellsL, hc, intsL]
  · intro i hi
    have h3 := List.getElem?_eq_getElem hi
    have hm := List.mem_of_getElem? h3
    have r2 := Pn.cellsL_nth h3
    have htk := take_snoc h3
    generalize p.kids[i] = a at h3 hm r2 htk
    have hle : cntPL v (p.kids.take i) + cntP v a ≤ cntPL v p.kids := by
      rw [← cntPL_snoc, ← htk]; exact cntPL_take v _ _
    have hk := ih a hm (n + cntPL v (p.kids.take i)) (by omega)
    have w2 : IntKind.i64.wrap ((i : Int) + 1) = i + 1 := wrap64 (by omega) (by omega)
    rw [Pn.cells_eq a] at r2 hk
    rw [Pn.cells_eq] at hk
    simp only [Fst] at hk
    have hl1 : (i + 1) * 88 ≤ 140737488355328 := by omega
    have hl2 : min i p.kids.length = i := by omega
    have hl3 : (foldPL v t (p.kids.take i)).take i = foldPL v t (p.kids.take i) := List.take_of_length_le (by simp; omega)
    by_cases h0 : i = 0
    · subst h0; simp only [List.take_zero, cntPL, Nat.add_zero, Int.natCast_add] at hk; simp [WY00, hi, r2, hk, wrap_1, htk, foldPL_snoc, cntPL_snoc, Pn.cellsL_snoc, Pn.cells_eq (foldP v t a), foldPL, cntPL, Pn.cellsL, he, Ex.cellsL, hc, intsL]
    · simp only [Int.natCast_add] at hk; simp [WY00, gro_pos h0, groB_pos h0, jk_pos h0, hi, r2, hk, w2, htk, foldPL_snoc, cntPL_snoc, Pn.cellsL_snoc, hl1, hl2, List.take_take, Pn.cells_eq (foldP v t a), h0, hl3, Int.add_assoc, he, Ex.cellsL, hc, intsL]
theorem withF_eq {v : Pn} {t : Int} : ∀ (p : Pn), p.thin → p.tiny → ∀ (x : Bool) (n : Nat), n + cntP v p < 1000000000000 → callA C0 28 [.i (.iref p.cells), .fn (.func 29) [.own 0 0, .own 1 0, .own 2 0]] (Fst x v n t) = some (.i (.agg (foldP v t p).cells), Fst true v (n + cntP v p) t) := by
  intro p
  induction p using Pn.ind with
  | h k tb es cs ks ih =>
    intro ht hy x n hn
    cases hh : Pn.eqb (.mk k tb es cs ks) v with
    | true =>
      rw [foldP_hit hh, cntP_hit hh] at *
      exact withF_hit ht (by omega) hh
    | false =>
      have ih' : ∀ a ∈ ks, ∀ m : Nat, m + cntP v a < 1000000000000 → _ := fun a ha m hm => ih a ha (((Pn.thin_iff _).1 ht).2.2.2.2 a ha) (((Pn.tiny_iff _).1 hy).2 a ha) true m hm
      have hq : ∀ e ∈ es, e.size < 1000000000 := ((Pn.tiny_iff _).1 hy).1
      have hn' := hn
      rw [cntP_miss hh] at hn'
      by_cases he : es = []
      · by_cases hc : cs = []
        · exact withF_miss00 ht hq he hc hn' hh ih'
        · exact withF_miss01 ht hq he hc hn' hh ih'
      · by_cases hc : cs = []
        · exact withF_miss10 ht hq he hc hn' hh ih'
        · exact withF_miss11 ht hq he hc hn' hh ih'
end Go.Proofs.Yteihcffblfdgfaa.P

/- A view folded, as the reference has it. No condition. -/
namespace Go.Proofs.Yteihcffblfdgfaa.P
open Go Go.Av
set_option maxRecDepth 4000
set_option maxHeartbeats 4000000
theorem half_mid {α : Type} {D R : List α} {y x : α} {i : Nat} (hD : D.length = i) : (D ++ y :: R).set i x = D ++ x :: R := by
  subst hD; simp
theorem drop_cons {α : Type} {l : List α} {i : Nat} {a : α} (h : l[i]? = some a) : l.drop i = a :: l.drop (i + 1) := by
  obtain ⟨hl, rfl⟩ := List.getElem?_eq_some_iff.1 h
  exact List.drop_eq_getElem_cons hl
/-- The rows of the kids, so many of them replaced. -/
def mixK (v : Pn) (t : Int) (l : List Pn) (i : Nat) : List (List IV) := Pn.cellsL (foldPL v t (l.take i) ++ l.drop i)
theorem mixK_zero (v : Pn) (t : Int) (l : List Pn) : mixK v t l 0 = Pn.cellsL l := by simp [mixK, foldPL]
theorem mixK_all (v : Pn) (t : Int) (l : List Pn) : mixK v t l l.length = Pn.cellsL (foldPL v t l) := by simp [mixK]
@[simp] theorem mixK_len (v : Pn) (t : Int) (l : List Pn) (i : Nat) : (mixK v t l i).length = l.length := by simp [mixK]; omega
@[simp] theorem mixK_widths (v : Pn) (t : Int) (l : List Pn) (i : Nat) : widths 5 (mixK v t l i) = true := by simp [mixK]
theorem mixK_set {v : Pn} {t : Int} {l : List Pn} {i : Nat} {a : Pn} (h : l[i]? = some a) : (mixK v t l i).set i (foldP v t a).cells = mixK v t l (i + 1) := by
  have hl := (List.getElem?_eq_some_iff.1 h).1
  unfold mixK
  rw [drop_cons h, take_snoc h, foldPL_snoc, Pn.cellsL_append, List.append_assoc, Pn.cellsL_append]
  simp only [Pn.cellsL, List.cons_append, List.nil_append]
  exact half_mid (by simp; omega)
theorem mixK_nth {v : Pn} {t : Int} {l : List Pn} {i : Nat} {a : Pn} (h : l[i]? = some a) : nthE (mixK v t l i) i = some a.cells := by
  have hl := (List.getElem?_eq_some_iff.1 h).1
  unfold mixK
  apply Pn.cellsL_nth
  rw [List.getElem?_append_right (by simp; omega), drop_cons h]
  simp
  rw [show i - min i l.length = 0 by omega]; rfl
theorem sfold_hit {p v : Pn} (hp : p.thin) {t : Int} (hh : p.eqb v = true) : callA C0 32 [.i (.agg p.cells), .i (.agg v.cells), .int t] [] = some (.tup [.i (.agg (Pn.scan t).cells), .int 1], []) := by
  have hq := sequalP_eq p hp v
  rw [hh] at hq
  rw [callA_eq rfl Try.func32 rfl rfl]
  rw [Pn.cells_eq p, Pn.cells_eq v] at *
  simp [hq, Pn.scan, Pn.cells, Ex.cellsL, intsL, Pn.cellsL]
/-- The kid at a place. -/
def kidAt (p : Pn) (i : Nat) : Pn := (p.kids[i]?).getD Pn.zero
def SY1 (p v : Pn) (t : Int) (i : Nat) : AS :=
  { env := [(0, .i (.agg [.int p.kind, .int p.table, .isl (Ex.cellsL p.exprs), .isl (intsL p.cols), .isl (Pn.cellsL p.kids)])), (1, .i (.agg [.int v.kind, .int v.table, .isl (Ex.cellsL v.exprs), .isl (intsL v.cols), .isl (Pn.cellsL v.kids)])), (2, .int t), (3, .own 0 0), (4, .own 1 0), (6, .own 2 0), (7, .int 0), (8, .own 3 0), (9, .int (cntPL v (p.kids.take i) : Nat)), (10, .int i), (11, if i = 0 then .junk else .own 7 0), (12, jk i (.int (cntP v (kidAt p (i - 1)) : Nat))), (15, .bool false), (24, jk i (.bool true))],
    st := some (.box [.int p.kind, .int p.table, .i (.isl (Ex.cellsL p.exprs)), .i (.isl (intsL p.cols)), .i (.isl (Pn.cellsL p.kids))]) :: some (.box [.int v.kind, .int v.table, .i (.isl (Ex.cellsL v.exprs)), .i (.isl (intsL v.cols)), .i (.isl (Pn.cellsL v.kids))]) :: some (.box [.int 0, .int 0, .nils, .nils, .nils]) :: some (.box [.int p.kind, .int p.table, .osl 4 5 0 p.exprs.length, .osl 5 1 0 p.cols.length, .osl 6 5 0 p.kids.length]) :: some (.arr 5 (Ex.cellsL p.exprs)) :: some (.arr 1 (intsL p.cols)) :: some (.arr 5 (mixK v t p.kids i)) :: (if i = 0 then [] else [some (.box (impI (foldP v t (kidAt p (i - 1))).cells))]) }
theorem sfold_miss1 {p v : Pn} (hp : p.thin) (he : p.exprs ≠ []) (hk : p.kids ≠ []) {t : Int} (hn : cntPL v p.kids < 1000000000000) (hh : p.eqb v = false)
    (ih : ∀ a ∈ p.kids, cntP v a < 1000000000000 → callA C0 32 [.i (.agg a.cells), .i (.agg v.cells), .int t] [] = some (.tup [.i (.agg (foldP v t a).cells), .int (cntP v a : Nat)], [])) :
    callA C0 32 [.i (.agg p.cells), .i (.agg v.cells), .int t] [] = some (.tup [.i (.agg (foldP v t p).cells), .int (cntP v p : Nat)], []) := by
  have hq := sequalP_eq p hp v
  rw [hh] at hq
  have hc := copyPlan_eq p hp
  obtain ⟨t1, t2, t3, t4, -⟩ := (Pn.thin_iff _).1 hp
  have hkl : p.kids.length ≠ 0 := fun h => hk (List.length_eq_zero_iff.1 h)
  have hel : p.exprs.length ≠ 0 := fun h => he (List.length_eq_zero_iff.1 h)
  simp [pcX, pcS, gro_pos hkl, groB_pos hkl, gro_pos hel, groB_pos hel, he] at hc
  rw [callA_eq rfl Try.func32 rfl rfl, foldP_miss hh, cntP_miss hh, Pn.cells_mk]
  rw [Pn.cells_eq p] at hq hc ⊢
  rw [Pn.cells_eq v] at hq ⊢
  simp [hq, hc, hk]
  rw [loop_to (SY1 p v t) p.kids.length (by simp [SY1, cntPL, mixK_zero])]
  · rw [execA_loop]
    have hk2 : (foldPL v t p.kids).take p.kids.length = foldPL v t p.kids := List.take_of_length_le (by simp)
    simp [SY1, hkl, mixK_all, hk2]
  · intro i hi
    have h3 := List.getElem?_eq_getElem hi
    have hm := List.mem_of_getElem? h3
    have r2 := Pn.cellsL_nth h3
    have htk := take_snoc h3
    have hkd : kidAt p i = p.kids[i] := by simp [kidAt, h3]
    have hset := mixK_set (v := v) (t := t) h3
    have hnt := mixK_nth (v := v) (t := t) h3
    generalize p.kids[i] = a at h3 hm r2 htk hkd hset hnt
    have hle : cntPL v (p.kids.take i) + cntP v a ≤ cntPL v p.kids := by
      rw [← cntPL_snoc, ← htk]; exact cntPL_take v _ _
    have hk := ih a hm (by omega)
    have w2 : IntKind.i64.wrap ((i : Int) + 1) = i + 1 := wrap64 (by omega) (by omega)
    have w3 : IntKind.i64.wrap ((cntPL v (p.kids.take i) : Int) + cntP v a) = cntPL v (p.kids.take i) + cntP v a := wrap64 (by omega) (by omega)
    rw [Pn.cells_eq a] at r2 hk hnt
    rw [Pn.cells_eq (foldP v t a)] at hk hset
    rw [Pn.cells_eq v] at hk
    by_cases h0 : i = 0
    · subst h0
      simp only [List.take_zero, cntPL, Int.natCast_zero, Int.zero_add] at w3
      simp [SY1, hi, r2, hk, wrap_1, htk, hkd, hset, hnt, w3, cntPL_snoc, cntPL, Pn.cells_eq (foldP v t a)]
    · simp [SY1, jk_pos h0, hi, r2, hk, w2, w3, htk, hkd, hset, hnt, cntPL_snoc, h0, Pn.cells_eq (foldP v t a), Pn.cells_eq (foldP v t (kidAt p (i - 1)))]
def SY0 (p v : Pn) (t : Int) (i : Nat) : AS :=
  { env := [(0, .i (.agg [.int p.kind, .int p.table, .isl (Ex.cellsL p.exprs), .isl (intsL p.cols), .isl (Pn.cellsL p.kids)])), (1, .i (.agg [.int v.kind, .int v.table, .isl (Ex.cellsL v.exprs), .isl (intsL v.cols), .isl (Pn.cellsL v.kids)])), (2, .int t), (3, .own 0 0), (4, .own 1 0), (6, .own 2 0), (7, .int 0), (8, .own 3 0), (9, .int (cntPL v (p.kids.take i) : Nat)), (10, .int i), (11, if i = 0 then .junk else .own 6 0), (12, jk i (.int (cntP v (kidAt p (i - 1)) : Nat))), (15, .bool false), (24, jk i (.bool true))],
    st := some (.box [.int p.kind, .int p.table, .i (.isl (Ex.cellsL p.exprs)), .i (.isl (intsL p.cols)), .i (.isl (Pn.cellsL p.kids))]) :: some (.box [.int v.kind, .int v.table, .i (.isl (Ex.cellsL v.exprs)), .i (.isl (intsL v.cols)), .i (.isl (Pn.cellsL v.kids))]) :: some (.box [.int 0, .int 0, .nils, .nils, .nils]) :: some (.box [.int p.kind, .int p.table, .nils, .osl 4 1 0 p.cols.length, .osl 5 5 0 p.kids.length]) :: some (.arr 1 (intsL p.cols)) :: some (.arr 5 (mixK v t p.kids i)) :: (if i = 0 then [] else [some (.box (impI (foldP v t (kidAt p (i - 1))).cells))]) }
theorem sfold_miss0 {p v : Pn} (hp : p.thin) (he : p.exprs = []) (hk : p.kids ≠ []) {t : Int} (hn : cntPL v p.kids < 1000000000000) (hh : p.eqb v = false)
    (ih : ∀ a ∈ p.kids, cntP v a < 1000000000000 → callA C0 32 [.i (.agg a.cells), .i (.agg v.cells), .int t] [] = some (.tup [.i (.agg (foldP v t a).cells), .int (cntP v a : Nat)], [])) :
    callA C0 32 [.i (.agg p.cells), .i (.agg v.cells), .int t] [] = some (.tup [.i (.agg (foldP v t p).cells), .int (cntP v p : Nat)], []) := by
  have hq := sequalP_eq p hp v
  rw [hh] at hq
  have hc := copyPlan_eq p hp
  obtain ⟨t1, t2, t3, t4, -⟩ := (Pn.thin_iff _).1 hp
  have hkl : p.kids.length ≠ 0 := fun h => hk (List.length_eq_zero_iff.1 h)
  simp [pcX, pcS, gro_pos hkl, groB_pos hkl, he, Ex.cellsL] at hc
  rw [callA_eq rfl Try.func32 rfl rfl, foldP_miss hh, cntP_miss hh, Pn.cells_mk]
  rw [Pn.cells_eq p] at hq hc ⊢
  rw [Pn.cells_eq v] at hq ⊢
  simp only [he, Ex.cellsL] at hq hc ⊢
  simp [hq, hc, he, hk]
  rw [loop_to (SY0 p v t) p.kids.length (by simp [SY0, cntPL, mixK_zero, he, Ex.cellsL])]
  · rw [execA_loop]
    have hk2 : (foldPL v t p.kids).take p.kids.length = foldPL v t p.kids := List.take_of_length_le (by simp)
    simp [SY0, hkl, mixK_all, hk2, he, Ex.cellsL]
  · intro i hi
    have h3 := List.getElem?_eq_getElem hi
    have hm := List.mem_of_getElem? h3
    have r2 := Pn.cellsL_nth h3
    have htk := take_snoc h3
    have hkd : kidAt p i = p.kids[i] := by simp [kidAt, h3]
    have hset := mixK_set (v := v) (t := t) h3
    have hnt := mixK_nth (v := v) (t := t) h3
    generalize p.kids[i] = a at h3 hm r2 htk hkd hset hnt
    have hle : cntPL v (p.kids.take i) + cntP v a ≤ cntPL v p.kids := by
      rw [← cntPL_snoc, ← htk]; exact cntPL_take v _ _
    have hk := ih a hm (by omega)
    have w2 : IntKind.i64.wrap ((i : Int) + 1) = i + 1 := wrap64 (by omega) (by omega)
    have w3 : IntKind.i64.wrap ((cntPL v (p.kids.take i) : Int) + cntP v a) = cntPL v (p.kids.take i) + cntP v a := wrap64 (by omega) (by omega)
    rw [Pn.cells_eq a] at r2 hk hnt
    rw [Pn.cells_eq (foldP v t a)] at hk hset
    rw [Pn.cells_eq v] at hk
    by_cases h0 : i = 0
    · subst h0
      simp only [List.take_zero, cntPL, Int.natCast_zero, Int.zero_add] at w3
      simp [SY0, hi, r2, hk, wrap_1, htk, hkd, hset, hnt, w3, cntPL_snoc, cntPL, Pn.cells_eq (foldP v t a), he, Ex.cellsL]
    · simp [SY0, jk_pos h0, hi, r2, hk, w2, w3, htk, hkd, hset, hnt, cntPL_snoc, h0, Pn.cells_eq (foldP v t a), Pn.cells_eq (foldP v t (kidAt p (i - 1))), he, Ex.cellsL]
theorem sfold_leaf {p v : Pn} (hp : p.thin) (hk : p.kids = []) {t : Int} (hh : p.eqb v = false) :
    callA C0 32 [.i (.agg p.cells), .i (.agg v.cells), .int t] [] = some (.tup [.i (.agg (foldP v t p).cells), .int (cntP v p : Nat)], []) := by
  have hq := sequalP_eq p hp v
  rw [hh] at hq
  have hc := copyPlan_eq p hp
  rw [callA_eq rfl Try.func32 rfl rfl, foldP_miss hh, cntP_miss hh, Pn.cells_mk]
  rw [Pn.cells_eq v] at hq ⊢
  rw [Pn.cells_eq p] at hq hc ⊢
  simp only [hk, Pn.cellsL] at hq hc ⊢
  by_cases he : p.exprs = []
  · simp [pcX, pcS, hk, he, Pn.cellsL, Ex.cellsL] at hc
    simp only [he, Ex.cellsL] at hq ⊢
    simp [hq, hc, hk, he, Pn.cellsL, Ex.cellsL]
    rw [execA_loop]
    simp [foldPL, cntPL, Pn.cellsL]
  · have hel : p.exprs.length ≠ 0 := fun h => he (List.length_eq_zero_iff.1 h)
    simp [pcX, pcS, hk, gro_pos hel, groB_pos hel, he, Pn.cellsL] at hc
    simp [hq, hc, hk, Pn.cellsL]
    rw [execA_loop]
    simp [foldPL, cntPL, Pn.cellsL]
theorem sfold_eq {v : Pn} {t : Int} : ∀ (p : Pn), p.thin → cntP v p < 1000000000000 → callA C0 32 [.i (.agg p.cells), .i (.agg v.cells), .int t] [] = some (.tup [.i (.agg (foldP v t p).cells), .int (cntP v p : Nat)], []) := by
  intro p
  induction p using Pn.ind with
  | h k tb es cs ks ih =>
    intro ht hn
    cases hh : Pn.eqb (.mk k tb es cs ks) v with
    | true => rw [foldP_hit hh, cntP_hit hh]; exact sfold_hit ht hh
    | false =>
      rw [cntP_miss hh] at hn
      by_cases hk : ks = []
      · exact sfold_leaf ht hk hh
      have ih' : ∀ a ∈ ks, cntP v a < 1000000000000 → _ := fun a ha hm => ih a ha (((Pn.thin_iff _).1 ht).2.2.2.2 a ha) hm
      by_cases he : es = []
      · exact sfold_miss0 ht he hk hn hh ih'
      · exact sfold_miss1 ht he hk hn hh ih'
end Go.Proofs.Yteihcffblfdgfaa.P

/- The copy of an expression: the worklist's code. No condition. -/
namespace Go.Proofs.Yteihcffblfdgfaa
open Go Go.Av
set_option maxRecDepth 4000
/-- The context without ready contracts. -/
noncomputable def C1 : Ctx := { P := Try.prog, G := GS, ownArgs := ownA, keepRes := keepR, eqT := eqTy, prim := fun _ => none }
@[simp] theorem C1_P : C1.P = Try.prog := (rfl)
@[simp] theorem C1_G (f) : C1.G f = GS f := (rfl)
@[simp] theorem C1_o (f) : C1.ownArgs f = ownA f := (rfl)
@[simp] theorem C1_k (f) : C1.keepRes f = keepR f := (rfl)
@[simp] theorem C1_e (f) : C1.eqT f = eqTy f := (rfl)
@[simp] theorem C1_t : C1.tree = false := (rfl)
theorem cpl_nil : callA C1 68 [.i (.isl [])] [] = some (.nils, []) := by
  rw [callA_eq rfl Try.func68 rfl rfl]
  simp
theorem cpl_some {ks : List Ex} (h : ks ≠ []) (hl : ks.length < 1000000000) : callA C1 68 [.i (.isl (Ex.cellsL ks))] [] = some (.osl 0 5 0 ks.length, [some (.arr 5 (Ex.cellsL ks))]) := by
  rw [callA_eq rfl Try.func68 rfl rfl]
  have h1 : 56 * (ks.length : Int) ≤ 281474976710656 := by omega
  simp [h, h1]
  unfold over
  simp
theorem sound1 : SoundOk C1 := sound_ok (C := C1) ft nt eqS mo (prim_none fun _ => rfl)
def ptr (p : Nat × Nat) : IV := .lit (.pointer (some ⟨p.1, p.2, none⟩))
def zc : List AV := [.int 0, .int 0, .bool false, .int 0, .nils]
def Sini (p : Nat × Nat) : AS := { env := [(0, .i (ptr p))], st := [] }
def Sout (e : Ex) (p : Nat × Nat) : AS := { env := [(0, .i (ptr p)), (2, .own 0 0), (3, .own 1 0), (4, .junk), (5, .junk), (6, .junk), (13, .junk), (37, .junk), (38, .junk), (39, .junk)], st := [some (.box zc), some (.box (impI e.cells))] }
/-- The state at the worklist's head. -/
def SL (b3 : Nat) (todo X : KL) : AS :=
  { env := [(0, .junk), (2, .own 0 0), (3, .i (ptr (b3, 0))), (4, .osl 1 1 0 todo.length), (5, .junk), (6, .junk), (13, .junk), (37, .junk), (38, .junk), (39, .junk)], st := [some (.box zc), some (.arr 1 ((todo ++ X).map fun k => [ptr k.1]))] }
theorem ptr_lit : ∀ (l : KL), ∀ c ∈ (l.map fun k => [ptr k.1]).flatten, ∃ v, c = .lit v
  | [], c, h => by simp at h
  | k :: l, c, h => by
    simp only [List.map_cons, List.flatten_cons, List.mem_append, List.mem_singleton] at h
    rcases h with rfl | h
    · exact ⟨_, rfl⟩
    · exact ptr_lit l c h
/-- What is known when the kids have been copied, ahead of the store. -/
def PP (b3 : Nat) (b o n : Nat) (x : Ex) (ES : List (List IV)) (env : Nat → AV) (st : Store) : Prop :=
  env 2 = .own 0 0 ∧ env 3 = .i (ptr (b3, 0)) ∧ env 4 = .osl 1 1 0 n ∧ env 5 = .i (ptr (b, o)) ∧ env 32 = .i (ptr (b, o + 4)) ∧ st 0 = some (.box zc) ∧ st 1 = some (.arr 1 ES) ∧
    ((env 30 = .nils ∧ x.kids = []) ∨ ∃ id, env 30 = .osl id 5 0 x.kids.length ∧ x.kids ≠ [] ∧ st id = some (.arr 5 (Ex.cellsL x.kids)) ∧ 2 ≤ id)
theorem wrap_1' : IntKind.i64.wrap 1 = 1 := wrap64 (by omega) (by omega)
/-- The pointers that have been put on the worklist. -/
def RW (init : KL) (b' i : Nat) : List (List IV) := (init.map fun k => [ptr k.1]) ++ (List.range i).map fun j => [ptr (b', j * 5)]
theorem RW_len (init : KL) (b' i : Nat) : (RW init b' i).length = init.length + i := by simp [RW]
theorem RW_succ (init : KL) (b' i : Nat) : RW init b' i ++ [[ptr (b', i * 5)]] = RW init b' (i + 1) := by simp [RW, List.range_succ]
theorem kidsAt_map (b : Nat) : ∀ (o : Nat) (l : List Ex), (kidsAt b o l).map (fun k => [ptr k.1]) = (List.range l.length).map fun j => [ptr (b, o + j * 5)]
  | _, [] => by simp [kidsAt]
  | o, a :: l => by
    simp only [kidsAt, List.map_cons, kidsAt_map b (o + 5) l, List.length_cons, List.range_succ_eq_map, List.map_map]
    simp only [List.cons.injEq, Nat.zero_mul, Nat.add_zero, true_and]
    apply List.map_congr_left
    intro j _
    simp only [Function.comp, Nat.succ_eq_add_one]
    rw [show o + 5 + j * 5 = o + (j + 1) * 5 by omega]
theorem kidsAt_len (b : Nat) : ∀ (o : Nat) (l : List Ex), (kidsAt b o l).length = l.length
  | _, [] => rfl
  | o, a :: l => by simp [kidsAt, kidsAt_len b (o + 5) l]
theorem kidsAt_sum (b : Nat) : ∀ (o : Nat) (l : List Ex), ((kidsAt b o l).map fun k => k.2.size).sum = Ex.sizeL l
  | _, [] => rfl
  | o, a :: l => by simp [kidsAt, Ex.sizeL, kidsAt_sum b (o + 5) l]
/-- The state when so many kids have been put on the worklist. -/
def YS (b3 b' cap : Nat) (x : Ex) (init : KL) (ES : List (List IV)) (i : Nat) : AS :=
  { env := [(0, .junk), (2, .own 0 0), (3, .i (ptr (b3, 0))), (4, if i = 0 then .osl 1 1 0 init.length else .osl 2 1 0 (init.length + i)), (5, .i (.iref [.int x.kind, .int x.col, .bool x.val.null, .int x.val.n, .lit (.slice (some ⟨b', 0, none⟩) x.kids.length cap)])), (6, jk i (.int (i - 1))), (13, .junk), (37, .int x.kids.length), (38, .int i), (39, jk i (.bool true))],
    st := some (.box zc) :: if i = 0 then [some (.arr 1 ES)] else [none, some (.arr 1 (RW init b' i))] }
set_option maxHeartbeats 1000000
/-- A copy of what lies at a place. -/
theorem copied_at {e : Ex} (he : e.size < 1000000000) {wi : World} {mi : Mem} {b o : Nat} (hi : Inv wi mi (fun _ => none) (stOf []))
    (hrun : ∀ w', wi.heap.size ≤ w'.heap.size → (∀ f, f < wi.heap.size → w'.heap[f]? = wi.heap[f]?) → ∃ y, (Instr.loadAt 87 (.pointer (some ⟨b, o, none⟩))).run C1.P w' = .ok y w' ∧ IRep mi (.agg e.cells) y) :
    Calls Try.prog 70 #[.pointer (some ⟨b, o, none⟩)] wi (CallPost wi mi (fun _ => none) (.i (.agg e.cells)) []) := by
  refine calls_of_wp (fn := Try.f70) Try.func70 rfl ?_
  have g0 : GG wi mi 52 (fun id => id < (Sini (b, o)).st.length) [] (envOf (Sini (b, o)).env) (stOf (Sini (b, o)).st) { tmps := [Value.pointer (some ⟨b, o, none⟩)].toArray ++ Array.replicate (52 - 1) undef, defers := [] } wi := by
    refine ⟨⟨mi, fun _ => none, hi, ?_, .refl _ _ _, fun id h => absurd rfl h, fun k hk => by simp at hk⟩, by simp, rfl⟩
    intro t
    have := enter_rep (m := mi) (φ := fun _ => none) (52 - 1) (show RepL mi (fun _ => none) [.i (ptr (b, o))] [.pointer (some ⟨b, o, none⟩)] from .cons (.i (.lit _)) .nil) t
    cases t with
    | zero => simpa [Sini, envOf, argAt] using this
    | succ t => simp only [Sini, envOf]; simp; exact .junk _
  refine wp_seq (wp_mono (GG.codeA sound1 (G := GS 70) (S := Sini (b, o)) (e := .normal) (S' := { env := [(0, .i (ptr (b, o))), (2, .own 0 0), (3, .junk), (4, .junk), (5, .junk), (6, .junk), (13, .junk), (37, .junk), (38, .junk), (39, .junk)], st := [some (.box zc)] }) (by kernel_rfl) (by simp [Sini, zc, ptr]) g0) ?_)
  rintro _ a1 w1 ⟨rfl, g1⟩
  refine wp_seq (GG.regionL sound1 (os1 := [_, _]) (os2 := [_, _]) (G := GS 70) (S := { env := [(0, .i (ptr (b, o))), (2, .own 0 0), (3, .junk), (4, .junk), (5, .junk), (6, .junk), (13, .junk), (37, .junk), (38, .junk), (39, .junk)], st := [some (.box zc)] }) (S' := Sout e (b, o)) rfl (by
      have h : ∀ ops : Array Oper, ops.all (operOk 52) = true → ∀ o ∈ ops, operOk 52 o = true := fun ops h o ho => Array.all_eq_true_iff_forall_mem.1 h o ho
      exact h _ (by kernel_rfl)) g1 (by decide) hrun ?_ ?_)
  · rw [Ex.cells_eq]; simp [Sout, zc, ptr, Ex.cells_eq]
  intro a2 w2 g2
  obtain ⟨b3, g3⟩ := g2.pub (u := 3) (id := 1) (e := e) (st' := stOf [some (.box zc)]) (ok' := fun id => id < 1) rfl rfl (by
    intro i blk h
    cases i with
    | zero => simp [stOf] at h; subst h; exact ⟨by omega, rfl, by simp [LitBlk, zc]⟩
    | succ i => simp [stOf] at h) (by
    intro i h
    cases i with
    | zero => omega
    | succ i => simp [stOf] at h)
  have g3 := g3 (envOf [(2, .own 0 0), (3, .i (ptr (b3, 0)))]) (by
    intro t
    simp only [envOf]
    by_cases h2 : t = 2
    · subst h2; exact .inr (.inr ⟨rfl, by simp [Sout, envOf, Stays, stOf]⟩)
    · by_cases h3 : t = 3
      · subst h3; exact .inr (.inl ⟨rfl, rfl⟩)
      · simp [h2, h3])
  refine wp_seq (wp_mono (GG.codeA sound1 (G := GS 70) (S := { env := [(2, .own 0 0), (3, .i (ptr (b3, 0)))], st := [some (.box zc)] }) (e := .normal) (S' := SL b3 [((b3, 0), e)] []) (by kernel_rfl) (by simp [SL, ptr, zc]) g3) ?_)
  rintro _ a3 w3 ⟨rfl, g4⟩
  refine wp_seq (wp_block ?_)
  refine wp_loop_n (fun n a w => ∃ todo X K : KL, (∀ k ∈ todo, k ∈ K) ∧ ((b3, 0), e) ∈ K ∧ (todo.map fun k => k.2.size).sum = n ∧ n < 1000000000 ∧ GG wi mi 52 (fun id => id < (SL b3 todo X).st.length) K (envOf (SL b3 todo X).env) (stOf (SL b3 todo X).st) a w) ?_ (n := e.size) ⟨[((b3, 0), e)], [], [((b3, 0), e)], fun k hk => hk, by simp, by simp, he, g4⟩
  rintro n a w ⟨todo, X, K, hsub, hb3, hsum, hn, g⟩
  rcases List.eq_nil_or_concat todo with rfl | ⟨init, k, rfl⟩
  · refine wp_mono (GG.codeA sound1 (G := GS 70) (S := SL b3 [] X) (e := .exit 0) (S' := { env := [(0, .junk), (2, .own 0 0), (3, .i (ptr (b3, 0))), (4, .osl 1 1 0 0), (5, .junk), (6, .junk), (13, .bool false), (37, .junk), (38, .junk), (39, .junk)], st := [some (.box zc), some (.arr 1 (X.map fun k => [ptr k.1]))] }) (by kernel_rfl) (by simp [SL, ptr, zc]) g) ?_
    rintro _ a5 w5 ⟨rfl, g5⟩
    simp only [exitOf, Exit.then, Exit.inBlock, if_true]
    have g6 := (g5.see (u := 3) (b := b3) (o := 0) rfl hb3).envTo (env' := envOf [(2, .own 0 0), (3, .i (.iref e.cells))]) (by
      intro t
      simp only [envOf, upd]
      by_cases h2 : t = 2
      · subst h2; simp
      · by_cases h3 : t = 3
        · subst h3; simp
        · simp [h2, h3])
    refine wp_mono (GG.codeA sound1 (G := GS 70) (S := { env := [(2, .own 0 0), (3, .i (.iref e.cells))], st := [some (.box zc), some (.arr 1 (X.map fun k => [ptr k.1]))] }) (e := .ret) (S' := { env := [(0, .junk), (2, .own 0 0), (3, .i (.iref e.cells)), (4, .junk), (5, .junk), (6, .junk), (13, .junk), (37, .junk), (38, .junk), (39, .junk)], st := [some (.box (impI e.cells)), some (.arr 1 (X.map fun k => [ptr k.1]))] }) (by kernel_rfl) (by simp [zc]) g6) ?_
    rintro _ a6 w6 ⟨rfl, g7⟩
    obtain ⟨⟨m, φ, q1, q2, q3, q4, q5⟩, q6, q7⟩ := g7
    obtain ⟨v, k1, k2⟩ := finish_sound (C := C1) (fn := Try.f70) (keep := false) (na := 0) (S := { env := [(0, .junk), (2, .own 0 0), (3, .i (.iref e.cells)), (4, .junk), (5, .junk), (6, .junk), (13, .junk), (37, .junk), (38, .junk), (39, .junk)], st := [some (.box (impI e.cells)), some (.arr 1 (X.map fun k => [ptr k.1]))] }) (r := .i (.agg e.cells)) (stl' := []) (fun id h => absurd rfl h) ⟨⟨⟨m, φ, q1, q2, q3, q4, .nil _ _ _⟩, q6, q7⟩, Nat.zero_le _⟩ (by
      show finish C1 false [ResultVar.cell 2 87] 0 _ = _
      simp)
    exact ⟨q7, v, k1, k2⟩
  · clear g0 g4 g3 g1 g2
    obtain ⟨⟨b, o⟩, x⟩ := k
    have hlen : ∀ l : KL, l.length ≤ (l.map fun k => k.2.size).sum := by
      intro l
      induction l with
      | nil => simp
      | cons a l ih => have := Ex.size_pos a.2; simp; omega
    have hil := hlen init
    simp at hsum
    have hxk : ((b, o), x) ∈ K := hsub _ (by simp)
    have hxs := Ex.size_eq x
    have hkl := Ex.sizeL_length x.kids
    have hne : ¬ ((init.length : Int) + 1 ≤ 0) := by omega
    have hpos : (0 : Int) < (init.length : Int) + 1 := by omega
    have w1 : IntKind.i64.wrap (init.length : Int) = init.length := wrap64 (by omega) (by omega)
    generalize hES : ((init ++ [((b, o), x)] ++ X).map fun k => [ptr k.1]) = ES
    have hnth : nthE ES init.length = some [ptr (b, o)] := by
      rw [nthE_eq, ← hES]; simp
    have hlit : ∀ c ∈ ES.flatten, ∃ v, c = .lit v := by rw [← hES]; exact ptr_lit _
    have hlt : (init.length : Int) < (init.length : Int) + 1 := by omega
    have hlt2 : (init.length : Int) ≤ (init.length : Int) + 1 := by omega
    refine wp_seq (wp_mono (GG.codeA sound1 (G := GS 70) (S := SL b3 (init ++ [((b, o), x)]) X) (e := .normal) (S' := { env := [(0, .junk), (2, .own 0 0), (3, .i (ptr (b3, 0))), (4, .osl 1 1 0 (init.length + 1)), (5, .junk), (6, .junk), (13, .bool true), (37, .junk), (38, .junk), (39, .junk)], st := [some (.box zc), some (.arr 1 ES)] }) (by kernel_rfl) (by simp only [SL, hES]; simp [ptr, zc, hpos]) (by simpa using g)) ?_)
    rintro _ a5 w5 ⟨rfl, g5⟩
    clear g
    refine wp_block ?_
    refine wp_seq (wp_mono (GG.codeA sound1 (G := GS 70) (S := { env := [(0, .junk), (2, .own 0 0), (3, .i (ptr (b3, 0))), (4, .osl 1 1 0 (init.length + 1)), (5, .junk), (6, .junk), (13, .bool true), (37, .junk), (38, .junk), (39, .junk)], st := [some (.box zc), some (.arr 1 ES)] }) (e := .normal) (S' := { env := [(0, .junk), (2, .own 0 0), (3, .i (ptr (b3, 0))), (4, .osl 1 1 0 (init.length + 1)), (5, (.i (ptr (b, o)))), (6, .junk), (13, .bool true), (37, .junk), (38, .junk), (39, .junk)], st := [some (.box zc), some (.arr 1 ES)] }) (by kernel_rfl) (by simp only [ptr] at hnth; simp [ptr, zc, hnth, w1, hlt]) g5) ?_)
    rintro _ a6 w6 ⟨rfl, g6⟩
    clear g5
    refine wp_seq (wp_mono (GG.codeA sound1 (G := GS 70) (S := { env := [(0, .junk), (2, .own 0 0), (3, .i (ptr (b3, 0))), (4, .osl 1 1 0 (init.length + 1)), (5, (.i (ptr (b, o)))), (6, .junk), (13, .bool true), (37, .junk), (38, .junk), (39, .junk)], st := [some (.box zc), some (.arr 1 ES)] }) (e := .normal) (S' := { env := [(0, .junk), (2, .own 0 0), (3, .i (ptr (b3, 0))), (4, .osl 1 1 0 init.length), (5, (.i (ptr (b, o)))), (6, .junk), (13, .bool true), (37, .junk), (38, .junk), (39, .junk)], st := [some (.box zc), some (.arr 1 ES)] }) (by kernel_rfl) (by simp [ptr, zc, w1, hlt2]) g6) ?_)
    rintro _ a7 w7 ⟨rfl, g7⟩
    clear g6
    refine wp_seq (GG.region sound1 (os1 := [_, _]) (os2 := [_, _, _, _, _, _]) (u := 26) (PP := PP b3 b o init.length x ES) rfl (by
      have h : ∀ ops : Array Oper, ops.all (operOk 52) = true → ∀ o ∈ ops, operOk 52 o = true := fun ops h o ho => Array.all_eq_true_iff_forall_mem.1 h o ho
      exact h _ (by kernel_rfl)) g7 hxk ?_ ?_)
    · rw [Ex.cells_eq]
      by_cases hx : x.kids = []
      · simp [ptr, zc, hx, PP, Ex.cellsL, cpl_nil]
      · simp [ptr, zc, PP, cpl_some hx (by omega), hx]
    · rintro env st a8 w8 ⟨p2, p3, p4, p5, p32, q0, q1, p30⟩ g8
      clear g7
      obtain ⟨w9, b', ao, cap, e1, e2, hrun, hG⟩ := GG.turn (C := C1) (ok' := fun id => id < 2) (st' := stOf [some (.box zc), some (.arr 1 ES)]) (u := 30) (t := 23) g8 (by simp) hi.mem hxk rfl (by
        rcases p30 with ⟨h1, h2⟩ | ⟨id, h1, h2, h3, h4⟩
        · refine .inl ⟨h1, h2, ?_⟩
          intro i blk h
          rcases i with _ | _ | i
          · simp [stOf] at h; subst h; exact q0
          · simp [stOf] at h; subst h; exact q1
          · simp [stOf] at h
        · refine .inr ⟨id, h1, h2, h3, ?_⟩
          intro i blk h
          rcases i with _ | _ | i
          · simp [stOf] at h; subst h; exact ⟨by omega, q0⟩
          · simp [stOf] at h; subst h; exact ⟨by omega, q1⟩
          · simp [stOf] at h) (by
        intro i blk h
        rcases i with _ | _ | i
        · simp [stOf] at h; subst h; simp [LitBlk, zc]
        · simp [stOf] at h; subst h; exact hlit
        · simp [stOf] at h) (by
        intro i h
        rcases i with _ | _ | i
        · omega
        · omega
        · simp [stOf] at h)
      have ev5 := g8.litAt (t := 5) p5
      have ev32 := g8.litAt (t := 32) p32
      refine wpOp_store (C := C1) (w' := w9) rfl (by
        show (Instr.storeAt 23 (a8.tmps.getD 32 undef) (a8.tmps.getD 30 undef)).run C1.P w8 = _
        rw [ev32]; exact hrun) ?_
      have g9 := hG (envOf [(2, .own 0 0), (3, .i (ptr (b3, 0))), (4, .osl 1 1 0 init.length), (5, (.i (.iref [.int x.kind, .int x.col, .bool x.val.null, .int x.val.n, .lit (.slice ao x.kids.length cap)])))]) (by
        intro t
        simp only [envOf]
        by_cases h2 : t = 2
        · subst h2; exact .inr (.inr ⟨by simp [p2], by rw [p2]; simp [Stays, stOf]⟩)
        by_cases h3 : t = 3
        · subst h3; exact .inr (.inr ⟨by simp [p3], by rw [p3]; simp [Stays, ptr]⟩)
        by_cases h4 : t = 4
        · subst h4; exact .inr (.inr ⟨by simp [p4], by rw [p4]; simp [Stays, stOf]⟩)
        by_cases h5 : t = 5
        · subst h5; exact .inr (.inl ⟨ev5, by simp⟩)
        · simp [h2, h3, h4, h5])
      clear hG g8
      show Code.wp _ _ _ _ _
      refine wp_seq (wp_mono (GG.codeA sound1 (G := GS 70) (S := { env := [(2, .own 0 0), (3, .i (ptr (b3, 0))), (4, .osl 1 1 0 init.length), (5, (.i (.iref [.int x.kind, .int x.col, .bool x.val.null, .int x.val.n, .lit (.slice ao x.kids.length cap)])))], st := [some (.box zc), some (.arr 1 ES)] }) (e := .normal) (S' := { env := [(0, .junk), (2, .own 0 0), (3, .i (ptr (b3, 0))), (4, .osl 1 1 0 init.length), (5, (.i (.iref [.int x.kind, .int x.col, .bool x.val.null, .int x.val.n, .lit (.slice ao x.kids.length cap)]))), (6, .junk), (13, .junk), (37, .int x.kids.length), (38, .int 0), (39, .junk)], st := [some (.box zc), some (.arr 1 ES)] }) (by kernel_rfl) (by simp [ptr, zc]) g9) ?_)
      rintro _ a10 w10 ⟨rfl, g10⟩
      clear g9
      by_cases hx : x.kids = []
      · refine wp_mono (GG.codeA sound1 (G := GS 70) (S := { env := [(0, .junk), (2, .own 0 0), (3, .i (ptr (b3, 0))), (4, .osl 1 1 0 init.length), (5, (.i (.iref [.int x.kind, .int x.col, .bool x.val.null, .int x.val.n, .lit (.slice ao x.kids.length cap)]))), (6, .junk), (13, .junk), (37, .int x.kids.length), (38, .int 0), (39, .junk)], st := [some (.box zc), some (.arr 1 ES)] }) (e := .normal) (S' := { env := [(0, .junk), (2, .own 0 0), (3, .i (ptr (b3, 0))), (4, .osl 1 1 0 init.length), (5, (.i (.iref [.int x.kind, .int x.col, .bool x.val.null, .int x.val.n, .lit (.slice ao x.kids.length cap)]))), (6, .junk), (13, .junk), (37, .int x.kids.length), (38, .int 0), (39, .bool false)], st := [some (.box zc), some (.arr 1 ES)] }) (by kernel_rfl) (by
          simp only [hx, List.length_nil]
          simp
          rw [execA_loop]
          simp [ptr, zc]) g10) ?_
        rintro _ a11 w11 ⟨rfl, g11⟩
        simp only [exitOf, Exit.then, Exit.inBlock]
        refine ⟨n - 1, by omega, init, ((b, o), x) :: X, K ++ kidsAt b' 0 x.kids, fun k hk => List.mem_append_left _ (hsub k (by simp [hk])), List.mem_append_left _ hb3, ?_, by omega, ?_⟩
        · rw [hx] at hxs; simp [Ex.sizeL] at hxs; omega
        · have hES2 : ((init ++ ((b, o), x) :: X).map fun k => [ptr k.1]) = ES := by rw [← hES]; simp
          simp only [SL, hES2]
          exact g11.envTo (by
            intro t
            simp only [envOf]
            by_cases h2 : t = 2
            · subst h2; simp
            by_cases h3 : t = 3
            · subst h3; simp
            by_cases h4 : t = 4
            · subst h4; simp
            · simp [h2, h3, h4])
      · obtain rfl := e2 hx
        have hET : ES.take init.length = RW init b' 0 := by rw [← hES]; simp [RW]
        have hEL : init.length ≤ ES.length := by rw [← hES]; simp
        have hlim : ∀ i, i ≤ x.kids.length → (init.length + i + 1) * 8 ≤ 140737488355328 := fun i hi => by omega
        have hk0 : x.kids.length ≠ 0 := fun h => hx (List.length_eq_zero_iff.1 h)
        refine wp_mono (GG.codeA sound1 (G := GS 70) (S := { env := [(0, .junk), (2, .own 0 0), (3, .i (ptr (b3, 0))), (4, .osl 1 1 0 init.length), (5, (.i (.iref [.int x.kind, .int x.col, .bool x.val.null, .int x.val.n, .lit (.slice (some ⟨b', 0, none⟩) x.kids.length cap)]))), (6, .junk), (13, .junk), (37, .int x.kids.length), (38, .int 0), (39, .junk)], st := [some (.box zc), some (.arr 1 ES)] }) (e := .normal) (S' := { env := [(0, .junk), (2, .own 0 0), (3, .i (ptr (b3, 0))), (4, .osl 2 1 0 (init.length + x.kids.length)), (5, (.i (.iref [.int x.kind, .int x.col, .bool x.val.null, .int x.val.n, .lit (.slice (some ⟨b', 0, none⟩) x.kids.length cap)]))), (6, .int (x.kids.length - 1)), (13, .junk), (37, .int x.kids.length), (38, .int x.kids.length), (39, .bool false)], st := [some (.box zc), none, some (.arr 1 (RW init b' x.kids.length))] }) (by kernel_rfl) (by
          simp
          rw [loop_to (YS b3 b' cap x init ES) x.kids.length (by simp [YS])]
          · rw [execA_loop]
            simp [YS, hk0, jk_pos hk0, zc, ptr]
          · intro i hi
            have w2 : IntKind.i64.wrap ((i : Int) + 1) = i + 1 := wrap64 (by omega) (by omega)
            have hi0 : (i : Int) < x.kids.length := by omega
            by_cases h0 : i = 0
            · subst h0
              have hl : (init.length + 1) * 8 ≤ 140737488355328 := by omega
              have hR : RW init b' 0 ++ [[.lit (.pointer (some ⟨b', 0, none⟩))]] = RW init b' 1 := by simpa [ptr] using RW_succ init b' 0
              simp [YS, zc, ptr, wrap_1', hi, hET, hEL, hl, hR]
            · have hl := hlim i (by omega)
              have hT : (RW init b' i).take (init.length + i) = RW init b' i := List.take_of_length_le (by rw [RW_len]; omega)
              have hR : RW init b' i ++ [[.lit (.pointer (some ⟨b', i * 5, none⟩))]] = RW init b' (i + 1) := by simpa [ptr] using RW_succ init b' i
              simp [YS, h0, jk_pos h0, zc, ptr, w2, hi, hT, RW_len, hl, hR, ← Nat.add_assoc]) g10) ?_
        rintro _ a11 w11 ⟨rfl, g11⟩
        simp only [exitOf, Exit.then, Exit.inBlock]
        refine ⟨n - 1, by omega, init ++ kidsAt b' 0 x.kids, [], K ++ kidsAt b' 0 x.kids, ?_, List.mem_append_left _ hb3, ?_, by omega, ?_⟩
        · intro k hk
          rcases List.mem_append.1 hk with h | h
          · exact List.mem_append_left _ (hsub k (by simp [h]))
          · exact List.mem_append_right _ h
        · rw [List.map_append, List.sum_append, kidsAt_sum]; omega
        · have g12 := g11.settle [2, 3, 4]
          have hR : List.map (fun k : (Nat × Nat) × Ex => [ptr k.1]) (init ++ kidsAt b' 0 x.kids ++ []) = RW init b' x.kids.length := by
            rw [List.append_nil, List.map_append, kidsAt_map]; simp [RW]
          have hl : (init ++ kidsAt b' 0 x.kids).length = init.length + x.kids.length := by rw [List.length_append, kidsAt_len]
          simp only [SL, hR, hl]
          have hs : Av.settle [2, 3, 4] 0 (envOf [(0, .junk), (2, .own 0 0), (3, .i (ptr (b3, 0))), (4, .osl 2 1 0 (init.length + x.kids.length)), (5, .i (.iref [.int x.kind, .int x.col, .bool x.val.null, .int x.val.n, .lit (.slice (some ⟨b', 0, none⟩) x.kids.length cap)])), (6, .int (x.kids.length - 1)), (13, .junk), (37, .int x.kids.length), (38, .int x.kids.length), (39, .bool false)]) (stOf [some (.box zc), none, some (.arr 1 (RW init b' x.kids.length))]) = { env := [(2, .own 0 0), (3, .i (ptr (b3, 0))), (4, .osl 1 1 0 (init.length + x.kids.length))], st := [some (.box zc), some (.arr 1 (RW init b' x.kids.length))] } := by
            simp [zc, ptr]
          rw [hs] at g12
          exact g12.envTo (by
            intro t
            simp only [envOf]
            by_cases h2 : t = 2
            · subst h2; simp
            by_cases h3 : t = 3
            · subst h3; simp
            by_cases h4 : t = 4
            · subst h4; simp
            · simp [h2, h3, h4])
theorem load_run {w : World} {m : Mem} {φ : Pl} {st : Store} {t : TypeId} {a v : AV} {x : Value} (hi : Inv w m φ st) (hr : Rep m φ a x) (h : loadA C1 t a st = some v) : ∃ y, (Instr.loadAt t x).run C1.P w = .ok y w ∧ Rep m φ v y := by
  obtain ⟨ad, y, k1, k2, k3⟩ := loadA_sound hi hr h
  exact ⟨y, by subst k1; simpa [Instr.loadAt, Instr.sureAddr] using k2, k3⟩
theorem inv_none {w : World} {m : Mem} (h : MemOk w m) : Inv w m (fun _ => none) (stOf []) := ⟨h, fun id blk e => (by simp [stOf] at e), fun i j b b' n n' b1 b2 f e => (by simp [stOf] at e), fun _ _ _ _ e => (by cases e)⟩
theorem copied_calls {e : Ex} (he : e.size < 1000000000) {wi : World} {mi : Mem} {φ : Pl} {vs : List Value} (hi : Inv wi mi φ (stOf [])) (hr : RepL mi φ [.i (.iref e.cells)] vs) (h0 : ∀ id, φ id ≠ none → id < 0) :
    Calls Try.prog 70 vs.toArray wi (CallPost wi mi φ (.i (.agg e.cells)) []) := by
  obtain rfl : φ = fun _ => none := by
    funext id
    cases h : φ id with
    | none => rfl
    | some p => exact absurd (h0 id (by rw [h]; simp)) (Nat.not_lt_zero _)
  cases hr with
  | cons h1 h2 =>
    cases h2
    have hp := h1
    cases h1 with
    | i h1 => cases h1 with
      | iref ha =>
        refine copied_at he hi fun w' hs hw => ?_
        obtain ⟨y, k1, k2⟩ := load_run (t := 87) (v := .i (.agg e.cells)) (hi.later hs hw) hp (by rw [Ex.cells_eq]; simp)
        cases k2 with
        | i k2 => exact ⟨y, k1, k2⟩
theorem copied_row {e : Ex} (he : e.size < 1000000000) {w : World} {m : Mem} {φ : Pl} {vs : List Value} {es : List (List IV)} {j : Nat} (hes : es[j]? = some e.cells) (hi : Inv w m φ (stOf [some (.arr 5 es)])) (hr : RepL m φ [.ownE 0 5 j 0] vs) (h0 : ∀ id, φ id ≠ none → id < 1) :
    Calls Try.prog 70 vs.toArray w (CallPost w m φ (.i (.agg e.cells)) [some (.arr 5 es)]) := by
  cases hr with
  | cons h1 h2 =>
    cases h2
    have hp := h1
    cases h1 with
    | ownE hφ =>
      refine (copied_at he (inv_none hi.mem) fun w' hs hw => ?_).mono ?_
      · obtain ⟨y, k1, k2⟩ := load_run (t := 87) (v := .i (.agg e.cells)) (hi.later hs hw) hp (by
          have h5 := hes
          rw [← nthE_eq] at h5
          rw [Ex.cells_eq] at h5 ⊢; simp [h5])
        cases k2 with
        | i k2 => exact ⟨y, k1, k2⟩
      · rintro en w' ⟨v, m', φ', rfl, j1, j2, j3, j4⟩
        have free0 : ∀ b, Free (fun _ => none) b := fun b id r n e => by cases e
        have hsame : ∀ f, f < w.heap.size → w'.heap[f]? = w.heap[f]? := fun f hf => j3.block f hf (free0 f)
        refine ⟨v, m', φ, rfl, ?_, ⟨j2.mem, fun id blk hb => ?_, hi.inj, fun id b n f e ho => Nat.lt_of_lt_of_le (hi.low id b n f e ho) j3.size⟩, ⟨j3.size, j3.os, j3.tape, j3.output, fun b hb' _ => hsame b hb', j3.mle, fun b hb' _ o => j3.mnew b hb' (free0 b) o, .refl _, fun _ _ _ _ e ho => .inr (Free.not e ho)⟩, h0⟩
        · cases j1 with
          | i j1 => exact .i j1
        · obtain ⟨b, n, k1, k2, k3⟩ := hi.live id blk hb
          exact ⟨b, n, k1, ⟨k2.1, fun f hf => Nat.lt_of_lt_of_le (k2.2 f hf) j3.size⟩, k3.mono k2.1 (fun f hf => hsame f (k2.2 f hf)) j3.mle (.refl _) fun f hf o => j3.mnew f (k2.2 f hf) (free0 f) o⟩
end Go.Proofs.Yteihcffblfdgfaa

/- The copy of a plan: the worklist's code. No condition. -/
namespace Go.Proofs.Yteihcffblfdgfaa.G
open Go Go.Av
set_option maxRecDepth 4000
set_option maxHeartbeats 4000000
noncomputable def prim2 : FuncId → Option (List AV → StL → Option (AV × StL))
  | 70 => some copyE
  | _ => none
/-- The context with the copy of an expression alone. -/
noncomputable def C2 : Ctx := { P := Try.prog, G := GS, ownArgs := ownA, keepRes := keepR, eqT := eqTy, prim := prim2 }
@[simp] theorem C2_P : C2.P = Try.prog := (rfl)
@[simp] theorem C2_G (f) : C2.G f = GS f := (rfl)
@[simp] theorem C2_o (f) : C2.ownArgs f = ownA f := (rfl)
@[simp] theorem C2_k (f) : C2.keepRes f = keepR f := (rfl)
@[simp] theorem C2_e (f) : C2.eqT f = eqTy f := (rfl)
@[simp] theorem C2_t : C2.tree = false := (rfl)
theorem prim2_ok : PrimOk C2 := by
  have key : ∀ g q, C2.prim g = some q → g = 70 ∧ q = copyE := by
    intro g q h
    have h : prim2 g = some q := h
    unfold prim2 at h
    split at h
    · injection h with h; exact ⟨rfl, h.symm⟩
    · cases h
  constructor
  · intro g args st p h
    unfold primCall at h
    cases hq : C2.prim g with
    | none => rw [hq] at h; cases h
    | some q =>
      obtain ⟨rfl, rfl⟩ := key g q hq
      exact ⟨Try.f70, Try.func70, by decide, rfl⟩
  · intro g args stl r stl' h w m φ vs hi hr h0
    unfold primCall at h
    cases hq : C2.prim g with
    | none => rw [hq] at h; cases h
    | some q =>
      obtain ⟨rfl, rfl⟩ := key g q hq
      rw [hq] at h
      obtain ⟨e, he, hres, hor⟩ := copyE_some h
      injection hres with h1 h2
      subst h1; subst h2
      rcases hor with ⟨rfl, rfl⟩ | ⟨j, es, rfl, rfl, hes⟩
      · exact copied_calls he hi hr h0
      · exact copied_row he hes hi hr h0
theorem sound2 : SoundOk C2 := sound_ok (C := C2) ft nt eqS mo prim2_ok
theorem cE_nil : callA C2 68 [.i (.isl [])] [] = some (.nils, []) := by
  rw [callA_eq rfl Try.func68 rfl rfl]; simp
theorem cE_some {ks : List Ex} (h : ks ≠ []) (hl : ks.length < 1000000000) : callA C2 68 [.i (.isl (Ex.cellsL ks))] [] = some (.osl 0 5 0 ks.length, [some (.arr 5 (Ex.cellsL ks))]) := by
  rw [callA_eq rfl Try.func68 rfl rfl]
  have h1 : 56 * (ks.length : Int) ≤ 281474976710656 := by omega
  simp [h, h1]
  unfold over
  simp
theorem cI_nil : callA C2 69 [.i (.isl [])] [] = some (.nils, []) := by
  rw [callA_eq rfl Try.func69 rfl rfl]; simp
theorem cI_some {l : List Int} (h : l ≠ []) (hl : l.length < 1000000000) : callA C2 69 [.i (.isl (intsL l))] [] = some (.osl 0 1 0 l.length, [some (.arr 1 (intsL l))]) := by
  rw [callA_eq rfl Try.func69 rfl rfl]
  have h1 : 8 * (l.length : Int) ≤ 281474976710656 := by omega
  simp [h, h1]
  unfold over
  simp
theorem cP_nil : callA C2 77 [.i (.isl [])] [] = some (.nils, []) := by
  rw [callA_eq rfl Try.func77 rfl rfl]; simp
theorem cP_some {ks : List Pn} (h : ks ≠ []) (hl : ks.length < 1000000000) : callA C2 77 [.i (.isl (Pn.cellsL ks))] [] = some (.osl 0 5 0 ks.length, [some (.arr 5 (Pn.cellsL ks))]) := by
  rw [callA_eq rfl Try.func77 rfl rfl]
  have h1 : 88 * (ks.length : Int) ≤ 281474976710656 := by omega
  simp [h, h1]
  unfold over
  simp
theorem cX_row {e : Ex} {es : List (List IV)} {j : Nat} (h : e.size < 1000000000) (he : nthE es j = some e.cells) : callA C2 70 [.ownE 0 5 j 0] [some (.arr 5 es)] = some (.i (.agg e.cells), [some (.arr 5 es)]) := by
  rw [callA_prim (p := copyE) rfl]; exact copyE_row h (by rw [← nthE_eq]; exact he)
def zp : List AV := [.int 0, .int 0, .nils, .nils, .nils]
/-- The slots. -/
def EV (b3 : Nat) (v4 v5 v6 v7 v14 v38 v39 v40 v76 v77 v78 : AV) : List (Nat × AV) := [(0, .junk), (2, .own 0 0), (3, .i (ptr (b3, 0))), (4, v4), (5, v5), (6, v6), (7, v7), (14, v14), (38, v38), (39, v39), (40, v40), (76, v76), (77, v77), (78, v78)]
def rowsP (l : PL) : List (List IV) := l.map fun k => [ptr k.1]
/-- The state at the worklist's head. -/
def SLp (b3 : Nat) (todo X : PL) : AS := { env := EV b3 (.osl 1 1 0 todo.length) .junk .junk .junk .junk .junk .junk .junk .junk .junk .junk, st := [some (.box zp), some (.arr 1 (rowsP (todo ++ X)))] }
/-- The state while a place is the executor's. -/
def SRp (b3 n o : Nat) (ES : List (List IV)) (v6 v7 v14 v38 v39 v40 v76 v77 v78 : AV) (cells : List AV) (L : StL) : AS := { env := EV b3 (.osl 1 1 0 n) (.own 2 o) v6 v7 v14 v38 v39 v40 v76 v77 v78, st := some (.box zp) :: some (.arr 1 ES) :: some (.box cells) :: L }
theorem ptr_lits : ∀ (l : PL), ∀ c ∈ (rowsP l).flatten, ∃ v, c = .lit v
  | [], c, h => by simp [rowsP] at h
  | k :: l, c, h => by
    simp only [rowsP, List.map_cons, List.flatten_cons, List.mem_append, List.mem_singleton] at h
    rcases h with rfl | h
    · exact ⟨_, rfl⟩
    · exact ptr_lits l c h
theorem stOf_upd2 (a b x : Option Blk) : upd (stOf [a, b]) 2 x = stOf [a, b, x] := by
  funext i; rcases i with _ | _ | _ | i <;> simp [stOf, upd]
theorem envEV (b3 : Nat) (v4 v5 v5' v6 v7 v14 v38 v39 v40 v76 v77 v78 : AV) : upd (envOf (EV b3 v4 v5 v6 v7 v14 v38 v39 v40 v76 v77 v78)) 5 v5' = envOf (EV b3 v4 v5' v6 v7 v14 v38 v39 v40 v76 v77 v78) := by
  funext t
  simp only [upd, EV, envOf]
  by_cases h5 : t = 5
  · subst h5; simp
  · simp only [h5, if_false]
/-- What one round of the exprs' loop does. -/
def XS (b3 n : Nat) (ES : List (List IV)) (pre post : List Value) (k t : Int) (es : List Ex) (aC aK : AV) (v14 : AV) (i : Nat) : AS :=
  SRp b3 n pre.length ES (jk i (.int (i - 1))) .junk v14 (.int es.length) (.int i) (jk i (.bool true)) .junk .junk .junk (boxL pre [.int k, .int t, .osl 3 5 0 es.length, aC, aK] post) [some (.arr 5 (Ex.cellsL es))]
end Go.Proofs.Yteihcffblfdgfaa.G

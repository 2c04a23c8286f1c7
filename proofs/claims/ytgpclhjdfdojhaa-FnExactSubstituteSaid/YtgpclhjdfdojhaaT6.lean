/- Part 6 of what the proof rests on: the executor and what it is worth, and the program's functions as it runs them. No condition. -/
import Derived.Test.YtgpclhjdfdojhaaT5
set_option linter.unusedVariables false
set_option linter.unusedSimpArgs false
/- Bind, as the program has it. No condition. -/
namespace Go.Av
def constE (v : Val) : Ex := .mk 2 0 v []
theorem constE_cells (v : Val) : (constE v).cells = [.int 2, .int 0, .bool v.null, .int v.n, .isl []] := by simp [constE, Ex.cells, Ex.cellsL]
/-- What the columns are bound to. -/
def bindL (w : Nat) (vs : List Val) : List Ex := colsE w ++ vs.map constE
@[simp] theorem bindL_length (w : Nat) (vs : List Val) : (bindL w vs).length = w + vs.length := by simp [bindL]
theorem bindL_lo {w : Nat} {vs : List Val} {i : Nat} (h : i < w) : (bindL w vs)[i]? = some (colE i) := by
  unfold bindL; rw [List.getElem?_append_left (by simpa using h)]; exact colsE_get h
theorem bindL_hi {w : Nat} {vs : List Val} {i : Nat} {v : Val} (h : w ≤ i) (hv : vs[i - w]? = some v) : (bindL w vs)[i]? = some (constE v) := by
  unfold bindL; rw [List.getElem?_append_right (by simpa using h)]; simp [hv]
def Ex.bindO (e : Ex) (w : Int) (vs : List Val) : Option Ex := if vs.all Val.ok && (decide (1 ≤ w) && e.ok (w + vs.length)) then some (e.sub (bindL w.toNat vs)) else none
theorem bindL_thin (w : Nat) (vs : List Val) : ∀ b ∈ bindL w vs, b.thin := by
  intro b hb
  unfold bindL at hb
  rcases List.mem_append.1 hb with h | h
  · simp [colsE] at h; obtain ⟨i, _, rfl⟩ := h; simp [colE, Ex.thin, Ex.thinL]
  · obtain ⟨v, _, rfl⟩ := List.mem_map.1 h; simp [constE, Ex.thin, Ex.thinL]
end Go.Av
namespace Go.Proofs.Ytgpclhjdfdojhaa
open Go Go.Av
set_option maxRecDepth 4000
def bst (w : Int) (vs : List Val) : StL := [some (.box [.int w]), some (.box [.i (.isl (valsL vs))])]
theorem b1_hi {e : Ex} {w : Int} {vs : List Val} {v : Val} (hk : e.kind = 1) (h0 : w ≤ e.col) (hw : 0 ≤ w) (hc : e.col < 1000) (hv : vs[(e.col - w).toNat]? = some v) :
    callA C0 56 [.i (.iref e.cells), .own 0 0, .own 1 0] (bst w vs) = some (.i (.agg (constE v).cells), bst w vs) := by
  rw [callA_eq rfl Try.func56 rfl rfl]
  have r1 := (List.getElem?_eq_some_iff.1 hv).1
  have r2 := valsL_nth hv
  have w1 : IntKind.i64.wrap (e.col - w) = e.col - w := wrap64 (by omega) (by omega)
  have hcst := iconstant_eq v
  rw [show (Ex.mk 2 0 v []).cells = (constE v).cells from rfl] at hcst
  rw [Ex.cells_eq e]
  simp [bst, hk, h0, w1, r2, hcst, show e.col - w < vs.length by omega, show 0 ≤ e.col - w by omega]
theorem b1_lo {e : Ex} {w : Int} {vs : List Val} (hk : ¬ (e.kind = 1 ∧ w ≤ e.col)) (hs : e.size < 1000000000) :
    callA C0 56 [.i (.iref e.cells), .own 0 0, .own 1 0] (bst w vs) = some (.i (.agg e.cells), bst w vs) := by
  rw [callA_eq rfl Try.func56 rfl rfl]
  have hc := copied_eq hs
  rw [Ex.cells_eq] at hc ⊢
  by_cases h1 : e.kind = 1
  · have h2 : ¬ w ≤ e.col := fun h => hk ⟨h1, h⟩
    rw [h1] at hc
    simp [bst, h1, h2, hc]
  · simp [bst, h1, hc]
def RB (e : Ex) (w : Int) (vs : List Val) (f : Ex → Ex) (i : Nat) : AS :=
  { env := [(0, .i (.iref [.int e.kind, .int e.col, .bool e.val.null, .int e.val.n, .isl (Ex.cellsL e.kids)])), (1, .fn (.func 56) [.own 0 0, .own 1 0]), (4, .own 2 0), (5, .own 3 0), (6, jk i (.int (i - 1))), (12, .bool ((e.kids.length : Int) == 0)), (39, .int e.kids.length), (40, .int i), (41, jk i (.bool true))],
    st := [some (.box [.int w]), some (.box [.i (.isl (valsL vs))]), some (.box [.int 0, .int 0, .bool false, .int 0, .nils]), some (.box [.int e.kind, .int e.col, .bool e.val.null, .int e.val.n, .osl 4 5 0 e.kids.length]), some (.arr 5 (Ex.cellsL ((e.kids.map f).take i) ++ List.replicate (e.kids.length - i) zrow))] }
theorem repB_step {e : Ex} {w : Int} {vs : List Val} {f : Ex → Ex} (hk : e.kids ≠ []) (hl : e.kids.length < 1000000000) (ih : ∀ a ∈ e.kids, callA C0 43 [.i (.iref a.cells), .fn (.func 56) [.own 0 0, .own 1 0]] (bst w vs) = some (.i (.agg (f a).cells), bst w vs)) :
    callA C0 43 [.i (.iref e.cells), .fn (.func 56) [.own 0 0, .own 1 0]] (bst w vs) = some (.i (.agg (Ex.mk e.kind e.col e.val (e.kids.map f)).cells), bst w vs) := by
  rw [callA_eq rfl Try.func43 rfl rfl, Ex.cells_eq]
  have hb : 56 * (e.kids.length : Int) ≤ 281474976710656 := by omega
  simp only [bst] at ih ⊢
  simp [hk, hb]
  rw [loop_to (RB e w vs f) e.kids.length (by simp [RB, Ex.cellsL, zrow])]
  · rw [execA_loop]
    have ht : (e.kids.map f).take e.kids.length = e.kids.map f := List.take_of_length_le (by simp)
    simp [RB, Ex.cells, ht]
  · intro i hi
    have h3 := List.getElem?_eq_getElem hi
    have hm := List.mem_of_getElem? h3
    have hc := ih _ hm
    have r2 := Ex.cellsL_nth h3
    generalize e.kids[i] = a at h3 hc r2
    have w2 : IntKind.i64.wrap ((i : Int) + 1) = i + 1 := wrap64 (by omega) (by omega)
    rw [Ex.cells_eq] at hc r2
    have hD : (Ex.cellsL ((e.kids.map f).take i)).length = i := by simp; omega
    have hS : Ex.cellsL ((e.kids.map f).take i) ++ [(f a).cells] = Ex.cellsL ((e.kids.map f).take (i + 1)) := by rw [take_snoc (a := f a) (by simp [h3]), Ex.cellsL_snoc]
    have g1 := half_nth (n := e.kids.length) (z := zrow) hD hi
    have g2 := half_set (n := e.kids.length) (z := zrow) (x := (f a).cells) hD hi
    have g3 : splice zrow 0 (f a).cells = some (f a).cells := splice_all (by simp [zrow])
    rw [hS] at g2
    simp [RB, hi, r2, hc, w2, g1, g2, g3]
theorem repB_leaf {e x : Ex} {w : Int} {vs : List Val} (hk : e.kids = []) (h : callA C0 56 [.i (.iref e.cells), .own 0 0, .own 1 0] (bst w vs) = some (.i (.agg x.cells), bst w vs)) :
    callA C0 43 [.i (.iref e.cells), .fn (.func 56) [.own 0 0, .own 1 0]] (bst w vs) = some (.i (.agg x.cells), bst w vs) := by
  rw [callA_eq rfl Try.func43 rfl rfl]
  rw [Ex.cells_eq e] at h ⊢
  rw [Ex.cells_eq x] at h ⊢
  simp [hk, Ex.cellsL, bst] at h ⊢
  simp [h]
theorem replaced_bind {m : Int} (w : Nat) (vs : List Val) (hm : m = ((w + vs.length : Nat) : Int)) (hm6 : w + vs.length < 100) : ∀ (e : Ex), e.wf m = true → e.size < 1000000000 →
    callA C0 43 [.i (.iref e.cells), .fn (.func 56) [.own 0 0, .own 1 0]] (bst w vs) = some (.i (.agg (e.sub (bindL w vs)).cells), bst w vs) := by
  intro e
  induction e using Ex.ind with
  | h k c v ks ih =>
    intro hw hs
    have hsz := hs
    rw [Ex.size_eq] at hsz
    have hkl := Ex.sizeL_length ks
    by_cases hk : k = 1
    · obtain ⟨c0, c1, ck⟩ := Ex.wf_col hw hk
      by_cases hc : (w : Int) ≤ c
      · have hi : (c - w).toNat < vs.length := by simp [Ex.col] at c0 c1; omega
        have hv := List.getElem?_eq_getElem hi
        have hb : (bindL w vs)[c.toNat]? = some (constE vs[(c - w).toNat]) := bindL_hi (by omega) (by rw [← hv]; congr 1; simp [Ex.col] at c0; omega)
        rw [Ex.sub_col _ (e := .mk k c v ks) hk hb]
        exact repB_leaf ck (b1_hi (e := .mk k c v ks) hk hc (by omega) (by simp [Ex.col] at c0 c1 ⊢; omega) hv)
      · have hb : (bindL w vs)[c.toNat]? = some (colE c.toNat) := bindL_lo (by simp [Ex.col] at c0; omega)
        have hx := b1_lo (e := .mk k c v ks) (w := w) (vs := vs) (fun h => hc h.2) hs
        have heq : Ex.mk k c v ks = colE c.toNat := by
          rw [Ex.wf_eq] at hw
          simp [Ex.headOk, Ex.kind, Ex.col, Ex.val, hk, Ex.kids] at hw c0 ck
          obtain ⟨b, n⟩ := v
          simp at hw
          simp [colE, hk, ck, Val.zero, hw]; omega
        rw [Ex.sub_col _ (e := .mk k c v ks) hk hb, ← heq]
        exact repB_leaf ck hx
    · cases ks with
      | nil =>
        have hn := b1_lo (e := .mk k c v []) (w := w) (vs := vs) (fun h => hk h.1) hs
        rw [Ex.sub_not _ (e := .mk k c v []) hk]
        exact repB_leaf (e := .mk k c v []) rfl hn
      | cons a ks =>
        rw [Ex.sub_not _ (e := .mk k c v (a :: ks)) hk]
        refine repB_step (e := .mk k c v (a :: ks)) (by simp [Ex.kids]) (by simp only [Ex.kids] at hsz ⊢; omega) fun x hx => ih x hx (Ex.wf_kids hw hx) ?_
        have := Ex.sizeL_mem hx
        omega
end Go.Proofs.Ytgpclhjdfdojhaa

/- Bind, both ways. No condition. -/
namespace Go.Proofs.Ytgpclhjdfdojhaa
open Go Go.Av
set_option maxRecDepth 4000
set_option maxHeartbeats 1000000
def CF (n i : Nat) : AS :=
  { env := [(0, .int 0), (1, .int n), (4, .nils), (5, .osl 0 5 0 i), (6, .int i), (10, jk i (.bool true))], st := [some (.arr 5 (Ex.cellsL (colsE i)))] }
theorem colE_cells (i : Nat) : (colE i).cells = [.int 1, .int i, .bool false, .int 0, .isl []] := by simp [colE, Ex.cells, Ex.cellsL, Val.zero]
theorem columnsFrom_eq (n : Nat) (hn : n < 1000) : callA C0 62 [.int 0, .int n] [] = some (.osl 0 5 0 n, [some (.arr 5 (Ex.cellsL (colsE n)))]) := by
  rw [callA_eq rfl Try.func62 rfl rfl]
  simp
  rw [loop_to (CF n) n (by simp [CF, colsE, Ex.cellsL])]
  · rw [execA_loop]
    have h8 : (colsE n).take n = colsE n := List.take_of_length_le (by simp)
    simp [CF, h8]
  · intro i hi
    have w2 : IntKind.i64.wrap ((i : Int) + 1) = i + 1 := wrap64 (by omega) (by omega)
    have w3 : IntKind.i64.wrap (i : Int) = i := wrap64 (by omega) (by omega)
    have h8 : (colsE i).take i = colsE i := List.take_of_length_le (by simp)
    simp [CF, hi, w2, w3, h8, colsE_succ, Ex.cellsL_snoc, colE_cells, show (i + 1) * 56 ≤ 140737488355328 by omega]
def BX (e : Ex) (w : Int) (vs : List Val) (i : Nat) : AS :=
  { env := [(0, .i (.agg [.int e.kind, .int e.col, .bool e.val.null, .int e.val.n, .isl (Ex.cellsL e.kids)])), (1, .int w), (2, .i (.isl (valsL vs))), (3, .own 0 0), (4, .own 1 0), (5, .own 2 0), (6, .own 3 0), (7, .bool false), (9, if i = 0 then .junk else .own 4 0), (10, .i (.isl (valsL vs))), (11, .int vs.length), (12, .int i), (13, jk i (.bool true)), (18, jk i (.bool false)), (32, .junk)],
    st := some (.box [.int e.kind, .int e.col, .bool e.val.null, .int e.val.n, .i (.isl (Ex.cellsL e.kids))]) :: some (.box [.int w]) :: some (.box [.i (.isl (valsL vs))]) :: some (.box [.int 0, .int 0, .bool false, .int 0, .nils]) ::
      if i = 0 then [] else [some (.box [.bool ((vs[i - 1]?).getD Val.zero).null, .int ((vs[i - 1]?).getD Val.zero).n])] }
theorem ibind_eq {e : Ex} {w : Int} {vs : List Val} (hl : vs.length < 1000000000) (hw0 : -9223372036854775808 ≤ w) (hw1 : w < 9223372036854775808) : callA C0 19 [.i (.agg e.cells), .int w, .i (.isl (valsL vs))] [] = some (resE (e.bindO w vs), []) := by
  rw [callA_eq rfl Try.func19 rfl rfl]
  have hok := ok_eq (w + vs.length) e
  have hre : okWidth w = true → e.ok (w + vs.length) = true → callA C0 43 [.i (.iref e.cells), .fn (.func 56) [.own 0 0, .own 1 0]] (bst w vs) = some (.i (.agg (e.sub (bindL w.toNat vs)).cells), bst w vs) := by
    intro h1 h2
    have h6 : 1 ≤ w + vs.length ∧ w + vs.length ≤ 6 := by simp [Ex.ok, okWidth] at h2; omega
    have h7 : 1 ≤ w := by simp [okWidth] at h1; omega
    have hwf : e.wf (w + vs.length) = true := by simp [Ex.ok, Ex.vB_eq] at h2; exact h2.2.1
    obtain ⟨n, rfl⟩ : ∃ n : Nat, w = n := ⟨w.toNat, by omega⟩
    exact replaced_bind n vs (by simp) (by omega) e hwf (by have := Ex.ok_size h2; omega)
  rw [Ex.cells_eq e] at hok hre ⊢
  simp
  obtain ⟨j, h1, h2⟩ := upto_bad Val.ok vs
  rw [loop_to (BX e w vs) j (by simp [BX])]
  · rw [execA_loop]
    rcases h2 with ⟨hj, ha⟩ | ⟨v, h3, h4, h5, ha⟩
    · cases ho : okWidth w with
      | false =>
        have hn : (decide (1 ≤ w) && e.ok (w + vs.length)) = false := by
          simp [okWidth] at ho
          by_cases h1 : 1 ≤ w
          · have : okWidth (w + vs.length) = false := by simp [okWidth]; omega
            simp [Ex.ok, this]
          · simp [h1]
        have hB : e.bindO w vs = none := by simp only [Ex.bindO, ha, hn]; simp
        by_cases h0 : vs.length = 0
        · simp [BX, hj, h0, ho, hB, resE, zero_cells]
        · simp [BX, hj, h0, ho, hB, resE, zero_cells]
      | true =>
        have hw6 : w ≤ 6 := by simp [okWidth] at ho; omega
        have hw1 : 1 ≤ w := by simp [okWidth] at ho; omega
        have w1 : IntKind.i64.wrap (w + vs.length) = w + vs.length := wrap64 (by omega) (by omega)
        cases hk : e.ok (w + vs.length) with
        | false =>
          rw [hk] at hok
          have hB : e.bindO w vs = none := by simp only [Ex.bindO, ha, hk]; simp
          by_cases h0 : vs.length = 0
          · simp [h0] at hok w1
            simp [BX, hj, h0, ho, w1, hok, hB, resE, zero_cells]
          · simp [BX, hj, h0, ho, w1, hok, hB, resE, zero_cells]
        | true =>
          rw [hk] at hok
          have hr := hre ho hk
          simp only [bst] at hr
          have hB : e.bindO w vs = some (e.sub (bindL w.toNat vs)) := by simp only [Ex.bindO, ha, hk]; simp [hw1]
          by_cases h0 : vs.length = 0
          · have hv0 : vs = [] := List.length_eq_zero_iff.1 h0
            subst hv0
            simp at hok w1 hr
            simp [BX, hj, ho, w1, hok, hr, hB, resE]
          · simp [BX, hj, h0, ho, w1, hok, hr, hB, resE]
    · have r1 := (List.getElem?_eq_some_iff.1 h3).1
      have r2 := valsL_nth h3
      have r3 : Val.ok ⟨v.null, v.n⟩ = false := h5
      have hB : e.bindO w vs = none := by simp only [Ex.bindO, ha]; simp
      by_cases h0 : j = 0
      · subst h0; simp [BX, r1, r2, r3, hB, resE, zero_cells]
      · simp [BX, h0, r1, r2, r3, hB, resE, zero_cells]
  · intro i hi
    obtain ⟨v, h3, h4, h5⟩ := h1 i hi
    have r1 := (List.getElem?_eq_some_iff.1 h3).1
    have r2 := valsL_nth h3
    have r3 : Val.ok ⟨v.null, v.n⟩ = true := h5
    obtain ⟨_, hv⟩ := List.getElem?_eq_some_iff.1 h3
    have w2 : IntKind.i64.wrap ((i : Int) + 1) = i + 1 := wrap64 (by omega) (by omega)
    by_cases h0 : i = 0
    · subst h0; simp [BX, r1, r2, r3, hv, wrap_1]
    · simp [BX, h0, r1, r2, r3, hv, w2]
def SB (e : Ex) (w : Int) (vs : List Val) (i : Nat) : AS :=
  { env := [(0, .i (.agg [.int e.kind, .int e.col, .bool e.val.null, .int e.val.n, .isl (Ex.cellsL e.kids)])), (1, .int w), (2, .i (.isl (valsL vs))), (3, .own 0 0), (6, .own 1 0), (7, .bool false), (8, .int i), (9, .junk), (10, .junk), (14, jk i (.bool true)), (22, jk i (.bool false)), (34, .junk), (41, .junk)],
    st := [some (.box [.int e.kind, .int e.col, .bool e.val.null, .int e.val.n, .i (.isl (Ex.cellsL e.kids))]), some (.box [.int 0, .int 0, .bool false, .int 0, .nils])] }
def bindU (n : Nat) (vs : List Val) (i : Nat) : List Ex := colsE n ++ (vs.map constE).take i
theorem bindU_length (n : Nat) (vs : List Val) (i : Nat) : (bindU n vs i).length = n + min i vs.length := by simp [bindU]
theorem bindU_0 (n : Nat) (vs : List Val) : bindU n vs 0 = colsE n := by simp [bindU]
theorem bindU_all (n : Nat) (vs : List Val) : bindU n vs vs.length = bindL n vs := by unfold bindU bindL; rw [List.take_of_length_le (by simp)]
theorem bindU_succ {n : Nat} {vs : List Val} {i : Nat} {v : Val} (h : vs[i]? = some v) : bindU n vs (i + 1) = bindU n vs i ++ [constE v] := by
  unfold bindU; rw [take_snoc (a := constE v) (by simp [h]), List.append_assoc]
def SB2 (e : Ex) (w : Nat) (vs : List Val) (i : Nat) : AS :=
  { env := [(0, .i (.agg [.int e.kind, .int e.col, .bool e.val.null, .int e.val.n, .isl (Ex.cellsL e.kids)])), (1, .int w), (2, .i (.isl (valsL vs))), (3, .own 0 0), (6, .own 1 0), (7, .bool false), (8, .int vs.length), (9, .osl 2 5 0 (w + i)), (10, .int i), (14, .bool false), (22, jk vs.length (.bool false)), (34, .bool false), (41, jk i (.bool true))],
    st := [some (.box [.int e.kind, .int e.col, .bool e.val.null, .int e.val.n, .i (.isl (Ex.cellsL e.kids))]), some (.box [.int 0, .int 0, .bool false, .int 0, .nils]), some (.arr 5 (Ex.cellsL (bindU w vs i)))] }
theorem sbind_eq {e : Ex} {w : Int} {vs : List Val} (hl : vs.length < 1000000000) (hw0 : -9223372036854775808 ≤ w) (hw1 : w < 9223372036854775808) : callA C0 33 [.i (.agg e.cells), .int w, .i (.isl (valsL vs))] [] = some (resE (e.bindO w vs), []) := by
  rw [callA_eq rfl Try.func33 rfl rfl]
  obtain ⟨w', w1, hww⟩ : ∃ w', IntKind.i64.wrap (w + vs.length) = w' ∧ e.ok w' = e.ok (w + vs.length) := by
    by_cases hb : w + vs.length < 9223372036854775808
    · exact ⟨_, wrap64 (by omega) hb, rfl⟩
    · refine ⟨w + vs.length - 18446744073709551616, ?_, ?_⟩
      · simp [IntKind.wrap, IntKind.bits, IntKind.signed]
        omega
      · have a1 : okWidth (w + vs.length) = false := by simp [okWidth]; omega
        have a2 : okWidth (w + vs.length - 18446744073709551616) = false := by simp [okWidth]; omega
        simp [Ex.ok, a1, a2]
  have hok := sok_eq w' e
  rw [hww] at hok
  rw [Ex.cells_eq e] at hok ⊢
  simp
  obtain ⟨j, h1, h2⟩ := upto_bad Val.ok vs
  rw [loop_to (SB e w vs) j (by simp [SB])]
  · rw [execA_loop]
    rcases h2 with ⟨hj, ha⟩ | ⟨v, h3, h4, h5, ha⟩
    · by_cases hwp : w < 1
      · have hB : e.bindO w vs = none := by simp only [Ex.bindO, ha]; simp; intro h; omega
        simp [SB, hj, hwp, hB, resE, zero_cells]
      · cases hk : e.ok (w + vs.length) with
        | false =>
          rw [hk] at hok
          have hB : e.bindO w vs = none := by simp only [Ex.bindO, ha, hk]; simp
          simp [SB, hj, hwp, w1, hok, hB, resE, zero_cells]
        | true =>
          rw [hk] at hok
          have hB : e.bindO w vs = some (e.sub (bindL w.toNat vs)) := by simp only [Ex.bindO, ha, hk]; simp; omega
          obtain ⟨n, rfl⟩ : ∃ n : Nat, w = n := ⟨w.toNat, by omega⟩
          have h6 : 1 ≤ (n : Int) + vs.length ∧ (n : Int) + vs.length ≤ 6 := by simp [Ex.ok, okWidth] at hk; omega
          have hcf := columnsFrom_eq n (by omega)
          have hwf : e.wf ((n : Int) + vs.length) = true := by simp [Ex.ok, Ex.vB_eq] at hk; exact hk.2.1
          have hsz := Ex.ok_size hk
          have hsb := substitute_eq (bindL n vs) (bindL_thin n vs) e (Ex.thin_of_size e (by omega)) (by simpa using Ex.wf_colsB e hwf)
          rw [Ex.cells_eq e] at hsb
          simp [SB, hj, hwp, w1, hok, hcf]
          rw [loop_to (SB2 e n vs) vs.length (by simp [SB2, bindU_0])]
          · rw [execA_loop]
            have hT : (bindL n vs).take (n + vs.length) = bindL n vs := List.take_of_length_le (by simp)
            simp [SB2, bindU_all, hT, hsb, hB, resE]
          · intro i hi
            have h3 := List.getElem?_eq_getElem hi
            have r2 := valsL_nth h3
            have hcon := constant_eq vs[i]
            rw [show (Ex.mk 2 0 vs[i] []).cells = (constE vs[i]).cells from rfl] at hcon
            have hsn := bindU_succ (n := n) h3
            have w2 : IntKind.i64.wrap ((i : Int) + 1) = i + 1 := wrap64 (by omega) (by omega)
            have hl2 : (bindU n vs i).length = n + i := by rw [bindU_length]; omega
            have hT : (bindU n vs i).take (n + i) = bindU n vs i := List.take_of_length_le (by omega)
            generalize vs[i] = v at h3 r2 hcon hsn
            simp [SB2, hi, r2, hcon, w2, hT, hl2, hsn, Ex.cellsL_snoc, ← Nat.add_assoc, show (n + i + 1) * 56 ≤ 140737488355328 by omega]
    · have r1 := (List.getElem?_eq_some_iff.1 h3).1
      have r2 := valsL_nth h3
      have r3 : Val.ok ⟨v.null, v.n⟩ = false := h5
      have hB : e.bindO w vs = none := by simp only [Ex.bindO, ha]; simp
      simp [SB, r1, r2, r3, hB, resE, zero_cells]
  · intro i hi
    obtain ⟨v, h3, h4, h5⟩ := h1 i hi
    have r1 := (List.getElem?_eq_some_iff.1 h3).1
    have r2 := valsL_nth h3
    have r3 : Val.ok ⟨v.null, v.n⟩ = true := h5
    have w2 : IntKind.i64.wrap ((i : Int) + 1) = i + 1 := wrap64 (by omega) (by omega)
    simp [SB, r1, r2, r3, w2]
end Go.Proofs.Ytgpclhjdfdojhaa

/- Drawing the arguments of Bind. No condition. -/
namespace Go.Proofs.Ytgpclhjdfdojhaa
open Go Go.Av
set_option maxRecDepth 4000
set_option maxHeartbeats 2000000
/-- So many values, drawn one after the other. -/
theorem draws (l : List UInt8) (hl : l.length ≤ 2000) : ∀ (n : Nat) (p : Int), 0 ≤ p → p + 2 * n < 800000000 → ∃ (vs : List Val) (ps : Nat → Int), vs.length = n ∧ ps 0 = p ∧ (∀ i, i ≤ n → p ≤ ps i ∧ ps i ≤ p + 2 * i) ∧ ∀ i v, vs[i]? = some v → callA C0 69 [.own 0 0] [Rd l (ps i)] = some (.i (.agg [.bool v.null, .int v.n]), [Rd l (ps (i + 1))])
  | 0, p, h0, h1 => ⟨[], fun _ => p, rfl, rfl, fun i hi => by show p ≤ p ∧ p ≤ p + 2 * (i : Int); omega, fun i v h => by simp at h⟩
  | n + 1, p, h0, h1 => by
    obtain ⟨v, p1, hv, q1, q2⟩ := randomValue_eq l p h0 (by omega) hl
    obtain ⟨vs, ps, a1, a2, a3, a4⟩ := draws l hl n p1 (by omega) (by omega)
    refine ⟨v :: vs, fun i => match i with | 0 => p | i + 1 => ps i, by simp [a1], rfl, ?_, ?_⟩
    · intro i hi
      cases i with
      | zero => simp
      | succ i => have := a3 i (by omega); simp; omega
    · intro i u hu
      cases i with
      | zero => simp at hu; subst hu; simp only; rw [a2]; exact hv
      | succ i => exact a4 i u (by simpa using hu)
def SV (l : List UInt8) (vs : List Val) (ps : Nat → Int) (n : Nat) (i : Nat) : AS :=
  { env := [(0, .own 0 0), (2, .nils), (3, .osl 1 2 0 i), (4, .int ((n : Int) - i)), (9, jk i (.bool true)), (24, .junk)], st := [Rd l (ps i), some (.arr 2 (valsL (vs.take i)))] }
theorem someValues_eq (l : List UInt8) (hl : l.length ≤ 2000) (p : Int) (h0 : 0 ≤ p) (h1 : p < 700000000) : ∃ (vs : List Val) (p' : Int), callA C0 64 [.own 0 0] [Rd l p] = some (.osl 1 2 0 vs.length, [Rd l p', some (.arr 2 (valsL vs))]) ∧ vs.length ≤ 6 ∧ p ≤ p' ∧ p' ≤ p + 30 := by
  obtain ⟨k, hk, hk1, -⟩ := pick_eq l p 7 h0 (by omega) hl
  obtain ⟨k0, k1⟩ := hk1 (by omega)
  obtain ⟨n, rfl⟩ : ∃ n : Nat, k = n := ⟨k.toNat, by omega⟩
  obtain ⟨vs, ps, a1, a2, a3, a4⟩ := draws l hl n (p + 1) (by omega) (by omega)
  have b1 := a3 n (by omega)
  obtain ⟨t, ht, -, -⟩ := pick_eq l (ps n) 8 (by omega) (by omega) hl
  obtain ⟨z, pz, hz, z1, z2⟩ := anyValue_eq l (ps n + 1) (by omega) (by omega) hl
  have hT : vs.take n = vs := List.take_of_length_le (by omega)
  have hloop : ∀ i, i < n → ∀ v, vs[i]? = some v → vs.take (i + 1) = vs.take i ++ [v] := fun i _ v h => take_snoc h
  have key : ∀ (K : List Val) (q : Int), True := fun _ _ => trivial
  by_cases hn : n = 0
  · subst hn
    have hv : vs = [] := List.length_eq_zero_iff.1 a1
    subst hv
    refine ⟨[], p + 1, ?_, by simp, by omega, by omega⟩
    rw [callA_eq rfl Try.func64 rfl rfl]
    simp at hk
    simp [hk]
    rw [execA_loop]
    simp [valsL]
  · have hpos : (0 : Int) < n := by omega
    have hpn : 0 < n := by omega
    by_cases hg : t = 0
    · refine ⟨z :: vs.drop 1, pz, ?_, by simp; omega, by omega, by omega⟩
      rw [callA_eq rfl Try.func64 rfl rfl]
      simp [hk]
      rw [loop_to (SV l vs ps n) n (by simp [SV, a2, valsL])]
      · rw [execA_loop]
        cases vs with
        | nil => simp at a1; omega
        | cons v0 vs =>
          have hlen : vs.length + 1 = n := by simpa using a1
          simp [SV, hT, hpos, hpn, ht, hg, hz, valsL, hlen]
          omega
      · intro i hi
        have hi2 : i < vs.length := by omega
        have h3 := List.getElem?_eq_getElem hi2
        have hv := a4 i _ h3
        have hs := take_snoc h3
        generalize vs[i] = v at h3 hv hs
        have w2 : IntKind.i64.wrap ((n : Int) - i - 1) = n - i - 1 := wrap64 (by omega) (by omega)
        have hp : (0 : Int) < (n : Int) - i := by omega
        simp [SV, hi, hp, hv, hs, w2, valsL_snoc, List.take_take, show min i vs.length = i by omega, show (i + 1) * 16 ≤ 140737488355328 by omega, show (n : Int) - (i + 1) = n - i - 1 by omega]
    · refine ⟨vs, ps n + 1, ?_, by omega, by omega, by omega⟩
      rw [callA_eq rfl Try.func64 rfl rfl]
      simp [hk]
      rw [loop_to (SV l vs ps n) n (by simp [SV, a2, valsL])]
      · rw [execA_loop]
        simp [SV, hT, hpos, hpn, ht, hg, a1]
      · intro i hi
        have hi2 : i < vs.length := by omega
        have h3 := List.getElem?_eq_getElem hi2
        have hv := a4 i _ h3
        have hs := take_snoc h3
        generalize vs[i] = v at h3 hv hs
        have w2 : IntKind.i64.wrap ((n : Int) - i - 1) = n - i - 1 := wrap64 (by omega) (by omega)
        have hp : (0 : Int) < (n : Int) - i := by omega
        simp [SV, hi, hp, hv, hs, w2, valsL_snoc, List.take_take, show min i vs.length = i by omega, show (i + 1) * 16 ≤ 140737488355328 by omega, show (n : Int) - (i + 1) = n - i - 1 by omega]
end Go.Proofs.Ytgpclhjdfdojhaa

/- The law on bound values. No condition. -/
namespace Go.Av
def rowQ (m : Nat) (w : Nat) : List Val := (List.range w).map fun (i : Nat) => ⟨false, Int.tmod ((m : Int) + (i : Int)) 4 - 1⟩
@[simp] theorem rowQ_length (m w : Nat) : (rowQ m w).length = w := by simp [rowQ]
theorem rowQ_succ (m w : Nat) : rowQ m (w + 1) = rowQ m w ++ [⟨false, Int.tmod (m + w) 4 - 1⟩] := by simp [rowQ, List.range_succ]
theorem rowQ_ok (m w : Nat) : (rowQ m w).all Val.ok = true := by
  rw [List.all_eq_true]; intro v hv
  simp [rowQ] at hv
  obtain ⟨i, hi, rfl⟩ := hv
  have := Int.tmod_nonneg (a := (m : Int) + i) 4 (by omega)
  have := Int.tmod_lt_of_pos ((m : Int) + i) (b := 4) (by omega)
  simp [Val.ok]; omega
theorem colE_wf {w : Int} {i : Nat} (h : (i : Int) < w) : (colE i).wf w = true := by
  simp [Ex.wf_eq, colE, Ex.kids, Ex.kind, Ex.headOk, Ex.col, Ex.val, Val.zero, kidsK, h]
theorem constE_wf {w : Int} {v : Val} (h : v.ok = true) : (constE v).wf w = true := by
  simp [Ex.wf_eq, constE, Ex.kids, Ex.kind, Ex.headOk, Ex.col, Ex.val, kidsK, h]
theorem bindL_wf {w : Nat} {vs : List Val} (h : vs.all Val.ok = true) : ∀ b ∈ bindL w vs, b.wf w = true ∧ b.ht = 0 := by
  intro b hb
  unfold bindL at hb
  rcases List.mem_append.1 hb with h1 | h1
  · simp [colsE] at h1; obtain ⟨i, hi, rfl⟩ := h1; exact ⟨colE_wf (by omega), by simp [colE, Ex.ht, Ex.htL]⟩
  · obtain ⟨v, hv, rfl⟩ := List.mem_map.1 h1; exact ⟨constE_wf (List.all_eq_true.1 h v hv), by simp [constE, Ex.ht, Ex.htL]⟩
theorem sub_ht {m : Int} (l : List Ex) (hm : m = l.length) (hl : ∀ b ∈ l, b.ht = 0) : ∀ (e : Ex), e.wf m = true → (e.sub l).ht = e.ht := by
  intro e
  induction e using Ex.ind with
  | h k c v ks ih =>
    intro h
    by_cases hk : k = 1
    · obtain ⟨h0, h1, h2⟩ := Ex.wf_col h hk
      have hi : c.toNat < l.length := by simp [Ex.col] at h0 h1; omega
      have hb := List.getElem?_eq_getElem hi
      rw [Ex.sub_col l (e := .mk k c v ks) hk hb, hl _ (List.getElem_mem hi), Ex.ht_eq, h2]; rfl
    · rw [Ex.sub_not l (e := .mk k c v ks) hk]
      simp only [Ex.ht, Ex.kids]
      have : ∀ q : List Ex, (∀ x ∈ q, (Ex.sub l x).ht = x.ht) → Ex.htL (q.map (Ex.sub l)) = Ex.htL q := by
        intro q
        induction q with
        | nil => intro _; rfl
        | cons a q ihq => intro hq; simp only [List.map_cons, Ex.htL, hq a (by simp), ihq fun x hx => hq x (by simp [hx])]
      exact this ks fun x hx => ih x hx (Ex.wf_kids h hx)
theorem bind_ok {e : Ex} {w : Nat} {vs : List Val} (hw : okWidth w = true) (hv : vs.all Val.ok = true) (h : e.ok ((w : Int) + vs.length) = true) : (e.sub (bindL w vs)).ok w = true := by
  simp only [Ex.ok, Ex.vB_eq, Bool.and_eq_true, decide_eq_true_eq] at h ⊢
  have hlen : ((w : Int) + vs.length) = (bindL w vs).length := by simp
  refine ⟨hw, Ex.wf_sub (m := (w : Int) + vs.length) _ hlen (fun b hb => (bindL_wf hv b hb).1) e h.2.1, ?_⟩
  rw [sub_ht (m := (w : Int) + vs.length) _ hlen (fun b hb => (bindL_wf hv b hb).2) e h.2.1]
  exact h.2.2
theorem bind_ev {e : Ex} {w : Nat} {vs row : List Val} (hr : row.length = w) (h : e.wf ((w : Int) + vs.length) = true) : (e.sub (bindL w vs)).ev row = e.ev (row ++ vs) := by
  rw [ev_sub (m := (w : Int) + vs.length) _ (by simp) row e h]
  congr 1
  unfold bindL
  rw [List.map_append]
  congr 1
  · apply List.ext_getElem
    · simp [hr]
    · intro i h1 h2
      simp [colsE, colE, Ex.ev, evN, List.getElem?_eq_getElem h2]
  · rw [List.map_map]
    have : (Ex.ev row ∘ constE) = id := by funext v; simp [constE, Ex.ev, evN]
    rw [this, List.map_id]
end Go.Av
namespace Go.Proofs.Ytgpclhjdfdojhaa
open Go Go.Av
set_option maxRecDepth 4000
set_option maxHeartbeats 2000000
theorem drawBind_eq (code : List UInt8) : ∃ (e : Ex) (w : Int) (vs : List Val), callA C0 35 [.i (.isl (bytesI code))] [] = some (.tup [.i (.agg e.cells), .int w, .i (.isl (valsL vs))], []) ∧ e.size ≤ 39 ∧ vs.length ≤ 3 ∧ -10 < w ∧ w < 10 := by
  obtain ⟨c, hc, hr⟩ := newReader_eq code
  obtain ⟨k, hk, hk1, -⟩ := pick_eq c 0 3 (by omega) (by omega) hc
  obtain ⟨k0, k1⟩ := hk1 (by omega)
  have w1 : IntKind.i64.wrap (1 + k) = 1 + k := wrap64 (by omega) (by omega)
  simp at hk
  obtain ⟨vs, p1, hv, v1, v2, v3⟩ := someValues_eq c hc 1 (by omega) (by omega)
  by_cases hl : (3 : Int) < vs.length
  · have h3 : min 3 vs.length = 3 := by omega
    have hl' : 3 ≤ vs.length := by omega
    have w2 : IntKind.i64.wrap (1 + k + 3) = 1 + k + 3 := wrap64 (by omega) (by omega)
    obtain ⟨e, p2, he, a1, a2, a3⟩ := anyExpr_eq c hc (1 + k + 3) p1 (by omega) (by omega)
    obtain ⟨t, ht, -, -⟩ := pick_eq c p2 16 (by omega) (by omega) hc
    by_cases hg : t = 0
    · obtain ⟨x, hx, hm⟩ := one_eq c (p2 + 1) (by omega) (by omega) hc [[.int 0], [.int (-1)], [.int 6]] (by simp) (by simp) (by simp)
      refine ⟨e, x, vs.take 3, ?_, a3, by simp; omega, ?_⟩
      · rw [callA_eq rfl Try.func35 rfl rfl]
        simp at hx
        simp [hr, hk, w1, w2, hv, hl, Int.le_of_lt hl, h3, hl', he, ht, hg, hx]
      · simp at hm; omega
    · refine ⟨e, 1 + k, vs.take 3, ?_, a3, by simp; omega, by omega⟩
      rw [callA_eq rfl Try.func35 rfl rfl]
      simp [hr, hk, w1, w2, hv, hl, Int.le_of_lt hl, h3, hl', he, ht, hg]
  · have w2 : IntKind.i64.wrap (1 + k + vs.length) = 1 + k + vs.length := wrap64 (by omega) (by omega)
    have hT : vs.take vs.length = vs := List.take_of_length_le (by simp)
    obtain ⟨e, p2, he, a1, a2, a3⟩ := anyExpr_eq c hc (1 + k + vs.length) p1 (by omega) (by omega)
    obtain ⟨t, ht, -, -⟩ := pick_eq c p2 16 (by omega) (by omega) hc
    by_cases hg : t = 0
    · obtain ⟨x, hx, hm⟩ := one_eq c (p2 + 1) (by omega) (by omega) hc [[.int 0], [.int (-1)], [.int 6]] (by simp) (by simp) (by simp)
      refine ⟨e, x, vs, ?_, a3, by omega, ?_⟩
      · rw [callA_eq rfl Try.func35 rfl rfl]
        simp at hx
        simp [hr, hk, w1, w2, hv, hl, he, ht, hg, hx, hT]
      · simp at hm; omega
    · refine ⟨e, 1 + k, vs, ?_, a3, by omega, by omega⟩
      rw [callA_eq rfl Try.func35 rfl rfl]
      simp [hr, hk, w1, w2, hv, hl, he, ht, hg, hT]
def Y3 (code more : List UInt8) (e x : Ex) (n : Nat) (vs : List Val) (i : Nat) : AS :=
  { env := [(0, .i (.isl (bytesI code))), (1, .i (.isl (bytesI more))), (4, .bool false), (5, .own 0 0), (6, .int n), (7, .i (.isl (valsL vs))), (8, .own 1 0), (9, .bool true), (10, .own 2 0), (11, .bool true), (12, .osl 3 2 0 i), (13, .int i), (14, .junk), (15, .junk), (16, .junk), (17, .junk), (25, .bool false), (62, .bool false), (74, jk i (.bool true))],
    st := [some (.box (impI e.cells)), some (.box (impI x.cells)), some (.box (impI x.cells)), some (.arr 2 (valsL (rowQ more.length i)))] }
theorem law_bind (code more : List UInt8) : callA C0 8 [.i (.isl (bytesI code)), .i (.isl (bytesI more))] [] = some (.bool true, []) := by
  by_cases hc : (1048576 : Int) < code.length
  · rw [callA_eq rfl Try.func8 rfl rfl]
    simp [bytesI_length, hc]
  by_cases hm : (1048576 : Int) < more.length
  · rw [callA_eq rfl Try.func8 rfl rfl]
    simp [bytesI_length, hc, hm]
  obtain ⟨e, w, vs, hd, hs, hl, hw0, hw1⟩ := drawBind_eq code
  have h1 := ibind_eq (e := e) (w := w) (vs := vs) (by omega) (by omega) (by omega)
  have h2 := sbind_eq (e := e) (w := w) (vs := vs) (by omega) (by omega) (by omega)
  rw [resE_eq] at h1 h2
  rw [callA_eq rfl Try.func8 rfl rfl]
  cases ho : e.bindO w vs with
  | none =>
    rw [ho] at h1 h2
    have h3 := equalExprs_eq Ex.zero (by simp [Ex.zero, Ex.thin, Ex.thinL]) Ex.zero
    rw [Ex.eqb_refl] at h3
    simp [getE] at h1 h2
    simp [bytesI_length, hc, hm, hd, h1, h2, h3]
  | some x =>
    rw [ho] at h1 h2
    have hok : vs.all Val.ok = true ∧ 1 ≤ w ∧ e.ok (w + vs.length) = true ∧ x = e.sub (bindL w.toNat vs) := by
      unfold Ex.bindO at ho
      split at ho
      · rename_i h; simp at h; injection ho with ho; exact ⟨List.all_eq_true.2 h.1, h.2.1, h.2.2, ho.symm⟩
      · cases ho
    obtain ⟨o1, o2, o3, rfl⟩ := hok
    have h6 : 1 ≤ w + vs.length ∧ w + vs.length ≤ 6 := by simp [Ex.ok, okWidth] at o3; omega
    obtain ⟨n, rfl⟩ : ∃ n : Nat, w = n := ⟨w.toNat, by omega⟩
    have hwf : e.wf ((n : Int) + vs.length) = true := by simp [Ex.ok, Ex.vB_eq] at o3; exact o3.2.1
    have hxo := bind_ok (w := n) (by simp [okWidth]; omega) o1 o3
    have hxe := bind_ev (e := e) (w := n) (vs := vs) (row := rowQ more.length n) (by simp) hwf
    have h3 := equalExprs_eq (e.sub (bindL n vs)) (Ex.thin_of_size _ (by have := Ex.ok_size hxo; omega)) (e.sub (bindL n vs))
    rw [Ex.eqb_refl] at h3
    simp [getE] at h1 h2
    have hn6 : ¬ (6 : Int) < n := by omega
    simp [bytesI_length, hc, hm, hd, h1, h2, h3, hn6]
    have hrow : okRow (rowQ more.length n) = true := by
      have h1 := rowQ_ok more.length n
      have h2 : okWidth (rowQ more.length n).length = true := by simp [okWidth]; omega
      simp only [okRow, h1, h2, Bool.and_self]
    have hrow2 : okRow (rowQ more.length n ++ vs) = true := by
      have h1 := rowQ_ok more.length n
      have h2 : okWidth (rowQ more.length n ++ vs).length = true := by simp [okWidth]; omega
      simp only [okRow, List.all_append, h1, o1, h2, Bool.and_self]
    have hA := EvalExpr_eq (e.sub (bindL n vs)) (rowQ more.length n) (by simp; omega)
    simp only [hrow, rowQ_length, hxo, Bool.and_self, if_true, hxe] at hA
    have hB := EvalExpr_eq e (rowQ more.length n ++ vs) (by simp; omega)
    have hln : ((rowQ more.length n ++ vs).length : Int) = n + vs.length := by simp
    simp only [hrow2, hln, o3, Bool.and_self, if_true] at hB
    generalize e.sub (bindL n vs) = x at *
    rw [loop_to (Y3 code more e x n vs) n (by simp [Y3, rowQ, valsL])]
    · rw [execA_loop]
      have hT : (rowQ more.length n).take n = rowQ more.length n := List.take_of_length_le (by simp)
      have hT2 : (valsL (rowQ more.length n) ++ valsL vs).take (n + vs.length) = valsL (rowQ more.length n) ++ valsL vs := List.take_of_length_le (by simp)
      rw [valsL_append] at hB
      simp [Y3, hT, hT2, hA, hB, show (n + vs.length) * 16 ≤ 140737488355328 by omega, show n * 16 ≤ 140737488355328 by omega]
    · intro i hi
      have w2 : IntKind.i64.wrap ((i : Int) + 1) = i + 1 := wrap64 (by omega) (by omega)
      have w3 : IntKind.i64.wrap ((more.length : Int) + i) = more.length + i := wrap64 (by omega) (by omega)
      have b1 := Int.tmod_nonneg (a := (more.length : Int) + i) 4 (by omega)
      have b2 := Int.tmod_lt_of_pos ((more.length : Int) + i) (b := 4) (by omega)
      have w4 : IntKind.i64.wrap (((more.length : Int) + i).tmod 4 - 1) = ((more.length : Int) + i).tmod 4 - 1 := wrap64 (by omega) (by omega)
      have hT : (rowQ more.length i).take i = rowQ more.length i := List.take_of_length_le (by simp)
      simp [Y3, hi, w2, w3, w4, bytesI_length, rowQ_succ, valsL_snoc, hT, show (i + 1) * 16 ≤ 140737488355328 by omega]
end Go.Proofs.Ytgpclhjdfdojhaa

/- The context's ready contracts are right; the first law's contract. No condition. -/
namespace Go.Proofs.Ytgpclhjdfdojhaa
open Go Go.Av
theorem prim_only {g : FuncId} {q : List AV → StL → Option (AV × StL)} (h : C0.prim g = some q) : g = 45 ∧ q = copyE := by
  have h : primF g = some q := h
  unfold primF at h
  split at h
  · injection h with h; exact ⟨rfl, h.symm⟩
  · cases h
theorem prim0 : CallOk C0 (primCall C0) := by
  constructor
  · intro g args st p h
    unfold primCall at h
    cases hq : C0.prim g with
    | none => rw [hq] at h; cases h
    | some q =>
      obtain ⟨rfl, rfl⟩ := prim_only hq
      exact ⟨Try.f45, Try.func45, by decide, rfl⟩
  · intro g args stl r stl' h w m φ vs hi hr h0
    unfold primCall at h
    cases hq : C0.prim g with
    | none => rw [hq] at h; cases h
    | some q =>
      obtain ⟨rfl, rfl⟩ := prim_only hq
      rw [hq] at h
      obtain ⟨e, he, rfl, rfl, hres⟩ := copyE_some h
      injection hres with h1 h2
      subst h1; subst h2
      exact copied_calls he hi hr h0
theorem sound0 : SoundOk C0 := sound_ok (C := C0) ft nt (fun t ht => by
  have h : eqTy t = true := ht
  unfold eqTy at h
  split at h
  · exact e23
  · exact e24
  · exact e42
  · cases h) mo prim0
theorem law_cols_calls (a : Option Addr) (len cap : Nat) (zs : List Int) (w : World)
    (h : (a = none ∧ len = 0 ∧ cap = 0 ∧ zs = []) ∨ ∃ x, a = some x ∧ len ≤ cap ∧ cap ≤ maxLen ∧ zs.length = cap ∧ (∀ i, i < zs.length → w.cell? (x.add i) = some (.int .u8 (zs.getD i 0))) ∧ ∀ n ∈ zs, (Lit.int .u8 n).wf = true) :
    Calls Try.prog 3 #[.slice a len cap] w fun e w' => e = .returned (.bool true) ∧ RowKit.Below w.heap.size w w' := by
  obtain ⟨code, hc⟩ := bytes_rep h
  exact calls_true sound0 (.cons (.i hc) .nil) (law_cols code)
end Go.Proofs.Ytgpclhjdfdojhaa

/- The law on substitution and evaluation: its contract on the model. No condition. -/
namespace Go.Proofs.Ytgpclhjdfdojhaa
open Go Go.Av
/-- What is known of a slice of bytes that came in. -/
def InBytes (w : World) (a : Option Addr) (len cap : Nat) (zs : List Int) : Prop :=
  (a = none ∧ len = 0 ∧ cap = 0 ∧ zs = []) ∨ ∃ x, a = some x ∧ len ≤ cap ∧ cap ≤ maxLen ∧ zs.length = cap ∧ (∀ i, i < zs.length → w.cell? (x.add i) = some (.int .u8 (zs.getD i 0))) ∧ ∀ n ∈ zs, (Lit.int .u8 n).wf = true
theorem law_sub_calls (a : Option Addr) (len cap : Nat) (zs : List Int) (a' : Option Addr) (len' cap' : Nat) (zs' : List Int) (w : World) (h : InBytes w a len cap zs) (h' : InBytes w a' len' cap' zs') :
    Calls Try.prog 9 #[.slice a len cap, .slice a' len' cap'] w fun e w' => e = .returned (.bool true) ∧ RowKit.Below w.heap.size w w' := by
  obtain ⟨code, hc⟩ := bytes_rep h
  obtain ⟨more, hm⟩ := bytes_rep h'
  exact calls_true sound0 (.cons (.i hc) (.cons (.i hm) .nil)) (law_sub code more)
theorem law_bind_calls (a : Option Addr) (len cap : Nat) (zs : List Int) (a' : Option Addr) (len' cap' : Nat) (zs' : List Int) (w : World) (h : InBytes w a len cap zs) (h' : InBytes w a' len' cap' zs') :
    Calls Try.prog 8 #[.slice a len cap, .slice a' len' cap'] w fun e w' => e = .returned (.bool true) ∧ RowKit.Below w.heap.size w w' := by
  obtain ⟨code, hc⟩ := bytes_rep h
  obtain ⟨more, hm⟩ := bytes_rep h'
  exact calls_true sound0 (.cons (.i hc) (.cons (.i hm) .nil)) (law_bind code more)
end Go.Proofs.Ytgpclhjdfdojhaa

/- Values lent to a call: what it answers to what lies in memory, it answers; what it makes is put beside. No condition. -/
namespace Go.Av
/-! ### What a value in memory of its own looks like -/
def viewC (st : Store) : AV → Option IV
  | .i v => some v
  | .nils => some (.isl [])
  | .osl id k off len => bnd (absE k off len (st id)) fun es => some (.isl es)
  | _ => none
def viewCs (st : Store) : List AV → Option (List IV)
  | [] => some []
  | c :: r => bnd (viewC st c) fun v => bnd (viewCs st r) fun l => some (v :: l)
def viewA (st : Store) : AV → Option IV
  | .agg cs => bnd (viewCs st cs) fun l => some (.agg l)
  | v => viewC st v
def viewAs (st : Store) : List AV → Option (List AV)
  | [] => some []
  | c :: r => bnd (viewA st c) fun v => bnd (viewAs st r) fun l => some (.i v :: l)
/-- Nothing in it leads to memory that others may know. -/
def mfC : AV → Bool
  | .i v => bareC v
  | .nils => true
  | .osl _ _ _ _ => true
  | _ => false
def mfCs : List AV → Bool
  | [] => true
  | c :: r => mfC c && mfCs r
def mfR : AV → Bool
  | .agg cs => mfCs cs
  | .i (.agg cs) => bareL cs
  | v => mfC v
def mfRs : List AV → Bool
  | [] => true
  | c :: r => mfR c && mfRs r
def mfA : AV → Bool
  | .tup vs => mfRs vs
  | v => mfR v
def mfB : Option Blk → Bool
  | some (.arr _ es) => bareLL es
  | some (.tre _ _) => true
  | some (.box _) => false
  | some (.frz _ _) => false
  | some (.fbox _) => false
  | none => true
def mfSt : StL → Bool
  | [] => true
  | b :: r => mfB b && mfSt r
def shiftSt (L : Nat) : StL → StL
  | [] => []
  | b :: r => renB (fun j => some (j + L)) b :: shiftSt L r
/-- The call of a function to which values are lent. -/
def lend (call : CallF) (g : FuncId) (args : List AV) (st : StL) : Option (AV × StL) :=
  bnd (viewAs (stOf st) args) fun us => bnd (call g us []) fun p => tst (mfA p.1 && mfSt p.2) (some (ren (fun j => some (j + st.length)) p.1, st ++ shiftSt st.length p.2))

theorem TCells.toI {w : World} : ∀ {cs : List IV} {vs : List Value} {F : List Nat}, TCells w cs vs F → ICells (memOf w) cs vs
  | _, _, _, .nil => .nil
  | _, _, _, .lit o r => .cons (.lit _) o r.toI
  | _, _, _, .isl0 c r => .cons (.isl0 _ _ c) rfl r.toI
  | _, _, _, .isl (b := b) (k := k) (es := es) (us := us) hn ⟨T, hr⟩ hk hl hf hc g r => by
    refine .cons (.isl hn (elems_of_cells 0 hl g.toI fun j v hj => ?_) hc) rfl r.toI
    show w.cell? ⟨b, 0 + j, none⟩ = some v
    rw [Nat.zero_add, cell_row hr]
    rw [List.getElem?_take] at hj
    split at hj
    · exact hj
    · cases hj
theorem memOk_all {w : World} {m : Mem} (h : MemOk w m) : MLe m (memOf w) := fun b o v e => h b o v e
theorem viewC_sound {w : World} {m : Mem} {φ : Pl} {st : Store} {c : AV} {x : Value} {iv : IV} (hi : Inv w m φ st) (hr : Rep m φ c x) (ho : x.oneCell' = true) (h : viewC st c = some iv) : IRep (memOf w) iv x := by
  have key : ∀ {st1 : Store}, absC st c = some (iv, st1) → IRep (memOf w) iv x := by
    intro st1 h1
    obtain ⟨F, O, k⟩ := absC_sound hi hr ho h1
    cases k.cells.toI with
    | cons a _ _ => exact a
  unfold viewC at h
  split at h
  · injection h with h; subst h
    cases hr with
    | i hr => exact hr.mono (memOk_all hi.mem)
  · injection h with h; subst h
    exact key (st1 := st) rfl
  · obtain ⟨es, h1, h2⟩ := bnd_eq.1 h
    injection h2 with h2; subst h2
    exact key (by simp only [absC]; rw [h1]; rfl)
  · cases h
theorem viewCs_sound {w : World} {m : Mem} {φ : Pl} {st : Store} (hi : Inv w m φ st) : ∀ {cs : List AV} {xs : List Value} {l : List IV}, RepC m φ cs xs → viewCs st cs = some l → ICells (memOf w) l xs
  | [], _, l, .nil, h => by simp [viewCs] at h; subst h; exact .nil
  | c :: cs, _, l, .cons a o b, h => by
    simp only [viewCs] at h
    obtain ⟨v, h1, h2⟩ := bnd_eq.1 h
    obtain ⟨l', h3, h4⟩ := bnd_eq.1 h2
    injection h4 with h4; subst h4
    exact .cons (viewC_sound hi a o h1) o (viewCs_sound hi b h3)
theorem viewA_sound {w : World} {m : Mem} {φ : Pl} {st : Store} {c : AV} {x : Value} {iv : IV} (hi : Inv w m φ st) (hr : Rep m φ c x) (h : viewA st c = some iv) : IRep (memOf w) iv x := by
  cases c with
  | agg cs =>
    simp only [viewA] at h
    obtain ⟨l, h1, h2⟩ := bnd_eq.1 h
    injection h2 with h2; subst h2
    cases hr with
    | agg hc => exact .agg (viewCs_sound hi hc h1)
  | i v =>
    simp only [viewA, viewC] at h
    injection h with h; subst h
    cases hr with
    | i hr => exact hr.mono (memOk_all hi.mem)
  | nils => cases hr; exact viewC_sound hi .nils rfl (by simpa only [viewA] using h)
  | osl id k off len => cases hr with | osl a b c d e => exact viewC_sound hi (.osl a b c d e) rfl (by simpa only [viewA] using h)
  | _ => simp [viewA, viewC] at h
theorem viewAs_sound {w : World} {m : Mem} {φ : Pl} {st : Store} (hi : Inv w m φ st) : ∀ {cs us : List AV} {xs : List Value}, RepL m φ cs xs → viewAs st cs = some us → RepL (memOf w) (fun _ => none) us xs
  | [], us, _, .nil, h => by simp [viewAs] at h; subst h; exact .nil
  | c :: cs, us, _, .cons a b, h => by
    simp only [viewAs] at h
    obtain ⟨v, h1, h2⟩ := bnd_eq.1 h
    obtain ⟨l', h3, h4⟩ := bnd_eq.1 h2
    injection h4 with h4; subst h4
    exact .cons (.i (viewA_sound hi a h1)) (viewAs_sound hi b h3)
theorem bare_I {m m' : Mem} : ∀ {cs : List IV} {vs : List Value}, bareL cs = true → ICells m cs vs → ICells m' cs vs
  | [], _, _, .nil => .nil
  | c :: cs, _, h, .cons a o r => by
    simp only [bareL, Bool.and_eq_true] at h
    refine .cons ?_ o (bare_I h.2 r)
    cases a with
    | lit => exact .lit _
    | isl0 ao cap hc => exact .isl0 ao cap hc
    | isl hn => rename_i es _ _ _; cases es with | nil => exact absurd rfl hn | cons e es => simp [bareC] at h
    | agg => simp [bareC] at h
    | iref => simp [bareC] at h
theorem mfC_rep {m m' : Mem} {φ : Pl} {c : AV} {x : Value} (h : mfC c = true) (hr : Rep m φ c x) : Rep m' φ c x := by
  cases hr with
  | i hr =>
    simp only [mfC] at h
    cases hr with
    | lit => exact .i (.lit _)
    | isl0 ao cap hc => exact .i (.isl0 ao cap hc)
    | isl hn => rename_i es _ _ _; cases es with | nil => exact absurd rfl hn | cons e es => simp [bareC] at h
    | agg => simp [bareC] at h
    | iref => simp [bareC] at h
  | nils => exact .nils
  | osl a b c d e => exact .osl a b c d e
  | _ => simp [mfC] at h
theorem mfCs_rep {m m' : Mem} {φ : Pl} : ∀ {cs : List AV} {xs : List Value}, mfCs cs = true → RepC m φ cs xs → RepC m' φ cs xs
  | [], _, _, .nil => .nil
  | c :: cs, _, h, .cons a o b => by
    simp only [mfCs, Bool.and_eq_true] at h
    exact .cons (mfC_rep h.1 a) o (mfCs_rep h.2 b)
theorem mfR_rep {m m' : Mem} {φ : Pl} {c : AV} {x : Value} (h : mfR c = true) (hr : Rep m φ c x) : Rep m' φ c x := by
  cases c with
  | agg cs => cases hr with | agg hc => exact .agg (mfCs_rep (by simpa only [mfR] using h) hc)
  | i v =>
    cases v with
    | agg cs => cases hr with | i hr => cases hr with | agg hc => exact .i (.agg (bare_I (by simpa only [mfR] using h) hc))
    | _ => exact mfC_rep (by simpa only [mfR] using h) hr
  | _ => exact mfC_rep (by simpa only [mfR] using h) hr
theorem mfRs_rep {m m' : Mem} {φ : Pl} : ∀ {cs : List AV} {xs : List Value}, mfRs cs = true → RepL m φ cs xs → RepL m' φ cs xs
  | [], _, _, .nil => .nil
  | c :: cs, _, h, .cons a b => by
    simp only [mfRs, Bool.and_eq_true] at h
    exact .cons (mfR_rep h.1 a) (mfRs_rep h.2 b)
theorem mfA_rep {m m' : Mem} {φ : Pl} {c : AV} {x : Value} (h : mfA c = true) (hr : Rep m φ c x) : Rep m' φ c x := by
  cases c with
  | tup vs => cases hr with | tup hc => exact .tup (mfRs_rep (by simpa only [mfA] using h) hc)
  | _ => exact mfR_rep (by simpa only [mfA] using h) hr
theorem mfB_ok {w : World} {m m' : Mem} {φ ψ : Pl} {b : Nat} {n : Ext} {blk : Blk} (h : mfB (some blk) = true) (hn : ∀ f, n.own f → ∀ o, m' f o = none) (ho : n.own b) (hk : BlkOk w m φ b n blk) : BlkOk w m' ψ b n blk := by
  cases hk with
  | arr h1 h2 h3 h4 h5 h6 h7 h8 => exact .arr h1 h2 h3 h4 (bare_I (bareLL_flatten (by simpa only [mfB] using h)) h5) h6 (hn b ho) h8
  | tre h1 h2 h3 h4 h5 h6 h7 h8 h9 => exact .tre h1 h2 h3 h4 h5 h6 h7 h8 hn
  | _ => simp [mfB] at h
theorem mfSt_at : ∀ {l : StL} {j : Nat} {b : Option Blk}, mfSt l = true → l[j]? = some b → mfB b = true
  | [], _, _, _, h => by simp at h
  | a :: l, 0, b, h, k => by simp at k; subst k; simp only [mfSt, Bool.and_eq_true] at h; exact h.1
  | a :: l, j + 1, b, h, k => by simp only [mfSt, Bool.and_eq_true] at h; exact mfSt_at h.2 (by simpa using k)
theorem shiftSt_at (L : Nat) : ∀ (l : StL) (j : Nat), (shiftSt L l)[j]? = (l[j]?).map (renB fun j => some (j + L))
  | [], j => by simp [shiftSt]
  | a :: l, 0 => by simp [shiftSt]
  | a :: l, j + 1 => by simp [shiftSt, shiftSt_at L l j]
theorem shiftSt_length (L : Nat) : ∀ (l : StL), (shiftSt L l).length = l.length
  | [] => rfl
  | a :: l => by simp [shiftSt, shiftSt_length L l]
theorem lend_sound {C : Ctx} {call : CallF} (hcall : CallOk C call) {g : FuncId} {args : List AV} {stl stl' : StL} {r : AV} (h : lend call g args stl = some (r, stl')) :
    (∃ fn, C.P.funcs[g]? = some fn ∧ fn.name ≠ "runtime.NumGoroutine" ∧ fn.body.isSome = true) ∧ ∀ (w : World) (m : Mem) (φ : Pl) (vs : List Value), Inv w m φ (stOf stl) → RepL m φ args vs → (∀ id, φ id ≠ none → id < stl.length) →
      Calls C.P g vs.toArray w (CallPost w m φ r stl') := by
  unfold lend at h
  obtain ⟨us, h1, h2⟩ := bnd_eq.1 h
  obtain ⟨p, h3, h4⟩ := bnd_eq.1 h2
  obtain ⟨h5, h6⟩ := tst_eq.1 h4
  simp only [Bool.and_eq_true] at h5
  injection h6 with h6; injection h6 with h6 h7; subst h6; subst h7
  refine ⟨hcall.name _ _ _ _ h3, fun w m φ vs hi hr hb => ?_⟩
  refine (hcall.calls g us [] p.1 p.2 h3 w (memOf w) (fun _ => none) vs (inv0 w) (viewAs_sound hi hr h1) (fun id h => absurd rfl h)).mono ?_
  rintro e w' ⟨v, m', φ', rfl, j1, j2, j3, j4⟩
  generalize hL : stl.length = L at *
  let φ2 : Pl := fun j => if j < L then φ j else φ' (j - L)
  have hlow : ∀ j, j < L → φ2 j = φ j := fun j hj => by show (if j < L then φ j else φ' (j - L)) = _; rw [if_pos hj]
  have hhigh : ∀ j, φ2 (j + L) = φ' j := fun j => by show (if j + L < L then φ (j + L) else φ' (j + L - L)) = _; rw [if_neg (by omega)]; congr 1; omega
  have hren : Ren (fun j => some (j + L)) φ' φ2 := fun id j q e1 e2 => by injection e1 with e1; subst e1; rw [hhigh]; exact e2
  have hsame : ∀ f, f < w.heap.size → w'.heap[f]? = w.heap[f]? := fun f hf => j3.block f hf fun id b n e => by cases e
  have hnew : ∀ id b n f, φ' id = some (b, n) → n.own f → w.heap.size ≤ f := fun id b n f e ho => by
    rcases j3.pnew id b n f e ho with q | q
    · exact q
    · exact absurd (fun id b n e => by cases e) q
  have hmem : MemOk w' m := fun b o u e => by rw [cell_of_heap (hsame b (hi.mem.lt e))]; exact hi.mem b o u e
  have hmnone : ∀ f, w.heap.size ≤ f → ∀ o, m f o = none := fun f hf o => by
    cases hx : m f o with
    | none => rfl
    | some u => have := hi.mem.lt hx; omega
  have hp : PLe φ φ2 := fun id b n e => ⟨n, by rw [hlow id (hb id (by rw [e]; simp))]; exact e, rfl, fun _ h => h⟩
  -- which blocks there are
  have hst : ∀ j blk, stOf (stl ++ shiftSt L p.2) j = some blk → (j < L ∧ stOf stl j = some blk) ∨ ∃ i c, j = i + L ∧ stOf p.2 i = some c ∧ renB (fun j => some (j + L)) (some c) = some blk ∧ mfB (some c) = true := by
    intro j blk e
    rw [stOf_get] at e
    by_cases hj : j < L
    · rw [List.getElem?_append_left (by omega)] at e
      exact .inl ⟨hj, by rw [stOf_get]; exact e⟩
    · rw [List.getElem?_append_right (by omega), hL, shiftSt_at] at e
      cases hx : p.2[j - L]? with
      | none => rw [hx] at e; cases e
      | some b =>
        rw [hx] at e
        simp only [Option.map_some, Option.join_some] at e
        obtain ⟨c, rfl⟩ := renB_some e
        refine .inr ⟨j - L, c, by omega, by rw [stOf_get, hx]; rfl, e, mfSt_at h5.2 hx⟩
  refine ⟨v, m, φ2, rfl, ?_, ⟨hmem, ?_, ?_⟩, ⟨j3.size, j3.os, j3.tape, j3.output, fun b hb' _ => hsame b hb', .refl _, fun _ _ _ _ => rfl, hp, ?_⟩, ?_⟩
  · exact (mfA_rep h5.1 j1).ren hren
  · intro j blk e
    rcases hst j blk e with ⟨hj, e1⟩ | ⟨i, c, rfl, e1, e2, e3⟩
    · obtain ⟨b, n, q1, q2, q3⟩ := hi.live j blk e1
      exact ⟨b, n, by rw [hlow j hj]; exact q1, ⟨q2.1, fun f hf => Nat.lt_of_lt_of_le (q2.2 f hf) j3.size⟩, q3.mono q2.1 (fun f hf => hsame f (q2.2 f hf)) (.refl _) hp fun _ _ _ => rfl⟩
    · obtain ⟨b, n, q1, q2, q3⟩ := j2.live i c e1
      have q4 : BlkOk w' m φ' b n c := mfB_ok e3 (fun f hf => hmnone f (hnew i b n f q1 hf)) q2.1 q3
      exact ⟨b, n, by rw [hhigh]; exact q1, q2, BlkOk.ren hren (fun c' e' => by injection e' with e'; subst e'; exact q4) e2⟩
  · intro i j b b' n n' blk blk' f e1 e2 p1 p2 o1 o2
    rcases hst i blk e1 with ⟨hi1, k1⟩ | ⟨i1, c1, rfl, k1, _, _⟩
    · rw [hlow i hi1] at p1
      have hlt := (blk_own hi p1 k1).1.2 f o1
      rcases hst j blk' e2 with ⟨hj1, k2⟩ | ⟨i2, c2, rfl, k2, _, _⟩
      · rw [hlow j hj1] at p2
        exact hi.inj i j b b' n n' blk blk' f k1 k2 p1 p2 o1 o2
      · rw [hhigh] at p2
        have := hnew _ _ _ f p2 o2
        omega
    · rw [hhigh] at p1
      have hge := hnew _ _ _ f p1 o1
      rcases hst j blk' e2 with ⟨hj1, k2⟩ | ⟨i2, c2, rfl, k2, _, _⟩
      · rw [hlow j hj1] at p2
        have := (blk_own hi p2 k2).1.2 f o2
        omega
      · rw [hhigh] at p2
        rw [j2.inj i1 i2 b b' n n' _ _ f k1 k2 p1 p2 o1 o2]
  · intro id b n f e ho
    by_cases hj : id < L
    · rw [hlow id hj] at e; exact .inr (Free.not e ho)
    · have : id = (id - L) + L := by omega
      rw [this, hhigh] at e
      exact .inl (hnew _ _ _ f e ho)
  · intro id hne
    rw [List.length_append, shiftSt_length, hL]
    by_cases hj : id < L
    · omega
    · have : id = (id - L) + L := by omega
      rw [this, hhigh] at hne
      have := j4 _ hne
      omega
end Go.Av

/- The context in which slices are kept apart; sizes, equality. No condition. -/
namespace Go.Av
theorem first_bad (P : Nat → Prop) [DecidablePred P] : ∀ n : Nat, (∀ i, i < n → P i) ∨ ∃ j, j < n ∧ (∀ i, i < j → P i) ∧ ¬ P j
  | 0 => .inl fun i hi => by omega
  | n + 1 => by
    rcases first_bad P n with h | ⟨j, h1, h2, h3⟩
    · by_cases hn : P n
      · exact .inl fun i hi => by
          by_cases e : i = n
          · subst e; exact hn
          · exact h i (by omega)
      · exact .inr ⟨n, by omega, h, hn⟩
    · exact .inr ⟨j, by omega, h2, h3⟩
/-- What is left of a measure. -/
def leftOf (left : Int) (n : Nat) : Int := if (n : Int) ≤ left then left - n else -1
theorem sizeL_split (l : List Ex) {i : Nat} {a : Ex} (h : l[i]? = some a) : Ex.sizeL (l.take (i + 1)) = Ex.sizeL (l.take i) + a.size := by
  induction l generalizing i with
  | nil => simp at h
  | cons b l ih =>
    cases i with
    | zero => simp at h; subst h; simp [Ex.sizeL]
    | succ i => have := ih (i := i) (by simpa using h); simp only [List.take_succ_cons, Ex.sizeL] at this ⊢; omega
theorem sizeL_mono (l : List Ex) (i : Nat) : Ex.sizeL (l.take i) ≤ Ex.sizeL l := by
  induction l generalizing i with
  | nil => simp [Ex.sizeL]
  | cons b l ih =>
    cases i with
    | zero => simp [Ex.sizeL]
    | succ i => simp only [List.take_succ_cons, Ex.sizeL]; have := ih i; omega
theorem sizeL_take_le (l : List Ex) {i j : Nat} (h : i ≤ j) : Ex.sizeL (l.take i) ≤ Ex.sizeL (l.take j) := by
  have := sizeL_mono (l.take j) i
  rwa [List.take_take, Nat.min_eq_left h] at this
theorem sizeL_take_len : ∀ (l : List Ex) (i : Nat), i ≤ l.length → i ≤ Ex.sizeL (l.take i)
  | [], i, h => by simp at h; subst h; simp
  | a :: l, 0, _ => by simp
  | a :: l, i + 1, h => by
    have := sizeL_take_len l i (by simpa using h)
    have := Ex.size_pos a
    simp only [List.take_succ_cons, Ex.sizeL]; omega
end Go.Av
namespace Go.Proofs.Ytgpclhjdfdojhaa
open Go Go.Av
set_option maxRecDepth 4000
set_option maxHeartbeats 1000000
/-! ### How large an expression is -/
theorem szE_eq {e : Ex} {left : Int} (h : callA C0 21 [.i (.isl (Ex.cellsL e.kids)), .int left] [] = some (.int (leftOf left (Ex.sizeL e.kids)), [])) :
    callA C0 20 [.i (.agg e.cells), .int left] [] = some (.int (leftOf left (Ex.sizeL e.kids)), []) := by
  rw [callA_eq rfl Try.func20 rfl rfl, Ex.cells_eq]
  simp [h]
  by_cases h0 : leftOf left (Ex.sizeL e.kids) < 0
  · have : leftOf left (Ex.sizeL e.kids) = -1 := by unfold leftOf at h0 ⊢; split <;> rename_i hc <;> simp [hc] at h0 ⊢; omega
    simp [h0, this]
  · simp [h0]
def szI (l : List Ex) (left : Int) (i : Nat) : Int := left - l.length - (Ex.sizeL (l.take i) - i)
def SZ (l : List Ex) (left : Int) (i : Nat) : AS :=
  { env := [(0, .i (.isl (Ex.cellsL l))), (1, .int (szI l left i)), (4, .int 0), (5, .int i), (11, .bool false), (15, jk i (.bool true)), (25, jk i (.bool false))], st := [] }
theorem szS_step {l : List Ex} {left : Int} (h0 : 0 ≤ left) (h1 : left < 1000000000) (hl : l.length < 9223372036854775808)
    (ih : ∀ a ∈ l, ∀ left : Int, 0 ≤ left → left < 1000000000 → callA C0 20 [.i (.agg a.cells), .int left] [] = some (.int (leftOf left (Ex.sizeL a.kids)), [])) :
    callA C0 21 [.i (.isl (Ex.cellsL l)), .int left] [] = some (.int (leftOf left (Ex.sizeL l)), []) := by
  rw [callA_eq rfl Try.func21 rfl rfl]
  have w1 : IntKind.i64.wrap (left - l.length) = left - l.length := wrap64 (by omega) (by omega)
  have hsl := Ex.sizeL_length l
  by_cases hc : left - l.length < 0
  · have : ¬ ((Ex.sizeL l : Nat) : Int) ≤ left := by omega
    simp [w1, hc, leftOf, this]
  simp [w1, hc]
  have hpre : ∀ i, i < l.length → ∃ a, l[i]? = some a ∧ a ∈ l ∧ Ex.sizeL (l.take (i + 1)) = Ex.sizeL (l.take i) + (1 + Ex.sizeL a.kids) ∧ nthE (Ex.cellsL l) i = some a.cells := by
    intro i hi
    have h3 := List.getElem?_eq_getElem hi
    refine ⟨_, h3, List.mem_of_getElem? h3, ?_, Ex.cellsL_nth h3⟩
    rw [sizeL_split l h3, Ex.size_eq]
  have hround : ∀ i, i < l.length → 0 ≤ szI l left i → ∃ a : Ex, nthE (Ex.cellsL l) i = some a.cells ∧ callA C0 20 [.i (.agg a.cells), .int (szI l left i)] [] = some (.int (if 0 ≤ szI l left (i + 1) then szI l left (i + 1) else -1), []) := by
    intro i hi hs
    obtain ⟨a, h3, hm, hz, hn⟩ := hpre i hi
    have hti := sizeL_take_len l i (by omega)
    refine ⟨a, hn, ?_⟩
    rw [ih a hm _ hs (by unfold szI; omega)]
    congr 2
    unfold leftOf
    congr 1
    by_cases hle : ((Ex.sizeL a.kids : Nat) : Int) ≤ szI l left i
    · rw [if_pos hle, if_pos (by unfold szI at hle ⊢; omega)]; unfold szI; omega
    · rw [if_neg hle, if_neg (by unfold szI at hle ⊢; omega)]
  rcases first_bad (fun i => 0 ≤ szI l left (i + 1)) l.length with hall | ⟨j, hj, hlt, hbad⟩
  · rw [loop_to (SZ l left) l.length (by simp [SZ, szI, Ex.sizeL])]
    · rw [execA_loop]
      have hfin : leftOf left (Ex.sizeL l) = szI l left l.length := by
        have hT : l.take l.length = l := List.take_of_length_le (by simp)
        have hge : 0 ≤ szI l left l.length := by
          cases hn : l.length with
          | zero => unfold szI; rw [hn]; simp [Ex.sizeL]; omega
          | succ n => exact hn ▸ hall n (by omega)
        unfold leftOf; unfold szI at hge ⊢; rw [hT] at hge ⊢; rw [if_pos (by omega)]; omega
      rw [hfin]
      simp [SZ]
    · intro i hi
      have hs : 0 ≤ szI l left i := by
        cases i with
        | zero => unfold szI; simp [Ex.sizeL]; omega
        | succ i => exact hall i (by omega)
      obtain ⟨a, hn, hc⟩ := hround i hi hs
      have hs1 := hall i hi
      have hs1 : 0 ≤ szI l left (i + 1) := hs1
      rw [if_pos hs1] at hc
      have w2 : IntKind.i64.wrap ((i : Int) + 1) = i + 1 := wrap64 (by omega) (by omega)
      rw [Ex.cells_eq] at hn hc
      simp [SZ, hi, hn, hc, w2, show ¬ szI l left (i + 1) < 0 by omega]
  · have hsl2 : leftOf left (Ex.sizeL l) = -1 := by
      have hm := sizeL_mono l (j + 1)
      have hbad : ¬ 0 ≤ szI l left (j + 1) := hbad
      obtain ⟨a, h3, _, _, _⟩ := hpre j hj
      have hrest : Ex.sizeL (l.take (j + 1)) + (l.length - (j + 1)) ≤ Ex.sizeL l := by
        have e1 : Ex.sizeL l = Ex.sizeL (l.take (j + 1)) + Ex.sizeL (l.drop (j + 1)) := by
          have key : ∀ (n : Nat) (l : List Ex), Ex.sizeL l = Ex.sizeL (l.take n) + Ex.sizeL (l.drop n) := by
            intro n
            induction n with
            | zero => intro l; simp [Ex.sizeL]
            | succ n ih => intro l; cases l with
              | nil => simp [Ex.sizeL]
              | cons b l => simp only [List.take_succ_cons, List.drop_succ_cons, Ex.sizeL]; have := ih l; omega
          exact key _ _
        have e2 := Ex.sizeL_length (l.drop (j + 1))
        simp at e2; omega
      unfold leftOf; unfold szI at hbad; rw [if_neg (by omega)]
    rw [hsl2, loop_to (SZ l left) j (by simp [SZ, szI, Ex.sizeL])]
    · rw [execA_loop]
      have hs : 0 ≤ szI l left j := by
        cases j with
        | zero => unfold szI; simp [Ex.sizeL]; omega
        | succ j => exact hlt j (by omega)
      obtain ⟨a, hn, hc⟩ := hround j hj hs
      have hbad : ¬ 0 ≤ szI l left (j + 1) := hbad
      rw [if_neg hbad] at hc
      rw [Ex.cells_eq] at hn hc
      simp [SZ, hj, hn, hc]
    · intro i hi
      have hs : 0 ≤ szI l left i := by
        cases i with
        | zero => unfold szI; simp [Ex.sizeL]; omega
        | succ i => exact hlt i (by omega)
      obtain ⟨a, hn, hc⟩ := hround i (by omega) hs
      have hs1 : 0 ≤ szI l left (i + 1) := hlt i hi
      rw [if_pos hs1] at hc
      have w2 : IntKind.i64.wrap ((i : Int) + 1) = i + 1 := wrap64 (by omega) (by omega)
      rw [Ex.cells_eq] at hn hc
      simp [SZ, show i < l.length by omega, hn, hc, w2, show ¬ szI l left (i + 1) < 0 by omega]
end Go.Proofs.Ytgpclhjdfdojhaa

/- Sizes, equality, marks: what the law's own functions compute. No condition. -/
namespace Go.Av
mutual
/-- No list in it is longer than any memory holds. -/
def Ex.fat : Ex → Prop
  | .mk _ _ _ ks => ks.length < 9223372036854775808 ∧ Ex.fatL ks
def Ex.fatL : List Ex → Prop
  | [] => True
  | e :: es => e.fat ∧ Ex.fatL es
end
theorem Ex.fatL_iff : ∀ (l : List Ex), Ex.fatL l ↔ ∀ k ∈ l, k.fat
  | [] => by simp [Ex.fatL]
  | e :: es => by simp [Ex.fatL, Ex.fatL_iff es]
theorem Ex.fat_iff (e : Ex) : e.fat ↔ e.kids.length < 9223372036854775808 ∧ ∀ k ∈ e.kids, k.fat := by
  cases e; simp [Ex.fat, Ex.kids, Ex.fatL_iff]
mutual
/-- Numbers put into an expression, one after the other. -/
def Ex.markE (k : Int) : Ex → Ex
  | .mk _ _ _ ks => .mk k (k + 1) ⟨(k + 1 + 1).tmod 3 == 0, k + 1 + 1 + 1⟩ (Ex.markL (k + 1 + 1 + 1 + 1) ks)
def Ex.markL (k : Int) : List Ex → List Ex
  | [] => []
  | e :: es => Ex.markE k e :: Ex.markL (k + 4 * e.size) es
end
theorem Ex.markL_length : ∀ (l : List Ex) (k : Int), (Ex.markL k l).length = l.length
  | [], k => by simp [Ex.markL]
  | e :: es, k => by simp [Ex.markL, Ex.markL_length es]
theorem Ex.markL_nth : ∀ (l : List Ex) (k : Int) {i : Nat} {a : Ex}, l[i]? = some a → (Ex.markL k l)[i]? = some (Ex.markE (k + 4 * (Ex.sizeL (l.take i) : Nat)) a)
  | [], k, i, a, h => by simp at h
  | e :: es, k, 0, a, h => by simp at h; subst h; simp [Ex.markL, Ex.sizeL]
  | e :: es, k, i + 1, a, h => by
    have := Ex.markL_nth es (k + 4 * e.size) (i := i) (a := a) (by simpa using h)
    simp only [Ex.markL, List.getElem?_cons_succ, List.take_succ_cons, Ex.sizeL]
    rw [this]; congr 2; push_cast; omega
theorem Ex.markE_cells (k : Int) (a : Ex) : (Ex.markE k a).cells = [.int k, .int (k + 1), .bool ((k + 1 + 1).tmod 3 == 0), .int (k + 1 + 1 + 1), .isl (Ex.cellsL (Ex.markL (k + 1 + 1 + 1 + 1) a.kids))] := by
  cases a; simp [Ex.markE, Ex.cells, Ex.kids]
theorem Ex.markE_kids (k : Int) (a : Ex) : (Ex.markE k a).kids = Ex.markL (k + 1 + 1 + 1 + 1) a.kids := by cases a; simp [Ex.markE, Ex.kids]
end Go.Av
namespace Go.Proofs.Ytgpclhjdfdojhaa
open Go Go.Av
set_option maxRecDepth 4000
set_option maxHeartbeats 2000000
theorem sz_eq : ∀ (e : Ex), e.fat → ∀ left : Int, 0 ≤ left → left < 1000000000 → callA C0 20 [.i (.agg e.cells), .int left] [] = some (.int (leftOf left (Ex.sizeL e.kids)), []) := by
  intro e
  induction e using Ex.ind with
  | h k c v ks ih =>
    intro hf left h0 h1
    have hf' := (Ex.fat_iff _).1 hf
    exact szE_eq (szS_step h0 h1 hf'.1 fun a ha => ih a ha (hf'.2 a ha))
theorem szS_eq (l : List Ex) (hl : l.length < 9223372036854775808) (hf : ∀ a ∈ l, a.fat) (left : Int) (h0 : 0 ≤ left) (h1 : left < 1000000000) : callA C0 21 [.i (.isl (Ex.cellsL l)), .int left] [] = some (.int (leftOf left (Ex.sizeL l)), []) :=
  szS_step h0 h1 hl fun a ha => sz_eq a (hf a ha)
theorem szV_eq (vs : List Val) (hl : vs.length < 9223372036854775808) (left : Int) (h0 : 0 ≤ left) (h1 : left < 1000000000) : callA C0 32 [.i (.isl (valsL vs)), .int left] [] = some (.int (leftOf left vs.length), []) := by
  rw [callA_eq rfl Try.func32 rfl rfl]
  have w1 : IntKind.i64.wrap (left - vs.length) = left - vs.length := wrap64 (by omega) (by omega)
  by_cases hc : left - vs.length < 0
  · have : ¬ ((vs.length : Nat) : Int) ≤ left := by omega
    simp [w1, hc, leftOf, this]
  · have : ((vs.length : Nat) : Int) ≤ left := by omega
    simp [w1, hc, leftOf, this]
/-! ### Equality -/
theorem eqV_refl (v : Val) : callA C0 59 [.i (.agg [.bool v.null, .int v.n]), .i (.agg [.bool v.null, .int v.n])] [] = some (.bool true, []) := by
  rw [callA_eq rfl Try.func59 rfl rfl]
  simp
theorem eqE_of {e : Ex} (h : callA C0 25 [.i (.isl (Ex.cellsL e.kids)), .i (.isl (Ex.cellsL e.kids))] [] = some (.bool true, [])) : callA C0 24 [.i (.agg e.cells), .i (.agg e.cells)] [] = some (.bool true, []) := by
  rw [callA_eq rfl Try.func24 rfl rfl, Ex.cells_eq]
  have hv := eqV_refl e.val
  simp [hv, h]
def EQ (l : List Ex) (i : Nat) : AS :=
  { env := [(0, .i (.isl (Ex.cellsL l))), (1, .i (.isl (Ex.cellsL l))), (4, .bool false), (5, .int i), (10, .bool false), (14, jk i (.bool true)), (26, jk i (.bool false))], st := [] }
theorem eqS_of {l : List Ex} (hl : l.length < 9223372036854775808) (ih : ∀ a ∈ l, callA C0 24 [.i (.agg a.cells), .i (.agg a.cells)] [] = some (.bool true, [])) : callA C0 25 [.i (.isl (Ex.cellsL l)), .i (.isl (Ex.cellsL l))] [] = some (.bool true, []) := by
  rw [callA_eq rfl Try.func25 rfl rfl]
  simp
  rw [loop_to (EQ l) l.length (by simp [EQ])]
  · rw [execA_loop]
    simp [EQ]
  · intro i hi
    have h3 := List.getElem?_eq_getElem hi
    have hc := ih _ (List.mem_of_getElem? h3)
    have r2 := Ex.cellsL_nth h3
    generalize l[i] = a at h3 hc r2
    have w2 : IntKind.i64.wrap ((i : Int) + 1) = i + 1 := wrap64 (by omega) (by omega)
    rw [Ex.cells_eq] at hc r2
    simp [EQ, hi, r2, hc, w2]
theorem eqE_refl : ∀ (e : Ex), e.fat → callA C0 24 [.i (.agg e.cells), .i (.agg e.cells)] [] = some (.bool true, []) := by
  intro e
  induction e using Ex.ind with
  | h k c v ks ih =>
    intro hf
    have hf' := (Ex.fat_iff _).1 hf
    exact eqE_of (eqS_of hf'.1 fun a ha => ih a ha (hf'.2 a ha))
theorem eqS_refl (l : List Ex) (hl : l.length < 9223372036854775808) (hf : ∀ a ∈ l, a.fat) : callA C0 25 [.i (.isl (Ex.cellsL l)), .i (.isl (Ex.cellsL l))] [] = some (.bool true, []) := eqS_of hl fun a ha => eqE_refl a (hf a ha)
def EQV (l : List Val) (i : Nat) : AS :=
  { env := [(0, .i (.isl (valsL l))), (1, .i (.isl (valsL l))), (4, .bool false), (5, .int i), (10, .bool false), (14, jk i (.bool true)), (26, jk i (.bool false))], st := [] }
theorem eqVS_refl (l : List Val) (hl : l.length < 9223372036854775808) : callA C0 29 [.i (.isl (valsL l)), .i (.isl (valsL l))] [] = some (.bool true, []) := by
  rw [callA_eq rfl Try.func29 rfl rfl]
  simp
  rw [loop_to (EQV l) l.length (by simp [EQV])]
  · rw [execA_loop]
    simp [EQV]
  · intro i hi
    have h3 := List.getElem?_eq_getElem hi
    have r2 := valsL_nth h3
    have hc := eqV_refl l[i]
    generalize l[i] = a at h3 hc r2
    have w2 : IntKind.i64.wrap ((i : Int) + 1) = i + 1 := wrap64 (by omega) (by omega)
    simp [EQV, hi, r2, hc, w2]
/-! ### What is held -/
theorem heldE_of {e : Ex} {k q : Int} (hq : 0 ≤ q) (h : callA C0 60 [.i (.isl (Ex.cellsL e.kids)), .int k] [] = some (.int q, [])) : callA C0 28 [.i (.agg e.cells), .int k] [] = some (.int q, []) := by
  rw [callA_eq rfl Try.func28 rfl rfl, Ex.cells_eq]
  simp [h, show ¬ q < 0 by omega]
def HD (l : List Ex) (k : Int) (i : Nat) : AS :=
  { env := [(0, .i (.isl (Ex.cellsL (Ex.markL k l)))), (1, .int (k + 4 * (Ex.sizeL (l.take i) : Nat))), (4, .int 0), (5, .int i), (9, jk i (.bool true)), (18, jk i (.bool false)), (27, jk i (.bool false)), (39, jk i (.bool false)), (49, jk i (.bool false)), (60, jk i (.bool false))], st := [] }
theorem heldS_step {l : List Ex} {k : Int} (hk : 0 ≤ k) (hb : k + 4 * (Ex.sizeL l : Nat) < 1000000000000) (ih : ∀ a ∈ l, ∀ k : Int, 0 ≤ k → k + 4 * (Ex.sizeL a.kids : Nat) < 1000000000000 → callA C0 60 [.i (.isl (Ex.cellsL (Ex.markL k a.kids))), .int k] [] = some (.int (k + 4 * (Ex.sizeL a.kids : Nat)), [])) :
    callA C0 60 [.i (.isl (Ex.cellsL (Ex.markL k l))), .int k] [] = some (.int (k + 4 * (Ex.sizeL l : Nat)), []) := by
  rw [callA_eq rfl Try.func60 rfl rfl]
  have hlen := Ex.markL_length l k
  have hsl := Ex.sizeL_length l
  simp
  rw [loop_to (HD l k) l.length (by simp [HD, Ex.sizeL])]
  · rw [execA_loop]
    have hT : l.take l.length = l := List.take_of_length_le (by simp)
    simp [HD, hlen, hT]
  · intro i hi
    have h3 := List.getElem?_eq_getElem hi
    have r2 := Ex.cellsL_nth (Ex.markL_nth l k h3)
    have hz := sizeL_split l h3
    have hmono := sizeL_mono l (i + 1)
    have hm := List.mem_of_getElem? h3
    rw [Ex.size_eq] at hz
    generalize hq : k + 4 * ((Ex.sizeL (l.take i) : Nat) : Int) = q at r2
    have hc := ih _ hm (q + 1 + 1 + 1 + 1) (by omega) (by omega)
    generalize l[i] = a at h3 r2 hc hz
    rw [Ex.markE_cells] at r2
    have w2 : IntKind.i64.wrap ((i : Int) + 1) = i + 1 := wrap64 (by omega) (by omega)
    have w3 : IntKind.i64.wrap (q + 1) = q + 1 := wrap64 (by omega) (by omega)
    have w4 : IntKind.i64.wrap (q + 1 + 1) = q + 1 + 1 := wrap64 (by omega) (by omega)
    have w5 : IntKind.i64.wrap (q + 1 + 1 + 1) = q + 1 + 1 + 1 := wrap64 (by omega) (by omega)
    have w6 : IntKind.i64.wrap (q + 1 + 1 + 1 + 1) = q + 1 + 1 + 1 + 1 := wrap64 (by omega) (by omega)
    have hn : k + 4 * ((Ex.sizeL (l.take (i + 1)) : Nat) : Int) = q + 1 + 1 + 1 + 1 + 4 * (Ex.sizeL a.kids : Nat) := by rw [hz]; push_cast; omega
    have hneg : ¬ q + 1 + 1 + 1 + 1 + 4 * ((Ex.sizeL a.kids : Nat) : Int) < 0 := by omega
    simp [HD, hlen, hi, r2, hc, hq, hn, w2, w3, w4, w5, w6, hneg]
theorem heldS_eq : ∀ (e : Ex) (k : Int), 0 ≤ k → k + 4 * (Ex.sizeL e.kids : Nat) < 1000000000000 → callA C0 60 [.i (.isl (Ex.cellsL (Ex.markL k e.kids))), .int k] [] = some (.int (k + 4 * (Ex.sizeL e.kids : Nat)), []) := by
  intro e
  induction e using Ex.ind with
  | h k c v ks ih =>
    intro k hk hb
    exact heldS_step hk hb ih
/-- Numbers put into values. -/
def markV (k : Int) : List Val → List Val
  | [] => []
  | _ :: vs => ⟨k.tmod 3 == 0, k + 1⟩ :: markV (k + 1 + 1) vs
theorem markV_length : ∀ (l : List Val) (k : Int), (markV k l).length = l.length
  | [], _ => rfl
  | _ :: l, k => by simp [markV, markV_length l]
theorem markV_nth : ∀ (l : List Val) (k : Int) {i : Nat}, i < l.length → (markV k l)[i]? = some ⟨(k + 2 * i).tmod 3 == 0, k + 2 * i + 1⟩
  | [], k, i, h => by simp at h
  | _ :: l, k, 0, h => by simp [markV]
  | _ :: l, k, i + 1, h => by
    have := markV_nth l (k + 1 + 1) (i := i) (by simpa using h)
    simp only [markV, List.getElem?_cons_succ]; rw [this]
    rw [show k + 1 + 1 + 2 * (i : Int) = k + 2 * ((i + 1 : Nat) : Int) by push_cast; omega]
def HV (l : List Val) (k : Int) (i : Nat) : AS :=
  { env := [(0, .i (.isl (valsL (markV k l)))), (1, .int (k + 2 * i)), (4, .int 0), (5, .int i), (9, jk i (.bool true)), (20, jk i (.bool false)), (29, jk i (.bool false))], st := [] }
theorem heldV_eq (l : List Val) (k : Int) (hk : 0 ≤ k) (hk1 : k < 1000000000000) (hl : l.length < 1000000000) : callA C0 31 [.i (.isl (valsL (markV k l))), .int k] [] = some (.int (k + 2 * (l.length : Nat)), []) := by
  rw [callA_eq rfl Try.func31 rfl rfl]
  have hlen := markV_length l k
  simp
  rw [loop_to (HV l k) l.length (by simp [HV])]
  · rw [execA_loop]
    simp [HV, hlen]
  · intro i hi
    have r2 := valsL_nth (markV_nth l k hi)
    have w2 : IntKind.i64.wrap ((i : Int) + 1) = i + 1 := wrap64 (by omega) (by omega)
    generalize hq : k + 2 * (i : Int) = q at r2
    have w3 : IntKind.i64.wrap (q + 1) = q + 1 := wrap64 (by omega) (by omega)
    have w4 : IntKind.i64.wrap (q + 1 + 1) = q + 1 + 1 := wrap64 (by omega) (by omega)
    have hn : k + 2 * (((i : Nat) : Int) + 1) = q + 1 + 1 := by omega
    simp [HV, hlen, hi, r2, hq, hn, w2, w3, w4]
end Go.Proofs.Ytgpclhjdfdojhaa

/- The context in which slices are kept apart; what is made in it. No condition. -/
namespace Go.Av
/-- A list of expressions in memory of its own. -/
def treB (l : List Ex) : Blk := if l = [] then .arr 5 [] else .tre 5 (Ex.cellsL l)
@[simp] theorem renB_treB (r : Nat → Option Nat) (l : List Ex) : renB r (some (treB l)) = some (treB l) := by unfold treB; split <;> rfl
@[simp] theorem idsOfB_treB (l : List Ex) : idsOfB (some (treB l)) = [] := by unfold treB; split <;> rfl
@[simp] theorem mfB_treB (l : List Ex) : mfB (some (treB l)) = true := by unfold treB; split <;> rfl
@[simp] theorem absE_treB (l : List Ex) : absE 5 0 l.length (some (treB l)) = some (Ex.cellsL l) := by
  unfold treB; split
  · rename_i h; subst h; simp [absE, Ex.cellsL, bareLL]
  · simp [absE]
theorem treB_nil : treB [] = .arr 5 [] := by simp [treB]
theorem treB_pos {l : List Ex} (h : l ≠ []) : treB l = .tre 5 (Ex.cellsL l) := by simp [treB, h]
/-- An expression whose kids lie in a block. -/
def tX (e : Ex) (j : Nat) : AV := .agg [.int e.kind, .int e.col, .bool e.val.null, .int e.val.n, .osl j 5 0 e.kids.length]
end Go.Av
namespace Go.Proofs.Ytgpclhjdfdojhaa
open Go Go.Av
set_option maxRecDepth 4000
set_option maxHeartbeats 2000000
noncomputable def primT : FuncId → Option (List AV → StL → Option (AV × StL))
  | 22 => none
  | 23 => none
  | 34 => none
  | 43 => none
  | 19 => none
  | 16 => none
  | g => some (callA C0 g)
def keepT : FuncId → Bool
  | 22 => true
  | 23 => true
  | 34 => true
  | 43 => true
  | 19 => true
  | 16 => true
  | g => keepR g
noncomputable def CT : Ctx := { P := Try.prog, G := GS, ownArgs := ownA, keepRes := keepT, eqT := eqTy, prim := primT, tree := true }
@[simp] theorem CT_P : CT.P = Try.prog := (rfl)
@[simp] theorem CT_G (f) : CT.G f = GS f := (rfl)
@[simp] theorem CT_o (f) : CT.ownArgs f = ownA f := (rfl)
@[simp] theorem CT_k (f) : CT.keepRes f = keepT f := (rfl)
@[simp] theorem CT_e (f) : CT.eqT f = eqTy f := (rfl)
@[simp] theorem CT_t : CT.tree = true := (rfl)
@[simp] theorem kT1 : keepT 22 = true := (rfl)
@[simp] theorem kT2 : keepT 23 = true := (rfl)
@[simp] theorem kT3 : keepT 34 = true := (rfl)
@[simp] theorem kT4 : keepT 43 = true := (rfl)
@[simp] theorem kT5 : keepT 19 = true := (rfl)
@[simp] theorem kT6 : keepT 16 = true := (rfl)
@[simp] theorem ct1 (args : List AV) (st : StL) : callA CT 58 args st = callA C0 58 args st := callA_prim (C := CT) rfl args st
@[simp] theorem ct2 (args : List AV) (st : StL) : callA CT 14 args st = callA C0 14 args st := callA_prim (C := CT) rfl args st
@[simp] theorem ct3 (args : List AV) (st : StL) : callA CT 49 args st = callA C0 49 args st := callA_prim (C := CT) rfl args st
@[simp] theorem ct4 (args : List AV) (st : StL) : callA CT 55 args st = callA C0 55 args st := callA_prim (C := CT) rfl args st
@[simp] theorem ct5 (args : List AV) (st : StL) : callA CT 56 args st = callA C0 56 args st := callA_prim (C := CT) rfl args st
@[simp] theorem ct6 (args : List AV) (st : StL) : callA CT 52 args st = callA C0 52 args st := callA_prim (C := CT) rfl args st
theorem primT0 : CallOk CT (primCall CT) := by
  have h0 := callA_sound sound0
  have key : ∀ g q, CT.prim g = some q → q = callA C0 g := by
    intro g q h
    have h : primT g = some q := h
    unfold primT at h
    split at h <;> first | (cases h; done) | (injection h with h; exact h.symm)
  constructor
  · intro g args st p h
    unfold primCall at h
    cases hq : CT.prim g with
    | none => rw [hq] at h; cases h
    | some q => rw [hq] at h; rw [key g q hq] at h; exact h0.name g args st p h
  · intro g args st r st' h
    unfold primCall at h
    cases hq : CT.prim g with
    | none => rw [hq] at h; cases h
    | some q => rw [hq] at h; rw [key g q hq] at h; exact h0.calls g args st r st' h
theorem soundT : SoundOk CT := sound_ok (C := CT) ft nt (fun t ht => by
  have h : eqTy t = true := ht
  unfold eqTy at h
  split at h
  · exact e23
  · exact e24
  · exact e42
  · cases h) mo primT0
/-! ### Copies of what came in -/
theorem toV_eq (v : Val) : callA C0 58 [.i (.agg [.bool v.null, .int v.n])] [] = some (.i (.agg [.bool v.null, .int v.n]), []) := by
  rw [callA_eq rfl Try.func58 rfl rfl]
  simp
theorem toE_of {e : Ex} (h : callA CT 23 [.i (.isl (Ex.cellsL e.kids))] [] = some (.osl 0 5 0 e.kids.length, [some (treB e.kids)])) : callA CT 22 [.i (.agg e.cells)] [] = some (tX e 0, [some (treB e.kids)]) := by
  rw [callA_eq rfl Try.func22 rfl rfl, Ex.cells_eq]
  have hv := toV_eq e.val
  simp [hv, h, tX]
/-- The array when so many elements are made. -/
def halfT (l : List Ex) (n : Nat) : Nat → Blk
  | 0 => .arr 5 (List.replicate n zrow)
  | i + 1 => .tre 5 (Ex.cellsL (l.take (i + 1)) ++ List.replicate (n - (i + 1)) zrow)
theorem halfT_end {l : List Ex} {n : Nat} (h : l.length = n) : halfT l n n = treB l := by
  subst h
  cases hl : l.length with
  | zero => have := List.length_eq_zero_iff.1 hl; subst this; simp [halfT, treB]
  | succ n =>
    have hT : l.take (n + 1) = l := List.take_of_length_le (by omega)
    have hne : l ≠ [] := fun h => by subst h; simp at hl
    simp [halfT, treB_pos hne, hT]
@[simp] theorem renB_halfT (r : Nat → Option Nat) (l : List Ex) (n : Nat) : ∀ i, renB r (some (halfT l n i)) = some (halfT l n i)
  | 0 => rfl
  | _ + 1 => rfl
@[simp] theorem idsOfB_halfT (l : List Ex) (n : Nat) : ∀ i, idsOfB (some (halfT l n i)) = []
  | 0 => rfl
  | _ + 1 => rfl
theorem halfT_put {l : List Ex} {n i : Nat} {a : Ex} (ha : l[i]? = some a) (hn : i < n) (id : Nat) (st : Store) :
    storeTE id 5 i 0 a.cells st (some (halfT l n i)) = some (upd st id (some (halfT l n (i + 1)))) := by
  have hil := (List.getElem?_eq_some_iff.1 ha).1
  have hS : Ex.cellsL (l.take i) ++ [a.cells] = Ex.cellsL (l.take (i + 1)) := by rw [take_snoc ha, Ex.cellsL_snoc]
  have hD : (Ex.cellsL (l.take i)).length = i := by simp; omega
  have g1 := half_nth (n := n) (z := zrow) hD hn
  have g2 := half_set (n := n) (z := zrow) (x := a.cells) hD hn
  have g3 : splice zrow 0 a.cells = some a.cells := splice_all (by simp [zrow, Ex.cells_eq])
  rw [hS] at g2
  have hl : litsL a.cells = false := by rw [Ex.cells_eq]; simp [litsL, litC]
  cases i with
  | zero =>
    simp [Ex.cellsL] at g1 g2
    simp [halfT, g1, g3, hl, g2, show bareL zrow = true by simp [zrow]]
  | succ i => simp [halfT, g1, g2, g3]
def TS (l : List Ex) (i : Nat) : AS :=
  { env := [(0, .i (.isl (Ex.cellsL l))), (2, .nils), (3, .osl 0 5 0 l.length), (4, .int i), (11, jk i (.bool true))], st := [some (halfT l l.length i)] }
theorem toS_of {l : List Ex} (hl : l.length < 1000000000) (ih : ∀ a ∈ l, callA CT 22 [.i (.agg a.cells)] [] = some (tX a 0, [some (treB a.kids)])) : callA CT 23 [.i (.isl (Ex.cellsL l))] [] = some (.osl 0 5 0 l.length, [some (treB l)]) := by
  rw [callA_eq rfl Try.func23 rfl rfl]
  have hb : 56 * (l.length : Int) ≤ 281474976710656 := by omega
  simp [hb]
  rw [loop_to (TS l) l.length (by simp [TS, halfT, zrow])]
  · rw [execA_loop]
    simp [TS, halfT_end rfl]
  · intro i hi
    have h3 := List.getElem?_eq_getElem hi
    have hc := ih _ (List.mem_of_getElem? h3)
    have r2 := Ex.cellsL_nth h3
    have hput := halfT_put (n := l.length) h3 hi
    generalize l[i] = a at h3 hc r2 hput
    have w2 : IntKind.i64.wrap ((i : Int) + 1) = i + 1 := wrap64 (by omega) (by omega)
    rw [Ex.cells_eq] at hc r2
    simp only [Ex.cells_eq] at hput
    simp [TS, hi, r2, hc, tX, w2, hput]
theorem toE_eq : ∀ (e : Ex), e.thin → callA CT 22 [.i (.agg e.cells)] [] = some (tX e 0, [some (treB e.kids)]) := by
  intro e
  induction e using Ex.ind with
  | h k c v ks ih =>
    intro ht
    have ht' := (Ex.thin_iff _).1 ht
    exact toE_of (toS_of ht'.1 fun a ha => ih a ha (ht'.2 a ha))
theorem toS_eq (l : List Ex) (hl : l.length < 1000000000) (ht : ∀ a ∈ l, a.thin) : callA CT 23 [.i (.isl (Ex.cellsL l))] [] = some (.osl 0 5 0 l.length, [some (treB l)]) := toS_of hl fun a ha => toE_eq a (ht a ha)
def TV (l : List Val) (i : Nat) : AS :=
  { env := [(0, .i (.isl (valsL l))), (2, .nils), (3, .osl 0 2 0 l.length), (4, .int i), (11, jk i (.bool true))], st := [some (.arr 2 (valsL (l.take i) ++ List.replicate (l.length - i) [.bool false, .int 0]))] }
theorem toVS_eq (l : List Val) (hl : l.length < 1000000000) : callA CT 34 [.i (.isl (valsL l))] [] = some (.osl 0 2 0 l.length, [some (.arr 2 (valsL l))]) := by
  rw [callA_eq rfl Try.func34 rfl rfl]
  have hb : 16 * (l.length : Int) ≤ 281474976710656 := by omega
  simp [hb]
  rw [loop_to (TV l) l.length (by simp [TV, valsL])]
  · rw [execA_loop]
    have hT : l.take l.length = l := List.take_of_length_le (by simp)
    simp [TV, hT]
  · intro i hi
    have h3 := List.getElem?_eq_getElem hi
    have r2 := valsL_nth h3
    have hc := toV_eq l[i]
    have hS : valsL (l.take i) ++ [[.bool l[i].null, .int l[i].n]] = valsL (l.take (i + 1)) := by rw [take_snoc h3, valsL_snoc]
    generalize l[i] = a at h3 hc r2 hS
    have hD : (valsL (l.take i)).length = i := by simp; omega
    have g1 := half_nth (n := l.length) (z := [IV.bool false, IV.int 0]) hD hi
    have g2 := half_set (n := l.length) (z := [IV.bool false, IV.int 0]) (x := [.bool a.null, .int a.n]) hD hi
    rw [hS] at g2
    have w2 : IntKind.i64.wrap ((i : Int) + 1) = i + 1 := wrap64 (by omega) (by omega)
    simp [TV, hi, r2, hc, w2, g1, g2]
end Go.Proofs.Ytgpclhjdfdojhaa

/- Bind where slices are kept apart. No condition. -/
namespace Go.Av
/-- An expression that was made: without kids it is a tree of cells, else its kids lie in a block behind the others. -/
theorem kids_mk (k c : Int) (v : Val) (ks : List Ex) : (Ex.mk k c v ks).kids = ks := (rfl)
theorem tX_mk (k c : Int) (v : Val) (ks : List Ex) (j : Nat) : tX (Ex.mk k c v ks) j = .agg [.int k, .int c, .bool v.null, .int v.n, .osl j 5 0 ks.length] := (rfl)
def rX (x : Ex) (st : StL) : AV × StL := if x.kids = [] then (.i (.agg x.cells), st) else (tX x st.length, st ++ [some (treB x.kids)])
theorem rX_nil {x : Ex} (h : x.kids = []) (st : StL) : rX x st = (.i (.agg x.cells), st) := by simp [rX, h]
theorem rX_pos {x : Ex} (h : x.kids ≠ []) (st : StL) : rX x st = (tX x st.length, st ++ [some (treB x.kids)]) := by simp [rX, h]
end Go.Av
namespace Go.Proofs.Ytgpclhjdfdojhaa
open Go Go.Av
set_option maxRecDepth 4000
set_option maxHeartbeats 2000000
def RBT (e : Ex) (w : Int) (vs : List Val) (f : Ex → Ex) (i : Nat) : AS :=
  { env := [(0, .i (.iref [.int e.kind, .int e.col, .bool e.val.null, .int e.val.n, .isl (Ex.cellsL e.kids)])), (1, .fn (.func 56) [.own 0 0, .own 1 0]), (4, .own 2 0), (5, .own 3 0), (6, jk i (.int (i - 1))), (12, .bool ((e.kids.length : Int) == 0)), (39, .int e.kids.length), (40, .int i), (41, jk i (.bool true))],
    st := [some (.box [.int w]), some (.box [.i (.isl (valsL vs))]), some (.box [.int 0, .int 0, .bool false, .int 0, .nils]), some (.box [.int e.kind, .int e.col, .bool e.val.null, .int e.val.n, .osl 4 5 0 e.kids.length]), some (halfT (e.kids.map f) e.kids.length i)] }
theorem repBT_step {e : Ex} {w : Int} {vs : List Val} {f : Ex → Ex} (hk : e.kids ≠ []) (hl : e.kids.length < 1000000000) (ih : ∀ a ∈ e.kids, callA CT 43 [.i (.iref a.cells), .fn (.func 56) [.own 0 0, .own 1 0]] (bst w vs) = some (rX (f a) (bst w vs))) :
    callA CT 43 [.i (.iref e.cells), .fn (.func 56) [.own 0 0, .own 1 0]] (bst w vs) = some (rX (Ex.mk e.kind e.col e.val (e.kids.map f)) (bst w vs)) := by
  rw [callA_eq rfl Try.func43 rfl rfl, Ex.cells_eq]
  have hb : 56 * (e.kids.length : Int) ≤ 281474976710656 := by omega
  rw [rX_pos (by simpa [Ex.kids] using hk)]
  simp only [bst] at ih ⊢
  simp [hk, hb]
  rw [loop_to (RBT e w vs f) e.kids.length (by simp [RBT, halfT, zrow])]
  · rw [execA_loop]
    simp [RBT, halfT_end (l := e.kids.map f) (n := e.kids.length) (by simp), tX_mk, kids_mk]
  · intro i hi
    have h3 := List.getElem?_eq_getElem hi
    have hm := List.mem_of_getElem? h3
    have hc := ih _ hm
    have r2 := Ex.cellsL_nth h3
    have hput := halfT_put (l := e.kids.map f) (n := e.kids.length) (i := i) (a := f e.kids[i]) (by simp [h3]) hi
    generalize e.kids[i] = a at h3 hc r2 hput
    have w2 : IntKind.i64.wrap ((i : Int) + 1) = i + 1 := wrap64 (by omega) (by omega)
    rw [Ex.cells_eq] at r2 hc
    generalize f a = x at hc hput
    by_cases hx : x.kids = []
    · rw [rX_nil hx] at hc
      simp only [Ex.cells_eq, hx, Ex.cellsL] at hput hc
      simp [RBT, hi, r2, hc, w2, hput]
    · rw [rX_pos hx] at hc
      simp only [Ex.cells_eq] at hput
      simp at hc
      simp [RBT, hi, r2, hc, tX, w2, hput]
theorem repBT_leaf {e x : Ex} {w : Int} {vs : List Val} (hk : e.kids = []) (hx : x.kids = []) (h : callA C0 56 [.i (.iref e.cells), .own 0 0, .own 1 0] (bst w vs) = some (.i (.agg x.cells), bst w vs)) :
    callA CT 43 [.i (.iref e.cells), .fn (.func 56) [.own 0 0, .own 1 0]] (bst w vs) = some (rX x (bst w vs)) := by
  rw [callA_eq rfl Try.func43 rfl rfl, rX_nil hx]
  rw [Ex.cells_eq e] at h ⊢
  rw [Ex.cells_eq x] at h ⊢
  simp [hk, Ex.cellsL, bst] at h ⊢
  simp [h]
theorem replacedT_bind {m : Int} (w : Nat) (vs : List Val) (hm : m = ((w + vs.length : Nat) : Int)) (hm6 : w + vs.length < 100) : ∀ (e : Ex), e.wf m = true → e.size < 1000000000 →
    callA CT 43 [.i (.iref e.cells), .fn (.func 56) [.own 0 0, .own 1 0]] (bst w vs) = some (rX (e.sub (bindL w vs)) (bst w vs)) := by
  intro e
  induction e using Ex.ind with
  | h k c v ks ih =>
    intro hw hs
    have hsz := hs
    rw [Ex.size_eq] at hsz
    have hkl := Ex.sizeL_length ks
    by_cases hk : k = 1
    · obtain ⟨c0, c1, ck⟩ := Ex.wf_col hw hk
      by_cases hc : (w : Int) ≤ c
      · have hi : (c - w).toNat < vs.length := by simp [Ex.col] at c0 c1; omega
        have hv := List.getElem?_eq_getElem hi
        have hb : (bindL w vs)[c.toNat]? = some (constE vs[(c - w).toNat]) := bindL_hi (by omega) (by rw [← hv]; congr 1; simp [Ex.col] at c0; omega)
        rw [Ex.sub_col _ (e := .mk k c v ks) hk hb]
        exact repBT_leaf ck rfl (b1_hi (e := .mk k c v ks) hk hc (by omega) (by simp [Ex.col] at c0 c1 ⊢; omega) hv)
      · have hb : (bindL w vs)[c.toNat]? = some (colE c.toNat) := bindL_lo (by simp [Ex.col] at c0; omega)
        have hx := b1_lo (e := .mk k c v ks) (w := w) (vs := vs) (fun h => hc h.2) hs
        have heq : Ex.mk k c v ks = colE c.toNat := by
          rw [Ex.wf_eq] at hw
          simp [Ex.headOk, Ex.kind, Ex.col, Ex.val, hk, Ex.kids] at hw c0 ck
          obtain ⟨b, n⟩ := v
          simp at hw
          simp [colE, hk, ck, Val.zero, hw]; omega
        rw [Ex.sub_col _ (e := .mk k c v ks) hk hb, ← heq]
        exact repBT_leaf ck ck hx
    · cases ks with
      | nil =>
        have hn := b1_lo (e := .mk k c v []) (w := w) (vs := vs) (fun h => hk h.1) hs
        rw [Ex.sub_not _ (e := .mk k c v []) hk]
        exact repBT_leaf (e := .mk k c v []) rfl rfl hn
      | cons a ks =>
        rw [Ex.sub_not _ (e := .mk k c v (a :: ks)) hk]
        refine repBT_step (e := .mk k c v (a :: ks)) (by simp [Ex.kids]) (by simp only [Ex.kids] at hsz ⊢; omega) fun x hx => ih x hx (Ex.wf_kids hw hx) ?_
        have := Ex.sizeL_mem hx
        omega
/-- What Bind answers where slices are kept apart. -/
def resBT : Option Ex → AV × StL
  | none => (.tup [.agg [.int 0, .int 0, .bool false, .int 0, .nils], .bool false], [])
  | some x => if x.kids = [] then (.tup [.i (.agg x.cells), .bool true], []) else (.tup [tX x 0, .bool true], [some (treB x.kids)])
theorem ibindT_eq {e : Ex} {w : Int} {vs : List Val} (hl : vs.length < 1000000000) (hw0 : -9223372036854775808 ≤ w) (hw1 : w < 9223372036854775808) : callA CT 19 [.i (.agg e.cells), .int w, .i (.isl (valsL vs))] [] = some (resBT (e.bindO w vs)) := by
  rw [callA_eq rfl Try.func19 rfl rfl]
  have hok := ok_eq (w + vs.length) e
  have hre : okWidth w = true → e.ok (w + vs.length) = true → callA CT 43 [.i (.iref e.cells), .fn (.func 56) [.own 0 0, .own 1 0]] (bst w vs) = some (rX (e.sub (bindL w.toNat vs)) (bst w vs)) := by
    intro h1 h2
    have h6 : 1 ≤ w + vs.length ∧ w + vs.length ≤ 6 := by simp [Ex.ok, okWidth] at h2; omega
    have h7 : 1 ≤ w := by simp [okWidth] at h1; omega
    have hwf : e.wf (w + vs.length) = true := by simp [Ex.ok, Ex.vB_eq] at h2; exact h2.2.1
    obtain ⟨n, rfl⟩ : ∃ n : Nat, w = n := ⟨w.toNat, by omega⟩
    exact replacedT_bind n vs (by simp) (by omega) e hwf (by have := Ex.ok_size h2; omega)
  rw [Ex.cells_eq e] at hok hre ⊢
  simp
  obtain ⟨j, h1, h2⟩ := upto_bad Val.ok vs
  rw [loop_to (BX e w vs) j (by simp [BX])]
  · rw [execA_loop]
    rcases h2 with ⟨hj, ha⟩ | ⟨v, h3, h4, h5, ha⟩
    · cases ho : okWidth w with
      | false =>
        have hn : (decide (1 ≤ w) && e.ok (w + vs.length)) = false := by
          simp [okWidth] at ho
          by_cases h1 : 1 ≤ w
          · have : okWidth (w + vs.length) = false := by simp [okWidth]; omega
            simp [Ex.ok, this]
          · simp [h1]
        have hB : e.bindO w vs = none := by simp only [Ex.bindO, ha, hn]; simp
        by_cases h0 : vs.length = 0
        · simp [BX, hj, h0, ho, hB, resBT]
        · simp [BX, hj, h0, ho, hB, resBT]
      | true =>
        have hw6 : w ≤ 6 := by simp [okWidth] at ho; omega
        have hw1 : 1 ≤ w := by simp [okWidth] at ho; omega
        have w1 : IntKind.i64.wrap (w + vs.length) = w + vs.length := wrap64 (by omega) (by omega)
        cases hk : e.ok (w + vs.length) with
        | false =>
          rw [hk] at hok
          have hB : e.bindO w vs = none := by simp only [Ex.bindO, ha, hk]; simp
          by_cases h0 : vs.length = 0
          · simp [h0] at hok w1
            simp [BX, hj, h0, ho, w1, hok, hB, resBT]
          · simp [BX, hj, h0, ho, w1, hok, hB, resBT]
        | true =>
          rw [hk] at hok
          have hr := hre ho hk
          have hB : e.bindO w vs = some (e.sub (bindL w.toNat vs)) := by simp only [Ex.bindO, ha, hk]; simp [hw1]
          generalize e.sub (bindL w.toNat vs) = x at hr hB
          by_cases hx : x.kids = []
          · rw [rX_nil hx] at hr
            simp only [bst] at hr
            by_cases h0 : vs.length = 0
            · have hv0 : vs = [] := List.length_eq_zero_iff.1 h0
              subst hv0
              simp at hok w1 hr
              simp [BX, hj, ho, w1, hok, hr, hB, resBT, hx]
            · simp [BX, hj, h0, ho, w1, hok, hr, hB, resBT, hx]
          · rw [rX_pos hx] at hr
            simp only [bst] at hr
            by_cases h0 : vs.length = 0
            · have hv0 : vs = [] := List.length_eq_zero_iff.1 h0
              subst hv0
              simp at hok w1 hr
              simp [BX, hj, ho, w1, hok, hr, hB, resBT, hx, tX]
            · simp at hr
              simp [BX, hj, h0, ho, w1, hok, hr, hB, resBT, hx, tX]
    · have r1 := (List.getElem?_eq_some_iff.1 h3).1
      have r2 := valsL_nth h3
      have r3 : Val.ok ⟨v.null, v.n⟩ = false := h5
      have hB : e.bindO w vs = none := by simp only [Ex.bindO, ha]; simp
      by_cases h0 : j = 0
      · subst h0; simp [BX, r1, r2, r3, hB, resBT]
      · simp [BX, h0, r1, r2, r3, hB, resBT]
  · intro i hi
    obtain ⟨v, h3, h4, h5⟩ := h1 i hi
    have r1 := (List.getElem?_eq_some_iff.1 h3).1
    have r2 := valsL_nth h3
    have r3 : Val.ok ⟨v.null, v.n⟩ = true := h5
    obtain ⟨_, hv⟩ := List.getElem?_eq_some_iff.1 h3
    have w2 : IntKind.i64.wrap ((i : Int) + 1) = i + 1 := wrap64 (by omega) (by omega)
    by_cases h0 : i = 0
    · subst h0; simp [BX, r1, r2, r3, hv, wrap_1]
    · simp [BX, h0, r1, r2, r3, hv, w2]
end Go.Proofs.Ytgpclhjdfdojhaa

/- Constants replaced by columns, as data. No condition. -/
namespace Go.Av
mutual
def Ex.ext (w : Int) (vs : List Val) : Ex → Ex × List Val
  | .mk k c v ks => if k = 2 then (.mk 1 (w + vs.length) Val.zero [], vs ++ [v]) else ((.mk k c Val.zero (Ex.extL w vs ks).1), (Ex.extL w vs ks).2)
def Ex.extL (w : Int) (vs : List Val) : List Ex → List Ex × List Val
  | [] => ([], vs)
  | e :: es => (((Ex.ext w vs e).1 :: (Ex.extL w (Ex.ext w vs e).2 es).1), (Ex.extL w (Ex.ext w vs e).2 es).2)
end
theorem Ex.extL_snoc (w : Int) : ∀ (l : List Ex) (vs : List Val) (e : Ex), Ex.extL w vs (l ++ [e]) = ((Ex.extL w vs l).1 ++ [(Ex.ext w (Ex.extL w vs l).2 e).1], (Ex.ext w (Ex.extL w vs l).2 e).2)
  | [], vs, e => by simp [Ex.extL]
  | a :: l, vs, e => by simp [Ex.extL, Ex.extL_snoc w l]
theorem Ex.ext_const (w : Int) (vs : List Val) {e : Ex} (h : e.kind = 2) : Ex.ext w vs e = (.mk 1 (w + vs.length) Val.zero [], vs ++ [e.val]) := by
  cases e; simp [Ex.kind] at h; simp [Ex.ext, h, Ex.val]
theorem Ex.ext_not (w : Int) (vs : List Val) {e : Ex} (h : e.kind ≠ 2) : Ex.ext w vs e = (.mk e.kind e.col Val.zero (Ex.extL w vs e.kids).1, (Ex.extL w vs e.kids).2) := by
  cases e; simp [Ex.kind] at h; simp [Ex.ext, h, Ex.kind, Ex.col, Ex.kids]
mutual
/-- The values only grow. -/
theorem Ex.ext_app (w : Int) : ∀ (vs : List Val) (e : Ex), ∃ l, (Ex.ext w vs e).2 = vs ++ l ∧ l.length ≤ e.size
  | vs, .mk k c v ks => by
    by_cases h : k = 2
    · exact ⟨[v], by simp [Ex.ext, h], by simp [Ex.size]⟩
    · obtain ⟨l, h1, h2⟩ := Ex.extL_app w vs ks
      exact ⟨l, by simp [Ex.ext, h, h1], by simp [Ex.size]; omega⟩
theorem Ex.extL_app (w : Int) : ∀ (vs : List Val) (l : List Ex), ∃ r, (Ex.extL w vs l).2 = vs ++ r ∧ r.length ≤ Ex.sizeL l
  | vs, [] => ⟨[], by simp [Ex.extL], by simp⟩
  | vs, e :: es => by
    obtain ⟨r1, h1, h2⟩ := Ex.ext_app w vs e
    obtain ⟨r2, h3, h4⟩ := Ex.extL_app w (Ex.ext w vs e).2 es
    exact ⟨r1 ++ r2, by simp only [Ex.extL]; rw [h3, h1]; simp, by simp [Ex.sizeL]; omega⟩
end
end Go.Av

/- Extract, as the reference has it. No condition. -/
namespace Go.Proofs.Ytgpclhjdfdojhaa
open Go Go.Av
set_option maxRecDepth 4000
set_option maxHeartbeats 2000000
/-- The values as they come back: in the block that was given, or in a new one. -/
def xv (a b : Nat) : AV := if b = a then .osl 0 2 0 a else .osl 1 2 0 b
def xst (vs vs' : List Val) : StL := if vs'.length = vs.length then [some (.arr 2 (valsL vs))] else [none, some (.arr 2 (valsL vs'))]
theorem sext_const {e : Ex} {w : Int} {vs : List Val} (hk : e.kind = 2) (hl : vs.length < 100000) (hw : -1000 < w) (hw1 : w < 1000) :
    callA C0 54 [.i (.agg e.cells), .int w, .osl 0 2 0 vs.length] [some (.arr 2 (valsL vs))] = some (.tup [.i (.agg (Ex.ext w vs e).1.cells), xv vs.length (Ex.ext w vs e).2.length], xst vs (Ex.ext w vs e).2) := by
  rw [callA_eq rfl Try.func54 rfl rfl, Ex.cells_eq, Ex.ext_const w vs hk]
  have w1 : IntKind.i64.wrap (w + vs.length) = w + vs.length := wrap64 (by omega) (by omega)
  have hT : vs.take vs.length = vs := List.take_of_length_le (by simp)
  simp [hk, w1, xv, xst, valsL_snoc, hT, Ex.cells, Ex.cellsL, Val.zero, show (vs.length + 1) * 16 ≤ 140737488355328 by omega]
def eBox (e : Ex) : Option Blk := some (.box [.int e.kind, .int e.col, .bool e.val.null, .int e.val.n, .i (.isl (Ex.cellsL e.kids))])
def zBox : Option Blk := some (.box [.int 0, .int 0, .bool false, .int 0, .nils])
def kBox (x : Ex) : Option Blk := some (.box (impI x.cells))
def U0 (e : Ex) (w : Int) (vs : List Val) : AS :=
  { env := [(0, .i (.agg [.int e.kind, .int e.col, .bool e.val.null, .int e.val.n, .isl (Ex.cellsL e.kids)])), (1, .int w), (2, .osl 0 2 0 vs.length), (3, .own 1 0), (6, .own 2 0), (7, .nils), (8, .own 3 0), (9, .int 0), (10, .junk), (11, .junk), (14, .bool (e.kind == 2)), (34, .junk)],
    st := [some (.arr 2 (valsL vs)), eBox e, zBox, some (.box [.int e.kind, .int e.col, .bool false, .int 0, .nils])] }
def U1 (e : Ex) (w : Int) (vs : List Val) (ks : List Ex) (x : Ex) (i : Nat) : AS :=
  { env := [(0, .i (.agg [.int e.kind, .int e.col, .bool e.val.null, .int e.val.n, .isl (Ex.cellsL e.kids)])), (1, .int w), (2, .osl 0 2 0 vs.length), (3, .own 1 0), (6, .own 2 0), (7, .nils), (8, .own 3 0), (9, .int i), (10, .own 5 0), (11, .osl 0 2 0 vs.length), (14, .bool (e.kind == 2)), (34, .bool true)],
    st := [some (.arr 2 (valsL vs)), eBox e, zBox, some (.box [.int e.kind, .int e.col, .bool false, .int 0, .osl 4 5 0 i]), some (.arr 5 (Ex.cellsL ks)), kBox x] }
def V1 (e : Ex) (w : Int) (cur : List Val) (ks : List Ex) (x : Ex) (i : Nat) : AS :=
  { env := [(0, .i (.agg [.int e.kind, .int e.col, .bool e.val.null, .int e.val.n, .isl (Ex.cellsL e.kids)])), (1, .int w), (2, .osl 1 2 0 cur.length), (3, .own 2 0), (6, .own 3 0), (7, .nils), (8, .own 4 0), (9, .int i), (10, .own 6 0), (11, .osl 1 2 0 cur.length), (14, .bool (e.kind == 2)), (34, .bool true)],
    st := [none, some (.arr 2 (valsL cur)), eBox e, zBox, some (.box [.int e.kind, .int e.col, .bool false, .int 0, .osl 5 5 0 i]), some (.arr 5 (Ex.cellsL ks)), kBox x] }
def SE (e : Ex) (w : Int) (vs : List Val) : Nat → AS
  | 0 => U0 e w vs
  | i + 1 => if (Ex.extL w vs (e.kids.take (i + 1))).2.length = vs.length then U1 e w vs (Ex.extL w vs (e.kids.take (i + 1))).1 ((Ex.extL w vs (e.kids.take (i + 1))).1.getLastD Ex.zero) (i + 1)
    else V1 e w (Ex.extL w vs (e.kids.take (i + 1))).2 (Ex.extL w vs (e.kids.take (i + 1))).1 ((Ex.extL w vs (e.kids.take (i + 1))).1.getLastD Ex.zero) (i + 1)
theorem extL_len (w : Int) : ∀ (l : List Ex) (vs : List Val), (Ex.extL w vs l).1.length = l.length
  | [], _ => by simp [Ex.extL]
  | a :: l, vs => by simp [Ex.extL, extL_len w l]
theorem ext_same {w : Int} {vs : List Val} {e : Ex} (h : (Ex.ext w vs e).2.length = vs.length) : (Ex.ext w vs e).2 = vs := by
  obtain ⟨l, h1, _⟩ := Ex.ext_app w vs e
  rw [h1] at h ⊢
  have : l = [] := by simpa using h
  simp [this]
theorem extL_same {w : Int} {vs : List Val} {l : List Ex} (h : (Ex.extL w vs l).2.length = vs.length) : (Ex.extL w vs l).2 = vs := by
  obtain ⟨r, h1, _⟩ := Ex.extL_app w vs l
  rw [h1] at h ⊢
  have : r = [] := by simpa using h
  simp [this]
theorem sizeL_take_add : ∀ {l : List Ex} {i : Nat} {a : Ex}, l[i]? = some a → Ex.sizeL (l.take i) + a.size ≤ Ex.sizeL l
  | [], _, _, h => by simp at h
  | b :: l, 0, a, h => by simp at h; subst h; simp [Ex.sizeL]
  | b :: l, i + 1, a, h => by
    have := sizeL_take_add (l := l) (i := i) (a := a) (by simpa using h)
    simp [Ex.sizeL]; omega
theorem getLastD_snoc (l : List Ex) (x d : Ex) : (l ++ [x]).getLastD d = x := by simp
theorem sext_go {e : Ex} {w : Int} {vs : List Val} (hk : e.kind ≠ 2) (hs : e.size < 10000) (hl : vs.length + e.size < 100000) (hw : -1000 < w) (hw1 : w < 1000)
    (ih : ∀ a ∈ e.kids, ∀ vs : List Val, vs.length + a.size < 100000 → callA C0 54 [.i (.agg a.cells), .int w, .osl 0 2 0 vs.length] [some (.arr 2 (valsL vs))] = some (.tup [.i (.agg (Ex.ext w vs a).1.cells), xv vs.length (Ex.ext w vs a).2.length], xst vs (Ex.ext w vs a).2)) :
    callA C0 54 [.i (.agg e.cells), .int w, .osl 0 2 0 vs.length] [some (.arr 2 (valsL vs))] = some (.tup [.i (.agg (Ex.ext w vs e).1.cells), xv vs.length (Ex.ext w vs e).2.length], xst vs (Ex.ext w vs e).2) := by
  rw [callA_eq rfl Try.func54 rfl rfl, Ex.cells_eq, Ex.ext_not w vs hk]
  simp [hk]
  rw [loop_to (SE e w vs) e.kids.length (by simp [SE, U0, eBox, zBox])]
  · rw [execA_loop]
    cases hn : e.kids.length with
    | zero =>
      have h0 : e.kids = [] := List.length_eq_zero_iff.1 hn
      simp [SE, U0, eBox, zBox, h0, Ex.cellsL, Ex.extL, Ex.cells, Val.zero, xv, xst]
    | succ n =>
      have hT : e.kids.take (n + 1) = e.kids := List.take_of_length_le (by omega)
      have hlk := extL_len w e.kids vs
      have hT2 : (Ex.extL w vs e.kids).1.take (n + 1) = (Ex.extL w vs e.kids).1 := List.take_of_length_le (by omega)
      by_cases hc : (Ex.extL w vs e.kids).2.length = vs.length
      · have hs2 := extL_same hc
        simp only [SE, hT, hc, if_true]
        simp [U1, eBox, zBox, kBox, hlk, hn, hT2, Ex.cells, Val.zero, xv, xst, hs2]
      · simp only [SE, hT, hc, if_false]
        simp [V1, eBox, zBox, kBox, hlk, hn, hT2, Ex.cells, Val.zero, xv, xst, hc]
  · intro i hi
    have h3 := List.getElem?_eq_getElem hi
    have hm := List.mem_of_getElem? h3
    have r2 := Ex.cellsL_nth h3
    obtain ⟨r, hr1, hr2⟩ := Ex.extL_app w vs (e.kids.take i)
    have hsz := sizeL_take_add h3
    have hes := Ex.size_eq e
    have hkl := Ex.sizeL_length e.kids
    have hsn : Ex.extL w vs (e.kids.take (i + 1)) = ((Ex.extL w vs (e.kids.take i)).1 ++ [(Ex.ext w (Ex.extL w vs (e.kids.take i)).2 e.kids[i]).1], (Ex.ext w (Ex.extL w vs (e.kids.take i)).2 e.kids[i]).2) := by
      rw [take_snoc h3, Ex.extL_snoc]
    have hc := ih _ hm (Ex.extL w vs (e.kids.take i)).2 (by rw [hr1]; simp; omega)
    have hlk := extL_len w (e.kids.take i) vs
    have hlk : (Ex.extL w vs (e.kids.take i)).1.length = i := by rw [hlk]; simp; omega
    have hcl : (Ex.extL w vs (e.kids.take i)).2.length < 100000 := by rw [hr1]; simp; omega
    have w2 : IntKind.i64.wrap ((i : Int) + 1) = i + 1 := wrap64 (by omega) (by omega)
    have hse : SE e w vs (i + 1) = if (Ex.ext w (Ex.extL w vs (e.kids.take i)).2 e.kids[i]).2.length = vs.length then U1 e w vs ((Ex.extL w vs (e.kids.take i)).1 ++ [(Ex.ext w (Ex.extL w vs (e.kids.take i)).2 e.kids[i]).1]) (Ex.ext w (Ex.extL w vs (e.kids.take i)).2 e.kids[i]).1 (i + 1) else V1 e w (Ex.ext w (Ex.extL w vs (e.kids.take i)).2 e.kids[i]).2 ((Ex.extL w vs (e.kids.take i)).1 ++ [(Ex.ext w (Ex.extL w vs (e.kids.take i)).2 e.kids[i]).1]) (Ex.ext w (Ex.extL w vs (e.kids.take i)).2 e.kids[i]).1 (i + 1) := by
      simp only [SE, hsn, getLastD_snoc]
    obtain ⟨r', hr3, _⟩ := Ex.ext_app w (Ex.extL w vs (e.kids.take i)).2 e.kids[i]
    have hgrow : (Ex.extL w vs (e.kids.take i)).2.length = vs.length + r.length := by rw [hr1]; simp
    have hgrow2 : (Ex.ext w (Ex.extL w vs (e.kids.take i)).2 e.kids[i]).2.length = (Ex.extL w vs (e.kids.take i)).2.length + r'.length := by rw [hr3]; simp
    have hsame : (Ex.ext w (Ex.extL w vs (e.kids.take i)).2 e.kids[i]).2.length = (Ex.extL w vs (e.kids.take i)).2.length → (Ex.ext w (Ex.extL w vs (e.kids.take i)).2 e.kids[i]).2 = (Ex.extL w vs (e.kids.take i)).2 := ext_same
    have hsi : SE e w vs i = if i = 0 then U0 e w vs else if (Ex.extL w vs (e.kids.take i)).2.length = vs.length then U1 e w vs (Ex.extL w vs (e.kids.take i)).1 ((Ex.extL w vs (e.kids.take i)).1.getLastD Ex.zero) i else V1 e w (Ex.extL w vs (e.kids.take i)).2 (Ex.extL w vs (e.kids.take i)).1 ((Ex.extL w vs (e.kids.take i)).1.getLastD Ex.zero) i := by
      cases i <;> rfl
    have hsv : (Ex.extL w vs (e.kids.take i)).2.length = vs.length → (Ex.extL w vs (e.kids.take i)).2 = vs := extL_same
    have h00 : i = 0 → (Ex.extL w vs (e.kids.take i)).2 = vs ∧ (Ex.extL w vs (e.kids.take i)).1 = [] := fun h => by subst h; simp [Ex.extL]
    rw [hse, hsi]
    clear hse hsi hsn
    generalize (Ex.extL w vs (e.kids.take i)).1.getLastD Ex.zero = last
    generalize (Ex.extL w vs (e.kids.take i)).2 = cur at *
    generalize (Ex.extL w vs (e.kids.take i)).1 = ks at *
    generalize e.kids[i] = a at *
    generalize (Ex.ext w cur a).1 = x at *
    generalize (Ex.ext w cur a).2 = cur' at *
    have hTk : ks.take i = ks := List.take_of_length_le (by omega)
    have hb : (i + 1) * 56 ≤ 140737488355328 := by omega
    by_cases h0 : i = 0
    · obtain ⟨q1, q2⟩ := h00 h0
      subst q1; subst q2; subst h0
      by_cases hch : cur'.length = cur.length
      · have := hsame hch
        subst this
        simp [xv, xst] at hc
        simp [U0, U1, eBox, zBox, kBox, hi, r2, hc, wrap_1, Ex.cellsL]
      · simp [xv, xst, hch] at hc
        simp [U0, V1, eBox, zBox, kBox, hi, r2, hc, wrap_1, Ex.cellsL, hch]
    · by_cases hcv : cur.length = vs.length
      · have := hsv hcv
        subst this
        by_cases hch : cur'.length = cur.length
        · have := hsame hch
          subst this
          simp [xv, xst] at hc
          simp [U1, h0, eBox, zBox, kBox, hi, r2, hc, w2, hTk, hb, hlk, Ex.cellsL_snoc]
        · simp [xv, xst, hch] at hc
          simp [U1, V1, h0, eBox, zBox, kBox, hi, r2, hc, w2, hTk, hb, hlk, Ex.cellsL_snoc, hch]
      · have hcv2 : ¬ cur'.length = vs.length := by omega
        by_cases hch : cur'.length = cur.length
        · have := hsame hch
          subst this
          simp [xv, xst] at hc
          simp [V1, h0, hcv, eBox, zBox, kBox, hi, r2, hc, w2, hTk, hb, hlk, Ex.cellsL_snoc]
        · simp [xv, xst, hch] at hc
          simp [V1, h0, hcv, hcv2, eBox, zBox, kBox, hi, r2, hc, w2, hTk, hb, hlk, Ex.cellsL_snoc]
theorem sext_eq {w : Int} (hw : -1000 < w) (hw1 : w < 1000) : ∀ (e : Ex) (vs : List Val), e.size < 10000 → vs.length + e.size < 100000 →
    callA C0 54 [.i (.agg e.cells), .int w, .osl 0 2 0 vs.length] [some (.arr 2 (valsL vs))] = some (.tup [.i (.agg (Ex.ext w vs e).1.cells), xv vs.length (Ex.ext w vs e).2.length], xst vs (Ex.ext w vs e).2) := by
  intro e
  induction e using Ex.ind with
  | h k c v ks ih =>
    intro vs hs hl
    have hsz := hs
    rw [Ex.size_eq] at hsz
    by_cases hk : k = 2
    · exact sext_const (e := .mk k c v ks) hk (by omega) hw hw1
    · refine sext_go (e := .mk k c v ks) hk hs hl hw hw1 fun a ha us hu => ih a ha us ?_ hu
      have := Ex.sizeL_mem ha
      simp only [Ex.kids] at this hsz
      omega
end Go.Proofs.Ytgpclhjdfdojhaa

/- Extract, as the program has it. No condition. -/
namespace Go.Proofs.Ytgpclhjdfdojhaa
open Go Go.Av
set_option maxRecDepth 4000
set_option maxHeartbeats 2000000
/-- The captured values and the width. -/
def vst (w : Int) (vs : List Val) : StL := some (.box [gro 1 2 vs.length]) :: (groB 2 (valsL vs) vs.length ++ [some (.box [.int w])])
/-- Where the width lies. -/
def wi (n : Nat) : Nat := if n = 0 then 1 else 2
def cap (n : Nat) : AV := .fn (.func 52) [.own 0 0, .own (wi n) 0]
/-- .. when values have been put to them. -/
def vout (w : Int) (vs vs' : List Val) : StL :=
  if vs'.length = vs.length then vst w vs else if vs.length = 0 then [some (.box [.osl 2 2 0 vs'.length]), some (.box [.int w]), some (.arr 2 (valsL vs'))] else [some (.box [.osl 3 2 0 vs'.length]), none, some (.box [.int w]), some (.arr 2 (valsL vs'))]
theorem column_eq (c : Int) : callA C0 53 [.int c] [] = some (.i (.agg (Ex.mk 1 c Val.zero []).cells), []) := by
  rw [callA_eq rfl Try.func53 rfl rfl]
  simp [Ex.cells, Ex.cellsL, Val.zero]
theorem x1_not {e : Ex} {w : Int} {vs : List Val} (hk : e.kind ≠ 2) (hs : e.size < 1000000000) :
    callA C0 52 [.i (.iref e.cells), .own 0 0, .own (wi vs.length) 0] (vst w vs) = some (.i (.agg e.cells), vst w vs) := by
  rw [callA_eq rfl Try.func52 rfl rfl]
  have hc := copied_eq hs
  rw [Ex.cells_eq] at hc ⊢
  by_cases h0 : vs.length = 0
  · simp [vst, wi, h0, hk, hc]
  · simp [vst, wi, gro_pos h0, groB_pos h0, h0, hk, hc]
theorem x1_const {e : Ex} {w : Int} {vs : List Val} (hk : e.kind = 2) (hw : -1000 < w) (hw1 : w < 1000) (hl : vs.length < 100000) :
    callA C0 52 [.i (.iref e.cells), .own 0 0, .own (wi vs.length) 0] (vst w vs) = some (.i (.agg (Ex.ext w vs e).1.cells), vout w vs (Ex.ext w vs e).2) := by
  rw [callA_eq rfl Try.func52 rfl rfl, Ex.ext_const w vs hk]
  have hcol := column_eq (w + vs.length)
  have w1 : IntKind.i64.wrap (w + (vs.length + 1)) = w + (vs.length + 1) := wrap64 (by omega) (by omega)
  have w2 : IntKind.i64.wrap (w + ((vs.length : Int) + 1) - 1) = w + vs.length := by rw [show w + ((vs.length : Int) + 1) - 1 = w + vs.length by omega]; exact wrap64 (by omega) (by omega)
  have hT : vs.take vs.length = vs := List.take_of_length_le (by simp)
  rw [Ex.cells_eq e]
  by_cases h0 : vs.length = 0
  · have : vs = [] := List.length_eq_zero_iff.1 h0
    subst this
    have w3 : IntKind.i64.wrap (w + 1) = w + 1 := wrap64 (by omega) (by omega)
    have w4 : IntKind.i64.wrap (w + 1 - 1) = w := by rw [show w + 1 - 1 = w by omega]; exact wrap64 (by omega) (by omega)
    have w5 : IntKind.i64.wrap w = w := wrap64 (by omega) (by omega)
    simp at hcol
    simp [vst, wi, vout, hk, valsL, w3, w4, w5, hcol]
  · simp [vst, wi, vout, gro_pos h0, groB_pos h0, h0, hk, w1, w2, hcol, hT, valsL_snoc, show (vs.length + 1) * 16 ≤ 140737488355328 by omega]
end Go.Proofs.Ytgpclhjdfdojhaa

/- The program's replaced, with the closure of Extract. No condition. -/
namespace Go.Proofs.Ytgpclhjdfdojhaa
open Go Go.Av
set_option maxRecDepth 4000
set_option maxHeartbeats 2000000
def preA (w : Int) : StL := [some (.box [.nils]), some (.box [.int w])]
def preB (w : Int) (cur : List Val) : StL := [some (.box [.osl 1 2 0 cur.length]), some (.arr 2 (valsL cur)), some (.box [.int w])]
def preC (w : Int) (cur : List Val) : StL := [some (.box [.osl 2 2 0 cur.length]), some (.box [.int w]), some (.arr 2 (valsL cur))]
def preD (w : Int) (cur : List Val) : StL := [some (.box [.osl 3 2 0 cur.length]), none, some (.box [.int w]), some (.arr 2 (valsL cur))]
theorem vst_nil (w : Int) : vst w [] = preA w := by simp [vst, preA]
theorem vst_pos {w : Int} {vs : List Val} (h : vs.length ≠ 0) : vst w vs = preB w vs := by simp [vst, preB, gro_pos h, groB_pos h]
theorem cap_0 : cap 0 = .fn (.func 52) [.own 0 0, .own 1 0] := by simp [cap, wi]
theorem cap_pos {n : Nat} (h : n ≠ 0) : cap n = .fn (.func 52) [.own 0 0, .own 2 0] := by simp [cap, wi, h]
def RX1 (e : Ex) (o q : Nat) (pre : StL) (ks : List Ex) (i : Nat) : AS :=
  { env := [(0, .i (.iref [.int e.kind, .int e.col, .bool e.val.null, .int e.val.n, .isl (Ex.cellsL e.kids)])), (1, .fn (.func 52) [.own 0 0, .own q 0]), (4, .own o 0), (5, .own (o + 1) 0), (6, jk i (.int (i - 1))), (12, .bool ((e.kids.length : Int) == 0)), (39, .int e.kids.length), (40, .int i), (41, jk i (.bool true))],
    st := pre ++ [some (.box [.int 0, .int 0, .bool false, .int 0, .nils]), some (.box [.int e.kind, .int e.col, .bool e.val.null, .int e.val.n, .osl (o + 2) 5 0 e.kids.length]), some (.arr 5 (Ex.cellsL ks ++ List.replicate (e.kids.length - i) zrow))] }
def RXs (e : Ex) (w : Int) (vs : List Val) (i : Nat) (cur : List Val) (ks : List Ex) : AS :=
  if cur.length = vs.length then (if vs.length = 0 then RX1 e 2 1 (preA w) ks i else RX1 e 3 2 (preB w vs) ks i)
  else (if vs.length = 0 then RX1 e 3 1 (preC w cur) ks i else RX1 e 4 2 (preD w cur) ks i)
theorem repX_step {e : Ex} {w : Int} {vs : List Val} (hk : e.kids ≠ []) (hs : e.size < 10000) (hl : vs.length + e.size < 100000)
    (ih : ∀ a ∈ e.kids, ∀ vs : List Val, vs.length + a.size < 100000 → callA C0 43 [.i (.iref a.cells), cap vs.length] (vst w vs) = some (.i (.agg (Ex.ext w vs a).1.cells), vout w vs (Ex.ext w vs a).2)) :
    callA C0 43 [.i (.iref e.cells), cap vs.length] (vst w vs) = some (.i (.agg (Ex.mk e.kind e.col e.val (Ex.extL w vs e.kids).1).cells), vout w vs (Ex.extL w vs e.kids).2) := by
  rw [callA_eq rfl Try.func43 rfl rfl, Ex.cells_eq]
  have hkl := Ex.sizeL_length e.kids
  have hes := Ex.size_eq e
  have hb : 56 * (e.kids.length : Int) ≤ 281474976710656 := by omega
  have hlk := extL_len w e.kids vs
  have hTk : (Ex.extL w vs e.kids).1.take e.kids.length = (Ex.extL w vs e.kids).1 := List.take_of_length_le (by omega)
  have hTk2 : e.kids.take e.kids.length = e.kids := List.take_of_length_le (by omega)
  have hround : ∀ i, i < e.kids.length → ∃ (a x : Ex) (cur cur' : List Val) (ks : List Ex), (Ex.extL w vs (e.kids.take i)).2 = cur ∧ (Ex.extL w vs (e.kids.take i)).1 = ks ∧ (Ex.extL w vs (e.kids.take (i + 1))).2 = cur' ∧ (Ex.extL w vs (e.kids.take (i + 1))).1 = ks ++ [x] ∧ ks.length = i ∧ nthE (Ex.cellsL e.kids) i = some a.cells ∧ cur.length < 100000 ∧
      callA C0 43 [.i (.iref a.cells), cap cur.length] (vst w cur) = some (.i (.agg x.cells), vout w cur cur') ∧ (cur.length = vs.length → cur = vs) ∧ (cur'.length = cur.length → cur' = cur) ∧ vs.length ≤ cur.length ∧ cur.length ≤ cur'.length := by
    intro i hi
    have h3 := List.getElem?_eq_getElem hi
    have hm := List.mem_of_getElem? h3
    obtain ⟨r, hr1, hr2⟩ := Ex.extL_app w vs (e.kids.take i)
    obtain ⟨r', hr3, _⟩ := Ex.ext_app w (Ex.extL w vs (e.kids.take i)).2 e.kids[i]
    have hsz := sizeL_take_add h3
    refine ⟨e.kids[i], (Ex.ext w (Ex.extL w vs (e.kids.take i)).2 e.kids[i]).1, (Ex.extL w vs (e.kids.take i)).2, (Ex.ext w (Ex.extL w vs (e.kids.take i)).2 e.kids[i]).2, (Ex.extL w vs (e.kids.take i)).1, rfl, rfl, ?_, ?_, ?_, Ex.cellsL_nth h3, ?_, ih _ hm _ ?_, extL_same, ext_same, ?_, ?_⟩
    · rw [take_snoc h3, Ex.extL_snoc]
    · rw [take_snoc h3, Ex.extL_snoc]
    · rw [extL_len]; simp; omega
    · rw [hr1]; simp; omega
    · rw [hr1]; simp; omega
    · rw [hr1]; simp
    · rw [hr3]; simp
  by_cases h0 : vs.length = 0
  · have : vs = [] := List.length_eq_zero_iff.1 h0
    subst this
    rw [vst_nil, List.length_nil, cap_0]
    simp [preA, hk, hb]
    rw [loop_to (fun i => RXs e w [] i (Ex.extL w [] (e.kids.take i)).2 (Ex.extL w [] (e.kids.take i)).1) e.kids.length (by simp [RXs, RX1, preA, Ex.extL, Ex.cellsL, zrow])]
    · simp only [hTk2]
      rw [execA_loop]
      by_cases hc : (Ex.extL w [] e.kids).2.length = 0
      · have hs2 : (Ex.extL w [] e.kids).2 = [] := List.length_eq_zero_iff.1 hc
        simp [RXs, RX1, hs2, preA, vout, vst, hlk, hTk, Ex.cells]
      · simp [RXs, RX1, hc, preC, vout, hlk, hTk, Ex.cells]
    · intro i hi
      obtain ⟨a, x, cur, cur', ks, e1, e2, e3, e4, hks, r2, hl2, hc, s1, s2, g1, g2⟩ := hround i hi
      simp only [e1, e2, e3, e4]
      clear e1 e2 e3 e4 hround
      have w2 : IntKind.i64.wrap ((i : Int) + 1) = i + 1 := wrap64 (by omega) (by omega)
      rw [Ex.cells_eq] at hc r2
      have hD : (Ex.cellsL ks).length = i := by simp; omega
      have hS : Ex.cellsL ks ++ [x.cells] = Ex.cellsL (ks ++ [x]) := by rw [Ex.cellsL_snoc]
      have g3 := half_nth (n := e.kids.length) (z := zrow) hD hi
      have g4 := half_set (n := e.kids.length) (z := zrow) (x := x.cells) hD hi
      have g5 : splice zrow 0 x.cells = some x.cells := splice_all (by simp [zrow])
      rw [hS] at g4
      by_cases hcv : cur.length = 0
      · have : cur = [] := List.length_eq_zero_iff.1 hcv
        subst this
        by_cases hch : cur'.length = 0
        · have : cur' = [] := List.length_eq_zero_iff.1 hch
          subst this
          simp [vst, vout, cap_0] at hc
          simp [RXs, RX1, preA, hi, r2, hc, w2, g3, g4, g5, hks]
        · simp [vst, vout, cap_0, hch] at hc
          simp [RXs, RX1, preA, preC, hch, hi, r2, hc, w2, g3, g4, g5, hks]
      · have hcn : ¬ cur'.length = 0 := by omega
        rw [vst_pos hcv, cap_pos hcv] at hc
        by_cases hch : cur'.length = cur.length
        · have := s2 hch
          subst this
          simp [vout, preB, vst_pos hcv] at hc
          simp [RXs, RX1, preC, hcv, hi, r2, hc, w2, g3, g4, g5, hks]
        · simp [vout, preB, hch, hcv] at hc
          simp [RXs, RX1, preC, hcv, hcn, hi, r2, hc, w2, g3, g4, g5, hks]
  · rw [vst_pos h0, cap_pos h0]
    simp [preB, hk, hb]
    rw [loop_to (fun i => RXs e w vs i (Ex.extL w vs (e.kids.take i)).2 (Ex.extL w vs (e.kids.take i)).1) e.kids.length (by simp [RXs, RX1, preB, h0, Ex.extL, Ex.cellsL, zrow])]
    · simp only [hTk2]
      rw [execA_loop]
      by_cases hc : (Ex.extL w vs e.kids).2.length = vs.length
      · have hs2 := extL_same hc
        simp [RXs, RX1, hs2, h0, preB, vout, vst_pos h0, hlk, hTk, Ex.cells]
      · simp [RXs, RX1, hc, h0, preD, vout, hlk, hTk, Ex.cells]
    · intro i hi
      obtain ⟨a, x, cur, cur', ks, e1, e2, e3, e4, hks, r2, hl2, hc, s1, s2, g1, g2⟩ := hround i hi
      simp only [e1, e2, e3, e4]
      clear e1 e2 e3 e4 hround
      have w2 : IntKind.i64.wrap ((i : Int) + 1) = i + 1 := wrap64 (by omega) (by omega)
      rw [Ex.cells_eq] at hc r2
      have hD : (Ex.cellsL ks).length = i := by simp; omega
      have hS : Ex.cellsL ks ++ [x.cells] = Ex.cellsL (ks ++ [x]) := by rw [Ex.cellsL_snoc]
      have g3 := half_nth (n := e.kids.length) (z := zrow) hD hi
      have g4 := half_set (n := e.kids.length) (z := zrow) (x := x.cells) hD hi
      have g5 : splice zrow 0 x.cells = some x.cells := splice_all (by simp [zrow])
      rw [hS] at g4
      have hc0 : ¬ cur.length = 0 := by omega
      have hcn : ¬ cur'.length = 0 := by omega
      rw [vst_pos hc0, cap_pos hc0] at hc
      by_cases hcv : cur.length = vs.length
      · have := s1 hcv
        subst this
        by_cases hch : cur'.length = cur.length
        · have := s2 hch
          subst this
          simp [vout, preB, vst_pos hc0] at hc
          simp [RXs, RX1, preB, hc0, hi, r2, hc, w2, g3, g4, g5, hks]
        · simp [vout, preB, hch, hc0] at hc
          simp [RXs, RX1, preB, preD, hc0, hcn, hch, hi, r2, hc, w2, g3, g4, g5, hks]
      · have hcv2 : ¬ cur'.length = vs.length := by omega
        by_cases hch : cur'.length = cur.length
        · have := s2 hch
          subst this
          simp [vout, preB, vst_pos hc0] at hc
          simp [RXs, RX1, preD, h0, hcv, hi, r2, hc, w2, g3, g4, g5, hks]
        · simp [vout, preB, hch, hc0] at hc
          simp [RXs, RX1, preD, h0, hcv, hcv2, hi, r2, hc, w2, g3, g4, g5, hks]
end Go.Proofs.Ytgpclhjdfdojhaa

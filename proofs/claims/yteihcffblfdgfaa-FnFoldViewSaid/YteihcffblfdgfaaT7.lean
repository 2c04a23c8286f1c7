/- Part 7 of what the proof rests on: the executor and what it is worth, and the program's functions as it runs them. No condition. -/
import Derived.Test.YteihcffblfdgfaaT6
set_option linter.unusedVariables false
set_option linter.unusedSimpArgs false
/- The law on substituting columns by themselves. No condition. -/
namespace Go.Av
/-- The columns below a number. -/
def colE (i : Nat) : Ex := .mk 1 i Val.zero []
def colsE (n : Nat) : List Ex := (List.range n).map colE
@[simp] theorem colsE_length (n : Nat) : (colsE n).length = n := by simp [colsE]
theorem colsE_get {n i : Nat} (h : i < n) : (colsE n)[i]? = some (colE i) := by simp [colsE, h]
theorem colsE_succ (n : Nat) : colsE (n + 1) = colsE n ++ [colE n] := by simp [colsE, List.range_succ]
theorem sub_cols (n : Nat) : ∀ (e : Ex), e.wf n = true → e.sub (colsE n) = e := by
  intro e
  induction e using Ex.ind with
  | h k c v ks ih =>
    intro h
    by_cases hk : k = 1
    · obtain ⟨c0, c1, ck⟩ := Ex.wf_col h hk
      rw [Ex.wf_eq] at h
      simp [Ex.headOk, Ex.kind, Ex.col, Ex.val, hk, Ex.kids] at h c0 c1 ck
      rw [Ex.sub_col (colsE n) (e := .mk k c v ks) (b := colE c.toNat) hk (colsE_get (by simp [Ex.col]; omega))]
      rw [colE, hk, ck, show ((c.toNat : Nat) : Int) = c by omega]
      have : v = Val.zero := by obtain ⟨a, b⟩ := v; simp at h; simp [Val.zero, h]
      rw [this]
    · rw [Ex.sub_not (colsE n) (e := .mk k c v ks) hk]
      simp only [Ex.kind, Ex.col, Ex.val, Ex.kids, Ex.mk.injEq, true_and]
      conv => rhs; rw [← List.map_id ks]
      apply List.map_congr_left
      intro x hx
      exact ih x hx (Ex.wf_kids h hx)
theorem colE_ok {n i : Nat} (h : i < n) (hn : n ≤ 6) : (colE i).ok n = true := by
  have : okWidth n = true := by simp [okWidth]; omega
  simp [Ex.ok, this, Ex.vB_eq, Ex.wf_eq, colE, Ex.kids, Ex.kind, Ex.headOk, Ex.col, Ex.val, Val.zero, kidsK, Ex.ht, Ex.htL]
  omega
theorem subst_cols {n : Nat} {e : Ex} (h : e.ok n = true) : e.subst (colsE n) n = some e := by
  have hw : n ≤ 6 := by simp [Ex.ok, okWidth] at h; omega
  have hwf : e.wf n = true := by simp [Ex.ok, Ex.vB_eq] at h; exact h.2.1
  have ha : (colsE n).all (Ex.ok n) = true := by
    rw [List.all_eq_true]; intro x hx
    simp [colsE] at hx
    obtain ⟨i, hi, rfl⟩ := hx
    exact colE_ok hi hw
  simp only [Ex.subst, colsE_length, h, ha, sub_cols n e hwf, Bool.and_self, if_true]
/-- The expression of a result. -/
def getE (o : Option Ex) : Ex := o.getD Ex.zero
theorem resE_eq (o : Option Ex) : resE o = .tup [.i (.agg (getE o).cells), .bool o.isSome] := by cases o <;> rfl
theorem getE_thin {e : Ex} {l : List Ex} {w : Int} : (getE (e.subst l w)).thin := by
  unfold Ex.subst
  split
  · rename_i h
    simp at h
    exact Ex.thin_of_size _ (by have := Ex.ok_size h.2.2; simp [getE]; omega)
  · simp [getE, Ex.zero, Ex.thin, Ex.thinL]
end Go.Av
namespace Go.Proofs.Yteihcffblfdgfaa
open Go Go.Av
set_option maxRecDepth 4000
set_option maxHeartbeats 1000000
def WX (code : List UInt8) (e : Ex) (l : List Ex) (w : Int) (i : Nat) : AS :=
  { env := [(0, .i (.isl (bytesI code))), (2, .bool false), (3, .own 0 0), (4, .i (.isl (Ex.cellsL l))), (5, .int w), (6, .own 1 0), (7, .bool (e.subst l w).isSome), (8, .own 2 0), (9, .bool (e.subst l w).isSome), (10, .osl 3 5 0 i), (11, .int i), (12, .junk), (13, .junk), (16, .bool false), (52, .bool false), (65, jk i (.bool true))],
    st := [some (.box (impI e.cells)), some (.box (impI (getE (e.subst l w)).cells)), some (.box (impI (getE (e.subst l w)).cells)), some (.arr 5 (Ex.cellsL (colsE i)))] }
end Go.Proofs.Yteihcffblfdgfaa

/- Values of expressions. No condition. -/
namespace Go.Proofs.Yteihcffblfdgfaa
open Go Go.Av
set_option maxRecDepth 4000
theorem wrap_0 : IntKind.i64.wrap 0 = 0 := wrap64 (by omega) (by omega)
theorem wrap_2 : IntKind.i64.wrap 2 = 2 := wrap64 (by omega) (by omega)
theorem tr_b (v : Val) : 0 ≤ v.tr ∧ v.tr ≤ 2 := by
  unfold Val.tr
  split
  · omega
  · split <;> omega
theorem kindCases {e : Ex} {w : Int} (h : e.wf w = true) : (e.kind = 1 ∧ e.kids = []) ∨ (e.kind = 2 ∧ e.kids = []) ∨ ((e.kind = 10 ∨ e.kind = 11) ∧ ∃ a, e.kids = [a]) ∨ (e.kind ≠ 1 ∧ e.kind ≠ 2 ∧ e.kind ≠ 10 ∧ e.kind ≠ 11 ∧ ∃ a b, e.kids = [a, b]) := by
  rw [Ex.wf_eq] at h
  simp at h
  have hl := h.1
  rcases kidsCases e.kind with k | k | k | k | k | k | k | k | k | k | k | ⟨h1, h2, h3, h4, h5, h6, h7, h8, h9, h10, h11⟩
  case inr.inr.inr.inr.inr.inr.inr.inr.inr.inr.inr =>
    have : kidsK e.kind = -1 := by unfold kidsK; rw [if_neg (by omega), if_neg (by omega), if_neg (by omega)]
    omega
  all_goals (rw [k] at hl; simp [kidsK] at hl; simp [k])
  all_goals first
    | exact hl
    | (cases hk : e.kids with
       | nil => rw [hk] at hl; simp at hl
       | cons a r => cases r with
         | nil => first | exact ⟨a, rfl⟩ | (rw [hk] at hl; simp at hl)
         | cons b r => cases r with
           | nil => first | exact ⟨a, b, rfl⟩ | (rw [hk] at hl; simp at hl)
           | cons c r => rw [hk] at hl; simp at hl; omega)
def VR (row : List Val) (i : Nat) : AS :=
  { env := [(0, .i (.isl (valsL row))), (2, .bool false), (4, if i = 0 then .junk else .own 0 0), (8, .bool false), (9, .i (.isl (valsL row))), (10, .int row.length), (11, .int i), (12, jk i (.bool true)), (17, jk i (.bool false))],
    st := if i = 0 then [] else [some (.box [.bool ((row[i - 1]?).getD Val.zero).null, .int ((row[i - 1]?).getD Val.zero).n])] }
end Go.Proofs.Yteihcffblfdgfaa

/- The law on substitution and evaluation. No condition. -/
namespace Go.Av
def rowV (m : Nat) (w : Nat) : List Val := (List.range w).map fun (i : Nat) => ⟨false, Int.tmod ((m : Int) + (i : Int)) 5 - 1⟩
@[simp] theorem rowV_length (m w : Nat) : (rowV m w).length = w := by simp [rowV]
theorem rowV_succ (m w : Nat) : rowV m (w + 1) = rowV m w ++ [⟨false, Int.tmod (m + w) 5 - 1⟩] := by simp [rowV, List.range_succ]
theorem rowV_ok (m w : Nat) : (rowV m w).all Val.ok = true := by
  rw [List.all_eq_true]; intro v hv
  simp [rowV] at hv
  obtain ⟨i, hi, rfl⟩ := hv
  have := Int.tmod_nonneg (a := (m : Int) + i) 5 (by omega)
  have := Int.tmod_lt_of_pos ((m : Int) + i) (b := 5) (by omega)
  simp [Val.ok]; omega
end Go.Av
namespace Go.Proofs.Yteihcffblfdgfaa
open Go Go.Av
set_option maxRecDepth 4000
set_option maxHeartbeats 1000000
def B1 (code more : List UInt8) (e : Ex) (l : List Ex) (w : Nat) (v12 v13 v14 v15 v16 v17 v74 v91 v104 : AV) : List (Nat × AV) :=
  [(0, .i (.isl (bytesI code))), (1, .i (.isl (bytesI more))), (4, .bool false), (5, .own 0 0), (6, .i (.isl (Ex.cellsL l))), (7, .int w), (8, .own 1 0), (9, .bool true), (10, .own 2 0), (11, .bool true), (12, v12), (13, v13), (14, v14), (15, v15), (16, v16), (17, v17), (18, .junk), (19, .junk), (20, .junk), (21, .junk), (29, .bool false), (62, .bool false), (74, v74), (91, v91), (104, v104)]
def Y1 (code more : List UInt8) (e : Ex) (l : List Ex) (w : Nat) (i : Nat) : AS :=
  { env := B1 code more e l w (.osl 3 2 0 i) (.int i) .junk .junk .junk .junk (jk i (.bool true)) .junk .junk, st := [some (.box (impI e.cells)), some (.box (impI (e.sub l).cells)), some (.box (impI (e.sub l).cells)), some (.arr 2 (valsL (rowV more.length i)))] }
def Y2 (code more : List UInt8) (e : Ex) (l : List Ex) (w : Nat) (row vals : List Val) (i : Nat) : AS :=
  { env := B1 code more e l w (.osl 3 2 0 w) (.int w) (.osl 4 2 0 i) (.int i) (if i = 0 then .junk else .own 5 0) (jk i (.bool true)) (.bool false) (jk i (.bool true)) (jk i (.bool false)),
    st := some (.box (impI e.cells)) :: some (.box (impI (e.sub l).cells)) :: some (.box (impI (e.sub l).cells)) :: (if i = 0 then some (.arr 2 (valsL row)) else some (.frz 2 (valsL row))) :: some (.arr 2 (valsL (vals.take i))) :: if i = 0 then [] else [some (.box [.bool ((vals[i - 1]?).getD Val.zero).null, .int ((vals[i - 1]?).getD Val.zero).n])] }
end Go.Proofs.Yteihcffblfdgfaa

/- Bind, as the program has it. No condition. -/
namespace Go.Av
def constE (v : Val) : Ex := .mk 2 0 v []
theorem constE_cells (v : Val) : (constE v).cells = [.int 2, .int 0, .bool v.null, .int v.n, .isl []] := by simp [constE, Ex.cells, Ex.cellsL]
/-- What the columns are bound to. -/
def bindL (w : Nat) (vs : List Val) : List Ex := colsE w ++ vs.map constE
@[simp] theorem bindL_length (w : Nat) (vs : List Val) : (bindL w vs).length = w + vs.length := by simp [bindL]
theorem bindL_lo {w : Nat} {vs : List Val} {i : Nat} (h : i < w) : (bindL w vs)[i]? = some (colE i) := by
  unfold bindL; rw [List.getElem?_append_left (by simpa using h)]; exact colsE_get h
theorem bindL_hi {w : Nat} {vs : List Val} {i : Nat} {v : Val} (h : w ≤ i) (hv : vs[i - w]? = some v) : (bindL w vs)[i]? = some (constE v) := by
  unfold bindL; rw [List.getElem?_append_right (by simpa using h)]; simp [hv]
def Ex.bindO (e : Ex) (w : Int) (vs : List Val) : Option Ex := if vs.all Val.ok && (decide (1 ≤ w) && e.ok (w + vs.length)) then some (e.sub (bindL w.toNat vs)) else none
theorem bindL_thin (w : Nat) (vs : List Val) : ∀ b ∈ bindL w vs, b.thin := by
  intro b hb
  unfold bindL at hb
  rcases List.mem_append.1 hb with h | h
  · simp [colsE] at h; obtain ⟨i, _, rfl⟩ := h; simp [colE, Ex.thin, Ex.thinL]
  · obtain ⟨v, _, rfl⟩ := List.mem_map.1 h; simp [constE, Ex.thin, Ex.thinL]
end Go.Av
namespace Go.Proofs.Yteihcffblfdgfaa
open Go Go.Av
set_option maxRecDepth 4000
def bst (w : Int) (vs : List Val) : StL := [some (.box [.int w]), some (.box [.i (.isl (valsL vs))])]
end Go.Proofs.Yteihcffblfdgfaa

/- Bind, both ways. No condition. -/
namespace Go.Proofs.Yteihcffblfdgfaa
open Go Go.Av
set_option maxRecDepth 4000
set_option maxHeartbeats 1000000
def CF (n i : Nat) : AS :=
  { env := [(0, .int 0), (1, .int n), (4, .nils), (5, .osl 0 5 0 i), (6, .int i), (10, jk i (.bool true))], st := [some (.arr 5 (Ex.cellsL (colsE i)))] }
theorem colE_cells (i : Nat) : (colE i).cells = [.int 1, .int i, .bool false, .int 0, .isl []] := by simp [colE, Ex.cells, Ex.cellsL, Val.zero]
def BX (e : Ex) (w : Int) (vs : List Val) (i : Nat) : AS :=
  { env := [(0, .i (.agg [.int e.kind, .int e.col, .bool e.val.null, .int e.val.n, .isl (Ex.cellsL e.kids)])), (1, .int w), (2, .i (.isl (valsL vs))), (3, .own 0 0), (4, .own 1 0), (5, .own 2 0), (6, .own 3 0), (7, .bool false), (9, if i = 0 then .junk else .own 4 0), (10, .i (.isl (valsL vs))), (11, .int vs.length), (12, .int i), (13, jk i (.bool true)), (18, jk i (.bool false)), (32, .junk)],
    st := some (.box [.int e.kind, .int e.col, .bool e.val.null, .int e.val.n, .i (.isl (Ex.cellsL e.kids))]) :: some (.box [.int w]) :: some (.box [.i (.isl (valsL vs))]) :: some (.box [.int 0, .int 0, .bool false, .int 0, .nils]) ::
      if i = 0 then [] else [some (.box [.bool ((vs[i - 1]?).getD Val.zero).null, .int ((vs[i - 1]?).getD Val.zero).n])] }
def SB (e : Ex) (w : Int) (vs : List Val) (i : Nat) : AS :=
  { env := [(0, .i (.agg [.int e.kind, .int e.col, .bool e.val.null, .int e.val.n, .isl (Ex.cellsL e.kids)])), (1, .int w), (2, .i (.isl (valsL vs))), (3, .own 0 0), (6, .own 1 0), (7, .bool false), (8, .int i), (9, .junk), (10, .junk), (14, jk i (.bool true)), (22, jk i (.bool false)), (34, .junk), (41, .junk)],
    st := [some (.box [.int e.kind, .int e.col, .bool e.val.null, .int e.val.n, .i (.isl (Ex.cellsL e.kids))]), some (.box [.int 0, .int 0, .bool false, .int 0, .nils])] }
def bindU (n : Nat) (vs : List Val) (i : Nat) : List Ex := colsE n ++ (vs.map constE).take i
theorem bindU_length (n : Nat) (vs : List Val) (i : Nat) : (bindU n vs i).length = n + min i vs.length := by simp [bindU]
theorem bindU_0 (n : Nat) (vs : List Val) : bindU n vs 0 = colsE n := by simp [bindU]
theorem bindU_all (n : Nat) (vs : List Val) : bindU n vs vs.length = bindL n vs := by unfold bindU bindL; rw [List.take_of_length_le (by simp)]
theorem bindU_succ {n : Nat} {vs : List Val} {i : Nat} {v : Val} (h : vs[i]? = some v) : bindU n vs (i + 1) = bindU n vs i ++ [constE v] := by
  unfold bindU; rw [take_snoc (a := constE v) (by simp [h]), List.append_assoc]
def SB2 (e : Ex) (w : Nat) (vs : List Val) (i : Nat) : AS :=
  { env := [(0, .i (.agg [.int e.kind, .int e.col, .bool e.val.null, .int e.val.n, .isl (Ex.cellsL e.kids)])), (1, .int w), (2, .i (.isl (valsL vs))), (3, .own 0 0), (6, .own 1 0), (7, .bool false), (8, .int vs.length), (9, .osl 2 5 0 (w + i)), (10, .int i), (14, .bool false), (22, jk vs.length (.bool false)), (34, .bool false), (41, jk i (.bool true))],
    st := [some (.box [.int e.kind, .int e.col, .bool e.val.null, .int e.val.n, .i (.isl (Ex.cellsL e.kids))]), some (.box [.int 0, .int 0, .bool false, .int 0, .nils]), some (.arr 5 (Ex.cellsL (bindU w vs i)))] }
end Go.Proofs.Yteihcffblfdgfaa

/- Constants replaced by columns, as data. No condition. -/
namespace Go.Av
mutual
def Ex.ext (w : Int) (vs : List Val) : Ex → Ex × List Val
  | .mk k c v ks => if k = 2 then (.mk 1 (w + vs.length) Val.zero [], vs ++ [v]) else ((.mk k c Val.zero (Ex.extL w vs ks).1), (Ex.extL w vs ks).2)
def Ex.extL (w : Int) (vs : List Val) : List Ex → List Ex × List Val
  | [] => ([], vs)
  | e :: es => (((Ex.ext w vs e).1 :: (Ex.extL w (Ex.ext w vs e).2 es).1), (Ex.extL w (Ex.ext w vs e).2 es).2)
end
theorem Ex.extL_snoc (w : Int) : ∀ (l : List Ex) (vs : List Val) (e : Ex), Ex.extL w vs (l ++ [e]) = ((Ex.extL w vs l).1 ++ [(Ex.ext w (Ex.extL w vs l).2 e).1], (Ex.ext w (Ex.extL w vs l).2 e).2)
  | [], vs, e => by simp [Ex.extL]
  | a :: l, vs, e => by simp [Ex.extL, Ex.extL_snoc w l]
theorem Ex.ext_const (w : Int) (vs : List Val) {e : Ex} (h : e.kind = 2) : Ex.ext w vs e = (.mk 1 (w + vs.length) Val.zero [], vs ++ [e.val]) := by
  cases e; simp [Ex.kind] at h; simp [Ex.ext, h, Ex.val]
theorem Ex.ext_not (w : Int) (vs : List Val) {e : Ex} (h : e.kind ≠ 2) : Ex.ext w vs e = (.mk e.kind e.col Val.zero (Ex.extL w vs e.kids).1, (Ex.extL w vs e.kids).2) := by
  cases e; simp [Ex.kind] at h; simp [Ex.ext, h, Ex.kind, Ex.col, Ex.kids]
mutual
/-- The values only grow. -/
theorem Ex.ext_app (w : Int) : ∀ (vs : List Val) (e : Ex), ∃ l, (Ex.ext w vs e).2 = vs ++ l ∧ l.length ≤ e.size
  | vs, .mk k c v ks => by
    by_cases h : k = 2
    · exact ⟨[v], by simp [Ex.ext, h], by simp [Ex.size]⟩
    · obtain ⟨l, h1, h2⟩ := Ex.extL_app w vs ks
      exact ⟨l, by simp [Ex.ext, h, h1], by simp [Ex.size]; omega⟩
theorem Ex.extL_app (w : Int) : ∀ (vs : List Val) (l : List Ex), ∃ r, (Ex.extL w vs l).2 = vs ++ r ∧ r.length ≤ Ex.sizeL l
  | vs, [] => ⟨[], by simp [Ex.extL], by simp⟩
  | vs, e :: es => by
    obtain ⟨r1, h1, h2⟩ := Ex.ext_app w vs e
    obtain ⟨r2, h3, h4⟩ := Ex.extL_app w (Ex.ext w vs e).2 es
    exact ⟨r1 ++ r2, by simp only [Ex.extL]; rw [h3, h1]; simp, by simp [Ex.sizeL]; omega⟩
end
end Go.Av

/- Extract, as the reference has it. No condition. -/
namespace Go.Proofs.Yteihcffblfdgfaa
open Go Go.Av
set_option maxRecDepth 4000
set_option maxHeartbeats 2000000
/-- The values as they come back: in the block that was given, or in a new one. -/
def xv (a b : Nat) : AV := if b = a then .osl 0 2 0 a else .osl 1 2 0 b
def xst (vs vs' : List Val) : StL := if vs'.length = vs.length then [some (.arr 2 (valsL vs))] else [none, some (.arr 2 (valsL vs'))]
def eBox (e : Ex) : Option Blk := some (.box [.int e.kind, .int e.col, .bool e.val.null, .int e.val.n, .i (.isl (Ex.cellsL e.kids))])
def zBox : Option Blk := some (.box [.int 0, .int 0, .bool false, .int 0, .nils])
def kBox (x : Ex) : Option Blk := some (.box (impI x.cells))
def U0 (e : Ex) (w : Int) (vs : List Val) : AS :=
  { env := [(0, .i (.agg [.int e.kind, .int e.col, .bool e.val.null, .int e.val.n, .isl (Ex.cellsL e.kids)])), (1, .int w), (2, .osl 0 2 0 vs.length), (3, .own 1 0), (6, .own 2 0), (7, .nils), (8, .own 3 0), (9, .int 0), (10, .junk), (11, .junk), (14, .bool (e.kind == 2)), (34, .junk)],
    st := [some (.arr 2 (valsL vs)), eBox e, zBox, some (.box [.int e.kind, .int e.col, .bool false, .int 0, .nils])] }
def U1 (e : Ex) (w : Int) (vs : List Val) (ks : List Ex) (x : Ex) (i : Nat) : AS :=
  { env := [(0, .i (.agg [.int e.kind, .int e.col, .bool e.val.null, .int e.val.n, .isl (Ex.cellsL e.kids)])), (1, .int w), (2, .osl 0 2 0 vs.length), (3, .own 1 0), (6, .own 2 0), (7, .nils), (8, .own 3 0), (9, .int i), (10, .own 5 0), (11, .osl 0 2 0 vs.length), (14, .bool (e.kind == 2)), (34, .bool true)],
    st := [some (.arr 2 (valsL vs)), eBox e, zBox, some (.box [.int e.kind, .int e.col, .bool false, .int 0, .osl 4 5 0 i]), some (.arr 5 (Ex.cellsL ks)), kBox x] }
def V1 (e : Ex) (w : Int) (cur : List Val) (ks : List Ex) (x : Ex) (i : Nat) : AS :=
  { env := [(0, .i (.agg [.int e.kind, .int e.col, .bool e.val.null, .int e.val.n, .isl (Ex.cellsL e.kids)])), (1, .int w), (2, .osl 1 2 0 cur.length), (3, .own 2 0), (6, .own 3 0), (7, .nils), (8, .own 4 0), (9, .int i), (10, .own 6 0), (11, .osl 1 2 0 cur.length), (14, .bool (e.kind == 2)), (34, .bool true)],
    st := [none, some (.arr 2 (valsL cur)), eBox e, zBox, some (.box [.int e.kind, .int e.col, .bool false, .int 0, .osl 5 5 0 i]), some (.arr 5 (Ex.cellsL ks)), kBox x] }
def SE (e : Ex) (w : Int) (vs : List Val) : Nat → AS
  | 0 => U0 e w vs
  | i + 1 => if (Ex.extL w vs (e.kids.take (i + 1))).2.length = vs.length then U1 e w vs (Ex.extL w vs (e.kids.take (i + 1))).1 ((Ex.extL w vs (e.kids.take (i + 1))).1.getLastD Ex.zero) (i + 1)
    else V1 e w (Ex.extL w vs (e.kids.take (i + 1))).2 (Ex.extL w vs (e.kids.take (i + 1))).1 ((Ex.extL w vs (e.kids.take (i + 1))).1.getLastD Ex.zero) (i + 1)
theorem extL_len (w : Int) : ∀ (l : List Ex) (vs : List Val), (Ex.extL w vs l).1.length = l.length
  | [], _ => by simp [Ex.extL]
  | a :: l, vs => by simp [Ex.extL, extL_len w l]
theorem ext_same {w : Int} {vs : List Val} {e : Ex} (h : (Ex.ext w vs e).2.length = vs.length) : (Ex.ext w vs e).2 = vs := by
  obtain ⟨l, h1, _⟩ := Ex.ext_app w vs e
  rw [h1] at h ⊢
  have : l = [] := by simpa using h
  simp [this]
theorem extL_same {w : Int} {vs : List Val} {l : List Ex} (h : (Ex.extL w vs l).2.length = vs.length) : (Ex.extL w vs l).2 = vs := by
  obtain ⟨r, h1, _⟩ := Ex.extL_app w vs l
  rw [h1] at h ⊢
  have : r = [] := by simpa using h
  simp [this]
theorem sizeL_take_add : ∀ {l : List Ex} {i : Nat} {a : Ex}, l[i]? = some a → Ex.sizeL (l.take i) + a.size ≤ Ex.sizeL l
  | [], _, _, h => by simp at h
  | b :: l, 0, a, h => by simp at h; subst h; simp [Ex.sizeL]
  | b :: l, i + 1, a, h => by
    have := sizeL_take_add (l := l) (i := i) (a := a) (by simpa using h)
    simp [Ex.sizeL]; omega
theorem getLastD_snoc (l : List Ex) (x d : Ex) : (l ++ [x]).getLastD d = x := by simp
end Go.Proofs.Yteihcffblfdgfaa

/- Extract, as the program has it. No condition. -/
namespace Go.Proofs.Yteihcffblfdgfaa
open Go Go.Av
set_option maxRecDepth 4000
set_option maxHeartbeats 2000000
/-- The captured values and the width. -/
def vst (w : Int) (vs : List Val) : StL := some (.box [gro 1 2 vs.length]) :: (groB 2 (valsL vs) vs.length ++ [some (.box [.int w])])
/-- Where the width lies. -/
def wi (n : Nat) : Nat := if n = 0 then 1 else 2
/-- .. when values have been put to them. -/
def vout (w : Int) (vs vs' : List Val) : StL :=
  if vs'.length = vs.length then vst w vs else if vs.length = 0 then [some (.box [.osl 2 2 0 vs'.length]), some (.box [.int w]), some (.arr 2 (valsL vs'))] else [some (.box [.osl 3 2 0 vs'.length]), none, some (.box [.int w]), some (.arr 2 (valsL vs'))]
end Go.Proofs.Yteihcffblfdgfaa

/- The program's replaced, with the closure of Extract. No condition. -/
namespace Go.Proofs.Yteihcffblfdgfaa
open Go Go.Av
set_option maxRecDepth 4000
set_option maxHeartbeats 2000000
def preA (w : Int) : StL := [some (.box [.nils]), some (.box [.int w])]
def preB (w : Int) (cur : List Val) : StL := [some (.box [.osl 1 2 0 cur.length]), some (.arr 2 (valsL cur)), some (.box [.int w])]
def preC (w : Int) (cur : List Val) : StL := [some (.box [.osl 2 2 0 cur.length]), some (.box [.int w]), some (.arr 2 (valsL cur))]
def preD (w : Int) (cur : List Val) : StL := [some (.box [.osl 3 2 0 cur.length]), none, some (.box [.int w]), some (.arr 2 (valsL cur))]
theorem vst_nil (w : Int) : vst w [] = preA w := by simp [vst, preA]
theorem vst_pos {w : Int} {vs : List Val} (h : vs.length ≠ 0) : vst w vs = preB w vs := by simp [vst, preB, gro_pos h, groB_pos h]
end Go.Proofs.Yteihcffblfdgfaa

/- Extract, both ways. No condition. -/
namespace Go.Av
def Ex.extO (e : Ex) (w : Int) : Option (Ex × List Val) := if e.ok w && decide (w + (Ex.ext w [] e).2.length ≤ 6) then some (Ex.ext w [] e) else none
/-- What a valid expression has in its value's place. -/
theorem Ex.wf_val {m : Int} {e : Ex} (h : e.wf m = true) (hk : e.kind ≠ 2) : e.val = Val.zero := by
  cases e with
  | mk k c v ks =>
    rw [Ex.wf_eq] at h
    simp [Ex.headOk, Ex.kind, Ex.val] at h hk ⊢
    by_cases h1 : k = 1
    · obtain ⟨b, n⟩ := v
      simp [h1, Val.zero] at h ⊢
      simp [h]
    · simp [h1, hk] at h
      obtain ⟨b, n⟩ := v
      simp [Val.zero] at h ⊢
      simp [h]
theorem Ex.wf_constKids {m : Int} {e : Ex} (h : e.wf m = true) (hk : e.kind = 2) : e.kids = [] := by
  rw [Ex.wf_eq] at h
  simp [hk, kidsK] at h
  exact h.1
end Go.Av
namespace Go.Proofs.Yteihcffblfdgfaa
open Go Go.Av
set_option maxRecDepth 4000
set_option maxHeartbeats 2000000
def resX : Option (Ex × List Val) → AV
  | none => .tup [.i (.agg Ex.zero.cells), .i (.isl []), .bool false]
  | some (x, vs) => .tup [.i (.agg x.cells), .i (.isl (valsL vs)), .bool true]
end Go.Proofs.Yteihcffblfdgfaa

/- Drawing the arguments of Bind. No condition. -/
namespace Go.Proofs.Yteihcffblfdgfaa
open Go Go.Av
set_option maxRecDepth 4000
set_option maxHeartbeats 2000000
/-- So many values, drawn one after the other. -/
theorem draws (l : List UInt8) (hl : l.length ≤ 2000) : ∀ (n : Nat) (p : Int), 0 ≤ p → p + 2 * n < 800000000 → ∃ (vs : List Val) (ps : Nat → Int), vs.length = n ∧ ps 0 = p ∧ (∀ i, i ≤ n → p ≤ ps i ∧ ps i ≤ p + 2 * i) ∧ ∀ i v, vs[i]? = some v → callA C0 97 [.own 0 0] [Rd l (ps i)] = some (.i (.agg [.bool v.null, .int v.n]), [Rd l (ps (i + 1))])
  | 0, p, h0, h1 => ⟨[], fun _ => p, rfl, rfl, fun i hi => by show p ≤ p ∧ p ≤ p + 2 * (i : Int); omega, fun i v h => by simp at h⟩
  | n + 1, p, h0, h1 => by
    obtain ⟨v, p1, hv, q1, q2⟩ := randomValue_eq l p h0 (by omega) hl
    obtain ⟨vs, ps, a1, a2, a3, a4⟩ := draws l hl n p1 (by omega) (by omega)
    refine ⟨v :: vs, fun i => match i with | 0 => p | i + 1 => ps i, by simp [a1], rfl, ?_, ?_⟩
    · intro i hi
      cases i with
      | zero => simp
      | succ i => have := a3 i (by omega); simp; omega
    · intro i u hu
      cases i with
      | zero => simp at hu; subst hu; simp only; rw [a2]; exact hv
      | succ i => exact a4 i u (by simpa using hu)
def SV (l : List UInt8) (vs : List Val) (ps : Nat → Int) (n : Nat) (i : Nat) : AS :=
  { env := [(0, .own 0 0), (2, .nils), (3, .osl 1 2 0 i), (4, .int ((n : Int) - i)), (9, jk i (.bool true)), (24, .junk)], st := [Rd l (ps i), some (.arr 2 (valsL (vs.take i)))] }
end Go.Proofs.Yteihcffblfdgfaa

/- The law on bound values. No condition. -/
namespace Go.Av
def rowQ (m : Nat) (w : Nat) : List Val := (List.range w).map fun (i : Nat) => ⟨false, Int.tmod ((m : Int) + (i : Int)) 4 - 1⟩
@[simp] theorem rowQ_length (m w : Nat) : (rowQ m w).length = w := by simp [rowQ]
theorem rowQ_succ (m w : Nat) : rowQ m (w + 1) = rowQ m w ++ [⟨false, Int.tmod (m + w) 4 - 1⟩] := by simp [rowQ, List.range_succ]
theorem rowQ_ok (m w : Nat) : (rowQ m w).all Val.ok = true := by
  rw [List.all_eq_true]; intro v hv
  simp [rowQ] at hv
  obtain ⟨i, hi, rfl⟩ := hv
  have := Int.tmod_nonneg (a := (m : Int) + i) 4 (by omega)
  have := Int.tmod_lt_of_pos ((m : Int) + i) (b := 4) (by omega)
  simp [Val.ok]; omega
theorem colE_wf {w : Int} {i : Nat} (h : (i : Int) < w) : (colE i).wf w = true := by
  simp [Ex.wf_eq, colE, Ex.kids, Ex.kind, Ex.headOk, Ex.col, Ex.val, Val.zero, kidsK, h]
theorem constE_wf {w : Int} {v : Val} (h : v.ok = true) : (constE v).wf w = true := by
  simp [Ex.wf_eq, constE, Ex.kids, Ex.kind, Ex.headOk, Ex.col, Ex.val, kidsK, h]
theorem bindL_wf {w : Nat} {vs : List Val} (h : vs.all Val.ok = true) : ∀ b ∈ bindL w vs, b.wf w = true ∧ b.ht = 0 := by
  intro b hb
  unfold bindL at hb
  rcases List.mem_append.1 hb with h1 | h1
  · simp [colsE] at h1; obtain ⟨i, hi, rfl⟩ := h1; exact ⟨colE_wf (by omega), by simp [colE, Ex.ht, Ex.htL]⟩
  · obtain ⟨v, hv, rfl⟩ := List.mem_map.1 h1; exact ⟨constE_wf (List.all_eq_true.1 h v hv), by simp [constE, Ex.ht, Ex.htL]⟩
theorem sub_ht {m : Int} (l : List Ex) (hm : m = l.length) (hl : ∀ b ∈ l, b.ht = 0) : ∀ (e : Ex), e.wf m = true → (e.sub l).ht = e.ht := by
  intro e
  induction e using Ex.ind with
  | h k c v ks ih =>
    intro h
    by_cases hk : k = 1
    · obtain ⟨h0, h1, h2⟩ := Ex.wf_col h hk
      have hi : c.toNat < l.length := by simp [Ex.col] at h0 h1; omega
      have hb := List.getElem?_eq_getElem hi
      rw [Ex.sub_col l (e := .mk k c v ks) hk hb, hl _ (List.getElem_mem hi), Ex.ht_eq, h2]; rfl
    · rw [Ex.sub_not l (e := .mk k c v ks) hk]
      simp only [Ex.ht, Ex.kids]
      have : ∀ q : List Ex, (∀ x ∈ q, (Ex.sub l x).ht = x.ht) → Ex.htL (q.map (Ex.sub l)) = Ex.htL q := by
        intro q
        induction q with
        | nil => intro _; rfl
        | cons a q ihq => intro hq; simp only [List.map_cons, Ex.htL, hq a (by simp), ihq fun x hx => hq x (by simp [hx])]
      exact this ks fun x hx => ih x hx (Ex.wf_kids h hx)
theorem bind_ok {e : Ex} {w : Nat} {vs : List Val} (hw : okWidth w = true) (hv : vs.all Val.ok = true) (h : e.ok ((w : Int) + vs.length) = true) : (e.sub (bindL w vs)).ok w = true := by
  simp only [Ex.ok, Ex.vB_eq, Bool.and_eq_true, decide_eq_true_eq] at h ⊢
  have hlen : ((w : Int) + vs.length) = (bindL w vs).length := by simp
  refine ⟨hw, Ex.wf_sub (m := (w : Int) + vs.length) _ hlen (fun b hb => (bindL_wf hv b hb).1) e h.2.1, ?_⟩
  rw [sub_ht (m := (w : Int) + vs.length) _ hlen (fun b hb => (bindL_wf hv b hb).2) e h.2.1]
  exact h.2.2
theorem bind_ev {e : Ex} {w : Nat} {vs row : List Val} (hr : row.length = w) (h : e.wf ((w : Int) + vs.length) = true) : (e.sub (bindL w vs)).ev row = e.ev (row ++ vs) := by
  rw [ev_sub (m := (w : Int) + vs.length) _ (by simp) row e h]
  congr 1
  unfold bindL
  rw [List.map_append]
  congr 1
  · apply List.ext_getElem
    · simp [hr]
    · intro i h1 h2
      simp [colsE, colE, Ex.ev, evN, List.getElem?_eq_getElem h2]
  · rw [List.map_map]
    have : (Ex.ev row ∘ constE) = id := by funext v; simp [constE, Ex.ev, evN]
    rw [this, List.map_id]
end Go.Av
namespace Go.Proofs.Yteihcffblfdgfaa
open Go Go.Av
set_option maxRecDepth 4000
set_option maxHeartbeats 2000000
def Y3 (code more : List UInt8) (e x : Ex) (n : Nat) (vs : List Val) (i : Nat) : AS :=
  { env := [(0, .i (.isl (bytesI code))), (1, .i (.isl (bytesI more))), (4, .bool false), (5, .own 0 0), (6, .int n), (7, .i (.isl (valsL vs))), (8, .own 1 0), (9, .bool true), (10, .own 2 0), (11, .bool true), (12, .osl 3 2 0 i), (13, .int i), (14, .junk), (15, .junk), (16, .junk), (17, .junk), (25, .bool false), (62, .bool false), (74, jk i (.bool true))],
    st := [some (.box (impI e.cells)), some (.box (impI x.cells)), some (.box (impI x.cells)), some (.arr 2 (valsL (rowQ more.length i)))] }
end Go.Proofs.Yteihcffblfdgfaa

/- Drawing conditions and lists of values. No condition. -/
namespace Go.Proofs.Yteihcffblfdgfaa
open Go Go.Av
set_option maxRecDepth 4000
set_option maxHeartbeats 4000000
/-- A drawn column. -/
def colX (c : Int) : Ex := .mk 1 c Val.zero []
def two (k : Int) (a b : Ex) : Ex := .mk k 0 Val.zero [a, b]
theorem colX_cells (c : Int) : (colX c).cells = [.int 1, .int c, .bool false, .int 0, .isl []] := by simp [colX, Ex.cells, Ex.cellsL, Val.zero]
theorem two_cells (k : Int) (a b : Ex) : (two k a b).cells = [.int k, .int 0, .bool false, .int 0, .isl [a.cells, b.cells]] := by simp [two, Ex.cells, Ex.cellsL, Val.zero]
def costC : Nat → Nat
  | 0 => 40
  | n + 1 => costC n + 40
theorem cond_step (l : List UInt8) (hl : l.length ≤ 2000) (w : Int) (n c : Nat) (hn : n ≤ 3) (p : Int) (h0 : 0 ≤ p) (h1 : p + 10 * n < 500000000)
    (ih : n = 0 ∨ ∀ p : Int, 0 ≤ p → p + 10 * ((n : Int) - 1) < 500000000 → ∃ (e : Ex) (p' : Int), callA C0 88 [.own 0 0, .int w, .int ((n : Int) - 1)] [Rd l p] = some (.i (.agg e.cells), [Rd l p']) ∧ p ≤ p' ∧ p' ≤ p + c ∧ e.size ≤ c) :
    ∃ (e : Ex) (p' : Int), callA C0 88 [.own 0 0, .int w, .int n] [Rd l p] = some (.i (.agg e.cells), [Rd l p']) ∧ p ≤ p' ∧ p' ≤ p + (c + 40 : Nat) ∧ e.size ≤ c + 40 := by
  obtain ⟨c1, hc1, -, -⟩ := pick_eq l p w h0 (by omega) hl
  obtain ⟨x, hx, -, -⟩ := pick_eq l (p + 1) 4 (by omega) (by omega) hl
  obtain ⟨t, ht, -, -⟩ := pick_eq l (p + 1 + 1) 3 (by omega) (by omega) hl
  obtain ⟨c2, hc2, -, -⟩ := pick_eq l (p + 1 + 1 + 1) w (by omega) (by omega) hl
  have hcon := constant_eq ⟨false, x⟩
  rw [show (Ex.mk 2 0 ⟨false, x⟩ []).cells = (constE ⟨false, x⟩).cells from rfl] at hcon
  simp at hcon
  have wn : IntKind.i64.wrap ((n : Int) - 1) = n - 1 := wrap64 (by omega) (by omega)
  by_cases g : t = 0
  · obtain ⟨k, hk, -, -⟩ := pick_eq l (p + 1 + 1 + 1 + 1) 8 (by omega) (by omega) hl
    by_cases k0 : k = 0
    · obtain ⟨e, p', he, a1, a2, a3⟩ := randomExpr2 l hl w (p + 1 + 1 + 1 + 1 + 1) (by omega) (by omega)
      refine ⟨e, p', ?_, by omega, by omega, by omega⟩
      rw [callA_eq rfl Try.func88 rfl rfl]
      simp [hc1, hx, ht, hk, hcon, g, hc2, colX_cells, constE_cells, two_cells, Ex.cellsL, k0, he]
    by_cases k1 : k = 1
    · refine ⟨.mk 10 0 Val.zero [.mk 11 0 Val.zero [colX c1]], p + 1 + 1 + 1 + 1 + 1, ?_, by omega, by omega, by simp [colX, Ex.size, Ex.sizeL]⟩
      rw [callA_eq rfl Try.func88 rfl rfl]
      simp [hc1, hx, ht, hk, hcon, g, hc2, colX_cells, constE_cells, two_cells, Ex.cellsL, k1, Ex.cells, Val.zero]
    by_cases k2 : k = 2
    · rcases ih with rfl | ih
      · refine ⟨two 7 (colX c1) (colX c2), p + 1 + 1 + 1 + 1 + 1, ?_, by omega, by omega, by simp [two, colX, constE, Ex.size, Ex.sizeL]⟩
        rw [callA_eq rfl Try.func88 rfl rfl]
        simp [hc1, hx, ht, hk, hcon, g, hc2, colX_cells, constE_cells, two_cells, Ex.cellsL, k2]
      · by_cases n0 : n = 0
        · refine ⟨two 7 (colX c1) (colX c2), p + 1 + 1 + 1 + 1 + 1, ?_, by omega, by omega, by simp [two, colX, constE, Ex.size, Ex.sizeL]⟩
          rw [callA_eq rfl Try.func88 rfl rfl]
          simp [hc1, hx, ht, hk, hcon, g, hc2, colX_cells, constE_cells, two_cells, Ex.cellsL, k2, n0]
        · obtain ⟨e, p', he, a1, a2, a3⟩ := ih (p + 1 + 1 + 1 + 1 + 1) (by omega) (by omega)
          refine ⟨two 8 e (two 6 (colX c1) (colX c2)), p', ?_, by omega, by omega, by simp [two, colX, constE, Ex.size, Ex.sizeL]; omega⟩
          rw [callA_eq rfl Try.func88 rfl rfl]
          simp [hc1, hx, ht, hk, hcon, g, hc2, colX_cells, constE_cells, two_cells, Ex.cellsL, k2, n0, wn, he]
    by_cases k3 : k = 3
    · refine ⟨two 7 (colX c2) (colX c1), p + 1 + 1 + 1 + 1 + 1, ?_, by omega, by omega, by simp [two, colX, constE, Ex.size, Ex.sizeL]⟩
      rw [callA_eq rfl Try.func88 rfl rfl]
      simp [hc1, hx, ht, hk, hcon, g, hc2, colX_cells, constE_cells, two_cells, Ex.cellsL, k3]
    by_cases k4 : k = 4
    · refine ⟨two 7 (colX c2) (colX c1), p + 1 + 1 + 1 + 1 + 1, ?_, by omega, by omega, by simp [two, colX, constE, Ex.size, Ex.sizeL]⟩
      rw [callA_eq rfl Try.func88 rfl rfl]
      simp [hc1, hx, ht, hk, hcon, g, hc2, colX_cells, constE_cells, two_cells, Ex.cellsL, k4]
    by_cases k5 : k = 5
    · refine ⟨two 7 (colX c1) (colX c2), p + 1 + 1 + 1 + 1 + 1, ?_, by omega, by omega, by simp [two, colX, constE, Ex.size, Ex.sizeL]⟩
      rw [callA_eq rfl Try.func88 rfl rfl]
      simp [hc1, hx, ht, hk, hcon, g, hc2, colX_cells, constE_cells, two_cells, Ex.cellsL, k5]
    refine ⟨two 6 (colX c1) (colX c2), p + 1 + 1 + 1 + 1 + 1, ?_, by omega, by omega, by simp [two, colX, constE, Ex.size, Ex.sizeL]⟩
    rw [callA_eq rfl Try.func88 rfl rfl]
    simp [hc1, hx, ht, hk, hcon, g, hc2, colX_cells, constE_cells, two_cells, Ex.cellsL, k0, k1, k2, k3, k4, k5]
  · obtain ⟨k, hk, -, -⟩ := pick_eq l (p + 1 + 1 + 1) 8 (by omega) (by omega) hl
    by_cases k0 : k = 0
    · obtain ⟨e, p', he, a1, a2, a3⟩ := randomExpr2 l hl w (p + 1 + 1 + 1 + 1) (by omega) (by omega)
      refine ⟨e, p', ?_, by omega, by omega, by omega⟩
      rw [callA_eq rfl Try.func88 rfl rfl]
      simp [hc1, hx, ht, hk, hcon, g, colX_cells, constE_cells, two_cells, Ex.cellsL, k0, he]
    by_cases k1 : k = 1
    · refine ⟨.mk 10 0 Val.zero [.mk 11 0 Val.zero [colX c1]], p + 1 + 1 + 1 + 1, ?_, by omega, by omega, by simp [colX, Ex.size, Ex.sizeL]⟩
      rw [callA_eq rfl Try.func88 rfl rfl]
      simp [hc1, hx, ht, hk, hcon, g, colX_cells, constE_cells, two_cells, Ex.cellsL, k1, Ex.cells, Val.zero]
    by_cases k2 : k = 2
    · rcases ih with rfl | ih
      · refine ⟨two 7 (colX c1) (constE ⟨false, x⟩), p + 1 + 1 + 1 + 1, ?_, by omega, by omega, by simp [two, colX, constE, Ex.size, Ex.sizeL]⟩
        rw [callA_eq rfl Try.func88 rfl rfl]
        simp [hc1, hx, ht, hk, hcon, g, colX_cells, constE_cells, two_cells, Ex.cellsL, k2]
      · by_cases n0 : n = 0
        · refine ⟨two 7 (colX c1) (constE ⟨false, x⟩), p + 1 + 1 + 1 + 1, ?_, by omega, by omega, by simp [two, colX, constE, Ex.size, Ex.sizeL]⟩
          rw [callA_eq rfl Try.func88 rfl rfl]
          simp [hc1, hx, ht, hk, hcon, g, colX_cells, constE_cells, two_cells, Ex.cellsL, k2, n0]
        · obtain ⟨e, p', he, a1, a2, a3⟩ := ih (p + 1 + 1 + 1 + 1) (by omega) (by omega)
          refine ⟨two 8 e (two 6 (colX c1) (constE ⟨false, x⟩)), p', ?_, by omega, by omega, by simp [two, colX, constE, Ex.size, Ex.sizeL]; omega⟩
          rw [callA_eq rfl Try.func88 rfl rfl]
          simp [hc1, hx, ht, hk, hcon, g, colX_cells, constE_cells, two_cells, Ex.cellsL, k2, n0, wn, he]
    by_cases k3 : k = 3
    · refine ⟨two 7 (constE ⟨false, x⟩) (colX c1), p + 1 + 1 + 1 + 1, ?_, by omega, by omega, by simp [two, colX, constE, Ex.size, Ex.sizeL]⟩
      rw [callA_eq rfl Try.func88 rfl rfl]
      simp [hc1, hx, ht, hk, hcon, g, colX_cells, constE_cells, two_cells, Ex.cellsL, k3]
    by_cases k4 : k = 4
    · refine ⟨two 7 (constE ⟨false, x⟩) (colX c1), p + 1 + 1 + 1 + 1, ?_, by omega, by omega, by simp [two, colX, constE, Ex.size, Ex.sizeL]⟩
      rw [callA_eq rfl Try.func88 rfl rfl]
      simp [hc1, hx, ht, hk, hcon, g, colX_cells, constE_cells, two_cells, Ex.cellsL, k4]
    by_cases k5 : k = 5
    · refine ⟨two 7 (colX c1) (constE ⟨false, x⟩), p + 1 + 1 + 1 + 1, ?_, by omega, by omega, by simp [two, colX, constE, Ex.size, Ex.sizeL]⟩
      rw [callA_eq rfl Try.func88 rfl rfl]
      simp [hc1, hx, ht, hk, hcon, g, colX_cells, constE_cells, two_cells, Ex.cellsL, k5]
    refine ⟨two 6 (colX c1) (constE ⟨false, x⟩), p + 1 + 1 + 1 + 1, ?_, by omega, by omega, by simp [two, colX, constE, Ex.size, Ex.sizeL]⟩
    rw [callA_eq rfl Try.func88 rfl rfl]
    simp [hc1, hx, ht, hk, hcon, g, colX_cells, constE_cells, two_cells, Ex.cellsL, k0, k1, k2, k3, k4, k5]
theorem cond_eq (l : List UInt8) (hl : l.length ≤ 2000) (w : Int) : ∀ (n : Nat), n ≤ 3 → ∀ p : Int, 0 ≤ p → p + 10 * n < 500000000 → ∃ (e : Ex) (p' : Int), callA C0 88 [.own 0 0, .int w, .int n] [Rd l p] = some (.i (.agg e.cells), [Rd l p']) ∧ p ≤ p' ∧ p' ≤ p + costC n ∧ e.size ≤ costC n
  | 0, hn, p, h0, h1 => cond_step l hl w 0 0 hn p h0 h1 (.inl rfl)
  | n + 1, hn, p, h0, h1 => by
    refine cond_step l hl w (n + 1) (costC n) hn p h0 h1 (.inr fun q q0 q1 => ?_)
    rw [show ((n + 1 : Nat) : Int) - 1 = n by omega] at q1 ⊢
    exact cond_eq l hl w n (by omega) q q0 q1
end Go.Proofs.Yteihcffblfdgfaa

/- Extraction and binding, as data; drawing the arguments of Extract. No condition. -/
namespace Go.Av
theorem headOk_mk (w k c : Int) (v : Val) (ks : List Ex) : Ex.headOk w (.mk k c v ks) = if k = 1 then decide (0 ≤ c) && (decide (c < w) && (!v.null && v.n == 0)) else if k = 2 then decide (c = 0) && v.ok else decide (c = 0) && (!v.null && v.n == 0) := (rfl)
theorem wf_mk (w k c : Int) (v : Val) (ks : List Ex) : Ex.wf w (.mk k c v ks) = (decide ((ks.length : Int) = kidsK k) && (Ex.headOk w (.mk k c v ks) && ks.all (Ex.wf w))) := Ex.wf_eq w _
theorem extL_map {w : Int} {α : Type} (P : Ex → α) (Q : Ex → α) : ∀ (l : List Ex) (vs : List Val), (∀ x ∈ l, ∀ us, P (Ex.ext w us x).1 = Q x) → (Ex.extL w vs l).1.map P = l.map Q
  | [], vs, h => by simp [Ex.extL]
  | e :: es, vs, h => by
    simp only [Ex.extL, List.map_cons]
    rw [h e (by simp) vs, extL_map P Q es _ fun x hx => h x (by simp [hx])]
theorem ext_len (w : Int) : ∀ (l : List Ex) (vs : List Val), (Ex.extL w vs l).1.length = l.length
  | [], _ => by simp [Ex.extL]
  | a :: l, vs => by simp [Ex.extL, ext_len w l]
theorem htL_map (l m : List Ex) (h : l.map Ex.ht = m.map Ex.ht) : Ex.htL l = Ex.htL m := by
  induction l generalizing m with
  | nil => cases m with | nil => rfl | cons b m => simp at h
  | cons a l ih =>
    cases m with
    | nil => simp at h
    | cons b m => simp at h; simp only [Ex.htL, h.1, ih m h.2]
theorem ext_ht {w : Int} : ∀ (e : Ex), e.wf w = true → ∀ vs : List Val, (Ex.ext w vs e).1.ht = e.ht := by
  intro e
  induction e using Ex.ind with
  | h k c v ks ih =>
    intro h vs
    by_cases hk : k = 2
    · have hks := Ex.wf_constKids h hk
      simp only [Ex.kids] at hks
      subst hks
      rw [Ex.ext_const w vs (e := .mk k c v []) hk]; simp [Ex.ht]
    · rw [Ex.ext_not w vs (e := .mk k c v ks) hk]
      simp only [Ex.kind, Ex.col, Ex.kids, Ex.ht]
      exact htL_map _ _ (extL_map Ex.ht Ex.ht ks vs fun x hx us => ih x hx (Ex.wf_kids h hx) us)
theorem ext_mono (w : Int) (vs : List Val) (e : Ex) : vs.length ≤ (Ex.ext w vs e).2.length := by
  obtain ⟨l, h, _⟩ := Ex.ext_app w vs e; rw [h]; simp
theorem extL_mono (w : Int) (vs : List Val) (l : List Ex) : vs.length ≤ (Ex.extL w vs l).2.length := by
  obtain ⟨r, h, _⟩ := Ex.extL_app w vs l; rw [h]; simp
theorem extL_wf {w m : Int} : ∀ (l : List Ex) (vs : List Val), (∀ x ∈ l, ∀ us : List Val, w + (Ex.ext w us x).2.length ≤ m → (Ex.ext w us x).1.wf m = true) → w + (Ex.extL w vs l).2.length ≤ m → ∀ x ∈ (Ex.extL w vs l).1, x.wf m = true
  | [], vs, h, hm, x, hx => by simp [Ex.extL] at hx
  | e :: es, vs, h, hm, x, hx => by
    simp only [Ex.extL] at hx hm
    have := extL_mono w (Ex.ext w vs e).2 es
    rcases List.mem_cons.1 hx with rfl | hx
    · exact h e (by simp) vs (by omega)
    · exact extL_wf es _ (fun y hy => h y (by simp [hy])) hm x hx
theorem ext_wf {w m : Int} (h0 : 0 ≤ w) : ∀ (e : Ex), e.wf w = true → ∀ vs : List Val, w + (Ex.ext w vs e).2.length ≤ m → (Ex.ext w vs e).1.wf m = true := by
  intro e
  induction e using Ex.ind with
  | h k c v ks ih =>
    intro h vs hm
    by_cases hk : k = 2
    · rw [Ex.ext_const w vs (e := .mk k c v ks) hk] at hm ⊢
      simp only [List.length_append, List.length_cons, List.length_nil] at hm
      rw [wf_mk, headOk_mk]
      simp [kidsK, Val.zero]
      omega
    · have hv := Ex.wf_val h hk
      rw [Ex.ext_not w vs (e := .mk k c v ks) hk] at hm ⊢
      have hkl := fun x hx => ih x hx (Ex.wf_kids h hx)
      simp only [Ex.kind, Ex.col, Ex.kids, Ex.val] at hm ⊢ hv
      subst hv
      have hml := extL_mono w vs ks
      rw [wf_mk, headOk_mk] at h ⊢
      rw [ext_len]
      simp only [Bool.and_eq_true, decide_eq_true_eq, List.all_eq_true, if_neg hk] at h ⊢
      refine ⟨h.1, ?_, extL_wf ks vs hkl hm⟩
      have h2 := h.2.1
      by_cases h1 : k = 1
      · simp only [if_pos h1, Bool.and_eq_true, decide_eq_true_eq] at h2 ⊢; exact ⟨h2.1, by omega, h2.2.2⟩
      · simp only [if_neg h1] at h2 ⊢; exact h2
theorem extL_vals {w : Int} : ∀ (l : List Ex) (vs : List Val), (∀ x ∈ l, ∀ us : List Val, us.all Val.ok = true → (Ex.ext w us x).2.all Val.ok = true) → vs.all Val.ok = true → (Ex.extL w vs l).2.all Val.ok = true
  | [], vs, h, hv => by simpa [Ex.extL] using hv
  | e :: es, vs, h, hv => by
    simp only [Ex.extL]
    exact extL_vals es _ (fun y hy => h y (by simp [hy])) (h e (by simp) vs hv)
theorem ext_vals {w : Int} : ∀ (e : Ex), e.wf w = true → ∀ vs : List Val, vs.all Val.ok = true → (Ex.ext w vs e).2.all Val.ok = true := by
  intro e
  induction e using Ex.ind with
  | h k c v ks ih =>
    intro h vs hv
    by_cases hk : k = 2
    · rw [Ex.ext_const w vs (e := .mk k c v ks) hk]
      rw [wf_mk, headOk_mk] at h
      simp [hk] at h
      simp only [List.all_append, hv, Ex.val, List.all_cons, List.all_nil, h.2.1.2, Bool.and_self]
    · rw [Ex.ext_not w vs (e := .mk k c v ks) hk]
      exact extL_vals ks vs (fun x hx => ih x hx (Ex.wf_kids h hx)) hv
theorem extL_sub {w : Int} {f : Ex → Ex} {us : List Val} : ∀ (l : List Ex) (vs : List Val), (∀ x ∈ l, ∀ vs : List Val, (∃ r, us = (Ex.ext w vs x).2 ++ r) → f (Ex.ext w vs x).1 = x) → (∃ r, us = (Ex.extL w vs l).2 ++ r) → (Ex.extL w vs l).1.map f = l
  | [], vs, h, hu => by simp [Ex.extL]
  | e :: es, vs, h, ⟨r, hu⟩ => by
    simp only [Ex.extL] at hu ⊢
    obtain ⟨q, hq, _⟩ := Ex.extL_app w (Ex.ext w vs e).2 es
    rw [List.map_cons, h e (by simp) vs ⟨q ++ r, by rw [hu, hq, List.append_assoc]⟩, extL_sub es _ (fun y hy => h y (by simp [hy])) ⟨r, hu⟩]
/-- Binding undoes extraction. -/
theorem ext_sub {w : Nat} {us : List Val} : ∀ (e : Ex), e.wf w = true → ∀ vs : List Val, (∃ r, us = (Ex.ext w vs e).2 ++ r) → (Ex.ext w vs e).1.sub (bindL w us) = e := by
  intro e
  induction e using Ex.ind with
  | h k c v ks ih =>
    intro h vs hu
    by_cases hk : k = 2
    · have hks := Ex.wf_constKids h hk
      rw [wf_mk, headOk_mk] at h
      simp [hk] at h
      obtain ⟨r, hu⟩ := hu
      rw [Ex.ext_const w vs (e := .mk k c v ks) hk] at hu ⊢
      simp only [Ex.val] at hu ⊢
      have hg : us[(w + vs.length) - w]? = some v := by rw [hu]; simp
      have hb := bindL_hi (w := w) (i := w + vs.length) (by omega) hg
      rw [Ex.sub_col _ (e := .mk 1 _ Val.zero []) rfl (b := constE v) (by rw [← hb]; congr 1)]
      simp only [Ex.kids] at hks
      simp [constE, hk, hks, h.2.1.1]
    · have hv := Ex.wf_val h hk
      rw [Ex.ext_not w vs (e := .mk k c v ks) hk] at hu ⊢
      simp only [Ex.kind, Ex.col, Ex.kids, Ex.val] at hu ⊢ hv
      subst hv
      by_cases h1 : k = 1
      · obtain ⟨c0, c1, ck⟩ := Ex.wf_col h h1
        simp only [Ex.kids, Ex.col] at ck c0 c1
        subst ck
        have hb := bindL_lo (w := w) (vs := us) (i := c.toNat) (by omega)
        rw [Ex.sub_col _ (e := .mk k c Val.zero (Ex.extL w vs []).1) h1 hb]
        simp [colE, h1]; omega
      · rw [Ex.sub_not _ (e := .mk k c Val.zero (Ex.extL w vs ks).1) h1]
        simp only [Ex.kind, Ex.col, Ex.val, Ex.kids]
        rw [extL_sub ks vs (fun x hx us' hus => ih x hx (Ex.wf_kids h hx) us' hus) hu]
theorem ext_bind {e x : Ex} {w : Nat} {us : List Val} (h : e.extO w = some (x, us)) : x.bindO w us = some e := by
  unfold Ex.extO at h
  split at h
  · rename_i hc
    injection h with h
    simp only [Bool.and_eq_true, decide_eq_true_eq] at hc
    obtain ⟨ho, hl⟩ := hc
    have ho' := ho
    simp only [Ex.ok, Ex.vB_eq, Bool.and_eq_true, decide_eq_true_eq] at ho'
    obtain ⟨o1, o2, o3⟩ := ho'
    have hw : 1 ≤ w := by simp [okWidth] at o1; omega
    have e1 : (Ex.ext w [] e).1 = x := by rw [h]
    have e2 : (Ex.ext w [] e).2 = us := by rw [h]
    have k1 := ext_vals e o2 [] (by simp)
    have k2 := ext_wf (m := w + (Ex.ext w [] e).2.length) (by omega) e o2 [] (by omega)
    have k3 := ext_ht e o2 []
    have k4 := ext_sub (us := us) e o2 [] ⟨[], by rw [e2]; simp⟩
    rw [e1, e2] at k2
    rw [e1] at k3 k4
    rw [e2] at k1 hl
    have ko : x.ok ((w : Int) + us.length) = true := by
      simp only [Ex.ok, Ex.vB_eq, Bool.and_eq_true, decide_eq_true_eq, k3, k2, o3, and_true, true_and]
      simp [okWidth]; omega
    simp only [Ex.bindO, k1, ko, Int.toNat_natCast, k4]
    simp; omega
  · cases h
end Go.Av
namespace Go.Proofs.Yteihcffblfdgfaa
open Go Go.Av
set_option maxRecDepth 4000
set_option maxHeartbeats 2000000
def RowsX (vs : List Val) (i : Nat) : AS :=
  { env := [(0, .i (.isl (valsL vs))), (1, .i (.isl (valsL vs))), (4, .bool false), (5, .int i), (10, .bool false), (14, jk i (.bool true)), (25, jk i (.bool false))], st := [] }
theorem randomCondition_eq (l : List UInt8) (hl : l.length ≤ 2000) (w p : Int) (h0 : 0 ≤ p) (h1 : p < 400000000) : ∃ (e : Ex) (p' : Int), callA C0 63 [.own 0 0, .int w] [Rd l p] = some (.i (.agg e.cells), [Rd l p']) ∧ p ≤ p' ∧ p' ≤ p + 120 ∧ e.size ≤ 120 := by
  obtain ⟨e, p', he, a1, a2, a3⟩ := cond_eq l hl w 2 (by omega) p h0 (by omega)
  refine ⟨e, p', ?_, a1, a2, a3⟩
  rw [callA_eq rfl Try.func63 rfl rfl]
  rw [show ((2 : Nat) : Int) = 2 from rfl, Ex.cells_eq] at he
  rw [Ex.cells_eq]
  simp [he]
end Go.Proofs.Yteihcffblfdgfaa

/- The small functions on plans. No condition. -/
namespace Go.Proofs.Yteihcffblfdgfaa.P
open Go Go.Av
set_option maxRecDepth 4000
theorem partCases (n : Int) : n = 1 ∨ n = 2 ∨ n = 3 ∨ n = 4 ∨ n = 5 ∨ n = 6 ∨ n = 7 ∨ n = 8 ∨ (n ≠ 1 ∧ n ≠ 2 ∧ n ≠ 3 ∧ n ≠ 4 ∧ n ≠ 5 ∧ n ≠ 6 ∧ n ≠ 7 ∧ n ≠ 8) := by omega
@[simp] theorem partsOfKind_eq (n : Int) : callA C0 91 [.int n] [] = some (.tup [.int (nExprs n), .int (nKids n)], []) := by
  rw [callA_eq rfl Try.func91 rfl rfl]
  rcases partCases n with rfl | rfl | rfl | rfl | rfl | rfl | rfl | rfl | ⟨h1, h2, h3, h4, h5, h6, h7, h8⟩
  all_goals first
    | (simp [nExprs, nKids]; done)
    | (have e1 : nExprs n = 0 := by unfold nExprs; rw [if_neg (by omega)]
       have e2 : nKids n = -1 := by unfold nKids; rw [if_neg (by omega), if_neg (by omega), if_neg (by omega)]
       simp [e1, e2, h1, h2, h3, h4, h5, h6, h7, h8])
/-- The column ahead. -/
def pv (cs : List Int) (i : Nat) : Int := ((-1) :: cs)[i]?.getD 0
theorem pv_succ {cs : List Int} {i : Nat} {c : Int} (h : cs[i]? = some c) : pv cs (i + 1) = c := by simp [pv, h]
theorem cols_nth {cs : List Int} {i : Nat} {x : Int × Int} (h : (cs.zip (-1 :: cs))[i]? = some x) : cs[i]? = some x.1 ∧ pv cs i = x.2 := by
  rw [List.getElem?_zip_eq_some] at h
  exact ⟨h.1, by simp [pv, h.2]⟩
theorem cols_len (cs : List Int) : (cs.zip (-1 :: cs)).length = cs.length := by simp
def GX (cs : List Int) (w : Int) (i : Nat) : AS :=
  { env := [(0, .i (.isl (intsL cs))), (1, .int w), (4, .bool false), (5, .int (pv cs i)), (7, jk i (.int (pv cs i))), (10, .bool false), (11, .i (.isl (intsL cs))), (12, .int cs.length), (13, .int i), (14, jk i (.bool true)), (24, jk i (.bool false))], st := [] }
theorem validGroupColumns_eq (cs : List Int) (w : Int) : callA C0 100 [.i (.isl (intsL cs)), .int w] [] = some (.bool (decide (cs.length < 6) && colsOk w cs), []) := by
  rw [callA_eq rfl Try.func100 rfl rfl]
  by_cases h6 : cs.length < 6
  case neg => simp [h6, show (6 : Int) ≤ cs.length by omega]
  simp [h6, show ¬ (6 : Int) ≤ cs.length by omega]
  obtain ⟨j, h1, h2⟩ := upto_bad (fun x : Int × Int => decide (x.2 < x.1 ∧ x.1 < w)) (cs.zip (-1 :: cs))
  rw [loop_to (GX cs w) j (by simp [GX, pv])]
  · rw [execA_loop]
    rcases h2 with ⟨hj, ha⟩ | ⟨x, h3, _, h4, ha⟩
    · rw [cols_len] at hj
      have ha : colsOk w cs = true := ha
      simp [GX, hj, ha]
    · obtain ⟨c1, c2⟩ := cols_nth h3
      have r1 := (List.getElem?_eq_some_iff.1 c1).1
      have r2 := intsL_nth c1
      have hb : ¬ (x.2 < x.1 ∧ x.1 < w) := by simpa using h4
      have ha : colsOk w cs = false := ha
      by_cases hx : x.1 ≤ x.2
      · simp [GX, r1, r2, c2, hx, ha]
      · simp [GX, r1, r2, c2, hx, ha, show w ≤ x.1 by omega]
  · intro i hi
    obtain ⟨x, h3, _, h4⟩ := h1 i hi
    obtain ⟨c1, c2⟩ := cols_nth h3
    have r1 := (List.getElem?_eq_some_iff.1 c1).1
    have r2 := intsL_nth c1
    have c3 := pv_succ c1
    have hb : x.2 < x.1 ∧ x.1 < w := by simpa using h4
    have w2 : IntKind.i64.wrap ((i : Int) + 1) = i + 1 := wrap64 (by omega) (by omega)
    simp [GX, r1, r2, c2, c3, w2, show ¬ x.1 ≤ x.2 by omega, show ¬ w ≤ x.1 by omega]
def WX (p : Pn) (a b y : Int) (x14 : Bool) (n21 n22 : Nat) (x22 : Bool) (n26 n27 : Nat) (x27 : Bool) (i : Nat) : AS :=
  { env := [(0, .i (.iref [.int p.kind, .int p.table, .isl (Ex.cellsL p.exprs), .isl (intsL p.cols), .isl (Pn.cellsL p.kids)])), (1, .int a), (2, .int b), (6, .int 0), (7, .int y), (8, jk i (.int (i - 1))), (13, .int p.kind), (14, .bool x14), (21, jk n21 (.bool false)), (22, jk n22 (.bool x22)), (26, jk n26 (.bool false)), (27, jk n27 (.bool x27)), (35, .junk), (46, .int p.exprs.length), (47, .int i), (48, jk i (.bool true)), (59, jk i (.bool false)), (65, .junk)], st := [] }
theorem widthOver_eq (p : Pn) (a b : Int) (ha : 0 ≤ a ∧ a ≤ 6) (hb : 0 ≤ b ∧ b ≤ 6) (hd : p.headOk = true) : callA C0 92 [.i (.iref p.cells), .int a, .int b] [] = some (.int (wdOver p.kind p.exprs p.cols a b), []) := by
  rw [callA_eq rfl Try.func92 rfl rfl]
  have he := Pn.headOk_exprs hd
  rw [Pn.cells_eq]
  have hg := validGroupColumns_eq p.cols a
  have w1 : IntKind.i64.wrap (a + b) = a + b := wrap64 (by omega) (by omega)
  by_cases h6 : p.kind = 6
  · have h8 : p.kind ≠ 8 := by omega
    have h4 : p.kind ≠ 5 := by omega
    have hz : p.exprs = [] := by
      simp only [Pn.headOk, Bool.and_eq_true, decide_eq_true_eq, h6] at hd
      have := hd.2.1
      simp [nExprs] at this
      exact this
    by_cases hab : a = b
    · subst hab
      simp [h6]
      rw [execA_loop]
      simp [hz, h6, wdOver]
    · simp [h6, hab, wdOver]
  by_cases h8 : p.kind = 8
  · by_cases h9 : p.cols.length < 6
    · have w3 : IntKind.i64.wrap ((p.cols.length : Int) + 1) = p.cols.length + 1 := wrap64 (by omega) (by omega)
      cases hc : colsOk a p.cols <;> simp [h8, hg, h9, hc, wdOver, w3]
    · simp [h8, hg, h9, wdOver]
  by_cases h45 : p.kind = 4 ∨ p.kind = 5
  · by_cases hs : a + b ≤ 6
    case neg => rcases h45 with h4 | h4 <;> simp [h4, w1, show 6 < a + b by omega, wdOver, hs]
    have h4 : True := trivial
    rcases h45 with h45 | h45
    · simp [h45, w1, show ¬ 6 < a + b by omega]
      obtain ⟨j, h1, h2⟩ := upto_bad (Ex.ok (a + b)) p.exprs
      rw [loop_to (WX p a b (a + b) true 1 0 false 0 0 false) j (by simp [WX, h45])]
      · rw [execA_loop]
        rcases h2 with ⟨hj, hall⟩ | ⟨x, h3, _, h5, hall⟩
        · simp [WX, hj, hall, wdOver, h45, hs]
        · have r1 := (List.getElem?_eq_some_iff.1 h3).1
          have r2 := Ex.cellsL_nth h3
          have r3 := ok_eq (a + b) x
          rw [h5] at r3
          rw [Ex.cells_eq] at r2 r3
          simp [WX, r1, r2, r3, hall, wdOver, h45, hs]
      · intro i hi
        obtain ⟨x, h3, _, h5⟩ := h1 i hi
        have r1 := (List.getElem?_eq_some_iff.1 h3).1
        have r2 := Ex.cellsL_nth h3
        have r3 := ok_eq (a + b) x
        rw [h5] at r3
        rw [Ex.cells_eq] at r2 r3
        have w2 : IntKind.i64.wrap ((i : Int) + 1) = i + 1 := wrap64 (by omega) (by omega)
        simp [WX, r1, r2, r3, w2, h45]
    · simp [h45, w1, show ¬ 6 < a + b by omega]
      obtain ⟨j, h1, h2⟩ := upto_bad (Ex.ok (a + b)) p.exprs
      rw [loop_to (WX p a b (a + b) true 1 0 false 0 0 false) j (by simp [WX, h45])]
      · rw [execA_loop]
        rcases h2 with ⟨hj, hall⟩ | ⟨x, h3, _, h5, hall⟩
        · simp [WX, hj, hall, wdOver, h45, hs]
        · have r1 := (List.getElem?_eq_some_iff.1 h3).1
          have r2 := Ex.cellsL_nth h3
          have r3 := ok_eq (a + b) x
          rw [h5] at r3
          rw [Ex.cells_eq] at r2 r3
          simp [WX, r1, r2, r3, hall, wdOver, h45, hs]
      · intro i hi
        obtain ⟨x, h3, _, h5⟩ := h1 i hi
        have r1 := (List.getElem?_eq_some_iff.1 h3).1
        have r2 := Ex.cellsL_nth h3
        have r3 := ok_eq (a + b) x
        rw [h5] at r3
        rw [Ex.cells_eq] at r2 r3
        have w2 : IntKind.i64.wrap ((i : Int) + 1) = i + 1 := wrap64 (by omega) (by omega)
        simp [WX, r1, r2, r3, w2, h45]
  have h4 : p.kind ≠ 4 := by omega
  have h5' : p.kind ≠ 5 := by omega
  simp [h6, h8, h4, h5']
  obtain ⟨j, h1, h2⟩ := upto_bad (Ex.ok (a)) p.exprs
  rw [loop_to (WX p a b a false 0 1 false 0 1 false) j (by simp [WX, h6, h8, h5'])]
  · rw [execA_loop]
    rcases h2 with ⟨hj, hall⟩ | ⟨x, h3, _, h5, hall⟩
    · by_cases h3' : p.kind = 3
      · simp [WX, hj, hall, wdOver, h3']
      · simp [WX, hj, hall, wdOver, h6, h8, h4, h5', h3']
    · have r1 := (List.getElem?_eq_some_iff.1 h3).1
      have r2 := Ex.cellsL_nth h3
      have r3 := ok_eq (a) x
      rw [h5] at r3
      rw [Ex.cells_eq] at r2 r3
      by_cases h3' : p.kind = 3
      · simp [WX, r1, r2, r3, hall, wdOver, h3']
      · simp [WX, r1, r2, r3, hall, wdOver, h6, h8, h4, h5', h3']
  · intro i hi
    obtain ⟨x, h3, _, h5⟩ := h1 i hi
    have r1 := (List.getElem?_eq_some_iff.1 h3).1
    have r2 := Ex.cellsL_nth h3
    have r3 := ok_eq (a) x
    rw [h5] at r3
    rw [Ex.cells_eq] at r2 r3
    have w2 : IntKind.i64.wrap ((i : Int) + 1) = i + 1 := wrap64 (by omega) (by omega)
    simp [WX, r1, r2, r3, w2]
end Go.Proofs.Yteihcffblfdgfaa.P

/- The width of a plan, as the program has it. No condition. -/
namespace Go.Proofs.Yteihcffblfdgfaa.P
open Go Go.Av
set_option maxRecDepth 4000
set_option maxHeartbeats 2000000
@[simp] theorem nKids_1 : nKids 1 = 0 := by decide
@[simp] theorem nExprs_1 : nExprs 1 = 0 := by decide
@[simp] theorem nKids_2 : nKids 2 = 1 := by decide
@[simp] theorem nExprs_2 : nExprs 2 = 1 := by decide
@[simp] theorem nKids_3 : nKids 3 = 1 := by decide
@[simp] theorem nExprs_3 : nExprs 3 = 1 := by decide
@[simp] theorem nKids_4 : nKids 4 = 2 := by decide
@[simp] theorem nExprs_4 : nExprs 4 = 1 := by decide
@[simp] theorem nKids_5 : nKids 5 = 2 := by decide
@[simp] theorem nExprs_5 : nExprs 5 = 1 := by decide
@[simp] theorem nKids_6 : nKids 6 = 2 := by decide
@[simp] theorem nExprs_6 : nExprs 6 = 0 := by decide
@[simp] theorem nKids_7 : nKids 7 = 1 := by decide
@[simp] theorem nExprs_7 : nExprs 7 = 0 := by decide
@[simp] theorem nKids_8 : nKids 8 = 1 := by decide
@[simp] theorem nExprs_8 : nExprs 8 = 0 := by decide
theorem nKids_no {k : Int} (h : k ≠ 1 ∧ k ≠ 2 ∧ k ≠ 3 ∧ k ≠ 4 ∧ k ≠ 5 ∧ k ≠ 6 ∧ k ≠ 7 ∧ k ≠ 8) : nKids k = -1 := by
  unfold nKids; rw [if_neg (by omega), if_neg (by omega), if_neg (by omega)]
theorem below_other {ws : List Int} {t : Int} {es : List Ex} {cs : List Int} {ks : List Pn} {lv : Nat} {k : Int} (h : k ≠ 1 ∧ k ≠ 2 ∧ k ≠ 3 ∧ k ≠ 4 ∧ k ≠ 5 ∧ k ≠ 6 ∧ k ≠ 7 ∧ k ≠ 8) : callA C0 67 [.i (.iref [.int k, .int t, .isl (Ex.cellsL es), .isl (intsL cs), .isl (Pn.cellsL ks)]), .i (.isl (intsL ws)), .int lv] [] = some (.int 0, []) := by
  rw [callA_eq rfl Try.func67 rfl rfl]
  have c1 : ¬ (ks.length : Int) = -1 := by omega
  have hn := nKids_no h
  simp [h.2.2.1, hn, c1]
theorem below_no1 {ws : List Int} {t : Int} {es : List Ex} {cs : List Int} {ks : List Pn} {lv : Nat} (h : ¬ ((ks.length : Int) = 0 ∧ (es.length : Int) = 0 ∧ True ∧ cs = [])) : callA C0 67 [.i (.iref [.int 1, .int t, .isl (Ex.cellsL es), .isl (intsL cs), .isl (Pn.cellsL ks)]), .i (.isl (intsL ws)), .int lv] [] = some (.int 0, []) := by
  rw [callA_eq rfl Try.func67 rfl rfl]
  by_cases c1 : (ks.length : Int) = 0
  case neg => simp at c1; simp [c1]
  by_cases c2 : (es.length : Int) = 0
  case neg => simp at c2; simp [c1, c2]
  by_cases c5 : cs = []
  case neg => simp [c1, c2, c5]
  exact absurd (by simp [c1, c2, c5]) h
theorem below_no2 {ws : List Int} {t : Int} {es : List Ex} {cs : List Int} {ks : List Pn} {lv : Nat} (h : ¬ ((ks.length : Int) = 1 ∧ (es.length : Int) = 1 ∧ lv ≠ 0 ∧ t = 0 ∧ cs = [])) : callA C0 67 [.i (.iref [.int 2, .int t, .isl (Ex.cellsL es), .isl (intsL cs), .isl (Pn.cellsL ks)]), .i (.isl (intsL ws)), .int lv] [] = some (.int 0, []) := by
  rw [callA_eq rfl Try.func67 rfl rfl]
  by_cases c1 : (ks.length : Int) = 1
  case neg => simp [c1]
  by_cases c2 : (es.length : Int) = 1
  case neg => simp [c1, c2]
  by_cases c3 : lv = 0
  case pos => subst c3; simp [c1, c2]
  have c3' : ¬ (lv : Int) = 0 := by omega
  by_cases c4 : t = 0
  case neg => simp [c1, c2, c3, c3', c4]
  by_cases c5 : cs = []
  case neg => simp [c1, c2, c3, c3', c4, c5]
  exact absurd (by simp [c1, c2, c3, c3', c4, c5]) h
theorem below_no3 {ws : List Int} {t : Int} {es : List Ex} {cs : List Int} {ks : List Pn} {lv : Nat} (h : ¬ ((ks.length : Int) = 1 ∧ (es.length : Int) = (if okWidth es.length = true then (es.length : Int) else 1) ∧ lv ≠ 0 ∧ t = 0 ∧ cs = [])) : callA C0 67 [.i (.iref [.int 3, .int t, .isl (Ex.cellsL es), .isl (intsL cs), .isl (Pn.cellsL ks)]), .i (.isl (intsL ws)), .int lv] [] = some (.int 0, []) := by
  rw [callA_eq rfl Try.func67 rfl rfl]
  cases hv : okWidth es.length
  · have hq : (es.length : Int) ≠ 1 := fun hq => by rw [hq] at hv; simp [okWidth] at hv
    by_cases c1 : (ks.length : Int) = 1
    case neg => simp [hv, c1]
    simp [hv, c1, hq]
  by_cases c1 : (ks.length : Int) = 1
  case neg => simp [hv, c1]
  by_cases c3 : lv = 0
  case pos => subst c3; simp [hv, c1]
  have c3' : ¬ (lv : Int) = 0 := by omega
  by_cases c4 : t = 0
  case neg => simp [hv, c1, c3, c3', c4]
  by_cases c5 : cs = []
  case neg => simp [hv, c1, c3, c3', c4, c5]
  exact absurd (by simp [hv, c1, c3, c4, c5]) h
theorem below_no4 {ws : List Int} {t : Int} {es : List Ex} {cs : List Int} {ks : List Pn} {lv : Nat} (h : ¬ ((ks.length : Int) = 2 ∧ (es.length : Int) = 1 ∧ lv ≠ 0 ∧ t = 0 ∧ cs = [])) : callA C0 67 [.i (.iref [.int 4, .int t, .isl (Ex.cellsL es), .isl (intsL cs), .isl (Pn.cellsL ks)]), .i (.isl (intsL ws)), .int lv] [] = some (.int 0, []) := by
  rw [callA_eq rfl Try.func67 rfl rfl]
  by_cases c1 : (ks.length : Int) = 2
  case neg => simp [c1]
  by_cases c2 : (es.length : Int) = 1
  case neg => simp [c1, c2]
  by_cases c3 : lv = 0
  case pos => subst c3; simp [c1, c2]
  have c3' : ¬ (lv : Int) = 0 := by omega
  by_cases c4 : t = 0
  case neg => simp [c1, c2, c3, c3', c4]
  by_cases c5 : cs = []
  case neg => simp [c1, c2, c3, c3', c4, c5]
  exact absurd (by simp [c1, c2, c3, c3', c4, c5]) h
theorem below_no5 {ws : List Int} {t : Int} {es : List Ex} {cs : List Int} {ks : List Pn} {lv : Nat} (h : ¬ ((ks.length : Int) = 2 ∧ (es.length : Int) = 1 ∧ lv ≠ 0 ∧ t = 0 ∧ cs = [])) : callA C0 67 [.i (.iref [.int 5, .int t, .isl (Ex.cellsL es), .isl (intsL cs), .isl (Pn.cellsL ks)]), .i (.isl (intsL ws)), .int lv] [] = some (.int 0, []) := by
  rw [callA_eq rfl Try.func67 rfl rfl]
  by_cases c1 : (ks.length : Int) = 2
  case neg => simp [c1]
  by_cases c2 : (es.length : Int) = 1
  case neg => simp [c1, c2]
  by_cases c3 : lv = 0
  case pos => subst c3; simp [c1, c2]
  have c3' : ¬ (lv : Int) = 0 := by omega
  by_cases c4 : t = 0
  case neg => simp [c1, c2, c3, c3', c4]
  by_cases c5 : cs = []
  case neg => simp [c1, c2, c3, c3', c4, c5]
  exact absurd (by simp [c1, c2, c3, c3', c4, c5]) h
theorem below_no6 {ws : List Int} {t : Int} {es : List Ex} {cs : List Int} {ks : List Pn} {lv : Nat} (h : ¬ ((ks.length : Int) = 2 ∧ (es.length : Int) = 0 ∧ lv ≠ 0 ∧ t = 0 ∧ cs = [])) : callA C0 67 [.i (.iref [.int 6, .int t, .isl (Ex.cellsL es), .isl (intsL cs), .isl (Pn.cellsL ks)]), .i (.isl (intsL ws)), .int lv] [] = some (.int 0, []) := by
  rw [callA_eq rfl Try.func67 rfl rfl]
  by_cases c1 : (ks.length : Int) = 2
  case neg => simp [c1]
  by_cases c2 : (es.length : Int) = 0
  case neg => simp at c2; simp [c1, c2]
  by_cases c3 : lv = 0
  case pos => subst c3; simp [c1, c2]
  have c3' : ¬ (lv : Int) = 0 := by omega
  by_cases c4 : t = 0
  case neg => simp [c1, c2, c3, c3', c4]
  by_cases c5 : cs = []
  case neg => simp [c1, c2, c3, c3', c4, c5]
  exact absurd (by simp [c1, c2, c3, c3', c4, c5]) h
theorem below_no7 {ws : List Int} {t : Int} {es : List Ex} {cs : List Int} {ks : List Pn} {lv : Nat} (h : ¬ ((ks.length : Int) = 1 ∧ (es.length : Int) = 0 ∧ lv ≠ 0 ∧ t = 0 ∧ cs = [])) : callA C0 67 [.i (.iref [.int 7, .int t, .isl (Ex.cellsL es), .isl (intsL cs), .isl (Pn.cellsL ks)]), .i (.isl (intsL ws)), .int lv] [] = some (.int 0, []) := by
  rw [callA_eq rfl Try.func67 rfl rfl]
  by_cases c1 : (ks.length : Int) = 1
  case neg => simp [c1]
  by_cases c2 : (es.length : Int) = 0
  case neg => simp at c2; simp [c1, c2]
  by_cases c3 : lv = 0
  case pos => subst c3; simp [c1, c2]
  have c3' : ¬ (lv : Int) = 0 := by omega
  by_cases c4 : t = 0
  case neg => simp [c1, c2, c3, c3', c4]
  by_cases c5 : cs = []
  case neg => simp [c1, c2, c3, c3', c4, c5]
  exact absurd (by simp [c1, c2, c3, c3', c4, c5]) h
theorem below_no8 {ws : List Int} {t : Int} {es : List Ex} {cs : List Int} {ks : List Pn} {lv : Nat} (h : ¬ ((ks.length : Int) = 1 ∧ (es.length : Int) = 0 ∧ lv ≠ 0 ∧ t = 0)) : callA C0 67 [.i (.iref [.int 8, .int t, .isl (Ex.cellsL es), .isl (intsL cs), .isl (Pn.cellsL ks)]), .i (.isl (intsL ws)), .int lv] [] = some (.int 0, []) := by
  rw [callA_eq rfl Try.func67 rfl rfl]
  by_cases c1 : (ks.length : Int) = 1
  case neg => simp [c1]
  by_cases c2 : (es.length : Int) = 0
  case neg => simp at c2; simp [c1, c2]
  by_cases c3 : lv = 0
  case pos => subst c3; simp [c1, c2]
  have c3' : ¬ (lv : Int) = 0 := by omega
  by_cases c4 : t = 0
  case neg => simp [c1, c2, c3, c3', c4]
  exact absurd (by simp [c1, c2, c3, c3', c4]) h
end Go.Proofs.Yteihcffblfdgfaa.P

/- The width of a plan, as the program has it. No condition. -/
namespace Go.Proofs.Yteihcffblfdgfaa.P
open Go Go.Av
set_option maxRecDepth 4000
set_option maxHeartbeats 2000000
theorem below_yes1 {ws : List Int} {t : Int} {lv : Nat} : callA C0 67 [.i (.iref [.int 1, .int t, .isl (Ex.cellsL []), .isl (intsL []), .isl (Pn.cellsL [])]), .i (.isl (intsL ws)), .int lv] [] = some (.int (if 0 ≤ t then (ws[t.toNat]?).getD 0 else 0), []) := by
  rw [callA_eq rfl Try.func67 rfl rfl]
  by_cases h0 : 0 ≤ t
  case neg => simp [Ex.cellsL, Pn.cellsL, intsL, h0, show t < 0 by omega]
  cases hx : ws[t.toNat]? with
  | none =>
    have := List.getElem?_eq_none_iff.1 hx
    simp [Ex.cellsL, Pn.cellsL, intsL, h0, show ¬ t < 0 by omega, show (ws.length : Int) ≤ t by omega]
  | some x =>
    have r1 := (List.getElem?_eq_some_iff.1 hx).1
    have r2 := intsL_nth hx
    simp [Ex.cellsL, Pn.cellsL, intsL, h0, show ¬ t < 0 by omega, show ¬ (ws.length : Int) ≤ t by omega, r2, show t < ws.length by omega]
theorem below_yes2 {ws : List Int} {es : List Ex} {a : Pn} {lv : Nat} {va : Int} (hl : lv ≠ 0) (hl8 : lv ≤ 8) (hd : Pn.headOk (Pn.mk 2 0 es [] [a]) = true) (ha : callA C0 67 [.i (.iref a.cells), .i (.isl (intsL ws)), .int (lv - 1 : Nat)] [] = some (.int va, [])) (ra : 0 ≤ va ∧ va ≤ 6) : callA C0 67 [.i (.iref [.int 2, .int 0, .isl (Ex.cellsL es), .isl (intsL []), .isl (Pn.cellsL [a])]), .i (.isl (intsL ws)), .int lv] [] = some (.int (if va = 0 then 0 else wdOver 2 es [] va 0), []) := by
  rw [callA_eq rfl Try.func67 rfl rfl]
  have c3' : ¬ (lv : Int) = 0 := by omega
  have w1 : IntKind.i64.wrap ((lv : Int) - 1) = (lv - 1 : Nat) := by rw [wrap64 (by omega) (by omega)]; omega
  have r0 : nthE [a.cells] 0 = some a.cells := rfl
  have hov := widthOver_eq (Pn.mk 2 0 es [] [a]) va 0 ra (by omega) hd
  rw [Pn.cells_mk] at hov
  simp only [Pn.kind_mk, Pn.exprs_mk, Pn.cols_mk, Pn.cellsL, intsL, Ex.cellsL] at hov
  rw [Pn.cells_eq a] at ha hov r0
  have c2 : (es.length : Int) = 1 := by
    simp only [Pn.headOk, Bool.and_eq_true, decide_eq_true_eq, Pn.exprs_mk, Pn.kind_mk] at hd
    simpa using hd.2.1
  simp [c2, hl, c3', Pn.cellsL, intsL, Ex.cellsL]
  rw [Pn.cells_eq a]
  rw [execA_loop]
  by_cases z1 : va = 0
  case pos => simp [w1, ha, r0, z1]
  simp [w1, ha, r0, z1, wrap_1]
  rw [execA_loop]
  simp [hov, z1]
theorem below_yes3 {ws : List Int} {es : List Ex} {a : Pn} {lv : Nat} {va : Int} (hl : lv ≠ 0) (hl8 : lv ≤ 8) (hd : Pn.headOk (Pn.mk 3 0 es [] [a]) = true) (ha : callA C0 67 [.i (.iref a.cells), .i (.isl (intsL ws)), .int (lv - 1 : Nat)] [] = some (.int va, [])) (ra : 0 ≤ va ∧ va ≤ 6) : callA C0 67 [.i (.iref [.int 3, .int 0, .isl (Ex.cellsL es), .isl (intsL []), .isl (Pn.cellsL [a])]), .i (.isl (intsL ws)), .int lv] [] = some (.int (if va = 0 then 0 else wdOver 3 es [] va 0), []) := by
  rw [callA_eq rfl Try.func67 rfl rfl]
  have c3' : ¬ (lv : Int) = 0 := by omega
  have w1 : IntKind.i64.wrap ((lv : Int) - 1) = (lv - 1 : Nat) := by rw [wrap64 (by omega) (by omega)]; omega
  have r0 : nthE [a.cells] 0 = some a.cells := rfl
  have hov := widthOver_eq (Pn.mk 3 0 es [] [a]) va 0 ra (by omega) hd
  rw [Pn.cells_mk] at hov
  simp only [Pn.kind_mk, Pn.exprs_mk, Pn.cols_mk, Pn.cellsL, intsL, Ex.cellsL] at hov
  rw [Pn.cells_eq a] at ha hov r0
  have hv : okWidth es.length = true ∨ (es.length : Int) = 1 := by
    simp only [Pn.headOk, Bool.and_eq_true, decide_eq_true_eq, Pn.exprs_mk, Pn.kind_mk] at hd
    have := hd.2.1
    split at this
    · rename_i h; exact .inl h.2
    · exact .inr (by simpa using this)
  have hv : okWidth es.length = true := by
    rcases hv with h | h
    · exact h
    · rw [h]; decide
  simp [hv, hl, c3', Pn.cellsL, intsL, Ex.cellsL]
  rw [Pn.cells_eq a]
  rw [execA_loop]
  by_cases z1 : va = 0
  case pos => simp [w1, ha, r0, z1]
  simp [w1, ha, r0, z1, wrap_1]
  rw [execA_loop]
  simp [hov, z1]
theorem below_yes4 {ws : List Int} {es : List Ex} {a b : Pn} {lv : Nat} {va vb : Int} (hl : lv ≠ 0) (hl8 : lv ≤ 8) (hd : Pn.headOk (Pn.mk 4 0 es [] [a, b]) = true) (ha : callA C0 67 [.i (.iref a.cells), .i (.isl (intsL ws)), .int (lv - 1 : Nat)] [] = some (.int va, [])) (ra : 0 ≤ va ∧ va ≤ 6) (hb : callA C0 67 [.i (.iref b.cells), .i (.isl (intsL ws)), .int (lv - 1 : Nat)] [] = some (.int vb, [])) (rb : 0 ≤ vb ∧ vb ≤ 6) : callA C0 67 [.i (.iref [.int 4, .int 0, .isl (Ex.cellsL es), .isl (intsL []), .isl (Pn.cellsL [a, b])]), .i (.isl (intsL ws)), .int lv] [] = some (.int (if va = 0 ∨ vb = 0 then 0 else wdOver 4 es [] va vb), []) := by
  rw [callA_eq rfl Try.func67 rfl rfl]
  have c3' : ¬ (lv : Int) = 0 := by omega
  have w1 : IntKind.i64.wrap ((lv : Int) - 1) = (lv - 1 : Nat) := by rw [wrap64 (by omega) (by omega)]; omega
  have r0 : nthE [a.cells, b.cells] 0 = some a.cells := rfl
  have r1 : nthE [a.cells, b.cells] 1 = some b.cells := rfl
  have hov := widthOver_eq (Pn.mk 4 0 es [] [a, b]) va vb ra rb hd
  rw [Pn.cells_mk] at hov
  simp only [Pn.kind_mk, Pn.exprs_mk, Pn.cols_mk, Pn.cellsL, intsL, Ex.cellsL] at hov
  rw [Pn.cells_eq a] at ha hov r0 r1
  rw [Pn.cells_eq b] at hb hov r0 r1
  have c2 : (es.length : Int) = 1 := by
    simp only [Pn.headOk, Bool.and_eq_true, decide_eq_true_eq, Pn.exprs_mk, Pn.kind_mk] at hd
    simpa using hd.2.1
  simp [c2, hl, c3', Pn.cellsL, intsL, Ex.cellsL]
  rw [Pn.cells_eq a, Pn.cells_eq b]
  rw [execA_loop]
  by_cases z1 : va = 0
  case pos => simp [w1, ha, r0, z1]
  simp [w1, ha, r0, z1, wrap_1]
  rw [execA_loop]
  by_cases z2 : vb = 0
  case pos => simp [w1, hb, r1, z2]
  simp [w1, hb, r1, z1, z2, wrap64 (x := 2) (by omega) (by omega)]
  rw [execA_loop]
  simp [hov, z1, z2]
theorem below_yes5 {ws : List Int} {es : List Ex} {a b : Pn} {lv : Nat} {va vb : Int} (hl : lv ≠ 0) (hl8 : lv ≤ 8) (hd : Pn.headOk (Pn.mk 5 0 es [] [a, b]) = true) (ha : callA C0 67 [.i (.iref a.cells), .i (.isl (intsL ws)), .int (lv - 1 : Nat)] [] = some (.int va, [])) (ra : 0 ≤ va ∧ va ≤ 6) (hb : callA C0 67 [.i (.iref b.cells), .i (.isl (intsL ws)), .int (lv - 1 : Nat)] [] = some (.int vb, [])) (rb : 0 ≤ vb ∧ vb ≤ 6) : callA C0 67 [.i (.iref [.int 5, .int 0, .isl (Ex.cellsL es), .isl (intsL []), .isl (Pn.cellsL [a, b])]), .i (.isl (intsL ws)), .int lv] [] = some (.int (if va = 0 ∨ vb = 0 then 0 else wdOver 5 es [] va vb), []) := by
  rw [callA_eq rfl Try.func67 rfl rfl]
  have c3' : ¬ (lv : Int) = 0 := by omega
  have w1 : IntKind.i64.wrap ((lv : Int) - 1) = (lv - 1 : Nat) := by rw [wrap64 (by omega) (by omega)]; omega
  have r0 : nthE [a.cells, b.cells] 0 = some a.cells := rfl
  have r1 : nthE [a.cells, b.cells] 1 = some b.cells := rfl
  have hov := widthOver_eq (Pn.mk 5 0 es [] [a, b]) va vb ra rb hd
  rw [Pn.cells_mk] at hov
  simp only [Pn.kind_mk, Pn.exprs_mk, Pn.cols_mk, Pn.cellsL, intsL, Ex.cellsL] at hov
  rw [Pn.cells_eq a] at ha hov r0 r1
  rw [Pn.cells_eq b] at hb hov r0 r1
  have c2 : (es.length : Int) = 1 := by
    simp only [Pn.headOk, Bool.and_eq_true, decide_eq_true_eq, Pn.exprs_mk, Pn.kind_mk] at hd
    simpa using hd.2.1
  simp [c2, hl, c3', Pn.cellsL, intsL, Ex.cellsL]
  rw [Pn.cells_eq a, Pn.cells_eq b]
  rw [execA_loop]
  by_cases z1 : va = 0
  case pos => simp [w1, ha, r0, z1]
  simp [w1, ha, r0, z1, wrap_1]
  rw [execA_loop]
  by_cases z2 : vb = 0
  case pos => simp [w1, hb, r1, z2]
  simp [w1, hb, r1, z1, z2, wrap64 (x := 2) (by omega) (by omega)]
  rw [execA_loop]
  simp [hov, z1, z2]
theorem below_yes6 {ws : List Int} {a b : Pn} {lv : Nat} {va vb : Int} (hl : lv ≠ 0) (hl8 : lv ≤ 8) (hd : Pn.headOk (Pn.mk 6 0 [] [] [a, b]) = true) (ha : callA C0 67 [.i (.iref a.cells), .i (.isl (intsL ws)), .int (lv - 1 : Nat)] [] = some (.int va, [])) (ra : 0 ≤ va ∧ va ≤ 6) (hb : callA C0 67 [.i (.iref b.cells), .i (.isl (intsL ws)), .int (lv - 1 : Nat)] [] = some (.int vb, [])) (rb : 0 ≤ vb ∧ vb ≤ 6) : callA C0 67 [.i (.iref [.int 6, .int 0, .isl (Ex.cellsL []), .isl (intsL []), .isl (Pn.cellsL [a, b])]), .i (.isl (intsL ws)), .int lv] [] = some (.int (if va = 0 ∨ vb = 0 then 0 else wdOver 6 [] [] va vb), []) := by
  rw [callA_eq rfl Try.func67 rfl rfl]
  have c3' : ¬ (lv : Int) = 0 := by omega
  have w1 : IntKind.i64.wrap ((lv : Int) - 1) = (lv - 1 : Nat) := by rw [wrap64 (by omega) (by omega)]; omega
  have r0 : nthE [a.cells, b.cells] 0 = some a.cells := rfl
  have r1 : nthE [a.cells, b.cells] 1 = some b.cells := rfl
  have hov := widthOver_eq (Pn.mk 6 0 [] [] [a, b]) va vb ra rb hd
  rw [Pn.cells_mk] at hov
  simp only [Pn.kind_mk, Pn.exprs_mk, Pn.cols_mk, Pn.cellsL, intsL, Ex.cellsL] at hov
  rw [Pn.cells_eq a] at ha hov r0 r1
  rw [Pn.cells_eq b] at hb hov r0 r1
  simp [hl, c3', Pn.cellsL, intsL, Ex.cellsL]
  rw [Pn.cells_eq a, Pn.cells_eq b]
  rw [execA_loop]
  by_cases z1 : va = 0
  case pos => simp [w1, ha, r0, z1]
  simp [w1, ha, r0, z1, wrap_1]
  rw [execA_loop]
  by_cases z2 : vb = 0
  case pos => simp [w1, hb, r1, z2]
  simp [w1, hb, r1, z1, z2, wrap64 (x := 2) (by omega) (by omega)]
  rw [execA_loop]
  simp [hov, z1, z2]
theorem below_yes7 {ws : List Int} {a : Pn} {lv : Nat} {va : Int} (hl : lv ≠ 0) (hl8 : lv ≤ 8) (hd : Pn.headOk (Pn.mk 7 0 [] [] [a]) = true) (ha : callA C0 67 [.i (.iref a.cells), .i (.isl (intsL ws)), .int (lv - 1 : Nat)] [] = some (.int va, [])) (ra : 0 ≤ va ∧ va ≤ 6) : callA C0 67 [.i (.iref [.int 7, .int 0, .isl (Ex.cellsL []), .isl (intsL []), .isl (Pn.cellsL [a])]), .i (.isl (intsL ws)), .int lv] [] = some (.int (if va = 0 then 0 else wdOver 7 [] [] va 0), []) := by
  rw [callA_eq rfl Try.func67 rfl rfl]
  have c3' : ¬ (lv : Int) = 0 := by omega
  have w1 : IntKind.i64.wrap ((lv : Int) - 1) = (lv - 1 : Nat) := by rw [wrap64 (by omega) (by omega)]; omega
  have r0 : nthE [a.cells] 0 = some a.cells := rfl
  have hov := widthOver_eq (Pn.mk 7 0 [] [] [a]) va 0 ra (by omega) hd
  rw [Pn.cells_mk] at hov
  simp only [Pn.kind_mk, Pn.exprs_mk, Pn.cols_mk, Pn.cellsL, intsL, Ex.cellsL] at hov
  rw [Pn.cells_eq a] at ha hov r0
  simp [hl, c3', Pn.cellsL, intsL, Ex.cellsL]
  rw [Pn.cells_eq a]
  rw [execA_loop]
  by_cases z1 : va = 0
  case pos => simp [w1, ha, r0, z1]
  simp [w1, ha, r0, z1, wrap_1]
  rw [execA_loop]
  simp [hov, z1]
theorem below_yes8 {ws : List Int} {cs : List Int} {a : Pn} {lv : Nat} {va : Int} (hl : lv ≠ 0) (hl8 : lv ≤ 8) (hd : Pn.headOk (Pn.mk 8 0 [] cs [a]) = true) (ha : callA C0 67 [.i (.iref a.cells), .i (.isl (intsL ws)), .int (lv - 1 : Nat)] [] = some (.int va, [])) (ra : 0 ≤ va ∧ va ≤ 6) : callA C0 67 [.i (.iref [.int 8, .int 0, .isl (Ex.cellsL []), .isl (intsL cs), .isl (Pn.cellsL [a])]), .i (.isl (intsL ws)), .int lv] [] = some (.int (if va = 0 then 0 else wdOver 8 [] cs va 0), []) := by
  rw [callA_eq rfl Try.func67 rfl rfl]
  have c3' : ¬ (lv : Int) = 0 := by omega
  have w1 : IntKind.i64.wrap ((lv : Int) - 1) = (lv - 1 : Nat) := by rw [wrap64 (by omega) (by omega)]; omega
  have r0 : nthE [a.cells] 0 = some a.cells := rfl
  have hov := widthOver_eq (Pn.mk 8 0 [] cs [a]) va 0 ra (by omega) hd
  rw [Pn.cells_mk] at hov
  simp only [Pn.kind_mk, Pn.exprs_mk, Pn.cols_mk, Pn.cellsL, intsL, Ex.cellsL] at hov
  rw [Pn.cells_eq a] at ha hov r0
  simp [hl, c3', Pn.cellsL, intsL, Ex.cellsL]
  rw [Pn.cells_eq a]
  rw [execA_loop]
  by_cases z1 : va = 0
  case pos => simp [w1, ha, r0, z1]
  simp [w1, ha, r0, z1, wrap_1]
  rw [execA_loop]
  simp [hov, z1]
end Go.Proofs.Yteihcffblfdgfaa.P

/- The width of a plan, as the program has it. No condition. -/
namespace Go.Proofs.Yteihcffblfdgfaa.P
open Go Go.Av
set_option maxRecDepth 4000
set_option maxHeartbeats 2000000
theorem headOk_iff (k t : Int) (es : List Ex) (cs : List Int) (ks : List Pn) : Pn.headOk (.mk k t es cs ks) = true ↔ ((ks.length : Int) = nKids k ∧ (es.length : Int) = (if k = 3 ∧ okWidth es.length = true then (es.length : Int) else nExprs k) ∧ (k = 1 ∨ t = 0) ∧ (k = 8 ∨ cs = [])) := by
  unfold Pn.headOk
  simp only [Bool.and_eq_true, Bool.or_eq_true, decide_eq_true_eq]
  exact Iff.rfl
theorem len_one {α : Type} {l : List α} (h : (l.length : Int) = 1) : ∃ a, l = [a] := List.length_eq_one_iff.1 (by omega)
theorem len_two {α : Type} {l : List α} (h : (l.length : Int) = 2) : ∃ a b, l = [a, b] := by
  match l, h with
  | [a, b], _ => exact ⟨a, b, rfl⟩
  | [], h => simp at h
  | [_], h => simp at h
  | _ :: _ :: _ :: _, h => simp at h; omega
theorem len_zero {α : Type} {l : List α} (h : (l.length : Int) = 0) : l = [] := List.length_eq_zero_iff.1 (by omega)
theorem widthBelow_eq {ws : List Int} (hw : ∀ w ∈ ws, 0 ≤ w ∧ w ≤ 6) : ∀ (p : Pn) (lv : Nat), lv ≤ 8 → callA C0 67 [.i (.iref p.cells), .i (.isl (intsL ws)), .int lv] [] = some (.int (p.wd ws lv), []) := by
  intro p
  induction p using Pn.ind with
  | h k t es cs ks ih =>
    intro lv hlv
    rw [Pn.cells_mk]
    by_cases hh : Pn.headOk (.mk k t es cs ks) = true ∧ (ks = [] ∨ lv ≠ 0)
    case neg =>
      rw [Pn.wd_no hh]
      rw [headOk_iff] at hh
      rcases partCases k with rfl | rfl | rfl | rfl | rfl | rfl | rfl | rfl | h
      · refine below_no1 fun h => hh ?_
        have := len_zero h.1
        simp [h.2.1, h.2.2.2, this]
      · exact below_no2 fun h => hh (by simp [h.1, h.2.1, h.2.2.1, h.2.2.2.1, h.2.2.2.2])
      · exact below_no3 fun h => hh (by refine ⟨⟨by simp [h.1], by simpa using h.2.1, by simp [h.2.2.2.1], by simp [h.2.2.2.2]⟩, .inr h.2.2.1⟩)
      · exact below_no4 fun h => hh (by simp [h.1, h.2.1, h.2.2.1, h.2.2.2.1, h.2.2.2.2])
      · exact below_no5 fun h => hh (by simp [h.1, h.2.1, h.2.2.1, h.2.2.2.1, h.2.2.2.2])
      · exact below_no6 fun h => hh (by simp [h.1, len_zero h.2.1, h.2.2.1, h.2.2.2.1, h.2.2.2.2])
      · exact below_no7 fun h => hh (by simp [h.1, len_zero h.2.1, h.2.2.1, h.2.2.2.1, h.2.2.2.2])
      · exact below_no8 fun h => hh (by simp [h.1, len_zero h.2.1, h.2.2.1, h.2.2.2])
      · exact below_other h
    have hd := hh.1
    have hx := Pn.wd_eq ws lv (.mk k t es cs ks)
    rw [if_pos (by simpa using hh)] at hx
    simp only [Pn.kind_mk, Pn.table_mk, Pn.exprs_mk, Pn.cols_mk, Pn.kids_mk] at hx
    rw [hx]
    rw [headOk_iff] at hh
    obtain ⟨⟨h1, h2, h3, h4⟩, h5⟩ := hh
    have hr := fun a => Pn.wd_range hw a (lv - 1)
    rcases partCases k with rfl | rfl | rfl | rfl | rfl | rfl | rfl | rfl | h
    · obtain rfl := len_zero (by simpa using h1)
      obtain rfl : es = [] := len_zero (by simpa using h2)
      obtain rfl : cs = [] := by simpa using h4
      exact below_yes1
    · obtain ⟨a, rfl⟩ := len_one (by simpa using h1)
      obtain rfl : cs = [] := by simpa using h4
      obtain rfl : t = 0 := by simpa using h3
      have hl : lv ≠ 0 := by simpa using h5
      rw [below_yes2 hl hlv hd (ih a (by simp) (lv - 1) (by omega)) (hr a)]
      by_cases z : a.wd ws (lv - 1) = 0 <;> simp [z]
    · obtain ⟨a, rfl⟩ := len_one (by simpa using h1)
      obtain rfl : cs = [] := by simpa using h4
      obtain rfl : t = 0 := by simpa using h3
      have hl : lv ≠ 0 := by simpa using h5
      rw [below_yes3 hl hlv hd (ih a (by simp) (lv - 1) (by omega)) (hr a)]
      by_cases z : a.wd ws (lv - 1) = 0 <;> simp [z]
    · obtain ⟨a, b, rfl⟩ := len_two (by simpa using h1)
      obtain rfl : cs = [] := by simpa using h4
      obtain rfl : t = 0 := by simpa using h3
      have hl : lv ≠ 0 := by simpa using h5
      rw [below_yes4 hl hlv hd (ih a (by simp) (lv - 1) (by omega)) (hr a) (ih b (by simp) (lv - 1) (by omega)) (hr b)]
      by_cases z : a.wd ws (lv - 1) = 0 <;> by_cases z2 : b.wd ws (lv - 1) = 0 <;> simp [z, z2]
    · obtain ⟨a, b, rfl⟩ := len_two (by simpa using h1)
      obtain rfl : cs = [] := by simpa using h4
      obtain rfl : t = 0 := by simpa using h3
      have hl : lv ≠ 0 := by simpa using h5
      rw [below_yes5 hl hlv hd (ih a (by simp) (lv - 1) (by omega)) (hr a) (ih b (by simp) (lv - 1) (by omega)) (hr b)]
      by_cases z : a.wd ws (lv - 1) = 0 <;> by_cases z2 : b.wd ws (lv - 1) = 0 <;> simp [z, z2]
    · obtain ⟨a, b, rfl⟩ := len_two (by simpa using h1)
      obtain rfl : es = [] := len_zero (by simpa using h2)
      obtain rfl : cs = [] := by simpa using h4
      obtain rfl : t = 0 := by simpa using h3
      have hl : lv ≠ 0 := by simpa using h5
      rw [below_yes6 hl hlv hd (ih a (by simp) (lv - 1) (by omega)) (hr a) (ih b (by simp) (lv - 1) (by omega)) (hr b)]
      by_cases z : a.wd ws (lv - 1) = 0 <;> by_cases z2 : b.wd ws (lv - 1) = 0 <;> simp [z, z2]
    · obtain ⟨a, rfl⟩ := len_one (by simpa using h1)
      obtain rfl : es = [] := len_zero (by simpa using h2)
      obtain rfl : cs = [] := by simpa using h4
      obtain rfl : t = 0 := by simpa using h3
      have hl : lv ≠ 0 := by simpa using h5
      rw [below_yes7 hl hlv hd (ih a (by simp) (lv - 1) (by omega)) (hr a)]
      by_cases z : a.wd ws (lv - 1) = 0 <;> simp [z]
    · obtain ⟨a, rfl⟩ := len_one (by simpa using h1)
      obtain rfl : es = [] := len_zero (by simpa using h2)
      obtain rfl : t = 0 := by simpa using h3
      have hl : lv ≠ 0 := by simpa using h5
      rw [below_yes8 hl hlv hd (ih a (by simp) (lv - 1) (by omega)) (hr a)]
      by_cases z : a.wd ws (lv - 1) = 0 <;> simp [z]
    · exact absurd h1 (by rw [nKids_no h]; omega)
def VX (ws : List Int) (i : Nat) : AS :=
  { env := [(0, .i (.isl (intsL ws))), (2, .bool false), (4, jk i (.int (ws[i - 1]?.getD 0))), (12, .bool false), (13, .i (.isl (intsL ws))), (14, .int ws.length), (15, .int i), (16, jk i (.bool true)), (21, jk i (.bool false))], st := [] }
theorem validWidths_eq (ws : List Int) : callA C0 66 [.i (.isl (intsL ws))] [] = some (.bool (okWs ws), []) := by
  rw [callA_eq rfl Try.func66 rfl rfl]
  by_cases h1 : ws.length = 0
  · have := List.length_eq_zero_iff.1 h1
    subst this
    simp [intsL, okWs]
  by_cases h4 : ws.length ≤ 4
  case neg => simp [okWs, h4, show ¬ (ws.length : Int) < 1 by omega, show 4 < (ws.length : Int) by omega]
  simp [show ¬ (ws.length : Int) < 1 by omega, show ¬ 4 < (ws.length : Int) by omega]
  obtain ⟨j, h1', h2⟩ := upto_bad okWidth ws
  rw [loop_to (VX ws) j (by simp [VX])]
  · rw [execA_loop]
    rcases h2 with ⟨hj, ha⟩ | ⟨x, h3, _, h5, ha⟩
    · simp [VX, hj, okWs, h4, ha, show 1 ≤ ws.length by omega]
    · have r1 := (List.getElem?_eq_some_iff.1 h3).1
      have r2 := intsL_nth h3
      simp [VX, r1, r2, h5, okWs, ha]
  · intro i hi
    obtain ⟨x, h3, _, h5⟩ := h1' i hi
    have r1 := (List.getElem?_eq_some_iff.1 h3).1
    have r2 := intsL_nth h3
    have w2 : IntKind.i64.wrap ((i : Int) + 1) = i + 1 := wrap64 (by omega) (by omega)
    have h3' : ws[i] = x := (List.getElem?_eq_some_iff.1 h3).2
    simp [VX, r1, r2, h5, w2, h3']
theorem okWs_range {ws : List Int} (h : okWs ws = true) : ∀ w ∈ ws, 0 ≤ w ∧ w ≤ 6 := by
  intro w hw
  simp only [okWs, Bool.and_eq_true] at h
  have := List.all_eq_true.1 h.2 w hw
  simp [okWidth] at this
  omega
theorem planWidth_eq (p : Pn) (ws : List Int) : callA C0 26 [.i (.agg p.cells), .i (.isl (intsL ws))] [] = some (.int (p.width ws), []) := by
  rw [callA_eq rfl Try.func26 rfl rfl]
  have hv := validWidths_eq ws
  cases h : okWs ws with
  | false => rw [h] at hv; rw [Pn.cells_eq]; simp [hv, Pn.width, h]
  | true =>
    rw [h] at hv
    have hb := widthBelow_eq (okWs_range h) p 8 (by omega)
    rw [show ((8 : Nat) : Int) = 8 from rfl] at hb
    rw [Pn.cells_eq] at hb ⊢
    simp [hv, Pn.width, h, hb]
end Go.Proofs.Yteihcffblfdgfaa.P

/- The width of a plan, as the reference has it: the small functions. No condition. -/
namespace Go.Proofs.Yteihcffblfdgfaa.P
open Go Go.Av
set_option maxRecDepth 4000
set_option maxHeartbeats 2000000
/-- What the reference asks of the fields. -/
def only (k t : Int) (es : List Ex) (cs : List Int) (ks : List Pn) : Bool := decide (1 ≤ k ∧ k ≤ 8) && (decide ((ks.length : Int) = nKids k) && (decide ((es.length : Int) = if k = 3 then (es.length : Int) else nExprs k) && ((decide (t = 0) || decide (k = 1)) && (decide (cs = []) || decide (k = 8)))))
theorem onlyFields_eq (k t : Int) (es : List Ex) (cs : List Int) (ks : List Pn) : callA C0 84 [.i (.agg [.int k, .int t, .isl (Ex.cellsL es), .isl (intsL cs), .isl (Pn.cellsL ks)])] [] = some (.bool (only k t es cs ks), []) := by
  rw [callA_eq rfl Try.func84 rfl rfl]
  rcases partCases k with rfl | rfl | rfl | rfl | rfl | rfl | rfl | rfl | h
  case inr.inr.inr.inr.inr.inr.inr.inr =>
    have h1 : ¬ (1 ≤ k ∧ k ≤ 8) := by omega
    simp [h.1, h.2.1, h.2.2.1, h.2.2.2.1, h.2.2.2.2.1, h.2.2.2.2.2.1, h1, only]
  case inr.inr.inl =>
    by_cases c1 : (ks.length : Int) = 1
    case neg => simp [c1, only]
    by_cases c3 : t = 0
    case neg => simp [c1, c3, only]
    by_cases c5 : cs = [] <;> simp [c1, c3, c5, only, intsL]
  case inl =>
    by_cases c1 : ks = []
    case neg => simp [c1, only]
    by_cases c2 : es = []
    case neg => simp [c1, c2, only]
    by_cases c3 : t = 0 <;> by_cases c5 : cs = [] <;> simp [c1, c2, c3, c5, only, intsL, Ex.cellsL, Pn.cellsL]
  case inr.inl =>
    by_cases c1 : (ks.length : Int) = 1
    case neg => simp [c1, only]
    by_cases c2 : (es.length : Int) = 1
    case neg => simp [c1, c2, only]
    by_cases c3 : t = 0
    case neg => simp [c1, c2, c3, only]
    by_cases c5 : cs = [] <;> simp [c1, c2, c3, c5, only, intsL]
  case inr.inr.inr.inl =>
    by_cases c1 : (ks.length : Int) = 2
    case neg => simp [c1, only]
    by_cases c2 : (es.length : Int) = 1
    case neg => simp [c1, c2, only]
    by_cases c3 : t = 0
    case neg => simp [c1, c2, c3, only]
    by_cases c5 : cs = [] <;> simp [c1, c2, c3, c5, only, intsL]
  case inr.inr.inr.inr.inl =>
    by_cases c1 : (ks.length : Int) = 2
    case neg => simp [c1, only]
    by_cases c2 : (es.length : Int) = 1
    case neg => simp [c1, c2, only]
    by_cases c3 : t = 0
    case neg => simp [c1, c2, c3, only]
    by_cases c5 : cs = [] <;> simp [c1, c2, c3, c5, only, intsL]
  case inr.inr.inr.inr.inr.inl =>
    by_cases c1 : (ks.length : Int) = 2
    case neg => simp [c1, only]
    by_cases c2 : es = []
    case neg => simp [c1, c2, only]
    by_cases c3 : t = 0
    case neg => simp [c1, c2, c3, only]
    by_cases c5 : cs = [] <;> simp [c1, c2, c3, c5, only, intsL, Ex.cellsL]
  case inr.inr.inr.inr.inr.inr.inl =>
    by_cases c1 : (ks.length : Int) = 1
    case neg => simp [c1, only]
    by_cases c2 : es = []
    case neg => simp [c1, c2, only]
    by_cases c3 : t = 0
    case neg => simp [c1, c2, c3, only]
    by_cases c5 : cs = [] <;> simp [c1, c2, c3, c5, only, intsL, Ex.cellsL]
  case inr.inr.inr.inr.inr.inr.inr.inl =>
    by_cases c1 : (ks.length : Int) = 1
    case neg => simp [c1, only]
    by_cases c2 : es = []
    case neg => simp [c1, c2, only]
    by_cases c3 : t = 0
    case neg => simp [c1, c2, c3, only]
    by_cases c5 : cs = [] <;> simp [c1, c2, c3, c5, only, intsL, Ex.cellsL]
theorem pv_ge {cs : List Int} {w : Int} : ∀ {i : Nat}, (∀ k, k < i → ∃ x, (cs.zip (-1 :: cs))[k]? = some x ∧ x ∈ cs.zip (-1 :: cs) ∧ decide (x.2 < x.1 ∧ x.1 < w) = true) → -1 ≤ pv cs i ∧ (i ≠ 0 → 0 ≤ pv cs i)
  | 0, _ => by simp [pv]
  | i + 1, h => by
    obtain ⟨x, h3, _, h4⟩ := h i (by omega)
    obtain ⟨c1, c2⟩ := cols_nth h3
    rw [pv_succ c1]
    have hb : x.2 < x.1 ∧ x.1 < w := by simpa using h4
    have := pv_ge (i := i) fun k hk => h k (by omega)
    omega
def CX (cs : List Int) (w : Int) (i : Nat) : AS :=
  { env := [(0, .i (.isl (intsL cs))), (1, .int w), (4, .bool false), (5, .int i), (9, jk i (.bool true)), (35, jk i (.bool false))], st := [] }
theorem validCols_eq (cs : List Int) (w : Int) (hl : cs.length < 9223372036854775808) (hw : 0 ≤ w ∧ w ≤ 6) : callA C0 87 [.i (.isl (intsL cs)), .int w] [] = some (.bool (colsOk w cs), []) := by
  rw [callA_eq rfl Try.func87 rfl rfl]
  have w1 : IntKind.i64.wrap (w - 1) = w - 1 := wrap64 (by omega) (by omega)
  simp
  obtain ⟨j, h1, h2⟩ := upto_bad (fun x : Int × Int => decide (x.2 < x.1 ∧ x.1 < w)) (cs.zip (-1 :: cs))
  rw [loop_to (CX cs w) j (by simp [CX])]
  · rw [execA_loop]
    rcases h2 with ⟨hj, ha⟩ | ⟨x, h3, _, h4, ha⟩
    · rw [cols_len] at hj
      have ha : colsOk w cs = true := ha
      simp [CX, hj, ha]
    · obtain ⟨c1, c2⟩ := cols_nth h3
      have r1 := (List.getElem?_eq_some_iff.1 c1).1
      have r2 := intsL_nth c1
      have hb : ¬ (x.2 < x.1 ∧ x.1 < w) := by simpa using h4
      have ha : colsOk w cs = false := ha
      have hp := pv_ge (i := j) h1
      by_cases hin : 0 ≤ x.1 ∧ x.1 ≤ w - 1
      · have hj : j ≠ 0 := fun h => by subst h; simp [pv] at c2; omega
        obtain ⟨j, rfl⟩ : ∃ i, j = i + 1 := ⟨j - 1, by omega⟩
        have q1 : cs[j]? = some x.2 := by
          have : pv cs (j + 1) = x.2 := c2
          simp only [pv, List.getElem?_cons_succ] at this
          rw [List.getElem?_eq_getElem (by omega)] at this ⊢
          simpa using this
        have q2 := intsL_nth q1
        have w4 : IntKind.i64.wrap ((j : Int) + 1 - 1) = j := by rw [wrap64 (by omega) (by omega)]; omega
        have w5 : IntKind.i64.wrap ((j : Int)) = j := by rw [wrap64 (by omega) (by omega)]
        simp [CX, r1, r2, w1, hin, ha, q2, w4, w5, show (0 : Int) < j + 1 by omega, show x.1 ≤ x.2 by omega, show (0 : Int) ≤ (j : Int) + 1 by omega, show j < cs.length by omega, show ((j : Int) + 1 < cs.length) by omega]
      · simp [CX, r1, r2, w1, hin, ha]
  · intro i hi
    obtain ⟨x, h3, _, h4⟩ := h1 i hi
    obtain ⟨c1, c2⟩ := cols_nth h3
    have r1 := (List.getElem?_eq_some_iff.1 c1).1
    have r2 := intsL_nth c1
    have hb : x.2 < x.1 ∧ x.1 < w := by simpa using h4
    have hp := pv_ge (i := i) fun k hk => h1 k (by omega)
    have hin : 0 ≤ x.1 ∧ x.1 ≤ w - 1 := by omega
    have w2 : IntKind.i64.wrap ((i : Int) + 1) = i + 1 := wrap64 (by omega) (by omega)
    by_cases h0 : i = 0
    · subst h0
      simp [CX, r1, r2, w1, hin, wrap_1]
    · obtain ⟨i, rfl⟩ : ∃ j, i = j + 1 := ⟨i - 1, by omega⟩
      have q1 : cs[i]? = some x.2 := by
        have : pv cs (i + 1) = x.2 := c2
        simp only [pv, List.getElem?_cons_succ] at this
        rw [List.getElem?_eq_getElem (by omega)] at this ⊢
        simpa using this
      have q2 := intsL_nth q1
      have w5 : IntKind.i64.wrap ((i : Int)) = i := by rw [wrap64 (by omega) (by omega)]
      have w2' : IntKind.i64.wrap ((i : Int) + 1 + 1) = i + 1 + 1 := wrap64 (by omega) (by omega)
      simp [CX, r1, r2, w1, hin, q2, w5, w2', show (0 : Int) < i + 1 by omega, show ¬ x.1 ≤ x.2 by omega, show (0 : Int) ≤ (i : Int) + 1 by omega, show i < cs.length by omega, show ((i : Int) + 1 < cs.length) by omega]
def pW (es : List Ex) (w : Int) : Int := if es.all (Ex.ok w) = true ∧ es.length ≤ 6 then (es.length : Int) else 0
def QX (es : List Ex) (w : Int) (i : Nat) : AS :=
  { env := [(0, .i (.isl (Ex.cellsL es))), (1, .int w), (4, .int 0), (5, .int i), (9, jk i (.bool true)), (18, jk i (.bool false)), (21, .junk)], st := [] }
theorem projectWidth_eq (es : List Ex) (w : Int) (hl : es.length < 9223372036854775808) : callA C0 86 [.i (.isl (Ex.cellsL es)), .int w] [] = some (.int (pW es w), []) := by
  rw [callA_eq rfl Try.func86 rfl rfl]
  simp
  obtain ⟨j, h1, h2⟩ := upto_bad (Ex.ok w) es
  rw [loop_to (QX es w) j (by simp [QX])]
  · rw [execA_loop]
    rcases h2 with ⟨hj, hall⟩ | ⟨x, h3, _, h5, hall⟩
    · by_cases h6 : es.length ≤ 6
      · have hq : pW es w = es.length := if_pos ⟨hall, h6⟩
        simp [QX, hj, hq, show ¬ (6 : Int) < es.length by omega]
      · have hq : pW es w = 0 := if_neg fun h => h6 h.2
        simp [QX, hj, hq, show (6 : Int) < es.length by omega]
    · have r1 := (List.getElem?_eq_some_iff.1 h3).1
      have r2 := Ex.cellsL_nth h3
      have r3 := sok_eq w x
      rw [h5] at r3
      rw [Ex.cells_eq] at r2 r3
      have hq : pW es w = 0 := if_neg fun h => by rw [hall] at h; simp at h
      simp [QX, r1, r2, r3, hq]
  · intro i hi
    obtain ⟨x, h3, _, h5⟩ := h1 i hi
    have r1 := (List.getElem?_eq_some_iff.1 h3).1
    have r2 := Ex.cellsL_nth h3
    have r3 := sok_eq w x
    rw [h5] at r3
    rw [Ex.cells_eq] at r2 r3
    have w2 : IntKind.i64.wrap ((i : Int) + 1) = i + 1 := wrap64 (by omega) (by omega)
    simp [QX, r1, r2, r3, w2]
def UX (ws : List Int) (i : Nat) : AS :=
  { env := [(0, .i (.isl (intsL ws))), (2, .bool false), (3, .int i), (7, jk i (.bool true)), (15, jk i (.bool false))], st := [] }
theorem svalidWidths_eq (ws : List Int) (hl : ws.length < 9223372036854775808) : callA C0 82 [.i (.isl (intsL ws))] [] = some (.bool (okWs ws), []) := by
  rw [callA_eq rfl Try.func82 rfl rfl]
  simp
  obtain ⟨j, h1', h2⟩ := upto_bad okWidth ws
  rw [loop_to (UX ws) j (by simp [UX])]
  · rw [execA_loop]
    rcases h2 with ⟨hj, ha⟩ | ⟨x, h3, _, h5, ha⟩
    · by_cases h4 : 1 ≤ ws.length ∧ ws.length ≤ 4
      · simp [UX, hj, okWs, h4, ha, show (1 : Int) ≤ ws.length ∧ (ws.length : Int) ≤ 4 by omega]
      · simp [UX, hj, okWs, h4, ha, show ¬ ((1 : Int) ≤ ws.length ∧ (ws.length : Int) ≤ 4) by omega]
    · have r1 := (List.getElem?_eq_some_iff.1 h3).1
      have r2 := intsL_nth h3
      have h5 : ¬ (1 ≤ x ∧ x ≤ 6) := by simpa [okWidth] using h5
      simp [UX, r1, r2, h5, okWs, ha]
  · intro i hi
    obtain ⟨x, h3, _, h5⟩ := h1' i hi
    have r1 := (List.getElem?_eq_some_iff.1 h3).1
    have r2 := intsL_nth h3
    have h5 : 1 ≤ x ∧ x ≤ 6 := by simpa [okWidth] using h5
    have w2 : IntKind.i64.wrap ((i : Int) + 1) = i + 1 := wrap64 (by omega) (by omega)
    simp [UX, r1, r2, h5, w2]
end Go.Proofs.Yteihcffblfdgfaa.P

/- The width of a plan, as the reference has it, kind by kind. No condition. -/
namespace Go.Proofs.Yteihcffblfdgfaa.P
open Go Go.Av
set_option maxRecDepth 4000
set_option maxHeartbeats 2000000
theorem splan_no {ws : List Int} {k t : Int} {es : List Ex} {cs : List Int} {ks : List Pn} {lv : Nat} (h : ¬ (only k t es cs ks = true ∧ (ks = [] ∨ lv ≠ 0))) : callA C0 60 [.i (.agg [.int k, .int t, .isl (Ex.cellsL es), .isl (intsL cs), .isl (Pn.cellsL ks)]), .i (.isl (intsL ws)), .int lv] [] = some (.int 0, []) := by
  rw [callA_eq rfl Try.func60 rfl rfl]
  have ho := onlyFields_eq k t es cs ks
  cases hq : only k t es cs ks with
  | false => rw [hq] at ho; simp [ho]
  | true =>
    rw [hq] at ho
    by_cases hk : ks = []
    · exact absurd ⟨hq, .inl hk⟩ h
    by_cases hl : lv = 0
    · have : 0 < ks.length := List.length_pos_iff.2 hk
      subst hl; simp [ho, hk, this]
    · exact absurd ⟨hq, .inr hl⟩ h
theorem splan_yes1 {ws : List Int} {lv : Nat} {t : Int} (ho : only 1 t [] [] [] = true) (hw : ws.length < 1000000000) : callA C0 60 [.i (.agg [.int 1, .int t, .isl (Ex.cellsL []), .isl (intsL []), .isl (Pn.cellsL [])]), .i (.isl (intsL ws)), .int lv] [] = some (.int (if 0 ≤ t then (ws[t.toNat]?).getD 0 else 0), []) := by
  rw [callA_eq rfl Try.func60 rfl rfl]
  have hf := onlyFields_eq 1 t [] [] []
  rw [ho] at hf
  have w1 : IntKind.i64.wrap ((ws.length : Int) - 1) = ws.length - 1 := wrap64 (by omega) (by omega)
  simp only [Ex.cellsL, Pn.cellsL, intsL] at hf ⊢
  simp [hf, w1]
  rw [execA_loop]
  by_cases h0 : 0 ≤ t
  case neg => simp [h0, w1]
  cases hx : ws[t.toNat]? with
  | none =>
    have := List.getElem?_eq_none_iff.1 hx
    simp [h0, w1, show ¬ t ≤ ws.length - 1 by omega]
  | some x =>
    have r1 := (List.getElem?_eq_some_iff.1 hx).1
    have r2 := intsL_nth hx
    simp [h0, w1, show t ≤ ws.length - 1 by omega, show t < ws.length by omega, r2]
theorem splan_yes2 {ws : List Int} {lv : Nat} {a : Pn} {va : Int} {e : Ex} (ho : only 2 0 [e] [] [a] = true) (hl : lv ≠ 0) (hl8 : lv ≤ 8) (ha : callA C0 60 [.i (.agg a.cells), .i (.isl (intsL ws)), .int (lv - 1 : Nat)] [] = some (.int va, [])) (ra : 0 ≤ va ∧ va ≤ 6) : callA C0 60 [.i (.agg [.int 2, .int 0, .isl (Ex.cellsL [e]), .isl (intsL []), .isl (Pn.cellsL [a])]), .i (.isl (intsL ws)), .int lv] [] = some (.int (if va = 0 then 0 else if e.ok va = true then va else 0), []) := by
  rw [callA_eq rfl Try.func60 rfl rfl]
  have hf := onlyFields_eq 2 0 [e] [] [a]
  rw [ho] at hf
  have c3' : ¬ (lv : Int) = 0 := by omega
  have w1 : IntKind.i64.wrap ((lv : Int) - 1) = (lv - 1 : Nat) := by rw [wrap64 (by omega) (by omega)]; omega
  have w2 : IntKind.i64.wrap (1 : Int) = 1 := wrap_1
  have w3 : IntKind.i64.wrap (2 : Int) = 2 := wrap64 (by omega) (by omega)
  have r0 : nthE [a.cells] 0 = some a.cells := rfl
  simp only [Pn.cellsL, intsL, Ex.cellsL] at hf ⊢
  have q0 : nthE [e.cells] 0 = some e.cells := rfl
  have qe := sok_eq (va) e
  rw [Ex.cells_eq e] at q0 qe hf ⊢
  rw [Pn.cells_eq a] at ha r0 hf ⊢
  simp [hf, hl, c3']
  rw [execA_loop]
  by_cases z1 : va = 0
  case pos => simp [w1, ha, r0, z1]
  simp [w1, w2, ha, r0, z1]
  rw [execA_loop]
  cases hv : e.ok va <;> rw [hv] at qe <;> simp [z1, q0, qe]
theorem splan_yes3 {ws : List Int} {lv : Nat} {a : Pn} {va : Int} {es : List Ex} (ho : only 3 0 es [] [a] = true) (hl : lv ≠ 0) (hl8 : lv ≤ 8) (ha : callA C0 60 [.i (.agg a.cells), .i (.isl (intsL ws)), .int (lv - 1 : Nat)] [] = some (.int va, [])) (ra : 0 ≤ va ∧ va ≤ 6) (he : es.length < 9223372036854775808) : callA C0 60 [.i (.agg [.int 3, .int 0, .isl (Ex.cellsL es), .isl (intsL []), .isl (Pn.cellsL [a])]), .i (.isl (intsL ws)), .int lv] [] = some (.int (if va = 0 then 0 else pW es va), []) := by
  rw [callA_eq rfl Try.func60 rfl rfl]
  have hf := onlyFields_eq 3 0 es [] [a]
  rw [ho] at hf
  have c3' : ¬ (lv : Int) = 0 := by omega
  have w1 : IntKind.i64.wrap ((lv : Int) - 1) = (lv - 1 : Nat) := by rw [wrap64 (by omega) (by omega)]; omega
  have w2 : IntKind.i64.wrap (1 : Int) = 1 := wrap_1
  have w3 : IntKind.i64.wrap (2 : Int) = 2 := wrap64 (by omega) (by omega)
  have r0 : nthE [a.cells] 0 = some a.cells := rfl
  simp only [Pn.cellsL, intsL, Ex.cellsL] at hf ⊢
  rw [Pn.cells_eq a] at ha r0 hf ⊢
  simp [hf, hl, c3']
  rw [execA_loop]
  by_cases z1 : va = 0
  case pos => simp [w1, ha, r0, z1]
  simp [w1, w2, ha, r0, z1]
  rw [execA_loop]
  have hp := projectWidth_eq es va he
  simp [z1, hp]
theorem splan_yes4 {ws : List Int} {lv : Nat} {a : Pn} {va : Int} {b : Pn} {vb : Int} {e : Ex} (ho : only 4 0 [e] [] [a, b] = true) (hl : lv ≠ 0) (hl8 : lv ≤ 8) (ha : callA C0 60 [.i (.agg a.cells), .i (.isl (intsL ws)), .int (lv - 1 : Nat)] [] = some (.int va, [])) (ra : 0 ≤ va ∧ va ≤ 6) (hb : callA C0 60 [.i (.agg b.cells), .i (.isl (intsL ws)), .int (lv - 1 : Nat)] [] = some (.int vb, [])) (rb : 0 ≤ vb ∧ vb ≤ 6) : callA C0 60 [.i (.agg [.int 4, .int 0, .isl (Ex.cellsL [e]), .isl (intsL []), .isl (Pn.cellsL [a, b])]), .i (.isl (intsL ws)), .int lv] [] = some (.int (if va = 0 ∨ vb = 0 then 0 else if va + vb ≤ 6 ∧ e.ok (va + vb) = true then va + vb else 0), []) := by
  rw [callA_eq rfl Try.func60 rfl rfl]
  have hf := onlyFields_eq 4 0 [e] [] [a, b]
  rw [ho] at hf
  have c3' : ¬ (lv : Int) = 0 := by omega
  have w1 : IntKind.i64.wrap ((lv : Int) - 1) = (lv - 1 : Nat) := by rw [wrap64 (by omega) (by omega)]; omega
  have w2 : IntKind.i64.wrap (1 : Int) = 1 := wrap_1
  have w3 : IntKind.i64.wrap (2 : Int) = 2 := wrap64 (by omega) (by omega)
  have r0 : nthE [a.cells, b.cells] 0 = some a.cells := rfl
  have r1 : nthE [a.cells, b.cells] 1 = some b.cells := rfl
  simp only [Pn.cellsL, intsL, Ex.cellsL] at hf ⊢
  have q0 : nthE [e.cells] 0 = some e.cells := rfl
  have qe := sok_eq (va + vb) e
  rw [Ex.cells_eq e] at q0 qe hf ⊢
  rw [Pn.cells_eq a] at ha r0 hf ⊢
  rw [Pn.cells_eq a] at r1
  rw [Pn.cells_eq b] at hb r0 r1 hf ⊢
  simp [hf, hl, c3']
  rw [execA_loop]
  by_cases z1 : va = 0
  case pos => simp [w1, ha, r0, z1]
  simp [w1, w2, ha, r0, z1]
  rw [execA_loop]
  by_cases z2 : vb = 0
  case pos => simp [w1, hb, r1, z2]
  simp [w1, hb, r1, z1, z2, w2, w3]
  rw [execA_loop]
  have w4 : IntKind.i64.wrap (va + vb) = va + vb := wrap64 (by omega) (by omega)
  by_cases h6 : va + vb ≤ 6
  · cases hv : e.ok (va + vb) <;> rw [hv] at qe <;> simp [z1, z2, q0, qe, w4, h6]
  · simp [z1, z2, w4, h6]
theorem splan_yes5 {ws : List Int} {lv : Nat} {a : Pn} {va : Int} {b : Pn} {vb : Int} {e : Ex} (ho : only 5 0 [e] [] [a, b] = true) (hl : lv ≠ 0) (hl8 : lv ≤ 8) (ha : callA C0 60 [.i (.agg a.cells), .i (.isl (intsL ws)), .int (lv - 1 : Nat)] [] = some (.int va, [])) (ra : 0 ≤ va ∧ va ≤ 6) (hb : callA C0 60 [.i (.agg b.cells), .i (.isl (intsL ws)), .int (lv - 1 : Nat)] [] = some (.int vb, [])) (rb : 0 ≤ vb ∧ vb ≤ 6) : callA C0 60 [.i (.agg [.int 5, .int 0, .isl (Ex.cellsL [e]), .isl (intsL []), .isl (Pn.cellsL [a, b])]), .i (.isl (intsL ws)), .int lv] [] = some (.int (if va = 0 ∨ vb = 0 then 0 else if va + vb ≤ 6 ∧ e.ok (va + vb) = true then va + vb else 0), []) := by
  rw [callA_eq rfl Try.func60 rfl rfl]
  have hf := onlyFields_eq 5 0 [e] [] [a, b]
  rw [ho] at hf
  have c3' : ¬ (lv : Int) = 0 := by omega
  have w1 : IntKind.i64.wrap ((lv : Int) - 1) = (lv - 1 : Nat) := by rw [wrap64 (by omega) (by omega)]; omega
  have w2 : IntKind.i64.wrap (1 : Int) = 1 := wrap_1
  have w3 : IntKind.i64.wrap (2 : Int) = 2 := wrap64 (by omega) (by omega)
  have r0 : nthE [a.cells, b.cells] 0 = some a.cells := rfl
  have r1 : nthE [a.cells, b.cells] 1 = some b.cells := rfl
  simp only [Pn.cellsL, intsL, Ex.cellsL] at hf ⊢
  have q0 : nthE [e.cells] 0 = some e.cells := rfl
  have qe := sok_eq (va + vb) e
  rw [Ex.cells_eq e] at q0 qe hf ⊢
  rw [Pn.cells_eq a] at ha r0 hf ⊢
  rw [Pn.cells_eq a] at r1
  rw [Pn.cells_eq b] at hb r0 r1 hf ⊢
  simp [hf, hl, c3']
  rw [execA_loop]
  by_cases z1 : va = 0
  case pos => simp [w1, ha, r0, z1]
  simp [w1, w2, ha, r0, z1]
  rw [execA_loop]
  by_cases z2 : vb = 0
  case pos => simp [w1, hb, r1, z2]
  simp [w1, hb, r1, z1, z2, w2, w3]
  rw [execA_loop]
  have w4 : IntKind.i64.wrap (va + vb) = va + vb := wrap64 (by omega) (by omega)
  by_cases h6 : va + vb ≤ 6
  · cases hv : e.ok (va + vb) <;> rw [hv] at qe <;> simp [z1, z2, q0, qe, w4, h6]
  · simp [z1, z2, w4, h6]
theorem splan_yes6 {ws : List Int} {lv : Nat} {a : Pn} {va : Int} {b : Pn} {vb : Int} (ho : only 6 0 [] [] [a, b] = true) (hl : lv ≠ 0) (hl8 : lv ≤ 8) (ha : callA C0 60 [.i (.agg a.cells), .i (.isl (intsL ws)), .int (lv - 1 : Nat)] [] = some (.int va, [])) (ra : 0 ≤ va ∧ va ≤ 6) (hb : callA C0 60 [.i (.agg b.cells), .i (.isl (intsL ws)), .int (lv - 1 : Nat)] [] = some (.int vb, [])) (rb : 0 ≤ vb ∧ vb ≤ 6) : callA C0 60 [.i (.agg [.int 6, .int 0, .isl (Ex.cellsL []), .isl (intsL []), .isl (Pn.cellsL [a, b])]), .i (.isl (intsL ws)), .int lv] [] = some (.int (if va = 0 ∨ vb = 0 then 0 else if va = vb then va else 0), []) := by
  rw [callA_eq rfl Try.func60 rfl rfl]
  have hf := onlyFields_eq 6 0 [] [] [a, b]
  rw [ho] at hf
  have c3' : ¬ (lv : Int) = 0 := by omega
  have w1 : IntKind.i64.wrap ((lv : Int) - 1) = (lv - 1 : Nat) := by rw [wrap64 (by omega) (by omega)]; omega
  have w2 : IntKind.i64.wrap (1 : Int) = 1 := wrap_1
  have w3 : IntKind.i64.wrap (2 : Int) = 2 := wrap64 (by omega) (by omega)
  have r0 : nthE [a.cells, b.cells] 0 = some a.cells := rfl
  have r1 : nthE [a.cells, b.cells] 1 = some b.cells := rfl
  simp only [Pn.cellsL, intsL, Ex.cellsL] at hf ⊢
  rw [Pn.cells_eq a] at ha r0 hf ⊢
  rw [Pn.cells_eq a] at r1
  rw [Pn.cells_eq b] at hb r0 r1 hf ⊢
  simp [hf, hl, c3']
  rw [execA_loop]
  by_cases z1 : va = 0
  case pos => simp [w1, ha, r0, z1]
  simp [w1, w2, ha, r0, z1]
  rw [execA_loop]
  by_cases z2 : vb = 0
  case pos => simp [w1, hb, r1, z2]
  simp [w1, hb, r1, z1, z2, w2, w3]
  rw [execA_loop]
  by_cases h6 : va = vb <;> simp [z1, z2, h6]
theorem splan_yes7 {ws : List Int} {lv : Nat} {a : Pn} {va : Int} (ho : only 7 0 [] [] [a] = true) (hl : lv ≠ 0) (hl8 : lv ≤ 8) (ha : callA C0 60 [.i (.agg a.cells), .i (.isl (intsL ws)), .int (lv - 1 : Nat)] [] = some (.int va, [])) (ra : 0 ≤ va ∧ va ≤ 6) : callA C0 60 [.i (.agg [.int 7, .int 0, .isl (Ex.cellsL []), .isl (intsL []), .isl (Pn.cellsL [a])]), .i (.isl (intsL ws)), .int lv] [] = some (.int (if va = 0 then 0 else va), []) := by
  rw [callA_eq rfl Try.func60 rfl rfl]
  have hf := onlyFields_eq 7 0 [] [] [a]
  rw [ho] at hf
  have c3' : ¬ (lv : Int) = 0 := by omega
  have w1 : IntKind.i64.wrap ((lv : Int) - 1) = (lv - 1 : Nat) := by rw [wrap64 (by omega) (by omega)]; omega
  have w2 : IntKind.i64.wrap (1 : Int) = 1 := wrap_1
  have w3 : IntKind.i64.wrap (2 : Int) = 2 := wrap64 (by omega) (by omega)
  have r0 : nthE [a.cells] 0 = some a.cells := rfl
  simp only [Pn.cellsL, intsL, Ex.cellsL] at hf ⊢
  rw [Pn.cells_eq a] at ha r0 hf ⊢
  simp [hf, hl, c3']
  rw [execA_loop]
  by_cases z1 : va = 0
  case pos => simp [w1, ha, r0, z1]
  simp [w1, w2, ha, r0, z1]
  rw [execA_loop]
  simp [z1]
theorem splan_yes8 {ws : List Int} {lv : Nat} {a : Pn} {va : Int} {cs : List Int} (ho : only 8 0 [] cs [a] = true) (hl : lv ≠ 0) (hl8 : lv ≤ 8) (ha : callA C0 60 [.i (.agg a.cells), .i (.isl (intsL ws)), .int (lv - 1 : Nat)] [] = some (.int va, [])) (ra : 0 ≤ va ∧ va ≤ 6) (hc : cs.length < 9223372036854775808) : callA C0 60 [.i (.agg [.int 8, .int 0, .isl (Ex.cellsL []), .isl (intsL cs), .isl (Pn.cellsL [a])]), .i (.isl (intsL ws)), .int lv] [] = some (.int (if va = 0 then 0 else if cs.length < 6 ∧ colsOk va cs = true then (cs.length : Int) + 1 else 0), []) := by
  rw [callA_eq rfl Try.func60 rfl rfl]
  have hf := onlyFields_eq 8 0 [] cs [a]
  rw [ho] at hf
  have c3' : ¬ (lv : Int) = 0 := by omega
  have w1 : IntKind.i64.wrap ((lv : Int) - 1) = (lv - 1 : Nat) := by rw [wrap64 (by omega) (by omega)]; omega
  have w2 : IntKind.i64.wrap (1 : Int) = 1 := wrap_1
  have w3 : IntKind.i64.wrap (2 : Int) = 2 := wrap64 (by omega) (by omega)
  have r0 : nthE [a.cells] 0 = some a.cells := rfl
  simp only [Pn.cellsL, intsL, Ex.cellsL] at hf ⊢
  rw [Pn.cells_eq a] at ha r0 hf ⊢
  simp [hf, hl, c3']
  rw [execA_loop]
  by_cases z1 : va = 0
  case pos => simp [w1, ha, r0, z1]
  simp [w1, w2, ha, r0, z1]
  rw [execA_loop]
  have hp := validCols_eq cs va hc ra
  by_cases h6 : cs.length < 6
  · have w5 : IntKind.i64.wrap ((cs.length : Int) + 1) = cs.length + 1 := wrap64 (by omega) (by omega)
    cases hv : colsOk va cs <;> rw [hv] at hp <;> simp [z1, hp, h6, show (cs.length : Int) < 6 by omega, w5]
  · cases hv : colsOk va cs <;> rw [hv] at hp <;> simp [z1, hp, h6, show ¬ (cs.length : Int) < 6 by omega]
end Go.Proofs.Yteihcffblfdgfaa.P

/- The width of a plan, as the reference has it. No condition. -/
namespace Go.Proofs.Yteihcffblfdgfaa.P
open Go Go.Av
set_option maxRecDepth 4000
set_option maxHeartbeats 2000000
theorem only_iff (k t : Int) (es : List Ex) (cs : List Int) (ks : List Pn) : only k t es cs ks = true ↔ ((1 ≤ k ∧ k ≤ 8) ∧ (ks.length : Int) = nKids k ∧ ((es.length : Int) = if k = 3 then (es.length : Int) else nExprs k) ∧ (t = 0 ∨ k = 1) ∧ (cs = [] ∨ k = 8)) := by
  unfold only
  simp only [Bool.and_eq_true, Bool.or_eq_true, decide_eq_true_eq]
theorem splanWidth_eq {ws : List Int} (hw : ∀ w ∈ ws, 0 ≤ w ∧ w ≤ 6) (hwl : ws.length < 1000000000) : ∀ (p : Pn), p.lim → ∀ (lv : Nat), lv ≤ 8 → callA C0 60 [.i (.agg p.cells), .i (.isl (intsL ws)), .int lv] [] = some (.int (p.wd ws lv), []) := by
  intro p
  induction p using Pn.ind with
  | h k t es cs ks ih =>
    intro hp lv hlv
    have hp := (Pn.lim_iff _).1 hp
    simp only [Pn.exprs_mk, Pn.cols_mk, Pn.kids_mk] at hp
    obtain ⟨he, hc, -, hks⟩ := hp
    rw [Pn.cells_mk]
    have hr := fun a => Pn.wd_range hw a (lv - 1)
    by_cases ho : only k t es cs ks = true ∧ (ks = [] ∨ lv ≠ 0)
    case neg =>
      rw [splan_no ho, Pn.wd_no]
      intro hh
      apply ho
      refine ⟨?_, hh.2⟩
      have h := (headOk_iff k t es cs ks).1 hh.1
      rw [only_iff]
      refine ⟨?_, h.1, ?_, h.2.2.1.symm, h.2.2.2.symm⟩
      · rcases nKids_range k with h1 | h1 | h1 | h1 <;> omega
      · by_cases h3 : k = 3
        · rw [if_pos h3]
        · have := h.2.1; rw [if_neg fun h => h3 h.1] at this; rw [if_neg h3]; exact this
    have hoo := ho.1
    have hq := (only_iff k t es cs ks).1 ho.1
    obtain ⟨h0, h1, h2, h3, h4⟩ := hq
    have h5 := ho.2
    -- the head is right, but for a projection of no or many
    by_cases hd : Pn.headOk (.mk k t es cs ks) = true
    case neg =>
      rw [Pn.wd_no fun h => hd h.1]
      have hk3 : k = 3 ∧ ¬ okWidth es.length = true ∧ (es.length : Int) ≠ 1 := by
        by_cases hk : k = 3
        · refine ⟨hk, ?_, ?_⟩
          · intro hv
            exact hd ((headOk_iff k t es cs ks).2 ⟨h1, by rw [if_pos ⟨hk, hv⟩], h3.symm, h4.symm⟩)
          · intro hv
            have : okWidth es.length = true := by rw [hv]; decide
            exact hd ((headOk_iff k t es cs ks).2 ⟨h1, by rw [if_pos ⟨hk, this⟩], h3.symm, h4.symm⟩)
        · exact absurd ((headOk_iff k t es cs ks).2 ⟨h1, by rw [if_neg fun h => hk h.1]; rwa [if_neg hk] at h2, h3.symm, h4.symm⟩) hd
      obtain ⟨rfl, hv, hv1⟩ := hk3
      obtain ⟨a, rfl⟩ := len_one (by simpa using h1)
      obtain rfl : cs = [] := by simpa using h4
      obtain rfl : t = 0 := by simpa using h3
      have hl : lv ≠ 0 := by simpa using h5
      rw [splan_yes3 hoo hl hlv (ih a (by simp) (hks a (by simp)) (lv - 1) (by omega)) (hr a) he]
      have : pW es (a.wd ws (lv - 1)) = 0 := by
        unfold pW
        split
        · rename_i h
          have : ¬ (1 ≤ (es.length : Int) ∧ (es.length : Int) ≤ 6) := by simpa [okWidth] using hv
          omega
        · rfl
      simp [this]
    have hx := Pn.wd_eq ws lv (.mk k t es cs ks)
    rw [if_pos (by simpa using (⟨hd, h5⟩ : _ ∧ _))] at hx
    simp only [Pn.kind_mk, Pn.table_mk, Pn.exprs_mk, Pn.cols_mk, Pn.kids_mk] at hx
    rw [hx]
    rcases partCases k with rfl | rfl | rfl | rfl | rfl | rfl | rfl | rfl | h
    · obtain rfl := len_zero (by simpa using h1)
      obtain rfl : es = [] := len_zero (by simpa using h2)
      obtain rfl : cs = [] := by simpa using h4
      exact splan_yes1 hoo hwl
    · obtain ⟨a, rfl⟩ := len_one (by simpa using h1)
      obtain ⟨e, rfl⟩ := len_one (by simpa using h2)
      obtain rfl : cs = [] := by simpa using h4
      obtain rfl : t = 0 := by simpa using h3
      have hl : lv ≠ 0 := by simpa using h5
      rw [splan_yes2 hoo hl hlv (ih a (by simp) (hks a (by simp)) (lv - 1) (by omega)) (hr a)]
      by_cases z : a.wd ws (lv - 1) = 0 <;> simp [z, wdOver]
    · obtain ⟨a, rfl⟩ := len_one (by simpa using h1)
      obtain rfl : cs = [] := by simpa using h4
      obtain rfl : t = 0 := by simpa using h3
      have hl : lv ≠ 0 := by simpa using h5
      rw [splan_yes3 hoo hl hlv (ih a (by simp) (hks a (by simp)) (lv - 1) (by omega)) (hr a) he]
      have h6 := Pn.headOk_exprs hd
      simp only [Pn.exprs_mk] at h6
      by_cases z : a.wd ws (lv - 1) = 0 <;> simp [z, wdOver, pW, h6]
    · obtain ⟨a, b, rfl⟩ := len_two (by simpa using h1)
      obtain ⟨e, rfl⟩ := len_one (by simpa using h2)
      obtain rfl : cs = [] := by simpa using h4
      obtain rfl : t = 0 := by simpa using h3
      have hl : lv ≠ 0 := by simpa using h5
      rw [splan_yes4 hoo hl hlv (ih a (by simp) (hks a (by simp)) (lv - 1) (by omega)) (hr a) (ih b (by simp) (hks b (by simp)) (lv - 1) (by omega)) (hr b)]
      by_cases z : a.wd ws (lv - 1) = 0 <;> by_cases z2 : b.wd ws (lv - 1) = 0 <;> simp [z, z2, wdOver]
    · obtain ⟨a, b, rfl⟩ := len_two (by simpa using h1)
      obtain ⟨e, rfl⟩ := len_one (by simpa using h2)
      obtain rfl : cs = [] := by simpa using h4
      obtain rfl : t = 0 := by simpa using h3
      have hl : lv ≠ 0 := by simpa using h5
      rw [splan_yes5 hoo hl hlv (ih a (by simp) (hks a (by simp)) (lv - 1) (by omega)) (hr a) (ih b (by simp) (hks b (by simp)) (lv - 1) (by omega)) (hr b)]
      by_cases z : a.wd ws (lv - 1) = 0 <;> by_cases z2 : b.wd ws (lv - 1) = 0 <;> simp [z, z2, wdOver]
    · obtain ⟨a, b, rfl⟩ := len_two (by simpa using h1)
      obtain rfl : es = [] := len_zero (by simpa using h2)
      obtain rfl : cs = [] := by simpa using h4
      obtain rfl : t = 0 := by simpa using h3
      have hl : lv ≠ 0 := by simpa using h5
      rw [splan_yes6 hoo hl hlv (ih a (by simp) (hks a (by simp)) (lv - 1) (by omega)) (hr a) (ih b (by simp) (hks b (by simp)) (lv - 1) (by omega)) (hr b)]
      by_cases z : a.wd ws (lv - 1) = 0 <;> by_cases z2 : b.wd ws (lv - 1) = 0 <;> simp [z, z2, wdOver]
    · obtain ⟨a, rfl⟩ := len_one (by simpa using h1)
      obtain rfl : es = [] := len_zero (by simpa using h2)
      obtain rfl : cs = [] := by simpa using h4
      obtain rfl : t = 0 := by simpa using h3
      have hl : lv ≠ 0 := by simpa using h5
      rw [splan_yes7 hoo hl hlv (ih a (by simp) (hks a (by simp)) (lv - 1) (by omega)) (hr a)]
      by_cases z : a.wd ws (lv - 1) = 0 <;> simp [z, wdOver]
    · obtain ⟨a, rfl⟩ := len_one (by simpa using h1)
      obtain rfl : es = [] := len_zero (by simpa using h2)
      obtain rfl : t = 0 := by simpa using h3
      have hl : lv ≠ 0 := by simpa using h5
      rw [splan_yes8 hoo hl hlv (ih a (by simp) (hks a (by simp)) (lv - 1) (by omega)) (hr a) hc]
      by_cases z : a.wd ws (lv - 1) = 0 <;> simp [z, wdOver]
    · omega
theorem widthOf_eq (p : Pn) (hp : p.lim) (ws : List Int) (hl : ws.length < 9223372036854775808) : callA C0 56 [.i (.agg p.cells), .i (.isl (intsL ws))] [] = some (.int (p.width ws), []) := by
  rw [callA_eq rfl Try.func56 rfl rfl]
  have hv := svalidWidths_eq ws hl
  cases h : okWs ws with
  | false => rw [h] at hv; rw [Pn.cells_eq]; simp [hv, Pn.width, h]
  | true =>
    rw [h] at hv
    have h4 : ws.length ≤ 4 := by simp [okWs] at h; omega
    have hb := splanWidth_eq (okWs_range h) (by omega) p hp 8 (by omega)
    rw [show ((8 : Nat) : Int) = 8 from rfl] at hb
    rw [Pn.cells_eq] at hb ⊢
    simp [hv, Pn.width, h, hb]
end Go.Proofs.Yteihcffblfdgfaa.P

/- Equal plans, as the laws have it. No condition. -/
namespace Go.Proofs.Yteihcffblfdgfaa.P
open Go Go.Av
set_option maxRecDepth 4000
set_option maxHeartbeats 2000000
def IX (l m : List Int) (i : Nat) : AS :=
  { env := [(0, .i (.isl (intsL l))), (1, .i (.isl (intsL m))), (4, .bool false), (5, .int i), (10, .bool false), (14, jk i (.bool true)), (25, jk i (.bool false))], st := [] }
theorem equalInts_eq {l m : List Int} (hl : l.length < 9223372036854775808) : callA C0 34 [.i (.isl (intsL l)), .i (.isl (intsL m))] [] = some (.bool (l == m), []) := by
  rw [callA_eq rfl Try.func34 rfl rfl]
  by_cases hlm : l.length = m.length
  case neg =>
    have : (l == m) = false := by simp; intro h; rw [h] at hlm; exact hlm rfl
    simp [show ¬ (l.length : Int) = m.length by omega, this]
  obtain ⟨j, h1, h2⟩ := ints_upto l m hlm
  simp [hlm]
  rw [loop_to (IX l m) j (by simp [IX])]
  · rw [execA_loop]
    rcases h2 with ⟨hj, ha⟩ | ⟨a, b, k1, k2, k3, ha⟩
    · simp [IX, hj, hlm]
      exact (beq_iff_eq.1 ha)
    · have r1 := (List.getElem?_eq_some_iff.1 k1).1
      have s1 := intsL_nth k1
      have s2 := intsL_nth k2
      have ha := beq_eq_false_iff_ne.1 ha
      have r3 := (List.getElem?_eq_some_iff.1 k2).1
      simp [IX, r1, r3, s1, s2, k3, ha]
  · intro i hi
    obtain ⟨a, k1, k2⟩ := h1 i hi
    have r1 := (List.getElem?_eq_some_iff.1 k1).1
    have s1 := intsL_nth k1
    have s2 := intsL_nth k2
    have w2 : IntKind.i64.wrap ((i : Int) + 1) = i + 1 := wrap64 (by omega) (by omega)
    have r3 := (List.getElem?_eq_some_iff.1 k2).1
    simp [IX, r1, r3, s1, s2, w2]
theorem equalLists_eq {l m : List Ex} (hl : l.length < 1000000000) (ht : ∀ a ∈ l, a.thin) : callA C0 33 [.i (.isl (Ex.cellsL l)), .i (.isl (Ex.cellsL m))] [] = some (.bool (Ex.eqbL l m), []) :=
  eqL_step hl fun a ha b => equalExprs_eq a (ht a ha) b
def PX (p q : Pn) (i : Nat) : AS :=
  { env := [(0, .i (.agg [.int p.kind, .int p.table, .isl (Ex.cellsL p.exprs), .isl (intsL p.cols), .isl (Pn.cellsL p.kids)])), (1, .i (.agg [.int q.kind, .int q.table, .isl (Ex.cellsL q.exprs), .isl (intsL q.cols), .isl (Pn.cellsL q.kids)])), (2, .own 0 0), (3, .own 1 0), (4, .bool false), (5, .int i), (42, .bool false), (47, jk i (.bool true)), (61, jk i (.bool false))],
    st := [some (.box [.int p.kind, .int p.table, .i (.isl (Ex.cellsL p.exprs)), .i (.isl (intsL p.cols)), .i (.isl (Pn.cellsL p.kids))]), some (.box [.int q.kind, .int q.table, .i (.isl (Ex.cellsL q.exprs)), .i (.isl (intsL q.cols)), .i (.isl (Pn.cellsL q.kids))])] }
theorem equalPlans_step {p q : Pn} (hp : p.thin) (ih : ∀ a ∈ p.kids, ∀ b, callA C0 10 [.i (.agg a.cells), .i (.agg b.cells)] [] = some (.bool (a.eqb b), [])) :
    callA C0 10 [.i (.agg p.cells), .i (.agg q.cells)] [] = some (.bool (p.eqb q), []) := by
  have ht := (Pn.thin_iff _).1 hp
  obtain ⟨t1, t2, t3, t4, -⟩ := ht
  have q1 := equalLists_eq (m := q.exprs) t1 t2
  have q2 := equalInts_eq (l := p.cols) (m := q.cols) (by omega)
  rw [callA_eq rfl Try.func10 rfl rfl, Pn.cells_eq, Pn.cells_eq, Pn.eqb_def]
  by_cases h1 : p.kind = q.kind
  case neg => simp [h1]
  by_cases h2 : p.table = q.table
  case neg => simp [h1, h2]
  cases h3 : Ex.eqbL p.exprs q.exprs with
  | false => rw [h3] at q1; simp [h1, h2, q1]
  | true =>
  rw [h3] at q1
  by_cases h4 : p.cols = q.cols
  case neg =>
    have hb : (p.cols == q.cols) = false := by simpa using h4
    rw [hb] at q2; simp [h1, h2, q1, q2, h4]
  have hb : (p.cols == q.cols) = true := by simpa using h4
  rw [hb, h4] at q2
  by_cases h5 : p.kids.length = q.kids.length
  case neg => simp [h1, h2, q1, q2, h4, show ¬ (p.kids.length : Int) = q.kids.length by omega, Pn.eqbL_len _ _ h5]
  obtain ⟨j, u1, u2⟩ := Pn.eqbL_upto _ _ h5
  simp [h1, h2, h4, q1, q2, h5]
  rw [loop_to (PX p q) j (by simp [PX, h1, h2, h4])]
  · rw [execA_loop]
    rcases u2 with ⟨hj, ha⟩ | ⟨a, b, k1, k2, k3, k4, ha⟩
    · simp [PX, hj, h5, ha]
    · have r1 := (List.getElem?_eq_some_iff.1 k1).1
      have r3 := (List.getElem?_eq_some_iff.1 k2).1
      have s1 := Pn.cellsL_nth k1
      have s2 := Pn.cellsL_nth k2
      have hc := ih a k3 b
      rw [Pn.cells_eq] at s1 s2
      rw [Pn.cells_eq, Pn.cells_eq] at hc
      simp [PX, r1, r3, s1, s2, ha, hc, k4]
  · intro i hi
    obtain ⟨a, b, k1, k2, k3, k4⟩ := u1 i hi
    have r1 := (List.getElem?_eq_some_iff.1 k1).1
    have r3 := (List.getElem?_eq_some_iff.1 k2).1
    have s1 := Pn.cellsL_nth k1
    have s2 := Pn.cellsL_nth k2
    have hc := ih a k3 b
    have w2 : IntKind.i64.wrap ((i : Int) + 1) = i + 1 := wrap64 (by omega) (by omega)
    rw [Pn.cells_eq] at s1 s2
    rw [Pn.cells_eq, Pn.cells_eq] at hc
    simp [PX, r1, r3, s1, s2, hc, k4, w2]
theorem equalPlans_eq : ∀ (p : Pn), p.thin → ∀ q : Pn, callA C0 10 [.i (.agg p.cells), .i (.agg q.cells)] [] = some (.bool (p.eqb q), []) := by
  intro p
  induction p using Pn.ind with
  | h k t es cs ks ih =>
    intro ht q
    exact equalPlans_step ht fun a ha b => ih a ha (((Pn.thin_iff _).1 ht).2.2.2.2 a ha) b
end Go.Proofs.Yteihcffblfdgfaa.P

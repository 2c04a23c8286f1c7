/- Part 6 of what the proof rests on: the executor and what it is worth, and the program's functions as it runs them. No condition. -/
import Derived.Test.YtgpclhjdfdojhaaT5
set_option linter.unusedVariables false
set_option linter.unusedSimpArgs false
/- Extract, as the reference has it. No condition. -/
namespace Go.Proofs.Ytgpclhjdfdojhaa
open Go Go.Av
set_option maxRecDepth 4000
set_option maxHeartbeats 2000000
/-- The values as they come back: in the block that was given, or in a new one. -/
def xv (a b : Nat) : AV := if b = a then .osl 0 2 0 a else .osl 1 2 0 b
def xst (vs vs' : List Val) : StL := if vs'.length = vs.length then [some (.arr 2 (valsL vs))] else [none, some (.arr 2 (valsL vs'))]
theorem sext_const {e : Ex} {w : Int} {vs : List Val} (hk : e.kind = 2) (hl : vs.length < 100000) (hw : -1000 < w) (hw1 : w < 1000) :
    callA C0 54 [.i (.agg e.cells), .int w, .osl 0 2 0 vs.length] [some (.arr 2 (valsL vs))] = some (.tup [.i (.agg (Ex.ext w vs e).1.cells), xv vs.length (Ex.ext w vs e).2.length], xst vs (Ex.ext w vs e).2) := by
  rw [callA_eq rfl Try.func54 rfl rfl, Ex.cells_eq, Ex.ext_const w vs hk]
  have w1 : IntKind.i64.wrap (w + vs.length) = w + vs.length := wrap64 (by omega) (by omega)
  have hT : vs.take vs.length = vs := List.take_of_length_le (by simp)
  simp [hk, w1, xv, xst, valsL_snoc, hT, Ex.cells, Ex.cellsL, Val.zero, show (vs.length + 1) * 16 ≤ 140737488355328 by omega]
def eBox (e : Ex) : Option Blk := some (.box [.int e.kind, .int e.col, .bool e.val.null, .int e.val.n, .i (.isl (Ex.cellsL e.kids))])
def zBox : Option Blk := some (.box [.int 0, .int 0, .bool false, .int 0, .nils])
def kBox (x : Ex) : Option Blk := some (.box (impI x.cells))
def U0 (e : Ex) (w : Int) (vs : List Val) : AS :=
  { env := [(0, .i (.agg [.int e.kind, .int e.col, .bool e.val.null, .int e.val.n, .isl (Ex.cellsL e.kids)])), (1, .int w), (2, .osl 0 2 0 vs.length), (3, .own 1 0), (6, .own 2 0), (7, .nils), (8, .own 3 0), (9, .int 0), (10, .junk), (11, .junk), (14, .bool (e.kind == 2)), (34, .junk)],
    st := [some (.arr 2 (valsL vs)), eBox e, zBox, some (.box [.int e.kind, .int e.col, .bool false, .int 0, .nils])] }
def U1 (e : Ex) (w : Int) (vs : List Val) (ks : List Ex) (x : Ex) (i : Nat) : AS :=
  { env := [(0, .i (.agg [.int e.kind, .int e.col, .bool e.val.null, .int e.val.n, .isl (Ex.cellsL e.kids)])), (1, .int w), (2, .osl 0 2 0 vs.length), (3, .own 1 0), (6, .own 2 0), (7, .nils), (8, .own 3 0), (9, .int i), (10, .own 5 0), (11, .osl 0 2 0 vs.length), (14, .bool (e.kind == 2)), (34, .bool true)],
    st := [some (.arr 2 (valsL vs)), eBox e, zBox, some (.box [.int e.kind, .int e.col, .bool false, .int 0, .osl 4 5 0 i]), some (.arr 5 (Ex.cellsL ks)), kBox x] }
def V1 (e : Ex) (w : Int) (cur : List Val) (ks : List Ex) (x : Ex) (i : Nat) : AS :=
  { env := [(0, .i (.agg [.int e.kind, .int e.col, .bool e.val.null, .int e.val.n, .isl (Ex.cellsL e.kids)])), (1, .int w), (2, .osl 1 2 0 cur.length), (3, .own 2 0), (6, .own 3 0), (7, .nils), (8, .own 4 0), (9, .int i), (10, .own 6 0), (11, .osl 1 2 0 cur.length), (14, .bool (e.kind == 2)), (34, .bool true)],
    st := [none, some (.arr 2 (valsL cur)), eBox e, zBox, some (.box [.int e.kind, .int e.col, .bool false, .int 0, .osl 5 5 0 i]), some (.arr 5 (Ex.cellsL ks)), kBox x] }
def SE (e : Ex) (w : Int) (vs : List Val) : Nat → AS
  | 0 => U0 e w vs
  | i + 1 => if (Ex.extL w vs (e.kids.take (i + 1))).2.length = vs.length then U1 e w vs (Ex.extL w vs (e.kids.take (i + 1))).1 ((Ex.extL w vs (e.kids.take (i + 1))).1.getLastD Ex.zero) (i + 1)
    else V1 e w (Ex.extL w vs (e.kids.take (i + 1))).2 (Ex.extL w vs (e.kids.take (i + 1))).1 ((Ex.extL w vs (e.kids.take (i + 1))).1.getLastD Ex.zero) (i + 1)
theorem extL_len (w : Int) : ∀ (l : List Ex) (vs : List Val), (Ex.extL w vs l).1.length = l.length
  | [], _ => by simp [Ex.extL]
  | a :: l, vs => by simp [Ex.extL, extL_len w l]
theorem ext_same {w : Int} {vs : List Val} {e : Ex} (h : (Ex.ext w vs e).2.length = vs.length) : (Ex.ext w vs e).2 = vs := by
  obtain ⟨l, h1, _⟩ := Ex.ext_app w vs e
  rw [h1] at h ⊢
  have : l = [] := by simpa using h
  simp [this]
theorem extL_same {w : Int} {vs : List Val} {l : List Ex} (h : (Ex.extL w vs l).2.length = vs.length) : (Ex.extL w vs l).2 = vs := by
  obtain ⟨r, h1, _⟩ := Ex.extL_app w vs l
  rw [h1] at h ⊢
  have : r = [] := by simpa using h
  simp [this]
theorem sizeL_take_add : ∀ {l : List Ex} {i : Nat} {a : Ex}, l[i]? = some a → Ex.sizeL (l.take i) + a.size ≤ Ex.sizeL l
  | [], _, _, h => by simp at h
  | b :: l, 0, a, h => by simp at h; subst h; simp [Ex.sizeL]
  | b :: l, i + 1, a, h => by
    have := sizeL_take_add (l := l) (i := i) (a := a) (by simpa using h)
    simp [Ex.sizeL]; omega
theorem getLastD_snoc (l : List Ex) (x d : Ex) : (l ++ [x]).getLastD d = x := by simp
theorem sext_go {e : Ex} {w : Int} {vs : List Val} (hk : e.kind ≠ 2) (hs : e.size < 10000) (hl : vs.length + e.size < 100000) (hw : -1000 < w) (hw1 : w < 1000)
    (ih : ∀ a ∈ e.kids, ∀ vs : List Val, vs.length + a.size < 100000 → callA C0 54 [.i (.agg a.cells), .int w, .osl 0 2 0 vs.length] [some (.arr 2 (valsL vs))] = some (.tup [.i (.agg (Ex.ext w vs a).1.cells), xv vs.length (Ex.ext w vs a).2.length], xst vs (Ex.ext w vs a).2)) :
    callA C0 54 [.i (.agg e.cells), .int w, .osl 0 2 0 vs.length] [some (.arr 2 (valsL vs))] = some (.tup [.i (.agg (Ex.ext w vs e).1.cells), xv vs.length (Ex.ext w vs e).2.length], xst vs (Ex.ext w vs e).2) := by
  rw [callA_eq rfl Try.func54 rfl rfl, Ex.cells_eq, Ex.ext_not w vs hk]
  simp [hk]
  rw [loop_to (SE e w vs) e.kids.length (by simp [SE, U0, eBox, zBox])]
  · rw [execA_loop]
    cases hn : e.kids.length with
    | zero =>
      have h0 : e.kids = [] := List.length_eq_zero_iff.1 hn
      simp [SE, U0, eBox, zBox, h0, Ex.cellsL, Ex.extL, Ex.cells, Val.zero, xv, xst]
    | succ n =>
      have hT : e.kids.take (n + 1) = e.kids := List.take_of_length_le (by omega)
      have hlk := extL_len w e.kids vs
      have hT2 : (Ex.extL w vs e.kids).1.take (n + 1) = (Ex.extL w vs e.kids).1 := List.take_of_length_le (by omega)
      by_cases hc : (Ex.extL w vs e.kids).2.length = vs.length
      · have hs2 := extL_same hc
        simp only [SE, hT, hc, if_true]
        simp [U1, eBox, zBox, kBox, hlk, hn, hT2, Ex.cells, Val.zero, xv, xst, hs2]
      · simp only [SE, hT, hc, if_false]
        simp [V1, eBox, zBox, kBox, hlk, hn, hT2, Ex.cells, Val.zero, xv, xst, hc]
  · intro i hi
    have h3 := List.getElem?_eq_getElem hi
    have hm := List.mem_of_getElem? h3
    have r2 := Ex.cellsL_nth h3
    obtain ⟨r, hr1, hr2⟩ := Ex.extL_app w vs (e.kids.take i)
    have hsz := sizeL_take_add h3
    have hes := Ex.size_eq e
    have hkl := Ex.sizeL_length e.kids
    have hsn : Ex.extL w vs (e.kids.take (i + 1)) = ((Ex.extL w vs (e.kids.take i)).1 ++ [(Ex.ext w (Ex.extL w vs (e.kids.take i)).2 e.kids[i]).1], (Ex.ext w (Ex.extL w vs (e.kids.take i)).2 e.kids[i]).2) := by
      rw [take_snoc h3, Ex.extL_snoc]
    have hc := ih _ hm (Ex.extL w vs (e.kids.take i)).2 (by rw [hr1]; simp; omega)
    have hlk := extL_len w (e.kids.take i) vs
    have hlk : (Ex.extL w vs (e.kids.take i)).1.length = i := by rw [hlk]; simp; omega
    have hcl : (Ex.extL w vs (e.kids.take i)).2.length < 100000 := by rw [hr1]; simp; omega
    have w2 : IntKind.i64.wrap ((i : Int) + 1) = i + 1 := wrap64 (by omega) (by omega)
    have hse : SE e w vs (i + 1) = if (Ex.ext w (Ex.extL w vs (e.kids.take i)).2 e.kids[i]).2.length = vs.length then U1 e w vs ((Ex.extL w vs (e.kids.take i)).1 ++ [(Ex.ext w (Ex.extL w vs (e.kids.take i)).2 e.kids[i]).1]) (Ex.ext w (Ex.extL w vs (e.kids.take i)).2 e.kids[i]).1 (i + 1) else V1 e w (Ex.ext w (Ex.extL w vs (e.kids.take i)).2 e.kids[i]).2 ((Ex.extL w vs (e.kids.take i)).1 ++ [(Ex.ext w (Ex.extL w vs (e.kids.take i)).2 e.kids[i]).1]) (Ex.ext w (Ex.extL w vs (e.kids.take i)).2 e.kids[i]).1 (i + 1) := by
      simp only [SE, hsn, getLastD_snoc]
    obtain ⟨r', hr3, _⟩ := Ex.ext_app w (Ex.extL w vs (e.kids.take i)).2 e.kids[i]
    have hgrow : (Ex.extL w vs (e.kids.take i)).2.length = vs.length + r.length := by rw [hr1]; simp
    have hgrow2 : (Ex.ext w (Ex.extL w vs (e.kids.take i)).2 e.kids[i]).2.length = (Ex.extL w vs (e.kids.take i)).2.length + r'.length := by rw [hr3]; simp
    have hsame : (Ex.ext w (Ex.extL w vs (e.kids.take i)).2 e.kids[i]).2.length = (Ex.extL w vs (e.kids.take i)).2.length → (Ex.ext w (Ex.extL w vs (e.kids.take i)).2 e.kids[i]).2 = (Ex.extL w vs (e.kids.take i)).2 := ext_same
    have hsi : SE e w vs i = if i = 0 then U0 e w vs else if (Ex.extL w vs (e.kids.take i)).2.length = vs.length then U1 e w vs (Ex.extL w vs (e.kids.take i)).1 ((Ex.extL w vs (e.kids.take i)).1.getLastD Ex.zero) i else V1 e w (Ex.extL w vs (e.kids.take i)).2 (Ex.extL w vs (e.kids.take i)).1 ((Ex.extL w vs (e.kids.take i)).1.getLastD Ex.zero) i := by
      cases i <;> rfl
    have hsv : (Ex.extL w vs (e.kids.take i)).2.length = vs.length → (Ex.extL w vs (e.kids.take i)).2 = vs := extL_same
    have h00 : i = 0 → (Ex.extL w vs (e.kids.take i)).2 = vs ∧ (Ex.extL w vs (e.kids.take i)).1 = [] := fun h => by subst h; simp [Ex.extL]
    rw [hse, hsi]
    clear hse hsi hsn
    generalize (Ex.extL w vs (e.kids.take i)).1.getLastD Ex.zero = last
    generalize (Ex.extL w vs (e.kids.take i)).2 = cur at *
    generalize (Ex.extL w vs (e.kids.take i)).1 = ks at *
    generalize e.kids[i] = a at *
    generalize (Ex.ext w cur a).1 = x at *
    generalize (Ex.ext w cur a).2 = cur' at *
    have hTk : ks.take i = ks := List.take_of_length_le (by omega)
    have hb : (i + 1) * 56 ≤ 140737488355328 := by omega
    by_cases h0 : i = 0
    · obtain ⟨q1, q2⟩ := h00 h0
      subst q1; subst q2; subst h0
      by_cases hch : cur'.length = cur.length
      · have := hsame hch
        subst this
        simp [xv, xst] at hc
        simp [U0, U1, eBox, zBox, kBox, hi, r2, hc, wrap_1, Ex.cellsL]
      · simp [xv, xst, hch] at hc
        simp [U0, V1, eBox, zBox, kBox, hi, r2, hc, wrap_1, Ex.cellsL, hch]
    · by_cases hcv : cur.length = vs.length
      · have := hsv hcv
        subst this
        by_cases hch : cur'.length = cur.length
        · have := hsame hch
          subst this
          simp [xv, xst] at hc
          simp [U1, h0, eBox, zBox, kBox, hi, r2, hc, w2, hTk, hb, hlk, Ex.cellsL_snoc]
        · simp [xv, xst, hch] at hc
          simp [U1, V1, h0, eBox, zBox, kBox, hi, r2, hc, w2, hTk, hb, hlk, Ex.cellsL_snoc, hch]
      · have hcv2 : ¬ cur'.length = vs.length := by omega
        by_cases hch : cur'.length = cur.length
        · have := hsame hch
          subst this
          simp [xv, xst] at hc
          simp [V1, h0, hcv, eBox, zBox, kBox, hi, r2, hc, w2, hTk, hb, hlk, Ex.cellsL_snoc]
        · simp [xv, xst, hch] at hc
          simp [V1, h0, hcv, hcv2, eBox, zBox, kBox, hi, r2, hc, w2, hTk, hb, hlk, Ex.cellsL_snoc]
theorem sext_eq {w : Int} (hw : -1000 < w) (hw1 : w < 1000) : ∀ (e : Ex) (vs : List Val), e.size < 10000 → vs.length + e.size < 100000 →
    callA C0 54 [.i (.agg e.cells), .int w, .osl 0 2 0 vs.length] [some (.arr 2 (valsL vs))] = some (.tup [.i (.agg (Ex.ext w vs e).1.cells), xv vs.length (Ex.ext w vs e).2.length], xst vs (Ex.ext w vs e).2) := by
  intro e
  induction e using Ex.ind with
  | h k c v ks ih =>
    intro vs hs hl
    have hsz := hs
    rw [Ex.size_eq] at hsz
    by_cases hk : k = 2
    · exact sext_const (e := .mk k c v ks) hk (by omega) hw hw1
    · refine sext_go (e := .mk k c v ks) hk hs hl hw hw1 fun a ha us hu => ih a ha us ?_ hu
      have := Ex.sizeL_mem ha
      simp only [Ex.kids] at this hsz
      omega
end Go.Proofs.Ytgpclhjdfdojhaa

/- Extract, as the program has it. No condition. -/
namespace Go.Proofs.Ytgpclhjdfdojhaa
open Go Go.Av
set_option maxRecDepth 4000
set_option maxHeartbeats 2000000
/-- The captured values and the width. -/
def vst (w : Int) (vs : List Val) : StL := some (.box [gro 1 2 vs.length]) :: (groB 2 (valsL vs) vs.length ++ [some (.box [.int w])])
/-- Where the width lies. -/
def wi (n : Nat) : Nat := if n = 0 then 1 else 2
def cap (n : Nat) : AV := .fn (.func 52) [.own 0 0, .own (wi n) 0]
/-- .. when values have been put to them. -/
def vout (w : Int) (vs vs' : List Val) : StL :=
  if vs'.length = vs.length then vst w vs else if vs.length = 0 then [some (.box [.osl 2 2 0 vs'.length]), some (.box [.int w]), some (.arr 2 (valsL vs'))] else [some (.box [.osl 3 2 0 vs'.length]), none, some (.box [.int w]), some (.arr 2 (valsL vs'))]
theorem column_eq (c : Int) : callA C0 53 [.int c] [] = some (.i (.agg (Ex.mk 1 c Val.zero []).cells), []) := by
  rw [callA_eq rfl Try.func53 rfl rfl]
  simp [Ex.cells, Ex.cellsL, Val.zero]
theorem x1_not {e : Ex} {w : Int} {vs : List Val} (hk : e.kind ≠ 2) (hs : e.size < 1000000000) :
    callA C0 52 [.i (.iref e.cells), .own 0 0, .own (wi vs.length) 0] (vst w vs) = some (.i (.agg e.cells), vst w vs) := by
  rw [callA_eq rfl Try.func52 rfl rfl]
  have hc := copied_eq hs
  rw [Ex.cells_eq] at hc ⊢
  by_cases h0 : vs.length = 0
  · simp [vst, wi, h0, hk, hc]
  · simp [vst, wi, gro_pos h0, groB_pos h0, h0, hk, hc]
theorem x1_const {e : Ex} {w : Int} {vs : List Val} (hk : e.kind = 2) (hw : -1000 < w) (hw1 : w < 1000) (hl : vs.length < 100000) :
    callA C0 52 [.i (.iref e.cells), .own 0 0, .own (wi vs.length) 0] (vst w vs) = some (.i (.agg (Ex.ext w vs e).1.cells), vout w vs (Ex.ext w vs e).2) := by
  rw [callA_eq rfl Try.func52 rfl rfl, Ex.ext_const w vs hk]
  have hcol := column_eq (w + vs.length)
  have w1 : IntKind.i64.wrap (w + (vs.length + 1)) = w + (vs.length + 1) := wrap64 (by omega) (by omega)
  have w2 : IntKind.i64.wrap (w + ((vs.length : Int) + 1) - 1) = w + vs.length := by rw [show w + ((vs.length : Int) + 1) - 1 = w + vs.length by omega]; exact wrap64 (by omega) (by omega)
  have hT : vs.take vs.length = vs := List.take_of_length_le (by simp)
  rw [Ex.cells_eq e]
  by_cases h0 : vs.length = 0
  · have : vs = [] := List.length_eq_zero_iff.1 h0
    subst this
    have w3 : IntKind.i64.wrap (w + 1) = w + 1 := wrap64 (by omega) (by omega)
    have w4 : IntKind.i64.wrap (w + 1 - 1) = w := by rw [show w + 1 - 1 = w by omega]; exact wrap64 (by omega) (by omega)
    have w5 : IntKind.i64.wrap w = w := wrap64 (by omega) (by omega)
    simp at hcol
    simp [vst, wi, vout, hk, valsL, w3, w4, w5, hcol]
  · simp [vst, wi, vout, gro_pos h0, groB_pos h0, h0, hk, w1, w2, hcol, hT, valsL_snoc, show (vs.length + 1) * 16 ≤ 140737488355328 by omega]
end Go.Proofs.Ytgpclhjdfdojhaa

/- The program's replaced, with the closure of Extract. No condition. -/
namespace Go.Proofs.Ytgpclhjdfdojhaa
open Go Go.Av
set_option maxRecDepth 4000
set_option maxHeartbeats 2000000
def preA (w : Int) : StL := [some (.box [.nils]), some (.box [.int w])]
def preB (w : Int) (cur : List Val) : StL := [some (.box [.osl 1 2 0 cur.length]), some (.arr 2 (valsL cur)), some (.box [.int w])]
def preC (w : Int) (cur : List Val) : StL := [some (.box [.osl 2 2 0 cur.length]), some (.box [.int w]), some (.arr 2 (valsL cur))]
def preD (w : Int) (cur : List Val) : StL := [some (.box [.osl 3 2 0 cur.length]), none, some (.box [.int w]), some (.arr 2 (valsL cur))]
theorem vst_nil (w : Int) : vst w [] = preA w := by simp [vst, preA]
theorem vst_pos {w : Int} {vs : List Val} (h : vs.length ≠ 0) : vst w vs = preB w vs := by simp [vst, preB, gro_pos h, groB_pos h]
theorem cap_0 : cap 0 = .fn (.func 52) [.own 0 0, .own 1 0] := by simp [cap, wi]
theorem cap_pos {n : Nat} (h : n ≠ 0) : cap n = .fn (.func 52) [.own 0 0, .own 2 0] := by simp [cap, wi, h]
def RX1 (e : Ex) (o q : Nat) (pre : StL) (ks : List Ex) (i : Nat) : AS :=
  { env := [(0, .i (.iref [.int e.kind, .int e.col, .bool e.val.null, .int e.val.n, .isl (Ex.cellsL e.kids)])), (1, .fn (.func 52) [.own 0 0, .own q 0]), (4, .own o 0), (5, .own (o + 1) 0), (6, jk i (.int (i - 1))), (12, .bool ((e.kids.length : Int) == 0)), (39, .int e.kids.length), (40, .int i), (41, jk i (.bool true))],
    st := pre ++ [some (.box [.int 0, .int 0, .bool false, .int 0, .nils]), some (.box [.int e.kind, .int e.col, .bool e.val.null, .int e.val.n, .osl (o + 2) 5 0 e.kids.length]), some (.arr 5 (Ex.cellsL ks ++ List.replicate (e.kids.length - i) zrow))] }
def RXs (e : Ex) (w : Int) (vs : List Val) (i : Nat) (cur : List Val) (ks : List Ex) : AS :=
  if cur.length = vs.length then (if vs.length = 0 then RX1 e 2 1 (preA w) ks i else RX1 e 3 2 (preB w vs) ks i)
  else (if vs.length = 0 then RX1 e 3 1 (preC w cur) ks i else RX1 e 4 2 (preD w cur) ks i)
theorem repX_step {e : Ex} {w : Int} {vs : List Val} (hk : e.kids ≠ []) (hs : e.size < 10000) (hl : vs.length + e.size < 100000)
    (ih : ∀ a ∈ e.kids, ∀ vs : List Val, vs.length + a.size < 100000 → callA C0 43 [.i (.iref a.cells), cap vs.length] (vst w vs) = some (.i (.agg (Ex.ext w vs a).1.cells), vout w vs (Ex.ext w vs a).2)) :
    callA C0 43 [.i (.iref e.cells), cap vs.length] (vst w vs) = some (.i (.agg (Ex.mk e.kind e.col e.val (Ex.extL w vs e.kids).1).cells), vout w vs (Ex.extL w vs e.kids).2) := by
  rw [callA_eq rfl Try.func43 rfl rfl, Ex.cells_eq]
  have hkl := Ex.sizeL_length e.kids
  have hes := Ex.size_eq e
  have hb : 56 * (e.kids.length : Int) ≤ 281474976710656 := by omega
  have hlk := extL_len w e.kids vs
  have hTk : (Ex.extL w vs e.kids).1.take e.kids.length = (Ex.extL w vs e.kids).1 := List.take_of_length_le (by omega)
  have hTk2 : e.kids.take e.kids.length = e.kids := List.take_of_length_le (by omega)
  have hround : ∀ i, i < e.kids.length → ∃ (a x : Ex) (cur cur' : List Val) (ks : List Ex), (Ex.extL w vs (e.kids.take i)).2 = cur ∧ (Ex.extL w vs (e.kids.take i)).1 = ks ∧ (Ex.extL w vs (e.kids.take (i + 1))).2 = cur' ∧ (Ex.extL w vs (e.kids.take (i + 1))).1 = ks ++ [x] ∧ ks.length = i ∧ nthE (Ex.cellsL e.kids) i = some a.cells ∧ cur.length < 100000 ∧
      callA C0 43 [.i (.iref a.cells), cap cur.length] (vst w cur) = some (.i (.agg x.cells), vout w cur cur') ∧ (cur.length = vs.length → cur = vs) ∧ (cur'.length = cur.length → cur' = cur) ∧ vs.length ≤ cur.length ∧ cur.length ≤ cur'.length := by
    intro i hi
    have h3 := List.getElem?_eq_getElem hi
    have hm := List.mem_of_getElem? h3
    obtain ⟨r, hr1, hr2⟩ := Ex.extL_app w vs (e.kids.take i)
    obtain ⟨r', hr3, _⟩ := Ex.ext_app w (Ex.extL w vs (e.kids.take i)).2 e.kids[i]
    have hsz := sizeL_take_add h3
    refine ⟨e.kids[i], (Ex.ext w (Ex.extL w vs (e.kids.take i)).2 e.kids[i]).1, (Ex.extL w vs (e.kids.take i)).2, (Ex.ext w (Ex.extL w vs (e.kids.take i)).2 e.kids[i]).2, (Ex.extL w vs (e.kids.take i)).1, rfl, rfl, ?_, ?_, ?_, Ex.cellsL_nth h3, ?_, ih _ hm _ ?_, extL_same, ext_same, ?_, ?_⟩
    · rw [take_snoc h3, Ex.extL_snoc]
    · rw [take_snoc h3, Ex.extL_snoc]
    · rw [extL_len]; simp; omega
    · rw [hr1]; simp; omega
    · rw [hr1]; simp; omega
    · rw [hr1]; simp
    · rw [hr3]; simp
  by_cases h0 : vs.length = 0
  · have : vs = [] := List.length_eq_zero_iff.1 h0
    subst this
    rw [vst_nil, List.length_nil, cap_0]
    simp [preA, hk, hb]
    rw [loop_to (fun i => RXs e w [] i (Ex.extL w [] (e.kids.take i)).2 (Ex.extL w [] (e.kids.take i)).1) e.kids.length (by simp [RXs, RX1, preA, Ex.extL, Ex.cellsL, zrow])]
    · simp only [hTk2]
      rw [execA_loop]
      by_cases hc : (Ex.extL w [] e.kids).2.length = 0
      · have hs2 : (Ex.extL w [] e.kids).2 = [] := List.length_eq_zero_iff.1 hc
        simp [RXs, RX1, hs2, preA, vout, vst, hlk, hTk, Ex.cells]
      · simp [RXs, RX1, hc, preC, vout, hlk, hTk, Ex.cells]
    · intro i hi
      obtain ⟨a, x, cur, cur', ks, e1, e2, e3, e4, hks, r2, hl2, hc, s1, s2, g1, g2⟩ := hround i hi
      simp only [e1, e2, e3, e4]
      clear e1 e2 e3 e4 hround
      have w2 : IntKind.i64.wrap ((i : Int) + 1) = i + 1 := wrap64 (by omega) (by omega)
      rw [Ex.cells_eq] at hc r2
      have hD : (Ex.cellsL ks).length = i := by simp; omega
      have hS : Ex.cellsL ks ++ [x.cells] = Ex.cellsL (ks ++ [x]) := by rw [Ex.cellsL_snoc]
      have g3 := half_nth (n := e.kids.length) (z := zrow) hD hi
      have g4 := half_set (n := e.kids.length) (z := zrow) (x := x.cells) hD hi
      have g5 : splice zrow 0 x.cells = some x.cells := splice_all (by simp [zrow])
      rw [hS] at g4
      by_cases hcv : cur.length = 0
      · have : cur = [] := List.length_eq_zero_iff.1 hcv
        subst this
        by_cases hch : cur'.length = 0
        · have : cur' = [] := List.length_eq_zero_iff.1 hch
          subst this
          simp [vst, vout, cap_0] at hc
          simp [RXs, RX1, preA, hi, r2, hc, w2, g3, g4, g5, hks]
        · simp [vst, vout, cap_0, hch] at hc
          simp [RXs, RX1, preA, preC, hch, hi, r2, hc, w2, g3, g4, g5, hks]
      · have hcn : ¬ cur'.length = 0 := by omega
        rw [vst_pos hcv, cap_pos hcv] at hc
        by_cases hch : cur'.length = cur.length
        · have := s2 hch
          subst this
          simp [vout, preB, vst_pos hcv] at hc
          simp [RXs, RX1, preC, hcv, hi, r2, hc, w2, g3, g4, g5, hks]
        · simp [vout, preB, hch, hcv] at hc
          simp [RXs, RX1, preC, hcv, hcn, hi, r2, hc, w2, g3, g4, g5, hks]
  · rw [vst_pos h0, cap_pos h0]
    simp [preB, hk, hb]
    rw [loop_to (fun i => RXs e w vs i (Ex.extL w vs (e.kids.take i)).2 (Ex.extL w vs (e.kids.take i)).1) e.kids.length (by simp [RXs, RX1, preB, h0, Ex.extL, Ex.cellsL, zrow])]
    · simp only [hTk2]
      rw [execA_loop]
      by_cases hc : (Ex.extL w vs e.kids).2.length = vs.length
      · have hs2 := extL_same hc
        simp [RXs, RX1, hs2, h0, preB, vout, vst_pos h0, hlk, hTk, Ex.cells]
      · simp [RXs, RX1, hc, h0, preD, vout, hlk, hTk, Ex.cells]
    · intro i hi
      obtain ⟨a, x, cur, cur', ks, e1, e2, e3, e4, hks, r2, hl2, hc, s1, s2, g1, g2⟩ := hround i hi
      simp only [e1, e2, e3, e4]
      clear e1 e2 e3 e4 hround
      have w2 : IntKind.i64.wrap ((i : Int) + 1) = i + 1 := wrap64 (by omega) (by omega)
      rw [Ex.cells_eq] at hc r2
      have hD : (Ex.cellsL ks).length = i := by simp; omega
      have hS : Ex.cellsL ks ++ [x.cells] = Ex.cellsL (ks ++ [x]) := by rw [Ex.cellsL_snoc]
      have g3 := half_nth (n := e.kids.length) (z := zrow) hD hi
      have g4 := half_set (n := e.kids.length) (z := zrow) (x := x.cells) hD hi
      have g5 : splice zrow 0 x.cells = some x.cells := splice_all (by simp [zrow])
      rw [hS] at g4
      have hc0 : ¬ cur.length = 0 := by omega
      have hcn : ¬ cur'.length = 0 := by omega
      rw [vst_pos hc0, cap_pos hc0] at hc
      by_cases hcv : cur.length = vs.length
      · have := s1 hcv
        subst this
        by_cases hch : cur'.length = cur.length
        · have := s2 hch
          subst this
          simp [vout, preB, vst_pos hc0] at hc
          simp [RXs, RX1, preB, hc0, hi, r2, hc, w2, g3, g4, g5, hks]
        · simp [vout, preB, hch, hc0] at hc
          simp [RXs, RX1, preB, preD, hc0, hcn, hch, hi, r2, hc, w2, g3, g4, g5, hks]
      · have hcv2 : ¬ cur'.length = vs.length := by omega
        by_cases hch : cur'.length = cur.length
        · have := s2 hch
          subst this
          simp [vout, preB, vst_pos hc0] at hc
          simp [RXs, RX1, preD, h0, hcv, hi, r2, hc, w2, g3, g4, g5, hks]
        · simp [vout, preB, hch, hc0] at hc
          simp [RXs, RX1, preD, h0, hcv, hcv2, hi, r2, hc, w2, g3, g4, g5, hks]
end Go.Proofs.Ytgpclhjdfdojhaa

/- Extract, both ways. No condition. -/
namespace Go.Av
def Ex.extO (e : Ex) (w : Int) : Option (Ex × List Val) := if e.ok w && decide (w + (Ex.ext w [] e).2.length ≤ 6) then some (Ex.ext w [] e) else none
/-- What a valid expression has in its value's place. -/
theorem Ex.wf_val {m : Int} {e : Ex} (h : e.wf m = true) (hk : e.kind ≠ 2) : e.val = Val.zero := by
  cases e with
  | mk k c v ks =>
    rw [Ex.wf_eq] at h
    simp [Ex.headOk, Ex.kind, Ex.val] at h hk ⊢
    by_cases h1 : k = 1
    · obtain ⟨b, n⟩ := v
      simp [h1, Val.zero] at h ⊢
      simp [h]
    · simp [h1, hk] at h
      obtain ⟨b, n⟩ := v
      simp [Val.zero] at h ⊢
      simp [h]
theorem Ex.wf_constKids {m : Int} {e : Ex} (h : e.wf m = true) (hk : e.kind = 2) : e.kids = [] := by
  rw [Ex.wf_eq] at h
  simp [hk, kidsK] at h
  exact h.1
end Go.Av
namespace Go.Proofs.Ytgpclhjdfdojhaa
open Go Go.Av
set_option maxRecDepth 4000
set_option maxHeartbeats 2000000
theorem repX_leaf {e x : Ex} {w : Int} {vs vs' : List Val} (hk : e.kids = []) (h : callA C0 52 [.i (.iref e.cells), .own 0 0, .own (wi vs.length) 0] (vst w vs) = some (.i (.agg x.cells), vout w vs vs')) :
    callA C0 43 [.i (.iref e.cells), cap vs.length] (vst w vs) = some (.i (.agg x.cells), vout w vs vs') := by
  rw [callA_eq rfl Try.func43 rfl rfl]
  rw [Ex.cells_eq e] at h ⊢
  rw [Ex.cells_eq x] at h ⊢
  by_cases h0 : vs.length = 0
  · have : vs = [] := List.length_eq_zero_iff.1 h0
    subst this
    by_cases h1 : vs'.length = 0
    · simp [hk, Ex.cellsL, vst, cap, wi, vout, h1] at h ⊢
      simp [h]
    · simp [hk, Ex.cellsL, vst, cap, wi, vout, h1] at h ⊢
      simp [h]
  · rw [cap_pos h0, vst_pos h0]
    rw [vst_pos h0] at h
    by_cases h1 : vs'.length = vs.length
    · simp [hk, Ex.cellsL, preB, wi, h0, vout, vst_pos h0, h1] at h ⊢
      simp [h]
    · simp [hk, Ex.cellsL, preB, wi, h0, vout, h1] at h ⊢
      simp [h]
theorem replaced_ext {m w : Int} (hw0 : -1000 < w) (hw1 : w < 1000) : ∀ (e : Ex), e.wf m = true → e.size < 10000 → ∀ vs : List Val, vs.length + e.size < 100000 →
    callA C0 43 [.i (.iref e.cells), cap vs.length] (vst w vs) = some (.i (.agg (Ex.ext w vs e).1.cells), vout w vs (Ex.ext w vs e).2) := by
  intro e
  induction e using Ex.ind with
  | h k c v ks ih =>
    intro hw hs vs hl
    have hsz := hs
    rw [Ex.size_eq] at hsz
    by_cases hk : k = 2
    · exact repX_leaf (Ex.wf_constKids hw hk) (x1_const (e := .mk k c v ks) hk hw0 hw1 (by omega))
    · have hv := Ex.wf_val hw hk
      rw [Ex.ext_not w vs (e := .mk k c v ks) hk]
      cases ks with
      | nil =>
        have hn := x1_not (e := .mk k c v []) (w := w) (vs := vs) hk (by omega)
        have := repX_leaf (e := .mk k c v []) (x := .mk k c v []) (w := w) (vs := vs) (vs' := vs) rfl (by rw [hn]; simp [vout])
        simp only [Ex.val] at hv
        subst hv
        simpa [Ex.extL, Ex.kids, Ex.kind, Ex.col] using this
      | cons a ks =>
        have := repX_step (e := .mk k c v (a :: ks)) (w := w) (vs := vs) (by simp [Ex.kids]) hs hl (fun x hx us hu => ih x hx (Ex.wf_kids hw hx) (by have := Ex.sizeL_mem hx; simp only [Ex.kids] at this hsz; omega) us hu)
        rw [hv] at this
        exact this
def resX : Option (Ex × List Val) → AV
  | none => .tup [.i (.agg Ex.zero.cells), .i (.isl []), .bool false]
  | some (x, vs) => .tup [.i (.agg x.cells), .i (.isl (valsL vs)), .bool true]
theorem iext_eq {e : Ex} {w : Int} (hw0 : -1000 < w) (hw1 : w < 1000) : callA C0 16 [.i (.agg e.cells), .int w] [] = some (resX (e.extO w), []) := by
  rw [callA_eq rfl Try.func16 rfl rfl]
  have hok := ok_eq w e
  cases hk : e.ok w with
  | false =>
    rw [hk, Ex.cells_eq] at hok
    rw [Ex.cells_eq]
    simp [hok, Ex.extO, hk, resX, zero_cells]
  | true =>
    have hwf : e.wf w = true := by simp [Ex.ok, Ex.vB_eq] at hk; exact hk.2.1
    have hr := replaced_ext (m := w) hw0 hw1 e hwf (by have := Ex.ok_size hk; omega) [] (by have := Ex.ok_size hk; simp; omega)
    obtain ⟨l, hl1, hl2⟩ := Ex.ext_app w [] e
    rw [hk, Ex.cells_eq] at hok
    rw [Ex.cells_eq e] at hr ⊢
    have hls : (Ex.ext w [] e).2.length < 10000 := by have := Ex.ok_size hk; rw [hl1]; simp; omega
    have hxo : e.extO w = if decide (w + (Ex.ext w [] e).2.length ≤ 6) then some (Ex.ext w [] e) else none := by simp [Ex.extO, hk]
    rw [hxo]
    clear hl1
    generalize Ex.ext w [] e = x at *
    obtain ⟨x, us⟩ := x
    simp at *
    have w1 : IntKind.i64.wrap (w + us.length) = w + us.length := wrap64 (by omega) (by omega)
    by_cases h0 : us = []
    · subst h0
      simp [vst, vout, cap_0] at hr w1
      by_cases hg : w ≤ 6
      · simp [hok, hr, w1, hg, show ¬ 6 < w by omega, resX, valsL]
      · simp [hok, hr, w1, hg, show 6 < w by omega, resX, zero_cells]
    · simp [vst, vout, cap_0, h0] at hr
      by_cases hg : w + us.length ≤ 6
      · simp [hok, hr, w1, hg, show ¬ 6 < w + us.length by omega, List.take_of_length_le (Nat.le_refl us.length), resX]
      · simp [hok, hr, w1, hg, show 6 < w + us.length by omega, resX, zero_cells]
theorem sextr_eq {e : Ex} {w : Int} (hw0 : -1000 < w) (hw1 : w < 1000) : callA C0 17 [.i (.agg e.cells), .int w] [] = some (resX (e.extO w), []) := by
  rw [callA_eq rfl Try.func17 rfl rfl]
  have hok := sok_eq w e
  cases hk : e.ok w with
  | false =>
    rw [hk, Ex.cells_eq] at hok
    rw [Ex.cells_eq]
    simp [hok, Ex.extO, hk, resX, zero_cells]
  | true =>
    have hr := sext_eq hw0 hw1 e [] (by have := Ex.ok_size hk; omega) (by have := Ex.ok_size hk; simp; omega)
    obtain ⟨l, hl1, hl2⟩ := Ex.ext_app w [] e
    rw [hk, Ex.cells_eq] at hok
    rw [Ex.cells_eq e] at hr ⊢
    have hls : (Ex.ext w [] e).2.length < 10000 := by have := Ex.ok_size hk; rw [hl1]; simp; omega
    have hxo : e.extO w = if decide (w + (Ex.ext w [] e).2.length ≤ 6) then some (Ex.ext w [] e) else none := by simp [Ex.extO, hk]
    rw [hxo]
    clear hl1
    generalize Ex.ext w [] e = x at *
    obtain ⟨x, us⟩ := x
    simp at *
    have w1 : IntKind.i64.wrap (w + us.length) = w + us.length := wrap64 (by omega) (by omega)
    by_cases h0 : us = []
    · subst h0
      simp [xv, xst, valsL] at hr w1
      by_cases hg : w ≤ 6
      · simp [hok, hr, w1, hg, show ¬ 6 < w by omega, resX, valsL]
      · simp [hok, hr, w1, hg, show 6 < w by omega, resX, zero_cells]
    · simp [xv, xst, h0, valsL] at hr
      have hT : us.take us.length = us := List.take_of_length_le (by simp)
      by_cases hg : w + us.length ≤ 6
      · simp [hok, hr, w1, hg, show ¬ 6 < w + us.length by omega, resX, hT]
      · simp [hok, hr, w1, hg, show 6 < w + us.length by omega, resX, zero_cells]
end Go.Proofs.Ytgpclhjdfdojhaa

/- Drawing the arguments of Bind. No condition. -/
namespace Go.Proofs.Ytgpclhjdfdojhaa
open Go Go.Av
set_option maxRecDepth 4000
set_option maxHeartbeats 2000000
/-- So many values, drawn one after the other. -/
theorem draws (l : List UInt8) (hl : l.length ≤ 2000) : ∀ (n : Nat) (p : Int), 0 ≤ p → p + 2 * n < 800000000 → ∃ (vs : List Val) (ps : Nat → Int), vs.length = n ∧ ps 0 = p ∧ (∀ i, i ≤ n → p ≤ ps i ∧ ps i ≤ p + 2 * i) ∧ ∀ i v, vs[i]? = some v → callA C0 69 [.own 0 0] [Rd l (ps i)] = some (.i (.agg [.bool v.null, .int v.n]), [Rd l (ps (i + 1))])
  | 0, p, h0, h1 => ⟨[], fun _ => p, rfl, rfl, fun i hi => by show p ≤ p ∧ p ≤ p + 2 * (i : Int); omega, fun i v h => by simp at h⟩
  | n + 1, p, h0, h1 => by
    obtain ⟨v, p1, hv, q1, q2⟩ := randomValue_eq l p h0 (by omega) hl
    obtain ⟨vs, ps, a1, a2, a3, a4⟩ := draws l hl n p1 (by omega) (by omega)
    refine ⟨v :: vs, fun i => match i with | 0 => p | i + 1 => ps i, by simp [a1], rfl, ?_, ?_⟩
    · intro i hi
      cases i with
      | zero => simp
      | succ i => have := a3 i (by omega); simp; omega
    · intro i u hu
      cases i with
      | zero => simp at hu; subst hu; simp only; rw [a2]; exact hv
      | succ i => exact a4 i u (by simpa using hu)
def SV (l : List UInt8) (vs : List Val) (ps : Nat → Int) (n : Nat) (i : Nat) : AS :=
  { env := [(0, .own 0 0), (2, .nils), (3, .osl 1 2 0 i), (4, .int ((n : Int) - i)), (9, jk i (.bool true)), (24, .junk)], st := [Rd l (ps i), some (.arr 2 (valsL (vs.take i)))] }
theorem someValues_eq (l : List UInt8) (hl : l.length ≤ 2000) (p : Int) (h0 : 0 ≤ p) (h1 : p < 700000000) : ∃ (vs : List Val) (p' : Int), callA C0 64 [.own 0 0] [Rd l p] = some (.osl 1 2 0 vs.length, [Rd l p', some (.arr 2 (valsL vs))]) ∧ vs.length ≤ 6 ∧ p ≤ p' ∧ p' ≤ p + 30 := by
  obtain ⟨k, hk, hk1, -⟩ := pick_eq l p 7 h0 (by omega) hl
  obtain ⟨k0, k1⟩ := hk1 (by omega)
  obtain ⟨n, rfl⟩ : ∃ n : Nat, k = n := ⟨k.toNat, by omega⟩
  obtain ⟨vs, ps, a1, a2, a3, a4⟩ := draws l hl n (p + 1) (by omega) (by omega)
  have b1 := a3 n (by omega)
  obtain ⟨t, ht, -, -⟩ := pick_eq l (ps n) 8 (by omega) (by omega) hl
  obtain ⟨z, pz, hz, z1, z2⟩ := anyValue_eq l (ps n + 1) (by omega) (by omega) hl
  have hT : vs.take n = vs := List.take_of_length_le (by omega)
  have hloop : ∀ i, i < n → ∀ v, vs[i]? = some v → vs.take (i + 1) = vs.take i ++ [v] := fun i _ v h => take_snoc h
  have key : ∀ (K : List Val) (q : Int), True := fun _ _ => trivial
  by_cases hn : n = 0
  · subst hn
    have hv : vs = [] := List.length_eq_zero_iff.1 a1
    subst hv
    refine ⟨[], p + 1, ?_, by simp, by omega, by omega⟩
    rw [callA_eq rfl Try.func64 rfl rfl]
    simp at hk
    simp [hk]
    rw [execA_loop]
    simp [valsL]
  · have hpos : (0 : Int) < n := by omega
    have hpn : 0 < n := by omega
    by_cases hg : t = 0
    · refine ⟨z :: vs.drop 1, pz, ?_, by simp; omega, by omega, by omega⟩
      rw [callA_eq rfl Try.func64 rfl rfl]
      simp [hk]
      rw [loop_to (SV l vs ps n) n (by simp [SV, a2, valsL])]
      · rw [execA_loop]
        cases vs with
        | nil => simp at a1; omega
        | cons v0 vs =>
          have hlen : vs.length + 1 = n := by simpa using a1
          simp [SV, hT, hpos, hpn, ht, hg, hz, valsL, hlen]
          omega
      · intro i hi
        have hi2 : i < vs.length := by omega
        have h3 := List.getElem?_eq_getElem hi2
        have hv := a4 i _ h3
        have hs := take_snoc h3
        generalize vs[i] = v at h3 hv hs
        have w2 : IntKind.i64.wrap ((n : Int) - i - 1) = n - i - 1 := wrap64 (by omega) (by omega)
        have hp : (0 : Int) < (n : Int) - i := by omega
        simp [SV, hi, hp, hv, hs, w2, valsL_snoc, List.take_take, show min i vs.length = i by omega, show (i + 1) * 16 ≤ 140737488355328 by omega, show (n : Int) - (i + 1) = n - i - 1 by omega]
    · refine ⟨vs, ps n + 1, ?_, by omega, by omega, by omega⟩
      rw [callA_eq rfl Try.func64 rfl rfl]
      simp [hk]
      rw [loop_to (SV l vs ps n) n (by simp [SV, a2, valsL])]
      · rw [execA_loop]
        simp [SV, hT, hpos, hpn, ht, hg, a1]
      · intro i hi
        have hi2 : i < vs.length := by omega
        have h3 := List.getElem?_eq_getElem hi2
        have hv := a4 i _ h3
        have hs := take_snoc h3
        generalize vs[i] = v at h3 hv hs
        have w2 : IntKind.i64.wrap ((n : Int) - i - 1) = n - i - 1 := wrap64 (by omega) (by omega)
        have hp : (0 : Int) < (n : Int) - i := by omega
        simp [SV, hi, hp, hv, hs, w2, valsL_snoc, List.take_take, show min i vs.length = i by omega, show (i + 1) * 16 ≤ 140737488355328 by omega, show (n : Int) - (i + 1) = n - i - 1 by omega]
end Go.Proofs.Ytgpclhjdfdojhaa

/- The law on bound values. No condition. -/
namespace Go.Av
def rowQ (m : Nat) (w : Nat) : List Val := (List.range w).map fun (i : Nat) => ⟨false, Int.tmod ((m : Int) + (i : Int)) 4 - 1⟩
@[simp] theorem rowQ_length (m w : Nat) : (rowQ m w).length = w := by simp [rowQ]
theorem rowQ_succ (m w : Nat) : rowQ m (w + 1) = rowQ m w ++ [⟨false, Int.tmod (m + w) 4 - 1⟩] := by simp [rowQ, List.range_succ]
theorem rowQ_ok (m w : Nat) : (rowQ m w).all Val.ok = true := by
  rw [List.all_eq_true]; intro v hv
  simp [rowQ] at hv
  obtain ⟨i, hi, rfl⟩ := hv
  have := Int.tmod_nonneg (a := (m : Int) + i) 4 (by omega)
  have := Int.tmod_lt_of_pos ((m : Int) + i) (b := 4) (by omega)
  simp [Val.ok]; omega
theorem colE_wf {w : Int} {i : Nat} (h : (i : Int) < w) : (colE i).wf w = true := by
  simp [Ex.wf_eq, colE, Ex.kids, Ex.kind, Ex.headOk, Ex.col, Ex.val, Val.zero, kidsK, h]
theorem constE_wf {w : Int} {v : Val} (h : v.ok = true) : (constE v).wf w = true := by
  simp [Ex.wf_eq, constE, Ex.kids, Ex.kind, Ex.headOk, Ex.col, Ex.val, kidsK, h]
theorem bindL_wf {w : Nat} {vs : List Val} (h : vs.all Val.ok = true) : ∀ b ∈ bindL w vs, b.wf w = true ∧ b.ht = 0 := by
  intro b hb
  unfold bindL at hb
  rcases List.mem_append.1 hb with h1 | h1
  · simp [colsE] at h1; obtain ⟨i, hi, rfl⟩ := h1; exact ⟨colE_wf (by omega), by simp [colE, Ex.ht, Ex.htL]⟩
  · obtain ⟨v, hv, rfl⟩ := List.mem_map.1 h1; exact ⟨constE_wf (List.all_eq_true.1 h v hv), by simp [constE, Ex.ht, Ex.htL]⟩
theorem sub_ht {m : Int} (l : List Ex) (hm : m = l.length) (hl : ∀ b ∈ l, b.ht = 0) : ∀ (e : Ex), e.wf m = true → (e.sub l).ht = e.ht := by
  intro e
  induction e using Ex.ind with
  | h k c v ks ih =>
    intro h
    by_cases hk : k = 1
    · obtain ⟨h0, h1, h2⟩ := Ex.wf_col h hk
      have hi : c.toNat < l.length := by simp [Ex.col] at h0 h1; omega
      have hb := List.getElem?_eq_getElem hi
      rw [Ex.sub_col l (e := .mk k c v ks) hk hb, hl _ (List.getElem_mem hi), Ex.ht_eq, h2]; rfl
    · rw [Ex.sub_not l (e := .mk k c v ks) hk]
      simp only [Ex.ht, Ex.kids]
      have : ∀ q : List Ex, (∀ x ∈ q, (Ex.sub l x).ht = x.ht) → Ex.htL (q.map (Ex.sub l)) = Ex.htL q := by
        intro q
        induction q with
        | nil => intro _; rfl
        | cons a q ihq => intro hq; simp only [List.map_cons, Ex.htL, hq a (by simp), ihq fun x hx => hq x (by simp [hx])]
      exact this ks fun x hx => ih x hx (Ex.wf_kids h hx)
theorem bind_ok {e : Ex} {w : Nat} {vs : List Val} (hw : okWidth w = true) (hv : vs.all Val.ok = true) (h : e.ok ((w : Int) + vs.length) = true) : (e.sub (bindL w vs)).ok w = true := by
  simp only [Ex.ok, Ex.vB_eq, Bool.and_eq_true, decide_eq_true_eq] at h ⊢
  have hlen : ((w : Int) + vs.length) = (bindL w vs).length := by simp
  refine ⟨hw, Ex.wf_sub (m := (w : Int) + vs.length) _ hlen (fun b hb => (bindL_wf hv b hb).1) e h.2.1, ?_⟩
  rw [sub_ht (m := (w : Int) + vs.length) _ hlen (fun b hb => (bindL_wf hv b hb).2) e h.2.1]
  exact h.2.2
theorem bind_ev {e : Ex} {w : Nat} {vs row : List Val} (hr : row.length = w) (h : e.wf ((w : Int) + vs.length) = true) : (e.sub (bindL w vs)).ev row = e.ev (row ++ vs) := by
  rw [ev_sub (m := (w : Int) + vs.length) _ (by simp) row e h]
  congr 1
  unfold bindL
  rw [List.map_append]
  congr 1
  · apply List.ext_getElem
    · simp [hr]
    · intro i h1 h2
      simp [colsE, colE, Ex.ev, evN, List.getElem?_eq_getElem h2]
  · rw [List.map_map]
    have : (Ex.ev row ∘ constE) = id := by funext v; simp [constE, Ex.ev, evN]
    rw [this, List.map_id]
end Go.Av
namespace Go.Proofs.Ytgpclhjdfdojhaa
open Go Go.Av
set_option maxRecDepth 4000
set_option maxHeartbeats 2000000
theorem drawBind_eq (code : List UInt8) : ∃ (e : Ex) (w : Int) (vs : List Val), callA C0 35 [.i (.isl (bytesI code))] [] = some (.tup [.i (.agg e.cells), .int w, .i (.isl (valsL vs))], []) ∧ e.size ≤ 39 ∧ vs.length ≤ 3 ∧ -10 < w ∧ w < 10 := by
  obtain ⟨c, hc, hr⟩ := newReader_eq code
  obtain ⟨k, hk, hk1, -⟩ := pick_eq c 0 3 (by omega) (by omega) hc
  obtain ⟨k0, k1⟩ := hk1 (by omega)
  have w1 : IntKind.i64.wrap (1 + k) = 1 + k := wrap64 (by omega) (by omega)
  simp at hk
  obtain ⟨vs, p1, hv, v1, v2, v3⟩ := someValues_eq c hc 1 (by omega) (by omega)
  by_cases hl : (3 : Int) < vs.length
  · have h3 : min 3 vs.length = 3 := by omega
    have hl' : 3 ≤ vs.length := by omega
    have w2 : IntKind.i64.wrap (1 + k + 3) = 1 + k + 3 := wrap64 (by omega) (by omega)
    obtain ⟨e, p2, he, a1, a2, a3⟩ := anyExpr_eq c hc (1 + k + 3) p1 (by omega) (by omega)
    obtain ⟨t, ht, -, -⟩ := pick_eq c p2 16 (by omega) (by omega) hc
    by_cases hg : t = 0
    · obtain ⟨x, hx, hm⟩ := one_eq c (p2 + 1) (by omega) (by omega) hc [[.int 0], [.int (-1)], [.int 6]] (by simp) (by simp) (by simp)
      refine ⟨e, x, vs.take 3, ?_, a3, by simp; omega, ?_⟩
      · rw [callA_eq rfl Try.func35 rfl rfl]
        simp at hx
        simp [hr, hk, w1, w2, hv, hl, Int.le_of_lt hl, h3, hl', he, ht, hg, hx]
      · simp at hm; omega
    · refine ⟨e, 1 + k, vs.take 3, ?_, a3, by simp; omega, by omega⟩
      rw [callA_eq rfl Try.func35 rfl rfl]
      simp [hr, hk, w1, w2, hv, hl, Int.le_of_lt hl, h3, hl', he, ht, hg]
  · have w2 : IntKind.i64.wrap (1 + k + vs.length) = 1 + k + vs.length := wrap64 (by omega) (by omega)
    have hT : vs.take vs.length = vs := List.take_of_length_le (by simp)
    obtain ⟨e, p2, he, a1, a2, a3⟩ := anyExpr_eq c hc (1 + k + vs.length) p1 (by omega) (by omega)
    obtain ⟨t, ht, -, -⟩ := pick_eq c p2 16 (by omega) (by omega) hc
    by_cases hg : t = 0
    · obtain ⟨x, hx, hm⟩ := one_eq c (p2 + 1) (by omega) (by omega) hc [[.int 0], [.int (-1)], [.int 6]] (by simp) (by simp) (by simp)
      refine ⟨e, x, vs, ?_, a3, by omega, ?_⟩
      · rw [callA_eq rfl Try.func35 rfl rfl]
        simp at hx
        simp [hr, hk, w1, w2, hv, hl, he, ht, hg, hx, hT]
      · simp at hm; omega
    · refine ⟨e, 1 + k, vs, ?_, a3, by omega, by omega⟩
      rw [callA_eq rfl Try.func35 rfl rfl]
      simp [hr, hk, w1, w2, hv, hl, he, ht, hg, hT]
def Y3 (code more : List UInt8) (e x : Ex) (n : Nat) (vs : List Val) (i : Nat) : AS :=
  { env := [(0, .i (.isl (bytesI code))), (1, .i (.isl (bytesI more))), (4, .bool false), (5, .own 0 0), (6, .int n), (7, .i (.isl (valsL vs))), (8, .own 1 0), (9, .bool true), (10, .own 2 0), (11, .bool true), (12, .osl 3 2 0 i), (13, .int i), (14, .junk), (15, .junk), (16, .junk), (17, .junk), (25, .bool false), (62, .bool false), (74, jk i (.bool true))],
    st := [some (.box (impI e.cells)), some (.box (impI x.cells)), some (.box (impI x.cells)), some (.arr 2 (valsL (rowQ more.length i)))] }
theorem law_bind (code more : List UInt8) : callA C0 8 [.i (.isl (bytesI code)), .i (.isl (bytesI more))] [] = some (.bool true, []) := by
  by_cases hc : (1048576 : Int) < code.length
  · rw [callA_eq rfl Try.func8 rfl rfl]
    simp [bytesI_length, hc]
  by_cases hm : (1048576 : Int) < more.length
  · rw [callA_eq rfl Try.func8 rfl rfl]
    simp [bytesI_length, hc, hm]
  obtain ⟨e, w, vs, hd, hs, hl, hw0, hw1⟩ := drawBind_eq code
  have h1 := ibind_eq (e := e) (w := w) (vs := vs) (by omega) (by omega) (by omega)
  have h2 := sbind_eq (e := e) (w := w) (vs := vs) (by omega) (by omega) (by omega)
  rw [resE_eq] at h1 h2
  rw [callA_eq rfl Try.func8 rfl rfl]
  cases ho : e.bindO w vs with
  | none =>
    rw [ho] at h1 h2
    have h3 := equalExprs_eq Ex.zero (by simp [Ex.zero, Ex.thin, Ex.thinL]) Ex.zero
    rw [Ex.eqb_refl] at h3
    simp [getE] at h1 h2
    simp [bytesI_length, hc, hm, hd, h1, h2, h3]
  | some x =>
    rw [ho] at h1 h2
    have hok : vs.all Val.ok = true ∧ 1 ≤ w ∧ e.ok (w + vs.length) = true ∧ x = e.sub (bindL w.toNat vs) := by
      unfold Ex.bindO at ho
      split at ho
      · rename_i h; simp at h; injection ho with ho; exact ⟨List.all_eq_true.2 h.1, h.2.1, h.2.2, ho.symm⟩
      · cases ho
    obtain ⟨o1, o2, o3, rfl⟩ := hok
    have h6 : 1 ≤ w + vs.length ∧ w + vs.length ≤ 6 := by simp [Ex.ok, okWidth] at o3; omega
    obtain ⟨n, rfl⟩ : ∃ n : Nat, w = n := ⟨w.toNat, by omega⟩
    have hwf : e.wf ((n : Int) + vs.length) = true := by simp [Ex.ok, Ex.vB_eq] at o3; exact o3.2.1
    have hxo := bind_ok (w := n) (by simp [okWidth]; omega) o1 o3
    have hxe := bind_ev (e := e) (w := n) (vs := vs) (row := rowQ more.length n) (by simp) hwf
    have h3 := equalExprs_eq (e.sub (bindL n vs)) (Ex.thin_of_size _ (by have := Ex.ok_size hxo; omega)) (e.sub (bindL n vs))
    rw [Ex.eqb_refl] at h3
    simp [getE] at h1 h2
    have hn6 : ¬ (6 : Int) < n := by omega
    simp [bytesI_length, hc, hm, hd, h1, h2, h3, hn6]
    have hrow : okRow (rowQ more.length n) = true := by
      have h1 := rowQ_ok more.length n
      have h2 : okWidth (rowQ more.length n).length = true := by simp [okWidth]; omega
      simp only [okRow, h1, h2, Bool.and_self]
    have hrow2 : okRow (rowQ more.length n ++ vs) = true := by
      have h1 := rowQ_ok more.length n
      have h2 : okWidth (rowQ more.length n ++ vs).length = true := by simp [okWidth]; omega
      simp only [okRow, List.all_append, h1, o1, h2, Bool.and_self]
    have hA := EvalExpr_eq (e.sub (bindL n vs)) (rowQ more.length n) (by simp; omega)
    simp only [hrow, rowQ_length, hxo, Bool.and_self, if_true, hxe] at hA
    have hB := EvalExpr_eq e (rowQ more.length n ++ vs) (by simp; omega)
    have hln : ((rowQ more.length n ++ vs).length : Int) = n + vs.length := by simp
    simp only [hrow2, hln, o3, Bool.and_self, if_true] at hB
    generalize e.sub (bindL n vs) = x at *
    rw [loop_to (Y3 code more e x n vs) n (by simp [Y3, rowQ, valsL])]
    · rw [execA_loop]
      have hT : (rowQ more.length n).take n = rowQ more.length n := List.take_of_length_le (by simp)
      have hT2 : (valsL (rowQ more.length n) ++ valsL vs).take (n + vs.length) = valsL (rowQ more.length n) ++ valsL vs := List.take_of_length_le (by simp)
      rw [valsL_append] at hB
      simp [Y3, hT, hT2, hA, hB, show (n + vs.length) * 16 ≤ 140737488355328 by omega, show n * 16 ≤ 140737488355328 by omega]
    · intro i hi
      have w2 : IntKind.i64.wrap ((i : Int) + 1) = i + 1 := wrap64 (by omega) (by omega)
      have w3 : IntKind.i64.wrap ((more.length : Int) + i) = more.length + i := wrap64 (by omega) (by omega)
      have b1 := Int.tmod_nonneg (a := (more.length : Int) + i) 4 (by omega)
      have b2 := Int.tmod_lt_of_pos ((more.length : Int) + i) (b := 4) (by omega)
      have w4 : IntKind.i64.wrap (((more.length : Int) + i).tmod 4 - 1) = ((more.length : Int) + i).tmod 4 - 1 := wrap64 (by omega) (by omega)
      have hT : (rowQ more.length i).take i = rowQ more.length i := List.take_of_length_le (by simp)
      simp [Y3, hi, w2, w3, w4, bytesI_length, rowQ_succ, valsL_snoc, hT, show (i + 1) * 16 ≤ 140737488355328 by omega]
end Go.Proofs.Ytgpclhjdfdojhaa

/- Drawing conditions and lists of values. No condition. -/
namespace Go.Proofs.Ytgpclhjdfdojhaa
open Go Go.Av
set_option maxRecDepth 4000
set_option maxHeartbeats 4000000
/-- A drawn column. -/
def colX (c : Int) : Ex := .mk 1 c Val.zero []
def two (k : Int) (a b : Ex) : Ex := .mk k 0 Val.zero [a, b]
theorem colX_cells (c : Int) : (colX c).cells = [.int 1, .int c, .bool false, .int 0, .isl []] := by simp [colX, Ex.cells, Ex.cellsL, Val.zero]
theorem two_cells (k : Int) (a b : Ex) : (two k a b).cells = [.int k, .int 0, .bool false, .int 0, .isl [a.cells, b.cells]] := by simp [two, Ex.cells, Ex.cellsL, Val.zero]
def costC : Nat → Nat
  | 0 => 40
  | n + 1 => costC n + 40
theorem cond_step (l : List UInt8) (hl : l.length ≤ 2000) (w : Int) (n c : Nat) (hn : n ≤ 3) (p : Int) (h0 : 0 ≤ p) (h1 : p + 10 * n < 500000000)
    (ih : n = 0 ∨ ∀ p : Int, 0 ≤ p → p + 10 * ((n : Int) - 1) < 500000000 → ∃ (e : Ex) (p' : Int), callA C0 76 [.own 0 0, .int w, .int ((n : Int) - 1)] [Rd l p] = some (.i (.agg e.cells), [Rd l p']) ∧ p ≤ p' ∧ p' ≤ p + c ∧ e.size ≤ c) :
    ∃ (e : Ex) (p' : Int), callA C0 76 [.own 0 0, .int w, .int n] [Rd l p] = some (.i (.agg e.cells), [Rd l p']) ∧ p ≤ p' ∧ p' ≤ p + (c + 40 : Nat) ∧ e.size ≤ c + 40 := by
  obtain ⟨c1, hc1, -, -⟩ := pick_eq l p w h0 (by omega) hl
  obtain ⟨x, hx, -, -⟩ := pick_eq l (p + 1) 4 (by omega) (by omega) hl
  obtain ⟨t, ht, -, -⟩ := pick_eq l (p + 1 + 1) 3 (by omega) (by omega) hl
  obtain ⟨c2, hc2, -, -⟩ := pick_eq l (p + 1 + 1 + 1) w (by omega) (by omega) hl
  have hcon := constant_eq ⟨false, x⟩
  rw [show (Ex.mk 2 0 ⟨false, x⟩ []).cells = (constE ⟨false, x⟩).cells from rfl] at hcon
  simp at hcon
  have wn : IntKind.i64.wrap ((n : Int) - 1) = n - 1 := wrap64 (by omega) (by omega)
  by_cases g : t = 0
  · obtain ⟨k, hk, -, -⟩ := pick_eq l (p + 1 + 1 + 1 + 1) 8 (by omega) (by omega) hl
    by_cases k0 : k = 0
    · obtain ⟨e, p', he, a1, a2, a3⟩ := randomExpr2 l hl w (p + 1 + 1 + 1 + 1 + 1) (by omega) (by omega)
      refine ⟨e, p', ?_, by omega, by omega, by omega⟩
      rw [callA_eq rfl Try.func76 rfl rfl]
      simp [hc1, hx, ht, hk, hcon, g, hc2, colX_cells, constE_cells, two_cells, Ex.cellsL, k0, he]
    by_cases k1 : k = 1
    · refine ⟨.mk 10 0 Val.zero [.mk 11 0 Val.zero [colX c1]], p + 1 + 1 + 1 + 1 + 1, ?_, by omega, by omega, by simp [colX, Ex.size, Ex.sizeL]⟩
      rw [callA_eq rfl Try.func76 rfl rfl]
      simp [hc1, hx, ht, hk, hcon, g, hc2, colX_cells, constE_cells, two_cells, Ex.cellsL, k1, Ex.cells, Val.zero]
    by_cases k2 : k = 2
    · rcases ih with rfl | ih
      · refine ⟨two 7 (colX c1) (colX c2), p + 1 + 1 + 1 + 1 + 1, ?_, by omega, by omega, by simp [two, colX, constE, Ex.size, Ex.sizeL]⟩
        rw [callA_eq rfl Try.func76 rfl rfl]
        simp [hc1, hx, ht, hk, hcon, g, hc2, colX_cells, constE_cells, two_cells, Ex.cellsL, k2]
      · by_cases n0 : n = 0
        · refine ⟨two 7 (colX c1) (colX c2), p + 1 + 1 + 1 + 1 + 1, ?_, by omega, by omega, by simp [two, colX, constE, Ex.size, Ex.sizeL]⟩
          rw [callA_eq rfl Try.func76 rfl rfl]
          simp [hc1, hx, ht, hk, hcon, g, hc2, colX_cells, constE_cells, two_cells, Ex.cellsL, k2, n0]
        · obtain ⟨e, p', he, a1, a2, a3⟩ := ih (p + 1 + 1 + 1 + 1 + 1) (by omega) (by omega)
          refine ⟨two 8 e (two 6 (colX c1) (colX c2)), p', ?_, by omega, by omega, by simp [two, colX, constE, Ex.size, Ex.sizeL]; omega⟩
          rw [callA_eq rfl Try.func76 rfl rfl]
          simp [hc1, hx, ht, hk, hcon, g, hc2, colX_cells, constE_cells, two_cells, Ex.cellsL, k2, n0, wn, he]
    by_cases k3 : k = 3
    · refine ⟨two 7 (colX c2) (colX c1), p + 1 + 1 + 1 + 1 + 1, ?_, by omega, by omega, by simp [two, colX, constE, Ex.size, Ex.sizeL]⟩
      rw [callA_eq rfl Try.func76 rfl rfl]
      simp [hc1, hx, ht, hk, hcon, g, hc2, colX_cells, constE_cells, two_cells, Ex.cellsL, k3]
    by_cases k4 : k = 4
    · refine ⟨two 7 (colX c2) (colX c1), p + 1 + 1 + 1 + 1 + 1, ?_, by omega, by omega, by simp [two, colX, constE, Ex.size, Ex.sizeL]⟩
      rw [callA_eq rfl Try.func76 rfl rfl]
      simp [hc1, hx, ht, hk, hcon, g, hc2, colX_cells, constE_cells, two_cells, Ex.cellsL, k4]
    by_cases k5 : k = 5
    · refine ⟨two 7 (colX c1) (colX c2), p + 1 + 1 + 1 + 1 + 1, ?_, by omega, by omega, by simp [two, colX, constE, Ex.size, Ex.sizeL]⟩
      rw [callA_eq rfl Try.func76 rfl rfl]
      simp [hc1, hx, ht, hk, hcon, g, hc2, colX_cells, constE_cells, two_cells, Ex.cellsL, k5]
    refine ⟨two 6 (colX c1) (colX c2), p + 1 + 1 + 1 + 1 + 1, ?_, by omega, by omega, by simp [two, colX, constE, Ex.size, Ex.sizeL]⟩
    rw [callA_eq rfl Try.func76 rfl rfl]
    simp [hc1, hx, ht, hk, hcon, g, hc2, colX_cells, constE_cells, two_cells, Ex.cellsL, k0, k1, k2, k3, k4, k5]
  · obtain ⟨k, hk, -, -⟩ := pick_eq l (p + 1 + 1 + 1) 8 (by omega) (by omega) hl
    by_cases k0 : k = 0
    · obtain ⟨e, p', he, a1, a2, a3⟩ := randomExpr2 l hl w (p + 1 + 1 + 1 + 1) (by omega) (by omega)
      refine ⟨e, p', ?_, by omega, by omega, by omega⟩
      rw [callA_eq rfl Try.func76 rfl rfl]
      simp [hc1, hx, ht, hk, hcon, g, colX_cells, constE_cells, two_cells, Ex.cellsL, k0, he]
    by_cases k1 : k = 1
    · refine ⟨.mk 10 0 Val.zero [.mk 11 0 Val.zero [colX c1]], p + 1 + 1 + 1 + 1, ?_, by omega, by omega, by simp [colX, Ex.size, Ex.sizeL]⟩
      rw [callA_eq rfl Try.func76 rfl rfl]
      simp [hc1, hx, ht, hk, hcon, g, colX_cells, constE_cells, two_cells, Ex.cellsL, k1, Ex.cells, Val.zero]
    by_cases k2 : k = 2
    · rcases ih with rfl | ih
      · refine ⟨two 7 (colX c1) (constE ⟨false, x⟩), p + 1 + 1 + 1 + 1, ?_, by omega, by omega, by simp [two, colX, constE, Ex.size, Ex.sizeL]⟩
        rw [callA_eq rfl Try.func76 rfl rfl]
        simp [hc1, hx, ht, hk, hcon, g, colX_cells, constE_cells, two_cells, Ex.cellsL, k2]
      · by_cases n0 : n = 0
        · refine ⟨two 7 (colX c1) (constE ⟨false, x⟩), p + 1 + 1 + 1 + 1, ?_, by omega, by omega, by simp [two, colX, constE, Ex.size, Ex.sizeL]⟩
          rw [callA_eq rfl Try.func76 rfl rfl]
          simp [hc1, hx, ht, hk, hcon, g, colX_cells, constE_cells, two_cells, Ex.cellsL, k2, n0]
        · obtain ⟨e, p', he, a1, a2, a3⟩ := ih (p + 1 + 1 + 1 + 1) (by omega) (by omega)
          refine ⟨two 8 e (two 6 (colX c1) (constE ⟨false, x⟩)), p', ?_, by omega, by omega, by simp [two, colX, constE, Ex.size, Ex.sizeL]; omega⟩
          rw [callA_eq rfl Try.func76 rfl rfl]
          simp [hc1, hx, ht, hk, hcon, g, colX_cells, constE_cells, two_cells, Ex.cellsL, k2, n0, wn, he]
    by_cases k3 : k = 3
    · refine ⟨two 7 (constE ⟨false, x⟩) (colX c1), p + 1 + 1 + 1 + 1, ?_, by omega, by omega, by simp [two, colX, constE, Ex.size, Ex.sizeL]⟩
      rw [callA_eq rfl Try.func76 rfl rfl]
      simp [hc1, hx, ht, hk, hcon, g, colX_cells, constE_cells, two_cells, Ex.cellsL, k3]
    by_cases k4 : k = 4
    · refine ⟨two 7 (constE ⟨false, x⟩) (colX c1), p + 1 + 1 + 1 + 1, ?_, by omega, by omega, by simp [two, colX, constE, Ex.size, Ex.sizeL]⟩
      rw [callA_eq rfl Try.func76 rfl rfl]
      simp [hc1, hx, ht, hk, hcon, g, colX_cells, constE_cells, two_cells, Ex.cellsL, k4]
    by_cases k5 : k = 5
    · refine ⟨two 7 (colX c1) (constE ⟨false, x⟩), p + 1 + 1 + 1 + 1, ?_, by omega, by omega, by simp [two, colX, constE, Ex.size, Ex.sizeL]⟩
      rw [callA_eq rfl Try.func76 rfl rfl]
      simp [hc1, hx, ht, hk, hcon, g, colX_cells, constE_cells, two_cells, Ex.cellsL, k5]
    refine ⟨two 6 (colX c1) (constE ⟨false, x⟩), p + 1 + 1 + 1 + 1, ?_, by omega, by omega, by simp [two, colX, constE, Ex.size, Ex.sizeL]⟩
    rw [callA_eq rfl Try.func76 rfl rfl]
    simp [hc1, hx, ht, hk, hcon, g, colX_cells, constE_cells, two_cells, Ex.cellsL, k0, k1, k2, k3, k4, k5]
theorem cond_eq (l : List UInt8) (hl : l.length ≤ 2000) (w : Int) : ∀ (n : Nat), n ≤ 3 → ∀ p : Int, 0 ≤ p → p + 10 * n < 500000000 → ∃ (e : Ex) (p' : Int), callA C0 76 [.own 0 0, .int w, .int n] [Rd l p] = some (.i (.agg e.cells), [Rd l p']) ∧ p ≤ p' ∧ p' ≤ p + costC n ∧ e.size ≤ costC n
  | 0, hn, p, h0, h1 => cond_step l hl w 0 0 hn p h0 h1 (.inl rfl)
  | n + 1, hn, p, h0, h1 => by
    refine cond_step l hl w (n + 1) (costC n) hn p h0 h1 (.inr fun q q0 q1 => ?_)
    rw [show ((n + 1 : Nat) : Int) - 1 = n by omega] at q1 ⊢
    exact cond_eq l hl w n (by omega) q q0 q1
end Go.Proofs.Ytgpclhjdfdojhaa

/- Extraction and binding, as data; drawing the arguments of Extract. No condition. -/
namespace Go.Av
theorem headOk_mk (w k c : Int) (v : Val) (ks : List Ex) : Ex.headOk w (.mk k c v ks) = if k = 1 then decide (0 ≤ c) && (decide (c < w) && (!v.null && v.n == 0)) else if k = 2 then decide (c = 0) && v.ok else decide (c = 0) && (!v.null && v.n == 0) := (rfl)
theorem wf_mk (w k c : Int) (v : Val) (ks : List Ex) : Ex.wf w (.mk k c v ks) = (decide ((ks.length : Int) = kidsK k) && (Ex.headOk w (.mk k c v ks) && ks.all (Ex.wf w))) := Ex.wf_eq w _
theorem extL_map {w : Int} {α : Type} (P : Ex → α) (Q : Ex → α) : ∀ (l : List Ex) (vs : List Val), (∀ x ∈ l, ∀ us, P (Ex.ext w us x).1 = Q x) → (Ex.extL w vs l).1.map P = l.map Q
  | [], vs, h => by simp [Ex.extL]
  | e :: es, vs, h => by
    simp only [Ex.extL, List.map_cons]
    rw [h e (by simp) vs, extL_map P Q es _ fun x hx => h x (by simp [hx])]
theorem ext_len (w : Int) : ∀ (l : List Ex) (vs : List Val), (Ex.extL w vs l).1.length = l.length
  | [], _ => by simp [Ex.extL]
  | a :: l, vs => by simp [Ex.extL, ext_len w l]
theorem htL_map (l m : List Ex) (h : l.map Ex.ht = m.map Ex.ht) : Ex.htL l = Ex.htL m := by
  induction l generalizing m with
  | nil => cases m with | nil => rfl | cons b m => simp at h
  | cons a l ih =>
    cases m with
    | nil => simp at h
    | cons b m => simp at h; simp only [Ex.htL, h.1, ih m h.2]
theorem ext_ht {w : Int} : ∀ (e : Ex), e.wf w = true → ∀ vs : List Val, (Ex.ext w vs e).1.ht = e.ht := by
  intro e
  induction e using Ex.ind with
  | h k c v ks ih =>
    intro h vs
    by_cases hk : k = 2
    · have hks := Ex.wf_constKids h hk
      simp only [Ex.kids] at hks
      subst hks
      rw [Ex.ext_const w vs (e := .mk k c v []) hk]; simp [Ex.ht]
    · rw [Ex.ext_not w vs (e := .mk k c v ks) hk]
      simp only [Ex.kind, Ex.col, Ex.kids, Ex.ht]
      exact htL_map _ _ (extL_map Ex.ht Ex.ht ks vs fun x hx us => ih x hx (Ex.wf_kids h hx) us)
theorem ext_mono (w : Int) (vs : List Val) (e : Ex) : vs.length ≤ (Ex.ext w vs e).2.length := by
  obtain ⟨l, h, _⟩ := Ex.ext_app w vs e; rw [h]; simp
theorem extL_mono (w : Int) (vs : List Val) (l : List Ex) : vs.length ≤ (Ex.extL w vs l).2.length := by
  obtain ⟨r, h, _⟩ := Ex.extL_app w vs l; rw [h]; simp
theorem extL_wf {w m : Int} : ∀ (l : List Ex) (vs : List Val), (∀ x ∈ l, ∀ us : List Val, w + (Ex.ext w us x).2.length ≤ m → (Ex.ext w us x).1.wf m = true) → w + (Ex.extL w vs l).2.length ≤ m → ∀ x ∈ (Ex.extL w vs l).1, x.wf m = true
  | [], vs, h, hm, x, hx => by simp [Ex.extL] at hx
  | e :: es, vs, h, hm, x, hx => by
    simp only [Ex.extL] at hx hm
    have := extL_mono w (Ex.ext w vs e).2 es
    rcases List.mem_cons.1 hx with rfl | hx
    · exact h e (by simp) vs (by omega)
    · exact extL_wf es _ (fun y hy => h y (by simp [hy])) hm x hx
theorem ext_wf {w m : Int} (h0 : 0 ≤ w) : ∀ (e : Ex), e.wf w = true → ∀ vs : List Val, w + (Ex.ext w vs e).2.length ≤ m → (Ex.ext w vs e).1.wf m = true := by
  intro e
  induction e using Ex.ind with
  | h k c v ks ih =>
    intro h vs hm
    by_cases hk : k = 2
    · rw [Ex.ext_const w vs (e := .mk k c v ks) hk] at hm ⊢
      simp only [List.length_append, List.length_cons, List.length_nil] at hm
      rw [wf_mk, headOk_mk]
      simp [kidsK, Val.zero]
      omega
    · have hv := Ex.wf_val h hk
      rw [Ex.ext_not w vs (e := .mk k c v ks) hk] at hm ⊢
      have hkl := fun x hx => ih x hx (Ex.wf_kids h hx)
      simp only [Ex.kind, Ex.col, Ex.kids, Ex.val] at hm ⊢ hv
      subst hv
      have hml := extL_mono w vs ks
      rw [wf_mk, headOk_mk] at h ⊢
      rw [ext_len]
      simp only [Bool.and_eq_true, decide_eq_true_eq, List.all_eq_true, if_neg hk] at h ⊢
      refine ⟨h.1, ?_, extL_wf ks vs hkl hm⟩
      have h2 := h.2.1
      by_cases h1 : k = 1
      · simp only [if_pos h1, Bool.and_eq_true, decide_eq_true_eq] at h2 ⊢; exact ⟨h2.1, by omega, h2.2.2⟩
      · simp only [if_neg h1] at h2 ⊢; exact h2
theorem extL_vals {w : Int} : ∀ (l : List Ex) (vs : List Val), (∀ x ∈ l, ∀ us : List Val, us.all Val.ok = true → (Ex.ext w us x).2.all Val.ok = true) → vs.all Val.ok = true → (Ex.extL w vs l).2.all Val.ok = true
  | [], vs, h, hv => by simpa [Ex.extL] using hv
  | e :: es, vs, h, hv => by
    simp only [Ex.extL]
    exact extL_vals es _ (fun y hy => h y (by simp [hy])) (h e (by simp) vs hv)
theorem ext_vals {w : Int} : ∀ (e : Ex), e.wf w = true → ∀ vs : List Val, vs.all Val.ok = true → (Ex.ext w vs e).2.all Val.ok = true := by
  intro e
  induction e using Ex.ind with
  | h k c v ks ih =>
    intro h vs hv
    by_cases hk : k = 2
    · rw [Ex.ext_const w vs (e := .mk k c v ks) hk]
      rw [wf_mk, headOk_mk] at h
      simp [hk] at h
      simp only [List.all_append, hv, Ex.val, List.all_cons, List.all_nil, h.2.1.2, Bool.and_self]
    · rw [Ex.ext_not w vs (e := .mk k c v ks) hk]
      exact extL_vals ks vs (fun x hx => ih x hx (Ex.wf_kids h hx)) hv
theorem extL_sub {w : Int} {f : Ex → Ex} {us : List Val} : ∀ (l : List Ex) (vs : List Val), (∀ x ∈ l, ∀ vs : List Val, (∃ r, us = (Ex.ext w vs x).2 ++ r) → f (Ex.ext w vs x).1 = x) → (∃ r, us = (Ex.extL w vs l).2 ++ r) → (Ex.extL w vs l).1.map f = l
  | [], vs, h, hu => by simp [Ex.extL]
  | e :: es, vs, h, ⟨r, hu⟩ => by
    simp only [Ex.extL] at hu ⊢
    obtain ⟨q, hq, _⟩ := Ex.extL_app w (Ex.ext w vs e).2 es
    rw [List.map_cons, h e (by simp) vs ⟨q ++ r, by rw [hu, hq, List.append_assoc]⟩, extL_sub es _ (fun y hy => h y (by simp [hy])) ⟨r, hu⟩]
/-- Binding undoes extraction. -/
theorem ext_sub {w : Nat} {us : List Val} : ∀ (e : Ex), e.wf w = true → ∀ vs : List Val, (∃ r, us = (Ex.ext w vs e).2 ++ r) → (Ex.ext w vs e).1.sub (bindL w us) = e := by
  intro e
  induction e using Ex.ind with
  | h k c v ks ih =>
    intro h vs hu
    by_cases hk : k = 2
    · have hks := Ex.wf_constKids h hk
      rw [wf_mk, headOk_mk] at h
      simp [hk] at h
      obtain ⟨r, hu⟩ := hu
      rw [Ex.ext_const w vs (e := .mk k c v ks) hk] at hu ⊢
      simp only [Ex.val] at hu ⊢
      have hg : us[(w + vs.length) - w]? = some v := by rw [hu]; simp
      have hb := bindL_hi (w := w) (i := w + vs.length) (by omega) hg
      rw [Ex.sub_col _ (e := .mk 1 _ Val.zero []) rfl (b := constE v) (by rw [← hb]; congr 1)]
      simp only [Ex.kids] at hks
      simp [constE, hk, hks, h.2.1.1]
    · have hv := Ex.wf_val h hk
      rw [Ex.ext_not w vs (e := .mk k c v ks) hk] at hu ⊢
      simp only [Ex.kind, Ex.col, Ex.kids, Ex.val] at hu ⊢ hv
      subst hv
      by_cases h1 : k = 1
      · obtain ⟨c0, c1, ck⟩ := Ex.wf_col h h1
        simp only [Ex.kids, Ex.col] at ck c0 c1
        subst ck
        have hb := bindL_lo (w := w) (vs := us) (i := c.toNat) (by omega)
        rw [Ex.sub_col _ (e := .mk k c Val.zero (Ex.extL w vs []).1) h1 hb]
        simp [colE, h1]; omega
      · rw [Ex.sub_not _ (e := .mk k c Val.zero (Ex.extL w vs ks).1) h1]
        simp only [Ex.kind, Ex.col, Ex.val, Ex.kids]
        rw [extL_sub ks vs (fun x hx us' hus => ih x hx (Ex.wf_kids h hx) us' hus) hu]
theorem ext_bind {e x : Ex} {w : Nat} {us : List Val} (h : e.extO w = some (x, us)) : x.bindO w us = some e := by
  unfold Ex.extO at h
  split at h
  · rename_i hc
    injection h with h
    simp only [Bool.and_eq_true, decide_eq_true_eq] at hc
    obtain ⟨ho, hl⟩ := hc
    have ho' := ho
    simp only [Ex.ok, Ex.vB_eq, Bool.and_eq_true, decide_eq_true_eq] at ho'
    obtain ⟨o1, o2, o3⟩ := ho'
    have hw : 1 ≤ w := by simp [okWidth] at o1; omega
    have e1 : (Ex.ext w [] e).1 = x := by rw [h]
    have e2 : (Ex.ext w [] e).2 = us := by rw [h]
    have k1 := ext_vals e o2 [] (by simp)
    have k2 := ext_wf (m := w + (Ex.ext w [] e).2.length) (by omega) e o2 [] (by omega)
    have k3 := ext_ht e o2 []
    have k4 := ext_sub (us := us) e o2 [] ⟨[], by rw [e2]; simp⟩
    rw [e1, e2] at k2
    rw [e1] at k3 k4
    rw [e2] at k1 hl
    have ko : x.ok ((w : Int) + us.length) = true := by
      simp only [Ex.ok, Ex.vB_eq, Bool.and_eq_true, decide_eq_true_eq, k3, k2, o3, and_true, true_and]
      simp [okWidth]; omega
    simp only [Ex.bindO, k1, ko, Int.toNat_natCast, k4]
    simp; omega
  · cases h
end Go.Av
namespace Go.Proofs.Ytgpclhjdfdojhaa
open Go Go.Av
set_option maxRecDepth 4000
set_option maxHeartbeats 2000000
def RowsX (vs : List Val) (i : Nat) : AS :=
  { env := [(0, .i (.isl (valsL vs))), (1, .i (.isl (valsL vs))), (4, .bool false), (5, .int i), (10, .bool false), (14, jk i (.bool true)), (25, jk i (.bool false))], st := [] }
theorem equalRows_refl {vs : List Val} (hl : vs.length < 1000000000) : callA C0 18 [.i (.isl (valsL vs)), .i (.isl (valsL vs))] [] = some (.bool true, []) := by
  rw [callA_eq rfl Try.func18 rfl rfl]
  simp
  rw [loop_to (RowsX vs) vs.length (by simp [RowsX])]
  · rw [execA_loop]
    simp [RowsX]
  · intro i hi
    have h3 := List.getElem?_eq_getElem hi
    have r2 := valsL_nth h3
    have w2 : IntKind.i64.wrap ((i : Int) + 1) = i + 1 := wrap64 (by omega) (by omega)
    simp [RowsX, hi, r2, w2]
theorem randomCondition_eq (l : List UInt8) (hl : l.length ≤ 2000) (w p : Int) (h0 : 0 ≤ p) (h1 : p < 400000000) : ∃ (e : Ex) (p' : Int), callA C0 51 [.own 0 0, .int w] [Rd l p] = some (.i (.agg e.cells), [Rd l p']) ∧ p ≤ p' ∧ p' ≤ p + 120 ∧ e.size ≤ 120 := by
  obtain ⟨e, p', he, a1, a2, a3⟩ := cond_eq l hl w 2 (by omega) p h0 (by omega)
  refine ⟨e, p', ?_, a1, a2, a3⟩
  rw [callA_eq rfl Try.func51 rfl rfl]
  rw [show ((2 : Nat) : Int) = 2 from rfl, Ex.cells_eq] at he
  rw [Ex.cells_eq]
  simp [he]
theorem drawExtract_eq (code : List UInt8) : ∃ (e : Ex) (w : Int), callA C0 15 [.i (.isl (bytesI code))] [] = some (.tup [.i (.agg e.cells), .int w], []) ∧ e.size ≤ 120 ∧ 1 ≤ w ∧ w ≤ 3 := by
  obtain ⟨c, hc, hr⟩ := newReader_eq code
  obtain ⟨k, hk, hk1, -⟩ := pick_eq c 0 3 (by omega) (by omega) hc
  obtain ⟨k0, k1⟩ := hk1 (by omega)
  have w1 : IntKind.i64.wrap (1 + k) = 1 + k := wrap64 (by omega) (by omega)
  obtain ⟨t, ht, -, -⟩ := pick_eq c (0 + 1) 2 (by omega) (by omega) hc
  simp at hk ht
  by_cases hg : t = 0
  · obtain ⟨e, p2, he, a1, a2, a3⟩ := randomCondition_eq c hc (1 + k) 2 (by omega) (by omega)
    refine ⟨e, 1 + k, ?_, a3, by omega, by omega⟩
    rw [callA_eq rfl Try.func15 rfl rfl]
    rw [Ex.cells_eq] at he ⊢
    simp [hr, hk, w1, ht, hg, he]
  · obtain ⟨e, p2, he, a1, a2, a3⟩ := anyExpr_eq c hc (1 + k) 2 (by omega) (by omega)
    refine ⟨e, 1 + k, ?_, by omega, by omega, by omega⟩
    rw [callA_eq rfl Try.func15 rfl rfl]
    rw [Ex.cells_eq] at he ⊢
    simp [hr, hk, w1, ht, hg, he]
end Go.Proofs.Ytgpclhjdfdojhaa

/- The context's ready contracts are right; the first law's contract. No condition. -/
namespace Go.Proofs.Ytgpclhjdfdojhaa
open Go Go.Av
theorem prim_only {g : FuncId} {q : List AV → StL → Option (AV × StL)} (h : C0.prim g = some q) : g = 45 ∧ q = copyE := by
  have h : primF g = some q := h
  unfold primF at h
  split at h
  · injection h with h; exact ⟨rfl, h.symm⟩
  · cases h
theorem prim0 : CallOk C0 (primCall C0) := by
  constructor
  · intro g args st p h
    unfold primCall at h
    cases hq : C0.prim g with
    | none => rw [hq] at h; cases h
    | some q =>
      obtain ⟨rfl, rfl⟩ := prim_only hq
      exact ⟨Try.f45, Try.func45, by decide, rfl⟩
  · intro g args stl r stl' h w m φ vs hi hr h0
    unfold primCall at h
    cases hq : C0.prim g with
    | none => rw [hq] at h; cases h
    | some q =>
      obtain ⟨rfl, rfl⟩ := prim_only hq
      rw [hq] at h
      obtain ⟨e, he, rfl, rfl, hres⟩ := copyE_some h
      injection hres with h1 h2
      subst h1; subst h2
      exact copied_calls he hi hr h0
theorem sound0 : SoundOk C0 := sound_ok (C := C0) ft nt (fun t ht => by
  have h : eqTy t = true := ht
  unfold eqTy at h
  split at h
  · exact e23
  · exact e24
  · exact e42
  · cases h) mo prim0
theorem law_cols_calls (a : Option Addr) (len cap : Nat) (zs : List Int) (w : World)
    (h : (a = none ∧ len = 0 ∧ cap = 0 ∧ zs = []) ∨ ∃ x, a = some x ∧ len ≤ cap ∧ cap ≤ maxLen ∧ zs.length = cap ∧ (∀ i, i < zs.length → w.cell? (x.add i) = some (.int .u8 (zs.getD i 0))) ∧ ∀ n ∈ zs, (Lit.int .u8 n).wf = true) :
    Calls Try.prog 3 #[.slice a len cap] w fun e w' => e = .returned (.bool true) ∧ RowKit.Below w.heap.size w w' := by
  obtain ⟨code, hc⟩ := bytes_rep h
  exact calls_true sound0 (.cons (.i hc) .nil) (law_cols code)
end Go.Proofs.Ytgpclhjdfdojhaa

/- The law on substitution and evaluation: its contract on the model. No condition. -/
namespace Go.Proofs.Ytgpclhjdfdojhaa
open Go Go.Av
/-- What is known of a slice of bytes that came in. -/
def InBytes (w : World) (a : Option Addr) (len cap : Nat) (zs : List Int) : Prop :=
  (a = none ∧ len = 0 ∧ cap = 0 ∧ zs = []) ∨ ∃ x, a = some x ∧ len ≤ cap ∧ cap ≤ maxLen ∧ zs.length = cap ∧ (∀ i, i < zs.length → w.cell? (x.add i) = some (.int .u8 (zs.getD i 0))) ∧ ∀ n ∈ zs, (Lit.int .u8 n).wf = true
theorem law_sub_calls (a : Option Addr) (len cap : Nat) (zs : List Int) (a' : Option Addr) (len' cap' : Nat) (zs' : List Int) (w : World) (h : InBytes w a len cap zs) (h' : InBytes w a' len' cap' zs') :
    Calls Try.prog 9 #[.slice a len cap, .slice a' len' cap'] w fun e w' => e = .returned (.bool true) ∧ RowKit.Below w.heap.size w w' := by
  obtain ⟨code, hc⟩ := bytes_rep h
  obtain ⟨more, hm⟩ := bytes_rep h'
  exact calls_true sound0 (.cons (.i hc) (.cons (.i hm) .nil)) (law_sub code more)
theorem law_bind_calls (a : Option Addr) (len cap : Nat) (zs : List Int) (a' : Option Addr) (len' cap' : Nat) (zs' : List Int) (w : World) (h : InBytes w a len cap zs) (h' : InBytes w a' len' cap' zs') :
    Calls Try.prog 8 #[.slice a len cap, .slice a' len' cap'] w fun e w' => e = .returned (.bool true) ∧ RowKit.Below w.heap.size w w' := by
  obtain ⟨code, hc⟩ := bytes_rep h
  obtain ⟨more, hm⟩ := bytes_rep h'
  exact calls_true sound0 (.cons (.i hc) (.cons (.i hm) .nil)) (law_bind code more)
end Go.Proofs.Ytgpclhjdfdojhaa

/- The law on extraction and binding. No condition. -/
namespace Go.Proofs.Ytgpclhjdfdojhaa
open Go Go.Av
set_option maxRecDepth 4000
set_option maxHeartbeats 2000000
theorem law_extract (code : List UInt8) : callA C0 4 [.i (.isl (bytesI code))] [] = some (.bool true, []) := by
  by_cases hc : (1048576 : Int) < code.length
  · rw [callA_eq rfl Try.func4 rfl rfl]
    simp [bytesI_length, hc]
  obtain ⟨e, w, hd, hs, hw0, hw1⟩ := drawExtract_eq code
  have h1 := iext_eq (e := e) (w := w) (by omega) (by omega)
  have h2 := sextr_eq (e := e) (w := w) (by omega) (by omega)
  rw [callA_eq rfl Try.func4 rfl rfl]
  cases ho : e.extO w with
  | none =>
    rw [ho] at h1 h2
    have h3 := equalExprs_eq Ex.zero (by simp [Ex.zero, Ex.thin, Ex.thinL]) Ex.zero
    have h4 := equalRows_refl (vs := []) (by simp)
    rw [Ex.eqb_refl] at h3
    simp only [resX] at h1 h2
    simp [valsL] at h4
    simp [bytesI_length, hc, hd, h1, h2, h3, h4]
  | some xu =>
    obtain ⟨x, us⟩ := xu
    obtain ⟨n, rfl⟩ : ∃ n : Nat, w = n := ⟨w.toNat, by omega⟩
    have hb := ext_bind ho
    rw [ho] at h1 h2
    simp only [resX] at h1 h2
    have hx : x.ok ((n : Int) + us.length) = true ∧ (n : Int) + us.length ≤ 6 := by
      unfold Ex.bindO at hb
      split at hb
      · rename_i h; simp at h; have h5 := h.2.2; refine ⟨h5, ?_⟩; simp [Ex.ok, okWidth] at h5; omega
      · cases hb
    have h3 := equalExprs_eq x (Ex.thin_of_size _ (by have := Ex.ok_size hx.1; omega)) x
    have h4 := equalRows_refl (vs := us) (by omega)
    have h5 := ibind_eq (e := x) (w := n) (vs := us) (by omega) (by omega) (by omega)
    have h6 := equalExprs_eq e (Ex.thin_of_size _ (by omega)) e
    rw [hb, resE_eq] at h5
    simp [getE] at h5
    rw [Ex.eqb_refl] at h3 h6
    simp [bytesI_length, hc, hd, h1, h2, h3, h4, h5, h6]
theorem law_extract_calls (a : Option Addr) (len cap : Nat) (zs : List Int) (w : World) (h : InBytes w a len cap zs) :
    Calls Try.prog 4 #[.slice a len cap] w fun e w' => e = .returned (.bool true) ∧ RowKit.Below w.heap.size w w' := by
  obtain ⟨code, hc⟩ := bytes_rep h
  exact calls_true sound0 (.cons (.i hc) .nil) (law_extract code)
end Go.Proofs.Ytgpclhjdfdojhaa

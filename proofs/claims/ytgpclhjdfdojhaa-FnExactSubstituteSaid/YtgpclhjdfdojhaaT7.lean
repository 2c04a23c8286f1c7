/- Part 7 of what the proof rests on: the executor and what it is worth, and the program's functions as it runs them. No condition. -/
import Derived.Test.YtgpclhjdfdojhaaT6
set_option linter.unusedVariables false
set_option linter.unusedSimpArgs false
/- Extract, both ways. No condition. -/
namespace Go.Av
def Ex.extO (e : Ex) (w : Int) : Option (Ex × List Val) := if e.ok w && decide (w + (Ex.ext w [] e).2.length ≤ 6) then some (Ex.ext w [] e) else none
/-- What a valid expression has in its value's place. -/
theorem Ex.wf_val {m : Int} {e : Ex} (h : e.wf m = true) (hk : e.kind ≠ 2) : e.val = Val.zero := by
  cases e with
  | mk k c v ks =>
    rw [Ex.wf_eq] at h
    simp [Ex.headOk, Ex.kind, Ex.val] at h hk ⊢
    by_cases h1 : k = 1
    · obtain ⟨b, n⟩ := v
      simp [h1, Val.zero] at h ⊢
      simp [h]
    · simp [h1, hk] at h
      obtain ⟨b, n⟩ := v
      simp [Val.zero] at h ⊢
      simp [h]
theorem Ex.wf_constKids {m : Int} {e : Ex} (h : e.wf m = true) (hk : e.kind = 2) : e.kids = [] := by
  rw [Ex.wf_eq] at h
  simp [hk, kidsK] at h
  exact h.1
end Go.Av
namespace Go.Proofs.Ytgpclhjdfdojhaa
open Go Go.Av
set_option maxRecDepth 4000
set_option maxHeartbeats 2000000
theorem repX_leaf {e x : Ex} {w : Int} {vs vs' : List Val} (hk : e.kids = []) (h : callA C0 52 [.i (.iref e.cells), .own 0 0, .own (wi vs.length) 0] (vst w vs) = some (.i (.agg x.cells), vout w vs vs')) :
    callA C0 43 [.i (.iref e.cells), cap vs.length] (vst w vs) = some (.i (.agg x.cells), vout w vs vs') := by
  rw [callA_eq rfl Try.func43 rfl rfl]
  rw [Ex.cells_eq e] at h ⊢
  rw [Ex.cells_eq x] at h ⊢
  by_cases h0 : vs.length = 0
  · have : vs = [] := List.length_eq_zero_iff.1 h0
    subst this
    by_cases h1 : vs'.length = 0
    · simp [hk, Ex.cellsL, vst, cap, wi, vout, h1] at h ⊢
      simp [h]
    · simp [hk, Ex.cellsL, vst, cap, wi, vout, h1] at h ⊢
      simp [h]
  · rw [cap_pos h0, vst_pos h0]
    rw [vst_pos h0] at h
    by_cases h1 : vs'.length = vs.length
    · simp [hk, Ex.cellsL, preB, wi, h0, vout, vst_pos h0, h1] at h ⊢
      simp [h]
    · simp [hk, Ex.cellsL, preB, wi, h0, vout, h1] at h ⊢
      simp [h]
theorem replaced_ext {m w : Int} (hw0 : -1000 < w) (hw1 : w < 1000) : ∀ (e : Ex), e.wf m = true → e.size < 10000 → ∀ vs : List Val, vs.length + e.size < 100000 →
    callA C0 43 [.i (.iref e.cells), cap vs.length] (vst w vs) = some (.i (.agg (Ex.ext w vs e).1.cells), vout w vs (Ex.ext w vs e).2) := by
  intro e
  induction e using Ex.ind with
  | h k c v ks ih =>
    intro hw hs vs hl
    have hsz := hs
    rw [Ex.size_eq] at hsz
    by_cases hk : k = 2
    · exact repX_leaf (Ex.wf_constKids hw hk) (x1_const (e := .mk k c v ks) hk hw0 hw1 (by omega))
    · have hv := Ex.wf_val hw hk
      rw [Ex.ext_not w vs (e := .mk k c v ks) hk]
      cases ks with
      | nil =>
        have hn := x1_not (e := .mk k c v []) (w := w) (vs := vs) hk (by omega)
        have := repX_leaf (e := .mk k c v []) (x := .mk k c v []) (w := w) (vs := vs) (vs' := vs) rfl (by rw [hn]; simp [vout])
        simp only [Ex.val] at hv
        subst hv
        simpa [Ex.extL, Ex.kids, Ex.kind, Ex.col] using this
      | cons a ks =>
        have := repX_step (e := .mk k c v (a :: ks)) (w := w) (vs := vs) (by simp [Ex.kids]) hs hl (fun x hx us hu => ih x hx (Ex.wf_kids hw hx) (by have := Ex.sizeL_mem hx; simp only [Ex.kids] at this hsz; omega) us hu)
        rw [hv] at this
        exact this
def resX : Option (Ex × List Val) → AV
  | none => .tup [.i (.agg Ex.zero.cells), .i (.isl []), .bool false]
  | some (x, vs) => .tup [.i (.agg x.cells), .i (.isl (valsL vs)), .bool true]
theorem iext_eq {e : Ex} {w : Int} (hw0 : -1000 < w) (hw1 : w < 1000) : callA C0 16 [.i (.agg e.cells), .int w] [] = some (resX (e.extO w), []) := by
  rw [callA_eq rfl Try.func16 rfl rfl]
  have hok := ok_eq w e
  cases hk : e.ok w with
  | false =>
    rw [hk, Ex.cells_eq] at hok
    rw [Ex.cells_eq]
    simp [hok, Ex.extO, hk, resX, zero_cells]
  | true =>
    have hwf : e.wf w = true := by simp [Ex.ok, Ex.vB_eq] at hk; exact hk.2.1
    have hr := replaced_ext (m := w) hw0 hw1 e hwf (by have := Ex.ok_size hk; omega) [] (by have := Ex.ok_size hk; simp; omega)
    obtain ⟨l, hl1, hl2⟩ := Ex.ext_app w [] e
    rw [hk, Ex.cells_eq] at hok
    rw [Ex.cells_eq e] at hr ⊢
    have hls : (Ex.ext w [] e).2.length < 10000 := by have := Ex.ok_size hk; rw [hl1]; simp; omega
    have hxo : e.extO w = if decide (w + (Ex.ext w [] e).2.length ≤ 6) then some (Ex.ext w [] e) else none := by simp [Ex.extO, hk]
    rw [hxo]
    clear hl1
    generalize Ex.ext w [] e = x at *
    obtain ⟨x, us⟩ := x
    simp at *
    have w1 : IntKind.i64.wrap (w + us.length) = w + us.length := wrap64 (by omega) (by omega)
    by_cases h0 : us = []
    · subst h0
      simp [vst, vout, cap_0] at hr w1
      by_cases hg : w ≤ 6
      · simp [hok, hr, w1, hg, show ¬ 6 < w by omega, resX, valsL]
      · simp [hok, hr, w1, hg, show 6 < w by omega, resX, zero_cells]
    · simp [vst, vout, cap_0, h0] at hr
      by_cases hg : w + us.length ≤ 6
      · simp [hok, hr, w1, hg, show ¬ 6 < w + us.length by omega, List.take_of_length_le (Nat.le_refl us.length), resX]
      · simp [hok, hr, w1, hg, show 6 < w + us.length by omega, resX, zero_cells]
theorem sextr_eq {e : Ex} {w : Int} (hw0 : -1000 < w) (hw1 : w < 1000) : callA C0 17 [.i (.agg e.cells), .int w] [] = some (resX (e.extO w), []) := by
  rw [callA_eq rfl Try.func17 rfl rfl]
  have hok := sok_eq w e
  cases hk : e.ok w with
  | false =>
    rw [hk, Ex.cells_eq] at hok
    rw [Ex.cells_eq]
    simp [hok, Ex.extO, hk, resX, zero_cells]
  | true =>
    have hr := sext_eq hw0 hw1 e [] (by have := Ex.ok_size hk; omega) (by have := Ex.ok_size hk; simp; omega)
    obtain ⟨l, hl1, hl2⟩ := Ex.ext_app w [] e
    rw [hk, Ex.cells_eq] at hok
    rw [Ex.cells_eq e] at hr ⊢
    have hls : (Ex.ext w [] e).2.length < 10000 := by have := Ex.ok_size hk; rw [hl1]; simp; omega
    have hxo : e.extO w = if decide (w + (Ex.ext w [] e).2.length ≤ 6) then some (Ex.ext w [] e) else none := by simp [Ex.extO, hk]
    rw [hxo]
    clear hl1
    generalize Ex.ext w [] e = x at *
    obtain ⟨x, us⟩ := x
    simp at *
    have w1 : IntKind.i64.wrap (w + us.length) = w + us.length := wrap64 (by omega) (by omega)
    by_cases h0 : us = []
    · subst h0
      simp [xv, xst, valsL] at hr w1
      by_cases hg : w ≤ 6
      · simp [hok, hr, w1, hg, show ¬ 6 < w by omega, resX, valsL]
      · simp [hok, hr, w1, hg, show 6 < w by omega, resX, zero_cells]
    · simp [xv, xst, h0, valsL] at hr
      have hT : us.take us.length = us := List.take_of_length_le (by simp)
      by_cases hg : w + us.length ≤ 6
      · simp [hok, hr, w1, hg, show ¬ 6 < w + us.length by omega, resX, hT]
      · simp [hok, hr, w1, hg, show 6 < w + us.length by omega, resX, zero_cells]
end Go.Proofs.Ytgpclhjdfdojhaa

/- Extract where slices are kept apart. No condition. -/
namespace Go.Av
theorem extL_take (w : Int) : ∀ (l : List Ex) (vs : List Val) (i : Nat), (Ex.extL w vs (l.take i)).1 = (Ex.extL w vs l).1.take i
  | [], vs, i => by simp [Ex.extL]
  | a :: l, vs, 0 => by simp [Ex.extL]
  | a :: l, vs, i + 1 => by simp [Ex.extL, extL_take w l]
end Go.Av
namespace Go.Proofs.Ytgpclhjdfdojhaa
open Go Go.Av
set_option maxRecDepth 4000
set_option maxHeartbeats 4000000
def RX1T (e : Ex) (o q : Nat) (pre : StL) (ks : List Ex) (i : Nat) : AS :=
  { env := [(0, .i (.iref [.int e.kind, .int e.col, .bool e.val.null, .int e.val.n, .isl (Ex.cellsL e.kids)])), (1, .fn (.func 52) [.own 0 0, .own q 0]), (4, .own o 0), (5, .own (o + 1) 0), (6, jk i (.int (i - 1))), (12, .bool ((e.kids.length : Int) == 0)), (39, .int e.kids.length), (40, .int i), (41, jk i (.bool true))],
    st := pre ++ [some (.box [.int 0, .int 0, .bool false, .int 0, .nils]), some (.box [.int e.kind, .int e.col, .bool e.val.null, .int e.val.n, .osl (o + 2) 5 0 e.kids.length]), some (halfT ks e.kids.length i)] }
def RXTs (e : Ex) (w : Int) (vs : List Val) (i : Nat) (cur : List Val) (ks : List Ex) : AS :=
  if cur.length = vs.length then (if vs.length = 0 then RX1T e 2 1 (preA w) ks i else RX1T e 3 2 (preB w vs) ks i)
  else (if vs.length = 0 then RX1T e 3 1 (preC w cur) ks i else RX1T e 4 2 (preD w cur) ks i)
theorem repXT_step {e : Ex} {w : Int} {vs : List Val} (hk : e.kids ≠ []) (hs : e.size < 10000) (hl : vs.length + e.size < 100000)
    (ih : ∀ a ∈ e.kids, ∀ vs : List Val, vs.length + a.size < 100000 → callA CT 43 [.i (.iref a.cells), cap vs.length] (vst w vs) = some (rX (Ex.ext w vs a).1 (vout w vs (Ex.ext w vs a).2))) :
    callA CT 43 [.i (.iref e.cells), cap vs.length] (vst w vs) = some (rX (Ex.mk e.kind e.col e.val (Ex.extL w vs e.kids).1) (vout w vs (Ex.extL w vs e.kids).2)) := by
  rw [callA_eq rfl Try.func43 rfl rfl, Ex.cells_eq]
  have hkl := Ex.sizeL_length e.kids
  have hes := Ex.size_eq e
  have hb : 56 * (e.kids.length : Int) ≤ 281474976710656 := by omega
  have hlk := extL_len w e.kids vs
  rw [rX_pos (by rw [kids_mk]; intro h; rw [h] at hlk; simp at hlk; exact hk (List.length_eq_zero_iff.1 hlk.symm))]
  have hTk2 : e.kids.take e.kids.length = e.kids := List.take_of_length_le (by omega)
  have hround : ∀ i, i < e.kids.length → ∃ (a x : Ex) (cur cur' : List Val), (Ex.extL w vs (e.kids.take i)).2 = cur ∧ (Ex.extL w vs (e.kids.take (i + 1))).2 = cur' ∧ (Ex.extL w vs e.kids).1[i]? = some x ∧ nthE (Ex.cellsL e.kids) i = some a.cells ∧ cur.length < 100000 ∧
      callA CT 43 [.i (.iref a.cells), cap cur.length] (vst w cur) = some (rX x (vout w cur cur')) ∧ (cur.length = vs.length → cur = vs) ∧ (cur'.length = cur.length → cur' = cur) ∧ vs.length ≤ cur.length ∧ cur.length ≤ cur'.length := by
    intro i hi
    have h3 := List.getElem?_eq_getElem hi
    have hm := List.mem_of_getElem? h3
    obtain ⟨r, hr1, hr2⟩ := Ex.extL_app w vs (e.kids.take i)
    obtain ⟨r', hr3, _⟩ := Ex.ext_app w (Ex.extL w vs (e.kids.take i)).2 e.kids[i]
    have hsz := sizeL_take_add h3
    refine ⟨e.kids[i], (Ex.ext w (Ex.extL w vs (e.kids.take i)).2 e.kids[i]).1, (Ex.extL w vs (e.kids.take i)).2, (Ex.ext w (Ex.extL w vs (e.kids.take i)).2 e.kids[i]).2, rfl, ?_, ?_, Ex.cellsL_nth h3, ?_, ih _ hm _ ?_, extL_same, ext_same, ?_, ?_⟩
    · rw [take_snoc h3, Ex.extL_snoc]
    · have e1 := extL_take w e.kids vs (i + 1)
      rw [take_snoc h3, Ex.extL_snoc] at e1
      have e2 := extL_len w (e.kids.take i) vs
      have e3 : ((Ex.extL w vs e.kids).1.take (i + 1))[i]? = some (Ex.ext w (Ex.extL w vs (e.kids.take i)).2 e.kids[i]).1 := by
        rw [← e1]
        have : i = (Ex.extL w vs (e.kids.take i)).1.length := by rw [e2]; simp; omega
        rw [List.getElem?_append_right (by omega), show i - (Ex.extL w vs (e.kids.take i)).1.length = 0 by omega]; rfl
      rwa [List.getElem?_take, if_pos (by omega)] at e3
    · rw [hr1]; simp; omega
    · rw [hr1]; simp; omega
    · rw [hr1]; simp
    · rw [hr3]; simp
  generalize hLL : (Ex.extL w vs e.kids).1 = LL at *
  by_cases h0 : vs.length = 0
  · have : vs = [] := List.length_eq_zero_iff.1 h0
    subst this
    rw [vst_nil, List.length_nil, cap_0]
    simp [preA, hk, hb]
    rw [loop_to (fun i => RXTs e w [] i (Ex.extL w [] (e.kids.take i)).2 LL) e.kids.length (by simp [RXTs, RX1T, preA, Ex.extL, halfT, zrow])]
    · simp only [hTk2]
      rw [execA_loop]
      by_cases hc : (Ex.extL w [] e.kids).2.length = 0
      · have hs2 : (Ex.extL w [] e.kids).2 = [] := List.length_eq_zero_iff.1 hc
        simp [RXTs, RX1T, hs2, preA, vout, vst, halfT_end hlk, tX_mk, kids_mk, hlk]
      · simp [RXTs, RX1T, hc, preC, vout, halfT_end hlk, tX_mk, kids_mk, hlk]
    · intro i hi
      obtain ⟨a, x, cur, cur', e1, e2, hLx, r2, hl2, hc, s1, s2, g1, g2⟩ := hround i hi
      simp only [e1, e2]
      clear e1 e2 hround
      have w2 : IntKind.i64.wrap ((i : Int) + 1) = i + 1 := wrap64 (by omega) (by omega)
      rw [Ex.cells_eq] at r2 hc
      have hput := halfT_put (n := e.kids.length) hLx hi
      by_cases hcv : cur.length = 0
      · have : cur = [] := List.length_eq_zero_iff.1 hcv
        subst this
        by_cases hch : cur'.length = 0
        · have : cur' = [] := List.length_eq_zero_iff.1 hch
          subst this
          by_cases hx : x.kids = []
          · rw [rX_nil hx] at hc
            simp only [Ex.cells_eq, hx, Ex.cellsL] at hput hc
            simp [vst, vout, cap_0] at hc
            simp [RXTs, RX1T, preA, hi, r2, hc, w2, hput]
          · rw [rX_pos hx] at hc
            simp only [Ex.cells_eq] at hput
            simp [vst, vout, cap_0, tX] at hc
            simp [RXTs, RX1T, preA, hi, r2, hc, w2, hput]
        · by_cases hx : x.kids = []
          · rw [rX_nil hx] at hc
            simp only [Ex.cells_eq, hx, Ex.cellsL] at hput hc
            simp [vst, vout, cap_0, hch] at hc
            simp [RXTs, RX1T, preA, preC, hch, hi, r2, hc, w2, hput]
          · rw [rX_pos hx] at hc
            simp only [Ex.cells_eq] at hput
            simp [vst, vout, cap_0, hch, tX] at hc
            simp [RXTs, RX1T, preA, preC, hch, hi, r2, hc, w2, hput]
      · have hcn : ¬ cur'.length = 0 := by omega
        rw [vst_pos hcv, cap_pos hcv] at hc
        by_cases hch : cur'.length = cur.length
        · have := s2 hch
          subst this
          by_cases hx : x.kids = []
          · rw [rX_nil hx] at hc
            simp only [Ex.cells_eq, hx, Ex.cellsL] at hput hc
            simp [vout, preB, vst_pos hcv] at hc
            simp [RXTs, RX1T, preC, hcv, hi, r2, hc, w2, hput]
          · rw [rX_pos hx] at hc
            simp only [Ex.cells_eq] at hput
            simp [vout, preB, vst_pos hcv, tX] at hc
            simp [RXTs, RX1T, preC, hcv, hi, r2, hc, w2, hput]
        · by_cases hx : x.kids = []
          · rw [rX_nil hx] at hc
            simp only [Ex.cells_eq, hx, Ex.cellsL] at hput hc
            simp [vout, preB, hch, hcv] at hc
            simp [RXTs, RX1T, preC, hcv, hcn, hi, r2, hc, w2, hput]
          · rw [rX_pos hx] at hc
            simp only [Ex.cells_eq] at hput
            simp [vout, preB, hch, hcv, tX] at hc
            simp [RXTs, RX1T, preC, hcv, hcn, hi, r2, hc, w2, hput]
  · rw [vst_pos h0, cap_pos h0]
    simp [preB, hk, hb]
    rw [loop_to (fun i => RXTs e w vs i (Ex.extL w vs (e.kids.take i)).2 LL) e.kids.length (by simp [RXTs, RX1T, preB, h0, Ex.extL, halfT, zrow])]
    · simp only [hTk2]
      rw [execA_loop]
      by_cases hc : (Ex.extL w vs e.kids).2.length = vs.length
      · have hs2 := extL_same hc
        simp [RXTs, RX1T, hs2, h0, preB, vout, vst_pos h0, halfT_end hlk, tX_mk, kids_mk, hlk]
      · simp [RXTs, RX1T, hc, h0, preD, vout, halfT_end hlk, tX_mk, kids_mk, hlk]
    · intro i hi
      obtain ⟨a, x, cur, cur', e1, e2, hLx, r2, hl2, hc, s1, s2, g1, g2⟩ := hround i hi
      simp only [e1, e2]
      clear e1 e2 hround
      have w2 : IntKind.i64.wrap ((i : Int) + 1) = i + 1 := wrap64 (by omega) (by omega)
      rw [Ex.cells_eq] at r2 hc
      have hput := halfT_put (n := e.kids.length) hLx hi
      have hc0 : ¬ cur.length = 0 := by omega
      have hcn : ¬ cur'.length = 0 := by omega
      rw [vst_pos hc0, cap_pos hc0] at hc
      by_cases hcv : cur.length = vs.length
      · have := s1 hcv
        subst this
        by_cases hch : cur'.length = cur.length
        · have := s2 hch
          subst this
          by_cases hx : x.kids = []
          · rw [rX_nil hx] at hc
            simp only [Ex.cells_eq, hx, Ex.cellsL] at hput hc
            simp [vout, preB, vst_pos hc0] at hc
            simp [RXTs, RX1T, preB, hc0, hi, r2, hc, w2, hput]
          · rw [rX_pos hx] at hc
            simp only [Ex.cells_eq] at hput
            simp [vout, preB, vst_pos hc0, tX] at hc
            simp [RXTs, RX1T, preB, hc0, hi, r2, hc, w2, hput]
        · by_cases hx : x.kids = []
          · rw [rX_nil hx] at hc
            simp only [Ex.cells_eq, hx, Ex.cellsL] at hput hc
            simp [vout, preB, hch, hc0] at hc
            simp [RXTs, RX1T, preB, preD, hc0, hcn, hch, hi, r2, hc, w2, hput]
          · rw [rX_pos hx] at hc
            simp only [Ex.cells_eq] at hput
            simp [vout, preB, hch, hc0, tX] at hc
            simp [RXTs, RX1T, preB, preD, hc0, hcn, hch, hi, r2, hc, w2, hput]
      · have hcv2 : ¬ cur'.length = vs.length := by omega
        by_cases hch : cur'.length = cur.length
        · have := s2 hch
          subst this
          by_cases hx : x.kids = []
          · rw [rX_nil hx] at hc
            simp only [Ex.cells_eq, hx, Ex.cellsL] at hput hc
            simp [vout, preB, vst_pos hc0] at hc
            simp [RXTs, RX1T, preD, h0, hcv, hi, r2, hc, w2, hput]
          · rw [rX_pos hx] at hc
            simp only [Ex.cells_eq] at hput
            simp [vout, preB, vst_pos hc0, tX] at hc
            simp [RXTs, RX1T, preD, h0, hcv, hi, r2, hc, w2, hput]
        · by_cases hx : x.kids = []
          · rw [rX_nil hx] at hc
            simp only [Ex.cells_eq, hx, Ex.cellsL] at hput hc
            simp [vout, preB, hch, hc0] at hc
            simp [RXTs, RX1T, preD, h0, hcv, hcv2, hi, r2, hc, w2, hput]
          · rw [rX_pos hx] at hc
            simp only [Ex.cells_eq] at hput
            simp [vout, preB, hch, hc0, tX] at hc
            simp [RXTs, RX1T, preD, h0, hcv, hcv2, hi, r2, hc, w2, hput]
theorem repXT_leaf {e x : Ex} {w : Int} {vs vs' : List Val} (hk : e.kids = []) (hx : x.kids = []) (h : callA C0 52 [.i (.iref e.cells), .own 0 0, .own (wi vs.length) 0] (vst w vs) = some (.i (.agg x.cells), vout w vs vs')) :
    callA CT 43 [.i (.iref e.cells), cap vs.length] (vst w vs) = some (rX x (vout w vs vs')) := by
  rw [callA_eq rfl Try.func43 rfl rfl, rX_nil hx]
  rw [Ex.cells_eq e] at h ⊢
  rw [Ex.cells_eq x] at h ⊢
  by_cases h0 : vs.length = 0
  · have : vs = [] := List.length_eq_zero_iff.1 h0
    subst this
    by_cases h1 : vs'.length = 0
    · simp [hk, Ex.cellsL, vst, cap, wi, vout, h1] at h ⊢
      simp [h]
    · simp [hk, Ex.cellsL, vst, cap, wi, vout, h1] at h ⊢
      simp [h]
  · rw [cap_pos h0, vst_pos h0]
    rw [vst_pos h0] at h
    by_cases h1 : vs'.length = vs.length
    · simp [hk, Ex.cellsL, preB, wi, h0, vout, vst_pos h0, h1] at h ⊢
      simp [h]
    · simp [hk, Ex.cellsL, preB, wi, h0, vout, h1] at h ⊢
      simp [h]
theorem replacedT_ext {m w : Int} (hw0 : -1000 < w) (hw1 : w < 1000) : ∀ (e : Ex), e.wf m = true → e.size < 10000 → ∀ vs : List Val, vs.length + e.size < 100000 →
    callA CT 43 [.i (.iref e.cells), cap vs.length] (vst w vs) = some (rX (Ex.ext w vs e).1 (vout w vs (Ex.ext w vs e).2)) := by
  intro e
  induction e using Ex.ind with
  | h k c v ks ih =>
    intro hw hs vs hl
    have hsz := hs
    rw [Ex.size_eq] at hsz
    by_cases hk : k = 2
    · exact repXT_leaf (Ex.wf_constKids hw hk) (by rw [Ex.ext_const w vs (e := .mk k c v ks) hk]; rfl) (x1_const (e := .mk k c v ks) hk hw0 hw1 (by omega))
    · have hv := Ex.wf_val hw hk
      rw [Ex.ext_not w vs (e := .mk k c v ks) hk]
      cases ks with
      | nil =>
        have hn := x1_not (e := .mk k c v []) (w := w) (vs := vs) hk (by omega)
        have := repXT_leaf (e := .mk k c v []) (x := .mk k c v []) (w := w) (vs := vs) (vs' := vs) rfl rfl (by rw [hn]; simp [vout])
        simp only [Ex.val] at hv
        subst hv
        simpa [Ex.extL, Ex.kids, Ex.kind, Ex.col] using this
      | cons a ks =>
        have := repXT_step (e := .mk k c v (a :: ks)) (w := w) (vs := vs) (by simp [Ex.kids]) hs hl (fun x hx us hu => ih x hx (Ex.wf_kids hw hx) (by have := Ex.sizeL_mem hx; simp only [Ex.kids] at this hsz; omega) us hu)
        rw [hv] at this
        exact this
end Go.Proofs.Ytgpclhjdfdojhaa

/- Extract where slices are kept apart, whole. No condition. -/
namespace Go.Proofs.Ytgpclhjdfdojhaa
open Go Go.Av
set_option maxRecDepth 4000
set_option maxHeartbeats 4000000
def zT : AV := .agg [.int 0, .int 0, .bool false, .int 0, .nils]
/-- Values that were put one to the other, in a block. -/
def vT (us : List Val) (j : Nat) : AV := if us = [] then .nils else .osl j 2 0 us.length
def vTB (us : List Val) : StL := if us = [] then [] else [some (.arr 2 (valsL us))]
def resXT : Option (Ex × List Val) → AV × StL
  | none => (.tup [zT, .nils, .bool false], [])
  | some (x, us) => if x.kids = [] then (.tup [.i (.agg x.cells), vT us 0, .bool true], vTB us) else (.tup [tX x 0, vT us 1, .bool true], some (treB x.kids) :: vTB us)
theorem iextT_eq {e : Ex} {w : Int} : callA CT 16 [.i (.agg e.cells), .int w] [] = some (resXT (e.extO w)) := by
  rw [callA_eq rfl Try.func16 rfl rfl]
  have hok := ok_eq w e
  cases hk : e.ok w with
  | false =>
    rw [hk, Ex.cells_eq] at hok
    rw [Ex.cells_eq]
    simp [hok, Ex.extO, hk, resXT, zT]
  | true =>
    have hwf : e.wf w = true := by simp [Ex.ok, Ex.vB_eq] at hk; exact hk.2.1
    have hw6 : 1 ≤ w ∧ w ≤ 6 := by simp [Ex.ok, okWidth] at hk; omega
    have hr := replacedT_ext (m := w) (w := w) (by omega) (by omega) e hwf (by have := Ex.ok_size hk; omega) [] (by have := Ex.ok_size hk; simp; omega)
    obtain ⟨l, hl1, hl2⟩ := Ex.ext_app w [] e
    rw [hk, Ex.cells_eq] at hok
    rw [Ex.cells_eq e] at hr ⊢
    have hls : (Ex.ext w [] e).2.length < 10000 := by have := Ex.ok_size hk; rw [hl1]; simp; omega
    have hxo : e.extO w = if decide (w + (Ex.ext w [] e).2.length ≤ 6) then some (Ex.ext w [] e) else none := by simp [Ex.extO, hk]
    rw [hxo]
    clear hl1 hxo
    generalize Ex.ext w [] e = x at *
    obtain ⟨x, us⟩ := x
    simp only at hr hls ⊢
    have w1 : IntKind.i64.wrap (w + us.length) = w + us.length := wrap64 (by omega) (by omega)
    have hT : us.take us.length = us := List.take_of_length_le (by simp)
    by_cases hx : x.kids = []
    · rw [rX_nil hx] at hr
      by_cases h0 : us = []
      · subst h0
        simp [vst, vout, cap_0] at hr w1
        simp [hok, hr, w1, hw6, show ¬ 6 < w by omega, resXT, hx, vT, vTB]
      · simp [vst, vout, cap_0, h0] at hr
        by_cases hg : w + us.length ≤ 6
        · simp [hok, hr, w1, hg, show ¬ 6 < w + us.length by omega, resXT, hx, vT, vTB, h0]
        · simp [hok, hr, w1, hg, show 6 < w + us.length by omega, resXT, zT]
    · rw [rX_pos hx] at hr
      by_cases h0 : us = []
      · subst h0
        simp [vst, vout, cap_0, tX] at hr w1
        simp [hok, hr, w1, hw6, show ¬ 6 < w by omega, resXT, hx, vT, vTB, tX]
      · simp [vst, vout, cap_0, h0, tX] at hr
        by_cases hg : w + us.length ≤ 6
        · simp [hok, hr, w1, hg, show ¬ 6 < w + us.length by omega, resXT, hx, vT, vTB, h0, tX]
        · simp [hok, hr, w1, hg, show 6 < w + us.length by omega, resXT, zT]
end Go.Proofs.Ytgpclhjdfdojhaa

/- Marks put into a tree in memory of its own. No condition. -/
namespace Go.Av
/-- The rows of cells as they are. -/
def rowsOf : Nat → List Value → List (List IV)
  | 0, _ => []
  | n + 1, vs => (vs.take 5).map IV.lit :: rowsOf n (vs.drop 5)
theorem rowsOf_length : ∀ (n : Nat) (vs : List Value), (rowsOf n vs).length = n
  | 0, _ => rfl
  | n + 1, vs => by simp [rowsOf, rowsOf_length n]
theorem rowsOf_flatten : ∀ (n : Nat) (vs : List Value), (rowsOf n vs).flatten = (vs.take (5 * n)).map IV.lit
  | 0, vs => by simp [rowsOf]
  | n + 1, vs => by
    simp only [rowsOf, List.flatten_cons, rowsOf_flatten n]
    rw [← List.map_append, show 5 * (n + 1) = 5 + 5 * n by omega, List.take_add]
theorem rowsOf_width : ∀ (n : Nat) (vs : List Value), 5 * n ≤ vs.length → ∀ e ∈ rowsOf n vs, e.length = 5
  | 0, _, _ => by simp [rowsOf]
  | n + 1, vs, h => by
    intro e he
    simp only [rowsOf, List.mem_cons] at he
    rcases he with rfl | he
    · simp; omega
    · exact rowsOf_width n _ (by simp; omega) e he
theorem rowsOf_nth : ∀ (n : Nat) (vs : List Value) (i : Nat), i < n → nthE (rowsOf n vs) i = some (((vs.drop (5 * i)).take 5).map IV.lit)
  | 0, _, _, h => by omega
  | n + 1, vs, 0, _ => by simp [rowsOf, nthE]
  | n + 1, vs, i + 1, h => by
    simp only [rowsOf, nthE]
    rw [rowsOf_nth n _ i (by omega), List.drop_drop, show 5 + 5 * i = 5 * (i + 1) by omega]
theorem ICells.ofLits {m : Mem} : ∀ (vs : List Value), (∀ v ∈ vs, v.oneCell' = true) → ICells m (vs.map IV.lit) vs
  | [], _ => .nil
  | v :: vs, h => .cons (.lit v) (h v (by simp)) (ICells.ofLits vs fun u hu => h u (by simp [hu]))
theorem ICells.litsEq {m : Mem} : ∀ {vs xs : List Value}, ICells m (vs.map IV.lit) xs → xs = vs
  | [], _, h => by cases h; rfl
  | v :: vs, _, h => by
    simp only [List.map_cons] at h
    cases h with
    | cons a o r => cases a; rw [ICells.litsEq r]
/-- Nothing else has turned. -/
structure Fr (w w' : World) (S : List Nat) : Prop where
  size : w.heap.size ≤ w'.heap.size
  os : w'.os = w.os
  tape : w'.tape = w.tape
  output : w'.output = w.output
  same : ∀ f, f < w.heap.size → f ∉ S → w'.heap[f]? = w.heap[f]?
theorem Fr.refl (w : World) (S : List Nat) : Fr w w S := ⟨Nat.le_refl _, rfl, rfl, rfl, fun _ _ _ => rfl⟩
theorem Fr.trans {w1 w2 w3 : World} {S : List Nat} (a : Fr w1 w2 S) (b : Fr w2 w3 S) : Fr w1 w3 S :=
  ⟨Nat.le_trans a.size b.size, b.os.trans a.os, b.tape.trans a.tape, b.output.trans a.output, fun f h1 h2 => (b.same f (Nat.lt_of_lt_of_le h1 a.size) h2).trans (a.same f h1 h2)⟩
theorem Fr.sub {w w' : World} {S T : List Nat} (a : Fr w w' S) (h : ∀ f ∈ S, f ∈ T) : Fr w w' T :=
  ⟨a.size, a.os, a.tape, a.output, fun f h1 h2 => a.same f h1 fun h3 => h2 (h f h3)⟩
section
variable {C : Ctx} {nt : Nat}
theorem codeS (hS : SoundOk C) {w0 : World} {m0 : Mem} {φ0 : Pl} {G : List Nat} {na : Nat} (h0 : ∀ id, φ0 id ≠ none → id < na) {c : Code} {S S' : AS} {e : AExit} {a : Act} {w : World} (hc : codeOk nt c = true) (hx : execA C G na c S = some (e, S')) (h : SRel w0 m0 φ0 nt na S a w) :
    c.wp C.P (fun e' a' w' => e' = exitOf e ∧ SRel w0 m0 φ0 nt na S' a' w') a w := by
  obtain ⟨n, hn⟩ := (execA_iff _).1 hx
  exact exec_sound hS.ctx (callA_sound hS) (hS.draw _ (callA_sound hS)) h0 n c S S' e a w hc hn h
end
theorem region_two {C : Ctx} {nt : Nat} (hS : SoundOk C) {id base : Nat} {ops : Array Oper} {os1 : List Oper} {o1 o2 : Oper} {w0 : World} {m0 : Mem} {φ0 : Pl} {env : Nat → AV} {st : Store} {R1 : RS} {a : Act} {w : World} {Q : Exit → Act → World → Prop} (hops : ops.toList = os1 ++ [o1, o2]) (hs : ∀ o ∈ ops, operOk nt o = true)
    (hx : runOps C (callA C) ops.toList false base os1 0 { env := env, st := st, log := [] } = some R1) (h : ARel w0 m0 φ0 nt (fun id => id < base) env st a w)
    (hfin : ∀ a' w', ARel w0 m0 φ0 nt (fun _ => True) R1.env R1.st a' w' → wpOp C.P ops Q os1.length (wpOp C.P ops Q (os1.length + 1) (fun a w => Q .normal a w)) a' w') : (Code.region id ops false).wp C.P Q a w := by
  refine wp_region ?_
  have hsz : ops.size = os1.length + 2 := by rw [← Array.length_toList, hops]; simp
  have hget : ∀ j, ops[j]? = (os1 ++ [o1, o2])[j]? := fun j => by rw [← hops, Array.getElem?_toList]
  rw [List.range_eq_range', hsz, show List.range' 0 (os1.length + 2) = List.range' 0 os1.length ++ [os1.length, os1.length + 1] by
    rw [← List.range'_append_1]; simp [List.range'_succ]]
  refine runOps_wp_pre (w0 := w0) (m0 := m0) (φ0 := φ0) hS.ctx (callA_sound hS) hs os1 0 { env := env, st := st, log := [] } R1 a w (fun j hj => ?_) hx ?_ fun a' w' h' => ?_
  · rw [hget, Nat.zero_add, List.getElem?_append_left hj]
  · obtain ⟨⟨m, φ, k1, k2, k3, k4⟩, k5, k6⟩ := h
    exact ⟨⟨m, φ, k1, k2, k3, fun id hne => .inl (k4 id hne)⟩, k5, k6⟩
  · obtain ⟨⟨m, φ, k1, k2, k3, k4⟩, k5, k6⟩ := h'
    have := hfin a' w' ⟨⟨m, φ, k1, k2, k3, fun _ _ => trivial⟩, k5, k6⟩
    have hnil : wpOps C.P ops Q [] = fun a w => Q .normal a w := by funext a w; simp [wpOps]
    have hone : wpOps C.P ops Q [os1.length + 1] = wpOp C.P ops Q (os1.length + 1) (fun a w => Q .normal a w) := by funext a w; rw [wpOps_cons, hnil]
    rw [wpOps_cons, hone]
    exact this
theorem wpOp_callF {P : Program} {ops : Array Oper} {Q : Exit → Act → World → Prop} {K : Act → World → Prop} {i d : Nat} {g : FuncId} {fn : Func} {args : Array Operand} {ts : Array TypeId} {ty : TypeId} {pos : String} {after : Array Edge} {a : Act} {w : World}
    (ho : ops[i]? = some ⟨some d, .call ⟨.value (.func g), args, ts⟩, ty, pos, after, none⟩) (g1 : P.funcs[g]? = some fn) (g2 : fn.name ≠ "runtime.NumGoroutine") (g3 : fn.body ≠ none)
    (hc : Calls P g (args.map a.eval) w fun e w' => ∃ y, e = .returned y ∧ K (a.put (some d) y) w') : wpOp P ops Q i K a w := by
  unfold wpOp
  rw [ho]
  simp only [Region.wanted, if_true]
  refine .inl ?_
  unfold Oper.wp
  have hrun : (execOp a.eval ⟨some d, .call ⟨.value (.func g), args, ts⟩, ty, pos, after, none⟩).run P w = .ok (.enter g (args.map a.eval)) w := by
    unfold execOp
    have hev : a.eval (.func g) = .func (.func g) #[] #[] := rfl
    simp [resolve, Deferred.ofValue, hev, invoke, callFunc, g1, g2, g3]
  rw [hrun]
  simp only [Oper.upon]
  refine hc.mono ?_
  rintro e w' ⟨y, rfl, k⟩
  exact k
theorem wpOp_assign {P : Program} {ops : Array Oper} {Q : Exit → Act → World → Prop} {K : Act → World → Prop} {i d : Nat} {x : Operand} {ty : TypeId} {pos : String} {after : Array Edge} {a : Act} {w : World}
    (ho : ops[i]? = some ⟨some d, .assign x, ty, pos, after, none⟩) (hK : K (a.put (some d) (a.eval x)) w) : wpOp P ops Q i K a w := by
  unfold wpOp
  rw [ho]
  simp only [Region.wanted, if_true]
  refine .inl ?_
  unfold Oper.wp
  have hrun : (execOp a.eval ⟨some d, .assign x, ty, pos, after, none⟩).run P w = .ok (.value (a.eval x)) w := by
    unfold execOp; simp
  rw [hrun]
  simpa [Oper.upon] using hK
theorem put_get {a : Act} {d : Nat} {x : Value} (hd : d < a.tmps.size) (t : Nat) : (a.put (some d) x).tmps.getD t undef = if t = d then x else a.tmps.getD t undef := by
  simp only [Act.put]
  by_cases e : t = d
  · subst e; simp [Array.getD, hd]
  · rw [if_neg e]
    simp only [Array.getD_eq_getD_getElem?]
    rw [Array.getElem?_setIfInBounds_ne (Ne.symm e)]
/-- The block alone. -/
def P1 (b N : Nat) : Pl := fun id => if id = 0 then some (b, one b N) else none
theorem P1_lt (b N : Nat) : ∀ id, P1 b N id ≠ none → id < 1 := fun id h => by
  by_cases e : id = 0
  · omega
  · simp [P1, e] at h
/-- The frame at a round. -/
structure MG (b N n : Nat) (us : List Value) (q : Int) (j5 : AV) (a : Act) (w : World) : Prop where
  row : rowOf w b us
  len : us.length = N
  fit : 5 * n ≤ N
  pos : 0 < n
  one : ∀ v ∈ us.take (5 * n), v.oneCell' = true
  t0 : ∃ cap, n ≤ cap ∧ 5 * cap ≤ N ∧ a.tmps.getD 0 undef = .slice (some ⟨b, 0, none⟩) n cap
  t1 : a.tmps.getD 1 undef = .int .i64 q
  t5 : Rep (fun _ _ => none) (fun _ => none) j5 (a.tmps.getD 5 undef)
  size : 52 ≤ a.tmps.size
  defers : a.defers = []
def MS (n : Nat) (R : List (List IV)) (q : Int) (j4 j5 j9 : AV) : AS :=
  { env := [(0, .osl 0 5 0 n), (1, .int q), (4, j4), (5, j5), (9, j9)], st := [some (.arr 5 R)] }
theorem MG.to {b N n : Nat} {us : List Value} {q : Int} {j5 : AV} {a : Act} {w : World} (h : MG b N n us q j5 a w) : SRel w (fun _ _ => none) (P1 b N) 52 1 (MS n (rowsOf n us) q .junk j5 .junk) a w := by
  obtain ⟨T, hrow⟩ := h.row
  refine ⟨⟨⟨fun _ _ => none, P1 b N, ⟨fun _ _ _ e => (by cases e), ?_, ?_⟩, ?_, .refl _ _ _, P1_lt b N⟩, h.size, h.defers⟩, Nat.le_refl _⟩
  · intro id blk e
    cases id with
    | zero =>
      simp [MS, stOf] at e
      subst e
      refine ⟨b, Go.Av.one b N, rfl, ⟨rfl, fun f hf => ?_⟩, .arr (T := T) hrow h.len (by omega) (rowsOf_width n us (by have := h.len; have := h.fit; omega)) ?_ (by rw [rowsOf_length]; exact h.fit) (fun _ => rfl) (fun _ hf => hf)⟩
      · have hf : f = b := hf
        subst hf; exact (Array.getElem?_eq_some_iff.1 hrow).1
      · rw [rowsOf_flatten, rowsOf_length]; exact ICells.ofLits _ h.one
    | succ id => simp [MS, stOf] at e
  · intro i j b b' n n' b1 b2 f h1 h2 _ _ _ _
    cases i with
    | succ i => simp [MS, stOf] at h1
    | zero => cases j with
      | zero => rfl
      | succ j => simp [MS, stOf] at h2
  · intro t
    simp only [MS, envOf]
    by_cases h0 : t = 0
    · subst h0; obtain ⟨cap, c1, c2, c3⟩ := h.t0; rw [c3]; exact .osl (n := Go.Av.one b N) rfl c1 (by simp; exact c2) (fun _ => by simp) (fun h => by cases h)
    by_cases h1 : t = 1
    · subst h1; rw [h.t1]; exact .i (.lit _)
    by_cases h5 : t = 5
    · subst h5
      exact h.t5.mono (.refl _) (fun _ _ _ e => by cases e)
    simp [h0, h1, h5]
    exact .junk _
theorem MG.of {b N n : Nat} {us vs : List Value} {q q' i' : Int} {j5 : AV} {a a' : Act} {w w0 w' : World} (h : MG b N n us q j5 a w) {env : Nat → AV} {st : Store} {ok : Nat → Prop} (hS : ARel w0 (fun _ _ => none) (P1 b N) 52 ok env st a' w') (h0 : env 0 = .osl 0 5 0 n) (h1 : env 1 = .int q') (h5 : env 5 = .int i') (hst : st 0 = some (.arr 5 (rowsOf n vs))) :
    ∃ us', MG b N n us' q' (.int i') a' w' ∧ us'.take (5 * n) = vs.take (5 * n) ∧ Fr w0 w' [b] := by
  obtain ⟨⟨m, φ, hi, henv, hadv, hok⟩, hsz, hdf⟩ := hS
  obtain ⟨n', e0, el, eo⟩ := hadv.ple 0 b (Go.Av.one b N) rfl
  obtain ⟨_, hok2⟩ := blk_own hi e0 hst
  have t0 := henv 0; rw [h0] at t0
  have t1 := henv 1; rw [h1] at t1
  have t5 := henv 5; rw [h5] at t5
  have hpos := h.pos
  have fr : Fr w0 w' [b] := by
    refine ⟨hadv.size, hadv.os, hadv.tape, hadv.output, fun f hf hne => hadv.block f hf ?_⟩
    intro id r x e ho
    by_cases hid : id = 0
    · subst hid
      simp only [P1, if_true] at e
      injection e with e; injection e with e1 e2; subst e2
      have ho : f = b := ho
      exact hne (by simp [ho])
    · simp [P1, hid] at e
  cases hok2 with
  | @arr T k es xs hh hl hk hw hc hfit hm hown =>
    rw [rowsOf_flatten, rowsOf_length] at hc
    have hx := hc.litsEq
    rw [rowsOf_length] at hfit
    refine ⟨xs, ⟨⟨T, hh⟩, by rw [hl, el]; rfl, h.fit, hpos, ?_, ?_, ?_, ?_, hsz, hdf⟩, hx, fr⟩
    · intro v hv
      rw [hx] at hv
      exact hc.one v (by rw [hx]; exact hv)
    · generalize a'.tmps.getD 0 undef = x0 at t0
      cases t0 with
      | @osl _ _ _ _ cap b2 n2 ao e2 c1 c2 c3 c4 =>
        rw [e0] at e2; injection e2 with e2; injection e2 with e3 e4; subst e3; subst e4
        rw [c3 (by omega)]
        exact ⟨cap, c1, by rw [el] at c2; simpa using c2, by simp⟩
    · generalize a'.tmps.getD 1 undef = x1 at t1
      cases t1 with | i r => cases r; rfl
    · generalize a'.tmps.getD 5 undef = x5 at t5
      cases t5 with | i r => cases r; exact .i (.lit _)
theorem rowsOf_set : ∀ (n : Nat) (us vals : List Value) (i : Nat), i < n → 5 * n ≤ us.length → vals.length = 5 → (rowsOf n us).set i (vals.map IV.lit) = rowsOf n (us.take (5 * i) ++ vals ++ us.drop (5 * (i + 1)))
  | 0, _, _, _, h, _, _ => by omega
  | n + 1, us, vals, 0, _, hu, hv => by
    simp only [rowsOf, List.set_cons_zero, Nat.mul_zero, List.take_zero, List.nil_append]
    rw [List.take_left' hv, List.drop_left' hv]
  | n + 1, us, vals, i + 1, h, hu, hv => by
    simp only [rowsOf, List.set_cons_succ]
    rw [rowsOf_set n _ vals i (by omega) (by simp; omega) hv]
    have e1 : (us.take (5 * (i + 1)) ++ vals ++ us.drop (5 * (i + 1 + 1))).take 5 = us.take 5 := by
      rw [List.append_assoc, List.take_append_of_le_length (by simp; omega), List.take_take, Nat.min_eq_left (by omega)]
    have e2 : (us.take (5 * (i + 1)) ++ vals ++ us.drop (5 * (i + 1 + 1))).drop 5 = (us.drop 5).take (5 * i) ++ vals ++ (us.drop 5).drop (5 * (i + 1)) := by
      rw [List.append_assoc, List.drop_append_of_le_length (by simp; omega), List.drop_take, List.drop_drop, List.append_assoc]
      congr 2
      congr 1; omega
    rw [e1, e2]
theorem TCells.lt {w : World} : ∀ {cs : List IV} {vs : List Value} {F : List Nat}, TCells w cs vs F → ∀ f ∈ F, f < w.heap.size
  | _, _, _, .nil => by simp
  | _, _, _, .lit _ r => r.lt
  | _, _, _, .isl0 _ r => r.lt
  | _, _, _, .isl _ ⟨T, hr⟩ _ _ _ _ g r => by
    intro f hf
    simp only [List.cons_append, List.mem_cons, List.mem_append] at hf
    rcases hf with rfl | hf | hf
    · exact (Array.getElem?_eq_some_iff.1 hr).1
    · exact g.lt f hf
    · exact r.lt f hf
end Go.Av
namespace Go.Proofs.Ytgpclhjdfdojhaa
open Go Go.Av
set_option maxRecDepth 4000
set_option maxHeartbeats 4000000
/-- What is left of a call that marks. -/
def MPost (w : World) (b : Nat) (us : List Value) (F : List Nat) (l : List Ex) (k : Int) (e : Ending) (w' : World) : Prop :=
  e = .returned (.int .i64 (k + 4 * (Ex.sizeL l : Nat))) ∧ Fr w w' (b :: F) ∧ ∃ us', rowOf w' b us' ∧ us'.length = us.length ∧ TCells w' (Ex.cellsL (Ex.markL k l)).flatten (us'.take (5 * l.length)) F
theorem cellsL_flatten_length : ∀ (l : List Ex), (Ex.cellsL l).flatten.length = 5 * l.length
  | [] => rfl
  | a :: l => by
    simp only [Ex.cellsL, List.flatten_cons, List.length_append, cellsL_flatten_length l, List.length_cons]
    rw [Ex.cells_eq]; simp; omega
theorem cellsL_append : ∀ (l m : List Ex), Ex.cellsL (l ++ m) = Ex.cellsL l ++ Ex.cellsL m
  | [], m => rfl
  | a :: l, m => by simp [Ex.cellsL, cellsL_append l m]
/-- The elements before a round, and behind it. -/
def midL (k : Int) (l : List Ex) (i : Nat) : List Ex := (Ex.markL k l).take i ++ l.drop i
theorem midL_length (k : Int) (l : List Ex) {i : Nat} (h : i ≤ l.length) : (midL k l i).length = l.length := by
  unfold midL; simp [Ex.markL_length]; omega
theorem midL_zero (k : Int) (l : List Ex) : midL k l 0 = l := by simp [midL]
theorem midL_end (k : Int) (l : List Ex) : midL k l l.length = Ex.markL k l := by
  unfold midL; rw [List.take_of_length_le (by rw [Ex.markL_length]; omega)]; simp
theorem midL_split {k : Int} {l : List Ex} {i : Nat} {a : Ex} (h : l[i]? = some a) : midL k l i = (Ex.markL k l).take i ++ (a :: l.drop (i + 1)) := by
  have hi := (List.getElem?_eq_some_iff.1 h).1
  unfold midL; rw [List.drop_eq_getElem_cons hi]
  have : l[i] = a := by have := List.getElem?_eq_getElem hi; rw [h] at this; injection this with this; exact this.symm
  rw [this]
theorem midL_next {k : Int} {l : List Ex} {i : Nat} {a : Ex} (h : l[i]? = some a) : midL k l (i + 1) = (Ex.markL k l).take i ++ (Ex.markE (k + 4 * (Ex.sizeL (l.take i) : Nat)) a :: l.drop (i + 1)) := by
  unfold midL; rw [take_snoc (Ex.markL_nth l k h)]; simp
/-- One row of a tree: four values, and the slice of the kids. -/
theorem row_inv {w : World} {a : Ex} {vs : List Value} {F : List Nat} (h : TCells w a.cells vs F) :
    ∃ u, vs = [.int .i64 a.kind, .int .i64 a.col, .bool a.val.null, .int .i64 a.val.n, u] ∧ u.oneCell' = true ∧ TCells w [.isl (Ex.cellsL a.kids)] [u] F := by
  rw [Ex.cells_eq] at h
  cases h with
  | @lit _ _ v1 _ o1 h1 =>
    cases h1 with
    | @lit _ _ v2 _ o2 h2 =>
      cases h2 with
      | @lit _ _ v3 _ o3 h3 =>
        cases h3 with
        | @lit _ _ v4 _ o4 h4 =>
          have hl := h4.length
          have ho := h4.one
          cases v4 with
          | nil => simp at hl
          | cons u r =>
            cases r with
            | cons => simp at hl
            | nil => exact ⟨u, rfl, ho u (by simp), h4⟩
theorem row_mk {w : World} {a : Ex} {u : Value} {F : List Nat} (h : TCells w [.isl (Ex.cellsL a.kids)] [u] F) : TCells w a.cells [.int .i64 a.kind, .int .i64 a.col, .bool a.val.null, .int .i64 a.val.n, u] F := by
  rw [Ex.cells_eq]
  exact .lit rfl (.lit rfl (.lit rfl (.lit rfl h)))
theorem markS_calls : ∀ (e : Ex) (w : World) (v : Value) (F : List Nat) (k : Int), TCells w [.isl (Ex.cellsL e.kids)] [v] F → F.Nodup → 0 ≤ k → k + 4 * (Ex.sizeL e.kids : Nat) < 1000000000000 →
    Calls Try.prog 27 #[v, .int .i64 k] w fun en w' => en = .returned (.int .i64 (k + 4 * (Ex.sizeL e.kids : Nat))) ∧ Fr w w' F ∧ TCells w' [.isl (Ex.cellsL (Ex.markL k e.kids))] [v] F ∧ ∀ b0 cap us0, v = .slice (some ⟨b0, 0, none⟩) e.kids.length cap → e.kids ≠ [] → rowOf w b0 us0 → ∃ us1, rowOf w' b0 us1 ∧ us1.length = us0.length := by
  intro e
  induction e using Ex.ind with
  | h kd cl vl l ih =>
    intro w v F k hT hnd hk0 hk1
    simp only [kids_mk] at hT hk1 ⊢
    generalize hces : Ex.cellsL l = ces at hT
    cases hT with
    | @isl0 ao cap _ _ F1 hc hr =>
      cases hr
      have hl : l = [] := by
        cases l with
        | nil => rfl
        | cons a l => simp [Ex.cellsL] at hces
      subst hl
      have hx : callA C0 27 [.i (.isl []), .int k] [] = some (.int k, []) := by
        rw [callA_eq rfl Try.func27 rfl rfl]
        simp
        rw [execA_loop]
        simp
      refine ((callA_sound sound0).calls _ _ _ _ _ hx w (memOf w) (fun _ => none) [.slice ao 0 cap, .int .i64 k] (inv0 w) (.cons (.i (.isl0 ao cap hc)) (.cons (.i (.lit _)) .nil)) (fun id h => absurd rfl h)).mono ?_
      rintro en w' ⟨y, m', φ', rfl, j1, j2, j3, j4⟩
      have hy : y = .int .i64 k := by cases j1 with | i r => cases r; rfl
      subst hy
      refine ⟨by simp [Ex.sizeL], ⟨j3.size, j3.os, j3.tape, j3.output, fun f hf _ => j3.block f hf fun id b n e => by cases e⟩, ?_⟩
      refine ⟨?_, fun _ _ _ _ h _ => absurd rfl h⟩
      simp only [Ex.markL, Ex.cellsL]
      exact .isl0 hc .nil
    | @isl b kk cap _ us G _ _ F1 hne hrow hkk hw hf hcp hg hr =>
      cases hr
      subst hces
      have hlne : l ≠ [] := fun h => by subst h; exact hne rfl
      obtain rfl : kk = 5 := by
        cases l with
        | nil => exact absurd rfl hlne
        | cons a l => rw [← hw a.cells (by simp [Ex.cellsL]), Ex.cells_eq]; rfl
      simp only [List.append_nil] at hnd ⊢
      have hbG := (List.nodup_cons.1 hnd).1
      have hGn := (List.nodup_cons.1 hnd).2
      have hlen : (Ex.cellsL l).length = l.length := by simp
      rw [hlen] at hcp hg ⊢
      generalize hn : l.length = n at hcp hg ⊢
      have hnpos : 0 < n := by rw [← hn]; exact List.length_pos_iff.2 hlne
      have hsl := Ex.sizeL_length l
      generalize hN : us.length = N at hf
      refine calls_of_wp (fn := Try.f27) Try.func27 rfl ?_
      have g0 : MG b N n us k .junk { tmps := #[Value.slice (some ⟨b, 0, none⟩) n cap, .int .i64 k] ++ Array.replicate (52 - 2) undef, defers := [] } w :=
        ⟨hrow, hN, by omega, hnpos, fun x hx => hg.one x hx, ⟨cap, hcp, by omega, by simp⟩, by simp, .junk _, by simp, rfl⟩
      have r0 := g0.to
      refine wp_seq (wp_mono (codeS sound0 (P1_lt b N) (G := GS 27) (S := MS n (rowsOf n us) k .junk .junk .junk) (e := .normal) (S' := MS n (rowsOf n us) k (.int 0) .junk .junk) (by kernel_rfl) (by simp [MS]) r0) ?_)
      rintro _ x1 y1 ⟨rfl, r1⟩
      refine wp_seq (wp_seq (wp_mono (codeS sound0 (P1_lt b N) (G := GS 27) (S := MS n (rowsOf n us) k (.int 0) .junk .junk) (e := .normal) (S' := MS n (rowsOf n us) k (.int 0) (.int 0) .junk) (by kernel_rfl) (by simp [MS]) r1) ?_))
      rintro _ x2 y2 ⟨rfl, r2⟩
      obtain ⟨us2, g2, e2, f2⟩ := g0.of (q' := k) (i' := 0) r2.1 rfl rfl rfl rfl
      clear r0 r1 r2
      refine wp_block ?_
      refine wp_loop_n (fun m a w' => ∃ i us', m = n - i ∧ i ≤ n ∧ MG b N n us' (k + 4 * (Ex.sizeL (l.take i) : Nat)) (.int i) a w' ∧ Fr w w' (b :: G) ∧ TCells w' (Ex.cellsL (midL k l i)).flatten (us'.take (5 * n)) G) ?_ (n := n) ⟨0, us2, by omega, by omega, by simpa [Ex.sizeL] using g2, f2.sub (by simp), by
        rw [midL_zero, e2]
        refine hg.mono fun f hf' => ?_
        have hlt : f < w.heap.size := hg.lt f hf'
        exact f2.same f hlt (by simp; intro h; subst h; exact hbG hf')⟩
      rintro m a w' ⟨i, us', rfl, hin', g, fr, ht⟩
      have rr := g.to
      generalize hq : k + 4 * ((Ex.sizeL (l.take i) : Nat) : Int) = q at g rr
      have keepG : ∀ {w1 w2 : World} {cs : List IV} {vs : List Value} {F : List Nat}, (∀ f ∈ F, f ∈ G) → Fr w1 w2 [b] → TCells w1 cs vs F → TCells w2 cs vs F := by
        intro w1 w2 cs vs F hF hfr h
        refine h.mono fun f hf' => hfr.same f (h.lt f hf') ?_
        simp; intro e; subst e; exact hbG (hF f hf')
      by_cases hi : i = n
      · subst hi
        refine wp_seq (wp_mono (codeS sound0 (P1_lt b N) (G := GS 27) (S := MS i (rowsOf i us') q .junk (.int i) .junk) (e := .exit 0) (S' := MS i (rowsOf i us') q .junk (.int i) (.bool false)) (by kernel_rfl) (by simp [MS]) rr) ?_)
        rintro _ x3 y3 ⟨rfl, r3⟩
        simp only [exitOf, Exit.then, Exit.inBlock, if_true]
        refine wp_mono (codeS sound0 (P1_lt b N) (G := GS 27) (S := MS i (rowsOf i us') q .junk (.int i) (.bool false)) (e := .ret) (S' := MS i (rowsOf i us') q (.int q) (.int i) (.bool false)) (by kernel_rfl) (by simp [MS]) r3) ?_
        rintro _ x4 y4 ⟨rfl, r4⟩
        obtain ⟨v4, k1, k2⟩ := finish_sound (C := C0) (fn := Try.f27) (keep := false) (na := 1) (S := MS i (rowsOf i us') q (.int q) (.int i) (.bool false)) (r := .int q) (stl' := [some (.arr 5 (rowsOf i us'))]) (P1_lt b N) r4 (by
          show finish C0 false [ResultVar.tmp 4] 1 _ = _
          simp [MS])
        obtain ⟨us4, g4, e4, f4⟩ := g.of (q' := q) (i' := i) r4.1 rfl rfl rfl rfl
        obtain ⟨y, m', φ', hy, j1, _⟩ := k2
        injection hy with hy
        subst hy
        have hv4 : v4 = .int .i64 q := by cases j1 with | i r => cases r; rfl
        subst hv4
        have hTl : l.take i = l := List.take_of_length_le (by omega)
        rw [hTl] at hq
        refine ⟨g4.defers, _, k1, by rw [hq], fr.trans (f4.sub (by simp)), ?_⟩
        have hml := Ex.markL_length l k
        have hcl : (Ex.cellsL (Ex.markL k l)).length = i := by rw [show (Ex.cellsL (Ex.markL k l)).length = (Ex.markL k l).length by simp, hml, hn]
        have hne' : Ex.cellsL (Ex.markL k l) ≠ [] := fun h => by rw [h] at hcl; simp at hcl; omega
        have := TCells.isl (w := y4) (b := b) (k := 5) (cap := cap) (es := Ex.cellsL (Ex.markL k l)) (us := us4) (G := G) (cs := []) (vs := []) (F := []) hne' g4.row (by omega) ?_ (by rw [g4.len]; exact hf) (by omega) ?_ .nil
        · refine ⟨by rw [hcl] at this; simpa using this, ?_⟩
          rintro b0 cap0 us0 hv0 _ ⟨T0, hr0⟩
          injection hv0 with hv0
          injection hv0 with hv0
          injection hv0 with hv0
          subst hv0
          obtain ⟨T, hrow'⟩ := hrow
          rw [hrow'] at hr0
          injection hr0 with hr0
          injection hr0 with hr0
          have : us = us0 := by simpa using congrArg Array.toList hr0
          subst this
          exact ⟨us4, g4.row, by rw [g4.len, hN]⟩
        · have wid : ∀ (l : List Ex), ∀ r ∈ Ex.cellsL l, r.length = 5 := by
            intro l
            induction l with
            | nil => simp [Ex.cellsL]
            | cons a l ihl =>
              intro r hr
              simp only [Ex.cellsL, List.mem_cons] at hr
              rcases hr with rfl | hr
              · rw [Ex.cells_eq]; rfl
              · exact ihl r hr
          exact wid _
        · rw [hcl, e4]
          rw [show midL k l i = Ex.markL k l by rw [← hn]; exact midL_end k l] at ht
          exact keepG (fun f h => h) f4 ht
      · have hin : i < n := by omega
        have h3 := List.getElem?_eq_getElem (l := l) (i := i) (by omega)
        generalize l[i]'(by omega) = a at h3
        have hml := Ex.markL_length l k
        rw [midL_split h3, cellsL_append, List.flatten_append] at ht
        simp only [Ex.cellsL, List.flatten_cons] at ht
        have hA : (Ex.cellsL ((Ex.markL k l).take i)).flatten.length = 5 * i := by rw [cellsL_flatten_length]; simp; omega
        have hB : a.cells.length = 5 := by rw [Ex.cells_eq]; rfl
        obtain ⟨G1, G23, hG1, t1, t23⟩ := ht.split (5 * i)
        rw [List.take_left' hA] at t1
        rw [List.drop_left' hA] at t23
        obtain ⟨G2, G3, hG2, t2, t3⟩ := t23.split 5
        rw [List.take_left' hB] at t2
        rw [List.drop_left' hB] at t3
        obtain ⟨u, hrw, hu1, tu⟩ := row_inv t2
        have hlen' := g.len
        have hfit' := g.fit
        have hrow5 : (us'.drop (5 * i)).take 5 = [.int .i64 a.kind, .int .i64 a.col, .bool a.val.null, .int .i64 a.val.n, u] := by
          rw [← hrw, List.drop_take, List.take_take, Nat.min_eq_left (by omega)]
        have hR := rowsOf_nth n us' i hin
        rw [hrow5] at hR
        generalize hRR : rowsOf n us' = R at hR rr
        have hRl : R.length = n := by rw [← hRR, rowsOf_length]
        have hRs : ∀ r : List IV, nthE (R.set i r) i = some r := fun r => by rw [nthE_eq, List.getElem?_set_self (by omega)]
        simp only [List.map_cons, List.map_nil] at hR
        have hzs := sizeL_split l h3
        have hmono := sizeL_mono l (i + 1)
        rw [Ex.size_eq] at hzs
        have w2 : IntKind.i64.wrap (q + 1) = q + 1 := wrap64 (by omega) (by omega)
        have w3 : IntKind.i64.wrap (q + 1 + 1) = q + 1 + 1 := wrap64 (by omega) (by omega)
        have w4 : IntKind.i64.wrap (q + 1 + 1 + 1) = q + 1 + 1 + 1 := wrap64 (by omega) (by omega)
        have w5 : IntKind.i64.wrap (q + 1 + 1 + 1 + 1) = q + 1 + 1 + 1 + 1 := wrap64 (by omega) (by omega)
        refine wp_seq (wp_mono (codeS sound0 (P1_lt b N) (G := GS 27) (S := MS n R q .junk (.int i) .junk) (e := .normal) (S' := MS n R q .junk (.int i) (.bool true)) (by kernel_rfl) (by simp [MS, hin]) rr) ?_)
        rintro _ x0 y0 ⟨rfl, r0⟩
        refine wp_seq ?_
        refine wp_block ?_
        refine wp_seq (wp_mono (codeS sound0 (P1_lt b N) (G := GS 27) (S := (MS n R q .junk (.int i) (.bool true))) (e := .normal) (S' := (MS n (R.set i [.int q, .int a.col, .bool a.val.null, .int a.val.n, .lit u]) q .junk (.int i) (.bool true))) (by kernel_rfl) (by simp [MS, hin, hR, hRs, w2, w3, w4, w5]) r0) ?_)
        rintro _ x1 y1 ⟨rfl, r1⟩
        refine wp_seq (wp_mono (codeS sound0 (P1_lt b N) (G := GS 27) (S := (MS n (R.set i [.int q, .int a.col, .bool a.val.null, .int a.val.n, .lit u]) q .junk (.int i) (.bool true))) (e := .normal) (S' := (MS n (R.set i [.int q, .int a.col, .bool a.val.null, .int a.val.n, .lit u]) (q + 1) .junk (.int i) (.bool true))) (by kernel_rfl) (by simp [MS, hin, hR, hRs, w2, w3, w4, w5]) r1) ?_)
        rintro _ x2 y2 ⟨rfl, r2⟩
        refine wp_seq (wp_mono (codeS sound0 (P1_lt b N) (G := GS 27) (S := (MS n (R.set i [.int q, .int a.col, .bool a.val.null, .int a.val.n, .lit u]) (q + 1) .junk (.int i) (.bool true))) (e := .normal) (S' := (MS n (R.set i [.int q, .int (q + 1), .bool a.val.null, .int a.val.n, .lit u]) (q + 1) .junk (.int i) (.bool true))) (by kernel_rfl) (by simp [MS, hin, hR, hRs, w2, w3, w4, w5]) r2) ?_)
        rintro _ x3 y3 ⟨rfl, r3⟩
        refine wp_seq (wp_mono (codeS sound0 (P1_lt b N) (G := GS 27) (S := (MS n (R.set i [.int q, .int (q + 1), .bool a.val.null, .int a.val.n, .lit u]) (q + 1) .junk (.int i) (.bool true))) (e := .normal) (S' := (MS n (R.set i [.int q, .int (q + 1), .bool a.val.null, .int a.val.n, .lit u]) (q + 1 + 1) .junk (.int i) (.bool true))) (by kernel_rfl) (by simp [MS, hin, hR, hRs, w2, w3, w4, w5]) r3) ?_)
        rintro _ x4 y4 ⟨rfl, r4⟩
        refine wp_seq (wp_mono (codeS sound0 (P1_lt b N) (G := GS 27) (S := (MS n (R.set i [.int q, .int (q + 1), .bool a.val.null, .int a.val.n, .lit u]) (q + 1 + 1) .junk (.int i) (.bool true))) (e := .normal) (S' := (MS n (R.set i [.int q, .int (q + 1), .bool ((q + 1 + 1).tmod 3 == 0), .int a.val.n, .lit u]) (q + 1 + 1) .junk (.int i) (.bool true))) (by kernel_rfl) (by simp [MS, hin, hR, hRs, w2, w3, w4, w5]) r4) ?_)
        rintro _ x5 y5 ⟨rfl, r5⟩
        refine wp_seq (wp_mono (codeS sound0 (P1_lt b N) (G := GS 27) (S := (MS n (R.set i [.int q, .int (q + 1), .bool ((q + 1 + 1).tmod 3 == 0), .int a.val.n, .lit u]) (q + 1 + 1) .junk (.int i) (.bool true))) (e := .normal) (S' := (MS n (R.set i [.int q, .int (q + 1), .bool ((q + 1 + 1).tmod 3 == 0), .int a.val.n, .lit u]) (q + 1 + 1 + 1) .junk (.int i) (.bool true))) (by kernel_rfl) (by simp [MS, hin, hR, hRs, w2, w3, w4, w5]) r5) ?_)
        rintro _ x6 y6 ⟨rfl, r6⟩
        refine wp_seq (wp_mono (codeS sound0 (P1_lt b N) (G := GS 27) (S := (MS n (R.set i [.int q, .int (q + 1), .bool ((q + 1 + 1).tmod 3 == 0), .int a.val.n, .lit u]) (q + 1 + 1 + 1) .junk (.int i) (.bool true))) (e := .normal) (S' := (MS n (R.set i [.int q, .int (q + 1), .bool ((q + 1 + 1).tmod 3 == 0), .int (q + 1 + 1 + 1), .lit u]) (q + 1 + 1 + 1) .junk (.int i) (.bool true))) (by kernel_rfl) (by simp [MS, hin, hR, hRs, w2, w3, w4, w5]) r6) ?_)
        rintro _ x7 y7 ⟨rfl, r7⟩
        refine wp_seq (wp_mono (codeS sound0 (P1_lt b N) (G := GS 27) (S := (MS n (R.set i [.int q, .int (q + 1), .bool ((q + 1 + 1).tmod 3 == 0), .int (q + 1 + 1 + 1), .lit u]) (q + 1 + 1 + 1) .junk (.int i) (.bool true))) (e := .normal) (S' := (MS n (R.set i [.int q, .int (q + 1), .bool ((q + 1 + 1).tmod 3 == 0), .int (q + 1 + 1 + 1), .lit u]) (q + 1 + 1 + 1 + 1) .junk (.int i) (.bool true))) (by kernel_rfl) (by simp [MS, hin, hR, hRs, w2, w3, w4, w5]) r7) ?_)
        rintro _ x8 y8 ⟨rfl, r8⟩

        generalize hrow6 : ([.int q, .int (q + 1), .bool ((q + 1 + 1).tmod 3 == 0), .int (q + 1 + 1 + 1), .lit u] : List IV) = row6 at r8
        have hrs : R.set i row6 = rowsOf n (us'.take (5 * i) ++ [.int .i64 q, .int .i64 (q + 1), .bool ((q + 1 + 1).tmod 3 == 0), .int .i64 (q + 1 + 1 + 1), u] ++ us'.drop (5 * (i + 1))) := by
          rw [← hrow6, ← hRR]
          exact rowsOf_set n us' [.int .i64 q, .int .i64 (q + 1), .bool ((q + 1 + 1).tmod 3 == 0), .int .i64 (q + 1 + 1 + 1), u] i hin (by omega) rfl
        have hR6 := hRs row6
        rw [← hrow6] at hR6
        refine region_two sound0 (os1 := [_, _, _, _, _, _]) (env := envOf (MS n (R.set i row6) (q + 1 + 1 + 1 + 1) .junk (.int i) (.bool true)).env) (st := stOf (MS n (R.set i row6) (q + 1 + 1 + 1 + 1) .junk (.int i) (.bool true)).st) (base := 1) (w0 := w') (m0 := fun _ _ => none) (φ0 := P1 b N) (nt := 52)
          (R1 := ⟨upd (upd (upd (upd (upd (upd (envOf (MS n (R.set i row6) (q + 1 + 1 + 1 + 1) .junk (.int i) (.bool true)).env) 44 (.osl 0 5 0 n)) 45 (.int i)) 46 (.ownE 0 5 i 0)) 47 (.ownE 0 5 i 4)) 48 (.i (.lit u))) 49 (.int (q + 1 + 1 + 1 + 1)), stOf (MS n (R.set i row6) (q + 1 + 1 + 1 + 1) .junk (.int i) (.bool true)).st, []⟩) rfl (by
            have h : ∀ ops : Array Oper, ops.all (operOk 52) = true → ∀ o ∈ ops, operOk 52 o = true := fun ops h o ho => Array.all_eq_true_iff_forall_mem.1 h o ho
            exact h _ (by kernel_rfl)) ?_ r8.1 ?_
        · subst hrow6
          simp [MS, hin, hR6]
        · intro x9 y9 r9
          have v48 : x9.tmps.getD 48 undef = u := by
            obtain ⟨⟨m, φ, _, henv, _⟩, _⟩ := r9
            have h48 : Rep m φ (.i (.lit u)) (x9.tmps.getD 48 undef) := henv 48
            exact h48.lit_eq
          have v49 : x9.tmps.getD 49 undef = .int .i64 (q + 1 + 1 + 1 + 1) := by
            obtain ⟨⟨m, φ, _, henv, _⟩, _⟩ := r9
            have h49 : Rep m φ (.i (.lit (.int .i64 (q + 1 + 1 + 1 + 1)))) (x9.tmps.getD 49 undef) := henv 49
            exact h49.lit_eq
          obtain ⟨us9, g9, e9, f9⟩ := g.of (q' := q + 1 + 1 + 1 + 1) (i' := i) r9 rfl rfl rfl (by show some (Blk.arr 5 (R.set i row6)) = _; rw [hrs])
          have hn2 : (G1 ++ (G2 ++ G3)).Nodup := by rw [← hG2, ← hG1]; exact hGn
          have nd1 := List.nodup_append.1 hn2
          have nd2 := List.nodup_append.1 nd1.2.1
          have s2 : ∀ f ∈ G2, f ∈ G := fun f hf' => by rw [hG1, hG2]; simp [hf']
          have s1 : ∀ f ∈ G1, f ∈ G := fun f hf' => by rw [hG1]; simp [hf']
          have s3 : ∀ f ∈ G3, f ∈ G := fun f hf' => by rw [hG1, hG2]; simp [hf']
          refine wpOp_callF (fn := Try.f27) (g := 27) rfl Try.func27 (by decide) (by intro h; cases h) ?_
          have hargs : (#[Operand.tmp 48, Operand.tmp 49].map x9.eval) = #[u, .int .i64 (q + 1 + 1 + 1 + 1)] := by
            have e1 : (#[Operand.tmp 48, Operand.tmp 49].map x9.eval) = #[x9.eval (.tmp 48), x9.eval (.tmp 49)] := by simp
            rw [e1]
            show #[x9.tmps.getD 48 undef, x9.tmps.getD 49 undef] = _
            rw [v48, v49]
          rw [hargs]
          refine (ih a (List.mem_of_getElem? h3) y9 u G2 (q + 1 + 1 + 1 + 1) (keepG s2 f9 tu) nd2.1 (by omega) (by omega)).mono ?_
          rintro en y10 ⟨rfl, f10, t10, _⟩
          refine ⟨_, rfl, ?_⟩
          refine wpOp_assign rfl ?_
          have hs9 : 52 ≤ x9.tmps.size := g9.size
          have hev : (x9.put (some 50) (.int .i64 (q + 1 + 1 + 1 + 1 + 4 * (Ex.sizeL a.kids : Nat)))).eval (.tmp 50) = .int .i64 (q + 1 + 1 + 1 + 1 + 4 * (Ex.sizeL a.kids : Nat)) := by
            show (x9.put (some 50) _).tmps.getD 50 undef = _
            rw [put_get (by omega), if_pos rfl]
          rw [hev]
          generalize hx11 : ((x9.put (some 50) (.int .i64 (q + 1 + 1 + 1 + 1 + 4 * (Ex.sizeL a.kids : Nat)))).put (some 1) (.int .i64 (q + 1 + 1 + 1 + 1 + 4 * (Ex.sizeL a.kids : Nat)))) = x11
          have hsz10 : 52 ≤ (x9.put (some 50) (.int .i64 (q + 1 + 1 + 1 + 1 + 4 * (Ex.sizeL a.kids : Nat)))).tmps.size := by rw [put_size]; exact hs9
          have get11 : ∀ t, t ≠ 1 → t ≠ 50 → x11.tmps.getD t undef = x9.tmps.getD t undef := fun t h1 h2 => by
            rw [← hx11, put_get (by omega), if_neg h1, put_get (by omega), if_neg h2]
          have hbs : b < y9.heap.size := by obtain ⟨T, hh⟩ := g9.row; exact (Array.getElem?_eq_some_iff.1 hh).1
          have hb2 : b ∉ G2 := fun h => hbG (s2 b h)
          have g11 : MG b N n us9 (q + 1 + 1 + 1 + 1 + 4 * (Ex.sizeL a.kids : Nat)) (.int i) x11 y10 := by
            refine ⟨?_, g9.len, g9.fit, g9.pos, g9.one, ?_, ?_, ?_, ?_, ?_⟩
            · obtain ⟨T, hh⟩ := g9.row
              exact ⟨T, (f10.same b hbs hb2).trans hh⟩
            · rw [get11 0 (by omega) (by omega)]; exact g9.t0
            · rw [← hx11, put_get (by omega), if_pos rfl]
            · rw [get11 5 (by omega) (by omega)]; exact g9.t5
            · rw [← hx11, put_size, put_size]; exact hs9
            · rw [← hx11, put_defers', put_defers']; exact g9.defers
          have r11 := g11.to
          simp only [Exit.then, Exit.inBlock]
          have w6 : IntKind.i64.wrap ((i : Int) + 1) = i + 1 := wrap64 (by omega) (by omega)
          refine wp_mono (codeS sound0 (P1_lt b N) (G := GS 27) (S := MS n (rowsOf n us9) (q + 1 + 1 + 1 + 1 + 4 * (Ex.sizeL a.kids : Nat)) .junk (.int i) .junk) (e := .normal) (S' := MS n (rowsOf n us9) (q + 1 + 1 + 1 + 1 + 4 * (Ex.sizeL a.kids : Nat)) .junk (.int (i + 1)) .junk) (by kernel_rfl) (by simp [MS, w6]) r11) ?_
          rintro _ x12 y12 ⟨rfl, r12⟩
          obtain ⟨us12, g12, e12, f12⟩ := g11.of (q' := q + 1 + 1 + 1 + 1 + 4 * (Ex.sizeL a.kids : Nat)) (i' := i + 1) r12.1 rfl rfl rfl rfl
          simp only [exitOf, Exit.then, Exit.inBlock]
          have hnx : k + 4 * ((Ex.sizeL (l.take (i + 1)) : Nat) : Int) = q + 1 + 1 + 1 + 1 + 4 * (Ex.sizeL a.kids : Nat) := by rw [hzs]; push_cast; omega
          refine ⟨n - (i + 1), by omega, i + 1, us12, rfl, by omega, ?_, ?_, ?_⟩
          · rw [hnx]; exact g12
          · exact ((fr.trans (f9.sub (by simp))).trans (f10.sub fun f hf' => List.mem_cons_of_mem _ (s2 f hf'))).trans (f12.sub (by simp))
          · rw [midL_next h3, cellsL_append, List.flatten_append, hq]
            simp only [Ex.cellsL, List.flatten_cons]
            have hvs : us12.take (5 * n) = us'.take (5 * i) ++ ([.int .i64 q, .int .i64 (q + 1), .bool ((q + 1 + 1).tmod 3 == 0), .int .i64 (q + 1 + 1 + 1), u] ++ ((us'.take (5 * n)).drop (5 * i)).drop 5) := by
              have hl1 : (us'.take (5 * i) ++ [.int .i64 q, .int .i64 (q + 1), .bool ((q + 1 + 1).tmod 3 == 0), .int .i64 (q + 1 + 1 + 1), u]).length = 5 * i + 5 := by simp; omega
              rw [e12, e9, List.take_append, hl1, List.take_of_length_le (by rw [hl1]; omega), List.append_assoc, List.drop_drop, List.drop_take, show 5 * (i + 1) = 5 * i + 5 by omega]
            rw [hvs]
            have m1 : TCells y12 (Ex.cellsL ((Ex.markL k l).take i)).flatten (us'.take (5 * i)) G1 := by
              have h1 := keepG s1 f9 t1
              rw [List.take_take, Nat.min_eq_left (by omega)] at h1
              have h2 := h1.mono (w' := y10) fun f hf' => f10.same f (h1.lt f hf') fun hh => nd1.2.2 f hf' f (by simp [hh]) rfl
              exact keepG s1 f12 h2
            have m3 : TCells y12 (Ex.cellsL (l.drop (i + 1))).flatten (((us'.take (5 * n)).drop (5 * i)).drop 5) G3 := by
              have h1 := keepG s3 f9 t3
              have h2 := h1.mono (w' := y10) fun f hf' => f10.same f (h1.lt f hf') fun hh => nd2.2.2 f hh f hf' rfl
              exact keepG s3 f12 h2
            have m2 : TCells y12 (Ex.markE q a).cells [.int .i64 q, .int .i64 (q + 1), .bool ((q + 1 + 1).tmod 3 == 0), .int .i64 (q + 1 + 1 + 1), u] G2 := by
              have h1 := keepG s2 f12 t10
              have h2 := row_mk (a := Ex.markE q a) (u := u) (F := G2) (w := y12) (by rw [Ex.markE_kids]; exact h1)
              cases a; exact h2
            rw [hG1, hG2]
            exact m1.append (m2.append m3)
end Go.Proofs.Ytgpclhjdfdojhaa

/- Values given up to a call: what they lie in is nobody's from then on. No condition. -/
namespace Go.Av
def noneSt : StL → StL
  | [] => []
  | _ :: r => none :: noneSt r
theorem noneSt_length : ∀ l : StL, (noneSt l).length = l.length
  | [] => rfl
  | _ :: r => by simp [noneSt, noneSt_length r]
theorem noneSt_at : ∀ (l : StL) (j : Nat), stOf (noneSt l) j = none
  | [], _ => by simp [noneSt, stOf]
  | _ :: _, 0 => by simp [noneSt, stOf]
  | _ :: r, j + 1 => by simp only [noneSt, stOf]; exact noneSt_at r j
/-- The call of a function to which values are given. -/
def give (call : CallF) (g : FuncId) (args : List AV) (st : StL) : Option (AV × StL) :=
  bnd (viewAs (stOf st) args) fun us => bnd (call g us []) fun p => tst p.2.isEmpty (some (ren (fun _ => none) p.1, noneSt st))
open Classical in
/-- Memory, with what these blocks own taken in. -/
noncomputable def memG (w : World) (m : Mem) (φ : Pl) : Mem := fun b o => if ∃ id r n, φ id = some (r, n) ∧ n.own b then w.cell? ⟨b, o, none⟩ else m b o
theorem memG_own {w : World} {m : Mem} {φ : Pl} {id r f : Nat} {n : Ext} (e : φ id = some (r, n)) (h : n.own f) (o : Nat) : memG w m φ f o = w.cell? ⟨f, o, none⟩ := by
  unfold memG; rw [if_pos ⟨id, r, n, e, h⟩]
theorem memG_free {w : World} {m : Mem} {φ : Pl} {f : Nat} (h : Free φ f) (o : Nat) : memG w m φ f o = m f o := by
  unfold memG; rw [if_neg]; rintro ⟨id, r, n, e, k⟩; exact h id r n e k
theorem memG_le {w : World} {m : Mem} {φ : Pl} (h : MemOk w m) : MLe m (memG w m φ) := fun b o v e => by
  unfold memG; split
  · exact h b o v e
  · exact e
theorem memG_ok {w : World} {m : Mem} {φ : Pl} (h : MemOk w m) : MemOk w (memG w m φ) := fun b o v e => by
  unfold memG at e; split at e
  · exact e
  · exact h b o v e
theorem TCells.toM {w : World} {m : Mem} : ∀ {cs : List IV} {vs : List Value} {F : List Nat}, TCells w cs vs F → (∀ f ∈ F, ∀ o, m f o = w.cell? ⟨f, o, none⟩) → ICells m cs vs
  | _, _, _, .nil, _ => .nil
  | _, _, _, .lit o r, h => .cons (.lit _) o (r.toM h)
  | _, _, _, .isl0 c r, h => .cons (.isl0 _ _ c) rfl (r.toM h)
  | _, _, _, .isl (b := b) (k := k) (es := es) (us := us) hn ⟨T, hr⟩ hk hl hf hc g r, h => by
    refine .cons (.isl hn (elems_of_cells 0 hl (g.toM fun f hf => h f (by simp [hf])) fun j v hj => ?_) hc) rfl (r.toM fun f hf => h f (by simp [hf]))
    rw [h b (by simp), Nat.zero_add, cell_row hr]
    rw [List.getElem?_take] at hj
    split at hj
    · exact hj
    · cases hj
theorem viewC_give {w : World} {m : Mem} {φ : Pl} {st : Store} {c : AV} {x : Value} {iv : IV} (hi : Inv w m φ st) (hr : Rep m φ c x) (ho : x.oneCell' = true) (h : viewC st c = some iv) : IRep (memG w m φ) iv x := by
  have key : ∀ {st1 : Store}, absC st c = some (iv, st1) → IRep (memG w m φ) iv x := by
    intro st1 h1
    obtain ⟨F, O, k⟩ := absC_sound hi hr ho h1
    cases k.cells.toM (m := memG w m φ) (fun f hf o => by
      obtain ⟨_, _, id, b, n, blk, _, e, ho⟩ := k.free f (k.own f hf)
      exact memG_own e ho o) with
    | cons a _ _ => exact a
  unfold viewC at h
  split at h
  · injection h with h; subst h
    cases hr with
    | i hr => exact hr.mono (memG_le hi.mem)
  · injection h with h; subst h
    exact key (st1 := st) rfl
  · obtain ⟨es, h1, h2⟩ := bnd_eq.1 h
    injection h2 with h2; subst h2
    exact key (by simp only [absC]; rw [h1]; rfl)
  · cases h
theorem viewCs_give {w : World} {m : Mem} {φ : Pl} {st : Store} (hi : Inv w m φ st) : ∀ {cs : List AV} {xs : List Value} {l : List IV}, RepC m φ cs xs → viewCs st cs = some l → ICells (memG w m φ) l xs
  | [], _, l, .nil, h => by simp [viewCs] at h; subst h; exact .nil
  | c :: cs, _, l, .cons a o b, h => by
    simp only [viewCs] at h
    obtain ⟨v, h1, h2⟩ := bnd_eq.1 h
    obtain ⟨l', h3, h4⟩ := bnd_eq.1 h2
    injection h4 with h4; subst h4
    exact .cons (viewC_give hi a o h1) o (viewCs_give hi b h3)
theorem viewA_give {w : World} {m : Mem} {φ : Pl} {st : Store} {c : AV} {x : Value} {iv : IV} (hi : Inv w m φ st) (hr : Rep m φ c x) (h : viewA st c = some iv) : IRep (memG w m φ) iv x := by
  cases c with
  | agg cs =>
    simp only [viewA] at h
    obtain ⟨l, h1, h2⟩ := bnd_eq.1 h
    injection h2 with h2; subst h2
    cases hr with
    | agg hc => exact .agg (viewCs_give hi hc h1)
  | i v =>
    simp only [viewA, viewC] at h
    injection h with h; subst h
    cases hr with
    | i hr => exact hr.mono (memG_le hi.mem)
  | nils => cases hr; exact viewC_give hi .nils rfl (by simpa only [viewA] using h)
  | osl id k off len => cases hr with | osl a b c d e => exact viewC_give hi (.osl a b c d e) rfl (by simpa only [viewA] using h)
  | _ => simp [viewA, viewC] at h
theorem viewAs_give {w : World} {m : Mem} {φ : Pl} {st : Store} (hi : Inv w m φ st) : ∀ {cs us : List AV} {xs : List Value}, RepL m φ cs xs → viewAs st cs = some us → RepL (memG w m φ) (fun _ => none) us xs
  | [], us, _, .nil, h => by simp [viewAs] at h; subst h; exact .nil
  | c :: cs, us, _, .cons a b, h => by
    simp only [viewAs] at h
    obtain ⟨v, h1, h2⟩ := bnd_eq.1 h
    obtain ⟨l', h3, h4⟩ := bnd_eq.1 h2
    injection h4 with h4; subst h4
    exact .cons (.i (viewA_give hi a h1)) (viewAs_give hi b h3)
theorem give_sound {C : Ctx} {call : CallF} (hcall : CallOk C call) {g : FuncId} {args : List AV} {stl stl' : StL} {r : AV} (h : give call g args stl = some (r, stl')) :
    (∃ fn, C.P.funcs[g]? = some fn ∧ fn.name ≠ "runtime.NumGoroutine" ∧ fn.body.isSome = true) ∧ ∀ (w : World) (m : Mem) (φ : Pl) (vs : List Value), Inv w m φ (stOf stl) → RepL m φ args vs → (∀ id, φ id ≠ none → id < stl.length) →
      Calls C.P g vs.toArray w (CallPost w m φ r stl') := by
  unfold give at h
  obtain ⟨us, h1, h2⟩ := bnd_eq.1 h
  obtain ⟨p, h3, h4⟩ := bnd_eq.1 h2
  obtain ⟨h5, h6⟩ := tst_eq.1 h4
  injection h6 with h6; injection h6 with h6 h7; subst h6; subst h7
  refine ⟨hcall.name _ _ _ _ h3, fun w m φ vs hi hr hb => ?_⟩
  have hinv : Inv w (memG w m φ) (fun _ => none) (stOf []) := ⟨memG_ok hi.mem, fun id blk e => by simp [stOf] at e, fun i j b b' n n' b1 b2 f e => by simp [stOf] at e⟩
  refine (hcall.calls g us [] p.1 p.2 h3 w (memG w m φ) (fun _ => none) vs hinv (viewAs_give hi hr h1) (fun id h => absurd rfl h)).mono ?_
  rintro e w' ⟨v, m', φ', rfl, j1, j2, j3, j4⟩
  have free0 : ∀ b, Free (fun _ => none) b := fun b id r n e => by cases e
  refine ⟨v, m', φ, rfl, ?_, ⟨j2.mem, fun id blk e => (by rw [noneSt_at] at e; cases e), fun i j b b' n n' b1 b2 f e => (by rw [noneSt_at] at e; cases e)⟩,
    ⟨j3.size, j3.os, j3.tape, j3.output, fun b hb' _ => j3.block b hb' (free0 b), (memG_le hi.mem).trans j3.mle, fun b hb' hf o => by rw [j3.mnew b hb' (free0 b) o, memG_free hf o], .refl _, fun _ _ _ _ e ho => .inr (Free.not e ho)⟩, ?_⟩
  · exact j1.ren (r := fun _ => none) fun id j p e => by cases e
  · intro id hne; rw [noneSt_length]; exact hb id hne
end Go.Av

/- The context of the exact laws: what is lent, what is marked. No condition. -/
namespace Go.Av
theorem cellsL_inj : ∀ {l m : List Ex}, Ex.cellsL l = Ex.cellsL m → l = m := by
  have one : ∀ (a b : Ex), a.cells = b.cells → a = b := by
    intro a
    induction a using Ex.ind with
    | h k c v ks ih =>
      intro b hb
      rw [Ex.cells_eq, Ex.cells_eq] at hb
      obtain ⟨k', c', v', ks'⟩ := b
      simp only [Ex.kind, Ex.col, Ex.val, Ex.kids, List.cons.injEq, IV.lit.injEq, Value.int.injEq, Value.bool.injEq, IV.isl.injEq, true_and, and_true] at hb
      obtain ⟨rfl, rfl, h3, h4, h5⟩ := hb
      obtain ⟨n, x⟩ := v
      obtain ⟨n', x'⟩ := v'
      simp only at h3 h4
      subst h3; subst h4
      have : ∀ (l m : List Ex), (∀ a ∈ l, ∀ b, a.cells = b.cells → a = b) → Ex.cellsL l = Ex.cellsL m → l = m := by
        intro l
        induction l with
        | nil => intro m _ h; cases m with | nil => rfl | cons => simp [Ex.cellsL] at h
        | cons a l ihl =>
          intro m hl h
          cases m with
          | nil => simp [Ex.cellsL] at h
          | cons b m =>
            simp only [Ex.cellsL, List.cons.injEq] at h
            rw [hl a (by simp) b h.1, ihl m (fun x hx => hl x (by simp [hx])) h.2]
      rw [this ks ks' ih h5]
  intro l
  induction l with
  | nil => intro m h; cases m with | nil => rfl | cons => simp [Ex.cellsL] at h
  | cons a l ih =>
    intro m h
    cases m with
    | nil => simp [Ex.cellsL] at h
    | cons b m =>
      simp only [Ex.cellsL, List.cons.injEq] at h
      rw [one a b h.1, ih h.2]
theorem treB_inj {l m : List Ex} (h : treB l = treB m) : l = m := by
  unfold treB at h
  split at h <;> split at h
  · rename_i h1 h2; rw [h1, h2]
  · cases h
  · cases h
  · injection h with _ h; exact cellsL_inj h
/-- Marks put into a list of expressions. -/
noncomputable def markP : List AV → StL → Option (AV × StL)
  | [.osl 0 5 0 n, .i (.lit (.int .i64 k))], [some B] =>
    @dite _ (∃ l : List Ex, B = treB l ∧ l.length = n ∧ 0 ≤ k ∧ k + 4 * (Ex.sizeL l : Nat) < 1000000000000) (Classical.propDecidable _)
      (fun h => some (.int (k + 4 * (Ex.sizeL h.choose : Nat)), [some (treB (Ex.markL k h.choose))])) fun _ => none
  | [.i (.isl []), .i (.lit (.int .i64 k))], [] => tst (decide (0 ≤ k ∧ k < 1000000000000)) (some (.int k, []))
  | [.nils, .i (.lit (.int .i64 k))], [] => tst (decide (0 ≤ k ∧ k < 1000000000000)) (some (.int k, []))
  | _, _ => none
theorem markP_eq {l : List Ex} {k : Int} (h0 : 0 ≤ k) (h1 : k + 4 * (Ex.sizeL l : Nat) < 1000000000000) : markP [.osl 0 5 0 l.length, .int k] [some (treB l)] = some (.int (k + 4 * (Ex.sizeL l : Nat)), [some (treB (Ex.markL k l))]) := by
  have h : ∃ m : List Ex, treB l = treB m ∧ m.length = l.length ∧ 0 ≤ k ∧ k + 4 * (Ex.sizeL m : Nat) < 1000000000000 := ⟨l, rfl, rfl, h0, h1⟩
  unfold markP
  simp only
  rw [dif_pos h]
  have e : l = h.choose := treB_inj h.choose_spec.1
  rw [← e]
theorem markP_some {args : List AV} {st : StL} {r : AV × StL} (h : markP args st = some r) :
    (∃ (l : List Ex) (k : Int), args = [.osl 0 5 0 l.length, .int k] ∧ st = [some (treB l)] ∧ 0 ≤ k ∧ k + 4 * (Ex.sizeL l : Nat) < 1000000000000 ∧ r = (.int (k + 4 * (Ex.sizeL l : Nat)), [some (treB (Ex.markL k l))])) ∨
    ∃ k : Int, (args = [.i (.isl []), .int k] ∨ args = [.nils, .int k]) ∧ st = [] ∧ 0 ≤ k ∧ k < 1000000000000 ∧ r = (.int k, []) := by
  unfold markP at h
  split at h
  · rename_i n k B
    by_cases hc : ∃ l : List Ex, B = treB l ∧ l.length = n ∧ 0 ≤ k ∧ k + 4 * (Ex.sizeL l : Nat) < 1000000000000
    · rw [dif_pos hc] at h
      injection h with h
      obtain ⟨s1, s2, s3, s4⟩ := hc.choose_spec
      exact .inl ⟨hc.choose, k, by rw [s2], by rw [← s1], s3, s4, h.symm⟩
    · rw [dif_neg hc] at h; cases h
  · rename_i k
    obtain ⟨h1, h2⟩ := tst_eq.1 h
    injection h2 with h2
    obtain ⟨h3, h4⟩ := of_decide_eq_true h1
    exact .inr ⟨k, .inl rfl, rfl, h3, h4, h2.symm⟩
  · rename_i k
    obtain ⟨h1, h2⟩ := tst_eq.1 h
    injection h2 with h2
    obtain ⟨h3, h4⟩ := of_decide_eq_true h1
    exact .inr ⟨k, .inr rfl, rfl, h3, h4, h2.symm⟩
  · cases h
end Go.Av
namespace Go.Proofs.Ytgpclhjdfdojhaa
open Go Go.Av
set_option maxRecDepth 4000
set_option maxHeartbeats 2000000
theorem mark_sound {args : List AV} {stl stl' : StL} {r : AV} (h : markP args stl = some (r, stl')) (w : World) (m : Mem) (φ : Pl) (vs : List Value) (hi : Inv w m φ (stOf stl)) (hr : RepL m φ args vs) (hb : ∀ id, φ id ≠ none → id < stl.length) :
    Calls Try.prog 27 vs.toArray w (CallPost w m φ r stl') := by
  -- nothing in it
  have empty : ∀ (v : Value) (k : Int) (st : StL), TCells w [.isl []] [v] [] → 0 ≤ k → k < 1000000000000 → Inv w m φ (stOf st) → (∀ id, φ id ≠ none → id < st.length) → Calls Try.prog 27 #[v, .int .i64 k] w (CallPost w m φ (.int k) st) := by
    intro v k st hT hk0 hk1 hi hb
    refine (markS_calls Ex.zero w v [] k (by simpa [Ex.zero, Ex.kids, Ex.cellsL] using hT) (by simp) hk0 (by simpa [Ex.zero, Ex.kids, Ex.sizeL] using hk1)).mono ?_
    rintro en w' ⟨rfl, fr, _, _⟩
    have hsame : ∀ f, f < w.heap.size → w'.heap[f]? = w.heap[f]? := fun f hf => fr.same f hf (by simp)
    refine ⟨_, m, φ, rfl, ?_, ⟨fun b o u e => by rw [cell_of_heap (hsame b (hi.mem.lt e))]; exact hi.mem b o u e, ?_, hi.inj⟩, ⟨fr.size, fr.os, fr.tape, fr.output, fun b hb _ => hsame b hb, .refl _, fun _ _ _ _ => rfl, .refl _, fun _ _ _ _ e ho => .inr (Free.not e ho)⟩, hb⟩
    · simp [Ex.zero, Ex.kids, Ex.sizeL]; exact .i (.lit _)
    · intro id blk e
      obtain ⟨b, n, q1, q2, q3⟩ := hi.live id blk e
      exact ⟨b, n, q1, ⟨q2.1, fun f hf => Nat.lt_of_lt_of_le (q2.2 f hf) fr.size⟩, q3.mono q2.1 (fun f hf => hsame f (q2.2 f hf)) (.refl _) (.refl _) fun _ _ _ => rfl⟩
  rcases markP_some h with ⟨l, k, rfl, rfl, hk0, hk1, hrr⟩ | ⟨k, ha, rfl, hk0, hk1, hrr⟩
  · injection hrr with e1 e2; subst e1; subst e2
    cases hr with
    | cons ra rb =>
      cases rb with
      | cons rk rn =>
        cases rn
        cases rk with
        | i rk =>
          cases rk
          cases ra with
          | @osl _ _ _ _ cap b n ao eφ hlc hcap ha1 ha2 =>
            by_cases hl : l = []
            · subst hl
              have := empty (.slice ao 0 cap) k [some (treB [])] (.isl0 ha2 .nil) hk0 (by simpa [Ex.sizeL] using hk1) hi hb
              simpa [Ex.sizeL, Ex.markL] using this
            · have hln : 0 < l.length := List.length_pos_iff.2 hl
              have hst : stOf [some (treB l)] 0 = some (.tre 5 (Ex.cellsL l)) := by rw [treB_pos hl]; rfl
              obtain ⟨hown, hok⟩ := blk_own hi eφ hst
              have hao := ha1 (by omega)
              subst hao
              cases hok with
              | @tre T kk es us F hh hlen hpos hw1 hc hfit hnd hF hm =>
                have hcl : (Ex.cellsL l).length = l.length := by simp
                have hne : Ex.cellsL l ≠ [] := fun h => by rw [h] at hcl; simp at hcl; omega
                have hT : TCells w [.isl (Ex.cellsL l)] [.slice (some ⟨b, 5 * 0, none⟩) l.length cap] (b :: F ++ []) := by
                  have := TCells.isl (w := w) (b := b) (k := 5) (cap := cap) (us := us) (G := F) hne ⟨T, hh⟩ hpos hw1 (by rw [hlen]; simpa using hcap) (by omega) hc .nil
                  rwa [hcl] at this
                rw [List.append_nil] at hT
                refine (markS_calls (.mk 0 0 Val.zero l) w _ (b :: F) k hT hnd hk0 hk1).mono ?_
                rintro en w' ⟨rfl, fr, ht, hrl⟩
                simp only [kids_mk] at ht hrl ⊢
                have hmlen := Ex.markL_length l k
                have hml : Ex.markL k l ≠ [] := fun h => by rw [h] at hmlen; simp at hmlen; omega
                obtain ⟨us1, hr1, hl1⟩ := hrl b cap us rfl hl ⟨T, hh⟩
                have hFo : ∀ f ∈ b :: F, n.own f := fun f hf => by
                  rcases List.mem_cons.1 hf with rfl | hf
                  · exact hown.1
                  · exact hF f hf
                have hsame : ∀ f, f < w.heap.size → ¬ n.own f → w'.heap[f]? = w.heap[f]? := fun f hf hno => fr.same f hf fun h => hno (hFo f h)
                refine ⟨_, m, φ, rfl, .i (.lit _), ⟨fun b' o u e => ?_, ?_, ?_⟩, ⟨fr.size, fr.os, fr.tape, fr.output, fun f hf hfree => hsame f hf (hfree 0 b n eφ), .refl _, fun _ _ _ _ => rfl, .refl _, fun _ _ _ _ e ho => .inr (Free.not e ho)⟩, hb⟩
                · rw [cell_of_heap (hsame b' (hi.mem.lt e) fun ho => by rw [hm b' ho o] at e; cases e)]; exact hi.mem b' o u e
                · intro id blk e
                  cases id with
                  | succ id => simp [stOf] at e
                  | zero =>
                    simp only [stOf] at e
                    rw [treB_pos hml] at e
                    injection e with e; subst e
                    refine ⟨b, n, eφ, ⟨hown.1, fun f hf => Nat.lt_of_lt_of_le (hown.2 f hf) fr.size⟩, ?_⟩
                    have hcm : (Ex.cellsL (Ex.markL k l)).length = l.length := by rw [show (Ex.cellsL (Ex.markL k l)).length = (Ex.markL k l).length by simp, hmlen]
                    generalize hes : Ex.cellsL (Ex.markL k l) = es2 at ht hcm
                    generalize hvv : Value.slice (some ⟨b, 5 * 0, none⟩) l.length cap = vv at ht
                    generalize hFF : b :: F = FF at ht
                    cases ht with
                    | isl0 => simp at hcm; omega
                    | @isl b2 k2 cap2 _ us2 G2 _ _ F2 h1 h2 h3 h4 h5 h6 h7 h8 =>
                      cases h8
                      injection hvv with hv1 hv2 hv3
                      injection hv1 with hv1; injection hv1 with hv1
                      subst hv1
                      simp only [List.append_nil, List.cons.injEq, true_and] at hFF
                      subst hFF
                      obtain ⟨T1, hr1⟩ := hr1
                      obtain ⟨T2, h2⟩ := h2
                      rw [h2] at hr1
                      injection hr1 with hr1; injection hr1 with hr1 hr2
                      have hus : us2 = us1 := by simpa using congrArg Array.toList hr1
                      subst hus
                      obtain rfl : k2 = 5 := by
                        cases hml2 : Ex.markL k l with
                        | nil => exact absurd hml2 hml
                        | cons x xs => rw [← h4 x.cells (by rw [← hes, hml2]; simp [Ex.cellsL]), Ex.cells_eq]; rfl
                      exact .tre (T := T2) h2 (by rw [hl1]; exact hlen) (by omega) h4 h7 (by rw [hcm, ← hcl]; exact hfit) hnd hF hm
                · intro i j x x' n1 n2 b1 b2 f e1 e2 _ _ _ _
                  cases i with
                  | succ i => simp [stOf] at e1
                  | zero => cases j with
                    | zero => rfl
                    | succ j => simp [stOf] at e2
  · injection hrr with e1 e2; subst e1; subst e2
    rcases ha with rfl | rfl
    · cases hr with
      | cons ra rb =>
        cases rb with
        | cons rk rn =>
          cases rn
          cases rk with
          | i rk =>
            cases rk
            cases ra with
            | i ra =>
              cases ra with
              | isl0 ao cap hc => exact empty _ k [] (.isl0 hc .nil) hk0 hk1 hi hb
              | isl hn => exact absurd rfl hn
    · cases hr with
      | cons ra rb =>
        cases rb with
        | cons rk rn =>
          cases rn
          cases rk with
          | i rk =>
            cases rk
            cases ra
            exact empty _ k [] (.isl0 (fun _ => rfl) .nil) hk0 hk1 hi hb
noncomputable def primL : FuncId → Option (List AV → StL → Option (AV × StL))
  | 27 => some markP
  | 26 => none
  | 30 => none
  | 5 => none
  | 6 => none
  | 7 => none
  | 12 => some (give (callA CT) 12)
  | 17 => some (give (callA CT) 17)
  | 33 => some (give (callA CT) 33)
  | g => some (lend (callA CT) g)
noncomputable def CL : Ctx := { P := Try.prog, G := GS, ownArgs := fun _ => true, keepRes := fun _ => false, eqT := eqTy, prim := primL, tree := true }
@[simp] theorem CL_P : CL.P = Try.prog := (rfl)
@[simp] theorem CL_G (f) : CL.G f = GS f := (rfl)
@[simp] theorem CL_o (f) : CL.ownArgs f = true := (rfl)
@[simp] theorem CL_k (f) : CL.keepRes f = false := (rfl)
@[simp] theorem CL_e (f) : CL.eqT f = eqTy f := (rfl)
@[simp] theorem CL_t : CL.tree = true := (rfl)
theorem primL0 : CallOk CL (primCall CL) := by
  have h0 := callA_sound soundT
  have key : ∀ g q, CL.prim g = some q → (g = 27 ∧ q = markP) ∨ q = give (callA CT) g ∨ q = lend (callA CT) g := by
    intro g q h
    have h : primL g = some q := h
    unfold primL at h
    split at h <;> first | (cases h; done) | (injection h with h; exact .inl ⟨rfl, h.symm⟩) | (injection h with h; exact .inr (.inl h.symm)) | (injection h with h; exact .inr (.inr h.symm))
  constructor
  · intro g args st p h
    unfold primCall at h
    cases hq : CL.prim g with
    | none => rw [hq] at h; cases h
    | some q =>
      rw [hq] at h
      rcases key g q hq with ⟨rfl, rfl⟩ | rfl | rfl
      · exact ⟨Try.f27, Try.func27, by decide, rfl⟩
      · exact (give_sound h0 (r := p.1) (stl' := p.2) h).1
      · exact (lend_sound h0 (r := p.1) (stl' := p.2) h).1
  · intro g args st r st' h w m φ vs hi hr hb
    unfold primCall at h
    cases hq : CL.prim g with
    | none => rw [hq] at h; cases h
    | some q =>
      rw [hq] at h
      rcases key g q hq with ⟨rfl, rfl⟩ | rfl | rfl
      · exact mark_sound h w m φ vs hi hr hb
      · exact (give_sound h0 h).2 w m φ vs hi hr hb
      · exact (lend_sound h0 h).2 w m φ vs hi hr hb
theorem soundL : SoundOk CL := sound_ok (C := CL) ft nt (fun t ht => by
  have h : eqTy t = true := ht
  unfold eqTy at h
  split at h
  · exact e23
  · exact e24
  · exact e42
  · cases h) mo primL0
end Go.Proofs.Ytgpclhjdfdojhaa

/- What is called in the exact laws. No condition. -/
namespace Go.Av
theorem absE_mark (l : List Ex) (k : Int) : absE 5 0 l.length (some (treB (Ex.markL k l))) = some (Ex.cellsL (Ex.markL k l)) := by
  have := absE_treB (Ex.markL k l)
  rwa [Ex.markL_length] at this
theorem bareLL_vals : ∀ l : List Val, bareLL (valsL l) = true
  | [] => rfl
  | v :: l => by simp [valsL, bareLL, bareL, bareC, bareLL_vals l]
attribute [simp] lend give viewAs viewA viewCs viewC mfA mfR mfRs mfCs mfC mfSt shiftSt noneSt
attribute [simp] mfB.eq_1 mfB.eq_2 mfB.eq_6
theorem cells_mk (k c : Int) (v : Val) (ks : List Ex) : (Ex.mk k c v ks).cells = [.int k, .int c, .bool v.null, .int v.n, .isl (Ex.cellsL ks)] := by simp [Ex.cells]
attribute [simp] absE_mark bareLL_vals
end Go.Av
namespace Go.Proofs.Ytgpclhjdfdojhaa
open Go Go.Av
set_option maxRecDepth 4000
set_option maxHeartbeats 2000000
@[simp] theorem ctp_sz (args : List AV) (st : StL) : callA CT 20 args st = callA C0 20 args st := callA_prim (C := CT) rfl args st
@[simp] theorem ctp_szS (args : List AV) (st : StL) : callA CT 21 args st = callA C0 21 args st := callA_prim (C := CT) rfl args st
@[simp] theorem ctp_szV (args : List AV) (st : StL) : callA CT 32 args st = callA C0 32 args st := callA_prim (C := CT) rfl args st
@[simp] theorem ctp_sB (args : List AV) (st : StL) : callA CT 33 args st = callA C0 33 args st := callA_prim (C := CT) rfl args st
@[simp] theorem ctp_sE (args : List AV) (st : StL) : callA CT 17 args st = callA C0 17 args st := callA_prim (C := CT) rfl args st
@[simp] theorem ctp_eE (args : List AV) (st : StL) : callA CT 24 args st = callA C0 24 args st := callA_prim (C := CT) rfl args st
@[simp] theorem ctp_eS (args : List AV) (st : StL) : callA CT 25 args st = callA C0 25 args st := callA_prim (C := CT) rfl args st
@[simp] theorem ctp_eV (args : List AV) (st : StL) : callA CT 29 args st = callA C0 29 args st := callA_prim (C := CT) rfl args st
@[simp] theorem ctp_hE (args : List AV) (st : StL) : callA CT 28 args st = callA C0 28 args st := callA_prim (C := CT) rfl args st
@[simp] theorem ctp_hV (args : List AV) (st : StL) : callA CT 31 args st = callA C0 31 args st := callA_prim (C := CT) rfl args st
theorem c_sz {e : Ex} (hf : e.fat) {left : Int} (h0 : 0 ≤ left) (h1 : left < 1000000000) : callA CL 20 [.i (.agg e.cells), .int left] [] = some (.int (leftOf left (Ex.sizeL e.kids)), []) := by
  rw [callA_prim (C := CL) (p := lend (callA CT) 20) rfl]
  simp [sz_eq e hf left h0 h1]
theorem c_szV {vs : List Val} (hl : vs.length < 9223372036854775808) {left : Int} (h0 : 0 ≤ left) (h1 : left < 1000000000) : callA CL 32 [.i (.isl (valsL vs)), .int left] [] = some (.int (leftOf left vs.length), []) := by
  rw [callA_prim (C := CL) (p := lend (callA CT) 32) rfl]
  simp [szV_eq vs hl left h0 h1]
theorem c_toE {e : Ex} (ht : e.thin) : callA CL 22 [.i (.agg e.cells)] [] = some (tX e 0, [some (treB e.kids)]) := by
  rw [callA_prim (C := CL) (p := lend (callA CT) 22) rfl]
  simp [toE_eq e ht, tX]
theorem c_toV {vs : List Val} (hl : vs.length < 1000000000) : callA CL 34 [.i (.isl (valsL vs))] [] = some (.osl 0 2 0 vs.length, [some (.arr 2 (valsL vs))]) := by
  rw [callA_prim (C := CL) (p := lend (callA CT) 34) rfl]
  simp [toVS_eq vs hl]
theorem c_sB {e : Ex} {w : Int} {vs : List Val} (hl : vs.length < 1000000000) (hw0 : -9223372036854775808 ≤ w) (hw1 : w < 9223372036854775808) : callA CL 33 [tX e 0, .int w, .osl 1 2 0 vs.length] [some (treB e.kids), some (.arr 2 (valsL vs))] = some (resE (e.bindO w vs), [none, none]) := by
  rw [callA_prim (C := CL) (p := give (callA CT) 33) rfl]
  have h := sbind_eq (e := e) hl hw0 hw1
  rw [Ex.cells_eq] at h
  cases ho : e.bindO w vs with
  | none => rw [ho] at h; simp [tX, h, resE]
  | some x => rw [ho] at h; simp [tX, h, resE]
/-- What Bind answers, its values beside what was lent. -/
def resBL (B : StL) : Option Ex → AV × StL
  | none => (.tup [zT, .bool false], B)
  | some x => if x.kids = [] then (.tup [.i (.agg x.cells), .bool true], B) else (.tup [tX x B.length, .bool true], B ++ [some (treB x.kids)])
theorem c_iB {e : Ex} {w : Int} {vs : List Val} (hl : vs.length < 1000000000) (hw0 : -9223372036854775808 ≤ w) (hw1 : w < 9223372036854775808) : callA CL 19 [tX e 0, .int w, .osl 1 2 0 vs.length] [some (treB e.kids), some (.arr 2 (valsL vs))] = some (resBL [some (treB e.kids), some (.arr 2 (valsL vs))] (e.bindO w vs)) := by
  rw [callA_prim (C := CL) (p := lend (callA CT) 19) rfl]
  have h := ibindT_eq (e := e) hl hw0 hw1
  rw [Ex.cells_eq] at h
  cases ho : e.bindO w vs with
  | none => rw [ho] at h; simp [tX, h, resBT, resBL, zT]
  | some x =>
    rw [ho] at h
    by_cases hx : x.kids = []
    · simp only [resBT, hx, if_true] at h
      simp [tX, h, resBL, hx, Ex.cells_eq, Ex.cellsL]
    · simp only [resBT, hx, if_false] at h
      simp [tX, h, resBL, hx]
/-! Equal -/
theorem c_eq0 {x : Ex} (h : x.fat) : callA CL 24 [.i (.agg x.cells), .i (.agg x.cells)] [] = some (.bool true, []) := by
  rw [callA_prim (C := CL) (p := lend (callA CT) 24) rfl]
  simp [eqE_refl x h]
theorem c_eqz : callA CL 24 [zT, .i (.agg Ex.zero.cells)] [] = some (.bool true, []) := by
  rw [callA_prim (C := CL) (p := lend (callA CT) 24) rfl]
  have := eqE_refl Ex.zero (by simp [Ex.zero, Ex.fat, Ex.fatL])
  rw [zero_cells] at this
  simp [zT, zero_cells, this]
theorem c_eq1 {x : Ex} (h : x.fat) : callA CL 24 [tX x 0, .i (.agg x.cells)] [some (treB x.kids)] = some (.bool true, [some (treB x.kids)]) := by
  rw [callA_prim (C := CL) (p := lend (callA CT) 24) rfl]
  have := eqE_refl x h
  rw [Ex.cells_eq] at this ⊢
  simp [tX, this]
theorem c_eq2 {x : Ex} (h : x.fat) : callA CL 24 [tX x 0, tX x 1] [some (treB x.kids), some (treB x.kids)] = some (.bool true, [some (treB x.kids), some (treB x.kids)]) := by
  rw [callA_prim (C := CL) (p := lend (callA CT) 24) rfl]
  have := eqE_refl x h
  rw [Ex.cells_eq] at this
  simp [tX, this]
theorem c_eqV {vs : List Val} (hl : vs.length < 9223372036854775808) : callA CL 29 [.osl 0 2 0 vs.length, .osl 1 2 0 vs.length] [some (.arr 2 (valsL vs)), some (.arr 2 (valsL vs))] = some (.bool true, [some (.arr 2 (valsL vs)), some (.arr 2 (valsL vs))]) := by
  rw [callA_prim (C := CL) (p := lend (callA CT) 29) rfl]
  simp [eqVS_refl vs hl]
/-! Marks -/
theorem c_mk1 {x : Ex} {k : Int} (h0 : 0 ≤ k) (h1 : k + 4 * (Ex.sizeL x.kids : Nat) < 1000000000000) : callA CL 26 [tX x 0, .int k] [some (treB x.kids)] = some (.int (k + 4 * (Ex.sizeL x.kids : Nat)), [some (treB (Ex.markL k x.kids))]) := by
  rw [callA_eq rfl Try.func26 rfl rfl]
  have hm : callA CL 27 [.osl 0 5 0 x.kids.length, .int k] [some (treB x.kids)] = some (.int (k + 4 * (Ex.sizeL x.kids : Nat)), [some (treB (Ex.markL k x.kids))]) := by
    rw [callA_prim (C := CL) (p := markP) rfl]; exact markP_eq h0 h1
  simp [tX, hm]
theorem c_mk0 {x : Ex} {k : Int} (hx : x.kids = []) (h0 : 0 ≤ k) (h1 : k < 1000000000000) : callA CL 26 [.i (.agg x.cells), .int k] [] = some (.int k, []) := by
  rw [callA_eq rfl Try.func26 rfl rfl]
  have hm : callA CL 27 [.i (.isl []), .int k] [] = some (.int k, []) := by
    rw [callA_prim (C := CL) (p := markP) rfl]; simp [markP, h0, h1]
  rw [Ex.cells_eq, hx]
  simp [Ex.cellsL, hm]
theorem c_mkz {k : Int} (h0 : 0 ≤ k) (h1 : k < 1000000000000) : callA CL 26 [zT, .int k] [] = some (.int k, []) := by
  rw [callA_eq rfl Try.func26 rfl rfl]
  have hm : callA CL 27 [.nils, .int k] [] = some (.int k, []) := by
    rw [callA_prim (C := CL) (p := markP) rfl]; simp [markP, h0, h1]
  simp [zT, hm]
/-! What is held -/
theorem c_held1 {x : Ex} {k : Int} (h0 : 0 ≤ k) (h1 : k + 4 * (Ex.sizeL x.kids : Nat) < 1000000000000) : callA CL 28 [tX x 0, .int k] [some (treB (Ex.markL k x.kids))] = some (.int (k + 4 * (Ex.sizeL x.kids : Nat)), [some (treB (Ex.markL k x.kids))]) := by
  rw [callA_prim (C := CL) (p := lend (callA CT) 28) rfl]
  obtain ⟨kd, cl, vl, ks⟩ := x
  rw [kids_mk] at h1 ⊢
  have h := heldE_of (e := .mk kd cl vl (Ex.markL k ks)) (k := k) (by omega) (heldS_eq (.mk kd cl vl ks) k h0 h1)
  rw [cells_mk, kids_mk] at h
  simp [tX_mk, h]
theorem c_held0 {x : Ex} {k : Int} (hx : x.kids = []) (h0 : 0 ≤ k) (h1 : k < 1000000000000) : callA CL 28 [.i (.agg x.cells), .int k] [] = some (.int k, []) := by
  rw [callA_prim (C := CL) (p := lend (callA CT) 28) rfl]
  have h2 := heldS_eq x k h0 (by simp [hx, Ex.sizeL]; omega)
  rw [hx] at h2
  simp [Ex.markL, Ex.cellsL, Ex.sizeL] at h2
  have h := heldE_of (e := x) (k := k) h0 (by rw [hx]; simpa [Ex.cellsL] using h2)
  simp [h]
theorem c_heldz {k : Int} (h0 : 0 ≤ k) (h1 : k < 1000000000000) : callA CL 28 [zT, .int k] [] = some (.int k, []) := by
  have h := c_held0 (x := Ex.zero) (k := k) rfl h0 h1
  rw [callA_prim (C := CL) (p := lend (callA CT) 28) rfl] at h ⊢
  rw [zero_cells] at h
  simpa [zT] using h
def MV (l : List Val) (k : Int) (i : Nat) : AS :=
  { env := [(0, .osl 0 2 0 l.length), (1, .int (k + 2 * i)), (4, .int 0), (5, .int i), (9, jk i (.bool true))], st := [some (.arr 2 (valsL ((markV k l).take i ++ l.drop i)))] }
theorem c_mkV {l : List Val} {k : Int} (hk : 0 ≤ k) (hk1 : k < 1000000000000) (hl : l.length < 1000000000) : callA CL 30 [.osl 0 2 0 l.length, .int k] [some (.arr 2 (valsL l))] = some (.int (k + 2 * (l.length : Nat)), [some (.arr 2 (valsL (markV k l)))]) := by
  rw [callA_eq rfl Try.func30 rfl rfl]
  have hlen := markV_length l k
  simp
  rw [loop_to (MV l k) l.length (by simp [MV])]
  · rw [execA_loop]
    have hT : (markV k l).take l.length = markV k l := List.take_of_length_le (by omega)
    simp [MV, hT]
  · intro i hi
    have h3 := List.getElem?_eq_getElem hi
    have hmn := markV_nth l k hi
    have w2 : IntKind.i64.wrap ((i : Int) + 1) = i + 1 := wrap64 (by omega) (by omega)
    have hdr : l.drop i = l[i] :: l.drop (i + 1) := List.drop_eq_getElem_cons hi
    have htk : (markV k l).take (i + 1) = (markV k l).take i ++ [⟨(k + 2 * (i : Int)).tmod 3 == 0, k + 2 * (i : Int) + 1⟩] := take_snoc hmn
    generalize hq : k + 2 * (i : Int) = q at htk
    have w3 : IntKind.i64.wrap (q + 1) = q + 1 := wrap64 (by omega) (by omega)
    have w4 : IntKind.i64.wrap (q + 1 + 1) = q + 1 + 1 := wrap64 (by omega) (by omega)
    have hn : k + 2 * (((i : Nat) : Int) + 1) = q + 1 + 1 := by omega
    generalize l[i] = v at hdr
    have hA : (valsL ((markV k l).take i)).length = i := by simp; omega
    have put : ∀ x : List IV, (valsL ((markV k l).take i) ++ [.bool v.null, .int v.n] :: valsL (l.drop (i + 1))).set i x = valsL ((markV k l).take i) ++ x :: valsL (l.drop (i + 1)) := fun x => by
      rw [List.set_append_right _ _ (by omega), hA]; simp
    have put2 : ∀ x y : List IV, (valsL ((markV k l).take i) ++ y :: valsL (l.drop (i + 1))).set i x = valsL ((markV k l).take i) ++ x :: valsL (l.drop (i + 1)) := fun x y => by
      rw [List.set_append_right _ _ (by omega), hA]; simp
    have nth : ∀ y : List IV, nthE (valsL ((markV k l).take i) ++ y :: valsL (l.drop (i + 1))) i = some y := fun y => by
      rw [nthE_eq, List.getElem?_append_right (by omega), hA]; simp
    have e1 : valsL ((markV k l).take i ++ l.drop i) = valsL ((markV k l).take i) ++ [.bool v.null, .int v.n] :: valsL (l.drop (i + 1)) := by rw [valsL_append, hdr]; simp [valsL]
    have e2 : valsL ((markV k l).take (i + 1) ++ l.drop (i + 1)) = valsL ((markV k l).take i) ++ [.bool (q.tmod 3 == 0), .int (q + 1)] :: valsL (l.drop (i + 1)) := by rw [htk, valsL_append, valsL_append]; simp [valsL]
    simp only [MV, e1, e2]
    simp [hi, hq, hn, w2, w3, w4, nth, put2]
end Go.Proofs.Ytgpclhjdfdojhaa

/- The law that Bind returns what the reference's returns. No condition. -/
namespace Go.Av
theorem Ex.thin_fat : ∀ (e : Ex), e.thin → e.fat := by
  intro e
  induction e using Ex.ind with
  | h k c v ks ih =>
    intro h
    have h' := (Ex.thin_iff _).1 h
    exact (Ex.fat_iff _).2 ⟨by have := h'.1; omega, fun a ha => ih a ha (h'.2 a ha)⟩
end Go.Av
namespace Go.Proofs.Ytgpclhjdfdojhaa
open Go Go.Av
set_option maxRecDepth 8000
set_option maxHeartbeats 8000000
theorem bindO_some {e x : Ex} {w : Int} {vs : List Val} (h : e.bindO w vs = some x) : e.size < 10000 ∧ x.size < 10000 := by
  unfold Ex.bindO at h
  split at h
  · rename_i hc
    injection h with h
    simp only [Bool.and_eq_true, decide_eq_true_eq] at hc
    obtain ⟨h1, h2, h3⟩ := hc
    have h6 : 1 ≤ w + vs.length ∧ w + vs.length ≤ 6 := by simp [Ex.ok, okWidth] at h3; omega
    obtain ⟨n, rfl⟩ : ∃ n : Nat, w = n := ⟨w.toNat, by omega⟩
    have := bind_ok (e := e) (w := n) (vs := vs) (by simp [okWidth]; omega) h1 h3
    simp only [Int.toNat_natCast] at h
    rw [h] at this
    have a1 := Ex.ok_size this
    have a2 := Ex.ok_size h3
    exact ⟨by omega, by omega⟩
  · cases h
theorem lawX_bind {e : Ex} {w : Int} {vs : List Val} (hf : e.fat) (hl : vs.length < 9223372036854775808) (hw0 : -9223372036854775808 ≤ w) (hw1 : w < 9223372036854775808) :
    callA CL 7 [.i (.agg e.cells), .int w, .i (.isl (valsL vs))] [] = some (.bool true, []) := by
  rw [callA_eq rfl Try.func7 rfl rfl]
  have f1 := c_sz hf (left := 1048576) (by omega) (by omega)
  by_cases hs : ((Ex.sizeL e.kids : Nat) : Int) ≤ 1048576
  case neg =>
    simp only [leftOf, if_neg hs] at f1
    rw [Ex.cells_eq] at f1 ⊢
    simp [f1]
  simp only [leftOf, if_pos hs] at f1
  have f2 := c_szV hl (left := 1048576 - (Ex.sizeL e.kids : Nat)) (by omega) (by omega)
  by_cases hv : ((vs.length : Nat) : Int) ≤ 1048576 - (Ex.sizeL e.kids : Nat)
  case neg =>
    simp only [leftOf, if_neg hv] at f2
    rw [Ex.cells_eq] at f1 ⊢
    simp [f1, f2, show ¬ (1048576 - ((Ex.sizeL e.kids : Nat) : Int)) < 0 by omega]
  simp only [leftOf, if_pos hv] at f2
  have hthin : e.thin := Ex.thin_of_size e (by rw [Ex.size_eq]; omega)
  have f3 := c_toE hthin
  have f4 := c_toV (vs := vs) (by omega)
  have f5 := c_sB (e := e) (w := w) (vs := vs) (by omega) hw0 hw1
  have f6 := c_iB (e := e) (w := w) (vs := vs) (by omega) hw0 hw1
  have f8 := c_eq2 hf
  have f9 := c_eqV (vs := vs) hl
  have f10 := c_mk1 (x := e) (k := 1) (by omega) (by omega)
  have f11 := c_mkV (l := vs) (k := 1 + 4 * (Ex.sizeL e.kids : Nat)) (by omega) (by omega) (by omega)
  have n1 : ¬ (1048576 - ((Ex.sizeL e.kids : Nat) : Int)) < 0 := by omega
  have n2 : ¬ (1048576 - ((Ex.sizeL e.kids : Nat) : Int) - ((vs.length : Nat) : Int)) < 0 := by omega
  have n3 : ¬ (1 + 4 * ((Ex.sizeL e.kids : Nat) : Int) + 2 * ((vs.length : Nat) : Int)) < 0 := by omega
  cases ho : e.bindO w vs with
  | none =>
    rw [ho] at f5 f6
    simp only [resE, resBL, zT] at f5 f6
    have f7 := c_eqz
    have f13 := c_mkz (k := 1) (by omega) (by omega)
    have f14 := c_heldz (k := 1) (by omega) (by omega)
    rw [zero_cells] at f5 f7
    simp only [zT] at f7 f13 f14
    rw [Ex.cells_eq] at f1 f3 ⊢
    simp only [tX] at f3 f5 f6 f8 f10
    simp [f1, f2, f3, f4, f5, f6, f7, f8, f9, f10, f11, f13, f14, n1, n2, n3]
  | some x =>
    obtain ⟨hes, hxs⟩ := bindO_some ho
    have hxthin : x.thin := Ex.thin_of_size x (by omega)
    have hxs2 := Ex.size_eq x
    rw [ho] at f5 f6
    simp only [resE] at f5
    by_cases hx : x.kids = []
    · simp only [resBL, hx, if_true] at f6
      have f7 := c_eq0 (Ex.thin_fat x hxthin)
      have f13 := c_mk0 (x := x) (k := 1) hx (by omega) (by omega)
      have f14 := c_held0 (x := x) (k := 1) hx (by omega) (by omega)
      rw [Ex.cells_eq x, hx] at f5 f6 f7 f13 f14
      rw [Ex.cells_eq] at f1 f3 ⊢
      simp only [tX] at f3 f5 f6 f8 f10
      simp [f1, f2, f3, f4, f5, f6, f7, f8, f9, f10, f11, f13, f14, n1, n2, n3]
    · simp only [resBL, hx, if_false] at f6
      have f7 := c_eq1 (Ex.thin_fat x hxthin)
      have f13 := c_mk1 (x := x) (k := 1) (by omega) (by omega)
      have f14 := c_held1 (x := x) (k := 1) (by omega) (by omega)
      rw [Ex.cells_eq x] at f5 f7
      rw [Ex.cells_eq] at f1 f3 ⊢
      simp only [tX] at f3 f5 f6 f7 f8 f10 f13 f14
      have n4 : ¬ (1 + 4 * ((Ex.sizeL x.kids : Nat) : Int)) < 0 := by omega
      simp at f6
      simp [f1, f2, f3, f4, f5, f6, f7, f8, f9, f10, f11, f13, f14, n1, n2, n3, n4]
end Go.Proofs.Ytgpclhjdfdojhaa

/- Drawing conditions and lists of values. No condition. -/
namespace Go.Proofs.Ytgpclhjdfdojhaa
open Go Go.Av
set_option maxRecDepth 4000
set_option maxHeartbeats 4000000
/-- A drawn column. -/
def colX (c : Int) : Ex := .mk 1 c Val.zero []
def two (k : Int) (a b : Ex) : Ex := .mk k 0 Val.zero [a, b]
theorem colX_cells (c : Int) : (colX c).cells = [.int 1, .int c, .bool false, .int 0, .isl []] := by simp [colX, Ex.cells, Ex.cellsL, Val.zero]
theorem two_cells (k : Int) (a b : Ex) : (two k a b).cells = [.int k, .int 0, .bool false, .int 0, .isl [a.cells, b.cells]] := by simp [two, Ex.cells, Ex.cellsL, Val.zero]
def costC : Nat → Nat
  | 0 => 40
  | n + 1 => costC n + 40
theorem cond_step (l : List UInt8) (hl : l.length ≤ 2000) (w : Int) (n c : Nat) (hn : n ≤ 3) (p : Int) (h0 : 0 ≤ p) (h1 : p + 10 * n < 500000000)
    (ih : n = 0 ∨ ∀ p : Int, 0 ≤ p → p + 10 * ((n : Int) - 1) < 500000000 → ∃ (e : Ex) (p' : Int), callA C0 76 [.own 0 0, .int w, .int ((n : Int) - 1)] [Rd l p] = some (.i (.agg e.cells), [Rd l p']) ∧ p ≤ p' ∧ p' ≤ p + c ∧ e.size ≤ c) :
    ∃ (e : Ex) (p' : Int), callA C0 76 [.own 0 0, .int w, .int n] [Rd l p] = some (.i (.agg e.cells), [Rd l p']) ∧ p ≤ p' ∧ p' ≤ p + (c + 40 : Nat) ∧ e.size ≤ c + 40 := by
  obtain ⟨c1, hc1, -, -⟩ := pick_eq l p w h0 (by omega) hl
  obtain ⟨x, hx, -, -⟩ := pick_eq l (p + 1) 4 (by omega) (by omega) hl
  obtain ⟨t, ht, -, -⟩ := pick_eq l (p + 1 + 1) 3 (by omega) (by omega) hl
  obtain ⟨c2, hc2, -, -⟩ := pick_eq l (p + 1 + 1 + 1) w (by omega) (by omega) hl
  have hcon := constant_eq ⟨false, x⟩
  rw [show (Ex.mk 2 0 ⟨false, x⟩ []).cells = (constE ⟨false, x⟩).cells from rfl] at hcon
  simp at hcon
  have wn : IntKind.i64.wrap ((n : Int) - 1) = n - 1 := wrap64 (by omega) (by omega)
  by_cases g : t = 0
  · obtain ⟨k, hk, -, -⟩ := pick_eq l (p + 1 + 1 + 1 + 1) 8 (by omega) (by omega) hl
    by_cases k0 : k = 0
    · obtain ⟨e, p', he, a1, a2, a3⟩ := randomExpr2 l hl w (p + 1 + 1 + 1 + 1 + 1) (by omega) (by omega)
      refine ⟨e, p', ?_, by omega, by omega, by omega⟩
      rw [callA_eq rfl Try.func76 rfl rfl]
      simp [hc1, hx, ht, hk, hcon, g, hc2, colX_cells, constE_cells, two_cells, Ex.cellsL, k0, he]
    by_cases k1 : k = 1
    · refine ⟨.mk 10 0 Val.zero [.mk 11 0 Val.zero [colX c1]], p + 1 + 1 + 1 + 1 + 1, ?_, by omega, by omega, by simp [colX, Ex.size, Ex.sizeL]⟩
      rw [callA_eq rfl Try.func76 rfl rfl]
      simp [hc1, hx, ht, hk, hcon, g, hc2, colX_cells, constE_cells, two_cells, Ex.cellsL, k1, Ex.cells, Val.zero]
    by_cases k2 : k = 2
    · rcases ih with rfl | ih
      · refine ⟨two 7 (colX c1) (colX c2), p + 1 + 1 + 1 + 1 + 1, ?_, by omega, by omega, by simp [two, colX, constE, Ex.size, Ex.sizeL]⟩
        rw [callA_eq rfl Try.func76 rfl rfl]
        simp [hc1, hx, ht, hk, hcon, g, hc2, colX_cells, constE_cells, two_cells, Ex.cellsL, k2]
      · by_cases n0 : n = 0
        · refine ⟨two 7 (colX c1) (colX c2), p + 1 + 1 + 1 + 1 + 1, ?_, by omega, by omega, by simp [two, colX, constE, Ex.size, Ex.sizeL]⟩
          rw [callA_eq rfl Try.func76 rfl rfl]
          simp [hc1, hx, ht, hk, hcon, g, hc2, colX_cells, constE_cells, two_cells, Ex.cellsL, k2, n0]
        · obtain ⟨e, p', he, a1, a2, a3⟩ := ih (p + 1 + 1 + 1 + 1 + 1) (by omega) (by omega)
          refine ⟨two 8 e (two 6 (colX c1) (colX c2)), p', ?_, by omega, by omega, by simp [two, colX, constE, Ex.size, Ex.sizeL]; omega⟩
          rw [callA_eq rfl Try.func76 rfl rfl]
          simp [hc1, hx, ht, hk, hcon, g, hc2, colX_cells, constE_cells, two_cells, Ex.cellsL, k2, n0, wn, he]
    by_cases k3 : k = 3
    · refine ⟨two 7 (colX c2) (colX c1), p + 1 + 1 + 1 + 1 + 1, ?_, by omega, by omega, by simp [two, colX, constE, Ex.size, Ex.sizeL]⟩
      rw [callA_eq rfl Try.func76 rfl rfl]
      simp [hc1, hx, ht, hk, hcon, g, hc2, colX_cells, constE_cells, two_cells, Ex.cellsL, k3]
    by_cases k4 : k = 4
    · refine ⟨two 7 (colX c2) (colX c1), p + 1 + 1 + 1 + 1 + 1, ?_, by omega, by omega, by simp [two, colX, constE, Ex.size, Ex.sizeL]⟩
      rw [callA_eq rfl Try.func76 rfl rfl]
      simp [hc1, hx, ht, hk, hcon, g, hc2, colX_cells, constE_cells, two_cells, Ex.cellsL, k4]
    by_cases k5 : k = 5
    · refine ⟨two 7 (colX c1) (colX c2), p + 1 + 1 + 1 + 1 + 1, ?_, by omega, by omega, by simp [two, colX, constE, Ex.size, Ex.sizeL]⟩
      rw [callA_eq rfl Try.func76 rfl rfl]
      simp [hc1, hx, ht, hk, hcon, g, hc2, colX_cells, constE_cells, two_cells, Ex.cellsL, k5]
    refine ⟨two 6 (colX c1) (colX c2), p + 1 + 1 + 1 + 1 + 1, ?_, by omega, by omega, by simp [two, colX, constE, Ex.size, Ex.sizeL]⟩
    rw [callA_eq rfl Try.func76 rfl rfl]
    simp [hc1, hx, ht, hk, hcon, g, hc2, colX_cells, constE_cells, two_cells, Ex.cellsL, k0, k1, k2, k3, k4, k5]
  · obtain ⟨k, hk, -, -⟩ := pick_eq l (p + 1 + 1 + 1) 8 (by omega) (by omega) hl
    by_cases k0 : k = 0
    · obtain ⟨e, p', he, a1, a2, a3⟩ := randomExpr2 l hl w (p + 1 + 1 + 1 + 1) (by omega) (by omega)
      refine ⟨e, p', ?_, by omega, by omega, by omega⟩
      rw [callA_eq rfl Try.func76 rfl rfl]
      simp [hc1, hx, ht, hk, hcon, g, colX_cells, constE_cells, two_cells, Ex.cellsL, k0, he]
    by_cases k1 : k = 1
    · refine ⟨.mk 10 0 Val.zero [.mk 11 0 Val.zero [colX c1]], p + 1 + 1 + 1 + 1, ?_, by omega, by omega, by simp [colX, Ex.size, Ex.sizeL]⟩
      rw [callA_eq rfl Try.func76 rfl rfl]
      simp [hc1, hx, ht, hk, hcon, g, colX_cells, constE_cells, two_cells, Ex.cellsL, k1, Ex.cells, Val.zero]
    by_cases k2 : k = 2
    · rcases ih with rfl | ih
      · refine ⟨two 7 (colX c1) (constE ⟨false, x⟩), p + 1 + 1 + 1 + 1, ?_, by omega, by omega, by simp [two, colX, constE, Ex.size, Ex.sizeL]⟩
        rw [callA_eq rfl Try.func76 rfl rfl]
        simp [hc1, hx, ht, hk, hcon, g, colX_cells, constE_cells, two_cells, Ex.cellsL, k2]
      · by_cases n0 : n = 0
        · refine ⟨two 7 (colX c1) (constE ⟨false, x⟩), p + 1 + 1 + 1 + 1, ?_, by omega, by omega, by simp [two, colX, constE, Ex.size, Ex.sizeL]⟩
          rw [callA_eq rfl Try.func76 rfl rfl]
          simp [hc1, hx, ht, hk, hcon, g, colX_cells, constE_cells, two_cells, Ex.cellsL, k2, n0]
        · obtain ⟨e, p', he, a1, a2, a3⟩ := ih (p + 1 + 1 + 1 + 1) (by omega) (by omega)
          refine ⟨two 8 e (two 6 (colX c1) (constE ⟨false, x⟩)), p', ?_, by omega, by omega, by simp [two, colX, constE, Ex.size, Ex.sizeL]; omega⟩
          rw [callA_eq rfl Try.func76 rfl rfl]
          simp [hc1, hx, ht, hk, hcon, g, colX_cells, constE_cells, two_cells, Ex.cellsL, k2, n0, wn, he]
    by_cases k3 : k = 3
    · refine ⟨two 7 (constE ⟨false, x⟩) (colX c1), p + 1 + 1 + 1 + 1, ?_, by omega, by omega, by simp [two, colX, constE, Ex.size, Ex.sizeL]⟩
      rw [callA_eq rfl Try.func76 rfl rfl]
      simp [hc1, hx, ht, hk, hcon, g, colX_cells, constE_cells, two_cells, Ex.cellsL, k3]
    by_cases k4 : k = 4
    · refine ⟨two 7 (constE ⟨false, x⟩) (colX c1), p + 1 + 1 + 1 + 1, ?_, by omega, by omega, by simp [two, colX, constE, Ex.size, Ex.sizeL]⟩
      rw [callA_eq rfl Try.func76 rfl rfl]
      simp [hc1, hx, ht, hk, hcon, g, colX_cells, constE_cells, two_cells, Ex.cellsL, k4]
    by_cases k5 : k = 5
    · refine ⟨two 7 (colX c1) (constE ⟨false, x⟩), p + 1 + 1 + 1 + 1, ?_, by omega, by omega, by simp [two, colX, constE, Ex.size, Ex.sizeL]⟩
      rw [callA_eq rfl Try.func76 rfl rfl]
      simp [hc1, hx, ht, hk, hcon, g, colX_cells, constE_cells, two_cells, Ex.cellsL, k5]
    refine ⟨two 6 (colX c1) (constE ⟨false, x⟩), p + 1 + 1 + 1 + 1, ?_, by omega, by omega, by simp [two, colX, constE, Ex.size, Ex.sizeL]⟩
    rw [callA_eq rfl Try.func76 rfl rfl]
    simp [hc1, hx, ht, hk, hcon, g, colX_cells, constE_cells, two_cells, Ex.cellsL, k0, k1, k2, k3, k4, k5]
theorem cond_eq (l : List UInt8) (hl : l.length ≤ 2000) (w : Int) : ∀ (n : Nat), n ≤ 3 → ∀ p : Int, 0 ≤ p → p + 10 * n < 500000000 → ∃ (e : Ex) (p' : Int), callA C0 76 [.own 0 0, .int w, .int n] [Rd l p] = some (.i (.agg e.cells), [Rd l p']) ∧ p ≤ p' ∧ p' ≤ p + costC n ∧ e.size ≤ costC n
  | 0, hn, p, h0, h1 => cond_step l hl w 0 0 hn p h0 h1 (.inl rfl)
  | n + 1, hn, p, h0, h1 => by
    refine cond_step l hl w (n + 1) (costC n) hn p h0 h1 (.inr fun q q0 q1 => ?_)
    rw [show ((n + 1 : Nat) : Int) - 1 = n by omega] at q1 ⊢
    exact cond_eq l hl w n (by omega) q q0 q1
end Go.Proofs.Ytgpclhjdfdojhaa

/- Extraction and binding, as data; drawing the arguments of Extract. No condition. -/
namespace Go.Av
theorem headOk_mk (w k c : Int) (v : Val) (ks : List Ex) : Ex.headOk w (.mk k c v ks) = if k = 1 then decide (0 ≤ c) && (decide (c < w) && (!v.null && v.n == 0)) else if k = 2 then decide (c = 0) && v.ok else decide (c = 0) && (!v.null && v.n == 0) := (rfl)
theorem wf_mk (w k c : Int) (v : Val) (ks : List Ex) : Ex.wf w (.mk k c v ks) = (decide ((ks.length : Int) = kidsK k) && (Ex.headOk w (.mk k c v ks) && ks.all (Ex.wf w))) := Ex.wf_eq w _
theorem extL_map {w : Int} {α : Type} (P : Ex → α) (Q : Ex → α) : ∀ (l : List Ex) (vs : List Val), (∀ x ∈ l, ∀ us, P (Ex.ext w us x).1 = Q x) → (Ex.extL w vs l).1.map P = l.map Q
  | [], vs, h => by simp [Ex.extL]
  | e :: es, vs, h => by
    simp only [Ex.extL, List.map_cons]
    rw [h e (by simp) vs, extL_map P Q es _ fun x hx => h x (by simp [hx])]
theorem ext_len (w : Int) : ∀ (l : List Ex) (vs : List Val), (Ex.extL w vs l).1.length = l.length
  | [], _ => by simp [Ex.extL]
  | a :: l, vs => by simp [Ex.extL, ext_len w l]
theorem htL_map (l m : List Ex) (h : l.map Ex.ht = m.map Ex.ht) : Ex.htL l = Ex.htL m := by
  induction l generalizing m with
  | nil => cases m with | nil => rfl | cons b m => simp at h
  | cons a l ih =>
    cases m with
    | nil => simp at h
    | cons b m => simp at h; simp only [Ex.htL, h.1, ih m h.2]
theorem ext_ht {w : Int} : ∀ (e : Ex), e.wf w = true → ∀ vs : List Val, (Ex.ext w vs e).1.ht = e.ht := by
  intro e
  induction e using Ex.ind with
  | h k c v ks ih =>
    intro h vs
    by_cases hk : k = 2
    · have hks := Ex.wf_constKids h hk
      simp only [Ex.kids] at hks
      subst hks
      rw [Ex.ext_const w vs (e := .mk k c v []) hk]; simp [Ex.ht]
    · rw [Ex.ext_not w vs (e := .mk k c v ks) hk]
      simp only [Ex.kind, Ex.col, Ex.kids, Ex.ht]
      exact htL_map _ _ (extL_map Ex.ht Ex.ht ks vs fun x hx us => ih x hx (Ex.wf_kids h hx) us)
theorem ext_mono (w : Int) (vs : List Val) (e : Ex) : vs.length ≤ (Ex.ext w vs e).2.length := by
  obtain ⟨l, h, _⟩ := Ex.ext_app w vs e; rw [h]; simp
theorem extL_mono (w : Int) (vs : List Val) (l : List Ex) : vs.length ≤ (Ex.extL w vs l).2.length := by
  obtain ⟨r, h, _⟩ := Ex.extL_app w vs l; rw [h]; simp
theorem extL_wf {w m : Int} : ∀ (l : List Ex) (vs : List Val), (∀ x ∈ l, ∀ us : List Val, w + (Ex.ext w us x).2.length ≤ m → (Ex.ext w us x).1.wf m = true) → w + (Ex.extL w vs l).2.length ≤ m → ∀ x ∈ (Ex.extL w vs l).1, x.wf m = true
  | [], vs, h, hm, x, hx => by simp [Ex.extL] at hx
  | e :: es, vs, h, hm, x, hx => by
    simp only [Ex.extL] at hx hm
    have := extL_mono w (Ex.ext w vs e).2 es
    rcases List.mem_cons.1 hx with rfl | hx
    · exact h e (by simp) vs (by omega)
    · exact extL_wf es _ (fun y hy => h y (by simp [hy])) hm x hx
theorem ext_wf {w m : Int} (h0 : 0 ≤ w) : ∀ (e : Ex), e.wf w = true → ∀ vs : List Val, w + (Ex.ext w vs e).2.length ≤ m → (Ex.ext w vs e).1.wf m = true := by
  intro e
  induction e using Ex.ind with
  | h k c v ks ih =>
    intro h vs hm
    by_cases hk : k = 2
    · rw [Ex.ext_const w vs (e := .mk k c v ks) hk] at hm ⊢
      simp only [List.length_append, List.length_cons, List.length_nil] at hm
      rw [wf_mk, headOk_mk]
      simp [kidsK, Val.zero]
      omega
    · have hv := Ex.wf_val h hk
      rw [Ex.ext_not w vs (e := .mk k c v ks) hk] at hm ⊢
      have hkl := fun x hx => ih x hx (Ex.wf_kids h hx)
      simp only [Ex.kind, Ex.col, Ex.kids, Ex.val] at hm ⊢ hv
      subst hv
      have hml := extL_mono w vs ks
      rw [wf_mk, headOk_mk] at h ⊢
      rw [ext_len]
      simp only [Bool.and_eq_true, decide_eq_true_eq, List.all_eq_true, if_neg hk] at h ⊢
      refine ⟨h.1, ?_, extL_wf ks vs hkl hm⟩
      have h2 := h.2.1
      by_cases h1 : k = 1
      · simp only [if_pos h1, Bool.and_eq_true, decide_eq_true_eq] at h2 ⊢; exact ⟨h2.1, by omega, h2.2.2⟩
      · simp only [if_neg h1] at h2 ⊢; exact h2
theorem extL_vals {w : Int} : ∀ (l : List Ex) (vs : List Val), (∀ x ∈ l, ∀ us : List Val, us.all Val.ok = true → (Ex.ext w us x).2.all Val.ok = true) → vs.all Val.ok = true → (Ex.extL w vs l).2.all Val.ok = true
  | [], vs, h, hv => by simpa [Ex.extL] using hv
  | e :: es, vs, h, hv => by
    simp only [Ex.extL]
    exact extL_vals es _ (fun y hy => h y (by simp [hy])) (h e (by simp) vs hv)
theorem ext_vals {w : Int} : ∀ (e : Ex), e.wf w = true → ∀ vs : List Val, vs.all Val.ok = true → (Ex.ext w vs e).2.all Val.ok = true := by
  intro e
  induction e using Ex.ind with
  | h k c v ks ih =>
    intro h vs hv
    by_cases hk : k = 2
    · rw [Ex.ext_const w vs (e := .mk k c v ks) hk]
      rw [wf_mk, headOk_mk] at h
      simp [hk] at h
      simp only [List.all_append, hv, Ex.val, List.all_cons, List.all_nil, h.2.1.2, Bool.and_self]
    · rw [Ex.ext_not w vs (e := .mk k c v ks) hk]
      exact extL_vals ks vs (fun x hx => ih x hx (Ex.wf_kids h hx)) hv
theorem extL_sub {w : Int} {f : Ex → Ex} {us : List Val} : ∀ (l : List Ex) (vs : List Val), (∀ x ∈ l, ∀ vs : List Val, (∃ r, us = (Ex.ext w vs x).2 ++ r) → f (Ex.ext w vs x).1 = x) → (∃ r, us = (Ex.extL w vs l).2 ++ r) → (Ex.extL w vs l).1.map f = l
  | [], vs, h, hu => by simp [Ex.extL]
  | e :: es, vs, h, ⟨r, hu⟩ => by
    simp only [Ex.extL] at hu ⊢
    obtain ⟨q, hq, _⟩ := Ex.extL_app w (Ex.ext w vs e).2 es
    rw [List.map_cons, h e (by simp) vs ⟨q ++ r, by rw [hu, hq, List.append_assoc]⟩, extL_sub es _ (fun y hy => h y (by simp [hy])) ⟨r, hu⟩]
/-- Binding undoes extraction. -/
theorem ext_sub {w : Nat} {us : List Val} : ∀ (e : Ex), e.wf w = true → ∀ vs : List Val, (∃ r, us = (Ex.ext w vs e).2 ++ r) → (Ex.ext w vs e).1.sub (bindL w us) = e := by
  intro e
  induction e using Ex.ind with
  | h k c v ks ih =>
    intro h vs hu
    by_cases hk : k = 2
    · have hks := Ex.wf_constKids h hk
      rw [wf_mk, headOk_mk] at h
      simp [hk] at h
      obtain ⟨r, hu⟩ := hu
      rw [Ex.ext_const w vs (e := .mk k c v ks) hk] at hu ⊢
      simp only [Ex.val] at hu ⊢
      have hg : us[(w + vs.length) - w]? = some v := by rw [hu]; simp
      have hb := bindL_hi (w := w) (i := w + vs.length) (by omega) hg
      rw [Ex.sub_col _ (e := .mk 1 _ Val.zero []) rfl (b := constE v) (by rw [← hb]; congr 1)]
      simp only [Ex.kids] at hks
      simp [constE, hk, hks, h.2.1.1]
    · have hv := Ex.wf_val h hk
      rw [Ex.ext_not w vs (e := .mk k c v ks) hk] at hu ⊢
      simp only [Ex.kind, Ex.col, Ex.kids, Ex.val] at hu ⊢ hv
      subst hv
      by_cases h1 : k = 1
      · obtain ⟨c0, c1, ck⟩ := Ex.wf_col h h1
        simp only [Ex.kids, Ex.col] at ck c0 c1
        subst ck
        have hb := bindL_lo (w := w) (vs := us) (i := c.toNat) (by omega)
        rw [Ex.sub_col _ (e := .mk k c Val.zero (Ex.extL w vs []).1) h1 hb]
        simp [colE, h1]; omega
      · rw [Ex.sub_not _ (e := .mk k c Val.zero (Ex.extL w vs ks).1) h1]
        simp only [Ex.kind, Ex.col, Ex.val, Ex.kids]
        rw [extL_sub ks vs (fun x hx us' hus => ih x hx (Ex.wf_kids h hx) us' hus) hu]
theorem ext_bind {e x : Ex} {w : Nat} {us : List Val} (h : e.extO w = some (x, us)) : x.bindO w us = some e := by
  unfold Ex.extO at h
  split at h
  · rename_i hc
    injection h with h
    simp only [Bool.and_eq_true, decide_eq_true_eq] at hc
    obtain ⟨ho, hl⟩ := hc
    have ho' := ho
    simp only [Ex.ok, Ex.vB_eq, Bool.and_eq_true, decide_eq_true_eq] at ho'
    obtain ⟨o1, o2, o3⟩ := ho'
    have hw : 1 ≤ w := by simp [okWidth] at o1; omega
    have e1 : (Ex.ext w [] e).1 = x := by rw [h]
    have e2 : (Ex.ext w [] e).2 = us := by rw [h]
    have k1 := ext_vals e o2 [] (by simp)
    have k2 := ext_wf (m := w + (Ex.ext w [] e).2.length) (by omega) e o2 [] (by omega)
    have k3 := ext_ht e o2 []
    have k4 := ext_sub (us := us) e o2 [] ⟨[], by rw [e2]; simp⟩
    rw [e1, e2] at k2
    rw [e1] at k3 k4
    rw [e2] at k1 hl
    have ko : x.ok ((w : Int) + us.length) = true := by
      simp only [Ex.ok, Ex.vB_eq, Bool.and_eq_true, decide_eq_true_eq, k3, k2, o3, and_true, true_and]
      simp [okWidth]; omega
    simp only [Ex.bindO, k1, ko, Int.toNat_natCast, k4]
    simp; omega
  · cases h
end Go.Av
namespace Go.Proofs.Ytgpclhjdfdojhaa
open Go Go.Av
set_option maxRecDepth 4000
set_option maxHeartbeats 2000000
def RowsX (vs : List Val) (i : Nat) : AS :=
  { env := [(0, .i (.isl (valsL vs))), (1, .i (.isl (valsL vs))), (4, .bool false), (5, .int i), (10, .bool false), (14, jk i (.bool true)), (25, jk i (.bool false))], st := [] }
theorem equalRows_refl {vs : List Val} (hl : vs.length < 1000000000) : callA C0 18 [.i (.isl (valsL vs)), .i (.isl (valsL vs))] [] = some (.bool true, []) := by
  rw [callA_eq rfl Try.func18 rfl rfl]
  simp
  rw [loop_to (RowsX vs) vs.length (by simp [RowsX])]
  · rw [execA_loop]
    simp [RowsX]
  · intro i hi
    have h3 := List.getElem?_eq_getElem hi
    have r2 := valsL_nth h3
    have w2 : IntKind.i64.wrap ((i : Int) + 1) = i + 1 := wrap64 (by omega) (by omega)
    simp [RowsX, hi, r2, w2]
theorem randomCondition_eq (l : List UInt8) (hl : l.length ≤ 2000) (w p : Int) (h0 : 0 ≤ p) (h1 : p < 400000000) : ∃ (e : Ex) (p' : Int), callA C0 51 [.own 0 0, .int w] [Rd l p] = some (.i (.agg e.cells), [Rd l p']) ∧ p ≤ p' ∧ p' ≤ p + 120 ∧ e.size ≤ 120 := by
  obtain ⟨e, p', he, a1, a2, a3⟩ := cond_eq l hl w 2 (by omega) p h0 (by omega)
  refine ⟨e, p', ?_, a1, a2, a3⟩
  rw [callA_eq rfl Try.func51 rfl rfl]
  rw [show ((2 : Nat) : Int) = 2 from rfl, Ex.cells_eq] at he
  rw [Ex.cells_eq]
  simp [he]
theorem drawExtract_eq (code : List UInt8) : ∃ (e : Ex) (w : Int), callA C0 15 [.i (.isl (bytesI code))] [] = some (.tup [.i (.agg e.cells), .int w], []) ∧ e.size ≤ 120 ∧ 1 ≤ w ∧ w ≤ 3 := by
  obtain ⟨c, hc, hr⟩ := newReader_eq code
  obtain ⟨k, hk, hk1, -⟩ := pick_eq c 0 3 (by omega) (by omega) hc
  obtain ⟨k0, k1⟩ := hk1 (by omega)
  have w1 : IntKind.i64.wrap (1 + k) = 1 + k := wrap64 (by omega) (by omega)
  obtain ⟨t, ht, -, -⟩ := pick_eq c (0 + 1) 2 (by omega) (by omega) hc
  simp at hk ht
  by_cases hg : t = 0
  · obtain ⟨e, p2, he, a1, a2, a3⟩ := randomCondition_eq c hc (1 + k) 2 (by omega) (by omega)
    refine ⟨e, 1 + k, ?_, a3, by omega, by omega⟩
    rw [callA_eq rfl Try.func15 rfl rfl]
    rw [Ex.cells_eq] at he ⊢
    simp [hr, hk, w1, ht, hg, he]
  · obtain ⟨e, p2, he, a1, a2, a3⟩ := anyExpr_eq c hc (1 + k) 2 (by omega) (by omega)
    refine ⟨e, 1 + k, ?_, by omega, by omega, by omega⟩
    rw [callA_eq rfl Try.func15 rfl rfl]
    rw [Ex.cells_eq] at he ⊢
    simp [hr, hk, w1, ht, hg, he]
end Go.Proofs.Ytgpclhjdfdojhaa

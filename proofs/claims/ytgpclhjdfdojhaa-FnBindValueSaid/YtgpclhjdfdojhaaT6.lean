/- Part 6 of what the proof rests on: the executor and what it is worth, and the program's functions as it runs them. No condition. -/
import Derived.Test.YtgpclhjdfdojhaaT5
set_option linter.unusedVariables false
set_option linter.unusedSimpArgs false
/- The law on bound values. No condition. -/
namespace Go.Av
def rowQ (m : Nat) (w : Nat) : List Val := (List.range w).map fun (i : Nat) => ⟨false, Int.tmod ((m : Int) + (i : Int)) 4 - 1⟩
@[simp] theorem rowQ_length (m w : Nat) : (rowQ m w).length = w := by simp [rowQ]
theorem rowQ_succ (m w : Nat) : rowQ m (w + 1) = rowQ m w ++ [⟨false, Int.tmod (m + w) 4 - 1⟩] := by simp [rowQ, List.range_succ]
theorem rowQ_ok (m w : Nat) : (rowQ m w).all Val.ok = true := by
  rw [List.all_eq_true]; intro v hv
  simp [rowQ] at hv
  obtain ⟨i, hi, rfl⟩ := hv
  have := Int.tmod_nonneg (a := (m : Int) + i) 4 (by omega)
  have := Int.tmod_lt_of_pos ((m : Int) + i) (b := 4) (by omega)
  simp [Val.ok]; omega
theorem colE_wf {w : Int} {i : Nat} (h : (i : Int) < w) : (colE i).wf w = true := by
  simp [Ex.wf_eq, colE, Ex.kids, Ex.kind, Ex.headOk, Ex.col, Ex.val, Val.zero, kidsK, h]
theorem constE_wf {w : Int} {v : Val} (h : v.ok = true) : (constE v).wf w = true := by
  simp [Ex.wf_eq, constE, Ex.kids, Ex.kind, Ex.headOk, Ex.col, Ex.val, kidsK, h]
theorem bindL_wf {w : Nat} {vs : List Val} (h : vs.all Val.ok = true) : ∀ b ∈ bindL w vs, b.wf w = true ∧ b.ht = 0 := by
  intro b hb
  unfold bindL at hb
  rcases List.mem_append.1 hb with h1 | h1
  · simp [colsE] at h1; obtain ⟨i, hi, rfl⟩ := h1; exact ⟨colE_wf (by omega), by simp [colE, Ex.ht, Ex.htL]⟩
  · obtain ⟨v, hv, rfl⟩ := List.mem_map.1 h1; exact ⟨constE_wf (List.all_eq_true.1 h v hv), by simp [constE, Ex.ht, Ex.htL]⟩
theorem sub_ht {m : Int} (l : List Ex) (hm : m = l.length) (hl : ∀ b ∈ l, b.ht = 0) : ∀ (e : Ex), e.wf m = true → (e.sub l).ht = e.ht := by
  intro e
  induction e using Ex.ind with
  | h k c v ks ih =>
    intro h
    by_cases hk : k = 1
    · obtain ⟨h0, h1, h2⟩ := Ex.wf_col h hk
      have hi : c.toNat < l.length := by simp [Ex.col] at h0 h1; omega
      have hb := List.getElem?_eq_getElem hi
      rw [Ex.sub_col l (e := .mk k c v ks) hk hb, hl _ (List.getElem_mem hi), Ex.ht_eq, h2]; rfl
    · rw [Ex.sub_not l (e := .mk k c v ks) hk]
      simp only [Ex.ht, Ex.kids]
      have : ∀ q : List Ex, (∀ x ∈ q, (Ex.sub l x).ht = x.ht) → Ex.htL (q.map (Ex.sub l)) = Ex.htL q := by
        intro q
        induction q with
        | nil => intro _; rfl
        | cons a q ihq => intro hq; simp only [List.map_cons, Ex.htL, hq a (by simp), ihq fun x hx => hq x (by simp [hx])]
      exact this ks fun x hx => ih x hx (Ex.wf_kids h hx)
theorem bind_ok {e : Ex} {w : Nat} {vs : List Val} (hw : okWidth w = true) (hv : vs.all Val.ok = true) (h : e.ok ((w : Int) + vs.length) = true) : (e.sub (bindL w vs)).ok w = true := by
  simp only [Ex.ok, Ex.vB_eq, Bool.and_eq_true, decide_eq_true_eq] at h ⊢
  have hlen : ((w : Int) + vs.length) = (bindL w vs).length := by simp
  refine ⟨hw, Ex.wf_sub (m := (w : Int) + vs.length) _ hlen (fun b hb => (bindL_wf hv b hb).1) e h.2.1, ?_⟩
  rw [sub_ht (m := (w : Int) + vs.length) _ hlen (fun b hb => (bindL_wf hv b hb).2) e h.2.1]
  exact h.2.2
theorem bind_ev {e : Ex} {w : Nat} {vs row : List Val} (hr : row.length = w) (h : e.wf ((w : Int) + vs.length) = true) : (e.sub (bindL w vs)).ev row = e.ev (row ++ vs) := by
  rw [ev_sub (m := (w : Int) + vs.length) _ (by simp) row e h]
  congr 1
  unfold bindL
  rw [List.map_append]
  congr 1
  · apply List.ext_getElem
    · simp [hr]
    · intro i h1 h2
      simp [colsE, colE, Ex.ev, evN, List.getElem?_eq_getElem h2]
  · rw [List.map_map]
    have : (Ex.ev row ∘ constE) = id := by funext v; simp [constE, Ex.ev, evN]
    rw [this, List.map_id]
end Go.Av
namespace Go.Proofs.Ytgpclhjdfdojhaa
open Go Go.Av
set_option maxRecDepth 4000
set_option maxHeartbeats 2000000
theorem drawBind_eq (code : List UInt8) : ∃ (e : Ex) (w : Int) (vs : List Val), callA C0 35 [.i (.isl (bytesI code))] [] = some (.tup [.i (.agg e.cells), .int w, .i (.isl (valsL vs))], []) ∧ e.size ≤ 39 ∧ vs.length ≤ 3 ∧ -10 < w ∧ w < 10 := by
  obtain ⟨c, hc, hr⟩ := newReader_eq code
  obtain ⟨k, hk, hk1, -⟩ := pick_eq c 0 3 (by omega) (by omega) hc
  obtain ⟨k0, k1⟩ := hk1 (by omega)
  have w1 : IntKind.i64.wrap (1 + k) = 1 + k := wrap64 (by omega) (by omega)
  simp at hk
  obtain ⟨vs, p1, hv, v1, v2, v3⟩ := someValues_eq c hc 1 (by omega) (by omega)
  by_cases hl : (3 : Int) < vs.length
  · have h3 : min 3 vs.length = 3 := by omega
    have hl' : 3 ≤ vs.length := by omega
    have w2 : IntKind.i64.wrap (1 + k + 3) = 1 + k + 3 := wrap64 (by omega) (by omega)
    obtain ⟨e, p2, he, a1, a2, a3⟩ := anyExpr_eq c hc (1 + k + 3) p1 (by omega) (by omega)
    obtain ⟨t, ht, -, -⟩ := pick_eq c p2 16 (by omega) (by omega) hc
    by_cases hg : t = 0
    · obtain ⟨x, hx, hm⟩ := one_eq c (p2 + 1) (by omega) (by omega) hc [[.int 0], [.int (-1)], [.int 6]] (by simp) (by simp) (by simp)
      refine ⟨e, x, vs.take 3, ?_, a3, by simp; omega, ?_⟩
      · rw [callA_eq rfl Try.func35 rfl rfl]
        simp at hx
        simp [hr, hk, w1, w2, hv, hl, Int.le_of_lt hl, h3, hl', he, ht, hg, hx]
      · simp at hm; omega
    · refine ⟨e, 1 + k, vs.take 3, ?_, a3, by simp; omega, by omega⟩
      rw [callA_eq rfl Try.func35 rfl rfl]
      simp [hr, hk, w1, w2, hv, hl, Int.le_of_lt hl, h3, hl', he, ht, hg]
  · have w2 : IntKind.i64.wrap (1 + k + vs.length) = 1 + k + vs.length := wrap64 (by omega) (by omega)
    have hT : vs.take vs.length = vs := List.take_of_length_le (by simp)
    obtain ⟨e, p2, he, a1, a2, a3⟩ := anyExpr_eq c hc (1 + k + vs.length) p1 (by omega) (by omega)
    obtain ⟨t, ht, -, -⟩ := pick_eq c p2 16 (by omega) (by omega) hc
    by_cases hg : t = 0
    · obtain ⟨x, hx, hm⟩ := one_eq c (p2 + 1) (by omega) (by omega) hc [[.int 0], [.int (-1)], [.int 6]] (by simp) (by simp) (by simp)
      refine ⟨e, x, vs, ?_, a3, by omega, ?_⟩
      · rw [callA_eq rfl Try.func35 rfl rfl]
        simp at hx
        simp [hr, hk, w1, w2, hv, hl, he, ht, hg, hx, hT]
      · simp at hm; omega
    · refine ⟨e, 1 + k, vs, ?_, a3, by omega, by omega⟩
      rw [callA_eq rfl Try.func35 rfl rfl]
      simp [hr, hk, w1, w2, hv, hl, he, ht, hg, hT]
def Y3 (code more : List UInt8) (e x : Ex) (n : Nat) (vs : List Val) (i : Nat) : AS :=
  { env := [(0, .i (.isl (bytesI code))), (1, .i (.isl (bytesI more))), (4, .bool false), (5, .own 0 0), (6, .int n), (7, .i (.isl (valsL vs))), (8, .own 1 0), (9, .bool true), (10, .own 2 0), (11, .bool true), (12, .osl 3 2 0 i), (13, .int i), (14, .junk), (15, .junk), (16, .junk), (17, .junk), (25, .bool false), (62, .bool false), (74, jk i (.bool true))],
    st := [some (.box (impI e.cells)), some (.box (impI x.cells)), some (.box (impI x.cells)), some (.arr 2 (valsL (rowQ more.length i)))] }
theorem law_bind (code more : List UInt8) : callA C0 8 [.i (.isl (bytesI code)), .i (.isl (bytesI more))] [] = some (.bool true, []) := by
  by_cases hc : (1048576 : Int) < code.length
  · rw [callA_eq rfl Try.func8 rfl rfl]
    simp [bytesI_length, hc]
  by_cases hm : (1048576 : Int) < more.length
  · rw [callA_eq rfl Try.func8 rfl rfl]
    simp [bytesI_length, hc, hm]
  obtain ⟨e, w, vs, hd, hs, hl, hw0, hw1⟩ := drawBind_eq code
  have h1 := ibind_eq (e := e) (w := w) (vs := vs) (by omega) (by omega) (by omega)
  have h2 := sbind_eq (e := e) (w := w) (vs := vs) (by omega) (by omega) (by omega)
  rw [resE_eq] at h1 h2
  rw [callA_eq rfl Try.func8 rfl rfl]
  cases ho : e.bindO w vs with
  | none =>
    rw [ho] at h1 h2
    have h3 := equalExprs_eq Ex.zero (by simp [Ex.zero, Ex.thin, Ex.thinL]) Ex.zero
    rw [Ex.eqb_refl] at h3
    simp [getE] at h1 h2
    simp [bytesI_length, hc, hm, hd, h1, h2, h3]
  | some x =>
    rw [ho] at h1 h2
    have hok : vs.all Val.ok = true ∧ 1 ≤ w ∧ e.ok (w + vs.length) = true ∧ x = e.sub (bindL w.toNat vs) := by
      unfold Ex.bindO at ho
      split at ho
      · rename_i h; simp at h; injection ho with ho; exact ⟨List.all_eq_true.2 h.1, h.2.1, h.2.2, ho.symm⟩
      · cases ho
    obtain ⟨o1, o2, o3, rfl⟩ := hok
    have h6 : 1 ≤ w + vs.length ∧ w + vs.length ≤ 6 := by simp [Ex.ok, okWidth] at o3; omega
    obtain ⟨n, rfl⟩ : ∃ n : Nat, w = n := ⟨w.toNat, by omega⟩
    have hwf : e.wf ((n : Int) + vs.length) = true := by simp [Ex.ok, Ex.vB_eq] at o3; exact o3.2.1
    have hxo := bind_ok (w := n) (by simp [okWidth]; omega) o1 o3
    have hxe := bind_ev (e := e) (w := n) (vs := vs) (row := rowQ more.length n) (by simp) hwf
    have h3 := equalExprs_eq (e.sub (bindL n vs)) (Ex.thin_of_size _ (by have := Ex.ok_size hxo; omega)) (e.sub (bindL n vs))
    rw [Ex.eqb_refl] at h3
    simp [getE] at h1 h2
    have hn6 : ¬ (6 : Int) < n := by omega
    simp [bytesI_length, hc, hm, hd, h1, h2, h3, hn6]
    have hrow : okRow (rowQ more.length n) = true := by
      have h1 := rowQ_ok more.length n
      have h2 : okWidth (rowQ more.length n).length = true := by simp [okWidth]; omega
      simp only [okRow, h1, h2, Bool.and_self]
    have hrow2 : okRow (rowQ more.length n ++ vs) = true := by
      have h1 := rowQ_ok more.length n
      have h2 : okWidth (rowQ more.length n ++ vs).length = true := by simp [okWidth]; omega
      simp only [okRow, List.all_append, h1, o1, h2, Bool.and_self]
    have hA := EvalExpr_eq (e.sub (bindL n vs)) (rowQ more.length n) (by simp; omega)
    simp only [hrow, rowQ_length, hxo, Bool.and_self, if_true, hxe] at hA
    have hB := EvalExpr_eq e (rowQ more.length n ++ vs) (by simp; omega)
    have hln : ((rowQ more.length n ++ vs).length : Int) = n + vs.length := by simp
    simp only [hrow2, hln, o3, Bool.and_self, if_true] at hB
    generalize e.sub (bindL n vs) = x at *
    rw [loop_to (Y3 code more e x n vs) n (by simp [Y3, rowQ, valsL])]
    · rw [execA_loop]
      have hT : (rowQ more.length n).take n = rowQ more.length n := List.take_of_length_le (by simp)
      have hT2 : (valsL (rowQ more.length n) ++ valsL vs).take (n + vs.length) = valsL (rowQ more.length n) ++ valsL vs := List.take_of_length_le (by simp)
      rw [valsL_append] at hB
      simp [Y3, hT, hT2, hA, hB, show (n + vs.length) * 16 ≤ 140737488355328 by omega, show n * 16 ≤ 140737488355328 by omega]
    · intro i hi
      have w2 : IntKind.i64.wrap ((i : Int) + 1) = i + 1 := wrap64 (by omega) (by omega)
      have w3 : IntKind.i64.wrap ((more.length : Int) + i) = more.length + i := wrap64 (by omega) (by omega)
      have b1 := Int.tmod_nonneg (a := (more.length : Int) + i) 4 (by omega)
      have b2 := Int.tmod_lt_of_pos ((more.length : Int) + i) (b := 4) (by omega)
      have w4 : IntKind.i64.wrap (((more.length : Int) + i).tmod 4 - 1) = ((more.length : Int) + i).tmod 4 - 1 := wrap64 (by omega) (by omega)
      have hT : (rowQ more.length i).take i = rowQ more.length i := List.take_of_length_le (by simp)
      simp [Y3, hi, w2, w3, w4, bytesI_length, rowQ_succ, valsL_snoc, hT, show (i + 1) * 16 ≤ 140737488355328 by omega]
end Go.Proofs.Ytgpclhjdfdojhaa

/- The context's ready contracts are right; the first law's contract. No condition. -/
namespace Go.Proofs.Ytgpclhjdfdojhaa
open Go Go.Av
theorem prim_only {g : FuncId} {q : List AV → StL → Option (AV × StL)} (h : C0.prim g = some q) : g = 45 ∧ q = copyE := by
  have h : primF g = some q := h
  unfold primF at h
  split at h
  · injection h with h; exact ⟨rfl, h.symm⟩
  · cases h
theorem prim0 : CallOk C0 (primCall C0) := by
  constructor
  · intro g args st p h
    unfold primCall at h
    cases hq : C0.prim g with
    | none => rw [hq] at h; cases h
    | some q =>
      obtain ⟨rfl, rfl⟩ := prim_only hq
      exact ⟨Try.f45, Try.func45, by decide, rfl⟩
  · intro g args stl r stl' h w m φ vs hi hr h0
    unfold primCall at h
    cases hq : C0.prim g with
    | none => rw [hq] at h; cases h
    | some q =>
      obtain ⟨rfl, rfl⟩ := prim_only hq
      rw [hq] at h
      obtain ⟨e, he, rfl, rfl, hres⟩ := copyE_some h
      injection hres with h1 h2
      subst h1; subst h2
      exact copied_calls he hi hr h0
theorem sound0 : SoundOk C0 := sound_ok (C := C0) ft nt (fun t ht => by
  have h : eqTy t = true := ht
  unfold eqTy at h
  split at h
  · exact e23
  · exact e24
  · exact e42
  · cases h) mo prim0
theorem law_cols_calls (a : Option Addr) (len cap : Nat) (zs : List Int) (w : World)
    (h : (a = none ∧ len = 0 ∧ cap = 0 ∧ zs = []) ∨ ∃ x, a = some x ∧ len ≤ cap ∧ cap ≤ maxLen ∧ zs.length = cap ∧ (∀ i, i < zs.length → w.cell? (x.add i) = some (.int .u8 (zs.getD i 0))) ∧ ∀ n ∈ zs, (Lit.int .u8 n).wf = true) :
    Calls Try.prog 3 #[.slice a len cap] w fun e w' => e = .returned (.bool true) ∧ RowKit.Below w.heap.size w w' := by
  obtain ⟨code, hc⟩ := bytes_rep h
  exact calls_true sound0 (.cons (.i hc) .nil) (law_cols code)
end Go.Proofs.Ytgpclhjdfdojhaa

/- The law on substitution and evaluation: its contract on the model. No condition. -/
namespace Go.Proofs.Ytgpclhjdfdojhaa
open Go Go.Av
/-- What is known of a slice of bytes that came in. -/
def InBytes (w : World) (a : Option Addr) (len cap : Nat) (zs : List Int) : Prop :=
  (a = none ∧ len = 0 ∧ cap = 0 ∧ zs = []) ∨ ∃ x, a = some x ∧ len ≤ cap ∧ cap ≤ maxLen ∧ zs.length = cap ∧ (∀ i, i < zs.length → w.cell? (x.add i) = some (.int .u8 (zs.getD i 0))) ∧ ∀ n ∈ zs, (Lit.int .u8 n).wf = true
theorem law_sub_calls (a : Option Addr) (len cap : Nat) (zs : List Int) (a' : Option Addr) (len' cap' : Nat) (zs' : List Int) (w : World) (h : InBytes w a len cap zs) (h' : InBytes w a' len' cap' zs') :
    Calls Try.prog 9 #[.slice a len cap, .slice a' len' cap'] w fun e w' => e = .returned (.bool true) ∧ RowKit.Below w.heap.size w w' := by
  obtain ⟨code, hc⟩ := bytes_rep h
  obtain ⟨more, hm⟩ := bytes_rep h'
  exact calls_true sound0 (.cons (.i hc) (.cons (.i hm) .nil)) (law_sub code more)
theorem law_bind_calls (a : Option Addr) (len cap : Nat) (zs : List Int) (a' : Option Addr) (len' cap' : Nat) (zs' : List Int) (w : World) (h : InBytes w a len cap zs) (h' : InBytes w a' len' cap' zs') :
    Calls Try.prog 8 #[.slice a len cap, .slice a' len' cap'] w fun e w' => e = .returned (.bool true) ∧ RowKit.Below w.heap.size w w' := by
  obtain ⟨code, hc⟩ := bytes_rep h
  obtain ⟨more, hm⟩ := bytes_rep h'
  exact calls_true sound0 (.cons (.i hc) (.cons (.i hm) .nil)) (law_bind code more)
end Go.Proofs.Ytgpclhjdfdojhaa

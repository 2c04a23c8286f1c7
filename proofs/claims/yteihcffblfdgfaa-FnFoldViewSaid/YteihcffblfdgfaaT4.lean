/- Part 4 of what the proof rests on: the executor and what it is worth, and the program's functions as it runs them. No condition. -/
import Derived.Test.YteihcffblfdgfaaT3
import Derived.Below
set_option linter.unusedVariables false
set_option linter.unusedSimpArgs false
/- Expressions as data: the height of what has been replaced. No condition. -/
namespace Go.Av
mutual
def Ex.htS (hs : List Nat) : Ex → Nat
  | .mk k c _ ks => if k = 1 then (hs[c.toNat]?).getD 0 else Ex.htSL hs ks
def Ex.htSL (hs : List Nat) : List Ex → Nat
  | [] => 0
  | e :: es => max (1 + Ex.htS hs e) (Ex.htSL hs es)
end
theorem Ex.htSL_le (hs : List Nat) {n : Nat} : ∀ (l : List Ex), Ex.htSL hs l ≤ n ↔ ∀ e ∈ l, 1 + e.htS hs ≤ n
  | [] => by simp [Ex.htSL]
  | a :: l => by simp [Ex.htSL, Nat.max_le, Ex.htSL_le hs l]
theorem Ex.htS_col (hs : List Nat) {e : Ex} {h : Nat} (hk : e.kind = 1) (hh : hs[e.col.toNat]? = some h) : e.htS hs = h := by
  cases e; simp [Ex.kind, Ex.col] at hk hh; simp [Ex.htS, hk, hh]
theorem Ex.htS_not (hs : List Nat) {e : Ex} (hk : e.kind ≠ 1) : e.htS hs = Ex.htSL hs e.kids := by
  cases e; simp [Ex.kind] at hk; simp [Ex.htS, hk, Ex.kids]
theorem Ex.wf_kids {w : Int} {e k : Ex} (h : e.wf w = true) (hk : k ∈ e.kids) : k.wf w = true := by
  rw [Ex.wf_eq] at h; simp at h; exact h.2.2 k hk
theorem Ex.wf_col {w : Int} {e : Ex} (h : e.wf w = true) (hk : e.kind = 1) : 0 ≤ e.col ∧ e.col < w ∧ e.kids = [] := by
  rw [Ex.wf_eq] at h; simp [Ex.headOk, hk, kidsK] at h
  exact ⟨h.2.1.1, h.2.1.2.1, h.1⟩
theorem Ex.wf_colsB {w : Int} : ∀ (e : Ex), e.wf w = true → e.colsB w := by
  intro e
  induction e using Ex.ind with
  | h k c v ks ih =>
    intro h
    rw [Ex.colsB_iff]
    refine ⟨fun hk => ?_, fun _ x hx => ih x hx (Ex.wf_kids h hx)⟩
    have := Ex.wf_col h hk
    exact ⟨this.1, this.2.1⟩
theorem Ex.htL_map {f : Ex → Ex} {hs : List Nat} : ∀ {l : List Ex}, (∀ e ∈ l, (f e).ht = e.htS hs) → Ex.htL (l.map f) = Ex.htSL hs l
  | [], _ => by simp [Ex.htL, Ex.htSL]
  | a :: l, h => by
    simp only [List.map_cons, Ex.htL, Ex.htSL, h a (by simp)]
    rw [Ex.htL_map fun e he => h e (by simp [he])]
theorem Ex.ht_sub {w : Int} (l : List Ex) (hw : w = l.length) : ∀ (e : Ex), e.wf w = true → (e.sub l).ht = e.htS (l.map Ex.ht) := by
  intro e
  induction e using Ex.ind with
  | h k c v ks ih =>
    intro h
    by_cases hk : k = 1
    · obtain ⟨h0, h1, _⟩ := Ex.wf_col h hk
      have hi : c.toNat < l.length := by simp [Ex.col] at h0 h1; omega
      have hb := List.getElem?_eq_getElem hi
      rw [Ex.sub_col l (e := .mk k c v ks) hk hb, Ex.htS_col (l.map Ex.ht) (e := .mk k c v ks) (h := l[c.toNat].ht) hk (by simp [Ex.col, hb])]
    · rw [Ex.sub_not l (e := .mk k c v ks) hk, Ex.htS_not _ (e := .mk k c v ks) hk]
      simp only [Ex.ht, Ex.kids]
      exact Ex.htL_map fun x hx => ih x hx (Ex.wf_kids h hx)
theorem Ex.wf_sub {m w : Int} (l : List Ex) (hm : m = l.length) (hl : ∀ b ∈ l, b.wf w = true) : ∀ (e : Ex), e.wf m = true → (e.sub l).wf w = true := by
  intro e
  induction e using Ex.ind with
  | h k c v ks ih =>
    intro h
    by_cases hk : k = 1
    · obtain ⟨h0, h1, _⟩ := Ex.wf_col h hk
      have hi : c.toNat < l.length := by simp [Ex.col] at h0 h1; omega
      have hb := List.getElem?_eq_getElem hi
      rw [Ex.sub_col l (e := .mk k c v ks) hk hb]
      exact hl _ (List.getElem_mem hi)
    · rw [Ex.sub_not l (e := .mk k c v ks) hk]
      have h' := h
      rw [Ex.wf_eq] at h ⊢
      simp [Ex.kids, Ex.kind, Ex.headOk, Ex.col, Ex.val, hk] at h ⊢
      exact ⟨of_decide_eq_true h.1, h.2.1, fun x hx => ih x hx (Ex.wf_kids h' hx)⟩
/-- Levels, as cells. -/
def natsL : List Nat → List (List IV)
  | [] => []
  | h :: hs => [.int h] :: natsL hs
@[simp] theorem natsL_length : ∀ hs : List Nat, (natsL hs).length = hs.length
  | [] => rfl
  | _ :: hs => by simp [natsL, natsL_length hs]
theorem natsL_nth : ∀ {hs : List Nat} {i h : Nat}, hs[i]? = some h → nthE (natsL hs) i = some [.int h]
  | [], _, _, e => by simp at e
  | a :: hs, 0, h, e => by simp at e; subst e; simp [natsL, nthE]
  | a :: hs, i + 1, h, e => by simp only [natsL, nthE]; exact natsL_nth (by simpa using e)
@[simp] theorem natsL_widths : ∀ hs : List Nat, widths 1 (natsL hs) = true
  | [] => rfl
  | _ :: hs => by have := natsL_widths hs; simp only [widths] at this; simp [natsL, widths, this]
end Go.Av

/- Ready contracts: what a copy of an expression is. Definitions alone. No condition. -/
namespace Go.Av
/-- A copy of cells, if they are an expression's. -/
noncomputable def copyC (cs : List IV) (st : StL) : Option (AV × StL) := @ite _ (∃ e : Ex, e.size < 1000000000 ∧ e.cells = cs) (Classical.propDecidable _) (some (.i (.agg cs), st)) none
/-- A copy of an expression: of one that came in, of an element of an own list. -/
noncomputable def copyE : List AV → StL → Option (AV × StL)
  | [.i (.iref cs)], [] => copyC cs []
  | [.ownE 0 5 j 0], [some (.arr 5 es)] => bnd es[j]? fun cs => copyC cs [some (.arr 5 es)]
  | _, _ => none
theorem copyC_eq {e : Ex} {st : StL} (h : e.size < 1000000000) : copyC e.cells st = some (.i (.agg e.cells), st) := by
  unfold copyC
  exact if_pos ⟨e, h, rfl⟩
theorem copyC_some {cs : List IV} {st : StL} {r : AV × StL} (h : copyC cs st = some r) : ∃ e : Ex, e.size < 1000000000 ∧ cs = e.cells ∧ r = (.i (.agg e.cells), st) := by
  unfold copyC at h
  by_cases hc : ∃ e : Ex, e.size < 1000000000 ∧ e.cells = cs
  · rw [if_pos hc] at h
    obtain ⟨e, h1, rfl⟩ := hc
    injection h with h
    exact ⟨e, h1, rfl, h.symm⟩
  · rw [if_neg hc] at h; cases h
theorem copyE_eq {e : Ex} (h : e.size < 1000000000) : copyE [.i (.iref e.cells)] [] = some (.i (.agg e.cells), []) := copyC_eq h
theorem copyE_row {e : Ex} {es : List (List IV)} {j : Nat} (h : e.size < 1000000000) (he : es[j]? = some e.cells) : copyE [.ownE 0 5 j 0] [some (.arr 5 es)] = some (.i (.agg e.cells), [some (.arr 5 es)]) := by
  show (bnd es[j]? fun cs => copyC cs [some (.arr 5 es)]) = _
  rw [he]; exact copyC_eq h
theorem copyE_some {args : List AV} {st : StL} {r : AV × StL} (h : copyE args st = some r) : ∃ e : Ex, e.size < 1000000000 ∧ r = (.i (.agg e.cells), st) ∧
    ((args = [.i (.iref e.cells)] ∧ st = []) ∨ ∃ j es, args = [.ownE 0 5 j 0] ∧ st = [some (.arr 5 es)] ∧ es[j]? = some e.cells) := by
  unfold copyE at h
  split at h
  · obtain ⟨e, h1, rfl, rfl⟩ := copyC_some h
    exact ⟨e, h1, rfl, .inl ⟨rfl, rfl⟩⟩
  · rename_i j es
    obtain ⟨cs, h0, h⟩ := bnd_eq.1 h
    obtain ⟨e, h1, rfl, rfl⟩ := copyC_some h
    exact ⟨e, h1, rfl, .inr ⟨j, es, rfl, rfl, h0⟩⟩
  · cases h
end Go.Av

/- Expressions in memory: what they are is settled by the cells; a slice's cell may be turned to another slice of the same elements. No condition. -/
namespace Go.Av
theorem isl_inv {m : Mem} {es : List (List IV)} {v : Value} (h : IRep m (.isl es) v) :
    (es = [] ∧ ∃ ao cap, v = .slice ao 0 cap) ∨ (es ≠ [] ∧ ∃ b off k cap, v = .slice (some ⟨b, off, none⟩) es.length cap ∧ IElems m b off k es ∧ es.length ≤ cap) := by
  cases h with
  | isl0 ao cap hc => exact .inl ⟨rfl, ao, cap, rfl⟩
  | isl hn he hc => exact .inr ⟨hn, _, _, _, _, rfl, he, hc⟩
theorem lit_inv {m : Mem} {c v : Value} (h : IRep m (.lit c) v) : v = c := by cases h; rfl
theorem IAt.inv {m : Mem} {b o : Nat} {c : IV} {cs : List IV} (h : IAt m b o (c :: cs)) : ∃ v, m b o = some v ∧ IRep m c v ∧ v.oneCell' = true ∧ IAt m b (o + 1) cs := by
  cases h with | cons a r q t => exact ⟨_, a, r, q, t⟩
/-- The cells of an expression at a place. -/
structure ExAt (m : Mem) (b o : Nat) (e : Ex) (v : Value) : Prop where
  c0 : m b o = some (.int .i64 e.kind)
  c1 : m b (o + 1) = some (.int .i64 e.col)
  c2 : m b (o + 2) = some (.bool e.val.null)
  c3 : m b (o + 3) = some (.int .i64 e.val.n)
  c4 : m b (o + 4) = some v
  kids : IRep m (.isl (Ex.cellsL e.kids)) v
theorem exAt_of {m : Mem} {b o : Nat} {e : Ex} (h : IAt m b o e.cells) : ∃ v, ExAt m b o e v := by
  rw [Ex.cells_eq] at h
  obtain ⟨v0, a0, r0, -, h⟩ := h.inv
  obtain ⟨v1, a1, r1, -, h⟩ := h.inv
  obtain ⟨v2, a2, r2, -, h⟩ := h.inv
  obtain ⟨v3, a3, r3, -, h⟩ := h.inv
  obtain ⟨v4, a4, r4, -, -⟩ := h.inv
  rw [lit_inv r0] at a0; rw [lit_inv r1] at a1; rw [lit_inv r2] at a2; rw [lit_inv r3] at a3
  exact ⟨v4, a0, a1, a2, a3, a4, r4⟩
theorem isl_one {m : Mem} {es : List (List IV)} {v : Value} (h : IRep m (.isl es) v) : v.oneCell' = true := by
  cases h <;> rfl
theorem of_exAt {m : Mem} {b o : Nat} {e : Ex} {v : Value} (h : ExAt m b o e v) : IAt m b o e.cells := by
  rw [Ex.cells_eq]
  exact .cons h.c0 (.lit _) rfl (.cons h.c1 (.lit _) rfl (.cons h.c2 (.lit _) rfl (.cons h.c3 (.lit _) rfl (.cons h.c4 h.kids (isl_one h.kids) (.nil _ _)))))
theorem elems_inv {m : Mem} {b o k : Nat} {e : Ex} {l : List Ex} (h : IElems m b o k (Ex.cellsL (e :: l))) : k = 5 ∧ IAt m b o e.cells ∧ IElems m b (o + 5) 5 (Ex.cellsL l) := by
  simp only [Ex.cellsL] at h
  cases h with
  | cons a hk r =>
    rw [Ex.cells_length] at hk
    subst hk
    exact ⟨rfl, a, r⟩
theorem elems_uniq {m : Mem} {b : Nat} : ∀ {o k k' : Nat} {l l' : List Ex}, (∀ e ∈ l, ∀ e' b o, IAt m b o e.cells → IAt m b o e'.cells → e = e') → l.length = l'.length → IElems m b o k (Ex.cellsL l) → IElems m b o k' (Ex.cellsL l') → l = l'
  | _, _, _, [], [], _, _, _, _ => rfl
  | o, k, k', a :: l, a' :: l', ih, hl, h, h' => by
    obtain ⟨rfl, h1, h2⟩ := elems_inv h
    obtain ⟨rfl, h3, h4⟩ := elems_inv h'
    rw [ih a (by simp) a' b o h1 h3, elems_uniq (fun e he => ih e (by simp [he])) (by simpa using hl) h2 h4]
  | _, _, _, [], _ :: _, _, hl, _, _ => by simp at hl
  | _, _, _, _ :: _, [], _, hl, _, _ => by simp at hl
theorem isl_uniq {m : Mem} {l l' : List Ex} {v : Value} (ih : ∀ e ∈ l, ∀ e' b o, IAt m b o e.cells → IAt m b o e'.cells → e = e') (h : IRep m (.isl (Ex.cellsL l)) v) (h' : IRep m (.isl (Ex.cellsL l')) v) : l = l' := by
  have nil : ∀ {l : List Ex}, Ex.cellsL l = [] → l = [] := fun {l} e => by cases l with | nil => rfl | cons a l => simp [Ex.cellsL] at e
  rcases isl_inv h with ⟨e1, ao, cap, hv⟩ | ⟨e1, b, off, k, cap, hv, hel, _⟩
  · rcases isl_inv h' with ⟨e2, _⟩ | ⟨e2, b', off', k', cap', hv', _⟩
    · rw [nil e1, nil e2]
    · rw [hv] at hv'; injection hv' with _ q _; rw [Ex.cellsL_length] at q; exact absurd (by cases l' with | nil => rfl | cons a l => simp at q) e2
  · rcases isl_inv h' with ⟨e2, ao, cap', hv'⟩ | ⟨e2, b', off', k', cap', hv', hel', _⟩
    · rw [hv] at hv'; injection hv' with _ q _; rw [Ex.cellsL_length] at q; exact absurd (by cases l with | nil => rfl | cons a l => simp at q) e1
    · rw [hv] at hv'
      injection hv' with q1 q2 _
      injection q1 with q1; injection q1 with q1 q3; subst q1; subst q3
      rw [Ex.cellsL_length, Ex.cellsL_length] at q2
      exact elems_uniq ih q2 hel hel'
theorem ex_uniq {m : Mem} : ∀ (e e' : Ex) (b o : Nat), IAt m b o e.cells → IAt m b o e'.cells → e = e' := by
  intro e
  induction e using Ex.ind with
  | h k c v ks ih =>
    intro e' b o h h'
    obtain ⟨v1, h⟩ := exAt_of h
    obtain ⟨v2, h'⟩ := exAt_of h'
    obtain ⟨k', c', v', ks'⟩ := e'
    have e0 := h.c0.symm.trans h'.c0
    have e1 := h.c1.symm.trans h'.c1
    have e2 := h.c2.symm.trans h'.c2
    have e3 := h.c3.symm.trans h'.c3
    have e4 := h.c4.symm.trans h'.c4
    simp only [Ex.kind, Ex.col, Ex.val, Option.some.injEq, Value.int.injEq, Value.bool.injEq, true_and] at e0 e1 e2 e3 e4
    subst e0; subst e1; subst e4
    have hk := h'.kids
    have : ks = ks' := isl_uniq (m := m) (v := v1) (fun e he e' b o => ih e he e' b o) h.kids hk
    subst this
    obtain ⟨a, n⟩ := v; obtain ⟨a', n'⟩ := v'
    simp only at e2 e3
    subst e2; subst e3; rfl
/-- Memory with one known cell turned. -/
def turn (m : Mem) (b o : Nat) (v : Value) : Mem := fun b' o' => if b' = b ∧ o' = o then some v else m b' o'
theorem elems_lift {m m' : Mem} {b : Nat} : ∀ {o k : Nat} {l : List Ex}, (∀ e ∈ l, ∀ b o, IAt m b o e.cells → IAt m' b o e.cells) → IElems m b o k (Ex.cellsL l) → IElems m' b o k (Ex.cellsL l)
  | o, k, [], _, _ => by simp only [Ex.cellsL]; exact .nil _ _ _
  | o, k, a :: l, ih, h => by
    obtain ⟨rfl, h1, h2⟩ := elems_inv h
    simp only [Ex.cellsL]
    exact .cons (ih a (by simp) b o h1) (by simp) (elems_lift (fun e he => ih e (by simp [he])) h2)
theorem isl_lift {m m' : Mem} {l : List Ex} {v : Value} (ih : ∀ e ∈ l, ∀ b o, IAt m b o e.cells → IAt m' b o e.cells) (h : IRep m (.isl (Ex.cellsL l)) v) : IRep m' (.isl (Ex.cellsL l)) v := by
  generalize hes : Ex.cellsL l = es at h
  cases h with
  | isl0 ao cap hc => exact .isl0 _ _ hc
  | isl hn he hc => subst hes; exact .isl hn (elems_lift ih he) hc
theorem turn_at {m : Mem} {b o : Nat} {x : Ex} {v v' : Value} (hx : ExAt m b o x v) (hv : IRep m (.isl (Ex.cellsL x.kids)) v') : ∀ (e : Ex) (b1 o1 : Nat), IAt m b1 o1 e.cells → IAt (turn m b (o + 4) v') b1 o1 e.cells := by
  intro e
  induction e using Ex.ind with
  | h k c vv ks ih =>
    intro b1 o1 h
    obtain ⟨u, h⟩ := exAt_of h
    have hsl : ∀ q : Value, m b (o + 4) = some q → (∃ k n, q = .int k n) ∨ (∃ t, q = .bool t) → False := by
      intro q hq hh
      rw [hx.c4] at hq; injection hq with hq; subst hq
      rcases isl_inv hx.kids with ⟨_, ao, cap, e⟩ | ⟨_, b', off, k', cap, e, _⟩ <;> rcases hh with ⟨k, n, e'⟩ | ⟨t, e'⟩ <;> rw [e] at e' <;> cases e'
    have low : ∀ i q, m b1 (o1 + i) = some q → ((∃ k n, q = .int k n) ∨ (∃ t, q = .bool t)) → turn m b (o + 4) v' b1 (o1 + i) = some q := by
      intro i q hq hh
      unfold turn
      split
      · rename_i e; rw [e.1, e.2] at hq; exact (hsl q hq hh).elim
      · exact hq
    have c0 := low 0 _ (by simpa using h.c0) (.inl ⟨_, _, rfl⟩)
    have c1 := low 1 _ h.c1 (.inl ⟨_, _, rfl⟩)
    have c2 := low 2 _ h.c2 (.inr ⟨_, rfl⟩)
    have c3 := low 3 _ h.c3 (.inl ⟨_, _, rfl⟩)
    by_cases he : b1 = b ∧ o1 + 4 = o + 4
    · have hu : u = v := by have := h.c4; rw [he.1, he.2, hx.c4] at this; injection this with this; exact this.symm
      have hk : ks = x.kids := by
        have a1 := h.kids; rw [hu] at a1
        exact isl_uniq (m := m) (v := v) (fun e he => fun e' b o => ex_uniq e e' b o) a1 hx.kids
      refine of_exAt (v := v') ⟨by simpa using c0, c1, c2, c3, by unfold turn; rw [if_pos he], ?_⟩
      rw [← hk] at hv
      exact isl_lift (fun e he b o => ih e he b o) hv
    · exact of_exAt (v := u) ⟨by simpa using c0, c1, c2, c3, by unfold turn; rw [if_neg he]; exact h.c4, isl_lift (fun e he b o => ih e he b o) h.kids⟩
end Go.Av

/- The executor's relation, with places in memory that hold expressions. No condition. -/
namespace Go.Av
/-- A place in memory that is new since a heap's size, not owned, and holds an expression. -/
structure PF (B : Nat) (w : World) (m : Mem) (φ : Pl) (b o : Nat) (x : Ex) : Prop where
  new : B ≤ b
  row : ∃ (vs : List Value) (T : TypeId), w.heap[b]? = some (.cells vs.toArray T (0, 0))
  free : Free φ b
  cel : IAt m b o x.cells
abbrev KL := List ((Nat × Nat) × Ex)
theorem PF.lt {B : Nat} {w : World} {m : Mem} {φ : Pl} {b o : Nat} {x : Ex} (h : PF B w m φ b o x) : b < w.heap.size := by
  obtain ⟨vs, T, e⟩ := h.row
  exact (Array.getElem?_eq_some_iff.1 e).1
theorem PF.adv {B : Nat} {w w' : World} {m m' : Mem} {φ φ' : Pl} {b o : Nat} {x : Ex} (h : PF B w m φ b o x) (k : Adv w m φ w' m' φ') : PF B w' m' φ' b o x := by
  refine ⟨h.new, ?_, k.range h.lt h.free, h.cel.mono k.mle⟩
  rw [k.block b h.lt h.free]; exact h.row
theorem wp_regionW {P : Program} {id : Nat} {ops : Array Oper} {Q : Exit → Act → World → Prop} {a : Act} {w : World} (h : wpOpsIn (FR none) 0 P ops Q (List.range ops.size) a w) : (Code.region id ops false).wp P Q a w :=
  wpIn_wide.1 (wpIn_region (F := Fence.wide) (n := 0) h)
/-- The state, with places. -/
structure GG (wi : World) (mi : Mem) (nt : Nat) (ok : Nat → Prop) (K : KL) (env : Nat → AV) (st : Store) (a : Act) (w : World) : Prop where
  out : ∃ m φ, Inv w m φ st ∧ (∀ t, Rep m φ (env t) (a.tmps.getD t undef)) ∧ Adv wi mi (fun _ => none) w m φ ∧ (∀ id, φ id ≠ none → ok id) ∧ ∀ k ∈ K, PF wi.heap.size w m φ k.1.1 k.1.2 k.2
  size : nt ≤ a.tmps.size
  defers : a.defers = []
section
variable {C : Ctx} {wi : World} {mi : Mem} {nt : Nat}
theorem GG.ofA {ok ok' : Nat → Prop} {K : KL} {env env' : Nat → AV} {st st' : Store} {a a' : Act} {w w' : World} {m : Mem} {φ : Pl} (h3 : Adv wi mi (fun _ => none) w m φ) (h5 : ∀ k ∈ K, PF wi.heap.size w m φ k.1.1 k.1.2 k.2) (h : ARel [] w m φ nt ok' env' st' a' w') : GG wi mi nt ok' K env' st' a' w' := by
  obtain ⟨⟨m', φ', k1, k2, k3, k4, _⟩, k5, k6⟩ := h
  exact ⟨⟨m', φ', k1, k2, h3.trans k3, k4, fun k hk => (h5 k hk).adv k3⟩, k5, k6⟩
theorem GG.code (hC : CtxOk C) {call : CallF} (hcall : CallOk C call) (hdraw : DrawOk C call) {G : List Nat} {n : Nat} {c : Code} {S S' : AS} {e : AExit} {a : Act} {w : World} {K : KL} (hc : codeOk nt c = true) (hx : exec C call G S.st.length n c S = some (e, S')) (h : GG wi mi nt (fun id => id < S.st.length) K (envOf S.env) (stOf S.st) a w) (hnr : noRange c = true := by rfl) :
    c.wp C.P (fun e' a' w' => e' = exitOf e ∧ GG wi mi nt (fun id => id < S'.st.length) K (envOf S'.env) (stOf S'.st) a' w') a w := by
  obtain ⟨⟨m, φ, h1, h2, h3, h4, h5⟩, h6, h7⟩ := h
  refine wpIn_wide.1 (wpIn_mono (exec_sound (ρ := none) hC hcall hdraw h4 n c S S' e [] a w hc (.inl rfl) hx ⟨⟨⟨m, φ, h1, h2, .refl _ _ _, h4, .nil _ _ _⟩, h6, h7⟩, Nat.le_refl _⟩) ?_)
  rintro e' a' w' ⟨rfl, ds, k, kd⟩
  have kd := kd hnr
  subst kd
  exact ⟨rfl, .ofA (ok := fun _ => True) (env := fun _ => .junk) (st := st0) (a := a) h3 h5 k.1⟩
where st0 : Store := fun _ => none
theorem runOps_wp_pre (hC : CtxOk C) {call : CallF} (hcall : CallOk C call) {ops : Array Oper} {Q : Exit → Act → World → Prop} {base : Nat} {w0 : World} {m0 : Mem} {φ0 : Pl} {js : List Nat} (hs : ∀ o ∈ ops, operOk nt o = true) :
    ∀ (os : List Oper) (i : Nat) (R R' : RS) (a : Act) (w : World), (∀ j, j < os.length → os[j]? = ops[i + j]?) → runOps C call ops.toList false base os i R = some R' →
      ARel [] w0 m0 φ0 nt (okIn base (fun j => j < i)) R.env R.st a w → (∀ a' w', ARel [] w0 m0 φ0 nt (okIn base fun j => j < i + os.length) R'.env R'.st a' w' → wpOpsIn (FR none) 0 C.P ops Q js a' w') → wpOpsIn (FR none) 0 C.P ops Q (List.range' i os.length ++ js) a w
  | [], i, R, R', a, w, _, h, hr, hQ => by
    simp only [runOps, Option.some.injEq] at h
    subst h
    simpa using hQ a w (by simpa using hr)
  | o :: os, i, R, R', a, w, hl, h, hr, hQ => by
    have ho : ops[i]? = some o := by simpa using (hl 0 (by simp)).symm
    simp only [List.length_cons, List.range'_succ, List.cons_append]
    rw [wpOpsIn_cons]
    simp only [runOps] at h
    obtain ⟨b, h1, h2⟩ := bnd_eq.1 h
    have hstat := hs o (Array.mem_of_getElem? ho)
    have hrest : ∀ j, j < os.length → os[j]? = ops[i + 1 + j]? := fun j hj => by
      have := hl (j + 1) (by simpa using hj)
      simpa [Nat.add_assoc, Nat.add_comm 1 j] using this
    have mono : ∀ env st a' w', ARel [] w0 m0 φ0 nt (okIn base fun j => j < i ∨ j = i) env st a' w' → ARel [] w0 m0 φ0 nt (okIn base fun j => j < i + 1) env st a' w' := by
      rintro env st a' w' ⟨⟨m, φ, k1, k2, k3, k4, k7⟩, k5, k6⟩
      exact ⟨⟨m, φ, k1, k2, k3, fun id hne => okIn_mono (fun j hj => by omega) (k4 id hne), k7⟩, k5, k6⟩
    have hQ' : ∀ a' w', ARel [] w0 m0 φ0 nt (okIn base fun j => j < i + 1 + os.length) R'.env R'.st a' w' → wpOpsIn (FR none) 0 C.P ops Q js a' w' := fun a' w' k => hQ a' w' (by
      rw [show i + (o :: os).length = i + 1 + os.length by simp; omega]; exact k)
    cases b with
    | true =>
      simp only [if_true] at h2
      obtain ⟨_, h3⟩ := tst_eq.1 h2
      obtain ⟨p, h4, h5⟩ := bnd_eq.1 h3
      refine wpOp_sound hC hcall (dn := fun j => j < i) (base := base) (S := (R.env, R.st)) (S' := (putA R.env o.dst p.1, p.2)) ho hstat (Nat.lt_irrefl i) ?_ hr fun a' w' hr' => ?_
      · unfold aOp
        exact bnd_eq.2 ⟨true, h1, by simp only [if_true]; exact bnd_eq.2 ⟨p, h4, rfl⟩⟩
      · exact runOps_wp_pre hC hcall hs os (i + 1) _ R' a' w' hrest h5 (mono _ _ _ _ hr') hQ'
    | false =>
      simp only [Bool.false_eq_true, if_false] at h2
      refine wpOp_sound hC hcall (dn := fun j => j < i) (base := base) (S := (R.env, R.st)) (S' := (putA R.env o.dst (.i (.lit undef)), R.st)) ho hstat (Nat.lt_irrefl i) ?_ hr fun a' w' hr' => ?_
      · unfold aOp
        exact bnd_eq.2 ⟨false, h1, by simp⟩
      · exact runOps_wp_pre hC hcall hs os (i + 1) _ R' a' w' hrest h2 (mono _ _ _ _ hr') hQ'
/-- Some operations of a region, as the executor runs them. -/
theorem GG.ops (hC : CtxOk C) {call : CallF} (hcall : CallOk C call) {ops : Array Oper} {Q : Exit → Act → World → Prop} {base : Nat} {js : List Nat} {K : KL} (hs : ∀ o ∈ ops, operOk nt o = true) {os : List Oper} {i : Nat} {R R' : RS} {a : Act} {w : World} (hl : ∀ j, j < os.length → os[j]? = ops[i + j]?) (hx : runOps C call ops.toList false base os i R = some R')
    (h : GG wi mi nt (okIn base fun j => j < i) K R.env R.st a w) (hQ : ∀ a' w', GG wi mi nt (okIn base fun j => j < i + os.length) K R'.env R'.st a' w' → wpOpsIn (FR none) 0 C.P ops Q js a' w') : wpOpsIn (FR none) 0 C.P ops Q (List.range' i os.length ++ js) a w := by
  obtain ⟨⟨m, φ, h1, h2, h3, h4, h5⟩, h6, h7⟩ := h
  exact runOps_wp_pre hC hcall hs os i R R' a w hl hx ⟨⟨m, φ, h1, h2, .refl _ _ _, h4, .nil _ _ _⟩, h6, h7⟩ fun a' w' k => hQ a' w' (.ofA (ok := fun _ => True) (env := fun _ => .junk) (st := fun _ => none) (a := a) h3 h5 k)
theorem GG.settle {ok : Nat → Prop} {K : KL} {env : Nat → AV} {st : Store} {a : Act} {w : World} (G : List Nat) (h : GG wi mi nt ok K env st a w) :
    GG wi mi nt (fun id => id < (settle G 0 env st).st.length) K (envOf (settle G 0 env st).env) (stOf (settle G 0 env st).st) a w := by
  obtain ⟨⟨m, φ, hi, henv, hadv, hok, hK⟩, hsz, hdf⟩ := h
  unfold Av.settle settleW
  generalize hids : keepIds st 0 (envAt env G) = ids
  have hd : ids.Nodup := by rw [← hids]; exact keepIds_nodup _ _ _
  have hfree : ∀ b, Free φ b → Free (keepP ids φ) b := by
    intro b hb id r n e
    unfold keepP at e
    cases hx : ids[id]? with
    | none => rw [hx] at e; cases e
    | some j => rw [hx] at e; exact hb j r n e
  refine ⟨⟨m, keepP ids φ, hi.keep hd, ?_, hadv.keep (fun id h => absurd rfl h) (fun j hj => absurd hj (Nat.not_lt_zero j)), ?_, fun k hk => ⟨(hK k hk).new, (hK k hk).row, hfree _ (hK k hk).free, (hK k hk).cel⟩⟩, hsz, hdf⟩
  · intro t
    have key : ∀ G : List Nat, Rep m (keepP ids φ) (envOf (keepEnv (posOf ids) env G) t) (a.tmps.getD t undef) := by
      intro G
      induction G with
      | nil => exact .junk _
      | cons u G ih =>
        simp only [keepEnv, envOf]
        by_cases e : t = u
        · subst e; simp only [if_true]; exact (henv t).ren (keepP_ren ids φ)
        · simp only [e, if_false]; exact ih
    exact key G
  · intro id hne
    simp only [takeSt_len]
    unfold keepP at hne
    cases hx : ids[id]? with
    | none => rw [hx] at hne; exact absurd rfl hne
    | some i => exact (List.getElem?_eq_some_iff.1 hx).1
/-- A place's pointer, seen as what it leads to. -/
theorem GG.see {ok : Nat → Prop} {K : KL} {env : Nat → AV} {st : Store} {a : Act} {w : World} {u b o : Nat} {x : Ex} (h : GG wi mi nt ok K env st a w) (hu : env u = .i (.lit (.pointer (some ⟨b, o, none⟩)))) (hk : ((b, o), x) ∈ K) : GG wi mi nt ok K (upd env u (.i (.iref x.cells))) st a w := by
  obtain ⟨⟨m, φ, hi, henv, hadv, hok, hK⟩, hsz, hdf⟩ := h
  refine ⟨⟨m, φ, hi, fun t => ?_, hadv, hok, hK⟩, hsz, hdf⟩
  simp only [upd]
  split
  · rename_i e; subst e
    have := henv t; rw [hu] at this
    rw [this.lit_eq]
    exact .i (.iref (hK _ hk).cel)
  · exact henv t
theorem GG.envTo {ok : Nat → Prop} {K : KL} {env env' : Nat → AV} {st : Store} {a : Act} {w : World} (h : GG wi mi nt ok K env st a w) (he : ∀ t, env' t = .junk ∨ env' t = env t) : GG wi mi nt ok K env' st a w := by
  obtain ⟨⟨m, φ, hi, henv, hadv, hok, hK⟩, hsz, hdf⟩ := h
  refine ⟨⟨m, φ, hi, fun t => ?_, hadv, hok, hK⟩, hsz, hdf⟩
  rcases he t with e | e
  · rw [e]; exact .junk _
  · rw [e]; exact henv t
theorem GG.ok' {ok ok' : Nat → Prop} {K : KL} {env : Nat → AV} {st : Store} {a : Act} {w : World} (h : GG wi mi nt ok K env st a w) (he : ∀ id, ok id → ok' id) : GG wi mi nt ok' K env st a w := by
  obtain ⟨⟨m, φ, hi, henv, hadv, hok, hK⟩, hsz, hdf⟩ := h
  exact ⟨⟨m, φ, hi, henv, hadv, fun id h => he id (hok id h), hK⟩, hsz, hdf⟩
end
end Go.Av

/- One cell turned: the slice of an expression's kids. No condition. -/
namespace Go.Av
/-- Holds nothing but values as they are. -/
def LitBlk : Blk → Prop
  | .box cs => ∀ c ∈ cs, (∃ v, c = .i (.lit v)) ∨ c = .nils
  | .arr _ es => ∀ c ∈ es.flatten, ∃ v, c = .lit v
  | .frz _ _ => False
  | .fbox _ => False
  | .tre _ _ => False
  | .loop _ _ _ => False
theorem ICells.mlit {m m' : Mem} : ∀ {cs : List IV} {vs : List Value}, (∀ c ∈ cs, ∃ v, c = .lit v) → ICells m cs vs → ICells m' cs vs
  | [], _, _, .nil => .nil
  | c :: cs, _, h, .cons a o r => by
    obtain ⟨v, rfl⟩ := h c (by simp)
    rw [lit_inv a] at o ⊢
    exact .cons (.lit _) o (ICells.mlit (fun d hd => h d (by simp [hd])) r)
theorem RepC.mlit {m m' : Mem} {φ φ' : Pl} : ∀ {cs : List AV} {vs : List Value}, (∀ c ∈ cs, (∃ v, c = .i (.lit v)) ∨ c = .nils) → RepC m φ cs vs → RepC m' φ' cs vs
  | [], _, _, .nil => .nil
  | c :: cs, _, h, .cons a o r => by
    have hr := RepC.mlit (m' := m') (φ' := φ') (fun d hd => h d (by simp [hd])) r
    rcases h c (by simp) with ⟨v, rfl⟩ | rfl
    · rw [a.lit_eq] at o ⊢
      exact .cons (.i (.lit _)) o hr
    · cases a; exact .cons .nils o hr
theorem BlkOk.mlit {w w' : World} {m m' : Mem} {φ φ' : Pl} {b : Nat} {n : Ext} {blk : Blk} (hl : LitBlk blk) (hh : w'.heap[b]? = w.heap[b]?) (hm : ∀ o, m b o = none → m' b o = none) (h : BlkOk w m φ b n blk) : BlkOk w' m' φ' b n blk := by
  cases h with
  | box h1 h2 h3 h4 => exact .box (by rw [hh]; exact h1) h2 (h3.mlit hl) fun o => hm o (h4 o)
  | arr h1 h2 h3 h4 h5 h6 h7 h8 h9 =>
    exact .arr (by rw [hh]; exact h1) h2 h3 h4 (h5.mlit hl) h6 (fun o => hm o (h7 o)) h8 h9
  | frz => cases hl
  | fbox => cases hl
  | tre => cases hl
  | loop => cases hl
def StLit (st : Store) : Prop := ∀ id blk, st id = some blk → LitBlk blk
section
variable {C : Ctx} {wi : World} {mi : Mem}
/-- The cell of the kids of a place, turned to a slice of the same kids. -/
theorem store_turn {w : World} {m : Mem} {φ : Pl} {st : Store} {K : KL} {b o : Nat} {x : Ex} {v : Value} {t : TypeId} (ht : szOf C.P t = some 1) (hi : Inv w m φ st) (hst : StLit st) (hadv : Adv wi mi (fun _ => none) w m φ) (hmi : MemOk wi mi)
    (hK : ∀ k ∈ K, PF wi.heap.size w m φ k.1.1 k.1.2 k.2) (hk : ((b, o), x) ∈ K) (hv : IRep m (.isl (Ex.cellsL x.kids)) v) :
    ∃ w' m', (Instr.storeAt t (.pointer (some ⟨b, o + 4, none⟩)) v).run C.P w = .ok () w' ∧ Inv w' m' φ st ∧ Adv wi mi (fun _ => none) w' m' φ ∧ (∀ k ∈ K, PF wi.heap.size w' m' φ k.1.1 k.1.2 k.2) ∧
      IAt m' b o [.int x.kind, .int x.col, .bool x.val.null, .int x.val.n, .lit v] := by
  have hp := hK _ hk
  obtain ⟨u, hx⟩ := exAt_of hp.cel
  obtain ⟨vs, T, hrow⟩ := hp.row
  have hone := isl_one hv
  have hcells : v.cells.toList = [v] := by
    rcases isl_inv hv with ⟨_, ao, cap, rfl⟩ | ⟨_, b', off, k', cap, rfl, _⟩ <;> rfl
  have hcsz : v.cells.size = 1 := by rw [← Array.length_toList, hcells]; rfl
  have hlen : o + 4 < vs.length := by
    have := hi.mem _ _ _ hx.c4
    simp only [World.cell?, hrow, Option.isSome_none] at this
    have h2 : vs.toArray[o + 4]? = some u := by simpa using this
    have := (Array.getElem?_eq_some_iff.1 h2).1
    simpa using this
  have hrun := storeVar_run (P := C.P) (t := t) (v := v) (off := o + 4) (by rw [hcsz]; exact ht) hrow (by omega) (by rw [hcells]; simpa using hone)
  rw [hcells, hcsz] at hrun
  generalize hvs' : vs.take (o + 4) ++ [v] ++ vs.drop (o + 4 + 1) = vs' at hrun
  have hheap : (w.setRow b vs'.toArray).heap[b]? = some (.cells vs'.toArray T (0, 0)) := setRow_heap w b _ _ T (0, 0) hrow
  have hother : ∀ k, k ≠ b → (w.setRow b vs'.toArray).heap[k]? = w.heap[k]? := fun k hk => setRow_other w b k _ hk
  have hget : ∀ j, vs'[j]? = if j = o + 4 then some v else vs[j]? := by
    intro j
    subst hvs'
    have hs : vs.take (o + 4) ++ [v] ++ vs.drop (o + 4 + 1) = vs.set (o + 4) v := by
      rw [List.set_eq_take_append_cons_drop]; simp [hlen]
    rw [hs, List.getElem?_set]
    by_cases e : o + 4 = j
    · subst e; simp [hlen]
    · simp [e, Ne.symm e]
  refine ⟨w.setRow b vs'.toArray, turn m b (o + 4) v, ?_, ?_, ?_, ?_, ?_⟩
  · simp only [Instr.storeAt, Instr.sureAddr, Sem.run_bind, Sem.run_pure, Result.andThen_ok]; exact hrun
  · refine ⟨?_, ?_, hi.inj, fun i b n f e ho => by simpa [World.setRow] using hi.low i b n f e ho⟩
    · intro b1 o1 q hq
      unfold turn at hq
      by_cases e1 : b1 = b
      · subst e1
        simp only [World.cell?, hheap, Option.isSome_none]
        have : vs'.toArray[o1]? = some q := by
          rw [List.getElem?_toArray, hget]
          split at hq
          · rename_i e; rw [if_pos e.2]; exact hq
          · rename_i e
            have e2 : o1 ≠ o + 4 := fun h => e ⟨rfl, h⟩
            rw [if_neg e2]
            have := hi.mem _ _ _ hq
            simp only [World.cell?, hrow, Option.isSome_none] at this
            simpa using this
        simpa using this
      · rw [if_neg (fun h => e1 h.1)] at hq
        have := hi.mem _ _ _ hq
        simp only [World.cell?] at this ⊢
        rw [hother b1 e1]; exact this
    · intro id blk hb
      obtain ⟨b2, n2, h1, h2, h3⟩ := hi.live id blk hb
      have hne : b2 ≠ b := fun e => hp.free id b2 n2 h1 (by rw [← e]; exact h2.1)
      refine ⟨b2, n2, h1, ⟨h2.1, fun f hf => by simpa [World.setRow] using h2.2 f hf⟩, h3.mlit (hst id blk hb) (hother b2 hne) fun o' ho' => ?_⟩
      unfold turn; rw [if_neg (fun h => hne h.1)]; exact ho'
  · refine ⟨by simpa [World.setRow] using hadv.size, hadv.os, hadv.tape, hadv.output, ?_, ?_, ?_, hadv.ple, hadv.pnew⟩
    · intro k hk hn
      rw [hother k (by have h3 : wi.heap.size ≤ b := hp.new; omega)]; exact hadv.block k hk hn
    · intro b1 o1 q hq
      have h1 := hadv.mle _ _ _ hq
      unfold turn
      rw [if_neg ?_]; · exact h1
      rintro ⟨rfl, _⟩
      have h2 := hmi _ _ _ hq
      have h3 : wi.heap.size ≤ b1 := hp.new
      simp only [World.cell?] at h2
      cases h4 : wi.heap[b1]? with
      | none => rw [h4] at h2; cases h2
      | some z => have := (Array.getElem?_eq_some_iff.1 h4).1; omega
    · intro k hk hn o'
      have h3 : wi.heap.size ≤ b := hp.new
      unfold turn
      rw [if_neg (fun h => by have := h.1; omega)]
      exact hadv.mnew k hk hn o'
  · intro k hk
    have h := hK k hk
    refine ⟨h.new, ?_, h.free, turn_at hx hv _ _ _ h.cel⟩
    by_cases e : k.1.1 = b
    · rw [e]; exact ⟨vs', T, hheap⟩
    · rw [hother _ e]; exact h.row
  · have low : ∀ i, i < 4 → ∀ q, m b (o + i) = some q → turn m b (o + 4) v b (o + i) = some q := by
      intro i hi q hq
      unfold turn; rw [if_neg (by rintro ⟨_, h⟩; omega)]; exact hq
    refine .cons (by simpa using low 0 (by omega) _ (by simpa using hx.c0)) (.lit _) rfl (.cons (low 1 (by omega) _ hx.c1) (.lit _) rfl (.cons (low 2 (by omega) _ hx.c2) (.lit _) rfl (.cons (low 3 (by omega) _ hx.c3) (.lit _) rfl (.cons ?_ (.lit _) hone (.nil _ _)))))
    unfold turn; rw [if_pos ⟨rfl, rfl⟩]
end
end Go.Av

/- What a call has made is given up to memory; the worklist's own step. No condition. -/
namespace Go.Av
def kidsAt (b : Nat) : Nat → List Ex → KL
  | _, [] => []
  | o, x :: l => ((b, o), x) :: kidsAt b (o + 5) l
theorem kidsAt_mem {b : Nat} : ∀ {o : Nat} {l : List Ex} {i : Nat} {x : Ex}, l[i]? = some x → ((b, o + 5 * i), x) ∈ kidsAt b o l
  | _, [], _, _, h => by simp at h
  | o, a :: l, 0, x, h => by simp at h; subst h; simp [kidsAt]
  | o, a :: l, i + 1, x, h => by
    have := kidsAt_mem (b := b) (o := o + 5) (l := l) (i := i) (x := x) (by simpa using h)
    simp only [kidsAt, List.mem_cons]
    exact .inr (by rw [show o + 5 * (i + 1) = o + 5 + 5 * i by omega]; exact this)
theorem kidsAt_cel {m : Mem} {b : Nat} : ∀ {o k : Nat} {l : List Ex}, IElems m b o k (Ex.cellsL l) → ∀ p ∈ kidsAt b o l, p.1.1 = b ∧ IAt m p.1.1 p.1.2 p.2.cells
  | _, _, [], _, p, hp => by simp [kidsAt] at hp
  | o, k, a :: l, h, p, hp => by
    obtain ⟨rfl, h1, h2⟩ := elems_inv h
    simp only [kidsAt, List.mem_cons] at hp
    rcases hp with rfl | hp
    · exact ⟨rfl, h1⟩
    · exact kidsAt_cel h2 p hp
section
variable {C : Ctx} {wi : World} {mi : Mem}
theorem froz_osl {w : World} {m : Mem} {φ : Pl} {st st' : Store} {K : KL} {id : Nat} {v : Value} {ks : List Ex} (hks : ks ≠ []) (hi : Inv w m φ st) (hr : Rep m φ (.osl id 5 0 ks.length) v) (hid : st id = some (.arr 5 (Ex.cellsL ks))) (hadv : Adv wi mi (fun _ => none) w m φ)
    (hK : ∀ k ∈ K, PF wi.heap.size w m φ k.1.1 k.1.2 k.2) (hst : ∀ i blk, st' i = some blk → i ≠ id ∧ st i = some blk ∧ LitBlk blk) :
    ∃ b' cap m1 φ2, v = .slice (some ⟨b', 0, none⟩) ks.length cap ∧ Inv w m1 φ2 st' ∧ Adv wi mi (fun _ => none) w m1 φ2 ∧ (∀ k ∈ K ++ kidsAt b' 0 ks, PF wi.heap.size w m1 φ2 k.1.1 k.1.2 k.2) ∧ IRep m1 (.isl (Ex.cellsL ks)) v ∧
      (∀ i, st' i ≠ none → φ2 i = φ i) ∧ (∀ i, φ2 i ≠ none → st' i ≠ none) := by
  have hlen : 0 < ks.length := List.length_pos_iff.2 hks
  have hfr : frzV st (.osl id 5 0 ks.length) = some (.isl (Ex.cellsL ks), upd st id (some (.frz 5 (Ex.cellsL ks)))) := by
    simp [frzV, frz, fuelF, frzSl, hid, tst, window, bnd, frzIds, List.take_of_length_le]
  obtain ⟨m1, k1, k2, k3⟩ := frzV_sound hi hr hfr
  cases hr with
  | @osl _ _ _ _ cap b' n' ao eφ hlc hcap ha1 ha2 =>
    have hao := ha1 (by omega)
    subst hao
    obtain ⟨hb, hok⟩ := blk_own hi eφ hid
    have hrow : ∃ (vs : List Value) (T : TypeId), w.heap[b']? = some (.cells vs.toArray T (0, 0)) := by
      cases hok with | arr h1 => exact ⟨_, _, h1⟩
    have hnew : wi.heap.size ≤ b' := by
      rcases hadv.pnew id b' n' b' eφ hb.1 with h | h
      · exact h
      · exact absurd (fun id b n e => by cases e) h
    have dec : ∀ i, st' i = none ∨ st' i ≠ none := fun i => by cases st' i <;> simp
    let φ2 : Pl := fun i => match st' i with
      | some _ => φ i
      | none => none
    have hφ2 : ∀ i, st' i ≠ none → φ2 i = φ i := fun i h => by
      show (match st' i with | some _ => φ i | none => none) = φ i
      cases e : st' i with
      | none => exact absurd e h
      | some _ => rfl
    have hφ2n : ∀ i, φ2 i ≠ none → st' i ≠ none := fun i h e => h (by
      show (match st' i with | some _ => φ i | none => none) = none
      rw [e])
    have hsub : ∀ i p, φ2 i = some p → φ i = some p ∧ st' i ≠ none := fun i p h => by
      have h1 := hφ2n i (by rw [h]; simp)
      exact ⟨by rw [← hφ2 i h1]; exact h, h1⟩
    have hA1 := hadv.trans k3
    refine ⟨b', cap, m1, φ2, by simp, ?_, ?_, ?_, k1, hφ2, hφ2n⟩
    · refine ⟨k2.mem, ?_, ?_, fun i b n f e ho => k2.low i b n f (hsub _ _ e).1 ho⟩
      · intro i blk hb'
        obtain ⟨h1, h2, h3⟩ := hst i blk hb'
        have h4 : upd st id (some (.frz 5 (Ex.cellsL ks))) i = some blk := by simp [upd, h1, h2]
        obtain ⟨b, n, q1, q2, q3⟩ := k2.live i blk h4
        exact ⟨b, n, by rw [hφ2 i (by rw [hb']; simp)]; exact q1, q2, q3.mlit h3 rfl fun o h => h⟩
      · intro i j b bx n n2 b1 b2 f h1 h2 h3 h4 o1 o2
        obtain ⟨q1, q2, _⟩ := hst i b1 h1
        obtain ⟨r1, r2, _⟩ := hst j b2 h2
        exact hi.inj i j b bx n n2 b1 b2 f q2 r2 (hsub _ _ h3).1 (hsub _ _ h4).1 o1 o2
    · refine ⟨hA1.size, hA1.os, hA1.tape, hA1.output, hA1.block, hA1.mle, hA1.mnew, (fun _ _ _ h => by cases h), ?_⟩
      intro i b n f h2 ho
      exact hA1.pnew i b n f (hsub _ _ h2).1 ho
    · intro k hk
      rcases List.mem_append.1 hk with hk | hk
      · have h := hK k hk
        exact ⟨h.new, h.row, fun i r n e => h.free i r n (hsub _ _ e).1, h.cel.mono k3.mle⟩
      · have hel : IElems m1 b' 0 5 (Ex.cellsL ks) := by
          rcases isl_inv k1 with ⟨e1, _⟩ | ⟨_, b2, off, k', cap', hv, hel, _⟩
          · exact absurd (by cases ks with | nil => rfl | cons a l => simp [Ex.cellsL] at e1) hks
          · injection hv with q1 _ _
            injection q1 with q1; injection q1 with q1 q2; subst q1; subst q2
            cases ks with
            | nil => exact absurd rfl hks
            | cons a l => obtain ⟨rfl, _⟩ := elems_inv hel; exact hel
        obtain ⟨e1, e2⟩ := kidsAt_cel hel k hk
        refine ⟨by rw [e1]; exact hnew, by rw [e1]; exact hrow, ?_, e2⟩
        intro i r n e ho
        rw [e1] at ho
        obtain ⟨h1, h2⟩ := hsub _ _ e
        cases hb2 : st' i with
        | none => exact h2 hb2
        | some blk =>
          obtain ⟨q1, q2, _⟩ := hst i blk hb2
          exact q1 (hi.inj i id r b' n n' blk _ b' q2 hid h1 eφ ho hb.1)
theorem wpOp_store {ops : Array Oper} {Q : Exit → Act → World → Prop} {K : Act → World → Prop} {i : Nat} {t ty : TypeId} {x y : Operand} {pos : String} {after : Array Edge} {a : Act} {w w' : World} (ho : ops[i]? = some ⟨none, .store t x y, ty, pos, after, none⟩)
    (hrun : (Instr.storeAt t (a.eval x) (a.eval y)).run C.P w = .ok () w') (hK : K a w') : wpOpIn (FR none) 0 C.P ops Q i K a w := by
  unfold wpOpIn
  rw [ho]
  simp only [Region.wanted, if_true]
  refine ⟨fun _ _ => trivial, ?_⟩
  rw [Oper.semAt_eq _ _ _ (fun c e => by cases e)]
  have : (execOp a.eval ⟨none, .store t x y, ty, pos, after, none⟩).run C.P w = .ok .skip w' := by
    unfold execOp; simp [hrun]
  rw [this]
  simpa [Oper.uponIn, Act.put] using hK
end
end Go.Av

/- A box given up to memory; the worklist's step as the relation has it. No condition. -/
namespace Go.Av
section
variable {C : Ctx} {wi : World} {mi : Mem} {nt : Nat}
theorem GG.codeA (hS : SoundOk C) {G : List Nat} {c : Code} {S S' : AS} {e : AExit} {a : Act} {w : World} {K : KL} (hc : codeOk nt c = true) (hx : execA C G S.st.length c S = some (e, S')) (h : GG wi mi nt (fun id => id < S.st.length) K (envOf S.env) (stOf S.st) a w) (hnr : noRange c = true := by rfl) :
    c.wp C.P (fun e' a' w' => e' = exitOf e ∧ GG wi mi nt (fun id => id < S'.st.length) K (envOf S'.env) (stOf S'.st) a' w') a w := by
  obtain ⟨n, hn⟩ := (execA_iff _).1 hx
  exact GG.code hS.ctx (callA_sound hS) (hS.draw _ (callA_sound hS)) hc hn h hnr
/-- Ownership kept for some blocks only. -/
theorem drop_ids {w : World} {m m1 : Mem} {φ : Pl} {st st1 st' : Store} {K : KL} {id b' : Nat} {n' : Ext} {blk0 : Blk} (hi : Inv w m φ st) (k2 : Inv w m1 φ st1) (hA1 : Adv wi mi (fun _ => none) w m1 φ) (hle : MLe m m1) (eφ : φ id = some (b', n')) (hid : st id = some blk0)
    (hK : ∀ k ∈ K, PF wi.heap.size w m φ k.1.1 k.1.2 k.2) (hst : ∀ i blk, st' i = some blk → i ≠ id ∧ st i = some blk ∧ st1 i = some blk ∧ LitBlk blk) :
    ∃ φ2, Inv w m1 φ2 st' ∧ Adv wi mi (fun _ => none) w m1 φ2 ∧ (∀ k ∈ K, PF wi.heap.size w m1 φ2 k.1.1 k.1.2 k.2) ∧ Free φ2 b' ∧ (∀ i, st' i ≠ none → φ2 i = φ i) ∧ (∀ i, φ2 i ≠ none → st' i ≠ none) := by
  let φ2 : Pl := fun i => match st' i with
    | some _ => φ i
    | none => none
  have hφ2 : ∀ i, st' i ≠ none → φ2 i = φ i := fun i h => by
    show (match st' i with | some _ => φ i | none => none) = φ i
    cases e : st' i with
    | none => exact absurd e h
    | some _ => rfl
  have hφ2n : ∀ i, φ2 i ≠ none → st' i ≠ none := fun i h e => h (by
    show (match st' i with | some _ => φ i | none => none) = none
    rw [e])
  have hsub : ∀ i p, φ2 i = some p → φ i = some p ∧ st' i ≠ none := fun i p h => by
    have h1 := hφ2n i (by rw [h]; simp)
    exact ⟨by rw [← hφ2 i h1]; exact h, h1⟩
  refine ⟨φ2, ⟨k2.mem, ?_, ?_, fun i b n f e ho => k2.low i b n f (hsub _ _ e).1 ho⟩, ?_, ?_, ?_, hφ2, hφ2n⟩
  · intro i blk hb'
    obtain ⟨h1, h2, h4, h3⟩ := hst i blk hb'
    obtain ⟨b, n, q1, q2, q3⟩ := k2.live i blk h4
    exact ⟨b, n, by rw [hφ2 i (by rw [hb']; simp)]; exact q1, q2, q3.mlit h3 rfl fun o h => h⟩
  · intro i j b bx n n2 b1 b2 f h1 h2 h3 h4 o1 o2
    obtain ⟨q1, q2, _⟩ := hst i b1 h1
    obtain ⟨r1, r2, _⟩ := hst j b2 h2
    exact hi.inj i j b bx n n2 b1 b2 f q2 r2 (hsub _ _ h3).1 (hsub _ _ h4).1 o1 o2
  · refine ⟨hA1.size, hA1.os, hA1.tape, hA1.output, hA1.block, hA1.mle, hA1.mnew, (fun _ _ _ h => by cases h), ?_⟩
    intro i b n f h2 ho
    exact hA1.pnew i b n f (hsub _ _ h2).1 ho
  · intro k hk
    have h := hK k hk
    exact ⟨h.new, h.row, fun i r n e => h.free i r n (hsub _ _ e).1, h.cel.mono hle⟩
  · intro i r n e ho
    obtain ⟨h1, h2⟩ := hsub _ _ e
    cases hb2 : st' i with
    | none => exact h2 hb2
    | some blk =>
      obtain ⟨q1, q2, _⟩ := hst i blk hb2
      exact q1 (hi.inj i id r b' n n' blk _ b' q2 hid h1 eφ ho (blk_own hi eφ hid).1.1)
/-- What stays when places are turned: values as they are, and what is owned still. -/
def Stays (st' : Store) : AV → Prop
  | .i (.lit _) => True
  | .own id _ => st' id ≠ none
  | .osl id _ _ _ => st' id ≠ none
  | .nils => True
  | _ => False
theorem Stays.rep {m m' : Mem} {φ φ' : Pl} {st' : Store} {v : AV} {x : Value} (h : Stays st' v) (he : ∀ i, st' i ≠ none → φ' i = φ i) (hr : Rep m φ v x) : Rep m' φ' v x := by
  cases hr with
  | junk => cases h
  | nils => exact .nils
  | i hr => cases hr with
    | lit => exact .i (.lit _)
    | agg => cases h
    | isl0 => cases h
    | isl => cases h
    | iref => cases h
  | own e => exact .own (by rw [he _ h]; exact e)
  | ownE => cases h
  | osl e a b c d => exact .osl (by rw [he _ h]; exact e) a b c d
  | agg => cases h
  | tup => cases h
  | fn => cases h
  | yld => cases h
  | ydead => cases h
/-- An owned expression becomes a place in memory. -/
theorem GG.pub {ok ok' : Nat → Prop} {K : KL} {env : Nat → AV} {st st' : Store} {a : Act} {w : World} {u id : Nat} {e : Ex} (h : GG wi mi nt ok K env st a w) (hu : env u = .own id 0) (hid : st id = some (.box (impI e.cells)))
    (hst : ∀ i blk, st' i = some blk → i ≠ id ∧ st i = some blk ∧ LitBlk blk) (hok : ∀ i, st' i ≠ none → ok' i) :
    ∃ b', (∀ env', (∀ t, env' t = .junk ∨ (t = u ∧ env' t = .i (.lit (.pointer (some ⟨b', 0, none⟩)))) ∨ (env' t = env t ∧ Stays st' (env t))) → GG wi mi nt ok' (K ++ [((b', 0), e)]) env' st' a w) := by
  obtain ⟨⟨m, φ, hi, henv, hadv, _, hK⟩, hsz, hdf⟩ := h
  have hr := henv u; rw [hu] at hr
  have hfr : frzV st (.own id 0) = some (.iref e.cells, upd st id (some (.fbox e.cells))) := by
    have h1 : ∀ (l : List IV) (n : Nat), frzL st (n + l.length + 1) (impI l) = some (l, []) := by
      intro l
      induction l with
      | nil => intro n; simp [impI, frzL]
      | cons c l ih => intro n; simp only [impI, List.length_cons]; rw [show n + (l.length + 1) + 1 = (n + l.length + 1) + 1 by omega]; simp [frzL, frz, bnd, ih n]
    have h2 : frzL st 18 (impI e.cells) = some (e.cells, []) := by
      have := h1 e.cells 12
      rw [Ex.cells_length] at this
      exact this
    have h3 : frzP st 19 id 0 (some (.box (impI e.cells))) = some (.iref e.cells, [(id, .fbox e.cells)]) := by
      show bnd (frzL st 18 (impI e.cells)) (fun p => tst (decide (0 ≤ p.1.length)) (some (IV.iref (dropE 0 p.1), (id, Blk.fbox p.1) :: p.2))) = _
      rw [h2]; simp [dropE]
    have h4 : frz st 20 (.own id 0) = some (.iref e.cells, [(id, .fbox e.cells)]) := by
      show frzP st 19 id 0 (st id) = _
      rw [hid]; exact h3
    show bnd (frz st 20 (.own id 0)) (fun p => some (p.1, frzIds st p.2)) = _
    rw [h4]; rfl
  obtain ⟨m1, k1, k2, k3⟩ := frzV_sound hi hr hfr
  cases hr' : a.tmps.getD u undef with
  | pointer p =>
    rw [hr'] at hr k1
    cases hr with
    | @own _ _ b' n' eφ =>
      obtain ⟨hb, hbok⟩ := blk_own hi eφ hid
      have hrow : ∃ (vs : List Value) (T : TypeId), w.heap[b']? = some (.cells vs.toArray T (0, 0)) := by
        cases hbok with | box h1 => exact ⟨_, _, h1⟩
      have hnew : wi.heap.size ≤ b' := by
        rcases hadv.pnew id b' n' b' eφ hb.1 with h | h
        · exact h
        · exact absurd (fun id b n e => by cases e) h
      obtain ⟨φ2, g1, g2, g3, g4, g5, g6⟩ := drop_ids (wi := wi) (mi := mi) (K := K) hi k2 (hadv.trans k3) k3.mle eφ hid hK (st' := st') fun i blk hb' => by
        obtain ⟨q1, q2, q3⟩ := hst i blk hb'
        exact ⟨q1, q2, by simp [upd, q1, q2], q3⟩
      refine ⟨b', fun env' he => ⟨⟨m1, φ2, g1, fun t => ?_, g2, fun i hi' => hok i (g6 i hi'), ?_⟩, hsz, hdf⟩⟩
      · rcases he t with h | ⟨rfl, h⟩ | ⟨h, hs⟩
        · rw [h]; exact .junk _
        · rw [h, hr']; exact .i (.lit _)
        · rw [h]; exact hs.rep g5 (henv t)
      · intro k hk
        rcases List.mem_append.1 hk with hk | hk
        · exact g3 k hk
        · simp only [List.mem_singleton] at hk
          subst hk
          refine ⟨hnew, hrow, g4, ?_⟩
          cases k1 with | iref hat => exact hat
  | _ => rw [hr'] at hr; cases hr
/-- The worklist's store: the kids of a place become what the call has made of them. -/
theorem GG.turn {ok ok' : Nat → Prop} {K : KL} {env : Nat → AV} {st st' : Store} {a : Act} {w : World} {u b o : Nat} {x : Ex} {t : TypeId} {r : AV} (h : GG wi mi nt ok K env st a w) (ht : szOf C.P t = some 1) (hmi : MemOk wi mi) (hk : ((b, o), x) ∈ K) (hu : env u = r)
    (hr : (r = .nils ∧ x.kids = [] ∧ ∀ i blk, st' i = some blk → st i = some blk) ∨ ∃ id, r = .osl id 5 0 x.kids.length ∧ x.kids ≠ [] ∧ st id = some (.arr 5 (Ex.cellsL x.kids)) ∧ ∀ i blk, st' i = some blk → i ≠ id ∧ st i = some blk)
    (hlit : StLit st') (hok : ∀ i, st' i ≠ none → ok' i) :
    ∃ w' b' ao cap, a.tmps.getD u undef = .slice ao x.kids.length cap ∧ (x.kids ≠ [] → ao = some ⟨b', 0, none⟩) ∧ (Instr.storeAt t (.pointer (some ⟨b, o + 4, none⟩)) (a.tmps.getD u undef)).run C.P w = .ok () w' ∧
      ∀ env', (∀ t, env' t = .junk ∨ (a.tmps.getD t undef = .pointer (some ⟨b, o, none⟩) ∧ env' t = .i (.iref [.int x.kind, .int x.col, .bool x.val.null, .int x.val.n, .lit (.slice ao x.kids.length cap)])) ∨ (env' t = env t ∧ Stays st' (env t))) →
        GG wi mi nt ok' (K ++ kidsAt b' 0 x.kids) env' st' a w' := by
  obtain ⟨⟨m, φ, hi, henv, hadv, _, hK⟩, hsz, hdf⟩ := h
  have hru := henv u; rw [hu] at hru
  have main : ∃ (b' : Nat) (ao : Option Addr) (cap : Nat) (m1 : Mem) (φ2 : Pl), a.tmps.getD u undef = .slice ao x.kids.length cap ∧ (x.kids ≠ [] → ao = some ⟨b', 0, none⟩) ∧ Inv w m1 φ2 st' ∧ Adv wi mi (fun _ => none) w m1 φ2 ∧ (∀ k ∈ K ++ kidsAt b' 0 x.kids, PF wi.heap.size w m1 φ2 k.1.1 k.1.2 k.2) ∧
      IRep m1 (.isl (Ex.cellsL x.kids)) (a.tmps.getD u undef) ∧ (∀ i, st' i ≠ none → φ2 i = φ i) ∧ (∀ i, φ2 i ≠ none → st' i ≠ none) := by
    rcases hr with ⟨rfl, hx, hst⟩ | ⟨id, rfl, hx, hid, hst⟩
    · generalize hv : a.tmps.getD u undef = v at hru
      cases hru
      let φ2 : Pl := fun i => match st' i with
        | some _ => φ i
        | none => none
      have hφ2 : ∀ i, st' i ≠ none → φ2 i = φ i := fun i h => by
        show (match st' i with | some _ => φ i | none => none) = φ i
        cases e : st' i with
        | none => exact absurd e h
        | some _ => rfl
      have hφ2n : ∀ i, φ2 i ≠ none → st' i ≠ none := fun i h e => h (by
        show (match st' i with | some _ => φ i | none => none) = none
        rw [e])
      have hsub : ∀ i p, φ2 i = some p → φ i = some p := fun i p h => by
        have h1 := hφ2n i (by rw [h]; simp)
        rw [← hφ2 i h1]; exact h
      refine ⟨0, none, 0, m, φ2, by rw [hx]; rfl, fun h => absurd hx h, ⟨hi.mem, ?_, ?_, fun i b n f e ho => hi.low i b n f (hsub _ _ e) ho⟩, ?_, ?_, ?_, hφ2, hφ2n⟩
      · intro i blk hb'
        obtain ⟨b, n, q1, q2, q3⟩ := hi.live i blk (hst i blk hb')
        exact ⟨b, n, by rw [hφ2 i (by rw [hb']; simp)]; exact q1, q2, q3.mlit (hlit i blk hb') rfl fun o h => h⟩
      · intro i j b bx n n2 b1 b2 f h1 h2 h3 h4 o1 o2
        exact hi.inj i j b bx n n2 b1 b2 f (hst i b1 h1) (hst j b2 h2) (hsub _ _ h3) (hsub _ _ h4) o1 o2
      · refine ⟨hadv.size, hadv.os, hadv.tape, hadv.output, hadv.block, hadv.mle, hadv.mnew, (fun _ _ _ h => by cases h), ?_⟩
        intro i b n f h2 ho
        exact hadv.pnew i b n f (hsub _ _ h2) ho
      · intro k hk
        rw [hx] at hk
        simp only [kidsAt, List.append_nil] at hk
        have h := hK k hk
        exact ⟨h.new, h.row, fun i r n e => h.free i r n (hsub _ _ e), h.cel⟩
      · rw [hx]; simp only [Ex.cellsL]; exact .isl0 _ _ fun _ => rfl
    · obtain ⟨b', cap, m1, φ2, e1, g1, g2, g3, g4, g5, g6⟩ := froz_osl (wi := wi) (mi := mi) (K := K) hx hi hru hid hadv hK (st' := st') fun i blk hb' => ⟨(hst i blk hb').1, (hst i blk hb').2, hlit i blk hb'⟩
      exact ⟨b', _, cap, m1, φ2, e1, fun _ => rfl, g1, g2, g3, g4, g5, g6⟩
  obtain ⟨b', ao, cap, m1, φ2, e1, e2, g1, g2, g3, g4, g5, g6⟩ := main
  obtain ⟨w', m', k1, k2, k3, k4, k5⟩ := store_turn (C := C) (wi := wi) (mi := mi) ht g1 hlit g2 hmi g3 (List.mem_append_left _ hk) g4
  refine ⟨w', b', ao, cap, e1, e2, k1, fun env' he => ⟨⟨m', φ2, k2, fun t => ?_, k3, fun i hi' => hok i (g6 i hi'), k4⟩, hsz, hdf⟩⟩
  rcases he t with h | ⟨h1, h⟩ | ⟨h, hs⟩
  · rw [h]; exact .junk _
  · rw [h, h1, ← e1]; exact .i (.iref k5)
  · rw [h]; exact hs.rep g5 (henv t)
end
end Go.Av

/- A region whose last operation is the worklist's store. No condition. -/
namespace Go.Av
section
variable {C : Ctx} {wi : World} {mi : Mem} {nt : Nat}
theorem GG.litAt {ok : Nat → Prop} {K : KL} {env : Nat → AV} {st : Store} {a : Act} {w : World} {t : Nat} {v : Value} (h : GG wi mi nt ok K env st a w) (ht : env t = .i (.lit v)) : a.tmps.getD t undef = v := by
  obtain ⟨⟨m, φ, hi, henv, _⟩, _⟩ := h
  have := henv t; rw [ht] at this
  exact this.lit_eq
theorem GG.region (hS : SoundOk C) {id : Nat} {ops : Array Oper} {os1 os2 : List Oper} {o : Oper} {K : KL} {S : AS} {a : Act} {w : World} {u b' o' : Nat} {x : Ex} {Q : Exit → Act → World → Prop} {PP : (Nat → AV) → Store → Prop} (hops : ops.toList = os1 ++ (os2 ++ [o])) (hs : ∀ o ∈ ops, operOk nt o = true)
    (g : GG wi mi nt (fun id => id < S.st.length) K (envOf S.env) (stOf S.st) a w) (hk : ((b', o'), x) ∈ K)
    (h : ∃ R1, runOps C (callA C) ops.toList false S.st.length os1 0 { env := envOf S.env, st := stOf S.st, log := [] } = some R1 ∧ R1.env u = .i (.lit (.pointer (some ⟨b', o', none⟩))) ∧
      ∃ R2, runOps C (callA C) ops.toList false S.st.length os2 os1.length { env := upd R1.env u (.i (.iref x.cells)), st := R1.st, log := R1.log } = some R2 ∧ PP R2.env R2.st)
    (hfin : ∀ env st a' w', PP env st → GG wi mi nt (fun _ => True) K env st a' w' → wpOpIn (FR none) 0 C.P ops Q (os1.length + os2.length) (fun a w => wpOpsIn (FR none) 0 C.P ops Q [] a w) a' w') : (Code.region id ops false).wp C.P Q a w := by
  obtain ⟨R1, h1, h2, R2, h3, h4⟩ := h
  refine wp_regionW ?_
  have hsz : ops.size = os1.length + (os2.length + 1) := by rw [← Array.length_toList, hops]; simp
  have hget : ∀ j, ops[j]? = (os1 ++ (os2 ++ [o]))[j]? := fun j => by rw [← hops, Array.getElem?_toList]
  rw [List.range_eq_range', hsz, show List.range' 0 (os1.length + (os2.length + 1)) = List.range' 0 os1.length ++ (List.range' os1.length os2.length ++ [os1.length + os2.length]) by
    rw [← List.range'_append_1, ← List.range'_append_1]; simp]
  have hcall := callA_sound hS
  refine GG.ops hS.ctx hcall hs (R := { env := envOf S.env, st := stOf S.st, log := [] }) (base := S.st.length) (i := 0) (fun j hj => ?_) h1 (g.ok' fun id h => .inl h) fun a1 w1 g1 => ?_
  · rw [hget, Nat.zero_add, List.getElem?_append_left hj]
  · have g2 := g1.see (u := u) h2 hk
    rw [Nat.zero_add] at g2
    refine GG.ops hS.ctx hcall hs (R := { env := upd R1.env u (.i (.iref x.cells)), st := R1.st, log := R1.log }) (base := S.st.length) (fun j hj => ?_) h3 g2 fun a2 w2 g3 => ?_
    · rw [hget, List.getElem?_append_right (by omega), Nat.add_sub_cancel_left, List.getElem?_append_left hj]
    · rw [wpOpsIn_cons]
      exact hfin _ _ a2 w2 h4 (g3.ok' fun _ _ => trivial)
theorem wpOp_load {ops : Array Oper} {Q : Exit → Act → World → Prop} {K : Act → World → Prop} {i d : Nat} {t ty : TypeId} {x : Operand} {pos : String} {after : Array Edge} {v : Value} {a : Act} {w : World} (ho : ops[i]? = some ⟨some d, .load t x, ty, pos, after, none⟩)
    (hrun : (Instr.loadAt t (a.eval x)).run C.P w = .ok v w) (hK : K (a.put (some d) v) w) : wpOpIn (FR none) 0 C.P ops Q i K a w := by
  unfold wpOpIn
  rw [ho]
  simp only [Region.wanted, if_true]
  refine ⟨fun _ _ => trivial, ?_⟩
  rw [Oper.semAt_eq _ _ _ (fun c e => by cases e)]
  have : (execOp a.eval ⟨some d, .load t x, ty, pos, after, none⟩).run C.P w = .ok (.value v) w := by
    unfold execOp; simp [hrun]
  rw [this]
  simpa [Oper.uponIn] using hK
theorem GG.put {ok : Nat → Prop} {K : KL} {env : Nat → AV} {st : Store} {a : Act} {w : World} {d : Nat} {x : IV} {v : Value} (hd : d < nt) (h : GG wi mi nt ok K env st a w) (hr : IRep mi x v) : GG wi mi nt ok K (upd env d (.i x)) st (a.put (some d) v) w := by
  obtain ⟨⟨m, φ, hi, henv, hadv, hok, hK⟩, hsz, hdf⟩ := h
  exact ⟨⟨m, φ, hi, putA_rep (dst := some d) henv hsz (by simpa [dstOk] using hd) (.i (hr.mono hadv.mle)), hadv, hok, hK⟩, by rw [put_size]; exact hsz, by rw [put_defers']; exact hdf⟩
/-- Memory goes on, and nothing that lay there turns. -/
theorem Inv.later {w w' : World} {m : Mem} {φ : Pl} {st : Store} (h : Inv w m φ st) (hsz : w.heap.size ≤ w'.heap.size) (hw : ∀ f, f < w.heap.size → w'.heap[f]? = w.heap[f]?) : Inv w' m φ st := by
  refine ⟨fun b o v e => ?_, fun id blk e => ?_, h.inj, fun id b n f e ho => Nat.lt_of_lt_of_le (h.low id b n f e ho) hsz⟩
  · rw [cell_of_heap (hw b (h.mem.lt e))]; exact h.mem b o v e
  · obtain ⟨b, n, k1, k2, k3⟩ := h.live id blk e
    exact ⟨b, n, k1, ⟨k2.1, fun f hf => Nat.lt_of_lt_of_le (k2.2 f hf) hsz⟩, k3.mono k2.1 (fun f hf => hw f (k2.2 f hf)) (.refl _) (.refl _) fun _ _ _ => rfl⟩
/-- A region that loads, once, what lies at a place that was there before. -/
theorem GG.regionL (hS : SoundOk C) {id d u : Nat} {t ty : TypeId} {pos : String} {after : Array Edge} {p : Value} {x : IV} {ops : Array Oper} {os1 os2 : List Oper} {G : List Nat} {S S' : AS} {a : Act} {w : World} {Q : Exit → Act → World → Prop} (hops : ops.toList = os1 ++ (⟨some d, .load t (.tmp u), ty, pos, after, none⟩ :: os2)) (hs : ∀ o ∈ ops, operOk nt o = true)
    (g : GG wi mi nt (fun id => id < S.st.length) [] (envOf S.env) (stOf S.st) a w) (hd : d < nt)
    (hrun : ∀ w', wi.heap.size ≤ w'.heap.size → (∀ f, f < wi.heap.size → w'.heap[f]? = wi.heap[f]?) → ∃ y, (Instr.loadAt t p).run C.P w' = .ok y w' ∧ IRep mi x y)
    (h : ∃ R1, runOps C (callA C) ops.toList false S.st.length os1 0 { env := envOf S.env, st := stOf S.st, log := [] } = some R1 ∧ R1.env u = .i (.lit p) ∧
      ∃ R2, runOps C (callA C) ops.toList false S.st.length os2 (os1.length + 1) { env := upd R1.env d (.i x), st := R1.st, log := R1.log } = some R2 ∧ Av.settle G 0 R2.env R2.st = S')
    (hfin : ∀ a' w', GG wi mi nt (fun id => id < S'.st.length) [] (envOf S'.env) (stOf S'.st) a' w' → Q .normal a' w') : (Code.region id ops false).wp C.P Q a w := by
  obtain ⟨R1, h1, h2, R2, h3, rfl⟩ := h
  refine wp_regionW ?_
  have hsz : ops.size = os1.length + (1 + os2.length) := by rw [← Array.length_toList, hops]; simp; omega
  have hget : ∀ j, ops[j]? = (os1 ++ (⟨some d, .load t (.tmp u), ty, pos, after, none⟩ :: os2))[j]? := fun j => by rw [← hops, Array.getElem?_toList]
  rw [List.range_eq_range', hsz, show List.range' 0 (os1.length + (1 + os2.length)) = List.range' 0 os1.length ++ (os1.length :: (List.range' (os1.length + 1) os2.length ++ [])) by
    rw [← List.range'_append_1, ← List.range'_append_1]; simp]
  have hcall := callA_sound hS
  refine GG.ops hS.ctx hcall hs (R := { env := envOf S.env, st := stOf S.st, log := [] }) (base := S.st.length) (i := 0) (fun j hj => ?_) h1 (g.ok' fun id h => .inl h) fun a1 w1 g1 => ?_
  · rw [hget, Nat.zero_add, List.getElem?_append_left hj]
  · have hv := g1.litAt h2
    obtain ⟨y, hrun, hy⟩ := hrun w1 (by
      obtain ⟨⟨m, φ, k1, k2, k3, _⟩, _⟩ := g1
      exact k3.size) (by
      obtain ⟨⟨m, φ, k1, k2, k3, _⟩, _⟩ := g1
      exact fun f hf => k3.block f hf fun id b n e => by cases e)
    rw [wpOpsIn_cons]
    refine wpOp_load (v := y) (d := d) (t := t) (x := .tmp u) (ty := ty) (pos := pos) (after := after) (by rw [hget, List.getElem?_append_right (Nat.le_refl _)]; simp) (by
      show (Instr.loadAt t (a1.tmps.getD u undef)).run C.P w1 = _
      rw [hv]; exact hrun) ?_
    have g2 := g1.put hd hy
    refine GG.ops hS.ctx hcall hs (R := { env := upd R1.env d (.i x), st := R1.st, log := R1.log }) (base := S.st.length) (fun j hj => ?_) h3 (g2.ok' fun id h => okIn_mono (fun j hj => by omega) h) fun a2 w2 g3 => ?_
    · rw [hget, List.getElem?_append_right (by omega), show os1.length + 1 + j - os1.length = j + 1 by omega]; simp [List.getElem?_append_left hj]
    · exact hfin a2 w2 ((g3.ok' (ok' := fun _ => True) fun _ _ => trivial).settle G)
end
end Go.Av

/- From the executor's answer to a call's contract, for laws that answer true. No condition. -/
namespace Go.Av
open Go Go.RowKit
/-- All that lies in memory. -/
def memOf (w : World) : Mem := fun b o => w.cell? ⟨b, o, none⟩
theorem inv0 (w : World) : Inv w (memOf w) (fun _ => none) (stOf []) :=
  ⟨fun _ _ _ h => h, fun id blk h => (by simp [stOf] at h), fun id id' b b' n n' blk blk' f h => (by simp [stOf] at h), fun _ _ _ _ e => by cases e⟩
/-- Nothing that was there has turned. -/
theorem adv_below {w w' : World} {m m' : Mem} {φ' : Pl} (h : Adv w m (fun _ => none) w' m' φ') : Below w.heap.size w w' :=
  ⟨h.os, h.tape, h.output, h.size, fun k hk => h.block k hk fun id b n e => by cases e⟩
theorem calls_true {C : Ctx} (hS : SoundOk C) {f : FuncId} {args : List AV} {vs : Array Value} {w : World} (hr : RepL (memOf w) (fun _ => none) args vs.toList) (h : callA C f args [] = some (.bool true, [])) (hy : f ≠ yldF := by decide) :
    Calls C.P f vs w fun e w' => e = .returned (.bool true) ∧ Below w.heap.size w w' := by
  have := (callA_sound hS).calls f args [] _ _ hy h w (memOf w) (fun _ => none) vs.toList (inv0 w) hr (fun id h => absurd rfl h)
  refine (show Calls C.P f vs w _ from this).mono ?_
  rintro e w' ⟨v, m', φ', rfl, h1, h2, h3, h4⟩
  cases h1 with
  | i h1 => cases h1 with
    | lit => exact ⟨rfl, adv_below h3⟩
theorem bytes_elems {w : World} {b : Nat} : ∀ (ns : List Int) (off : Nat), (∀ i, i < ns.length → w.cell? ⟨b, off + i, none⟩ = some (.int .u8 (ns.getD i 0))) → (∀ n ∈ ns, (Lit.int .u8 n).wf = true) →
    IElems (memOf w) b off 1 (bytesI (ns.map fun n => UInt8.ofNat n.toNat))
  | [], off, _, _ => .nil _ _ _
  | n :: ns, off, h1, h2 => by
    have hw := h2 n (by simp)
    simp only [Lit.wf, Bool.and_eq_true, decide_eq_true_eq] at hw
    have e1 : IntKind.u8.min = 0 := rfl
    have e2 : IntKind.u8.max = 255 := by decide
    rw [e1, e2] at hw
    have e : (((UInt8.ofNat n.toNat).toNat : Nat) : Int) = n := by
      rw [UInt8.toNat_ofNat']; omega
    have c0 := h1 0 (by simp)
    simp at c0
    simp only [List.map_cons, bytesI, e]
    refine .cons (.cons c0 (.lit _) rfl (.nil _ _)) rfl (bytes_elems ns (off + 1) (fun i hi => ?_) fun x hx => h2 x (by simp [hx]))
    have := h1 (i + 1) (by simpa using hi)
    rw [show off + 1 + i = off + (i + 1) by omega, this]
    simp
/-- A slice of bytes that came in. -/
theorem bytes_rep {w : World} {a : Option Addr} {len cap : Nat} {zs : List Int}
    (h : (a = none ∧ len = 0 ∧ cap = 0 ∧ zs = []) ∨ ∃ x, a = some x ∧ len ≤ cap ∧ cap ≤ maxLen ∧ zs.length = cap ∧ (∀ i, i < zs.length → w.cell? (x.add i) = some (.int .u8 (zs.getD i 0))) ∧ ∀ n ∈ zs, (Lit.int .u8 n).wf = true) :
    ∃ code : List UInt8, IRep (memOf w) (.isl (bytesI code)) (.slice a len cap) := by
  rcases h with ⟨rfl, rfl, rfl, rfl⟩ | ⟨x, rfl, h1, h2, h3, h4, h5⟩
  · exact ⟨[], .isl0 _ _ fun _ => rfl⟩
  · by_cases hl : len = 0
    · subst hl; exact ⟨[], .isl0 _ _ (by simp)⟩
    · refine ⟨(zs.take len).map fun n => UInt8.ofNat n.toNat, ?_⟩
      obtain ⟨b, off, spot⟩ := x
      have hs : spot = none := by
        have := h4 0 (by omega)
        simp only [Addr.add, if_true, World.cell?] at this
        cases spot with
        | none => rfl
        | some s => split at this <;> simp at this
      subst hs
      have hlen : ((zs.take len).map fun n => UInt8.ofNat n.toNat).length = len := by simp; omega
      have key := bytes_elems (w := w) (b := b) (zs.take len) off (fun i hi => by
        have hi' : i < len := by simp at hi; omega
        have := h4 i (by omega)
        rw [show (⟨b, off + i, none⟩ : Addr) = (⟨b, off, none⟩ : Addr).add i by unfold Addr.add; split <;> simp_all, this]
        simp [List.getD, List.getElem?_take, hi']) (fun n hn => h5 n (List.mem_of_mem_take hn))
      have hbl : (bytesI ((zs.take len).map fun n => UInt8.ofNat n.toNat)).length = len := by rw [bytesI_len, hlen]
      have := IRep.isl (m := memOf w) (b := b) (off := off) (k := 1) (cap := cap) (es := bytesI ((zs.take len).map fun n => UInt8.ofNat n.toNat)) (fun e => by rw [e] at hbl; simp at hbl; omega) key (by omega)
      rwa [hbl] at this
end Go.Av

/- Values lent to a call: what it answers to what lies in memory, it answers; what it makes is put beside. No condition. -/
namespace Go.Av
/-! ### What a value in memory of its own looks like -/
def viewC (st : Store) : AV → Option IV
  | .i v => some v
  | .nils => some (.isl [])
  | .osl id k off len => bnd (absE k off len (st id)) fun es => some (.isl es)
  | _ => none
def viewCs (st : Store) : List AV → Option (List IV)
  | [] => some []
  | c :: r => bnd (viewC st c) fun v => bnd (viewCs st r) fun l => some (v :: l)
def viewA (st : Store) : AV → Option IV
  | .agg cs => bnd (viewCs st cs) fun l => some (.agg l)
  | v => viewC st v
def viewAs (st : Store) : List AV → Option (List AV)
  | [] => some []
  | c :: r => bnd (viewA st c) fun v => bnd (viewAs st r) fun l => some (.i v :: l)
/-- Nothing in it leads to memory that others may know. -/
def mfC : AV → Bool
  | .i v => bareC v
  | .nils => true
  | .osl _ _ _ _ => true
  | _ => false
def mfCs : List AV → Bool
  | [] => true
  | c :: r => mfC c && mfCs r
def mfR : AV → Bool
  | .agg cs => mfCs cs
  | .i (.agg cs) => bareL cs
  | v => mfC v
def mfRs : List AV → Bool
  | [] => true
  | c :: r => mfR c && mfRs r
def mfA : AV → Bool
  | .tup vs => mfRs vs
  | v => mfR v
def mfB : Option Blk → Bool
  | some (.arr _ es) => bareLL es
  | some (.tre _ _) => true
  | some (.box _) => false
  | some (.frz _ _) => false
  | some (.fbox _) => false
  | some (.loop _ _ _) => false
  | none => true
def mfSt : StL → Bool
  | [] => true
  | b :: r => mfB b && mfSt r
def shiftSt (L : Nat) : StL → StL
  | [] => []
  | b :: r => renB (fun j => some (j + L)) b :: shiftSt L r
/-- The call of a function to which values are lent. -/
def lend (call : CallF) (g : FuncId) (args : List AV) (st : StL) : Option (AV × StL) :=
  bnd (viewAs (stOf st) args) fun us => bnd (call g us []) fun p => tst (mfA p.1 && mfSt p.2) (some (ren (fun j => some (j + st.length)) p.1, st ++ shiftSt st.length p.2))

theorem TCells.toI {w : World} : ∀ {cs : List IV} {vs : List Value} {F : List Nat}, TCells w cs vs F → ICells (memOf w) cs vs
  | _, _, _, .nil => .nil
  | _, _, _, .lit o r => .cons (.lit _) o r.toI
  | _, _, _, .isl0 c r => .cons (.isl0 _ _ c) rfl r.toI
  | _, _, _, .isl (b := b) (k := k) (es := es) (us := us) hn ⟨T, hr⟩ hk hl hf hc g r => by
    refine .cons (.isl hn (elems_of_cells 0 hl g.toI fun j v hj => ?_) hc) rfl r.toI
    show w.cell? ⟨b, 0 + j, none⟩ = some v
    rw [Nat.zero_add, cell_row hr]
    rw [List.getElem?_take] at hj
    split at hj
    · exact hj
    · cases hj
theorem memOk_all {w : World} {m : Mem} (h : MemOk w m) : MLe m (memOf w) := fun b o v e => h b o v e
theorem viewC_sound {w : World} {m : Mem} {φ : Pl} {st : Store} {c : AV} {x : Value} {iv : IV} (hi : Inv w m φ st) (hr : Rep m φ c x) (ho : x.oneCell' = true) (h : viewC st c = some iv) : IRep (memOf w) iv x := by
  have key : ∀ {st1 : Store}, absC st c = some (iv, st1) → IRep (memOf w) iv x := by
    intro st1 h1
    obtain ⟨F, O, k⟩ := absC_sound hi hr ho h1
    cases k.cells.toI with
    | cons a _ _ => exact a
  unfold viewC at h
  split at h
  · injection h with h; subst h
    cases hr with
    | i hr => exact hr.mono (memOk_all hi.mem)
  · injection h with h; subst h
    exact key (st1 := st) rfl
  · obtain ⟨es, h1, h2⟩ := bnd_eq.1 h
    injection h2 with h2; subst h2
    exact key (by simp only [absC]; rw [h1]; rfl)
  · cases h
theorem viewCs_sound {w : World} {m : Mem} {φ : Pl} {st : Store} (hi : Inv w m φ st) : ∀ {cs : List AV} {xs : List Value} {l : List IV}, RepC m φ cs xs → viewCs st cs = some l → ICells (memOf w) l xs
  | [], _, l, .nil, h => by simp [viewCs] at h; subst h; exact .nil
  | c :: cs, _, l, .cons a o b, h => by
    simp only [viewCs] at h
    obtain ⟨v, h1, h2⟩ := bnd_eq.1 h
    obtain ⟨l', h3, h4⟩ := bnd_eq.1 h2
    injection h4 with h4; subst h4
    exact .cons (viewC_sound hi a o h1) o (viewCs_sound hi b h3)
theorem viewA_sound {w : World} {m : Mem} {φ : Pl} {st : Store} {c : AV} {x : Value} {iv : IV} (hi : Inv w m φ st) (hr : Rep m φ c x) (h : viewA st c = some iv) : IRep (memOf w) iv x := by
  cases c with
  | agg cs =>
    simp only [viewA] at h
    obtain ⟨l, h1, h2⟩ := bnd_eq.1 h
    injection h2 with h2; subst h2
    cases hr with
    | agg hc => exact .agg (viewCs_sound hi hc h1)
  | i v =>
    simp only [viewA, viewC] at h
    injection h with h; subst h
    cases hr with
    | i hr => exact hr.mono (memOk_all hi.mem)
  | nils => cases hr; exact viewC_sound hi .nils rfl (by simpa only [viewA] using h)
  | osl id k off len => cases hr with | osl a b c d e => exact viewC_sound hi (.osl a b c d e) rfl (by simpa only [viewA] using h)
  | _ => simp [viewA, viewC] at h
theorem viewAs_sound {w : World} {m : Mem} {φ : Pl} {st : Store} (hi : Inv w m φ st) : ∀ {cs us : List AV} {xs : List Value}, RepL m φ cs xs → viewAs st cs = some us → RepL (memOf w) (fun _ => none) us xs
  | [], us, _, .nil, h => by simp [viewAs] at h; subst h; exact .nil
  | c :: cs, us, _, .cons a b, h => by
    simp only [viewAs] at h
    obtain ⟨v, h1, h2⟩ := bnd_eq.1 h
    obtain ⟨l', h3, h4⟩ := bnd_eq.1 h2
    injection h4 with h4; subst h4
    exact .cons (.i (viewA_sound hi a h1)) (viewAs_sound hi b h3)
theorem bare_I {m m' : Mem} : ∀ {cs : List IV} {vs : List Value}, bareL cs = true → ICells m cs vs → ICells m' cs vs
  | [], _, _, .nil => .nil
  | c :: cs, _, h, .cons a o r => by
    simp only [bareL, Bool.and_eq_true] at h
    refine .cons ?_ o (bare_I h.2 r)
    cases a with
    | lit => exact .lit _
    | isl0 ao cap hc => exact .isl0 ao cap hc
    | isl hn => rename_i es _ _ _; cases es with | nil => exact absurd rfl hn | cons e es => simp [bareC] at h
    | agg => simp [bareC] at h
    | iref => simp [bareC] at h
theorem mfC_rep {m m' : Mem} {φ : Pl} {c : AV} {x : Value} (h : mfC c = true) (hr : Rep m φ c x) : Rep m' φ c x := by
  cases hr with
  | i hr =>
    simp only [mfC] at h
    cases hr with
    | lit => exact .i (.lit _)
    | isl0 ao cap hc => exact .i (.isl0 ao cap hc)
    | isl hn => rename_i es _ _ _; cases es with | nil => exact absurd rfl hn | cons e es => simp [bareC] at h
    | agg => simp [bareC] at h
    | iref => simp [bareC] at h
  | nils => exact .nils
  | osl a b c d e => exact .osl a b c d e
  | _ => simp [mfC] at h
theorem mfCs_rep {m m' : Mem} {φ : Pl} : ∀ {cs : List AV} {xs : List Value}, mfCs cs = true → RepC m φ cs xs → RepC m' φ cs xs
  | [], _, _, .nil => .nil
  | c :: cs, _, h, .cons a o b => by
    simp only [mfCs, Bool.and_eq_true] at h
    exact .cons (mfC_rep h.1 a) o (mfCs_rep h.2 b)
theorem mfR_rep {m m' : Mem} {φ : Pl} {c : AV} {x : Value} (h : mfR c = true) (hr : Rep m φ c x) : Rep m' φ c x := by
  cases c with
  | agg cs => cases hr with | agg hc => exact .agg (mfCs_rep (by simpa only [mfR] using h) hc)
  | i v =>
    cases v with
    | agg cs => cases hr with | i hr => cases hr with | agg hc => exact .i (.agg (bare_I (by simpa only [mfR] using h) hc))
    | _ => exact mfC_rep (by simpa only [mfR] using h) hr
  | _ => exact mfC_rep (by simpa only [mfR] using h) hr
theorem mfRs_rep {m m' : Mem} {φ : Pl} : ∀ {cs : List AV} {xs : List Value}, mfRs cs = true → RepL m φ cs xs → RepL m' φ cs xs
  | [], _, _, .nil => .nil
  | c :: cs, _, h, .cons a b => by
    simp only [mfRs, Bool.and_eq_true] at h
    exact .cons (mfR_rep h.1 a) (mfRs_rep h.2 b)
theorem mfA_rep {m m' : Mem} {φ : Pl} {c : AV} {x : Value} (h : mfA c = true) (hr : Rep m φ c x) : Rep m' φ c x := by
  cases c with
  | tup vs => cases hr with | tup hc => exact .tup (mfRs_rep (by simpa only [mfA] using h) hc)
  | _ => exact mfR_rep (by simpa only [mfA] using h) hr
theorem mfB_ok {w : World} {m m' : Mem} {φ ψ : Pl} {b : Nat} {n : Ext} {blk : Blk} (h : mfB (some blk) = true) (hn : ∀ f, n.own f → ∀ o, m' f o = none) (ho : n.own b) (hk : BlkOk w m φ b n blk) : BlkOk w m' ψ b n blk := by
  cases hk with
  | arr h1 h2 h3 h4 h5 h6 h7 h8 h9 => exact .arr h1 h2 h3 h4 (bare_I (bareLL_flatten (by simpa only [mfB] using h)) h5) h6 (hn b ho) h8 h9
  | tre h1 h2 h3 h4 h5 h6 h7 h8 h9 => exact .tre h1 h2 h3 h4 h5 h6 h7 h8 hn
  | _ => simp [mfB] at h
theorem mfSt_at : ∀ {l : StL} {j : Nat} {b : Option Blk}, mfSt l = true → l[j]? = some b → mfB b = true
  | [], _, _, _, h => by simp at h
  | a :: l, 0, b, h, k => by simp at k; subst k; simp only [mfSt, Bool.and_eq_true] at h; exact h.1
  | a :: l, j + 1, b, h, k => by simp only [mfSt, Bool.and_eq_true] at h; exact mfSt_at h.2 (by simpa using k)
theorem shiftSt_at (L : Nat) : ∀ (l : StL) (j : Nat), (shiftSt L l)[j]? = (l[j]?).map (renB fun j => some (j + L))
  | [], j => by simp [shiftSt]
  | a :: l, 0 => by simp [shiftSt]
  | a :: l, j + 1 => by simp [shiftSt, shiftSt_at L l j]
theorem shiftSt_length (L : Nat) : ∀ (l : StL), (shiftSt L l).length = l.length
  | [] => rfl
  | a :: l => by simp [shiftSt, shiftSt_length L l]
theorem lend_sound {C : Ctx} {call : CallF} (hcall : CallOk C call) {g : FuncId} {args : List AV} {stl stl' : StL} {r : AV} (h : lend call g args stl = some (r, stl')) (hy : g ≠ yldF := by decide) :
    (∃ fn, C.P.funcs[g]? = some fn ∧ fn.name ≠ "runtime.NumGoroutine" ∧ fn.body.isSome = true) ∧ ∀ (w : World) (m : Mem) (φ : Pl) (vs : List Value), Inv w m φ (stOf stl) → RepL m φ args vs → (∀ id, φ id ≠ none → id < stl.length) →
      Calls C.P g vs.toArray w (CallPost w m φ r stl') := by
  unfold lend at h
  obtain ⟨us, h1, h2⟩ := bnd_eq.1 h
  obtain ⟨p, h3, h4⟩ := bnd_eq.1 h2
  obtain ⟨h5, h6⟩ := tst_eq.1 h4
  simp only [Bool.and_eq_true] at h5
  injection h6 with h6; injection h6 with h6 h7; subst h6; subst h7
  refine ⟨hcall.name _ _ _ _ hy h3, fun w m φ vs hi hr hb => ?_⟩
  refine (hcall.calls g us [] p.1 p.2 hy h3 w (memOf w) (fun _ => none) vs (inv0 w) (viewAs_sound hi hr h1) (fun id h => absurd rfl h)).mono ?_
  rintro e w' ⟨v, m', φ', rfl, j1, j2, j3, j4⟩
  generalize hL : stl.length = L at *
  let φ2 : Pl := fun j => if j < L then φ j else φ' (j - L)
  have hlow : ∀ j, j < L → φ2 j = φ j := fun j hj => by show (if j < L then φ j else φ' (j - L)) = _; rw [if_pos hj]
  have hhigh : ∀ j, φ2 (j + L) = φ' j := fun j => by show (if j + L < L then φ (j + L) else φ' (j + L - L)) = _; rw [if_neg (by omega)]; congr 1; omega
  have hren : Ren (fun j => some (j + L)) φ' φ2 := fun id j q e1 e2 => by injection e1 with e1; subst e1; rw [hhigh]; exact e2
  have hsame : ∀ f, f < w.heap.size → w'.heap[f]? = w.heap[f]? := fun f hf => j3.block f hf fun id b n e => by cases e
  have hnew : ∀ id b n f, φ' id = some (b, n) → n.own f → w.heap.size ≤ f := fun id b n f e ho => by
    rcases j3.pnew id b n f e ho with q | q
    · exact q
    · exact absurd (fun id b n e => by cases e) q
  have hmem : MemOk w' m := fun b o u e => by rw [cell_of_heap (hsame b (hi.mem.lt e))]; exact hi.mem b o u e
  have hmnone : ∀ f, w.heap.size ≤ f → ∀ o, m f o = none := fun f hf o => by
    cases hx : m f o with
    | none => rfl
    | some u => have := hi.mem.lt hx; omega
  have hp : PLe φ φ2 := fun id b n e => ⟨n, by rw [hlow id (hb id (by rw [e]; simp))]; exact e, rfl, fun _ h => h⟩
  -- which blocks there are
  have hst : ∀ j blk, stOf (stl ++ shiftSt L p.2) j = some blk → (j < L ∧ stOf stl j = some blk) ∨ ∃ i c, j = i + L ∧ stOf p.2 i = some c ∧ renB (fun j => some (j + L)) (some c) = some blk ∧ mfB (some c) = true := by
    intro j blk e
    rw [stOf_get] at e
    by_cases hj : j < L
    · rw [List.getElem?_append_left (by omega)] at e
      exact .inl ⟨hj, by rw [stOf_get]; exact e⟩
    · rw [List.getElem?_append_right (by omega), hL, shiftSt_at] at e
      cases hx : p.2[j - L]? with
      | none => rw [hx] at e; cases e
      | some b =>
        rw [hx] at e
        simp only [Option.map_some, Option.join_some] at e
        obtain ⟨c, rfl⟩ := renB_some e
        refine .inr ⟨j - L, c, by omega, by rw [stOf_get, hx]; rfl, e, mfSt_at h5.2 hx⟩
  refine ⟨v, m, φ2, rfl, ?_, ⟨hmem, ?_, ?_, ?_⟩, ⟨j3.size, j3.os, j3.tape, j3.output, fun b hb' _ => hsame b hb', .refl _, fun _ _ _ _ => rfl, hp, ?_⟩, ?_⟩
  · exact (mfA_rep h5.1 j1).ren hren
  · intro j blk e
    rcases hst j blk e with ⟨hj, e1⟩ | ⟨i, c, rfl, e1, e2, e3⟩
    · obtain ⟨b, n, q1, q2, q3⟩ := hi.live j blk e1
      exact ⟨b, n, by rw [hlow j hj]; exact q1, ⟨q2.1, fun f hf => Nat.lt_of_lt_of_le (q2.2 f hf) j3.size⟩, q3.mono q2.1 (fun f hf => hsame f (q2.2 f hf)) (.refl _) hp fun _ _ _ => rfl⟩
    · obtain ⟨b, n, q1, q2, q3⟩ := j2.live i c e1
      have q4 : BlkOk w' m φ' b n c := mfB_ok e3 (fun f hf => hmnone f (hnew i b n f q1 hf)) q2.1 q3
      exact ⟨b, n, by rw [hhigh]; exact q1, q2, BlkOk.ren hren (fun c' e' => by injection e' with e'; subst e'; exact q4) e2⟩
  · intro i j b b' n n' blk blk' f e1 e2 p1 p2 o1 o2
    rcases hst i blk e1 with ⟨hi1, k1⟩ | ⟨i1, c1, rfl, k1, _, _⟩
    · rw [hlow i hi1] at p1
      have hlt := (blk_own hi p1 k1).1.2 f o1
      rcases hst j blk' e2 with ⟨hj1, k2⟩ | ⟨i2, c2, rfl, k2, _, _⟩
      · rw [hlow j hj1] at p2
        exact hi.inj i j b b' n n' blk blk' f k1 k2 p1 p2 o1 o2
      · rw [hhigh] at p2
        have := hnew _ _ _ f p2 o2
        omega
    · rw [hhigh] at p1
      have hge := hnew _ _ _ f p1 o1
      rcases hst j blk' e2 with ⟨hj1, k2⟩ | ⟨i2, c2, rfl, k2, _, _⟩
      · rw [hlow j hj1] at p2
        have := (blk_own hi p2 k2).1.2 f o2
        omega
      · rw [hhigh] at p2
        rw [j2.inj i1 i2 b b' n n' _ _ f k1 k2 p1 p2 o1 o2]
  · intro id b n f e ho
    by_cases hj : id < L
    · rw [hlow id hj] at e; exact Nat.lt_of_lt_of_le (hi.low id b n f e ho) j3.size
    · have : id = (id - L) + L := by omega
      rw [this, hhigh] at e
      exact j2.low _ b n f e ho
  · intro id b n f e ho
    by_cases hj : id < L
    · rw [hlow id hj] at e; exact .inr (Free.not e ho)
    · have : id = (id - L) + L := by omega
      rw [this, hhigh] at e
      exact .inl (hnew _ _ _ f e ho)
  · intro id hne
    rw [List.length_append, shiftSt_length, hL]
    by_cases hj : id < L
    · omega
    · have : id = (id - L) + L := by omega
      rw [this, hhigh] at hne
      have := j4 _ hne
      omega
end Go.Av

/- A call whose first argument is frozen ahead of it. No condition. -/
namespace Go.Av
/-- The call of a function that may keep its other arguments, the first one frozen. -/
def frz1 (call : CallF) (g : FuncId) : List AV → StL → Option (AV × StL)
  | a :: r, st => bnd (argVal (stOf st) a) fun q => bnd (callGo call true g (q.1 :: r) q.2 st.length) fun p => outOf [p.1] p.2 (keepIds p.2 st.length [p.1])
  | [], _ => none
theorem frz1_sound {C : Ctx} {call : CallF} (hcall : CallOk C call) {g : FuncId} {args : List AV} {stl stl' : StL} {r : AV} (h : frz1 call g args stl = some (r, stl')) (hy : g ≠ yldF := by decide) :
    (∃ fn, C.P.funcs[g]? = some fn ∧ fn.name ≠ "runtime.NumGoroutine" ∧ fn.body.isSome = true) ∧ ∀ (w : World) (m : Mem) (φ : Pl) (vs : List Value), Inv w m φ (stOf stl) → RepL m φ args vs → (∀ id, φ id ≠ none → id < stl.length) →
      Calls C.P g vs.toArray w (CallPost w m φ r stl') := by
  cases args with
  | nil => cases h
  | cons a args =>
    unfold frz1 at h
    obtain ⟨q, h1, h2⟩ := bnd_eq.1 h
    obtain ⟨p, h3, h4⟩ := bnd_eq.1 h2
    unfold outOf at h4
    injection h4 with h4; injection h4 with h4 h5; subst h4; subst h5
    have hname : ∃ fn, C.P.funcs[g]? = some fn ∧ fn.name ≠ "runtime.NumGoroutine" ∧ fn.body.isSome = true := by
      unfold callGo at h3
      obtain ⟨p1, _, h5⟩ := bnd_eq.1 h3
      unfold callWith at h5
      obtain ⟨_, h6⟩ := tst_eq.1 h5
      obtain ⟨p2, h7, _⟩ := bnd_eq.1 h6
      exact hcall.name _ _ _ _ hy h7
    refine ⟨hname, fun w m φ vs hi hr h0 => ?_⟩
    cases hr with
    | cons ra rr =>
      obtain ⟨m1, k1, k2, k3⟩ := argVal_sound hi ra (show argVal _ a = some (q.1, q.2) from h1)
      have hf : ∀ id, stl.length ≤ id → id < stl.length + wide → φ id = none := fun id l1 _ => by
        cases e : φ id with
        | none => rfl
        | some b => have := h0 id (by rw [e]; simp); omega
      obtain ⟨_, hc⟩ := callGo_sound hcall hy k2 hf (.cons k1 (rr.mono k3.mle (.refl _))) (show callGo call true g _ q.2 _ = some (p.1, p.2) from h3)
      refine hc.mono ?_
      rintro e w' ⟨y, rfl, m', φ', j1, j2, j3, _⟩
      generalize hids : keepIds p.2 stl.length [p.1] = ids
      have hd : ids.Nodup := by rw [← hids]; exact keepIds_nodup _ _ _
      refine ⟨y, m', keepP ids φ', rfl, j1.ren (keepP_ren ids φ'), j2.keep hd, (k3.trans j3).keep h0 (fun j hj => by rw [← hids]; exact keepIds_at _ _ _ hj), ?_⟩
      intro id hne
      rw [takeSt_len]
      unfold keepP at hne
      cases hx : ids[id]? with
      | none => rw [hx] at hne; exact absurd rfl hne
      | some i => exact (List.getElem?_eq_some_iff.1 hx).1
/-- The call of a function whose result is frozen behind it. -/
def frzO (call : CallF) (g : FuncId) : List AV → StL → Option (AV × StL)
  | args, [] => bnd (call g args []) fun p => bnd (frzV (stOf p.2) p.1) fun q => some (.i q.1, [])
  | _, _ => none
theorem frzO_sound {C : Ctx} {call : CallF} (hcall : CallOk C call) {g : FuncId} {args : List AV} {stl stl' : StL} {r : AV} (h : frzO call g args stl = some (r, stl')) (hy : g ≠ yldF := by decide) :
    (∃ fn, C.P.funcs[g]? = some fn ∧ fn.name ≠ "runtime.NumGoroutine" ∧ fn.body.isSome = true) ∧ ∀ (w : World) (m : Mem) (φ : Pl) (vs : List Value), Inv w m φ (stOf stl) → RepL m φ args vs → (∀ id, φ id ≠ none → id < stl.length) →
      Calls C.P g vs.toArray w (CallPost w m φ r stl') := by
  unfold frzO at h
  split at h
  · obtain ⟨p, h1, h2⟩ := bnd_eq.1 h
    obtain ⟨q, h3, h4⟩ := bnd_eq.1 h2
    injection h4 with h4; injection h4 with h4 h5; subst h4; subst h5
    refine ⟨hcall.name _ _ _ _ hy h1, fun w m φ vs hi hr h0 => ?_⟩
    refine (hcall.calls _ _ _ p.1 p.2 hy h1 w m φ vs hi hr h0).mono ?_
    rintro e w' ⟨v, m', φ', rfl, j1, j2, j3, j4⟩
    obtain ⟨m1, k1, k2, k3⟩ := frzV_sound j2 j1 (show frzV _ p.1 = some (q.1, q.2) from h3)
    have hn : ∀ id, φ id = none := fun id => by
      cases e : φ id with
      | none => rfl
      | some b => exact absurd (h0 id (by rw [e]; simp)) (Nat.not_lt_zero _)
    have ha := j3.trans k3
    refine ⟨v, m1, fun _ => none, rfl, .i k1, ⟨k2.mem, fun id blk e => (by simp [stOf] at e), fun i j b b' n n' b1 b2 f e => (by simp [stOf] at e), fun _ _ _ _ e => (by cases e)⟩, ⟨ha.size, ha.os, ha.tape, ha.output, ha.block, ha.mle, ha.mnew, fun id b n e => (by rw [hn id] at e; cases e), fun _ _ _ _ e => (by cases e)⟩, fun id e => absurd rfl e⟩
  · cases h
/-! ### A call that only looks at lists that stay the caller's -/
def viewW (st : Store) : AV → Option IV
  | .i v => some v
  | .osl id k off len => match st id with
    | some (.arr k' es) => tst (decide (k' = k ∧ off = 0 ∧ len ≤ es.length ∧ 0 < len)) (some (.isl (es.take len)))
    | _ => none
  | _ => none
def viewWs (st : Store) : List AV → Option (List AV)
  | [] => some []
  | c :: r => bnd (viewW st c) fun v => bnd (viewWs st r) fun l => some (.i v :: l)
theorem viewW_sound {w : World} {m : Mem} {φ : Pl} {st : Store} {c : AV} {x : Value} {iv : IV} (hi : Inv w m φ st) (hr : Rep m φ c x) (h : viewW st c = some iv) : IRep (memOf w) iv x := by
  unfold viewW at h
  split at h
  · injection h with h; subst h
    cases hr with
    | i hr => exact hr.mono (memOk_all hi.mem)
  · rename_i id k off len
    split at h
    · rename_i k' es hst
      obtain ⟨h1, h2⟩ := tst_eq.1 h
      injection h2 with h2; subst h2
      obtain ⟨rfl, rfl, h3, h4⟩ := of_decide_eq_true h1
      cases hr with
      | osl e1 e2 e3 e4 e5 =>
        rename_i cap b n ao
        obtain ⟨_, hk⟩ := blk_own hi e1 hst
        cases hk with
        | arr k1 k2 k3 k4 k5 k6 k7 k8 k9 =>
          rename_i T vs
          have hel : IElems (memOf w) b 0 k' es := by
            refine elems_of_cells 0 k4 (k5.mono (memOk_all hi.mem)) fun j v hj => ?_
            show w.cell? ⟨b, 0 + j, none⟩ = some v
            rw [Nat.zero_add, cell_row k1]
            rw [List.getElem?_take] at hj
            split at hj
            · exact hj
            · cases hj
          have hao := e4 (by omega)
          subst hao
          have hlen : (es.take len).length = len := by rw [List.length_take]; omega
          have hne : es.take len ≠ [] := fun e => by rw [e] at hlen; simp at hlen; omega
          have := IRep.isl hne (elems_take len hel) (show (es.take len).length ≤ cap by omega)
          rw [hlen] at this
          simpa using this
    · cases h
  · cases h
theorem viewWs_sound {w : World} {m : Mem} {φ : Pl} {st : Store} (hi : Inv w m φ st) : ∀ {cs us : List AV} {xs : List Value}, RepL m φ cs xs → viewWs st cs = some us → RepL (memOf w) (fun _ => none) us xs
  | [], us, _, .nil, h => by simp [viewWs] at h; subst h; exact .nil
  | c :: cs, us, _, .cons a b, h => by
    simp only [viewWs] at h
    obtain ⟨v, h1, h2⟩ := bnd_eq.1 h
    obtain ⟨l', h3, h4⟩ := bnd_eq.1 h2
    injection h4 with h4; subst h4
    exact .cons (.i (viewW_sound hi a h1)) (viewWs_sound hi b h3)
/-- The call of a function that only looks. -/
def lookC (call : CallF) (g : FuncId) (args : List AV) (st : StL) : Option (AV × StL) :=
  bnd (viewWs (stOf st) args) fun us => match call g us [] with
    | some (.i v, []) => tst (bareC v) (some (.i v, st))
    | _ => none
theorem look_sound {C : Ctx} {call : CallF} (hcall : CallOk C call) {g : FuncId} {args : List AV} {stl stl' : StL} {r : AV} (h : lookC call g args stl = some (r, stl')) (hy : g ≠ yldF := by decide) :
    (∃ fn, C.P.funcs[g]? = some fn ∧ fn.name ≠ "runtime.NumGoroutine" ∧ fn.body.isSome = true) ∧ ∀ (w : World) (m : Mem) (φ : Pl) (vs : List Value), Inv w m φ (stOf stl) → RepL m φ args vs → (∀ id, φ id ≠ none → id < stl.length) →
      Calls C.P g vs.toArray w (CallPost w m φ r stl') := by
  unfold lookC at h
  obtain ⟨us, h1, h2⟩ := bnd_eq.1 h
  split at h2
  · rename_i iv h3
    obtain ⟨h5, h6⟩ := tst_eq.1 h2
    injection h6 with h6; injection h6 with h6 h7; subst h6; subst h7
    refine ⟨hcall.name _ _ _ _ hy h3, fun w m φ vs hi hr h0 => ?_⟩
    refine (hcall.calls g us [] _ _ hy h3 w (memOf w) (fun _ => none) vs (inv0 w) (viewWs_sound hi hr h1) (fun id h => absurd rfl h)).mono ?_
    rintro e w' ⟨v, m', φ', rfl, j1, j2, j3, j4⟩
    have hsame : ∀ f, f < w.heap.size → w'.heap[f]? = w.heap[f]? := fun f hf => j3.block f hf fun id b n e => by cases e
    exact ⟨v, m, φ, rfl, mfC_rep (show mfC (.i iv) = true from h5) (by cases j1 with | i j => exact .i j), hi.later j3.size hsame, ⟨j3.size, j3.os, j3.tape, j3.output, fun b hb' _ => hsame b hb', .refl _, fun _ _ _ _ => rfl, .refl _, fun _ _ _ _ e ho => .inr (Free.not e ho)⟩, h0⟩
  · cases h2
end Go.Av

/- Loops, by their rounds. No condition. -/
namespace Go.Av
/-- What a slot holds that the first round has not yet written. -/
def jk : Nat → IV → AV
  | 0, _ => .junk
  | _ + 1, v => .i v
@[simp] theorem jk_0 (v : IV) : jk 0 v = .junk := (rfl)
@[simp] theorem jk_s (i : Nat) (v : IV) : jk (i + 1) v = .i v := (rfl)
@[simp] theorem idsOf_jk (i : Nat) (v : IV) : idsOf (jk i v) = [] := by cases i <;> rfl
@[simp] theorem ren_jk (r : Nat → Option Nat) (i : Nat) (v : IV) : ren r (jk i v) = jk i v := by cases i <;> rfl
section
variable {C : Ctx} {G : List Nat} {na : Nat} {b : Code}
theorem loop_once {S S1 : AS} {r : AExit × AS} (h1 : execA C G na b S = some (.normal, S1)) (h2 : execA C G na (.loop b) S1 = some r) : execA C G na (.loop b) S = some r := by
  rw [execA_loop, h1]; exact h2
theorem loop_last {S : AS} {e : AExit} {T : AS} (h1 : execA C G na b S = some (e, T)) (he : e ≠ .normal) : execA C G na (.loop b) S = some (e, T) := by
  rw [execA_loop, h1]
  cases e <;> first | rfl | exact absurd rfl he
/-- Rounds 0 .. n-1 go on, round n ends. -/
theorem loop_up (X : Nat → AS) (n : Nat) {S0 : AS} {e : AExit} {T : AS} (h0 : S0 = X 0) (hs : ∀ i, i < n → execA C G na b (X i) = some (.normal, X (i + 1))) (hl : execA C G na b (X n) = some (e, T)) (he : e ≠ .normal) :
    execA C G na (.loop b) S0 = some (e, T) := by
  subst h0
  have key : ∀ k i, i + k = n → execA C G na (.loop b) (X i) = some (e, T) := by
    intro k
    induction k with
    | zero => intro i hi; have : i = n := by omega
              subst this; exact loop_last hl he
    | succ k ih => intro i hi; exact loop_once (hs i (by omega)) (ih (i + 1) (by omega))
  exact key n 0 (by omega)
/-- A loop whose states are known by what holds of them. -/
theorem loop_inv {Q : AExit × AS → Prop} (I : Nat → AS → Prop) (hs : ∀ k S, I (k + 1) S → ∃ S1, execA C G na b S = some (.normal, S1) ∧ I k S1) (hl : ∀ S, I 0 S → ∃ e T, execA C G na b S = some (e, T) ∧ e ≠ .normal ∧ Q (e, T)) :
    ∀ k S, I k S → ∃ r, execA C G na (.loop b) S = some r ∧ Q r := by
  intro k
  induction k with
  | zero => intro S h; obtain ⟨e, T, h1, h2, h3⟩ := hl S h; exact ⟨_, loop_last h1 h2, h3⟩
  | succ k ih => intro S h; obtain ⟨S1, h1, h2⟩ := hs k S h; obtain ⟨r, h3, h4⟩ := ih S1 h2; exact ⟨r, loop_once h1 h3, h4⟩
theorem loop_ex {Q : AExit × AS → Prop} {S0 : AS} {K : XR → Prop} (hL : ∃ r, execA C G na (.loop b) S0 = some r ∧ Q r) (hK : ∀ r, Q r → K (some r)) : K (execA C G na (.loop b) S0) := by
  obtain ⟨r, h1, h2⟩ := hL
  rw [h1]; exact hK r h2
end
end Go.Av

/- Loops, taken up to a round; the first that is not so. No condition. -/
namespace Go.Av
section
variable {C : Ctx} {G : List Nat} {na : Nat} {b : Code}
/-- Rounds 0 .. n-1 go on. -/
theorem loop_to (X : Nat → AS) (n : Nat) {S0 : AS} (h0 : S0 = X 0) (hs : ∀ i, i < n → execA C G na b (X i) = some (.normal, X (i + 1))) : execA C G na (.loop b) S0 = execA C G na (.loop b) (X n) := by
  subst h0
  have key : ∀ k i, i + k = n → execA C G na (.loop b) (X i) = execA C G na (.loop b) (X n) := by
    intro k
    induction k with
    | zero => intro i hi; have : i = n := by omega
              subst this; rfl
    | succ k ih => intro i hi; rw [execA_loop, hs i (by omega)]; exact ih (i + 1) (by omega)
  exact key n 0 (by omega)
end
@[simp] theorem frzVs_impI (st : Store) : ∀ l : List IV, frzVs st (impI l) = some (l, st)
  | [] => rfl
  | v :: l => by simp [impI, frzVs, frzV, frzVs_impI st l]
@[simp] theorem window_def {α : Type} (es : List α) (off len : Nat) : window es off len = (es.drop off).take len := (rfl)
@[simp] theorem binds_d (n : Nat) : Region.binds .any ⟨n, .data⟩ = true := (rfl)
@[simp] theorem binds_c (n : Nat) : Region.binds .any ⟨n, .chain⟩ = true := (rfl)
@[simp] theorem binds_g (n : Nat) : Region.binds .any ⟨n, .guard⟩ = true := (rfl)
@[simp] theorem binds_p (n : Nat) : Region.binds .any ⟨n, .phase⟩ = true := (rfl)
/-- A slice that has grown to so many elements. -/
def gro (id k : Nat) : Nat → AV
  | 0 => .nils
  | i + 1 => .osl id k 0 (i + 1)
def groB (k : Nat) (es : List (List IV)) : Nat → StL
  | 0 => []
  | _ + 1 => [some (.arr k es)]
@[simp] theorem gro_0 (id k : Nat) : gro id k 0 = .nils := (rfl)
@[simp] theorem gro_s (id k i : Nat) : gro id k (i + 1) = .osl id k 0 (i + 1) := (rfl)
@[simp] theorem groB_0 (k : Nat) (es : List (List IV)) : groB k es 0 = [] := (rfl)
@[simp] theorem groB_s (k : Nat) (es : List (List IV)) (i : Nat) : groB k es (i + 1) = [some (.arr k es)] := (rfl)
theorem gro_pos {i : Nat} (h : i ≠ 0) (id k : Nat) : gro id k i = .osl id k 0 i := by cases i with | zero => exact absurd rfl h | succ i => rfl
theorem groB_pos {i : Nat} (h : i ≠ 0) (k : Nat) (es : List (List IV)) : groB k es i = [some (.arr k es)] := by cases i with | zero => exact absurd rfl h | succ i => rfl
theorem jk_pos {i : Nat} (h : i ≠ 0) (v : IV) : jk i v = .i v := by cases i with | zero => exact absurd rfl h | succ i => rfl
@[simp] theorem impI_length : ∀ l : List IV, (impI l).length = l.length
  | [] => rfl
  | _ :: l => by simp [impI, impI_length l]
theorem splice_all : ∀ {cs xs : List IV}, cs.length = xs.length → splice cs 0 xs = some xs
  | [], [], _ => rfl
  | c :: cs, x :: xs, h => by simp [splice, splice_all (cs := cs) (xs := xs) (by simpa using h)]
  | [], _ :: _, h => by simp at h
  | _ :: _, [], h => by simp at h
theorem nthE_append {α : Type} : ∀ (D : List α) (z : α) (r : List α), nthE (D ++ z :: r) D.length = some z
  | [], z, r => rfl
  | a :: D, z, r => by simp only [List.cons_append, List.length_cons, nthE]; exact nthE_append D z r
theorem half_nth {α : Type} {D : List α} {n i : Nat} {z : α} (hD : D.length = i) (h : i < n) : nthE (D ++ List.replicate (n - i) z) i = some z := by
  subst hD
  obtain ⟨k, hk⟩ : ∃ k, n - D.length = k + 1 := ⟨n - D.length - 1, by omega⟩
  rw [hk, List.replicate_succ]; exact nthE_append D z _
theorem half_set {α : Type} {D : List α} {n i : Nat} {z x : α} (hD : D.length = i) (h : i < n) : (D ++ List.replicate (n - i) z).set i x = (D ++ [x]) ++ List.replicate (n - (i + 1)) z := by
  subst hD
  obtain ⟨k, hk⟩ : ∃ k, n - D.length = k + 1 := ⟨n - D.length - 1, by omega⟩
  rw [hk, List.replicate_succ, List.set_append_right _ _ (Nat.le_refl _), Nat.sub_self, List.set_cons_zero, show n - (D.length + 1) = k by omega]
  simp
/-- All are so, or there is a first that is not. -/
theorem all_or_first {α : Type} (p : α → Bool) : ∀ (l : List α), l.all p = true ∨ ∃ (j : Nat) (a : α), l[j]? = some a ∧ p a = false ∧ (∀ (i : Nat) (b : α), i < j → l[i]? = some b → p b = true) ∧ l.all p = false
  | [] => .inl rfl
  | a :: l => by
    cases h : p a with
    | false => exact .inr ⟨0, a, rfl, h, fun i b hi => by omega, by simp [h]⟩
    | true =>
      rcases all_or_first p l with h1 | ⟨j, x, h1, h2, h3, h4⟩
      · exact .inl (by simp [h, h1])
      · refine .inr ⟨j + 1, x, by simpa using h1, h2, ?_, by simp [h, h4]⟩
        intro i b hi hb
        cases i with
        | zero => simp at hb; subst hb; exact h
        | succ i => exact h3 i b (by omega) (by simpa using hb)
/-- How far they are so. -/
theorem upto_bad {α : Type} (p : α → Bool) (l : List α) : ∃ j : Nat, (∀ i, i < j → ∃ k, l[i]? = some k ∧ k ∈ l ∧ p k = true) ∧ ((j = l.length ∧ l.all p = true) ∨ ∃ k, l[j]? = some k ∧ k ∈ l ∧ p k = false ∧ l.all p = false) := by
  rcases all_or_first p l with h | ⟨j, a, h1, h2, h3, h4⟩
  · refine ⟨l.length, ?_, .inl ⟨rfl, h⟩⟩
    intro i hi
    have e := List.getElem?_eq_getElem hi
    exact ⟨_, e, List.mem_of_getElem? e, List.all_eq_true.1 h _ (List.mem_of_getElem? e)⟩
  · refine ⟨j, ?_, .inr ⟨a, h1, List.mem_of_getElem? h1, h2, h4⟩⟩
    intro i hi
    have hl : i < l.length := by have := (List.getElem?_eq_some_iff.1 h1).1; omega
    have e := List.getElem?_eq_getElem hl
    exact ⟨_, e, List.mem_of_getElem? e, h3 i _ hi e⟩
@[simp] theorem bareLL_replicate (z : List IV) : ∀ n : Nat, bareLL (List.replicate n z) = (decide (n = 0) || bareL z)
  | 0 => by simp [bareLL]
  | n + 1 => by simp only [List.replicate_succ, bareLL, bareLL_replicate z n]; cases bareL z <;> simp
end Go.Av

/- Comparisons and wrapping, decided by what is known. No condition. -/
namespace Go.Av
theorem ilt_t {a b : Int} (h : a < b) : (a < b) = True := eq_true h
theorem ilt_f {a b : Int} (h : b ≤ a) : (a < b) = False := eq_false (by omega)
theorem ile_t {a b : Int} (h : a ≤ b) : (a ≤ b) = True := eq_true h
theorem ile_f {a b : Int} (h : b < a) : (a ≤ b) = False := eq_false (by omega)
theorem ieq_t {a b : Int} (h : a = b) : (a = b) = True := eq_true h
theorem ieq_f {a b : Int} (h : ¬ a = b) : (a = b) = False := eq_false h
theorem ibe_t {a b : Int} (h : a = b) : (a == b) = true := by simp [h]
theorem ibe_f {a b : Int} (h : ¬ a = b) : (a == b) = false := by simp [h]
theorem ibn_t {a b : Int} (h : ¬ a = b) : (a != b) = true := by simp [h]
theorem ibn_f {a b : Int} (h : a = b) : (a != b) = false := by simp [h]
theorem iwrap {x : Int} (h1 : -9223372036854775808 ≤ x) (h2 : x < 9223372036854775808) : IntKind.i64.wrap x = x := by
  unfold IntKind.wrap
  simp [IntKind.signed, IntKind.bits]
  omega
end Go.Av

/- Plans as data. No condition. -/
namespace Go.Av
inductive Pn where
  | mk (kind table : Int) (exprs : List Ex) (cols : List Int) (kids : List Pn)
def Pn.kind : Pn → Int | .mk k _ _ _ _ => k
def Pn.table : Pn → Int | .mk _ t _ _ _ => t
def Pn.exprs : Pn → List Ex | .mk _ _ es _ _ => es
def Pn.cols : Pn → List Int | .mk _ _ _ cs _ => cs
def Pn.kids : Pn → List Pn | .mk _ _ _ _ ks => ks
@[simp] theorem Pn.kind_mk (k t es cs ks) : (Pn.mk k t es cs ks).kind = k := rfl
@[simp] theorem Pn.table_mk (k t es cs ks) : (Pn.mk k t es cs ks).table = t := rfl
@[simp] theorem Pn.exprs_mk (k t es cs ks) : (Pn.mk k t es cs ks).exprs = es := rfl
@[simp] theorem Pn.cols_mk (k t es cs ks) : (Pn.mk k t es cs ks).cols = cs := rfl
@[simp] theorem Pn.kids_mk (k t es cs ks) : (Pn.mk k t es cs ks).kids = ks := rfl
theorem Pn.eta (p : Pn) : Pn.mk p.kind p.table p.exprs p.cols p.kids = p := by cases p; rfl
/-- A list of numbers as rows. -/
def intsL : List Int → List (List IV)
  | [] => []
  | x :: l => [.int x] :: intsL l
@[simp] theorem intsL_length : ∀ l : List Int, (intsL l).length = l.length
  | [] => rfl
  | _ :: l => by simp [intsL, intsL_length l]
theorem intsL_nth : ∀ {l : List Int} {i : Nat} {x : Int}, l[i]? = some x → nthE (intsL l) i = some [.int x]
  | [], _, _, h => by simp at h
  | a :: l, 0, x, h => by simp at h; subst h; simp [intsL, nthE]
  | a :: l, i + 1, x, h => by simp only [intsL, nthE]; exact intsL_nth (by simpa using h)
@[simp] theorem intsL_widths : ∀ l : List Int, widths 1 (intsL l) = true
  | [] => by simp [intsL, widths]
  | _ :: l => by have := intsL_widths l; simp only [widths] at this; simp [intsL, widths, this]
theorem intsL_append (a b : List Int) : intsL (a ++ b) = intsL a ++ intsL b := by
  induction a with
  | nil => rfl
  | cons x a ih => simp [intsL, ih]
@[simp] theorem intsL_take : ∀ (n : Nat) (l : List Int), (intsL l).take n = intsL (l.take n)
  | 0, l => by simp [intsL]
  | n + 1, [] => by simp [intsL]
  | n + 1, x :: l => by simp [intsL, intsL_take n l]
@[simp] theorem intsL_drop : ∀ (n : Nat) (l : List Int), (intsL l).drop n = intsL (l.drop n)
  | 0, l => by simp
  | n + 1, [] => by simp [intsL]
  | n + 1, x :: l => by simp [intsL, intsL_drop n l]
theorem intsL_snoc (l : List Int) (x : Int) : intsL (l ++ [x]) = intsL l ++ [[.int x]] := by rw [intsL_append]; rfl
mutual
def Pn.cells : Pn → List IV
  | .mk k t es cs ks => [.int k, .int t, .isl (Ex.cellsL es), .isl (intsL cs), .isl (Pn.cellsL ks)]
def Pn.cellsL : List Pn → List (List IV)
  | [] => []
  | p :: ps => p.cells :: Pn.cellsL ps
end
theorem Pn.ind {P : Pn → Prop} (h : ∀ k t es cs ks, (∀ p ∈ ks, P p) → P (.mk k t es cs ks)) : (p : Pn) → P p
  | .mk k t es cs ks => h k t es cs ks fun p hp => Pn.ind h p
termination_by p => SizeOf.sizeOf p
decreasing_by
  have := List.sizeOf_lt_of_mem hp
  simp; omega
theorem Pn.cells_eq (p : Pn) : p.cells = [.int p.kind, .int p.table, .isl (Ex.cellsL p.exprs), .isl (intsL p.cols), .isl (Pn.cellsL p.kids)] := by
  cases p; simp [Pn.cells, Pn.kind, Pn.table, Pn.exprs, Pn.cols, Pn.kids]
theorem Pn.cells_mk (k t : Int) (es : List Ex) (cs : List Int) (ks : List Pn) : (Pn.mk k t es cs ks).cells = [.int k, .int t, .isl (Ex.cellsL es), .isl (intsL cs), .isl (Pn.cellsL ks)] := by simp [Pn.cells]
@[simp] theorem Pn.cellsL_length : ∀ (l : List Pn), (Pn.cellsL l).length = l.length
  | [] => by simp [Pn.cellsL]
  | _ :: l => by simp [Pn.cellsL, Pn.cellsL_length l]
theorem Pn.cellsL_nth : ∀ {l : List Pn} {i : Nat} {p : Pn}, l[i]? = some p → nthE (Pn.cellsL l) i = some p.cells
  | [], _, _, h => by simp at h
  | a :: l, 0, p, h => by simp at h; subst h; simp [Pn.cellsL, nthE]
  | a :: l, i + 1, p, h => by simp only [Pn.cellsL, nthE]; exact Pn.cellsL_nth (by simpa using h)
@[simp] theorem Pn.cells_length (p : Pn) : p.cells.length = 5 := by rw [Pn.cells_eq]; rfl
@[simp] theorem Pn.cells_take (p : Pn) : takeE 5 p.cells = some p.cells := by rw [Pn.cells_eq]; rfl
@[simp] theorem Pn.cellsL_widths : ∀ (l : List Pn), widths 5 (Pn.cellsL l) = true
  | [] => by simp [Pn.cellsL, widths]
  | p :: l => by
    have := Pn.cellsL_widths l
    simp only [widths] at this
    simp [Pn.cellsL, widths, Pn.cells_length, this]
theorem Pn.cellsL_append (a b : List Pn) : Pn.cellsL (a ++ b) = Pn.cellsL a ++ Pn.cellsL b := by
  induction a with
  | nil => simp [Pn.cellsL]
  | cons e a ih => simp [Pn.cellsL, ih]
@[simp] theorem Pn.cellsL_take : ∀ (n : Nat) (l : List Pn), (Pn.cellsL l).take n = Pn.cellsL (l.take n)
  | 0, l => by simp [Pn.cellsL]
  | n + 1, [] => by simp [Pn.cellsL]
  | n + 1, p :: l => by simp [Pn.cellsL, Pn.cellsL_take n l]
theorem Pn.cellsL_snoc (l : List Pn) (p : Pn) : Pn.cellsL (l ++ [p]) = Pn.cellsL l ++ [p.cells] := by
  rw [Pn.cellsL_append]; simp [Pn.cellsL]
@[simp] theorem Pn.cells_takeI (p : Pn) : takeE 5 (impI p.cells) = some (impI p.cells) := by rw [Pn.cells_eq]; rfl
@[simp] theorem Pn.cells_spliceI (p : Pn) (a b c d f : AV) : splice [a, b, c, d, f] 0 (impI p.cells) = some (impI p.cells) := by rw [Pn.cells_eq]; rfl
@[simp] theorem Pn.cells_spliceI' (p q : Pn) : splice (impI q.cells) 0 (impI p.cells) = some (impI p.cells) := by rw [Pn.cells_eq, Pn.cells_eq]; rfl
mutual
/-- Of how many parts it is. -/
def Pn.size : Pn → Nat
  | .mk _ _ _ _ ks => 1 + Pn.sizeL ks
def Pn.sizeL : List Pn → Nat
  | [] => 0
  | p :: ps => p.size + Pn.sizeL ps
end
theorem Pn.size_eq (p : Pn) : p.size = 1 + Pn.sizeL p.kids := by cases p; simp [Pn.size, Pn.kids]
theorem Pn.sizeL_cons (p : Pn) (l : List Pn) : Pn.sizeL (p :: l) = p.size + Pn.sizeL l := by simp [Pn.sizeL]
theorem Pn.size_pos (p : Pn) : 1 ≤ p.size := by rw [Pn.size_eq]; omega
theorem Pn.sizeL_length : ∀ (l : List Pn), l.length ≤ Pn.sizeL l
  | [] => by simp [Pn.sizeL]
  | e :: es => by have := Pn.sizeL_length es; have := Pn.size_pos e; simp [Pn.sizeL]; omega
theorem Pn.sizeL_mem : ∀ {l : List Pn} {e : Pn}, e ∈ l → e.size ≤ Pn.sizeL l
  | a :: l, e, h => by
    rcases List.mem_cons.1 h with rfl | h
    · simp [Pn.sizeL]
    · have := Pn.sizeL_mem h; simp [Pn.sizeL]; omega
theorem Pn.sizeL_append : ∀ (l m : List Pn), Pn.sizeL (l ++ m) = Pn.sizeL l + Pn.sizeL m
  | [], m => by simp [Pn.sizeL]
  | a :: l, m => by simp [Pn.sizeL, Pn.sizeL_append l m]; omega
mutual
/-- The same plan. -/
def Pn.eqb : Pn → Pn → Bool
  | .mk k t es cs ks, .mk k' t' es' cs' ks' => k == k' && (t == t' && (Ex.eqbL es es' && (cs == cs' && Pn.eqbL ks ks')))
def Pn.eqbL : List Pn → List Pn → Bool
  | [], [] => true
  | a :: l, b :: m => Pn.eqb a b && Pn.eqbL l m
  | _, _ => false
end
theorem Pn.eqb_def (a b : Pn) : a.eqb b = (a.kind == b.kind && (a.table == b.table && (Ex.eqbL a.exprs b.exprs && (a.cols == b.cols && Pn.eqbL a.kids b.kids)))) := by
  cases a; cases b; simp [Pn.eqb]
theorem Pn.eqb_iff : ∀ (a b : Pn), a.eqb b = true ↔ a = b := by
  intro a
  induction a using Pn.ind with
  | h k t es cs ks ih =>
    intro b
    obtain ⟨k', t', es', cs', ks'⟩ := b
    have : ∀ (l m : List Pn), (∀ a ∈ l, ∀ b, a.eqb b = true ↔ a = b) → (Pn.eqbL l m = true ↔ l = m) := by
      intro l
      induction l with
      | nil => intro m _; cases m <;> simp [Pn.eqbL]
      | cons a l ihl =>
        intro m hl
        cases m with
        | nil => simp [Pn.eqbL]
        | cons b m =>
          simp only [Pn.eqbL, Bool.and_eq_true, List.cons.injEq]
          rw [hl a (by simp) b, ihl m fun x hx => hl x (by simp [hx])]
    simp only [Pn.eqb, Bool.and_eq_true, beq_iff_eq, Ex.eqbL_iff, Pn.mk.injEq]
    rw [this ks ks' ih]
theorem Pn.eqb_refl (a : Pn) : a.eqb a = true := (Pn.eqb_iff a a).2 rfl
theorem Pn.eqbL_len : ∀ (l m : List Pn), l.length ≠ m.length → Pn.eqbL l m = false
  | [], [], h => absurd rfl h
  | a :: l, b :: m, h => by simp [Pn.eqbL, Pn.eqbL_len l m (by simpa using h)]
  | [], _ :: _, _ => by simp [Pn.eqbL]
  | _ :: _, [], _ => by simp [Pn.eqbL]
theorem Pn.eqbL_upto : ∀ (l m : List Pn), l.length = m.length → ∃ j : Nat, (∀ i, i < j → ∃ a b, l[i]? = some a ∧ m[i]? = some b ∧ a ∈ l ∧ a.eqb b = true) ∧ ((j = l.length ∧ Pn.eqbL l m = true) ∨ ∃ a b, l[j]? = some a ∧ m[j]? = some b ∧ a ∈ l ∧ a.eqb b = false ∧ Pn.eqbL l m = false)
  | [], [], _ => ⟨0, fun i h => by omega, .inl ⟨rfl, by simp [Pn.eqbL]⟩⟩
  | a :: l, b :: m, h => by
    cases hab : a.eqb b with
    | false => exact ⟨0, fun i h => by omega, .inr ⟨a, b, rfl, rfl, by simp, hab, by simp [Pn.eqbL, hab]⟩⟩
    | true =>
      obtain ⟨j, h1, h2⟩ := Pn.eqbL_upto l m (by simpa using h)
      refine ⟨j + 1, ?_, ?_⟩
      · intro i hi
        cases i with
        | zero => exact ⟨a, b, rfl, rfl, by simp, hab⟩
        | succ i =>
          obtain ⟨x, y, k1, k2, k3, k4⟩ := h1 i (by omega)
          exact ⟨x, y, by simpa using k1, by simpa using k2, by simp [k3], k4⟩
      · rcases h2 with ⟨k1, k2⟩ | ⟨x, y, k1, k2, k3, k4, k5⟩
        · exact .inl ⟨by simp [k1], by simp [Pn.eqbL, hab, k2]⟩
        · exact .inr ⟨x, y, by simpa using k1, by simpa using k2, by simp [k3], k4, by simp [Pn.eqbL, k5]⟩
  | [], _ :: _, h => by simp at h
  | _ :: _, [], h => by simp at h
/-- Where two lists of numbers part. -/
theorem ints_upto : ∀ (l m : List Int), l.length = m.length → ∃ j : Nat, (∀ i, i < j → ∃ a, l[i]? = some a ∧ m[i]? = some a) ∧ ((j = l.length ∧ (l == m) = true) ∨ ∃ a b, l[j]? = some a ∧ m[j]? = some b ∧ a ≠ b ∧ (l == m) = false)
  | [], [], _ => ⟨0, fun i h => by omega, .inl ⟨rfl, by simp⟩⟩
  | a :: l, b :: m, h => by
    by_cases hab : a = b
    · subst hab
      obtain ⟨j, h1, h2⟩ := ints_upto l m (by simpa using h)
      refine ⟨j + 1, ?_, ?_⟩
      · intro i hi
        cases i with
        | zero => exact ⟨a, rfl, rfl⟩
        | succ i =>
          obtain ⟨x, k1, k2⟩ := h1 i (by omega)
          exact ⟨x, by simpa using k1, by simpa using k2⟩
      · rcases h2 with ⟨k1, k2⟩ | ⟨x, y, k1, k2, k3, k5⟩
        · exact .inl ⟨by simp [k1], by simpa using k2⟩
        · exact .inr ⟨x, y, by simpa using k1, by simpa using k2, k3, by simpa using k5⟩
    · exact ⟨0, fun i h => by omega, .inr ⟨a, b, rfl, rfl, hab, by simp [hab]⟩⟩
  | [], _ :: _, h => by simp at h
  | _ :: _, [], h => by simp at h
mutual
/-- No list in it is long. -/
def Pn.thin : Pn → Prop
  | .mk _ _ es cs ks => es.length < 1000000000 ∧ (∀ e ∈ es, e.thin) ∧ cs.length < 1000000000 ∧ ks.length < 1000000000 ∧ Pn.thinL ks
def Pn.thinL : List Pn → Prop
  | [] => True
  | p :: ps => p.thin ∧ Pn.thinL ps
end
theorem Pn.thinL_iff : ∀ (l : List Pn), Pn.thinL l ↔ ∀ p ∈ l, p.thin
  | [] => by simp [Pn.thinL]
  | p :: l => by simp [Pn.thinL, Pn.thinL_iff l]
theorem Pn.thin_iff (p : Pn) : p.thin ↔ p.exprs.length < 1000000000 ∧ (∀ e ∈ p.exprs, e.thin) ∧ p.cols.length < 1000000000 ∧ p.kids.length < 1000000000 ∧ ∀ a ∈ p.kids, a.thin := by
  cases p; simp [Pn.thin, Pn.thinL_iff]
def Pn.zero : Pn := .mk 0 0 [] [] []
def Pn.scan (t : Int) : Pn := .mk 1 t [] [] []
end Go.Av

/- The width of a plan. No condition. -/
namespace Go.Av
def nKids (k : Int) : Int := if k = 1 then 0 else if k = 2 ∨ k = 3 ∨ k = 7 ∨ k = 8 then 1 else if k = 4 ∨ k = 5 ∨ k = 6 then 2 else -1
def nExprs (k : Int) : Int := if k = 2 ∨ k = 3 ∨ k = 4 ∨ k = 5 then 1 else 0
/-- The parts that its kind has, and no others. -/
def Pn.headOk (p : Pn) : Bool := decide ((p.kids.length : Int) = nKids p.kind) && (decide ((p.exprs.length : Int) = if p.kind = 3 ∧ okWidth p.exprs.length = true then (p.exprs.length : Int) else nExprs p.kind) && ((decide (p.kind = 1) || decide (p.table = 0)) && (decide (p.kind = 8) || decide (p.cols = []))))
/-- Ascending columns of a width. -/
def colsOk (w : Int) (cs : List Int) : Bool := (cs.zip (-1 :: cs)).all fun x => decide (x.2 < x.1 ∧ x.1 < w)
def wdOver (k : Int) (es : List Ex) (cs : List Int) (a b : Int) : Int :=
  if k = 4 ∨ k = 5 then (if a + b ≤ 6 ∧ es.all (Ex.ok (a + b)) = true then a + b else 0)
  else if k = 6 then (if a = b then a else 0)
  else if k = 8 then (if cs.length < 6 ∧ colsOk a cs = true then (cs.length : Int) + 1 else 0)
  else if k = 3 then (if es.all (Ex.ok a) = true then (es.length : Int) else 0)
  else (if es.all (Ex.ok a) = true then a else 0)
mutual
/-- The width of a plan with at most so many levels of kids. -/
def Pn.wd (ws : List Int) : Nat → Pn → Int
  | lv, .mk k t es cs ks => if Pn.headOk (.mk k t es cs ks) = true ∧ (ks = [] ∨ lv ≠ 0) then (if k = 1 then (if 0 ≤ t then (ws[t.toNat]?).getD 0 else 0) else if (Pn.wdL ws (lv - 1) ks).all (fun x => decide (x ≠ 0)) = true then wdOver k es cs ((Pn.wdL ws (lv - 1) ks)[0]?.getD 0) ((Pn.wdL ws (lv - 1) ks)[1]?.getD 0) else 0) else 0
def Pn.wdL (ws : List Int) : Nat → List Pn → List Int
  | _, [] => []
  | lv, p :: ps => Pn.wd ws lv p :: Pn.wdL ws lv ps
end
theorem Pn.wdL_map (ws : List Int) (lv : Nat) : ∀ l : List Pn, Pn.wdL ws lv l = l.map (Pn.wd ws lv)
  | [] => by simp [Pn.wdL]
  | p :: l => by simp [Pn.wdL, Pn.wdL_map ws lv l]
theorem Pn.wd_eq (ws : List Int) (lv : Nat) (p : Pn) : p.wd ws lv = if p.headOk = true ∧ (p.kids = [] ∨ lv ≠ 0) then (if p.kind = 1 then (if 0 ≤ p.table then (ws[p.table.toNat]?).getD 0 else 0) else if p.kids.all (fun x => decide (x.wd ws (lv - 1) ≠ 0)) = true then wdOver p.kind p.exprs p.cols ((p.kids[0]?.map (Pn.wd ws (lv - 1))).getD 0) ((p.kids[1]?.map (Pn.wd ws (lv - 1))).getD 0) else 0) else 0 := by
  obtain ⟨k, t, es, cs, ks⟩ := p
  simp only [Pn.wd, Pn.wdL_map, List.all_map, List.getElem?_map, Pn.kids_mk, Pn.kind_mk, Pn.table_mk, Pn.exprs_mk, Pn.cols_mk]
  rfl
def okWs (ws : List Int) : Bool := decide (1 ≤ ws.length ∧ ws.length ≤ 4) && ws.all okWidth
/-- The width of a plan, 0 if it or the widths are wrong. -/
def Pn.width (p : Pn) (ws : List Int) : Int := if okWs ws = true then p.wd ws 8 else 0
theorem wdOver_range {k : Int} {es : List Ex} {cs : List Int} {a b : Int} (ha : 0 ≤ a ∧ a ≤ 6) (hb : 0 ≤ b ∧ b ≤ 6) (he : k = 3 → es.length ≤ 6) : 0 ≤ wdOver k es cs a b ∧ wdOver k es cs a b ≤ 6 := by
  unfold wdOver
  split
  · split <;> omega
  · split
    · split <;> omega
    · split
      · split <;> omega
      · split
        · have := he (by assumption)
          split <;> omega
        · split <;> omega
theorem Pn.headOk_exprs {p : Pn} (h : p.headOk = true) : p.exprs.length ≤ 6 := by
  unfold Pn.headOk at h
  simp only [Bool.and_eq_true, decide_eq_true_eq] at h
  have h2 := h.2.1
  split at h2
  · rename_i hc; have := hc.2; simp [okWidth] at this; omega
  · unfold nExprs at h2; split at h2 <;> omega
theorem Pn.headOk_kids {p : Pn} (h : p.headOk = true) : p.kids.length ≤ 2 := by
  unfold Pn.headOk at h
  simp only [Bool.and_eq_true, decide_eq_true_eq] at h
  have h2 := h.1
  unfold nKids at h2
  split at h2
  · omega
  · split at h2
    · omega
    · split at h2 <;> omega
theorem ite_rng {p : Prop} [Decidable p] {a b : Int} (ha : 0 ≤ a ∧ a ≤ 6) (hb : 0 ≤ b ∧ b ≤ 6) : 0 ≤ (if p then a else b) ∧ (if p then a else b) ≤ 6 := by split <;> assumption
theorem Pn.wd_range {ws : List Int} (hw : ∀ w ∈ ws, 0 ≤ w ∧ w ≤ 6) : ∀ (p : Pn) (lv : Nat), 0 ≤ p.wd ws lv ∧ p.wd ws lv ≤ 6 := by
  intro p
  induction p using Pn.ind with
  | h k t es cs ks ih =>
    intro lv
    rw [Pn.wd_eq]
    split
    · rename_i hc
      have he := Pn.headOk_exprs hc.1
      simp only [Pn.kids_mk, Pn.kind_mk, Pn.table_mk, Pn.exprs_mk, Pn.cols_mk] at he ⊢
      by_cases h1 : k = 1
      · simp only [h1, if_true]
        by_cases h2 : 0 ≤ t
        · simp only [h2, if_true]
          cases hx : ws[t.toNat]? with
          | none => simp
          | some x => simpa using hw x (List.mem_of_getElem? hx)
        · simp only [h2, if_false]; omega
      · simp only [h1, if_false]
        have hk : ∀ i : Nat, 0 ≤ (ks[i]?.map (Pn.wd ws (lv - 1))).getD 0 ∧ (ks[i]?.map (Pn.wd ws (lv - 1))).getD 0 ≤ 6 := by
          intro i
          cases hx : ks[i]? with
          | none => simp
          | some x => simpa using ih x (List.mem_of_getElem? hx) (lv - 1)
        exact ite_rng (wdOver_range (hk 0) (hk 1) fun _ => he) (by omega)
    · omega
end Go.Av
namespace Go.Av
theorem Pn.wd_no {ws : List Int} {lv : Nat} {p : Pn} (h : ¬ (p.headOk = true ∧ (p.kids = [] ∨ lv ≠ 0))) : p.wd ws lv = 0 := by
  rw [Pn.wd_eq, if_neg h]
theorem nKids_range (k : Int) : nKids k = -1 ∨ (nKids k = 0 ∧ k = 1) ∨ (nKids k = 1 ∧ (k = 2 ∨ k = 3 ∨ k = 7 ∨ k = 8)) ∨ (nKids k = 2 ∧ (k = 4 ∨ k = 5 ∨ k = 6)) := by
  unfold nKids
  split
  · simp [*]
  · split
    · simp [*]
    · split
      · simp [*]
      · simp
end Go.Av
namespace Go.Av
mutual
/-- Its lists are no longer than a length can tell. -/
def Pn.lim : Pn → Prop
  | .mk _ _ es cs ks => es.length < 9223372036854775808 ∧ cs.length < 9223372036854775808 ∧ ks.length < 9223372036854775808 ∧ Pn.limL ks
def Pn.limL : List Pn → Prop
  | [] => True
  | p :: ps => p.lim ∧ Pn.limL ps
end
theorem Pn.limL_iff : ∀ (l : List Pn), Pn.limL l ↔ ∀ p ∈ l, p.lim
  | [] => by simp [Pn.limL]
  | p :: l => by simp [Pn.limL, Pn.limL_iff l]
theorem Pn.lim_iff (p : Pn) : p.lim ↔ p.exprs.length < 9223372036854775808 ∧ p.cols.length < 9223372036854775808 ∧ p.kids.length < 9223372036854775808 ∧ ∀ a ∈ p.kids, a.lim := by
  cases p; simp [Pn.lim, Pn.limL_iff]
theorem Pn.thin_lim : ∀ (p : Pn), p.thin → p.lim := by
  intro p
  induction p using Pn.ind with
  | h k t es cs ks ih =>
    intro h
    have h := (Pn.thin_iff _).1 h
    simp only [Pn.exprs_mk, Pn.cols_mk, Pn.kids_mk] at h
    exact (Pn.lim_iff _).2 ⟨by simp; omega, by simp; omega, by simp; omega, fun a ha => ih a ha (h.2.2.2.2 a ha)⟩
end Go.Av

/- Views folded in plans. No condition. -/
namespace Go.Av
mutual
/-- Parts that are a view, replaced by a scan. -/
def foldP (v : Pn) (t : Int) : Pn → Pn
  | .mk k tb es cs ks => if Pn.eqb (.mk k tb es cs ks) v = true then .scan t else .mk k tb es cs (foldPL v t ks)
def foldPL (v : Pn) (t : Int) : List Pn → List Pn
  | [] => []
  | p :: ps => foldP v t p :: foldPL v t ps
end
mutual
/-- How many parts are replaced. -/
def cntP (v : Pn) : Pn → Nat
  | .mk k tb es cs ks => if Pn.eqb (.mk k tb es cs ks) v = true then 1 else cntPL v ks
def cntPL (v : Pn) : List Pn → Nat
  | [] => 0
  | p :: ps => cntP v p + cntPL v ps
end
theorem foldPL_map (v : Pn) (t : Int) : ∀ l : List Pn, foldPL v t l = l.map (foldP v t)
  | [] => by simp [foldPL]
  | p :: l => by simp [foldPL, foldPL_map v t l]
theorem foldP_hit {v : Pn} {t : Int} {p : Pn} (h : p.eqb v = true) : foldP v t p = .scan t := by
  obtain ⟨k, tb, es, cs, ks⟩ := p; simp [foldP, h]
theorem cntP_hit {v : Pn} {p : Pn} (h : p.eqb v = true) : cntP v p = 1 := by
  obtain ⟨k, tb, es, cs, ks⟩ := p; simp [cntP, h]
theorem foldP_miss {v : Pn} {t : Int} {p : Pn} (h : p.eqb v = false) : foldP v t p = .mk p.kind p.table p.exprs p.cols (foldPL v t p.kids) := by
  obtain ⟨k, tb, es, cs, ks⟩ := p; simp [foldP, h]
theorem cntP_miss {v : Pn} {p : Pn} (h : p.eqb v = false) : cntP v p = cntPL v p.kids := by
  obtain ⟨k, tb, es, cs, ks⟩ := p; simp [cntP, h]
theorem foldPL_snoc (v : Pn) (t : Int) (l : List Pn) (p : Pn) : foldPL v t (l ++ [p]) = foldPL v t l ++ [foldP v t p] := by simp [foldPL_map]
theorem cntPL_snoc (v : Pn) : ∀ (l : List Pn) (p : Pn), cntPL v (l ++ [p]) = cntPL v l + cntP v p
  | [], p => by simp [cntPL]
  | a :: l, p => by simp [cntPL, cntPL_snoc v l p]; omega
@[simp] theorem foldPL_length (v : Pn) (t : Int) (l : List Pn) : (foldPL v t l).length = l.length := by simp [foldPL_map]
theorem Pn.scan_size (t : Int) : (Pn.scan t).size = 1 := by simp [Pn.scan, Pn.size, Pn.sizeL]
theorem foldP_size (v : Pn) (t : Int) : ∀ p : Pn, (foldP v t p).size ≤ p.size := by
  intro p
  induction p using Pn.ind with
  | h k tb es cs ks ih =>
    cases he : Pn.eqb (.mk k tb es cs ks) v with
    | true => rw [foldP_hit he, Pn.scan_size]; exact Pn.size_pos _
    | false =>
      rw [foldP_miss he, Pn.size_eq, Pn.size_eq]
      simp only [Pn.kids_mk]
      have : ∀ l : List Pn, (∀ p ∈ l, (foldP v t p).size ≤ p.size) → Pn.sizeL (foldPL v t l) ≤ Pn.sizeL l := by
        intro l
        induction l with
        | nil => intro _; simp [foldPL]
        | cons a l ihl =>
          intro h
          have h1 := h a (by simp)
          have h2 := ihl fun p hp => h p (by simp [hp])
          simp only [foldPL, Pn.sizeL]; omega
      have := this ks ih
      omega
theorem cntP_size (v : Pn) : ∀ p : Pn, cntP v p ≤ p.size := by
  intro p
  induction p using Pn.ind with
  | h k tb es cs ks ih =>
    cases he : Pn.eqb (.mk k tb es cs ks) v with
    | true => rw [cntP_hit he]; exact Pn.size_pos _
    | false =>
      rw [cntP_miss he, Pn.size_eq]
      simp only [Pn.kids_mk]
      have : ∀ l : List Pn, (∀ p ∈ l, cntP v p ≤ p.size) → cntPL v l ≤ Pn.sizeL l := by
        intro l
        induction l with
        | nil => intro _; simp [cntPL]
        | cons a l ihl =>
          intro h
          have h1 := h a (by simp)
          have h2 := ihl fun p hp => h p (by simp [hp])
          simp only [cntPL, Pn.sizeL]; omega
      have := this ks ih
      omega
theorem foldP_none (v : Pn) (t : Int) : ∀ p : Pn, cntP v p = 0 → foldP v t p = p := by
  intro p
  induction p using Pn.ind with
  | h k tb es cs ks ih =>
    intro h0
    cases he : Pn.eqb (.mk k tb es cs ks) v with
    | true => rw [cntP_hit he] at h0; cases h0
    | false =>
      rw [cntP_miss he] at h0
      rw [foldP_miss he]
      simp only [Pn.kids_mk, Pn.kind_mk, Pn.table_mk, Pn.exprs_mk, Pn.cols_mk] at h0 ⊢
      have : ∀ l : List Pn, (∀ p ∈ l, cntP v p = 0 → foldP v t p = p) → cntPL v l = 0 → foldPL v t l = l := by
        intro l
        induction l with
        | nil => intro _ _; simp [foldPL]
        | cons a l ihl =>
          intro h h0
          simp only [cntPL] at h0
          simp only [foldPL]
          rw [h a (by simp) (by omega), ihl (fun p hp => h p (by simp [hp])) (by omega)]
      rw [this ks ih h0]
theorem foldP_self (v : Pn) (t : Int) : foldP v t v = .scan t := foldP_hit (Pn.eqb_refl v)
theorem cntP_self (v : Pn) : cntP v v = 1 := cntP_hit (Pn.eqb_refl v)
theorem Pn.scan_thin (t : Int) : (Pn.scan t).thin := by simp [Pn.scan, Pn.thin, Pn.thinL]
theorem Pn.zero_thin : Pn.zero.thin := by simp [Pn.zero, Pn.thin, Pn.thinL]
theorem foldP_thin (v : Pn) (t : Int) : ∀ p : Pn, p.thin → (foldP v t p).thin := by
  intro p
  induction p using Pn.ind with
  | h k tb es cs ks ih =>
    intro hp
    cases he : Pn.eqb (.mk k tb es cs ks) v with
    | true => rw [foldP_hit he]; exact Pn.scan_thin t
    | false =>
      rw [foldP_miss he]
      have h := (Pn.thin_iff _).1 hp
      simp only [Pn.kids_mk, Pn.kind_mk, Pn.table_mk, Pn.exprs_mk, Pn.cols_mk] at h ⊢
      refine (Pn.thin_iff _).2 ⟨h.1, h.2.1, h.2.2.1, by simpa using h.2.2.2.1, ?_⟩
      intro a ha
      simp only [Pn.kids_mk, foldPL_map, List.mem_map] at ha
      obtain ⟨b, hb, rfl⟩ := ha
      exact ih b hb (h.2.2.2.2 b hb)
mutual
/-- All its expressions are small. -/
def Pn.tiny : Pn → Prop
  | .mk _ _ es _ ks => (∀ e ∈ es, e.size < 1000000000) ∧ Pn.tinyL ks
def Pn.tinyL : List Pn → Prop
  | [] => True
  | p :: ps => p.tiny ∧ Pn.tinyL ps
end
theorem Pn.tinyL_iff : ∀ (l : List Pn), Pn.tinyL l ↔ ∀ p ∈ l, p.tiny
  | [] => by simp [Pn.tinyL]
  | p :: l => by simp [Pn.tinyL, Pn.tinyL_iff l]
theorem Pn.tiny_iff (p : Pn) : p.tiny ↔ (∀ e ∈ p.exprs, e.size < 1000000000) ∧ ∀ a ∈ p.kids, a.tiny := by
  cases p; simp [Pn.tiny, Pn.tinyL_iff]
theorem cntPL_append (v : Pn) : ∀ (l m : List Pn), cntPL v (l ++ m) = cntPL v l + cntPL v m
  | [], m => by simp [cntPL]
  | a :: l, m => by simp [cntPL, cntPL_append v l m]; omega
theorem cntPL_take (v : Pn) (l : List Pn) (i : Nat) : cntPL v (l.take i) ≤ cntPL v l := by
  have h := cntPL_append v (l.take i) (l.drop i)
  rw [List.take_append_drop] at h; omega
theorem Ex.cellsL_set : ∀ {l : List Ex} {i : Nat} {a : Ex}, l[i]? = some a → (Ex.cellsL l).set i a.cells = Ex.cellsL l
  | [], _, _, h => by simp at h
  | b :: l, 0, a, h => by simp at h; subst h; simp [Ex.cellsL]
  | b :: l, i + 1, a, h => by simp only [Ex.cellsL, List.set_cons_succ]; rw [Ex.cellsL_set (by simpa using h)]
end Go.Av

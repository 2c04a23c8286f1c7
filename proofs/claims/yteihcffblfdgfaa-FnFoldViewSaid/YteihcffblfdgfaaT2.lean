/- Part 2 of what the proof rests on: the executor and what it is worth, and the program's functions as it runs them. No condition. -/
import Derived.Test.YteihcffblfdgfaaT1
import Derived.Laws.StructEq
import Derived.RangeFuncSeq
import Derived.RangeFuncCalls
import Derived.OrdersIn
import Derived.Still
set_option linter.unusedVariables false
set_option linter.unusedSimpArgs false
/- Every operation over abstract values is what the model does. No condition. -/
namespace Go.Av
/-- Two structs of a bool and a number may be compared so. -/
def EqOk (P : Program) (t : TypeId) : Prop := ∃ fb fn k, P.underlying t = some (.struct #[fb, fn]) ∧ P.stoodInHeld t = false ∧ P.eqGuardType P.depth t = false ∧
  fb.name ≠ "_" ∧ fn.name ≠ "_" ∧ fb.offset = 0 ∧ fn.offset = 1 ∧ P.underlying fb.type = some .bool ∧ P.underlying fn.type = some (.int k)
structure CtxOk (C : Ctx) : Prop where
  zeros : ZerosOk C.P
  fields : FieldsOk C.P
  eqs : ∀ t, C.eqT t = true → EqOk C.P t

section
variable {C : Ctx} {w : World} {m : Mem} {φ : Pl} {st : Store} {env : Nat → AV} {ρ : Operand → Value}

theorem box_sound {e : TypeId} {xv : Value} {cs : List AV} {nb : Nat} (hi : Inv w m φ st) (hf : ∀ id, nb ≤ id → id < nb + wide → φ id = none) (hx : RepC m φ cs xv.cells.toList) :
    ∃ a w', (newVar e xv).run C.P w = .ok a w' ∧ Out w m φ nb (.own nb 0) (upd st nb (some (.box cs))) (.pointer (some a)) w' := by
  have hnb := hf nb (Nat.le_refl _) (lt_wide nb)
  have hblk : BlkOk (w.alloc (.cells xv.cells e)) m (updP φ nb (w.heap.size, one w.heap.size xv.cells.toList.length)) w.heap.size (one w.heap.size xv.cells.toList.length) (.box cs) := by
    refine .box (T := e) (by simpa using heap_push_new w (.cells xv.cells e)) rfl (hx.mono (.refl _) (PLe.updP hnb)) ?_
    intro o
    cases hm : m w.heap.size o with
    | none => rfl
    | some u => exact absurd (hi.mem.lt hm) (by omega)
  obtain ⟨j1, j2⟩ := hi.push hnb _ hblk
  exact ⟨⟨w.heap.size, 0, none⟩, _, by simp [newVar, newRow], m, _, .own (updP_same _ _ _), j1, j2, updP_ids (Nat.le_refl _) (lt_wide nb)⟩

theorem binS_run {op : BinOp} {t : TypeId} {a b : ByteArray} {r : IV} (hs : isShift op = false) (h : binS op a b = some r) (x y : Operand) :
    ∃ v, (do eqGuard op t x y (.string a) (.string b); binOp op t (.string a) (.string b) : Sem Value).run C.P w = .ok v w ∧ IRep m r v := by
  have hg : eqGuard op t x y (.string a) (.string b) = pure () := by cases op <;> rfl
  rw [hg]
  cases op <;> simp [binS, isShift] at h hs <;> first | skip | (cases h; done)
  case add =>
    obtain ⟨h1, h2⟩ := tst_eq.1 h
    have h1 := of_decide_eq_true h1
    injection h2 with h2; subst h2
    have h3 : (a.size : Int) + (b.size : Int) ≤ 9223372036854775807 := by omega
    exact ⟨_, by simp [binOp, Op.stringOp, h3], .lit _⟩
  all_goals (subst h; exact ⟨_, by simp [binOp, Op.stringOp], .lit _⟩)

theorem binI_run {op : BinOp} {t : TypeId} {k : IntKind} {a b : Int} {r : IV} (hs : isShift op = false) (h : binI op k a b = some r) (x y : Operand) :
    ∃ v, (do eqGuard op t x y (.int k a) (.int k b); binOp op t (.int k a) (.int k b) : Sem Value).run C.P w = .ok v w ∧ IRep m r v := by
  have hg : eqGuard op t x y (.int k a) (.int k b) = pure () := by cases op <;> rfl
  rw [hg]
  cases op <;> simp [binI, isShift] at h hs <;> first | skip | (cases h; done)
  case quo =>
    obtain ⟨h1, h2⟩ := tst_eq.1 h
    injection h2 with h2; subst h2
    have h3 : ¬ b = 0 := by simpa using h1
    exact ⟨_, by simp [binOp, Op.intDiv, h3], .lit _⟩
  case rem =>
    obtain ⟨h1, h2⟩ := tst_eq.1 h
    injection h2 with h2; subst h2
    have h3 : ¬ b = 0 := by simpa using h1
    exact ⟨_, by simp [binOp, Op.intDiv, h3], .lit _⟩
  all_goals (subst h; exact ⟨_, by simp [binOp, Op.intArith, Op.intBits, Op.intCmp], .lit _⟩)
theorem shI_run {op : BinOp} {t : TypeId} {k k' : IntKind} {a b : Int} {r : IV} (h : shI op k a b = some r) (x y : Operand) :
    ∃ v, (do eqGuard op t x y (.int k a) (.int k' b); binOp op t (.int k a) (.int k' b) : Sem Value).run C.P w = .ok v w ∧ IRep m r v := by
  have hg : eqGuard op t x y (.int k a) (.int k' b) = pure () := by cases op <;> rfl
  rw [hg]
  cases op <;> simp [shI] at h <;> first | skip | (cases h; done)
  all_goals
    obtain ⟨h1, h2⟩ := tst_eq.1 h
    injection h2 with h2; subst h2
    have h3 : ¬ b < 0 := by have := of_decide_eq_true h1; omega
    exact ⟨_, by simp [binOp, Op.shift, h3], .lit _⟩
theorem binB_run {op : BinOp} {t : TypeId} {a b : Bool} {r : IV} (h : binB op (descK C.P t) a b = some r) (x y : Operand) :
    ∃ v, (do eqGuard op t x y (.bool a) (.bool b); binOp op t (.bool a) (.bool b) : Sem Value).run C.P w = .ok v w ∧ IRep m r v := by
  have hg : eqGuard op t x y (.bool a) (.bool b) = pure () := by cases op <;> rfl
  rw [hg]
  unfold binB at h
  split at h
  · rename_i hd
    have hu := und_descK_bool hd
    injection h with h; subst h
    exact ⟨_, by simp [binOp, Op.equal, Op.maxDepth, run_equalIn_bool _ _ _ _ _ hu], .lit _⟩
  · rename_i hd
    have hu := und_descK_bool hd
    injection h with h; subst h
    exact ⟨_, by simp [binOp, Op.equal, Op.maxDepth, run_equalIn_bool _ _ _ _ _ hu], .lit _⟩
  · cases h
theorem binV_run {op : BinOp} {t : TypeId} {a b : Bool} {n l : Int} {r : IV} (hC : CtxOk C) (h : binV op (C.eqT t) a n b l = some r) (x y : Operand) :
    ∃ v, (do eqGuard op t x y (.agg #[.bool a, .int .i64 n]) (.agg #[.bool b, .int .i64 l]); binOp op t (.agg #[.bool a, .int .i64 n]) (.agg #[.bool b, .int .i64 l]) : Sem Value).run C.P w = .ok v w ∧ IRep m r v := by
  have key : C.eqT t = true → (Op.equalIn 10000 t (.agg #[.bool a, .int .i64 n]) (.agg #[.bool b, .int .i64 l])).run C.P w = .ok (a == b && n == l) w ∧ C.P.eqGuardType C.P.depth t = false := by
    intro he
    obtain ⟨fb, fn, k, h1, h2, h3, h4, h5, h6, h7, h8, h9⟩ := hC.eqs t he
    refine ⟨?_, h3⟩
    have hfo : C.P.fieldsOf t = #[fb, fn] := by simp [Program.fieldsOf, h1]
    rw [run_equalIn_struct w 9999 t _ _ (by rw [hfo]; exact h1) h2, hfo]
    have p1 : ∀ (xs : Array Value) (v : Value), xs[0]? = some v → (part fb.type xs 0).run C.P w = .ok v w := fun xs v hx => by
      simp [part, isAgg, run_underlying h8, hx]
    have p2 : ∀ (xs : Array Value) (v : Value), xs[1]? = some v → (part fn.type xs 1).run C.P w = .ok v w := fun xs v hx => by
      simp [part, isAgg, run_underlying h9, hx]
    simp only [Op.eqFields, h4, h5, h6, h7, ne_eq, not_false_eq_true, if_true, Sem.run_bind]
    rw [p1 _ (.bool a) rfl]
    simp only [Result.andThen_ok]
    rw [p1 _ (.bool b) rfl]
    simp only [Result.andThen_ok]
    rw [run_equalIn_bool w 9998 fb.type a b h8]
    simp only [Result.andThen_ok]
    cases hab : (a == b)
    · simp
    · simp only [Bool.not_true, Bool.false_eq_true, if_false, Sem.run_bind, Bool.true_and]
      rw [p2 _ (.int .i64 n) rfl]
      simp only [Result.andThen_ok]
      rw [p2 _ (.int .i64 l) rfl]
      simp only [Result.andThen_ok]
      rw [run_equalIn_int w 9998 fn.type .i64 k n l h9]
      simp only [Result.andThen_ok]
      cases (n == l) <;> simp
  unfold binV at h
  split at h
  · rename_i he
    obtain ⟨k1, k2⟩ := key (by assumption)
    injection h with h; subst h
    exact ⟨_, by rw [Sem.run_bind, run_eqGuard_agg _ _ _ _ _ _ _ k2, Result.andThen_ok, run_eql_struct, k1, Result.andThen_ok], .lit _⟩
  · rename_i he
    obtain ⟨k1, k2⟩ := key (by assumption)
    injection h with h; subst h
    exact ⟨_, by rw [Sem.run_bind, run_eqGuard_agg _ _ _ _ _ _ _ k2, Result.andThen_ok, run_neq_struct, k1, Result.andThen_ok], .lit _⟩
  · cases h
theorem IRep.lit_eq {v x : Value} (h : IRep m (.lit v) x) : x = v := by cases h; rfl
theorem Rep.lit_eq {v x : Value} (h : Rep m φ (.i (.lit v)) x) : x = v := by cases h with | i h => exact h.lit_eq
theorem Rep.pair_eq {u v x : Value} (h : Rep m φ (.i (.agg [.lit u, .lit v])) x) : x = .agg #[u, v] := by
  cases h with | i h => cases h with | agg h => cases h with | cons a _ b => cases b with | cons b _ c => cases c; rw [a.lit_eq, b.lit_eq]
theorem bin_sound (hC : CtxOk C) {op : BinOp} {t : TypeId} {a b : AV} {r : IV} {av bv : Value} (ha : Rep m φ a av) (hb : Rep m φ b bv) (h : binA C op t a b = some r) (x y : Operand) :
    ∃ v, (do eqGuard op t x y av bv; binOp op t av bv : Sem Value).run C.P w = .ok v w ∧ IRep m r v := by
  unfold binA at h
  split at h
  · rename_i k n k' l
    rw [ha.lit_eq, hb.lit_eq]
    cases hs : isShift op with
    | true => rw [hs] at h; exact shI_run h x y
    | false =>
      rw [hs] at h
      obtain ⟨h1, h2⟩ := tst_eq.1 h
      have h1 := of_decide_eq_true h1
      subst h1
      exact binI_run hs h2 x y
  · rw [ha.lit_eq, hb.lit_eq]
    obtain ⟨h1, h2⟩ := tst_eq.1 h
    exact binS_run (by simpa using h1) h2 x y
  · rw [ha.lit_eq, hb.lit_eq]; exact binB_run h x y
  · rw [ha.pair_eq, hb.pair_eq]; exact binV_run hC h x y
  · cases h
theorem un_sound {op : UnOp} {a : AV} {r : IV} {av : Value} (ha : Rep m φ a av) (h : unA op a = some r) : ∃ v, (Op.unary op av).run C.P w = .ok v w ∧ IRep m r v := by
  unfold unA at h
  split at h
  · rw [ha.lit_eq]; injection h with h; subst h; exact ⟨_, by simp [Op.unary], .lit _⟩
  · rw [ha.lit_eq]; injection h with h; subst h; exact ⟨_, by simp [Op.unary, Op.intArith], .lit _⟩
  · cases h
theorem conv_sound {s d : TypeId} {a r : AV} {av : Value} (ha : Rep m φ a av) (h : convA (descK C.P s) (descK C.P d) a = some r) : ∃ v, (convert s d av).run C.P w = .ok v w ∧ Rep m φ r v := by
  unfold convA at h
  split at h
  · rename_i ds k k' n hs hd
    obtain ⟨us, hus⟩ := und_descK_some hs
    have hud := und_descK_int hd
    rw [ha.lit_eq]; injection h with h; subst h
    exact ⟨_, by simp [convert, run_underlying hus, run_underlying hud, Conv.intToInt], .i (.lit _)⟩
  · rename_i hs hd
    have hus := und_descK_string hs
    have hud := und_descK_string hd
    rw [ha.lit_eq]; injection h with h; subst h
    exact ⟨_, by simp [convert, run_underlying hus, run_underlying hud], .i (.lit _)⟩
  · cases h
theorem pick_sound {c a b r : AV} {cv av bv : Value} (hc : Rep m φ c cv) (ha : Rep m φ a av) (hb : Rep m φ b bv) (h : pickA a b c = some r) :
    ∃ t : Bool, cv = .bool t ∧ Rep m φ r (if t = true then av else bv) := by
  unfold pickA at h
  split at h
  · rename_i t
    refine ⟨t, hc.lit_eq, ?_⟩
    injection h with h; subst h
    cases t
    · exact hb
    · exact ha
  · cases h
theorem nil_sound {a r : AV} {av : Value} (ha : Rep m φ a av) (h : nilA a = some r) :
    Rep m φ r av ∧ ((∃ ad, av = .pointer (some ad)) ∨ ∃ g cs, av = .func (.func g) #[] cs) := by
  unfold nilA at h
  split at h
  · injection h with h; subst h; refine ⟨ha, .inl ?_⟩; cases ha; exact ⟨_, rfl⟩
  · injection h with h; subst h; refine ⟨ha, .inl ?_⟩; cases ha; exact ⟨_, rfl⟩
  · injection h with h; subst h; refine ⟨ha, .inl ?_⟩; cases ha with | i ha => cases ha; exact ⟨_, rfl⟩
  · injection h with h; subst h; refine ⟨ha, .inl ?_⟩; exact ⟨_, ha.lit_eq⟩
  · injection h with h; subst h; refine ⟨ha, .inr ?_⟩; cases ha; exact ⟨_, _, rfl⟩
  · cases h
theorem idxBelow_eq {a : AV} {x : Value} {n j : Nat} (ha : Rep m φ a x) (h : idxBelow a n = some j) : ∃ k i, x = .int k i ∧ 0 ≤ i ∧ i < n ∧ i.toNat = j := by
  unfold idxBelow at h
  split at h
  · obtain ⟨h1, h2⟩ := tst_eq.1 h
    have h1 := of_decide_eq_true h1
    injection h2 with h2
    exact ⟨_, _, ha.lit_eq, h1.1, h1.2, h2⟩
  · cases h
theorem fieldAddr_sound {s : TypeId} {f : Nat} {p : TypeId × Nat} {n : Nat} {a r : AV} {av : Value} (ha : Rep m φ a av) (h1 : fieldT C.P s f = some p) (h2 : szOf C.P p.1 = some n) (h3 : 0 < n) (h : fieldAddrA p.2 a = some r) :
    ∃ v, (Instr.fieldAt s av f).run C.P w = .ok v w ∧ Rep m φ r v := by
  obtain ⟨fs, fd, k1, k2, k3, k4⟩ := fieldT_eq h1
  have hsz : (sizeOf fd.type).run C.P w = .ok n w := by rw [k3]; exact run_size h2 w
  have hrun : ∀ ad : Addr, (Instr.fieldAt s (.pointer (some ad)) f).run C.P w = .ok (.pointer (some (ad.add p.2))) w := fun ad => by
    simp [Instr.fieldAt, run_underlying k1, k2, Instr.sureAddr, fieldPlace, hsz, Nat.ne_of_gt h3, k4]
  unfold fieldAddrA at h
  split at h
  · injection h with h; subst h
    cases ha with | own e => exact ⟨_, hrun _, by rw [Addr.add_none]; exact .own e⟩
  · injection h with h; subst h
    cases ha with | ownE e => exact ⟨_, hrun _, by rw [Addr.add_none, Nat.add_assoc]; exact .ownE e⟩
  · obtain ⟨h4, h5⟩ := tst_eq.1 h
    injection h5 with h5; subst h5
    cases ha with | i ha => cases ha with | iref hat => exact ⟨_, hrun _, by rw [Addr.add_none]; exact .i (.iref (hat.dropE _ (of_decide_eq_true h4)))⟩
  · injection h with h; subst h
    cases ha with | i ha => cases ha with | lit => exact ⟨_, hrun _, by rw [Addr.add_none]; exact .i (.lit _)⟩
  · cases h
theorem part_agg {t : TypeId} {n off : Nat} {g : Bool} {vs : List Value} (hs : szOf C.P t = some n) (hg : aggD (descK C.P t) = some g) :
    (g = true → (part t vs.toArray off).run C.P w = .ok (.agg ((vs.drop off).take n).toArray) w) ∧ (g = false → ∀ x, vs[off]? = some x → (part t vs.toArray off).run C.P w = .ok x w) := by
  constructor
  · intro h; subst h
    simp only [part, Sem.run_bind, run_isAgg hg, run_size hs, Result.andThen_ok, if_true, Sem.run_pure]
    congr 2
    apply Array.ext'
    simp [List.extract_eq_take_drop]
  · intro h x hx; subst h
    simp [part, run_isAgg hg, hx]
theorem cut_rep {cs l : List AV} {vs : List Value} {t : TypeId} {off n : Nat} {g : Bool} {r : AV} (hs : szOf C.P t = some n) (hg : aggD (descK C.P t) = some g) (hc : RepC m φ cs vs) (h : cut cs off n = some l) (h2 : ofCells g l = some r) :
    ∃ x, (part t vs.toArray off).run C.P w = .ok x w ∧ Rep m φ r x := by
  have hp := part_agg (C := C) (w := w) (off := off) (vs := vs) hs hg
  rcases cut_eq h with ⟨rfl, hle⟩ | ⟨rfl, rfl⟩
  · rcases ofCells_rep h2 ((hc.drop off).take n) with ⟨rfl, k⟩ | ⟨rfl, x, hx, k⟩
    · exact ⟨_, hp.1 rfl, k⟩
    · refine ⟨x, hp.2 rfl x ?_, k⟩
      have h0 : ((vs.drop off).take n)[0]? = some x := by rw [hx]; rfl
      rw [List.getElem?_take] at h0
      split at h0
      · rw [List.getElem?_drop] at h0; simpa using h0
      · cases h0
  · cases g with
    | true =>
      refine ⟨_, hp.1 rfl, ?_⟩
      rcases ofCells_rep h2 (.nil (m := m) (φ := φ)) with ⟨_, k⟩ | ⟨h, _⟩
      · simpa using k
      · cases h
    | false => simp [ofCells] at h2
theorem cutI_rep {cs l : List IV} {vs : List Value} {t : TypeId} {off n : Nat} {g : Bool} {r : AV} (hs : szOf C.P t = some n) (hg : aggD (descK C.P t) = some g) (hc : ICells m cs vs) (h : cut cs off n = some l) (h2 : ofCellsI g l = some r) :
    ∃ x, (part t vs.toArray off).run C.P w = .ok x w ∧ Rep m φ r x := by
  have hp := part_agg (C := C) (w := w) (off := off) (vs := vs) hs hg
  rcases cut_eq h with ⟨rfl, hle⟩ | ⟨rfl, rfl⟩
  · rcases ofCellsI_rep (φ := φ) h2 ((hc.drop off).take n) with ⟨rfl, k⟩ | ⟨rfl, x, hx, k⟩
    · exact ⟨_, hp.1 rfl, k⟩
    · refine ⟨x, hp.2 rfl x ?_, k⟩
      have h0 : ((vs.drop off).take n)[0]? = some x := by rw [hx]; rfl
      rw [List.getElem?_take] at h0
      split at h0
      · rw [List.getElem?_drop] at h0; simpa using h0
      · cases h0
  · cases g with
    | true =>
      refine ⟨_, hp.1 rfl, ?_⟩
      rcases ofCellsI_rep (φ := φ) h2 (.nil (m := m)) with ⟨_, k⟩ | ⟨h, _⟩
      · simpa using k
      · cases h
    | false => simp [ofCellsI] at h2
theorem field_sound {s : TypeId} {f : Nat} {p : TypeId × Nat} {n : Nat} {g : Bool} {a r : AV} {av : Value} (ha : Rep m φ a av) (h1 : fieldT C.P s f = some p) (h2 : szOf C.P p.1 = some n) (hg : aggD (descK C.P p.1) = some g) (h : fieldA p.2 n g a = some r) :
    ∃ v, (Instr.field s av f).run C.P w = .ok v w ∧ Rep m φ r v := by
  obtain ⟨fs, fd, k1, k2, k3, k4⟩ := fieldT_eq h1
  have hrun : ∀ (vs : List Value) (x : Value), (part p.1 vs.toArray p.2).run C.P w = .ok x w → (Instr.field s (.agg vs.toArray) f).run C.P w = .ok x w := fun vs x hx => by
    simp [Instr.field, run_underlying k1, k2, asAgg, k3, k4, hx]
  unfold fieldA at h
  split at h
  · obtain ⟨l, h3, h4⟩ := bnd_eq.1 h
    cases ha with
    | agg hc => obtain ⟨x, j1, j2⟩ := cut_rep (w := w) h2 hg hc h3 h4; exact ⟨x, hrun _ _ j1, j2⟩
  · obtain ⟨l, h3, h4⟩ := bnd_eq.1 h
    cases ha with
    | i ha => cases ha with
      | agg hc => obtain ⟨x, j1, j2⟩ := cutI_rep (w := w) h2 hg hc h3 h4; exact ⟨x, hrun _ _ j1, j2⟩
  · cases h
theorem indexAddr_sound {t : TypeId} {x ix r : AV} {xv iv : Value} (hx : Rep m φ x xv) (hix : Rep m φ ix iv) (h : indexAddrA C x ix (descK C.P t) = some r) :
    ∃ v, (Instr.indexAt t xv iv).run C.P w = .ok v w ∧ Rep m φ r v := by
  unfold indexAddrA at h
  split at h
  · rename_i e hd
    have hu := und_descK_slice hd
    obtain ⟨k, hk, h1⟩ := bnd_eq.1 h
    have hrun : ∀ (a : Addr) (len cap : Nat) (q : IntKind) (i : Int), 0 ≤ i → i < len → (Instr.indexAt t (.slice (some a) len cap) (.int q i)).run C.P w = .ok (.pointer (some (a.add (i.toNat * k)))) w := fun a len cap q i h0 hl => by
      simp [Instr.indexAt, run_underlying hu, asIntOf, h0, hl, run_size hk]
    unfold indexSl at h1
    split at h1
    · rename_i es
      obtain ⟨j, h2, h3⟩ := bnd_eq.1 h1
      obtain ⟨cs, h4, h5⟩ := bnd_eq.1 h3
      rw [nthE_eq] at h4
      obtain ⟨h6, h7⟩ := tst_eq.1 h5
      injection h7 with h7; subst h7
      obtain ⟨q, i, rfl, i0, i1, i2⟩ := idxBelow_eq hix h2
      have h6 : cs.length = k := by simpa using h6
      cases hx with
      | i hx =>
        cases hx with
        | isl0 => simp at h4
        | isl hn he hcap =>
          obtain ⟨hat, hel⟩ := elems_at he h4
          refine ⟨_, hrun _ _ _ q i i0 i1, ?_⟩
          rw [Addr.add_none, i2]
          rw [h6] at hel
          subst hel
          rw [Nat.mul_comm]
          exact .i (.iref hat)
    · rename_i id k' off len
      obtain ⟨j, h2, h3⟩ := bnd_eq.1 h1
      obtain ⟨h6, h7⟩ := tst_eq.1 h3
      injection h7 with h7; subst h7
      have h6 : k' = k := by simpa using h6
      subst h6
      obtain ⟨q, i, rfl, i0, i1, i2⟩ := idxBelow_eq hix h2
      cases hx with
      | osl eφ hlc hcap ha1 ha2 =>
        rw [ha1 (by omega)]
        refine ⟨_, hrun _ _ _ q i i0 i1, ?_⟩
        rw [Addr.add_none, i2, show k' * off + j * k' = k' * (off + j) + 0 by rw [Nat.mul_add, Nat.mul_comm j]; omega]
        exact .ownE eφ
    · rename_i b off len cap
      obtain ⟨j, h2, h3⟩ := bnd_eq.1 h1
      injection h3 with h3; subst h3
      obtain ⟨q, i, rfl, i0, i1, i2⟩ := idxBelow_eq hix h2
      rw [hx.lit_eq]
      refine ⟨_, hrun _ _ _ q i i0 i1, ?_⟩
      rw [Addr.add_none, i2]
      exact .i (.lit _)
    · cases h1
  · rename_i n e hd
    have hu := und_descK_array hd
    obtain ⟨k, hk, h1⟩ := bnd_eq.1 h
    unfold indexAr at h1
    split at h1
    · obtain ⟨j, h2, h3⟩ := bnd_eq.1 h1
      injection h3 with h3; subst h3
      obtain ⟨q, i, rfl, i0, i1, i2⟩ := idxBelow_eq hix h2
      cases hx with
      | own eφ =>
        refine ⟨_, by simp [Instr.indexAt, run_underlying hu, asIntOf, i0, i1, run_size hk, Instr.sureAddr]; rfl, ?_⟩
        rw [Addr.add_none, i2]
        exact .own eφ
    · cases h1
  · cases h
theorem index_sound {t : TypeId} {x ix r : AV} {xv iv : Value} (hx : Rep m φ x xv) (hix : Rep m φ ix iv) (h : indexA C ix (descK C.P t) x = some r) :
    ∃ v, (Instr.index t xv iv).run C.P w = .ok v w ∧ Rep m φ r v := by
  unfold indexA at h
  split at h
  · rename_i s hd
    have hu := und_descK_string hd
    obtain ⟨j, h2, h3⟩ := bnd_eq.1 h
    obtain ⟨b, h4, h5⟩ := bnd_eq.1 h3
    rw [nthE_eq, Array.getElem?_toList] at h4
    injection h5 with h5; subst h5
    obtain ⟨q, i, rfl, i0, i1, i2⟩ := idxBelow_eq hix h2
    rw [hx.lit_eq]
    have hb : s[i.toNat]? = some b := by
      rw [i2]
      obtain ⟨hlt, hget⟩ := Array.getElem?_eq_some_iff.1 h4
      have hlt' : j < s.size := hlt
      rw [getElem?_pos s j hlt']
      exact congrArg some hget
    exact ⟨_, by simp [Instr.index, run_underlying hu, asIntOf, i0, hb], .i (.lit _)⟩
  · rename_i n e cs hd
    have hu := und_descK_array hd
    obtain ⟨k, hk, h1⟩ := bnd_eq.1 h
    obtain ⟨g, hg, h2⟩ := bnd_eq.1 h1
    obtain ⟨j, h3, h4⟩ := bnd_eq.1 h2
    obtain ⟨l, h5, h6⟩ := bnd_eq.1 h4
    obtain ⟨q, i, rfl, i0, i1, i2⟩ := idxBelow_eq hix h3
    cases hx with
    | i hx => cases hx with
      | agg hc =>
        obtain ⟨y, j1, j2⟩ := cutI_rep (w := w) (φ := φ) hk hg hc h5 h6
        exact ⟨y, by simp [Instr.index, run_underlying hu, asIntOf, i0, i1, run_size hk, i2, j1], j2⟩
  · cases h
theorem extract_sound {x r : AV} {xv : Value} {j : Nat} (hx : Rep m φ x xv) (h : extractA j x = some r) : ∃ v, (Instr.extract xv j).run C.P w = .ok v w ∧ Rep m φ r v := by
  unfold extractA at h
  split at h
  · cases hx with
    | tup hl =>
      have key : ∀ {cs : List AV} {vs : List Value} {j : Nat} {r : AV}, RepL m φ cs vs → cs[j]? = some r → ∃ v, vs[j]? = some v ∧ Rep m φ r v := by
        intro cs
        induction cs with
        | nil => intro vs j r _ h; simp at h
        | cons c cs ih =>
          intro vs j r hl h
          cases hl with
          | cons a b =>
            cases j with
            | zero => simp at h; subst h; exact ⟨_, rfl, a⟩
            | succ j => obtain ⟨v, h1, h2⟩ := ih b (by simpa using h); exact ⟨v, by simpa using h1, h2⟩
      obtain ⟨v, h1, h2⟩ := key hl h
      exact ⟨v, by simp [Instr.extract, h1], h2⟩
  · cases h
theorem idxUpto_run {o : Option AV} {v : Option Value} {dflt n h : Nat} (hr : ∀ a, o = some a → ∃ x, v = some x ∧ Rep m φ a x) (hn : o = none → v = none) (e : idxUpto o dflt n = some h) :
    (o = none ∧ v = none ∧ h = dflt) ∨ ∃ k i, v = some (.int k i) ∧ 0 ≤ i ∧ i ≤ n ∧ h = i.toNat := by
  unfold idxUpto at e
  split at e
  · injection e with e; exact .inl ⟨rfl, hn rfl, e.symm⟩
  · obtain ⟨h1, h2⟩ := tst_eq.1 e
    have h1 := of_decide_eq_true h1
    injection h2 with h2
    obtain ⟨x, rfl, hx⟩ := hr _ rfl
    exact .inr ⟨_, _, by rw [hx.lit_eq], h1.1, h1.2, h2.symm⟩
  · cases e
theorem bounds_run {isSlice : Bool} {len cap : Nat} {lo hi : Option AV} {lv hv : Option Value} {l h : Nat} (hlc : len ≤ cap)
    (r1 : ∀ a, lo = some a → ∃ x, lv = some x ∧ Rep m φ a x) (n1 : lo = none → lv = none) (r2 : ∀ a, hi = some a → ∃ x, hv = some x ∧ Rep m φ a x) (n2 : hi = none → hv = none)
    (e1 : idxUpto hi len len = some h) (e2 : idxUpto lo 0 h = some l) :
    (Instr.sliceBounds isSlice len cap lv hv none).run C.P w = .ok (l, h, cap) w ∧ l ≤ h ∧ h ≤ len := by
  have q2 := idxUpto_run r2 n2 e1
  have q1 := idxUpto_run r1 n1 e2
  rcases q2 with ⟨_, rfl, rfl⟩ | ⟨k, i, rfl, i0, i1, rfl⟩
  · rcases q1 with ⟨_, rfl, rfl⟩ | ⟨k', j, rfl, j0, j1, rfl⟩
    · exact ⟨by simp [Instr.sliceBounds], by omega, by omega⟩
    · exact ⟨by simp [Instr.sliceBounds, Instr.sliceBound, asIntOf, j0, j1], by omega, by omega⟩
  · have i2 : i ≤ (cap : Int) := by omega
    rcases q1 with ⟨_, rfl, rfl⟩ | ⟨k', j, rfl, j0, j1, rfl⟩
    · exact ⟨by simp [Instr.sliceBounds, Instr.sliceBound, asIntOf, i0, i2], by omega, by omega⟩
    · have j2 : j ≤ i := by omega
      exact ⟨by simp [Instr.sliceBounds, Instr.sliceBound, asIntOf, i0, i2, j0, j2, Int.toNat_of_nonneg i0], by omega, by omega⟩
end
end Go.Av

/- One step of the abstract executor is one operation of the model. No condition. -/
namespace Go.Av
section
variable {C : Ctx} {w : World} {m : Mem} {φ : Pl} {st : Store} {env : Nat → AV} {ρ : Operand → Value}

theorem slice_sound {t : TypeId} {x r : AV} {xv : Value} {lo hi : Option AV} {lv hv : Option Value} (hx : Rep m φ x xv)
    (r1 : ∀ a, lo = some a → ∃ x, lv = some x ∧ Rep m φ a x) (n1 : lo = none → lv = none) (r2 : ∀ a, hi = some a → ∃ x, hv = some x ∧ Rep m φ a x) (n2 : hi = none → hv = none)
    (h : sliceA C t lo hi x = some r) :
    ∃ v, (Instr.sliceAt t xv lv hv none).run C.P w = .ok v w ∧ Rep m φ r v := by
  unfold sliceA at h
  split at h
  · rename_i s
    obtain ⟨hd, h0⟩ := tst_eq.1 h
    obtain ⟨h', e1, h1⟩ := bnd_eq.1 h0
    obtain ⟨l, e2, h2⟩ := bnd_eq.1 h1
    injection h2 with h2; subst h2
    have hu : C.P.underlying t = some .string := by
      unfold isStrD at hd
      split at hd
      · rename_i hd'; exact und_descK_string hd'
      · cases hd
    obtain ⟨k1, k2, k3⟩ := bounds_run (w := w) (C := C) (isSlice := false) (Nat.le_refl s.size) r1 n1 r2 n2 e1 e2
    rw [hx.lit_eq]
    exact ⟨_, by simp [Instr.sliceAt, Instr.slice, run_underlying hu, k1], .i (.lit _)⟩
  · rename_i es
    obtain ⟨e, he, h1⟩ := bnd_eq.1 h
    obtain ⟨k, hk, h2⟩ := bnd_eq.1 h1
    obtain ⟨hw1, h3⟩ := tst_eq.1 h2
    obtain ⟨h', e1, h4⟩ := bnd_eq.1 h3
    obtain ⟨l, e2, h5⟩ := bnd_eq.1 h4
    injection h5 with h5; subst h5
    have hu := und_slice he
    have hwd := widths_eq hw1
    cases hx with
    | i hx =>
      cases hx with
      | isl0 ao cap hc =>
        obtain ⟨k1, k2, k3⟩ := bounds_run (w := w) (C := C) (isSlice := true) (Nat.zero_le cap) r1 n1 r2 n2 (by simpa using e1) e2
        have hl0 : l = 0 := by omega
        have hh0 : h' = 0 := by omega
        subst hl0; subst hh0
        refine ⟨_, by simp [Instr.sliceAt, Instr.slice, run_underlying hu, k1, run_size hk]; rfl, ?_⟩
        have : window ([] : List (List IV)) 0 0 = [] := rfl
        rw [this]
        split
        · exact .i (.isl0 _ _ hc)
        · refine .i (.isl0 _ _ fun h => ?_)
          cases ao with
          | none => exact hc rfl
          | some a => simp at h
      | @isl b off k' _ cap hn hel hcap =>
        obtain ⟨k1, k2, k3⟩ := bounds_run (w := w) (C := C) (isSlice := true) hcap r1 n1 r2 n2 e1 e2
        have hkk : k' = k := by
          cases es with
          | nil => exact absurd rfl hn
          | cons e0 es => exact (elems_len hel e0 (by simp)).symm.trans (hwd e0 (by simp))
        subst hkk
        refine ⟨_, by simp [Instr.sliceAt, Instr.slice, run_underlying hu, k1, run_size hk]; rfl, ?_⟩
        have hwn : (window es l (h' - l)).length = h' - l := by unfold window; simp; omega
        by_cases h0 : h' - l = 0
        · rw [h0]
          have : window es l 0 = [] := by simp [window]
          rw [this]
          split
          · exact .i (.isl0 _ _ fun h => by cases h)
          · exact .i (.isl0 _ _ fun h => by cases h)
        · have hcl : ¬ cap = l := by omega
          simp only [hcl, if_false]
          rw [Addr.add_none, Nat.mul_comm l]
          have hel' := elems_window l (h' - l) hel
          have hne : window es l (h' - l) ≠ [] := fun h => by rw [h] at hwn; simp at hwn; omega
          have := Rep.i (φ := φ) (IRep.isl (cap := cap - l) hne hel' (by rw [hwn]; omega))
          rwa [hwn] at this
  · rename_i id k off len
    obtain ⟨e, he, h1⟩ := bnd_eq.1 h
    obtain ⟨k', hk, h2⟩ := bnd_eq.1 h1
    obtain ⟨hw1, h3⟩ := tst_eq.1 h2
    have hw1 := of_decide_eq_true hw1
    subst hw1
    obtain ⟨h', e1, h4⟩ := bnd_eq.1 h3
    obtain ⟨l, e2, h5⟩ := bnd_eq.1 h4
    injection h5 with h5; subst h5
    have hu := und_slice he
    cases hx with
    | @osl _ _ _ _ cap b n ao eφ hlc hcap ha1 ha2 =>
      obtain ⟨k1, k2, k3⟩ := bounds_run (w := w) (C := C) (isSlice := true) hlc r1 n1 r2 n2 e1 e2
      refine ⟨_, by simp [Instr.sliceAt, Instr.slice, run_underlying hu, k1, run_size hk]; rfl, ?_⟩
      by_cases hcl : cap = l
      · simp only [hcl, if_true, Nat.sub_self]
        have : h' - l = 0 := by omega
        rw [this]
        refine .osl eφ (Nat.le_refl _) ?_ (fun h => absurd rfl h) (fun _ => rfl)
        rw [Nat.add_zero]
        subst hcl; exact hcap
      · simp only [hcl, if_false]
        have hao := ha1 (by omega)
        subst hao
        refine .osl eφ (by omega) ?_ (fun _ => ?_) (fun h => by simp at h)
        · rw [show off + l + (cap - l) = off + cap by omega]; exact hcap
        · simp only [Option.map_some, Addr.add_none]
          rw [Nat.mul_add, Nat.mul_comm l]
  · obtain ⟨e, he, h1⟩ := bnd_eq.1 h
    obtain ⟨k, hk, h2⟩ := bnd_eq.1 h1
    obtain ⟨h', e1, h4⟩ := bnd_eq.1 h2
    obtain ⟨l, e2, h5⟩ := bnd_eq.1 h4
    injection h5 with h5; subst h5
    have hu := und_slice he
    cases hx with
    | nils =>
      obtain ⟨k1, k2, k3⟩ := bounds_run (w := w) (C := C) (isSlice := true) (Nat.le_refl 0) r1 n1 r2 n2 e1 e2
      have hl0 : l = 0 := by omega
      have hh0 : h' = 0 := by omega
      subst hl0; subst hh0
      exact ⟨_, by simp [Instr.sliceAt, Instr.slice, run_underlying hu, k1, run_size hk], .nils⟩
  · cases h

theorem len_sound {t ty : TypeId} {x : AV} {xv : Value} {n : Nat} (hx : Rep m φ x xv) (h : lenA (descK C.P t) x = some n) : (Builtin.len_ #[t] ty #[xv]).run C.P w = .ok (goInt n) w := by
  unfold lenA at h
  split at h
  · rename_i e hd
    have hu := und_descK_slice hd
    injection h with h; subst h
    cases hx with | nils => simp [Builtin.len_, run_underlying hu]
  · rename_i e es hd
    have hu := und_descK_slice hd
    injection h with h; subst h
    cases hx with
    | i hx => cases hx <;> simp [Builtin.len_, run_underlying hu]
  · rename_i e id k off len hd
    have hu := und_descK_slice hd
    injection h with h; subst h
    cases hx with | osl => simp [Builtin.len_, run_underlying hu]
  · rename_i e a len cap hd
    have hu := und_descK_slice hd
    injection h with h; subst h
    rw [hx.lit_eq]
    simp [Builtin.len_, run_underlying hu]
  · rename_i s hd
    have hu := und_descK_string hd
    injection h with h; subst h
    rw [hx.lit_eq]
    simp [Builtin.len_, run_underlying hu]
  · cases h
theorem args2 {a b : AV} {vs : List Value} (h : RepL m φ [a, b] vs) : ∃ x y, vs = [x, y] ∧ Rep m φ a x ∧ Rep m φ b y := by
  cases h with | cons a h => cases h with | cons b h => cases h; exact ⟨_, _, rfl, a, b⟩
theorem args1 {a : AV} {vs : List Value} (h : RepL m φ [a] vs) : ∃ x, vs = [x] ∧ Rep m φ a x := by
  cases h with | cons a h => cases h; exact ⟨_, rfl, a⟩
theorem min_sound {args : List AV} {vs : List Value} {r : AV} {ts : Array TypeId} {ty : TypeId} (hx : RepL m φ args vs) (h : minmaxA .min args = some r) : ∃ v, (Builtin.min_ ts ty vs.toArray).run C.P w = .ok v w ∧ Rep m φ r v := by
  unfold minmaxA at h
  split at h
  · injection h with h; subst h
    obtain ⟨x, y, rfl, k1, k2⟩ := args2 hx
    rw [k1.lit_eq, k2.lit_eq]
    exact ⟨_, by simp [Builtin.min_, Builtin.min2], .i (.lit _)⟩
  · rename_i hq; cases hq
  · cases h
theorem max_sound {args : List AV} {vs : List Value} {r : AV} {ts : Array TypeId} {ty : TypeId} (hx : RepL m φ args vs) (h : minmaxA .max args = some r) : ∃ v, (Builtin.max_ ts ty vs.toArray).run C.P w = .ok v w ∧ Rep m φ r v := by
  unfold minmaxA at h
  split at h
  · rename_i hq; cases hq
  · injection h with h; subst h
    obtain ⟨x, y, rfl, k1, k2⟩ := args2 hx
    rw [k1.lit_eq, k2.lit_eq]
    exact ⟨_, by simp [Builtin.max_, Builtin.max2], .i (.lit _)⟩
  · cases h

theorem evL_rep (hρ : Fits m φ env ρ) : ∀ {l : List Operand}, (∀ x ∈ l, opdOk x = true) → RepL m φ (evL env l) (l.map ρ)
  | [], _ => .nil
  | x :: l, h => .cons (hρ x (h x (by simp))) (evL_rep hρ fun y hy => h y (by simp [hy]))
theorem mem_partOps {l : List (Nat × Operand)} {p : Nat × Operand} (h : p ∈ l) : p.2 ∈ partOps l := by
  induction l with
  | nil => cases h
  | cons q l ih =>
    rcases List.mem_cons.1 h with rfl | h
    · simp [partOps]
    · simp [partOps, ih h]
theorem zero_rep (hz : ZerosOk C.P) {t : TypeId} {z : List Value} (h : zeroOf C.P t = some z) : RepC m φ (litCells z) z := litCells_rep m φ z (hz t z h)
/-- What an operation gives: a value, or nothing where the value is not asked for. -/
def GaveOk (nx : Next) (y : Value) : Prop := nx = .value y ∨ (nx = .skip ∧ y = undef)
theorem stepP_sound (hC : CtxOk C) {nb : Nat} {o : Oper} {v : AV} {st' : Store} (hi : Inv w m φ st) (hf : ∀ id, nb ≤ id → id < nb + wide → φ id = none) (hρ : Fits m φ env ρ) (ho : opOk o.op = true)
    (h : stepP C env st nb o.op = some (v, st')) : ∃ nx y w', (execOp ρ o).run C.P w = .ok nx w' ∧ GaveOk nx y ∧ Out w m φ nb v st' y w' := by
  have hall : ∀ x ∈ opsOf o.op, opdOk x = true := fun x hx => List.all_eq_true.1 ho x hx
  unfold execOp
  unfold stepP at h
  split at h
  -- move, assign
  · rename_i x e
    rw [e] at hall
    simp only [e]
    injection h with h; injection h with h1 h2; subst h1; subst h2
    exact ⟨_, _, w, by simp, .inl rfl, Out.same hi (hρ x (hall x (by simp [opsOf])))⟩
  · rename_i x e
    rw [e] at hall
    simp only [e]
    injection h with h; injection h with h1 h2; subst h1; subst h2
    exact ⟨_, _, w, by simp, .inl rfl, Out.same hi (hρ x (hall x (by simp [opsOf])))⟩
  -- pick
  · rename_i c a b e
    rw [e] at hall
    simp only [e]
    obtain ⟨v', h1, h2⟩ := bnd_eq.1 h
    injection h2 with h2; injection h2 with h2 h3; subst h2; subst h3
    obtain ⟨t, h4, h5⟩ := pick_sound (hρ c (hall c (by simp [opsOf]))) (hρ a (hall a (by simp [opsOf]))) (hρ b (hall b (by simp [opsOf]))) h1
    refine ⟨_, _, w, ?_, .inl rfl, Out.same hi h5⟩
    rw [h4]
    simp [asBool]
  -- alloc
  · rename_i t e
    simp only [e]
    obtain ⟨z, h1, h2⟩ := bnd_eq.1 h
    injection h2 with h2; injection h2 with h2 h3; subst h2; subst h3
    obtain ⟨zv, h4, h5⟩ := run_zero h1 w
    obtain ⟨a, w', h6, h7⟩ := box_sound (C := C) (e := t) (xv := zv) hi hf (by rw [h5]; exact zero_rep hC.zeros h1)
    exact ⟨_, _, w', by simp [Instr.alloc, h4, h6], .inl rfl, h7⟩
  -- box
  · rename_i t x e
    rw [e] at hall
    simp only [e]
    obtain ⟨cs, h1, h2⟩ := bnd_eq.1 h
    injection h2 with h2; injection h2 with h2 h3; subst h2; subst h3
    obtain ⟨a, w', h6, h7⟩ := box_sound (C := C) (e := t) hi hf (cellsOf_rep h1 (hρ x (hall x (by simp [opsOf]))))
    exact ⟨_, _, w', by simp [Instr.box, h6], .inl rfl, h7⟩
  -- build
  · rename_i t parts e
    rw [e] at hall
    simp only [e]
    obtain ⟨g, hg, h1⟩ := bnd_eq.1 h
    obtain ⟨rfl, h2⟩ := tst_eq.1 h1
    obtain ⟨z, hz, h3⟩ := bnd_eq.1 h2
    obtain ⟨ps, hps, h4⟩ := bnd_eq.1 h3
    obtain ⟨cs, hcs, h5⟩ := bnd_eq.1 h4
    injection h5 with h5; injection h5 with h5 h6; subst h5; subst h6
    obtain ⟨out, k1, k2⟩ := build_run (w := w) hC.zeros hC.fields hρ (fun p hp => hall _ (by simpa [opsOf] using mem_partOps hp)) hz hps hcs hg
    refine ⟨_, .agg out, w, by simp [k1], .inl rfl, Out.same hi ?_⟩
    have := mkAgg_rep k2
    simpa using this
  -- buildSlice
  · rename_i t n parts e
    rw [e] at hall
    simp only [e]
    obtain ⟨el, he, h1⟩ := bnd_eq.1 h
    obtain ⟨ps, hps, h2⟩ := bnd_eq.1 h1
    have hpr := partsOf_rep hρ (fun p hp => hall _ (by simpa [opsOf] using mem_partOps hp)) hps
    obtain ⟨y, w', k1, k2⟩ := sliceLit_sound (w := w) hC.zeros hi hf (und_slice he) hpr h2 (parts.map fun p => (p.1, ρ p.2)) (by simp)
    exact ⟨_, _, w', by simp [k1], .inl rfl, k2⟩
  -- load
  · rename_i t a e
    rw [e] at hall
    simp only [e]
    obtain ⟨v', h1, h2⟩ := bnd_eq.1 h
    injection h2 with h2; injection h2 with h2 h3; subst h2; subst h3
    obtain ⟨ad, y, k1, k2, k3⟩ := loadA_sound hi (hρ a (hall a (by simp [opsOf]))) h1
    exact ⟨_, _, w, by simp [Instr.loadAt, Instr.sureAddr, k1, k2], .inl rfl, Out.same hi k3⟩
  -- store
  · rename_i t a x e
    rw [e] at hall
    simp only [e]
    obtain ⟨st1, h1, h2⟩ := bnd_eq.1 h
    injection h2 with h2; injection h2 with h2 h3; subst h2; subst h3
    obtain ⟨w', m', φ', k1, k2, k3, k4⟩ := storeA_sound hi (hρ a (hall a (by simp [opsOf]))) (hρ x (hall x (by simp [opsOf]))) h1
    exact ⟨_, _, w', by simp [k1], .inr ⟨rfl, rfl⟩, m', φ', .i (.lit _), k2, k3, fun _ h => .inl (k4 _ h)⟩
  -- nilCheck
  · rename_i x e
    rw [e] at hall
    simp only [e]
    obtain ⟨v', h1, h2⟩ := bnd_eq.1 h
    injection h2 with h2; injection h2 with h2 h3; subst h2; subst h3
    obtain ⟨k1, k2⟩ := nil_sound (hρ x (hall x (by simp [opsOf]))) h1
    refine ⟨_, ρ x, w, ?_, .inl rfl, Out.same hi k1⟩
    rcases k2 with ⟨ad, k2⟩ | ⟨g, cs, k2⟩ <;> simp [k2]
  -- binOp
  · rename_i op t x y ty e
    rw [e] at hall
    simp only [e]
    obtain ⟨r, h1, h2⟩ := bnd_eq.1 h
    injection h2 with h2; injection h2 with h2 h3; subst h2; subst h3
    obtain ⟨v', k1, k2⟩ := bin_sound (w := w) hC (hρ x (hall x (by simp [opsOf]))) (hρ y (hall y (by simp [opsOf]))) h1 x y
    refine ⟨_, _, w, ?_, .inl rfl, Out.same hi (.i k2)⟩
    rw [Sem.run_bind, k1]
    simp
  -- unOp
  · rename_i op ty x e
    rw [e] at hall
    simp only [e]
    obtain ⟨r, h1, h2⟩ := bnd_eq.1 h
    injection h2 with h2; injection h2 with h2 h3; subst h2; subst h3
    obtain ⟨v', k1, k2⟩ := un_sound (C := C) (w := w) (hρ x (hall x (by simp [opsOf]))) h1
    exact ⟨_, _, w, by simp [k1], .inl rfl, Out.same hi (.i k2)⟩
  -- convert
  · rename_i s d x e
    rw [e] at hall
    simp only [e]
    obtain ⟨r, h1, h2⟩ := bnd_eq.1 h
    injection h2 with h2; injection h2 with h2 h3; subst h2; subst h3
    obtain ⟨v', k1, k2⟩ := conv_sound (C := C) (w := w) (hρ x (hall x (by simp [opsOf]))) h1
    exact ⟨_, _, w, by simp [k1], .inl rfl, Out.same hi k2⟩
  -- makeSlice
  · rename_i t l c e
    rw [e] at hall
    simp only [e]
    obtain ⟨y, w', k1, k2⟩ := make_sound hC.zeros hi hf (hρ l (hall l (by simp [opsOf]))) (hρ c (hall c (by simp [opsOf]))) h
    exact ⟨_, _, w', by simp [k1], .inl rfl, k2⟩
  -- slice
  · rename_i t x lo hi' e
    rw [e] at hall
    simp only [e]
    obtain ⟨r, h1, h2⟩ := bnd_eq.1 h
    injection h2 with h2; injection h2 with h2 h3; subst h2; subst h3
    have q : ∀ (l : Option Operand), (∀ x ∈ l.toList, opdOk x = true) → (∀ a, evO env l = some a → ∃ x, l.map ρ = some x ∧ Rep m φ a x) ∧ (evO env l = none → l.map ρ = none) := by
      intro l hl
      cases l with
      | none => exact ⟨fun a h => (by cases h), fun _ => rfl⟩
      | some x => exact ⟨fun a h => (by injection h with h; subst h; exact ⟨_, rfl, hρ x (hl x (by simp))⟩), fun h => (by cases h)⟩
    obtain ⟨q1, q2⟩ := q lo fun x hx => hall x (by simp [opsOf] at hx ⊢; simp [hx])
    obtain ⟨q3, q4⟩ := q hi' fun x hx => hall x (by simp [opsOf] at hx ⊢; simp [hx])
    obtain ⟨v', k1, k2⟩ := slice_sound (C := C) (w := w) (hρ x (hall x (by simp [opsOf]))) q1 q2 q3 q4 h1
    exact ⟨_, _, w, by simp [k1], .inl rfl, Out.same hi k2⟩
  -- fieldAddr
  · rename_i s x f e
    rw [e] at hall
    simp only [e]
    obtain ⟨p, h1, h2⟩ := bnd_eq.1 h
    obtain ⟨n, h3, h4⟩ := bnd_eq.1 h2
    obtain ⟨h5, h6⟩ := tst_eq.1 h4
    obtain ⟨r, h7, h8⟩ := bnd_eq.1 h6
    injection h8 with h8; injection h8 with h8 h9; subst h8; subst h9
    obtain ⟨v', k1, k2⟩ := fieldAddr_sound (w := w) (hρ x (hall x (by simp [opsOf]))) h1 h3 (of_decide_eq_true h5) h7
    exact ⟨_, _, w, by simp [k1], .inl rfl, Out.same hi k2⟩
  -- field
  · rename_i s x f e
    rw [e] at hall
    simp only [e]
    obtain ⟨p, h1, h2⟩ := bnd_eq.1 h
    obtain ⟨n, h3, h4⟩ := bnd_eq.1 h2
    obtain ⟨g, h5, h6⟩ := bnd_eq.1 h4
    obtain ⟨r, h7, h8⟩ := bnd_eq.1 h6
    injection h8 with h8; injection h8 with h8 h9; subst h8; subst h9
    obtain ⟨v', k1, k2⟩ := field_sound (w := w) (hρ x (hall x (by simp [opsOf]))) h1 h3 h5 h7
    exact ⟨_, _, w, by simp [k1], .inl rfl, Out.same hi k2⟩
  -- indexAddr
  · rename_i t x ix e
    rw [e] at hall
    simp only [e]
    obtain ⟨r, h1, h2⟩ := bnd_eq.1 h
    injection h2 with h2; injection h2 with h2 h3; subst h2; subst h3
    obtain ⟨v', k1, k2⟩ := indexAddr_sound (w := w) (hρ x (hall x (by simp [opsOf]))) (hρ ix (hall ix (by simp [opsOf]))) h1
    exact ⟨_, _, w, by simp [k1], .inl rfl, Out.same hi k2⟩
  -- index
  · rename_i t x ix e
    rw [e] at hall
    simp only [e]
    obtain ⟨r, h1, h2⟩ := bnd_eq.1 h
    injection h2 with h2; injection h2 with h2 h3; subst h2; subst h3
    obtain ⟨v', k1, k2⟩ := index_sound (w := w) (hρ x (hall x (by simp [opsOf]))) (hρ ix (hall ix (by simp [opsOf]))) h1
    exact ⟨_, _, w, by simp [k1], .inl rfl, Out.same hi k2⟩
  -- extract
  · rename_i x j e
    rw [e] at hall
    simp only [e]
    obtain ⟨r, h1, h2⟩ := bnd_eq.1 h
    injection h2 with h2; injection h2 with h2 h3; subst h2; subst h3
    obtain ⟨v', k1, k2⟩ := extract_sound (C := C) (w := w) (hρ x (hall x (by simp [opsOf]))) h1
    exact ⟨_, _, w, by simp [k1], .inl rfl, Out.same hi k2⟩
  -- makeFunc
  · rename_i f first cs e
    rw [e] at hall
    simp only [e]
    obtain ⟨h1, h2⟩ := tst_eq.1 h
    obtain ⟨v1, h0, h2⟩ := bnd_eq.1 h2
    injection h2 with h2; injection h2 with h2 h3; subst h2; subst h3
    unfold mkFnA at h0
    split at h0
    case h_2 => cases h0
    rename_i f
    injection h0 with h0; subst h0
    have hfst : first = #[] := by
      apply Array.ext'
      simpa [List.isEmpty_iff] using h1
    subst hfst
    have hc := evL_rep hρ (l := cs.toList) fun x hx => hall x (by simpa [opsOf] using hx)
    have := Rep.fn (f := f) hc
    exact ⟨_, .func (.func f) #[] (cs.map ρ), w, by simp [Instr.makeFunc], .inl rfl, Out.same hi (by rw [show cs.map ρ = (cs.toList.map ρ).toArray from Array.ext' (by simp)]; exact this)⟩
  -- builtins
  · rename_i b args ts e
    rw [e] at hall
    simp only [e]
    have hargs := evL_rep hρ (l := args.toList) fun x hx => hall x (show x ∈ args.toList from hx)
    have hres : resolve ρ { callee := .builtin b, args := args, argTypes := ts } o.type = pure { target := .builtin b ts o.type (args.map fun | .const _ => true | _ => false), args := args.map ρ } := rfl
    rw [hres]
    have hmap : args.map ρ = (args.toList.map ρ).toArray := Array.ext' (by simp)
    unfold builtinA at h
    split at h
    · rename_i t x ets eargs
      rw [eargs] at hargs
      obtain ⟨n, h1, h2⟩ := bnd_eq.1 h
      injection h2 with h2; injection h2 with h2 h3; subst h2; subst h3
      obtain ⟨xv, hv, hx⟩ := args1 hargs
      have hts : ts = #[t] := by apply Array.ext'; simpa using ets
      refine ⟨_, goInt n, w, ?_, .inl rfl, Out.same hi (.i (.lit _))⟩
      rw [hmap, hv, hts]
      simp [invoke, builtin, len_sound (C := C) (w := w) (ty := o.type) hx h1]
    · rename_i t u s x ets eargs
      rw [eargs] at hargs
      obtain ⟨h1, h2⟩ := tst_eq.1 h
      obtain ⟨sv, xv, hv, hs, hx⟩ := args2 hargs
      have hts : ts = #[t, u] := by apply Array.ext'; simpa using ets
      obtain ⟨y, w', k1, k2⟩ := append_sound (w := w) (ty := o.type) hC.zeros hi hs hx hf h1 h2
      refine ⟨_, _, w', ?_, .inl rfl, k2⟩
      rw [hmap, hv, hts]
      simp [invoke, builtin, k1]
    · rename_i t u d x ets eargs
      rw [eargs] at hargs
      obtain ⟨dv, xv, hv, hd, hx⟩ := args2 hargs
      have hts : ts = #[t, u] := by apply Array.ext'; simpa using ets
      obtain ⟨y, w', k1, k2⟩ := copy_sound (C := C) (w := w) (u := u) (ty := o.type) (nb := nb) hi hd hx h
      refine ⟨_, _, w', ?_, .inl rfl, k2⟩
      rw [hmap, hv, hts]
      simp [invoke, builtin, k1]
    · obtain ⟨r, h1, h2⟩ := bnd_eq.1 h
      injection h2 with h2; injection h2 with h2 h3; subst h2; subst h3
      obtain ⟨y, k1, k2⟩ := min_sound (C := C) (w := w) (ts := ts) (ty := o.type) hargs h1
      refine ⟨_, _, w, ?_, .inl rfl, Out.same hi k2⟩
      rw [hmap]
      simp [invoke, builtin, k1]
    · obtain ⟨r, h1, h2⟩ := bnd_eq.1 h
      injection h2 with h2; injection h2 with h2 h3; subst h2; subst h3
      obtain ⟨y, k1, k2⟩ := max_sound (C := C) (w := w) (ts := ts) (ty := o.type) hargs h1
      refine ⟨_, _, w, ?_, .inl rfl, Out.same hi k2⟩
      rw [hmap]
      simp [invoke, builtin, k1]
    · cases h
  · cases h
end
end Go.Av

/- Renaming blocks, and a call of a function. No condition. -/
namespace Go.Av

/-! ### Renaming -/
def Ren (r : Nat → Option Nat) (φ ψ : Pl) : Prop := ∀ id j p, r id = some j → φ id = some p → ψ j = some p
mutual
theorem Rep.ren {m : Mem} {φ ψ : Pl} {r : Nat → Option Nat} (hr : Ren r φ ψ) {v : AV} {x : Value} : Rep m φ v x → Rep m ψ (ren r v) x
  | .junk v => .junk v
  | .nils => .nils
  | .i a => .i a
  | .own (id := id) e => by
    unfold Av.ren
    cases h : r id with
    | none => exact .junk _
    | some j => exact .own (hr _ _ _ h e)
  | .ownE (id := id) e => by
    unfold Av.ren
    cases h : r id with
    | none => exact .junk _
    | some j => exact .ownE (hr _ _ _ h e)
  | .osl (id := id) e a b c d => by
    unfold Av.ren
    cases h : r id with
    | none => exact .junk _
    | some j => exact .osl (hr _ _ _ h e) a b c d
  | .agg c => .agg (RepC.ren hr c)
  | .tup c => .tup (RepL.ren hr c)
  | .fn c => .fn (RepL.ren hr c)
  | .yld (id := id) e => by
    simp only [Av.ren, renL]
    cases h : r id with
    | none => exact .ydead _
    | some j => exact .yld (hr _ _ _ h e)
  | .ydead b => .ydead b
theorem RepL.ren {m : Mem} {φ ψ : Pl} {r : Nat → Option Nat} (hr : Ren r φ ψ) {cs : List AV} {vs : List Value} : RepL m φ cs vs → RepL m ψ (renL r cs) vs
  | .nil => .nil
  | .cons a b => .cons (Rep.ren hr a) (RepL.ren hr b)
theorem RepC.ren {m : Mem} {φ ψ : Pl} {r : Nat → Option Nat} (hr : Ren r φ ψ) {cs : List AV} {vs : List Value} : RepC m φ cs vs → RepC m ψ (renL r cs) vs
  | .nil => .nil
  | .cons a o b => .cons (Rep.ren hr a) o (RepC.ren hr b)
end
theorem envZ_ren (r : Nat → Option Nat) (t : Nat) : ∀ (ts : List Nat) (cs : List AV), envOf (envZ ts (renL r cs)) t = Av.ren r (envOf (envZ ts cs) t)
  | [], _ => by simp [envZ, envOf, Av.ren]
  | _ :: _, [] => by simp [envZ, envOf, Av.ren, renL]
  | u :: ts, c :: cs => by
    simp only [renL, envZ, envOf]
    by_cases e : t = u
    · simp [e]
    · simp only [e, if_false]; exact envZ_ren r t ts cs
theorem BlkOk.ren {w : World} {m : Mem} {φ ψ : Pl} {r : Nat → Option Nat} (hr : Ren r φ ψ) {b : Nat} {n : Ext} {o : Option Blk} {blk : Blk} (h : ∀ c, o = some c → BlkOk w m φ b n c) (e : renB r o = some blk) : BlkOk w m ψ b n blk := by
  unfold renB at e
  split at e
  · injection e with e; subst e
    cases h _ rfl with
    | box h1 h2 h3 h4 => exact .box h1 h2 (h3.ren hr) h4
  · injection e with e; subst e
    cases h _ rfl with
    | arr h1 h2 h3 h4 h5 h6 h7 h8 h9 => exact .arr h1 h2 h3 h4 h5 h6 h7 h8 h9
  · injection e with e; subst e
    cases h _ rfl with
    | frz h1 h2 => exact .frz h1 h2
  · injection e with e; subst e
    cases h _ rfl with
    | fbox h1 => exact .fbox h1
  · injection e with e; subst e
    cases h _ rfl with
    | tre h1 h2 h3 h4 h5 h6 h7 h8 h9 => exact .tre h1 h2 h3 h4 h5 h6 h7 h8 h9
  · injection e with e; subst e
    cases h _ rfl with
    | loop h1 h2 h3 h4 h5 h6 => exact .loop h1 h2 h3 h4 (fun t => by rw [envZ_ren]; exact (h5 t).ren hr) h6
  · cases e
theorem renB_some {r : Nat → Option Nat} {o : Option Blk} {blk : Blk} (e : renB r o = some blk) : ∃ c, o = some c := by
  cases o with
  | none => simp [renB] at e
  | some c => exact ⟨c, rfl⟩

theorem posFrom_spec : ∀ (ids : List Nat) (n i j : Nat), posFrom n ids i = some j → n ≤ j ∧ ids[j - n]? = some i
  | [], n, i, j, h => by simp [posFrom] at h
  | a :: ids, n, i, j, h => by
    simp only [posFrom] at h
    split at h
    · rename_i e; injection h with h; subst h; subst e; simp
    · obtain ⟨h1, h2⟩ := posFrom_spec ids (n + 1) i j h
      refine ⟨by omega, ?_⟩
      rw [show j - n = (j - (n + 1)) + 1 by omega]
      simpa using h2
theorem posOf_spec {ids : List Nat} {i j : Nat} (h : posOf ids i = some j) : ids[j]? = some i := by
  have := (posFrom_spec ids 0 i j h).2
  simpa using this
theorem posFrom_at : ∀ (ids : List Nat) (n i k : Nat), ids.Nodup → ids[k]? = some i → posFrom n ids i = some (n + k)
  | [], n, i, k, _, h => by simp at h
  | a :: ids, n, i, 0, _, h => by simp at h; subst h; simp [posFrom]
  | a :: ids, n, i, k + 1, hd, h => by
    have hk : ids[k]? = some i := by simpa using h
    have hne : i ≠ a := fun e => by
      subst e
      exact (List.nodup_cons.1 hd).1 (List.mem_of_getElem? hk)
    simp only [posFrom, hne, if_false]
    rw [posFrom_at ids (n + 1) i k (List.nodup_cons.1 hd).2 hk]
    congr 1; omega
theorem posOf_at {ids : List Nat} {i k : Nat} (hd : ids.Nodup) (h : ids[k]? = some i) : posOf ids i = some k := by
  have := posFrom_at ids 0 i k hd h
  simpa [posOf] using this
theorem posFrom_none : ∀ {ids : List Nat} {n i : Nat}, posFrom n ids i = none → i ∉ ids
  | [], _, _, _ => by simp
  | a :: ids, n, i, h => by
    simp only [posFrom] at h
    split at h
    · cases h
    · rename_i hne
      have := posFrom_none h
      simp [hne, this]
theorem hasId_iff {l : List Nat} {i : Nat} : hasId l i = true ↔ i ∈ l := by
  induction l with
  | nil => simp [hasId]
  | cons a l ih =>
    simp only [hasId]
    split
    · rename_i e; simp [e]
    · rename_i e; simp [e, ih]
theorem reach_nodup (st : Store) : ∀ (n : Nat) (todo seen : List Nat), seen.Nodup → (reach st n todo seen).Nodup
  | 0, _, _, h => by simpa [reach] using h
  | _ + 1, [], _, h => by simpa [reach] using h
  | n + 1, i :: todo, seen, h => by
    simp only [reach]
    split
    · exact reach_nodup st n _ _ h
    · rename_i hn
      refine reach_nodup st n _ _ ?_
      have hni : i ∉ seen := fun hm => hn (hasId_iff.2 hm)
      rw [List.nodup_append]
      refine ⟨h, by simp, ?_⟩
      intro a ha b hb
      simp at hb
      subst hb
      exact fun e => hni (e ▸ ha)
theorem reach_prefix (st : Store) : ∀ (n : Nat) (todo seen : List Nat), ∃ l, reach st n todo seen = seen ++ l
  | 0, _, seen => ⟨[], by simp [reach]⟩
  | _ + 1, [], seen => ⟨[], by simp [reach]⟩
  | n + 1, i :: todo, seen => by
    simp only [reach]
    split
    · exact reach_prefix st n _ _
    · obtain ⟨l, h⟩ := reach_prefix st n (idsOfB (st i) ++ todo) (seen ++ [i])
      exact ⟨i :: l, by rw [h]; simp⟩
theorem upto_eq (n : Nat) : upto n = List.range n := by
  induction n with
  | zero => rfl
  | succ n ih => rw [upto, ih, List.range_succ]
theorem keepIds_nodup (st : Store) (na : Nat) (vs : List AV) : (keepIds st na vs).Nodup := reach_nodup st _ _ _ (by rw [upto_eq]; exact List.nodup_range)
theorem keepIds_at (st : Store) (na : Nat) (vs : List AV) {j : Nat} (h : j < na) : (keepIds st na vs)[j]? = some j := by
  obtain ⟨l, hl⟩ := reach_prefix st fuelR (idsOfBs st (upto na) ++ idsOfL vs) (upto na)
  unfold keepIds
  rw [hl, upto_eq, List.getElem?_append_left (by simpa using h)]
  simp [List.getElem?_range h]
theorem keepIds_len (st : Store) (na : Nat) (vs : List AV) : na ≤ (keepIds st na vs).length := by
  obtain ⟨l, hl⟩ := reach_prefix st fuelR (idsOfBs st (upto na) ++ idsOfL vs) (upto na)
  unfold keepIds
  rw [hl, upto_eq]
  simp
theorem takeSt_len (r : Nat → Option Nat) (st : Store) : ∀ (ids : List Nat), (takeSt r st ids).length = ids.length
  | [] => rfl
  | _ :: ids => by simp [takeSt, takeSt_len r st ids]
theorem stOf_get : ∀ (l : StL) (j : Nat), stOf l j = (l[j]?).join
  | [], j => by simp [stOf]
  | b :: l, 0 => by simp [stOf]
  | b :: l, j + 1 => by simp [stOf, stOf_get l j]
theorem stOf_take (r : Nat → Option Nat) (st : Store) : ∀ (ids : List Nat) (j : Nat), stOf (takeSt r st ids) j = (ids[j]?).bind fun i => renB r (st i)
  | [], j => by simp [takeSt, stOf]
  | i :: ids, 0 => by simp [takeSt, stOf]
  | i :: ids, j + 1 => by simp [takeSt, stOf, stOf_take r st ids j]
theorem renL_at (r : Nat → Option Nat) : ∀ (l : List AV), (renL r l).length = l.length
  | [] => rfl
  | _ :: l => by simp [renL, renL_at r l]

/-- Where the kept blocks lie, in their new numbers. -/
def keepP (ids : List Nat) (φ : Pl) : Pl := fun j => (ids[j]?).bind φ
theorem keepP_ren (ids : List Nat) (φ : Pl) : Ren (posOf ids) φ (keepP ids φ) := fun id j p h e => by
  simp [keepP, posOf_spec h, e]
theorem Inv.keep {w : World} {m : Mem} {φ : Pl} {st : Store} (h : Inv w m φ st) {ids : List Nat} (hd : ids.Nodup) : Inv w m (keepP ids φ) (stOf (takeSt (posOf ids) st ids)) := by
  have key : ∀ j blk, stOf (takeSt (posOf ids) st ids) j = some blk → ∃ i, ids[j]? = some i ∧ renB (posOf ids) (st i) = some blk := by
    intro j blk e
    rw [stOf_take] at e
    cases hi : ids[j]? with
    | none => rw [hi] at e; cases e
    | some i => rw [hi] at e; exact ⟨i, rfl, e⟩
  refine ⟨h.mem, ?_, ?_, fun j b n f p1 o1 => ?_⟩
  · intro j blk e
    obtain ⟨i, h1, h2⟩ := key j blk e
    obtain ⟨c, hc⟩ := renB_some h2
    obtain ⟨b, n, h3, h4, h5⟩ := h.live i c hc
    refine ⟨b, n, by simp [keepP, h1, h3], h4, BlkOk.ren (keepP_ren ids φ) (fun c' e' => ?_) h2⟩
    rw [hc] at e'; injection e' with e'; subst e'; exact h5
  · intro j j' b b2 n n' blk blk' f e1 e2 p1 p2 o1 o2
    obtain ⟨i, h1, h2⟩ := key j blk e1
    obtain ⟨i', h1', h2'⟩ := key j' blk' e2
    obtain ⟨c, hc⟩ := renB_some h2
    obtain ⟨c', hc'⟩ := renB_some h2'
    simp only [keepP, h1, Option.bind_some] at p1
    simp only [keepP, h1', Option.bind_some] at p2
    have := h.inj i i' b b2 n n' c c' f hc hc' p1 p2 o1 o2
    subst this
    have a1 := posOf_at hd h1
    have a2 := posOf_at hd h1'
    rw [a1] at a2
    injection a2
  · cases hi : ids[j]? with
    | none => simp [keepP, hi] at p1
    | some i => simp only [keepP, hi, Option.bind_some] at p1; exact h.low i b n f p1 o1
theorem Adv.keep {w0 w : World} {m0 m : Mem} {φ0 φ : Pl} (h : Adv w0 m0 φ0 w m φ) {ids : List Nat} {na : Nat} (h0 : ∀ id, φ0 id ≠ none → id < na) (hk : ∀ j, j < na → ids[j]? = some j) : Adv w0 m0 φ0 w m (keepP ids φ) := by
  refine ⟨h.size, h.os, h.tape, h.output, h.block, h.mle, h.mnew, ?_, ?_⟩
  · intro id b n e
    have h1 := hk id (h0 id (by rw [e]; simp))
    simp only [keepP, h1, Option.bind_some]
    exact h.ple _ _ _ e
  · intro id b n f h2 ho
    cases hi : ids[id]? with
    | none => simp [keepP, hi] at h2
    | some i =>
      simp only [keepP, hi, Option.bind_some] at h2
      exact h.pnew i b n f h2 ho

/-! ### A call -/
section
variable {C : Ctx}
/-- What the callee leaves. -/
def CallPost (w : World) (m : Mem) (φ : Pl) (r : AV) (stl' : StL) (e : Ending) (w' : World) : Prop :=
  ∃ v m' φ', e = .returned v ∧ Rep m' φ' r v ∧ Inv w' m' φ' (stOf stl') ∧ Adv w m φ w' m' φ' ∧ ∀ id, φ' id ≠ none → id < stl'.length
/-- The answers of 'call' are right. -/
structure CallOk (C : Ctx) (call : CallF) : Prop where
  name : ∀ g args stl p, g ≠ yldF → call g args stl = some p → ∃ fn, C.P.funcs[g]? = some fn ∧ fn.name ≠ "runtime.NumGoroutine" ∧ fn.body.isSome = true
  calls : ∀ g args stl r stl', g ≠ yldF → call g args stl = some (r, stl') → ∀ (w : World) (m : Mem) (φ : Pl) (vs : List Value), Inv w m φ (stOf stl) → RepL m φ args vs → (∀ id, φ id ≠ none → id < stl.length) →
    Calls C.P g vs.toArray w (CallPost w m φ r stl')
  rounds : ∀ args stl r stl', call yldF args stl = some (r, stl') → ∀ (w : World) (m : Mem) (φ : Pl) (vs : List Value), Inv w m φ (stOf stl) → RepL m φ args vs → (∀ id, φ id ≠ none → id < stl.length) →
    ∃ l us, vs = .func (.yield l) #[] #[] :: us ∧ YieldAt Fence.wide 0 C.P l us.toArray w (CallPost w m φ r stl')

theorem argVal_sound {w : World} {m : Mem} {φ : Pl} {st st1 : Store} {v u : AV} {x : Value} (hi : Inv w m φ st) (hr : Rep m φ v x) (h : argVal st v = some (u, st1)) :
    ∃ m1, Rep m1 φ u x ∧ Inv w m1 φ st1 ∧ Adv w m φ w m1 φ := by
  unfold argVal at h
  split at h
  · injection h with h; injection h with h1 h2; subst h1; subst h2; exact ⟨m, hr, hi, .refl _ _ _⟩
  · injection h with h; injection h with h1 h2; subst h1; subst h2; exact ⟨m, hr, hi, .refl _ _ _⟩
  · obtain ⟨p, h1, h2⟩ := bnd_eq.1 h
    injection h2 with h2; injection h2 with h2 h3; subst h2; subst h3
    obtain ⟨m1, k1, k2, k3⟩ := frzV_sound hi hr (show frzV st _ = some (p.1, p.2) from h1)
    exact ⟨m1, .i k1, k2, k3⟩
theorem argsVal_sound {w : World} : ∀ {args us : List AV} {m : Mem} {φ : Pl} {st st1 : Store} {vs : List Value}, Inv w m φ st → RepL m φ args vs → argsVal st args = some (us, st1) →
    ∃ m1, RepL m1 φ us vs ∧ Inv w m1 φ st1 ∧ Adv w m φ w m1 φ
  | [], us, m, φ, st, st1, _, hi, .nil, h => by
    simp [argsVal] at h; obtain ⟨rfl, rfl⟩ := h; exact ⟨m, .nil, hi, .refl _ _ _⟩
  | v :: args, us, m, φ, st, st1, _, hi, .cons a b, h => by
    simp only [argsVal] at h
    obtain ⟨p, h1, h2⟩ := bnd_eq.1 h
    obtain ⟨q, h3, h4⟩ := bnd_eq.1 h2
    injection h4 with h4; injection h4 with h4 h5; subst h4; subst h5
    obtain ⟨m1, k1, k2, k3⟩ := argVal_sound hi a (show argVal st v = some (p.1, p.2) from h1)
    obtain ⟨m2, j1, j2, j3⟩ := argsVal_sound k2 (b.mono k3.mle (.refl _)) (show argsVal p.2 args = some (q.1, q.2) from h3)
    exact ⟨m2, .cons (k1.mono j3.mle (.refl _)) j1, j2, k3.trans j3⟩
theorem liveAll_spec {st : Store} : ∀ {ids : List Nat}, liveAll st ids = true → ∀ i ∈ ids, ∃ c, st i = some c
  | [], _ => by simp
  | i :: ids, h => by
    simp only [liveAll, Bool.and_eq_true] at h
    intro j hj
    rcases List.mem_cons.1 hj with rfl | hj
    · cases hs : st j with
      | none => rw [hs] at h; simp [liveO] at h
      | some c => exact ⟨c, rfl⟩
    · exact liveAll_spec h.2 j hj
theorem backOf_spec : ∀ (ids : List Nat) (nb j : Nat), backOf ids nb j = if j < ids.length then ids[j]? else some (nb + (j - ids.length))
  | [], nb, j => by simp [backOf]
  | i :: ids, nb, 0 => by simp [backOf]
  | i :: ids, nb, j + 1 => by
    rw [backOf, backOf_spec ids nb j]
    simp
theorem putBack_spec (r : Nat → Option Nat) (st : Store) : ∀ (ids : List Nat) (stl : StL) (nb : Nat) (id : Nat), ids.Nodup →
    putBack r st nb ids stl id = match posOf ids id with
      | some j => if j < stl.length then renB r (stOf stl j) else st id
      | none => if nb ≤ id ∧ id - nb + ids.length < stl.length then renB r (stOf stl (id - nb + ids.length)) else st id := by
  intro ids stl
  induction stl generalizing ids with
  | nil => intro nb id _; cases ids <;> simp [putBack] <;> split <;> simp
  | cons b bs ih =>
    intro nb id hd
    cases ids with
    | nil =>
      simp only [putBack, upd]
      have h0 : posOf [] id = none := rfl
      rw [h0]
      by_cases e : id = nb
      · subst e; simp [stOf]
      · simp only [e, if_false]
        rw [ih [] (nb + 1) id (by simp), h0]
        simp only [List.length_nil, Nat.add_zero, List.length_cons]
        by_cases h1 : nb + 1 ≤ id
        · have h2 : id - nb = (id - (nb + 1)) + 1 := by omega
          rw [h2]
          simp only [stOf]
          by_cases h3 : id - (nb + 1) < bs.length
          · rw [if_pos ⟨h1, h3⟩, if_pos ⟨by omega, by omega⟩]
          · rw [if_neg (by omega), if_neg (by omega)]
        · rw [if_neg (by omega), if_neg (by omega)]
    | cons i ids =>
      simp only [putBack, upd]
      have hd' := List.nodup_cons.1 hd
      by_cases e : id = i
      · subst e
        simp [posOf, posFrom, stOf]
      · simp only [e, if_false]
        rw [ih ids nb id hd'.2]
        cases hp : posOf ids id with
        | none =>
          have h1 : posOf (i :: ids) id = none := by
            cases h2 : posOf (i :: ids) id with
            | none => rfl
            | some j =>
              have h3 := posOf_spec h2
              cases j with
              | zero => simp at h3; exact absurd h3.symm e
              | succ j =>
                have h4 : ids[j]? = some id := by simpa using h3
                rw [posOf_at hd'.2 h4] at hp; cases hp
          rw [h1]
          simp only [List.length_cons]
          by_cases h3 : nb ≤ id ∧ id - nb + ids.length < bs.length
          · rw [if_pos h3, if_pos ⟨h3.1, by omega⟩]
            rw [show id - nb + (ids.length + 1) = (id - nb + ids.length) + 1 by omega]
            simp [stOf]
          · rw [if_neg h3, if_neg (by omega)]
        | some j =>
          have h1 : posOf (i :: ids) id = some (j + 1) := posOf_at hd (by simpa using posOf_spec hp)
          rw [h1]
          simp only [List.length_cons, stOf]
          by_cases h3 : j < bs.length
          · rw [if_pos h3, if_pos (by omega)]
          · rw [if_neg h3, if_neg (by omega)]
/-- Where the blocks lie when the callee has come back. -/
def backP (ids : List Nat) (nb : Nat) (φ φ' : Pl) : Pl := fun id =>
  match posOf ids id with
  | some j => φ' j
  | none => if nb ≤ id ∧ id < nb + wide then φ' (id - nb + ids.length) else φ id
theorem posOf_none {ids : List Nat} {i : Nat} (h : posOf ids i = none) : i ∉ ids := posFrom_none h
theorem callBack_sound {w w' : World} {m m' : Mem} {φ φ' : Pl} {st st' : Store} {nb : Nat} {ids : List Nat} {r v : AV} {stl' : StL} {y : Value} (hi : Inv w m φ st) (hf : ∀ id, nb ≤ id → id < nb + wide → φ id = none)
    (hd : ids.Nodup) (hlive : ∀ i ∈ ids, ∃ c, st i = some c)
    (hr : Rep m' φ' r y) (hi' : Inv w' m' φ' (stOf stl')) (ha : Adv w m (keepP ids φ) w' m' φ') (hb : ∀ id, φ' id ≠ none → id < stl'.length)
    (h : callBack ids st nb r stl' = some (v, st')) : Out w m φ nb v st' y w' := by
  unfold callBack at h
  obtain ⟨h1, h2⟩ := tst_eq.1 h
  obtain ⟨hl1, hl2⟩ := of_decide_eq_true h1
  injection h2 with h2; injection h2 with h2 h3; subst h2; subst h3
  have hlt : ∀ i ∈ ids, ¬ (nb ≤ i ∧ i < nb + wide) := fun i hm hh => by
    obtain ⟨c, hc⟩ := hlive i hm
    obtain ⟨b, n, e, _⟩ := hi.live _ _ hc
    rw [hf i hh.1 hh.2] at e; cases e
  -- the callee's blocks, in the caller's numbers
  have hren : Ren (backOf ids nb) φ' (backP ids nb φ φ') := by
    intro j id p e1 e2
    rw [backOf_spec] at e1
    split at e1
    · unfold backP
      rw [posOf_at hd e1]
      exact e2
    · rename_i hj
      injection e1 with e1
      have hjl := hb j (by rw [e2]; simp)
      have hnone : posOf ids id = none := by
        cases hp : posOf ids id with
        | none => rfl
        | some k => exact absurd ⟨by omega, by omega⟩ (hlt id (List.mem_of_getElem? (posOf_spec hp)))
      unfold backP
      rw [hnone]
      simp only
      rw [if_pos ⟨by omega, by omega⟩, show id - nb + ids.length = j by omega]
      exact e2
  have hple : PLe φ (backP ids nb φ φ') := by
    intro id b n e
    unfold backP
    cases hp : posOf ids id with
    | some j =>
      simp only
      refine ha.ple j b n ?_
      simp [keepP, posOf_spec hp, e]
    | none =>
      simp only
      rw [if_neg fun hh => by have := hf id hh.1 hh.2; rw [this] at e; cases e]
      exact ⟨n, e, rfl, fun _ h => h⟩
  have hout : ∀ b, Free φ b → Free (keepP ids φ) b := by
    intro b hn j r n e
    unfold keepP at e
    cases hi : ids[j]? with
    | none => rw [hi] at e; cases e
    | some i => rw [hi] at e; exact hn _ _ _ e
  have hadv : Adv w m φ w' m' (backP ids nb φ φ') := by
    refine ⟨ha.size, ha.os, ha.tape, ha.output, fun b hb' hn => ha.block b hb' (hout b hn), ha.mle, fun b hb' hn => ha.mnew b hb' (hout b hn), hple, ?_⟩
    intro id b n f e2 ho
    unfold backP at e2
    have fin : ∀ j, φ' j = some (b, n) → w.heap.size ≤ f ∨ ¬ Free φ f := by
      intro j q1
      rcases ha.pnew j b n f q1 ho with q | q
      · exact .inl q
      · exact .inr fun hh => q (hout f hh)
    cases hp : posOf ids id with
    | some j =>
      rw [hp] at e2
      exact fin j e2
    | none =>
      rw [hp] at e2
      simp only at e2
      split at e2
      · exact fin _ e2
      · exact .inr (Free.not e2 ho)
  -- which blocks live
  have hcase : ∀ id blk, putBack (backOf ids nb) st nb ids stl' id = some blk →
      (∃ j c, stOf stl' j = some c ∧ renB (backOf ids nb) (some c) = some blk ∧ backP ids nb φ φ' id = φ' j ∧ backOf ids nb j = some id) ∨ (posOf ids id = none ∧ st id = some blk ∧ backP ids nb φ φ' id = φ id) := by
    intro id blk e
    rw [putBack_spec _ _ _ _ _ _ hd] at e
    cases hp : posOf ids id with
    | some j =>
      rw [hp] at e
      have hjl : j < ids.length := (List.getElem?_eq_some_iff.1 (posOf_spec hp)).1
      simp only [show j < stl'.length by omega, if_true] at e
      obtain ⟨c, hc⟩ := renB_some e
      refine .inl ⟨j, c, hc, by rw [← hc]; exact e, by simp [backP, hp], ?_⟩
      rw [backOf_spec, if_pos hjl]
      exact posOf_spec hp
    | none =>
      rw [hp] at e
      simp only at e
      split at e
      · rename_i hh
        obtain ⟨c, hc⟩ := renB_some e
        refine .inl ⟨_, c, hc, by rw [← hc]; exact e, ?_, ?_⟩
        · simp only [backP, hp]
          rw [if_pos ⟨hh.1, by omega⟩]
        · rw [backOf_spec, if_neg (by omega)]
          congr 1; omega
      · refine .inr ⟨rfl, e, ?_⟩
        simp only [backP, hp]
        split
        · rename_i hh
          obtain ⟨b, n, q, _⟩ := hi.live _ _ e
          rw [hf id hh.1 hh.2] at q; cases q
        · rfl
  -- a block of the callee is none of those that it did not get
  have hapart : ∀ id blk, posOf ids id = none → st id = some blk → ∀ b n f, φ id = some (b, n) → n.own f → Free (keepP ids φ) f := by
    intro id blk h1 h2 b n f h3 ho j r n' e ho'
    unfold keepP at e
    cases hi' : ids[j]? with
    | none => rw [hi'] at e; cases e
    | some i =>
      rw [hi'] at e
      obtain ⟨c, hc⟩ := hlive i (List.mem_of_getElem? hi')
      have := hi.inj id i b r n n' blk c f h2 hc h3 e ho ho'
      subst this
      exact posOf_none h1 (List.mem_of_getElem? hi')
  refine ⟨m', backP ids nb φ φ', hr.ren hren, ⟨hi'.mem, ?_, ?_, ?_⟩, hadv, ?_⟩
  · intro id blk e
    rcases hcase id blk e with ⟨j, c, h1, h2, h3, _⟩ | ⟨h1, h2, h3⟩
    · obtain ⟨b, n, q1, q2, q3⟩ := hi'.live j c h1
      exact ⟨b, n, by rw [h3]; exact q1, q2, BlkOk.ren hren (fun c' e' => by injection e' with e'; subst e'; exact q3) h2⟩
    · obtain ⟨b, n, q1, q2, q3⟩ := hi.live id blk h2
      have hap := fun f hf => hapart id blk h1 h2 b n f q1 hf
      exact ⟨b, n, by rw [h3]; exact q1, ⟨q2.1, fun f hf => Nat.lt_of_lt_of_le (q2.2 f hf) ha.size⟩, q3.mono q2.1 (fun f hf => ha.block f (q2.2 f hf) (hap f hf)) ha.mle hple (fun f hf => ha.mnew f (q2.2 f hf) (hap f hf))⟩
  · intro id id' b b' n n' blk blk' f e1 e2 p1 p2 o1 o2
    rcases hcase id blk e1 with ⟨j, c, h1, h2, h3, h4⟩ | ⟨h1, h2, h3⟩
    · rcases hcase id' blk' e2 with ⟨j', c', h1', h2', h3', h4'⟩ | ⟨h1', h2', h3'⟩
      · rw [h3] at p1; rw [h3'] at p2
        have := hi'.inj j j' b b' n n' c c' f h1 h1' p1 p2 o1 o2
        subst this
        rw [h4] at h4'; injection h4'
      · exfalso
        rw [h3] at p1; rw [h3'] at p2
        exact ha.range ((blk_own hi p2 h2').1.2 f o2) (hapart id' blk' h1' h2' b' n' f p2 o2) j b n p1 o1
    · rcases hcase id' blk' e2 with ⟨j', c', h1', h2', h3', h4'⟩ | ⟨h1', h2', h3'⟩
      · exfalso
        rw [h3] at p1; rw [h3'] at p2
        exact ha.range ((blk_own hi p1 h2).1.2 f o1) (hapart id blk h1 h2 b n f p1 o1) j' b' n' p2 o2
      · rw [h3] at p1; rw [h3'] at p2
        exact hi.inj id id' b b' n n' blk blk' f h2 h2' p1 p2 o1 o2
  · intro id b n f p1 o1
    unfold backP at p1
    cases hp : posOf ids id with
    | some j => rw [hp] at p1; exact hi'.low j b n f p1 o1
    | none =>
      rw [hp] at p1
      simp only at p1
      split at p1
      · exact hi'.low _ b n f p1 o1
      · exact Nat.lt_of_lt_of_le (hi.low id b n f p1 o1) ha.size
  · intro id hne
    unfold backP at hne
    cases hp : posOf ids id with
    | some j =>
      obtain ⟨c, hc⟩ := hlive id (List.mem_of_getElem? (posOf_spec hp))
      obtain ⟨b, n, q, _⟩ := hi.live _ _ hc
      exact .inl (by rw [q]; simp)
    | none =>
      rw [hp] at hne
      simp only at hne
      split at hne
      · rename_i hh; exact .inr hh
      · exact .inl hne
theorem Out.adv {w w1 w' : World} {m m1 : Mem} {φ : Pl} {nb : Nat} {v : AV} {st' : Store} {y : Value} (ha : Adv w m φ w1 m1 φ) (h : Out w1 m1 φ nb v st' y w') : Out w m φ nb v st' y w' := by
  obtain ⟨m', φ', h1, h2, h3, h4⟩ := h
  exact ⟨m', φ', h1, h2, ha.trans h3, h4⟩
/-- What a call of the executor's is made of. -/
theorem callGo_parts {call : CallF} {w : World} {m : Mem} {φ : Pl} {st st' : Store} {nb : Nat} {own : Bool} {g : FuncId} {args : List AV} {vs : List Value} {v : AV} (hi : Inv w m φ st)
    (hf : ∀ id, nb ≤ id → id < nb + wide → φ id = none) (hargs : RepL m φ args vs) (h : callGo call own g args st nb = some (v, st')) :
    ∃ m1 φ1 args1 stl r stl', call g args1 stl = some (r, stl') ∧ Inv w m1 φ1 (stOf stl) ∧ RepL m1 φ1 args1 vs ∧ (∀ id, φ1 id ≠ none → id < stl.length) ∧
      ∀ e w', CallPost w m1 φ1 r stl' e w' → ∃ y, e = .returned y ∧ Out w m φ nb v st' y w' := by
  unfold callGo at h
  obtain ⟨p, h1, h2⟩ := bnd_eq.1 h
  have hfr : ∃ m1, RepL m1 φ p.1 vs ∧ Inv w m1 φ p.2 ∧ Adv w m φ w m1 φ := by
    cases own with
    | true =>
      simp only [argsFor, Option.some.injEq] at h1
      subst h1
      exact ⟨m, hargs, hi, .refl _ _ _⟩
    | false => exact argsVal_sound hi hargs (show argsVal st args = some (p.1, p.2) from h1)
  obtain ⟨m1, k1, k2, k3⟩ := hfr
  generalize hids : reach p.2 fuelR (idsOfL p.1) [] = ids at h2
  have hd : ids.Nodup := by rw [← hids]; exact reach_nodup _ _ _ _ (by simp)
  unfold callWith at h2
  obtain ⟨h3, h4⟩ := tst_eq.1 h2
  have hlive := liveAll_spec h3
  obtain ⟨q, h5, h6⟩ := bnd_eq.1 h4
  refine ⟨m1, keepP ids φ, _, _, q.1, q.2, h5, k2.keep hd, k1.ren (keepP_ren ids φ), ?_, ?_⟩
  · intro id hne
    rw [takeSt_len]
    unfold keepP at hne
    cases hx : ids[id]? with
    | none => rw [hx] at hne; exact absurd rfl hne
    | some i => exact (List.getElem?_eq_some_iff.1 hx).1
  · rintro e w' ⟨y, m', φ', rfl, j1, j2, j3, j4⟩
    exact ⟨y, rfl, (callBack_sound k2 hf hd hlive j1 j2 j3 j4 h6).adv k3⟩
theorem callGo_sound {call : CallF} (hcall : CallOk C call) {w : World} {m : Mem} {φ : Pl} {st st' : Store} {nb : Nat} {own : Bool} {g : FuncId} {args : List AV} {vs : List Value} {v : AV} (hg : g ≠ yldF) (hi : Inv w m φ st)
    (hf : ∀ id, nb ≤ id → id < nb + wide → φ id = none) (hargs : RepL m φ args vs) (h : callGo call own g args st nb = some (v, st')) :
    (∃ fn, C.P.funcs[g]? = some fn ∧ fn.name ≠ "runtime.NumGoroutine" ∧ fn.body.isSome = true) ∧ Calls C.P g vs.toArray w (fun e w' => ∃ y, e = .returned y ∧ Out w m φ nb v st' y w') := by
  obtain ⟨m1, φ1, args1, stl, r, stl', h1, h2, h3, h4, h5⟩ := callGo_parts hi hf hargs h
  exact ⟨hcall.name _ _ _ _ hg h1, (hcall.calls g _ _ r stl' hg h1 w m1 φ1 vs h2 h3 h4).mono h5⟩
theorem YieldAt.mono' {F : Fence} {n l : Nat} {P : Program} {args : Array Value} {W : World} {R R' : Ending → World → Prop} (h : YieldAt F n P l args W R) (k : ∀ e w, R e w → R' e w) : YieldAt F n P l args W R' := by
  obtain ⟨fn, tmps, asg, body, h1, h2⟩ := h
  exact ⟨fn, tmps, asg, body, h1, h2.mono k⟩
theorem callGo_round {call : CallF} (hcall : CallOk C call) {w : World} {m : Mem} {φ : Pl} {st st' : Store} {nb : Nat} {own : Bool} {args : List AV} {vs : List Value} {v : AV} (hi : Inv w m φ st)
    (hf : ∀ id, nb ≤ id → id < nb + wide → φ id = none) (hargs : RepL m φ args vs) (h : callGo call own yldF args st nb = some (v, st')) :
    ∃ l us, vs = .func (.yield l) #[] #[] :: us ∧ YieldAt Fence.wide 0 C.P l us.toArray w (fun e w' => ∃ y, e = .returned y ∧ Out w m φ nb v st' y w') := by
  obtain ⟨m1, φ1, args1, stl, r, stl', h1, h2, h3, h4, h5⟩ := callGo_parts hi hf hargs h
  obtain ⟨l, us, e, k⟩ := hcall.rounds _ _ r stl' h1 w m1 φ1 vs h2 h3 h4
  exact ⟨l, us, e, YieldAt.mono' k h5⟩
end
end Go.Av

/- One operation of a region, in the walk's form. No condition. -/
namespace Go.Av
/-- No fence but for the round that a frame is of. -/
def FR (ρ : Option Nat) : Fence := { Fence.wide with round := ρ }
theorem callsFR {ρ : Option Nat} {n : Nat} {P : Program} {f : FuncId} {args : Array Value} {w : World} {R : Ending → World → Prop} (h : Calls P f args w R) : CallsIn (FR ρ) n P f args w R := callsIn_wide.2 h
theorem roundFR {ρ : Option Nat} {n k l : Nat} {P : Program} {f : FuncId} {tmps : Array Value} {a b : Code} {w : World} {R : Ending → World → Prop} (h : RoundIn Fence.wide n P l f tmps a b w R) : RoundIn (FR ρ) k P l f tmps a b w R :=
  ⟨trivial, fun c cs _ => h.2 c cs (room_wide _)⟩
/-- Marks of loops over functions that have begun. -/
structure Marks (n0 : Nat) (φ : Pl) (w : World) (ds : List Deferred) : Prop where
  form : ∃ Ds : List Nat, ds = Ds.map (fun D => ({ target := .collected D, args := #[] } : Deferred)) ∧ Ds.Nodup ∧ ∀ D ∈ Ds, n0 ≤ D ∧ w.heap[D]? = some (.deferred (some [])) ∧ Free φ D
theorem Marks.nil (n0 : Nat) (φ : Pl) (w : World) : Marks n0 φ w [] := ⟨⟨[], rfl, List.nodup_nil, by simp⟩⟩
theorem Marks.adv {n0 : Nat} {w w' : World} {m m' : Mem} {φ φ' : Pl} {ds : List Deferred} (h : Marks n0 φ w ds) (k : Adv w m φ w' m' φ') : Marks n0 φ' w' ds := by
  obtain ⟨Ds, h1, h2, h3⟩ := h.form
  refine ⟨⟨Ds, h1, h2, fun D hD => ?_⟩⟩
  obtain ⟨a, b, c⟩ := h3 D hD
  have hlt : D < w.heap.size := (Array.getElem?_eq_some_iff.1 b).1
  exact ⟨a, (k.block D hlt c).trans b, k.range hlt c⟩
theorem Marks.same {n0 : Nat} {φ : Pl} {w w' : World} {ds : List Deferred} (h : Marks n0 φ w ds) (e : w'.heap = w.heap) : Marks n0 φ w' ds := by
  obtain ⟨Ds, h1, h2, h3⟩ := h.form
  exact ⟨⟨Ds, h1, h2, fun D hD => by rw [e]; exact h3 D hD⟩⟩
section
variable {C : Ctx}
/-- The frame and the world stand for this state. -/
structure ARel (ds : List Deferred) (w0 : World) (m0 : Mem) (φ0 : Pl) (nt : Nat) (ok : Nat → Prop) (env : Nat → AV) (st : Store) (a : Act) (w : World) : Prop where
  out : ∃ m φ, Inv w m φ st ∧ (∀ t, Rep m φ (env t) (a.tmps.getD t undef)) ∧ Adv w0 m0 φ0 w m φ ∧ (∀ id, φ id ≠ none → ok id) ∧ Marks w0.heap.size φ w ds
  size : nt ≤ a.tmps.size
  defers : a.defers = ds

theorem fits_of {m : Mem} {φ : Pl} {env : Nat → AV} {a : Act} (h : ∀ t, Rep m φ (env t) (a.tmps.getD t undef)) : Fits m φ env a.eval := by
  intro x hx
  cases x with
  | tmp t => exact h t
  | const v => exact litAV_rep m φ hx
  | global g => exact .junk _
  | func f => exact .fn .nil
theorem putA_rep {m : Mem} {φ : Pl} {env : Nat → AV} {a : Act} {nt : Nat} {dst : Option Tmp} {v : AV} {x : Value} (h : ∀ t, Rep m φ (env t) (a.tmps.getD t undef)) (hs : nt ≤ a.tmps.size) (hd : dstOk nt dst = true) (hv : Rep m φ v x) :
    ∀ t, Rep m φ (putA env dst v t) ((a.put dst x).tmps.getD t undef) := by
  intro t
  cases dst with
  | none => exact h t
  | some d =>
    have hlt : d < a.tmps.size := Nat.lt_of_lt_of_le (of_decide_eq_true hd) hs
    simp only [putA, upd, Act.put]
    by_cases e : t = d
    · subst e; simpa [Array.getD, hlt] using hv
    · simp only [e, if_false]
      have := h t
      have he : (a.tmps.setIfInBounds d x).getD t undef = a.tmps.getD t undef := by
        simp only [Array.getD_eq_getD_getElem?]
        rw [Array.getElem?_setIfInBounds_ne (Ne.symm e)]
      rwa [he]
theorem put_size (a : Act) (dst : Option Tmp) (x : Value) : (a.put dst x).tmps.size = a.tmps.size := by cases dst <;> simp [Act.put]
theorem put_defers' (a : Act) (dst : Option Tmp) (x : Value) : (a.put dst x).defers = a.defers := by cases dst <;> rfl

theorem want_sound {m : Mem} {φ : Pl} {env : Nat → AV} {a : Act} {ops : Array Oper} {o : Oper} {b : Bool} (h : ∀ t, Rep m φ (env t) (a.tmps.getD t undef)) (e : wantA ops.toList env o.guard = some b) :
    Region.wanted o (yielded ops a.tmps) = b := by
  unfold Region.wanted
  cases hg : o.guard with
  | none => rw [hg] at e; simpa [wantA] using e
  | some p =>
    rw [hg] at e
    obtain ⟨j, want⟩ := p
    simp only [wantA] at e
    simp only [yielded]
    have hl : ops.toList[j]? = ops[j]? := by simp
    rw [hl] at e
    cases hd : (ops[j]?).bind (·.dst) with
    | none => rw [hd] at e; simp [wantD] at e; simp [← e]
    | some d =>
      rw [hd] at e
      simp only [wantD, yieldA] at e
      have hr := h d
      simp only [Option.bind_some]
      split at e
      · rename_i c hc
        injection e with e; subst e
        rw [hc] at hr
        have := hr.lit_eq
        have hlt : a.tmps[d]? = some (.bool c) := by
          rw [Array.getD_eq_getD_getElem?] at this
          cases hx : a.tmps[d]? with
          | none => rw [hx] at this; simp [undef] at this
          | some y => rw [hx] at this; simpa using this
        rw [hlt]
        cases c <;> cases want <;> rfl
      · rename_i c hc
        injection e with e; subst e
        rw [hc] at hr
        have := hr.lit_eq
        cases hx : a.tmps[d]? with
        | none => rfl
        | some y =>
          rw [Array.getD_eq_getD_getElem?, hx] at this
          simp only [Option.getD_some] at this
          subst this
          rfl
      · cases e

/-- What one operation does to the state. -/
def aOp (C : Ctx) (call : CallF) (all : List Oper) (base i : Nat) (o : Oper) (S : (Nat → AV) × Store) : Option ((Nat → AV) × Store) :=
  bnd (wantA all S.1 o.guard) fun b =>
    if b = true then bnd (stepOp C call o.op S.1 S.2 (base + wide * i)) fun p => some (putA S.1 o.dst p.1, p.2)
    else some (putA S.1 o.dst (.i (.lit undef)), S.2)
def okIn (base : Nat) (dn : Nat → Prop) (id : Nat) : Prop := id < base ∨ ∃ i, dn i ∧ base + wide * i ≤ id ∧ id < base + wide * i + wide
theorem okIn_mono {base : Nat} {dn dn' : Nat → Prop} (h : ∀ i, dn i → dn' i) {id : Nat} (k : okIn base dn id) : okIn base dn' id := by
  rcases k with k | ⟨i, k1, k2⟩
  · exact .inl k
  · exact .inr ⟨i, h i k1, k2⟩
theorem okIn_fresh {base i id : Nat} {dn : Nat → Prop} (hdn : ¬ dn i) (h1 : base + wide * i ≤ id) (h2 : id < base + wide * i + wide) : ¬ okIn base dn id := by
  rintro (k | ⟨j, k1, k2, k3⟩)
  · omega
  · have : i = j := by
      unfold wide at *
      omega
    subst this; exact hdn k1
theorem goCall_eq {op : Op} {p : Operand × List Operand} (h : goCall op = some p) : ∃ args ts, op = .call ⟨.value p.1, args, ts⟩ ∧ args.toList = p.2 := by
  unfold goCall at h
  split at h
  · injection h with h; subst h; exact ⟨_, _, rfl, rfl⟩
  · cases h

theorem wpOp_sound (hC : CtxOk C) {call : CallF} (hcall : CallOk C call) {ops : Array Oper} {Q : Exit → Act → World → Prop} {K : Act → World → Prop} {i base nt : Nat} {o : Oper} {S S' : (Nat → AV) × Store}
    {w0 : World} {m0 : Mem} {φ0 : Pl} {dn : Nat → Prop} {ds : List Deferred} {ρ : Option Nat} {k : Nat} {a : Act} {w : World} (ho : ops[i]? = some o) (hs : operOk nt o = true) (hdn : ¬ dn i) (h : aOp C call ops.toList base i o S = some S')
    (hr : ARel ds w0 m0 φ0 nt (okIn base dn) S.1 S.2 a w) (hK : ∀ a' w', ARel ds w0 m0 φ0 nt (okIn base fun j => dn j ∨ j = i) S'.1 S'.2 a' w' → K a' w') : wpOpIn (FR ρ) k C.P ops Q i K a w := by
  simp only [operOk, Bool.and_eq_true] at hs
  obtain ⟨⟨m, φ, hi, henv, hadv, hok, hmk⟩, hsz, hdf⟩ := hr
  unfold aOp at h
  obtain ⟨b, h1, h2⟩ := bnd_eq.1 h
  have hw := want_sound henv h1
  have hfr : ∀ id, base + wide * i ≤ id → id < base + wide * i + wide → φ id = none := fun id k1 k2 => by
    cases e : φ id with
    | none => rfl
    | some p => exact absurd (hok id (by rw [e]; simp)) (okIn_fresh hdn k1 k2)
  -- what is left to show, once the operation has given its value
  have fin : ∀ v st' y w', S' = (putA S.1 o.dst v, st') → Out w m φ (base + wide * i) v st' y w' → K (a.put o.dst y) w' := by
    rintro v st' y w' rfl ⟨m', φ', k1, k2, k3, k4⟩
    refine hK _ _ ⟨⟨m', φ', k2, ?_, hadv.trans k3, ?_, hmk.adv k3⟩, by rw [put_size]; exact hsz, by rw [put_defers']; exact hdf⟩
    · exact putA_rep (fun t => (henv t).mono k3.mle k3.ple) hsz hs.2 k1
    · intro id hne
      rcases k4 id hne with q | q
      · exact okIn_mono (fun _ => .inl) (hok id q)
      · exact .inr ⟨i, .inr rfl, q⟩
  unfold wpOpIn
  rw [ho]
  simp only
  rw [hw]
  cases b with
  | false =>
    simp only [Bool.false_eq_true, if_false] at h2 ⊢
    injection h2 with h2
    exact ⟨fun _ _ => trivial, fin _ _ undef w h2.symm (Out.same hi (.i (.lit _)))⟩
  | true =>
    simp only [if_true] at h2 ⊢
    obtain ⟨p, h3, h4⟩ := bnd_eq.1 h2
    injection h4 with h4
    refine ⟨fun _ _ => trivial, ?_⟩
    have hnd : ∀ c, o.op ≠ .defer c := fun c e => by
      unfold stepOp at h3
      rw [e] at h3
      simp [goCall, stepW, stepP] at h3
    rw [Oper.semAt_eq _ _ _ hnd]
    unfold stepOp at h3
    cases hg : goCall o.op with
    | none =>
      rw [hg] at h3
      obtain ⟨nx, y, w', k1, k2, k3⟩ := stepP_sound hC hi hfr (fits_of henv) hs.1 (show stepP C S.1 S.2 _ o.op = some (p.1, p.2) from h3)
      rw [k1]
      rcases k2 with rfl | ⟨rfl, rfl⟩
      · exact fin _ _ y w' h4.symm k3
      · exact fin _ _ undef w' h4.symm k3
    | some q =>
      rw [hg] at h3
      obtain ⟨args, ts, hop, hargs⟩ := goCall_eq hg
      simp only [stepW] at h3
      have hall : ∀ x ∈ opsOf o.op, opdOk x = true := fun x hx => List.all_eq_true.1 hs.1 x hx
      rw [hop] at hall
      have hfv := fits_of henv q.1 (hall _ (show q.1 ∈ q.1 :: args.toList by simp))
      have hav := evL_rep (fits_of henv) (l := q.2) fun x hx => hall x (show x ∈ q.1 :: args.toList by rw [hargs]; simp [hx])
      unfold stepC at h3
      split at h3
      · rename_i g caps hfe
        rw [hfe] at hfv
        generalize hev : a.eval q.1 = fv at hfv
        cases hfv with
        | @fn _ _ cvs hcaps =>
          have hall2 : RepL m φ (evL S.1 q.2 ++ caps) (q.2.map a.eval ++ cvs) := by
            have key : ∀ {cs : List AV} {vs : List Value}, RepL m φ cs vs → RepL m φ (cs ++ caps) (vs ++ cvs) := by
              intro cs
              induction cs with
              | nil => intro vs h; cases h; exact hcaps
              | cons c cs ih => intro vs h; cases h with | cons a b => exact .cons a (ih b)
            exact key hav
          split at h3
          · cases h3
          rename_i hgy
          obtain ⟨⟨fn, g1, g2, g3⟩, g4⟩ := callGo_sound hcall hgy hi hfr hall2 (show callGo call _ g _ S.2 _ = some (p.1, p.2) from h3)
          have hbody : fn.body ≠ none := by intro hb; rw [hb] at g3; cases g3
          have hmap : args.map a.eval ++ cvs.toArray = (q.2.map a.eval ++ cvs).toArray := by
            apply Array.ext'; simp [← hargs]
          have hrun : (execOp a.eval o).run C.P w = .ok (.enter g ((q.2.map a.eval ++ cvs).toArray)) w := by
            unfold execOp
            rw [hop]
            simp [resolve, Deferred.ofValue, hev, invoke, callFunc, g1, g2, hbody, ← hmap]
          rw [hrun]
          rw [Oper.uponIn_enter]
          refine ⟨fun h => (by cases h), callsFR (g4.mono ?_)⟩
          rintro e w' ⟨y, rfl, k⟩
          exact fin _ _ y w' h4.symm k
      · rename_i id hfe
        rw [hfe] at hfv
        generalize hev : a.eval q.1 = fv at hfv
        obtain ⟨l, us, e, fn, tmps, asg, body, k1, k2⟩ := callGo_round hcall hi hfr (.cons hfv hav) (show callGo call true yldF _ S.2 _ = some (p.1, p.2) from h3)
        injection e with e1 e2
        subst e2
        rw [e1] at hev
        have hrun : (execOp a.eval o).run C.P w = .ok (.round l fn tmps asg body) w := by
          have hm : args.map a.eval = (q.2.map a.eval).toArray := by apply Array.ext'; simp [← hargs]
          unfold execOp
          rw [hop]
          simp [resolve, Deferred.ofValue, hev, invoke, hm, k1]
        rw [hrun, Oper.uponIn_round]
        refine ⟨fun h => (by cases h), roundFR (k2.mono ?_)⟩
        rintro e w' ⟨y, rfl, k⟩
        exact fin _ _ y w' h4.symm k
      · cases h3
end
end Go.Av

/- Code, as the abstract executor runs it, is what the model does. No condition. -/
namespace Go.Av
section
variable {C : Ctx}

theorem Free.keep {φ : Pl} {D : Nat} (h : Free φ D) (ids : List Nat) : Free (keepP ids φ) D := by
  intro id b n e
  unfold keepP at e
  cases hi : ids[id]? with
  | none => rw [hi] at e; simp at e
  | some i => rw [hi] at e; exact h i b n e
theorem Marks.keep {n0 : Nat} {φ : Pl} {w : World} {ds : List Deferred} (h : Marks n0 φ w ds) (ids : List Nat) : Marks n0 (keepP ids φ) w ds := by
  obtain ⟨Ds, h1, h2, h3⟩ := h.form
  exact ⟨⟨Ds, h1, h2, fun D hD => ⟨(h3 D hD).1, (h3 D hD).2.1, (h3 D hD).2.2.keep ids⟩⟩⟩
/-- The state of a region at its end is settled. -/
theorem settle_rel {ds : List Deferred} {w0 : World} {m0 : Mem} {φ0 : Pl} {nt na : Nat} {ok : Nat → Prop} {env : Nat → AV} {st : Store} {a : Act} {w : World} {G : List Nat} (h0 : ∀ id, φ0 id ≠ none → id < na)
    (h : ARel ds w0 m0 φ0 nt ok env st a w) : ARel ds w0 m0 φ0 nt (fun id => id < (settle G na env st).st.length) (envOf (settle G na env st).env) (stOf (settle G na env st).st) a w := by
  obtain ⟨⟨m, φ, hi, henv, hadv, hok, hmk⟩, hsz, hdf⟩ := h
  unfold settle settleW
  generalize hids : keepIds st na (envAt env G) = ids
  have hd : ids.Nodup := by rw [← hids]; exact keepIds_nodup _ _ _
  refine ⟨⟨m, keepP ids φ, hi.keep hd, ?_, hadv.keep h0 (fun j hj => by rw [← hids]; exact keepIds_at _ _ _ hj), ?_, hmk.keep ids⟩, hsz, hdf⟩
  · intro t
    have key : ∀ G : List Nat, Rep m (keepP ids φ) (envOf (keepEnv (posOf ids) env G) t) (a.tmps.getD t undef) := by
      intro G
      induction G with
      | nil => exact .junk _
      | cons u G ih =>
        simp only [keepEnv, envOf]
        by_cases e : t = u
        · subst e; simp only [if_true]; exact (henv t).ren (keepP_ren ids φ)
        · simp only [e, if_false]; exact ih
    exact key G
  · intro id hne
    simp only [takeSt_len]
    unfold keepP at hne
    cases hx : ids[id]? with
    | none => rw [hx] at hne; exact absurd rfl hne
    | some i => exact (List.getElem?_eq_some_iff.1 hx).1
theorem settle_len {G : List Nat} {na : Nat} {env : Nat → AV} {st : Store} : na ≤ (settle G na env st).st.length := by
  unfold settle settleW
  simp only [takeSt_len]
  exact keepIds_len _ _ _

theorem runOps_wp (hC : CtxOk C) {call : CallF} (hcall : CallOk C call) {ops : Array Oper} {Q : Exit → Act → World → Prop} {base nt : Nat} {ds : List Deferred} {ρ : Option Nat} {w0 : World} {m0 : Mem} {φ0 : Pl} (hs : ∀ o ∈ ops, operOk nt o = true) :
    ∀ (os : List Oper) (i : Nat) (R R' : RS) (a : Act) (w : World), (∀ j, os[j]? = ops[i + j]?) → runOps C call ops.toList false base os i R = some R' →
      ARel ds w0 m0 φ0 nt (okIn base (fun j => j < i)) R.env R.st a w → (∀ a' w', ARel ds w0 m0 φ0 nt (fun _ => True) R'.env R'.st a' w' → Q .normal a' w') → wpOpsIn (FR ρ) 0 C.P ops Q (List.range' i os.length) a w
  | [], i, R, R', a, w, _, h, hr, hQ => by
    simp only [runOps, Option.some.injEq] at h
    subst h
    simp only [List.length_nil, List.range'_zero, wpOpsIn]
    obtain ⟨⟨m, φ, h1, h2, h3, h4, h7⟩, h5, h6⟩ := hr
    exact hQ a w ⟨⟨m, φ, h1, h2, h3, fun _ _ => trivial, h7⟩, h5, h6⟩
  | o :: os, i, R, R', a, w, hl, h, hr, hQ => by
    have ho : ops[i]? = some o := by simpa using (hl 0).symm
    simp only [List.length_cons, List.range'_succ]
    rw [wpOpsIn_cons]
    simp only [runOps] at h
    obtain ⟨b, h1, h2⟩ := bnd_eq.1 h
    have hstat := hs o (Array.mem_of_getElem? ho)
    have hrest : ∀ j, os[j]? = ops[i + 1 + j]? := fun j => by
      have := hl (j + 1)
      simpa [Nat.add_assoc, Nat.add_comm 1 j] using this
    have mono : ∀ env st a' w', ARel ds w0 m0 φ0 nt (okIn base fun j => j < i ∨ j = i) env st a' w' → ARel ds w0 m0 φ0 nt (okIn base fun j => j < i + 1) env st a' w' := by
      rintro env st a' w' ⟨⟨m, φ, k1, k2, k3, k4, k7⟩, k5, k6⟩
      exact ⟨⟨m, φ, k1, k2, k3, fun id hne => okIn_mono (fun j hj => by omega) (k4 id hne), k7⟩, k5, k6⟩
    cases b with
    | true =>
      simp only [if_true] at h2
      obtain ⟨_, h3⟩ := tst_eq.1 h2
      obtain ⟨p, h4, h5⟩ := bnd_eq.1 h3
      refine wpOp_sound hC hcall (dn := fun j => j < i) (base := base) (S := (R.env, R.st)) (S' := (putA R.env o.dst p.1, p.2)) ho hstat (Nat.lt_irrefl i) ?_ hr fun a' w' hr' => ?_
      · unfold aOp
        exact bnd_eq.2 ⟨true, h1, by simp only [if_true]; exact bnd_eq.2 ⟨p, h4, rfl⟩⟩
      · exact runOps_wp hC hcall hs os (i + 1) _ R' a' w' hrest h5 (mono _ _ _ _ hr') hQ
    | false =>
      simp only [Bool.false_eq_true, if_false] at h2
      refine wpOp_sound hC hcall (dn := fun j => j < i) (base := base) (S := (R.env, R.st)) (S' := (putA R.env o.dst (.i (.lit undef)), R.st)) ho hstat (Nat.lt_irrefl i) ?_ hr fun a' w' hr' => ?_
      · unfold aOp
        exact bnd_eq.2 ⟨false, h1, by simp⟩
      · exact runOps_wp hC hcall hs os (i + 1) _ R' a' w' hrest h2 (mono _ _ _ _ hr') hQ

/-- A region that draws its order. -/
def DrawOk (C : Ctx) (call : CallF) : Prop := ∀ (ops : Array Oper) (id base nt : Nat) (R' : RS) (env : Nat → AV) (st : Store) (ds : List Deferred) (ρ : Option Nat) (w0 : World) (m0 : Mem) (φ0 : Pl) (a : Act) (w : World) (Q : Exit → Act → World → Prop),
  (∀ o ∈ ops, operOk nt o = true) → Region.lexB .any ops = true → runOps C call ops.toList true base ops.toList 0 { env := env, st := st, log := [] } = some R' →
  ARel ds w0 m0 φ0 nt (fun id => id < base) env st a w → (∀ a' w', ARel ds w0 m0 φ0 nt (fun _ => True) R'.env R'.st a' w' → Q .normal a' w') → (Code.region id ops true).wpIn (FR ρ) 0 C.P Q a w

/-- A loop, by the rounds that it still has. -/
theorem wpIn_loop_n {P : Program} {ρ : Option Nat} {Q : Exit → Act → World → Prop} {c : Code} (I : Nat → Act → World → Prop)
    (round : ∀ n a w, I n a w → c.wpIn (FR ρ) 0 P (Exit.then (fun a' w' => ∃ k, k < n ∧ I k a' w') Q) a w) {n : Nat} {a : Act} {w : World} (h0 : I n a w) : (Code.loop c).wpIn (FR ρ) 0 P Q a w := by
  intro b k cs hro hb hr
  have key : ∀ n a w, I n a w → ∃ e a' w', Q e a' w' ∧ ArrivesIn (Machine.fenced P (FR ρ)) P (lone (b.atR a (.code c :: .inLoop c :: k)) cs w) b k cs e a' w' := by
    intro n
    induction n using Nat.strongRecOn with
    | _ n ih =>
      intro a w hI
      obtain ⟨e, a1, w1, hq, harr⟩ := round n a w hI b (.inLoop c :: k) cs hro hb hr
      have other : e ≠ .normal → Exit.then (fun a' w' => ∃ k, k < n ∧ I k a' w') Q e a1 w1 → ∃ e a' w', Q e a' w' ∧ ArrivesIn (Machine.fenced P (FR ρ)) P (lone (b.atR a (.code c :: .inLoop c :: k)) cs w) b k cs e a' w' := by
        intro hne hq
        refine ⟨e, a1, w1, ?_, .pass (x := .inLoop c) rfl (fun _ _ => .inl hne) harr⟩
        cases e <;> first | exact hq | exact absurd rfl hne
      by_cases hne : e = .normal
      · subst hne
        obtain ⟨j, hlt, hI1⟩ := hq
        obtain ⟨e2, a2, w2, hq2, harr2⟩ := ih j hlt a1 w1 hI1
        exact ⟨e2, a2, w2, hq2, .of_steps (StepsIn.trans harr (.one (fenced_calm hb hr rfl) stepR_inLoop)) harr2⟩
      · exact other hne hq
  obtain ⟨e, a', w', hq, harr⟩ := key n a w h0
  exact ⟨e, a', w', hq, .of_steps (.one (fenced_calm hb hr rfl) stepR_loop) harr⟩

theorem wp_loop_n {P : Program} {Q : Exit → Act → World → Prop} {c : Code} (I : Nat → Act → World → Prop)
    (round : ∀ n a w, I n a w → c.wp P (Exit.then (fun a' w' => ∃ k, k < n ∧ I k a' w') Q) a w) {n : Nat} {a : Act} {w : World} (h0 : I n a w) : (Code.loop c).wp P Q a w :=
  wpIn_wide.1 (wpIn_loop_n (ρ := none) I (fun n a w h => wpIn_wide.2 (round n a w h)) h0)
/-- The exit that the abstract one stands for. -/
def exitOf : AExit → Exit
  | .normal => .normal
  | .exit i => .exit i
  | .ret => .ret
def SRel (ds : List Deferred) (w0 : World) (m0 : Mem) (φ0 : Pl) (nt na : Nat) (S : AS) (a : Act) (w : World) : Prop :=
  ARel ds w0 m0 φ0 nt (fun id => id < S.st.length) (envOf S.env) (stOf S.st) a w ∧ na ≤ S.st.length
/-- What is known when a code is over. -/
def SPost (ds : List Deferred) (w0 : World) (m0 : Mem) (φ0 : Pl) (nt na : Nat) (c : Code) (e : AExit) (S' : AS) (e' : Exit) (a : Act) (w : World) : Prop :=
  e' = exitOf e ∧ ∃ ds', SRel ds' w0 m0 φ0 nt na S' a w ∧ (noRange c = true → ds' = ds)
theorem SPost.mk {ds : List Deferred} {w0 : World} {m0 : Mem} {φ0 : Pl} {nt na : Nat} {c : Code} {e : AExit} {S' : AS} {a : Act} {w : World} (h : SRel ds w0 m0 φ0 nt na S' a w) : SPost ds w0 m0 φ0 nt na c e S' (exitOf e) a w :=
  ⟨rfl, ds, h, fun _ => rfl⟩
theorem envZ_at {m : Mem} {φ : Pl} {env : Nat → AV} {a : Act} (h : ∀ t, Rep m φ (env t) (a.tmps.getD t undef)) (t : Nat) : ∀ rs : List Nat, Rep m φ (envOf (envZ rs (envAt env rs)) t) (a.tmps.getD t undef)
  | [] => by simp only [envAt, envZ, envOf]; exact .junk _
  | r :: rs => by
    simp only [envAt, envZ, envOf]
    by_cases e : t = r
    · subst e; simp only [if_true]; exact h t
    · simp only [e, if_false]; exact envZ_at h t rs
theorem range_sound (hC : CtxOk C) {call : CallF} (hcall : CallOk C call) {G rs : List Nat} {na nt : Nat} {w0 : World} {m0 : Mem} {φ0 : Pl} (h0 : ∀ id, φ0 id ≠ none → id < na) {ds : List Deferred} {g : Operand} {ps : Array Tmp} {x y : Code} {S S' : AS}
    {e : AExit} {it : FuncId} {caps : List AV} {p : AV × Store} {a : Act} {w : World} (hg : opdOk g = true) (hps : ∀ t ∈ ps.toList, t < nt) (hx : codeOk nt x = true) (hy : codeOk nt y = true) (hnx : noRange x = true) (hny : noRange y = true)
    (hev : ev (envOf S.env) g = .fn (.func it) caps) (hit : it ≠ yldF)
    (hcg : callGo call true it (.fn (.yield 0) [.own S.st.length 0] :: caps) (upd (stOf S.st) S.st.length (some (.loop ⟨G, rs, ps.toList, x, y⟩ (envAt (envOf S.env) rs) .ready))) (S.st.length + 1) = some p)
    (hout : rangeOut G na (envOf S.env) S.st.length p.2 (p.2 S.st.length) = some (e, S')) (hr : SRel ds w0 m0 φ0 nt na S a w) :
    (Code.rangeFunc g ps x y).wpIn (FR none) 0 C.P (fun e' a' w' => e' = exitOf e ∧ ∃ ds', SRel ds' w0 m0 φ0 nt na S' a' w') a w := by
  obtain ⟨⟨⟨m, φ, hi, henv, hadv, hok, hmk⟩, hsz, hdf⟩, hlen⟩ := hr
  have hgv := fits_of henv g hg
  rw [hev] at hgv
  generalize hae : a.eval g = gv at hgv
  cases hgv with
  | @fn _ _ cvs hcaps =>
  have hL : φ S.st.length = none := by
    cases h : φ S.st.length with
    | none => rfl
    | some q => exact absurd (hok _ (by rw [h]; simp)) (Nat.lt_irrefl _)
  obtain ⟨hi1, ha1⟩ := hi.more (.deferred (some []))
  refine wpIn_rangeFunc fun fn _ => ?_
  let rec0 : Loop := { state := .ready, pending := none, fn := fn, tmps := a.tmps, params := ps, assign := x, body := y, defers := w.heap.size }
  have hb : BlkOk ((w.alloc (.deferred (some []))).alloc (.loop rec0)) m (updP φ S.st.length ((w.alloc (.deferred (some []))).heap.size, one (w.alloc (.deferred (some []))).heap.size 1)) (w.alloc (.deferred (some []))).heap.size
      (one (w.alloc (.deferred (some []))).heap.size 1) (.loop ⟨G, rs, ps.toList, x, y⟩ (envAt (envOf S.env) rs) .ready) := by
    refine .loop (nt := nt) (fn := fn) (tmps := a.tmps) (dfr := w.heap.size) ?_ hsz hps ⟨hx, hy, hnx, hny⟩ ?_ ?_
    · rw [heap_push_new]; rfl
    · intro t; exact (envZ_at henv t rs).mono (.refl _) (PLe.updP hL)
    · intro o
      cases hm : m (w.alloc (.deferred (some []))).heap.size o with
      | none => rfl
      | some v => exact absurd (hi1.mem.lt hm) (Nat.lt_irrefl _)
  obtain ⟨hi2, ha2⟩ := hi1.push hL (.loop rec0) hb
  have hargs : RepL m (updP φ S.st.length ((w.alloc (.deferred (some []))).heap.size, one (w.alloc (.deferred (some []))).heap.size 1)) (.fn (.yield 0) [.own S.st.length 0] :: caps) (.func (.yield (w.heap.size + 1)) #[] #[] :: cvs) := by
    refine .cons ?_ (hcaps.mono (.refl _) (PLe.updP hL))
    have := Rep.yld (m := m) (updP_same φ S.st.length ((w.alloc (.deferred (some []))).heap.size, one (w.alloc (.deferred (some []))).heap.size 1))
    simpa using this
  obtain ⟨⟨fn1, g1, g2, g3⟩, hcalls⟩ := callGo_sound hcall hit hi2 (nb := S.st.length + 1) (fun id k1 k2 => by
    rw [updP_ne (by omega)]
    cases h : φ id with
    | none => rfl
    | some q => exact absurd (hok id (by rw [h]; simp)) (by omega)) hargs hcg
  have hbody : fn1.body ≠ none := by intro hb; rw [hb] at g3; cases g3
  refine ⟨w.heap.size + 1, [{ target := .collected w.heap.size, args := #[] }], (w.alloc (.deferred (some []))).alloc (.loop rec0), { target := .fn (.func it) cvs.toArray, args := #[.func (.yield (w.heap.size + 1)) #[] #[]] }, (w.alloc (.deferred (some []))).alloc (.loop rec0), it, #[.func (.yield (w.heap.size + 1)) #[] #[]] ++ cvs.toArray, (w.alloc (.deferred (some []))).alloc (.loop rec0),
    run_enterLoop_outer fn a.tmps ps x y, ?_, fun _ _ => trivial, ?_, fun h => (by cases h), callsFR ?_⟩
  · have hcv : ∀ v : Value, a.eval (.const v) = v := fun _ => rfl
    simp [resolve, rangeCall, Deferred.ofValue, hae, hcv]
  · simp [invoke, callFunc, g1, g2, hbody]
  · have hm : (#[.func (.yield (w.heap.size + 1)) #[] #[]] ++ cvs.toArray : Array Value) = ((.func (.yield (w.heap.size + 1)) #[] #[] : Value) :: cvs).toArray := by simp
    rw [hm]
    refine hcalls.mono ?_
    rintro e1 w3 ⟨yv, rfl, m3, φ3, r1, r2, r3, r4⟩
    have hD : w.heap.size < ((w.alloc (.deferred (some []))).alloc (.loop rec0)).heap.size := by simp; omega
    have hfree : Free φ w.heap.size := fun id b n h1 h2 => Nat.lt_irrefl _ (hi.low id b n _ h1 h2)
    have hfree2 : Free (updP φ S.st.length ((w.alloc (.deferred (some []))).heap.size, one (w.alloc (.deferred (some []))).heap.size 1)) w.heap.size := by
      intro id b n h1 h2
      unfold updP at h1
      split at h1
      · injection h1 with h1; injection h1 with e1 e2; subst e2
        have h2 : w.heap.size = (w.alloc (.deferred (some []))).heap.size := h2
        simp at h2
      · exact hfree id b n h1 h2
    have hD2 : ((w.alloc (.deferred (some []))).alloc (.loop rec0)).heap[w.heap.size]? = some (.deferred (some [])) := by
      rw [heap_push_old _ _ (by simp)]; exact heap_push_new _ _
    have hD3 := (r3.block _ hD hfree2).trans hD2
    have hfree3 := r3.range hD hfree2
    -- the loop's record
    have key : ∀ R cs s, p.2 S.st.length = some (.loop R cs s) → ∃ r n3, w3.heap[w.heap.size + 1]? = some (.loop r) ∧ r.state = lstC s ∧ r.pending = pendC s ∧ φ3 S.st.length = some (w.heap.size + 1, n3) ∧ (∀ o, m3 (w.heap.size + 1) o = none) ∧ n3.own (w.heap.size + 1) := by
      intro R cs s hs
      obtain ⟨b, n3, q1, q2, q3⟩ := r2.live _ _ hs
      obtain ⟨n4, q4, _, _⟩ := r3.ple _ _ _ (updP_same φ S.st.length ((w.alloc (.deferred (some []))).heap.size, one (w.alloc (.deferred (some []))).heap.size 1))
      rw [q1] at q4; injection q4 with q4; injection q4 with q5 q6
      have hb : b = w.heap.size + 1 := by rw [q5]; simp
      subst hb
      cases q3 with
      | loop u1 u2 u3 u4 u5 u6 => exact ⟨_, n3, u1, rfl, rfl, q1, u6, q2.1⟩
    have fin : ∀ R cs s, p.2 S.st.length = some (.loop R cs s) → s ≠ .busy → ∃ w4, (Instr.endLoop (w.heap.size + 1)).run C.P w3 = .ok (pendC s) w4 ∧
        SRel ({ target := .collected w.heap.size, args := #[] } :: ds) w0 m0 φ0 nt na (settle G na (envOf S.env) (upd p.2 S.st.length none)) { a with defers := [{ target := .collected w.heap.size, args := #[] }] ++ a.defers } w4 := by
      intro R cs s hs hbusy
      obtain ⟨r, n3, q1, q2, q3, q4, q5, q6⟩ := key R cs s hs
      have hst : r.state ≠ .busy := by rw [q2]; cases s <;> simp [lstC] at hbusy ⊢
      refine ⟨_, by rw [← q3]; exact run_endLoop q1 hst, ⟨settle_rel (ok := fun _ => True) h0 ⟨⟨m3, φ3, ?_, ?_, ?_, fun _ _ => trivial, ?_⟩, hsz, by rw [hdf]; rfl⟩, settle_len⟩⟩
      · have hoth : ∀ z, z ≠ w.heap.size + 1 → (w3.putObj (w.heap.size + 1) (.loop { r with state := .exhausted })).heap[z]? = w3.heap[z]? := fun z hz => World.putObj_heap_other hz
        refine ⟨?_, ?_, ?_, fun i b n f k1 k2 => by simpa using r2.low i b n f k1 k2⟩
        · intro z o v k
          have : z ≠ w.heap.size + 1 := fun e' => by subst e'; rw [q5 o] at k; cases k
          rw [cell_of_heap (hoth z this)]; exact r2.mem z o v k
        · intro j blk hj
          unfold upd at hj
          split at hj
          · cases hj
          · rename_i hne
            obtain ⟨b, n, k1, k2, k3⟩ := r2.live _ _ hj
            have : ∀ f, n.own f → f ≠ w.heap.size + 1 := fun f hf e' => by subst e'; exact hne (r2.inj _ _ _ _ _ _ _ _ _ hj hs k1 q4 hf q6)
            exact ⟨b, n, k1, ⟨k2.1, fun f hf => by simpa using k2.2 f hf⟩, k3.mono k2.1 (fun f hf => hoth f (this f hf)) (.refl _) (.refl _) fun _ _ _ => rfl⟩
        · intro i j b b' n1 n2 b1 b2 f k1 k2
          have drop : ∀ i b1, upd p.2 S.st.length none i = some b1 → p.2 i = some b1 := by
            intro i b1 k; unfold upd at k; split at k
            · cases k
            · exact k
          exact r2.inj i j b b' n1 n2 b1 b2 f (drop _ _ k1) (drop _ _ k2)
      · intro t
        exact ((henv t).mono (.refl _) (PLe.updP hL)).mono r3.mle r3.ple
      · have ha3 := ((hadv.trans ha1).trans ha2).trans r3
        refine ⟨by simpa using ha3.size, ha3.os, ha3.tape, ha3.output, ?_, ha3.mle, ha3.mnew, ha3.ple, ha3.pnew⟩
        intro b hb1 hb2
        have hw := hadv.size
        rw [World.putObj_heap_other (by omega)]
        exact ha3.block b hb1 hb2
      · obtain ⟨Ds, f1, f2, f3⟩ := hmk.form
        have hne : ∀ D ∈ Ds, D < w.heap.size := fun D hD => (Array.getElem?_eq_some_iff.1 (f3 D hD).2.1).1
        refine ⟨⟨w.heap.size :: Ds, by rw [f1]; rfl, List.nodup_cons.2 ⟨fun h => Nat.lt_irrefl _ (hne _ h), f2⟩, ?_⟩⟩
        intro D hD
        rcases List.mem_cons.1 hD with rfl | hD
        · exact ⟨hadv.size, by rw [World.putObj_heap_other (by omega)]; exact hD3, hfree3⟩
        · obtain ⟨f4, f5, f6⟩ := f3 D hD
          have hlt := hne D hD
          have k1 := ha1.range hlt f6
          have hlt1 : D < (w.alloc (.deferred (some []))).heap.size := by simp; omega
          have k2 := ha2.range hlt1 k1
          have hlt2 : D < ((w.alloc (.deferred (some []))).alloc (.loop rec0)).heap.size := by simp; omega
          exact ⟨f4, by rw [World.putObj_heap_other (by omega), r3.block D hlt2 k2, ha2.block D hlt1 k1, ha1.block D hlt f6]; exact f5, r3.range hlt2 k2⟩
    unfold rangeOut at hout
    split at hout
    · rename_i R cs hs
      injection hout with hout; injection hout with e1 e2; subst e1; subst e2
      obtain ⟨w4, z1, z2⟩ := fin R cs .ready hs (by simp)
      exact ⟨_, w4, z1, rfl, _, z2⟩
    · rename_i R cs e2 hs
      injection hout with hout; injection hout with e3 e4; subst e3; subst e4
      obtain ⟨w4, z1, z2⟩ := fin R cs (.over e2) hs (by simp)
      refine ⟨_, w4, z1, ?_⟩
      cases e2 with
      | normal => exact wpIn_skip ⟨rfl, _, z2⟩
      | exit k => exact wpIn_exit ⟨rfl, _, z2⟩
      | ret => exact wpIn_ret ⟨rfl, _, z2⟩
    · cases hout

theorem exec_sound (hC : CtxOk C) {call : CallF} (hcall : CallOk C call) (hdraw : DrawOk C call) {G : List Nat} {na nt : Nat} {w0 : World} {m0 : Mem} {φ0 : Pl} (h0 : ∀ id, φ0 id ≠ none → id < na) {ρ : Option Nat} :
    ∀ (n : Nat) (c : Code) (S S' : AS) (e : AExit) (ds : List Deferred) (a : Act) (w : World), codeOk nt c = true → (ρ = none ∨ noRange c = true) → exec C call G na n c S = some (e, S') → SRel ds w0 m0 φ0 nt na S a w →
      c.wpIn (FR ρ) 0 C.P (SPost ds w0 m0 φ0 nt na c e S') a w
  | 0, _, _, _, _, _, _, _, _, _, h, _ => by simp [exec] at h
  | n + 1, c, S, S', e, ds, a, w, hc, hn, h, hr => by
    unfold exec at h
    cases c with
    | skip =>
      simp only [Option.some.injEq, Prod.mk.injEq] at h
      obtain ⟨rfl, rfl⟩ := h
      exact wpIn_skip (.mk hr)
    | region id ops draw =>
      simp only at h
      simp only [codeOk, Bool.and_eq_true] at hc
      have hs : ∀ o ∈ ops, operOk nt o = true := fun o ho => Array.all_eq_true_iff_forall_mem.1 hc.1 o ho
      unfold doneK at h
      split at h
      · rename_i R hR
        simp only [Option.some.injEq, Prod.mk.injEq] at h
        obtain ⟨rfl, rfl⟩ := h
        have fin : ∀ a' w', ARel ds w0 m0 φ0 nt (fun _ => True) R.env R.st a' w' → SPost ds w0 m0 φ0 nt na (.region id ops draw) .normal (settle G na R.env R.st) .normal a' w' := fun a' w' k =>
          .mk ⟨settle_rel h0 k, settle_len⟩
        cases draw with
        | true => exact hdraw ops id S.st.length nt R _ _ ds ρ w0 m0 φ0 a w _ hs (by simpa using hc.2) hR hr.1 fin
        | false =>
          refine wpIn_region ?_
          rw [List.range_eq_range']
          have := runOps_wp (ρ := ρ) (Q := SPost ds w0 m0 φ0 nt na (.region id ops false) .normal (settle G na R.env R.st)) hC hcall hs ops.toList 0 _ R a w (by simp) hR (w0 := w0) (m0 := m0) (φ0 := φ0) ?_ fin
          · simpa using this
          · obtain ⟨⟨m, φ, k1, k2, k3, k4, k7⟩, k5, k6⟩ := hr.1
            exact ⟨⟨m, φ, k1, k2, k3, fun id hne => .inl (k4 id hne), k7⟩, k5, k6⟩
      · cases h
    | seq x y =>
      simp only [codeOk, Bool.and_eq_true] at hc
      simp only at h
      have hn1 : ρ = none ∨ noRange x = true := hn.imp id fun k => by simp only [noRange, Bool.and_eq_true] at k; exact k.1
      have hn2 : ρ = none ∨ noRange y = true := hn.imp id fun k => by simp only [noRange, Bool.and_eq_true] at k; exact k.2
      refine wpIn_seq ?_
      unfold seqK at h
      split at h
      · rename_i S1 h1
        refine wpIn_mono (exec_sound hC hcall hdraw h0 n x S S1 .normal ds a w hc.1 hn1 h1 hr) ?_
        rintro e' a' w' ⟨rfl, ds1, k, kd⟩
        refine wpIn_mono (exec_sound hC hcall hdraw h0 n y S1 S' e ds1 a' w' hc.2 hn2 h k) ?_
        rintro e' a' w' ⟨rfl, ds2, k', kd'⟩
        exact ⟨rfl, ds2, k', fun q => by simp only [noRange, Bool.and_eq_true] at q; rw [kd' q.2, kd q.1]⟩
      · rename_i i S1 h1
        injection h with h; injection h with h2 h3; subst h2; subst h3
        refine wpIn_mono (exec_sound hC hcall hdraw h0 n x S S1 (.exit i) ds a w hc.1 hn1 h1 hr) ?_
        rintro e' a' w' ⟨rfl, ds1, k, kd⟩
        exact ⟨rfl, ds1, k, fun q => by simp only [noRange, Bool.and_eq_true] at q; exact kd q.1⟩
      · rename_i S1 h1
        injection h with h; injection h with h2 h3; subst h2; subst h3
        refine wpIn_mono (exec_sound hC hcall hdraw h0 n x S S1 .ret ds a w hc.1 hn1 h1 hr) ?_
        rintro e' a' w' ⟨rfl, ds1, k, kd⟩
        exact ⟨rfl, ds1, k, fun q => by simp only [noRange, Bool.and_eq_true] at q; exact kd q.1⟩
      · cases h
    | cond x y z =>
      simp only [codeOk, Bool.and_eq_true] at hc
      simp only at h
      have hn1 : ρ = none ∨ noRange y = true := hn.imp id fun k => by simp only [noRange, Bool.and_eq_true] at k; exact k.1
      have hn2 : ρ = none ∨ noRange z = true := hn.imp id fun k => by simp only [noRange, Bool.and_eq_true] at k; exact k.2
      obtain ⟨t, ht, h1⟩ := condK_eq.1 h
      obtain ⟨⟨m, φ, k1, k2, k3, k4, k7⟩, k5, k6⟩ := hr.1
      have hx := fits_of k2 x hc.1
      rw [ht] at hx
      refine wpIn_cond hx.lit_eq ?_
      cases t with
      | true =>
        refine wpIn_mono (exec_sound hC hcall hdraw h0 n y S S' e ds a w hc.2.1 hn1 h1 hr) ?_
        rintro e' a' w' ⟨rfl, ds1, k, kd⟩
        exact ⟨rfl, ds1, k, fun q => by simp only [noRange, Bool.and_eq_true] at q; exact kd q.1⟩
      | false =>
        refine wpIn_mono (exec_sound hC hcall hdraw h0 n z S S' e ds a w hc.2.2 hn2 h1 hr) ?_
        rintro e' a' w' ⟨rfl, ds1, k, kd⟩
        exact ⟨rfl, ds1, k, fun q => by simp only [noRange, Bool.and_eq_true] at q; exact kd q.2⟩
    | block id b =>
      simp only [codeOk] at hc
      simp only at h
      refine wpIn_block ?_
      unfold blockK at h
      split at h
      · rename_i S1 h1
        injection h with h; injection h with h2 h3; subst h2; subst h3
        refine wpIn_mono (exec_sound hC hcall hdraw h0 n b S S1 .normal ds a w hc hn h1 hr) ?_
        rintro e' a' w' ⟨rfl, k⟩
        exact ⟨rfl, k⟩
      · rename_i i S1 h1
        refine wpIn_mono (exec_sound hC hcall hdraw h0 n b S S1 (.exit i) ds a w hc hn h1 hr) ?_
        rintro e' a' w' ⟨rfl, k⟩
        simp only [exitOf, Exit.inBlock]
        split at h
        · rename_i e0
          injection h with h; injection h with h2 h3; subst h2; subst h3
          rw [if_pos e0]; exact ⟨rfl, k⟩
        · rename_i e0
          injection h with h; injection h with h2 h3; subst h2; subst h3
          rw [if_neg e0]; exact ⟨rfl, k⟩
      · rename_i S1 h1
        injection h with h; injection h with h2 h3; subst h2; subst h3
        refine wpIn_mono (exec_sound hC hcall hdraw h0 n b S S1 .ret ds a w hc hn h1 hr) ?_
        rintro e' a' w' ⟨rfl, k⟩
        exact ⟨rfl, k⟩
      · cases h
    | loop b =>
      simp only [codeOk] at hc
      have hn1 : ρ = none ∨ noRange b = true := hn.imp id fun k => by simpa only [noRange] using k
      have hI : ∃ ds1, (noRange b = true → ds1 = ds) ∧ ∃ S, exec C call G na (n + 1) (.loop b) S = some (e, S') ∧ SRel ds1 w0 m0 φ0 nt na S a w := ⟨ds, fun _ => rfl, S, by unfold exec; exact h, hr⟩
      refine wpIn_loop_n (fun k a w => k ≤ n + 1 ∧ ∃ ds1, (noRange b = true → ds1 = ds) ∧ ∃ S, exec C call G na k (.loop b) S = some (e, S') ∧ SRel ds1 w0 m0 φ0 nt na S a w) ?_ (n := n + 1) ⟨Nat.le_refl _, hI⟩
      rintro k a w ⟨hk, ds1, hd1, S, h1, hr⟩
      cases k with
      | zero => simp [exec] at h1
      | succ k =>
        unfold exec at h1
        simp only at h1
        unfold seqK at h1
        split at h1
        · rename_i S1 h2
          refine wpIn_mono (exec_sound hC hcall hdraw h0 k b S S1 .normal ds1 a w hc hn1 h2 hr) ?_
          rintro e' a' w' ⟨rfl, ds2, q, qd⟩
          exact ⟨k, Nat.lt_succ_self k, by omega, ds2, fun u => (qd u).trans (hd1 u), S1, h1, q⟩
        · rename_i i S1 h2
          injection h1 with h1; injection h1 with h3 h4; subst h3; subst h4
          refine wpIn_mono (exec_sound hC hcall hdraw h0 k b S S1 (.exit i) ds1 a w hc hn1 h2 hr) ?_
          rintro e' a' w' ⟨rfl, ds2, q, qd⟩
          exact ⟨rfl, ds2, q, fun u => (qd u).trans (hd1 u)⟩
        · rename_i S1 h2
          injection h1 with h1; injection h1 with h3 h4; subst h3; subst h4
          refine wpIn_mono (exec_sound hC hcall hdraw h0 k b S S1 .ret ds1 a w hc hn1 h2 hr) ?_
          rintro e' a' w' ⟨rfl, ds2, q, qd⟩
          exact ⟨rfl, ds2, q, fun u => (qd u).trans (hd1 u)⟩
        · cases h1
    | rangeFunc g ps x y =>
      simp only at h
      obtain rfl : ρ = none := hn.resolve_right (by simp [noRange])
      simp only [codeOk, Bool.and_eq_true] at hc
      unfold rangeGo at h
      split at h
      case isFalse => cases h
      rename_i hnr
      simp only [Bool.and_eq_true] at hnr
      generalize hev : ev (envOf S.env) g = gv at h
      unfold rangeW at h
      split at h
      case h_2 => cases h
      rename_i it caps
      split at h
      · cases h
      rename_i hit
      generalize hcg : callGo call true it _ _ _ = rr at h
      cases rr with
      | none => simp [rangeEnd] at h
      | some p =>
        refine wpIn_mono (range_sound hC hcall h0 hc.1 (fun t ht => of_decide_eq_true (List.all_eq_true.1 hc.2.1 t ht)) hc.2.2.1 hc.2.2.2 hnr.1 hnr.2 hev hit hcg h hr) ?_
        rintro e' a' w' ⟨rfl, ds1, k⟩
        exact ⟨rfl, ds1, k, fun q => by simp [noRange] at q⟩
    | exit id =>
      simp only [Option.some.injEq, Prod.mk.injEq] at h
      obtain ⟨rfl, rfl⟩ := h
      exact wpIn_exit (.mk hr)
    | ret =>
      simp only [Option.some.injEq, Prod.mk.injEq] at h
      obtain ⟨rfl, rfl⟩ := h
      exact wpIn_ret (.mk hr)
    | scope => simp at h
    | label => simp at h
    | goto => simp at h
    | refuse => simp at h
termination_by n => n
decreasing_by all_goals omega
end
end Go.Av

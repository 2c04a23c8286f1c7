/- Part 8 of what the proof rests on: the executor and what it is worth, and the program's functions as it runs them. No condition. -/
import Derived.Test.YteihcffblfdgfaaT7
set_option linter.unusedVariables false
set_option linter.unusedSimpArgs false
/- The copy of an expression: the worklist's code. No condition. -/
namespace Go.Proofs.Yteihcffblfdgfaa
open Go Go.Av
set_option maxRecDepth 4000
/-- The context without ready contracts. -/
noncomputable def C1 : Ctx := { P := Try.prog, G := GS, ownArgs := ownA, keepRes := keepR, eqT := eqTy, prim := fun _ => none }
@[simp] theorem C1_P : C1.P = Try.prog := (rfl)
@[simp] theorem C1_G (f) : C1.G f = GS f := (rfl)
@[simp] theorem C1_o (f) : C1.ownArgs f = ownA f := (rfl)
@[simp] theorem C1_k (f) : C1.keepRes f = keepR f := (rfl)
@[simp] theorem C1_e (f) : C1.eqT f = eqTy f := (rfl)
@[simp] theorem C1_t : C1.tree = false := (rfl)
theorem cpl_nil : callA C1 68 [.i (.isl [])] [] = some (.nils, []) := by
  rw [callA_eq rfl Try.func68 rfl rfl]
  simp
theorem cpl_some {ks : List Ex} (h : ks ≠ []) (hl : ks.length < 1000000000) : callA C1 68 [.i (.isl (Ex.cellsL ks))] [] = some (.osl 0 5 0 ks.length, [some (.arr 5 (Ex.cellsL ks))]) := by
  rw [callA_eq rfl Try.func68 rfl rfl]
  have h1 : 56 * (ks.length : Int) ≤ 281474976710656 := by omega
  simp [h, h1]
  unfold over
  simp
theorem sound1 : SoundOk C1 := sound_ok (C := C1) ft nt eqS mo (prim_none fun _ => rfl)
def ptr (p : Nat × Nat) : IV := .lit (.pointer (some ⟨p.1, p.2, none⟩))
def zc : List AV := [.int 0, .int 0, .bool false, .int 0, .nils]
def Sini (p : Nat × Nat) : AS := { env := [(0, .i (ptr p))], st := [] }
def Sout (e : Ex) (p : Nat × Nat) : AS := { env := [(0, .i (ptr p)), (2, .own 0 0), (3, .own 1 0), (4, .junk), (5, .junk), (6, .junk), (13, .junk), (37, .junk), (38, .junk), (39, .junk)], st := [some (.box zc), some (.box (impI e.cells))] }
/-- The state at the worklist's head. -/
def SL (b3 : Nat) (todo X : KL) : AS :=
  { env := [(0, .junk), (2, .own 0 0), (3, .i (ptr (b3, 0))), (4, .osl 1 1 0 todo.length), (5, .junk), (6, .junk), (13, .junk), (37, .junk), (38, .junk), (39, .junk)], st := [some (.box zc), some (.arr 1 ((todo ++ X).map fun k => [ptr k.1]))] }
theorem ptr_lit : ∀ (l : KL), ∀ c ∈ (l.map fun k => [ptr k.1]).flatten, ∃ v, c = .lit v
  | [], c, h => by simp at h
  | k :: l, c, h => by
    simp only [List.map_cons, List.flatten_cons, List.mem_append, List.mem_singleton] at h
    rcases h with rfl | h
    · exact ⟨_, rfl⟩
    · exact ptr_lit l c h
/-- What is known when the kids have been copied, ahead of the store. -/
def PP (b3 : Nat) (b o n : Nat) (x : Ex) (ES : List (List IV)) (env : Nat → AV) (st : Store) : Prop :=
  env 2 = .own 0 0 ∧ env 3 = .i (ptr (b3, 0)) ∧ env 4 = .osl 1 1 0 n ∧ env 5 = .i (ptr (b, o)) ∧ env 32 = .i (ptr (b, o + 4)) ∧ st 0 = some (.box zc) ∧ st 1 = some (.arr 1 ES) ∧
    ((env 30 = .nils ∧ x.kids = []) ∨ ∃ id, env 30 = .osl id 5 0 x.kids.length ∧ x.kids ≠ [] ∧ st id = some (.arr 5 (Ex.cellsL x.kids)) ∧ 2 ≤ id)
theorem wrap_1' : IntKind.i64.wrap 1 = 1 := wrap64 (by omega) (by omega)
/-- The pointers that have been put on the worklist. -/
def RW (init : KL) (b' i : Nat) : List (List IV) := (init.map fun k => [ptr k.1]) ++ (List.range i).map fun j => [ptr (b', j * 5)]
theorem RW_len (init : KL) (b' i : Nat) : (RW init b' i).length = init.length + i := by simp [RW]
theorem RW_succ (init : KL) (b' i : Nat) : RW init b' i ++ [[ptr (b', i * 5)]] = RW init b' (i + 1) := by simp [RW, List.range_succ]
theorem kidsAt_map (b : Nat) : ∀ (o : Nat) (l : List Ex), (kidsAt b o l).map (fun k => [ptr k.1]) = (List.range l.length).map fun j => [ptr (b, o + j * 5)]
  | _, [] => by simp [kidsAt]
  | o, a :: l => by
    simp only [kidsAt, List.map_cons, kidsAt_map b (o + 5) l, List.length_cons, List.range_succ_eq_map, List.map_map]
    simp only [List.cons.injEq, Nat.zero_mul, Nat.add_zero, true_and]
    apply List.map_congr_left
    intro j _
    simp only [Function.comp, Nat.succ_eq_add_one]
    rw [show o + 5 + j * 5 = o + (j + 1) * 5 by omega]
theorem kidsAt_len (b : Nat) : ∀ (o : Nat) (l : List Ex), (kidsAt b o l).length = l.length
  | _, [] => rfl
  | o, a :: l => by simp [kidsAt, kidsAt_len b (o + 5) l]
theorem kidsAt_sum (b : Nat) : ∀ (o : Nat) (l : List Ex), ((kidsAt b o l).map fun k => k.2.size).sum = Ex.sizeL l
  | _, [] => rfl
  | o, a :: l => by simp [kidsAt, Ex.sizeL, kidsAt_sum b (o + 5) l]
/-- The state when so many kids have been put on the worklist. -/
def YS (b3 b' cap : Nat) (x : Ex) (init : KL) (ES : List (List IV)) (i : Nat) : AS :=
  { env := [(0, .junk), (2, .own 0 0), (3, .i (ptr (b3, 0))), (4, if i = 0 then .osl 1 1 0 init.length else .osl 2 1 0 (init.length + i)), (5, .i (.iref [.int x.kind, .int x.col, .bool x.val.null, .int x.val.n, .lit (.slice (some ⟨b', 0, none⟩) x.kids.length cap)])), (6, jk i (.int (i - 1))), (13, .junk), (37, .int x.kids.length), (38, .int i), (39, jk i (.bool true))],
    st := some (.box zc) :: if i = 0 then [some (.arr 1 ES)] else [none, some (.arr 1 (RW init b' i))] }
set_option maxHeartbeats 1000000
/-- A copy of what lies at a place. -/
theorem copied_at {e : Ex} (he : e.size < 1000000000) {wi : World} {mi : Mem} {b o : Nat} (hi : Inv wi mi (fun _ => none) (stOf []))
    (hrun : ∀ w', wi.heap.size ≤ w'.heap.size → (∀ f, f < wi.heap.size → w'.heap[f]? = wi.heap[f]?) → ∃ y, (Instr.loadAt 87 (.pointer (some ⟨b, o, none⟩))).run C1.P w' = .ok y w' ∧ IRep mi (.agg e.cells) y) :
    Calls Try.prog 70 #[.pointer (some ⟨b, o, none⟩)] wi (CallPost wi mi (fun _ => none) (.i (.agg e.cells)) []) := by
  refine calls_of_wp (fn := Try.f70) Try.func70 rfl ?_
  have g0 : GG wi mi 52 (fun id => id < (Sini (b, o)).st.length) [] (envOf (Sini (b, o)).env) (stOf (Sini (b, o)).st) { tmps := [Value.pointer (some ⟨b, o, none⟩)].toArray ++ Array.replicate (52 - 1) undef, defers := [] } wi := by
    refine ⟨⟨mi, fun _ => none, hi, ?_, .refl _ _ _, fun id h => absurd rfl h, fun k hk => by simp at hk⟩, by simp, rfl⟩
    intro t
    have := enter_rep (m := mi) (φ := fun _ => none) (52 - 1) (show RepL mi (fun _ => none) [.i (ptr (b, o))] [.pointer (some ⟨b, o, none⟩)] from .cons (.i (.lit _)) .nil) t
    cases t with
    | zero => simpa [Sini, envOf, argAt] using this
    | succ t => simp only [Sini, envOf]; simp; exact .junk _
  refine wp_seq (wp_mono (GG.codeA sound1 (G := GS 70) (S := Sini (b, o)) (e := .normal) (S' := { env := [(0, .i (ptr (b, o))), (2, .own 0 0), (3, .junk), (4, .junk), (5, .junk), (6, .junk), (13, .junk), (37, .junk), (38, .junk), (39, .junk)], st := [some (.box zc)] }) (by kernel_rfl) (by simp [Sini, zc, ptr]) g0) ?_)
  rintro _ a1 w1 ⟨rfl, g1⟩
  refine wp_seq (GG.regionL sound1 (os1 := [_, _]) (os2 := [_, _]) (G := GS 70) (S := { env := [(0, .i (ptr (b, o))), (2, .own 0 0), (3, .junk), (4, .junk), (5, .junk), (6, .junk), (13, .junk), (37, .junk), (38, .junk), (39, .junk)], st := [some (.box zc)] }) (S' := Sout e (b, o)) rfl (by
      have h : ∀ ops : Array Oper, ops.all (operOk 52) = true → ∀ o ∈ ops, operOk 52 o = true := fun ops h o ho => Array.all_eq_true_iff_forall_mem.1 h o ho
      exact h _ (by kernel_rfl)) g1 (by decide) hrun ?_ ?_)
  · rw [Ex.cells_eq]; simp [Sout, zc, ptr, Ex.cells_eq]
  intro a2 w2 g2
  obtain ⟨b3, g3⟩ := g2.pub (u := 3) (id := 1) (e := e) (st' := stOf [some (.box zc)]) (ok' := fun id => id < 1) rfl rfl (by
    intro i blk h
    cases i with
    | zero => simp [stOf] at h; subst h; exact ⟨by omega, rfl, by simp [LitBlk, zc]⟩
    | succ i => simp [stOf] at h) (by
    intro i h
    cases i with
    | zero => omega
    | succ i => simp [stOf] at h)
  have g3 := g3 (envOf [(2, .own 0 0), (3, .i (ptr (b3, 0)))]) (by
    intro t
    simp only [envOf]
    by_cases h2 : t = 2
    · subst h2; exact .inr (.inr ⟨rfl, by simp [Sout, envOf, Stays, stOf]⟩)
    · by_cases h3 : t = 3
      · subst h3; exact .inr (.inl ⟨rfl, rfl⟩)
      · simp [h2, h3])
  refine wp_seq (wp_mono (GG.codeA sound1 (G := GS 70) (S := { env := [(2, .own 0 0), (3, .i (ptr (b3, 0)))], st := [some (.box zc)] }) (e := .normal) (S' := SL b3 [((b3, 0), e)] []) (by kernel_rfl) (by simp [SL, ptr, zc]) g3) ?_)
  rintro _ a3 w3 ⟨rfl, g4⟩
  refine wp_seq (wp_block ?_)
  refine wp_loop_n (fun n a w => ∃ todo X K : KL, (∀ k ∈ todo, k ∈ K) ∧ ((b3, 0), e) ∈ K ∧ (todo.map fun k => k.2.size).sum = n ∧ n < 1000000000 ∧ GG wi mi 52 (fun id => id < (SL b3 todo X).st.length) K (envOf (SL b3 todo X).env) (stOf (SL b3 todo X).st) a w) ?_ (n := e.size) ⟨[((b3, 0), e)], [], [((b3, 0), e)], fun k hk => hk, by simp, by simp, he, g4⟩
  rintro n a w ⟨todo, X, K, hsub, hb3, hsum, hn, g⟩
  rcases List.eq_nil_or_concat todo with rfl | ⟨init, k, rfl⟩
  · refine wp_mono (GG.codeA sound1 (G := GS 70) (S := SL b3 [] X) (e := .exit 0) (S' := { env := [(0, .junk), (2, .own 0 0), (3, .i (ptr (b3, 0))), (4, .osl 1 1 0 0), (5, .junk), (6, .junk), (13, .bool false), (37, .junk), (38, .junk), (39, .junk)], st := [some (.box zc), some (.arr 1 (X.map fun k => [ptr k.1]))] }) (by kernel_rfl) (by simp [SL, ptr, zc]) g) ?_
    rintro _ a5 w5 ⟨rfl, g5⟩
    simp only [exitOf, Exit.then, Exit.inBlock, if_true]
    have g6 := (g5.see (u := 3) (b := b3) (o := 0) rfl hb3).envTo (env' := envOf [(2, .own 0 0), (3, .i (.iref e.cells))]) (by
      intro t
      simp only [envOf, upd]
      by_cases h2 : t = 2
      · subst h2; simp
      · by_cases h3 : t = 3
        · subst h3; simp
        · simp [h2, h3])
    refine wp_mono (GG.codeA sound1 (G := GS 70) (S := { env := [(2, .own 0 0), (3, .i (.iref e.cells))], st := [some (.box zc), some (.arr 1 (X.map fun k => [ptr k.1]))] }) (e := .ret) (S' := { env := [(0, .junk), (2, .own 0 0), (3, .i (.iref e.cells)), (4, .junk), (5, .junk), (6, .junk), (13, .junk), (37, .junk), (38, .junk), (39, .junk)], st := [some (.box (impI e.cells)), some (.arr 1 (X.map fun k => [ptr k.1]))] }) (by kernel_rfl) (by simp [zc]) g6) ?_
    rintro _ a6 w6 ⟨rfl, g7⟩
    obtain ⟨⟨m, φ, q1, q2, q3, q4, q5⟩, q6, q7⟩ := g7
    obtain ⟨v, k1, k2⟩ := finish_sound (C := C1) (fn := Try.f70) (keep := false) (na := 0) (S := { env := [(0, .junk), (2, .own 0 0), (3, .i (.iref e.cells)), (4, .junk), (5, .junk), (6, .junk), (13, .junk), (37, .junk), (38, .junk), (39, .junk)], st := [some (.box (impI e.cells)), some (.arr 1 (X.map fun k => [ptr k.1]))] }) (r := .i (.agg e.cells)) (stl' := []) (fun id h => absurd rfl h) ⟨⟨⟨m, φ, q1, q2, q3, q4, .nil _ _ _⟩, q6, q7⟩, Nat.zero_le _⟩ (by
      show finish C1 false [ResultVar.cell 2 87] 0 _ = _
      simp)
    exact ⟨q7, v, k1, k2⟩
  · clear g0 g4 g3 g1 g2
    obtain ⟨⟨b, o⟩, x⟩ := k
    have hlen : ∀ l : KL, l.length ≤ (l.map fun k => k.2.size).sum := by
      intro l
      induction l with
      | nil => simp
      | cons a l ih => have := Ex.size_pos a.2; simp; omega
    have hil := hlen init
    simp at hsum
    have hxk : ((b, o), x) ∈ K := hsub _ (by simp)
    have hxs := Ex.size_eq x
    have hkl := Ex.sizeL_length x.kids
    have hne : ¬ ((init.length : Int) + 1 ≤ 0) := by omega
    have hpos : (0 : Int) < (init.length : Int) + 1 := by omega
    have w1 : IntKind.i64.wrap (init.length : Int) = init.length := wrap64 (by omega) (by omega)
    generalize hES : ((init ++ [((b, o), x)] ++ X).map fun k => [ptr k.1]) = ES
    have hnth : nthE ES init.length = some [ptr (b, o)] := by
      rw [nthE_eq, ← hES]; simp
    have hlit : ∀ c ∈ ES.flatten, ∃ v, c = .lit v := by rw [← hES]; exact ptr_lit _
    have hlt : (init.length : Int) < (init.length : Int) + 1 := by omega
    have hlt2 : (init.length : Int) ≤ (init.length : Int) + 1 := by omega
    refine wp_seq (wp_mono (GG.codeA sound1 (G := GS 70) (S := SL b3 (init ++ [((b, o), x)]) X) (e := .normal) (S' := { env := [(0, .junk), (2, .own 0 0), (3, .i (ptr (b3, 0))), (4, .osl 1 1 0 (init.length + 1)), (5, .junk), (6, .junk), (13, .bool true), (37, .junk), (38, .junk), (39, .junk)], st := [some (.box zc), some (.arr 1 ES)] }) (by kernel_rfl) (by simp only [SL, hES]; simp [ptr, zc, hpos]) (by simpa using g)) ?_)
    rintro _ a5 w5 ⟨rfl, g5⟩
    clear g
    refine wp_block ?_
    refine wp_seq (wp_mono (GG.codeA sound1 (G := GS 70) (S := { env := [(0, .junk), (2, .own 0 0), (3, .i (ptr (b3, 0))), (4, .osl 1 1 0 (init.length + 1)), (5, .junk), (6, .junk), (13, .bool true), (37, .junk), (38, .junk), (39, .junk)], st := [some (.box zc), some (.arr 1 ES)] }) (e := .normal) (S' := { env := [(0, .junk), (2, .own 0 0), (3, .i (ptr (b3, 0))), (4, .osl 1 1 0 (init.length + 1)), (5, (.i (ptr (b, o)))), (6, .junk), (13, .bool true), (37, .junk), (38, .junk), (39, .junk)], st := [some (.box zc), some (.arr 1 ES)] }) (by kernel_rfl) (by simp only [ptr] at hnth; simp [ptr, zc, hnth, w1, hlt]) g5) ?_)
    rintro _ a6 w6 ⟨rfl, g6⟩
    clear g5
    refine wp_seq (wp_mono (GG.codeA sound1 (G := GS 70) (S := { env := [(0, .junk), (2, .own 0 0), (3, .i (ptr (b3, 0))), (4, .osl 1 1 0 (init.length + 1)), (5, (.i (ptr (b, o)))), (6, .junk), (13, .bool true), (37, .junk), (38, .junk), (39, .junk)], st := [some (.box zc), some (.arr 1 ES)] }) (e := .normal) (S' := { env := [(0, .junk), (2, .own 0 0), (3, .i (ptr (b3, 0))), (4, .osl 1 1 0 init.length), (5, (.i (ptr (b, o)))), (6, .junk), (13, .bool true), (37, .junk), (38, .junk), (39, .junk)], st := [some (.box zc), some (.arr 1 ES)] }) (by kernel_rfl) (by simp [ptr, zc, w1, hlt2]) g6) ?_)
    rintro _ a7 w7 ⟨rfl, g7⟩
    clear g6
    refine wp_seq (GG.region sound1 (os1 := [_, _]) (os2 := [_, _, _, _, _, _]) (u := 26) (PP := PP b3 b o init.length x ES) rfl (by
      have h : ∀ ops : Array Oper, ops.all (operOk 52) = true → ∀ o ∈ ops, operOk 52 o = true := fun ops h o ho => Array.all_eq_true_iff_forall_mem.1 h o ho
      exact h _ (by kernel_rfl)) g7 hxk ?_ ?_)
    · rw [Ex.cells_eq]
      by_cases hx : x.kids = []
      · simp [ptr, zc, hx, PP, Ex.cellsL, cpl_nil]
      · simp [ptr, zc, PP, cpl_some hx (by omega), hx]
    · rintro env st a8 w8 ⟨p2, p3, p4, p5, p32, q0, q1, p30⟩ g8
      clear g7
      obtain ⟨w9, b', ao, cap, e1, e2, hrun, hG⟩ := GG.turn (C := C1) (ok' := fun id => id < 2) (st' := stOf [some (.box zc), some (.arr 1 ES)]) (u := 30) (t := 23) g8 (by simp) hi.mem hxk rfl (by
        rcases p30 with ⟨h1, h2⟩ | ⟨id, h1, h2, h3, h4⟩
        · refine .inl ⟨h1, h2, ?_⟩
          intro i blk h
          rcases i with _ | _ | i
          · simp [stOf] at h; subst h; exact q0
          · simp [stOf] at h; subst h; exact q1
          · simp [stOf] at h
        · refine .inr ⟨id, h1, h2, h3, ?_⟩
          intro i blk h
          rcases i with _ | _ | i
          · simp [stOf] at h; subst h; exact ⟨by omega, q0⟩
          · simp [stOf] at h; subst h; exact ⟨by omega, q1⟩
          · simp [stOf] at h) (by
        intro i blk h
        rcases i with _ | _ | i
        · simp [stOf] at h; subst h; simp [LitBlk, zc]
        · simp [stOf] at h; subst h; exact hlit
        · simp [stOf] at h) (by
        intro i h
        rcases i with _ | _ | i
        · omega
        · omega
        · simp [stOf] at h)
      have ev5 := g8.litAt (t := 5) p5
      have ev32 := g8.litAt (t := 32) p32
      refine wpOp_store (C := C1) (w' := w9) rfl (by
        show (Instr.storeAt 23 (a8.tmps.getD 32 undef) (a8.tmps.getD 30 undef)).run C1.P w8 = _
        rw [ev32]; exact hrun) ?_
      have g9 := hG (envOf [(2, .own 0 0), (3, .i (ptr (b3, 0))), (4, .osl 1 1 0 init.length), (5, (.i (.iref [.int x.kind, .int x.col, .bool x.val.null, .int x.val.n, .lit (.slice ao x.kids.length cap)])))]) (by
        intro t
        simp only [envOf]
        by_cases h2 : t = 2
        · subst h2; exact .inr (.inr ⟨by simp [p2], by rw [p2]; simp [Stays, stOf]⟩)
        by_cases h3 : t = 3
        · subst h3; exact .inr (.inr ⟨by simp [p3], by rw [p3]; simp [Stays, ptr]⟩)
        by_cases h4 : t = 4
        · subst h4; exact .inr (.inr ⟨by simp [p4], by rw [p4]; simp [Stays, stOf]⟩)
        by_cases h5 : t = 5
        · subst h5; exact .inr (.inl ⟨ev5, by simp⟩)
        · simp [h2, h3, h4, h5])
      clear hG g8
      show Code.wp _ _ _ _ _
      refine wp_seq (wp_mono (GG.codeA sound1 (G := GS 70) (S := { env := [(2, .own 0 0), (3, .i (ptr (b3, 0))), (4, .osl 1 1 0 init.length), (5, (.i (.iref [.int x.kind, .int x.col, .bool x.val.null, .int x.val.n, .lit (.slice ao x.kids.length cap)])))], st := [some (.box zc), some (.arr 1 ES)] }) (e := .normal) (S' := { env := [(0, .junk), (2, .own 0 0), (3, .i (ptr (b3, 0))), (4, .osl 1 1 0 init.length), (5, (.i (.iref [.int x.kind, .int x.col, .bool x.val.null, .int x.val.n, .lit (.slice ao x.kids.length cap)]))), (6, .junk), (13, .junk), (37, .int x.kids.length), (38, .int 0), (39, .junk)], st := [some (.box zc), some (.arr 1 ES)] }) (by kernel_rfl) (by simp [ptr, zc]) g9) ?_)
      rintro _ a10 w10 ⟨rfl, g10⟩
      clear g9
      by_cases hx : x.kids = []
      · refine wp_mono (GG.codeA sound1 (G := GS 70) (S := { env := [(0, .junk), (2, .own 0 0), (3, .i (ptr (b3, 0))), (4, .osl 1 1 0 init.length), (5, (.i (.iref [.int x.kind, .int x.col, .bool x.val.null, .int x.val.n, .lit (.slice ao x.kids.length cap)]))), (6, .junk), (13, .junk), (37, .int x.kids.length), (38, .int 0), (39, .junk)], st := [some (.box zc), some (.arr 1 ES)] }) (e := .normal) (S' := { env := [(0, .junk), (2, .own 0 0), (3, .i (ptr (b3, 0))), (4, .osl 1 1 0 init.length), (5, (.i (.iref [.int x.kind, .int x.col, .bool x.val.null, .int x.val.n, .lit (.slice ao x.kids.length cap)]))), (6, .junk), (13, .junk), (37, .int x.kids.length), (38, .int 0), (39, .bool false)], st := [some (.box zc), some (.arr 1 ES)] }) (by kernel_rfl) (by
          simp only [hx, List.length_nil]
          simp
          rw [execA_loop]
          simp [ptr, zc]) g10) ?_
        rintro _ a11 w11 ⟨rfl, g11⟩
        simp only [exitOf, Exit.then, Exit.inBlock]
        refine ⟨n - 1, by omega, init, ((b, o), x) :: X, K ++ kidsAt b' 0 x.kids, fun k hk => List.mem_append_left _ (hsub k (by simp [hk])), List.mem_append_left _ hb3, ?_, by omega, ?_⟩
        · rw [hx] at hxs; simp [Ex.sizeL] at hxs; omega
        · have hES2 : ((init ++ ((b, o), x) :: X).map fun k => [ptr k.1]) = ES := by rw [← hES]; simp
          simp only [SL, hES2]
          exact g11.envTo (by
            intro t
            simp only [envOf]
            by_cases h2 : t = 2
            · subst h2; simp
            by_cases h3 : t = 3
            · subst h3; simp
            by_cases h4 : t = 4
            · subst h4; simp
            · simp [h2, h3, h4])
      · obtain rfl := e2 hx
        have hET : ES.take init.length = RW init b' 0 := by rw [← hES]; simp [RW]
        have hEL : init.length ≤ ES.length := by rw [← hES]; simp
        have hlim : ∀ i, i ≤ x.kids.length → (init.length + i + 1) * 8 ≤ 140737488355328 := fun i hi => by omega
        have hk0 : x.kids.length ≠ 0 := fun h => hx (List.length_eq_zero_iff.1 h)
        refine wp_mono (GG.codeA sound1 (G := GS 70) (S := { env := [(0, .junk), (2, .own 0 0), (3, .i (ptr (b3, 0))), (4, .osl 1 1 0 init.length), (5, (.i (.iref [.int x.kind, .int x.col, .bool x.val.null, .int x.val.n, .lit (.slice (some ⟨b', 0, none⟩) x.kids.length cap)]))), (6, .junk), (13, .junk), (37, .int x.kids.length), (38, .int 0), (39, .junk)], st := [some (.box zc), some (.arr 1 ES)] }) (e := .normal) (S' := { env := [(0, .junk), (2, .own 0 0), (3, .i (ptr (b3, 0))), (4, .osl 2 1 0 (init.length + x.kids.length)), (5, (.i (.iref [.int x.kind, .int x.col, .bool x.val.null, .int x.val.n, .lit (.slice (some ⟨b', 0, none⟩) x.kids.length cap)]))), (6, .int (x.kids.length - 1)), (13, .junk), (37, .int x.kids.length), (38, .int x.kids.length), (39, .bool false)], st := [some (.box zc), none, some (.arr 1 (RW init b' x.kids.length))] }) (by kernel_rfl) (by
          simp
          rw [loop_to (YS b3 b' cap x init ES) x.kids.length (by simp [YS])]
          · rw [execA_loop]
            simp [YS, hk0, jk_pos hk0, zc, ptr]
          · intro i hi
            have w2 : IntKind.i64.wrap ((i : Int) + 1) = i + 1 := wrap64 (by omega) (by omega)
            have hi0 : (i : Int) < x.kids.length := by omega
            by_cases h0 : i = 0
            · subst h0
              have hl : (init.length + 1) * 8 ≤ 140737488355328 := by omega
              have hR : RW init b' 0 ++ [[.lit (.pointer (some ⟨b', 0, none⟩))]] = RW init b' 1 := by simpa [ptr] using RW_succ init b' 0
              simp [YS, zc, ptr, wrap_1', hi, hET, hEL, hl, hR]
            · have hl := hlim i (by omega)
              have hT : (RW init b' i).take (init.length + i) = RW init b' i := List.take_of_length_le (by rw [RW_len]; omega)
              have hR : RW init b' i ++ [[.lit (.pointer (some ⟨b', i * 5, none⟩))]] = RW init b' (i + 1) := by simpa [ptr] using RW_succ init b' i
              simp [YS, h0, jk_pos h0, zc, ptr, w2, hi, hT, RW_len, hl, hR, ← Nat.add_assoc]) g10) ?_
        rintro _ a11 w11 ⟨rfl, g11⟩
        simp only [exitOf, Exit.then, Exit.inBlock]
        refine ⟨n - 1, by omega, init ++ kidsAt b' 0 x.kids, [], K ++ kidsAt b' 0 x.kids, ?_, List.mem_append_left _ hb3, ?_, by omega, ?_⟩
        · intro k hk
          rcases List.mem_append.1 hk with h | h
          · exact List.mem_append_left _ (hsub k (by simp [h]))
          · exact List.mem_append_right _ h
        · rw [List.map_append, List.sum_append, kidsAt_sum]; omega
        · have g12 := g11.settle [2, 3, 4]
          have hR : List.map (fun k : (Nat × Nat) × Ex => [ptr k.1]) (init ++ kidsAt b' 0 x.kids ++ []) = RW init b' x.kids.length := by
            rw [List.append_nil, List.map_append, kidsAt_map]; simp [RW]
          have hl : (init ++ kidsAt b' 0 x.kids).length = init.length + x.kids.length := by rw [List.length_append, kidsAt_len]
          simp only [SL, hR, hl]
          have hs : Av.settle [2, 3, 4] 0 (envOf [(0, .junk), (2, .own 0 0), (3, .i (ptr (b3, 0))), (4, .osl 2 1 0 (init.length + x.kids.length)), (5, .i (.iref [.int x.kind, .int x.col, .bool x.val.null, .int x.val.n, .lit (.slice (some ⟨b', 0, none⟩) x.kids.length cap)])), (6, .int (x.kids.length - 1)), (13, .junk), (37, .int x.kids.length), (38, .int x.kids.length), (39, .bool false)]) (stOf [some (.box zc), none, some (.arr 1 (RW init b' x.kids.length))]) = { env := [(2, .own 0 0), (3, .i (ptr (b3, 0))), (4, .osl 1 1 0 (init.length + x.kids.length))], st := [some (.box zc), some (.arr 1 (RW init b' x.kids.length))] } := by
            simp [zc, ptr]
          rw [hs] at g12
          exact g12.envTo (by
            intro t
            simp only [envOf]
            by_cases h2 : t = 2
            · subst h2; simp
            by_cases h3 : t = 3
            · subst h3; simp
            by_cases h4 : t = 4
            · subst h4; simp
            · simp [h2, h3, h4])
theorem load_run {w : World} {m : Mem} {φ : Pl} {st : Store} {t : TypeId} {a v : AV} {x : Value} (hi : Inv w m φ st) (hr : Rep m φ a x) (h : loadA C1 t a st = some v) : ∃ y, (Instr.loadAt t x).run C1.P w = .ok y w ∧ Rep m φ v y := by
  obtain ⟨ad, y, k1, k2, k3⟩ := loadA_sound hi hr h
  exact ⟨y, by subst k1; simpa [Instr.loadAt, Instr.sureAddr] using k2, k3⟩
theorem inv_none {w : World} {m : Mem} (h : MemOk w m) : Inv w m (fun _ => none) (stOf []) := ⟨h, fun id blk e => (by simp [stOf] at e), fun i j b b' n n' b1 b2 f e => (by simp [stOf] at e), fun _ _ _ _ e => (by cases e)⟩
theorem copied_calls {e : Ex} (he : e.size < 1000000000) {wi : World} {mi : Mem} {φ : Pl} {vs : List Value} (hi : Inv wi mi φ (stOf [])) (hr : RepL mi φ [.i (.iref e.cells)] vs) (h0 : ∀ id, φ id ≠ none → id < 0) :
    Calls Try.prog 70 vs.toArray wi (CallPost wi mi φ (.i (.agg e.cells)) []) := by
  obtain rfl : φ = fun _ => none := by
    funext id
    cases h : φ id with
    | none => rfl
    | some p => exact absurd (h0 id (by rw [h]; simp)) (Nat.not_lt_zero _)
  cases hr with
  | cons h1 h2 =>
    cases h2
    have hp := h1
    cases h1 with
    | i h1 => cases h1 with
      | iref ha =>
        refine copied_at he hi fun w' hs hw => ?_
        obtain ⟨y, k1, k2⟩ := load_run (t := 87) (v := .i (.agg e.cells)) (hi.later hs hw) hp (by rw [Ex.cells_eq]; simp)
        cases k2 with
        | i k2 => exact ⟨y, k1, k2⟩
theorem copied_row {e : Ex} (he : e.size < 1000000000) {w : World} {m : Mem} {φ : Pl} {vs : List Value} {es : List (List IV)} {j : Nat} (hes : es[j]? = some e.cells) (hi : Inv w m φ (stOf [some (.arr 5 es)])) (hr : RepL m φ [.ownE 0 5 j 0] vs) (h0 : ∀ id, φ id ≠ none → id < 1) :
    Calls Try.prog 70 vs.toArray w (CallPost w m φ (.i (.agg e.cells)) [some (.arr 5 es)]) := by
  cases hr with
  | cons h1 h2 =>
    cases h2
    have hp := h1
    cases h1 with
    | ownE hφ =>
      refine (copied_at he (inv_none hi.mem) fun w' hs hw => ?_).mono ?_
      · obtain ⟨y, k1, k2⟩ := load_run (t := 87) (v := .i (.agg e.cells)) (hi.later hs hw) hp (by
          have h5 := hes
          rw [← nthE_eq] at h5
          rw [Ex.cells_eq] at h5 ⊢; simp [h5])
        cases k2 with
        | i k2 => exact ⟨y, k1, k2⟩
      · rintro en w' ⟨v, m', φ', rfl, j1, j2, j3, j4⟩
        have free0 : ∀ b, Free (fun _ => none) b := fun b id r n e => by cases e
        have hsame : ∀ f, f < w.heap.size → w'.heap[f]? = w.heap[f]? := fun f hf => j3.block f hf (free0 f)
        refine ⟨v, m', φ, rfl, ?_, ⟨j2.mem, fun id blk hb => ?_, hi.inj, fun id b n f e ho => Nat.lt_of_lt_of_le (hi.low id b n f e ho) j3.size⟩, ⟨j3.size, j3.os, j3.tape, j3.output, fun b hb' _ => hsame b hb', j3.mle, fun b hb' _ o => j3.mnew b hb' (free0 b) o, .refl _, fun _ _ _ _ e ho => .inr (Free.not e ho)⟩, h0⟩
        · cases j1 with
          | i j1 => exact .i j1
        · obtain ⟨b, n, k1, k2, k3⟩ := hi.live id blk hb
          exact ⟨b, n, k1, ⟨k2.1, fun f hf => Nat.lt_of_lt_of_le (k2.2 f hf) j3.size⟩, k3.mono k2.1 (fun f hf => hsame f (k2.2 f hf)) j3.mle (.refl _) fun f hf o => j3.mnew f (k2.2 f hf) (free0 f) o⟩
end Go.Proofs.Yteihcffblfdgfaa

/- The context's ready contracts are right; the first law's contract. No condition. -/
namespace Go.Proofs.Yteihcffblfdgfaa
open Go Go.Av
theorem prim_only {g : FuncId} {q : List AV → StL → Option (AV × StL)} (h : C0.prim g = some q) : g = 70 ∧ q = copyE := by
  have h : primF g = some q := h
  unfold primF at h
  split at h
  · injection h with h; exact ⟨rfl, h.symm⟩
  · cases h
theorem prim0 : PrimOk C0 := by
  constructor
  · intro g args st p h
    unfold primCall at h
    cases hq : C0.prim g with
    | none => rw [hq] at h; cases h
    | some q =>
      obtain ⟨rfl, rfl⟩ := prim_only hq
      exact ⟨Try.f70, Try.func70, by decide, rfl⟩
  · intro g args stl r stl' h w m φ vs hi hr h0
    unfold primCall at h
    cases hq : C0.prim g with
    | none => rw [hq] at h; cases h
    | some q =>
      obtain ⟨rfl, rfl⟩ := prim_only hq
      rw [hq] at h
      obtain ⟨e, he, hres, hor⟩ := copyE_some h
      injection hres with h1 h2
      subst h1; subst h2
      rcases hor with ⟨rfl, rfl⟩ | ⟨j, es, rfl, rfl, hes⟩
      · exact copied_calls he hi hr h0
      · exact copied_row he hes hi hr h0
theorem sound0 : SoundOk C0 := sound_ok (C := C0) ft nt eqS mo prim0
end Go.Proofs.Yteihcffblfdgfaa

/- The context of the laws on views: what may be done with boxes and lists that stay the caller's. No condition. -/
namespace Go.Proofs.Yteihcffblfdgfaa
open Go Go.Av
set_option maxRecDepth 4000
noncomputable def primP : FuncId → Option (List AV → StL → Option (AV × StL))
  | 1000000007 => none
  | 3 => none
  | 4 => none
  | 7 => none
  | 24 => none
  | 58 => none
  | 61 => none
  | 8 => none
  | 11 => none
  | 14 => none
  | 60 => some (lookC (callA C0) 60)
  | 28 => some (frz1 (callA C0) 28)
  | 35 => some (frz1 (callA C0) 35)
  | 64 => some (frzO (callA C0) 64)
  | g => some (callA C0 g)
def ownP : FuncId → Bool
  | 60 => true
  | g => ownA g
@[simp] theorem ownP_eq (g : FuncId) : ownP g = if g = 60 then true else ownA g := by
  unfold ownP; split
  · rfl
  · rename_i h; rw [if_neg h]
noncomputable def CP : Ctx := { P := Try.prog, G := GS, ownArgs := ownP, keepRes := keepR, eqT := eqTy, prim := primP }
@[simp] theorem CP_P : CP.P = Try.prog := (rfl)
@[simp] theorem CP_G (f) : CP.G f = GS f := (rfl)
@[simp] theorem CP_o (f) : CP.ownArgs f = ownP f := (rfl)
@[simp] theorem CP_k (f) : CP.keepRes f = keepR f := (rfl)
@[simp] theorem CP_e (f) : CP.eqT f = eqTy f := (rfl)
@[simp] theorem CP_t : CP.tree = false := (rfl)
theorem primP0 : PrimOk CP := by
  have h0 := callA_sound sound0
  have key : ∀ g q, CP.prim g = some q → g ≠ yldF ∧ (q = callA C0 g ∨ q = lookC (callA C0) g ∨ q = frz1 (callA C0) g ∨ q = frzO (callA C0) g) := by
    intro g q h
    have h : primP g = some q := h
    unfold primP at h
    split at h
    all_goals first
      | (cases h; done)
      | (injection h with h; subst h; exact ⟨by decide, .inr (.inl rfl)⟩)
      | (injection h with h; subst h; exact ⟨by decide, .inr (.inr (.inl rfl))⟩)
      | (injection h with h; subst h; exact ⟨by decide, .inr (.inr (.inr rfl))⟩)
      | (injection h with h; subst h; exact ⟨by assumption, .inl rfl⟩)
  constructor
  · intro g args st p h
    unfold primCall at h
    cases hq : CP.prim g with
    | none => rw [hq] at h; cases h
    | some q =>
      rw [hq] at h
      obtain ⟨hy, hor⟩ := key g q hq
      rcases hor with rfl | rfl | rfl | rfl
      · exact h0.name _ _ _ _ hy h
      · exact (look_sound h0 (r := p.1) (stl' := p.2) h hy).1
      · exact (frz1_sound h0 (r := p.1) (stl' := p.2) h hy).1
      · exact (frzO_sound h0 (r := p.1) (stl' := p.2) h hy).1
  · intro g args st r st' h w m φ vs hi hr hb
    unfold primCall at h
    cases hq : CP.prim g with
    | none => rw [hq] at h; cases h
    | some q =>
      rw [hq] at h
      obtain ⟨hy, hor⟩ := key g q hq
      rcases hor with rfl | rfl | rfl | rfl
      · exact h0.calls _ _ _ _ _ hy h w m φ vs hi hr hb
      · exact (look_sound h0 h hy).2 w m φ vs hi hr hb
      · exact (frz1_sound h0 h hy).2 w m φ vs hi hr hb
      · exact (frzO_sound h0 h hy).2 w m φ vs hi hr hb
theorem soundP : SoundOk CP := sound_ok (C := CP) ft nt eqS mo primP0
end Go.Proofs.Yteihcffblfdgfaa

/- FoldView, both ways; the size of a plan. No condition. -/
namespace Go.Av
/-- Whether there is a table of the view's width. -/
def canB (v : Pn) (ws : List Int) (t : Int) : Bool := decide (v.width ws ≠ 0) && (decide (0 ≤ t) && (decide (t < ws.length) && decide (ws[t.toNat]? = some (v.width ws))))
def fvOk (p v : Pn) (ws : List Int) (t : Int) : Bool := decide (p.width ws ≠ 0) && canB v ws t
/-- What FoldView returns. -/
def fvP (p v : Pn) (ws : List Int) (t : Int) : Pn := if fvOk p v ws t = true then foldP v t p else Pn.zero
def fvN (p v : Pn) (ws : List Int) (t : Int) : Int := if fvOk p v ws t = true then cntP v p else -1
def szP (p : Pn) (ws : List Int) : Int := if p.width ws = 0 then 0 else p.size
theorem width_ws {p : Pn} {ws : List Int} (h : p.width ws ≠ 0) : okWs ws = true := by
  unfold Pn.width at h
  exact (ite_ne h).1
theorem okWs_pos {ws : List Int} (h : okWs ws = true) {i : Nat} {w : Int} (hw : ws[i]? = some w) : 1 ≤ w := by
  simp only [okWs, Bool.and_eq_true, List.all_eq_true] at h
  have := h.2 w (List.mem_of_getElem? hw)
  simp [okWidth] at this; omega
end Go.Av
namespace Go.Proofs.Yteihcffblfdgfaa.P
open Go Go.Av
set_option maxRecDepth 4000
set_option maxHeartbeats 4000000
theorem canHold_eq (v : Pn) (ws : List Int) (t : Int) : callA C0 27 [.i (.agg v.cells), .i (.isl (intsL ws)), .int t] [] = some (.bool (canB v ws t), []) := by
  have hv := planWidth_eq v ws
  rw [callA_eq rfl Try.func27 rfl rfl]
  unfold canB
  rw [Pn.cells_eq] at hv ⊢
  by_cases h1 : v.width ws = 0
  · simp [hv, h1]
  by_cases h2 : 0 ≤ t
  case neg => simp [hv, h1, h2]
  by_cases h3 : t < ws.length
  case neg => simp [hv, h1, h2, h3]
  have hlt : t.toNat < ws.length := by omega
  have h4 := List.getElem?_eq_getElem hlt
  generalize ws[t.toNat] = x at h4
  obtain ⟨_, h4'⟩ := List.getElem?_eq_some_iff.1 h4
  have r2 := intsL_nth h4
  by_cases h5 : x = v.width ws
  · simp [hv, h1, h2, h3, r2, h4', h5]
  · have hb : (x == v.width ws) = false := by simpa using h5
    simp [hv, h1, h2, h3, r2, h4', h5, hb]
theorem validView_eq (p v : Pn) (hp : p.lim) (hv : v.lim) (ws : List Int) (hl : ws.length < 9223372036854775808) (t : Int) : callA C0 31 [.i (.agg p.cells), .i (.agg v.cells), .i (.isl (intsL ws)), .int t] [] = some (.bool (fvOk p v ws t), []) := by
  have e1 := widthOf_eq p hp ws hl
  have e2 := widthOf_eq v hv ws hl
  have g1 := Pn.width_range (p := p) (ws := ws)
  have g2 := Pn.width_range (p := v) (ws := ws)
  have w2 : IntKind.i64.wrap ((ws.length : Int) - 1) = ws.length - 1 := wrap64 (by omega) (by omega)
  rw [callA_eq rfl Try.func31 rfl rfl]
  unfold fvOk canB
  rw [Pn.cells_eq p] at e1 ⊢
  rw [Pn.cells_eq v] at e2 ⊢
  by_cases h1 : p.width ws = 0
  · simp [e1, h1]
  have h1' : 0 < p.width ws := by omega
  by_cases h2 : 0 ≤ t
  case neg => simp [e1, h1, h1', h2, w2]
  by_cases h3 : t < ws.length
  case neg => simp [e1, h1, h1', h2, h3, w2, show ¬ t ≤ (ws.length : Int) - 1 by omega]
  have hlt : t.toNat < ws.length := by omega
  have h4 := List.getElem?_eq_getElem hlt
  generalize ws[t.toNat] = x at h4
  obtain ⟨_, h4'⟩ := List.getElem?_eq_some_iff.1 h4
  have r2 := intsL_nth h4
  have hx := okWs_pos (width_ws h1) h4
  by_cases h5 : v.width ws = x
  · have h6 : ¬ x = 0 := by omega
    simp [e1, e2, h1, h1', h2, h3, r2, h4', h5, w2, h6, show t ≤ (ws.length : Int) - 1 by omega]
  · have h5' : ¬ x = v.width ws := fun e => h5 e.symm
    have hb : (v.width ws == x) = false := by simpa using h5
    simp [e1, e2, h1, h1', h2, h3, r2, h4', h5, h5', hb, w2, show t ≤ (ws.length : Int) - 1 by omega]
theorem cntP_lt {p v : Pn} {ws : List Int} (h : p.width ws ≠ 0) : cntP v p < 512 := by
  have := (Pn.width_fit h).2
  have := cntP_size v p
  omega
theorem sFoldView_eq (p v : Pn) (hp : p.thin) (hv : v.thin) (ws : List Int) (hl : ws.length < 9223372036854775808) (t : Int) : callA C0 9 [.i (.agg p.cells), .i (.agg v.cells), .i (.isl (intsL ws)), .int t] [] = some (.tup [.i (.agg (fvP p v ws t).cells), .int (fvN p v ws t)], []) := by
  have e1 := validView_eq p v (Pn.thin_lim p hp) (Pn.thin_lim v hv) ws hl t
  rw [callA_eq rfl Try.func9 rfl rfl]
  unfold fvP fvN
  cases h : fvOk p v ws t with
  | false =>
    rw [h] at e1
    rw [Pn.cells_eq p, Pn.cells_eq v] at *
    simp [e1, Pn.zero, Pn.cells, Ex.cellsL, intsL, Pn.cellsL]
  | true =>
    rw [h] at e1
    have hw : p.width ws ≠ 0 := by unfold fvOk at h; simp at h; exact h.1
    have e2 := sfold_eq (v := v) (t := t) p hp (by have := cntP_lt (v := v) hw; omega)
    simp only [if_true]
    rw [Pn.cells_eq (foldP v t p)] at *
    rw [Pn.cells_eq p, Pn.cells_eq v] at *
    simp [e1, e2]
end Go.Proofs.Yteihcffblfdgfaa.P

/- FoldView and PlanSize, as the program has them. No condition. -/
namespace Go.Proofs.Yteihcffblfdgfaa.P
open Go Go.Av
set_option maxRecDepth 4000
set_option maxHeartbeats 4000000
@[simp] theorem cp_planWidth (a : List AV) (st : StL) : callA CP 26 a st = callA C0 26 a st := by rw [callA_prim (p := callA C0 26) rfl]
@[simp] theorem cp_canHold (a : List AV) (st : StL) : callA CP 27 a st = callA C0 27 a st := by rw [callA_prim (p := callA C0 27) rfl]
theorem cp_withParts {p v : Pn} (hp : p.thin) (hy : p.tiny) {t : Int} (hn : cntP v p < 1000000000000) : callA CP 28 [.own 0 0, .fn (.func 29) [.own 1 0, .own 2 0, .own 3 0]] [some (.box (impI p.cells)), some (.box (impI v.cells)), some (.box [.int 0]), some (.box [.int t])] =
    some (.i (.agg (foldP v t p).cells), [some (.fbox p.cells), some (.fbox v.cells), some (.box [.int (cntP v p : Nat)]), some (.box [.int t])]) := by
  have h := withF_eq (v := v) (t := t) p hp hy false 0 (by omega)
  rw [Pn.cells_eq p, Pn.cells_eq v]
  simp only [Fst, vB, Nat.zero_add, if_true, Bool.false_eq_true, if_false] at h
  rw [Pn.cells_eq p, Pn.cells_eq v] at h
  rw [callA_prim (p := frz1 (callA C0) 28) rfl]
  unfold frz1
  simp at h
  simp [h]
theorem FoldView_eq (p v : Pn) (hp : p.thin) (ws : List Int) (t : Int) : callA CP 8 [.i (.agg p.cells), .i (.agg v.cells), .i (.isl (intsL ws)), .int t] [] = some (.tup [.i (.agg (fvP p v ws t).cells), .int (fvN p v ws t)], []) := by
  have e1 := planWidth_eq p ws
  have e2 := canHold_eq v ws t
  rw [callA_eq rfl Try.func8 rfl rfl]
  unfold fvP fvN fvOk
  by_cases h1 : p.width ws = 0
  · rw [Pn.cells_eq p, Pn.cells_eq v] at *
    simp [e1, e2, h1, Pn.zero, Pn.cells, Ex.cellsL, intsL, Pn.cellsL]
  cases h2 : canB v ws t with
  | false =>
    rw [h2] at e2
    rw [Pn.cells_eq p, Pn.cells_eq v] at *
    simp [e1, e2, h1, Pn.zero, Pn.cells, Ex.cellsL, intsL, Pn.cellsL]
  | true =>
    rw [h2] at e2
    have e3 := cp_withParts (v := v) (t := t) hp (Pn.width_fit h1).1 (by have := cntP_lt (v := v) h1; omega)
    simp only [h1, ne_eq, not_false_eq_true, decide_true, Bool.and_self, if_true]
    rw [Pn.cells_eq (foldP v t p)] at *
    rw [Pn.cells_eq p, Pn.cells_eq v] at *
    simp at e3
    simp [e1, e2, h1, e3]
theorem one_part (c : List IV) {n : Nat} (hn : n < 1000000000000) : callA C0 36 [.i (.iref c), .own 0 0] [some (.box [.int n])] = some (.tup [], [some (.box [.int ((n + 1 : Nat) : Int)])]) := by
  have w2 : IntKind.i64.wrap ((n : Int) + 1) = n + 1 := wrap64 (by omega) (by omega)
  rw [callA_eq rfl Try.func36 rfl rfl]
  simp [w2]
def EPX (p : Pn) (n : Nat) (i : Nat) : AS :=
  { env := [(0, .i (.iref [.int p.kind, .int p.table, .isl (Ex.cellsL p.exprs), .isl (intsL p.cols), .isl (Pn.cellsL p.kids)])), (1, .fn (.func 36) [.own 0 0]), (4, jk i (.int (i - 1))), (12, .int p.kids.length), (13, .int i), (14, jk i (.bool true))],
    st := [some (.box [.int ((n + 1 + Pn.sizeL (p.kids.take i) : Nat) : Int)])] }
theorem each_eq : ∀ (p : Pn), p.thin → ∀ n : Nat, n + p.size < 1000000000000 → callA C0 35 [.i (.iref p.cells), .fn (.func 36) [.own 0 0]] [some (.box [.int n])] = some (.tup [], [some (.box [.int ((n + p.size : Nat) : Int)])]) := by
  intro p
  induction p using Pn.ind with
  | h k tb es cs ks ih =>
    intro ht n hn
    generalize hp : Pn.mk k tb es cs ks = p at *
    have hks : ks = p.kids := by rw [← hp]; rfl
    subst hks
    obtain ⟨t1, t2, t3, t4, t5⟩ := (Pn.thin_iff _).1 ht
    have hsz := Pn.size_eq p
    have hone := one_part [.int p.kind, .int p.table, .isl (Ex.cellsL p.exprs), .isl (intsL p.cols), .isl (Pn.cellsL p.kids)] (n := n) (by omega)
    simp only [Int.natCast_add, Int.natCast_one] at hone
    rw [callA_eq rfl Try.func35 rfl rfl, Pn.cells_eq]
    simp [hone]
    rw [loop_to (EPX p n) p.kids.length (by simp [EPX, Pn.sizeL])]
    · rw [execA_loop]
      simp [EPX, hsz, ← Int.add_assoc]
    · intro i hi
      have h3 := List.getElem?_eq_getElem hi
      have hm := List.mem_of_getElem? h3
      have r2 := Pn.cellsL_nth h3
      have htk := take_snoc h3
      generalize p.kids[i] = a at h3 hm r2 htk
      have hle : Pn.sizeL (p.kids.take i) + a.size ≤ Pn.sizeL p.kids := by
        have h := Pn.sizeL_append (p.kids.take (i + 1)) (p.kids.drop (i + 1))
        rw [List.take_append_drop, htk, Pn.sizeL_append] at h
        simp only [Pn.sizeL] at h; omega
      have hk := ih a hm (t5 a hm) (n + 1 + Pn.sizeL (p.kids.take i)) (by omega)
      have w2 : IntKind.i64.wrap ((i : Int) + 1) = i + 1 := wrap64 (by omega) (by omega)
      rw [Pn.cells_eq a] at r2 hk
      simp only [Int.natCast_add, Int.natCast_one] at hk
      have hsn : Pn.sizeL (p.kids.take i ++ [a]) = Pn.sizeL (p.kids.take i) + a.size := by rw [Pn.sizeL_append]; simp [Pn.sizeL]
      by_cases h0 : i = 0
      · subst h0; simp [Pn.sizeL] at hk hsn; simp [EPX, hi, r2, hk, wrap_1, htk, hsn, Pn.sizeL]
      · simp only [Int.add_assoc] at hk; simp [EPX, jk_pos h0, hi, r2, hk, w2, htk, hsn, Int.add_assoc]
theorem cp_each {p : Pn} (hp : p.thin) (hn : p.size < 1000000000000) : callA CP 35 [.own 0 0, .fn (.func 36) [.own 1 0]] [some (.box (impI p.cells)), some (.box [.int 0])] = some (.tup [], [some (.fbox p.cells), some (.box [.int (p.size : Nat)])]) := by
  have h := each_eq p hp 0 (by omega)
  rw [Pn.cells_eq p] at h ⊢
  rw [callA_prim (p := frz1 (callA C0) 35) rfl]
  unfold frz1
  simp at h
  simp [h]
theorem PlanSize_eq (p : Pn) (hp : p.thin) (ws : List Int) : callA CP 11 [.i (.agg p.cells), .i (.isl (intsL ws))] [] = some (.int (szP p ws), []) := by
  have e1 := planWidth_eq p ws
  rw [callA_eq rfl Try.func11 rfl rfl]
  unfold szP
  by_cases h1 : p.width ws = 0
  · rw [Pn.cells_eq p] at *
    simp [e1, h1]
  · have e3 := cp_each hp (by have := (Pn.width_fit h1).2; omega)
    rw [Pn.cells_eq p] at *
    simp at e3
    simp [e1, h1, e3]
end Go.Proofs.Yteihcffblfdgfaa.P

/- What the drawing of plans calls. No condition. -/
namespace Go.Proofs.Yteihcffblfdgfaa.P
open Go Go.Av
set_option maxRecDepth 4000
set_option maxHeartbeats 4000000
@[simp] theorem cp_pick (a : List AV) (st : StL) : callA CP 59 a st = callA C0 59 a st := by rw [callA_prim (p := callA C0 59) rfl]
@[simp] theorem cp_one (a : List AV) (st : StL) : callA CP 65 a st = callA C0 65 a st := by rw [callA_prim (p := callA C0 65) rfl]
@[simp] theorem cp_cond (a : List AV) (st : StL) : callA CP 63 a st = callA C0 63 a st := by rw [callA_prim (p := callA C0 63) rfl]
@[simp] theorem cp_expr (a : List AV) (st : StL) : callA CP 83 a st = callA C0 83 a st := by rw [callA_prim (p := callA C0 83) rfl]
@[simp] theorem cp_filterOf (a : List AV) (st : StL) : callA CP 62 a st = callA C0 62 a st := by rw [callA_prim (p := callA C0 62) rfl]
@[simp] theorem cp_widths (a : List AV) (st : StL) : callA CP 57 a st = callA C0 57 a st := by rw [callA_prim (p := callA C0 57) rfl]
@[simp] theorem cp_newReader (a : List AV) (st : StL) : callA CP 25 a st = callA C0 25 a st := by rw [callA_prim (p := callA C0 25) rfl]
theorem cp_copyPlan (p : Pn) (hp : p.thin) : callA CP 64 [.i (.agg p.cells)] [] = some (.i (.agg p.cells), []) := by
  have h := copyPlan_eq p hp
  rw [callA_prim (p := frzO (callA C0) 64) rfl]
  unfold frzO
  by_cases he : p.exprs = []
  · by_cases hk : p.kids = []
    · simp [pcX, pcS, hk, he, Pn.cellsL, Ex.cellsL] at h
      simp [h]
      rw [Pn.cells_eq]; simp [hk, he, Pn.cellsL, Ex.cellsL]
    · have hkl : p.kids.length ≠ 0 := fun h => hk (List.length_eq_zero_iff.1 h)
      simp [pcX, pcS, hk, he, gro_pos hkl, groB_pos hkl, Ex.cellsL] at h
      simp [h]
      rw [Pn.cells_eq]; simp [hk, he, Ex.cellsL]
  · have hel : p.exprs.length ≠ 0 := fun h => he (List.length_eq_zero_iff.1 h)
    by_cases hk : p.kids = []
    · simp [pcX, pcS, hk, he, gro_pos hel, groB_pos hel, Pn.cellsL] at h
      simp [h]
      rw [Pn.cells_eq]; simp [hk, he, Pn.cellsL]
    · have hkl : p.kids.length ≠ 0 := fun h => hk (List.length_eq_zero_iff.1 h)
      simp [pcX, pcS, hk, he, gro_pos hel, groB_pos hel, gro_pos hkl, groB_pos hkl] at h
      simp [h]
      rw [Pn.cells_eq]
@[simp] theorem bareLL_ints : ∀ l : List Int, bareLL (intsL l) = true
  | [] => by simp [intsL, bareLL]
  | x :: l => by simp [intsL, bareLL, bareL, bareC, bareLL_ints l]
theorem splanWidth_own {ws : List Int} (hw : ∀ w ∈ ws, 0 ≤ w ∧ w ≤ 6) (hwl : ws.length < 1000000) {k : Nat} (hk0 : 0 < k) (hk : k ≤ ws.length) (p : Pn) (hp : p.thin) : callA CP 60 [.i (.agg p.cells), .osl 0 1 0 k, .int 8] [some (.arr 1 (intsL ws))] = some (.int (p.wd (ws.take k) 8), [some (.arr 1 (intsL ws))]) := by
  have h := splanWidth_eq (ws := ws.take k) (fun w hm => hw w (List.mem_of_mem_take hm)) (by simp; omega) p (Pn.thin_lim p hp) 8 (by omega)
  rw [callA_prim (p := lookC (callA C0) 60) rfl]
  unfold lookC
  simp at h
  simp [viewWs, viewW, h, hk, hk0, bareC]
def filtP (e : Ex) (p : Pn) : Pn := .mk 2 0 [e] [] [p]
theorem filtP_cells (e : Ex) (p : Pn) : (filtP e p).cells = [.int 2, .int 0, .isl [e.cells], .isl [], .isl [p.cells]] := by simp [filtP, Pn.cells, Ex.cellsL, intsL, Pn.cellsL]
theorem filterOf_eq (e : Ex) (p : Pn) : callA C0 62 [.i (.agg e.cells), .i (.agg p.cells)] [] = some (.i (.agg (filtP e p).cells), []) := by
  rw [callA_eq rfl Try.func62 rfl rfl, filtP_cells, Ex.cells_eq, Pn.cells_eq]
  simp
theorem filtP_thin {e : Ex} {p : Pn} (he : e.size < 1000000) (hp : p.thin) : (filtP e p).thin := by
  have := Ex.thin_of_size e (by omega)
  simp [filtP, Pn.thin, Pn.thinL, this, hp]
theorem randomWidths_eq (l : List UInt8) (hl : l.length ≤ 2000) (p : Int) (h0 : 0 ≤ p) (h1 : p < 900000000) : ∃ (a b : Int) (r : List Int) (p' : Int), callA C0 57 [.own 0 0] [Rd l p] = some (.osl 1 1 0 (r.length + 2), [Rd l p', some (.arr 1 (intsL (a :: b :: r)))]) ∧ p ≤ p' ∧ p' ≤ p + 4 ∧ 1 ≤ a ∧ a ≤ 2 ∧ 1 ≤ b ∧ b ≤ 2 ∧ r.length ≤ 1 := by
  obtain ⟨n, hn, hn1, -⟩ := pick_eq l p 2 h0 (by omega) hl
  obtain ⟨a, ha, ha1, -⟩ := pick_eq l (p + 1) 2 (by omega) (by omega) hl
  obtain ⟨b, hb, hb1, -⟩ := pick_eq l (p + 1 + 1) 2 (by omega) (by omega) hl
  have wa : IntKind.i64.wrap (1 + a) = 1 + a := wrap64 (by omega) (by omega)
  have wb : IntKind.i64.wrap (1 + b) = 1 + b := wrap64 (by omega) (by omega)
  have w2 : IntKind.i64.wrap (2 : Int) = 2 := wrap64 (by omega) (by omega)
  have w3 : IntKind.i64.wrap (3 : Int) = 3 := wrap64 (by omega) (by omega)
  have w1 := wrap_1
  have w0 : IntKind.i64.wrap (0 : Int) = 0 := wrap64 (by omega) (by omega)
  obtain ⟨n0, n1⟩ := hn1 (by omega)
  have hn2 : n = 0 ∨ n = 1 := by omega
  rcases hn2 with rfl | rfl
  · refine ⟨1 + a, 1 + b, [], p + 1 + 1 + 1, ?_, by omega, by omega, by omega, by omega, by omega, by omega, by simp⟩
    rw [callA_eq rfl Try.func57 rfl rfl]
    simp [hn, w2]
    rw [execA_loop]; simp [ha, wa, w1]
    rw [execA_loop]; simp [hb, wb, w0]
    rw [execA_loop]; simp [intsL]
  · obtain ⟨c, hc, hc1, -⟩ := pick_eq l (p + 1 + 1 + 1) 2 (by omega) (by omega) hl
    have wc : IntKind.i64.wrap (1 + c) = 1 + c := wrap64 (by omega) (by omega)
    refine ⟨1 + a, 1 + b, [1 + c], p + 1 + 1 + 1 + 1, ?_, by omega, by omega, by omega, by omega, by omega, by omega, by simp⟩
    rw [callA_eq rfl Try.func57 rfl rfl]
    simp [hn, w3]
    rw [execA_loop]; simp [ha, wa, w2]
    rw [execA_loop]; simp [hb, wb, w1]
    rw [execA_loop]; simp [hc, wc, w0]
    rw [execA_loop]; simp [intsL]
end Go.Proofs.Yteihcffblfdgfaa.P

/- Drawing plans. No condition. -/
namespace Go.Proofs.Yteihcffblfdgfaa.P
open Go Go.Av
set_option maxRecDepth 4000
set_option maxHeartbeats 8000000
def PSt (l : List UInt8) (ws : List Int) (k : Nat) (j u p : Int) : StL := [some (.box [.own 1 0, .osl 2 1 0 k, .int j, .int u]), Rd l p, some (.arr 1 (intsL ws))]
/-- What is drawn by 'plan'. -/
def PlanOk (l : List UInt8) (ws : List Int) (k d j c : Nat) : Prop := ∀ p u : Int, 0 ≤ p → p + c < 300000000 → 0 ≤ u → u ≤ 1 → ∃ (P : Pn) (p' u' : Int) (j' : Nat),
    callA CP 58 [.own 0 0, .int d] (PSt l ws k j u p) = some (.i (.agg P.cells), PSt l ws k j' u' p') ∧ P.thin ∧ p ≤ p' ∧ p' ≤ p + c ∧ j' ≤ j ∧ 0 ≤ u' ∧ u' ≤ 1
theorem scan_cells (t : Int) : (Pn.scan t).cells = [.int 1, .int t, .isl [], .isl [], .isl []] := by simp [Pn.scan, Pn.cells, Ex.cellsL, intsL, Pn.cellsL]
theorem plan_zero {l : List UInt8} (hl : l.length ≤ 2000) {ws : List Int} {k : Nat} (j : Nat) : PlanOk l ws k 0 j 1 := by
  intro p u h0 h1 hu0 hu1
  obtain ⟨t, ht, -, -⟩ := pick_eq l p k h0 (by omega) hl
  refine ⟨.scan t, p + 1, u, j, ?_, Pn.scan_thin t, by omega, by omega, by omega, by omega, by omega⟩
  rw [callA_eq rfl Try.func58 rfl rfl]
  simp [PSt, ht, scan_cells]
theorem plan_filter0 {l : List UInt8} (hl : l.length ≤ 2000) {ws : List Int} {k : Nat} {d j c2 : Nat} {p u t v W kk p1 u1 : Int} {j1 : Nat} {K : Pn} (hd : d < 100) (h1 : p1 + 400 + c2 < 300000000) (hp1 : 0 ≤ p1) (hu0 : 0 ≤ u1) (hu1 : u1 ≤ 1) (hW0 : 0 ≤ W) (hW6 : W ≤ 6) (hK : K.thin)
    (ht : callA C0 59 [.own 0 0, .int k] [Rd l p] = some (.int t, [Rd l (p + 1)])) (hv : callA C0 59 [.own 0 0, .int 6] [Rd l (p + 1)] = some (.int v, [Rd l (p + 1 + 1)])) (v0 : ¬ v = 0)
    (hkid : callA CP 58 [.own 0 0, .int d] (PSt l ws k j u (p + 1 + 1)) = some (.i (.agg K.cells), PSt l ws k j1 u1 p1))
    (hW : callA CP 60 [.i (.agg K.cells), .osl 0 1 0 k, .int 8] [some (.arr 1 (intsL ws))] = some (.int W, [some (.arr 1 (intsL ws))]))
    (hkk : callA C0 59 [.own 0 0, .int 10] [Rd l p1] = some (.int kk, [Rd l (p1 + 1)])) (hq : kk = 0) : ∃ (P : Pn) (p' u' : Int) (j' : Nat), callA CP 58 [.own 0 0, .int ((d + 1 : Nat) : Int)] (PSt l ws k j u p) = some (.i (.agg P.cells), PSt l ws k j' u' p') ∧ P.thin ∧ p1 ≤ p' ∧ p' ≤ p1 + 400 + c2 ∧ j' ≤ j1 ∧ 0 ≤ u' ∧ u' ≤ 1 := by
  have we : IntKind.i64.wrap (d : Int) = d := wrap64 (by omega) (by omega)
  have wn : ¬ ((d : Int) + 1 = 0) := by omega
  simp only [PSt] at hkid
  rw [Pn.cells_eq K] at hkid hW
  obtain ⟨e, p2, he, a1, a2, a3⟩ := randomCondition_eq l hl W (p1 + 1) (by omega) (by omega)
  have hf := filterOf_eq e K
  rw [filtP_cells, Pn.cells_eq K, Ex.cells_eq e] at hf
  rw [Ex.cells_eq e] at he
  refine ⟨filtP e K, p2, u1, j1, ?_, filtP_thin (by omega) hK, by omega, by omega, by omega, by omega, by omega⟩
  rw [callA_eq rfl Try.func58 rfl rfl]
  simp [PSt, ht, hv, v0, we, hkid, hW, hkk, wn, hq, he, hf, filtP_cells, Pn.cells_eq K, Ex.cells_eq e]
theorem plan_filter1 {l : List UInt8} (hl : l.length ≤ 2000) {ws : List Int} {k : Nat} {d j c2 : Nat} {p u t v W kk p1 u1 : Int} {j1 : Nat} {K : Pn} (hd : d < 100) (h1 : p1 + 400 + c2 < 300000000) (hp1 : 0 ≤ p1) (hu0 : 0 ≤ u1) (hu1 : u1 ≤ 1) (hW0 : 0 ≤ W) (hW6 : W ≤ 6) (hK : K.thin)
    (ht : callA C0 59 [.own 0 0, .int k] [Rd l p] = some (.int t, [Rd l (p + 1)])) (hv : callA C0 59 [.own 0 0, .int 6] [Rd l (p + 1)] = some (.int v, [Rd l (p + 1 + 1)])) (v0 : ¬ v = 0)
    (hkid : callA CP 58 [.own 0 0, .int d] (PSt l ws k j u (p + 1 + 1)) = some (.i (.agg K.cells), PSt l ws k j1 u1 p1))
    (hW : callA CP 60 [.i (.agg K.cells), .osl 0 1 0 k, .int 8] [some (.arr 1 (intsL ws))] = some (.int W, [some (.arr 1 (intsL ws))]))
    (hkk : callA C0 59 [.own 0 0, .int 10] [Rd l p1] = some (.int kk, [Rd l (p1 + 1)])) (hq : kk = 1) : ∃ (P : Pn) (p' u' : Int) (j' : Nat), callA CP 58 [.own 0 0, .int ((d + 1 : Nat) : Int)] (PSt l ws k j u p) = some (.i (.agg P.cells), PSt l ws k j' u' p') ∧ P.thin ∧ p1 ≤ p' ∧ p' ≤ p1 + 400 + c2 ∧ j' ≤ j1 ∧ 0 ≤ u' ∧ u' ≤ 1 := by
  have we : IntKind.i64.wrap (d : Int) = d := wrap64 (by omega) (by omega)
  have wn : ¬ ((d : Int) + 1 = 0) := by omega
  simp only [PSt] at hkid
  rw [Pn.cells_eq K] at hkid hW
  obtain ⟨e, p2, he, a1, a2, a3⟩ := randomCondition_eq l hl W (p1 + 1) (by omega) (by omega)
  have hf := filterOf_eq e K
  rw [filtP_cells, Pn.cells_eq K, Ex.cells_eq e] at hf
  rw [Ex.cells_eq e] at he
  refine ⟨filtP e K, p2, u1, j1, ?_, filtP_thin (by omega) hK, by omega, by omega, by omega, by omega, by omega⟩
  rw [callA_eq rfl Try.func58 rfl rfl]
  simp [PSt, ht, hv, v0, we, hkid, hW, hkk, wn, hq, he, hf, filtP_cells, Pn.cells_eq K, Ex.cells_eq e]
theorem plan_filter2 {l : List UInt8} (hl : l.length ≤ 2000) {ws : List Int} {k : Nat} {d j c2 : Nat} {p u t v W kk p1 u1 : Int} {j1 : Nat} {K : Pn} (hd : d < 100) (h1 : p1 + 400 + c2 < 300000000) (hp1 : 0 ≤ p1) (hu0 : 0 ≤ u1) (hu1 : u1 ≤ 1) (hW0 : 0 ≤ W) (hW6 : W ≤ 6) (hK : K.thin)
    (ht : callA C0 59 [.own 0 0, .int k] [Rd l p] = some (.int t, [Rd l (p + 1)])) (hv : callA C0 59 [.own 0 0, .int 6] [Rd l (p + 1)] = some (.int v, [Rd l (p + 1 + 1)])) (v0 : ¬ v = 0)
    (hkid : callA CP 58 [.own 0 0, .int d] (PSt l ws k j u (p + 1 + 1)) = some (.i (.agg K.cells), PSt l ws k j1 u1 p1))
    (hW : callA CP 60 [.i (.agg K.cells), .osl 0 1 0 k, .int 8] [some (.arr 1 (intsL ws))] = some (.int W, [some (.arr 1 (intsL ws))]))
    (hkk : callA C0 59 [.own 0 0, .int 10] [Rd l p1] = some (.int kk, [Rd l (p1 + 1)])) (hq : kk = 2) : ∃ (P : Pn) (p' u' : Int) (j' : Nat), callA CP 58 [.own 0 0, .int ((d + 1 : Nat) : Int)] (PSt l ws k j u p) = some (.i (.agg P.cells), PSt l ws k j' u' p') ∧ P.thin ∧ p1 ≤ p' ∧ p' ≤ p1 + 400 + c2 ∧ j' ≤ j1 ∧ 0 ≤ u' ∧ u' ≤ 1 := by
  have we : IntKind.i64.wrap (d : Int) = d := wrap64 (by omega) (by omega)
  have wn : ¬ ((d : Int) + 1 = 0) := by omega
  simp only [PSt] at hkid
  rw [Pn.cells_eq K] at hkid hW
  obtain ⟨e, p2, he, a1, a2, a3⟩ := randomCondition_eq l hl W (p1 + 1) (by omega) (by omega)
  have hf := filterOf_eq e K
  rw [filtP_cells, Pn.cells_eq K, Ex.cells_eq e] at hf
  rw [Ex.cells_eq e] at he
  refine ⟨filtP e K, p2, u1, j1, ?_, filtP_thin (by omega) hK, by omega, by omega, by omega, by omega, by omega⟩
  rw [callA_eq rfl Try.func58 rfl rfl]
  simp [PSt, ht, hv, v0, we, hkid, hW, hkk, wn, hq, he, hf, filtP_cells, Pn.cells_eq K, Ex.cells_eq e]
theorem plan_distinct {l : List UInt8} (hl : l.length ≤ 2000) {ws : List Int} {k : Nat} {d j c2 : Nat} {p u t v W kk p1 u1 : Int} {j1 : Nat} {K : Pn} (hd : d < 100) (h1 : p1 + 400 + c2 < 300000000) (hp1 : 0 ≤ p1) (hu0 : 0 ≤ u1) (hu1 : u1 ≤ 1) (hW0 : 0 ≤ W) (hW6 : W ≤ 6) (hK : K.thin)
    (ht : callA C0 59 [.own 0 0, .int k] [Rd l p] = some (.int t, [Rd l (p + 1)])) (hv : callA C0 59 [.own 0 0, .int 6] [Rd l (p + 1)] = some (.int v, [Rd l (p + 1 + 1)])) (v0 : ¬ v = 0)
    (hkid : callA CP 58 [.own 0 0, .int d] (PSt l ws k j u (p + 1 + 1)) = some (.i (.agg K.cells), PSt l ws k j1 u1 p1))
    (hW : callA CP 60 [.i (.agg K.cells), .osl 0 1 0 k, .int 8] [some (.arr 1 (intsL ws))] = some (.int W, [some (.arr 1 (intsL ws))]))
    (hkk : callA C0 59 [.own 0 0, .int 10] [Rd l p1] = some (.int kk, [Rd l (p1 + 1)])) (hq : kk = 8) : ∃ (P : Pn) (p' u' : Int) (j' : Nat), callA CP 58 [.own 0 0, .int ((d + 1 : Nat) : Int)] (PSt l ws k j u p) = some (.i (.agg P.cells), PSt l ws k j' u' p') ∧ P.thin ∧ p1 ≤ p' ∧ p' ≤ p1 + 400 + c2 ∧ j' ≤ j1 ∧ 0 ≤ u' ∧ u' ≤ 1 := by
  have we : IntKind.i64.wrap (d : Int) = d := wrap64 (by omega) (by omega)
  have wn : ¬ ((d : Int) + 1 = 0) := by omega
  simp only [PSt] at hkid
  rw [Pn.cells_eq K] at hkid hW
  refine ⟨.mk 7 0 [] [] [K], p1 + 1, u1, j1, ?_, by simp [Pn.thin, Pn.thinL, hK], by omega, by omega, by omega, by omega, by omega⟩
  rw [callA_eq rfl Try.func58 rfl rfl]
  simp [PSt, ht, hv, v0, we, hkid, hW, hkk, wn, hq, Pn.cells, Ex.cellsL, intsL, Pn.cellsL, Pn.cells_eq K]
theorem plan_nojoin5 {l : List UInt8} (hl : l.length ≤ 2000) {ws : List Int} {k : Nat} {d j c2 : Nat} {p u t v W kk p1 u1 : Int} {j1 : Nat} {K : Pn} (hd : d < 100) (h1 : p1 + 400 + c2 < 300000000) (hp1 : 0 ≤ p1) (hu0 : 0 ≤ u1) (hu1 : u1 ≤ 1) (hW0 : 0 ≤ W) (hW6 : W ≤ 6) (hK : K.thin)
    (ht : callA C0 59 [.own 0 0, .int k] [Rd l p] = some (.int t, [Rd l (p + 1)])) (hv : callA C0 59 [.own 0 0, .int 6] [Rd l (p + 1)] = some (.int v, [Rd l (p + 1 + 1)])) (v0 : ¬ v = 0)
    (hkid : callA CP 58 [.own 0 0, .int d] (PSt l ws k j u (p + 1 + 1)) = some (.i (.agg K.cells), PSt l ws k j1 u1 p1))
    (hW : callA CP 60 [.i (.agg K.cells), .osl 0 1 0 k, .int 8] [some (.arr 1 (intsL ws))] = some (.int W, [some (.arr 1 (intsL ws))]))
    (hkk : callA C0 59 [.own 0 0, .int 10] [Rd l p1] = some (.int kk, [Rd l (p1 + 1)])) (hj : j1 = 0) (hq : kk = 5) : ∃ (P : Pn) (p' u' : Int) (j' : Nat), callA CP 58 [.own 0 0, .int ((d + 1 : Nat) : Int)] (PSt l ws k j u p) = some (.i (.agg P.cells), PSt l ws k j' u' p') ∧ P.thin ∧ p1 ≤ p' ∧ p' ≤ p1 + 400 + c2 ∧ j' ≤ j1 ∧ 0 ≤ u' ∧ u' ≤ 1 := by
  have we : IntKind.i64.wrap (d : Int) = d := wrap64 (by omega) (by omega)
  have wn : ¬ ((d : Int) + 1 = 0) := by omega
  simp only [PSt] at hkid
  rw [Pn.cells_eq K] at hkid hW
  obtain ⟨e, p2, he, a1, a2, a3⟩ := randomCondition_eq l hl W (p1 + 1) (by omega) (by omega)
  have hf := filterOf_eq e K
  rw [filtP_cells, Pn.cells_eq K, Ex.cells_eq e] at hf
  rw [Ex.cells_eq e] at he
  refine ⟨filtP e K, p2, u1, j1, ?_, filtP_thin (by omega) hK, by omega, by omega, by omega, by omega, by omega⟩
  rw [callA_eq rfl Try.func58 rfl rfl]
  simp [PSt, ht, hv, v0, we, hkid, hW, hkk, wn, hq, he, hf, filtP_cells, Pn.cells_eq K, Ex.cells_eq e, hj]
theorem plan_wide5 {l : List UInt8} (hl : l.length ≤ 2000) {ws : List Int} {k : Nat} {d j c2 : Nat} {p u t v W kk p1 u1 : Int} {j1 : Nat} {K : Pn} (hd : d < 100) (h1 : p1 + 400 + c2 < 300000000) (hp1 : 0 ≤ p1) (hu0 : 0 ≤ u1) (hu1 : u1 ≤ 1) (hW0 : 0 ≤ W) (hW6 : W ≤ 6) (hK : K.thin)
    (ht : callA C0 59 [.own 0 0, .int k] [Rd l p] = some (.int t, [Rd l (p + 1)])) (hv : callA C0 59 [.own 0 0, .int 6] [Rd l (p + 1)] = some (.int v, [Rd l (p + 1 + 1)])) (v0 : ¬ v = 0)
    (hkid : callA CP 58 [.own 0 0, .int d] (PSt l ws k j u (p + 1 + 1)) = some (.i (.agg K.cells), PSt l ws k j1 u1 p1))
    (hW : callA CP 60 [.i (.agg K.cells), .osl 0 1 0 k, .int 8] [some (.arr 1 (intsL ws))] = some (.int W, [some (.arr 1 (intsL ws))]))
    (hkk : callA C0 59 [.own 0 0, .int 10] [Rd l p1] = some (.int kk, [Rd l (p1 + 1)])) (hj : j1 ≠ 0) (hw4 : ¬ W ≤ 4) (hq : kk = 5) : ∃ (P : Pn) (p' u' : Int) (j' : Nat), callA CP 58 [.own 0 0, .int ((d + 1 : Nat) : Int)] (PSt l ws k j u p) = some (.i (.agg P.cells), PSt l ws k j' u' p') ∧ P.thin ∧ p1 ≤ p' ∧ p' ≤ p1 + 400 + c2 ∧ j' ≤ j1 ∧ 0 ≤ u' ∧ u' ≤ 1 := by
  have we : IntKind.i64.wrap (d : Int) = d := wrap64 (by omega) (by omega)
  have wn : ¬ ((d : Int) + 1 = 0) := by omega
  simp only [PSt] at hkid
  rw [Pn.cells_eq K] at hkid hW
  have hj' : 0 < j1 := by omega
  obtain ⟨e, p2, he, a1, a2, a3⟩ := randomCondition_eq l hl W (p1 + 1) (by omega) (by omega)
  have hf := filterOf_eq e K
  rw [filtP_cells, Pn.cells_eq K, Ex.cells_eq e] at hf
  rw [Ex.cells_eq e] at he
  refine ⟨filtP e K, p2, u1, j1, ?_, filtP_thin (by omega) hK, by omega, by omega, by omega, by omega, by omega⟩
  rw [callA_eq rfl Try.func58 rfl rfl]
  simp [PSt, ht, hv, v0, we, hkid, hW, hkk, wn, hq, he, hf, filtP_cells, Pn.cells_eq K, Ex.cells_eq e, hj', hj, hw4]
theorem plan_nojoin6 {l : List UInt8} (hl : l.length ≤ 2000) {ws : List Int} {k : Nat} {d j c2 : Nat} {p u t v W kk p1 u1 : Int} {j1 : Nat} {K : Pn} (hd : d < 100) (h1 : p1 + 400 + c2 < 300000000) (hp1 : 0 ≤ p1) (hu0 : 0 ≤ u1) (hu1 : u1 ≤ 1) (hW0 : 0 ≤ W) (hW6 : W ≤ 6) (hK : K.thin)
    (ht : callA C0 59 [.own 0 0, .int k] [Rd l p] = some (.int t, [Rd l (p + 1)])) (hv : callA C0 59 [.own 0 0, .int 6] [Rd l (p + 1)] = some (.int v, [Rd l (p + 1 + 1)])) (v0 : ¬ v = 0)
    (hkid : callA CP 58 [.own 0 0, .int d] (PSt l ws k j u (p + 1 + 1)) = some (.i (.agg K.cells), PSt l ws k j1 u1 p1))
    (hW : callA CP 60 [.i (.agg K.cells), .osl 0 1 0 k, .int 8] [some (.arr 1 (intsL ws))] = some (.int W, [some (.arr 1 (intsL ws))]))
    (hkk : callA C0 59 [.own 0 0, .int 10] [Rd l p1] = some (.int kk, [Rd l (p1 + 1)])) (hj : j1 = 0) (hq : kk = 6) : ∃ (P : Pn) (p' u' : Int) (j' : Nat), callA CP 58 [.own 0 0, .int ((d + 1 : Nat) : Int)] (PSt l ws k j u p) = some (.i (.agg P.cells), PSt l ws k j' u' p') ∧ P.thin ∧ p1 ≤ p' ∧ p' ≤ p1 + 400 + c2 ∧ j' ≤ j1 ∧ 0 ≤ u' ∧ u' ≤ 1 := by
  have we : IntKind.i64.wrap (d : Int) = d := wrap64 (by omega) (by omega)
  have wn : ¬ ((d : Int) + 1 = 0) := by omega
  simp only [PSt] at hkid
  rw [Pn.cells_eq K] at hkid hW
  obtain ⟨e, p2, he, a1, a2, a3⟩ := randomCondition_eq l hl W (p1 + 1) (by omega) (by omega)
  have hf := filterOf_eq e K
  rw [filtP_cells, Pn.cells_eq K, Ex.cells_eq e] at hf
  rw [Ex.cells_eq e] at he
  refine ⟨filtP e K, p2, u1, j1, ?_, filtP_thin (by omega) hK, by omega, by omega, by omega, by omega, by omega⟩
  rw [callA_eq rfl Try.func58 rfl rfl]
  simp [PSt, ht, hv, v0, we, hkid, hW, hkk, wn, hq, he, hf, filtP_cells, Pn.cells_eq K, Ex.cells_eq e, hj]
theorem plan_wide6 {l : List UInt8} (hl : l.length ≤ 2000) {ws : List Int} {k : Nat} {d j c2 : Nat} {p u t v W kk p1 u1 : Int} {j1 : Nat} {K : Pn} (hd : d < 100) (h1 : p1 + 400 + c2 < 300000000) (hp1 : 0 ≤ p1) (hu0 : 0 ≤ u1) (hu1 : u1 ≤ 1) (hW0 : 0 ≤ W) (hW6 : W ≤ 6) (hK : K.thin)
    (ht : callA C0 59 [.own 0 0, .int k] [Rd l p] = some (.int t, [Rd l (p + 1)])) (hv : callA C0 59 [.own 0 0, .int 6] [Rd l (p + 1)] = some (.int v, [Rd l (p + 1 + 1)])) (v0 : ¬ v = 0)
    (hkid : callA CP 58 [.own 0 0, .int d] (PSt l ws k j u (p + 1 + 1)) = some (.i (.agg K.cells), PSt l ws k j1 u1 p1))
    (hW : callA CP 60 [.i (.agg K.cells), .osl 0 1 0 k, .int 8] [some (.arr 1 (intsL ws))] = some (.int W, [some (.arr 1 (intsL ws))]))
    (hkk : callA C0 59 [.own 0 0, .int 10] [Rd l p1] = some (.int kk, [Rd l (p1 + 1)])) (hj : j1 ≠ 0) (hw4 : ¬ W ≤ 4) (hq : kk = 6) : ∃ (P : Pn) (p' u' : Int) (j' : Nat), callA CP 58 [.own 0 0, .int ((d + 1 : Nat) : Int)] (PSt l ws k j u p) = some (.i (.agg P.cells), PSt l ws k j' u' p') ∧ P.thin ∧ p1 ≤ p' ∧ p' ≤ p1 + 400 + c2 ∧ j' ≤ j1 ∧ 0 ≤ u' ∧ u' ≤ 1 := by
  have we : IntKind.i64.wrap (d : Int) = d := wrap64 (by omega) (by omega)
  have wn : ¬ ((d : Int) + 1 = 0) := by omega
  simp only [PSt] at hkid
  rw [Pn.cells_eq K] at hkid hW
  have hj' : 0 < j1 := by omega
  obtain ⟨e, p2, he, a1, a2, a3⟩ := randomCondition_eq l hl W (p1 + 1) (by omega) (by omega)
  have hf := filterOf_eq e K
  rw [filtP_cells, Pn.cells_eq K, Ex.cells_eq e] at hf
  rw [Ex.cells_eq e] at he
  refine ⟨filtP e K, p2, u1, j1, ?_, filtP_thin (by omega) hK, by omega, by omega, by omega, by omega, by omega⟩
  rw [callA_eq rfl Try.func58 rfl rfl]
  simp [PSt, ht, hv, v0, we, hkid, hW, hkk, wn, hq, he, hf, filtP_cells, Pn.cells_eq K, Ex.cells_eq e, hj', hj, hw4]
theorem plan_nounion {l : List UInt8} (hl : l.length ≤ 2000) {ws : List Int} {k : Nat} {d j c2 : Nat} {p u t v W kk p1 u1 : Int} {j1 : Nat} {K : Pn} (hd : d < 100) (h1 : p1 + 400 + c2 < 300000000) (hp1 : 0 ≤ p1) (hu0 : 0 ≤ u1) (hu1 : u1 ≤ 1) (hW0 : 0 ≤ W) (hW6 : W ≤ 6) (hK : K.thin)
    (ht : callA C0 59 [.own 0 0, .int k] [Rd l p] = some (.int t, [Rd l (p + 1)])) (hv : callA C0 59 [.own 0 0, .int 6] [Rd l (p + 1)] = some (.int v, [Rd l (p + 1 + 1)])) (v0 : ¬ v = 0)
    (hkid : callA CP 58 [.own 0 0, .int d] (PSt l ws k j u (p + 1 + 1)) = some (.i (.agg K.cells), PSt l ws k j1 u1 p1))
    (hW : callA CP 60 [.i (.agg K.cells), .osl 0 1 0 k, .int 8] [some (.arr 1 (intsL ws))] = some (.int W, [some (.arr 1 (intsL ws))]))
    (hkk : callA C0 59 [.own 0 0, .int 10] [Rd l p1] = some (.int kk, [Rd l (p1 + 1)])) (hu : ¬ 0 < u1) (hq : kk = 7) : ∃ (P : Pn) (p' u' : Int) (j' : Nat), callA CP 58 [.own 0 0, .int ((d + 1 : Nat) : Int)] (PSt l ws k j u p) = some (.i (.agg P.cells), PSt l ws k j' u' p') ∧ P.thin ∧ p1 ≤ p' ∧ p' ≤ p1 + 400 + c2 ∧ j' ≤ j1 ∧ 0 ≤ u' ∧ u' ≤ 1 := by
  have we : IntKind.i64.wrap (d : Int) = d := wrap64 (by omega) (by omega)
  have wn : ¬ ((d : Int) + 1 = 0) := by omega
  simp only [PSt] at hkid
  rw [Pn.cells_eq K] at hkid hW
  obtain ⟨e, p2, he, a1, a2, a3⟩ := randomCondition_eq l hl W (p1 + 1) (by omega) (by omega)
  have hf := filterOf_eq e K
  rw [filtP_cells, Pn.cells_eq K, Ex.cells_eq e] at hf
  rw [Ex.cells_eq e] at he
  refine ⟨filtP e K, p2, u1, j1, ?_, filtP_thin (by omega) hK, by omega, by omega, by omega, by omega, by omega⟩
  rw [callA_eq rfl Try.func58 rfl rfl]
  simp [PSt, ht, hv, v0, we, hkid, hW, hkk, wn, hq, he, hf, filtP_cells, Pn.cells_eq K, Ex.cells_eq e, hu]
theorem plan_union {l : List UInt8} (hl : l.length ≤ 2000) {ws : List Int} {k : Nat} {d j c2 : Nat} {p u t v W kk p1 u1 : Int} {j1 : Nat} {K : Pn} (hd : d < 100) (h1 : p1 + 400 + c2 < 300000000) (hp1 : 0 ≤ p1) (hu0 : 0 ≤ u1) (hu1 : u1 ≤ 1) (hW0 : 0 ≤ W) (hW6 : W ≤ 6) (hK : K.thin)
    (ht : callA C0 59 [.own 0 0, .int k] [Rd l p] = some (.int t, [Rd l (p + 1)])) (hv : callA C0 59 [.own 0 0, .int 6] [Rd l (p + 1)] = some (.int v, [Rd l (p + 1 + 1)])) (v0 : ¬ v = 0)
    (hkid : callA CP 58 [.own 0 0, .int d] (PSt l ws k j u (p + 1 + 1)) = some (.i (.agg K.cells), PSt l ws k j1 u1 p1))
    (hW : callA CP 60 [.i (.agg K.cells), .osl 0 1 0 k, .int 8] [some (.arr 1 (intsL ws))] = some (.int W, [some (.arr 1 (intsL ws))]))
    (hkk : callA C0 59 [.own 0 0, .int 10] [Rd l p1] = some (.int kk, [Rd l (p1 + 1)])) (hu : 0 < u1) (hq : kk = 7) : ∃ (P : Pn) (p' u' : Int) (j' : Nat), callA CP 58 [.own 0 0, .int ((d + 1 : Nat) : Int)] (PSt l ws k j u p) = some (.i (.agg P.cells), PSt l ws k j' u' p') ∧ P.thin ∧ p1 ≤ p' ∧ p' ≤ p1 + 400 + c2 ∧ j' ≤ j1 ∧ 0 ≤ u' ∧ u' ≤ 1 := by
  have we : IntKind.i64.wrap (d : Int) = d := wrap64 (by omega) (by omega)
  have wn : ¬ ((d : Int) + 1 = 0) := by omega
  simp only [PSt] at hkid
  rw [Pn.cells_eq K] at hkid hW
  obtain ⟨e, p2, he, a1, a2, a3⟩ := randomCondition_eq l hl W (p1 + 1) (by omega) (by omega)
  have hf := filterOf_eq e K
  have hc := cp_copyPlan K hK
  have wu : IntKind.i64.wrap (u1 - 1) = u1 - 1 := wrap64 (by omega) (by omega)
  rw [filtP_cells, Pn.cells_eq K, Ex.cells_eq e] at hf
  rw [Pn.cells_eq K] at hc
  rw [Ex.cells_eq e] at he
  refine ⟨.mk 6 0 [] [] [K, filtP e K], p2, u1 - 1, j1, ?_, by have := filtP_thin (e := e) (by omega) hK; simp [Pn.thin, Pn.thinL, hK, this], by omega, by omega, by omega, by omega, by omega⟩
  rw [callA_eq rfl Try.func58 rfl rfl]
  simp [PSt, ht, hv, v0, we, hkid, hW, hkk, wn, hq, he, hf, filtP_cells, Pn.cells_eq K, Ex.cells_eq e, hu, hc, wu, Pn.cells_mk, Ex.cellsL, intsL, Pn.cellsL]
theorem plan_group1 {l : List UInt8} (hl : l.length ≤ 2000) {ws : List Int} {k : Nat} {d j c2 : Nat} {p u t v W kk p1 u1 : Int} {j1 : Nat} {K : Pn} (hd : d < 100) (h1 : p1 + 400 + c2 < 300000000) (hp1 : 0 ≤ p1) (hu0 : 0 ≤ u1) (hu1 : u1 ≤ 1) (hW0 : 0 ≤ W) (hW6 : W ≤ 6) (hK : K.thin)
    (ht : callA C0 59 [.own 0 0, .int k] [Rd l p] = some (.int t, [Rd l (p + 1)])) (hv : callA C0 59 [.own 0 0, .int 6] [Rd l (p + 1)] = some (.int v, [Rd l (p + 1 + 1)])) (v0 : ¬ v = 0)
    (hkid : callA CP 58 [.own 0 0, .int d] (PSt l ws k j u (p + 1 + 1)) = some (.i (.agg K.cells), PSt l ws k j1 u1 p1))
    (hW : callA CP 60 [.i (.agg K.cells), .osl 0 1 0 k, .int 8] [some (.arr 1 (intsL ws))] = some (.int W, [some (.arr 1 (intsL ws))]))
    (hkk : callA C0 59 [.own 0 0, .int 10] [Rd l p1] = some (.int kk, [Rd l (p1 + 1)])) (hw1 : ¬ 1 < W) (hq : kk = 9) : ∃ (P : Pn) (p' u' : Int) (j' : Nat), callA CP 58 [.own 0 0, .int ((d + 1 : Nat) : Int)] (PSt l ws k j u p) = some (.i (.agg P.cells), PSt l ws k j' u' p') ∧ P.thin ∧ p1 ≤ p' ∧ p' ≤ p1 + 400 + c2 ∧ j' ≤ j1 ∧ 0 ≤ u' ∧ u' ≤ 1 := by
  have we : IntKind.i64.wrap (d : Int) = d := wrap64 (by omega) (by omega)
  have wn : ¬ ((d : Int) + 1 = 0) := by omega
  simp only [PSt] at hkid
  rw [Pn.cells_eq K] at hkid hW
  refine ⟨.mk 8 0 [] [] [K], p1 + 1, u1, j1, ?_, by simp [Pn.thin, Pn.thinL, hK], by omega, by omega, by omega, by omega, by omega⟩
  rw [callA_eq rfl Try.func58 rfl rfl]
  simp [PSt, ht, hv, v0, we, hkid, hW, hkk, wn, hq, hw1, Pn.cells_mk, Ex.cellsL, intsL, Pn.cellsL, Pn.cells_eq K]
theorem plan_group2 {l : List UInt8} (hl : l.length ≤ 2000) {ws : List Int} {k : Nat} {d j c2 : Nat} {p u t v W kk p1 u1 : Int} {j1 : Nat} {K : Pn} (hd : d < 100) (h1 : p1 + 400 + c2 < 300000000) (hp1 : 0 ≤ p1) (hu0 : 0 ≤ u1) (hu1 : u1 ≤ 1) (hW0 : 0 ≤ W) (hW6 : W ≤ 6) (hK : K.thin)
    (ht : callA C0 59 [.own 0 0, .int k] [Rd l p] = some (.int t, [Rd l (p + 1)])) (hv : callA C0 59 [.own 0 0, .int 6] [Rd l (p + 1)] = some (.int v, [Rd l (p + 1 + 1)])) (v0 : ¬ v = 0)
    (hkid : callA CP 58 [.own 0 0, .int d] (PSt l ws k j u (p + 1 + 1)) = some (.i (.agg K.cells), PSt l ws k j1 u1 p1))
    (hW : callA CP 60 [.i (.agg K.cells), .osl 0 1 0 k, .int 8] [some (.arr 1 (intsL ws))] = some (.int W, [some (.arr 1 (intsL ws))]))
    (hkk : callA C0 59 [.own 0 0, .int 10] [Rd l p1] = some (.int kk, [Rd l (p1 + 1)])) (hw1 : 1 < W) (hq : kk = 9) : ∃ (P : Pn) (p' u' : Int) (j' : Nat), callA CP 58 [.own 0 0, .int ((d + 1 : Nat) : Int)] (PSt l ws k j u p) = some (.i (.agg P.cells), PSt l ws k j' u' p') ∧ P.thin ∧ p1 ≤ p' ∧ p' ≤ p1 + 400 + c2 ∧ j' ≤ j1 ∧ 0 ≤ u' ∧ u' ≤ 1 := by
  have we : IntKind.i64.wrap (d : Int) = d := wrap64 (by omega) (by omega)
  have wn : ¬ ((d : Int) + 1 = 0) := by omega
  simp only [PSt] at hkid
  rw [Pn.cells_eq K] at hkid hW
  obtain ⟨g, hg, -, -⟩ := pick_eq l (p1 + 1) W (by omega) (by omega) hl
  refine ⟨.mk 8 0 [] [g] [K], p1 + 1 + 1, u1, j1, ?_, by simp [Pn.thin, Pn.thinL, hK], by omega, by omega, by omega, by omega, by omega⟩
  rw [callA_eq rfl Try.func58 rfl rfl]
  simp [PSt, ht, hv, v0, we, hkid, hW, hkk, wn, hq, hg, hw1, Pn.cells_mk, Ex.cellsL, intsL, Pn.cellsL, Pn.cells_eq K]
theorem plan_join5 {l : List UInt8} (hl : l.length ≤ 2000) {ws : List Int} (hw : ∀ w ∈ ws, 0 ≤ w ∧ w ≤ 6) (hwl : ws.length < 1000000) {k : Nat} (hk0 : 0 < k) (hkl : k ≤ ws.length) {d j c2 : Nat} {p u t v W kk p1 u1 : Int} {j1 : Nat} {K : Pn} (hd : d < 100) (h1 : p1 + 400 + c2 < 300000000) (hp1 : 0 ≤ p1) (hu0 : 0 ≤ u1) (hu1 : u1 ≤ 1) (hW0 : 0 ≤ W) (hW6 : W ≤ 6) (hK : K.thin)
    (ht : callA C0 59 [.own 0 0, .int k] [Rd l p] = some (.int t, [Rd l (p + 1)])) (hv : callA C0 59 [.own 0 0, .int 6] [Rd l (p + 1)] = some (.int v, [Rd l (p + 1 + 1)])) (v0 : ¬ v = 0)
    (hkid : callA CP 58 [.own 0 0, .int d] (PSt l ws k j u (p + 1 + 1)) = some (.i (.agg K.cells), PSt l ws k j1 u1 p1))
    (hW : callA CP 60 [.i (.agg K.cells), .osl 0 1 0 k, .int 8] [some (.arr 1 (intsL ws))] = some (.int W, [some (.arr 1 (intsL ws))]))
    (hkk : callA C0 59 [.own 0 0, .int 10] [Rd l p1] = some (.int kk, [Rd l (p1 + 1)])) (hj : j1 ≠ 0) (hjb : j1 < 1000) (hw4 : W ≤ 4) (hoth : ∀ y : Nat, y ≤ 1 → PlanOk l ws k y (j1 - 1) c2) (hq : kk = 5) : ∃ (P : Pn) (p' u' : Int) (j' : Nat), callA CP 58 [.own 0 0, .int ((d + 1 : Nat) : Int)] (PSt l ws k j u p) = some (.i (.agg P.cells), PSt l ws k j' u' p') ∧ P.thin ∧ p1 ≤ p' ∧ p' ≤ p1 + 400 + c2 ∧ j' ≤ j1 ∧ 0 ≤ u' ∧ u' ≤ 1 := by
  have we : IntKind.i64.wrap (d : Int) = d := wrap64 (by omega) (by omega)
  have wn : ¬ ((d : Int) + 1 = 0) := by omega
  simp only [PSt] at hkid
  rw [Pn.cells_eq K] at hkid hW
  have hj' : 0 < j1 := by omega
  have wj : IntKind.i64.wrap ((j1 : Int) - 1) = ((j1 - 1 : Nat) : Int) := by rw [wrap64 (by omega) (by omega)]; omega
  obtain ⟨x, hx, hx1, -⟩ := pick_eq l (p1 + 1) 2 (by omega) (by omega) hl
  obtain ⟨x0, x1⟩ := hx1 (by omega)
  obtain ⟨y, rfl⟩ : ∃ y : Nat, x = y := ⟨x.toNat, by omega⟩
  obtain ⟨O, p2, u2, j2, hO, hOt, b1, b2, b3, b4, b5⟩ := hoth y (by omega) (p1 + 1 + 1) u1 (by omega) (by omega) hu0 hu1
  have hV := splanWidth_own hw hwl hk0 hkl O hOt
  have hVr := Pn.wd_range (ws := ws.take k) (fun w hm => hw w (List.mem_of_mem_take hm)) O 8
  generalize O.wd (ws.take k) 8 = V at hV hVr
  have wv : IntKind.i64.wrap (W + V) = W + V := wrap64 (by omega) (by omega)
  simp only [PSt] at hO
  rw [Pn.cells_eq O] at hO hV
  by_cases hs : W + V ≤ 6
  · have h1 := one_eq l p2 (by omega) (by omega) hl [[.int 4], [.int 5]] (by simp) (by simp) (by simp)
    obtain ⟨z, hz, hzm⟩ := h1
    obtain ⟨e, p3, he, a1, a2, a3⟩ := randomCondition_eq l hl (W + V) (p2 + 1) (by omega) (by omega)
    rw [Ex.cells_eq e] at he
    simp only [List.length_cons, List.length_nil, Nat.zero_add, Nat.reduceAdd] at hz
    have het := Ex.thin_of_size e (by omega)
    refine ⟨.mk z 0 [e] [] [K, O], p3, u2, j2, ?_, by simp [Pn.thin, Pn.thinL, hK, hOt, het], by omega, by omega, by omega, by omega, by omega⟩
    rw [callA_eq rfl Try.func58 rfl rfl]
    simp [PSt, ht, hv, v0, we, hkid, hW, hkk, wn, hq, hj', hj, hw4, wj, hx, hO, hV, wv, hs, hz, he, Pn.cells_mk, Ex.cellsL, intsL, Pn.cellsL, Pn.cells_eq K, Pn.cells_eq O, Ex.cells_eq e]
  · obtain ⟨e, p3, he, a1, a2, a3⟩ := randomCondition_eq l hl W p2 (by omega) (by omega)
    have hf := filterOf_eq e K
    rw [filtP_cells, Pn.cells_eq K, Ex.cells_eq e] at hf
    rw [Ex.cells_eq e] at he
    refine ⟨filtP e K, p3, u2, j2, ?_, filtP_thin (by omega) hK, by omega, by omega, by omega, by omega, by omega⟩
    rw [callA_eq rfl Try.func58 rfl rfl]
    simp [PSt, ht, hv, v0, we, hkid, hW, hkk, wn, hq, hj', hj, hw4, wj, hx, hO, hV, wv, hs, he, hf, filtP_cells, Pn.cells_eq K, Ex.cells_eq e]
theorem plan_join6 {l : List UInt8} (hl : l.length ≤ 2000) {ws : List Int} (hw : ∀ w ∈ ws, 0 ≤ w ∧ w ≤ 6) (hwl : ws.length < 1000000) {k : Nat} (hk0 : 0 < k) (hkl : k ≤ ws.length) {d j c2 : Nat} {p u t v W kk p1 u1 : Int} {j1 : Nat} {K : Pn} (hd : d < 100) (h1 : p1 + 400 + c2 < 300000000) (hp1 : 0 ≤ p1) (hu0 : 0 ≤ u1) (hu1 : u1 ≤ 1) (hW0 : 0 ≤ W) (hW6 : W ≤ 6) (hK : K.thin)
    (ht : callA C0 59 [.own 0 0, .int k] [Rd l p] = some (.int t, [Rd l (p + 1)])) (hv : callA C0 59 [.own 0 0, .int 6] [Rd l (p + 1)] = some (.int v, [Rd l (p + 1 + 1)])) (v0 : ¬ v = 0)
    (hkid : callA CP 58 [.own 0 0, .int d] (PSt l ws k j u (p + 1 + 1)) = some (.i (.agg K.cells), PSt l ws k j1 u1 p1))
    (hW : callA CP 60 [.i (.agg K.cells), .osl 0 1 0 k, .int 8] [some (.arr 1 (intsL ws))] = some (.int W, [some (.arr 1 (intsL ws))]))
    (hkk : callA C0 59 [.own 0 0, .int 10] [Rd l p1] = some (.int kk, [Rd l (p1 + 1)])) (hj : j1 ≠ 0) (hjb : j1 < 1000) (hw4 : W ≤ 4) (hoth : ∀ y : Nat, y ≤ 1 → PlanOk l ws k y (j1 - 1) c2) (hq : kk = 6) : ∃ (P : Pn) (p' u' : Int) (j' : Nat), callA CP 58 [.own 0 0, .int ((d + 1 : Nat) : Int)] (PSt l ws k j u p) = some (.i (.agg P.cells), PSt l ws k j' u' p') ∧ P.thin ∧ p1 ≤ p' ∧ p' ≤ p1 + 400 + c2 ∧ j' ≤ j1 ∧ 0 ≤ u' ∧ u' ≤ 1 := by
  have we : IntKind.i64.wrap (d : Int) = d := wrap64 (by omega) (by omega)
  have wn : ¬ ((d : Int) + 1 = 0) := by omega
  simp only [PSt] at hkid
  rw [Pn.cells_eq K] at hkid hW
  have hj' : 0 < j1 := by omega
  have wj : IntKind.i64.wrap ((j1 : Int) - 1) = ((j1 - 1 : Nat) : Int) := by rw [wrap64 (by omega) (by omega)]; omega
  obtain ⟨x, hx, hx1, -⟩ := pick_eq l (p1 + 1) 2 (by omega) (by omega) hl
  obtain ⟨x0, x1⟩ := hx1 (by omega)
  obtain ⟨y, rfl⟩ : ∃ y : Nat, x = y := ⟨x.toNat, by omega⟩
  obtain ⟨O, p2, u2, j2, hO, hOt, b1, b2, b3, b4, b5⟩ := hoth y (by omega) (p1 + 1 + 1) u1 (by omega) (by omega) hu0 hu1
  have hV := splanWidth_own hw hwl hk0 hkl O hOt
  have hVr := Pn.wd_range (ws := ws.take k) (fun w hm => hw w (List.mem_of_mem_take hm)) O 8
  generalize O.wd (ws.take k) 8 = V at hV hVr
  have wv : IntKind.i64.wrap (W + V) = W + V := wrap64 (by omega) (by omega)
  simp only [PSt] at hO
  rw [Pn.cells_eq O] at hO hV
  by_cases hs : W + V ≤ 6
  · have h1 := one_eq l p2 (by omega) (by omega) hl [[.int 4], [.int 5]] (by simp) (by simp) (by simp)
    obtain ⟨z, hz, hzm⟩ := h1
    obtain ⟨e, p3, he, a1, a2, a3⟩ := randomCondition_eq l hl (W + V) (p2 + 1) (by omega) (by omega)
    rw [Ex.cells_eq e] at he
    simp only [List.length_cons, List.length_nil, Nat.zero_add, Nat.reduceAdd] at hz
    have het := Ex.thin_of_size e (by omega)
    refine ⟨.mk z 0 [e] [] [K, O], p3, u2, j2, ?_, by simp [Pn.thin, Pn.thinL, hK, hOt, het], by omega, by omega, by omega, by omega, by omega⟩
    rw [callA_eq rfl Try.func58 rfl rfl]
    simp [PSt, ht, hv, v0, we, hkid, hW, hkk, wn, hq, hj', hj, hw4, wj, hx, hO, hV, wv, hs, hz, he, Pn.cells_mk, Ex.cellsL, intsL, Pn.cellsL, Pn.cells_eq K, Pn.cells_eq O, Ex.cells_eq e]
  · obtain ⟨e, p3, he, a1, a2, a3⟩ := randomCondition_eq l hl W p2 (by omega) (by omega)
    have hf := filterOf_eq e K
    rw [filtP_cells, Pn.cells_eq K, Ex.cells_eq e] at hf
    rw [Ex.cells_eq e] at he
    refine ⟨filtP e K, p3, u2, j2, ?_, filtP_thin (by omega) hK, by omega, by omega, by omega, by omega, by omega⟩
    rw [callA_eq rfl Try.func58 rfl rfl]
    simp [PSt, ht, hv, v0, we, hkid, hW, hkk, wn, hq, hj', hj, hw4, wj, hx, hO, hV, wv, hs, he, hf, filtP_cells, Pn.cells_eq K, Ex.cells_eq e]
theorem plan_proj3 {l : List UInt8} (hl : l.length ≤ 2000) {ws : List Int} {k : Nat} {d j c2 : Nat} {p u t v W kk p1 u1 : Int} {j1 : Nat} {K : Pn} (hd : d < 100) (h1 : p1 + 400 + c2 < 300000000) (hp1 : 0 ≤ p1) (hu0 : 0 ≤ u1) (hu1 : u1 ≤ 1) (hW0 : 0 ≤ W) (hW6 : W ≤ 6) (hK : K.thin)
    (ht : callA C0 59 [.own 0 0, .int k] [Rd l p] = some (.int t, [Rd l (p + 1)])) (hv : callA C0 59 [.own 0 0, .int 6] [Rd l (p + 1)] = some (.int v, [Rd l (p + 1 + 1)])) (v0 : ¬ v = 0)
    (hkid : callA CP 58 [.own 0 0, .int d] (PSt l ws k j u (p + 1 + 1)) = some (.i (.agg K.cells), PSt l ws k j1 u1 p1))
    (hW : callA CP 60 [.i (.agg K.cells), .osl 0 1 0 k, .int 8] [some (.arr 1 (intsL ws))] = some (.int W, [some (.arr 1 (intsL ws))]))
    (hkk : callA C0 59 [.own 0 0, .int 10] [Rd l p1] = some (.int kk, [Rd l (p1 + 1)])) (hq : kk = 3) : ∃ (P : Pn) (p' u' : Int) (j' : Nat), callA CP 58 [.own 0 0, .int ((d + 1 : Nat) : Int)] (PSt l ws k j u p) = some (.i (.agg P.cells), PSt l ws k j' u' p') ∧ P.thin ∧ p1 ≤ p' ∧ p' ≤ p1 + 400 + c2 ∧ j' ≤ j1 ∧ 0 ≤ u' ∧ u' ≤ 1 := by
  have we : IntKind.i64.wrap (d : Int) = d := wrap64 (by omega) (by omega)
  have wn : ¬ ((d : Int) + 1 = 0) := by omega
  simp only [PSt] at hkid
  rw [Pn.cells_eq K] at hkid hW
  obtain ⟨m, hm, hm1, -⟩ := pick_eq l (p1 + 1) 2 (by omega) (by omega) hl
  obtain ⟨m0, m1⟩ := hm1 (by omega)
  have w2 : IntKind.i64.wrap (2 : Int) = 2 := wrap64 (by omega) (by omega)
  have w1 := wrap_1
  have w0 : IntKind.i64.wrap (0 : Int) = 0 := wrap64 (by omega) (by omega)
  obtain ⟨x1, hx1, hy1, -⟩ := pick_eq l (p1 + 1 + 1) 2 (by omega) (by omega) hl
  obtain ⟨x1a, x1b⟩ := hy1 (by omega)
  obtain ⟨y1, rfl⟩ : ∃ y : Nat, x1 = y := ⟨x1.toNat, by omega⟩
  have hc1 : costE y1 ≤ 9 := by rcases (show y1 = 0 ∨ y1 = 1 by omega) with h | h <;> simp [h, costE]
  obtain ⟨e1, q1, he1, c1a, c1b, c1c⟩ := rE l hl W y1 (by omega) (by omega) ((p1 + 1 + 1) + 1) (by omega) (by omega)
  rw [Ex.cells_eq e1] at he1
  have t1 := Ex.thin_of_size e1 (by omega)
  rcases (show m = 0 ∨ m = 1 by omega) with rfl | rfl
  · refine ⟨.mk 3 0 [e1] [] [K], q1, u1, j1, ?_, by simp [Pn.thin, Pn.thinL, hK, t1], by omega, by omega, by omega, by omega, by omega⟩
    rw [callA_eq rfl Try.func58 rfl rfl]
    simp [PSt, ht, hv, v0, we, hkid, hW, hkk, wn, hq, hm, w1]
    rw [execA_loop]; simp [hx1, he1, w0]
    rw [execA_loop]; simp [Pn.cells_mk, Ex.cellsL, intsL, Pn.cellsL, Pn.cells_eq K, Ex.cells_eq e1, PSt]
  · obtain ⟨x2, hx2, hy2, -⟩ := pick_eq l q1 2 (by omega) (by omega) hl
    obtain ⟨x2a, x2b⟩ := hy2 (by omega)
    obtain ⟨y2, rfl⟩ : ∃ y : Nat, x2 = y := ⟨x2.toNat, by omega⟩
    have hc2 : costE y2 ≤ 9 := by rcases (show y2 = 0 ∨ y2 = 1 by omega) with h | h <;> simp [h, costE]
    obtain ⟨e2, q2, he2, c2a, c2b, c2c⟩ := rE l hl W y2 (by omega) (by omega) (q1 + 1) (by omega) (by omega)
    rw [Ex.cells_eq e2] at he2
    have t2 := Ex.thin_of_size e2 (by omega)
    refine ⟨.mk 3 0 [e1, e2] [] [K], q2, u1, j1, ?_, by simp [Pn.thin, Pn.thinL, hK, t1, t2], by omega, by omega, by omega, by omega, by omega⟩
    rw [callA_eq rfl Try.func58 rfl rfl]
    simp [PSt, ht, hv, v0, we, hkid, hW, hkk, wn, hq, hm, w2]
    rw [execA_loop]; simp [hx1, he1, w1]
    rw [execA_loop]; simp [hx2, he2, w0]
    rw [execA_loop]; simp [Pn.cells_mk, Ex.cellsL, intsL, Pn.cellsL, Pn.cells_eq K, Ex.cells_eq e1, Ex.cells_eq e2, PSt]
theorem plan_proj4 {l : List UInt8} (hl : l.length ≤ 2000) {ws : List Int} {k : Nat} {d j c2 : Nat} {p u t v W kk p1 u1 : Int} {j1 : Nat} {K : Pn} (hd : d < 100) (h1 : p1 + 400 + c2 < 300000000) (hp1 : 0 ≤ p1) (hu0 : 0 ≤ u1) (hu1 : u1 ≤ 1) (hW0 : 0 ≤ W) (hW6 : W ≤ 6) (hK : K.thin)
    (ht : callA C0 59 [.own 0 0, .int k] [Rd l p] = some (.int t, [Rd l (p + 1)])) (hv : callA C0 59 [.own 0 0, .int 6] [Rd l (p + 1)] = some (.int v, [Rd l (p + 1 + 1)])) (v0 : ¬ v = 0)
    (hkid : callA CP 58 [.own 0 0, .int d] (PSt l ws k j u (p + 1 + 1)) = some (.i (.agg K.cells), PSt l ws k j1 u1 p1))
    (hW : callA CP 60 [.i (.agg K.cells), .osl 0 1 0 k, .int 8] [some (.arr 1 (intsL ws))] = some (.int W, [some (.arr 1 (intsL ws))]))
    (hkk : callA C0 59 [.own 0 0, .int 10] [Rd l p1] = some (.int kk, [Rd l (p1 + 1)])) (hq : kk = 4) : ∃ (P : Pn) (p' u' : Int) (j' : Nat), callA CP 58 [.own 0 0, .int ((d + 1 : Nat) : Int)] (PSt l ws k j u p) = some (.i (.agg P.cells), PSt l ws k j' u' p') ∧ P.thin ∧ p1 ≤ p' ∧ p' ≤ p1 + 400 + c2 ∧ j' ≤ j1 ∧ 0 ≤ u' ∧ u' ≤ 1 := by
  have we : IntKind.i64.wrap (d : Int) = d := wrap64 (by omega) (by omega)
  have wn : ¬ ((d : Int) + 1 = 0) := by omega
  simp only [PSt] at hkid
  rw [Pn.cells_eq K] at hkid hW
  obtain ⟨m, hm, hm1, -⟩ := pick_eq l (p1 + 1) 2 (by omega) (by omega) hl
  obtain ⟨m0, m1⟩ := hm1 (by omega)
  have w2 : IntKind.i64.wrap (2 : Int) = 2 := wrap64 (by omega) (by omega)
  have w1 := wrap_1
  have w0 : IntKind.i64.wrap (0 : Int) = 0 := wrap64 (by omega) (by omega)
  obtain ⟨x1, hx1, hy1, -⟩ := pick_eq l (p1 + 1 + 1) 2 (by omega) (by omega) hl
  obtain ⟨x1a, x1b⟩ := hy1 (by omega)
  obtain ⟨y1, rfl⟩ : ∃ y : Nat, x1 = y := ⟨x1.toNat, by omega⟩
  have hc1 : costE y1 ≤ 9 := by rcases (show y1 = 0 ∨ y1 = 1 by omega) with h | h <;> simp [h, costE]
  obtain ⟨e1, q1, he1, c1a, c1b, c1c⟩ := rE l hl W y1 (by omega) (by omega) ((p1 + 1 + 1) + 1) (by omega) (by omega)
  rw [Ex.cells_eq e1] at he1
  have t1 := Ex.thin_of_size e1 (by omega)
  rcases (show m = 0 ∨ m = 1 by omega) with rfl | rfl
  · refine ⟨.mk 3 0 [e1] [] [K], q1, u1, j1, ?_, by simp [Pn.thin, Pn.thinL, hK, t1], by omega, by omega, by omega, by omega, by omega⟩
    rw [callA_eq rfl Try.func58 rfl rfl]
    simp [PSt, ht, hv, v0, we, hkid, hW, hkk, wn, hq, hm, w1]
    rw [execA_loop]; simp [hx1, he1, w0]
    rw [execA_loop]; simp [Pn.cells_mk, Ex.cellsL, intsL, Pn.cellsL, Pn.cells_eq K, Ex.cells_eq e1, PSt]
  · obtain ⟨x2, hx2, hy2, -⟩ := pick_eq l q1 2 (by omega) (by omega) hl
    obtain ⟨x2a, x2b⟩ := hy2 (by omega)
    obtain ⟨y2, rfl⟩ : ∃ y : Nat, x2 = y := ⟨x2.toNat, by omega⟩
    have hc2 : costE y2 ≤ 9 := by rcases (show y2 = 0 ∨ y2 = 1 by omega) with h | h <;> simp [h, costE]
    obtain ⟨e2, q2, he2, c2a, c2b, c2c⟩ := rE l hl W y2 (by omega) (by omega) (q1 + 1) (by omega) (by omega)
    rw [Ex.cells_eq e2] at he2
    have t2 := Ex.thin_of_size e2 (by omega)
    refine ⟨.mk 3 0 [e1, e2] [] [K], q2, u1, j1, ?_, by simp [Pn.thin, Pn.thinL, hK, t1, t2], by omega, by omega, by omega, by omega, by omega⟩
    rw [callA_eq rfl Try.func58 rfl rfl]
    simp [PSt, ht, hv, v0, we, hkid, hW, hkk, wn, hq, hm, w2]
    rw [execA_loop]; simp [hx1, he1, w1]
    rw [execA_loop]; simp [hx2, he2, w0]
    rw [execA_loop]; simp [Pn.cells_mk, Ex.cellsL, intsL, Pn.cellsL, Pn.cells_eq K, Ex.cells_eq e1, Ex.cells_eq e2, PSt]
end Go.Proofs.Yteihcffblfdgfaa.P

/- Drawing plans and views. No condition. -/
namespace Go.Proofs.Yteihcffblfdgfaa.P
open Go Go.Av
set_option maxRecDepth 4000
set_option maxHeartbeats 8000000
theorem plan_scan {l : List UInt8} {ws : List Int} {k : Nat} {d j : Nat} {p u t : Int} (hd : d < 100) (ht : callA C0 59 [.own 0 0, .int k] [Rd l p] = some (.int t, [Rd l (p + 1)])) (hv : callA C0 59 [.own 0 0, .int 6] [Rd l (p + 1)] = some (.int 0, [Rd l (p + 1 + 1)])) :
    callA CP 58 [.own 0 0, .int ((d + 1 : Nat) : Int)] (PSt l ws k j u p) = some (.i (.agg (Pn.scan t).cells), PSt l ws k j u (p + 1 + 1)) := by
  have wn : ¬ ((d : Int) + 1 = 0) := by omega
  rw [callA_eq rfl Try.func58 rfl rfl]
  simp [PSt, ht, hv, scan_cells, wn]
theorem plan_step {l : List UInt8} (hl : l.length ≤ 2000) {ws : List Int} (hw : ∀ w ∈ ws, 0 ≤ w ∧ w ≤ 6) (hwl : ws.length < 1000000) {k : Nat} (hk0 : 0 < k) (hkl : k ≤ ws.length) {d j c c2 : Nat} (hd : d < 100) (hjb : j < 1000) (ih : PlanOk l ws k d j c) (hoth : ∀ i : Nat, i < j → ∀ y : Nat, y ≤ 1 → PlanOk l ws k y i c2) : PlanOk l ws k (d + 1) j (c + c2 + 500) := by
  intro p u h0 h1 hu0 hu1
  obtain ⟨t, ht, -, -⟩ := pick_eq l p k h0 (by omega) hl
  obtain ⟨v, hv, -, -⟩ := pick_eq l (p + 1) 6 (by omega) (by omega) hl
  by_cases v0 : v = 0
  · subst v0
    exact ⟨.scan t, p + 1 + 1, u, j, plan_scan hd ht hv, Pn.scan_thin t, by omega, by omega, by omega, by omega, by omega⟩
  obtain ⟨K, p1, u1, j1, hkid, hK, a1, a2, a3, a4, a5⟩ := ih (p + 1 + 1) u (by omega) (by omega) hu0 hu1
  have hW := splanWidth_own hw hwl hk0 hkl K hK
  have hWr := Pn.wd_range (ws := ws.take k) (fun w hm => hw w (List.mem_of_mem_take hm)) K 8
  generalize K.wd (ws.take k) 8 = W at hW hWr
  obtain ⟨kk, hkk, hkk1, -⟩ := pick_eq l p1 10 (by omega) (by omega) hl
  obtain ⟨kk0, kk9⟩ := hkk1 (by omega)
  suffices H : ∃ (P : Pn) (p' u' : Int) (j' : Nat), callA CP 58 [.own 0 0, .int ((d + 1 : Nat) : Int)] (PSt l ws k j u p) = some (.i (.agg P.cells), PSt l ws k j' u' p') ∧ P.thin ∧ p1 ≤ p' ∧ p' ≤ p1 + 400 + c2 ∧ j' ≤ j1 ∧ 0 ≤ u' ∧ u' ≤ 1 by
    obtain ⟨P, p', u', j', b1, b2, b3, b4, b5, b6, b7⟩ := H
    exact ⟨P, p', u', j', b1, b2, by omega, by omega, by omega, b6, b7⟩
  have hb : p1 + 400 + c2 < 300000000 := by omega
  have hp1 : 0 ≤ p1 := by omega
  by_cases q0 : kk = 0
  · exact plan_filter0 hl hd hb hp1 a4 a5 hWr.1 hWr.2 hK ht hv v0 hkid hW hkk q0
  by_cases q1 : kk = 1
  · exact plan_filter1 hl hd hb hp1 a4 a5 hWr.1 hWr.2 hK ht hv v0 hkid hW hkk q1
  by_cases q2 : kk = 2
  · exact plan_filter2 hl hd hb hp1 a4 a5 hWr.1 hWr.2 hK ht hv v0 hkid hW hkk q2
  by_cases q3 : kk = 3
  · exact plan_proj3 hl hd hb hp1 a4 a5 hWr.1 hWr.2 hK ht hv v0 hkid hW hkk q3
  by_cases q4 : kk = 4
  · exact plan_proj4 hl hd hb hp1 a4 a5 hWr.1 hWr.2 hK ht hv v0 hkid hW hkk q4
  by_cases q5 : kk = 5
  · by_cases hj : j1 = 0
    · exact plan_nojoin5 hl hd hb hp1 a4 a5 hWr.1 hWr.2 hK ht hv v0 hkid hW hkk hj q5
    by_cases hw4 : W ≤ 4
    · exact plan_join5 hl hw hwl hk0 hkl hd hb hp1 a4 a5 hWr.1 hWr.2 hK ht hv v0 hkid hW hkk hj (by omega) hw4 (fun y hy => hoth (j1 - 1) (by omega) y hy) q5
    · exact plan_wide5 hl hd hb hp1 a4 a5 hWr.1 hWr.2 hK ht hv v0 hkid hW hkk hj hw4 q5
  by_cases q6 : kk = 6
  · by_cases hj : j1 = 0
    · exact plan_nojoin6 hl hd hb hp1 a4 a5 hWr.1 hWr.2 hK ht hv v0 hkid hW hkk hj q6
    by_cases hw4 : W ≤ 4
    · exact plan_join6 hl hw hwl hk0 hkl hd hb hp1 a4 a5 hWr.1 hWr.2 hK ht hv v0 hkid hW hkk hj (by omega) hw4 (fun y hy => hoth (j1 - 1) (by omega) y hy) q6
    · exact plan_wide6 hl hd hb hp1 a4 a5 hWr.1 hWr.2 hK ht hv v0 hkid hW hkk hj hw4 q6
  by_cases q7 : kk = 7
  · by_cases hu : 0 < u1
    · exact plan_union hl hd hb hp1 a4 a5 hWr.1 hWr.2 hK ht hv v0 hkid hW hkk hu q7
    · exact plan_nounion hl hd hb hp1 a4 a5 hWr.1 hWr.2 hK ht hv v0 hkid hW hkk hu q7
  by_cases q8 : kk = 8
  · exact plan_distinct hl hd hb hp1 a4 a5 hWr.1 hWr.2 hK ht hv v0 hkid hW hkk q8
  have q9 : kk = 9 := by omega
  by_cases hw1 : 1 < W
  · exact plan_group2 hl hd hb hp1 a4 a5 hWr.1 hWr.2 hK ht hv v0 hkid hW hkk hw1 q9
  · exact plan_group1 hl hd hb hp1 a4 a5 hWr.1 hWr.2 hK ht hv v0 hkid hW hkk hw1 q9
theorem PlanOk.le {l : List UInt8} {ws : List Int} {k : Nat} {d j c c' : Nat} (h : PlanOk l ws k d j c) (hc : c ≤ c') : PlanOk l ws k d j c' := by
  intro p u h0 h1 hu0 hu1
  obtain ⟨P, p', u', j', b1, b2, b3, b4, b5, b6, b7⟩ := h p u h0 (by omega) hu0 hu1
  exact ⟨P, p', u', j', b1, b2, b3, by omega, b5, b6, b7⟩
/-- No joins. -/
theorem plan_none {l : List UInt8} (hl : l.length ≤ 2000) {ws : List Int} (hw : ∀ w ∈ ws, 0 ≤ w ∧ w ≤ 6) (hwl : ws.length < 1000000) {k : Nat} (hk0 : 0 < k) (hkl : k ≤ ws.length) : ∀ d : Nat, d < 50 → PlanOk l ws k d 0 (500 * d + 1)
  | 0, _ => (plan_zero hl 0).le (by omega)
  | d + 1, h => (plan_step hl hw hwl hk0 hkl (c2 := 0) (by omega) (by omega) (plan_none hl hw hwl hk0 hkl d (by omega)) (fun i hi => by omega)).le (by omega)
/-- One join. -/
theorem plan_one {l : List UInt8} (hl : l.length ≤ 2000) {ws : List Int} (hw : ∀ w ∈ ws, 0 ≤ w ∧ w ≤ 6) (hwl : ws.length < 1000000) {k : Nat} (hk0 : 0 < k) (hkl : k ≤ ws.length) : ∀ d : Nat, d < 50 → PlanOk l ws k d 1 (2000 * d + 1)
  | 0, _ => (plan_zero hl 1).le (by omega)
  | d + 1, h => (plan_step hl hw hwl hk0 hkl (c2 := 501) (by omega) (by omega) (plan_one hl hw hwl hk0 hkl d (by omega)) (fun i hi y hy => by
      obtain rfl : i = 0 := by omega
      exact (plan_none hl hw hwl hk0 hkl y (by omega)).le (by omega))).le (by omega)
theorem filt_step {e : Ex} {p : Pn} (he : e.size ≤ 120) (hp : p.thin) : (filtP e p).thin := filtP_thin (by omega) hp
/-- A plan over three tables, one join and one union at most. -/
theorem randomPlan_eq {l : List UInt8} (hl : l.length ≤ 2000) {ws : List Int} (hw : ∀ w ∈ ws, 0 ≤ w ∧ w ≤ 6) (hwl : ws.length < 1000000) (hk0 : 0 < ws.length) (p : Int) (h0 : 0 ≤ p) (h1 : p + 20000 < 200000000) : ∃ (P : Pn) (p' : Int),
    callA CP 61 [.own 0 0, .osl 1 1 0 ws.length] [Rd l p, some (.arr 1 (intsL ws))] = some (.i (.agg P.cells), [Rd l p', some (.arr 1 (intsL ws))]) ∧ P.thin ∧ p ≤ p' ∧ p' ≤ p + 20000 := by
  obtain ⟨v, hv, hv1, -⟩ := pick_eq l p 4 h0 (by omega) hl
  obtain ⟨v0, v1⟩ := hv1 (by omega)
  obtain ⟨y, rfl⟩ : ∃ y : Nat, v = y := ⟨v.toNat, by omega⟩
  have w1 : IntKind.i64.wrap (1 + (y : Int)) = ((y + 1 : Nat) : Int) := by rw [wrap64 (by omega) (by omega)]; omega
  obtain ⟨P, p1, u', j', hP, hPt, b1, b2, b3, b4, b5⟩ := plan_one hl hw hwl hk0 (Nat.le_refl _) (y + 1) (by omega) (p + 1) 1 (by omega) (by omega) (by omega) (by omega)
  simp only [PSt, Int.natCast_one, Int.natCast_add] at hP
  obtain ⟨z, hz, -, -⟩ := pick_eq l p1 2 (by omega) (by omega) hl
  by_cases hz0 : z = 0
  · have hW := splanWidth_own hw hwl hk0 (Nat.le_refl _) P hPt
    rw [List.take_length] at hW
    obtain ⟨e, p2, he, a1, a2, a3⟩ := randomCondition_eq l hl (P.wd ws 8) (p1 + 1) (by omega) (by omega)
    have hf := filterOf_eq e P
    refine ⟨filtP e P, p2, ?_, filt_step a3 hPt, by omega, by omega⟩
    rw [callA_eq rfl Try.func61 rfl rfl]
    rw [filtP_cells, Pn.cells_eq P, Ex.cells_eq e] at hf
    rw [Ex.cells_eq e] at he
    rw [Pn.cells_eq P] at hP hW
    rw [filtP_cells, Pn.cells_eq P, Ex.cells_eq e]
    simp [hv, w1, hP, hz, hz0, hW, he, hf]
  · refine ⟨P, p1 + 1, ?_, hPt, by omega, by omega⟩
    rw [callA_eq rfl Try.func61 rfl rfl]
    rw [Pn.cells_eq P] at hP ⊢
    simp [hv, w1, hP, hz, hz0]
end Go.Proofs.Yteihcffblfdgfaa.P

/- Drawing the arguments of FoldView. No condition. -/
namespace Go.Proofs.Yteihcffblfdgfaa.P
open Go Go.Av
set_option maxRecDepth 4000
set_option maxHeartbeats 8000000
theorem ints3 (a b c : Int) : intsL [a, b, c] = [[.int a], [.int b], [.int c]] := by simp [intsL]
theorem scan2_cells : (Pn.mk 1 2 [] [] []).cells = [.int 1, .int 2, .isl [], .isl [], .isl []] := by simp [Pn.cells, Ex.cellsL, intsL, Pn.cellsL]
theorem viewOf_eq {l : List UInt8} (hl : l.length ≤ 2000) : ∃ (P V : Pn) (ws : List Int) (t p' : Int), callA CP 24 [.own 0 0] [Rd l 0] = some (.tup [.i (.agg P.cells), .i (.agg V.cells), .i (.isl (intsL ws)), .int t], [Rd l p']) ∧ P.thin ∧ V.thin ∧ ws.length = 3 := by
  obtain ⟨a, b, r, p1, hr, r1, r2, r3, r4, r5, r6, r7⟩ := randomWidths_eq l hl 0 (by omega) (by omega)
  obtain ⟨v, hv, hv1, -⟩ := pick_eq l p1 2 (by omega) (by omega) hl
  obtain ⟨v0, v1⟩ := hv1 (by omega)
  obtain ⟨y, rfl⟩ : ∃ y : Nat, v = y := ⟨v.toNat, by omega⟩
  have w1 : IntKind.i64.wrap (1 + (y : Int)) = y + 1 := by rw [wrap64 (by omega) (by omega)]; omega
  have hw0 : ∀ w ∈ [a, b, 1], 0 ≤ w ∧ w ≤ 6 := by intro w hw; simp at hw; omega
  obtain ⟨V, p2, u', j', hV, hVt, b1, b2, b3, b4, b5⟩ := plan_none hl (ws := [a, b, 1]) hw0 (by simp) (k := 2) (by omega) (by simp) (y + 1) (by omega) (p1 + 1) 0 (by omega) (by omega) (by omega) (by omega)
  simp only [PSt, Int.natCast_zero, Int.natCast_add, Int.natCast_one] at hV
  have hW := splanWidth_own (ws := [a, b, 1]) hw0 (by simp) (k := 3) (by omega) (by simp) V hVt
  have hWr := Pn.wd_range (ws := [a, b, 1].take 3) (fun w hm => hw0 w (List.mem_of_mem_take hm)) V 8
  generalize V.wd ([a, b, 1].take 3) 8 = W at hW hWr
  obtain ⟨m, hm, m1, m2⟩ : ∃ m : Int, (if 6 < (if W < 1 then 1 else W) then 6 else (if W < 1 then 1 else W)) = m ∧ 1 ≤ m ∧ m ≤ 6 := ⟨_, rfl, by repeat' split <;> omega, by repeat' split <;> omega⟩
  have hw3 : ∀ w ∈ [a, b, m], 0 ≤ w ∧ w ≤ 6 := by intro w hw; simp at hw; omega
  obtain ⟨Q, p3, hQ, hQt, c1, c2⟩ := randomPlan_eq hl (ws := [a, b, m]) hw3 (by simp) (by simp) p2 (by omega) (by omega)
  obtain ⟨z1, hz1, hz1a, -⟩ := pick_eq l p3 3 (by omega) (by omega) hl
  obtain ⟨z1b, z1c⟩ := hz1a (by omega)
  have hl2 : (2 : Int) ≤ (r.length : Int) + 2 := by omega
  rw [ints3] at hV hW hQ
  simp only [List.length_cons, List.length_nil, Nat.zero_add, Nat.reduceAdd] at hQ
  rw [Pn.cells_eq V] at hV hW
  rw [Pn.cells_eq Q] at hQ
  have hc := cp_copyPlan V hVt
  rw [Pn.cells_eq V] at hc
  by_cases hW0 : 0 < W
  · by_cases h1 : 0 < z1
    · obtain ⟨e, p4, he, a1, a2, a3⟩ := randomCondition_eq l hl W (p3 + 1) (by omega) (by omega)
      have hf := filterOf_eq e V
      rw [filtP_cells, Pn.cells_eq V, Ex.cells_eq e] at hf
      rw [Ex.cells_eq e] at he
      obtain ⟨z2, hz2, -, -⟩ := pick_eq l p4 3 (by omega) (by omega) hl
      by_cases h2 : z2 = 0
      · obtain ⟨t, ht, -⟩ := one_eq l (p4 + 1) (by omega) (by omega) hl [[.int 2], [.int 2], [.int 2], [.int 2], [.int 0], [.int 3]] (by simp) (by simp) (by simp)
        simp only [List.length_cons, List.length_nil, Nat.zero_add, Nat.reduceAdd] at ht
        refine ⟨.mk 6 0 [] [] [V, .mk 1 2 [] [] []], V, [a, b, m], t, (p4 + 1) + 1, ?_, by simp [Pn.thin, Pn.thinL, hVt], hVt, by simp⟩
        rw [callA_eq rfl Try.func24 rfl rfl]
        simp [hl2, hr, hv, w1, hV, hW, hm, hQ, hz1, h1, hW0, ints3, intsL, hz2, h2, ht, he, hc, hf, filtP_cells, Ex.cells_eq e, hc, Pn.cells_mk, Ex.cellsL, Pn.cellsL, scan2_cells, Pn.cells_eq V]
      · obtain ⟨t, ht, -⟩ := one_eq l (p4 + 1) (by omega) (by omega) hl [[.int 2], [.int 2], [.int 2], [.int 2], [.int 0], [.int 3]] (by simp) (by simp) (by simp)
        simp only [List.length_cons, List.length_nil, Nat.zero_add, Nat.reduceAdd] at ht
        refine ⟨filtP e V, V, [a, b, m], t, (p4 + 1) + 1, ?_, filt_step a3 hVt, hVt, by simp⟩
        rw [callA_eq rfl Try.func24 rfl rfl]
        simp [hl2, hr, hv, w1, hV, hW, hm, hQ, hz1, h1, hW0, ints3, intsL, hz2, h2, ht, he, hc, hf, filtP_cells, Ex.cells_eq e, Pn.cells_eq V]
    · skip
      obtain ⟨z2, hz2, -, -⟩ := pick_eq l (p3 + 1) 3 (by omega) (by omega) hl
      by_cases h2 : z2 = 0
      · obtain ⟨t, ht, -⟩ := one_eq l ((p3 + 1) + 1) (by omega) (by omega) hl [[.int 2], [.int 2], [.int 2], [.int 2], [.int 0], [.int 3]] (by simp) (by simp) (by simp)
        simp only [List.length_cons, List.length_nil, Nat.zero_add, Nat.reduceAdd] at ht
        refine ⟨.mk 6 0 [] [] [V, .mk 1 2 [] [] []], V, [a, b, m], t, ((p3 + 1) + 1) + 1, ?_, by simp [Pn.thin, Pn.thinL, hVt], hVt, by simp⟩
        rw [callA_eq rfl Try.func24 rfl rfl]
        simp [hl2, hr, hv, w1, hV, hW, hm, hQ, hz1, h1, hW0, ints3, intsL, hz2, h2, ht, Pn.cells_eq Q, hc, Pn.cells_mk, Ex.cellsL, Pn.cellsL, scan2_cells, Pn.cells_eq V]
      · obtain ⟨t, ht, -⟩ := one_eq l ((p3 + 1) + 1) (by omega) (by omega) hl [[.int 2], [.int 2], [.int 2], [.int 2], [.int 0], [.int 3]] (by simp) (by simp) (by simp)
        simp only [List.length_cons, List.length_nil, Nat.zero_add, Nat.reduceAdd] at ht
        refine ⟨Q, V, [a, b, m], t, ((p3 + 1) + 1) + 1, ?_, hQt, hVt, by simp⟩
        rw [callA_eq rfl Try.func24 rfl rfl]
        simp [hl2, hr, hv, w1, hV, hW, hm, hQ, hz1, h1, hW0, ints3, intsL, hz2, h2, ht, Pn.cells_eq Q, Pn.cells_eq V]
  · by_cases h1 : 0 < z1
    · skip
      obtain ⟨z2, hz2, -, -⟩ := pick_eq l (p3 + 1) 3 (by omega) (by omega) hl
      by_cases h2 : z2 = 0
      · obtain ⟨t, ht, -⟩ := one_eq l ((p3 + 1) + 1) (by omega) (by omega) hl [[.int 2], [.int 2], [.int 2], [.int 2], [.int 0], [.int 3]] (by simp) (by simp) (by simp)
        simp only [List.length_cons, List.length_nil, Nat.zero_add, Nat.reduceAdd] at ht
        refine ⟨Q, V, [a, b, m], t, ((p3 + 1) + 1) + 1, ?_, hQt, hVt, by simp⟩
        rw [callA_eq rfl Try.func24 rfl rfl]
        simp [hl2, hr, hv, w1, hV, hW, hm, hQ, hz1, h1, hW0, ints3, intsL, hz2, h2, ht, Pn.cells_eq Q, Pn.cells_eq V]
      · obtain ⟨t, ht, -⟩ := one_eq l ((p3 + 1) + 1) (by omega) (by omega) hl [[.int 2], [.int 2], [.int 2], [.int 2], [.int 0], [.int 3]] (by simp) (by simp) (by simp)
        simp only [List.length_cons, List.length_nil, Nat.zero_add, Nat.reduceAdd] at ht
        refine ⟨Q, V, [a, b, m], t, ((p3 + 1) + 1) + 1, ?_, hQt, hVt, by simp⟩
        rw [callA_eq rfl Try.func24 rfl rfl]
        simp [hl2, hr, hv, w1, hV, hW, hm, hQ, hz1, h1, hW0, ints3, intsL, hz2, h2, ht, Pn.cells_eq Q, Pn.cells_eq V]
    · skip
      obtain ⟨z2, hz2, -, -⟩ := pick_eq l (p3 + 1) 3 (by omega) (by omega) hl
      by_cases h2 : z2 = 0
      · obtain ⟨t, ht, -⟩ := one_eq l ((p3 + 1) + 1) (by omega) (by omega) hl [[.int 2], [.int 2], [.int 2], [.int 2], [.int 0], [.int 3]] (by simp) (by simp) (by simp)
        simp only [List.length_cons, List.length_nil, Nat.zero_add, Nat.reduceAdd] at ht
        refine ⟨Q, V, [a, b, m], t, ((p3 + 1) + 1) + 1, ?_, hQt, hVt, by simp⟩
        rw [callA_eq rfl Try.func24 rfl rfl]
        simp [hl2, hr, hv, w1, hV, hW, hm, hQ, hz1, h1, hW0, ints3, intsL, hz2, h2, ht, Pn.cells_eq Q, Pn.cells_eq V]
      · obtain ⟨t, ht, -⟩ := one_eq l ((p3 + 1) + 1) (by omega) (by omega) hl [[.int 2], [.int 2], [.int 2], [.int 2], [.int 0], [.int 3]] (by simp) (by simp) (by simp)
        simp only [List.length_cons, List.length_nil, Nat.zero_add, Nat.reduceAdd] at ht
        refine ⟨Q, V, [a, b, m], t, ((p3 + 1) + 1) + 1, ?_, hQt, hVt, by simp⟩
        rw [callA_eq rfl Try.func24 rfl rfl]
        simp [hl2, hr, hv, w1, hV, hW, hm, hQ, hz1, h1, hW0, ints3, intsL, hz2, h2, ht, Pn.cells_eq Q, Pn.cells_eq V]
theorem drawFold_eq (code : List UInt8) : ∃ (P V : Pn) (ws : List Int) (t : Int), callA CP 7 [.i (.isl (bytesI code))] [] = some (.tup [.i (.agg P.cells), .i (.agg V.cells), .i (.isl (intsL ws)), .int t], []) ∧ P.thin ∧ V.thin ∧ ws.length = 3 := by
  obtain ⟨c, hc, hr⟩ := newReader_eq code
  obtain ⟨P, V, ws, t, p', h, h1, h2, h3⟩ := viewOf_eq hc
  refine ⟨P, V, ws, t, ?_, h1, h2, h3⟩
  rw [callA_eq rfl Try.func7 rfl rfl]
  rw [Pn.cells_eq P, Pn.cells_eq V] at *
  simp [hr, h]
end Go.Proofs.Yteihcffblfdgfaa.P

/- The law on counting folded parts. No condition. -/
namespace Go.Av
theorem fvP_thin {p v : Pn} (hp : p.thin) (ws : List Int) (t : Int) : (fvP p v ws t).thin := by
  unfold fvP
  split
  · exact foldP_thin v t p hp
  · exact Pn.zero_thin
theorem fvOk_self {p v : Pn} {ws : List Int} {t : Int} (h : fvOk p v ws t = true) : fvOk v v ws t = true := by
  unfold fvOk at h ⊢
  simp only [Bool.and_eq_true] at h ⊢
  refine ⟨?_, h.2⟩
  have h2 := h.2
  unfold canB at h2
  simp only [Bool.and_eq_true] at h2
  exact h2.1
theorem szP_fold {p v : Pn} {ws : List Int} {t : Int} (h : p.width ws ≠ 0) : szP (foldP v t p) ws ≤ szP p ws := by
  have := foldP_size v t p
  unfold szP
  rw [if_neg h]
  split <;> omega
end Go.Av
namespace Go.Proofs.Yteihcffblfdgfaa.P
open Go Go.Av
set_option maxRecDepth 4000
set_option maxHeartbeats 8000000
@[simp] theorem cp_equalPlans (a : List AV) (st : StL) : callA CP 10 a st = callA C0 10 a st := by rw [callA_prim (p := callA C0 10) rfl]
@[simp] theorem cp_sFoldView (a : List AV) (st : StL) : callA CP 9 a st = callA C0 9 a st := by rw [callA_prim (p := callA C0 9) rfl]
theorem law_foldCount (code : List UInt8) : callA CP 3 [.i (.isl (bytesI code))] [] = some (.bool true, []) := by
  rw [callA_eq rfl Try.func3 rfl rfl]
  by_cases hl : (code.length : Int) > 1048576
  · simp [bytesI_length, hl, show ((1048576 : Int) < code.length) from hl]
  obtain ⟨p, v, ws, t, hd, hp, hv, hws⟩ := drawFold_eq code
  have e1 := FoldView_eq p v hp ws t
  have e2 := sFoldView_eq p v hp hv ws (by omega) t
  have ht := fvP_thin (v := v) hp ws t
  have e3 := equalPlans_eq (fvP p v ws t) ht (fvP p v ws t)
  rw [Pn.eqb_refl] at e3
  rw [Pn.cells_eq p, Pn.cells_eq v] at hd e1 e2
  cases ho : fvOk p v ws t with
  | false =>
    have hn : fvN p v ws t = -1 := by simp [fvN, ho]
    rw [hn] at e1 e2
    generalize fvP p v ws t = q at e1 e2 e3
    rw [Pn.cells_eq q] at e1 e2 e3
    simp [bytesI_length, hl, hd, e1, e2, e3]
  | true =>
    have hw : p.width ws ≠ 0 := by unfold fvOk at ho; simp at ho; exact ho.1
    have hn : fvN p v ws t = cntP v p := by simp [fvN, ho]
    have hq : fvP p v ws t = foldP v t p := by simp [fvP, ho]
    have e4 := FoldView_eq v v hv ws t
    have hn1 : fvN v v ws t = 1 := by simp [fvN, fvOk_self ho, cntP_self]
    have hq1 : fvP v v ws t = Pn.scan t := by simp [fvP, fvOk_self ho, foldP_self]
    have e5 := equalPlans_eq (Pn.scan t) (Pn.scan_thin t) (Pn.scan t)
    rw [Pn.eqb_refl, scan_cells] at e5
    rw [hn1, hq1, scan_cells, Pn.cells_eq v] at e4
    have e6 := PlanSize_eq p hp ws
    have e7 := PlanSize_eq (fvP p v ws t) ht ws
    have hs : szP (fvP p v ws t) ws ≤ szP p ws := by rw [hq]; exact szP_fold hw
    have e8 := equalPlans_eq (fvP p v ws t) ht p
    have h0 : cntP v p = 0 → (fvP p v ws t).eqb p = true := fun h => by rw [hq, foldP_none v t p h]; exact Pn.eqb_refl p
    rw [hn] at e1 e2
    generalize fvP p v ws t = q at e1 e2 e3 e7 e8 hs h0
    rw [Pn.cells_eq q] at e1 e2 e3 e7 e8
    rw [Pn.cells_eq p] at e6 e8
    generalize cntP v p = n at e1 e2 h0
    by_cases hz : n = 0
    · rw [h0 hz] at e8
      subst hz
      simp only [Int.natCast_zero] at e1 e2
      simp [bytesI_length, hl, hd, e1, e2, e3, e4, e5, e6, e7, e8, hs]
    · have hn0 : ¬ (n : Int) < 0 := by omega
      have hn1 : 0 < n := by omega
      simp [bytesI_length, hl, hd, e1, e2, e3, e4, e5, e6, e7, hs, hn0, hn1]
theorem law_foldCount_calls (a : Option Addr) (len cap : Nat) (zs : List Int) (w : World)
    (h : (a = none ∧ len = 0 ∧ cap = 0 ∧ zs = []) ∨ ∃ x, a = some x ∧ len ≤ cap ∧ cap ≤ maxLen ∧ zs.length = cap ∧ (∀ i, i < zs.length → w.cell? (x.add i) = some (.int .u8 (zs.getD i 0))) ∧ ∀ n ∈ zs, (Lit.int .u8 n).wf = true) :
    Calls Try.prog 3 #[.slice a len cap] w fun e w' => e = .returned (.bool true) ∧ RowKit.Below w.heap.size w w' := by
  obtain ⟨code, hc⟩ := bytes_rep h
  exact calls_true soundP (.cons (.i hc) .nil) (law_foldCount code)
end Go.Proofs.Yteihcffblfdgfaa.P

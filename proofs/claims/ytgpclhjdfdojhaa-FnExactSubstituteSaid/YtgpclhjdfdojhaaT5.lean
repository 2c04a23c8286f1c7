/- Part 5 of what the proof rests on: the executor and what it is worth, and the program's functions as it runs them. No condition. -/
import Derived.Test.YtgpclhjdfdojhaaT4
set_option linter.unusedVariables false
set_option linter.unusedSimpArgs false
/- The copy of an expression: the worklist's code. No condition. -/
namespace Go.Proofs.Ytgpclhjdfdojhaa
open Go Go.Av
set_option maxRecDepth 4000
/-- The context without ready contracts. -/
noncomputable def C1 : Ctx := { P := Try.prog, G := GS, ownArgs := ownA, keepRes := keepR, eqT := eqTy, prim := fun _ => none }
@[simp] theorem C1_P : C1.P = Try.prog := (rfl)
@[simp] theorem C1_G (f) : C1.G f = GS f := (rfl)
@[simp] theorem C1_o (f) : C1.ownArgs f = ownA f := (rfl)
@[simp] theorem C1_k (f) : C1.keepRes f = keepR f := (rfl)
@[simp] theorem C1_e (f) : C1.eqT f = eqTy f := (rfl)
@[simp] theorem C1_t : C1.tree = false := (rfl)
theorem cpl_nil : callA C1 71 [.i (.isl [])] [] = some (.nils, []) := by
  rw [callA_eq rfl Try.func71 rfl rfl]
  simp
theorem cpl_some {ks : List Ex} (h : ks ≠ []) (hl : ks.length < 1000000000) : callA C1 71 [.i (.isl (Ex.cellsL ks))] [] = some (.osl 0 5 0 ks.length, [some (.arr 5 (Ex.cellsL ks))]) := by
  rw [callA_eq rfl Try.func71 rfl rfl]
  have h1 : 56 * (ks.length : Int) ≤ 281474976710656 := by omega
  simp [h, h1]
  unfold over
  simp
theorem sound1 : SoundOk C1 := sound_ok (C := C1) ft nt (fun t ht => by
  have h : eqTy t = true := ht
  unfold eqTy at h
  split at h
  · exact e23
  · exact e24
  · exact e42
  · cases h) mo (prim_none fun _ => rfl)
def ptr (p : Nat × Nat) : IV := .lit (.pointer (some ⟨p.1, p.2, none⟩))
def zc : List AV := [.int 0, .int 0, .bool false, .int 0, .nils]
def Sini (e : Ex) : AS := { env := [(0, .i (.iref e.cells))], st := [] }
def Sout (e : Ex) : AS := { env := [(0, .i (.iref e.cells)), (2, .own 0 0), (3, .own 1 0), (4, .junk), (5, .junk), (6, .junk), (13, .junk), (37, .junk), (38, .junk), (39, .junk)], st := [some (.box zc), some (.box (impI e.cells))] }
/-- The state at the worklist's head. -/
def SL (b3 : Nat) (todo X : KL) : AS :=
  { env := [(0, .junk), (2, .own 0 0), (3, .i (ptr (b3, 0))), (4, .osl 1 1 0 todo.length), (5, .junk), (6, .junk), (13, .junk), (37, .junk), (38, .junk), (39, .junk)], st := [some (.box zc), some (.arr 1 ((todo ++ X).map fun k => [ptr k.1]))] }
theorem ptr_lit : ∀ (l : KL), ∀ c ∈ (l.map fun k => [ptr k.1]).flatten, ∃ v, c = .lit v
  | [], c, h => by simp at h
  | k :: l, c, h => by
    simp only [List.map_cons, List.flatten_cons, List.mem_append, List.mem_singleton] at h
    rcases h with rfl | h
    · exact ⟨_, rfl⟩
    · exact ptr_lit l c h
/-- What is known when the kids have been copied, ahead of the store. -/
def PP (b3 : Nat) (b o n : Nat) (x : Ex) (ES : List (List IV)) (env : Nat → AV) (st : Store) : Prop :=
  env 2 = .own 0 0 ∧ env 3 = .i (ptr (b3, 0)) ∧ env 4 = .osl 1 1 0 n ∧ env 5 = .i (ptr (b, o)) ∧ env 32 = .i (ptr (b, o + 4)) ∧ st 0 = some (.box zc) ∧ st 1 = some (.arr 1 ES) ∧
    ((env 30 = .nils ∧ x.kids = []) ∨ ∃ id, env 30 = .osl id 5 0 x.kids.length ∧ x.kids ≠ [] ∧ st id = some (.arr 5 (Ex.cellsL x.kids)) ∧ 2 ≤ id)
theorem wrap_1' : IntKind.i64.wrap 1 = 1 := wrap64 (by omega) (by omega)
/-- The pointers that have been put on the worklist. -/
def RW (init : KL) (b' i : Nat) : List (List IV) := (init.map fun k => [ptr k.1]) ++ (List.range i).map fun j => [ptr (b', j * 5)]
theorem RW_len (init : KL) (b' i : Nat) : (RW init b' i).length = init.length + i := by simp [RW]
theorem RW_succ (init : KL) (b' i : Nat) : RW init b' i ++ [[ptr (b', i * 5)]] = RW init b' (i + 1) := by simp [RW, List.range_succ]
theorem kidsAt_map (b : Nat) : ∀ (o : Nat) (l : List Ex), (kidsAt b o l).map (fun k => [ptr k.1]) = (List.range l.length).map fun j => [ptr (b, o + j * 5)]
  | _, [] => by simp [kidsAt]
  | o, a :: l => by
    simp only [kidsAt, List.map_cons, kidsAt_map b (o + 5) l, List.length_cons, List.range_succ_eq_map, List.map_map]
    simp only [List.cons.injEq, Nat.zero_mul, Nat.add_zero, true_and]
    apply List.map_congr_left
    intro j _
    simp only [Function.comp, Nat.succ_eq_add_one]
    rw [show o + 5 + j * 5 = o + (j + 1) * 5 by omega]
theorem kidsAt_len (b : Nat) : ∀ (o : Nat) (l : List Ex), (kidsAt b o l).length = l.length
  | _, [] => rfl
  | o, a :: l => by simp [kidsAt, kidsAt_len b (o + 5) l]
theorem kidsAt_sum (b : Nat) : ∀ (o : Nat) (l : List Ex), ((kidsAt b o l).map fun k => k.2.size).sum = Ex.sizeL l
  | _, [] => rfl
  | o, a :: l => by simp [kidsAt, Ex.sizeL, kidsAt_sum b (o + 5) l]
/-- The state when so many kids have been put on the worklist. -/
def YS (b3 b' cap : Nat) (x : Ex) (init : KL) (ES : List (List IV)) (i : Nat) : AS :=
  { env := [(0, .junk), (2, .own 0 0), (3, .i (ptr (b3, 0))), (4, if i = 0 then .osl 1 1 0 init.length else .osl 2 1 0 (init.length + i)), (5, .i (.iref [.int x.kind, .int x.col, .bool x.val.null, .int x.val.n, .lit (.slice (some ⟨b', 0, none⟩) x.kids.length cap)])), (6, jk i (.int (i - 1))), (13, .junk), (37, .int x.kids.length), (38, .int i), (39, jk i (.bool true))],
    st := some (.box zc) :: if i = 0 then [some (.arr 1 ES)] else [none, some (.arr 1 (RW init b' i))] }
set_option maxHeartbeats 1000000
theorem copied_calls {e : Ex} (he : e.size < 1000000000) {wi : World} {mi : Mem} {φ : Pl} {vs : List Value} (hi : Inv wi mi φ (stOf [])) (hr : RepL mi φ [.i (.iref e.cells)] vs) (h0 : ∀ id, φ id ≠ none → id < 0) :
    Calls Try.prog 45 vs.toArray wi (CallPost wi mi φ (.i (.agg e.cells)) []) := by
  obtain rfl : φ = fun _ => none := by
    funext id
    cases h : φ id with
    | none => rfl
    | some p => exact absurd (h0 id (by rw [h]; simp)) (Nat.not_lt_zero _)
  refine calls_of_wp (fn := Try.f45) Try.func45 rfl ?_
  have g0 : GG wi mi 52 (fun id => id < (Sini e).st.length) [] (envOf (Sini e).env) (stOf (Sini e).st) { tmps := vs.toArray ++ Array.replicate (52 - vs.toArray.size) undef, defers := [] } wi := by
    refine ⟨⟨mi, fun _ => none, hi, ?_, .refl _ _ _, fun id h => absurd rfl h, fun k hk => by simp at hk⟩, by simp; omega, rfl⟩
    intro t
    have := enter_rep (m := mi) (φ := fun _ => none) (52 - vs.toArray.size) hr t
    cases t with
    | zero => simpa [Sini, envOf, argAt] using this
    | succ t => simp only [Sini, envOf]; simp; exact .junk _
  refine wp_seq (wp_mono (GG.codeA sound1 (G := GS 45) (S := Sini e) (e := .normal) (S' := { Sout e with env := [(0, .i (.iref e.cells)), (2, .own 0 0), (3, .junk), (4, .junk), (5, .junk), (6, .junk), (13, .junk), (37, .junk), (38, .junk), (39, .junk)], st := [some (.box zc)] }) (by kernel_rfl) (by simp [Sini, zc]) g0) ?_)
  rintro _ a1 w1 ⟨rfl, g1⟩
  refine wp_seq (wp_mono (GG.codeA sound1 (G := GS 45) (S := { Sout e with env := [(0, .i (.iref e.cells)), (2, .own 0 0), (3, .junk), (4, .junk), (5, .junk), (6, .junk), (13, .junk), (37, .junk), (38, .junk), (39, .junk)], st := [some (.box zc)] }) (e := .normal) (S' := Sout e) (by kernel_rfl) (by simp [Sout, zc]) g1) ?_)
  rintro _ a2 w2 ⟨rfl, g2⟩
  obtain ⟨b3, g3⟩ := g2.pub (u := 3) (id := 1) (e := e) (st' := stOf [some (.box zc)]) (ok' := fun id => id < 1) rfl rfl (by
    intro i blk h
    cases i with
    | zero => simp [stOf] at h; subst h; exact ⟨by omega, rfl, by simp [LitBlk, zc]⟩
    | succ i => simp [stOf] at h) (by
    intro i h
    cases i with
    | zero => omega
    | succ i => simp [stOf] at h)
  have g3 := g3 (envOf [(2, .own 0 0), (3, .i (ptr (b3, 0)))]) (by
    intro t
    simp only [envOf]
    by_cases h2 : t = 2
    · subst h2; exact .inr (.inr ⟨rfl, by simp [Sout, envOf, Stays, stOf]⟩)
    · by_cases h3 : t = 3
      · subst h3; exact .inr (.inl ⟨rfl, rfl⟩)
      · simp [h2, h3])
  refine wp_seq (wp_mono (GG.codeA sound1 (G := GS 45) (S := { env := [(2, .own 0 0), (3, .i (ptr (b3, 0)))], st := [some (.box zc)] }) (e := .normal) (S' := SL b3 [((b3, 0), e)] []) (by kernel_rfl) (by simp [SL, ptr, zc]) g3) ?_)
  rintro _ a3 w3 ⟨rfl, g4⟩
  refine wp_seq (wp_block ?_)
  refine wp_loop_n (fun n a w => ∃ todo X K : KL, (∀ k ∈ todo, k ∈ K) ∧ ((b3, 0), e) ∈ K ∧ (todo.map fun k => k.2.size).sum = n ∧ n < 1000000000 ∧ GG wi mi 52 (fun id => id < (SL b3 todo X).st.length) K (envOf (SL b3 todo X).env) (stOf (SL b3 todo X).st) a w) ?_ (n := e.size) ⟨[((b3, 0), e)], [], [((b3, 0), e)], fun k hk => hk, by simp, by simp, he, g4⟩
  rintro n a w ⟨todo, X, K, hsub, hb3, hsum, hn, g⟩
  rcases List.eq_nil_or_concat todo with rfl | ⟨init, k, rfl⟩
  · refine wp_mono (GG.codeA sound1 (G := GS 45) (S := SL b3 [] X) (e := .exit 0) (S' := { env := [(0, .junk), (2, .own 0 0), (3, .i (ptr (b3, 0))), (4, .osl 1 1 0 0), (5, .junk), (6, .junk), (13, .bool false), (37, .junk), (38, .junk), (39, .junk)], st := [some (.box zc), some (.arr 1 (X.map fun k => [ptr k.1]))] }) (by kernel_rfl) (by simp [SL, ptr, zc]) g) ?_
    rintro _ a5 w5 ⟨rfl, g5⟩
    simp only [exitOf, Exit.then, Exit.inBlock, if_true]
    have g6 := (g5.see (u := 3) (b := b3) (o := 0) rfl hb3).envTo (env' := envOf [(2, .own 0 0), (3, .i (.iref e.cells))]) (by
      intro t
      simp only [envOf, upd]
      by_cases h2 : t = 2
      · subst h2; simp
      · by_cases h3 : t = 3
        · subst h3; simp
        · simp [h2, h3])
    refine wp_mono (GG.codeA sound1 (G := GS 45) (S := { env := [(2, .own 0 0), (3, .i (.iref e.cells))], st := [some (.box zc), some (.arr 1 (X.map fun k => [ptr k.1]))] }) (e := .ret) (S' := { env := [(0, .junk), (2, .own 0 0), (3, .i (.iref e.cells)), (4, .junk), (5, .junk), (6, .junk), (13, .junk), (37, .junk), (38, .junk), (39, .junk)], st := [some (.box (impI e.cells)), some (.arr 1 (X.map fun k => [ptr k.1]))] }) (by kernel_rfl) (by simp [zc]) g6) ?_
    rintro _ a6 w6 ⟨rfl, g7⟩
    obtain ⟨⟨m, φ, q1, q2, q3, q4, q5⟩, q6, q7⟩ := g7
    obtain ⟨v, k1, k2⟩ := finish_sound (C := C1) (fn := Try.f45) (keep := false) (na := 0) (S := { env := [(0, .junk), (2, .own 0 0), (3, .i (.iref e.cells)), (4, .junk), (5, .junk), (6, .junk), (13, .junk), (37, .junk), (38, .junk), (39, .junk)], st := [some (.box (impI e.cells)), some (.arr 1 (X.map fun k => [ptr k.1]))] }) (r := .i (.agg e.cells)) (stl' := []) (fun id h => absurd rfl h) ⟨⟨⟨m, φ, q1, q2, q3, q4⟩, q6, q7⟩, Nat.zero_le _⟩ (by
      show finish C1 false [ResultVar.cell 2 27] 0 _ = _
      simp)
    exact ⟨q7, v, k1, k2⟩
  · clear g0 g4 g3 g1 g2
    obtain ⟨⟨b, o⟩, x⟩ := k
    have hlen : ∀ l : KL, l.length ≤ (l.map fun k => k.2.size).sum := by
      intro l
      induction l with
      | nil => simp
      | cons a l ih => have := Ex.size_pos a.2; simp; omega
    have hil := hlen init
    simp at hsum
    have hxk : ((b, o), x) ∈ K := hsub _ (by simp)
    have hxs := Ex.size_eq x
    have hkl := Ex.sizeL_length x.kids
    have hne : ¬ ((init.length : Int) + 1 ≤ 0) := by omega
    have hpos : (0 : Int) < (init.length : Int) + 1 := by omega
    have w1 : IntKind.i64.wrap (init.length : Int) = init.length := wrap64 (by omega) (by omega)
    generalize hES : ((init ++ [((b, o), x)] ++ X).map fun k => [ptr k.1]) = ES
    have hnth : nthE ES init.length = some [ptr (b, o)] := by
      rw [nthE_eq, ← hES]; simp
    have hlit : ∀ c ∈ ES.flatten, ∃ v, c = .lit v := by rw [← hES]; exact ptr_lit _
    have hlt : (init.length : Int) < (init.length : Int) + 1 := by omega
    have hlt2 : (init.length : Int) ≤ (init.length : Int) + 1 := by omega
    refine wp_seq (wp_mono (GG.codeA sound1 (G := GS 45) (S := SL b3 (init ++ [((b, o), x)]) X) (e := .normal) (S' := { env := [(0, .junk), (2, .own 0 0), (3, .i (ptr (b3, 0))), (4, .osl 1 1 0 (init.length + 1)), (5, .junk), (6, .junk), (13, .bool true), (37, .junk), (38, .junk), (39, .junk)], st := [some (.box zc), some (.arr 1 ES)] }) (by kernel_rfl) (by simp only [SL, hES]; simp [ptr, zc, hpos]) (by simpa using g)) ?_)
    rintro _ a5 w5 ⟨rfl, g5⟩
    clear g
    refine wp_block ?_
    refine wp_seq (wp_mono (GG.codeA sound1 (G := GS 45) (S := { env := [(0, .junk), (2, .own 0 0), (3, .i (ptr (b3, 0))), (4, .osl 1 1 0 (init.length + 1)), (5, .junk), (6, .junk), (13, .bool true), (37, .junk), (38, .junk), (39, .junk)], st := [some (.box zc), some (.arr 1 ES)] }) (e := .normal) (S' := { env := [(0, .junk), (2, .own 0 0), (3, .i (ptr (b3, 0))), (4, .osl 1 1 0 (init.length + 1)), (5, (.i (ptr (b, o)))), (6, .junk), (13, .bool true), (37, .junk), (38, .junk), (39, .junk)], st := [some (.box zc), some (.arr 1 ES)] }) (by kernel_rfl) (by simp only [ptr] at hnth; simp [ptr, zc, hnth, w1, hlt]) g5) ?_)
    rintro _ a6 w6 ⟨rfl, g6⟩
    clear g5
    refine wp_seq (wp_mono (GG.codeA sound1 (G := GS 45) (S := { env := [(0, .junk), (2, .own 0 0), (3, .i (ptr (b3, 0))), (4, .osl 1 1 0 (init.length + 1)), (5, (.i (ptr (b, o)))), (6, .junk), (13, .bool true), (37, .junk), (38, .junk), (39, .junk)], st := [some (.box zc), some (.arr 1 ES)] }) (e := .normal) (S' := { env := [(0, .junk), (2, .own 0 0), (3, .i (ptr (b3, 0))), (4, .osl 1 1 0 init.length), (5, (.i (ptr (b, o)))), (6, .junk), (13, .bool true), (37, .junk), (38, .junk), (39, .junk)], st := [some (.box zc), some (.arr 1 ES)] }) (by kernel_rfl) (by simp [ptr, zc, w1, hlt2]) g6) ?_)
    rintro _ a7 w7 ⟨rfl, g7⟩
    clear g6
    refine wp_seq (GG.region sound1 (os1 := [_, _]) (os2 := [_, _, _, _, _, _]) (u := 26) (PP := PP b3 b o init.length x ES) rfl (by
      have h : ∀ ops : Array Oper, ops.all (operOk 52) = true → ∀ o ∈ ops, operOk 52 o = true := fun ops h o ho => Array.all_eq_true_iff_forall_mem.1 h o ho
      exact h _ (by kernel_rfl)) g7 hxk ?_ ?_)
    · rw [Ex.cells_eq]
      by_cases hx : x.kids = []
      · simp [ptr, zc, hx, PP, Ex.cellsL, cpl_nil]
      · simp [ptr, zc, PP, cpl_some hx (by omega), hx]
    · rintro env st a8 w8 ⟨p2, p3, p4, p5, p32, q0, q1, p30⟩ g8
      clear g7
      obtain ⟨w9, b', ao, cap, e1, e2, hrun, hG⟩ := GG.turn (C := C1) (ok' := fun id => id < 2) (st' := stOf [some (.box zc), some (.arr 1 ES)]) (u := 30) (t := 25) g8 (by simp) hi.mem hxk rfl (by
        rcases p30 with ⟨h1, h2⟩ | ⟨id, h1, h2, h3, h4⟩
        · refine .inl ⟨h1, h2, ?_⟩
          intro i blk h
          rcases i with _ | _ | i
          · simp [stOf] at h; subst h; exact q0
          · simp [stOf] at h; subst h; exact q1
          · simp [stOf] at h
        · refine .inr ⟨id, h1, h2, h3, ?_⟩
          intro i blk h
          rcases i with _ | _ | i
          · simp [stOf] at h; subst h; exact ⟨by omega, q0⟩
          · simp [stOf] at h; subst h; exact ⟨by omega, q1⟩
          · simp [stOf] at h) (by
        intro i blk h
        rcases i with _ | _ | i
        · simp [stOf] at h; subst h; simp [LitBlk, zc]
        · simp [stOf] at h; subst h; exact hlit
        · simp [stOf] at h) (by
        intro i h
        rcases i with _ | _ | i
        · omega
        · omega
        · simp [stOf] at h)
      have ev5 := g8.litAt (t := 5) p5
      have ev32 := g8.litAt (t := 32) p32
      refine wpOp_store (C := C1) (w' := w9) rfl (by
        show (Instr.storeAt 25 (a8.tmps.getD 32 undef) (a8.tmps.getD 30 undef)).run C1.P w8 = _
        rw [ev32]; exact hrun) ?_
      have g9 := hG (envOf [(2, .own 0 0), (3, .i (ptr (b3, 0))), (4, .osl 1 1 0 init.length), (5, (.i (.iref [.int x.kind, .int x.col, .bool x.val.null, .int x.val.n, .lit (.slice ao x.kids.length cap)])))]) (by
        intro t
        simp only [envOf]
        by_cases h2 : t = 2
        · subst h2; exact .inr (.inr ⟨by simp [p2], by rw [p2]; simp [Stays, stOf]⟩)
        by_cases h3 : t = 3
        · subst h3; exact .inr (.inr ⟨by simp [p3], by rw [p3]; simp [Stays, ptr]⟩)
        by_cases h4 : t = 4
        · subst h4; exact .inr (.inr ⟨by simp [p4], by rw [p4]; simp [Stays, stOf]⟩)
        by_cases h5 : t = 5
        · subst h5; exact .inr (.inl ⟨ev5, by simp⟩)
        · simp [h2, h3, h4, h5])
      clear hG g8
      show Code.wp _ _ _ _ _
      refine wp_seq (wp_mono (GG.codeA sound1 (G := GS 45) (S := { env := [(2, .own 0 0), (3, .i (ptr (b3, 0))), (4, .osl 1 1 0 init.length), (5, (.i (.iref [.int x.kind, .int x.col, .bool x.val.null, .int x.val.n, .lit (.slice ao x.kids.length cap)])))], st := [some (.box zc), some (.arr 1 ES)] }) (e := .normal) (S' := { env := [(0, .junk), (2, .own 0 0), (3, .i (ptr (b3, 0))), (4, .osl 1 1 0 init.length), (5, (.i (.iref [.int x.kind, .int x.col, .bool x.val.null, .int x.val.n, .lit (.slice ao x.kids.length cap)]))), (6, .junk), (13, .junk), (37, .int x.kids.length), (38, .int 0), (39, .junk)], st := [some (.box zc), some (.arr 1 ES)] }) (by kernel_rfl) (by simp [ptr, zc]) g9) ?_)
      rintro _ a10 w10 ⟨rfl, g10⟩
      clear g9
      by_cases hx : x.kids = []
      · refine wp_mono (GG.codeA sound1 (G := GS 45) (S := { env := [(0, .junk), (2, .own 0 0), (3, .i (ptr (b3, 0))), (4, .osl 1 1 0 init.length), (5, (.i (.iref [.int x.kind, .int x.col, .bool x.val.null, .int x.val.n, .lit (.slice ao x.kids.length cap)]))), (6, .junk), (13, .junk), (37, .int x.kids.length), (38, .int 0), (39, .junk)], st := [some (.box zc), some (.arr 1 ES)] }) (e := .normal) (S' := { env := [(0, .junk), (2, .own 0 0), (3, .i (ptr (b3, 0))), (4, .osl 1 1 0 init.length), (5, (.i (.iref [.int x.kind, .int x.col, .bool x.val.null, .int x.val.n, .lit (.slice ao x.kids.length cap)]))), (6, .junk), (13, .junk), (37, .int x.kids.length), (38, .int 0), (39, .bool false)], st := [some (.box zc), some (.arr 1 ES)] }) (by kernel_rfl) (by
          simp only [hx, List.length_nil]
          simp
          rw [execA_loop]
          simp [ptr, zc]) g10) ?_
        rintro _ a11 w11 ⟨rfl, g11⟩
        simp only [exitOf, Exit.then, Exit.inBlock]
        refine ⟨n - 1, by omega, init, ((b, o), x) :: X, K ++ kidsAt b' 0 x.kids, fun k hk => List.mem_append_left _ (hsub k (by simp [hk])), List.mem_append_left _ hb3, ?_, by omega, ?_⟩
        · rw [hx] at hxs; simp [Ex.sizeL] at hxs; omega
        · have hES2 : ((init ++ ((b, o), x) :: X).map fun k => [ptr k.1]) = ES := by rw [← hES]; simp
          simp only [SL, hES2]
          exact g11.envTo (by
            intro t
            simp only [envOf]
            by_cases h2 : t = 2
            · subst h2; simp
            by_cases h3 : t = 3
            · subst h3; simp
            by_cases h4 : t = 4
            · subst h4; simp
            · simp [h2, h3, h4])
      · obtain rfl := e2 hx
        have hET : ES.take init.length = RW init b' 0 := by rw [← hES]; simp [RW]
        have hEL : init.length ≤ ES.length := by rw [← hES]; simp
        have hlim : ∀ i, i ≤ x.kids.length → (init.length + i + 1) * 8 ≤ 140737488355328 := fun i hi => by omega
        have hk0 : x.kids.length ≠ 0 := fun h => hx (List.length_eq_zero_iff.1 h)
        refine wp_mono (GG.codeA sound1 (G := GS 45) (S := { env := [(0, .junk), (2, .own 0 0), (3, .i (ptr (b3, 0))), (4, .osl 1 1 0 init.length), (5, (.i (.iref [.int x.kind, .int x.col, .bool x.val.null, .int x.val.n, .lit (.slice (some ⟨b', 0, none⟩) x.kids.length cap)]))), (6, .junk), (13, .junk), (37, .int x.kids.length), (38, .int 0), (39, .junk)], st := [some (.box zc), some (.arr 1 ES)] }) (e := .normal) (S' := { env := [(0, .junk), (2, .own 0 0), (3, .i (ptr (b3, 0))), (4, .osl 2 1 0 (init.length + x.kids.length)), (5, (.i (.iref [.int x.kind, .int x.col, .bool x.val.null, .int x.val.n, .lit (.slice (some ⟨b', 0, none⟩) x.kids.length cap)]))), (6, .int (x.kids.length - 1)), (13, .junk), (37, .int x.kids.length), (38, .int x.kids.length), (39, .bool false)], st := [some (.box zc), none, some (.arr 1 (RW init b' x.kids.length))] }) (by kernel_rfl) (by
          simp
          rw [loop_to (YS b3 b' cap x init ES) x.kids.length (by simp [YS])]
          · rw [execA_loop]
            simp [YS, hk0, jk_pos hk0, zc, ptr]
          · intro i hi
            have w2 : IntKind.i64.wrap ((i : Int) + 1) = i + 1 := wrap64 (by omega) (by omega)
            have hi0 : (i : Int) < x.kids.length := by omega
            by_cases h0 : i = 0
            · subst h0
              have hl : (init.length + 1) * 8 ≤ 140737488355328 := by omega
              have hR : RW init b' 0 ++ [[.lit (.pointer (some ⟨b', 0, none⟩))]] = RW init b' 1 := by simpa [ptr] using RW_succ init b' 0
              simp [YS, zc, ptr, wrap_1', hi, hET, hEL, hl, hR]
            · have hl := hlim i (by omega)
              have hT : (RW init b' i).take (init.length + i) = RW init b' i := List.take_of_length_le (by rw [RW_len]; omega)
              have hR : RW init b' i ++ [[.lit (.pointer (some ⟨b', i * 5, none⟩))]] = RW init b' (i + 1) := by simpa [ptr] using RW_succ init b' i
              simp [YS, h0, jk_pos h0, zc, ptr, w2, hi, hT, RW_len, hl, hR, ← Nat.add_assoc]) g10) ?_
        rintro _ a11 w11 ⟨rfl, g11⟩
        simp only [exitOf, Exit.then, Exit.inBlock]
        refine ⟨n - 1, by omega, init ++ kidsAt b' 0 x.kids, [], K ++ kidsAt b' 0 x.kids, ?_, List.mem_append_left _ hb3, ?_, by omega, ?_⟩
        · intro k hk
          rcases List.mem_append.1 hk with h | h
          · exact List.mem_append_left _ (hsub k (by simp [h]))
          · exact List.mem_append_right _ h
        · rw [List.map_append, List.sum_append, kidsAt_sum]; omega
        · have g12 := g11.settle [2, 3, 4]
          have hR : List.map (fun k : (Nat × Nat) × Ex => [ptr k.1]) (init ++ kidsAt b' 0 x.kids ++ []) = RW init b' x.kids.length := by
            rw [List.append_nil, List.map_append, kidsAt_map]; simp [RW]
          have hl : (init ++ kidsAt b' 0 x.kids).length = init.length + x.kids.length := by rw [List.length_append, kidsAt_len]
          simp only [SL, hR, hl]
          have hs : Av.settle [2, 3, 4] 0 (envOf [(0, .junk), (2, .own 0 0), (3, .i (ptr (b3, 0))), (4, .osl 2 1 0 (init.length + x.kids.length)), (5, .i (.iref [.int x.kind, .int x.col, .bool x.val.null, .int x.val.n, .lit (.slice (some ⟨b', 0, none⟩) x.kids.length cap)])), (6, .int (x.kids.length - 1)), (13, .junk), (37, .int x.kids.length), (38, .int x.kids.length), (39, .bool false)]) (stOf [some (.box zc), none, some (.arr 1 (RW init b' x.kids.length))]) = { env := [(2, .own 0 0), (3, .i (ptr (b3, 0))), (4, .osl 1 1 0 (init.length + x.kids.length))], st := [some (.box zc), some (.arr 1 (RW init b' x.kids.length))] } := by
            simp [zc, ptr]
          rw [hs] at g12
          exact g12.envTo (by
            intro t
            simp only [envOf]
            by_cases h2 : t = 2
            · subst h2; simp
            by_cases h3 : t = 3
            · subst h3; simp
            by_cases h4 : t = 4
            · subst h4; simp
            · simp [h2, h3, h4])
end Go.Proofs.Ytgpclhjdfdojhaa

/- The reader. No condition. -/
namespace Go.Proofs.Ytgpclhjdfdojhaa
open Go Go.Av
set_option maxHeartbeats 4000000
set_option maxRecDepth 4000
theorem xor64 {S : Int} (h0 : 0 ≤ S) (h1 : S < 4611686018427387904) : 0 ≤ IntKind.i64.wrap ((((S % 2 ^ IntKind.i64.bits).toNat ^^^ (IntKind.i64.wrap (S.tdiv 64) % 2 ^ IntKind.i64.bits).toNat : Nat)) : Int) := by
  have e1 : 0 ≤ S.tdiv 64 := Int.tdiv_nonneg h0 (by omega)
  have e2 : S.tdiv 64 ≤ S := Int.tdiv_le_self _ h0
  have e3 : IntKind.i64.wrap (S.tdiv 64) = S.tdiv 64 := wrap64 (by omega) (by omega)
  have e4 : ∀ T : Int, 0 ≤ T → T < 4611686018427387904 → (T % 2 ^ IntKind.i64.bits).toNat < 2 ^ 62 := fun T k1 k2 => by
    have : T % 2 ^ IntKind.i64.bits = T := Int.emod_eq_of_lt k1 (by simp [IntKind.bits]; omega)
    rw [this]; omega
  rw [e3]
  have := Nat.xor_lt_two_pow (e4 S h0 h1) (e4 (S.tdiv 64) e1 (by omega))
  rw [wrap64 (by omega) (by omega)]
  omega
theorem pick_eq (l : List UInt8) (p n : Int) (h0 : 0 ≤ p) (h1 : p < 1000000000) (hl : l.length ≤ 2000) : ∃ v, callA C0 38 [.own 0 0, .int n] [Rd l p] = some (.int v, [Rd l (p + 1)]) ∧ (1 ≤ n → 0 ≤ v ∧ v < n) ∧ (n < 1 → v = 0) := by
  have hw : IntKind.i64.wrap (p + 1) = p + 1 := wrap64 (by omega) (by omega)
  have hw' : IntKind.i64.wrap p = p := wrap64 (by omega) (by omega)
  by_cases hn : n < 1
  · refine ⟨0, ?_, by omega, fun _ => rfl⟩
    rw [callA_eq rfl Try.func38 rfl rfl]
    simp [Rd, hw, hn]
  by_cases he : l = []
  · refine ⟨0, ?_, by omega, fun _ => rfl⟩
    rw [callA_eq rfl Try.func38 rfl rfl]
    subst he
    simp [Rd, hw, hn]
  have hlen : 0 < l.length := List.length_pos_iff.2 he
  have hn0 : n ≠ 0 := by omega
  have hn1 : (n != 0) = true := by simp [hn0]
  by_cases hk : p < l.length
  · obtain ⟨x, hx1, hx2⟩ := bytesI_get (l := l) (j := p.toNat) (by omega)
    have hwx : IntKind.i64.wrap (x : Int) = x := wrap64 (by omega) (by omega)
    refine ⟨(x : Int).tmod n, ?_, fun _ => ⟨Int.tmod_nonneg _ (by omega), Int.tmod_lt_of_pos _ (by omega)⟩, by omega⟩
    rw [callA_eq rfl Try.func38 rfl rfl]
    simp [Rd, hw, hw', hn, hk, he, h0, bytesI_length, hx2, hn1, hwx]
  · obtain ⟨x, hx1, hx2⟩ := bytesI_get (l := l) (j := (p.tmod l.length).toNat) (by have := Int.tmod_lt_of_pos p (b := l.length) (by omega); omega)
    obtain ⟨y, hy1, hy2⟩ := bytesI_get (l := l) (j := ((p * 7 + 3).tmod l.length).toNat) (by have := Int.tmod_lt_of_pos (p * 7 + 3) (b := l.length) (by omega); omega)
    have a1 : 0 ≤ p.tmod l.length := Int.tmod_nonneg _ h0
    have a2 : p.tmod l.length < l.length := Int.tmod_lt_of_pos _ (by omega)
    have a3 : 0 ≤ (p * 7 + 3).tmod l.length := Int.tmod_nonneg _ (by omega)
    have a4 : (p * 7 + 3).tmod l.length < l.length := Int.tmod_lt_of_pos _ (by omega)
    have w7 : IntKind.i64.wrap (p * 7) = p * 7 := wrap64 (by omega) (by omega)
    have w8 : IntKind.i64.wrap (p * 7 + 3) = p * 7 + 3 := wrap64 (by omega) (by omega)
    have hwx : IntKind.i64.wrap (x : Int) = x := wrap64 (by omega) (by omega)
    have hwy : IntKind.i64.wrap (y : Int) = y := wrap64 (by omega) (by omega)
    have hl1 : ((l.length : Int) != 0) = true := by simp [he]
    rw [callA_eq rfl Try.func38 rfl rfl]
    have d1 : 0 ≤ p.tdiv l.length := Int.tdiv_nonneg h0 (by omega)
    have d2 : p.tdiv l.length ≤ p := Int.tdiv_le_self _ h0
    have w1 : IntKind.i64.wrap ((x : Int) * 131) = x * 131 := wrap64 (by omega) (by omega)
    have w2 : IntKind.i64.wrap ((y : Int) * 1117) = y * 1117 := wrap64 (by omega) (by omega)
    have w3 : IntKind.i64.wrap (p * 29) = p * 29 := wrap64 (by omega) (by omega)
    have w4 : IntKind.i64.wrap (p.tdiv l.length) = p.tdiv l.length := wrap64 (by omega) (by omega)
    have w5 : IntKind.i64.wrap (p.tdiv l.length * 53) = p.tdiv l.length * 53 := wrap64 (by omega) (by omega)
    have w6 : IntKind.i64.wrap ((x : Int) * 131 + y * 1117) = x * 131 + y * 1117 := wrap64 (by omega) (by omega)
    have w9 : IntKind.i64.wrap ((x : Int) * 131 + y * 1117 + p * 29) = x * 131 + y * 1117 + p * 29 := wrap64 (by omega) (by omega)
    have wA : IntKind.i64.wrap ((x : Int) * 131 + y * 1117 + p * 29 + p.tdiv l.length * 53) = x * 131 + y * 1117 + p * 29 + p.tdiv l.length * 53 := wrap64 (by omega) (by omega)
    simp [Rd, hw, hw', hn, hk, he, bytesI_length, hx2, hy2, hn1, hwx, hwy, w7, w8, hl1, a1, a2, a3, a4, w1, w2, w3, w4, w5, w6, w9, wA]
    intro hn2
    have hx := xor64 (S := x * 131 + y * 1117 + p * 29 + p.tdiv l.length * 53) (by omega) (by omega)
    exact ⟨Int.tmod_nonneg _ hx, Int.tmod_lt_of_pos _ (by omega)⟩
end Go.Proofs.Ytgpclhjdfdojhaa

/- The small functions on kinds, widths and values. No condition. -/
namespace Go.Proofs.Ytgpclhjdfdojhaa
open Go Go.Av
set_option maxRecDepth 4000
theorem kidsCases (n : Int) : n = 1 ∨ n = 2 ∨ n = 3 ∨ n = 4 ∨ n = 5 ∨ n = 6 ∨ n = 7 ∨ n = 8 ∨ n = 9 ∨ n = 10 ∨ n = 11 ∨ (n ≠ 1 ∧ n ≠ 2 ∧ n ≠ 3 ∧ n ≠ 4 ∧ n ≠ 5 ∧ n ≠ 6 ∧ n ≠ 7 ∧ n ≠ 8 ∧ n ≠ 9 ∧ n ≠ 10 ∧ n ≠ 11) := by omega
@[simp] theorem kidsOfKind_eq (n : Int) : callA C0 75 [.int n] [] = some (.int (kidsK n), []) := by
  rw [callA_eq rfl Try.func75 rfl rfl]
  rcases kidsCases n with rfl | rfl | rfl | rfl | rfl | rfl | rfl | rfl | rfl | rfl | rfl | ⟨h1, h2, h3, h4, h5, h6, h7, h8, h9, h10, h11⟩
  all_goals first
    | (simp [kidsK]; done)
    | (have e : kidsK n = -1 := by
        unfold kidsK
        rw [if_neg (by omega), if_neg (by omega), if_neg (by omega)]
       simp [e, h1, h2, h3, h4, h5, h6, h7, h8, h9, h10, h11])
@[simp] theorem kidsOf_eq (n : Int) : callA C0 70 [.int n] [] = some (.int (kidsK n), []) := by
  rw [callA_eq rfl Try.func70 rfl rfl]
  rcases kidsCases n with rfl | rfl | rfl | rfl | rfl | rfl | rfl | rfl | rfl | rfl | rfl | ⟨h1, h2, h3, h4, h5, h6, h7, h8, h9, h10, h11⟩
  all_goals first
    | (simp [kidsK]; done)
    | (have e : kidsK n = -1 := by
        unfold kidsK
        rw [if_neg (by omega), if_neg (by omega), if_neg (by omega)]
       simp [e, h1, h2, h3, h4, h5, h6, h7, h8, h9, h10, h11])
@[simp] theorem validWidth_eq (n : Int) : callA C0 49 [.int n] [] = some (.bool (okWidth n), []) := by
  rw [callA_eq rfl Try.func49 rfl rfl]
  by_cases h1 : 1 ≤ n <;> by_cases h2 : n ≤ 6 <;> simp [okWidth, h1, h2]
@[simp] theorem inRange_eq (n a b : Int) : callA C0 72 [.int n, .int a, .int b] [] = some (.bool (decide (a ≤ n ∧ n ≤ b)), []) := by
  rw [callA_eq rfl Try.func72 rfl rfl]
  by_cases h1 : a ≤ n <;> by_cases h2 : n ≤ b <;> simp [h1, h2]
@[simp] theorem valid_eq (b : Bool) (n : Int) : callA C0 55 [.i (.agg [.bool b, .int n])] [] = some (.bool (Val.ok ⟨b, n⟩), []) := by
  rw [callA_eq rfl Try.func55 rfl rfl]
  cases b
  · by_cases h1 : -9999 ≤ n <;> by_cases h2 : n ≤ 9999 <;> simp [Val.ok, h1, h2]
  · by_cases h1 : n = 0 <;> simp [Val.ok, h1]
@[simp] theorem validValue_eq (b : Bool) (n : Int) : callA C0 61 [.i (.agg [.bool b, .int n])] [] = some (.bool (Val.ok ⟨b, n⟩), []) := by
  rw [callA_eq rfl Try.func61 rfl rfl]
  cases b
  · by_cases h1 : -9999 ≤ n <;> by_cases h2 : n ≤ 9999 <;> simp [Val.ok, h1, h2]
  · by_cases h1 : n = 0
    · subst h1; simp [Val.ok]
    · by_cases h2 : -9999 ≤ n <;> by_cases h3 : n ≤ 9999 <;> simp [Val.ok, h1, h2, h3]
@[simp] theorem constant_eq (v : Val) : callA C0 63 [.i (.agg [.bool v.null, .int v.n])] [] = some (.i (.agg (Ex.mk 2 0 v []).cells), []) := by
  rw [callA_eq rfl Try.func63 rfl rfl]
  simp [Ex.cells, Ex.cellsL]
@[simp] theorem iconstant_eq (v : Val) : callA C0 57 [.i (.agg [.bool v.null, .int v.n])] [] = some (.i (.agg (Ex.mk 2 0 v []).cells), []) := by
  rw [callA_eq rfl Try.func57 rfl rfl]
  simp [Ex.cells, Ex.cellsL]
end Go.Proofs.Ytgpclhjdfdojhaa

/- Valid expressions. No condition. -/
namespace Go.Proofs.Ytgpclhjdfdojhaa
open Go Go.Av
set_option maxRecDepth 4000
theorem vb_len {e : Ex} {w : Int} (n : Nat) (hk : ¬ (e.kids.length : Int) = kidsK e.kind) : callA C0 50 [.i (.iref e.cells), .int w, .int n] [] = some (.bool false, []) := by
  rw [callA_eq rfl Try.func50 rfl rfl, Ex.cells_eq]
  simp [Ex.cellsL_length, hk]
theorem vb_deep {e : Ex} {w : Int} (hk : (e.kids.length : Int) = kidsK e.kind) (hz : 0 < kidsK e.kind) : callA C0 50 [.i (.iref e.cells), .int w, .int 0] [] = some (.bool false, []) := by
  rw [callA_eq rfl Try.func50 rfl rfl, Ex.cells_eq]
  simp [Ex.cellsL_length, hk, hz]
theorem vb_head {e : Ex} {w : Int} (n : Nat) (hk : (e.kids.length : Int) = kidsK e.kind) (hz : 0 < kidsK e.kind → n ≠ 0) (hh : e.headOk w = false) :
    callA C0 50 [.i (.iref e.cells), .int w, .int n] [] = some (.bool false, []) := by
  rw [callA_eq rfl Try.func50 rfl rfl, Ex.cells_eq]
  unfold Ex.headOk at hh
  by_cases h1 : e.kind = 1
  · rw [h1] at hz hk; simp [h1, kidsK] at hh hk
    by_cases h2 : 0 ≤ e.col
    · by_cases h3 : e.col < w
      · cases h4 : e.val.null with
        | true => simp [Ex.cellsL_length, hk, h1, Int.not_lt.2 h2, Int.not_le.2 h3, h4, kidsK]
        | false => simp [Ex.cellsL_length, hk, h1, Int.not_lt.2 h2, Int.not_le.2 h3, h4, hh h2 h3 h4, kidsK]
      · simp [Ex.cellsL_length, hk, h1, Int.not_lt.2 h2, Int.not_lt.1 h3, kidsK]
    · simp [Ex.cellsL_length, hk, h1, Int.not_le.1 h2, kidsK]
  · by_cases h2 : e.kind = 2
    · rw [h2] at hz hk; simp [h2, kidsK] at hh hk
      by_cases h3 : e.col = 0
      · have h4 : Val.ok ⟨e.val.null, e.val.n⟩ = false := hh h3
        simp [Ex.cellsL_length, hk, h2, h3, h4, kidsK]
      · simp [Ex.cellsL_length, hk, h2, h3, kidsK]
    · simp [h1, h2] at hh
      by_cases h0 : 0 < kidsK e.kind
      · have hn := hz h0
        by_cases h3 : e.col = 0
        · cases h4 : e.val.null with
          | true => simp [Ex.cellsL_length, hk, h1, h2, h3, h4, h0, hn, hz h0]
          | false => simp [Ex.cellsL_length, hk, h1, h2, h3, h4, hh h3 h4, h0, hn, hz h0]
        · simp [Ex.cellsL_length, hk, h1, h2, h3, h0, hn, hz h0]
      · by_cases h3 : e.col = 0
        · cases h4 : e.val.null with
          | true => simp [Ex.cellsL_length, hk, h1, h2, h3, h4, h0]
          | false => simp [Ex.cellsL_length, hk, h1, h2, h3, h4, hh h3 h4, h0]
        · simp [Ex.cellsL_length, hk, h1, h2, h3, h0]
def VX (e : Ex) (w n : Int) (i : Nat) : AS :=
  { env := [(0, .i (.iref [.int e.kind, .int 0, .bool false, .int 0, .isl (Ex.cellsL e.kids)])), (1, .int w), (2, .int n), (6, .bool false), (7, .int (kidsK e.kind)), (8, jk i (.int (i - 1))), (28, .bool (n == 0)), (62, .bool false), (90, .bool false), (95, .int (kidsK e.kind)), (96, .int i), (97, jk i (.bool true)), (109, jk i (.bool false))], st := [] }
theorem vb_go {e : Ex} {w : Int} (n : Nat) (hn : n ≤ 8) (hk : (e.kids.length : Int) = kidsK e.kind) (hz : 0 < kidsK e.kind → n ≠ 0) (hh : e.headOk w = true) (ih : ∀ k ∈ e.kids, 0 < kidsK e.kind → callA C0 50 [.i (.iref k.cells), .int w, .int ((n : Int) - 1)] [] = some (.bool (Ex.vB w (n - 1) k), [])) :
    callA C0 50 [.i (.iref e.cells), .int w, .int n] [] = some (.bool (e.kids.all (Ex.vB w (n - 1))), []) := by
  rw [callA_eq rfl Try.func50 rfl rfl, Ex.cells_eq]
  rcases Ex.head_cases w e with h | ⟨-, ⟨hA, hB, hC, hD, hE, hF⟩ | ⟨hA, hB, hC, hD, hE, hF⟩ | ⟨hA, hB, hC, hD, hE, hF⟩⟩
  · simp [h] at hh
  · have h2 : e.kids = [] := by rw [hF] at hk; simpa using hk
    simp [h2, Ex.cellsL, hA, hD, hE, Int.not_lt.2 hB, Int.not_le.2 hC, kidsK]
    rw [execA_loop]
    simp
  · have h2 : e.kids = [] := by rw [hF] at hk; simpa using hk
    simp [h2, Ex.cellsL, hA, hB, hC, kidsK]
    rw [execA_loop]
    simp
  · by_cases h0 : 0 < kidsK e.kind
    · have hn := hz h0
      simp [Ex.cellsL_length, hk, hA, hB, hC, hD, hE, h0, hn, hz h0]
      obtain ⟨j, h1, h2⟩ := upto_bad (Ex.vB w (n - 1)) e.kids
      have w1 : IntKind.i64.wrap ((n : Int) - 1) = n - 1 := wrap64 (by omega) (by omega)
      have rd : ∀ (i : Nat) (k : Ex), e.kids[i]? = some k → k ∈ e.kids → i < e.kids.length ∧ nthE (Ex.cellsL e.kids) i = some k.cells ∧ callA C0 50 [.i (.iref k.cells), .int w, .int ((n : Int) - 1)] [] = some (.bool (Ex.vB w (n - 1) k), []) :=
        fun i k a b => ⟨(List.getElem?_eq_some_iff.1 a).1, Ex.cellsL_nth a, ih k b h0⟩
      have hlen : e.kids.length ≤ 2 := by have : kidsK e.kind ≤ 2 := by
                                            unfold kidsK; split; · omega
                                            split; · omega
                                            split <;> omega
                                          omega
      rw [loop_to (VX e w n) j (by simp [VX])]
      · rw [execA_loop]
        rcases h2 with ⟨hj, ha⟩ | ⟨k, h3, h4, h5, ha⟩
        · have l1 : ¬ ((j : Int) < kidsK e.kind) := by omega
          simp [VX, l1, ha]
        · obtain ⟨r1, r2, r3⟩ := rd j k h3 h4
          have l1 : (j : Int) < kidsK e.kind := by omega
          rw [Ex.cells_eq] at r2 r3
          simp [VX, l1, r1, ha, r2, r3, w1, h5]
      · intro i hi
        obtain ⟨k, h3, h4, h5⟩ := h1 i hi
        obtain ⟨r1, r2, r3⟩ := rd i k h3 h4
        have l1 : (i : Int) < kidsK e.kind := by omega
        have w2 : IntKind.i64.wrap ((i : Int) + 1) = i + 1 := wrap64 (by omega) (by omega)
        rw [Ex.cells_eq] at r2 r3
        simp [VX, l1, r1, r2, r3, w1, w2, h5]
    · have h2 : e.kids = [] := by cases h : e.kids with
        | nil => rfl
        | cons a l => rw [h] at hk; simp at hk; omega
      rw [h2] at hk
      simp at hk
      simp [h2, Ex.cellsL, hA, hB, hC, hD, hE, ← hk]
      rw [execA_loop]
      simp
@[simp] theorem validBelow_eq {w : Int} : ∀ (n : Nat) (e : Ex), n ≤ 8 → callA C0 50 [.i (.iref e.cells), .int w, .int n] [] = some (.bool (Ex.vB w n e), [])
  | 0, e, hn => by
    by_cases hk : (e.kids.length : Int) = kidsK e.kind
    · by_cases hz : 0 < kidsK e.kind
      · rw [show ((0 : Nat) : Int) = 0 from rfl, vb_deep hk hz]
        simp [Ex.vB, Int.not_le.2 hz]
      · cases hh : e.headOk w with
        | false => rw [vb_head 0 hk (fun h => absurd h hz) hh]; simp [Ex.vB, hh]
        | true =>
          rw [vb_go 0 hn hk (fun h => absurd h hz) hh (fun k _ h => absurd h hz)]
          have : e.kids = [] := by cases h : e.kids with
            | nil => rfl
            | cons a l => rw [h] at hk; simp at hk; omega
          have h3 : kidsK e.kind = 0 := by rw [this] at hk; simpa using hk.symm
          simp [Ex.vB, hh, h3, this]
    · rw [vb_len 0 hk]; simp [Ex.vB, hk]
  | n + 1, e, hn => by
    by_cases hk : (e.kids.length : Int) = kidsK e.kind
    · cases hh : e.headOk w with
      | false => rw [vb_head (n + 1) hk (fun _ => by omega) hh]; simp [Ex.vB, hh]
      | true =>
        rw [vb_go (n + 1) hn hk (fun _ => by omega) hh (fun k _ _ => by
          have := validBelow_eq (w := w) n k (by omega)
          rw [show (((n + 1 : Nat) : Int) - 1) = (n : Int) by omega]
          exact this)]
        simp [Ex.vB, hh, hk]
    · rw [vb_len (n + 1) hk]; simp [Ex.vB, hk]
end Go.Proofs.Ytgpclhjdfdojhaa

/- Valid expressions, as the reference has them. No condition. -/
namespace Go.Proofs.Ytgpclhjdfdojhaa
open Go Go.Av
set_option maxRecDepth 4000
theorem ve_len {e : Ex} {w : Int} (n : Nat) (hk : ¬ (e.kids.length : Int) = kidsK e.kind) : callA C0 73 [.i (.agg e.cells), .int w, .int n] [] = some (.bool false, []) := by
  rw [callA_eq rfl Try.func73 rfl rfl, Ex.cells_eq]
  simp [hk]
theorem ve_deep {e : Ex} {w : Int} (hk : (e.kids.length : Int) = kidsK e.kind) (hz : 0 < kidsK e.kind) : callA C0 73 [.i (.agg e.cells), .int w, .int 0] [] = some (.bool false, []) := by
  rw [callA_eq rfl Try.func73 rfl rfl, Ex.cells_eq]
  simp [hk, hz]
def EX (e : Ex) (w n : Int) (v : AV) (i : Nat) : AS :=
  { env := [(0, .i (.agg [.int e.kind, .int e.col, .bool e.val.null, .int e.val.n, .isl (Ex.cellsL e.kids)])), (1, .int w), (2, .int n), (3, .own 0 0), (6, .bool false), (7, .int i), (24, v), (29, jk i (.bool true)), (41, jk i (.bool false)), (43, .junk), (44, .junk), (57, .junk)],
    st := [some (.box [.int e.kind, .int e.col, .bool e.val.null, .int e.val.n, .i (.isl (Ex.cellsL e.kids))])] }
theorem ve_go {e : Ex} {w : Int} (n : Nat) (hn : n ≤ 8) (hk : (e.kids.length : Int) = kidsK e.kind) (hz : 0 < kidsK e.kind → n ≠ 0)  (hw : 1 ≤ w ∧ w ≤ 6)
  (ih : ∀ k ∈ e.kids, 0 < kidsK e.kind → callA C0 73 [.i (.agg k.cells), .int w, .int ((n : Int) - 1)] [] = some (.bool (Ex.vB w (n - 1) k), [])) :
    callA C0 73 [.i (.agg e.cells), .int w, .int n] [] = some (.bool (e.kids.all (Ex.vB w (n - 1)) && e.headOk w), []) := by
  rw [callA_eq rfl Try.func73 rfl rfl, Ex.cells_eq]
  have w0 : IntKind.i64.wrap (w - 1) = w - 1 := wrap64 (by omega) (by omega)
  by_cases h0 : 0 < kidsK e.kind
  · have hn := hz h0
    simp [hk, h0, hn]
    obtain ⟨j, h1, h2⟩ := upto_bad (Ex.vB w (n - 1)) e.kids
    have w1 : IntKind.i64.wrap ((n : Int) - 1) = n - 1 := wrap64 (by omega) (by omega)
    have rd : ∀ (i : Nat) (k : Ex), e.kids[i]? = some k → k ∈ e.kids → i < e.kids.length ∧ nthE (Ex.cellsL e.kids) i = some k.cells ∧ callA C0 73 [.i (.agg k.cells), .int w, .int ((n : Int) - 1)] [] = some (.bool (Ex.vB w (n - 1) k), []) :=
      fun i k a b => ⟨(List.getElem?_eq_some_iff.1 a).1, Ex.cellsL_nth a, ih k b h0⟩
    have hlen : e.kids.length ≤ 2 := by have : kidsK e.kind ≤ 2 := by
                                          unfold kidsK; split; · omega
                                          split; · omega
                                          split <;> omega
                                        omega
    have hk1 : e.kind ≠ 1 := fun h => by rw [h] at h0; simp [kidsK] at h0
    have hk2 : e.kind ≠ 2 := fun h => by rw [h] at h0; simp [kidsK] at h0
    rw [loop_to (EX e w n (.bool ((n : Int) == 0)) ) j (by simp [EX])]
    · rw [execA_loop]
      rcases h2 with ⟨hj, ha⟩ | ⟨k, h3, h4, h5, ha⟩
      · have l1 : ¬ ((j : Int) < kidsK e.kind) := by omega
        by_cases h6 : e.col = 0
        · cases h7 : e.val.null with
          | true => simp [EX, l1, hk, ha, Ex.headOk, hk1, hk2, h6, h7]
          | false => simp [EX, l1, hk, ha, Ex.headOk, hk1, hk2, h6, h7]
        · simp [EX, l1, hk, ha, Ex.headOk, hk1, hk2, h6]
      · obtain ⟨r1, r2, r3⟩ := rd j k h3 h4
        have l1 : (j : Int) < kidsK e.kind := by omega
        rw [Ex.cells_eq] at r2 r3
        simp [EX, l1, r1, hk, ha, r2, r3, w1, h5]
    · intro i hi
      obtain ⟨k, h3, h4, h5⟩ := h1 i hi
      obtain ⟨r1, r2, r3⟩ := rd i k h3 h4
      have l1 : (i : Int) < kidsK e.kind := by omega
      have w2 : IntKind.i64.wrap ((i : Int) + 1) = i + 1 := wrap64 (by omega) (by omega)
      rw [Ex.cells_eq] at r2 r3
      simp [EX, l1, r1, hk, r2, r3, w1, w2, h5]
  · have h2 : e.kids = [] := by cases h : e.kids with
      | nil => rfl
      | cons a l => rw [h] at hk; simp at hk; omega
    rw [h2] at hk
    simp at hk
    simp [h2, Ex.cellsL, ← hk]
    rw [execA_loop]
    by_cases h1 : e.kind = 1
    · by_cases h4 : 0 ≤ e.col
      · by_cases h5 : e.col < w
        · cases h7 : e.val.null with
          | true => simp [h1, w0, Ex.headOk, h4, h5, h7, show e.col ≤ w - 1 by omega]
          | false => simp [h1, w0, Ex.headOk, h4, h5, h7, show e.col ≤ w - 1 by omega]
        · simp [h1, w0, Ex.headOk, h4, h5, show ¬ e.col ≤ w - 1 by omega]
      · simp [h1, w0, Ex.headOk, h4]
    · by_cases h3 : e.kind = 2
      · by_cases h4 : e.col = 0
        · simp [h3, Ex.headOk, h4]
        · simp [h3, Ex.headOk, h4]
      · by_cases h4 : e.col = 0
        · cases h7 : e.val.null with
          | true => simp [h1, h3, Ex.headOk, h4, h7]
          | false => simp [h1, h3, Ex.headOk, h4, h7]
        · simp [h1, h3, Ex.headOk, h4]
theorem validExpr_eq {w : Int} (hw : 1 ≤ w ∧ w ≤ 6) : ∀ (n : Nat) (e : Ex), n ≤ 8 → callA C0 73 [.i (.agg e.cells), .int w, .int n] [] = some (.bool (Ex.vB w n e), [])
  | 0, e, hn => by
    by_cases hk : (e.kids.length : Int) = kidsK e.kind
    · by_cases hz : 0 < kidsK e.kind
      · rw [show ((0 : Nat) : Int) = 0 from rfl, ve_deep hk hz]
        simp [Ex.vB, Int.not_le.2 hz]
      · rw [ve_go 0 hn hk (fun h => absurd h hz) hw (fun k _ h => absurd h hz)]
        have : e.kids = [] := by cases h : e.kids with
          | nil => rfl
          | cons a l => rw [h] at hk; simp at hk; omega
        have h3 : kidsK e.kind = 0 := by rw [this] at hk; simpa using hk.symm
        simp [Ex.vB, h3, this]
    · rw [ve_len 0 hk]; simp [Ex.vB, hk]
  | n + 1, e, hn => by
    by_cases hk : (e.kids.length : Int) = kidsK e.kind
    · rw [ve_go (n + 1) hn hk (fun _ => by omega) hw (fun k _ _ => by
          have := validExpr_eq (w := w) hw n k (by omega)
          rw [show (((n + 1 : Nat) : Int) - 1) = (n : Int) by omega]
          exact this)]
      simp [Ex.vB, hk, Bool.and_comm]
    · rw [ve_len (n + 1) hk]; simp [Ex.vB, hk]
end Go.Proofs.Ytgpclhjdfdojhaa

/- Valid expressions, both ways. No condition. -/
namespace Go.Proofs.Ytgpclhjdfdojhaa
open Go Go.Av
set_option maxRecDepth 4000
theorem ok_eq (w : Int) (e : Ex) : callA C0 14 [.i (.agg e.cells), .int w] [] = some (.bool (e.ok w), []) := by
  rw [callA_eq rfl Try.func14 rfl rfl]
  have h := validBelow_eq (w := w) 8 e (by omega)
  rw [Ex.cells_eq] at h ⊢
  have e8 : ((8 : Nat) : Int) = 8 := rfl
  rw [e8] at h
  cases hw : okWidth w with
  | false => simp [hw, Ex.ok]
  | true => simp [hw, Ex.ok, h]
theorem sok_eq (w : Int) (e : Ex) : callA C0 46 [.i (.agg e.cells), .int w] [] = some (.bool (e.ok w), []) := by
  rw [callA_eq rfl Try.func46 rfl rfl]
  by_cases hw : 1 ≤ w ∧ w ≤ 6
  · have h := validExpr_eq hw 8 e (by omega)
    rw [Ex.cells_eq] at h ⊢
    have e8 : ((8 : Nat) : Int) = 8 := rfl
    rw [e8] at h
    simp [hw, Ex.ok, okWidth, h]
  · rw [Ex.cells_eq]
    simp [hw, Ex.ok, okWidth]
end Go.Proofs.Ytgpclhjdfdojhaa

/- Equal expressions. No condition. -/
namespace Go.Proofs.Ytgpclhjdfdojhaa
open Go Go.Av
set_option maxRecDepth 4000
theorem eqE_step {a b : Ex} (ih : callA C0 48 [.i (.isl (Ex.cellsL a.kids)), .i (.isl (Ex.cellsL b.kids))] [] = some (.bool (Ex.eqbL a.kids b.kids), [])) :
    callA C0 13 [.i (.agg a.cells), .i (.agg b.cells)] [] = some (.bool (a.eqb b), []) := by
  rw [callA_eq rfl Try.func13 rfl rfl, Ex.cells_eq, Ex.cells_eq, Ex.eqb_def]
  by_cases h1 : a.kind = b.kind
  · by_cases h2 : a.col = b.col
    · cases h3 : (a.val.null == b.val.null && a.val.n == b.val.n) with
      | true => simp [h1, h2, h3, ih]
      | false => simp [h1, h2, h3]
    · simp [h1, h2]
  · simp [h1]
def LX (l m : List Ex) (i : Nat) : AS :=
  { env := [(0, .i (.isl (Ex.cellsL l))), (1, .i (.isl (Ex.cellsL m))), (4, .bool false), (5, .int i), (10, .bool false), (14, jk i (.bool true)), (26, jk i (.bool false))], st := [] }
theorem eqL_step {l m : List Ex} (hl : l.length < 1000000000) (ih : ∀ a ∈ l, ∀ b, callA C0 13 [.i (.agg a.cells), .i (.agg b.cells)] [] = some (.bool (a.eqb b), [])) :
    callA C0 48 [.i (.isl (Ex.cellsL l)), .i (.isl (Ex.cellsL m))] [] = some (.bool (Ex.eqbL l m), []) := by
  rw [callA_eq rfl Try.func48 rfl rfl]
  by_cases hlm : l.length = m.length
  · simp [hlm]
    obtain ⟨j, h1, h2⟩ := Ex.eqbL_upto l m hlm
    rw [loop_to (LX l m) j (by simp [LX])]
    · rw [execA_loop]
      rcases h2 with ⟨hj, ha⟩ | ⟨a, b, k1, k2, k3, k4, ha⟩
      · simp [LX, hj, hlm, ha]
      · have r1 := (List.getElem?_eq_some_iff.1 k1).1
        have r2 := (List.getElem?_eq_some_iff.1 k2).1
        have s1 := Ex.cellsL_nth k1
        have s2 := Ex.cellsL_nth k2
        have hc := ih a k3 b
        rw [Ex.cells_eq] at s1 s2
        rw [Ex.cells_eq, Ex.cells_eq] at hc
        simp [LX, r1, r2, s1, s2, ha, hc, k4]
    · intro i hi
      obtain ⟨a, b, k1, k2, k3, k4⟩ := h1 i hi
      have r1 := (List.getElem?_eq_some_iff.1 k1).1
      have r2 := (List.getElem?_eq_some_iff.1 k2).1
      have s1 := Ex.cellsL_nth k1
      have s2 := Ex.cellsL_nth k2
      have hc := ih a k3 b
      have w2 : IntKind.i64.wrap ((i : Int) + 1) = i + 1 := wrap64 (by omega) (by omega)
      rw [Ex.cells_eq] at s1 s2
      rw [Ex.cells_eq, Ex.cells_eq] at hc
      simp [LX, r1, r2, s1, s2, hc, k4, w2]
  · simp [show ¬ (l.length : Int) = m.length by omega, Ex.eqbL_len l m hlm]
theorem equalExprs_eq : ∀ (a : Ex), a.thin → ∀ b : Ex, callA C0 13 [.i (.agg a.cells), .i (.agg b.cells)] [] = some (.bool (a.eqb b), []) := by
  intro a
  induction a using Ex.ind with
  | h k c v ks ih =>
    intro ht b
    have ht' := (Ex.thin_iff _).1 ht
    exact eqE_step (eqL_step ht'.1 fun a ha b => ih a ha (ht'.2 a ha) b)
end Go.Proofs.Ytgpclhjdfdojhaa

/- Copies of expressions. No condition. -/
namespace Go.Proofs.Ytgpclhjdfdojhaa
open Go Go.Av
set_option maxRecDepth 4000
theorem wrap_1 : IntKind.i64.wrap 1 = 1 := wrap64 (by omega) (by omega)
def CX (e : Ex) (i : Nat) : AS :=
  { env := [(0, .i (.agg [.int e.kind, .int e.col, .bool e.val.null, .int e.val.n, .isl (Ex.cellsL e.kids)])), (1, .own 0 0), (2, .own 1 0), (3, .own 2 0), (4, .int i), (16, jk i (.bool true))],
    st := some (.box [.int e.kind, .int e.col, .bool e.val.null, .int e.val.n, .i (.isl (Ex.cellsL e.kids))]) :: some (.box [.int 0, .int 0, .bool false, .int 0, .nils]) ::
      some (.box [.int e.kind, .int e.col, .bool e.val.null, .int e.val.n, gro 3 5 i]) :: groB 5 (Ex.cellsL (e.kids.take i)) i }
theorem cp_step {e : Ex} (hl : e.kids.length < 1000000000) (ih : ∀ a ∈ e.kids, callA C0 74 [.i (.agg a.cells)] [] = some (.i (.agg a.cells), [])) :
    callA C0 74 [.i (.agg e.cells)] [] = some (.i (.agg e.cells), []) := by
  rw [callA_eq rfl Try.func74 rfl rfl, Ex.cells_eq]
  simp
  rw [loop_to (CX e) e.kids.length (by simp [CX])]
  · rw [execA_loop]
    cases hn : e.kids.length with
    | zero =>
      have : e.kids = [] := List.length_eq_zero_iff.1 hn
      simp [CX, this, Ex.cellsL]
    | succ n =>
      have : e.kids.take (n + 1) = e.kids := List.take_of_length_le (by omega)
      simp [CX, hn, this]
  · intro i hi
    have h3 := List.getElem?_eq_getElem hi
    have hc := ih _ (List.mem_of_getElem? h3)
    have r2 := Ex.cellsL_nth h3
    generalize e.kids[i] = a at h3 hc r2
    have w2 : IntKind.i64.wrap ((i : Int) + 1) = i + 1 := wrap64 (by omega) (by omega)
    by_cases h0 : i = 0
    · subst h0; simp [CX, hi, r2, hc, wrap_1, take_snoc h3, Ex.cellsL]
    · simp [CX, gro_pos h0, groB_pos h0, jk_pos h0, hi, r2, hc, w2, take_snoc h3, Ex.cellsL_snoc, show min i e.kids.length = i by omega, show (i + 1) * 56 ≤ 140737488355328 by omega, List.take_take]
theorem copyExpr_eq : ∀ (e : Ex), e.thin → callA C0 74 [.i (.agg e.cells)] [] = some (.i (.agg e.cells), []) := by
  intro e
  induction e using Ex.ind with
  | h k c v ks ih =>
    intro ht
    have ht' := (Ex.thin_iff _).1 ht
    exact cp_step ht'.1 fun a ha => ih a ha (ht'.2 a ha)
def SX (e : Ex) (l : List Ex) (f : Ex → Ex) (i : Nat) : AS :=
  { env := [(0, .i (.agg [.int e.kind, .int e.col, .bool e.val.null, .int e.val.n, .isl (Ex.cellsL e.kids)])), (1, .i (.isl (Ex.cellsL l))), (2, .own 0 0), (4, .own 1 0), (5, .own 2 0), (6, .int i), (9, .bool false), (27, jk i (.bool true))],
    st := some (.box [.int e.kind, .int e.col, .bool e.val.null, .int e.val.n, .i (.isl (Ex.cellsL e.kids))]) :: some (.box [.int 0, .int 0, .bool false, .int 0, .nils]) ::
      some (.box [.int e.kind, .int e.col, .bool e.val.null, .int e.val.n, gro 3 5 i]) :: groB 5 (Ex.cellsL ((e.kids.take i).map f)) i }
theorem sub_col {e b : Ex} {l : List Ex} (h1 : e.kind = 1) (h0 : 0 ≤ e.col) (hb : l[e.col.toNat]? = some b) (ht : b.thin) :
    callA C0 47 [.i (.agg e.cells), .i (.isl (Ex.cellsL l))] [] = some (.i (.agg b.cells), []) := by
  rw [callA_eq rfl Try.func47 rfl rfl, Ex.cells_eq]
  have hc := copyExpr_eq b ht
  have r2 := Ex.cellsL_nth hb
  have r1 := (List.getElem?_eq_some_iff.1 hb).1
  rw [Ex.cells_eq] at hc r2 ⊢
  simp [h1, h0, r2, hc, show e.col < l.length by omega]
theorem sub_step {e : Ex} {l : List Ex} {f : Ex → Ex} (h1 : e.kind ≠ 1) (hl : e.kids.length < 1000000000) (ih : ∀ a ∈ e.kids, callA C0 47 [.i (.agg a.cells), .i (.isl (Ex.cellsL l))] [] = some (.i (.agg (f a).cells), [])) :
    callA C0 47 [.i (.agg e.cells), .i (.isl (Ex.cellsL l))] [] = some (.i (.agg (Ex.mk e.kind e.col e.val (e.kids.map f)).cells), []) := by
  rw [callA_eq rfl Try.func47 rfl rfl, Ex.cells_eq]
  simp [h1]
  rw [loop_to (SX e l f) e.kids.length (by simp [SX, h1])]
  · rw [execA_loop]
    cases hn : e.kids.length with
    | zero =>
      have : e.kids = [] := List.length_eq_zero_iff.1 hn
      simp [SX, this, Ex.cellsL, Ex.cells]
    | succ n =>
      have : e.kids.take (n + 1) = e.kids := List.take_of_length_le (by omega)
      simp [SX, hn, this, Ex.cells, ← List.map_take]
  · intro i hi
    have h3 := List.getElem?_eq_getElem hi
    have hc := ih _ (List.mem_of_getElem? h3)
    have r2 := Ex.cellsL_nth h3
    generalize e.kids[i] = a at h3 hc r2
    have w2 : IntKind.i64.wrap ((i : Int) + 1) = i + 1 := wrap64 (by omega) (by omega)
    by_cases h0 : i = 0
    · subst h0; simp [SX, hi, r2, hc, wrap_1, take_snoc h3, Ex.cellsL]
    · simp [SX, gro_pos h0, groB_pos h0, jk_pos h0, hi, r2, hc, w2, take_snoc h3, Ex.cellsL_snoc, show min i e.kids.length = i by omega, show (i + 1) * 56 ≤ 140737488355328 by omega, ← List.map_take, List.take_take]
theorem substitute_eq (l : List Ex) (hlt : ∀ b ∈ l, b.thin) : ∀ (e : Ex), e.thin → e.colsB l.length → callA C0 47 [.i (.agg e.cells), .i (.isl (Ex.cellsL l))] [] = some (.i (.agg (e.sub l).cells), []) := by
  intro e
  induction e using Ex.ind with
  | h k c v ks ih =>
    intro ht hc
    have ht' := (Ex.thin_iff _).1 ht
    have hc' := (Ex.colsB_iff _ _).1 hc
    by_cases hk : k = 1
    · obtain ⟨h0, h1⟩ := hc'.1 hk
      have hi : c.toNat < l.length := by simp [Ex.col] at h0 h1; omega
      have hb := List.getElem?_eq_getElem hi
      rw [Ex.sub_col l (e := .mk k c v ks) hk hb]
      exact sub_col hk h0 hb (hlt _ (List.getElem_mem hi))
    · rw [Ex.sub_not l (e := .mk k c v ks) hk]
      exact sub_step hk ht'.1 fun a ha => ih a ha (ht'.2 a ha) (hc'.2 hk a ha)
end Go.Proofs.Ytgpclhjdfdojhaa

/- Heights. No condition. -/
namespace Go.Proofs.Ytgpclhjdfdojhaa
open Go Go.Av
set_option maxRecDepth 4000
def HX (e : Ex) (i : Nat) : AS :=
  { env := [(0, .i (.iref [.int e.kind, .int e.col, .bool e.val.null, .int e.val.n, .isl (Ex.cellsL e.kids)])), (2, .int 0), (3, .int (Ex.htL (e.kids.take i) : Nat)), (4, jk i (.int (i - 1))), (9, .int e.kids.length), (10, .int i), (11, jk i (.bool true))], st := [] }
theorem height_step {e : Ex} (hs : e.size < 1000000000) (ih : ∀ k ∈ e.kids, callA C0 41 [.i (.iref k.cells)] [] = some (.int (k.ht : Nat), [])) :
    callA C0 41 [.i (.iref e.cells)] [] = some (.int (e.ht : Nat), []) := by
  rw [callA_eq rfl Try.func41 rfl rfl, Ex.cells_eq]
  simp
  have hl := Ex.sizeL_length e.kids
  rw [Ex.size_eq] at hs
  rw [loop_to (HX e) e.kids.length (by simp [HX, Ex.htL])]
  · rw [execA_loop]
    simp [HX, Ex.ht_eq e]
  · intro i hi
    have h3 := List.getElem?_eq_getElem hi
    have hm := List.mem_of_getElem? h3
    have hc := ih _ hm
    have r2 := Ex.cellsL_nth h3
    have hz := Ex.sizeL_mem hm
    generalize e.kids[i] = a at h3 hc r2 hz
    have ha := Ex.ht_size a
    have w2 : IntKind.i64.wrap ((i : Int) + 1) = i + 1 := wrap64 (by omega) (by omega)
    have w1 : IntKind.i64.wrap (1 + (a.ht : Int)) = 1 + a.ht := wrap64 (by omega) (by omega)
    rw [Ex.cells_eq] at hc r2
    have hmax : Ex.htL (e.kids.take (i + 1)) = max (Ex.htL (e.kids.take i)) (1 + a.ht) := by rw [take_snoc h3, Ex.htL_snoc]
    by_cases hg : 1 + a.ht > Ex.htL (e.kids.take i)
    · simp [HX, hi, r2, hc, w1, w2, hmax, show max (Ex.htL (e.kids.take i)) (1 + a.ht) = 1 + a.ht by omega, show (Ex.htL (e.kids.take i) : Int) < 1 + a.ht by omega]
    · simp [HX, hi, r2, hc, w1, w2, hmax, show max (Ex.htL (e.kids.take i)) (1 + a.ht) = Ex.htL (e.kids.take i) by omega, show ¬ (Ex.htL (e.kids.take i) : Int) < 1 + a.ht by omega]
theorem height_eq : ∀ (e : Ex), e.size < 1000000000 → callA C0 41 [.i (.iref e.cells)] [] = some (.int (e.ht : Nat), []) := by
  intro e
  induction e using Ex.ind with
  | h k c v ks ih =>
    intro hs
    exact height_step hs fun a ha => ih a ha (by have := Ex.sizeL_mem ha; simp only [Ex.size, Ex.kids] at hs this; omega)
end Go.Proofs.Ytgpclhjdfdojhaa

/- Whether what has been replaced fits; what is replaced. No condition. -/
namespace Go.Proofs.Ytgpclhjdfdojhaa
open Go Go.Av
set_option maxRecDepth 4000
theorem fits_neg {e : Ex} {hs : List Nat} {n : Int} (hn : n < 0) : callA C0 42 [.i (.iref e.cells), .i (.isl (natsL hs)), .int n] [] = some (.bool false, []) := by
  rw [callA_eq rfl Try.func42 rfl rfl, Ex.cells_eq]
  simp [hn]
theorem fits_col {e : Ex} {hs : List Nat} {n : Int} {h : Nat} (hn : 0 ≤ n) (hk : e.kind = 1) (hks : e.kids = []) (h0 : 0 ≤ e.col) (hh : hs[e.col.toNat]? = some h) :
    callA C0 42 [.i (.iref e.cells), .i (.isl (natsL hs)), .int n] [] = some (.bool (decide ((h : Int) ≤ n)), []) := by
  rw [callA_eq rfl Try.func42 rfl rfl, Ex.cells_eq]
  have r2 := natsL_nth hh
  have r1 := (List.getElem?_eq_some_iff.1 hh).1
  by_cases hc : n < h
  · simp [Int.not_lt.2 hn, hk, h0, r2, hc, show e.col < hs.length by omega]
  · simp [Int.not_lt.2 hn, hk, h0, r2, hc, Int.not_lt.1 hc, show e.col < hs.length by omega, hks, Ex.cellsL]
    rw [execA_loop]
    simp
def FX (e : Ex) (hs : List Nat) (n : Int) (i : Nat) : AS :=
  { env := [(0, .i (.iref [.int e.kind, .int e.col, .bool e.val.null, .int e.val.n, .isl (Ex.cellsL e.kids)])), (1, .i (.isl (natsL hs))), (2, .int n), (6, .bool false), (7, jk i (.int (i - 1))), (27, .bool false), (32, .int e.kids.length), (33, .int i), (34, jk i (.bool true)), (46, jk i (.bool false))], st := [] }
theorem fits_kids {e : Ex} {hs : List Nat} {n : Int} (hn : 0 ≤ n) (hn8 : n ≤ 8) (hl : e.kids.length < 1000000000) (hk : e.kind ≠ 1)
   (ih : ∀ k ∈ e.kids, callA C0 42 [.i (.iref k.cells), .i (.isl (natsL hs)), .int (n - 1)] [] = some (.bool (decide ((k.htS hs : Int) ≤ n - 1)), [])) :
    callA C0 42 [.i (.iref e.cells), .i (.isl (natsL hs)), .int n] [] = some (.bool (e.kids.all fun k => decide ((k.htS hs : Int) ≤ n - 1)), []) := by
  rw [callA_eq rfl Try.func42 rfl rfl, Ex.cells_eq]
  simp [Int.not_lt.2 hn, hk]
  obtain ⟨j, h1, h2⟩ := upto_bad (fun k : Ex => decide ((k.htS hs : Int) ≤ n - 1)) e.kids
  have w1 : IntKind.i64.wrap (n - 1) = n - 1 := wrap64 (by omega) (by omega)
  rw [loop_to (FX e hs n) j (by simp [FX])]
  · rw [execA_loop]
    rcases h2 with ⟨hj, ha⟩ | ⟨k, h3, h4, h5, ha⟩
    · simp [FX, hj, ha]
    · have r1 := (List.getElem?_eq_some_iff.1 h3).1
      have r2 := Ex.cellsL_nth h3
      have r3 := ih k h4
      rw [Ex.cells_eq] at r2 r3
      rw [h5] at r3
      simp [FX, r1, ha, r2, r3, w1]
  · intro i hi
    obtain ⟨k, h3, h4, h5⟩ := h1 i hi
    have r1 := (List.getElem?_eq_some_iff.1 h3).1
    have r2 := Ex.cellsL_nth h3
    have r3 := ih k h4
    have w2 : IntKind.i64.wrap ((i : Int) + 1) = i + 1 := wrap64 (by omega) (by omega)
    rw [Ex.cells_eq] at r2 r3
    rw [h5] at r3
    simp [FX, r1, r2, r3, w1, w2]
theorem fits_eq {m : Int} {hs : List Nat} (hm : m = hs.length) : ∀ (e : Ex), e.wf m = true → e.size < 1000000000 → ∀ n : Int, n ≤ 8 → callA C0 42 [.i (.iref e.cells), .i (.isl (natsL hs)), .int n] [] = some (.bool (decide ((e.htS hs : Int) ≤ n)), []) := by
  intro e
  induction e using Ex.ind with
  | h k c v ks ih =>
    intro hw hs' n hn
    by_cases h0 : n < 0
    · rw [fits_neg h0, show decide ((Ex.htS hs (.mk k c v ks) : Int) ≤ n) = false by simp; omega]
    · by_cases hk : k = 1
      · obtain ⟨c0, c1, ck⟩ := Ex.wf_col hw hk
        have hi : c.toNat < hs.length := by simp [Ex.col] at c0 c1; omega
        have hb := List.getElem?_eq_getElem hi
        rw [Ex.htS_col hs (e := .mk k c v ks) (h := hs[c.toNat]) hk hb]
        exact fits_col (by omega) hk ck c0 hb
      · have hl := Ex.sizeL_length ks
        have hsz : Ex.sizeL ks < 1000000000 := by simp [Ex.size] at hs'; omega
        have hn0 := Int.not_lt.1 h0
        rw [fits_kids (e := .mk k c v ks) (n := n) hn0 hn (by simp only [Ex.kids]; omega) hk fun x hx => ih x hx (Ex.wf_kids hw hx) (by have := Ex.sizeL_mem hx; simp only [Ex.kids] at this; omega) (n - 1) (by omega)]
        rw [Ex.htS_not hs (e := .mk k c v ks) hk]
        suffices hsf : (ks.all fun x => decide ((x.htS hs : Int) ≤ n - 1)) = decide ((Ex.htSL hs ks : Int) ≤ n) by simp only [Ex.kids]; rw [hsf]; rfl
        rw [Bool.eq_iff_iff]
        have := Ex.htSL_le hs (n := n.toNat) ks
        simp only [List.all_eq_true, decide_eq_true_eq]
        constructor
        · intro h
          have h2 := this.2 fun x hx => by have := h x hx; omega
          omega
        · intro h x hx
          have h2 := this.1 (by omega) x hx
          omega
end Go.Proofs.Ytgpclhjdfdojhaa

/- What is replaced. No condition. -/
namespace Go.Proofs.Ytgpclhjdfdojhaa
open Go Go.Av
set_option maxRecDepth 4000
@[simp] theorem copied_eq {e : Ex} (h : e.size < 1000000000) : callA C0 45 [.i (.iref e.cells)] [] = some (.i (.agg e.cells), []) := by
  rw [callA_prim (p := copyE) rfl]; exact copyE_eq h
theorem sub1_col {e b : Ex} {l : List Ex} (hk : e.kind = 1) (h0 : 0 ≤ e.col) (hb : l[e.col.toNat]? = some b) (hs : b.size < 1000000000) :
    callA C0 44 [.i (.iref e.cells), .own 0 0] [some (.box [.i (.isl (Ex.cellsL l))])] = some (.i (.agg b.cells), [some (.box [.i (.isl (Ex.cellsL l))])]) := by
  rw [callA_eq rfl Try.func44 rfl rfl]
  have hc := copied_eq hs
  have r2 := Ex.cellsL_nth hb
  have r1 := (List.getElem?_eq_some_iff.1 hb).1
  rw [Ex.cells_eq] at hc r2 ⊢
  rw [Ex.cells_eq]
  simp [hk, h0, r2, hc, show e.col < l.length by omega]
theorem sub1_not {e : Ex} {l : List Ex} (hk : e.kind ≠ 1) (hs : e.size < 1000000000) :
    callA C0 44 [.i (.iref e.cells), .own 0 0] [some (.box [.i (.isl (Ex.cellsL l))])] = some (.i (.agg e.cells), [some (.box [.i (.isl (Ex.cellsL l))])]) := by
  rw [callA_eq rfl Try.func44 rfl rfl]
  have hc := copied_eq hs
  rw [Ex.cells_eq] at hc ⊢
  simp [hk, hc]
def zrow : List IV := [.int 0, .int 0, .bool false, .int 0, .isl []]
def RX (e : Ex) (l : List Ex) (f : Ex → Ex) (i : Nat) : AS :=
  { env := [(0, .i (.iref [.int e.kind, .int e.col, .bool e.val.null, .int e.val.n, .isl (Ex.cellsL e.kids)])), (1, .fn (.func 44) [.own 0 0]), (4, .own 1 0), (5, .own 2 0), (6, jk i (.int (i - 1))), (12, .bool ((e.kids.length : Int) == 0)), (39, .int e.kids.length), (40, .int i), (41, jk i (.bool true))],
    st := [some (.box [.i (.isl (Ex.cellsL l))]), some (.box [.int 0, .int 0, .bool false, .int 0, .nils]), some (.box [.int e.kind, .int e.col, .bool e.val.null, .int e.val.n, .osl 3 5 0 e.kids.length]), some (.arr 5 (Ex.cellsL ((e.kids.map f).take i) ++ List.replicate (e.kids.length - i) zrow))] }
theorem rep_step {e : Ex} {l : List Ex} {f : Ex → Ex} (hk : e.kids ≠ []) (hl : e.kids.length < 1000000000) (ih : ∀ a ∈ e.kids, callA C0 43 [.i (.iref a.cells), .fn (.func 44) [.own 0 0]] [some (.box [.i (.isl (Ex.cellsL l))])] = some (.i (.agg (f a).cells), [some (.box [.i (.isl (Ex.cellsL l))])])) :
    callA C0 43 [.i (.iref e.cells), .fn (.func 44) [.own 0 0]] [some (.box [.i (.isl (Ex.cellsL l))])] = some (.i (.agg (Ex.mk e.kind e.col e.val (e.kids.map f)).cells), [some (.box [.i (.isl (Ex.cellsL l))])]) := by
  rw [callA_eq rfl Try.func43 rfl rfl, Ex.cells_eq]
  have hb : 56 * (e.kids.length : Int) ≤ 281474976710656 := by omega
  simp [hk, hb]
  rw [loop_to (RX e l f) e.kids.length (by simp [RX, Ex.cellsL, zrow])]
  · rw [execA_loop]
    have ht : (e.kids.map f).take e.kids.length = e.kids.map f := List.take_of_length_le (by simp)
    simp [RX, Ex.cells, ht]
  · intro i hi
    have h3 := List.getElem?_eq_getElem hi
    have hm := List.mem_of_getElem? h3
    have hc := ih _ hm
    have r2 := Ex.cellsL_nth h3
    generalize e.kids[i] = a at h3 hc r2
    have w2 : IntKind.i64.wrap ((i : Int) + 1) = i + 1 := wrap64 (by omega) (by omega)
    rw [Ex.cells_eq] at hc r2
    have hD : (Ex.cellsL ((e.kids.map f).take i)).length = i := by simp; omega
    have hS : Ex.cellsL ((e.kids.map f).take i) ++ [(f a).cells] = Ex.cellsL ((e.kids.map f).take (i + 1)) := by rw [take_snoc (a := f a) (by simp [h3]), Ex.cellsL_snoc]
    have g1 := half_nth (n := e.kids.length) (z := zrow) hD hi
    have g2 := half_set (n := e.kids.length) (z := zrow) (x := (f a).cells) hD hi
    have g3 : splice zrow 0 (f a).cells = some (f a).cells := splice_all (by simp [zrow])
    rw [hS] at g2
    simp [RX, hi, r2, hc, w2, g1, g2, g3]
theorem rep_leaf {e x : Ex} {l : List Ex} (hk : e.kids = []) (h : callA C0 44 [.i (.iref e.cells), .own 0 0] [some (.box [.i (.isl (Ex.cellsL l))])] = some (.i (.agg x.cells), [some (.box [.i (.isl (Ex.cellsL l))])])) :
    callA C0 43 [.i (.iref e.cells), .fn (.func 44) [.own 0 0]] [some (.box [.i (.isl (Ex.cellsL l))])] = some (.i (.agg x.cells), [some (.box [.i (.isl (Ex.cellsL l))])]) := by
  rw [callA_eq rfl Try.func43 rfl rfl]
  rw [Ex.cells_eq e] at h ⊢
  rw [Ex.cells_eq x] at h ⊢
  simp [hk, Ex.cellsL] at h ⊢
  simp [h]
theorem replaced_sub {m : Int} (l : List Ex) (hm : m = l.length) (hl : ∀ b ∈ l, b.size < 1000000000) : ∀ (e : Ex), e.wf m = true → e.size < 1000000000 →
    callA C0 43 [.i (.iref e.cells), .fn (.func 44) [.own 0 0]] [some (.box [.i (.isl (Ex.cellsL l))])] = some (.i (.agg (e.sub l).cells), [some (.box [.i (.isl (Ex.cellsL l))])]) := by
  intro e
  induction e using Ex.ind with
  | h k c v ks ih =>
    intro hw hs
    have hsz := hs
    rw [Ex.size_eq] at hsz
    have hkl := Ex.sizeL_length ks
    by_cases hk : k = 1
    · obtain ⟨c0, c1, ck⟩ := Ex.wf_col hw hk
      have hi : c.toNat < l.length := by simp [Ex.col] at c0 c1; omega
      have hb := List.getElem?_eq_getElem hi
      rw [Ex.sub_col l (e := .mk k c v ks) hk hb]
      exact rep_leaf ck (sub1_col (e := .mk k c v ks) hk c0 hb (hl _ (List.getElem_mem hi)))
    · cases ks with
      | nil =>
        have hn := sub1_not (e := .mk k c v []) (l := l) hk hs
        rw [Ex.sub_not l (e := .mk k c v []) hk]
        exact rep_leaf (e := .mk k c v []) rfl hn
      | cons a ks =>
        rw [Ex.sub_not l (e := .mk k c v (a :: ks)) hk]
        refine rep_step (e := .mk k c v (a :: ks)) (by simp [Ex.kids]) (by simp only [Ex.kids] at hsz ⊢; omega) fun x hx => ih x hx (Ex.wf_kids hw hx) ?_
        have := Ex.sizeL_mem hx
        omega
end Go.Proofs.Ytgpclhjdfdojhaa

/- Substitute, both ways. No condition. -/
namespace Go.Av
/-- What Substitute returns. -/
def Ex.subst (e : Ex) (l : List Ex) (w : Int) : Option Ex := if e.ok l.length && (l.all (Ex.ok w) && (e.sub l).ok w) then some (e.sub l) else none
def resE : Option Ex → AV
  | some e => .tup [.i (.agg e.cells), .bool true]
  | none => .tup [.i (.agg Ex.zero.cells), .bool false]
theorem zero_cells : Ex.zero.cells = [.int 0, .int 0, .bool false, .int 0, .isl []] := by simp [Ex.zero, Ex.cells, Ex.cellsL, Val.zero]
end Go.Av
namespace Go.Proofs.Ytgpclhjdfdojhaa
open Go Go.Av
set_option maxRecDepth 4000
def TX (e : Ex) (l : List Ex) (w : Int) (i : Nat) : AS :=
  { env := [(0, .i (.agg [.int e.kind, .int e.col, .bool e.val.null, .int e.val.n, .isl (Ex.cellsL e.kids)])), (1, .i (.isl (Ex.cellsL l))), (2, .int w), (3, .own 0 0), (6, .own 1 0), (7, .bool false), (8, .int i), (9, .junk), (14, .bool false), (19, jk i (.bool true)), (28, jk i (.bool false)), (36, .junk)],
    st := [some (.box [.int e.kind, .int e.col, .bool e.val.null, .int e.val.n, .i (.isl (Ex.cellsL e.kids))]), some (.box [.int 0, .int 0, .bool false, .int 0, .nils])] }
theorem ssub_no {e : Ex} {l : List Ex} {w : Int} (h : e.ok l.length = false) : callA C0 12 [.i (.agg e.cells), .i (.isl (Ex.cellsL l)), .int w] [] = some (resE (e.subst l w), []) := by
  rw [callA_eq rfl Try.func12 rfl rfl]
  have hc := sok_eq l.length e
  rw [h] at hc
  rw [Ex.cells_eq e] at hc ⊢
  simp [hc, Ex.subst, h, resE, zero_cells]
theorem ssub_go {e : Ex} {l : List Ex} {w : Int} (h : e.ok l.length = true) : callA C0 12 [.i (.agg e.cells), .i (.isl (Ex.cellsL l)), .int w] [] = some (resE (e.subst l w), []) := by
  rw [callA_eq rfl Try.func12 rfl rfl]
  have hc := sok_eq l.length e
  rw [h] at hc
  have hw : 1 ≤ (l.length : Int) ∧ (l.length : Int) ≤ 6 := by simp [Ex.ok, okWidth] at h; omega
  have hwf : e.wf l.length = true := by simp [Ex.ok, Ex.vB_eq] at h; exact h.2.1
  have hsz := Ex.ok_size h
  have hs : l.all (Ex.ok w) = true → callA C0 47 [.i (.agg e.cells), .i (.isl (Ex.cellsL l))] [] = some (.i (.agg (e.sub l).cells), []) := fun ha =>
    substitute_eq l (fun b hb => Ex.thin_of_size b (by have := Ex.ok_size (List.all_eq_true.1 ha b hb); omega)) e (Ex.thin_of_size e (by omega)) (Ex.wf_colsB e hwf)
  have hr := sok_eq w (e.sub l)
  rw [Ex.cells_eq e] at hc hs ⊢
  simp [hc]
  obtain ⟨j, h1, h2⟩ := upto_bad (Ex.ok w) l
  rw [loop_to (TX e l w) j (by simp [TX])]
  · rw [execA_loop]
    rcases h2 with ⟨hj, ha⟩ | ⟨k, h3, h4, h5, ha⟩
    · have hs' := hs ha
      cases hq : (e.sub l).ok w with
      | true => rw [hq] at hr; simp [TX, hj, hs', hr, Ex.subst, h, ha, hq, resE]
      | false => rw [hq] at hr; simp [TX, hj, hs', hr, Ex.subst, h, ha, hq, resE, zero_cells]
    · have r1 := (List.getElem?_eq_some_iff.1 h3).1
      have r2 := Ex.cellsL_nth h3
      have r3 := sok_eq w k
      rw [h5] at r3
      simp [TX, r1, r2, r3, Ex.subst, h, ha, resE, zero_cells]
  · intro i hi
    obtain ⟨k, h3, h4, h5⟩ := h1 i hi
    have r1 := (List.getElem?_eq_some_iff.1 h3).1
    have r2 := Ex.cellsL_nth h3
    have r3 := sok_eq w k
    have w2 : IntKind.i64.wrap ((i : Int) + 1) = i + 1 := wrap64 (by omega) (by omega)
    rw [h5] at r3
    simp [TX, r1, r2, r3, w2]
end Go.Proofs.Ytgpclhjdfdojhaa

/- Substitute, as the program has it. No condition. -/
namespace Go.Proofs.Ytgpclhjdfdojhaa
open Go Go.Av
set_option maxRecDepth 4000
theorem isub_no {e : Ex} {l : List Ex} {w : Int} (h : e.ok l.length = false) : callA C0 11 [.i (.agg e.cells), .i (.isl (Ex.cellsL l)), .int w] [] = some (resE (e.subst l w), []) := by
  rw [callA_eq rfl Try.func11 rfl rfl]
  have hc := ok_eq l.length e
  rw [h] at hc
  rw [Ex.cells_eq e] at hc ⊢
  simp [hc, Ex.subst, h, resE, zero_cells]
theorem natsL_snoc : ∀ (hs : List Nat) (h : Nat), natsL hs ++ [[.int h]] = natsL (hs ++ [h])
  | [], _ => rfl
  | _ :: hs, h => by simp [natsL, natsL_snoc hs h]
def IX (e : Ex) (l : List Ex) (w : Int) (i : Nat) : AS :=
  { env := [(0, .i (.agg [.int e.kind, .int e.col, .bool e.val.null, .int e.val.n, .isl (Ex.cellsL e.kids)])), (1, .i (.isl (Ex.cellsL l))), (2, .int w), (3, .own 0 0), (4, .own 1 0), (6, .own 2 0), (7, .bool false), (8, .osl 3 1 0 l.length), (9, jk i (.int (i - 1))), (14, .bool false), (20, .int l.length), (21, .int i), (22, jk i (.bool true)), (30, jk i (.bool false)), (42, .junk)],
    st := [some (.box [.int e.kind, .int e.col, .bool e.val.null, .int e.val.n, .i (.isl (Ex.cellsL e.kids))]), some (.box [.i (.isl (Ex.cellsL l))]), some (.box [.int 0, .int 0, .bool false, .int 0, .nils]), some (.arr 1 (natsL ((l.map Ex.ht).take i) ++ List.replicate (l.length - i) [.int 0]))] }
theorem isub_go {e : Ex} {l : List Ex} {w : Int} (h : e.ok l.length = true) : callA C0 11 [.i (.agg e.cells), .i (.isl (Ex.cellsL l)), .int w] [] = some (resE (e.subst l w), []) := by
  rw [callA_eq rfl Try.func11 rfl rfl]
  have hc := ok_eq l.length e
  rw [h] at hc
  have hw : 1 ≤ (l.length : Int) ∧ (l.length : Int) ≤ 6 := by simp [Ex.ok, okWidth] at h; omega
  have hwf : e.wf l.length = true := by simp [Ex.ok, Ex.vB_eq] at h; exact h.2.1
  have hsz := Ex.ok_size h
  rw [Ex.cells_eq e] at hc ⊢
  have hb : 8 * (l.length : Int) ≤ 281474976710656 := by omega
  simp [hc, hb]
  obtain ⟨j, h1, h2⟩ := upto_bad (Ex.ok w) l
  rw [loop_to (IX e l w) j (by simp [IX, natsL])]
  · rw [execA_loop]
    rcases h2 with ⟨hj, ha⟩ | ⟨k, h3, h4, h5, ha⟩
    · have ht : (l.map Ex.ht).take l.length = l.map Ex.ht := List.take_of_length_le (by simp)
      have ht2 : (natsL (l.map Ex.ht)).take l.length = natsL (l.map Ex.ht) := List.take_of_length_le (by simp)
      have hf := fits_eq (m := l.length) (hs := l.map Ex.ht) (by simp) e hwf (by omega) 8 (by omega)
      have hr := replaced_sub (m := l.length) l rfl (fun b hb => by have := Ex.ok_size (List.all_eq_true.1 ha b hb); omega) e hwf (by omega)
      have hwl : ∀ b ∈ l, b.wf w = true := fun b hb => by
        have := List.all_eq_true.1 ha b hb
        simp [Ex.ok, Ex.vB_eq] at this; exact this.2.1
      have hww : okWidth w = true := by
        cases l with
        | nil => simp at hw
        | cons b l => simp [Ex.ok] at ha; exact ha.1.1
      have hq : (e.sub l).ok w = decide ((e.htS (l.map Ex.ht) : Int) ≤ 8) := by
        simp only [Ex.ok, Ex.vB_eq, Ex.wf_sub (m := l.length) l rfl hwl e hwf, Ex.ht_sub (w := l.length) l rfl e hwf, hww, Bool.true_and]
        rw [Bool.eq_iff_iff]; simp; omega
      rw [Ex.cells_eq e] at hf hr
      rw [← hq] at hf
      cases hq' : (e.sub l).ok w with
      | true => rw [hq'] at hf; simp [IX, hj, ht, ht2, hf, hr, Ex.subst, h, ha, hq', resE]
      | false => rw [hq'] at hf; simp [IX, hj, ht, ht2, hf, Ex.subst, h, ha, hq', resE, zero_cells]
    · have r1 := (List.getElem?_eq_some_iff.1 h3).1
      have r2 := Ex.cellsL_nth h3
      have r3 := ok_eq w k
      rw [h5] at r3
      simp [IX, r1, r2, r3, Ex.subst, h, ha, resE, zero_cells]
  · intro i hi
    obtain ⟨k, h3, h4, h5⟩ := h1 i hi
    have r1 := (List.getElem?_eq_some_iff.1 h3).1
    have r2 := Ex.cellsL_nth h3
    have r3 := ok_eq w k
    have w2 : IntKind.i64.wrap ((i : Int) + 1) = i + 1 := wrap64 (by omega) (by omega)
    have hh := height_eq k (by have := Ex.ok_size h5; omega)
    rw [h5] at r3
    have hD : (natsL ((l.map Ex.ht).take i)).length = i := by simp; omega
    have g1 := half_nth (n := l.length) (z := [IV.int 0]) hD r1
    have g2 := half_set (n := l.length) (z := [IV.int 0]) (x := [IV.int k.ht]) hD r1
    rw [natsL_snoc, ← take_snoc (a := k.ht) (by simp [h3])] at g2
    simp [IX, r1, r2, r3, w2, hh, g1, g2]
end Go.Proofs.Ytgpclhjdfdojhaa

/- Drawing values and expressions. No condition. -/
namespace Go.Av
@[simp] theorem bytesI_widths : ∀ l : List UInt8, widths 1 (bytesI l) = true
  | [] => rfl
  | _ :: l => by have := bytesI_widths l; simp only [widths] at this; simp [bytesI, widths, this]
@[simp] theorem bytesI_take : ∀ (n : Nat) (l : List UInt8), (bytesI l).take n = bytesI (l.take n)
  | 0, l => by simp [bytesI]
  | n + 1, [] => by simp [bytesI]
  | n + 1, b :: l => by simp [bytesI, bytesI_take n l]
end Go.Av
namespace Go.Proofs.Ytgpclhjdfdojhaa
open Go Go.Av
set_option maxRecDepth 4000
theorem newReader_eq (l : List UInt8) : ∃ l' : List UInt8, l'.length ≤ 2000 ∧ callA C0 37 [.i (.isl (bytesI l))] [] = some (.own 0 0, [Rd l' 0]) := by
  by_cases h : (l.length : Int) > 2000
  · refine ⟨l.take 2000, by simp; omega, ?_⟩
    rw [callA_eq rfl Try.func37 rfl rfl]
    simp [bytesI_length, h, show (2000 : Int) ≤ l.length by omega]
  · refine ⟨l, by omega, ?_⟩
    rw [callA_eq rfl Try.func37 rfl rfl]
    simp [bytesI_length, h]
theorem one_eq (l : List UInt8) (p : Int) (h0 : 0 ≤ p) (h1 : p < 1000000000) (hl : l.length ≤ 2000) (es : List (List IV)) (hn : 0 < es.length) (hes : es.length ≤ 100) (hi : ∀ r ∈ es, ∃ x, r = [.int x]) :
    ∃ x : Int, callA C0 65 [.own 0 0, .osl 1 1 0 es.length] [Rd l p, some (.arr 1 es)] = some (.int x, [Rd l (p + 1), some (.arr 1 es)]) ∧ [.int x] ∈ es := by
  obtain ⟨v, hv, hv1, hv2⟩ := pick_eq l p es.length h0 h1 hl
  obtain ⟨v0, v1⟩ := hv1 (by omega)
  have hlt : v.toNat < es.length := by omega
  have hm := List.getElem_mem hlt
  obtain ⟨x, hx⟩ := hi _ hm
  refine ⟨x, ?_, hx ▸ hm⟩
  have hnth : nthE es v.toNat = some [.int x] := by rw [nthE_eq, List.getElem?_eq_getElem hlt, hx]
  have hw : widths 1 es = true := by
    rw [widths, List.all_eq_true]; intro r hr; obtain ⟨y, rfl⟩ := hi r hr; rfl
  rw [callA_eq rfl Try.func65 rfl rfl]
  simp [hv, v0, v1, hnth, hw]

theorem randomValue_eq (l : List UInt8) (p : Int) (h0 : 0 ≤ p) (h1 : p < 900000000) (hl : l.length ≤ 2000) :
    ∃ (v : Val) (p' : Int), callA C0 69 [.own 0 0] [Rd l p] = some (.i (.agg [.bool v.null, .int v.n]), [Rd l p']) ∧ p ≤ p' ∧ p' ≤ p + 2 := by
  obtain ⟨v, hv, hv1, hv2⟩ := pick_eq l p 5 h0 (by omega) hl
  by_cases h : v = 0
  · refine ⟨⟨true, 0⟩, p + 1, ?_, by omega, by omega⟩
    rw [callA_eq rfl Try.func69 rfl rfl]
    simp [hv, h]
  · obtain ⟨x, hx, _⟩ := one_eq l (p + 1) (by omega) (by omega) hl [[.int 0], [.int 1], [.int 2], [.int 3], [.int (-1)]] (by simp) (by simp) (by simp)
    refine ⟨⟨false, x⟩, p + 1 + 1, ?_, by omega, by omega⟩
    rw [callA_eq rfl Try.func69 rfl rfl]
    simp at hx
    simp [hv, h, hx]
theorem anyValue_eq (l : List UInt8) (p : Int) (h0 : 0 ≤ p) (h1 : p < 900000000) (hl : l.length ≤ 2000) :
    ∃ (v : Val) (p' : Int), callA C0 68 [.own 0 0] [Rd l p] = some (.i (.agg [.bool v.null, .int v.n]), [Rd l p']) ∧ p ≤ p' ∧ p' ≤ p + 4 := by
  obtain ⟨v, p1, hv, q1, q2⟩ := randomValue_eq l p h0 (by omega) hl
  obtain ⟨k, hk, hk1, hk2⟩ := pick_eq l p1 14 (by omega) (by omega) hl
  by_cases g0 : k = 0
  · refine ⟨⟨true, 1⟩, p1 + 1, ?_, by omega, by omega⟩
    rw [callA_eq rfl Try.func68 rfl rfl]
    simp [hv, hk, g0]
  · by_cases g1 : k = 1
    · obtain ⟨x, hx, _⟩ := one_eq l (p1 + 1) (by omega) (by omega) hl [[.int 10000], [.int (-10000)], [.int 9999], [.int (-9999)]] (by simp) (by simp) (by simp)
      refine ⟨⟨false, x⟩, p1 + 1 + 1, ?_, by omega, by omega⟩
      rw [callA_eq rfl Try.func68 rfl rfl]
      simp at hx
      simp [hv, hk, g1, hx]
    · refine ⟨v, p1 + 1, ?_, by omega, by omega⟩
      rw [callA_eq rfl Try.func68 rfl rfl]
      simp [hv, hk, g0, g1]
end Go.Proofs.Ytgpclhjdfdojhaa

/- Drawing expressions. No condition. -/
namespace Go.Proofs.Ytgpclhjdfdojhaa
open Go Go.Av
set_option maxRecDepth 4000
set_option maxHeartbeats 1000000
def RE (l : List UInt8) (w : Int) (n c : Nat) : Prop := ∀ p : Int, 0 ≤ p → p < 800000000 → ∃ (e : Ex) (p' : Int), callA C0 40 [.own 0 0, .int w, .int n] [Rd l p] = some (.i (.agg e.cells), [Rd l p']) ∧ p ≤ p' ∧ p' ≤ p + c ∧ e.size ≤ c
theorem rE_leaf {l : List UInt8} (hl : l.length ≤ 2000) {w : Int} {n : Nat} {p k : Int} (h0 : 0 ≤ p) (h1 : p < 800000000) (hk : callA C0 38 [.own 0 0, .int 13] [Rd l p] = some (.int k, [Rd l (p + 1)])) (hc : n = 0 ∨ k > 10) :
    ∃ (e : Ex) (p' : Int), callA C0 40 [.own 0 0, .int w, .int n] [Rd l p] = some (.i (.agg e.cells), [Rd l p']) ∧ p ≤ p' ∧ p' ≤ p + 4 ∧ e.size = 1 := by
  obtain ⟨t, ht, ht1, ht2⟩ := pick_eq l (p + 1) 3 (by omega) (by omega) hl
  by_cases g : t > 0
  · obtain ⟨c, hc', -, -⟩ := pick_eq l (p + 1 + 1) w (by omega) (by omega) hl
    refine ⟨.mk 1 c Val.zero [], p + 1 + 1 + 1, ?_, by omega, by omega, by simp [Ex.size, Ex.sizeL]⟩
    rw [callA_eq rfl Try.func40 rfl rfl]
    by_cases hn : n = 0
    · simp [hk, hn, ht, g, hc', Ex.cells, Ex.cellsL, Val.zero]
    · have hk10 : k > 10 := by omega
      simp [hk, hn, hk10, ht, g, hc', Ex.cells, Ex.cellsL, Val.zero]
  · obtain ⟨v, p2, hv, q1, q2⟩ := randomValue_eq l (p + 1 + 1) (by omega) (by omega) hl
    refine ⟨.mk 2 0 v [], p2, ?_, by omega, by omega, by simp [Ex.size, Ex.sizeL]⟩
    rw [callA_eq rfl Try.func40 rfl rfl]
    by_cases hn : n = 0
    · simp [hk, hn, ht, g, hv]
    · have hk10 : k > 10 := by omega
      simp [hk, hn, hk10, ht, g, hv]
theorem rE_node {l : List UInt8} (hl : l.length ≤ 2000) {w : Int} {n c : Nat} {p k : Int} (h0 : 0 ≤ p) (h1 : p < 800000000) (hk : callA C0 38 [.own 0 0, .int 13] [Rd l p] = some (.int k, [Rd l (p + 1)])) (hk0 : 0 ≤ k) (hk1 : k ≤ 10) (hn : n < 10) (hc : c < 100) (hpc : p + (2 * c + 1) < 700000000) (ih : ∀ p : Int, 0 ≤ p → p + c < 700000000 → ∃ (e : Ex) (p' : Int), callA C0 40 [.own 0 0, .int w, .int n] [Rd l p] = some (.i (.agg e.cells), [Rd l p']) ∧ p ≤ p' ∧ p' ≤ p + c ∧ e.size ≤ c) :
    ∃ (e : Ex) (p' : Int), callA C0 40 [.own 0 0, .int w, .int ((n + 1 : Nat) : Int)] [Rd l p] = some (.i (.agg e.cells), [Rd l p']) ∧ p ≤ p' ∧ p' ≤ p + (2 * c + 1 : Nat) ∧ e.size ≤ 2 * c + 1 := by
  obtain ⟨e1, p1, he1, a1, a2, a3⟩ := ih (p + 1) (by omega) (by omega)
  obtain ⟨e2, p2, he2, b1, b2, b3⟩ := ih p1 (by omega) (by omega)
  have t1 : 0 ≤ k.tmod 9 := Int.tmod_nonneg _ hk0
  have t2 : k.tmod 9 < 9 := Int.tmod_lt_of_pos _ (by omega)
  have w1 : IntKind.i64.wrap (3 + k.tmod 9) = 3 + k.tmod 9 := wrap64 (by omega) (by omega)
  have w2 : IntKind.i64.wrap (n : Int) = n := wrap64 (by omega) (by omega)
  have w3 : IntKind.i64.wrap 2 = 2 := wrap64 (by omega) (by omega)
  have hn1 : ¬ ((n : Int) + 1 = 0) := by omega
  have wn : ((n : Int) + 1 == 0) = false := by simp [hn1]
  have hkk : ¬ (10 < k) := by omega
  have hK : kidsK (3 + k.tmod 9) = 1 ∨ kidsK (3 + k.tmod 9) = 2 := by
    unfold kidsK; split; · omega
    split; · exact .inl rfl
    split; · exact .inr rfl
    · omega
  rcases hK with hK | hK
  · refine ⟨.mk (3 + k.tmod 9) 0 Val.zero [e1], p1, ?_, by omega, by omega, by simp [Ex.size, Ex.sizeL]; omega⟩
    rw [callA_eq rfl Try.func40 rfl rfl]
    simp [hk, hn1, wn, hkk, w1]
    rw [execA_loop]
    simp [hK, w2, he1, wrap_1]
    rw [execA_loop]
    simp [hK, Ex.cells, Ex.cellsL, Val.zero]
  · refine ⟨.mk (3 + k.tmod 9) 0 Val.zero [e1, e2], p2, ?_, by omega, by omega, by simp [Ex.size, Ex.sizeL]; omega⟩
    rw [callA_eq rfl Try.func40 rfl rfl]
    simp [hk, hn1, wn, hkk, w1]
    rw [execA_loop]
    simp [hK, w2, he1, wrap_1]
    rw [execA_loop]
    simp [hK, w2, he2, w3]
    rw [execA_loop]
    simp [hK, Ex.cells, Ex.cellsL, Val.zero]
def costE : Nat → Nat
  | 0 => 4
  | n + 1 => 2 * costE n + 1
theorem costE_ge : ∀ n, 4 ≤ costE n
  | 0 => by simp [costE]
  | n + 1 => by have := costE_ge n; simp only [costE]; omega
theorem rE (l : List UInt8) (hl : l.length ≤ 2000) (w : Int) : ∀ n : Nat, costE n < 200 → n < 10 → ∀ p : Int, 0 ≤ p → p + costE n < 700000000 → ∃ (e : Ex) (p' : Int), callA C0 40 [.own 0 0, .int w, .int n] [Rd l p] = some (.i (.agg e.cells), [Rd l p']) ∧ p ≤ p' ∧ p' ≤ p + costE n ∧ e.size ≤ costE n
  | 0, hc, hn, p, h0, h1 => by
    obtain ⟨k, hk, -, -⟩ := pick_eq l p 13 h0 (by omega) hl
    obtain ⟨e, p', a1, a2, a3, a4⟩ := rE_leaf hl (n := 0) (w := w) h0 (by omega) hk (.inl rfl)
    exact ⟨e, p', a1, a2, by simp [costE]; omega, by simp [costE]; omega⟩
  | n + 1, hc, hn, p, h0, h1 => by
    obtain ⟨k, hk, hk1, -⟩ := pick_eq l p 13 h0 (by omega) hl
    obtain ⟨k0, k1⟩ := hk1 (by omega)
    have hc' : costE (n + 1) = 2 * costE n + 1 := rfl
    by_cases hg : k > 10
    · obtain ⟨e, p', a1, a2, a3, a4⟩ := rE_leaf hl (n := n + 1) (w := w) h0 (by omega) hk (.inr hg)
      have h4 := costE_ge n
      exact ⟨e, p', a1, a2, by omega, by omega⟩
    · rw [hc']
      exact rE_node hl h0 (by omega) hk k0 (by omega) (by omega) (by omega) (by omega) fun q q0 q1 => rE l hl w n (by omega) (by omega) q q0 q1
theorem randomExpr3 (l : List UInt8) (hl : l.length ≤ 2000) (w p : Int) (h0 : 0 ≤ p) (h1 : p < 600000000) : ∃ (e : Ex) (p' : Int), callA C0 40 [.own 0 0, .int w, .int 3] [Rd l p] = some (.i (.agg e.cells), [Rd l p']) ∧ p ≤ p' ∧ p' ≤ p + 39 ∧ e.size ≤ 39 := rE l hl w 3 (by decide) (by omega) p h0 (by simp only [costE]; omega)
theorem randomExpr2 (l : List UInt8) (hl : l.length ≤ 2000) (w p : Int) (h0 : 0 ≤ p) (h1 : p < 600000000) : ∃ (e : Ex) (p' : Int), callA C0 40 [.own 0 0, .int w, .int 2] [Rd l p] = some (.i (.agg e.cells), [Rd l p']) ∧ p ≤ p' ∧ p' ≤ p + 19 ∧ e.size ≤ 19 := rE l hl w 2 (by decide) (by omega) p h0 (by simp only [costE]; omega)
end Go.Proofs.Ytgpclhjdfdojhaa

/- Drawing expressions that may be invalid; the arguments of Substitute. No condition. -/
namespace Go.Av
@[simp] theorem Ex.cells_splice (e e' : Ex) : splice e'.cells 0 e.cells = some e.cells := splice_all (by simp)
end Go.Av
namespace Go.Proofs.Ytgpclhjdfdojhaa
open Go Go.Av
set_option maxRecDepth 4000
set_option maxHeartbeats 1000000
theorem anyExpr_eq (l : List UInt8) (hl : l.length ≤ 2000) (w p : Int) (h0 : 0 ≤ p) (h1 : p < 500000000) : ∃ (e : Ex) (p' : Int), callA C0 39 [.own 0 0, .int w] [Rd l p] = some (.i (.agg e.cells), [Rd l p']) ∧ p ≤ p' ∧ p' ≤ p + 50 ∧ e.size ≤ 39 := by
  obtain ⟨e, p1, he, a1, a2, a3⟩ := randomExpr3 l hl w p h0 (by omega)
  obtain ⟨k, hk, -, -⟩ := pick_eq l p1 18 (by omega) (by omega) hl
  rw [Ex.cells_eq] at he
  by_cases g0 : k = 0
  · obtain ⟨x, hx, -⟩ := one_eq l (p1 + 1) (by omega) (by omega) hl [[.int 0], [.int 12], [.int 3], [.int 10]] (by simp) (by simp) (by simp)
    refine ⟨.mk x e.col e.val e.kids, p1 + 1 + 1, ?_, by omega, by omega, by rw [Ex.size_eq] at a3 ⊢; simpa [Ex.kids] using a3⟩
    rw [callA_eq rfl Try.func39 rfl rfl]
    simp at hx
    simp [he, hk, g0, hx, Ex.cells]
  · by_cases g1 : k = 1
    · obtain ⟨x, hx, -⟩ := one_eq l (p1 + 1) (by omega) (by omega) hl [[.int (-1)], [.int 6], [.int w]] (by simp) (by simp) (by simp)
      refine ⟨.mk e.kind x e.val e.kids, p1 + 1 + 1, ?_, by omega, by omega, by rw [Ex.size_eq] at a3 ⊢; simpa [Ex.kids] using a3⟩
      rw [callA_eq rfl Try.func39 rfl rfl]
      simp at hx
      simp [he, hk, g1, hx, Ex.cells]
    · by_cases g2 : k = 2
      · obtain ⟨v, p2, hv, q1, q2⟩ := anyValue_eq l (p1 + 1) (by omega) (by omega) hl
        refine ⟨.mk e.kind e.col v e.kids, p2, ?_, by omega, by omega, by rw [Ex.size_eq] at a3 ⊢; simpa [Ex.kids] using a3⟩
        rw [callA_eq rfl Try.func39 rfl rfl]
        simp [he, hk, g2, hv, Ex.cells]
      · refine ⟨e, p1 + 1, ?_, by omega, by omega, by omega⟩
        rw [callA_eq rfl Try.func39 rfl rfl]
        simp [he, hk, g0, g1, g2, Ex.cells_eq e]
theorem draw_eq (code : List UInt8) : ∃ (e : Ex) (l : List Ex) (w : Int), callA C0 10 [.i (.isl (bytesI code))] [] = some (.tup [.i (.agg e.cells), .i (.isl (Ex.cellsL l)), .int w], []) ∧ e.size ≤ 39 ∧ l.length ≤ 3 ∧ ∀ b ∈ l, b.size ≤ 39 := by
  obtain ⟨c, hc, hr⟩ := newReader_eq code
  obtain ⟨n, hn, hn1, -⟩ := pick_eq c 0 3 (by omega) (by omega) hc
  obtain ⟨w, hw, hw1, -⟩ := pick_eq c 1 3 (by omega) (by omega) hc
  obtain ⟨e, p1, he, a1, a2, a3⟩ := anyExpr_eq c hc (1 + n) 2 (by omega) (by omega)
  have wn : IntKind.i64.wrap (1 + n) = 1 + n := by have := hn1 (by omega); exact wrap64 (by omega) (by omega)
  have ww : IntKind.i64.wrap (1 + w) = 1 + w := by have := hw1 (by omega); exact wrap64 (by omega) (by omega)
  have hn3 : n = 0 ∨ n = 1 ∨ n = 2 := by have := hn1 (by omega); omega
  have w2 : IntKind.i64.wrap 2 = 2 := wrap64 (by omega) (by omega)
  have w3 : IntKind.i64.wrap 3 = 3 := wrap64 (by omega) (by omega)
  simp at hn hw
  obtain ⟨b1, q1, hb1, c1, c2, c3⟩ := randomExpr2 c hc (1 + w) p1 (by omega) (by omega)
  rcases hn3 with rfl | rfl | rfl
  · obtain ⟨k, hk, -, -⟩ := pick_eq c q1 12 (by omega) (by omega) hc
    simp at he
    by_cases g : k = 0
    · obtain ⟨z, pz, hz, d1, d2, d3⟩ := anyExpr_eq c hc (1 + w) (q1 + 1) (by omega) (by omega)
      refine ⟨e, [z], 1 + w, ?_, a3, by simp, by intro b hb; simp at hb; subst hb; omega⟩
      rw [callA_eq rfl Try.func10 rfl rfl]
      simp [hr, hn, hw, ww, wrap_1, w2, w3, he]
      rw [execA_loop]
      simp [hb1, wrap_1, w2, w3]
      rw [execA_loop]
      simp [hk, g, hz, Ex.cellsL]
    · refine ⟨e, [b1], 1 + w, ?_, a3, by simp, by intro b hb; simp at hb; subst hb; omega⟩
      rw [callA_eq rfl Try.func10 rfl rfl]
      simp [hr, hn, hw, ww, wrap_1, w2, w3, he]
      rw [execA_loop]
      simp [hb1, wrap_1, w2, w3]
      rw [execA_loop]
      simp [hk, g, Ex.cellsL]
  · obtain ⟨b2, q2, hb2, e2, f2, g2⟩ := randomExpr2 c hc (1 + w) q1 (by omega) (by omega)
    obtain ⟨k, hk, -, -⟩ := pick_eq c q2 12 (by omega) (by omega) hc
    simp at he
    by_cases g : k = 0
    · obtain ⟨z, pz, hz, d1, d2, d3⟩ := anyExpr_eq c hc (1 + w) (q2 + 1) (by omega) (by omega)
      refine ⟨e, [z, b2], 1 + w, ?_, a3, by simp, by intro b hb; simp at hb; rcases hb with rfl | rfl <;> omega⟩
      rw [callA_eq rfl Try.func10 rfl rfl]
      simp [hr, hn, hw, ww, wrap_1, w2, w3, he]
      rw [execA_loop]
      simp [hb1, wrap_1, w2, w3]
      rw [execA_loop]
      simp [hb2, wrap_1, w2, w3]
      rw [execA_loop]
      simp [hk, g, hz, Ex.cellsL]
    · refine ⟨e, [b1, b2], 1 + w, ?_, a3, by simp, by intro b hb; simp at hb; rcases hb with rfl | rfl <;> omega⟩
      rw [callA_eq rfl Try.func10 rfl rfl]
      simp [hr, hn, hw, ww, wrap_1, w2, w3, he]
      rw [execA_loop]
      simp [hb1, wrap_1, w2, w3]
      rw [execA_loop]
      simp [hb2, wrap_1, w2, w3]
      rw [execA_loop]
      simp [hk, g, Ex.cellsL]
  · obtain ⟨b2, q2, hb2, e2, f2, g2⟩ := randomExpr2 c hc (1 + w) q1 (by omega) (by omega)
    obtain ⟨b3, q3, hb3, e3, f3, g3⟩ := randomExpr2 c hc (1 + w) q2 (by omega) (by omega)
    obtain ⟨k, hk, -, -⟩ := pick_eq c q3 12 (by omega) (by omega) hc
    simp at he
    by_cases g : k = 0
    · obtain ⟨z, pz, hz, d1, d2, d3⟩ := anyExpr_eq c hc (1 + w) (q3 + 1) (by omega) (by omega)
      refine ⟨e, [z, b2, b3], 1 + w, ?_, a3, by simp, by intro b hb; simp at hb; rcases hb with rfl | rfl | rfl <;> omega⟩
      rw [callA_eq rfl Try.func10 rfl rfl]
      simp [hr, hn, hw, ww, wrap_1, w2, w3, he]
      rw [execA_loop]
      simp [hb1, wrap_1, w2, w3]
      rw [execA_loop]
      simp [hb2, wrap_1, w2, w3]
      rw [execA_loop]
      simp [hb3, wrap_1, w2, w3]
      rw [execA_loop]
      simp [hk, g, hz, Ex.cellsL]
    · refine ⟨e, [b1, b2, b3], 1 + w, ?_, a3, by simp, by intro b hb; simp at hb; rcases hb with rfl | rfl | rfl <;> omega⟩
      rw [callA_eq rfl Try.func10 rfl rfl]
      simp [hr, hn, hw, ww, wrap_1, w2, w3, he]
      rw [execA_loop]
      simp [hb1, wrap_1, w2, w3]
      rw [execA_loop]
      simp [hb2, wrap_1, w2, w3]
      rw [execA_loop]
      simp [hb3, wrap_1, w2, w3]
      rw [execA_loop]
      simp [hk, g, Ex.cellsL]
end Go.Proofs.Ytgpclhjdfdojhaa

/- The law on substituting columns by themselves. No condition. -/
namespace Go.Av
/-- The columns below a number. -/
def colE (i : Nat) : Ex := .mk 1 i Val.zero []
def colsE (n : Nat) : List Ex := (List.range n).map colE
@[simp] theorem colsE_length (n : Nat) : (colsE n).length = n := by simp [colsE]
theorem colsE_get {n i : Nat} (h : i < n) : (colsE n)[i]? = some (colE i) := by simp [colsE, h]
theorem colsE_succ (n : Nat) : colsE (n + 1) = colsE n ++ [colE n] := by simp [colsE, List.range_succ]
theorem sub_cols (n : Nat) : ∀ (e : Ex), e.wf n = true → e.sub (colsE n) = e := by
  intro e
  induction e using Ex.ind with
  | h k c v ks ih =>
    intro h
    by_cases hk : k = 1
    · obtain ⟨c0, c1, ck⟩ := Ex.wf_col h hk
      rw [Ex.wf_eq] at h
      simp [Ex.headOk, Ex.kind, Ex.col, Ex.val, hk, Ex.kids] at h c0 c1 ck
      rw [Ex.sub_col (colsE n) (e := .mk k c v ks) (b := colE c.toNat) hk (colsE_get (by simp [Ex.col]; omega))]
      rw [colE, hk, ck, show ((c.toNat : Nat) : Int) = c by omega]
      have : v = Val.zero := by obtain ⟨a, b⟩ := v; simp at h; simp [Val.zero, h]
      rw [this]
    · rw [Ex.sub_not (colsE n) (e := .mk k c v ks) hk]
      simp only [Ex.kind, Ex.col, Ex.val, Ex.kids, Ex.mk.injEq, true_and]
      conv => rhs; rw [← List.map_id ks]
      apply List.map_congr_left
      intro x hx
      exact ih x hx (Ex.wf_kids h hx)
theorem colE_ok {n i : Nat} (h : i < n) (hn : n ≤ 6) : (colE i).ok n = true := by
  have : okWidth n = true := by simp [okWidth]; omega
  simp [Ex.ok, this, Ex.vB_eq, Ex.wf_eq, colE, Ex.kids, Ex.kind, Ex.headOk, Ex.col, Ex.val, Val.zero, kidsK, Ex.ht, Ex.htL]
  omega
theorem subst_cols {n : Nat} {e : Ex} (h : e.ok n = true) : e.subst (colsE n) n = some e := by
  have hw : n ≤ 6 := by simp [Ex.ok, okWidth] at h; omega
  have hwf : e.wf n = true := by simp [Ex.ok, Ex.vB_eq] at h; exact h.2.1
  have ha : (colsE n).all (Ex.ok n) = true := by
    rw [List.all_eq_true]; intro x hx
    simp [colsE] at hx
    obtain ⟨i, hi, rfl⟩ := hx
    exact colE_ok hi hw
  simp only [Ex.subst, colsE_length, h, ha, sub_cols n e hwf, Bool.and_self, if_true]
/-- The expression of a result. -/
def getE (o : Option Ex) : Ex := o.getD Ex.zero
theorem resE_eq (o : Option Ex) : resE o = .tup [.i (.agg (getE o).cells), .bool o.isSome] := by cases o <;> rfl
theorem getE_thin {e : Ex} {l : List Ex} {w : Int} : (getE (e.subst l w)).thin := by
  unfold Ex.subst
  split
  · rename_i h
    simp at h
    exact Ex.thin_of_size _ (by have := Ex.ok_size h.2.2; simp [getE]; omega)
  · simp [getE, Ex.zero, Ex.thin, Ex.thinL]
end Go.Av
namespace Go.Proofs.Ytgpclhjdfdojhaa
open Go Go.Av
set_option maxRecDepth 4000
set_option maxHeartbeats 1000000
theorem isub_eq (e : Ex) (l : List Ex) (w : Int) : callA C0 11 [.i (.agg e.cells), .i (.isl (Ex.cellsL l)), .int w] [] = some (.tup [.i (.agg (getE (e.subst l w)).cells), .bool (e.subst l w).isSome], []) := by
  rw [← resE_eq]
  cases h : e.ok l.length with
  | true => exact isub_go h
  | false => exact isub_no h
theorem ssub_eq (e : Ex) (l : List Ex) (w : Int) : callA C0 12 [.i (.agg e.cells), .i (.isl (Ex.cellsL l)), .int w] [] = some (.tup [.i (.agg (getE (e.subst l w)).cells), .bool (e.subst l w).isSome], []) := by
  rw [← resE_eq]
  cases h : e.ok l.length with
  | true => exact ssub_go h
  | false => exact ssub_no h
def WX (code : List UInt8) (e : Ex) (l : List Ex) (w : Int) (i : Nat) : AS :=
  { env := [(0, .i (.isl (bytesI code))), (2, .bool false), (3, .own 0 0), (4, .i (.isl (Ex.cellsL l))), (5, .int w), (6, .own 1 0), (7, .bool (e.subst l w).isSome), (8, .own 2 0), (9, .bool (e.subst l w).isSome), (10, .osl 3 5 0 i), (11, .int i), (12, .junk), (13, .junk), (16, .bool false), (52, .bool false), (65, jk i (.bool true))],
    st := [some (.box (impI e.cells)), some (.box (impI (getE (e.subst l w)).cells)), some (.box (impI (getE (e.subst l w)).cells)), some (.arr 5 (Ex.cellsL (colsE i)))] }
theorem law_cols (code : List UInt8) : callA C0 3 [.i (.isl (bytesI code))] [] = some (.bool true, []) := by
  by_cases hc : (1048576 : Int) < code.length
  · rw [callA_eq rfl Try.func3 rfl rfl]
    simp [bytesI_length, hc]
  obtain ⟨e, l, w, hd, hs, hl, hb⟩ := draw_eq code
  have h1 := isub_eq e l w
  have h2 := ssub_eq e l w
  have h3 := equalExprs_eq (getE (e.subst l w)) getE_thin (getE (e.subst l w))
  rw [Ex.eqb_refl] at h3
  have h4 := ok_eq l.length e
  rw [callA_eq rfl Try.func3 rfl rfl]
  cases ho : e.ok l.length with
  | false =>
    rw [ho] at h4
    simp [bytesI_length, hc, hd, h1, h2, h3, h4]
  | true =>
    rw [ho] at h4
    simp [bytesI_length, hc, hd, h1, h2, h3, h4]
    have hl6 : (l.length : Int) ≤ 6 := by omega
    rw [loop_to (WX code e l w) l.length (by simp [WX, colsE, Ex.cellsL])]
    · rw [execA_loop]
      have h5 := isub_eq e (colsE l.length) l.length
      rw [subst_cols ho] at h5
      simp [getE] at h5
      have h6 := equalExprs_eq e (Ex.thin_of_size e (by omega)) e
      rw [Ex.eqb_refl] at h6
      have h7 : (Ex.cellsL (colsE l.length)).take l.length = Ex.cellsL (colsE l.length) := List.take_of_length_le (by simp)
      have h8 : (colsE l.length).take l.length = colsE l.length := List.take_of_length_le (by simp)
      simp [WX, h5, h6, h8]
    · intro i hi
      have w2 : IntKind.i64.wrap ((i : Int) + 1) = i + 1 := wrap64 (by omega) (by omega)
      have h8 : (colsE i).take i = colsE i := List.take_of_length_le (by simp)
      have h9 : (colE i).cells = [.int 1, .int i, .bool false, .int 0, .isl []] := by simp [colE, Ex.cells, Ex.cellsL, Val.zero]
      simp [WX, hi, w2, h8, colsE_succ, Ex.cellsL_snoc, h9, show (i + 1) * 56 ≤ 140737488355328 by omega]
end Go.Proofs.Ytgpclhjdfdojhaa

/- Values of expressions, as data. No condition. -/
namespace Go.Av
def Val.tr (v : Val) : Int := if v.null = true then 1 else if v.n = 0 then 0 else 2
def trV (t : Int) : Val := if t = 1 then ⟨true, 0⟩ else ⟨false, if t = 2 then 1 else 0⟩
def numV (n : Int) : Val := if -9999 ≤ n ∧ n ≤ 9999 then ⟨false, n⟩ else ⟨true, 0⟩
def flagV (b : Bool) : Val := ⟨false, if b = true then 1 else 0⟩
def Val.cmb (k : Int) (a b : Val) : Val :=
  if k = 8 then trV (if b.tr < a.tr then b.tr else a.tr) else if k = 9 then trV (if b.tr > a.tr then b.tr else a.tr) else
  if a.null = true ∨ b.null = true then ⟨true, 0⟩ else if k = 3 then numV (a.n + b.n) else if k = 4 then numV (a.n - b.n) else if k = 5 then numV (a.n * b.n) else
  if k = 6 then flagV (a.n == b.n) else flagV (decide (a.n < b.n))
/-- What a part comes to, by what its kids come to. -/
def evN (row : List Val) (k c : Int) (v : Val) (vs : List Val) : Val :=
  if k = 1 then (row[c.toNat]?).getD Val.zero else if k = 2 then v else
  if k = 10 then trV (2 - ((vs[0]?).getD Val.zero).tr) else if k = 11 then flagV ((vs[0]?).getD Val.zero).null else
  Val.cmb k ((vs[0]?).getD Val.zero) ((vs[1]?).getD Val.zero)
mutual
def Ex.ev (row : List Val) : Ex → Val
  | .mk k c v ks => evN row k c v (Ex.evL row ks)
def Ex.evL (row : List Val) : List Ex → List Val
  | [] => []
  | e :: es => e.ev row :: Ex.evL row es
end
theorem Ex.evL_map (row : List Val) : ∀ l, Ex.evL row l = l.map (Ex.ev row)
  | [] => rfl
  | e :: es => by simp [Ex.evL, Ex.evL_map row es]
theorem Ex.ev_eq (row : List Val) (e : Ex) : e.ev row = evN row e.kind e.col e.val (e.kids.map (Ex.ev row)) := by
  cases e; simp [Ex.ev, Ex.evL_map, Ex.kind, Ex.col, Ex.val, Ex.kids]
theorem trV_ok (t : Int) : (trV t).ok = true := by unfold trV; split <;> simp [Val.ok]; split <;> simp
theorem numV_ok (n : Int) : (numV n).ok = true := by unfold numV; split <;> simp_all [Val.ok]
theorem flagV_ok (b : Bool) : (flagV b).ok = true := by cases b <;> simp [flagV, Val.ok]
theorem cmb_ok (k : Int) (a b : Val) : (Val.cmb k a b).ok = true := by
  unfold Val.cmb
  repeat' split
  all_goals first | exact trV_ok _ | exact numV_ok _ | exact flagV_ok _ | rfl
def valsL : List Val → List (List IV)
  | [] => []
  | v :: vs => [.bool v.null, .int v.n] :: valsL vs
@[simp] theorem valsL_length : ∀ l : List Val, (valsL l).length = l.length
  | [] => rfl
  | _ :: l => by simp [valsL, valsL_length l]
theorem valsL_nth : ∀ {l : List Val} {i : Nat} {v : Val}, l[i]? = some v → nthE (valsL l) i = some [.bool v.null, .int v.n]
  | [], _, _, e => by simp at e
  | a :: l, 0, v, e => by simp at e; subst e; simp [valsL, nthE]
  | a :: l, i + 1, v, e => by simp only [valsL, nthE]; exact valsL_nth (by simpa using e)
@[simp] theorem valsL_widths : ∀ l : List Val, widths 2 (valsL l) = true
  | [] => rfl
  | _ :: l => by have := valsL_widths l; simp only [widths] at this; simp [valsL, widths, this]
@[simp] theorem valsL_take : ∀ (n : Nat) (l : List Val), (valsL l).take n = valsL (l.take n)
  | 0, l => by simp [valsL]
  | n + 1, [] => by simp [valsL]
  | n + 1, e :: l => by simp [valsL, valsL_take n l]
theorem valsL_append (a b : List Val) : valsL (a ++ b) = valsL a ++ valsL b := by
  induction a with
  | nil => simp [valsL]
  | cons e a ih => simp [valsL, ih]
theorem valsL_snoc (l : List Val) (v : Val) : valsL (l ++ [v]) = valsL l ++ [[.bool v.null, .int v.n]] := by
  rw [valsL_append]; simp [valsL]
def okRow (row : List Val) : Bool := okWidth row.length && row.all Val.ok
/-- Substitution commutes with what is come to. -/
theorem ev_sub {m : Int} (l : List Ex) (hm : m = l.length) (row : List Val) : ∀ (e : Ex), e.wf m = true → (e.sub l).ev row = e.ev (l.map (Ex.ev row)) := by
  intro e
  induction e using Ex.ind with
  | h k c v ks ih =>
    intro h
    by_cases hk : k = 1
    · obtain ⟨h0, h1, _⟩ := Ex.wf_col h hk
      have hi : c.toNat < l.length := by simp [Ex.col] at h0 h1; omega
      have hb := List.getElem?_eq_getElem hi
      rw [Ex.sub_col l (e := .mk k c v ks) hk hb]
      simp [Ex.ev, evN, hk, hb]
    · rw [Ex.sub_not l (e := .mk k c v ks) hk]
      simp only [Ex.ev, Ex.evL_map, Ex.kind, Ex.col, Ex.val, Ex.kids, List.map_map]
      have : List.map (Ex.ev row ∘ Ex.sub l) ks = List.map (Ex.ev (l.map (Ex.ev row))) ks := List.map_congr_left fun x hx => ih x hx (Ex.wf_kids h hx)
      rw [this]
      simp [evN, hk]
theorem ev_ok {m : Int} (row : List Val) (hm : m = row.length) (hr : row.all Val.ok = true) : ∀ (e : Ex), e.wf m = true → (e.ev row).ok = true := by
  intro e h
  rw [Ex.ev_eq]
  unfold evN
  have h' := h
  rw [Ex.wf_eq] at h'
  simp at h'
  by_cases hk : e.kind = 1
  · obtain ⟨h0, h1, _⟩ := Ex.wf_col h hk
    have hi : e.col.toNat < row.length := by omega
    have hb := List.getElem?_eq_getElem hi
    simp [hk, hb]
    exact List.all_eq_true.1 hr _ (List.getElem_mem hi)
  · by_cases hk2 : e.kind = 2
    · simp [hk2]; have := h'.2.1; simp [Ex.headOk, hk2] at this; exact this.2
    · simp only [hk, hk2, if_false]
      split; · exact trV_ok _
      split; · exact flagV_ok _
      · exact cmb_ok _ _ _
end Go.Av

/- Values of expressions. No condition. -/
namespace Go.Proofs.Ytgpclhjdfdojhaa
open Go Go.Av
set_option maxRecDepth 4000
theorem wrap_0 : IntKind.i64.wrap 0 = 0 := wrap64 (by omega) (by omega)
theorem wrap_2 : IntKind.i64.wrap 2 = 2 := wrap64 (by omega) (by omega)
@[simp] theorem truthOf_eq (b : Bool) (n : Int) : callA C0 77 [.i (.agg [.bool b, .int n])] [] = some (.int (Val.tr ⟨b, n⟩), []) := by
  rw [callA_eq rfl Try.func77 rfl rfl]
  cases b
  · by_cases h : n = 0 <;> simp [Val.tr, h]
  · simp [Val.tr]
@[simp] theorem null_eq : callA C0 81 [] [] = some (.i (.agg [.bool true, .int 0]), []) := by
  rw [callA_eq rfl Try.func81 rfl rfl]
  simp
@[simp] theorem number_eq (n : Int) : callA C0 82 [.int n] [] = some (.i (.agg [.bool false, .int n]), []) := by
  rw [callA_eq rfl Try.func82 rfl rfl]
  simp
@[simp] theorem numberOrNull_eq (n : Int) : callA C0 83 [.int n] [] = some (.i (.agg [.bool (numV n).null, .int (numV n).n]), []) := by
  rw [callA_eq rfl Try.func83 rfl rfl]
  by_cases h : -9999 ≤ n ∧ n ≤ 9999 <;> simp [numV, Val.ok, h]
@[simp] theorem flag_eq (b : Bool) : callA C0 79 [.bool b] [] = some (.i (.agg [.bool (flagV b).null, .int (flagV b).n]), []) := by
  rw [callA_eq rfl Try.func79 rfl rfl]
  cases b <;> simp [flagV]
@[simp] theorem tvalue_eq (t : Int) : callA C0 78 [.int t] [] = some (.i (.agg [.bool (trV t).null, .int (trV t).n]), []) := by
  rw [callA_eq rfl Try.func78 rfl rfl]
  by_cases h : t = 1
  · simp [trV, h]
  · by_cases h2 : t = 2 <;> simp [trV, flagV, h, h2]
theorem combined_eq (k : Int) (a b : Val) (ha : a.ok = true) (hb : b.ok = true) : callA C0 80 [.int k, .i (.agg [.bool a.null, .int a.n]), .i (.agg [.bool b.null, .int b.n])] [] = some (.i (.agg [.bool (Val.cmb k a b).null, .int (Val.cmb k a b).n]), []) := by
  rw [callA_eq rfl Try.func80 rfl rfl]
  obtain ⟨an, a⟩ := a
  obtain ⟨bn, b⟩ := b
  have ba : -9999 ≤ a ∧ a ≤ 9999 := by cases an <;> simp [Val.ok] at ha <;> omega
  have bb : -9999 ≤ b ∧ b ≤ 9999 := by cases bn <;> simp [Val.ok] at hb <;> omega
  have w1 : IntKind.i64.wrap (a + b) = a + b := wrap64 (by omega) (by omega)
  have w2 : IntKind.i64.wrap (a - b) = a - b := wrap64 (by omega) (by omega)
  have w3 : IntKind.i64.wrap (a * b) = a * b := by
    have h1 : a * b ≤ 9999 * 9999 := by
      have := Int.mul_le_mul_of_natAbs_le (x := a) (y := b) (s := 9999) (t := 9999) (by omega) (by omega)
      omega
    have h2 : -(9999 * 9999) ≤ a * b := by
      have := Int.mul_le_mul_of_natAbs_le (x := -a) (y := b) (s := 9999) (t := 9999) (by omega) (by omega)
      rw [Int.neg_mul] at this
      omega
    exact wrap64 (by omega) (by omega)
  by_cases k8 : k = 8
  · by_cases hm : Val.tr ⟨bn, b⟩ < Val.tr ⟨an, a⟩ <;> simp [Val.cmb, k8, hm]
  by_cases k9 : k = 9
  · by_cases hm : Val.tr ⟨an, a⟩ < Val.tr ⟨bn, b⟩ <;> simp [Val.cmb, k9, hm]
  cases an
  · cases bn
    · by_cases k3 : k = 3
      · simp [Val.cmb, k3, w1]
      by_cases k4 : k = 4
      · simp [Val.cmb, k4, w2]
      by_cases k5 : k = 5
      · simp [Val.cmb, k5, w3]
      by_cases k6 : k = 6
      · simp [Val.cmb, k6]
      · simp [Val.cmb, k8, k9, k3, k4, k5, k6]
    · simp [Val.cmb, k8, k9]
  · simp [Val.cmb, k8, k9]
theorem tr_b (v : Val) : 0 ≤ v.tr ∧ v.tr ≤ 2 := by
  unfold Val.tr
  split
  · omega
  · split <;> omega
theorem value_col {e : Ex} {row : List Val} {v : Val} (hk : e.kind = 1) (h0 : 0 ≤ e.col) (hv : row[e.col.toNat]? = some v) :
    callA C0 67 [.i (.iref e.cells), .i (.isl (valsL row))] [] = some (.i (.agg [.bool v.null, .int v.n]), []) := by
  rw [callA_eq rfl Try.func67 rfl rfl, Ex.cells_eq]
  have r1 := (List.getElem?_eq_some_iff.1 hv).1
  simp [hk, h0, valsL_nth hv, show e.col < row.length by omega]
theorem value_const {e : Ex} {row : List Val} (hk : e.kind = 2) :
    callA C0 67 [.i (.iref e.cells), .i (.isl (valsL row))] [] = some (.i (.agg [.bool e.val.null, .int e.val.n]), []) := by
  rw [callA_eq rfl Try.func67 rfl rfl, Ex.cells_eq]
  simp [hk]
theorem value_one {e a : Ex} {va : Val} {row : List Val} (hk : e.kind = 10 ∨ e.kind = 11) (hks : e.kids = [a]) (ha : callA C0 67 [.i (.iref a.cells), .i (.isl (valsL row))] [] = some (.i (.agg [.bool va.null, .int va.n]), [])) :
    callA C0 67 [.i (.iref e.cells), .i (.isl (valsL row))] [] = some (.i (.agg [.bool (evN row e.kind e.col e.val [va]).null, .int (evN row e.kind e.col e.val [va]).n]), []) := by
  rw [callA_eq rfl Try.func67 rfl rfl, Ex.cells_eq, hks]
  have w : IntKind.i64.wrap (2 - Val.tr ⟨va.null, va.n⟩) = 2 - Val.tr ⟨va.null, va.n⟩ := by
    have := tr_b ⟨va.null, va.n⟩
    exact wrap64 (by omega) (by omega)
  rcases hk with hk | hk
  · simp [hk, Ex.cellsL, ha, w, evN]
  · simp [hk, Ex.cellsL, ha, evN]
theorem value_two {e a b : Ex} {va vb : Val} {row : List Val} (h1 : e.kind ≠ 1) (h2 : e.kind ≠ 2) (h3 : e.kind ≠ 10) (h4 : e.kind ≠ 11) (hks : e.kids = [a, b]) (oa : va.ok = true) (ob : vb.ok = true) (ha : callA C0 67 [.i (.iref a.cells), .i (.isl (valsL row))] [] = some (.i (.agg [.bool va.null, .int va.n]), []))
    (hb : callA C0 67 [.i (.iref b.cells), .i (.isl (valsL row))] [] = some (.i (.agg [.bool vb.null, .int vb.n]), [])) :
    callA C0 67 [.i (.iref e.cells), .i (.isl (valsL row))] [] = some (.i (.agg [.bool (evN row e.kind e.col e.val [va, vb]).null, .int (evN row e.kind e.col e.val [va, vb]).n]), []) := by
  rw [callA_eq rfl Try.func67 rfl rfl, Ex.cells_eq, hks]
  have hc := combined_eq e.kind va vb oa ob
  simp [h1, h2, h3, h4, Ex.cellsL, ha, hb, hc, evN]
theorem kindCases {e : Ex} {w : Int} (h : e.wf w = true) : (e.kind = 1 ∧ e.kids = []) ∨ (e.kind = 2 ∧ e.kids = []) ∨ ((e.kind = 10 ∨ e.kind = 11) ∧ ∃ a, e.kids = [a]) ∨ (e.kind ≠ 1 ∧ e.kind ≠ 2 ∧ e.kind ≠ 10 ∧ e.kind ≠ 11 ∧ ∃ a b, e.kids = [a, b]) := by
  rw [Ex.wf_eq] at h
  simp at h
  have hl := h.1
  rcases kidsCases e.kind with k | k | k | k | k | k | k | k | k | k | k | ⟨h1, h2, h3, h4, h5, h6, h7, h8, h9, h10, h11⟩
  case inr.inr.inr.inr.inr.inr.inr.inr.inr.inr.inr =>
    have : kidsK e.kind = -1 := by unfold kidsK; rw [if_neg (by omega), if_neg (by omega), if_neg (by omega)]
    omega
  all_goals (rw [k] at hl; simp [kidsK] at hl; simp [k])
  all_goals first
    | exact hl
    | (cases hk : e.kids with
       | nil => rw [hk] at hl; simp at hl
       | cons a r => cases r with
         | nil => first | exact ⟨a, rfl⟩ | (rw [hk] at hl; simp at hl)
         | cons b r => cases r with
           | nil => first | exact ⟨a, b, rfl⟩ | (rw [hk] at hl; simp at hl)
           | cons c r => rw [hk] at hl; simp at hl; omega)
theorem value_eq {m : Int} (row : List Val) (hm : m = row.length) (hr : row.all Val.ok = true) : ∀ (e : Ex), e.wf m = true → callA C0 67 [.i (.iref e.cells), .i (.isl (valsL row))] [] = some (.i (.agg [.bool (e.ev row).null, .int (e.ev row).n]), []) := by
  intro e
  induction e using Ex.ind with
  | h k c v ks ih =>
    intro h
    rcases kindCases h with ⟨k1, ck⟩ | ⟨k1, ck⟩ | ⟨k1, a, ck⟩ | ⟨k1, k2, k3, k4, a, b, ck⟩
    · obtain ⟨h0, h1, _⟩ := Ex.wf_col h k1
      have hi : c.toNat < row.length := by simp [Ex.col] at h0 h1; omega
      have hb := List.getElem?_eq_getElem hi
      have := value_col (e := .mk k c v ks) (row := row) k1 h0 hb
      rw [this]
      simp [Ex.kind] at k1
      simp [Ex.ev, evN, k1, hb]
    · rw [value_const k1]
      simp [Ex.kind] at k1
      simp [Ex.ev, evN, k1, Ex.val]
    · have ck' : ks = [a] := ck
      subst ck'
      have hw := Ex.wf_kids h (k := a) (by simp [Ex.kids])
      have := value_one k1 ck (ih a (by simp) hw)
      simpa [Ex.ev, Ex.evL, Ex.kind, Ex.col, Ex.val] using this
    · have ck' : ks = [a, b] := ck
      subst ck'
      have hwa := Ex.wf_kids h (k := a) (by simp [Ex.kids])
      have hwb := Ex.wf_kids h (k := b) (by simp [Ex.kids])
      have := value_two (e := .mk k c v [a, b]) k1 k2 k3 k4 ck (ev_ok row hm hr a hwa) (ev_ok row hm hr b hwb) (ih a (by simp) hwa) (ih b (by simp) hwb)
      simpa [Ex.ev, Ex.evL, Ex.kind, Ex.col, Ex.val] using this
def VR (row : List Val) (i : Nat) : AS :=
  { env := [(0, .i (.isl (valsL row))), (2, .bool false), (4, if i = 0 then .junk else .own 0 0), (8, .bool false), (9, .i (.isl (valsL row))), (10, .int row.length), (11, .int i), (12, jk i (.bool true)), (17, jk i (.bool false))],
    st := if i = 0 then [] else [some (.box [.bool ((row[i - 1]?).getD Val.zero).null, .int ((row[i - 1]?).getD Val.zero).n])] }
theorem validRow_eq (row : List Val) (hl : row.length < 1000000000) : callA C0 66 [.i (.isl (valsL row))] [] = some (.bool (okRow row), []) := by
  rw [callA_eq rfl Try.func66 rfl rfl]
  cases hw : okWidth row.length with
  | false => simp [hw, okRow]
  | true =>
    simp [hw, okRow]
    obtain ⟨j, h1, h2⟩ := upto_bad Val.ok row
    rw [loop_to (VR row) j (by simp [VR])]
    · rw [execA_loop]
      rcases h2 with ⟨hj, ha⟩ | ⟨v, h3, h4, h5, ha⟩
      · by_cases h0 : j = 0
        · have : row.length = 0 := by omega
          have : row = [] := List.length_eq_zero_iff.1 this
          subst this; subst h0
          simp [VR, valsL]
        · have hz : row.length ≠ 0 := by omega
          simp [VR, hj, ha, hz]
      · have r1 := (List.getElem?_eq_some_iff.1 h3).1
        have r2 := valsL_nth h3
        have r3 : Val.ok ⟨v.null, v.n⟩ = false := h5
        by_cases h0 : j = 0
        · subst h0; simp [VR, r1, r2, r3, ha]
        · simp [VR, h0, r1, r2, r3, ha]
    · intro i hi
      obtain ⟨v, h3, h4, h5⟩ := h1 i hi
      have r1 := (List.getElem?_eq_some_iff.1 h3).1
      have r2 := valsL_nth h3
      have r3 : Val.ok ⟨v.null, v.n⟩ = true := h5
      obtain ⟨_, hv⟩ := List.getElem?_eq_some_iff.1 h3
      have w2 : IntKind.i64.wrap ((i : Int) + 1) = i + 1 := wrap64 (by omega) (by omega)
      by_cases h0 : i = 0
      · subst h0; simp [VR, r1, r2, r3, hv, wrap_1]
      · simp [VR, h0, r1, r2, r3, hv, w2]
theorem EvalExpr_eq (e : Ex) (row : List Val) (hl : row.length < 1000000000) : callA C0 36 [.i (.agg e.cells), .i (.isl (valsL row))] [] = some (if (okRow row && e.ok row.length) = true then .tup [.i (.agg [.bool (e.ev row).null, .int (e.ev row).n]), .bool true] else .tup [.i (.agg [.bool false, .int 0]), .bool false], []) := by
  rw [callA_eq rfl Try.func36 rfl rfl]
  have h1 := validRow_eq row hl
  have h2 := ok_eq row.length e
  cases hr : okRow row with
  | false =>
    rw [hr] at h1
    rw [Ex.cells_eq]
    simp [h1]
  | true =>
    rw [hr] at h1
    cases he : e.ok row.length with
    | false =>
      rw [he] at h2
      rw [Ex.cells_eq] at h2 ⊢
      simp [h1, h2]
    | true =>
      rw [he] at h2
      have hrow : row.all Val.ok = true := by simp [okRow] at hr; simpa using hr.2
      have hwf : e.wf row.length = true := by simp [Ex.ok, Ex.vB_eq] at he; exact he.2.1
      have h3 := value_eq (m := row.length) row rfl hrow e hwf
      rw [Ex.cells_eq] at h2 h3 ⊢
      simp [h1, h2, h3]
end Go.Proofs.Ytgpclhjdfdojhaa

/- The law on substitution and evaluation. No condition. -/
namespace Go.Av
def rowV (m : Nat) (w : Nat) : List Val := (List.range w).map fun (i : Nat) => ⟨false, Int.tmod ((m : Int) + (i : Int)) 5 - 1⟩
@[simp] theorem rowV_length (m w : Nat) : (rowV m w).length = w := by simp [rowV]
theorem rowV_succ (m w : Nat) : rowV m (w + 1) = rowV m w ++ [⟨false, Int.tmod (m + w) 5 - 1⟩] := by simp [rowV, List.range_succ]
theorem rowV_ok (m w : Nat) : (rowV m w).all Val.ok = true := by
  rw [List.all_eq_true]; intro v hv
  simp [rowV] at hv
  obtain ⟨i, hi, rfl⟩ := hv
  have := Int.tmod_nonneg (a := (m : Int) + i) 5 (by omega)
  have := Int.tmod_lt_of_pos ((m : Int) + i) (b := 5) (by omega)
  simp [Val.ok]; omega
end Go.Av
namespace Go.Proofs.Ytgpclhjdfdojhaa
open Go Go.Av
set_option maxRecDepth 4000
set_option maxHeartbeats 1000000
def B1 (code more : List UInt8) (e : Ex) (l : List Ex) (w : Nat) (v12 v13 v14 v15 v16 v17 v74 v91 v104 : AV) : List (Nat × AV) :=
  [(0, .i (.isl (bytesI code))), (1, .i (.isl (bytesI more))), (4, .bool false), (5, .own 0 0), (6, .i (.isl (Ex.cellsL l))), (7, .int w), (8, .own 1 0), (9, .bool true), (10, .own 2 0), (11, .bool true), (12, v12), (13, v13), (14, v14), (15, v15), (16, v16), (17, v17), (18, .junk), (19, .junk), (20, .junk), (21, .junk), (29, .bool false), (62, .bool false), (74, v74), (91, v91), (104, v104)]
def Y1 (code more : List UInt8) (e : Ex) (l : List Ex) (w : Nat) (i : Nat) : AS :=
  { env := B1 code more e l w (.osl 3 2 0 i) (.int i) .junk .junk .junk .junk (jk i (.bool true)) .junk .junk, st := [some (.box (impI e.cells)), some (.box (impI (e.sub l).cells)), some (.box (impI (e.sub l).cells)), some (.arr 2 (valsL (rowV more.length i)))] }
def Y2 (code more : List UInt8) (e : Ex) (l : List Ex) (w : Nat) (row vals : List Val) (i : Nat) : AS :=
  { env := B1 code more e l w (.osl 3 2 0 w) (.int w) (.osl 4 2 0 i) (.int i) (if i = 0 then .junk else .own 5 0) (jk i (.bool true)) (.bool false) (jk i (.bool true)) (jk i (.bool false)),
    st := some (.box (impI e.cells)) :: some (.box (impI (e.sub l).cells)) :: some (.box (impI (e.sub l).cells)) :: (if i = 0 then some (.arr 2 (valsL row)) else some (.frz 2 (valsL row))) :: some (.arr 2 (valsL (vals.take i))) :: if i = 0 then [] else [some (.box [.bool ((vals[i - 1]?).getD Val.zero).null, .int ((vals[i - 1]?).getD Val.zero).n])] }
theorem law_sub (code more : List UInt8) : callA C0 9 [.i (.isl (bytesI code)), .i (.isl (bytesI more))] [] = some (.bool true, []) := by
  by_cases hc : (1048576 : Int) < code.length
  · rw [callA_eq rfl Try.func9 rfl rfl]
    simp [bytesI_length, hc]
  by_cases hm : (1048576 : Int) < more.length
  · rw [callA_eq rfl Try.func9 rfl rfl]
    simp [bytesI_length, hc, hm]
  obtain ⟨e, l, w, hd, hs, hl, hb⟩ := draw_eq code
  have h1 := isub_eq e l w
  have h2 := ssub_eq e l w
  have h3 := equalExprs_eq (getE (e.subst l w)) getE_thin (getE (e.subst l w))
  rw [Ex.eqb_refl] at h3
  rw [callA_eq rfl Try.func9 rfl rfl]
  cases ho : e.subst l w with
  | none =>
    rw [ho] at h1 h2 h3
    simp at h1 h2
    simp [bytesI_length, hc, hm, hd, h1, h2, h3]
  | some x =>
    rw [ho] at h1 h2 h3
    simp [getE] at h1 h2 h3
    simp [bytesI_length, hc, hm, hd, h1, h2, h3]
    have hok : e.ok l.length = true ∧ l.all (Ex.ok w) = true ∧ (e.sub l).ok w = true ∧ x = e.sub l := by
      unfold Ex.subst at ho
      split at ho
      · rename_i h; simp at h; injection ho with ho; exact ⟨h.1, List.all_eq_true.2 h.2.1, h.2.2, ho.symm⟩
      · cases ho
    obtain ⟨o1, o2, o3, rfl⟩ := hok
    have hw6 : 1 ≤ w ∧ w ≤ 6 := by
      cases l with
      | nil => simp [Ex.ok, okWidth] at o1
      | cons b l => simp [Ex.ok, okWidth] at o2; omega
    obtain ⟨n, rfl⟩ : ∃ n : Nat, w = n := ⟨w.toNat, by omega⟩
    rw [loop_to (Y1 code more e l n) n (by simp [Y1, B1, rowV, valsL])]
    · rw [execA_loop]
      have hT : (valsL (rowV more.length n)).take n = valsL (rowV more.length n) := List.take_of_length_le (by simp)
      simp [Y1, B1]
      have hrow : okRow (rowV more.length n) = true := by simp [okRow, okWidth, hw6]; exact List.all_eq_true.1 (rowV_ok more.length n)
      have hev : ∀ x : Ex, x.ok n = true → callA C0 36 [.i (.agg x.cells), .i (.isl (valsL (rowV more.length n)))] [] = some (.tup [.i (.agg [.bool (x.ev (rowV more.length n)).null, .int (x.ev (rowV more.length n)).n]), .bool true], []) := by
        intro x hx
        have := EvalExpr_eq x (rowV more.length n) (by simp; omega)
        rw [this]; simp [hrow, hx]
      have hT' : (rowV more.length n).take n = rowV more.length n := List.take_of_length_le (by simp)
      rw [loop_to (Y2 code more e l n (rowV more.length n) (l.map (Ex.ev (rowV more.length n)))) l.length (by simp [Y2, B1, valsL])]
      · rw [execA_loop]
        have hz : l.length ≠ 0 := by
          intro h0; rw [List.length_eq_zero_iff.1 h0] at o1; simp [Ex.ok, okWidth] at o1
        have hvals : okRow (l.map (Ex.ev (rowV more.length n))) = true := by
          have h1 : (l.map (Ex.ev (rowV more.length n))).all Val.ok = true := by
            rw [List.all_eq_true]; intro v hv
            obtain ⟨b, hb1, rfl⟩ := List.mem_map.1 hv
            have hb2 := List.all_eq_true.1 o2 b hb1
            simp [Ex.ok, Ex.vB_eq] at hb2
            exact ev_ok (m := n) _ (by simp) (rowV_ok _ _) b hb2.2.1
          have h2 : okWidth l.length = true := by simp [Ex.ok] at o1; exact o1.1
          simp only [okRow, List.length_map, h1, h2, Bool.and_self]
        have hB := EvalExpr_eq e (l.map (Ex.ev (rowV more.length n))) (by simp; omega)
        simp only [hvals, List.length_map, o1, Bool.and_self, if_true] at hB
        have hA := hev (e.sub l) o3
        have hwf : e.wf l.length = true := by simp [Ex.ok, Ex.vB_eq] at o1; exact o1.2.1
        rw [ev_sub (m := l.length) l rfl _ e hwf] at hA
        have hT3 : (l.map (Ex.ev (rowV more.length n))).take l.length = l.map (Ex.ev (rowV more.length n)) := List.take_of_length_le (by simp)
        have hvl : (l.map (Ex.ev (rowV more.length n))).length = l.length := by simp
        generalize l.map (Ex.ev (rowV more.length n)) = vals at hA hB hT3 hvl
        simp [Y2, B1, hz, hT', hT3, hA, hB, hvl]
      · intro i hi
        have w2 : IntKind.i64.wrap ((i : Int) + 1) = i + 1 := wrap64 (by omega) (by omega)
        have h3 := List.getElem?_eq_getElem hi
        have r2 := Ex.cellsL_nth h3
        have hx := hev l[i] (List.all_eq_true.1 o2 _ (List.getElem_mem hi))
        have hv : (l.map (Ex.ev (rowV more.length n)))[i]? = some (l[i].ev (rowV more.length n)) := by simp [h3]
        have hsn := take_snoc hv
        generalize l[i] = b at h3 r2 hx hv hsn
        generalize l.map (Ex.ev (rowV more.length n)) = vals at hv hsn
        have hlv : i < vals.length := (List.getElem?_eq_some_iff.1 hv).1
        by_cases h0 : i = 0
        · subst h0; simp [Y2, B1, hi, r2, hx, hT', wrap_1, hv, hsn, valsL]
        · simp [Y2, B1, h0, hi, r2, hx, hT', w2, hv, hsn, valsL_snoc, show (i + 1) * 16 ≤ 140737488355328 by omega, show min i vals.length = i by omega, List.take_take]
    · intro i hi
      have w2 : IntKind.i64.wrap ((i : Int) + 1) = i + 1 := wrap64 (by omega) (by omega)
      have w3 : IntKind.i64.wrap ((more.length : Int) + i) = more.length + i := wrap64 (by omega) (by omega)
      have b1 := Int.tmod_nonneg (a := (more.length : Int) + i) 5 (by omega)
      have b2 := Int.tmod_lt_of_pos ((more.length : Int) + i) (b := 5) (by omega)
      have w4 : IntKind.i64.wrap (((more.length : Int) + i).tmod 5 - 1) = ((more.length : Int) + i).tmod 5 - 1 := wrap64 (by omega) (by omega)
      have hT : (rowV more.length i).take i = rowV more.length i := List.take_of_length_le (by simp)
      simp [Y1, B1, hi, w2, w3, w4, bytesI_length, rowV_succ, valsL_snoc, hT, show (i + 1) * 16 ≤ 140737488355328 by omega]
end Go.Proofs.Ytgpclhjdfdojhaa

/- Part 9 of what the proof rests on: the executor and what it is worth, and the program's functions as it runs them. No condition. -/
import Derived.Test.YteihcffblfdgfaaT8
set_option linter.unusedVariables false
set_option linter.unusedSimpArgs false
/- The copy of a plan: its contract. No condition. -/
namespace Go.Proofs.Yteihcffblfdgfaa.G
open Go Go.Av
set_option maxRecDepth 4000
set_option maxHeartbeats 8000000
def jj : List (Nat × AV) := [(4, .junk), (5, .junk), (6, .junk), (7, .junk), (14, .junk), (38, .junk), (39, .junk), (40, .junk), (76, .junk), (77, .junk), (78, .junk)]
theorem stTrue : Stab (fun _ _ _ => True) := fun _ _ _ _ _ _ _ _ => trivial
theorem wrap_1p : IntKind.i64.wrap 1 = 1 := wrap64 (by omega) (by omega)
/-- The pointers that have been put on the worklist. -/
def RWp (init : PL) (b' i : Nat) : List (List IV) := rowsP init ++ (List.range i).map fun j => [ptr (b', j * 5)]
theorem RWp_len (init : PL) (b' i : Nat) : (RWp init b' i).length = init.length + i := by simp [RWp, rowsP]
theorem RWp_succ (init : PL) (b' i : Nat) : RWp init b' i ++ [[ptr (b', i * 5)]] = RWp init b' (i + 1) := by simp [RWp, List.range_succ]
theorem kidsP_rows (b : Nat) : ∀ (o : Nat) (l : List Pn), rowsP (kidsP b o l) = (List.range l.length).map fun j => [ptr (b, o + j * 5)]
  | _, [] => by simp [kidsP, rowsP]
  | o, a :: l => by
    have ih := kidsP_rows b (o + 5) l
    simp only [rowsP] at ih ⊢
    simp only [kidsP, List.map_cons, ih, List.length_cons, List.range_succ_eq_map, List.map_map]
    simp only [List.cons.injEq, Nat.zero_mul, Nat.add_zero, true_and]
    apply List.map_congr_left
    intro j _
    simp only [Function.comp, Nat.succ_eq_add_one]
    rw [show o + 5 + j * 5 = o + (j + 1) * 5 by omega]
theorem kidsP_len (b : Nat) : ∀ (o : Nat) (l : List Pn), (kidsP b o l).length = l.length
  | _, [] => rfl
  | o, a :: l => by simp [kidsP, kidsP_len b (o + 5) l]
theorem kidsP_sum (b : Nat) : ∀ (o : Nat) (l : List Pn), ((kidsP b o l).map fun k => k.2.size).sum = Pn.sizeL l
  | _, [] => by simp [kidsP, Pn.sizeL]
  | o, a :: l => by simp [kidsP, Pn.sizeL, kidsP_sum b (o + 5) l]
theorem kidsP_mem {b : Nat} : ∀ {o : Nat} {l : List Pn}, ∀ q ∈ kidsP b o l, q.2 ∈ l ∧ q.1.1 = b
  | _, [], q, h => by simp [kidsP] at h
  | o, a :: l, q, h => by
    simp only [kidsP, List.mem_cons] at h
    rcases h with rfl | h
    · simp
    · have := kidsP_mem q h; exact ⟨by simp [this.1], this.2⟩
def iE (es : List Ex) : Nat := if es.length = 0 then 100 else 3
def lE (es : List Ex) : StL := if es.length = 0 then [] else [some (.arr 5 (Ex.cellsL es))]
def iC (es : List Ex) (cs : List Int) : Nat := if cs.length = 0 then 101 else 3 + (lE es).length
def lC (es : List Ex) (cs : List Int) : StL := if cs.length = 0 then lE es else lE es ++ [some (.arr 1 (intsL cs))]
def iK (es : List Ex) (cs : List Int) (ks : List Pn) : Nat := if ks.length = 0 then 102 else 3 + (lC es cs).length
def lK (es : List Ex) (cs : List Int) (ks : List Pn) : StL := if ks.length = 0 then lC es cs else lC es cs ++ [some (.arr 5 (Pn.cellsL ks))]
def YP (b3 n o : Nat) (ES : List (List IV)) (init : PL) (b' nk : Nat) (cells : List AV) (i : Nat) : AS :=
  { env := EV b3 (if i = 0 then .osl 1 1 0 n else .osl 3 1 0 (n + i)) (.own 2 o) .junk (jk i (.int (i - 1))) (.bool true) .junk .junk .junk (.int nk) (.int i) (jk i (.bool true)),
    st := some (.box zp) :: (if i = 0 then some (.arr 1 ES) else none) :: some (.box cells) :: (if i = 0 then [] else [some (.arr 1 (RWp init b' i))]) }
theorem stOf_last (a b c : Option Blk) : ∀ (l : StL) {x : Option Blk}, stOf (a :: b :: c :: (l ++ [x])) (3 + l.length) = x := by
  intro l x
  rw [stOf_get]
  have : (a :: b :: c :: (l ++ [x]))[3 + l.length]? = some x := by
    rw [show 3 + l.length = l.length + 1 + 1 + 1 by omega]
    simp
  rw [this]; rfl
theorem copiedP_calls {p : Pn} (hsz : p.size < 1000000000) (hth : p.thin) (hty : p.tiny) {wi : World} {mi : Mem} {φ : Pl} {vs : List Value} (hi : Inv wi mi φ (stOf [])) (hr : RepL mi φ [.i (.iref p.cells)] vs) (h0 : ∀ id, φ id ≠ none → id < 0) :
    Calls Try.prog 41 vs.toArray wi (CallPost wi mi φ (.i (.agg p.cells)) []) := by
  obtain rfl : φ = fun _ => none := by
    funext id
    cases h : φ id with
    | none => rfl
    | some p => exact absurd (h0 id (by rw [h]; simp)) (Nat.not_lt_zero _)
  refine calls_of_wp (fn := Try.f41) Try.func41 rfl ?_
  have hv1 : vs.length = 1 := by simpa using hr.length.symm
  have g0 : GR wi mi 91 (fun id => id < ({ env := [(0, .i (.iref p.cells))], st := [] } : AS).st.length) (fun _ _ _ => True) (envOf [(0, .i (.iref p.cells))]) (stOf []) { tmps := vs.toArray ++ Array.replicate (91 - vs.toArray.size) undef, defers := [] } wi := by
    refine ⟨⟨mi, fun _ => none, hi, ?_, .refl _ _ _, fun id h => absurd rfl h, trivial⟩, by simp; omega, rfl⟩
    intro t
    have := enter_rep (m := mi) (φ := fun _ => none) (91 - vs.toArray.size) hr t
    cases t with
    | zero => simpa [envOf, argAt] using this
    | succ t => simp only [envOf]; simp; exact .junk _
  refine wp_seq (wp_mono (GR.codeA sound2 (G := GS 41) (S := { env := [(0, .i (.iref p.cells))], st := [] }) (e := .normal) (S' := { env := [(0, .i (.iref p.cells)), (2, .own 0 0), (3, .junk)] ++ jj, st := [some (.box zp)] }) stTrue (by kernel_rfl) (by simp [zp, jj]) g0) ?_)
  rintro _ a1 w1 ⟨rfl, g1⟩
  refine wp_seq (wp_mono (GR.codeA sound2 (G := GS 41) (S := { env := [(0, .i (.iref p.cells)), (2, .own 0 0), (3, .junk)] ++ jj, st := [some (.box zp)] }) (e := .normal) (S' := { env := [(0, .i (.iref p.cells)), (2, .own 0 0), (3, .own 1 0)] ++ jj, st := [some (.box zp), some (.box (impI p.cells))] }) stTrue (by kernel_rfl) (by rw [Pn.cells_eq]; simp [zp, jj]) g1) ?_)
  rintro _ a2 w2 ⟨rfl, g2⟩
  obtain ⟨b3, g3⟩ := g2.pubP (u := 3) (id := 1) (p := p) (st' := stOf [some (.box zp)]) rfl rfl (by
    intro i blk h
    cases i with
    | zero => simp [stOf] at h; subst h; exact ⟨by omega, rfl, by simp [LitBlk, zp]⟩
    | succ i => simp [stOf] at h)
  have g3 := g3 (envOf [(2, .own 0 0), (3, .i (ptr (b3, 0)))]) (by
    intro t
    simp only [envOf]
    by_cases h2 : t = 2
    · subst h2; exact .inr (.inr ⟨rfl, by simp [envOf, Stays, stOf, jj]⟩)
    · by_cases h3 : t = 3
      · subst h3; exact .inr (.inl ⟨rfl, rfl⟩)
      · simp [h2, h3])
  have g3 := g3.ok' (ok' := fun id => id < ({ env := [(2, .own 0 0), (3, .i (ptr (b3, 0)))], st := [some (.box zp)] } : AS).st.length) (by
    intro i h
    cases i with
    | zero => simp
    | succ i => simp [stOf] at h)
  refine wp_seq (wp_mono (GR.codeA sound2 (G := GS 41) (S := { env := [(2, .own 0 0), (3, .i (ptr (b3, 0)))], st := [some (.box zp)] }) (e := .normal) (S' := SLp b3 [((b3, 0), p)] []) (RAW.stab _ _ _ _ _) (by kernel_rfl) (by simp [SLp, EV, rowsP, ptr, zp]) g3) ?_)
  rintro _ a3 w3 ⟨rfl, g4⟩
  clear g0 g1 g2 g3
  refine wp_seq (wp_block ?_)
  refine wp_loop_n (fun n a w => ∃ (todo X H : PL) (F : List Nat), H.Perm todo ∧ (todo.map fun k => k.2.size).sum = n ∧ n < 1000000000 ∧ (∀ q ∈ todo, q.2.thin ∧ q.2.tiny) ∧ GR wi mi 91 (fun id => id < (SLp b3 todo X).st.length) (RAW wi b3 p F H) (envOf (SLp b3 todo X).env) (stOf (SLp b3 todo X).st) a w) ?_ (n := p.size) ⟨[((b3, 0), p)], [], [((b3, 0), p)], [], .refl _, by simp, hsz, by simpa using ⟨hth, hty⟩, g4⟩
  clear g4
  rintro n a w ⟨todo, X, H, F, hperm, hsum, hn, hall, g⟩
  rcases List.eq_nil_or_concat todo with rfl | ⟨init, k, rfl⟩
  · obtain rfl := List.perm_nil.1 hperm
    refine wp_mono (GR.codeA sound2 (G := GS 41) (S := SLp b3 [] X) (e := .exit 0) (S' := { env := EV b3 (.osl 1 1 0 0) .junk .junk .junk (.bool false) .junk .junk .junk .junk .junk .junk, st := [some (.box zp), some (.arr 1 (rowsP X))] }) (RAW.stab _ _ _ _ _) (by kernel_rfl) (by simp [SLp, EV, zp]) g) ?_
    rintro _ a5 w5 ⟨rfl, g5⟩
    simp only [exitOf, Exit.then, Exit.inBlock, if_true]
    have g6 := g5.fin (u := 3) (by
      intro i blk h
      rcases i with _ | _ | i
      · simp [stOf] at h; subst h; simp [LitBlk, zp]
      · simp [stOf] at h; subst h; exact ptr_lits X
      · simp [stOf] at h) rfl (env' := envOf [(2, .own 0 0), (3, .i (.iref p.cells))]) (by
      intro t
      simp only [envOf]
      by_cases h2 : t = 2
      · subst h2; exact .inr (.inr ⟨rfl, by simp [envOf, EV, Stays, stOf]⟩)
      · by_cases h3 : t = 3
        · subst h3; exact .inr (.inl ⟨rfl, rfl⟩)
        · simp [h2, h3])
    refine wp_mono (GR.codeA sound2 (G := GS 41) (S := { env := [(2, .own 0 0), (3, .i (.iref p.cells))], st := [some (.box zp), some (.arr 1 (rowsP X))] }) (e := .ret) (S' := { env := [(0, .junk), (2, .own 0 0), (3, .i (.iref p.cells))] ++ jj, st := [some (.box (impI p.cells)), some (.arr 1 (rowsP X))] }) stTrue (by kernel_rfl) (by rw [Pn.cells_eq]; simp [zp, jj]) g6) ?_
    rintro _ a6 w6 ⟨rfl, g7⟩
    obtain ⟨⟨m, φ, q1, q2, q3, q4, q5⟩, q6, q7⟩ := g7
    obtain ⟨v, k1, k2⟩ := finish_sound (C := C2) (fn := Try.f41) (keep := false) (na := 0) (S := { env := [(0, .junk), (2, .own 0 0), (3, .i (.iref p.cells))] ++ jj, st := [some (.box (impI p.cells)), some (.arr 1 (rowsP X))] }) (r := .i (.agg p.cells)) (stl' := []) (fun id h => absurd rfl h) ⟨⟨⟨m, φ, q1, q2, q3, q4, .nil _ _ _⟩, q6, q7⟩, Nat.zero_le _⟩ (by
      show finish C2 false [ResultVar.cell 2 27] 0 _ = _
      rw [Pn.cells_eq]
      simp)
    exact ⟨q7, v, k1, k2⟩
  · obtain ⟨⟨b, o⟩, x⟩ := k
    rw [List.concat_eq_append] at hperm hsum hall g
    have hlen : ∀ l : PL, l.length ≤ (l.map fun k => k.2.size).sum := by
      intro l
      induction l with
      | nil => simp
      | cons a l ih => have := Pn.size_pos a.2; simp; omega
    have hil := hlen init
    simp at hsum
    have hq : ((b, o), x) ∈ H := hperm.mem_iff.2 (by simp)
    have hxs := Pn.size_eq x
    have hkl := Pn.sizeL_length x.kids
    have hpos : (0 : Int) < (init.length : Int) + 1 := by omega
    have w1 : IntKind.i64.wrap (init.length : Int) = init.length := wrap64 (by omega) (by omega)
    generalize hES : rowsP (init ++ [((b, o), x)] ++ X) = ES at *
    have hnth : nthE ES init.length = some [ptr (b, o)] := by
      rw [nthE_eq, ← hES]; simp [rowsP]
    have hlit : ∀ c ∈ ES.flatten, ∃ v, c = .lit v := by rw [← hES]; exact ptr_lits _
    have htake : ES.take init.length = rowsP init := by rw [← hES]; simp [rowsP]
    have hESl : init.length ≤ ES.length := by rw [← hES]; simp [rowsP]
    have hlt : (init.length : Int) < (init.length : Int) + 1 := by omega
    have hlt2 : (init.length : Int) ≤ (init.length : Int) + 1 := by omega
    obtain ⟨hxt, hxy⟩ := hall ((b, o), x) (by simp)
    simp only at hxt hxy
    refine wp_seq (wp_mono (GR.codeA sound2 (G := GS 41) (S := SLp b3 (init ++ [((b, o), x)]) X) (e := .normal) (S' := { env := EV b3 (.osl 1 1 0 (init.length + 1)) .junk .junk .junk (.bool true) .junk .junk .junk .junk .junk .junk, st := [some (.box zp), some (.arr 1 ES)] }) (RAW.stab _ _ _ _ _) (by kernel_rfl) (by simp only [SLp, hES]; simp [EV, zp, hpos]) g) ?_)
    rintro _ a5 w5 ⟨rfl, g5⟩
    clear g
    refine wp_block ?_
    refine wp_seq (wp_mono (GR.codeA sound2 (G := GS 41) (S := { env := EV b3 (.osl 1 1 0 (init.length + 1)) .junk .junk .junk (.bool true) .junk .junk .junk .junk .junk .junk, st := [some (.box zp), some (.arr 1 ES)] }) (e := .normal) (S' := { env := EV b3 (.osl 1 1 0 (init.length + 1)) (.i (ptr (b, o))) .junk .junk (.bool true) .junk .junk .junk .junk .junk .junk, st := [some (.box zp), some (.arr 1 ES)] }) (RAW.stab _ _ _ _ _) (by kernel_rfl) (by simp only [ptr] at hnth; simp [EV, ptr, zp, hnth, w1, hlt]) g5) ?_)
    rintro _ a6 w6 ⟨rfl, g6⟩
    clear g5
    refine wp_seq (wp_mono (GR.codeA sound2 (G := GS 41) (S := { env := EV b3 (.osl 1 1 0 (init.length + 1)) (.i (ptr (b, o))) .junk .junk (.bool true) .junk .junk .junk .junk .junk .junk, st := [some (.box zp), some (.arr 1 ES)] }) (e := .normal) (S' := { env := EV b3 (.osl 1 1 0 init.length) (.i (ptr (b, o))) .junk .junk (.bool true) .junk .junk .junk .junk .junk .junk, st := [some (.box zp), some (.arr 1 ES)] }) (RAW.stab _ _ _ _ _) (by kernel_rfl) (by simp [EV, ptr, zp, w1, hlt2]) g6) ?_)
    rintro _ a7 w7 ⟨rfl, g7⟩
    clear g6
    obtain ⟨pre, post, us, ma, e1, e2, e3, e4, e5, g8⟩ := g7.adopt (u := 5) (y := x) rfl (by simp) hq rfl
    clear g7
    rw [envEV, stOf_upd2] at g8
    subst e3
    obtain ⟨kd, tb, es, cs, ks⟩ := x
    obtain ⟨t1, t2, t3, t4, t5⟩ := (Pn.thin_iff _).1 hxt
    obtain ⟨y1, y2⟩ := (Pn.tiny_iff _).1 hxy
    simp only [Pn.kids_mk, Pn.exprs_mk, Pn.cols_mk] at t1 t2 t3 t4 t5 y1 y2 hxs hkl
    rw [Pn.cells_mk] at g8
    have hst := ADP.stab wi b3 p F H b us w7 ma
    -- the expressions
    refine wp_seq (wp_mono (GR.codeA sound2 (G := GS 41) (S := SRp b3 init.length pre.length ES .junk .junk (.bool true) .junk .junk .junk .junk .junk .junk (boxL pre [.int kd, .int tb, .i (.isl (Ex.cellsL es)), .i (.isl (intsL cs)), .i (.isl (Pn.cellsL ks))] post) []) (e := .normal) (S' := SRp b3 init.length pre.length ES .junk .junk (.bool true) .junk .junk .junk .junk .junk .junk (boxL pre [.int kd, .int tb, slA es.length (iE es) 5, .i (.isl (intsL cs)), .i (.isl (Pn.cellsL ks))] post) (lE es)) hst (by kernel_rfl) (by
      by_cases he : es = []
      · subst he
        simp [SRp, EV, zp, tkB2, splB2, idsOfL_boxL, renL_boxL, Ex.cellsL, cE_nil, slA, lE]
      · have hel : es.length ≠ 0 := fun h => he (List.length_eq_zero_iff.1 h)
        simp [SRp, EV, zp, tkB2, splB2, idsOfL_boxL, renL_boxL, cE_some he t1, slA, lE, iE, he]) (g8.ok' fun id h => by simp at h ⊢; simp [SRp]; omega)) ?_)
    rintro _ a9 w9 ⟨rfl, g9⟩
    clear g8
    -- their copies
    refine wp_seq (wp_mono (GR.codeX sound2 (G := GS 41) (S := SRp b3 init.length pre.length ES .junk .junk (.bool true) .junk .junk .junk .junk .junk .junk (boxL pre [.int kd, .int tb, slA es.length (iE es) 5, .i (.isl (intsL cs)), .i (.isl (Pn.cellsL ks))] post) (lE es)) hst
      (PP := fun e S' => e = .normal ∧ ∃ v6 v38 v39 v40, S' = SRp b3 init.length pre.length ES v6 .junk (.bool true) v38 v39 v40 .junk .junk .junk (boxL pre [.int kd, .int tb, slA es.length (iE es) 5, .i (.isl (intsL cs)), .i (.isl (Pn.cellsL ks))] post) (lE es)) (by kernel_rfl) (by
      by_cases he : es = []
      · subst he
        refine ⟨.normal, SRp b3 init.length pre.length ES .junk .junk (.bool true) (.int 0) (.int 0) (.bool false) .junk .junk .junk (boxL pre [.int kd, .int tb, slA 0 (iE []) 5, .i (.isl (intsL cs)), .i (.isl (Pn.cellsL ks))] post) (lE []), ?_, rfl, _, _, _, _, rfl⟩
        simp [SRp, EV, zp, tkB2, splB2, idsOfL_boxL, renL_boxL, slA, lE]
        rw [execA_loop]
        simp [idsOfL_boxL, renL_boxL]
      · have hel : es.length ≠ 0 := fun h => he (List.length_eq_zero_iff.1 h)
        refine ⟨.normal, SRp b3 init.length pre.length ES (.int (es.length - 1)) .junk (.bool true) (.int es.length) (.int es.length) (.bool false) .junk .junk .junk (boxL pre [.int kd, .int tb, slA es.length (iE es) 5, .i (.isl (intsL cs)), .i (.isl (Pn.cellsL ks))] post) (lE es), ?_, rfl, _, _, _, _, rfl⟩
        simp [SRp, EV, zp, tkB2, splB2, idsOfL_boxL, renL_boxL, slA, lE, iE, he]
        rw [loop_to (XS b3 init.length ES pre post kd tb es (.i (.isl (intsL cs))) (.i (.isl (Pn.cellsL ks))) (.bool true)) es.length (by simp [XS, SRp, EV, zp])]
        · rw [execA_loop]
          simp [XS, SRp, EV, zp, tkB2, splB2, idsOfL_boxL, renL_boxL, jk_pos hel]
        · intro i hi
          have h3 := List.getElem?_eq_getElem hi
          have hs := y1 _ (List.mem_of_getElem? h3)
          have r2 := Ex.cellsL_nth h3
          generalize es[i] = a at h3 hs r2
          have hk := cX_row hs r2
          have hput := Ex.cellsL_set h3
          have w2 : IntKind.i64.wrap ((i : Int) + 1) = i + 1 := wrap64 (by omega) (by omega)
          rw [Ex.cells_eq] at r2 hk hput
          simp [XS, SRp, EV, zp, tkB2, splB2, idsOfL_boxL, renL_boxL, hi, r2, hk, w2, hput]) g9) ?_)
    rintro _ a10 w10 ⟨e, S', rfl, ⟨rfl, v6, v38, v39, v40, rfl⟩, g10⟩
    clear g9
    have g10 := (g10.envTo (env' := envOf (SRp b3 init.length pre.length ES .junk .junk (.bool true) .junk .junk .junk .junk .junk .junk (boxL pre [.int kd, .int tb, slA es.length (iE es) 5, .i (.isl (intsL cs)), .i (.isl (Pn.cellsL ks))] post) (lE es)).env) (by
      intro t
      simp only [SRp, EV, envOf]
      by_cases h6 : t = 6
      · subst h6; simp
      by_cases h38 : t = 38
      · subst h38; simp
      by_cases h39 : t = 39
      · subst h39; simp
      by_cases h40 : t = 40
      · subst h40; simp
      · simp [h6, h38, h39, h40]))
    -- the columns
    refine wp_seq (wp_mono (GR.codeA sound2 (G := GS 41) (S := SRp b3 init.length pre.length ES .junk .junk (.bool true) .junk .junk .junk .junk .junk .junk (boxL pre [.int kd, .int tb, slA es.length (iE es) 5, .i (.isl (intsL cs)), .i (.isl (Pn.cellsL ks))] post) (lE es)) (e := .normal) (S' := SRp b3 init.length pre.length ES .junk .junk (.bool true) .junk .junk .junk .junk .junk .junk (boxL pre [.int kd, .int tb, slA es.length (iE es) 5, slA cs.length (iC es cs) 1, .i (.isl (Pn.cellsL ks))] post) (lC es cs)) hst (by kernel_rfl) (by
      by_cases he : es = [] <;> by_cases hc : cs = []
      · subst he; subst hc
        simp [SRp, EV, zp, tkB3, splB3, idsOfL_boxL, renL_boxL, intsL, cI_nil, slA, lE, lC]
      · have hcl : cs.length ≠ 0 := fun h => hc (List.length_eq_zero_iff.1 h)
        subst he
        simp [SRp, EV, zp, tkB3, splB3, idsOfL_boxL, renL_boxL, cI_some hc t3, slA, lE, lC, iC, hc]
      · have hel : es.length ≠ 0 := fun h => he (List.length_eq_zero_iff.1 h)
        subst hc
        simp [SRp, EV, zp, tkB3, splB3, idsOfL_boxL, renL_boxL, intsL, cI_nil, slA, lE, lC, iE, he]
      · have hel : es.length ≠ 0 := fun h => he (List.length_eq_zero_iff.1 h)
        have hcl : cs.length ≠ 0 := fun h => hc (List.length_eq_zero_iff.1 h)
        simp [SRp, EV, zp, tkB3, splB3, idsOfL_boxL, renL_boxL, cI_some hc t3, slA, lE, lC, iE, iC, he, hc]) g10) ?_)
    rintro _ a11 w11 ⟨rfl, g11⟩
    clear g10
    -- the kids
    refine wp_seq (wp_mono (GR.codeA sound2 (G := GS 41) (S := SRp b3 init.length pre.length ES .junk .junk (.bool true) .junk .junk .junk .junk .junk .junk (boxL pre [.int kd, .int tb, slA es.length (iE es) 5, slA cs.length (iC es cs) 1, .i (.isl (Pn.cellsL ks))] post) (lC es cs)) (e := .normal) (S' := SRp b3 init.length pre.length ES .junk .junk (.bool true) .junk .junk .junk .junk .junk .junk (boxL pre [.int kd, .int tb, slA es.length (iE es) 5, slA cs.length (iC es cs) 1, slA ks.length (iK es cs ks) 5] post) (lK es cs ks)) hst (by kernel_rfl) (by
      by_cases he : es = [] <;> by_cases hc : cs = [] <;> by_cases hk : ks = []
      all_goals (try subst he)
      all_goals (try subst hc)
      all_goals (try subst hk)
      · simp [SRp, EV, zp, tkB4, splB4, idsOfL_boxL, renL_boxL, Pn.cellsL, cP_nil, slA, lE, lC, lK]
      · simp [SRp, EV, zp, tkB4, splB4, idsOfL_boxL, renL_boxL, cP_some hk t4, slA, lE, lC, lK, iK, hk]
      · simp [SRp, EV, zp, tkB4, splB4, idsOfL_boxL, renL_boxL, Pn.cellsL, cP_nil, slA, lE, lC, lK, iC, hc]
      · simp [SRp, EV, zp, tkB4, splB4, idsOfL_boxL, renL_boxL, cP_some hk t4, slA, lE, lC, lK, iC, iK, hc, hk]
      · simp [SRp, EV, zp, tkB4, splB4, idsOfL_boxL, renL_boxL, Pn.cellsL, cP_nil, slA, lE, lC, lK, iE, he]
      · simp [SRp, EV, zp, tkB4, splB4, idsOfL_boxL, renL_boxL, cP_some hk t4, slA, lE, lC, lK, iE, iK, he, hk]
      · simp [SRp, EV, zp, tkB4, splB4, idsOfL_boxL, renL_boxL, Pn.cellsL, cP_nil, slA, lE, lC, lK, iE, iC, he, hc]
      · simp [SRp, EV, zp, tkB4, splB4, idsOfL_boxL, renL_boxL, cP_some hk t4, slA, lE, lC, lK, iE, iC, iK, he, hc, hk]) g11) ?_)
    rintro _ a12 w12 ⟨rfl, g12⟩
    clear g11
    obtain ⟨F', H', us', b', cap, vE, vC, m2, hpm, hus, hone, hbn, g13⟩ := g12.relit (u := 5) (st' := stOf [some (.box zp), some (.arr 1 ES)]) (env' := envOf (EV b3 (.osl 1 1 0 init.length) (.own 2 pre.length) .junk .junk (.bool true) .junk .junk .junk .junk .junk .junk)) (idE := iE es) (idC := iC es cs) (idK := iK es cs ks) (oq := pre.length) e1 e2 rfl e4 hq rfl
      (fun h => by simp [SRp, iE, lE, lC, lK, h]; split <;> split <;> simp [stOf])
      (fun h => by simp only [SRp, iC, lC, lK, h, if_false]; cases hh : lE es with
        | nil => split <;> simp [stOf]
        | cons a l =>
          have : l = [] := by unfold lE at hh; split at hh <;> simp_all
          subst this; split <;> simp [stOf])
      (fun h => by simp only [SRp, iK, lK, h, if_false]; exact stOf_last _ _ _ _)
      (by unfold iE iC iK lC lE; repeat' split <;> simp_all)
      (by
        intro i blk h
        rcases i with _ | _ | i
        · simp [stOf] at h; subst h; exact ⟨by omega, rfl, by simp [LitBlk, zp]⟩
        · simp [stOf] at h; subst h; exact ⟨by omega, rfl, hlit⟩
        · simp [stOf] at h)
      (by
        intro t
        simp only [SRp, EV, envOf]
        by_cases h0 : t = 0
        · subst h0; simp
        by_cases h2 : t = 2
        · subst h2; exact .inr ⟨by simp, .inr (by simp [Stays, stOf])⟩
        by_cases h3 : t = 3
        · subst h3; exact .inr ⟨by simp, .inr (by simp [Stays, ptr])⟩
        by_cases h4 : t = 4
        · subst h4; exact .inr ⟨by simp, .inr (by simp [Stays, stOf])⟩
        by_cases h5 : t = 5
        · subst h5; exact .inr ⟨by simp, .inl (by simp)⟩
        by_cases h14 : t = 14
        · subst h14; exact .inr ⟨by simp, .inr (by simp [Stays])⟩
        simp [h0, h2, h3, h4, h5, h14])
    clear g12
    rw [stOf_upd2] at g13
    have hbx : litVs us' = boxL pre [.i (.lit (.int .i64 kd)), .i (.lit (.int .i64 tb)), .i (.lit vE), .i (.lit vC), .i (.lit (if ks.length = 0 then .slice none 0 0 else .slice (some ⟨b', 0, none⟩) ks.length cap))] post := by rw [hus]; simp [boxL, litVs]
    rw [hbx] at g13
    have hst' := ADP.stab wi b3 p F' H' b us' w12 m2
    refine wp_mono (GR.codeX sound2 (G := GS 41) (S := SRp b3 init.length pre.length ES .junk .junk (.bool true) .junk .junk .junk .junk .junk .junk (boxL pre [.i (.lit (.int .i64 kd)), .i (.lit (.int .i64 tb)), .i (.lit vE), .i (.lit vC), .i (.lit (if ks.length = 0 then .slice none 0 0 else .slice (some ⟨b', 0, none⟩) ks.length cap))] post) []) hst'
      (PP := fun e S' => e = .normal ∧ ∃ v7 v76 v77 v78, S' = { env := EV b3 (if ks.length = 0 then .osl 1 1 0 init.length else .osl 3 1 0 (init.length + ks.length)) (.own 2 pre.length) .junk v7 (.bool true) .junk .junk .junk v76 v77 v78, st := some (.box zp) :: (if ks.length = 0 then some (.arr 1 ES) else none) :: some (.box (boxL pre [.i (.lit (.int .i64 kd)), .i (.lit (.int .i64 tb)), .i (.lit vE), .i (.lit vC), .i (.lit (if ks.length = 0 then .slice none 0 0 else .slice (some ⟨b', 0, none⟩) ks.length cap))] post)) :: (if ks.length = 0 then [] else [some (.arr 1 (RWp init b' ks.length))]) }) (by kernel_rfl) (by
      by_cases h0 : ks.length = 0
      · refine ⟨.normal, { env := EV b3 (.osl 1 1 0 init.length) (.own 2 pre.length) .junk .junk (.bool true) .junk .junk .junk (.int 0) (.int 0) (.bool false), st := some (.box zp) :: some (.arr 1 ES) :: some (.box (boxL pre [.i (.lit (.int .i64 kd)), .i (.lit (.int .i64 tb)), .i (.lit vE), .i (.lit vC), .i (.lit (if ks.length = 0 then .slice none 0 0 else .slice (some ⟨b', 0, none⟩) ks.length cap))] post)) :: [] }, ?_, rfl, .junk, .int 0, .int 0, .bool false, by simp [h0]⟩
        simp [SRp, EV, zp, tkB4, idsOfL_boxL, renL_boxL, h0]
        rw [execA_loop]
        simp [idsOfL_boxL, renL_boxL]
      · refine ⟨.normal, { env := EV b3 (.osl 3 1 0 (init.length + ks.length)) (.own 2 pre.length) .junk (.int (ks.length - 1)) (.bool true) .junk .junk .junk (.int ks.length) (.int ks.length) (.bool false), st := some (.box zp) :: none :: some (.box (boxL pre [.i (.lit (.int .i64 kd)), .i (.lit (.int .i64 tb)), .i (.lit vE), .i (.lit vC), .i (.lit (if ks.length = 0 then .slice none 0 0 else .slice (some ⟨b', 0, none⟩) ks.length cap))] post)) :: [some (.arr 1 (RWp init b' ks.length))] }, ?_, rfl, .int (ks.length - 1), .int ks.length, .int ks.length, .bool false, by simp [h0]⟩
        simp only [h0, if_false]
        simp [SRp, EV, zp, tkB4, idsOfL_boxL, renL_boxL]
        rw [loop_to (YP b3 init.length pre.length ES init b' ks.length (boxL pre [.i (.lit (.int .i64 kd)), .i (.lit (.int .i64 tb)), .i (.lit vE), .i (.lit vC), .i (.lit (if ks.length = 0 then .slice none 0 0 else .slice (some ⟨b', 0, none⟩) ks.length cap))] post)) ks.length (by simp [YP, EV, zp, h0])]
        · rw [execA_loop]
          simp [YP, EV, zp, tkB4, idsOfL_boxL, renL_boxL, h0, jk_pos h0]
        · intro i hi
          have w2 : IntKind.i64.wrap ((i : Int) + 1) = i + 1 := wrap64 (by omega) (by omega)
          by_cases hi0 : i = 0
          · subst hi0
            have hR : rowsP init ++ [[.lit (.pointer (some ⟨b', 0, none⟩))]] = RWp init b' 1 := by simp [RWp, ptr]
            have hl : (init.length + 1) * 8 ≤ 140737488355328 := by omega
            simp [YP, EV, zp, tkB4, idsOfL_boxL, renL_boxL, h0, wrap_1p, hi, htake, hR, hl, hESl]
          · have hl : (init.length + i + 1) * 8 ≤ 140737488355328 := by omega
            have hT : (RWp init b' i).take (init.length + i) = RWp init b' i := List.take_of_length_le (by rw [RWp_len]; omega)
            have hR : RWp init b' i ++ [[.lit (.pointer (some ⟨b', i * 5, none⟩))]] = RWp init b' (i + 1) := by simpa [ptr] using RWp_succ init b' i
            simp [YP, EV, zp, tkB4, idsOfL_boxL, renL_boxL, h0, hi0, jk_pos hi0, w2, hi, hT, RWp_len, hl, hR, ← Nat.add_assoc]) (g13.ok' fun id h => by simp [SRp]; omega)) ?_
    rintro _ a13 w13 ⟨e, S', rfl, ⟨rfl, v7, v76, v77, v78, rfl⟩, g14⟩
    clear g13
    simp only [exitOf, Exit.then, Exit.inBlock]
    have hpm2 : H'.Perm (init ++ kidsP b' 0 ks) := by
      have h1 : (((b, pre.length), Pn.mk kd tb es cs ks) :: H').Perm (((b, pre.length), Pn.mk kd tb es cs ks) :: (init ++ kidsP b' 0 ks)) := by
        refine hpm.trans ((hperm.append_right _).trans ?_)
        rw [List.append_assoc]
        exact List.perm_middle
      exact (List.perm_cons _).1 h1
    have hszx : (Pn.mk kd tb es cs ks).size = 1 + Pn.sizeL ks := hxs
    have hall2 : ∀ q ∈ init ++ kidsP b' 0 ks, q.2.thin ∧ q.2.tiny := by
      intro q hq'
      rcases List.mem_append.1 hq' with h | h
      · exact hall q (by simp [h])
      · have := (kidsP_mem q h).1; exact ⟨t5 _ this, y2 _ this⟩
    have hsum2 : ((init ++ kidsP b' 0 ks).map fun k => k.2.size).sum = n - 1 := by
      rw [List.map_append, List.sum_append, kidsP_sum]; omega
    by_cases hk0 : ks.length = 0
    · have hks : ks = [] := List.length_eq_zero_iff.1 hk0
      subst hks
      simp only [List.length_nil, if_true] at g14 hbx
      have g15 := g14.giveback (st' := stOf [some (.box zp), some (.arr 1 ES)]) (env' := envOf (EV b3 (.osl 1 1 0 init.length) .junk .junk .junk .junk .junk .junk .junk .junk .junk .junk)) (by rw [hbx]; rfl) (by
        intro i blk h
        rcases i with _ | _ | i
        · simp [stOf] at h; subst h; exact ⟨by omega, rfl, by simp [LitBlk, zp]⟩
        · simp [stOf] at h; subst h; exact ⟨by omega, rfl, hlit⟩
        · simp [stOf] at h) (by
        intro t
        simp only [EV, envOf]
        by_cases h0 : t = 0
        · subst h0; simp
        by_cases h2 : t = 2
        · subst h2; exact .inr ⟨by simp, by simp [Stays, stOf]⟩
        by_cases h3 : t = 3
        · subst h3; exact .inr ⟨by simp, by simp [Stays, ptr]⟩
        by_cases h4 : t = 4
        · subst h4; exact .inr ⟨by simp, by simp [Stays, stOf]⟩
        simp [h0, h2, h3, h4])
      simp only [kidsP, List.append_nil] at hpm2 hall2 hsum2
      refine ⟨n - 1, by omega, init, [((b, pre.length), Pn.mk kd tb es cs [])] ++ X, H', F', hpm2, hsum2, by omega, hall2, ?_⟩
      have hES2 : rowsP (init ++ ([((b, pre.length), Pn.mk kd tb es cs [])] ++ X)) = ES := by rw [← hES, List.append_assoc]
      simp only [SLp, hES2]
      exact g15.ok' (by
        intro i h
        rcases i with _ | _ | i
        · simp
        · simp
        · simp [stOf] at h)
    · simp only [hk0, if_false] at g14 hbx
      have g15 := g14.giveback (st' := stOf [some (.box zp), none, none, some (.arr 1 (RWp init b' ks.length))]) (env' := envOf [(2, .own 0 0), (3, .i (ptr (b3, 0))), (4, .osl 3 1 0 (init.length + ks.length))]) (by rw [hbx]; rfl) (by
        intro i blk h
        rcases i with _ | _ | _ | _ | i
        · simp [stOf] at h; subst h; exact ⟨by omega, rfl, by simp [LitBlk, zp]⟩
        · simp [stOf] at h
        · simp [stOf] at h
        · simp [stOf] at h; subst h; exact ⟨by omega, rfl, by
            intro c hc
            rw [List.mem_flatten] at hc
            obtain ⟨r, hr1, hr2⟩ := hc
            unfold RWp at hr1
            rcases List.mem_append.1 hr1 with h | h
            · exact ptr_lits init c (List.mem_flatten.2 ⟨r, h, hr2⟩)
            · obtain ⟨j, _, rfl⟩ := List.mem_map.1 h
              simp at hr2; subst hr2; exact ⟨_, rfl⟩⟩
        · simp [stOf] at h) (by
        intro t
        simp only [EV, envOf]
        by_cases h2 : t = 2
        · subst h2; exact .inr ⟨by simp, by simp [Stays, stOf]⟩
        by_cases h3 : t = 3
        · subst h3; exact .inr ⟨by simp, by simp [Stays, ptr]⟩
        by_cases h4 : t = 4
        · subst h4; exact .inr ⟨by simp, by simp [Stays, stOf]⟩
        simp [h2, h3, h4])
      have g16 := g15.settle (fun w m φ ids h => RAW.keep ids h) [2, 3, 4]
      have hs : Av.settle [2, 3, 4] 0 (envOf [(2, .own 0 0), (3, .i (ptr (b3, 0))), (4, .osl 3 1 0 (init.length + ks.length))]) (stOf [some (.box zp), none, none, some (.arr 1 (RWp init b' ks.length))]) = { env := [(2, .own 0 0), (3, .i (ptr (b3, 0))), (4, .osl 1 1 0 (init.length + ks.length))], st := [some (.box zp), some (.arr 1 (RWp init b' ks.length))] } := by
        simp [zp, ptr]
      rw [hs] at g16
      refine ⟨n - 1, by omega, init ++ kidsP b' 0 ks, [], H', F', hpm2, hsum2, by omega, hall2, ?_⟩
      have hR : rowsP (init ++ kidsP b' 0 ks ++ []) = RWp init b' ks.length := by
        rw [List.append_nil]
        have := kidsP_rows b' 0 ks
        simp only [rowsP] at this
        simp only [rowsP, RWp, List.map_append, this, Nat.zero_add]
      have hl : (init ++ kidsP b' 0 ks).length = init.length + ks.length := by rw [List.length_append, kidsP_len]
      simp only [SLp, hR, hl]
      exact g16.envTo (by
        intro t
        simp only [EV, envOf]
        by_cases h0 : t = 0
        · subst h0; simp
        by_cases h2 : t = 2
        · subst h2; simp
        by_cases h3 : t = 3
        · subst h3; simp
        by_cases h4 : t = 4
        · subst h4; simp
        · simp [h0, h2, h3, h4])
end Go.Proofs.Yteihcffblfdgfaa.G

/- The context's ready contracts are right; the first law's contract. No condition. -/
namespace Go.Proofs.Yteihcffblfdgfaa
open Go Go.Av
theorem prim_only {g : FuncId} {q : List AV → StL → Option (AV × StL)} (h : C0.prim g = some q) : (g = 70 ∧ q = copyE) ∨ (g = 41 ∧ q = copyP) := by
  have h : primF g = some q := h
  unfold primF at h
  split at h
  · injection h with h; exact .inl ⟨rfl, h.symm⟩
  · injection h with h; exact .inr ⟨rfl, h.symm⟩
  · cases h
theorem prim0 : PrimOk C0 := by
  constructor
  · intro g args st p h
    unfold primCall at h
    cases hq : C0.prim g with
    | none => rw [hq] at h; cases h
    | some q =>
      rcases prim_only hq with ⟨rfl, rfl⟩ | ⟨rfl, rfl⟩
      · exact ⟨Try.f70, Try.func70, by decide, rfl⟩
      · exact ⟨Try.f41, Try.func41, by decide, rfl⟩
  · intro g args stl r stl' h w m φ vs hi hr h0
    unfold primCall at h
    cases hq : C0.prim g with
    | none => rw [hq] at h; cases h
    | some q =>
      rcases prim_only hq with ⟨rfl, rfl⟩ | ⟨rfl, rfl⟩
      · rw [hq] at h
        obtain ⟨e, he, hres, hor⟩ := copyE_some h
        injection hres with h1 h2
        subst h1; subst h2
        rcases hor with ⟨rfl, rfl⟩ | ⟨j, es, rfl, rfl, hes⟩
        · exact copied_calls he hi hr h0
        · exact copied_row he hes hi hr h0
      · rw [hq] at h
        obtain ⟨p, ⟨k1, k2, k3⟩, rfl, rfl, hres⟩ := copyP_some h
        injection hres with h1 h2
        subst h1; subst h2
        exact G.copiedP_calls k1 k2 k3 hi hr h0
theorem sound0 : SoundOk C0 := sound_ok (C := C0) ft nt eqS mo prim0
end Go.Proofs.Yteihcffblfdgfaa

/- The context of the laws on views: what may be done with boxes and lists that stay the caller's. No condition. -/
namespace Go.Proofs.Yteihcffblfdgfaa
open Go Go.Av
set_option maxRecDepth 4000
noncomputable def primP : FuncId → Option (List AV → StL → Option (AV × StL))
  | 1000000007 => none
  | 3 => none
  | 4 => none
  | 7 => none
  | 24 => none
  | 58 => none
  | 61 => none
  | 8 => none
  | 11 => none
  | 14 => none
  | 60 => some (lookC (callA C0) 60)
  | 28 => some (frz1 (callA C0) 28)
  | 35 => some (frz1 (callA C0) 35)
  | 64 => some (frzO (callA C0) 64)
  | g => some (callA C0 g)
def ownP : FuncId → Bool
  | 60 => true
  | g => ownA g
@[simp] theorem ownP_eq (g : FuncId) : ownP g = if g = 60 then true else ownA g := by
  unfold ownP; split
  · rfl
  · rename_i h; rw [if_neg h]
noncomputable def CP : Ctx := { P := Try.prog, G := GS, ownArgs := ownP, keepRes := keepR, eqT := eqTy, prim := primP }
@[simp] theorem CP_P : CP.P = Try.prog := (rfl)
@[simp] theorem CP_G (f) : CP.G f = GS f := (rfl)
@[simp] theorem CP_o (f) : CP.ownArgs f = ownP f := (rfl)
@[simp] theorem CP_k (f) : CP.keepRes f = keepR f := (rfl)
@[simp] theorem CP_e (f) : CP.eqT f = eqTy f := (rfl)
@[simp] theorem CP_t : CP.tree = false := (rfl)
theorem primP0 : PrimOk CP := by
  have h0 := callA_sound sound0
  have key : ∀ g q, CP.prim g = some q → g ≠ yldF ∧ (q = callA C0 g ∨ q = lookC (callA C0) g ∨ q = frz1 (callA C0) g ∨ q = frzO (callA C0) g) := by
    intro g q h
    have h : primP g = some q := h
    unfold primP at h
    split at h
    all_goals first
      | (cases h; done)
      | (injection h with h; subst h; exact ⟨by decide, .inr (.inl rfl)⟩)
      | (injection h with h; subst h; exact ⟨by decide, .inr (.inr (.inl rfl))⟩)
      | (injection h with h; subst h; exact ⟨by decide, .inr (.inr (.inr rfl))⟩)
      | (injection h with h; subst h; exact ⟨by assumption, .inl rfl⟩)
  constructor
  · intro g args st p h
    unfold primCall at h
    cases hq : CP.prim g with
    | none => rw [hq] at h; cases h
    | some q =>
      rw [hq] at h
      obtain ⟨hy, hor⟩ := key g q hq
      rcases hor with rfl | rfl | rfl | rfl
      · exact h0.name _ _ _ _ hy h
      · exact (look_sound h0 (r := p.1) (stl' := p.2) h hy).1
      · exact (frz1_sound h0 (r := p.1) (stl' := p.2) h hy).1
      · exact (frzO_sound h0 (r := p.1) (stl' := p.2) h hy).1
  · intro g args st r st' h w m φ vs hi hr hb
    unfold primCall at h
    cases hq : CP.prim g with
    | none => rw [hq] at h; cases h
    | some q =>
      rw [hq] at h
      obtain ⟨hy, hor⟩ := key g q hq
      rcases hor with rfl | rfl | rfl | rfl
      · exact h0.calls _ _ _ _ _ hy h w m φ vs hi hr hb
      · exact (look_sound h0 h hy).2 w m φ vs hi hr hb
      · exact (frz1_sound h0 h hy).2 w m φ vs hi hr hb
      · exact (frzO_sound h0 h hy).2 w m φ vs hi hr hb
theorem soundP : SoundOk CP := sound_ok (C := CP) ft nt eqS mo primP0
end Go.Proofs.Yteihcffblfdgfaa

/- FoldView, both ways; the size of a plan. No condition. -/
namespace Go.Av
/-- Whether there is a table of the view's width. -/
def canB (v : Pn) (ws : List Int) (t : Int) : Bool := decide (v.width ws ≠ 0) && (decide (0 ≤ t) && (decide (t < ws.length) && decide (ws[t.toNat]? = some (v.width ws))))
def fvOk (p v : Pn) (ws : List Int) (t : Int) : Bool := decide (p.width ws ≠ 0) && canB v ws t
/-- What FoldView returns. -/
def fvP (p v : Pn) (ws : List Int) (t : Int) : Pn := if fvOk p v ws t = true then foldP v t p else Pn.zero
def fvN (p v : Pn) (ws : List Int) (t : Int) : Int := if fvOk p v ws t = true then cntP v p else -1
def szP (p : Pn) (ws : List Int) : Int := if p.width ws = 0 then 0 else p.size
theorem width_ws {p : Pn} {ws : List Int} (h : p.width ws ≠ 0) : okWs ws = true := by
  unfold Pn.width at h
  exact (ite_ne h).1
theorem okWs_pos {ws : List Int} (h : okWs ws = true) {i : Nat} {w : Int} (hw : ws[i]? = some w) : 1 ≤ w := by
  simp only [okWs, Bool.and_eq_true, List.all_eq_true] at h
  have := h.2 w (List.mem_of_getElem? hw)
  simp [okWidth] at this; omega
end Go.Av
namespace Go.Proofs.Yteihcffblfdgfaa.P
open Go Go.Av
set_option maxRecDepth 4000
set_option maxHeartbeats 4000000
theorem canHold_eq (v : Pn) (ws : List Int) (t : Int) : callA C0 27 [.i (.agg v.cells), .i (.isl (intsL ws)), .int t] [] = some (.bool (canB v ws t), []) := by
  have hv := planWidth_eq v ws
  rw [callA_eq rfl Try.func27 rfl rfl]
  unfold canB
  rw [Pn.cells_eq] at hv ⊢
  by_cases h1 : v.width ws = 0
  · simp [hv, h1]
  by_cases h2 : 0 ≤ t
  case neg => simp [hv, h1, h2]
  by_cases h3 : t < ws.length
  case neg => simp [hv, h1, h2, h3]
  have hlt : t.toNat < ws.length := by omega
  have h4 := List.getElem?_eq_getElem hlt
  generalize ws[t.toNat] = x at h4
  obtain ⟨_, h4'⟩ := List.getElem?_eq_some_iff.1 h4
  have r2 := intsL_nth h4
  by_cases h5 : x = v.width ws
  · simp [hv, h1, h2, h3, r2, h4', h5]
  · have hb : (x == v.width ws) = false := by simpa using h5
    simp [hv, h1, h2, h3, r2, h4', h5, hb]
theorem validView_eq (p v : Pn) (hp : p.lim) (hv : v.lim) (ws : List Int) (hl : ws.length < 9223372036854775808) (t : Int) : callA C0 31 [.i (.agg p.cells), .i (.agg v.cells), .i (.isl (intsL ws)), .int t] [] = some (.bool (fvOk p v ws t), []) := by
  have e1 := widthOf_eq p hp ws hl
  have e2 := widthOf_eq v hv ws hl
  have g1 := Pn.width_range (p := p) (ws := ws)
  have g2 := Pn.width_range (p := v) (ws := ws)
  have w2 : IntKind.i64.wrap ((ws.length : Int) - 1) = ws.length - 1 := wrap64 (by omega) (by omega)
  rw [callA_eq rfl Try.func31 rfl rfl]
  unfold fvOk canB
  rw [Pn.cells_eq p] at e1 ⊢
  rw [Pn.cells_eq v] at e2 ⊢
  by_cases h1 : p.width ws = 0
  · simp [e1, h1]
  have h1' : 0 < p.width ws := by omega
  by_cases h2 : 0 ≤ t
  case neg => simp [e1, h1, h1', h2, w2]
  by_cases h3 : t < ws.length
  case neg => simp [e1, h1, h1', h2, h3, w2, show ¬ t ≤ (ws.length : Int) - 1 by omega]
  have hlt : t.toNat < ws.length := by omega
  have h4 := List.getElem?_eq_getElem hlt
  generalize ws[t.toNat] = x at h4
  obtain ⟨_, h4'⟩ := List.getElem?_eq_some_iff.1 h4
  have r2 := intsL_nth h4
  have hx := okWs_pos (width_ws h1) h4
  by_cases h5 : v.width ws = x
  · have h6 : ¬ x = 0 := by omega
    simp [e1, e2, h1, h1', h2, h3, r2, h4', h5, w2, h6, show t ≤ (ws.length : Int) - 1 by omega]
  · have h5' : ¬ x = v.width ws := fun e => h5 e.symm
    have hb : (v.width ws == x) = false := by simpa using h5
    simp [e1, e2, h1, h1', h2, h3, r2, h4', h5, h5', hb, w2, show t ≤ (ws.length : Int) - 1 by omega]
theorem cntP_lt {p v : Pn} {ws : List Int} (h : p.width ws ≠ 0) : cntP v p < 512 := by
  have := (Pn.width_fit h).2
  have := cntP_size v p
  omega
theorem sFoldView_eq (p v : Pn) (hp : p.thin) (hv : v.thin) (ws : List Int) (hl : ws.length < 9223372036854775808) (t : Int) : callA C0 9 [.i (.agg p.cells), .i (.agg v.cells), .i (.isl (intsL ws)), .int t] [] = some (.tup [.i (.agg (fvP p v ws t).cells), .int (fvN p v ws t)], []) := by
  have e1 := validView_eq p v (Pn.thin_lim p hp) (Pn.thin_lim v hv) ws hl t
  rw [callA_eq rfl Try.func9 rfl rfl]
  unfold fvP fvN
  cases h : fvOk p v ws t with
  | false =>
    rw [h] at e1
    rw [Pn.cells_eq p, Pn.cells_eq v] at *
    simp [e1, Pn.zero, Pn.cells, Ex.cellsL, intsL, Pn.cellsL]
  | true =>
    rw [h] at e1
    have hw : p.width ws ≠ 0 := by unfold fvOk at h; simp at h; exact h.1
    have e2 := sfold_eq (v := v) (t := t) p hp (by have := cntP_lt (v := v) hw; omega)
    simp only [if_true]
    rw [Pn.cells_eq (foldP v t p)] at *
    rw [Pn.cells_eq p, Pn.cells_eq v] at *
    simp [e1, e2]
end Go.Proofs.Yteihcffblfdgfaa.P

/- FoldView and PlanSize, as the program has them. No condition. -/
namespace Go.Proofs.Yteihcffblfdgfaa.P
open Go Go.Av
set_option maxRecDepth 4000
set_option maxHeartbeats 4000000
@[simp] theorem cp_planWidth (a : List AV) (st : StL) : callA CP 26 a st = callA C0 26 a st := by rw [callA_prim (p := callA C0 26) rfl]
@[simp] theorem cp_canHold (a : List AV) (st : StL) : callA CP 27 a st = callA C0 27 a st := by rw [callA_prim (p := callA C0 27) rfl]
theorem cp_withParts {p v : Pn} (hp : p.thin) (hy : p.tiny) {t : Int} (hn : cntP v p < 1000000000000) : callA CP 28 [.own 0 0, .fn (.func 29) [.own 1 0, .own 2 0, .own 3 0]] [some (.box (impI p.cells)), some (.box (impI v.cells)), some (.box [.int 0]), some (.box [.int t])] =
    some (.i (.agg (foldP v t p).cells), [some (.fbox p.cells), some (.fbox v.cells), some (.box [.int (cntP v p : Nat)]), some (.box [.int t])]) := by
  have h := withF_eq (v := v) (t := t) p hp hy false 0 (by omega)
  rw [Pn.cells_eq p, Pn.cells_eq v]
  simp only [Fst, vB, Nat.zero_add, if_true, Bool.false_eq_true, if_false] at h
  rw [Pn.cells_eq p, Pn.cells_eq v] at h
  rw [callA_prim (p := frz1 (callA C0) 28) rfl]
  unfold frz1
  simp at h
  simp [h]
theorem FoldView_eq (p v : Pn) (hp : p.thin) (ws : List Int) (t : Int) : callA CP 8 [.i (.agg p.cells), .i (.agg v.cells), .i (.isl (intsL ws)), .int t] [] = some (.tup [.i (.agg (fvP p v ws t).cells), .int (fvN p v ws t)], []) := by
  have e1 := planWidth_eq p ws
  have e2 := canHold_eq v ws t
  rw [callA_eq rfl Try.func8 rfl rfl]
  unfold fvP fvN fvOk
  by_cases h1 : p.width ws = 0
  · rw [Pn.cells_eq p, Pn.cells_eq v] at *
    simp [e1, e2, h1, Pn.zero, Pn.cells, Ex.cellsL, intsL, Pn.cellsL]
  cases h2 : canB v ws t with
  | false =>
    rw [h2] at e2
    rw [Pn.cells_eq p, Pn.cells_eq v] at *
    simp [e1, e2, h1, Pn.zero, Pn.cells, Ex.cellsL, intsL, Pn.cellsL]
  | true =>
    rw [h2] at e2
    have e3 := cp_withParts (v := v) (t := t) hp (Pn.width_fit h1).1 (by have := cntP_lt (v := v) h1; omega)
    simp only [h1, ne_eq, not_false_eq_true, decide_true, Bool.and_self, if_true]
    rw [Pn.cells_eq (foldP v t p)] at *
    rw [Pn.cells_eq p, Pn.cells_eq v] at *
    simp at e3
    simp [e1, e2, h1, e3]
theorem one_part (c : List IV) {n : Nat} (hn : n < 1000000000000) : callA C0 36 [.i (.iref c), .own 0 0] [some (.box [.int n])] = some (.tup [], [some (.box [.int ((n + 1 : Nat) : Int)])]) := by
  have w2 : IntKind.i64.wrap ((n : Int) + 1) = n + 1 := wrap64 (by omega) (by omega)
  rw [callA_eq rfl Try.func36 rfl rfl]
  simp [w2]
def EPX (p : Pn) (n : Nat) (i : Nat) : AS :=
  { env := [(0, .i (.iref [.int p.kind, .int p.table, .isl (Ex.cellsL p.exprs), .isl (intsL p.cols), .isl (Pn.cellsL p.kids)])), (1, .fn (.func 36) [.own 0 0]), (4, jk i (.int (i - 1))), (12, .int p.kids.length), (13, .int i), (14, jk i (.bool true))],
    st := [some (.box [.int ((n + 1 + Pn.sizeL (p.kids.take i) : Nat) : Int)])] }
theorem each_eq : ∀ (p : Pn), p.thin → ∀ n : Nat, n + p.size < 1000000000000 → callA C0 35 [.i (.iref p.cells), .fn (.func 36) [.own 0 0]] [some (.box [.int n])] = some (.tup [], [some (.box [.int ((n + p.size : Nat) : Int)])]) := by
  intro p
  induction p using Pn.ind with
  | h k tb es cs ks ih =>
    intro ht n hn
    generalize hp : Pn.mk k tb es cs ks = p at *
    have hks : ks = p.kids := by rw [← hp]; rfl
    subst hks
    obtain ⟨t1, t2, t3, t4, t5⟩ := (Pn.thin_iff _).1 ht
    have hsz := Pn.size_eq p
    have hone := one_part [.int p.kind, .int p.table, .isl (Ex.cellsL p.exprs), .isl (intsL p.cols), .isl (Pn.cellsL p.kids)] (n := n) (by omega)
    simp only [Int.natCast_add, Int.natCast_one] at hone
    rw [callA_eq rfl Try.func35 rfl rfl, Pn.cells_eq]
    simp [hone]
    rw [loop_to (EPX p n) p.kids.length (by simp [EPX, Pn.sizeL])]
    · rw [execA_loop]
      simp [EPX, hsz, ← Int.add_assoc]
    · intro i hi
      have h3 := List.getElem?_eq_getElem hi
      have hm := List.mem_of_getElem? h3
      have r2 := Pn.cellsL_nth h3
      have htk := take_snoc h3
      generalize p.kids[i] = a at h3 hm r2 htk
      have hle : Pn.sizeL (p.kids.take i) + a.size ≤ Pn.sizeL p.kids := by
        have h := Pn.sizeL_append (p.kids.take (i + 1)) (p.kids.drop (i + 1))
        rw [List.take_append_drop, htk, Pn.sizeL_append] at h
        simp only [Pn.sizeL] at h; omega
      have hk := ih a hm (t5 a hm) (n + 1 + Pn.sizeL (p.kids.take i)) (by omega)
      have w2 : IntKind.i64.wrap ((i : Int) + 1) = i + 1 := wrap64 (by omega) (by omega)
      rw [Pn.cells_eq a] at r2 hk
      simp only [Int.natCast_add, Int.natCast_one] at hk
      have hsn : Pn.sizeL (p.kids.take i ++ [a]) = Pn.sizeL (p.kids.take i) + a.size := by rw [Pn.sizeL_append]; simp [Pn.sizeL]
      by_cases h0 : i = 0
      · subst h0; simp [Pn.sizeL] at hk hsn; simp [EPX, hi, r2, hk, wrap_1, htk, hsn, Pn.sizeL]
      · simp only [Int.add_assoc] at hk; simp [EPX, jk_pos h0, hi, r2, hk, w2, htk, hsn, Int.add_assoc]
theorem cp_each {p : Pn} (hp : p.thin) (hn : p.size < 1000000000000) : callA CP 35 [.own 0 0, .fn (.func 36) [.own 1 0]] [some (.box (impI p.cells)), some (.box [.int 0])] = some (.tup [], [some (.fbox p.cells), some (.box [.int (p.size : Nat)])]) := by
  have h := each_eq p hp 0 (by omega)
  rw [Pn.cells_eq p] at h ⊢
  rw [callA_prim (p := frz1 (callA C0) 35) rfl]
  unfold frz1
  simp at h
  simp [h]
theorem PlanSize_eq (p : Pn) (hp : p.thin) (ws : List Int) : callA CP 11 [.i (.agg p.cells), .i (.isl (intsL ws))] [] = some (.int (szP p ws), []) := by
  have e1 := planWidth_eq p ws
  rw [callA_eq rfl Try.func11 rfl rfl]
  unfold szP
  by_cases h1 : p.width ws = 0
  · rw [Pn.cells_eq p] at *
    simp [e1, h1]
  · have e3 := cp_each hp (by have := (Pn.width_fit h1).2; omega)
    rw [Pn.cells_eq p] at *
    simp at e3
    simp [e1, h1, e3]
end Go.Proofs.Yteihcffblfdgfaa.P

/- Levels of a plan; whether it scans a table. No condition. -/
namespace Go.Proofs.Yteihcffblfdgfaa.P
open Go Go.Av
set_option maxRecDepth 4000
set_option maxHeartbeats 4000000
def PHX (p : Pn) (i : Nat) : AS :=
  { env := [(0, .i (.iref [.int p.kind, .int p.table, .isl (Ex.cellsL p.exprs), .isl (intsL p.cols), .isl (Pn.cellsL p.kids)])), (2, .int 0), (3, .int (htPL (p.kids.take i) : Nat)), (4, jk i (.int (i - 1))), (9, .int p.kids.length), (10, .int i), (11, jk i (.bool true))], st := [] }
theorem htPL_take (l : List Pn) (i : Nat) : htPL (l.take i) ≤ htPL l := by
  induction l generalizing i with
  | nil => simp
  | cons a l ih =>
    cases i with
    | zero => simp [htPL]
    | succ i => have := ih i; simp only [List.take_succ_cons, htPL]; omega
theorem pheight_eq : ∀ (p : Pn), p.thin → p.size < 1000000000 → callA C0 39 [.i (.iref p.cells)] [] = some (.int (htP p : Nat), []) := by
  intro p
  induction p using Pn.ind with
  | h k tb es cs ks ih =>
    intro ht hn
    generalize hp : Pn.mk k tb es cs ks = p at *
    have hks : ks = p.kids := by rw [← hp]; rfl
    subst hks
    obtain ⟨t1, t2, t3, t4, t5⟩ := (Pn.thin_iff _).1 ht
    have hsz := Pn.size_eq p
    rw [callA_eq rfl Try.func39 rfl rfl, Pn.cells_eq, htP_eq]
    simp
    rw [loop_to (PHX p) p.kids.length (by simp [PHX, htPL])]
    · rw [execA_loop]
      simp [PHX]
    · intro i hi
      have h3 := List.getElem?_eq_getElem hi
      have hm := List.mem_of_getElem? h3
      have r2 := Pn.cellsL_nth h3
      have htk := take_snoc h3
      generalize p.kids[i] = a at h3 hm r2 htk
      have hle : a.size ≤ Pn.sizeL p.kids := by
        have h := Pn.sizeL_append (p.kids.take (i + 1)) (p.kids.drop (i + 1))
        rw [List.take_append_drop, htk, Pn.sizeL_append] at h
        simp only [Pn.sizeL] at h; omega
      have hk := ih a hm (t5 a hm) (by omega)
      have hh := htP_size a
      have w2 : IntKind.i64.wrap ((i : Int) + 1) = i + 1 := wrap64 (by omega) (by omega)
      have w3 : IntKind.i64.wrap (1 + (htP a : Int)) = 1 + htP a := wrap64 (by omega) (by omega)
      rw [Pn.cells_eq a] at r2 hk
      have hmx : max (htPL (p.kids.take i) : Int) (1 + (htP a : Int)) = ((max (htPL (p.kids.take i)) (1 + htP a) : Nat) : Int) := by omega
      by_cases h0 : i = 0
      · subst h0; simp [htPL] at hmx; simp [PHX, hi, r2, hk, wrap_1, w3, htk, htPL_snoc, htPL, hmx]; omega
      · simp [PHX, jk_pos h0, hi, r2, hk, w2, w3, htk, htPL_snoc, hmx]; split <;> omega
def PDX (p : Pn) (t : Int) (i : Nat) : AS :=
  { env := [(0, .i (.iref [.int p.kind, .int p.table, .isl (Ex.cellsL p.exprs), .isl (intsL p.cols), .isl (Pn.cellsL p.kids)])), (1, .int t), (4, .int 0), (5, .int (dsPL t (p.kids.take i))), (6, jk i (.int (i - 1))), (19, .bool false), (24, .int p.kids.length), (25, .int i), (26, jk i (.bool true))], st := [] }
theorem deepest_eq : ∀ (p : Pn), p.thin → p.size < 1000000000 → ∀ t : Int, callA C0 38 [.i (.iref p.cells), .int t] [] = some (.int (dsP t p), []) := by
  intro p
  induction p using Pn.ind with
  | h k tb es cs ks ih =>
    intro ht hn t
    generalize hp : Pn.mk k tb es cs ks = p at *
    have hks : ks = p.kids := by rw [← hp]; rfl
    subst hks
    obtain ⟨t1, t2, t3, t4, t5⟩ := (Pn.thin_iff _).1 ht
    have hsz := Pn.size_eq p
    cases hh : p.hit t with
    | true =>
      rw [dsP_hit hh]
      simp only [Pn.hit, Bool.and_eq_true, decide_eq_true_eq] at hh
      rw [callA_eq rfl Try.func38 rfl rfl, Pn.cells_eq]
      simp [hh.1, hh.2]
    | false =>
      have hge := dsPL_ge t p.kids
      have hmx0 : max (-17 : Int) (dsPL t p.kids) = dsPL t p.kids := by omega
      rw [dsP_miss hh, hmx0]
      rw [callA_eq rfl Try.func38 rfl rfl, Pn.cells_eq]
      simp only [Pn.hit, Bool.and_eq_false_iff, decide_eq_false_iff_not] at hh
      have hc : p.kind ≠ 1 ∨ (p.kind = 1 ∧ p.table ≠ t) := by
        rcases hh with h | h
        · exact .inl h
        · by_cases h1 : p.kind = 1
          · exact .inr ⟨h1, h⟩
          · exact .inl h1
      rcases hc with hc | ⟨hc1, hc2⟩
      · simp [hc]
        rw [loop_to (PDX p t) p.kids.length (by simp [PDX, dsPL])]
        · rw [execA_loop]
          simp [PDX]
        · intro i hi
          have h3 := List.getElem?_eq_getElem hi
          have hm := List.mem_of_getElem? h3
          have r2 := Pn.cellsL_nth h3
          have htk := take_snoc h3
          generalize p.kids[i] = a at h3 hm r2 htk
          have hle : a.size ≤ Pn.sizeL p.kids := by
            have h := Pn.sizeL_append (p.kids.take (i + 1)) (p.kids.drop (i + 1))
            rw [List.take_append_drop, htk, Pn.sizeL_append] at h
            simp only [Pn.sizeL] at h; omega
          have hk := ih a hm (t5 a hm) (by omega) t
          have hr := dsP_range t a
          have hs := htP_size a
          have w2 : IntKind.i64.wrap ((i : Int) + 1) = i + 1 := wrap64 (by omega) (by omega)
          have w3 : IntKind.i64.wrap (1 + dsP t a) = 1 + dsP t a := wrap64 (by omega) (by omega)
          rw [Pn.cells_eq a] at r2 hk
          by_cases h0 : i = 0
          · subst h0; simp [PDX, hi, r2, hk, wrap_1, w3, htk, dsPL_snoc, dsPL]; split <;> omega
          · simp [PDX, jk_pos h0, hi, r2, hk, w2, w3, htk, dsPL_snoc]; split <;> omega
      · simp [hc1, hc2]
        rw [loop_to (PDX p t) p.kids.length (by simp [PDX, dsPL, hc1, hc2])]
        · rw [execA_loop]
          simp [PDX]
        · intro i hi
          have h3 := List.getElem?_eq_getElem hi
          have hm := List.mem_of_getElem? h3
          have r2 := Pn.cellsL_nth h3
          have htk := take_snoc h3
          generalize p.kids[i] = a at h3 hm r2 htk
          have hle : a.size ≤ Pn.sizeL p.kids := by
            have h := Pn.sizeL_append (p.kids.take (i + 1)) (p.kids.drop (i + 1))
            rw [List.take_append_drop, htk, Pn.sizeL_append] at h
            simp only [Pn.sizeL] at h; omega
          have hk := ih a hm (t5 a hm) (by omega) t
          have hr := dsP_range t a
          have hs := htP_size a
          have w2 : IntKind.i64.wrap ((i : Int) + 1) = i + 1 := wrap64 (by omega) (by omega)
          have w3 : IntKind.i64.wrap (1 + dsP t a) = 1 + dsP t a := wrap64 (by omega) (by omega)
          rw [Pn.cells_eq a] at r2 hk
          by_cases h0 : i = 0
          · subst h0; simp [PDX, hi, r2, hk, wrap_1, w3, htk, dsPL_snoc, dsPL]; split <;> omega
          · simp [PDX, jk_pos h0, hi, r2, hk, w2, w3, htk, dsPL_snoc]; split <;> omega
theorem scan_part {p : Pn} {b : Bool} {t : Int} : callA C0 76 [.i (.iref p.cells), .own 0 0, .own 1 0] [some (.box [.bool b]), some (.box [.int t])] = some (.tup [], [some (.box [.bool (b || p.hit t)]), some (.box [.int t])]) := by
  rw [callA_eq rfl Try.func76 rfl rfl, Pn.cells_eq]
  unfold Pn.hit
  cases b
  · by_cases h1 : p.kind = 1
    · by_cases h2 : p.table = t
      · simp [h1, h2]
      · simp [h1, h2]
    · simp [h1]
  · simp
def SPX (p : Pn) (b : Bool) (t : Int) (i : Nat) : AS :=
  { env := [(0, .i (.iref [.int p.kind, .int p.table, .isl (Ex.cellsL p.exprs), .isl (intsL p.cols), .isl (Pn.cellsL p.kids)])), (1, .fn (.func 76) [.own 0 0, .own 1 0]), (4, jk i (.int (i - 1))), (12, .int p.kids.length), (13, .int i), (14, jk i (.bool true))],
    st := [some (.box [.bool ((b || p.hit t) || scPL t (p.kids.take i))]), some (.box [.int t])] }
theorem eachScan_eq : ∀ (p : Pn), p.thin → ∀ (b : Bool) (t : Int), callA C0 35 [.i (.iref p.cells), .fn (.func 76) [.own 0 0, .own 1 0]] [some (.box [.bool b]), some (.box [.int t])] = some (.tup [], [some (.box [.bool (b || scP t p)]), some (.box [.int t])]) := by
  intro p
  induction p using Pn.ind with
  | h k tb es cs ks ih =>
    intro ht b t
    generalize hp : Pn.mk k tb es cs ks = p at *
    have hks : ks = p.kids := by rw [← hp]; rfl
    subst hks
    obtain ⟨t1, t2, t3, t4, t5⟩ := (Pn.thin_iff _).1 ht
    have hone := scan_part (p := p) (b := b) (t := t)
    rw [callA_eq rfl Try.func35 rfl rfl, scP_eq]
    rw [Pn.cells_eq] at hone ⊢
    simp [hone]
    rw [loop_to (SPX p b t) p.kids.length (by simp [SPX, scPL])]
    · rw [execA_loop]
      simp [SPX, Bool.or_assoc]
    · intro i hi
      have h3 := List.getElem?_eq_getElem hi
      have hm := List.mem_of_getElem? h3
      have r2 := Pn.cellsL_nth h3
      have htk := take_snoc h3
      generalize p.kids[i] = a at h3 hm r2 htk
      have hk := ih a hm (t5 a hm) ((b || p.hit t) || scPL t (p.kids.take i)) t
      have w2 : IntKind.i64.wrap ((i : Int) + 1) = i + 1 := wrap64 (by omega) (by omega)
      rw [Pn.cells_eq a] at r2 hk
      by_cases h0 : i = 0
      · subst h0; simp [scPL] at hk; simp [SPX, hi, r2, hk, wrap_1, htk, scPL_snoc, scPL, Bool.or_assoc]
      · simp only [Bool.or_assoc] at hk; simp [SPX, jk_pos h0, hi, r2, hk, w2, htk, scPL_snoc, Bool.or_assoc]
theorem scans_eq (p : Pn) (hp : p.thin) (t : Int) : callA C0 37 [.i (.iref p.cells), .int t] [] = some (.bool (scP t p), []) := by
  have h := eachScan_eq p hp false t
  rw [callA_eq rfl Try.func37 rfl rfl]
  rw [Pn.cells_eq] at h ⊢
  simp at h
  simp [h]
end Go.Proofs.Yteihcffblfdgfaa.P

/- A view expanded: withParts with the closure of ExpandView. No condition. -/
namespace Go.Proofs.Yteihcffblfdgfaa.P
open Go Go.Av
set_option maxRecDepth 4000
set_option maxHeartbeats 4000000
def Est (v : Pn) (t : Int) : StL := [some (.box [.int t]), vB true v]
theorem copyP_call {v : Pn} (h : v.small) : callA C0 41 [.i (.iref v.cells)] [] = some (.i (.agg v.cells), []) := by
  rw [callA_prim (p := copyP) rfl]; exact copyP_eq h
theorem exp1_eq {p v : Pn} (hv : v.small) {t : Int} : callA C0 40 [.i (.iref p.cells), .own 0 0, .own 1 0] (Est v t) =
    some (.tup [.i (.agg (if p.hit t = true then v else Pn.zero).cells), .bool (p.hit t)], Est v t) := by
  have hc := copyP_call hv
  rw [callA_eq rfl Try.func40 rfl rfl]
  unfold Pn.hit
  rw [Pn.cells_eq v] at hc
  by_cases h1 : p.kind = 1
  · by_cases h2 : p.table = t
    · simp [Est, vB, Pn.cells_eq p, Pn.cells_eq v, hc, h1, h2]
    · simp [Est, vB, Pn.cells_eq p, Pn.cells_eq v, hc, h1, h2, Pn.zero, Pn.cells, Ex.cellsL, intsL, Pn.cellsL]
  · simp [Est, vB, Pn.cells_eq p, Pn.cells_eq v, hc, h1, Pn.zero, Pn.cells, Ex.cellsL, intsL, Pn.cellsL]
theorem withE_hit {p v : Pn} (hv : v.small) {t : Int} (hh : p.hit t = true) : callA C0 28 [.i (.iref p.cells), .fn (.func 40) [.own 0 0, .own 1 0]] (Est v t) = some (.i (.agg v.cells), Est v t) := by
  have hf := exp1_eq (p := p) (t := t) hv
  simp only [hh, if_true, Est] at hf
  rw [callA_eq rfl Try.func28 rfl rfl]
  rw [Pn.cells_eq v] at *
  simp [Est, hf]
def VX11 (p v : Pn) (t : Int) (i : Nat) : AS :=
  { env := [(0, .i (.iref [.int p.kind, .int p.table, .isl (Ex.cellsL p.exprs), .isl (intsL p.cols), .isl (Pn.cellsL p.kids)])), (1, .fn (.func 40) [.own 0 0, .own 1 0]), (4, .own 2 0), (5, .own 3 0), (6, .bool false), (7, .own 4 0), (8, jk i (.int (i - 1))), (9, .junk), (16, .bool false), (39, .int p.exprs.length), (40, .int i), (41, jk i (.bool true)), (57, .junk), (58, .junk), (59, .junk)],
    st := some (.box [.int t]) :: vB true v :: some (.box [.int 0, .int 0, .nils, .nils, .nils]) :: some (.box [.int 0, .int 0, .i (.isl []), .i (.isl []), .i (.isl [])]) :: some (.box [.int p.kind, .int p.table, .osl 5 5 0 p.exprs.length, .osl 6 1 0 p.cols.length, .nils]) :: some (.arr 5 (Ex.cellsL p.exprs)) :: some (.arr 1 (intsL p.cols)) :: [] }
def VY11 (p v : Pn) (t : Int) (i : Nat) : AS :=
  { env := [(0, .i (.iref [.int p.kind, .int p.table, .isl (Ex.cellsL p.exprs), .isl (intsL p.cols), .isl (Pn.cellsL p.kids)])), (1, .fn (.func 40) [.own 0 0, .own 1 0]), (4, .own 2 0), (5, .own 3 0), (6, .bool false), (7, .own 4 0), (8, .int (p.exprs.length - 1)), (9, jk i (.int (i - 1))), (16, .bool false), (39, .int p.exprs.length), (40, .int p.exprs.length), (41, .bool false), (57, .int p.kids.length), (58, .int i), (59, jk i (.bool true))],
    st := some (.box [.int t]) :: vB true v :: some (.box [.int 0, .int 0, .nils, .nils, .nils]) :: some (.box [.int 0, .int 0, .i (.isl []), .i (.isl []), .i (.isl [])]) :: some (.box [.int p.kind, .int p.table, .osl 5 5 0 p.exprs.length, .osl 6 1 0 p.cols.length, gro 7 5 i]) :: some (.arr 5 (Ex.cellsL p.exprs)) :: some (.arr 1 (intsL p.cols)) :: (groB 5 (Pn.cellsL (expPL v t (p.kids.take i))) i) }
theorem withE_miss11 {p v : Pn} (hv : v.small) (hp : p.thin) (hq : ∀ e ∈ p.exprs, e.size < 1000000000) (he : p.exprs ≠ []) (hc : p.cols ≠ []) {t : Int} (hh : p.hit t = false)
    (ih : ∀ a ∈ p.kids, callA C0 28 [.i (.iref a.cells), .fn (.func 40) [.own 0 0, .own 1 0]] (Est v t) = some (.i (.agg (expP v t a).cells), Est v t)) :
    callA C0 28 [.i (.iref p.cells), .fn (.func 40) [.own 0 0, .own 1 0]] (Est v t) = some (.i (.agg (expP v t p).cells), Est v t) := by
  have hf := exp1_eq (p := p) (t := t) hv
  simp only [hh, if_false, Est, Bool.false_eq_true, Pn.zero, Pn.cells, Ex.cellsL, intsL, Pn.cellsL] at hf
  obtain ⟨t1, t2, t3, t4, -⟩ := (Pn.thin_iff _).1 hp
  rw [Pn.cells_eq] at hf
  have hE := copiedEs_eq he t1
  have hel : p.exprs.length ≠ 0 := fun h => he (List.length_eq_zero_iff.1 h)
  have hI := copiedIs_eq hc t3
  have hcl : p.cols.length ≠ 0 := fun h => hc (List.length_eq_zero_iff.1 h)
  rw [callA_eq rfl Try.func28 rfl rfl, expP_miss hh, Pn.cells_mk, Pn.cells_eq]
  simp [Est, hf, hE, hI]
  rw [loop_to (VX11 p v t) p.exprs.length (by simp [VX11])]
  · rw [execA_loop]
    simp [VX11]
    rw [loop_to (VY11 p v t) p.kids.length (by simp [VY11, jk_pos hel])]
    · rw [execA_loop]
      cases hm : p.kids.length with
      | zero =>
        have hk : p.kids = [] := List.length_eq_zero_iff.1 hm
        simp [VY11, hk, expPL, Pn.cellsL]
      | succ m =>
        have hk : p.kids.take (m + 1) = p.kids := List.take_of_length_le (by omega)
        have hk2 : (expPL v t p.kids).take (m + 1) = expPL v t p.kids := List.take_of_length_le (by simp; omega)
        simp [VY11, hm, hk, hk2]
    · intro i hi
      have h3 := List.getElem?_eq_getElem hi
      have hm := List.mem_of_getElem? h3
      have r2 := Pn.cellsL_nth h3
      have htk := take_snoc h3
      generalize p.kids[i] = a at h3 hm r2 htk
      have hk := ih a hm
      have w2 : IntKind.i64.wrap ((i : Int) + 1) = i + 1 := wrap64 (by omega) (by omega)
      rw [Pn.cells_eq a] at r2 hk
      rw [Pn.cells_eq] at hk
      simp only [Est] at hk
      have hl1 : (i + 1) * 88 ≤ 140737488355328 := by omega
      have hl2 : min i p.kids.length = i := by omega
      have hl3 : (expPL v t (p.kids.take i)).take i = expPL v t (p.kids.take i) := List.take_of_length_le (by simp; omega)
      by_cases h0 : i = 0
      · subst h0; simp [VY11, hi, r2, hk, wrap_1, htk, expPL_snoc, Pn.cellsL_snoc, Pn.cells_eq (expP v t a), expPL, Pn.cellsL]
      · simp [VY11, gro_pos h0, groB_pos h0, jk_pos h0, hi, r2, hk, w2, htk, expPL_snoc, Pn.cellsL_snoc, hl1, hl2, List.take_take, Pn.cells_eq (expP v t a), h0, hl3]
  · intro i hi
    have h3 := List.getElem?_eq_getElem hi
    have hs := hq _ (List.mem_of_getElem? h3)
    have r2 := Ex.cellsL_nth h3
    generalize p.exprs[i] = a at h3 hs r2
    have hk := copyE_call hs r2
    have hput := Ex.cellsL_set h3
    have w2 : IntKind.i64.wrap ((i : Int) + 1) = i + 1 := wrap64 (by omega) (by omega)
    rw [Ex.cells_eq] at r2 hk hput
    simp [VX11, hi, r2, hk, w2, hput]
def VX10 (p v : Pn) (t : Int) (i : Nat) : AS :=
  { env := [(0, .i (.iref [.int p.kind, .int p.table, .isl (Ex.cellsL p.exprs), .isl (intsL p.cols), .isl (Pn.cellsL p.kids)])), (1, .fn (.func 40) [.own 0 0, .own 1 0]), (4, .own 2 0), (5, .own 3 0), (6, .bool false), (7, .own 4 0), (8, jk i (.int (i - 1))), (9, .junk), (16, .bool false), (39, .int p.exprs.length), (40, .int i), (41, jk i (.bool true)), (57, .junk), (58, .junk), (59, .junk)],
    st := some (.box [.int t]) :: vB true v :: some (.box [.int 0, .int 0, .nils, .nils, .nils]) :: some (.box [.int 0, .int 0, .i (.isl []), .i (.isl []), .i (.isl [])]) :: some (.box [.int p.kind, .int p.table, .osl 5 5 0 p.exprs.length, .nils, .nils]) :: some (.arr 5 (Ex.cellsL p.exprs)) :: [] }
def VY10 (p v : Pn) (t : Int) (i : Nat) : AS :=
  { env := [(0, .i (.iref [.int p.kind, .int p.table, .isl (Ex.cellsL p.exprs), .isl (intsL p.cols), .isl (Pn.cellsL p.kids)])), (1, .fn (.func 40) [.own 0 0, .own 1 0]), (4, .own 2 0), (5, .own 3 0), (6, .bool false), (7, .own 4 0), (8, .int (p.exprs.length - 1)), (9, jk i (.int (i - 1))), (16, .bool false), (39, .int p.exprs.length), (40, .int p.exprs.length), (41, .bool false), (57, .int p.kids.length), (58, .int i), (59, jk i (.bool true))],
    st := some (.box [.int t]) :: vB true v :: some (.box [.int 0, .int 0, .nils, .nils, .nils]) :: some (.box [.int 0, .int 0, .i (.isl []), .i (.isl []), .i (.isl [])]) :: some (.box [.int p.kind, .int p.table, .osl 5 5 0 p.exprs.length, .nils, gro 6 5 i]) :: some (.arr 5 (Ex.cellsL p.exprs)) :: (groB 5 (Pn.cellsL (expPL v t (p.kids.take i))) i) }
theorem withE_miss10 {p v : Pn} (hv : v.small) (hp : p.thin) (hq : ∀ e ∈ p.exprs, e.size < 1000000000) (he : p.exprs ≠ []) (hc : p.cols = []) {t : Int} (hh : p.hit t = false)
    (ih : ∀ a ∈ p.kids, callA C0 28 [.i (.iref a.cells), .fn (.func 40) [.own 0 0, .own 1 0]] (Est v t) = some (.i (.agg (expP v t a).cells), Est v t)) :
    callA C0 28 [.i (.iref p.cells), .fn (.func 40) [.own 0 0, .own 1 0]] (Est v t) = some (.i (.agg (expP v t p).cells), Est v t) := by
  have hf := exp1_eq (p := p) (t := t) hv
  simp only [hh, if_false, Est, Bool.false_eq_true, Pn.zero, Pn.cells, Ex.cellsL, intsL, Pn.cellsL] at hf
  obtain ⟨t1, t2, t3, t4, -⟩ := (Pn.thin_iff _).1 hp
  rw [Pn.cells_eq] at hf
  have hE := copiedEs_eq he t1
  have hel : p.exprs.length ≠ 0 := fun h => he (List.length_eq_zero_iff.1 h)
  have hI := copiedIs_nil
  rw [callA_eq rfl Try.func28 rfl rfl, expP_miss hh, Pn.cells_mk, Pn.cells_eq]
  simp only [hc, intsL] at hf
  simp [Est, hf, hE, hI, hc, intsL]
  rw [loop_to (VX10 p v t) p.exprs.length (by simp [VX10, hc, intsL])]
  · rw [execA_loop]
    simp [VX10, hc, intsL]
    rw [loop_to (VY10 p v t) p.kids.length (by simp [VY10, hc, intsL, jk_pos hel])]
    · rw [execA_loop]
      cases hm : p.kids.length with
      | zero =>
        have hk : p.kids = [] := List.length_eq_zero_iff.1 hm
        simp [VY10, hk, expPL, Pn.cellsL, hc, intsL]
      | succ m =>
        have hk : p.kids.take (m + 1) = p.kids := List.take_of_length_le (by omega)
        have hk2 : (expPL v t p.kids).take (m + 1) = expPL v t p.kids := List.take_of_length_le (by simp; omega)
        simp [VY10, hm, hk, hk2, hc, intsL]
    · intro i hi
      have h3 := List.getElem?_eq_getElem hi
      have hm := List.mem_of_getElem? h3
      have r2 := Pn.cellsL_nth h3
      have htk := take_snoc h3
      generalize p.kids[i] = a at h3 hm r2 htk
      have hk := ih a hm
      have w2 : IntKind.i64.wrap ((i : Int) + 1) = i + 1 := wrap64 (by omega) (by omega)
      rw [Pn.cells_eq a] at r2 hk
      rw [Pn.cells_eq] at hk
      simp only [Est] at hk
      have hl1 : (i + 1) * 88 ≤ 140737488355328 := by omega
      have hl2 : min i p.kids.length = i := by omega
      have hl3 : (expPL v t (p.kids.take i)).take i = expPL v t (p.kids.take i) := List.take_of_length_le (by simp; omega)
      by_cases h0 : i = 0
      · subst h0; simp [VY10, hi, r2, hk, wrap_1, htk, expPL_snoc, Pn.cellsL_snoc, Pn.cells_eq (expP v t a), expPL, Pn.cellsL, hc, intsL]
      · simp [VY10, gro_pos h0, groB_pos h0, jk_pos h0, hi, r2, hk, w2, htk, expPL_snoc, Pn.cellsL_snoc, hl1, hl2, List.take_take, Pn.cells_eq (expP v t a), h0, hl3, hc, intsL]
  · intro i hi
    have h3 := List.getElem?_eq_getElem hi
    have hs := hq _ (List.mem_of_getElem? h3)
    have r2 := Ex.cellsL_nth h3
    generalize p.exprs[i] = a at h3 hs r2
    have hk := copyE_call hs r2
    have hput := Ex.cellsL_set h3
    have w2 : IntKind.i64.wrap ((i : Int) + 1) = i + 1 := wrap64 (by omega) (by omega)
    rw [Ex.cells_eq] at r2 hk hput
    simp [VX10, hi, r2, hk, w2, hput, hc, intsL]
def VY01 (p v : Pn) (t : Int) (i : Nat) : AS :=
  { env := [(0, .i (.iref [.int p.kind, .int p.table, .isl (Ex.cellsL p.exprs), .isl (intsL p.cols), .isl (Pn.cellsL p.kids)])), (1, .fn (.func 40) [.own 0 0, .own 1 0]), (4, .own 2 0), (5, .own 3 0), (6, .bool false), (7, .own 4 0), (8, .junk), (9, jk i (.int (i - 1))), (16, .bool false), (39, .int p.exprs.length), (40, .int p.exprs.length), (41, .bool false), (57, .int p.kids.length), (58, .int i), (59, jk i (.bool true))],
    st := some (.box [.int t]) :: vB true v :: some (.box [.int 0, .int 0, .nils, .nils, .nils]) :: some (.box [.int 0, .int 0, .i (.isl []), .i (.isl []), .i (.isl [])]) :: some (.box [.int p.kind, .int p.table, .nils, .osl 5 1 0 p.cols.length, gro 6 5 i]) :: some (.arr 1 (intsL p.cols)) :: (groB 5 (Pn.cellsL (expPL v t (p.kids.take i))) i) }
theorem withE_miss01 {p v : Pn} (hv : v.small) (hp : p.thin) (hq : ∀ e ∈ p.exprs, e.size < 1000000000) (he : p.exprs = []) (hc : p.cols ≠ []) {t : Int} (hh : p.hit t = false)
    (ih : ∀ a ∈ p.kids, callA C0 28 [.i (.iref a.cells), .fn (.func 40) [.own 0 0, .own 1 0]] (Est v t) = some (.i (.agg (expP v t a).cells), Est v t)) :
    callA C0 28 [.i (.iref p.cells), .fn (.func 40) [.own 0 0, .own 1 0]] (Est v t) = some (.i (.agg (expP v t p).cells), Est v t) := by
  have hf := exp1_eq (p := p) (t := t) hv
  simp only [hh, if_false, Est, Bool.false_eq_true, Pn.zero, Pn.cells, Ex.cellsL, intsL, Pn.cellsL] at hf
  obtain ⟨t1, t2, t3, t4, -⟩ := (Pn.thin_iff _).1 hp
  rw [Pn.cells_eq] at hf
  have hE := copiedEs_nil
  have hI := copiedIs_eq hc t3
  have hcl : p.cols.length ≠ 0 := fun h => hc (List.length_eq_zero_iff.1 h)
  rw [callA_eq rfl Try.func28 rfl rfl, expP_miss hh, Pn.cells_mk, Pn.cells_eq]
  simp only [he, Ex.cellsL] at hf
  simp [Est, hf, hE, hI, he, Ex.cellsL]
  rw [execA_loop]
  simp
  rw [loop_to (VY01 p v t) p.kids.length (by simp [VY01, he, Ex.cellsL])]
  · rw [execA_loop]
    cases hm : p.kids.length with
    | zero =>
      have hk : p.kids = [] := List.length_eq_zero_iff.1 hm
      simp [VY01, hk, expPL, Pn.cellsL, he, Ex.cellsL]
    | succ m =>
      have hk : p.kids.take (m + 1) = p.kids := List.take_of_length_le (by omega)
      have hk2 : (expPL v t p.kids).take (m + 1) = expPL v t p.kids := List.take_of_length_le (by simp; omega)
      simp [VY01, hm, hk, hk2, he, Ex.cellsL]
  · intro i hi
    have h3 := List.getElem?_eq_getElem hi
    have hm := List.mem_of_getElem? h3
    have r2 := Pn.cellsL_nth h3
    have htk := take_snoc h3
    generalize p.kids[i] = a at h3 hm r2 htk
    have hk := ih a hm
    have w2 : IntKind.i64.wrap ((i : Int) + 1) = i + 1 := wrap64 (by omega) (by omega)
    rw [Pn.cells_eq a] at r2 hk
    rw [Pn.cells_eq] at hk
    simp only [Est] at hk
    have hl1 : (i + 1) * 88 ≤ 140737488355328 := by omega
    have hl2 : min i p.kids.length = i := by omega
    have hl3 : (expPL v t (p.kids.take i)).take i = expPL v t (p.kids.take i) := List.take_of_length_le (by simp; omega)
    by_cases h0 : i = 0
    · subst h0; simp [VY01, hi, r2, hk, wrap_1, htk, expPL_snoc, Pn.cellsL_snoc, Pn.cells_eq (expP v t a), expPL, Pn.cellsL, he, Ex.cellsL]
    · simp [VY01, gro_pos h0, groB_pos h0, jk_pos h0, hi, r2, hk, w2, htk, expPL_snoc, Pn.cellsL_snoc, hl1, hl2, List.take_take, Pn.cells_eq (expP v t a), h0, hl3, he, Ex.cellsL]
def VY00 (p v : Pn) (t : Int) (i : Nat) : AS :=
  { env := [(0, .i (.iref [.int p.kind, .int p.table, .isl (Ex.cellsL p.exprs), .isl (intsL p.cols), .isl (Pn.cellsL p.kids)])), (1, .fn (.func 40) [.own 0 0, .own 1 0]), (4, .own 2 0), (5, .own 3 0), (6, .bool false), (7, .own 4 0), (8, .junk), (9, jk i (.int (i - 1))), (16, .bool false), (39, .int p.exprs.length), (40, .int p.exprs.length), (41, .bool false), (57, .int p.kids.length), (58, .int i), (59, jk i (.bool true))],
    st := some (.box [.int t]) :: vB true v :: some (.box [.int 0, .int 0, .nils, .nils, .nils]) :: some (.box [.int 0, .int 0, .i (.isl []), .i (.isl []), .i (.isl [])]) :: some (.box [.int p.kind, .int p.table, .nils, .nils, gro 5 5 i]) :: (groB 5 (Pn.cellsL (expPL v t (p.kids.take i))) i) }
theorem withE_miss00 {p v : Pn} (hv : v.small) (hp : p.thin) (hq : ∀ e ∈ p.exprs, e.size < 1000000000) (he : p.exprs = []) (hc : p.cols = []) {t : Int} (hh : p.hit t = false)
    (ih : ∀ a ∈ p.kids, callA C0 28 [.i (.iref a.cells), .fn (.func 40) [.own 0 0, .own 1 0]] (Est v t) = some (.i (.agg (expP v t a).cells), Est v t)) :
    callA C0 28 [.i (.iref p.cells), .fn (.func 40) [.own 0 0, .own 1 0]] (Est v t) = some (.i (.agg (expP v t p).cells), Est v t) := by
  have hf := exp1_eq (p := p) (t := t) hv
  simp only [hh, if_false, Est, Bool.false_eq_true, Pn.zero, Pn.cells, Ex.cellsL, intsL, Pn.cellsL] at hf
  obtain ⟨t1, t2, t3, t4, -⟩ := (Pn.thin_iff _).1 hp
  rw [Pn.cells_eq] at hf
  have hE := copiedEs_nil
  have hI := copiedIs_nil
  rw [callA_eq rfl Try.func28 rfl rfl, expP_miss hh, Pn.cells_mk, Pn.cells_eq]
  simp only [he, Ex.cellsL, hc, intsL] at hf
  simp [Est, hf, hE, hI, he, Ex.cellsL, hc, intsL]
  rw [execA_loop]
  simp
  rw [loop_to (VY00 p v t) p.kids.length (by simp [VY00, he, Ex.cellsL, hc, intsL])]
  · rw [execA_loop]
    cases hm : p.kids.length with
    | zero =>
      have hk : p.kids = [] := List.length_eq_zero_iff.1 hm
      simp [VY00, hk, expPL, Pn.cellsL, he, Ex.cellsL, hc, intsL]
    | succ m =>
      have hk : p.kids.take (m + 1) = p.kids := List.take_of_length_le (by omega)
      have hk2 : (expPL v t p.kids).take (m + 1) = expPL v t p.kids := List.take_of_length_le (by simp; omega)
      simp [VY00, hm, hk, hk2, he, Ex.cellsL, hc, intsL]
  · intro i hi
    have h3 := List.getElem?_eq_getElem hi
    have hm := List.mem_of_getElem? h3
    have r2 := Pn.cellsL_nth h3
    have htk := take_snoc h3
    generalize p.kids[i] = a at h3 hm r2 htk
    have hk := ih a hm
    have w2 : IntKind.i64.wrap ((i : Int) + 1) = i + 1 := wrap64 (by omega) (by omega)
    rw [Pn.cells_eq a] at r2 hk
    rw [Pn.cells_eq] at hk
    simp only [Est] at hk
    have hl1 : (i + 1) * 88 ≤ 140737488355328 := by omega
    have hl2 : min i p.kids.length = i := by omega
    have hl3 : (expPL v t (p.kids.take i)).take i = expPL v t (p.kids.take i) := List.take_of_length_le (by simp; omega)
    by_cases h0 : i = 0
    · subst h0; simp [VY00, hi, r2, hk, wrap_1, htk, expPL_snoc, Pn.cellsL_snoc, Pn.cells_eq (expP v t a), expPL, Pn.cellsL, he, Ex.cellsL, hc, intsL]
    · simp [VY00, gro_pos h0, groB_pos h0, jk_pos h0, hi, r2, hk, w2, htk, expPL_snoc, Pn.cellsL_snoc, hl1, hl2, List.take_take, Pn.cells_eq (expP v t a), h0, hl3, he, Ex.cellsL, hc, intsL]
theorem withE_eq {v : Pn} (hv : v.small) {t : Int} : ∀ (p : Pn), p.thin → p.tiny → callA C0 28 [.i (.iref p.cells), .fn (.func 40) [.own 0 0, .own 1 0]] (Est v t) = some (.i (.agg (expP v t p).cells), Est v t) := by
  intro p
  induction p using Pn.ind with
  | h k tb es cs ks ih =>
    intro ht hy
    cases hh : Pn.hit t (.mk k tb es cs ks) with
    | true =>
      rw [expP_hit hh]
      exact withE_hit hv hh
    | false =>
      have ih' : ∀ a ∈ ks, _ := fun a ha => ih a ha (((Pn.thin_iff _).1 ht).2.2.2.2 a ha) (((Pn.tiny_iff _).1 hy).2 a ha)
      have hq : ∀ e ∈ es, e.size < 1000000000 := ((Pn.tiny_iff _).1 hy).1
      by_cases he : es = []
      · by_cases hc : cs = []
        · exact withE_miss00 hv ht hq he hc hh ih'
        · exact withE_miss01 hv ht hq he hc hh ih'
      · by_cases hc : cs = []
        · exact withE_miss10 hv ht hq he hc hh ih'
        · exact withE_miss11 hv ht hq he hc hh ih'
end Go.Proofs.Yteihcffblfdgfaa.P

/- What the drawing of plans calls. No condition. -/
namespace Go.Proofs.Yteihcffblfdgfaa.P
open Go Go.Av
set_option maxRecDepth 4000
set_option maxHeartbeats 4000000
@[simp] theorem cp_pick (a : List AV) (st : StL) : callA CP 59 a st = callA C0 59 a st := by rw [callA_prim (p := callA C0 59) rfl]
@[simp] theorem cp_one (a : List AV) (st : StL) : callA CP 65 a st = callA C0 65 a st := by rw [callA_prim (p := callA C0 65) rfl]
@[simp] theorem cp_cond (a : List AV) (st : StL) : callA CP 63 a st = callA C0 63 a st := by rw [callA_prim (p := callA C0 63) rfl]
@[simp] theorem cp_expr (a : List AV) (st : StL) : callA CP 83 a st = callA C0 83 a st := by rw [callA_prim (p := callA C0 83) rfl]
@[simp] theorem cp_filterOf (a : List AV) (st : StL) : callA CP 62 a st = callA C0 62 a st := by rw [callA_prim (p := callA C0 62) rfl]
@[simp] theorem cp_widths (a : List AV) (st : StL) : callA CP 57 a st = callA C0 57 a st := by rw [callA_prim (p := callA C0 57) rfl]
@[simp] theorem cp_newReader (a : List AV) (st : StL) : callA CP 25 a st = callA C0 25 a st := by rw [callA_prim (p := callA C0 25) rfl]
theorem cp_copyPlan (p : Pn) (hp : p.thin) : callA CP 64 [.i (.agg p.cells)] [] = some (.i (.agg p.cells), []) := by
  have h := copyPlan_eq p hp
  rw [callA_prim (p := frzO (callA C0) 64) rfl]
  unfold frzO
  by_cases he : p.exprs = []
  · by_cases hk : p.kids = []
    · simp [pcX, pcS, hk, he, Pn.cellsL, Ex.cellsL] at h
      simp [h]
      rw [Pn.cells_eq]; simp [hk, he, Pn.cellsL, Ex.cellsL]
    · have hkl : p.kids.length ≠ 0 := fun h => hk (List.length_eq_zero_iff.1 h)
      simp [pcX, pcS, hk, he, gro_pos hkl, groB_pos hkl, Ex.cellsL] at h
      simp [h]
      rw [Pn.cells_eq]; simp [hk, he, Ex.cellsL]
  · have hel : p.exprs.length ≠ 0 := fun h => he (List.length_eq_zero_iff.1 h)
    by_cases hk : p.kids = []
    · simp [pcX, pcS, hk, he, gro_pos hel, groB_pos hel, Pn.cellsL] at h
      simp [h]
      rw [Pn.cells_eq]; simp [hk, he, Pn.cellsL]
    · have hkl : p.kids.length ≠ 0 := fun h => hk (List.length_eq_zero_iff.1 h)
      simp [pcX, pcS, hk, he, gro_pos hel, groB_pos hel, gro_pos hkl, groB_pos hkl] at h
      simp [h]
      rw [Pn.cells_eq]
@[simp] theorem bareLL_ints : ∀ l : List Int, bareLL (intsL l) = true
  | [] => by simp [intsL, bareLL]
  | x :: l => by simp [intsL, bareLL, bareL, bareC, bareLL_ints l]
theorem splanWidth_own {ws : List Int} (hw : ∀ w ∈ ws, 0 ≤ w ∧ w ≤ 6) (hwl : ws.length < 1000000) {k : Nat} (hk0 : 0 < k) (hk : k ≤ ws.length) (p : Pn) (hp : p.thin) : callA CP 60 [.i (.agg p.cells), .osl 0 1 0 k, .int 8] [some (.arr 1 (intsL ws))] = some (.int (p.wd (ws.take k) 8), [some (.arr 1 (intsL ws))]) := by
  have h := splanWidth_eq (ws := ws.take k) (fun w hm => hw w (List.mem_of_mem_take hm)) (by simp; omega) p (Pn.thin_lim p hp) 8 (by omega)
  rw [callA_prim (p := lookC (callA C0) 60) rfl]
  unfold lookC
  simp at h
  simp [viewWs, viewW, h, hk, hk0, bareC]
def filtP (e : Ex) (p : Pn) : Pn := .mk 2 0 [e] [] [p]
theorem filtP_cells (e : Ex) (p : Pn) : (filtP e p).cells = [.int 2, .int 0, .isl [e.cells], .isl [], .isl [p.cells]] := by simp [filtP, Pn.cells, Ex.cellsL, intsL, Pn.cellsL]
theorem filterOf_eq (e : Ex) (p : Pn) : callA C0 62 [.i (.agg e.cells), .i (.agg p.cells)] [] = some (.i (.agg (filtP e p).cells), []) := by
  rw [callA_eq rfl Try.func62 rfl rfl, filtP_cells, Ex.cells_eq, Pn.cells_eq]
  simp
theorem filtP_thin {e : Ex} {p : Pn} (he : e.size < 1000000) (hp : p.thin) : (filtP e p).thin := by
  have := Ex.thin_of_size e (by omega)
  simp [filtP, Pn.thin, Pn.thinL, this, hp]
theorem randomWidths_eq (l : List UInt8) (hl : l.length ≤ 2000) (p : Int) (h0 : 0 ≤ p) (h1 : p < 900000000) : ∃ (a b : Int) (r : List Int) (p' : Int), callA C0 57 [.own 0 0] [Rd l p] = some (.osl 1 1 0 (r.length + 2), [Rd l p', some (.arr 1 (intsL (a :: b :: r)))]) ∧ p ≤ p' ∧ p' ≤ p + 4 ∧ 1 ≤ a ∧ a ≤ 2 ∧ 1 ≤ b ∧ b ≤ 2 ∧ r.length ≤ 1 := by
  obtain ⟨n, hn, hn1, -⟩ := pick_eq l p 2 h0 (by omega) hl
  obtain ⟨a, ha, ha1, -⟩ := pick_eq l (p + 1) 2 (by omega) (by omega) hl
  obtain ⟨b, hb, hb1, -⟩ := pick_eq l (p + 1 + 1) 2 (by omega) (by omega) hl
  have wa : IntKind.i64.wrap (1 + a) = 1 + a := wrap64 (by omega) (by omega)
  have wb : IntKind.i64.wrap (1 + b) = 1 + b := wrap64 (by omega) (by omega)
  have w2 : IntKind.i64.wrap (2 : Int) = 2 := wrap64 (by omega) (by omega)
  have w3 : IntKind.i64.wrap (3 : Int) = 3 := wrap64 (by omega) (by omega)
  have w1 := wrap_1
  have w0 : IntKind.i64.wrap (0 : Int) = 0 := wrap64 (by omega) (by omega)
  obtain ⟨n0, n1⟩ := hn1 (by omega)
  have hn2 : n = 0 ∨ n = 1 := by omega
  rcases hn2 with rfl | rfl
  · refine ⟨1 + a, 1 + b, [], p + 1 + 1 + 1, ?_, by omega, by omega, by omega, by omega, by omega, by omega, by simp⟩
    rw [callA_eq rfl Try.func57 rfl rfl]
    simp [hn, w2]
    rw [execA_loop]; simp [ha, wa, w1]
    rw [execA_loop]; simp [hb, wb, w0]
    rw [execA_loop]; simp [intsL]
  · obtain ⟨c, hc, hc1, -⟩ := pick_eq l (p + 1 + 1 + 1) 2 (by omega) (by omega) hl
    have wc : IntKind.i64.wrap (1 + c) = 1 + c := wrap64 (by omega) (by omega)
    refine ⟨1 + a, 1 + b, [1 + c], p + 1 + 1 + 1 + 1, ?_, by omega, by omega, by omega, by omega, by omega, by omega, by simp⟩
    rw [callA_eq rfl Try.func57 rfl rfl]
    simp [hn, w3]
    rw [execA_loop]; simp [ha, wa, w2]
    rw [execA_loop]; simp [hb, wb, w1]
    rw [execA_loop]; simp [hc, wc, w0]
    rw [execA_loop]; simp [intsL]
end Go.Proofs.Yteihcffblfdgfaa.P

/- Drawing plans. No condition. -/
namespace Go.Proofs.Yteihcffblfdgfaa.P
open Go Go.Av
set_option maxRecDepth 4000
set_option maxHeartbeats 8000000
def PSt (l : List UInt8) (ws : List Int) (k : Nat) (j u p : Int) : StL := [some (.box [.own 1 0, .osl 2 1 0 k, .int j, .int u]), Rd l p, some (.arr 1 (intsL ws))]
/-- What is drawn by 'plan'. -/
def PlanOk (l : List UInt8) (ws : List Int) (k d j c : Nat) : Prop := ∀ p u : Int, 0 ≤ p → p + c < 300000000 → 0 ≤ u → u ≤ 1 → ∃ (P : Pn) (p' u' : Int) (j' : Nat),
    callA CP 58 [.own 0 0, .int d] (PSt l ws k j u p) = some (.i (.agg P.cells), PSt l ws k j' u' p') ∧ P.thin ∧ p ≤ p' ∧ p' ≤ p + c ∧ j' ≤ j ∧ 0 ≤ u' ∧ u' ≤ 1
theorem scan_cells (t : Int) : (Pn.scan t).cells = [.int 1, .int t, .isl [], .isl [], .isl []] := by simp [Pn.scan, Pn.cells, Ex.cellsL, intsL, Pn.cellsL]
theorem plan_zero {l : List UInt8} (hl : l.length ≤ 2000) {ws : List Int} {k : Nat} (j : Nat) : PlanOk l ws k 0 j 1 := by
  intro p u h0 h1 hu0 hu1
  obtain ⟨t, ht, -, -⟩ := pick_eq l p k h0 (by omega) hl
  refine ⟨.scan t, p + 1, u, j, ?_, Pn.scan_thin t, by omega, by omega, by omega, by omega, by omega⟩
  rw [callA_eq rfl Try.func58 rfl rfl]
  simp [PSt, ht, scan_cells]
theorem plan_filter0 {l : List UInt8} (hl : l.length ≤ 2000) {ws : List Int} {k : Nat} {d j c2 : Nat} {p u t v W kk p1 u1 : Int} {j1 : Nat} {K : Pn} (hd : d < 100) (h1 : p1 + 400 + c2 < 300000000) (hp1 : 0 ≤ p1) (hu0 : 0 ≤ u1) (hu1 : u1 ≤ 1) (hW0 : 0 ≤ W) (hW6 : W ≤ 6) (hK : K.thin)
    (ht : callA C0 59 [.own 0 0, .int k] [Rd l p] = some (.int t, [Rd l (p + 1)])) (hv : callA C0 59 [.own 0 0, .int 6] [Rd l (p + 1)] = some (.int v, [Rd l (p + 1 + 1)])) (v0 : ¬ v = 0)
    (hkid : callA CP 58 [.own 0 0, .int d] (PSt l ws k j u (p + 1 + 1)) = some (.i (.agg K.cells), PSt l ws k j1 u1 p1))
    (hW : callA CP 60 [.i (.agg K.cells), .osl 0 1 0 k, .int 8] [some (.arr 1 (intsL ws))] = some (.int W, [some (.arr 1 (intsL ws))]))
    (hkk : callA C0 59 [.own 0 0, .int 10] [Rd l p1] = some (.int kk, [Rd l (p1 + 1)])) (hq : kk = 0) : ∃ (P : Pn) (p' u' : Int) (j' : Nat), callA CP 58 [.own 0 0, .int ((d + 1 : Nat) : Int)] (PSt l ws k j u p) = some (.i (.agg P.cells), PSt l ws k j' u' p') ∧ P.thin ∧ p1 ≤ p' ∧ p' ≤ p1 + 400 + c2 ∧ j' ≤ j1 ∧ 0 ≤ u' ∧ u' ≤ 1 := by
  have we : IntKind.i64.wrap (d : Int) = d := wrap64 (by omega) (by omega)
  have wn : ¬ ((d : Int) + 1 = 0) := by omega
  simp only [PSt] at hkid
  rw [Pn.cells_eq K] at hkid hW
  obtain ⟨e, p2, he, a1, a2, a3⟩ := randomCondition_eq l hl W (p1 + 1) (by omega) (by omega)
  have hf := filterOf_eq e K
  rw [filtP_cells, Pn.cells_eq K, Ex.cells_eq e] at hf
  rw [Ex.cells_eq e] at he
  refine ⟨filtP e K, p2, u1, j1, ?_, filtP_thin (by omega) hK, by omega, by omega, by omega, by omega, by omega⟩
  rw [callA_eq rfl Try.func58 rfl rfl]
  simp [PSt, ht, hv, v0, we, hkid, hW, hkk, wn, hq, he, hf, filtP_cells, Pn.cells_eq K, Ex.cells_eq e]
theorem plan_filter1 {l : List UInt8} (hl : l.length ≤ 2000) {ws : List Int} {k : Nat} {d j c2 : Nat} {p u t v W kk p1 u1 : Int} {j1 : Nat} {K : Pn} (hd : d < 100) (h1 : p1 + 400 + c2 < 300000000) (hp1 : 0 ≤ p1) (hu0 : 0 ≤ u1) (hu1 : u1 ≤ 1) (hW0 : 0 ≤ W) (hW6 : W ≤ 6) (hK : K.thin)
    (ht : callA C0 59 [.own 0 0, .int k] [Rd l p] = some (.int t, [Rd l (p + 1)])) (hv : callA C0 59 [.own 0 0, .int 6] [Rd l (p + 1)] = some (.int v, [Rd l (p + 1 + 1)])) (v0 : ¬ v = 0)
    (hkid : callA CP 58 [.own 0 0, .int d] (PSt l ws k j u (p + 1 + 1)) = some (.i (.agg K.cells), PSt l ws k j1 u1 p1))
    (hW : callA CP 60 [.i (.agg K.cells), .osl 0 1 0 k, .int 8] [some (.arr 1 (intsL ws))] = some (.int W, [some (.arr 1 (intsL ws))]))
    (hkk : callA C0 59 [.own 0 0, .int 10] [Rd l p1] = some (.int kk, [Rd l (p1 + 1)])) (hq : kk = 1) : ∃ (P : Pn) (p' u' : Int) (j' : Nat), callA CP 58 [.own 0 0, .int ((d + 1 : Nat) : Int)] (PSt l ws k j u p) = some (.i (.agg P.cells), PSt l ws k j' u' p') ∧ P.thin ∧ p1 ≤ p' ∧ p' ≤ p1 + 400 + c2 ∧ j' ≤ j1 ∧ 0 ≤ u' ∧ u' ≤ 1 := by
  have we : IntKind.i64.wrap (d : Int) = d := wrap64 (by omega) (by omega)
  have wn : ¬ ((d : Int) + 1 = 0) := by omega
  simp only [PSt] at hkid
  rw [Pn.cells_eq K] at hkid hW
  obtain ⟨e, p2, he, a1, a2, a3⟩ := randomCondition_eq l hl W (p1 + 1) (by omega) (by omega)
  have hf := filterOf_eq e K
  rw [filtP_cells, Pn.cells_eq K, Ex.cells_eq e] at hf
  rw [Ex.cells_eq e] at he
  refine ⟨filtP e K, p2, u1, j1, ?_, filtP_thin (by omega) hK, by omega, by omega, by omega, by omega, by omega⟩
  rw [callA_eq rfl Try.func58 rfl rfl]
  simp [PSt, ht, hv, v0, we, hkid, hW, hkk, wn, hq, he, hf, filtP_cells, Pn.cells_eq K, Ex.cells_eq e]
theorem plan_filter2 {l : List UInt8} (hl : l.length ≤ 2000) {ws : List Int} {k : Nat} {d j c2 : Nat} {p u t v W kk p1 u1 : Int} {j1 : Nat} {K : Pn} (hd : d < 100) (h1 : p1 + 400 + c2 < 300000000) (hp1 : 0 ≤ p1) (hu0 : 0 ≤ u1) (hu1 : u1 ≤ 1) (hW0 : 0 ≤ W) (hW6 : W ≤ 6) (hK : K.thin)
    (ht : callA C0 59 [.own 0 0, .int k] [Rd l p] = some (.int t, [Rd l (p + 1)])) (hv : callA C0 59 [.own 0 0, .int 6] [Rd l (p + 1)] = some (.int v, [Rd l (p + 1 + 1)])) (v0 : ¬ v = 0)
    (hkid : callA CP 58 [.own 0 0, .int d] (PSt l ws k j u (p + 1 + 1)) = some (.i (.agg K.cells), PSt l ws k j1 u1 p1))
    (hW : callA CP 60 [.i (.agg K.cells), .osl 0 1 0 k, .int 8] [some (.arr 1 (intsL ws))] = some (.int W, [some (.arr 1 (intsL ws))]))
    (hkk : callA C0 59 [.own 0 0, .int 10] [Rd l p1] = some (.int kk, [Rd l (p1 + 1)])) (hq : kk = 2) : ∃ (P : Pn) (p' u' : Int) (j' : Nat), callA CP 58 [.own 0 0, .int ((d + 1 : Nat) : Int)] (PSt l ws k j u p) = some (.i (.agg P.cells), PSt l ws k j' u' p') ∧ P.thin ∧ p1 ≤ p' ∧ p' ≤ p1 + 400 + c2 ∧ j' ≤ j1 ∧ 0 ≤ u' ∧ u' ≤ 1 := by
  have we : IntKind.i64.wrap (d : Int) = d := wrap64 (by omega) (by omega)
  have wn : ¬ ((d : Int) + 1 = 0) := by omega
  simp only [PSt] at hkid
  rw [Pn.cells_eq K] at hkid hW
  obtain ⟨e, p2, he, a1, a2, a3⟩ := randomCondition_eq l hl W (p1 + 1) (by omega) (by omega)
  have hf := filterOf_eq e K
  rw [filtP_cells, Pn.cells_eq K, Ex.cells_eq e] at hf
  rw [Ex.cells_eq e] at he
  refine ⟨filtP e K, p2, u1, j1, ?_, filtP_thin (by omega) hK, by omega, by omega, by omega, by omega, by omega⟩
  rw [callA_eq rfl Try.func58 rfl rfl]
  simp [PSt, ht, hv, v0, we, hkid, hW, hkk, wn, hq, he, hf, filtP_cells, Pn.cells_eq K, Ex.cells_eq e]
theorem plan_distinct {l : List UInt8} (hl : l.length ≤ 2000) {ws : List Int} {k : Nat} {d j c2 : Nat} {p u t v W kk p1 u1 : Int} {j1 : Nat} {K : Pn} (hd : d < 100) (h1 : p1 + 400 + c2 < 300000000) (hp1 : 0 ≤ p1) (hu0 : 0 ≤ u1) (hu1 : u1 ≤ 1) (hW0 : 0 ≤ W) (hW6 : W ≤ 6) (hK : K.thin)
    (ht : callA C0 59 [.own 0 0, .int k] [Rd l p] = some (.int t, [Rd l (p + 1)])) (hv : callA C0 59 [.own 0 0, .int 6] [Rd l (p + 1)] = some (.int v, [Rd l (p + 1 + 1)])) (v0 : ¬ v = 0)
    (hkid : callA CP 58 [.own 0 0, .int d] (PSt l ws k j u (p + 1 + 1)) = some (.i (.agg K.cells), PSt l ws k j1 u1 p1))
    (hW : callA CP 60 [.i (.agg K.cells), .osl 0 1 0 k, .int 8] [some (.arr 1 (intsL ws))] = some (.int W, [some (.arr 1 (intsL ws))]))
    (hkk : callA C0 59 [.own 0 0, .int 10] [Rd l p1] = some (.int kk, [Rd l (p1 + 1)])) (hq : kk = 8) : ∃ (P : Pn) (p' u' : Int) (j' : Nat), callA CP 58 [.own 0 0, .int ((d + 1 : Nat) : Int)] (PSt l ws k j u p) = some (.i (.agg P.cells), PSt l ws k j' u' p') ∧ P.thin ∧ p1 ≤ p' ∧ p' ≤ p1 + 400 + c2 ∧ j' ≤ j1 ∧ 0 ≤ u' ∧ u' ≤ 1 := by
  have we : IntKind.i64.wrap (d : Int) = d := wrap64 (by omega) (by omega)
  have wn : ¬ ((d : Int) + 1 = 0) := by omega
  simp only [PSt] at hkid
  rw [Pn.cells_eq K] at hkid hW
  refine ⟨.mk 7 0 [] [] [K], p1 + 1, u1, j1, ?_, by simp [Pn.thin, Pn.thinL, hK], by omega, by omega, by omega, by omega, by omega⟩
  rw [callA_eq rfl Try.func58 rfl rfl]
  simp [PSt, ht, hv, v0, we, hkid, hW, hkk, wn, hq, Pn.cells, Ex.cellsL, intsL, Pn.cellsL, Pn.cells_eq K]
theorem plan_nojoin5 {l : List UInt8} (hl : l.length ≤ 2000) {ws : List Int} {k : Nat} {d j c2 : Nat} {p u t v W kk p1 u1 : Int} {j1 : Nat} {K : Pn} (hd : d < 100) (h1 : p1 + 400 + c2 < 300000000) (hp1 : 0 ≤ p1) (hu0 : 0 ≤ u1) (hu1 : u1 ≤ 1) (hW0 : 0 ≤ W) (hW6 : W ≤ 6) (hK : K.thin)
    (ht : callA C0 59 [.own 0 0, .int k] [Rd l p] = some (.int t, [Rd l (p + 1)])) (hv : callA C0 59 [.own 0 0, .int 6] [Rd l (p + 1)] = some (.int v, [Rd l (p + 1 + 1)])) (v0 : ¬ v = 0)
    (hkid : callA CP 58 [.own 0 0, .int d] (PSt l ws k j u (p + 1 + 1)) = some (.i (.agg K.cells), PSt l ws k j1 u1 p1))
    (hW : callA CP 60 [.i (.agg K.cells), .osl 0 1 0 k, .int 8] [some (.arr 1 (intsL ws))] = some (.int W, [some (.arr 1 (intsL ws))]))
    (hkk : callA C0 59 [.own 0 0, .int 10] [Rd l p1] = some (.int kk, [Rd l (p1 + 1)])) (hj : j1 = 0) (hq : kk = 5) : ∃ (P : Pn) (p' u' : Int) (j' : Nat), callA CP 58 [.own 0 0, .int ((d + 1 : Nat) : Int)] (PSt l ws k j u p) = some (.i (.agg P.cells), PSt l ws k j' u' p') ∧ P.thin ∧ p1 ≤ p' ∧ p' ≤ p1 + 400 + c2 ∧ j' ≤ j1 ∧ 0 ≤ u' ∧ u' ≤ 1 := by
  have we : IntKind.i64.wrap (d : Int) = d := wrap64 (by omega) (by omega)
  have wn : ¬ ((d : Int) + 1 = 0) := by omega
  simp only [PSt] at hkid
  rw [Pn.cells_eq K] at hkid hW
  obtain ⟨e, p2, he, a1, a2, a3⟩ := randomCondition_eq l hl W (p1 + 1) (by omega) (by omega)
  have hf := filterOf_eq e K
  rw [filtP_cells, Pn.cells_eq K, Ex.cells_eq e] at hf
  rw [Ex.cells_eq e] at he
  refine ⟨filtP e K, p2, u1, j1, ?_, filtP_thin (by omega) hK, by omega, by omega, by omega, by omega, by omega⟩
  rw [callA_eq rfl Try.func58 rfl rfl]
  simp [PSt, ht, hv, v0, we, hkid, hW, hkk, wn, hq, he, hf, filtP_cells, Pn.cells_eq K, Ex.cells_eq e, hj]
theorem plan_wide5 {l : List UInt8} (hl : l.length ≤ 2000) {ws : List Int} {k : Nat} {d j c2 : Nat} {p u t v W kk p1 u1 : Int} {j1 : Nat} {K : Pn} (hd : d < 100) (h1 : p1 + 400 + c2 < 300000000) (hp1 : 0 ≤ p1) (hu0 : 0 ≤ u1) (hu1 : u1 ≤ 1) (hW0 : 0 ≤ W) (hW6 : W ≤ 6) (hK : K.thin)
    (ht : callA C0 59 [.own 0 0, .int k] [Rd l p] = some (.int t, [Rd l (p + 1)])) (hv : callA C0 59 [.own 0 0, .int 6] [Rd l (p + 1)] = some (.int v, [Rd l (p + 1 + 1)])) (v0 : ¬ v = 0)
    (hkid : callA CP 58 [.own 0 0, .int d] (PSt l ws k j u (p + 1 + 1)) = some (.i (.agg K.cells), PSt l ws k j1 u1 p1))
    (hW : callA CP 60 [.i (.agg K.cells), .osl 0 1 0 k, .int 8] [some (.arr 1 (intsL ws))] = some (.int W, [some (.arr 1 (intsL ws))]))
    (hkk : callA C0 59 [.own 0 0, .int 10] [Rd l p1] = some (.int kk, [Rd l (p1 + 1)])) (hj : j1 ≠ 0) (hw4 : ¬ W ≤ 4) (hq : kk = 5) : ∃ (P : Pn) (p' u' : Int) (j' : Nat), callA CP 58 [.own 0 0, .int ((d + 1 : Nat) : Int)] (PSt l ws k j u p) = some (.i (.agg P.cells), PSt l ws k j' u' p') ∧ P.thin ∧ p1 ≤ p' ∧ p' ≤ p1 + 400 + c2 ∧ j' ≤ j1 ∧ 0 ≤ u' ∧ u' ≤ 1 := by
  have we : IntKind.i64.wrap (d : Int) = d := wrap64 (by omega) (by omega)
  have wn : ¬ ((d : Int) + 1 = 0) := by omega
  simp only [PSt] at hkid
  rw [Pn.cells_eq K] at hkid hW
  have hj' : 0 < j1 := by omega
  obtain ⟨e, p2, he, a1, a2, a3⟩ := randomCondition_eq l hl W (p1 + 1) (by omega) (by omega)
  have hf := filterOf_eq e K
  rw [filtP_cells, Pn.cells_eq K, Ex.cells_eq e] at hf
  rw [Ex.cells_eq e] at he
  refine ⟨filtP e K, p2, u1, j1, ?_, filtP_thin (by omega) hK, by omega, by omega, by omega, by omega, by omega⟩
  rw [callA_eq rfl Try.func58 rfl rfl]
  simp [PSt, ht, hv, v0, we, hkid, hW, hkk, wn, hq, he, hf, filtP_cells, Pn.cells_eq K, Ex.cells_eq e, hj', hj, hw4]
theorem plan_nojoin6 {l : List UInt8} (hl : l.length ≤ 2000) {ws : List Int} {k : Nat} {d j c2 : Nat} {p u t v W kk p1 u1 : Int} {j1 : Nat} {K : Pn} (hd : d < 100) (h1 : p1 + 400 + c2 < 300000000) (hp1 : 0 ≤ p1) (hu0 : 0 ≤ u1) (hu1 : u1 ≤ 1) (hW0 : 0 ≤ W) (hW6 : W ≤ 6) (hK : K.thin)
    (ht : callA C0 59 [.own 0 0, .int k] [Rd l p] = some (.int t, [Rd l (p + 1)])) (hv : callA C0 59 [.own 0 0, .int 6] [Rd l (p + 1)] = some (.int v, [Rd l (p + 1 + 1)])) (v0 : ¬ v = 0)
    (hkid : callA CP 58 [.own 0 0, .int d] (PSt l ws k j u (p + 1 + 1)) = some (.i (.agg K.cells), PSt l ws k j1 u1 p1))
    (hW : callA CP 60 [.i (.agg K.cells), .osl 0 1 0 k, .int 8] [some (.arr 1 (intsL ws))] = some (.int W, [some (.arr 1 (intsL ws))]))
    (hkk : callA C0 59 [.own 0 0, .int 10] [Rd l p1] = some (.int kk, [Rd l (p1 + 1)])) (hj : j1 = 0) (hq : kk = 6) : ∃ (P : Pn) (p' u' : Int) (j' : Nat), callA CP 58 [.own 0 0, .int ((d + 1 : Nat) : Int)] (PSt l ws k j u p) = some (.i (.agg P.cells), PSt l ws k j' u' p') ∧ P.thin ∧ p1 ≤ p' ∧ p' ≤ p1 + 400 + c2 ∧ j' ≤ j1 ∧ 0 ≤ u' ∧ u' ≤ 1 := by
  have we : IntKind.i64.wrap (d : Int) = d := wrap64 (by omega) (by omega)
  have wn : ¬ ((d : Int) + 1 = 0) := by omega
  simp only [PSt] at hkid
  rw [Pn.cells_eq K] at hkid hW
  obtain ⟨e, p2, he, a1, a2, a3⟩ := randomCondition_eq l hl W (p1 + 1) (by omega) (by omega)
  have hf := filterOf_eq e K
  rw [filtP_cells, Pn.cells_eq K, Ex.cells_eq e] at hf
  rw [Ex.cells_eq e] at he
  refine ⟨filtP e K, p2, u1, j1, ?_, filtP_thin (by omega) hK, by omega, by omega, by omega, by omega, by omega⟩
  rw [callA_eq rfl Try.func58 rfl rfl]
  simp [PSt, ht, hv, v0, we, hkid, hW, hkk, wn, hq, he, hf, filtP_cells, Pn.cells_eq K, Ex.cells_eq e, hj]
theorem plan_wide6 {l : List UInt8} (hl : l.length ≤ 2000) {ws : List Int} {k : Nat} {d j c2 : Nat} {p u t v W kk p1 u1 : Int} {j1 : Nat} {K : Pn} (hd : d < 100) (h1 : p1 + 400 + c2 < 300000000) (hp1 : 0 ≤ p1) (hu0 : 0 ≤ u1) (hu1 : u1 ≤ 1) (hW0 : 0 ≤ W) (hW6 : W ≤ 6) (hK : K.thin)
    (ht : callA C0 59 [.own 0 0, .int k] [Rd l p] = some (.int t, [Rd l (p + 1)])) (hv : callA C0 59 [.own 0 0, .int 6] [Rd l (p + 1)] = some (.int v, [Rd l (p + 1 + 1)])) (v0 : ¬ v = 0)
    (hkid : callA CP 58 [.own 0 0, .int d] (PSt l ws k j u (p + 1 + 1)) = some (.i (.agg K.cells), PSt l ws k j1 u1 p1))
    (hW : callA CP 60 [.i (.agg K.cells), .osl 0 1 0 k, .int 8] [some (.arr 1 (intsL ws))] = some (.int W, [some (.arr 1 (intsL ws))]))
    (hkk : callA C0 59 [.own 0 0, .int 10] [Rd l p1] = some (.int kk, [Rd l (p1 + 1)])) (hj : j1 ≠ 0) (hw4 : ¬ W ≤ 4) (hq : kk = 6) : ∃ (P : Pn) (p' u' : Int) (j' : Nat), callA CP 58 [.own 0 0, .int ((d + 1 : Nat) : Int)] (PSt l ws k j u p) = some (.i (.agg P.cells), PSt l ws k j' u' p') ∧ P.thin ∧ p1 ≤ p' ∧ p' ≤ p1 + 400 + c2 ∧ j' ≤ j1 ∧ 0 ≤ u' ∧ u' ≤ 1 := by
  have we : IntKind.i64.wrap (d : Int) = d := wrap64 (by omega) (by omega)
  have wn : ¬ ((d : Int) + 1 = 0) := by omega
  simp only [PSt] at hkid
  rw [Pn.cells_eq K] at hkid hW
  have hj' : 0 < j1 := by omega
  obtain ⟨e, p2, he, a1, a2, a3⟩ := randomCondition_eq l hl W (p1 + 1) (by omega) (by omega)
  have hf := filterOf_eq e K
  rw [filtP_cells, Pn.cells_eq K, Ex.cells_eq e] at hf
  rw [Ex.cells_eq e] at he
  refine ⟨filtP e K, p2, u1, j1, ?_, filtP_thin (by omega) hK, by omega, by omega, by omega, by omega, by omega⟩
  rw [callA_eq rfl Try.func58 rfl rfl]
  simp [PSt, ht, hv, v0, we, hkid, hW, hkk, wn, hq, he, hf, filtP_cells, Pn.cells_eq K, Ex.cells_eq e, hj', hj, hw4]
theorem plan_nounion {l : List UInt8} (hl : l.length ≤ 2000) {ws : List Int} {k : Nat} {d j c2 : Nat} {p u t v W kk p1 u1 : Int} {j1 : Nat} {K : Pn} (hd : d < 100) (h1 : p1 + 400 + c2 < 300000000) (hp1 : 0 ≤ p1) (hu0 : 0 ≤ u1) (hu1 : u1 ≤ 1) (hW0 : 0 ≤ W) (hW6 : W ≤ 6) (hK : K.thin)
    (ht : callA C0 59 [.own 0 0, .int k] [Rd l p] = some (.int t, [Rd l (p + 1)])) (hv : callA C0 59 [.own 0 0, .int 6] [Rd l (p + 1)] = some (.int v, [Rd l (p + 1 + 1)])) (v0 : ¬ v = 0)
    (hkid : callA CP 58 [.own 0 0, .int d] (PSt l ws k j u (p + 1 + 1)) = some (.i (.agg K.cells), PSt l ws k j1 u1 p1))
    (hW : callA CP 60 [.i (.agg K.cells), .osl 0 1 0 k, .int 8] [some (.arr 1 (intsL ws))] = some (.int W, [some (.arr 1 (intsL ws))]))
    (hkk : callA C0 59 [.own 0 0, .int 10] [Rd l p1] = some (.int kk, [Rd l (p1 + 1)])) (hu : ¬ 0 < u1) (hq : kk = 7) : ∃ (P : Pn) (p' u' : Int) (j' : Nat), callA CP 58 [.own 0 0, .int ((d + 1 : Nat) : Int)] (PSt l ws k j u p) = some (.i (.agg P.cells), PSt l ws k j' u' p') ∧ P.thin ∧ p1 ≤ p' ∧ p' ≤ p1 + 400 + c2 ∧ j' ≤ j1 ∧ 0 ≤ u' ∧ u' ≤ 1 := by
  have we : IntKind.i64.wrap (d : Int) = d := wrap64 (by omega) (by omega)
  have wn : ¬ ((d : Int) + 1 = 0) := by omega
  simp only [PSt] at hkid
  rw [Pn.cells_eq K] at hkid hW
  obtain ⟨e, p2, he, a1, a2, a3⟩ := randomCondition_eq l hl W (p1 + 1) (by omega) (by omega)
  have hf := filterOf_eq e K
  rw [filtP_cells, Pn.cells_eq K, Ex.cells_eq e] at hf
  rw [Ex.cells_eq e] at he
  refine ⟨filtP e K, p2, u1, j1, ?_, filtP_thin (by omega) hK, by omega, by omega, by omega, by omega, by omega⟩
  rw [callA_eq rfl Try.func58 rfl rfl]
  simp [PSt, ht, hv, v0, we, hkid, hW, hkk, wn, hq, he, hf, filtP_cells, Pn.cells_eq K, Ex.cells_eq e, hu]
theorem plan_union {l : List UInt8} (hl : l.length ≤ 2000) {ws : List Int} {k : Nat} {d j c2 : Nat} {p u t v W kk p1 u1 : Int} {j1 : Nat} {K : Pn} (hd : d < 100) (h1 : p1 + 400 + c2 < 300000000) (hp1 : 0 ≤ p1) (hu0 : 0 ≤ u1) (hu1 : u1 ≤ 1) (hW0 : 0 ≤ W) (hW6 : W ≤ 6) (hK : K.thin)
    (ht : callA C0 59 [.own 0 0, .int k] [Rd l p] = some (.int t, [Rd l (p + 1)])) (hv : callA C0 59 [.own 0 0, .int 6] [Rd l (p + 1)] = some (.int v, [Rd l (p + 1 + 1)])) (v0 : ¬ v = 0)
    (hkid : callA CP 58 [.own 0 0, .int d] (PSt l ws k j u (p + 1 + 1)) = some (.i (.agg K.cells), PSt l ws k j1 u1 p1))
    (hW : callA CP 60 [.i (.agg K.cells), .osl 0 1 0 k, .int 8] [some (.arr 1 (intsL ws))] = some (.int W, [some (.arr 1 (intsL ws))]))
    (hkk : callA C0 59 [.own 0 0, .int 10] [Rd l p1] = some (.int kk, [Rd l (p1 + 1)])) (hu : 0 < u1) (hq : kk = 7) : ∃ (P : Pn) (p' u' : Int) (j' : Nat), callA CP 58 [.own 0 0, .int ((d + 1 : Nat) : Int)] (PSt l ws k j u p) = some (.i (.agg P.cells), PSt l ws k j' u' p') ∧ P.thin ∧ p1 ≤ p' ∧ p' ≤ p1 + 400 + c2 ∧ j' ≤ j1 ∧ 0 ≤ u' ∧ u' ≤ 1 := by
  have we : IntKind.i64.wrap (d : Int) = d := wrap64 (by omega) (by omega)
  have wn : ¬ ((d : Int) + 1 = 0) := by omega
  simp only [PSt] at hkid
  rw [Pn.cells_eq K] at hkid hW
  obtain ⟨e, p2, he, a1, a2, a3⟩ := randomCondition_eq l hl W (p1 + 1) (by omega) (by omega)
  have hf := filterOf_eq e K
  have hc := cp_copyPlan K hK
  have wu : IntKind.i64.wrap (u1 - 1) = u1 - 1 := wrap64 (by omega) (by omega)
  rw [filtP_cells, Pn.cells_eq K, Ex.cells_eq e] at hf
  rw [Pn.cells_eq K] at hc
  rw [Ex.cells_eq e] at he
  refine ⟨.mk 6 0 [] [] [K, filtP e K], p2, u1 - 1, j1, ?_, by have := filtP_thin (e := e) (by omega) hK; simp [Pn.thin, Pn.thinL, hK, this], by omega, by omega, by omega, by omega, by omega⟩
  rw [callA_eq rfl Try.func58 rfl rfl]
  simp [PSt, ht, hv, v0, we, hkid, hW, hkk, wn, hq, he, hf, filtP_cells, Pn.cells_eq K, Ex.cells_eq e, hu, hc, wu, Pn.cells_mk, Ex.cellsL, intsL, Pn.cellsL]
theorem plan_group1 {l : List UInt8} (hl : l.length ≤ 2000) {ws : List Int} {k : Nat} {d j c2 : Nat} {p u t v W kk p1 u1 : Int} {j1 : Nat} {K : Pn} (hd : d < 100) (h1 : p1 + 400 + c2 < 300000000) (hp1 : 0 ≤ p1) (hu0 : 0 ≤ u1) (hu1 : u1 ≤ 1) (hW0 : 0 ≤ W) (hW6 : W ≤ 6) (hK : K.thin)
    (ht : callA C0 59 [.own 0 0, .int k] [Rd l p] = some (.int t, [Rd l (p + 1)])) (hv : callA C0 59 [.own 0 0, .int 6] [Rd l (p + 1)] = some (.int v, [Rd l (p + 1 + 1)])) (v0 : ¬ v = 0)
    (hkid : callA CP 58 [.own 0 0, .int d] (PSt l ws k j u (p + 1 + 1)) = some (.i (.agg K.cells), PSt l ws k j1 u1 p1))
    (hW : callA CP 60 [.i (.agg K.cells), .osl 0 1 0 k, .int 8] [some (.arr 1 (intsL ws))] = some (.int W, [some (.arr 1 (intsL ws))]))
    (hkk : callA C0 59 [.own 0 0, .int 10] [Rd l p1] = some (.int kk, [Rd l (p1 + 1)])) (hw1 : ¬ 1 < W) (hq : kk = 9) : ∃ (P : Pn) (p' u' : Int) (j' : Nat), callA CP 58 [.own 0 0, .int ((d + 1 : Nat) : Int)] (PSt l ws k j u p) = some (.i (.agg P.cells), PSt l ws k j' u' p') ∧ P.thin ∧ p1 ≤ p' ∧ p' ≤ p1 + 400 + c2 ∧ j' ≤ j1 ∧ 0 ≤ u' ∧ u' ≤ 1 := by
  have we : IntKind.i64.wrap (d : Int) = d := wrap64 (by omega) (by omega)
  have wn : ¬ ((d : Int) + 1 = 0) := by omega
  simp only [PSt] at hkid
  rw [Pn.cells_eq K] at hkid hW
  refine ⟨.mk 8 0 [] [] [K], p1 + 1, u1, j1, ?_, by simp [Pn.thin, Pn.thinL, hK], by omega, by omega, by omega, by omega, by omega⟩
  rw [callA_eq rfl Try.func58 rfl rfl]
  simp [PSt, ht, hv, v0, we, hkid, hW, hkk, wn, hq, hw1, Pn.cells_mk, Ex.cellsL, intsL, Pn.cellsL, Pn.cells_eq K]
theorem plan_group2 {l : List UInt8} (hl : l.length ≤ 2000) {ws : List Int} {k : Nat} {d j c2 : Nat} {p u t v W kk p1 u1 : Int} {j1 : Nat} {K : Pn} (hd : d < 100) (h1 : p1 + 400 + c2 < 300000000) (hp1 : 0 ≤ p1) (hu0 : 0 ≤ u1) (hu1 : u1 ≤ 1) (hW0 : 0 ≤ W) (hW6 : W ≤ 6) (hK : K.thin)
    (ht : callA C0 59 [.own 0 0, .int k] [Rd l p] = some (.int t, [Rd l (p + 1)])) (hv : callA C0 59 [.own 0 0, .int 6] [Rd l (p + 1)] = some (.int v, [Rd l (p + 1 + 1)])) (v0 : ¬ v = 0)
    (hkid : callA CP 58 [.own 0 0, .int d] (PSt l ws k j u (p + 1 + 1)) = some (.i (.agg K.cells), PSt l ws k j1 u1 p1))
    (hW : callA CP 60 [.i (.agg K.cells), .osl 0 1 0 k, .int 8] [some (.arr 1 (intsL ws))] = some (.int W, [some (.arr 1 (intsL ws))]))
    (hkk : callA C0 59 [.own 0 0, .int 10] [Rd l p1] = some (.int kk, [Rd l (p1 + 1)])) (hw1 : 1 < W) (hq : kk = 9) : ∃ (P : Pn) (p' u' : Int) (j' : Nat), callA CP 58 [.own 0 0, .int ((d + 1 : Nat) : Int)] (PSt l ws k j u p) = some (.i (.agg P.cells), PSt l ws k j' u' p') ∧ P.thin ∧ p1 ≤ p' ∧ p' ≤ p1 + 400 + c2 ∧ j' ≤ j1 ∧ 0 ≤ u' ∧ u' ≤ 1 := by
  have we : IntKind.i64.wrap (d : Int) = d := wrap64 (by omega) (by omega)
  have wn : ¬ ((d : Int) + 1 = 0) := by omega
  simp only [PSt] at hkid
  rw [Pn.cells_eq K] at hkid hW
  obtain ⟨g, hg, -, -⟩ := pick_eq l (p1 + 1) W (by omega) (by omega) hl
  refine ⟨.mk 8 0 [] [g] [K], p1 + 1 + 1, u1, j1, ?_, by simp [Pn.thin, Pn.thinL, hK], by omega, by omega, by omega, by omega, by omega⟩
  rw [callA_eq rfl Try.func58 rfl rfl]
  simp [PSt, ht, hv, v0, we, hkid, hW, hkk, wn, hq, hg, hw1, Pn.cells_mk, Ex.cellsL, intsL, Pn.cellsL, Pn.cells_eq K]
theorem plan_join5 {l : List UInt8} (hl : l.length ≤ 2000) {ws : List Int} (hw : ∀ w ∈ ws, 0 ≤ w ∧ w ≤ 6) (hwl : ws.length < 1000000) {k : Nat} (hk0 : 0 < k) (hkl : k ≤ ws.length) {d j c2 : Nat} {p u t v W kk p1 u1 : Int} {j1 : Nat} {K : Pn} (hd : d < 100) (h1 : p1 + 400 + c2 < 300000000) (hp1 : 0 ≤ p1) (hu0 : 0 ≤ u1) (hu1 : u1 ≤ 1) (hW0 : 0 ≤ W) (hW6 : W ≤ 6) (hK : K.thin)
    (ht : callA C0 59 [.own 0 0, .int k] [Rd l p] = some (.int t, [Rd l (p + 1)])) (hv : callA C0 59 [.own 0 0, .int 6] [Rd l (p + 1)] = some (.int v, [Rd l (p + 1 + 1)])) (v0 : ¬ v = 0)
    (hkid : callA CP 58 [.own 0 0, .int d] (PSt l ws k j u (p + 1 + 1)) = some (.i (.agg K.cells), PSt l ws k j1 u1 p1))
    (hW : callA CP 60 [.i (.agg K.cells), .osl 0 1 0 k, .int 8] [some (.arr 1 (intsL ws))] = some (.int W, [some (.arr 1 (intsL ws))]))
    (hkk : callA C0 59 [.own 0 0, .int 10] [Rd l p1] = some (.int kk, [Rd l (p1 + 1)])) (hj : j1 ≠ 0) (hjb : j1 < 1000) (hw4 : W ≤ 4) (hoth : ∀ y : Nat, y ≤ 1 → PlanOk l ws k y (j1 - 1) c2) (hq : kk = 5) : ∃ (P : Pn) (p' u' : Int) (j' : Nat), callA CP 58 [.own 0 0, .int ((d + 1 : Nat) : Int)] (PSt l ws k j u p) = some (.i (.agg P.cells), PSt l ws k j' u' p') ∧ P.thin ∧ p1 ≤ p' ∧ p' ≤ p1 + 400 + c2 ∧ j' ≤ j1 ∧ 0 ≤ u' ∧ u' ≤ 1 := by
  have we : IntKind.i64.wrap (d : Int) = d := wrap64 (by omega) (by omega)
  have wn : ¬ ((d : Int) + 1 = 0) := by omega
  simp only [PSt] at hkid
  rw [Pn.cells_eq K] at hkid hW
  have hj' : 0 < j1 := by omega
  have wj : IntKind.i64.wrap ((j1 : Int) - 1) = ((j1 - 1 : Nat) : Int) := by rw [wrap64 (by omega) (by omega)]; omega
  obtain ⟨x, hx, hx1, -⟩ := pick_eq l (p1 + 1) 2 (by omega) (by omega) hl
  obtain ⟨x0, x1⟩ := hx1 (by omega)
  obtain ⟨y, rfl⟩ : ∃ y : Nat, x = y := ⟨x.toNat, by omega⟩
  obtain ⟨O, p2, u2, j2, hO, hOt, b1, b2, b3, b4, b5⟩ := hoth y (by omega) (p1 + 1 + 1) u1 (by omega) (by omega) hu0 hu1
  have hV := splanWidth_own hw hwl hk0 hkl O hOt
  have hVr := Pn.wd_range (ws := ws.take k) (fun w hm => hw w (List.mem_of_mem_take hm)) O 8
  generalize O.wd (ws.take k) 8 = V at hV hVr
  have wv : IntKind.i64.wrap (W + V) = W + V := wrap64 (by omega) (by omega)
  simp only [PSt] at hO
  rw [Pn.cells_eq O] at hO hV
  by_cases hs : W + V ≤ 6
  · have h1 := one_eq l p2 (by omega) (by omega) hl [[.int 4], [.int 5]] (by simp) (by simp) (by simp)
    obtain ⟨z, hz, hzm⟩ := h1
    obtain ⟨e, p3, he, a1, a2, a3⟩ := randomCondition_eq l hl (W + V) (p2 + 1) (by omega) (by omega)
    rw [Ex.cells_eq e] at he
    simp only [List.length_cons, List.length_nil, Nat.zero_add, Nat.reduceAdd] at hz
    have het := Ex.thin_of_size e (by omega)
    refine ⟨.mk z 0 [e] [] [K, O], p3, u2, j2, ?_, by simp [Pn.thin, Pn.thinL, hK, hOt, het], by omega, by omega, by omega, by omega, by omega⟩
    rw [callA_eq rfl Try.func58 rfl rfl]
    simp [PSt, ht, hv, v0, we, hkid, hW, hkk, wn, hq, hj', hj, hw4, wj, hx, hO, hV, wv, hs, hz, he, Pn.cells_mk, Ex.cellsL, intsL, Pn.cellsL, Pn.cells_eq K, Pn.cells_eq O, Ex.cells_eq e]
  · obtain ⟨e, p3, he, a1, a2, a3⟩ := randomCondition_eq l hl W p2 (by omega) (by omega)
    have hf := filterOf_eq e K
    rw [filtP_cells, Pn.cells_eq K, Ex.cells_eq e] at hf
    rw [Ex.cells_eq e] at he
    refine ⟨filtP e K, p3, u2, j2, ?_, filtP_thin (by omega) hK, by omega, by omega, by omega, by omega, by omega⟩
    rw [callA_eq rfl Try.func58 rfl rfl]
    simp [PSt, ht, hv, v0, we, hkid, hW, hkk, wn, hq, hj', hj, hw4, wj, hx, hO, hV, wv, hs, he, hf, filtP_cells, Pn.cells_eq K, Ex.cells_eq e]
theorem plan_join6 {l : List UInt8} (hl : l.length ≤ 2000) {ws : List Int} (hw : ∀ w ∈ ws, 0 ≤ w ∧ w ≤ 6) (hwl : ws.length < 1000000) {k : Nat} (hk0 : 0 < k) (hkl : k ≤ ws.length) {d j c2 : Nat} {p u t v W kk p1 u1 : Int} {j1 : Nat} {K : Pn} (hd : d < 100) (h1 : p1 + 400 + c2 < 300000000) (hp1 : 0 ≤ p1) (hu0 : 0 ≤ u1) (hu1 : u1 ≤ 1) (hW0 : 0 ≤ W) (hW6 : W ≤ 6) (hK : K.thin)
    (ht : callA C0 59 [.own 0 0, .int k] [Rd l p] = some (.int t, [Rd l (p + 1)])) (hv : callA C0 59 [.own 0 0, .int 6] [Rd l (p + 1)] = some (.int v, [Rd l (p + 1 + 1)])) (v0 : ¬ v = 0)
    (hkid : callA CP 58 [.own 0 0, .int d] (PSt l ws k j u (p + 1 + 1)) = some (.i (.agg K.cells), PSt l ws k j1 u1 p1))
    (hW : callA CP 60 [.i (.agg K.cells), .osl 0 1 0 k, .int 8] [some (.arr 1 (intsL ws))] = some (.int W, [some (.arr 1 (intsL ws))]))
    (hkk : callA C0 59 [.own 0 0, .int 10] [Rd l p1] = some (.int kk, [Rd l (p1 + 1)])) (hj : j1 ≠ 0) (hjb : j1 < 1000) (hw4 : W ≤ 4) (hoth : ∀ y : Nat, y ≤ 1 → PlanOk l ws k y (j1 - 1) c2) (hq : kk = 6) : ∃ (P : Pn) (p' u' : Int) (j' : Nat), callA CP 58 [.own 0 0, .int ((d + 1 : Nat) : Int)] (PSt l ws k j u p) = some (.i (.agg P.cells), PSt l ws k j' u' p') ∧ P.thin ∧ p1 ≤ p' ∧ p' ≤ p1 + 400 + c2 ∧ j' ≤ j1 ∧ 0 ≤ u' ∧ u' ≤ 1 := by
  have we : IntKind.i64.wrap (d : Int) = d := wrap64 (by omega) (by omega)
  have wn : ¬ ((d : Int) + 1 = 0) := by omega
  simp only [PSt] at hkid
  rw [Pn.cells_eq K] at hkid hW
  have hj' : 0 < j1 := by omega
  have wj : IntKind.i64.wrap ((j1 : Int) - 1) = ((j1 - 1 : Nat) : Int) := by rw [wrap64 (by omega) (by omega)]; omega
  obtain ⟨x, hx, hx1, -⟩ := pick_eq l (p1 + 1) 2 (by omega) (by omega) hl
  obtain ⟨x0, x1⟩ := hx1 (by omega)
  obtain ⟨y, rfl⟩ : ∃ y : Nat, x = y := ⟨x.toNat, by omega⟩
  obtain ⟨O, p2, u2, j2, hO, hOt, b1, b2, b3, b4, b5⟩ := hoth y (by omega) (p1 + 1 + 1) u1 (by omega) (by omega) hu0 hu1
  have hV := splanWidth_own hw hwl hk0 hkl O hOt
  have hVr := Pn.wd_range (ws := ws.take k) (fun w hm => hw w (List.mem_of_mem_take hm)) O 8
  generalize O.wd (ws.take k) 8 = V at hV hVr
  have wv : IntKind.i64.wrap (W + V) = W + V := wrap64 (by omega) (by omega)
  simp only [PSt] at hO
  rw [Pn.cells_eq O] at hO hV
  by_cases hs : W + V ≤ 6
  · have h1 := one_eq l p2 (by omega) (by omega) hl [[.int 4], [.int 5]] (by simp) (by simp) (by simp)
    obtain ⟨z, hz, hzm⟩ := h1
    obtain ⟨e, p3, he, a1, a2, a3⟩ := randomCondition_eq l hl (W + V) (p2 + 1) (by omega) (by omega)
    rw [Ex.cells_eq e] at he
    simp only [List.length_cons, List.length_nil, Nat.zero_add, Nat.reduceAdd] at hz
    have het := Ex.thin_of_size e (by omega)
    refine ⟨.mk z 0 [e] [] [K, O], p3, u2, j2, ?_, by simp [Pn.thin, Pn.thinL, hK, hOt, het], by omega, by omega, by omega, by omega, by omega⟩
    rw [callA_eq rfl Try.func58 rfl rfl]
    simp [PSt, ht, hv, v0, we, hkid, hW, hkk, wn, hq, hj', hj, hw4, wj, hx, hO, hV, wv, hs, hz, he, Pn.cells_mk, Ex.cellsL, intsL, Pn.cellsL, Pn.cells_eq K, Pn.cells_eq O, Ex.cells_eq e]
  · obtain ⟨e, p3, he, a1, a2, a3⟩ := randomCondition_eq l hl W p2 (by omega) (by omega)
    have hf := filterOf_eq e K
    rw [filtP_cells, Pn.cells_eq K, Ex.cells_eq e] at hf
    rw [Ex.cells_eq e] at he
    refine ⟨filtP e K, p3, u2, j2, ?_, filtP_thin (by omega) hK, by omega, by omega, by omega, by omega, by omega⟩
    rw [callA_eq rfl Try.func58 rfl rfl]
    simp [PSt, ht, hv, v0, we, hkid, hW, hkk, wn, hq, hj', hj, hw4, wj, hx, hO, hV, wv, hs, he, hf, filtP_cells, Pn.cells_eq K, Ex.cells_eq e]
theorem plan_proj3 {l : List UInt8} (hl : l.length ≤ 2000) {ws : List Int} {k : Nat} {d j c2 : Nat} {p u t v W kk p1 u1 : Int} {j1 : Nat} {K : Pn} (hd : d < 100) (h1 : p1 + 400 + c2 < 300000000) (hp1 : 0 ≤ p1) (hu0 : 0 ≤ u1) (hu1 : u1 ≤ 1) (hW0 : 0 ≤ W) (hW6 : W ≤ 6) (hK : K.thin)
    (ht : callA C0 59 [.own 0 0, .int k] [Rd l p] = some (.int t, [Rd l (p + 1)])) (hv : callA C0 59 [.own 0 0, .int 6] [Rd l (p + 1)] = some (.int v, [Rd l (p + 1 + 1)])) (v0 : ¬ v = 0)
    (hkid : callA CP 58 [.own 0 0, .int d] (PSt l ws k j u (p + 1 + 1)) = some (.i (.agg K.cells), PSt l ws k j1 u1 p1))
    (hW : callA CP 60 [.i (.agg K.cells), .osl 0 1 0 k, .int 8] [some (.arr 1 (intsL ws))] = some (.int W, [some (.arr 1 (intsL ws))]))
    (hkk : callA C0 59 [.own 0 0, .int 10] [Rd l p1] = some (.int kk, [Rd l (p1 + 1)])) (hq : kk = 3) : ∃ (P : Pn) (p' u' : Int) (j' : Nat), callA CP 58 [.own 0 0, .int ((d + 1 : Nat) : Int)] (PSt l ws k j u p) = some (.i (.agg P.cells), PSt l ws k j' u' p') ∧ P.thin ∧ p1 ≤ p' ∧ p' ≤ p1 + 400 + c2 ∧ j' ≤ j1 ∧ 0 ≤ u' ∧ u' ≤ 1 := by
  have we : IntKind.i64.wrap (d : Int) = d := wrap64 (by omega) (by omega)
  have wn : ¬ ((d : Int) + 1 = 0) := by omega
  simp only [PSt] at hkid
  rw [Pn.cells_eq K] at hkid hW
  obtain ⟨m, hm, hm1, -⟩ := pick_eq l (p1 + 1) 2 (by omega) (by omega) hl
  obtain ⟨m0, m1⟩ := hm1 (by omega)
  have w2 : IntKind.i64.wrap (2 : Int) = 2 := wrap64 (by omega) (by omega)
  have w1 := wrap_1
  have w0 : IntKind.i64.wrap (0 : Int) = 0 := wrap64 (by omega) (by omega)
  obtain ⟨x1, hx1, hy1, -⟩ := pick_eq l (p1 + 1 + 1) 2 (by omega) (by omega) hl
  obtain ⟨x1a, x1b⟩ := hy1 (by omega)
  obtain ⟨y1, rfl⟩ : ∃ y : Nat, x1 = y := ⟨x1.toNat, by omega⟩
  have hc1 : costE y1 ≤ 9 := by rcases (show y1 = 0 ∨ y1 = 1 by omega) with h | h <;> simp [h, costE]
  obtain ⟨e1, q1, he1, c1a, c1b, c1c⟩ := rE l hl W y1 (by omega) (by omega) ((p1 + 1 + 1) + 1) (by omega) (by omega)
  rw [Ex.cells_eq e1] at he1
  have t1 := Ex.thin_of_size e1 (by omega)
  rcases (show m = 0 ∨ m = 1 by omega) with rfl | rfl
  · refine ⟨.mk 3 0 [e1] [] [K], q1, u1, j1, ?_, by simp [Pn.thin, Pn.thinL, hK, t1], by omega, by omega, by omega, by omega, by omega⟩
    rw [callA_eq rfl Try.func58 rfl rfl]
    simp [PSt, ht, hv, v0, we, hkid, hW, hkk, wn, hq, hm, w1]
    rw [execA_loop]; simp [hx1, he1, w0]
    rw [execA_loop]; simp [Pn.cells_mk, Ex.cellsL, intsL, Pn.cellsL, Pn.cells_eq K, Ex.cells_eq e1, PSt]
  · obtain ⟨x2, hx2, hy2, -⟩ := pick_eq l q1 2 (by omega) (by omega) hl
    obtain ⟨x2a, x2b⟩ := hy2 (by omega)
    obtain ⟨y2, rfl⟩ : ∃ y : Nat, x2 = y := ⟨x2.toNat, by omega⟩
    have hc2 : costE y2 ≤ 9 := by rcases (show y2 = 0 ∨ y2 = 1 by omega) with h | h <;> simp [h, costE]
    obtain ⟨e2, q2, he2, c2a, c2b, c2c⟩ := rE l hl W y2 (by omega) (by omega) (q1 + 1) (by omega) (by omega)
    rw [Ex.cells_eq e2] at he2
    have t2 := Ex.thin_of_size e2 (by omega)
    refine ⟨.mk 3 0 [e1, e2] [] [K], q2, u1, j1, ?_, by simp [Pn.thin, Pn.thinL, hK, t1, t2], by omega, by omega, by omega, by omega, by omega⟩
    rw [callA_eq rfl Try.func58 rfl rfl]
    simp [PSt, ht, hv, v0, we, hkid, hW, hkk, wn, hq, hm, w2]
    rw [execA_loop]; simp [hx1, he1, w1]
    rw [execA_loop]; simp [hx2, he2, w0]
    rw [execA_loop]; simp [Pn.cells_mk, Ex.cellsL, intsL, Pn.cellsL, Pn.cells_eq K, Ex.cells_eq e1, Ex.cells_eq e2, PSt]
theorem plan_proj4 {l : List UInt8} (hl : l.length ≤ 2000) {ws : List Int} {k : Nat} {d j c2 : Nat} {p u t v W kk p1 u1 : Int} {j1 : Nat} {K : Pn} (hd : d < 100) (h1 : p1 + 400 + c2 < 300000000) (hp1 : 0 ≤ p1) (hu0 : 0 ≤ u1) (hu1 : u1 ≤ 1) (hW0 : 0 ≤ W) (hW6 : W ≤ 6) (hK : K.thin)
    (ht : callA C0 59 [.own 0 0, .int k] [Rd l p] = some (.int t, [Rd l (p + 1)])) (hv : callA C0 59 [.own 0 0, .int 6] [Rd l (p + 1)] = some (.int v, [Rd l (p + 1 + 1)])) (v0 : ¬ v = 0)
    (hkid : callA CP 58 [.own 0 0, .int d] (PSt l ws k j u (p + 1 + 1)) = some (.i (.agg K.cells), PSt l ws k j1 u1 p1))
    (hW : callA CP 60 [.i (.agg K.cells), .osl 0 1 0 k, .int 8] [some (.arr 1 (intsL ws))] = some (.int W, [some (.arr 1 (intsL ws))]))
    (hkk : callA C0 59 [.own 0 0, .int 10] [Rd l p1] = some (.int kk, [Rd l (p1 + 1)])) (hq : kk = 4) : ∃ (P : Pn) (p' u' : Int) (j' : Nat), callA CP 58 [.own 0 0, .int ((d + 1 : Nat) : Int)] (PSt l ws k j u p) = some (.i (.agg P.cells), PSt l ws k j' u' p') ∧ P.thin ∧ p1 ≤ p' ∧ p' ≤ p1 + 400 + c2 ∧ j' ≤ j1 ∧ 0 ≤ u' ∧ u' ≤ 1 := by
  have we : IntKind.i64.wrap (d : Int) = d := wrap64 (by omega) (by omega)
  have wn : ¬ ((d : Int) + 1 = 0) := by omega
  simp only [PSt] at hkid
  rw [Pn.cells_eq K] at hkid hW
  obtain ⟨m, hm, hm1, -⟩ := pick_eq l (p1 + 1) 2 (by omega) (by omega) hl
  obtain ⟨m0, m1⟩ := hm1 (by omega)
  have w2 : IntKind.i64.wrap (2 : Int) = 2 := wrap64 (by omega) (by omega)
  have w1 := wrap_1
  have w0 : IntKind.i64.wrap (0 : Int) = 0 := wrap64 (by omega) (by omega)
  obtain ⟨x1, hx1, hy1, -⟩ := pick_eq l (p1 + 1 + 1) 2 (by omega) (by omega) hl
  obtain ⟨x1a, x1b⟩ := hy1 (by omega)
  obtain ⟨y1, rfl⟩ : ∃ y : Nat, x1 = y := ⟨x1.toNat, by omega⟩
  have hc1 : costE y1 ≤ 9 := by rcases (show y1 = 0 ∨ y1 = 1 by omega) with h | h <;> simp [h, costE]
  obtain ⟨e1, q1, he1, c1a, c1b, c1c⟩ := rE l hl W y1 (by omega) (by omega) ((p1 + 1 + 1) + 1) (by omega) (by omega)
  rw [Ex.cells_eq e1] at he1
  have t1 := Ex.thin_of_size e1 (by omega)
  rcases (show m = 0 ∨ m = 1 by omega) with rfl | rfl
  · refine ⟨.mk 3 0 [e1] [] [K], q1, u1, j1, ?_, by simp [Pn.thin, Pn.thinL, hK, t1], by omega, by omega, by omega, by omega, by omega⟩
    rw [callA_eq rfl Try.func58 rfl rfl]
    simp [PSt, ht, hv, v0, we, hkid, hW, hkk, wn, hq, hm, w1]
    rw [execA_loop]; simp [hx1, he1, w0]
    rw [execA_loop]; simp [Pn.cells_mk, Ex.cellsL, intsL, Pn.cellsL, Pn.cells_eq K, Ex.cells_eq e1, PSt]
  · obtain ⟨x2, hx2, hy2, -⟩ := pick_eq l q1 2 (by omega) (by omega) hl
    obtain ⟨x2a, x2b⟩ := hy2 (by omega)
    obtain ⟨y2, rfl⟩ : ∃ y : Nat, x2 = y := ⟨x2.toNat, by omega⟩
    have hc2 : costE y2 ≤ 9 := by rcases (show y2 = 0 ∨ y2 = 1 by omega) with h | h <;> simp [h, costE]
    obtain ⟨e2, q2, he2, c2a, c2b, c2c⟩ := rE l hl W y2 (by omega) (by omega) (q1 + 1) (by omega) (by omega)
    rw [Ex.cells_eq e2] at he2
    have t2 := Ex.thin_of_size e2 (by omega)
    refine ⟨.mk 3 0 [e1, e2] [] [K], q2, u1, j1, ?_, by simp [Pn.thin, Pn.thinL, hK, t1, t2], by omega, by omega, by omega, by omega, by omega⟩
    rw [callA_eq rfl Try.func58 rfl rfl]
    simp [PSt, ht, hv, v0, we, hkid, hW, hkk, wn, hq, hm, w2]
    rw [execA_loop]; simp [hx1, he1, w1]
    rw [execA_loop]; simp [hx2, he2, w0]
    rw [execA_loop]; simp [Pn.cells_mk, Ex.cellsL, intsL, Pn.cellsL, Pn.cells_eq K, Ex.cells_eq e1, Ex.cells_eq e2, PSt]
end Go.Proofs.Yteihcffblfdgfaa.P

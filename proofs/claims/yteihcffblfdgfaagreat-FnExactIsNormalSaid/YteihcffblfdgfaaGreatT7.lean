/- Part 7 of what the proof rests on: the executor and what it is worth, and the program's functions as it runs them. No condition. -/
import Derived.Test.YteihcffblfdgfaaGreatT6
import Derived.ChangeOld
import Derived.OpenShut
set_option linter.unusedVariables false
set_option linter.unusedSimpArgs false
namespace Go.Av
def lowR (r:Int):Bool:=decide (r≠2∧r≠5∧r≠6)
def fstL (l:List Stp):Option Stp:=l.find? fun s=>lowR s.1
theorem fstL_app (a b:List Stp):fstL (a ++ b)=(fstL a).or (fstL b):=by unfold fstL; exact List.find?_append
def NS0 (R:Rng) (cs:List AV):StL:=[some (.loop R cs .ready),some (.box [.int 0, .nils]),some (.box [.bool false])]
def NS1 (R:Rng) (cs:List AV) (s:Stp):StL:=some (.loop R cs (.over .ret)) :: some (.box [.int s.1,if s.2=[] then .nils else .osl 3 1 0 s.2.length]) :: some (.box [.bool true]) :: (if s.2=[] then [] else [some (.frz 1 (intsL s.2))])
def NSr (R:Rng) (cs:List AV):Option Stp→Option (AV×StL)
 | none=>some (.bool true,NS0 R cs)
 | some s=>some (.bool false,NS1 R cs s)
theorem accR_none {ws path : List Int} {p : Pn} : ∀ {j : Nat}, j ≤ 11 → (∀ i, i < j → ((rwL ws ((i : Int) + 1) (8 - path.length) p).isSome && lowR ((i : Int) + 1)) = false) → fstL (accR ws path p j) = none
  | 0, _, _ => rfl
  | j + 1, hj, h => by
    rw [accR_succ (by omega), fstL_app, accR_none (by omega) fun i hi => h i (by omega)]
    have := h j (by omega)
    split
    · rename_i hs
      rw [hs] at this
      simp only [Bool.true_and] at this
      simp [fstL, this]
    · rfl
theorem accR_more {ws path : List Int} {p : Pn} {s : Stp} : ∀ (k j : Nat), j + k ≤ 11 → fstL (accR ws path p j) = some s → fstL (accR ws path p (j + k)) = some s
  | 0, j, _, h => h
  | k + 1, j, hj, h => by
    rw [← Nat.add_assoc, accR_succ (by omega), fstL_app, accR_more k j (by omega) h]; rfl
theorem accR_some {ws path:List Int} {p:Pn} {j:Nat} (hj:j < 11) (h:∀ i,i < j→((rwL ws ((i:Int) + 1) (8 - path.length) p).isSome && lowR ((i:Int) + 1))=false) (hb:((rwL ws ((j:Int) + 1) (8 - path.length) p).isSome && lowR ((j:Int) + 1))=true):fstL (accR ws path p 11)=some ((j:Int) + 1,path):=by
 have h1:fstL (accR ws path p (j + 1))=some ((j:Int) + 1,path):=by
  simp only [Bool.and_eq_true] at hb
  rw [accR_succ hj,fstL_app,accR_none (by omega) h,if_pos hb.1]
  simp [fstL,hb.2]
 have:=accR_more (10 - j) (j + 1) (by omega) h1
 rwa [show j + 1 + (10 - j)=11 by omega] at this
theorem fst_bad (q : Nat → Bool) (n : Nat) : ∃ j, j ≤ n ∧ (∀ i, i < j → q i = false) ∧ (j = n ∨ q j = true) := by
  induction n with
  | zero => exact ⟨0, Nat.le_refl _, fun i hi => by omega, .inl rfl⟩
  | succ n ih =>
    obtain ⟨j, h1, h2, h3⟩ := ih
    rcases h3 with rfl | h3
    · cases hq : q j with
      | true => exact ⟨j, by omega, h2, .inr hq⟩
      | false => exact ⟨j + 1, Nat.le_refl _, fun i hi => by
          by_cases e : i = j
          · subst e; exact hq
          · exact h2 i (by omega), .inl rfl⟩
    · exact ⟨j, by omega, h2, .inr h3⟩
theorem stIL_none {ws path : List Int} {l : List Pn} : ∀ {i : Nat}, i ≤ l.length → (∀ k, k < i → fstL (stI ws (path ++ [(k : Int)]) ((l[k]?).getD Pn.zero)) = none) → fstL (stIL ws path 0 (l.take i)) = none
  | 0, _, _ => by simp [stIL, fstL]
  | i + 1, hi, h => by
    have h3 := List.getElem?_eq_getElem (show i < l.length by omega)
    have h4 := h i (by omega)
    rw [h3] at h4
    rw [stIL_snoc ws path h3, fstL_app, stIL_none (by omega) fun k hk => h k (by omega)]
    exact h4
theorem stIL_first {ws path:List Int} {l:List Pn} {j:Nat} {a:Pn} {s:Stp} (h3:l[j]?=some a) (h:∀ k,k < j→fstL (stI ws (path ++ [(k:Int)]) ((l[k]?).getD Pn.zero))=none) (hs:fstL (stI ws (path ++ [(j:Int)]) a)=some s):fstL (stIL ws path 0 l)=some s:=by
 have hj:=(List.getElem?_eq_some_iff.1 h3).1
 have he:=stIL_append ws path (l.take (j + 1)) (l.drop (j + 1)) 0
 rw [List.take_append_drop] at he
 rw [he,fstL_app,stIL_snoc ws path h3,fstL_app,stIL_none (by omega) h,hs]
 rfl
theorem fstL_pre {ws path:List Int} {p:Pn} {s:Stp} (h:fstL (stI ws path p)=some s):∃ r,s.2=path ++ r:=stI_pre ws p path s (List.mem_of_find?_eq_some h)
end Go.Av
namespace Go.Proofs.YteihcffblfdgfaaGreat.P
open Go Go.Av
set_option maxRecDepth 4000
set_option maxHeartbeats 8000000
theorem normalizes_eq (r:Int) (path:List Int):callA C0 64 [.i (.agg [.int r, .isl (intsL path)])] []=some (.bool (lowR r),[]):=by
 rw [callA_eq rfl Tryz.func64 rfl rfl]
 unfold lowR
 by_cases h2:r=2
 ·simp [h2]
 ·by_cases h5:r=5
  ·simp [h5]
  ·by_cases h6:r=6
   ·simp [h6]
   ·simp [h2,h5,h6]
structure Yn (R:Rng) (cs:List AV):Prop where
 ids:cs=[.own 1 0, .own 2 0, .junk, .junk, .junk]
 n0:∀ r:Int,lowR r=false→callA C0 yldF [.fn (.yield 0) [.own 0 0], .agg [.int r, .nils]] (NS0 R cs)=some (.bool true,NS0 R cs)
 n1:∀ (r:Int) (path:List Int),path≠[]→lowR r=false→callA C0 yldF [.fn (.yield 0) [.own 0 0], .agg [.int r, .osl 3 1 0 path.length]] (NS0 R cs ++ [some (.arr 1 (intsL path))])=some (.bool true,NS0 R cs ++ [some (.frz 1 (intsL path))])
 y0:∀ r:Int,lowR r=true→callA C0 yldF [.fn (.yield 0) [.own 0 0], .agg [.int r, .nils]] (NS0 R cs)=some (.bool false,NS1 R cs (r,[]))
 y1:∀ (r:Int) (path:List Int),path≠[]→lowR r=true→callA C0 yldF [.fn (.yield 0) [.own 0 0], .agg [.int r, .osl 3 1 0 path.length]] (NS0 R cs ++ [some (.arr 1 (intsL path))])=some (.bool false,NS1 R cs (r,path))
def RNX (R:Rng) (cs:List AV) (ws path:List Int) (p:Pn) (i:Nat):AS :=
 {env:=[(0, .i (.iref [.int p.kind, .int p.table, .isl (Ex.cellsL p.exprs), .isl (intsL p.cols), .isl (Pn.cellsL p.kids)])),(1, .i (.isl (intsL ws))),(2, .i (.isl (intsL path))),(3, .fn (.yield 0) [.own 0 0]),(8, .bool false),(9, .int ((i:Int) + 1)),(11,jk i (.bool (rwL ws (i:Int) (8 - path.length) p).isSome)),(12, .junk),(14,jk i (.bool true)),(28,jk i (.bool (!(rwL ws (i:Int) (8 - path.length) p).isSome))),(35,if accR ws path p i=[] then .junk else .bool false),(40, .junk),(41, .junk),(42, .junk),(58, .junk)],
  st:=NS0 R cs }
def KNX (R:Rng) (cs:List AV) (ws path:List Int) (p:Pn) (i:Nat):AS :=
 {env:=[(0, .i (.iref [.int p.kind, .int p.table, .isl (Ex.cellsL p.exprs), .isl (intsL p.cols), .isl (Pn.cellsL p.kids)])),(1, .i (.isl (intsL ws))),(2, .i (.isl (intsL path))),(3, .fn (.yield 0) [.own 0 0]),(8, .bool false),(9, .int 12),(11, .bool (rwL ws 11 (8 - path.length) p).isSome),(12,jk i (.int (i - 1))),(14, .bool false),(28, .bool (!(rwL ws 11 (8 - path.length) p).isSome)),(35,if accR ws path p 11=[] then .junk else .bool false),(40, .int p.kids.length),(41, .int i),(42,jk i (.bool true)),(58,jk i (.bool false))],
  st:=NS0 R cs }
theorem eachStepN_eq {R : Rng} {cs : List AV} (hY : Yn R cs) {ws : List Int} (hw : okWs ws = true) : ∀ (p : Pn) (path : List Int), path.length ≤ 8 → p.wd ws (8 - path.length) ≠ 0 →
    callA C0 71 [.i (.iref p.cells), .i (.isl (intsL ws)), .i (.isl (intsL path)), .fn (.yield 0) [.own 0 0]] (NS0 R cs) = NSr R cs (fstL (stI ws path p)) := by
  obtain ⟨rfl, n0, n1, y0, y1⟩ := hY
  intro p
  induction p using Pn.ind with
  | h k t es cols ks ih =>
    intro path hl hp
    have hp8 : (Pn.mk k t es cols ks).wd ws 8 ≠ 0 := by rw [Pn.wd_more _ _ 8 hp (by omega)]; exact hp
    have hkids := fun h => wd_kids (p := .mk k t es cols ks) (lv := 8 - path.length) hp h
    have hacc := stI_acc ws path (.mk k t es cols ks)
    generalize hpe : Pn.mk k t es cols ks = p at *
    have hks : ks = p.kids := by rw [← hpe]; rfl
    subst hks
    obtain ⟨lv, hlv⟩ : ∃ lv : Nat, 8 - path.length = lv := ⟨_, rfl⟩
    have hw8 : IntKind.i64.wrap (8 - (path.length : Int)) = (lv : Int) := by rw [wrap64 (by omega) (by omega)]; omega
    have hr := fun r => rewritten_eq hw hp8 r (lv := lv) (by omega)
    have hcp := copiedPath path
    obtain ⟨j, hj, h1, h2⟩ := fst_bad (fun i => (rwL ws ((i : Int) + 1) (8 - path.length) p).isSome && lowR ((i : Int) + 1)) 11
    rw [hacc, fstL_app, callA_eq rfl Tryz.func71 rfl rfl, Pn.cells_eq]
    rw [Pn.cells_eq p] at hr
    simp [NS0]
    rw [loop_to (RNX R [.own 1 0, .own 2 0, .junk, .junk, .junk] ws path p) j (by simp [RNX, NS0, accR])]
    · rw [execA_loop]
      by_cases hj11 : j = 11
      · subst hj11
        rw [accR_none (by omega) h1]
        obtain ⟨j2, hj2, g1, g2⟩ := fst_bad (fun i => (fstL (stI ws (path ++ [(i : Int)]) ((p.kids[i]?).getD Pn.zero))).isSome) p.kids.length
        have g1' : ∀ k, k < j2 → fstL (stI ws (path ++ [(k : Int)]) ((p.kids[k]?).getD Pn.zero)) = none := fun k hk => by simpa using g1 k hk
        have hkid : ∀ (i : Nat) (a : Pn), p.kids[i]? = some a → p.kids.length ≤ 2 ∧ path.length + 1 ≤ 8 ∧ callA C0 71 [.i (.iref a.cells), .i (.isl (intsL ws)), .i (.isl (intsL path ++ [[.int i]])), .fn (.yield 0) [.own 0 0]] (NS0 R [.own 1 0, .own 2 0, .junk, .junk, .junk]) = NSr R [.own 1 0, .own 2 0, .junk, .junk, .junk] (fstL (stI ws (path ++ [(i : Int)]) a)) := fun i a ha => by
          have hm := List.mem_of_getElem? ha
          obtain ⟨hk2, hlv0, hkw⟩ := hkids (by intro h; rw [h] at hm; simp at hm)
          have hpl : (path ++ [(i : Int)]).length = path.length + 1 := by simp
          have := ih a hm (path ++ [(i : Int)]) (by omega) (by rw [hpl, show 8 - (path.length + 1) = 8 - path.length - 1 by omega]; exact hkw a hm)
          rw [intsL_snoc] at this
          exact ⟨hk2, by omega, this⟩
        have hl1 : (path.length + 1) * 8 ≤ 140737488355328 := by omega
        have ht1 : ∀ i : Nat, List.take (path.length + 1) (intsL path ++ [[.int (i : Int)]]) = intsL path ++ [[.int i]] := fun i => List.take_of_length_le (by simp)
        by_cases ha : accR ws path p 11 = []
        all_goals
          simp [RNX, NS0, ha]
          rw [loop_to (KNX R [.own 1 0, .own 2 0, .junk, .junk, .junk] ws path p) j2 (by simp [KNX, NS0, ha])]
          · rw [execA_loop]
            by_cases hjk : j2 = p.kids.length
            · have hz : fstL (stIL ws path 0 p.kids) = none := by
                have := stIL_none (ws := ws) (path := path) (l := p.kids) (i := p.kids.length) (Nat.le_refl _) (by rw [← hjk]; exact g1')
                rwa [List.take_length] at this
              rw [hz]
              simp [KNX, NS0, NSr, ha, hjk]
            · have hjl : j2 < p.kids.length := by omega
              have h3 := List.getElem?_eq_getElem hjl
              generalize p.kids[j2] = a at h3
              have r2 := Pn.cellsL_nth h3
              obtain ⟨hk2, hpl8, hk⟩ := hkid j2 a h3
              have hb := g2.resolve_left hjk
              rw [h3] at hb
              cases hf : fstL (stI ws (path ++ [(j2 : Int)]) a) with
              | none => simp [hf] at hb
              | some s =>
                obtain ⟨r, hr2⟩ := fstL_pre hf
                have hs0 : s.2 ≠ [] := by rw [hr2]; simp
                rw [stIL_first h3 g1' hf]
                rw [hf] at hk
                simp [NSr, NS0, NS1, hs0] at hk
                rw [Pn.cells_eq a] at r2 hk
                rcases hcp with rfl | hcp
                · simp [intsL] at hk
                  simp [KNX, NS0, NSr, NS1, ha, hjl, r2, copiedIs_nil, hk, intsL, hs0]
                · have hc := copiedIs_eq hcp (by omega)
                  simp [KNX, NS0, NSr, NS1, ha, hjl, r2, hc, hk, intsL, hs0, hl1, ht1]
          · intro i hi
            have hil : i < p.kids.length := by omega
            have h3 := List.getElem?_eq_getElem hil
            generalize p.kids[i] = a at h3
            have r2 := Pn.cellsL_nth h3
            obtain ⟨hk2, hpl8, hk⟩ := hkid i a h3
            have hn := g1' i hi
            rw [h3] at hn
            simp only [Option.getD_some] at hn
            rw [hn] at hk
            simp [NSr, NS0] at hk
            have w2 : IntKind.i64.wrap ((i : Int) + 1) = i + 1 := wrap64 (by omega) (by omega)
            rw [Pn.cells_eq a] at r2 hk
            rcases hcp with rfl | hcp
            · simp [intsL] at hk
              simp [KNX, NS0, ha, hil, r2, w2, copiedIs_nil, hk, intsL]
            · have hc := copiedIs_eq hcp (by omega)
              simp [KNX, NS0, ha, hil, r2, w2, hc, hk, intsL, hl1, ht1]
      · have hb := (h2.resolve_left hj11)
        have hjl : j < 11 := by omega
        rw [accR_some hjl h1 hb]
        simp only [Bool.and_eq_true] at hb
        obtain ⟨hb1, hb2⟩ := hb
        have hr1 := hr ((j : Int) + 1)
        rw [hlv] at hb1
        rw [hb1] at hr1
        have hi11 : (j : Int) + 1 ≤ 11 := by omega
        rcases hcp with rfl | hcp
        · have hc := copiedIs_nil
          have hy := y0 _ hb2
          obtain rfl : lv = 8 := by simpa using hlv.symm
          simp at hw8
          rw [show ((8 : Nat) : Int) = 8 from rfl] at hr1
          simp [NS0, NS1] at hy
          by_cases ha : accR ws [] p j = [] <;> simp [RNX, NS0, NSr, NS1, ha, hr1, hw8, hi11, hc, hy, intsL]
        · have hc := copiedIs_eq hcp (by omega)
          have hy := y1 _ path hcp hb2
          simp [NS0, NS1, hcp] at hy
          by_cases ha : accR ws path p j = [] <;> simp [RNX, NS0, NSr, NS1, ha, hr1, hw8, hi11, hlv, hc, hy, hcp]
    · intro i hi
      have hs := accR_succ (ws := ws) (path := path) (p := p) (i := i) (by omega)
      have w2 : IntKind.i64.wrap ((i : Int) + 1 + 1) = i + 1 + 1 := wrap64 (by omega) (by omega)
      have hi11 : (i : Int) + 1 ≤ 11 := by omega
      have hr1 := hr ((i : Int) + 1)
      have hnb := h1 i hi
      rw [hlv] at hs hnb
      cases hb : (rwL ws ((i : Int) + 1) lv p).isSome with
      | false =>
        rw [hb] at hs hr1
        simp at hs
        by_cases ha : accR ws path p i = [] <;> simp [RNX, NS0, hs, ha, hr1, hw8, w2, hi11, hlv, hb]
      | true =>
        rw [hb] at hs hr1 hnb
        simp at hs hnb
        rcases hcp with rfl | hcp
        · have hc := copiedIs_nil
          have hy := n0 _ hnb
          obtain rfl : lv = 8 := by simpa using hlv.symm
          simp at hw8
          rw [show ((8 : Nat) : Int) = 8 from rfl] at hr1
          simp [NS0] at hy
          by_cases ha : accR ws [] p i = [] <;> simp [RNX, NS0, hs, ha, hr1, hw8, w2, hi11, hb, hc, hy, intsL]
        · have hc := copiedIs_eq hcp (by omega)
          have hy := n1 _ path hcp hnb
          simp [NS0] at hy
          by_cases ha : accR ws path p i = [] <;> simp [RNX, NS0, hs, ha, hr1, hw8, w2, hi11, hlv, hb, hc, hy]
def stpO:Option Stp→IV
 | none=>.agg [.int 0, .isl []]
 | some s=>.agg [.int s.1, .isl (intsL s.2)]
theorem steps1N_eq {R : Rng} {cs : List AV} (hY : Yn R cs) {ws : List Int} (hw : okWs ws = true) {p : Pn} (hp : p.wd ws 8 ≠ 0) : callA C0 70 [.fn (.yield 0) [.own 0 0], .own 3 0, .own 4 0] [some (.loop R cs .ready), some (.box [.int 0, .nils]), some (.box [.bool false]), some (.box [.i (.iref p.cells)]), some (.box [.i (.isl (intsL ws))])] =
    match fstL (stI ws [] p) with
    | none => some (.tup [], [some (.loop R cs .ready), some (.box [.int 0, .nils]), some (.box [.bool false]), some (.box [.i (.iref p.cells)]), some (.box [.i (.isl (intsL ws))])])
    | some s => some (.tup [], some (.loop R cs (.over .ret)) :: some (.box [.int s.1, if s.2 = [] then .nils else .osl 5 1 0 s.2.length]) :: some (.box [.bool true]) :: some (.box [.i (.iref p.cells)]) :: some (.box [.i (.isl (intsL ws))]) :: (if s.2 = [] then [] else [some (.frz 1 (intsL s.2))])) := by
  have h := eachStepN_eq hY hw p [] (by simp) (by simpa using hp)
  obtain ⟨rfl, _⟩ := hY
  rw [callA_eq rfl Tryz.func70 rfl rfl]
  cases hf : fstL (stI ws [] p) with
  | none =>
    simp [hf, NSr, NS0, intsL] at h
    simp [h]
  | some s =>
    by_cases hs : s.2 = []
    · simp [hf, NSr, NS0, NS1, hs, intsL] at h
      simp [h, hs]
    · simp [hf, NSr, NS0, NS1, hs, intsL] at h
      simp [h, hs]
theorem normStep_eq {ws : List Int} (hw : okWs ws = true) {p : Pn} (hp : p.wd ws 8 ≠ 0) : callA C0 41 [.i (.iref p.cells), .i (.isl (intsL ws))] [] = some (.tup [.i (stpO (fstL (stI ws [] p))), .bool (fstL (stI ws [] p)).isSome], []) := by
  have c3 := fun R cs (hY : Yn R cs) => steps1N_eq hY hw hp
  have c2 := steps_eq p ws
  rw [callA_eq rfl Tryz.func41 rfl rfl]
  simp only [Pn.cells_eq p] at c2 c3 ⊢
  simp [c2, noRange, readsC, tmpsC, tmpsOs, tmpsO, Op.operands, Call.operands, yldF]
  generalize hR : Rng.mk [0, 1, 4, 5, 6, 9, 10, 12] _ [10] _ _ = R
  have hY : Yn R [.own 1 0, .own 2 0, .junk, .junk, .junk] := by
    clear c2 c3
    refine ⟨rfl, ?_, ?_, ?_, ?_⟩
    · intro r h
      have hn := normalizes_eq r []
      rw [h] at hn
      simp [intsL] at hn
      subst hR
      rw [callA_yld]
      simp [NS0, hn]
    · intro r path hp h
      have hn := normalizes_eq r path
      rw [h] at hn
      subst hR
      rw [callA_yld]
      have ht : path.take path.length = path := List.take_of_length_le (by omega)
      simp [NS0, hn, ht]
    · intro r h
      have hn := normalizes_eq r []
      rw [h] at hn
      simp [intsL] at hn
      subst hR
      rw [callA_yld]
      simp [NS0, NS1, hn]
    · intro r path hp h
      have hn := normalizes_eq r path
      rw [h] at hn
      subst hR
      rw [callA_yld]
      have ht : path.take path.length = path := List.take_of_length_le (by omega)
      simp [NS0, NS1, hn, ht, hp]
  have c3 := c3 R _ hY
  clear hR
  cases hf : fstL (stI ws [] p) with
  | none =>
    simp [hf] at c3
    simp [c3, stpO]
  | some s =>
    by_cases hs : s.2 = []
    · simp [hf, hs] at c3
      simp [c3, stpO, hs, intsL]
    · simp [hf, hs] at c3
      simp [c3, stpO]
theorem IsNormal_eq (p:Pn) (ws:List Int):callA C0 13 [.i (.agg p.cells), .i (.isl (intsL ws))] []=some (.bool (decide (p.width ws≠0) && (fstL (stepsP p ws)).isNone),[]):=by
 have c1:=planWidth_eq p ws
 unfold stepsP
 by_cases h0:p.width ws=0
 ·rw [callA_eq rfl Tryz.func13 rfl rfl]
  simp only [Pn.cells_eq p] at c1 ⊢
  simp [c1,h0]
 ·obtain ⟨hw,hp,_⟩:=width_okWs h0
  have c2:=normStep_eq hw hp
  rw [if_neg h0,callA_eq rfl Tryz.func13 rfl rfl]
  simp only [Pn.cells_eq p] at c1 c2 ⊢
  generalize fstL (stI ws [] p)=o at *
  cases o with
  | none=>simp [c1,c2,h0,stpO]
  | some s=>simp [c1,c2,h0,stpO]
end Go.Proofs.YteihcffblfdgfaaGreat.P

namespace Go.Proofs.YteihcffblfdgfaaGreat.P
open Go Go.Av
set_option maxRecDepth 4000
set_option maxHeartbeats 4000000
theorem applyE_name {args:List AV} {st:StL} {q:AV×StL} (h:applyE args st=some q):∃ fn,Tryz.prog.funcs[22]?=some fn∧fn.name≠ "runtime.NumGoroutine"∧fn.body.isSome=true:=⟨Tryz.f22,Tryz.func22,by decide,rfl⟩
theorem applyE_calls {args : List AV} {st st' : StL} {r : AV} (h : applyE args st = some (r, st')) : ∀ (w : World) (m : Mem) (φ : Pl) (vs : List Value), Inv w m φ (stOf st) → RepL m φ args vs → (∀ id, φ id ≠ none → id < st.length) → Calls Tryz.prog 22 vs.toArray w (CallPost w m φ r st') := by
  intro w m φ vs hi hr h0
  obtain ⟨p, ws, k, path, rfl, rfl, hq⟩ := applyE_some h
  cases ho : apO p ws k path with
  | none =>
    rw [ho] at hq
    injection hq with h1 h2
    subst h1; subst h2
    have hn : p.width ws = 0 ∨ apI ws k path p = none := by
      unfold apO at ho
      by_cases hw : p.width ws = 0
      · exact .inl hw
      · rw [if_neg hw] at ho; exact .inr ho
    exact (callA_sound sound0).calls _ _ _ _ _ (by decide) (apply_none hn) w m φ vs hi hr h0
  | some q =>
    rw [ho] at hq
    injection hq with h1 h2
    subst h1; subst h2
    unfold apO at ho
    by_cases hw : p.width ws = 0
    · rw [if_pos hw] at ho; cases ho
    · rw [if_neg hw] at ho
      obtain rfl : φ = fun _ => none := by
        funext id
        cases h : φ id with
        | none => rfl
        | some p => exact absurd (h0 id (by rw [h]; simp)) (Nat.not_lt_zero _)
      exact apply_some hw ho hi hr
def ownQ:FuncId→Bool
 | 41=>true
 | g=>ownP g
@[simp] theorem ownQ_eq (g:FuncId):ownQ g=if g=41 then true else ownP g:=by
 unfold ownQ; split
 ·rfl
 ·rename_i h; rw [if_neg h]
noncomputable def primA:FuncId→Option (List AV→StL→Option (AV×StL))
 | 22=>some applyE
 | 41=>some (lookK (bodyA C0 true 41))
 | 21=>some (callA CR 21)
 | 47=>some (callA CR 47)
 | 44=>some (callA CR 44)
 | g=>primR g
noncomputable def CA:Ctx:={ P:=Tryz.prog,G:=GS,ownArgs:=ownQ,keepRes:=keepQ,eqT:=eqTy,prim:=primA }
@[simp] theorem CA_P:CA.P=Tryz.prog:=(rfl)
@[simp] theorem CA_G (f):CA.G f=GS f:=(rfl)
@[simp] theorem CA_o (f):CA.ownArgs f=ownQ f:=(rfl)
@[simp] theorem CA_k (f):CA.keepRes f=(keepR f || decide (f=101)):=(rfl)
@[simp] theorem CA_e (f):CA.eqT f=eqTy f:=(rfl)
@[simp] theorem CA_t:CA.tree=false:=(rfl)
theorem primA0 : PrimOk CA := by
  constructor
  · intro g args st p h
    unfold primCall at h
    cases hq : CA.prim g with
    | none => rw [hq] at h; cases h
    | some q =>
      rw [hq] at h
      have hq : primA g = some q := hq
      unfold primA at hq
      split at hq
      all_goals first
        | (cases hq; done)
        | (injection hq with hq; subst hq; exact applyE_name h)
        | (injection hq with hq; subst hq; exact (lookK_sound (C := CA) (fun args stl r stl' h => bodyA_sound sound0 h) (r := p.1) (stl' := p.2) h).1)
        | (injection hq with hq; subst hq; exact (callA_sound soundR).name _ _ _ _ (by decide) h)
        | exact primR0.name g args st p (by unfold primCall; rw [show CR.prim g = some q from hq]; exact h)
  · intro g args st r st' h w m φ vs hi hr hb
    unfold primCall at h
    cases hq : CA.prim g with
    | none => rw [hq] at h; cases h
    | some q =>
      rw [hq] at h
      have hq : primA g = some q := hq
      unfold primA at hq
      split at hq
      all_goals first
        | (cases hq; done)
        | (injection hq with hq; subst hq; exact applyE_calls h w m φ vs hi hr hb)
        | (injection hq with hq; subst hq; exact (lookK_sound (C := CA) (fun args stl r stl' h => bodyA_sound sound0 h) h).2 w m φ vs hi hr hb)
        | (injection hq with hq; subst hq; exact (callA_sound soundR).calls _ _ _ _ _ (by decide) h w m φ vs hi hr hb)
        | exact primR0.calls g args st r st' (by unfold primCall; rw [show CR.prim g = some q from hq]; exact h) w m φ vs hi hr hb
theorem soundAp:SoundOk CA:=sound_ok (C:=CA) ft nt eqS mo primA0
theorem ca_ApplyStep (p:Pn) (ws:List Int) (r:Int) (path:List Int):callA CA 22 [.i (.agg p.cells), .i (.isl (intsL ws)), .i (.agg [.int r, .isl (intsL path)])] []=some (apR (apO p ws r path)):=by rw [callA_prim (p:=applyE) rfl]; exact applyE_eq p ws r path
@[simp] theorem ca_Draw (a:List AV) (st:StL):callA CA 21 a st=callA CR 21 a st:=by rw [callA_prim (p:=callA CR 21) rfl]
@[simp] theorem ca_StepsFor (a:List AV) (st:StL):callA CA 17 a st=callA C0 17 a st:=by rw [callA_prim (p:=callA C0 17) rfl]
@[simp] theorem ca_sStepsFor (a:List AV) (st:StL):callA CA 19 a st=callA C0 19 a st:=by rw [callA_prim (p:=callA C0 19) rfl]
@[simp] theorem ca_equalSteps (a:List AV) (st:StL):callA CA 18 a st=callA C0 18 a st:=by rw [callA_prim (p:=callA C0 18) rfl]
@[simp] theorem ca_equalInts (a:List AV) (st:StL):callA CA 20 a st=callA C0 20 a st:=by rw [callA_prim (p:=callA C0 20) rfl]
end Go.Proofs.YteihcffblfdgfaaGreat.P

namespace Go.Proofs.YteihcffblfdgfaaGreat.P
open Go Go.Av
set_option maxRecDepth 4000
set_option maxHeartbeats 2000000
end Go.Proofs.YteihcffblfdgfaaGreat.P

namespace Go.Av
theorem stepsP_mem {p:Pn} {ws:List Int} {s:Stp}:s∈stepsP p ws ↔ (apO p ws s.1 s.2).isSome=true:=by
 unfold stepsP apO
 by_cases h0:p.width ws=0
 ·simp [h0]
 ·obtain ⟨hw,hp8,hv⟩:=width_okWs h0
  rw [if_neg h0,if_neg h0,steps_same (okWs_rng hw) hp8,stS_mem,ap_eq (okWs_rng hw) hp8]
def anyU (S:List Stp) (r:Int) (path:List Int) (i:Nat):Bool:=(S.take i).any fun t=>t.1 == r && t.2 == path
theorem anyU_0 (S:List Stp) (r:Int) (path:List Int):anyU S r path 0=false:=by simp [anyU]
theorem anyU_succ {S:List Stp} {r:Int} {path:List Int} {i:Nat} {s:Stp} (h:S[i]?=some s):anyU S r path (i + 1)=(anyU S r path i || (s.1 == r && s.2 == path)):=by
 unfold anyU
 rw [List.take_add_one,h,List.any_append]
 simp
theorem anyU_len (S:List Stp) (r:Int) (path:List Int):anyU S r path S.length=S.any fun t=>t.1 == r && t.2 == path:=by simp [anyU]
end Go.Av
namespace Go.Proofs.YteihcffblfdgfaaGreat.P
open Go Go.Av
set_option maxRecDepth 4000
set_option maxHeartbeats 2000000
def bxT (r:Int) (path:List Int):Option Blk:=some (.box [.i (.int r), .i (.isl (intsL path))])
def SF1 (code:List UInt8) (p:Pn) (ws:List Int) (r:Int) (path:List Int) (S:List Stp) (i:Nat):AS :=
 {env:=[(0, .i (.isl (bytesI code))),(2, .bool false),(3, .own 0 0),(4, .i (.isl (intsL ws))),(5, .own 1 0),(6, .i (.isl (stpsL S))),(7, .int i),(9,jk i (.bool true)),(11, .junk),(12, .junk),(13, .junk),(16, .bool false),(31, .bool false),(35,jk i (.bool true)),(49,jk i (.bool false)),(60, .junk)],st:=[boxP p,bxT r path] }
def SF2 (code:List UInt8) (p:Pn) (ws:List Int) (r:Int) (path:List Int) (S:List Stp) (ok:Bool) (i:Nat):AS :=
 {env:=[(0, .i (.isl (bytesI code))),(2, .bool false),(3, .own 0 0),(4, .i (.isl (intsL ws))),(5, .own 1 0),(6, .i (.isl (stpsL S))),(7, .int S.length),(9,jk S.length (.bool true)),(11, .bool ok),(12, .bool (anyU S r path i)),(13, .int i),(16, .bool false),(31, .bool false),(35, .bool false),(49,jk S.length (.bool false)),(60,jk i (.bool true))],st:=[boxP p,bxT r path] }
theorem law_stepsFor (code : List UInt8) : callA CA 7 [.i (.isl (bytesI code))] [] = some (.bool true, []) := by
  rw [callA_eq rfl Tryz.func7 rfl rfl]
  by_cases hl : (code.length : Int) > 1048576
  · simp [bytesI_length, hl, show ((1048576 : Int) < code.length) from hl]
  obtain ⟨p, ws, r, path, hd, hp, hws, hpl⟩ := drawApply_eq code
  have e1 := StepsFor_eq p ws
  have e2 := sStepsFor_eq p hp ws (by omega)
  have hsm := stepsP_small p ws
  have hs8 := stepsP_len (p := p) (ws := ws)
  have e3 := equalSteps_refl (stepsP p ws) (by omega) hs8
  have hmem := fun s => stepsP_mem (p := p) (ws := ws) (s := s)
  have ea := fun r path => ca_ApplyStep p ws r path
  generalize stepsP p ws = S at *
  have hfin : (S.any fun t => t.1 == r && t.2 == path) = (apO p ws r path).isSome := by
    have := hmem (r, path)
    cases h : (apO p ws r path).isSome with
    | true =>
      rw [h] at this
      exact List.any_eq_true.2 ⟨(r, path), this.2 rfl, by simp⟩
    | false =>
      rw [h] at this
      cases hb : (S.any fun t => t.1 == r && t.2 == path) with
      | false => rfl
      | true =>
        obtain ⟨t, ht, hb⟩ := List.any_eq_true.1 hb
        simp only [Bool.and_eq_true, beq_iff_eq] at hb
        have : t = (r, path) := Prod.ext hb.1 hb.2
        subst this
        exact absurd (this.1 ht) (by simp)
  rw [Pn.cells_eq p] at *
  simp [bytesI_length, hl, hd, e1, e2, e3]
  rw [loop_to (SF1 code p ws r path S) S.length (by simp [SF1, boxP, bxT])]
  · rw [execA_loop]
    have e5 := ea r path
    cases ho : apO p ws r path with
    | none =>
      rw [ho] at e5 hfin
      simp [apR, Pn.zero, Pn.cells, Ex.cellsL, intsL, Pn.cellsL] at e5
      simp [SF1, boxP, bxT, e5]
      rw [loop_to (SF2 code p ws r path S false) S.length (by simp [SF2, boxP, bxT, anyU_0])]
      · rw [execA_loop]
        simp [SF2, boxP, bxT, anyU_len, hfin]
      · intro i hi
        have q1 := List.getElem?_eq_getElem hi
        have hm := List.mem_of_getElem? q1
        have ht := anyU_succ (r := r) (path := path) q1
        generalize S[i] = s at q1 hm ht
        have r1 := stpsL_nth q1
        have h8 := hs8 s hm
        have he := equalInts_eq (l := s.2) (m := path) (by omega)
        have w2 : IntKind.i64.wrap ((i : Int) + 1) = i + 1 := wrap64 (by omega) (by omega)
        simp only [stpC] at r1
        by_cases hr : s.1 = r
        · cases hb : (s.2 == path) <;> rw [hb] at he ht <;> cases hz : anyU S r path i <;> simp [hz, hr] at ht <;> simp [SF2, boxP, bxT, hi, r1, he, w2, ht, hz, hr]
        · cases hz : anyU S r path i <;> simp [hz, hr] at ht <;> simp [SF2, boxP, bxT, hi, r1, hr, w2, ht, hz]
    | some q =>
      rw [ho] at e5 hfin
      simp [apR, Pn.cells_eq q] at e5
      simp [SF1, boxP, bxT, e5]
      rw [loop_to (SF2 code p ws r path S true) S.length (by simp [SF2, boxP, bxT, anyU_0])]
      · rw [execA_loop]
        simp [SF2, boxP, bxT, anyU_len, hfin]
      · intro i hi
        have q1 := List.getElem?_eq_getElem hi
        have hm := List.mem_of_getElem? q1
        have ht := anyU_succ (r := r) (path := path) q1
        generalize S[i] = s at q1 hm ht
        have r1 := stpsL_nth q1
        have h8 := hs8 s hm
        have he := equalInts_eq (l := s.2) (m := path) (by omega)
        have w2 : IntKind.i64.wrap ((i : Int) + 1) = i + 1 := wrap64 (by omega) (by omega)
        simp only [stpC] at r1
        by_cases hr : s.1 = r
        · cases hb : (s.2 == path) <;> rw [hb] at he ht <;> cases hz : anyU S r path i <;> simp [hz, hr] at ht <;> simp [SF2, boxP, bxT, hi, r1, he, w2, ht, hz, hr]
        · cases hz : anyU S r path i <;> simp [hz, hr] at ht <;> simp [SF2, boxP, bxT, hi, r1, hr, w2, ht, hz]
  · intro i hi
    have q1 := List.getElem?_eq_getElem hi
    have hm := List.mem_of_getElem? q1
    generalize S[i] = s at q1 hm
    have r1 := stpsL_nth q1
    have hok := (hmem s).1 hm
    have e5 := ea s.1 s.2
    have w2 : IntKind.i64.wrap ((i : Int) + 1) = i + 1 := wrap64 (by omega) (by omega)
    simp only [stpC] at r1
    cases ho : apO p ws s.1 s.2 with
    | none => rw [ho] at hok; cases hok
    | some q =>
      rw [ho] at e5
      simp [apR, Pn.cells_eq q] at e5
      simp [SF1, boxP, bxT, hi, r1, e5, w2]
theorem law_stepsFor_calls (a:Option Addr) (len cap:Nat) (zs:List Int) (w:World)
  (h:(a=none∧len=0∧cap=0∧zs=[])∨∃ x,a=some x∧len≤cap∧cap≤maxLen∧zs.length=cap∧(∀ i,i < zs.length→w.cell? (x.add i)=some (.int .u8 (zs.getD i 0)))∧∀ n∈zs,(Lit.int .u8 n).wf=true) :
  Calls Tryz.prog 7 #[.slice a len cap] w fun e w'=>e=.returned (.bool true)∧RowKit.Below w.heap.size w w':=by
 obtain ⟨code,hc⟩:=bytes_rep h
 exact calls_true soundAp (.cons (.i hc) .nil) (law_stepsFor code)
end Go.Proofs.YteihcffblfdgfaaGreat.P

namespace Go.Proofs.YteihcffblfdgfaaGreat.P
open Go Go.Av
set_option maxRecDepth 4000
set_option maxHeartbeats 8000000
theorem lowers_eq (r:Int):callA C0 37 [.int r] []=some (.bool (lowR r),[]):=by
 rw [callA_eq rfl Tryz.func37 rfl rfl]
 unfold lowR
 by_cases h2:r=2
 ·simp [h2]
 ·by_cases h5:r=5
  ·simp [h5]
  ·by_cases h6:r=6
   ·simp [h6]
   ·simp [h2,h5,h6]
def SNX (p:Pn) (ws:List Int) (S:List Stp) (i:Nat):AS :=
 {env:=[(0, .i (.agg [.int p.kind, .int p.table, .isl (Ex.cellsL p.exprs), .isl (intsL p.cols), .isl (Pn.cellsL p.kids)])),(1, .i (.isl (intsL ws))),(2, .own 0 0),(4, .bool false),(5, .i (.isl (stpsL S))),(6, .int i),(10, .bool (p.width ws == 0)),(17,jk i (.bool true)),(25,jk i (.bool false))],st:=[boxP p] }
theorem sIsNormal_eq (p : Pn) (hp : p.thin) (ws : List Int) (hl : ws.length < 1000000000) : callA C0 10 [.i (.agg p.cells), .i (.isl (intsL ws))] [] = some (.bool (decide (p.width ws ≠ 0) && (fstL (stepsP p ws)).isNone), []) := by
  have c1 := widthOf_eq p (Pn.thin_lim p hp) ws (by omega)
  unfold stepsP
  by_cases h0 : p.width ws = 0
  · rw [callA_eq rfl Tryz.func10 rfl rfl]
    simp only [Pn.cells_eq p] at c1 ⊢
    simp [c1, h0]
  · obtain ⟨hw, hp8, hv⟩ := width_okWs h0
    have c2 := sstepsFor_eq hw hp8
    have hst := steps_same (okWs_range hw) hp8
    rw [← hst] at c2
    rw [if_neg h0, callA_eq rfl Tryz.func10 rfl rfl]
    simp only [Pn.cells_eq p] at c1 c2 ⊢
    have hsm := stI_len ws p []
    have hpf := (Pn.wd_fit p 8 hp8).2
    simp [c1, h0, c2]
    generalize stI ws [] p = S at *
    obtain ⟨j, k1, k2⟩ := upto_bad (fun s : Stp => !lowR s.1) S
    rw [loop_to (SNX p ws S) j (by simp [SNX, boxP])]
    · rw [execA_loop]
      rcases k2 with ⟨hj, ha⟩ | ⟨s, q1, q2, q3, ha⟩
      · have hf : fstL S = none := by
          unfold fstL
          rw [List.find?_eq_none]
          intro s hs
          have := List.all_eq_true.1 ha s hs
          simpa using this
        simp [SNX, boxP, hj, hf]
      · have hj := (List.getElem?_eq_some_iff.1 q1).1
        have r1 := stpsL_nth q1
        have hlo : lowR s.1 = true := by simpa using q3
        have hf : (fstL S).isNone = false := by
          unfold fstL
          cases h : S.find? fun s => lowR s.1 with
          | some x => rfl
          | none =>
            rw [List.find?_eq_none] at h
            exact absurd hlo (h s q2)
        have hlw := lowers_eq s.1
        rw [hlo] at hlw
        simp only [stpC] at r1
        simp [SNX, boxP, hj, r1, hlw, hf]
    · intro i hi
      obtain ⟨s, q1, q2, q3⟩ := k1 i hi
      have hj := (List.getElem?_eq_some_iff.1 q1).1
      have r1 := stpsL_nth q1
      have hlo : lowR s.1 = false := by simpa using q3
      have hlw := lowers_eq s.1
      rw [hlo] at hlw
      have w2 : IntKind.i64.wrap ((i : Int) + 1) = i + 1 := wrap64 (by omega) (by omega)
      simp only [stpC] at r1
      simp [SNX, boxP, hj, r1, hlw, w2]
end Go.Proofs.YteihcffblfdgfaaGreat.P

namespace Go.Proofs.YteihcffblfdgfaaGreat
open Go Go.Av
end Go.Proofs.YteihcffblfdgfaaGreat

namespace Go.Av
theorem first_bad (P : Nat → Prop) [DecidablePred P] : ∀ n : Nat, (∀ i, i < n → P i) ∨ ∃ j, j < n ∧ (∀ i, i < j → P i) ∧ ¬ P j
  | 0 => .inl fun i hi => by omega
  | n + 1 => by
    rcases first_bad P n with h | ⟨j, h1, h2, h3⟩
    · by_cases hn : P n
      · exact .inl fun i hi => by
          by_cases e : i = n
          · subst e; exact hn
          · exact h i (by omega)
      · exact .inr ⟨n, by omega, h, hn⟩
    · exact .inr ⟨j, by omega, h2, h3⟩
def leftN (left:Int) (n:Nat):Int:=if (n:Int)≤left then left - n else -1
theorem sizeL_split (l : List Ex) {i : Nat} {a : Ex} (h : l[i]? = some a) : Ex.sizeL (l.take (i + 1)) = Ex.sizeL (l.take i) + a.size := by
  induction l generalizing i with
  | nil => simp at h
  | cons b l ih =>
    cases i with
    | zero => simp at h; subst h; simp [Ex.sizeL]
    | succ i => have := ih (i := i) (by simpa using h); simp only [List.take_succ_cons, Ex.sizeL] at this ⊢; omega
theorem sizeL_mono (l : List Ex) (i : Nat) : Ex.sizeL (l.take i) ≤ Ex.sizeL l := by
  induction l generalizing i with
  | nil => simp [Ex.sizeL]
  | cons b l ih =>
    cases i with
    | zero => simp [Ex.sizeL]
    | succ i => simp only [List.take_succ_cons, Ex.sizeL]; have := ih i; omega
theorem sizeL_take_len : ∀ (l : List Ex) (i : Nat), i ≤ l.length → i ≤ Ex.sizeL (l.take i)
  | [], i, h => by simp at h; subst h; simp
  | a :: l, 0, _ => by simp
  | a :: l, i + 1, h => by
    have := sizeL_take_len l i (by simpa using h)
    have := Ex.size_pos a
    simp only [List.take_succ_cons, Ex.sizeL]; omega
end Go.Av
namespace Go.Proofs.YteihcffblfdgfaaGreat
open Go Go.Av
set_option maxRecDepth 4000
set_option maxHeartbeats 1000000
theorem szE_eq {e:Ex} {left:Int} (h:callA C0 32 [.i (.isl (Ex.cellsL e.kids)), .int left] []=some (.int (leftN left (Ex.sizeL e.kids)),[])) :
  callA C0 57 [.i (.agg e.cells), .int left] []=some (.int (leftN left (Ex.sizeL e.kids)),[]):=by
 rw [callA_eq rfl Tryz.func57 rfl rfl,Ex.cells_eq]
 simp [h]
 by_cases h0:leftN left (Ex.sizeL e.kids) < 0
 ·have:leftN left (Ex.sizeL e.kids)=-1:=by unfold leftN at h0 ⊢; split<;>rename_i hc<;>simp [hc] at h0 ⊢; omega
  simp [h0,this]
 ·simp [h0]
def szI (l:List Ex) (left:Int) (i:Nat):Int:=left - l.length - (Ex.sizeL (l.take i) - i)
def SZ (l:List Ex) (left:Int) (i:Nat):AS :=
 {env:=[(0, .i (.isl (Ex.cellsL l))),(1, .int (szI l left i)),(4, .int 0),(5, .int i),(11, .bool false),(15,jk i (.bool true)),(25,jk i (.bool false))],st:=[] }
theorem szS_step {l : List Ex} {left : Int} (h0 : 0 ≤ left) (h1 : left < 1000000000) (hl : l.length < 9223372036854775808)
    (ih : ∀ a ∈ l, ∀ left : Int, 0 ≤ left → left < 1000000000 → callA C0 57 [.i (.agg a.cells), .int left] [] = some (.int (leftN left (Ex.sizeL a.kids)), [])) :
    callA C0 32 [.i (.isl (Ex.cellsL l)), .int left] [] = some (.int (leftN left (Ex.sizeL l)), []) := by
  rw [callA_eq rfl Tryz.func32 rfl rfl]
  have w1 : IntKind.i64.wrap (left - l.length) = left - l.length := wrap64 (by omega) (by omega)
  have hsl := Ex.sizeL_length l
  by_cases hc : left - l.length < 0
  · have : ¬ ((Ex.sizeL l : Nat) : Int) ≤ left := by omega
    simp [w1, hc, leftN, this]
  simp [w1, hc]
  have hpre : ∀ i, i < l.length → ∃ a, l[i]? = some a ∧ a ∈ l ∧ Ex.sizeL (l.take (i + 1)) = Ex.sizeL (l.take i) + (1 + Ex.sizeL a.kids) ∧ nthE (Ex.cellsL l) i = some a.cells := by
    intro i hi
    have h3 := List.getElem?_eq_getElem hi
    refine ⟨_, h3, List.mem_of_getElem? h3, ?_, Ex.cellsL_nth h3⟩
    rw [sizeL_split l h3, Ex.size_eq]
  have hround : ∀ i, i < l.length → 0 ≤ szI l left i → ∃ a : Ex, nthE (Ex.cellsL l) i = some a.cells ∧ callA C0 57 [.i (.agg a.cells), .int (szI l left i)] [] = some (.int (if 0 ≤ szI l left (i + 1) then szI l left (i + 1) else -1), []) := by
    intro i hi hs
    obtain ⟨a, h3, hm, hz, hn⟩ := hpre i hi
    have hti := sizeL_take_len l i (by omega)
    refine ⟨a, hn, ?_⟩
    rw [ih a hm _ hs (by unfold szI; omega)]
    congr 2
    unfold leftN
    congr 1
    by_cases hle : ((Ex.sizeL a.kids : Nat) : Int) ≤ szI l left i
    · rw [if_pos hle, if_pos (by unfold szI at hle ⊢; omega)]; unfold szI; omega
    · rw [if_neg hle, if_neg (by unfold szI at hle ⊢; omega)]
  rcases first_bad (fun i => 0 ≤ szI l left (i + 1)) l.length with hall | ⟨j, hj, hlt, hbad⟩
  · rw [loop_to (SZ l left) l.length (by simp [SZ, szI, Ex.sizeL])]
    · rw [execA_loop]
      have hfin : leftN left (Ex.sizeL l) = szI l left l.length := by
        have hT : l.take l.length = l := List.take_of_length_le (by simp)
        have hge : 0 ≤ szI l left l.length := by
          cases hn : l.length with
          | zero => unfold szI; rw [hn]; simp [Ex.sizeL]; omega
          | succ n => exact hn ▸ hall n (by omega)
        unfold leftN; unfold szI at hge ⊢; rw [hT] at hge ⊢; rw [if_pos (by omega)]; omega
      rw [hfin]
      simp [SZ]
    · intro i hi
      have hs : 0 ≤ szI l left i := by
        cases i with
        | zero => unfold szI; simp [Ex.sizeL]; omega
        | succ i => exact hall i (by omega)
      obtain ⟨a, hn, hc⟩ := hround i hi hs
      have hs1 := hall i hi
      have hs1 : 0 ≤ szI l left (i + 1) := hs1
      rw [if_pos hs1] at hc
      have w2 : IntKind.i64.wrap ((i : Int) + 1) = i + 1 := wrap64 (by omega) (by omega)
      rw [Ex.cells_eq] at hn hc
      simp [SZ, hi, hn, hc, w2, show ¬ szI l left (i + 1) < 0 by omega]
  · have hsl2 : leftN left (Ex.sizeL l) = -1 := by
      have hm := sizeL_mono l (j + 1)
      have hbad : ¬ 0 ≤ szI l left (j + 1) := hbad
      obtain ⟨a, h3, _, _, _⟩ := hpre j hj
      have hrest : Ex.sizeL (l.take (j + 1)) + (l.length - (j + 1)) ≤ Ex.sizeL l := by
        have e1 : Ex.sizeL l = Ex.sizeL (l.take (j + 1)) + Ex.sizeL (l.drop (j + 1)) := by
          have key : ∀ (n : Nat) (l : List Ex), Ex.sizeL l = Ex.sizeL (l.take n) + Ex.sizeL (l.drop n) := by
            intro n
            induction n with
            | zero => intro l; simp [Ex.sizeL]
            | succ n ih => intro l; cases l with
              | nil => simp [Ex.sizeL]
              | cons b l => simp only [List.take_succ_cons, List.drop_succ_cons, Ex.sizeL]; have := ih l; omega
          exact key _ _
        have e2 := Ex.sizeL_length (l.drop (j + 1))
        simp at e2; omega
      unfold leftN; unfold szI at hbad; rw [if_neg (by omega)]
    rw [hsl2, loop_to (SZ l left) j (by simp [SZ, szI, Ex.sizeL])]
    · rw [execA_loop]
      have hs : 0 ≤ szI l left j := by
        cases j with
        | zero => unfold szI; simp [Ex.sizeL]; omega
        | succ j => exact hlt j (by omega)
      obtain ⟨a, hn, hc⟩ := hround j hj hs
      have hbad : ¬ 0 ≤ szI l left (j + 1) := hbad
      rw [if_neg hbad] at hc
      rw [Ex.cells_eq] at hn hc
      simp [SZ, hj, hn, hc]
    · intro i hi
      have hs : 0 ≤ szI l left i := by
        cases i with
        | zero => unfold szI; simp [Ex.sizeL]; omega
        | succ i => exact hlt i (by omega)
      obtain ⟨a, hn, hc⟩ := hround i (by omega) hs
      have hs1 : 0 ≤ szI l left (i + 1) := hlt i hi
      rw [if_pos hs1] at hc
      have w2 : IntKind.i64.wrap ((i : Int) + 1) = i + 1 := wrap64 (by omega) (by omega)
      rw [Ex.cells_eq] at hn hc
      simp [SZ, show i < l.length by omega, hn, hc, w2, show ¬ szI l left (i + 1) < 0 by omega]
end Go.Proofs.YteihcffblfdgfaaGreat

namespace Go.Av
mutual
def Ex.fat:Ex→Prop
 | .mk _ _ _ ks=>ks.length < 9223372036854775808∧Ex.fatL ks
def Ex.fatL:List Ex→Prop
 | []=>True
 | e :: es=>e.fat∧Ex.fatL es
end
theorem Ex.fatL_iff:∀ (l:List Ex),Ex.fatL l ↔ ∀ k∈l,k.fat
 | []=>by simp [Ex.fatL]
 | e :: es=>by simp [Ex.fatL,Ex.fatL_iff es]
theorem Ex.fat_iff (e:Ex):e.fat ↔ e.kids.length < 9223372036854775808∧∀ k∈e.kids,k.fat:=by
 cases e; simp [Ex.fat,Ex.kids,Ex.fatL_iff]
end Go.Av
namespace Go.Proofs.YteihcffblfdgfaaGreat
open Go Go.Av
set_option maxRecDepth 4000
set_option maxHeartbeats 2000000
theorem sz_eq : ∀ (e : Ex), e.fat → ∀ left : Int, 0 ≤ left → left < 1000000000 → callA C0 57 [.i (.agg e.cells), .int left] [] = some (.int (leftN left (Ex.sizeL e.kids)), []) := by
  intro e
  induction e using Ex.ind with
  | h k c v ks ih =>
    intro hf left h0 h1
    have hf' := (Ex.fat_iff _).1 hf
    exact szE_eq (szS_step h0 h1 hf'.1 fun a ha => ih a ha (hf'.2 a ha))
theorem szS_eq (l:List Ex) (hl:l.length < 9223372036854775808) (hf:∀ a∈l,a.fat) (left:Int) (h0:0≤left) (h1:left < 1000000000):callA C0 32 [.i (.isl (Ex.cellsL l)), .int left] []=some (.int (leftN left (Ex.sizeL l)),[]) :=
 szS_step h0 h1 hl fun a ha=>sz_eq a (hf a ha)
theorem eqV_refl (v:Val):callA C0 100 [.i (.agg [.bool v.null, .int v.n]), .i (.agg [.bool v.null, .int v.n])] []=some (.bool true,[]):=by
 rw [callA_eq rfl Tryz.func100 rfl rfl]
 simp
theorem eqE_of {e:Ex} (h:callA C0 42 [.i (.isl (Ex.cellsL e.kids)), .i (.isl (Ex.cellsL e.kids))] []=some (.bool true,[])):callA C0 65 [.i (.agg e.cells), .i (.agg e.cells)] []=some (.bool true,[]):=by
 rw [callA_eq rfl Tryz.func65 rfl rfl,Ex.cells_eq]
 have hv:=eqV_refl e.val
 simp [hv,h]
def EQ (l:List Ex) (i:Nat):AS :=
 {env:=[(0, .i (.isl (Ex.cellsL l))),(1, .i (.isl (Ex.cellsL l))),(4, .bool false),(5, .int i),(10, .bool false),(14,jk i (.bool true)),(26,jk i (.bool false))],st:=[] }
theorem eqS_of {l:List Ex} (hl:l.length < 9223372036854775808) (ih:∀ a∈l,callA C0 65 [.i (.agg a.cells), .i (.agg a.cells)] []=some (.bool true,[])):callA C0 42 [.i (.isl (Ex.cellsL l)), .i (.isl (Ex.cellsL l))] []=some (.bool true,[]):=by
 rw [callA_eq rfl Tryz.func42 rfl rfl]
 simp
 rw [loop_to (EQ l) l.length (by simp [EQ])]
 ·rw [execA_loop]
  simp [EQ]
 ·intro i hi
  have h3:=List.getElem?_eq_getElem hi
  have hc:=ih _ (List.mem_of_getElem? h3)
  have r2:=Ex.cellsL_nth h3
  generalize l[i]=a at h3 hc r2
  have w2:IntKind.i64.wrap ((i:Int) + 1)=i + 1:=wrap64 (by omega) (by omega)
  rw [Ex.cells_eq] at hc r2
  simp [EQ,hi,r2,hc,w2]
theorem eqE_refl : ∀ (e : Ex), e.fat → callA C0 65 [.i (.agg e.cells), .i (.agg e.cells)] [] = some (.bool true, []) := by
  intro e
  induction e using Ex.ind with
  | h k c v ks ih =>
    intro hf
    have hf' := (Ex.fat_iff _).1 hf
    exact eqE_of (eqS_of hf'.1 fun a ha => ih a ha (hf'.2 a ha))
theorem eqS_refl (l:List Ex) (hl:l.length < 9223372036854775808) (hf:∀ a∈l,a.fat):callA C0 42 [.i (.isl (Ex.cellsL l)), .i (.isl (Ex.cellsL l))] []=some (.bool true,[]):=eqS_of hl fun a ha=>eqE_refl a (hf a ha)
end Go.Proofs.YteihcffblfdgfaaGreat

namespace Go.Av
mutual
def Pn.fat:Pn→Prop
 | .mk _ _ es cs ks=>es.length < 9223372036854775808∧(∀ e∈es,e.fat)∧cs.length < 9223372036854775808∧ks.length < 9223372036854775808∧Pn.fatL ks
def Pn.fatL:List Pn→Prop
 | []=>True
 | p :: ps=>p.fat∧Pn.fatL ps
end
theorem Pn.fatL_iff:∀ (l:List Pn),Pn.fatL l ↔ ∀ p∈l,p.fat
 | []=>by simp [Pn.fatL]
 | p :: ps=>by simp [Pn.fatL,Pn.fatL_iff ps]
theorem Pn.fat_iff (p:Pn):p.fat ↔ p.exprs.length < 9223372036854775808∧(∀ e∈p.exprs,e.fat)∧p.cols.length < 9223372036854775808∧p.kids.length < 9223372036854775808∧∀ a∈p.kids,a.fat:=by
 cases p; simp [Pn.fat,Pn.fatL_iff]
end Go.Av
namespace Go.Proofs.YteihcffblfdgfaaGreat.P
open Go Go.Av
set_option maxRecDepth 4000
set_option maxHeartbeats 4000000
def TIX (l:List Int) (i:Nat):AS :=
 {env:=[(0, .i (.isl (intsL l))),(2, .nils),(3, .osl 0 1 0 l.length),(4, .int i),(11,jk i (.bool true))],st:=[some (.arr 1 (intsL (l.take i) ++ List.replicate (l.length - i) [.int 0]))] }
theorem toIntS_eq (l:List Int) (hl:l.length < 1000000000):callA C0 12 [.i (.isl (intsL l))] []=some (.i (.isl (intsL l)),[]):=by
 rw [callA_eq rfl Tryz.func12 rfl rfl]
 have hb:8 * (l.length:Int)≤281474976710656:=by omega
 simp [hb]
 rw [loop_to (TIX l) l.length (by simp [TIX,intsL])]
 ·rw [execA_loop]
  simp [TIX]
 ·intro i hi
  have h3:=List.getElem?_eq_getElem hi
  have r2:=intsL_nth h3
  generalize l[i]=a at h3 r2
  have w2:IntKind.i64.wrap ((i:Int) + 1)=i + 1:=wrap64 (by omega) (by omega)
  have hD:(intsL (l.take i)).length=i:=by simp; omega
  have g1:=half_nth (n:=l.length) (z:=[IV.int 0]) hD hi
  have g2:=half_set (n:=l.length) (z:=[IV.int 0]) (x:=[IV.int a]) hD hi
  have hS:intsL (l.take i) ++ [[IV.int a]]=intsL (l.take (i + 1)):=by rw [take_snoc h3,intsL_snoc]
  rw [hS] at g2
  simp [TIX,hi,r2,w2,g1,g2]
def EIX (l:List Int) (i:Nat):AS :=
 {env:=[(0, .i (.isl (intsL l))),(1, .i (.isl (intsL l))),(4, .bool false),(5, .int i),(10, .bool false),(14,jk i (.bool true)),(25,jk i (.bool false))],st:=[] }
theorem eqIntS_refl (l:List Int) (hl:l.length < 9223372036854775808):callA C0 15 [.i (.isl (intsL l)), .i (.isl (intsL l))] []=some (.bool true,[]):=by
 rw [callA_eq rfl Tryz.func15 rfl rfl]
 simp
 rw [loop_to (EIX l) l.length (by simp [EIX])]
 ·rw [execA_loop]
  simp [EIX]
 ·intro i hi
  have h3:=List.getElem?_eq_getElem hi
  have r2:=intsL_nth h3
  generalize l[i]=a at h3 r2
  have w2:IntKind.i64.wrap ((i:Int) + 1)=i + 1:=wrap64 (by omega) (by omega)
  simp [EIX,hi,r2,w2]
theorem eqPlan_of {p:Pn} (h1:callA C0 42 [.i (.isl (Ex.cellsL p.exprs)), .i (.isl (Ex.cellsL p.exprs))] []=some (.bool true,[])) (h2:callA C0 15 [.i (.isl (intsL p.cols)), .i (.isl (intsL p.cols))] []=some (.bool true,[])) (h3:callA C0 43 [.i (.isl (Pn.cellsL p.kids)), .i (.isl (Pn.cellsL p.kids))] []=some (.bool true,[])) :
  callA C0 14 [.i (.agg p.cells), .i (.agg p.cells)] []=some (.bool true,[]):=by
 rw [callA_eq rfl Tryz.func14 rfl rfl,Pn.cells_eq]
 simp [h1,h2,h3]
def EPS (l:List Pn) (i:Nat):AS :=
 {env:=[(0, .i (.isl (Pn.cellsL l))),(1, .i (.isl (Pn.cellsL l))),(4, .bool false),(5, .int i),(10, .bool false),(14,jk i (.bool true)),(26,jk i (.bool false))],st:=[] }
theorem eqPlanS_of {l:List Pn} (hl:l.length < 9223372036854775808) (ih:∀ a∈l,callA C0 14 [.i (.agg a.cells), .i (.agg a.cells)] []=some (.bool true,[])):callA C0 43 [.i (.isl (Pn.cellsL l)), .i (.isl (Pn.cellsL l))] []=some (.bool true,[]):=by
 rw [callA_eq rfl Tryz.func43 rfl rfl]
 simp
 rw [loop_to (EPS l) l.length (by simp [EPS])]
 ·rw [execA_loop]
  simp [EPS]
 ·intro i hi
  have h3:=List.getElem?_eq_getElem hi
  have hc:=ih _ (List.mem_of_getElem? h3)
  have r2:=Pn.cellsL_nth h3
  generalize l[i]=a at h3 hc r2
  have w2:IntKind.i64.wrap ((i:Int) + 1)=i + 1:=wrap64 (by omega) (by omega)
  rw [Pn.cells_eq] at hc r2
  simp [EPS,hi,r2,hc,w2]
theorem eqPlan_refl : ∀ (p : Pn), p.fat → callA C0 14 [.i (.agg p.cells), .i (.agg p.cells)] [] = some (.bool true, []) := by
  intro p
  induction p using Pn.ind with
  | h k t es cs ks ih =>
    intro hf
    obtain ⟨h1, h2, h3, h4, h5⟩ := (Pn.fat_iff _).1 hf
    exact eqPlan_of (eqS_refl es h1 h2) (eqIntS_refl cs h3) (eqPlanS_of h4 fun a ha => ih a ha (h5 a ha))
end Go.Proofs.YteihcffblfdgfaaGreat.P

namespace Go.Proofs.YteihcffblfdgfaaGreat.P
open Go Go.Av
set_option maxRecDepth 4000
set_option maxHeartbeats 4000000
theorem toE_of {e:Ex} (h:callA C0 38 [.i (.isl (Ex.cellsL e.kids))] []=some (.i (.isl (Ex.cellsL e.kids)),[])):callA C0 61 [.i (.agg e.cells)] []=some (.i (.agg e.cells),[]):=by
 have hv:callA C0 96 [.i (.agg [.bool e.val.null, .int e.val.n])] []=some (.i (.agg [.bool e.val.null, .int e.val.n]),[]):=by
  rw [callA_eq rfl Tryz.func96 rfl rfl]
  simp
 rw [callA_eq rfl Tryz.func61 rfl rfl,Ex.cells_eq]
 simp [h,hv]
def TES (l:List Ex) (i:Nat):AS :=
 {env:=[(0, .i (.isl (Ex.cellsL l))),(2, .nils),(3, .osl 0 5 0 l.length),(4, .int i),(11,jk i (.bool true))],st:=[some (.arr 5 (Ex.cellsL (l.take i) ++ List.replicate (l.length - i) zrw))] }
theorem toES_of {l:List Ex} (hl:l.length < 1000000000) (ih:∀ a∈l,callA C0 61 [.i (.agg a.cells)] []=some (.i (.agg a.cells),[])):callA C0 38 [.i (.isl (Ex.cellsL l))] []=some (.i (.isl (Ex.cellsL l)),[]):=by
 rw [callA_eq rfl Tryz.func38 rfl rfl]
 have hb:56 * (l.length:Int)≤281474976710656:=by omega
 simp [hb]
 rw [loop_to (TES l) l.length (by simp [TES,Ex.cellsL,zrw])]
 ·rw [execA_loop]
  simp [TES]
 ·intro i hi
  have h3:=List.getElem?_eq_getElem hi
  have hc:=ih _ (List.mem_of_getElem? h3)
  have r2:=Ex.cellsL_nth h3
  generalize l[i]=a at h3 r2 hc
  have w2:IntKind.i64.wrap ((i:Int) + 1)=i + 1:=wrap64 (by omega) (by omega)
  have hD:(Ex.cellsL (l.take i)).length=i:=by simp; omega
  have g1:=half_nth (n:=l.length) (z:=zrw) hD hi
  have g2:=half_set (n:=l.length) (z:=zrw) (x:=a.cells) hD hi
  have g3:splice zrw 0 a.cells=some a.cells:=splice_all (by simp [zrw])
  have hS:Ex.cellsL (l.take i) ++ [a.cells]=Ex.cellsL (l.take (i + 1)):=by rw [take_snoc h3,Ex.cellsL_snoc]
  rw [hS] at g2
  rw [Ex.cells_eq] at hc r2 g2 g3
  simp [TES,hi,r2,w2,g1,g2,g3,hc]
theorem toExpr_eq : ∀ (e : Ex), e.thin → callA C0 61 [.i (.agg e.cells)] [] = some (.i (.agg e.cells), []) := by
  intro e
  induction e using Ex.ind with
  | h k c v ks ih =>
    intro ht
    have h := (Ex.thin_iff _).1 ht
    exact toE_of (toES_of h.1 fun a ha => ih a ha (h.2 a ha))
theorem toP_of {p:Pn} (h1:callA C0 38 [.i (.isl (Ex.cellsL p.exprs))] []=some (.i (.isl (Ex.cellsL p.exprs)),[])) (h2:callA C0 12 [.i (.isl (intsL p.cols))] []=some (.i (.isl (intsL p.cols)),[])) (h3:callA C0 39 [.i (.isl (Pn.cellsL p.kids))] []=some (.i (.isl (Pn.cellsL p.kids)),[])) :
  callA C0 11 [.i (.agg p.cells)] []=some (.i (.agg p.cells),[]):=by
 rw [callA_eq rfl Tryz.func11 rfl rfl,Pn.cells_eq]
 simp [h1,h2,h3]
def zpw:List IV:=[.int 0, .int 0, .isl [], .isl [], .isl []]
def TPS (l:List Pn) (i:Nat):AS :=
 {env:=[(0, .i (.isl (Pn.cellsL l))),(2, .nils),(3, .osl 0 5 0 l.length),(4, .int i),(11,jk i (.bool true))],st:=[some (.arr 5 (Pn.cellsL (l.take i) ++ List.replicate (l.length - i) zpw))] }
theorem toPS_of {l:List Pn} (hl:l.length < 1000000000) (ih:∀ a∈l,callA C0 11 [.i (.agg a.cells)] []=some (.i (.agg a.cells),[])):callA C0 39 [.i (.isl (Pn.cellsL l))] []=some (.i (.isl (Pn.cellsL l)),[]):=by
 rw [callA_eq rfl Tryz.func39 rfl rfl]
 have hb:88 * (l.length:Int)≤281474976710656:=by omega
 simp [hb]
 rw [loop_to (TPS l) l.length (by simp [TPS,Pn.cellsL,zpw])]
 ·rw [execA_loop]
  simp [TPS]
 ·intro i hi
  have h3:=List.getElem?_eq_getElem hi
  have hc:=ih _ (List.mem_of_getElem? h3)
  have r2:=Pn.cellsL_nth h3
  generalize l[i]=a at h3 r2 hc
  have w2:IntKind.i64.wrap ((i:Int) + 1)=i + 1:=wrap64 (by omega) (by omega)
  have hD:(Pn.cellsL (l.take i)).length=i:=by simp; omega
  have g1:=half_nth (n:=l.length) (z:=zpw) hD hi
  have g2:=half_set (n:=l.length) (z:=zpw) (x:=a.cells) hD hi
  have g3:splice zpw 0 a.cells=some a.cells:=splice_all (by simp [zpw])
  have hS:Pn.cellsL (l.take i) ++ [a.cells]=Pn.cellsL (l.take (i + 1)):=by rw [take_snoc h3,Pn.cellsL_snoc]
  rw [hS] at g2
  rw [Pn.cells_eq] at hc r2 g2 g3
  simp [TPS,hi,r2,w2,g1,g2,g3,hc]
theorem toPlan_eq : ∀ (p : Pn), p.thin → callA C0 11 [.i (.agg p.cells)] [] = some (.i (.agg p.cells), []) := by
  intro p
  induction p using Pn.ind with
  | h k t es cs ks ih =>
    intro ht
    obtain ⟨h1, h2, h3, h4, h5⟩ := (Pn.thin_iff _).1 ht
    exact toP_of (toES_of h1 fun a ha => toExpr_eq a (h2 a ha)) (toIntS_eq cs h3) (toPS_of h4 fun a ha => ih a ha (h5 a ha))
end Go.Proofs.YteihcffblfdgfaaGreat.P

namespace Go.Av
mutual
def Pn.ms:Pn→Nat
 | .mk _ _ es cs ks=>1 + (Ex.sizeL es + (cs.length + Pn.msL ks))
def Pn.msL:List Pn→Nat
 | []=>0
 | p :: l=>p.ms + Pn.msL l
end
def Pn.meas (p:Pn):Nat:=Ex.sizeL p.exprs + (p.cols.length + Pn.msL p.kids)
theorem Pn.ms_eq (p:Pn):p.ms=1 + p.meas:=by cases p; simp [Pn.ms,Pn.meas,Pn.exprs,Pn.cols,Pn.kids]
theorem Pn.ms_pos (p:Pn):1≤p.ms:=by rw [Pn.ms_eq]; omega
theorem Pn.msL_length:∀ (l:List Pn),l.length≤Pn.msL l
 | []=>by simp
 | p :: l=>by have:=Pn.msL_length l; have:=Pn.ms_pos p; simp only [List.length_cons,Pn.msL]; omega
theorem Pn.msL_mem : ∀ {l : List Pn} {p : Pn}, p ∈ l → p.ms ≤ Pn.msL l
  | a :: l, p, h => by
    simp only [Pn.msL]
    rcases List.mem_cons.1 h with rfl | h
    · omega
    · have := Pn.msL_mem h; omega
theorem msL_split (l : List Pn) {i : Nat} {a : Pn} (h : l[i]? = some a) : Pn.msL (l.take (i + 1)) = Pn.msL (l.take i) + a.ms := by
  induction l generalizing i with
  | nil => simp at h
  | cons b l ih =>
    cases i with
    | zero => simp at h; subst h; simp [Pn.msL]
    | succ i => have := ih (i := i) (by simpa using h); simp only [List.take_succ_cons, Pn.msL] at this ⊢; omega
theorem msL_mono (l : List Pn) (i : Nat) : Pn.msL (l.take i) ≤ Pn.msL l := by
  induction l generalizing i with
  | nil => simp [Pn.msL]
  | cons b l ih =>
    cases i with
    | zero => simp [Pn.msL]
    | succ i => simp only [List.take_succ_cons, Pn.msL]; have := ih i; omega
theorem msL_take_len : ∀ (l : List Pn) (i : Nat), i ≤ l.length → i ≤ Pn.msL (l.take i)
  | [], i, h => by simp at h; subst h; simp
  | a :: l, 0, _ => by simp
  | a :: l, i + 1, h => by
    have := msL_take_len l i (by simpa using h)
    have := Pn.ms_pos a
    simp only [List.take_succ_cons, Pn.msL]; omega
theorem Pn.thin_of_ms : ∀ (p : Pn), p.meas < 100000000 → p.thin := by
  intro p
  induction p using Pn.ind with
  | h k t es cs ks ih =>
    intro h
    simp only [Pn.meas, Pn.exprs, Pn.cols, Pn.kids] at h
    have h1 := Ex.sizeL_length es
    have h2 := Pn.msL_length ks
    refine (Pn.thin_iff _).2 ⟨by simp only [Pn.exprs]; omega, fun e he => Ex.thin_of_size e (by have := Ex.sizeL_mem (show e ∈ es from he); omega), by simp only [Pn.cols]; omega, by simp only [Pn.kids]; omega, fun a ha => ih a ha ?_⟩
    have h3 := Pn.msL_mem (show a ∈ ks from ha)
    rw [Pn.ms_eq] at h3
    omega
theorem leftN_add {left:Int} {a b:Nat} (h:0≤leftN left a):leftN (leftN left a) b=leftN left (a + b):=by
 unfold leftN at h ⊢
 by_cases ha:(a:Int)≤left
 ·rw [if_pos ha] at h ⊢
  by_cases hb:(b:Int)≤left - a
  ·rw [if_pos hb,if_pos (by omega)]; omega
  ·rw [if_neg hb,if_neg (by omega)]
 ·rw [if_neg ha] at h; omega
theorem leftN_neg {left:Int} {a:Nat} (h:leftN left a < 0) (b:Nat):leftN left a=-1∧leftN left (a + b)=-1:=by
 unfold leftN at h ⊢
 by_cases ha:(a:Int)≤left
 ·rw [if_pos ha] at h; omega
 ·rw [if_neg ha,if_neg (by omega)]; exact ⟨rfl,rfl⟩
theorem leftN_le {left:Int} {a:Nat} (h:0≤left):leftN left a≤left:=by
 unfold leftN; split<;>omega
end Go.Av
namespace Go.Proofs.YteihcffblfdgfaaGreat.P
open Go Go.Av
set_option maxRecDepth 4000
set_option maxHeartbeats 2000000
theorem szInt_eq (l:List Int) (hl:l.length < 9223372036854775808) (left:Int) (h0:0≤left) (h1:left < 1000000000):callA C0 33 [.i (.isl (intsL l)), .int left] []=some (.int (leftN left l.length),[]):=by
 rw [callA_eq rfl Tryz.func33 rfl rfl]
 have w1:IntKind.i64.wrap (left - l.length)=left - l.length:=wrap64 (by omega) (by omega)
 by_cases hc:left - l.length < 0
 ·have:¬ ((l.length:Nat):Int)≤left:=by omega
  simp [w1,hc,leftN,this]
 ·have:((l.length:Nat):Int)≤left:=by omega
  simp [w1,hc,leftN,this]
theorem szP_of {p:Pn} {left:Int} (h1:callA C0 32 [.i (.isl (Ex.cellsL p.exprs)), .int left] []=some (.int (leftN left (Ex.sizeL p.exprs)),[]))
  (h2:0≤leftN left (Ex.sizeL p.exprs)→callA C0 33 [.i (.isl (intsL p.cols)), .int (leftN left (Ex.sizeL p.exprs))] []=some (.int (leftN left (Ex.sizeL p.exprs + p.cols.length)),[]))
  (h3:0≤leftN left (Ex.sizeL p.exprs + p.cols.length)→callA C0 34 [.i (.isl (Pn.cellsL p.kids)), .int (leftN left (Ex.sizeL p.exprs + p.cols.length))] []=some (.int (leftN left (Ex.sizeL p.exprs + p.cols.length + Pn.msL p.kids)),[])) :
  callA C0 9 [.i (.agg p.cells), .int left] []=some (.int (leftN left p.meas),[]):=by
 rw [callA_eq rfl Tryz.func9 rfl rfl,Pn.cells_eq]
 have hm:p.meas=Ex.sizeL p.exprs + p.cols.length + Pn.msL p.kids:=by unfold Pn.meas; omega
 rw [hm]
 by_cases c1:leftN left (Ex.sizeL p.exprs) < 0
 ·obtain ⟨e1,e2⟩:=leftN_neg c1 (p.cols.length + Pn.msL p.kids)
  rw [← Nat.add_assoc] at e2
  simp [h1,c1,e2]
 ·have h2:=h2 (by omega)
  by_cases c2:leftN left (Ex.sizeL p.exprs + p.cols.length) < 0
  ·obtain ⟨e1,e2⟩:=leftN_neg c2 (Pn.msL p.kids)
   simp [h1,c1,h2,c2,e2]
  ·have h3:=h3 (by omega)
   by_cases c3:leftN left (Ex.sizeL p.exprs + p.cols.length + Pn.msL p.kids) < 0
   ·obtain ⟨e1,e2⟩:=leftN_neg c3 0
    simp [h1,c1,h2,c2,h3,c3,e1]
   ·simp [h1,c1,h2,c2,h3,c3]
def szJ (l:List Pn) (left:Int) (i:Nat):Int:=left - l.length - (Pn.msL (l.take i) - i)
def SZP (l:List Pn) (left:Int) (i:Nat):AS :=
 {env:=[(0, .i (.isl (Pn.cellsL l))),(1, .int (szJ l left i)),(4, .int 0),(5, .int i),(11, .bool false),(15,jk i (.bool true)),(25,jk i (.bool false))],st:=[] }
theorem szPS_step {l : List Pn} {left : Int} (h0 : 0 ≤ left) (h1 : left < 1000000000) (hl : l.length < 9223372036854775808)
    (ih : ∀ a ∈ l, ∀ left : Int, 0 ≤ left → left < 1000000000 → callA C0 9 [.i (.agg a.cells), .int left] [] = some (.int (leftN left (a.meas)), [])) :
    callA C0 34 [.i (.isl (Pn.cellsL l)), .int left] [] = some (.int (leftN left (Pn.msL l)), []) := by
  rw [callA_eq rfl Tryz.func34 rfl rfl]
  have w1 : IntKind.i64.wrap (left - l.length) = left - l.length := wrap64 (by omega) (by omega)
  have hsl := Pn.msL_length l
  by_cases hc : left - l.length < 0
  · have : ¬ ((Pn.msL l : Nat) : Int) ≤ left := by omega
    simp [w1, hc, leftN, this]
  simp [w1, hc]
  have hpre : ∀ i, i < l.length → ∃ a, l[i]? = some a ∧ a ∈ l ∧ Pn.msL (l.take (i + 1)) = Pn.msL (l.take i) + (1 + a.meas) ∧ nthE (Pn.cellsL l) i = some a.cells := by
    intro i hi
    have h3 := List.getElem?_eq_getElem hi
    refine ⟨_, h3, List.mem_of_getElem? h3, ?_, Pn.cellsL_nth h3⟩
    rw [msL_split l h3, Pn.ms_eq]
  have hround : ∀ i, i < l.length → 0 ≤ szJ l left i → ∃ a : Pn, nthE (Pn.cellsL l) i = some a.cells ∧ callA C0 9 [.i (.agg a.cells), .int (szJ l left i)] [] = some (.int (if 0 ≤ szJ l left (i + 1) then szJ l left (i + 1) else -1), []) := by
    intro i hi hs
    obtain ⟨a, h3, hm, hz, hn⟩ := hpre i hi
    have hti := msL_take_len l i (by omega)
    refine ⟨a, hn, ?_⟩
    rw [ih a hm _ hs (by unfold szJ; omega)]
    congr 2
    unfold leftN
    congr 1
    by_cases hle : ((a.meas : Nat) : Int) ≤ szJ l left i
    · rw [if_pos hle, if_pos (by unfold szJ at hle ⊢; omega)]; unfold szJ; omega
    · rw [if_neg hle, if_neg (by unfold szJ at hle ⊢; omega)]
  rcases first_bad (fun i => 0 ≤ szJ l left (i + 1)) l.length with hall | ⟨j, hj, hlt, hbad⟩
  · rw [loop_to (SZP l left) l.length (by simp [SZP, szJ, Pn.msL])]
    · rw [execA_loop]
      have hfin : leftN left (Pn.msL l) = szJ l left l.length := by
        have hT : l.take l.length = l := List.take_of_length_le (by simp)
        have hge : 0 ≤ szJ l left l.length := by
          cases hn : l.length with
          | zero => unfold szJ; rw [hn]; simp [Pn.msL]; omega
          | succ n => exact hn ▸ hall n (by omega)
        unfold leftN; unfold szJ at hge ⊢; rw [hT] at hge ⊢; rw [if_pos (by omega)]; omega
      rw [hfin]
      simp [SZP]
    · intro i hi
      have hs : 0 ≤ szJ l left i := by
        cases i with
        | zero => unfold szJ; simp [Pn.msL]; omega
        | succ i => exact hall i (by omega)
      obtain ⟨a, hn, hc⟩ := hround i hi hs
      have hs1 := hall i hi
      have hs1 : 0 ≤ szJ l left (i + 1) := hs1
      rw [if_pos hs1] at hc
      have w2 : IntKind.i64.wrap ((i : Int) + 1) = i + 1 := wrap64 (by omega) (by omega)
      rw [Pn.cells_eq] at hn hc
      simp [SZP, hi, hn, hc, w2, show ¬ szJ l left (i + 1) < 0 by omega]
  · have hsl2 : leftN left (Pn.msL l) = -1 := by
      have hm := msL_mono l (j + 1)
      have hbad : ¬ 0 ≤ szJ l left (j + 1) := hbad
      obtain ⟨a, h3, _, _, _⟩ := hpre j hj
      have hrest : Pn.msL (l.take (j + 1)) + (l.length - (j + 1)) ≤ Pn.msL l := by
        have e1 : Pn.msL l = Pn.msL (l.take (j + 1)) + Pn.msL (l.drop (j + 1)) := by
          have key : ∀ (n : Nat) (l : List Pn), Pn.msL l = Pn.msL (l.take n) + Pn.msL (l.drop n) := by
            intro n
            induction n with
            | zero => intro l; simp [Pn.msL]
            | succ n ih => intro l; cases l with
              | nil => simp [Pn.msL]
              | cons b l => simp only [List.take_succ_cons, List.drop_succ_cons, Pn.msL]; have := ih l; omega
          exact key _ _
        have e2 := Pn.msL_length (l.drop (j + 1))
        simp at e2; omega
      unfold leftN; unfold szJ at hbad; rw [if_neg (by omega)]
    rw [hsl2, loop_to (SZP l left) j (by simp [SZP, szJ, Pn.msL])]
    · rw [execA_loop]
      have hs : 0 ≤ szJ l left j := by
        cases j with
        | zero => unfold szJ; simp [Pn.msL]; omega
        | succ j => exact hlt j (by omega)
      obtain ⟨a, hn, hc⟩ := hround j hj hs
      have hbad : ¬ 0 ≤ szJ l left (j + 1) := hbad
      rw [if_neg hbad] at hc
      rw [Pn.cells_eq] at hn hc
      simp [SZP, hj, hn, hc]
    · intro i hi
      have hs : 0 ≤ szJ l left i := by
        cases i with
        | zero => unfold szJ; simp [Pn.msL]; omega
        | succ i => exact hlt i (by omega)
      obtain ⟨a, hn, hc⟩ := hround i (by omega) hs
      have hs1 : 0 ≤ szJ l left (i + 1) := hlt i hi
      rw [if_pos hs1] at hc
      have w2 : IntKind.i64.wrap ((i : Int) + 1) = i + 1 := wrap64 (by omega) (by omega)
      rw [Pn.cells_eq] at hn hc
      simp [SZP, show i < l.length by omega, hn, hc, w2, show ¬ szJ l left (i + 1) < 0 by omega]
theorem szPlan_eq : ∀ (p : Pn), p.fat → ∀ left : Int, 0 ≤ left → left < 1000000000 → callA C0 9 [.i (.agg p.cells), .int left] [] = some (.int (leftN left p.meas), []) := by
  intro p
  induction p using Pn.ind with
  | h k t es cs ks ih =>
    intro hf left h0 h1
    obtain ⟨f1, f2, f3, f4, f5⟩ := (Pn.fat_iff _).1 hf
    refine szP_of (szS_eq _ f1 f2 left h0 h1) (fun h => ?_) fun h => ?_
    · rw [szInt_eq _ f3 _ h (by have := leftN_le (a := Ex.sizeL es) h0; simp only [Pn.exprs]; omega), leftN_add h]
    · rw [szPS_step h (by have := leftN_le (a := Ex.sizeL es + cs.length) h0; simp only [Pn.exprs, Pn.cols]; omega) f4 fun a ha left h0 h1 => ih a ha (f5 a ha) left h0 h1, leftN_add h]
theorem law_exactIsNormal {p:Pn} {ws:List Int} (hf:p.fat) (hw:ws.length < 9223372036854775808):callA C0 3 [.i (.agg p.cells), .i (.isl (intsL ws))] []=some (.bool true,[]):=by
 rw [callA_eq rfl Tryz.func3 rfl rfl]
 by_cases hl:(1048576:Int) < ws.length
 ·rw [Pn.cells_eq]
  simp [hl]
 have h1:=szPlan_eq p hf 1048576 (by omega) (by omega)
 by_cases hs:leftN 1048576 p.meas < 0
 ·rw [Pn.cells_eq] at h1 ⊢
  simp [hl,h1,hs]
 have hm:p.meas≤1048576:=by
  unfold leftN at hs
  split at hs<;>omega
 have hp:=Pn.thin_of_ms p (by omega)
 have e1:=toPlan_eq p hp
 have e2:=toIntS_eq ws (by omega)
 have e3:=IsNormal_eq p ws
 have e4:=sIsNormal_eq p hp ws (by omega)
 have e5:=eqPlan_refl p hf
 have e6:=eqIntS_refl ws (by omega)
 rw [Pn.cells_eq] at *
 simp [hl,h1,hs,e1,e2,e3,e4,e5,e6]
end Go.Proofs.YteihcffblfdgfaaGreat.P

namespace Go.Av
theorem addr_none {w:World} {a:Addr} {v:Value} (h:w.cell? (a.add 0)=some v):∃ b off,a=⟨b,off,none⟩:=by
 obtain ⟨b,off,spot⟩:=a
 simp only [Addr.add,if_true,World.cell?] at h
 cases spot with
 | none=>exact ⟨b,off,rfl⟩
 | some s=>split at h<;>simp at h
theorem take5 {cs:List Value} (h:cs.length=5):∃ c0 c1 c2 c3 c4,cs=[c0,c1,c2,c3,c4]:=by
 match cs,h with
 | [c0,c1,c2,c3,c4],_=>exact ⟨c0,c1,c2,c3,c4,rfl⟩
end Go.Av
namespace Go.Proofs.YteihcffblfdgfaaGreat.P
open Go Go.Av
set_option maxRecDepth 4000
variable {H:Type} {enc:TypeId×Value→H} {w:World} {sp:Nat→Bool}
theorem ce3:Tryz.prog.cellsOf 3=1:=by kernel_rfl
theorem ce4:Tryz.prog.cellsOf 4=1:=by kernel_rfl
theorem ce42:Tryz.prog.cellsOf 85=2:=by kernel_rfl
theorem ce43:Tryz.prog.cellsOf 22=1:=by kernel_rfl
theorem ce45:Tryz.prog.cellsOf 87=5:=by kernel_rfl
theorem in_val {fuel : Nat} {cs : List Value} {r : DataW H × List MemPlace} (h : DataW.trod enc Tryz.prog w 0 sp true fuel 85 cs = some r) : ∃ v : Val, cs = [.bool v.null, .int .i64 v.n] := by
  obtain ⟨xs, n, rfl, _, hl, hx, hf⟩ := DataW.trod_struct Tryz.underlying85 h
  rw [ce42] at hl
  have h0 : DataW.trod enc Tryz.prog w 0 sp true n 4 ((cs.drop 0).take (Tryz.prog.cellsOf 4)) = xs[0]? := hf 0 _ rfl
  have h1 : DataW.trod enc Tryz.prog w 0 sp true n 3 ((cs.drop 1).take (Tryz.prog.cellsOf 3)) = xs[1]? := hf 1 _ rfl
  rw [ce4] at h0
  rw [ce3] at h1
  have hx : xs.length = 2 := hx
  rw [List.getElem?_eq_getElem (by omega)] at h0 h1
  obtain ⟨b, hb, _⟩ := DataW.trod_bool Tryz.underlying4 h0
  obtain ⟨k, hk, _⟩ := DataW.trod_int Tryz.underlying3 h1
  match cs, hl with
  | [c0, c1], _ =>
    simp at hb hk
    exact ⟨⟨b, k⟩, by rw [hb, hk]⟩
theorem in_elems {b : Nat} {P : List Value → List IV → Prop} {k : Nat} (hk : ∀ cs l, P cs l → l.length = k ∧ ICells (memOf w) l cs) : ∀ (n off : Nat), (∀ i, i < n → ∃ cs l, P cs l ∧ ∀ j v, cs[j]? = some v → w.cell? ⟨b, off + k * i + j, none⟩ = some v) →
    ∃ es : List (List IV), es.length = n ∧ IElems (memOf w) b off k es ∧ ∀ e ∈ es, ∃ cs, P cs e
  | 0, off, _ => ⟨[], rfl, .nil _ _ _, by simp⟩
  | n + 1, off, h => by
    obtain ⟨cs, l, h1, h2⟩ := h 0 (by omega)
    obtain ⟨k1, k2⟩ := hk cs l h1
    obtain ⟨es, e1, e2, e3⟩ := in_elems hk n (off + k) (fun i hi => by
      obtain ⟨cs, l, h3, h4⟩ := h (i + 1) (by omega)
      exact ⟨cs, l, h3, fun j v hj => by rw [← h4 j v hj]; congr 2; rw [Nat.mul_add]; omega⟩)
    refine ⟨l :: es, by simp [e1], .cons (IAt.mk off k2 fun j v hj => ?_) k1 e2, ?_⟩
    · have := h2 j v hj
      show w.cell? ⟨b, off + j, none⟩ = some v
      simpa using this
    · intro e he
      rcases List.mem_cons.1 he with rfl | he
      · exact ⟨cs, h1⟩
      · exact e3 e he
theorem in_slice {fuel:Nat} {t e:TypeId} {c:Value} {r:DataW H×List MemPlace} {k:Nat} {P:List Value→List IV→Prop} (ht:Tryz.prog.underlying t=some (.slice e)) (hce:Tryz.prog.cellsOf e=k) (hk0:0 < k) (hk:∀ cs l,P cs l→l.length=k∧ICells (memOf w) l cs)
  (ih:∀ n,n < fuel→∀ cs x,DataW.trod enc Tryz.prog w 0 sp true n e cs=some x→∃ l,P cs l) (h:DataW.trod enc Tryz.prog w 0 sp true fuel t [c]=some r) :
  ∃ es:List (List IV),IRep (memOf w) (.isl es) c∧es.length < 9223372036854775808∧∀ x∈es,∃ cs,P cs x:=by
 rcases DataW.trod_slice ht h with ⟨h1,_⟩ | ⟨a,len,cap,elems,rest,n,rfl,h1,_,_,hlc,hcm,hel,hat,_,_⟩
 ·injection h1 with h1; subst h1
  exact ⟨[], .isl0 _ _ fun _=>rfl,by simp,by simp⟩
 ·injection h1 with h1; subst h1
  by_cases h0:len=0
  ·subst h0; exact ⟨[], .isl0 _ _ (by simp),by simp,by simp⟩
  ·rw [hce] at hat
   have get:∀ i,i < len→∃ cs l,P cs l∧cs.length=k∧∀ j,j < k→w.cell? ((a.add (i * k)).add j)=cs[j]?:=by
    intro i hi
    have h2:=hat i hi
    rw [List.getElem?_eq_getElem (by omega)] at h2
    obtain ⟨cs,h3,h4⟩:=Option.bind_eq_some_iff.1 h2
    obtain ⟨_,h5,h6⟩:=World.cells?_some h3
    obtain ⟨l,h7⟩:=ih n (by omega) cs _ h4
    exact ⟨cs,l,h7,h5,h6⟩
   obtain ⟨b,off,rfl⟩:∃ b off,a=⟨b,off,none⟩:=by
    obtain ⟨cs,l,_,h5,h6⟩:=get 0 (by omega)
    have h7:=h6 0 hk0
    rw [List.getElem?_eq_getElem (by omega)] at h7
    refine addr_none (v:=cs[0]'(by omega)) (w:=w) ?_
    rw [← h7,Nat.zero_mul]
    congr 1
   obtain ⟨es,e1,e2,e3⟩:=in_elems (b:=b) hk len off (fun i hi=>by
    obtain ⟨cs,l,h4,h5,h6⟩:=get i hi
    refine ⟨cs,l,h4,fun j v hj=>?_⟩
    have hjl:=(List.getElem?_eq_some_iff.1 hj).1
    have:=h6 j (by omega)
    rw [hj,Addr.add_none,Addr.add_none] at this
    rw [← this,Nat.mul_comm k i])
   refine ⟨es,?_,by rw [e1]; unfold maxLen at hcm; omega,e3⟩
   have hne:es≠[]:=fun h=>by rw [h] at e1; simp at e1; omega
   have:=IRep.isl (m:=memOf w) (cap:=cap) hne e2 (by omega)
   rwa [e1] at this
theorem in_exp : ∀ (fuel : Nat) (cs : List Value) (r : DataW H × List MemPlace), DataW.trod enc Tryz.prog w 0 sp true fuel 87 cs = some r → ∃ e : Ex, e.fat ∧ ICells (memOf w) e.cells cs := by
  intro fuel
  induction fuel using Nat.strongRecOn with
  | _ fuel ih =>
    intro cs r h
    obtain ⟨xs, n, rfl, _, hl, hx, hf⟩ := DataW.trod_struct Tryz.underlying87 h
    rw [ce45] at hl
    have h0 : DataW.trod enc Tryz.prog w 0 sp true n 3 ((cs.drop 0).take (Tryz.prog.cellsOf 3)) = xs[0]? := hf 0 _ rfl
    have h1 : DataW.trod enc Tryz.prog w 0 sp true n 3 ((cs.drop 1).take (Tryz.prog.cellsOf 3)) = xs[1]? := hf 1 _ rfl
    have h2 : DataW.trod enc Tryz.prog w 0 sp true n 85 ((cs.drop 2).take (Tryz.prog.cellsOf 85)) = xs[2]? := hf 2 _ rfl
    have h3 : DataW.trod enc Tryz.prog w 0 sp true n 22 ((cs.drop 4).take (Tryz.prog.cellsOf 22)) = xs[3]? := hf 3 _ rfl
    rw [ce3] at h0 h1
    rw [ce42] at h2
    rw [ce43] at h3
    have hx : xs.length = 4 := hx
    rw [List.getElem?_eq_getElem (by omega)] at h0 h1 h2 h3
    obtain ⟨c0, c1, c2, c3, c4, rfl⟩ := take5 hl
    obtain ⟨k0, hk0, _⟩ := DataW.trod_int Tryz.underlying3 h0
    obtain ⟨k1, hk1, _⟩ := DataW.trod_int Tryz.underlying3 h1
    obtain ⟨v, hv⟩ := in_val h2
    simp at hk0 hk1 hv
    obtain ⟨rfl, rfl⟩ := hv
    subst hk0; subst hk1
    simp at h3
    obtain ⟨es, e1, e2, e3⟩ := in_slice (P := fun cs l => ∃ e : Ex, e.fat ∧ l = e.cells ∧ ICells (memOf w) l cs) Tryz.underlying22 ce45 (by omega) (fun cs l ⟨e, _, h5, h6⟩ => ⟨by rw [h5, Ex.cells_eq]; rfl, h6⟩)
      (fun m hm cs x hx => by
        obtain ⟨e, h5, h6⟩ := ih m (by omega) cs x hx
        exact ⟨e.cells, e, h5, rfl, h6⟩) h3
    have hl : ∃ l : List Ex, Ex.cellsL l = es ∧ ∀ a ∈ l, a.fat := by
      have key : ∀ es : List (List IV), (∀ x ∈ es, ∃ cs, ∃ e : Ex, e.fat ∧ x = e.cells ∧ ICells (memOf w) x cs) → ∃ l : List Ex, Ex.cellsL l = es ∧ ∀ a ∈ l, a.fat := by
        intro es
        induction es with
        | nil => intro _; exact ⟨[], rfl, by simp⟩
        | cons x es ihe =>
          intro h
          obtain ⟨_, e, h5, h6, _⟩ := h x (by simp)
          obtain ⟨l, h7, h8⟩ := ihe fun y hy => h y (by simp [hy])
          exact ⟨e :: l, by simp [Ex.cellsL, h6, h7], fun a ha => by
            rcases List.mem_cons.1 ha with rfl | ha
            · exact h5
            · exact h8 a ha⟩
      exact key es e3
    obtain ⟨l, rfl, hfat⟩ := hl
    refine ⟨.mk k0 k1 v l, (Ex.fat_iff _).2 ⟨by simpa [Ex.kids] using e2, hfat⟩, ?_⟩
    rw [show (Ex.mk k0 k1 v l).cells = [.int k0, .int k1, .bool v.null, .int v.n, .isl (Ex.cellsL l)] by simp [Ex.cells]]
    exact .cons (.lit _) rfl (.cons (.lit _) rfl (.cons (.lit _) rfl (.cons (.lit _) rfl (.cons e1 (isl_one e1) .nil))))
theorem ceI:Tryz.prog.cellsOf 3=1:=by kernel_rfl
theorem cePS:Tryz.prog.cellsOf 24=1:=by kernel_rfl
theorem ceIS:Tryz.prog.cellsOf 23=1:=by kernel_rfl
theorem ceP:Tryz.prog.cellsOf 26=5:=by kernel_rfl
theorem in_ints {fuel : Nat} {c : Value} {r : DataW H × List MemPlace} (h : DataW.trod enc Tryz.prog w 0 sp true fuel 23 [c] = some r) : ∃ l : List Int, l.length < 9223372036854775808 ∧ IRep (memOf w) (.isl (intsL l)) c := by
  obtain ⟨es, e1, e2, e3⟩ := in_slice (P := fun cs l => ∃ n : Int, l = [.int n] ∧ cs = [.int .i64 n]) Tryz.underlying23 ceI (by omega) (fun cs l ⟨v, h5, h6⟩ => ⟨by rw [h5]; rfl, by rw [h5, h6]; exact .cons (.lit _) rfl .nil⟩)
    (fun m hm cs x hx => by
      obtain ⟨k, hk, _⟩ := DataW.trod_int Tryz.underlying3 hx
      exact ⟨[.int k], k, rfl, hk⟩) h
  have key : ∀ es : List (List IV), (∀ x ∈ es, ∃ cs : List Value, ∃ n : Int, x = [.int n] ∧ cs = [.int .i64 n]) → ∃ l : List Int, intsL l = es := by
    intro es
    induction es with
    | nil => intro _; exact ⟨[], rfl⟩
    | cons x es ihe =>
      intro h
      obtain ⟨_, v, h5, _⟩ := h x (by simp)
      obtain ⟨l, h7⟩ := ihe fun y hy => h y (by simp [hy])
      exact ⟨v :: l, by simp [intsL, h5, h7]⟩
  obtain ⟨l, rfl⟩ := key es e3
  exact ⟨l, by simpa using e2, e1⟩
theorem in_expS {fuel : Nat} {c : Value} {r : DataW H × List MemPlace} (h : DataW.trod enc Tryz.prog w 0 sp true fuel 22 [c] = some r) : ∃ l : List Ex, l.length < 9223372036854775808 ∧ (∀ a ∈ l, a.fat) ∧ IRep (memOf w) (.isl (Ex.cellsL l)) c := by
  obtain ⟨es, e1, e2, e3⟩ := in_slice (P := fun cs l => ∃ e : Ex, e.fat ∧ l = e.cells ∧ ICells (memOf w) l cs) Tryz.underlying22 ce45 (by omega) (fun cs l ⟨e, _, h5, h6⟩ => ⟨by rw [h5, Ex.cells_eq]; rfl, h6⟩)
    (fun m hm cs x hx => by
      obtain ⟨e, h5, h6⟩ := in_exp m cs x hx
      exact ⟨e.cells, e, h5, rfl, h6⟩) h
  have key : ∀ es : List (List IV), (∀ x ∈ es, ∃ cs, ∃ e : Ex, e.fat ∧ x = e.cells ∧ ICells (memOf w) x cs) → ∃ l : List Ex, Ex.cellsL l = es ∧ ∀ a ∈ l, a.fat := by
    intro es
    induction es with
    | nil => intro _; exact ⟨[], rfl, by simp⟩
    | cons x es ihe =>
      intro h
      obtain ⟨_, e, h5, h6, _⟩ := h x (by simp)
      obtain ⟨l, h7, h8⟩ := ihe fun y hy => h y (by simp [hy])
      exact ⟨e :: l, by simp [Ex.cellsL, h6, h7], fun a ha => by
        rcases List.mem_cons.1 ha with rfl | ha
        · exact h5
        · exact h8 a ha⟩
  obtain ⟨l, rfl, hfat⟩ := key es e3
  exact ⟨l, by simpa using e2, hfat, e1⟩
theorem in_plan : ∀ (fuel : Nat) (cs : List Value) (r : DataW H × List MemPlace), DataW.trod enc Tryz.prog w 0 sp true fuel 26 cs = some r → ∃ p : Pn, p.fat ∧ ICells (memOf w) p.cells cs := by
  intro fuel
  induction fuel using Nat.strongRecOn with
  | _ fuel ih =>
    intro cs r h
    obtain ⟨xs, n, rfl, _, hl, hx, hf⟩ := DataW.trod_struct Tryz.underlying26 h
    rw [ceP] at hl
    have h0 : DataW.trod enc Tryz.prog w 0 sp true n 3 ((cs.drop 0).take (Tryz.prog.cellsOf 3)) = xs[0]? := hf 0 _ rfl
    have h1 : DataW.trod enc Tryz.prog w 0 sp true n 3 ((cs.drop 1).take (Tryz.prog.cellsOf 3)) = xs[1]? := hf 1 _ rfl
    have h2 : DataW.trod enc Tryz.prog w 0 sp true n 22 ((cs.drop 2).take (Tryz.prog.cellsOf 22)) = xs[2]? := hf 2 _ rfl
    have h3 : DataW.trod enc Tryz.prog w 0 sp true n 23 ((cs.drop 3).take (Tryz.prog.cellsOf 23)) = xs[3]? := hf 3 _ rfl
    have h4 : DataW.trod enc Tryz.prog w 0 sp true n 24 ((cs.drop 4).take (Tryz.prog.cellsOf 24)) = xs[4]? := hf 4 _ rfl
    rw [ceI] at h0 h1
    rw [ce43] at h2
    rw [ceIS] at h3
    rw [cePS] at h4
    have hx : xs.length = 5 := hx
    rw [List.getElem?_eq_getElem (by omega)] at h0 h1 h2 h3 h4
    obtain ⟨c0, c1, c2, c3, c4, rfl⟩ := take5 hl
    obtain ⟨k0, hk0, _⟩ := DataW.trod_int Tryz.underlying3 h0
    obtain ⟨k1, hk1, _⟩ := DataW.trod_int Tryz.underlying3 h1
    simp at hk0 hk1
    subst hk0; subst hk1
    simp at h2 h3 h4
    obtain ⟨es, le, fe, re⟩ := in_expS h2
    obtain ⟨is, li, ri⟩ := in_ints h3
    obtain ⟨ps, e1, e2, e3⟩ := in_slice (P := fun cs l => ∃ e : Pn, e.fat ∧ l = e.cells ∧ ICells (memOf w) l cs) Tryz.underlying24 ceP (by omega) (fun cs l ⟨e, _, h5, h6⟩ => ⟨by rw [h5, Pn.cells_eq]; rfl, h6⟩)
      (fun m hm cs x hx => by
        obtain ⟨e, h5, h6⟩ := ih m (by omega) cs x hx
        exact ⟨e.cells, e, h5, rfl, h6⟩) h4
    have key : ∀ es : List (List IV), (∀ x ∈ es, ∃ cs, ∃ e : Pn, e.fat ∧ x = e.cells ∧ ICells (memOf w) x cs) → ∃ l : List Pn, Pn.cellsL l = es ∧ ∀ a ∈ l, a.fat := by
      intro es
      induction es with
      | nil => intro _; exact ⟨[], rfl, by simp⟩
      | cons x es ihe =>
        intro h
        obtain ⟨_, e, h5, h6, _⟩ := h x (by simp)
        obtain ⟨l, h7, h8⟩ := ihe fun y hy => h y (by simp [hy])
        exact ⟨e :: l, by simp [Pn.cellsL, h6, h7], fun a ha => by
          rcases List.mem_cons.1 ha with rfl | ha
          · exact h5
          · exact h8 a ha⟩
    obtain ⟨l, rfl, hfat⟩ := key ps e3
    refine ⟨.mk k0 k1 es is l, (Pn.fat_iff _).2 ⟨le, fe, li, by simpa using e2, hfat⟩, ?_⟩
    rw [Pn.cells_mk]
    exact .cons (.lit _) rfl (.cons (.lit _) rfl (.cons re (isl_one re) (.cons ri (isl_one ri) (.cons e1 (isl_one e1) .nil))))
theorem law_exactIsNormal_calls {p:Pn} {v:Value} {ws:List Int} {c:Value} (hf:p.fat) (hp:IRep (memOf w) (.agg p.cells) v) (hl:ws.length < 9223372036854775808) (hw:IRep (memOf w) (.isl (intsL ws)) c) :
  Calls Tryz.prog 3 #[v,c] w fun e w'=>e=.returned (.bool true)∧RowKit.Below w.heap.size w w' :=
 calls_true sound0 (.cons (.i hp) (.cons (.i hw) .nil)) (law_exactIsNormal hf hl)
end Go.Proofs.YteihcffblfdgfaaGreat.P

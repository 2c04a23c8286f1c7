/- Part 2 of what the proof rests on: the executor and what it is worth, and the program's functions as it runs them. No condition. -/
import Derived.Test.YtgpclhjdfdojhaaT1
import Derived.Orders
import Derived.Still
set_option linter.unusedVariables false
set_option linter.unusedSimpArgs false
/- Renaming blocks, and a call of a function. No condition. -/
namespace Go.Av

/-! ### Renaming -/
def Ren (r : Nat → Option Nat) (φ ψ : Pl) : Prop := ∀ id j p, r id = some j → φ id = some p → ψ j = some p
mutual
theorem Rep.ren {m : Mem} {φ ψ : Pl} {r : Nat → Option Nat} (hr : Ren r φ ψ) {v : AV} {x : Value} : Rep m φ v x → Rep m ψ (ren r v) x
  | .junk v => .junk v
  | .nils => .nils
  | .i a => .i a
  | .own (id := id) e => by
    unfold Av.ren
    cases h : r id with
    | none => exact .junk _
    | some j => exact .own (hr _ _ _ h e)
  | .ownE (id := id) e => by
    unfold Av.ren
    cases h : r id with
    | none => exact .junk _
    | some j => exact .ownE (hr _ _ _ h e)
  | .osl (id := id) e a b c d => by
    unfold Av.ren
    cases h : r id with
    | none => exact .junk _
    | some j => exact .osl (hr _ _ _ h e) a b c d
  | .agg c => .agg (RepC.ren hr c)
  | .tup c => .tup (RepL.ren hr c)
  | .fn c => .fn (RepL.ren hr c)
theorem RepL.ren {m : Mem} {φ ψ : Pl} {r : Nat → Option Nat} (hr : Ren r φ ψ) {cs : List AV} {vs : List Value} : RepL m φ cs vs → RepL m ψ (renL r cs) vs
  | .nil => .nil
  | .cons a b => .cons (Rep.ren hr a) (RepL.ren hr b)
theorem RepC.ren {m : Mem} {φ ψ : Pl} {r : Nat → Option Nat} (hr : Ren r φ ψ) {cs : List AV} {vs : List Value} : RepC m φ cs vs → RepC m ψ (renL r cs) vs
  | .nil => .nil
  | .cons a o b => .cons (Rep.ren hr a) o (RepC.ren hr b)
end
theorem BlkOk.ren {w : World} {m : Mem} {φ ψ : Pl} {r : Nat → Option Nat} (hr : Ren r φ ψ) {b n : Nat} {o : Option Blk} {blk : Blk} (h : ∀ c, o = some c → BlkOk w m φ b n c) (e : renB r o = some blk) : BlkOk w m ψ b n blk := by
  unfold renB at e
  split at e
  · injection e with e; subst e
    cases h _ rfl with
    | box h1 h2 h3 h4 => exact .box h1 h2 (h3.ren hr) h4
  · injection e with e; subst e
    cases h _ rfl with
    | arr h1 h2 h3 h4 h5 h6 h7 => exact .arr h1 h2 h3 h4 h5 h6 h7
  · injection e with e; subst e
    cases h _ rfl with
    | frz h1 h2 => exact .frz h1 h2
  · injection e with e; subst e
    cases h _ rfl with
    | fbox h1 => exact .fbox h1
  · cases e
theorem renB_some {r : Nat → Option Nat} {o : Option Blk} {blk : Blk} (e : renB r o = some blk) : ∃ c, o = some c := by
  cases o with
  | none => simp [renB] at e
  | some c => exact ⟨c, rfl⟩

theorem posFrom_spec : ∀ (ids : List Nat) (n i j : Nat), posFrom n ids i = some j → n ≤ j ∧ ids[j - n]? = some i
  | [], n, i, j, h => by simp [posFrom] at h
  | a :: ids, n, i, j, h => by
    simp only [posFrom] at h
    split at h
    · rename_i e; injection h with h; subst h; subst e; simp
    · obtain ⟨h1, h2⟩ := posFrom_spec ids (n + 1) i j h
      refine ⟨by omega, ?_⟩
      rw [show j - n = (j - (n + 1)) + 1 by omega]
      simpa using h2
theorem posOf_spec {ids : List Nat} {i j : Nat} (h : posOf ids i = some j) : ids[j]? = some i := by
  have := (posFrom_spec ids 0 i j h).2
  simpa using this
theorem posFrom_at : ∀ (ids : List Nat) (n i k : Nat), ids.Nodup → ids[k]? = some i → posFrom n ids i = some (n + k)
  | [], n, i, k, _, h => by simp at h
  | a :: ids, n, i, 0, _, h => by simp at h; subst h; simp [posFrom]
  | a :: ids, n, i, k + 1, hd, h => by
    have hk : ids[k]? = some i := by simpa using h
    have hne : i ≠ a := fun e => by
      subst e
      exact (List.nodup_cons.1 hd).1 (List.mem_of_getElem? hk)
    simp only [posFrom, hne, if_false]
    rw [posFrom_at ids (n + 1) i k (List.nodup_cons.1 hd).2 hk]
    congr 1; omega
theorem posOf_at {ids : List Nat} {i k : Nat} (hd : ids.Nodup) (h : ids[k]? = some i) : posOf ids i = some k := by
  have := posFrom_at ids 0 i k hd h
  simpa [posOf] using this
theorem posFrom_none : ∀ {ids : List Nat} {n i : Nat}, posFrom n ids i = none → i ∉ ids
  | [], _, _, _ => by simp
  | a :: ids, n, i, h => by
    simp only [posFrom] at h
    split at h
    · cases h
    · rename_i hne
      have := posFrom_none h
      simp [hne, this]
theorem hasId_iff {l : List Nat} {i : Nat} : hasId l i = true ↔ i ∈ l := by
  induction l with
  | nil => simp [hasId]
  | cons a l ih =>
    simp only [hasId]
    split
    · rename_i e; simp [e]
    · rename_i e; simp [e, ih]
theorem reach_nodup (st : Store) : ∀ (n : Nat) (todo seen : List Nat), seen.Nodup → (reach st n todo seen).Nodup
  | 0, _, _, h => by simpa [reach] using h
  | _ + 1, [], _, h => by simpa [reach] using h
  | n + 1, i :: todo, seen, h => by
    simp only [reach]
    split
    · exact reach_nodup st n _ _ h
    · rename_i hn
      refine reach_nodup st n _ _ ?_
      have hni : i ∉ seen := fun hm => hn (hasId_iff.2 hm)
      rw [List.nodup_append]
      refine ⟨h, by simp, ?_⟩
      intro a ha b hb
      simp at hb
      subst hb
      exact fun e => hni (e ▸ ha)
theorem reach_prefix (st : Store) : ∀ (n : Nat) (todo seen : List Nat), ∃ l, reach st n todo seen = seen ++ l
  | 0, _, seen => ⟨[], by simp [reach]⟩
  | _ + 1, [], seen => ⟨[], by simp [reach]⟩
  | n + 1, i :: todo, seen => by
    simp only [reach]
    split
    · exact reach_prefix st n _ _
    · obtain ⟨l, h⟩ := reach_prefix st n (idsOfB (st i) ++ todo) (seen ++ [i])
      exact ⟨i :: l, by rw [h]; simp⟩
theorem upto_eq (n : Nat) : upto n = List.range n := by
  induction n with
  | zero => rfl
  | succ n ih => rw [upto, ih, List.range_succ]
theorem keepIds_nodup (st : Store) (na : Nat) (vs : List AV) : (keepIds st na vs).Nodup := reach_nodup st _ _ _ (by rw [upto_eq]; exact List.nodup_range)
theorem keepIds_at (st : Store) (na : Nat) (vs : List AV) {j : Nat} (h : j < na) : (keepIds st na vs)[j]? = some j := by
  obtain ⟨l, hl⟩ := reach_prefix st fuelR (idsOfBs st (upto na) ++ idsOfL vs) (upto na)
  unfold keepIds
  rw [hl, upto_eq, List.getElem?_append_left (by simpa using h)]
  simp [List.getElem?_range h]
theorem keepIds_len (st : Store) (na : Nat) (vs : List AV) : na ≤ (keepIds st na vs).length := by
  obtain ⟨l, hl⟩ := reach_prefix st fuelR (idsOfBs st (upto na) ++ idsOfL vs) (upto na)
  unfold keepIds
  rw [hl, upto_eq]
  simp
theorem takeSt_len (r : Nat → Option Nat) (st : Store) : ∀ (ids : List Nat), (takeSt r st ids).length = ids.length
  | [] => rfl
  | _ :: ids => by simp [takeSt, takeSt_len r st ids]
theorem stOf_get : ∀ (l : StL) (j : Nat), stOf l j = (l[j]?).join
  | [], j => by simp [stOf]
  | b :: l, 0 => by simp [stOf]
  | b :: l, j + 1 => by simp [stOf, stOf_get l j]
theorem stOf_take (r : Nat → Option Nat) (st : Store) : ∀ (ids : List Nat) (j : Nat), stOf (takeSt r st ids) j = (ids[j]?).bind fun i => renB r (st i)
  | [], j => by simp [takeSt, stOf]
  | i :: ids, 0 => by simp [takeSt, stOf]
  | i :: ids, j + 1 => by simp [takeSt, stOf, stOf_take r st ids j]
theorem renL_at (r : Nat → Option Nat) : ∀ (l : List AV), (renL r l).length = l.length
  | [] => rfl
  | _ :: l => by simp [renL, renL_at r l]

/-- Where the kept blocks lie, in their new numbers. -/
def keepP (ids : List Nat) (φ : Pl) : Pl := fun j => (ids[j]?).bind φ
theorem keepP_ren (ids : List Nat) (φ : Pl) : Ren (posOf ids) φ (keepP ids φ) := fun id j p h e => by
  simp [keepP, posOf_spec h, e]
theorem Inv.keep {w : World} {m : Mem} {φ : Pl} {st : Store} (h : Inv w m φ st) {ids : List Nat} (hd : ids.Nodup) : Inv w m (keepP ids φ) (stOf (takeSt (posOf ids) st ids)) := by
  have key : ∀ j blk, stOf (takeSt (posOf ids) st ids) j = some blk → ∃ i, ids[j]? = some i ∧ renB (posOf ids) (st i) = some blk := by
    intro j blk e
    rw [stOf_take] at e
    cases hi : ids[j]? with
    | none => rw [hi] at e; cases e
    | some i => rw [hi] at e; exact ⟨i, rfl, e⟩
  refine ⟨h.mem, ?_, ?_⟩
  · intro j blk e
    obtain ⟨i, h1, h2⟩ := key j blk e
    obtain ⟨c, hc⟩ := renB_some h2
    obtain ⟨b, n, h3, h4, h5⟩ := h.live i c hc
    refine ⟨b, n, by simp [keepP, h1, h3], h4, BlkOk.ren (keepP_ren ids φ) (fun c' e' => ?_) h2⟩
    rw [hc] at e'; injection e' with e'; subst e'; exact h5
  · intro j j' b n n' blk blk' e1 e2 p1 p2
    obtain ⟨i, h1, h2⟩ := key j blk e1
    obtain ⟨i', h1', h2'⟩ := key j' blk' e2
    obtain ⟨c, hc⟩ := renB_some h2
    obtain ⟨c', hc'⟩ := renB_some h2'
    simp only [keepP, h1, Option.bind_some] at p1
    simp only [keepP, h1', Option.bind_some] at p2
    have := h.inj i i' b n n' c c' hc hc' p1 p2
    subst this
    have a1 := posOf_at hd h1
    have a2 := posOf_at hd h1'
    rw [a1] at a2
    injection a2
theorem Adv.keep {w0 w : World} {m0 m : Mem} {φ0 φ : Pl} (h : Adv w0 m0 φ0 w m φ) {ids : List Nat} {na : Nat} (h0 : ∀ id, φ0 id ≠ none → id < na) (hk : ∀ j, j < na → ids[j]? = some j) : Adv w0 m0 φ0 w m (keepP ids φ) := by
  refine ⟨h.size, h.os, h.tape, h.output, h.block, h.mle, h.mnew, ?_, ?_⟩
  · intro id p e
    have h1 := hk id (h0 id (by rw [e]; simp))
    simp only [keepP, h1, Option.bind_some]
    exact h.ple _ _ e
  · intro id b n h1 h2
    cases hi : ids[id]? with
    | none => simp [keepP, hi] at h2
    | some i =>
      simp only [keepP, hi, Option.bind_some] at h2
      cases h3 : φ0 i with
      | none => exact h.pnew i b n h3 h2
      | some p =>
        have := h.ple _ _ h3
        rw [this] at h2; injection h2 with h2; subst h2
        exact .inr ⟨_, _, h3⟩

/-! ### A call -/
section
variable {C : Ctx}
/-- What the callee leaves. -/
def CallPost (w : World) (m : Mem) (φ : Pl) (r : AV) (stl' : StL) (e : Ending) (w' : World) : Prop :=
  ∃ v m' φ', e = .returned v ∧ Rep m' φ' r v ∧ Inv w' m' φ' (stOf stl') ∧ Adv w m φ w' m' φ' ∧ ∀ id, φ' id ≠ none → id < stl'.length
/-- The answers of 'call' are right. -/
structure CallOk (C : Ctx) (call : CallF) : Prop where
  name : ∀ g args stl p, call g args stl = some p → ∃ fn, C.P.funcs[g]? = some fn ∧ fn.name ≠ "runtime.NumGoroutine" ∧ fn.body.isSome = true
  calls : ∀ g args stl r stl', call g args stl = some (r, stl') → ∀ (w : World) (m : Mem) (φ : Pl) (vs : List Value), Inv w m φ (stOf stl) → RepL m φ args vs → (∀ id, φ id ≠ none → id < stl.length) →
    Calls C.P g vs.toArray w (CallPost w m φ r stl')

theorem argVal_sound {w : World} {m : Mem} {φ : Pl} {st st1 : Store} {v u : AV} {x : Value} (hi : Inv w m φ st) (hr : Rep m φ v x) (h : argVal st v = some (u, st1)) :
    ∃ m1, Rep m1 φ u x ∧ Inv w m1 φ st1 ∧ Adv w m φ w m1 φ := by
  unfold argVal at h
  split at h
  · injection h with h; injection h with h1 h2; subst h1; subst h2; exact ⟨m, hr, hi, .refl _ _ _⟩
  · injection h with h; injection h with h1 h2; subst h1; subst h2; exact ⟨m, hr, hi, .refl _ _ _⟩
  · obtain ⟨p, h1, h2⟩ := bnd_eq.1 h
    injection h2 with h2; injection h2 with h2 h3; subst h2; subst h3
    obtain ⟨m1, k1, k2, k3⟩ := frzV_sound hi hr (show frzV st _ = some (p.1, p.2) from h1)
    exact ⟨m1, .i k1, k2, k3⟩
theorem argsVal_sound {w : World} : ∀ {args us : List AV} {m : Mem} {φ : Pl} {st st1 : Store} {vs : List Value}, Inv w m φ st → RepL m φ args vs → argsVal st args = some (us, st1) →
    ∃ m1, RepL m1 φ us vs ∧ Inv w m1 φ st1 ∧ Adv w m φ w m1 φ
  | [], us, m, φ, st, st1, _, hi, .nil, h => by
    simp [argsVal] at h; obtain ⟨rfl, rfl⟩ := h; exact ⟨m, .nil, hi, .refl _ _ _⟩
  | v :: args, us, m, φ, st, st1, _, hi, .cons a b, h => by
    simp only [argsVal] at h
    obtain ⟨p, h1, h2⟩ := bnd_eq.1 h
    obtain ⟨q, h3, h4⟩ := bnd_eq.1 h2
    injection h4 with h4; injection h4 with h4 h5; subst h4; subst h5
    obtain ⟨m1, k1, k2, k3⟩ := argVal_sound hi a (show argVal st v = some (p.1, p.2) from h1)
    obtain ⟨m2, j1, j2, j3⟩ := argsVal_sound k2 (b.mono k3.mle (.refl _)) (show argsVal p.2 args = some (q.1, q.2) from h3)
    exact ⟨m2, .cons (k1.mono j3.mle (.refl _)) j1, j2, k3.trans j3⟩
theorem liveAll_spec {st : Store} : ∀ {ids : List Nat}, liveAll st ids = true → ∀ i ∈ ids, ∃ c, st i = some c
  | [], _ => by simp
  | i :: ids, h => by
    simp only [liveAll, Bool.and_eq_true] at h
    intro j hj
    rcases List.mem_cons.1 hj with rfl | hj
    · cases hs : st j with
      | none => rw [hs] at h; simp [liveO] at h
      | some c => exact ⟨c, rfl⟩
    · exact liveAll_spec h.2 j hj
theorem backOf_spec : ∀ (ids : List Nat) (nb j : Nat), backOf ids nb j = if j < ids.length then ids[j]? else some (nb + (j - ids.length))
  | [], nb, j => by simp [backOf]
  | i :: ids, nb, 0 => by simp [backOf]
  | i :: ids, nb, j + 1 => by
    rw [backOf, backOf_spec ids nb j]
    simp
theorem putBack_spec (r : Nat → Option Nat) (st : Store) : ∀ (ids : List Nat) (stl : StL) (nb : Nat) (id : Nat), ids.Nodup →
    putBack r st nb ids stl id = match posOf ids id with
      | some j => if j < stl.length then renB r (stOf stl j) else st id
      | none => if nb ≤ id ∧ id - nb + ids.length < stl.length then renB r (stOf stl (id - nb + ids.length)) else st id := by
  intro ids stl
  induction stl generalizing ids with
  | nil => intro nb id _; cases ids <;> simp [putBack] <;> split <;> simp
  | cons b bs ih =>
    intro nb id hd
    cases ids with
    | nil =>
      simp only [putBack, upd]
      have h0 : posOf [] id = none := rfl
      rw [h0]
      by_cases e : id = nb
      · subst e; simp [stOf]
      · simp only [e, if_false]
        rw [ih [] (nb + 1) id (by simp), h0]
        simp only [List.length_nil, Nat.add_zero, List.length_cons]
        by_cases h1 : nb + 1 ≤ id
        · have h2 : id - nb = (id - (nb + 1)) + 1 := by omega
          rw [h2]
          simp only [stOf]
          by_cases h3 : id - (nb + 1) < bs.length
          · rw [if_pos ⟨h1, h3⟩, if_pos ⟨by omega, by omega⟩]
          · rw [if_neg (by omega), if_neg (by omega)]
        · rw [if_neg (by omega), if_neg (by omega)]
    | cons i ids =>
      simp only [putBack, upd]
      have hd' := List.nodup_cons.1 hd
      by_cases e : id = i
      · subst e
        simp [posOf, posFrom, stOf]
      · simp only [e, if_false]
        rw [ih ids nb id hd'.2]
        cases hp : posOf ids id with
        | none =>
          have h1 : posOf (i :: ids) id = none := by
            cases h2 : posOf (i :: ids) id with
            | none => rfl
            | some j =>
              have h3 := posOf_spec h2
              cases j with
              | zero => simp at h3; exact absurd h3.symm e
              | succ j =>
                have h4 : ids[j]? = some id := by simpa using h3
                rw [posOf_at hd'.2 h4] at hp; cases hp
          rw [h1]
          simp only [List.length_cons]
          by_cases h3 : nb ≤ id ∧ id - nb + ids.length < bs.length
          · rw [if_pos h3, if_pos ⟨h3.1, by omega⟩]
            rw [show id - nb + (ids.length + 1) = (id - nb + ids.length) + 1 by omega]
            simp [stOf]
          · rw [if_neg h3, if_neg (by omega)]
        | some j =>
          have h1 : posOf (i :: ids) id = some (j + 1) := posOf_at hd (by simpa using posOf_spec hp)
          rw [h1]
          simp only [List.length_cons, stOf]
          by_cases h3 : j < bs.length
          · rw [if_pos h3, if_pos (by omega)]
          · rw [if_neg h3, if_neg (by omega)]
/-- Where the blocks lie when the callee has come back. -/
def backP (ids : List Nat) (nb : Nat) (φ φ' : Pl) : Pl := fun id =>
  match posOf ids id with
  | some j => φ' j
  | none => if nb ≤ id ∧ id < nb + wide then φ' (id - nb + ids.length) else φ id
theorem posOf_none {ids : List Nat} {i : Nat} (h : posOf ids i = none) : i ∉ ids := posFrom_none h
theorem callBack_sound {w w' : World} {m m' : Mem} {φ φ' : Pl} {st st' : Store} {nb : Nat} {ids : List Nat} {r v : AV} {stl' : StL} {y : Value} (hi : Inv w m φ st) (hf : ∀ id, nb ≤ id → id < nb + wide → φ id = none)
    (hd : ids.Nodup) (hlive : ∀ i ∈ ids, ∃ c, st i = some c)
    (hr : Rep m' φ' r y) (hi' : Inv w' m' φ' (stOf stl')) (ha : Adv w m (keepP ids φ) w' m' φ') (hb : ∀ id, φ' id ≠ none → id < stl'.length)
    (h : callBack ids st nb r stl' = some (v, st')) : Out w m φ nb v st' y w' := by
  unfold callBack at h
  obtain ⟨h1, h2⟩ := tst_eq.1 h
  obtain ⟨hl1, hl2⟩ := of_decide_eq_true h1
  injection h2 with h2; injection h2 with h2 h3; subst h2; subst h3
  have hlt : ∀ i ∈ ids, ¬ (nb ≤ i ∧ i < nb + wide) := fun i hm hh => by
    obtain ⟨c, hc⟩ := hlive i hm
    obtain ⟨b, n, e, _⟩ := hi.live _ _ hc
    rw [hf i hh.1 hh.2] at e; cases e
  -- the callee's blocks, in the caller's numbers
  have hren : Ren (backOf ids nb) φ' (backP ids nb φ φ') := by
    intro j id p e1 e2
    rw [backOf_spec] at e1
    split at e1
    · unfold backP
      rw [posOf_at hd e1]
      exact e2
    · rename_i hj
      injection e1 with e1
      have hjl := hb j (by rw [e2]; simp)
      have hnone : posOf ids id = none := by
        cases hp : posOf ids id with
        | none => rfl
        | some k => exact absurd ⟨by omega, by omega⟩ (hlt id (List.mem_of_getElem? (posOf_spec hp)))
      unfold backP
      rw [hnone]
      simp only
      rw [if_pos ⟨by omega, by omega⟩, show id - nb + ids.length = j by omega]
      exact e2
  have hple : PLe φ (backP ids nb φ φ') := by
    intro id p e
    unfold backP
    cases hp : posOf ids id with
    | some j =>
      simp only
      refine ha.ple j p ?_
      simp [keepP, posOf_spec hp, e]
    | none =>
      simp only
      rw [if_neg fun hh => by have := hf id hh.1 hh.2; rw [this] at e; cases e]
      exact e
  have hout : ∀ b, (∀ id n, φ id ≠ some (b, n)) → ∀ j n, keepP ids φ j ≠ some (b, n) := by
    intro b hn j n e
    unfold keepP at e
    cases hi : ids[j]? with
    | none => rw [hi] at e; cases e
    | some i => rw [hi] at e; exact hn _ _ e
  have hadv : Adv w m φ w' m' (backP ids nb φ φ') := by
    refine ⟨ha.size, ha.os, ha.tape, ha.output, fun b hb' hn => ha.block b hb' (hout b hn), ha.mle, fun b hb' hn => ha.mnew b hb' (hout b hn), hple, ?_⟩
    intro id b n e1 e2
    unfold backP at e2
    have fin : ∀ j, φ' j = some (b, n) → keepP ids φ j = none → w.heap.size ≤ b ∨ ∃ id0 n0, φ id0 = some (b, n0) := by
      intro j q1 q2
      rcases ha.pnew j b n q2 q1 with q | ⟨j0, n0, q⟩
      · exact .inl q
      · unfold keepP at q
        cases hi : ids[j0]? with
        | none => rw [hi] at q; cases q
        | some i => rw [hi] at q; exact .inr ⟨_, _, q⟩
    cases hp : posOf ids id with
    | some j =>
      rw [hp] at e2
      exact fin j e2 (by simp [keepP, posOf_spec hp, e1])
    | none =>
      rw [hp] at e2
      simp only at e2
      split at e2
      · refine fin _ e2 ?_
        simp [keepP]
      · rw [e1] at e2; cases e2
  -- which blocks live
  have hcase : ∀ id blk, putBack (backOf ids nb) st nb ids stl' id = some blk →
      (∃ j c, stOf stl' j = some c ∧ renB (backOf ids nb) (some c) = some blk ∧ backP ids nb φ φ' id = φ' j ∧ backOf ids nb j = some id) ∨ (posOf ids id = none ∧ st id = some blk ∧ backP ids nb φ φ' id = φ id) := by
    intro id blk e
    rw [putBack_spec _ _ _ _ _ _ hd] at e
    cases hp : posOf ids id with
    | some j =>
      rw [hp] at e
      have hjl : j < ids.length := (List.getElem?_eq_some_iff.1 (posOf_spec hp)).1
      simp only [show j < stl'.length by omega, if_true] at e
      obtain ⟨c, hc⟩ := renB_some e
      refine .inl ⟨j, c, hc, by rw [← hc]; exact e, by simp [backP, hp], ?_⟩
      rw [backOf_spec, if_pos hjl]
      exact posOf_spec hp
    | none =>
      rw [hp] at e
      simp only at e
      split at e
      · rename_i hh
        obtain ⟨c, hc⟩ := renB_some e
        refine .inl ⟨_, c, hc, by rw [← hc]; exact e, ?_, ?_⟩
        · simp only [backP, hp]
          rw [if_pos ⟨hh.1, by omega⟩]
        · rw [backOf_spec, if_neg (by omega)]
          congr 1; omega
      · refine .inr ⟨rfl, e, ?_⟩
        simp only [backP, hp]
        split
        · rename_i hh
          obtain ⟨b, n, q, _⟩ := hi.live _ _ e
          rw [hf id hh.1 hh.2] at q; cases q
        · rfl
  -- a block of the callee is none of those that it did not get
  have hapart : ∀ id blk, posOf ids id = none → st id = some blk → ∀ b n, φ id = some (b, n) → b < w.heap.size → ∀ j n', keepP ids φ j ≠ some (b, n') := by
    intro id blk h1 h2 b n h3 _ j n' e
    unfold keepP at e
    cases hi' : ids[j]? with
    | none => rw [hi'] at e; cases e
    | some i =>
      rw [hi'] at e
      obtain ⟨c, hc⟩ := hlive i (List.mem_of_getElem? hi')
      have := hi.inj id i b n n' blk c h2 hc h3 e
      subst this
      exact posOf_none h1 (List.mem_of_getElem? hi')
  refine ⟨m', backP ids nb φ φ', hr.ren hren, ⟨hi'.mem, ?_, ?_⟩, hadv, ?_⟩
  · intro id blk e
    rcases hcase id blk e with ⟨j, c, h1, h2, h3, _⟩ | ⟨h1, h2, h3⟩
    · obtain ⟨b, n, q1, q2, q3⟩ := hi'.live j c h1
      exact ⟨b, n, by rw [h3]; exact q1, q2, BlkOk.ren hren (fun c' e' => by injection e' with e'; subst e'; exact q3) h2⟩
    · obtain ⟨b, n, q1, q2, q3⟩ := hi.live id blk h2
      have hap := hapart id blk h1 h2 b n q1 q2
      refine ⟨b, n, by rw [h3]; exact q1, Nat.lt_of_lt_of_le q2 ha.size, q3.mono (ha.block b q2 hap) ha.mle hple (ha.mnew b q2 hap)⟩
  · intro id id' b n n' blk blk' e1 e2 p1 p2
    rcases hcase id blk e1 with ⟨j, c, h1, h2, h3, h4⟩ | ⟨h1, h2, h3⟩
    · rcases hcase id' blk' e2 with ⟨j', c', h1', h2', h3', h4'⟩ | ⟨h1', h2', h3'⟩
      · rw [h3] at p1; rw [h3'] at p2
        have := hi'.inj j j' b n n' c c' h1 h1' p1 p2
        subst this
        rw [h4] at h4'; injection h4'
      · exfalso
        rw [h3] at p1; rw [h3'] at p2
        obtain ⟨b2, n2, q1, q2, _⟩ := hi.live id' blk' h2'
        rw [p2] at q1; injection q1 with q1; injection q1 with q1 _; subst q1
        exact ha.range q2 (hapart id' blk' h1' h2' b n' p2 q2) j n p1
    · rcases hcase id' blk' e2 with ⟨j', c', h1', h2', h3', h4'⟩ | ⟨h1', h2', h3'⟩
      · exfalso
        rw [h3] at p1; rw [h3'] at p2
        obtain ⟨b2, n2, q1, q2, _⟩ := hi.live id blk h2
        rw [p1] at q1; injection q1 with q1; injection q1 with q1 _; subst q1
        exact ha.range q2 (hapart id blk h1 h2 b n p1 q2) j' n' p2
      · rw [h3] at p1; rw [h3'] at p2
        exact hi.inj id id' b n n' blk blk' h2 h2' p1 p2
  · intro id hne
    unfold backP at hne
    cases hp : posOf ids id with
    | some j =>
      obtain ⟨c, hc⟩ := hlive id (List.mem_of_getElem? (posOf_spec hp))
      obtain ⟨b, n, q, _⟩ := hi.live _ _ hc
      exact .inl (by rw [q]; simp)
    | none =>
      rw [hp] at hne
      simp only at hne
      split at hne
      · rename_i hh; exact .inr hh
      · exact .inl hne
theorem Out.adv {w w1 w' : World} {m m1 : Mem} {φ : Pl} {nb : Nat} {v : AV} {st' : Store} {y : Value} (ha : Adv w m φ w1 m1 φ) (h : Out w1 m1 φ nb v st' y w') : Out w m φ nb v st' y w' := by
  obtain ⟨m', φ', h1, h2, h3, h4⟩ := h
  exact ⟨m', φ', h1, h2, ha.trans h3, h4⟩
theorem callGo_sound {call : CallF} (hcall : CallOk C call) {w : World} {m : Mem} {φ : Pl} {st st' : Store} {nb : Nat} {own : Bool} {g : FuncId} {args : List AV} {vs : List Value} {v : AV} (hi : Inv w m φ st)
    (hf : ∀ id, nb ≤ id → id < nb + wide → φ id = none) (hargs : RepL m φ args vs) (h : callGo call own g args st nb = some (v, st')) :
    (∃ fn, C.P.funcs[g]? = some fn ∧ fn.name ≠ "runtime.NumGoroutine" ∧ fn.body.isSome = true) ∧ Calls C.P g vs.toArray w (fun e w' => ∃ y, e = .returned y ∧ Out w m φ nb v st' y w') := by
  unfold callGo at h
  obtain ⟨p, h1, h2⟩ := bnd_eq.1 h
  have hfr : ∃ m1, RepL m1 φ p.1 vs ∧ Inv w m1 φ p.2 ∧ Adv w m φ w m1 φ := by
    cases own with
    | true =>
      simp only [argsFor, Option.some.injEq] at h1
      subst h1
      exact ⟨m, hargs, hi, .refl _ _ _⟩
    | false => exact argsVal_sound hi hargs (show argsVal st args = some (p.1, p.2) from h1)
  obtain ⟨m1, k1, k2, k3⟩ := hfr
  generalize hids : reach p.2 fuelR (idsOfL p.1) [] = ids at h2
  have hd : ids.Nodup := by rw [← hids]; exact reach_nodup _ _ _ _ (by simp)
  unfold callWith at h2
  obtain ⟨h3, h4⟩ := tst_eq.1 h2
  have hlive := liveAll_spec h3
  obtain ⟨q, h5, h6⟩ := bnd_eq.1 h4
  refine ⟨hcall.name _ _ _ _ h5, ?_⟩
  refine (hcall.calls g _ _ q.1 q.2 h5 w m1 (keepP ids φ) vs (k2.keep hd) (k1.ren (keepP_ren ids φ)) ?_).mono ?_
  · intro id hne
    rw [takeSt_len]
    unfold keepP at hne
    cases hx : ids[id]? with
    | none => rw [hx] at hne; exact absurd rfl hne
    | some i => exact (List.getElem?_eq_some_iff.1 hx).1
  · rintro e w' ⟨y, m', φ', rfl, j1, j2, j3, j4⟩
    exact ⟨y, rfl, (callBack_sound k2 hf hd hlive j1 j2 j3 j4 h6).adv k3⟩
end
end Go.Av

/- One operation of a region, in the walk's form. No condition. -/
namespace Go.Av
section
variable {C : Ctx}
/-- The frame and the world stand for this state. -/
structure ARel (w0 : World) (m0 : Mem) (φ0 : Pl) (nt : Nat) (ok : Nat → Prop) (env : Nat → AV) (st : Store) (a : Act) (w : World) : Prop where
  out : ∃ m φ, Inv w m φ st ∧ (∀ t, Rep m φ (env t) (a.tmps.getD t undef)) ∧ Adv w0 m0 φ0 w m φ ∧ (∀ id, φ id ≠ none → ok id)
  size : nt ≤ a.tmps.size
  defers : a.defers = []

theorem fits_of {m : Mem} {φ : Pl} {env : Nat → AV} {a : Act} (h : ∀ t, Rep m φ (env t) (a.tmps.getD t undef)) : Fits m φ env a.eval := by
  intro x hx
  cases x with
  | tmp t => exact h t
  | const v => exact litAV_rep m φ hx
  | global g => exact .junk _
  | func f => exact .fn .nil
def dstOk (nt : Nat) : Option Tmp → Bool
  | some d => d < nt
  | none => true
def operOk (nt : Nat) (o : Oper) : Bool := opOk o.op && dstOk nt o.dst
theorem putA_rep {m : Mem} {φ : Pl} {env : Nat → AV} {a : Act} {nt : Nat} {dst : Option Tmp} {v : AV} {x : Value} (h : ∀ t, Rep m φ (env t) (a.tmps.getD t undef)) (hs : nt ≤ a.tmps.size) (hd : dstOk nt dst = true) (hv : Rep m φ v x) :
    ∀ t, Rep m φ (putA env dst v t) ((a.put dst x).tmps.getD t undef) := by
  intro t
  cases dst with
  | none => exact h t
  | some d =>
    have hlt : d < a.tmps.size := Nat.lt_of_lt_of_le (of_decide_eq_true hd) hs
    simp only [putA, upd, Act.put]
    by_cases e : t = d
    · subst e; simpa [Array.getD, hlt] using hv
    · simp only [e, if_false]
      have := h t
      have he : (a.tmps.setIfInBounds d x).getD t undef = a.tmps.getD t undef := by
        simp only [Array.getD_eq_getD_getElem?]
        rw [Array.getElem?_setIfInBounds_ne (Ne.symm e)]
      rwa [he]
theorem put_size (a : Act) (dst : Option Tmp) (x : Value) : (a.put dst x).tmps.size = a.tmps.size := by cases dst <;> simp [Act.put]
theorem put_defers' (a : Act) (dst : Option Tmp) (x : Value) : (a.put dst x).defers = a.defers := by cases dst <;> rfl

theorem want_sound {m : Mem} {φ : Pl} {env : Nat → AV} {a : Act} {ops : Array Oper} {o : Oper} {b : Bool} (h : ∀ t, Rep m φ (env t) (a.tmps.getD t undef)) (e : wantA ops.toList env o.guard = some b) :
    Region.wanted o (yielded ops a.tmps) = b := by
  unfold Region.wanted
  cases hg : o.guard with
  | none => rw [hg] at e; simpa [wantA] using e
  | some p =>
    rw [hg] at e
    obtain ⟨j, want⟩ := p
    simp only [wantA] at e
    simp only [yielded]
    have hl : ops.toList[j]? = ops[j]? := by simp
    rw [hl] at e
    cases hd : (ops[j]?).bind (·.dst) with
    | none => rw [hd] at e; simp [wantD] at e; simp [← e]
    | some d =>
      rw [hd] at e
      simp only [wantD, yieldA] at e
      have hr := h d
      simp only [Option.bind_some]
      split at e
      · rename_i c hc
        injection e with e; subst e
        rw [hc] at hr
        have := hr.lit_eq
        have hlt : a.tmps[d]? = some (.bool c) := by
          rw [Array.getD_eq_getD_getElem?] at this
          cases hx : a.tmps[d]? with
          | none => rw [hx] at this; simp [undef] at this
          | some y => rw [hx] at this; simpa using this
        rw [hlt]
        cases c <;> cases want <;> rfl
      · rename_i c hc
        injection e with e; subst e
        rw [hc] at hr
        have := hr.lit_eq
        cases hx : a.tmps[d]? with
        | none => rfl
        | some y =>
          rw [Array.getD_eq_getD_getElem?, hx] at this
          simp only [Option.getD_some] at this
          subst this
          rfl
      · cases e

/-- What one operation does to the state. -/
def aOp (C : Ctx) (call : CallF) (all : List Oper) (base i : Nat) (o : Oper) (S : (Nat → AV) × Store) : Option ((Nat → AV) × Store) :=
  bnd (wantA all S.1 o.guard) fun b =>
    if b = true then bnd (stepOp C call o.op S.1 S.2 (base + wide * i)) fun p => some (putA S.1 o.dst p.1, p.2)
    else some (putA S.1 o.dst (.i (.lit undef)), S.2)
def okIn (base : Nat) (dn : Nat → Prop) (id : Nat) : Prop := id < base ∨ ∃ i, dn i ∧ base + wide * i ≤ id ∧ id < base + wide * i + wide
theorem okIn_mono {base : Nat} {dn dn' : Nat → Prop} (h : ∀ i, dn i → dn' i) {id : Nat} (k : okIn base dn id) : okIn base dn' id := by
  rcases k with k | ⟨i, k1, k2⟩
  · exact .inl k
  · exact .inr ⟨i, h i k1, k2⟩
theorem okIn_fresh {base i id : Nat} {dn : Nat → Prop} (hdn : ¬ dn i) (h1 : base + wide * i ≤ id) (h2 : id < base + wide * i + wide) : ¬ okIn base dn id := by
  rintro (k | ⟨j, k1, k2, k3⟩)
  · omega
  · have : i = j := by
      unfold wide at *
      omega
    subst this; exact hdn k1
theorem goCall_eq {op : Op} {p : Operand × List Operand} (h : goCall op = some p) : ∃ args ts, op = .call ⟨.value p.1, args, ts⟩ ∧ args.toList = p.2 := by
  unfold goCall at h
  split at h
  · injection h with h; subst h; exact ⟨_, _, rfl, rfl⟩
  · cases h

theorem wpOp_sound (hC : CtxOk C) {call : CallF} (hcall : CallOk C call) {ops : Array Oper} {Q : Exit → Act → World → Prop} {K : Act → World → Prop} {i base nt : Nat} {o : Oper} {S S' : (Nat → AV) × Store}
    {w0 : World} {m0 : Mem} {φ0 : Pl} {dn : Nat → Prop} {a : Act} {w : World} (ho : ops[i]? = some o) (hs : operOk nt o = true) (hdn : ¬ dn i) (h : aOp C call ops.toList base i o S = some S')
    (hr : ARel w0 m0 φ0 nt (okIn base dn) S.1 S.2 a w) (hK : ∀ a' w', ARel w0 m0 φ0 nt (okIn base fun j => dn j ∨ j = i) S'.1 S'.2 a' w' → K a' w') : wpOp C.P ops Q i K a w := by
  simp only [operOk, Bool.and_eq_true] at hs
  obtain ⟨⟨m, φ, hi, henv, hadv, hok⟩, hsz, hdf⟩ := hr
  unfold aOp at h
  obtain ⟨b, h1, h2⟩ := bnd_eq.1 h
  have hw := want_sound henv h1
  have hfr : ∀ id, base + wide * i ≤ id → id < base + wide * i + wide → φ id = none := fun id k1 k2 => by
    cases e : φ id with
    | none => rfl
    | some p => exact absurd (hok id (by rw [e]; simp)) (okIn_fresh hdn k1 k2)
  -- what is left to show, once the operation has given its value
  have fin : ∀ v st' y w', S' = (putA S.1 o.dst v, st') → Out w m φ (base + wide * i) v st' y w' → K (a.put o.dst y) w' := by
    rintro v st' y w' rfl ⟨m', φ', k1, k2, k3, k4⟩
    refine hK _ _ ⟨⟨m', φ', k2, ?_, hadv.trans k3, ?_⟩, by rw [put_size]; exact hsz, by rw [put_defers']; exact hdf⟩
    · exact putA_rep (fun t => (henv t).mono k3.mle k3.ple) hsz hs.2 k1
    · intro id hne
      rcases k4 id hne with q | q
      · exact okIn_mono (fun _ => .inl) (hok id q)
      · exact .inr ⟨i, .inr rfl, q⟩
  unfold wpOp
  rw [ho]
  simp only
  rw [hw]
  cases b with
  | false =>
    simp only [Bool.false_eq_true, if_false] at h2 ⊢
    injection h2 with h2
    exact fin _ _ undef w h2.symm (Out.same hi (.i (.lit _)))
  | true =>
    simp only [if_true] at h2 ⊢
    obtain ⟨p, h3, h4⟩ := bnd_eq.1 h2
    injection h4 with h4
    refine .inl ?_
    unfold Oper.wp
    unfold stepOp at h3
    cases hg : goCall o.op with
    | none =>
      rw [hg] at h3
      obtain ⟨nx, y, w', k1, k2, k3⟩ := stepP_sound hC hi hfr (fits_of henv) hs.1 (show stepP C S.1 S.2 _ o.op = some (p.1, p.2) from h3)
      rw [k1]
      rcases k2 with rfl | ⟨rfl, rfl⟩
      · exact fin _ _ y w' h4.symm k3
      · exact fin _ _ undef w' h4.symm k3
    | some q =>
      rw [hg] at h3
      obtain ⟨args, ts, hop, hargs⟩ := goCall_eq hg
      simp only [stepW] at h3
      have hall : ∀ x ∈ opsOf o.op, opdOk x = true := fun x hx => List.all_eq_true.1 hs.1 x hx
      rw [hop] at hall
      have hfv := fits_of henv q.1 (hall _ (show q.1 ∈ q.1 :: args.toList by simp))
      have hav := evL_rep (fits_of henv) (l := q.2) fun x hx => hall x (show x ∈ q.1 :: args.toList by rw [hargs]; simp [hx])
      unfold stepC at h3
      split at h3
      · rename_i g caps hfe
        rw [hfe] at hfv
        generalize hev : a.eval q.1 = fv at hfv
        cases hfv with
        | @fn _ _ cvs hcaps =>
          have hall2 : RepL m φ (evL S.1 q.2 ++ caps) (q.2.map a.eval ++ cvs) := by
            have key : ∀ {cs : List AV} {vs : List Value}, RepL m φ cs vs → RepL m φ (cs ++ caps) (vs ++ cvs) := by
              intro cs
              induction cs with
              | nil => intro vs h; cases h; exact hcaps
              | cons c cs ih => intro vs h; cases h with | cons a b => exact .cons a (ih b)
            exact key hav
          obtain ⟨⟨fn, g1, g2, g3⟩, g4⟩ := callGo_sound hcall hi hfr hall2 (show callGo call _ g _ S.2 _ = some (p.1, p.2) from h3)
          have hbody : fn.body ≠ none := by intro hb; rw [hb] at g3; cases g3
          have hmap : args.map a.eval ++ cvs.toArray = (q.2.map a.eval ++ cvs).toArray := by
            apply Array.ext'; simp [← hargs]
          have hrun : (execOp a.eval o).run C.P w = .ok (.enter g ((q.2.map a.eval ++ cvs).toArray)) w := by
            unfold execOp
            rw [hop]
            simp [resolve, Deferred.ofValue, hev, invoke, callFunc, g1, g2, hbody, ← hmap]
          rw [hrun]
          simp only [Oper.upon]
          refine g4.mono ?_
          rintro e w' ⟨y, rfl, k⟩
          exact fin _ _ y w' h4.symm k
      · cases h3
end
end Go.Av

/- Code, as the abstract executor runs it, is what the model does. No condition. -/
namespace Go.Av
section
variable {C : Ctx}

/-- What is asked of a function's code. -/
def codeOk (nt : Nat) : Code → Bool
  | .skip => true
  | .region _ ops draw => ops.all (operOk nt) && (!draw || Region.lexB .any ops)
  | .seq a b => codeOk nt a && codeOk nt b
  | .cond x a b => opdOk x && (codeOk nt a && codeOk nt b)
  | .block _ b => codeOk nt b
  | .loop b => codeOk nt b
  | .exit _ => true
  | .ret => true
  | _ => true

/-- The state of a region at its end is settled. -/
theorem settle_rel {w0 : World} {m0 : Mem} {φ0 : Pl} {nt na : Nat} {ok : Nat → Prop} {env : Nat → AV} {st : Store} {a : Act} {w : World} {G : List Nat} (h0 : ∀ id, φ0 id ≠ none → id < na)
    (h : ARel w0 m0 φ0 nt ok env st a w) : ARel w0 m0 φ0 nt (fun id => id < (settle G na env st).st.length) (envOf (settle G na env st).env) (stOf (settle G na env st).st) a w := by
  obtain ⟨⟨m, φ, hi, henv, hadv, hok⟩, hsz, hdf⟩ := h
  unfold settle settleW
  generalize hids : keepIds st na (envAt env G) = ids
  have hd : ids.Nodup := by rw [← hids]; exact keepIds_nodup _ _ _
  refine ⟨⟨m, keepP ids φ, hi.keep hd, ?_, hadv.keep h0 (fun j hj => by rw [← hids]; exact keepIds_at _ _ _ hj), ?_⟩, hsz, hdf⟩
  · intro t
    have key : ∀ G : List Nat, Rep m (keepP ids φ) (envOf (keepEnv (posOf ids) env G) t) (a.tmps.getD t undef) := by
      intro G
      induction G with
      | nil => exact .junk _
      | cons u G ih =>
        simp only [keepEnv, envOf]
        by_cases e : t = u
        · subst e; simp only [if_true]; exact (henv t).ren (keepP_ren ids φ)
        · simp only [e, if_false]; exact ih
    exact key G
  · intro id hne
    simp only [takeSt_len]
    unfold keepP at hne
    cases hx : ids[id]? with
    | none => rw [hx] at hne; exact absurd rfl hne
    | some i => exact (List.getElem?_eq_some_iff.1 hx).1
theorem settle_len {G : List Nat} {na : Nat} {env : Nat → AV} {st : Store} : na ≤ (settle G na env st).st.length := by
  unfold settle settleW
  simp only [takeSt_len]
  exact keepIds_len _ _ _

theorem runOps_wp (hC : CtxOk C) {call : CallF} (hcall : CallOk C call) {ops : Array Oper} {Q : Exit → Act → World → Prop} {base nt : Nat} {w0 : World} {m0 : Mem} {φ0 : Pl} (hs : ∀ o ∈ ops, operOk nt o = true) :
    ∀ (os : List Oper) (i : Nat) (R R' : RS) (a : Act) (w : World), (∀ j, os[j]? = ops[i + j]?) → runOps C call ops.toList false base os i R = some R' →
      ARel w0 m0 φ0 nt (okIn base (fun j => j < i)) R.env R.st a w → (∀ a' w', ARel w0 m0 φ0 nt (fun _ => True) R'.env R'.st a' w' → Q .normal a' w') → wpOps C.P ops Q (List.range' i os.length) a w
  | [], i, R, R', a, w, _, h, hr, hQ => by
    simp only [runOps, Option.some.injEq] at h
    subst h
    simp only [List.length_nil, List.range'_zero, wpOps]
    obtain ⟨⟨m, φ, h1, h2, h3, h4⟩, h5, h6⟩ := hr
    exact hQ a w ⟨⟨m, φ, h1, h2, h3, fun _ _ => trivial⟩, h5, h6⟩
  | o :: os, i, R, R', a, w, hl, h, hr, hQ => by
    have ho : ops[i]? = some o := by simpa using (hl 0).symm
    simp only [List.length_cons, List.range'_succ]
    rw [wpOps_cons]
    simp only [runOps] at h
    obtain ⟨b, h1, h2⟩ := bnd_eq.1 h
    have hstat := hs o (Array.mem_of_getElem? ho)
    have hrest : ∀ j, os[j]? = ops[i + 1 + j]? := fun j => by
      have := hl (j + 1)
      simpa [Nat.add_assoc, Nat.add_comm 1 j] using this
    have mono : ∀ env st a' w', ARel w0 m0 φ0 nt (okIn base fun j => j < i ∨ j = i) env st a' w' → ARel w0 m0 φ0 nt (okIn base fun j => j < i + 1) env st a' w' := by
      rintro env st a' w' ⟨⟨m, φ, k1, k2, k3, k4⟩, k5, k6⟩
      exact ⟨⟨m, φ, k1, k2, k3, fun id hne => okIn_mono (fun j hj => by omega) (k4 id hne)⟩, k5, k6⟩
    cases b with
    | true =>
      simp only [if_true] at h2
      obtain ⟨_, h3⟩ := tst_eq.1 h2
      obtain ⟨p, h4, h5⟩ := bnd_eq.1 h3
      refine wpOp_sound hC hcall (dn := fun j => j < i) (base := base) (S := (R.env, R.st)) (S' := (putA R.env o.dst p.1, p.2)) ho hstat (Nat.lt_irrefl i) ?_ hr fun a' w' hr' => ?_
      · unfold aOp
        exact bnd_eq.2 ⟨true, h1, by simp only [if_true]; exact bnd_eq.2 ⟨p, h4, rfl⟩⟩
      · exact runOps_wp hC hcall hs os (i + 1) _ R' a' w' hrest h5 (mono _ _ _ _ hr') hQ
    | false =>
      simp only [Bool.false_eq_true, if_false] at h2
      refine wpOp_sound hC hcall (dn := fun j => j < i) (base := base) (S := (R.env, R.st)) (S' := (putA R.env o.dst (.i (.lit undef)), R.st)) ho hstat (Nat.lt_irrefl i) ?_ hr fun a' w' hr' => ?_
      · unfold aOp
        exact bnd_eq.2 ⟨false, h1, by simp⟩
      · exact runOps_wp hC hcall hs os (i + 1) _ R' a' w' hrest h2 (mono _ _ _ _ hr') hQ

/-- A region that draws its order. -/
def DrawOk (C : Ctx) (call : CallF) : Prop := ∀ (ops : Array Oper) (id base nt : Nat) (R' : RS) (env : Nat → AV) (st : Store) (w0 : World) (m0 : Mem) (φ0 : Pl) (a : Act) (w : World) (Q : Exit → Act → World → Prop),
  (∀ o ∈ ops, operOk nt o = true) → Region.lexB .any ops = true → runOps C call ops.toList true base ops.toList 0 { env := env, st := st, log := [] } = some R' →
  ARel w0 m0 φ0 nt (fun id => id < base) env st a w → (∀ a' w', ARel w0 m0 φ0 nt (fun _ => True) R'.env R'.st a' w' → Q .normal a' w') → (Code.region id ops true).wp C.P Q a w

/-- A loop, by the rounds that it still has. -/
theorem wp_loop_n {P : Program} {Q : Exit → Act → World → Prop} {c : Code} (I : Nat → Act → World → Prop)
    (round : ∀ n a w, I n a w → c.wp P (Exit.then (fun a' w' => ∃ k, k < n ∧ I k a' w') Q) a w) {n : Nat} {a : Act} {w : World} (h0 : I n a w) : (Code.loop c).wp P Q a w := by
  intro b k cs
  have key : ∀ n a w, I n a w → ∃ e a' w', Q e a' w' ∧ Arrives P (lone (b.at a (.code c :: .inLoop c :: k)) cs w) b k cs e a' w' := by
    intro n
    induction n using Nat.strongRecOn with
    | _ n ih =>
      intro a w hI
      obtain ⟨e, a1, w1, hq, harr⟩ := round n a w hI b (.inLoop c :: k) cs
      have other : e ≠ .normal → Exit.then (fun a' w' => ∃ k, k < n ∧ I k a' w') Q e a1 w1 → ∃ e a' w', Q e a' w' ∧ Arrives P (lone (b.at a (.code c :: .inLoop c :: k)) cs w) b k cs e a' w' := by
        intro hne hq
        refine ⟨e, a1, w1, ?_, .pass (x := .inLoop c) rfl (fun _ _ => .inl hne) harr⟩
        cases e <;> first | exact hq | exact absurd rfl hne
      by_cases hne : e = .normal
      · subst hne
        obtain ⟨j, hlt, hI1⟩ := hq
        obtain ⟨e2, a2, w2, hq2, harr2⟩ := ih j hlt a1 w1 hI1
        exact ⟨e2, a2, w2, hq2, .of_steps (Steps.trans harr (.one step_inLoop)) harr2⟩
      · exact other hne hq
  obtain ⟨e, a', w', hq, harr⟩ := key n a w h0
  exact ⟨e, a', w', hq, .of_steps (.one step_loop) harr⟩

/-- The exit that the abstract one stands for. -/
def exitOf : AExit → Exit
  | .normal => .normal
  | .exit i => .exit i
  | .ret => .ret
def SRel (w0 : World) (m0 : Mem) (φ0 : Pl) (nt na : Nat) (S : AS) (a : Act) (w : World) : Prop :=
  ARel w0 m0 φ0 nt (fun id => id < S.st.length) (envOf S.env) (stOf S.st) a w ∧ na ≤ S.st.length
theorem exec_sound (hC : CtxOk C) {call : CallF} (hcall : CallOk C call) (hdraw : DrawOk C call) {G : List Nat} {na nt : Nat} {w0 : World} {m0 : Mem} {φ0 : Pl} (h0 : ∀ id, φ0 id ≠ none → id < na) :
    ∀ (n : Nat) (c : Code) (S S' : AS) (e : AExit) (a : Act) (w : World), codeOk nt c = true → exec C call G na n c S = some (e, S') → SRel w0 m0 φ0 nt na S a w →
      c.wp C.P (fun e' a' w' => e' = exitOf e ∧ SRel w0 m0 φ0 nt na S' a' w') a w
  | 0, _, _, _, _, _, _, _, h, _ => by simp [exec] at h
  | n + 1, c, S, S', e, a, w, hc, h, hr => by
    unfold exec at h
    cases c with
    | skip =>
      simp only [Option.some.injEq, Prod.mk.injEq] at h
      obtain ⟨rfl, rfl⟩ := h
      exact wp_skip ⟨rfl, hr⟩
    | region id ops draw =>
      simp only at h
      simp only [codeOk, Bool.and_eq_true] at hc
      have hs : ∀ o ∈ ops, operOk nt o = true := fun o ho => Array.all_eq_true_iff_forall_mem.1 hc.1 o ho
      unfold doneK at h
      split at h
      · rename_i R hR
        simp only [Option.some.injEq, Prod.mk.injEq] at h
        obtain ⟨rfl, rfl⟩ := h
        have fin : ∀ a' w', ARel w0 m0 φ0 nt (fun _ => True) R.env R.st a' w' → (Exit.normal = exitOf .normal ∧ SRel w0 m0 φ0 nt na (settle G na R.env R.st) a' w') := fun a' w' k =>
          ⟨rfl, settle_rel h0 k, settle_len⟩
        cases draw with
        | true => exact hdraw ops id S.st.length nt R _ _ w0 m0 φ0 a w _ hs (by simpa using hc.2) hR hr.1 fin
        | false =>
          refine wp_region ?_
          rw [List.range_eq_range']
          have := runOps_wp (Q := fun e' a' w' => e' = exitOf .normal ∧ SRel w0 m0 φ0 nt na (settle G na R.env R.st) a' w') hC hcall hs ops.toList 0 _ R a w (by simp) hR (w0 := w0) (m0 := m0) (φ0 := φ0) ?_ fin
          · simpa using this
          · obtain ⟨⟨m, φ, k1, k2, k3, k4⟩, k5, k6⟩ := hr.1
            exact ⟨⟨m, φ, k1, k2, k3, fun id hne => .inl (k4 id hne)⟩, k5, k6⟩
      · cases h
    | seq x y =>
      simp only [codeOk, Bool.and_eq_true] at hc
      simp only at h
      refine wp_seq ?_
      unfold seqK at h
      split at h
      · rename_i S1 h1
        refine wp_mono (exec_sound hC hcall hdraw h0 n x S S1 .normal a w hc.1 h1 hr) ?_
        rintro e' a' w' ⟨rfl, k⟩
        exact exec_sound hC hcall hdraw h0 n y S1 S' e a' w' hc.2 h k
      · rename_i i S1 h1
        injection h with h; injection h with h2 h3; subst h2; subst h3
        refine wp_mono (exec_sound hC hcall hdraw h0 n x S S1 (.exit i) a w hc.1 h1 hr) ?_
        rintro e' a' w' ⟨rfl, k⟩
        exact ⟨rfl, k⟩
      · rename_i S1 h1
        injection h with h; injection h with h2 h3; subst h2; subst h3
        refine wp_mono (exec_sound hC hcall hdraw h0 n x S S1 .ret a w hc.1 h1 hr) ?_
        rintro e' a' w' ⟨rfl, k⟩
        exact ⟨rfl, k⟩
      · cases h
    | cond x y z =>
      simp only [codeOk, Bool.and_eq_true] at hc
      simp only at h
      obtain ⟨t, ht, h1⟩ := condK_eq.1 h
      obtain ⟨⟨m, φ, k1, k2, k3, k4⟩, k5, k6⟩ := hr.1
      have hx := fits_of k2 x hc.1
      rw [ht] at hx
      refine wp_cond hx.lit_eq ?_
      cases t with
      | true => exact exec_sound hC hcall hdraw h0 n y S S' e a w hc.2.1 h1 hr
      | false => exact exec_sound hC hcall hdraw h0 n z S S' e a w hc.2.2 h1 hr
    | block id b =>
      simp only [codeOk] at hc
      simp only at h
      refine wp_block ?_
      unfold blockK at h
      split at h
      · rename_i S1 h1
        injection h with h; injection h with h2 h3; subst h2; subst h3
        refine wp_mono (exec_sound hC hcall hdraw h0 n b S S1 .normal a w hc h1 hr) ?_
        rintro e' a' w' ⟨rfl, k⟩
        exact ⟨rfl, k⟩
      · rename_i i S1 h1
        refine wp_mono (exec_sound hC hcall hdraw h0 n b S S1 (.exit i) a w hc h1 hr) ?_
        rintro e' a' w' ⟨rfl, k⟩
        simp only [exitOf, Exit.inBlock]
        split at h
        · rename_i e0
          injection h with h; injection h with h2 h3; subst h2; subst h3
          rw [if_pos e0]; exact ⟨rfl, k⟩
        · rename_i e0
          injection h with h; injection h with h2 h3; subst h2; subst h3
          rw [if_neg e0]; exact ⟨rfl, k⟩
      · rename_i S1 h1
        injection h with h; injection h with h2 h3; subst h2; subst h3
        refine wp_mono (exec_sound hC hcall hdraw h0 n b S S1 .ret a w hc h1 hr) ?_
        rintro e' a' w' ⟨rfl, k⟩
        exact ⟨rfl, k⟩
      · cases h
    | loop b =>
      simp only [codeOk] at hc
      have hI : ∃ S, exec C call G na (n + 1) (.loop b) S = some (e, S') ∧ SRel w0 m0 φ0 nt na S a w := ⟨S, by unfold exec; exact h, hr⟩
      refine wp_loop_n (fun k a w => k ≤ n + 1 ∧ ∃ S, exec C call G na k (.loop b) S = some (e, S') ∧ SRel w0 m0 φ0 nt na S a w) ?_ (n := n + 1) ⟨Nat.le_refl _, hI⟩
      rintro k a w ⟨hk, S, h1, hr⟩
      cases k with
      | zero => simp [exec] at h1
      | succ k =>
        unfold exec at h1
        simp only at h1
        unfold seqK at h1
        split at h1
        · rename_i S1 h2
          refine wp_mono (exec_sound hC hcall hdraw h0 k b S S1 .normal a w hc h2 hr) ?_
          rintro e' a' w' ⟨rfl, q⟩
          exact ⟨k, Nat.lt_succ_self k, by omega, S1, h1, q⟩
        · rename_i i S1 h2
          injection h1 with h1; injection h1 with h3 h4; subst h3; subst h4
          refine wp_mono (exec_sound hC hcall hdraw h0 k b S S1 (.exit i) a w hc h2 hr) ?_
          rintro e' a' w' ⟨rfl, q⟩
          exact ⟨rfl, q⟩
        · rename_i S1 h2
          injection h1 with h1; injection h1 with h3 h4; subst h3; subst h4
          refine wp_mono (exec_sound hC hcall hdraw h0 k b S S1 .ret a w hc h2 hr) ?_
          rintro e' a' w' ⟨rfl, q⟩
          exact ⟨rfl, q⟩
        · cases h1
    | exit id =>
      simp only [Option.some.injEq, Prod.mk.injEq] at h
      obtain ⟨rfl, rfl⟩ := h
      exact wp_exit ⟨rfl, hr⟩
    | ret =>
      simp only [Option.some.injEq, Prod.mk.injEq] at h
      obtain ⟨rfl, rfl⟩ := h
      exact wp_ret ⟨rfl, hr⟩
    | rangeFunc => simp at h
    | scope => simp at h
    | label => simp at h
    | goto => simp at h
    | refuse => simp at h
termination_by n => n
decreasing_by all_goals omega
end
end Go.Av

/- Calls, as the abstract executor answers them, are what the model does. No condition. -/
namespace Go.Av
section
variable {C : Ctx}

def resOf (a : Act) : ResultVar → Sem Value
  | .tmp t => pure (a.tmps.getD t undef)
  | .cell s t => do loadVar t (← asAddr (a.tmps.getD s undef))
theorem retAll_sound {w : World} {m : Mem} {φ : Pl} {st : Store} {env : Nat → AV} {a : Act} (hi : Inv w m φ st) (henv : ∀ t, Rep m φ (env t) (a.tmps.getD t undef)) :
    ∀ (rs : List ResultVar) (vs : List AV), retAll C env st rs = some vs → ∃ ys, (rs.mapM (resOf a)).run C.P w = .ok ys w ∧ RepL m φ vs ys
  | [], vs, h => by simp [retAll] at h; subst h; exact ⟨[], by simp, .nil⟩
  | r :: rs, vs, h => by
    simp only [retAll] at h
    obtain ⟨v, h1, h2⟩ := bnd_eq.1 h
    obtain ⟨l, h3, h4⟩ := bnd_eq.1 h2
    injection h4 with h4; subst h4
    obtain ⟨ys, k1, k2⟩ := retAll_sound hi henv rs l h3
    have hone : ∃ y, (resOf a r).run C.P w = .ok y w ∧ Rep m φ v y := by
      cases r with
      | tmp t => simp only [retOne, Option.some.injEq] at h1; subst h1; exact ⟨_, by simp [resOf], henv t⟩
      | cell s t =>
        obtain ⟨ad, y, q1, q2, q3⟩ := loadA_sound hi (henv s) (show loadA C t (env s) st = some v from h1)
        exact ⟨y, by simp [resOf, q1, asAddr, q2], q3⟩
    obtain ⟨y, q1, q2⟩ := hone
    exact ⟨y :: ys, by simp [q1, k1], .cons q2 k2⟩
theorem frzRes_sound {w : World} : ∀ {vs us : List AV} {m : Mem} {φ : Pl} {st st1 : Store} {ys : List Value}, Inv w m φ st → RepL m φ vs ys → frzRes st vs = some (us, st1) →
    ∃ m1, RepL m1 φ us ys ∧ Inv w m1 φ st1 ∧ Adv w m φ w m1 φ
  | [], us, m, φ, st, st1, _, hi, .nil, h => by
    simp [frzRes] at h; obtain ⟨rfl, rfl⟩ := h; exact ⟨m, .nil, hi, .refl _ _ _⟩
  | v :: vs, us, m, φ, st, st1, _, hi, .cons a b, h => by
    simp only [frzRes] at h
    obtain ⟨p, h1, h2⟩ := bnd_eq.1 h
    obtain ⟨q, h3, h4⟩ := bnd_eq.1 h2
    injection h4 with h4; injection h4 with h4 h5; subst h4; subst h5
    obtain ⟨m1, k1, k2, k3⟩ := frzV_sound hi a (show frzV st v = some (p.1, p.2) from h1)
    obtain ⟨m2, j1, j2, j3⟩ := frzRes_sound k2 (b.mono k3.mle (.refl _)) (show frzRes p.2 vs = some (q.1, q.2) from h3)
    exact ⟨m2, .cons ((Rep.i k1).mono j3.mle (.refl _)) j1, j2, k3.trans j3⟩
theorem keepV_sound {w : World} {m : Mem} {φ : Pl} {st st1 : Store} {v u : AV} {x : Value} (hi : Inv w m φ st) (a : Rep m φ v x) (h : keepV st v = some (u, st1)) : ∃ m1, Rep m1 φ u x ∧ Inv w m1 φ st1 ∧ Adv w m φ w m1 φ := by
  unfold keepV at h
  split at h
  · obtain ⟨r, h5, h6⟩ := bnd_eq.1 h
    injection h6 with h6; injection h6 with h6 h7; subst h6; subst h7
    obtain ⟨m1, k1, k2, k3⟩ := frzV_sound hi a (show frzV st _ = some (r.1, r.2) from h5)
    exact ⟨m1, .i k1, k2, k3⟩
  · injection h with h; injection h with h6 h7; subst h6; subst h7
    exact ⟨m, a, hi, .refl _ _ _⟩
theorem keepVs_sound {w : World} : ∀ {vs us : List AV} {m : Mem} {φ : Pl} {st st1 : Store} {ys : List Value}, Inv w m φ st → RepL m φ vs ys → keepVs st vs = some (us, st1) →
    ∃ m1, RepL m1 φ us ys ∧ Inv w m1 φ st1 ∧ Adv w m φ w m1 φ
  | [], us, m, φ, st, st1, _, hi, .nil, h => by
    simp [keepVs] at h; obtain ⟨rfl, rfl⟩ := h; exact ⟨m, .nil, hi, .refl _ _ _⟩
  | v :: vs, us, m, φ, st, st1, _, hi, .cons a b, h => by
    simp only [keepVs] at h
    obtain ⟨p, h1, h2⟩ := bnd_eq.1 h
    obtain ⟨q, h3, h4⟩ := bnd_eq.1 h2
    injection h4 with h4; injection h4 with h4 h5; subst h4; subst h5
    obtain ⟨m1, k1, k2, k3⟩ := keepV_sound hi a (show keepV st v = some (p.1, p.2) from h1)
    obtain ⟨m2, j1, j2, j3⟩ := keepVs_sound k2 (b.mono k3.mle (.refl _)) (show keepVs p.2 vs = some (q.1, q.2) from h3)
    exact ⟨m2, .cons (k1.mono j3.mle (.refl _)) j1, j2, k3.trans j3⟩
theorem retVal_rep {m : Mem} {φ : Pl} {vs : List AV} {ys : List Value} (h : RepL m φ vs ys) : Rep m φ (retVal vs) (if h : ys.toArray.size = 1 then ys.toArray[0] else .tuple ys.toArray) := by
  have hl := h.length
  unfold retVal
  split
  · cases h with | cons a b => cases b; simpa using a
  · rename_i hne
    have h1 : ¬ ys.toArray.size = 1 := fun e => by
      have e : ys.length = 1 := by simpa using e
      cases h with
      | nil => simp at e
      | cons a b =>
        cases b with
        | nil => exact hne _ rfl
        | cons c d => simp at e
    rw [dif_neg h1]
    exact .tup h
theorem mapM_arr {α β : Type} {f : α → Sem β} {xs : Array α} {ys : List β} {P : Program} {w : World} (h : (xs.toList.mapM f).run P w = .ok ys w) : (xs.mapM f).run P w = .ok ys.toArray w := by
  obtain ⟨l⟩ := xs
  simp at h ⊢
  simp [h]
theorem finish_sound {fn : Func} {keep : Bool} {na nt : Nat} {w0 w : World} {m0 : Mem} {φ0 : Pl} {S : AS} {a : Act} {r : AV} {stl' : StL} (h0 : ∀ id, φ0 id ≠ none → id < na) (hr : SRel w0 m0 φ0 nt na S a w)
    (h : finish C keep fn.results.toList na S = some (r, stl')) : ∃ v, (results fn a.tmps).run C.P w = .ok v w ∧ CallPost w0 m0 φ0 r stl' (.returned v) w := by
  obtain ⟨⟨⟨m, φ, hi, henv, hadv, hok⟩, hsz, hdf⟩, hlen⟩ := hr
  unfold finish at h
  obtain ⟨vs, h1, h2⟩ := bnd_eq.1 h
  obtain ⟨p, h3, h4⟩ := bnd_eq.1 h2
  obtain ⟨ys, k1, k2⟩ := retAll_sound (C := C) hi henv _ _ h1
  have hres : ∃ m1, RepL m1 φ p.1 ys ∧ Inv w m1 φ p.2 ∧ Adv w m φ w m1 φ := by
    cases keep with
    | true =>
      simp only [resFor] at h3
      unfold resKeep at h3
      split at h3
      · injection h3 with h3; subst h3; exact ⟨m, k2, hi, .refl _ _ _⟩
      · exact keepVs_sound hi k2 (show keepVs _ vs = some (p.1, p.2) from h3)
    | false => exact frzRes_sound hi k2 (show frzRes _ vs = some (p.1, p.2) from h3)
  obtain ⟨m1, j1, j2, j3⟩ := hres
  unfold outOf at h4
  injection h4 with h4; injection h4 with h4 h5; subst h4; subst h5
  generalize hids : keepIds p.2 na p.1 = ids
  have hd : ids.Nodup := by rw [← hids]; exact keepIds_nodup _ _ _
  refine ⟨_, ?_, _, m1, keepP ids φ, rfl, retVal_rep (j1.ren (keepP_ren ids φ)), j2.keep hd, (hadv.trans j3).keep h0 (fun j hj => by rw [← hids]; exact keepIds_at _ _ _ hj), ?_⟩
  · have hm : (fn.results.mapM (resOf a)).run C.P w = .ok ys.toArray w := by
      exact mapM_arr k1
    have he : results fn a.tmps = (do let vs ← fn.results.mapM (resOf a); pure (if h : vs.size = 1 then vs[0] else .tuple vs)) := by
      unfold results
      congr 1
    rw [he, Sem.run_bind, hm]
    simp only [Result.andThen_ok, Sem.run_pure]
  · intro id hne
    rw [takeSt_len]
    unfold keepP at hne
    cases hx : ids[id]? with
    | none => rw [hx] at hne; exact absurd rfl hne
    | some i => exact (List.getElem?_eq_some_iff.1 hx).1

/-- What is asked of the program's functions. -/
def FnsOk (P : Program) : Prop := ∀ (g : FuncId) (fn : Func) (c : Code), P.funcs[g]? = some fn → fn.body = some c → fn.name ≠ "runtime.NumGoroutine" ∧ codeOk fn.ntmps c = true
def primCall (C : Ctx) : CallF := fun g args st => match C.prim g with
  | some p => p args st
  | none => none
structure SoundOk (C : Ctx) : Prop where
  ctx : CtxOk C
  fns : FnsOk C.P
  draw : ∀ call, CallOk C call → DrawOk C call
  prim : CallOk C (primCall C)
theorem enter_rep {m : Mem} {φ : Pl} {args : List AV} {vs : List Value} (n : Nat) (h : RepL m φ args vs) : ∀ t, Rep m φ (argAt args t) ((vs.toArray ++ Array.replicate n undef).getD t undef) := by
  have key : ∀ (args : List AV) (vs : List Value) (t : Nat), RepL m φ args vs → Rep m φ (argAt args t) ((vs ++ List.replicate n undef)[t]?.getD undef) := by
    intro args
    induction args with
    | nil => intro vs t h; exact .junk _
    | cons c args ih =>
      intro vs t h
      cases h with
      | cons a b =>
        cases t with
        | zero => simpa [argAt] using a
        | succ t => simpa [argAt] using ih _ t b
  intro t
  have := key args vs t h
  rw [Array.getD_eq_getD_getElem?]
  have e : (vs.toArray ++ Array.replicate n undef)[t]? = (vs ++ List.replicate n undef)[t]? := by
    rw [← Array.getElem?_toList]; simp
  rw [e]; exact this
theorem callN_sound (hS : SoundOk C) : ∀ n, CallOk C (callN C n)
  | 0 => ⟨fun _ _ _ _ h => by simp [callN] at h, fun _ _ _ _ _ h => by simp [callN] at h⟩
  | n + 1 => by
    have ih := callN_sound hS n
    constructor
    · intro g args stl p h
      unfold callN at h
      cases hp : C.prim g with
      | some q =>
        rw [hp] at h
        exact hS.prim.name g args stl p (by unfold primCall; rw [hp]; exact h)
      | none =>
        rw [hp] at h
        simp only at h
        split at h
        · cases h
        · rename_i fn hf
          split at h
          · cases h
          · rename_i c hb
            exact ⟨fn, hf, (hS.fns g fn c hf hb).1, by rw [hb]; rfl⟩
    · intro g args stl r stl' h w m φ vs hi hargs hid
      unfold callN at h
      cases hp : C.prim g with
      | some q =>
        rw [hp] at h
        exact hS.prim.calls g args stl r stl' (by unfold primCall; rw [hp]; exact h) w m φ vs hi hargs hid
      | none =>
        rw [hp] at h
        simp only at h
        split at h
        · cases h
        · rename_i fn hf
          split at h
          · cases h
          · rename_i c hb
            have hst := (hS.fns g fn c hf hb).2
            have hrel : SRel w m φ fn.ntmps stl.length (enter (C.G g) args stl) { tmps := vs.toArray ++ Array.replicate (fn.ntmps - vs.toArray.size) undef, defers := [] } w := by
              refine ⟨⟨⟨m, φ, hi, ?_, .refl _ _ _, hid⟩, by simp; omega, rfl⟩, Nat.le_refl _⟩
              intro t
              unfold enter
              simp only
              generalize C.G g = G
              induction G with
              | nil => exact .junk _
              | cons u G ihG =>
                simp only [enterE, envOf]
                by_cases e : t = u
                · subst e; simp only [if_true]; exact enter_rep _ hargs t
                · simp only [e, if_false]; exact ihG
            refine calls_of_wp hf hb ?_
            unfold endK at h
            split at h
            · rename_i S hS'
              refine wp_mono (exec_sound hS.ctx ih (hS.draw _ ih) hid n c _ S .normal _ w hst hS' hrel) ?_
              rintro e' a' w' ⟨rfl, k⟩
              obtain ⟨v, k1, k2⟩ := finish_sound (C := C) hid k h
              exact ⟨k.1.defers, v, k1, k2⟩
            · rename_i S hS'
              refine wp_mono (exec_sound hS.ctx ih (hS.draw _ ih) hid n c _ S .ret _ w hst hS' hrel) ?_
              rintro e' a' w' ⟨rfl, k⟩
              obtain ⟨v, k1, k2⟩ := finish_sound (C := C) hid k h
              exact ⟨k.1.defers, v, k1, k2⟩
            · cases h
            · cases h
theorem callA_sound (hS : SoundOk C) : CallOk C (callA C) := by
  constructor
  · intro g args stl p h
    obtain ⟨N, hN⟩ := (callA_iff _).1 h
    exact (callN_sound hS N).name g args stl p hN
  · intro g args stl r stl' h
    obtain ⟨N, hN⟩ := (callA_iff _).1 h
    exact (callN_sound hS N).calls g args stl r stl' hN
end
end Go.Av

/- What an operation looks at, and what it changes: nothing else. No condition. -/
namespace Go.Av

abbrev Upd := List (Nat × Option Blk)
def applyU : Upd → Store → Store
  | [], st => st
  | p :: U, st => upd (applyU U st) p.1 p.2
theorem applyU_append : ∀ (U V : Upd) (st : Store), applyU (U ++ V) st = applyU U (applyU V st)
  | [], _, _ => rfl
  | p :: U, V, st => by simp [applyU, applyU_append U V st]
theorem applyU_other : ∀ {U : Upd} {st : Store} {i : Nat}, (∀ p ∈ U, p.1 ≠ i) → applyU U st i = st i
  | [], _, _, _ => rfl
  | p :: U, st, i, h => by
    simp only [applyU, upd]
    rw [if_neg (fun e => h p (by simp) e.symm)]
    exact applyU_other fun q hq => h q (by simp [hq])
theorem applyU_same : ∀ (U : Upd) {st st' : Store} {i : Nat}, st' i = st i → applyU U st' i = applyU U st i
  | [], _, _, _, h => h
  | p :: U, st, st', i, h => by
    simp only [applyU, upd]
    split
    · rfl
    · exact applyU_same U h
theorem applyU_comm {U V : Upd} (h : ∀ p ∈ U, ∀ q ∈ V, p.1 ≠ q.1) (st : Store) : applyU U (applyU V st) = applyU V (applyU U st) := by
  funext i
  by_cases hu : ∃ p ∈ U, p.1 = i
  · obtain ⟨p, hp, rfl⟩ := hu
    have hv : ∀ q ∈ V, q.1 ≠ p.1 := fun q hq e => h p hp q hq e.symm
    rw [applyU_other hv]
    exact applyU_same U (applyU_other hv)
  · have hu' : ∀ p ∈ U, p.1 ≠ i := fun p hp e => hu ⟨p, hp, e⟩
    rw [applyU_other hu']
    exact (applyU_same V (applyU_other hu')).symm

def Agree (ts : List Nat) (st st' : Store) : Prop := ∀ i ∈ ts, st' i = st i
def Clo (ts : List Nat) (st : Store) : Prop := ∀ i ∈ ts, ∀ j ∈ idsOfB (st i), j ∈ ts
theorem Agree.apply {ts : List Nat} {st st' : Store} (h : Agree ts st st') (U : Upd) : Agree ts (applyU U st) (applyU U st') := fun i hi => applyU_same U (h i hi)
theorem Clo.agree {ts : List Nat} {st st' : Store} (h : Clo ts st) (k : Agree ts st st') : Clo ts st' := fun i hi j hj => by
  rw [k i hi] at hj; exact h i hi j hj
theorem Agree.symm {ts : List Nat} {st st' : Store} (h : Agree ts st st') : Agree ts st' st := fun i hi => (h i hi).symm
/-- 'F' changes what is touched, or in 'ex', and looks at nothing else. -/
def Loc {α : Type} (ts : List Nat) (ex : Nat → Prop) (F : Store → Option (α × Store)) (st : Store) (a : α) (s1 : Store) : Prop :=
  ∃ U : Upd, (∀ p ∈ U, ex p.1) ∧ s1 = applyU U st ∧ ∀ st', Agree ts st st' → F st' = some (a, applyU U st')
theorem Loc.mono {α : Type} {ts : List Nat} {ex ex' : Nat → Prop} {F : Store → Option (α × Store)} {st s1 : Store} {a : α} (h : Loc ts ex F st a s1) (hx : ∀ i, ex i → ex' i) : Loc ts ex' F st a s1 := by
  obtain ⟨U, h1, h2, h3⟩ := h
  exact ⟨U, fun p hp => hx _ (h1 p hp), h2, h3⟩
theorem Loc.seq {α β : Type} {ts : List Nat} {ex : Nat → Prop} {F : Store → Option (α × Store)} {H : Store → Option (β × Store)} {F2 : α → Store → Option (β × Store)} {st s1 s2 : Store} {a : α} {b : β}
    (h : Loc ts ex F st a s1) (h2 : Loc ts ex (F2 a) s1 b s2)
    (hs : ∀ st' s r, F st' = some (a, s) → F2 a s = some r → H st' = some r) : Loc ts ex H st b s2 := by
  obtain ⟨U, h3, h4, h5⟩ := h
  obtain ⟨V, k3, k4, k5⟩ := h2
  refine ⟨V ++ U, fun p hp => ?_, by rw [applyU_append, k4, h4], fun st' ha => ?_⟩
  · rcases List.mem_append.1 hp with hp | hp
    · exact k3 p hp
    · exact h3 p hp
  · rw [applyU_append]
    refine hs st' _ _ (h5 st' ha) (k5 _ ?_)
    rw [h4]
    exact ha.apply U
theorem Loc.here {α : Type} {ts : List Nat} {ex : Nat → Prop} {F : Store → Option (α × Store)} {st : Store} {a : α} (h : ∀ st', Agree ts st st' → F st' = some (a, st')) : Loc ts ex F st a st :=
  ⟨[], by simp, rfl, h⟩
theorem Loc.one {α : Type} {ts : List Nat} {ex : Nat → Prop} {F : Store → Option (α × Store)} {st : Store} {a : α} {i : Nat} {b : Option Blk} (hi : ex i) (h : ∀ st', Agree ts st st' → F st' = some (a, upd st' i b)) : Loc ts ex F st a (upd st i b) :=
  ⟨[(i, b)], by simpa using hi, rfl, h⟩

/-! ### Freezing looks at what it reaches -/
theorem frzSl_ups {id k off len : Nat} {o : Option Blk} {iv : IV} {us : Ups} (h : frzSl id k off len o = some (iv, us)) : ∀ p ∈ us, p.1 = id ∧ idsOfB (some p.2) = [] := by
  unfold frzSl at h
  split at h
  · obtain ⟨_, h2⟩ := tst_eq.1 h
    injection h2 with h2; injection h2 with h2 h3; subst h3
    intro p hp; simp at hp; subst hp; exact ⟨rfl, rfl⟩
  · obtain ⟨_, h2⟩ := tst_eq.1 h
    injection h2 with h2; injection h2 with h2 h3; subst h3
    simp
  · cases h
mutual
theorem frz_loc {ts : List Nat} {st st' : Store} (hc : Clo ts st) (ha : Agree ts st st') : ∀ (n : Nat) (v : AV) {r : IV × Ups}, (∀ i ∈ idsOf v, i ∈ ts) → frz st n v = some r → frz st' n v = some r ∧ ∀ p ∈ r.2, p.1 ∈ ts ∧ idsOfB (some p.2) = []
  | 0, _, _, _, h => by simp [frz] at h
  | n + 1, v, r, hv, h => by
    cases v with
    | junk => simp [frz] at h
    | tup => simp [frz] at h
    | fn => simp [frz] at h
    | ownE => simp [frz] at h
    | i v => simp [frz] at h ⊢; subst h; simp
    | nils => simp [frz] at h ⊢; subst h; simp
    | osl id k off len =>
      simp only [frz] at h ⊢
      have hm := hv id (by simp [idsOf])
      rw [ha id hm]
      refine ⟨h, fun p hp => ?_⟩
      obtain ⟨h1, h2⟩ := frzSl_ups (show frzSl id k off len (st id) = some (r.1, r.2) from h) p hp
      exact ⟨h1 ▸ hm, h2⟩
    | own id off =>
      simp only [frz] at h ⊢
      have hm := hv id (by simp [idsOf])
      rw [ha id hm]
      exact frzP_loc hc ha n id off hm h
    | agg cs =>
      simp only [frz] at h ⊢
      obtain ⟨p, h1, h2⟩ := bnd_eq.1 h
      obtain ⟨k1, k2⟩ := frzL_loc hc ha n cs (fun i hi => hv i (by simpa [idsOf] using hi)) h1
      injection h2 with h2; subst h2
      exact ⟨by rw [k1]; rfl, k2⟩
theorem frzP_loc {ts : List Nat} {st st' : Store} (hc : Clo ts st) (ha : Agree ts st st') : ∀ (n id off : Nat) {r : IV × Ups}, id ∈ ts → frzP st n id off (st id) = some r → frzP st' n id off (st id) = some r ∧ ∀ p ∈ r.2, p.1 ∈ ts ∧ idsOfB (some p.2) = []
  | 0, _, _, _, _, h => by simp [frzP] at h
  | n + 1, id, off, r, hm, h => by
    cases hst : st id with
    | none => rw [hst] at h; simp [frzP] at h
    | some blk =>
      rw [hst] at h
      cases blk with
      | arr => simp [frzP] at h
      | frz => simp [frzP] at h
      | fbox l =>
        simp only [frzP] at h ⊢
        obtain ⟨h1, h2⟩ := tst_eq.1 h
        injection h2 with h2; subst h2
        exact ⟨h, by simp⟩
      | box cs =>
        simp only [frzP] at h ⊢
        obtain ⟨p, h1, h2⟩ := bnd_eq.1 h
        obtain ⟨h3, h4⟩ := tst_eq.1 h2
        injection h4 with h4; subst h4
        obtain ⟨k1, k2⟩ := frzL_loc hc ha n cs (fun i hi => hc id hm i (by rw [hst]; simpa [idsOfB] using hi)) h1
        refine ⟨by rw [k1]; simp only [bnd_some]; rw [h3]; rfl, ?_⟩
        intro q hq
        rcases List.mem_cons.1 hq with rfl | hq
        · exact ⟨hm, rfl⟩
        · exact k2 q hq
theorem frzL_loc {ts : List Nat} {st st' : Store} (hc : Clo ts st) (ha : Agree ts st st') : ∀ (n : Nat) (cs : List AV) {r : List IV × Ups}, (∀ i ∈ idsOfL cs, i ∈ ts) → frzL st n cs = some r → frzL st' n cs = some r ∧ ∀ p ∈ r.2, p.1 ∈ ts ∧ idsOfB (some p.2) = []
  | _, [], r, _, h => by simp [frzL] at h ⊢; subst h; simp
  | 0, _ :: _, _, _, h => by simp [frzL] at h
  | n + 1, c :: cs, r, hv, h => by
    simp only [frzL] at h ⊢
    obtain ⟨p, h1, h2⟩ := bnd_eq.1 h
    obtain ⟨q, h3, h4⟩ := bnd_eq.1 h2
    injection h4 with h4; subst h4
    obtain ⟨k1, k2⟩ := frz_loc hc ha n c (fun i hi => hv i (by simp [idsOfL, hi])) h1
    obtain ⟨k3, k4⟩ := frzL_loc hc ha n cs (fun i hi => hv i (by simp [idsOfL, hi])) h3
    refine ⟨by rw [k1, bnd_some, k3]; rfl, ?_⟩
    intro u hu
    rcases List.mem_append.1 hu with hu | hu
    · exact k2 u hu
    · exact k4 u hu
end
def updOf (us : Ups) : Upd := us.map fun p => (p.1, some p.2)
theorem frzIds_apply : ∀ (us : Ups) (st : Store), frzIds st us = applyU (updOf us) st
  | [], _ => rfl
  | p :: us, st => by simp [frzIds, updOf, applyU, frzIds_apply us st]
/-- 'F' is local, and what is touched stays closed. -/
def LocC {α : Type} (ts : List Nat) (F : Store → Option (α × Store)) (st : Store) (a : α) (s1 : Store) : Prop := Loc ts (fun i => i ∈ ts) F st a s1 ∧ Clo ts s1
theorem applyU_clo {ts : List Nat} : ∀ {U : Upd} {st : Store}, Clo ts st → (∀ p ∈ U, idsOfB p.2 = []) → Clo ts (applyU U st)
  | [], _, h, _ => h
  | p :: U, st, h, hU => by
    have ih := applyU_clo (U := U) h fun q hq => hU q (by simp [hq])
    intro i hi j hj
    simp only [applyU, upd] at hj
    split at hj
    · rw [hU p (by simp)] at hj; cases hj
    · exact ih i hi j hj
theorem frzV_loc {ts : List Nat} {st s1 : Store} (hc : Clo ts st) {v : AV} {iv : IV} (hv : ∀ i ∈ idsOf v, i ∈ ts) (h : frzV st v = some (iv, s1)) : LocC ts (fun s => frzV s v) st iv s1 := by
  have key : ∀ v, (∀ i ∈ idsOf v, i ∈ ts) → (bnd (frz st fuelF v) fun p => some (p.1, frzIds st p.2)) = some (iv, s1) → (∀ s, frzV s v = bnd (frz s fuelF v) fun p => some (p.1, frzIds s p.2)) → LocC ts (fun s => frzV s v) st iv s1 := by
    intro v hv h he
    obtain ⟨p, h1, h2⟩ := bnd_eq.1 h
    injection h2 with h2; injection h2 with h2 h3; subst h2; subst h3
    obtain ⟨_, k2⟩ := frz_loc hc (fun i _ => rfl : Agree ts st st) fuelF v hv h1
    rw [frzIds_apply]
    refine ⟨⟨updOf p.2, ?_, rfl, ?_⟩, applyU_clo hc ?_⟩
    · intro q hq
      obtain ⟨u, hu, rfl⟩ := List.mem_map.1 hq
      exact (k2 u hu).1
    · intro st' ha
      obtain ⟨k1, _⟩ := frz_loc hc ha fuelF v hv h1
      simp only
      rw [he, k1, bnd_some, frzIds_apply]
    · intro q hq
      obtain ⟨u, hu, rfl⟩ := List.mem_map.1 hq
      exact (k2 u hu).2
  cases v with
  | i v =>
    simp only [frzV, Option.some.injEq, Prod.mk.injEq] at h
    obtain ⟨rfl, rfl⟩ := h
    exact ⟨.here fun _ _ => rfl, hc⟩
  | _ => exact key _ hv h fun _ => rfl
theorem LocC.seq {α β : Type} {ts : List Nat} {F : Store → Option (α × Store)} {H : Store → Option (β × Store)} {F2 : Store → Option (β × Store)} {st s1 s2 : Store} {a : α} {b : β}
    (h : LocC ts F st a s1) (h2 : LocC ts F2 s1 b s2) (hs : ∀ st' s r, F st' = some (a, s) → F2 s = some r → H st' = some r) : LocC ts H st b s2 :=
  ⟨h.1.seq (F2 := fun _ => F2) h2.1 hs, h2.2⟩
theorem LocC.map {α β : Type} {ts : List Nat} {F : Store → Option (α × Store)} {H : Store → Option (β × Store)} {st s1 : Store} {a : α} {b : β}
    (h : LocC ts F st a s1) (hs : ∀ st' s, F st' = some (a, s) → H st' = some (b, s)) : LocC ts H st b s1 := by
  obtain ⟨⟨U, h1, h2, h3⟩, h4⟩ := h
  exact ⟨⟨U, h1, h2, fun st' ha => hs _ _ (h3 st' ha)⟩, h4⟩
theorem frzVs_loc {ts : List Nat} : ∀ {cs : List AV} {st s1 : Store} {l : List IV}, Clo ts st → (∀ i ∈ idsOfL cs, i ∈ ts) → frzVs st cs = some (l, s1) → LocC ts (fun s => frzVs s cs) st l s1
  | [], st, s1, l, hc, _, h => by
    simp [frzVs] at h; obtain ⟨rfl, rfl⟩ := h; exact ⟨.here fun _ _ => rfl, hc⟩
  | c :: cs, st, s1, l, hc, hv, h => by
    simp only [frzVs] at h
    obtain ⟨p, h1, h2⟩ := bnd_eq.1 h
    obtain ⟨q, h3, h4⟩ := bnd_eq.1 h2
    injection h4 with h4; injection h4 with h4 h5; subst h4; subst h5
    have k1 := frzV_loc hc (fun i hi => hv i (by simp [idsOfL, hi])) (show frzV st c = some (p.1, p.2) from h1)
    have k2 := frzVs_loc k1.2 (fun i hi => hv i (by simp [idsOfL, hi])) (show frzVs p.2 cs = some (q.1, q.2) from h3)
    refine k1.seq (k2.map (H := fun s => bnd (frzVs s cs) fun q => some (p.1 :: q.1, q.2)) fun st' s e => ?_) fun st' s r e1 e2 => ?_
    · show bnd (frzVs st' cs) _ = _; rw [show frzVs st' cs = _ from e]; rfl
    · simp only [frzVs] at e1 e2 ⊢; rw [e1]; exact e2
theorem frzParts_loc {ts : List Nat} : ∀ {ps : List (Nat × List AV)} {st s1 : Store} {l : List (Nat × List IV)}, Clo ts st → (∀ p ∈ ps, ∀ i ∈ idsOfL p.2, i ∈ ts) → frzParts st ps = some (l, s1) → LocC ts (fun s => frzParts s ps) st l s1
  | [], st, s1, l, hc, _, h => by
    simp [frzParts] at h; obtain ⟨rfl, rfl⟩ := h; exact ⟨.here fun _ _ => rfl, hc⟩
  | c :: cs, st, s1, l, hc, hv, h => by
    simp only [frzParts] at h
    obtain ⟨p, h1, h2⟩ := bnd_eq.1 h
    obtain ⟨q, h3, h4⟩ := bnd_eq.1 h2
    injection h4 with h4; injection h4 with h4 h5; subst h4; subst h5
    have k1 := frzVs_loc hc (fun i hi => hv c (by simp) i hi) (show frzVs st c.2 = some (p.1, p.2) from h1)
    have k2 := frzParts_loc k1.2 (fun d hd i hi => hv d (by simp [hd]) i hi) (show frzParts p.2 cs = some (q.1, q.2) from h3)
    refine k1.seq (k2.map (H := fun s => bnd (frzParts s cs) fun q => some ((c.1, p.1) :: q.1, q.2)) fun st' s e => ?_) fun st' s r e1 e2 => ?_
    · show bnd (frzParts st' cs) _ = _; rw [show frzParts st' cs = _ from e]; rfl
    · simp only [frzParts] at e1 e2 ⊢; rw [e1]; exact e2
theorem argVal_loc {ts : List Nat} {st s1 : Store} (hc : Clo ts st) {v u : AV} (hv : ∀ i ∈ idsOf v, i ∈ ts) (h : argVal st v = some (u, s1)) : LocC ts (fun s => argVal s v) st u s1 ∧ ∀ i ∈ idsOf u, i ∈ ts := by
  have key : ∀ v, (∀ i ∈ idsOf v, i ∈ ts) → (bnd (frzV st v) fun p => some (AV.i p.1, p.2)) = some (u, s1) → (∀ s, argVal s v = bnd (frzV s v) fun p => some (AV.i p.1, p.2)) → LocC ts (fun s => argVal s v) st u s1 ∧ ∀ i ∈ idsOf u, i ∈ ts := by
    intro v hv h he
    obtain ⟨p, h1, h2⟩ := bnd_eq.1 h
    injection h2 with h2; injection h2 with h2 h3; subst h2; subst h3
    refine ⟨(frzV_loc hc hv (show frzV st v = some (p.1, p.2) from h1)).map fun st' s e => ?_, by simp [idsOf]⟩
    show argVal st' v = _
    rw [he, show frzV st' v = _ from e]; rfl
  cases v with
  | i v =>
    simp only [argVal, Option.some.injEq, Prod.mk.injEq] at h
    obtain ⟨rfl, rfl⟩ := h
    exact ⟨⟨.here fun _ _ => rfl, hc⟩, hv⟩
  | fn f cs =>
    simp only [argVal, Option.some.injEq, Prod.mk.injEq] at h
    obtain ⟨rfl, rfl⟩ := h
    exact ⟨⟨.here fun _ _ => rfl, hc⟩, hv⟩
  | _ => exact key _ hv h fun _ => rfl
theorem argsVal_loc {ts : List Nat} : ∀ {cs us : List AV} {st s1 : Store}, Clo ts st → (∀ i ∈ idsOfL cs, i ∈ ts) → argsVal st cs = some (us, s1) → LocC ts (fun s => argsVal s cs) st us s1 ∧ ∀ i ∈ idsOfL us, i ∈ ts
  | [], us, st, s1, hc, _, h => by
    simp [argsVal] at h; obtain ⟨rfl, rfl⟩ := h; exact ⟨⟨.here fun _ _ => rfl, hc⟩, by simp [idsOfL]⟩
  | c :: cs, us, st, s1, hc, hv, h => by
    simp only [argsVal] at h
    obtain ⟨p, h1, h2⟩ := bnd_eq.1 h
    obtain ⟨q, h3, h4⟩ := bnd_eq.1 h2
    injection h4 with h4; injection h4 with h4 h5; subst h4; subst h5
    obtain ⟨k1, j1⟩ := argVal_loc hc (fun i hi => hv i (by simp [idsOfL, hi])) (show argVal st c = some (p.1, p.2) from h1)
    obtain ⟨k2, j2⟩ := argsVal_loc k1.2 (fun i hi => hv i (by simp [idsOfL, hi])) (show argsVal p.2 cs = some (q.1, q.2) from h3)
    refine ⟨k1.seq (k2.map (H := fun s => bnd (argsVal s cs) fun q => some (p.1 :: q.1, q.2)) fun st' s e => ?_) fun st' s r e1 e2 => ?_, ?_⟩
    · show bnd (argsVal st' cs) _ = _; rw [show argsVal st' cs = _ from e]; rfl
    · simp only [argsVal] at e1 e2 ⊢; rw [e1]; exact e2
    · intro i hi
      simp only [idsOfL, List.mem_append] at hi
      exact hi.elim (j1 i) (j2 i)
end Go.Av

/- An operation is local. No condition. -/
namespace Go.Av
section
variable {C : Ctx}
theorem idsOfL_imp : ∀ (l : List IV), idsOfL (impI l) = []
  | [] => rfl
  | v :: l => by simp [impI, idsOfL, idsOf, idsOfL_imp l]
theorem cellsOf_ids {v : AV} {cs : List AV} (h : cellsOf v = some cs) : ∀ i ∈ idsOfL cs, i ∈ idsOf v := by
  unfold cellsOf at h
  split at h
  · cases h
  · cases h
  · injection h with h; subst h; intro i hi; simpa [idsOf] using hi
  · injection h with h; subst h; intro i hi; rw [idsOfL_imp] at hi; cases hi
  · cases h
  · cases h
  · injection h with h; subst h; intro i hi; simpa [idsOfL] using hi
theorem partsOf_ids {env : Nat → AV} : ∀ {l : List (Nat × Operand)} {ps : List (Nat × List AV)}, partsOf env l = some ps → ∀ p ∈ ps, ∀ i ∈ idsOfL p.2, i ∈ idsOfL (evL env (partOps l))
  | [], ps, h => by simp [partsOf] at h; subst h; simp
  | q :: l, ps, h => by
    simp only [partsOf] at h
    obtain ⟨cs, h1, h2⟩ := bnd_eq.1 h
    obtain ⟨ps', h3, h4⟩ := bnd_eq.1 h2
    injection h4 with h4; subst h4
    intro p hp i hi
    simp only [partOps, evL, idsOfL, List.mem_append]
    rcases List.mem_cons.1 hp with rfl | hp
    · exact .inl (cellsOf_ids h1 i hi)
    · exact .inr (partsOf_ids h3 p hp i hi)

/-- What an operation may change. -/
def Wr (ts : List Nat) (nb : Nat) (ro : Bool) (i : Nat) : Prop := (ro = false ∧ i ∈ ts) ∨ (nb ≤ i ∧ i < nb + wide)
theorem Wr.nb (ts : List Nat) (nb : Nat) (ro : Bool) : Wr ts nb ro nb := .inr ⟨Nat.le_refl _, lt_wide nb⟩
theorem LocC.wr {α : Type} {ts : List Nat} {F : Store → Option (α × Store)} {st s1 : Store} {a : α} (h : LocC ts F st a s1) (nb : Nat) : Loc ts (Wr ts nb false) F st a s1 := h.1.mono fun _ hi => .inl ⟨rfl, hi⟩

theorem loadA_loc {ts : List Nat} {st st' : Store} {t : TypeId} {a : AV} (ha : Agree ts st st') (hv : ∀ i ∈ idsOf a, i ∈ ts) : loadA C t a st' = loadA C t a st := by
  unfold loadA
  congr 1; funext n; congr 1; funext g
  unfold loadAt
  cases a with
  | own id off => simp only; rw [ha id (hv id (by simp [idsOf]))]
  | ownE id k ix off => simp only; rw [ha id (hv id (by simp [idsOf]))]
  | i v => cases v <;> rfl
  | _ => rfl
theorem elemsOf_loc {ts : List Nat} {st st' : Store} {k : Nat} {a : AV} (ha : Agree ts st st') (hv : ∀ i ∈ idsOf a, i ∈ ts) : elemsOf st' k a = elemsOf st k a := by
  unfold elemsOf
  cases a with
  | osl id k' off len => simp only; rw [ha id (hv id (by simp [idsOf]))]
  | i v =>
    cases v with
    | lit v => cases v <;> rfl
    | _ => rfl
  | _ => rfl
theorem storeA_loc {ts : List Nat} {st s1 : Store} {t : TypeId} {a x : AV} {nb : Nat} (hc : Clo ts st) (ha : ∀ i ∈ idsOf a, i ∈ ts) (hx : ∀ i ∈ idsOf x, i ∈ ts) (h : storeA C t a x st = some s1) :
    Loc ts (Wr ts nb false) (fun s => bnd (storeA C t a x s) fun r => some (AV.i (.lit undef), r)) st (.i (.lit undef)) s1 := by
  unfold storeA at h ⊢
  obtain ⟨n, h1, h2⟩ := bnd_eq.1 h
  obtain ⟨xs, h3, h4⟩ := bnd_eq.1 h2
  obtain ⟨h5, h6⟩ := tst_eq.1 h4
  simp only [h1, h3, bnd_some, h5, tst_true]
  unfold storeAt at h6
  cases a with
  | own id off =>
    simp only at h6
    have hm := ha id (by simp [idsOf])
    unfold storeB at h6
    split at h6
    · rename_i cs hcs
      obtain ⟨l, k1, k2⟩ := bnd_eq.1 h6
      injection k2 with k2; subst k2
      refine .one (.inl ⟨rfl, hm⟩) fun st' hag => ?_
      simp only [storeAt]
      rw [hag id hm, hcs]
      simp [storeB, k1]
    · cases h6
  | ownE id k ix off =>
    simp only at h6
    have hm := ha id (by simp [idsOf])
    obtain ⟨p, k1, k2⟩ := bnd_eq.1 h6
    have hl := frzVs_loc hc (fun i hi => hx i (cellsOf_ids h3 i hi)) (show frzVs st xs = some (p.1, p.2) from k1)
    have h2' : Loc ts (Wr ts nb false) (fun s => bnd (storeE id k ix off p.1 s (s id)) fun r => some (AV.i (.lit undef), r)) p.2 (.i (.lit undef)) s1 := by
      unfold storeE at k2
      split at k2
      · rename_i k' es hes
        obtain ⟨j1, j2⟩ := tst_eq.1 k2
        obtain ⟨e, j3, j4⟩ := bnd_eq.1 j2
        obtain ⟨e', j5, j6⟩ := bnd_eq.1 j4
        injection j6 with j6; subst j6
        refine .one (.inl ⟨rfl, hm⟩) fun st' hag => ?_
        rw [hag id hm, hes]
        simp [storeE, j1, j3, j5]
      · cases k2
    refine (hl.wr nb).seq (F2 := fun q s => bnd (storeE id k ix off q s (s id)) fun r => some (AV.i (.lit undef), r)) h2' fun st' s r e1 e2 => ?_
    simp only [storeAt]
    rw [show frzVs st' xs = _ from e1]
    exact e2
  | _ => simp at h6
theorem appA_loc {ts : List Nat} {st s1 : Store} {t : TypeId} {a x v : AV} {nb : Nat} (ha : ∀ i ∈ idsOf a, i ∈ ts) (hx : ∀ i ∈ idsOf x, i ∈ ts) (h : appA C t a x st nb = some (v, s1)) :
    Loc ts (Wr ts nb false) (fun s => appA C t a x s nb) st v s1 := by
  unfold appA at h ⊢
  obtain ⟨e, h1, h2⟩ := bnd_eq.1 h
  obtain ⟨k, h3, h4⟩ := bnd_eq.1 h2
  obtain ⟨by_, h5, h6⟩ := bnd_eq.1 h4
  obtain ⟨z, h7, h8⟩ := bnd_eq.1 h6
  obtain ⟨h9, h10⟩ := tst_eq.1 h8
  obtain ⟨news, h11, h12⟩ := bnd_eq.1 h10
  simp only [h1, h3, h5, h7, bnd_some, h9, tst_true]
  have hel : ∀ st', Agree ts st st' → elemsOf st' k x = some news := fun st' hag => by rw [elemsOf_loc hag hx]; exact h11
  unfold appTo at h12
  cases a with
  | nils =>
    simp only at h12
    unfold appNil at h12
    split at h12
    · rename_i hem
      injection h12 with h12; injection h12 with j1 j2; subst j1; subst j2
      refine .here fun st' hag => ?_
      rw [hel st' hag]; simp [appTo, appNil, hem]
    · rename_i hem
      obtain ⟨j1, j2⟩ := tst_eq.1 h12
      injection j2 with j2; injection j2 with j2 j3; subst j2; subst j3
      refine .one (Wr.nb _ _ _) fun st' hag => ?_
      rw [hel st' hag]; simp only [bnd_some, appTo]; rw [hem]; simp only [appNil]; rw [j1]; rfl
  | osl id k' off len =>
    simp only at h12
    have hm := ha id (by simp [idsOf])
    unfold appOsl at h12
    split at h12
    · rename_i k'' es hes
      obtain ⟨j1, j2⟩ := tst_eq.1 h12
      injection j2 with j2; injection j2 with j2 j3; subst j2; subst j3
      refine ⟨[(nb, some (.arr k (es.take len ++ news))), (id, none)], ?_, rfl, fun st' hag => ?_⟩
      · intro p hp
        simp at hp
        rcases hp with rfl | rfl
        · exact Wr.nb _ _ _
        · exact .inl ⟨rfl, hm⟩
      · simp only
        rw [hel st' hag]
        simp only [bnd_some, appTo]
        rw [hag id hm, hes]
        simp only [appOsl]
        rw [j1]
        rfl
    · cases h12
  | _ => simp at h12
theorem copyA_loc {ts : List Nat} {st s1 : Store} {t : TypeId} {a x v : AV} {nb : Nat} (ha : ∀ i ∈ idsOf a, i ∈ ts) (hx : ∀ i ∈ idsOf x, i ∈ ts) (h : copyA C t a x st = some (v, s1)) :
    Loc ts (Wr ts nb false) (fun s => copyA C t a x s) st v s1 := by
  unfold copyA at h ⊢
  obtain ⟨e, h1, h2⟩ := bnd_eq.1 h
  obtain ⟨k, h3, h4⟩ := bnd_eq.1 h2
  obtain ⟨h9, h10⟩ := tst_eq.1 h4
  obtain ⟨src, h11, h12⟩ := bnd_eq.1 h10
  simp only [h1, h3, bnd_some, h9, tst_true]
  have hel : ∀ st', Agree ts st st' → elemsOf st' k x = some src := fun st' hag => by rw [elemsOf_loc hag hx]; exact h11
  unfold copyTo at h12
  cases a with
  | nils =>
    simp only at h12
    injection h12 with h12; injection h12 with j1 j2; subst j1; subst j2
    refine .here fun st' hag => ?_
    rw [hel st' hag]; simp [copyTo]
  | osl id k' off len =>
    simp only at h12
    have hm := ha id (by simp [idsOf])
    unfold copyOsl at h12
    split at h12
    · rename_i k'' es hes
      obtain ⟨j1, j2⟩ := tst_eq.1 h12
      injection j2 with j2; injection j2 with j2 j3; subst j2; subst j3
      refine .one (.inl ⟨rfl, hm⟩) fun st' hag => ?_
      rw [hel st' hag]
      simp only [bnd_some, copyTo]
      rw [hag id hm, hes]
      simp only [copyOsl]
      rw [j1]
      rfl
    · cases h12
  | _ => simp at h12

/-! ### Reaching -/
theorem reach_in {ts : List Nat} {st : Store} (hc : Clo ts st) : ∀ (n : Nat) (todo seen : List Nat), (∀ i ∈ todo, i ∈ ts) → (∀ i ∈ seen, i ∈ ts) → ∀ i ∈ reach st n todo seen, i ∈ ts
  | 0, _, _, _, h => by simpa [reach] using h
  | _ + 1, [], _, _, h => by simpa [reach] using h
  | n + 1, i :: todo, seen, ht, h => by
    simp only [reach]
    split
    · exact reach_in hc n _ _ (fun j hj => ht j (by simp [hj])) h
    · have hi := ht i (by simp)
      refine reach_in hc n _ _ (fun j hj => ?_) (fun j hj => ?_)
      · rcases List.mem_append.1 hj with hj | hj
        · exact hc i hi j hj
        · exact ht j (by simp [hj])
      · rcases List.mem_append.1 hj with hj | hj
        · exact h j hj
        · simp at hj; subst hj; exact hi
theorem reach_loc {ts : List Nat} {st st' : Store} (hc : Clo ts st) (ha : Agree ts st st') : ∀ (n : Nat) (todo seen : List Nat), (∀ i ∈ todo, i ∈ ts) → reach st' n todo seen = reach st n todo seen
  | 0, _, _, _ => rfl
  | _ + 1, [], _, _ => rfl
  | n + 1, i :: todo, seen, ht => by
    simp only [reach]
    have hi := ht i (by simp)
    rw [ha i hi, reach_loc hc ha n todo seen (fun j hj => ht j (by simp [hj])), reach_loc hc ha n (idsOfB (st i) ++ todo) (seen ++ [i]) (fun j hj => ?_)]
    rcases List.mem_append.1 hj with hj | hj
    · exact hc i hi j hj
    · exact ht j (by simp [hj])
theorem takeSt_loc {ts : List Nat} {st st' : Store} (r : Nat → Option Nat) (ha : Agree ts st st') : ∀ {ids : List Nat}, (∀ i ∈ ids, i ∈ ts) → takeSt r st' ids = takeSt r st ids
  | [], _ => rfl
  | i :: ids, h => by simp only [takeSt]; rw [ha i (h i (by simp)), takeSt_loc r ha (fun j hj => h j (by simp [hj]))]
theorem liveAll_loc {ts : List Nat} {st st' : Store} (ha : Agree ts st st') : ∀ {ids : List Nat}, (∀ i ∈ ids, i ∈ ts) → liveAll st' ids = liveAll st ids
  | [], _ => rfl
  | i :: ids, h => by simp only [liveAll]; rw [ha i (h i (by simp)), liveAll_loc ha (fun j hj => h j (by simp [hj]))]
def putU (r : Nat → Option Nat) (nb : Nat) : List Nat → StL → Upd
  | _, [] => []
  | i :: ids, b :: bs => (i, renB r b) :: putU r nb ids bs
  | [], b :: bs => (nb, renB r b) :: putU r (nb + 1) [] bs
theorem putBack_apply (r : Nat → Option Nat) (st : Store) : ∀ (nb : Nat) (ids : List Nat) (stl : StL), putBack r st nb ids stl = applyU (putU r nb ids stl) st
  | _, [], [] => rfl
  | _, _ :: _, [] => rfl
  | nb, i :: ids, b :: bs => by simp [putBack, putU, applyU, putBack_apply r st nb ids bs]
  | nb, [], b :: bs => by simp [putBack, putU, applyU, putBack_apply r st (nb + 1) [] bs]
theorem putU_ids (r : Nat → Option Nat) : ∀ (nb : Nat) (ids : List Nat) (stl : StL), ∀ p ∈ putU r nb ids stl, p.1 ∈ ids ∨ (nb ≤ p.1 ∧ p.1 < nb + (stl.length - ids.length))
  | _, [], [] => by simp [putU]
  | _, _ :: _, [] => by simp [putU]
  | nb, i :: ids, b :: bs => by
    intro p hp
    simp only [putU, List.mem_cons] at hp
    rcases hp with rfl | hp
    · simp
    · rcases putU_ids r nb ids bs p hp with h | h
      · simp [h]
      · right; simpa using h
  | nb, [], b :: bs => by
    intro p hp
    simp only [putU, List.mem_cons] at hp
    rcases hp with rfl | hp
    · right; simp
    · rcases putU_ids r (nb + 1) [] bs p hp with h | h
      · simp at h
      · right; simp at h ⊢; omega
theorem callGo_loc {call : CallF} {ts : List Nat} {st s1 : Store} {nb : Nat} {own : Bool} {g : FuncId} {args : List AV} {v : AV} (hc : Clo ts st) (hv : ∀ i ∈ idsOfL args, i ∈ ts) (h : callGo call own g args st nb = some (v, s1)) :
    Loc ts (Wr ts nb false) (fun s => callGo call own g args s nb) st v s1 := by
  unfold callGo at h ⊢
  obtain ⟨p, h1, h2⟩ := bnd_eq.1 h
  have hfr : LocC ts (fun s => argsFor s args own) st p.1 p.2 ∧ ∀ i ∈ idsOfL p.1, i ∈ ts := by
    cases own with
    | true =>
      simp only [argsFor, Option.some.injEq] at h1
      subst h1
      exact ⟨⟨.here fun _ _ => rfl, hc⟩, hv⟩
    | false => exact argsVal_loc hc hv (show argsVal st args = some (p.1, p.2) from h1)
  have h2' : Loc ts (Wr ts nb false) (fun s => callWith call g p.1 s nb (reach s fuelR (idsOfL p.1) [])) p.2 v s1 := by
    unfold callWith at h2 ⊢
    obtain ⟨h3, h4⟩ := tst_eq.1 h2
    obtain ⟨q, h5, h6⟩ := bnd_eq.1 h4
    unfold callBack at h6
    obtain ⟨h7, h8⟩ := tst_eq.1 h6
    injection h8 with h8; injection h8 with h8 h9; subst h8; subst h9
    have hin := reach_in hfr.1.2 fuelR (idsOfL p.1) [] hfr.2 (by simp)
    rw [putBack_apply]
    refine ⟨putU _ nb _ q.2, fun u hu => ?_, rfl, fun st' hag => ?_⟩
    · rcases putU_ids _ _ _ _ u hu with k | k
      · exact .inl ⟨rfl, hin _ k⟩
      · have := (of_decide_eq_true h7).2
        exact .inr ⟨k.1, by omega⟩
    · simp only
      rw [reach_loc hfr.1.2 hag fuelR _ [] hfr.2, liveAll_loc hag hin, takeSt_loc _ hag hin, h3, h5]
      simp only [tst_true, bnd_some, callBack]
      rw [h7, putBack_apply]
      rfl
  refine (hfr.1.wr nb).seq (F2 := fun us s => callWith call g us s nb (reach s fuelR (idsOfL us) [])) h2' fun st' s r e1 e2 => ?_
  show bnd (argsFor st' args own) _ = _
  rw [show argsFor st' args own = _ from e1]
  exact e2
end
end Go.Av

/- Operations that touch nothing in common may change places. No condition. -/
namespace Go.Av
section
variable {C : Ctx}
theorem pure_loc {α β : Type} {ts : List Nat} {ex : Nat → Prop} {o : Option α} {f : α → β} {st s1 : Store} {v : β} (h : (bnd o fun a => some (f a, st)) = some (v, s1)) : Loc ts ex (fun s => bnd o fun a => some (f a, s)) st v s1 := by
  obtain ⟨a, h1, h2⟩ := bnd_eq.1 h
  injection h2 with h2; injection h2 with h2 h3; subst h2; subst h3
  exact .here fun st' _ => by simp [h1]
theorem stepP_loc {env : Nat → AV} {ts : List Nat} {st s1 : Store} {nb : Nat} {op : Op} {v : AV} (hg : goCall op = none) (hc : Clo ts st) (hv : ∀ i ∈ (touchI env op).1, i ∈ ts) (h : stepP C env st nb op = some (v, s1)) :
    Loc ts (Wr ts nb (touchI env op).2) (fun s => stepP C env s nb op) st v s1 := by
  unfold stepP at h
  split at h
  · injection h with h; injection h with h1 h2; subst h1; subst h2; exact .here fun _ _ => rfl
  · injection h with h; injection h with h1 h2; subst h1; subst h2; exact .here fun _ _ => rfl
  · exact pure_loc (f := fun v => v) h
  · obtain ⟨z, h1, h2⟩ := bnd_eq.1 h
    injection h2 with h2; injection h2 with h2 h3; subst h2; subst h3
    exact .one (Wr.nb _ _ _) fun st' _ => by simp [stepP, h1]
  · obtain ⟨z, h1, h2⟩ := bnd_eq.1 h
    injection h2 with h2; injection h2 with h2 h3; subst h2; subst h3
    exact .one (Wr.nb _ _ _) fun st' _ => by simp [stepP, h1]
  · rename_i t parts
    obtain ⟨g, h1, h2⟩ := bnd_eq.1 h
    obtain ⟨h3, h4⟩ := tst_eq.1 h2
    obtain ⟨z, h5, h6⟩ := bnd_eq.1 h4
    obtain ⟨ps, h7, h8⟩ := bnd_eq.1 h6
    obtain ⟨cs, h9, h10⟩ := bnd_eq.1 h8
    injection h10 with h10; injection h10 with h11 h12; subst h11; subst h12
    exact .here fun st' _ => by simp [stepP, h1, h3, h5, h7, h9]
  · rename_i t n parts
    obtain ⟨e, h1, h2⟩ := bnd_eq.1 h
    obtain ⟨ps, h3, h4⟩ := bnd_eq.1 h2
    unfold sliceLit at h4
    obtain ⟨k, h5, h6⟩ := bnd_eq.1 h4
    obtain ⟨z, h7, h8⟩ := bnd_eq.1 h6
    obtain ⟨zi, h9, h10⟩ := bnd_eq.1 h8
    obtain ⟨h11, h12⟩ := tst_eq.1 h10
    obtain ⟨q, h13, h14⟩ := bnd_eq.1 h12
    obtain ⟨es, h15, h16⟩ := bnd_eq.1 h14
    injection h16 with h16; injection h16 with h17 h18; subst h17; subst h18
    have hl := frzParts_loc hc (fun p hp i hi => hv i (by simp only [touchI]; exact partsOf_ids h3 p hp i hi)) (show frzParts st ps = some (q.1, q.2) from h13)
    refine (hl.wr nb).seq (F2 := fun l s => bnd (setElems k (repl n zi) l) fun es => some (AV.osl nb k 0 n, upd s nb (some (.arr k es)))) ?_ fun st' s r e1 e2 => ?_
    · exact .one (Wr.nb _ _ _) fun st' _ => by simp [h15]
    · simp only [stepP, h1, h3, bnd_some, sliceLit, h5, h7, h9]
      rw [h11, tst_true, show frzParts st' ps = _ from e1]
      exact e2
  · rename_i t a
    obtain ⟨x, h1, h2⟩ := bnd_eq.1 h
    injection h2 with h2; injection h2 with h2 h3; subst h2; subst h3
    exact .here fun st' hag => by simp only [stepP]; rw [loadA_loc hag (fun i hi => hv i hi), h1]; rfl
  · rename_i t a x
    obtain ⟨s2, h1, h2⟩ := bnd_eq.1 h
    injection h2 with h2; injection h2 with h2 h3; subst h2; subst h3
    exact storeA_loc hc (fun i hi => hv i (by simp [touchI, hi])) (fun i hi => hv i (by simp [touchI, hi])) h1
  · exact pure_loc (f := fun v => v) h
  · exact pure_loc (f := fun v => AV.i v) h
  · exact pure_loc (f := fun v => AV.i v) h
  · exact pure_loc (f := fun v => v) h
  · rename_i t l c
    unfold makeA at h
    split at h
    · rename_i l c hl hcc
      obtain ⟨e, h1, h2⟩ := bnd_eq.1 h
      obtain ⟨k, h3, h4⟩ := bnd_eq.1 h2
      obtain ⟨by_, h5, h6⟩ := bnd_eq.1 h4
      obtain ⟨z, h7, h8⟩ := bnd_eq.1 h6
      obtain ⟨zi, h9, h10⟩ := bnd_eq.1 h8
      obtain ⟨h11, h12⟩ := tst_eq.1 h10
      injection h12 with h12; injection h12 with h13 h14; subst h13; subst h14
      refine .one (Wr.nb _ _ _) fun st' _ => ?_
      simp only [stepP]
      rw [hl, hcc]
      simp only [makeA, h1, h3, h5, h7, h9, bnd_some]
      rw [h11, tst_true]
    · cases h
  · exact pure_loc (f := fun v => v) h
  · rename_i s x f
    obtain ⟨p, h1, h2⟩ := bnd_eq.1 h
    obtain ⟨n, h3, h4⟩ := bnd_eq.1 h2
    obtain ⟨h5, h6⟩ := tst_eq.1 h4
    obtain ⟨r, h7, h8⟩ := bnd_eq.1 h6
    injection h8 with h8; injection h8 with h8 h9; subst h8; subst h9
    exact .here fun st' _ => by simp only [stepP, h1, h3, bnd_some]; rw [h5, tst_true, h7]; rfl
  · rename_i s x f
    obtain ⟨p, h1, h2⟩ := bnd_eq.1 h
    obtain ⟨n, h3, h4⟩ := bnd_eq.1 h2
    obtain ⟨g, h5, h6⟩ := bnd_eq.1 h4
    obtain ⟨r, h7, h8⟩ := bnd_eq.1 h6
    injection h8 with h8; injection h8 with h8 h9; subst h8; subst h9
    exact .here fun st' _ => by simp only [stepP, h1, h3, h5, h7, bnd_some]
  · exact pure_loc (f := fun v => v) h
  · exact pure_loc (f := fun v => v) h
  · exact pure_loc (f := fun v => v) h
  · obtain ⟨h1, h2⟩ := tst_eq.1 h
    injection h2 with h2; injection h2 with h2 h3; subst h2; subst h3
    exact .here fun st' _ => by simp only [stepP]; rw [h1, tst_true]
  · rename_i b args ts'
    unfold builtinA at h
    split at h
    · rename_i t x e1 e2
      obtain ⟨n, h1, h2⟩ := bnd_eq.1 h
      injection h2 with h2; injection h2 with h2 h3; subst h2; subst h3
      exact .here fun st' _ => by simp only [stepP]; rw [e1, e2]; simp [builtinA, h1]
    · rename_i t u s x e1 e2
      obtain ⟨h1, h2⟩ := tst_eq.1 h
      have hv' : ∀ i ∈ idsOfL [s, x], i ∈ ts := fun i hi => hv i (show i ∈ idsOfL (evL env args.toList) by rw [e2]; exact hi)
      have hl := appA_loc (fun i hi => hv' i (by simp [idsOfL, hi])) (fun i hi => hv' i (by simp [idsOfL, hi])) h2
      obtain ⟨U, k1, k2, k3⟩ := hl
      refine ⟨U, k1, k2, fun st' hag => ?_⟩
      simp only [stepP]
      rw [e1, e2]
      simp only [builtinA]
      rw [h1, tst_true]
      exact k3 st' hag
    · rename_i t u d x e1 e2
      have hv' : ∀ i ∈ idsOfL [d, x], i ∈ ts := fun i hi => hv i (show i ∈ idsOfL (evL env args.toList) by rw [e2]; exact hi)
      obtain ⟨U, k1, k2, k3⟩ := copyA_loc (nb := nb) (fun i hi => hv' i (by simp [idsOfL, hi])) (fun i hi => hv' i (by simp [idsOfL, hi])) h
      refine ⟨U, k1, k2, fun st' hag => ?_⟩
      simp only [stepP]
      rw [e1, e2]
      exact k3 st' hag
    · obtain ⟨n, h1, h2⟩ := bnd_eq.1 h
      injection h2 with h2; injection h2 with h2 h3; subst h2; subst h3
      exact .here fun st' _ => by simp only [stepP]; simp [builtinA, h1]
    · obtain ⟨n, h1, h2⟩ := bnd_eq.1 h
      injection h2 with h2; injection h2 with h2 h3; subst h2; subst h3
      exact .here fun st' _ => by simp only [stepP]; simp [builtinA, h1]
    · cases h
  · cases h
theorem stepOp_loc {call : CallF} {env : Nat → AV} {ts : List Nat} {st s1 : Store} {nb : Nat} {op : Op} {v : AV} (hc : Clo ts st) (hv : ∀ i ∈ (touchI env op).1, i ∈ ts) (h : stepOp C call op env st nb = some (v, s1)) :
    Loc ts (Wr ts nb (touchI env op).2) (fun s => stepOp C call op env s nb) st v s1 := by
  unfold stepOp at h ⊢
  cases hg : goCall op with
  | none =>
    rw [hg] at h
    exact stepP_loc hg hc hv h
  | some q =>
    rw [hg] at h
    obtain ⟨args, ts', hop, hargs⟩ := goCall_eq hg
    simp only [stepW] at h ⊢
    have htouch : touchI env op = (idsOf (ev env q.1) ++ idsOfL (evL env q.2), false) := by rw [hop, ← hargs]; rfl
    rw [htouch] at hv ⊢
    unfold stepC at h ⊢
    split at h
    · rename_i g caps hfe
      rw [hfe] at hv ⊢
      refine callGo_loc hc (fun i hi => hv i ?_) h
      have : ∀ (a b : List AV), idsOfL (a ++ b) = idsOfL a ++ idsOfL b := by
        intro a b
        induction a with
        | nil => rfl
        | cons c a ih => simp [idsOfL, ih]
      rw [this] at hi
      simp only [idsOf, List.mem_append] at hi ⊢
      exact hi.symm
    · cases h

/-! ### The same operands, the same step -/
theorem evL_congr {env env' : Nat → AV} : ∀ {l : List Operand}, (∀ x ∈ l, ev env' x = ev env x) → evL env' l = evL env l
  | [], _ => rfl
  | x :: l, h => by simp only [evL]; rw [h x (by simp), evL_congr fun y hy => h y (by simp [hy])]
theorem partsOf_congr {env env' : Nat → AV} : ∀ {l : List (Nat × Operand)}, (∀ x ∈ partOps l, ev env' x = ev env x) → partsOf env' l = partsOf env l
  | [], _ => rfl
  | p :: l, h => by simp only [partsOf]; rw [h p.2 (by simp [partOps]), partsOf_congr fun y hy => h y (by simp [partOps, hy])]
theorem evO_congr {env env' : Nat → AV} {o : Option Operand} (h : ∀ x ∈ o.toList, ev env' x = ev env x) : evO env' o = evO env o := by
  cases o with
  | none => rfl
  | some x => simp only [evO]; rw [h x (by simp)]
theorem stepP_congr {env env' : Nat → AV} {st : Store} {nb : Nat} {op : Op} (h : ∀ x ∈ opsOf op, ev env' x = ev env x) : stepP C env' st nb op = stepP C env st nb op := by
  cases op with
  | slice t x lo hi mx =>
    have hx := h x (by simp [opsOf])
    have hlo := evO_congr (env := env) (env' := env') (o := lo) fun y hy => h y (by simp [opsOf] at hy ⊢; simp [hy])
    have hhi := evO_congr (env := env) (env' := env') (o := hi) fun y hy => h y (by simp [opsOf] at hy ⊢; simp [hy])
    cases mx with
    | none => simp only [stepP]; rw [hx, hlo, hhi]
    | some m => rfl
  | call c =>
    obtain ⟨callee, args, ts⟩ := c
    cases callee with
    | builtin b =>
      simp only [stepP]
      rw [evL_congr (l := args.toList) fun y hy => h y (show y ∈ args.toList from hy)]
    | value f => rfl
    | invoke f m => rfl
  | build t parts => simp only [stepP]; rw [partsOf_congr (l := parts.toList) fun y hy => h y hy]
  | buildSlice t n parts => simp only [stepP]; rw [partsOf_congr (l := parts.toList) fun y hy => h y hy]
  | makeFunc f first cs => simp only [stepP]; rw [evL_congr (l := cs.toList) fun y hy => h y hy]
  | move x => simp only [stepP]; rw [h x (by simp [opsOf])]
  | assign x => simp only [stepP]; rw [h x (by simp [opsOf])]
  | pick c a b => simp only [stepP]; rw [h c (by simp [opsOf]), h a (by simp [opsOf]), h b (by simp [opsOf])]
  | box t x => simp only [stepP]; rw [h x (by simp [opsOf])]
  | load t x => simp only [stepP]; rw [h x (by simp [opsOf])]
  | store t a x => simp only [stepP]; rw [h a (by simp [opsOf]), h x (by simp [opsOf])]
  | nilCheck x => simp only [stepP]; rw [h x (by simp [opsOf])]
  | binOp op t x y ty => simp only [stepP]; rw [h x (by simp [opsOf]), h y (by simp [opsOf])]
  | unOp op ty x => simp only [stepP]; rw [h x (by simp [opsOf])]
  | convert s d x => simp only [stepP]; rw [h x (by simp [opsOf])]
  | makeSlice t l c => simp only [stepP]; rw [h l (by simp [opsOf]), h c (by simp [opsOf])]
  | fieldAddr s x f => simp only [stepP]; rw [h x (by simp [opsOf])]
  | field s x f => simp only [stepP]; rw [h x (by simp [opsOf])]
  | indexAddr t x i => simp only [stepP]; rw [h x (by simp [opsOf]), h i (by simp [opsOf])]
  | index t x i => simp only [stepP]; rw [h x (by simp [opsOf]), h i (by simp [opsOf])]
  | extract x j => simp only [stepP]; rw [h x (by simp [opsOf])]
  | _ => rfl
theorem stepOp_congr {call : CallF} {env env' : Nat → AV} {st : Store} {nb : Nat} {op : Op} (h : ∀ x ∈ opsOf op, ev env' x = ev env x) : stepOp C call op env' st nb = stepOp C call op env st nb := by
  unfold stepOp
  cases hg : goCall op with
  | none => exact stepP_congr h
  | some q =>
    obtain ⟨args, ts', hop, hargs⟩ := goCall_eq hg
    rw [hop] at h
    simp only [stepW]
    rw [h q.1 (show q.1 ∈ q.1 :: args.toList by simp), evL_congr (l := q.2) fun y hy => h y (show y ∈ q.1 :: args.toList by rw [hargs]; simp [hy])]
theorem touchI_congr {env env' : Nat → AV} {op : Op} (h : ∀ x ∈ opsOf op, ev env' x = ev env x) : touchI env' op = touchI env op := by
  cases op with
  | call c =>
    obtain ⟨callee, args, ts⟩ := c
    cases callee with
    | builtin b =>
      have := evL_congr (l := args.toList) (env := env) (env' := env') fun y hy => h y (show y ∈ args.toList from hy)
      cases b <;> first | rfl | (simp only [touchI]; rw [this])
    | value f =>
      simp only [touchI]
      rw [h f (show f ∈ f :: args.toList by simp), evL_congr (l := args.toList) fun y hy => h y (show y ∈ f :: args.toList by simp [hy])]
    | invoke f m => rfl
  | buildSlice t n parts => simp only [touchI]; rw [evL_congr (l := partOps parts.toList) fun y hy => h y hy]
  | load t x => simp only [touchI]; rw [h x (by simp [opsOf])]
  | store t a x => simp only [touchI]; rw [h a (by simp [opsOf]), h x (by simp [opsOf])]
  | _ => rfl
end
end Go.Av

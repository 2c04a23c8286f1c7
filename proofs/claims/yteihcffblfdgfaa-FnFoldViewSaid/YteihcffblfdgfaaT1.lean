/- Part 1 of what the proof rests on: the executor and what it is worth, and the program's functions as it runs them. No condition. -/
import Derived.Test.YteihcffblfdgfaaT0
import Derived.Laws.World
import Derived.Laws.Append
import Derived.Laws.MakeOwn
set_option linter.unusedVariables false
set_option linter.unusedSimpArgs false
/- New blocks, stores, freezing: what they do to what is known. No condition. -/
namespace Go.Av

/-! ### A new block -/
theorem heap_push_old (w : World) (o : Obj) {b : Nat} (h : b < w.heap.size) : (w.alloc o).heap[b]? = w.heap[b]? := by
  show (w.heap.push o)[b]? = _
  rw [Array.getElem?_push, if_neg (by omega)]
theorem heap_push_new (w : World) (o : Obj) : (w.alloc o).heap[w.heap.size]? = some o := by
  show (w.heap.push o)[w.heap.size]? = _
  rw [Array.getElem?_push, if_pos rfl]
theorem cell_of_heap {w w' : World} {b o : Nat} (h : w'.heap[b]? = w.heap[b]?) : w'.cell? ⟨b, o, none⟩ = w.cell? ⟨b, o, none⟩ := by
  simp [World.cell?, h]
theorem MemOk.push {w : World} {m : Mem} (h : MemOk w m) (o : Obj) : MemOk (w.alloc o) m := fun b j v e => by
  rw [cell_of_heap (heap_push_old w o (h.lt e))]; exact h b j v e
def updP (φ : Pl) (id : Nat) (p : Nat × Ext) : Pl := fun j => if j = id then some p else φ j
theorem PLe.updP {φ : Pl} {id : Nat} {p : Nat × Ext} (h : φ id = none) : PLe φ (updP φ id p) := fun j b n e => by
  refine ⟨n, ?_, rfl, fun _ h => h⟩
  unfold Av.updP; split
  · rename_i hj; subst hj; rw [h] at e; cases e
  · exact e
theorem updP_ne {φ : Pl} {id j : Nat} {p : Nat × Ext} (h : j ≠ id) : updP φ id p j = φ j := by simp [updP, h]
theorem updP_same (φ : Pl) (id : Nat) (p : Nat × Ext) : updP φ id p id = some p := by simp [updP]
theorem live_none {w : World} {m : Mem} {φ : Pl} {st : Store} (h : Inv w m φ st) {id : Nat} (hf : φ id = none) : st id = none := by
  cases hs : st id with
  | none => rfl
  | some b => obtain ⟨_, _, e, _⟩ := h.live _ _ hs; rw [hf] at e; cases e
theorem upd_key {st : Store} {φ : Pl} {id i b : Nat} {n : Ext} {p : Nat × Ext} {blk : Option Blk} {b1 : Blk} (hne : i ≠ id) (hi : upd st id blk i = some b1) (h1 : updP φ id p i = some (b, n)) : st i = some b1 ∧ φ i = some (b, n) := by
  unfold upd at hi; unfold updP at h1
  rw [if_neg hne] at hi h1
  exact ⟨hi, h1⟩
theorem Inv.push {w : World} {m : Mem} {φ : Pl} {st : Store} (h : Inv w m φ st) {id : Nat} (hf : φ id = none) (o : Obj) {n : Nat} {blk : Blk}
    (hb : BlkOk (w.alloc o) m (updP φ id (w.heap.size, one w.heap.size n)) w.heap.size (one w.heap.size n) blk) :
    Inv (w.alloc o) m (updP φ id (w.heap.size, one w.heap.size n)) (upd st id (some blk)) ∧ Adv w m φ (w.alloc o) m (updP φ id (w.heap.size, one w.heap.size n)) := by
  have hp := PLe.updP (p := (w.heap.size, one w.heap.size n)) hf
  refine ⟨⟨h.mem.push o, ?_, ?_, fun i b n' f h2 ho => ?_⟩, ⟨by simp, rfl, rfl, rfl, fun b hb _ => heap_push_old w o hb, .refl _, fun _ _ _ _ => rfl, hp, ?_⟩⟩
  · intro j blk' hj
    unfold upd at hj
    split at hj
    · rename_i e; subst e; injection hj with hj; subst hj
      exact ⟨_, _, updP_same _ _ _, ⟨rfl, fun f hf => by have hf : f = w.heap.size := hf; subst hf; simp⟩, hb⟩
    · rename_i hne
      obtain ⟨b, n', e, hlt, hok⟩ := h.live _ _ hj
      exact ⟨b, n', by rw [updP_ne hne]; exact e, ⟨hlt.1, fun f hf => by have := hlt.2 f hf; simp; omega⟩, hok.mono hlt.1 (fun f hf => heap_push_old w o (hlt.2 f hf)) (.refl _) hp fun _ _ _ => rfl⟩
  · intro i j b b' n1 n2 b1 b2 f hi hj h1 h2 o1 o2
    have lt : ∀ i b n1 b1, i ≠ id → upd st id (some blk) i = some b1 → updP φ id (w.heap.size, one w.heap.size n) i = some (b, n1) → n1.own f → f < w.heap.size := by
      intro i b n1 b1 hne hi h1 ho
      obtain ⟨k1, k2⟩ := upd_key hne hi h1
      exact (blk_own h k2 k1).1.2 f ho
    by_cases hii : i = id
    · subst hii
      by_cases hjj : j = i
      · exact hjj.symm
      · have := lt j b' n2 b2 hjj hj h2 o2
        rw [updP_same] at h1; injection h1 with h1; injection h1 with e1 e2; subst e2
        have o1 : f = w.heap.size := o1
        omega
    · by_cases hjj : j = id
      · subst hjj
        have := lt i b n1 b1 hii hi h1 o1
        rw [updP_same] at h2; injection h2 with h2; injection h2 with e1 e2; subst e2
        have o2 : f = w.heap.size := o2
        omega
      · have k1 := upd_key hii hi h1
        have k2 := upd_key hjj hj h2
        exact h.inj i j b b' n1 n2 b1 b2 f k1.1 k2.1 k1.2 k2.2 o1 o2
  · unfold updP at h2
    split at h2
    · injection h2 with h2; injection h2 with e1 e2; subst e2
      have ho : f = w.heap.size := ho
      simp; omega
    · have := h.low i b n' f h2 ho
      simp; omega
  · intro i b n' f h2 ho
    unfold updP at h2
    split at h2
    · injection h2 with h2; injection h2 with e1 e2; subst e2
      have ho : f = w.heap.size := ho
      exact .inl (by omega)
    · exact .inr (Free.not h2 ho)
/-- A new block that nobody owns. -/
theorem Inv.more {w : World} {m : Mem} {φ : Pl} {st : Store} (h : Inv w m φ st) (o : Obj) : Inv (w.alloc o) m φ st ∧ Adv w m φ (w.alloc o) m φ := by
  refine ⟨⟨h.mem.push o, ?_, h.inj, fun i b n f h2 ho => by have := h.low i b n f h2 ho; simp; omega⟩, ⟨by simp, rfl, rfl, rfl, fun b hb _ => heap_push_old w o hb, .refl _, fun _ _ _ _ => rfl, .refl _, fun i b n f h2 ho => .inr (Free.not h2 ho)⟩⟩
  intro j blk hj
  obtain ⟨b, n', e, hlt, hok⟩ := h.live _ _ hj
  exact ⟨b, n', e, ⟨hlt.1, fun f hf => by have := hlt.2 f hf; simp; omega⟩, hok.mono hlt.1 (fun f hf => heap_push_old w o (hlt.2 f hf)) (.refl _) (.refl _) fun _ _ _ => rfl⟩
/-- What nobody owns turns. -/
theorem Inv.aside {w w' : World} {m : Mem} {φ : Pl} {st : Store} (h : Inv w m φ st) {D : Nat} (hz : w'.heap.size = w.heap.size) (hoth : ∀ x, x ≠ D → w'.heap[x]? = w.heap[x]?) (hm : ∀ o, m D o = none) (hf : Free φ D) : Inv w' m φ st := by
  refine ⟨?_, ?_, h.inj, fun i b n f h2 ho => by have := h.low i b n f h2 ho; omega⟩
  · intro x o v e
    have : x ≠ D := fun e' => by subst e'; rw [hm o] at e; cases e
    rw [cell_of_heap (hoth x this)]
    exact h.mem x o v e
  · intro j blk hj
    obtain ⟨b, n', e, hlt, hok⟩ := h.live _ _ hj
    have : ∀ f, n'.own f → f ≠ D := fun f hf1 e' => by subst e'; exact hf j b n' e hf1
    exact ⟨b, n', e, ⟨hlt.1, fun f hf => by rw [hz]; exact hlt.2 f hf⟩, hok.mono hlt.1 (fun f hf => hoth f (this f hf)) (.refl _) (.refl _) fun _ _ _ => rfl⟩
theorem updP_ids {φ : Pl} {id nb : Nat} {p : Nat × Ext} (h1 : nb ≤ id) (h2 : id < nb + wide) : ∀ j, updP φ id p j ≠ none → φ j ≠ none ∨ (nb ≤ j ∧ j < nb + wide) := by
  intro j hj
  unfold updP at hj
  split at hj
  · rename_i e; subst e; exact .inr ⟨h1, h2⟩
  · exact .inl hj
theorem lt_wide (nb : Nat) : nb < nb + wide := by unfold wide; omega

/-! ### A block written -/
theorem Inv.setG {w w' : World} {m : Mem} {φ : Pl} {st : Store} (h : Inv w m φ st) {id b : Nat} {n : Ext} {blk blk' : Blk} (hs : st id = some blk) (he : φ id = some (b, n)) (hm : ∀ o, m b o = none) (hz : w'.heap.size = w.heap.size) (hoth : ∀ x, x ≠ b → w'.heap[x]? = w.heap[x]?) (hos : w'.os = w.os ∧ w'.tape = w.tape ∧ w'.output = w.output)
    (hb : BlkOk w' m φ b n blk') : Inv w' m φ (upd st id (some blk')) ∧ Adv w m φ w' m φ := by
  have hown := (blk_own h he hs).1
  refine ⟨⟨?_, ?_, ?_, fun i x n' f h1 ho => by rw [hz]; exact h.low i x n' f h1 ho⟩, ⟨by omega, hos.1, hos.2.1, hos.2.2, fun x _ hn => hoth x fun e => hn id b n he (by rw [e]; exact hown.1), .refl _, fun _ _ _ _ => rfl, .refl _, fun i x n' f h1 ho => .inr (Free.not h1 ho)⟩⟩
  · intro x o v e
    have : x ≠ b := fun e' => by subst e'; rw [hm o] at e; cases e
    rw [cell_of_heap (hoth x this)]
    exact h.mem x o v e
  · intro j blk1 hj
    unfold upd at hj
    split at hj
    · rename_i e; subst e; injection hj with hj; subst hj
      exact ⟨b, n, he, ⟨hown.1, fun f hf => by rw [hz]; exact hown.2 f hf⟩, hb⟩
    · rename_i hne
      obtain ⟨b', n', e', hlt, hok⟩ := h.live _ _ hj
      have : ∀ f, n'.own f → f ≠ b := fun f hf e => by subst e; exact hne (h.inj _ _ _ _ _ _ _ _ _ hj hs e' he hf hown.1)
      exact ⟨b', n', e', ⟨hlt.1, fun f hf => by rw [hz]; exact hlt.2 f hf⟩, hok.mono hlt.1 (fun f hf => hoth f (this f hf)) (.refl _) (.refl _) fun _ _ _ => rfl⟩
  · intro i j x x' n1 n2 b1 b2 f hi hj h1 h2 o1 o2
    have key : ∀ i b1, upd st id (some blk') i = some b1 → ∃ b2, st i = some b2 := by
      intro i b1 hi
      unfold upd at hi
      split at hi
      · rename_i e; subst e; exact ⟨_, hs⟩
      · exact ⟨_, hi⟩
    obtain ⟨_, k1⟩ := key i b1 hi
    obtain ⟨_, k2⟩ := key j b2 hj
    exact h.inj i j x x' n1 n2 _ _ f k1 k2 h1 h2 o1 o2
theorem Inv.set {w : World} {m : Mem} {φ : Pl} {st : Store} (h : Inv w m φ st) {id b : Nat} {n : Ext} {blk blk' : Blk} (hs : st id = some blk) (he : φ id = some (b, n)) (hm : ∀ o, m b o = none) (cs : Array Value)
    (hb : BlkOk (w.setRow b cs) m φ b n blk') : Inv (w.setRow b cs) m φ (upd st id (some blk')) ∧ Adv w m φ (w.setRow b cs) m φ :=
  h.setG hs he hm (by simp) (fun x hx => setRow_other w b x cs hx) ⟨rfl, rfl, rfl⟩ hb
/-- A block goes on under another number. -/
theorem Inv.renum {w w0 : World} {m : Mem} {φ : Pl} {st : Store} (hi : Inv w m φ st) {id nb b : Nat} {n : Ext} {blk blk0 : Blk} (hst : st id = some blk0) (eφ : φ id = some (b, n)) (hnb : φ nb = none) (hblk : BlkOk w m φ b n blk) (ha : Adv w0 m φ w m φ) :
    Inv w m (updP φ nb (b, n)) (upd (upd st id none) nb (some blk)) ∧ Adv w0 m φ w m (updP φ nb (b, n)) := by
  have hp := PLe.updP (p := (b, n)) hnb
  have hne : nb ≠ id := fun e => by subst e; rw [hnb] at eφ; cases eφ
  have hown := (blk_own hi eφ hst).1
  refine ⟨⟨hi.mem, ?_, ?_, fun i b' n' f h11 ho => ?_⟩, ⟨ha.size, ha.os, ha.tape, ha.output, ha.block, .refl _, ha.mnew, hp, ?_⟩⟩
  · intro j blk' hj
    unfold upd at hj
    split at hj
    · rename_i e; subst e; injection hj with hj; subst hj
      exact ⟨b, n, updP_same _ _ _, hown, hblk.mono hown.1 (fun _ _ => rfl) (.refl _) hp fun _ _ _ => rfl⟩
    · rename_i hj1
      split at hj
      · cases hj
      · obtain ⟨b', n', e', hlt, hok'⟩ := hi.live _ _ hj
        exact ⟨b', n', by rw [updP_ne hj1]; exact e', hlt, hok'.mono hlt.1 (fun _ _ => rfl) (.refl _) hp fun _ _ _ => rfl⟩
  · intro i j b1 b1' n1 n2 b2 b3 f h10 h11 h12 h13 o1 o2
    have key : ∀ i b1 n1 b2, upd (upd st id none) nb (some blk) i = some b2 → updP φ nb (b, n) i = some (b1, n1) → (i = nb ∧ n1 = n) ∨ (i ≠ nb ∧ i ≠ id ∧ st i = some b2 ∧ φ i = some (b1, n1)) := by
      intro i b1 n1 b2 h1 h2
      unfold upd at h1; unfold updP at h2
      split at h1
      · rename_i e; subst e; rw [if_pos rfl] at h2; injection h2 with h2; injection h2 with e1 e2; exact .inl ⟨rfl, e2.symm⟩
      · rename_i hne1
        rw [if_neg hne1] at h2
        split at h1
        · cases h1
        · rename_i hne2; exact .inr ⟨hne1, hne2, h1, h2⟩
    have q1 := key i b1 n1 b2 h10 h12
    have q2 := key j b1' n2 b3 h11 h13
    rcases q1 with ⟨rfl, rfl⟩ | ⟨p1, p2, p3, p4⟩
    · rcases q2 with ⟨rfl, _⟩ | ⟨p1, p2, p3, p4⟩
      · rfl
      · exact absurd (hi.inj _ _ _ _ _ _ _ _ _ p3 hst p4 eφ o2 o1) p2
    · rcases q2 with ⟨rfl, rfl⟩ | ⟨q1, q2, q3, q4⟩
      · exact absurd (hi.inj _ _ _ _ _ _ _ _ _ p3 hst p4 eφ o1 o2) p2
      · exact hi.inj _ _ _ _ _ _ _ _ _ p3 q3 p4 q4 o1 o2
  · unfold updP at h11
    split at h11
    · injection h11 with h11; injection h11 with e1 e2; subst e2; exact hi.low _ _ _ f eφ ho
    · exact hi.low _ _ _ f h11 ho
  · intro i b' n' f h11 ho
    unfold updP at h11
    split at h11
    · injection h11 with h11; injection h11 with e1 e2; subst e2; exact .inr (Free.not eφ ho)
    · exact .inr (Free.not h11 ho)
/-- Fewer blocks are known. -/
theorem Inv.forget {w : World} {m : Mem} {φ : Pl} {st st' : Store} (h : Inv w m φ st) (hs : ∀ id blk, st' id = some blk → st id = some blk) : Inv w m φ st' :=
  ⟨h.mem, fun _ _ e => h.live _ _ (hs _ _ e), fun i j b b' n1 n2 b1 b2 f hi hj h1 h2 => h.inj i j b b' n1 n2 b1 b2 f (hs _ _ hi) (hs _ _ hj) h1 h2, h.low⟩

/-! ### Freezing -/
/-- How many cells a block owns that are known. -/
def clen : Blk → Nat
  | .box cs => cs.length
  | .arr k es => k * es.length
  | _ => 0
open Classical in
/-- Memory, with the contents of these blocks taken in. -/
noncomputable def memF (w : World) (m : Mem) (φ : Pl) (st : Store) (S : List Nat) : Mem := fun b o =>
  match m b o with
  | some v => some v
  | none => if ∃ id ∈ S, ∃ n blk, φ id = some (b, n) ∧ st id = some blk ∧ o < clen blk then w.cell? ⟨b, o, none⟩ else none
theorem memF_le (w : World) (m : Mem) (φ : Pl) (st : Store) (S : List Nat) : MLe m (memF w m φ st S) := fun b o v e => by simp [memF, e]
theorem memF_ok {w : World} {m : Mem} {φ : Pl} {st : Store} (h : MemOk w m) (S : List Nat) : MemOk w (memF w m φ st S) := fun b o v e => by
  unfold memF at e
  split at e
  · rename_i u hu; injection e with e; subst e; exact h _ _ _ hu
  · split at e
    · exact e
    · cases e
theorem memF_other {w : World} {m : Mem} {φ : Pl} {st : Store} {S : List Nat} {b : Nat} (h : ∀ id ∈ S, ∀ n, st id ≠ none → φ id ≠ some (b, n)) (o : Nat) : memF w m φ st S b o = m b o := by
  unfold memF
  cases hm : m b o with
  | some v => rfl
  | none =>
    simp only
    rw [if_neg]
    rintro ⟨id, hs, n, blk, e, hst, _⟩
    exact h id hs n (by rw [hst]; simp) e
theorem memF_in {w : World} {m : Mem} {φ : Pl} {st : Store} {S : List Nat} {id b o : Nat} {n : Ext} {blk : Blk} (hS : id ∈ S) (e : φ id = some (b, n)) (hst : st id = some blk)
    (hl : o < clen blk) (hm : m b o = none) : memF w m φ st S b o = w.cell? ⟨b, o, none⟩ := by
  unfold memF
  rw [hm]
  simp only
  rw [if_pos ⟨id, hS, n, blk, e, hst, hl⟩]
def upIds : Ups → List Nat
  | [] => []
  | p :: r => p.1 :: upIds r
theorem upIds_append : ∀ (a b : Ups), upIds (a ++ b) = upIds a ++ upIds b
  | [], _ => rfl
  | p :: a, b => by simp [upIds, upIds_append a b]
/-- An update that freezes: the block was owned, and reads frozen as the update says. -/
def UpOk (w : World) (m : Mem) (φ : Pl) (st : Store) (m' : Mem) (p : Nat × Blk) : Prop :=
  ∃ b n blk, φ p.1 = some (b, n) ∧ (n.own b ∧ ∀ f, n.own f → f < w.heap.size) ∧ st p.1 = some blk ∧ (∀ o, m b o = none) ∧ BlkOk w m' φ b n p.2
theorem frzSl_sound {w : World} {m : Mem} {φ : Pl} {st : Store} (hi : Inv w m φ st) (S : List Nat) {id k off len : Nat} {iv : IV} {us : Ups} {x : Value} (h : frzSl id k off len (st id) = some (iv, us)) (hS : ∀ j ∈ upIds us, j ∈ S) (hr : Rep m φ (.osl id k off len) x) :
    IRep (memF w m φ st S) iv x ∧ ∀ p ∈ us, UpOk w m φ st (memF w m φ st S) p := by
  cases hr with
  | @osl _ _ _ _ cap b n ao e hlc hcap ha1 ha2 =>
    cases hst : st id with
    | none => rw [hst] at h; simp [frzSl] at h
    | some blk =>
      rw [hst] at h
      obtain ⟨hb, hok⟩ := blk_own hi e hst
      have fin : ∀ {es : List (List IV)}, IElems (memF w m φ st S) b 0 k es → off + len ≤ es.length → IRep (memF w m φ st S) (.isl (window es off len)) (.slice ao len cap) := by
        intro es he hle
        have hw := elems_window off len he
        have hl : (window es off len).length = len := by simp [window]; omega
        by_cases h0 : window es off len = []
        · rw [h0] at hl ⊢
          simp at hl; subst hl
          exact .isl0 ao cap ha2
        · have hc0 : cap ≠ 0 := fun hc => by
            apply h0; apply List.eq_nil_of_length_eq_zero; omega
          have := ha1 hc0
          subst this
          have := IRep.isl h0 hw (cap := cap) (by omega)
          rwa [hl, Nat.zero_add] at this
      cases hok with
      | box => simp [frzSl] at h
      | fbox => simp [frzSl] at h
      | tre => simp [frzSl] at h
      | loop => simp [frzSl] at h
      | @arr T k' es vs hh hl hpos hw1 hc hfit hm hown1 hone =>
        simp only [frzSl] at h
        obtain ⟨h1, h2⟩ := tst_eq.1 h
        obtain ⟨h3, h4⟩ := of_decide_eq_true h1
        subst h3
        injection h2 with h2
        injection h2 with h5 h6
        subst h5; subst h6
        have hin : id ∈ S := hS id (by simp [upIds])
        have he : IElems (memF w m φ st S) b 0 k' es := by
          refine elems_of_cells 0 hw1 (hc.mono (memF_le w m φ st S)) fun j v hj => ?_
          rw [List.getElem?_take] at hj
          split at hj
          · rename_i hlt
            rw [Nat.zero_add, memF_in hin e hst hlt (hm j), cell_row hh, hj]
          · cases hj
        exact ⟨fin he h4, fun p hp => by simp at hp; subst hp; exact ⟨b, n, _, e, hb, hst, hm, .frz hpos he⟩⟩
      | @frz k' es hpos he =>
        simp only [frzSl] at h
        obtain ⟨h1, h2⟩ := tst_eq.1 h
        obtain ⟨h3, h4⟩ := of_decide_eq_true h1
        subst h3
        injection h2 with h2
        injection h2 with h5 h6
        subst h5; subst h6
        exact ⟨fin (he.mono (memF_le w m φ st S)) h4, fun p hp => by simp at hp⟩
mutual
theorem frz_sound {w : World} {m : Mem} {φ : Pl} {st : Store} (hi : Inv w m φ st) (S : List Nat) : ∀ (n : Nat) {v : AV} {iv : IV} {us : Ups} {x : Value}, frz st n v = some (iv, us) → (∀ j ∈ upIds us, j ∈ S) → Rep m φ v x →
    IRep (memF w m φ st S) iv x ∧ ∀ p ∈ us, UpOk w m φ st (memF w m φ st S) p
  | 0, _, _, _, _, h, _, _ => by simp [frz] at h
  | n + 1, v, iv, us, x, h, hS, hr => by
    cases hr with
    | junk => simp [frz] at h
    | nils => simp [frz] at h; obtain ⟨rfl, rfl⟩ := h; exact ⟨.isl0 none 0 (fun _ => rfl), by simp⟩
    | i hr => simp [frz] at h; obtain ⟨rfl, rfl⟩ := h; exact ⟨hr.mono (memF_le w m φ st S), by simp⟩
    | @own id off b n' e =>
      simp only [frz] at h
      exact frzP_sound hi S n e h hS
    | ownE => simp [frz] at h
    | osl a b c d e => exact frzSl_sound hi S (by simpa only [frz] using h) hS (.osl a b c d e)
    | @agg cs vs hc =>
      simp only [frz] at h
      obtain ⟨p, h1, h2⟩ := bnd_eq.1 h
      injection h2 with h2; injection h2 with h3 h4; subst h3; subst h4
      have := frzL_sound hi S n h1 hS hc
      exact ⟨.agg this.1, this.2⟩
    | tup => simp [frz] at h
    | fn => simp [frz] at h
    | yld => simp [frz] at h
    | ydead => simp [frz] at h
theorem frzP_sound {w : World} {m : Mem} {φ : Pl} {st : Store} (hi : Inv w m φ st) (S : List Nat) : ∀ (n : Nat) {id off b : Nat} {n' : Ext} {iv : IV} {us : Ups}, φ id = some (b, n') → frzP st n id off (st id) = some (iv, us) → (∀ j ∈ upIds us, j ∈ S) →
    IRep (memF w m φ st S) iv (.pointer (some ⟨b, off, none⟩)) ∧ ∀ p ∈ us, UpOk w m φ st (memF w m φ st S) p
  | 0, _, _, _, _, _, _, _, h, _ => by simp [frzP] at h
  | n + 1, id, off, b, n', iv, us, e, h, hS => by
    cases hst : st id with
    | none => rw [hst] at h; simp [frzP] at h
    | some blk =>
      rw [hst] at h
      obtain ⟨hb, hok⟩ := blk_own hi e hst
      cases hok with
      | arr => simp [frzP] at h
      | tre => simp [frzP] at h
      | loop => simp [frzP] at h
      | frz => simp [frzP] at h
      | @box T cs vs hh hl hc hm =>
        simp only [frzP] at h
        obtain ⟨p, h1, h2⟩ := bnd_eq.1 h
        obtain ⟨h3, h4⟩ := tst_eq.1 h2
        have h3 := of_decide_eq_true h3
        injection h4 with h4; injection h4 with h5 h6; subst h5; subst h6
        have hin : id ∈ S := hS id (by simp [upIds])
        have hL := frzL_sound hi S n h1 (fun j hj => hS j (by simp [upIds, hj])) hc
        have hlen := hc.length
        have hat : IAt (memF w m φ st S) b 0 p.1 := IAt.mk 0 hL.1 fun j v hj => by
          have hjl : j < cs.length := by have := (List.getElem?_eq_some_iff.1 hj).1; omega
          rw [Nat.zero_add, memF_in hin e hst hjl (hm j), cell_row hh, hj]
        refine ⟨.iref (by have := hat.dropE off h3; rwa [Nat.zero_add] at this), fun q hq => ?_⟩
        rcases List.mem_cons.1 hq with rfl | hq
        · exact ⟨b, n', _, e, hb, hst, hm, .fbox hat⟩
        · exact hL.2 q hq
      | @fbox cs ha =>
        simp only [frzP] at h
        obtain ⟨h3, h4⟩ := tst_eq.1 h
        have h3 := of_decide_eq_true h3
        injection h4 with h4; injection h4 with h5 h6; subst h5; subst h6
        exact ⟨.iref (by have := (ha.mono (memF_le w m φ st S)).dropE off h3; rwa [Nat.zero_add] at this), by simp⟩
theorem frzL_sound {w : World} {m : Mem} {φ : Pl} {st : Store} (hi : Inv w m φ st) (S : List Nat) : ∀ (n : Nat) {cs : List AV} {l : List IV} {us : Ups} {vs : List Value}, frzL st n cs = some (l, us) → (∀ j ∈ upIds us, j ∈ S) → RepC m φ cs vs →
    ICells (memF w m φ st S) l vs ∧ ∀ p ∈ us, UpOk w m φ st (memF w m φ st S) p
  | n, [], _, _, _, h, _, .nil => by simp [frzL] at h; obtain ⟨rfl, rfl⟩ := h; exact ⟨.nil, by simp⟩
  | 0, _ :: _, _, _, _, h, _, _ => by simp [frzL] at h
  | n + 1, c :: cs, l, us, _, h, hS, .cons a o b => by
    simp only [frzL] at h
    obtain ⟨p, h1, h2⟩ := bnd_eq.1 h
    obtain ⟨q, h3, h4⟩ := bnd_eq.1 h2
    injection h4 with h4; injection h4 with h5 h6; subst h5; subst h6
    have k1 := frz_sound hi S n h1 (fun j hj => hS j (by rw [upIds_append]; exact List.mem_append.2 (.inl hj))) a
    have k2 := frzL_sound hi S n h3 (fun j hj => hS j (by rw [upIds_append]; exact List.mem_append.2 (.inr hj))) b
    refine ⟨.cons k1.1 o k2.1, fun r hr => ?_⟩
    rcases List.mem_append.1 hr with hr | hr
    · exact k1.2 r hr
    · exact k2.2 r hr
end
theorem frzIds_at (st : Store) : ∀ (us : Ups) (id : Nat), (frzIds st us id = st id ∧ id ∉ upIds us) ∨ ∃ blk, (id, blk) ∈ us ∧ frzIds st us id = some blk
  | [], id => .inl ⟨rfl, by simp [upIds]⟩
  | p :: us, id => by
    simp only [frzIds, upd]
    by_cases h : id = p.1
    · subst h; exact .inr ⟨p.2, by simp, by simp⟩
    · rw [if_neg h]
      rcases frzIds_at st us id with ⟨h1, h2⟩ | ⟨blk, h1, h2⟩
      · exact .inl ⟨h1, by simp [upIds, h, h2]⟩
      · exact .inr ⟨blk, by simp [h1], h2⟩
theorem frzIds_inv {w : World} {m : Mem} {φ : Pl} {st : Store} (hi : Inv w m φ st) (us : Ups) (hu : ∀ p ∈ us, UpOk w m φ st (memF w m φ st (upIds us)) p) :
    Inv w (memF w m φ st (upIds us)) φ (frzIds st us) ∧ Adv w m φ w (memF w m φ st (upIds us)) φ := by
  have hlive : ∀ id blk, frzIds st us id = some blk → ∃ blk', st id = some blk' := by
    intro id blk h
    rcases frzIds_at st us id with ⟨h1, _⟩ | ⟨blk', h1, _⟩
    · exact ⟨blk, by rw [← h1]; exact h⟩
    · obtain ⟨_, _, b1, _, _, h2, _⟩ := hu _ h1; exact ⟨b1, h2⟩
  have hroot : ∀ id f n, st id ≠ none → φ id = some (f, n) → n.own f := fun id f n hne e => by
    obtain ⟨blk2, hb2⟩ := Option.ne_none_iff_exists'.1 hne
    exact (blk_own hi e hb2).1.1
  refine ⟨⟨memF_ok hi.mem _, ?_, ?_, hi.low⟩, ⟨Nat.le_refl _, rfl, rfl, rfl, fun _ _ _ => rfl, memF_le _ _ _ _ _, fun b _ hn o => memF_other (fun id _ n hne e => hn id b n e (hroot id b n hne e)) o, .refl _, fun i b n f h1 ho => .inr (Free.not h1 ho)⟩⟩
  · intro id blk h
    rcases frzIds_at st us id with ⟨h1, h2⟩ | ⟨blk', h1, h2⟩
    · rw [h1] at h
      obtain ⟨b, n, e, hb, hok⟩ := hi.live _ _ h
      refine ⟨b, n, e, hb, ?_⟩
      have hoth2 : ∀ f, n.own f → ∀ o, memF w m φ st (upIds us) f o = m f o := by
        intro f hf
        apply memF_other
        intro j hj n' hj' e'
        obtain ⟨blk2, hb2⟩ := Option.ne_none_iff_exists'.1 hj'
        have := hi.inj _ _ _ _ _ _ _ _ _ hb2 h e' e (hroot j f n' hj' e') hf
        subst this
        exact h2 hj
      exact hok.mono hb.1 (fun _ _ => rfl) (memF_le _ _ _ _ _) (.refl _) hoth2
    · rw [h2] at h; injection h with h; subst h
      obtain ⟨b, n, _, e, hb, _, _, hok⟩ := hu _ h1
      exact ⟨b, n, e, hb, hok⟩
  · intro i j b b' n1 n2 b1 b2 f h1 h2 h3 h4
    obtain ⟨_, k1⟩ := hlive _ _ h1
    obtain ⟨_, k2⟩ := hlive _ _ h2
    exact hi.inj i j b b' n1 n2 _ _ f k1 k2 h3 h4
theorem frzV_sound {w : World} {m : Mem} {φ : Pl} {st st1 : Store} {v : AV} {iv : IV} {x : Value} (hi : Inv w m φ st) (hr : Rep m φ v x) (h : frzV st v = some (iv, st1)) :
    ∃ m1, IRep m1 iv x ∧ Inv w m1 φ st1 ∧ Adv w m φ w m1 φ := by
  have key : ∀ us, frz st fuelF v = some (iv, us) → st1 = frzIds st us → ∃ m1, IRep m1 iv x ∧ Inv w m1 φ st1 ∧ Adv w m φ w m1 φ := by
    intro us h1 h2
    subst h2
    have k := frz_sound hi (upIds us) fuelF h1 (fun _ h => h) hr
    have k2 := frzIds_inv hi us k.2
    exact ⟨_, k.1, k2.1, k2.2⟩
  unfold frzV at h
  split at h
  · injection h with h; injection h with h1 h2; subst h1; subst h2
    cases hr with
    | i hr => exact ⟨m, hr, hi, .refl _ _ _⟩
  · obtain ⟨p, h1, h2⟩ := bnd_eq.1 h
    injection h2 with h2; injection h2 with h3 h4; subst h3
    exact key p.2 h1 h4.symm
theorem frzVs_sound {w : World} : ∀ {cs : List AV} {m : Mem} {φ : Pl} {st st1 : Store} {l : List IV} {vs : List Value}, Inv w m φ st → RepC m φ cs vs → frzVs st cs = some (l, st1) →
    ∃ m1, ICells m1 l vs ∧ Inv w m1 φ st1 ∧ Adv w m φ w m1 φ
  | [], m, φ, st, st1, l, _, hi, .nil, h => by
    simp [frzVs] at h; obtain ⟨rfl, rfl⟩ := h; exact ⟨m, .nil, hi, .refl _ _ _⟩
  | c :: cs, m, φ, st, st1, l, _, hi, .cons a o b, h => by
    simp only [frzVs] at h
    obtain ⟨p, h1, h2⟩ := bnd_eq.1 h
    obtain ⟨q, h3, h4⟩ := bnd_eq.1 h2
    injection h4 with h4; injection h4 with h5 h6; subst h5; subst h6
    obtain ⟨m1, k1, k2, k3⟩ := frzV_sound hi a h1
    obtain ⟨m2, k4, k5, k6⟩ := frzVs_sound k2 (b.mono k3.mle (.refl _)) h3
    exact ⟨m2, .cons (k1.mono k6.mle) o k4, k5, k3.trans k6⟩
end Go.Av

/- The builtins append, copy, make over abstract slices. No condition. -/
namespace Go.Av

theorem Inv.drew {w : World} {m : Mem} {φ : Pl} {st : Store} (h : Inv w m φ st) : Inv w.drew m φ st :=
  ⟨fun b o v e => h.mem b o v e, fun id blk e => by
    obtain ⟨b, n, e1, hb, hok⟩ := h.live id blk e
    exact ⟨b, n, e1, hb, hok.mono (w' := w.drew) hb.1 (fun _ _ => rfl) (.refl _) (.refl _) fun _ _ _ => rfl⟩, h.inj, h.low⟩
theorem Adv.drew (w : World) (m : Mem) (φ : Pl) : Adv w m φ w.drew m φ :=
  ⟨Nat.le_refl _, rfl, rfl, rfl, fun _ _ _ => rfl, .refl _, fun _ _ _ _ => rfl, .refl _, fun i b n f h1 ho => .inr (Free.not h1 ho)⟩

theorem elems_cells {m : Mem} {b k : Nat} : ∀ {off : Nat} {es : List (List IV)}, IElems m b off k es → ∃ cs, ICells m es.flatten cs ∧ ∀ j v, cs[j]? = some v → m b (off + j) = some v
  | _, _, .nil _ _ _ => ⟨[], .nil, by simp⟩
  | off, _, .cons (cs := e) a hl r => by
    obtain ⟨us, h1, h2⟩ := a.cells
    obtain ⟨cs, h3, h4⟩ := elems_cells r
    refine ⟨us ++ cs, by simpa using h1.append h3, fun j v hj => ?_⟩
    have hul : us.length = k := by have := h1.length; omega
    by_cases hlt : j < us.length
    · rw [List.getElem?_append_left hlt] at hj; exact h2 j v hj
    · rw [List.getElem?_append_right (by omega)] at hj
      have := h4 _ v hj
      rw [← this]; congr 1; omega
theorem bytesI_len : ∀ (l : List UInt8), (bytesI l).length = l.length
  | [] => rfl
  | _ :: l => by simp [bytesI, bytesI_len l]
theorem bytesI_cells (m : Mem) : ∀ (l : List UInt8), ICells m (bytesI l).flatten (l.map fun b => .int .u8 b.toNat)
  | [] => .nil
  | b :: l => by simpa [bytesI] using ICells.cons (.lit _) rfl (bytesI_cells m l)
theorem bytesI_width : ∀ (l : List UInt8), ∀ e ∈ bytesI l, e.length = 1
  | [] => by simp [bytesI]
  | b :: l => by
    intro e he
    rcases List.mem_cons.1 he with rfl | he
    · rfl
    · exact bytesI_width l e he
theorem widths_eq {k : Nat} {es : List (List IV)} (h : widths k es = true) : ∀ e ∈ es, e.length = k := fun e he => by
  have := List.all_eq_true.1 h e he
  simpa using this

section
variable {P : Program} {w : World} {m : Mem} {φ : Pl} {st : Store}
/-- What is read of a slice whose elements are known. -/
structure Reads (P : Program) (w : World) (m : Mem) (k : Nat) (es : List (List IV)) (x : Value) (cs : List Value) : Prop where
  len : (Builtin.lenOf x).run P w = .ok es.length w
  first : ∀ n, n ≤ es.length → (Builtin.firstCells k n x).run P w = .ok (cs.take (n * k)).toArray w
  cells : ICells m es.flatten cs
  width : ∀ e ∈ es, e.length = k
theorem cell_heap {w w' : World} (h : w'.heap = w.heap) (a : Addr) : w'.cell? a = w.cell? a := by simp [World.cell?, h]
theorem reads_mem {b off k : Nat} {es : List (List IV)} {cap : Nat} (hw : MemOk w m) (he : IElems m b off k es) : ∃ cs, ∀ w', w'.heap = w.heap → Reads P w' m k es (.slice (some ⟨b, off, none⟩) es.length cap) cs := by
  obtain ⟨cs, h1, h2⟩ := elems_cells he
  have hwid := elems_len he
  have hl := h1.length
  rw [flatten_length hwid] at hl
  refine ⟨cs, fun w' hw' => ⟨rfl, fun n hn => ?_, h1, hwid⟩⟩
  have hnk : n * k ≤ cs.length := by rw [← hl, Nat.mul_comm]; exact Nat.mul_le_mul_left _ hn
  have := run_loadCells_list (P := P) w' ⟨b, off, none⟩ (cs.take (n * k)) (fun j v hj => by
    rw [Addr.add_none, cell_heap hw']
    apply hw
    apply h2
    rw [List.getElem?_take] at hj
    split at hj
    · exact hj
    · cases hj)
  rw [List.length_take, Nat.min_eq_left hnk] at this
  exact this
theorem reads_empty (P : Program) (w : World) (m : Mem) (k : Nat) (ao : Option Addr) (cap : Nat) : Reads P w m k [] (.slice ao 0 cap) [] := by
  refine ⟨rfl, fun n hn => ?_, .nil, by simp⟩
  have : n = 0 := by simpa using hn
  subst this
  cases ao with
  | none => simp [Builtin.firstCells]
  | some a => simp [Builtin.firstCells, loadCells, loadCellsFrom]
theorem elems_read {k : Nat} {a : AV} {x : Value} {es : List (List IV)} (hi : Inv w m φ st) (hr : Rep m φ a x) (h : elemsOf st k a = some es) : ∃ cs, ∀ w', w'.heap = w.heap → Reads P w' m k es x cs := by
  cases hr with
  | junk => simp [elemsOf] at h
  | own => simp [elemsOf] at h
  | ownE => simp [elemsOf] at h
  | agg => simp [elemsOf] at h
  | tup => simp [elemsOf] at h
  | fn => simp [elemsOf] at h
  | yld => simp [elemsOf] at h
  | ydead => simp [elemsOf] at h
  | nils => simp [elemsOf] at h; subst h; exact ⟨[], fun w' _ => reads_empty P w' m k none 0⟩
  | i hr =>
    cases hr with
    | agg => simp [elemsOf] at h
    | iref => simp [elemsOf] at h
    | isl0 ao cap hc =>
      simp only [elemsOf] at h
      obtain ⟨_, h⟩ := tst_eq.1 h
      injection h with h; subst h
      exact ⟨[], fun w' _ => reads_empty P w' m k ao cap⟩
    | @isl b off k' es' cap hne he hc =>
      simp only [elemsOf] at h
      obtain ⟨h0, h⟩ := tst_eq.1 h
      injection h with h; subst h
      have h1 := widths_eq h0
      have h2 := elems_len he
      cases es' with
      | nil => exact absurd rfl hne
      | cons e es =>
        have hk : k' = k := by rw [← h1 e (by simp), ← h2 e (by simp)]
        subst hk
        exact reads_mem hi.mem he
    | lit =>
      cases x <;> simp only [elemsOf] at h <;> try (cases h; done)
      rename_i s
      obtain ⟨h0, h⟩ := tst_eq.1 h
      injection h with h; subst h
      have hk : k = 1 := by simpa using h0
      subst hk
      refine ⟨s.data.toList.map fun b => .int .u8 b.toNat, fun w' _ => ⟨?_, ?_, bytesI_cells m _, bytesI_width _⟩⟩
      · show Result.ok s.size w' = Result.ok (bytesI s.data.toList).length w'
        rw [bytesI_len]; rfl
      · intro n hn
        rw [bytesI_len] at hn
        simp only [Builtin.firstCells, Sem.run_pure, Nat.mul_one]
        congr 1
        apply Array.ext'
        simp [ByteArray.data_extract]
  | @osl id k' off len cap b n ao e hlc hcap ha1 ha2 =>
    simp only [elemsOf] at h
    cases hst : st id with
    | none => rw [hst] at h; simp [elemsSl] at h
    | some blk =>
      rw [hst] at h
      obtain ⟨hb, hok⟩ := blk_at hi e hst
      have fin : ∀ (es0 : List (List IV)), off + len ≤ es0.length → es = window es0 off len → (∃ cs : List Value, ICells m es0.flatten cs ∧ (∀ e ∈ es0, e.length = k) ∧ ∀ j v, cs[j]? = some v → w.cell? ⟨b, j, none⟩ = some v) →
          k' = k → ∃ cs, ∀ w', w'.heap = w.heap → Reads P w' m k es (.slice ao len cap) cs := by
        intro es0 hle hes ⟨cs, h1, h2, h3⟩ hk
        subst hes; subst hk
        have hwl : (window es0 off len).length = len := by simp [window]; omega
        have hww : ∀ e ∈ window es0 off len, e.length = k' := fun e he => h2 e (List.mem_of_mem_drop (List.mem_of_mem_take he))
        by_cases hc0 : len = 0
        · subst hc0
          have : window es0 off 0 = [] := by simp [window]
          rw [this]
          exact ⟨[], fun w' _ => reads_empty P w' m k' ao cap⟩
        · have := ha1 (by omega)
          subst this
          have hflat : (window es0 off len).flatten = (es0.flatten.drop (k' * off)).take (k' * len) := by
            have g1 : ∀ (n : Nat) (l : List (List IV)), (∀ e ∈ l, e.length = k') → (l.drop n).flatten = l.flatten.drop (k' * n) := by
              intro n
              induction n with
              | zero => intro l _; simp
              | succ n ih =>
                intro l hl
                cases l with
                | nil => simp
                | cons e l =>
                  have he := hl e (by simp)
                  simp only [List.drop_succ_cons, List.flatten_cons]
                  rw [ih l (fun e he => hl e (by simp [he])), List.drop_append, show k' * (n + 1) = e.length + k' * n by rw [he, Nat.mul_add]; omega]
                  simp
            have g2 : ∀ (n : Nat) (l : List (List IV)), (∀ e ∈ l, e.length = k') → (l.take n).flatten = l.flatten.take (k' * n) := by
              intro n
              induction n with
              | zero => intro l _; simp
              | succ n ih =>
                intro l hl
                cases l with
                | nil => simp
                | cons e l =>
                  have he := hl e (by simp)
                  simp only [List.take_succ_cons, List.flatten_cons]
                  rw [ih l (fun e he => hl e (by simp [he])), List.take_append, show k' * (n + 1) = e.length + k' * n by rw [he, Nat.mul_add]; omega]
                  rw [List.take_of_length_le (by omega : e.length ≤ e.length + k' * n)]
                  simp
            unfold window
            rw [g2 len _ (fun e he => h2 e (List.mem_of_mem_drop he)), g1 off es0 h2]
          have hcl := h1.length
          rw [flatten_length h2] at hcl
          refine ⟨(cs.drop (k' * off)).take (k' * len), fun w' hw' => ⟨by rw [hwl]; rfl, fun j hj => ?_, by rw [hflat]; exact (h1.drop _).take _, hww⟩⟩
          rw [hwl] at hj
          have hjk : j * k' ≤ k' * len := by rw [Nat.mul_comm j]; exact Nat.mul_le_mul_left _ hj
          have hall : k' * off + k' * len ≤ cs.length := by rw [← hcl, ← Nat.mul_add]; exact Nat.mul_le_mul_left _ hle
          have := run_loadCells_list (P := P) w' ⟨b, k' * off, none⟩ (((cs.drop (k' * off)).take (k' * len)).take (j * k')) (fun i v hi' => by
            rw [Addr.add_none, cell_heap hw']
            apply h3
            rw [List.getElem?_take] at hi'
            split at hi'
            · rw [List.getElem?_take] at hi'
              split at hi'
              · rw [List.getElem?_drop] at hi'; exact hi'
              · cases hi'
            · cases hi')
          rw [show ((((cs.drop (k' * off)).take (k' * len)).take (j * k'))).length = j * k' by simp; omega] at this
          exact this
      cases hok with
      | box => simp [elemsSl] at h
      | fbox => simp [elemsSl] at h
      | tre => simp [elemsSl] at h
      | loop => simp [elemsSl] at h
      | @arr T k'' es0 vs hh hl hpos hw1 hc hfit hm hown1 hone =>
        simp only [elemsSl] at h
        obtain ⟨h1, h2⟩ := tst_eq.1 h
        obtain ⟨h3, h4, h5⟩ := of_decide_eq_true h1
        injection h2 with h2
        subst h4
        refine fin es0 h5 h2.symm ⟨_, hc, hw1, fun j v hj => ?_⟩ h3
        rw [cell_row hh]
        rw [List.getElem?_take] at hj
        split at hj
        · exact hj
        · cases hj
      | @frz k'' es0 hpos he =>
        simp only [elemsSl] at h
        obtain ⟨h1, h2⟩ := tst_eq.1 h
        obtain ⟨h3, h4, h5⟩ := of_decide_eq_true h1
        injection h2 with h2
        subst h4
        obtain ⟨cs, h6, h7⟩ := elems_cells he
        refine fin es0 h5 h2.symm ⟨cs, h6, elems_len he, fun j v hj => ?_⟩ h3
        apply hi.mem
        have := h7 j v hj
        rwa [Nat.zero_add] at this
end
end Go.Av

/- append, copy and make over abstract slices are what the model does. No condition. -/
namespace Go.Av

theorem notInt_spec {P : Program} {u : TypeId} (h : notInt (descK P u) = true) : P.underlying u = some .string ∨ ∃ e, P.underlying u = some (.slice e) := by
  unfold descK at h
  cases hu : P.underlying u with
  | none => rw [hu] at h; simp [notInt] at h
  | some d => rw [hu] at h; cases d <;> first | (simp [notInt] at h; done) | exact .inl rfl | exact .inr ⟨_, rfl⟩
section
variable {P : Program} {w : World}
theorem append_room_run {t u ty e : TypeId} {k n len cap : Nat} {base : Option Addr} {xv : Value} {news : List Value} (ht : P.underlying t = some (.slice e)) (hu : notInt (descK P u) = true) (hs : szOf P e = some k)
    (hl : (Builtin.lenOf xv).run P w = .ok n w) (hf : (Builtin.firstCells k n xv).run P w = .ok news.toArray w) (hroom : len + n ≤ cap) (w' : World)
    (hst : match base with | some a => (storeCells (a.add (len * k)) news).run P w = .ok () w' | none => w' = w) :
    (Builtin.append_ #[t, u] ty #[.slice base len cap, xv]).run P w = .ok (.slice base (len + n) cap) w' := by
  cases base with
  | none =>
    simp only at hst; subst hst
    rcases notInt_spec hu with hd | ⟨e', hd⟩ <;> simp [Builtin.append_, run_und ht, run_und hd, run_size hs, hl, hf, hroom]
  | some a =>
    simp only at hst
    rcases notInt_spec hu with hd | ⟨e', hd⟩ <;> simp [Builtin.append_, run_und ht, run_und hd, run_size hs, hl, hf, hroom, hst]
theorem zeroCells_mem {z : Array Value} {n : Nat} {u : Value} (h : u ∈ (Builtin.zeroCells z n).toList) : u ∈ z.toList := by
  simp only [Builtin.zeroCells, Array.toList_map, List.mem_map, Array.toList_range, List.mem_range] at h
  obtain ⟨i, hi, rfl⟩ := h
  have h0 : 0 < z.size := by
    rcases Nat.eq_zero_or_pos z.size with h | h
    · rw [h] at hi; simp at hi
    · exact h
  have hm := Nat.mod_lt i h0
  rw [getElem!_pos z (i % z.size) hm]
  simp
theorem append_grow_run {t u ty e : TypeId} {k n len cap by_ : Nat} {base : Option Addr} {xv : Value} {olds news z : List Value} (ht : P.underlying t = some (.slice e)) (hu : notInt (descK P u) = true) (hs : szOf P e = some k)
    (hby : byOf P e = some by_) (hz : zeroOf P e = some z)
    (hl : (Builtin.lenOf xv).run P w = .ok n w)
    (hgrow : cap < len + n) (hpos : 0 < by_) (hbytes : (len + n) * by_ ≤ 140737488355328)
    (hf2 : (Builtin.firstCells k n xv).run P w.drew = .ok news.toArray w.drew) (ho2 : (Builtin.firstCells k len (.slice base len cap)).run P w.drew = .ok olds.toArray w.drew) :
    ∃ (cap' : Nat) (rest : List Value), len + n ≤ cap' ∧ rest.length = (cap' - (len + n)) * z.length ∧ (∀ v ∈ rest, v ∈ z) ∧
      (Builtin.append_ #[t, u] ty #[.slice base len cap, xv]).run P w = .ok (.slice (some ⟨w.heap.size, 0, none⟩) (len + n) cap') (w.drew.alloc (.cells (olds ++ (news ++ rest)).toArray e)) := by
  obtain ⟨i, _, hi2, hi3⟩ := run_tinfo hby w
  have hi4 : ∀ w, (typeInfo e).run P w = .ok i w := fun w => by simp [typeInfo, hi3]
  have hzr : ∀ w, ∃ v, (zeroValue e).run P w = .ok v w ∧ v.cells.toList = z := run_zero hz
  obtain ⟨v, hv1, hv2⟩ := hzr w
  have hv3 : ∀ w, (zeroValue e).run P w = .ok v w := fun w' => by
    have hz := (zeroOf_eq hz).2
    rw [hi3] at hz
    cases hzz : i.zero with
    | none => simp [hzz] at hz
    | some u => 
      simp [zeroValue, typeInfo, hi3, hzz] at hv1 ⊢
      exact hv1
  subst hi2
  have hnot : ¬ len + n ≤ cap := by omega
  have hfit := growslice_fits (bytes := i.bytes) hgrow hbytes
  have hnb : ¬ (281474976710656 < Builtin.nextslicecap (len + n) cap * i.bytes) := by omega
  have hb0 : ¬ i.bytes = 0 := by omega
  let q := Question.appendCap (len + n) cap e
  refine ⟨q.cut (w.tape w.drawn q), (Builtin.zeroCells v.cells (q.cut (w.tape w.drawn q) - (len + n))).toList, ?_, ?_, ?_, ?_⟩
  · show len + n ≤ (len + n) + _; omega
  · rw [← hv2]; simp [Builtin.zeroCells]
  · intro u hu; rw [← hv2]; exact zeroCells_mem hu
  · rcases notInt_spec hu with hd | ⟨e', hd⟩ <;> simp [Builtin.append_, run_und ht, run_und hd, run_size hs, hl, hnot, hi4, hnb, hb0, hv3, newRow, Question.forced, hf2, ho2, q] <;> (congr 2; apply Array.ext'; simp)
end

/-- Every cell of a zero value is a cell. -/
def ZerosOk (P : Program) : Prop := ∀ t z, zeroOf P t = some z → ∀ v ∈ z, v.oneCell' = true
theorem window_take {es : List (List IV)} (len : Nat) : window es 0 len = es.take len := by simp [window]
theorem take_flatten {k : Nat} : ∀ (n : Nat) (l : List (List IV)), (∀ e ∈ l, e.length = k) → (l.take n).flatten = l.flatten.take (k * n)
  | 0, l, _ => by simp
  | n + 1, [], _ => by simp
  | n + 1, e :: l, h => by
    have he := h e (by simp)
    simp only [List.take_succ_cons, List.flatten_cons]
    rw [take_flatten n l (fun e he => h e (by simp [he])), List.take_append, show k * (n + 1) = e.length + k * n by rw [he, Nat.mul_add]; omega]
    rw [List.take_of_length_le (by omega : e.length ≤ e.length + k * n)]
    simp
section
variable {C : Ctx} {w : World} {m : Mem} {φ : Pl} {st : Store}
theorem append_sound {t u ty : TypeId} {s x v : AV} {sv xv : Value} {st' : Store} {nb : Nat} (hzo : ZerosOk C.P) (hi : Inv w m φ st) (hs : Rep m φ s sv) (hx : Rep m φ x xv) (hf : ∀ id, nb ≤ id → id < nb + wide → φ id = none)
    (hu : notInt (descK C.P u) = true) (h : appA C t s x st nb = some (v, st')) : ∃ y w', (Builtin.append_ #[t, u] ty #[sv, xv]).run C.P w = .ok y w' ∧ Out w m φ nb v st' y w' := by
  have hnb := hf nb (Nat.le_refl _) (lt_wide nb)
  unfold appA at h
  obtain ⟨e, he, h1⟩ := bnd_eq.1 h
  obtain ⟨k, hk, h2⟩ := bnd_eq.1 h1
  obtain ⟨by_, hby, h3⟩ := bnd_eq.1 h2
  obtain ⟨z, hz, h4⟩ := bnd_eq.1 h3
  obtain ⟨h5, h6⟩ := tst_eq.1 h4
  obtain ⟨hk0, hb0, hzl⟩ := of_decide_eq_true h5
  obtain ⟨news, hn, h7⟩ := bnd_eq.1 h6
  have ht := und_slice he
  obtain ⟨cs, hrr⟩ := elems_read (P := C.P) hi hx hn
  have hr := hrr w rfl
  have hr2 := hrr w.drew rfl
  have hcl := hr.cells.length
  rw [flatten_length hr.width] at hcl
  have hle0 : cs.length ≤ news.length * k := by rw [← hcl, Nat.mul_comm]; exact Nat.le_refl _
  have hfirst := hr.first news.length (Nat.le_refl _)
  rw [List.take_of_length_le hle0] at hfirst
  have hlen := hr.len
  have hfirst2 := hr2.first news.length (Nat.le_refl _)
  rw [List.take_of_length_le hle0] at hfirst2
  unfold appTo at h7
  cases hs with
  | junk => simp at h7
  | i => simp at h7
  | own => simp at h7
  | ownE => simp at h7
  | agg => simp at h7
  | tup => simp at h7
  | fn => simp at h7
  | yld => simp at h7
  | ydead => simp at h7
  | nils =>
    simp only at h7
    by_cases hempty : news = []
    · subst hempty
      simp only [List.isEmpty_nil, appNil, Option.some.injEq, Prod.mk.injEq] at h7
      obtain ⟨rfl, rfl⟩ := h7
      have hcl := List.eq_nil_of_length_eq_zero hcl.symm
      subst hcl
      refine ⟨_, w, append_room_run (n := 0) ht hu hk hlen hfirst (by omega) w rfl, ?_⟩
      exact Out.same hi .nils
    · have hie : news.isEmpty = false := by cases news <;> simp at hempty ⊢
      rw [hie] at h7
      simp only [appNil] at h7
      obtain ⟨h8, h9⟩ := tst_eq.1 h7
      have h8 := of_decide_eq_true h8
      simp only [Option.some.injEq, Prod.mk.injEq] at h9
      obtain ⟨rfl, rfl⟩ := h9
      have hpos : 0 < news.length := by cases news with | nil => exact absurd rfl hempty | cons => simp
      obtain ⟨cap', rest, hcap, hrest, hrz, hrun⟩ := append_grow_run (ty := ty) (len := 0) (cap := 0) (base := none) (olds := []) ht hu hk hby hz hlen (by omega) hb0 (by simpa using h8) hfirst2 (by simp [Builtin.firstCells])
      simp only [Nat.zero_add, List.nil_append] at hrun hcap hrest
      have hblk : BlkOk (w.drew.alloc (.cells (cs ++ rest).toArray e)) m (updP φ nb (w.drew.heap.size, one w.drew.heap.size (cs ++ rest).length)) w.drew.heap.size (one w.drew.heap.size (cs ++ rest).length) (.arr k news) := by
        refine .arr (T := e) (heap_push_new w.drew _) rfl hk0 hr.width ?_ ?_ ?_ (fun _ hf => hf) (fun v hv => by
          rcases List.mem_append.1 hv with hv | hv
          · exact hr.cells.one v hv
          · exact hzo _ _ hz v (hrz v hv))
        · rw [hcl, List.take_left]; exact hr.cells
        · rw [hcl]; simp
        · intro o
          cases hm : m w.drew.heap.size o with
          | none => rfl
          | some u => exact absurd (hi.mem.lt hm) (by show ¬ w.heap.size < w.heap.size; omega)
      obtain ⟨k1, k2⟩ := hi.drew.push hnb _ hblk
      refine ⟨_, _, hrun, m, _, .osl (updP_same _ _ _) hcap ?_ (fun _ => rfl) (fun h => by cases h), k1, (Adv.drew w m φ).trans k2, updP_ids (Nat.le_refl _) (lt_wide nb)⟩
      rw [one_len, List.length_append, ← hcl, hrest, hzl, Nat.zero_add, ← Nat.mul_comm k, ← Nat.mul_add]
      exact Nat.mul_le_mul_left _ (by omega)
  | @osl id k' off len cap b n ao eφ hlc hcap ha1 ha2 =>
    simp only at h7
    cases hst : st id with
    | none => rw [hst] at h7; simp [appOsl] at h7
    | some blk =>
      rw [hst] at h7
      obtain ⟨hbl, hok⟩ := blk_own hi eφ hst
      cases hok with
      | box => simp [appOsl] at h7
      | fbox => simp [appOsl] at h7
      | frz => simp [appOsl] at h7
      | tre => simp [appOsl] at h7
      | loop => simp [appOsl] at h7
      | @arr T k'' es vs hh hl hpos hw1 hc hfit hm hown1 hone =>
        simp only [appOsl] at h7
        obtain ⟨h8, h9⟩ := tst_eq.1 h7
        obtain ⟨rfl, rfl, rfl, hle, hbytes⟩ := of_decide_eq_true h8
        simp only [Option.some.injEq, Prod.mk.injEq] at h9
        obtain ⟨rfl, rfl⟩ := h9
        simp only [Nat.zero_add, Nat.mul_zero] at hcap ha1
        have hklen : k'' * len ≤ k'' * es.length := Nat.mul_le_mul_left _ hle
        have hwt : ∀ e ∈ es.take len, e.length = k'' := fun e he => hw1 e (List.mem_of_mem_take he)
        have hwn : ∀ e ∈ es.take len ++ news, e.length = k'' := fun e he => by
          rcases List.mem_append.1 he with he | he
          · exact hwt e he
          · exact hr.width e he
        have hcold : ICells m (es.take len).flatten (vs.take (k'' * len)) := by
          rw [take_flatten len es hw1]
          have := hc.take (k'' * len)
          rwa [List.take_take, Nat.min_eq_left hklen] at this
        have hnew : ICells m (es.take len ++ news).flatten (vs.take (k'' * len) ++ cs) := by
          rw [List.flatten_append]; exact hcold.append hr.cells
        have holdlen : (vs.take (k'' * len)).length = k'' * len := by simp; omega
        have htl : (es.take len ++ news).length = len + news.length := by simp; omega
        by_cases hroom : len + news.length ≤ cap
        · -- in place
          have hkr : k'' * (len + news.length) ≤ n.len := Nat.le_trans (Nat.mul_le_mul_left _ hroom) hcap
          have hkr' : k'' * len + cs.length ≤ n.len := by rw [← hcl, ← Nat.mul_add]; exact hkr
          by_cases hc0 : cap = 0
          · -- nothing is appended to nothing
            have hl0 : len = 0 := by omega
            have hn0 : news = [] := List.eq_nil_of_length_eq_zero (by omega)
            subst hl0; subst hn0
            have hcl := List.eq_nil_of_length_eq_zero hcl.symm
            subst hcl
            refine ⟨_, w, append_room_run (n := 0) ht hu hk hlen hfirst hroom w (by
              cases ao with
              | none => rfl
              | some a => simp [storeCells]), ?_⟩
            have hi1 : Inv w m φ (upd st id none) := hi.forget fun j blk hj => by
              unfold upd at hj; split at hj
              · cases hj
              · exact hj
            -- the block goes on under its new number
            obtain ⟨z1, z2⟩ := hi.renum hst eφ hnb (blk := .arr k'' []) (.arr hh hl hk0 (by simp) (by simpa using ICells.nil) (by simp) hm hown1 hone) (.refl _ _ _)
            exact ⟨m, updP φ nb (b, n), .osl (updP_same _ _ _) hroom (by simpa using hcap) (by simpa using ha1) ha2, by simpa using z1, z2, updP_ids (Nat.le_refl _) (lt_wide nb)⟩
          · have hao := ha1 hc0
            subst hao
            have hstore := run_storeCells_at C.P b (len * k'') T cs 0 vs.toArray w hh (by simp; rw [Nat.mul_comm len]; omega) hr.cells.one
            simp only [Nat.add_zero] at hstore
            rw [Nat.mul_comm len] at hstore
            have hrun := append_room_run (ty := ty) (base := some ⟨b, 0, none⟩) (cap := cap) ht hu hk hlen hfirst hroom _ (by
              simp only [Addr.add_none, Nat.zero_add]; rw [Nat.mul_comm len]; exact hstore)
            refine ⟨_, _, hrun, ?_⟩
            have hvs : (vs.toArray.toList.take (k'' * len) ++ cs ++ vs.toArray.toList.drop (k'' * len + cs.length)).toArray = (vs.take (k'' * len) ++ cs ++ vs.drop (k'' * len + cs.length)).toArray := by simp
            rw [hvs]
            have hlen2 : (vs.take (k'' * len) ++ cs ++ vs.drop (k'' * len + cs.length)).length = n.len := by simp; omega
            have hblk : BlkOk (w.setRow b (vs.take (k'' * len) ++ cs ++ vs.drop (k'' * len + cs.length)).toArray) m φ b n (.arr k'' (es.take len ++ news)) := by
              refine .arr (T := T) (setRow_heap w b _ _ T (0, 0) hh) hlen2 hk0 hwn ?_ (by rw [htl]; exact hkr) hm hown1 (fun v hv => by
            rcases List.mem_append.1 hv with hv | hv
            · rcases List.mem_append.1 hv with hv | hv
              · exact hone v (List.mem_of_mem_take hv)
              · exact hr.cells.one v hv
            · exact hone v (List.mem_of_mem_drop hv))
              rw [htl, Nat.mul_add, hcl]
              have e0 : (vs.take (k'' * len) ++ cs).length = k'' * len + cs.length := by rw [List.length_append, holdlen]
              rw [← e0, List.take_left]
              exact hnew
            obtain ⟨g1, g2⟩ := hi.set hst eφ hm _ hblk
            -- the block under its new number
            have hs1 : upd st id (some (.arr k'' (es.take len ++ news))) id = some (.arr k'' (es.take len ++ news)) := by simp [upd]
            obtain ⟨z1, z2⟩ := g1.renum hs1 eφ hnb hblk g2
            have hst2 : upd (upd (upd st id (some (Blk.arr k'' (es.take len ++ news)))) id none) nb (some (Blk.arr k'' (es.take len ++ news))) = upd (upd st id none) nb (some (Blk.arr k'' (es.take len ++ news))) := by
              funext j; simp only [upd]; split
              · rfl
              · split <;> rfl
            rw [hst2] at z1
            exact ⟨m, updP φ nb (b, n), .osl (updP_same _ _ _) hroom (by simpa using hcap) (fun _ => by simp) (fun h => by cases h), z1, z2, updP_ids (Nat.le_refl _) (lt_wide nb)⟩
        · -- a new array
          have hold : (Builtin.firstCells k'' len (.slice ao len cap)).run C.P w.drew = .ok (vs.take (k'' * len)).toArray w.drew := by
            by_cases hc0 : cap = 0
            · have hl0 : len = 0 := by omega
              subst hl0
              cases ao with
              | none => simp [Builtin.firstCells]
              | some a => simp [Builtin.firstCells, loadCells, loadCellsFrom]
            · have hao := ha1 hc0
              subst hao
              have := run_loadCells_list (P := C.P) w.drew ⟨b, 0, none⟩ (vs.take (k'' * len)) (fun j u hj => by
                rw [Addr.add_none, Nat.zero_add]
                show w.cell? ⟨b, j, none⟩ = some u
                rw [cell_row hh]
                rw [List.getElem?_take] at hj
                split at hj
                · exact hj
                · cases hj)
              rw [holdlen] at this
              simp only [Builtin.firstCells]
              rw [Nat.mul_comm len]; exact this
          obtain ⟨cap', rest, hcap', hrest, hrz, hrun⟩ := append_grow_run (ty := ty) (len := len) (cap := cap) (base := ao) (olds := vs.take (k'' * len)) ht hu hk hby hz hlen (by omega) hb0 hbytes hfirst2 hold
          have hi1 : Inv w m φ (upd st id none) := hi.forget fun j blk hj => by
            unfold upd at hj; split at hj
            · cases hj
            · exact hj
          have hblk : BlkOk (w.drew.alloc (.cells (vs.take (k'' * len) ++ (cs ++ rest)).toArray e)) m (updP φ nb (w.drew.heap.size, one w.drew.heap.size (vs.take (k'' * len) ++ (cs ++ rest)).length)) w.drew.heap.size (one w.drew.heap.size (vs.take (k'' * len) ++ (cs ++ rest)).length) (.arr k'' (es.take len ++ news)) := by
            refine .arr (T := e) (heap_push_new w.drew _) rfl hk0 hwn ?_ ?_ ?_ (fun _ hf => hf) (fun v hv => by
              rcases List.mem_append.1 hv with hv | hv
              · exact hone v (List.mem_of_mem_take hv)
              · rcases List.mem_append.1 hv with hv | hv
                · exact hr.cells.one v hv
                · exact hzo _ _ hz v (hrz v hv))
            · rw [htl, Nat.mul_add, hcl, ← List.append_assoc]
              have e0 : (vs.take (k'' * len) ++ cs).length = k'' * len + cs.length := by rw [List.length_append, holdlen]
              rw [← e0, List.take_left]
              exact hnew
            · rw [one_len, htl, List.length_append, holdlen, Nat.mul_add, List.length_append, ← hcl]; omega
            · intro o
              cases hm' : m w.drew.heap.size o with
              | none => rfl
              | some u => exact absurd (hi.mem.lt hm') (by show ¬ w.heap.size < w.heap.size; omega)
          obtain ⟨k1, k2⟩ := hi1.drew.push hnb _ hblk
          refine ⟨_, _, hrun, m, _, .osl (updP_same _ _ _) hcap' ?_ (fun _ => by simp) (fun h => by cases h), k1, (Adv.drew w m φ).trans k2, updP_ids (Nat.le_refl _) (lt_wide nb)⟩
          rw [one_len, List.length_append, holdlen, List.length_append, ← hcl, hrest, hzl, Nat.zero_add, Nat.mul_comm (cap' - _), ← Nat.mul_add, ← Nat.mul_add]
          exact Nat.mul_le_mul_left _ (by omega)
end
end Go.Av

/- Struct and slice literals over abstract values are what the model does. No condition. -/
namespace Go.Av

/-- Every field of a struct type has a known size. -/
def FieldsOk (P : Program) : Prop := (∀ t fs, t < P.types.size → P.underlying t = some (.struct fs) → ∀ f ∈ fs, ∃ n, szOf P f.type = some n) ∧ ∀ t n e, t < P.types.size → P.underlying t = some (.array n e) → ∃ k, szOf P e = some k
section
variable {P : Program} {w : World}
theorem run_mapM_list {α β : Type} (f : α → Sem β) (g : α → β) : ∀ (l : List α), (∀ a ∈ l, (f a).run P w = .ok (g a) w) → (l.mapM f).run P w = .ok (l.map g) w
  | [], _ => by simp
  | a :: l, h => by
    have h1 := h a (by simp)
    have h2 := run_mapM_list f g l fun b hb => h b (by simp [hb])
    simp [List.mapM_cons, h1, h2]
theorem run_mapM_array {α β : Type} (f : α → Sem β) (g : α → β) (a : Array α) (h : ∀ x ∈ a, (f x).run P w = .ok (g x) w) : (a.mapM f).run P w = .ok (a.map g) w := by
  obtain ⟨l⟩ := a
  have := run_mapM_list f g l (fun x hx => h x (by simpa using hx))
  simp [this]
end
/-- Cells laid over others, as the model does it. -/
theorem foldl_set {xs : List Value} : ∀ (cells : Array Value) (off j : Nat), off + j + xs.length ≤ cells.size →
    ((xs.zipIdx j).foldl (fun cs p => cs.setIfInBounds (off + p.2) p.1) cells).toList = cells.toList.take (off + j) ++ xs ++ cells.toList.drop (off + j + xs.length) := by
  induction xs with
  | nil => intro cells off j _; simp
  | cons x xs ih =>
    intro cells off j h
    simp only [List.length_cons] at h
    simp only [List.zipIdx_cons, List.foldl_cons]
    rw [ih _ _ _ (by simp; omega)]
    simp only [Array.toList_setIfInBounds, List.length_cons]
    have e := list_seg_step cells.toList (off + j) x xs (by simp; omega)
    simpa [Nat.add_assoc] using e
theorem foldl_zip (v : Array Value) (cells : Array Value) (off : Nat) (h : off + v.size ≤ cells.size) :
    (v.zipIdx.foldl (fun cs (c, j) => cs.setIfInBounds (off + j) c) cells).toList = cells.toList.take off ++ v.toList ++ cells.toList.drop (off + v.size) := by
  have := foldl_set (xs := v.toList) cells off 0 (by simpa using h)
  rw [← Array.foldl_toList]
  simpa using this
section
variable {C : Ctx} {w : World} {m : Mem} {φ : Pl} {st : Store} {ρ : Operand → Value} {env : Nat → AV}
/-- The operands stand for what the abstract environment says. -/
def Fits (m : Mem) (φ : Pl) (env : Nat → AV) (ρ : Operand → Value) : Prop := ∀ x, opdOk x = true → Rep m φ (ev env x) (ρ x)
inductive PartsRep (m : Mem) (φ : Pl) : List (Nat × List AV) → List (Nat × Value) → Prop
  | nil : PartsRep m φ [] []
  | cons {i : Nat} {cs : List AV} {v : Value} {ps : List (Nat × List AV)} {vs : List (Nat × Value)} : RepC m φ cs v.cells.toList → PartsRep m φ ps vs → PartsRep m φ ((i, cs) :: ps) ((i, v) :: vs)
theorem partsOf_rep (hρ : Fits m φ env ρ) : ∀ {l : List (Nat × Operand)} {ps : List (Nat × List AV)}, (∀ p ∈ l, opdOk p.2 = true) → partsOf env l = some ps → PartsRep m φ ps (l.map fun p => (p.1, ρ p.2))
  | [], ps, _, h => by simp [partsOf] at h; subst h; exact .nil
  | p :: l, ps, ho, h => by
    simp only [partsOf] at h
    obtain ⟨cs, h1, h2⟩ := bnd_eq.1 h
    obtain ⟨qs, h3, h4⟩ := bnd_eq.1 h2
    injection h4 with h4; subst h4
    exact .cons (cellsOf_rep h1 (hρ p.2 (ho p (by simp)))) (partsOf_rep hρ (fun q hq => ho q (by simp [hq])) h3)
theorem fill_rep {place : Nat → Option (Nat × Nat)} {place' : Nat → Option (Nat × Nat)} (hp : ∀ i q, place i = some q → place' i = some q) : ∀ {ps : List (Nat × List AV)} {vs : List (Nat × Value)} {cells r : List AV} {vals : Array Value},
    PartsRep m φ ps vs → RepC m φ cells vals.toList → fillA place cells ps = some r → ∃ out, Instr.fill place' vals vs = some out ∧ RepC m φ r out.toList
  | _, _, cells, r, vals, .nil, hc, h => by simp [fillA] at h; subst h; exact ⟨vals, rfl, hc⟩
  | _, _, cells, r, vals, .cons (i := i) (cs := cs) (v := v) hv hps, hc, h => by
    simp only [fillA] at h
    obtain ⟨q, h1, h2⟩ := bnd_eq.1 h
    obtain ⟨h3, h4⟩ := tst_eq.1 h2
    have h3 := of_decide_eq_true h3
    obtain ⟨l, h5, h6⟩ := bnd_eq.1 h4
    obtain ⟨rfl, h7⟩ := splice_eq _ _ _ _ h5
    have hl := hv.length
    have hcl := hc.length
    simp only [Array.length_toList] at hl hcl
    have hz := foldl_zip v.cells vals q.1 (by omega)
    obtain ⟨out, k1, k2⟩ := fill_rep hp (vals := (v.cells.zipIdx.foldl (fun cs (c, j) => cs.setIfInBounds (q.1 + j) c) vals)) hps (by
      rw [hz]
      rw [hl]
      exact ((hc.take q.1).append hv).append (hc.drop _)) h6
    refine ⟨out, ?_, k2⟩
    simp only [Instr.fill, hp i q h1]
    rw [if_neg (by simp; omega)]
    exact k1
theorem placeS_struct {t : TypeId} {fs : Array Field} (hu : C.P.underlying t = some (.struct fs)) {i : Nat} {q : Nat × Nat} (h : placeS C.P t i = some q) :
    (fs.map fun f => (f.offset, (szOf C.P f.type).getD 0))[i]? = some q := by
  unfold placeS descK at h
  rw [hu] at h
  simp only [placeD] at h
  obtain ⟨p, h1, h2⟩ := bnd_eq.1 h
  obtain ⟨n, h3, h4⟩ := bnd_eq.1 h2
  obtain ⟨fs', fd, g1, g2, g3, g4⟩ := fieldT_eq h1
  rw [hu] at g1; injection g1 with g1; injection g1 with g1; subst g1
  injection h4 with h4; subst h4
  rw [Array.getElem?_map, g2]
  simp [g3, g4, h3]
theorem build_run (hz : ZerosOk C.P) (hf : FieldsOk C.P) (hρ : Fits m φ env ρ) {t : TypeId} {parts : Array (Nat × Operand)} {z : List Value} {ps : List (Nat × List AV)} {cs : List AV}
    (ho : ∀ p ∈ parts.toList, opdOk p.2 = true) (h1 : zeroOf C.P t = some z) (h2 : partsOf env parts.toList = some ps) (h3 : fillA (placeS C.P t) (litCells z) ps = some cs) (hg : aggD (descK C.P t) = some true) :
    ∃ out : Array Value, (Instr.build t (parts.map fun p => (p.1, ρ p.2))).run C.P w = .ok (.agg out) w ∧ RepC m φ cs out.toList := by
  obtain ⟨zv, hzr, hzc⟩ := run_zero h1 w
  have hps := partsOf_rep hρ ho h2
  have hz0 : RepC m φ (litCells z) zv.cells.toList := by rw [hzc]; exact litCells_rep m φ z (hz t z h1)
  have hpl : (parts.map fun p => (p.1, ρ p.2)).toList = parts.toList.map fun p => (p.1, ρ p.2) := by simp
  cases hd : descK C.P t with
  | none => rw [hd] at hg; simp [aggD] at hg
  | some d =>
    rw [hd] at hg
    cases d with
    | strct =>
      have hu : ∃ fs, C.P.underlying t = some (.struct fs) := by
        unfold descK at hd; split at hd <;> simp at hd
        rename_i fs h'; exact ⟨fs, h'⟩
      obtain ⟨fs, hu⟩ := hu
      have hm := run_mapM_array (P := C.P) (w := w) (fun f : Field => (do pure (f.offset, ← sizeOf f.type) : Sem (Nat × Nat))) (fun f => (f.offset, (szOf C.P f.type).getD 0)) fs (fun f hfm => by
        obtain ⟨n, hn⟩ := hf.1 t fs (zeroOf_eq h1).1 hu f hfm
        simp [run_size hn, hn])
      obtain ⟨out, k1, k2⟩ := fill_rep (place' := fun i => (fs.map fun f => (f.offset, (szOf C.P f.type).getD 0))[i]?) (fun i q hq => placeS_struct hu hq) hps hz0 h3
      refine ⟨out, ?_, k2⟩
      unfold Instr.build
      simp only [Sem.run_bind, hzr, Result.andThen_ok, run_und hu, hm, hpl]
      rw [k1]
      rfl
    | array n e =>
      have hu := und_descK_array hd
      obtain ⟨k, hk⟩ := hf.2 t n e (zeroOf_eq h1).1 hu
      obtain ⟨out, k1, k2⟩ := fill_rep (place' := fun i => some (i * k, k)) (fun i q hq => by
        unfold placeS at hq
        rw [hd] at hq
        simp only [placeD, hk, bnd_some] at hq
        exact hq) hps hz0 h3
      refine ⟨out, ?_, k2⟩
      unfold Instr.build
      simp only [Sem.run_bind, hzr, Result.andThen_ok, run_und hu, run_size hk, hpl]
      rw [k1]
      rfl
    | slice => simp [aggD] at hg
    | int => simp [aggD] at hg
    | string => simp [aggD] at hg
    | bool => simp [aggD] at hg
    | other => simp [aggD] at hg
end
end Go.Av

/- Slice literals and make over abstract values are what the model does. No condition. -/
namespace Go.Av

theorem ICells.of_get {m : Mem} : ∀ {cs : List IV} {vs : List Value}, cs.length = vs.length → (∀ (i : Nat) (c : IV) (v : Value), cs[i]? = some c → vs[i]? = some v → IRep m c v ∧ v.oneCell' = true) → ICells m cs vs
  | [], [], _, _ => .nil
  | [], _ :: _, h, _ => by simp at h
  | _ :: _, [], h, _ => by simp at h
  | c :: cs, v :: vs, h, hg => by
    have h0 := hg 0 c v rfl rfl
    exact .cons h0.1 h0.2 (ICells.of_get (by simpa using h) fun i c v h1 h2 => hg (i + 1) c v (by simpa using h1) (by simpa using h2))
theorem ICells.get {m : Mem} : ∀ {cs : List IV} {vs : List Value}, ICells m cs vs → ∀ {i : Nat} {c : IV} {v : Value}, cs[i]? = some c → vs[i]? = some v → IRep m c v ∧ v.oneCell' = true
  | _, _, .nil, i, c, v, h, _ => by simp at h
  | _, _, .cons a o b, 0, c, v, h, h' => by simp at h h'; subst h; subst h'; exact ⟨a, o⟩
  | _, _, .cons a o b, i + 1, c, v, h, h' => b.get (by simpa using h) (by simpa using h')
theorem zeroI_rep {m : Mem} : ∀ {z : List Value} {zi : List IV}, zeroI (litCells z) = some zi → (∀ v ∈ z, v.oneCell' = true) → ICells m zi z
  | [], zi, h, _ => by simp [litCells, zeroI] at h; subst h; exact .nil
  | v :: z, zi, h, ho => by
    simp only [litCells, zeroI] at h
    cases hz : zeroI (litCells z) with
    | none =>
      rw [hz] at h
      cases hl : litCell v <;> rw [hl] at h <;> simp [consZ] at h
    | some l =>
      rw [hz] at h
      have ih := zeroI_rep (m := m) hz fun u hu => ho u (by simp [hu])
      have h1 := ho v (by simp)
      unfold litCell at h
      split at h
      · simp only [consZ, Option.some.injEq] at h; subst h
        exact .cons (.isl0 none 0 fun _ => rfl) h1 ih
      · simp only [consZ, Option.some.injEq] at h; subst h
        exact .cons (.lit _) h1 ih
theorem replicate_flatten_get {k : Nat} {zi : List IV} (hk : zi.length = k) (h0 : 0 < k) : ∀ (n i : Nat), i < n * k → (List.replicate n zi).flatten[i]? = zi[i % k]?
  | 0, i, h => by simp at h
  | n + 1, i, h => by
    rw [List.replicate_succ, List.flatten_cons, List.getElem?_append, hk]
    by_cases c : i < k
    · rw [if_pos c, Nat.mod_eq_of_lt c]
    · rw [if_neg c, replicate_flatten_get hk h0 n (i - k) (by rw [Nat.add_mul] at h; omega)]
      rw [← Nat.mod_eq_sub_mod (by omega)]
theorem replicate_flatten_len {k : Nat} {zi : List IV} (hk : zi.length = k) (n : Nat) : (List.replicate n zi).flatten.length = n * k := by
  induction n with
  | zero => simp
  | succ n ih => rw [List.replicate_succ, List.flatten_cons, List.length_append, ih, hk, Nat.add_mul]; omega
/-- A row made of zero values. -/
theorem made_rep {m : Mem} {k : Nat} {z : Array Value} {zi : List IV} (hz : ICells m zi z.toList) (hk : zi.length = k) (h0 : 0 < k) (n N : Nat) (hN : n * k ≤ N) (f : Nat → Value) (hf : ∀ i, i < N → f i = z[i % z.size]!) :
    ICells m (List.replicate n zi).flatten (((Array.range N).map f).toList.take (k * n)) := by
  have hzl : z.size = k := by have := hz.length; simp at this; omega
  apply ICells.of_get
  · rw [replicate_flatten_len hk]; simp; rw [Nat.mul_comm k]; omega
  · intro i c v h1 h2
    rw [List.getElem?_take] at h2
    split at h2
    · rename_i hi
      rw [Nat.mul_comm] at hi
      rw [replicate_flatten_get hk h0 n i hi] at h1
      have hiN : i < N := by omega
      simp only [Array.toList_map, List.getElem?_map, Array.toList_range, List.getElem?_range hiN, Option.map_some, Option.some.injEq] at h2
      rw [hf i hiN] at h2
      have hmod : i % k < k := Nat.mod_lt _ h0
      refine hz.get h1 ?_
      rw [hzl] at h2
      rw [← h2]
      have : i % k < z.size := by omega
      simp [this]
    · cases h2
theorem setElem_eq {α : Type} : ∀ {l r : List α} {i : Nat} {x : α}, setElem l i x = some r → r = l.set i x ∧ i < l.length
  | [], _, _, _, h => by simp [setElem] at h
  | a :: l, r, 0, x, h => by simp [setElem] at h; subst h; simp
  | a :: l, r, i + 1, x, h => by
    simp only [setElem] at h
    obtain ⟨q, h1, h2⟩ := bnd_eq.1 h
    obtain ⟨rfl, h3⟩ := setElem_eq h1
    injection h2 with h2; subst h2
    simp; omega
theorem set_flatten {k : Nat} : ∀ {es : List (List IV)} {i : Nat} {x : List IV}, (∀ e ∈ es, e.length = k) → x.length = k → i < es.length → (es.set i x).flatten = es.flatten.take (k * i) ++ x ++ es.flatten.drop (k * i + x.length)
  | [], i, _, _, _, h => by simp at h
  | e :: es, 0, x, hw, hx, _ => by
    have he := hw e (by simp)
    simp only [List.set_cons_zero, List.flatten_cons, Nat.mul_zero, List.take_zero, List.nil_append, Nat.zero_add]
    rw [hx, ← he, List.drop_left]
  | e :: es, i + 1, x, hw, hx, h => by
    have he := hw e (by simp)
    simp only [List.set_cons_succ, List.flatten_cons]
    rw [set_flatten (fun e he => hw e (by simp [he])) hx (by simpa using h)]
    rw [show k * (i + 1) = e.length + k * i by rw [Nat.mul_add, he]; omega]
    have t1 : (e ++ es.flatten).take (e.length + k * i) = e ++ es.flatten.take (k * i) := by
      rw [List.take_append, List.take_of_length_le (by omega : e.length ≤ e.length + k * i), Nat.add_sub_cancel_left]
    have t2 : (e ++ es.flatten).drop (e.length + (k * i + x.length)) = es.flatten.drop (k * i + x.length) := by
      rw [List.drop_append, List.drop_of_length_le (by omega : e.length ≤ e.length + (k * i + x.length)), Nat.add_sub_cancel_left, List.nil_append]
    rw [Nat.add_assoc, t1, t2]
    simp
theorem repl_eq {α : Type} : ∀ (n : Nat) (x : α), repl n x = List.replicate n x
  | 0, _ => rfl
  | n + 1, x => by simp [repl, repl_eq n x, List.replicate_succ]
inductive PartsI (m : Mem) : List (Nat × List IV) → List (Nat × Value) → Prop
  | nil : PartsI m [] []
  | cons {i : Nat} {cs : List IV} {v : Value} {ps : List (Nat × List IV)} {vs : List (Nat × Value)} : ICells m cs v.cells.toList → PartsI m ps vs → PartsI m ((i, cs) :: ps) ((i, v) :: vs)
theorem PartsI.mono {m m' : Mem} (h : MLe m m') : ∀ {ps : List (Nat × List IV)} {vs : List (Nat × Value)}, PartsI m ps vs → PartsI m' ps vs
  | _, _, .nil => .nil
  | _, _, .cons a b => .cons (a.mono h) (b.mono h)
theorem PartsRep.mono {m m' : Mem} {φ : Pl} (h : MLe m m') : ∀ {ps : List (Nat × List AV)} {vs : List (Nat × Value)}, PartsRep m φ ps vs → PartsRep m' φ ps vs
  | _, _, .nil => .nil
  | _, _, .cons a b => .cons (a.mono h (.refl _)) (b.mono h)
theorem frzParts_sound {w : World} : ∀ {ps : List (Nat × List AV)} {m : Mem} {φ : Pl} {st st1 : Store} {qs : List (Nat × List IV)} {vs : List (Nat × Value)}, Inv w m φ st → PartsRep m φ ps vs → frzParts st ps = some (qs, st1) →
    ∃ m1, PartsI m1 qs vs ∧ Inv w m1 φ st1 ∧ Adv w m φ w m1 φ
  | [], m, φ, st, st1, qs, _, hi, .nil, h => by simp [frzParts] at h; obtain ⟨rfl, rfl⟩ := h; exact ⟨m, .nil, hi, .refl _ _ _⟩
  | _ :: ps, m, φ, st, st1, qs, _, hi, .cons hv hps, h => by
    simp only [frzParts] at h
    obtain ⟨p, h1, h2⟩ := bnd_eq.1 h
    obtain ⟨q, h3, h4⟩ := bnd_eq.1 h2
    injection h4 with h4; injection h4 with h5 h6; subst h5; subst h6
    obtain ⟨m1, k1, k2, k3⟩ := frzVs_sound hi hv h1
    obtain ⟨m2, k4, k5, k6⟩ := frzParts_sound k2 (hps.mono k3.mle) h3
    exact ⟨m2, .cons (k1.mono k6.mle) k4, k5, k3.trans k6⟩
theorem fill_elems {m : Mem} {k : Nat} : ∀ {qs : List (Nat × List IV)} {vs : List (Nat × Value)} {es r : List (List IV)} {vals : Array Value}, PartsI m qs vs → ICells m es.flatten vals.toList → (∀ e ∈ es, e.length = k) → setElems k es qs = some r →
    ∃ out, Instr.fill (fun i => some (i * k, k)) vals vs = some out ∧ ICells m r.flatten out.toList ∧ (∀ e ∈ r, e.length = k) ∧ r.length = es.length
  | _, _, es, r, vals, .nil, hc, hw, h => by simp [setElems] at h; subst h; exact ⟨vals, rfl, hc, hw, rfl⟩
  | _, _, es, r, vals, .cons (i := i) (cs := cs) (v := v) hv hps, hc, hw, h => by
    simp only [setElems] at h
    obtain ⟨h1, h2⟩ := tst_eq.1 h
    have h1 : cs.length = k := by simpa using h1
    obtain ⟨l, h3, h4⟩ := bnd_eq.1 h2
    obtain ⟨rfl, h5⟩ := setElem_eq h3
    have hvl := hv.length
    simp only [Array.length_toList] at hvl
    have hcl := hc.length
    rw [flatten_length hw] at hcl
    simp only [Array.length_toList] at hcl
    have hik : i * k + k ≤ vals.size := by
      rw [← hcl]
      have := Nat.mul_le_mul_left k (show i + 1 ≤ es.length by omega)
      rw [Nat.mul_add, Nat.mul_one, Nat.mul_comm k i] at this
      exact this
    have hz := foldl_zip v.cells vals (i * k) (by omega)
    obtain ⟨out, k1, k2, k3, k4⟩ := fill_elems (es := es.set i cs) (vals := v.cells.zipIdx.foldl (fun cs (c, j) => cs.setIfInBounds (i * k + j) c) vals) hps (by
      rw [hz, set_flatten hw h1 h5, Nat.mul_comm k i, hvl]
      exact ((hc.take _).append hv).append (hc.drop _)) (fun e he => by
        rcases List.mem_or_eq_of_mem_set he with he | he
        · exact hw e he
        · subst he; exact h1) h4
    refine ⟨out, ?_, k2, k3, by simpa using k4⟩
    simp only [Instr.fill]
    rw [if_neg (by simp; omega)]
    exact k1
section
variable {C : Ctx} {w : World} {m : Mem} {φ : Pl} {st : Store} {ρ : Operand → Value} {env : Nat → AV}
theorem sliceLit_sound (hz : ZerosOk C.P) {t e : TypeId} {n nb : Nat} {ps : List (Nat × List AV)} {vs : List (Nat × Value)} {v : AV} {st' : Store} (hi : Inv w m φ st) (hf : ∀ id, nb ≤ id → id < nb + wide → φ id = none)
    (ht : C.P.underlying t = some (.slice e)) (hps : PartsRep m φ ps vs) (h : sliceLit C e n st nb ps = some (v, st')) (parts : Array (Nat × Value)) (hparts : parts.toList = vs) :
    ∃ y w', (Instr.buildSlice t n parts).run C.P w = .ok y w' ∧ Out w m φ nb v st' y w' := by
  have hnb := hf nb (Nat.le_refl _) (lt_wide nb)
  unfold sliceLit at h
  obtain ⟨k, hk, h1⟩ := bnd_eq.1 h
  obtain ⟨z, hzz, h2⟩ := bnd_eq.1 h1
  obtain ⟨zi, hzi, h3⟩ := bnd_eq.1 h2
  obtain ⟨h4, h5⟩ := tst_eq.1 h3
  obtain ⟨hk0, hn, hzl⟩ := of_decide_eq_true h4
  obtain ⟨q, hq, h6⟩ := bnd_eq.1 h5
  obtain ⟨es, hes, h7⟩ := bnd_eq.1 h6
  simp only [Option.some.injEq, Prod.mk.injEq] at h7
  obtain ⟨rfl, rfl⟩ := h7
  obtain ⟨m1, k1, k2, k3⟩ := frzParts_sound hi hps hq
  obtain ⟨zv, hzr, hzc⟩ := run_zero hzz w
  have hzrep : ICells m1 zi zv.cells.toList := by rw [hzc]; exact zeroI_rep hzi (hz e z hzz)
  have hzs : zv.cells.size = k := by have := hzrep.length; simp at this; omega
  rw [repl_eq] at hes
  have hmade := made_rep hzrep hzl hk0 n (n * k) (Nat.le_refl _) (fun i => zv.cells[i % zv.cells.size]!) (fun _ _ => rfl)
  rw [List.take_of_length_le (by simp [Nat.mul_comm])] at hmade
  obtain ⟨out, g1, g2, g3, g4⟩ := fill_elems k1 hmade (fun e he => by rw [List.eq_of_mem_replicate he]; exact hzl) hes
  simp only [List.length_replicate] at g4
  have hol := g2.length
  rw [flatten_length g3, g4] at hol
  simp only [Array.length_toList] at hol
  have hrun : (Instr.buildSlice t n parts).run C.P w = .ok (.slice (some ⟨w.heap.size, 0, none⟩) n n) (w.alloc (.cells out e)) := by
    have hn' : ¬ 16777216 < n * k := by omega
    unfold Instr.buildSlice
    rw [hparts]
    by_cases h0 : n * k = 0
    · have g5 : ∀ f : Nat → Value, Instr.fill (fun i => some (i * k, k)) (Array.map f (Array.range (n * k))) vs = some out := fun f => by
        rw [← g1]; congr 1; rw [h0]; simp
      simp [run_und ht, run_size hk, h0, newRow]
      rw [← h0]
      simp [g5]
    · simp [run_und ht, run_size hk, hn', h0, hzr, newRow, g1]
  have hblk : BlkOk (w.alloc (.cells out e)) m1 (updP φ nb (w.heap.size, one w.heap.size out.toList.length)) w.heap.size (one w.heap.size out.toList.length) (.arr k es) := by
    refine .arr (T := e) (by simpa using heap_push_new w (.cells out e)) rfl hk0 g3 ?_ ?_ ?_ (fun _ hf => hf) g2.one
    · rw [g4, List.take_of_length_le (by simp; omega)]; exact g2
    · rw [one_len, g4]; simp; omega
    · intro o
      cases hm : m1 w.heap.size o with
      | none => rfl
      | some u => exact absurd (k2.mem.lt hm) (by omega)
  obtain ⟨j1, j2⟩ := k2.push hnb _ hblk
  refine ⟨_, _, hrun, m1, _, .osl (updP_same _ _ _) (Nat.le_refl _) ?_ (fun _ => rfl) (fun h => by cases h), j1, k3.trans j2, updP_ids (Nat.le_refl _) (lt_wide nb)⟩
  simp; omega
theorem make_sound (hz : ZerosOk C.P) {t : TypeId} {nb : Nat} {a b v : AV} {x y : Value} {st' : Store} (hi : Inv w m φ st) (hf : ∀ id, nb ≤ id → id < nb + wide → φ id = none)
    (ha : Rep m φ a x) (hb : Rep m φ b y) (h : makeA C t st nb a b = some (v, st')) : ∃ r w', (Instr.makeSlice t x y).run C.P w = .ok r w' ∧ Out w m φ nb v st' r w' := by
  have hnb := hf nb (Nat.le_refl _) (lt_wide nb)
  unfold makeA at h
  split at h
  · rename_i l c
    cases ha with
    | i ha => cases ha with
      | lit => cases hb with
        | i hb => cases hb with
          | lit =>
            obtain ⟨e, he, h1⟩ := bnd_eq.1 h
            obtain ⟨k, hk, h2⟩ := bnd_eq.1 h1
            obtain ⟨by_, hby, h3⟩ := bnd_eq.1 h2
            obtain ⟨z, hzz, h4⟩ := bnd_eq.1 h3
            obtain ⟨zi, hzi, h5⟩ := bnd_eq.1 h4
            obtain ⟨h6, h7⟩ := tst_eq.1 h5
            obtain ⟨hk0, hb0, hl0, hlc, hbytes, hzl⟩ := of_decide_eq_true h6
            simp only [Option.some.injEq, Prod.mk.injEq] at h7
            obtain ⟨rfl, rfl⟩ := h7
            obtain ⟨i, hi1, hi2, hi3⟩ := run_tinfo hby w
            have hisz : i.size = k := by unfold szOf at hk; rw [hi3] at hk; simpa using hk
            obtain ⟨zv, hzv⟩ : ∃ zv, i.zero = some zv := by
              have hzz := (zeroOf_eq hzz).2; rw [hi3] at hzz
              cases hq : i.zero with
              | none => simp [hq] at hzz
              | some zv => exact ⟨zv, rfl⟩
            have hzc : zv.cells.toList = z := by have hzz := (zeroOf_eq hzz).2; rw [hi3] at hzz; simpa [hzv] using hzz
            have hb1 : (1 : Int) ≤ by_ := by omega
            have hcle : c ≤ by_ * c := by
              have := Int.mul_le_mul_of_nonneg_right hb1 (show 0 ≤ c by omega)
              simpa using this
            have hrun := run_make (P := C.P) w t e i zv (und_slice he) hi3 hzv .i64 .i64 l c hl0 hlc (by rw [hi2]; exact hbytes) (by omega)
            rw [hisz] at hrun
            have hzrep : ICells m zi zv.cells.toList := by rw [hzc]; exact zeroI_rep hzi (hz e z hzz)
            have hN : l.toNat * k ≤ c.toNat * k := Nat.mul_le_mul_right _ (by omega)
            have hmade := made_rep hzrep hzl hk0 l.toNat (c.toNat * k) hN (fun i => zv.cells[i % zv.cells.size]!) (fun _ _ => rfl)
            have hsz : (madeCells zv.cells (c.toNat * k)).size = c.toNat * k := size_madeCells _ _
            have hmade2 := made_rep hzrep hzl hk0 c.toNat (c.toNat * k) (Nat.le_refl _) (fun i => zv.cells[i % zv.cells.size]!) (fun _ _ => rfl)
            rw [List.take_of_length_le (by simp [Nat.mul_comm])] at hmade2
            have hblk : BlkOk (w.alloc (.cells (madeCells zv.cells (c.toNat * k)) e)) m (updP φ nb (w.heap.size, one w.heap.size (madeCells zv.cells (c.toNat * k)).toList.length)) w.heap.size (one w.heap.size (madeCells zv.cells (c.toNat * k)).toList.length) (.arr k (List.replicate l.toNat zi)) := by
              refine .arr (T := e) (by simpa using heap_push_new w (.cells (madeCells zv.cells (c.toNat * k)) e)) rfl hk0 (fun e he => by rw [List.eq_of_mem_replicate he]; exact hzl) ?_ ?_ ?_ (fun _ hf => hf) hmade2.one
              · rw [List.length_replicate]; exact hmade
              · simp only [List.length_replicate, Array.length_toList, hsz, Nat.mul_comm k]; exact hN
              · intro o
                cases hm : m w.heap.size o with
                | none => rfl
                | some u => exact absurd (hi.mem.lt hm) (by omega)
            obtain ⟨j1, j2⟩ := hi.push hnb _ hblk
            refine ⟨_, _, hrun, m, _, .osl (updP_same _ _ _) (by omega) ?_ (fun _ => rfl) (fun h => by cases h), j1, j2, updP_ids (Nat.le_refl _) (lt_wide nb)⟩
            simp only [Array.length_toList, hsz, Nat.zero_add, Nat.mul_comm k]; exact Nat.le_refl _
  · cases h
end
end Go.Av

/- Stores, copies, slices, indices over abstract values are what the model does. No condition. -/
namespace Go.Av
section
variable {C : Ctx} {w : World} {m : Mem} {φ : Pl} {st : Store}

theorem storeVar_run {P : Program} {t : TypeId} {v : Value} {b off : Nat} {T : TypeId} {vs : List Value} (hs : szOf P t = some v.cells.size) (hh : w.heap[b]? = some (.cells vs.toArray T (0, 0))) (hl : off + v.cells.size ≤ vs.length) (h1 : ∀ u ∈ v.cells.toList, u.oneCell' = true) :
    (storeVar t ⟨b, off, none⟩ v).run P w = .ok () (w.setRow b (vs.take off ++ v.cells.toList ++ vs.drop (off + v.cells.size)).toArray) := by
  have := run_storeCells_at P b off T v.cells.toList 0 vs.toArray w hh (by simpa using hl) h1
  simp only [Nat.add_zero, Array.length_toList] at this
  simp [storeVar, run_size hs, this]
theorem storeAt_sound {t : TypeId} {a : AV} {av xv : Value} {xs : List AV} {st' : Store} (hi : Inv w m φ st) (ha : Rep m φ a av) (hxc : RepC m φ xs xv.cells.toList) (hxl : xs.length = xv.cells.size) (hs' : szOf C.P t = some xv.cells.size) (h4 : storeAt xs st a = some st') :
    ∃ w' m', (Instr.storeAt t av xv).run C.P w = .ok () w' ∧ Inv w' m' φ st' ∧ Adv w m φ w' m' φ := by
  unfold storeAt at h4
  cases ha with
  | junk => simp at h4
  | nils => simp at h4
  | i => simp at h4
  | osl => simp at h4
  | agg => simp at h4
  | tup => simp at h4
  | fn => simp at h4
  | yld => simp at h4
  | ydead => simp at h4
  | @own id off b n' e =>
    simp only at h4
    cases hst : st id with
    | none => rw [hst] at h4; simp [storeB] at h4
    | some blk =>
      rw [hst] at h4
      obtain ⟨hb, hok⟩ := blk_at hi e hst
      cases hok with
      | arr => simp [storeB] at h4
      | tre => simp [storeB] at h4
      | loop => simp [storeB] at h4
      | frz => simp [storeB] at h4
      | fbox => simp [storeB] at h4
      | @box T cs vs hh hl hcc hm =>
        simp only [storeB] at h4
        obtain ⟨l, h5, h6⟩ := bnd_eq.1 h4
        injection h6 with h6; subst h6
        obtain ⟨rfl, h7⟩ := splice_eq _ _ _ _ h5
        have hcl := hcc.length
        have hrun := storeVar_run (P := C.P) (off := off) hs' hh (by omega) hxc.one
        have hblk : BlkOk (w.setRow b (vs.take off ++ xv.cells.toList ++ vs.drop (off + xv.cells.size)).toArray) m φ b n' (.box (cs.take off ++ xs ++ cs.drop (off + xs.length))) := by
          refine .box (T := T) (setRow_heap w b _ _ T (0, 0) hh) (by simp; omega) ?_ hm
          rw [hxl]
          exact ((hcc.take _).append hxc).append (hcc.drop _)
        obtain ⟨k1, k2⟩ := hi.set hst e hm _ hblk
        exact ⟨_, m, by simp only [Instr.storeAt, Instr.sureAddr, Sem.run_bind, Sem.run_pure, Result.andThen_ok]; exact hrun, k1, k2⟩
  | @ownE id k ix off b n' e =>
    simp only at h4
    obtain ⟨p, h5, h6⟩ := bnd_eq.1 h4
    obtain ⟨m1, q1, q2, q3⟩ := frzVs_sound hi hxc h5
    cases hst : p.2 id with
    | none => rw [hst] at h6; simp [storeE] at h6
    | some blk =>
      rw [hst] at h6
      obtain ⟨hb, hok⟩ := blk_at q2 e hst
      cases hok with
      | box => simp [storeE] at h6
      | frz => simp [storeE] at h6
      | tre => simp [storeE] at h6
      | loop => simp [storeE] at h6
      | fbox => simp [storeE] at h6
      | @arr T k' es vs hh hl hpos hw1 hcc hfit hm hown1 hone =>
        simp only [storeE] at h6
        obtain ⟨h7, h8⟩ := tst_eq.1 h6
        have h7 := of_decide_eq_true h7
        subst h7
        obtain ⟨ec, h9, h10⟩ := bnd_eq.1 h8
        rw [nthE_eq] at h9
        obtain ⟨e', h11, h12⟩ := bnd_eq.1 h10
        injection h12 with h12; subst h12
        obtain ⟨rfl, h13⟩ := splice_eq _ _ _ _ h11
        have hixl : ix < es.length := (List.getElem?_eq_some_iff.1 h9).1
        have hel : ec.length = k' := hw1 ec (List.mem_of_getElem? h9)
        have hpl := q1.length
        simp only [Array.length_toList] at hpl
        have hmul : k' * ix + k' ≤ k' * es.length := by
          have := Nat.mul_le_mul_left k' (show ix + 1 ≤ es.length by omega)
          rwa [Nat.mul_add, Nat.mul_one] at this
        have hrun := storeVar_run (P := C.P) (off := k' * ix + off) hs' hh (by omega) hxc.one
        have hw2 : ∀ d ∈ es.set ix (ec.take off ++ p.1 ++ ec.drop (off + p.1.length)), d.length = k' := fun d hd => by
          rcases List.mem_or_eq_of_mem_set hd with hd | hd
          · exact hw1 d hd
          · subst hd; simp; omega
        have hfl := flatten_at hw1 h9
        have hfll := flatten_length hw1
        -- the row behind the store
        have hrow : (es.set ix (ec.take off ++ p.1 ++ ec.drop (off + p.1.length))).flatten = es.flatten.take (k' * ix + off) ++ p.1 ++ es.flatten.drop (k' * ix + off + p.1.length) := by
          rw [set_flatten hw1 (by simp; omega) hixl]
          have e1 : (ec.take off ++ p.1 ++ ec.drop (off + p.1.length)).length = k' := by simp; omega
          rw [e1]
          have e2 : es.flatten.take (k' * ix + off) = es.flatten.take (k' * ix) ++ ec.take off := by
            rw [← hfl, List.take_take, Nat.min_eq_left (by omega), List.take_add]
          have e3 : es.flatten.drop (k' * ix + off + p.1.length) = ec.drop (off + p.1.length) ++ es.flatten.drop (k' * ix + k') := by
            rw [← hfl, List.drop_take]
            rw [List.drop_drop]
            have : es.flatten.drop (k' * ix + k') = (es.flatten.drop (k' * ix + (off + p.1.length))).drop (k' - (off + p.1.length)) := by
              rw [List.drop_drop]; congr 1; omega
            rw [this, List.take_append_drop, Nat.add_assoc]
          rw [e2, e3]
          simp
        have hblk : BlkOk (w.setRow b (vs.take (k' * ix + off) ++ xv.cells.toList ++ vs.drop (k' * ix + off + xv.cells.size)).toArray) m1 φ b n' (.arr k' (es.set ix (ec.take off ++ p.1 ++ ec.drop (off + p.1.length)))) := by
          refine .arr (T := T) (setRow_heap w b _ _ T (0, 0) hh) (by simp; omega) hpos hw2 ?_ (by rw [List.length_set]; exact hfit) hm hown1 (fun v hv => by
            rcases List.mem_append.1 hv with hv | hv
            · rcases List.mem_append.1 hv with hv | hv
              · exact hone v (List.mem_of_mem_take hv)
              · exact hxc.one v hv
            · exact hone v (List.mem_of_mem_drop hv))
          rw [hrow, List.length_set]
          have hcl := hcc.length
          rw [hfll] at hcl
          have e4 : (vs.take (k' * ix + off) ++ xv.cells.toList ++ vs.drop (k' * ix + off + xv.cells.size)).take (k' * es.length) =
              (vs.take (k' * es.length)).take (k' * ix + off) ++ xv.cells.toList ++ (vs.take (k' * es.length)).drop (k' * ix + off + xv.cells.size) := by
            have a1 : (vs.take (k' * ix + off) ++ xv.cells.toList).length = k' * ix + off + xv.cells.size := by simp; omega
            rw [List.take_append, a1, List.take_of_length_le (by rw [a1]; omega), List.drop_take, List.take_take, Nat.min_eq_left (by omega)]
          rw [e4, hpl]
          exact ((hcc.take _).append q1).append (hcc.drop _)
        obtain ⟨k1, k2⟩ := q2.set hst e hm _ hblk
        exact ⟨_, m1, by simp only [Instr.storeAt, Instr.sureAddr, Sem.run_bind, Sem.run_pure, Result.andThen_ok]; exact hrun, k1, q3.trans k2⟩


/-! ### Slices put into elements, their memory with them -/
theorem TCells.append {w : World} : ∀ {cs ds : List IV} {vs us : List Value} {F G : List Nat}, TCells w cs vs F → TCells w ds us G → TCells w (cs ++ ds) (vs ++ us) (F ++ G)
  | _, _, _, _, _, _, .nil, h => h
  | _, _, _, _, _, _, .lit o r, h => .lit o (r.append h)
  | _, _, _, _, _, _, .isl0 c r, h => .isl0 c (r.append h)
  | _, _, _, _, _, G, .isl (G := G1) (F := F1) hn hr hk hl hf hc g r, h => by
    have := TCells.isl hn hr hk hl hf hc g (r.append h)
    simpa using this
theorem TCells.split {w : World} : ∀ {cs : List IV} {vs : List Value} {F : List Nat} (n : Nat), TCells w cs vs F → ∃ F1 F2, F = F1 ++ F2 ∧ TCells w (cs.take n) (vs.take n) F1 ∧ TCells w (cs.drop n) (vs.drop n) F2
  | _, _, _, 0, h => ⟨[], _, rfl, by simpa using TCells.nil, by simpa using h⟩
  | _, _, _, _ + 1, .nil => ⟨[], [], rfl, by simpa using TCells.nil, by simpa using TCells.nil⟩
  | _, _, _, n + 1, .lit o r => by
    obtain ⟨F1, F2, e, h1, h2⟩ := r.split n
    exact ⟨F1, F2, e, by simpa using TCells.lit o h1, by simpa using h2⟩
  | _, _, _, n + 1, .isl0 c r => by
    obtain ⟨F1, F2, e, h1, h2⟩ := r.split n
    exact ⟨F1, F2, e, by simpa using TCells.isl0 c h1, by simpa using h2⟩
  | _, _, _, n + 1, .isl (b := b) (G := G) hn hr hk hl hf hc g r => by
    obtain ⟨F1, F2, rfl, h1, h2⟩ := r.split n
    exact ⟨b :: G ++ F1, F2, by simp, by simpa using TCells.isl hn hr hk hl hf hc g h1, by simpa using h2⟩
theorem bare_T {m : Mem} {w : World} : ∀ {cs : List IV} {vs : List Value}, bareL cs = true → ICells m cs vs → TCells w cs vs []
  | [], _, _, .nil => .nil
  | c :: cs, _, h, .cons a o r => by
    simp only [bareL, Bool.and_eq_true] at h
    have ih := bare_T (w := w) h.2 r
    cases a with
    | lit v => exact .lit o ih
    | isl0 ao cap hc => exact .isl0 hc ih
    | isl hn => rename_i es _ _ _; cases es with | nil => exact absurd rfl hn | cons e es => simp [bareC] at h
    | agg => simp [bareC] at h
    | iref => simp [bareC] at h
theorem bareLL_flatten : ∀ {es : List (List IV)}, bareLL es = true → bareL es.flatten = true
  | [], _ => rfl
  | e :: es, h => by
    simp only [bareLL, Bool.and_eq_true] at h
    have ih := bareLL_flatten h.2
    rw [List.flatten_cons]
    have app : ∀ (a b : List IV), bareL a = true → bareL b = true → bareL (a ++ b) = true := by
      intro a
      induction a with
      | nil => intro b _ h; exact h
      | cons c a iha => intro b h1 h2; simp only [bareL, Bool.and_eq_true] at h1; simp only [List.cons_append, bareL, h1.1, iha b h1.2 h2, Bool.and_self]
    exact app _ _ h.1 ih
theorem lits_I {m : Mem} {w : World} : ∀ {cs : List IV} {vs : List Value} {F : List Nat}, litsL cs = true → TCells w cs vs F → ICells m cs vs
  | [], _, _, _, .nil => .nil
  | _ :: _, _, _, h, .lit o r => by
    simp only [litsL, Bool.and_eq_true] at h
    exact .cons (.lit _) o (lits_I h.2 r)
  | _ :: _, _, _, h, .isl0 _ _ => by simp [litsL, litC] at h
  | _ :: _, _, _, h, .isl _ _ _ _ _ _ _ _ => by simp [litsL, litC] at h
/-- What absorbing leaves: the cells with memory of their own. -/
structure AbsOk (w : World) (m : Mem) (φ : Pl) (st st1 : Store) (l : List IV) (vs : List Value) (F : List Nat) (O : Nat → Prop) : Prop where
  cells : TCells w l vs F
  nodup : F.Nodup
  own : ∀ f ∈ F, O f
  free : ∀ f, O f → (∀ o, m f o = none) ∧ f < w.heap.size ∧ ∃ id b n blk, st id = some blk ∧ φ id = some (b, n) ∧ n.own f
  less : ∀ id blk, st1 id = some blk → st id = some blk ∧ ∀ b n, φ id = some (b, n) → ∀ f, n.own f → ¬ O f
theorem absC_sound {c : AV} {v : Value} {iv : IV} {st1 : Store} (hi : Inv w m φ st) (hr : Rep m φ c v) (ho : v.oneCell' = true) (h : absC st c = some (iv, st1)) : ∃ F O, AbsOk w m φ st st1 [iv] [v] F O := by
  unfold absC at h
  split at h
  · rename_i u
    obtain ⟨h1, h2⟩ := tst_eq.1 h
    injection h2 with h2; injection h2 with h2 h3; subst h2; subst h3
    cases hr with
    | i hr => exact ⟨[], fun _ => False, bare_T (by simp [bareL, h1]) (.cons hr ho .nil), by simp, by simp, fun _ h => h.elim, fun id blk h => ⟨h, fun _ _ _ _ _ h => h⟩⟩
  · injection h with h2; injection h2 with h2 h3; subst h2; subst h3
    cases hr with
    | nils => exact ⟨[], fun _ => False, .isl0 (fun _ => rfl) .nil, by simp, by simp, fun _ h => h.elim, fun id blk h => ⟨h, fun _ _ _ _ _ h => h⟩⟩
  · rename_i id k off len
    obtain ⟨es, h1, h2⟩ := bnd_eq.1 h
    injection h2 with h2; injection h2 with h2 h3; subst h2; subst h3
    cases hr with
    | @osl _ _ _ _ cap b n ao eφ hlc hcap ha1 ha2 =>
      cases hst : st id with
      | none => rw [hst] at h1; simp [absE] at h1
      | some blk =>
        rw [hst] at h1
        obtain ⟨hb, hok⟩ := blk_own hi eφ hst
        have hless : ∀ j blk', upd st id none j = some blk' → st j = some blk' ∧ ∀ b' n', φ j = some (b', n') → ∀ f, n'.own f → ¬ n.own f := by
          intro j blk' hj
          unfold upd at hj
          split at hj
          · cases hj
          · rename_i hne
            exact ⟨hj, fun b' n' e f hf hf' => hne (hi.inj _ _ _ _ _ _ _ _ _ hj hst e eφ hf hf')⟩
        have fin : ∀ {F : List Nat} {us : List Value}, len = es.length → off = 0 → rowOf w b us → 0 < k → (∀ e ∈ es, e.length = k) → k * (off + cap) ≤ us.length → TCells w es.flatten (us.take (k * es.length)) F → (b :: F).Nodup → (∀ f ∈ F, n.own f) → (∀ f, n.own f → ∀ o, m f o = none) →
            ∃ F O, AbsOk w m φ st (upd st id none) [.isl es] [.slice ao len cap] F O := by
          intro F us hlen hoff hrow hk hw hfit ht hnd hF hm
          subst hoff; subst hlen
          have hfree : ∀ f, n.own f → (∀ o, m f o = none) ∧ f < w.heap.size ∧ ∃ id b n blk, st id = some blk ∧ φ id = some (b, n) ∧ n.own f := fun f hf => ⟨hm f hf, hb.2 f hf, id, b, n, _, hst, eφ, hf⟩
          by_cases h0 : es = []
          · subst h0
            exact ⟨[], n.own, .isl0 ha2 .nil, by simp, by simp, hfree, hless⟩
          · have hcap0 : cap ≠ 0 := by have := List.length_pos_iff.2 h0; omega
            have := ha1 hcap0
            subst this
            refine ⟨b :: F ++ [], n.own, .isl h0 hrow hk hw (by simpa using hfit) hlc ht .nil, by simpa using hnd, ?_, hfree, hless⟩
            intro f hf
            simp at hf
            rcases hf with rfl | hf
            · exact hb.1
            · exact hF f hf
        cases hok with
        | box => simp [absE] at h1
        | fbox => simp [absE] at h1
        | loop => simp [absE] at h1
        | frz => simp [absE] at h1
        | @arr T k' es0 vs hh hl hpos hw1 hc hfit hm hown1 hone =>
          simp only [absE] at h1
          obtain ⟨h3, h4⟩ := tst_eq.1 h1
          obtain ⟨h5, h6⟩ := tst_eq.1 h4
          injection h6 with h6; subst h6
          obtain ⟨rfl, h7, h8⟩ := of_decide_eq_true h3
          exact fin h8 h7 ⟨T, hh⟩ hpos hw1 (by rw [hl]; exact hcap) (bare_T (bareLL_flatten h5) hc) (by simp) (by simp) (fun f hf => by rw [hown1 f hf]; exact hm)
        | @tre T k' es0 vs F hh hl hpos hw1 hc hfit hnd hF hm =>
          simp only [absE] at h1
          obtain ⟨h3, h4⟩ := tst_eq.1 h1
          injection h4 with h6; subst h6
          obtain ⟨rfl, h7, h8⟩ := of_decide_eq_true h3
          exact fin h8 h7 ⟨T, hh⟩ hpos hw1 (by rw [hl]; exact hcap) hc hnd hF hm
  · cases h
theorem absL_sound {w : World} {m : Mem} {φ : Pl} : ∀ {cs : List AV} {st st1 : Store} {l : List IV} {vs : List Value}, Inv w m φ st → RepC m φ cs vs → absL st cs = some (l, st1) → ∃ F O, AbsOk w m φ st st1 l vs F O
  | [], st, st1, l, _, hi, .nil, h => by
    simp [absL] at h; obtain ⟨rfl, rfl⟩ := h
    exact ⟨[], fun _ => False, .nil, by simp, by simp, fun _ h => h.elim, fun id blk h => ⟨h, fun _ _ _ _ _ h => h⟩⟩
  | c :: cs, st, st1, l, _, hi, .cons a o b, h => by
    simp only [absL] at h
    obtain ⟨p, h1, h2⟩ := bnd_eq.1 h
    obtain ⟨q, h3, h4⟩ := bnd_eq.1 h2
    injection h4 with h4; injection h4 with h5 h6; subst h5; subst h6
    obtain ⟨F1, O1, k1⟩ := absC_sound hi a o (show absC st c = some (p.1, p.2) from h1)
    obtain ⟨F2, O2, k2⟩ := absL_sound (hi.forget fun id blk e => (k1.less id blk e).1) b (show absL p.2 cs = some (q.1, q.2) from h3)
    have hdis : ∀ f, O2 f → ¬ O1 f := by
      intro f h2 h1
      obtain ⟨_, _, id, b', n', blk, e1, e2, e3⟩ := k2.free f h2
      exact (k1.less id blk e1).2 b' n' e2 f e3 h1
    refine ⟨F1 ++ F2, fun f => O1 f ∨ O2 f, k1.cells.append k2.cells, ?_, ?_, ?_, ?_⟩
    · rw [List.nodup_append]
      refine ⟨k1.nodup, k2.nodup, ?_⟩
      intro x hx y hy e
      subst e
      exact hdis x (k2.own x hy) (k1.own x hx)
    · intro f hf
      rcases List.mem_append.1 hf with hf | hf
      · exact .inl (k1.own f hf)
      · exact .inr (k2.own f hf)
    · intro f hf
      rcases hf with hf | hf
      · exact k1.free f hf
      · obtain ⟨a1, a2, id, b', n', blk, e1, e2, e3⟩ := k2.free f hf
        exact ⟨a1, a2, id, b', n', blk, (k1.less id blk e1).1, e2, e3⟩
    · intro id blk e
      obtain ⟨e1, d1⟩ := k2.less id blk e
      obtain ⟨e2, d2⟩ := k1.less id blk e1
      exact ⟨e2, fun b n hp f hf hh => hh.elim (d2 b n hp f hf) (d1 b n hp f hf)⟩
/-- A block written that takes in what was absorbed. -/
theorem Inv.grow {st1 : Store} (h : Inv w m φ st) {l : List IV} {vs : List Value} {F : List Nat} {O : Nat → Prop} (ha : AbsOk w m φ st st1 l vs F O) {id b : Nat} {n : Ext} {blk blk' : Blk} (hs : st1 id = some blk) (he : φ id = some (b, n)) (hm : ∀ o, m b o = none) (cs : Array Value)
    (hb : BlkOk (w.setRow b cs) m (updP φ id (b, ⟨n.len, fun f => n.own f ∨ O f⟩)) b ⟨n.len, fun f => n.own f ∨ O f⟩ blk') :
    Inv (w.setRow b cs) m (updP φ id (b, ⟨n.len, fun f => n.own f ∨ O f⟩)) (upd st1 id (some blk')) ∧ Adv w m φ (w.setRow b cs) m (updP φ id (b, ⟨n.len, fun f => n.own f ∨ O f⟩)) := by
  have hi1 : Inv w m φ st1 := h.forget fun id blk e => (ha.less id blk e).1
  have hoth : ∀ x, x ≠ b → (w.setRow b cs).heap[x]? = w.heap[x]? := fun x hx => setRow_other w b x cs hx
  have hown := (blk_own hi1 he hs).1
  have hp : PLe φ (updP φ id (b, ⟨n.len, fun f => n.own f ∨ O f⟩)) := by
    intro j r n' e
    by_cases hj : j = id
    · subst hj
      rw [he] at e; injection e with e; injection e with e1 e2; subst e1; subst e2
      exact ⟨_, updP_same _ _ _, rfl, fun f hf => .inl hf⟩
    · exact ⟨n', by rw [updP_ne hj]; exact e, rfl, fun _ h => h⟩
  have hdis : ∀ j blk1, j ≠ id → st1 j = some blk1 → ∀ r n', φ j = some (r, n') → ∀ f, n'.own f → ¬ (n.own f ∨ O f) := by
    intro j blk1 hj hb1 r n' e f hf hh
    rcases hh with hh | hh
    · exact hj (hi1.inj _ _ _ _ _ _ _ _ _ hb1 hs e he hf hh)
    · exact (ha.less j blk1 hb1).2 r n' e f hf hh
  refine ⟨⟨?_, ?_, ?_, ?_⟩, ⟨by simp, rfl, rfl, rfl, fun x _ hn => hoth x fun e => hn id b n he (by rw [e]; exact hown.1), .refl _, fun _ _ _ _ => rfl, hp, ?_⟩⟩
  · intro x o v e
    have : x ≠ b := fun e' => by subst e'; rw [hm o] at e; cases e
    rw [cell_of_heap (hoth x this)]
    exact h.mem x o v e
  · intro j blk1 hj
    unfold upd at hj
    split at hj
    · rename_i e; subst e; injection hj with hj; subst hj
      refine ⟨b, _, updP_same _ _ _, ⟨.inl hown.1, fun f hf => ?_⟩, hb⟩
      rcases hf with hf | hf
      · simpa using hown.2 f hf
      · simpa using (ha.free f hf).2.1
    · rename_i hne
      obtain ⟨b', n', e', hlt, hok⟩ := hi1.live _ _ hj
      have : ∀ f, n'.own f → f ≠ b := fun f hf e => by subst e; exact hdis j blk1 hne hj b' n' e' f hf (.inl hown.1)
      exact ⟨b', n', by rw [updP_ne hne]; exact e', ⟨hlt.1, fun f hf => by simpa using hlt.2 f hf⟩, hok.mono hlt.1 (fun f hf => hoth f (this f hf)) (.refl _) hp fun _ _ _ => rfl⟩
  · intro i j x x' n1 n2 b1 b2 f hi hj h1 h2 o1 o2
    by_cases hii : i = id
    · by_cases hjj : j = id
      · rw [hii, hjj]
      · subst hii
        rw [updP_same] at h1; injection h1 with h1; injection h1 with e1 e2; subst e2
        obtain ⟨k1, k2⟩ := upd_key hjj hj h2
        exact absurd o1 (hdis j b2 hjj k1 x' n2 k2 f o2)
    · obtain ⟨k1, k2⟩ := upd_key hii hi h1
      by_cases hjj : j = id
      · subst hjj
        rw [updP_same] at h2; injection h2 with h2; injection h2 with e1 e2; subst e2
        exact absurd o2 (hdis i b1 hii k1 x n1 k2 f o1)
      · obtain ⟨k3, k4⟩ := upd_key hjj hj h2
        exact hi1.inj i j x x' n1 n2 b1 b2 f k1 k3 k2 k4 o1 o2
  · intro i r n' f h1 ho
    by_cases hii : i = id
    · subst hii
      rw [updP_same] at h1; injection h1 with h1; injection h1 with e1 e2; subst e2
      rcases ho with ho | ho
      · simpa using hown.2 f ho
      · simpa using (ha.free f ho).2.1
    · rw [updP_ne hii] at h1
      simpa using hi1.low i r n' f h1 ho
  · intro i r n' f h1 ho
    by_cases hii : i = id
    · subst hii
      rw [updP_same] at h1; injection h1 with h1; injection h1 with e1 e2; subst e2
      rcases ho with ho | ho
      · exact .inr (Free.not he ho)
      · obtain ⟨_, _, id', b', n', blk', _, q2, q3⟩ := ha.free f ho
        exact .inr (Free.not q2 q3)
    · rw [updP_ne hii] at h1
      exact .inr (Free.not h1 ho)
theorem storeT_sound {t : TypeId} {a : AV} {av xv : Value} {xs : List AV} {st' : Store} (hi : Inv w m φ st) (ha : Rep m φ a av) (hxc : RepC m φ xs xv.cells.toList) (hxl : xs.length = xv.cells.size) (hs' : szOf C.P t = some xv.cells.size) (h4 : storeT xs st a = some st') :
    ∃ w' m' φ', (Instr.storeAt t av xv).run C.P w = .ok () w' ∧ Inv w' m' φ' st' ∧ Adv w m φ w' m' φ' ∧ ∀ id, φ' id ≠ none → φ id ≠ none := by
  unfold storeT at h4
  split at h4
  · rename_i id off
    obtain ⟨w', m', k1, k2, k3⟩ := storeAt_sound (C := C) hi ha hxc hxl hs' (show storeAt xs st (.own id off) = some st' from h4)
    exact ⟨w', m', φ, k1, k2, k3, fun _ h => h⟩
  · rename_i id k ix off
    cases ha with
    | @ownE _ _ _ _ b n' e =>
      obtain ⟨p, h5, h6⟩ := bnd_eq.1 h4
      obtain ⟨F, O, hab⟩ := absL_sound hi hxc (show absL st xs = some (p.1, p.2) from h5)
      have hi1 : Inv w m φ p.2 := hi.forget fun id blk e => (hab.less id blk e).1
      have hpl := hab.cells.length
      simp only [Array.length_toList] at hpl
      have hids : ∀ j, updP φ id (b, ⟨n'.len, fun f => n'.own f ∨ O f⟩) j ≠ none → φ j ≠ none := by
        intro j hj
        by_cases e' : j = id
        · subst e'; rw [e]; simp
        · rwa [updP_ne e'] at hj
      cases hst : p.2 id with
      | none => rw [hst] at h6; simp [storeTE] at h6
      | some blk =>
        rw [hst] at h6
        obtain ⟨hb, hok⟩ := blk_own hi1 e hst
        -- the rows behind a store
        have rows : ∀ {es : List (List IV)} {ec : List IV} {vs : List Value}, w.heap[b]? = w.heap[b]? → (∀ e ∈ es, e.length = k) → k * es.length ≤ vs.length → es[ix]? = some ec → off + p.1.length ≤ ec.length →
            (∀ d ∈ es.set ix (ec.take off ++ p.1 ++ ec.drop (off + p.1.length)), d.length = k) ∧
            (es.set ix (ec.take off ++ p.1 ++ ec.drop (off + p.1.length))).flatten = es.flatten.take (k * ix + off) ++ p.1 ++ es.flatten.drop (k * ix + off + p.1.length) ∧
            (vs.take (k * ix + off) ++ xv.cells.toList ++ vs.drop (k * ix + off + xv.cells.size)).take (k * es.length) = (vs.take (k * es.length)).take (k * ix + off) ++ xv.cells.toList ++ (vs.take (k * es.length)).drop (k * ix + off + xv.cells.size) ∧ k * ix + off + xv.cells.size ≤ k * es.length := by
          intro es ec vs _ hw1 hfit h9 h13
          have hixl : ix < es.length := (List.getElem?_eq_some_iff.1 h9).1
          have hel : ec.length = k := hw1 ec (List.mem_of_getElem? h9)
          have hmul : k * ix + k ≤ k * es.length := by
            have := Nat.mul_le_mul_left k (show ix + 1 ≤ es.length by omega)
            rwa [Nat.mul_add, Nat.mul_one] at this
          have hfl := flatten_at hw1 h9
          have hfll := flatten_length hw1
          refine ⟨fun d hd => ?_, ?_, ?_, by omega⟩
          · rcases List.mem_or_eq_of_mem_set hd with hd | hd
            · exact hw1 d hd
            · subst hd; simp; omega
          · rw [set_flatten hw1 (by simp; omega) hixl]
            have e1 : (ec.take off ++ p.1 ++ ec.drop (off + p.1.length)).length = k := by simp; omega
            rw [e1]
            have e2 : es.flatten.take (k * ix + off) = es.flatten.take (k * ix) ++ ec.take off := by
              rw [← hfl, List.take_take, Nat.min_eq_left (by omega), List.take_add]
            have e3 : es.flatten.drop (k * ix + off + p.1.length) = ec.drop (off + p.1.length) ++ es.flatten.drop (k * ix + k) := by
              rw [← hfl, List.drop_take]
              rw [List.drop_drop]
              have : es.flatten.drop (k * ix + k) = (es.flatten.drop (k * ix + (off + p.1.length))).drop (k - (off + p.1.length)) := by
                rw [List.drop_drop]; congr 1; omega
              rw [this, List.take_append_drop, Nat.add_assoc]
            rw [e2, e3]
            simp
          · have a1 : (vs.take (k * ix + off) ++ xv.cells.toList).length = k * ix + off + xv.cells.size := by simp; omega
            rw [List.take_append, a1, List.take_of_length_le (by rw [a1]; omega), List.drop_take, List.take_take, Nat.min_eq_left (by omega)]
        -- what was absorbed lies beside the block
        have hbO : ¬ O b := fun h => (hab.less id blk hst).2 b n' e b hb.1 h
        have treOk : ∀ {es : List (List IV)} {vs : List Value} {T : TypeId} {F0 : List Nat} {ec : List IV}, w.heap[b]? = some (.cells vs.toArray T (0, 0)) → vs.length = n'.len → 0 < k → (∀ e ∈ es, e.length = k) → TCells w es.flatten (vs.take (k * es.length)) F0 → k * es.length ≤ n'.len → (b :: F0).Nodup → (∀ f ∈ F0, n'.own f) → (∀ f, n'.own f → ∀ o, m f o = none) → es[ix]? = some ec → off + p.1.length ≤ ec.length →
            ∃ w', (Instr.storeAt t (.pointer (some ⟨b, k * ix + off, none⟩)) xv).run C.P w = .ok () w' ∧ Inv w' m (updP φ id (b, ⟨n'.len, fun f => n'.own f ∨ O f⟩)) (upd p.2 id (some (.tre k (es.set ix (ec.take off ++ p.1 ++ ec.drop (off + p.1.length)))))) ∧ Adv w m φ w' m (updP φ id (b, ⟨n'.len, fun f => n'.own f ∨ O f⟩)) := by
          intro es vs T F0 ec hh hl hpos hw1 hc hfit hnd hF0 hm h9 h13
          obtain ⟨r1, r2, r3, r4⟩ := rows (vs := vs) rfl hw1 (by omega) h9 h13
          have hrun := storeVar_run (P := C.P) (off := k * ix + off) hs' hh (by omega) hab.cells.one
          obtain ⟨F1, F2, hF, t1, t2⟩ := hc.split (k * ix + off)
          obtain ⟨F3, F4, hF', t3, t4⟩ := t2.split p.1.length
          rw [List.drop_drop, List.drop_drop] at t4
          have hsub : ∀ f, f ∈ F1 ++ F4 → f ∈ F0 := by
            intro f hf; rw [hF, hF']
            rcases List.mem_append.1 hf with hf | hf
            · simp [hf]
            · simp [hf]
          have hFO : ∀ f ∈ F0, ¬ O f := fun f hf h => (hab.less id blk hst).2 b n' e f (hF0 f hf) h
          have hblk : BlkOk (w.setRow b (vs.take (k * ix + off) ++ xv.cells.toList ++ vs.drop (k * ix + off + xv.cells.size)).toArray) m (updP φ id (b, ⟨n'.len, fun f => n'.own f ∨ O f⟩)) b ⟨n'.len, fun f => n'.own f ∨ O f⟩ (.tre k (es.set ix (ec.take off ++ p.1 ++ ec.drop (off + p.1.length)))) := by
            refine .tre (T := T) (F := F1 ++ F ++ F4) (setRow_heap w b _ _ T (0, 0) hh) (by simp; omega) hpos r1 ?_ (by rw [List.length_set]; exact hfit) ?_ ?_ ?_
            · rw [r2, List.length_set, r3, ← hpl]
              refine ((t1.append hab.cells).append t4).mono fun f hf => ?_
              refine setRow_other w b f _ fun e' => ?_
              subst e'
              simp only [List.mem_append] at hf
              rcases hf with (hf | hf) | hf
              · exact (List.nodup_cons.1 hnd).1 (hsub f (by simp [hf]))
              · exact hbO (hab.own f hf)
              · exact (List.nodup_cons.1 hnd).1 (hsub f (by simp [hf]))
            · rw [List.nodup_cons]
              have hnd0 := (List.nodup_cons.1 hnd).2
              rw [hF, hF'] at hnd0
              have hn1 := List.nodup_append.1 hnd0
              have hn2 := List.nodup_append.1 hn1.2.1
              refine ⟨fun hf => ?_, ?_⟩
              · simp only [List.mem_append] at hf
                rcases hf with (hf | hf) | hf
                · exact (List.nodup_cons.1 hnd).1 (hsub b (by simp [hf]))
                · exact hbO (hab.own b hf)
                · exact (List.nodup_cons.1 hnd).1 (hsub b (by simp [hf]))
              · rw [List.nodup_append, List.nodup_append]
                refine ⟨⟨hn1.1, hab.nodup, fun x hx y hy e' => ?_⟩, hn2.2.1, fun x hx y hy e' => ?_⟩
                · subst e'; exact hFO x (hsub x (by simp [hx])) (hab.own x hy)
                · subst e'
                  rcases List.mem_append.1 hx with hx | hx
                  · exact hn1.2.2 x hx x (by simp [hy]) rfl
                  · exact hFO x (hsub x (by simp [hy])) (hab.own x hx)
            · intro f hf
              simp only [List.mem_append] at hf
              rcases hf with (hf | hf) | hf
              · exact .inl (hF0 f (hsub f (by simp [hf])))
              · exact .inr (hab.own f hf)
              · exact .inl (hF0 f (hsub f (by simp [hf])))
            · intro f hf o
              rcases hf with hf | hf
              · exact hm f hf o
              · exact (hab.free f hf).1 o
          obtain ⟨k1, k2⟩ := hi.grow hab hst e (hm b hb.1) _ hblk
          exact ⟨_, by simp only [Instr.storeAt, Instr.sureAddr, Sem.run_bind, Sem.run_pure, Result.andThen_ok]; exact hrun, k1, k2⟩
        cases hok with
        | box => simp [storeTE] at h6
        | frz => simp [storeTE] at h6
        | fbox => simp [storeTE] at h6
        | loop => simp [storeTE] at h6
        | @arr T k' es vs hh hl hpos hw1 hcc hfit hm hown1 hone =>
          simp only [storeTE] at h6
          obtain ⟨h7, h8⟩ := tst_eq.1 h6
          have h7 := of_decide_eq_true h7
          subst h7
          obtain ⟨ec, h9, h10⟩ := bnd_eq.1 h8
          rw [nthE_eq] at h9
          obtain ⟨e', h11, h12⟩ := bnd_eq.1 h10
          obtain ⟨rfl, h13⟩ := splice_eq _ _ _ _ h11
          unfold treArr at h12
          split at h12
          · rename_i hlit
            injection h12 with h12; subst h12
            obtain ⟨r1, r2, r3, r4⟩ := rows (vs := vs) rfl hw1 (by omega) h9 h13
            have hrun := storeVar_run (P := C.P) (off := k' * ix + off) hs' hh (by omega) hab.cells.one
            have hblk : BlkOk (w.setRow b (vs.take (k' * ix + off) ++ xv.cells.toList ++ vs.drop (k' * ix + off + xv.cells.size)).toArray) m φ b n' (.arr k' (es.set ix (ec.take off ++ p.1 ++ ec.drop (off + p.1.length)))) := by
              refine .arr (T := T) (setRow_heap w b _ _ T (0, 0) hh) (by simp; omega) hpos r1 ?_ (by rw [List.length_set]; exact hfit) hm hown1 (fun v hv => by
            rcases List.mem_append.1 hv with hv | hv
            · rcases List.mem_append.1 hv with hv | hv
              · exact hone v (List.mem_of_mem_take hv)
              · exact hab.cells.one v hv
            · exact hone v (List.mem_of_mem_drop hv))
              rw [r2, List.length_set, r3, ← hpl]
              exact ((hcc.take _).append (lits_I hlit hab.cells)).append (hcc.drop _)
            obtain ⟨k1, k2⟩ := hi1.set hst e hm _ hblk
            exact ⟨_, m, φ, by simp only [Instr.storeAt, Instr.sureAddr, Sem.run_bind, Sem.run_pure, Result.andThen_ok]; exact hrun, k1, k2, fun _ h => h⟩
          · obtain ⟨h14, h15⟩ := tst_eq.1 h12
            injection h15 with h15; subst h15
            obtain ⟨w', z1, z2, z3⟩ := treOk hh hl hpos hw1 (bare_T (bareLL_flatten h14) hcc) hfit (by simp) (by simp) (fun f hf => by rw [hown1 f hf]; exact hm) h9 h13
            exact ⟨w', m, _, z1, z2, z3, hids⟩
        | @tre T k' es vs F0 hh hl hpos hw1 hc hfit hnd hF0 hm =>
          simp only [storeTE] at h6
          obtain ⟨h7, h8⟩ := tst_eq.1 h6
          have h7 := of_decide_eq_true h7
          subst h7
          obtain ⟨ec, h9, h10⟩ := bnd_eq.1 h8
          rw [nthE_eq] at h9
          obtain ⟨e', h11, h12⟩ := bnd_eq.1 h10
          obtain ⟨rfl, h13⟩ := splice_eq _ _ _ _ h11
          injection h12 with h12; subst h12
          obtain ⟨w', z1, z2, z3⟩ := treOk hh hl hpos hw1 hc hfit hnd hF0 hm h9 h13
          exact ⟨w', m, _, z1, z2, z3, hids⟩
  · cases h4
theorem storeA_sound {t : TypeId} {a x : AV} {av xv : Value} {st' : Store} (hi : Inv w m φ st) (ha : Rep m φ a av) (hx : Rep m φ x xv) (h : storeA C t a x st = some st') :
    ∃ w' m' φ', (Instr.storeAt t av xv).run C.P w = .ok () w' ∧ Inv w' m' φ' st' ∧ Adv w m φ w' m' φ' ∧ ∀ id, φ' id ≠ none → φ id ≠ none := by
  unfold storeA at h
  obtain ⟨n, hs, h1⟩ := bnd_eq.1 h
  obtain ⟨xs, hc, h2⟩ := bnd_eq.1 h1
  obtain ⟨h3, h4⟩ := tst_eq.1 h2
  have hn := of_decide_eq_true h3
  subst hn
  have hxc := cellsOf_rep hc hx
  have hxl := hxc.length
  simp only [Array.length_toList] at hxl
  have hs' : szOf C.P t = some xv.cells.size := by rw [hs, hxl]
  unfold storeAny at h4
  split at h4
  · obtain ⟨w', m', k1, k2, k3⟩ := storeAt_sound hi ha hxc hxl hs' h4
    exact ⟨w', m', φ, k1, k2, k3, fun _ h => h⟩
  · exact storeT_sound hi ha hxc hxl hs' h4

theorem copy_sound {t u ty : TypeId} {d x v : AV} {dv xv : Value} {st' : Store} {nb : Nat} (hi : Inv w m φ st) (hd : Rep m φ d dv) (hx : Rep m φ x xv) (h : copyA C t d x st = some (v, st')) :
    ∃ y w', (Builtin.copy_ #[t, u] ty #[dv, xv]).run C.P w = .ok y w' ∧ Out w m φ nb v st' y w' := by
  unfold copyA at h
  obtain ⟨e, he, h1⟩ := bnd_eq.1 h
  obtain ⟨k, hk, h2⟩ := bnd_eq.1 h1
  obtain ⟨h3, h4⟩ := tst_eq.1 h2
  have hk0 := of_decide_eq_true h3
  obtain ⟨src, hn, h5⟩ := bnd_eq.1 h4
  have ht := und_slice he
  obtain ⟨cs, hrr⟩ := elems_read (P := C.P) hi hx hn
  have hr := hrr w rfl
  have hcl := hr.cells.length
  rw [flatten_length hr.width] at hcl
  unfold copyTo at h5
  cases hd with
  | junk => simp at h5
  | i => simp at h5
  | own => simp at h5
  | ownE => simp at h5
  | agg => simp at h5
  | tup => simp at h5
  | fn => simp at h5
  | yld => simp at h5
  | ydead => simp at h5
  | nils =>
    simp only [Option.some.injEq, Prod.mk.injEq] at h5
    obtain ⟨rfl, rfl⟩ := h5
    have hf := hr.first 0 (Nat.zero_le _)
    refine ⟨_, w, ?_, Out.same hi (.i (.lit _))⟩
    simp [Builtin.copy_, goInt, hr.len, hf, run_und ht, run_size hk]
  | @osl id k' off len cap b n ao eφ hlc hcap ha1 ha2 =>
    simp only at h5
    cases hst : st id with
    | none => rw [hst] at h5; simp [copyOsl] at h5
    | some blk =>
      rw [hst] at h5
      obtain ⟨hbl, hok⟩ := blk_at hi eφ hst
      cases hok with
      | box => simp [copyOsl] at h5
      | fbox => simp [copyOsl] at h5
      | frz => simp [copyOsl] at h5
      | tre => simp [copyOsl] at h5
      | loop => simp [copyOsl] at h5
      | @arr T k'' es vs hh hl hpos hw1 hc hfit hm hown1 hone =>
        simp only [copyOsl] at h5
        obtain ⟨h8, h9⟩ := tst_eq.1 h5
        obtain ⟨rfl, rfl, hle⟩ := of_decide_eq_true h8
        simp only [Option.some.injEq, Prod.mk.injEq] at h9
        obtain ⟨rfl, rfl⟩ := h9
        have hmn : Nat.min src.length len = min src.length len := rfl
        have hf := hr.first (min src.length len) (Nat.min_le_left _ _)
        have htl : (src.take len).length = min src.length len := by simp; omega
        have hnews : ICells m (src.take len).flatten (cs.take (min src.length len * k'')) := by
          rw [take_flatten len src hr.width]
          have := hr.cells.take (k'' * len)
          by_cases hc1 : len ≤ src.length
          · rw [Nat.min_eq_right hc1, Nat.mul_comm len]; exact this
          · rw [Nat.min_eq_left (by omega), List.take_of_length_le (l := cs) (by rw [← hcl, Nat.mul_comm]; exact Nat.le_refl _)]
            rw [List.take_of_length_le (l := cs) (by rw [← hcl]; exact Nat.mul_le_mul_left _ (by omega))] at this
            exact this
        have hnl : (cs.take (min src.length len * k'')).length = k'' * min src.length len := by
          rw [List.length_take, ← hcl, Nat.mul_comm]; exact Nat.min_eq_left (Nat.mul_le_mul_left _ (Nat.min_le_left _ _))
        have hwn : ∀ d ∈ over es off (src.take len), d.length = k'' := fun d hd => by
          unfold over at hd
          simp only [List.mem_append] at hd
          rcases hd with (hd | hd) | hd
          · exact hw1 d (List.mem_of_mem_take hd)
          · exact hr.width d (List.mem_of_mem_take hd)
          · exact hw1 d (List.mem_of_mem_drop hd)
        have hol : (over es off (src.take len)).length = es.length := by unfold over; simp; omega
        have hkoff : k'' * off + k'' * min src.length len ≤ k'' * es.length := by
          rw [← Nat.mul_add]; exact Nat.mul_le_mul_left _ (by omega)
        have hflat : (over es off (src.take len)).flatten = es.flatten.take (k'' * off) ++ (src.take len).flatten ++ es.flatten.drop (k'' * off + (src.take len).flatten.length) := by
          unfold over
          have g1 : ∀ (n : Nat) (l : List (List IV)), (∀ e ∈ l, e.length = k'') → (l.drop n).flatten = l.flatten.drop (k'' * n) := by
            intro n
            induction n with
            | zero => intro l _; simp
            | succ n ih =>
              intro l hl
              cases l with
              | nil => simp
              | cons e l =>
                have he := hl e (by simp)
                simp only [List.drop_succ_cons, List.flatten_cons]
                rw [ih l (fun e he => hl e (by simp [he])), List.drop_append, show k'' * (n + 1) = e.length + k'' * n by rw [he, Nat.mul_add]; omega]
                simp
          rw [List.flatten_append, List.flatten_append, take_flatten off es hw1, g1 _ es hw1, flatten_length (fun e he => hr.width e (List.mem_of_mem_take he)), Nat.mul_add]
        have hsl : (src.take len).flatten.length = k'' * min src.length len := by rw [flatten_length (fun e he => hr.width e (List.mem_of_mem_take he)), htl]
        by_cases hc0 : cap = 0
        · have hl0 : len = 0 := by omega
          subst hl0
          have hov : over es off (src.take 0) = es := by unfold over; simp
          rw [hov]
          have hmin : Nat.min src.length 0 = 0 := Nat.min_zero _
          have hf0 := hr.first 0 (Nat.zero_le _)
          refine ⟨goInt 0, w, ?_, ?_⟩
          · cases ao with
            | none => simp [Builtin.copy_, run_und ht, run_size hk, hr.len, hf0]
            | some a => simp [Builtin.copy_, run_und ht, run_size hk, hr.len, hf0, storeCells]
          · have : upd st id (some (Blk.arr k'' es)) = st := by
              funext j; unfold upd; split
              · rename_i e; subst e; exact hst.symm
              · rfl
            rw [this]
            have h0 : ((min src.length 0 : Nat) : Int) = 0 := by simp
            rw [h0]
            exact Out.same hi (.i (.lit _))
        · have hao := ha1 hc0
          subst hao
          have hstore := run_storeCells_at C.P b (k'' * off) T (cs.take (min src.length len * k'')) 0 vs.toArray w hh (by simp only [List.size_toArray]; rw [hnl]; omega) hnews.one
          simp only [Nat.add_zero] at hstore
          have hvl : (vs.take (k'' * off) ++ cs.take (min src.length len * k'') ++ vs.drop (k'' * off + (cs.take (min src.length len * k'')).length)).length = n.len := by
            rw [List.length_append, List.length_append, hnl, List.length_take, List.length_drop]; omega
          have hblk : BlkOk (w.setRow b (vs.take (k'' * off) ++ cs.take (min src.length len * k'') ++ vs.drop (k'' * off + (cs.take (min src.length len * k'')).length)).toArray) m φ b n (.arr k'' (over es off (src.take len))) := by
            refine .arr (T := T) (setRow_heap w b _ _ T (0, 0) hh) hvl hk0 hwn ?_ (by rw [hol]; exact hfit) hm hown1 (fun v hv => by
            rcases List.mem_append.1 hv with hv | hv
            · rcases List.mem_append.1 hv with hv | hv
              · exact hone v (List.mem_of_mem_take hv)
              · exact hnews.one v hv
            · exact hone v (List.mem_of_mem_drop hv))
            rw [hol, hflat, hsl]
            have e4 : (vs.take (k'' * off) ++ cs.take (min src.length len * k'') ++ vs.drop (k'' * off + (cs.take (min src.length len * k'')).length)).take (k'' * es.length) =
                (vs.take (k'' * es.length)).take (k'' * off) ++ cs.take (min src.length len * k'') ++ (vs.take (k'' * es.length)).drop (k'' * off + k'' * min src.length len) := by
              have a1 : (vs.take (k'' * off) ++ cs.take (min src.length len * k'')).length = k'' * off + k'' * min src.length len := by rw [List.length_append, hnl, List.length_take]; omega
              have a2 : (vs.take (k'' * off) ++ cs.take (min src.length len * k'')).length ≤ k'' * es.length := by rw [a1]; exact hkoff
              have a3 : k'' * off ≤ k'' * es.length := by omega
              rw [List.take_append, List.take_of_length_le a2, a1, hnl, List.drop_take, List.take_take, Nat.min_eq_left a3]
            rw [e4]
            exact ((hc.take _).append hnews).append (hc.drop _)
          obtain ⟨k1, k2⟩ := hi.set hst eφ hm _ hblk
          refine ⟨goInt (min src.length len : Nat), _, ?_, m, φ, .i (.lit _), k1, k2, fun _ h => .inl h⟩
          simp [Builtin.copy_, run_und ht, run_size hk, hr.len, hmn, hf, hstore]
end
end Go.Av

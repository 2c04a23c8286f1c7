/- Part 1 of what the proof rests on: the executor and what it is worth, and the program's functions as it runs them. No condition. -/
import Derived.Test.YtgpclhjdfdojhaaT0
import Derived.Laws.Append
import Derived.Laws.MakeOwn
import Derived.Laws.StructEq
set_option linter.unusedVariables false
set_option linter.unusedSimpArgs false
/- The builtins append, copy, make over abstract slices. No condition. -/
namespace Go.Av

theorem Inv.drew {w : World} {m : Mem} {φ : Pl} {st : Store} (h : Inv w m φ st) : Inv w.drew m φ st :=
  ⟨fun b o v e => h.mem b o v e, fun id blk e => by
    obtain ⟨b, n, e1, hb, hok⟩ := h.live id blk e
    exact ⟨b, n, e1, hb, hok.mono (w' := w.drew) rfl (.refl _) (.refl _) fun _ => rfl⟩, h.inj⟩
theorem Adv.drew (w : World) (m : Mem) (φ : Pl) : Adv w m φ w.drew m φ :=
  ⟨Nat.le_refl _, rfl, rfl, rfl, fun _ _ _ => rfl, .refl _, fun _ _ _ _ => rfl, .refl _, fun i b n h1 h2 => by rw [h1] at h2; cases h2⟩

theorem elems_cells {m : Mem} {b k : Nat} : ∀ {off : Nat} {es : List (List IV)}, IElems m b off k es → ∃ cs, ICells m es.flatten cs ∧ ∀ j v, cs[j]? = some v → m b (off + j) = some v
  | _, _, .nil _ _ _ => ⟨[], .nil, by simp⟩
  | off, _, .cons (cs := e) a hl r => by
    obtain ⟨us, h1, h2⟩ := a.cells
    obtain ⟨cs, h3, h4⟩ := elems_cells r
    refine ⟨us ++ cs, by simpa using h1.append h3, fun j v hj => ?_⟩
    have hul : us.length = k := by have := h1.length; omega
    by_cases hlt : j < us.length
    · rw [List.getElem?_append_left hlt] at hj; exact h2 j v hj
    · rw [List.getElem?_append_right (by omega)] at hj
      have := h4 _ v hj
      rw [← this]; congr 1; omega
theorem bytesI_len : ∀ (l : List UInt8), (bytesI l).length = l.length
  | [] => rfl
  | _ :: l => by simp [bytesI, bytesI_len l]
theorem bytesI_cells (m : Mem) : ∀ (l : List UInt8), ICells m (bytesI l).flatten (l.map fun b => .int .u8 b.toNat)
  | [] => .nil
  | b :: l => by simpa [bytesI] using ICells.cons (.lit _) rfl (bytesI_cells m l)
theorem bytesI_width : ∀ (l : List UInt8), ∀ e ∈ bytesI l, e.length = 1
  | [] => by simp [bytesI]
  | b :: l => by
    intro e he
    rcases List.mem_cons.1 he with rfl | he
    · rfl
    · exact bytesI_width l e he
theorem widths_eq {k : Nat} {es : List (List IV)} (h : widths k es = true) : ∀ e ∈ es, e.length = k := fun e he => by
  have := List.all_eq_true.1 h e he
  simpa using this

section
variable {P : Program} {w : World} {m : Mem} {φ : Pl} {st : Store}
/-- What is read of a slice whose elements are known. -/
structure Reads (P : Program) (w : World) (m : Mem) (k : Nat) (es : List (List IV)) (x : Value) (cs : List Value) : Prop where
  len : (Builtin.lenOf x).run P w = .ok es.length w
  first : ∀ n, n ≤ es.length → (Builtin.firstCells k n x).run P w = .ok (cs.take (n * k)).toArray w
  cells : ICells m es.flatten cs
  width : ∀ e ∈ es, e.length = k
theorem cell_heap {w w' : World} (h : w'.heap = w.heap) (a : Addr) : w'.cell? a = w.cell? a := by simp [World.cell?, h]
theorem reads_mem {b off k : Nat} {es : List (List IV)} {cap : Nat} (hw : MemOk w m) (he : IElems m b off k es) : ∃ cs, ∀ w', w'.heap = w.heap → Reads P w' m k es (.slice (some ⟨b, off, none⟩) es.length cap) cs := by
  obtain ⟨cs, h1, h2⟩ := elems_cells he
  have hwid := elems_len he
  have hl := h1.length
  rw [flatten_length hwid] at hl
  refine ⟨cs, fun w' hw' => ⟨rfl, fun n hn => ?_, h1, hwid⟩⟩
  have hnk : n * k ≤ cs.length := by rw [← hl, Nat.mul_comm]; exact Nat.mul_le_mul_left _ hn
  have := run_loadCells_list (P := P) w' ⟨b, off, none⟩ (cs.take (n * k)) (fun j v hj => by
    rw [Addr.add_none, cell_heap hw']
    apply hw
    apply h2
    rw [List.getElem?_take] at hj
    split at hj
    · exact hj
    · cases hj)
  rw [List.length_take, Nat.min_eq_left hnk] at this
  exact this
theorem reads_empty (P : Program) (w : World) (m : Mem) (k : Nat) (ao : Option Addr) (cap : Nat) : Reads P w m k [] (.slice ao 0 cap) [] := by
  refine ⟨rfl, fun n hn => ?_, .nil, by simp⟩
  have : n = 0 := by simpa using hn
  subst this
  cases ao with
  | none => simp [Builtin.firstCells]
  | some a => simp [Builtin.firstCells, loadCells, loadCellsFrom]
theorem elems_read {k : Nat} {a : AV} {x : Value} {es : List (List IV)} (hi : Inv w m φ st) (hr : Rep m φ a x) (h : elemsOf st k a = some es) : ∃ cs, ∀ w', w'.heap = w.heap → Reads P w' m k es x cs := by
  cases hr with
  | junk => simp [elemsOf] at h
  | own => simp [elemsOf] at h
  | ownE => simp [elemsOf] at h
  | agg => simp [elemsOf] at h
  | tup => simp [elemsOf] at h
  | fn => simp [elemsOf] at h
  | nils => simp [elemsOf] at h; subst h; exact ⟨[], fun w' _ => reads_empty P w' m k none 0⟩
  | i hr =>
    cases hr with
    | agg => simp [elemsOf] at h
    | iref => simp [elemsOf] at h
    | isl0 ao cap hc =>
      simp only [elemsOf] at h
      obtain ⟨_, h⟩ := tst_eq.1 h
      injection h with h; subst h
      exact ⟨[], fun w' _ => reads_empty P w' m k ao cap⟩
    | @isl b off k' es' cap hne he hc =>
      simp only [elemsOf] at h
      obtain ⟨h0, h⟩ := tst_eq.1 h
      injection h with h; subst h
      have h1 := widths_eq h0
      have h2 := elems_len he
      cases es' with
      | nil => exact absurd rfl hne
      | cons e es =>
        have hk : k' = k := by rw [← h1 e (by simp), ← h2 e (by simp)]
        subst hk
        exact reads_mem hi.mem he
    | lit =>
      cases x <;> simp only [elemsOf] at h <;> try (cases h; done)
      rename_i s
      obtain ⟨h0, h⟩ := tst_eq.1 h
      injection h with h; subst h
      have hk : k = 1 := by simpa using h0
      subst hk
      refine ⟨s.data.toList.map fun b => .int .u8 b.toNat, fun w' _ => ⟨?_, ?_, bytesI_cells m _, bytesI_width _⟩⟩
      · show Result.ok s.size w' = Result.ok (bytesI s.data.toList).length w'
        rw [bytesI_len]; rfl
      · intro n hn
        rw [bytesI_len] at hn
        simp only [Builtin.firstCells, Sem.run_pure, Nat.mul_one]
        congr 1
        apply Array.ext'
        simp [ByteArray.data_extract]
  | @osl id k' off len cap b n ao e hlc hcap ha1 ha2 =>
    simp only [elemsOf] at h
    cases hst : st id with
    | none => rw [hst] at h; simp [elemsSl] at h
    | some blk =>
      rw [hst] at h
      obtain ⟨hb, hok⟩ := blk_at hi e hst
      have fin : ∀ (es0 : List (List IV)), off + len ≤ es0.length → es = window es0 off len → (∃ cs : List Value, ICells m es0.flatten cs ∧ (∀ e ∈ es0, e.length = k) ∧ ∀ j v, cs[j]? = some v → w.cell? ⟨b, j, none⟩ = some v) →
          k' = k → ∃ cs, ∀ w', w'.heap = w.heap → Reads P w' m k es (.slice ao len cap) cs := by
        intro es0 hle hes ⟨cs, h1, h2, h3⟩ hk
        subst hes; subst hk
        have hwl : (window es0 off len).length = len := by simp [window]; omega
        have hww : ∀ e ∈ window es0 off len, e.length = k' := fun e he => h2 e (List.mem_of_mem_drop (List.mem_of_mem_take he))
        by_cases hc0 : len = 0
        · subst hc0
          have : window es0 off 0 = [] := by simp [window]
          rw [this]
          exact ⟨[], fun w' _ => reads_empty P w' m k' ao cap⟩
        · have := ha1 (by omega)
          subst this
          have hflat : (window es0 off len).flatten = (es0.flatten.drop (k' * off)).take (k' * len) := by
            have g1 : ∀ (n : Nat) (l : List (List IV)), (∀ e ∈ l, e.length = k') → (l.drop n).flatten = l.flatten.drop (k' * n) := by
              intro n
              induction n with
              | zero => intro l _; simp
              | succ n ih =>
                intro l hl
                cases l with
                | nil => simp
                | cons e l =>
                  have he := hl e (by simp)
                  simp only [List.drop_succ_cons, List.flatten_cons]
                  rw [ih l (fun e he => hl e (by simp [he])), List.drop_append, show k' * (n + 1) = e.length + k' * n by rw [he, Nat.mul_add]; omega]
                  simp
            have g2 : ∀ (n : Nat) (l : List (List IV)), (∀ e ∈ l, e.length = k') → (l.take n).flatten = l.flatten.take (k' * n) := by
              intro n
              induction n with
              | zero => intro l _; simp
              | succ n ih =>
                intro l hl
                cases l with
                | nil => simp
                | cons e l =>
                  have he := hl e (by simp)
                  simp only [List.take_succ_cons, List.flatten_cons]
                  rw [ih l (fun e he => hl e (by simp [he])), List.take_append, show k' * (n + 1) = e.length + k' * n by rw [he, Nat.mul_add]; omega]
                  rw [List.take_of_length_le (by omega : e.length ≤ e.length + k' * n)]
                  simp
            unfold window
            rw [g2 len _ (fun e he => h2 e (List.mem_of_mem_drop he)), g1 off es0 h2]
          have hcl := h1.length
          rw [flatten_length h2] at hcl
          refine ⟨(cs.drop (k' * off)).take (k' * len), fun w' hw' => ⟨by rw [hwl]; rfl, fun j hj => ?_, by rw [hflat]; exact (h1.drop _).take _, hww⟩⟩
          rw [hwl] at hj
          have hjk : j * k' ≤ k' * len := by rw [Nat.mul_comm j]; exact Nat.mul_le_mul_left _ hj
          have hall : k' * off + k' * len ≤ cs.length := by rw [← hcl, ← Nat.mul_add]; exact Nat.mul_le_mul_left _ hle
          have := run_loadCells_list (P := P) w' ⟨b, k' * off, none⟩ (((cs.drop (k' * off)).take (k' * len)).take (j * k')) (fun i v hi' => by
            rw [Addr.add_none, cell_heap hw']
            apply h3
            rw [List.getElem?_take] at hi'
            split at hi'
            · rw [List.getElem?_take] at hi'
              split at hi'
              · rw [List.getElem?_drop] at hi'; exact hi'
              · cases hi'
            · cases hi')
          rw [show ((((cs.drop (k' * off)).take (k' * len)).take (j * k'))).length = j * k' by simp; omega] at this
          exact this
      cases hok with
      | box => simp [elemsSl] at h
      | fbox => simp [elemsSl] at h
      | @arr T k'' es0 vs hh hl hpos hw1 hc hfit hm =>
        simp only [elemsSl] at h
        obtain ⟨h1, h2⟩ := tst_eq.1 h
        obtain ⟨h3, h4, h5⟩ := of_decide_eq_true h1
        injection h2 with h2
        subst h4
        refine fin es0 h5 h2.symm ⟨_, hc, hw1, fun j v hj => ?_⟩ h3
        rw [cell_row hh]
        rw [List.getElem?_take] at hj
        split at hj
        · exact hj
        · cases hj
      | @frz k'' es0 hpos he =>
        simp only [elemsSl] at h
        obtain ⟨h1, h2⟩ := tst_eq.1 h
        obtain ⟨h3, h4, h5⟩ := of_decide_eq_true h1
        injection h2 with h2
        subst h4
        obtain ⟨cs, h6, h7⟩ := elems_cells he
        refine fin es0 h5 h2.symm ⟨cs, h6, elems_len he, fun j v hj => ?_⟩ h3
        apply hi.mem
        have := h7 j v hj
        rwa [Nat.zero_add] at this
end
end Go.Av

/- append, copy and make over abstract slices are what the model does. No condition. -/
namespace Go.Av

theorem notInt_spec {P : Program} {u : TypeId} (h : notInt (descK P u) = true) : P.underlying u = some .string ∨ ∃ e, P.underlying u = some (.slice e) := by
  unfold descK at h
  cases hu : P.underlying u with
  | none => rw [hu] at h; simp [notInt] at h
  | some d => rw [hu] at h; cases d <;> first | (simp [notInt] at h; done) | exact .inl rfl | exact .inr ⟨_, rfl⟩
section
variable {P : Program} {w : World}
theorem append_room_run {t u ty e : TypeId} {k n len cap : Nat} {base : Option Addr} {xv : Value} {news : List Value} (ht : P.underlying t = some (.slice e)) (hu : notInt (descK P u) = true) (hs : szOf P e = some k)
    (hl : (Builtin.lenOf xv).run P w = .ok n w) (hf : (Builtin.firstCells k n xv).run P w = .ok news.toArray w) (hroom : len + n ≤ cap) (w' : World)
    (hst : match base with | some a => (storeCells (a.add (len * k)) news).run P w = .ok () w' | none => w' = w) :
    (Builtin.append_ #[t, u] ty #[.slice base len cap, xv]).run P w = .ok (.slice base (len + n) cap) w' := by
  cases base with
  | none =>
    simp only at hst; subst hst
    rcases notInt_spec hu with hd | ⟨e', hd⟩ <;> simp [Builtin.append_, run_und ht, run_und hd, run_size hs, hl, hf, hroom]
  | some a =>
    simp only at hst
    rcases notInt_spec hu with hd | ⟨e', hd⟩ <;> simp [Builtin.append_, run_und ht, run_und hd, run_size hs, hl, hf, hroom, hst]
theorem append_grow_run {t u ty e : TypeId} {k n len cap by_ : Nat} {base : Option Addr} {xv : Value} {olds news z : List Value} (ht : P.underlying t = some (.slice e)) (hu : notInt (descK P u) = true) (hs : szOf P e = some k)
    (hby : byOf P e = some by_) (hz : zeroOf P e = some z)
    (hl : (Builtin.lenOf xv).run P w = .ok n w)
    (hgrow : cap < len + n) (hpos : 0 < by_) (hbytes : (len + n) * by_ ≤ 140737488355328)
    (hf2 : (Builtin.firstCells k n xv).run P w.drew = .ok news.toArray w.drew) (ho2 : (Builtin.firstCells k len (.slice base len cap)).run P w.drew = .ok olds.toArray w.drew) :
    ∃ (cap' : Nat) (rest : List Value), len + n ≤ cap' ∧ rest.length = (cap' - (len + n)) * z.length ∧
      (Builtin.append_ #[t, u] ty #[.slice base len cap, xv]).run P w = .ok (.slice (some ⟨w.heap.size, 0, none⟩) (len + n) cap') (w.drew.alloc (.cells (olds ++ (news ++ rest)).toArray e)) := by
  obtain ⟨i, _, hi2, hi3⟩ := run_tinfo hby w
  have hi4 : ∀ w, (typeInfo e).run P w = .ok i w := fun w => by simp [typeInfo, hi3]
  have hzr : ∀ w, ∃ v, (zeroValue e).run P w = .ok v w ∧ v.cells.toList = z := run_zero hz
  obtain ⟨v, hv1, hv2⟩ := hzr w
  have hv3 : ∀ w, (zeroValue e).run P w = .ok v w := fun w' => by
    have hz := (zeroOf_eq hz).2
    rw [hi3] at hz
    cases hzz : i.zero with
    | none => simp [hzz] at hz
    | some u => 
      simp [zeroValue, typeInfo, hi3, hzz] at hv1 ⊢
      exact hv1
  subst hi2
  have hnot : ¬ len + n ≤ cap := by omega
  have hfit := growslice_fits (bytes := i.bytes) hgrow hbytes
  have hnb : ¬ (281474976710656 < Builtin.nextslicecap (len + n) cap * i.bytes) := by omega
  have hb0 : ¬ i.bytes = 0 := by omega
  let q := Question.appendCap (len + n) cap e
  refine ⟨q.cut (w.tape w.drawn q), (Builtin.zeroCells v.cells (q.cut (w.tape w.drawn q) - (len + n))).toList, ?_, ?_, ?_⟩
  · show len + n ≤ (len + n) + _; omega
  · rw [← hv2]; simp [Builtin.zeroCells]
  · rcases notInt_spec hu with hd | ⟨e', hd⟩ <;> simp [Builtin.append_, run_und ht, run_und hd, run_size hs, hl, hnot, hi4, hnb, hb0, hv3, newRow, Question.forced, hf2, ho2, q] <;> (congr 2; apply Array.ext'; simp)
end

/-- Every cell of a zero value is a cell. -/
def ZerosOk (P : Program) : Prop := ∀ t z, zeroOf P t = some z → ∀ v ∈ z, v.oneCell' = true
theorem window_take {es : List (List IV)} (len : Nat) : window es 0 len = es.take len := by simp [window]
theorem take_flatten {k : Nat} : ∀ (n : Nat) (l : List (List IV)), (∀ e ∈ l, e.length = k) → (l.take n).flatten = l.flatten.take (k * n)
  | 0, l, _ => by simp
  | n + 1, [], _ => by simp
  | n + 1, e :: l, h => by
    have he := h e (by simp)
    simp only [List.take_succ_cons, List.flatten_cons]
    rw [take_flatten n l (fun e he => h e (by simp [he])), List.take_append, show k * (n + 1) = e.length + k * n by rw [he, Nat.mul_add]; omega]
    rw [List.take_of_length_le (by omega : e.length ≤ e.length + k * n)]
    simp
section
variable {C : Ctx} {w : World} {m : Mem} {φ : Pl} {st : Store}
theorem append_sound {t u ty : TypeId} {s x v : AV} {sv xv : Value} {st' : Store} {nb : Nat} (hi : Inv w m φ st) (hs : Rep m φ s sv) (hx : Rep m φ x xv) (hf : ∀ id, nb ≤ id → id < nb + wide → φ id = none)
    (hu : notInt (descK C.P u) = true) (h : appA C t s x st nb = some (v, st')) : ∃ y w', (Builtin.append_ #[t, u] ty #[sv, xv]).run C.P w = .ok y w' ∧ Out w m φ nb v st' y w' := by
  have hnb := hf nb (Nat.le_refl _) (lt_wide nb)
  unfold appA at h
  obtain ⟨e, he, h1⟩ := bnd_eq.1 h
  obtain ⟨k, hk, h2⟩ := bnd_eq.1 h1
  obtain ⟨by_, hby, h3⟩ := bnd_eq.1 h2
  obtain ⟨z, hz, h4⟩ := bnd_eq.1 h3
  obtain ⟨h5, h6⟩ := tst_eq.1 h4
  obtain ⟨hk0, hb0, hzl⟩ := of_decide_eq_true h5
  obtain ⟨news, hn, h7⟩ := bnd_eq.1 h6
  have ht := und_slice he
  obtain ⟨cs, hrr⟩ := elems_read (P := C.P) hi hx hn
  have hr := hrr w rfl
  have hr2 := hrr w.drew rfl
  have hcl := hr.cells.length
  rw [flatten_length hr.width] at hcl
  have hle0 : cs.length ≤ news.length * k := by rw [← hcl, Nat.mul_comm]; exact Nat.le_refl _
  have hfirst := hr.first news.length (Nat.le_refl _)
  rw [List.take_of_length_le hle0] at hfirst
  have hlen := hr.len
  have hfirst2 := hr2.first news.length (Nat.le_refl _)
  rw [List.take_of_length_le hle0] at hfirst2
  unfold appTo at h7
  cases hs with
  | junk => simp at h7
  | i => simp at h7
  | own => simp at h7
  | ownE => simp at h7
  | agg => simp at h7
  | tup => simp at h7
  | fn => simp at h7
  | nils =>
    simp only at h7
    by_cases hempty : news = []
    · subst hempty
      simp only [List.isEmpty_nil, appNil, Option.some.injEq, Prod.mk.injEq] at h7
      obtain ⟨rfl, rfl⟩ := h7
      have hcl := List.eq_nil_of_length_eq_zero hcl.symm
      subst hcl
      refine ⟨_, w, append_room_run (n := 0) ht hu hk hlen hfirst (by omega) w rfl, ?_⟩
      exact Out.same hi .nils
    · have hie : news.isEmpty = false := by cases news <;> simp at hempty ⊢
      rw [hie] at h7
      simp only [appNil] at h7
      obtain ⟨h8, h9⟩ := tst_eq.1 h7
      have h8 := of_decide_eq_true h8
      simp only [Option.some.injEq, Prod.mk.injEq] at h9
      obtain ⟨rfl, rfl⟩ := h9
      have hpos : 0 < news.length := by cases news with | nil => exact absurd rfl hempty | cons => simp
      obtain ⟨cap', rest, hcap, hrest, hrun⟩ := append_grow_run (ty := ty) (len := 0) (cap := 0) (base := none) (olds := []) ht hu hk hby hz hlen (by omega) hb0 (by simpa using h8) hfirst2 (by simp [Builtin.firstCells])
      simp only [Nat.zero_add, List.nil_append] at hrun hcap hrest
      have hblk : BlkOk (w.drew.alloc (.cells (cs ++ rest).toArray e)) m (updP φ nb (w.drew.heap.size, (cs ++ rest).length)) w.drew.heap.size (cs ++ rest).length (.arr k news) := by
        refine .arr (T := e) (heap_push_new w.drew _) rfl hk0 hr.width ?_ ?_ ?_
        · rw [hcl, List.take_left]; exact hr.cells
        · rw [hcl]; simp
        · intro o
          cases hm : m w.drew.heap.size o with
          | none => rfl
          | some u => exact absurd (hi.mem.lt hm) (by show ¬ w.heap.size < w.heap.size; omega)
      obtain ⟨k1, k2⟩ := hi.drew.push hnb _ hblk
      refine ⟨_, _, hrun, m, _, .osl (updP_same _ _ _) hcap ?_ (fun _ => rfl) (fun h => by cases h), k1, (Adv.drew w m φ).trans k2, updP_ids (Nat.le_refl _) (lt_wide nb)⟩
      rw [List.length_append, ← hcl, hrest, hzl, Nat.zero_add, ← Nat.mul_comm k, ← Nat.mul_add]
      exact Nat.mul_le_mul_left _ (by omega)
  | @osl id k' off len cap b n ao eφ hlc hcap ha1 ha2 =>
    simp only at h7
    cases hst : st id with
    | none => rw [hst] at h7; simp [appOsl] at h7
    | some blk =>
      rw [hst] at h7
      obtain ⟨hbl, hok⟩ := blk_at hi eφ hst
      cases hok with
      | box => simp [appOsl] at h7
      | fbox => simp [appOsl] at h7
      | frz => simp [appOsl] at h7
      | @arr T k'' es vs hh hl hpos hw1 hc hfit hm =>
        simp only [appOsl] at h7
        obtain ⟨h8, h9⟩ := tst_eq.1 h7
        obtain ⟨rfl, rfl, rfl, hle, hbytes⟩ := of_decide_eq_true h8
        simp only [Option.some.injEq, Prod.mk.injEq] at h9
        obtain ⟨rfl, rfl⟩ := h9
        simp only [Nat.zero_add, Nat.mul_zero] at hcap ha1
        have hklen : k'' * len ≤ k'' * es.length := Nat.mul_le_mul_left _ hle
        have hwt : ∀ e ∈ es.take len, e.length = k'' := fun e he => hw1 e (List.mem_of_mem_take he)
        have hwn : ∀ e ∈ es.take len ++ news, e.length = k'' := fun e he => by
          rcases List.mem_append.1 he with he | he
          · exact hwt e he
          · exact hr.width e he
        have hcold : ICells m (es.take len).flatten (vs.take (k'' * len)) := by
          rw [take_flatten len es hw1]
          have := hc.take (k'' * len)
          rwa [List.take_take, Nat.min_eq_left hklen] at this
        have hnew : ICells m (es.take len ++ news).flatten (vs.take (k'' * len) ++ cs) := by
          rw [List.flatten_append]; exact hcold.append hr.cells
        have holdlen : (vs.take (k'' * len)).length = k'' * len := by simp; omega
        have htl : (es.take len ++ news).length = len + news.length := by simp; omega
        by_cases hroom : len + news.length ≤ cap
        · -- in place
          have hkr : k'' * (len + news.length) ≤ n := Nat.le_trans (Nat.mul_le_mul_left _ hroom) hcap
          have hkr' : k'' * len + cs.length ≤ n := by rw [← hcl, ← Nat.mul_add]; exact hkr
          by_cases hc0 : cap = 0
          · -- nothing is appended to nothing
            have hl0 : len = 0 := by omega
            have hn0 : news = [] := List.eq_nil_of_length_eq_zero (by omega)
            subst hl0; subst hn0
            have hcl := List.eq_nil_of_length_eq_zero hcl.symm
            subst hcl
            refine ⟨_, w, append_room_run (n := 0) ht hu hk hlen hfirst hroom w (by
              cases ao with
              | none => rfl
              | some a => simp [storeCells]), ?_⟩
            have hi1 : Inv w m φ (upd st id none) := hi.forget fun j blk hj => by
              unfold upd at hj; split at hj
              · cases hj
              · exact hj
            -- the block goes on under its new number
            have hp := PLe.updP (p := (b, n)) hnb
            have hne : nb ≠ id := fun e => by subst e; rw [hnb] at eφ; cases eφ
            refine ⟨m, updP φ nb (b, n), .osl (updP_same _ _ _) hroom (by simpa using hcap) (by simpa using ha1) ha2, ⟨hi.mem, ?_, ?_⟩, ⟨Nat.le_refl _, rfl, rfl, rfl, fun _ _ _ => rfl, .refl _, fun _ _ _ _ => rfl, hp, ?_⟩, updP_ids (Nat.le_refl _) (lt_wide nb)⟩
            · intro j blk hj
              unfold upd at hj
              split at hj
              · rename_i e; subst e; injection hj with hj; subst hj
                exact ⟨b, n, updP_same _ _ _, hbl, .arr hh hl hk0 (by simp) (by simpa using ICells.nil) (by simp) hm⟩
              · split at hj
                · cases hj
                · obtain ⟨b', n', e', hlt, hok'⟩ := hi.live _ _ hj
                  exact ⟨b', n', hp _ _ e', hlt, hok'.mono rfl (.refl _) hp fun _ => rfl⟩
            · intro i j b1 n1 n2 b2 b3 h10 h11 h12 h13
              have key : ∀ i b1 n1 b2, upd (upd st id none) nb (some (Blk.arr k'' ([] : List (List IV)))) i = some b2 → updP φ nb (b, n) i = some (b1, n1) → (i = nb ∧ b1 = b) ∨ (i ≠ nb ∧ i ≠ id ∧ st i = some b2 ∧ φ i = some (b1, n1)) := by
                intro i b1 n1 b2 h1 h2
                unfold upd at h1; unfold updP at h2
                split at h1
                · rename_i e; subst e; rw [if_pos rfl] at h2; injection h2 with h2; injection h2 with e1 e2; exact .inl ⟨rfl, e1.symm⟩
                · rename_i hne1
                  rw [if_neg hne1] at h2
                  split at h1
                  · cases h1
                  · rename_i hne2; exact .inr ⟨hne1, hne2, h1, h2⟩
              have q1 := key i b1 n1 b2 (by simpa using h10) h12
              have q2 := key j b1 n2 b3 (by simpa using h11) h13
              rcases q1 with ⟨rfl, rfl⟩ | ⟨p1, p2, p3, p4⟩
              · rcases q2 with ⟨rfl, _⟩ | ⟨p1, p2, p3, p4⟩
                · rfl
                · exact absurd (hi.inj _ _ _ _ _ _ _ p3 hst p4 eφ) p2
              · rcases q2 with ⟨rfl, rfl⟩ | ⟨q1, q2, q3, q4⟩
                · exact absurd (hi.inj _ _ _ _ _ _ _ p3 hst p4 eφ) p2
                · exact hi.inj _ _ _ _ _ _ _ p3 q3 p4 q4
            · intro i b' n' h10 h11
              unfold updP at h11
              split at h11
              · injection h11 with h11; injection h11 with e1 e2; subst e1; exact .inr ⟨_, _, eφ⟩
              · rw [h10] at h11; cases h11
          · have hao := ha1 hc0
            subst hao
            have hstore := run_storeCells_at C.P b (len * k'') T cs 0 vs.toArray w hh (by simp; rw [Nat.mul_comm len]; omega) hr.cells.one
            simp only [Nat.add_zero] at hstore
            rw [Nat.mul_comm len] at hstore
            have hrun := append_room_run (ty := ty) (base := some ⟨b, 0, none⟩) (cap := cap) ht hu hk hlen hfirst hroom _ (by
              simp only [Addr.add_none, Nat.zero_add]; rw [Nat.mul_comm len]; exact hstore)
            refine ⟨_, _, hrun, ?_⟩
            have hvs : (vs.toArray.toList.take (k'' * len) ++ cs ++ vs.toArray.toList.drop (k'' * len + cs.length)).toArray = (vs.take (k'' * len) ++ cs ++ vs.drop (k'' * len + cs.length)).toArray := by simp
            rw [hvs]
            have hlen2 : (vs.take (k'' * len) ++ cs ++ vs.drop (k'' * len + cs.length)).length = n := by simp; omega
            have hblk : BlkOk (w.setRow b (vs.take (k'' * len) ++ cs ++ vs.drop (k'' * len + cs.length)).toArray) m φ b n (.arr k'' (es.take len ++ news)) := by
              refine .arr (T := T) (setRow_heap w b _ _ T (0, 0) hh) hlen2 hk0 hwn ?_ (by rw [htl]; exact hkr) hm
              rw [htl, Nat.mul_add, hcl]
              have e0 : (vs.take (k'' * len) ++ cs).length = k'' * len + cs.length := by rw [List.length_append, holdlen]
              rw [← e0, List.take_left]
              exact hnew
            obtain ⟨g1, g2⟩ := hi.set hst eφ hm _ hblk
            -- the block under its new number
            have hp := PLe.updP (p := (b, n)) hnb
            have hne : nb ≠ id := fun e => by subst e; rw [hnb] at eφ; cases eφ
            refine ⟨m, updP φ nb (b, n), .osl (updP_same _ _ _) hroom (by simpa using hcap) (fun _ => by simp) (fun h => by cases h), ⟨g1.mem, ?_, ?_⟩, ⟨g2.size, rfl, rfl, rfl, g2.block, .refl _, fun _ _ _ _ => rfl, hp, ?_⟩, updP_ids (Nat.le_refl _) (lt_wide nb)⟩
            · intro j blk hj
              unfold upd at hj
              split at hj
              · rename_i e; subst e; injection hj with hj; subst hj
                exact ⟨b, n, updP_same _ _ _, by simpa using hbl, hblk.mono rfl (.refl _) hp fun _ => rfl⟩
              · split at hj
                · cases hj
                · rename_i hj1 hj2
                  obtain ⟨b', n', e', hlt, hok'⟩ := g1.live j blk (by unfold upd; rw [if_neg hj2]; exact hj)
                  exact ⟨b', n', hp _ _ e', hlt, hok'.mono rfl (.refl _) hp fun _ => rfl⟩
            · intro i j b1 n1 n2 b2 b3 h10 h11 h12 h13
              have key : ∀ i b1 n1 b2, upd (upd st id none) nb (some (Blk.arr k'' (es.take len ++ news))) i = some b2 → updP φ nb (b, n) i = some (b1, n1) → (i = nb ∧ b1 = b) ∨ (i ≠ nb ∧ i ≠ id ∧ st i = some b2 ∧ φ i = some (b1, n1)) := by
                intro i b1 n1 b2 h1 h2
                unfold upd at h1; unfold updP at h2
                split at h1
                · rename_i e; subst e; rw [if_pos rfl] at h2; injection h2 with h2; injection h2 with e1 e2; exact .inl ⟨rfl, e1.symm⟩
                · rename_i hne1
                  rw [if_neg hne1] at h2
                  split at h1
                  · cases h1
                  · rename_i hne2; exact .inr ⟨hne1, hne2, h1, h2⟩
              have q1 := key i b1 n1 b2 h10 h12
              have q2 := key j b1 n2 b3 h11 h13
              rcases q1 with ⟨rfl, rfl⟩ | ⟨p1, p2, p3, p4⟩
              · rcases q2 with ⟨rfl, _⟩ | ⟨p1, p2, p3, p4⟩
                · rfl
                · exact absurd (hi.inj _ _ _ _ _ _ _ p3 hst p4 eφ) p2
              · rcases q2 with ⟨rfl, rfl⟩ | ⟨q1, q2, q3, q4⟩
                · exact absurd (hi.inj _ _ _ _ _ _ _ p3 hst p4 eφ) p2
                · exact hi.inj _ _ _ _ _ _ _ p3 q3 p4 q4
            · intro i b' n' h10 h11
              unfold updP at h11
              split at h11
              · injection h11 with h11; injection h11 with e1 e2; subst e1; exact .inr ⟨_, _, eφ⟩
              · rw [h10] at h11; cases h11
        · -- a new array
          have hold : (Builtin.firstCells k'' len (.slice ao len cap)).run C.P w.drew = .ok (vs.take (k'' * len)).toArray w.drew := by
            by_cases hc0 : cap = 0
            · have hl0 : len = 0 := by omega
              subst hl0
              cases ao with
              | none => simp [Builtin.firstCells]
              | some a => simp [Builtin.firstCells, loadCells, loadCellsFrom]
            · have hao := ha1 hc0
              subst hao
              have := run_loadCells_list (P := C.P) w.drew ⟨b, 0, none⟩ (vs.take (k'' * len)) (fun j u hj => by
                rw [Addr.add_none, Nat.zero_add]
                show w.cell? ⟨b, j, none⟩ = some u
                rw [cell_row hh]
                rw [List.getElem?_take] at hj
                split at hj
                · exact hj
                · cases hj)
              rw [holdlen] at this
              simp only [Builtin.firstCells]
              rw [Nat.mul_comm len]; exact this
          obtain ⟨cap', rest, hcap', hrest, hrun⟩ := append_grow_run (ty := ty) (len := len) (cap := cap) (base := ao) (olds := vs.take (k'' * len)) ht hu hk hby hz hlen (by omega) hb0 hbytes hfirst2 hold
          have hi1 : Inv w m φ (upd st id none) := hi.forget fun j blk hj => by
            unfold upd at hj; split at hj
            · cases hj
            · exact hj
          have hblk : BlkOk (w.drew.alloc (.cells (vs.take (k'' * len) ++ (cs ++ rest)).toArray e)) m (updP φ nb (w.drew.heap.size, (vs.take (k'' * len) ++ (cs ++ rest)).length)) w.drew.heap.size (vs.take (k'' * len) ++ (cs ++ rest)).length (.arr k'' (es.take len ++ news)) := by
            refine .arr (T := e) (heap_push_new w.drew _) rfl hk0 hwn ?_ ?_ ?_
            · rw [htl, Nat.mul_add, hcl, ← List.append_assoc]
              have e0 : (vs.take (k'' * len) ++ cs).length = k'' * len + cs.length := by rw [List.length_append, holdlen]
              rw [← e0, List.take_left]
              exact hnew
            · rw [htl, List.length_append, holdlen, Nat.mul_add, List.length_append, ← hcl]; omega
            · intro o
              cases hm' : m w.drew.heap.size o with
              | none => rfl
              | some u => exact absurd (hi.mem.lt hm') (by show ¬ w.heap.size < w.heap.size; omega)
          obtain ⟨k1, k2⟩ := hi1.drew.push hnb _ hblk
          refine ⟨_, _, hrun, m, _, .osl (updP_same _ _ _) hcap' ?_ (fun _ => by simp) (fun h => by cases h), k1, (Adv.drew w m φ).trans k2, updP_ids (Nat.le_refl _) (lt_wide nb)⟩
          rw [List.length_append, holdlen, List.length_append, ← hcl, hrest, hzl, Nat.zero_add, Nat.mul_comm (cap' - _), ← Nat.mul_add, ← Nat.mul_add]
          exact Nat.mul_le_mul_left _ (by omega)
end
end Go.Av

/- Struct and slice literals over abstract values are what the model does. No condition. -/
namespace Go.Av

/-- Every field of a struct type has a known size. -/
def FieldsOk (P : Program) : Prop := (∀ t fs, t < P.types.size → P.underlying t = some (.struct fs) → ∀ f ∈ fs, ∃ n, szOf P f.type = some n) ∧ ∀ t n e, t < P.types.size → P.underlying t = some (.array n e) → ∃ k, szOf P e = some k
section
variable {P : Program} {w : World}
theorem run_mapM_list {α β : Type} (f : α → Sem β) (g : α → β) : ∀ (l : List α), (∀ a ∈ l, (f a).run P w = .ok (g a) w) → (l.mapM f).run P w = .ok (l.map g) w
  | [], _ => by simp
  | a :: l, h => by
    have h1 := h a (by simp)
    have h2 := run_mapM_list f g l fun b hb => h b (by simp [hb])
    simp [List.mapM_cons, h1, h2]
theorem run_mapM_array {α β : Type} (f : α → Sem β) (g : α → β) (a : Array α) (h : ∀ x ∈ a, (f x).run P w = .ok (g x) w) : (a.mapM f).run P w = .ok (a.map g) w := by
  obtain ⟨l⟩ := a
  have := run_mapM_list f g l (fun x hx => h x (by simpa using hx))
  simp [this]
end
/-- Cells laid over others, as the model does it. -/
theorem foldl_set {xs : List Value} : ∀ (cells : Array Value) (off j : Nat), off + j + xs.length ≤ cells.size →
    ((xs.zipIdx j).foldl (fun cs p => cs.setIfInBounds (off + p.2) p.1) cells).toList = cells.toList.take (off + j) ++ xs ++ cells.toList.drop (off + j + xs.length) := by
  induction xs with
  | nil => intro cells off j _; simp
  | cons x xs ih =>
    intro cells off j h
    simp only [List.length_cons] at h
    simp only [List.zipIdx_cons, List.foldl_cons]
    rw [ih _ _ _ (by simp; omega)]
    simp only [Array.toList_setIfInBounds, List.length_cons]
    have e := list_seg_step cells.toList (off + j) x xs (by simp; omega)
    simpa [Nat.add_assoc] using e
theorem foldl_zip (v : Array Value) (cells : Array Value) (off : Nat) (h : off + v.size ≤ cells.size) :
    (v.zipIdx.foldl (fun cs (c, j) => cs.setIfInBounds (off + j) c) cells).toList = cells.toList.take off ++ v.toList ++ cells.toList.drop (off + v.size) := by
  have := foldl_set (xs := v.toList) cells off 0 (by simpa using h)
  rw [← Array.foldl_toList]
  simpa using this
section
variable {C : Ctx} {w : World} {m : Mem} {φ : Pl} {st : Store} {ρ : Operand → Value} {env : Nat → AV}
def opdOk : Operand → Bool
  | .const v => constOk v
  | _ => true
/-- The operands stand for what the abstract environment says. -/
def Fits (m : Mem) (φ : Pl) (env : Nat → AV) (ρ : Operand → Value) : Prop := ∀ x, opdOk x = true → Rep m φ (ev env x) (ρ x)
inductive PartsRep (m : Mem) (φ : Pl) : List (Nat × List AV) → List (Nat × Value) → Prop
  | nil : PartsRep m φ [] []
  | cons {i : Nat} {cs : List AV} {v : Value} {ps : List (Nat × List AV)} {vs : List (Nat × Value)} : RepC m φ cs v.cells.toList → PartsRep m φ ps vs → PartsRep m φ ((i, cs) :: ps) ((i, v) :: vs)
theorem partsOf_rep (hρ : Fits m φ env ρ) : ∀ {l : List (Nat × Operand)} {ps : List (Nat × List AV)}, (∀ p ∈ l, opdOk p.2 = true) → partsOf env l = some ps → PartsRep m φ ps (l.map fun p => (p.1, ρ p.2))
  | [], ps, _, h => by simp [partsOf] at h; subst h; exact .nil
  | p :: l, ps, ho, h => by
    simp only [partsOf] at h
    obtain ⟨cs, h1, h2⟩ := bnd_eq.1 h
    obtain ⟨qs, h3, h4⟩ := bnd_eq.1 h2
    injection h4 with h4; subst h4
    exact .cons (cellsOf_rep h1 (hρ p.2 (ho p (by simp)))) (partsOf_rep hρ (fun q hq => ho q (by simp [hq])) h3)
theorem fill_rep {place : Nat → Option (Nat × Nat)} {place' : Nat → Option (Nat × Nat)} (hp : ∀ i q, place i = some q → place' i = some q) : ∀ {ps : List (Nat × List AV)} {vs : List (Nat × Value)} {cells r : List AV} {vals : Array Value},
    PartsRep m φ ps vs → RepC m φ cells vals.toList → fillA place cells ps = some r → ∃ out, Instr.fill place' vals vs = some out ∧ RepC m φ r out.toList
  | _, _, cells, r, vals, .nil, hc, h => by simp [fillA] at h; subst h; exact ⟨vals, rfl, hc⟩
  | _, _, cells, r, vals, .cons (i := i) (cs := cs) (v := v) hv hps, hc, h => by
    simp only [fillA] at h
    obtain ⟨q, h1, h2⟩ := bnd_eq.1 h
    obtain ⟨h3, h4⟩ := tst_eq.1 h2
    have h3 := of_decide_eq_true h3
    obtain ⟨l, h5, h6⟩ := bnd_eq.1 h4
    obtain ⟨rfl, h7⟩ := splice_eq _ _ _ _ h5
    have hl := hv.length
    have hcl := hc.length
    simp only [Array.length_toList] at hl hcl
    have hz := foldl_zip v.cells vals q.1 (by omega)
    obtain ⟨out, k1, k2⟩ := fill_rep hp (vals := (v.cells.zipIdx.foldl (fun cs (c, j) => cs.setIfInBounds (q.1 + j) c) vals)) hps (by
      rw [hz]
      rw [hl]
      exact ((hc.take q.1).append hv).append (hc.drop _)) h6
    refine ⟨out, ?_, k2⟩
    simp only [Instr.fill, hp i q h1]
    rw [if_neg (by simp; omega)]
    exact k1
theorem placeS_struct {t : TypeId} {fs : Array Field} (hu : C.P.underlying t = some (.struct fs)) {i : Nat} {q : Nat × Nat} (h : placeS C.P t i = some q) :
    (fs.map fun f => (f.offset, (szOf C.P f.type).getD 0))[i]? = some q := by
  unfold placeS descK at h
  rw [hu] at h
  simp only [placeD] at h
  obtain ⟨p, h1, h2⟩ := bnd_eq.1 h
  obtain ⟨n, h3, h4⟩ := bnd_eq.1 h2
  obtain ⟨fs', fd, g1, g2, g3, g4⟩ := fieldT_eq h1
  rw [hu] at g1; injection g1 with g1; injection g1 with g1; subst g1
  injection h4 with h4; subst h4
  rw [Array.getElem?_map, g2]
  simp [g3, g4, h3]
theorem build_run (hz : ZerosOk C.P) (hf : FieldsOk C.P) (hρ : Fits m φ env ρ) {t : TypeId} {parts : Array (Nat × Operand)} {z : List Value} {ps : List (Nat × List AV)} {cs : List AV}
    (ho : ∀ p ∈ parts.toList, opdOk p.2 = true) (h1 : zeroOf C.P t = some z) (h2 : partsOf env parts.toList = some ps) (h3 : fillA (placeS C.P t) (litCells z) ps = some cs) (hg : aggD (descK C.P t) = some true) :
    ∃ out : Array Value, (Instr.build t (parts.map fun p => (p.1, ρ p.2))).run C.P w = .ok (.agg out) w ∧ RepC m φ cs out.toList := by
  obtain ⟨zv, hzr, hzc⟩ := run_zero h1 w
  have hps := partsOf_rep hρ ho h2
  have hz0 : RepC m φ (litCells z) zv.cells.toList := by rw [hzc]; exact litCells_rep m φ z (hz t z h1)
  have hpl : (parts.map fun p => (p.1, ρ p.2)).toList = parts.toList.map fun p => (p.1, ρ p.2) := by simp
  cases hd : descK C.P t with
  | none => rw [hd] at hg; simp [aggD] at hg
  | some d =>
    rw [hd] at hg
    cases d with
    | strct =>
      have hu : ∃ fs, C.P.underlying t = some (.struct fs) := by
        unfold descK at hd; split at hd <;> simp at hd
        rename_i fs h'; exact ⟨fs, h'⟩
      obtain ⟨fs, hu⟩ := hu
      have hm := run_mapM_array (P := C.P) (w := w) (fun f : Field => (do pure (f.offset, ← sizeOf f.type) : Sem (Nat × Nat))) (fun f => (f.offset, (szOf C.P f.type).getD 0)) fs (fun f hfm => by
        obtain ⟨n, hn⟩ := hf.1 t fs (zeroOf_eq h1).1 hu f hfm
        simp [run_size hn, hn])
      obtain ⟨out, k1, k2⟩ := fill_rep (place' := fun i => (fs.map fun f => (f.offset, (szOf C.P f.type).getD 0))[i]?) (fun i q hq => placeS_struct hu hq) hps hz0 h3
      refine ⟨out, ?_, k2⟩
      unfold Instr.build
      simp only [Sem.run_bind, hzr, Result.andThen_ok, run_und hu, hm, hpl]
      rw [k1]
      rfl
    | array n e =>
      have hu := und_descK_array hd
      obtain ⟨k, hk⟩ := hf.2 t n e (zeroOf_eq h1).1 hu
      obtain ⟨out, k1, k2⟩ := fill_rep (place' := fun i => some (i * k, k)) (fun i q hq => by
        unfold placeS at hq
        rw [hd] at hq
        simp only [placeD, hk, bnd_some] at hq
        exact hq) hps hz0 h3
      refine ⟨out, ?_, k2⟩
      unfold Instr.build
      simp only [Sem.run_bind, hzr, Result.andThen_ok, run_und hu, run_size hk, hpl]
      rw [k1]
      rfl
    | slice => simp [aggD] at hg
    | int => simp [aggD] at hg
    | string => simp [aggD] at hg
    | bool => simp [aggD] at hg
    | other => simp [aggD] at hg
end
end Go.Av

/- Slice literals and make over abstract values are what the model does. No condition. -/
namespace Go.Av

theorem ICells.of_get {m : Mem} : ∀ {cs : List IV} {vs : List Value}, cs.length = vs.length → (∀ (i : Nat) (c : IV) (v : Value), cs[i]? = some c → vs[i]? = some v → IRep m c v ∧ v.oneCell' = true) → ICells m cs vs
  | [], [], _, _ => .nil
  | [], _ :: _, h, _ => by simp at h
  | _ :: _, [], h, _ => by simp at h
  | c :: cs, v :: vs, h, hg => by
    have h0 := hg 0 c v rfl rfl
    exact .cons h0.1 h0.2 (ICells.of_get (by simpa using h) fun i c v h1 h2 => hg (i + 1) c v (by simpa using h1) (by simpa using h2))
theorem ICells.get {m : Mem} : ∀ {cs : List IV} {vs : List Value}, ICells m cs vs → ∀ {i : Nat} {c : IV} {v : Value}, cs[i]? = some c → vs[i]? = some v → IRep m c v ∧ v.oneCell' = true
  | _, _, .nil, i, c, v, h, _ => by simp at h
  | _, _, .cons a o b, 0, c, v, h, h' => by simp at h h'; subst h; subst h'; exact ⟨a, o⟩
  | _, _, .cons a o b, i + 1, c, v, h, h' => b.get (by simpa using h) (by simpa using h')
theorem zeroI_rep {m : Mem} : ∀ {z : List Value} {zi : List IV}, zeroI (litCells z) = some zi → (∀ v ∈ z, v.oneCell' = true) → ICells m zi z
  | [], zi, h, _ => by simp [litCells, zeroI] at h; subst h; exact .nil
  | v :: z, zi, h, ho => by
    simp only [litCells, zeroI] at h
    cases hz : zeroI (litCells z) with
    | none =>
      rw [hz] at h
      cases hl : litCell v <;> rw [hl] at h <;> simp [consZ] at h
    | some l =>
      rw [hz] at h
      have ih := zeroI_rep (m := m) hz fun u hu => ho u (by simp [hu])
      have h1 := ho v (by simp)
      unfold litCell at h
      split at h
      · simp only [consZ, Option.some.injEq] at h; subst h
        exact .cons (.isl0 none 0 fun _ => rfl) h1 ih
      · simp only [consZ, Option.some.injEq] at h; subst h
        exact .cons (.lit _) h1 ih
theorem replicate_flatten_get {k : Nat} {zi : List IV} (hk : zi.length = k) (h0 : 0 < k) : ∀ (n i : Nat), i < n * k → (List.replicate n zi).flatten[i]? = zi[i % k]?
  | 0, i, h => by simp at h
  | n + 1, i, h => by
    rw [List.replicate_succ, List.flatten_cons, List.getElem?_append, hk]
    by_cases c : i < k
    · rw [if_pos c, Nat.mod_eq_of_lt c]
    · rw [if_neg c, replicate_flatten_get hk h0 n (i - k) (by rw [Nat.add_mul] at h; omega)]
      rw [← Nat.mod_eq_sub_mod (by omega)]
theorem replicate_flatten_len {k : Nat} {zi : List IV} (hk : zi.length = k) (n : Nat) : (List.replicate n zi).flatten.length = n * k := by
  induction n with
  | zero => simp
  | succ n ih => rw [List.replicate_succ, List.flatten_cons, List.length_append, ih, hk, Nat.add_mul]; omega
/-- A row made of zero values. -/
theorem made_rep {m : Mem} {k : Nat} {z : Array Value} {zi : List IV} (hz : ICells m zi z.toList) (hk : zi.length = k) (h0 : 0 < k) (n N : Nat) (hN : n * k ≤ N) (f : Nat → Value) (hf : ∀ i, i < N → f i = z[i % z.size]!) :
    ICells m (List.replicate n zi).flatten (((Array.range N).map f).toList.take (k * n)) := by
  have hzl : z.size = k := by have := hz.length; simp at this; omega
  apply ICells.of_get
  · rw [replicate_flatten_len hk]; simp; rw [Nat.mul_comm k]; omega
  · intro i c v h1 h2
    rw [List.getElem?_take] at h2
    split at h2
    · rename_i hi
      rw [Nat.mul_comm] at hi
      rw [replicate_flatten_get hk h0 n i hi] at h1
      have hiN : i < N := by omega
      simp only [Array.toList_map, List.getElem?_map, Array.toList_range, List.getElem?_range hiN, Option.map_some, Option.some.injEq] at h2
      rw [hf i hiN] at h2
      have hmod : i % k < k := Nat.mod_lt _ h0
      refine hz.get h1 ?_
      rw [hzl] at h2
      rw [← h2]
      have : i % k < z.size := by omega
      simp [this]
    · cases h2
theorem setElem_eq {α : Type} : ∀ {l r : List α} {i : Nat} {x : α}, setElem l i x = some r → r = l.set i x ∧ i < l.length
  | [], _, _, _, h => by simp [setElem] at h
  | a :: l, r, 0, x, h => by simp [setElem] at h; subst h; simp
  | a :: l, r, i + 1, x, h => by
    simp only [setElem] at h
    obtain ⟨q, h1, h2⟩ := bnd_eq.1 h
    obtain ⟨rfl, h3⟩ := setElem_eq h1
    injection h2 with h2; subst h2
    simp; omega
theorem set_flatten {k : Nat} : ∀ {es : List (List IV)} {i : Nat} {x : List IV}, (∀ e ∈ es, e.length = k) → x.length = k → i < es.length → (es.set i x).flatten = es.flatten.take (k * i) ++ x ++ es.flatten.drop (k * i + x.length)
  | [], i, _, _, _, h => by simp at h
  | e :: es, 0, x, hw, hx, _ => by
    have he := hw e (by simp)
    simp only [List.set_cons_zero, List.flatten_cons, Nat.mul_zero, List.take_zero, List.nil_append, Nat.zero_add]
    rw [hx, ← he, List.drop_left]
  | e :: es, i + 1, x, hw, hx, h => by
    have he := hw e (by simp)
    simp only [List.set_cons_succ, List.flatten_cons]
    rw [set_flatten (fun e he => hw e (by simp [he])) hx (by simpa using h)]
    rw [show k * (i + 1) = e.length + k * i by rw [Nat.mul_add, he]; omega]
    have t1 : (e ++ es.flatten).take (e.length + k * i) = e ++ es.flatten.take (k * i) := by
      rw [List.take_append, List.take_of_length_le (by omega : e.length ≤ e.length + k * i), Nat.add_sub_cancel_left]
    have t2 : (e ++ es.flatten).drop (e.length + (k * i + x.length)) = es.flatten.drop (k * i + x.length) := by
      rw [List.drop_append, List.drop_of_length_le (by omega : e.length ≤ e.length + (k * i + x.length)), Nat.add_sub_cancel_left, List.nil_append]
    rw [Nat.add_assoc, t1, t2]
    simp
theorem repl_eq {α : Type} : ∀ (n : Nat) (x : α), repl n x = List.replicate n x
  | 0, _ => rfl
  | n + 1, x => by simp [repl, repl_eq n x, List.replicate_succ]
inductive PartsI (m : Mem) : List (Nat × List IV) → List (Nat × Value) → Prop
  | nil : PartsI m [] []
  | cons {i : Nat} {cs : List IV} {v : Value} {ps : List (Nat × List IV)} {vs : List (Nat × Value)} : ICells m cs v.cells.toList → PartsI m ps vs → PartsI m ((i, cs) :: ps) ((i, v) :: vs)
theorem PartsI.mono {m m' : Mem} (h : MLe m m') : ∀ {ps : List (Nat × List IV)} {vs : List (Nat × Value)}, PartsI m ps vs → PartsI m' ps vs
  | _, _, .nil => .nil
  | _, _, .cons a b => .cons (a.mono h) (b.mono h)
theorem PartsRep.mono {m m' : Mem} {φ : Pl} (h : MLe m m') : ∀ {ps : List (Nat × List AV)} {vs : List (Nat × Value)}, PartsRep m φ ps vs → PartsRep m' φ ps vs
  | _, _, .nil => .nil
  | _, _, .cons a b => .cons (a.mono h (.refl _)) (b.mono h)
theorem frzParts_sound {w : World} : ∀ {ps : List (Nat × List AV)} {m : Mem} {φ : Pl} {st st1 : Store} {qs : List (Nat × List IV)} {vs : List (Nat × Value)}, Inv w m φ st → PartsRep m φ ps vs → frzParts st ps = some (qs, st1) →
    ∃ m1, PartsI m1 qs vs ∧ Inv w m1 φ st1 ∧ Adv w m φ w m1 φ
  | [], m, φ, st, st1, qs, _, hi, .nil, h => by simp [frzParts] at h; obtain ⟨rfl, rfl⟩ := h; exact ⟨m, .nil, hi, .refl _ _ _⟩
  | _ :: ps, m, φ, st, st1, qs, _, hi, .cons hv hps, h => by
    simp only [frzParts] at h
    obtain ⟨p, h1, h2⟩ := bnd_eq.1 h
    obtain ⟨q, h3, h4⟩ := bnd_eq.1 h2
    injection h4 with h4; injection h4 with h5 h6; subst h5; subst h6
    obtain ⟨m1, k1, k2, k3⟩ := frzVs_sound hi hv h1
    obtain ⟨m2, k4, k5, k6⟩ := frzParts_sound k2 (hps.mono k3.mle) h3
    exact ⟨m2, .cons (k1.mono k6.mle) k4, k5, k3.trans k6⟩
theorem fill_elems {m : Mem} {k : Nat} : ∀ {qs : List (Nat × List IV)} {vs : List (Nat × Value)} {es r : List (List IV)} {vals : Array Value}, PartsI m qs vs → ICells m es.flatten vals.toList → (∀ e ∈ es, e.length = k) → setElems k es qs = some r →
    ∃ out, Instr.fill (fun i => some (i * k, k)) vals vs = some out ∧ ICells m r.flatten out.toList ∧ (∀ e ∈ r, e.length = k) ∧ r.length = es.length
  | _, _, es, r, vals, .nil, hc, hw, h => by simp [setElems] at h; subst h; exact ⟨vals, rfl, hc, hw, rfl⟩
  | _, _, es, r, vals, .cons (i := i) (cs := cs) (v := v) hv hps, hc, hw, h => by
    simp only [setElems] at h
    obtain ⟨h1, h2⟩ := tst_eq.1 h
    have h1 : cs.length = k := by simpa using h1
    obtain ⟨l, h3, h4⟩ := bnd_eq.1 h2
    obtain ⟨rfl, h5⟩ := setElem_eq h3
    have hvl := hv.length
    simp only [Array.length_toList] at hvl
    have hcl := hc.length
    rw [flatten_length hw] at hcl
    simp only [Array.length_toList] at hcl
    have hik : i * k + k ≤ vals.size := by
      rw [← hcl]
      have := Nat.mul_le_mul_left k (show i + 1 ≤ es.length by omega)
      rw [Nat.mul_add, Nat.mul_one, Nat.mul_comm k i] at this
      exact this
    have hz := foldl_zip v.cells vals (i * k) (by omega)
    obtain ⟨out, k1, k2, k3, k4⟩ := fill_elems (es := es.set i cs) (vals := v.cells.zipIdx.foldl (fun cs (c, j) => cs.setIfInBounds (i * k + j) c) vals) hps (by
      rw [hz, set_flatten hw h1 h5, Nat.mul_comm k i, hvl]
      exact ((hc.take _).append hv).append (hc.drop _)) (fun e he => by
        rcases List.mem_or_eq_of_mem_set he with he | he
        · exact hw e he
        · subst he; exact h1) h4
    refine ⟨out, ?_, k2, k3, by simpa using k4⟩
    simp only [Instr.fill]
    rw [if_neg (by simp; omega)]
    exact k1
section
variable {C : Ctx} {w : World} {m : Mem} {φ : Pl} {st : Store} {ρ : Operand → Value} {env : Nat → AV}
theorem sliceLit_sound (hz : ZerosOk C.P) {t e : TypeId} {n nb : Nat} {ps : List (Nat × List AV)} {vs : List (Nat × Value)} {v : AV} {st' : Store} (hi : Inv w m φ st) (hf : ∀ id, nb ≤ id → id < nb + wide → φ id = none)
    (ht : C.P.underlying t = some (.slice e)) (hps : PartsRep m φ ps vs) (h : sliceLit C e n st nb ps = some (v, st')) (parts : Array (Nat × Value)) (hparts : parts.toList = vs) :
    ∃ y w', (Instr.buildSlice t n parts).run C.P w = .ok y w' ∧ Out w m φ nb v st' y w' := by
  have hnb := hf nb (Nat.le_refl _) (lt_wide nb)
  unfold sliceLit at h
  obtain ⟨k, hk, h1⟩ := bnd_eq.1 h
  obtain ⟨z, hzz, h2⟩ := bnd_eq.1 h1
  obtain ⟨zi, hzi, h3⟩ := bnd_eq.1 h2
  obtain ⟨h4, h5⟩ := tst_eq.1 h3
  obtain ⟨hk0, hn, hzl⟩ := of_decide_eq_true h4
  obtain ⟨q, hq, h6⟩ := bnd_eq.1 h5
  obtain ⟨es, hes, h7⟩ := bnd_eq.1 h6
  simp only [Option.some.injEq, Prod.mk.injEq] at h7
  obtain ⟨rfl, rfl⟩ := h7
  obtain ⟨m1, k1, k2, k3⟩ := frzParts_sound hi hps hq
  obtain ⟨zv, hzr, hzc⟩ := run_zero hzz w
  have hzrep : ICells m1 zi zv.cells.toList := by rw [hzc]; exact zeroI_rep hzi (hz e z hzz)
  have hzs : zv.cells.size = k := by have := hzrep.length; simp at this; omega
  rw [repl_eq] at hes
  have hmade := made_rep hzrep hzl hk0 n (n * k) (Nat.le_refl _) (fun i => zv.cells[i % zv.cells.size]!) (fun _ _ => rfl)
  rw [List.take_of_length_le (by simp [Nat.mul_comm])] at hmade
  obtain ⟨out, g1, g2, g3, g4⟩ := fill_elems k1 hmade (fun e he => by rw [List.eq_of_mem_replicate he]; exact hzl) hes
  simp only [List.length_replicate] at g4
  have hol := g2.length
  rw [flatten_length g3, g4] at hol
  simp only [Array.length_toList] at hol
  have hrun : (Instr.buildSlice t n parts).run C.P w = .ok (.slice (some ⟨w.heap.size, 0, none⟩) n n) (w.alloc (.cells out e)) := by
    have hn' : ¬ 16777216 < n * k := by omega
    unfold Instr.buildSlice
    rw [hparts]
    by_cases h0 : n * k = 0
    · have g5 : ∀ f : Nat → Value, Instr.fill (fun i => some (i * k, k)) (Array.map f (Array.range (n * k))) vs = some out := fun f => by
        rw [← g1]; congr 1; rw [h0]; simp
      simp [run_und ht, run_size hk, h0, newRow]
      rw [← h0]
      simp [g5]
    · simp [run_und ht, run_size hk, hn', h0, hzr, newRow, g1]
  have hblk : BlkOk (w.alloc (.cells out e)) m1 (updP φ nb (w.heap.size, out.toList.length)) w.heap.size out.toList.length (.arr k es) := by
    refine .arr (T := e) (by simpa using heap_push_new w (.cells out e)) rfl hk0 g3 ?_ ?_ ?_
    · rw [g4, List.take_of_length_le (by simp; omega)]; exact g2
    · rw [g4]; simp; omega
    · intro o
      cases hm : m1 w.heap.size o with
      | none => rfl
      | some u => exact absurd (k2.mem.lt hm) (by omega)
  obtain ⟨j1, j2⟩ := k2.push hnb _ hblk
  refine ⟨_, _, hrun, m1, _, .osl (updP_same _ _ _) (Nat.le_refl _) ?_ (fun _ => rfl) (fun h => by cases h), j1, k3.trans j2, updP_ids (Nat.le_refl _) (lt_wide nb)⟩
  simp; omega
theorem make_sound (hz : ZerosOk C.P) {t : TypeId} {nb : Nat} {a b v : AV} {x y : Value} {st' : Store} (hi : Inv w m φ st) (hf : ∀ id, nb ≤ id → id < nb + wide → φ id = none)
    (ha : Rep m φ a x) (hb : Rep m φ b y) (h : makeA C t st nb a b = some (v, st')) : ∃ r w', (Instr.makeSlice t x y).run C.P w = .ok r w' ∧ Out w m φ nb v st' r w' := by
  have hnb := hf nb (Nat.le_refl _) (lt_wide nb)
  unfold makeA at h
  split at h
  · rename_i l c
    cases ha with
    | i ha => cases ha with
      | lit => cases hb with
        | i hb => cases hb with
          | lit =>
            obtain ⟨e, he, h1⟩ := bnd_eq.1 h
            obtain ⟨k, hk, h2⟩ := bnd_eq.1 h1
            obtain ⟨by_, hby, h3⟩ := bnd_eq.1 h2
            obtain ⟨z, hzz, h4⟩ := bnd_eq.1 h3
            obtain ⟨zi, hzi, h5⟩ := bnd_eq.1 h4
            obtain ⟨h6, h7⟩ := tst_eq.1 h5
            obtain ⟨hk0, hb0, hl0, hlc, hbytes, hzl⟩ := of_decide_eq_true h6
            simp only [Option.some.injEq, Prod.mk.injEq] at h7
            obtain ⟨rfl, rfl⟩ := h7
            obtain ⟨i, hi1, hi2, hi3⟩ := run_tinfo hby w
            have hisz : i.size = k := by unfold szOf at hk; rw [hi3] at hk; simpa using hk
            obtain ⟨zv, hzv⟩ : ∃ zv, i.zero = some zv := by
              have hzz := (zeroOf_eq hzz).2; rw [hi3] at hzz
              cases hq : i.zero with
              | none => simp [hq] at hzz
              | some zv => exact ⟨zv, rfl⟩
            have hzc : zv.cells.toList = z := by have hzz := (zeroOf_eq hzz).2; rw [hi3] at hzz; simpa [hzv] using hzz
            have hb1 : (1 : Int) ≤ by_ := by omega
            have hcle : c ≤ by_ * c := by
              have := Int.mul_le_mul_of_nonneg_right hb1 (show 0 ≤ c by omega)
              simpa using this
            have hrun := run_make (P := C.P) w t e i zv (und_slice he) hi3 hzv .i64 .i64 l c hl0 hlc (by rw [hi2]; exact hbytes) (by omega)
            rw [hisz] at hrun
            have hzrep : ICells m zi zv.cells.toList := by rw [hzc]; exact zeroI_rep hzi (hz e z hzz)
            have hN : l.toNat * k ≤ c.toNat * k := Nat.mul_le_mul_right _ (by omega)
            have hmade := made_rep hzrep hzl hk0 l.toNat (c.toNat * k) hN (fun i => zv.cells[i % zv.cells.size]!) (fun _ _ => rfl)
            have hsz : (madeCells zv.cells (c.toNat * k)).size = c.toNat * k := size_madeCells _ _
            have hblk : BlkOk (w.alloc (.cells (madeCells zv.cells (c.toNat * k)) e)) m (updP φ nb (w.heap.size, (madeCells zv.cells (c.toNat * k)).toList.length)) w.heap.size (madeCells zv.cells (c.toNat * k)).toList.length (.arr k (List.replicate l.toNat zi)) := by
              refine .arr (T := e) (by simpa using heap_push_new w (.cells (madeCells zv.cells (c.toNat * k)) e)) rfl hk0 (fun e he => by rw [List.eq_of_mem_replicate he]; exact hzl) ?_ ?_ ?_
              · rw [List.length_replicate]; exact hmade
              · simp only [List.length_replicate, Array.length_toList, hsz, Nat.mul_comm k]; exact hN
              · intro o
                cases hm : m w.heap.size o with
                | none => rfl
                | some u => exact absurd (hi.mem.lt hm) (by omega)
            obtain ⟨j1, j2⟩ := hi.push hnb _ hblk
            refine ⟨_, _, hrun, m, _, .osl (updP_same _ _ _) (by omega) ?_ (fun _ => rfl) (fun h => by cases h), j1, j2, updP_ids (Nat.le_refl _) (lt_wide nb)⟩
            simp only [Array.length_toList, hsz, Nat.zero_add, Nat.mul_comm k]; exact Nat.le_refl _
  · cases h
end
end Go.Av

/- Stores, copies, slices, indices over abstract values are what the model does. No condition. -/
namespace Go.Av
section
variable {C : Ctx} {w : World} {m : Mem} {φ : Pl} {st : Store}

theorem storeVar_run {P : Program} {t : TypeId} {v : Value} {b off : Nat} {T : TypeId} {vs : List Value} (hs : szOf P t = some v.cells.size) (hh : w.heap[b]? = some (.cells vs.toArray T (0, 0))) (hl : off + v.cells.size ≤ vs.length) (h1 : ∀ u ∈ v.cells.toList, u.oneCell' = true) :
    (storeVar t ⟨b, off, none⟩ v).run P w = .ok () (w.setRow b (vs.take off ++ v.cells.toList ++ vs.drop (off + v.cells.size)).toArray) := by
  have := run_storeCells_at P b off T v.cells.toList 0 vs.toArray w hh (by simpa using hl) h1
  simp only [Nat.add_zero, Array.length_toList] at this
  simp [storeVar, run_size hs, this]
theorem storeA_sound {t : TypeId} {a x : AV} {av xv : Value} {st' : Store} (hi : Inv w m φ st) (ha : Rep m φ a av) (hx : Rep m φ x xv) (h : storeA C t a x st = some st') :
    ∃ w' m', (Instr.storeAt t av xv).run C.P w = .ok () w' ∧ Inv w' m' φ st' ∧ Adv w m φ w' m' φ := by
  unfold storeA at h
  obtain ⟨n, hs, h1⟩ := bnd_eq.1 h
  obtain ⟨xs, hc, h2⟩ := bnd_eq.1 h1
  obtain ⟨h3, h4⟩ := tst_eq.1 h2
  have hn := of_decide_eq_true h3
  subst hn
  have hxc := cellsOf_rep hc hx
  have hxl := hxc.length
  simp only [Array.length_toList] at hxl
  have hs' : szOf C.P t = some xv.cells.size := by rw [hs, hxl]
  unfold storeAt at h4
  cases ha with
  | junk => simp at h4
  | nils => simp at h4
  | i => simp at h4
  | osl => simp at h4
  | agg => simp at h4
  | tup => simp at h4
  | fn => simp at h4
  | @own id off b n' e =>
    simp only at h4
    cases hst : st id with
    | none => rw [hst] at h4; simp [storeB] at h4
    | some blk =>
      rw [hst] at h4
      obtain ⟨hb, hok⟩ := blk_at hi e hst
      cases hok with
      | arr => simp [storeB] at h4
      | frz => simp [storeB] at h4
      | fbox => simp [storeB] at h4
      | @box T cs vs hh hl hcc hm =>
        simp only [storeB] at h4
        obtain ⟨l, h5, h6⟩ := bnd_eq.1 h4
        injection h6 with h6; subst h6
        obtain ⟨rfl, h7⟩ := splice_eq _ _ _ _ h5
        have hcl := hcc.length
        have hrun := storeVar_run (P := C.P) (off := off) hs' hh (by omega) hxc.one
        have hblk : BlkOk (w.setRow b (vs.take off ++ xv.cells.toList ++ vs.drop (off + xv.cells.size)).toArray) m φ b n' (.box (cs.take off ++ xs ++ cs.drop (off + xs.length))) := by
          refine .box (T := T) (setRow_heap w b _ _ T (0, 0) hh) (by simp; omega) ?_ hm
          rw [hxl]
          exact ((hcc.take _).append hxc).append (hcc.drop _)
        obtain ⟨k1, k2⟩ := hi.set hst e hm _ hblk
        exact ⟨_, m, by simp only [Instr.storeAt, Instr.sureAddr, Sem.run_bind, Sem.run_pure, Result.andThen_ok]; exact hrun, k1, k2⟩
  | @ownE id k ix off b n' e =>
    simp only at h4
    obtain ⟨p, h5, h6⟩ := bnd_eq.1 h4
    obtain ⟨m1, q1, q2, q3⟩ := frzVs_sound hi hxc h5
    cases hst : p.2 id with
    | none => rw [hst] at h6; simp [storeE] at h6
    | some blk =>
      rw [hst] at h6
      obtain ⟨hb, hok⟩ := blk_at q2 e hst
      cases hok with
      | box => simp [storeE] at h6
      | frz => simp [storeE] at h6
      | fbox => simp [storeE] at h6
      | @arr T k' es vs hh hl hpos hw1 hcc hfit hm =>
        simp only [storeE] at h6
        obtain ⟨h7, h8⟩ := tst_eq.1 h6
        have h7 := of_decide_eq_true h7
        subst h7
        obtain ⟨ec, h9, h10⟩ := bnd_eq.1 h8
        rw [nthE_eq] at h9
        obtain ⟨e', h11, h12⟩ := bnd_eq.1 h10
        injection h12 with h12; subst h12
        obtain ⟨rfl, h13⟩ := splice_eq _ _ _ _ h11
        have hixl : ix < es.length := (List.getElem?_eq_some_iff.1 h9).1
        have hel : ec.length = k' := hw1 ec (List.mem_of_getElem? h9)
        have hpl := q1.length
        simp only [Array.length_toList] at hpl
        have hmul : k' * ix + k' ≤ k' * es.length := by
          have := Nat.mul_le_mul_left k' (show ix + 1 ≤ es.length by omega)
          rwa [Nat.mul_add, Nat.mul_one] at this
        have hrun := storeVar_run (P := C.P) (off := k' * ix + off) hs' hh (by omega) hxc.one
        have hw2 : ∀ d ∈ es.set ix (ec.take off ++ p.1 ++ ec.drop (off + p.1.length)), d.length = k' := fun d hd => by
          rcases List.mem_or_eq_of_mem_set hd with hd | hd
          · exact hw1 d hd
          · subst hd; simp; omega
        have hfl := flatten_at hw1 h9
        have hfll := flatten_length hw1
        -- the row behind the store
        have hrow : (es.set ix (ec.take off ++ p.1 ++ ec.drop (off + p.1.length))).flatten = es.flatten.take (k' * ix + off) ++ p.1 ++ es.flatten.drop (k' * ix + off + p.1.length) := by
          rw [set_flatten hw1 (by simp; omega) hixl]
          have e1 : (ec.take off ++ p.1 ++ ec.drop (off + p.1.length)).length = k' := by simp; omega
          rw [e1]
          have e2 : es.flatten.take (k' * ix + off) = es.flatten.take (k' * ix) ++ ec.take off := by
            rw [← hfl, List.take_take, Nat.min_eq_left (by omega), List.take_add]
          have e3 : es.flatten.drop (k' * ix + off + p.1.length) = ec.drop (off + p.1.length) ++ es.flatten.drop (k' * ix + k') := by
            rw [← hfl, List.drop_take]
            rw [List.drop_drop]
            have : es.flatten.drop (k' * ix + k') = (es.flatten.drop (k' * ix + (off + p.1.length))).drop (k' - (off + p.1.length)) := by
              rw [List.drop_drop]; congr 1; omega
            rw [this, List.take_append_drop, Nat.add_assoc]
          rw [e2, e3]
          simp
        have hblk : BlkOk (w.setRow b (vs.take (k' * ix + off) ++ xv.cells.toList ++ vs.drop (k' * ix + off + xv.cells.size)).toArray) m1 φ b n' (.arr k' (es.set ix (ec.take off ++ p.1 ++ ec.drop (off + p.1.length)))) := by
          refine .arr (T := T) (setRow_heap w b _ _ T (0, 0) hh) (by simp; omega) hpos hw2 ?_ (by rw [List.length_set]; exact hfit) hm
          rw [hrow, List.length_set]
          have hcl := hcc.length
          rw [hfll] at hcl
          have e4 : (vs.take (k' * ix + off) ++ xv.cells.toList ++ vs.drop (k' * ix + off + xv.cells.size)).take (k' * es.length) =
              (vs.take (k' * es.length)).take (k' * ix + off) ++ xv.cells.toList ++ (vs.take (k' * es.length)).drop (k' * ix + off + xv.cells.size) := by
            have a1 : (vs.take (k' * ix + off) ++ xv.cells.toList).length = k' * ix + off + xv.cells.size := by simp; omega
            rw [List.take_append, a1, List.take_of_length_le (by rw [a1]; omega), List.drop_take, List.take_take, Nat.min_eq_left (by omega)]
          rw [e4, hpl]
          exact ((hcc.take _).append q1).append (hcc.drop _)
        obtain ⟨k1, k2⟩ := q2.set hst e hm _ hblk
        exact ⟨_, m1, by simp only [Instr.storeAt, Instr.sureAddr, Sem.run_bind, Sem.run_pure, Result.andThen_ok]; exact hrun, k1, q3.trans k2⟩

theorem copy_sound {t u ty : TypeId} {d x v : AV} {dv xv : Value} {st' : Store} {nb : Nat} (hi : Inv w m φ st) (hd : Rep m φ d dv) (hx : Rep m φ x xv) (h : copyA C t d x st = some (v, st')) :
    ∃ y w', (Builtin.copy_ #[t, u] ty #[dv, xv]).run C.P w = .ok y w' ∧ Out w m φ nb v st' y w' := by
  unfold copyA at h
  obtain ⟨e, he, h1⟩ := bnd_eq.1 h
  obtain ⟨k, hk, h2⟩ := bnd_eq.1 h1
  obtain ⟨h3, h4⟩ := tst_eq.1 h2
  have hk0 := of_decide_eq_true h3
  obtain ⟨src, hn, h5⟩ := bnd_eq.1 h4
  have ht := und_slice he
  obtain ⟨cs, hrr⟩ := elems_read (P := C.P) hi hx hn
  have hr := hrr w rfl
  have hcl := hr.cells.length
  rw [flatten_length hr.width] at hcl
  unfold copyTo at h5
  cases hd with
  | junk => simp at h5
  | i => simp at h5
  | own => simp at h5
  | ownE => simp at h5
  | agg => simp at h5
  | tup => simp at h5
  | fn => simp at h5
  | nils =>
    simp only [Option.some.injEq, Prod.mk.injEq] at h5
    obtain ⟨rfl, rfl⟩ := h5
    have hf := hr.first 0 (Nat.zero_le _)
    refine ⟨_, w, ?_, Out.same hi (.i (.lit _))⟩
    simp [Builtin.copy_, goInt, hr.len, hf, run_und ht, run_size hk]
  | @osl id k' off len cap b n ao eφ hlc hcap ha1 ha2 =>
    simp only at h5
    cases hst : st id with
    | none => rw [hst] at h5; simp [copyOsl] at h5
    | some blk =>
      rw [hst] at h5
      obtain ⟨hbl, hok⟩ := blk_at hi eφ hst
      cases hok with
      | box => simp [copyOsl] at h5
      | fbox => simp [copyOsl] at h5
      | frz => simp [copyOsl] at h5
      | @arr T k'' es vs hh hl hpos hw1 hc hfit hm =>
        simp only [copyOsl] at h5
        obtain ⟨h8, h9⟩ := tst_eq.1 h5
        obtain ⟨rfl, rfl, hle⟩ := of_decide_eq_true h8
        simp only [Option.some.injEq, Prod.mk.injEq] at h9
        obtain ⟨rfl, rfl⟩ := h9
        have hmn : Nat.min src.length len = min src.length len := rfl
        have hf := hr.first (min src.length len) (Nat.min_le_left _ _)
        have htl : (src.take len).length = min src.length len := by simp; omega
        have hnews : ICells m (src.take len).flatten (cs.take (min src.length len * k'')) := by
          rw [take_flatten len src hr.width]
          have := hr.cells.take (k'' * len)
          by_cases hc1 : len ≤ src.length
          · rw [Nat.min_eq_right hc1, Nat.mul_comm len]; exact this
          · rw [Nat.min_eq_left (by omega), List.take_of_length_le (l := cs) (by rw [← hcl, Nat.mul_comm]; exact Nat.le_refl _)]
            rw [List.take_of_length_le (l := cs) (by rw [← hcl]; exact Nat.mul_le_mul_left _ (by omega))] at this
            exact this
        have hnl : (cs.take (min src.length len * k'')).length = k'' * min src.length len := by
          rw [List.length_take, ← hcl, Nat.mul_comm]; exact Nat.min_eq_left (Nat.mul_le_mul_left _ (Nat.min_le_left _ _))
        have hwn : ∀ d ∈ over es off (src.take len), d.length = k'' := fun d hd => by
          unfold over at hd
          simp only [List.mem_append] at hd
          rcases hd with (hd | hd) | hd
          · exact hw1 d (List.mem_of_mem_take hd)
          · exact hr.width d (List.mem_of_mem_take hd)
          · exact hw1 d (List.mem_of_mem_drop hd)
        have hol : (over es off (src.take len)).length = es.length := by unfold over; simp; omega
        have hkoff : k'' * off + k'' * min src.length len ≤ k'' * es.length := by
          rw [← Nat.mul_add]; exact Nat.mul_le_mul_left _ (by omega)
        have hflat : (over es off (src.take len)).flatten = es.flatten.take (k'' * off) ++ (src.take len).flatten ++ es.flatten.drop (k'' * off + (src.take len).flatten.length) := by
          unfold over
          have g1 : ∀ (n : Nat) (l : List (List IV)), (∀ e ∈ l, e.length = k'') → (l.drop n).flatten = l.flatten.drop (k'' * n) := by
            intro n
            induction n with
            | zero => intro l _; simp
            | succ n ih =>
              intro l hl
              cases l with
              | nil => simp
              | cons e l =>
                have he := hl e (by simp)
                simp only [List.drop_succ_cons, List.flatten_cons]
                rw [ih l (fun e he => hl e (by simp [he])), List.drop_append, show k'' * (n + 1) = e.length + k'' * n by rw [he, Nat.mul_add]; omega]
                simp
          rw [List.flatten_append, List.flatten_append, take_flatten off es hw1, g1 _ es hw1, flatten_length (fun e he => hr.width e (List.mem_of_mem_take he)), Nat.mul_add]
        have hsl : (src.take len).flatten.length = k'' * min src.length len := by rw [flatten_length (fun e he => hr.width e (List.mem_of_mem_take he)), htl]
        by_cases hc0 : cap = 0
        · have hl0 : len = 0 := by omega
          subst hl0
          have hov : over es off (src.take 0) = es := by unfold over; simp
          rw [hov]
          have hmin : Nat.min src.length 0 = 0 := Nat.min_zero _
          have hf0 := hr.first 0 (Nat.zero_le _)
          refine ⟨goInt 0, w, ?_, ?_⟩
          · cases ao with
            | none => simp [Builtin.copy_, run_und ht, run_size hk, hr.len, hf0]
            | some a => simp [Builtin.copy_, run_und ht, run_size hk, hr.len, hf0, storeCells]
          · have : upd st id (some (Blk.arr k'' es)) = st := by
              funext j; unfold upd; split
              · rename_i e; subst e; exact hst.symm
              · rfl
            rw [this]
            have h0 : ((min src.length 0 : Nat) : Int) = 0 := by simp
            rw [h0]
            exact Out.same hi (.i (.lit _))
        · have hao := ha1 hc0
          subst hao
          have hstore := run_storeCells_at C.P b (k'' * off) T (cs.take (min src.length len * k'')) 0 vs.toArray w hh (by simp only [List.size_toArray]; rw [hnl]; omega) hnews.one
          simp only [Nat.add_zero] at hstore
          have hvl : (vs.take (k'' * off) ++ cs.take (min src.length len * k'') ++ vs.drop (k'' * off + (cs.take (min src.length len * k'')).length)).length = n := by
            rw [List.length_append, List.length_append, hnl, List.length_take, List.length_drop]; omega
          have hblk : BlkOk (w.setRow b (vs.take (k'' * off) ++ cs.take (min src.length len * k'') ++ vs.drop (k'' * off + (cs.take (min src.length len * k'')).length)).toArray) m φ b n (.arr k'' (over es off (src.take len))) := by
            refine .arr (T := T) (setRow_heap w b _ _ T (0, 0) hh) hvl hk0 hwn ?_ (by rw [hol]; exact hfit) hm
            rw [hol, hflat, hsl]
            have e4 : (vs.take (k'' * off) ++ cs.take (min src.length len * k'') ++ vs.drop (k'' * off + (cs.take (min src.length len * k'')).length)).take (k'' * es.length) =
                (vs.take (k'' * es.length)).take (k'' * off) ++ cs.take (min src.length len * k'') ++ (vs.take (k'' * es.length)).drop (k'' * off + k'' * min src.length len) := by
              have a1 : (vs.take (k'' * off) ++ cs.take (min src.length len * k'')).length = k'' * off + k'' * min src.length len := by rw [List.length_append, hnl, List.length_take]; omega
              have a2 : (vs.take (k'' * off) ++ cs.take (min src.length len * k'')).length ≤ k'' * es.length := by rw [a1]; exact hkoff
              have a3 : k'' * off ≤ k'' * es.length := by omega
              rw [List.take_append, List.take_of_length_le a2, a1, hnl, List.drop_take, List.take_take, Nat.min_eq_left a3]
            rw [e4]
            exact ((hc.take _).append hnews).append (hc.drop _)
          obtain ⟨k1, k2⟩ := hi.set hst eφ hm _ hblk
          refine ⟨goInt (min src.length len : Nat), _, ?_, m, φ, .i (.lit _), k1, k2, fun _ h => .inl h⟩
          simp [Builtin.copy_, run_und ht, run_size hk, hr.len, hmn, hf, hstore]
end
end Go.Av

/- Every operation over abstract values is what the model does. No condition. -/
namespace Go.Av
/-- Two structs of a bool and a number may be compared so. -/
def EqOk (P : Program) (t : TypeId) : Prop := ∃ fb fn k, P.underlying t = some (.struct #[fb, fn]) ∧ P.stoodInHeld t = false ∧ P.eqGuardType P.depth t = false ∧
  fb.name ≠ "_" ∧ fn.name ≠ "_" ∧ fb.offset = 0 ∧ fn.offset = 1 ∧ P.underlying fb.type = some .bool ∧ P.underlying fn.type = some (.int k)
structure CtxOk (C : Ctx) : Prop where
  zeros : ZerosOk C.P
  fields : FieldsOk C.P
  eqs : ∀ t, C.eqT t = true → EqOk C.P t

section
variable {C : Ctx} {w : World} {m : Mem} {φ : Pl} {st : Store} {env : Nat → AV} {ρ : Operand → Value}

theorem box_sound {e : TypeId} {xv : Value} {cs : List AV} {nb : Nat} (hi : Inv w m φ st) (hf : ∀ id, nb ≤ id → id < nb + wide → φ id = none) (hx : RepC m φ cs xv.cells.toList) :
    ∃ a w', (newVar e xv).run C.P w = .ok a w' ∧ Out w m φ nb (.own nb 0) (upd st nb (some (.box cs))) (.pointer (some a)) w' := by
  have hnb := hf nb (Nat.le_refl _) (lt_wide nb)
  have hblk : BlkOk (w.alloc (.cells xv.cells e)) m (updP φ nb (w.heap.size, xv.cells.toList.length)) w.heap.size xv.cells.toList.length (.box cs) := by
    refine .box (T := e) (by simpa using heap_push_new w (.cells xv.cells e)) rfl (hx.mono (.refl _) (PLe.updP hnb)) ?_
    intro o
    cases hm : m w.heap.size o with
    | none => rfl
    | some u => exact absurd (hi.mem.lt hm) (by omega)
  obtain ⟨j1, j2⟩ := hi.push hnb _ hblk
  exact ⟨⟨w.heap.size, 0, none⟩, _, by simp [newVar, newRow], m, _, .own (updP_same _ _ _), j1, j2, updP_ids (Nat.le_refl _) (lt_wide nb)⟩

theorem binS_run {op : BinOp} {t : TypeId} {a b : ByteArray} {r : IV} (hs : isShift op = false) (h : binS op a b = some r) (x y : Operand) :
    ∃ v, (do eqGuard op t x y (.string a) (.string b); binOp op t (.string a) (.string b) : Sem Value).run C.P w = .ok v w ∧ IRep m r v := by
  have hg : eqGuard op t x y (.string a) (.string b) = pure () := by cases op <;> rfl
  rw [hg]
  cases op <;> simp [binS, isShift] at h hs <;> first | skip | (cases h; done)
  case add =>
    obtain ⟨h1, h2⟩ := tst_eq.1 h
    have h1 := of_decide_eq_true h1
    injection h2 with h2; subst h2
    have h3 : (a.size : Int) + (b.size : Int) ≤ 9223372036854775807 := by omega
    exact ⟨_, by simp [binOp, Op.stringOp, h3], .lit _⟩
  all_goals (subst h; exact ⟨_, by simp [binOp, Op.stringOp], .lit _⟩)

theorem binI_run {op : BinOp} {t : TypeId} {k : IntKind} {a b : Int} {r : IV} (hs : isShift op = false) (h : binI op k a b = some r) (x y : Operand) :
    ∃ v, (do eqGuard op t x y (.int k a) (.int k b); binOp op t (.int k a) (.int k b) : Sem Value).run C.P w = .ok v w ∧ IRep m r v := by
  have hg : eqGuard op t x y (.int k a) (.int k b) = pure () := by cases op <;> rfl
  rw [hg]
  cases op <;> simp [binI, isShift] at h hs <;> first | skip | (cases h; done)
  case quo =>
    obtain ⟨h1, h2⟩ := tst_eq.1 h
    injection h2 with h2; subst h2
    have h3 : ¬ b = 0 := by simpa using h1
    exact ⟨_, by simp [binOp, Op.intDiv, h3], .lit _⟩
  case rem =>
    obtain ⟨h1, h2⟩ := tst_eq.1 h
    injection h2 with h2; subst h2
    have h3 : ¬ b = 0 := by simpa using h1
    exact ⟨_, by simp [binOp, Op.intDiv, h3], .lit _⟩
  all_goals (subst h; exact ⟨_, by simp [binOp, Op.intArith, Op.intBits, Op.intCmp], .lit _⟩)
theorem shI_run {op : BinOp} {t : TypeId} {k k' : IntKind} {a b : Int} {r : IV} (h : shI op k a b = some r) (x y : Operand) :
    ∃ v, (do eqGuard op t x y (.int k a) (.int k' b); binOp op t (.int k a) (.int k' b) : Sem Value).run C.P w = .ok v w ∧ IRep m r v := by
  have hg : eqGuard op t x y (.int k a) (.int k' b) = pure () := by cases op <;> rfl
  rw [hg]
  cases op <;> simp [shI] at h <;> first | skip | (cases h; done)
  all_goals
    obtain ⟨h1, h2⟩ := tst_eq.1 h
    injection h2 with h2; subst h2
    have h3 : ¬ b < 0 := by have := of_decide_eq_true h1; omega
    exact ⟨_, by simp [binOp, Op.shift, h3], .lit _⟩
theorem binB_run {op : BinOp} {t : TypeId} {a b : Bool} {r : IV} (h : binB op (descK C.P t) a b = some r) (x y : Operand) :
    ∃ v, (do eqGuard op t x y (.bool a) (.bool b); binOp op t (.bool a) (.bool b) : Sem Value).run C.P w = .ok v w ∧ IRep m r v := by
  have hg : eqGuard op t x y (.bool a) (.bool b) = pure () := by cases op <;> rfl
  rw [hg]
  unfold binB at h
  split at h
  · rename_i hd
    have hu := und_descK_bool hd
    injection h with h; subst h
    exact ⟨_, by simp [binOp, Op.equal, Op.maxDepth, run_equalIn_bool _ _ _ _ _ hu], .lit _⟩
  · rename_i hd
    have hu := und_descK_bool hd
    injection h with h; subst h
    exact ⟨_, by simp [binOp, Op.equal, Op.maxDepth, run_equalIn_bool _ _ _ _ _ hu], .lit _⟩
  · cases h
theorem binV_run {op : BinOp} {t : TypeId} {a b : Bool} {n l : Int} {r : IV} (hC : CtxOk C) (h : binV op (C.eqT t) a n b l = some r) (x y : Operand) :
    ∃ v, (do eqGuard op t x y (.agg #[.bool a, .int .i64 n]) (.agg #[.bool b, .int .i64 l]); binOp op t (.agg #[.bool a, .int .i64 n]) (.agg #[.bool b, .int .i64 l]) : Sem Value).run C.P w = .ok v w ∧ IRep m r v := by
  have key : C.eqT t = true → (Op.equalIn 10000 t (.agg #[.bool a, .int .i64 n]) (.agg #[.bool b, .int .i64 l])).run C.P w = .ok (a == b && n == l) w ∧ C.P.eqGuardType C.P.depth t = false := by
    intro he
    obtain ⟨fb, fn, k, h1, h2, h3, h4, h5, h6, h7, h8, h9⟩ := hC.eqs t he
    refine ⟨?_, h3⟩
    have hfo : C.P.fieldsOf t = #[fb, fn] := by simp [Program.fieldsOf, h1]
    rw [run_equalIn_struct w 9999 t _ _ (by rw [hfo]; exact h1) h2, hfo]
    have p1 : ∀ (xs : Array Value) (v : Value), xs[0]? = some v → (part fb.type xs 0).run C.P w = .ok v w := fun xs v hx => by
      simp [part, isAgg, run_underlying h8, hx]
    have p2 : ∀ (xs : Array Value) (v : Value), xs[1]? = some v → (part fn.type xs 1).run C.P w = .ok v w := fun xs v hx => by
      simp [part, isAgg, run_underlying h9, hx]
    simp only [Op.eqFields, h4, h5, h6, h7, ne_eq, not_false_eq_true, if_true, Sem.run_bind]
    rw [p1 _ (.bool a) rfl]
    simp only [Result.andThen_ok]
    rw [p1 _ (.bool b) rfl]
    simp only [Result.andThen_ok]
    rw [run_equalIn_bool w 9998 fb.type a b h8]
    simp only [Result.andThen_ok]
    cases hab : (a == b)
    · simp
    · simp only [Bool.not_true, Bool.false_eq_true, if_false, Sem.run_bind, Bool.true_and]
      rw [p2 _ (.int .i64 n) rfl]
      simp only [Result.andThen_ok]
      rw [p2 _ (.int .i64 l) rfl]
      simp only [Result.andThen_ok]
      rw [run_equalIn_int w 9998 fn.type .i64 k n l h9]
      simp only [Result.andThen_ok]
      cases (n == l) <;> simp
  unfold binV at h
  split at h
  · rename_i he
    obtain ⟨k1, k2⟩ := key (by assumption)
    injection h with h; subst h
    exact ⟨_, by rw [Sem.run_bind, run_eqGuard_agg _ _ _ _ _ _ _ k2, Result.andThen_ok, run_eql_struct, k1, Result.andThen_ok], .lit _⟩
  · rename_i he
    obtain ⟨k1, k2⟩ := key (by assumption)
    injection h with h; subst h
    exact ⟨_, by rw [Sem.run_bind, run_eqGuard_agg _ _ _ _ _ _ _ k2, Result.andThen_ok, run_neq_struct, k1, Result.andThen_ok], .lit _⟩
  · cases h
theorem IRep.lit_eq {v x : Value} (h : IRep m (.lit v) x) : x = v := by cases h; rfl
theorem Rep.lit_eq {v x : Value} (h : Rep m φ (.i (.lit v)) x) : x = v := by cases h with | i h => exact h.lit_eq
theorem Rep.pair_eq {u v x : Value} (h : Rep m φ (.i (.agg [.lit u, .lit v])) x) : x = .agg #[u, v] := by
  cases h with | i h => cases h with | agg h => cases h with | cons a _ b => cases b with | cons b _ c => cases c; rw [a.lit_eq, b.lit_eq]
theorem bin_sound (hC : CtxOk C) {op : BinOp} {t : TypeId} {a b : AV} {r : IV} {av bv : Value} (ha : Rep m φ a av) (hb : Rep m φ b bv) (h : binA C op t a b = some r) (x y : Operand) :
    ∃ v, (do eqGuard op t x y av bv; binOp op t av bv : Sem Value).run C.P w = .ok v w ∧ IRep m r v := by
  unfold binA at h
  split at h
  · rename_i k n k' l
    rw [ha.lit_eq, hb.lit_eq]
    cases hs : isShift op with
    | true => rw [hs] at h; exact shI_run h x y
    | false =>
      rw [hs] at h
      obtain ⟨h1, h2⟩ := tst_eq.1 h
      have h1 := of_decide_eq_true h1
      subst h1
      exact binI_run hs h2 x y
  · rw [ha.lit_eq, hb.lit_eq]
    obtain ⟨h1, h2⟩ := tst_eq.1 h
    exact binS_run (by simpa using h1) h2 x y
  · rw [ha.lit_eq, hb.lit_eq]; exact binB_run h x y
  · rw [ha.pair_eq, hb.pair_eq]; exact binV_run hC h x y
  · cases h
theorem un_sound {op : UnOp} {a : AV} {r : IV} {av : Value} (ha : Rep m φ a av) (h : unA op a = some r) : ∃ v, (Op.unary op av).run C.P w = .ok v w ∧ IRep m r v := by
  unfold unA at h
  split at h
  · rw [ha.lit_eq]; injection h with h; subst h; exact ⟨_, by simp [Op.unary], .lit _⟩
  · rw [ha.lit_eq]; injection h with h; subst h; exact ⟨_, by simp [Op.unary, Op.intArith], .lit _⟩
  · cases h
theorem conv_sound {s d : TypeId} {a r : AV} {av : Value} (ha : Rep m φ a av) (h : convA (descK C.P s) (descK C.P d) a = some r) : ∃ v, (convert s d av).run C.P w = .ok v w ∧ Rep m φ r v := by
  unfold convA at h
  split at h
  · rename_i ds k k' n hs hd
    obtain ⟨us, hus⟩ := und_descK_some hs
    have hud := und_descK_int hd
    rw [ha.lit_eq]; injection h with h; subst h
    exact ⟨_, by simp [convert, run_underlying hus, run_underlying hud, Conv.intToInt], .i (.lit _)⟩
  · rename_i hs hd
    have hus := und_descK_string hs
    have hud := und_descK_string hd
    rw [ha.lit_eq]; injection h with h; subst h
    exact ⟨_, by simp [convert, run_underlying hus, run_underlying hud], .i (.lit _)⟩
  · cases h
theorem pick_sound {c a b r : AV} {cv av bv : Value} (hc : Rep m φ c cv) (ha : Rep m φ a av) (hb : Rep m φ b bv) (h : pickA a b c = some r) :
    ∃ t : Bool, cv = .bool t ∧ Rep m φ r (if t = true then av else bv) := by
  unfold pickA at h
  split at h
  · rename_i t
    refine ⟨t, hc.lit_eq, ?_⟩
    injection h with h; subst h
    cases t
    · exact hb
    · exact ha
  · cases h
theorem nil_sound {a r : AV} {av : Value} (ha : Rep m φ a av) (h : nilA a = some r) :
    Rep m φ r av ∧ ((∃ ad, av = .pointer (some ad)) ∨ ∃ g cs, av = .func (.func g) #[] cs) := by
  unfold nilA at h
  split at h
  · injection h with h; subst h; refine ⟨ha, .inl ?_⟩; cases ha; exact ⟨_, rfl⟩
  · injection h with h; subst h; refine ⟨ha, .inl ?_⟩; cases ha; exact ⟨_, rfl⟩
  · injection h with h; subst h; refine ⟨ha, .inl ?_⟩; cases ha with | i ha => cases ha; exact ⟨_, rfl⟩
  · injection h with h; subst h; refine ⟨ha, .inl ?_⟩; exact ⟨_, ha.lit_eq⟩
  · injection h with h; subst h; refine ⟨ha, .inr ?_⟩; cases ha; exact ⟨_, _, rfl⟩
  · cases h
theorem idxBelow_eq {a : AV} {x : Value} {n j : Nat} (ha : Rep m φ a x) (h : idxBelow a n = some j) : ∃ k i, x = .int k i ∧ 0 ≤ i ∧ i < n ∧ i.toNat = j := by
  unfold idxBelow at h
  split at h
  · obtain ⟨h1, h2⟩ := tst_eq.1 h
    have h1 := of_decide_eq_true h1
    injection h2 with h2
    exact ⟨_, _, ha.lit_eq, h1.1, h1.2, h2⟩
  · cases h
theorem fieldAddr_sound {s : TypeId} {f : Nat} {p : TypeId × Nat} {n : Nat} {a r : AV} {av : Value} (ha : Rep m φ a av) (h1 : fieldT C.P s f = some p) (h2 : szOf C.P p.1 = some n) (h3 : 0 < n) (h : fieldAddrA p.2 a = some r) :
    ∃ v, (Instr.fieldAt s av f).run C.P w = .ok v w ∧ Rep m φ r v := by
  obtain ⟨fs, fd, k1, k2, k3, k4⟩ := fieldT_eq h1
  have hsz : (sizeOf fd.type).run C.P w = .ok n w := by rw [k3]; exact run_size h2 w
  have hrun : ∀ ad : Addr, (Instr.fieldAt s (.pointer (some ad)) f).run C.P w = .ok (.pointer (some (ad.add p.2))) w := fun ad => by
    simp [Instr.fieldAt, run_underlying k1, k2, Instr.sureAddr, fieldPlace, hsz, Nat.ne_of_gt h3, k4]
  unfold fieldAddrA at h
  split at h
  · injection h with h; subst h
    cases ha with | own e => exact ⟨_, hrun _, by rw [Addr.add_none]; exact .own e⟩
  · injection h with h; subst h
    cases ha with | ownE e => exact ⟨_, hrun _, by rw [Addr.add_none, Nat.add_assoc]; exact .ownE e⟩
  · obtain ⟨h4, h5⟩ := tst_eq.1 h
    injection h5 with h5; subst h5
    cases ha with | i ha => cases ha with | iref hat => exact ⟨_, hrun _, by rw [Addr.add_none]; exact .i (.iref (hat.dropE _ (of_decide_eq_true h4)))⟩
  · injection h with h; subst h
    cases ha with | i ha => cases ha with | lit => exact ⟨_, hrun _, by rw [Addr.add_none]; exact .i (.lit _)⟩
  · cases h
theorem part_agg {t : TypeId} {n off : Nat} {g : Bool} {vs : List Value} (hs : szOf C.P t = some n) (hg : aggD (descK C.P t) = some g) :
    (g = true → (part t vs.toArray off).run C.P w = .ok (.agg ((vs.drop off).take n).toArray) w) ∧ (g = false → ∀ x, vs[off]? = some x → (part t vs.toArray off).run C.P w = .ok x w) := by
  constructor
  · intro h; subst h
    simp only [part, Sem.run_bind, run_isAgg hg, run_size hs, Result.andThen_ok, if_true, Sem.run_pure]
    congr 2
    apply Array.ext'
    simp [List.extract_eq_take_drop]
  · intro h x hx; subst h
    simp [part, run_isAgg hg, hx]
theorem cut_rep {cs l : List AV} {vs : List Value} {t : TypeId} {off n : Nat} {g : Bool} {r : AV} (hs : szOf C.P t = some n) (hg : aggD (descK C.P t) = some g) (hc : RepC m φ cs vs) (h : cut cs off n = some l) (h2 : ofCells g l = some r) :
    ∃ x, (part t vs.toArray off).run C.P w = .ok x w ∧ Rep m φ r x := by
  have hp := part_agg (C := C) (w := w) (off := off) (vs := vs) hs hg
  rcases cut_eq h with ⟨rfl, hle⟩ | ⟨rfl, rfl⟩
  · rcases ofCells_rep h2 ((hc.drop off).take n) with ⟨rfl, k⟩ | ⟨rfl, x, hx, k⟩
    · exact ⟨_, hp.1 rfl, k⟩
    · refine ⟨x, hp.2 rfl x ?_, k⟩
      have h0 : ((vs.drop off).take n)[0]? = some x := by rw [hx]; rfl
      rw [List.getElem?_take] at h0
      split at h0
      · rw [List.getElem?_drop] at h0; simpa using h0
      · cases h0
  · cases g with
    | true =>
      refine ⟨_, hp.1 rfl, ?_⟩
      rcases ofCells_rep h2 (.nil (m := m) (φ := φ)) with ⟨_, k⟩ | ⟨h, _⟩
      · simpa using k
      · cases h
    | false => simp [ofCells] at h2
theorem cutI_rep {cs l : List IV} {vs : List Value} {t : TypeId} {off n : Nat} {g : Bool} {r : AV} (hs : szOf C.P t = some n) (hg : aggD (descK C.P t) = some g) (hc : ICells m cs vs) (h : cut cs off n = some l) (h2 : ofCellsI g l = some r) :
    ∃ x, (part t vs.toArray off).run C.P w = .ok x w ∧ Rep m φ r x := by
  have hp := part_agg (C := C) (w := w) (off := off) (vs := vs) hs hg
  rcases cut_eq h with ⟨rfl, hle⟩ | ⟨rfl, rfl⟩
  · rcases ofCellsI_rep (φ := φ) h2 ((hc.drop off).take n) with ⟨rfl, k⟩ | ⟨rfl, x, hx, k⟩
    · exact ⟨_, hp.1 rfl, k⟩
    · refine ⟨x, hp.2 rfl x ?_, k⟩
      have h0 : ((vs.drop off).take n)[0]? = some x := by rw [hx]; rfl
      rw [List.getElem?_take] at h0
      split at h0
      · rw [List.getElem?_drop] at h0; simpa using h0
      · cases h0
  · cases g with
    | true =>
      refine ⟨_, hp.1 rfl, ?_⟩
      rcases ofCellsI_rep (φ := φ) h2 (.nil (m := m)) with ⟨_, k⟩ | ⟨h, _⟩
      · simpa using k
      · cases h
    | false => simp [ofCellsI] at h2
theorem field_sound {s : TypeId} {f : Nat} {p : TypeId × Nat} {n : Nat} {g : Bool} {a r : AV} {av : Value} (ha : Rep m φ a av) (h1 : fieldT C.P s f = some p) (h2 : szOf C.P p.1 = some n) (hg : aggD (descK C.P p.1) = some g) (h : fieldA p.2 n g a = some r) :
    ∃ v, (Instr.field s av f).run C.P w = .ok v w ∧ Rep m φ r v := by
  obtain ⟨fs, fd, k1, k2, k3, k4⟩ := fieldT_eq h1
  have hrun : ∀ (vs : List Value) (x : Value), (part p.1 vs.toArray p.2).run C.P w = .ok x w → (Instr.field s (.agg vs.toArray) f).run C.P w = .ok x w := fun vs x hx => by
    simp [Instr.field, run_underlying k1, k2, asAgg, k3, k4, hx]
  unfold fieldA at h
  split at h
  · obtain ⟨l, h3, h4⟩ := bnd_eq.1 h
    cases ha with
    | agg hc => obtain ⟨x, j1, j2⟩ := cut_rep (w := w) h2 hg hc h3 h4; exact ⟨x, hrun _ _ j1, j2⟩
  · obtain ⟨l, h3, h4⟩ := bnd_eq.1 h
    cases ha with
    | i ha => cases ha with
      | agg hc => obtain ⟨x, j1, j2⟩ := cutI_rep (w := w) h2 hg hc h3 h4; exact ⟨x, hrun _ _ j1, j2⟩
  · cases h
theorem indexAddr_sound {t : TypeId} {x ix r : AV} {xv iv : Value} (hx : Rep m φ x xv) (hix : Rep m φ ix iv) (h : indexAddrA C x ix (descK C.P t) = some r) :
    ∃ v, (Instr.indexAt t xv iv).run C.P w = .ok v w ∧ Rep m φ r v := by
  unfold indexAddrA at h
  split at h
  · rename_i e hd
    have hu := und_descK_slice hd
    obtain ⟨k, hk, h1⟩ := bnd_eq.1 h
    have hrun : ∀ (a : Addr) (len cap : Nat) (q : IntKind) (i : Int), 0 ≤ i → i < len → (Instr.indexAt t (.slice (some a) len cap) (.int q i)).run C.P w = .ok (.pointer (some (a.add (i.toNat * k)))) w := fun a len cap q i h0 hl => by
      simp [Instr.indexAt, run_underlying hu, asIntOf, h0, hl, run_size hk]
    unfold indexSl at h1
    split at h1
    · rename_i es
      obtain ⟨j, h2, h3⟩ := bnd_eq.1 h1
      obtain ⟨cs, h4, h5⟩ := bnd_eq.1 h3
      rw [nthE_eq] at h4
      obtain ⟨h6, h7⟩ := tst_eq.1 h5
      injection h7 with h7; subst h7
      obtain ⟨q, i, rfl, i0, i1, i2⟩ := idxBelow_eq hix h2
      have h6 : cs.length = k := by simpa using h6
      cases hx with
      | i hx =>
        cases hx with
        | isl0 => simp at h4
        | isl hn he hcap =>
          obtain ⟨hat, hel⟩ := elems_at he h4
          refine ⟨_, hrun _ _ _ q i i0 i1, ?_⟩
          rw [Addr.add_none, i2]
          rw [h6] at hel
          subst hel
          rw [Nat.mul_comm]
          exact .i (.iref hat)
    · rename_i id k' off len
      obtain ⟨j, h2, h3⟩ := bnd_eq.1 h1
      obtain ⟨h6, h7⟩ := tst_eq.1 h3
      injection h7 with h7; subst h7
      have h6 : k' = k := by simpa using h6
      subst h6
      obtain ⟨q, i, rfl, i0, i1, i2⟩ := idxBelow_eq hix h2
      cases hx with
      | osl eφ hlc hcap ha1 ha2 =>
        rw [ha1 (by omega)]
        refine ⟨_, hrun _ _ _ q i i0 i1, ?_⟩
        rw [Addr.add_none, i2, show k' * off + j * k' = k' * (off + j) + 0 by rw [Nat.mul_add, Nat.mul_comm j]; omega]
        exact .ownE eφ
    · rename_i b off len cap
      obtain ⟨j, h2, h3⟩ := bnd_eq.1 h1
      injection h3 with h3; subst h3
      obtain ⟨q, i, rfl, i0, i1, i2⟩ := idxBelow_eq hix h2
      rw [hx.lit_eq]
      refine ⟨_, hrun _ _ _ q i i0 i1, ?_⟩
      rw [Addr.add_none, i2]
      exact .i (.lit _)
    · cases h1
  · rename_i n e hd
    have hu := und_descK_array hd
    obtain ⟨k, hk, h1⟩ := bnd_eq.1 h
    unfold indexAr at h1
    split at h1
    · obtain ⟨j, h2, h3⟩ := bnd_eq.1 h1
      injection h3 with h3; subst h3
      obtain ⟨q, i, rfl, i0, i1, i2⟩ := idxBelow_eq hix h2
      cases hx with
      | own eφ =>
        refine ⟨_, by simp [Instr.indexAt, run_underlying hu, asIntOf, i0, i1, run_size hk, Instr.sureAddr]; rfl, ?_⟩
        rw [Addr.add_none, i2]
        exact .own eφ
    · cases h1
  · cases h
theorem index_sound {t : TypeId} {x ix r : AV} {xv iv : Value} (hx : Rep m φ x xv) (hix : Rep m φ ix iv) (h : indexA C ix (descK C.P t) x = some r) :
    ∃ v, (Instr.index t xv iv).run C.P w = .ok v w ∧ Rep m φ r v := by
  unfold indexA at h
  split at h
  · rename_i s hd
    have hu := und_descK_string hd
    obtain ⟨j, h2, h3⟩ := bnd_eq.1 h
    obtain ⟨b, h4, h5⟩ := bnd_eq.1 h3
    rw [nthE_eq, Array.getElem?_toList] at h4
    injection h5 with h5; subst h5
    obtain ⟨q, i, rfl, i0, i1, i2⟩ := idxBelow_eq hix h2
    rw [hx.lit_eq]
    have hb : s[i.toNat]? = some b := by
      rw [i2]
      obtain ⟨hlt, hget⟩ := Array.getElem?_eq_some_iff.1 h4
      have hlt' : j < s.size := hlt
      rw [getElem?_pos s j hlt']
      exact congrArg some hget
    exact ⟨_, by simp [Instr.index, run_underlying hu, asIntOf, i0, hb], .i (.lit _)⟩
  · rename_i n e cs hd
    have hu := und_descK_array hd
    obtain ⟨k, hk, h1⟩ := bnd_eq.1 h
    obtain ⟨g, hg, h2⟩ := bnd_eq.1 h1
    obtain ⟨j, h3, h4⟩ := bnd_eq.1 h2
    obtain ⟨l, h5, h6⟩ := bnd_eq.1 h4
    obtain ⟨q, i, rfl, i0, i1, i2⟩ := idxBelow_eq hix h3
    cases hx with
    | i hx => cases hx with
      | agg hc =>
        obtain ⟨y, j1, j2⟩ := cutI_rep (w := w) (φ := φ) hk hg hc h5 h6
        exact ⟨y, by simp [Instr.index, run_underlying hu, asIntOf, i0, i1, run_size hk, i2, j1], j2⟩
  · cases h
theorem extract_sound {x r : AV} {xv : Value} {j : Nat} (hx : Rep m φ x xv) (h : extractA j x = some r) : ∃ v, (Instr.extract xv j).run C.P w = .ok v w ∧ Rep m φ r v := by
  unfold extractA at h
  split at h
  · cases hx with
    | tup hl =>
      have key : ∀ {cs : List AV} {vs : List Value} {j : Nat} {r : AV}, RepL m φ cs vs → cs[j]? = some r → ∃ v, vs[j]? = some v ∧ Rep m φ r v := by
        intro cs
        induction cs with
        | nil => intro vs j r _ h; simp at h
        | cons c cs ih =>
          intro vs j r hl h
          cases hl with
          | cons a b =>
            cases j with
            | zero => simp at h; subst h; exact ⟨_, rfl, a⟩
            | succ j => obtain ⟨v, h1, h2⟩ := ih b (by simpa using h); exact ⟨v, by simpa using h1, h2⟩
      obtain ⟨v, h1, h2⟩ := key hl h
      exact ⟨v, by simp [Instr.extract, h1], h2⟩
  · cases h
theorem idxUpto_run {o : Option AV} {v : Option Value} {dflt n h : Nat} (hr : ∀ a, o = some a → ∃ x, v = some x ∧ Rep m φ a x) (hn : o = none → v = none) (e : idxUpto o dflt n = some h) :
    (o = none ∧ v = none ∧ h = dflt) ∨ ∃ k i, v = some (.int k i) ∧ 0 ≤ i ∧ i ≤ n ∧ h = i.toNat := by
  unfold idxUpto at e
  split at e
  · injection e with e; exact .inl ⟨rfl, hn rfl, e.symm⟩
  · obtain ⟨h1, h2⟩ := tst_eq.1 e
    have h1 := of_decide_eq_true h1
    injection h2 with h2
    obtain ⟨x, rfl, hx⟩ := hr _ rfl
    exact .inr ⟨_, _, by rw [hx.lit_eq], h1.1, h1.2, h2.symm⟩
  · cases e
theorem bounds_run {isSlice : Bool} {len cap : Nat} {lo hi : Option AV} {lv hv : Option Value} {l h : Nat} (hlc : len ≤ cap)
    (r1 : ∀ a, lo = some a → ∃ x, lv = some x ∧ Rep m φ a x) (n1 : lo = none → lv = none) (r2 : ∀ a, hi = some a → ∃ x, hv = some x ∧ Rep m φ a x) (n2 : hi = none → hv = none)
    (e1 : idxUpto hi len len = some h) (e2 : idxUpto lo 0 h = some l) :
    (Instr.sliceBounds isSlice len cap lv hv none).run C.P w = .ok (l, h, cap) w ∧ l ≤ h ∧ h ≤ len := by
  have q2 := idxUpto_run r2 n2 e1
  have q1 := idxUpto_run r1 n1 e2
  rcases q2 with ⟨_, rfl, rfl⟩ | ⟨k, i, rfl, i0, i1, rfl⟩
  · rcases q1 with ⟨_, rfl, rfl⟩ | ⟨k', j, rfl, j0, j1, rfl⟩
    · exact ⟨by simp [Instr.sliceBounds], by omega, by omega⟩
    · exact ⟨by simp [Instr.sliceBounds, Instr.sliceBound, asIntOf, j0, j1], by omega, by omega⟩
  · have i2 : i ≤ (cap : Int) := by omega
    rcases q1 with ⟨_, rfl, rfl⟩ | ⟨k', j, rfl, j0, j1, rfl⟩
    · exact ⟨by simp [Instr.sliceBounds, Instr.sliceBound, asIntOf, i0, i2], by omega, by omega⟩
    · have j2 : j ≤ i := by omega
      exact ⟨by simp [Instr.sliceBounds, Instr.sliceBound, asIntOf, i0, i2, j0, j2, Int.toNat_of_nonneg i0], by omega, by omega⟩
end
end Go.Av

/- One step of the abstract executor is one operation of the model. No condition. -/
namespace Go.Av
section
variable {C : Ctx} {w : World} {m : Mem} {φ : Pl} {st : Store} {env : Nat → AV} {ρ : Operand → Value}

theorem slice_sound {t : TypeId} {x r : AV} {xv : Value} {lo hi : Option AV} {lv hv : Option Value} (hx : Rep m φ x xv)
    (r1 : ∀ a, lo = some a → ∃ x, lv = some x ∧ Rep m φ a x) (n1 : lo = none → lv = none) (r2 : ∀ a, hi = some a → ∃ x, hv = some x ∧ Rep m φ a x) (n2 : hi = none → hv = none)
    (h : sliceA C t lo hi x = some r) :
    ∃ v, (Instr.sliceAt t xv lv hv none).run C.P w = .ok v w ∧ Rep m φ r v := by
  unfold sliceA at h
  split at h
  · rename_i s
    obtain ⟨hd, h0⟩ := tst_eq.1 h
    obtain ⟨h', e1, h1⟩ := bnd_eq.1 h0
    obtain ⟨l, e2, h2⟩ := bnd_eq.1 h1
    injection h2 with h2; subst h2
    have hu : C.P.underlying t = some .string := by
      unfold isStrD at hd
      split at hd
      · rename_i hd'; exact und_descK_string hd'
      · cases hd
    obtain ⟨k1, k2, k3⟩ := bounds_run (w := w) (C := C) (isSlice := false) (Nat.le_refl s.size) r1 n1 r2 n2 e1 e2
    rw [hx.lit_eq]
    exact ⟨_, by simp [Instr.sliceAt, Instr.slice, run_underlying hu, k1], .i (.lit _)⟩
  · rename_i es
    obtain ⟨e, he, h1⟩ := bnd_eq.1 h
    obtain ⟨k, hk, h2⟩ := bnd_eq.1 h1
    obtain ⟨hw1, h3⟩ := tst_eq.1 h2
    obtain ⟨h', e1, h4⟩ := bnd_eq.1 h3
    obtain ⟨l, e2, h5⟩ := bnd_eq.1 h4
    injection h5 with h5; subst h5
    have hu := und_slice he
    have hwd := widths_eq hw1
    cases hx with
    | i hx =>
      cases hx with
      | isl0 ao cap hc =>
        obtain ⟨k1, k2, k3⟩ := bounds_run (w := w) (C := C) (isSlice := true) (Nat.zero_le cap) r1 n1 r2 n2 (by simpa using e1) e2
        have hl0 : l = 0 := by omega
        have hh0 : h' = 0 := by omega
        subst hl0; subst hh0
        refine ⟨_, by simp [Instr.sliceAt, Instr.slice, run_underlying hu, k1, run_size hk]; rfl, ?_⟩
        have : window ([] : List (List IV)) 0 0 = [] := rfl
        rw [this]
        split
        · exact .i (.isl0 _ _ hc)
        · refine .i (.isl0 _ _ fun h => ?_)
          cases ao with
          | none => exact hc rfl
          | some a => simp at h
      | @isl b off k' _ cap hn hel hcap =>
        obtain ⟨k1, k2, k3⟩ := bounds_run (w := w) (C := C) (isSlice := true) hcap r1 n1 r2 n2 e1 e2
        have hkk : k' = k := by
          cases es with
          | nil => exact absurd rfl hn
          | cons e0 es => exact (elems_len hel e0 (by simp)).symm.trans (hwd e0 (by simp))
        subst hkk
        refine ⟨_, by simp [Instr.sliceAt, Instr.slice, run_underlying hu, k1, run_size hk]; rfl, ?_⟩
        have hwn : (window es l (h' - l)).length = h' - l := by unfold window; simp; omega
        by_cases h0 : h' - l = 0
        · rw [h0]
          have : window es l 0 = [] := by simp [window]
          rw [this]
          split
          · exact .i (.isl0 _ _ fun h => by cases h)
          · exact .i (.isl0 _ _ fun h => by cases h)
        · have hcl : ¬ cap = l := by omega
          simp only [hcl, if_false]
          rw [Addr.add_none, Nat.mul_comm l]
          have hel' := elems_window l (h' - l) hel
          have hne : window es l (h' - l) ≠ [] := fun h => by rw [h] at hwn; simp at hwn; omega
          have := Rep.i (φ := φ) (IRep.isl (cap := cap - l) hne hel' (by rw [hwn]; omega))
          rwa [hwn] at this
  · rename_i id k off len
    obtain ⟨e, he, h1⟩ := bnd_eq.1 h
    obtain ⟨k', hk, h2⟩ := bnd_eq.1 h1
    obtain ⟨hw1, h3⟩ := tst_eq.1 h2
    have hw1 := of_decide_eq_true hw1
    subst hw1
    obtain ⟨h', e1, h4⟩ := bnd_eq.1 h3
    obtain ⟨l, e2, h5⟩ := bnd_eq.1 h4
    injection h5 with h5; subst h5
    have hu := und_slice he
    cases hx with
    | @osl _ _ _ _ cap b n ao eφ hlc hcap ha1 ha2 =>
      obtain ⟨k1, k2, k3⟩ := bounds_run (w := w) (C := C) (isSlice := true) hlc r1 n1 r2 n2 e1 e2
      refine ⟨_, by simp [Instr.sliceAt, Instr.slice, run_underlying hu, k1, run_size hk]; rfl, ?_⟩
      by_cases hcl : cap = l
      · simp only [hcl, if_true, Nat.sub_self]
        have : h' - l = 0 := by omega
        rw [this]
        refine .osl eφ (Nat.le_refl _) ?_ (fun h => absurd rfl h) (fun _ => rfl)
        rw [Nat.add_zero]
        subst hcl; exact hcap
      · simp only [hcl, if_false]
        have hao := ha1 (by omega)
        subst hao
        refine .osl eφ (by omega) ?_ (fun _ => ?_) (fun h => by simp at h)
        · rw [show off + l + (cap - l) = off + cap by omega]; exact hcap
        · simp only [Option.map_some, Addr.add_none]
          rw [Nat.mul_add, Nat.mul_comm l]
  · obtain ⟨e, he, h1⟩ := bnd_eq.1 h
    obtain ⟨k, hk, h2⟩ := bnd_eq.1 h1
    obtain ⟨h', e1, h4⟩ := bnd_eq.1 h2
    obtain ⟨l, e2, h5⟩ := bnd_eq.1 h4
    injection h5 with h5; subst h5
    have hu := und_slice he
    cases hx with
    | nils =>
      obtain ⟨k1, k2, k3⟩ := bounds_run (w := w) (C := C) (isSlice := true) (Nat.le_refl 0) r1 n1 r2 n2 e1 e2
      have hl0 : l = 0 := by omega
      have hh0 : h' = 0 := by omega
      subst hl0; subst hh0
      exact ⟨_, by simp [Instr.sliceAt, Instr.slice, run_underlying hu, k1, run_size hk], .nils⟩
  · cases h

theorem len_sound {t ty : TypeId} {x : AV} {xv : Value} {n : Nat} (hx : Rep m φ x xv) (h : lenA (descK C.P t) x = some n) : (Builtin.len_ #[t] ty #[xv]).run C.P w = .ok (goInt n) w := by
  unfold lenA at h
  split at h
  · rename_i e hd
    have hu := und_descK_slice hd
    injection h with h; subst h
    cases hx with | nils => simp [Builtin.len_, run_underlying hu]
  · rename_i e es hd
    have hu := und_descK_slice hd
    injection h with h; subst h
    cases hx with
    | i hx => cases hx <;> simp [Builtin.len_, run_underlying hu]
  · rename_i e id k off len hd
    have hu := und_descK_slice hd
    injection h with h; subst h
    cases hx with | osl => simp [Builtin.len_, run_underlying hu]
  · rename_i e a len cap hd
    have hu := und_descK_slice hd
    injection h with h; subst h
    rw [hx.lit_eq]
    simp [Builtin.len_, run_underlying hu]
  · rename_i s hd
    have hu := und_descK_string hd
    injection h with h; subst h
    rw [hx.lit_eq]
    simp [Builtin.len_, run_underlying hu]
  · cases h
theorem args2 {a b : AV} {vs : List Value} (h : RepL m φ [a, b] vs) : ∃ x y, vs = [x, y] ∧ Rep m φ a x ∧ Rep m φ b y := by
  cases h with | cons a h => cases h with | cons b h => cases h; exact ⟨_, _, rfl, a, b⟩
theorem args1 {a : AV} {vs : List Value} (h : RepL m φ [a] vs) : ∃ x, vs = [x] ∧ Rep m φ a x := by
  cases h with | cons a h => cases h; exact ⟨_, rfl, a⟩
theorem min_sound {args : List AV} {vs : List Value} {r : AV} {ts : Array TypeId} {ty : TypeId} (hx : RepL m φ args vs) (h : minmaxA .min args = some r) : ∃ v, (Builtin.min_ ts ty vs.toArray).run C.P w = .ok v w ∧ Rep m φ r v := by
  unfold minmaxA at h
  split at h
  · injection h with h; subst h
    obtain ⟨x, y, rfl, k1, k2⟩ := args2 hx
    rw [k1.lit_eq, k2.lit_eq]
    exact ⟨_, by simp [Builtin.min_, Builtin.min2], .i (.lit _)⟩
  · rename_i hq; cases hq
  · cases h
theorem max_sound {args : List AV} {vs : List Value} {r : AV} {ts : Array TypeId} {ty : TypeId} (hx : RepL m φ args vs) (h : minmaxA .max args = some r) : ∃ v, (Builtin.max_ ts ty vs.toArray).run C.P w = .ok v w ∧ Rep m φ r v := by
  unfold minmaxA at h
  split at h
  · rename_i hq; cases hq
  · injection h with h; subst h
    obtain ⟨x, y, rfl, k1, k2⟩ := args2 hx
    rw [k1.lit_eq, k2.lit_eq]
    exact ⟨_, by simp [Builtin.max_, Builtin.max2], .i (.lit _)⟩
  · cases h

/-- The operands of the operations that are covered. -/
def opsOf : Op → List Operand
  | .move x => [x]
  | .assign x => [x]
  | .pick c a b => [c, a, b]
  | .box _ x => [x]
  | .build _ parts => partOps parts.toList
  | .buildSlice _ _ parts => partOps parts.toList
  | .load _ a => [a]
  | .store _ a x => [a, x]
  | .nilCheck x => [x]
  | .binOp _ _ x y _ => [x, y]
  | .unOp _ _ x => [x]
  | .convert _ _ x => [x]
  | .makeSlice _ l c => [l, c]
  | .slice _ x lo hi _ => x :: (lo.toList ++ hi.toList)
  | .fieldAddr _ x _ => [x]
  | .field _ x _ => [x]
  | .indexAddr _ x i => [x, i]
  | .index _ x i => [x, i]
  | .extract x _ => [x]
  | .makeFunc _ _ cs => cs.toList
  | .call ⟨.value f, args, _⟩ => f :: args.toList
  | .call ⟨_, args, _⟩ => args.toList
  | _ => []
def opOk (o : Op) : Bool := (opsOf o).all opdOk
theorem evL_rep (hρ : Fits m φ env ρ) : ∀ {l : List Operand}, (∀ x ∈ l, opdOk x = true) → RepL m φ (evL env l) (l.map ρ)
  | [], _ => .nil
  | x :: l, h => .cons (hρ x (h x (by simp))) (evL_rep hρ fun y hy => h y (by simp [hy]))
theorem mem_partOps {l : List (Nat × Operand)} {p : Nat × Operand} (h : p ∈ l) : p.2 ∈ partOps l := by
  induction l with
  | nil => cases h
  | cons q l ih =>
    rcases List.mem_cons.1 h with rfl | h
    · simp [partOps]
    · simp [partOps, ih h]
theorem zero_rep (hz : ZerosOk C.P) {t : TypeId} {z : List Value} (h : zeroOf C.P t = some z) : RepC m φ (litCells z) z := litCells_rep m φ z (hz t z h)
/-- What an operation gives: a value, or nothing where the value is not asked for. -/
def GaveOk (nx : Next) (y : Value) : Prop := nx = .value y ∨ (nx = .skip ∧ y = undef)
theorem stepP_sound (hC : CtxOk C) {nb : Nat} {o : Oper} {v : AV} {st' : Store} (hi : Inv w m φ st) (hf : ∀ id, nb ≤ id → id < nb + wide → φ id = none) (hρ : Fits m φ env ρ) (ho : opOk o.op = true)
    (h : stepP C env st nb o.op = some (v, st')) : ∃ nx y w', (execOp ρ o).run C.P w = .ok nx w' ∧ GaveOk nx y ∧ Out w m φ nb v st' y w' := by
  have hall : ∀ x ∈ opsOf o.op, opdOk x = true := fun x hx => List.all_eq_true.1 ho x hx
  unfold execOp
  unfold stepP at h
  split at h
  -- move, assign
  · rename_i x e
    rw [e] at hall
    simp only [e]
    injection h with h; injection h with h1 h2; subst h1; subst h2
    exact ⟨_, _, w, by simp, .inl rfl, Out.same hi (hρ x (hall x (by simp [opsOf])))⟩
  · rename_i x e
    rw [e] at hall
    simp only [e]
    injection h with h; injection h with h1 h2; subst h1; subst h2
    exact ⟨_, _, w, by simp, .inl rfl, Out.same hi (hρ x (hall x (by simp [opsOf])))⟩
  -- pick
  · rename_i c a b e
    rw [e] at hall
    simp only [e]
    obtain ⟨v', h1, h2⟩ := bnd_eq.1 h
    injection h2 with h2; injection h2 with h2 h3; subst h2; subst h3
    obtain ⟨t, h4, h5⟩ := pick_sound (hρ c (hall c (by simp [opsOf]))) (hρ a (hall a (by simp [opsOf]))) (hρ b (hall b (by simp [opsOf]))) h1
    refine ⟨_, _, w, ?_, .inl rfl, Out.same hi h5⟩
    rw [h4]
    simp [asBool]
  -- alloc
  · rename_i t e
    simp only [e]
    obtain ⟨z, h1, h2⟩ := bnd_eq.1 h
    injection h2 with h2; injection h2 with h2 h3; subst h2; subst h3
    obtain ⟨zv, h4, h5⟩ := run_zero h1 w
    obtain ⟨a, w', h6, h7⟩ := box_sound (C := C) (e := t) (xv := zv) hi hf (by rw [h5]; exact zero_rep hC.zeros h1)
    exact ⟨_, _, w', by simp [Instr.alloc, h4, h6], .inl rfl, h7⟩
  -- box
  · rename_i t x e
    rw [e] at hall
    simp only [e]
    obtain ⟨cs, h1, h2⟩ := bnd_eq.1 h
    injection h2 with h2; injection h2 with h2 h3; subst h2; subst h3
    obtain ⟨a, w', h6, h7⟩ := box_sound (C := C) (e := t) hi hf (cellsOf_rep h1 (hρ x (hall x (by simp [opsOf]))))
    exact ⟨_, _, w', by simp [Instr.box, h6], .inl rfl, h7⟩
  -- build
  · rename_i t parts e
    rw [e] at hall
    simp only [e]
    obtain ⟨g, hg, h1⟩ := bnd_eq.1 h
    obtain ⟨rfl, h2⟩ := tst_eq.1 h1
    obtain ⟨z, hz, h3⟩ := bnd_eq.1 h2
    obtain ⟨ps, hps, h4⟩ := bnd_eq.1 h3
    obtain ⟨cs, hcs, h5⟩ := bnd_eq.1 h4
    injection h5 with h5; injection h5 with h5 h6; subst h5; subst h6
    obtain ⟨out, k1, k2⟩ := build_run (w := w) hC.zeros hC.fields hρ (fun p hp => hall _ (by simpa [opsOf] using mem_partOps hp)) hz hps hcs hg
    refine ⟨_, .agg out, w, by simp [k1], .inl rfl, Out.same hi ?_⟩
    have := mkAgg_rep k2
    simpa using this
  -- buildSlice
  · rename_i t n parts e
    rw [e] at hall
    simp only [e]
    obtain ⟨el, he, h1⟩ := bnd_eq.1 h
    obtain ⟨ps, hps, h2⟩ := bnd_eq.1 h1
    have hpr := partsOf_rep hρ (fun p hp => hall _ (by simpa [opsOf] using mem_partOps hp)) hps
    obtain ⟨y, w', k1, k2⟩ := sliceLit_sound (w := w) hC.zeros hi hf (und_slice he) hpr h2 (parts.map fun p => (p.1, ρ p.2)) (by simp)
    exact ⟨_, _, w', by simp [k1], .inl rfl, k2⟩
  -- load
  · rename_i t a e
    rw [e] at hall
    simp only [e]
    obtain ⟨v', h1, h2⟩ := bnd_eq.1 h
    injection h2 with h2; injection h2 with h2 h3; subst h2; subst h3
    obtain ⟨ad, y, k1, k2, k3⟩ := loadA_sound hi (hρ a (hall a (by simp [opsOf]))) h1
    exact ⟨_, _, w, by simp [Instr.loadAt, Instr.sureAddr, k1, k2], .inl rfl, Out.same hi k3⟩
  -- store
  · rename_i t a x e
    rw [e] at hall
    simp only [e]
    obtain ⟨st1, h1, h2⟩ := bnd_eq.1 h
    injection h2 with h2; injection h2 with h2 h3; subst h2; subst h3
    obtain ⟨w', m', k1, k2, k3⟩ := storeA_sound hi (hρ a (hall a (by simp [opsOf]))) (hρ x (hall x (by simp [opsOf]))) h1
    exact ⟨_, _, w', by simp [k1], .inr ⟨rfl, rfl⟩, m', φ, .i (.lit _), k2, k3, fun _ h => .inl h⟩
  -- nilCheck
  · rename_i x e
    rw [e] at hall
    simp only [e]
    obtain ⟨v', h1, h2⟩ := bnd_eq.1 h
    injection h2 with h2; injection h2 with h2 h3; subst h2; subst h3
    obtain ⟨k1, k2⟩ := nil_sound (hρ x (hall x (by simp [opsOf]))) h1
    refine ⟨_, ρ x, w, ?_, .inl rfl, Out.same hi k1⟩
    rcases k2 with ⟨ad, k2⟩ | ⟨g, cs, k2⟩ <;> simp [k2]
  -- binOp
  · rename_i op t x y ty e
    rw [e] at hall
    simp only [e]
    obtain ⟨r, h1, h2⟩ := bnd_eq.1 h
    injection h2 with h2; injection h2 with h2 h3; subst h2; subst h3
    obtain ⟨v', k1, k2⟩ := bin_sound (w := w) hC (hρ x (hall x (by simp [opsOf]))) (hρ y (hall y (by simp [opsOf]))) h1 x y
    refine ⟨_, _, w, ?_, .inl rfl, Out.same hi (.i k2)⟩
    rw [Sem.run_bind, k1]
    simp
  -- unOp
  · rename_i op ty x e
    rw [e] at hall
    simp only [e]
    obtain ⟨r, h1, h2⟩ := bnd_eq.1 h
    injection h2 with h2; injection h2 with h2 h3; subst h2; subst h3
    obtain ⟨v', k1, k2⟩ := un_sound (C := C) (w := w) (hρ x (hall x (by simp [opsOf]))) h1
    exact ⟨_, _, w, by simp [k1], .inl rfl, Out.same hi (.i k2)⟩
  -- convert
  · rename_i s d x e
    rw [e] at hall
    simp only [e]
    obtain ⟨r, h1, h2⟩ := bnd_eq.1 h
    injection h2 with h2; injection h2 with h2 h3; subst h2; subst h3
    obtain ⟨v', k1, k2⟩ := conv_sound (C := C) (w := w) (hρ x (hall x (by simp [opsOf]))) h1
    exact ⟨_, _, w, by simp [k1], .inl rfl, Out.same hi k2⟩
  -- makeSlice
  · rename_i t l c e
    rw [e] at hall
    simp only [e]
    obtain ⟨y, w', k1, k2⟩ := make_sound hC.zeros hi hf (hρ l (hall l (by simp [opsOf]))) (hρ c (hall c (by simp [opsOf]))) h
    exact ⟨_, _, w', by simp [k1], .inl rfl, k2⟩
  -- slice
  · rename_i t x lo hi' e
    rw [e] at hall
    simp only [e]
    obtain ⟨r, h1, h2⟩ := bnd_eq.1 h
    injection h2 with h2; injection h2 with h2 h3; subst h2; subst h3
    have q : ∀ (l : Option Operand), (∀ x ∈ l.toList, opdOk x = true) → (∀ a, evO env l = some a → ∃ x, l.map ρ = some x ∧ Rep m φ a x) ∧ (evO env l = none → l.map ρ = none) := by
      intro l hl
      cases l with
      | none => exact ⟨fun a h => (by cases h), fun _ => rfl⟩
      | some x => exact ⟨fun a h => (by injection h with h; subst h; exact ⟨_, rfl, hρ x (hl x (by simp))⟩), fun h => (by cases h)⟩
    obtain ⟨q1, q2⟩ := q lo fun x hx => hall x (by simp [opsOf] at hx ⊢; simp [hx])
    obtain ⟨q3, q4⟩ := q hi' fun x hx => hall x (by simp [opsOf] at hx ⊢; simp [hx])
    obtain ⟨v', k1, k2⟩ := slice_sound (C := C) (w := w) (hρ x (hall x (by simp [opsOf]))) q1 q2 q3 q4 h1
    exact ⟨_, _, w, by simp [k1], .inl rfl, Out.same hi k2⟩
  -- fieldAddr
  · rename_i s x f e
    rw [e] at hall
    simp only [e]
    obtain ⟨p, h1, h2⟩ := bnd_eq.1 h
    obtain ⟨n, h3, h4⟩ := bnd_eq.1 h2
    obtain ⟨h5, h6⟩ := tst_eq.1 h4
    obtain ⟨r, h7, h8⟩ := bnd_eq.1 h6
    injection h8 with h8; injection h8 with h8 h9; subst h8; subst h9
    obtain ⟨v', k1, k2⟩ := fieldAddr_sound (w := w) (hρ x (hall x (by simp [opsOf]))) h1 h3 (of_decide_eq_true h5) h7
    exact ⟨_, _, w, by simp [k1], .inl rfl, Out.same hi k2⟩
  -- field
  · rename_i s x f e
    rw [e] at hall
    simp only [e]
    obtain ⟨p, h1, h2⟩ := bnd_eq.1 h
    obtain ⟨n, h3, h4⟩ := bnd_eq.1 h2
    obtain ⟨g, h5, h6⟩ := bnd_eq.1 h4
    obtain ⟨r, h7, h8⟩ := bnd_eq.1 h6
    injection h8 with h8; injection h8 with h8 h9; subst h8; subst h9
    obtain ⟨v', k1, k2⟩ := field_sound (w := w) (hρ x (hall x (by simp [opsOf]))) h1 h3 h5 h7
    exact ⟨_, _, w, by simp [k1], .inl rfl, Out.same hi k2⟩
  -- indexAddr
  · rename_i t x ix e
    rw [e] at hall
    simp only [e]
    obtain ⟨r, h1, h2⟩ := bnd_eq.1 h
    injection h2 with h2; injection h2 with h2 h3; subst h2; subst h3
    obtain ⟨v', k1, k2⟩ := indexAddr_sound (w := w) (hρ x (hall x (by simp [opsOf]))) (hρ ix (hall ix (by simp [opsOf]))) h1
    exact ⟨_, _, w, by simp [k1], .inl rfl, Out.same hi k2⟩
  -- index
  · rename_i t x ix e
    rw [e] at hall
    simp only [e]
    obtain ⟨r, h1, h2⟩ := bnd_eq.1 h
    injection h2 with h2; injection h2 with h2 h3; subst h2; subst h3
    obtain ⟨v', k1, k2⟩ := index_sound (w := w) (hρ x (hall x (by simp [opsOf]))) (hρ ix (hall ix (by simp [opsOf]))) h1
    exact ⟨_, _, w, by simp [k1], .inl rfl, Out.same hi k2⟩
  -- extract
  · rename_i x j e
    rw [e] at hall
    simp only [e]
    obtain ⟨r, h1, h2⟩ := bnd_eq.1 h
    injection h2 with h2; injection h2 with h2 h3; subst h2; subst h3
    obtain ⟨v', k1, k2⟩ := extract_sound (C := C) (w := w) (hρ x (hall x (by simp [opsOf]))) h1
    exact ⟨_, _, w, by simp [k1], .inl rfl, Out.same hi k2⟩
  -- makeFunc
  · rename_i f first cs e
    rw [e] at hall
    simp only [e]
    obtain ⟨h1, h2⟩ := tst_eq.1 h
    injection h2 with h2; injection h2 with h2 h3; subst h2; subst h3
    have hfst : first = #[] := by
      apply Array.ext'
      simpa [List.isEmpty_iff] using h1
    subst hfst
    have hc := evL_rep hρ (l := cs.toList) fun x hx => hall x (by simpa [opsOf] using hx)
    have := Rep.fn (f := f) hc
    exact ⟨_, .func f #[] (cs.map ρ), w, by simp [Instr.makeFunc], .inl rfl, Out.same hi (by rw [show cs.map ρ = (cs.toList.map ρ).toArray from Array.ext' (by simp)]; exact this)⟩
  -- builtins
  · rename_i b args ts e
    rw [e] at hall
    simp only [e]
    have hargs := evL_rep hρ (l := args.toList) fun x hx => hall x (show x ∈ args.toList from hx)
    have hres : resolve ρ { callee := .builtin b, args := args, argTypes := ts } o.type = pure { target := .builtin b ts o.type (args.map fun | .const _ => true | _ => false), args := args.map ρ } := rfl
    rw [hres]
    have hmap : args.map ρ = (args.toList.map ρ).toArray := Array.ext' (by simp)
    unfold builtinA at h
    split at h
    · rename_i t x ets eargs
      rw [eargs] at hargs
      obtain ⟨n, h1, h2⟩ := bnd_eq.1 h
      injection h2 with h2; injection h2 with h2 h3; subst h2; subst h3
      obtain ⟨xv, hv, hx⟩ := args1 hargs
      have hts : ts = #[t] := by apply Array.ext'; simpa using ets
      refine ⟨_, goInt n, w, ?_, .inl rfl, Out.same hi (.i (.lit _))⟩
      rw [hmap, hv, hts]
      simp [invoke, builtin, len_sound (C := C) (w := w) (ty := o.type) hx h1]
    · rename_i t u s x ets eargs
      rw [eargs] at hargs
      obtain ⟨h1, h2⟩ := tst_eq.1 h
      obtain ⟨sv, xv, hv, hs, hx⟩ := args2 hargs
      have hts : ts = #[t, u] := by apply Array.ext'; simpa using ets
      obtain ⟨y, w', k1, k2⟩ := append_sound (w := w) (ty := o.type) hi hs hx hf h1 h2
      refine ⟨_, _, w', ?_, .inl rfl, k2⟩
      rw [hmap, hv, hts]
      simp [invoke, builtin, k1]
    · rename_i t u d x ets eargs
      rw [eargs] at hargs
      obtain ⟨dv, xv, hv, hd, hx⟩ := args2 hargs
      have hts : ts = #[t, u] := by apply Array.ext'; simpa using ets
      obtain ⟨y, w', k1, k2⟩ := copy_sound (C := C) (w := w) (u := u) (ty := o.type) (nb := nb) hi hd hx h
      refine ⟨_, _, w', ?_, .inl rfl, k2⟩
      rw [hmap, hv, hts]
      simp [invoke, builtin, k1]
    · obtain ⟨r, h1, h2⟩ := bnd_eq.1 h
      injection h2 with h2; injection h2 with h2 h3; subst h2; subst h3
      obtain ⟨y, k1, k2⟩ := min_sound (C := C) (w := w) (ts := ts) (ty := o.type) hargs h1
      refine ⟨_, _, w, ?_, .inl rfl, Out.same hi k2⟩
      rw [hmap]
      simp [invoke, builtin, k1]
    · obtain ⟨r, h1, h2⟩ := bnd_eq.1 h
      injection h2 with h2; injection h2 with h2 h3; subst h2; subst h3
      obtain ⟨y, k1, k2⟩ := max_sound (C := C) (w := w) (ts := ts) (ty := o.type) hargs h1
      refine ⟨_, _, w, ?_, .inl rfl, Out.same hi k2⟩
      rw [hmap]
      simp [invoke, builtin, k1]
    · cases h
  · cases h
end
end Go.Av

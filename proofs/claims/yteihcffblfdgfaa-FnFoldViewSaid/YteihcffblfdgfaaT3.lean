/- Part 3 of what the proof rests on: the executor and what it is worth, and the program's functions as it runs them. No condition. -/
import Derived.Test.YteihcffblfdgfaaT2
import Derived.Still
set_option linter.unusedVariables false
set_option linter.unusedSimpArgs false
/- Calls, as the abstract executor answers them, are what the model does. No condition. -/
namespace Go.Av
section
variable {C : Ctx}

def resOf (a : Act) : ResultVar → Sem Value
  | .tmp t => pure (a.tmps.getD t undef)
  | .cell s t => do loadVar t (← asAddr (a.tmps.getD s undef))
theorem retAll_sound {w : World} {m : Mem} {φ : Pl} {st : Store} {env : Nat → AV} {a : Act} (hi : Inv w m φ st) (henv : ∀ t, Rep m φ (env t) (a.tmps.getD t undef)) :
    ∀ (rs : List ResultVar) (vs : List AV), retAll C env st rs = some vs → ∃ ys, (rs.mapM (resOf a)).run C.P w = .ok ys w ∧ RepL m φ vs ys
  | [], vs, h => by simp [retAll] at h; subst h; exact ⟨[], by simp, .nil⟩
  | r :: rs, vs, h => by
    simp only [retAll] at h
    obtain ⟨v, h1, h2⟩ := bnd_eq.1 h
    obtain ⟨l, h3, h4⟩ := bnd_eq.1 h2
    injection h4 with h4; subst h4
    obtain ⟨ys, k1, k2⟩ := retAll_sound hi henv rs l h3
    have hone : ∃ y, (resOf a r).run C.P w = .ok y w ∧ Rep m φ v y := by
      cases r with
      | tmp t => simp only [retOne, Option.some.injEq] at h1; subst h1; exact ⟨_, by simp [resOf], henv t⟩
      | cell s t =>
        obtain ⟨ad, y, q1, q2, q3⟩ := loadA_sound hi (henv s) (show loadA C t (env s) st = some v from h1)
        exact ⟨y, by simp [resOf, q1, asAddr, q2], q3⟩
    obtain ⟨y, q1, q2⟩ := hone
    exact ⟨y :: ys, by simp [q1, k1], .cons q2 k2⟩
theorem frzRes_sound {w : World} : ∀ {vs us : List AV} {m : Mem} {φ : Pl} {st st1 : Store} {ys : List Value}, Inv w m φ st → RepL m φ vs ys → frzRes st vs = some (us, st1) →
    ∃ m1, RepL m1 φ us ys ∧ Inv w m1 φ st1 ∧ Adv w m φ w m1 φ
  | [], us, m, φ, st, st1, _, hi, .nil, h => by
    simp [frzRes] at h; obtain ⟨rfl, rfl⟩ := h; exact ⟨m, .nil, hi, .refl _ _ _⟩
  | v :: vs, us, m, φ, st, st1, _, hi, .cons a b, h => by
    simp only [frzRes] at h
    obtain ⟨p, h1, h2⟩ := bnd_eq.1 h
    obtain ⟨q, h3, h4⟩ := bnd_eq.1 h2
    injection h4 with h4; injection h4 with h4 h5; subst h4; subst h5
    obtain ⟨m1, k1, k2, k3⟩ := frzV_sound hi a (show frzV st v = some (p.1, p.2) from h1)
    obtain ⟨m2, j1, j2, j3⟩ := frzRes_sound k2 (b.mono k3.mle (.refl _)) (show frzRes p.2 vs = some (q.1, q.2) from h3)
    exact ⟨m2, .cons ((Rep.i k1).mono j3.mle (.refl _)) j1, j2, k3.trans j3⟩
theorem keepV_sound {w : World} {m : Mem} {φ : Pl} {st st1 : Store} {v u : AV} {x : Value} (hi : Inv w m φ st) (a : Rep m φ v x) (h : keepV st v = some (u, st1)) : ∃ m1, Rep m1 φ u x ∧ Inv w m1 φ st1 ∧ Adv w m φ w m1 φ := by
  unfold keepV at h
  split at h
  · obtain ⟨r, h5, h6⟩ := bnd_eq.1 h
    injection h6 with h6; injection h6 with h6 h7; subst h6; subst h7
    obtain ⟨m1, k1, k2, k3⟩ := frzV_sound hi a (show frzV st _ = some (r.1, r.2) from h5)
    exact ⟨m1, .i k1, k2, k3⟩
  · injection h with h; injection h with h6 h7; subst h6; subst h7
    exact ⟨m, a, hi, .refl _ _ _⟩
theorem keepVs_sound {w : World} : ∀ {vs us : List AV} {m : Mem} {φ : Pl} {st st1 : Store} {ys : List Value}, Inv w m φ st → RepL m φ vs ys → keepVs st vs = some (us, st1) →
    ∃ m1, RepL m1 φ us ys ∧ Inv w m1 φ st1 ∧ Adv w m φ w m1 φ
  | [], us, m, φ, st, st1, _, hi, .nil, h => by
    simp [keepVs] at h; obtain ⟨rfl, rfl⟩ := h; exact ⟨m, .nil, hi, .refl _ _ _⟩
  | v :: vs, us, m, φ, st, st1, _, hi, .cons a b, h => by
    simp only [keepVs] at h
    obtain ⟨p, h1, h2⟩ := bnd_eq.1 h
    obtain ⟨q, h3, h4⟩ := bnd_eq.1 h2
    injection h4 with h4; injection h4 with h4 h5; subst h4; subst h5
    obtain ⟨m1, k1, k2, k3⟩ := keepV_sound hi a (show keepV st v = some (p.1, p.2) from h1)
    obtain ⟨m2, j1, j2, j3⟩ := keepVs_sound k2 (b.mono k3.mle (.refl _)) (show keepVs p.2 vs = some (q.1, q.2) from h3)
    exact ⟨m2, .cons (k1.mono j3.mle (.refl _)) j1, j2, k3.trans j3⟩
theorem retVal_rep {m : Mem} {φ : Pl} {vs : List AV} {ys : List Value} (h : RepL m φ vs ys) : Rep m φ (retVal vs) (if h : ys.toArray.size = 1 then ys.toArray[0] else .tuple ys.toArray) := by
  have hl := h.length
  unfold retVal
  split
  · cases h with | cons a b => cases b; simpa using a
  · rename_i hne
    have h1 : ¬ ys.toArray.size = 1 := fun e => by
      have e : ys.length = 1 := by simpa using e
      cases h with
      | nil => simp at e
      | cons a b =>
        cases b with
        | nil => exact hne _ rfl
        | cons c d => simp at e
    rw [dif_neg h1]
    exact .tup h
theorem mapM_arr {α β : Type} {f : α → Sem β} {xs : Array α} {ys : List β} {P : Program} {w : World} (h : (xs.toList.mapM f).run P w = .ok ys w) : (xs.mapM f).run P w = .ok ys.toArray w := by
  obtain ⟨l⟩ := xs
  simp at h ⊢
  simp [h]
theorem finish_sound {fn : Func} {keep : Bool} {ds : List Deferred} {na nt : Nat} {w0 w : World} {m0 : Mem} {φ0 : Pl} {S : AS} {a : Act} {r : AV} {stl' : StL} (h0 : ∀ id, φ0 id ≠ none → id < na) (hr : SRel ds w0 m0 φ0 nt na S a w)
    (h : finish C keep fn.results.toList na S = some (r, stl')) : ∃ v, (results fn a.tmps).run C.P w = .ok v w ∧ CallPost w0 m0 φ0 r stl' (.returned v) w := by
  obtain ⟨⟨⟨m, φ, hi, henv, hadv, hok, hmk⟩, hsz, hdf⟩, hlen⟩ := hr
  unfold finish at h
  obtain ⟨vs, h1, h2⟩ := bnd_eq.1 h
  obtain ⟨p, h3, h4⟩ := bnd_eq.1 h2
  obtain ⟨ys, k1, k2⟩ := retAll_sound (C := C) hi henv _ _ h1
  have hres : ∃ m1, RepL m1 φ p.1 ys ∧ Inv w m1 φ p.2 ∧ Adv w m φ w m1 φ := by
    unfold resAny at h3
    split at h3
    rotate_left
    · split at h3
      · injection h3 with h3; subst h3; exact ⟨m, k2, hi, .refl _ _ _⟩
      · exact frzRes_sound hi k2 (show frzRes _ vs = some (p.1, p.2) from h3)
    cases keep with
    | true =>
      simp only [resFor] at h3
      unfold resKeep at h3
      split at h3
      · injection h3 with h3; subst h3; exact ⟨m, k2, hi, .refl _ _ _⟩
      · exact keepVs_sound hi k2 (show keepVs _ vs = some (p.1, p.2) from h3)
    | false => exact frzRes_sound hi k2 (show frzRes _ vs = some (p.1, p.2) from h3)
  obtain ⟨m1, j1, j2, j3⟩ := hres
  unfold outOf at h4
  injection h4 with h4; injection h4 with h4 h5; subst h4; subst h5
  generalize hids : keepIds p.2 na p.1 = ids
  have hd : ids.Nodup := by rw [← hids]; exact keepIds_nodup _ _ _
  refine ⟨_, ?_, _, m1, keepP ids φ, rfl, retVal_rep (j1.ren (keepP_ren ids φ)), j2.keep hd, (hadv.trans j3).keep h0 (fun j hj => by rw [← hids]; exact keepIds_at _ _ _ hj), ?_⟩
  · have hm : (fn.results.mapM (resOf a)).run C.P w = .ok ys.toArray w := by
      exact mapM_arr k1
    have he : results fn a.tmps = (do let vs ← fn.results.mapM (resOf a); pure (if h : vs.size = 1 then vs[0] else .tuple vs)) := by
      unfold results
      congr 1
    rw [he, Sem.run_bind, hm]
    simp only [Result.andThen_ok, Sem.run_pure]
  · intro id hne
    rw [takeSt_len]
    unfold keepP at hne
    cases hx : ids[id]? with
    | none => rw [hx] at hne; exact absurd rfl hne
    | some i => exact (List.getElem?_eq_some_iff.1 hx).1

/-- What is asked of the program's functions. -/
def FnsOk (P : Program) : Prop := ∀ (g : FuncId) (fn : Func) (c : Code), P.funcs[g]? = some fn → fn.body = some c → fn.name ≠ "runtime.NumGoroutine" ∧ codeOk fn.ntmps c = true
def primCall (C : Ctx) : CallF := fun g args st => match C.prim g with
  | some p => p args st
  | none => none
/-- The ready contracts are right. -/
structure PrimOk (C : Ctx) : Prop where
  name : ∀ g args stl p, primCall C g args stl = some p → ∃ fn, C.P.funcs[g]? = some fn ∧ fn.name ≠ "runtime.NumGoroutine" ∧ fn.body.isSome = true
  calls : ∀ g args stl r stl', primCall C g args stl = some (r, stl') → ∀ (w : World) (m : Mem) (φ : Pl) (vs : List Value), Inv w m φ (stOf stl) → RepL m φ args vs → (∀ id, φ id ≠ none → id < stl.length) →
    Calls C.P g vs.toArray w (CallPost w m φ r stl')
structure SoundOk (C : Ctx) : Prop where
  ctx : CtxOk C
  fns : FnsOk C.P
  draw : ∀ call, CallOk C call → DrawOk C call
  prim : PrimOk C
theorem enter_rep {m : Mem} {φ : Pl} {args : List AV} {vs : List Value} (n : Nat) (h : RepL m φ args vs) : ∀ t, Rep m φ (argAt args t) ((vs.toArray ++ Array.replicate n undef).getD t undef) := by
  have key : ∀ (args : List AV) (vs : List Value) (t : Nat), RepL m φ args vs → Rep m φ (argAt args t) ((vs ++ List.replicate n undef)[t]?.getD undef) := by
    intro args
    induction args with
    | nil => intro vs t h; exact .junk _
    | cons c args ih =>
      intro vs t h
      cases h with
      | cons a b =>
        cases t with
        | zero => simpa [argAt] using a
        | succ t => simpa [argAt] using ih _ t b
  intro t
  have := key args vs t h
  rw [Array.getD_eq_getD_getElem?]
  have e : (vs.toArray ++ Array.replicate n undef)[t]? = (vs ++ List.replicate n undef)[t]? := by
    rw [← Array.getElem?_toList]; simp
  rw [e]; exact this
/-- A mark is come to. -/
theorem SRel.close {D : Nat} {ds : List Deferred} {w0 w : World} {m0 : Mem} {φ0 : Pl} {nt na : Nat} {S : AS} {a : Act} (h : SRel ({ target := .collected D, args := #[] } :: ds) w0 m0 φ0 nt na S a w) :
    (Instr.takeDeferred D).run C.P w = .ok [] (w.putObj D (.deferred none)) ∧ SRel ds w0 m0 φ0 nt na S { a with defers := ds } (w.putObj D (.deferred none)) := by
  obtain ⟨⟨⟨m, φ, hi, henv, hadv, hok, hmk⟩, hsz, hdf⟩, hlen⟩ := h
  obtain ⟨Ds, f1, f2, f3⟩ := hmk.form
  cases Ds with
  | nil => cases f1
  | cons D' Ds =>
    simp only [List.map_cons, List.cons.injEq, Deferred.mk.injEq, Target.collected.injEq, and_true] at f1
    obtain ⟨rfl, f1⟩ := f1
    obtain ⟨g1, g2, g3⟩ := f3 D (by simp)
    obtain ⟨n1, n2⟩ := List.nodup_cons.1 f2
    have hoth : ∀ x, x ≠ D → (w.putObj D (.deferred none)).heap[x]? = w.heap[x]? := fun x hx => World.putObj_heap_other hx
    have hm : ∀ o, m D o = none := by
      intro o
      cases e : m D o with
      | none => rfl
      | some v =>
        have := hi.mem D o v e
        simp [World.cell?, g2] at this
    refine ⟨run_takeDeferred g2, ⟨⟨m, φ, hi.aside (by simp) hoth hm g3, henv, ?_, hok, ⟨⟨Ds, f1, n2, fun D' hD' => ?_⟩⟩⟩, hsz, rfl⟩, hlen⟩
    · refine ⟨by simpa using hadv.size, hadv.os, hadv.tape, hadv.output, ?_, hadv.mle, hadv.mnew, hadv.ple, hadv.pnew⟩
      intro b hb1 hb2
      rw [hoth b (by omega)]
      exact hadv.block b hb1 hb2
    · obtain ⟨k1, k2, k3⟩ := f3 D' (by simp [hD'])
      exact ⟨k1, by rw [hoth D' fun e => n1 (e ▸ hD')]; exact k2, k3⟩
/-- A function leaves: its marks, then its results. -/
theorem leave_marks {fn : Func} {R : Ending → World → Prop} {w0 : World} {m0 : Mem} {φ0 : Pl} {nt na : Nat} {S : AS} : ∀ {ds : List Deferred} {a : Act} {w : World}, SRel ds w0 m0 φ0 nt na S a w →
    (∀ (a' : Act) (w' : World), a'.tmps = a.tmps → SRel [] w0 m0 φ0 nt na S a' w' → ∃ v, (results fn a'.tmps).run C.P w' = .ok v w' ∧ R (.returned v) w') → LeavesInM Fence.wide 0 C.P fn a.tmps R ds .returning w
  | [], a, w, h, k => by
    obtain ⟨v, k1, k2⟩ := k a w rfl h
    exact ⟨v, k1, k2⟩
  | d :: ds, a, w, h, k => by
    have hd : ∃ D, d = { target := .collected D, args := #[] } := by
      obtain ⟨⟨⟨m, φ, _, _, _, _, hmk⟩, _, _⟩, _⟩ := h
      obtain ⟨Ds, f1, _, _⟩ := hmk.form
      cases Ds with
      | nil => cases f1
      | cons D Ds => simp only [List.map_cons, List.cons.injEq] at f1; exact ⟨D, f1.1⟩
    obtain ⟨D, rfl⟩ := hd
    obtain ⟨h1, h2⟩ := h.close (C := C)
    exact ⟨by simp, .inl ⟨D, _, rfl, h1, leave_marks (a := { a with defers := ds }) h2 fun a' w' e => k a' w' e⟩⟩
theorem bindE_rep {m : Mem} {φ : Pl} {nt : Nat} : ∀ {ps : List Nat} {as1 : List AV} {us : List Value} {E : List (Nat × AV)} {tmps : Array Value}, (∀ p ∈ ps, p < nt) → nt ≤ tmps.size → RepL m φ as1 us → as1.length = ps.length →
    (∀ t, Rep m φ (envOf E t) (tmps.getD t undef)) →
    nt ≤ ((ps.zip us).foldl (fun t (p : Nat × Value) => t.setIfInBounds p.1 p.2) tmps).size ∧ ∀ t, Rep m φ (envOf (bindE ps as1 E) t) (((ps.zip us).foldl (fun t (p : Nat × Value) => t.setIfInBounds p.1 p.2) tmps).getD t undef)
  | [], as1, us, E, tmps, _, hs, _, _, h => by simp only [bindE]; exact ⟨hs, h⟩
  | p :: ps, [], us, E, tmps, _, _, _, hl, _ => by simp at hl
  | p :: ps, a :: as1, _, E, tmps, hp, hs, .cons (v := v) ha hb, hl, h => by
    simp only [bindE, List.zip_cons_cons, List.foldl_cons]
    refine bindE_rep (fun q hq => hp q (by simp [hq])) (by simpa using hs) hb (by simpa using hl) ?_
    intro t
    have hlt : p < tmps.size := Nat.lt_of_lt_of_le (hp p (by simp)) hs
    simp only [envOf]
    by_cases e : t = p
    · subst e; simpa [Array.getD, hlt] using ha
    · simp only [e, if_false]
      have := h t
      rw [Array.getD_eq_getD_getElem?] at this ⊢
      rw [Array.getElem?_setIfInBounds_ne (Ne.symm e)]
      exact this
theorem setSt_get : ∀ (st : StL) (id : Nat) (b : Option Blk), id < st.length → stOf (setSt st id b) = upd (stOf st) id b
  | [], id, b, h => by simp at h
  | c :: st, 0, b, _ => by
    funext i
    cases i with
    | zero => simp [setSt, stOf, upd]
    | succ i => simp [setSt, stOf, upd]
  | c :: st, id + 1, b, h => by
    funext i
    cases i with
    | zero => simp [setSt, stOf, upd]
    | succ i =>
      have := congrFun (setSt_get st id b (by simpa using h)) i
      simp only [setSt, stOf, this, upd]
      by_cases e : i = id
      · subst e; simp
      · simp [e]
theorem setSt_len : ∀ (st : StL) (id : Nat) (b : Option Blk), (setSt st id b).length = st.length
  | [], _, _ => rfl
  | _ :: st, 0, _ => by simp [setSt]
  | _ :: st, id + 1, b => by simp [setSt, setSt_len st id b]
theorem stOf_lt {st : StL} {id : Nat} {b : Blk} (h : stOf st id = some b) : id < st.length := by
  induction st generalizing id with
  | nil => simp [stOf] at h
  | cons c st ih =>
    cases id with
    | zero => simp
    | succ id => simp only [stOf] at h; have := ih h; simp; omega
/-- The state of a loop turns. -/
theorem ARel.turn {ds : List Deferred} {w0 w : World} {m0 : Mem} {φ0 : Pl} {nt : Nat} {ok : Nat → Prop} {env : Nat → AV} {st : Store} {a : Act} {id : Nat} {R : Rng} {cs : List AV} {s : LSt} (h : ARel ds w0 m0 φ0 nt ok env st a w) (hs : st id = some (.loop R cs s)) {l : Nat} {n0 : Ext}
    (h0 : φ0 id = some (l, n0)) : ∃ r : Loop, w.heap[l]? = some (.loop r) ∧ r.state = lstC s ∧ r.pending = pendC s ∧ ∀ s' : LSt,
      ARel ds w0 m0 φ0 nt ok env (upd st id (some (.loop R cs s'))) a (w.putObj l (.loop { r with state := lstC s', pending := pendC s' })) := by
  obtain ⟨⟨m, φ, hi, henv, hadv, hok, hmk⟩, hsz, hdf⟩ := h
  obtain ⟨b, n, q1, q2, q3⟩ := hi.live _ _ hs
  obtain ⟨n4, q4, _, _⟩ := hadv.ple _ _ _ h0
  rw [q1] at q4; injection q4 with q4; injection q4 with q5 q6
  subst q5
  cases q3 with
  | loop u1 u2 u3 u4 u5 u6 =>
    have hlt : b < w.heap.size := (Array.getElem?_eq_some_iff.1 u1).1
    refine ⟨_, u1, rfl, rfl, fun s' => ?_⟩
    obtain ⟨k1, k2⟩ := hi.setG (w' := w.putObj b (.loop _)) hs q1 u6 (by simp) (fun x hx => World.putObj_heap_other hx) ⟨rfl, rfl, rfl⟩ (.loop (s := s') (World.putObj_heap_same hlt) u2 u3 u4 u5 u6)
    exact ⟨⟨m, φ, k1, henv, hadv.trans k2, hok, hmk.adv k2⟩, hsz, hdf⟩
theorem roundF_sound {w0 w : World} {m0 : Mem} {φ0 : Pl} {S : AS} {a : Act} {id l nt na : Nat} {n0 : Ext} {e : AExit} {r : AV} {stl' : StL} {ds : List Deferred} (h0 : ∀ id, φ0 id ≠ none → id < na) (hl : φ0 id = some (l, n0)) (hid : id < na)
    (hr : SRel ds w0 m0 φ0 nt na S a w) (h : roundF na e id S (stOf S.st id) = some (r, stl')) : ∀ j : Option Code, (j = match e with | .normal => none | e => some (jumpC e)) → ∃ v w', (Instr.endRound l j).run C.P w = .ok v w' ∧ CallPost w0 m0 φ0 r stl' (.returned v) w' := by
  intro j hj
  obtain ⟨hr, hlen⟩ := hr
  unfold roundF at h
  split at h
  · rename_i R cs hs
    obtain ⟨rec, q1, q2, q3, q4⟩ := hr.turn hs hl
    have hrun := run_endRound (P := C.P) j q1
    rw [setSt_get _ _ _ (Nat.lt_of_lt_of_le hid hlen)] at h
    have h4 := q4 (stopA e)
    have hrec : ({ rec with state := lstC (stopA e), pending := pendC (stopA e) } : Loop) = { rec with state := if j.isNone then .ready else .done, pending := j } := by
      subst hj; cases e <;> rfl
    rw [hrec] at h4
    refine ⟨_, _, hrun, ?_⟩
    obtain ⟨⟨m, φ, hi, henv, hadv, hok, hmk⟩, hsz, hdf⟩ := h4
    unfold outOf at h
    injection h with h; injection h with h5 h6; subst h5; subst h6
    generalize hids : keepIds (upd (stOf S.st) id (some (.loop R cs (stopA e)))) na [.bool (goesOn e)] = ids
    have hd : ids.Nodup := by rw [← hids]; exact keepIds_nodup _ _ _
    have hb : j.isNone = goesOn e := by subst hj; cases e <;> rfl
    refine ⟨_, m, keepP ids φ, rfl, ?_, hi.keep hd, hadv.keep h0 (fun j hj => by rw [← hids]; exact keepIds_at _ _ _ hj), ?_⟩
    · rw [hb]; exact .i (.lit _)
    · intro i hne
      rw [takeSt_len]
      unfold keepP at hne
      cases hx : ids[i]? with
      | none => rw [hx] at hne; exact absurd rfl hne
      | some k => exact (List.getElem?_eq_some_iff.1 hx).1
  · cases h
theorem callN_sound (hS : SoundOk C) : ∀ n, CallOk C (callN C n)
  | 0 => ⟨fun _ _ _ _ _ h => by simp [callN] at h, fun _ _ _ _ _ _ h => by simp [callN] at h, fun _ _ _ _ h => by simp [callN] at h⟩
  | n + 1 => by
    have ih := callN_sound hS n
    constructor
    · intro g args stl p hg h
      unfold callN at h
      rw [if_neg hg] at h
      cases hp : C.prim g with
      | some q =>
        rw [hp] at h
        exact hS.prim.name g args stl p (by unfold primCall; rw [hp]; exact h)
      | none =>
        rw [hp] at h
        simp only at h
        split at h
        · cases h
        · rename_i fn hf
          split at h
          · cases h
          · rename_i c hb
            exact ⟨fn, hf, (hS.fns g fn c hf hb).1, by rw [hb]; rfl⟩
    · intro g args stl r stl' hg h w m φ vs hi hargs hid
      unfold callN at h
      rw [if_neg hg] at h
      cases hp : C.prim g with
      | some q =>
        rw [hp] at h
        exact hS.prim.calls g args stl r stl' (by unfold primCall; rw [hp]; exact h) w m φ vs hi hargs hid
      | none =>
        rw [hp] at h
        simp only at h
        split at h
        · cases h
        · rename_i fn hf
          split at h
          · cases h
          · rename_i c hb
            have hst := (hS.fns g fn c hf hb).2
            have hrel : SRel [] w m φ fn.ntmps stl.length (enter (C.G g) args stl) { tmps := vs.toArray ++ Array.replicate (fn.ntmps - vs.toArray.size) undef, defers := [] } w := by
              refine ⟨⟨⟨m, φ, hi, ?_, .refl _ _ _, hid, .nil _ _ _⟩, by simp; omega, rfl⟩, Nat.le_refl _⟩
              intro t
              unfold enter
              simp only
              generalize C.G g = G
              induction G with
              | nil => exact .junk _
              | cons u G ihG =>
                simp only [enterE, envOf]
                by_cases e : t = u
                · subst e; simp only [if_true]; exact enter_rep _ hargs t
                · simp only [e, if_false]; exact ihG
            refine callsIn_wide.1 (callsIn_of_wp_marks (n := 0) hf hb trivial ?_)
            have done : ∀ S e, exec C (callN C n) (C.G g) stl.length n c (enter (C.G g) args stl) = some (e, S) → finish C (C.keepRes g) fn.results.toList stl.length S = some (r, stl') → (e = .normal ∨ e = .ret) →
                c.wpIn Fence.wide 0 C.P (bodyPostM Fence.wide 0 C.P fn (CallPost w m φ r stl')) { tmps := vs.toArray ++ Array.replicate (fn.ntmps - vs.toArray.size) undef, defers := [] } w := by
              intro S e hS' hfin he
              refine wpIn_mono (exec_sound (ρ := none) hS.ctx ih (hS.draw _ ih) hid n c _ S e [] _ w hst (.inl rfl) hS' hrel) ?_
              rintro e' a' w' ⟨rfl, ds, k, _⟩
              have hl : LeavesInM Fence.wide 0 C.P fn a'.tmps (CallPost w m φ r stl') a'.defers .returning w' := by
                rw [k.1.defers]
                refine leave_marks k fun a2 w2 _ k2 => ?_
                obtain ⟨v, k3, k4⟩ := finish_sound (C := C) hid k2 hfin
                exact ⟨v, k3, k4⟩
              rcases he with rfl | rfl
              · exact hl
              · exact hl
            unfold endK at h
            split at h
            · rename_i S hS'; exact done S .normal hS' h (.inl rfl)
            · rename_i S hS'; exact done S .ret hS' h (.inr rfl)
            · cases h
            · cases h
    · intro args stl r stl' h w m φ vs hi hargs hid
      unfold callN at h
      rw [if_pos rfl] at h
      unfold roundW at h
      split at h
      · rename_i id as1
        obtain ⟨h0, h⟩ := tst_eq.1 h
        have h0 := of_decide_eq_true h0
        unfold roundB at h
        split at h
        · rename_i R cs hs
          obtain ⟨h2, h⟩ := tst_eq.1 h
          have h2 := of_decide_eq_true h2
          cases hargs with
          | @cons _ v _ us hy hus =>
          obtain ⟨b, n0, q1, q2, q3⟩ := hi.live _ _ hs
          cases hy with
          | yld e0 =>
          rw [q1] at e0; injection e0 with e0; injection e0 with e1 e2; subst e1; subst e2
          cases q3 with
          | @loop R cs s nt fn tmps dfr u1 u2 u3 u4 u5 u6 =>
          refine ⟨b, us, rfl, fn, _, R.asg, R.body, run_yield u1 (by simp; rw [← hus.length]; exact h2), ?_⟩
          obtain ⟨z1, z2⟩ := bindE_rep u3 u2 hus h2 u5
          have hfold : ∀ (l : List (Nat × Value)) (t : Array Value), (l.toArray.foldl (fun (tmps : Array Value) (x : Nat × Value) => tmps.setIfInBounds x.1 x.2) t) = l.foldl (fun t (p : Nat × Value) => t.setIfInBounds p.1 p.2) t := fun l t => by simp
          have htm : ((R.ps.toArray.zip us.toArray).foldl (fun (tmps : Array Value) (x : Nat × Value) => tmps.setIfInBounds x.1 x.2) tmps) = (R.ps.zip us).foldl (fun t (p : Nat × Value) => t.setIfInBounds p.1 p.2) tmps := by
            rw [List.zip_toArray, hfold]
          have hrel : SRel [] w m φ nt stl.length ⟨bindE R.ps as1 (envZ R.ts cs), stl⟩ { tmps := (R.ps.zip us).foldl (fun t (p : Nat × Value) => t.setIfInBounds p.1 p.2) tmps, defers := [] } w :=
            ⟨⟨⟨m, φ, hi, z2, .refl _ _ _, hid, .nil _ _ _⟩, z1, rfl⟩, Nat.le_refl _⟩
          refine roundIn_of_wpIn (F := Fence.wide) trivial ?_
          show Code.wpIn (FR (some b)) 0 C.P _ _ _ _
          have htm' := htm
          simp only [] at htm'
          rw [show (Array.foldl (fun tmps (x : Nat × Value) => match x with | (t, a) => tmps.setIfInBounds t a) tmps (R.ps.toArray.zip us.toArray)) = (R.ps.zip us).foldl (fun t (p : Nat × Value) => t.setIfInBounds p.1 p.2) tmps from htm]
          unfold roundE at h
          split at h
          case h_2 => cases h
          rename_i e S hx
          unfold asgK at hx
          split at hx
          · rename_i S1 hx1
            refine wpIn_mono (exec_sound (ρ := some b) hS.ctx ih (hS.draw _ ih) hid n R.asg _ S1 .normal [] _ w u4.1 (.inr u4.2.2.1) hx1 hrel) ?_
            rintro e' a1 w1 ⟨rfl, ds1, k1, kd⟩
            have kd := kd u4.2.2.1
            subst kd
            simp only [bodyW] at hx
            split at hx
            · rename_i R1 cs1 hs1
              obtain ⟨rec, p1, p2, p3, p4⟩ := k1.1.turn hs1 q1
              refine ⟨_, run_beginRound p1 p2, ?_⟩
              have p5 := p4 .busy
              have hrec : ({ rec with state := lstC .busy, pending := pendC .busy } : Loop) = { rec with state := .busy } := by
                have : rec.pending = none := p3
                cases rec; simp_all [lstC, pendC]
              rw [hrec] at p5
              have hlt1 : id < S1.st.length := Nat.lt_of_lt_of_le h0 k1.2
              have hrel2 : SRel [] w m φ nt stl.length ⟨S1.env, setSt S1.st id (some (.loop R1 cs1 .busy))⟩ a1 (w1.putObj b (.loop { rec with state := .busy })) := by
                refine ⟨?_, by simp only [setSt_len]; exact k1.2⟩
                simp only [setSt_len]
                rw [setSt_get _ _ _ hlt1]
                exact p5
              refine wpIn_mono (exec_sound (ρ := some b) hS.ctx ih (hS.draw _ ih) hid n R.body _ S e [] _ _ u4.2.1 (.inr u4.2.2.2) hx hrel2) ?_
              rintro e' a2 w2 ⟨rfl, ds2, k2, _⟩
              have fin := roundF_sound (C := C) hid q1 h0 k2 h
              cases e with
              | normal => exact fin none rfl
              | exit k => exact fin (some (.exit k)) rfl
              | ret => exact fin (some .ret) rfl
            · cases hx
          · cases hx
        · cases h
      · cases h
theorem callA_sound (hS : SoundOk C) : CallOk C (callA C) := by
  constructor
  · intro g args stl p hg h
    obtain ⟨N, hN⟩ := (callA_iff _).1 h
    exact (callN_sound hS N).name g args stl p hg hN
  · intro g args stl r stl' hg h
    obtain ⟨N, hN⟩ := (callA_iff _).1 h
    exact (callN_sound hS N).calls g args stl r stl' hg hN
  · intro args stl r stl' h
    obtain ⟨N, hN⟩ := (callA_iff _).1 h
    exact (callN_sound hS N).rounds args stl r stl' hN
end
end Go.Av

/- What an operation looks at, and what it changes: nothing else. No condition. -/
namespace Go.Av

abbrev Upd := List (Nat × Option Blk)
def applyU : Upd → Store → Store
  | [], st => st
  | p :: U, st => upd (applyU U st) p.1 p.2
theorem applyU_append : ∀ (U V : Upd) (st : Store), applyU (U ++ V) st = applyU U (applyU V st)
  | [], _, _ => rfl
  | p :: U, V, st => by simp [applyU, applyU_append U V st]
theorem applyU_other : ∀ {U : Upd} {st : Store} {i : Nat}, (∀ p ∈ U, p.1 ≠ i) → applyU U st i = st i
  | [], _, _, _ => rfl
  | p :: U, st, i, h => by
    simp only [applyU, upd]
    rw [if_neg (fun e => h p (by simp) e.symm)]
    exact applyU_other fun q hq => h q (by simp [hq])
theorem applyU_same : ∀ (U : Upd) {st st' : Store} {i : Nat}, st' i = st i → applyU U st' i = applyU U st i
  | [], _, _, _, h => h
  | p :: U, st, st', i, h => by
    simp only [applyU, upd]
    split
    · rfl
    · exact applyU_same U h
theorem applyU_comm {U V : Upd} (h : ∀ p ∈ U, ∀ q ∈ V, p.1 ≠ q.1) (st : Store) : applyU U (applyU V st) = applyU V (applyU U st) := by
  funext i
  by_cases hu : ∃ p ∈ U, p.1 = i
  · obtain ⟨p, hp, rfl⟩ := hu
    have hv : ∀ q ∈ V, q.1 ≠ p.1 := fun q hq e => h p hp q hq e.symm
    rw [applyU_other hv]
    exact applyU_same U (applyU_other hv)
  · have hu' : ∀ p ∈ U, p.1 ≠ i := fun p hp e => hu ⟨p, hp, e⟩
    rw [applyU_other hu']
    exact (applyU_same V (applyU_other hu')).symm

def Agree (ts : List Nat) (st st' : Store) : Prop := ∀ i ∈ ts, st' i = st i
def Clo (ts : List Nat) (st : Store) : Prop := ∀ i ∈ ts, ∀ j ∈ idsOfB (st i), j ∈ ts
theorem Agree.apply {ts : List Nat} {st st' : Store} (h : Agree ts st st') (U : Upd) : Agree ts (applyU U st) (applyU U st') := fun i hi => applyU_same U (h i hi)
theorem Clo.agree {ts : List Nat} {st st' : Store} (h : Clo ts st) (k : Agree ts st st') : Clo ts st' := fun i hi j hj => by
  rw [k i hi] at hj; exact h i hi j hj
theorem Agree.symm {ts : List Nat} {st st' : Store} (h : Agree ts st st') : Agree ts st' st := fun i hi => (h i hi).symm
/-- 'F' changes what is touched, or in 'ex', and looks at nothing else. -/
def Loc {α : Type} (ts : List Nat) (ex : Nat → Prop) (F : Store → Option (α × Store)) (st : Store) (a : α) (s1 : Store) : Prop :=
  ∃ U : Upd, (∀ p ∈ U, ex p.1) ∧ s1 = applyU U st ∧ ∀ st', Agree ts st st' → F st' = some (a, applyU U st')
theorem Loc.mono {α : Type} {ts : List Nat} {ex ex' : Nat → Prop} {F : Store → Option (α × Store)} {st s1 : Store} {a : α} (h : Loc ts ex F st a s1) (hx : ∀ i, ex i → ex' i) : Loc ts ex' F st a s1 := by
  obtain ⟨U, h1, h2, h3⟩ := h
  exact ⟨U, fun p hp => hx _ (h1 p hp), h2, h3⟩
theorem Loc.seq {α β : Type} {ts : List Nat} {ex : Nat → Prop} {F : Store → Option (α × Store)} {H : Store → Option (β × Store)} {F2 : α → Store → Option (β × Store)} {st s1 s2 : Store} {a : α} {b : β}
    (h : Loc ts ex F st a s1) (h2 : Loc ts ex (F2 a) s1 b s2)
    (hs : ∀ st' s r, F st' = some (a, s) → F2 a s = some r → H st' = some r) : Loc ts ex H st b s2 := by
  obtain ⟨U, h3, h4, h5⟩ := h
  obtain ⟨V, k3, k4, k5⟩ := h2
  refine ⟨V ++ U, fun p hp => ?_, by rw [applyU_append, k4, h4], fun st' ha => ?_⟩
  · rcases List.mem_append.1 hp with hp | hp
    · exact k3 p hp
    · exact h3 p hp
  · rw [applyU_append]
    refine hs st' _ _ (h5 st' ha) (k5 _ ?_)
    rw [h4]
    exact ha.apply U
theorem Loc.here {α : Type} {ts : List Nat} {ex : Nat → Prop} {F : Store → Option (α × Store)} {st : Store} {a : α} (h : ∀ st', Agree ts st st' → F st' = some (a, st')) : Loc ts ex F st a st :=
  ⟨[], by simp, rfl, h⟩
theorem Loc.one {α : Type} {ts : List Nat} {ex : Nat → Prop} {F : Store → Option (α × Store)} {st : Store} {a : α} {i : Nat} {b : Option Blk} (hi : ex i) (h : ∀ st', Agree ts st st' → F st' = some (a, upd st' i b)) : Loc ts ex F st a (upd st i b) :=
  ⟨[(i, b)], by simpa using hi, rfl, h⟩

/-! ### Freezing looks at what it reaches -/
theorem frzSl_ups {id k off len : Nat} {o : Option Blk} {iv : IV} {us : Ups} (h : frzSl id k off len o = some (iv, us)) : ∀ p ∈ us, p.1 = id ∧ idsOfB (some p.2) = [] := by
  unfold frzSl at h
  split at h
  · obtain ⟨_, h2⟩ := tst_eq.1 h
    injection h2 with h2; injection h2 with h2 h3; subst h3
    intro p hp; simp at hp; subst hp; exact ⟨rfl, rfl⟩
  · obtain ⟨_, h2⟩ := tst_eq.1 h
    injection h2 with h2; injection h2 with h2 h3; subst h3
    simp
  · cases h
mutual
theorem frz_loc {ts : List Nat} {st st' : Store} (hc : Clo ts st) (ha : Agree ts st st') : ∀ (n : Nat) (v : AV) {r : IV × Ups}, (∀ i ∈ idsOf v, i ∈ ts) → frz st n v = some r → frz st' n v = some r ∧ ∀ p ∈ r.2, p.1 ∈ ts ∧ idsOfB (some p.2) = []
  | 0, _, _, _, h => by simp [frz] at h
  | n + 1, v, r, hv, h => by
    cases v with
    | junk => simp [frz] at h
    | tup => simp [frz] at h
    | fn => simp [frz] at h
    | ownE => simp [frz] at h
    | i v => simp [frz] at h ⊢; subst h; simp
    | nils => simp [frz] at h ⊢; subst h; simp
    | osl id k off len =>
      simp only [frz] at h ⊢
      have hm := hv id (by simp [idsOf])
      rw [ha id hm]
      refine ⟨h, fun p hp => ?_⟩
      obtain ⟨h1, h2⟩ := frzSl_ups (show frzSl id k off len (st id) = some (r.1, r.2) from h) p hp
      exact ⟨h1 ▸ hm, h2⟩
    | own id off =>
      simp only [frz] at h ⊢
      have hm := hv id (by simp [idsOf])
      rw [ha id hm]
      exact frzP_loc hc ha n id off hm h
    | agg cs =>
      simp only [frz] at h ⊢
      obtain ⟨p, h1, h2⟩ := bnd_eq.1 h
      obtain ⟨k1, k2⟩ := frzL_loc hc ha n cs (fun i hi => hv i (by simpa [idsOf] using hi)) h1
      injection h2 with h2; subst h2
      exact ⟨by rw [k1]; rfl, k2⟩
theorem frzP_loc {ts : List Nat} {st st' : Store} (hc : Clo ts st) (ha : Agree ts st st') : ∀ (n id off : Nat) {r : IV × Ups}, id ∈ ts → frzP st n id off (st id) = some r → frzP st' n id off (st id) = some r ∧ ∀ p ∈ r.2, p.1 ∈ ts ∧ idsOfB (some p.2) = []
  | 0, _, _, _, _, h => by simp [frzP] at h
  | n + 1, id, off, r, hm, h => by
    cases hst : st id with
    | none => rw [hst] at h; simp [frzP] at h
    | some blk =>
      rw [hst] at h
      cases blk with
      | arr => simp [frzP] at h
      | frz => simp [frzP] at h
      | tre => simp [frzP] at h
      | loop => simp [frzP] at h
      | fbox l =>
        simp only [frzP] at h ⊢
        obtain ⟨h1, h2⟩ := tst_eq.1 h
        injection h2 with h2; subst h2
        exact ⟨h, by simp⟩
      | box cs =>
        simp only [frzP] at h ⊢
        obtain ⟨p, h1, h2⟩ := bnd_eq.1 h
        obtain ⟨h3, h4⟩ := tst_eq.1 h2
        injection h4 with h4; subst h4
        obtain ⟨k1, k2⟩ := frzL_loc hc ha n cs (fun i hi => hc id hm i (by rw [hst]; simpa [idsOfB] using hi)) h1
        refine ⟨by rw [k1]; simp only [bnd_some]; rw [h3]; rfl, ?_⟩
        intro q hq
        rcases List.mem_cons.1 hq with rfl | hq
        · exact ⟨hm, rfl⟩
        · exact k2 q hq
theorem frzL_loc {ts : List Nat} {st st' : Store} (hc : Clo ts st) (ha : Agree ts st st') : ∀ (n : Nat) (cs : List AV) {r : List IV × Ups}, (∀ i ∈ idsOfL cs, i ∈ ts) → frzL st n cs = some r → frzL st' n cs = some r ∧ ∀ p ∈ r.2, p.1 ∈ ts ∧ idsOfB (some p.2) = []
  | _, [], r, _, h => by simp [frzL] at h ⊢; subst h; simp
  | 0, _ :: _, _, _, h => by simp [frzL] at h
  | n + 1, c :: cs, r, hv, h => by
    simp only [frzL] at h ⊢
    obtain ⟨p, h1, h2⟩ := bnd_eq.1 h
    obtain ⟨q, h3, h4⟩ := bnd_eq.1 h2
    injection h4 with h4; subst h4
    obtain ⟨k1, k2⟩ := frz_loc hc ha n c (fun i hi => hv i (by simp [idsOfL, hi])) h1
    obtain ⟨k3, k4⟩ := frzL_loc hc ha n cs (fun i hi => hv i (by simp [idsOfL, hi])) h3
    refine ⟨by rw [k1, bnd_some, k3]; rfl, ?_⟩
    intro u hu
    rcases List.mem_append.1 hu with hu | hu
    · exact k2 u hu
    · exact k4 u hu
end
def updOf (us : Ups) : Upd := us.map fun p => (p.1, some p.2)
theorem frzIds_apply : ∀ (us : Ups) (st : Store), frzIds st us = applyU (updOf us) st
  | [], _ => rfl
  | p :: us, st => by simp [frzIds, updOf, applyU, frzIds_apply us st]
/-- 'F' is local, and what is touched stays closed. -/
def LocC {α : Type} (ts : List Nat) (F : Store → Option (α × Store)) (st : Store) (a : α) (s1 : Store) : Prop := Loc ts (fun i => i ∈ ts) F st a s1 ∧ Clo ts s1
theorem applyU_clo {ts : List Nat} : ∀ {U : Upd} {st : Store}, Clo ts st → (∀ p ∈ U, idsOfB p.2 = []) → Clo ts (applyU U st)
  | [], _, h, _ => h
  | p :: U, st, h, hU => by
    have ih := applyU_clo (U := U) h fun q hq => hU q (by simp [hq])
    intro i hi j hj
    simp only [applyU, upd] at hj
    split at hj
    · rw [hU p (by simp)] at hj; cases hj
    · exact ih i hi j hj
theorem frzV_loc {ts : List Nat} {st s1 : Store} (hc : Clo ts st) {v : AV} {iv : IV} (hv : ∀ i ∈ idsOf v, i ∈ ts) (h : frzV st v = some (iv, s1)) : LocC ts (fun s => frzV s v) st iv s1 := by
  have key : ∀ v, (∀ i ∈ idsOf v, i ∈ ts) → (bnd (frz st fuelF v) fun p => some (p.1, frzIds st p.2)) = some (iv, s1) → (∀ s, frzV s v = bnd (frz s fuelF v) fun p => some (p.1, frzIds s p.2)) → LocC ts (fun s => frzV s v) st iv s1 := by
    intro v hv h he
    obtain ⟨p, h1, h2⟩ := bnd_eq.1 h
    injection h2 with h2; injection h2 with h2 h3; subst h2; subst h3
    obtain ⟨_, k2⟩ := frz_loc hc (fun i _ => rfl : Agree ts st st) fuelF v hv h1
    rw [frzIds_apply]
    refine ⟨⟨updOf p.2, ?_, rfl, ?_⟩, applyU_clo hc ?_⟩
    · intro q hq
      obtain ⟨u, hu, rfl⟩ := List.mem_map.1 hq
      exact (k2 u hu).1
    · intro st' ha
      obtain ⟨k1, _⟩ := frz_loc hc ha fuelF v hv h1
      simp only
      rw [he, k1, bnd_some, frzIds_apply]
    · intro q hq
      obtain ⟨u, hu, rfl⟩ := List.mem_map.1 hq
      exact (k2 u hu).2
  cases v with
  | i v =>
    simp only [frzV, Option.some.injEq, Prod.mk.injEq] at h
    obtain ⟨rfl, rfl⟩ := h
    exact ⟨.here fun _ _ => rfl, hc⟩
  | _ => exact key _ hv h fun _ => rfl
theorem LocC.seq {α β : Type} {ts : List Nat} {F : Store → Option (α × Store)} {H : Store → Option (β × Store)} {F2 : Store → Option (β × Store)} {st s1 s2 : Store} {a : α} {b : β}
    (h : LocC ts F st a s1) (h2 : LocC ts F2 s1 b s2) (hs : ∀ st' s r, F st' = some (a, s) → F2 s = some r → H st' = some r) : LocC ts H st b s2 :=
  ⟨h.1.seq (F2 := fun _ => F2) h2.1 hs, h2.2⟩
theorem LocC.map {α β : Type} {ts : List Nat} {F : Store → Option (α × Store)} {H : Store → Option (β × Store)} {st s1 : Store} {a : α} {b : β}
    (h : LocC ts F st a s1) (hs : ∀ st' s, F st' = some (a, s) → H st' = some (b, s)) : LocC ts H st b s1 := by
  obtain ⟨⟨U, h1, h2, h3⟩, h4⟩ := h
  exact ⟨⟨U, h1, h2, fun st' ha => hs _ _ (h3 st' ha)⟩, h4⟩
theorem frzVs_loc {ts : List Nat} : ∀ {cs : List AV} {st s1 : Store} {l : List IV}, Clo ts st → (∀ i ∈ idsOfL cs, i ∈ ts) → frzVs st cs = some (l, s1) → LocC ts (fun s => frzVs s cs) st l s1
  | [], st, s1, l, hc, _, h => by
    simp [frzVs] at h; obtain ⟨rfl, rfl⟩ := h; exact ⟨.here fun _ _ => rfl, hc⟩
  | c :: cs, st, s1, l, hc, hv, h => by
    simp only [frzVs] at h
    obtain ⟨p, h1, h2⟩ := bnd_eq.1 h
    obtain ⟨q, h3, h4⟩ := bnd_eq.1 h2
    injection h4 with h4; injection h4 with h4 h5; subst h4; subst h5
    have k1 := frzV_loc hc (fun i hi => hv i (by simp [idsOfL, hi])) (show frzV st c = some (p.1, p.2) from h1)
    have k2 := frzVs_loc k1.2 (fun i hi => hv i (by simp [idsOfL, hi])) (show frzVs p.2 cs = some (q.1, q.2) from h3)
    refine k1.seq (k2.map (H := fun s => bnd (frzVs s cs) fun q => some (p.1 :: q.1, q.2)) fun st' s e => ?_) fun st' s r e1 e2 => ?_
    · show bnd (frzVs st' cs) _ = _; rw [show frzVs st' cs = _ from e]; rfl
    · simp only [frzVs] at e1 e2 ⊢; rw [e1]; exact e2
theorem frzParts_loc {ts : List Nat} : ∀ {ps : List (Nat × List AV)} {st s1 : Store} {l : List (Nat × List IV)}, Clo ts st → (∀ p ∈ ps, ∀ i ∈ idsOfL p.2, i ∈ ts) → frzParts st ps = some (l, s1) → LocC ts (fun s => frzParts s ps) st l s1
  | [], st, s1, l, hc, _, h => by
    simp [frzParts] at h; obtain ⟨rfl, rfl⟩ := h; exact ⟨.here fun _ _ => rfl, hc⟩
  | c :: cs, st, s1, l, hc, hv, h => by
    simp only [frzParts] at h
    obtain ⟨p, h1, h2⟩ := bnd_eq.1 h
    obtain ⟨q, h3, h4⟩ := bnd_eq.1 h2
    injection h4 with h4; injection h4 with h4 h5; subst h4; subst h5
    have k1 := frzVs_loc hc (fun i hi => hv c (by simp) i hi) (show frzVs st c.2 = some (p.1, p.2) from h1)
    have k2 := frzParts_loc k1.2 (fun d hd i hi => hv d (by simp [hd]) i hi) (show frzParts p.2 cs = some (q.1, q.2) from h3)
    refine k1.seq (k2.map (H := fun s => bnd (frzParts s cs) fun q => some ((c.1, p.1) :: q.1, q.2)) fun st' s e => ?_) fun st' s r e1 e2 => ?_
    · show bnd (frzParts st' cs) _ = _; rw [show frzParts st' cs = _ from e]; rfl
    · simp only [frzParts] at e1 e2 ⊢; rw [e1]; exact e2
theorem argVal_loc {ts : List Nat} {st s1 : Store} (hc : Clo ts st) {v u : AV} (hv : ∀ i ∈ idsOf v, i ∈ ts) (h : argVal st v = some (u, s1)) : LocC ts (fun s => argVal s v) st u s1 ∧ ∀ i ∈ idsOf u, i ∈ ts := by
  have key : ∀ v, (∀ i ∈ idsOf v, i ∈ ts) → (bnd (frzV st v) fun p => some (AV.i p.1, p.2)) = some (u, s1) → (∀ s, argVal s v = bnd (frzV s v) fun p => some (AV.i p.1, p.2)) → LocC ts (fun s => argVal s v) st u s1 ∧ ∀ i ∈ idsOf u, i ∈ ts := by
    intro v hv h he
    obtain ⟨p, h1, h2⟩ := bnd_eq.1 h
    injection h2 with h2; injection h2 with h2 h3; subst h2; subst h3
    refine ⟨(frzV_loc hc hv (show frzV st v = some (p.1, p.2) from h1)).map fun st' s e => ?_, by simp [idsOf]⟩
    show argVal st' v = _
    rw [he, show frzV st' v = _ from e]; rfl
  cases v with
  | i v =>
    simp only [argVal, Option.some.injEq, Prod.mk.injEq] at h
    obtain ⟨rfl, rfl⟩ := h
    exact ⟨⟨.here fun _ _ => rfl, hc⟩, hv⟩
  | fn f cs =>
    simp only [argVal, Option.some.injEq, Prod.mk.injEq] at h
    obtain ⟨rfl, rfl⟩ := h
    exact ⟨⟨.here fun _ _ => rfl, hc⟩, hv⟩
  | _ => exact key _ hv h fun _ => rfl
theorem argsVal_loc {ts : List Nat} : ∀ {cs us : List AV} {st s1 : Store}, Clo ts st → (∀ i ∈ idsOfL cs, i ∈ ts) → argsVal st cs = some (us, s1) → LocC ts (fun s => argsVal s cs) st us s1 ∧ ∀ i ∈ idsOfL us, i ∈ ts
  | [], us, st, s1, hc, _, h => by
    simp [argsVal] at h; obtain ⟨rfl, rfl⟩ := h; exact ⟨⟨.here fun _ _ => rfl, hc⟩, by simp [idsOfL]⟩
  | c :: cs, us, st, s1, hc, hv, h => by
    simp only [argsVal] at h
    obtain ⟨p, h1, h2⟩ := bnd_eq.1 h
    obtain ⟨q, h3, h4⟩ := bnd_eq.1 h2
    injection h4 with h4; injection h4 with h4 h5; subst h4; subst h5
    obtain ⟨k1, j1⟩ := argVal_loc hc (fun i hi => hv i (by simp [idsOfL, hi])) (show argVal st c = some (p.1, p.2) from h1)
    obtain ⟨k2, j2⟩ := argsVal_loc k1.2 (fun i hi => hv i (by simp [idsOfL, hi])) (show argsVal p.2 cs = some (q.1, q.2) from h3)
    refine ⟨k1.seq (k2.map (H := fun s => bnd (argsVal s cs) fun q => some (p.1 :: q.1, q.2)) fun st' s e => ?_) fun st' s r e1 e2 => ?_, ?_⟩
    · show bnd (argsVal st' cs) _ = _; rw [show argsVal st' cs = _ from e]; rfl
    · simp only [argsVal] at e1 e2 ⊢; rw [e1]; exact e2
    · intro i hi
      simp only [idsOfL, List.mem_append] at hi
      exact hi.elim (j1 i) (j2 i)
end Go.Av

/- An operation is local. No condition. -/
namespace Go.Av
section
variable {C : Ctx}
theorem idsOfL_imp : ∀ (l : List IV), idsOfL (impI l) = []
  | [] => rfl
  | v :: l => by simp [impI, idsOfL, idsOf, idsOfL_imp l]
theorem cellsOf_ids {v : AV} {cs : List AV} (h : cellsOf v = some cs) : ∀ i ∈ idsOfL cs, i ∈ idsOf v := by
  unfold cellsOf at h
  split at h
  · cases h
  · cases h
  · injection h with h; subst h; intro i hi; simpa [idsOf] using hi
  · injection h with h; subst h; intro i hi; rw [idsOfL_imp] at hi; cases hi
  · cases h
  · cases h
  · injection h with h; subst h; intro i hi; simpa [idsOfL] using hi
theorem partsOf_ids {env : Nat → AV} : ∀ {l : List (Nat × Operand)} {ps : List (Nat × List AV)}, partsOf env l = some ps → ∀ p ∈ ps, ∀ i ∈ idsOfL p.2, i ∈ idsOfL (evL env (partOps l))
  | [], ps, h => by simp [partsOf] at h; subst h; simp
  | q :: l, ps, h => by
    simp only [partsOf] at h
    obtain ⟨cs, h1, h2⟩ := bnd_eq.1 h
    obtain ⟨ps', h3, h4⟩ := bnd_eq.1 h2
    injection h4 with h4; subst h4
    intro p hp i hi
    simp only [partOps, evL, idsOfL, List.mem_append]
    rcases List.mem_cons.1 hp with rfl | hp
    · exact .inl (cellsOf_ids h1 i hi)
    · exact .inr (partsOf_ids h3 p hp i hi)

/-- What an operation may change. -/
def Wr (ts : List Nat) (nb : Nat) (ro : Bool) (i : Nat) : Prop := (ro = false ∧ i ∈ ts) ∨ (nb ≤ i ∧ i < nb + wide)
theorem Wr.nb (ts : List Nat) (nb : Nat) (ro : Bool) : Wr ts nb ro nb := .inr ⟨Nat.le_refl _, lt_wide nb⟩
theorem LocC.wr {α : Type} {ts : List Nat} {F : Store → Option (α × Store)} {st s1 : Store} {a : α} (h : LocC ts F st a s1) (nb : Nat) : Loc ts (Wr ts nb false) F st a s1 := h.1.mono fun _ hi => .inl ⟨rfl, hi⟩

theorem loadA_loc {ts : List Nat} {st st' : Store} {t : TypeId} {a : AV} (ha : Agree ts st st') (hv : ∀ i ∈ idsOf a, i ∈ ts) : loadA C t a st' = loadA C t a st := by
  unfold loadA
  congr 1; funext n; congr 1; funext g
  unfold loadAt
  cases a with
  | own id off => simp only; rw [ha id (hv id (by simp [idsOf]))]
  | ownE id k ix off => simp only; rw [ha id (hv id (by simp [idsOf]))]
  | i v => cases v <;> rfl
  | _ => rfl
theorem elemsOf_loc {ts : List Nat} {st st' : Store} {k : Nat} {a : AV} (ha : Agree ts st st') (hv : ∀ i ∈ idsOf a, i ∈ ts) : elemsOf st' k a = elemsOf st k a := by
  unfold elemsOf
  cases a with
  | osl id k' off len => simp only; rw [ha id (hv id (by simp [idsOf]))]
  | i v =>
    cases v with
    | lit v => cases v <;> rfl
    | _ => rfl
  | _ => rfl
theorem storeAt_loc {ts : List Nat} {st s1 : Store} {a : AV} {xs : List AV} {nb : Nat} (hc : Clo ts st) (ha : ∀ i ∈ idsOf a, i ∈ ts) (hxs : ∀ i ∈ idsOfL xs, i ∈ ts) (h6 : storeAt xs st a = some s1) :
    Loc ts (Wr ts nb false) (fun s => bnd (storeAt xs s a) fun r => some (AV.i (.lit undef), r)) st (.i (.lit undef)) s1 := by
  unfold storeAt at h6
  cases a with
  | own id off =>
    simp only at h6
    have hm := ha id (by simp [idsOf])
    unfold storeB at h6
    split at h6
    · rename_i cs hcs
      obtain ⟨l, k1, k2⟩ := bnd_eq.1 h6
      injection k2 with k2; subst k2
      refine .one (.inl ⟨rfl, hm⟩) fun st' hag => ?_
      simp only [storeAt]
      rw [hag id hm, hcs]
      simp [storeB, k1]
    · cases h6
  | ownE id k ix off =>
    simp only at h6
    have hm := ha id (by simp [idsOf])
    obtain ⟨p, k1, k2⟩ := bnd_eq.1 h6
    have hl := frzVs_loc hc hxs (show frzVs st xs = some (p.1, p.2) from k1)
    have h2' : Loc ts (Wr ts nb false) (fun s => bnd (storeE id k ix off p.1 s (s id)) fun r => some (AV.i (.lit undef), r)) p.2 (.i (.lit undef)) s1 := by
      unfold storeE at k2
      split at k2
      · rename_i k' es hes
        obtain ⟨j1, j2⟩ := tst_eq.1 k2
        obtain ⟨e, j3, j4⟩ := bnd_eq.1 j2
        obtain ⟨e', j5, j6⟩ := bnd_eq.1 j4
        injection j6 with j6; subst j6
        refine .one (.inl ⟨rfl, hm⟩) fun st' hag => ?_
        rw [hag id hm, hes]
        simp [storeE, j1, j3, j5]
      · cases k2
    refine (hl.wr nb).seq (F2 := fun q s => bnd (storeE id k ix off q s (s id)) fun r => some (AV.i (.lit undef), r)) h2' fun st' s r e1 e2 => ?_
    simp only [storeAt]
    rw [show frzVs st' xs = _ from e1]
    exact e2
  | _ => simp at h6
theorem absC_loc {ts : List Nat} {st s1 : Store} (hc : Clo ts st) {v : AV} {iv : IV} (hv : ∀ i ∈ idsOf v, i ∈ ts) (h : absC st v = some (iv, s1)) : LocC ts (fun s => absC s v) st iv s1 := by
  cases v with
  | i v =>
    simp only [absC] at h
    obtain ⟨h1, h2⟩ := tst_eq.1 h
    injection h2 with h2; injection h2 with h2 h3; subst h2; subst h3
    exact ⟨.here fun st' _ => by simp [absC, h1], hc⟩
  | nils =>
    simp only [absC] at h
    injection h with h2; injection h2 with h2 h3; subst h2; subst h3
    exact ⟨.here fun st' _ => rfl, hc⟩
  | osl id k off len =>
    simp only [absC] at h
    obtain ⟨es, h1, h2⟩ := bnd_eq.1 h
    injection h2 with h2; injection h2 with h2 h3; subst h2; subst h3
    have hm := hv id (by simp [idsOf])
    refine ⟨.one hm fun st' hag => ?_, ?_⟩
    · simp only [absC]; rw [hag id hm, h1]; rfl
    · exact applyU_clo (U := [(id, none)]) hc (by simp [idsOfB])
  | _ => simp [absC] at h
theorem absL_loc {ts : List Nat} : ∀ {cs : List AV} {st s1 : Store} {l : List IV}, Clo ts st → (∀ i ∈ idsOfL cs, i ∈ ts) → absL st cs = some (l, s1) → LocC ts (fun s => absL s cs) st l s1
  | [], st, s1, l, hc, _, h => by
    simp [absL] at h; obtain ⟨rfl, rfl⟩ := h; exact ⟨.here fun _ _ => rfl, hc⟩
  | c :: cs, st, s1, l, hc, hv, h => by
    simp only [absL] at h
    obtain ⟨p, h1, h2⟩ := bnd_eq.1 h
    obtain ⟨q, h3, h4⟩ := bnd_eq.1 h2
    injection h4 with h4; injection h4 with h4 h5; subst h4; subst h5
    have k1 := absC_loc hc (fun i hi => hv i (by simp [idsOfL, hi])) (show absC st c = some (p.1, p.2) from h1)
    have k2 := absL_loc k1.2 (fun i hi => hv i (by simp [idsOfL, hi])) (show absL p.2 cs = some (q.1, q.2) from h3)
    refine k1.seq (k2.map (H := fun s => bnd (absL s cs) fun q => some (p.1 :: q.1, q.2)) fun st' s e => ?_) fun st' s r e1 e2 => ?_
    · show bnd (absL st' cs) _ = _; rw [show absL st' cs = _ from e]; rfl
    · simp only [absL] at e1 e2 ⊢; rw [e1]; exact e2
theorem storeT_loc {ts : List Nat} {st s1 : Store} {a : AV} {xs : List AV} {nb : Nat} (hc : Clo ts st) (ha : ∀ i ∈ idsOf a, i ∈ ts) (hxs : ∀ i ∈ idsOfL xs, i ∈ ts) (h6 : storeT xs st a = some s1) :
    Loc ts (Wr ts nb false) (fun s => bnd (storeT xs s a) fun r => some (AV.i (.lit undef), r)) st (.i (.lit undef)) s1 := by
  unfold storeT at h6
  cases a with
  | own id off => exact storeAt_loc hc ha hxs (show storeAt xs st (.own id off) = some s1 from h6)
  | ownE id k ix off =>
    simp only at h6
    have hm := ha id (by simp [idsOf])
    obtain ⟨p, k1, k2⟩ := bnd_eq.1 h6
    have hl := absL_loc hc hxs (show absL st xs = some (p.1, p.2) from k1)
    have h2' : Loc ts (Wr ts nb false) (fun s => bnd (storeTE id k ix off p.1 s (s id)) fun r => some (AV.i (.lit undef), r)) p.2 (.i (.lit undef)) s1 := by
      unfold storeTE at k2
      split at k2
      · rename_i k' es hes
        obtain ⟨j1, j2⟩ := tst_eq.1 k2
        obtain ⟨e, j3, j4⟩ := bnd_eq.1 j2
        obtain ⟨e', j5, j6⟩ := bnd_eq.1 j4
        unfold treArr at j6
        split at j6
        · rename_i hl
          injection j6 with j6; subst j6
          refine .one (.inl ⟨rfl, hm⟩) fun st' hag => ?_
          rw [hag id hm, hes]
          simp [storeTE, j1, j3, j5, treArr, hl]
        · rename_i hl
          obtain ⟨j7, j8⟩ := tst_eq.1 j6
          injection j8 with j8; subst j8
          refine .one (.inl ⟨rfl, hm⟩) fun st' hag => ?_
          rw [hag id hm, hes]
          simp [storeTE, j1, j3, j5, treArr, hl, j7]
      · rename_i k' es hes
        obtain ⟨j1, j2⟩ := tst_eq.1 k2
        obtain ⟨e, j3, j4⟩ := bnd_eq.1 j2
        obtain ⟨e', j5, j6⟩ := bnd_eq.1 j4
        injection j6 with j6; subst j6
        refine .one (.inl ⟨rfl, hm⟩) fun st' hag => ?_
        rw [hag id hm, hes]
        simp [storeTE, j1, j3, j5]
      · cases k2
    refine (hl.wr nb).seq (F2 := fun q s => bnd (storeTE id k ix off q s (s id)) fun r => some (AV.i (.lit undef), r)) h2' fun st' s r e1 e2 => ?_
    simp only [storeT]
    rw [show absL st' xs = _ from e1]
    exact e2
  | _ => simp at h6
theorem storeA_loc {ts : List Nat} {st s1 : Store} {t : TypeId} {a x : AV} {nb : Nat} (hc : Clo ts st) (ha : ∀ i ∈ idsOf a, i ∈ ts) (hx : ∀ i ∈ idsOf x, i ∈ ts) (h : storeA C t a x st = some s1) :
    Loc ts (Wr ts nb false) (fun s => bnd (storeA C t a x s) fun r => some (AV.i (.lit undef), r)) st (.i (.lit undef)) s1 := by
  unfold storeA at h ⊢
  obtain ⟨n, h1, h2⟩ := bnd_eq.1 h
  obtain ⟨xs, h3, h4⟩ := bnd_eq.1 h2
  obtain ⟨h5, h6⟩ := tst_eq.1 h4
  simp only [h1, h3, bnd_some, h5, tst_true]
  have hxs : ∀ i ∈ idsOfL xs, i ∈ ts := fun i hi => hx i (cellsOf_ids h3 i hi)
  unfold storeAny at h6 ⊢
  split at h6
  · exact storeAt_loc hc ha hxs h6
  · exact storeT_loc hc ha hxs h6
theorem appA_loc {ts : List Nat} {st s1 : Store} {t : TypeId} {a x v : AV} {nb : Nat} (ha : ∀ i ∈ idsOf a, i ∈ ts) (hx : ∀ i ∈ idsOf x, i ∈ ts) (h : appA C t a x st nb = some (v, s1)) :
    Loc ts (Wr ts nb false) (fun s => appA C t a x s nb) st v s1 := by
  unfold appA at h ⊢
  obtain ⟨e, h1, h2⟩ := bnd_eq.1 h
  obtain ⟨k, h3, h4⟩ := bnd_eq.1 h2
  obtain ⟨by_, h5, h6⟩ := bnd_eq.1 h4
  obtain ⟨z, h7, h8⟩ := bnd_eq.1 h6
  obtain ⟨h9, h10⟩ := tst_eq.1 h8
  obtain ⟨news, h11, h12⟩ := bnd_eq.1 h10
  simp only [h1, h3, h5, h7, bnd_some, h9, tst_true]
  have hel : ∀ st', Agree ts st st' → elemsOf st' k x = some news := fun st' hag => by rw [elemsOf_loc hag hx]; exact h11
  unfold appTo at h12
  cases a with
  | nils =>
    simp only at h12
    unfold appNil at h12
    split at h12
    · rename_i hem
      injection h12 with h12; injection h12 with j1 j2; subst j1; subst j2
      refine .here fun st' hag => ?_
      rw [hel st' hag]; simp [appTo, appNil, hem]
    · rename_i hem
      obtain ⟨j1, j2⟩ := tst_eq.1 h12
      injection j2 with j2; injection j2 with j2 j3; subst j2; subst j3
      refine .one (Wr.nb _ _ _) fun st' hag => ?_
      rw [hel st' hag]; simp only [bnd_some, appTo]; rw [hem]; simp only [appNil]; rw [j1]; rfl
  | osl id k' off len =>
    simp only at h12
    have hm := ha id (by simp [idsOf])
    unfold appOsl at h12
    split at h12
    · rename_i k'' es hes
      obtain ⟨j1, j2⟩ := tst_eq.1 h12
      injection j2 with j2; injection j2 with j2 j3; subst j2; subst j3
      refine ⟨[(nb, some (.arr k (es.take len ++ news))), (id, none)], ?_, rfl, fun st' hag => ?_⟩
      · intro p hp
        simp at hp
        rcases hp with rfl | rfl
        · exact Wr.nb _ _ _
        · exact .inl ⟨rfl, hm⟩
      · simp only
        rw [hel st' hag]
        simp only [bnd_some, appTo]
        rw [hag id hm, hes]
        simp only [appOsl]
        rw [j1]
        rfl
    · cases h12
  | _ => simp at h12
theorem copyA_loc {ts : List Nat} {st s1 : Store} {t : TypeId} {a x v : AV} {nb : Nat} (ha : ∀ i ∈ idsOf a, i ∈ ts) (hx : ∀ i ∈ idsOf x, i ∈ ts) (h : copyA C t a x st = some (v, s1)) :
    Loc ts (Wr ts nb false) (fun s => copyA C t a x s) st v s1 := by
  unfold copyA at h ⊢
  obtain ⟨e, h1, h2⟩ := bnd_eq.1 h
  obtain ⟨k, h3, h4⟩ := bnd_eq.1 h2
  obtain ⟨h9, h10⟩ := tst_eq.1 h4
  obtain ⟨src, h11, h12⟩ := bnd_eq.1 h10
  simp only [h1, h3, bnd_some, h9, tst_true]
  have hel : ∀ st', Agree ts st st' → elemsOf st' k x = some src := fun st' hag => by rw [elemsOf_loc hag hx]; exact h11
  unfold copyTo at h12
  cases a with
  | nils =>
    simp only at h12
    injection h12 with h12; injection h12 with j1 j2; subst j1; subst j2
    refine .here fun st' hag => ?_
    rw [hel st' hag]; simp [copyTo]
  | osl id k' off len =>
    simp only at h12
    have hm := ha id (by simp [idsOf])
    unfold copyOsl at h12
    split at h12
    · rename_i k'' es hes
      obtain ⟨j1, j2⟩ := tst_eq.1 h12
      injection j2 with j2; injection j2 with j2 j3; subst j2; subst j3
      refine .one (.inl ⟨rfl, hm⟩) fun st' hag => ?_
      rw [hel st' hag]
      simp only [bnd_some, copyTo]
      rw [hag id hm, hes]
      simp only [copyOsl]
      rw [j1]
      rfl
    · cases h12
  | _ => simp at h12

/-! ### Reaching -/
theorem reach_in {ts : List Nat} {st : Store} (hc : Clo ts st) : ∀ (n : Nat) (todo seen : List Nat), (∀ i ∈ todo, i ∈ ts) → (∀ i ∈ seen, i ∈ ts) → ∀ i ∈ reach st n todo seen, i ∈ ts
  | 0, _, _, _, h => by simpa [reach] using h
  | _ + 1, [], _, _, h => by simpa [reach] using h
  | n + 1, i :: todo, seen, ht, h => by
    simp only [reach]
    split
    · exact reach_in hc n _ _ (fun j hj => ht j (by simp [hj])) h
    · have hi := ht i (by simp)
      refine reach_in hc n _ _ (fun j hj => ?_) (fun j hj => ?_)
      · rcases List.mem_append.1 hj with hj | hj
        · exact hc i hi j hj
        · exact ht j (by simp [hj])
      · rcases List.mem_append.1 hj with hj | hj
        · exact h j hj
        · simp at hj; subst hj; exact hi
theorem reach_loc {ts : List Nat} {st st' : Store} (hc : Clo ts st) (ha : Agree ts st st') : ∀ (n : Nat) (todo seen : List Nat), (∀ i ∈ todo, i ∈ ts) → reach st' n todo seen = reach st n todo seen
  | 0, _, _, _ => rfl
  | _ + 1, [], _, _ => rfl
  | n + 1, i :: todo, seen, ht => by
    simp only [reach]
    have hi := ht i (by simp)
    rw [ha i hi, reach_loc hc ha n todo seen (fun j hj => ht j (by simp [hj])), reach_loc hc ha n (idsOfB (st i) ++ todo) (seen ++ [i]) (fun j hj => ?_)]
    rcases List.mem_append.1 hj with hj | hj
    · exact hc i hi j hj
    · exact ht j (by simp [hj])
theorem takeSt_loc {ts : List Nat} {st st' : Store} (r : Nat → Option Nat) (ha : Agree ts st st') : ∀ {ids : List Nat}, (∀ i ∈ ids, i ∈ ts) → takeSt r st' ids = takeSt r st ids
  | [], _ => rfl
  | i :: ids, h => by simp only [takeSt]; rw [ha i (h i (by simp)), takeSt_loc r ha (fun j hj => h j (by simp [hj]))]
theorem liveAll_loc {ts : List Nat} {st st' : Store} (ha : Agree ts st st') : ∀ {ids : List Nat}, (∀ i ∈ ids, i ∈ ts) → liveAll st' ids = liveAll st ids
  | [], _ => rfl
  | i :: ids, h => by simp only [liveAll]; rw [ha i (h i (by simp)), liveAll_loc ha (fun j hj => h j (by simp [hj]))]
def putU (r : Nat → Option Nat) (nb : Nat) : List Nat → StL → Upd
  | _, [] => []
  | i :: ids, b :: bs => (i, renB r b) :: putU r nb ids bs
  | [], b :: bs => (nb, renB r b) :: putU r (nb + 1) [] bs
theorem putBack_apply (r : Nat → Option Nat) (st : Store) : ∀ (nb : Nat) (ids : List Nat) (stl : StL), putBack r st nb ids stl = applyU (putU r nb ids stl) st
  | _, [], [] => rfl
  | _, _ :: _, [] => rfl
  | nb, i :: ids, b :: bs => by simp [putBack, putU, applyU, putBack_apply r st nb ids bs]
  | nb, [], b :: bs => by simp [putBack, putU, applyU, putBack_apply r st (nb + 1) [] bs]
theorem putU_ids (r : Nat → Option Nat) : ∀ (nb : Nat) (ids : List Nat) (stl : StL), ∀ p ∈ putU r nb ids stl, p.1 ∈ ids ∨ (nb ≤ p.1 ∧ p.1 < nb + (stl.length - ids.length))
  | _, [], [] => by simp [putU]
  | _, _ :: _, [] => by simp [putU]
  | nb, i :: ids, b :: bs => by
    intro p hp
    simp only [putU, List.mem_cons] at hp
    rcases hp with rfl | hp
    · simp
    · rcases putU_ids r nb ids bs p hp with h | h
      · simp [h]
      · right; simpa using h
  | nb, [], b :: bs => by
    intro p hp
    simp only [putU, List.mem_cons] at hp
    rcases hp with rfl | hp
    · right; simp
    · rcases putU_ids r (nb + 1) [] bs p hp with h | h
      · simp at h
      · right; simp at h ⊢; omega
theorem callGo_loc {call : CallF} {ts : List Nat} {st s1 : Store} {nb : Nat} {own : Bool} {g : FuncId} {args : List AV} {v : AV} (hc : Clo ts st) (hv : ∀ i ∈ idsOfL args, i ∈ ts) (h : callGo call own g args st nb = some (v, s1)) :
    Loc ts (Wr ts nb false) (fun s => callGo call own g args s nb) st v s1 := by
  unfold callGo at h ⊢
  obtain ⟨p, h1, h2⟩ := bnd_eq.1 h
  have hfr : LocC ts (fun s => argsFor s args own) st p.1 p.2 ∧ ∀ i ∈ idsOfL p.1, i ∈ ts := by
    cases own with
    | true =>
      simp only [argsFor, Option.some.injEq] at h1
      subst h1
      exact ⟨⟨.here fun _ _ => rfl, hc⟩, hv⟩
    | false => exact argsVal_loc hc hv (show argsVal st args = some (p.1, p.2) from h1)
  have h2' : Loc ts (Wr ts nb false) (fun s => callWith call g p.1 s nb (reach s fuelR (idsOfL p.1) [])) p.2 v s1 := by
    unfold callWith at h2 ⊢
    obtain ⟨h3, h4⟩ := tst_eq.1 h2
    obtain ⟨q, h5, h6⟩ := bnd_eq.1 h4
    unfold callBack at h6
    obtain ⟨h7, h8⟩ := tst_eq.1 h6
    injection h8 with h8; injection h8 with h8 h9; subst h8; subst h9
    have hin := reach_in hfr.1.2 fuelR (idsOfL p.1) [] hfr.2 (by simp)
    rw [putBack_apply]
    refine ⟨putU _ nb _ q.2, fun u hu => ?_, rfl, fun st' hag => ?_⟩
    · rcases putU_ids _ _ _ _ u hu with k | k
      · exact .inl ⟨rfl, hin _ k⟩
      · have := (of_decide_eq_true h7).2
        exact .inr ⟨k.1, by omega⟩
    · simp only
      rw [reach_loc hfr.1.2 hag fuelR _ [] hfr.2, liveAll_loc hag hin, takeSt_loc _ hag hin, h3, h5]
      simp only [tst_true, bnd_some, callBack]
      rw [h7, putBack_apply]
      rfl
  refine (hfr.1.wr nb).seq (F2 := fun us s => callWith call g us s nb (reach s fuelR (idsOfL us) [])) h2' fun st' s r e1 e2 => ?_
  show bnd (argsFor st' args own) _ = _
  rw [show argsFor st' args own = _ from e1]
  exact e2
end
end Go.Av

/- Operations that touch nothing in common may change places. No condition. -/
namespace Go.Av
section
variable {C : Ctx}
theorem pure_loc {α β : Type} {ts : List Nat} {ex : Nat → Prop} {o : Option α} {f : α → β} {st s1 : Store} {v : β} (h : (bnd o fun a => some (f a, st)) = some (v, s1)) : Loc ts ex (fun s => bnd o fun a => some (f a, s)) st v s1 := by
  obtain ⟨a, h1, h2⟩ := bnd_eq.1 h
  injection h2 with h2; injection h2 with h2 h3; subst h2; subst h3
  exact .here fun st' _ => by simp [h1]
theorem stepP_loc {env : Nat → AV} {ts : List Nat} {st s1 : Store} {nb : Nat} {op : Op} {v : AV} (hg : goCall op = none) (hc : (touchI env op).2 = false → Clo ts st) (hv : ∀ i ∈ (touchI env op).1, i ∈ ts) (h : stepP C env st nb op = some (v, s1)) :
    Loc ts (Wr ts nb (touchI env op).2) (fun s => stepP C env s nb op) st v s1 := by
  unfold stepP at h
  split at h
  · injection h with h; injection h with h1 h2; subst h1; subst h2; exact .here fun _ _ => rfl
  · injection h with h; injection h with h1 h2; subst h1; subst h2; exact .here fun _ _ => rfl
  · exact pure_loc (f := fun v => v) h
  · obtain ⟨z, h1, h2⟩ := bnd_eq.1 h
    injection h2 with h2; injection h2 with h2 h3; subst h2; subst h3
    exact .one (Wr.nb _ _ _) fun st' _ => by simp [stepP, h1]
  · obtain ⟨z, h1, h2⟩ := bnd_eq.1 h
    injection h2 with h2; injection h2 with h2 h3; subst h2; subst h3
    exact .one (Wr.nb _ _ _) fun st' _ => by simp [stepP, h1]
  · rename_i t parts
    obtain ⟨g, h1, h2⟩ := bnd_eq.1 h
    obtain ⟨h3, h4⟩ := tst_eq.1 h2
    obtain ⟨z, h5, h6⟩ := bnd_eq.1 h4
    obtain ⟨ps, h7, h8⟩ := bnd_eq.1 h6
    obtain ⟨cs, h9, h10⟩ := bnd_eq.1 h8
    injection h10 with h10; injection h10 with h11 h12; subst h11; subst h12
    exact .here fun st' _ => by simp [stepP, h1, h3, h5, h7, h9]
  · rename_i t n parts
    obtain ⟨e, h1, h2⟩ := bnd_eq.1 h
    obtain ⟨ps, h3, h4⟩ := bnd_eq.1 h2
    unfold sliceLit at h4
    obtain ⟨k, h5, h6⟩ := bnd_eq.1 h4
    obtain ⟨z, h7, h8⟩ := bnd_eq.1 h6
    obtain ⟨zi, h9, h10⟩ := bnd_eq.1 h8
    obtain ⟨h11, h12⟩ := tst_eq.1 h10
    obtain ⟨q, h13, h14⟩ := bnd_eq.1 h12
    obtain ⟨es, h15, h16⟩ := bnd_eq.1 h14
    injection h16 with h16; injection h16 with h17 h18; subst h17; subst h18
    have hl := frzParts_loc (hc rfl) (fun p hp i hi => hv i (by simp only [touchI]; exact partsOf_ids h3 p hp i hi)) (show frzParts st ps = some (q.1, q.2) from h13)
    refine (hl.wr nb).seq (F2 := fun l s => bnd (setElems k (repl n zi) l) fun es => some (AV.osl nb k 0 n, upd s nb (some (.arr k es)))) ?_ fun st' s r e1 e2 => ?_
    · exact .one (Wr.nb _ _ _) fun st' _ => by simp [h15]
    · simp only [stepP, h1, h3, bnd_some, sliceLit, h5, h7, h9]
      rw [h11, tst_true, show frzParts st' ps = _ from e1]
      exact e2
  · rename_i t a
    obtain ⟨x, h1, h2⟩ := bnd_eq.1 h
    injection h2 with h2; injection h2 with h2 h3; subst h2; subst h3
    exact .here fun st' hag => by simp only [stepP]; rw [loadA_loc hag (fun i hi => hv i hi), h1]; rfl
  · rename_i t a x
    obtain ⟨s2, h1, h2⟩ := bnd_eq.1 h
    injection h2 with h2; injection h2 with h2 h3; subst h2; subst h3
    exact storeA_loc (hc rfl) (fun i hi => hv i (by simp [touchI, hi])) (fun i hi => hv i (by simp [touchI, hi])) h1
  · exact pure_loc (f := fun v => v) h
  · exact pure_loc (f := fun v => AV.i v) h
  · exact pure_loc (f := fun v => AV.i v) h
  · exact pure_loc (f := fun v => v) h
  · rename_i t l c
    unfold makeA at h
    split at h
    · rename_i l c hl hcc
      obtain ⟨e, h1, h2⟩ := bnd_eq.1 h
      obtain ⟨k, h3, h4⟩ := bnd_eq.1 h2
      obtain ⟨by_, h5, h6⟩ := bnd_eq.1 h4
      obtain ⟨z, h7, h8⟩ := bnd_eq.1 h6
      obtain ⟨zi, h9, h10⟩ := bnd_eq.1 h8
      obtain ⟨h11, h12⟩ := tst_eq.1 h10
      injection h12 with h12; injection h12 with h13 h14; subst h13; subst h14
      refine .one (Wr.nb _ _ _) fun st' _ => ?_
      simp only [stepP]
      rw [hl, hcc]
      simp only [makeA, h1, h3, h5, h7, h9, bnd_some]
      rw [h11, tst_true]
    · cases h
  · exact pure_loc (f := fun v => v) h
  · rename_i s x f
    obtain ⟨p, h1, h2⟩ := bnd_eq.1 h
    obtain ⟨n, h3, h4⟩ := bnd_eq.1 h2
    obtain ⟨h5, h6⟩ := tst_eq.1 h4
    obtain ⟨r, h7, h8⟩ := bnd_eq.1 h6
    injection h8 with h8; injection h8 with h8 h9; subst h8; subst h9
    exact .here fun st' _ => by simp only [stepP, h1, h3, bnd_some]; rw [h5, tst_true, h7]; rfl
  · rename_i s x f
    obtain ⟨p, h1, h2⟩ := bnd_eq.1 h
    obtain ⟨n, h3, h4⟩ := bnd_eq.1 h2
    obtain ⟨g, h5, h6⟩ := bnd_eq.1 h4
    obtain ⟨r, h7, h8⟩ := bnd_eq.1 h6
    injection h8 with h8; injection h8 with h8 h9; subst h8; subst h9
    exact .here fun st' _ => by simp only [stepP, h1, h3, h5, h7, bnd_some]
  · exact pure_loc (f := fun v => v) h
  · exact pure_loc (f := fun v => v) h
  · exact pure_loc (f := fun v => v) h
  · obtain ⟨h1, h2⟩ := tst_eq.1 h
    obtain ⟨u, h4, h2⟩ := bnd_eq.1 h2
    injection h2 with h2; injection h2 with h2 h3; subst h2; subst h3
    exact .here fun st' _ => by simp only [stepP]; rw [h1, tst_true, h4, bnd_some]
  · rename_i b args ts'
    unfold builtinA at h
    split at h
    · rename_i t x e1 e2
      obtain ⟨n, h1, h2⟩ := bnd_eq.1 h
      injection h2 with h2; injection h2 with h2 h3; subst h2; subst h3
      exact .here fun st' _ => by simp only [stepP]; rw [e1, e2]; simp [builtinA, h1]
    · rename_i t u s x e1 e2
      obtain ⟨h1, h2⟩ := tst_eq.1 h
      have hv' : ∀ i ∈ idsOfL [s, x], i ∈ ts := fun i hi => hv i (show i ∈ idsOfL (evL env args.toList) by rw [e2]; exact hi)
      have hl := appA_loc (fun i hi => hv' i (by simp [idsOfL, hi])) (fun i hi => hv' i (by simp [idsOfL, hi])) h2
      obtain ⟨U, k1, k2, k3⟩ := hl
      refine ⟨U, k1, k2, fun st' hag => ?_⟩
      simp only [stepP]
      rw [e1, e2]
      simp only [builtinA]
      rw [h1, tst_true]
      exact k3 st' hag
    · rename_i t u d x e1 e2
      have hv' : ∀ i ∈ idsOfL [d, x], i ∈ ts := fun i hi => hv i (show i ∈ idsOfL (evL env args.toList) by rw [e2]; exact hi)
      obtain ⟨U, k1, k2, k3⟩ := copyA_loc (nb := nb) (fun i hi => hv' i (by simp [idsOfL, hi])) (fun i hi => hv' i (by simp [idsOfL, hi])) h
      refine ⟨U, k1, k2, fun st' hag => ?_⟩
      simp only [stepP]
      rw [e1, e2]
      exact k3 st' hag
    · obtain ⟨n, h1, h2⟩ := bnd_eq.1 h
      injection h2 with h2; injection h2 with h2 h3; subst h2; subst h3
      exact .here fun st' _ => by simp only [stepP]; simp [builtinA, h1]
    · obtain ⟨n, h1, h2⟩ := bnd_eq.1 h
      injection h2 with h2; injection h2 with h2 h3; subst h2; subst h3
      exact .here fun st' _ => by simp only [stepP]; simp [builtinA, h1]
    · cases h
  · cases h
theorem stepOp_loc {call : CallF} {env : Nat → AV} {ts : List Nat} {st s1 : Store} {nb : Nat} {op : Op} {v : AV} (hc : (touchI env op).2 = false → Clo ts st) (hv : ∀ i ∈ (touchI env op).1, i ∈ ts) (h : stepOp C call op env st nb = some (v, s1)) :
    Loc ts (Wr ts nb (touchI env op).2) (fun s => stepOp C call op env s nb) st v s1 := by
  unfold stepOp at h ⊢
  cases hg : goCall op with
  | none =>
    rw [hg] at h
    exact stepP_loc hg hc hv h
  | some q =>
    rw [hg] at h
    obtain ⟨args, ts', hop, hargs⟩ := goCall_eq hg
    simp only [stepW] at h ⊢
    have htouch : touchI env op = (idsOf (ev env q.1) ++ idsOfL (evL env q.2), false) := by rw [hop, ← hargs]; rfl
    rw [htouch] at hv hc ⊢
    replace hc := hc rfl
    unfold stepC at h ⊢
    split at h
    · rename_i g caps hfe
      rw [hfe] at hv ⊢
      split at h
      · cases h
      rename_i hgy
      simp only [hgy, if_false]
      refine callGo_loc hc (fun i hi => hv i ?_) h
      have : ∀ (a b : List AV), idsOfL (a ++ b) = idsOfL a ++ idsOfL b := by
        intro a b
        induction a with
        | nil => rfl
        | cons c a ih => simp [idsOfL, ih]
      rw [this] at hi
      simp only [idsOf, List.mem_append] at hi ⊢
      exact hi.symm
    · rename_i id hfe
      rw [hfe] at hv ⊢
      refine callGo_loc hc (fun i hi => hv i ?_) h
      simpa [idsOf, idsOfL] using hi
    · cases h

/-! ### The same operands, the same step -/
theorem evL_congr {env env' : Nat → AV} : ∀ {l : List Operand}, (∀ x ∈ l, ev env' x = ev env x) → evL env' l = evL env l
  | [], _ => rfl
  | x :: l, h => by simp only [evL]; rw [h x (by simp), evL_congr fun y hy => h y (by simp [hy])]
theorem partsOf_congr {env env' : Nat → AV} : ∀ {l : List (Nat × Operand)}, (∀ x ∈ partOps l, ev env' x = ev env x) → partsOf env' l = partsOf env l
  | [], _ => rfl
  | p :: l, h => by simp only [partsOf]; rw [h p.2 (by simp [partOps]), partsOf_congr fun y hy => h y (by simp [partOps, hy])]
theorem evO_congr {env env' : Nat → AV} {o : Option Operand} (h : ∀ x ∈ o.toList, ev env' x = ev env x) : evO env' o = evO env o := by
  cases o with
  | none => rfl
  | some x => simp only [evO]; rw [h x (by simp)]
theorem stepP_congr {env env' : Nat → AV} {st : Store} {nb : Nat} {op : Op} (h : ∀ x ∈ opsOf op, ev env' x = ev env x) : stepP C env' st nb op = stepP C env st nb op := by
  cases op with
  | slice t x lo hi mx =>
    have hx := h x (by simp [opsOf])
    have hlo := evO_congr (env := env) (env' := env') (o := lo) fun y hy => h y (by simp [opsOf] at hy ⊢; simp [hy])
    have hhi := evO_congr (env := env) (env' := env') (o := hi) fun y hy => h y (by simp [opsOf] at hy ⊢; simp [hy])
    cases mx with
    | none => simp only [stepP]; rw [hx, hlo, hhi]
    | some m => rfl
  | call c =>
    obtain ⟨callee, args, ts⟩ := c
    cases callee with
    | builtin b =>
      simp only [stepP]
      rw [evL_congr (l := args.toList) fun y hy => h y (show y ∈ args.toList from hy)]
    | value f => rfl
    | invoke f m => rfl
  | build t parts => simp only [stepP]; rw [partsOf_congr (l := parts.toList) fun y hy => h y hy]
  | buildSlice t n parts => simp only [stepP]; rw [partsOf_congr (l := parts.toList) fun y hy => h y hy]
  | makeFunc f first cs => simp only [stepP]; rw [evL_congr (l := cs.toList) fun y hy => h y hy]
  | move x => simp only [stepP]; rw [h x (by simp [opsOf])]
  | assign x => simp only [stepP]; rw [h x (by simp [opsOf])]
  | pick c a b => simp only [stepP]; rw [h c (by simp [opsOf]), h a (by simp [opsOf]), h b (by simp [opsOf])]
  | box t x => simp only [stepP]; rw [h x (by simp [opsOf])]
  | load t x => simp only [stepP]; rw [h x (by simp [opsOf])]
  | store t a x => simp only [stepP]; rw [h a (by simp [opsOf]), h x (by simp [opsOf])]
  | nilCheck x => simp only [stepP]; rw [h x (by simp [opsOf])]
  | binOp op t x y ty => simp only [stepP]; rw [h x (by simp [opsOf]), h y (by simp [opsOf])]
  | unOp op ty x => simp only [stepP]; rw [h x (by simp [opsOf])]
  | convert s d x => simp only [stepP]; rw [h x (by simp [opsOf])]
  | makeSlice t l c => simp only [stepP]; rw [h l (by simp [opsOf]), h c (by simp [opsOf])]
  | fieldAddr s x f => simp only [stepP]; rw [h x (by simp [opsOf])]
  | field s x f => simp only [stepP]; rw [h x (by simp [opsOf])]
  | indexAddr t x i => simp only [stepP]; rw [h x (by simp [opsOf]), h i (by simp [opsOf])]
  | index t x i => simp only [stepP]; rw [h x (by simp [opsOf]), h i (by simp [opsOf])]
  | extract x j => simp only [stepP]; rw [h x (by simp [opsOf])]
  | _ => rfl
theorem stepOp_congr {call : CallF} {env env' : Nat → AV} {st : Store} {nb : Nat} {op : Op} (h : ∀ x ∈ opsOf op, ev env' x = ev env x) : stepOp C call op env' st nb = stepOp C call op env st nb := by
  unfold stepOp
  cases hg : goCall op with
  | none => exact stepP_congr h
  | some q =>
    obtain ⟨args, ts', hop, hargs⟩ := goCall_eq hg
    rw [hop] at h
    simp only [stepW]
    rw [h q.1 (show q.1 ∈ q.1 :: args.toList by simp), evL_congr (l := q.2) fun y hy => h y (show y ∈ q.1 :: args.toList by rw [hargs]; simp [hy])]
theorem touchI_congr {env env' : Nat → AV} {op : Op} (h : ∀ x ∈ opsOf op, ev env' x = ev env x) : touchI env' op = touchI env op := by
  cases op with
  | call c =>
    obtain ⟨callee, args, ts⟩ := c
    cases callee with
    | builtin b =>
      have := evL_congr (l := args.toList) (env := env) (env' := env') fun y hy => h y (show y ∈ args.toList from hy)
      cases b <;> first | rfl | (simp only [touchI]; rw [this])
    | value f =>
      simp only [touchI]
      rw [h f (show f ∈ f :: args.toList by simp), evL_congr (l := args.toList) fun y hy => h y (show y ∈ f :: args.toList by simp [hy])]
    | invoke f m => rfl
  | buildSlice t n parts => simp only [touchI]; rw [evL_congr (l := partOps parts.toList) fun y hy => h y hy]
  | load t x => simp only [touchI]; rw [h x (by simp [opsOf])]
  | store t a x => simp only [touchI]; rw [h a (by simp [opsOf]), h x (by simp [opsOf])]
  | _ => rfl
end
end Go.Av

/- A region that draws its order does what it does in the order of the text. Condition: the program's orders are mixed. -/
namespace Go.Av
section
variable {C : Ctx} {call : CallF} {ops : Array Oper} {base : Nat}
abbrev St2 := (Nat → AV) × Store
abbrev Ft := List Nat × Bool

def Foot (all : List Oper) (t : Ft) (o : Oper) (S : St2) : Prop :=
  wantA all S.1 o.guard = some true → (∀ x ∈ (touchI S.1 o.op).1, x ∈ t.1) ∧ ((touchI S.1 o.op).2 = false → Clo t.1 S.2) ∧ (t.2 = true → (touchI S.1 o.op).2 = true)
def Step (C : Ctx) (call : CallF) (all : List Oper) (base : Nat) (t : Ft) (i : Nat) (o : Oper) (S S' : St2) : Prop := aOp C call all base i o S = some S' ∧ Foot all t o S

theorem step_local {t : Ft} {i : Nat} {o : Oper} {S S' : St2} (h : Step C call ops.toList base t i o S S') :
    ∃ v U, S' = (putA S.1 o.dst v, applyU U S.2) ∧ (∀ p ∈ U, Wr t.1 (base + wide * i) t.2 p.1) ∧
      ∀ env' st', (∀ x ∈ opsOf o.op, ev env' x = ev S.1 x) → wantA ops.toList env' o.guard = wantA ops.toList S.1 o.guard → Agree t.1 S.2 st' →
        Step C call ops.toList base t i o (env', st') (putA env' o.dst v, applyU U st') := by
  obtain ⟨h1, h2⟩ := h
  unfold aOp at h1
  obtain ⟨b, h3, h4⟩ := bnd_eq.1 h1
  cases b with
  | false =>
    simp only [Bool.false_eq_true, if_false, Option.some.injEq] at h4
    refine ⟨_, [], h4.symm, by simp, fun env' st' hx hw _ => ⟨?_, fun hh => ?_⟩⟩
    · unfold aOp; simp only; rw [hw, h3]; simp [applyU]
    · simp only at hh; rw [hw, h3] at hh; simp at hh
  | true =>
    simp only [if_true] at h4
    obtain ⟨p, h5, h6⟩ := bnd_eq.1 h4
    injection h6 with h6
    obtain ⟨k1, k2, k3⟩ := h2 h3
    obtain ⟨U, j1, j2, j3⟩ := stepOp_loc k2 k1 (show stepOp C call o.op S.1 S.2 _ = some (p.1, p.2) from h5)
    refine ⟨p.1, U, by rw [← h6, j2], fun q hq => ?_, fun env' st' hx hw hag => ⟨?_, fun _ => ?_⟩⟩
    · rcases j1 q hq with ⟨e1, e2⟩ | e
      · refine .inl ⟨?_, e2⟩
        cases ht : t.2 with
        | false => rfl
        | true => rw [k3 ht] at e1; cases e1
      · exact .inr e
    · unfold aOp
      simp only
      rw [hw, h3, bnd_some, if_pos rfl, stepOp_congr hx, show stepOp C call o.op S.1 st' (base + wide * i) = _ from j3 st' hag]
      rfl
    · simp only
      rw [touchI_congr hx]
      exact ⟨k1, fun e => (k2 e).agree hag, k3⟩

/-- Two operations touch nothing in common. -/
def TApart (base : Nat) (t u : Ft) (i j : Nat) : Prop :=
  ((∀ x ∈ t.1, x ∉ u.1) ∨ (t.2 = true ∧ u.2 = true)) ∧ (∀ x ∈ u.1, ¬ (base + wide * i ≤ x ∧ x < base + wide * i + wide)) ∧ (∀ x ∈ t.1, ¬ (base + wide * j ≤ x ∧ x < base + wide * j + wide))
theorem ev_put {env : Nat → AV} {dst : Option Tmp} {v : AV} {x : Operand} (h : ∀ d, dst = some d → x ≠ .tmp d) : ev (putA env dst v) x = ev env x := by
  cases dst with
  | none => rfl
  | some d =>
    cases x with
    | tmp t =>
      have hne : t ≠ d := fun e => h d rfl (by rw [e])
      simp [ev, putA, upd, hne]
    | _ => rfl
theorem opsOf_operands {op : Op} {x : Operand} (h : x ∈ opsOf op) : x ∈ op.operands := by
  cases op with
  | call c =>
    obtain ⟨callee, args, ts⟩ := c
    cases callee with
    | builtin b => have h : x ∈ args.toList := h; simpa [Op.operands, Call.operands] using h
    | value f => have h : x ∈ f :: args.toList := h; simpa [Op.operands, Call.operands] using h
    | invoke f m => have h : x ∈ args.toList := h; simp only [Op.operands, Call.operands]; simp at h ⊢; exact .inr h
  | build t parts =>
    have : ∀ l : List (Nat × Operand), partOps l = l.map (·.2) := fun l => by induction l <;> simp_all [partOps]
    simp only [opsOf, this] at h
    simpa [Op.operands] using h
  | buildSlice t n parts =>
    have : ∀ l : List (Nat × Operand), partOps l = l.map (·.2) := fun l => by induction l <;> simp_all [partOps]
    simp only [opsOf, this] at h
    simpa [Op.operands] using h
  | slice t x lo hi mx =>
    simp only [opsOf, List.mem_cons, List.mem_append, Option.mem_toList] at h
    simp only [Op.operands]
    simp
    rcases h with h | h | h
    · exact .inl h
    · exact .inr (.inl h)
    · exact .inr (.inr (.inl h))
  | makeFunc f first cs =>
    have h : x ∈ cs.toList := h
    simp only [Op.operands]; simp at h ⊢; exact .inr h
  | _ => first | (simp [opsOf] at h; done) | (simpa [opsOf, Op.operands] using h)
theorem ev_looks {o : Oper} {env : Nat → AV} {dst : Option Tmp} {v : AV} (h : ∀ d, dst = some d → d ∉ o.looksAt ops) : ∀ x ∈ opsOf o.op, ev (putA env dst v) x = ev env x := by
  intro x hx
  refine ev_put fun d hd e => h d hd ?_
  subst e
  exact List.mem_append_left _ (List.mem_filterMap.2 ⟨.tmp d, by simpa using opsOf_operands hx, rfl⟩)
theorem want_looks {o : Oper} {env : Nat → AV} {dst : Option Tmp} {v : AV} (h : ∀ d, dst = some d → d ∉ o.looksAt ops) : wantA ops.toList (putA env dst v) o.guard = wantA ops.toList env o.guard := by
  cases hg : o.guard with
  | none => rfl
  | some p =>
    obtain ⟨g, want⟩ := p
    simp only [wantA]
    have hl : ops.toList[g]? = ops[g]? := by simp
    rw [hl]
    cases hd : (ops[g]?).bind (·.dst) with
    | none => rfl
    | some t =>
      simp only [wantD]
      cases dst with
      | none => rfl
      | some d =>
        have hne : t ≠ d := fun e => h d rfl (by subst e; simp [Oper.looksAt, hg, hd])
        simp [putA, upd, hne]
theorem putA_comm {env : Nat → AV} {x y : Option Tmp} {v u : AV} (h : ∀ d, x = some d → y ≠ some d) : putA (putA env x v) y u = putA (putA env y u) x v := by
  cases x with
  | none => rfl
  | some d =>
    cases y with
    | none => rfl
    | some e =>
      have hne : d ≠ e := fun q => h d rfl (by rw [q])
      funext i
      simp only [putA, upd]
      by_cases h1 : i = e
      · subst h1; simp [Ne.symm hne]
      · simp [h1]
theorem step_swap {t u : Ft} {i j : Nat} {oi oj : Oper} {S Si Sij : St2} (hne : i ≠ j) (hap : oi.apart ops oj = true) (ht : TApart base t u i j)
    (h1 : Step C call ops.toList base t i oi S Si) (h2 : Step C call ops.toList base u j oj Si Sij) : ∃ Sj, Step C call ops.toList base u j oj S Sj ∧ Step C call ops.toList base t i oi Sj Sij := by
  obtain ⟨a1, a2, a3⟩ := Oper.apart_spec hap
  obtain ⟨v, U, rfl, hU, hi⟩ := step_local h1
  obtain ⟨y, V, rfl, hV, hj⟩ := step_local h2
  obtain ⟨d1, d2, d3⟩ := ht
  -- what the first writes, the second does not touch
  have n1 : ∀ p ∈ U, p.1 ∉ u.1 := fun p hp hm => by
    rcases hU p hp with ⟨e1, e2⟩ | e
    · rcases d1 with d1 | ⟨d1, _⟩
      · exact d1 _ e2 hm
      · rw [d1] at e1; cases e1
    · exact d2 _ hm e
  have n2 : ∀ p ∈ V, p.1 ∉ t.1 := fun p hp hm => by
    rcases hV p hp with ⟨e1, e2⟩ | e
    · rcases d1 with d1 | ⟨_, d1⟩
      · exact d1 _ hm e2
      · rw [d1] at e1; cases e1
    · exact d3 _ hm e
  have n3 : ∀ p ∈ U, ∀ q ∈ V, p.1 ≠ q.1 := fun p hp q hq e => by
    rcases hV q hq with ⟨_, e2⟩ | e2
    · exact n1 p hp (e ▸ e2)
    · rcases hU p hp with ⟨_, e3⟩ | e3
      · exact n2 q hq (e ▸ e3)
      · rw [e] at e3
        apply hne
        unfold wide at e2 e3
        omega
  have s1 := hj S.1 S.2 (fun x hx => (ev_looks a1 x hx).symm) (want_looks a1).symm (fun x hx => (applyU_other fun p hp e => n1 p hp (e ▸ hx)).symm)
  refine ⟨_, s1, ?_⟩
  have s2 := hi (putA S.1 oj.dst y) (applyU V S.2) (ev_looks a3) (want_looks a3) (fun x hx => applyU_other fun p hp e => n2 p hp (e ▸ hx))
  rw [putA_comm (x := oi.dst) (y := oj.dst) a2, ← applyU_comm n3]
  exact s2

/-- Whatever order is picked from here on. -/
def aAny (C : Ctx) (call : CallF) (ops : Array Oper) (base : Nat) (T : Nat → Ft) (Q : St2 → Prop) : Nat → Array Bool → St2 → Prop
  | 0, listed, S => Region.ready .any ops listed = [] ∧ Q S
  | fuel + 1, listed, S => (Region.ready .any ops listed = [] → Q S) ∧
    ∀ i ∈ Region.ready .any ops listed, ∃ o S', ops[i]? = some o ∧ Step C call ops.toList base (T i) i o S S' ∧ aAny C call ops base T Q fuel (listed.setIfInBounds i true) S'
/-- Whatever is done had all done that it waits for. -/
def DC (ops : Array Oper) (listed : Array Bool) : Prop := ∀ k ok, ops[k]? = some ok → listed.getD k false = true → ∀ e ∈ ok.after, Region.binds .any e = true → listed.getD e.on false = true
theorem DC.step {listed : Array Bool} (h : DC ops listed) {j : Nat} {oj : Oper} (hj : ops[j]? = some oj) (hp : ∀ e ∈ oj.after, Region.binds .any e = true → listed.getD e.on false = true) : DC ops (listed.setIfInBounds j true) := by
  intro k ok hk hl e he hb
  have up : ∀ m, listed.getD m false = true → (listed.setIfInBounds j true).getD m false = true := fun m hm => getD_set_true hm
  by_cases hjk : j = k
  · subst hjk
    rw [hj] at hk; injection hk with hk; subst hk
    exact up _ (hp e he hb)
  · rw [getD_set_ne false hjk] at hl
    exact up _ (h k ok hk hl e he hb)
theorem waitsA_yes {after : List Edge} {i : Nat} (h : waitsA after i = true) : ∃ e ∈ after, Region.binds .any e = true ∧ e.on = i := by
  unfold waitsA at h
  rw [List.any_eq_true] at h
  obtain ⟨e, he, hh⟩ := h
  simp only [Bool.and_eq_true, beq_iff_eq] at hh
  exact ⟨e, he, hh.1, hh.2⟩
theorem waitsN_listed {listed : Array Bool} (hd : DC ops listed) {i : Nat} : ∀ (n : Nat) (after : List Edge), (∀ e ∈ after, Region.binds .any e = true → listed.getD e.on false = true) → waitsN ops.toList n after i = true → listed.getD i false = true
  | 0, after, hp, h => by
    obtain ⟨e, he, hb, rfl⟩ := waitsA_yes h
    exact hp e he hb
  | n + 1, after, hp, h => by
    simp only [waitsN] at h
    split at h
    · rename_i h1
      obtain ⟨e, he, hb, rfl⟩ := waitsA_yes h1
      exact hp e he hb
    · rw [List.any_eq_true] at h
      obtain ⟨e, he, hh⟩ := h
      simp only [Bool.and_eq_true] at hh
      refine waitsN_listed hd n _ ?_ hh.2
      intro d hd' hb
      unfold aftersOf at hd'
      split at hd'
      · rename_i o ho
        exact hd e.on o (by simpa using ho) (hp e he hh.1) d (by simpa using hd') hb
      · cases hd'
theorem aAny_first {T : Nat → Ft} {Q : St2 → Prop} {i : Nat} {oi : Oper} (hi : ops[i]? = some oi) :
    ∀ (fuel : Nat) (listed : Array Bool) (S S' : St2), DC ops listed →
      (∀ j oj, ops[j]? = some oj → j ≠ i → listed.getD j true = false → (∀ e ∈ oj.after, Region.binds .any e = true → e.on ≠ i) → oi.apart ops oj = true ∧ (waitsN ops.toList 3 oj.after.toList i = false → waitsN ops.toList 3 oi.after.toList j = false → TApart base (T i) (T j) i j)) →
      i ∈ Region.ready .any ops listed → Step C call ops.toList base (T i) i oi S S' →
      aAny C call ops base T Q fuel (listed.setIfInBounds i true) S' → aAny C call ops base T Q (fuel + 1) listed S := by
  intro fuel
  induction fuel with
  | zero =>
    intro listed S S' _ _ hr hs H
    refine ⟨fun h => (by rw [h] at hr; cases hr), fun j hj => ?_⟩
    by_cases hji : j = i
    · subst hji; exact ⟨oi, S', hi, hs, H⟩
    · have := ready_mono hj hji
      rw [H.1] at this
      cases this
  | succ fuel ih =>
    intro listed S S' hdc hfree hr hs H
    refine ⟨fun h => (by rw [h] at hr; cases hr), fun j hj => ?_⟩
    by_cases hji : j = i
    · subst hji; exact ⟨oi, S', hi, hs, H⟩
    · obtain ⟨oj, Sij, hoj, hsj, Hj⟩ := H.2 j (ready_mono hj hji)
      obtain ⟨hjun, oj', hoj', hall⟩ := mem_ready.1 hj
      rw [hoj] at hoj'; injection hoj' with hoj'; subst hoj'
      have notw : ∀ {x y : Nat} {l : Array Bool}, l.getD y true = false → l.getD y false = true → False := fun {x y l} h0 h1 => by
        rcases Nat.lt_or_ge y l.size with h' | h'
        · simp [h'] at h0 h1; rw [h0] at h1; cases h1
        · simp [Array.getElem?_eq_none h'] at h1
      have hnot : ∀ e ∈ oj.after, Region.binds .any e = true → e.on ≠ i := fun e he hb heq => by
        have h1 := hall e he hb
        have h0 := (mem_ready.1 hr).1
        rw [heq] at h1
        exact notw (x := 0) h0 h1
      obtain ⟨hiun, oi', hoi', halli⟩ := mem_ready.1 hr
      rw [hi] at hoi'; injection hoi' with hoi'; subst hoi'
      have hw1 : waitsN ops.toList 3 oj.after.toList i = false := by
        cases hq : waitsN ops.toList 3 oj.after.toList i with
        | false => rfl
        | true => exact (notw (x := 0) hiun (waitsN_listed hdc 3 _ (fun e he hb => hall e (by simpa using he) hb) hq)).elim
      have hw2 : waitsN ops.toList 3 oi.after.toList j = false := by
        cases hq : waitsN ops.toList 3 oi.after.toList j with
        | false => rfl
        | true => exact (notw (x := 0) hjun (waitsN_listed hdc 3 _ (fun e he hb => halli e (by simpa using he) hb) hq)).elim
      obtain ⟨hap, hta⟩ := hfree j oj hoj hji hjun hnot
      obtain ⟨Sj, k1, k2⟩ := step_swap (Ne.symm hji) hap (hta hw1 hw2) hs hsj
      refine ⟨oj, Sj, hoj, k1, ih (listed.setIfInBounds j true) Sj Sij (hdc.step hoj fun e he hb => hall e he hb) ?_ (ready_mono hr (Ne.symm hji)) k2 (by rw [Array.setIfInBounds_comm _ _ hji]; exact Hj)⟩
      intro k ok hk hki hun hno
      refine hfree k ok hk hki ?_ hno
      by_cases hjk : j = k
      · subst hjk; exact hjun
      · rw [getD_set_ne true hjk] at hun; exact hun

/-- The run in the order of the text. -/
def LexL (C : Ctx) (call : CallF) (all : List Oper) (base : Nat) : List Oper → List Ft → Nat → St2 → St2 → Prop
  | [], _, _, S, S' => S = S'
  | o :: os, t :: ts, i, S, S' => ∃ S1, Step C call all base t i o S S1 ∧ LexL C call all base os ts (i + 1) S1 S'
  | _ :: _, [], _, _, _ => False
theorem aAny_lex {T : Nat → Ft} {Q : St2 → Prop} (hT : ∀ i j oi oj, ops[i]? = some oi → ops[j]? = some oj → i ≠ j → waitsN ops.toList 3 oj.after.toList i = false → waitsN ops.toList 3 oi.after.toList j = false → TApart base (T i) (T j) i j) :
    ∀ (l : List Oper) (ts : List Ft) (k : Nat) (listed : Array Bool) (S S' : St2), DC ops listed → (∀ j, l[j]? = ops[k + j]?) → (∀ j t, ts[j]? = some t → T (k + j) = t) →
      Region.lexFrom .any ops l.length k listed = true → LexL C call ops.toList base l ts k S S' → Q S' → aAny C call ops base T Q l.length listed S
  | [], _, _, _, S, S', _, _, _, hB, h, hQ => by
    simp only [LexL] at h; subst h
    exact ⟨by simpa [Region.lexFrom] using hB, hQ⟩
  | o :: l, [], _, _, _, _, _, _, _, _, h, _ => by simp [LexL] at h
  | o :: l, t :: ts, k, listed, S, S', hdc, hl, ht, hB, h, hQ => by
    have h0 : ops[k]? = some o := by simpa using (hl 0).symm
    simp only [List.length_cons, Region.lexFrom, Bool.and_eq_true] at hB
    obtain ⟨⟨hr, hf⟩, hB'⟩ := hB
    obtain ⟨S1, h1, h2⟩ := h
    have htk : T k = t := by simpa using ht 0 t rfl
    rw [← htk] at h1
    have hrk : k ∈ Region.ready .any ops listed := by simpa using hr
    refine aAny_first h0 l.length listed S S1 hdc (fun j oj hj hne hun hno => ⟨Region.free_spec h0 hf j oj hj hne hun hno, fun hn1 hn2 => hT k j o oj h0 hj (Ne.symm hne) hn1 hn2⟩) hrk h1 ?_
    obtain ⟨_, o', ho', hall⟩ := mem_ready.1 hrk
    rw [h0] at ho'; injection ho' with ho'; subst ho'
    exact aAny_lex hT l ts (k + 1) _ S1 S' (hdc.step h0 fun e he hb => hall e he hb) (fun j => by have := hl (j + 1); simpa [Nat.add_assoc, Nat.add_comm 1 j] using this)
      (fun j u hu => by have := ht (j + 1) u (by simpa using hu); simpa [Nat.add_assoc, Nat.add_comm 1 j] using this) hB' h2 hQ

/-- It is a 'wpAny'. -/
theorem aAny_sound (hC : CtxOk C) (hcall : CallOk C call) {T : Nat → Ft} {QA : St2 → Prop} {Q : Exit → Act → World → Prop} {nt : Nat} {ds : List Deferred} {ρ : Option Nat} {w0 : World} {m0 : Mem} {φ0 : Pl} (hs : ∀ o ∈ ops, operOk nt o = true)
    (hQ : ∀ S a w, QA S → ARel ds w0 m0 φ0 nt (fun _ => True) S.1 S.2 a w → Q .normal a w) :
    ∀ (fuel : Nat) (listed : Array Bool) (S : St2) (a : Act) (w : World), aAny C call ops base T QA fuel listed S → ARel ds w0 m0 φ0 nt (okIn base fun j => listed.getD j false = true) S.1 S.2 a w → wpAnyIn (FR ρ) 0 C.P .any ops Q fuel listed a w := by
  have drop : ∀ {ok : Nat → Prop} {S : St2} {a : Act} {w : World}, ARel ds w0 m0 φ0 nt ok S.1 S.2 a w → ARel ds w0 m0 φ0 nt (fun _ => True) S.1 S.2 a w := by
    rintro ok S a w ⟨⟨m, φ, k1, k2, k3, k4, k7⟩, k5, k6⟩
    exact ⟨⟨m, φ, k1, k2, k3, fun _ _ => trivial, k7⟩, k5, k6⟩
  intro fuel
  induction fuel with
  | zero => intro listed S a w h hr; exact ⟨h.1, hQ S a w h.2 (drop hr)⟩
  | succ fuel ih =>
    intro listed S a w h hr
    refine ⟨fun h0 => hQ S a w (h.1 h0) (drop hr), fun i hi => ?_⟩
    obtain ⟨o, S', ho, ⟨hstep, _⟩, hnext⟩ := h.2 i hi
    have hun := (mem_ready.1 hi).1
    have hlt : i < listed.size := by
      rcases Nat.lt_or_ge i listed.size with h' | h'
      · exact h'
      · simp [Array.getElem?_eq_none h'] at hun
    have hdn : ¬ (listed.getD i false = true) := by
      intro h1
      simp [hlt] at hun h1
      rw [hun] at h1; cases h1
    refine wpOp_sound hC hcall (dn := fun j => listed.getD j false = true) (base := base) ho (hs o (Array.mem_of_getElem? ho)) hdn hstep hr fun a' w' hr' => ih _ S' a' w' hnext ?_
    obtain ⟨⟨m, φ, k1, k2, k3, k4, k7⟩, k5, k6⟩ := hr'
    refine ⟨⟨m, φ, k1, k2, k3, fun id hne => okIn_mono (fun j hj => ?_) (k4 id hne), k7⟩, k5, k6⟩
    rcases hj with hj | rfl
    · exact getD_set_true hj
    · simp [hlt]

/-! ### The checks of the run in the order of the text -/
def Chk (all : List Oper) (e : Nat × List Nat × Bool) (t : Ft) (o : Oper) : Prop := noneOf t.1 e.2.1 = true ∨ (t.2 = true ∧ e.2.2 = true) ∨ waitsN all 3 o.after.toList e.1 = true
def PairsL (base : Nat) (all os : List Oper) (ts : List Ft) (i : Nat) (log : List (Nat × List Nat × Bool)) : Prop :=
  ∀ j o t, os[j]? = some o → ts[j]? = some t → oldOk base all o.after.toList t.1 = true ∧ (∀ e ∈ log, Chk all e t o) ∧ ∀ k t', k < j → ts[k]? = some t' → t'.1 ≠ [] → Chk all (i + k, t') t o
theorem noneOf_spec : ∀ {xs ys : List Nat}, noneOf xs ys = true → ∀ x ∈ xs, x ∉ ys
  | [], _, _ => by simp
  | x :: xs, ys, h => by
    simp only [noneOf, Bool.and_eq_true, Bool.not_eq_true'] at h
    intro y hy hm
    rcases List.mem_cons.1 hy with rfl | hy
    · rw [hasId_iff.2 hm] at h; cases h.1
    · exact noneOf_spec h.2 y hy hm
theorem allIn_spec : ∀ {xs ys : List Nat}, allIn xs ys = true → ∀ x ∈ xs, x ∈ ys
  | [], _, _ => by simp
  | x :: xs, ys, h => by
    simp only [allIn, Bool.and_eq_true] at h
    intro y hy
    rcases List.mem_cons.1 hy with rfl | hy
    · exact hasId_iff.1 h.1
    · exact allIn_spec h.2 y hy
theorem logOk_spec {all : List Oper} {after : List Edge} {ns : List Nat} {ro : Bool} : ∀ {log : List (Nat × List Nat × Bool)}, logOk all after ns ro log = true → ∀ e ∈ log, noneOf ns e.2.1 = true ∨ (ro = true ∧ e.2.2 = true) ∨ waitsN all 3 after e.1 = true
  | [], _ => by simp
  | e :: log, h => by
    simp only [logOk, Bool.and_eq_true, Bool.or_eq_true] at h
    intro d hd
    rcases List.mem_cons.1 hd with rfl | hd
    · have h1 := h.1
      split at h1
      · rename_i hc
        rcases hc with hc | hc
        · exact .inl hc
        · exact .inr (.inl hc)
      · exact .inr (.inr h1)
    · exact logOk_spec h.2 d hd
theorem idsOfBs_mem (st : Store) : ∀ {l : List Nat} {i j : Nat}, i ∈ l → j ∈ idsOfB (st i) → j ∈ idsOfBs st l
  | [], _, _, h, _ => by cases h
  | a :: l, i, j, h, k => by
    simp only [idsOfBs, List.mem_append]
    rcases List.mem_cons.1 h with rfl | h
    · exact .inl k
    · exact .inr (idsOfBs_mem st h k)
theorem lex_of_run : ∀ (os : List Oper) (i : Nat) (R R' : RS), runOps C call ops.toList true base os i R = some R' →
    ∃ ts, ts.length = os.length ∧ LexL C call ops.toList base os ts i (R.env, R.st) (R'.env, R'.st) ∧ PairsL base ops.toList os ts i R.log
  | [], i, R, R', h => by
    simp only [runOps, Option.some.injEq] at h; subst h
    exact ⟨[], rfl, rfl, by intro j o t h; simp at h⟩
  | o :: os, i, R, R', h => by
    simp only [runOps] at h
    obtain ⟨b, h1, h2⟩ := bnd_eq.1 h
    cases b with
    | true =>
      simp only [if_true] at h2
      obtain ⟨h3, h4⟩ := tst_eq.1 h2
      obtain ⟨p, h5, h6⟩ := bnd_eq.1 h4
      obtain ⟨ts, k0, k1, k2⟩ := lex_of_run os (i + 1) _ R' h6
      simp only [chkA, if_true, chkT, Bool.and_eq_true] at h3
      obtain ⟨c1, c2, c3, c4⟩ := h3
      let t : Ft := ((touchA R.st (touchI R.env o.op)).1, (touchI R.env o.op).2)
      refine ⟨t :: ts, by simp [k0], ⟨_, ⟨?_, fun _ => ⟨fun x hx => allIn_spec c1 x hx, fun e x hx y hy => allIn_spec (by rw [e] at c2; exact c2) y (idsOfBs_mem _ hx hy), fun h => h⟩⟩, k1⟩, ?_⟩
      · unfold aOp; exact bnd_eq.2 ⟨true, h1, by simp only [if_true]; exact bnd_eq.2 ⟨p, h5, rfl⟩⟩
      · intro j o' t' ho ht
        cases j with
        | zero =>
          simp at ho ht; subst ho; subst ht
          exact ⟨c3, fun e he => logOk_spec c4 e he, fun k _ hk => by omega⟩
        | succ j =>
          obtain ⟨q1, q2, q3⟩ := k2 j o' t' (by simpa using ho) (by simpa using ht)
          have hmem : ∀ e ∈ R.log, e ∈ newLog true o i R := by
            intro e he
            simp only [newLog, if_true]
            unfold addLog
            split
            · exact he
            · exact List.mem_cons_of_mem _ he
          refine ⟨q1, fun e he => q2 e (hmem e he), fun k u hk hu hne => ?_⟩
          cases k with
          | zero =>
            simp at hu; subst hu
            have : (i, t) ∈ newLog true o i R := by
              simp only [newLog, if_true]
              unfold addLog
              split
              · rename_i hq; exact absurd hq hne
              · rename_i hq; rw [← hq]; exact List.mem_cons_self
            exact q2 _ this
          | succ k =>
            have := q3 k u (by omega) (by simpa using hu) hne
            rwa [show i + 1 + k = i + (k + 1) by omega] at this
    | false =>
      simp only [Bool.false_eq_true, if_false] at h2
      obtain ⟨ts, k0, k1, k2⟩ := lex_of_run os (i + 1) _ R' h2
      refine ⟨([], true) :: ts, by simp [k0], ⟨_, ⟨?_, fun hh => ?_⟩, k1⟩, ?_⟩
      · unfold aOp; exact bnd_eq.2 ⟨false, h1, by simp⟩
      · rw [show wantA ops.toList R.env o.guard = some false from h1] at hh; simp at hh
      · intro j o' t' ho ht
        cases j with
        | zero =>
          simp at ho ht; subst ho; subst ht
          exact ⟨rfl, fun e _ => .inl rfl, fun k _ hk => by omega⟩
        | succ j =>
          obtain ⟨q1, q2, q3⟩ := k2 j o' t' (by simpa using ho) (by simpa using ht)
          refine ⟨q1, q2, fun k u hk hu hne => ?_⟩
          cases k with
          | zero => simp at hu; subst hu; exact absurd rfl hne
          | succ k =>
            have := q3 k u (by omega) (by simpa using hu) hne
            rwa [show i + 1 + k = i + (k + 1) by omega] at this
theorem oldOk_spec {base : Nat} {all : List Oper} {after : Array Edge} : ∀ {ns : List Nat}, oldOk base all after.toList ns = true → ∀ x ∈ ns, ∀ i, waitsN all 3 after.toList i = false → ¬ (base + wide * i ≤ x ∧ x < base + wide * i + wide)
  | [], _ => by simp
  | n :: ns, h => by
    simp only [oldOk, Bool.and_eq_true] at h
    intro x hx i hi hh
    rcases List.mem_cons.1 hx with rfl | hx
    · have h1 := h.1
      split at h1
      · omega
      · have : (x - base) / wide = i := by unfold wide at *; omega
        rw [this, hi] at h1; cases h1
    · exact oldOk_spec h.2 x hx i hi hh
/-- The order of the text serves every order. -/
theorem draw_ok (hC : CtxOk C) (hm : C.P.follows .mixedOrders = true) {call : CallF} (hcall : CallOk C call) : DrawOk C call := by
  intro ops id base nt R' env st ds ρ w0 m0 φ0 a w Q hs hlex hrun hr hQ
  simp only [Region.lexB, Bool.and_eq_true] at hlex
  obtain ⟨ts, hlen, hlx, hp⟩ := lex_of_run _ _ _ _ hrun
  let T : Nat → Ft := fun i => (ts[i]?).getD ([], true)
  have hget : ∀ i o, ops[i]? = some o → ∃ t, ts[i]? = some t ∧ T i = t := fun i o ho => by
    have hlt : i < ops.toList.length := by simpa using (Array.getElem?_eq_some_iff.1 ho).1
    rw [← hlen] at hlt
    exact ⟨ts[i], List.getElem?_eq_getElem hlt, by simp [T, List.getElem?_eq_getElem hlt]⟩
  have hT : ∀ i j oi oj, ops[i]? = some oi → ops[j]? = some oj → i ≠ j → waitsN ops.toList 3 oj.after.toList i = false → waitsN ops.toList 3 oi.after.toList j = false → TApart base (T i) (T j) i j := by
    intro i j oi oj hi hj hne hji hij
    obtain ⟨ti, gi, ei⟩ := hget i oi hi
    obtain ⟨tj, gj, ej⟩ := hget j oj hj
    rw [ei, ej]
    obtain ⟨pi1, _, pi3⟩ := hp i oi ti (by simpa using hi) gi
    obtain ⟨pj1, _, pj3⟩ := hp j oj tj (by simpa using hj) gj
    refine ⟨?_, fun x hx => oldOk_spec pj1 x hx i hji, fun x hx => oldOk_spec pi1 x hx j hij⟩
    rcases Nat.lt_or_gt_of_ne hne with h | h
    · by_cases he : ti.1 = []
      · rw [he]; exact .inl (by simp)
      · have := pj3 i ti h gi he
        rw [Nat.zero_add] at this
        rcases this with q | q | q
        · exact .inl fun x hx hm => noneOf_spec q x hm hx
        · exact .inr ⟨q.2, q.1⟩
        · rw [hji] at q; cases q
    · by_cases he : tj.1 = []
      · rw [he]; exact .inl (by simp)
      · have := pi3 j tj h gj he
        rw [Nat.zero_add] at this
        rcases this with q | q | q
        · exact .inl fun x hx hm => noneOf_spec q x hx hm
        · exact .inr q
        · rw [hij] at q; cases q
  refine wpIn_region_any hm (aAny_sound (QA := fun S => S = (R'.env, R'.st)) (base := base) (T := T) hC hcall hs (fun S a w h1 h2 => by subst h1; exact hQ a w h2) _ _ (env, st) a _ ?_ ?_)
  · have := aAny_lex (C := C) (call := call) (base := base) (T := T) (Q := fun S => S = (R'.env, R'.st)) hT ops.toList ts 0 (Array.replicate ops.size false) (env, st) (R'.env, R'.st) (by intro k ok _ hl; exfalso; rcases Nat.lt_or_ge k ops.size with h' | h' <;> simp [h', Array.getElem?_eq_none] at hl) (by simp)
      (fun j t ht => by simp [T, ht]) (by simpa using hlex.2) hlx rfl
    simpa using this
  · obtain ⟨⟨m, φ, k1, k2, k3, k4, k7⟩, k5, k6⟩ := hr
    exact ⟨⟨m, φ, k1.drew, k2, k3.trans (.drew w m φ), fun id hne => .inl (k4 id hne), k7.adv (.drew w m φ)⟩, k5, k6⟩
end
end Go.Av

/- What is asked of a loaded program, as tests that can be run. No condition. -/
namespace Go.Av
theorem zeros_ok (P : Program) : ZerosOk P := fun _ _ h => zeroOf_one h
def fieldTest (P : Program) : Bool := (List.range P.types.size).all fun t => match P.underlying t with
  | some (.struct fs) => fs.toList.all fun f => (szOf P f.type).isSome
  | some (.array _ e) => (szOf P e).isSome
  | _ => true
theorem fields_ok {P : Program} (h : fieldTest P = true) : FieldsOk P := by
  constructor
  · intro t fs hlt hu f hf
    have := List.all_eq_true.1 h t (List.mem_range.2 hlt)
    rw [hu] at this
    exact Option.isSome_iff_exists.1 (List.all_eq_true.1 this f (by simpa using hf))
  · intro t n e hlt hu
    have := List.all_eq_true.1 h t (List.mem_range.2 hlt)
    rw [hu] at this
    exact Option.isSome_iff_exists.1 this
def fnTest (P : Program) : Bool := P.funcs.toList.all fun fn => (fn.name != "runtime.NumGoroutine") && match fn.body with
  | some c => codeOk fn.ntmps c
  | none => true
theorem fns_ok {P : Program} (h : fnTest P = true) : FnsOk P := by
  intro g fn c hf hb
  have := List.all_eq_true.1 h fn (List.mem_of_getElem? (by simpa using hf))
  simp only [Bool.and_eq_true, bne_iff_ne] at this
  rw [hb] at this
  exact this
def eqTest (P : Program) (t : TypeId) : Bool := match P.underlying t with
  | some (.struct fs) => match fs.toList with
    | [fb, fn] => !P.stoodInHeld t && (!P.eqGuardType P.depth t && (fb.name != "_" && (fn.name != "_" && (fb.offset == 0 && (fn.offset == 1 && (match P.underlying fb.type, P.underlying fn.type with
      | some .bool, some (.int _) => true
      | _, _ => false))))))
    | _ => false
  | _ => false
theorem eq_ok {P : Program} {t : TypeId} (h : eqTest P t = true) : EqOk P t := by
  unfold eqTest at h
  split at h
  · rename_i fs hu
    split at h
    · rename_i fb fn hfs
      simp only [Bool.and_eq_true, Bool.not_eq_true', bne_iff_ne, beq_iff_eq] at h
      obtain ⟨h1, h2, h3, h4, h5, h6, h7⟩ := h
      split at h7
      · rename_i k hb hn
        refine ⟨fb, fn, k, ?_, h1, h2, h3, h4, h5, h6, hb, hn⟩
        rw [hu]
        have : fs = #[fb, fn] := by apply Array.ext'; simpa using hfs
        rw [this]
      · cases h7
    · cases h
  · cases h
theorem sound_ok {C : Ctx} (hf : fieldTest C.P = true) (hn : fnTest C.P = true) (he : ∀ t, C.eqT t = true → eqTest C.P t = true) (hm : C.P.follows .mixedOrders = true) (hp : PrimOk C) : SoundOk C :=
  have hc : CtxOk C := ⟨zeros_ok _, fields_ok hf, fun t ht => eq_ok (he t ht)⟩
  ⟨hc, fns_ok hn, fun _ hcall => draw_ok hc hm hcall, hp⟩
theorem prim_none {C : Ctx} (h : ∀ g, C.prim g = none) : PrimOk C :=
  ⟨fun g args st p hp => (by unfold primCall at hp; rw [h g] at hp; cases hp), fun g args st r s hp => (by unfold primCall at hp; rw [h g] at hp; cases hp)⟩
end Go.Av

/- Expressions as data. No condition. -/
namespace Go.Av
structure Val where
  null : Bool
  n : Int
  deriving DecidableEq
inductive Ex where
  | mk (kind col : Int) (val : Val) (kids : List Ex)
def Ex.kind : Ex → Int | .mk k _ _ _ => k
def Ex.col : Ex → Int | .mk _ c _ _ => c
def Ex.val : Ex → Val | .mk _ _ v _ => v
def Ex.kids : Ex → List Ex | .mk _ _ _ ks => ks
def Val.cells (v : Val) : List IV := [.bool v.null, .int v.n]
mutual
def Ex.cells : Ex → List IV
  | .mk k c v ks => [.int k, .int c, .bool v.null, .int v.n, .isl (Ex.cellsL ks)]
def Ex.cellsL : List Ex → List (List IV)
  | [] => []
  | e :: es => e.cells :: Ex.cellsL es
end
theorem Ex.ind {P : Ex → Prop} (h : ∀ k c v ks, (∀ e ∈ ks, P e) → P (.mk k c v ks)) : (e : Ex) → P e
  | .mk k c v ks => h k c v ks fun e he => Ex.ind h e
termination_by e => SizeOf.sizeOf e
decreasing_by
  have := List.sizeOf_lt_of_mem he
  simp; omega
theorem Ex.cells_eq (e : Ex) : e.cells = [.int e.kind, .int e.col, .bool e.val.null, .int e.val.n, .isl (Ex.cellsL e.kids)] := by
  cases e; simp [Ex.cells, Ex.kind, Ex.col, Ex.val, Ex.kids]
@[simp] theorem Ex.cellsL_length : ∀ (l : List Ex), (Ex.cellsL l).length = l.length
  | [] => by simp [Ex.cellsL]
  | _ :: l => by simp [Ex.cellsL, Ex.cellsL_length l]
theorem Ex.cellsL_nth : ∀ {l : List Ex} {i : Nat} {e : Ex}, l[i]? = some e → nthE (Ex.cellsL l) i = some e.cells
  | [], _, _, h => by simp at h
  | a :: l, 0, e, h => by simp at h; subst h; simp [Ex.cellsL, nthE]
  | a :: l, i + 1, e, h => by simp only [Ex.cellsL, nthE]; exact Ex.cellsL_nth (by simpa using h)
@[simp] theorem Ex.cells_length (e : Ex) : e.cells.length = 5 := by rw [Ex.cells_eq]; rfl
@[simp] theorem Ex.cells_take (e : Ex) : takeE 5 e.cells = some e.cells := by rw [Ex.cells_eq]; rfl
@[simp] theorem Ex.cellsL_widths : ∀ (l : List Ex), widths 5 (Ex.cellsL l) = true
  | [] => by simp [Ex.cellsL, widths]
  | e :: l => by
    have := Ex.cellsL_widths l
    simp only [widths] at this
    simp [Ex.cellsL, widths, Ex.cells_length, this]
theorem Ex.cellsL_append (a b : List Ex) : Ex.cellsL (a ++ b) = Ex.cellsL a ++ Ex.cellsL b := by
  induction a with
  | nil => simp [Ex.cellsL]
  | cons e a ih => simp [Ex.cellsL, ih]
@[simp] theorem Ex.cellsL_take : ∀ (n : Nat) (l : List Ex), (Ex.cellsL l).take n = Ex.cellsL (l.take n)
  | 0, l => by simp [Ex.cellsL]
  | n + 1, [] => by simp [Ex.cellsL]
  | n + 1, e :: l => by simp [Ex.cellsL, Ex.cellsL_take n l]
theorem Ex.cellsL_snoc (l : List Ex) (e : Ex) : Ex.cellsL (l ++ [e]) = Ex.cellsL l ++ [e.cells] := by
  rw [Ex.cellsL_append]; simp [Ex.cellsL]
theorem take_snoc {α : Type} {l : List α} {i : Nat} {a : α} (h : l[i]? = some a) : l.take (i + 1) = l.take i ++ [a] := by
  rw [List.take_add_one, h]; rfl
mutual
/-- Of how many parts it is. -/
def Ex.size : Ex → Nat
  | .mk _ _ _ ks => 1 + Ex.sizeL ks
def Ex.sizeL : List Ex → Nat
  | [] => 0
  | e :: es => e.size + Ex.sizeL es
end
theorem Ex.size_eq (e : Ex) : e.size = 1 + Ex.sizeL e.kids := by cases e; simp [Ex.size, Ex.kids]
theorem Ex.size_pos (e : Ex) : 1 ≤ e.size := by rw [Ex.size_eq]; omega
theorem Ex.sizeL_length : ∀ (l : List Ex), l.length ≤ Ex.sizeL l
  | [] => by simp [Ex.sizeL]
  | e :: es => by have := Ex.sizeL_length es; have := Ex.size_pos e; simp [Ex.sizeL]; omega
theorem Ex.sizeL_mem : ∀ {l : List Ex} {e : Ex}, e ∈ l → e.size ≤ Ex.sizeL l
  | a :: l, e, h => by
    rcases List.mem_cons.1 h with rfl | h
    · simp [Ex.sizeL]
    · have := Ex.sizeL_mem h; simp [Ex.sizeL]; omega
@[simp] theorem idsOfL_impI : ∀ l : List IV, idsOfL (impI l) = []
  | [] => rfl
  | _ :: l => by simp [impI, idsOfL, idsOf, idsOfL_impI l]
@[simp] theorem renL_impI (r : Nat → Option Nat) : ∀ l : List IV, renL r (impI l) = impI l
  | [] => rfl
  | _ :: l => by simp [impI, renL, ren, renL_impI r l]
@[simp] theorem allI_impI : ∀ l : List IV, allI (impI l) = some l
  | [] => rfl
  | _ :: l => by simp [impI, allI, allI_impI l, consI]
@[simp] theorem Ex.cells_takeI (e : Ex) : takeE 5 (impI e.cells) = some (impI e.cells) := by rw [Ex.cells_eq]; rfl
@[simp] theorem Ex.cells_spliceI (e : Ex) (a b c d f : AV) : splice [a, b, c, d, f] 0 (impI e.cells) = some (impI e.cells) := by rw [Ex.cells_eq]; rfl
@[simp] theorem Ex.cells_spliceI' (e e' : Ex) : splice (impI e'.cells) 0 (impI e.cells) = some (impI e.cells) := by rw [Ex.cells_eq, Ex.cells_eq]; rfl
def kidsK (n : Int) : Int := if n = 1 ∨ n = 2 then 0 else if n = 10 ∨ n = 11 then 1 else if 3 ≤ n ∧ n ≤ 9 then 2 else -1
def okWidth (w : Int) : Bool := decide (1 ≤ w ∧ w ≤ 6)
def Val.ok (v : Val) : Bool := if v.null then decide (v.n = 0) else decide (-9999 ≤ v.n ∧ v.n ≤ 9999)
def Val.zero : Val := ⟨false, 0⟩
def Ex.zero : Ex := .mk 0 0 Val.zero []
end Go.Av

/- Expressions as data: equality, and lists that are not too long. No condition. -/
namespace Go.Av
mutual
def Ex.eqb : Ex → Ex → Bool
  | .mk k c v ks, .mk k' c' v' ks' => k == k' && (c == c' && (((v.null == v'.null) && v.n == v'.n) && Ex.eqbL ks ks'))
def Ex.eqbL : List Ex → List Ex → Bool
  | [], [] => true
  | a :: l, b :: m => Ex.eqb a b && Ex.eqbL l m
  | [], _ :: _ => false
  | _ :: _, [] => false
end
theorem Ex.eqb_def (a b : Ex) : a.eqb b = (a.kind == b.kind && (a.col == b.col && (((a.val.null == b.val.null) && a.val.n == b.val.n) && Ex.eqbL a.kids b.kids))) := by
  cases a; cases b; simp [Ex.eqb, Ex.kind, Ex.col, Ex.val, Ex.kids]
mutual
theorem Ex.eqb_iff : ∀ (a b : Ex), a.eqb b = true ↔ a = b
  | .mk k c v ks, .mk k' c' v' ks' => by
    simp only [Ex.eqb, Bool.and_eq_true, beq_iff_eq, Ex.eqbL_iff ks ks', Ex.mk.injEq]
    constructor
    · rintro ⟨h1, h2, ⟨h3, h4⟩, h5⟩
      exact ⟨h1, h2, by cases v; cases v'; simp at h3 h4; simp [h3, h4], h5⟩
    · rintro ⟨h1, h2, rfl, h5⟩; exact ⟨h1, h2, ⟨rfl, rfl⟩, h5⟩
theorem Ex.eqbL_iff : ∀ (l m : List Ex), Ex.eqbL l m = true ↔ l = m
  | [], [] => by simp [Ex.eqbL]
  | a :: l, b :: m => by simp [Ex.eqbL, Ex.eqb_iff a b, Ex.eqbL_iff l m]
  | [], _ :: _ => by simp [Ex.eqbL]
  | _ :: _, [] => by simp [Ex.eqbL]
end
theorem Ex.eqb_refl (a : Ex) : a.eqb a = true := (Ex.eqb_iff a a).2 rfl
theorem Ex.eqbL_len : ∀ (l m : List Ex), l.length ≠ m.length → Ex.eqbL l m = false
  | [], [], h => by simp at h
  | a :: l, b :: m, h => by simp [Ex.eqbL, Ex.eqbL_len l m (by simpa using h)]
  | [], _ :: _, _ => by simp [Ex.eqbL]
  | _ :: _, [], _ => by simp [Ex.eqbL]
/-- How far two lists of the same length are the same. -/
theorem Ex.eqbL_upto : ∀ (l m : List Ex), l.length = m.length → ∃ j : Nat, (∀ i, i < j → ∃ a b, l[i]? = some a ∧ m[i]? = some b ∧ a ∈ l ∧ a.eqb b = true) ∧ ((j = l.length ∧ Ex.eqbL l m = true) ∨ ∃ a b, l[j]? = some a ∧ m[j]? = some b ∧ a ∈ l ∧ a.eqb b = false ∧ Ex.eqbL l m = false)
  | [], [], _ => ⟨0, fun i h => by omega, .inl ⟨rfl, by simp [Ex.eqbL]⟩⟩
  | a :: l, b :: m, h => by
    cases hab : a.eqb b with
    | false => exact ⟨0, fun i h => by omega, .inr ⟨a, b, rfl, rfl, by simp, hab, by simp [Ex.eqbL, hab]⟩⟩
    | true =>
      obtain ⟨j, h1, h2⟩ := Ex.eqbL_upto l m (by simpa using h)
      refine ⟨j + 1, ?_, ?_⟩
      · intro i hi
        cases i with
        | zero => exact ⟨a, b, rfl, rfl, by simp, hab⟩
        | succ i =>
          obtain ⟨x, y, k1, k2, k3, k4⟩ := h1 i (by omega)
          exact ⟨x, y, by simpa using k1, by simpa using k2, by simp [k3], k4⟩
      · rcases h2 with ⟨k1, k2⟩ | ⟨x, y, k1, k2, k3, k4, k5⟩
        · exact .inl ⟨by simp [k1], by simp [Ex.eqbL, hab, k2]⟩
        · exact .inr ⟨x, y, by simpa using k1, by simpa using k2, by simp [k3], k4, by simp [Ex.eqbL, k5]⟩
  | [], _ :: _, h => by simp at h
  | _ :: _, [], h => by simp at h
mutual
/-- No list in it is longer than any machine holds. -/
def Ex.thin : Ex → Prop
  | .mk _ _ _ ks => ks.length < 1000000000 ∧ Ex.thinL ks
def Ex.thinL : List Ex → Prop
  | [] => True
  | e :: es => e.thin ∧ Ex.thinL es
end
theorem Ex.thinL_iff : ∀ (l : List Ex), Ex.thinL l ↔ ∀ k ∈ l, k.thin
  | [] => by simp [Ex.thinL]
  | e :: es => by simp [Ex.thinL, Ex.thinL_iff es]
theorem Ex.thin_iff (e : Ex) : e.thin ↔ e.kids.length < 1000000000 ∧ ∀ k ∈ e.kids, k.thin := by
  cases e; simp [Ex.thin, Ex.kids, Ex.thinL_iff]
end Go.Av

/- Expressions as data: valid ones, columns replaced. No condition. -/
namespace Go.Av
/-- The part itself. -/
def Ex.headOk (w : Int) (e : Ex) : Bool := if e.kind = 1 then decide (0 ≤ e.col) && (decide (e.col < w) && (!e.val.null && e.val.n == 0)) else if e.kind = 2 then decide (e.col = 0) && e.val.ok else decide (e.col = 0) && (!e.val.null && e.val.n == 0)
def Ex.vB (w : Int) : Nat → Ex → Bool
  | 0, e => decide ((e.kids.length : Int) = kidsK e.kind) && (decide (kidsK e.kind ≤ 0) && e.headOk w)
  | n + 1, e => decide ((e.kids.length : Int) = kidsK e.kind) && (e.headOk w && e.kids.all (Ex.vB w n))
theorem Ex.head_cases (w : Int) (e : Ex) : e.headOk w = false ∨ e.headOk w = true ∧ ((e.kind = 1 ∧ 0 ≤ e.col ∧ e.col < w ∧ e.val.null = false ∧ e.val.n = 0 ∧ kidsK e.kind = 0) ∨ (e.kind = 2 ∧ e.col = 0 ∧ Val.ok ⟨e.val.null, e.val.n⟩ = true ∧ True ∧ True ∧ kidsK e.kind = 0) ∨ (e.kind ≠ 1 ∧ e.kind ≠ 2 ∧ e.col = 0 ∧ e.val.null = false ∧ e.val.n = 0 ∧ True)) := by
  cases h : e.headOk w with
  | false => exact .inl rfl
  | true =>
    refine .inr ⟨rfl, ?_⟩
    unfold Ex.headOk at h
    by_cases h1 : e.kind = 1
    · simp [h1] at h; simp [h1, h, kidsK]
    · by_cases h2 : e.kind = 2
      · simp [h2] at h; simp [h2, h, kidsK]
      · simp [h1, h2] at h; simp [h1, h2, h]
end Go.Av
namespace Go.Av
def Ex.ok (w : Int) (e : Ex) : Bool := okWidth w && e.vB w 8
end Go.Av
namespace Go.Av
mutual
/-- The expression with each column replaced. -/
def Ex.sub (by_ : List Ex) : Ex → Ex
  | .mk k c v ks => if k = 1 then (by_[c.toNat]?).getD Ex.zero else .mk k c v (Ex.subL by_ ks)
def Ex.subL (by_ : List Ex) : List Ex → List Ex
  | [] => []
  | e :: es => Ex.sub by_ e :: Ex.subL by_ es
end
theorem Ex.subL_map (by_ : List Ex) : ∀ l, Ex.subL by_ l = l.map (Ex.sub by_)
  | [] => by simp [Ex.subL]
  | e :: es => by simp [Ex.subL, Ex.subL_map by_ es]
theorem Ex.sub_col (by_ : List Ex) {e b : Ex} (h : e.kind = 1) (hb : by_[e.col.toNat]? = some b) : e.sub by_ = b := by
  cases e; simp [Ex.kind, Ex.col] at h hb; simp [Ex.sub, h, hb]
theorem Ex.sub_not (by_ : List Ex) {e : Ex} (h : e.kind ≠ 1) : e.sub by_ = .mk e.kind e.col e.val (e.kids.map (Ex.sub by_)) := by
  cases e; simp [Ex.kind] at h; simp [Ex.sub, h, Ex.subL_map, Ex.kind, Ex.col, Ex.val, Ex.kids]
mutual
/-- Every column of it is below so many. -/
def Ex.colsB (n : Int) : Ex → Prop
  | .mk k c _ ks => (k = 1 → 0 ≤ c ∧ c < n) ∧ (k ≠ 1 → Ex.colsBL n ks)
def Ex.colsBL (n : Int) : List Ex → Prop
  | [] => True
  | e :: es => Ex.colsB n e ∧ Ex.colsBL n es
end
theorem Ex.colsBL_iff (n : Int) : ∀ l, Ex.colsBL n l ↔ ∀ k ∈ l, Ex.colsB n k
  | [] => by simp [Ex.colsBL]
  | e :: es => by simp [Ex.colsBL, Ex.colsBL_iff n es]
theorem Ex.colsB_iff (n : Int) (e : Ex) : e.colsB n ↔ (e.kind = 1 → 0 ≤ e.col ∧ e.col < n) ∧ (e.kind ≠ 1 → ∀ k ∈ e.kids, k.colsB n) := by
  cases e; simp [Ex.colsB, Ex.kind, Ex.col, Ex.kids, Ex.colsBL_iff]
end Go.Av

/- Expressions as data: heights, sizes, valid ones. No condition. -/
namespace Go.Av
mutual
/-- The number of levels of kids. -/
def Ex.ht : Ex → Nat
  | .mk _ _ _ ks => Ex.htL ks
def Ex.htL : List Ex → Nat
  | [] => 0
  | e :: es => max (1 + e.ht) (Ex.htL es)
end
theorem Ex.ht_eq (e : Ex) : e.ht = Ex.htL e.kids := by cases e; simp [Ex.ht, Ex.kids]
theorem Ex.htL_snoc : ∀ (l : List Ex) (e : Ex), Ex.htL (l ++ [e]) = max (Ex.htL l) (1 + e.ht)
  | [], e => by simp [Ex.htL]
  | a :: l, e => by simp [Ex.htL, Ex.htL_snoc l e, Nat.max_assoc]
theorem Ex.htL_mem : ∀ {l : List Ex} {e : Ex}, e ∈ l → 1 + e.ht ≤ Ex.htL l
  | a :: l, e, h => by
    rcases List.mem_cons.1 h with rfl | h
    · simp [Ex.htL]; omega
    · have := Ex.htL_mem h; simp [Ex.htL]; omega
theorem Ex.htL_le {n : Nat} : ∀ (l : List Ex), Ex.htL l ≤ n ↔ ∀ e ∈ l, 1 + e.ht ≤ n
  | [] => by simp [Ex.htL]
  | a :: l => by simp [Ex.htL, Nat.max_le, Ex.htL_le l]
mutual
theorem Ex.ht_size : ∀ e : Ex, e.ht < e.size
  | .mk _ _ _ ks => by have := Ex.htL_size ks; simp [Ex.ht, Ex.size]; omega
theorem Ex.htL_size : ∀ l : List Ex, Ex.htL l ≤ Ex.sizeL l
  | [] => by simp [Ex.htL]
  | a :: l => by have := Ex.ht_size a; have := Ex.htL_size l; simp [Ex.htL, Ex.sizeL]; omega
end
theorem Ex.thin_of_size : ∀ e : Ex, e.size < 1000000000 → e.thin := by
  intro e
  induction e using Ex.ind with
  | h k c v ks ih =>
    intro hs
    rw [Ex.thin_iff]
    simp only [Ex.kids]
    have h1 := Ex.sizeL_length ks
    simp [Ex.size] at hs
    exact ⟨by omega, fun e he => ih e he (by have := Ex.sizeL_mem he; omega)⟩
mutual
/-- Valid, whatever its levels. -/
def Ex.wf (w : Int) : Ex → Bool
  | .mk k c v ks => decide ((ks.length : Int) = kidsK k) && (Ex.headOk w (.mk k c v ks) && Ex.wfL w ks)
def Ex.wfL (w : Int) : List Ex → Bool
  | [] => true
  | e :: es => Ex.wf w e && Ex.wfL w es
end
theorem Ex.wfL_iff (w : Int) : ∀ l, Ex.wfL w l = l.all (Ex.wf w)
  | [] => by simp [Ex.wfL]
  | e :: es => by simp [Ex.wfL, Ex.wfL_iff w es]
theorem Ex.wf_eq (w : Int) (e : Ex) : e.wf w = (decide ((e.kids.length : Int) = kidsK e.kind) && (e.headOk w && e.kids.all (Ex.wf w))) := by
  cases e; rw [Ex.wf, Ex.wfL_iff]; rfl
theorem Ex.vB_eq (w : Int) : ∀ (n : Nat) (e : Ex), e.vB w n = (e.wf w && decide (e.ht ≤ n))
  | 0, e => by
    rw [Ex.wf_eq, Ex.ht_eq, Bool.eq_iff_iff]
    simp only [Ex.vB, Bool.and_eq_true, decide_eq_true_eq]
    constructor
    · rintro ⟨h1, h2, h3⟩
      have : e.kids = [] := by cases h : e.kids with
        | nil => rfl
        | cons a l => rw [h] at h1; simp at h1; omega
      simp [this, h3, Ex.htL]
      rw [this] at h1; simpa using h1
    · rintro ⟨⟨h1, h2, h3⟩, h4⟩
      have : e.kids = [] := by cases h : e.kids with
        | nil => rfl
        | cons a l => rw [h] at h4; simp [Ex.htL] at h4
      rw [this] at h1
      simp at h1
      simp [this, ← h1, h2]
  | n + 1, e => by
    rw [Ex.wf_eq, Ex.ht_eq, Bool.eq_iff_iff]
    simp only [Ex.vB, Bool.and_eq_true, decide_eq_true_eq, List.all_eq_true, Ex.htL_le]
    constructor
    · rintro ⟨h1, h2, h3⟩
      refine ⟨⟨h1, h2, fun x hx => ?_⟩, fun x hx => ?_⟩
      · have := h3 x hx; rw [Ex.vB_eq w n x] at this; simp at this; exact this.1
      · have := h3 x hx; rw [Ex.vB_eq w n x] at this; simp at this; omega
    · rintro ⟨⟨h1, h2, h3⟩, h4⟩
      refine ⟨h1, h2, fun x hx => ?_⟩
      rw [Ex.vB_eq w n x]
      have := h4 x hx
      simp [h3 x hx]; omega
theorem Ex.vB_size (w : Int) : ∀ (n : Nat) (e : Ex), e.vB w n = true → e.size + 1 ≤ 2 ^ (n + 1)
  | n, e, h => by
    have hk : kidsK e.kind ≤ 2 := by
      unfold kidsK; split; · omega
      split; · omega
      split <;> omega
    rw [Ex.size_eq]
    have hw := h
    rw [Ex.vB_eq, Ex.wf_eq] at hw
    simp only [Bool.and_eq_true, decide_eq_true_eq] at hw
    obtain ⟨⟨h1, h2, h3⟩, h4⟩ := hw
    cases n with
    | zero =>
      have : e.kids = [] := by cases h : e.kids with
        | nil => rfl
        | cons a l => rw [Ex.ht_eq, h] at h4; simp [Ex.htL] at h4
      simp [this, Ex.sizeL]
    | succ n =>
      simp only [Ex.vB, Bool.and_eq_true, decide_eq_true_eq, List.all_eq_true] at h
      have key : ∀ l : List Ex, (∀ x ∈ l, x.vB w n = true) → Ex.sizeL l + l.length ≤ l.length * 2 ^ (n + 1) := by
        intro l
        induction l with
        | nil => intro _; simp [Ex.sizeL]
        | cons a l ih =>
          intro hl
          have a1 := Ex.vB_size w n a (hl a (by simp))
          have a2 := ih fun x hx => hl x (by simp [hx])
          simp only [Ex.sizeL, List.length_cons, Nat.add_mul, Nat.one_mul]
          omega
      have a1 := key e.kids h.2.2
      have a2 : e.kids.length ≤ 2 := by omega
      have a3 : e.kids.length * 2 ^ (n + 1) ≤ 2 * 2 ^ (n + 1) := Nat.mul_le_mul_right _ a2
      have a4 : 2 ^ (n + 1 + 1) = 2 * 2 ^ (n + 1) := by rw [Nat.pow_succ]; omega
      have a5 : 2 ≤ 2 ^ (n + 1) := by rw [Nat.pow_succ]; have := Nat.one_le_two_pow (n := n); omega
      rcases Nat.lt_or_ge 1 e.kids.length with h5 | h5
      · have : e.kids.length = 2 := by omega
        rw [this] at a1; omega
      · have : e.kids.length * 2 ^ (n + 1) ≤ 1 * 2 ^ (n + 1) := Nat.mul_le_mul_right _ h5
        have := Nat.zero_le e.kids.length
        rcases Nat.eq_zero_or_pos e.kids.length with h6 | h6
        · rw [h6] at a1; omega
        · omega
theorem Ex.ok_size {w : Int} {e : Ex} (h : e.ok w = true) : e.size < 1000 := by
  simp [Ex.ok] at h
  have := Ex.vB_size w 8 e h.2
  omega
end Go.Av

/- Part 7 of what the proof rests on: the executor and what it is worth, and the program's functions as it runs them. No condition. -/
import Derived.Test.YtjcjpbjpbbdnlaaGreatT6
set_option linter.unusedVariables false
set_option linter.unusedSimpArgs false
namespace Go.Av
def viewB (st : Store) : AV → Option IV
  | .own id 0 => match st id with
    | some (.box cs) => bnd (viewNs st cs) fun l => some (.iref l)
    | _ => none
  | v => viewX st v
def viewBs (st:Store):List AV→Option (List AV)
 | []=>some []
 | c :: r=>bnd (viewB st c) fun v=>bnd (viewBs st r) fun l=>some (.i v :: l)
theorem viewB_sound {w : World} {m : Mem} {φ : Pl} {st : Store} {c : AV} {x : Value} {iv : IV} (hi : Inv w m φ st) (hr : Rep m φ c x) (h : viewB st c = some iv) : IRep (memOf w) iv x := by
  unfold viewB at h
  split at h
  · rename_i id
    split at h
    · rename_i cs hs
      obtain ⟨l, h1, h2⟩ := bnd_eq.1 h
      injection h2 with h2; subst h2
      cases hr with
      | @own _ _ b n e =>
        obtain ⟨hb, hok⟩ := blk_own hi e hs
        cases hok with
        | @box T _ vs hh hl hrc hm =>
          refine .iref (IAt.mk 0 (viewNs_sound hi hrc h1) fun j v hj => ?_)
          show w.cell? ⟨b, 0 + j, none⟩ = some v
          rw [cell_row hh, Nat.zero_add]; exact hj
    · cases h
  · exact viewX_sound hi hr h
theorem viewBs_sound {w : World} {m : Mem} {φ : Pl} {st : Store} (hi : Inv w m φ st) : ∀ {cs us : List AV} {xs : List Value}, RepL m φ cs xs → viewBs st cs = some us → RepL (memOf w) (fun _ => none) us xs
  | [], us, _, .nil, h => by simp [viewBs] at h; subst h; exact .nil
  | c :: cs, us, _, .cons a b, h => by
    simp only [viewBs] at h
    obtain ⟨v, h1, h2⟩ := bnd_eq.1 h
    obtain ⟨l', h3, h4⟩ := bnd_eq.1 h2
    injection h4 with h4; subst h4
    exact .cons (.i (viewB_sound hi a h1)) (viewBs_sound hi b h3)
def kvK (stl : StL) : AV → Option IV
  | .i (.lit v) => some (.lit v)
  | .nils => some (.isl [])
  | .osl id k off len => match stOf stl id with
    | some (.frz k' es) => tst (decide (k' = k ∧ off = 0 ∧ len ≤ es.length ∧ 0 < len)) (tst (es.all litsL) (some (.isl (es.take len))))
    | _ => none
  | _ => none
def kvKs (stl:StL):List AV→Option (List IV)
 | []=>some []
 | c :: r=>bnd (kvK stl c) fun v=>bnd (kvKs stl r) fun l=>some (v :: l)
def kvA (stl:StL):AV→Option IV
 | .agg cs=>bnd (kvKs stl cs) fun l=>some (.agg l)
 | v=>kvK stl v
def kvAs (stl:StL):List AV→Option (List AV)
 | []=>some []
 | c :: r=>bnd (kvA stl c) fun v=>bnd (kvAs stl r) fun l=>some (.i v :: l)
def kvT (stl:StL):AV→Option AV
 | .tup cs=>bnd (kvAs stl cs) fun l=>some (.tup l)
 | v=>bnd (kvA stl v) fun l=>some (.i l)
section
variable {w w':World} {m m':Mem} {φ':Pl} {stl:StL}
def memN (w:World) (m m':Mem):Mem:=fun b o=>if b < w.heap.size then m b o else m' b o
theorem memN_new {b:Nat} (h:w.heap.size≤b) (o:Nat):memN w m m' b o=m' b o:=by unfold memN; rw [if_neg (by omega)]
theorem memN_old {b:Nat} (h:b < w.heap.size) (o:Nat):memN w m m' b o=m b o:=by unfold memN; rw [if_pos h]
theorem at_lits {b : Nat} (hb : ∀ o, memN w m m' b o = m' b o) : ∀ {cs : List IV} {o : Nat}, litsL cs = true → IAt m' b o cs → IAt (memN w m m') b o cs
  | [], o, _, _ => .nil b o
  | c :: cs, o, hl, .cons e a q r => by
    simp only [litsL, Bool.and_eq_true] at hl
    refine .cons ((hb o).trans e) ?_ q (at_lits hb hl.2 r)
    cases c with
    | lit v => rw [lit_inv a]; exact .lit _
    | isl es => simp [litC] at hl
    | agg cs => simp [litC] at hl
    | iref cs => simp [litC] at hl
theorem elems_lits {b : Nat} (hb : ∀ o, memN w m m' b o = m' b o) {k : Nat} : ∀ {es : List (List IV)} {o : Nat}, es.all litsL = true → IElems m' b o k es → IElems (memN w m m') b o k es
  | [], o, _, _ => .nil b o k
  | e :: es, o, hl, .cons a hk r => by
    simp only [List.all_cons, Bool.and_eq_true] at hl
    exact .cons (at_lits hb hl.1 a) hk (elems_lits hb hl.2 r)
theorem kvK_sound (hi : Inv w' m' φ' (stOf stl)) (hadv : Adv w (memOf w) (fun _ => none) w' m' φ') {c : AV} {x : Value} {iv : IV} (hr : Rep m' φ' c x) (h : kvK stl c = some iv) : IRep (memN w m m') iv x := by
  unfold kvK at h
  split at h
  · injection h with h; subst h
    rw [hr.lit_eq]; exact .lit _
  · injection h with h; subst h
    cases hr; exact .isl0 _ _ fun _ => rfl
  · rename_i id k off len
    split at h
    · rename_i k' es hs
      obtain ⟨h1, h2⟩ := tst_eq.1 h
      obtain ⟨h3, h4⟩ := tst_eq.1 h2
      simp only [decide_eq_true_eq] at h1
      obtain ⟨rfl, rfl, hle, hpos⟩ := h1
      injection h4 with h4; subst h4
      cases hr with
      | @osl _ _ _ _ cap b n ao e hlc hkl hao hao2 =>
        obtain ⟨hb, hok⟩ := blk_own hi e hs
        cases hok with
        | frz hk0 he =>
          have hnew : w.heap.size ≤ b := by
            rcases hadv.pnew id b n b e hb.1 with h | h
            · exact h
            · exact absurd (fun _ _ _ e => by cases e) h
          have hcap : cap ≠ 0 := by omega
          have := hao hcap
          subst this
          have he2 := elems_lits (m := m) (fun o => memN_new hnew o) h3 he
          have hlen : (es.take len).length = len := by simp; omega
          have hne : es.take len ≠ [] := fun h => by rw [h] at hlen; simp at hlen; omega
          have he3 := elems_take len he2
          have := IRep.isl (cap := cap) hne he3 (by omega)
          rw [hlen] at this
          simpa using this
    · cases h
  · cases h
theorem kvKs_sound (hi : Inv w' m' φ' (stOf stl)) (hadv : Adv w (memOf w) (fun _ => none) w' m' φ') : ∀ {cs : List AV} {xs : List Value} {l : List IV}, RepC m' φ' cs xs → kvKs stl cs = some l → ICells (memN w m m') l xs
  | [], _, l, .nil, h => by simp [kvKs] at h; subst h; exact .nil
  | c :: cs, _, l, .cons a o b, h => by
    simp only [kvKs] at h
    obtain ⟨v, h1, h2⟩ := bnd_eq.1 h
    obtain ⟨l', h3, h4⟩ := bnd_eq.1 h2
    injection h4 with h4; subst h4
    exact .cons (kvK_sound hi hadv a h1) o (kvKs_sound hi hadv b h3)
theorem kvA_sound (hi:Inv w' m' φ' (stOf stl)) (hadv:Adv w (memOf w) (fun _=>none) w' m' φ') {c:AV} {x:Value} {iv:IV} (hr:Rep m' φ' c x) (h:kvA stl c=some iv):IRep (memN w m m') iv x:=by
 unfold kvA at h
 split at h
 ·obtain ⟨l,h1,h2⟩:=bnd_eq.1 h
  injection h2 with h2; subst h2
  cases hr with | agg r=>exact .agg (kvKs_sound hi hadv r h1)
 ·exact kvK_sound hi hadv hr h
theorem kvAs_sound {φ : Pl} (hi : Inv w' m' φ' (stOf stl)) (hadv : Adv w (memOf w) (fun _ => none) w' m' φ') : ∀ {cs us : List AV} {xs : List Value}, RepL m' φ' cs xs → kvAs stl cs = some us → RepL (memN w m m') φ us xs
  | [], us, _, .nil, h => by simp [kvAs] at h; subst h; exact .nil
  | c :: cs, us, _, .cons a b, h => by
    simp only [kvAs] at h
    obtain ⟨v, h1, h2⟩ := bnd_eq.1 h
    obtain ⟨l', h3, h4⟩ := bnd_eq.1 h2
    injection h4 with h4; subst h4
    exact .cons (.i (kvA_sound hi hadv a h1)) (kvAs_sound hi hadv b h3)
theorem kvT_sound {φ:Pl} (hi:Inv w' m' φ' (stOf stl)) (hadv:Adv w (memOf w) (fun _=>none) w' m' φ') {c r:AV} {x:Value} (hr:Rep m' φ' c x) (h:kvT stl c=some r):Rep (memN w m m') φ r x:=by
 unfold kvT at h
 split at h
 ·obtain ⟨l,h1,h2⟩:=bnd_eq.1 h
  injection h2 with h2; subst h2
  cases hr with | tup r=>exact .tup (kvAs_sound hi hadv r h1)
 ·obtain ⟨l,h1,h2⟩:=bnd_eq.1 h
  injection h2 with h2; subst h2
  exact .i (kvA_sound hi hadv hr h1)
end
def lookK (f:List AV→StL→Option (AV×StL)) (args:List AV) (st:StL):Option (AV×StL) :=
 bnd (viewBs (stOf st) args) fun us=>match f us [] with
  | some (r,stl)=>bnd (kvT stl r) fun v=>some (v,st)
  | none=>none
theorem lookK_sound {C:Ctx} {g:FuncId} {f:List AV→StL→Option (AV×StL)} (hf:∀ args stl r stl',f args stl=some (r,stl')→(∃ fn,C.P.funcs[g]?=some fn∧fn.name≠ "runtime.NumGoroutine"∧fn.body.isSome=true)∧∀ (w:World) (m:Mem) (φ:Pl) (vs:List Value),Inv w m φ (stOf stl)→RepL m φ args vs→(∀ id,φ id≠none→id < stl.length)→Calls C.P g vs.toArray w (CallPost w m φ r stl'))
  {args:List AV} {stl stl':StL} {r:AV} (h:lookK f args stl=some (r,stl')) :
  (∃ fn,C.P.funcs[g]?=some fn∧fn.name≠ "runtime.NumGoroutine"∧fn.body.isSome=true)∧∀ (w:World) (m:Mem) (φ:Pl) (vs:List Value),Inv w m φ (stOf stl)→RepL m φ args vs→(∀ id,φ id≠none→id < stl.length) →
   Calls C.P g vs.toArray w (CallPost w m φ r stl'):=by
 unfold lookK at h
 obtain ⟨us,h1,h2⟩:=bnd_eq.1 h
 split at h2
 ·rename_i r0 stl0 h3
  obtain ⟨v0,h4,h5⟩:=bnd_eq.1 h2
  injection h5 with h5; injection h5 with h5 h6; subst h5; subst h6
  obtain ⟨q1,q2⟩:=hf _ _ _ _ h3
  refine ⟨q1,fun w m φ vs hi hr h0=>?_⟩
  refine (q2 w (memOf w) (fun _=>none) vs (inv0 w) (viewBs_sound hi hr h1) (fun id h=>absurd rfl h)).mono ?_
  rintro e w' ⟨v,m',φ',rfl,j1,j2,j3,j4⟩
  have hlt:∀ b o u,m b o=some u→b < w.heap.size:=fun b o u e=>hi.mem.lt e
  have hsame:∀ f,f < w.heap.size→w'.heap[f]?=w.heap[f]?:=fun f hf=>j3.block f hf fun id b n e=>by cases e
  have hle:MLe m (memN w m m'):=fun b o u e=>by rw [memN_old (hlt b o u e)]; exact e
  have hmem:MemOk w' (memN w m m'):=fun b o u e=>by
   by_cases hb:b < w.heap.size
   ·rw [memN_old hb] at e
    rw [cell_of_heap (hsame b hb)]; exact hi.mem b o u e
   ·rw [memN_new (by omega)] at e
    exact j2.mem b o u e
  have ha:Adv w m (fun _=>none) w' (memN w m m') (fun _=>none):=⟨j3.size,j3.os,j3.tape,j3.output,fun b hb _=>hsame b hb,hle,fun b hb _ o=>memN_old hb o, .refl _,fun _ _ _ _ e=>by cases e⟩
  obtain ⟨i2,a2⟩:=hi.growN ha hmem
  exact ⟨v,_,φ,rfl,kvT_sound j2 j3 j1 h4,i2,a2,h0⟩
 ·cases h2
noncomputable def bodyT (C : Ctx) (g : FuncId) (args : List AV) (st : StL) : Option (AV × StL) :=
  match C.P.funcs[g]? with
  | none => none
  | some fn =>
    match fn.body with
    | none => none
    | some c => endK { C with tree := true } true fn.results.toList st.length (execA C (C.G g) st.length c (enter (C.G g) args st))
theorem bodyT_eq {C:Ctx} {f:FuncId} {fn:Func} {c:Code} {rs:List ResultVar} (hf:C.P.funcs[f]?=some fn) (hb:fn.body=some c) (hr:fn.results.toList=rs) (args:List AV) (st:StL) :
  bodyT C f args st=endK { C with tree:=true } true rs st.length (execA C (C.G f) st.length c (enter (C.G f) args st)):=by
 subst hr
 unfold bodyT
 rw [hf]
 simp only [hb]
theorem bodyT_sound {C : Ctx} (hS : SoundOk C) {g : FuncId} {args : List AV} {stl stl' : StL} {r : AV} (h : bodyT C g args stl = some (r, stl')) :
    (∃ fn, C.P.funcs[g]? = some fn ∧ fn.name ≠ "runtime.NumGoroutine" ∧ fn.body.isSome = true) ∧ ∀ (w : World) (m : Mem) (φ : Pl) (vs : List Value), Inv w m φ (stOf stl) → RepL m φ args vs → (∀ id, φ id ≠ none → id < stl.length) →
      Calls C.P g vs.toArray w (CallPost w m φ r stl') := by
  unfold bodyT at h
  split at h
  · cases h
  rename_i fn hf
  split at h
  · cases h
  rename_i c hb
  have hst := (hS.fns g fn c hf hb).2
  refine ⟨⟨fn, hf, (hS.fns g fn c hf hb).1, by rw [hb]; rfl⟩, fun w m φ vs hi hargs hid => ?_⟩
  have ih := callA_sound hS
  have hrel : SRel [] w m φ fn.ntmps stl.length (enter (C.G g) args stl) { tmps := vs.toArray ++ Array.replicate (fn.ntmps - vs.toArray.size) undef, defers := [] } w := by
    refine ⟨⟨⟨m, φ, hi, ?_, .refl _ _ _, hid, .nil _ _ _⟩, by simp; omega, rfl⟩, Nat.le_refl _⟩
    intro t
    unfold enter
    simp only
    generalize C.G g = G
    induction G with
    | nil => exact .junk _
    | cons u G ihG =>
      simp only [enterE, envOf]
      by_cases e : t = u
      · subst e; simp only [if_true]; exact enter_rep _ hargs t
      · simp only [e, if_false]; exact ihG
  refine callsIn_wide.1 (callsIn_of_wp_marks (n := 0) hf hb trivial ?_)
  have done : ∀ S e, execA C (C.G g) stl.length c (enter (C.G g) args stl) = some (e, S) → finish { C with tree := true } true fn.results.toList stl.length S = some (r, stl') → (e = .normal ∨ e = .ret) →
      c.wpIn Fence.wide 0 C.P (bodyPostM Fence.wide 0 C.P fn (CallPost w m φ r stl')) { tmps := vs.toArray ++ Array.replicate (fn.ntmps - vs.toArray.size) undef, defers := [] } w := by
    intro S e hS' hfin he
    obtain ⟨n, hS'⟩ := (execA_iff _).1 hS'
    refine wpIn_mono (exec_sound (ρ := none) hS.ctx ih (hS.draw _ ih) hid n c _ S e [] _ w hst (.inl rfl) hS' hrel) ?_
    rintro e' a' w' ⟨rfl, ds, k, _⟩
    have hl : LeavesInM Fence.wide 0 C.P fn a'.tmps (CallPost w m φ r stl') a'.defers .returning w' := by
      rw [k.1.defers]
      refine leave_marks k fun a2 w2 _ k2 => ?_
      obtain ⟨v, k3, k4⟩ := finish_sound (C := { C with tree := true }) hid k2 hfin
      exact ⟨v, k3, k4⟩
    rcases he with rfl | rfl
    · exact hl
    · exact hl
  unfold endK at h
  split at h
  · rename_i S hS'; exact done S .normal hS' h (.inl rfl)
  · rename_i S hS'; exact done S .ret hS' h (.inr rfl)
  · cases h
  · cases h
end Go.Av

namespace Go.Av
def lowR (r:Int):Bool:=decide (r≠2∧r≠5∧r≠6)
def fstL (l:List Stp):Option Stp:=l.find? fun s=>lowR s.1
theorem fstL_app (a b:List Stp):fstL (a ++ b)=(fstL a).or (fstL b):=by unfold fstL; exact List.find?_append
def NS0 (R:Rng) (cs:List AV):StL:=[some (.loop R cs .ready),some (.box [.int 0, .nils]),some (.box [.bool false])]
def NS1 (R:Rng) (cs:List AV) (s:Stp):StL:=some (.loop R cs (.over .ret)) :: some (.box [.int s.1,if s.2=[] then .nils else .osl 3 1 0 s.2.length]) :: some (.box [.bool true]) :: (if s.2=[] then [] else [some (.frz 1 (intsL s.2))])
def NSr (R:Rng) (cs:List AV):Option Stp→Option (AV×StL)
 | none=>some (.bool true,NS0 R cs)
 | some s=>some (.bool false,NS1 R cs s)
theorem accR_none {ws path : List Int} {p : Pn} : ∀ {j : Nat}, j ≤ 11 → (∀ i, i < j → ((rwL ws ((i : Int) + 1) (8 - path.length) p).isSome && lowR ((i : Int) + 1)) = false) → fstL (accR ws path p j) = none
  | 0, _, _ => rfl
  | j + 1, hj, h => by
    rw [accR_succ (by omega), fstL_app, accR_none (by omega) fun i hi => h i (by omega)]
    have := h j (by omega)
    split
    · rename_i hs
      rw [hs] at this
      simp only [Bool.true_and] at this
      simp [fstL, this]
    · rfl
theorem accR_more {ws path : List Int} {p : Pn} {s : Stp} : ∀ (k j : Nat), j + k ≤ 11 → fstL (accR ws path p j) = some s → fstL (accR ws path p (j + k)) = some s
  | 0, j, _, h => h
  | k + 1, j, hj, h => by
    rw [← Nat.add_assoc, accR_succ (by omega), fstL_app, accR_more k j (by omega) h]; rfl
theorem accR_some {ws path:List Int} {p:Pn} {j:Nat} (hj:j < 11) (h:∀ i,i < j→((rwL ws ((i:Int) + 1) (8 - path.length) p).isSome && lowR ((i:Int) + 1))=false) (hb:((rwL ws ((j:Int) + 1) (8 - path.length) p).isSome && lowR ((j:Int) + 1))=true):fstL (accR ws path p 11)=some ((j:Int) + 1,path):=by
 have h1:fstL (accR ws path p (j + 1))=some ((j:Int) + 1,path):=by
  simp only [Bool.and_eq_true] at hb
  rw [accR_succ hj,fstL_app,accR_none (by omega) h,if_pos hb.1]
  simp [fstL,hb.2]
 have:=accR_more (10 - j) (j + 1) (by omega) h1
 rwa [show j + 1 + (10 - j)=11 by omega] at this
theorem fst_bad (q : Nat → Bool) (n : Nat) : ∃ j, j ≤ n ∧ (∀ i, i < j → q i = false) ∧ (j = n ∨ q j = true) := by
  induction n with
  | zero => exact ⟨0, Nat.le_refl _, fun i hi => by omega, .inl rfl⟩
  | succ n ih =>
    obtain ⟨j, h1, h2, h3⟩ := ih
    rcases h3 with rfl | h3
    · cases hq : q j with
      | true => exact ⟨j, by omega, h2, .inr hq⟩
      | false => exact ⟨j + 1, Nat.le_refl _, fun i hi => by
          by_cases e : i = j
          · subst e; exact hq
          · exact h2 i (by omega), .inl rfl⟩
    · exact ⟨j, by omega, h2, .inr h3⟩
theorem stIL_none {ws path : List Int} {l : List Pn} : ∀ {i : Nat}, i ≤ l.length → (∀ k, k < i → fstL (stI ws (path ++ [(k : Int)]) ((l[k]?).getD Pn.zero)) = none) → fstL (stIL ws path 0 (l.take i)) = none
  | 0, _, _ => by simp [stIL, fstL]
  | i + 1, hi, h => by
    have h3 := List.getElem?_eq_getElem (show i < l.length by omega)
    have h4 := h i (by omega)
    rw [h3] at h4
    rw [stIL_snoc ws path h3, fstL_app, stIL_none (by omega) fun k hk => h k (by omega)]
    exact h4
theorem stIL_first {ws path:List Int} {l:List Pn} {j:Nat} {a:Pn} {s:Stp} (h3:l[j]?=some a) (h:∀ k,k < j→fstL (stI ws (path ++ [(k:Int)]) ((l[k]?).getD Pn.zero))=none) (hs:fstL (stI ws (path ++ [(j:Int)]) a)=some s):fstL (stIL ws path 0 l)=some s:=by
 have hj:=(List.getElem?_eq_some_iff.1 h3).1
 have he:=stIL_append ws path (l.take (j + 1)) (l.drop (j + 1)) 0
 rw [List.take_append_drop] at he
 rw [he,fstL_app,stIL_snoc ws path h3,fstL_app,stIL_none (by omega) h,hs]
 rfl
theorem fstL_pre {ws path:List Int} {p:Pn} {s:Stp} (h:fstL (stI ws path p)=some s):∃ r,s.2=path ++ r:=stI_pre ws p path s (List.mem_of_find?_eq_some h)
end Go.Av
namespace Go.Proofs.YtjcjpbjpbbdnlaaGreat.P
open Go Go.Av
set_option maxRecDepth 4000
set_option maxHeartbeats 8000000
theorem normalizes_eq (r:Int) (path:List Int):callA C0 118 [.i (.agg [.int r, .isl (intsL path)])] []=some (.bool (lowR r),[]):=by
 rw [callA_eq rfl Tryz.func118 rfl rfl]
 unfold lowR
 by_cases h2:r=2
 ·simp [h2]
 ·by_cases h5:r=5
  ·simp [h5]
  ·by_cases h6:r=6
   ·simp [h6]
   ·simp [h2,h5,h6]
structure Yn (R:Rng) (cs:List AV):Prop where
 ids:cs=[.own 1 0, .own 2 0, .junk, .junk, .junk]
 n0:∀ r:Int,lowR r=false→callA C0 yldF [.fn (.yield 0) [.own 0 0], .agg [.int r, .nils]] (NS0 R cs)=some (.bool true,NS0 R cs)
 n1:∀ (r:Int) (path:List Int),path≠[]→lowR r=false→callA C0 yldF [.fn (.yield 0) [.own 0 0], .agg [.int r, .osl 3 1 0 path.length]] (NS0 R cs ++ [some (.arr 1 (intsL path))])=some (.bool true,NS0 R cs ++ [some (.frz 1 (intsL path))])
 y0:∀ r:Int,lowR r=true→callA C0 yldF [.fn (.yield 0) [.own 0 0], .agg [.int r, .nils]] (NS0 R cs)=some (.bool false,NS1 R cs (r,[]))
 y1:∀ (r:Int) (path:List Int),path≠[]→lowR r=true→callA C0 yldF [.fn (.yield 0) [.own 0 0], .agg [.int r, .osl 3 1 0 path.length]] (NS0 R cs ++ [some (.arr 1 (intsL path))])=some (.bool false,NS1 R cs (r,path))
def RNX (R:Rng) (cs:List AV) (ws path:List Int) (p:Pn) (i:Nat):AS :=
 {env:=[(0, .i (.iref [.int p.kind, .int p.table, .isl (Ex.cellsL p.exprs), .isl (intsL p.cols), .isl (Pn.cellsL p.kids)])),(1, .i (.isl (intsL ws))),(2, .i (.isl (intsL path))),(3, .fn (.yield 0) [.own 0 0]),(8, .bool false),(9, .int ((i:Int) + 1)),(11,jk i (.bool (rwL ws (i:Int) (8 - path.length) p).isSome)),(12, .junk),(14,jk i (.bool true)),(28,jk i (.bool (!(rwL ws (i:Int) (8 - path.length) p).isSome))),(35,if accR ws path p i=[] then .junk else .bool false),(40, .junk),(41, .junk),(42, .junk),(58, .junk)],
  st:=NS0 R cs }
def KNX (R:Rng) (cs:List AV) (ws path:List Int) (p:Pn) (i:Nat):AS :=
 {env:=[(0, .i (.iref [.int p.kind, .int p.table, .isl (Ex.cellsL p.exprs), .isl (intsL p.cols), .isl (Pn.cellsL p.kids)])),(1, .i (.isl (intsL ws))),(2, .i (.isl (intsL path))),(3, .fn (.yield 0) [.own 0 0]),(8, .bool false),(9, .int 12),(11, .bool (rwL ws 11 (8 - path.length) p).isSome),(12,jk i (.int (i - 1))),(14, .bool false),(28, .bool (!(rwL ws 11 (8 - path.length) p).isSome)),(35,if accR ws path p 11=[] then .junk else .bool false),(40, .int p.kids.length),(41, .int i),(42,jk i (.bool true)),(58,jk i (.bool false))],
  st:=NS0 R cs }
theorem eachStepN_eq {R : Rng} {cs : List AV} (hY : Yn R cs) {ws : List Int} (hw : okWs ws = true) : ∀ (p : Pn) (path : List Int), path.length ≤ 8 → p.wd ws (8 - path.length) ≠ 0 →
    callA C0 149 [.i (.iref p.cells), .i (.isl (intsL ws)), .i (.isl (intsL path)), .fn (.yield 0) [.own 0 0]] (NS0 R cs) = NSr R cs (fstL (stI ws path p)) := by
  obtain ⟨rfl, n0, n1, y0, y1⟩ := hY
  intro p
  induction p using Pn.ind with
  | h k t es cols ks ih =>
    intro path hl hp
    have hp8 : (Pn.mk k t es cols ks).wd ws 8 ≠ 0 := by rw [Pn.wd_more _ _ 8 hp (by omega)]; exact hp
    have hkids := fun h => wd_kids (p := .mk k t es cols ks) (lv := 8 - path.length) hp h
    have hacc := stI_acc ws path (.mk k t es cols ks)
    generalize hpe : Pn.mk k t es cols ks = p at *
    have hks : ks = p.kids := by rw [← hpe]; rfl
    subst hks
    obtain ⟨lv, hlv⟩ : ∃ lv : Nat, 8 - path.length = lv := ⟨_, rfl⟩
    have hw8 : IntKind.i64.wrap (8 - (path.length : Int)) = (lv : Int) := by rw [wrap64 (by omega) (by omega)]; omega
    have hr := fun r => rewritten_eq hw hp8 r (lv := lv) (by omega)
    have hcp := copiedPath path
    obtain ⟨j, hj, h1, h2⟩ := fst_bad (fun i => (rwL ws ((i : Int) + 1) (8 - path.length) p).isSome && lowR ((i : Int) + 1)) 11
    rw [hacc, fstL_app, callA_eq rfl Tryz.func149 rfl rfl, Pn.cells_eq]
    rw [Pn.cells_eq p] at hr
    simp [NS0]
    rw [loop_to (RNX R [.own 1 0, .own 2 0, .junk, .junk, .junk] ws path p) j (by simp [RNX, NS0, accR])]
    · rw [execA_loop]
      by_cases hj11 : j = 11
      · subst hj11
        rw [accR_none (by omega) h1]
        obtain ⟨j2, hj2, g1, g2⟩ := fst_bad (fun i => (fstL (stI ws (path ++ [(i : Int)]) ((p.kids[i]?).getD Pn.zero))).isSome) p.kids.length
        have g1' : ∀ k, k < j2 → fstL (stI ws (path ++ [(k : Int)]) ((p.kids[k]?).getD Pn.zero)) = none := fun k hk => by simpa using g1 k hk
        have hkid : ∀ (i : Nat) (a : Pn), p.kids[i]? = some a → p.kids.length ≤ 2 ∧ path.length + 1 ≤ 8 ∧ callA C0 149 [.i (.iref a.cells), .i (.isl (intsL ws)), .i (.isl (intsL path ++ [[.int i]])), .fn (.yield 0) [.own 0 0]] (NS0 R [.own 1 0, .own 2 0, .junk, .junk, .junk]) = NSr R [.own 1 0, .own 2 0, .junk, .junk, .junk] (fstL (stI ws (path ++ [(i : Int)]) a)) := fun i a ha => by
          have hm := List.mem_of_getElem? ha
          obtain ⟨hk2, hlv0, hkw⟩ := hkids (by intro h; rw [h] at hm; simp at hm)
          have hpl : (path ++ [(i : Int)]).length = path.length + 1 := by simp
          have := ih a hm (path ++ [(i : Int)]) (by omega) (by rw [hpl, show 8 - (path.length + 1) = 8 - path.length - 1 by omega]; exact hkw a hm)
          rw [intsL_snoc] at this
          exact ⟨hk2, by omega, this⟩
        have hl1 : (path.length + 1) * 8 ≤ 140737488355328 := by omega
        have ht1 : ∀ i : Nat, List.take (path.length + 1) (intsL path ++ [[.int (i : Int)]]) = intsL path ++ [[.int i]] := fun i => List.take_of_length_le (by simp)
        by_cases ha : accR ws path p 11 = []
        all_goals
          simp [RNX, NS0, ha]
          rw [loop_to (KNX R [.own 1 0, .own 2 0, .junk, .junk, .junk] ws path p) j2 (by simp [KNX, NS0, ha])]
          · rw [execA_loop]
            by_cases hjk : j2 = p.kids.length
            · have hz : fstL (stIL ws path 0 p.kids) = none := by
                have := stIL_none (ws := ws) (path := path) (l := p.kids) (i := p.kids.length) (Nat.le_refl _) (by rw [← hjk]; exact g1')
                rwa [List.take_length] at this
              rw [hz]
              simp [KNX, NS0, NSr, ha, hjk]
            · have hjl : j2 < p.kids.length := by omega
              have h3 := List.getElem?_eq_getElem hjl
              generalize p.kids[j2] = a at h3
              have r2 := Pn.cellsL_nth h3
              obtain ⟨hk2, hpl8, hk⟩ := hkid j2 a h3
              have hb := g2.resolve_left hjk
              rw [h3] at hb
              cases hf : fstL (stI ws (path ++ [(j2 : Int)]) a) with
              | none => simp [hf] at hb
              | some s =>
                obtain ⟨r, hr2⟩ := fstL_pre hf
                have hs0 : s.2 ≠ [] := by rw [hr2]; simp
                rw [stIL_first h3 g1' hf]
                rw [hf] at hk
                simp [NSr, NS0, NS1, hs0] at hk
                rw [Pn.cells_eq a] at r2 hk
                rcases hcp with rfl | hcp
                · simp [intsL] at hk
                  simp [KNX, NS0, NSr, NS1, ha, hjl, r2, copiedIs_nil, hk, intsL, hs0]
                · have hc := copiedIs_eq hcp (by omega)
                  simp [KNX, NS0, NSr, NS1, ha, hjl, r2, hc, hk, intsL, hs0, hl1, ht1]
          · intro i hi
            have hil : i < p.kids.length := by omega
            have h3 := List.getElem?_eq_getElem hil
            generalize p.kids[i] = a at h3
            have r2 := Pn.cellsL_nth h3
            obtain ⟨hk2, hpl8, hk⟩ := hkid i a h3
            have hn := g1' i hi
            rw [h3] at hn
            simp only [Option.getD_some] at hn
            rw [hn] at hk
            simp [NSr, NS0] at hk
            have w2 : IntKind.i64.wrap ((i : Int) + 1) = i + 1 := wrap64 (by omega) (by omega)
            rw [Pn.cells_eq a] at r2 hk
            rcases hcp with rfl | hcp
            · simp [intsL] at hk
              simp [KNX, NS0, ha, hil, r2, w2, copiedIs_nil, hk, intsL]
            · have hc := copiedIs_eq hcp (by omega)
              simp [KNX, NS0, ha, hil, r2, w2, hc, hk, intsL, hl1, ht1]
      · have hb := (h2.resolve_left hj11)
        have hjl : j < 11 := by omega
        rw [accR_some hjl h1 hb]
        simp only [Bool.and_eq_true] at hb
        obtain ⟨hb1, hb2⟩ := hb
        have hr1 := hr ((j : Int) + 1)
        rw [hlv] at hb1
        rw [hb1] at hr1
        have hi11 : (j : Int) + 1 ≤ 11 := by omega
        rcases hcp with rfl | hcp
        · have hc := copiedIs_nil
          have hy := y0 _ hb2
          obtain rfl : lv = 8 := by simpa using hlv.symm
          simp at hw8
          rw [show ((8 : Nat) : Int) = 8 from rfl] at hr1
          simp [NS0, NS1] at hy
          by_cases ha : accR ws [] p j = [] <;> simp [RNX, NS0, NSr, NS1, ha, hr1, hw8, hi11, hc, hy, intsL]
        · have hc := copiedIs_eq hcp (by omega)
          have hy := y1 _ path hcp hb2
          simp [NS0, NS1, hcp] at hy
          by_cases ha : accR ws path p j = [] <;> simp [RNX, NS0, NSr, NS1, ha, hr1, hw8, hi11, hlv, hc, hy, hcp]
    · intro i hi
      have hs := accR_succ (ws := ws) (path := path) (p := p) (i := i) (by omega)
      have w2 : IntKind.i64.wrap ((i : Int) + 1 + 1) = i + 1 + 1 := wrap64 (by omega) (by omega)
      have hi11 : (i : Int) + 1 ≤ 11 := by omega
      have hr1 := hr ((i : Int) + 1)
      have hnb := h1 i hi
      rw [hlv] at hs hnb
      cases hb : (rwL ws ((i : Int) + 1) lv p).isSome with
      | false =>
        rw [hb] at hs hr1
        simp at hs
        by_cases ha : accR ws path p i = [] <;> simp [RNX, NS0, hs, ha, hr1, hw8, w2, hi11, hlv, hb]
      | true =>
        rw [hb] at hs hr1 hnb
        simp at hs hnb
        rcases hcp with rfl | hcp
        · have hc := copiedIs_nil
          have hy := n0 _ hnb
          obtain rfl : lv = 8 := by simpa using hlv.symm
          simp at hw8
          rw [show ((8 : Nat) : Int) = 8 from rfl] at hr1
          simp [NS0] at hy
          by_cases ha : accR ws [] p i = [] <;> simp [RNX, NS0, hs, ha, hr1, hw8, w2, hi11, hb, hc, hy, intsL]
        · have hc := copiedIs_eq hcp (by omega)
          have hy := n1 _ path hcp hnb
          simp [NS0] at hy
          by_cases ha : accR ws path p i = [] <;> simp [RNX, NS0, hs, ha, hr1, hw8, w2, hi11, hlv, hb, hc, hy]
def stpO:Option Stp→IV
 | none=>.agg [.int 0, .isl []]
 | some s=>.agg [.int s.1, .isl (intsL s.2)]
theorem steps1N_eq {R : Rng} {cs : List AV} (hY : Yn R cs) {ws : List Int} (hw : okWs ws = true) {p : Pn} (hp : p.wd ws 8 ≠ 0) : callA C0 148 [.fn (.yield 0) [.own 0 0], .own 3 0, .own 4 0] [some (.loop R cs .ready), some (.box [.int 0, .nils]), some (.box [.bool false]), some (.box [.i (.iref p.cells)]), some (.box [.i (.isl (intsL ws))])] =
    match fstL (stI ws [] p) with
    | none => some (.tup [], [some (.loop R cs .ready), some (.box [.int 0, .nils]), some (.box [.bool false]), some (.box [.i (.iref p.cells)]), some (.box [.i (.isl (intsL ws))])])
    | some s => some (.tup [], some (.loop R cs (.over .ret)) :: some (.box [.int s.1, if s.2 = [] then .nils else .osl 5 1 0 s.2.length]) :: some (.box [.bool true]) :: some (.box [.i (.iref p.cells)]) :: some (.box [.i (.isl (intsL ws))]) :: (if s.2 = [] then [] else [some (.frz 1 (intsL s.2))])) := by
  have h := eachStepN_eq hY hw p [] (by simp) (by simpa using hp)
  obtain ⟨rfl, _⟩ := hY
  rw [callA_eq rfl Tryz.func148 rfl rfl]
  cases hf : fstL (stI ws [] p) with
  | none =>
    simp [hf, NSr, NS0, intsL] at h
    simp [h]
  | some s =>
    by_cases hs : s.2 = []
    · simp [hf, NSr, NS0, NS1, hs, intsL] at h
      simp [h, hs]
    · simp [hf, NSr, NS0, NS1, hs, intsL] at h
      simp [h, hs]
theorem normStep_eq {ws : List Int} (hw : okWs ws = true) {p : Pn} (hp : p.wd ws 8 ≠ 0) : callA C0 77 [.i (.iref p.cells), .i (.isl (intsL ws))] [] = some (.tup [.i (stpO (fstL (stI ws [] p))), .bool (fstL (stI ws [] p)).isSome], []) := by
  have c3 := fun R cs (hY : Yn R cs) => steps1N_eq hY hw hp
  have c2 := steps_eq p ws
  rw [callA_eq rfl Tryz.func77 rfl rfl]
  simp only [Pn.cells_eq p] at c2 c3 ⊢
  simp [c2, noRange, readsC, tmpsC, tmpsOs, tmpsO, Op.operands, Call.operands, yldF]
  generalize hR : Rng.mk [0, 1, 4, 5, 6, 9, 10, 12] _ [10] _ _ = R
  have hY : Yn R [.own 1 0, .own 2 0, .junk, .junk, .junk] := by
    clear c2 c3
    refine ⟨rfl, ?_, ?_, ?_, ?_⟩
    · intro r h
      have hn := normalizes_eq r []
      rw [h] at hn
      simp [intsL] at hn
      subst hR
      rw [callA_yld]
      simp [NS0, hn]
    · intro r path hp h
      have hn := normalizes_eq r path
      rw [h] at hn
      subst hR
      rw [callA_yld]
      have ht : path.take path.length = path := List.take_of_length_le (by omega)
      simp [NS0, hn, ht]
    · intro r h
      have hn := normalizes_eq r []
      rw [h] at hn
      simp [intsL] at hn
      subst hR
      rw [callA_yld]
      simp [NS0, NS1, hn]
    · intro r path hp h
      have hn := normalizes_eq r path
      rw [h] at hn
      subst hR
      rw [callA_yld]
      have ht : path.take path.length = path := List.take_of_length_le (by omega)
      simp [NS0, NS1, hn, ht, hp]
  have c3 := c3 R _ hY
  clear hR
  cases hf : fstL (stI ws [] p) with
  | none =>
    simp [hf] at c3
    simp [c3, stpO]
  | some s =>
    by_cases hs : s.2 = []
    · simp [hf, hs] at c3
      simp [c3, stpO, hs, intsL]
    · simp [hf, hs] at c3
      simp [c3, stpO]
theorem IsNormal_eq (p:Pn) (ws:List Int):callA C0 36 [.i (.agg p.cells), .i (.isl (intsL ws))] []=some (.bool (decide (p.width ws≠0) && (fstL (stepsP p ws)).isNone),[]):=by
 have c1:=planWidth_eq p ws
 unfold stepsP
 by_cases h0:p.width ws=0
 ·rw [callA_eq rfl Tryz.func36 rfl rfl]
  simp only [Pn.cells_eq p] at c1 ⊢
  simp [c1,h0]
 ·obtain ⟨hw,hp,_⟩:=width_okWs h0
  have c2:=normStep_eq hw hp
  rw [if_neg h0,callA_eq rfl Tryz.func36 rfl rfl]
  simp only [Pn.cells_eq p] at c1 c2 ⊢
  generalize fstL (stI ws [] p)=o at *
  cases o with
  | none=>simp [c1,c2,h0,stpO]
  | some s=>simp [c1,c2,h0,stpO]
end Go.Proofs.YtjcjpbjpbbdnlaaGreat.P

namespace Go.Proofs.YtjcjpbjpbbdnlaaGreat.P
open Go Go.Av
set_option maxRecDepth 4000
set_option maxHeartbeats 4000000
theorem applyE_name {args:List AV} {st:StL} {q:AV×StL} (h:applyE args st=some q):∃ fn,Tryz.prog.funcs[14]?=some fn∧fn.name≠ "runtime.NumGoroutine"∧fn.body.isSome=true:=⟨Tryz.f14,Tryz.func14,by decide,rfl⟩
theorem applyE_calls {args : List AV} {st st' : StL} {r : AV} (h : applyE args st = some (r, st')) : ∀ (w : World) (m : Mem) (φ : Pl) (vs : List Value), Inv w m φ (stOf st) → RepL m φ args vs → (∀ id, φ id ≠ none → id < st.length) → Calls Tryz.prog 14 vs.toArray w (CallPost w m φ r st') := by
  intro w m φ vs hi hr h0
  obtain ⟨p, ws, k, path, rfl, rfl, hq⟩ := applyE_some h
  cases ho : apO p ws k path with
  | none =>
    rw [ho] at hq
    injection hq with h1 h2
    subst h1; subst h2
    have hn : p.width ws = 0 ∨ apI ws k path p = none := by
      unfold apO at ho
      by_cases hw : p.width ws = 0
      · exact .inl hw
      · rw [if_neg hw] at ho; exact .inr ho
    exact (callA_sound sound0).calls _ _ _ _ _ (by decide) (apply_none hn) w m φ vs hi hr h0
  | some q =>
    rw [ho] at hq
    injection hq with h1 h2
    subst h1; subst h2
    unfold apO at ho
    by_cases hw : p.width ws = 0
    · rw [if_pos hw] at ho; cases ho
    · rw [if_neg hw] at ho
      obtain rfl : φ = fun _ => none := by
        funext id
        cases h : φ id with
        | none => rfl
        | some p => exact absurd (h0 id (by rw [h]; simp)) (Nat.not_lt_zero _)
      exact apply_some hw ho hi hr
def ownQ:FuncId→Bool
 | 77=>true
 | g=>ownP g
@[simp] theorem ownQ_eq (g:FuncId):ownQ g=if g=77 then true else ownP g:=by
 unfold ownQ; split
 ·rfl
 ·rename_i h; rw [if_neg h]
noncomputable def primA:FuncId→Option (List AV→StL→Option (AV×StL))
 | 4=>none
 | 6=>none
 | 7=>none
 | 10=>none
 | 11=>none
 | 20=>none
 | 39=>none
 | 35=>none
 | 48=>none
 | 62=>none
 | 21=>none
 | 45=>none
 | 38=>none
 | 22=>none
 | 43=>none
 | 40=>none
 | 14=>some applyE
 | 77=>some (lookK (bodyT C0 77))
 | 13=>some (callA CR 13)
 | 52=>some (callA CR 52)
 | 51=>some (callA CR 51)
 | g=>primR g
noncomputable def CA:Ctx:={ P:=Tryz.prog,G:=GS,ownArgs:=ownQ,keepRes:=keepQ,eqT:=eqTy,prim:=primA }
@[simp] theorem CA_P:CA.P=Tryz.prog:=(rfl)
@[simp] theorem CA_G (f):CA.G f=GS f:=(rfl)
@[simp] theorem CA_o (f):CA.ownArgs f=ownQ f:=(rfl)
@[simp] theorem CA_k (f):CA.keepRes f=(keepR f || decide (f=123)):=(rfl)
@[simp] theorem CA_e (f):CA.eqT f=eqTy f:=(rfl)
@[simp] theorem CA_t:CA.tree=false:=(rfl)
theorem primA0 : PrimOk CA := by
  constructor
  · intro g args st p h
    unfold primCall at h
    cases hq : CA.prim g with
    | none => rw [hq] at h; cases h
    | some q =>
      rw [hq] at h
      have hq : primA g = some q := hq
      unfold primA at hq
      split at hq
      all_goals first
        | (cases hq; done)
        | (injection hq with hq; subst hq; exact applyE_name h)
        | (injection hq with hq; subst hq; exact (lookK_sound (C := CA) (fun args stl r stl' h => bodyT_sound sound0 h) (r := p.1) (stl' := p.2) h).1)
        | (injection hq with hq; subst hq; exact (callA_sound soundR).name _ _ _ _ (by decide) h)
        | exact primR0.name g args st p (by unfold primCall; rw [show CR.prim g = some q from hq]; exact h)
  · intro g args st r st' h w m φ vs hi hr hb
    unfold primCall at h
    cases hq : CA.prim g with
    | none => rw [hq] at h; cases h
    | some q =>
      rw [hq] at h
      have hq : primA g = some q := hq
      unfold primA at hq
      split at hq
      all_goals first
        | (cases hq; done)
        | (injection hq with hq; subst hq; exact applyE_calls h w m φ vs hi hr hb)
        | (injection hq with hq; subst hq; exact (lookK_sound (C := CA) (fun args stl r stl' h => bodyT_sound sound0 h) h).2 w m φ vs hi hr hb)
        | (injection hq with hq; subst hq; exact (callA_sound soundR).calls _ _ _ _ _ (by decide) h w m φ vs hi hr hb)
        | exact primR0.calls g args st r st' (by unfold primCall; rw [show CR.prim g = some q from hq]; exact h) w m φ vs hi hr hb
theorem soundAp:SoundOk CA:=sound_ok (C:=CA) ft nt eqS mo primA0
theorem ca_ApplyStep (p:Pn) (ws:List Int) (r:Int) (path:List Int):callA CA 14 [.i (.agg p.cells), .i (.isl (intsL ws)), .i (.agg [.int r, .isl (intsL path)])] []=some (apR (apO p ws r path)):=by rw [callA_prim (p:=applyE) rfl]; exact applyE_eq p ws r path
@[simp] theorem ca_Draw (a:List AV) (st:StL):callA CA 13 a st=callA CR 13 a st:=by rw [callA_prim (p:=callA CR 13) rfl]
@[simp] theorem ca_someStep (a:List AV) (st:StL):callA CA 52 a st=callA CR 52 a st:=by rw [callA_prim (p:=callA CR 52) rfl]
@[simp] theorem ca_planAndWidths (a:List AV) (st:StL):callA CA 51 a st=callA CR 51 a st:=by rw [callA_prim (p:=callA CR 51) rfl]
@[simp] theorem ca_sApplyStep (a:List AV) (st:StL):callA CA 15 a st=callA C0 15 a st:=by rw [callA_prim (p:=callA C0 15) rfl]
@[simp] theorem ca_equalPlans (a:List AV) (st:StL):callA CA 16 a st=callA C0 16 a st:=by rw [callA_prim (p:=callA C0 16) rfl]
@[simp] theorem ca_equalSteps (a:List AV) (st:StL):callA CA 41 a st=callA C0 41 a st:=by rw [callA_prim (p:=callA C0 41) rfl]
@[simp] theorem ca_equalInts (a:List AV) (st:StL):callA CA 18 a st=callA C0 18 a st:=by rw [callA_prim (p:=callA C0 18) rfl]
@[simp] theorem ca_PlanWidth (a:List AV) (st:StL):callA CA 17 a st=callA C0 17 a st:=by rw [callA_prim (p:=callA C0 17) rfl]
@[simp] theorem ca_TablesOf (a:List AV) (st:StL):callA CA 19 a st=callA C0 19 a st:=by rw [callA_prim (p:=callA C0 19) rfl]
theorem apO_thin {p q:Pn} {ws:List Int} {r:Int} {path:List Int} (h:apO p ws r path=some q):q.thin∧p.width ws≠0∧q.width ws=p.width ws:=by
 unfold apO at h
 by_cases h0:p.width ws=0
 ·rw [if_pos h0] at h; cases h
 ·rw [if_neg h0] at h
  obtain ⟨hw,hp8,hv⟩:=width_okWs h0
  rw [ap_eq (okWs_rng hw) hp8] at h
  have:=apS_wd (okWs_rng hw) hp8 h
  exact ⟨wd_thin q 8 (by rw [this]; exact hp8),h0,by unfold Pn.width; rw [if_pos hw,if_pos hw]; exact this⟩
theorem sApplyStep_eq (p : Pn) (hp : p.thin) (ws : List Int) (hl : ws.length < 1000000000) (r : Int) (path : List Int) (hpl : path.length < 1000000000) : callA C0 15 [.i (.agg p.cells), .i (.isl (intsL ws)), .i (.agg [.int r, .isl (intsL path)])] [] = some (apR (apO p ws r path)) := by
  have c1 := widthOf_eq p (Pn.thin_lim p hp) ws (by omega)
  rw [callA_eq rfl Tryz.func15 rfl rfl]
  unfold apO
  by_cases h0 : p.width ws = 0
  · simp only [Pn.cells_eq p] at c1 ⊢
    simp [c1, h0, apR, Pn.zero, Pn.cells, Ex.cellsL, intsL, Pn.cellsL]
  · obtain ⟨hw, hp8, hv⟩ := width_okWs h0
    by_cases h8 : path.length ≤ 8
    · have c2 := applyStep_eq hw hp8 r (path := path) (by omega)
      rw [← ap_eq (okWs_rng hw) hp8] at c2
      have n8 : ¬ (8 : Int) < path.length := by omega
      cases hq : apI ws r path p with
      | none =>
        rw [hq] at c2
        simp only [Pn.cells_eq p] at c1 c2 ⊢
        simp [getP, Pn.zero, Pn.cells, Ex.cellsL, intsL, Pn.cellsL] at c2
        simp [c1, h0, c2, n8, apR, Pn.zero, Pn.cells, Ex.cellsL, intsL, Pn.cellsL]
      | some q =>
        rw [hq] at c2
        simp only [Pn.cells_eq p, Pn.cells_eq q, getP, Option.getD_some] at c1 c2 ⊢
        simp at c2
        simp [c1, h0, c2, n8, apR, Pn.cells_eq q]
    · have n8 : (8 : Int) < path.length := by omega
      have hq : apI ws r path p = none := by unfold apI; rw [if_neg h8]
      simp only [Pn.cells_eq p] at c1 ⊢
      simp [c1, h0, n8, hq, apR, Pn.zero, Pn.cells, Ex.cellsL, intsL, Pn.cellsL]
end Go.Proofs.YtjcjpbjpbbdnlaaGreat.P

namespace Go.Av
theorem shape_kind {ws:List Int} {lv:Nat} {p:Pn} (h:Shape ws lv p):(p.kind=2→∃ e a,p=filt e a)∧(p.kind=3→∃ es a,p=proj es a)∧(∀ k,k=4∨k=5→p.kind=k→∃ e a b,p=pairP k e a b)∧(p.kind=6→∃ a b,p=unionP a b)∧(p.kind=7→∃ a,p=.mk 7 0 [] [] [a]):=by
 cases h with
 | scan t=>exact ⟨fun h=>by simp [Pn.scan,Pn.kind] at h,fun h=>by simp [Pn.scan,Pn.kind] at h,fun k h1 h=>by simp [Pn.scan,Pn.kind] at h; omega,fun h=>by simp [Pn.scan,Pn.kind] at h,fun h=>by simp [Pn.scan,Pn.kind] at h⟩
 | filt m e a=>exact ⟨fun _=>⟨e,a,rfl⟩,fun h=>by simp [filt,Pn.kind] at h,fun k h1 h=>by simp [filt,Pn.kind] at h; omega,fun h=>by simp [filt,Pn.kind] at h,fun h=>by simp [filt,Pn.kind] at h⟩
 | proj m es a=>exact ⟨fun h=>by simp [proj,Pn.kind] at h,fun _=>⟨es,a,rfl⟩,fun k h1 h=>by simp [proj,Pn.kind] at h; omega,fun h=>by simp [proj,Pn.kind] at h,fun h=>by simp [proj,Pn.kind] at h⟩
 | pair m k e a b hm hk=>exact ⟨fun h=>by simp [pairP,Pn.kind] at h; omega,fun h=>by simp [pairP,Pn.kind] at h; omega,fun k' h1 h=>⟨e,a,b,by simp [pairP,Pn.kind] at h; rw [h]⟩,fun h=>by simp [pairP,Pn.kind] at h; omega,fun h=>by simp [pairP,Pn.kind] at h; omega⟩
 | union m a b=>exact ⟨fun h=>by simp [unionP,Pn.kind] at h,fun h=>by simp [unionP,Pn.kind] at h,fun k h1 h=>by simp [unionP,Pn.kind] at h; omega,fun _=>⟨a,b,rfl⟩,fun h=>by simp [unionP,Pn.kind] at h⟩
 | dist m a=>exact ⟨fun h=>by simp [Pn.kind] at h,fun h=>by simp [Pn.kind] at h,fun k h1 h=>by simp [Pn.kind] at h; omega,fun h=>by simp [Pn.kind] at h,fun _=>⟨a,rfl⟩⟩
 | group m cs a=>exact ⟨fun h=>by simp [Pn.kind] at h,fun h=>by simp [Pn.kind] at h,fun k h1 h=>by simp [Pn.kind] at h; omega,fun h=>by simp [Pn.kind] at h,fun h=>by simp [Pn.kind] at h⟩
@[simp] theorem sc_filt (t:Int) (e:Ex) (a:Pn):scP t (filt e a)=scP t a:=by simp [filt,scP,scPL,Pn.hit,Pn.kind]
@[simp] theorem sc_proj (t:Int) (es:List Ex) (a:Pn):scP t (proj es a)=scP t a:=by simp [proj,scP,scPL,Pn.hit,Pn.kind]
theorem sc_pair (t k:Int) (hk:k=4∨k=5) (e:Ex) (a b:Pn):scP t (pairP k e a b)=(scP t a || scP t b):=by
 have:k≠1:=by omega
 simp [pairP,scP,scPL,Pn.hit,Pn.kind,this]
@[simp] theorem sc_union (t:Int) (a b:Pn):scP t (unionP a b)=(scP t a || scP t b):=by simp [unionP,scP,scPL,Pn.hit,Pn.kind]
@[simp] theorem sc_dist (t:Int) (a:Pn):scP t (.mk 7 0 [] [] [a])=scP t a:=by simp [scP,scPL,Pn.hit,Pn.kind]
theorem rwF_sc {ws:List Int} {r:Int} {e:Ex} {k q:Pn} {m:Nat} (hk:k.wd ws m≠0) (h:rwF ws r e k=some q) (t:Int):scP t q=scP t k:=by
 obtain ⟨s2,s3,s45,s6,s7⟩:=shape_kind (wd_shape hk)
 unfold rwF at h
 split at h
 ·rename_i hc
  obtain ⟨e2,a,rfl⟩:=s2 hc.2
  injection h with h; subst h
  simp [filt,Pn.kid0,Pn.kids]
  simp [scP,scPL,Pn.hit,Pn.kind]
 split at h
 ·injection h with h; subst h; simp
 split at h
 ·rename_i hc
  obtain ⟨e2,a,b,hk2⟩:=s45 _ hc.2.1 rfl
  have hkd:=hc.2.1
  generalize k.kind=kd at *
  subst hk2
  injection h with h; subst h
  rw [sc_pair t kd hkd,sc_pair t kd hkd]
  simp [pairP,Pn.kid0,Pn.kid1,Pn.kids]
 split at h
 ·rename_i hc
  obtain ⟨e2,a,b,rfl⟩:=s45 4 (.inl rfl) hc.2.1
  injection h with h; subst h
  rw [sc_pair t 4 (.inl rfl),sc_pair t 4 (.inl rfl)]
  simp [pairP,Pn.kid0,Pn.kid1,Pn.kids]
 split at h
 ·rename_i hc
  obtain ⟨e2,a,b,rfl⟩:=s45 4 (.inl rfl) hc.2
  injection h with h; subst h
  rw [sc_pair t 4 (.inl rfl),sc_pair t 4 (.inl rfl)]
  simp [pairP,Pn.kid0,Pn.kid1,Pn.kids]
 split at h
 ·rename_i hc
  obtain ⟨e2,a,b,rfl⟩:=s45 5 (.inr rfl) hc.2.1
  injection h with h; subst h
  rw [sc_filt,sc_pair t 4 (.inl rfl),sc_pair t 5 (.inr rfl)]
  simp [pairP,Pn.kid0,Pn.kid1,Pn.kids]
 split at h
 ·rename_i hc
  obtain ⟨a,b,rfl⟩:=s6 hc.2
  injection h with h; subst h
  simp
  simp [unionP,Pn.kid0,Pn.kid1,Pn.kids]
 split at h
 ·rename_i hc
  obtain ⟨es,a,rfl⟩:=s3 hc.2
  injection h with h; subst h
  simp
  simp [proj,Pn.kid0,Pn.kids]
 ·cases h
theorem rwP_sc {ws : List Int} {r : Int} {p q : Pn} {m : Nat} (hp : p.wd ws m ≠ 0) (h : rwP ws r p = some q) (t : Int) : scP t q = scP t p := by
  have hs := wd_shape hp
  obtain ⟨s2, s3, s45, s6, s7⟩ := shape_kind hs
  unfold rwP at h
  split at h
  · rename_i hc
    obtain ⟨e, k, rfl⟩ := s2 hc
    rw [sc_filt]
    cases hs with
    | filt m' _ _ _ hk _ => exact rwF_sc hk h t
  split at h
  · rename_i hc
    obtain ⟨e, a, b, rfl⟩ := s45 4 (.inl rfl) hc.2
    injection h with h; subst h
    rw [sc_proj, sc_pair t 4 (.inl rfl), sc_pair t 4 (.inl rfl), Bool.or_comm]
    simp [pairP, Pn.kid0, Pn.kid1, Pn.kids]
  split at h
  · rename_i hc
    obtain ⟨a, rfl⟩ := s7 hc.2.1
    injection h with h; subst h
    rw [sc_dist]; rfl
  split at h
  · rename_i hc
    obtain ⟨es, a, rfl⟩ := s3 hc.2.1
    injection h with h; subst h
    rw [sc_proj, sc_proj]
    cases hs with
    | proj m' _ _ _ ha _ _ =>
      obtain ⟨es2, b, rfl⟩ := (shape_kind (wd_shape ha)).2.1 hc.2.2
      rw [sc_proj]; rfl
  · cases h
theorem scPL_any (t:Int):∀ l:List Pn,scPL t l=l.any (scP t)
 | []=>rfl
 | p :: l=>by simp [scPL,scPL_any t l]
theorem any_set {α:Type} (f:α→Bool):∀ (l:List α) (i:Nat) (a b:α),l[i]?=some a→f b=f a→(l.set i b).any f=l.any f
 | [],i,a,b,h,_=>by simp at h
 | x :: l,0,a,b,h,hf=>by simp at h; subst h; simp [hf]
 | x :: l,i + 1,a,b,h,hf=>by simp [any_set f l i a b (by simpa using h) hf]
theorem put_sc {t : Int} {q : Pn} : ∀ (path : List Int) (p a : Pn), Pn.at path p = some a → scP t q = scP t a → scP t (Pn.put path p q) = scP t p
  | [], p, a, h, hq => by simp only [Pn.at, Option.some.injEq] at h; subst h; simpa [Pn.put] using hq
  | i :: r, p, a, h, hq => by
    obtain ⟨n, rfl, b, hb, hr⟩ := Pn.at_cons h
    have := put_sc r b a hr hq
    obtain ⟨k, tb, es, cs, ks⟩ := p
    have hb : ks[n]? = some b := hb
    have e : Pn.put ((n : Int) :: r) (Pn.mk k tb es cs ks) q = .mk k tb es cs (ks.set n (Pn.put r b q)) := by simp [Pn.put, Pn.kind, Pn.table, Pn.exprs, Pn.cols, Pn.kids, hb]
    rw [e]
    simp only [scP, scPL_any, any_set (scP t) _ _ _ _ hb this]
    rfl
theorem apO_sc {p q : Pn} {ws : List Int} {r : Int} {path : List Int} (h : apO p ws r path = some q) (t : Int) : scP t q = scP t p := by
  unfold apO at h
  split at h
  · cases h
  rename_i h0
  obtain ⟨hw, hp8⟩ := width_ok2 h0
  unfold apI at h
  split at h
  · rename_i hl
    cases ha : Pn.at path p with
    | none => simp [ha] at h
    | some a =>
      obtain ⟨-, hv⟩ := at_wd path p 8 a hp8 ha
      simp only [ha, Option.bind_some, rwL] at h
      cases hr : rwP ws r a with
      | none => simp [hr] at h
      | some x =>
        simp only [hr, Option.bind_some] at h
        by_cases hx : x.wd ws (8 - path.length) = 0
        · simp [hx] at h
        · simp [hx] at h
          subst h
          exact put_sc path p a ha (rwP_sc hv hr t)
  · cases h
theorem tabsN_sc {p q:Pn} (h:∀ t,scP t q=scP t p):∀ n,tabsN q n=tabsN p n
 | 0=>rfl
 | n + 1=>by simp [tabsN,tabsN_sc h n,h]
end Go.Av

namespace Go.Av
def aps (ws:List Int):List (Int×List Int)→Pn→Option Pn
 | [],p=>some p
 | s :: l,p=>(apO p ws s.1 s.2).bind (aps ws l)
theorem aps_append (ws : List Int) : ∀ (a b : List (Int × List Int)) (p : Pn), aps ws (a ++ b) p = (aps ws a p).bind (aps ws b)
  | [], b, p => rfl
  | s :: a, b, p => by
    simp only [List.cons_append, aps]
    cases apO p ws s.1 s.2 with
    | none => rfl
    | some q => exact aps_append ws a b q
theorem aps_snoc (ws:List Int) (l:List (Int×List Int)) (s:Int×List Int) (p:Pn):aps ws (l ++ [s]) p=(aps ws l p).bind fun x=>apO x ws s.1 s.2:=by
 rw [aps_append]
 congr 1
 funext x
 simp only [aps]
 cases apO x ws s.1 s.2<;>rfl
theorem aps_upto (ws : List Int) (p : Pn) (l : List (Int × List Int)) : ∃ j x, j ≤ l.length ∧ (∀ i, i ≤ j → ∃ y, aps ws (l.take i) p = some y) ∧ aps ws (l.take j) p = some x ∧ ((j = l.length ∧ aps ws l p = some x) ∨ ∃ s, l[j]? = some s ∧ apO x ws s.1 s.2 = none ∧ aps ws l p = none) := by
  generalize hn : l.length = n
  induction n generalizing l with
  | zero =>
    obtain rfl := List.length_eq_zero_iff.1 hn
    exact ⟨0, p, by omega, fun i hi => ⟨p, by simp [aps]⟩, rfl, .inl ⟨rfl, rfl⟩⟩
  | succ n ih =>
    obtain ⟨m, s, rfl⟩ : ∃ m s, l = m ++ [s] := by
      rcases List.eq_nil_or_concat l with h | ⟨m, s, h⟩
      · rw [h] at hn; simp at hn
      · exact ⟨m, s, by simpa using h⟩
    have hm : m.length = n := by simpa using hn
    obtain ⟨j, x, h1, h2, h3, h4⟩ := ih m hm
    have tk : ∀ i, i ≤ j → (m ++ [s]).take i = m.take i := fun i hi => List.take_append_of_le_length (by omega)
    rcases h4 with ⟨hjm, h4⟩ | ⟨u, q1, q2, q3⟩
    · cases hx : apO x ws s.1 s.2 with
      | none =>
        refine ⟨j, x, by omega, fun i hi => by rw [tk i (by omega)]; exact h2 i (by omega), by rw [tk _ (by omega)]; exact h3, .inr ⟨s, by rw [List.getElem?_append_right (by omega), show j - m.length = 0 by omega]; rfl, hx, ?_⟩⟩
        rw [aps_snoc, h4]; exact hx
      | some y =>
        have he : aps ws (m ++ [s]) p = some y := by rw [aps_snoc, h4]; exact hx
        have ht : (m ++ [s]).take (n + 1) = m ++ [s] := List.take_of_length_le (by simp; omega)
        refine ⟨n + 1, y, by omega, fun i hi => ?_, by rw [ht]; exact he, .inl ⟨by omega, he⟩⟩
        by_cases hi2 : i ≤ m.length
        · rw [tk i (by omega)]; exact h2 i (by omega)
        · obtain rfl : i = n + 1 := by omega
          exact ⟨y, by rw [ht]; exact he⟩
    · have hj := (List.getElem?_eq_some_iff.1 q1).1
      refine ⟨j, x, by omega, fun i hi => by rw [tk i hi]; exact h2 i hi, by rw [tk j (by omega)]; exact h3, .inr ⟨u, by rw [List.getElem?_append_left hj]; exact q1, q2, ?_⟩⟩
      rw [aps_snoc, q3]; rfl
theorem aps_width {ws : List Int} : ∀ (l : List (Int × List Int)) (p q : Pn), aps ws l p = some q → q.width ws = p.width ws ∧ (∀ t, scP t q = scP t p) ∧ (p.width ws ≠ 0 → q.wd ws 8 ≠ 0)
  | [], p, q, h => by
    simp only [aps, Option.some.injEq] at h; subst h
    exact ⟨rfl, fun _ => rfl, fun h => (width_ok2 h).2⟩
  | s :: l, p, q, h => by
    simp only [aps] at h
    cases hx : apO p ws s.1 s.2 with
    | none => rw [hx] at h; cases h
    | some x =>
      rw [hx] at h
      obtain ⟨h1, h2, h3⟩ := aps_width l x q h
      have hw : x.width ws = p.width ws := by
        have hx' := hx
        unfold apO at hx'
        split at hx'
        · cases hx'
        · rename_i h0
          obtain ⟨hw, hp8⟩ := width_ok2 h0
          have hr : ∀ w ∈ ws, 0 ≤ w ∧ w ≤ 6 := fun w hm => by
            unfold okWs at hw
            simp only [Bool.and_eq_true] at hw
            have := List.all_eq_true.1 hw.2 w hm
            unfold okWidth at this
            simp at this; omega
          rw [ap_eq hr hp8] at hx'
          have := apS_wd hr hp8 hx'
          unfold Pn.width; rw [if_pos hw, if_pos hw]; exact this
      exact ⟨h1.trans hw, fun t => (h2 t).trans (apO_sc hx t), fun h => h3 (by rw [hw]; exact h)⟩
def apsO (p:Pn) (ws:List Int) (l:List (Int×List Int)):Option Pn:=if p.width ws=0∨40 < l.length then none else aps ws l p
theorem apsO_split {p q : Pn} {ws : List Int} {l : List (Int × List Int)} (h : apsO p ws l = some q) (k : Nat) : ∃ a, apsO p ws (l.take k) = some a ∧ apsO a ws (l.drop k) = some q := by
  unfold apsO at h
  split at h
  · cases h
  rename_i hn
  rw [← List.take_append_drop k l, aps_append] at h
  cases ha : aps ws (l.take k) p with
  | none => rw [ha] at h; cases h
  | some a =>
    rw [ha] at h
    obtain ⟨h1, _, _⟩ := aps_width _ _ _ ha
    refine ⟨a, ?_, ?_⟩
    · unfold apsO; rw [if_neg (by rw [List.length_take]; omega)]; exact ha
    · unfold apsO; rw [if_neg (by rw [List.length_drop, h1]; omega)]; exact h
end Go.Av

namespace Go.Av
def jkL (i:Nat) (l:StL):StL:=if i=0 then [] else l
@[simp] theorem jkL_0 (l:StL):jkL 0 l=[]:=(rfl)
@[simp] theorem jkL_succ (i:Nat) (l:StL):jkL (i + 1) l=l:=(rfl)
theorem jkL_pos {i:Nat} (h:i≠0) (l:StL):jkL i l=l:=by unfold jkL; rw [if_neg h]
def jA (i:Nat) (v:AV):AV:=if i=0 then .junk else v
@[simp] theorem jA_0 (v:AV):jA 0 v=.junk:=(rfl)
@[simp] theorem jA_succ (i:Nat) (v:AV):jA (i + 1) v=v:=(rfl)
theorem jA_pos {i:Nat} (h:i≠0) (v:AV):jA i v=v:=by unfold jA; rw [if_neg h]
theorem wd_small {ws:List Int} {p:Pn} (h:p.wd ws 8≠0):p.tiny∧p.size < 512:=by
 have:=Pn.wd_fit p 8 h
 exact ⟨this.1,by omega⟩
end Go.Av
namespace Go.Proofs.YtjcjpbjpbbdnlaaGreat.P
open Go Go.Av
set_option maxRecDepth 4000
set_option maxHeartbeats 1000000
@[simp] theorem ca_copied (a:List AV) (st:StL):callA CA 55 a st=callA C0 55 a st:=by rw [callA_prim (p:=callA C0 55) rfl]
@[simp] theorem ca_equal (a:List AV) (st:StL):callA CA 81 a st=callA C0 81 a st:=by rw [callA_prim (p:=callA C0 81) rfl]
@[simp] theorem ca_sequal (a:List AV) (st:StL):callA CA 80 a st=callA C0 80 a st:=by rw [callA_prim (p:=callA C0 80) rfl]
@[simp] theorem ca_widthOf (a:List AV) (st:StL):callA CA 56 a st=callA C0 56 a st:=by rw [callA_prim (p:=callA C0 56) rfl]
theorem ca_copyPlan {p:Pn} (hp:p.thin):callA CA 63 [.i (.agg p.cells)] []=some (.i (.agg p.cells),[]):=by
 have:=cp_copyPlan p hp
 rw [callA_prim (p:=frzO (callA C0) 63) rfl] at this ⊢
 exact this
theorem copied_small {p:Pn} {ws:List Int} (h:p.wd ws 8≠0):callA C0 55 [.i (.iref p.cells)] []=some (.i (.agg p.cells),[]):=by
 rw [callA_prim (p:=copyP) rfl]; exact copyP_eq ⟨by have:=(wd_small h).2; omega,wd_thin p 8 h,(wd_small h).1⟩
def zpB:Option Blk:=some (.box [.int 0, .int 0, .nils, .nils, .nils])
def stB (s:Int×List Int):Option Blk:=some (.box [.i (.int s.1), .i (.isl (intsL s.2))])
def ASX (p:Pn) (ws:List Int) (l:List Stp) (i:Nat):AS :=
 {env:=[(0, .i (.agg p.cells)),(1, .i (.isl (intsL ws))),(2, .i (.isl (stpsL l))),(3, .own 0 0),(6, .own 1 0),(7, .bool false),(8, .own 2 0),(10,jA i (.own 3 0)),(11,jA i (.own 4 0)),(12,jk i (.bool true)),(21, .bool false),(24, .i (.isl (stpsL l))),(25, .int l.length),(26, .int i),(27,jk i (.bool true)),(38,jk i (.bool false))],
  st:=[some (.fbox p.cells),zpB,boxP ((aps ws (l.take i) p).getD Pn.zero)] ++ jkL i [stB ((l[i - 1]?).getD (0,[])),boxP ((aps ws (l.take i) p).getD Pn.zero)] }
theorem ApplySteps_eq (p:Pn) (ws:List Int) (l:List Stp):callA CA 21 [.i (.agg p.cells), .i (.isl (intsL ws)), .i (.isl (stpsL l))] []=some (apR (apsO p ws l)):=by
 have c1:=planWidth_eq p ws
 have ea:=fun q r path=>ca_ApplyStep q ws r path
 rw [callA_eq rfl Tryz.func21 rfl rfl]
 by_cases h0:p.width ws=0
 ·have hn:apsO p ws l=none:=by simp [apsO,h0]
  rw [Pn.cells_eq p] at c1 ⊢
  simp [c1,h0,hn,apR,Pn.zero,Pn.cells,Ex.cellsL,intsL,Pn.cellsL]
 obtain ⟨hw,hp8⟩:=width_ok2 h0
 by_cases h4:(40:Int) < l.length
 ·have hn:apsO p ws l=none:=by
   unfold apsO; rw [if_pos (.inr (by omega))]
  rw [Pn.cells_eq p] at c1 ⊢
  simp [c1,h0,h4,hn,apR,Pn.zero,Pn.cells,Ex.cellsL,intsL,Pn.cellsL]
 have c2:=copied_small hp8
 obtain ⟨j,x,hj,h1,h2,h3⟩:=aps_upto ws p l
 have hne:apsO p ws l=aps ws l p:=by unfold apsO; rw [if_neg (by omega)]
 rw [hne]
 rw [Pn.cells_eq p] at c1 c2
 rw [Pn.cells_eq p]
 simp [c1,h0,h4,c2]
 rw [loop_to (ASX p ws l) j (by simp [ASX,zpB,boxP,aps,Pn.cells_eq p])]
 ·rw [execA_loop]
  rcases h3 with ⟨rfl,h3⟩ | ⟨s,q1,q2,q3⟩
  ·rw [h3]
   simp only [ASX,h2,Option.getD_some,zpB,boxP,stB]
   by_cases hi0:l.length=0
   ·simp [hi0,apR,Pn.cells_eq p,Pn.cells_eq x]
   ·simp [hi0,jk_pos hi0,jkL_pos hi0,jA_pos hi0,apR,Pn.cells_eq p,Pn.cells_eq x]
  ·have hjl:=(List.getElem?_eq_some_iff.1 q1).1
   have r1:=stpsL_nth q1
   have e5:=ea x s.1 s.2
   rw [q2] at e5
   rw [q3]
   simp only [stpC] at r1
   simp only [ASX,h2,Option.getD_some,zpB,boxP,stB]
   rw [Pn.cells_eq x] at e5
   simp [apR,Pn.zero,Pn.cells,Ex.cellsL,intsL,Pn.cellsL] at e5
   by_cases hi0:j=0
   ·subst hi0
    simp [hjl,r1,e5,apR,Pn.cells_eq p,Pn.cells_eq x,Pn.zero,Pn.cells,Ex.cellsL,intsL,Pn.cellsL]
   ·simp [hi0,jk_pos hi0,jkL_pos hi0,jA_pos hi0,hjl,r1,e5,apR,Pn.cells_eq p,Pn.cells_eq x,Pn.zero,Pn.cells,Ex.cellsL,intsL,Pn.cellsL]
 ·intro i hi
  obtain ⟨y,hy⟩:=h1 i (by omega)
  obtain ⟨y',hy'⟩:=h1 (i + 1) (by omega)
  have hil:i < l.length:=by omega
  have q1:=List.getElem?_eq_getElem hil
  have q2:l[i + 1 - 1]?=some l[i]:=by simp [q1]
  generalize l[i]=s at q1 q2
  have r1:=stpsL_nth q1
  simp only [stpC] at r1
  have hs:apO y ws s.1 s.2=some y':=by
   rw [List.take_add_one,q1] at hy'
   simp only [Option.toList_some] at hy'
   rw [aps_snoc,hy] at hy'
   exact hy'
  have e5:=ea y s.1 s.2
  rw [hs] at e5
  have w2:IntKind.i64.wrap ((i:Int) + 1)=i + 1:=wrap64 (by omega) (by omega)
  simp only [ASX,hy,hy',Option.getD_some,zpB,boxP,stB,q2]
  rw [Pn.cells_eq y] at e5
  simp [apR,Pn.cells_eq y'] at e5
  by_cases hi0:i=0
  ·subst hi0
   simp [hil,r1,e5,w2,Pn.cells_eq p]
  ·simp [hi0,jk_pos hi0,jkL_pos hi0,jA_pos hi0,hil,r1,e5,w2,Pn.cells_eq p]
theorem stpsL_len (l:List Stp):(stpsL l).length=l.length:=by simp [stpsL]
def SPXs (p:Pn) (ws:List Int) (l:List Stp) (i:Nat):AS :=
 {env:=[(0, .i (.agg p.cells)),(1, .i (.isl (intsL ws))),(2, .i (.isl (stpsL l))),(3, .own 0 0),(6, .own 1 0),(7, .bool false),(8, .own 2 0),(9, .int i),(10,jA i (.own 3 0)),(11,jk i (.bool true)),(20, .bool false),(27,jk i (.bool true)),(41,jk i (.bool false))],
  st:=[boxP p,zpB,boxP ((aps ws (l.take i) p).getD Pn.zero)] ++ jkL i [boxP ((aps ws (l.take i) p).getD Pn.zero)] }
theorem sApplySteps_eq (p:Pn) (hp:p.thin) (ws:List Int) (hl:ws.length < 1000000000) (l:List Stp) (hpl:∀ s∈l,s.2.length < 1000000000):callA CA 22 [.i (.agg p.cells), .i (.isl (intsL ws)), .i (.isl (stpsL l))] []=some (apR (apsO p ws l)):=by
 have c1:=widthOf_eq p (Pn.thin_lim p hp) ws (by omega)
 rw [callA_eq rfl Tryz.func22 rfl rfl]
 by_cases h0:p.width ws=0
 ·have hn:apsO p ws l=none:=by simp [apsO,h0]
  rw [Pn.cells_eq p] at c1 ⊢
  simp [c1,h0,hn,apR,Pn.zero,Pn.cells,Ex.cellsL,intsL,Pn.cellsL]
 obtain ⟨hw,hp8⟩:=width_ok2 h0
 by_cases h4:(40:Int) < l.length
 ·have hn:apsO p ws l=none:=by
   unfold apsO; rw [if_pos (.inr (by omega))]
  rw [Pn.cells_eq p] at c1 ⊢
  simp [c1,h0,h4,hn,apR,Pn.zero,Pn.cells,Ex.cellsL,intsL,Pn.cellsL]
 have c2:=ca_copyPlan hp
 obtain ⟨j,x,hj,h1,h2,h3⟩:=aps_upto ws p l
 have hne:apsO p ws l=aps ws l p:=by unfold apsO; rw [if_neg (by omega)]
 have hth:∀ i y,aps ws (l.take i) p=some y→y.thin:=fun i y h=>wd_thin y 8 ((aps_width _ _ _ h).2.2 h0)
 rw [hne]
 rw [Pn.cells_eq p] at c1 c2
 rw [Pn.cells_eq p]
 simp [c1,h0,h4,c2]
 rw [loop_to (SPXs p ws l) j (by simp [SPXs,zpB,boxP,aps,Pn.cells_eq p])]
 ·rw [execA_loop]
  rcases h3 with ⟨rfl,h3⟩ | ⟨s,q1,q2,q3⟩
  ·rw [h3]
   simp only [SPXs,h2,Option.getD_some,zpB,boxP]
   by_cases hi0:l.length=0
   ·simp [hi0,apR,Pn.cells_eq p,Pn.cells_eq x]
   ·simp [hi0,jk_pos hi0,jkL_pos hi0,jA_pos hi0,apR,Pn.cells_eq p,Pn.cells_eq x]
  ·have hjl:=(List.getElem?_eq_some_iff.1 q1).1
   have r1:=stpsL_nth q1
   have e5:=sApplyStep_eq x (hth j x h2) ws (by omega) s.1 s.2 (hpl s (List.mem_of_getElem? q1))
   rw [q2] at e5
   rw [q3]
   simp only [stpC] at r1
   simp only [SPXs,h2,Option.getD_some,zpB,boxP]
   rw [Pn.cells_eq x] at e5
   simp [apR,Pn.zero,Pn.cells,Ex.cellsL,intsL,Pn.cellsL] at e5
   by_cases hi0:j=0
   ·subst hi0
    simp [hjl,r1,e5,apR,Pn.cells_eq p,Pn.cells_eq x,Pn.zero,Pn.cells,Ex.cellsL,intsL,Pn.cellsL]
   ·simp [hi0,jk_pos hi0,jkL_pos hi0,jA_pos hi0,hjl,r1,e5,apR,Pn.cells_eq p,Pn.cells_eq x,Pn.zero,Pn.cells,Ex.cellsL,intsL,Pn.cellsL]
 ·intro i hi
  obtain ⟨y,hy⟩:=h1 i (by omega)
  obtain ⟨y',hy'⟩:=h1 (i + 1) (by omega)
  have hil:i < l.length:=by omega
  have q1:=List.getElem?_eq_getElem hil
  generalize l[i]=s at q1
  have r1:=stpsL_nth q1
  simp only [stpC] at r1
  have hs:apO y ws s.1 s.2=some y':=by
   rw [List.take_add_one,q1] at hy'
   simp only [Option.toList_some] at hy'
   rw [aps_snoc,hy] at hy'
   exact hy'
  have e5:=sApplyStep_eq y (hth i y hy) ws (by omega) s.1 s.2 (hpl s (List.mem_of_getElem? q1))
  rw [hs] at e5
  have w2:IntKind.i64.wrap ((i:Int) + 1)=i + 1:=wrap64 (by omega) (by omega)
  simp only [SPXs,hy,hy',Option.getD_some,zpB,boxP]
  rw [Pn.cells_eq y] at e5
  simp [apR,Pn.cells_eq y'] at e5
  by_cases hi0:i=0
  ·subst hi0
   simp [hil,r1,e5,w2,Pn.cells_eq p]
  ·simp [hi0,jk_pos hi0,jkL_pos hi0,jA_pos hi0,hil,r1,e5,w2,Pn.cells_eq p]
def ckO (p q:Pn) (ws:List Int) (l:List Stp):Bool:=match apsO p ws l with
 | some x=>x.eqb q
 | none=>false
theorem apsO_thin {p x:Pn} {ws:List Int} {l:List Stp} (h:apsO p ws l=some x):x.thin∧p.width ws≠0∧x.width ws=p.width ws∧l.length≤40∧aps ws l p=some x:=by
 unfold apsO at h
 split at h
 ·cases h
 rename_i hn
 have hn1:p.width ws≠0:=fun h=>hn (.inl h)
 obtain ⟨h1,h2,h3⟩:=aps_width _ _ _ h
 exact ⟨wd_thin x 8 (h3 hn1),hn1,h1,by omega,h⟩
theorem CheckRewrite_eq (p q : Pn) (ws : List Int) (l : List Stp) : callA CA 45 [.i (.agg p.cells), .i (.agg q.cells), .i (.isl (intsL ws)), .i (.isl (stpsL l))] [] = some (.bool (ckO p q ws l), []) := by
  have c1 := ApplySteps_eq p ws l
  rw [callA_eq rfl Tryz.func45 rfl rfl]
  unfold ckO
  cases h : apsO p ws l with
  | none =>
    rw [h] at c1
    rw [Pn.cells_eq p, Pn.cells_eq q] at *
    simp [apR, Pn.zero, Pn.cells, Ex.cellsL, intsL, Pn.cellsL] at c1
    simp [c1]
  | some x =>
    rw [h] at c1
    have c2 := equalP_eq x (apsO_thin h).1 q
    rw [Pn.cells_eq p] at c1 ⊢
    rw [Pn.cells_eq q, Pn.cells_eq x] at c2
    rw [Pn.cells_eq q]
    simp [apR, Pn.cells_eq x] at c1
    simp [c1, c2]
theorem sCheckRewrite_eq (p : Pn) (hp : p.thin) (q : Pn) (ws : List Int) (hl : ws.length < 1000000000) (l : List Stp) (hpl : ∀ s ∈ l, s.2.length < 1000000000) : callA CA 43 [.i (.agg p.cells), .i (.agg q.cells), .i (.isl (intsL ws)), .i (.isl (stpsL l))] [] = some (.bool (ckO p q ws l), []) := by
  have c1 := sApplySteps_eq p hp ws hl l hpl
  rw [callA_eq rfl Tryz.func43 rfl rfl]
  unfold ckO
  cases h : apsO p ws l with
  | none =>
    rw [h] at c1
    rw [Pn.cells_eq p, Pn.cells_eq q] at *
    simp [apR, Pn.zero, Pn.cells, Ex.cellsL, intsL, Pn.cellsL] at c1
    simp [c1]
  | some x =>
    rw [h] at c1
    have c2 := sequalP_eq x (apsO_thin h).1 q
    rw [Pn.cells_eq p] at c1 ⊢
    rw [Pn.cells_eq q, Pn.cells_eq x] at c2
    rw [Pn.cells_eq q]
    simp [apR, Pn.cells_eq x] at c1
    simp [c1, c2]
end Go.Proofs.YtjcjpbjpbbdnlaaGreat.P

namespace Go.Proofs.YtjcjpbjpbbdnlaaGreat.P
open Go Go.Av
set_option maxRecDepth 4000
set_option maxHeartbeats 4000000
theorem scan_part {p:Pn} {b:Bool} {t:Int}:callA C0 112 [.i (.iref p.cells), .own 0 0, .own 1 0] [some (.box [.bool b]),some (.box [.int t])]=some (.tup [],[some (.box [.bool (b || p.hit t)]),some (.box [.int t])]):=by
 rw [callA_eq rfl Tryz.func112 rfl rfl,Pn.cells_eq]
 unfold Pn.hit
 cases b
 ·by_cases h1:p.kind=1
  ·by_cases h2:p.table=t
   ·simp [h1,h2]
   ·simp [h1,h2]
  ·simp [h1]
 ·simp
def SPX (p:Pn) (b:Bool) (t:Int) (i:Nat):AS :=
 {env:=[(0, .i (.iref [.int p.kind, .int p.table, .isl (Ex.cellsL p.exprs), .isl (intsL p.cols), .isl (Pn.cellsL p.kids)])),(1, .fn (.func 112) [.own 0 0, .own 1 0]),(4,jk i (.int (i - 1))),(12, .int p.kids.length),(13, .int i),(14,jk i (.bool true))],
  st:=[some (.box [.bool ((b || p.hit t) || scPL t (p.kids.take i))]),some (.box [.int t])] }
theorem eachScan_eq : ∀ (p : Pn), p.thin → ∀ (b : Bool) (t : Int), callA C0 111 [.i (.iref p.cells), .fn (.func 112) [.own 0 0, .own 1 0]] [some (.box [.bool b]), some (.box [.int t])] = some (.tup [], [some (.box [.bool (b || scP t p)]), some (.box [.int t])]) := by
  intro p
  induction p using Pn.ind with
  | h k tb es cs ks ih =>
    intro ht b t
    generalize hp : Pn.mk k tb es cs ks = p at *
    have hks : ks = p.kids := by rw [← hp]; rfl
    subst hks
    obtain ⟨t1, t2, t3, t4, t5⟩ := (Pn.thin_iff _).1 ht
    have hone := scan_part (p := p) (b := b) (t := t)
    rw [callA_eq rfl Tryz.func111 rfl rfl, scP_eq]
    rw [Pn.cells_eq] at hone ⊢
    simp [hone]
    rw [loop_to (SPX p b t) p.kids.length (by simp [SPX, scPL])]
    · rw [execA_loop]
      simp [SPX, Bool.or_assoc]
    · intro i hi
      have h3 := List.getElem?_eq_getElem hi
      have hm := List.mem_of_getElem? h3
      have r2 := Pn.cellsL_nth h3
      have htk := take_snoc h3
      generalize p.kids[i] = a at h3 hm r2 htk
      have hk := ih a hm (t5 a hm) ((b || p.hit t) || scPL t (p.kids.take i)) t
      have w2 : IntKind.i64.wrap ((i : Int) + 1) = i + 1 := wrap64 (by omega) (by omega)
      rw [Pn.cells_eq a] at r2 hk
      by_cases h0 : i = 0
      · subst h0; simp [scPL] at hk; simp [SPX, hi, r2, hk, wrap_1, htk, scPL_snoc, scPL, Bool.or_assoc]
      · simp only [Bool.or_assoc] at hk; simp [SPX, jk_pos h0, hi, r2, hk, w2, htk, scPL_snoc, Bool.or_assoc]
theorem scans_eq (p:Pn) (hp:p.thin) (t:Int):callA C0 61 [.i (.iref p.cells), .int t] []=some (.bool (scP t p),[]):=by
 have h:=eachScan_eq p hp false t
 rw [callA_eq rfl Tryz.func61 rfl rfl]
 rw [Pn.cells_eq] at h ⊢
 simp at h
 simp [h]
end Go.Proofs.YtjcjpbjpbbdnlaaGreat.P

namespace Go.Proofs.YtjcjpbjpbbdnlaaGreat.P
open Go Go.Av
set_option maxRecDepth 4000
set_option maxHeartbeats 4000000
def TBX (p:Pn) (ws:List Int) (i:Nat):AS :=
 {env:=[(0, .i (.agg [.int p.kind, .int p.table, .isl (Ex.cellsL p.exprs), .isl (intsL p.cols), .isl (Pn.cellsL p.kids)])),(1, .i (.isl (intsL ws))),(2, .own 0 0),(4, .nils),(5,gro 1 1 (tabsN p i).length),(6,jk i (.int (i - 1))),(10, .bool false),(12, .int ws.length),(13, .int i),(14,jk i (.bool true)),(17,jk i (.bool (scP ((i:Int) - 1) p)))],
  st:=(if i=0 then some (.box (impI p.cells)) else some (.fbox p.cells)) :: groB 1 (intsL (tabsN p i)) (tabsN p i).length }
theorem tables_eq (p : Pn) (hp : p.thin) (ws : List Int) (hl : ws.length < 1000) (hw : p.width ws ≠ 0) : callA C0 19 [.i (.agg p.cells), .i (.isl (intsL ws))] [] = some (.i (.isl (intsL (tabsN p ws.length))), []) := by
  have e1 := planWidth_eq p ws
  rw [callA_eq rfl Tryz.func19 rfl rfl]
  rw [Pn.cells_eq] at *
  simp [e1, hw]
  rw [loop_to (TBX p ws) ws.length (by simp [TBX, tabsN, Pn.cells_eq, hw])]
  · rw [execA_loop]
    by_cases h0 : ws.length = 0
    · simp [TBX, h0, tabsN, intsL]
    · by_cases hm : (tabsN p ws.length).length = 0
      · have := List.length_eq_zero_iff.1 hm
        simp [TBX, this, intsL, h0]
      · simp [TBX, h0, gro_pos hm, groB_pos hm]
  · intro i hi
    have hs := scans_eq p hp i
    have w2 : IntKind.i64.wrap ((i : Int) + 1) = i + 1 := wrap64 (by omega) (by omega)
    have hlen := tabsN_len (p := p) (n := i)
    rw [Pn.cells_eq] at hs
    cases hsc : scP (i : Int) p with
    | false =>
      rw [hsc] at hs
      have ht : tabsN p (i + 1) = tabsN p i := by simp [tabsN, hsc]
      by_cases hm : (tabsN p i).length = 0
      · by_cases h0 : i = 0
        · subst h0; simp at hs hsc; simp [TBX, hi, hs, ht, wrap_1, hsc, Pn.cells_eq, tabsN]
        · have := List.length_eq_zero_iff.1 hm
          simp [TBX, hi, hs, ht, w2, hsc, Pn.cells_eq, jk_pos h0, this, h0]
      · have h0 : i ≠ 0 := fun e => by subst e; simp [tabsN] at hm
        simp [TBX, hi, hs, ht, w2, hsc, Pn.cells_eq, jk_pos h0, h0, gro_pos hm, groB_pos hm]
    | true =>
      rw [hsc] at hs
      have ht : tabsN p (i + 1) = tabsN p i ++ [(i : Int)] := by simp [tabsN, hsc]
      by_cases hm : (tabsN p i).length = 0
      · have hz := List.length_eq_zero_iff.1 hm
        by_cases h0 : i = 0
        · subst h0; simp at hs hsc; simp [TBX, hi, hs, ht, wrap_1, hsc, Pn.cells_eq, tabsN, intsL]
        · simp [TBX, hi, hs, ht, w2, hsc, Pn.cells_eq, jk_pos h0, hz, h0, intsL]
      · have h0 : i ≠ 0 := fun e => by subst e; simp [tabsN] at hm
        have hl1 : ((tabsN p i).length + 1) * 8 ≤ 140737488355328 := by omega
        simp [TBX, hi, hs, ht, w2, hsc, Pn.cells_eq, jk_pos h0, h0, gro_pos hm, groB_pos hm, intsL_snoc, hl1]
end Go.Proofs.YtjcjpbjpbbdnlaaGreat.P

namespace Go.Av
theorem seq_ex {α : Type} (n : Nat) (P : Nat → α → Prop) (R : α → α → Prop) (h : ∀ i a, i < n → P i a → ∃ b, P (i + 1) b ∧ R a b) (a0 : α) (h0 : P 0 a0) : ∃ f : Nat → α, f 0 = a0 ∧ (∀ i, i ≤ n → P i (f i)) ∧ ∀ i, i < n → R (f i) (f (i + 1)) := by
  induction n with
  | zero =>
    refine ⟨fun _ => a0, rfl, fun i hi => ?_, fun i hi => by omega⟩
    obtain rfl : i = 0 := by omega
    exact h0
  | succ n ih =>
    obtain ⟨f, f0, f1, f2⟩ := ih fun i a hi => h i a (by omega)
    obtain ⟨b, hb1, hb2⟩ := h n (f n) (by omega) (f1 n (Nat.le_refl _))
    refine ⟨fun i => if i ≤ n then f i else b, by simp [f0], fun i hi => ?_, fun i hi => ?_⟩
    · by_cases hin : i ≤ n
      · simp only [hin, if_true]; exact f1 i hin
      · obtain rfl : i = n + 1 := by omega
        simp only [hin, if_false]; exact hb1
    · by_cases hin : i + 1 ≤ n
      · simp only [hin, if_true, show i ≤ n by omega]; exact f2 i (by omega)
      · obtain rfl : i = n := by omega
        simp only [hin, if_false, Nat.le_refl, if_true]; exact hb2
end Go.Av
namespace Go.Proofs.YtjcjpbjpbbdnlaaGreat.P
open Go Go.Av
set_option maxRecDepth 4000
set_option maxHeartbeats 4000000
@[simp] theorem ca_newReader (a:List AV) (st:StL):callA CA 50 a st=callA C0 50 a st:=by rw [callA_prim (p:=callA C0 50) rfl]
@[simp] theorem ca_pick (a:List AV) (st:StL):callA CA 76 a st=callA C0 76 a st:=by rw [callA_prim (p:=callA C0 76) rfl]
structure SSt where
 q:Pn
 L:List Stp
 p:Int
 b:Bool
def SSX (l:List UInt8) (P:Pn) (ws:List Int) (n:Nat) (f:Nat→SSt) (i:Nat):AS :=
 {env:=[(0, .own 0 0),(2, .own 1 0),(3, .nils),(4, .nils),(5, .own 2 0),(6, .i (.isl (intsL ws))),(7, .osl 3 2 0 (f i).L.length),(8, .own 4 0),(9, .int ((n - i:Nat):Int)),(10,jA i (.own 5 0)),(11,jA i (.own 6 0)),(12,jk i (.bool (f i).b)),(23,jk i (.bool true)),(41,jk i (.bool (f i).b))],
  st:=[Rd l (f i).p,zpB,boxP P,some (.arr 2 (stpsL (f i).L)),boxP (f i).q] ++ jkL i [stB (((f i).L.getLast?).getD (0,[])),boxP (getP (apO (f (i - 1)).q ws (((f i).L.getLast?).getD (0,[])).1 (((f i).L.getLast?).getD (0,[])).2))] }
theorem someSteps_eq {l : List UInt8} (hl : l.length ≤ 2000) : ∃ (P : Pn) (ws : List Int) (L : List Stp) (p' : Int), callA CA 62 [.own 0 0] [Rd l 0] = some (.tup [.i (.agg P.cells), .i (.isl (intsL ws)), .i (.isl (stpsL L))], [Rd l p']) ∧ P.thin ∧ ws.length ≤ 3 ∧ L.length ≤ 3 ∧ (∀ s ∈ L, s.2.length ≤ 8) ∧ 0 ≤ p' ∧ p' ≤ 41000 := by
  obtain ⟨P, ws, p1, h, h1, h2, h3, h4⟩ := planAndWidths_eq hl
  obtain ⟨n, hn, hn1, -⟩ := pick_eq l p1 4 h3 (by omega) hl
  obtain ⟨n0, n1⟩ := hn1 (by omega)
  obtain ⟨n, rfl⟩ := Int.eq_ofNat_of_zero_le n0
  obtain ⟨f, f0, f1, f2⟩ := seq_ex (α := SSt) n (fun i a => a.q.thin ∧ p1 + 1 ≤ a.p ∧ a.p ≤ p1 + 1 + 8 * i ∧ a.L.length = i ∧ ∀ s ∈ a.L, s.2.length ≤ 8)
    (fun a c => ∃ s : Stp, callA CR 52 [.own 0 0, .i (.agg a.q.cells), .i (.isl (intsL ws))] [Rd l a.p] = some (.i (.agg [.int s.1, .isl (intsL s.2)]), [Rd l c.p]) ∧ c.L = a.L ++ [s] ∧ c.q = (apO a.q ws s.1 s.2).getD a.q ∧ c.b = (apO a.q ws s.1 s.2).isSome ∧ s.2.length ≤ 8)
    (by
      rintro i ⟨q, L, p, b⟩ hi ⟨g1, g2, g3, g4, g5⟩
      simp only at g1 g2 g3 g4 g5
      obtain ⟨r, path, p2, e1, e2, e3, e4⟩ := someStep_eq hl g1 (ws := ws) (by omega) p (by omega) (by omega)
      refine ⟨⟨(apO q ws r path).getD q, L ++ [(r, path)], p2, (apO q ws r path).isSome⟩, ⟨?_, by simp only; omega, by simp only; omega, by simp [g4], ?_⟩, ⟨(r, path), e1, rfl, rfl, rfl, e2⟩⟩
      · cases hx : apO q ws r path with
        | none => exact g1
        | some x => exact (apO_thin hx).1
      · intro s hs
        rcases List.mem_append.1 hs with hs | hs
        · exact g5 s hs
        · simp at hs; subst hs; exact e2) ⟨P, [], p1 + 1, false⟩ ⟨h1, by simp, by simp, rfl, by simp⟩
  obtain ⟨-, k2, k3, k4, k5⟩ := f1 n (Nat.le_refl _)
  refine ⟨P, ws, (f n).L, (f n).p, ?_, h1, h2, by omega, k5, by omega, by omega⟩
  rw [callA_eq rfl Tryz.func62 rfl rfl]
  have hbP : boxP P = boxP P := rfl
  rw [Pn.cells_eq P] at h ⊢
  simp [h, hn]
  rw [loop_to (SSX l P ws n f) n (by simp [SSX, f0, zpB, boxP, stpsL])]
  · rw [execA_loop]
    simp only [SSX, zpB, boxP, stB, Nat.sub_self]
    by_cases hi0 : n = 0
    · subst hi0
      have ht : List.take (f 0).L.length (stpsL (f 0).L) = stpsL (f 0).L := List.take_of_length_le (by simp [stpsL])
      simp [f0, stpsL]
    · have ht : List.take (f n).L.length (stpsL (f n).L) = stpsL (f n).L := List.take_of_length_le (by simp [stpsL])
      simp [hi0, jk_pos hi0, jkL_pos hi0, jA_pos hi0, ht, stpsL_len]
  · intro i hi
    obtain ⟨s, e1, e2, e3, e4, e5⟩ := f2 i hi
    obtain ⟨g1, g2, g3, g4, g5⟩ := f1 i (by omega)
    have e6 := sApplyStep_eq (f i).q g1 ws (by omega) s.1 s.2 (by omega)
    have hgl : ((f (i + 1)).L.getLast?).getD (0, []) = s := by rw [e2]; simp
    have hS : stpsL (f i).L ++ [[.int s.1, .isl (intsL s.2)]] = stpsL (f (i + 1)).L := by rw [e2, stpsL_append]; rfl
    have ht : List.take (f i).L.length (stpsL (f i).L) = stpsL (f i).L := List.take_of_length_le (by simp [stpsL])
    have hln : (f (i + 1)).L.length = (f i).L.length + 1 := by rw [e2]; simp
    have hlb : ((f i).L.length + 1) * 32 ≤ 140737488355328 := by omega
    have w2 : IntKind.i64.wrap (((n - i : Nat) : Int) - 1) = ((n - (i + 1) : Nat) : Int) := by rw [wrap64 (by omega) (by omega)]; omega
    have hpos : i < n := hi
    have hp2 : 0 < n - i := by omega
    have z1 : Pn.zero.kind = 0 := rfl
    have z2 : Pn.zero.table = 0 := rfl
    have z3 : Ex.cellsL Pn.zero.exprs = [] := by simp [Pn.zero, Pn.exprs, Ex.cellsL]
    have z4 : intsL Pn.zero.cols = [] := by simp [Pn.zero, Pn.cols, intsL]
    have z5 : Pn.cellsL Pn.zero.kids = [] := by simp [Pn.zero, Pn.kids, Pn.cellsL]
    rw [Pn.cells_eq (f i).q] at e1 e6
    simp only [SSX, zpB, boxP, hgl, hln, Nat.add_sub_cancel]
    cases ho : apO (f i).q ws s.1 s.2 with
    | none =>
      rw [ho] at e6 e3 e4
      simp [apR, Pn.zero, Pn.cells, Ex.cellsL, intsL, Pn.cellsL] at e6
      simp only [Option.getD_none] at e3
      simp only [Option.isSome_none] at e4
      rw [e3, e4]
      by_cases hi0 : i = 0
      · subst hi0
        simp only [Nat.sub_zero, Nat.zero_add] at w2
        simp [hpos, e1, e6, ht, hS, hlb, w2, stB, getP, z1, z2, z3, z4, z5, hp2, stpsL_len]
      · simp [hpos, hi0, jk_pos hi0, jkL_pos hi0, jA_pos hi0, e1, e6, ht, hS, hlb, w2, stB, getP, z1, z2, z3, z4, z5, hp2, stpsL_len]
    | some x =>
      rw [ho] at e6 e3 e4
      simp [apR, Pn.cells_eq x] at e6
      simp only [Option.getD_some] at e3
      simp only [Option.isSome_some] at e4
      rw [e3, e4]
      by_cases hi0 : i = 0
      · subst hi0
        simp only [Nat.sub_zero, Nat.zero_add] at w2
        simp [hpos, e1, e6, ht, hS, hlb, w2, stB, getP, hp2, stpsL_len]
      · simp [hpos, hi0, jk_pos hi0, jkL_pos hi0, jA_pos hi0, e1, e6, ht, hS, hlb, w2, stB, getP, hp2, stpsL_len]
end Go.Proofs.YtjcjpbjpbbdnlaaGreat.P

namespace Go.Proofs.YtjcjpbjpbbdnlaaGreat.P
open Go Go.Av
set_option maxRecDepth 4000
set_option maxHeartbeats 4000000
theorem law_stepWidth (code : List UInt8) : callA CA 3 [.i (.isl (bytesI code))] [] = some (.bool true, []) := by
  rw [callA_eq rfl Tryz.func3 rfl rfl]
  by_cases hl : (code.length : Int) > 1048576
  · simp [bytesI_length, hl, show ((1048576 : Int) < code.length) from hl]
  obtain ⟨p, ws, r, path, hd, hp, hws, hpl⟩ := drawApply_eq code
  have e1 := ca_ApplyStep p ws r path
  have e2 := sApplyStep_eq p hp ws (by omega) r path (by omega)
  cases h1 : apO p ws r path with
  | none =>
    rw [h1] at e1 e2
    have e5 := equalPlans_eq Pn.zero Pn.zero_thin Pn.zero
    rw [Pn.eqb_refl] at e5
    simp only [Pn.cells_eq p] at *
    simp [apR, Pn.zero, Pn.cells, Ex.cellsL, intsL, Pn.cellsL] at e1 e2 e5
    simp [bytesI_length, hl, hd, e1, e2, e5]
  | some q =>
    rw [h1] at e1 e2
    obtain ⟨hq, h0, hw⟩ := apO_thin h1
    have e5 := equalPlans_eq q hq q
    rw [Pn.eqb_refl] at e5
    have c1 := planWidth_eq p ws
    have c2 := planWidth_eq q ws
    rw [hw] at c2
    have t1 := tables_eq p hp ws (by omega) h0
    have t2 := tables_eq q hq ws (by omega) (by rw [hw]; exact h0)
    rw [tabsN_sc (apO_sc h1)] at t2
    have t3 := equalInts_eq (l := tabsN p ws.length) (m := tabsN p ws.length) (by have := tabsN_len (p := p) (n := ws.length); omega)
    rw [beq_self_eq_true] at t3
    simp only [Pn.cells_eq p, Pn.cells_eq q] at *
    simp [apR, Pn.cells_eq q] at e1 e2 e5
    simp [bytesI_length, hl, hd, e1, e2, e5, c1, c2, t1, t2, t3]
theorem drawSteps2_eq (code:List UInt8):∃ (P:Pn) (ws:List Int) (L:List Stp),callA CA 20 [.i (.isl (bytesI code))] []=some (.tup [.i (.agg P.cells), .i (.isl (intsL ws)), .i (.isl (stpsL L))],[])∧P.thin∧ws.length≤3∧L.length≤3∧∀ s∈L,s.2.length≤8:=by
 obtain ⟨c,hc,hr⟩:=newReader_eq code
 obtain ⟨P,ws,L,p',h,h1,h2,h3,h4,_,_⟩:=someSteps_eq hc
 refine ⟨P,ws,L,?_,h1,h2,h3,h4⟩
 rw [callA_eq rfl Tryz.func20 rfl rfl]
 rw [Pn.cells_eq P] at *
 simp [hr,h]
theorem stpsL_take (l:List Stp) (k:Nat):stpsL (l.take k)=(stpsL l).take k:=by simp [stpsL,List.map_take]
theorem stpsL_drop (l:List Stp) (k:Nat):stpsL (l.drop k)=(stpsL l).drop k:=by simp [stpsL,List.map_drop]
theorem stpsL_widths (l:List Stp):widths 2 (stpsL l)=true:=by
 unfold widths stpsL
 simp [stpC]
theorem law_applySteps (code more : List UInt8) : callA CA 4 [.i (.isl (bytesI code)), .i (.isl (bytesI more))] [] = some (.bool true, []) := by
  rw [callA_eq rfl Tryz.func4 rfl rfl]
  by_cases hl : (1048576 : Int) < code.length
  · simp [bytesI_length, hl]
  by_cases hm : (1048576 : Int) < more.length
  · simp [bytesI_length, hl, hm]
  obtain ⟨p, ws, L, hd, hp, hws, hL, hs8⟩ := drawSteps2_eq code
  have e1 := ApplySteps_eq p ws L
  have e2 := sApplySteps_eq p hp ws (by omega) L (fun s hs => by have := hs8 s hs; omega)
  cases h1 : apsO p ws L with
  | none =>
    rw [h1] at e1 e2
    have e5 := equalPlans_eq Pn.zero Pn.zero_thin Pn.zero
    rw [Pn.eqb_refl] at e5
    simp only [Pn.cells_eq p] at *
    simp [apR, Pn.zero, Pn.cells, Ex.cellsL, intsL, Pn.cellsL] at e1 e2 e5
    simp [bytesI_length, hl, hm, hd, e1, e2, e5]
  | some q =>
    rw [h1] at e1 e2
    obtain ⟨hq, h0, hw, _⟩ := apsO_thin h1
    have e5 := equalPlans_eq q hq q
    rw [Pn.eqb_refl] at e5
    have w1 : IntKind.i64.wrap ((L.length : Int) + 1) = L.length + 1 := wrap64 (by omega) (by omega)
    have hmod : ((more.length : Int)).tmod ((L.length : Int) + 1) = ((more.length % (L.length + 1) : Nat) : Int) := by
      rw [show ((L.length : Int) + 1) = ((L.length + 1 : Nat) : Int) by simp, Int.ofNat_tmod]
    have hk : more.length % (L.length + 1) ≤ L.length := by have := Nat.mod_lt more.length (show 0 < L.length + 1 by omega); omega
    have hnz : ((L.length : Int) + 1 != 0) = true := by
      rw [bne_iff_ne]; omega
    generalize more.length % (L.length + 1) = k at hmod hk
    obtain ⟨a, ha, hb⟩ := apsO_split h1 k
    have e6 := ApplySteps_eq p ws (L.take k)
    have e7 := ApplySteps_eq a ws (L.drop k)
    rw [ha, stpsL_take] at e6
    rw [hb, stpsL_drop] at e7
    have hwd := stpsL_widths L
    have hwin2 : List.take (L.length - k) (List.drop k (stpsL L)) = (stpsL L).drop k := List.take_of_length_le (by rw [List.length_drop, stpsL_len]; omega)
    simp only [Pn.cells_eq p, Pn.cells_eq q, Pn.cells_eq a] at *
    simp [apR, Pn.cells_eq q] at e1 e2 e5
    simp [apR, Pn.cells_eq a] at e6
    simp [apR, Pn.cells_eq q] at e7
    simp [bytesI_length, hl, hm, hd, e1, e2, e5, w1, hmod, hk, hnz, hwd, stpsL_len, hwin2, e6, e7]
theorem drawCheck_eq (code : List UInt8) : ∃ (P Q : Pn) (ws : List Int) (L : List Stp), callA CA 48 [.i (.isl (bytesI code))] [] = some (.tup [.i (.agg P.cells), .i (.agg Q.cells), .i (.isl (intsL ws)), .i (.isl (stpsL L))], []) ∧ P.thin ∧ Q.thin ∧ ws.length ≤ 3 ∧ L.length ≤ 3 ∧ ∀ s ∈ L, s.2.length ≤ 8 := by
  obtain ⟨c, hc, hr⟩ := newReader_eq code
  obtain ⟨P, ws, L, p', h, h1, h2, h3, h4, h5, h6⟩ := someSteps_eq hc
  obtain ⟨k, hk, -, -⟩ := pick_eq c p' 5 h5 (by omega) hc
  have e2 := sApplySteps_eq P h1 ws (by omega) L (fun s hs => by have := h4 s hs; omega)
  have e3 := ca_copyPlan h1
  cases ha : apsO P ws L with
  | none =>
    rw [ha] at e2
    refine ⟨P, P, ws, L, ?_, h1, h1, h2, h3, h4⟩
    rw [callA_eq rfl Tryz.func48 rfl rfl]
    rw [Pn.cells_eq P] at *
    simp [apR, Pn.zero, Pn.cells, Ex.cellsL, intsL, Pn.cellsL] at e2
    simp [hr, h, e2, e3]
  | some x =>
    rw [ha] at e2
    by_cases hk0 : k = 0
    · refine ⟨P, P, ws, L, ?_, h1, h1, h2, h3, h4⟩
      rw [callA_eq rfl Tryz.func48 rfl rfl]
      rw [Pn.cells_eq P] at *
      simp [apR, Pn.cells_eq x] at e2
      simp [hr, h, e2, e3, hk, hk0]
    · refine ⟨P, x, ws, L, ?_, h1, (apsO_thin ha).1, h2, h3, h4⟩
      rw [callA_eq rfl Tryz.func48 rfl rfl]
      rw [Pn.cells_eq P, Pn.cells_eq x] at *
      simp [apR, Pn.cells_eq x] at e2
      simp [hr, h, e2, hk, hk0]
theorem law_checkRewrite (code : List UInt8) : callA CA 11 [.i (.isl (bytesI code))] [] = some (.bool true, []) := by
  rw [callA_eq rfl Tryz.func11 rfl rfl]
  by_cases hl : (1048576 : Int) < code.length
  · simp [bytesI_length, hl]
  obtain ⟨p, q, ws, L, hd, hp, hq, hws, hL, hs8⟩ := drawCheck_eq code
  have e1 := CheckRewrite_eq p q ws L
  have e2 := sCheckRewrite_eq p hp q ws (by omega) L (fun s hs => by have := hs8 s hs; omega)
  have e3 := CheckRewrite_eq p p ws []
  have c1 := planWidth_eq p ws
  have e4 := ApplySteps_eq p ws L
  by_cases h0 : p.width ws = 0
  · have hn : ckO p q ws L = false := by simp [ckO, apsO, h0]
    rw [hn] at e1 e2
    simp only [Pn.cells_eq p, Pn.cells_eq q] at *
    simp [bytesI_length, hl, hd, e1, e2, c1, h0]
  · have hpp : ckO p p ws [] = true := by simp [ckO, apsO, h0, aps, Pn.eqb_refl]
    rw [hpp] at e3
    cases ha : apsO p ws L with
    | none =>
      have hn : ckO p q ws L = false := by simp [ckO, ha]
      rw [ha] at e4
      rw [hn] at e1 e2
      simp only [Pn.cells_eq p, Pn.cells_eq q] at *
      simp [apR, Pn.zero, Pn.cells, Ex.cellsL, intsL, Pn.cellsL] at e4
      simp [stpsL] at e3
      simp [bytesI_length, hl, hd, e1, e2, e3, e4, c1, h0]
    | some x =>
      have hn : ckO p q ws L = x.eqb q := by simp [ckO, ha]
      have hx : ckO p x ws L = true := by simp [ckO, ha, Pn.eqb_refl]
      have e6 := CheckRewrite_eq p x ws L
      have e7 := equalPlans_eq x (apsO_thin ha).1 q
      rw [ha] at e4
      rw [hx] at e6
      rw [hn] at e1 e2
      simp only [Pn.cells_eq p, Pn.cells_eq q, Pn.cells_eq x] at *
      simp [apR, Pn.cells_eq x] at e4
      simp [stpsL] at e3
      cases hb : x.eqb q <;> rw [hb] at e1 e2 e7 <;> simp [bytesI_length, hl, hd, e1, e2, e3, e4, e6, e7, c1, h0]
theorem law_stepWidth_calls (a:Option Addr) (len cap:Nat) (zs:List Int) (w:World)
  (h:(a=none∧len=0∧cap=0∧zs=[])∨∃ x,a=some x∧len≤cap∧cap≤maxLen∧zs.length=cap∧(∀ i,i < zs.length→w.cell? (x.add i)=some (.int .u8 (zs.getD i 0)))∧∀ n∈zs,(Lit.int .u8 n).wf=true) :
  Calls Tryz.prog 3 #[.slice a len cap] w fun e w'=>e=.returned (.bool true)∧RowKit.Below w.heap.size w w':=by
 obtain ⟨code,hc⟩:=bytes_rep h
 exact calls_true soundAp (.cons (.i hc) .nil) (law_stepWidth code)
theorem law_checkRewrite_calls (a:Option Addr) (len cap:Nat) (zs:List Int) (w:World)
  (h:(a=none∧len=0∧cap=0∧zs=[])∨∃ x,a=some x∧len≤cap∧cap≤maxLen∧zs.length=cap∧(∀ i,i < zs.length→w.cell? (x.add i)=some (.int .u8 (zs.getD i 0)))∧∀ n∈zs,(Lit.int .u8 n).wf=true) :
  Calls Tryz.prog 11 #[.slice a len cap] w fun e w'=>e=.returned (.bool true)∧RowKit.Below w.heap.size w w':=by
 obtain ⟨code,hc⟩:=bytes_rep h
 exact calls_true soundAp (.cons (.i hc) .nil) (law_checkRewrite code)
theorem law_applySteps_calls (a:Option Addr) (len cap:Nat) (zs:List Int) (a':Option Addr) (len' cap':Nat) (zs':List Int) (w:World)
  (h:(a=none∧len=0∧cap=0∧zs=[])∨∃ x,a=some x∧len≤cap∧cap≤maxLen∧zs.length=cap∧(∀ i,i < zs.length→w.cell? (x.add i)=some (.int .u8 (zs.getD i 0)))∧∀ n∈zs,(Lit.int .u8 n).wf=true)
  (h':(a'=none∧len'=0∧cap'=0∧zs'=[])∨∃ x,a'=some x∧len'≤cap'∧cap'≤maxLen∧zs'.length=cap'∧(∀ i,i < zs'.length→w.cell? (x.add i)=some (.int .u8 (zs'.getD i 0)))∧∀ n∈zs',(Lit.int .u8 n).wf=true) :
  Calls Tryz.prog 4 #[.slice a len cap, .slice a' len' cap'] w fun e w'=>e=.returned (.bool true)∧RowKit.Below w.heap.size w w':=by
 obtain ⟨code,hc⟩:=bytes_rep h
 obtain ⟨more,hm⟩:=bytes_rep h'
 exact calls_true soundAp (.cons (.i hc) (.cons (.i hm) .nil)) (law_applySteps code more)
end Go.Proofs.YtjcjpbjpbbdnlaaGreat.P

namespace Go.Proofs.YtjcjpbjpbbdnlaaGreat.P
open Go Go.Av
set_option maxRecDepth 4000
set_option maxHeartbeats 8000000
theorem lowers_eq (r:Int):callA C0 79 [.int r] []=some (.bool (lowR r),[]):=by
 rw [callA_eq rfl Tryz.func79 rfl rfl]
 unfold lowR
 by_cases h2:r=2
 ·simp [h2]
 ·by_cases h5:r=5
  ·simp [h5]
  ·by_cases h6:r=6
   ·simp [h6]
   ·simp [h2,h5,h6]
def SNX (p:Pn) (ws:List Int) (S:List Stp) (i:Nat):AS :=
 {env:=[(0, .i (.agg [.int p.kind, .int p.table, .isl (Ex.cellsL p.exprs), .isl (intsL p.cols), .isl (Pn.cellsL p.kids)])),(1, .i (.isl (intsL ws))),(2, .own 0 0),(4, .bool false),(5, .i (.isl (stpsL S))),(6, .int i),(10, .bool (p.width ws == 0)),(17,jk i (.bool true)),(25,jk i (.bool false))],st:=[boxP p] }
theorem sIsNormal_eq (p : Pn) (hp : p.thin) (ws : List Int) (hl : ws.length < 1000000000) : callA C0 37 [.i (.agg p.cells), .i (.isl (intsL ws))] [] = some (.bool (decide (p.width ws ≠ 0) && (fstL (stepsP p ws)).isNone), []) := by
  have c1 := widthOf_eq p (Pn.thin_lim p hp) ws (by omega)
  unfold stepsP
  by_cases h0 : p.width ws = 0
  · rw [callA_eq rfl Tryz.func37 rfl rfl]
    simp only [Pn.cells_eq p] at c1 ⊢
    simp [c1, h0]
  · obtain ⟨hw, hp8, hv⟩ := width_okWs h0
    have c2 := sstepsFor_eq hw hp8
    have hst := steps_same (okWs_range hw) hp8
    rw [← hst] at c2
    rw [if_neg h0, callA_eq rfl Tryz.func37 rfl rfl]
    simp only [Pn.cells_eq p] at c1 c2 ⊢
    have hsm := stI_len ws p []
    have hpf := (Pn.wd_fit p 8 hp8).2
    simp [c1, h0, c2]
    generalize stI ws [] p = S at *
    obtain ⟨j, k1, k2⟩ := upto_bad (fun s : Stp => !lowR s.1) S
    rw [loop_to (SNX p ws S) j (by simp [SNX, boxP])]
    · rw [execA_loop]
      rcases k2 with ⟨hj, ha⟩ | ⟨s, q1, q2, q3, ha⟩
      · have hf : fstL S = none := by
          unfold fstL
          rw [List.find?_eq_none]
          intro s hs
          have := List.all_eq_true.1 ha s hs
          simpa using this
        simp [SNX, boxP, hj, hf]
      · have hj := (List.getElem?_eq_some_iff.1 q1).1
        have r1 := stpsL_nth q1
        have hlo : lowR s.1 = true := by simpa using q3
        have hf : (fstL S).isNone = false := by
          unfold fstL
          cases h : S.find? fun s => lowR s.1 with
          | some x => rfl
          | none =>
            rw [List.find?_eq_none] at h
            exact absurd hlo (h s q2)
        have hlw := lowers_eq s.1
        rw [hlo] at hlw
        simp only [stpC] at r1
        simp [SNX, boxP, hj, r1, hlw, hf]
    · intro i hi
      obtain ⟨s, q1, q2, q3⟩ := k1 i hi
      have hj := (List.getElem?_eq_some_iff.1 q1).1
      have r1 := stpsL_nth q1
      have hlo : lowR s.1 = false := by simpa using q3
      have hlw := lowers_eq s.1
      rw [hlo] at hlw
      have w2 : IntKind.i64.wrap ((i : Int) + 1) = i + 1 := wrap64 (by omega) (by omega)
      simp only [stpC] at r1
      simp [SNX, boxP, hj, r1, hlw, w2]
end Go.Proofs.YtjcjpbjpbbdnlaaGreat.P

namespace Go.Proofs.YtjcjpbjpbbdnlaaGreat.P
open Go Go.Av
set_option maxRecDepth 4000
set_option maxHeartbeats 2000000
end Go.Proofs.YtjcjpbjpbbdnlaaGreat.P

namespace Go.Av
theorem stepsP_mem {p:Pn} {ws:List Int} {s:Stp}:s∈stepsP p ws ↔ (apO p ws s.1 s.2).isSome=true:=by
 unfold stepsP apO
 by_cases h0:p.width ws=0
 ·simp [h0]
 ·obtain ⟨hw,hp8,hv⟩:=width_okWs h0
  rw [if_neg h0,if_neg h0,steps_same (okWs_rng hw) hp8,stS_mem,ap_eq (okWs_rng hw) hp8]
end Go.Av
namespace Go.Proofs.YtjcjpbjpbbdnlaaGreat.P
open Go Go.Av
set_option maxRecDepth 4000
set_option maxHeartbeats 2000000
end Go.Proofs.YtjcjpbjpbbdnlaaGreat.P

namespace Go.Av
def nP (ws : List Int) (p : Pn) : Nat → Pn
  | 0 => p
  | i + 1 => match fstL (stI ws [] (nP ws p i)) with
    | some s => getP (apO (nP ws p i) ws s.1 s.2)
    | none => nP ws p i
def nL (ws : List Int) (p : Pn) : Nat → List Stp
  | 0 => []
  | i + 1 => match fstL (stI ws [] (nP ws p i)) with
    | some s => nL ws p i ++ [s]
    | none => nL ws p i
theorem fst_step {ws:List Int} {p:Pn} {s:Stp} (h0:p.width ws≠0) (h:fstL (stI ws [] p)=some s):∃ q,apO p ws s.1 s.2=some q∧s∈stI ws [] p∧lowR s.1=true:=by
 have hm:s∈stI ws [] p:=List.mem_of_find?_eq_some h
 have hl:lowR s.1=true:=by
  have:=List.find?_some h
  simpa using this
 have:s∈stepsP p ws:=by unfold stepsP; rw [if_neg h0]; exact hm
 have:=stepsP_mem.1 this
 cases hq:apO p ws s.1 s.2 with
 | none=>rw [hq] at this; cases this
 | some q=>exact ⟨q,rfl,hm,hl⟩
theorem apO_wd {p q:Pn} {ws:List Int} {r:Int} {path:List Int} (h:apO p ws r path=some q):q.width ws=p.width ws:=by
 have:=aps_width (ws:=ws) [(r,path)] p q (by simp [aps,h])
 exact this.1
theorem nP_width {ws : List Int} {p : Pn} (h0 : p.width ws ≠ 0) : ∀ i, (nP ws p i).width ws = p.width ws
  | 0 => rfl
  | i + 1 => by
    have ih := nP_width h0 i
    simp only [nP]
    cases hf : fstL (stI ws [] (nP ws p i)) with
    | none => exact ih
    | some s =>
      obtain ⟨q, hq, _, _⟩ := fst_step (by rw [ih]; exact h0) hf
      simp only [hq, getP, Option.getD_some]
      exact (apO_wd hq).trans ih
theorem nL_len {ws : List Int} {p : Pn} : ∀ j, (∀ i, i < j → (fstL (stI ws [] (nP ws p i))).isSome = true) → (nL ws p j).length = j
  | 0, _ => rfl
  | j + 1, h => by
    have ih := nL_len j fun i hi => h i (by omega)
    have := h j (by omega)
    simp only [nL]
    cases hf : fstL (stI ws [] (nP ws p j)) with
    | none => rw [hf] at this; cases this
    | some s => simp [ih]
theorem nP_stop {ws : List Int} {p : Pn} {j : Nat} (h : fstL (stI ws [] (nP ws p j)) = none) : ∀ k, nP ws p (j + k) = nP ws p j ∧ nL ws p (j + k) = nL ws p j
  | 0 => ⟨rfl, rfl⟩
  | k + 1 => by
    obtain ⟨h1, h2⟩ := nP_stop h k
    rw [← Nat.add_assoc]
    simp only [nP, nL, h1, h, h2, and_self]
theorem norm_upto (ws:List Int) (p:Pn):∃ j,j≤40∧(∀ i,i < j→∃ s,fstL (stI ws [] (nP ws p i))=some s)∧(j=40∨fstL (stI ws [] (nP ws p j))=none)∧nP ws p 40=nP ws p j∧nL ws p 40=nL ws p j∧(nL ws p j).length=j:=by
 obtain ⟨j,h1,h2,h3⟩:=fst_bad (fun i=>(fstL (stI ws [] (nP ws p i))).isNone) 40
 have h2':∀ i,i < j→∃ s,fstL (stI ws [] (nP ws p i))=some s:=fun i hi=>by
  have:=h2 i hi
  cases hf:fstL (stI ws [] (nP ws p i)) with
  | none=>rw [hf] at this; cases this
  | some s=>exact ⟨s,rfl⟩
 have hl:=nL_len (ws:=ws) (p:=p) j fun i hi=>by obtain ⟨s,hs⟩:=h2' i hi; rw [hs]; rfl
 rcases h3 with rfl | h3
 ·exact ⟨40,h1,h2', .inl rfl,rfl,rfl,hl⟩
 ·have hn:fstL (stI ws [] (nP ws p j))=none:=by
   cases hf:fstL (stI ws [] (nP ws p j)) with
   | none=>rfl
   | some s=>rw [hf] at h3; cases h3
  have:=nP_stop hn (40 - j)
  rw [show j + (40 - j)=40 by omega] at this
  exact ⟨j,h1,h2', .inr hn,this.1,this.2,hl⟩
theorem aps_norm {ws : List Int} {p : Pn} (h0 : p.width ws ≠ 0) : ∀ i, aps ws (nL ws p i) p = some (nP ws p i)
  | 0 => rfl
  | i + 1 => by
    have ih := aps_norm h0 i
    simp only [nP, nL]
    cases hf : fstL (stI ws [] (nP ws p i)) with
    | none => exact ih
    | some s =>
      obtain ⟨q, hq, _, _⟩ := fst_step (by rw [nP_width h0]; exact h0) hf
      simp only [hq, getP, Option.getD_some]
      rw [aps_snoc, ih]; exact hq
theorem fst_idx : ∀ {S : List Stp} {s : Stp}, fstL S = some s → ∃ k : Nat, S[k]? = some s ∧ lowR s.1 = true ∧ ∀ i, i < k → ∃ u : Stp, S[i]? = some u ∧ lowR u.1 = false
  | [], s, h => by simp [fstL] at h
  | a :: S, s, h => by
    unfold fstL at h
    rw [List.find?_cons] at h
    cases ha : lowR a.1 with
    | true =>
      simp only [ha] at h
      injection h with h; subst h
      exact ⟨0, rfl, ha, fun i hi => by omega⟩
    | false =>
      simp only [ha] at h
      obtain ⟨k, h1, h2, h3⟩ := fst_idx (S := S) h
      refine ⟨k + 1, h1, h2, fun i hi => ?_⟩
      cases i with
      | zero => exact ⟨a, rfl, ha⟩
      | succ i => exact h3 i (by omega)
theorem fst_all {S:List Stp} (h:fstL S=none):∀ i,i < S.length→∃ u:Stp,S[i]?=some u∧lowR u.1=false:=by
 intro i hi
 refine ⟨S[i],List.getElem?_eq_getElem hi,?_⟩
 unfold fstL at h
 have:=List.find?_eq_none.1 h S[i] (List.getElem_mem hi)
 cases hb:lowR S[i].1 with
 | true=>rw [hb] at this; exact absurd rfl this
 | false=>rfl
end Go.Av
namespace Go.Proofs.YtjcjpbjpbbdnlaaGreat.P
open Go Go.Av
set_option maxRecDepth 4000
set_option maxHeartbeats 4000000
theorem intsL_memb {l : List Int} {x : List IV} (h : x ∈ intsL l) : ∃ n : Int, x = [.int n] := by
  induction l with
  | nil => simp [intsL] at h
  | cons a l ih =>
    simp only [intsL, List.mem_cons] at h
    rcases h with rfl | h
    · exact ⟨a, rfl⟩
    · exact ih h
theorem normStepK {ws : List Int} (hw : okWs ws = true) {p : Pn} (hp : p.wd ws 8 ≠ 0) : callA CA 77 [.own 0 0, .i (.isl (intsL ws))] [boxP p] = some (.tup [.i (stpO (fstL (stI ws [] p))), .bool (fstL (stI ws [] p)).isSome], [boxP p]) := by
  rw [callA_prim (p := lookK (bodyT C0 77)) rfl]
  unfold lookK
  have hb : viewBs (stOf [boxP p]) [.own 0 0, .i (.isl (intsL ws))] = some [.i (.iref p.cells), .i (.isl (intsL ws))] := by
    rw [Pn.cells_eq]
    simp [boxP, viewBs, viewB, viewX, viewNs, viewN, viewW, stOf, bnd]
  rw [hb]
  simp only [bnd_some]
  have c3 := fun R cs (hY : Yn R cs) => steps1N_eq hY hw hp
  have c2 := steps_eq p ws
  rw [bodyT_eq Tryz.func77 rfl rfl]
  simp only [Pn.cells_eq p] at c2 c3 ⊢
  simp [c2, noRange, readsC, tmpsC, tmpsOs, tmpsO, Op.operands, Call.operands, yldF]
  generalize hR : Rng.mk [0, 1, 4, 5, 6, 9, 10, 12] _ [10] _ _ = R
  have hY : Yn R [.own 1 0, .own 2 0, .junk, .junk, .junk] := by
    clear c2 c3
    refine ⟨rfl, ?_, ?_, ?_, ?_⟩
    · intro r h
      have hn := normalizes_eq r []
      rw [h] at hn
      simp [intsL] at hn
      subst hR
      rw [callA_yld]
      simp [NS0, hn]
    · intro r path hp h
      have hn := normalizes_eq r path
      rw [h] at hn
      subst hR
      rw [callA_yld]
      have ht : path.take path.length = path := List.take_of_length_le (by omega)
      simp [NS0, hn, ht]
    · intro r h
      have hn := normalizes_eq r []
      rw [h] at hn
      simp [intsL] at hn
      subst hR
      rw [callA_yld]
      simp [NS0, NS1, hn]
    · intro r path hp h
      have hn := normalizes_eq r path
      rw [h] at hn
      subst hR
      rw [callA_yld]
      have ht : path.take path.length = path := List.take_of_length_le (by omega)
      simp [NS0, NS1, hn, ht, hp]
  have c3 := c3 R _ hY
  clear hR
  cases hf : fstL (stI ws [] p) with
  | none =>
    simp [hf] at c3
    simp [c3, stpO, kvT, kvAs, kvA, kvKs, kvK, bnd]
  | some s =>
    by_cases hs : s.2 = []
    · simp [hf, hs] at c3
      simp [c3, stpO, hs, intsL, kvT, kvAs, kvA, kvKs, kvK, bnd]
    · simp [hf, hs] at c3
      have hl : 0 < s.2.length := by have : s.2.length ≠ 0 := fun h => hs (List.length_eq_zero_iff.1 h); omega
      have ht : List.take s.2.length (intsL s.2) = intsL s.2 := List.take_of_length_le (by simp)
      have hlit : (intsL s.2).all litsL = true := by
        rw [List.all_eq_true]; intro x hx; obtain ⟨n, rfl⟩ := intsL_memb hx; rfl
      simp [c3, stpO, kvT, kvAs, kvA, kvKs, kvK, bnd, tst, hl, ht, hlit]
def nrR (ws:List Int) (p:Pn):AV×StL:=if p.width ws=0 then (.tup [.i (.agg Pn.zero.cells), .i (.isl [])],[]) else (.tup [.i (.agg (nP ws p 40).cells), .i (.isl (stpsL (nL ws p 40)))],[])
def NRX (p:Pn) (ws:List Int) (i:Nat):AS :=
 {env:=[(0, .i (.agg p.cells)),(1, .i (.isl (intsL ws))),(2, .own 0 0),(4, .own 1 0),(5, .nils),(6, .own 2 0),(7,if i=0 then .nils else .osl 3 2 0 i),(8,jA i (.own 4 0)),(9,jk i (.bool true)),(13, .bool false),(18,jk i (.bool true)),(25,jk i (.bool false))],
  st:=[some (.fbox p.cells),zpB,boxP (nP ws p i)] ++ jkL i [some (.arr 2 (stpsL (nL ws p i))),stB (((nL ws p i).getLast?).getD (0,[]))] }
theorem Normalize_eq (p:Pn) (ws:List Int):callA CA 38 [.i (.agg p.cells), .i (.isl (intsL ws))] []=some (nrR ws p):=by
 have c1:=planWidth_eq p ws
 rw [callA_eq rfl Tryz.func38 rfl rfl]
 unfold nrR
 by_cases h0:p.width ws=0
 ·rw [Pn.cells_eq p] at c1 ⊢
  simp [c1,h0,Pn.zero,Pn.cells,Ex.cellsL,intsL,Pn.cellsL]
 simp only [h0,if_false]
 obtain ⟨hw,hp8⟩:=width_ok2 h0
 have c2:=copied_small hp8
 obtain ⟨j,hj,h1,h2,h3,h4,h5⟩:=norm_upto ws p
 rw [h3,h4]
 have hwd:∀ i,(nP ws p i).width ws≠0:=fun i=>by rw [nP_width h0]; exact h0
 have hk:=fun i=>normStepK hw (width_ok2 (hwd i)).2
 rw [Pn.cells_eq p] at c1 c2 ⊢
 simp [c1,h0,c2]
 rw [loop_to (NRX p ws) j (by simp [NRX,zpB,boxP,nP,h0,Pn.cells_eq p])]
 ·rw [execA_loop]
  have hkj:=hk j
  have ht:List.take j (stpsL (nL ws p j))=stpsL (nL ws p j):=List.take_of_length_le (by rw [stpsL_len]; omega)
  by_cases hj40:j=40
  ·subst hj40
   simp [NRX,zpB,boxP,stB,jk_pos,jkL_pos,jA_pos,ht,Pn.cells_eq (nP ws p 40),stpsL_len,h5]
  ·have hn:=h2.resolve_left hj40
   rw [hn] at hkj
   simp [stpO,boxP] at hkj
   have hlt:(j:Int) < 40:=by omega
   by_cases hi0:j=0
   ·subst hi0
    simp [NRX,zpB,boxP,hkj,Pn.cells_eq (nP ws p 0),nL,stpsL]
   ·simp [NRX,zpB,boxP,stB,hi0,jk_pos hi0,jkL_pos hi0,jA_pos hi0,ht,hlt,hkj,Pn.cells_eq (nP ws p j),stpsL_len,h5]
 ·intro i hi
  obtain ⟨s,hs⟩:=h1 i hi
  have hkj:=hk i
  rw [hs] at hkj
  obtain ⟨q,hq,_,_⟩:=fst_step (hwd i) hs
  have e5:=ca_ApplyStep (nP ws p i) ws s.1 s.2
  rw [hq] at e5
  have hP1:nP ws p (i + 1)=q:=by simp [nP,hs,hq,getP]
  have hL1:nL ws p (i + 1)=nL ws p i ++ [s]:=by simp [nL,hs]
  have hlen:(nL ws p i).length=i:=nL_len i fun k hk=>by obtain ⟨s,hs⟩:=h1 k (by omega); rw [hs]; rfl
  have hS:stpsL (nL ws p i) ++ [[.int s.1, .isl (intsL s.2)]]=stpsL (nL ws p (i + 1)):=by rw [hL1,stpsL_append]; rfl
  have hgl:((nL ws p (i + 1)).getLast?).getD (0,[])=s:=by rw [hL1]; simp
  have ht:List.take i (stpsL (nL ws p i))=stpsL (nL ws p i):=List.take_of_length_le (by rw [stpsL_len]; omega)
  have hlt:(i:Int) < 40:=by omega
  have hb:(i + 1) * 32≤140737488355328:=by omega
  rw [Pn.cells_eq (nP ws p i)] at e5
  simp [apR,Pn.cells_eq q] at e5
  simp [stpO,boxP] at hkj
  simp only [NRX,hP1,hgl]
  by_cases hi0:i=0
  ·subst hi0
   have hS0:[[IV.int s.1,IV.isl (intsL s.2)]]=stpsL (nL ws p (0 + 1)):=by rw [← hS]; simp [nL,stpsL]
   simp [zpB,boxP,stB,hkj,e5,← hS0]
  ·simp [zpB,boxP,stB,hi0,jk_pos hi0,jkL_pos hi0,jA_pos hi0,ht,hlt,hkj,e5,hS,hb,stpsL_len,hlen]
@[simp] theorem ca_stepsFor (a:List AV) (st:StL):callA CA 78 a st=callA C0 78 a st:=by rw [callA_prim (p:=callA C0 78) rfl]
@[simp] theorem ca_applyStep (a:List AV) (st:StL):callA CA 57 a st=callA C0 57 a st:=by rw [callA_prim (p:=callA C0 57) rfl]
@[simp] theorem ca_lowers (a:List AV) (st:StL):callA CA 79 a st=callA C0 79 a st:=by rw [callA_prim (p:=callA C0 79) rfl]
def jB (i k:Nat):AV:=if k=0 then jk i (.bool false) else .bool true
@[simp] theorem jB_0 (i:Nat):jB i 0=jk i (.bool false):=(rfl)
@[simp] theorem jB_succ (i k:Nat):jB i (k + 1)=.bool true:=(rfl)
def SI (ws:List Int) (p:Pn) (i:Nat):List Stp:=stI ws [] (nP ws p i)
def KI (ws:List Int) (p:Pn) (i:Nat):Nat:=(SI ws p i).findIdx fun s=>lowR s.1
def SNX2 (p:Pn) (ws:List Int) (i:Nat):AS :=
 {env:=[(0, .i (.agg p.cells)),(1, .i (.isl (intsL ws))),(2, .own 0 0),(4, .own 1 0),(5, .nils),(6, .osl 2 2 0 i),(7, .own 3 0),(8,jk i (.isl (stpsL (SI ws p (i - 1))))),(9,jk i (.int (KI ws p (i - 1):Nat))),(10,jA i (.own 4 0)),(16, .bool false),(23,jk i (.bool true)),(39,jk i (.bool false)),(45,jk i (.bool false))],
  st:=[boxP p,zpB,some (.arr 2 (stpsL (nL ws p i))),boxP (nP ws p i)] ++ jkL i [boxP (nP ws p i)] }
def SNI (p:Pn) (ws:List Int) (i k:Nat):AS :=
 {env:=[(0, .i (.agg p.cells)),(1, .i (.isl (intsL ws))),(2, .own 0 0),(4, .own 1 0),(5, .nils),(6, .osl 2 2 0 i),(7, .own 3 0),(8, .i (.isl (stpsL (SI ws p i)))),(9, .int k),(10,jA i (.own 4 0)),(16, .bool false),(23, .bool true),(39,jB i k),(45,jk i (.bool false))],
  st:=[boxP p,zpB,some (.arr 2 (stpsL (nL ws p i))),boxP (nP ws p i)] ++ jkL i [boxP (nP ws p i)] }
theorem sNormalize_eq (p:Pn) (hp:p.thin) (ws:List Int) (hl:ws.length < 1000000):callA CA 40 [.i (.agg p.cells), .i (.isl (intsL ws))] []=some (nrR ws p):=by
 have c1:=widthOf_eq p (Pn.thin_lim p hp) ws (by omega)
 rw [callA_eq rfl Tryz.func40 rfl rfl]
 unfold nrR
 by_cases h0:p.width ws=0
 ·rw [Pn.cells_eq p] at c1 ⊢
  simp [c1,h0,Pn.zero,Pn.cells,Ex.cellsL,intsL,Pn.cellsL]
 simp only [h0,if_false]
 obtain ⟨hw,hp8⟩:=width_ok2 h0
 have c2:=ca_copyPlan hp
 obtain ⟨j,hj,h1,h2,h3,h4,h5⟩:=norm_upto ws p
 rw [h3,h4]
 have hwd:∀ i,(nP ws p i).width ws≠0:=fun i=>by rw [nP_width h0]; exact h0
 have hst:∀ i,callA C0 78 [.i (.agg (nP ws p i).cells), .i (.isl (intsL ws))] []=some (.i (.isl (stpsL (SI ws p i))),[]):=fun i=>by
  have:=sstepsFor_eq hw (width_ok2 (hwd i)).2
  rw [← steps_same (okWs_rng hw) (width_ok2 (hwd i)).2] at this
  exact this
 have hsl:∀ i,(SI ws p i).length < 10000:=fun i=>by
  have:=stI_len ws (nP ws p i) []
  have:=(wd_small (width_ok2 (hwd i)).2).2
  unfold SI; omega
 have hlow:=lowers_eq
 rw [Pn.cells_eq p] at c1 c2 ⊢
 simp [c1,h0,c2]
 rw [loop_to (SNX2 p ws) j (by simp [SNX2,zpB,boxP,nP,nL,stpsL,h0,Pn.cells_eq p])]
 ·rw [execA_loop]
  have ht:List.take j (stpsL (nL ws p j))=stpsL (nL ws p j):=List.take_of_length_le (by rw [stpsL_len]; omega)
  by_cases hj40:j=40
  ·subst hj40
   simp [SNX2,zpB,boxP,jk_pos,jkL_pos,jA_pos,ht,Pn.cells_eq (nP ws p 40),stpsL_len,h5]
  ·have hn:=h2.resolve_left hj40
   have hall:=fst_all (S:=SI ws p j) hn
   have hlt:(j:Int) < 40:=by omega
   have e1:=hst j
   rw [Pn.cells_eq (nP ws p j)] at e1
   simp only [SNX2,zpB,boxP]
   by_cases hi0:j=0
   ·subst hi0
    simp [e1]
    rw [loop_to (SNI p ws 0) (SI ws p 0).length (by simp [SNI,zpB,boxP])]
    ·rw [execA_loop]
     simp [SNI,zpB,boxP,stpsL_len,Pn.cells_eq (nP ws p 0),nL,stpsL]
    ·intro k hk
     obtain ⟨u,hu,hu2⟩:=hall k hk
     have r1:=stpsL_nth hu
     have e2:=hlow u.1
     rw [hu2] at e2
     have w2:IntKind.i64.wrap ((k:Int) + 1)=k + 1:=wrap64 (by have:=hsl 0; omega) (by have:=hsl 0; omega)
     simp only [stpC] at r1
     simp [SNI,zpB,boxP,stpsL_len,hk,r1,e2,w2]
   ·simp [hi0,jk_pos hi0,jkL_pos hi0,jA_pos hi0,hlt,e1]
    rw [loop_to (SNI p ws j) (SI ws p j).length (by simp [SNI,zpB,boxP,hi0,jk_pos hi0,jkL_pos hi0,jA_pos hi0])]
    ·rw [execA_loop]
     simp [SNI,zpB,boxP,hi0,jk_pos hi0,jkL_pos hi0,jA_pos hi0,stpsL_len,Pn.cells_eq (nP ws p j),ht,h5]
    ·intro k hk
     obtain ⟨u,hu,hu2⟩:=hall k hk
     have r1:=stpsL_nth hu
     have e2:=hlow u.1
     rw [hu2] at e2
     have w2:IntKind.i64.wrap ((k:Int) + 1)=k + 1:=wrap64 (by have:=hsl j; omega) (by have:=hsl j; omega)
     simp only [stpC] at r1
     simp [SNI,zpB,boxP,hi0,jk_pos hi0,jkL_pos hi0,jA_pos hi0,stpsL_len,hk,r1,e2,w2]
 ·intro i hi
  obtain ⟨s,hs⟩:=h1 i hi
  obtain ⟨q,hq,_,_⟩:=fst_step (hwd i) hs
  obtain ⟨k,k1,k2,k3⟩:=fst_idx (S:=SI ws p i) hs
  have hk:=(List.getElem?_eq_some_iff.1 k1).1
  have hKI:KI ws p i=k:=by
   unfold KI
   obtain ⟨hk',e⟩:=List.getElem?_eq_some_iff.1 k1
   refine List.findIdx_eq hk' |>.2 ⟨by rw [e]; exact k2,fun m hm=>?_⟩
   obtain ⟨u,hu,hu2⟩:=k3 m hm
   obtain ⟨hm',e'⟩:=List.getElem?_eq_some_iff.1 hu
   rw [e']; exact hu2
  have e5:=applyStep_eq hw (width_ok2 (hwd i)).2 s.1 (path:=s.2) (by
   have:=stepsP_len (p:=nP ws p i) (ws:=ws) s (by unfold stepsP; rw [if_neg (hwd i)]; exact List.mem_of_getElem? k1)
   omega)
  have hqS:apS ws s.1 s.2 (nP ws p i)=some q:=by
   rw [← ap_eq (okWs_rng hw) (width_ok2 (hwd i)).2]
   unfold apO at hq; rw [if_neg (hwd i)] at hq; exact hq
  rw [hqS] at e5
  have hP1:nP ws p (i + 1)=q:=by simp [nP,hs,hq,getP]
  have hL1:nL ws p (i + 1)=nL ws p i ++ [s]:=by simp [nL,hs]
  have hlen:(nL ws p i).length=i:=nL_len i fun k hk=>by obtain ⟨s,hs⟩:=h1 k (by omega); rw [hs]; rfl
  have hS:stpsL (nL ws p i) ++ [[.int s.1, .isl (intsL s.2)]]=stpsL (nL ws p (i + 1)):=by rw [hL1,stpsL_append]; rfl
  have ht:List.take i (stpsL (nL ws p i))=stpsL (nL ws p i):=List.take_of_length_le (by rw [stpsL_len]; omega)
  have hlt:(i:Int) < 40:=by omega
  have hb:(i + 1) * 32≤140737488355328:=by omega
  have e1:=hst i
  have r0:=stpsL_nth k1
  have e20:=hlow s.1
  rw [k2] at e20
  simp only [stpC] at r0
  have hne:¬ (k:Int)=(SI ws p i).length:=by omega
  have hne2:¬ k=(SI ws p i).length:=by omega
  rw [Pn.cells_eq (nP ws p i)] at e5 e1
  simp [getP,Pn.cells_eq q] at e5
  simp only [SNX2,hP1,Nat.add_sub_cancel,hKI]
  by_cases hi0:i=0
  ·subst hi0
   simp [zpB,boxP,e1]
   rw [loop_to (SNI p ws 0) k (by simp [SNI,zpB,boxP])]
   ·rw [execA_loop]
    have hL0:nL ws p 0=[]:=rfl
    have hS0:stpsL (nL ws p 1)=[[IV.int s.1,IV.isl (intsL s.2)]]:=by rw [hL1]; simp [nL,stpsL,stpC]
    simp [SNI,zpB,boxP,stpsL_len,hk,r0,e20,hne,hne2,e5,hL0,stpsL_nil,hS0]
   ·intro k' hk'
    obtain ⟨u,hu,hu2⟩:=k3 k' hk'
    have hkl:=(List.getElem?_eq_some_iff.1 hu).1
    have r1:=stpsL_nth hu
    have e2:=hlow u.1
    rw [hu2] at e2
    have w2:IntKind.i64.wrap ((k':Int) + 1)=k' + 1:=wrap64 (by have:=hsl 0; omega) (by have:=hsl 0; omega)
    simp only [stpC] at r1
    simp [SNI,zpB,boxP,stpsL_len,hkl,r1,e2,w2]
  ·simp [zpB,boxP,hi0,jk_pos hi0,jkL_pos hi0,jA_pos hi0,hlt,e1]
   rw [loop_to (SNI p ws i) k (by simp [SNI,zpB,boxP,hi0,jk_pos hi0,jkL_pos hi0,jA_pos hi0])]
   ·rw [execA_loop]
    simp [SNI,zpB,boxP,hi0,jk_pos hi0,jkL_pos hi0,jA_pos hi0,stpsL_len,hk,r0,e20,hne,hne2,e5,ht,hS,hb,hlen]
   ·intro k' hk'
    obtain ⟨u,hu,hu2⟩:=k3 k' hk'
    have hkl:=(List.getElem?_eq_some_iff.1 hu).1
    have r1:=stpsL_nth hu
    have e2:=hlow u.1
    rw [hu2] at e2
    have w2:IntKind.i64.wrap ((k':Int) + 1)=k' + 1:=wrap64 (by have:=hsl i; omega) (by have:=hsl i; omega)
    simp only [stpC] at r1
    simp [SNI,zpB,boxP,hi0,jk_pos hi0,jkL_pos hi0,jA_pos hi0,stpsL_len,hkl,r1,e2,w2]
end Go.Proofs.YtjcjpbjpbbdnlaaGreat.P

namespace Go.Proofs.YtjcjpbjpbbdnlaaGreat.P
open Go Go.Av
set_option maxRecDepth 4000
set_option maxHeartbeats 400000
@[simp] theorem ca_IsNormal (a:List AV) (st:StL):callA CA 36 a st=callA C0 36 a st:=by rw [callA_prim (p:=callA C0 36) rfl]
@[simp] theorem ca_sIsNormal (a:List AV) (st:StL):callA CA 37 a st=callA C0 37 a st:=by rw [callA_prim (p:=callA C0 37) rfl]
theorem nP_thin {ws:List Int} {p:Pn} (h0:p.width ws≠0) (i:Nat):(nP ws p i).thin:=wd_thin _ 8 (width_ok2 (by rw [nP_width h0]; exact h0)).2
theorem nL_path {ws : List Int} {p : Pn} (h0 : p.width ws ≠ 0) : ∀ i, ∀ s ∈ nL ws p i, s.2.length ≤ 8
  | 0, s, hs => by simp [nL] at hs
  | i + 1, s, hs => by
    have ih := nL_path h0 i
    simp only [nL] at hs
    cases hf : fstL (stI ws [] (nP ws p i)) with
    | none => rw [hf] at hs; exact ih s hs
    | some u =>
      rw [hf] at hs
      rcases List.mem_append.1 hs with hs | hs
      · exact ih s hs
      · simp at hs
        subst hs
        have hw : (nP ws p i).width ws ≠ 0 := by rw [nP_width h0]; exact h0
        obtain ⟨q, _, hm, _⟩ := fst_step hw hf
        exact stepsP_len (p := nP ws p i) (ws := ws) s (by unfold stepsP; rw [if_neg hw]; exact hm)
theorem nrR_zero {ws:List Int} {p:Pn} (h0:p.width ws=0):nrR ws p=(.tup [.i (.agg [.int 0, .int 0, .isl [], .isl [], .isl []]), .i (.isl [])],[]):=by
 unfold nrR; rw [if_pos h0]; simp [Pn.zero,Pn.cells,Ex.cellsL,intsL,Pn.cellsL]
theorem nrR_pos {ws:List Int} {p:Pn} (h0:p.width ws≠0):nrR ws p=(.tup [.i (.agg (nP ws p 40).cells), .i (.isl (stpsL (nL ws p 40)))],[]):=by
 unfold nrR; rw [if_neg h0]
theorem norm_pack (ws:List Int) (p:Pn) (h0:p.width ws≠0):∃ (q:Pn) (L:List Stp),nrR ws p=(.tup [.i (.agg q.cells), .i (.isl (stpsL L))],[])∧q.thin∧q.width ws=p.width ws∧(∀ t,scP t q=scP t p)∧L.length≤40∧(L.length=40∨fstL (stepsP q ws)=none)∧(∀ s∈L,s.2.length≤8)∧aps ws L p=some q∧(fstL (stI ws [] p)=none→q=p∧L=[])∧∀ s,fstL (stI ws [] p)=some s→L.length≠0:=by
 obtain ⟨j,hj,h1,h2,h3,h4,h5⟩:=norm_upto ws p
 have hap:=aps_norm h0 j
 refine ⟨nP ws p j,nL ws p j,?_,nP_thin h0 j,nP_width h0 j,(aps_width _ _ _ hap).2.1,by omega,?_,nL_path h0 j,hap,fun h=>?_,fun s hs hl=>?_⟩
 ·rw [nrR_pos h0,h3,h4]
 ·rcases h2 with h | h
  ·exact .inl (by omega)
  ·exact .inr (by unfold stepsP; rw [if_neg (by rw [nP_width h0]; exact h0)]; exact h)
 ·have hs:=nP_stop (ws:=ws) (p:=p) (j:=0) h j
  rw [Nat.zero_add] at hs
  exact hs
 ·have hj0:j=0:=by omega
  subst hj0
  rcases h2 with h | h
  ·omega
  ·have h:fstL (stI ws [] p)=none:=h
   rw [hs] at h; cases h
theorem drawNorm_eq (code:List UInt8):∃ (P:Pn) (ws:List Int),callA CA 39 [.i (.isl (bytesI code))] []=some (.tup [.i (.agg P.cells), .i (.isl (intsL ws))],[])∧P.thin∧ws.length≤3:=by
 obtain ⟨c,hc,hr⟩:=newReader_eq code
 obtain ⟨P,ws,p',h,h1,h2,_,_⟩:=planAndWidths_eq hc
 refine ⟨P,ws,?_,h1,h2⟩
 rw [callA_eq rfl Tryz.func39 rfl rfl]
 rw [Pn.cells_eq P] at *
 simp [hr,h]
theorem drawIsNorm_eq (code:List UInt8):∃ (P:Pn) (ws:List Int),callA CA 35 [.i (.isl (bytesI code))] []=some (.tup [.i (.agg P.cells), .i (.isl (intsL ws))],[])∧P.thin∧ws.length≤3:=by
 obtain ⟨c,hc,hr⟩:=newReader_eq code
 obtain ⟨P,ws,p',h,h1,h2,h3,h4⟩:=planAndWidths_eq hc
 obtain ⟨k,hk,-,-⟩:=pick_eq c p' 2 h3 (by omega) hc
 have e1:=sNormalize_eq P h1 ws (by omega)
 by_cases hk0:k=0
 ·by_cases h0:P.width ws=0
  ·rw [nrR_zero h0] at e1
   refine ⟨Pn.zero,ws,?_,Pn.zero_thin,h2⟩
   rw [callA_eq rfl Tryz.func35 rfl rfl]
   rw [Pn.cells_eq P] at *
   simp [hr,h,hk,hk0,e1,Pn.zero,Pn.cells,Ex.cellsL,intsL,Pn.cellsL]
  ·obtain ⟨Q,L,hN,hQ,_⟩:=norm_pack ws P h0
   rw [hN] at e1
   refine ⟨Q,ws,?_,hQ,h2⟩
   rw [callA_eq rfl Tryz.func35 rfl rfl]
   rw [Pn.cells_eq P,Pn.cells_eq Q] at *
   simp [hr,h,hk,hk0,e1]
 ·refine ⟨P,ws,?_,h1,h2⟩
  rw [callA_eq rfl Tryz.func35 rfl rfl]
  rw [Pn.cells_eq P] at *
  simp [hr,h,hk,hk0]
theorem law_normalizeWidth (code:List UInt8):callA CA 7 [.i (.isl (bytesI code))] []=some (.bool true,[]):=by
 rw [callA_eq rfl Tryz.func7 rfl rfl]
 by_cases hl:(1048576:Int) < code.length
 ·simp [bytesI_length,hl]
 obtain ⟨p,ws,hd,hp,hws⟩:=drawNorm_eq code
 have e1:=Normalize_eq p ws
 have e2:=sNormalize_eq p hp ws (by omega)
 have c1:=planWidth_eq p ws
 by_cases h0:p.width ws=0
 ·rw [nrR_zero h0] at e1 e2
  have e3:=equalPlans_eq Pn.zero Pn.zero_thin Pn.zero
  rw [Pn.eqb_refl] at e3
  simp [Pn.zero,Pn.cells,Ex.cellsL,intsL,Pn.cellsL] at e3
  have e4:=equalSteps_refl [] (by simp) (by simp)
  simp [stpsL] at e4
  simp only [Pn.cells_eq p] at *
  simp [bytesI_length,hl,hd,e1,e2,e3,e4,c1,h0]
 ·obtain ⟨q,L,hN,hq,hw,hsc,hlen,hstop,hpath,hap,_⟩:=norm_pack ws p h0
  rw [hN] at e1 e2
  have e3:=equalPlans_eq q hq q
  rw [Pn.eqb_refl] at e3
  have e4:=equalSteps_refl L (by omega) hpath
  have c2:=planWidth_eq q ws
  rw [hw] at c2
  have t1:=tables_eq p hp ws (by omega) h0
  have t2:=tables_eq q hq ws (by omega) (by rw [hw]; exact h0)
  rw [tabsN_sc hsc] at t2
  have t3:=equalInts_eq (l:=tabsN p ws.length) (m:=tabsN p ws.length) (by have:=tabsN_len (p:=p) (n:=ws.length); omega)
  rw [beq_self_eq_true] at t3
  clear hN hap hsc hstop hpath
  simp only [Pn.cells_eq p,Pn.cells_eq q] at *
  simp [bytesI_length,hl,hd,e1,e2,e3,e4,c1,c2,t1,t2,t3,h0]
theorem law_normalize (code:List UInt8):callA CA 10 [.i (.isl (bytesI code))] []=some (.bool true,[]):=by
 rw [callA_eq rfl Tryz.func10 rfl rfl]
 by_cases hl:(1048576:Int) < code.length
 ·simp [bytesI_length,hl]
 obtain ⟨p,ws,hd,hp,hws⟩:=drawNorm_eq code
 have e1:=Normalize_eq p ws
 have e2:=sNormalize_eq p hp ws (by omega)
 have c1:=planWidth_eq p ws
 by_cases h0:p.width ws=0
 ·rw [nrR_zero h0] at e1 e2
  have e3:=equalPlans_eq Pn.zero Pn.zero_thin Pn.zero
  rw [Pn.eqb_refl] at e3
  simp [Pn.zero,Pn.cells,Ex.cellsL,intsL,Pn.cellsL] at e3
  have e4:=equalSteps_refl [] (by simp) (by simp)
  simp [stpsL] at e4
  simp only [Pn.cells_eq p] at *
  simp [bytesI_length,hl,hd,e1,e2,e3,e4,c1,h0]
 ·obtain ⟨q,L,hN,hq,hw,hsc,hlen,hstop,hpath,hap,_⟩:=norm_pack ws p h0
  rw [hN] at e1 e2
  have e3:=equalPlans_eq q hq q
  rw [Pn.eqb_refl] at e3
  have e4:=equalSteps_refl L (by omega) hpath
  have e5:=CheckRewrite_eq p q ws L
  have hck:ckO p q ws L=true:=by
   unfold ckO apsO
   rw [if_neg (by omega),hap]
   exact Pn.eqb_refl _
  rw [hck] at e5
  have e6:=IsNormal_eq q ws
  rw [hw] at e6
  clear hN hap hsc hpath hck
  simp only [Pn.cells_eq p,Pn.cells_eq q] at *
  by_cases h40:L.length=40
  ·simp [bytesI_length,hl,hd,e1,e2,e3,e4,e5,c1,h0,h40,stpsL_len]
  ·rw [hstop.resolve_left h40] at e6
   simp [h0] at e6
   have h40':¬ (L.length:Int)=40:=by omega
   simp [bytesI_length,hl,hd,e1,e2,e3,e4,e5,e6,c1,h0,h40,h40',stpsL_len]
theorem law_isNormal (code : List UInt8) : callA CA 6 [.i (.isl (bytesI code))] [] = some (.bool true, []) := by
  rw [callA_eq rfl Tryz.func6 rfl rfl]
  by_cases hl : (1048576 : Int) < code.length
  · simp [bytesI_length, hl]
  obtain ⟨p, ws, hd, hp, hws⟩ := drawIsNorm_eq code
  have e1 := IsNormal_eq p ws
  have e2 := sIsNormal_eq p hp ws (by omega)
  have c1 := planWidth_eq p ws
  by_cases h0 : p.width ws = 0
  · simp [h0] at e1 e2
    simp only [Pn.cells_eq p] at *
    simp [bytesI_length, hl, hd, e1, e2, c1, h0]
  · have e3 := Normalize_eq p ws
    obtain ⟨q, L, hN, hq, hw, hsc, hlen, hstop, hpath, hap, hno, hso⟩ := norm_pack ws p h0
    rw [hN] at e3
    have hst : stepsP p ws = stI ws [] p := by unfold stepsP; rw [if_neg h0]
    rw [hst] at e1 e2
    cases hf : fstL (stI ws [] p) with
    | none =>
      obtain ⟨hqp, hL0⟩ := hno hf
      rw [hqp, hL0] at e3
      simp [h0, hf] at e1 e2
      have e4 := equalPlans_eq p hp p
      rw [Pn.eqb_refl] at e4
      clear hN hap hsc hstop hpath hno hso hst hqp hw hq
      simp only [Pn.cells_eq p] at *
      simp [stpsL] at e3
      simp [bytesI_length, hl, hd, e1, e2, e3, e4, c1, h0]
    | some s =>
      simp [h0, hf] at e1 e2
      have hne := hso s hf
      have hneL : L ≠ [] := fun h => by rw [h] at hne; exact hne rfl
      clear hN hap hsc hstop hpath hno hso hst hw hq
      simp only [Pn.cells_eq p, Pn.cells_eq q] at *
      simp [bytesI_length, hl, hd, e1, e2, e3, c1, h0, hne, hneL, stpsL_len]
theorem law_isNormal_calls (a:Option Addr) (len cap:Nat) (zs:List Int) (w:World)
  (h:(a=none∧len=0∧cap=0∧zs=[])∨∃ x,a=some x∧len≤cap∧cap≤maxLen∧zs.length=cap∧(∀ i,i < zs.length→w.cell? (x.add i)=some (.int .u8 (zs.getD i 0)))∧∀ n∈zs,(Lit.int .u8 n).wf=true) :
  Calls Tryz.prog 6 #[.slice a len cap] w fun e w'=>e=.returned (.bool true)∧RowKit.Below w.heap.size w w':=by
 obtain ⟨code,hc⟩:=bytes_rep h
 exact calls_true soundAp (.cons (.i hc) .nil) (law_isNormal code)
theorem law_normalizeWidth_calls (a:Option Addr) (len cap:Nat) (zs:List Int) (w:World)
  (h:(a=none∧len=0∧cap=0∧zs=[])∨∃ x,a=some x∧len≤cap∧cap≤maxLen∧zs.length=cap∧(∀ i,i < zs.length→w.cell? (x.add i)=some (.int .u8 (zs.getD i 0)))∧∀ n∈zs,(Lit.int .u8 n).wf=true) :
  Calls Tryz.prog 7 #[.slice a len cap] w fun e w'=>e=.returned (.bool true)∧RowKit.Below w.heap.size w w':=by
 obtain ⟨code,hc⟩:=bytes_rep h
 exact calls_true soundAp (.cons (.i hc) .nil) (law_normalizeWidth code)
theorem law_normalize_calls (a:Option Addr) (len cap:Nat) (zs:List Int) (w:World)
  (h:(a=none∧len=0∧cap=0∧zs=[])∨∃ x,a=some x∧len≤cap∧cap≤maxLen∧zs.length=cap∧(∀ i,i < zs.length→w.cell? (x.add i)=some (.int .u8 (zs.getD i 0)))∧∀ n∈zs,(Lit.int .u8 n).wf=true) :
  Calls Tryz.prog 10 #[.slice a len cap] w fun e w'=>e=.returned (.bool true)∧RowKit.Below w.heap.size w w':=by
 obtain ⟨code,hc⟩:=bytes_rep h
 exact calls_true soundAp (.cons (.i hc) .nil) (law_normalize code)
end Go.Proofs.YtjcjpbjpbbdnlaaGreat.P

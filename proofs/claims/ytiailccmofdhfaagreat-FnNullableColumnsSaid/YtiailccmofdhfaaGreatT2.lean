/- Part 2 of what the proof rests on: the executor and what it is worth, and the program's functions as it runs them. No condition. -/
import Derived.Test.YtiailccmofdhfaaGreatT1
import Derived.Still
import Derived.Below
set_option linter.unusedVariables false
set_option linter.unusedSimpArgs false
namespace Go.Av
section
variable {C:Ctx} {call:CallF} {ops:Array Oper} {base:Nat}
abbrev St2:=(Nat→AV)×Store
abbrev Ft:=List Nat×Bool
def Foot (all:List Oper) (t:Ft) (o:Oper) (S:St2):Prop :=
 wantA all S.1 o.guard=some true→(∀ x∈(touchI S.1 o.op).1,x∈t.1)∧((touchI S.1 o.op).2=false→Clo t.1 S.2)∧(t.2=true→(touchI S.1 o.op).2=true)
def Step (C:Ctx) (call:CallF) (all:List Oper) (base:Nat) (t:Ft) (i:Nat) (o:Oper) (S S':St2):Prop:=aOp C call all base i o S=some S'∧Foot all t o S
theorem step_local {t:Ft} {i:Nat} {o:Oper} {S S':St2} (h:Step C call ops.toList base t i o S S') :
 ∃ v U,S'=(putA S.1 o.dst v,applyU U S.2)∧(∀ p∈U,Wr t.1 (base+wide*i) t.2 p.1) ∧
   ∀ env' st',(∀ x∈opsOf o.op,ev env' x=ev S.1 x)→wantA ops.toList env' o.guard=wantA ops.toList S.1 o.guard→Agree t.1 S.2 st' →
     Step C call ops.toList base t i o (env',st') (putA env' o.dst v,applyU U st'):=by
 obtain⟨h1,h2⟩:=h
 unfold aOp at h1
 obtain⟨b,h3,h4⟩:=bnd_eq.1 h1
 cases b with
 | false =>
  simp only[Bool.false_eq_true,if_false,Option.some.injEq]at h4
  refine⟨_,[],h4.symm,by simp,fun env' st' hx hw _=>⟨?_,fun hh=>?_⟩⟩
  ·unfold aOp;simp only;rw[hw,h3];simp[applyU]
  ·simp only at hh;rw[hw,h3]at hh;simp at hh
 | true =>
  simp only[if_true]at h4
  obtain⟨p,h5,h6⟩:=bnd_eq.1 h4
  injection h6 with h6
  obtain⟨k1,k2,k3⟩:=h2 h3
  obtain⟨U,j1,j2,j3⟩:=stepOp_loc k2 k1 (show stepOp C call o.op S.1 S.2 _=some (p.1,p.2)from h5)
  refine⟨p.1,U,by rw[← h6,j2],fun q hq=>?_,fun env' st' hx hw hag=>⟨?_,fun _=>?_⟩⟩
  ·rcases j1 q hq with ⟨e1,e2⟩|e
   ·refine .inl ⟨?_,e2⟩
    cases ht:t.2 with
    | false=>rfl
    | true=>rw[k3 ht]at e1;cases e1
   ·exact .inr e
  ·unfold aOp
   simp only
   rw[hw,h3,bnd_some,if_pos rfl,stepOp_congr hx,show stepOp C call o.op S.1 st' (base+wide*i)=_ from j3 st' hag]
   rfl
  ·simp only
   rw[touchI_congr hx]
   exact⟨k1,fun e=>(k2 e).agree hag,k3⟩
def TApart (base:Nat) (t u:Ft) (i j:Nat):Prop :=
 ((∀ x∈t.1,x ∉ u.1)∨(t.2=true∧u.2=true))∧(∀ x∈u.1,¬ (base+wide*i≤x∧x<base+wide*i+wide))∧(∀ x∈t.1,¬ (base+wide*j≤x∧x<base+wide*j+wide))
theorem ev_put {env:Nat→AV} {dst:Option Tmp} {v:AV} {x:Operand} (h:∀ d,dst=some d→x≠.tmp d):ev (putA env dst v) x=ev env x:=by
 cases dst with
 | none=>rfl
 | some d =>
  cases x with
  | tmp t =>
   have hne:t≠d:=fun e=>h d rfl (by rw[e])
   simp[ev,putA,upd,hne]
  | _=>rfl
theorem opsOf_operands {op:Op} {x:Operand} (h:x∈opsOf op):x∈op.operands:=by
 cases op with
 | call c =>
  obtain⟨callee,args,ts⟩:=c
  cases callee with
  | builtin b=>have h:x∈args.toList:=h;simpa [Op.operands,Call.operands]using h
  | value f=>have h:x∈f::args.toList:=h;simpa [Op.operands,Call.operands]using h
  | invoke f m=>have h:x∈args.toList:=h;simp only[Op.operands,Call.operands];simp at h ⊢;exact .inr h
 | build t parts =>
  have:∀ l:List (Nat×Operand),partOps l=l.map (·.2):=fun l=>by induction l<;>simp_all [partOps]
  simp only[opsOf,this]at h
  simpa [Op.operands]using h
 | buildSlice t n parts =>
  have:∀ l:List (Nat×Operand),partOps l=l.map (·.2):=fun l=>by induction l<;>simp_all [partOps]
  simp only[opsOf,this]at h
  simpa [Op.operands]using h
 | slice t x lo hi mx =>
  simp only[opsOf,List.mem_cons,List.mem_append,Option.mem_toList]at h
  simp only[Op.operands]
  simp
  rcases h with h|h|h
  ·exact .inl h
  ·exact .inr (.inl h)
  ·exact .inr (.inr (.inl h))
 | makeFunc f first cs =>
  have h:x∈cs.toList:=h
  simp only[Op.operands];simp at h ⊢;exact .inr h
 | _=>first|(simp[opsOf]at h;done)|(simpa [opsOf,Op.operands]using h)
theorem ev_looks {o:Oper} {env:Nat→AV} {dst:Option Tmp} {v:AV} (h:∀ d,dst=some d→d ∉ o.looksAt ops):∀ x∈opsOf o.op,ev (putA env dst v) x=ev env x:=by
 intro x hx
 refine ev_put fun d hd e=>h d hd ?_
 subst e
 exact List.mem_append_left _ (List.mem_filterMap.2 ⟨.tmp d,by simpa using opsOf_operands hx,rfl⟩)
theorem want_looks {o:Oper} {env:Nat→AV} {dst:Option Tmp} {v:AV} (h:∀ d,dst=some d→d ∉ o.looksAt ops):wantA ops.toList (putA env dst v) o.guard=wantA ops.toList env o.guard:=by
 cases hg:o.guard with
 | none=>rfl
 | some p =>
  obtain⟨g,want⟩:=p
  simp only[wantA]
  have hl:ops.toList[g]?=ops[g]?:=by simp
  rw[hl]
  cases hd:(ops[g]?).bind (·.dst)with
  | none=>rfl
  | some t =>
   simp only[wantD]
   cases dst with
   | none=>rfl
   | some d =>
    have hne:t≠d:=fun e=>h d rfl (by subst e;simp[Oper.looksAt,hg,hd])
    simp[putA,upd,hne]
theorem putA_comm {env:Nat→AV} {x y:Option Tmp} {v u:AV} (h:∀ d,x=some d→y≠some d):putA (putA env x v) y u=putA (putA env y u) x v:=by
 cases x with
 | none=>rfl
 | some d =>
  cases y with
  | none=>rfl
  | some e =>
   have hne:d≠e:=fun q=>h d rfl (by rw[q])
   funext i
   simp only[putA,upd]
   by_cases h1:i=e
   ·subst h1;simp[Ne.symm hne]
   ·simp[h1]
theorem step_swap {t u:Ft} {i j:Nat} {oi oj:Oper} {S Si Sij:St2} (hne:i≠j) (hap:oi.apart ops oj=true) (ht:TApart base t u i j)
 (h1:Step C call ops.toList base t i oi S Si) (h2:Step C call ops.toList base u j oj Si Sij):∃ Sj,Step C call ops.toList base u j oj S Sj∧Step C call ops.toList base t i oi Sj Sij:=by
 obtain⟨a1,a2,a3⟩:=Oper.apart_spec hap
 obtain⟨v,U,rfl,hU,hi⟩:=step_local h1
 obtain⟨y,V,rfl,hV,hj⟩:=step_local h2
 obtain⟨d1,d2,d3⟩:=ht
 have n1:∀ p∈U,p.1 ∉ u.1:=fun p hp hm=>by
  rcases hU p hp with ⟨e1,e2⟩|e
  ·rcases d1 with d1|⟨d1,_⟩
   ·exact d1 _ e2 hm
   ·rw[d1]at e1;cases e1
  ·exact d2 _ hm e
 have n2:∀ p∈V,p.1 ∉ t.1:=fun p hp hm=>by
  rcases hV p hp with ⟨e1,e2⟩|e
  ·rcases d1 with d1|⟨_,d1⟩
   ·exact d1 _ hm e2
   ·rw[d1]at e1;cases e1
  ·exact d3 _ hm e
 have n3:∀ p∈U,∀ q∈V,p.1≠q.1:=fun p hp q hq e=>by
  rcases hV q hq with ⟨_,e2⟩|e2
  ·exact n1 p hp (e ▸ e2)
  ·rcases hU p hp with ⟨_,e3⟩|e3
   ·exact n2 q hq (e ▸ e3)
   ·rw[e]at e3
    apply hne
    unfold wide at e2 e3
    omega
 have s1:=hj S.1 S.2 (fun x hx=>(ev_looks a1 x hx).symm) (want_looks a1).symm (fun x hx=>(applyU_other fun p hp e=>n1 p hp (e ▸ hx)).symm)
 refine⟨_,s1,?_⟩
 have s2:=hi (putA S.1 oj.dst y) (applyU V S.2) (ev_looks a3) (want_looks a3) (fun x hx=>applyU_other fun p hp e=>n2 p hp (e ▸ hx))
 rw[putA_comm (x:=oi.dst) (y:=oj.dst) a2,← applyU_comm n3]
 exact s2
def aAny (C:Ctx) (call:CallF) (ops:Array Oper) (base:Nat) (T:Nat→Ft) (Q:St2→Prop):Nat→Array Bool→St2→Prop
 | 0,listed,S=>Region.ready .any ops listed=[]∧Q S
 | fuel+1,listed,S=>(Region.ready .any ops listed=[]→Q S) ∧
  ∀ i∈Region.ready .any ops listed,∃ o S',ops[i]?=some o∧Step C call ops.toList base (T i) i o S S'∧aAny C call ops base T Q fuel (listed.setIfInBounds i true) S'
def DC (ops:Array Oper) (listed:Array Bool):Prop:=∀ k ok,ops[k]?=some ok→listed.getD k false=true→∀ e∈ok.after,Region.binds .any e=true→listed.getD e.on false=true
theorem DC.step {listed:Array Bool} (h:DC ops listed) {j:Nat} {oj:Oper} (hj:ops[j]?=some oj) (hp:∀ e∈oj.after,Region.binds .any e=true→listed.getD e.on false=true):DC ops (listed.setIfInBounds j true):=by
 intro k ok hk hl e he hb
 have up:∀ m,listed.getD m false=true→(listed.setIfInBounds j true).getD m false=true:=fun m hm=>getD_set_true hm
 by_cases hjk:j=k
 ·subst hjk
  rw[hj]at hk;injection hk with hk;subst hk
  exact up _ (hp e he hb)
 ·rw[getD_set_ne false hjk]at hl
  exact up _ (h k ok hk hl e he hb)
theorem waitsA_yes {after:List Edge} {i:Nat} (h:waitsA after i=true):∃ e∈after,Region.binds .any e=true∧e.on=i:=by
 unfold waitsA at h
 rw[List.any_eq_true]at h
 obtain⟨e,he,hh⟩:=h
 simp only[Bool.and_eq_true,beq_iff_eq]at hh
 exact⟨e,he,hh.1,hh.2⟩
theorem waitsN_listed {listed:Array Bool} (hd:DC ops listed) {i:Nat}:∀ (n:Nat) (after:List Edge),(∀ e∈after,Region.binds .any e=true→listed.getD e.on false=true)→waitsN ops.toList n after i=true→listed.getD i false=true
 | 0,after,hp,h=>by
  obtain⟨e,he,hb,rfl⟩:=waitsA_yes h
  exact hp e he hb
 | n+1,after,hp,h=>by
  simp only[waitsN]at h
  split at h
  ·rename_i h1
   obtain⟨e,he,hb,rfl⟩:=waitsA_yes h1
   exact hp e he hb
  ·rw[List.any_eq_true]at h
   obtain⟨e,he,hh⟩:=h
   simp only[Bool.and_eq_true]at hh
   refine waitsN_listed hd n _ ?_ hh.2
   intro d hd' hb
   unfold aftersOf at hd'
   split at hd'
   ·rename_i o ho
    exact hd e.on o (by simpa using ho) (hp e he hh.1) d (by simpa using hd') hb
   ·cases hd'
theorem aAny_first {T:Nat→Ft} {Q:St2→Prop} {i:Nat} {oi:Oper} (hi:ops[i]?=some oi) :
 ∀ (fuel:Nat) (listed:Array Bool) (S S':St2),DC ops listed →
   (∀ j oj,ops[j]?=some oj→j≠i→listed.getD j true=false→(∀ e∈oj.after,Region.binds .any e=true→e.on≠i)→oi.apart ops oj=true∧(waitsN ops.toList 3 oj.after.toList i=false→waitsN ops.toList 3 oi.after.toList j=false→TApart base (T i) (T j) i j)) →
   i∈Region.ready .any ops listed→Step C call ops.toList base (T i) i oi S S' →
   aAny C call ops base T Q fuel (listed.setIfInBounds i true) S'→aAny C call ops base T Q (fuel+1) listed S:=by
 intro fuel
 induction fuel with
 | zero =>
  intro listed S S' _ _ hr hs H
  refine⟨fun h=>(by rw[h]at hr;cases hr),fun j hj=>?_⟩
  by_cases hji:j=i
  ·subst hji;exact⟨oi,S',hi,hs,H⟩
  ·have:=ready_mono hj hji
   rw[H.1]at this
   cases this
 | succ fuel ih =>
  intro listed S S' hdc hfree hr hs H
  refine⟨fun h=>(by rw[h]at hr;cases hr),fun j hj=>?_⟩
  by_cases hji:j=i
  ·subst hji;exact⟨oi,S',hi,hs,H⟩
  ·obtain⟨oj,Sij,hoj,hsj,Hj⟩:=H.2 j (ready_mono hj hji)
   obtain⟨hjun,oj',hoj',hall⟩:=mem_ready.1 hj
   rw[hoj]at hoj';injection hoj' with hoj';subst hoj'
   have notw:∀ {x y:Nat} {l:Array Bool},l.getD y true=false→l.getD y false=true→False:=fun {x y l} h0 h1=>by
    rcases Nat.lt_or_ge y l.size with h'|h'
    ·simp[h']at h0 h1;rw[h0]at h1;cases h1
    ·simp[Array.getElem?_eq_none h']at h1
   have hnot:∀ e∈oj.after,Region.binds .any e=true→e.on≠i:=fun e he hb heq=>by
    have h1:=hall e he hb
    have h0:=(mem_ready.1 hr).1
    rw[heq]at h1
    exact notw (x:=0) h0 h1
   obtain⟨hiun,oi',hoi',halli⟩:=mem_ready.1 hr
   rw[hi]at hoi';injection hoi' with hoi';subst hoi'
   have hw1:waitsN ops.toList 3 oj.after.toList i=false:=by
    cases hq:waitsN ops.toList 3 oj.after.toList i with
    | false=>rfl
    | true=>exact(notw (x:=0) hiun (waitsN_listed hdc 3 _ (fun e he hb=>hall e (by simpa using he) hb) hq)).elim
   have hw2:waitsN ops.toList 3 oi.after.toList j=false:=by
    cases hq:waitsN ops.toList 3 oi.after.toList j with
    | false=>rfl
    | true=>exact(notw (x:=0) hjun (waitsN_listed hdc 3 _ (fun e he hb=>halli e (by simpa using he) hb) hq)).elim
   obtain⟨hap,hta⟩:=hfree j oj hoj hji hjun hnot
   obtain⟨Sj,k1,k2⟩:=step_swap (Ne.symm hji) hap (hta hw1 hw2) hs hsj
   refine⟨oj,Sj,hoj,k1,ih (listed.setIfInBounds j true) Sj Sij (hdc.step hoj fun e he hb=>hall e he hb) ?_ (ready_mono hr (Ne.symm hji)) k2 (by rw[Array.setIfInBounds_comm _ _ hji];exact Hj)⟩
   intro k ok hk hki hun hno
   refine hfree k ok hk hki ?_ hno
   by_cases hjk:j=k
   ·subst hjk;exact hjun
   ·rw[getD_set_ne true hjk]at hun;exact hun
def LexL (C:Ctx) (call:CallF) (all:List Oper) (base:Nat):List Oper→List Ft→Nat→St2→St2→Prop
 | [],_,_,S,S'=>S=S'
 | o::os,t::ts,i,S,S'=>∃ S1,Step C call all base t i o S S1∧LexL C call all base os ts (i+1) S1 S'
 | _::_,[],_,_,_=>False
theorem aAny_lex {T:Nat→Ft} {Q:St2→Prop} (hT:∀ i j oi oj,ops[i]?=some oi→ops[j]?=some oj→i≠j→waitsN ops.toList 3 oj.after.toList i=false→waitsN ops.toList 3 oi.after.toList j=false→TApart base (T i) (T j) i j) :
 ∀ (l:List Oper) (ts:List Ft) (k:Nat) (listed:Array Bool) (S S':St2),DC ops listed→(∀ j,l[j]?=ops[k+j]?)→(∀ j t,ts[j]?=some t→T (k+j)=t) →
   Region.lexFrom .any ops l.length k listed=true→LexL C call ops.toList base l ts k S S'→Q S'→aAny C call ops base T Q l.length listed S
 | [],_,_,_,S,S',_,_,_,hB,h,hQ=>by
  simp only[LexL]at h;subst h
  exact⟨by simpa [Region.lexFrom]using hB,hQ⟩
 | o::l,[],_,_,_,_,_,_,_,_,h,_=>by simp[LexL]at h
 | o::l,t::ts,k,listed,S,S',hdc,hl,ht,hB,h,hQ=>by
  have h0:ops[k]?=some o:=by simpa using (hl 0).symm
  simp only[List.length_cons,Region.lexFrom,Bool.and_eq_true]at hB
  obtain⟨⟨hr,hf⟩,hB'⟩:=hB
  obtain⟨S1,h1,h2⟩:=h
  have htk:T k=t:=by simpa using ht 0 t rfl
  rw[← htk]at h1
  have hrk:k∈Region.ready .any ops listed:=by simpa using hr
  refine aAny_first h0 l.length listed S S1 hdc (fun j oj hj hne hun hno=>⟨Region.free_spec h0 hf j oj hj hne hun hno,fun hn1 hn2=>hT k j o oj h0 hj (Ne.symm hne) hn1 hn2⟩) hrk h1 ?_
  obtain⟨_,o',ho',hall⟩:=mem_ready.1 hrk
  rw[h0]at ho';injection ho' with ho';subst ho'
  exact aAny_lex hT l ts (k+1) _ S1 S' (hdc.step h0 fun e he hb=>hall e he hb) (fun j=>by have:=hl (j+1);simpa [Nat.add_assoc,Nat.add_comm 1 j]using this)
   (fun j u hu=>by have:=ht (j+1) u (by simpa using hu);simpa [Nat.add_assoc,Nat.add_comm 1 j]using this) hB' h2 hQ
theorem aAny_sound (hC:CtxOk C) (hcall:CallOk C call) {T:Nat→Ft} {QA:St2→Prop} {Q:Exit→Act→World→Prop} {nt:Nat} {ds:List Deferred} {ρ:Option Nat} {w0:World} {m0:Mem} {φ0:Pl} (hs:∀ o∈ops,operOk nt o=true)
 (hQ:∀ S a w,QA S→ARel ds w0 m0 φ0 nt (fun _=>True) S.1 S.2 a w→Q .normal a w) :
 ∀ (fuel:Nat) (listed:Array Bool) (S:St2) (a:Act) (w:World),aAny C call ops base T QA fuel listed S→ARel ds w0 m0 φ0 nt (okIn base fun j=>listed.getD j false=true) S.1 S.2 a w→wpAnyIn (FR ρ) 0 C.P .any ops Q fuel listed a w:=by
 have drop:∀ {ok:Nat→Prop} {S:St2} {a:Act} {w:World},ARel ds w0 m0 φ0 nt ok S.1 S.2 a w→ARel ds w0 m0 φ0 nt (fun _=>True) S.1 S.2 a w:=by
  rintro ok S a w ⟨⟨m,φ,k1,k2,k3,k4,k7⟩,k5,k6⟩
  exact⟨⟨m,φ,k1,k2,k3,fun _ _=>trivial,k7⟩,k5,k6⟩
 intro fuel
 induction fuel with
 | zero=>intro listed S a w h hr;exact⟨h.1,hQ S a w h.2 (drop hr)⟩
 | succ fuel ih =>
  intro listed S a w h hr
  refine⟨fun h0=>hQ S a w (h.1 h0) (drop hr),fun i hi=>?_⟩
  obtain⟨o,S',ho,⟨hstep,_⟩,hnext⟩:=h.2 i hi
  have hun:=(mem_ready.1 hi).1
  have hlt:i<listed.size:=by
   rcases Nat.lt_or_ge i listed.size with h'|h'
   ·exact h'
   ·simp[Array.getElem?_eq_none h']at hun
  have hdn:¬ (listed.getD i false=true):=by
   intro h1
   simp[hlt]at hun h1
   rw[hun]at h1;cases h1
  refine wpOp_sound hC hcall (dn:=fun j=>listed.getD j false=true) (base:=base) ho (hs o (Array.mem_of_getElem? ho)) hdn hstep hr fun a' w' hr'=>ih _ S' a' w' hnext ?_
  obtain⟨⟨m,φ,k1,k2,k3,k4,k7⟩,k5,k6⟩:=hr'
  refine⟨⟨m,φ,k1,k2,k3,fun id hne=>okIn_mono (fun j hj=>?_) (k4 id hne),k7⟩,k5,k6⟩
  rcases hj with hj|rfl
  ·exact getD_set_true hj
  ·simp[hlt]
def Chk (all:List Oper) (e:Nat×List Nat×Bool) (t:Ft) (o:Oper):Prop:=noneOf t.1 e.2.1=true∨(t.2=true∧e.2.2=true)∨waitsN all 3 o.after.toList e.1=true
def PairsL (base:Nat) (all os:List Oper) (ts:List Ft) (i:Nat) (log:List (Nat×List Nat×Bool)):Prop :=
 ∀ j o t,os[j]?=some o→ts[j]?=some t→oldOk base all o.after.toList t.1=true∧(∀ e∈log,Chk all e t o)∧∀ k t',k<j→ts[k]?=some t'→t'.1≠[]→Chk all (i+k,t') t o
theorem noneOf_spec:∀ {xs ys:List Nat},noneOf xs ys=true→∀ x∈xs,x ∉ ys
 | [],_,_=>by simp
 | x::xs,ys,h=>by
  simp only[noneOf,Bool.and_eq_true,Bool.not_eq_true']at h
  intro y hy hm
  rcases List.mem_cons.1 hy with rfl|hy
  ·rw[hasId_iff.2 hm]at h;cases h.1
  ·exact noneOf_spec h.2 y hy hm
theorem allIn_spec:∀ {xs ys:List Nat},allIn xs ys=true→∀ x∈xs,x∈ys
 | [],_,_=>by simp
 | x::xs,ys,h=>by
  simp only[allIn,Bool.and_eq_true]at h
  intro y hy
  rcases List.mem_cons.1 hy with rfl|hy
  ·exact hasId_iff.1 h.1
  ·exact allIn_spec h.2 y hy
theorem logOk_spec {all:List Oper} {after:List Edge} {ns:List Nat} {ro:Bool}:∀ {log:List (Nat×List Nat×Bool)},logOk all after ns ro log=true→∀ e∈log,noneOf ns e.2.1=true∨(ro=true∧e.2.2=true)∨waitsN all 3 after e.1=true
 | [],_=>by simp
 | e::log,h=>by
  simp only[logOk,Bool.and_eq_true,Bool.or_eq_true]at h
  intro d hd
  rcases List.mem_cons.1 hd with rfl|hd
  ·have h1:=h.1
   split at h1
   ·rename_i hc
    rcases hc with hc|hc
    ·exact .inl hc
    ·exact .inr (.inl hc)
   ·exact .inr (.inr h1)
  ·exact logOk_spec h.2 d hd
theorem idsOfBs_mem (st:Store):∀ {l:List Nat} {i j:Nat},i∈l→j∈idsOfB (st i)→j∈idsOfBs st l
 | [],_,_,h,_=>by cases h
 | a::l,i,j,h,k=>by
  simp only[idsOfBs,List.mem_append]
  rcases List.mem_cons.1 h with rfl|h
  ·exact .inl k
  ·exact .inr (idsOfBs_mem st h k)
theorem lex_of_run:∀ (os:List Oper) (i:Nat) (R R':RS),runOps C call ops.toList true base os i R=some R' →
 ∃ ts,ts.length=os.length∧LexL C call ops.toList base os ts i (R.env,R.st) (R'.env,R'.st)∧PairsL base ops.toList os ts i R.log
 | [],i,R,R',h=>by
  simp only[runOps,Option.some.injEq]at h;subst h
  exact⟨[],rfl,rfl,by intro j o t h;simp at h⟩
 | o::os,i,R,R',h=>by
  simp only[runOps]at h
  obtain⟨b,h1,h2⟩:=bnd_eq.1 h
  cases b with
  | true =>
   simp only[if_true]at h2
   obtain⟨h3,h4⟩:=tst_eq.1 h2
   obtain⟨p,h5,h6⟩:=bnd_eq.1 h4
   obtain⟨ts,k0,k1,k2⟩:=lex_of_run os (i+1) _ R' h6
   simp only[chkA,if_true,chkT,Bool.and_eq_true]at h3
   obtain⟨c1,c2,c3,c4⟩:=h3
   let t:Ft:=((touchA R.st (touchI R.env o.op)).1,(touchI R.env o.op).2)
   refine⟨t::ts,by simp[k0],⟨_,⟨?_,fun _=>⟨fun x hx=>allIn_spec c1 x hx,fun e x hx y hy=>allIn_spec (by rw[e]at c2;exact c2) y (idsOfBs_mem _ hx hy),fun h=>h⟩⟩,k1⟩,?_⟩
   ·unfold aOp;exact bnd_eq.2 ⟨true,h1,by simp only[if_true];exact bnd_eq.2 ⟨p,h5,rfl⟩⟩
   ·intro j o' t' ho ht
    cases j with
    | zero =>
     simp at ho ht;subst ho;subst ht
     exact⟨c3,fun e he=>logOk_spec c4 e he,fun k _ hk=>by omega⟩
    | succ j =>
     obtain⟨q1,q2,q3⟩:=k2 j o' t' (by simpa using ho) (by simpa using ht)
     have hmem:∀ e∈R.log,e∈newLog true o i R:=by
      intro e he
      simp only[newLog,if_true]
      unfold addLog
      split
      ·exact he
      ·exact List.mem_cons_of_mem _ he
     refine⟨q1,fun e he=>q2 e (hmem e he),fun k u hk hu hne=>?_⟩
     cases k with
     | zero =>
      simp at hu;subst hu
      have:(i,t)∈newLog true o i R:=by
       simp only[newLog,if_true]
       unfold addLog
       split
       ·rename_i hq;exact absurd hq hne
       ·rename_i hq;rw[← hq];exact List.mem_cons_self
      exact q2 _ this
     | succ k =>
      have:=q3 k u (by omega) (by simpa using hu) hne
      rwa [show i+1+k=i+(k+1)by omega]at this
  | false =>
   simp only[Bool.false_eq_true,if_false]at h2
   obtain⟨ts,k0,k1,k2⟩:=lex_of_run os (i+1) _ R' h2
   refine⟨([],true)::ts,by simp[k0],⟨_,⟨?_,fun hh=>?_⟩,k1⟩,?_⟩
   ·unfold aOp;exact bnd_eq.2 ⟨false,h1,by simp⟩
   ·rw[show wantA ops.toList R.env o.guard=some false from h1]at hh;simp at hh
   ·intro j o' t' ho ht
    cases j with
    | zero =>
     simp at ho ht;subst ho;subst ht
     exact⟨rfl,fun e _=>.inl rfl,fun k _ hk=>by omega⟩
    | succ j =>
     obtain⟨q1,q2,q3⟩:=k2 j o' t' (by simpa using ho) (by simpa using ht)
     refine⟨q1,q2,fun k u hk hu hne=>?_⟩
     cases k with
     | zero=>simp at hu;subst hu;exact absurd rfl hne
     | succ k =>
      have:=q3 k u (by omega) (by simpa using hu) hne
      rwa [show i+1+k=i+(k+1)by omega]at this
theorem oldOk_spec {base:Nat} {all:List Oper} {after:Array Edge}:∀ {ns:List Nat},oldOk base all after.toList ns=true→∀ x∈ns,∀ i,waitsN all 3 after.toList i=false→¬ (base+wide*i≤x∧x<base+wide*i+wide)
 | [],_=>by simp
 | n::ns,h=>by
  simp only[oldOk,Bool.and_eq_true]at h
  intro x hx i hi hh
  rcases List.mem_cons.1 hx with rfl|hx
  ·have h1:=h.1
   split at h1
   ·omega
   ·have:(x-base) / wide=i:=by unfold wide at *;omega
    rw[this,hi]at h1;cases h1
  ·exact oldOk_spec h.2 x hx i hi hh
theorem draw_ok (hC:CtxOk C) (hm:C.P.follows .mixedOrders=true) {call:CallF} (hcall:CallOk C call):DrawOk C call:=by
 intro ops id base nt R' env st ds ρ w0 m0 φ0 a w Q hs hlex hrun hr hQ
 simp only[Region.lexB,Bool.and_eq_true]at hlex
 obtain⟨ts,hlen,hlx,hp⟩:=lex_of_run _ _ _ _ hrun
 let T:Nat→Ft:=fun i=>(ts[i]?).getD ([],true)
 have hget:∀ i o,ops[i]?=some o→∃ t,ts[i]?=some t∧T i=t:=fun i o ho=>by
  have hlt:i<ops.toList.length:=by simpa using (Array.getElem?_eq_some_iff.1 ho).1
  rw[← hlen]at hlt
  exact⟨ts[i],List.getElem?_eq_getElem hlt,by simp[T,List.getElem?_eq_getElem hlt]⟩
 have hT:∀ i j oi oj,ops[i]?=some oi→ops[j]?=some oj→i≠j→waitsN ops.toList 3 oj.after.toList i=false→waitsN ops.toList 3 oi.after.toList j=false→TApart base (T i) (T j) i j:=by
  intro i j oi oj hi hj hne hji hij
  obtain⟨ti,gi,ei⟩:=hget i oi hi
  obtain⟨tj,gj,ej⟩:=hget j oj hj
  rw[ei,ej]
  obtain⟨pi1,_,pi3⟩:=hp i oi ti (by simpa using hi) gi
  obtain⟨pj1,_,pj3⟩:=hp j oj tj (by simpa using hj) gj
  refine⟨?_,fun x hx=>oldOk_spec pj1 x hx i hji,fun x hx=>oldOk_spec pi1 x hx j hij⟩
  rcases Nat.lt_or_gt_of_ne hne with h|h
  ·by_cases he:ti.1=[]
   ·rw[he];exact .inl (by simp)
   ·have:=pj3 i ti h gi he
    rw[Nat.zero_add]at this
    rcases this with q|q|q
    ·exact .inl fun x hx hm=>noneOf_spec q x hm hx
    ·exact .inr ⟨q.2,q.1⟩
    ·rw[hji]at q;cases q
  ·by_cases he:tj.1=[]
   ·rw[he];exact .inl (by simp)
   ·have:=pi3 j tj h gj he
    rw[Nat.zero_add]at this
    rcases this with q|q|q
    ·exact .inl fun x hx hm=>noneOf_spec q x hx hm
    ·exact .inr q
    ·rw[hij]at q;cases q
 refine wpIn_region_any hm (aAny_sound (QA:=fun S=>S=(R'.env,R'.st)) (base:=base) (T:=T) hC hcall hs (fun S a w h1 h2=>by subst h1;exact hQ a w h2) _ _ (env,st) a _ ?_ ?_)
 ·have:=aAny_lex (C:=C) (call:=call) (base:=base) (T:=T) (Q:=fun S=>S=(R'.env,R'.st)) hT ops.toList ts 0 (Array.replicate ops.size false) (env,st) (R'.env,R'.st) (by intro k ok _ hl;exfalso;rcases Nat.lt_or_ge k ops.size with h'|h'<;>simp[h',Array.getElem?_eq_none]at hl) (by simp)
   (fun j t ht=>by simp[T,ht]) (by simpa using hlex.2) hlx rfl
  simpa using this
 ·obtain⟨⟨m,φ,k1,k2,k3,k4,k7⟩,k5,k6⟩:=hr
  exact⟨⟨m,φ,k1.drew,k2,k3.trans (.drew w m φ),fun id hne=>.inl (k4 id hne),k7.adv (.drew w m φ)⟩,k5,k6⟩
end
theorem zeros_ok (P:Program):ZerosOk P:=fun _ _ h=>zeroOf_one h
def fieldTest (P:Program):Bool:=(List.range P.types.size).all fun t=>match P.underlying t with
 | some (.struct fs)=>fs.toList.all fun f=>(szOf P f.type).isSome
 | some (.array _ e)=>(szOf P e).isSome
 | _=>true
theorem fields_ok {P:Program} (h:fieldTest P=true):FieldsOk P:=by
 constructor
 ·intro t fs hlt hu f hf
  have:=List.all_eq_true.1 h t (List.mem_range.2 hlt)
  rw[hu]at this
  exact Option.isSome_iff_exists.1 (List.all_eq_true.1 this f (by simpa using hf))
 ·intro t n e hlt hu
  have:=List.all_eq_true.1 h t (List.mem_range.2 hlt)
  rw[hu]at this
  exact Option.isSome_iff_exists.1 this
def fnTest (P:Program):Bool:=P.funcs.toList.all fun fn=>(fn.name != "runtime.NumGoroutine") && match fn.body with
 | some c=>codeOk fn.ntmps c
 | none=>true
theorem fns_ok {P:Program} (h:fnTest P=true):FnsOk P:=by
 intro g fn c hf hb
 have:=List.all_eq_true.1 h fn (List.mem_of_getElem? (by simpa using hf))
 simp only[Bool.and_eq_true,bne_iff_ne]at this
 rw[hb]at this
 exact this
def eqTest (P:Program) (t:TypeId):Bool:=match P.underlying t with
 | some (.struct fs)=>match fs.toList with
  | [fb,fn]=>!P.stoodInHeld t && (!P.eqGuardType P.depth t && (fb.name != "_" && (fn.name != "_" && (fb.offset == 0 && (fn.offset == 1 && (match P.underlying fb.type,P.underlying fn.type with
   | some .bool,some (.int _)=>true
   | _,_=>false))))))
  | _=>false
 | _=>false
theorem eq_ok {P:Program} {t:TypeId} (h:eqTest P t=true):EqOk P t:=by
 unfold eqTest at h
 split at h
 ·rename_i fs hu
  split at h
  ·rename_i fb fn hfs
   simp only[Bool.and_eq_true,Bool.not_eq_true',bne_iff_ne,beq_iff_eq]at h
   obtain⟨h1,h2,h3,h4,h5,h6,h7⟩:=h
   split at h7
   ·rename_i k hb hn
    refine⟨fb,fn,k,?_,h1,h2,h3,h4,h5,h6,hb,hn⟩
    rw[hu]
    have:fs=#[fb,fn]:=by apply Array.ext';simpa using hfs
    rw[this]
   ·cases h7
  ·cases h
 ·cases h
theorem sound_ok {C:Ctx} (hf:fieldTest C.P=true) (hn:fnTest C.P=true) (he:∀ t,C.eqT t=true→eqTest C.P t=true) (hm:C.P.follows .mixedOrders=true) (hp:PrimOk C):SoundOk C :=
 have hc:CtxOk C:=⟨zeros_ok _,fields_ok hf,fun t ht=>eq_ok (he t ht)⟩
 ⟨hc,fns_ok hn,fun _ hcall=>draw_ok hc hm hcall,hp⟩
theorem prim_none {C:Ctx} (h:∀ g,C.prim g=none):PrimOk C :=
 ⟨fun g args st p hp=>(by unfold primCall at hp;rw[h g]at hp;cases hp),fun g args st r s hp=>(by unfold primCall at hp;rw[h g]at hp;cases hp)⟩
structure Val where
 null:Bool
 n:Int
 deriving DecidableEq
inductive Ex where
 | mk (kind col:Int) (val:Val) (kids:List Ex)
def Ex.kind:Ex→Int | .mk k _ _ _=>k
def Ex.col:Ex→Int | .mk _ c _ _=>c
def Ex.val:Ex→Val | .mk _ _ v _=>v
def Ex.kids:Ex→List Ex | .mk _ _ _ ks=>ks
def Val.cells (v:Val):List IV:=[.bool v.null, .int v.n]
mutual
def Ex.cells:Ex→List IV
 | .mk k c v ks=>[.int k, .int c, .bool v.null, .int v.n, .isl (Ex.cellsL ks)]
def Ex.cellsL:List Ex→List (List IV)
 | []=>[]
 | e::es=>e.cells::Ex.cellsL es
end
theorem Ex.ind {P:Ex→Prop} (h:∀ k c v ks,(∀ e∈ks,P e)→P (.mk k c v ks)):(e:Ex)→P e
 | .mk k c v ks=>h k c v ks fun e he=>Ex.ind h e
termination_by e=>SizeOf.sizeOf e
decreasing_by
 have:=List.sizeOf_lt_of_mem he
 simp;omega
theorem Ex.cells_eq (e:Ex):e.cells=[.int e.kind, .int e.col, .bool e.val.null, .int e.val.n, .isl (Ex.cellsL e.kids)]:=by
 cases e;simp[Ex.cells,Ex.kind,Ex.col,Ex.val,Ex.kids]
@[simp] theorem Ex.cellsL_length:∀ (l:List Ex),(Ex.cellsL l).length=l.length
  | []=>by simp[Ex.cellsL]
  | _::l=>by simp[Ex.cellsL,Ex.cellsL_length l]
theorem Ex.cellsL_nth:∀ {l:List Ex} {i:Nat} {e:Ex},l[i]?=some e→nthE (Ex.cellsL l) i=some e.cells
 | [],_,_,h=>by simp at h
 | a::l,0,e,h=>by simp at h;subst h;simp[Ex.cellsL,nthE]
 | a::l,i+1,e,h=>by simp only[Ex.cellsL,nthE];exact Ex.cellsL_nth (by simpa using h)
@[simp] theorem Ex.cells_length (e:Ex):e.cells.length=5:=by rw[Ex.cells_eq];rfl
@[simp] theorem Ex.cells_take (e:Ex):takeE 5 e.cells=some e.cells:=by rw[Ex.cells_eq];rfl
@[simp] theorem Ex.cellsL_widths:∀ (l:List Ex),widths 5 (Ex.cellsL l)=true
  | []=>by simp[Ex.cellsL,widths]
  | e::l=>by
   have:=Ex.cellsL_widths l
   simp only[widths]at this
   simp[Ex.cellsL,widths,Ex.cells_length,this]
theorem Ex.cellsL_append (a b:List Ex):Ex.cellsL (a++b)=Ex.cellsL a++Ex.cellsL b:=by
 induction a with
 | nil=>simp[Ex.cellsL]
 | cons e a ih=>simp[Ex.cellsL,ih]
@[simp] theorem Ex.cellsL_take:∀ (n:Nat) (l:List Ex),(Ex.cellsL l).take n=Ex.cellsL (l.take n)
  | 0,l=>by simp[Ex.cellsL]
  | n+1,[]=>by simp[Ex.cellsL]
  | n+1,e::l=>by simp[Ex.cellsL,Ex.cellsL_take n l]
theorem Ex.cellsL_snoc (l:List Ex) (e:Ex):Ex.cellsL (l++[e])=Ex.cellsL l++[e.cells]:=by
 rw[Ex.cellsL_append];simp[Ex.cellsL]
theorem take_snoc {α:Type} {l:List α} {i:Nat} {a:α} (h:l[i]?=some a):l.take (i+1)=l.take i++[a]:=by
 rw[List.take_add_one,h];rfl
mutual
def Ex.size:Ex→Nat
 | .mk _ _ _ ks=>1+Ex.sizeL ks
def Ex.sizeL:List Ex→Nat
 | []=>0
 | e::es=>e.size+Ex.sizeL es
end
theorem Ex.size_eq (e:Ex):e.size=1+Ex.sizeL e.kids:=by cases e;simp[Ex.size,Ex.kids]
theorem Ex.size_pos (e:Ex):1≤e.size:=by rw[Ex.size_eq];omega
theorem Ex.sizeL_length:∀ (l:List Ex),l.length≤Ex.sizeL l
 | []=>by simp[Ex.sizeL]
 | e::es=>by have:=Ex.sizeL_length es;have:=Ex.size_pos e;simp[Ex.sizeL];omega
theorem Ex.sizeL_mem:∀ {l:List Ex} {e:Ex},e∈l→e.size≤Ex.sizeL l
 | a::l,e,h=>by
  rcases List.mem_cons.1 h with rfl|h
  ·simp[Ex.sizeL]
  ·have:=Ex.sizeL_mem h;simp[Ex.sizeL];omega
@[simp] theorem idsOfL_impI:∀ l:List IV,idsOfL (impI l)=[]
  | []=>rfl
  | _::l=>by simp[impI,idsOfL,idsOf,idsOfL_impI l]
@[simp] theorem renL_impI (r:Nat→Option Nat):∀ l:List IV,renL r (impI l)=impI l
  | []=>rfl
  | _::l=>by simp[impI,renL,ren,renL_impI r l]
@[simp] theorem allI_impI:∀ l:List IV,allI (impI l)=some l
  | []=>rfl
  | _::l=>by simp[impI,allI,allI_impI l,consI]
@[simp] theorem Ex.cells_takeI (e:Ex):takeE 5 (impI e.cells)=some (impI e.cells):=by rw[Ex.cells_eq];rfl
@[simp] theorem Ex.cells_spliceI (e:Ex) (a b c d f:AV):splice [a,b,c,d,f] 0 (impI e.cells)=some (impI e.cells):=by rw[Ex.cells_eq];rfl
def kidsK (n:Int):Int:=if n=1∨n=2 then 0 else if n=10∨n=11 then 1 else if 3≤n∧n≤9 then 2 else -1
def okWidth (w:Int):Bool:=decide (1≤w∧w≤6)
def Val.ok (v:Val):Bool:=if v.null then decide (v.n=0)else decide (-9999≤v.n∧v.n≤9999)
def Val.zero:Val:=⟨false,0⟩
def Ex.zero:Ex:=.mk 0 0 Val.zero []
mutual
def Ex.thin:Ex→Prop
 | .mk _ _ _ ks=>ks.length<1000000000∧Ex.thinL ks
def Ex.thinL:List Ex→Prop
 | []=>True
 | e::es=>e.thin∧Ex.thinL es
end
theorem Ex.thinL_iff:∀ (l:List Ex),Ex.thinL l↔∀ k∈l,k.thin
 | []=>by simp[Ex.thinL]
 | e::es=>by simp[Ex.thinL,Ex.thinL_iff es]
theorem Ex.thin_iff (e:Ex):e.thin↔e.kids.length<1000000000∧∀ k∈e.kids,k.thin:=by
 cases e;simp[Ex.thin,Ex.kids,Ex.thinL_iff]
def Ex.headOk (w:Int) (e:Ex):Bool:=if e.kind=1 then decide (0≤e.col) && (decide (e.col<w) && (!e.val.null && e.val.n == 0))else if e.kind=2 then decide (e.col=0) && e.val.ok else decide (e.col=0) && (!e.val.null && e.val.n == 0)
def Ex.vB (w:Int):Nat→Ex→Bool
 | 0,e=>decide ((e.kids.length:Int)=kidsK e.kind) && (decide (kidsK e.kind≤0) && e.headOk w)
 | n+1,e=>decide ((e.kids.length:Int)=kidsK e.kind) && (e.headOk w && e.kids.all (Ex.vB w n))
theorem Ex.head_cases (w:Int) (e:Ex):e.headOk w=false∨e.headOk w=true∧((e.kind=1∧0≤e.col∧e.col<w∧e.val.null=false∧e.val.n=0∧kidsK e.kind=0)∨(e.kind=2∧e.col=0∧Val.ok ⟨e.val.null,e.val.n⟩=true∧True∧True∧kidsK e.kind=0)∨(e.kind≠1∧e.kind≠2∧e.col=0∧e.val.null=false∧e.val.n=0∧True)):=by
 cases h:e.headOk w with
 | false=>exact .inl rfl
 | true =>
  refine .inr ⟨rfl,?_⟩
  unfold Ex.headOk at h
  by_cases h1:e.kind=1
  ·simp[h1]at h;simp[h1,h,kidsK]
  ·by_cases h2:e.kind=2
   ·simp[h2]at h;simp[h2,h,kidsK]
   ·simp[h1,h2]at h;simp[h1,h2,h]
def Ex.ok (w:Int) (e:Ex):Bool:=okWidth w && e.vB w 8
mutual
def Ex.sub (by_:List Ex):Ex→Ex
 | .mk k c v ks=>if k=1 then(by_[c.toNat]?).getD Ex.zero else .mk k c v (Ex.subL by_ ks)
def Ex.subL (by_:List Ex):List Ex→List Ex
 | []=>[]
 | e::es=>Ex.sub by_ e::Ex.subL by_ es
end
mutual
def Ex.ht:Ex→Nat
 | .mk _ _ _ ks=>Ex.htL ks
def Ex.htL:List Ex→Nat
 | []=>0
 | e::es=>max (1+e.ht) (Ex.htL es)
end
theorem Ex.ht_eq (e:Ex):e.ht=Ex.htL e.kids:=by cases e;simp[Ex.ht,Ex.kids]
theorem Ex.htL_le {n:Nat}:∀ (l:List Ex),Ex.htL l≤n↔∀ e∈l,1+e.ht≤n
 | []=>by simp[Ex.htL]
 | a::l=>by simp[Ex.htL,Nat.max_le,Ex.htL_le l]
theorem Ex.thin_of_size:∀ e:Ex,e.size<1000000000→e.thin:=by
 intro e
 induction e using Ex.ind with
 | h k c v ks ih =>
  intro hs
  rw[Ex.thin_iff]
  simp only[Ex.kids]
  have h1:=Ex.sizeL_length ks
  simp[Ex.size]at hs
  exact⟨by omega,fun e he=>ih e he (by have:=Ex.sizeL_mem he;omega)⟩
mutual
def Ex.wf (w:Int):Ex→Bool
 | .mk k c v ks=>decide ((ks.length:Int)=kidsK k) && (Ex.headOk w (.mk k c v ks) && Ex.wfL w ks)
def Ex.wfL (w:Int):List Ex→Bool
 | []=>true
 | e::es=>Ex.wf w e && Ex.wfL w es
end
theorem Ex.wfL_iff (w:Int):∀ l,Ex.wfL w l=l.all (Ex.wf w)
 | []=>by simp[Ex.wfL]
 | e::es=>by simp[Ex.wfL,Ex.wfL_iff w es]
theorem Ex.wf_eq (w:Int) (e:Ex):e.wf w=(decide ((e.kids.length:Int)=kidsK e.kind) && (e.headOk w && e.kids.all (Ex.wf w))):=by
 cases e;rw[Ex.wf,Ex.wfL_iff];rfl
theorem Ex.vB_eq (w:Int):∀ (n:Nat) (e:Ex),e.vB w n=(e.wf w && decide (e.ht≤n))
 | 0,e=>by
  rw[Ex.wf_eq,Ex.ht_eq,Bool.eq_iff_iff]
  simp only[Ex.vB,Bool.and_eq_true,decide_eq_true_eq]
  constructor
  ·rintro⟨h1,h2,h3⟩
   have:e.kids=[]:=by cases h:e.kids with
    | nil=>rfl
    | cons a l=>rw[h]at h1;simp at h1;omega
   simp[this,h3,Ex.htL]
   rw[this]at h1;simpa using h1
  ·rintro⟨⟨h1,h2,h3⟩,h4⟩
   have:e.kids=[]:=by cases h:e.kids with
    | nil=>rfl
    | cons a l=>rw[h]at h4;simp[Ex.htL]at h4
   rw[this]at h1
   simp at h1
   simp[this,← h1,h2]
 | n+1,e=>by
  rw[Ex.wf_eq,Ex.ht_eq,Bool.eq_iff_iff]
  simp only[Ex.vB,Bool.and_eq_true,decide_eq_true_eq,List.all_eq_true,Ex.htL_le]
  constructor
  ·rintro⟨h1,h2,h3⟩
   refine⟨⟨h1,h2,fun x hx=>?_⟩,fun x hx=>?_⟩
   ·have:=h3 x hx;rw[Ex.vB_eq w n x]at this;simp at this;exact this.1
   ·have:=h3 x hx;rw[Ex.vB_eq w n x]at this;simp at this;omega
  ·rintro⟨⟨h1,h2,h3⟩,h4⟩
   refine⟨h1,h2,fun x hx=>?_⟩
   rw[Ex.vB_eq w n x]
   have:=h4 x hx
   simp[h3 x hx];omega
theorem Ex.vB_size (w:Int):∀ (n:Nat) (e:Ex),e.vB w n=true→e.size+1≤2 ^ (n+1)
 | n,e,h=>by
  have hk:kidsK e.kind≤2:=by
   unfold kidsK;split;· omega
   split;· omega
   split<;>omega
  rw[Ex.size_eq]
  have hw:=h
  rw[Ex.vB_eq,Ex.wf_eq]at hw
  simp only[Bool.and_eq_true,decide_eq_true_eq]at hw
  obtain⟨⟨h1,h2,h3⟩,h4⟩:=hw
  cases n with
  | zero =>
   have:e.kids=[]:=by cases h:e.kids with
    | nil=>rfl
    | cons a l=>rw[Ex.ht_eq,h]at h4;simp[Ex.htL]at h4
   simp[this,Ex.sizeL]
  | succ n =>
   simp only[Ex.vB,Bool.and_eq_true,decide_eq_true_eq,List.all_eq_true]at h
   have key:∀ l:List Ex,(∀ x∈l,x.vB w n=true)→Ex.sizeL l+l.length≤l.length*2 ^ (n+1):=by
    intro l
    induction l with
    | nil=>intro _;simp[Ex.sizeL]
    | cons a l ih =>
     intro hl
     have a1:=Ex.vB_size w n a (hl a (by simp))
     have a2:=ih fun x hx=>hl x (by simp[hx])
     simp only[Ex.sizeL,List.length_cons,Nat.add_mul,Nat.one_mul]
     omega
   have a1:=key e.kids h.2.2
   have a2:e.kids.length≤2:=by omega
   have a3:e.kids.length*2 ^ (n+1)≤2*2 ^ (n+1):=Nat.mul_le_mul_right _ a2
   have a4:2 ^ (n+1+1)=2*2 ^ (n+1):=by rw[Nat.pow_succ];omega
   have a5:2≤2 ^ (n+1):=by rw[Nat.pow_succ];have:=Nat.one_le_two_pow (n:=n);omega
   rcases Nat.lt_or_ge 1 e.kids.length with h5|h5
   ·have:e.kids.length=2:=by omega
    rw[this]at a1;omega
   ·have:e.kids.length*2 ^ (n+1)≤1*2 ^ (n+1):=Nat.mul_le_mul_right _ h5
    have:=Nat.zero_le e.kids.length
    rcases Nat.eq_zero_or_pos e.kids.length with h6|h6
    ·rw[h6]at a1;omega
    ·omega
theorem Ex.ok_size {w:Int} {e:Ex} (h:e.ok w=true):e.size<1000:=by
 simp[Ex.ok]at h
 have:=Ex.vB_size w 8 e h.2
 omega
theorem Ex.wf_kids {w:Int} {e k:Ex} (h:e.wf w=true) (hk:k∈e.kids):k.wf w=true:=by
 rw[Ex.wf_eq]at h;simp at h;exact h.2.2 k hk
theorem Ex.wf_col {w:Int} {e:Ex} (h:e.wf w=true) (hk:e.kind=1):0≤e.col∧e.col<w∧e.kids=[]:=by
 rw[Ex.wf_eq]at h;simp[Ex.headOk,hk,kidsK]at h
 exact⟨h.2.1.1,h.2.1.2.1,h.1⟩
noncomputable def copyC (cs:List IV) (st:StL):Option (AV×StL):=@ite _ (∃ e:Ex,e.size<1000000000∧e.cells=cs) (Classical.propDecidable _) (some (.i (.agg cs),st)) none
noncomputable def copyE:List AV→StL→Option (AV×StL)
 | [.i (.iref cs)],[]=>copyC cs []
 | [.ownE 0 5 j 0],[some (.arr 5 es)]=>bnd es[j]? fun cs=>copyC cs [some (.arr 5 es)]
 | _,_=>none
theorem copyC_eq {e:Ex} {st:StL} (h:e.size<1000000000):copyC e.cells st=some (.i (.agg e.cells),st):=by
 unfold copyC
 exact if_pos ⟨e,h,rfl⟩
theorem copyC_some {cs:List IV} {st:StL} {r:AV×StL} (h:copyC cs st=some r):∃ e:Ex,e.size<1000000000∧cs=e.cells∧r=(.i (.agg e.cells),st):=by
 unfold copyC at h
 by_cases hc:∃ e:Ex,e.size<1000000000∧e.cells=cs
 ·rw[if_pos hc]at h
  obtain⟨e,h1,rfl⟩:=hc
  injection h with h
  exact⟨e,h1,rfl,h.symm⟩
 ·rw[if_neg hc]at h;cases h
theorem copyE_row {e:Ex} {es:List (List IV)} {j:Nat} (h:e.size<1000000000) (he:es[j]?=some e.cells):copyE [.ownE 0 5 j 0] [some (.arr 5 es)]=some (.i (.agg e.cells),[some (.arr 5 es)]):=by
 show(bnd es[j]? fun cs=>copyC cs [some (.arr 5 es)])=_
 rw[he];exact copyC_eq h
theorem copyE_some {args:List AV} {st:StL} {r:AV×StL} (h:copyE args st=some r):∃ e:Ex,e.size<1000000000∧r=(.i (.agg e.cells),st) ∧
 ((args=[.i (.iref e.cells)]∧st=[])∨∃ j es,args=[.ownE 0 5 j 0]∧st=[some (.arr 5 es)]∧es[j]?=some e.cells):=by
 unfold copyE at h
 split at h
 ·obtain⟨e,h1,rfl,rfl⟩:=copyC_some h
  exact⟨e,h1,rfl, .inl ⟨rfl,rfl⟩⟩
 ·rename_i j es
  obtain⟨cs,h0,h⟩:=bnd_eq.1 h
  obtain⟨e,h1,rfl,rfl⟩:=copyC_some h
  exact⟨e,h1,rfl, .inr ⟨j,es,rfl,rfl,h0⟩⟩
 ·cases h
theorem isl_inv {m:Mem} {es:List (List IV)} {v:Value} (h:IRep m (.isl es) v) :
 (es=[]∧∃ ao cap,v=.slice ao 0 cap)∨(es≠[]∧∃ b off k cap,v=.slice (some ⟨b,off,none⟩) es.length cap∧IElems m b off k es∧es.length≤cap):=by
 cases h with
 | isl0 ao cap hc=>exact .inl ⟨rfl,ao,cap,rfl⟩
 | isl hn he hc=>exact .inr ⟨hn,_,_,_,_,rfl,he,hc⟩
theorem lit_inv {m:Mem} {c v:Value} (h:IRep m (.lit c) v):v=c:=by cases h;rfl
theorem IAt.inv {m:Mem} {b o:Nat} {c:IV} {cs:List IV} (h:IAt m b o (c::cs)):∃ v,m b o=some v∧IRep m c v∧v.oneCell'=true∧IAt m b (o+1) cs:=by
 cases h with|cons a r q t=>exact⟨_,a,r,q,t⟩
structure ExAt (m:Mem) (b o:Nat) (e:Ex) (v:Value):Prop where
 c0:m b o=some (.int .i64 e.kind)
 c1:m b (o+1)=some (.int .i64 e.col)
 c2:m b (o+2)=some (.bool e.val.null)
 c3:m b (o+3)=some (.int .i64 e.val.n)
 c4:m b (o+4)=some v
 kids:IRep m (.isl (Ex.cellsL e.kids)) v
theorem exAt_of {m:Mem} {b o:Nat} {e:Ex} (h:IAt m b o e.cells):∃ v,ExAt m b o e v:=by
 rw[Ex.cells_eq]at h
 obtain⟨v0,a0,r0,-,h⟩:=h.inv
 obtain⟨v1,a1,r1,-,h⟩:=h.inv
 obtain⟨v2,a2,r2,-,h⟩:=h.inv
 obtain⟨v3,a3,r3,-,h⟩:=h.inv
 obtain⟨v4,a4,r4,-,-⟩:=h.inv
 rw[lit_inv r0]at a0;rw[lit_inv r1]at a1;rw[lit_inv r2]at a2;rw[lit_inv r3]at a3
 exact⟨v4,a0,a1,a2,a3,a4,r4⟩
theorem isl_one {m:Mem} {es:List (List IV)} {v:Value} (h:IRep m (.isl es) v):v.oneCell'=true:=by
 cases h<;>rfl
theorem of_exAt {m:Mem} {b o:Nat} {e:Ex} {v:Value} (h:ExAt m b o e v):IAt m b o e.cells:=by
 rw[Ex.cells_eq]
 exact .cons h.c0 (.lit _) rfl (.cons h.c1 (.lit _) rfl (.cons h.c2 (.lit _) rfl (.cons h.c3 (.lit _) rfl (.cons h.c4 h.kids (isl_one h.kids) (.nil _ _)))))
theorem elems_inv {m:Mem} {b o k:Nat} {e:Ex} {l:List Ex} (h:IElems m b o k (Ex.cellsL (e::l))):k=5∧IAt m b o e.cells∧IElems m b (o+5) 5 (Ex.cellsL l):=by
 simp only[Ex.cellsL]at h
 cases h with
 | cons a hk r =>
  rw[Ex.cells_length]at hk
  subst hk
  exact⟨rfl,a,r⟩
theorem elems_uniq {m:Mem} {b:Nat}:∀ {o k k':Nat} {l l':List Ex},(∀ e∈l,∀ e' b o,IAt m b o e.cells→IAt m b o e'.cells→e=e')→l.length=l'.length→IElems m b o k (Ex.cellsL l)→IElems m b o k' (Ex.cellsL l')→l=l'
 | _,_,_,[],[],_,_,_,_=>rfl
 | o,k,k',a::l,a'::l',ih,hl,h,h'=>by
  obtain⟨rfl,h1,h2⟩:=elems_inv h
  obtain⟨rfl,h3,h4⟩:=elems_inv h'
  rw[ih a (by simp) a' b o h1 h3,elems_uniq (fun e he=>ih e (by simp[he])) (by simpa using hl) h2 h4]
 | _,_,_,[],_::_,_,hl,_,_=>by simp at hl
 | _,_,_,_::_,[],_,hl,_,_=>by simp at hl
theorem isl_uniq {m:Mem} {l l':List Ex} {v:Value} (ih:∀ e∈l,∀ e' b o,IAt m b o e.cells→IAt m b o e'.cells→e=e') (h:IRep m (.isl (Ex.cellsL l)) v) (h':IRep m (.isl (Ex.cellsL l')) v):l=l':=by
 have nil:∀ {l:List Ex},Ex.cellsL l=[]→l=[]:=fun {l} e=>by cases l with|nil=>rfl|cons a l=>simp[Ex.cellsL]at e
 rcases isl_inv h with ⟨e1,ao,cap,hv⟩|⟨e1,b,off,k,cap,hv,hel,_⟩
 ·rcases isl_inv h' with ⟨e2,_⟩|⟨e2,b',off',k',cap',hv',_⟩
  ·rw[nil e1,nil e2]
  ·rw[hv]at hv';injection hv' with _ q _;rw[Ex.cellsL_length]at q;exact absurd (by cases l' with|nil=>rfl|cons a l=>simp at q) e2
 ·rcases isl_inv h' with ⟨e2,ao,cap',hv'⟩|⟨e2,b',off',k',cap',hv',hel',_⟩
  ·rw[hv]at hv';injection hv' with _ q _;rw[Ex.cellsL_length]at q;exact absurd (by cases l with|nil=>rfl|cons a l=>simp at q) e1
  ·rw[hv]at hv'
   injection hv' with q1 q2 _
   injection q1 with q1;injection q1 with q1 q3;subst q1;subst q3
   rw[Ex.cellsL_length,Ex.cellsL_length]at q2
   exact elems_uniq ih q2 hel hel'
theorem ex_uniq {m:Mem}:∀ (e e':Ex) (b o:Nat),IAt m b o e.cells→IAt m b o e'.cells→e=e':=by
 intro e
 induction e using Ex.ind with
 | h k c v ks ih =>
  intro e' b o h h'
  obtain⟨v1,h⟩:=exAt_of h
  obtain⟨v2,h'⟩:=exAt_of h'
  obtain⟨k',c',v',ks'⟩:=e'
  have e0:=h.c0.symm.trans h'.c0
  have e1:=h.c1.symm.trans h'.c1
  have e2:=h.c2.symm.trans h'.c2
  have e3:=h.c3.symm.trans h'.c3
  have e4:=h.c4.symm.trans h'.c4
  simp only[Ex.kind,Ex.col,Ex.val,Option.some.injEq,Value.int.injEq,Value.bool.injEq,true_and]at e0 e1 e2 e3 e4
  subst e0;subst e1;subst e4
  have hk:=h'.kids
  have:ks=ks':=isl_uniq (m:=m) (v:=v1) (fun e he e' b o=>ih e he e' b o) h.kids hk
  subst this
  obtain⟨a,n⟩:=v;obtain⟨a',n'⟩:=v'
  simp only at e2 e3
  subst e2;subst e3;rfl
def turn (m:Mem) (b o:Nat) (v:Value):Mem:=fun b' o'=>if b'=b∧o'=o then some v else m b' o'
theorem elems_lift {m m':Mem} {b:Nat}:∀ {o k:Nat} {l:List Ex},(∀ e∈l,∀ b o,IAt m b o e.cells→IAt m' b o e.cells)→IElems m b o k (Ex.cellsL l)→IElems m' b o k (Ex.cellsL l)
 | o,k,[],_,_=>by simp only[Ex.cellsL];exact .nil _ _ _
 | o,k,a::l,ih,h=>by
  obtain⟨rfl,h1,h2⟩:=elems_inv h
  simp only[Ex.cellsL]
  exact .cons (ih a (by simp) b o h1) (by simp) (elems_lift (fun e he=>ih e (by simp[he])) h2)
theorem isl_lift {m m':Mem} {l:List Ex} {v:Value} (ih:∀ e∈l,∀ b o,IAt m b o e.cells→IAt m' b o e.cells) (h:IRep m (.isl (Ex.cellsL l)) v):IRep m' (.isl (Ex.cellsL l)) v:=by
 generalize hes:Ex.cellsL l=es at h
 cases h with
 | isl0 ao cap hc=>exact .isl0 _ _ hc
 | isl hn he hc=>subst hes;exact .isl hn (elems_lift ih he) hc
theorem turn_at {m:Mem} {b o:Nat} {x:Ex} {v v':Value} (hx:ExAt m b o x v) (hv:IRep m (.isl (Ex.cellsL x.kids)) v'):∀ (e:Ex) (b1 o1:Nat),IAt m b1 o1 e.cells→IAt (turn m b (o+4) v') b1 o1 e.cells:=by
 intro e
 induction e using Ex.ind with
 | h k c vv ks ih =>
  intro b1 o1 h
  obtain⟨u,h⟩:=exAt_of h
  have hsl:∀ q:Value,m b (o+4)=some q→(∃ k n,q=.int k n)∨(∃ t,q=.bool t)→False:=by
   intro q hq hh
   rw[hx.c4]at hq;injection hq with hq;subst hq
   rcases isl_inv hx.kids with ⟨_,ao,cap,e⟩|⟨_,b',off,k',cap,e,_⟩<;>rcases hh with ⟨k,n,e'⟩|⟨t,e'⟩<;>rw[e]at e'<;>cases e'
  have low:∀ i q,m b1 (o1+i)=some q→((∃ k n,q=.int k n)∨(∃ t,q=.bool t))→turn m b (o+4) v' b1 (o1+i)=some q:=by
   intro i q hq hh
   unfold turn
   split
   ·rename_i e;rw[e.1,e.2]at hq;exact(hsl q hq hh).elim
   ·exact hq
  have c0:=low 0 _ (by simpa using h.c0) (.inl ⟨_,_,rfl⟩)
  have c1:=low 1 _ h.c1 (.inl ⟨_,_,rfl⟩)
  have c2:=low 2 _ h.c2 (.inr ⟨_,rfl⟩)
  have c3:=low 3 _ h.c3 (.inl ⟨_,_,rfl⟩)
  by_cases he:b1=b∧o1+4=o+4
  ·have hu:u=v:=by have:=h.c4;rw[he.1,he.2,hx.c4]at this;injection this with this;exact this.symm
   have hk:ks=x.kids:=by
    have a1:=h.kids;rw[hu]at a1
    exact isl_uniq (m:=m) (v:=v) (fun e he=>fun e' b o=>ex_uniq e e' b o) a1 hx.kids
   refine of_exAt (v:=v') ⟨by simpa using c0,c1,c2,c3,by unfold turn;rw[if_pos he],?_⟩
   rw[← hk]at hv
   exact isl_lift (fun e he b o=>ih e he b o) hv
  ·exact of_exAt (v:=u) ⟨by simpa using c0,c1,c2,c3,by unfold turn;rw[if_neg he];exact h.c4,isl_lift (fun e he b o=>ih e he b o) h.kids⟩
structure PF (B:Nat) (w:World) (m:Mem) (φ:Pl) (b o:Nat) (x:Ex):Prop where
 new:B≤b
 row:∃ (vs:List Value) (T:TypeId),w.heap[b]?=some (.cells vs.toArray T (0,0))
 free:Free φ b
 cel:IAt m b o x.cells
abbrev KL:=List ((Nat×Nat)×Ex)
theorem PF.lt {B:Nat} {w:World} {m:Mem} {φ:Pl} {b o:Nat} {x:Ex} (h:PF B w m φ b o x):b<w.heap.size:=by
 obtain⟨vs,T,e⟩:=h.row
 exact(Array.getElem?_eq_some_iff.1 e).1
theorem PF.adv {B:Nat} {w w':World} {m m':Mem} {φ φ':Pl} {b o:Nat} {x:Ex} (h:PF B w m φ b o x) (k:Adv w m φ w' m' φ'):PF B w' m' φ' b o x:=by
 refine⟨h.new,?_,k.range h.lt h.free,h.cel.mono k.mle⟩
 rw[k.block b h.lt h.free];exact h.row
theorem wp_regionW {P:Program} {id:Nat} {ops:Array Oper} {Q:Exit→Act→World→Prop} {a:Act} {w:World} (h:wpOpsIn (FR none) 0 P ops Q (List.range ops.size) a w):(Code.region id ops false).wp P Q a w :=
 wpIn_wide.1 (wpIn_region (F:=Fence.wide) (n:=0) h)
structure GG (wi:World) (mi:Mem) (nt:Nat) (ok:Nat→Prop) (K:KL) (env:Nat→AV) (st:Store) (a:Act) (w:World):Prop where
 out:∃ m φ,Inv w m φ st∧(∀ t,Rep m φ (env t) (a.tmps.getD t undef))∧Adv wi mi (fun _=>none) w m φ∧(∀ id,φ id≠none→ok id)∧∀ k∈K,PF wi.heap.size w m φ k.1.1 k.1.2 k.2
 size:nt≤a.tmps.size
 defers:a.defers=[]
section
variable {C:Ctx} {wi:World} {mi:Mem} {nt:Nat}
theorem GG.ofA {ok ok':Nat→Prop} {K:KL} {env env':Nat→AV} {st st':Store} {a a':Act} {w w':World} {m:Mem} {φ:Pl} (h3:Adv wi mi (fun _=>none) w m φ) (h5:∀ k∈K,PF wi.heap.size w m φ k.1.1 k.1.2 k.2) (h:ARel [] w m φ nt ok' env' st' a' w'):GG wi mi nt ok' K env' st' a' w':=by
 obtain⟨⟨m',φ',k1,k2,k3,k4,_⟩,k5,k6⟩:=h
 exact⟨⟨m',φ',k1,k2,h3.trans k3,k4,fun k hk=>(h5 k hk).adv k3⟩,k5,k6⟩
theorem GG.code (hC:CtxOk C) {call:CallF} (hcall:CallOk C call) (hdraw:DrawOk C call) {G:List Nat} {n:Nat} {c:Code} {S S':AS} {e:AExit} {a:Act} {w:World} {K:KL} (hc:codeOk nt c=true) (hx:exec C call G S.st.length n c S=some (e,S')) (h:GG wi mi nt (fun id=>id<S.st.length) K (envOf S.env) (stOf S.st) a w) (hnr:noRange c=true:=by rfl) :
 c.wp C.P (fun e' a' w'=>e'=exitOf e∧GG wi mi nt (fun id=>id<S'.st.length) K (envOf S'.env) (stOf S'.st) a' w') a w:=by
 obtain⟨⟨m,φ,h1,h2,h3,h4,h5⟩,h6,h7⟩:=h
 refine wpIn_wide.1 (wpIn_mono (exec_sound (ρ:=none) hC hcall hdraw h4 n c S S' e [] a w hc (.inl rfl) hx ⟨⟨⟨m,φ,h1,h2, .refl _ _ _,h4, .nil _ _ _⟩,h6,h7⟩,Nat.le_refl _⟩) ?_)
 rintro e' a' w' ⟨rfl,ds,k,kd⟩
 have kd:=kd hnr
 subst kd
 exact⟨rfl, .ofA (ok:=fun _=>True) (env:=fun _=>.junk) (st:=st0) (a:=a) h3 h5 k.1⟩
where st0:Store:=fun _=>none
theorem runOps_wp_pre (hC:CtxOk C) {call:CallF} (hcall:CallOk C call) {ops:Array Oper} {Q:Exit→Act→World→Prop} {base:Nat} {w0:World} {m0:Mem} {φ0:Pl} {js:List Nat} (hs:∀ o∈ops,operOk nt o=true) :
 ∀ (os:List Oper) (i:Nat) (R R':RS) (a:Act) (w:World),(∀ j,j<os.length→os[j]?=ops[i+j]?)→runOps C call ops.toList false base os i R=some R' →
   ARel [] w0 m0 φ0 nt (okIn base (fun j=>j<i)) R.env R.st a w→(∀ a' w',ARel [] w0 m0 φ0 nt (okIn base fun j=>j<i+os.length) R'.env R'.st a' w'→wpOpsIn (FR none) 0 C.P ops Q js a' w')→wpOpsIn (FR none) 0 C.P ops Q (List.range' i os.length++js) a w
 | [],i,R,R',a,w,_,h,hr,hQ=>by
  simp only[runOps,Option.some.injEq]at h
  subst h
  simpa using hQ a w (by simpa using hr)
 | o::os,i,R,R',a,w,hl,h,hr,hQ=>by
  have ho:ops[i]?=some o:=by simpa using (hl 0 (by simp)).symm
  simp only[List.length_cons,List.range'_succ,List.cons_append]
  rw[wpOpsIn_cons]
  simp only[runOps]at h
  obtain⟨b,h1,h2⟩:=bnd_eq.1 h
  have hstat:=hs o (Array.mem_of_getElem? ho)
  have hrest:∀ j,j<os.length→os[j]?=ops[i+1+j]?:=fun j hj=>by
   have:=hl (j+1) (by simpa using hj)
   simpa [Nat.add_assoc,Nat.add_comm 1 j]using this
  have mono:∀ env st a' w',ARel [] w0 m0 φ0 nt (okIn base fun j=>j<i∨j=i) env st a' w'→ARel [] w0 m0 φ0 nt (okIn base fun j=>j<i+1) env st a' w':=by
   rintro env st a' w' ⟨⟨m,φ,k1,k2,k3,k4,k7⟩,k5,k6⟩
   exact⟨⟨m,φ,k1,k2,k3,fun id hne=>okIn_mono (fun j hj=>by omega) (k4 id hne),k7⟩,k5,k6⟩
  have hQ':∀ a' w',ARel [] w0 m0 φ0 nt (okIn base fun j=>j<i+1+os.length) R'.env R'.st a' w'→wpOpsIn (FR none) 0 C.P ops Q js a' w':=fun a' w' k=>hQ a' w' (by
   rw[show i+(o::os).length=i+1+os.length by simp;omega];exact k)
  cases b with
  | true =>
   simp only[if_true]at h2
   obtain⟨_,h3⟩:=tst_eq.1 h2
   obtain⟨p,h4,h5⟩:=bnd_eq.1 h3
   refine wpOp_sound hC hcall (dn:=fun j=>j<i) (base:=base) (S:=(R.env,R.st)) (S':=(putA R.env o.dst p.1,p.2)) ho hstat (Nat.lt_irrefl i) ?_ hr fun a' w' hr'=>?_
   ·unfold aOp
    exact bnd_eq.2 ⟨true,h1,by simp only[if_true];exact bnd_eq.2 ⟨p,h4,rfl⟩⟩
   ·exact runOps_wp_pre hC hcall hs os (i+1) _ R' a' w' hrest h5 (mono _ _ _ _ hr') hQ'
  | false =>
   simp only[Bool.false_eq_true,if_false]at h2
   refine wpOp_sound hC hcall (dn:=fun j=>j<i) (base:=base) (S:=(R.env,R.st)) (S':=(putA R.env o.dst (.i (.lit undef)),R.st)) ho hstat (Nat.lt_irrefl i) ?_ hr fun a' w' hr'=>?_
   ·unfold aOp
    exact bnd_eq.2 ⟨false,h1,by simp⟩
   ·exact runOps_wp_pre hC hcall hs os (i+1) _ R' a' w' hrest h2 (mono _ _ _ _ hr') hQ'
theorem GG.ops (hC:CtxOk C) {call:CallF} (hcall:CallOk C call) {ops:Array Oper} {Q:Exit→Act→World→Prop} {base:Nat} {js:List Nat} {K:KL} (hs:∀ o∈ops,operOk nt o=true) {os:List Oper} {i:Nat} {R R':RS} {a:Act} {w:World} (hl:∀ j,j<os.length→os[j]?=ops[i+j]?) (hx:runOps C call ops.toList false base os i R=some R')
 (h:GG wi mi nt (okIn base fun j=>j<i) K R.env R.st a w) (hQ:∀ a' w',GG wi mi nt (okIn base fun j=>j<i+os.length) K R'.env R'.st a' w'→wpOpsIn (FR none) 0 C.P ops Q js a' w'):wpOpsIn (FR none) 0 C.P ops Q (List.range' i os.length++js) a w:=by
 obtain⟨⟨m,φ,h1,h2,h3,h4,h5⟩,h6,h7⟩:=h
 exact runOps_wp_pre hC hcall hs os i R R' a w hl hx ⟨⟨m,φ,h1,h2, .refl _ _ _,h4, .nil _ _ _⟩,h6,h7⟩ fun a' w' k=>hQ a' w' (.ofA (ok:=fun _=>True) (env:=fun _=>.junk) (st:=fun _=>none) (a:=a) h3 h5 k)
theorem GG.settle {ok:Nat→Prop} {K:KL} {env:Nat→AV} {st:Store} {a:Act} {w:World} (G:List Nat) (h:GG wi mi nt ok K env st a w) :
 GG wi mi nt (fun id=>id<(settle G 0 env st).st.length) K (envOf (settle G 0 env st).env) (stOf (settle G 0 env st).st) a w:=by
 obtain⟨⟨m,φ,hi,henv,hadv,hok,hK⟩,hsz,hdf⟩:=h
 unfold Av.settle settleW
 generalize hids:keepIds st 0 (envAt env G)=ids
 have hd:ids.Nodup:=by rw[← hids];exact keepIds_nodup _ _ _
 have hfree:∀ b,Free φ b→Free (keepP ids φ) b:=by
  intro b hb id r n e
  unfold keepP at e
  cases hx:ids[id]? with
  | none=>rw[hx]at e;cases e
  | some j=>rw[hx]at e;exact hb j r n e
 refine⟨⟨m,keepP ids φ,hi.keep hd,?_,hadv.keep (fun id h=>absurd rfl h) (fun j hj=>absurd hj (Nat.not_lt_zero j)),?_,fun k hk=>⟨(hK k hk).new,(hK k hk).row,hfree _ (hK k hk).free,(hK k hk).cel⟩⟩,hsz,hdf⟩
 ·intro t
  have key:∀ G:List Nat,Rep m (keepP ids φ) (envOf (keepEnv (posOf ids) env G) t) (a.tmps.getD t undef):=by
   intro G
   induction G with
   | nil=>exact .junk _
   | cons u G ih =>
    simp only[keepEnv,envOf]
    by_cases e:t=u
    ·subst e;simp only[if_true];exact(henv t).ren (keepP_ren ids φ)
    ·simp only[e,if_false];exact ih
  exact key G
 ·intro id hne
  simp only[takeSt_len]
  unfold keepP at hne
  cases hx:ids[id]? with
  | none=>rw[hx]at hne;exact absurd rfl hne
  | some i=>exact(List.getElem?_eq_some_iff.1 hx).1
theorem GG.see {ok:Nat→Prop} {K:KL} {env:Nat→AV} {st:Store} {a:Act} {w:World} {u b o:Nat} {x:Ex} (h:GG wi mi nt ok K env st a w) (hu:env u=.i (.lit (.pointer (some ⟨b,o,none⟩)))) (hk:((b,o),x)∈K):GG wi mi nt ok K (upd env u (.i (.iref x.cells))) st a w:=by
 obtain⟨⟨m,φ,hi,henv,hadv,hok,hK⟩,hsz,hdf⟩:=h
 refine⟨⟨m,φ,hi,fun t=>?_,hadv,hok,hK⟩,hsz,hdf⟩
 simp only[upd]
 split
 ·rename_i e;subst e
  have:=henv t;rw[hu]at this
  rw[this.lit_eq]
  exact .i (.iref (hK _ hk).cel)
 ·exact henv t
theorem GG.envTo {ok:Nat→Prop} {K:KL} {env env':Nat→AV} {st:Store} {a:Act} {w:World} (h:GG wi mi nt ok K env st a w) (he:∀ t,env' t=.junk∨env' t=env t):GG wi mi nt ok K env' st a w:=by
 obtain⟨⟨m,φ,hi,henv,hadv,hok,hK⟩,hsz,hdf⟩:=h
 refine⟨⟨m,φ,hi,fun t=>?_,hadv,hok,hK⟩,hsz,hdf⟩
 rcases he t with e|e
 ·rw[e];exact .junk _
 ·rw[e];exact henv t
theorem GG.ok' {ok ok':Nat→Prop} {K:KL} {env:Nat→AV} {st:Store} {a:Act} {w:World} (h:GG wi mi nt ok K env st a w) (he:∀ id,ok id→ok' id):GG wi mi nt ok' K env st a w:=by
 obtain⟨⟨m,φ,hi,henv,hadv,hok,hK⟩,hsz,hdf⟩:=h
 exact⟨⟨m,φ,hi,henv,hadv,fun id h=>he id (hok id h),hK⟩,hsz,hdf⟩
end
def LitBlk:Blk→Prop
 | .box cs=>∀ c∈cs,(∃ v,c=.i (.lit v))∨c=.nils
 | .arr _ es=>∀ c∈es.flatten,∃ v,c=.lit v
 | .frz _ _=>False
 | .fbox _=>False
 | .tre _ _=>False
 | .loop _ _ _=>False
theorem ICells.mlit {m m':Mem}:∀ {cs:List IV} {vs:List Value},(∀ c∈cs,∃ v,c=.lit v)→ICells m cs vs→ICells m' cs vs
 | [],_,_, .nil=>.nil
 | c::cs,_,h, .cons a o r=>by
  obtain⟨v,rfl⟩:=h c (by simp)
  rw[lit_inv a]at o ⊢
  exact .cons (.lit _) o (ICells.mlit (fun d hd=>h d (by simp[hd])) r)
theorem RepC.mlit {m m':Mem} {φ φ':Pl}:∀ {cs:List AV} {vs:List Value},(∀ c∈cs,(∃ v,c=.i (.lit v))∨c=.nils)→RepC m φ cs vs→RepC m' φ' cs vs
 | [],_,_, .nil=>.nil
 | c::cs,_,h, .cons a o r=>by
  have hr:=RepC.mlit (m':=m') (φ':=φ') (fun d hd=>h d (by simp[hd])) r
  rcases h c (by simp)with ⟨v,rfl⟩|rfl
  ·rw[a.lit_eq]at o ⊢
   exact .cons (.i (.lit _)) o hr
  ·cases a;exact .cons .nils o hr
theorem BlkOk.mlit {w w':World} {m m':Mem} {φ φ':Pl} {b:Nat} {n:Ext} {blk:Blk} (hl:LitBlk blk) (hh:w'.heap[b]?=w.heap[b]?) (hm:∀ o,m b o=none→m' b o=none) (h:BlkOk w m φ b n blk):BlkOk w' m' φ' b n blk:=by
 cases h with
 | box h1 h2 h3 h4=>exact .box (by rw[hh];exact h1) h2 (h3.mlit hl) fun o=>hm o (h4 o)
 | arr h1 h2 h3 h4 h5 h6 h7 h8 h9 =>
  exact .arr (by rw[hh];exact h1) h2 h3 h4 (h5.mlit hl) h6 (fun o=>hm o (h7 o)) h8 h9
 | frz=>cases hl
 | fbox=>cases hl
 | tre=>cases hl
 | loop=>cases hl
def StLit (st:Store):Prop:=∀ id blk,st id=some blk→LitBlk blk
section
variable {C:Ctx} {wi:World} {mi:Mem}
theorem store_turn {w:World} {m:Mem} {φ:Pl} {st:Store} {K:KL} {b o:Nat} {x:Ex} {v:Value} {t:TypeId} (ht:szOf C.P t=some 1) (hi:Inv w m φ st) (hst:StLit st) (hadv:Adv wi mi (fun _=>none) w m φ) (hmi:MemOk wi mi)
 (hK:∀ k∈K,PF wi.heap.size w m φ k.1.1 k.1.2 k.2) (hk:((b,o),x)∈K) (hv:IRep m (.isl (Ex.cellsL x.kids)) v) :
 ∃ w' m',(Instr.storeAt t (.pointer (some ⟨b,o+4,none⟩)) v).run C.P w=.ok () w'∧Inv w' m' φ st∧Adv wi mi (fun _=>none) w' m' φ∧(∀ k∈K,PF wi.heap.size w' m' φ k.1.1 k.1.2 k.2) ∧
   IAt m' b o [.int x.kind, .int x.col, .bool x.val.null, .int x.val.n, .lit v]:=by
 have hp:=hK _ hk
 obtain⟨u,hx⟩:=exAt_of hp.cel
 obtain⟨vs,T,hrow⟩:=hp.row
 have hone:=isl_one hv
 have hcells:v.cells.toList=[v]:=by
  rcases isl_inv hv with ⟨_,ao,cap,rfl⟩|⟨_,b',off,k',cap,rfl,_⟩<;>rfl
 have hcsz:v.cells.size=1:=by rw[← Array.length_toList,hcells];rfl
 have hlen:o+4<vs.length:=by
  have:=hi.mem _ _ _ hx.c4
  simp only[World.cell?,hrow,Option.isSome_none]at this
  have h2:vs.toArray[o+4]?=some u:=by simpa using this
  have:=(Array.getElem?_eq_some_iff.1 h2).1
  simpa using this
 have hrun:=storeVar_run (P:=C.P) (t:=t) (v:=v) (off:=o+4) (by rw[hcsz];exact ht) hrow (by omega) (by rw[hcells];simpa using hone)
 rw[hcells,hcsz]at hrun
 generalize hvs':vs.take (o+4)++[v]++vs.drop (o+4+1)=vs' at hrun
 have hheap:(w.setRow b vs'.toArray).heap[b]?=some (.cells vs'.toArray T (0,0)):=setRow_heap w b _ _ T (0,0) hrow
 have hother:∀ k,k≠b→(w.setRow b vs'.toArray).heap[k]?=w.heap[k]?:=fun k hk=>setRow_other w b k _ hk
 have hget:∀ j,vs'[j]?=if j=o+4 then some v else vs[j]?:=by
  intro j
  subst hvs'
  have hs:vs.take (o+4)++[v]++vs.drop (o+4+1)=vs.set (o+4) v:=by
   rw[List.set_eq_take_append_cons_drop];simp[hlen]
  rw[hs,List.getElem?_set]
  by_cases e:o+4=j
  ·subst e;simp[hlen]
  ·simp[e,Ne.symm e]
 refine⟨w.setRow b vs'.toArray,turn m b (o+4) v,?_,?_,?_,?_,?_⟩
 ·simp only[Instr.storeAt,Instr.sureAddr,Sem.run_bind,Sem.run_pure,Result.andThen_ok];exact hrun
 ·refine⟨?_,?_,hi.inj,fun i b n f e ho=>by simpa [World.setRow]using hi.low i b n f e ho⟩
  ·intro b1 o1 q hq
   unfold turn at hq
   by_cases e1:b1=b
   ·subst e1
    simp only[World.cell?,hheap,Option.isSome_none]
    have:vs'.toArray[o1]?=some q:=by
     rw[List.getElem?_toArray,hget]
     split at hq
     ·rename_i e;rw[if_pos e.2];exact hq
     ·rename_i e
      have e2:o1≠o+4:=fun h=>e ⟨rfl,h⟩
      rw[if_neg e2]
      have:=hi.mem _ _ _ hq
      simp only[World.cell?,hrow,Option.isSome_none]at this
      simpa using this
    simpa using this
   ·rw[if_neg (fun h=>e1 h.1)]at hq
    have:=hi.mem _ _ _ hq
    simp only[World.cell?]at this ⊢
    rw[hother b1 e1];exact this
  ·intro id blk hb
   obtain⟨b2,n2,h1,h2,h3⟩:=hi.live id blk hb
   have hne:b2≠b:=fun e=>hp.free id b2 n2 h1 (by rw[← e];exact h2.1)
   refine⟨b2,n2,h1,⟨h2.1,fun f hf=>by simpa [World.setRow]using h2.2 f hf⟩,h3.mlit (hst id blk hb) (hother b2 hne) fun o' ho'=>?_⟩
   unfold turn;rw[if_neg (fun h=>hne h.1)];exact ho'
 ·refine⟨by simpa [World.setRow]using hadv.size,hadv.os,⟨hadv.tape.tape,hadv.tape.fwd⟩,hadv.output,?_,?_,?_,hadv.ple,hadv.pnew⟩
  ·intro k hk hn
   rw[hother k (by have h3:wi.heap.size≤b:=hp.new;omega)];exact hadv.block k hk hn
  ·intro b1 o1 q hq
   have h1:=hadv.mle _ _ _ hq
   unfold turn
   rw[if_neg ?_];· exact h1
   rintro⟨rfl,_⟩
   have h2:=hmi _ _ _ hq
   have h3:wi.heap.size≤b1:=hp.new
   simp only[World.cell?]at h2
   cases h4:wi.heap[b1]? with
   | none=>rw[h4]at h2;cases h2
   | some z=>have:=(Array.getElem?_eq_some_iff.1 h4).1;omega
  ·intro k hk hn o'
   have h3:wi.heap.size≤b:=hp.new
   unfold turn
   rw[if_neg (fun h=>by have:=h.1;omega)]
   exact hadv.mnew k hk hn o'
 ·intro k hk
  have h:=hK k hk
  refine⟨h.new,?_,h.free,turn_at hx hv _ _ _ h.cel⟩
  by_cases e:k.1.1=b
  ·rw[e];exact⟨vs',T,hheap⟩
  ·rw[hother _ e];exact h.row
 ·have low:∀ i,i<4→∀ q,m b (o+i)=some q→turn m b (o+4) v b (o+i)=some q:=by
   intro i hi q hq
   unfold turn;rw[if_neg (by rintro⟨_,h⟩;omega)];exact hq
  refine .cons (by simpa using low 0 (by omega) _ (by simpa using hx.c0)) (.lit _) rfl (.cons (low 1 (by omega) _ hx.c1) (.lit _) rfl (.cons (low 2 (by omega) _ hx.c2) (.lit _) rfl (.cons (low 3 (by omega) _ hx.c3) (.lit _) rfl (.cons ?_ (.lit _) hone (.nil _ _)))))
  unfold turn;rw[if_pos ⟨rfl,rfl⟩]
end
def kidsAt (b:Nat):Nat→List Ex→KL
 | _,[]=>[]
 | o,x::l=>((b,o),x)::kidsAt b (o+5) l
theorem kidsAt_cel {m:Mem} {b:Nat}:∀ {o k:Nat} {l:List Ex},IElems m b o k (Ex.cellsL l)→∀ p∈kidsAt b o l,p.1.1=b∧IAt m p.1.1 p.1.2 p.2.cells
 | _,_,[],_,p,hp=>by simp[kidsAt]at hp
 | o,k,a::l,h,p,hp=>by
  obtain⟨rfl,h1,h2⟩:=elems_inv h
  simp only[kidsAt,List.mem_cons]at hp
  rcases hp with rfl|hp
  ·exact⟨rfl,h1⟩
  ·exact kidsAt_cel h2 p hp
section
variable {C:Ctx} {wi:World} {mi:Mem}
theorem froz_osl {w:World} {m:Mem} {φ:Pl} {st st':Store} {K:KL} {id:Nat} {v:Value} {ks:List Ex} (hks:ks≠[]) (hi:Inv w m φ st) (hr:Rep m φ (.osl id 5 0 ks.length) v) (hid:st id=some (.arr 5 (Ex.cellsL ks))) (hadv:Adv wi mi (fun _=>none) w m φ)
 (hK:∀ k∈K,PF wi.heap.size w m φ k.1.1 k.1.2 k.2) (hst:∀ i blk,st' i=some blk→i≠id∧st i=some blk∧LitBlk blk) :
 ∃ b' cap m1 φ2,v=.slice (some ⟨b',0,none⟩) ks.length cap∧Inv w m1 φ2 st'∧Adv wi mi (fun _=>none) w m1 φ2∧(∀ k∈K++kidsAt b' 0 ks,PF wi.heap.size w m1 φ2 k.1.1 k.1.2 k.2)∧IRep m1 (.isl (Ex.cellsL ks)) v ∧
   (∀ i,st' i≠none→φ2 i=φ i)∧(∀ i,φ2 i≠none→st' i≠none):=by
 have hlen:0<ks.length:=List.length_pos_iff.2 hks
 have hfr:frzV st (.osl id 5 0 ks.length)=some (.isl (Ex.cellsL ks),upd st id (some (.frz 5 (Ex.cellsL ks)))):=by
  simp[frzV,frz,fuelF,frzSl,hid,tst,window,bnd,frzIds,List.take_of_length_le]
 obtain⟨m1,k1,k2,k3⟩:=frzV_sound hi hr hfr
 cases hr with
 | @osl _ _ _ _ cap b' n' ao eφ hlc hcap ha1 ha2 =>
  have hao:=ha1 (by omega)
  subst hao
  obtain⟨hb,hok⟩:=blk_own hi eφ hid
  have hrow:∃ (vs:List Value) (T:TypeId),w.heap[b']?=some (.cells vs.toArray T (0,0)):=by
   cases hok with|arr h1=>exact⟨_,_,h1⟩
  have hnew:wi.heap.size≤b':=by
   rcases hadv.pnew id b' n' b' eφ hb.1 with h|h
   ·exact h
   ·exact absurd (fun id b n e=>by cases e) h
  have dec:∀ i,st' i=none∨st' i≠none:=fun i=>by cases st' i<;>simp
  let φ2:Pl:=fun i=>match st' i with
   | some _=>φ i
   | none=>none
  have hφ2:∀ i,st' i≠none→φ2 i=φ i:=fun i h=>by
   show(match st' i with|some _=>φ i|none=>none)=φ i
   cases e:st' i with
   | none=>exact absurd e h
   | some _=>rfl
  have hφ2n:∀ i,φ2 i≠none→st' i≠none:=fun i h e=>h (by
   show(match st' i with|some _=>φ i|none=>none)=none
   rw[e])
  have hsub:∀ i p,φ2 i=some p→φ i=some p∧st' i≠none:=fun i p h=>by
   have h1:=hφ2n i (by rw[h];simp)
   exact⟨by rw[← hφ2 i h1];exact h,h1⟩
  have hA1:=hadv.trans k3
  refine⟨b',cap,m1,φ2,by simp,?_,?_,?_,k1,hφ2,hφ2n⟩
  ·refine⟨k2.mem,?_,?_,fun i b n f e ho=>k2.low i b n f (hsub _ _ e).1 ho⟩
   ·intro i blk hb'
    obtain⟨h1,h2,h3⟩:=hst i blk hb'
    have h4:upd st id (some (.frz 5 (Ex.cellsL ks))) i=some blk:=by simp[upd,h1,h2]
    obtain⟨b,n,q1,q2,q3⟩:=k2.live i blk h4
    exact⟨b,n,by rw[hφ2 i (by rw[hb'];simp)];exact q1,q2,q3.mlit h3 rfl fun o h=>h⟩
   ·intro i j b bx n n2 b1 b2 f h1 h2 h3 h4 o1 o2
    obtain⟨q1,q2,_⟩:=hst i b1 h1
    obtain⟨r1,r2,_⟩:=hst j b2 h2
    exact hi.inj i j b bx n n2 b1 b2 f q2 r2 (hsub _ _ h3).1 (hsub _ _ h4).1 o1 o2
  ·refine⟨hA1.size,hA1.os,hA1.tape,hA1.output,hA1.block,hA1.mle,hA1.mnew,(fun _ _ _ h=>by cases h),?_⟩
   intro i b n f h2 ho
   exact hA1.pnew i b n f (hsub _ _ h2).1 ho
  ·intro k hk
   rcases List.mem_append.1 hk with hk|hk
   ·have h:=hK k hk
    exact⟨h.new,h.row,fun i r n e=>h.free i r n (hsub _ _ e).1,h.cel.mono k3.mle⟩
   ·have hel:IElems m1 b' 0 5 (Ex.cellsL ks):=by
     rcases isl_inv k1 with ⟨e1,_⟩|⟨_,b2,off,k',cap',hv,hel,_⟩
     ·exact absurd (by cases ks with|nil=>rfl|cons a l=>simp[Ex.cellsL]at e1) hks
     ·injection hv with q1 _ _
      injection q1 with q1;injection q1 with q1 q2;subst q1;subst q2
      cases ks with
      | nil=>exact absurd rfl hks
      | cons a l=>obtain⟨rfl,_⟩:=elems_inv hel;exact hel
    obtain⟨e1,e2⟩:=kidsAt_cel hel k hk
    refine⟨by rw[e1];exact hnew,by rw[e1];exact hrow,?_,e2⟩
    intro i r n e ho
    rw[e1]at ho
    obtain⟨h1,h2⟩:=hsub _ _ e
    cases hb2:st' i with
    | none=>exact h2 hb2
    | some blk =>
     obtain⟨q1,q2,_⟩:=hst i blk hb2
     exact q1 (hi.inj i id r b' n n' blk _ b' q2 hid h1 eφ ho hb.1)
theorem wpOp_store {ops:Array Oper} {Q:Exit→Act→World→Prop} {K:Act→World→Prop} {i:Nat} {t ty:TypeId} {x y:Operand} {pos:String} {after:Array Edge} {a:Act} {w w':World} (ho:ops[i]?=some ⟨none, .store t x y,ty,pos,after,none⟩)
 (hrun:(Instr.storeAt t (a.eval x) (a.eval y)).run C.P w=.ok () w') (hK:K a w'):wpOpIn (FR none) 0 C.P ops Q i K a w:=by
 unfold wpOpIn
 rw[ho]
 simp only[Region.wanted,if_true]
 refine⟨fun _ _=>trivial,?_⟩
 rw[Oper.semAt_eq _ _ _ (fun c e=>by cases e)]
 have:(execOp a.eval ⟨none, .store t x y,ty,pos,after,none⟩).run C.P w=.ok .skip w':=by
  unfold execOp;simp[hrun]
 rw[this]
 simpa [Oper.uponIn,Act.put]using hK
end
section
variable {C:Ctx} {wi:World} {mi:Mem} {nt:Nat}
theorem GG.codeA (hS:SoundOk C) {G:List Nat} {c:Code} {S S':AS} {e:AExit} {a:Act} {w:World} {K:KL} (hc:codeOk nt c=true) (hx:execA C G S.st.length c S=some (e,S')) (h:GG wi mi nt (fun id=>id<S.st.length) K (envOf S.env) (stOf S.st) a w) (hnr:noRange c=true:=by rfl) :
 c.wp C.P (fun e' a' w'=>e'=exitOf e∧GG wi mi nt (fun id=>id<S'.st.length) K (envOf S'.env) (stOf S'.st) a' w') a w:=by
 obtain⟨n,hn⟩:=(execA_iff _).1 hx
 exact GG.code hS.ctx (callA_sound hS) (hS.draw _ (callA_sound hS)) hc hn h hnr
theorem drop_ids {w:World} {m m1:Mem} {φ:Pl} {st st1 st':Store} {K:KL} {id b':Nat} {n':Ext} {blk0:Blk} (hi:Inv w m φ st) (k2:Inv w m1 φ st1) (hA1:Adv wi mi (fun _=>none) w m1 φ) (hle:MLe m m1) (eφ:φ id=some (b',n')) (hid:st id=some blk0)
 (hK:∀ k∈K,PF wi.heap.size w m φ k.1.1 k.1.2 k.2) (hst:∀ i blk,st' i=some blk→i≠id∧st i=some blk∧st1 i=some blk∧LitBlk blk) :
 ∃ φ2,Inv w m1 φ2 st'∧Adv wi mi (fun _=>none) w m1 φ2∧(∀ k∈K,PF wi.heap.size w m1 φ2 k.1.1 k.1.2 k.2)∧Free φ2 b'∧(∀ i,st' i≠none→φ2 i=φ i)∧(∀ i,φ2 i≠none→st' i≠none):=by
 let φ2:Pl:=fun i=>match st' i with
  | some _=>φ i
  | none=>none
 have hφ2:∀ i,st' i≠none→φ2 i=φ i:=fun i h=>by
  show(match st' i with|some _=>φ i|none=>none)=φ i
  cases e:st' i with
  | none=>exact absurd e h
  | some _=>rfl
 have hφ2n:∀ i,φ2 i≠none→st' i≠none:=fun i h e=>h (by
  show(match st' i with|some _=>φ i|none=>none)=none
  rw[e])
 have hsub:∀ i p,φ2 i=some p→φ i=some p∧st' i≠none:=fun i p h=>by
  have h1:=hφ2n i (by rw[h];simp)
  exact⟨by rw[← hφ2 i h1];exact h,h1⟩
 refine⟨φ2,⟨k2.mem,?_,?_,fun i b n f e ho=>k2.low i b n f (hsub _ _ e).1 ho⟩,?_,?_,?_,hφ2,hφ2n⟩
 ·intro i blk hb'
  obtain⟨h1,h2,h4,h3⟩:=hst i blk hb'
  obtain⟨b,n,q1,q2,q3⟩:=k2.live i blk h4
  exact⟨b,n,by rw[hφ2 i (by rw[hb'];simp)];exact q1,q2,q3.mlit h3 rfl fun o h=>h⟩
 ·intro i j b bx n n2 b1 b2 f h1 h2 h3 h4 o1 o2
  obtain⟨q1,q2,_⟩:=hst i b1 h1
  obtain⟨r1,r2,_⟩:=hst j b2 h2
  exact hi.inj i j b bx n n2 b1 b2 f q2 r2 (hsub _ _ h3).1 (hsub _ _ h4).1 o1 o2
 ·refine⟨hA1.size,hA1.os,hA1.tape,hA1.output,hA1.block,hA1.mle,hA1.mnew,(fun _ _ _ h=>by cases h),?_⟩
  intro i b n f h2 ho
  exact hA1.pnew i b n f (hsub _ _ h2).1 ho
 ·intro k hk
  have h:=hK k hk
  exact⟨h.new,h.row,fun i r n e=>h.free i r n (hsub _ _ e).1,h.cel.mono hle⟩
 ·intro i r n e ho
  obtain⟨h1,h2⟩:=hsub _ _ e
  cases hb2:st' i with
  | none=>exact h2 hb2
  | some blk =>
   obtain⟨q1,q2,_⟩:=hst i blk hb2
   exact q1 (hi.inj i id r b' n n' blk _ b' q2 hid h1 eφ ho (blk_own hi eφ hid).1.1)
def Stays (st':Store):AV→Prop
 | .i (.lit _)=>True
 | .own id _=>st' id≠none
 | .osl id _ _ _=>st' id≠none
 | .nils=>True
 | _=>False
theorem Stays.rep {m m':Mem} {φ φ':Pl} {st':Store} {v:AV} {x:Value} (h:Stays st' v) (he:∀ i,st' i≠none→φ' i=φ i) (hr:Rep m φ v x):Rep m' φ' v x:=by
 cases hr with
 | junk=>cases h
 | nils=>exact .nils
 | i hr=>cases hr with
  | lit=>exact .i (.lit _)
  | agg=>cases h
  | isl0=>cases h
  | isl=>cases h
  | iref=>cases h
 | own e=>exact .own (by rw[he _ h];exact e)
 | ownE=>cases h
 | osl e a b c d=>exact .osl (by rw[he _ h];exact e) a b c d
 | agg=>cases h
 | tup=>cases h
 | fn=>cases h
 | yld=>cases h
 | ydead=>cases h
theorem GG.pub {ok ok':Nat→Prop} {K:KL} {env:Nat→AV} {st st':Store} {a:Act} {w:World} {u id:Nat} {e:Ex} (h:GG wi mi nt ok K env st a w) (hu:env u=.own id 0) (hid:st id=some (.box (impI e.cells)))
 (hst:∀ i blk,st' i=some blk→i≠id∧st i=some blk∧LitBlk blk) (hok:∀ i,st' i≠none→ok' i) :
 ∃ b',(∀ env',(∀ t,env' t=.junk∨(t=u∧env' t=.i (.lit (.pointer (some ⟨b',0,none⟩))))∨(env' t=env t∧Stays st' (env t)))→GG wi mi nt ok' (K++[((b',0),e)]) env' st' a w):=by
 obtain⟨⟨m,φ,hi,henv,hadv,_,hK⟩,hsz,hdf⟩:=h
 have hr:=henv u;rw[hu]at hr
 have hfr:frzV st (.own id 0)=some (.iref e.cells,upd st id (some (.fbox e.cells))):=by
  have h1:∀ (l:List IV) (n:Nat),frzL st (n+l.length+1) (impI l)=some (l,[]):=by
   intro l
   induction l with
   | nil=>intro n;simp[impI,frzL]
   | cons c l ih=>intro n;simp only[impI,List.length_cons];rw[show n+(l.length+1)+1=(n+l.length+1)+1 by omega];simp[frzL,frz,bnd,ih n]
  have h2:frzL st 18 (impI e.cells)=some (e.cells,[]):=by
   have:=h1 e.cells 12
   rw[Ex.cells_length]at this
   exact this
  have h3:frzP st 19 id 0 (some (.box (impI e.cells)))=some (.iref e.cells,[(id, .fbox e.cells)]):=by
   show bnd (frzL st 18 (impI e.cells)) (fun p=>tst (decide (0≤p.1.length)) (some (IV.iref (dropE 0 p.1),(id,Blk.fbox p.1)::p.2)))=_
   rw[h2];simp[dropE]
  have h4:frz st 20 (.own id 0)=some (.iref e.cells,[(id, .fbox e.cells)]):=by
   show frzP st 19 id 0 (st id)=_
   rw[hid];exact h3
  show bnd (frz st 20 (.own id 0)) (fun p=>some (p.1,frzIds st p.2))=_
  rw[h4];rfl
 obtain⟨m1,k1,k2,k3⟩:=frzV_sound hi hr hfr
 cases hr':a.tmps.getD u undef with
 | pointer p =>
  rw[hr']at hr k1
  cases hr with
  | @own _ _ b' n' eφ =>
   obtain⟨hb,hbok⟩:=blk_own hi eφ hid
   have hrow:∃ (vs:List Value) (T:TypeId),w.heap[b']?=some (.cells vs.toArray T (0,0)):=by
    cases hbok with|box h1=>exact⟨_,_,h1⟩
   have hnew:wi.heap.size≤b':=by
    rcases hadv.pnew id b' n' b' eφ hb.1 with h|h
    ·exact h
    ·exact absurd (fun id b n e=>by cases e) h
   obtain⟨φ2,g1,g2,g3,g4,g5,g6⟩:=drop_ids (wi:=wi) (mi:=mi) (K:=K) hi k2 (hadv.trans k3) k3.mle eφ hid hK (st':=st') fun i blk hb'=>by
    obtain⟨q1,q2,q3⟩:=hst i blk hb'
    exact⟨q1,q2,by simp[upd,q1,q2],q3⟩
   refine⟨b',fun env' he=>⟨⟨m1,φ2,g1,fun t=>?_,g2,fun i hi'=>hok i (g6 i hi'),?_⟩,hsz,hdf⟩⟩
   ·rcases he t with h|⟨rfl,h⟩|⟨h,hs⟩
    ·rw[h];exact .junk _
    ·rw[h,hr'];exact .i (.lit _)
    ·rw[h];exact hs.rep g5 (henv t)
   ·intro k hk
    rcases List.mem_append.1 hk with hk|hk
    ·exact g3 k hk
    ·simp only[List.mem_singleton]at hk
     subst hk
     refine⟨hnew,hrow,g4,?_⟩
     cases k1 with|iref hat=>exact hat
 | _=>rw[hr']at hr;cases hr
theorem GG.turn {ok ok':Nat→Prop} {K:KL} {env:Nat→AV} {st st':Store} {a:Act} {w:World} {u b o:Nat} {x:Ex} {t:TypeId} {r:AV} (h:GG wi mi nt ok K env st a w) (ht:szOf C.P t=some 1) (hmi:MemOk wi mi) (hk:((b,o),x)∈K) (hu:env u=r)
 (hr:(r=.nils∧x.kids=[]∧∀ i blk,st' i=some blk→st i=some blk)∨∃ id,r=.osl id 5 0 x.kids.length∧x.kids≠[]∧st id=some (.arr 5 (Ex.cellsL x.kids))∧∀ i blk,st' i=some blk→i≠id∧st i=some blk)
 (hlit:StLit st') (hok:∀ i,st' i≠none→ok' i) :
 ∃ w' b' ao cap,a.tmps.getD u undef=.slice ao x.kids.length cap∧(x.kids≠[]→ao=some ⟨b',0,none⟩)∧(Instr.storeAt t (.pointer (some ⟨b,o+4,none⟩)) (a.tmps.getD u undef)).run C.P w=.ok () w' ∧
   ∀ env',(∀ t,env' t=.junk∨(a.tmps.getD t undef=.pointer (some ⟨b,o,none⟩)∧env' t=.i (.iref [.int x.kind, .int x.col, .bool x.val.null, .int x.val.n, .lit (.slice ao x.kids.length cap)]))∨(env' t=env t∧Stays st' (env t))) →
     GG wi mi nt ok' (K++kidsAt b' 0 x.kids) env' st' a w':=by
 obtain⟨⟨m,φ,hi,henv,hadv,_,hK⟩,hsz,hdf⟩:=h
 have hru:=henv u;rw[hu]at hru
 have main:∃ (b':Nat) (ao:Option Addr) (cap:Nat) (m1:Mem) (φ2:Pl),a.tmps.getD u undef=.slice ao x.kids.length cap∧(x.kids≠[]→ao=some ⟨b',0,none⟩)∧Inv w m1 φ2 st'∧Adv wi mi (fun _=>none) w m1 φ2∧(∀ k∈K++kidsAt b' 0 x.kids,PF wi.heap.size w m1 φ2 k.1.1 k.1.2 k.2) ∧
  IRep m1 (.isl (Ex.cellsL x.kids)) (a.tmps.getD u undef)∧(∀ i,st' i≠none→φ2 i=φ i)∧(∀ i,φ2 i≠none→st' i≠none):=by
  rcases hr with ⟨rfl,hx,hst⟩|⟨id,rfl,hx,hid,hst⟩
  ·generalize hv:a.tmps.getD u undef=v at hru
   cases hru
   let φ2:Pl:=fun i=>match st' i with
    | some _=>φ i
    | none=>none
   have hφ2:∀ i,st' i≠none→φ2 i=φ i:=fun i h=>by
    show(match st' i with|some _=>φ i|none=>none)=φ i
    cases e:st' i with
    | none=>exact absurd e h
    | some _=>rfl
   have hφ2n:∀ i,φ2 i≠none→st' i≠none:=fun i h e=>h (by
    show(match st' i with|some _=>φ i|none=>none)=none
    rw[e])
   have hsub:∀ i p,φ2 i=some p→φ i=some p:=fun i p h=>by
    have h1:=hφ2n i (by rw[h];simp)
    rw[← hφ2 i h1];exact h
   refine⟨0,none,0,m,φ2,by rw[hx];rfl,fun h=>absurd hx h,⟨hi.mem,?_,?_,fun i b n f e ho=>hi.low i b n f (hsub _ _ e) ho⟩,?_,?_,?_,hφ2,hφ2n⟩
   ·intro i blk hb'
    obtain⟨b,n,q1,q2,q3⟩:=hi.live i blk (hst i blk hb')
    exact⟨b,n,by rw[hφ2 i (by rw[hb'];simp)];exact q1,q2,q3.mlit (hlit i blk hb') rfl fun o h=>h⟩
   ·intro i j b bx n n2 b1 b2 f h1 h2 h3 h4 o1 o2
    exact hi.inj i j b bx n n2 b1 b2 f (hst i b1 h1) (hst j b2 h2) (hsub _ _ h3) (hsub _ _ h4) o1 o2
   ·refine⟨hadv.size,hadv.os,hadv.tape,hadv.output,hadv.block,hadv.mle,hadv.mnew,(fun _ _ _ h=>by cases h),?_⟩
    intro i b n f h2 ho
    exact hadv.pnew i b n f (hsub _ _ h2) ho
   ·intro k hk
    rw[hx]at hk
    simp only[kidsAt,List.append_nil]at hk
    have h:=hK k hk
    exact⟨h.new,h.row,fun i r n e=>h.free i r n (hsub _ _ e),h.cel⟩
   ·rw[hx];simp only[Ex.cellsL];exact .isl0 _ _ fun _=>rfl
  ·obtain⟨b',cap,m1,φ2,e1,g1,g2,g3,g4,g5,g6⟩:=froz_osl (wi:=wi) (mi:=mi) (K:=K) hx hi hru hid hadv hK (st':=st') fun i blk hb'=>⟨(hst i blk hb').1,(hst i blk hb').2,hlit i blk hb'⟩
   exact⟨b',_,cap,m1,φ2,e1,fun _=>rfl,g1,g2,g3,g4,g5,g6⟩
 obtain⟨b',ao,cap,m1,φ2,e1,e2,g1,g2,g3,g4,g5,g6⟩:=main
 obtain⟨w',m',k1,k2,k3,k4,k5⟩:=store_turn (C:=C) (wi:=wi) (mi:=mi) ht g1 hlit g2 hmi g3 (List.mem_append_left _ hk) g4
 refine⟨w',b',ao,cap,e1,e2,k1,fun env' he=>⟨⟨m',φ2,k2,fun t=>?_,k3,fun i hi'=>hok i (g6 i hi'),k4⟩,hsz,hdf⟩⟩
 rcases he t with h|⟨h1,h⟩|⟨h,hs⟩
 ·rw[h];exact .junk _
 ·rw[h,h1,← e1];exact .i (.iref k5)
 ·rw[h];exact hs.rep g5 (henv t)
end
section
variable {C:Ctx} {wi:World} {mi:Mem} {nt:Nat}
theorem GG.litAt {ok:Nat→Prop} {K:KL} {env:Nat→AV} {st:Store} {a:Act} {w:World} {t:Nat} {v:Value} (h:GG wi mi nt ok K env st a w) (ht:env t=.i (.lit v)):a.tmps.getD t undef=v:=by
 obtain⟨⟨m,φ,hi,henv,_⟩,_⟩:=h
 have:=henv t;rw[ht]at this
 exact this.lit_eq
theorem GG.region (hS:SoundOk C) {id:Nat} {ops:Array Oper} {os1 os2:List Oper} {o:Oper} {K:KL} {S:AS} {a:Act} {w:World} {u b' o':Nat} {x:Ex} {Q:Exit→Act→World→Prop} {PP:(Nat→AV)→Store→Prop} (hops:ops.toList=os1++(os2++[o])) (hs:∀ o∈ops,operOk nt o=true)
 (g:GG wi mi nt (fun id=>id<S.st.length) K (envOf S.env) (stOf S.st) a w) (hk:((b',o'),x)∈K)
 (h:∃ R1,runOps C (callA C) ops.toList false S.st.length os1 0 { env:=envOf S.env,st:=stOf S.st,log:=[] }=some R1∧R1.env u=.i (.lit (.pointer (some ⟨b',o',none⟩))) ∧
  ∃ R2,runOps C (callA C) ops.toList false S.st.length os2 os1.length { env:=upd R1.env u (.i (.iref x.cells)),st:=R1.st,log:=R1.log }=some R2∧PP R2.env R2.st)
 (hfin:∀ env st a' w',PP env st→GG wi mi nt (fun _=>True) K env st a' w'→wpOpIn (FR none) 0 C.P ops Q (os1.length+os2.length) (fun a w=>wpOpsIn (FR none) 0 C.P ops Q [] a w) a' w'):(Code.region id ops false).wp C.P Q a w:=by
 obtain⟨R1,h1,h2,R2,h3,h4⟩:=h
 refine wp_regionW ?_
 have hsz:ops.size=os1.length+(os2.length+1):=by rw[← Array.length_toList,hops];simp
 have hget:∀ j,ops[j]?=(os1++(os2++[o]))[j]?:=fun j=>by rw[← hops,Array.getElem?_toList]
 rw[List.range_eq_range',hsz,show List.range' 0 (os1.length+(os2.length+1))=List.range' 0 os1.length++(List.range' os1.length os2.length++[os1.length+os2.length])by
  rw[← List.range'_append_1,← List.range'_append_1];simp]
 have hcall:=callA_sound hS
 refine GG.ops hS.ctx hcall hs (R:={ env:=envOf S.env,st:=stOf S.st,log:=[] }) (base:=S.st.length) (i:=0) (fun j hj=>?_) h1 (g.ok' fun id h=>.inl h) fun a1 w1 g1=>?_
 ·rw[hget,Nat.zero_add,List.getElem?_append_left hj]
 ·have g2:=g1.see (u:=u) h2 hk
  rw[Nat.zero_add]at g2
  refine GG.ops hS.ctx hcall hs (R:={ env:=upd R1.env u (.i (.iref x.cells)),st:=R1.st,log:=R1.log }) (base:=S.st.length) (fun j hj=>?_) h3 g2 fun a2 w2 g3=>?_
  ·rw[hget,List.getElem?_append_right (by omega),Nat.add_sub_cancel_left,List.getElem?_append_left hj]
  ·rw[wpOpsIn_cons]
   exact hfin _ _ a2 w2 h4 (g3.ok' fun _ _=>trivial)
theorem wpOp_load {ops:Array Oper} {Q:Exit→Act→World→Prop} {K:Act→World→Prop} {i d:Nat} {t ty:TypeId} {x:Operand} {pos:String} {after:Array Edge} {v:Value} {a:Act} {w:World} (ho:ops[i]?=some ⟨some d, .load t x,ty,pos,after,none⟩)
 (hrun:(Instr.loadAt t (a.eval x)).run C.P w=.ok v w) (hK:K (a.put (some d) v) w):wpOpIn (FR none) 0 C.P ops Q i K a w:=by
 unfold wpOpIn
 rw[ho]
 simp only[Region.wanted,if_true]
 refine⟨fun _ _=>trivial,?_⟩
 rw[Oper.semAt_eq _ _ _ (fun c e=>by cases e)]
 have:(execOp a.eval ⟨some d, .load t x,ty,pos,after,none⟩).run C.P w=.ok (.value v) w:=by
  unfold execOp;simp[hrun]
 rw[this]
 simpa [Oper.uponIn]using hK
theorem GG.put {ok:Nat→Prop} {K:KL} {env:Nat→AV} {st:Store} {a:Act} {w:World} {d:Nat} {x:IV} {v:Value} (hd:d<nt) (h:GG wi mi nt ok K env st a w) (hr:IRep mi x v):GG wi mi nt ok K (upd env d (.i x)) st (a.put (some d) v) w:=by
 obtain⟨⟨m,φ,hi,henv,hadv,hok,hK⟩,hsz,hdf⟩:=h
 exact⟨⟨m,φ,hi,putA_rep (dst:=some d) henv hsz (by simpa [dstOk]using hd) (.i (hr.mono hadv.mle)),hadv,hok,hK⟩,by rw[put_size];exact hsz,by rw[put_defers'];exact hdf⟩
theorem Inv.later {w w':World} {m:Mem} {φ:Pl} {st:Store} (h:Inv w m φ st) (hsz:w.heap.size≤w'.heap.size) (hw:∀ f,f<w.heap.size→w'.heap[f]?=w.heap[f]?):Inv w' m φ st:=by
 refine⟨fun b o v e=>?_,fun id blk e=>?_,h.inj,fun id b n f e ho=>Nat.lt_of_lt_of_le (h.low id b n f e ho) hsz⟩
 ·rw[cell_of_heap (hw b (h.mem.lt e))];exact h.mem b o v e
 ·obtain⟨b,n,k1,k2,k3⟩:=h.live id blk e
  exact⟨b,n,k1,⟨k2.1,fun f hf=>Nat.lt_of_lt_of_le (k2.2 f hf) hsz⟩,k3.mono k2.1 (fun f hf=>hw f (k2.2 f hf)) (.refl _) (.refl _) fun _ _ _=>rfl⟩
theorem GG.regionL (hS:SoundOk C) {id d u:Nat} {t ty:TypeId} {pos:String} {after:Array Edge} {p:Value} {x:IV} {ops:Array Oper} {os1 os2:List Oper} {G:List Nat} {S S':AS} {a:Act} {w:World} {Q:Exit→Act→World→Prop} (hops:ops.toList=os1++(⟨some d, .load t (.tmp u),ty,pos,after,none⟩::os2)) (hs:∀ o∈ops,operOk nt o=true)
 (g:GG wi mi nt (fun id=>id<S.st.length) [] (envOf S.env) (stOf S.st) a w) (hd:d<nt)
 (hrun:∀ w',wi.heap.size≤w'.heap.size→(∀ f,f<wi.heap.size→w'.heap[f]?=wi.heap[f]?)→∃ y,(Instr.loadAt t p).run C.P w'=.ok y w'∧IRep mi x y)
 (h:∃ R1,runOps C (callA C) ops.toList false S.st.length os1 0 { env:=envOf S.env,st:=stOf S.st,log:=[] }=some R1∧R1.env u=.i (.lit p) ∧
  ∃ R2,runOps C (callA C) ops.toList false S.st.length os2 (os1.length+1) { env:=upd R1.env d (.i x),st:=R1.st,log:=R1.log }=some R2∧Av.settle G 0 R2.env R2.st=S')
 (hfin:∀ a' w',GG wi mi nt (fun id=>id<S'.st.length) [] (envOf S'.env) (stOf S'.st) a' w'→Q .normal a' w'):(Code.region id ops false).wp C.P Q a w:=by
 obtain⟨R1,h1,h2,R2,h3,rfl⟩:=h
 refine wp_regionW ?_
 have hsz:ops.size=os1.length+(1+os2.length):=by rw[← Array.length_toList,hops];simp;omega
 have hget:∀ j,ops[j]?=(os1++(⟨some d, .load t (.tmp u),ty,pos,after,none⟩::os2))[j]?:=fun j=>by rw[← hops,Array.getElem?_toList]
 rw[List.range_eq_range',hsz,show List.range' 0 (os1.length+(1+os2.length))=List.range' 0 os1.length++(os1.length::(List.range' (os1.length+1) os2.length++[]))by
  rw[← List.range'_append_1,← List.range'_append_1];simp]
 have hcall:=callA_sound hS
 refine GG.ops hS.ctx hcall hs (R:={ env:=envOf S.env,st:=stOf S.st,log:=[] }) (base:=S.st.length) (i:=0) (fun j hj=>?_) h1 (g.ok' fun id h=>.inl h) fun a1 w1 g1=>?_
 ·rw[hget,Nat.zero_add,List.getElem?_append_left hj]
 ·have hv:=g1.litAt h2
  obtain⟨y,hrun,hy⟩:=hrun w1 (by
   obtain⟨⟨m,φ,k1,k2,k3,_⟩,_⟩:=g1
   exact k3.size) (by
   obtain⟨⟨m,φ,k1,k2,k3,_⟩,_⟩:=g1
   exact fun f hf=>k3.block f hf fun id b n e=>by cases e)
  rw[wpOpsIn_cons]
  refine wpOp_load (v:=y) (d:=d) (t:=t) (x:=.tmp u) (ty:=ty) (pos:=pos) (after:=after) (by rw[hget,List.getElem?_append_right (Nat.le_refl _)];simp) (by
   show(Instr.loadAt t (a1.tmps.getD u undef)).run C.P w1=_
   rw[hv];exact hrun) ?_
  have g2:=g1.put hd hy
  refine GG.ops hS.ctx hcall hs (R:={ env:=upd R1.env d (.i x),st:=R1.st,log:=R1.log }) (base:=S.st.length) (fun j hj=>?_) h3 (g2.ok' fun id h=>okIn_mono (fun j hj=>by omega) h) fun a2 w2 g3=>?_
  ·rw[hget,List.getElem?_append_right (by omega),show os1.length+1+j-os1.length=j+1 by omega];simp[List.getElem?_append_left hj]
  ·exact hfin a2 w2 ((g3.ok' (ok':=fun _=>True) fun _ _=>trivial).settle G)
end
end Go.Av
namespace Go.Av
open Go Go.RowKit
def memOf (w:World):Mem:=fun b o=>w.cell? ⟨b,o,none⟩
theorem inv0 (w:World):Inv w (memOf w) (fun _=>none) (stOf []) :=
 ⟨fun _ _ _ h=>h,fun id blk h=>(by simp[stOf]at h),fun id id' b b' n n' blk blk' f h=>(by simp[stOf]at h),fun _ _ _ _ e=>by cases e⟩
theorem adv_below {w w':World} {m m':Mem} {φ':Pl} (h:Adv w m (fun _=>none) w' m' φ'):Below w.heap.size w w' :=
 ⟨h.os,h.tape.tape,h.output,h.size,fun k hk=>h.block k hk fun id b n e=>by cases e⟩
theorem calls_true {C:Ctx} (hS:SoundOk C) {f:FuncId} {args:List AV} {vs:Array Value} {w:World} (hr:RepL (memOf w) (fun _=>none) args vs.toList) (h:callA C f args []=some (.bool true,[])) (hy:f≠yldF:=by decide) :
 Calls C.P f vs w fun e w'=>e=.returned (.bool true)∧Below w.heap.size w w':=by
 have:=(callA_sound hS).calls f args [] _ _ hy h w (memOf w) (fun _=>none) vs.toList (inv0 w) hr (fun id h=>absurd rfl h)
 refine(show Calls C.P f vs w _ from this).mono ?_
 rintro e w' ⟨v,m',φ',rfl,h1,h2,h3,h4⟩
 cases h1 with
 | i h1=>cases h1 with
  | lit=>exact⟨rfl,adv_below h3⟩
theorem bytes_elems {w:World} {b:Nat}:∀ (ns:List Int) (off:Nat),(∀ i,i<ns.length→w.cell? ⟨b,off+i,none⟩=some (.int .u8 (ns.getD i 0)))→(∀ n∈ns,(Lit.int .u8 n).wf=true) →
 IElems (memOf w) b off 1 (bytesI (ns.map fun n=>UInt8.ofNat n.toNat))
 | [],off,_,_=>.nil _ _ _
 | n::ns,off,h1,h2=>by
  have hw:=h2 n (by simp)
  simp only[Lit.wf,Bool.and_eq_true,decide_eq_true_eq]at hw
  have e1:IntKind.u8.min=0:=rfl
  have e2:IntKind.u8.max=255:=by decide
  rw[e1,e2]at hw
  have e:(((UInt8.ofNat n.toNat).toNat:Nat):Int)=n:=by
   rw[UInt8.toNat_ofNat'];omega
  have c0:=h1 0 (by simp)
  simp at c0
  simp only[List.map_cons,bytesI,e]
  refine .cons (.cons c0 (.lit _) rfl (.nil _ _)) rfl (bytes_elems ns (off+1) (fun i hi=>?_) fun x hx=>h2 x (by simp[hx]))
  have:=h1 (i+1) (by simpa using hi)
  rw[show off+1+i=off+(i+1)by omega,this]
  simp
theorem bytes_rep {w:World} {a:Option Addr} {len cap:Nat} {zs:List Int}
 (h:(a=none∧len=0∧cap=0∧zs=[])∨∃ x,a=some x∧len≤cap∧cap≤maxLen∧zs.length=cap∧(∀ i,i<zs.length→w.cell? (x.add i)=some (.int .u8 (zs.getD i 0)))∧∀ n∈zs,(Lit.int .u8 n).wf=true) :
 ∃ code:List UInt8,IRep (memOf w) (.isl (bytesI code)) (.slice a len cap):=by
 rcases h with ⟨rfl,rfl,rfl,rfl⟩|⟨x,rfl,h1,h2,h3,h4,h5⟩
 ·exact⟨[], .isl0 _ _ fun _=>rfl⟩
 ·by_cases hl:len=0
  ·subst hl;exact⟨[], .isl0 _ _ (by simp)⟩
  ·refine⟨(zs.take len).map fun n=>UInt8.ofNat n.toNat,?_⟩
   obtain⟨b,off,spot⟩:=x
   have hs:spot=none:=by
    have:=h4 0 (by omega)
    simp only[Addr.add,if_true,World.cell?]at this
    cases spot with
    | none=>rfl
    | some s=>split at this<;>simp at this
   subst hs
   have hlen:((zs.take len).map fun n=>UInt8.ofNat n.toNat).length=len:=by simp;omega
   have key:=bytes_elems (w:=w) (b:=b) (zs.take len) off (fun i hi=>by
    have hi':i<len:=by simp at hi;omega
    have:=h4 i (by omega)
    rw[show(⟨b,off+i,none⟩:Addr)=(⟨b,off,none⟩:Addr).add i by unfold Addr.add;split<;>simp_all,this]
    simp[List.getD,List.getElem?_take,hi']) (fun n hn=>h5 n (List.mem_of_mem_take hn))
   have hbl:(bytesI ((zs.take len).map fun n=>UInt8.ofNat n.toNat)).length=len:=by rw[bytesI_len,hlen]
   have:=IRep.isl (m:=memOf w) (b:=b) (off:=off) (k:=1) (cap:=cap) (es:=bytesI ((zs.take len).map fun n=>UInt8.ofNat n.toNat)) (fun e=>by rw[e]at hbl;simp at hbl;omega) key (by omega)
   rwa [hbl]at this
end Go.Av
namespace Go.Av
def mfC:AV→Bool
 | .i v=>bareC v
 | .nils=>true
 | .osl _ _ _ _=>true
 | _=>false
def mfCs:List AV→Bool
 | []=>true
 | c::r=>mfC c && mfCs r
def mfR:AV→Bool
 | .agg cs=>mfCs cs
 | .i (.agg cs)=>bareL cs
 | v=>mfC v
theorem memOk_all {w:World} {m:Mem} (h:MemOk w m):MLe m (memOf w):=fun b o v e=>h b o v e
theorem bare_I {m m':Mem}:∀ {cs:List IV} {vs:List Value},bareL cs=true→ICells m cs vs→ICells m' cs vs
 | [],_,_, .nil=>.nil
 | c::cs,_,h, .cons a o r=>by
  simp only[bareL,Bool.and_eq_true]at h
  refine .cons ?_ o (bare_I h.2 r)
  cases a with
  | lit=>exact .lit _
  | isl0 ao cap hc=>exact .isl0 ao cap hc
  | isl hn=>rename_i es _ _ _;cases es with|nil=>exact absurd rfl hn|cons e es=>simp[bareC]at h
  | agg=>simp[bareC]at h
  | iref=>simp[bareC]at h
theorem mfC_rep {m m':Mem} {φ:Pl} {c:AV} {x:Value} (h:mfC c=true) (hr:Rep m φ c x):Rep m' φ c x:=by
 cases hr with
 | i hr =>
  simp only[mfC]at h
  cases hr with
  | lit=>exact .i (.lit _)
  | isl0 ao cap hc=>exact .i (.isl0 ao cap hc)
  | isl hn=>rename_i es _ _ _;cases es with|nil=>exact absurd rfl hn|cons e es=>simp[bareC]at h
  | agg=>simp[bareC]at h
  | iref=>simp[bareC]at h
 | nils=>exact .nils
 | osl a b c d e=>exact .osl a b c d e
 | _=>simp[mfC]at h
theorem mfCs_rep {m m':Mem} {φ:Pl}:∀ {cs:List AV} {xs:List Value},mfCs cs=true→RepC m φ cs xs→RepC m' φ cs xs
 | [],_,_, .nil=>.nil
 | c::cs,_,h, .cons a o b=>by
  simp only[mfCs,Bool.and_eq_true]at h
  exact .cons (mfC_rep h.1 a) o (mfCs_rep h.2 b)
theorem mfR_rep {m m':Mem} {φ:Pl} {c:AV} {x:Value} (h:mfR c=true) (hr:Rep m φ c x):Rep m' φ c x:=by
 cases c with
 | agg cs=>cases hr with|agg hc=>exact .agg (mfCs_rep (by simpa only[mfR]using h) hc)
 | i v =>
  cases v with
  | agg cs=>cases hr with|i hr=>cases hr with|agg hc=>exact .i (.agg (bare_I (by simpa only[mfR]using h) hc))
  | _=>exact mfC_rep (by simpa only[mfR]using h) hr
 | _=>exact mfC_rep (by simpa only[mfR]using h) hr
def frz1 (call:CallF) (g:FuncId):List AV→StL→Option (AV×StL)
 | a::r,st=>bnd (argVal (stOf st) a) fun q=>bnd (callGo call true g (q.1::r) q.2 st.length) fun p=>outOf [p.1] p.2 (keepIds p.2 st.length [p.1])
 | [],_=>none
theorem frz1_sound {C:Ctx} {call:CallF} (hcall:CallOk C call) {g:FuncId} {args:List AV} {stl stl':StL} {r:AV} (h:frz1 call g args stl=some (r,stl')) (hy:g≠yldF:=by decide) :
 (∃ fn,C.P.funcs[g]?=some fn∧fn.name≠ "runtime.NumGoroutine"∧fn.body.isSome=true)∧∀ (w:World) (m:Mem) (φ:Pl) (vs:List Value),Inv w m φ (stOf stl)→RepL m φ args vs→(∀ id,φ id≠none→id<stl.length) →
  Calls C.P g vs.toArray w (CallPost w m φ r stl'):=by
 cases args with
 | nil=>cases h
 | cons a args =>
  unfold frz1 at h
  obtain⟨q,h1,h2⟩:=bnd_eq.1 h
  obtain⟨p,h3,h4⟩:=bnd_eq.1 h2
  unfold outOf at h4
  injection h4 with h4;injection h4 with h4 h5;subst h4;subst h5
  have hname:∃ fn,C.P.funcs[g]?=some fn∧fn.name≠ "runtime.NumGoroutine"∧fn.body.isSome=true:=by
   unfold callGo at h3
   obtain⟨p1,_,h5⟩:=bnd_eq.1 h3
   unfold callWith at h5
   obtain⟨_,h6⟩:=tst_eq.1 h5
   obtain⟨p2,h7,_⟩:=bnd_eq.1 h6
   exact hcall.name _ _ _ _ hy h7
  refine⟨hname,fun w m φ vs hi hr h0=>?_⟩
  cases hr with
  | cons ra rr =>
   obtain⟨m1,k1,k2,k3⟩:=argVal_sound hi ra (show argVal _ a=some (q.1,q.2)from h1)
   have hf:∀ id,stl.length≤id→id<stl.length+wide→φ id=none:=fun id l1 _=>by
    cases e:φ id with
    | none=>rfl
    | some b=>have:=h0 id (by rw[e];simp);omega
   obtain⟨_,hc⟩:=callGo_sound hcall hy k2 hf (.cons k1 (rr.mono k3.mle (.refl _))) (show callGo call true g _ q.2 _=some (p.1,p.2)from h3)
   refine hc.mono ?_
   rintro e w' ⟨y,rfl,m',φ',j1,j2,j3,_⟩
   generalize hids:keepIds p.2 stl.length [p.1]=ids
   have hd:ids.Nodup:=by rw[← hids];exact keepIds_nodup _ _ _
   refine⟨y,m',keepP ids φ',rfl,j1.ren (keepP_ren ids φ'),j2.keep hd,(k3.trans j3).keep h0 (fun j hj=>by rw[← hids];exact keepIds_at _ _ _ hj),?_⟩
   intro id hne
   rw[takeSt_len]
   unfold keepP at hne
   cases hx:ids[id]? with
   | none=>rw[hx]at hne;exact absurd rfl hne
   | some i=>exact(List.getElem?_eq_some_iff.1 hx).1
def frzO (call:CallF) (g:FuncId):List AV→StL→Option (AV×StL)
 | args,[]=>bnd (call g args []) fun p=>bnd (frzV (stOf p.2) p.1) fun q=>some (.i q.1,[])
 | _,_=>none
theorem frzO_sound {C:Ctx} {call:CallF} (hcall:CallOk C call) {g:FuncId} {args:List AV} {stl stl':StL} {r:AV} (h:frzO call g args stl=some (r,stl')) (hy:g≠yldF:=by decide) :
 (∃ fn,C.P.funcs[g]?=some fn∧fn.name≠ "runtime.NumGoroutine"∧fn.body.isSome=true)∧∀ (w:World) (m:Mem) (φ:Pl) (vs:List Value),Inv w m φ (stOf stl)→RepL m φ args vs→(∀ id,φ id≠none→id<stl.length) →
  Calls C.P g vs.toArray w (CallPost w m φ r stl'):=by
 unfold frzO at h
 split at h
 ·obtain⟨p,h1,h2⟩:=bnd_eq.1 h
  obtain⟨q,h3,h4⟩:=bnd_eq.1 h2
  injection h4 with h4;injection h4 with h4 h5;subst h4;subst h5
  refine⟨hcall.name _ _ _ _ hy h1,fun w m φ vs hi hr h0=>?_⟩
  refine(hcall.calls _ _ _ p.1 p.2 hy h1 w m φ vs hi hr h0).mono ?_
  rintro e w' ⟨v,m',φ',rfl,j1,j2,j3,j4⟩
  obtain⟨m1,k1,k2,k3⟩:=frzV_sound j2 j1 (show frzV _ p.1=some (q.1,q.2)from h3)
  have hn:∀ id,φ id=none:=fun id=>by
   cases e:φ id with
   | none=>rfl
   | some b=>exact absurd (h0 id (by rw[e];simp)) (Nat.not_lt_zero _)
  have ha:=j3.trans k3
  refine⟨v,m1,fun _=>none,rfl, .i k1,⟨k2.mem,fun id blk e=>(by simp[stOf]at e),fun i j b b' n n' b1 b2 f e=>(by simp[stOf]at e),fun _ _ _ _ e=>(by cases e)⟩,⟨ha.size,ha.os,ha.tape,ha.output,ha.block,ha.mle,ha.mnew,fun id b n e=>(by rw[hn id]at e;cases e),fun _ _ _ _ e=>(by cases e)⟩,fun id e=>absurd rfl e⟩
 ·cases h
def viewW (st:Store):AV→Option IV
 | .i v=>some v
 | .osl id k off len=>match st id with
  | some (.arr k' es)=>tst (decide (k'=k∧off=0∧len≤es.length∧0<len)) (some (.isl (es.take len)))
  | _=>none
 | _=>none
def viewWs (st:Store):List AV→Option (List AV)
 | []=>some []
 | c::r=>bnd (viewW st c) fun v=>bnd (viewWs st r) fun l=>some (.i v::l)
theorem viewW_sound {w:World} {m:Mem} {φ:Pl} {st:Store} {c:AV} {x:Value} {iv:IV} (hi:Inv w m φ st) (hr:Rep m φ c x) (h:viewW st c=some iv):IRep (memOf w) iv x:=by
 unfold viewW at h
 split at h
 ·injection h with h;subst h
  cases hr with
  | i hr=>exact hr.mono (memOk_all hi.mem)
 ·rename_i id k off len
  split at h
  ·rename_i k' es hst
   obtain⟨h1,h2⟩:=tst_eq.1 h
   injection h2 with h2;subst h2
   obtain⟨rfl,rfl,h3,h4⟩:=of_decide_eq_true h1
   cases hr with
   | osl e1 e2 e3 e4 e5 =>
    rename_i cap b n ao
    obtain⟨_,hk⟩:=blk_own hi e1 hst
    cases hk with
    | arr k1 k2 k3 k4 k5 k6 k7 k8 k9 =>
     rename_i T vs
     have hel:IElems (memOf w) b 0 k' es:=by
      refine elems_of_cells 0 k4 (k5.mono (memOk_all hi.mem)) fun j v hj=>?_
      show w.cell? ⟨b,0+j,none⟩=some v
      rw[Nat.zero_add,cell_row k1]
      rw[List.getElem?_take]at hj
      split at hj
      ·exact hj
      ·cases hj
     have hao:=e4 (by omega)
     subst hao
     have hlen:(es.take len).length=len:=by rw[List.length_take];omega
     have hne:es.take len≠[]:=fun e=>by rw[e]at hlen;simp at hlen;omega
     have:=IRep.isl hne (elems_take len hel) (show(es.take len).length≤cap by omega)
     rw[hlen]at this
     simpa using this
  ·cases h
 ·cases h
theorem viewWs_sound {w:World} {m:Mem} {φ:Pl} {st:Store} (hi:Inv w m φ st):∀ {cs us:List AV} {xs:List Value},RepL m φ cs xs→viewWs st cs=some us→RepL (memOf w) (fun _=>none) us xs
 | [],us,_, .nil,h=>by simp[viewWs]at h;subst h;exact .nil
 | c::cs,us,_, .cons a b,h=>by
  simp only[viewWs]at h
  obtain⟨v,h1,h2⟩:=bnd_eq.1 h
  obtain⟨l',h3,h4⟩:=bnd_eq.1 h2
  injection h4 with h4;subst h4
  exact .cons (.i (viewW_sound hi a h1)) (viewWs_sound hi b h3)
def lookC (call:CallF) (g:FuncId) (args:List AV) (st:StL):Option (AV×StL) :=
 bnd (viewWs (stOf st) args) fun us=>match call g us []with
  | some (.i v,[])=>tst (bareC v) (some (.i v,st))
  | _=>none
theorem look_sound {C:Ctx} {call:CallF} (hcall:CallOk C call) {g:FuncId} {args:List AV} {stl stl':StL} {r:AV} (h:lookC call g args stl=some (r,stl')) (hy:g≠yldF:=by decide) :
 (∃ fn,C.P.funcs[g]?=some fn∧fn.name≠ "runtime.NumGoroutine"∧fn.body.isSome=true)∧∀ (w:World) (m:Mem) (φ:Pl) (vs:List Value),Inv w m φ (stOf stl)→RepL m φ args vs→(∀ id,φ id≠none→id<stl.length) →
  Calls C.P g vs.toArray w (CallPost w m φ r stl'):=by
 unfold lookC at h
 obtain⟨us,h1,h2⟩:=bnd_eq.1 h
 split at h2
 ·rename_i iv h3
  obtain⟨h5,h6⟩:=tst_eq.1 h2
  injection h6 with h6;injection h6 with h6 h7;subst h6;subst h7
  refine⟨hcall.name _ _ _ _ hy h3,fun w m φ vs hi hr h0=>?_⟩
  refine(hcall.calls g us [] _ _ hy h3 w (memOf w) (fun _=>none) vs (inv0 w) (viewWs_sound hi hr h1) (fun id h=>absurd rfl h)).mono ?_
  rintro e w' ⟨v,m',φ',rfl,j1,j2,j3,j4⟩
  have hsame:∀ f,f<w.heap.size→w'.heap[f]?=w.heap[f]?:=fun f hf=>j3.block f hf fun id b n e=>by cases e
  exact⟨v,m,φ,rfl,mfC_rep (show mfC (.i iv)=true from h5) (by cases j1 with|i j=>exact .i j),hi.later j3.size hsame,⟨j3.size,j3.os,j3.tape,j3.output,fun b hb' _=>hsame b hb', .refl _,fun _ _ _ _=>rfl, .refl _,fun _ _ _ _ e ho=>.inr (Free.not e ho)⟩,h0⟩
 ·cases h2
def viewN (st:Store):AV→Option IV
 | .nils=>some (.isl [])
 | v=>viewW st v
def viewNs (st:Store):List AV→Option (List IV)
 | []=>some []
 | c::r=>bnd (viewN st c) fun v=>bnd (viewNs st r) fun l=>some (v::l)
def viewX (st:Store):AV→Option IV
 | .agg cs=>bnd (viewNs st cs) fun l=>some (.agg l)
 | v=>viewN st v
def viewXs (st:Store):List AV→Option (List AV)
 | []=>some []
 | c::r=>bnd (viewX st c) fun v=>bnd (viewXs st r) fun l=>some (.i v::l)
theorem viewN_sound {w:World} {m:Mem} {φ:Pl} {st:Store} {c:AV} {x:Value} {iv:IV} (hi:Inv w m φ st) (hr:Rep m φ c x) (h:viewN st c=some iv):IRep (memOf w) iv x:=by
 unfold viewN at h
 split at h
 ·injection h with h;subst h
  cases hr with
  | nils=>exact .isl0 _ _ fun _=>rfl
 ·exact viewW_sound hi hr h
theorem viewNs_sound {w:World} {m:Mem} {φ:Pl} {st:Store} (hi:Inv w m φ st):∀ {cs:List AV} {xs:List Value} {l:List IV},RepC m φ cs xs→viewNs st cs=some l→ICells (memOf w) l xs
 | [],_,l, .nil,h=>by simp[viewNs]at h;subst h;exact .nil
 | c::cs,_,l, .cons a o b,h=>by
  simp only[viewNs]at h
  obtain⟨v,h1,h2⟩:=bnd_eq.1 h
  obtain⟨l',h3,h4⟩:=bnd_eq.1 h2
  injection h4 with h4;subst h4
  exact .cons (viewN_sound hi a h1) o (viewNs_sound hi b h3)
theorem viewX_sound {w:World} {m:Mem} {φ:Pl} {st:Store} {c:AV} {x:Value} {iv:IV} (hi:Inv w m φ st) (hr:Rep m φ c x) (h:viewX st c=some iv):IRep (memOf w) iv x:=by
 unfold viewX at h
 split at h
 ·obtain⟨l,h1,h2⟩:=bnd_eq.1 h
  injection h2 with h2;subst h2
  cases hr with
  | agg hc=>exact .agg (viewNs_sound hi hc h1)
 ·exact viewN_sound hi hr h
theorem viewXs_sound {w:World} {m:Mem} {φ:Pl} {st:Store} (hi:Inv w m φ st):∀ {cs us:List AV} {xs:List Value},RepL m φ cs xs→viewXs st cs=some us→RepL (memOf w) (fun _=>none) us xs
 | [],us,_, .nil,h=>by simp[viewXs]at h;subst h;exact .nil
 | c::cs,us,_, .cons a b,h=>by
  simp only[viewXs]at h
  obtain⟨v,h1,h2⟩:=bnd_eq.1 h
  obtain⟨l',h3,h4⟩:=bnd_eq.1 h2
  injection h4 with h4;subst h4
  exact .cons (.i (viewX_sound hi a h1)) (viewXs_sound hi b h3)
def lookX (call:CallF) (g:FuncId) (args:List AV) (st:StL):Option (AV×StL) :=
 bnd (viewXs (stOf st) args) fun us=>match call g us []with
  | some (.i v,[])=>tst (bareC v) (some (.i v,st))
  | _=>none
theorem lookX_sound {C:Ctx} {call:CallF} (hcall:CallOk C call) {g:FuncId} {args:List AV} {stl stl':StL} {r:AV} (h:lookX call g args stl=some (r,stl')) (hy:g≠yldF:=by decide) :
 (∃ fn,C.P.funcs[g]?=some fn∧fn.name≠ "runtime.NumGoroutine"∧fn.body.isSome=true)∧∀ (w:World) (m:Mem) (φ:Pl) (vs:List Value),Inv w m φ (stOf stl)→RepL m φ args vs→(∀ id,φ id≠none→id<stl.length) →
  Calls C.P g vs.toArray w (CallPost w m φ r stl'):=by
 unfold lookX at h
 obtain⟨us,h1,h2⟩:=bnd_eq.1 h
 split at h2
 ·rename_i iv h3
  obtain⟨h5,h6⟩:=tst_eq.1 h2
  injection h6 with h6;injection h6 with h6 h7;subst h6;subst h7
  refine⟨hcall.name _ _ _ _ hy h3,fun w m φ vs hi hr h0=>?_⟩
  refine(hcall.calls g us [] _ _ hy h3 w (memOf w) (fun _=>none) vs (inv0 w) (viewXs_sound hi hr h1) (fun id h=>absurd rfl h)).mono ?_
  rintro e w' ⟨v,m',φ',rfl,j1,j2,j3,j4⟩
  have hsame:∀ f,f<w.heap.size→w'.heap[f]?=w.heap[f]?:=fun f hf=>j3.block f hf fun id b n e=>by cases e
  exact⟨v,m,φ,rfl,mfC_rep (show mfC (.i iv)=true from h5) (by cases j1 with|i j=>exact .i j),hi.later j3.size hsame,⟨j3.size,j3.os,j3.tape,j3.output,fun b hb' _=>hsame b hb', .refl _,fun _ _ _ _=>rfl, .refl _,fun _ _ _ _ e ho=>.inr (Free.not e ho)⟩,h0⟩
 ·cases h2
def jk:Nat→IV→AV
 | 0,_=>.junk
 | _+1,v=>.i v
@[simp] theorem jk_0 (v:IV):jk 0 v=.junk:=(rfl)
@[simp] theorem jk_s (i:Nat) (v:IV):jk (i+1) v=.i v:=(rfl)
@[simp] theorem idsOf_jk (i:Nat) (v:IV):idsOf (jk i v)=[]:=by cases i<;>rfl
@[simp] theorem ren_jk (r:Nat→Option Nat) (i:Nat) (v:IV):ren r (jk i v)=jk i v:=by cases i<;>rfl
section
variable {C:Ctx} {G:List Nat} {na:Nat} {b:Code}
theorem loop_once {S S1:AS} {r:AExit×AS} (h1:execA C G na b S=some (.normal,S1)) (h2:execA C G na (.loop b) S1=some r):execA C G na (.loop b) S=some r:=by
 rw[execA_loop,h1];exact h2
theorem loop_last {S:AS} {e:AExit} {T:AS} (h1:execA C G na b S=some (e,T)) (he:e≠.normal):execA C G na (.loop b) S=some (e,T):=by
 rw[execA_loop,h1]
 cases e<;>first|rfl|exact absurd rfl he
end
section
variable {C:Ctx} {G:List Nat} {na:Nat} {b:Code}
theorem loop_to (X:Nat→AS) (n:Nat) {S0:AS} (h0:S0=X 0) (hs:∀ i,i<n→execA C G na b (X i)=some (.normal,X (i+1))):execA C G na (.loop b) S0=execA C G na (.loop b) (X n):=by
 subst h0
 have key:∀ k i,i+k=n→execA C G na (.loop b) (X i)=execA C G na (.loop b) (X n):=by
  intro k
  induction k with
  | zero=>intro i hi;have:i=n:=by omega
          subst this;rfl
  | succ k ih=>intro i hi;rw[execA_loop,hs i (by omega)];exact ih (i+1) (by omega)
 exact key n 0 (by omega)
end
@[simp] theorem frzVs_impI (st:Store):∀ l:List IV,frzVs st (impI l)=some (l,st)
  | []=>rfl
  | v::l=>by simp[impI,frzVs,frzV,frzVs_impI st l]
@[simp] theorem window_def {α:Type} (es:List α) (off len:Nat):window es off len=(es.drop off).take len:=(rfl)
@[simp] theorem binds_d (n:Nat):Region.binds .any ⟨n, .data⟩=true:=(rfl)
@[simp] theorem binds_c (n:Nat):Region.binds .any ⟨n, .chain⟩=true:=(rfl)
@[simp] theorem binds_g (n:Nat):Region.binds .any ⟨n, .guard⟩=true:=(rfl)
@[simp] theorem binds_p (n:Nat):Region.binds .any ⟨n, .phase⟩=true:=(rfl)
def gro (id k:Nat):Nat→AV
 | 0=>.nils
 | i+1=>.osl id k 0 (i+1)
def groB (k:Nat) (es:List (List IV)):Nat→StL
 | 0=>[]
 | _+1=>[some (.arr k es)]
@[simp] theorem gro_0 (id k:Nat):gro id k 0=.nils:=(rfl)
@[simp] theorem gro_s (id k i:Nat):gro id k (i+1)=.osl id k 0 (i+1):=(rfl)
@[simp] theorem groB_0 (k:Nat) (es:List (List IV)):groB k es 0=[]:=(rfl)
@[simp] theorem groB_s (k:Nat) (es:List (List IV)) (i:Nat):groB k es (i+1)=[some (.arr k es)]:=(rfl)
theorem gro_pos {i:Nat} (h:i≠0) (id k:Nat):gro id k i=.osl id k 0 i:=by cases i with|zero=>exact absurd rfl h|succ i=>rfl
theorem groB_pos {i:Nat} (h:i≠0) (k:Nat) (es:List (List IV)):groB k es i=[some (.arr k es)]:=by cases i with|zero=>exact absurd rfl h|succ i=>rfl
theorem jk_pos {i:Nat} (h:i≠0) (v:IV):jk i v=.i v:=by cases i with|zero=>exact absurd rfl h|succ i=>rfl
@[simp] theorem impI_length:∀ l:List IV,(impI l).length=l.length
  | []=>rfl
  | _::l=>by simp[impI,impI_length l]
theorem nthE_append {α:Type}:∀ (D:List α) (z:α) (r:List α),nthE (D++z::r) D.length=some z
 | [],z,r=>rfl
 | a::D,z,r=>by simp only[List.cons_append,List.length_cons,nthE];exact nthE_append D z r
theorem all_or_first {α:Type} (p:α→Bool):∀ (l:List α),l.all p=true∨∃ (j:Nat) (a:α),l[j]?=some a∧p a=false∧(∀ (i:Nat) (b:α),i<j→l[i]?=some b→p b=true)∧l.all p=false
 | []=>.inl rfl
 | a::l=>by
  cases h:p a with
  | false=>exact .inr ⟨0,a,rfl,h,fun i b hi=>by omega,by simp[h]⟩
  | true =>
   rcases all_or_first p l with h1|⟨j,x,h1,h2,h3,h4⟩
   ·exact .inl (by simp[h,h1])
   ·refine .inr ⟨j+1,x,by simpa using h1,h2,?_,by simp[h,h4]⟩
    intro i b hi hb
    cases i with
    | zero=>simp at hb;subst hb;exact h
    | succ i=>exact h3 i b (by omega) (by simpa using hb)
theorem upto_bad {α:Type} (p:α→Bool) (l:List α):∃ j:Nat,(∀ i,i<j→∃ k,l[i]?=some k∧k∈l∧p k=true)∧((j=l.length∧l.all p=true)∨∃ k,l[j]?=some k∧k∈l∧p k=false∧l.all p=false):=by
 rcases all_or_first p l with h|⟨j,a,h1,h2,h3,h4⟩
 ·refine⟨l.length,?_, .inl ⟨rfl,h⟩⟩
  intro i hi
  have e:=List.getElem?_eq_getElem hi
  exact⟨_,e,List.mem_of_getElem? e,List.all_eq_true.1 h _ (List.mem_of_getElem? e)⟩
 ·refine⟨j,?_, .inr ⟨a,h1,List.mem_of_getElem? h1,h2,h4⟩⟩
  intro i hi
  have hl:i<l.length:=by have:=(List.getElem?_eq_some_iff.1 h1).1;omega
  have e:=List.getElem?_eq_getElem hl
  exact⟨_,e,List.mem_of_getElem? e,h3 i _ hi e⟩
noncomputable def bodyA (C:Ctx) (keep:Bool) (g:FuncId) (args:List AV) (st:StL):Option (AV×StL) :=
 match C.P.funcs[g]? with
 | none=>none
 | some fn =>
  match fn.body with
  | none=>none
  | some c=>endK C keep fn.results.toList st.length (execA C (C.G g) st.length c (enter (C.G g) args st))
theorem bodyA_eq {C:Ctx} {keep:Bool} {f:FuncId} {fn:Func} {c:Code} {rs:List ResultVar} (hf:C.P.funcs[f]?=some fn) (hb:fn.body=some c) (hr:fn.results.toList=rs) (args:List AV) (st:StL) :
 bodyA C keep f args st=endK C keep rs st.length (execA C (C.G f) st.length c (enter (C.G f) args st)):=by
 subst hr
 unfold bodyA
 rw[hf]
 simp only[hb]
theorem bodyA_sound {C:Ctx} (hS:SoundOk C) {keep:Bool} {g:FuncId} {args:List AV} {stl stl':StL} {r:AV} (h:bodyA C keep g args stl=some (r,stl')) :
 (∃ fn,C.P.funcs[g]?=some fn∧fn.name≠ "runtime.NumGoroutine"∧fn.body.isSome=true)∧∀ (w:World) (m:Mem) (φ:Pl) (vs:List Value),Inv w m φ (stOf stl)→RepL m φ args vs→(∀ id,φ id≠none→id<stl.length) →
  Calls C.P g vs.toArray w (CallPost w m φ r stl'):=by
 unfold bodyA at h
 split at h
 ·cases h
 rename_i fn hf
 split at h
 ·cases h
 rename_i c hb
 have hst:=(hS.fns g fn c hf hb).2
 refine⟨⟨fn,hf,(hS.fns g fn c hf hb).1,by rw[hb];rfl⟩,fun w m φ vs hi hargs hid=>?_⟩
 have ih:=callA_sound hS
 have hrel:SRel [] w m φ fn.ntmps stl.length (enter (C.G g) args stl) { tmps:=vs.toArray++Array.replicate (fn.ntmps-vs.toArray.size) undef,defers:=[] } w:=by
  refine⟨⟨⟨m,φ,hi,?_, .refl _ _ _,hid, .nil _ _ _⟩,by simp;omega,rfl⟩,Nat.le_refl _⟩
  intro t
  unfold enter
  simp only
  generalize C.G g=G
  induction G with
  | nil=>exact .junk _
  | cons u G ihG =>
   simp only[enterE,envOf]
   by_cases e:t=u
   ·subst e;simp only[if_true];exact enter_rep _ hargs t
   ·simp only[e,if_false];exact ihG
 refine callsIn_wide.1 (callsIn_of_wp_marks (n:=0) hf hb trivial ?_)
 have done:∀ S e,execA C (C.G g) stl.length c (enter (C.G g) args stl)=some (e,S)→finish C keep fn.results.toList stl.length S=some (r,stl')→(e=.normal∨e=.ret) →
  c.wpIn Fence.wide 0 C.P (bodyPostM Fence.wide 0 C.P fn (CallPost w m φ r stl')) { tmps:=vs.toArray++Array.replicate (fn.ntmps-vs.toArray.size) undef,defers:=[] } w:=by
  intro S e hS' hfin he
  obtain⟨n,hS'⟩:=(execA_iff _).1 hS'
  refine wpIn_mono (exec_sound (ρ:=none) hS.ctx ih (hS.draw _ ih) hid n c _ S e [] _ w hst (.inl rfl) hS' hrel) ?_
  rintro e' a' w' ⟨rfl,ds,k,_⟩
  have hl:LeavesInM Fence.wide 0 C.P fn a'.tmps (CallPost w m φ r stl') a'.defers .returning w':=by
   rw[k.1.defers]
   refine leave_marks k fun a2 w2 _ k2=>?_
   obtain⟨v,k3,k4⟩:=finish_sound (C:=C) hid k2 hfin
   exact⟨v,k3,k4⟩
  rcases he with rfl|rfl
  ·exact hl
  ·exact hl
 unfold endK at h
 split at h
 ·rename_i S hS';exact done S .normal hS' h (.inl rfl)
 ·rename_i S hS';exact done S .ret hS' h (.inr rfl)
 ·cases h
 ·cases h
inductive Pn where
 | mk (kind table:Int) (exprs:List Ex) (cols:List Int) (kids:List Pn)
def Pn.kind:Pn→Int | .mk k _ _ _ _=>k
def Pn.table:Pn→Int | .mk _ t _ _ _=>t
def Pn.exprs:Pn→List Ex | .mk _ _ es _ _=>es
def Pn.cols:Pn→List Int | .mk _ _ _ cs _=>cs
def Pn.kids:Pn→List Pn | .mk _ _ _ _ ks=>ks
@[simp] theorem Pn.kind_mk (k t es cs ks):(Pn.mk k t es cs ks).kind=k:=rfl
@[simp] theorem Pn.table_mk (k t es cs ks):(Pn.mk k t es cs ks).table=t:=rfl
@[simp] theorem Pn.exprs_mk (k t es cs ks):(Pn.mk k t es cs ks).exprs=es:=rfl
@[simp] theorem Pn.cols_mk (k t es cs ks):(Pn.mk k t es cs ks).cols=cs:=rfl
@[simp] theorem Pn.kids_mk (k t es cs ks):(Pn.mk k t es cs ks).kids=ks:=rfl
theorem Pn.eta (p:Pn):Pn.mk p.kind p.table p.exprs p.cols p.kids=p:=by cases p;rfl
def intsL:List Int→List (List IV)
 | []=>[]
 | x::l=>[.int x]::intsL l
@[simp] theorem intsL_length:∀ l:List Int,(intsL l).length=l.length
  | []=>rfl
  | _::l=>by simp[intsL,intsL_length l]
theorem intsL_nth:∀ {l:List Int} {i:Nat} {x:Int},l[i]?=some x→nthE (intsL l) i=some [.int x]
 | [],_,_,h=>by simp at h
 | a::l,0,x,h=>by simp at h;subst h;simp[intsL,nthE]
 | a::l,i+1,x,h=>by simp only[intsL,nthE];exact intsL_nth (by simpa using h)
@[simp] theorem intsL_widths:∀ l:List Int,widths 1 (intsL l)=true
  | []=>by simp[intsL,widths]
  | _::l=>by have:=intsL_widths l;simp only[widths]at this;simp[intsL,widths,this]
theorem intsL_append (a b:List Int):intsL (a++b)=intsL a++intsL b:=by
 induction a with
 | nil=>rfl
 | cons x a ih=>simp[intsL,ih]
@[simp] theorem intsL_take:∀ (n:Nat) (l:List Int),(intsL l).take n=intsL (l.take n)
  | 0,l=>by simp[intsL]
  | n+1,[]=>by simp[intsL]
  | n+1,x::l=>by simp[intsL,intsL_take n l]
mutual
def Pn.cells:Pn→List IV
 | .mk k t es cs ks=>[.int k, .int t, .isl (Ex.cellsL es), .isl (intsL cs), .isl (Pn.cellsL ks)]
def Pn.cellsL:List Pn→List (List IV)
 | []=>[]
 | p::ps=>p.cells::Pn.cellsL ps
end
theorem Pn.ind {P:Pn→Prop} (h:∀ k t es cs ks,(∀ p∈ks,P p)→P (.mk k t es cs ks)):(p:Pn)→P p
 | .mk k t es cs ks=>h k t es cs ks fun p hp=>Pn.ind h p
termination_by p=>SizeOf.sizeOf p
decreasing_by
 have:=List.sizeOf_lt_of_mem hp
 simp;omega
theorem Pn.cells_eq (p:Pn):p.cells=[.int p.kind, .int p.table, .isl (Ex.cellsL p.exprs), .isl (intsL p.cols), .isl (Pn.cellsL p.kids)]:=by
 cases p;simp[Pn.cells,Pn.kind,Pn.table,Pn.exprs,Pn.cols,Pn.kids]
theorem Pn.cells_mk (k t:Int) (es:List Ex) (cs:List Int) (ks:List Pn):(Pn.mk k t es cs ks).cells=[.int k, .int t, .isl (Ex.cellsL es), .isl (intsL cs), .isl (Pn.cellsL ks)]:=by simp[Pn.cells]
@[simp] theorem Pn.cellsL_length:∀ (l:List Pn),(Pn.cellsL l).length=l.length
  | []=>by simp[Pn.cellsL]
  | _::l=>by simp[Pn.cellsL,Pn.cellsL_length l]
theorem Pn.cellsL_nth:∀ {l:List Pn} {i:Nat} {p:Pn},l[i]?=some p→nthE (Pn.cellsL l) i=some p.cells
 | [],_,_,h=>by simp at h
 | a::l,0,p,h=>by simp at h;subst h;simp[Pn.cellsL,nthE]
 | a::l,i+1,p,h=>by simp only[Pn.cellsL,nthE];exact Pn.cellsL_nth (by simpa using h)
@[simp] theorem Pn.cells_length (p:Pn):p.cells.length=5:=by rw[Pn.cells_eq];rfl
@[simp] theorem Pn.cells_take (p:Pn):takeE 5 p.cells=some p.cells:=by rw[Pn.cells_eq];rfl
@[simp] theorem Pn.cellsL_widths:∀ (l:List Pn),widths 5 (Pn.cellsL l)=true
  | []=>by simp[Pn.cellsL,widths]
  | p::l=>by
   have:=Pn.cellsL_widths l
   simp only[widths]at this
   simp[Pn.cellsL,widths,Pn.cells_length,this]
theorem Pn.cellsL_append (a b:List Pn):Pn.cellsL (a++b)=Pn.cellsL a++Pn.cellsL b:=by
 induction a with
 | nil=>simp[Pn.cellsL]
 | cons e a ih=>simp[Pn.cellsL,ih]
@[simp] theorem Pn.cellsL_take:∀ (n:Nat) (l:List Pn),(Pn.cellsL l).take n=Pn.cellsL (l.take n)
  | 0,l=>by simp[Pn.cellsL]
  | n+1,[]=>by simp[Pn.cellsL]
  | n+1,p::l=>by simp[Pn.cellsL,Pn.cellsL_take n l]
theorem Pn.cellsL_snoc (l:List Pn) (p:Pn):Pn.cellsL (l++[p])=Pn.cellsL l++[p.cells]:=by
 rw[Pn.cellsL_append];simp[Pn.cellsL]
@[simp] theorem Pn.cells_takeI (p:Pn):takeE 5 (impI p.cells)=some (impI p.cells):=by rw[Pn.cells_eq];rfl
@[simp] theorem Pn.cells_spliceI (p:Pn) (a b c d f:AV):splice [a,b,c,d,f] 0 (impI p.cells)=some (impI p.cells):=by rw[Pn.cells_eq];rfl
mutual
def Pn.size:Pn→Nat
 | .mk _ _ _ _ ks=>1+Pn.sizeL ks
def Pn.sizeL:List Pn→Nat
 | []=>0
 | p::ps=>p.size+Pn.sizeL ps
end
theorem Pn.size_eq (p:Pn):p.size=1+Pn.sizeL p.kids:=by cases p;simp[Pn.size,Pn.kids]
theorem Pn.size_pos (p:Pn):1≤p.size:=by rw[Pn.size_eq];omega
theorem Pn.sizeL_length:∀ (l:List Pn),l.length≤Pn.sizeL l
 | []=>by simp[Pn.sizeL]
 | e::es=>by have:=Pn.sizeL_length es;have:=Pn.size_pos e;simp[Pn.sizeL];omega
theorem Pn.sizeL_mem:∀ {l:List Pn} {e:Pn},e∈l→e.size≤Pn.sizeL l
 | a::l,e,h=>by
  rcases List.mem_cons.1 h with rfl|h
  ·simp[Pn.sizeL]
  ·have:=Pn.sizeL_mem h;simp[Pn.sizeL];omega
mutual
def Pn.thin:Pn→Prop
 | .mk _ _ es cs ks=>es.length<1000000000∧(∀ e∈es,e.thin)∧cs.length<1000000000∧ks.length<1000000000∧Pn.thinL ks
def Pn.thinL:List Pn→Prop
 | []=>True
 | p::ps=>p.thin∧Pn.thinL ps
end
theorem Pn.thinL_iff:∀ (l:List Pn),Pn.thinL l↔∀ p∈l,p.thin
 | []=>by simp[Pn.thinL]
 | p::l=>by simp[Pn.thinL,Pn.thinL_iff l]
theorem Pn.thin_iff (p:Pn):p.thin↔p.exprs.length<1000000000∧(∀ e∈p.exprs,e.thin)∧p.cols.length<1000000000∧p.kids.length<1000000000∧∀ a∈p.kids,a.thin:=by
 cases p;simp[Pn.thin,Pn.thinL_iff]
def Pn.zero:Pn:=.mk 0 0 [] [] []
def Pn.scan (t:Int):Pn:=.mk 1 t [] [] []
def nKids (k:Int):Int:=if k=1 then 0 else if k=2∨k=3∨k=7∨k=8 then 1 else if k=4∨k=5∨k=6 then 2 else -1
def nExprs (k:Int):Int:=if k=2∨k=3∨k=4∨k=5 then 1 else 0
def Pn.headOk (p:Pn):Bool:=decide ((p.kids.length:Int)=nKids p.kind) && (decide ((p.exprs.length:Int)=if p.kind=3∧okWidth p.exprs.length=true then(p.exprs.length:Int)else nExprs p.kind) && ((decide (p.kind=1) || decide (p.table=0)) && (decide (p.kind=8) || decide (p.cols=[]))))
def colsOk (w:Int) (cs:List Int):Bool:=(cs.zip (-1::cs)).all fun x=>decide (x.2<x.1∧x.1<w)
def wdOver (k:Int) (es:List Ex) (cs:List Int) (a b:Int):Int :=
 if k=4∨k=5 then(if a+b≤6∧es.all (Ex.ok (a+b))=true then a+b else 0)
 else if k=6 then(if a=b then a else 0)
 else if k=8 then(if cs.length<6∧colsOk a cs=true then(cs.length:Int)+1 else 0)
 else if k=3 then(if es.all (Ex.ok a)=true then(es.length:Int)else 0)
 else(if es.all (Ex.ok a)=true then a else 0)
mutual
def Pn.wd (ws:List Int):Nat→Pn→Int
 | lv, .mk k t es cs ks=>if Pn.headOk (.mk k t es cs ks)=true∧(ks=[]∨lv≠0)then(if k=1 then(if 0≤t then(ws[t.toNat]?).getD 0 else 0)else if(Pn.wdL ws (lv-1) ks).all (fun x=>decide (x≠0))=true then wdOver k es cs ((Pn.wdL ws (lv-1) ks)[0]?.getD 0) ((Pn.wdL ws (lv-1) ks)[1]?.getD 0)else 0)else 0
def Pn.wdL (ws:List Int):Nat→List Pn→List Int
 | _,[]=>[]
 | lv,p::ps=>Pn.wd ws lv p::Pn.wdL ws lv ps
end
theorem Pn.wdL_map (ws:List Int) (lv:Nat):∀ l:List Pn,Pn.wdL ws lv l=l.map (Pn.wd ws lv)
 | []=>by simp[Pn.wdL]
 | p::l=>by simp[Pn.wdL,Pn.wdL_map ws lv l]
theorem Pn.wd_eq (ws:List Int) (lv:Nat) (p:Pn):p.wd ws lv=if p.headOk=true∧(p.kids=[]∨lv≠0)then(if p.kind=1 then(if 0≤p.table then(ws[p.table.toNat]?).getD 0 else 0)else if p.kids.all (fun x=>decide (x.wd ws (lv-1)≠0))=true then wdOver p.kind p.exprs p.cols ((p.kids[0]?.map (Pn.wd ws (lv-1))).getD 0) ((p.kids[1]?.map (Pn.wd ws (lv-1))).getD 0)else 0)else 0:=by
 obtain⟨k,t,es,cs,ks⟩:=p
 simp only[Pn.wd,Pn.wdL_map,List.all_map,List.getElem?_map,Pn.kids_mk,Pn.kind_mk,Pn.table_mk,Pn.exprs_mk,Pn.cols_mk]
 rfl
def okWs (ws:List Int):Bool:=decide (1≤ws.length∧ws.length≤4) && ws.all okWidth
def Pn.width (p:Pn) (ws:List Int):Int:=if okWs ws=true then p.wd ws 8 else 0
theorem wdOver_range {k:Int} {es:List Ex} {cs:List Int} {a b:Int} (ha:0≤a∧a≤6) (hb:0≤b∧b≤6) (he:k=3→es.length≤6):0≤wdOver k es cs a b∧wdOver k es cs a b≤6:=by
 unfold wdOver
 split
 ·split<;>omega
 ·split
  ·split<;>omega
  ·split
   ·split<;>omega
   ·split
    ·have:=he (by assumption)
     split<;>omega
    ·split<;>omega
theorem Pn.headOk_exprs {p:Pn} (h:p.headOk=true):p.exprs.length≤6:=by
 unfold Pn.headOk at h
 simp only[Bool.and_eq_true,decide_eq_true_eq]at h
 have h2:=h.2.1
 split at h2
 ·rename_i hc;have:=hc.2;simp[okWidth]at this;omega
 ·unfold nExprs at h2;split at h2<;>omega
theorem Pn.headOk_kids {p:Pn} (h:p.headOk=true):p.kids.length≤2:=by
 unfold Pn.headOk at h
 simp only[Bool.and_eq_true,decide_eq_true_eq]at h
 have h2:=h.1
 unfold nKids at h2
 split at h2
 ·omega
 ·split at h2
  ·omega
  ·split at h2<;>omega
theorem ite_rng {p:Prop} [Decidable p] {a b:Int} (ha:0≤a∧a≤6) (hb:0≤b∧b≤6):0≤(if p then a else b)∧(if p then a else b)≤6:=by split<;>assumption
theorem Pn.wd_range {ws:List Int} (hw:∀ w∈ws,0≤w∧w≤6):∀ (p:Pn) (lv:Nat),0≤p.wd ws lv∧p.wd ws lv≤6:=by
 intro p
 induction p using Pn.ind with
 | h k t es cs ks ih =>
  intro lv
  rw[Pn.wd_eq]
  split
  ·rename_i hc
   have he:=Pn.headOk_exprs hc.1
   simp only[Pn.kids_mk,Pn.kind_mk,Pn.table_mk,Pn.exprs_mk,Pn.cols_mk]at he ⊢
   by_cases h1:k=1
   ·simp only[h1,if_true]
    by_cases h2:0≤t
    ·simp only[h2,if_true]
     cases hx:ws[t.toNat]? with
     | none=>simp
     | some x=>simpa using hw x (List.mem_of_getElem? hx)
    ·simp only[h2,if_false];omega
   ·simp only[h1,if_false]
    have hk:∀ i:Nat,0≤(ks[i]?.map (Pn.wd ws (lv-1))).getD 0∧(ks[i]?.map (Pn.wd ws (lv-1))).getD 0≤6:=by
     intro i
     cases hx:ks[i]? with
     | none=>simp
     | some x=>simpa using ih x (List.mem_of_getElem? hx) (lv-1)
    exact ite_rng (wdOver_range (hk 0) (hk 1) fun _=>he) (by omega)
  ·omega
theorem Pn.wd_no {ws:List Int} {lv:Nat} {p:Pn} (h:¬ (p.headOk=true∧(p.kids=[]∨lv≠0))):p.wd ws lv=0:=by
 rw[Pn.wd_eq,if_neg h]
theorem nKids_range (k:Int):nKids k=-1∨(nKids k=0∧k=1)∨(nKids k=1∧(k=2∨k=3∨k=7∨k=8))∨(nKids k=2∧(k=4∨k=5∨k=6)):=by
 unfold nKids
 split
 ·simp[*]
 ·split
  ·simp[*]
  ·split
   ·simp[*]
   ·simp
mutual
def Pn.lim:Pn→Prop
 | .mk _ _ es cs ks=>es.length<9223372036854775808∧cs.length<9223372036854775808∧ks.length<9223372036854775808∧Pn.limL ks
def Pn.limL:List Pn→Prop
 | []=>True
 | p::ps=>p.lim∧Pn.limL ps
end
theorem Pn.limL_iff:∀ (l:List Pn),Pn.limL l↔∀ p∈l,p.lim
 | []=>by simp[Pn.limL]
 | p::l=>by simp[Pn.limL,Pn.limL_iff l]
theorem Pn.lim_iff (p:Pn):p.lim↔p.exprs.length<9223372036854775808∧p.cols.length<9223372036854775808∧p.kids.length<9223372036854775808∧∀ a∈p.kids,a.lim:=by
 cases p;simp[Pn.lim,Pn.limL_iff]
theorem Pn.thin_lim:∀ (p:Pn),p.thin→p.lim:=by
 intro p
 induction p using Pn.ind with
 | h k t es cs ks ih =>
  intro h
  have h:=(Pn.thin_iff _).1 h
  simp only[Pn.exprs_mk,Pn.cols_mk,Pn.kids_mk]at h
  exact(Pn.lim_iff _).2 ⟨by simp;omega,by simp;omega,by simp;omega,fun a ha=>ih a ha (h.2.2.2.2 a ha)⟩
theorem Pn.scan_thin (t:Int):(Pn.scan t).thin:=by simp[Pn.scan,Pn.thin,Pn.thinL]
mutual
def Pn.tiny:Pn→Prop
 | .mk _ _ es _ ks=>(∀ e∈es,e.size<1000000000)∧Pn.tinyL ks
def Pn.tinyL:List Pn→Prop
 | []=>True
 | p::ps=>p.tiny∧Pn.tinyL ps
end
theorem Pn.tinyL_iff:∀ (l:List Pn),Pn.tinyL l↔∀ p∈l,p.tiny
 | []=>by simp[Pn.tinyL]
 | p::l=>by simp[Pn.tinyL,Pn.tinyL_iff l]
theorem Pn.tiny_iff (p:Pn):p.tiny↔(∀ e∈p.exprs,e.size<1000000000)∧∀ a∈p.kids,a.tiny:=by
 cases p;simp[Pn.tiny,Pn.tinyL_iff]
theorem Ex.cellsL_set:∀ {l:List Ex} {i:Nat} {a:Ex},l[i]?=some a→(Ex.cellsL l).set i a.cells=Ex.cellsL l
 | [],_,_,h=>by simp at h
 | b::l,0,a,h=>by simp at h;subst h;simp[Ex.cellsL]
 | b::l,i+1,a,h=>by simp only[Ex.cellsL,List.set_cons_succ];rw[Ex.cellsL_set (by simpa using h)]
theorem wdOver_exprs {k:Int} {es:List Ex} {cs:List Int} {a b:Int} (h:wdOver k es cs a b≠0) (h6:k=6→es=[]) (h8:k=8→es=[]):∀ e∈es,e.size<1000:=by
 unfold wdOver at h
 intro e he
 have fin:∀ w:Int,es.all (Ex.ok w)=true→e.size<1000:=fun w hw=>Ex.ok_size (List.all_eq_true.1 hw e he)
 split at h
 ·split at h
  ·rename_i hc;exact fin _ hc.2
  ·exact absurd rfl h
 ·split at h
  ·rename_i hk;rw[h6 hk]at he;cases he
  ·split at h
   ·rename_i hk;rw[h8 hk]at he;cases he
   ·split at h
    ·split at h
     ·rename_i hc;exact fin _ hc
     ·exact absurd rfl h
    ·split at h
     ·rename_i hc;exact fin _ hc
     ·exact absurd rfl h
theorem ite_ne {p:Prop} [Decidable p] {a:Int} (h:(if p then a else 0)≠0):p∧a≠0:=by
 by_cases hp:p
 ·rw[if_pos hp]at h;exact⟨hp,h⟩
 ·rw[if_neg hp]at h;exact absurd rfl h
theorem Pn.headOk_none {p:Pn} (h:p.headOk=true) (hk:p.kind=1∨p.kind=6∨p.kind=7∨p.kind=8):p.exprs=[]:=by
 unfold Pn.headOk at h
 simp only[Bool.and_eq_true,decide_eq_true_eq]at h
 have h2:=h.2.1
 have hn:nExprs p.kind=0:=by unfold nExprs;rcases hk with e|e|e|e<;>simp[e]
 split at h2
 ·rename_i hc;rcases hk with e|e|e|e<;>(rw[e]at hc;exact absurd hc.1 (by decide))
 ·rw[hn]at h2;exact List.length_eq_zero_iff.1 (by omega)
theorem Pn.headOk_leaf {p:Pn} (h:p.headOk=true) (hk:p.kind=1):p.kids=[]:=by
 unfold Pn.headOk at h
 simp only[Bool.and_eq_true,decide_eq_true_eq]at h
 have h2:=h.1
 rw[hk]at h2
 simp[nKids]at h2
 exact h2
theorem Pn.sizeL_two:∀ (l:List Pn) (c:Nat),l.length≤2→(∀ p∈l,p.size≤c)→Pn.sizeL l≤2*c
 | [],c,_,_=>by simp[Pn.sizeL]
 | [a],c,_,h=>by have:=h a (by simp);simp[Pn.sizeL];omega
 | [a,b],c,_,h=>by have:=h a (by simp);have:=h b (by simp);simp[Pn.sizeL];omega
 | _::_::_::_,_,h,_=>by simp at h
theorem Pn.wd_fit {ws:List Int}:∀ (p:Pn) (lv:Nat),p.wd ws lv≠0→p.tiny∧p.size+1≤2 ^ (lv+1):=by
 intro p
 induction p using Pn.ind with
 | h k t es cs ks ih =>
  intro lv h
  rw[Pn.wd_eq]at h
  split at h
  ·rename_i hc
   obtain⟨hh,hlv⟩:=hc
   have hkl:=Pn.headOk_kids hh
   simp only[Pn.kids_mk,Pn.kind_mk,Pn.table_mk,Pn.exprs_mk,Pn.cols_mk]at h hlv hkl
   by_cases h1:k=1
   ·have e1:es=[]:=Pn.headOk_none hh (.inl h1)
    have e2:ks=[]:=Pn.headOk_leaf hh h1
    subst e1;subst e2
    refine⟨by simp[Pn.tiny,Pn.tinyL],?_⟩
    have:1≤2 ^ lv:=Nat.one_le_two_pow
    simp[Pn.size,Pn.sizeL,Nat.pow_succ];omega
   ·simp only[h1,if_false]at h
    obtain⟨hall,h⟩:=ite_ne h
    ·rw[List.all_eq_true]at hall
     have hes:∀ e∈es,e.size<1000:=wdOver_exprs h (fun e=>Pn.headOk_none hh (.inr (.inl e))) (fun e=>Pn.headOk_none hh (.inr (.inr (.inr e))))
     by_cases hkn:ks=[]
     ·subst hkn
      refine⟨(Pn.tiny_iff _).2 ⟨fun e he=>by have:=hes e he;omega,by simp⟩,?_⟩
      have:1≤2 ^ lv:=Nat.one_le_two_pow
      simp[Pn.size,Pn.sizeL,Nat.pow_succ];omega
     ·have hl0:lv≠0:=by rcases hlv with e|e;exact absurd e hkn;exact e
      have hk:∀ a∈ks,a.tiny∧a.size+1≤2 ^ (lv-1+1):=fun a ha=>ih a ha (lv-1) (by simpa using hall a ha)
      refine⟨(Pn.tiny_iff _).2 ⟨fun e he=>by have:=hes e he;omega,fun a ha=>(hk a ha).1⟩,?_⟩
      rw[show lv-1+1=lv by omega]at hk
      have hp:1≤2 ^ lv:=Nat.one_le_two_pow
      have:=Pn.sizeL_two ks (2 ^ lv-1) hkl fun a ha=>by have:=(hk a ha).2;omega
      simp only[Pn.size,Nat.pow_succ];omega
  ·exact absurd rfl h
def Pn.hit (t:Int) (p:Pn):Bool:=decide (p.kind=1) && decide (p.table=t)
mutual
def scP (t:Int):Pn→Bool
 | .mk k tb es cs ks=>Pn.hit t (.mk k tb es cs ks) || scPL t ks
def scPL (t:Int):List Pn→Bool
 | []=>false
 | p::ps=>scP t p || scPL t ps
end
theorem scan_wd {ws:List Int} {t W:Int} (h0:0≤t) (hw:ws[t.toNat]?=some W) (lv:Nat):(Pn.scan t).wd ws lv=W:=by
 rw[Pn.wd_eq]
 have hh:(Pn.scan t).headOk=true:=by simp[Pn.scan,Pn.headOk,nKids,nExprs]
 rw[if_pos ⟨hh, .inl rfl⟩]
 simp[Pn.scan,h0,hw]
def filt (e:Ex) (k:Pn):Pn:=.mk 2 0 [e] [] [k]
def proj (es:List Ex) (k:Pn):Pn:=.mk 3 0 es [] [k]
def pairP (kd:Int) (e:Ex) (a b:Pn):Pn:=.mk kd 0 [e] [] [a,b]
def unionP (a b:Pn):Pn:=.mk 6 0 [] [] [a,b]
def andE (a b:Ex):Ex:=.mk 8 0 Val.zero [a,b]
def colX (c:Int):Ex:=.mk 1 c Val.zero []
theorem wd_lv {ws:List Int} {p:Pn} {lv:Nat} (h:p.wd ws lv≠0) (hk:p.kids≠[]):∃ m,lv=m+1:=by
 cases lv with
 | succ m=>exact⟨m,rfl⟩
 | zero =>
  rw[Pn.wd_eq]at h
  by_cases hc:p.headOk=true∧(p.kids=[]∨0≠0)
  ·rcases hc.2 with e|e
   ·exact absurd e hk
   ·exact absurd rfl e
  ·rw[if_neg hc]at h;exact absurd rfl h
theorem wd_one {ws:List Int} {k:Int} {es:List Ex} {cs:List Int} {a:Pn} {lv:Nat} (h1:k=2∨k=3∨k=7∨k=8):(Pn.mk k 0 es cs [a]).wd ws (lv+1)=if(Pn.mk k 0 es cs [a]).headOk=true∧a.wd ws lv≠0 then wdOver k es cs (a.wd ws lv) 0 else 0:=by
 rw[Pn.wd_eq]
 have hk:k≠1:=by omega
 simp only[Pn.kids_mk,Pn.kind_mk,Pn.table_mk,Pn.exprs_mk,Pn.cols_mk,hk,if_false]
 by_cases ho:(Pn.mk k 0 es cs [a]).headOk=true
 ·by_cases hw:a.wd ws lv=0
  ·simp[ho,hw]
  ·simp[ho,hw]
 ·simp[ho]
theorem wd_two {ws:List Int} {k:Int} {es:List Ex} {cs:List Int} {a b:Pn} {lv:Nat} (h1:k=4∨k=5∨k=6):(Pn.mk k 0 es cs [a,b]).wd ws (lv+1)=if(Pn.mk k 0 es cs [a,b]).headOk=true∧a.wd ws lv≠0∧b.wd ws lv≠0 then wdOver k es cs (a.wd ws lv) (b.wd ws lv)else 0:=by
 rw[Pn.wd_eq]
 have hk:k≠1:=by omega
 simp only[Pn.kids_mk,Pn.kind_mk,Pn.table_mk,Pn.exprs_mk,Pn.cols_mk,hk,if_false]
 by_cases ho:(Pn.mk k 0 es cs [a,b]).headOk=true
 ·by_cases hw:a.wd ws lv=0
  ·simp[ho,hw]
  ·by_cases hw2:b.wd ws lv=0
   ·simp[ho,hw,hw2]
   ·simp[ho,hw,hw2]
 ·simp[ho]
theorem wd_filt {ws:List Int} {e:Ex} {a:Pn} {lv:Nat}:(filt e a).wd ws (lv+1)=if a.wd ws lv≠0∧e.ok (a.wd ws lv)=true then a.wd ws lv else 0:=by
 unfold filt
 rw[wd_one (by omega)]
 have ho:(Pn.mk 2 0 [e] [] [a]).headOk=true:=by simp[Pn.headOk,nKids,nExprs]
 by_cases h:a.wd ws lv=0
 ·simp[h]
 ·simp[ho,h,wdOver]
theorem wd_proj {ws:List Int} {es:List Ex} {a:Pn} {lv:Nat}:(proj es a).wd ws (lv+1)=if a.wd ws lv≠0∧okWidth es.length=true∧es.all (Ex.ok (a.wd ws lv))=true then(es.length:Int)else 0:=by
 unfold proj
 rw[wd_one (by omega)]
 have ho:(Pn.mk 3 0 es [] [a]).headOk=okWidth es.length:=by
  cases h:okWidth es.length with
  | true=>simp[Pn.headOk,nKids,nExprs,h]
  | false =>
   have:(es.length:Int)≠1:=by intro e;rw[e]at h;simp[okWidth]at h
   simp[Pn.headOk,nKids,nExprs,h,this]
 by_cases h:a.wd ws lv=0
 ·simp[h]
 ·by_cases h2:okWidth es.length=true
  ·simp[ho,h,h2,wdOver]
  ·simp[ho,h,h2]
theorem wd_pair {ws:List Int} {k:Int} {e:Ex} {a b:Pn} {lv:Nat} (hk:k=4∨k=5):(pairP k e a b).wd ws (lv+1)=if a.wd ws lv≠0∧b.wd ws lv≠0∧a.wd ws lv+b.wd ws lv≤6∧e.ok (a.wd ws lv+b.wd ws lv)=true then a.wd ws lv+b.wd ws lv else 0:=by
 unfold pairP
 rw[wd_two (by omega)]
 have ho:(Pn.mk k 0 [e] [] [a,b]).headOk=true:=by rcases hk with rfl|rfl<;>simp[Pn.headOk,nKids,nExprs]
 by_cases h:a.wd ws lv=0
 ·simp[h]
 ·by_cases h2:b.wd ws lv=0
  ·simp[h2]
  ·simp[ho,h,h2,wdOver,hk]
theorem wd_union {ws:List Int} {a b:Pn} {lv:Nat}:(unionP a b).wd ws (lv+1)=if a.wd ws lv≠0∧a.wd ws lv=b.wd ws lv then a.wd ws lv else 0:=by
 unfold unionP
 rw[wd_two (by omega)]
 have ho:(Pn.mk 6 0 [] [] [a,b]).headOk=true:=by simp[Pn.headOk,nKids,nExprs]
 by_cases h:a.wd ws lv=0
 ·simp[h]
 ·by_cases h2:a.wd ws lv=b.wd ws lv
  ·simp[ho,wdOver,h2,show b.wd ws lv≠0 by rw[← h2];exact h]
  ·simp[ho,h,h2,wdOver]
inductive Shape (ws:List Int) (lv:Nat):Pn→Prop
 | scan (t:Int) (W:Int) (h0:0≤t) (h:ws[t.toNat]?=some W) (hW:W≠0):Shape ws lv (.scan t)
 | filt (m:Nat) (e:Ex) (a:Pn) (h:lv=m+1) (ha:a.wd ws m≠0) (he:e.ok (a.wd ws m)=true):Shape ws lv (filt e a)
 | proj (m:Nat) (es:List Ex) (a:Pn) (h:lv=m+1) (ha:a.wd ws m≠0) (hl:okWidth es.length=true) (he:∀ e∈es,e.ok (a.wd ws m)=true):Shape ws lv (proj es a)
 | pair (m:Nat) (k:Int) (e:Ex) (a b:Pn) (h:lv=m+1) (hk:k=4∨k=5) (ha:a.wd ws m≠0) (hb:b.wd ws m≠0) (hl:a.wd ws m+b.wd ws m≤6) (he:e.ok (a.wd ws m+b.wd ws m)=true):Shape ws lv (pairP k e a b)
 | union (m:Nat) (a b:Pn) (h:lv=m+1) (ha:a.wd ws m≠0) (hb:b.wd ws m=a.wd ws m):Shape ws lv (unionP a b)
 | dist (m:Nat) (a:Pn) (h:lv=m+1) (ha:a.wd ws m≠0):Shape ws lv (.mk 7 0 [] [] [a])
 | group (m:Nat) (cs:List Int) (a:Pn) (h:lv=m+1) (ha:a.wd ws m≠0) (hc:cs.length<6) (ho:colsOk (a.wd ws m) cs=true):Shape ws lv (.mk 8 0 [] cs [a])
theorem list_one {α:Type} {l:List α} (h:l.length=1):∃ a,l=[a]:=by
 match l,h with
 | [a],_=>exact⟨a,rfl⟩
theorem list_two {α:Type} {l:List α} (h:l.length=2):∃ a b,l=[a,b]:=by
 match l,h with
 | [a,b],_=>exact⟨a,b,rfl⟩
theorem wd_shape {ws:List Int} {lv:Nat} {p:Pn} (h:p.wd ws lv≠0):Shape ws lv p:=by
 have h0:=h
 rw[Pn.wd_eq]at h
 by_cases hc:p.headOk=true∧(p.kids=[]∨lv≠0)
 case neg=>rw[if_neg hc]at h;exact absurd rfl h
 rw[if_pos hc]at h
 have hh:=hc.1
 obtain⟨k,t,es,cs,ks⟩:=p
 unfold Pn.headOk at hh
 simp only[Bool.and_eq_true,Bool.or_eq_true,decide_eq_true_eq]at hh
 simp only[Pn.kids_mk,Pn.kind_mk,Pn.table_mk,Pn.exprs_mk,Pn.cols_mk]at hh h
 obtain⟨g1,g2,g3,g4⟩:=hh
 rcases nKids_range k with e|⟨e,hk⟩|⟨e,hk⟩|⟨e,hk⟩
 ·omega
 ·subst hk
  rw[e]at g1
  have hks:ks=[]:=List.length_eq_zero_iff.1 (by omega)
  simp[nExprs]at g2
  subst g2;subst hks
  have hcs:cs=[]:=by rcases g4 with g|g;omega;exact g
  subst hcs
  simp only[if_true]at h
  obtain⟨ht,h⟩:=ite_ne h
  cases hw:ws[t.toNat]? with
  | none=>rw[hw]at h;exact absurd rfl h
  | some W=>rw[hw]at h;exact .scan t W ht hw h
 ·obtain⟨a,rfl⟩:=list_one (show ks.length=1 by omega)
  obtain⟨m,rfl⟩:=wd_lv h0 (by simp)
  have ht:t=0:=by rcases g3 with g|g;omega;exact g
  subst ht
  rcases hk with rfl|rfl|rfl|rfl
  ·have hcs:cs=[]:=by rcases g4 with g|g;omega;exact g
   subst hcs
   simp[nExprs]at g2
   obtain⟨x,rfl⟩:=list_one (show es.length=1 by omega)
   have hf:=wd_filt (ws:=ws) (e:=x) (a:=a) (lv:=m)
   unfold filt at hf
   rw[hf]at h0
   obtain⟨⟨ha,he⟩,-⟩:=ite_ne h0
   exact .filt m x a rfl ha he
  ·have hcs:cs=[]:=by rcases g4 with g|g;omega;exact g
   subst hcs
   have hf:=wd_proj (ws:=ws) (es:=es) (a:=a) (lv:=m)
   unfold proj at hf
   rw[hf]at h0
   obtain⟨⟨ha,he,hx⟩,-⟩:=ite_ne h0
   exact .proj m es a rfl ha he (List.all_eq_true.1 hx)
  ·have hcs:cs=[]:=by rcases g4 with g|g;omega;exact g
   subst hcs
   simp[nExprs]at g2
   subst g2
   rw[wd_one (by omega)]at h0
   exact .dist m a rfl (ite_ne h0).1.2
  ·simp[nExprs]at g2
   subst g2
   rw[wd_one (by omega)]at h0
   obtain⟨⟨_,ha⟩,h0⟩:=ite_ne h0
   unfold wdOver at h0
   simp only[show ¬ ((8:Int)=4∨(8:Int)=5)by omega,show ¬ (8:Int)=6 by omega,if_false,if_true]at h0
   obtain⟨⟨h1,h2⟩,-⟩:=ite_ne h0
   exact .group m cs a rfl ha h1 h2
 ·obtain⟨a,b,rfl⟩:=list_two (show ks.length=2 by omega)
  obtain⟨m,rfl⟩:=wd_lv h0 (by simp)
  have ht:t=0:=by rcases g3 with g|g;omega;exact g
  subst ht
  have hcs:cs=[]:=by rcases g4 with g|g;omega;exact g
  subst hcs
  by_cases h6:k=6
  ·subst h6
   simp[nExprs]at g2
   subst g2
   have hf:=wd_union (ws:=ws) (a:=a) (b:=b) (lv:=m)
   unfold unionP at hf
   rw[hf]at h0
   obtain⟨⟨ha,hb⟩,-⟩:=ite_ne h0
   exact .union m a b rfl ha hb.symm
  ·have hk2:k=4∨k=5:=by omega
   have hx:es.length=1:=by
    rcases hk2 with rfl|rfl<;>simp[nExprs]at g2<;>omega
   obtain⟨x,rfl⟩:=list_one hx
   have hf:=wd_pair (ws:=ws) (e:=x) (a:=a) (b:=b) (lv:=m) hk2
   unfold pairP at hf
   rw[hf]at h0
   obtain⟨⟨ha,hb,hc,he⟩,-⟩:=ite_ne h0
   exact .pair m k x a b rfl hk2 ha hb hc he
mutual
def Ex.allC (f:Int→Bool):Ex→Bool
 | .mk k c _ ks=>if k=1 then f c else Ex.allCL f ks
def Ex.allCL (f:Int→Bool):List Ex→Bool
 | []=>true
 | e::es=>Ex.allC f e && Ex.allCL f es
end
mutual
def Ex.mapC (f:Int→Int):Ex→Ex
 | .mk k c v ks=>if k=1 then colX (f c)else .mk k c v (Ex.mapCL f ks)
def Ex.mapCL (f:Int→Int):List Ex→List Ex
 | []=>[]
 | e::es=>Ex.mapC f e::Ex.mapCL f es
end
def colsFrom (a:Int) (n:Nat):List Ex:=(List.range n).map fun(i:Nat)=>colX (a+(i:Int))
def Val.tr (v:Val):Int:=if v.null=true then 1 else if v.n=0 then 0 else 2
def trV (t:Int):Val:=if t=1 then⟨true,0⟩else⟨false,if t=2 then 1 else 0⟩
def numV (n:Int):Val:=if -9999≤n∧n≤9999 then⟨false,n⟩else⟨true,0⟩
def flagV (b:Bool):Val:=⟨false,if b=true then 1 else 0⟩
def Val.cmb (k:Int) (a b:Val):Val :=
 if k=8 then trV (if b.tr<a.tr then b.tr else a.tr)else if k=9 then trV (if b.tr > a.tr then b.tr else a.tr)else
 if a.null=true∨b.null=true then⟨true,0⟩else if k=3 then numV (a.n+b.n)else if k=4 then numV (a.n-b.n)else if k=5 then numV (a.n*b.n)else
 if k=6 then flagV (a.n == b.n)else flagV (decide (a.n<b.n))
def evN (row:List Val) (k c:Int) (v:Val) (vs:List Val):Val :=
 if k=1 then(row[c.toNat]?).getD Val.zero else if k=2 then v else
 if k=10 then trV (2-((vs[0]?).getD Val.zero).tr)else if k=11 then flagV ((vs[0]?).getD Val.zero).null else
 Val.cmb k ((vs[0]?).getD Val.zero) ((vs[1]?).getD Val.zero)
mutual
def Ex.ev (row:List Val):Ex→Val
 | .mk k c v ks=>evN row k c v (Ex.evL row ks)
def Ex.evL (row:List Val):List Ex→List Val
 | []=>[]
 | e::es=>e.ev row::Ex.evL row es
end
theorem Ex.evL_map (row:List Val):∀ l,Ex.evL row l=l.map (Ex.ev row)
 | []=>rfl
 | e::es=>by simp[Ex.evL,Ex.evL_map row es]
theorem Ex.ev_eq (row:List Val) (e:Ex):e.ev row=evN row e.kind e.col e.val (e.kids.map (Ex.ev row)):=by
 cases e;simp[Ex.ev,Ex.evL_map,Ex.kind,Ex.col,Ex.val,Ex.kids]
theorem trV_ok (t:Int):(trV t).ok=true:=by unfold trV;split<;>simp[Val.ok];split<;>simp
theorem numV_ok (n:Int):(numV n).ok=true:=by unfold numV;split<;>simp_all [Val.ok]
theorem flagV_ok (b:Bool):(flagV b).ok=true:=by cases b<;>simp[flagV,Val.ok]
theorem cmb_ok (k:Int) (a b:Val):(Val.cmb k a b).ok=true:=by
 unfold Val.cmb
 repeat' split
 all_goals first|exact trV_ok _|exact numV_ok _|exact flagV_ok _|rfl
def valsL:List Val→List (List IV)
 | []=>[]
 | v::vs=>[.bool v.null, .int v.n]::valsL vs
@[simp] theorem valsL_length:∀ l:List Val,(valsL l).length=l.length
  | []=>rfl
  | _::l=>by simp[valsL,valsL_length l]
theorem valsL_nth:∀ {l:List Val} {i:Nat} {v:Val},l[i]?=some v→nthE (valsL l) i=some [.bool v.null, .int v.n]
 | [],_,_,e=>by simp at e
 | a::l,0,v,e=>by simp at e;subst e;simp[valsL,nthE]
 | a::l,i+1,v,e=>by simp only[valsL,nthE];exact valsL_nth (by simpa using e)
@[simp] theorem valsL_widths:∀ l:List Val,widths 2 (valsL l)=true
  | []=>rfl
  | _::l=>by have:=valsL_widths l;simp only[widths]at this;simp[valsL,widths,this]
@[simp] theorem valsL_take:∀ (n:Nat) (l:List Val),(valsL l).take n=valsL (l.take n)
  | 0,l=>by simp[valsL]
  | n+1,[]=>by simp[valsL]
  | n+1,e::l=>by simp[valsL,valsL_take n l]
theorem valsL_append (a b:List Val):valsL (a++b)=valsL a++valsL b:=by
 induction a with
 | nil=>simp[valsL]
 | cons e a ih=>simp[valsL,ih]
theorem valsL_snoc (l:List Val) (v:Val):valsL (l++[v])=valsL l++[[.bool v.null, .int v.n]]:=by
 rw[valsL_append];simp[valsL]
def okRow (row:List Val):Bool:=okWidth row.length && row.all Val.ok
theorem ev_ok {m:Int} (row:List Val) (hm:m=row.length) (hr:row.all Val.ok=true):∀ (e:Ex),e.wf m=true→(e.ev row).ok=true:=by
 intro e h
 rw[Ex.ev_eq]
 unfold evN
 have h':=h
 rw[Ex.wf_eq]at h'
 simp at h'
 by_cases hk:e.kind=1
 ·obtain⟨h0,h1,_⟩:=Ex.wf_col h hk
  have hi:e.col.toNat<row.length:=by omega
  have hb:=List.getElem?_eq_getElem hi
  simp[hk,hb]
  exact List.all_eq_true.1 hr _ (List.getElem_mem hi)
 ·by_cases hk2:e.kind=2
  ·simp[hk2];have:=h'.2.1;simp[Ex.headOk,hk2]at this;exact this.2
  ·simp only[hk,hk2,if_false]
   split;· exact trV_ok _
   split;· exact flagV_ok _
   ·exact cmb_ok _ _ _
def stV (v:Val):Int:=if v.null=true then 4 else if v.n=0 then 1 else 2
def orS (a b:Int):Int:=((a.toNat ||| b.toNat:Nat):Int)
def hasS (a:Int) (s:Int):Bool:=decide (a / s % 2=1)
def exS (a:Int):List Val:=(if hasS a 1=true then [⟨false,0⟩]else [])++((if hasS a 2=true then [⟨false,1⟩]else [])++(if hasS a 4=true then [⟨true,0⟩]else []))
def cmbS (k:Int) (a b:Int):Int :=
 if k=8∨k=9 then(exS a).foldl (fun s v=>(exS b).foldl (fun s w=>orS s (stV (Val.cmb k v w))) s) 0
 else orS (if hasS (orS a b) 4=true then 4 else 0) (if(hasS a 1 || hasS a 2)=true∧(hasS b 1 || hasS b 2)=true then(if k<6 then 7 else 3)else 0)
def notS (a:Int):Int:=(if hasS a 4=true then 4 else 0)+((if hasS a 1=true then 2 else 0)+(if hasS a 2=true then 1 else 0))
def nulS (a:Int):Int:=(if hasS a 4=true then 2 else 0)+(if(hasS a 1 || hasS a 2)=true then 1 else 0)
mutual
def outS (st:List Int):Ex→Int
 | .mk k c v ks=>if k=1 then(st[c.toNat]?).getD 0 else if k=2 then stV v else if k=10 then notS ((outSL st ks)[0]?.getD 0)else if k=11 then nulS ((outSL st ks)[0]?.getD 0)else cmbS k ((outSL st ks)[0]?.getD 0) ((outSL st ks)[1]?.getD 0)
def outSL (st:List Int):List Ex→List Int
 | []=>[]
 | e::es=>outS st e::outSL st es
end
theorem outSL_map (st:List Int):∀ l,outSL st l=l.map (outS st)
 | []=>by simp[outSL]
 | e::es=>by simp[outSL,outSL_map st es]
def nulls (width left:Int):List Int:=(List.range width.toNat).map fun(i:Nat)=>if left≤(i:Int)then 4 else 7
def rejP (e:Ex) (width left:Int):Bool:=!hasS (outS (nulls width left) e) 2
def Pn.ex0 (p:Pn):Ex:=(p.exprs[0]?).getD Ex.zero
def Pn.kid0 (p:Pn):Pn:=(p.kids[0]?).getD Pn.zero
def Pn.kid1 (p:Pn):Pn:=(p.kids[1]?).getD Pn.zero
def Ex.kid0 (e:Ex):Ex:=(e.kids[0]?).getD Ex.zero
def Ex.kid1 (e:Ex):Ex:=(e.kids[1]?).getD Ex.zero
def Ex.cin (e:Ex) (lo hi:Int):Bool:=e.allC fun c=>decide (lo≤c∧c<hi)
def rwF (ws:List Int) (rule:Int) (e:Ex) (k:Pn):Option Pn :=
 if rule=1∧k.kind=2 then some (filt (andE k.ex0 e) k.kid0)
 else if rule=2∧e.kind=8 then some (filt e.kid1 (filt e.kid0 k))
 else if rule=3∧(k.kind=4∨k.kind=5)∧e.cin 0 (k.kid0.wd ws 8)=true then some (pairP k.kind k.ex0 (filt e k.kid0) k.kid1)
 else if rule=4∧k.kind=4∧e.cin (k.kid0.wd ws 8) (k.wd ws 8)=true then some (pairP 4 k.ex0 k.kid0 (filt (e.mapC (·-k.kid0.wd ws 8)) k.kid1))
 else if rule=5∧k.kind=4 then some (pairP 4 (andE k.ex0 e) k.kid0 k.kid1)
 else if rule=7∧k.kind=5∧rejP e (k.wd ws 8) (k.kid0.wd ws 8)=true then some (filt e (pairP 4 k.ex0 k.kid0 k.kid1))
 else if rule=8∧k.kind=6 then some (unionP (filt e k.kid0) (filt e k.kid1))
 else if rule=10∧k.kind=3 then some (proj k.exprs (filt (e.sub k.exprs) k.kid0))
 else none
def swapC (a b c:Int):Int:=if c<a then c+b else c-a
def rwP (ws:List Int) (rule:Int) (p:Pn):Option Pn :=
 if p.kind=2 then rwF ws rule p.ex0 p.kid0
 else if rule=6∧p.kind=4 then some (proj (colsFrom (p.kid1.wd ws 8) (p.kid0.wd ws 8).toNat++colsFrom 0 (p.kid1.wd ws 8).toNat) (pairP 4 (p.ex0.mapC (swapC (p.kid0.wd ws 8) (p.kid1.wd ws 8))) p.kid1 p.kid0))
 else if rule=9∧p.kind=7∧(p.kid0.kind=7∨p.kid0.kind=8)then some p.kid0
 else if rule=11∧p.kind=3∧p.kid0.kind=3 then some (proj (p.exprs.map (Ex.sub p.kid0.exprs)) p.kid0.kid0)
 else none
def Pn.at:List Int→Pn→Option Pn
 | [],p=>some p
 | i::r,p=>if 0≤i then(p.kids[i.toNat]?).bind (Pn.at r)else none
def Pn.put:List Int→Pn→Pn→Pn
 | [],_,q=>q
 | i::r,p,q=>.mk p.kind p.table p.exprs p.cols (p.kids.set i.toNat (Pn.put r ((p.kids[i.toNat]?).getD Pn.zero) q))
theorem Pn.at_cons {i:Int} {r:List Int} {p a:Pn} (h:Pn.at (i::r) p=some a):∃ n:Nat,i=n∧∃ b,p.kids[n]?=some b∧Pn.at r b=some a:=by
 unfold Pn.at at h
 split at h
 ·rename_i h0
  obtain⟨n,rfl⟩:=Int.eq_ofNat_of_zero_le h0
  cases hb:p.kids[n]? with
  | none=>simp[hb]at h
  | some b=>exact⟨n,rfl,b,hb,by simpa [hb]using h⟩
 ·cases h
def apS (ws:List Int) (rule:Int) (path:List Int) (p:Pn):Option Pn :=
 (Pn.at path p).bind fun a=>(rwP ws rule a).bind fun q=>if(Pn.put path p q).wd ws 8≠0 then some (Pn.put path p q)else none
def rules:List Int:=[1,2,3,4,5,6,7,8,9,10,11]
abbrev Stp:=Int×List Int
mutual
def pathsP:List Int→Pn→List (List Int)
 | path, .mk _ _ _ _ ks=>path::pathsPL path 0 ks
def pathsPL:List Int→Nat→List Pn→List (List Int)
 | _,_,[]=>[]
 | path,i,p::ps=>pathsP (path++[(i:Int)]) p++pathsPL path (i+1) ps
end
def atS (ws:List Int) (p:Pn) (path:List Int):List Stp:=(rules.filter fun r=>(apS ws r path p).isSome).map fun r=>(r,path)
def stS (ws:List Int) (p:Pn):List Stp:=(pathsP [] p).flatMap (atS ws p)
theorem at_append:∀ (path:List Int) (p a:Pn) (r:List Int),Pn.at path p=some a→Pn.at (path++r) p=Pn.at r a
 | [],p,a,r,e=>by simp[Pn.at]at e;subst e;rfl
 | i::s,p,a,r,e=>by
  obtain⟨n,rfl,b,hb,hr⟩:=Pn.at_cons e
  have:=at_append s b a r hr
  simp[Pn.at,hb,this]
mutual
def Ex.bits:Ex→Nat
 | .mk k c _ ks=>if k=1 then 2 ^ c.toNat else Ex.bitsL ks
def Ex.bitsL:List Ex→Nat
 | []=>0
 | e::es=>Ex.bits e ||| Ex.bitsL es
end
def Pn.small (p:Pn):Prop:=p.size<1000000000∧p.thin∧p.tiny
noncomputable def copyP:List AV→StL→Option (AV×StL)
 | [.i (.iref cs)],[]=>@ite _ (∃ p:Pn,p.small∧p.cells=cs) (Classical.propDecidable _) (some (.i (.agg cs),[])) none
 | _,_=>none
theorem copyP_some {args:List AV} {st:StL} {r:AV×StL} (h:copyP args st=some r):∃ p:Pn,p.small∧args=[.i (.iref p.cells)]∧st=[]∧r=(.i (.agg p.cells),[]):=by
 unfold copyP at h
 split at h
 ·rename_i cs
  by_cases hc:∃ p:Pn,p.small∧p.cells=cs
  ·rw[if_pos hc]at h
   obtain⟨p,h1,rfl⟩:=hc
   injection h with h
   exact⟨p,h1,rfl,rfl,h.symm⟩
  ·rw[if_neg hc]at h;cases h
 ·cases h
abbrev PL:=List ((Nat×Nat)×Pn)
structure At5 (w:World) (b o:Nat) (v0 v1 v2 v3 v4:Value):Prop where
 c0:w.cell? ⟨b,o,none⟩=some v0
 c1:w.cell? ⟨b,o+1,none⟩=some v1
 c2:w.cell? ⟨b,o+2,none⟩=some v2
 c3:w.cell? ⟨b,o+3,none⟩=some v3
 c4:w.cell? ⟨b,o+4,none⟩=some v4
theorem At5.frame {w w':World} {b o:Nat} {v0 v1 v2 v3 v4:Value} (h:At5 w b o v0 v1 v2 v3 v4) (hw:∀ j,o≤j→j<o+5→w'.cell? ⟨b,j,none⟩=w.cell? ⟨b,j,none⟩):At5 w' b o v0 v1 v2 v3 v4 :=
 ⟨(hw _ (by omega) (by omega)).trans h.c0,(hw _ (by omega) (by omega)).trans h.c1,(hw _ (by omega) (by omega)).trans h.c2,(hw _ (by omega) (by omega)).trans h.c3,(hw _ (by omega) (by omega)).trans h.c4⟩
mutual
inductive TH (w:World) (m:Mem):Pn→Nat→Nat→List Nat→PL→Prop
 | fresh {x:Pn} {b o:Nat} {v0 v1 v2 v3 v4:Value}:ICells m x.cells [v0,v1,v2,v3,v4]→At5 w b o v0 v1 v2 v3 v4→TH w m x b o [] [((b,o),x)]
 | leaf {k t:Int} {es:List Ex} {cs:List Int} {b o:Nat} {vE vC:Value} {ao:Option Addr} {cap:Nat}:At5 w b o (.int .i64 k) (.int .i64 t) vE vC (.slice ao 0 cap)→IRep m (.isl (Ex.cellsL es)) vE→IRep m (.isl (intsL cs)) vC→(ao=none→cap=0)→TH w m (.mk k t es cs []) b o [] []
 | node {k t:Int} {es:List Ex} {cs:List Int} {ks:List Pn} {b o b' cap:Nat} {vE vC:Value} {F:List Nat} {H:PL}:At5 w b o (.int .i64 k) (.int .i64 t) vE vC (.slice (some ⟨b',0,none⟩) ks.length cap)→IRep m (.isl (Ex.cellsL es)) vE→IRep m (.isl (intsL cs)) vC→ks≠[]→ks.length≤cap→THL w m ks b' 0 F H→TH w m (.mk k t es cs ks) b o (b'::F) H
inductive THL (w:World) (m:Mem):List Pn→Nat→Nat→List Nat→PL→Prop
 | nil (b o:Nat):THL w m [] b o [] []
 | cons {x:Pn} {xs:List Pn} {b o:Nat} {F1 F2:List Nat} {H1 H2:PL}:TH w m x b o F1 H1→THL w m xs b (o+5) F2 H2→THL w m (x::xs) b o (F1++F2) (H1++H2)
end
mutual
theorem TH.frame {w w':World} {m m':Mem} (hm:MLe m m') {x:Pn} {b o:Nat} {F:List Nat} {H:PL} (hw:∀ j,o≤j→j<o+5→w'.cell? ⟨b,j,none⟩=w.cell? ⟨b,j,none⟩) (hF:∀ f∈F,∀ j,w'.cell? ⟨f,j,none⟩=w.cell? ⟨f,j,none⟩):TH w m x b o F H→TH w' m' x b o F H
 | .fresh h1 h2=>.fresh (h1.mono hm) (h2.frame hw)
 | .leaf h1 h2 h3 h4=>.leaf (h1.frame hw) (h2.mono hm) (h3.mono hm) h4
 | .node h1 h2 h3 h4 h5 h6=>.node (h1.frame hw) (h2.mono hm) (h3.mono hm) h4 h5 (THL.frame hm (fun j _ _=>hF _ (by simp) j) (fun f hf=>hF f (by simp[hf])) h6)
theorem THL.frame {w w':World} {m m':Mem} (hm:MLe m m') {xs:List Pn} {b o:Nat} {F:List Nat} {H:PL} (hw:∀ j,o≤j→j<o+5*xs.length→w'.cell? ⟨b,j,none⟩=w.cell? ⟨b,j,none⟩) (hF:∀ f∈F,∀ j,w'.cell? ⟨f,j,none⟩=w.cell? ⟨f,j,none⟩):THL w m xs b o F H→THL w' m' xs b o F H
 | .nil b o=>.nil b o
 | .cons h1 h2=>.cons (TH.frame hm (fun j l1 l2=>hw j l1 (by simp only[List.length_cons];omega)) (fun f hf=>hF f (by simp[hf])) h1) (THL.frame hm (fun j l1 l2=>hw j (by omega) (by simp only[List.length_cons];omega)) (fun f hf=>hF f (by simp[hf])) h2)
end
mutual
theorem TH.holes {w:World} {m:Mem} {x:Pn} {b o:Nat} {F:List Nat} {H:PL}:TH w m x b o F H→∀ q∈H,q.1=(b,o)∨q.1.1∈F
 | .fresh _ _,q,hq=>by simp at hq;subst hq;exact .inl rfl
 | .leaf _ _ _ _,q,hq=>by simp at hq
 | .node _ _ _ _ _ h6,q,hq=>by
  rcases THL.holes h6 q hq with ⟨h,_⟩|h
  ·exact .inr (by simp[h])
  ·exact .inr (by simp[h])
theorem THL.holes {w:World} {m:Mem} {xs:List Pn} {b o:Nat} {F:List Nat} {H:PL}:THL w m xs b o F H→∀ q∈H,(q.1.1=b∧o≤q.1.2)∨q.1.1∈F
 | .nil _ _,q,hq=>by simp at hq
 | .cons h1 h2,q,hq=>by
  rcases List.mem_append.1 hq with h|h
  ·rcases TH.holes h1 q h with e|e
   ·exact .inl ⟨by rw[e],by rw[e];exact Nat.le_refl _⟩
   ·exact .inr (by simp[e])
  ·rcases THL.holes h2 q h with ⟨e1,e2⟩|e
   ·exact .inl ⟨e1,by omega⟩
   ·exact .inr (by simp[e])
end
mutual
theorem TH.fill {w w':World} {m m':Mem} (hm:MLe m m') {bq oq:Nat} {y:Pn} {G:List Nat} {HY:PL} (hy:TH w' m' y bq oq G HY) {x:Pn} {b o:Nat} {F:List Nat} {H:PL}:TH w m x b o F H→b ∉ F→F.Nodup→((bq,oq),y)∈H →
 (∀ f∈b::F,∀ j,(f≠bq∨j<oq∨oq+5≤j)→w'.cell? ⟨f,j,none⟩=w.cell? ⟨f,j,none⟩)→∃ F' H',TH w' m' x b o F' H'∧F'.Perm (F++G)∧(((bq,oq),y)::H').Perm (H++HY)
 | .fresh _ _,_,_,hq,_=>by
  simp at hq
  obtain⟨⟨rfl,rfl⟩,rfl⟩:=hq
  exact⟨G,HY,hy,by simp,by simp⟩
 | .leaf _ _ _ _,_,_,hq,_=>by simp at hq
 | .node h1 h2 h3 h4 h5 h6,hb,hn,hq,hw=>by
  rename_i b' cap vE vC F
  have hb':b' ∉ F:=(List.nodup_cons.1 hn).1
  have hne:b≠bq:=by
   intro e
   rcases THL.holes h6 _ hq with ⟨e1,_⟩|e1
   ·exact hb (by simp at e1;simp[e,e1])
   ·exact hb (by simp at e1;simp[e,e1])
  obtain⟨F',H',k1,k2,k3⟩:=THL.fill hm hy h6 hb' (List.nodup_cons.1 hn).2 hq (fun f hf j hj=>hw f (by rcases List.mem_cons.1 hf with rfl|h<;>simp[*]) j hj)
  exact⟨b'::F',H', .node (h1.frame fun j _ _=>hw b (by simp) j (.inl hne)) (h2.mono hm) (h3.mono hm) h4 h5 k1,k2.cons _,k3⟩
theorem THL.fill {w w':World} {m m':Mem} (hm:MLe m m') {bq oq:Nat} {y:Pn} {G:List Nat} {HY:PL} (hy:TH w' m' y bq oq G HY) {xs:List Pn} {b o:Nat} {F:List Nat} {H:PL}:THL w m xs b o F H→b ∉ F→F.Nodup→((bq,oq),y)∈H →
 (∀ f∈b::F,∀ j,(f≠bq∨j<oq∨oq+5≤j)→w'.cell? ⟨f,j,none⟩=w.cell? ⟨f,j,none⟩)→∃ F' H',THL w' m' xs b o F' H'∧F'.Perm (F++G)∧(((bq,oq),y)::H').Perm (H++HY)
 | .nil _ _,_,_,hq,_=>by simp at hq
 | .cons (F1:=F1) (F2:=F2) (H1:=H1) (H2:=H2) h1 h2,hb,hn,hq,hw=>by
  have hb1:b ∉ F1:=fun h=>hb (by simp[h])
  have hb2:b ∉ F2:=fun h=>hb (by simp[h])
  obtain⟨n1,n2,n3⟩:=List.nodup_append.1 hn
  rcases List.mem_append.1 hq with h|h
  ·obtain⟨F',H',k1,k2,k3⟩:=TH.fill hm hy h1 hb1 n1 h (fun f hf j hj=>hw f (by rcases List.mem_cons.1 hf with rfl|h<;>simp[*]) j hj)
   refine⟨F'++F2,H'++H2, .cons k1 (THL.frame hm (fun j l1 l2=>hw b (by simp) j ?_) (fun f hf j=>hw f (by simp[hf]) j (.inl ?_)) h2),?_,?_⟩
   ·rcases TH.holes h1 _ h with e|e
    ·simp at e;exact .inr (.inr (by omega))
    ·exact .inl fun e2=>hb1 (by simp at e;rw[e2];exact e)
   ·rcases TH.holes h1 _ h with e|e
    ·simp at e;intro e2;rw[e2,e.1]at hf;exact hb2 hf
    ·simp at e;intro e2;rw[e2]at hf;exact n3 _ e _ hf rfl
   ·have:=k2.append_right F2
    refine this.trans ?_
    rw[List.append_assoc,List.append_assoc]
    exact(List.perm_append_comm (l₁:=G) (l₂:=F2)).append_left F1
   ·have:=k3.append_right H2
    rw[List.cons_append]at this
    refine this.trans ?_
    rw[List.append_assoc,List.append_assoc]
    exact(List.perm_append_comm (l₁:=HY) (l₂:=H2)).append_left H1
  ·obtain⟨F',H',k1,k2,k3⟩:=THL.fill hm hy h2 hb2 n2 h (fun f hf j hj=>hw f (by rcases List.mem_cons.1 hf with rfl|h<;>simp[*]) j hj)
   refine⟨F1++F',H1++H', .cons (TH.frame hm (fun j l1 l2=>hw b (by simp) j ?_) (fun f hf j=>hw f (by simp[hf]) j (.inl ?_)) h1) k1,?_,?_⟩
   ·rcases THL.holes h2 _ h with ⟨e1,e2⟩|e
    ·simp at e2;exact .inr (.inl (by omega))
    ·exact .inl fun e2=>hb2 (by simp at e;rw[e2];exact e)
   ·rcases THL.holes h2 _ h with ⟨e1,_⟩|e
    ·simp at e1;intro e2;rw[e2,e1]at hf;exact hb1 hf
    ·simp at e;intro e2;rw[e2]at hf;exact n3 _ hf _ e rfl
   ·rw[List.append_assoc];exact k2.append_left F1
   ·rw[List.append_assoc]
    refine List.perm_middle.symm.trans ?_
    exact k3.append_left H1
end
mutual
theorem TH.iat {w:World} {m m':Mem} (hm:MLe m m') {x:Pn} {b o:Nat} {F:List Nat}:TH w m x b o F []→(∀ j,o≤j→j<o+5→m' b j=w.cell? ⟨b,j,none⟩)→(∀ f∈F,∀ j,m' f j=w.cell? ⟨f,j,none⟩)→IAt m' b o x.cells
 | .leaf h1 h2 h3 h4,hb,hF=>by
  rw[Pn.cells_mk]
  have o2:(∀ es v,IRep m (.isl es) v→v.oneCell'=true):=fun es v h=>by cases h<;>rfl
  exact .cons ((hb _ (by omega) (by omega)).trans h1.c0) (.lit _) rfl (.cons ((hb _ (by omega) (by omega)).trans h1.c1) (.lit _) rfl (.cons ((hb _ (by omega) (by omega)).trans h1.c2) (h2.mono hm) (o2 _ _ h2) (.cons ((hb _ (by omega) (by omega)).trans h1.c3) (h3.mono hm) (o2 _ _ h3) (.cons ((hb _ (by omega) (by omega)).trans h1.c4) (.isl0 _ _ h4) rfl (.nil _ _)))))
 | .node h1 h2 h3 h4 h5 h6,hb,hF=>by
  rename_i ks b' cap vE vC F
  rw[Pn.cells_mk]
  have o2:(∀ es v,IRep m (.isl es) v→v.oneCell'=true):=fun es v h=>by cases h<;>rfl
  have he:=THL.iel hm h6 (fun j _ _=>hF b' (by simp) j) (fun f hf=>hF f (by simp[hf]))
  have hl:(Pn.cellsL ks).length=ks.length:=by simp
  have hn:Pn.cellsL ks≠[]:=fun e=>by rw[e]at hl;simp at hl;exact h4 (List.length_eq_zero_iff.1 hl.symm)
  have hk:IRep m' (.isl (Pn.cellsL ks)) (.slice (some ⟨b',0,none⟩) ks.length cap):=by
   have:=IRep.isl (cap:=cap) hn he (by omega)
   rwa [hl]at this
  exact .cons ((hb _ (by omega) (by omega)).trans h1.c0) (.lit _) rfl (.cons ((hb _ (by omega) (by omega)).trans h1.c1) (.lit _) rfl (.cons ((hb _ (by omega) (by omega)).trans h1.c2) (h2.mono hm) (o2 _ _ h2) (.cons ((hb _ (by omega) (by omega)).trans h1.c3) (h3.mono hm) (o2 _ _ h3) (.cons ((hb _ (by omega) (by omega)).trans h1.c4) hk rfl (.nil _ _)))))
theorem THL.iel {w:World} {m m':Mem} (hm:MLe m m') {xs:List Pn} {b o:Nat} {F:List Nat}:THL w m xs b o F []→(∀ j,o≤j→j<o+5*xs.length→m' b j=w.cell? ⟨b,j,none⟩)→(∀ f∈F,∀ j,m' f j=w.cell? ⟨f,j,none⟩)→IElems m' b o 5 (Pn.cellsL xs)
 | h,hb,hF=>by
  generalize hH:([]:PL)=H at h
  cases h with
  | nil b o=>simp only[Pn.cellsL];exact .nil b o 5
  | cons h1 h2 =>
   obtain⟨e1,e2⟩:=List.append_eq_nil_iff.1 hH.symm
   subst e1;subst e2
   simp only[Pn.cellsL]
   exact .cons (TH.iat hm h1 (fun j l1 l2=>hb j l1 (by simp only[List.length_cons];omega)) (fun f hf=>hF f (by simp[hf]))) (Pn.cells_length _) (THL.iel hm h2 (fun j l1 l2=>hb j (by omega) (by simp only[List.length_cons];omega)) (fun f hf=>hF f (by simp[hf])))
end
def Stab (R:World→Mem→Pl→Prop):Prop:=∀ w m φ w' m' φ',Adv w m φ w' m' φ'→R w m φ→R w' m' φ'
structure GR (wi:World) (mi:Mem) (nt:Nat) (ok:Nat→Prop) (R:World→Mem→Pl→Prop) (env:Nat→AV) (st:Store) (a:Act) (w:World):Prop where
 out:∃ m φ,Inv w m φ st∧(∀ t,Rep m φ (env t) (a.tmps.getD t undef))∧Adv wi mi (fun _=>none) w m φ∧(∀ id,φ id≠none→ok id)∧R w m φ
 size:nt≤a.tmps.size
 defers:a.defers=[]
section
variable {C:Ctx} {wi:World} {mi:Mem} {nt:Nat}
theorem GR.codeA (hS:SoundOk C) {G:List Nat} {c:Code} {S S':AS} {e:AExit} {a:Act} {w:World} {R:World→Mem→Pl→Prop} (hR:Stab R) (hc:codeOk nt c=true) (hx:execA C G S.st.length c S=some (e,S')) (h:GR wi mi nt (fun id=>id<S.st.length) R (envOf S.env) (stOf S.st) a w) (hnr:noRange c=true:=by rfl) :
 c.wp C.P (fun e' a' w'=>e'=exitOf e∧GR wi mi nt (fun id=>id<S'.st.length) R (envOf S'.env) (stOf S'.st) a' w') a w:=by
 obtain⟨n,hn⟩:=(execA_iff _).1 hx
 obtain⟨⟨m,φ,h1,h2,h3,h4,h5⟩,h6,h7⟩:=h
 refine wpIn_wide.1 (wpIn_mono (exec_sound (ρ:=none) hS.ctx (callA_sound hS) (hS.draw _ (callA_sound hS)) h4 n c S S' e [] a w hc (.inl rfl) hn ⟨⟨⟨m,φ,h1,h2, .refl _ _ _,h4, .nil _ _ _⟩,h6,h7⟩,Nat.le_refl _⟩) ?_)
 rintro e' a' w' ⟨rfl,ds,k,kd⟩
 have kd:=kd hnr
 subst kd
 obtain⟨⟨⟨m',φ',k1,k2,k3,k4,_⟩,k5,k6⟩,_⟩:=k
 exact⟨rfl,⟨⟨m',φ',k1,k2,h3.trans k3,k4,hR _ _ _ _ _ _ k3 h5⟩,k5,k6⟩⟩
theorem GR.turn {ok ok':Nat→Prop} {R R':World→Mem→Pl→Prop} {env env':Nat→AV} {st st':Store} {a:Act} {w:World} (h:GR wi mi nt ok R env st a w)
 (f:∀ m φ,Inv w m φ st→(∀ t,Rep m φ (env t) (a.tmps.getD t undef))→Adv wi mi (fun _=>none) w m φ→(∀ id,φ id≠none→ok id)→R w m φ →
  ∃ m' φ',Inv w m' φ' st'∧(∀ t,Rep m' φ' (env' t) (a.tmps.getD t undef))∧Adv wi mi (fun _=>none) w m' φ'∧(∀ id,φ' id≠none→ok' id)∧R' w m' φ'):GR wi mi nt ok' R' env' st' a w:=by
 obtain⟨⟨m,φ,h1,h2,h3,h4,h5⟩,h6,h7⟩:=h
 exact⟨f m φ h1 h2 h3 h4 h5,h6,h7⟩
def cutP (st':Store) (φ:Pl):Pl:=fun i=>match st' i with
 | some _=>φ i
 | none=>none
theorem cutP_some {st':Store} {φ:Pl} {i:Nat} {p:Nat×Ext} (h:cutP st' φ i=some p):φ i=some p∧st' i≠none:=by
 unfold cutP at h
 cases e:st' i with
 | none=>rw[e]at h;cases h
 | some _=>rw[e]at h;exact⟨h,by simp⟩
theorem cutP_eq {st':Store} {φ:Pl} {i:Nat} (h:st' i≠none):cutP st' φ i=φ i:=by
 unfold cutP
 cases e:st' i with
 | none=>exact absurd e h
 | some _=>rfl
theorem Inv.cut {w:World} {m:Mem} {φ:Pl} {st st':Store} (hi:Inv w m φ st) (hst:∀ i blk,st' i=some blk→st i=some blk∧LitBlk blk):Inv w m (cutP st' φ) st':=by
 refine⟨hi.mem,?_,?_,fun i b n f e ho=>hi.low i b n f (cutP_some e).1 ho⟩
 ·intro i blk hb
  obtain⟨h1,h2⟩:=hst i blk hb
  obtain⟨b,n,q1,q2,q3⟩:=hi.live i blk h1
  exact⟨b,n,by rw[cutP_eq (by rw[hb];simp)];exact q1,q2,q3.mlit h2 rfl fun o h=>h⟩
 ·intro i j b bx n n2 b1 b2 f h1 h2 h3 h4 o1 o2
  exact hi.inj i j b bx n n2 b1 b2 f (hst i b1 h1).1 (hst j b2 h2).1 (cutP_some h3).1 (cutP_some h4).1 o1 o2
theorem Adv.cut {w:World} {m:Mem} {φ:Pl} {st':Store} (h:Adv wi mi (fun _=>none) w m φ):Adv wi mi (fun _=>none) w m (cutP st' φ) :=
 ⟨h.size,h.os,h.tape,h.output,h.block,h.mle,h.mnew,(fun _ _ _ h=>by cases h),fun i b n f e ho=>h.pnew i b n f (cutP_some e).1 ho⟩
theorem Free.cut {φ:Pl} {st':Store} {f:Nat} (h:Free φ f):Free (cutP st' φ) f:=fun i b n e=>h i b n (cutP_some e).1
theorem free_dropped {w:World} {m:Mem} {φ:Pl} {st st':Store} {id b f:Nat} {n:Ext} {blk:Blk} (hi:Inv w m φ st) (hst:∀ i blk,st' i=some blk→st i=some blk∧LitBlk blk) (hid:st id=some blk) (hn:st' id=none) (e:φ id=some (b,n)) (ho:n.own f):Free (cutP st' φ) f:=by
 intro i r n' e' ho'
 obtain⟨h1,h2⟩:=cutP_some e'
 cases hb:st' i with
 | none=>exact h2 hb
 | some blk' =>
  have:=hi.inj i id r b n' n blk' blk f (hst i blk' hb).1 hid h1 e ho' ho
  rw[this,hn]at hb;cases hb
theorem new_owned {w:World} {m:Mem} {φ:Pl} {id b f:Nat} {n:Ext} (h:Adv wi mi (fun _=>none) w m φ) (e:φ id=some (b,n)) (ho:n.own f):wi.heap.size≤f:=by
 rcases h.pnew id b n f e ho with h|h
 ·exact h
 ·exact absurd (fun id b n e=>by cases e) h
theorem Inv.adopt {w:World} {m:Mem} {φ:Pl} {st:Store} {id b:Nat} {cs:List AV} {vs:List Value} {T:TypeId} (hi:Inv w m φ st) (h1:st id=none) (h2:φ id=none) (hf:Free φ b) (hm:∀ o,m b o=none) (hh:w.heap[b]?=some (.cells vs.toArray T (0,0)))
 (hc:RepC m (upd φ id (some (b,one b vs.length))) cs vs):Inv w m (upd φ id (some (b,one b vs.length))) (upd st id (some (.box cs))):=by
 have hlt:b<w.heap.size:=(Array.getElem?_eq_some_iff.1 hh).1
 have hp:PLe φ (upd φ id (some (b,one b vs.length))):=fun i r n e=>by
  refine⟨n,?_,rfl,fun _ h=>h⟩
  have:i≠id:=fun h=>by rw[h,h2]at e;cases e
  simp[upd,this,e]
 refine⟨hi.mem,?_,?_,?_⟩
 ·intro i blk hb
  by_cases hid:i=id
  ·subst hid
   simp[upd]at hb
   subst hb
   exact⟨b,one b vs.length,by simp[upd],⟨rfl,fun f hf=>by rw[show f=b from hf];exact hlt⟩, .box hh rfl hc hm⟩
  ·simp[upd,hid]at hb
   obtain⟨r,n,q1,q2,q3⟩:=hi.live i blk hb
   exact⟨r,n,by simp[upd,hid,q1],q2,q3.mono q2.1 (fun _ _=>rfl) (.refl _) hp fun _ _ _=>rfl⟩
 ·intro i j r r' n n' b1 b2 f e1 e2 p1 p2 o1 o2
  by_cases hi1:i=id
  ·by_cases hj1:j=id
   ·rw[hi1,hj1]
   ·subst hi1
    simp[upd]at p1
    simp[upd,hj1]at p2
    obtain⟨rfl,rfl⟩:=p1
    rw[show f=_ from o1]at o2
    exact absurd o2 (hf j r' n' p2)
  ·by_cases hj1:j=id
   ·subst hj1
    simp[upd]at p2
    simp[upd,hi1]at p1
    obtain⟨rfl,rfl⟩:=p2
    rw[show f=_ from o2]at o1
    exact absurd o1 (hf i r n p1)
   ·simp[upd,hi1]at e1 p1
    simp[upd,hj1]at e2 p2
    exact hi.inj i j r r' n n' b1 b2 f e1 e2 p1 p2 o1 o2
 ·intro i r n f e ho
  by_cases hid:i=id
  ·subst hid
   simp[upd]at e
   obtain⟨rfl,rfl⟩:=e
   rw[show f=_ from ho];exact hlt
  ·simp[upd,hid]at e
   exact hi.low i r n f e ho
theorem Adv.adopt {w:World} {m:Mem} {φ:Pl} {id b k:Nat} (h:Adv wi mi (fun _=>none) w m φ) (hb:wi.heap.size≤b):Adv wi mi (fun _=>none) w m (upd φ id (some (b,one b k))):=by
 refine⟨h.size,h.os,h.tape,h.output,h.block,h.mle,h.mnew,(fun _ _ _ h=>by cases h),fun i r n f e ho=>?_⟩
 by_cases hid:i=id
 ·subst hid
  simp[upd]at e
  obtain⟨rfl,rfl⟩:=e
  rw[show f=_ from ho];exact .inl hb
 ·simp[upd,hid]at e
  exact h.pnew i r n f e ho
def litVs (vs:List Value):List AV:=vs.map fun v=>.i (.lit v)
theorem litVs_rep {m:Mem} {φ:Pl}:∀ {vs:List Value},(∀ v∈vs,v.oneCell'=true)→RepC m φ (litVs vs) vs
 | [],_=>.nil
 | v::vs,h=>.cons (.i (.lit v)) (h v (by simp)) (litVs_rep fun u hu=>h u (by simp[hu]))
theorem litVs_eq {m:Mem} {φ:Pl}:∀ {vs us:List Value},RepC m φ (litVs vs) us→us=vs
 | [],_, .nil=>rfl
 | v::vs,_, .cons a _ b=>by rw[a.lit_eq,litVs_eq b]
theorem repC_append {m:Mem} {φ:Pl}:∀ {a b:List AV} {vs:List Value},RepC m φ (a++b) vs→∃ us xs,vs=us++xs∧RepC m φ a us∧RepC m φ b xs
 | [],b,vs,h=>⟨[],vs,rfl, .nil,h⟩
 | c::a,b,_, .cons h1 h2 h3=>by
  obtain⟨us,xs,rfl,k1,k2⟩:=repC_append h3
  exact⟨_::us,xs,rfl, .cons h1 h2 k1,k2⟩
theorem repC_join {m:Mem} {φ:Pl}:∀ {a b:List AV} {us xs:List Value},RepC m φ a us→RepC m φ b xs→RepC m φ (a++b) (us++xs)
 | [],_,_,_, .nil,h=>h
 | _::_,_,_,_, .cons h1 h2 h3,h=>.cons h1 h2 (repC_join h3 h)
end
structure RAW (wi:World) (root:Nat) (p:Pn) (F:List Nat) (H:PL) (w:World) (m:Mem) (φ:Pl):Prop where
 th:TH w m p root 0 F H
 nr:root ∉ F
 nd:F.Nodup
 all:∀ f∈root::F,wi.heap.size≤f∧f<w.heap.size∧Free φ f∧(∀ o,m f o=none)∧∃ (vs:List Value) (T:TypeId),w.heap[f]?=some (.cells vs.toArray T (0,0))∧∀ v∈vs,v.oneCell'=true
theorem cells_same {w w':World} {f:Nat} (h:w'.heap[f]?=w.heap[f]?) (j:Nat):w'.cell? ⟨f,j,none⟩=w.cell? ⟨f,j,none⟩:=cell_of_heap h
theorem RAW.stab (wi:World) (root:Nat) (p:Pn) (F:List Nat) (H:PL):Stab (RAW wi root p F H):=by
 intro w m φ w' m' φ' ha h
 have hs:∀ f∈root::F,w'.heap[f]?=w.heap[f]?:=fun f hf=>ha.block f (h.all f hf).2.1 (h.all f hf).2.2.1
 refine⟨h.th.frame ha.mle (fun j _ _=>cells_same (hs root (by simp)) j) (fun f hf j=>cells_same (hs f (by simp[hf])) j),h.nr,h.nd,fun f hf=>?_⟩
 obtain⟨k1,k2,k3,k4,vs,T,k5,k6⟩:=h.all f hf
 exact⟨k1,Nat.lt_of_lt_of_le k2 ha.size,ha.range k2 k3,fun o=>(ha.mnew f k2 k3 o).trans (k4 o),vs,T,by rw[hs f hf];exact k5,k6⟩
structure ADP (wi:World) (root:Nat) (p:Pn) (F:List Nat) (H:PL) (bq:Nat) (us:List Value) (wa:World) (ma:Mem) (w:World) (m:Mem) (φ:Pl):Prop where
 th:TH wa ma p root 0 F H
 nr:root ∉ F
 nd:F.Nodup
 le:MLe ma m
 inF:bq∈root::F
 own:∃ n,φ 2=some (bq,n)
 row:∃ T,wa.heap[bq]?=some (.cells us.toArray T (0,0))
 bqn:wi.heap.size≤bq
 oth:∀ f∈root::F,f≠bq→wi.heap.size≤f∧f<w.heap.size∧Free φ f∧(∀ o,m f o=none)∧w.heap[f]?=wa.heap[f]?∧∃ (vs:List Value) (T:TypeId),wa.heap[f]?=some (.cells vs.toArray T (0,0))∧∀ v∈vs,v.oneCell'=true
theorem ADP.stab (wi:World) (root:Nat) (p:Pn) (F:List Nat) (H:PL) (bq:Nat) (us:List Value) (wa:World) (ma:Mem):Stab (ADP wi root p F H bq us wa ma):=by
 intro w m φ w' m' φ' ha h
 refine⟨h.th,h.nr,h.nd,h.le.trans ha.mle,h.inF,?_,h.row,h.bqn,fun f hf hne=>?_⟩
 ·obtain⟨n,e⟩:=h.own
  obtain⟨n',e',_⟩:=ha.ple _ _ _ e
  exact⟨n',e'⟩
 ·obtain⟨k1,k2,k3,k4,k5,k6⟩:=h.oth f hf hne
  exact⟨k1,Nat.lt_of_lt_of_le k2 ha.size,ha.range k2 k3,fun o=>(ha.mnew f k2 k3 o).trans (k4 o),(ha.block f k2 k3).trans k5,k6⟩
theorem row_five {us:List Value} {o:Nat} {v0 v1 v2 v3 v4:Value} (h0:us[o]?=some v0) (h1:us[o+1]?=some v1) (h2:us[o+2]?=some v2) (h3:us[o+3]?=some v3) (h4:us[o+4]?=some v4):us=us.take o++([v0,v1,v2,v3,v4]++us.drop (o+5)):=by
 have g:∀ {o:Nat} {v:Value},us[o]?=some v→us.drop o=v::us.drop (o+1):=by
  intro o v h
  obtain⟨hl,rfl⟩:=List.getElem?_eq_some_iff.1 h
  exact List.drop_eq_getElem_cons hl
 have:us.drop o=[v0,v1,v2,v3,v4]++us.drop (o+5):=by rw[g h0,g h1,g h2,g h3,g h4];rfl
 rw[← this,List.take_append_drop]
mutual
theorem TH.hole {w:World} {m:Mem} {x:Pn} {b o:Nat} {F:List Nat} {H:PL}:TH w m x b o F H→∀ q∈H,∃ v0 v1 v2 v3 v4,ICells m q.2.cells [v0,v1,v2,v3,v4]∧At5 w q.1.1 q.1.2 v0 v1 v2 v3 v4
 | .fresh h1 h2,q,hq=>by simp at hq;subst hq;exact⟨_,_,_,_,_,h1,h2⟩
 | .leaf _ _ _ _,q,hq=>by simp at hq
 | .node _ _ _ _ _ h6,q,hq=>THL.hole h6 q hq
theorem THL.hole {w:World} {m:Mem} {xs:List Pn} {b o:Nat} {F:List Nat} {H:PL}:THL w m xs b o F H→∀ q∈H,∃ v0 v1 v2 v3 v4,ICells m q.2.cells [v0,v1,v2,v3,v4]∧At5 w q.1.1 q.1.2 v0 v1 v2 v3 v4
 | .nil _ _,q,hq=>by simp at hq
 | .cons h1 h2,q,hq=>by
  rcases List.mem_append.1 hq with h|h
  ·exact TH.hole h1 q h
  ·exact THL.hole h2 q h
end
theorem impI_rep {m:Mem} {φ:Pl}:∀ {cs:List IV} {vs:List Value},ICells m cs vs→RepC m φ (impI cs) vs
 | [],_, .nil=>.nil
 | c::cs,_, .cons a o b=>.cons (.i a) o (impI_rep b)
section
variable {wi:World} {mi:Mem} {nt:Nat}
def boxL (pre:List Value) (row:List AV) (post:List Value):List AV:=litVs pre++(row++litVs post)
theorem GR.adopt {ok:Nat→Prop} {root:Nat} {p:Pn} {F:List Nat} {H:PL} {env:Nat→AV} {st:Store} {a:Act} {w:World} {u bq oq:Nat} {y:Pn} (h:GR wi mi nt ok (RAW wi root p F H) env st a w) (hst:st 2=none) (hok:¬ ok 2) (hq:((bq,oq),y)∈H) (hu:env u=.i (.lit (.pointer (some ⟨bq,oq,none⟩)))) :
 ∃ pre post us ma,us.take oq=pre∧us.drop (oq+5)=post∧pre.length=oq∧us.length=oq+5+post.length∧(∀ v∈us,v.oneCell'=true) ∧
   GR wi mi nt (fun id=>ok id∨id=2) (ADP wi root p F H bq us w ma) (upd env u (.own 2 oq)) (upd st 2 (some (.box (boxL pre (impI y.cells) post)))) a w:=by
 obtain⟨⟨m,φ,hi,henv,hadv,hk,hr⟩,h6,h7⟩:=h
 obtain⟨v0,v1,v2,v3,v4,hc,h5⟩:=hr.th.hole _ hq
 simp only at hc h5
 have hinF:bq∈root::F:=by
  rcases hr.th.holes _ hq with e|e
  ·simp at e;simp[e]
  ·simp at e;simp[e]
 obtain⟨k1,k2,k3,k4,us,T,k5,k6⟩:=hr.all bq hinF
 have gc:∀ {o:Nat} {v:Value},w.cell? ⟨bq,o,none⟩=some v→us[o]?=some v:=fun h=>by rwa [cell_row k5]at h
 have hrow:=row_five (gc h5.c0) (gc h5.c1) (gc h5.c2) (gc h5.c3) (gc h5.c4)
 have hl4:=(List.getElem?_eq_some_iff.1 (gc h5.c4)).1
 refine⟨us.take oq,us.drop (oq+5),us,m,rfl,rfl,by rw[List.length_take];omega,by rw[List.length_drop];omega,k6,?_⟩
 have hφ2:φ 2=none:=by
  cases e:φ 2 with
  | none=>rfl
  | some q=>exact absurd (hk 2 (by rw[e];simp)) hok
 have hrep:RepC m (upd φ 2 (some (bq,one bq us.length))) (boxL (us.take oq) (impI y.cells) (us.drop (oq+5))) us:=by
  have h1:=litVs_rep (m:=m) (φ:=upd φ 2 (some (bq,one bq us.length))) (vs:=us.take oq) fun v hv=>k6 v (List.mem_of_mem_take hv)
  have h2:=litVs_rep (m:=m) (φ:=upd φ 2 (some (bq,one bq us.length))) (vs:=us.drop (oq+5)) fun v hv=>k6 v (List.mem_of_mem_drop hv)
  have h3:=repC_join h1 (repC_join (impI_rep hc) h2)
  rw[← hrow]at h3
  exact h3
 have hp:PLe φ (upd φ 2 (some (bq,one bq us.length))):=fun i r n e=>by
  refine⟨n,?_,rfl,fun _ h=>h⟩
  have:i≠2:=fun h=>by rw[h,hφ2]at e;cases e
  simp[upd,this,e]
 refine⟨⟨m,upd φ 2 (some (bq,one bq us.length)),hi.adopt hst hφ2 k3 k4 k5 hrep,fun t=>?_,hadv.adopt k1,fun id hid=>?_,?_⟩,h6,h7⟩
 ·by_cases ht:t=u
  ·subst ht
   have:=henv t;rw[hu]at this
   simp only[upd,if_true]
   rw[this.lit_eq]
   exact .own (n:=one bq us.length) (by simp[upd])
  ·simp only[upd,ht,if_false]
   exact(henv t).mono (.refl _) hp
 ·by_cases e:id=2
  ·exact .inr e
  ·simp[upd,e]at hid
   exact .inl (hk id hid)
 ·refine⟨hr.th,hr.nr,hr.nd, .refl _,hinF,⟨one bq us.length,by simp[upd]⟩,⟨T,k5⟩,k1,fun f hf hne=>?_⟩
  obtain⟨q1,q2,q3,q4,q5⟩:=hr.all f hf
  refine⟨q1,q2,fun i r n e ho=>?_,q4,rfl,q5⟩
  by_cases e2:i=2
  ·subst e2
   simp[upd]at e
   obtain⟨rfl,rfl⟩:=e
   exact hne ho
  ·simp[upd,e2]at e
   exact q3 i r n e ho
def slA (n id k:Nat):AV:=if n=0 then .nils else .osl id k 0 n
def kidsP (b:Nat):Nat→List Pn→PL
 | _,[]=>[]
 | o,x::l=>((b,o),x)::kidsP b (o+5) l
theorem Inv.reblk {w:World} {m:Mem} {φ:Pl} {st:Store} {id b:Nat} {n:Ext} {blk blk':Blk} (hi:Inv w m φ st) (h:st id=some blk) (e:φ id=some (b,n)) (hb:BlkOk w m φ b n blk'):Inv w m φ (upd st id (some blk')):=by
 refine⟨hi.mem,?_,?_,hi.low⟩
 ·intro i bl hbl
  by_cases hid:i=id
  ·subst hid
   simp[upd]at hbl;subst hbl
   exact⟨b,n,e,(blk_own hi e h).1,hb⟩
  ·simp[upd,hid]at hbl
   exact hi.live i bl hbl
 ·intro i j r r' n1 n2 b1 b2 f e1 e2 p1 p2 o1 o2
  have g:∀ i b1,upd st id (some blk') i=some b1→∃ b2,st i=some b2:=fun i b1 h1=>by
   by_cases hid:i=id
   ·subst hid;exact⟨blk,h⟩
   ·simp[upd,hid]at h1;exact⟨b1,h1⟩
  obtain⟨x1,y1⟩:=g i b1 e1
  obtain⟨x2,y2⟩:=g j b2 e2
  exact hi.inj i j r r' n1 n2 x1 x2 f y1 y2 p1 p2 o1 o2
theorem slA_frz {w:World} {m:Mem} {φ:Pl} {st:Store} {n id k:Nat} {v:Value} {es:List (List IV)} (hn:es.length=n) (hi:Inv w m φ st) (hr:Rep m φ (slA n id k) v) (hst:n≠0→st id=some (.arr k es)) :
 ∃ m1,IRep m1 (.isl es) v∧Inv w m1 φ (if n=0 then st else upd st id (some (.frz k es)))∧Adv w m φ w m1 φ:=by
 unfold slA at hr
 by_cases h0:n=0
 ·simp only[h0,if_true]at hr ⊢
  have:es=[]:=List.length_eq_zero_iff.1 (by omega)
  subst this
  cases hr
  exact⟨m, .isl0 _ _ (fun _=>rfl),hi, .refl _ _ _⟩
 ·simp only[h0,if_false]at hr ⊢
  have hid:=hst h0
  have hfr:frzV st (.osl id k 0 n)=some (.isl es,upd st id (some (.frz k es))):=by
   simp[frzV,frz,fuelF,frzSl,hid,tst,window,bnd,frzIds,List.take_of_length_le,hn]
  exact frzV_sound hi hr hfr
theorem kids_fresh {w:World} {m:Mem} {b:Nat}:∀ {ks:List Pn} {o:Nat} {vs:List Value},ICells m (Pn.cellsL ks).flatten vs→(∀ j v,vs[j]?=some v→w.cell? ⟨b,o+j,none⟩=some v)→THL w m ks b o [] (kidsP b o ks)
 | [],o,_,_,_=>.nil b o
 | k::ks,o,vs,h,hw=>by
  simp only[Pn.cellsL,List.flatten_cons]at h
  have h1:=h.take 5
  have h2:=h.drop 5
  rw[List.take_left' (Pn.cells_length k)]at h1
  rw[List.drop_left' (Pn.cells_length k)]at h2
  have hl:=h1.length
  rw[Pn.cells_length]at hl
  have hlen:5≤vs.length:=by rw[List.length_take]at hl;omega
  have hf:THL w m (k::ks) b o ([]++[]) ([((b,o),k)]++kidsP b (o+5) ks):=by
   refine .cons ?_ (kids_fresh h2 fun j v hj=>?_)
   ·have e:vs.take 5=[vs[0],vs[1],vs[2],vs[3],vs[4]]:=by
     apply List.ext_getElem (by simp;omega)
     intro i l1 l2
     simp at l1 l2
     rcases i with _|_|_|_|_|i
     ·simp
     ·simp
     ·simp
     ·simp
     ·simp
     ·omega
    rw[e]at h1
    exact .fresh h1 ⟨hw 0 _ (by simp),hw 1 _ (by simp),hw 2 _ (by simp),hw 3 _ (by simp),hw 4 _ (by simp)⟩
   ·rw[List.getElem?_drop]at hj
    have:=hw (5+j) v hj
    rwa [← Nat.add_assoc]at this
  exact hf
theorem GR.relit {ok:Nat→Prop} {root:Nat} {p:Pn} {F:List Nat} {H:PL} {env env':Nat→AV} {st st':Store} {a:Act} {w wa:World} {ma:Mem} {u bq oq idE idC idK:Nat} {pre post us:List Value} {k t:Int} {es:List Ex} {cs:List Int} {ks:List Pn}
 (h:GR wi mi nt ok (ADP wi root p F H bq us wa ma) env st a w) (h1:us.take oq=pre) (h2:us.drop (oq+5)=post) (h3:pre.length=oq) (h4:us.length=oq+5+post.length)
 (hq:((bq,oq),Pn.mk k t es cs ks)∈H) (hbox:st 2=some (.box (boxL pre [.int k, .int t,slA es.length idE 5,slA cs.length idC 1,slA ks.length idK 5] post)))
 (hE:es.length≠0→st idE=some (.arr 5 (Ex.cellsL es))) (hC:cs.length≠0→st idC=some (.arr 1 (intsL cs))) (hK:ks.length≠0→st idK=some (.arr 5 (Pn.cellsL ks)))
 (hd:2<idE∧2<idC∧2<idK∧idE≠idC∧idE≠idK∧idC≠idK)
 (hst:∀ i blk,st' i=some blk→i<2∧st i=some blk∧LitBlk blk) (he:∀ t,env' t=.junk∨(env' t=env t∧(env t=.own 2 oq∨Stays st' (env t)))) :
 ∃ F' H' us' b' cap vE vC m2,(((bq,oq),Pn.mk k t es cs ks)::H').Perm (H++kidsP b' 0 ks)∧us'=pre++([.int .i64 k, .int .i64 t,vE,vC,if ks.length=0 then .slice none 0 0 else .slice (some ⟨b',0,none⟩) ks.length cap]++post)∧(∀ v∈us',v.oneCell'=true)∧(∀ q∈H,q.1.1≠b') ∧
   GR wi mi nt (fun id=>id≤2) (ADP wi root p F' H' bq us' w m2) env' (upd st' 2 (some (.box (litVs us')))) a w:=by
 obtain⟨⟨m,φ,hi,henv,hadv,hk,hr⟩,h6,h7⟩:=h
 obtain⟨n2,e2⟩:=hr.own
 obtain⟨hb2,hok2⟩:=blk_own hi e2 hbox
 obtain⟨d1,d2,d3,d4,d5,d6⟩:=hd
 cases hok2 with
 | @box T _ vs hh hl hrc hm =>
  have hone:=hrc.one
  obtain⟨vp,x,rfl,r1,r2⟩:=repC_append hrc
  obtain⟨vr,vq,rfl,r3,r4⟩:=repC_append r2
  obtain rfl:=(litVs_eq r1).symm
  obtain rfl:=(litVs_eq r4).symm
  cases r3 with
  | cons a0 o0 r3 =>
  cases r3 with
  | cons a1 o1 r3 =>
  cases r3 with
  | @cons _ vE _ _ aE oE r3 =>
  cases r3 with
  | @cons _ vC _ _ aC oC r3 =>
  cases r3 with
  | @cons _ vK _ _ aK oK r3 =>
  cases r3
  obtain rfl:=a0.lit_eq
  obtain rfl:=a1.lit_eq
  obtain⟨m1,f1,i1,g1⟩:=slA_frz (es:=Ex.cellsL es) (by simp) hi aE hE
  have s1:∀ i,i≠idE→(if es.length=0 then st else upd st idE (some (.frz 5 (Ex.cellsL es)))) i=st i:=fun i hne=>by
   split
   ·rfl
   ·simp[upd,hne]
  generalize (if es.length=0 then st else upd st idE (some (.frz 5 (Ex.cellsL es))))=st1 at i1 s1
  obtain⟨m2,f2,i2,g2⟩:=slA_frz (es:=intsL cs) (by simp) i1 (aC.mono g1.mle (.refl _)) (fun h0=>by rw[s1 _ (by omega)];exact hC h0)
  have s2:∀ i,i≠idE→i≠idC→(if cs.length=0 then st1 else upd st1 idC (some (.frz 1 (intsL cs)))) i=st i:=fun i hne hne2=>by
   split
   ·exact s1 i hne
   ·simp[upd,hne2,s1 i hne]
  generalize (if cs.length=0 then st1 else upd st1 idC (some (.frz 1 (intsL cs))))=st2 at i2 s2
  have hA:=(hadv.trans g1).trans g2
  have hm2:∀ o,m2 bq o=none:=by
   have hb:=s2 2 (by omega) (by omega)
   rw[hbox]at hb
   obtain⟨_,hok⟩:=blk_own i2 e2 hb
   cases hok with|box _ _ _ q=>exact q
  have hlit:BlkOk w m2 φ bq n2 (.box (litVs (pre++([.int .i64 k, .int .i64 t,vE,vC,vK]++post)))):=.box hh hl (litVs_rep hone) hm2
  have i3:=i2.reblk (by rw[s2 2 (by omega) (by omega)];exact hbox) e2 hlit
  generalize hus:pre++([.int .i64 k, .int .i64 t,vE,vC,vK]++post)=us' at hh hl hone hlit i3
  have hst2:∀ i blk,upd st' 2 (some (.box (litVs us'))) i=some blk→upd st2 2 (some (.box (litVs us'))) i=some blk∧LitBlk blk:=by
   intro i blk hb
   by_cases hid:i=2
   ·subst hid
    simp[upd]at hb ⊢
    refine⟨hb,?_⟩
    subst hb
    intro c hc
    obtain⟨v,_,rfl⟩:=List.mem_map.1 hc
    exact .inl ⟨v,rfl⟩
   ·simp[upd,hid]at hb ⊢
    obtain⟨q1,q2,q3⟩:=hst i blk hb
    exact⟨by rw[s2 i (by omega) (by omega)];exact q2,q3⟩
  have i4:=i3.cut hst2
  have hat:At5 w bq oq (.int .i64 k) (.int .i64 t) vE vC vK:=by
   have g:∀ (j:Nat) (v:Value),[Value.int .i64 k, .int .i64 t,vE,vC,vK][j]?=some v→w.cell? ⟨bq,oq+j,none⟩=some v:=by
    intro j v hj
    have hj5:=(List.getElem?_eq_some_iff.1 hj).1
    rw[cell_row hh,← hus,List.getElem?_append_right (by omega),h3,Nat.add_sub_cancel_left,List.getElem?_append_left hj5]
    exact hj
   exact⟨g 0 _ rfl,g 1 _ rfl,g 2 _ rfl,g 3 _ rfl,g 4 _ rfl⟩
  have hHlt:∀ q∈H,q.1.1∈root::F:=fun q hq=>by
   rcases hr.th.holes q hq with e|e
   ·simp[e]
   ·simp[e]
  have hlt:∀ f∈root::F,f<w.heap.size:=fun f hf=>by
   by_cases hne:f=bq
   ·subst hne;exact(Array.getElem?_eq_some_iff.1 hh).1
   ·exact(hr.oth f hf hne).2.1
  have hmon:=hr.le.trans (g1.mle.trans g2.mle)
  have fE:IRep m2 (.isl (Ex.cellsL es)) vE:=f1.mono g2.mle
  obtain⟨b',cap,G,hvK,hTH,hG,hGn,hbn⟩:∃ b' cap G,vK=(if ks.length=0 then Value.slice none 0 0 else Value.slice (some ⟨b',0,none⟩) ks.length cap)∧TH w m2 (.mk k t es cs ks) bq oq G (kidsP b' 0 ks) ∧
   (∀ f∈G,wi.heap.size≤f∧f<w.heap.size∧Free (cutP (upd st' 2 (some (.box (litVs us')))) φ) f∧(∀ o,m2 f o=none)∧(∃ (vs:List Value) (T:TypeId),w.heap[f]?=some (.cells vs.toArray T (0,0))∧∀ v∈vs,v.oneCell'=true)∧f≠bq∧f ∉ root::F)∧G.Nodup∧∀ q∈H,q.1.1≠b':=by
   by_cases h0:ks.length=0
   ·have hks:ks=[]:=List.length_eq_zero_iff.1 h0
    subst hks
    simp only[slA,List.length_nil,if_true]at aK
    cases aK
    exact⟨w.heap.size,0,[],rfl, .leaf hat fE f2 (fun _=>rfl),by simp,List.nodup_nil,fun q hq e=>by have:=hlt _ (hHlt q hq);omega⟩
   ·simp only[slA,h0,if_false]at aK
    cases aK with
    | @osl _ _ _ _ cap b' nK ao eK l1 l2 l3 l4 =>
     have hao:=l3 (by omega)
     subst hao
     have hK2:st2 idK=some (.arr 5 (Pn.cellsL ks)):=by rw[s2 idK (by omega) (by omega)];exact hK h0
     obtain⟨hbK,hokK⟩:=blk_own i2 eK hK2
     cases hokK with
     | @arr TK _ _ vk q1 q2 q3 q4 q5 q6 q7 q8 q9 =>
      have hb'q:b'≠bq:=fun e=>by
       subst e
       have:=hi.inj idK 2 b' b' nK n2 _ _ b' (hK h0) hbox eK e2 hbK.1 hb2.1
       omega
      have hnF:b' ∉ root::F:=fun hm=>by
       exact(hr.oth b' hm hb'q).2.2.1 idK b' nK eK hbK.1
      refine⟨b',cap,[b'],by simp[h0],?_,?_,by simp,fun q hq e=>hnF (e ▸ hHlt q hq)⟩
      ·refine .node hat fE f2 (fun e=>h0 (by rw[e];rfl)) (by omega) ?_
       rw[Pn.cellsL_length]at q5
       exact kids_fresh q5 fun j v hj=>by
        rw[Nat.zero_add,cell_row q1]
        rw[List.getElem?_take]at hj
        split at hj
        ·exact hj
        ·cases hj
      ·intro f hf
       simp at hf
       subst hf
       refine⟨new_owned hadv eK hbK.1,hbK.2 _ hbK.1,?_,q7,⟨vk,TK,q1,q9⟩,hb'q,hnF⟩
       refine free_dropped i3 hst2 (id:=idK) (blk:=.arr 5 (Pn.cellsL ks)) (by simp[upd,show idK≠2 by omega,hK2]) ?_ eK hbK.1
       have:idK≠2:=by omega
       simp only[upd,this,if_false]
       cases hx:st' idK with
       | none=>rfl
       | some blk=>have:=(hst idK blk hx).1;omega
  obtain⟨T0,hrow0⟩:=hr.row
  have hsame:∀ f∈root::F,∀ j,(f≠bq∨j<oq∨oq+5≤j)→w.cell? ⟨f,j,none⟩=wa.cell? ⟨f,j,none⟩:=by
   intro f hf j hj
   by_cases hne:f=bq
   ·subst hne
    rw[cell_row hh,cell_row hrow0,← hus]
    rcases hj with hj|hj|hj
    ·exact absurd rfl hj
    ·rw[List.getElem?_append_left (by omega),← h1,List.getElem?_take]
     simp[hj]
    ·rw[List.getElem?_append_right (by omega),List.getElem?_append_right (by simp;omega),← h2,List.getElem?_drop]
     simp only[List.length_cons,List.length_nil,h3]
     congr 1
     omega
   ·exact cells_same (hr.oth f hf hne).2.2.2.2.1 j
  obtain⟨F1,H1,k1,k2,k3⟩:=TH.fill hmon hTH hr.th hr.nr hr.nd hq hsame
  have hF1:∀ f,f∈F1↔f∈F∨f∈G:=fun f=>by rw[k2.mem_iff,List.mem_append]
  refine⟨F1,H1,us',b',cap,vE,vC,m2,k3,by rw[← hus,hvK],hone,hbn,⟨⟨m2,cutP (upd st' 2 (some (.box (litVs us')))) φ,i4,fun x=>?_,hA.cut,fun id hid=>?_,?_⟩,h6,h7⟩⟩
  ·rcases he x with e|⟨e,e'|e'⟩
   ·rw[e];exact .junk _
   ·rw[e,e']
    have hx:=henv x
    rw[e']at hx
    generalize a.tmps.getD x undef=yy at hx ⊢
    cases hx with
    | own e3=>exact .own (by rw[cutP_eq (by simp[upd])];exact e3)
   ·rw[e]
    refine Stays.rep e' (fun i hi'=>?_) (henv x)
    refine cutP_eq ?_
    by_cases hid:i=2
    ·subst hid;simp[upd]
    ·simpa [upd,hid]using hi'
  ·cases hx:cutP (upd st' 2 (some (.box (litVs us')))) φ id with
   | none=>exact absurd hx hid
   | some q =>
    have:=(cutP_some hx).2
    by_cases hid2:id=2
    ·omega
    ·simp[upd,hid2]at this
     cases hy:st' id with
     | none=>exact absurd hy this
     | some blk=>have:=(hst id blk hy).1;omega
  ·refine⟨k1,fun hm=>?_,?_, .refl _,?_,⟨n2,by rw[cutP_eq (by simp[upd])];exact e2⟩,⟨T,hh⟩,hr.bqn,fun f hf hne=>?_⟩
   ·rcases(hF1 root).1 hm with h|h
    ·exact hr.nr h
    ·exact(hG root h).2.2.2.2.2.2 (by simp)
   ·rw[k2.nodup_iff]
    exact List.nodup_append.2 ⟨hr.nd,hGn,fun x hx y hy e=>(hG y hy).2.2.2.2.2.2 (by rw[← e];simp[hx])⟩
   ·rcases List.mem_cons.1 hr.inF with e|e
    ·simp[e]
    ·simp[(hF1 bq).2 (.inl e)]
   ·have hf':f∈root::F∨f∈G:=by
     rcases List.mem_cons.1 hf with e|e
     ·exact .inl (by simp[e])
     ·rcases(hF1 f).1 e with e|e
      ·exact .inl (by simp[e])
      ·exact .inr e
    rcases hf' with hf'|hf'
    ·obtain⟨q1,q2,q3,q4,q5,vs,T',q6,q7⟩:=hr.oth f hf' hne
     refine⟨q1,q2,q3.cut,fun o=>?_,rfl,vs,T',by rw[q5];exact q6,q7⟩
     rw[(g1.trans g2).mnew f q2 q3 o];exact q4 o
    ·obtain⟨q1,q2,q3,q4,q5,_⟩:=hG f hf'
     exact⟨q1,q2,q3,q4,rfl,q5⟩
theorem GR.giveback {ok:Nat→Prop} {root:Nat} {p:Pn} {F:List Nat} {H:PL} {env env':Nat→AV} {st st':Store} {a:Act} {w wa:World} {ma:Mem} {bq:Nat} {us:List Value}
 (h:GR wi mi nt ok (ADP wi root p F H bq us wa ma) env st a w) (hbox:st 2=some (.box (litVs us)))
 (hst:∀ i blk,st' i=some blk→i≠2∧st i=some blk∧LitBlk blk) (he:∀ t,env' t=.junk∨(env' t=env t∧Stays st' (env t))) :
 GR wi mi nt (fun id=>st' id≠none) (RAW wi root p F H) env' st' a w:=by
 obtain⟨⟨m,φ,hi,henv,hadv,hk,hr⟩,h6,h7⟩:=h
 obtain⟨n2,e2⟩:=hr.own
 obtain⟨hb2,hok2⟩:=blk_own hi e2 hbox
 have hst2:∀ i blk,st' i=some blk→st i=some blk∧LitBlk blk:=fun i blk hb=>(hst i blk hb).2
 cases hok2 with
 | @box T _ vs hh hl hrc hm =>
  have hone:=hrc.one
  obtain rfl:=(litVs_eq hrc).symm
  obtain⟨T0,hrow0⟩:=hr.row
  have hcell:∀ f∈root::F,∀ j,w.cell? ⟨f,j,none⟩=wa.cell? ⟨f,j,none⟩:=by
   intro f hf j
   by_cases hne:f=bq
   ·subst hne;rw[cell_row hh,cell_row hrow0]
   ·exact cells_same (hr.oth f hf hne).2.2.2.2.1 j
  refine⟨⟨m,cutP st' φ,hi.cut hst2,fun x=>?_,hadv.cut,fun id hid=>?_,?_⟩,h6,h7⟩
  ·rcases he x with e|⟨e,e'⟩
   ·rw[e];exact .junk _
   ·rw[e];exact e'.rep (fun i hi'=>cutP_eq hi') (henv x)
  ·cases hx:cutP st' φ id with
   | none=>exact absurd hx hid
   | some q=>exact(cutP_some hx).2
  ·refine⟨hr.th.frame hr.le (fun j _ _=>hcell root (by simp) j) (fun f hf j=>hcell f (by simp[hf]) j),hr.nr,hr.nd,fun f hf=>?_⟩
   by_cases hne:f=bq
   ·subst hne
    refine⟨hr.bqn,(Array.getElem?_eq_some_iff.1 hh).1,?_,hm,us,T,hh,hone⟩
    refine free_dropped hi hst2 hbox ?_ e2 hb2.1
    cases hx:st' 2 with
    | none=>rfl
    | some blk=>exact absurd rfl (hst 2 blk hx).1
   ·obtain⟨q1,q2,q3,q4,q5,vs',T',q6,q7⟩:=hr.oth f hf hne
    exact⟨q1,q2,q3.cut,q4,vs',T',by rw[q5];exact q6,q7⟩
end
theorem repC_impI {m:Mem} {φ:Pl}:∀ {cs:List IV} {vs:List Value},RepC m φ (impI cs) vs→ICells m cs vs
 | [],_, .nil=>.nil
 | c::cs,_, .cons a o b=>by
  cases a with
  | i a=>exact .cons a o (repC_impI b)
section
variable {wi:World} {mi:Mem} {nt:Nat}
theorem GR.pubP {ok:Nat→Prop} {R:World→Mem→Pl→Prop} {p:Pn} {env:Nat→AV} {st st':Store} {a:Act} {w:World} {u id:Nat} (h:GR wi mi nt ok R env st a w) (hu:env u=.own id 0) (hbox:st id=some (.box (impI p.cells)))
 (hst:∀ i blk,st' i=some blk→i≠id∧st i=some blk∧LitBlk blk) :
 ∃ b3,∀ env',(∀ t,env' t=.junk∨(t=u∧env' t=.i (.lit (.pointer (some ⟨b3,0,none⟩))))∨(env' t=env t∧Stays st' (env t)))→GR wi mi nt (fun i=>st' i≠none) (RAW wi b3 p [] [((b3,0),p)]) env' st' a w:=by
 obtain⟨⟨m,φ,hi,henv,hadv,hk,_⟩,h6,h7⟩:=h
 have hr:=henv u;rw[hu]at hr
 generalize hy:a.tmps.getD u undef=yy at hr
 cases hr with
 | @own _ _ b3 n3 e3 =>
  obtain⟨hb,hok⟩:=blk_own hi e3 hbox
  have hst2:∀ i blk,st' i=some blk→st i=some blk∧LitBlk blk:=fun i blk hb=>(hst i blk hb).2
  cases hok with
  | @box T _ vs hh hl hrc hm =>
   have hc:=repC_impI hrc
   have hlen:=hc.length
   rw[Pn.cells_length]at hlen
   obtain⟨v0,v1,v2,v3,v4,rfl⟩:∃ v0 v1 v2 v3 v4,vs=[v0,v1,v2,v3,v4]:=by
    match vs,hlen with
    | [v0,v1,v2,v3,v4],_=>exact⟨v0,v1,v2,v3,v4,rfl⟩
   refine⟨b3,fun env' he=>⟨⟨m,cutP st' φ,hi.cut hst2,fun t=>?_,hadv.cut,fun i hi'=>?_,?_⟩,h6,h7⟩⟩
   ·rcases he t with e|⟨rfl,e⟩|⟨e,e'⟩
    ·rw[e];exact .junk _
    ·rw[e,hy];exact .i (.lit _)
    ·rw[e];exact e'.rep (fun i hi'=>cutP_eq hi') (henv t)
   ·cases hx:cutP st' φ i with
    | none=>exact absurd hx hi'
    | some q=>exact(cutP_some hx).2
   ·refine⟨.fresh hc ⟨by rw[cell_row hh];rfl,by rw[cell_row hh];rfl,by rw[cell_row hh];rfl,by rw[cell_row hh];rfl,by rw[cell_row hh];rfl⟩,by simp,List.nodup_nil,fun f hf=>?_⟩
    simp at hf;subst hf
    refine⟨new_owned hadv e3 hb.1,hb.2 _ hb.1,?_,hm,_,T,hh,hrc.one⟩
    refine free_dropped hi hst2 hbox ?_ e3 hb.1
    cases hx:st' id with
    | none=>rfl
    | some blk=>exact absurd rfl (hst id blk hx).1
theorem GR.fin {ok:Nat→Prop} {root:Nat} {p:Pn} {F:List Nat} {env:Nat→AV} {st:Store} {a:Act} {w:World} (h:GR wi mi nt ok (RAW wi root p F []) env st a w) (hst:∀ i blk,st i=some blk→LitBlk blk) {u:Nat} (hu:env u=.i (.lit (.pointer (some ⟨root,0,none⟩)))) {env':Nat→AV} (he:∀ t,env' t=.junk∨(t=u∧env' t=.i (.iref p.cells))∨(env' t=env t∧Stays st (env t))) :
 GR wi mi nt ok (fun _ _ _=>True) env' st a w:=by
 classical
 obtain⟨⟨m,φ,hi,henv,hadv,hk,hr⟩,h6,h7⟩:=h
 let m':Mem:=fun f o=>if f∈root::F then w.cell? ⟨f,o,none⟩else m f o
 have hin:∀ f,f∈root::F→∀ o,m' f o=w.cell? ⟨f,o,none⟩:=fun f hf o=>by show(if f∈root::F then _ else _)=_;rw[if_pos hf]
 have hout:∀ f,f ∉ root::F→∀ o,m' f o=m f o:=fun f hf o=>by show(if f∈root::F then _ else _)=_;rw[if_neg hf]
 have hle:MLe m m':=fun f o v e=>by
  by_cases hf:f∈root::F
  ·rw[(hr.all f hf).2.2.2.1 o]at e;cases e
  ·rw[hout f hf];exact e
 have hmem:MemOk w m':=fun f o v e=>by
  by_cases hf:f∈root::F
  ·rw[hin f hf]at e;exact e
  ·rw[hout f hf]at e;exact hi.mem f o v e
 have hat:IAt m' root 0 p.cells:=hr.th.iat hle (fun j _ _=>hin root (by simp) j) (fun f hf j=>hin f (by simp[hf]) j)
 refine⟨⟨m',φ,⟨hmem,fun i blk hb=>?_,hi.inj,hi.low⟩,fun t=>?_,⟨hadv.size,hadv.os,hadv.tape,hadv.output,hadv.block,hadv.mle.trans hle,fun f hf hfr o=>?_,hadv.ple,hadv.pnew⟩,hk,trivial⟩,h6,h7⟩
 ·obtain⟨b,n,q1,q2,q3⟩:=hi.live i blk hb
  refine⟨b,n,q1,q2,q3.mlit (hst i blk hb) rfl fun o ho=>?_⟩
  rw[hout b (fun hf=>(hr.all b hf).2.2.1 i b n q1 q2.1)];exact ho
 ·rcases he t with e|⟨rfl,e⟩|⟨e,e'⟩
  ·rw[e];exact .junk _
  ·have hx:=henv t
   rw[hu]at hx
   rw[e,hx.lit_eq]
   exact .i (.iref hat)
  ·rw[e];exact e'.rep (fun _ _=>rfl) (henv t)
 ·rw[hout f (fun hf'=>by have:=(hr.all f hf').1;omega)]
  exact hadv.mnew f hf hfr o
theorem RAW.keep {root:Nat} {p:Pn} {F:List Nat} {H:PL} {w:World} {m:Mem} {φ:Pl} (ids:List Nat) (h:RAW wi root p F H w m φ):RAW wi root p F H w m (keepP ids φ):=by
 refine⟨h.th,h.nr,h.nd,fun f hf=>?_⟩
 obtain⟨k1,k2,k3,k4,k5⟩:=h.all f hf
 refine⟨k1,k2,fun id r n e=>?_,k4,k5⟩
 unfold keepP at e
 cases hx:ids[id]? with
 | none=>rw[hx]at e;cases e
 | some j=>rw[hx]at e;exact k3 j r n e
theorem GR.settle {ok:Nat→Prop} {R:World→Mem→Pl→Prop} (hR:∀ w m φ ids,R w m φ→R w m (keepP ids φ)) {env:Nat→AV} {st:Store} {a:Act} {w:World} (G:List Nat) (h:GR wi mi nt ok R env st a w) :
 GR wi mi nt (fun id=>id<(Av.settle G 0 env st).st.length) R (envOf (Av.settle G 0 env st).env) (stOf (Av.settle G 0 env st).st) a w:=by
 obtain⟨⟨m,φ,hi,henv,hadv,hok,hK⟩,hsz,hdf⟩:=h
 unfold Av.settle settleW
 generalize hids:keepIds st 0 (envAt env G)=ids
 have hd:ids.Nodup:=by rw[← hids];exact keepIds_nodup _ _ _
 refine⟨⟨m,keepP ids φ,hi.keep hd,?_,hadv.keep (fun id h=>absurd rfl h) (fun j hj=>absurd hj (Nat.not_lt_zero j)),?_,hR _ _ _ ids hK⟩,hsz,hdf⟩
 ·intro t
  have key:∀ G:List Nat,Rep m (keepP ids φ) (envOf (keepEnv (posOf ids) env G) t) (a.tmps.getD t undef):=by
   intro G
   induction G with
   | nil=>exact .junk _
   | cons u G ih =>
    simp only[keepEnv,envOf]
    by_cases e:t=u
    ·subst e;simp only[if_true];exact(henv t).ren (keepP_ren ids φ)
    ·simp only[e,if_false];exact ih
  exact key G
 ·intro id hne
  simp only[takeSt_len]
  unfold keepP at hne
  cases hx:ids[id]? with
  | none=>rw[hx]at hne;exact absurd rfl hne
  | some i=>exact(List.getElem?_eq_some_iff.1 hx).1
theorem GR.envTo {ok:Nat→Prop} {R:World→Mem→Pl→Prop} {env env':Nat→AV} {st:Store} {a:Act} {w:World} (h:GR wi mi nt ok R env st a w) (he:∀ t,env' t=.junk∨env' t=env t):GR wi mi nt ok R env' st a w:=by
 refine h.turn fun m φ h1 h2 h3 h4 h5=>⟨m,φ,h1,fun t=>?_,h3,h4,h5⟩
 rcases he t with e|e
 ·rw[e];exact .junk _
 ·rw[e];exact h2 t
theorem GR.ok' {ok ok':Nat→Prop} {R:World→Mem→Pl→Prop} {env:Nat→AV} {st:Store} {a:Act} {w:World} (h:GR wi mi nt ok R env st a w) (he:∀ id,ok id→ok' id):GR wi mi nt ok' R env st a w :=
 h.turn fun m φ h1 h2 h3 h4 h5=>⟨m,φ,h1,h2,h3,fun id hi=>he id (h4 id hi),h5⟩
theorem GR.codeX {C:Ctx} (hS:SoundOk C) {G:List Nat} {c:Code} {S:AS} {a:Act} {w:World} {R:World→Mem→Pl→Prop} (hR:Stab R) {PP:AExit→AS→Prop} (hc:codeOk nt c=true) (hx:∃ e S',execA C G S.st.length c S=some (e,S')∧PP e S') (h:GR wi mi nt (fun id=>id<S.st.length) R (envOf S.env) (stOf S.st) a w) (hnr:noRange c=true:=by rfl) :
 c.wp C.P (fun e' a' w'=>∃ e S',e'=exitOf e∧PP e S'∧GR wi mi nt (fun id=>id<S'.st.length) R (envOf S'.env) (stOf S'.st) a' w') a w:=by
 obtain⟨e,S',h1,h2⟩:=hx
 refine wp_mono (GR.codeA hS hR hc h1 h hnr) ?_
 rintro e' a' w' ⟨rfl,hg⟩
 exact⟨e,S',rfl,h2,hg⟩
end
@[simp] theorem litVs_length (a:List Value):(litVs a).length=a.length:=by simp[litVs]
theorem dropE_add {α:Type}:∀ (a b:List α) (n:Nat),dropE (a.length+n) (a++b)=dropE n b
 | [],b,n=>by simp
 | x::a,b,n=>by
  rw[List.length_cons,show a.length+1+n=(a.length+n)+1 by omega]
  exact dropE_add a b n
theorem splice_add {α:Type}:∀ (a b:List α) (n:Nat) (xs:List α),splice (a++b) (a.length+n) xs=bnd (splice b n xs) fun l=>some (a++l)
 | [],b,n,xs=>by simp;cases splice b n xs<;>rfl
 | x::a,b,n,xs=>by
  rw[List.length_cons,show a.length+1+n=(a.length+n)+1 by omega]
  show bnd (splice (a++b) (a.length+n) xs) _=_
  rw[splice_add a b n xs]
  cases splice b n xs<;>rfl
theorem cut_boxL (pre post:List Value) (row:List AV) (j n:Nat):cut (boxL pre row post) (pre.length+j) n=cut (row++litVs post) j n:=by
 unfold cut boxL
 have:=dropE_add (litVs pre) (row++litVs post) j
 rw[litVs_length]at this
 rw[this]
theorem splice_boxL (pre post:List Value) (row:List AV) (j:Nat) (xs:List AV):splice (boxL pre row post) (pre.length+j) xs=bnd (splice (row++litVs post) j xs) fun l=>some (litVs pre++l):=by
 unfold boxL
 have:=splice_add (litVs pre) (row++litVs post) j xs
 rw[litVs_length]at this
 exact this
theorem idsOf_litVs (a:List Value):idsOfL (litVs a)=[]:=by
 induction a with
 | nil=>rfl
 | cons v a ih=>simpa [litVs,idsOfL,idsOf]using ih
theorem renL_litVs (r:Nat→Option Nat) (a:List Value):renL r (litVs a)=litVs a:=by
 induction a with
 | nil=>rfl
 | cons v a ih=>simpa [litVs,renL,ren]using ih
theorem idsOfL_app (a b:List AV):idsOfL (a++b)=idsOfL a++idsOfL b:=by
 induction a with
 | nil=>rfl
 | cons c a ih=>simp[idsOfL,ih]
theorem renL_app (r:Nat→Option Nat) (a b:List AV):renL r (a++b)=renL r a++renL r b:=by
 induction a with
 | nil=>rfl
 | cons c a ih=>simp[renL,ih]
theorem idsOfL_boxL (pre post:List Value) (row:List AV):idsOfL (boxL pre row post)=idsOfL row:=by
 simp[boxL,idsOfL_app,idsOf_litVs]
theorem renL_boxL (r:Nat→Option Nat) (pre post:List Value) (row:List AV):renL r (boxL pre row post)=boxL pre (renL r row) post:=by
 simp[boxL,renL_app,renL_litVs]
section
variable (pre post:List Value) (a0 a1 a2 a3 a4 x:AV)
theorem cutB2:cut (boxL pre [a0,a1,a2,a3,a4] post) (pre.length+2) 1=some [a2]:=by rw[cut_boxL];rfl
theorem cutB3:cut (boxL pre [a0,a1,a2,a3,a4] post) (pre.length+3) 1=some [a3]:=by rw[cut_boxL];rfl
theorem cutB4:cut (boxL pre [a0,a1,a2,a3,a4] post) (pre.length+4) 1=some [a4]:=by rw[cut_boxL];rfl
theorem splB2:splice (boxL pre [a0,a1,a2,a3,a4] post) (pre.length+2) [x]=some (boxL pre [a0,a1,x,a3,a4] post):=by rw[splice_boxL];rfl
theorem splB3:splice (boxL pre [a0,a1,a2,a3,a4] post) (pre.length+3) [x]=some (boxL pre [a0,a1,a2,x,a4] post):=by rw[splice_boxL];rfl
theorem splB4:splice (boxL pre [a0,a1,a2,a3,a4] post) (pre.length+4) [x]=some (boxL pre [a0,a1,a2,a3,x] post):=by rw[splice_boxL];cases post<;>rfl
theorem tkB2:takeE 1 (dropE (pre.length+2) (boxL pre [a0,a1,a2,a3,a4] post))=some [a2]:=cutB2 pre post a0 a1 a2 a3 a4
theorem tkB3:takeE 1 (dropE (pre.length+3) (boxL pre [a0,a1,a2,a3,a4] post))=some [a3]:=cutB3 pre post a0 a1 a2 a3 a4
theorem tkB4:takeE 1 (dropE (pre.length+4) (boxL pre [a0,a1,a2,a3,a4] post))=some [a4]:=cutB4 pre post a0 a1 a2 a3 a4
end
mutual
theorem TH.iat2 {w:World} {m m':Mem} (hm:MLe m m') {x:Pn} {b o:Nat} {F:List Nat} {H:PL}:TH w m x b o F H→(∀ j,o≤j→j<o+5→m' b j=w.cell? ⟨b,j,none⟩)→(∀ f∈F,∀ j,m' f j=w.cell? ⟨f,j,none⟩)→IAt m' b o x.cells
 | .fresh h1 h2,hb,hF=>by
  refine IAt.mk o (h1.mono hm) fun j v hj=>?_
  rcases j with _|_|_|_|_|j
  ·simp at hj;subst hj;exact(hb _ (by omega) (by omega)).trans h2.c0
  ·simp at hj;subst hj;exact(hb _ (by omega) (by omega)).trans h2.c1
  ·simp at hj;subst hj;exact(hb _ (by omega) (by omega)).trans h2.c2
  ·simp at hj;subst hj;exact(hb _ (by omega) (by omega)).trans h2.c3
  ·simp at hj;subst hj;exact(hb _ (by omega) (by omega)).trans h2.c4
  ·simp at hj
 | .leaf h1 h2 h3 h4,hb,hF=>by
  rw[Pn.cells_mk]
  have o2:(∀ es v,IRep m (.isl es) v→v.oneCell'=true):=fun es v h=>by cases h<;>rfl
  exact .cons ((hb _ (by omega) (by omega)).trans h1.c0) (.lit _) rfl (.cons ((hb _ (by omega) (by omega)).trans h1.c1) (.lit _) rfl (.cons ((hb _ (by omega) (by omega)).trans h1.c2) (h2.mono hm) (o2 _ _ h2) (.cons ((hb _ (by omega) (by omega)).trans h1.c3) (h3.mono hm) (o2 _ _ h3) (.cons ((hb _ (by omega) (by omega)).trans h1.c4) (.isl0 _ _ h4) rfl (.nil _ _)))))
 | .node h1 h2 h3 h4 h5 h6,hb,hF=>by
  rename_i ks b' cap vE vC F
  rw[Pn.cells_mk]
  have o2:(∀ es v,IRep m (.isl es) v→v.oneCell'=true):=fun es v h=>by cases h<;>rfl
  have he:=THL.iel2 hm h6 (fun j _ _=>hF b' (by simp) j) (fun f hf=>hF f (by simp[hf]))
  have hl:(Pn.cellsL ks).length=ks.length:=by simp
  have hn:Pn.cellsL ks≠[]:=fun e=>by rw[e]at hl;simp at hl;exact h4 (List.length_eq_zero_iff.1 hl.symm)
  have hk:IRep m' (.isl (Pn.cellsL ks)) (.slice (some ⟨b',0,none⟩) ks.length cap):=by
   have:=IRep.isl (cap:=cap) hn he (by omega)
   rwa [hl]at this
  exact .cons ((hb _ (by omega) (by omega)).trans h1.c0) (.lit _) rfl (.cons ((hb _ (by omega) (by omega)).trans h1.c1) (.lit _) rfl (.cons ((hb _ (by omega) (by omega)).trans h1.c2) (h2.mono hm) (o2 _ _ h2) (.cons ((hb _ (by omega) (by omega)).trans h1.c3) (h3.mono hm) (o2 _ _ h3) (.cons ((hb _ (by omega) (by omega)).trans h1.c4) hk rfl (.nil _ _)))))
theorem THL.iel2 {w:World} {m m':Mem} (hm:MLe m m') {xs:List Pn} {b o:Nat} {F:List Nat} {H:PL}:THL w m xs b o F H→(∀ j,o≤j→j<o+5*xs.length→m' b j=w.cell? ⟨b,j,none⟩)→(∀ f∈F,∀ j,m' f j=w.cell? ⟨f,j,none⟩)→IElems m' b o 5 (Pn.cellsL xs)
 | .nil b o,hb,hF=>by simp only[Pn.cellsL];exact .nil b o 5
 | .cons h1 h2,hb,hF=>by
  simp only[Pn.cellsL]
  exact .cons (TH.iat2 hm h1 (fun j l1 l2=>hb j l1 (by simp only[List.length_cons];omega)) (fun f hf=>hF f (by simp[hf]))) (Pn.cells_length _) (THL.iel2 hm h2 (fun j l1 l2=>hb j (by omega) (by simp only[List.length_cons];omega)) (fun f hf=>hF f (by simp[hf])))
end
theorem THL.nth {w:World} {m:Mem} {b:Nat}:∀ {xs:List Pn} {o:Nat} {F:List Nat} {i:Nat} {x:Pn},THL w m xs b o F []→xs[i]?=some x →
 ∃ Fa Fi Fz,F=Fa++(Fi++Fz)∧TH w m x b (o+5*i) Fi []∧∀ {w':World} {m':Mem} {y:Pn} {G:List Nat} {HY:PL},MLe m m'→(∀ j,o≤j→j<o+5*xs.length→(j<o+5*i∨o+5*i+5≤j)→w'.cell? ⟨b,j,none⟩=w.cell? ⟨b,j,none⟩) →
   (∀ f∈Fa++Fz,∀ j,w'.cell? ⟨f,j,none⟩=w.cell? ⟨f,j,none⟩)→TH w' m' y b (o+5*i) G HY→THL w' m' (xs.set i y) b o (Fa++(G++Fz)) HY:=by
 intro xs
 induction xs with
 | nil=>intro o F i x _ h;simp at h
 | cons a xs ih =>
  intro o F i x h hx
  generalize hH:([]:PL)=H at h
  cases h with
  | @cons _ _ _ _ F1 F2 H1 H2 h1 h2 =>
   obtain⟨rfl,rfl⟩:=List.append_eq_nil_iff.1 hH.symm
   cases i with
   | zero =>
    simp at hx;subst hx
    refine⟨[],F1,F2,by simp,by simpa using h1,fun {w' m' y G HY} hm hw hF hy=>?_⟩
    have k2:=THL.frame hm (fun j l1 l2=>hw j (by omega) (by simp only[List.length_cons];omega) (.inr (by omega))) (fun f hf=>hF f (by simp[hf])) h2
    have:=THL.cons hy k2
    simpa using this
   | succ i =>
    obtain⟨Fa,Fi,Fz,e,h3,h4⟩:=ih h2 (by simpa using hx)
    subst e
    refine⟨F1++Fa,Fi,Fz,by simp,by rw[show o+5*(i+1)=o+5+5*i by omega];exact h3,fun {w' m' y G HY} hm hw hF hy=>?_⟩
    rw[show o+5*(i+1)=o+5+5*i by omega]at hy
    have k1:=TH.frame hm (fun j l1 l2=>hw j l1 (by simp only[List.length_cons];omega) (.inl (by omega))) (fun f hf=>hF f (by simp[hf])) h1
    have k2:=h4 hm (fun j l1 l2 l3=>hw j (by omega) (by simp only[List.length_cons];omega) (by omega)) (fun f hf=>hF f (by rcases List.mem_append.1 hf with h|h<;>simp[h])) hy
    have:=THL.cons k1 k2
    simpa using this
theorem put_snoc {path:List Int} {x y z:Pn} {i:Nat} (h:Pn.at path x=some y):Pn.put (path++[(i:Int)]) x z=Pn.put path x (.mk y.kind y.table y.exprs y.cols (y.kids.set i z)):=by
 induction path generalizing x with
 | nil =>
  simp only[Pn.at,Option.some.injEq]at h;subst h
  cases hk:x.kids[i]? with
  | none =>
   have:x.kids.length≤i:=by simpa using hk
   simp[Pn.put,hk,List.set_eq_of_length_le this,Pn.eta]
  | some k=>simp[Pn.put,hk]
 | cons j path ih =>
  simp only[Pn.at]at h
  split at h
  ·rename_i h0
   cases hk:x.kids[j.toNat]? with
   | none=>rw[hk]at h;cases h
   | some k =>
    rw[hk]at h
    have:=ih h
    simp[Pn.put,hk,this]
  ·cases h
structure AtP (w:World) (m:Mem) (x:Pn) (b o:Nat) (F:List Nat) (path:List Int) (y:Pn) (bq oq:Nat) (Fa Fy Fz:List Nat):Prop where
 eq:F=Fa++(Fy++Fz)
 inb:bq∈b::Fa
 nr:b ∉ F
 nd:F.Nodup
 is:Pn.at path x=some y
 th:TH w m y bq oq Fy []
 fill:∀ {w':World} {m':Mem} {y':Pn} {G:List Nat} {HY:PL},MLe m m'→(∀ f∈b::(Fa++Fz),∀ j,(f≠bq∨j<oq∨oq+5≤j)→w'.cell? ⟨f,j,none⟩=w.cell? ⟨f,j,none⟩)→TH w' m' y' bq oq G HY→TH w' m' (Pn.put path x y') b o (Fa++(G++Fz)) HY
theorem AtP.mem {w:World} {m:Mem} {x:Pn} {b o:Nat} {F:List Nat} {path:List Int} {y:Pn} {bq oq:Nat} {Fa Fy Fz:List Nat} (h:AtP w m x b o F path y bq oq Fa Fy Fz):bq∈b::F:=by
 rw[h.eq]
 rcases List.mem_cons.1 h.inb with e|e
 ·simp[e]
 ·simp[e]
theorem AtP.frame {w w':World} {m m':Mem} {x:Pn} {b o:Nat} {F:List Nat} {path:List Int} {y:Pn} {bq oq:Nat} {Fa Fy Fz:List Nat} (h:AtP w m x b o F path y bq oq Fa Fy Fz) (hm:MLe m m') (hF:∀ f∈b::F,∀ j,w'.cell? ⟨f,j,none⟩=w.cell? ⟨f,j,none⟩):AtP w' m' x b o F path y bq oq Fa Fy Fz:=by
 refine⟨h.eq,h.inb,h.nr,h.nd,h.is,h.th.frame hm (fun j _ _=>hF bq h.mem j) (fun f hf j=>hF f (by rw[h.eq];simp[hf]) j),fun hm' hw hy=>h.fill (hm.trans hm') (fun f hf j hj=>?_) hy⟩
 rw[hw f hf j hj]
 refine hF f ?_ j
 rw[h.eq]
 rcases List.mem_cons.1 hf with e|e
 ·simp[e]
 ·rcases List.mem_append.1 e with e|e<;>simp[e]
theorem AtP.step {w:World} {m:Mem} {x:Pn} {b o:Nat} {F:List Nat} {path:List Int} {y z:Pn} {bq oq:Nat} {Fa Fy Fz:List Nat} {i:Nat} (h:AtP w m x b o F path y bq oq Fa Fy Fz) (hz:y.kids[i]?=some z) :
 ∃ b' cap,w.cell? ⟨bq,oq+4,none⟩=some (.slice (some ⟨b',0,none⟩) y.kids.length cap)∧y.kids.length≤cap∧∃ Fa' Fy' Fz',AtP w m x b o F (path++[(i:Int)]) z b' (5*i) Fa' Fy' Fz':=by
 have ht:=h.th
 have hFq:=h.eq
 generalize hH:([]:PL)=H at ht
 cases ht with
 | fresh=>cases hH
 | leaf h1 h2 h3 h4=>simp[Pn.kids]at hz
 | @node k t es cs ks _ _ b' cap vE vC F1 _ h1 h2 h3 h4 h5 h6 =>
  subst hH
  have hz:ks[i]?=some z:=hz
  obtain⟨Ga,Gi,Gz,e,t1,t2⟩:=h6.nth hz
  subst e
  have hnd:=h.nd
  rw[hFq]at hnd
  have hnr:=h.nr
  rw[hFq]at hnr
  have hne:bq≠b':=by
   intro e
   rcases List.mem_cons.1 h.inb with e'|e'
   ·exact hnr (by rw[← e',e];simp)
   ·rw[List.nodup_append]at hnd
    exact hnd.2.2 _ e' b' (by simp) e
  refine⟨b',cap,h1.c4,h5,Fa++(b'::Ga),Gi,Gz++Fz,by rw[hFq];simp,by simp,h.nr,h.nd,?_,by simpa using t1,fun {w' m' y' G HY} hm hw hy=>?_⟩
  ·rw[at_append path x _ [(i:Int)] h.is]
   simp[Pn.at,Pn.kids,hz]
  ·rw[put_snoc h.is]
   have hK:THL w' m' (ks.set i y') b' 0 (Ga++(G++Gz)) HY:=by
    refine t2 hm (fun j _ _ hj=>hw b' (by simp) j (.inr (by omega))) (fun f hf j=>hw f (by rcases List.mem_append.1 hf with e|e<;>simp[e]) j (.inl ?_)) (by simpa using hy)
    intro e
    subst e
    have hb:=(List.nodup_append.1 hnd).2.1
    simp only[List.cons_append,List.nodup_cons]at hb
    exact hb.1 (by rcases List.mem_append.1 hf with e|e<;>simp[e])
   have hlen:(ks.set i y').length=ks.length:=by simp
   have hn:ks.set i y'≠[]:=fun e=>by rw[e]at hlen;simp at hlen;exact h4 (List.length_eq_zero_iff.1 hlen.symm)
   have hbq:bq∈b::((Fa++b'::Ga)++(Gz++Fz)):=by
    rcases List.mem_cons.1 h.inb with e'|e'
    ·simp[e']
    ·simp[e']
   have hA:=h1.frame (w':=w') (fun j l1 l2=>hw bq hbq j (.inl hne))
   rw[← hlen]at hA
   have hY:TH w' m' (.mk k t es cs (ks.set i y')) bq oq (b'::(Ga++(G++Gz))) HY :=
    .node hA (h2.mono hm) (h3.mono hm) hn (by rw[hlen];exact h5) hK
   have:=h.fill hm (fun f hf j hj=>hw f (by
    rcases List.mem_cons.1 hf with e|e
    ·simp[e]
    ·rcases List.mem_append.1 e with e|e<;>simp[e]) j (by
    by_cases e:f=b'
    ·subst e
     exfalso
     rcases List.mem_cons.1 hf with e|e
     ·exact hnr (by rw[← e];simp)
     ·rcases List.mem_append.1 e with e|e
      ·exact(List.nodup_append.1 hnd).2.2 _ e f (by simp) rfl
      ·have hb:=(List.nodup_append.1 hnd).2.1
       simp only[List.cons_append,List.nodup_cons]at hb
       exact hb.1 (by simp[e])
    ·exact .inl e)) hY
   simpa [Pn.kind,Pn.table,Pn.exprs,Pn.cols,Pn.kids]using this
end Go.Av

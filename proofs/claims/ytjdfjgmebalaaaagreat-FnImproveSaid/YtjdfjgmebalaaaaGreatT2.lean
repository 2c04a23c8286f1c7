/- Part 2 of what the proof rests on: the executor and what it is worth, and the program's functions as it runs them. No condition. -/
import Derived.Test.YtjdfjgmebalaaaaGreatT1
import Derived.Still
import Derived.Below
set_option linter.unusedVariables false
set_option linter.unusedSimpArgs false
namespace Go.Av
section
variable {C:Ctx} {call:dZ} {ops:Array Oper} {base:Nat}
abbrev St2:=(Nat→AV)×Store
abbrev Ft:=List Nat×Bool
def AiY (all:List Oper) (t:Ft) (o:Oper) (S:St2):Prop :=
 wL all S.1 o.guard=some true→(∀ x∈(bI S.1 o.op).1,x∈t.1)∧((bI S.1 o.op).2=false→Clo t.1 S.2)∧(t.2=true→(bI S.1 o.op).2=true)
def Step (C:Ctx) (call:dZ) (all:List Oper) (base:Nat) (t:Ft) (i:Nat) (o:Oper) (S S':St2):Prop:=aOp C call all base i o S=some S'∧AiY all t o S
theorem KG {t:Ft} {i:Nat} {o:Oper} {S S':St2} (h:Step C call ops.toList base t i o S S') :
 ∃ v U,S'=(wF S.1 o.dst v,fH U S.2)∧(∀ p∈U,Wr t.1 (base+wide*i) t.2 p.1) ∧
   ∀ env' st',(∀ x∈opsOf o.op,ev env' x=ev S.1 x)→wL ops.toList env' o.guard=wL ops.toList S.1 o.guard→Agree t.1 S.2 st' →
     Step C call ops.toList base t i o (env',st') (wF env' o.dst v,fH U st'):=by
 obtain⟨h1,h2⟩:=h;unfold aOp at h1;obtain⟨b,h3,h4⟩:=aI.1 h1
 cases b with
 | false =>
  simp only[yX,if_false,Option.some.injEq]at h4;refine⟨_,[],h4.symm,by simp,fun env' st' hx hw _=>⟨?_,fun hh=>?_⟩⟩
  ·unfold aOp;simp only;rw[hw,h3];simp[fH]
  ·simp only at hh;rw[hw,h3]at hh;simp at hh
 | true =>
  simp only[if_true]at h4;obtain⟨p,h5,h6⟩:=aI.1 h4;injection h6 with h6;obtain⟨k1,k2,k3⟩:=h2 h3;obtain⟨U,j1,j2,j3⟩:=AA0 k2 k1 (show d9 C call o.op S.1 S.2 _=some (p.1,p.2)from h5);refine⟨p.1,U,by rw[← h6,j2],fun q hq=>?_,fun env' st' hx hw hag=>⟨?_,fun _=>?_⟩⟩
  ·rcases j1 q hq with ⟨e1,e2⟩|e
   ·refine .inl ⟨?_,e2⟩
    cases ht:t.2 with
    | false=>rfl
    | true=>rw[k3 ht]at e1;cases e1
   ·exact .inr e
  ·unfold aOp;simp only;rw[hw,h3,fG,if_pos rfl,QB hx,show d9 C call o.op S.1 st' (base+wide*i)=_ from j3 st' hag];rfl
  ·simp only;rw[Q5 hx];exact⟨k1,fun e=>(k2 e).agree hag,k3⟩
def ZF (base:Nat) (t u:Ft) (i j:Nat):Prop :=
 ((∀ x∈t.1,x ∉ u.1)∨(t.2=true∧u.2=true))∧(∀ x∈u.1,¬ (base+wide*i≤x∧x<base+wide*i+wide))∧(∀ x∈t.1,¬ (base+wide*j≤x∧x<base+wide*j+wide))
theorem AST {env:Nat→AV} {dst:Option Tmp} {v:AV} {x:Operand} (h:∀ d,dst=some d→x≠.tmp d):ev (wF env dst v) x=ev env x:=by
 cases dst with
 | none=>rfl
 | some d =>
  cases x with
  | tmp t =>
   have hne:t≠d:=fun e=>h d rfl (by rw[e])
   simp[ev,wF,upd,hne]
  | _=>rfl
theorem JV {op:Op} {x:Operand} (h:x∈opsOf op):x∈op.operands:=by
 cases op with
 | call c =>
  obtain⟨callee,args,ts⟩:=c
  cases callee with
  | builtin b=>have h:x∈args.toList:=h;simpa [Op.operands,Call.operands]using h
  | value f=>have h:x∈f::args.toList:=h;simpa [Op.operands,Call.operands]using h
  | invoke f m=>have h:x∈args.toList:=h;simp only[Op.operands,Call.operands];simp at h ⊢;exact .inr h
 | build t parts =>
  have:∀ l:List (Nat×Operand),gD l=l.map (·.2):=fun l=>by induction l<;>simp_all [gD]
  simp only[opsOf,this]at h;simpa [Op.operands]using h
 | buildSlice t n parts =>
  have:∀ l:List (Nat×Operand),gD l=l.map (·.2):=fun l=>by induction l<;>simp_all [gD]
  simp only[opsOf,this]at h;simpa [Op.operands]using h
 | slice t x lo hi mx =>
  simp only[opsOf,zO,zT,Option.mem_toList]at h;simp only[Op.operands];simp
  rcases h with h|h|h
  ·exact .inl h
  ·exact .inr (.inl h)
  ·exact .inr (.inr (.inl h))
 | makeFunc f first cs =>
  have h:x∈cs.toList:=h;simp only[Op.operands];simp at h ⊢;exact .inr h
 | _=>first|(simp[opsOf]at h;done)|(simpa [opsOf,Op.operands]using h)
theorem YJ {o:Oper} {env:Nat→AV} {dst:Option Tmp} {v:AV} (h:∀ d,dst=some d→d ∉ o.looksAt ops):∀ x∈opsOf o.op,ev (wF env dst v) x=ev env x:=by
 intro x hx;refine AST fun d hd e=>h d hd ?_
 subst e;exact yD _ (List.mem_filterMap.2 ⟨.tmp d,by simpa using JV hx,rfl⟩)
theorem K9 {o:Oper} {env:Nat→AV} {dst:Option Tmp} {v:AV} (h:∀ d,dst=some d→d ∉ o.looksAt ops):wL ops.toList (wF env dst v) o.guard=wL ops.toList env o.guard:=by
 cases hg:o.guard with
 | none=>rfl
 | some p =>
  obtain⟨g,want⟩:=p;simp only[wL];have hl:ops.toList[g]?=ops[g]?:=by simp
  rw[hl]
  cases hd:(ops[g]?).bind (·.dst)with
  | none=>rfl
  | some t =>
   simp only[PU]
   cases dst with
   | none=>rfl
   | some d =>
    have hne:t≠d:=fun e=>h d rfl (by subst e;simp[Oper.looksAt,hg,hd])
    simp[wF,upd,hne]
theorem AEB {env:Nat→AV} {x y:Option Tmp} {v u:AV} (h:∀ d,x=some d→y≠some d):wF (wF env x v) y u=wF (wF env y u) x v:=by
 cases x with
 | none=>rfl
 | some d =>
  cases y with
  | none=>rfl
  | some e =>
   have hne:d≠e:=fun q=>h d rfl (by rw[q])
   funext i;simp only[wF,upd];by_cases h1:i=e
   ·subst h1;simp[Ne.symm hne]
   ·simp[h1]
theorem ADA {t u:Ft} {i j:Nat} {oi oj:Oper} {S Si Sij:St2} (hne:i≠j) (hap:oi.apart ops oj=true) (ht:ZF base t u i j)
 (h1:Step C call ops.toList base t i oi S Si) (h2:Step C call ops.toList base u j oj Si Sij):∃ Sj,Step C call ops.toList base u j oj S Sj∧Step C call ops.toList base t i oi Sj Sij:=by
 obtain⟨a1,a2,a3⟩:=Oper.apart_spec hap;obtain⟨v,U,rfl,hU,hi⟩:=KG h1;obtain⟨y,V,rfl,hV,hj⟩:=KG h2;obtain⟨d1,d2,d3⟩:=ht
 have n1:∀ p∈U,p.1 ∉ u.1:=fun p hp hm=>by
  rcases hU p hp with ⟨e1,e2⟩|e
  ·rcases d1 with d1|⟨d1,_⟩
   ·exact d1 _ e2 hm
   ·rw[d1]at e1;cases e1
  ·exact d2 _ hm e
 have n2:∀ p∈V,p.1 ∉ t.1:=fun p hp hm=>by
  rcases hV p hp with ⟨e1,e2⟩|e
  ·rcases d1 with d1|⟨_,d1⟩
   ·exact d1 _ hm e2
   ·rw[d1]at e1;cases e1
  ·exact d3 _ hm e
 have n3:∀ p∈U,∀ q∈V,p.1≠q.1:=fun p hp q hq e=>by
  rcases hV q hq with ⟨_,e2⟩|e2
  ·exact n1 p hp (e ▸ e2)
  ·rcases hU p hp with ⟨_,e3⟩|e3
   ·exact n2 q hq (e ▸ e3)
   ·rw[e]at e3;apply hne;unfold wide at e2 e3;omega
 have s1:=hj S.1 S.2 (fun x hx=>(YJ a1 x hx).symm) (K9 a1).symm (fun x hx=>(iA fun p hp e=>n1 p hp (e ▸ hx)).symm);refine⟨_,s1,?_⟩;have s2:=hi (wF S.1 oj.dst y) (fH V S.2) (YJ a3) (K9 a3) (fun x hx=>iA fun p hp e=>n2 p hp (e ▸ hx));rw[AEB (x:=oi.dst) (y:=oj.dst) a2,← WZ n3];exact s2
def ATH (C:Ctx) (call:dZ) (ops:Array Oper) (base:Nat) (T:Nat→Ft) (Q:St2→Prop):Nat→Array Bool→St2→Prop
 | 0,listed,S=>Region.ready .any ops listed=[]∧Q S
 | fuel+1,listed,S=>(Region.ready .any ops listed=[]→Q S) ∧
  ∀ i∈Region.ready .any ops listed,∃ o S',ops[i]?=some o∧Step C call ops.toList base (T i) i o S S'∧ATH C call ops base T Q fuel (listed.setIfInBounds i true) S'
def DC (ops:Array Oper) (listed:Array Bool):Prop:=∀ k ok,ops[k]?=some ok→listed.getD k false=true→∀ e∈ok.after,Region.binds .any e=true→listed.getD e.on false=true
theorem DC.step {listed:Array Bool} (h:DC ops listed) {j:Nat} {oj:Oper} (hj:ops[j]?=some oj) (hp:∀ e∈oj.after,Region.binds .any e=true→listed.getD e.on false=true):DC ops (listed.setIfInBounds j true):=by
 intro k ok hk hl e he hb;have up:∀ m,listed.getD m false=true→(listed.setIfInBounds j true).getD m false=true:=fun m hm=>getD_set_true hm
 by_cases hjk:j=k
 ·subst hjk;rw[hj]at hk;injection hk with hk;subst hk
  exact up _ (hp e he hb)
 ·rw[getD_set_ne false hjk]at hl;exact up _ (h k ok hk hl e he hb)
theorem KA {after:List Edge} {i:Nat} (h:wM after i=true):∃ e∈after,Region.binds .any e=true∧e.on=i:=by
 unfold wM at h;rw[List.any_eq_true]at h;obtain⟨e,he,hh⟩:=h;simp only[zU,beq_iff_eq]at hh;exact⟨e,he,hh.1,hh.2⟩
theorem pK {listed:Array Bool} (hd:DC ops listed) {i:Nat}:∀ (n:Nat) (after:List Edge),(∀ e∈after,Region.binds .any e=true→listed.getD e.on false=true)→gI ops.toList n after i=true→listed.getD i false=true
 | 0,after,hp,h=>by
  obtain⟨e,he,hb,rfl⟩:=KA h;exact hp e he hb
 | n+1,after,hp,h=>by
  simp only[gI]at h;split at h
  ·rename_i h1;obtain⟨e,he,hb,rfl⟩:=KA h1;exact hp e he hb
  ·rw[List.any_eq_true]at h;obtain⟨e,he,hh⟩:=h;simp only[zU]at hh;refine pK hd n _ ?_ hh.2;intro d hd' hb;unfold uK at hd';split at hd'
   ·rename_i o ho;exact hd e.on o (by simpa using ho) (hp e he hh.1) d (by simpa using hd') hb
   ·cases hd'
theorem ACC {T:Nat→Ft} {Q:St2→Prop} {i:Nat} {oi:Oper} (hi:ops[i]?=some oi) :
 ∀ (fuel:Nat) (listed:Array Bool) (S S':St2),DC ops listed →
   (∀ j oj,ops[j]?=some oj→j≠i→listed.getD j true=false→(∀ e∈oj.after,Region.binds .any e=true→e.on≠i)→oi.apart ops oj=true∧(gI ops.toList 3 oj.after.toList i=false→gI ops.toList 3 oi.after.toList j=false→ZF base (T i) (T j) i j)) →
   i∈Region.ready .any ops listed→Step C call ops.toList base (T i) i oi S S' →
   ATH C call ops base T Q fuel (listed.setIfInBounds i true) S'→ATH C call ops base T Q (fuel+1) listed S:=by
 intro fuel
 induction fuel with
 | zero =>
  intro listed S S' _ _ hr hs H;refine⟨fun h=>(by rw[h]at hr;cases hr),fun j hj=>?_⟩;by_cases hji:j=i
  ·subst hji;exact⟨oi,S',hi,hs,H⟩
  ·have:=ready_mono hj hji;rw[H.1]at this
   cases this
 | succ fuel ih =>
  intro listed S S' hdc hfree hr hs H;refine⟨fun h=>(by rw[h]at hr;cases hr),fun j hj=>?_⟩;by_cases hji:j=i
  ·subst hji;exact⟨oi,S',hi,hs,H⟩
  ·obtain⟨oj,Sij,hoj,hsj,Hj⟩:=H.2 j (ready_mono hj hji);obtain⟨hjun,oj',hoj',hall⟩:=mem_ready.1 hj;rw[hoj]at hoj';injection hoj' with hoj';subst hoj'
   have notw:∀ {x y:Nat} {l:Array Bool},l.getD y true=false→l.getD y false=true→False:=fun {x y l} h0 h1=>by
    rcases zC4 y l.size with h'|h'
    ·simp[h']at h0 h1;rw[h0]at h1;cases h1
    ·simp[zB8 h']at h1
   have hnot:∀ e∈oj.after,Region.binds .any e=true→e.on≠i:=fun e he hb heq=>by
    have h1:=hall e he hb;have h0:=(mem_ready.1 hr).1;rw[heq]at h1;exact notw (x:=0) h0 h1
   obtain⟨hiun,oi',hoi',halli⟩:=mem_ready.1 hr;rw[hi]at hoi';injection hoi' with hoi';subst hoi'
   have hw1:gI ops.toList 3 oj.after.toList i=false:=by
    cases hq:gI ops.toList 3 oj.after.toList i with
    | false=>rfl
    | true=>exact(notw (x:=0) hiun (pK hdc 3 _ (fun e he hb=>hall e (by simpa using he) hb) hq)).elim
   have hw2:gI ops.toList 3 oi.after.toList j=false:=by
    cases hq:gI ops.toList 3 oi.after.toList j with
    | false=>rfl
    | true=>exact(notw (x:=0) hjun (pK hdc 3 _ (fun e he hb=>halli e (by simpa using he) hb) hq)).elim
   obtain⟨hap,hta⟩:=hfree j oj hoj hji hjun hnot;obtain⟨Sj,k1,k2⟩:=ADA (Ne.symm hji) hap (hta hw1 hw2) hs hsj;refine⟨oj,Sj,hoj,k1,ih (listed.setIfInBounds j true) Sj Sij (hdc.step hoj fun e he hb=>hall e he hb) ?_ (ready_mono hr (Ne.symm hji)) k2 (by rw[Array.setIfInBounds_comm _ _ hji];exact Hj)⟩;intro k ok hk hki hun hno;refine hfree k ok hk hki ?_ hno;by_cases hjk:j=k
   ·subst hjk;exact hjun
   ·rw[getD_set_ne true hjk]at hun;exact hun
def ATL (C:Ctx) (call:dZ) (all:List Oper) (base:Nat):List Oper→List Ft→Nat→St2→St2→Prop
 | [],_,_,S,S'=>S=S'
 | o::os,t::ts,i,S,S'=>∃ S1,Step C call all base t i o S S1∧ATL C call all base os ts (i+1) S1 S'
 | _::_,[],_,_,_=>False
theorem ZC {T:Nat→Ft} {Q:St2→Prop} (hT:∀ i j oi oj,ops[i]?=some oi→ops[j]?=some oj→i≠j→gI ops.toList 3 oj.after.toList i=false→gI ops.toList 3 oi.after.toList j=false→ZF base (T i) (T j) i j) :
 ∀ (l:List Oper) (ts:List Ft) (k:Nat) (listed:Array Bool) (S S':St2),DC ops listed→(∀ j,l[j]?=ops[k+j]?)→(∀ j t,ts[j]?=some t→T (k+j)=t) →
   Region.lexFrom .any ops l.length k listed=true→ATL C call ops.toList base l ts k S S'→Q S'→ATH C call ops base T Q l.length listed S
 | [],_,_,_,S,S',_,_,_,hB,h,hQ=>by
  simp only[ATL]at h;subst h;exact⟨by simpa [Region.lexFrom]using hB,hQ⟩
 | o::l,[],_,_,_,_,_,_,_,_,h,_=>by simp[ATL]at h
 | o::l,t::ts,k,listed,S,S',hdc,hl,ht,hB,h,hQ=>by
  have h0:ops[k]?=some o:=by simpa using (hl 0).symm
  simp only[zQ,Region.lexFrom,zU]at hB;obtain⟨⟨hr,hf⟩,hB'⟩:=hB;obtain⟨S1,h1,h2⟩:=h;have htk:T k=t:=by simpa using ht 0 t rfl
  rw[← htk]at h1;have hrk:k∈Region.ready .any ops listed:=by simpa using hr
  refine ACC h0 l.length listed S S1 hdc (fun j oj hj hne hun hno=>⟨Region.free_spec h0 hf j oj hj hne hun hno,fun hn1 hn2=>hT k j o oj h0 hj (Ne.symm hne) hn1 hn2⟩) hrk h1 ?_;obtain⟨_,o',ho',hall⟩:=mem_ready.1 hrk;rw[h0]at ho';injection ho' with ho';subst ho'
  exact ZC hT l ts (k+1) _ S1 S' (hdc.step h0 fun e he hb=>hall e he hb) (fun j=>by have:=hl (j+1);simpa [yK,Nat.add_comm 1 j]using this)
   (fun j u hu=>by have:=ht (j+1) u (by simpa using hu);simpa [yK,Nat.add_comm 1 j]using this) hB' h2 hQ
theorem ACB (hC:CtxOk C) (hcall:CallOk C call) {T:Nat→Ft} {QA:St2→Prop} {Q:Exit→Act→World→Prop} {nt:Nat} {ds:List Deferred} {ρ:Option Nat} {w0:World} {m0:Mem} {φ0:Pl} (hs:∀ o∈ops,kY nt o=true)
 (hQ:∀ S a w,QA S→ARel ds w0 m0 φ0 nt (fun _=>True) S.1 S.2 a w→Q .normal a w) :
 ∀ (fuel:Nat) (listed:Array Bool) (S:St2) (a:Act) (w:World),ATH C call ops base T QA fuel listed S→ARel ds w0 m0 φ0 nt (JH base fun j=>listed.getD j false=true) S.1 S.2 a w→wpAnyIn (FR ρ) 0 C.P .any ops Q fuel listed a w:=by
 have drop:∀ {ok:Nat→Prop} {S:St2} {a:Act} {w:World},ARel ds w0 m0 φ0 nt ok S.1 S.2 a w→ARel ds w0 m0 φ0 nt (fun _=>True) S.1 S.2 a w:=by
  rintro ok S a w ⟨⟨m,φ,k1,k2,k3,k4,k7⟩,k5,k6⟩;exact⟨⟨m,φ,k1,k2,k3,fun _ _=>trivial,k7⟩,k5,k6⟩
 intro fuel
 induction fuel with
 | zero=>intro listed S a w h hr;exact⟨h.1,hQ S a w h.2 (drop hr)⟩
 | succ fuel ih =>
  intro listed S a w h hr;refine⟨fun h0=>hQ S a w (h.1 h0) (drop hr),fun i hi=>?_⟩;obtain⟨o,S',ho,⟨hstep,_⟩,hnext⟩:=h.2 i hi;have hun:=(mem_ready.1 hi).1
  have hlt:i<listed.size:=by
   rcases zC4 i listed.size with h'|h'
   ·exact h'
   ·simp[zB8 h']at hun
  have hdn:¬ (listed.getD i false=true):=by
   intro h1;simp[hlt]at hun h1;rw[hun]at h1;cases h1
  refine oL hC hcall (dn:=fun j=>listed.getD j false=true) (base:=base) ho (hs o (Array.mem_of_getElem? ho)) hdn hstep hr fun a' w' hr'=>ih _ S' a' w' hnext ?_
  obtain⟨⟨m,φ,k1,k2,k3,k4,k7⟩,k5,k6⟩:=hr';refine⟨⟨m,φ,k1,k2,k3,fun id hne=>oV (fun j hj=>?_) (k4 id hne),k7⟩,k5,k6⟩
  rcases hj with hj|rfl
  ·exact getD_set_true hj
  ·simp[hlt]
def Chk (all:List Oper) (e:Nat×List Nat×Bool) (t:Ft) (o:Oper):Prop:=D8 t.1 e.2.1=true∨(t.2=true∧e.2.2=true)∨gI all 3 o.after.toList e.1=true
def ATK (base:Nat) (all os:List Oper) (ts:List Ft) (i:Nat) (log:List (Nat×List Nat×Bool)):Prop :=
 ∀ j o t,os[j]?=some o→ts[j]?=some t→VO base all o.after.toList t.1=true∧(∀ e∈log,Chk all e t o)∧∀ k t',k<j→ts[k]?=some t'→t'.1≠[]→Chk all (i+k,t') t o
theorem vM:∀ {xs ys:List Nat},D8 xs ys=true→∀ x∈xs,x ∉ ys
 | [],_,_=>by simp
 | x::xs,ys,h=>by
  simp only[D8,zU,Bool.not_eq_true']at h;intro y hy hm
  rcases zO.1 hy with rfl|hy
  ·rw[I8.2 hm]at h;cases h.1
  ·exact vM h.2 y hy hm
theorem C9:∀ {xs ys:List Nat},allIn xs ys=true→∀ x∈xs,x∈ys
 | [],_,_=>by simp
 | x::xs,ys,h=>by
  simp only[allIn,zU]at h;intro y hy
  rcases zO.1 hy with rfl|hy
  ·exact I8.1 h.1
  ·exact C9 h.2 y hy
theorem LB {all:List Oper} {after:List Edge} {ns:List Nat} {ro:Bool}:∀ {log:List (Nat×List Nat×Bool)},AB4 all after ns ro log=true→∀ e∈log,D8 ns e.2.1=true∨(ro=true∧e.2.2=true)∨gI all 3 after e.1=true
 | [],_=>by simp
 | e::log,h=>by
  simp only[AB4,zU,zC5]at h;intro d hd
  rcases zO.1 hd with rfl|hd
  ·have h1:=h.1;split at h1
   ·rename_i hc
    rcases hc with hc|hc
    ·exact .inl hc
    ·exact .inr (.inl hc)
   ·exact .inr (.inr h1)
  ·exact LB h.2 d hd
theorem I6 (st:Store):∀ {l:List Nat} {i j:Nat},i∈l→j∈jL (st i)→j∈qH st l
 | [],_,_,h,_=>by cases h
 | a::l,i,j,h,k=>by
  simp only[qH,zT]
  rcases zO.1 h with rfl|h
  ·exact .inl k
  ·exact .inr (I6 st h k)
theorem BK:∀ (os:List Oper) (i:Nat) (R R':RS),dL C call ops.toList true base os i R=some R' →
 ∃ ts,ts.length=os.length∧ATL C call ops.toList base os ts i (R.env,R.st) (R'.env,R'.st)∧ATK base ops.toList os ts i R.log
 | [],i,R,R',h=>by
  simp only[dL,Option.some.injEq]at h;subst h;exact⟨[],rfl,rfl,by intro j o t h;simp at h⟩
 | o::os,i,R,R',h=>by
  simp only[dL]at h;obtain⟨b,h1,h2⟩:=aI.1 h
  cases b with
  | true =>
   simp only[if_true]at h2;obtain⟨h3,h4⟩:=aR.1 h2;obtain⟨p,h5,h6⟩:=aI.1 h4;obtain⟨ts,k0,k1,k2⟩:=BK os (i+1) _ R' h6;simp only[AXR,if_true,AT4,zU]at h3;obtain⟨c1,c2,c3,c4⟩:=h3
   let t:Ft:=((CL R.st (bI R.env o.op)).1,(bI R.env o.op).2)
   refine⟨t::ts,by simp[k0],⟨_,⟨?_,fun _=>⟨fun x hx=>C9 c1 x hx,fun e x hx y hy=>C9 (by rw[e]at c2;exact c2) y (I6 _ hx hy),fun h=>h⟩⟩,k1⟩,?_⟩
   ·unfold aOp;exact aI.2 ⟨true,h1,by simp only[if_true];exact aI.2 ⟨p,h5,rfl⟩⟩
   ·intro j o' t' ho ht
    cases j with
    | zero =>
     simp at ho ht;subst ho;subst ht;exact⟨c3,fun e he=>LB c4 e he,fun k _ hk=>by omega⟩
    | succ j =>
     obtain⟨q1,q2,q3⟩:=k2 j o' t' (by simpa using ho) (by simpa using ht)
     have hmem:∀ e∈R.log,e∈RV true o i R:=by
      intro e he;simp only[RV,if_true];unfold JF;split
      ·exact he
      ·exact List.mem_cons_of_mem _ he
     refine⟨q1,fun e he=>q2 e (hmem e he),fun k u hk hu hne=>?_⟩
     cases k with
     | zero =>
      simp at hu;subst hu
      have:(i,t)∈RV true o i R:=by
       simp only[RV,if_true];unfold JF;split
       ·rename_i hq;exact absurd hq hne
       ·rename_i hq;rw[← hq];exact List.mem_cons_self
      exact q2 _ this
     | succ k =>
      have:=q3 k u (by omega) (by simpa using hu) hne
      rwa [show i+1+k=i+(k+1)by omega]at this
  | false =>
   simp only[yX,if_false]at h2;obtain⟨ts,k0,k1,k2⟩:=BK os (i+1) _ R' h2;refine⟨([],true)::ts,by simp[k0],⟨_,⟨?_,fun hh=>?_⟩,k1⟩,?_⟩
   ·unfold aOp;exact aI.2 ⟨false,h1,by simp⟩
   ·rw[show wL ops.toList R.env o.guard=some false from h1]at hh;simp at hh
   ·intro j o' t' ho ht
    cases j with
    | zero =>
     simp at ho ht;subst ho;subst ht;exact⟨rfl,fun e _=>.inl rfl,fun k _ hk=>by omega⟩
    | succ j =>
     obtain⟨q1,q2,q3⟩:=k2 j o' t' (by simpa using ho) (by simpa using ht);refine⟨q1,q2,fun k u hk hu hne=>?_⟩
     cases k with
     | zero=>simp at hu;subst hu;exact absurd rfl hne
     | succ k =>
      have:=q3 k u (by omega) (by simpa using hu) hne
      rwa [show i+1+k=i+(k+1)by omega]at this
theorem BG {base:Nat} {all:List Oper} {after:Array Edge}:∀ {ns:List Nat},VO base all after.toList ns=true→∀ x∈ns,∀ i,gI all 3 after.toList i=false→¬ (base+wide*i≤x∧x<base+wide*i+wide)
 | [],_=>by simp
 | n::ns,h=>by
  simp only[VO,zU]at h;intro x hx i hi hh
  rcases zO.1 hx with rfl|hx
  ·have h1:=h.1;split at h1
   ·omega
   ·have:(x-base) / wide=i:=by unfold wide at *;omega
    rw[this,hi]at h1;cases h1
  ·exact BG h.2 x hx i hi hh
theorem AOO (hC:CtxOk C) (hm:C.P.follows .mixedOrders=true) {call:dZ} (hcall:CallOk C call):ZG C call:=by
 intro ops id base nt R' env st ds ρ w0 m0 φ0 a w Q hs hlex hrun hr hQ;simp only[Region.lexB,zU]at hlex;obtain⟨ts,hlen,hlx,hp⟩:=BK _ _ _ _ hrun
 let T:Nat→Ft:=fun i=>(ts[i]?).getD ([],true)
 have hget:∀ i o,ops[i]?=some o→∃ t,ts[i]?=some t∧T i=t:=fun i o ho=>by
  have hlt:i<ops.toList.length:=by simpa using (zF.1 ho).1
  rw[← hlen]at hlt;exact⟨ts[i],zX hlt,by simp[T,zX hlt]⟩
 have hT:∀ i j oi oj,ops[i]?=some oi→ops[j]?=some oj→i≠j→gI ops.toList 3 oj.after.toList i=false→gI ops.toList 3 oi.after.toList j=false→ZF base (T i) (T j) i j:=by
  intro i j oi oj hi hj hne hji hij;obtain⟨ti,gi,ei⟩:=hget i oi hi;obtain⟨tj,gj,ej⟩:=hget j oj hj;rw[ei,ej];obtain⟨pi1,_,pi3⟩:=hp i oi ti (by simpa using hi) gi;obtain⟨pj1,_,pj3⟩:=hp j oj tj (by simpa using hj) gj;refine⟨?_,fun x hx=>BG pj1 x hx i hji,fun x hx=>BG pi1 x hx j hij⟩
  rcases Nat.lt_or_gt_of_ne hne with h|h
  ·by_cases he:ti.1=[]
   ·rw[he];exact .inl (by simp)
   ·have:=pj3 i ti h gi he;rw[zI]at this
    rcases this with q|q|q
    ·exact .inl fun x hx hm=>vM q x hm hx
    ·exact .inr ⟨q.2,q.1⟩
    ·rw[hji]at q;cases q
  ·by_cases he:tj.1=[]
   ·rw[he];exact .inl (by simp)
   ·have:=pi3 j tj h gj he;rw[zI]at this
    rcases this with q|q|q
    ·exact .inl fun x hx hm=>vM q x hx hm
    ·exact .inr q
    ·rw[hij]at q;cases q
 refine wpIn_region_any hm (ACB (QA:=fun S=>S=(R'.env,R'.st)) (base:=base) (T:=T) hC hcall hs (fun S a w h1 h2=>by subst h1;exact hQ a w h2) _ _ (env,st) a _ ?_ ?_)
 ·have:=ZC (C:=C) (call:=call) (base:=base) (T:=T) (Q:=fun S=>S=(R'.env,R'.st)) hT ops.toList ts 0 (Array.replicate ops.size false) (env,st) (R'.env,R'.st) (by intro k ok _ hl;exfalso;rcases zC4 k ops.size with h'|h'<;>simp[h',zB8]at hl) (by simp)
   (fun j t ht=>by simp[T,ht]) (by simpa using hlex.2) hlx rfl
  simpa using this
 ·obtain⟨⟨m,φ,k1,k2,k3,k4,k7⟩,k5,k6⟩:=hr;exact⟨⟨m,φ,k1.drew,k2,k3.trans (.drew w m φ),fun id hne=>.inl (k4 id hne),k7.adv (.drew w m φ)⟩,k5,k6⟩
end
theorem AHL (P:Program):wD P:=fun _ _ h=>ZH h
def IJ (P:Program):Bool:=(List.range P.types.size).all fun t=>match P.underlying t with
 | some (.struct fs)=>fs.toList.all fun f=>(iY P f.type).isSome
 | some (.array _ e)=>(iY P e).isSome
 | _=>true
theorem AFU {P:Program} (h:IJ P=true):PH P:=by
 constructor
 ·intro t fs hlt hu f hf;have:=zS.1 h t (List.mem_range.2 hlt);rw[hu]at this;exact xS.1 (zS.1 this f (by simpa using hf))
 ·intro t n e hlt hu;have:=zS.1 h t (List.mem_range.2 hlt);rw[hu]at this;exact xS.1 this
def YF (P:Program):Bool:=P.funcs.toList.all fun fn=>(fn.name != "runtime.NumGoroutine") && match fn.body with
 | some c=>codeOk fn.ntmps c
 | none=>true
theorem ASP {P:Program} (h:YF P=true):ATN P:=by
 intro g fn c hf hb;have:=zS.1 h fn (zV (by simpa using hf));simp only[zU,bne_iff_ne]at this;rw[hb]at this;exact this
def YL (P:Program) (t:TypeId):Bool:=match P.underlying t with
 | some (.struct fs)=>match fs.toList with
  | [fb,fn]=>!P.stoodInHeld t && (!P.eqGuardType P.depth t && (fb.name != "_" && (fn.name != "_" && (fb.offset == 0 && (fn.offset == 1 && (match P.underlying fb.type,P.underlying fn.type with
   | some .bool,some (.int _)=>true
   | _,_=>false))))))
  | _=>false
 | _=>false
theorem AWF {P:Program} {t:TypeId} (h:YL P t=true):AXS P t:=by
 unfold YL at h;split at h
 ·rename_i fs hu;split at h
  ·rename_i fb fn hfs;simp only[zU,Bool.not_eq_true',bne_iff_ne,beq_iff_eq]at h;obtain⟨h1,h2,h3,h4,h5,h6,h7⟩:=h;split at h7
   ·rename_i k hb hn;refine⟨fb,fn,k,?_,h1,h2,h3,h4,h5,h6,hb,hn⟩;rw[hu];have:fs=#[fb,fn]:=by apply Array.ext';simpa using hfs
    rw[this]
   ·cases h7
  ·cases h
 ·cases h
theorem nO {C:Ctx} (hf:IJ C.P=true) (hn:YF C.P=true) (he:∀ t,C.eqT t=true→YL C.P t=true) (hm:C.P.follows .mixedOrders=true) (hp:PrimOk C):SoundOk C :=
 have hc:CtxOk C:=⟨AHL _,AFU hf,fun t ht=>AWF (he t ht)⟩
 ⟨hc,ASP hn,fun _ hcall=>AOO hc hm hcall,hp⟩
theorem AED {C:Ctx} (h:∀ g,C.prim g=none):PrimOk C :=
 ⟨fun g args st p hp=>(by unfold bX at hp;rw[h g]at hp;cases hp),fun g args st r s hp=>(by unfold bX at hp;rw[h g]at hp;cases hp)⟩
structure Val where
 null:Bool
 n:Int
 deriving DecidableEq
inductive Ex where
 | mk (kind col:Int) (val:Val) (kids:List Ex)
def Ex.kind:Ex→Int | .mk k _ _ _=>k
def Ex.col:Ex→Int | .mk _ c _ _=>c
def Ex.val:Ex→Val | .mk _ _ v _=>v
def Ex.kids:Ex→List Ex | .mk _ _ _ ks=>ks
def Val.cells (v:Val):List IV:=[.bool v.null, .int v.n]
mutual
def Ex.cells:Ex→List IV
 | .mk k c v ks=>[.int k, .int c, .bool v.null, .int v.n, .isl (Ex.aB ks)]
def Ex.aB:List Ex→List (List IV)
 | []=>[]
 | e::es=>e.cells::Ex.aB es
end
theorem Ex.ind {P:Ex→Prop} (h:∀ k c v ks,(∀ e∈ks,P e)→P (.mk k c v ks)):(e:Ex)→P e
 | .mk k c v ks=>h k c v ks fun e he=>Ex.ind h e
termination_by e=>SizeOf.sizeOf e
decreasing_by
 have:=List.sizeOf_lt_of_mem he;simp;omega
theorem Ex.aA (e:Ex):e.cells=[.int e.kind, .int e.col, .bool e.val.null, .int e.val.n, .isl (Ex.aB e.kids)]:=by
 cases e;simp[Ex.cells,Ex.kind,Ex.col,Ex.val,Ex.kids]
@[simp] theorem Ex.aY:∀ (l:List Ex),(Ex.aB l).length=l.length
  | []=>by simp[Ex.aB]
  | _::l=>by simp[Ex.aB,Ex.aY l]
theorem Ex.aO:∀ {l:List Ex} {i:Nat} {e:Ex},l[i]?=some e→gF (Ex.aB l) i=some e.cells
 | [],_,_,h=>by simp at h
 | a::l,0,e,h=>by simp at h;subst h;simp[Ex.aB,gF]
 | a::l,i+1,e,h=>by simp only[Ex.aB,gF];exact Ex.aO (by simpa using h)
@[simp] theorem Ex.dN (e:Ex):e.cells.length=5:=by rw[Ex.aA];rfl
@[simp] theorem Ex.AQE (e:Ex):wP 5 e.cells=some e.cells:=by rw[Ex.aA];rfl
@[simp] theorem Ex.qO:∀ (l:List Ex),fP 5 (Ex.aB l)=true
  | []=>by simp[Ex.aB,fP]
  | e::l=>by
   have:=Ex.qO l;simp only[fP]at this;simp[Ex.aB,fP,Ex.dN,this]
theorem Ex.iL (a b:List Ex):Ex.aB (a++b)=Ex.aB a++Ex.aB b:=by
 induction a with
 | nil=>simp[Ex.aB]
 | cons e a ih=>simp[Ex.aB,ih]
@[simp] theorem Ex.vZ:∀ (n:Nat) (l:List Ex),(Ex.aB l).take n=Ex.aB (l.take n)
  | 0,l=>by simp[Ex.aB]
  | n+1,[]=>by simp[Ex.aB]
  | n+1,e::l=>by simp[Ex.aB,Ex.vZ n l]
theorem Ex.aZ (l:List Ex) (e:Ex):Ex.aB (l++[e])=Ex.aB l++[e.cells]:=by
 rw[Ex.iL];simp[Ex.aB]
theorem aL {α:Type} {l:List α} {i:Nat} {a:α} (h:l[i]?=some a):l.take (i+1)=l.take i++[a]:=by
 rw[List.take_add_one,h];rfl
mutual
def Ex.size:Ex→Nat
 | .mk _ _ _ ks=>1+Ex.bG ks
def Ex.bG:List Ex→Nat
 | []=>0
 | e::es=>e.size+Ex.bG es
end
theorem Ex.size_eq (e:Ex):e.size=1+Ex.bG e.kids:=by cases e;simp[Ex.size,Ex.kids]
theorem Ex.wT (e:Ex):1≤e.size:=by rw[Ex.size_eq];omega
theorem Ex.dC:∀ (l:List Ex),l.length≤Ex.bG l
 | []=>by simp[Ex.bG]
 | e::es=>by have:=Ex.dC es;have:=Ex.wT e;simp[Ex.bG];omega
theorem Ex.jU:∀ {l:List Ex} {e:Ex},e∈l→e.size≤Ex.bG l
 | a::l,e,h=>by
  rcases zO.1 h with rfl|h
  ·simp[Ex.bG]
  ·have:=Ex.jU h;simp[Ex.bG];omega
@[simp] theorem W9:∀ l:List IV,bB (l5 l)=[]
  | []=>rfl
  | _::l=>by simp[l5,bB,dR,W9 l]
@[simp] theorem AE0 (r:Nat→Option Nat):∀ l:List IV,D5 r (l5 l)=l5 l
  | []=>rfl
  | _::l=>by simp[l5,D5,ren,AE0 r l]
@[simp] theorem AGT:∀ l:List IV,AHI (l5 l)=some l
  | []=>rfl
  | _::l=>by simp[l5,AHI,AGT l,OM]
@[simp] theorem Ex.AP1 (e:Ex):wP 5 (l5 e.cells)=some (l5 e.cells):=by rw[Ex.aA];rfl
@[simp] theorem Ex.OT (e:Ex) (a b c d f:AV):splice [a,b,c,d,f] 0 (l5 e.cells)=some (l5 e.cells):=by rw[Ex.aA];rfl
def bU (n:Int):Int:=if n=1∨n=2 then 0 else if n=10∨n=11 then 1 else if 3≤n∧n≤9 then 2 else -1
def bE (w:Int):Bool:=decide (1≤w∧w≤6)
def Val.ok (v:Val):Bool:=if v.null then decide (v.n=0)else decide (-9999≤v.n∧v.n≤9999)
def Val.zero:Val:=⟨false,0⟩
def Ex.zero:Ex:=.mk 0 0 Val.zero []
mutual
def Ex.eqb:Ex→Ex→Bool
 | .mk k c v ks, .mk k' c' v' ks'=>k == k' && (c == c' && (((v.null == v'.null) && v.n == v'.n) && Ex.oI ks ks'))
def Ex.oI:List Ex→List Ex→Bool
 | [],[]=>true
 | a::l,b::m=>Ex.eqb a b && Ex.oI l m
 | [],_::_=>false
 | _::_,[]=>false
end
theorem Ex.WK (a b:Ex):a.eqb b=(a.kind == b.kind && (a.col == b.col && (((a.val.null == b.val.null) && a.val.n == b.val.n) && Ex.oI a.kids b.kids))):=by
 cases a;cases b;simp[Ex.eqb,Ex.kind,Ex.col,Ex.val,Ex.kids]
mutual
theorem Ex.WJ:∀ (a b:Ex),a.eqb b=true↔a=b
 | .mk k c v ks, .mk k' c' v' ks'=>by
  simp only[Ex.eqb,zU,beq_iff_eq,Ex.OG ks ks',Ex.mk.injEq];constructor
  ·rintro⟨h1,h2,⟨h3,h4⟩,h5⟩;exact⟨h1,h2,by cases v;cases v';simp at h3 h4;simp[h3,h4],h5⟩
  ·rintro⟨h1,h2,rfl,h5⟩;exact⟨h1,h2,⟨rfl,rfl⟩,h5⟩
theorem Ex.OG:∀ (l m:List Ex),Ex.oI l m=true↔l=m
 | [],[]=>by simp[Ex.oI]
 | a::l,b::m=>by simp[Ex.oI,Ex.WJ a b,Ex.OG l m]
 | [],_::_=>by simp[Ex.oI]
 | _::_,[]=>by simp[Ex.oI]
end
theorem Ex.AJ:∀ (l m:List Ex),l.length≠m.length→Ex.oI l m=false
 | [],[],h=>by simp at h
 | a::l,b::m,h=>by simp[Ex.oI,Ex.AJ l m (by simpa using h)]
 | [],_::_,_=>by simp[Ex.oI]
 | _::_,[],_=>by simp[Ex.oI]
theorem Ex.sW:∀ (l m:List Ex),l.length=m.length→∃ j:Nat,(∀ i,i<j→∃ a b,l[i]?=some a∧m[i]?=some b∧a∈l∧a.eqb b=true)∧((j=l.length∧Ex.oI l m=true)∨∃ a b,l[j]?=some a∧m[j]?=some b∧a∈l∧a.eqb b=false∧Ex.oI l m=false)
 | [],[],_=>⟨0,fun i h=>by omega, .inl ⟨rfl,by simp[Ex.oI]⟩⟩
 | a::l,b::m,h=>by
  cases hab:a.eqb b with
  | false=>exact⟨0,fun i h=>by omega, .inr ⟨a,b,rfl,rfl,by simp,hab,by simp[Ex.oI,hab]⟩⟩
  | true =>
   obtain⟨j,h1,h2⟩:=Ex.sW l m (by simpa using h);refine⟨j+1,?_,?_⟩
   ·intro i hi
    cases i with
    | zero=>exact⟨a,b,rfl,rfl,by simp,hab⟩
    | succ i =>
     obtain⟨x,y,k1,k2,k3,k4⟩:=h1 i (by omega);exact⟨x,y,by simpa using k1,by simpa using k2,by simp[k3],k4⟩
   ·rcases h2 with ⟨k1,k2⟩|⟨x,y,k1,k2,k3,k4,k5⟩
    ·exact .inl ⟨by simp[k1],by simp[Ex.oI,hab,k2]⟩
    ·exact .inr ⟨x,y,by simpa using k1,by simpa using k2,by simp[k3],k4,by simp[Ex.oI,k5]⟩
 | [],_::_,h=>by simp at h
 | _::_,[],h=>by simp at h
mutual
def Ex.thin:Ex→Prop
 | .mk _ _ _ ks=>ks.length<1000000000∧Ex.fT ks
def Ex.fT:List Ex→Prop
 | []=>True
 | e::es=>e.thin∧Ex.fT es
end
theorem Ex.rU:∀ (l:List Ex),Ex.fT l↔∀ k∈l,k.thin
 | []=>by simp[Ex.fT]
 | e::es=>by simp[Ex.fT,Ex.rU es]
theorem Ex.bL (e:Ex):e.thin↔e.kids.length<1000000000∧∀ k∈e.kids,k.thin:=by
 cases e;simp[Ex.thin,Ex.kids,Ex.rU]
def Ex.headOk (w:Int) (e:Ex):Bool:=if e.kind=1 then decide (0≤e.col) && (decide (e.col<w) && (!e.val.null && e.val.n == 0))else if e.kind=2 then decide (e.col=0) && e.val.ok else decide (e.col=0) && (!e.val.null && e.val.n == 0)
def Ex.vB (w:Int):Nat→Ex→Bool
 | 0,e=>decide ((e.kids.length:Int)=bU e.kind) && (decide (bU e.kind≤0) && e.headOk w)
 | n+1,e=>decide ((e.kids.length:Int)=bU e.kind) && (e.headOk w && e.kids.all (Ex.vB w n))
theorem Ex.ABA (w:Int) (e:Ex):e.headOk w=false∨e.headOk w=true∧((e.kind=1∧0≤e.col∧e.col<w∧e.val.null=false∧e.val.n=0∧bU e.kind=0)∨(e.kind=2∧e.col=0∧Val.ok ⟨e.val.null,e.val.n⟩=true∧True∧True∧bU e.kind=0)∨(e.kind≠1∧e.kind≠2∧e.col=0∧e.val.null=false∧e.val.n=0∧True)):=by
 cases h:e.headOk w with
 | false=>exact .inl rfl
 | true =>
  refine .inr ⟨rfl,?_⟩;unfold Ex.headOk at h;by_cases h1:e.kind=1
  ·simp[h1]at h;simp[h1,h,bU]
  ·by_cases h2:e.kind=2
   ·simp[h2]at h;simp[h2,h,bU]
   ·simp[h1,h2]at h;simp[h1,h2,h]
def Ex.ok (w:Int) (e:Ex):Bool:=bE w && e.vB w 8
mutual
def Ex.sub (by_:List Ex):Ex→Ex
 | .mk k c v ks=>if k=1 then(by_[c.toNat]?).getD Ex.zero else .mk k c v (Ex.AQY by_ ks)
def Ex.AQY (by_:List Ex):List Ex→List Ex
 | []=>[]
 | e::es=>Ex.sub by_ e::Ex.AQY by_ es
end
theorem Ex.XI (by_:List Ex):∀ l,Ex.AQY by_ l=l.map (Ex.sub by_)
 | []=>by simp[Ex.AQY]
 | e::es=>by simp[Ex.AQY,Ex.XI by_ es]
theorem Ex.vF (by_:List Ex) {e b:Ex} (h:e.kind=1) (hb:by_[e.col.toNat]?=some b):e.sub by_=b:=by
 cases e;simp[Ex.kind,Ex.col]at h hb;simp[Ex.sub,h,hb]
theorem Ex.vD (by_:List Ex) {e:Ex} (h:e.kind≠1):e.sub by_=.mk e.kind e.col e.val (e.kids.map (Ex.sub by_)):=by
 cases e;simp[Ex.kind]at h;simp[Ex.sub,h,Ex.XI,Ex.kind,Ex.col,Ex.val,Ex.kids]
mutual
def Ex.WQ (n:Int):Ex→Prop
 | .mk k c _ ks=>(k=1→0≤c∧c<n)∧(k≠1→Ex.U1 n ks)
def Ex.U1 (n:Int):List Ex→Prop
 | []=>True
 | e::es=>Ex.WQ n e∧Ex.U1 n es
end
theorem Ex.MJ (n:Int):∀ l,Ex.U1 n l↔∀ k∈l,Ex.WQ n k
 | []=>by simp[Ex.U1]
 | e::es=>by simp[Ex.U1,Ex.MJ n es]
theorem Ex.U0 (n:Int) (e:Ex):e.WQ n↔(e.kind=1→0≤e.col∧e.col<n)∧(e.kind≠1→∀ k∈e.kids,k.WQ n):=by
 cases e;simp[Ex.WQ,Ex.kind,Ex.col,Ex.kids,Ex.MJ]
mutual
def Ex.ht:Ex→Nat
 | .mk _ _ _ ks=>Ex.htL ks
def Ex.htL:List Ex→Nat
 | []=>0
 | e::es=>max (1+e.ht) (Ex.htL es)
end
theorem Ex.AJA (e:Ex):e.ht=Ex.htL e.kids:=by cases e;simp[Ex.ht,Ex.kids]
theorem Ex.YB:∀ (l:List Ex) (e:Ex),Ex.htL (l++[e])=max (Ex.htL l) (1+e.ht)
 | [],e=>by simp[Ex.htL]
 | a::l,e=>by simp[Ex.htL,Ex.YB l e,Nat.max_assoc]
theorem Ex.ALI {n:Nat}:∀ (l:List Ex),Ex.htL l≤n↔∀ e∈l,1+e.ht≤n
 | []=>by simp[Ex.htL]
 | a::l=>by simp[Ex.htL,Nat.max_le,Ex.ALI l]
mutual
theorem Ex.AFI:∀ e:Ex,e.ht<e.size
 | .mk _ _ _ ks=>by have:=Ex.YC ks;simp[Ex.ht,Ex.size];omega
theorem Ex.YC:∀ l:List Ex,Ex.htL l≤Ex.bG l
 | []=>by simp[Ex.htL]
 | a::l=>by have:=Ex.AFI a;have:=Ex.YC l;simp[Ex.htL,Ex.bG];omega
end
theorem Ex.bF:∀ e:Ex,e.size<1000000000→e.thin:=by
 intro e
 induction e using Ex.ind with
 | h k c v ks ih =>
  intro hs;rw[Ex.bL];simp only[Ex.kids];have h1:=Ex.dC ks;simp[Ex.size]at hs;exact⟨by omega,fun e he=>ih e he (by have:=Ex.jU he;omega)⟩
mutual
def Ex.wf (w:Int):Ex→Bool
 | .mk k c v ks=>decide ((ks.length:Int)=bU k) && (Ex.headOk w (.mk k c v ks) && Ex.wfL w ks)
def Ex.wfL (w:Int):List Ex→Bool
 | []=>true
 | e::es=>Ex.wf w e && Ex.wfL w es
end
theorem Ex.ACU (w:Int):∀ l,Ex.wfL w l=l.all (Ex.wf w)
 | []=>by simp[Ex.wfL]
 | e::es=>by simp[Ex.wfL,Ex.ACU w es]
theorem Ex.MS (w:Int) (e:Ex):e.wf w=(decide ((e.kids.length:Int)=bU e.kind) && (e.headOk w && e.kids.all (Ex.wf w))):=by
 cases e;rw[Ex.wf,Ex.ACU];rfl
theorem Ex.Q4 (w:Int):∀ (n:Nat) (e:Ex),e.vB w n=(e.wf w && decide (e.ht≤n))
 | 0,e=>by
  rw[Ex.MS,Ex.AJA,zA1];simp only[Ex.vB,zU,zP];constructor
  ·rintro⟨h1,h2,h3⟩
   have:e.kids=[]:=by cases h:e.kids with
    | nil=>rfl
    | cons a l=>rw[h]at h1;simp at h1;omega
   simp[this,h3,Ex.htL];rw[this]at h1;simpa using h1
  ·rintro⟨⟨h1,h2,h3⟩,h4⟩
   have:e.kids=[]:=by cases h:e.kids with
    | nil=>rfl
    | cons a l=>rw[h]at h4;simp[Ex.htL]at h4
   rw[this]at h1;simp at h1;simp[this,← h1,h2]
 | n+1,e=>by
  rw[Ex.MS,Ex.AJA,zA1];simp only[Ex.vB,zU,zP,zS,Ex.ALI];constructor
  ·rintro⟨h1,h2,h3⟩;refine⟨⟨h1,h2,fun x hx=>?_⟩,fun x hx=>?_⟩
   ·have:=h3 x hx;rw[Ex.Q4 w n x]at this;simp at this;exact this.1
   ·have:=h3 x hx;rw[Ex.Q4 w n x]at this;simp at this;omega
  ·rintro⟨⟨h1,h2,h3⟩,h4⟩;refine⟨h1,h2,fun x hx=>?_⟩;rw[Ex.Q4 w n x];have:=h4 x hx;simp[h3 x hx];omega
theorem Ex.AD0 (w:Int):∀ (n:Nat) (e:Ex),e.vB w n=true→e.size+1≤2 ^ (n+1)
 | n,e,h=>by
  have hk:bU e.kind≤2:=by
   unfold bU;split;· omega
   split;· omega
   split<;>omega
  rw[Ex.size_eq];have hw:=h;rw[Ex.Q4,Ex.MS]at hw;simp only[zU,zP]at hw;obtain⟨⟨h1,h2,h3⟩,h4⟩:=hw
  cases n with
  | zero =>
   have:e.kids=[]:=by cases h:e.kids with
    | nil=>rfl
    | cons a l=>rw[Ex.AJA,h]at h4;simp[Ex.htL]at h4
   simp[this,Ex.bG]
  | succ n =>
   simp only[Ex.vB,zU,zP,zS]at h
   have key:∀ l:List Ex,(∀ x∈l,x.vB w n=true)→Ex.bG l+l.length≤l.length*2 ^ (n+1):=by
    intro l
    induction l with
    | nil=>intro _;simp[Ex.bG]
    | cons a l ih =>
     intro hl;have a1:=Ex.AD0 w n a (hl a (by simp));have a2:=ih fun x hx=>hl x (by simp[hx])
     simp only[Ex.bG,zQ,Nat.add_mul,Nat.one_mul];omega
   have a1:=key e.kids h.2.2;have a2:e.kids.length≤2:=by omega
   have a3:e.kids.length*2 ^ (n+1)≤2*2 ^ (n+1):=Nat.mul_le_mul_right _ a2;have a4:2 ^ (n+1+1)=2*2 ^ (n+1):=by rw[zB4];omega
   have a5:2≤2 ^ (n+1):=by rw[zB4];have:=zB5 (n:=n);omega
   rcases zC4 1 e.kids.length with h5|h5
   ·have:e.kids.length=2:=by omega
    rw[this]at a1;omega
   ·have:e.kids.length*2 ^ (n+1)≤1*2 ^ (n+1):=Nat.mul_le_mul_right _ h5;have:=zA4 e.kids.length
    rcases Nat.eq_zero_or_pos e.kids.length with h6|h6
    ·rw[h6]at a1;omega
    ·omega
theorem Ex.iT {w:Int} {e:Ex} (h:e.ok w=true):e.size<1000:=by
 simp[Ex.ok]at h;have:=Ex.AD0 w 8 e h.2;omega
mutual
def Ex.htS (hs:List Nat):Ex→Nat
 | .mk k c _ ks=>if k=1 then(hs[c.toNat]?).getD 0 else Ex.AHD hs ks
def Ex.AHD (hs:List Nat):List Ex→Nat
 | []=>0
 | e::es=>max (1+Ex.htS hs e) (Ex.AHD hs es)
end
theorem Ex.AFL (hs:List Nat) {n:Nat}:∀ (l:List Ex),Ex.AHD hs l≤n↔∀ e∈l,1+e.htS hs≤n
 | []=>by simp[Ex.AHD]
 | a::l=>by simp[Ex.AHD,Nat.max_le,Ex.AFL hs l]
theorem Ex.AFK (hs:List Nat) {e:Ex} {h:Nat} (hk:e.kind=1) (hh:hs[e.col.toNat]?=some h):e.htS hs=h:=by
 cases e;simp[Ex.kind,Ex.col]at hk hh;simp[Ex.htS,hk,hh]
theorem Ex.AFJ (hs:List Nat) {e:Ex} (hk:e.kind≠1):e.htS hs=Ex.AHD hs e.kids:=by
 cases e;simp[Ex.kind]at hk;simp[Ex.htS,hk,Ex.kids]
theorem Ex.gM {w:Int} {e k:Ex} (h:e.wf w=true) (hk:k∈e.kids):k.wf w=true:=by
 rw[Ex.MS]at h;simp at h;exact h.2.2 k hk
theorem Ex.lI {w:Int} {e:Ex} (h:e.wf w=true) (hk:e.kind=1):0≤e.col∧e.col<w∧e.kids=[]:=by
 rw[Ex.MS]at h;simp[Ex.headOk,hk,bU]at h;exact⟨h.2.1.1,h.2.1.2.1,h.1⟩
theorem Ex.EE {w:Int}:∀ (e:Ex),e.wf w=true→e.WQ w:=by
 intro e
 induction e using Ex.ind with
 | h k c v ks ih =>
  intro h;rw[Ex.U0];refine⟨fun hk=>?_,fun _ x hx=>ih x hx (Ex.gM h hx)⟩;have:=Ex.lI h hk;exact⟨this.1,this.2.1⟩
theorem Ex.AFM {f:Ex→Ex} {hs:List Nat}:∀ {l:List Ex},(∀ e∈l,(f e).ht=e.htS hs)→Ex.htL (l.map f)=Ex.AHD hs l
 | [],_=>by simp[Ex.htL,Ex.AHD]
 | a::l,h=>by
  simp only[yE,Ex.htL,Ex.AHD,h a (by simp)];rw[Ex.AFM fun e he=>h e (by simp[he])]
theorem Ex.ASM {w:Int} (l:List Ex) (hw:w=l.length):∀ (e:Ex),e.wf w=true→(e.sub l).ht=e.htS (l.map Ex.ht):=by
 intro e
 induction e using Ex.ind with
 | h k c v ks ih =>
  intro h;by_cases hk:k=1
  ·obtain⟨h0,h1,_⟩:=Ex.lI h hk;have hi:c.toNat<l.length:=by simp[Ex.col]at h0 h1;omega
   have hb:=zX hi;rw[Ex.vF l (e:=.mk k c v ks) hk hb,Ex.AFK (l.map Ex.ht) (e:=.mk k c v ks) (h:=l[c.toNat].ht) hk (by simp[Ex.col,hb])]
  ·rw[Ex.vD l (e:=.mk k c v ks) hk,Ex.AFJ _ (e:=.mk k c v ks) hk];simp only[Ex.ht,Ex.kids];exact Ex.AFM fun x hx=>ih x hx (Ex.gM h hx)
theorem Ex.AQP {m w:Int} (l:List Ex) (hm:m=l.length) (hl:∀ b∈l,b.wf w=true):∀ (e:Ex),e.wf m=true→(e.sub l).wf w=true:=by
 intro e
 induction e using Ex.ind with
 | h k c v ks ih =>
  intro h;by_cases hk:k=1
  ·obtain⟨h0,h1,_⟩:=Ex.lI h hk;have hi:c.toNat<l.length:=by simp[Ex.col]at h0 h1;omega
   have hb:=zX hi;rw[Ex.vF l (e:=.mk k c v ks) hk hb];exact hl _ (xZ hi)
  ·rw[Ex.vD l (e:=.mk k c v ks) hk];have h':=h;rw[Ex.MS]at h ⊢;simp[Ex.kids,Ex.kind,Ex.headOk,Ex.col,Ex.val,hk]at h ⊢;exact⟨of_decide_eq_true h.1,h.2.1,fun x hx=>ih x hx (Ex.gM h' hx)⟩
def oW:List Nat→List (List IV)
 | []=>[]
 | h::hs=>[.int h]::oW hs
@[simp] theorem RZ:∀ hs:List Nat,(oW hs).length=hs.length
  | []=>rfl
  | _::hs=>by simp[oW,RZ hs]
theorem RY:∀ {hs:List Nat} {i h:Nat},hs[i]?=some h→gF (oW hs) i=some [.int h]
 | [],_,_,e=>by simp at e
 | a::hs,0,h,e=>by simp at e;subst e;simp[oW,gF]
 | a::hs,i+1,h,e=>by simp only[oW,gF];exact RY (by simpa using e)
noncomputable def WL (cs:List IV) (st:StL):Option (AV×StL):=@ite _ (∃ e:Ex,e.size<1000000000∧e.cells=cs) (Classical.propDecidable _) (some (.i (.agg cs),st)) none
noncomputable def J6:List AV→StL→Option (AV×StL)
 | [.i (.iref cs)],[]=>WL cs []
 | [.ownE 0 5 j 0],[some (.arr 5 es)]=>bnd es[j]? fun cs=>WL cs [some (.arr 5 es)]
 | _,_=>none
theorem YW {e:Ex} {st:StL} (h:e.size<1000000000):WL e.cells st=some (.i (.agg e.cells),st):=by
 unfold WL;exact if_pos ⟨e,h,rfl⟩
theorem ME {cs:List IV} {st:StL} {r:AV×StL} (h:WL cs st=some r):∃ e:Ex,e.size<1000000000∧cs=e.cells∧r=(.i (.agg e.cells),st):=by
 unfold WL at h;by_cases hc:∃ e:Ex,e.size<1000000000∧e.cells=cs
 ·rw[if_pos hc]at h;obtain⟨e,h1,rfl⟩:=hc;injection h with h;exact⟨e,h1,rfl,h.symm⟩
 ·rw[if_neg hc]at h;cases h
theorem YV {e:Ex} (h:e.size<1000000000):J6 [.i (.iref e.cells)] []=some (.i (.agg e.cells),[]):=YW h
theorem AG0 {e:Ex} {es:List (List IV)} {j:Nat} (h:e.size<1000000000) (he:es[j]?=some e.cells):J6 [.ownE 0 5 j 0] [some (.arr 5 es)]=some (.i (.agg e.cells),[some (.arr 5 es)]):=by
 show(bnd es[j]? fun cs=>WL cs [some (.arr 5 es)])=_;rw[he];exact YW h
theorem MC {args:List AV} {st:StL} {r:AV×StL} (h:J6 args st=some r):∃ e:Ex,e.size<1000000000∧r=(.i (.agg e.cells),st) ∧
 ((args=[.i (.iref e.cells)]∧st=[])∨∃ j es,args=[.ownE 0 5 j 0]∧st=[some (.arr 5 es)]∧es[j]?=some e.cells):=by
 unfold J6 at h;split at h
 ·obtain⟨e,h1,rfl,rfl⟩:=ME h;exact⟨e,h1,rfl, .inl ⟨rfl,rfl⟩⟩
 ·rename_i j es;obtain⟨cs,h0,h⟩:=aI.1 h;obtain⟨e,h1,rfl,rfl⟩:=ME h;exact⟨e,h1,rfl, .inr ⟨j,es,rfl,rfl,h0⟩⟩
 ·cases h
theorem BO {m:Mem} {es:List (List IV)} {v:Value} (h:IRep m (.isl es) v) :
 (es=[]∧∃ ao cap,v=.slice ao 0 cap)∨(es≠[]∧∃ b off k cap,v=.slice (some ⟨b,off,none⟩) es.length cap∧IElems m b off k es∧es.length≤cap):=by
 cases h with
 | isl0 ao cap hc=>exact .inl ⟨rfl,ao,cap,rfl⟩
 | isl hn he hc=>exact .inr ⟨hn,_,_,_,_,rfl,he,hc⟩
theorem mV {m:Mem} {c v:Value} (h:IRep m (.lit c) v):v=c:=by cases h;rfl
theorem IAt.inv {m:Mem} {b o:Nat} {c:IV} {cs:List IV} (h:IAt m b o (c::cs)):∃ v,m b o=some v∧IRep m c v∧v.oneCell'=true∧IAt m b (o+1) cs:=by
 cases h with|cons a r q t=>exact⟨_,a,r,q,t⟩
structure ExAt (m:Mem) (b o:Nat) (e:Ex) (v:Value):Prop where
 c0:m b o=some (.int .i64 e.kind)
 c1:m b (o+1)=some (.int .i64 e.col)
 c2:m b (o+2)=some (.bool e.val.null)
 c3:m b (o+3)=some (.int .i64 e.val.n)
 c4:m b (o+4)=some v
 kids:IRep m (.isl (Ex.aB e.kids)) v
theorem O5 {m:Mem} {b o:Nat} {e:Ex} (h:IAt m b o e.cells):∃ v,ExAt m b o e v:=by
 rw[Ex.aA]at h;obtain⟨v0,a0,r0,-,h⟩:=h.inv;obtain⟨v1,a1,r1,-,h⟩:=h.inv;obtain⟨v2,a2,r2,-,h⟩:=h.inv;obtain⟨v3,a3,r3,-,h⟩:=h.inv;obtain⟨v4,a4,r4,-,-⟩:=h.inv;rw[mV r0]at a0;rw[mV r1]at a1;rw[mV r2]at a2;rw[mV r3]at a3;exact⟨v4,a0,a1,a2,a3,a4,r4⟩
theorem AFA {m:Mem} {es:List (List IV)} {v:Value} (h:IRep m (.isl es) v):v.oneCell'=true:=by
 cases h<;>rfl
theorem AEO {m:Mem} {b o:Nat} {e:Ex} {v:Value} (h:ExAt m b o e v):IAt m b o e.cells:=by
 rw[Ex.aA];exact .cons h.c0 (.lit _) rfl (.cons h.c1 (.lit _) rfl (.cons h.c2 (.lit _) rfl (.cons h.c3 (.lit _) rfl (.cons h.c4 h.kids (AFA h.kids) (.nil _ _)))))
theorem tC {m:Mem} {b o k:Nat} {e:Ex} {l:List Ex} (h:IElems m b o k (Ex.aB (e::l))):k=5∧IAt m b o e.cells∧IElems m b (o+5) 5 (Ex.aB l):=by
 simp only[Ex.aB]at h
 cases h with
 | cons a hk r =>
  rw[Ex.dN]at hk;subst hk;exact⟨rfl,a,r⟩
theorem M6 {m:Mem} {b:Nat}:∀ {o k k':Nat} {l l':List Ex},(∀ e∈l,∀ e' b o,IAt m b o e.cells→IAt m b o e'.cells→e=e')→l.length=l'.length→IElems m b o k (Ex.aB l)→IElems m b o k' (Ex.aB l')→l=l'
 | _,_,_,[],[],_,_,_,_=>rfl
 | o,k,k',a::l,a'::l',ih,hl,h,h'=>by
  obtain⟨rfl,h1,h2⟩:=tC h;obtain⟨rfl,h3,h4⟩:=tC h';rw[ih a (by simp) a' b o h1 h3,M6 (fun e he=>ih e (by simp[he])) (by simpa using hl) h2 h4]
 | _,_,_,[],_::_,_,hl,_,_=>by simp at hl
 | _,_,_,_::_,[],_,hl,_,_=>by simp at hl
theorem Y7 {m:Mem} {l l':List Ex} {v:Value} (ih:∀ e∈l,∀ e' b o,IAt m b o e.cells→IAt m b o e'.cells→e=e') (h:IRep m (.isl (Ex.aB l)) v) (h':IRep m (.isl (Ex.aB l')) v):l=l':=by
 have nil:∀ {l:List Ex},Ex.aB l=[]→l=[]:=fun {l} e=>by cases l with|nil=>rfl|cons a l=>simp[Ex.aB]at e
 rcases BO h with ⟨e1,ao,cap,hv⟩|⟨e1,b,off,k,cap,hv,hel,_⟩
 ·rcases BO h' with ⟨e2,_⟩|⟨e2,b',off',k',cap',hv',_⟩
  ·rw[nil e1,nil e2]
  ·rw[hv]at hv';injection hv' with _ q _;rw[Ex.aY]at q;exact absurd (by cases l' with|nil=>rfl|cons a l=>simp at q) e2
 ·rcases BO h' with ⟨e2,ao,cap',hv'⟩|⟨e2,b',off',k',cap',hv',hel',_⟩
  ·rw[hv]at hv';injection hv' with _ q _;rw[Ex.aY]at q;exact absurd (by cases l with|nil=>rfl|cons a l=>simp at q) e1
  ·rw[hv]at hv';injection hv' with q1 q2 _;injection q1 with q1;injection q1 with q1 q3;subst q1;subst q3;rw[Ex.aY,Ex.aY]at q2;exact M6 ih q2 hel hel'
theorem AOM {m:Mem}:∀ (e e':Ex) (b o:Nat),IAt m b o e.cells→IAt m b o e'.cells→e=e':=by
 intro e
 induction e using Ex.ind with
 | h k c v ks ih =>
  intro e' b o h h';obtain⟨v1,h⟩:=O5 h;obtain⟨v2,h'⟩:=O5 h';obtain⟨k',c',v',ks'⟩:=e';have e0:=h.c0.symm.trans h'.c0;have e1:=h.c1.symm.trans h'.c1;have e2:=h.c2.symm.trans h'.c2;have e3:=h.c3.symm.trans h'.c3;have e4:=h.c4.symm.trans h'.c4;simp only[Ex.kind,Ex.col,Ex.val,Option.some.injEq,Value.int.injEq,Value.bool.injEq,true_and]at e0 e1 e2 e3 e4;subst e0;subst e1;subst e4;have hk:=h'.kids;have:ks=ks':=Y7 (m:=m) (v:=v1) (fun e he e' b o=>ih e he e' b o) h.kids hk;subst this;obtain⟨a,n⟩:=v;obtain⟨a',n'⟩:=v';simp only at e2 e3;subst e2;subst e3;rfl
def turn (m:Mem) (b o:Nat) (v:Value):Mem:=fun b' o'=>if b'=b∧o'=o then some v else m b' o'
theorem M9 {m m':Mem} {b:Nat}:∀ {o k:Nat} {l:List Ex},(∀ e∈l,∀ b o,IAt m b o e.cells→IAt m' b o e.cells)→IElems m b o k (Ex.aB l)→IElems m' b o k (Ex.aB l)
 | o,k,[],_,_=>by simp only[Ex.aB];exact .nil _ _ _
 | o,k,a::l,ih,h=>by
  obtain⟨rfl,h1,h2⟩:=tC h;simp only[Ex.aB];exact .cons (ih a (by simp) b o h1) (by simp) (M9 (fun e he=>ih e (by simp[he])) h2)
theorem Y8 {m m':Mem} {l:List Ex} {v:Value} (ih:∀ e∈l,∀ b o,IAt m b o e.cells→IAt m' b o e.cells) (h:IRep m (.isl (Ex.aB l)) v):IRep m' (.isl (Ex.aB l)) v:=by
 generalize hes:Ex.aB l=es at h
 cases h with
 | isl0 ao cap hc=>exact .isl0 _ _ hc
 | isl hn he hc=>subst hes;exact .isl hn (M9 ih he) hc
theorem AMC {m:Mem} {b o:Nat} {x:Ex} {v v':Value} (hx:ExAt m b o x v) (hv:IRep m (.isl (Ex.aB x.kids)) v'):∀ (e:Ex) (b1 o1:Nat),IAt m b1 o1 e.cells→IAt (turn m b (o+4) v') b1 o1 e.cells:=by
 intro e
 induction e using Ex.ind with
 | h k c vv ks ih =>
  intro b1 o1 h;obtain⟨u,h⟩:=O5 h
  have hsl:∀ q:Value,m b (o+4)=some q→(∃ k n,q=.int k n)∨(∃ t,q=.bool t)→False:=by
   intro q hq hh;rw[hx.c4]at hq;injection hq with hq;subst hq
   rcases BO hx.kids with ⟨_,ao,cap,e⟩|⟨_,b',off,k',cap,e,_⟩<;>rcases hh with ⟨k,n,e'⟩|⟨t,e'⟩<;>rw[e]at e'<;>cases e'
  have low:∀ i q,m b1 (o1+i)=some q→((∃ k n,q=.int k n)∨(∃ t,q=.bool t))→turn m b (o+4) v' b1 (o1+i)=some q:=by
   intro i q hq hh;unfold turn;split
   ·rename_i e;rw[e.1,e.2]at hq;exact(hsl q hq hh).elim
   ·exact hq
  have c0:=low 0 _ (by simpa using h.c0) (.inl ⟨_,_,rfl⟩);have c1:=low 1 _ h.c1 (.inl ⟨_,_,rfl⟩);have c2:=low 2 _ h.c2 (.inr ⟨_,rfl⟩);have c3:=low 3 _ h.c3 (.inl ⟨_,_,rfl⟩);by_cases he:b1=b∧o1+4=o+4
  ·have hu:u=v:=by have:=h.c4;rw[he.1,he.2,hx.c4]at this;injection this with this;exact this.symm
   have hk:ks=x.kids:=by
    have a1:=h.kids;rw[hu]at a1;exact Y7 (m:=m) (v:=v) (fun e he=>fun e' b o=>AOM e e' b o) a1 hx.kids
   refine AEO (v:=v') ⟨by simpa using c0,c1,c2,c3,by unfold turn;rw[if_pos he],?_⟩;rw[← hk]at hv;exact Y8 (fun e he b o=>ih e he b o) hv
  ·exact AEO (v:=u) ⟨by simpa using c0,c1,c2,c3,by unfold turn;rw[if_neg he];exact h.c4,Y8 (fun e he b o=>ih e he b o) h.kids⟩
structure PF (B:Nat) (w:World) (m:Mem) (φ:Pl) (b o:Nat) (x:Ex):Prop where
 new:B≤b
 row:∃ (vs:List Value) (T:TypeId),w.heap[b]?=some (.cells vs.toArray T (0,0))
 free:l9 φ b
 cel:IAt m b o x.cells
abbrev KL:=List ((Nat×Nat)×Ex)
theorem PF.lt {B:Nat} {w:World} {m:Mem} {φ:Pl} {b o:Nat} {x:Ex} (h:PF B w m φ b o x):b<w.heap.size:=by
 obtain⟨vs,T,e⟩:=h.row;exact(zF.1 e).1
theorem PF.adv {B:Nat} {w w':World} {m m':Mem} {φ φ':Pl} {b o:Nat} {x:Ex} (h:PF B w m φ b o x) (k:Adv w m φ w' m' φ'):PF B w' m' φ' b o x:=by
 refine⟨h.new,?_,k.range h.lt h.free,h.cel.mono k.mle⟩;rw[k.block b h.lt h.free];exact h.row
theorem tZ {P:Program} {id:Nat} {ops:Array Oper} {Q:Exit→Act→World→Prop} {a:Act} {w:World} (h:wpOpsIn (FR none) 0 P ops Q (List.range ops.size) a w):(Code.region id ops false).wp P Q a w :=
 wpIn_wide.1 (wpIn_region (F:=Fence.wide) (n:=0) h)
structure GG (wi:World) (mi:Mem) (nt:Nat) (ok:Nat→Prop) (K:KL) (env:Nat→AV) (st:Store) (a:Act) (w:World):Prop where
 out:∃ m φ,Inv w m φ st∧(∀ t,Rep m φ (env t) (a.tmps.getD t undef))∧Adv wi mi (fun _=>none) w m φ∧(∀ id,φ id≠none→ok id)∧∀ k∈K,PF wi.heap.size w m φ k.1.1 k.1.2 k.2
 size:nt≤a.tmps.size
 defers:a.defers=[]
section
variable {C:Ctx} {wi:World} {mi:Mem} {nt:Nat}
theorem GG.ofA {ok ok':Nat→Prop} {K:KL} {env env':Nat→AV} {st st':Store} {a a':Act} {w w':World} {m:Mem} {φ:Pl} (h3:Adv wi mi (fun _=>none) w m φ) (h5:∀ k∈K,PF wi.heap.size w m φ k.1.1 k.1.2 k.2) (h:ARel [] w m φ nt ok' env' st' a' w'):GG wi mi nt ok' K env' st' a' w':=by
 obtain⟨⟨m',φ',k1,k2,k3,k4,_⟩,k5,k6⟩:=h;exact⟨⟨m',φ',k1,k2,h3.trans k3,k4,fun k hk=>(h5 k hk).adv k3⟩,k5,k6⟩
theorem GG.code (hC:CtxOk C) {call:dZ} (hcall:CallOk C call) (hdraw:ZG C call) {G:List Nat} {n:Nat} {c:Code} {S S':AS} {e:AExit} {a:Act} {w:World} {K:KL} (hc:codeOk nt c=true) (hx:exec C call G S.st.length n c S=some (e,S')) (h:GG wi mi nt (fun id=>id<S.st.length) K (aX S.env) (bJ S.st) a w) (hnr:bW c=true:=by rfl) :
 c.wp C.P (fun e' a' w'=>e'=mY e∧GG wi mi nt (fun id=>id<S'.st.length) K (aX S'.env) (bJ S'.st) a' w') a w:=by
 obtain⟨⟨m,φ,h1,h2,h3,h4,h5⟩,h6,h7⟩:=h;refine wpIn_wide.1 (wpIn_mono (cO (ρ:=none) hC hcall hdraw h4 n c S S' e [] a w hc (.inl rfl) hx ⟨⟨⟨m,φ,h1,h2, .refl _ _ _,h4, .nil _ _ _⟩,h6,h7⟩,zM _⟩) ?_);rintro e' a' w' ⟨rfl,ds,k,kd⟩;have kd:=kd hnr;subst kd;exact⟨rfl, .ofA (ok:=fun _=>True) (env:=fun _=>.junk) (st:=st0) (a:=a) h3 h5 k.1⟩
where st0:Store:=fun _=>none
theorem lT (hC:CtxOk C) {call:dZ} (hcall:CallOk C call) {ops:Array Oper} {Q:Exit→Act→World→Prop} {base:Nat} {w0:World} {m0:Mem} {φ0:Pl} {js:List Nat} (hs:∀ o∈ops,kY nt o=true) :
 ∀ (os:List Oper) (i:Nat) (R R':RS) (a:Act) (w:World),(∀ j,j<os.length→os[j]?=ops[i+j]?)→dL C call ops.toList false base os i R=some R' →
   ARel [] w0 m0 φ0 nt (JH base (fun j=>j<i)) R.env R.st a w→(∀ a' w',ARel [] w0 m0 φ0 nt (JH base fun j=>j<i+os.length) R'.env R'.st a' w'→wpOpsIn (FR none) 0 C.P ops Q js a' w')→wpOpsIn (FR none) 0 C.P ops Q (List.range' i os.length++js) a w
 | [],i,R,R',a,w,_,h,hr,hQ=>by
  simp only[dL,Option.some.injEq]at h;subst h;simpa using hQ a w (by simpa using hr)
 | o::os,i,R,R',a,w,hl,h,hr,hQ=>by
  have ho:ops[i]?=some o:=by simpa using (hl 0 (by simp)).symm
  simp only[zQ,List.range'_succ,yG];rw[wpOpsIn_cons];simp only[dL]at h;obtain⟨b,h1,h2⟩:=aI.1 h;have hstat:=hs o (Array.mem_of_getElem? ho)
  have hrest:∀ j,j<os.length→os[j]?=ops[i+1+j]?:=fun j hj=>by
   have:=hl (j+1) (by simpa using hj);simpa [yK,Nat.add_comm 1 j]using this
  have mono:∀ env st a' w',ARel [] w0 m0 φ0 nt (JH base fun j=>j<i∨j=i) env st a' w'→ARel [] w0 m0 φ0 nt (JH base fun j=>j<i+1) env st a' w':=by
   rintro env st a' w' ⟨⟨m,φ,k1,k2,k3,k4,k7⟩,k5,k6⟩;exact⟨⟨m,φ,k1,k2,k3,fun id hne=>oV (fun j hj=>by omega) (k4 id hne),k7⟩,k5,k6⟩
  have hQ':∀ a' w',ARel [] w0 m0 φ0 nt (JH base fun j=>j<i+1+os.length) R'.env R'.st a' w'→wpOpsIn (FR none) 0 C.P ops Q js a' w':=fun a' w' k=>hQ a' w' (by
   rw[show i+(o::os).length=i+1+os.length by simp;omega];exact k)
  cases b with
  | true =>
   simp only[if_true]at h2;obtain⟨_,h3⟩:=aR.1 h2;obtain⟨p,h4,h5⟩:=aI.1 h3;refine oL hC hcall (dn:=fun j=>j<i) (base:=base) (S:=(R.env,R.st)) (S':=(wF R.env o.dst p.1,p.2)) ho hstat (xJ i) ?_ hr fun a' w' hr'=>?_
   ·unfold aOp;exact aI.2 ⟨true,h1,by simp only[if_true];exact aI.2 ⟨p,h4,rfl⟩⟩
   ·exact lT hC hcall hs os (i+1) _ R' a' w' hrest h5 (mono _ _ _ _ hr') hQ'
  | false =>
   simp only[yX,if_false]at h2;refine oL hC hcall (dn:=fun j=>j<i) (base:=base) (S:=(R.env,R.st)) (S':=(wF R.env o.dst (.i (.lit undef)),R.st)) ho hstat (xJ i) ?_ hr fun a' w' hr'=>?_
   ·unfold aOp;exact aI.2 ⟨false,h1,by simp⟩
   ·exact lT hC hcall hs os (i+1) _ R' a' w' hrest h2 (mono _ _ _ _ hr') hQ'
theorem GG.ops (hC:CtxOk C) {call:dZ} (hcall:CallOk C call) {ops:Array Oper} {Q:Exit→Act→World→Prop} {base:Nat} {js:List Nat} {K:KL} (hs:∀ o∈ops,kY nt o=true) {os:List Oper} {i:Nat} {R R':RS} {a:Act} {w:World} (hl:∀ j,j<os.length→os[j]?=ops[i+j]?) (hx:dL C call ops.toList false base os i R=some R')
 (h:GG wi mi nt (JH base fun j=>j<i) K R.env R.st a w) (hQ:∀ a' w',GG wi mi nt (JH base fun j=>j<i+os.length) K R'.env R'.st a' w'→wpOpsIn (FR none) 0 C.P ops Q js a' w'):wpOpsIn (FR none) 0 C.P ops Q (List.range' i os.length++js) a w:=by
 obtain⟨⟨m,φ,h1,h2,h3,h4,h5⟩,h6,h7⟩:=h;exact lT hC hcall hs os i R R' a w hl hx ⟨⟨m,φ,h1,h2, .refl _ _ _,h4, .nil _ _ _⟩,h6,h7⟩ fun a' w' k=>hQ a' w' (.ofA (ok:=fun _=>True) (env:=fun _=>.junk) (st:=fun _=>none) (a:=a) h3 h5 k)
theorem GG.settle {ok:Nat→Prop} {K:KL} {env:Nat→AV} {st:Store} {a:Act} {w:World} (G:List Nat) (h:GG wi mi nt ok K env st a w) :
 GG wi mi nt (fun id=>id<(settle G 0 env st).st.length) K (aX (settle G 0 env st).env) (bJ (settle G 0 env st).st) a w:=by
 obtain⟨⟨m,φ,hi,henv,hadv,hok,hK⟩,hsz,hdf⟩:=h;unfold Av.settle BD;generalize hids:iX st 0 (BS env G)=ids;have hd:ids.Nodup:=by rw[← hids];exact iI _ _ _
 have hfree:∀ b,l9 φ b→l9 (fK ids φ) b:=by
  intro b hb id r n e;unfold fK at e
  cases hx:ids[id]? with
  | none=>rw[hx]at e;cases e
  | some j=>rw[hx]at e;exact hb j r n e
 refine⟨⟨m,fK ids φ,hi.keep hd,?_,hadv.keep (fun id h=>absurd rfl h) (fun j hj=>absurd hj (xK j)),?_,fun k hk=>⟨(hK k hk).new,(hK k hk).row,hfree _ (hK k hk).free,(hK k hk).cel⟩⟩,hsz,hdf⟩
 ·intro t
  have key:∀ G:List Nat,Rep m (fK ids φ) (aX (o9 (gX ids) env G) t) (a.tmps.getD t undef):=by
   intro G
   induction G with
   | nil=>exact .junk _
   | cons u G ih =>
    simp only[o9,aX];by_cases e:t=u
    ·subst e;simp only[if_true];exact(henv t).ren (mX ids φ)
    ·simp only[e,if_false];exact ih
  exact key G
 ·intro id hne;simp only[iF];unfold fK at hne
  cases hx:ids[id]? with
  | none=>rw[hx]at hne;exact absurd rfl hne
  | some i=>exact(zZ.1 hx).1
theorem GG.see {ok:Nat→Prop} {K:KL} {env:Nat→AV} {st:Store} {a:Act} {w:World} {u b o:Nat} {x:Ex} (h:GG wi mi nt ok K env st a w) (hu:env u=.i (.lit (.pointer (some ⟨b,o,none⟩)))) (hk:((b,o),x)∈K):GG wi mi nt ok K (upd env u (.i (.iref x.cells))) st a w:=by
 obtain⟨⟨m,φ,hi,henv,hadv,hok,hK⟩,hsz,hdf⟩:=h;refine⟨⟨m,φ,hi,fun t=>?_,hadv,hok,hK⟩,hsz,hdf⟩;simp only[upd];split
 ·rename_i e;subst e;have:=henv t;rw[hu]at this;rw[this.cB];exact .i (.iref (hK _ hk).cel)
 ·exact henv t
theorem GG.envTo {ok:Nat→Prop} {K:KL} {env env':Nat→AV} {st:Store} {a:Act} {w:World} (h:GG wi mi nt ok K env st a w) (he:∀ t,env' t=.junk∨env' t=env t):GG wi mi nt ok K env' st a w:=by
 obtain⟨⟨m,φ,hi,henv,hadv,hok,hK⟩,hsz,hdf⟩:=h;refine⟨⟨m,φ,hi,fun t=>?_,hadv,hok,hK⟩,hsz,hdf⟩
 rcases he t with e|e
 ·rw[e];exact .junk _
 ·rw[e];exact henv t
theorem GG.ok' {ok ok':Nat→Prop} {K:KL} {env:Nat→AV} {st:Store} {a:Act} {w:World} (h:GG wi mi nt ok K env st a w) (he:∀ id,ok id→ok' id):GG wi mi nt ok' K env st a w:=by
 obtain⟨⟨m,φ,hi,henv,hadv,hok,hK⟩,hsz,hdf⟩:=h;exact⟨⟨m,φ,hi,henv,hadv,fun id h=>he id (hok id h),hK⟩,hsz,hdf⟩
end
def jP:Blk→Prop
 | .box cs=>∀ c∈cs,(∃ v,c=.i (.lit v))∨c=.nils
 | .arr _ es=>∀ c∈es.flatten,∃ v,c=.lit v
 | .frz _ _=>False
 | .fbox _=>False
 | .tre _ _=>False
 | .loop _ _ _=>False
theorem ICells.ACK {m m':Mem}:∀ {cs:List IV} {vs:List Value},(∀ c∈cs,∃ v,c=.lit v)→ICells m cs vs→ICells m' cs vs
 | [],_,_, .nil=>.nil
 | c::cs,_,h, .cons a o r=>by
  obtain⟨v,rfl⟩:=h c (by simp);rw[mV a]at o ⊢;exact .cons (.lit _) o (ICells.ACK (fun d hd=>h d (by simp[hd])) r)
theorem RepC.ACK {m m':Mem} {φ φ':Pl}:∀ {cs:List AV} {vs:List Value},(∀ c∈cs,(∃ v,c=.i (.lit v))∨c=.nils)→RepC m φ cs vs→RepC m' φ' cs vs
 | [],_,_, .nil=>.nil
 | c::cs,_,h, .cons a o r=>by
  have hr:=RepC.ACK (m':=m') (φ':=φ') (fun d hd=>h d (by simp[hd])) r
  rcases h c (by simp)with ⟨v,rfl⟩|rfl
  ·rw[a.cB]at o ⊢;exact .cons (.i (.lit _)) o hr
  ·cases a;exact .cons .nils o hr
theorem BlkOk.ACK {w w':World} {m m':Mem} {φ φ':Pl} {b:Nat} {n:Ext} {blk:Blk} (hl:jP blk) (hh:w'.heap[b]?=w.heap[b]?) (hm:∀ o,m b o=none→m' b o=none) (h:BlkOk w m φ b n blk):BlkOk w' m' φ' b n blk:=by
 cases h with
 | box h1 h2 h3 h4=>exact .box (by rw[hh];exact h1) h2 (h3.ACK hl) fun o=>hm o (h4 o)
 | arr h1 h2 h3 h4 h5 h6 h7 h8 h9 =>
  exact .arr (by rw[hh];exact h1) h2 h3 h4 (h5.ACK hl) h6 (fun o=>hm o (h7 o)) h8 h9
 | frz=>cases hl
 | fbox=>cases hl
 | tre=>cases hl
 | loop=>cases hl
def ATJ (st:Store):Prop:=∀ id blk,st id=some blk→jP blk
section
variable {C:Ctx} {wi:World} {mi:Mem}
theorem ZV {w:World} {m:Mem} {φ:Pl} {st:Store} {K:KL} {b o:Nat} {x:Ex} {v:Value} {t:TypeId} (ht:iY C.P t=some 1) (hi:Inv w m φ st) (hst:ATJ st) (hadv:Adv wi mi (fun _=>none) w m φ) (hmi:nI wi mi)
 (hK:∀ k∈K,PF wi.heap.size w m φ k.1.1 k.1.2 k.2) (hk:((b,o),x)∈K) (hv:IRep m (.isl (Ex.aB x.kids)) v) :
 ∃ w' m',(Instr.storeAt t (.pointer (some ⟨b,o+4,none⟩)) v).run C.P w=.ok () w'∧Inv w' m' φ st∧Adv wi mi (fun _=>none) w' m' φ∧(∀ k∈K,PF wi.heap.size w' m' φ k.1.1 k.1.2 k.2) ∧
   IAt m' b o [.int x.kind, .int x.col, .bool x.val.null, .int x.val.n, .lit v]:=by
 have hp:=hK _ hk;obtain⟨u,hx⟩:=O5 hp.cel;obtain⟨vs,T,hrow⟩:=hp.row;have hone:=AFA hv
 have hcells:v.cells.toList=[v]:=by
  rcases BO hv with ⟨_,ao,cap,rfl⟩|⟨_,b',off,k',cap,rfl,_⟩<;>rfl
 have hcsz:v.cells.size=1:=by rw[← Array.length_toList,hcells];rfl
 have hlen:o+4<vs.length:=by
  have:=hi.mem _ _ _ hx.c4;simp only[World.cell?,hrow,Option.isSome_none]at this;have h2:vs.toArray[o+4]?=some u:=by simpa using this
  have:=(zF.1 h2).1;simpa using this
 have hrun:=kW (P:=C.P) (t:=t) (v:=v) (off:=o+4) (by rw[hcsz];exact ht) hrow (by omega) (by rw[hcells];simpa using hone);rw[hcells,hcsz]at hrun;generalize hvs':vs.take (o+4)++[v]++vs.drop (o+4+1)=vs' at hrun;have hheap:(w.setRow b vs'.toArray).heap[b]?=some (.cells vs'.toArray T (0,0)):=setRow_heap w b _ _ T (0,0) hrow;have hother:∀ k,k≠b→(w.setRow b vs'.toArray).heap[k]?=w.heap[k]?:=fun k hk=>setRow_other w b k _ hk
 have hget:∀ j,vs'[j]?=if j=o+4 then some v else vs[j]?:=by
  intro j;subst hvs'
  have hs:vs.take (o+4)++[v]++vs.drop (o+4+1)=vs.set (o+4) v:=by
   rw[List.set_eq_take_append_cons_drop];simp[hlen]
  rw[hs,List.getElem?_set];by_cases e:o+4=j
  ·subst e;simp[hlen]
  ·simp[e,Ne.symm e]
 refine⟨w.setRow b vs'.toArray,turn m b (o+4) v,?_,?_,?_,?_,?_⟩
 ·simp only[Instr.storeAt,Instr.sureAddr,Sem.run_bind,Sem.run_pure,Result.andThen_ok];exact hrun
 ·refine⟨?_,?_,hi.inj,fun i b n f e ho=>by simpa [World.setRow]using hi.low i b n f e ho⟩
  ·intro b1 o1 q hq;unfold turn at hq;by_cases e1:b1=b
   ·subst e1;simp only[World.cell?,hheap,Option.isSome_none]
    have:vs'.toArray[o1]?=some q:=by
     rw[List.getElem?_toArray,hget];split at hq
     ·rename_i e;rw[if_pos e.2];exact hq
     ·rename_i e;have e2:o1≠o+4:=fun h=>e ⟨rfl,h⟩
      rw[if_neg e2];have:=hi.mem _ _ _ hq;simp only[World.cell?,hrow,Option.isSome_none]at this;simpa using this
    simpa using this
   ·rw[if_neg (fun h=>e1 h.1)]at hq;have:=hi.mem _ _ _ hq;simp only[World.cell?]at this ⊢;rw[hother b1 e1];exact this
  ·intro id blk hb;obtain⟨b2,n2,h1,h2,h3⟩:=hi.live id blk hb;have hne:b2≠b:=fun e=>hp.free id b2 n2 h1 (by rw[← e];exact h2.1)
   refine⟨b2,n2,h1,⟨h2.1,fun f hf=>by simpa [World.setRow]using h2.2 f hf⟩,h3.ACK (hst id blk hb) (hother b2 hne) fun o' ho'=>?_⟩;unfold turn;rw[if_neg (fun h=>hne h.1)];exact ho'
 ·refine⟨by simpa [World.setRow]using hadv.size,hadv.os,⟨hadv.tape.tape,hadv.tape.fwd⟩,hadv.output,?_,?_,?_,hadv.ple,hadv.pnew⟩
  ·intro k hk hn;rw[hother k (by have h3:wi.heap.size≤b:=hp.new;omega)];exact hadv.block k hk hn
  ·intro b1 o1 q hq;have h1:=hadv.mle _ _ _ hq;unfold turn;rw[if_neg ?_];· exact h1
   rintro⟨rfl,_⟩;have h2:=hmi _ _ _ hq;have h3:wi.heap.size≤b1:=hp.new;simp only[World.cell?]at h2
   cases h4:wi.heap[b1]? with
   | none=>rw[h4]at h2;cases h2
   | some z=>have:=(zF.1 h4).1;omega
  ·intro k hk hn o';have h3:wi.heap.size≤b:=hp.new;unfold turn;rw[if_neg (fun h=>by have:=h.1;omega)];exact hadv.mnew k hk hn o'
 ·intro k hk;have h:=hK k hk;refine⟨h.new,?_,h.free,AMC hx hv _ _ _ h.cel⟩;by_cases e:k.1.1=b
  ·rw[e];exact⟨vs',T,hheap⟩
  ·rw[hother _ e];exact h.row
 ·have low:∀ i,i<4→∀ q,m b (o+i)=some q→turn m b (o+4) v b (o+i)=some q:=by
   intro i hi q hq;unfold turn;rw[if_neg (by rintro⟨_,h⟩;omega)];exact hq
  refine .cons (by simpa using low 0 (by omega) _ (by simpa using hx.c0)) (.lit _) rfl (.cons (low 1 (by omega) _ hx.c1) (.lit _) rfl (.cons (low 2 (by omega) _ hx.c2) (.lit _) rfl (.cons (low 3 (by omega) _ hx.c3) (.lit _) rfl (.cons ?_ (.lit _) hone (.nil _ _)))));unfold turn;rw[if_pos ⟨rfl,rfl⟩]
end
def jK (b:Nat):Nat→List Ex→KL
 | _,[]=>[]
 | o,x::l=>((b,o),x)::jK b (o+5) l
theorem LM {m:Mem} {b:Nat}:∀ {o k:Nat} {l:List Ex},IElems m b o k (Ex.aB l)→∀ p∈jK b o l,p.1.1=b∧IAt m p.1.1 p.1.2 p.2.cells
 | _,_,[],_,p,hp=>by simp[jK]at hp
 | o,k,a::l,h,p,hp=>by
  obtain⟨rfl,h1,h2⟩:=tC h;simp only[jK,zO]at hp
  rcases hp with rfl|hp
  ·exact⟨rfl,h1⟩
  ·exact LM h2 p hp
section
variable {C:Ctx} {wi:World} {mi:Mem}
theorem AJF {w:World} {m:Mem} {φ:Pl} {st st':Store} {K:KL} {id:Nat} {v:Value} {ks:List Ex} (hks:ks≠[]) (hi:Inv w m φ st) (hr:Rep m φ (.osl id 5 0 ks.length) v) (hid:st id=some (.arr 5 (Ex.aB ks))) (hadv:Adv wi mi (fun _=>none) w m φ)
 (hK:∀ k∈K,PF wi.heap.size w m φ k.1.1 k.1.2 k.2) (hst:∀ i blk,st' i=some blk→i≠id∧st i=some blk∧jP blk) :
 ∃ b' cap m1 φ2,v=.slice (some ⟨b',0,none⟩) ks.length cap∧Inv w m1 φ2 st'∧Adv wi mi (fun _=>none) w m1 φ2∧(∀ k∈K++jK b' 0 ks,PF wi.heap.size w m1 φ2 k.1.1 k.1.2 k.2)∧IRep m1 (.isl (Ex.aB ks)) v ∧
   (∀ i,st' i≠none→φ2 i=φ i)∧(∀ i,φ2 i≠none→st' i≠none):=by
 have hlen:0<ks.length:=zB1.2 hks
 have hfr:rF st (.osl id 5 0 ks.length)=some (.isl (Ex.aB ks),upd st id (some (.frz 5 (Ex.aB ks)))):=by
  simp[rF,frz,vR,uM,hid,tst,window,bnd,iO,zY]
 obtain⟨m1,k1,k2,k3⟩:=jM hi hr hfr
 cases hr with
 | @osl _ _ _ _ cap b' n' ao eφ hlc hcap ha1 ha2 =>
  have hao:=ha1 (by omega);subst hao;obtain⟨hb,hok⟩:=dU hi eφ hid
  have hrow:∃ (vs:List Value) (T:TypeId),w.heap[b']?=some (.cells vs.toArray T (0,0)):=by
   cases hok with|arr h1=>exact⟨_,_,h1⟩
  have hnew:wi.heap.size≤b':=by
   rcases hadv.pnew id b' n' b' eφ hb.1 with h|h
   ·exact h
   ·exact absurd (fun id b n e=>by cases e) h
  have dec:∀ i,st' i=none∨st' i≠none:=fun i=>by cases st' i<;>simp
  let φ2:Pl:=fun i=>match st' i with
   | some _=>φ i
   | none=>none
  have hφ2:∀ i,st' i≠none→φ2 i=φ i:=fun i h=>by
   show(match st' i with|some _=>φ i|none=>none)=φ i
   cases e:st' i with
   | none=>exact absurd e h
   | some _=>rfl
  have hφ2n:∀ i,φ2 i≠none→st' i≠none:=fun i h e=>h (by
   show(match st' i with|some _=>φ i|none=>none)=none
   rw[e])
  have hsub:∀ i p,φ2 i=some p→φ i=some p∧st' i≠none:=fun i p h=>by
   have h1:=hφ2n i (by rw[h];simp);exact⟨by rw[← hφ2 i h1];exact h,h1⟩
  have hA1:=hadv.trans k3;refine⟨b',cap,m1,φ2,by simp,?_,?_,?_,k1,hφ2,hφ2n⟩
  ·refine⟨k2.mem,?_,?_,fun i b n f e ho=>k2.low i b n f (hsub _ _ e).1 ho⟩
   ·intro i blk hb';obtain⟨h1,h2,h3⟩:=hst i blk hb';have h4:upd st id (some (.frz 5 (Ex.aB ks))) i=some blk:=by simp[upd,h1,h2]
    obtain⟨b,n,q1,q2,q3⟩:=k2.live i blk h4;exact⟨b,n,by rw[hφ2 i (by rw[hb'];simp)];exact q1,q2,q3.ACK h3 rfl fun o h=>h⟩
   ·intro i j b bx n n2 b1 b2 f h1 h2 h3 h4 o1 o2;obtain⟨q1,q2,_⟩:=hst i b1 h1;obtain⟨r1,r2,_⟩:=hst j b2 h2;exact hi.inj i j b bx n n2 b1 b2 f q2 r2 (hsub _ _ h3).1 (hsub _ _ h4).1 o1 o2
  ·refine⟨hA1.size,hA1.os,hA1.tape,hA1.output,hA1.block,hA1.mle,hA1.mnew,(fun _ _ _ h=>by cases h),?_⟩;intro i b n f h2 ho;exact hA1.pnew i b n f (hsub _ _ h2).1 ho
  ·intro k hk
   rcases zT.1 hk with hk|hk
   ·have h:=hK k hk;exact⟨h.new,h.row,fun i r n e=>h.free i r n (hsub _ _ e).1,h.cel.mono k3.mle⟩
   ·have hel:IElems m1 b' 0 5 (Ex.aB ks):=by
     rcases BO k1 with ⟨e1,_⟩|⟨_,b2,off,k',cap',hv,hel,_⟩
     ·exact absurd (by cases ks with|nil=>rfl|cons a l=>simp[Ex.aB]at e1) hks
     ·injection hv with q1 _ _;injection q1 with q1;injection q1 with q1 q2;subst q1;subst q2
      cases ks with
      | nil=>exact absurd rfl hks
      | cons a l=>obtain⟨rfl,_⟩:=tC hel;exact hel
    obtain⟨e1,e2⟩:=LM hel k hk;refine⟨by rw[e1];exact hnew,by rw[e1];exact hrow,?_,e2⟩;intro i r n e ho;rw[e1]at ho;obtain⟨h1,h2⟩:=hsub _ _ e
    cases hb2:st' i with
    | none=>exact h2 hb2
    | some blk =>
     obtain⟨q1,q2,_⟩:=hst i blk hb2;exact q1 (hi.inj i id r b' n n' blk _ b' q2 hid h1 eφ ho hb.1)
theorem ZI {ops:Array Oper} {Q:Exit→Act→World→Prop} {K:Act→World→Prop} {i:Nat} {t ty:TypeId} {x y:Operand} {pos:String} {after:Array Edge} {a:Act} {w w':World} (ho:ops[i]?=some ⟨none, .store t x y,ty,pos,after,none⟩)
 (hrun:(Instr.storeAt t (a.eval x) (a.eval y)).run C.P w=.ok () w') (hK:K a w'):wpOpIn (FR none) 0 C.P ops Q i K a w:=by
 unfold wpOpIn;rw[ho];simp only[Region.wanted,if_true];refine⟨fun _ _=>trivial,?_⟩;rw[Oper.semAt_eq _ _ _ (fun c e=>by cases e)]
 have:(execOp a.eval ⟨none, .store t x y,ty,pos,after,none⟩).run C.P w=.ok .skip w':=by
  unfold execOp;simp[hrun]
 rw[this];simpa [Oper.uponIn,Act.put]using hK
end
section
variable {C:Ctx} {wi:World} {mi:Mem} {nt:Nat}
theorem GG.gU (hS:SoundOk C) {G:List Nat} {c:Code} {S S':AS} {e:AExit} {a:Act} {w:World} {K:KL} (hc:codeOk nt c=true) (hx:dI C G S.st.length c S=some (e,S')) (h:GG wi mi nt (fun id=>id<S.st.length) K (aX S.env) (bJ S.st) a w) (hnr:bW c=true:=by rfl) :
 c.wp C.P (fun e' a' w'=>e'=mY e∧GG wi mi nt (fun id=>id<S'.st.length) K (aX S'.env) (bJ S'.st) a' w') a w:=by
 obtain⟨n,hn⟩:=(dG _).1 hx;exact GG.code hS.ctx (bS hS) (hS.draw _ (bS hS)) hc hn h hnr
theorem AJL {w:World} {m m1:Mem} {φ:Pl} {st st1 st':Store} {K:KL} {id b':Nat} {n':Ext} {blk0:Blk} (hi:Inv w m φ st) (k2:Inv w m1 φ st1) (hA1:Adv wi mi (fun _=>none) w m1 φ) (hle:MLe m m1) (eφ:φ id=some (b',n')) (hid:st id=some blk0)
 (hK:∀ k∈K,PF wi.heap.size w m φ k.1.1 k.1.2 k.2) (hst:∀ i blk,st' i=some blk→i≠id∧st i=some blk∧st1 i=some blk∧jP blk) :
 ∃ φ2,Inv w m1 φ2 st'∧Adv wi mi (fun _=>none) w m1 φ2∧(∀ k∈K,PF wi.heap.size w m1 φ2 k.1.1 k.1.2 k.2)∧l9 φ2 b'∧(∀ i,st' i≠none→φ2 i=φ i)∧(∀ i,φ2 i≠none→st' i≠none):=by
 let φ2:Pl:=fun i=>match st' i with
  | some _=>φ i
  | none=>none
 have hφ2:∀ i,st' i≠none→φ2 i=φ i:=fun i h=>by
  show(match st' i with|some _=>φ i|none=>none)=φ i
  cases e:st' i with
  | none=>exact absurd e h
  | some _=>rfl
 have hφ2n:∀ i,φ2 i≠none→st' i≠none:=fun i h e=>h (by
  show(match st' i with|some _=>φ i|none=>none)=none
  rw[e])
 have hsub:∀ i p,φ2 i=some p→φ i=some p∧st' i≠none:=fun i p h=>by
  have h1:=hφ2n i (by rw[h];simp);exact⟨by rw[← hφ2 i h1];exact h,h1⟩
 refine⟨φ2,⟨k2.mem,?_,?_,fun i b n f e ho=>k2.low i b n f (hsub _ _ e).1 ho⟩,?_,?_,?_,hφ2,hφ2n⟩
 ·intro i blk hb';obtain⟨h1,h2,h4,h3⟩:=hst i blk hb';obtain⟨b,n,q1,q2,q3⟩:=k2.live i blk h4;exact⟨b,n,by rw[hφ2 i (by rw[hb'];simp)];exact q1,q2,q3.ACK h3 rfl fun o h=>h⟩
 ·intro i j b bx n n2 b1 b2 f h1 h2 h3 h4 o1 o2;obtain⟨q1,q2,_⟩:=hst i b1 h1;obtain⟨r1,r2,_⟩:=hst j b2 h2;exact hi.inj i j b bx n n2 b1 b2 f q2 r2 (hsub _ _ h3).1 (hsub _ _ h4).1 o1 o2
 ·refine⟨hA1.size,hA1.os,hA1.tape,hA1.output,hA1.block,hA1.mle,hA1.mnew,(fun _ _ _ h=>by cases h),?_⟩;intro i b n f h2 ho;exact hA1.pnew i b n f (hsub _ _ h2).1 ho
 ·intro k hk;have h:=hK k hk;exact⟨h.new,h.row,fun i r n e=>h.free i r n (hsub _ _ e).1,h.cel.mono hle⟩
 ·intro i r n e ho;obtain⟨h1,h2⟩:=hsub _ _ e
  cases hb2:st' i with
  | none=>exact h2 hb2
  | some blk =>
   obtain⟨q1,q2,_⟩:=hst i blk hb2;exact q1 (hi.inj i id r b' n n' blk _ b' q2 hid h1 eφ ho (dU hi eφ hid).1.1)
def mE (st':Store):AV→Prop
 | .i (.lit _)=>True
 | .own id _=>st' id≠none
 | .osl id _ _ _=>st' id≠none
 | .nils=>True
 | _=>False
theorem mE.rep {m m':Mem} {φ φ':Pl} {st':Store} {v:AV} {x:Value} (h:mE st' v) (he:∀ i,st' i≠none→φ' i=φ i) (hr:Rep m φ v x):Rep m' φ' v x:=by
 cases hr with
 | junk=>cases h
 | nils=>exact .nils
 | i hr=>cases hr with
  | lit=>exact .i (.lit _)
  | agg=>cases h
  | isl0=>cases h
  | isl=>cases h
  | iref=>cases h
 | own e=>exact .own (by rw[he _ h];exact e)
 | ownE=>cases h
 | osl e a b c d=>exact .osl (by rw[he _ h];exact e) a b c d
 | agg=>cases h
 | tup=>cases h
 | fn=>cases h
 | yld=>cases h
 | ydead=>cases h
theorem GG.pub {ok ok':Nat→Prop} {K:KL} {env:Nat→AV} {st st':Store} {a:Act} {w:World} {u id:Nat} {e:Ex} (h:GG wi mi nt ok K env st a w) (hu:env u=.own id 0) (hid:st id=some (.box (l5 e.cells)))
 (hst:∀ i blk,st' i=some blk→i≠id∧st i=some blk∧jP blk) (hok:∀ i,st' i≠none→ok' i) :
 ∃ b',(∀ env',(∀ t,env' t=.junk∨(t=u∧env' t=.i (.lit (.pointer (some ⟨b',0,none⟩))))∨(env' t=env t∧mE st' (env t)))→GG wi mi nt ok' (K++[((b',0),e)]) env' st' a w):=by
 obtain⟨⟨m,φ,hi,henv,hadv,_,hK⟩,hsz,hdf⟩:=h;have hr:=henv u;rw[hu]at hr
 have hfr:rF st (.own id 0)=some (.iref e.cells,upd st id (some (.fbox e.cells))):=by
  have h1:∀ (l:List IV) (n:Nat),LY st (n+l.length+1) (l5 l)=some (l,[]):=by
   intro l
   induction l with
   | nil=>intro n;simp[l5,LY]
   | cons c l ih=>intro n;simp only[l5,zQ];rw[show n+(l.length+1)+1=(n+l.length+1)+1 by omega];simp[LY,frz,bnd,ih n]
  have h2:LY st 18 (l5 e.cells)=some (e.cells,[]):=by
   have:=h1 e.cells 12;rw[Ex.dN]at this;exact this
  have h3:DN st 19 id 0 (some (.box (l5 e.cells)))=some (.iref e.cells,[(id, .fbox e.cells)]):=by
   show bnd (LY st 18 (l5 e.cells)) (fun p=>tst (decide (0≤p.1.length)) (some (IV.iref (dropE 0 p.1),(id,Blk.fbox p.1)::p.2)))=_;rw[h2];simp[dropE]
  have h4:frz st 20 (.own id 0)=some (.iref e.cells,[(id, .fbox e.cells)]):=by
   show DN st 19 id 0 (st id)=_;rw[hid];exact h3
  show bnd (frz st 20 (.own id 0)) (fun p=>some (p.1,iO st p.2))=_;rw[h4];rfl
 obtain⟨m1,k1,k2,k3⟩:=jM hi hr hfr
 cases hr':a.tmps.getD u undef with
 | pointer p =>
  rw[hr']at hr k1
  cases hr with
  | @own _ _ b' n' eφ =>
   obtain⟨hb,hbok⟩:=dU hi eφ hid
   have hrow:∃ (vs:List Value) (T:TypeId),w.heap[b']?=some (.cells vs.toArray T (0,0)):=by
    cases hbok with|box h1=>exact⟨_,_,h1⟩
   have hnew:wi.heap.size≤b':=by
    rcases hadv.pnew id b' n' b' eφ hb.1 with h|h
    ·exact h
    ·exact absurd (fun id b n e=>by cases e) h
   obtain⟨φ2,g1,g2,g3,g4,g5,g6⟩:=AJL (wi:=wi) (mi:=mi) (K:=K) hi k2 (hadv.trans k3) k3.mle eφ hid hK (st':=st') fun i blk hb'=>by
    obtain⟨q1,q2,q3⟩:=hst i blk hb';exact⟨q1,q2,by simp[upd,q1,q2],q3⟩
   refine⟨b',fun env' he=>⟨⟨m1,φ2,g1,fun t=>?_,g2,fun i hi'=>hok i (g6 i hi'),?_⟩,hsz,hdf⟩⟩
   ·rcases he t with h|⟨rfl,h⟩|⟨h,hs⟩
    ·rw[h];exact .junk _
    ·rw[h,hr'];exact .i (.lit _)
    ·rw[h];exact hs.rep g5 (henv t)
   ·intro k hk
    rcases zT.1 hk with hk|hk
    ·exact g3 k hk
    ·simp only[zB6]at hk;subst hk;refine⟨hnew,hrow,g4,?_⟩
     cases k1 with|iref hat=>exact hat
 | _=>rw[hr']at hr;cases hr
theorem GG.turn {ok ok':Nat→Prop} {K:KL} {env:Nat→AV} {st st':Store} {a:Act} {w:World} {u b o:Nat} {x:Ex} {t:TypeId} {r:AV} (h:GG wi mi nt ok K env st a w) (ht:iY C.P t=some 1) (hmi:nI wi mi) (hk:((b,o),x)∈K) (hu:env u=r)
 (hr:(r=.nils∧x.kids=[]∧∀ i blk,st' i=some blk→st i=some blk)∨∃ id,r=.osl id 5 0 x.kids.length∧x.kids≠[]∧st id=some (.arr 5 (Ex.aB x.kids))∧∀ i blk,st' i=some blk→i≠id∧st i=some blk)
 (hlit:ATJ st') (hok:∀ i,st' i≠none→ok' i) :
 ∃ w' b' ao cap,a.tmps.getD u undef=.slice ao x.kids.length cap∧(x.kids≠[]→ao=some ⟨b',0,none⟩)∧(Instr.storeAt t (.pointer (some ⟨b,o+4,none⟩)) (a.tmps.getD u undef)).run C.P w=.ok () w' ∧
   ∀ env',(∀ t,env' t=.junk∨(a.tmps.getD t undef=.pointer (some ⟨b,o,none⟩)∧env' t=.i (.iref [.int x.kind, .int x.col, .bool x.val.null, .int x.val.n, .lit (.slice ao x.kids.length cap)]))∨(env' t=env t∧mE st' (env t))) →
     GG wi mi nt ok' (K++jK b' 0 x.kids) env' st' a w':=by
 obtain⟨⟨m,φ,hi,henv,hadv,_,hK⟩,hsz,hdf⟩:=h;have hru:=henv u;rw[hu]at hru
 have main:∃ (b':Nat) (ao:Option Addr) (cap:Nat) (m1:Mem) (φ2:Pl),a.tmps.getD u undef=.slice ao x.kids.length cap∧(x.kids≠[]→ao=some ⟨b',0,none⟩)∧Inv w m1 φ2 st'∧Adv wi mi (fun _=>none) w m1 φ2∧(∀ k∈K++jK b' 0 x.kids,PF wi.heap.size w m1 φ2 k.1.1 k.1.2 k.2) ∧
  IRep m1 (.isl (Ex.aB x.kids)) (a.tmps.getD u undef)∧(∀ i,st' i≠none→φ2 i=φ i)∧(∀ i,φ2 i≠none→st' i≠none):=by
  rcases hr with ⟨rfl,hx,hst⟩|⟨id,rfl,hx,hid,hst⟩
  ·generalize hv:a.tmps.getD u undef=v at hru
   cases hru
   let φ2:Pl:=fun i=>match st' i with
    | some _=>φ i
    | none=>none
   have hφ2:∀ i,st' i≠none→φ2 i=φ i:=fun i h=>by
    show(match st' i with|some _=>φ i|none=>none)=φ i
    cases e:st' i with
    | none=>exact absurd e h
    | some _=>rfl
   have hφ2n:∀ i,φ2 i≠none→st' i≠none:=fun i h e=>h (by
    show(match st' i with|some _=>φ i|none=>none)=none
    rw[e])
   have hsub:∀ i p,φ2 i=some p→φ i=some p:=fun i p h=>by
    have h1:=hφ2n i (by rw[h];simp);rw[← hφ2 i h1];exact h
   refine⟨0,none,0,m,φ2,by rw[hx];rfl,fun h=>absurd hx h,⟨hi.mem,?_,?_,fun i b n f e ho=>hi.low i b n f (hsub _ _ e) ho⟩,?_,?_,?_,hφ2,hφ2n⟩
   ·intro i blk hb';obtain⟨b,n,q1,q2,q3⟩:=hi.live i blk (hst i blk hb');exact⟨b,n,by rw[hφ2 i (by rw[hb'];simp)];exact q1,q2,q3.ACK (hlit i blk hb') rfl fun o h=>h⟩
   ·intro i j b bx n n2 b1 b2 f h1 h2 h3 h4 o1 o2;exact hi.inj i j b bx n n2 b1 b2 f (hst i b1 h1) (hst j b2 h2) (hsub _ _ h3) (hsub _ _ h4) o1 o2
   ·refine⟨hadv.size,hadv.os,hadv.tape,hadv.output,hadv.block,hadv.mle,hadv.mnew,(fun _ _ _ h=>by cases h),?_⟩;intro i b n f h2 ho;exact hadv.pnew i b n f (hsub _ _ h2) ho
   ·intro k hk;rw[hx]at hk;simp only[jK,zA2]at hk;have h:=hK k hk;exact⟨h.new,h.row,fun i r n e=>h.free i r n (hsub _ _ e),h.cel⟩
   ·rw[hx];simp only[Ex.aB];exact .isl0 _ _ fun _=>rfl
  ·obtain⟨b',cap,m1,φ2,e1,g1,g2,g3,g4,g5,g6⟩:=AJF (wi:=wi) (mi:=mi) (K:=K) hx hi hru hid hadv hK (st':=st') fun i blk hb'=>⟨(hst i blk hb').1,(hst i blk hb').2,hlit i blk hb'⟩
   exact⟨b',_,cap,m1,φ2,e1,fun _=>rfl,g1,g2,g3,g4,g5,g6⟩
 obtain⟨b',ao,cap,m1,φ2,e1,e2,g1,g2,g3,g4,g5,g6⟩:=main;obtain⟨w',m',k1,k2,k3,k4,k5⟩:=ZV (C:=C) (wi:=wi) (mi:=mi) ht g1 hlit g2 hmi g3 (yD _ hk) g4;refine⟨w',b',ao,cap,e1,e2,k1,fun env' he=>⟨⟨m',φ2,k2,fun t=>?_,k3,fun i hi'=>hok i (g6 i hi'),k4⟩,hsz,hdf⟩⟩
 rcases he t with h|⟨h1,h⟩|⟨h,hs⟩
 ·rw[h];exact .junk _
 ·rw[h,h1,← e1];exact .i (.iref k5)
 ·rw[h];exact hs.rep g5 (henv t)
end
section
variable {C:Ctx} {wi:World} {mi:Mem} {nt:Nat}
theorem GG.ANT {ok:Nat→Prop} {K:KL} {env:Nat→AV} {st:Store} {a:Act} {w:World} {t:Nat} {v:Value} (h:GG wi mi nt ok K env st a w) (ht:env t=.i (.lit v)):a.tmps.getD t undef=v:=by
 obtain⟨⟨m,φ,hi,henv,_⟩,_⟩:=h;have:=henv t;rw[ht]at this;exact this.cB
theorem GG.region (hS:SoundOk C) {id:Nat} {ops:Array Oper} {os1 os2:List Oper} {o:Oper} {K:KL} {S:AS} {a:Act} {w:World} {u b' o':Nat} {x:Ex} {Q:Exit→Act→World→Prop} {PP:(Nat→AV)→Store→Prop} (hops:ops.toList=os1++(os2++[o])) (hs:∀ o∈ops,kY nt o=true)
 (g:GG wi mi nt (fun id=>id<S.st.length) K (aX S.env) (bJ S.st) a w) (hk:((b',o'),x)∈K)
 (h:∃ R1,dL C (aH C) ops.toList false S.st.length os1 0 { env:=aX S.env,st:=bJ S.st,log:=[] }=some R1∧R1.env u=.i (.lit (.pointer (some ⟨b',o',none⟩))) ∧
  ∃ R2,dL C (aH C) ops.toList false S.st.length os2 os1.length { env:=upd R1.env u (.i (.iref x.cells)),st:=R1.st,log:=R1.log }=some R2∧PP R2.env R2.st)
 (hfin:∀ env st a' w',PP env st→GG wi mi nt (fun _=>True) K env st a' w'→wpOpIn (FR none) 0 C.P ops Q (os1.length+os2.length) (fun a w=>wpOpsIn (FR none) 0 C.P ops Q [] a w) a' w'):(Code.region id ops false).wp C.P Q a w:=by
 obtain⟨R1,h1,h2,R2,h3,h4⟩:=h;refine tZ ?_;have hsz:ops.size=os1.length+(os2.length+1):=by rw[← Array.length_toList,hops];simp
 have hget:∀ j,ops[j]?=(os1++(os2++[o]))[j]?:=fun j=>by rw[← hops,xL]
 rw[List.range_eq_range',hsz,show List.range' 0 (os1.length+(os2.length+1))=List.range' 0 os1.length++(List.range' os1.length os2.length++[os1.length+os2.length])by
  rw[← List.range'_append_1,← List.range'_append_1];simp]
 have hcall:=bS hS;refine GG.ops hS.ctx hcall hs (R:={ env:=aX S.env,st:=bJ S.st,log:=[] }) (base:=S.st.length) (i:=0) (fun j hj=>?_) h1 (g.ok' fun id h=>.inl h) fun a1 w1 g1=>?_
 ·rw[hget,zI,zG hj]
 ·have g2:=g1.see (u:=u) h2 hk;rw[zI]at g2;refine GG.ops hS.ctx hcall hs (R:={ env:=upd R1.env u (.i (.iref x.cells)),st:=R1.st,log:=R1.log }) (base:=S.st.length) (fun j hj=>?_) h3 g2 fun a2 w2 g3=>?_
  ·rw[hget,zH (by omega),yC,zG hj]
  ·rw[wpOpsIn_cons];exact hfin _ _ a2 w2 h4 (g3.ok' fun _ _=>trivial)
theorem ACT {ops:Array Oper} {Q:Exit→Act→World→Prop} {K:Act→World→Prop} {i d:Nat} {t ty:TypeId} {x:Operand} {pos:String} {after:Array Edge} {v:Value} {a:Act} {w:World} (ho:ops[i]?=some ⟨some d, .load t x,ty,pos,after,none⟩)
 (hrun:(Instr.loadAt t (a.eval x)).run C.P w=.ok v w) (hK:K (a.put (some d) v) w):wpOpIn (FR none) 0 C.P ops Q i K a w:=by
 unfold wpOpIn;rw[ho];simp only[Region.wanted,if_true];refine⟨fun _ _=>trivial,?_⟩;rw[Oper.semAt_eq _ _ _ (fun c e=>by cases e)]
 have:(execOp a.eval ⟨some d, .load t x,ty,pos,after,none⟩).run C.P w=.ok (.value v) w:=by
  unfold execOp;simp[hrun]
 rw[this];simpa [Oper.uponIn]using hK
theorem GG.put {ok:Nat→Prop} {K:KL} {env:Nat→AV} {st:Store} {a:Act} {w:World} {d:Nat} {x:IV} {v:Value} (hd:d<nt) (h:GG wi mi nt ok K env st a w) (hr:IRep mi x v):GG wi mi nt ok K (upd env d (.i x)) st (a.put (some d) v) w:=by
 obtain⟨⟨m,φ,hi,henv,hadv,hok,hK⟩,hsz,hdf⟩:=h;exact⟨⟨m,φ,hi,wZ (dst:=some d) henv hsz (by simpa [ABM]using hd) (.i (hr.mono hadv.mle)),hadv,hok,hK⟩,by rw[wY];exact hsz,by rw[mR];exact hdf⟩
theorem Inv.later {w w':World} {m:Mem} {φ:Pl} {st:Store} (h:Inv w m φ st) (hsz:w.heap.size≤w'.heap.size) (hw:∀ f,f<w.heap.size→w'.heap[f]?=w.heap[f]?):Inv w' m φ st:=by
 refine⟨fun b o v e=>?_,fun id blk e=>?_,h.inj,fun id b n f e ho=>zD (h.low id b n f e ho) hsz⟩
 ·rw[cell_of_heap (hw b (h.mem.lt e))];exact h.mem b o v e
 ·obtain⟨b,n,k1,k2,k3⟩:=h.live id blk e;exact⟨b,n,k1,⟨k2.1,fun f hf=>zD (k2.2 f hf) hsz⟩,k3.mono k2.1 (fun f hf=>hw f (k2.2 f hf)) (.refl _) (.refl _) fun _ _ _=>rfl⟩
theorem GG.ANC (hS:SoundOk C) {id d u:Nat} {t ty:TypeId} {pos:String} {after:Array Edge} {p:Value} {x:IV} {ops:Array Oper} {os1 os2:List Oper} {G:List Nat} {S S':AS} {a:Act} {w:World} {Q:Exit→Act→World→Prop} (hops:ops.toList=os1++(⟨some d, .load t (.tmp u),ty,pos,after,none⟩::os2)) (hs:∀ o∈ops,kY nt o=true)
 (g:GG wi mi nt (fun id=>id<S.st.length) [] (aX S.env) (bJ S.st) a w) (hd:d<nt)
 (hrun:∀ w',wi.heap.size≤w'.heap.size→(∀ f,f<wi.heap.size→w'.heap[f]?=wi.heap[f]?)→∃ y,(Instr.loadAt t p).run C.P w'=.ok y w'∧IRep mi x y)
 (h:∃ R1,dL C (aH C) ops.toList false S.st.length os1 0 { env:=aX S.env,st:=bJ S.st,log:=[] }=some R1∧R1.env u=.i (.lit p) ∧
  ∃ R2,dL C (aH C) ops.toList false S.st.length os2 (os1.length+1) { env:=upd R1.env d (.i x),st:=R1.st,log:=R1.log }=some R2∧Av.settle G 0 R2.env R2.st=S')
 (hfin:∀ a' w',GG wi mi nt (fun id=>id<S'.st.length) [] (aX S'.env) (bJ S'.st) a' w'→Q .normal a' w'):(Code.region id ops false).wp C.P Q a w:=by
 obtain⟨R1,h1,h2,R2,h3,rfl⟩:=h;refine tZ ?_;have hsz:ops.size=os1.length+(1+os2.length):=by rw[← Array.length_toList,hops];simp;omega
 have hget:∀ j,ops[j]?=(os1++(⟨some d, .load t (.tmp u),ty,pos,after,none⟩::os2))[j]?:=fun j=>by rw[← hops,xL]
 rw[List.range_eq_range',hsz,show List.range' 0 (os1.length+(1+os2.length))=List.range' 0 os1.length++(os1.length::(List.range' (os1.length+1) os2.length++[]))by
  rw[← List.range'_append_1,← List.range'_append_1];simp]
 have hcall:=bS hS;refine GG.ops hS.ctx hcall hs (R:={ env:=aX S.env,st:=bJ S.st,log:=[] }) (base:=S.st.length) (i:=0) (fun j hj=>?_) h1 (g.ok' fun id h=>.inl h) fun a1 w1 g1=>?_
 ·rw[hget,zI,zG hj]
 ·have hv:=g1.ANT h2
  obtain⟨y,hrun,hy⟩:=hrun w1 (by
   obtain⟨⟨m,φ,k1,k2,k3,_⟩,_⟩:=g1
   exact k3.size) (by
   obtain⟨⟨m,φ,k1,k2,k3,_⟩,_⟩:=g1
   exact fun f hf=>k3.block f hf fun id b n e=>by cases e)
  rw[wpOpsIn_cons]
  refine ACT (v:=y) (d:=d) (t:=t) (x:=.tmp u) (ty:=ty) (pos:=pos) (after:=after) (by rw[hget,zH (zM _)];simp) (by
   show(Instr.loadAt t (a1.tmps.getD u undef)).run C.P w1=_
   rw[hv];exact hrun) ?_
  have g2:=g1.put hd hy;refine GG.ops hS.ctx hcall hs (R:={ env:=upd R1.env d (.i x),st:=R1.st,log:=R1.log }) (base:=S.st.length) (fun j hj=>?_) h3 (g2.ok' fun id h=>oV (fun j hj=>by omega) h) fun a2 w2 g3=>?_
  ·rw[hget,zH (by omega),show os1.length+1+j-os1.length=j+1 by omega];simp[zG hj]
  ·exact hfin a2 w2 ((g3.ok' (ok':=fun _=>True) fun _ _=>trivial).settle G)
end
end Go.Av
namespace Go.Av
open Go Go.RowKit
def iV (w:World):Mem:=fun b o=>w.cell? ⟨b,o,none⟩
theorem inv0 (w:World):Inv w (iV w) (fun _=>none) (bJ []) :=
 ⟨fun _ _ _ h=>h,fun id blk h=>(by simp[bJ]at h),fun id id' b b' n n' blk blk' f h=>(by simp[bJ]at h),fun _ _ _ _ e=>by cases e⟩
theorem AGV {w w':World} {m m':Mem} {φ':Pl} (h:Adv w m (fun _=>none) w' m' φ'):Below w.heap.size w w' :=
 ⟨h.os,h.tape.tape,h.output,h.size,fun k hk=>h.block k hk fun id b n e=>by cases e⟩
theorem ABV {C:Ctx} (hS:SoundOk C) {f:FuncId} {args:List AV} {vs:Array Value} {w:World} (hr:RepL (iV w) (fun _=>none) args vs.toList) (h:aH C f args []=some (.bool true,[])) (hy:f≠rH:=by decide) :
 Calls C.P f vs w fun e w'=>e=.returned (.bool true)∧Below w.heap.size w w':=by
 have:=(bS hS).calls f args [] _ _ hy h w (iV w) (fun _=>none) vs.toList (inv0 w) hr (fun id h=>absurd rfl h);refine(show Calls C.P f vs w _ from this).mono ?_;rintro e w' ⟨v,m',φ',rfl,h1,h2,h3,h4⟩
 cases h1 with
 | i h1=>cases h1 with
  | lit=>exact⟨rfl,AGV h3⟩
theorem J9 {w:World} {b:Nat}:∀ (ns:List Int) (off:Nat),(∀ i,i<ns.length→w.cell? ⟨b,off+i,none⟩=some (.int .u8 (ns.getD i 0)))→(∀ n∈ns,(Lit.int .u8 n).wf=true) →
 IElems (iV w) b off 1 (dY (ns.map fun n=>UInt8.ofNat n.toNat))
 | [],off,_,_=>.nil _ _ _
 | n::ns,off,h1,h2=>by
  have hw:=h2 n (by simp);simp only[Lit.wf,zU,zP]at hw;have e1:IntKind.u8.min=0:=rfl;have e2:IntKind.u8.max=255:=by decide
  rw[e1,e2]at hw
  have e:(((UInt8.ofNat n.toNat).toNat:Nat):Int)=n:=by
   rw[UInt8.toNat_ofNat'];omega
  have c0:=h1 0 (by simp);simp at c0;simp only[yE,dY,e];refine .cons (.cons c0 (.lit _) rfl (.nil _ _)) rfl (J9 ns (off+1) (fun i hi=>?_) fun x hx=>h2 x (by simp[hx]));have:=h1 (i+1) (by simpa using hi);rw[show off+1+i=off+(i+1)by omega,this];simp
theorem AGB {w:World} {a:Option Addr} {len cap:Nat} {zs:List Int}
 (h:(a=none∧len=0∧cap=0∧zs=[])∨∃ x,a=some x∧len≤cap∧cap≤maxLen∧zs.length=cap∧(∀ i,i<zs.length→w.cell? (x.add i)=some (.int .u8 (zs.getD i 0)))∧∀ n∈zs,(Lit.int .u8 n).wf=true) :
 ∃ code:List UInt8,IRep (iV w) (.isl (dY code)) (.slice a len cap):=by
 rcases h with ⟨rfl,rfl,rfl,rfl⟩|⟨x,rfl,h1,h2,h3,h4,h5⟩
 ·exact⟨[], .isl0 _ _ fun _=>rfl⟩
 ·by_cases hl:len=0
  ·subst hl;exact⟨[], .isl0 _ _ (by simp)⟩
  ·refine⟨(zs.take len).map fun n=>UInt8.ofNat n.toNat,?_⟩;obtain⟨b,off,spot⟩:=x
   have hs:spot=none:=by
    have:=h4 0 (by omega);simp only[Addr.add,if_true,World.cell?]at this
    cases spot with
    | none=>rfl
    | some s=>split at this<;>simp at this
   subst hs;have hlen:((zs.take len).map fun n=>UInt8.ofNat n.toNat).length=len:=by simp;omega
   have key:=J9 (w:=w) (b:=b) (zs.take len) off (fun i hi=>by
    have hi':i<len:=by simp at hi;omega
    have:=h4 i (by omega);rw[show(⟨b,off+i,none⟩:Addr)=(⟨b,off,none⟩:Addr).add i by unfold Addr.add;split<;>simp_all,this]
    simp[List.getD,zK,hi']) (fun n hn=>h5 n (zL hn))
   have hbl:(dY ((zs.take len).map fun n=>UInt8.ofNat n.toNat)).length=len:=by rw[uI,hlen]
   have:=IRep.isl (m:=iV w) (b:=b) (off:=off) (k:=1) (cap:=cap) (es:=dY ((zs.take len).map fun n=>UInt8.ofNat n.toNat)) (fun e=>by rw[e]at hbl;simp at hbl;omega) key (by omega)
   rwa [hbl]at this
end Go.Av
namespace Go.Av
def mfC:AV→Bool
 | .i v=>rP v
 | .nils=>true
 | .osl _ _ _ _=>true
 | _=>false
theorem SA {w:World} {m:Mem} (h:nI w m):MLe m (iV w):=fun b o v e=>h b o v e
theorem AEW {m m':Mem} {φ:Pl} {c:AV} {x:Value} (h:mfC c=true) (hr:Rep m φ c x):Rep m' φ c x:=by
 cases hr with
 | i hr =>
  simp only[mfC]at h
  cases hr with
  | lit=>exact .i (.lit _)
  | isl0 ao cap hc=>exact .i (.isl0 ao cap hc)
  | isl hn=>rename_i es _ _ _;cases es with|nil=>exact absurd rfl hn|cons e es=>simp[rP]at h
  | agg=>simp[rP]at h
  | iref=>simp[rP]at h
 | nils=>exact .nils
 | osl a b c d e=>exact .osl a b c d e
 | _=>simp[mfC]at h
def AVT (call:dZ) (g:FuncId):List AV→StL→Option (AV×StL)
 | a::r,st=>bnd (iP (bJ st) a) fun q=>bnd (fQ call true g (q.1::r) q.2 st.length) fun p=>VN [p.1] p.2 (iX p.2 st.length [p.1])
 | [],_=>none
theorem LZ {C:Ctx} {call:dZ} (hcall:CallOk C call) {g:FuncId} {args:List AV} {stl stl':StL} {r:AV} (h:AVT call g args stl=some (r,stl')) (hy:g≠rH:=by decide) :
 (∃ fn,C.P.funcs[g]?=some fn∧fn.name≠ "runtime.NumGoroutine"∧fn.body.isSome=true)∧∀ (w:World) (m:Mem) (φ:Pl) (vs:List Value),Inv w m φ (bJ stl)→RepL m φ args vs→(∀ id,φ id≠none→id<stl.length) →
  Calls C.P g vs.toArray w (cZ w m φ r stl'):=by
 cases args with
 | nil=>cases h
 | cons a args =>
  unfold AVT at h;obtain⟨q,h1,h2⟩:=aI.1 h;obtain⟨p,h3,h4⟩:=aI.1 h2;unfold VN at h4;injection h4 with h4;injection h4 with h4 h5;subst h4;subst h5
  have hname:∃ fn,C.P.funcs[g]?=some fn∧fn.name≠ "runtime.NumGoroutine"∧fn.body.isSome=true:=by
   unfold fQ at h3;obtain⟨p1,_,h5⟩:=aI.1 h3;unfold kF at h5;obtain⟨_,h6⟩:=aR.1 h5;obtain⟨p2,h7,_⟩:=aI.1 h6;exact hcall.name _ _ _ _ hy h7
  refine⟨hname,fun w m φ vs hi hr h0=>?_⟩
  cases hr with
  | cons ra rr =>
   obtain⟨m1,k1,k2,k3⟩:=tT hi ra (show iP _ a=some (q.1,q.2)from h1)
   have hf:∀ id,stl.length≤id→id<stl.length+wide→φ id=none:=fun id l1 _=>by
    cases e:φ id with
    | none=>rfl
    | some b=>have:=h0 id (by rw[e];simp);omega
   obtain⟨_,hc⟩:=tL hcall hy k2 hf (.cons k1 (rr.mono k3.mle (.refl _))) (show fQ call true g _ q.2 _=some (p.1,p.2)from h3);refine hc.mono ?_;rintro e w' ⟨y,rfl,m',φ',j1,j2,j3,_⟩;generalize hids:iX p.2 stl.length [p.1]=ids;have hd:ids.Nodup:=by rw[← hids];exact iI _ _ _
   refine⟨y,m',fK ids φ',rfl,j1.ren (mX ids φ'),j2.keep hd,(k3.trans j3).keep h0 (fun j hj=>by rw[← hids];exact uD _ _ _ hj),?_⟩;intro id hne;rw[iF];unfold fK at hne
   cases hx:ids[id]? with
   | none=>rw[hx]at hne;exact absurd rfl hne
   | some i=>exact(zZ.1 hx).1
def AJE (call:dZ) (g:FuncId):List AV→StL→Option (AV×StL)
 | args,[]=>bnd (call g args []) fun p=>bnd (rF (bJ p.2) p.1) fun q=>some (.i q.1,[])
 | _,_=>none
theorem LW {C:Ctx} {call:dZ} (hcall:CallOk C call) {g:FuncId} {args:List AV} {stl stl':StL} {r:AV} (h:AJE call g args stl=some (r,stl')) (hy:g≠rH:=by decide) :
 (∃ fn,C.P.funcs[g]?=some fn∧fn.name≠ "runtime.NumGoroutine"∧fn.body.isSome=true)∧∀ (w:World) (m:Mem) (φ:Pl) (vs:List Value),Inv w m φ (bJ stl)→RepL m φ args vs→(∀ id,φ id≠none→id<stl.length) →
  Calls C.P g vs.toArray w (cZ w m φ r stl'):=by
 unfold AJE at h;split at h
 ·obtain⟨p,h1,h2⟩:=aI.1 h;obtain⟨q,h3,h4⟩:=aI.1 h2;injection h4 with h4;injection h4 with h4 h5;subst h4;subst h5;refine⟨hcall.name _ _ _ _ hy h1,fun w m φ vs hi hr h0=>?_⟩;refine(hcall.calls _ _ _ p.1 p.2 hy h1 w m φ vs hi hr h0).mono ?_;rintro e w' ⟨v,m',φ',rfl,j1,j2,j3,j4⟩;obtain⟨m1,k1,k2,k3⟩:=jM j2 j1 (show rF _ p.1=some (q.1,q.2)from h3)
  have hn:∀ id,φ id=none:=fun id=>by
   cases e:φ id with
   | none=>rfl
   | some b=>exact absurd (h0 id (by rw[e];simp)) (xK _)
  have ha:=j3.trans k3;refine⟨v,m1,fun _=>none,rfl, .i k1,⟨k2.mem,fun id blk e=>(by simp[bJ]at e),fun i j b b' n n' b1 b2 f e=>(by simp[bJ]at e),fun _ _ _ _ e=>(by cases e)⟩,⟨ha.size,ha.os,ha.tape,ha.output,ha.block,ha.mle,ha.mnew,fun id b n e=>(by rw[hn id]at e;cases e),fun _ _ _ _ e=>(by cases e)⟩,fun id e=>absurd rfl e⟩
 ·cases h
def ZM (st:Store):AV→Option IV
 | .i v=>some v
 | .osl id k off len=>match st id with
  | some (.arr k' es)=>tst (decide (k'=k∧off=0∧len≤es.length∧0<len)) (some (.isl (es.take len)))
  | _=>none
 | _=>none
def KD (st:Store):List AV→Option (List AV)
 | []=>some []
 | c::r=>bnd (ZM st c) fun v=>bnd (KD st r) fun l=>some (.i v::l)
theorem F7 {w:World} {m:Mem} {φ:Pl} {st:Store} {c:AV} {x:Value} {iv:IV} (hi:Inv w m φ st) (hr:Rep m φ c x) (h:ZM st c=some iv):IRep (iV w) iv x:=by
 unfold ZM at h;split at h
 ·injection h with h;subst h
  cases hr with
  | i hr=>exact hr.mono (SA hi.mem)
 ·rename_i id k off len;split at h
  ·rename_i k' es hst;obtain⟨h1,h2⟩:=aR.1 h;injection h2 with h2;subst h2;obtain⟨rfl,rfl,h3,h4⟩:=zR h1
   cases hr with
   | osl e1 e2 e3 e4 e5 =>
    rename_i cap b n ao;obtain⟨_,hk⟩:=dU hi e1 hst
    cases hk with
    | arr k1 k2 k3 k4 k5 k6 k7 k8 k9 =>
     rename_i T vs
     have hel:IElems (iV w) b 0 k' es:=by
      refine oD 0 k4 (k5.mono (SA hi.mem)) fun j v hj=>?_
      show w.cell? ⟨b,0+j,none⟩=some v;rw[zI,bO k1];rw[zK]at hj;split at hj
      ·exact hj
      ·cases hj
     have hao:=e4 (by omega);subst hao;have hlen:(es.take len).length=len:=by rw[yL];omega
     have hne:es.take len≠[]:=fun e=>by rw[e]at hlen;simp at hlen;omega
     have:=IRep.isl hne (uF len hel) (show(es.take len).length≤cap by omega);rw[hlen]at this;simpa using this
  ·cases h
 ·cases h
theorem CG {w:World} {m:Mem} {φ:Pl} {st:Store} (hi:Inv w m φ st):∀ {cs us:List AV} {xs:List Value},RepL m φ cs xs→KD st cs=some us→RepL (iV w) (fun _=>none) us xs
 | [],us,_, .nil,h=>by simp[KD]at h;subst h;exact .nil
 | c::cs,us,_, .cons a b,h=>by
  simp only[KD]at h;obtain⟨v,h1,h2⟩:=aI.1 h;obtain⟨l',h3,h4⟩:=aI.1 h2;injection h4 with h4;subst h4;exact .cons (.i (F7 hi a h1)) (CG hi b h3)
def SF (call:dZ) (g:FuncId) (args:List AV) (st:StL):Option (AV×StL) :=
 bnd (KD (bJ st) args) fun us=>match call g us []with
  | some (.i v,[])=>tst (rP v) (some (.i v,st))
  | _=>none
theorem LA {C:Ctx} {call:dZ} (hcall:CallOk C call) {g:FuncId} {args:List AV} {stl stl':StL} {r:AV} (h:SF call g args stl=some (r,stl')) (hy:g≠rH:=by decide) :
 (∃ fn,C.P.funcs[g]?=some fn∧fn.name≠ "runtime.NumGoroutine"∧fn.body.isSome=true)∧∀ (w:World) (m:Mem) (φ:Pl) (vs:List Value),Inv w m φ (bJ stl)→RepL m φ args vs→(∀ id,φ id≠none→id<stl.length) →
  Calls C.P g vs.toArray w (cZ w m φ r stl'):=by
 unfold SF at h;obtain⟨us,h1,h2⟩:=aI.1 h;split at h2
 ·rename_i iv h3;obtain⟨h5,h6⟩:=aR.1 h2;injection h6 with h6;injection h6 with h6 h7;subst h6;subst h7;refine⟨hcall.name _ _ _ _ hy h3,fun w m φ vs hi hr h0=>?_⟩;refine(hcall.calls g us [] _ _ hy h3 w (iV w) (fun _=>none) vs (inv0 w) (CG hi hr h1) (fun id h=>absurd rfl h)).mono ?_;rintro e w' ⟨v,m',φ',rfl,j1,j2,j3,j4⟩;have hsame:∀ f,f<w.heap.size→w'.heap[f]?=w.heap[f]?:=fun f hf=>j3.block f hf fun id b n e=>by cases e
  exact⟨v,m,φ,rfl,AEW (show mfC (.i iv)=true from h5) (by cases j1 with|i j=>exact .i j),hi.later j3.size hsame,⟨j3.size,j3.os,j3.tape,j3.output,fun b hb' _=>hsame b hb', .refl _,fun _ _ _ _=>rfl, .refl _,fun _ _ _ _ e ho=>.inr (l9.not e ho)⟩,h0⟩
 ·cases h2
def ACW (st:Store):AV→Option IV
 | .nils=>some (.isl [])
 | v=>ZM st v
def F8 (st:Store):List AV→Option (List IV)
 | []=>some []
 | c::r=>bnd (ACW st c) fun v=>bnd (F8 st r) fun l=>some (v::l)
def ACV (st:Store):AV→Option IV
 | .agg cs=>bnd (F8 st cs) fun l=>some (.agg l)
 | v=>ACW st v
def KC (st:Store):List AV→Option (List AV)
 | []=>some []
 | c::r=>bnd (ACV st c) fun v=>bnd (KC st r) fun l=>some (.i v::l)
theorem F9 {w:World} {m:Mem} {φ:Pl} {st:Store} {c:AV} {x:Value} {iv:IV} (hi:Inv w m φ st) (hr:Rep m φ c x) (h:ACW st c=some iv):IRep (iV w) iv x:=by
 unfold ACW at h;split at h
 ·injection h with h;subst h
  cases hr with
  | nils=>exact .isl0 _ _ fun _=>rfl
 ·exact F7 hi hr h
theorem rQ {w:World} {m:Mem} {φ:Pl} {st:Store} (hi:Inv w m φ st):∀ {cs:List AV} {xs:List Value} {l:List IV},RepC m φ cs xs→F8 st cs=some l→ICells (iV w) l xs
 | [],_,l, .nil,h=>by simp[F8]at h;subst h;exact .nil
 | c::cs,_,l, .cons a o b,h=>by
  simp only[F8]at h;obtain⟨v,h1,h2⟩:=aI.1 h;obtain⟨l',h3,h4⟩:=aI.1 h2;injection h4 with h4;subst h4;exact .cons (F9 hi a h1) o (rQ hi b h3)
theorem F6 {w:World} {m:Mem} {φ:Pl} {st:Store} {c:AV} {x:Value} {iv:IV} (hi:Inv w m φ st) (hr:Rep m φ c x) (h:ACV st c=some iv):IRep (iV w) iv x:=by
 unfold ACV at h;split at h
 ·obtain⟨l,h1,h2⟩:=aI.1 h;injection h2 with h2;subst h2
  cases hr with
  | agg hc=>exact .agg (rQ hi hc h1)
 ·exact F9 hi hr h
theorem CF {w:World} {m:Mem} {φ:Pl} {st:Store} (hi:Inv w m φ st):∀ {cs us:List AV} {xs:List Value},RepL m φ cs xs→KC st cs=some us→RepL (iV w) (fun _=>none) us xs
 | [],us,_, .nil,h=>by simp[KC]at h;subst h;exact .nil
 | c::cs,us,_, .cons a b,h=>by
  simp only[KC]at h;obtain⟨v,h1,h2⟩:=aI.1 h;obtain⟨l',h3,h4⟩:=aI.1 h2;injection h4 with h4;subst h4;exact .cons (.i (F6 hi a h1)) (CF hi b h3)
def AB3 (call:dZ) (g:FuncId) (args:List AV) (st:StL):Option (AV×StL) :=
 bnd (KC (bJ st) args) fun us=>match call g us []with
  | some (.i v,[])=>tst (rP v) (some (.i v,st))
  | _=>none
theorem GV {C:Ctx} {call:dZ} (hcall:CallOk C call) {g:FuncId} {args:List AV} {stl stl':StL} {r:AV} (h:AB3 call g args stl=some (r,stl')) (hy:g≠rH:=by decide) :
 (∃ fn,C.P.funcs[g]?=some fn∧fn.name≠ "runtime.NumGoroutine"∧fn.body.isSome=true)∧∀ (w:World) (m:Mem) (φ:Pl) (vs:List Value),Inv w m φ (bJ stl)→RepL m φ args vs→(∀ id,φ id≠none→id<stl.length) →
  Calls C.P g vs.toArray w (cZ w m φ r stl'):=by
 unfold AB3 at h;obtain⟨us,h1,h2⟩:=aI.1 h;split at h2
 ·rename_i iv h3;obtain⟨h5,h6⟩:=aR.1 h2;injection h6 with h6;injection h6 with h6 h7;subst h6;subst h7;refine⟨hcall.name _ _ _ _ hy h3,fun w m φ vs hi hr h0=>?_⟩;refine(hcall.calls g us [] _ _ hy h3 w (iV w) (fun _=>none) vs (inv0 w) (CF hi hr h1) (fun id h=>absurd rfl h)).mono ?_;rintro e w' ⟨v,m',φ',rfl,j1,j2,j3,j4⟩;have hsame:∀ f,f<w.heap.size→w'.heap[f]?=w.heap[f]?:=fun f hf=>j3.block f hf fun id b n e=>by cases e
  exact⟨v,m,φ,rfl,AEW (show mfC (.i iv)=true from h5) (by cases j1 with|i j=>exact .i j),hi.later j3.size hsame,⟨j3.size,j3.os,j3.tape,j3.output,fun b hb' _=>hsame b hb', .refl _,fun _ _ _ _=>rfl, .refl _,fun _ _ _ _ e ho=>.inr (l9.not e ho)⟩,h0⟩
 ·cases h2
def jk:Nat→IV→AV
 | 0,_=>.junk
 | _+1,v=>.i v
@[simp] theorem AlB (v:IV):jk 0 v=.junk:=(rfl)
@[simp] theorem AlA (i:Nat) (v:IV):jk (i+1) v=.i v:=(rfl)
@[simp] theorem AUG (i:Nat) (v:IV):dR (jk i v)=[]:=by cases i<;>rfl
@[simp] theorem AX5 (r:Nat→Option Nat) (i:Nat) (v:IV):ren r (jk i v)=jk i v:=by cases i<;>rfl
section
variable {C:Ctx} {G:List Nat} {na:Nat} {b:Code}
theorem AF1 {S S1:AS} {r:AExit×AS} (h1:dI C G na b S=some (.normal,S1)) (h2:dI C G na (.loop b) S1=some r):dI C G na (.loop b) S=some r:=by
 rw[aF,h1];exact h2
theorem AF2 {S:AS} {e:AExit} {T:AS} (h1:dI C G na b S=some (e,T)) (he:e≠.normal):dI C G na (.loop b) S=some (e,T):=by
 rw[aF,h1]
 cases e<;>first|rfl|exact absurd rfl he
end
section
variable {C:Ctx} {G:List Nat} {na:Nat} {b:Code}
theorem aQ (X:Nat→AS) (n:Nat) {S0:AS} (h0:S0=X 0) (hs:∀ i,i<n→dI C G na b (X i)=some (.normal,X (i+1))):dI C G na (.loop b) S0=dI C G na (.loop b) (X n):=by
 subst h0
 have key:∀ k i,i+k=n→dI C G na (.loop b) (X i)=dI C G na (.loop b) (X n):=by
  intro k
  induction k with
  | zero=>intro i hi;have:i=n:=by omega
          subst this;rfl
  | succ k ih=>intro i hi;rw[aF,hs i (by omega)];exact ih (i+1) (by omega)
 exact key n 0 (by omega)
end
@[simp] theorem ABB (st:Store):∀ l:List IV,nG st (l5 l)=some (l,st)
  | []=>rfl
  | v::l=>by simp[l5,nG,rF,ABB st l]
@[simp] theorem APM {α:Type} (es:List α) (off len:Nat):window es off len=(es.drop off).take len:=(rfl)
@[simp] theorem AWZ (n:Nat):Region.binds .any ⟨n, .data⟩=true:=(rfl)
@[simp] theorem AX0 (n:Nat):Region.binds .any ⟨n, .chain⟩=true:=(rfl)
@[simp] theorem AWY (n:Nat):Region.binds .any ⟨n, .guard⟩=true:=(rfl)
@[simp] theorem AWX (n:Nat):Region.binds .any ⟨n, .phase⟩=true:=(rfl)
def gro (id k:Nat):Nat→AV
 | 0=>.nils
 | i+1=>.osl id k 0 (i+1)
def TG (k:Nat) (es:List (List IV)):Nat→StL
 | 0=>[]
 | _+1=>[some (.arr k es)]
@[simp] theorem Af1 (id k:Nat):gro id k 0=.nils:=(rfl)
@[simp] theorem Af0 (id k i:Nat):gro id k (i+1)=.osl id k 0 (i+1):=(rfl)
@[simp] theorem AXA (k:Nat) (es:List (List IV)):TG k es 0=[]:=(rfl)
@[simp] theorem AX9 (k:Nat) (es:List (List IV)) (i:Nat):TG k es (i+1)=[some (.arr k es)]:=(rfl)
theorem aM {i:Nat} (h:i≠0) (id k:Nat):gro id k i=.osl id k 0 i:=by cases i with|zero=>exact absurd rfl h|succ i=>rfl
theorem aJ {i:Nat} (h:i≠0) (k:Nat) (es:List (List IV)):TG k es i=[some (.arr k es)]:=by cases i with|zero=>exact absurd rfl h|succ i=>rfl
theorem bH {i:Nat} (h:i≠0) (v:IV):jk i v=.i v:=by cases i with|zero=>exact absurd rfl h|succ i=>rfl
@[simp] theorem VZ:∀ l:List IV,(l5 l).length=l.length
  | []=>rfl
  | _::l=>by simp[l5,VZ l]
theorem u7:∀ {cs xs:List IV},cs.length=xs.length→splice cs 0 xs=some xs
 | [],[],_=>rfl
 | c::cs,x::xs,h=>by simp[splice,u7 (cs:=cs) (xs:=xs) (by simpa using h)]
 | [],_::_,h=>by simp at h
 | _::_,[],h=>by simp at h
theorem GK {α:Type}:∀ (D:List α) (z:α) (r:List α),gF (D++z::r) D.length=some z
 | [],z,r=>rfl
 | a::D,z,r=>by simp only[yG,zQ,gF];exact GK D z r
theorem EO {α:Type} {D:List α} {n i:Nat} {z:α} (hD:D.length=i) (h:i<n):gF (D++List.replicate (n-i) z) i=some z:=by
 subst hD
 obtain⟨k,hk⟩:∃ k,n-D.length=k+1:=⟨n-D.length-1,by omega⟩
 rw[hk,y7];exact GK D z _
theorem EN {α:Type} {D:List α} {n i:Nat} {z x:α} (hD:D.length=i) (h:i<n):(D++List.replicate (n-i) z).set i x=(D++[x])++List.replicate (n-(i+1)) z:=by
 subst hD
 obtain⟨k,hk⟩:∃ k,n-D.length=k+1:=⟨n-D.length-1,by omega⟩
 rw[hk,y7,List.set_append_right _ _ (zM _),Nat.sub_self,List.set_cons_zero,show n-(D.length+1)=k by omega];simp
theorem E5 {α:Type} (p:α→Bool):∀ (l:List α),l.all p=true∨∃ (j:Nat) (a:α),l[j]?=some a∧p a=false∧(∀ (i:Nat) (b:α),i<j→l[i]?=some b→p b=true)∧l.all p=false
 | []=>.inl rfl
 | a::l=>by
  cases h:p a with
  | false=>exact .inr ⟨0,a,rfl,h,fun i b hi=>by omega,by simp[h]⟩
  | true =>
   rcases E5 p l with h1|⟨j,x,h1,h2,h3,h4⟩
   ·exact .inl (by simp[h,h1])
   ·refine .inr ⟨j+1,x,by simpa using h1,h2,?_,by simp[h,h4]⟩;intro i b hi hb
    cases i with
    | zero=>simp at hb;subst hb;exact h
    | succ i=>exact h3 i b (by omega) (by simpa using hb)
theorem gB {α:Type} (p:α→Bool) (l:List α):∃ j:Nat,(∀ i,i<j→∃ k,l[i]?=some k∧k∈l∧p k=true)∧((j=l.length∧l.all p=true)∨∃ k,l[j]?=some k∧k∈l∧p k=false∧l.all p=false):=by
 rcases E5 p l with h|⟨j,a,h1,h2,h3,h4⟩
 ·refine⟨l.length,?_, .inl ⟨rfl,h⟩⟩;intro i hi;have e:=zX hi;exact⟨_,e,zV e,zS.1 h _ (zV e)⟩
 ·refine⟨j,?_, .inr ⟨a,h1,zV h1,h2,h4⟩⟩;intro i hi;have hl:i<l.length:=by have:=(zZ.1 h1).1;omega
  have e:=zX hl;exact⟨_,e,zV e,h3 i _ hi e⟩
noncomputable def rO (C:Ctx) (keep:Bool) (g:FuncId) (args:List AV) (st:StL):Option (AV×StL) :=
 match C.P.funcs[g]? with
 | none=>none
 | some fn =>
  match fn.body with
  | none=>none
  | some c=>ABL C keep fn.results.toList st.length (dI C (C.G g) st.length c (enter (C.G g) args st))
theorem dP {C:Ctx} {keep:Bool} {f:FuncId} {fn:Func} {c:Code} {rs:List ResultVar} (hf:C.P.funcs[f]?=some fn) (hb:fn.body=some c) (hr:fn.results.toList=rs) (args:List AV) (st:StL) :
 rO C keep f args st=ABL C keep rs st.length (dI C (C.G f) st.length c (enter (C.G f) args st)):=by
 subst hr;unfold rO;rw[hf];simp only[hb]
theorem kQ {C:Ctx} (hS:SoundOk C) {keep:Bool} {g:FuncId} {args:List AV} {stl stl':StL} {r:AV} (h:rO C keep g args stl=some (r,stl')) :
 (∃ fn,C.P.funcs[g]?=some fn∧fn.name≠ "runtime.NumGoroutine"∧fn.body.isSome=true)∧∀ (w:World) (m:Mem) (φ:Pl) (vs:List Value),Inv w m φ (bJ stl)→RepL m φ args vs→(∀ id,φ id≠none→id<stl.length) →
  Calls C.P g vs.toArray w (cZ w m φ r stl'):=by
 unfold rO at h;split at h
 ·cases h
 rename_i fn hf;split at h
 ·cases h
 rename_i c hb;have hst:=(hS.fns g fn c hf hb).2;refine⟨⟨fn,hf,(hS.fns g fn c hf hb).1,by rw[hb];rfl⟩,fun w m φ vs hi hargs hid=>?_⟩;have ih:=bS hS
 have hrel:MP [] w m φ fn.ntmps stl.length (enter (C.G g) args stl) { tmps:=vs.toArray++Array.replicate (fn.ntmps-vs.toArray.size) undef,defers:=[] } w:=by
  refine⟨⟨⟨m,φ,hi,?_, .refl _ _ _,hid, .nil _ _ _⟩,by simp;omega,rfl⟩,zM _⟩;intro t;unfold enter;simp only;generalize C.G g=G
  induction G with
  | nil=>exact .junk _
  | cons u G ihG =>
   simp only[IY,aX];by_cases e:t=u
   ·subst e;simp only[if_true];exact nA _ hargs t
   ·simp only[e,if_false];exact ihG
 refine callsIn_wide.1 (callsIn_of_wp_marks (n:=0) hf hb trivial ?_)
 have done:∀ S e,dI C (C.G g) stl.length c (enter (C.G g) args stl)=some (e,S)→finish C keep fn.results.toList stl.length S=some (r,stl')→(e=.normal∨e=.ret) →
  c.wpIn Fence.wide 0 C.P (bodyPostM Fence.wide 0 C.P fn (cZ w m φ r stl')) { tmps:=vs.toArray++Array.replicate (fn.ntmps-vs.toArray.size) undef,defers:=[] } w:=by
  intro S e hS' hfin he;obtain⟨n,hS'⟩:=(dG _).1 hS';refine wpIn_mono (cO (ρ:=none) hS.ctx ih (hS.draw _ ih) hid n c _ S e [] _ w hst (.inl rfl) hS' hrel) ?_;rintro e' a' w' ⟨rfl,ds,k,_⟩
  have hl:LeavesInM Fence.wide 0 C.P fn a'.tmps (cZ w m φ r stl') a'.defers .returning w':=by
   rw[k.1.defers];refine qG k fun a2 w2 _ k2=>?_
   obtain⟨v,k3,k4⟩:=gY (C:=C) hid k2 hfin;exact⟨v,k3,k4⟩
  rcases he with rfl|rfl
  ·exact hl
  ·exact hl
 unfold ABL at h;split at h
 ·rename_i S hS';exact done S .normal hS' h (.inl rfl)
 ·rename_i S hS';exact done S .ret hS' h (.inr rfl)
 ·cases h
 ·cases h
inductive Pn where
 | mk (kind table:Int) (exprs:List Ex) (cols:List Int) (kids:List Pn)
def Pn.kind:Pn→Int | .mk k _ _ _ _=>k
def Pn.table:Pn→Int | .mk _ t _ _ _=>t
def Pn.exprs:Pn→List Ex | .mk _ _ es _ _=>es
def Pn.cols:Pn→List Int | .mk _ _ _ cs _=>cs
def Pn.kids:Pn→List Pn | .mk _ _ _ _ ks=>ks
@[simp] theorem Pn.fJ (k t es cs ks):(Pn.mk k t es cs ks).kind=k:=rfl
@[simp] theorem Pn.kS (k t es cs ks):(Pn.mk k t es cs ks).table=t:=rfl
@[simp] theorem Pn.dF (k t es cs ks):(Pn.mk k t es cs ks).exprs=es:=rfl
@[simp] theorem Pn.fV (k t es cs ks):(Pn.mk k t es cs ks).cols=cs:=rfl
@[simp] theorem Pn.iW (k t es cs ks):(Pn.mk k t es cs ks).kids=ks:=rfl
theorem Pn.eta (p:Pn):Pn.mk p.kind p.table p.exprs p.cols p.kids=p:=by cases p;rfl
def aG:List Int→List (List IV)
 | []=>[]
 | x::l=>[.int x]::aG l
@[simp] theorem TD:∀ l:List Int,(aG l).length=l.length
  | []=>rfl
  | _::l=>by simp[aG,TD l]
theorem aT:∀ {l:List Int} {i:Nat} {x:Int},l[i]?=some x→gF (aG l) i=some [.int x]
 | [],_,_,h=>by simp at h
 | a::l,0,x,h=>by simp at h;subst h;simp[aG,gF]
 | a::l,i+1,x,h=>by simp only[aG,gF];exact aT (by simpa using h)
@[simp] theorem TC:∀ l:List Int,fP 1 (aG l)=true
  | []=>by simp[aG,fP]
  | _::l=>by have:=TC l;simp only[fP]at this;simp[aG,fP,this]
theorem bZ (a b:List Int):aG (a++b)=aG a++aG b:=by
 induction a with
 | nil=>rfl
 | cons x a ih=>simp[aG,ih]
@[simp] theorem AB6:∀ (n:Nat) (l:List Int),(aG l).take n=aG (l.take n)
  | 0,l=>by simp[aG]
  | n+1,[]=>by simp[aG]
  | n+1,x::l=>by simp[aG,AB6 n l]
@[simp] theorem AB7:∀ (n:Nat) (l:List Int),(aG l).drop n=aG (l.drop n)
  | 0,l=>by simp
  | n+1,[]=>by simp[aG]
  | n+1,x::l=>by simp[aG,AB7 n l]
theorem kM (l:List Int) (x:Int):aG (l++[x])=aG l++[[.int x]]:=by rw[bZ];rfl
mutual
def Pn.cells:Pn→List IV
 | .mk k t es cs ks=>[.int k, .int t, .isl (Ex.aB es), .isl (aG cs), .isl (Pn.aB ks)]
def Pn.aB:List Pn→List (List IV)
 | []=>[]
 | p::ps=>p.cells::Pn.aB ps
end
theorem Pn.ind {P:Pn→Prop} (h:∀ k t es cs ks,(∀ p∈ks,P p)→P (.mk k t es cs ks)):(p:Pn)→P p
 | .mk k t es cs ks=>h k t es cs ks fun p hp=>Pn.ind h p
termination_by p=>SizeOf.sizeOf p
decreasing_by
 have:=List.sizeOf_lt_of_mem hp;simp;omega
theorem Pn.aA (p:Pn):p.cells=[.int p.kind, .int p.table, .isl (Ex.aB p.exprs), .isl (aG p.cols), .isl (Pn.aB p.kids)]:=by
 cases p;simp[Pn.cells,Pn.kind,Pn.table,Pn.exprs,Pn.cols,Pn.kids]
theorem Pn.aW (k t:Int) (es:List Ex) (cs:List Int) (ks:List Pn):(Pn.mk k t es cs ks).cells=[.int k, .int t, .isl (Ex.aB es), .isl (aG cs), .isl (Pn.aB ks)]:=by simp[Pn.cells]
@[simp] theorem Pn.aY:∀ (l:List Pn),(Pn.aB l).length=l.length
  | []=>by simp[Pn.aB]
  | _::l=>by simp[Pn.aB,Pn.aY l]
theorem Pn.aO:∀ {l:List Pn} {i:Nat} {p:Pn},l[i]?=some p→gF (Pn.aB l) i=some p.cells
 | [],_,_,h=>by simp at h
 | a::l,0,p,h=>by simp at h;subst h;simp[Pn.aB,gF]
 | a::l,i+1,p,h=>by simp only[Pn.aB,gF];exact Pn.aO (by simpa using h)
@[simp] theorem Pn.dN (p:Pn):p.cells.length=5:=by rw[Pn.aA];rfl
@[simp] theorem Pn.qO:∀ (l:List Pn),fP 5 (Pn.aB l)=true
  | []=>by simp[Pn.aB,fP]
  | p::l=>by
   have:=Pn.qO l;simp only[fP]at this;simp[Pn.aB,fP,Pn.dN,this]
theorem Pn.iL (a b:List Pn):Pn.aB (a++b)=Pn.aB a++Pn.aB b:=by
 induction a with
 | nil=>simp[Pn.aB]
 | cons e a ih=>simp[Pn.aB,ih]
@[simp] theorem Pn.vZ:∀ (n:Nat) (l:List Pn),(Pn.aB l).take n=Pn.aB (l.take n)
  | 0,l=>by simp[Pn.aB]
  | n+1,[]=>by simp[Pn.aB]
  | n+1,p::l=>by simp[Pn.aB,Pn.vZ n l]
theorem Pn.aZ (l:List Pn) (p:Pn):Pn.aB (l++[p])=Pn.aB l++[p.cells]:=by
 rw[Pn.iL];simp[Pn.aB]
@[simp] theorem Pn.OT (p:Pn) (a b c d f:AV):splice [a,b,c,d,f] 0 (l5 p.cells)=some (l5 p.cells):=by rw[Pn.aA];rfl
mutual
def Pn.size:Pn→Nat
 | .mk _ _ _ _ ks=>1+Pn.bG ks
def Pn.bG:List Pn→Nat
 | []=>0
 | p::ps=>p.size+Pn.bG ps
end
theorem Pn.size_eq (p:Pn):p.size=1+Pn.bG p.kids:=by cases p;simp[Pn.size,Pn.kids]
theorem Pn.wT (p:Pn):1≤p.size:=by rw[Pn.size_eq];omega
theorem Pn.dC:∀ (l:List Pn),l.length≤Pn.bG l
 | []=>by simp[Pn.bG]
 | e::es=>by have:=Pn.dC es;have:=Pn.wT e;simp[Pn.bG];omega
theorem Pn.rW:∀ (l m:List Pn),Pn.bG (l++m)=Pn.bG l+Pn.bG m
 | [],m=>by simp[Pn.bG]
 | a::l,m=>by simp[Pn.bG,Pn.rW l m];omega
mutual
def Pn.eqb:Pn→Pn→Bool
 | .mk k t es cs ks, .mk k' t' es' cs' ks'=>k == k' && (t == t' && (Ex.oI es es' && (cs == cs' && Pn.oI ks ks')))
def Pn.oI:List Pn→List Pn→Bool
 | [],[]=>true
 | a::l,b::m=>Pn.eqb a b && Pn.oI l m
 | _,_=>false
end
theorem Pn.WK (a b:Pn):a.eqb b=(a.kind == b.kind && (a.table == b.table && (Ex.oI a.exprs b.exprs && (a.cols == b.cols && Pn.oI a.kids b.kids)))):=by
 cases a;cases b;simp[Pn.eqb]
theorem Pn.WJ:∀ (a b:Pn),a.eqb b=true↔a=b:=by
 intro a
 induction a using Pn.ind with
 | h k t es cs ks ih =>
  intro b;obtain⟨k',t',es',cs',ks'⟩:=b
  have:∀ (l m:List Pn),(∀ a∈l,∀ b,a.eqb b=true↔a=b)→(Pn.oI l m=true↔l=m):=by
   intro l
   induction l with
   | nil=>intro m _;cases m<;>simp[Pn.oI]
   | cons a l ihl =>
    intro m hl
    cases m with
    | nil=>simp[Pn.oI]
    | cons b m =>
     simp only[Pn.oI,zU,List.cons.injEq];rw[hl a (by simp) b,ihl m fun x hx=>hl x (by simp[hx])]
  simp only[Pn.eqb,zU,beq_iff_eq,Ex.OG,Pn.mk.injEq];rw[this ks ks' ih]
theorem Pn.OE (a:Pn):a.eqb a=true:=(Pn.WJ a a).2 rfl
theorem Pn.AJ:∀ (l m:List Pn),l.length≠m.length→Pn.oI l m=false
 | [],[],h=>absurd rfl h
 | a::l,b::m,h=>by simp[Pn.oI,Pn.AJ l m (by simpa using h)]
 | [],_::_,_=>by simp[Pn.oI]
 | _::_,[],_=>by simp[Pn.oI]
theorem Pn.sW:∀ (l m:List Pn),l.length=m.length→∃ j:Nat,(∀ i,i<j→∃ a b,l[i]?=some a∧m[i]?=some b∧a∈l∧a.eqb b=true)∧((j=l.length∧Pn.oI l m=true)∨∃ a b,l[j]?=some a∧m[j]?=some b∧a∈l∧a.eqb b=false∧Pn.oI l m=false)
 | [],[],_=>⟨0,fun i h=>by omega, .inl ⟨rfl,by simp[Pn.oI]⟩⟩
 | a::l,b::m,h=>by
  cases hab:a.eqb b with
  | false=>exact⟨0,fun i h=>by omega, .inr ⟨a,b,rfl,rfl,by simp,hab,by simp[Pn.oI,hab]⟩⟩
  | true =>
   obtain⟨j,h1,h2⟩:=Pn.sW l m (by simpa using h);refine⟨j+1,?_,?_⟩
   ·intro i hi
    cases i with
    | zero=>exact⟨a,b,rfl,rfl,by simp,hab⟩
    | succ i =>
     obtain⟨x,y,k1,k2,k3,k4⟩:=h1 i (by omega);exact⟨x,y,by simpa using k1,by simpa using k2,by simp[k3],k4⟩
   ·rcases h2 with ⟨k1,k2⟩|⟨x,y,k1,k2,k3,k4,k5⟩
    ·exact .inl ⟨by simp[k1],by simp[Pn.oI,hab,k2]⟩
    ·exact .inr ⟨x,y,by simpa using k1,by simpa using k2,by simp[k3],k4,by simp[Pn.oI,k5]⟩
 | [],_::_,h=>by simp at h
 | _::_,[],h=>by simp at h
theorem TB:∀ (l m:List Int),l.length=m.length→∃ j:Nat,(∀ i,i<j→∃ a,l[i]?=some a∧m[i]?=some a)∧((j=l.length∧(l == m)=true)∨∃ a b,l[j]?=some a∧m[j]?=some b∧a≠b∧(l == m)=false)
 | [],[],_=>⟨0,fun i h=>by omega, .inl ⟨rfl,by simp⟩⟩
 | a::l,b::m,h=>by
  by_cases hab:a=b
  ·subst hab;obtain⟨j,h1,h2⟩:=TB l m (by simpa using h);refine⟨j+1,?_,?_⟩
   ·intro i hi
    cases i with
    | zero=>exact⟨a,rfl,rfl⟩
    | succ i =>
     obtain⟨x,k1,k2⟩:=h1 i (by omega);exact⟨x,by simpa using k1,by simpa using k2⟩
   ·rcases h2 with ⟨k1,k2⟩|⟨x,y,k1,k2,k3,k5⟩
    ·exact .inl ⟨by simp[k1],by simpa using k2⟩
    ·exact .inr ⟨x,y,by simpa using k1,by simpa using k2,k3,by simpa using k5⟩
  ·exact⟨0,fun i h=>by omega, .inr ⟨a,b,rfl,rfl,hab,by simp[hab]⟩⟩
 | [],_::_,h=>by simp at h
 | _::_,[],h=>by simp at h
mutual
def Pn.thin:Pn→Prop
 | .mk _ _ es cs ks=>es.length<1000000000∧(∀ e∈es,e.thin)∧cs.length<1000000000∧ks.length<1000000000∧Pn.fT ks
def Pn.fT:List Pn→Prop
 | []=>True
 | p::ps=>p.thin∧Pn.fT ps
end
theorem Pn.rU:∀ (l:List Pn),Pn.fT l↔∀ p∈l,p.thin
 | []=>by simp[Pn.fT]
 | p::l=>by simp[Pn.fT,Pn.rU l]
theorem Pn.bL (p:Pn):p.thin↔p.exprs.length<1000000000∧(∀ e∈p.exprs,e.thin)∧p.cols.length<1000000000∧p.kids.length<1000000000∧∀ a∈p.kids,a.thin:=by
 cases p;simp[Pn.thin,Pn.rU]
def Pn.zero:Pn:=.mk 0 0 [] [] []
def Pn.scan (t:Int):Pn:=.mk 1 t [] [] []
def jE (k:Int):Int:=if k=1 then 0 else if k=2∨k=3∨k=7∨k=8 then 1 else if k=4∨k=5∨k=6 then 2 else -1
def eU (k:Int):Int:=if k=2∨k=3∨k=4∨k=5 then 1 else 0
def Pn.headOk (p:Pn):Bool:=decide ((p.kids.length:Int)=jE p.kind) && (decide ((p.exprs.length:Int)=if p.kind=3∧bE p.exprs.length=true then(p.exprs.length:Int)else eU p.kind) && ((decide (p.kind=1) || decide (p.table=0)) && (decide (p.kind=8) || decide (p.cols=[]))))
def rG (w:Int) (cs:List Int):Bool:=(cs.zip (-1::cs)).all fun x=>decide (x.2<x.1∧x.1<w)
def dB (k:Int) (es:List Ex) (cs:List Int) (a b:Int):Int :=
 if k=4∨k=5 then(if a+b≤6∧es.all (Ex.ok (a+b))=true then a+b else 0)
 else if k=6 then(if a=b then a else 0)
 else if k=8 then(if cs.length<6∧rG a cs=true then(cs.length:Int)+1 else 0)
 else if k=3 then(if es.all (Ex.ok a)=true then(es.length:Int)else 0)
 else(if es.all (Ex.ok a)=true then a else 0)
mutual
def Pn.wd (ws:List Int):Nat→Pn→Int
 | lv, .mk k t es cs ks=>if Pn.headOk (.mk k t es cs ks)=true∧(ks=[]∨lv≠0)then(if k=1 then(if 0≤t then(ws[t.toNat]?).getD 0 else 0)else if(Pn.wdL ws (lv-1) ks).all (fun x=>decide (x≠0))=true then dB k es cs ((Pn.wdL ws (lv-1) ks)[0]?.getD 0) ((Pn.wdL ws (lv-1) ks)[1]?.getD 0)else 0)else 0
def Pn.wdL (ws:List Int):Nat→List Pn→List Int
 | _,[]=>[]
 | lv,p::ps=>Pn.wd ws lv p::Pn.wdL ws lv ps
end
theorem Pn.UR (ws:List Int) (lv:Nat):∀ l:List Pn,Pn.wdL ws lv l=l.map (Pn.wd ws lv)
 | []=>by simp[Pn.wdL]
 | p::l=>by simp[Pn.wdL,Pn.UR ws lv l]
theorem Pn.uZ (ws:List Int) (lv:Nat) (p:Pn):p.wd ws lv=if p.headOk=true∧(p.kids=[]∨lv≠0)then(if p.kind=1 then(if 0≤p.table then(ws[p.table.toNat]?).getD 0 else 0)else if p.kids.all (fun x=>decide (x.wd ws (lv-1)≠0))=true then dB p.kind p.exprs p.cols ((p.kids[0]?.map (Pn.wd ws (lv-1))).getD 0) ((p.kids[1]?.map (Pn.wd ws (lv-1))).getD 0)else 0)else 0:=by
 obtain⟨k,t,es,cs,ks⟩:=p;simp only[Pn.wd,Pn.UR,List.all_map,xQ,Pn.iW,Pn.fJ,Pn.kS,Pn.dF,Pn.fV];rfl
def jS (ws:List Int):Bool:=decide (1≤ws.length∧ws.length≤4) && ws.all bE
def Pn.width (p:Pn) (ws:List Int):Int:=if jS ws=true then p.wd ws 8 else 0
theorem PS {k:Int} {es:List Ex} {cs:List Int} {a b:Int} (ha:0≤a∧a≤6) (hb:0≤b∧b≤6) (he:k=3→es.length≤6):0≤dB k es cs a b∧dB k es cs a b≤6:=by
 unfold dB;split
 ·split<;>omega
 ·split
  ·split<;>omega
  ·split
   ·split<;>omega
   ·split
    ·have:=he (by assumption);split<;>omega
    ·split<;>omega
theorem Pn.sO {p:Pn} (h:p.headOk=true):p.exprs.length≤6:=by
 unfold Pn.headOk at h;simp only[zU,zP]at h;have h2:=h.2.1;split at h2
 ·rename_i hc;have:=hc.2;simp[bE]at this;omega
 ·unfold eU at h2;split at h2<;>omega
theorem Pn.I7 {p:Pn} (h:p.headOk=true):p.kids.length≤2:=by
 unfold Pn.headOk at h;simp only[zU,zP]at h;have h2:=h.1;unfold jE at h2;split at h2
 ·omega
 ·split at h2
  ·omega
  ·split at h2<;>omega
theorem ANW {p:Prop} [Decidable p] {a b:Int} (ha:0≤a∧a≤6) (hb:0≤b∧b≤6):0≤(if p then a else b)∧(if p then a else b)≤6:=by split<;>assumption
theorem Pn.iD {ws:List Int} (hw:∀ w∈ws,0≤w∧w≤6):∀ (p:Pn) (lv:Nat),0≤p.wd ws lv∧p.wd ws lv≤6:=by
 intro p
 induction p using Pn.ind with
 | h k t es cs ks ih =>
  intro lv;rw[Pn.uZ];split
  ·rename_i hc;have he:=Pn.sO hc.1;simp only[Pn.iW,Pn.fJ,Pn.kS,Pn.dF,Pn.fV]at he ⊢;by_cases h1:k=1
   ·simp only[h1,if_true];by_cases h2:0≤t
    ·simp only[h2,if_true]
     cases hx:ws[t.toNat]? with
     | none=>simp
     | some x=>simpa using hw x (zV hx)
    ·simp only[h2,if_false];omega
   ·simp only[h1,if_false]
    have hk:∀ i:Nat,0≤(ks[i]?.map (Pn.wd ws (lv-1))).getD 0∧(ks[i]?.map (Pn.wd ws (lv-1))).getD 0≤6:=by
     intro i
     cases hx:ks[i]? with
     | none=>simp
     | some x=>simpa using ih x (zV hx) (lv-1)
    exact ANW (PS (hk 0) (hk 1) fun _=>he) (by omega)
  ·omega
theorem Pn.ZK {ws:List Int} {lv:Nat} {p:Pn} (h:¬ (p.headOk=true∧(p.kids=[]∨lv≠0))):p.wd ws lv=0:=by
 rw[Pn.uZ,if_neg h]
theorem GM (k:Int):jE k=-1∨(jE k=0∧k=1)∨(jE k=1∧(k=2∨k=3∨k=7∨k=8))∨(jE k=2∧(k=4∨k=5∨k=6)):=by
 unfold jE;split
 ·simp[*]
 ·split
  ·simp[*]
  ·split
   ·simp[*]
   ·simp
mutual
def Pn.lim:Pn→Prop
 | .mk _ _ es cs ks=>es.length<9223372036854775808∧cs.length<9223372036854775808∧ks.length<9223372036854775808∧Pn.AS8 ks
def Pn.AS8:List Pn→Prop
 | []=>True
 | p::ps=>p.lim∧Pn.AS8 ps
end
theorem Pn.Y5:∀ (l:List Pn),Pn.AS8 l↔∀ p∈l,p.lim
 | []=>by simp[Pn.AS8]
 | p::l=>by simp[Pn.AS8,Pn.Y5 l]
theorem Pn.H7 (p:Pn):p.lim↔p.exprs.length<9223372036854775808∧p.cols.length<9223372036854775808∧p.kids.length<9223372036854775808∧∀ a∈p.kids,a.lim:=by
 cases p;simp[Pn.lim,Pn.Y5]
theorem Pn.EF:∀ (p:Pn),p.thin→p.lim:=by
 intro p
 induction p using Pn.ind with
 | h k t es cs ks ih =>
  intro h;have h:=(Pn.bL _).1 h;simp only[Pn.dF,Pn.fV,Pn.iW]at h;exact(Pn.H7 _).2 ⟨by simp;omega,by simp;omega,by simp;omega,fun a ha=>ih a ha (h.2.2.2.2 a ha)⟩
theorem Pn.FO (t:Int):(Pn.scan t).thin:=by simp[Pn.scan,Pn.thin,Pn.fT]
theorem Pn.ET:Pn.zero.thin:=by simp[Pn.zero,Pn.thin,Pn.fT]
mutual
def Pn.tiny:Pn→Prop
 | .mk _ _ es _ ks=>(∀ e∈es,e.size<1000000000)∧Pn.ZT ks
def Pn.ZT:List Pn→Prop
 | []=>True
 | p::ps=>p.tiny∧Pn.ZT ps
end
theorem Pn.Q6:∀ (l:List Pn),Pn.ZT l↔∀ p∈l,p.tiny
 | []=>by simp[Pn.ZT]
 | p::l=>by simp[Pn.ZT,Pn.Q6 l]
theorem Pn.N7 (p:Pn):p.tiny↔(∀ e∈p.exprs,e.size<1000000000)∧∀ a∈p.kids,a.tiny:=by
 cases p;simp[Pn.tiny,Pn.Q6]
theorem Ex.uG:∀ {l:List Ex} {i:Nat} {a:Ex},l[i]?=some a→(Ex.aB l).set i a.cells=Ex.aB l
 | [],_,_,h=>by simp at h
 | b::l,0,a,h=>by simp at h;subst h;simp[Ex.aB]
 | b::l,i+1,a,h=>by simp only[Ex.aB,List.set_cons_succ];rw[Ex.uG (by simpa using h)]
theorem PT {k:Int} {es:List Ex} {cs:List Int} {a b:Int} (h:dB k es cs a b≠0) (h6:k=6→es=[]) (h8:k=8→es=[]):∀ e∈es,e.size<1000:=by
 unfold dB at h;intro e he;have fin:∀ w:Int,es.all (Ex.ok w)=true→e.size<1000:=fun w hw=>Ex.iT (zS.1 hw e he)
 split at h
 ·split at h
  ·rename_i hc;exact fin _ hc.2
  ·exact absurd rfl h
 ·split at h
  ·rename_i hk;rw[h6 hk]at he;cases he
  ·split at h
   ·rename_i hk;rw[h8 hk]at he;cases he
   ·split at h
    ·split at h
     ·rename_i hc;exact fin _ hc
     ·exact absurd rfl h
    ·split at h
     ·rename_i hc;exact fin _ hc
     ·exact absurd rfl h
theorem gK {p:Prop} [Decidable p] {a:Int} (h:(if p then a else 0)≠0):p∧a≠0:=by
 by_cases hp:p
 ·rw[if_pos hp]at h;exact⟨hp,h⟩
 ·rw[if_neg hp]at h;exact absurd rfl h
theorem Pn.vP {p:Pn} (h:p.headOk=true) (hk:p.kind=1∨p.kind=6∨p.kind=7∨p.kind=8):p.exprs=[]:=by
 unfold Pn.headOk at h;simp only[zU,zP]at h;have h2:=h.2.1;have hn:eU p.kind=0:=by unfold eU;rcases hk with e|e|e|e<;>simp[e]
 split at h2
 ·rename_i hc;rcases hk with e|e|e|e<;>(rw[e]at hc;exact absurd hc.1 (by decide))
 ·rw[hn]at h2;exact zW.1 (by omega)
theorem Pn.vQ {p:Pn} (h:p.headOk=true) (hk:p.kind=1):p.kids=[]:=by
 unfold Pn.headOk at h;simp only[zU,zP]at h;have h2:=h.1;rw[hk]at h2;simp[jE]at h2;exact h2
theorem Pn.ADL:∀ (l:List Pn) (c:Nat),l.length≤2→(∀ p∈l,p.size≤c)→Pn.bG l≤2*c
 | [],c,_,_=>by simp[Pn.bG]
 | [a],c,_,h=>by have:=h a (by simp);simp[Pn.bG];omega
 | [a,b],c,_,h=>by have:=h a (by simp);have:=h b (by simp);simp[Pn.bG];omega
 | _::_::_::_,_,h,_=>by simp at h
theorem Pn.wJ {ws:List Int}:∀ (p:Pn) (lv:Nat),p.wd ws lv≠0→p.tiny∧p.size+1≤2 ^ (lv+1):=by
 intro p
 induction p using Pn.ind with
 | h k t es cs ks ih =>
  intro lv h;rw[Pn.uZ]at h;split at h
  ·rename_i hc;obtain⟨hh,hlv⟩:=hc;have hkl:=Pn.I7 hh;simp only[Pn.iW,Pn.fJ,Pn.kS,Pn.dF,Pn.fV]at h hlv hkl;by_cases h1:k=1
   ·have e1:es=[]:=Pn.vP hh (.inl h1);have e2:ks=[]:=Pn.vQ hh h1;subst e1;subst e2;refine⟨by simp[Pn.tiny,Pn.ZT],?_⟩;have:1≤2 ^ lv:=zB5;simp[Pn.size,Pn.bG,zB4];omega
   ·simp only[h1,if_false]at h;obtain⟨hall,h⟩:=gK h
    ·rw[zS]at hall;have hes:∀ e∈es,e.size<1000:=PT h (fun e=>Pn.vP hh (.inr (.inl e))) (fun e=>Pn.vP hh (.inr (.inr (.inr e))));by_cases hkn:ks=[]
     ·subst hkn;refine⟨(Pn.N7 _).2 ⟨fun e he=>by have:=hes e he;omega,by simp⟩,?_⟩;have:1≤2 ^ lv:=zB5;simp[Pn.size,Pn.bG,zB4];omega
     ·have hl0:lv≠0:=by rcases hlv with e|e;exact absurd e hkn;exact e
      have hk:∀ a∈ks,a.tiny∧a.size+1≤2 ^ (lv-1+1):=fun a ha=>ih a ha (lv-1) (by simpa using hall a ha)
      refine⟨(Pn.N7 _).2 ⟨fun e he=>by have:=hes e he;omega,fun a ha=>(hk a ha).1⟩,?_⟩;rw[show lv-1+1=lv by omega]at hk;have hp:1≤2 ^ lv:=zB5;have:=Pn.ADL ks (2 ^ lv-1) hkl fun a ha=>by have:=(hk a ha).2;omega
      simp only[Pn.size,zB4];omega
  ·exact absurd rfl h
theorem Pn.UQ {p:Pn} {ws:List Int}:0≤p.width ws∧p.width ws≤6:=by
 unfold Pn.width;split
 ·rename_i h;refine Pn.iD (fun w hw=>?_) p 8;simp only[jS,zU,zS]at h;have:=h.2 w hw;simp[bE]at this;omega
 ·omega
def Pn.hit (t:Int) (p:Pn):Bool:=decide (p.kind=1) && decide (p.table=t)
theorem AJ5 {p:Prop} {d e:Decidable p} {a b:Int}:@ite _ p d a b=@ite _ p e a b:=by rw[Subsingleton.elim d e]
theorem Pn.iQ {ws:List Int}:∀ (p:Pn) (lv lv':Nat),p.wd ws lv≠0→lv≤lv'→p.wd ws lv'=p.wd ws lv:=by
 intro p
 induction p using Pn.ind with
 | h k t es cs ks ih =>
  intro lv lv' h hl;have h0:=h;rw[Pn.uZ]at h;by_cases hc:(Pn.mk k t es cs ks).headOk=true∧((Pn.mk k t es cs ks).kids=[]∨lv≠0)
  case neg=>rw[if_neg hc]at h;exact absurd rfl h
  rw[if_pos hc]at h
  have hc':(Pn.mk k t es cs ks).headOk=true∧((Pn.mk k t es cs ks).kids=[]∨lv'≠0):=⟨hc.1,hc.2.imp id fun h=>by omega⟩
  rw[Pn.uZ,Pn.uZ,if_pos hc,if_pos hc'];simp only[Pn.iW,Pn.fJ,Pn.kS,Pn.dF,Pn.fV]at h ⊢;by_cases h1:k=1
  ·simp only[h1,if_true]
  ·simp only[h1,if_false]at h ⊢;obtain⟨hall,h⟩:=gK h;have hall2:=zS.1 hall;have hk:∀ a∈ks,a.wd ws (lv'-1)=a.wd ws (lv-1):=fun a ha=>ih a ha (lv-1) (lv'-1) (by simpa using hall2 a ha) (by omega)
   have e1:(ks.all fun x=>decide (x.wd ws (lv'-1)≠0))=(ks.all fun x=>decide (x.wd ws (lv-1)≠0)):=by
    rw[zA1,zS,zS];exact⟨fun g a ha=>by rw[← hk a ha];exact g a ha,fun g a ha=>by rw[hk a ha];exact g a ha⟩
   have e2:∀ i:Nat,(ks[i]?.map (Pn.wd ws (lv'-1)))=(ks[i]?.map (Pn.wd ws (lv-1))):=fun i=>by
    cases hx:ks[i]? with
    | none=>rfl
    | some a=>simp[hk a (zV hx)]
   rw[e2 0,e2 1];simp only[e1];exact AJ5
theorem AN3 {ws:List Int} {t W:Int} (h0:0≤t) (hw:ws[t.toNat]?=some W) (lv:Nat):(Pn.scan t).wd ws lv=W:=by
 rw[Pn.uZ];have hh:(Pn.scan t).headOk=true:=by simp[Pn.scan,Pn.headOk,jE,eU]
 rw[if_pos ⟨hh, .inl rfl⟩];simp[Pn.scan,h0,hw]
def filt (e:Ex) (k:Pn):Pn:=.mk 2 0 [e] [] [k]
def proj (es:List Ex) (k:Pn):Pn:=.mk 3 0 es [] [k]
def bA (kd:Int) (e:Ex) (a b:Pn):Pn:=.mk kd 0 [e] [] [a,b]
def bY (a b:Pn):Pn:=.mk 6 0 [] [] [a,b]
def Z7 (a b:Ex):Ex:=.mk 8 0 Val.zero [a,b]
def YZ (c:Int):Ex:=.mk 1 c Val.zero []
theorem PR {ws:List Int} {p:Pn} {lv:Nat} (h:p.wd ws lv≠0) (hk:p.kids≠[]):∃ m,lv=m+1:=by
 cases lv with
 | succ m=>exact⟨m,rfl⟩
 | zero =>
  rw[Pn.uZ]at h;by_cases hc:p.headOk=true∧(p.kids=[]∨0≠0)
  ·rcases hc.2 with e|e
   ·exact absurd e hk
   ·exact absurd rfl e
  ·rw[if_neg hc]at h;exact absurd rfl h
theorem PQ {ws:List Int} {k:Int} {es:List Ex} {cs:List Int} {a:Pn} {lv:Nat} (h1:k=2∨k=3∨k=7∨k=8):(Pn.mk k 0 es cs [a]).wd ws (lv+1)=if(Pn.mk k 0 es cs [a]).headOk=true∧a.wd ws lv≠0 then dB k es cs (a.wd ws lv) 0 else 0:=by
 rw[Pn.uZ];have hk:k≠1:=by omega
 simp only[Pn.iW,Pn.fJ,Pn.kS,Pn.dF,Pn.fV,hk,if_false];by_cases ho:(Pn.mk k 0 es cs [a]).headOk=true
 ·by_cases hw:a.wd ws lv=0
  ·simp[ho,hw]
  ·simp[ho,hw]
 ·simp[ho]
theorem AKG {ws:List Int} {k:Int} {es:List Ex} {cs:List Int} {a b:Pn} {lv:Nat} (h1:k=4∨k=5∨k=6):(Pn.mk k 0 es cs [a,b]).wd ws (lv+1)=if(Pn.mk k 0 es cs [a,b]).headOk=true∧a.wd ws lv≠0∧b.wd ws lv≠0 then dB k es cs (a.wd ws lv) (b.wd ws lv)else 0:=by
 rw[Pn.uZ];have hk:k≠1:=by omega
 simp only[Pn.iW,Pn.fJ,Pn.kS,Pn.dF,Pn.fV,hk,if_false];by_cases ho:(Pn.mk k 0 es cs [a,b]).headOk=true
 ·by_cases hw:a.wd ws lv=0
  ·simp[ho,hw]
  ·by_cases hw2:b.wd ws lv=0
   ·simp[ho,hw,hw2]
   ·simp[ho,hw,hw2]
 ·simp[ho]
theorem F5 {ws:List Int} {e:Ex} {a:Pn} {lv:Nat}:(filt e a).wd ws (lv+1)=if a.wd ws lv≠0∧e.ok (a.wd ws lv)=true then a.wd ws lv else 0:=by
 unfold filt;rw[PQ (by omega)];have ho:(Pn.mk 2 0 [e] [] [a]).headOk=true:=by simp[Pn.headOk,jE,eU]
 by_cases h:a.wd ws lv=0
 ·simp[h]
 ·simp[ho,h,dB]
theorem AY {ws:List Int} {es:List Ex} {a:Pn} {lv:Nat}:(proj es a).wd ws (lv+1)=if a.wd ws lv≠0∧bE es.length=true∧es.all (Ex.ok (a.wd ws lv))=true then(es.length:Int)else 0:=by
 unfold proj;rw[PQ (by omega)]
 have ho:(Pn.mk 3 0 es [] [a]).headOk=bE es.length:=by
  cases h:bE es.length with
  | true=>simp[Pn.headOk,jE,eU,h]
  | false =>
   have:(es.length:Int)≠1:=by intro e;rw[e]at h;simp[bE]at h
   simp[Pn.headOk,jE,eU,h,this]
 by_cases h:a.wd ws lv=0
 ·simp[h]
 ·by_cases h2:bE es.length=true
  ·simp[ho,h,h2,dB]
  ·simp[ho,h,h2]
theorem EZ {ws:List Int} {k:Int} {e:Ex} {a b:Pn} {lv:Nat} (hk:k=4∨k=5):(bA k e a b).wd ws (lv+1)=if a.wd ws lv≠0∧b.wd ws lv≠0∧a.wd ws lv+b.wd ws lv≤6∧e.ok (a.wd ws lv+b.wd ws lv)=true then a.wd ws lv+b.wd ws lv else 0:=by
 unfold bA;rw[AKG (by omega)];have ho:(Pn.mk k 0 [e] [] [a,b]).headOk=true:=by rcases hk with rfl|rfl<;>simp[Pn.headOk,jE,eU]
 by_cases h:a.wd ws lv=0
 ·simp[h]
 ·by_cases h2:b.wd ws lv=0
  ·simp[h2]
  ·simp[ho,h,h2,dB,hk]
theorem XA {ws:List Int} {a b:Pn} {lv:Nat}:(bY a b).wd ws (lv+1)=if a.wd ws lv≠0∧a.wd ws lv=b.wd ws lv then a.wd ws lv else 0:=by
 unfold bY;rw[AKG (by omega)];have ho:(Pn.mk 6 0 [] [] [a,b]).headOk=true:=by simp[Pn.headOk,jE,eU]
 by_cases h:a.wd ws lv=0
 ·simp[h]
 ·by_cases h2:a.wd ws lv=b.wd ws lv
  ·simp[ho,dB,h2,show b.wd ws lv≠0 by rw[← h2];exact h]
  ·simp[ho,h,h2,dB]
inductive Shape (ws:List Int) (lv:Nat):Pn→Prop
 | scan (t:Int) (W:Int) (h0:0≤t) (h:ws[t.toNat]?=some W) (hW:W≠0):Shape ws lv (.scan t)
 | filt (m:Nat) (e:Ex) (a:Pn) (h:lv=m+1) (ha:a.wd ws m≠0) (he:e.ok (a.wd ws m)=true):Shape ws lv (filt e a)
 | proj (m:Nat) (es:List Ex) (a:Pn) (h:lv=m+1) (ha:a.wd ws m≠0) (hl:bE es.length=true) (he:∀ e∈es,e.ok (a.wd ws m)=true):Shape ws lv (proj es a)
 | pair (m:Nat) (k:Int) (e:Ex) (a b:Pn) (h:lv=m+1) (hk:k=4∨k=5) (ha:a.wd ws m≠0) (hb:b.wd ws m≠0) (hl:a.wd ws m+b.wd ws m≤6) (he:e.ok (a.wd ws m+b.wd ws m)=true):Shape ws lv (bA k e a b)
 | union (m:Nat) (a b:Pn) (h:lv=m+1) (ha:a.wd ws m≠0) (hb:b.wd ws m=a.wd ws m):Shape ws lv (bY a b)
 | dist (m:Nat) (a:Pn) (h:lv=m+1) (ha:a.wd ws m≠0):Shape ws lv (.mk 7 0 [] [] [a])
 | group (m:Nat) (cs:List Int) (a:Pn) (h:lv=m+1) (ha:a.wd ws m≠0) (hc:cs.length<6) (ho:rG (a.wd ws m) cs=true):Shape ws lv (.mk 8 0 [] cs [a])
theorem EM {α:Type} {l:List α} (h:l.length=1):∃ a,l=[a]:=by
 match l,h with
 | [a],_=>exact⟨a,rfl⟩
theorem Y4 {α:Type} {l:List α} (h:l.length=2):∃ a b,l=[a,b]:=by
 match l,h with
 | [a,b],_=>exact⟨a,b,rfl⟩
theorem nJ {ws:List Int} {lv:Nat} {p:Pn} (h:p.wd ws lv≠0):Shape ws lv p:=by
 have h0:=h;rw[Pn.uZ]at h;by_cases hc:p.headOk=true∧(p.kids=[]∨lv≠0)
 case neg=>rw[if_neg hc]at h;exact absurd rfl h
 rw[if_pos hc]at h;have hh:=hc.1;obtain⟨k,t,es,cs,ks⟩:=p;unfold Pn.headOk at hh;simp only[zU,zC5,zP]at hh;simp only[Pn.iW,Pn.fJ,Pn.kS,Pn.dF,Pn.fV]at hh h;obtain⟨g1,g2,g3,g4⟩:=hh
 rcases GM k with e|⟨e,hk⟩|⟨e,hk⟩|⟨e,hk⟩
 ·omega
 ·subst hk;rw[e]at g1;have hks:ks=[]:=zW.1 (by omega);simp[eU]at g2;subst g2;subst hks;have hcs:cs=[]:=by rcases g4 with g|g;omega;exact g
  subst hcs;simp only[if_true]at h;obtain⟨ht,h⟩:=gK h
  cases hw:ws[t.toNat]? with
  | none=>rw[hw]at h;exact absurd rfl h
  | some W=>rw[hw]at h;exact .scan t W ht hw h
 ·obtain⟨a,rfl⟩:=EM (show ks.length=1 by omega);obtain⟨m,rfl⟩:=PR h0 (by simp);have ht:t=0:=by rcases g3 with g|g;omega;exact g
  subst ht
  rcases hk with rfl|rfl|rfl|rfl
  ·have hcs:cs=[]:=by rcases g4 with g|g;omega;exact g
   subst hcs;simp[eU]at g2;obtain⟨x,rfl⟩:=EM (show es.length=1 by omega);have hf:=F5 (ws:=ws) (e:=x) (a:=a) (lv:=m);unfold filt at hf;rw[hf]at h0;obtain⟨⟨ha,he⟩,-⟩:=gK h0;exact .filt m x a rfl ha he
  ·have hcs:cs=[]:=by rcases g4 with g|g;omega;exact g
   subst hcs;have hf:=AY (ws:=ws) (es:=es) (a:=a) (lv:=m);unfold proj at hf;rw[hf]at h0;obtain⟨⟨ha,he,hx⟩,-⟩:=gK h0;exact .proj m es a rfl ha he (zS.1 hx)
  ·have hcs:cs=[]:=by rcases g4 with g|g;omega;exact g
   subst hcs;simp[eU]at g2;subst g2;rw[PQ (by omega)]at h0;exact .dist m a rfl (gK h0).1.2
  ·simp[eU]at g2;subst g2;rw[PQ (by omega)]at h0;obtain⟨⟨_,ha⟩,h0⟩:=gK h0;unfold dB at h0;simp only[show ¬ ((8:Int)=4∨(8:Int)=5)by omega,show ¬ (8:Int)=6 by omega,if_false,if_true]at h0;obtain⟨⟨h1,h2⟩,-⟩:=gK h0;exact .group m cs a rfl ha h1 h2
 ·obtain⟨a,b,rfl⟩:=Y4 (show ks.length=2 by omega);obtain⟨m,rfl⟩:=PR h0 (by simp);have ht:t=0:=by rcases g3 with g|g;omega;exact g
  subst ht;have hcs:cs=[]:=by rcases g4 with g|g;omega;exact g
  subst hcs;by_cases h6:k=6
  ·subst h6;simp[eU]at g2;subst g2;have hf:=XA (ws:=ws) (a:=a) (b:=b) (lv:=m);unfold bY at hf;rw[hf]at h0;obtain⟨⟨ha,hb⟩,-⟩:=gK h0;exact .union m a b rfl ha hb.symm
  ·have hk2:k=4∨k=5:=by omega
   have hx:es.length=1:=by
    rcases hk2 with rfl|rfl<;>simp[eU]at g2<;>omega
   obtain⟨x,rfl⟩:=EM hx;have hf:=EZ (ws:=ws) (e:=x) (a:=a) (b:=b) (lv:=m) hk2;unfold bA at hf;rw[hf]at h0;obtain⟨⟨ha,hb,hc,he⟩,-⟩:=gK h0;exact .pair m k x a b rfl hk2 ha hb hc he
mutual
def Ex.uP (f:Int→Bool):Ex→Bool
 | .mk k c _ ks=>if k=1 then f c else Ex.AGU f ks
def Ex.AGU (f:Int→Bool):List Ex→Bool
 | []=>true
 | e::es=>Ex.uP f e && Ex.AGU f es
end
mutual
def Ex.vN (f:Int→Int):Ex→Ex
 | .mk k c v ks=>if k=1 then YZ (f c)else .mk k c v (Ex.AEZ f ks)
def Ex.AEZ (f:Int→Int):List Ex→List Ex
 | []=>[]
 | e::es=>Ex.vN f e::Ex.AEZ f es
end
theorem Ex.UE (f:Int→Bool):∀ l,Ex.AGU f l=l.all (Ex.uP f)
 | []=>by simp[Ex.AGU]
 | e::es=>by simp[Ex.AGU,Ex.UE f es]
theorem Ex.SE (f:Int→Int):∀ l,Ex.AEZ f l=l.map (Ex.vN f)
 | []=>by simp[Ex.AEZ]
 | e::es=>by simp[Ex.AEZ,Ex.SE f es]
theorem Ex.lH (f:Int→Bool) (e:Ex):e.uP f=if e.kind=1 then f e.col else e.kids.all (Ex.uP f):=by
 cases e;simp only[Ex.uP,Ex.UE,Ex.kind,Ex.col,Ex.kids];split<;>simp[*]
theorem Ex.EL (f:Int→Int) {e:Ex} (h:e.kind=1):e.vN f=YZ (f e.col):=by
 cases e;simp[Ex.kind]at h;simp[Ex.vN,h,Ex.col]
theorem Ex.EK (f:Int→Int) {e:Ex} (h:e.kind≠1):e.vN f=.mk e.kind e.col e.val (e.kids.map (Ex.vN f)):=by
 cases e;simp[Ex.kind]at h;simp[Ex.vN,h,Ex.SE,Ex.kind,Ex.col,Ex.val,Ex.kids]
theorem Ex.XH {by_:List Ex} {f:Int→Int} {g:Int→Bool} (h:∀ c,g c=true→by_[c.toNat]?=some (YZ (f c))):∀ e:Ex,e.uP g=true→e.sub by_=e.vN f:=by
 intro e
 induction e using Ex.ind with
 | h k c v ks ih =>
  intro ha;rw[Ex.lH]at ha;by_cases h1:k=1
  ·subst h1;simp only[Ex.kind,Ex.col,if_true]at ha;rw[Ex.vF by_ (e:=.mk 1 c v ks) (by rfl) (h c ha),Ex.EL f (e:=.mk 1 c v ks) (by rfl)];rfl
  ·simp only[Ex.kind,Ex.kids,h1,if_false,zS]at ha;rw[Ex.vD by_ (by simpa [Ex.kind]using h1),Ex.EK f (by simpa [Ex.kind]using h1)];simp only[Ex.kids];rw[List.map_congr_left fun e he=>ih e he (ha e he)]
theorem Ex.pG {f g:Int→Bool} (h:∀ c,f c=true→g c=true):∀ e:Ex,e.uP f=true→e.uP g=true:=by
 intro e
 induction e using Ex.ind with
 | h k c v ks ih =>
  intro ha;rw[Ex.lH]at ha ⊢;by_cases h1:k=1
  ·subst h1;simp only[Ex.kind,Ex.col,if_true]at ha ⊢;exact h c ha
  ·simp only[Ex.kind,Ex.kids,h1,if_false,zS]at ha ⊢;exact fun e he=>ih e he (ha e he)
theorem Ex.MU {w:Int}:∀ e:Ex,e.wf w=true→e.uP (fun c=>decide (0≤c∧c<w))=true:=by
 intro e
 induction e using Ex.ind with
 | h k c v ks ih =>
  intro hw;rw[Ex.lH];by_cases h1:k=1
  ·have:=Ex.lI hw (by simpa [Ex.kind]using h1);simp only[Ex.col]at this;simp[Ex.kind,h1,Ex.col,this.1,this.2.1]
  ·simp only[Ex.kind,Ex.kids,h1,if_false,zS];exact fun e he=>ih e he (Ex.gM hw (by simpa [Ex.kids]using he))
def aV (a:Int) (n:Nat):List Ex:=(List.range n).map fun(i:Nat)=>YZ (a+(i:Int))
@[simp] theorem tK (a:Int) (n:Nat):(aV a n).length=n:=by simp[aV]
theorem tJ {a:Int} {n i:Nat} (h:i<n):(aV a n)[i]?=some (YZ (a+i)):=by
 simp[aV,h]
theorem OQ (a:Int) (n:Nat):aV a (n+1)=aV a n++[YZ (a+n)]:=by
 simp[aV,zB2]
def Val.tr (v:Val):Int:=if v.null=true then 1 else if v.n=0 then 0 else 2
def trV (t:Int):Val:=if t=1 then⟨true,0⟩else⟨false,if t=2 then 1 else 0⟩
def AQ2 (n:Int):Val:=if -9999≤n∧n≤9999 then⟨false,n⟩else⟨true,0⟩
def WE (b:Bool):Val:=⟨false,if b=true then 1 else 0⟩
def Val.cmb (k:Int) (a b:Val):Val :=
 if k=8 then trV (if b.tr<a.tr then b.tr else a.tr)else if k=9 then trV (if b.tr > a.tr then b.tr else a.tr)else
 if a.null=true∨b.null=true then⟨true,0⟩else if k=3 then AQ2 (a.n+b.n)else if k=4 then AQ2 (a.n-b.n)else if k=5 then AQ2 (a.n*b.n)else
 if k=6 then WE (a.n == b.n)else WE (decide (a.n<b.n))
def evN (row:List Val) (k c:Int) (v:Val) (vs:List Val):Val :=
 if k=1 then(row[c.toNat]?).getD Val.zero else if k=2 then v else
 if k=10 then trV (2-((vs[0]?).getD Val.zero).tr)else if k=11 then WE ((vs[0]?).getD Val.zero).null else
 Val.cmb k ((vs[0]?).getD Val.zero) ((vs[1]?).getD Val.zero)
mutual
def Ex.ev (row:List Val):Ex→Val
 | .mk k c v ks=>evN row k c v (Ex.evL row ks)
def Ex.evL (row:List Val):List Ex→List Val
 | []=>[]
 | e::es=>e.ev row::Ex.evL row es
end
def eB:List Val→List (List IV)
 | []=>[]
 | v::vs=>[.bool v.null, .int v.n]::eB vs
@[simp] theorem PY:∀ l:List Val,(eB l).length=l.length
  | []=>rfl
  | _::l=>by simp[eB,PY l]
theorem iZ:∀ {l:List Val} {i:Nat} {v:Val},l[i]?=some v→gF (eB l) i=some [.bool v.null, .int v.n]
 | [],_,_,e=>by simp at e
 | a::l,0,v,e=>by simp at e;subst e;simp[eB,gF]
 | a::l,i+1,v,e=>by simp only[eB,gF];exact iZ (by simpa using e)
@[simp] theorem PW:∀ l:List Val,fP 2 (eB l)=true
  | []=>rfl
  | _::l=>by have:=PW l;simp only[fP]at this;simp[eB,fP,this]
@[simp] theorem ZO:∀ (n:Nat) (l:List Val),(eB l).take n=eB (l.take n)
  | 0,l=>by simp[eB]
  | n+1,[]=>by simp[eB]
  | n+1,e::l=>by simp[eB,ZO n l]
theorem PZ (a b:List Val):eB (a++b)=eB a++eB b:=by
 induction a with
 | nil=>simp[eB]
 | cons e a ih=>simp[eB,ih]
def stV (v:Val):Int:=if v.null=true then 4 else if v.n=0 then 1 else 2
def orS (a b:Int):Int:=((a.toNat ||| b.toNat:Nat):Int)
def jY (a:Int) (s:Int):Bool:=decide (a / s % 2=1)
def exS (a:Int):List Val:=(if jY a 1=true then [⟨false,0⟩]else [])++((if jY a 2=true then [⟨false,1⟩]else [])++(if jY a 4=true then [⟨true,0⟩]else []))
def lJ (k:Int) (a b:Int):Int :=
 if k=8∨k=9 then(exS a).foldl (fun s v=>(exS b).foldl (fun s w=>orS s (stV (Val.cmb k v w))) s) 0
 else orS (if jY (orS a b) 4=true then 4 else 0) (if(jY a 1 || jY a 2)=true∧(jY b 1 || jY b 2)=true then(if k<6 then 7 else 3)else 0)
def AU4 (a:Int):Int:=(if jY a 4=true then 4 else 0)+((if jY a 1=true then 2 else 0)+(if jY a 2=true then 1 else 0))
def AU3 (a:Int):Int:=(if jY a 4=true then 2 else 0)+(if(jY a 1 || jY a 2)=true then 1 else 0)
mutual
def JU (st:List Int):Ex→Int
 | .mk k c v ks=>if k=1 then(st[c.toNat]?).getD 0 else if k=2 then stV v else if k=10 then AU4 ((RQ st ks)[0]?.getD 0)else if k=11 then AU3 ((RQ st ks)[0]?.getD 0)else lJ k ((RQ st ks)[0]?.getD 0) ((RQ st ks)[1]?.getD 0)
def RQ (st:List Int):List Ex→List Int
 | []=>[]
 | e::es=>JU st e::RQ st es
end
theorem RP (st:List Int):∀ l,RQ st l=l.map (JU st)
 | []=>by simp[RQ]
 | e::es=>by simp[RQ,RP st es]
def kK (width left:Int):List Int:=(List.range width.toNat).map fun(i:Nat)=>if left≤(i:Int)then 4 else 7
def AE5 (e:Ex) (width left:Int):Bool:=!jY (JU (kK width left) e) 2
def Pn.ex0 (p:Pn):Ex:=(p.exprs[0]?).getD Ex.zero
def Pn.kG (p:Pn):Pn:=(p.kids[0]?).getD Pn.zero
def Pn.sM (p:Pn):Pn:=(p.kids[1]?).getD Pn.zero
def Ex.kG (e:Ex):Ex:=(e.kids[0]?).getD Ex.zero
def Ex.sM (e:Ex):Ex:=(e.kids[1]?).getD Ex.zero
def Ex.cin (e:Ex) (lo hi:Int):Bool:=e.uP fun c=>decide (lo≤c∧c<hi)
def rwF (ws:List Int) (rule:Int) (e:Ex) (k:Pn):Option Pn :=
 if rule=1∧k.kind=2 then some (filt (Z7 k.ex0 e) k.kG)
 else if rule=2∧e.kind=8 then some (filt e.sM (filt e.kG k))
 else if rule=3∧(k.kind=4∨k.kind=5)∧e.cin 0 (k.kG.wd ws 8)=true then some (bA k.kind k.ex0 (filt e k.kG) k.sM)
 else if rule=4∧k.kind=4∧e.cin (k.kG.wd ws 8) (k.wd ws 8)=true then some (bA 4 k.ex0 k.kG (filt (e.vN (·-k.kG.wd ws 8)) k.sM))
 else if rule=5∧k.kind=4 then some (bA 4 (Z7 k.ex0 e) k.kG k.sM)
 else if rule=7∧k.kind=5∧AE5 e (k.wd ws 8) (k.kG.wd ws 8)=true then some (filt e (bA 4 k.ex0 k.kG k.sM))
 else if rule=8∧k.kind=6 then some (bY (filt e k.kG) (filt e k.sM))
 else if rule=10∧k.kind=3 then some (proj k.exprs (filt (e.sub k.exprs) k.kG))
 else none
def pO (a b c:Int):Int:=if c<a then c+b else c-a
def rwP (ws:List Int) (rule:Int) (p:Pn):Option Pn :=
 if p.kind=2 then rwF ws rule p.ex0 p.kG
 else if rule=6∧p.kind=4 then some (proj (aV (p.sM.wd ws 8) (p.kG.wd ws 8).toNat++aV 0 (p.sM.wd ws 8).toNat) (bA 4 (p.ex0.vN (pO (p.kG.wd ws 8) (p.sM.wd ws 8))) p.sM p.kG))
 else if rule=9∧p.kind=7∧(p.kG.kind=7∨p.kG.kind=8)then some p.kG
 else if rule=11∧p.kind=3∧p.kG.kind=3 then some (proj (p.exprs.map (Ex.sub p.kG.exprs)) p.kG.kG)
 else none
def rwL (ws:List Int) (rule:Int) (lv:Nat) (p:Pn):Option Pn:=(rwP ws rule p).bind fun q=>if q.wd ws lv≠0 then some q else none
def Wd (ws:List Int) (p:Pn) (W:Int):Prop:=∃ lv,p.wd ws lv=W∧W≠0
theorem pJ {ws:List Int} {p:Pn} {A B:Int} (ha:Wd ws p A) (hb:Wd ws p B):A=B:=by
 obtain⟨i,rfl,h1⟩:=ha;obtain⟨j,rfl,h2⟩:=hb
 rcases Nat.le_total i j with h|h
 ·exact(Pn.iQ p i j h1 h).symm
 ·exact Pn.iQ p j i h2 h
theorem AKE {ws:List Int} {p:Pn} {A:Int} {lv:Nat} (ha:Wd ws p A) (h:p.wd ws lv≠0):p.wd ws lv=A:=pJ ⟨lv,rfl,h⟩ ha
theorem mD {ws:List Int} {p:Pn} {lv:Nat} (h:p.wd ws lv≠0):Wd ws p (p.wd ws lv):=⟨lv,rfl,h⟩
theorem iB {ws:List Int} {e:Ex} {k:Pn} {W:Int} (h:Wd ws (filt e k) W):Wd ws k W∧e.ok W=true:=by
 obtain⟨lv,rfl,h⟩:=h;obtain⟨m,rfl⟩:=PR h (by simp[filt]);rw[F5]at h ⊢;obtain⟨hc,-⟩:=gK h;rw[if_pos hc];exact⟨⟨m,rfl,hc.1⟩,hc.2⟩
theorem wE {ws:List Int} {es:List Ex} {k:Pn} {W:Int} (h:Wd ws (proj es k) W):∃ V,Wd ws k V∧bE es.length=true∧es.all (Ex.ok V)=true∧W=es.length:=by
 obtain⟨lv,rfl,h⟩:=h;obtain⟨m,rfl⟩:=PR h (by simp[proj]);rw[AY]at h ⊢;obtain⟨hc,-⟩:=gK h;rw[if_pos hc];exact⟨_,⟨m,rfl,hc.1⟩,hc.2.1,hc.2.2,rfl⟩
theorem qY {ws:List Int} {kd:Int} {e:Ex} {a b:Pn} {W:Int} (hk:kd=4∨kd=5) (h:Wd ws (bA kd e a b) W):∃ A B,Wd ws a A∧Wd ws b B∧A+B≤6∧e.ok (A+B)=true∧W=A+B:=by
 obtain⟨lv,rfl,h⟩:=h;obtain⟨m,rfl⟩:=PR h (by simp[bA]);rw[EZ hk]at h ⊢;obtain⟨hc,-⟩:=gK h;rw[if_pos hc];exact⟨_,_,⟨m,rfl,hc.1⟩,⟨m,rfl,hc.2.1⟩,hc.2.2.1,hc.2.2.2,rfl⟩
theorem ZE {ws:List Int} {a b:Pn} {W:Int} (h:Wd ws (bY a b) W):Wd ws a W∧Wd ws b W:=by
 obtain⟨lv,rfl,h⟩:=h;obtain⟨m,rfl⟩:=PR h (by simp[bY]);rw[XA]at h ⊢;obtain⟨hc,-⟩:=gK h;rw[if_pos hc];exact⟨⟨m,rfl,hc.1⟩,⟨m,hc.2.symm,hc.1⟩⟩
theorem AKD {ws:List Int} {a:Pn} {W:Int} (h:Wd ws (.mk 7 0 [] [] [a]) W):Wd ws a W:=by
 obtain⟨lv,rfl,h⟩:=h;obtain⟨m,rfl⟩:=PR h (by simp);rw[PQ (by omega)]at h ⊢;obtain⟨hc,h2⟩:=gK h;rw[if_pos hc];refine⟨m,?_,h2⟩;simp[dB]
theorem AU {ws:List Int} {p:Pn} {W:Int} (h:Wd ws p W):∃ lv,Shape ws lv p:=by
 obtain⟨lv,rfl,h⟩:=h;exact⟨lv,nJ h⟩
theorem pI {ws:List Int} {p:Pn} {W:Int} (h:Wd ws p W) (hk:p.kind=2):∃ e a,p=filt e a:=by
 obtain⟨lv,hs⟩:=AU h
 cases hs with
 | filt m e a=>exact⟨e,a,rfl⟩
 | scan|proj|union|dist|group=>simp[Pn.scan,proj,bY]at hk
 | pair m k e a b h1 h2=>simp[bA]at hk;omega
theorem o5 {ws:List Int} {p:Pn} {W:Int} (h:Wd ws p W) (hk:p.kind=3):∃ es a,p=proj es a:=by
 obtain⟨lv,hs⟩:=AU h
 cases hs with
 | proj m e a=>exact⟨e,a,rfl⟩
 | scan|filt|union|dist|group=>simp[Pn.scan,filt,bY]at hk
 | pair m k e a b h1 h2=>simp[bA]at hk;omega
theorem jG {ws:List Int} {p:Pn} {W:Int} (h:Wd ws p W) (hk:p.kind=4∨p.kind=5):∃ e a b,p=bA p.kind e a b:=by
 obtain⟨lv,hs⟩:=AU h
 cases hs with
 | proj|scan|filt|union|dist|group=>simp[Pn.scan,filt,bY,proj]at hk
 | pair m k e a b h1 h2=>exact⟨e,a,b,rfl⟩
theorem AGX {ws:List Int} {p:Pn} {W:Int} (h:Wd ws p W) (hk:p.kind=6):∃ a b,p=bY a b:=by
 obtain⟨lv,hs⟩:=AU h
 cases hs with
 | union m a b=>exact⟨a,b,rfl⟩
 | scan|filt|proj|dist|group=>simp[Pn.scan,filt,proj]at hk
 | pair m k e a b h1 h2=>simp[bA]at hk;omega
theorem AGY {ws:List Int} {p:Pn} {W:Int} (h:Wd ws p W) (hk:p.kind=7):∃ a,p=.mk 7 0 [] [] [a]:=by
 obtain⟨lv,hs⟩:=AU h
 cases hs with
 | dist m a=>exact⟨a,rfl⟩
 | scan|filt|proj|union|group=>simp[Pn.scan,filt,proj,bY]at hk
 | pair m k e a b h1 h2=>simp[bA]at hk;omega
theorem AM1 {ws:List Int} (hw:∀ w∈ws,0≤w∧w≤6) {p:Pn} {W:Int} (h:Wd ws p W):0<W∧W≤6:=by
 obtain⟨lv,rfl,h0⟩:=h;have:=Pn.iD hw p lv;omega
theorem ADN {ws:List Int} {rule:Int} {e:Ex} {k q:Pn} {W V:Int} (hp:Wd ws (filt e k) W) (h:rwF ws rule e k=some q) (hq:Wd ws q V):V=W:=by
 obtain⟨hk,he⟩:=iB hp;unfold rwF at h;split at h
 ·rename_i hc;injection h with h;subst h;obtain⟨f,a,rfl⟩:=pI hk hc.2;exact pJ (iB hq).1 (iB hk).1
 split at h
 ·injection h with h;subst h;exact pJ (iB (iB hq).1).1 hk
 split at h
 ·rename_i hc;injection h with h;subst h;obtain⟨f,a,b,hx⟩:=jG hk hc.2.1;have h2:=hc.2.1;generalize k.kind=kd at *
  subst hx;obtain⟨A,B,ha,hb,-,-,rfl⟩:=qY h2 hk;obtain⟨A',B',ha',hb',-,-,rfl⟩:=qY h2 hq;rw[pJ (iB ha').1 ha,pJ hb' hb]
 split at h
 ·rename_i hc;injection h with h;subst h;obtain⟨f,a,b,hx⟩:=jG hk (.inl hc.2.1);rw[hc.2.1]at hx;subst hx;obtain⟨A,B,ha,hb,-,-,rfl⟩:=qY (by omega) hk;obtain⟨A',B',ha',hb',-,-,rfl⟩:=qY (by omega) hq;rw[pJ ha' ha,pJ (iB hb').1 hb]
 split at h
 ·rename_i hc;injection h with h;subst h;obtain⟨f,a,b,hx⟩:=jG hk (.inl hc.2);rw[hc.2]at hx;subst hx;obtain⟨A,B,ha,hb,-,-,rfl⟩:=qY (by omega) hk;obtain⟨A',B',ha',hb',-,-,rfl⟩:=qY (by omega) hq;rw[pJ ha' ha,pJ hb' hb]
 split at h
 ·rename_i hc;injection h with h;subst h;obtain⟨f,a,b,hx⟩:=jG hk (.inr hc.2.1);rw[hc.2.1]at hx;subst hx;obtain⟨A,B,ha,hb,-,-,rfl⟩:=qY (by omega) hk;obtain⟨A',B',ha',hb',-,-,rfl⟩:=qY (by omega) (iB hq).1;rw[pJ ha' ha,pJ hb' hb]
 split at h
 ·rename_i hc;injection h with h;subst h;obtain⟨a,b,rfl⟩:=AGX hk hc.2;exact pJ (iB (ZE hq).1).1 (ZE hk).1
 split at h
 ·rename_i hc;injection h with h;subst h;obtain⟨es,a,rfl⟩:=o5 hk hc.2;obtain⟨A,-,-,-,rfl⟩:=wE hk;obtain⟨B,-,-,-,rfl⟩:=wE hq;rfl
 ·cases h
theorem QP {ws:List Int} (hw:∀ w∈ws,0≤w∧w≤6) {rule:Int} {p q:Pn} {W V:Int} (hp:Wd ws p W) (h:rwP ws rule p=some q) (h8:p.wd ws 8≠0) (hq:Wd ws q V):V=W:=by
 unfold rwP at h;split at h
 ·rename_i hc;obtain⟨e,a,rfl⟩:=pI hp hc;exact ADN hp h hq
 split at h
 ·rename_i hc;injection h with h;subst h;obtain⟨f,a,b,hx⟩:=jG hp (.inl hc.2);rw[hc.2]at hx;subst hx;obtain⟨A,B,ha,hb,hab,-,rfl⟩:=qY (by omega) hp;obtain⟨C,hC,-,-,rfl⟩:=wE hq;have h7:=h8;rw[EZ (by omega)]at h7;obtain⟨⟨g1,g2,-⟩,-⟩:=gK h7;have e1:a.wd ws 8=A:=by rw[Pn.iQ a 7 8 g1 (by omega)];exact AKE ha g1
  have e2:b.wd ws 8=B:=by rw[Pn.iQ b 7 8 g2 (by omega)];exact AKE hb g2
  have:=AM1 hw ha;have:=AM1 hw hb;simp[bA,Pn.kG,Pn.sM,e1,e2];omega
 split at h
 ·rename_i hc;injection h with h;subst h;obtain⟨a,rfl⟩:=AGY hp hc.2.1;exact pJ hq (AKD hp)
 split at h
 ·rename_i hc;injection h with h;subst h;obtain⟨es,a,rfl⟩:=o5 hp hc.2.1;obtain⟨A,-,-,-,rfl⟩:=wE hp;obtain⟨B,-,-,-,rfl⟩:=wE hq;simp[proj]
 ·cases h
def Pn.at:List Int→Pn→Option Pn
 | [],p=>some p
 | i::r,p=>if 0≤i then(p.kids[i.toNat]?).bind (Pn.at r)else none
def Pn.put:List Int→Pn→Pn→Pn
 | [],_,q=>q
 | i::r,p,q=>.mk p.kind p.table p.exprs p.cols (p.kids.set i.toNat (Pn.put r ((p.kids[i.toNat]?).getD Pn.zero) q))
theorem Pn.qU {i:Int} {r:List Int} {p a:Pn} (h:Pn.at (i::r) p=some a):∃ n:Nat,i=n∧∃ b,p.kids[n]?=some b∧Pn.at r b=some a:=by
 unfold Pn.at at h;split at h
 ·rename_i h0;obtain⟨n,rfl⟩:=zB h0
  cases hb:p.kids[n]? with
  | none=>simp[hb]at h
  | some b=>exact⟨n,rfl,b,hb,by simpa [hb]using h⟩
 ·cases h
theorem Pn.EH {n:Nat} {r:List Int} {p b:Pn} (q:Pn) (h:p.kids[n]?=some b):Pn.put ((n:Int)::r) p q=.mk p.kind p.table p.exprs p.cols (p.kids.set n (Pn.put r b q)):=by
 simp[Pn.put,h]
theorem AHP {ws:List Int} {lv:Nat} {k t:Int} {es:List Ex} {cs:List Int} {ks ls:List Pn} (h:ks.map (Pn.wd ws (lv-1))=ls.map (Pn.wd ws (lv-1))):(Pn.mk k t es cs ks).wd ws lv=(Pn.mk k t es cs ls).wd ws lv:=by
 have hl:ks.length=ls.length:=by have:=congrArg List.length h;simpa using this
 have hn:ks=[]↔ls=[]:=by rw[← List.length_eq_zero_iff,← List.length_eq_zero_iff,hl]
 have ho:(Pn.mk k t es cs ks).headOk=(Pn.mk k t es cs ls).headOk:=by simp[Pn.headOk,hl];congr
 simp only[Pn.wd,Pn.UR,h,ho,hn]
theorem K6 {ws:List Int}:∀ (path:List Int) (p:Pn) (lv:Nat) (a:Pn),p.wd ws lv≠0→Pn.at path p=some a→path.length≤lv∧a.wd ws (lv-path.length)≠0
 | [],p,lv,a,h,e=>by simp[Pn.at]at e;subst e;exact⟨by simp,by simpa using h⟩
 | i::r,p,lv,a,h,e=>by
  obtain⟨n,rfl,b,hb,hr⟩:=Pn.qU e;obtain⟨m,rfl⟩:=PR h (fun e=>by rw[e]at hb;simp at hb);rw[Pn.uZ]at h;obtain⟨hc,h⟩:=gK h
  have hbw:b.wd ws m≠0:=by
   by_cases h1:p.kind=1
   ·have:=Pn.vQ hc.1 h1;rw[this]at hb;simp at hb
   ·simp only[h1,if_false]at h;obtain⟨hall,-⟩:=gK h;simpa using zS.1 hall b (zV hb)
  have:=K6 r b m a hbw hr;simp only[zQ];exact⟨by omega,by rw[show m+1-(r.length+1)=m-r.length by omega];exact this.2⟩
theorem AL5 {q:Pn}:∀ (path:List Int) (p a:Pn),Pn.at path p=some a→Pn.at path (Pn.put path p q)=some q
 | [],p,a,e=>by simp[Pn.at,Pn.put]
 | i::r,p,a,e=>by
  obtain⟨n,rfl,b,hb,hr⟩:=Pn.qU e;have hl:=(zZ.1 hb).1;rw[Pn.EH q hb];have:=AL5 (q:=q) r b a hr;simp[Pn.at,hl,this]
theorem AE9 {ws:List Int} {q:Pn}:∀ (path:List Int) (p:Pn) (lv:Nat) (a:Pn),path.length≤lv→Pn.at path p=some a→q.wd ws (lv-path.length)=a.wd ws (lv-path.length)→(Pn.put path p q).wd ws lv=p.wd ws lv
 | [],p,lv,a,_,e,h=>by simp[Pn.at]at e;subst e;simpa [Pn.put]using h
 | i::r,p,lv,a,hl,e,h=>by
  obtain⟨n,rfl,b,hb,hr⟩:=Pn.qU e;rw[Pn.EH q hb];simp only[zQ]at hl h;have:=AE9 (q:=q) r b (lv-1) a (by omega) hr (by rw[show lv-1-r.length=lv-(r.length+1)by omega];exact h);obtain⟨k,t,es,cs,ks⟩:=p;apply AHP;simp only[Pn.iW]at hb ⊢;rw[List.map_set,this];apply List.ext_getElem?;intro j;rw[List.getElem?_set];split
  ·rename_i hj;subst hj;have hlt:=(zZ.1 hb).1;rw[zX hlt]at hb;injection hb with hb;simp[hb,hlt]
  ·rfl
def apI (ws:List Int) (rule:Int) (path:List Int) (p:Pn):Option Pn :=
 if path.length≤8 then(Pn.at path p).bind fun a=>(rwL ws rule (8-path.length) a).map (Pn.put path p)else none
def apS (ws:List Int) (rule:Int) (path:List Int) (p:Pn):Option Pn :=
 (Pn.at path p).bind fun a=>(rwP ws rule a).bind fun q=>if(Pn.put path p q).wd ws 8≠0 then some (Pn.put path p q)else none
theorem AK7 {ws:List Int} (hw:∀ w∈ws,0≤w∧w≤6) {rule:Int} {path:List Int} {p:Pn} (hp:p.wd ws 8≠0):apI ws rule path p=apS ws rule path p:=by
 unfold apI apS
 cases ha:Pn.at path p with
 | none=>simp
 | some a =>
  obtain⟨hl,hv⟩:=K6 path p 8 a hp ha;simp only[hl,if_true,yP];unfold rwL
  cases hr:rwP ws rule a with
  | none=>simp
  | some q =>
   simp only[yP];have h8:a.wd ws 8≠0:=by rw[Pn.iQ a _ 8 hv (by omega)];exact hv
   by_cases hq:q.wd ws (8-path.length)=0
   ·have:(Pn.put path p q).wd ws 8=0:=by
     by_cases h0:(Pn.put path p q).wd ws 8=0
     ·exact h0
     ·exact absurd hq (K6 path _ 8 q h0 (AL5 path p a ha)).2
    simp[hq,this]
   ·have e:=QP hw (mD hv) hr h8 (mD hq);have:(Pn.put path p q).wd ws 8=p.wd ws 8:=AE9 path p 8 a hl ha e;simp[hq,this,hp]
theorem ATD {ws:List Int} (hw:∀ w∈ws,0≤w∧w≤6) {rule:Int} {path:List Int} {p q:Pn} (hp:p.wd ws 8≠0) (h:apS ws rule path p=some q):q.wd ws 8=p.wd ws 8:=by
 rw[← AK7 hw hp]at h;unfold apI at h;split at h
 ·rename_i hl
  cases ha:Pn.at path p with
  | none=>simp[ha]at h
  | some a =>
   obtain⟨-,hv⟩:=K6 path p 8 a hp ha;simp only[ha,yP,rwL]at h
   cases hr:rwP ws rule a with
   | none=>simp[hr]at h
   | some x =>
    have h8:a.wd ws 8≠0:=by rw[Pn.iQ a _ 8 hv (by omega)];exact hv
    simp only[hr,yP]at h;by_cases hq:x.wd ws (8-path.length)=0
    ·simp[hq]at h
    ·simp only[hq,ne_eq,not_false_eq_true,if_true,xU,Option.some.injEq]at h;subst h;exact AE9 path p 8 a hl ha (QP hw (mD hv) hr h8 (mD hq))
 ·cases h
def rules:List Int:=[1,2,3,4,5,6,7,8,9,10,11]
abbrev Stp:=Int×List Int
mutual
def stI (ws:List Int):List Int→Pn→List Stp
 | path, .mk k t es cs ks=>((rules.filter fun r=>(rwL ws r (8-path.length) (.mk k t es cs ks)).isSome).map fun r=>(r,path))++oP ws path 0 ks
def oP (ws:List Int):List Int→Nat→List Pn→List Stp
 | _,_,[]=>[]
 | path,i,p::ps=>stI ws (path++[(i:Int)]) p++oP ws path (i+1) ps
end
mutual
def nU:List Int→Pn→List (List Int)
 | path, .mk _ _ _ _ ks=>path::eF path 0 ks
def eF:List Int→Nat→List Pn→List (List Int)
 | _,_,[]=>[]
 | path,i,p::ps=>nU (path++[(i:Int)]) p++eF path (i+1) ps
end
def atS (ws:List Int) (p:Pn) (path:List Int):List Stp:=(rules.filter fun r=>(apS ws r path p).isSome).map fun r=>(r,path)
def stS (ws:List Int) (p:Pn):List Stp:=(nU [] p).flatMap (atS ws p)
theorem AKY (ws:List Int) (path:List Int) (p:Pn):stI ws path p=((rules.filter fun r=>(rwL ws r (8-path.length) p).isSome).map fun r=>(r,path))++oP ws path 0 p.kids:=by
 obtain⟨k,t,es,cs,ks⟩:=p;simp[stI]
theorem GD (path:List Int) (p:Pn):nU path p=path::eF path 0 p.kids:=by
 obtain⟨k,t,es,cs,ks⟩:=p;simp[nU]
theorem tO:∀ (path:List Int) (p a:Pn) (r:List Int),Pn.at path p=some a→Pn.at (path++r) p=Pn.at r a
 | [],p,a,r,e=>by simp[Pn.at]at e;subst e;rfl
 | i::s,p,a,r,e=>by
  obtain⟨n,rfl,b,hb,hr⟩:=Pn.qU e;have:=tO s b a r hr;simp[Pn.at,hb,this]
theorem AMQ {ws:List Int} (hw:∀ w∈ws,0≤w∧w≤6) {p:Pn} (hp:p.wd ws 8≠0):∀ (a:Pn) (path:List Int),Pn.at path p=some a→stI ws path a=(nU path a).flatMap (atS ws p):=by
 intro a
 induction a using Pn.ind with
 | h k t es cs ks ih =>
  intro path ha;have hl:=(K6 path p 8 _ hp ha).1;rw[AKY,GD,List.flatMap_cons];congr 1
  ·unfold atS;congr 1;apply List.filter_congr;intro r _;rw[← AK7 hw hp];simp[apI,hl,ha]
  ·simp only[Pn.iW]
   have:∀ (l:List Pn) (i:Nat),(∀ j b,l[j]?=some b→b∈ks∧ks[i+j]?=some b)→oP ws path i l=(eF path i l).flatMap (atS ws p):=by
    intro l
    induction l with
    | nil=>intro i _;simp[oP,eF]
    | cons b l ihl =>
     intro i h;simp only[oP,eF,List.flatMap_append];have h0:=h 0 b (by simp);rw[ih b h0.1 (path++[(i:Int)]) (by rw[tO path p _ _ ha];simp[Pn.at];simpa using h0.2),ihl (i+1) fun j c hj=>by have:=h (j+1) c (by simpa using hj);rw[show i+1+j=i+(j+1)by omega];exact this]
   exact this ks 0 fun j b hj=>⟨List.mem_of_getElem? hj,by simpa using hj⟩
theorem BC {ws:List Int} (hw:∀ w∈ws,0≤w∧w≤6) {p:Pn} (hp:p.wd ws 8≠0):stI ws [] p=stS ws p:=AMQ hw hp p [] rfl
theorem KZ:∀ (a:Pn) (path q:List Int),q∈nU path a↔∃ r,q=path++r∧(Pn.at r a).isSome=true:=by
 intro a
 induction a using Pn.ind with
 | h k t es cs ks ih =>
  intro path q;rw[GD];simp only[Pn.iW,zO]
  have:∀ (l:List Pn) (i:Nat),(∀ b∈l,b∈ks)→(q∈eF path i l↔∃ j b r,l[j]?=some b∧q=path++((i+j:Nat):Int)::r∧(Pn.at r b).isSome=true):=by
   intro l
   induction l with
   | nil=>intro i _;simp[eF]
   | cons b l ihl =>
    intro i h;simp only[eF,zT];rw[ih b (h b (by simp)),ihl (i+1) fun c hc=>h c (by simp[hc])];constructor
    ·rintro(⟨r,rfl,hr⟩|⟨j,c,r,hj,rfl,hr⟩)
     ·exact⟨0,b,r,by simp,by simp,hr⟩
     ·exact⟨j+1,c,r,by simpa using hj,by rw[show i+1+j=i+(j+1)by omega],hr⟩
    ·rintro⟨j,c,r,hj,rfl,hr⟩
     cases j with
     | zero=>simp at hj;subst hj;exact .inl ⟨r,by simp,hr⟩
     | succ j=>exact .inr ⟨j,c,r,by simpa using hj,by rw[show i+1+j=i+(j+1)by omega],hr⟩
  rw[this ks 0 fun b hb=>hb];constructor
  ·rintro(rfl|⟨j,b,r,hj,rfl,hr⟩)
   ·exact⟨[],by simp,by simp[Pn.at]⟩
   ·exact⟨((0+j:Nat):Int)::r,rfl,by simp[Pn.at,hj,hr]⟩
  ·rintro⟨r,rfl,hr⟩
   cases r with
   | nil=>left;simp
   | cons i r =>
    right;obtain⟨x,hx⟩:=xS.1 hr;obtain⟨n,rfl,b,hb,hb2⟩:=Pn.qU hx;exact⟨n,b,r,by simpa using hb,by simp,by rw[hb2];rfl⟩
theorem AIF {ws:List Int} {rule:Int} {e:Ex} {k q:Pn} (h:rwF ws rule e k=some q):rule∈rules:=by
 unfold rwF at h;unfold rules;split at h
 ·rename_i hc;simp[hc.1]
 split at h
 ·rename_i hc;simp[hc.1]
 split at h
 ·rename_i hc;simp[hc.1]
 split at h
 ·rename_i hc;simp[hc.1]
 split at h
 ·rename_i hc;simp[hc.1]
 split at h
 ·rename_i hc;simp[hc.1]
 split at h
 ·rename_i hc;simp[hc.1]
 split at h
 ·rename_i hc;simp[hc.1]
 ·cases h
theorem XN {ws:List Int} {rule:Int} {p q:Pn} (h:rwP ws rule p=some q):rule∈rules:=by
 unfold rwP at h;split at h
 ·exact AIF h
 unfold rules;split at h
 ·rename_i hc;simp[hc.1]
 split at h
 ·rename_i hc;simp[hc.1]
 split at h
 ·rename_i hc;simp[hc.1]
 ·cases h
theorem AM0 {ws:List Int} {rule:Int} {path:List Int} {p q:Pn} (h:apS ws rule path p=some q):rule∈rules∧(Pn.at path p).isSome=true:=by
 unfold apS at h
 cases ha:Pn.at path p with
 | none=>simp[ha]at h
 | some a =>
  simp only[ha,yP]at h
  cases hr:rwP ws rule a with
  | none=>simp[hr]at h
  | some x=>exact⟨XN hr,rfl⟩
theorem ADF {ws:List Int} {p:Pn} {s:Stp}:s∈stS ws p↔(apS ws s.1 s.2 p).isSome=true:=by
 unfold stS atS;obtain⟨r,path⟩:=s;simp only[List.mem_flatMap,yF,List.mem_filter,Prod.mk.injEq];constructor
 ·rintro⟨q,hq,r',⟨h1,h2⟩,rfl,rfl⟩;exact h2
 ·intro h;obtain⟨x,hx⟩:=xS.1 h;obtain⟨h1,h2⟩:=AM0 hx;exact⟨path,(KZ p [] path).2 ⟨path,by simp,h2⟩,r,⟨h1,h⟩,rfl,rfl⟩
mutual
def Ex.bits:Ex→Nat
 | .mk k c _ ks=>if k=1 then 2 ^ c.toNat else Ex.qQ ks
def Ex.qQ:List Ex→Nat
 | []=>0
 | e::es=>Ex.bits e ||| Ex.qQ es
end
theorem Ex.OZ {e:Ex} (h:e.kind=1):e.bits=2 ^ e.col.toNat:=by
 cases e;simp[Ex.kind]at h;simp[Ex.bits,h,Ex.col]
theorem Ex.OX {e:Ex} (h:e.kind≠1):e.bits=Ex.qQ e.kids:=by
 cases e;simp[Ex.kind]at h;simp[Ex.bits,h,Ex.kids]
theorem Ex.BX:∀ (l:List Ex) (e:Ex),Ex.qQ (l++[e])=Ex.qQ l ||| e.bits
 | [],e=>by simp[Ex.qQ]
 | a::l,e=>by simp[Ex.qQ,Ex.BX l e,Nat.or_assoc]
theorem Ex.P5 {n:Nat}:∀ {l:List Ex},(∀ e∈l,e.bits<2 ^ n)→Ex.qQ l<2 ^ n
 | [],_=>by simp[Ex.qQ];exact Nat.two_pow_pos n
 | a::l,h=>by
  simp only[Ex.qQ];exact xH (h a (by simp)) (Ex.P5 fun e he=>h e (by simp[he]))
theorem Ex.OY:∀ e:Ex,e.uP (fun c=>decide (0≤c∧c<6))=true→e.bits<2 ^ 6:=by
 intro e
 induction e using Ex.ind with
 | h k c v ks ih =>
  intro ha;rw[Ex.lH]at ha;by_cases h1:k=1
  ·subst h1;simp only[Ex.kind,Ex.col,if_true]at ha;have ha:=zR ha;rw[Ex.OZ (by rfl)];exact Nat.pow_lt_pow_right (by omega) (by simp only[Ex.col];omega)
  ·simp only[Ex.kind,Ex.kids,h1,if_false,zS]at ha;rw[Ex.OX (by simpa [Ex.kind]using h1)];exact Ex.P5 fun e he=>ih e he (ha e he)
theorem Ex.U6 (i:Nat):∀ l:List Ex,(Ex.qQ l).testBit i=l.any fun e=>e.bits.testBit i
 | []=>by simp[Ex.qQ]
 | a::l=>by simp[Ex.qQ,Ex.U6 i l]
theorem Ex.EQ (i:Nat):∀ e:Ex,e.uP (fun c=>decide (0≤c))=true→(e.bits.testBit i=true↔e.uP (fun c=>!decide (c=i))=false):=by
 intro e
 induction e using Ex.ind with
 | h k c v ks ih =>
  intro ha;rw[Ex.lH]at ha ⊢;by_cases h1:k=1
  ·subst h1;simp only[Ex.kind,Ex.col,if_true]at ha ⊢;have ha:=zR ha;rw[Ex.OZ (by rfl),Nat.testBit_two_pow];simp only[Ex.col];rw[Bool.not_eq_false'];exact⟨fun h=>decide_eq_true (by have:=zR h;omega),fun h=>decide_eq_true (by have:=zR h;omega)⟩
  ·simp only[Ex.kind,Ex.kids,h1,if_false,zS]at ha ⊢;rw[Ex.OX (by simpa [Ex.kind]using h1),Ex.U6];simp only[Ex.kids,List.any_eq_true];rw[List.all_eq_false];constructor
   ·rintro⟨e,he,hb⟩;exact⟨e,he,by rw[(ih e he (ha e he)).1 hb];simp⟩
   ·rintro⟨e,he,hb⟩;exact⟨e,he,(ih e he (ha e he)).2 (by simpa using hb)⟩
theorem Ex.JE {f:Int→Bool}:∀ e:Ex,e.uP (fun c=>decide (0≤c))=true→(e.uP f=true↔∀ i:Nat,e.uP (fun c=>!decide (c=i))=false→f i=true):=by
 intro e
 induction e using Ex.ind with
 | h k c v ks ih =>
  intro ha;rw[Ex.lH]at ha ⊢;by_cases h1:k=1
  ·subst h1;simp only[Ex.kind,Ex.col,if_true]at ha ⊢;have ha:=zR ha;obtain⟨n,rfl⟩:=zB ha;constructor
   ·intro h i hi;rw[Ex.lH]at hi;simp only[Ex.kind,Ex.col,if_true]at hi;rw[Bool.not_eq_false']at hi;have hi:=zR hi;rw[← hi];exact h
   ·intro h;apply h n;rw[Ex.lH];simp[Ex.kind,Ex.col]
  ·simp only[Ex.kind,Ex.kids,h1,if_false,zS]at ha ⊢
   have hall:∀ i:Nat,Ex.uP (fun c=>!decide (c=i)) (.mk k c v ks)=ks.all (Ex.uP fun c=>!decide (c=i)):=fun i=>by
    rw[Ex.lH];simp[Ex.kind,Ex.kids,h1]
   constructor
   ·intro h i hi;rw[hall,List.all_eq_false]at hi;obtain⟨e,he,hb⟩:=hi;exact(ih e he (ha e he)).1 (h e he) i (by simpa using hb)
   ·intro h e he;refine(ih e he (ha e he)).2 fun i hi=>h i ?_
    rw[hall,List.all_eq_false];exact⟨e,he,by simp[hi]⟩
theorem APA {e:Ex} (h:e.uP (fun c=>decide (0≤c))=true) (w:Nat):e.bits / 2 ^ w=0↔e.uP (fun c=>decide (c<w))=true:=by
 rw[Ex.JE e h];constructor
 ·intro h0 i hi;have hb:=(Ex.EQ i e h).2 hi;simp only[zP];apply Classical.byContradiction;intro hn
  have:(e.bits / 2 ^ w).testBit (i-w)=true:=by
   rw[Nat.testBit_div_two_pow,show i-w+w=i by omega];exact hb
  rw[h0]at this;simp at this
 ·intro hall;apply Nat.eq_of_testBit_eq;intro i;rw[Nat.testBit_div_two_pow,Nat.zero_testBit]
  cases hb:e.bits.testBit (i+w)with
  | false=>rfl
  | true =>
   have:=hall (i+w) ((Ex.EQ (i+w) e h).1 hb);simp only[zP]at this;omega
theorem AP9 {e:Ex} (h:e.uP (fun c=>decide (0≤c))=true) (w:Nat):e.bits &&& (2 ^ w-1)=0↔e.uP (fun c=>decide ((w:Int)≤c))=true:=by
 rw[Ex.JE e h];constructor
 ·intro h0 i hi;have hb:=(Ex.EQ i e h).2 hi;simp only[zP];apply Classical.byContradiction;intro hn
  have:(e.bits &&& (2 ^ w-1)).testBit i=true:=by
   rw[Nat.testBit_and,hb,Nat.testBit_two_pow_sub_one];simp;omega
  rw[h0]at this;simp at this
 ·intro hall;apply Nat.eq_of_testBit_eq;intro i;rw[Nat.testBit_and,Nat.zero_testBit,Nat.testBit_two_pow_sub_one]
  cases hb:e.bits.testBit i with
  | false=>rfl
  | true =>
   have:=hall i ((Ex.EQ i e h).1 hb);simp only[zP]at this;simp;omega
def Pn.small (p:Pn):Prop:=p.size<1000000000∧p.thin∧p.tiny
noncomputable def TS:List AV→StL→Option (AV×StL)
 | [.i (.iref cs)],[]=>@ite _ (∃ p:Pn,p.small∧p.cells=cs) (Classical.propDecidable _) (some (.i (.agg cs),[])) none
 | _,_=>none
theorem YU {p:Pn} (h:p.small):TS [.i (.iref p.cells)] []=some (.i (.agg p.cells),[]):=by
 unfold TS;exact if_pos ⟨p,h,rfl⟩
theorem ABP {args:List AV} {st:StL} {r:AV×StL} (h:TS args st=some r):∃ p:Pn,p.small∧args=[.i (.iref p.cells)]∧st=[]∧r=(.i (.agg p.cells),[]):=by
 unfold TS at h;split at h
 ·rename_i cs;by_cases hc:∃ p:Pn,p.small∧p.cells=cs
  ·rw[if_pos hc]at h;obtain⟨p,h1,rfl⟩:=hc;injection h with h;exact⟨p,h1,rfl,rfl,h.symm⟩
  ·rw[if_neg hc]at h;cases h
 ·cases h
abbrev PL:=List ((Nat×Nat)×Pn)
structure At5 (w:World) (b o:Nat) (v0 v1 v2 v3 v4:Value):Prop where
 c0:w.cell? ⟨b,o,none⟩=some v0
 c1:w.cell? ⟨b,o+1,none⟩=some v1
 c2:w.cell? ⟨b,o+2,none⟩=some v2
 c3:w.cell? ⟨b,o+3,none⟩=some v3
 c4:w.cell? ⟨b,o+4,none⟩=some v4
theorem At5.frame {w w':World} {b o:Nat} {v0 v1 v2 v3 v4:Value} (h:At5 w b o v0 v1 v2 v3 v4) (hw:∀ j,o≤j→j<o+5→w'.cell? ⟨b,j,none⟩=w.cell? ⟨b,j,none⟩):At5 w' b o v0 v1 v2 v3 v4 :=
 ⟨(hw _ (by omega) (by omega)).trans h.c0,(hw _ (by omega) (by omega)).trans h.c1,(hw _ (by omega) (by omega)).trans h.c2,(hw _ (by omega) (by omega)).trans h.c3,(hw _ (by omega) (by omega)).trans h.c4⟩
mutual
inductive TH (w:World) (m:Mem):Pn→Nat→Nat→List Nat→PL→Prop
 | fresh {x:Pn} {b o:Nat} {v0 v1 v2 v3 v4:Value}:ICells m x.cells [v0,v1,v2,v3,v4]→At5 w b o v0 v1 v2 v3 v4→TH w m x b o [] [((b,o),x)]
 | leaf {k t:Int} {es:List Ex} {cs:List Int} {b o:Nat} {vE vC:Value} {ao:Option Addr} {cap:Nat}:At5 w b o (.int .i64 k) (.int .i64 t) vE vC (.slice ao 0 cap)→IRep m (.isl (Ex.aB es)) vE→IRep m (.isl (aG cs)) vC→(ao=none→cap=0)→TH w m (.mk k t es cs []) b o [] []
 | node {k t:Int} {es:List Ex} {cs:List Int} {ks:List Pn} {b o b' cap:Nat} {vE vC:Value} {F:List Nat} {H:PL}:At5 w b o (.int .i64 k) (.int .i64 t) vE vC (.slice (some ⟨b',0,none⟩) ks.length cap)→IRep m (.isl (Ex.aB es)) vE→IRep m (.isl (aG cs)) vC→ks≠[]→ks.length≤cap→THL w m ks b' 0 F H→TH w m (.mk k t es cs ks) b o (b'::F) H
inductive THL (w:World) (m:Mem):List Pn→Nat→Nat→List Nat→PL→Prop
 | nil (b o:Nat):THL w m [] b o [] []
 | cons {x:Pn} {xs:List Pn} {b o:Nat} {F1 F2:List Nat} {H1 H2:PL}:TH w m x b o F1 H1→THL w m xs b (o+5) F2 H2→THL w m (x::xs) b o (F1++F2) (H1++H2)
end
mutual
theorem TH.frame {w w':World} {m m':Mem} (hm:MLe m m') {x:Pn} {b o:Nat} {F:List Nat} {H:PL} (hw:∀ j,o≤j→j<o+5→w'.cell? ⟨b,j,none⟩=w.cell? ⟨b,j,none⟩) (hF:∀ f∈F,∀ j,w'.cell? ⟨f,j,none⟩=w.cell? ⟨f,j,none⟩):TH w m x b o F H→TH w' m' x b o F H
 | .fresh h1 h2=>.fresh (h1.mono hm) (h2.frame hw)
 | .leaf h1 h2 h3 h4=>.leaf (h1.frame hw) (h2.mono hm) (h3.mono hm) h4
 | .node h1 h2 h3 h4 h5 h6=>.node (h1.frame hw) (h2.mono hm) (h3.mono hm) h4 h5 (THL.frame hm (fun j _ _=>hF _ (by simp) j) (fun f hf=>hF f (by simp[hf])) h6)
theorem THL.frame {w w':World} {m m':Mem} (hm:MLe m m') {xs:List Pn} {b o:Nat} {F:List Nat} {H:PL} (hw:∀ j,o≤j→j<o+5*xs.length→w'.cell? ⟨b,j,none⟩=w.cell? ⟨b,j,none⟩) (hF:∀ f∈F,∀ j,w'.cell? ⟨f,j,none⟩=w.cell? ⟨f,j,none⟩):THL w m xs b o F H→THL w' m' xs b o F H
 | .nil b o=>.nil b o
 | .cons h1 h2=>.cons (TH.frame hm (fun j l1 l2=>hw j l1 (by simp only[zQ];omega)) (fun f hf=>hF f (by simp[hf])) h1) (THL.frame hm (fun j l1 l2=>hw j (by omega) (by simp only[zQ];omega)) (fun f hf=>hF f (by simp[hf])) h2)
end
mutual
theorem TH.holes {w:World} {m:Mem} {x:Pn} {b o:Nat} {F:List Nat} {H:PL}:TH w m x b o F H→∀ q∈H,q.1=(b,o)∨q.1.1∈F
 | .fresh _ _,q,hq=>by simp at hq;subst hq;exact .inl rfl
 | .leaf _ _ _ _,q,hq=>by simp at hq
 | .node _ _ _ _ _ h6,q,hq=>by
  rcases THL.holes h6 q hq with ⟨h,_⟩|h
  ·exact .inr (by simp[h])
  ·exact .inr (by simp[h])
theorem THL.holes {w:World} {m:Mem} {xs:List Pn} {b o:Nat} {F:List Nat} {H:PL}:THL w m xs b o F H→∀ q∈H,(q.1.1=b∧o≤q.1.2)∨q.1.1∈F
 | .nil _ _,q,hq=>by simp at hq
 | .cons h1 h2,q,hq=>by
  rcases zT.1 hq with h|h
  ·rcases TH.holes h1 q h with e|e
   ·exact .inl ⟨by rw[e],by rw[e];exact zM _⟩
   ·exact .inr (by simp[e])
  ·rcases THL.holes h2 q h with ⟨e1,e2⟩|e
   ·exact .inl ⟨e1,by omega⟩
   ·exact .inr (by simp[e])
end
mutual
theorem TH.fill {w w':World} {m m':Mem} (hm:MLe m m') {bq oq:Nat} {y:Pn} {G:List Nat} {HY:PL} (hy:TH w' m' y bq oq G HY) {x:Pn} {b o:Nat} {F:List Nat} {H:PL}:TH w m x b o F H→b ∉ F→F.Nodup→((bq,oq),y)∈H →
 (∀ f∈b::F,∀ j,(f≠bq∨j<oq∨oq+5≤j)→w'.cell? ⟨f,j,none⟩=w.cell? ⟨f,j,none⟩)→∃ F' H',TH w' m' x b o F' H'∧F'.Perm (F++G)∧(((bq,oq),y)::H').Perm (H++HY)
 | .fresh _ _,_,_,hq,_=>by
  simp at hq;obtain⟨⟨rfl,rfl⟩,rfl⟩:=hq;exact⟨G,HY,hy,by simp,by simp⟩
 | .leaf _ _ _ _,_,_,hq,_=>by simp at hq
 | .node h1 h2 h3 h4 h5 h6,hb,hn,hq,hw=>by
  rename_i b' cap vE vC F;have hb':b' ∉ F:=(yR.1 hn).1
  have hne:b≠bq:=by
   intro e
   rcases THL.holes h6 _ hq with ⟨e1,_⟩|e1
   ·exact hb (by simp at e1;simp[e,e1])
   ·exact hb (by simp at e1;simp[e,e1])
  obtain⟨F',H',k1,k2,k3⟩:=THL.fill hm hy h6 hb' (yR.1 hn).2 hq (fun f hf j hj=>hw f (by rcases zO.1 hf with rfl|h<;>simp[*]) j hj);exact⟨b'::F',H', .node (h1.frame fun j _ _=>hw b (by simp) j (.inl hne)) (h2.mono hm) (h3.mono hm) h4 h5 k1,k2.cons _,k3⟩
theorem THL.fill {w w':World} {m m':Mem} (hm:MLe m m') {bq oq:Nat} {y:Pn} {G:List Nat} {HY:PL} (hy:TH w' m' y bq oq G HY) {xs:List Pn} {b o:Nat} {F:List Nat} {H:PL}:THL w m xs b o F H→b ∉ F→F.Nodup→((bq,oq),y)∈H →
 (∀ f∈b::F,∀ j,(f≠bq∨j<oq∨oq+5≤j)→w'.cell? ⟨f,j,none⟩=w.cell? ⟨f,j,none⟩)→∃ F' H',THL w' m' xs b o F' H'∧F'.Perm (F++G)∧(((bq,oq),y)::H').Perm (H++HY)
 | .nil _ _,_,_,hq,_=>by simp at hq
 | .cons (F1:=F1) (F2:=F2) (H1:=H1) (H2:=H2) h1 h2,hb,hn,hq,hw=>by
  have hb1:b ∉ F1:=fun h=>hb (by simp[h])
  have hb2:b ∉ F2:=fun h=>hb (by simp[h])
  obtain⟨n1,n2,n3⟩:=yT.1 hn
  rcases zT.1 hq with h|h
  ·obtain⟨F',H',k1,k2,k3⟩:=TH.fill hm hy h1 hb1 n1 h (fun f hf j hj=>hw f (by rcases zO.1 hf with rfl|h<;>simp[*]) j hj);refine⟨F'++F2,H'++H2, .cons k1 (THL.frame hm (fun j l1 l2=>hw b (by simp) j ?_) (fun f hf j=>hw f (by simp[hf]) j (.inl ?_)) h2),?_,?_⟩
   ·rcases TH.holes h1 _ h with e|e
    ·simp at e;exact .inr (.inr (by omega))
    ·exact .inl fun e2=>hb1 (by simp at e;rw[e2];exact e)
   ·rcases TH.holes h1 _ h with e|e
    ·simp at e;intro e2;rw[e2,e.1]at hf;exact hb2 hf
    ·simp at e;intro e2;rw[e2]at hf;exact n3 _ e _ hf rfl
   ·have:=k2.append_right F2;refine this.trans ?_;rw[yZ,yZ];exact(List.perm_append_comm (l₁:=G) (l₂:=F2)).append_left F1
   ·have:=k3.append_right H2;rw[yG]at this;refine this.trans ?_;rw[yZ,yZ];exact(List.perm_append_comm (l₁:=HY) (l₂:=H2)).append_left H1
  ·obtain⟨F',H',k1,k2,k3⟩:=THL.fill hm hy h2 hb2 n2 h (fun f hf j hj=>hw f (by rcases zO.1 hf with rfl|h<;>simp[*]) j hj);refine⟨F1++F',H1++H', .cons (TH.frame hm (fun j l1 l2=>hw b (by simp) j ?_) (fun f hf j=>hw f (by simp[hf]) j (.inl ?_)) h1) k1,?_,?_⟩
   ·rcases THL.holes h2 _ h with ⟨e1,e2⟩|e
    ·simp at e2;exact .inr (.inl (by omega))
    ·exact .inl fun e2=>hb2 (by simp at e;rw[e2];exact e)
   ·rcases THL.holes h2 _ h with ⟨e1,_⟩|e
    ·simp at e1;intro e2;rw[e2,e1]at hf;exact hb1 hf
    ·simp at e;intro e2;rw[e2]at hf;exact n3 _ hf _ e rfl
   ·rw[yZ];exact k2.append_left F1
   ·rw[yZ];refine zC3.symm.trans ?_;exact k3.append_left H1
end
mutual
theorem TH.iat {w:World} {m m':Mem} (hm:MLe m m') {x:Pn} {b o:Nat} {F:List Nat}:TH w m x b o F []→(∀ j,o≤j→j<o+5→m' b j=w.cell? ⟨b,j,none⟩)→(∀ f∈F,∀ j,m' f j=w.cell? ⟨f,j,none⟩)→IAt m' b o x.cells
 | .leaf h1 h2 h3 h4,hb,hF=>by
  rw[Pn.aW];have o2:(∀ es v,IRep m (.isl es) v→v.oneCell'=true):=fun es v h=>by cases h<;>rfl
  exact .cons ((hb _ (by omega) (by omega)).trans h1.c0) (.lit _) rfl (.cons ((hb _ (by omega) (by omega)).trans h1.c1) (.lit _) rfl (.cons ((hb _ (by omega) (by omega)).trans h1.c2) (h2.mono hm) (o2 _ _ h2) (.cons ((hb _ (by omega) (by omega)).trans h1.c3) (h3.mono hm) (o2 _ _ h3) (.cons ((hb _ (by omega) (by omega)).trans h1.c4) (.isl0 _ _ h4) rfl (.nil _ _)))))
 | .node h1 h2 h3 h4 h5 h6,hb,hF=>by
  rename_i ks b' cap vE vC F;rw[Pn.aW];have o2:(∀ es v,IRep m (.isl es) v→v.oneCell'=true):=fun es v h=>by cases h<;>rfl
  have he:=THL.iel hm h6 (fun j _ _=>hF b' (by simp) j) (fun f hf=>hF f (by simp[hf]));have hl:(Pn.aB ks).length=ks.length:=by simp
  have hn:Pn.aB ks≠[]:=fun e=>by rw[e]at hl;simp at hl;exact h4 (zW.1 hl.symm)
  have hk:IRep m' (.isl (Pn.aB ks)) (.slice (some ⟨b',0,none⟩) ks.length cap):=by
   have:=IRep.isl (cap:=cap) hn he (by omega)
   rwa [hl]at this
  exact .cons ((hb _ (by omega) (by omega)).trans h1.c0) (.lit _) rfl (.cons ((hb _ (by omega) (by omega)).trans h1.c1) (.lit _) rfl (.cons ((hb _ (by omega) (by omega)).trans h1.c2) (h2.mono hm) (o2 _ _ h2) (.cons ((hb _ (by omega) (by omega)).trans h1.c3) (h3.mono hm) (o2 _ _ h3) (.cons ((hb _ (by omega) (by omega)).trans h1.c4) hk rfl (.nil _ _)))))
theorem THL.iel {w:World} {m m':Mem} (hm:MLe m m') {xs:List Pn} {b o:Nat} {F:List Nat}:THL w m xs b o F []→(∀ j,o≤j→j<o+5*xs.length→m' b j=w.cell? ⟨b,j,none⟩)→(∀ f∈F,∀ j,m' f j=w.cell? ⟨f,j,none⟩)→IElems m' b o 5 (Pn.aB xs)
 | h,hb,hF=>by
  generalize hH:([]:PL)=H at h
  cases h with
  | nil b o=>simp only[Pn.aB];exact .nil b o 5
  | cons h1 h2 =>
   obtain⟨e1,e2⟩:=List.append_eq_nil_iff.1 hH.symm;subst e1;subst e2;simp only[Pn.aB];exact .cons (TH.iat hm h1 (fun j l1 l2=>hb j l1 (by simp only[zQ];omega)) (fun f hf=>hF f (by simp[hf]))) (Pn.dN _) (THL.iel hm h2 (fun j l1 l2=>hb j (by omega) (by simp only[zQ];omega)) (fun f hf=>hF f (by simp[hf])))
end
def AHK (R:World→Mem→Pl→Prop):Prop:=∀ w m φ w' m' φ',Adv w m φ w' m' φ'→R w m φ→R w' m' φ'
structure GR (wi:World) (mi:Mem) (nt:Nat) (ok:Nat→Prop) (R:World→Mem→Pl→Prop) (env:Nat→AV) (st:Store) (a:Act) (w:World):Prop where
 out:∃ m φ,Inv w m φ st∧(∀ t,Rep m φ (env t) (a.tmps.getD t undef))∧Adv wi mi (fun _=>none) w m φ∧(∀ id,φ id≠none→ok id)∧R w m φ
 size:nt≤a.tmps.size
 defers:a.defers=[]
section
variable {C:Ctx} {wi:World} {mi:Mem} {nt:Nat}
theorem GR.gU (hS:SoundOk C) {G:List Nat} {c:Code} {S S':AS} {e:AExit} {a:Act} {w:World} {R:World→Mem→Pl→Prop} (hR:AHK R) (hc:codeOk nt c=true) (hx:dI C G S.st.length c S=some (e,S')) (h:GR wi mi nt (fun id=>id<S.st.length) R (aX S.env) (bJ S.st) a w) (hnr:bW c=true:=by rfl) :
 c.wp C.P (fun e' a' w'=>e'=mY e∧GR wi mi nt (fun id=>id<S'.st.length) R (aX S'.env) (bJ S'.st) a' w') a w:=by
 obtain⟨n,hn⟩:=(dG _).1 hx;obtain⟨⟨m,φ,h1,h2,h3,h4,h5⟩,h6,h7⟩:=h;refine wpIn_wide.1 (wpIn_mono (cO (ρ:=none) hS.ctx (bS hS) (hS.draw _ (bS hS)) h4 n c S S' e [] a w hc (.inl rfl) hn ⟨⟨⟨m,φ,h1,h2, .refl _ _ _,h4, .nil _ _ _⟩,h6,h7⟩,zM _⟩) ?_);rintro e' a' w' ⟨rfl,ds,k,kd⟩;have kd:=kd hnr;subst kd;obtain⟨⟨⟨m',φ',k1,k2,k3,k4,_⟩,k5,k6⟩,_⟩:=k;exact⟨rfl,⟨⟨m',φ',k1,k2,h3.trans k3,k4,hR _ _ _ _ _ _ k3 h5⟩,k5,k6⟩⟩
theorem GR.turn {ok ok':Nat→Prop} {R R':World→Mem→Pl→Prop} {env env':Nat→AV} {st st':Store} {a:Act} {w:World} (h:GR wi mi nt ok R env st a w)
 (f:∀ m φ,Inv w m φ st→(∀ t,Rep m φ (env t) (a.tmps.getD t undef))→Adv wi mi (fun _=>none) w m φ→(∀ id,φ id≠none→ok id)→R w m φ →
  ∃ m' φ',Inv w m' φ' st'∧(∀ t,Rep m' φ' (env' t) (a.tmps.getD t undef))∧Adv wi mi (fun _=>none) w m' φ'∧(∀ id,φ' id≠none→ok' id)∧R' w m' φ'):GR wi mi nt ok' R' env' st' a w:=by
 obtain⟨⟨m,φ,h1,h2,h3,h4,h5⟩,h6,h7⟩:=h;exact⟨f m φ h1 h2 h3 h4 h5,h6,h7⟩
def wG (st':Store) (φ:Pl):Pl:=fun i=>match st' i with
 | some _=>φ i
 | none=>none
theorem dX {st':Store} {φ:Pl} {i:Nat} {p:Nat×Ext} (h:wG st' φ i=some p):φ i=some p∧st' i≠none:=by
 unfold wG at h
 cases e:st' i with
 | none=>rw[e]at h;cases h
 | some _=>rw[e]at h;exact⟨h,by simp⟩
theorem oG {st':Store} {φ:Pl} {i:Nat} (h:st' i≠none):wG st' φ i=φ i:=by
 unfold wG
 cases e:st' i with
 | none=>exact absurd e h
 | some _=>rfl
theorem Inv.cut {w:World} {m:Mem} {φ:Pl} {st st':Store} (hi:Inv w m φ st) (hst:∀ i blk,st' i=some blk→st i=some blk∧jP blk):Inv w m (wG st' φ) st':=by
 refine⟨hi.mem,?_,?_,fun i b n f e ho=>hi.low i b n f (dX e).1 ho⟩
 ·intro i blk hb;obtain⟨h1,h2⟩:=hst i blk hb;obtain⟨b,n,q1,q2,q3⟩:=hi.live i blk h1;exact⟨b,n,by rw[oG (by rw[hb];simp)];exact q1,q2,q3.ACK h2 rfl fun o h=>h⟩
 ·intro i j b bx n n2 b1 b2 f h1 h2 h3 h4 o1 o2;exact hi.inj i j b bx n n2 b1 b2 f (hst i b1 h1).1 (hst j b2 h2).1 (dX h3).1 (dX h4).1 o1 o2
theorem Adv.cut {w:World} {m:Mem} {φ:Pl} {st':Store} (h:Adv wi mi (fun _=>none) w m φ):Adv wi mi (fun _=>none) w m (wG st' φ) :=
 ⟨h.size,h.os,h.tape,h.output,h.block,h.mle,h.mnew,(fun _ _ _ h=>by cases h),fun i b n f e ho=>h.pnew i b n f (dX e).1 ho⟩
theorem l9.cut {φ:Pl} {st':Store} {f:Nat} (h:l9 φ f):l9 (wG st' φ) f:=fun i b n e=>h i b n (dX e).1
theorem sU {w:World} {m:Mem} {φ:Pl} {st st':Store} {id b f:Nat} {n:Ext} {blk:Blk} (hi:Inv w m φ st) (hst:∀ i blk,st' i=some blk→st i=some blk∧jP blk) (hid:st id=some blk) (hn:st' id=none) (e:φ id=some (b,n)) (ho:n.own f):l9 (wG st' φ) f:=by
 intro i r n' e' ho';obtain⟨h1,h2⟩:=dX e'
 cases hb:st' i with
 | none=>exact h2 hb
 | some blk' =>
  have:=hi.inj i id r b n' n blk' blk f (hst i blk' hb).1 hid h1 e ho' ho;rw[this,hn]at hb;cases hb
theorem GL {w:World} {m:Mem} {φ:Pl} {id b f:Nat} {n:Ext} (h:Adv wi mi (fun _=>none) w m φ) (e:φ id=some (b,n)) (ho:n.own f):wi.heap.size≤f:=by
 rcases h.pnew id b n f e ho with h|h
 ·exact h
 ·exact absurd (fun id b n e=>by cases e) h
theorem Inv.adopt {w:World} {m:Mem} {φ:Pl} {st:Store} {id b:Nat} {cs:List AV} {vs:List Value} {T:TypeId} (hi:Inv w m φ st) (h1:st id=none) (h2:φ id=none) (hf:l9 φ b) (hm:∀ o,m b o=none) (hh:w.heap[b]?=some (.cells vs.toArray T (0,0)))
 (hc:RepC m (upd φ id (some (b,one b vs.length))) cs vs):Inv w m (upd φ id (some (b,one b vs.length))) (upd st id (some (.box cs))):=by
 have hlt:b<w.heap.size:=(zF.1 hh).1
 have hp:PLe φ (upd φ id (some (b,one b vs.length))):=fun i r n e=>by
  refine⟨n,?_,rfl,fun _ h=>h⟩;have:i≠id:=fun h=>by rw[h,h2]at e;cases e
  simp[upd,this,e]
 refine⟨hi.mem,?_,?_,?_⟩
 ·intro i blk hb;by_cases hid:i=id
  ·subst hid;simp[upd]at hb;subst hb;exact⟨b,one b vs.length,by simp[upd],⟨rfl,fun f hf=>by rw[show f=b from hf];exact hlt⟩, .box hh rfl hc hm⟩
  ·simp[upd,hid]at hb;obtain⟨r,n,q1,q2,q3⟩:=hi.live i blk hb;exact⟨r,n,by simp[upd,hid,q1],q2,q3.mono q2.1 (fun _ _=>rfl) (.refl _) hp fun _ _ _=>rfl⟩
 ·intro i j r r' n n' b1 b2 f e1 e2 p1 p2 o1 o2;by_cases hi1:i=id
  ·by_cases hj1:j=id
   ·rw[hi1,hj1]
   ·subst hi1;simp[upd]at p1;simp[upd,hj1]at p2;obtain⟨rfl,rfl⟩:=p1;rw[show f=_ from o1]at o2;exact absurd o2 (hf j r' n' p2)
  ·by_cases hj1:j=id
   ·subst hj1;simp[upd]at p2;simp[upd,hi1]at p1;obtain⟨rfl,rfl⟩:=p2;rw[show f=_ from o2]at o1;exact absurd o1 (hf i r n p1)
   ·simp[upd,hi1]at e1 p1;simp[upd,hj1]at e2 p2;exact hi.inj i j r r' n n' b1 b2 f e1 e2 p1 p2 o1 o2
 ·intro i r n f e ho;by_cases hid:i=id
  ·subst hid;simp[upd]at e;obtain⟨rfl,rfl⟩:=e;rw[show f=_ from ho];exact hlt
  ·simp[upd,hid]at e;exact hi.low i r n f e ho
theorem Adv.adopt {w:World} {m:Mem} {φ:Pl} {id b k:Nat} (h:Adv wi mi (fun _=>none) w m φ) (hb:wi.heap.size≤b):Adv wi mi (fun _=>none) w m (upd φ id (some (b,one b k))):=by
 refine⟨h.size,h.os,h.tape,h.output,h.block,h.mle,h.mnew,(fun _ _ _ h=>by cases h),fun i r n f e ho=>?_⟩;by_cases hid:i=id
 ·subst hid;simp[upd]at e;obtain⟨rfl,rfl⟩:=e;rw[show f=_ from ho];exact .inl hb
 ·simp[upd,hid]at e;exact h.pnew i r n f e ho
def dH (vs:List Value):List AV:=vs.map fun v=>.i (.lit v)
theorem p8 {m:Mem} {φ:Pl}:∀ {vs:List Value},(∀ v∈vs,v.oneCell'=true)→RepC m φ (dH vs) vs
 | [],_=>.nil
 | v::vs,h=>.cons (.i (.lit v)) (h v (by simp)) (p8 fun u hu=>h u (by simp[hu]))
theorem qF {m:Mem} {φ:Pl}:∀ {vs us:List Value},RepC m φ (dH vs) us→us=vs
 | [],_, .nil=>rfl
 | v::vs,_, .cons a _ b=>by rw[a.cB,qF b]
theorem mQ {m:Mem} {φ:Pl}:∀ {a b:List AV} {vs:List Value},RepC m φ (a++b) vs→∃ us xs,vs=us++xs∧RepC m φ a us∧RepC m φ b xs
 | [],b,vs,h=>⟨[],vs,rfl, .nil,h⟩
 | c::a,b,_, .cons h1 h2 h3=>by
  obtain⟨us,xs,rfl,k1,k2⟩:=mQ h3;exact⟨_::us,xs,rfl, .cons h1 h2 k1,k2⟩
theorem FW {m:Mem} {φ:Pl}:∀ {a b:List AV} {us xs:List Value},RepC m φ a us→RepC m φ b xs→RepC m φ (a++b) (us++xs)
 | [],_,_,_, .nil,h=>h
 | _::_,_,_,_, .cons h1 h2 h3,h=>.cons h1 h2 (FW h3 h)
end
end Go.Av

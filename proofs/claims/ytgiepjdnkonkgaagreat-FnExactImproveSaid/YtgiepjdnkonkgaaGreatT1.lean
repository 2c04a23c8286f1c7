/- Part 1 of what the proof rests on: the executor and what it is worth, and the program's functions as it runs them. No condition. -/
import Derived.Test.YtgiepjdnkonkgaaGreatT0
import Derived.Laws.BytesArg
import Derived.Laws.StructEq
import Derived.Laws.Pointers
import Derived.WideLaws
import Derived.RangeFuncSeq
import Derived.RangeFuncCalls
import Derived.OrdersIn
import Derived.Still
set_option linter.unusedVariables false
set_option linter.unusedSimpArgs false
namespace Go.Av
section
variable {C:Ctx} {w:World} {m:Mem} {φ:Pl} {st:Store}
theorem jO {P:Program} {t:TypeId} {v:Value} {b off:Nat} {T:TypeId} {vs:List Value} (hs:iF P t=some v.cells.size) (hh:w.heap[b]?=some (.cells vs.toArray T (0,0))) (hl:off+v.cells.size≤vs.length) (h1:∀ u∈v.cells.toList,u.oneCell'=true) :
 (storeVar t ⟨b,off,none⟩ v).run P w=.ok () (w.setRow b (vs.take off++v.cells.toList++vs.drop (off+v.cells.size)).toArray):=by
 have:=run_storeCells_at P b off T v.cells.toList 0 vs.toArray w hh (by simpa using hl) h1;simp only[yE,yQ]at this;simp[storeVar,dL hs,this]
theorem D6 {t:TypeId} {a:AV} {av xv:Value} {xs:List AV} {st':Store} (hi:Inv w m φ st) (ha:Rep m φ a av) (hxc:RepC m φ xs xv.cells.toList) (hxl:xs.length=xv.cells.size) (hs':iF C.P t=some xv.cells.size) (h4:storeAt xs st a=some st') :
 ∃ w' m',(Instr.storeAt t av xv).run C.P w=.ok () w'∧Inv w' m' φ st'∧Adv w m φ w' m' φ:=by
 unfold storeAt at h4
 cases ha with
 | junk=>simp at h4
 | nils=>simp at h4
 | i=>simp at h4
 | osl=>simp at h4
 | agg=>simp at h4
 | tup=>simp at h4
 | fn=>simp at h4
 | yld=>simp at h4
 | ydead=>simp at h4
 | @own id off b n' e =>
  simp only at h4
  cases hst:st id with
  | none=>rw[hst]at h4;simp[sW]at h4
  | some blk =>
   rw[hst]at h4;obtain⟨hb,hok⟩:=MQ hi e hst
   cases hok with
   | arr=>simp[sW]at h4
   | tre=>simp[sW]at h4
   | loop=>simp[sW]at h4
   | frz=>simp[sW]at h4
   | fbox=>simp[sW]at h4
   | @box T cs vs hh hl hcc hm =>
    simp only[sW]at h4;obtain⟨l,h5,h6⟩:=aI.1 h4;injection h6 with h6;subst h6;obtain⟨rfl,h7⟩:=lW _ _ _ _ h5;have hcl:=hcc.length;have hrun:=jO (P:=C.P) (off:=off) hs' hh (by omega) hxc.one
    have hblk:BlkOk (w.setRow b (vs.take off++xv.cells.toList++vs.drop (off+xv.cells.size)).toArray) m φ b n' (.box (cs.take off++xs++cs.drop (off+xs.length))):=by
     refine .box (T:=T) (setRow_heap w b _ _ T (0,0) hh) (by simp;omega) ?_ hm;rw[hxl];exact((hcc.take _).append hxc).append (hcc.drop _)
    obtain⟨k1,k2⟩:=hi.set hst e hm _ hblk;exact⟨_,m,by simp only[Instr.storeAt,Instr.sureAddr,Sem.run_bind,Sem.run_pure,Result.andThen_ok];exact hrun,k1,k2⟩
 | @ownE id k ix off b n' e =>
  simp only at h4;obtain⟨p,h5,h6⟩:=aI.1 h4;obtain⟨m1,q1,q2,q3⟩:=BH hi hxc h5
  cases hst:p.2 id with
  | none=>rw[hst]at h6;simp[pX]at h6
  | some blk =>
   rw[hst]at h6;obtain⟨hb,hok⟩:=MQ q2 e hst
   cases hok with
   | box=>simp[pX]at h6
   | frz=>simp[pX]at h6
   | tre=>simp[pX]at h6
   | loop=>simp[pX]at h6
   | fbox=>simp[pX]at h6
   | @arr T k' es vs hh hl hpos hw1 hcc hfit hm hown1 hone =>
    simp only[pX]at h6;obtain⟨h7,h8⟩:=aQ.1 h6;have h7:=zR h7;subst h7;obtain⟨ec,h9,h10⟩:=aI.1 h8;rw[fA]at h9;obtain⟨e',h11,h12⟩:=aI.1 h10;injection h12 with h12;subst h12;obtain⟨rfl,h13⟩:=lW _ _ _ _ h11;have hixl:ix<es.length:=(zZ.1 h9).1;have hel:ec.length=k':=hw1 ec (zU h9);have hpl:=q1.length;simp only[yQ]at hpl
    have hmul:k'*ix+k'≤k'*es.length:=by
     have:=zD k' (show ix+1≤es.length by omega)
     rwa [zC,zB8]at this
    have hrun:=jO (P:=C.P) (off:=k'*ix+off) hs' hh (by omega) hxc.one
    have hw2:∀ d∈es.set ix (ec.take off++p.1++ec.drop (off+p.1.length)),d.length=k':=fun d hd=>by
     rcases zB3 hd with hd|hd
     ·exact hw1 d hd
     ·subst hd;simp;omega
    have hfl:=vZ hw1 h9;have hfll:=cZ hw1
    have hrow:(es.set ix (ec.take off++p.1++ec.drop (off+p.1.length))).flatten=es.flatten.take (k'*ix+off)++p.1++es.flatten.drop (k'*ix+off+p.1.length):=by
     rw[rH hw1 (by simp;omega) hixl];have e1:(ec.take off++p.1++ec.drop (off+p.1.length)).length=k':=by simp;omega
     rw[e1]
     have e2:es.flatten.take (k'*ix+off)=es.flatten.take (k'*ix)++ec.take off:=by
      rw[← hfl,zK,yM (by omega),List.take_add]
     have e3:es.flatten.drop (k'*ix+off+p.1.length)=ec.drop (off+p.1.length)++es.flatten.drop (k'*ix+k'):=by
      rw[← hfl,xW];rw[xE]
      have:es.flatten.drop (k'*ix+k')=(es.flatten.drop (k'*ix+(off+p.1.length))).drop (k'-(off+p.1.length)):=by
       rw[xE];congr 1;omega
      rw[this,xV,yC]
     rw[e2,e3];simp
    have hblk:BlkOk (w.setRow b (vs.take (k'*ix+off)++xv.cells.toList++vs.drop (k'*ix+off+xv.cells.size)).toArray) m1 φ b n' (.arr k' (es.set ix (ec.take off++p.1++ec.drop (off+p.1.length)))):=by
     refine .arr (T:=T) (setRow_heap w b _ _ T (0,0) hh) (by simp;omega) hpos hw2 ?_ (by rw[zC7];exact hfit) hm hown1 (fun v hv=>by
      rcases zV.1 hv with hv|hv
      ·rcases zV.1 hv with hv|hv
       ·exact hone v (yY hv)
       ·exact hxc.one v hv
      ·exact hone v (yF hv))
     rw[hrow,zC7];have hcl:=hcc.length;rw[hfll]at hcl
     have e4:(vs.take (k'*ix+off)++xv.cells.toList++vs.drop (k'*ix+off+xv.cells.size)).take (k'*es.length) =
      (vs.take (k'*es.length)).take (k'*ix+off)++xv.cells.toList++(vs.take (k'*es.length)).drop (k'*ix+off+xv.cells.size):=by
      have a1:(vs.take (k'*ix+off)++xv.cells.toList).length=k'*ix+off+xv.cells.size:=by simp;omega
      rw[xM,a1,zY (by rw[a1];omega),xW,zK,yM (by omega)]
     rw[e4,hpl];exact((hcc.take _).append q1).append (hcc.drop _)
    obtain⟨k1,k2⟩:=q2.set hst e hm _ hblk;exact⟨_,m1,by simp only[Instr.storeAt,Instr.sureAddr,Sem.run_bind,Sem.run_pure,Result.andThen_ok];exact hrun,k1,q3.trans k2⟩
theorem TCells.append {w:World}:∀ {cs ds:List IV} {vs us:List Value} {F G:List Nat},TCells w cs vs F→TCells w ds us G→TCells w (cs++ds) (vs++us) (F++G)
 | _,_,_,_,_,_, .nil,h=>h
 | _,_,_,_,_,_, .lit o r,h=>.lit o (r.append h)
 | _,_,_,_,_,_, .isl0 c r,h=>.isl0 c (r.append h)
 | _,_,_,_,_,G, .isl (G:=G1) (F:=F1) hn hr hk hl hf hc g r,h=>by
  have:=TCells.isl hn hr hk hl hf hc g (r.append h);simpa using this
theorem TCells.split {w:World}:∀ {cs:List IV} {vs:List Value} {F:List Nat} (n:Nat),TCells w cs vs F→∃ F1 F2,F=F1++F2∧TCells w (cs.take n) (vs.take n) F1∧TCells w (cs.drop n) (vs.drop n) F2
 | _,_,_,0,h=>⟨[],_,rfl,by simpa using TCells.nil,by simpa using h⟩
 | _,_,_,_+1, .nil=>⟨[],[],rfl,by simpa using TCells.nil,by simpa using TCells.nil⟩
 | _,_,_,n+1, .lit o r=>by
  obtain⟨F1,F2,e,h1,h2⟩:=r.split n;exact⟨F1,F2,e,by simpa using TCells.lit o h1,by simpa using h2⟩
 | _,_,_,n+1, .isl0 c r=>by
  obtain⟨F1,F2,e,h1,h2⟩:=r.split n;exact⟨F1,F2,e,by simpa using TCells.isl0 c h1,by simpa using h2⟩
 | _,_,_,n+1, .isl (b:=b) (G:=G) hn hr hk hl hf hc g r=>by
  obtain⟨F1,F2,rfl,h1,h2⟩:=r.split n;exact⟨b::G++F1,F2,by simp,by simpa using TCells.isl hn hr hk hl hf hc g h1,by simpa using h2⟩
theorem UCells.append {w:World} {m:Mem}:∀ {cs ds:List IV} {vs us:List Value} {F G:List Nat},UCells w m cs vs F→UCells w m ds us G→UCells w m (cs++ds) (vs++us) (F++G)
 | _,_,_,_,_,_, .nil,h=>h
 | _,_,_,_,_,_, .lit o r,h=>.lit o (r.append h)
 | _,_,_,_,_,_, .isl0 c r,h=>.isl0 c (r.append h)
 | _,_,_,_,_,G, .isl (G:=G1) (F:=F1) hn hr hk hl hf hc g r,h=>by
  have:=UCells.isl hn hr hk hl hf hc g (r.append h);simpa using this
 | _,_,_,_,_,_, .kn a o r,h=>.kn a o (r.append h)
theorem UCells.split {w:World} {m:Mem}:∀ {cs:List IV} {vs:List Value} {F:List Nat} (n:Nat),UCells w m cs vs F→∃ F1 F2,F=F1++F2∧UCells w m (cs.take n) (vs.take n) F1∧UCells w m (cs.drop n) (vs.drop n) F2
 | _,_,_,0,h=>⟨[],_,rfl,by simpa using UCells.nil,by simpa using h⟩
 | _,_,_,_+1, .nil=>⟨[],[],rfl,by simpa using UCells.nil,by simpa using UCells.nil⟩
 | _,_,_,n+1, .lit o r=>by
  obtain⟨F1,F2,e,h1,h2⟩:=r.split n;exact⟨F1,F2,e,by simpa using UCells.lit o h1,by simpa using h2⟩
 | _,_,_,n+1, .isl0 c r=>by
  obtain⟨F1,F2,e,h1,h2⟩:=r.split n;exact⟨F1,F2,e,by simpa using UCells.isl0 c h1,by simpa using h2⟩
 | _,_,_,n+1, .isl (b:=b) (G:=G) hn hr hk hl hf hc g r=>by
  obtain⟨F1,F2,rfl,h1,h2⟩:=r.split n;exact⟨b::G++F1,F2,by simp,by simpa using UCells.isl hn hr hk hl hf hc g h1,by simpa using h2⟩
 | _,_,_,n+1, .kn a o r=>by
  obtain⟨F1,F2,e,h1,h2⟩:=r.split n;exact⟨F1,F2,e,by simpa using UCells.kn a o h1,by simpa using h2⟩
theorem ABS {m:Mem} {w:World}:∀ {cs:List IV} {vs:List Value},mJ cs=true→ICells m cs vs→TCells w cs vs []
 | [],_,_, .nil=>.nil
 | c::cs,_,h, .cons a o r=>by
  simp only[mJ,zT]at h;have ih:=ABS (w:=w) h.2 r
  cases a with
  | lit v=>exact .lit o ih
  | isl0 ao cap hc=>exact .isl0 hc ih
  | isl hn=>rename_i es _ _ _;cases es with|nil=>exact absurd rfl hn|cons e es=>simp[jM]at h
  | agg=>simp[jM]at h
  | iref=>simp[jM]at h
theorem gW:∀ {es:List (List IV)},fM es=true→mJ es.flatten=true
 | [],_=>rfl
 | e::es,h=>by
  simp only[fM,zT]at h;have ih:=gW h.2;rw[z8]
  have app:∀ (a b:List IV),mJ a=true→mJ b=true→mJ (a++b)=true:=by
   intro a
   induction a with
   | nil=>intro b _ h;exact h
   | cons c a iha=>intro b h1 h2;simp only[mJ,zT]at h1;simp only[yV,mJ,h1.1,iha b h1.2 h2,Bool.and_self]
  exact app _ _ h.1 ih
theorem APA {m:Mem} {w:World}:∀ {cs:List IV} {vs:List Value} {F:List Nat},DY cs=true→TCells w cs vs F→ICells m cs vs
 | [],_,_,_, .nil=>.nil
 | _::_,_,_,h, .lit o r=>by
  simp only[DY,zT]at h;exact .cons (.lit _) o (APA h.2 r)
 | _::_,_,_,h, .isl0 _ _=>by simp[DY,AI0]at h
 | _::_,_,_,h, .isl _ _ _ _ _ _ _ _=>by simp[DY,AI0]at h
structure AbsOk (w:World) (m:Mem) (φ:Pl) (st st1:Store) (l:List IV) (vs:List Value) (F:List Nat) (O:Nat→Prop):Prop where
 cells:TCells w l vs F
 nodup:F.Nodup
 own:∀ f∈F,O f
 free:∀ f,O f→(∀ o,m f o=none)∧f<w.heap.size∧∃ id b n blk,st id=some blk∧φ id=some (b,n)∧n.own f
 less:∀ id blk,st1 id=some blk→st id=some blk∧∀ b n,φ id=some (b,n)→∀ f,n.own f→¬ O f
theorem GJ {c:AV} {v:Value} {iv:IV} {st1:Store} (hi:Inv w m φ st) (hr:Rep m φ c v) (ho:v.oneCell'=true) (h:ER st c=some (iv,st1)):∃ F O,AbsOk w m φ st st1 [iv] [v] F O:=by
 unfold ER at h;split at h
 ·rename_i u;obtain⟨h1,h2⟩:=aQ.1 h;injection h2 with h2;injection h2 with h2 h3;subst h2;subst h3
  cases hr with
  | i hr=>exact⟨[],fun _=>False,ABS (by simp[mJ,h1]) (.cons hr ho .nil),by simp,by simp,fun _ h=>h.elim,fun id blk h=>⟨h,fun _ _ _ _ _ h=>h⟩⟩
 ·injection h with h2;injection h2 with h2 h3;subst h2;subst h3
  cases hr with
  | nils=>exact⟨[],fun _=>False, .isl0 (fun _=>rfl) .nil,by simp,by simp,fun _ h=>h.elim,fun id blk h=>⟨h,fun _ _ _ _ _ h=>h⟩⟩
 ·rename_i id k off len;obtain⟨es,h1,h2⟩:=aI.1 h;injection h2 with h2;injection h2 with h2 h3;subst h2;subst h3
  cases hr with
  | @osl _ _ _ _ cap b n ao eφ hlc hcap ha1 ha2 =>
   cases hst:st id with
   | none=>rw[hst]at h1;simp[A7]at h1
   | some blk =>
    rw[hst]at h1;obtain⟨hb,hok⟩:=cK hi eφ hst
    have hless:∀ j blk',upd st id none j=some blk'→st j=some blk'∧∀ b' n',φ j=some (b',n')→∀ f,n'.own f→¬ n.own f:=by
     intro j blk' hj;unfold upd at hj;split at hj
     ·cases hj
     ·rename_i hne;exact⟨hj,fun b' n' e f hf hf'=>hne (hi.inj _ _ _ _ _ _ _ _ _ hj hst e eφ hf hf')⟩
    have fin:∀ {F:List Nat} {us:List Value},len=es.length→off=0→rowOf w b us→0<k→(∀ e∈es,e.length=k)→k*(off+cap)≤us.length→TCells w es.flatten (us.take (k*es.length)) F→(b::F).Nodup→(∀ f∈F,n.own f)→(∀ f,n.own f→∀ o,m f o=none) →
     ∃ F O,AbsOk w m φ st (upd st id none) [.isl es] [.slice ao len cap] F O:=by
     intro F us hlen hoff hrow hk hw hfit ht hnd hF hm;subst hoff;subst hlen
     have hfree:∀ f,n.own f→(∀ o,m f o=none)∧f<w.heap.size∧∃ id b n blk,st id=some blk∧φ id=some (b,n)∧n.own f:=fun f hf=>⟨hm f hf,hb.2 f hf,id,b,n,_,hst,eφ,hf⟩
     by_cases h0:es=[]
     ·subst h0;exact⟨[],n.own, .isl0 ha2 .nil,by simp,by simp,hfree,hless⟩
     ·have hcap0:cap≠0:=by have:=xN.2 h0;omega
      have:=ha1 hcap0;subst this;refine⟨b::F++[],n.own, .isl h0 hrow hk hw (by simpa using hfit) hlc ht .nil,by simpa using hnd,?_,hfree,hless⟩;intro f hf;simp at hf
      rcases hf with rfl|hf
      ·exact hb.1
      ·exact hF f hf
    cases hok with
    | box=>simp[A7]at h1
    | fbox=>simp[A7]at h1
    | loop=>simp[A7]at h1
    | frz=>simp[A7]at h1
    | @arr T k' es0 vs hh hl hpos hw1 hc hfit hm hown1 hone =>
     simp only[A7]at h1;obtain⟨h3,h4⟩:=aQ.1 h1;obtain⟨h5,h6⟩:=aQ.1 h4;injection h6 with h6;subst h6;obtain⟨rfl,h7,h8⟩:=zR h3;exact fin h8 h7 ⟨T,hh,hone⟩ hpos hw1 (by rw[hl];exact hcap) (ABS (gW h5) hc) (by simp) (by simp) (fun f hf=>by rw[hown1 f hf];exact hm)
    | @tre T k' es0 vs F hh hl hpos hw1 hc hfit hnd hF hm hone =>
     simp only[A7]at h1;obtain⟨h3,h4⟩:=aQ.1 h1;obtain⟨h5,h6⟩:=aQ.1 h4;injection h6 with h6;subst h6;obtain⟨rfl,h7,h8⟩:=zR h3;exact fin h8 h7 ⟨T,hh,hone⟩ hpos hw1 (by rw[hl];exact hcap) (hc.pure (lN h5)) hnd hF hm
 ·cases h
theorem nR {w:World} {m:Mem} {φ:Pl}:∀ {cs:List AV} {st st1:Store} {l:List IV} {vs:List Value},Inv w m φ st→RepC m φ cs vs→tV st cs=some (l,st1)→∃ F O,AbsOk w m φ st st1 l vs F O
 | [],st,st1,l,_,hi, .nil,h=>by
  simp[tV]at h;obtain⟨rfl,rfl⟩:=h;exact⟨[],fun _=>False, .nil,by simp,by simp,fun _ h=>h.elim,fun id blk h=>⟨h,fun _ _ _ _ _ h=>h⟩⟩
 | c::cs,st,st1,l,_,hi, .cons a o b,h=>by
  simp only[tV]at h;obtain⟨p,h1,h2⟩:=aI.1 h;obtain⟨q,h3,h4⟩:=aI.1 h2;injection h4 with h4;injection h4 with h5 h6;subst h5;subst h6;obtain⟨F1,O1,k1⟩:=GJ hi a o (show ER st c=some (p.1,p.2)from h1);obtain⟨F2,O2,k2⟩:=nR (hi.forget fun id blk e=>(k1.less id blk e).1) b (show tV p.2 cs=some (q.1,q.2)from h3)
  have hdis:∀ f,O2 f→¬ O1 f:=by
   intro f h2 h1;obtain⟨_,_,id,b',n',blk,e1,e2,e3⟩:=k2.free f h2;exact(k1.less id blk e1).2 b' n' e2 f e3 h1
  refine⟨F1++F2,fun f=>O1 f∨O2 f,k1.cells.append k2.cells,?_,?_,?_,?_⟩
  ·rw[zJ];refine⟨k1.nodup,k2.nodup,?_⟩;intro x hx y hy e;subst e;exact hdis x (k2.own x hy) (k1.own x hx)
  ·intro f hf
   rcases zV.1 hf with hf|hf
   ·exact .inl (k1.own f hf)
   ·exact .inr (k2.own f hf)
  ·intro f hf
   rcases hf with hf|hf
   ·exact k1.free f hf
   ·obtain⟨a1,a2,id,b',n',blk,e1,e2,e3⟩:=k2.free f hf;exact⟨a1,a2,id,b',n',blk,(k1.less id blk e1).1,e2,e3⟩
  ·intro id blk e;obtain⟨e1,d1⟩:=k2.less id blk e;obtain⟨e2,d2⟩:=k1.less id blk e1;exact⟨e2,fun b n hp f hf hh=>hh.elim (d2 b n hp f hf) (d1 b n hp f hf)⟩
theorem Inv.grow {st1:Store} (h:Inv w m φ st) {l:List IV} {vs:List Value} {F:List Nat} {O:Nat→Prop} (ha:AbsOk w m φ st st1 l vs F O) {id b:Nat} {n:Ext} {blk blk':Blk} (hs:st1 id=some blk) (he:φ id=some (b,n)) (hm:∀ o,m b o=none) (cs:Array Value)
 (hb:BlkOk (w.setRow b cs) m (kW φ id (b,⟨n.len,fun f=>n.own f∨O f⟩)) b ⟨n.len,fun f=>n.own f∨O f⟩ blk') :
 Inv (w.setRow b cs) m (kW φ id (b,⟨n.len,fun f=>n.own f∨O f⟩)) (upd st1 id (some blk'))∧Adv w m φ (w.setRow b cs) m (kW φ id (b,⟨n.len,fun f=>n.own f∨O f⟩)):=by
 have hi1:Inv w m φ st1:=h.forget fun id blk e=>(ha.less id blk e).1
 have hoth:∀ x,x≠b→(w.setRow b cs).heap[x]?=w.heap[x]?:=fun x hx=>setRow_other w b x cs hx
 have hown:=(cK hi1 he hs).1
 have hp:PLe φ (kW φ id (b,⟨n.len,fun f=>n.own f∨O f⟩)):=by
  intro j r n' e;by_cases hj:j=id
  ·subst hj;rw[he]at e;injection e with e;injection e with e1 e2;subst e1;subst e2
   exact⟨_,bP _ _ _,rfl,fun f hf=>.inl hf⟩
  ·exact⟨n',by rw[mO hj];exact e,rfl,fun _ h=>h⟩
 have hdis:∀ j blk1,j≠id→st1 j=some blk1→∀ r n',φ j=some (r,n')→∀ f,n'.own f→¬ (n.own f∨O f):=by
  intro j blk1 hj hb1 r n' e f hf hh
  rcases hh with hh|hh
  ·exact hj (hi1.inj _ _ _ _ _ _ _ _ _ hb1 hs e he hf hh)
  ·exact(ha.less j blk1 hb1).2 r n' e f hf hh
 refine⟨⟨?_,?_,?_,?_,h.kn.aside hoth hm⟩,⟨by simp,rfl,⟨rfl,zO _⟩,rfl,fun x _ hn=>hoth x fun e=>hn id b n he (by rw[e];exact hown.1), .refl _,fun _ _ _ _=>rfl,hp,?_⟩⟩
 ·intro x o v e;have:x≠b:=fun e'=>by subst e';rw[hm o]at e;cases e
  rw[cell_of_heap (hoth x this)];exact h.mem x o v e
 ·intro j blk1 hj;unfold upd at hj;split at hj
  ·rename_i e;subst e;injection hj with hj;subst hj
   refine⟨b,_,bP _ _ _,⟨.inl hown.1,fun f hf=>?_⟩,hb⟩
   rcases hf with hf|hf
   ·simpa using hown.2 f hf
   ·simpa using (ha.free f hf).2.1
  ·rename_i hne;obtain⟨b',n',e',hlt,hok⟩:=hi1.live _ _ hj;have:∀ f,n'.own f→f≠b:=fun f hf e=>by subst e;exact hdis j blk1 hne hj b' n' e' f hf (.inl hown.1)
   exact⟨b',n',by rw[mO hne];exact e',⟨hlt.1,fun f hf=>by simpa using hlt.2 f hf⟩,hok.mono hlt.1 (fun f hf=>hoth f (this f hf)) (.refl _) hp fun _ _ _=>rfl⟩
 ·intro i j x x' n1 n2 b1 b2 f hi hj h1 h2 o1 o2;by_cases hii:i=id
  ·by_cases hjj:j=id
   ·rw[hii,hjj]
   ·subst hii;rw[bP]at h1;injection h1 with h1;injection h1 with e1 e2;subst e2
    obtain⟨k1,k2⟩:=qY hjj hj h2;exact absurd o1 (hdis j b2 hjj k1 x' n2 k2 f o2)
  ·obtain⟨k1,k2⟩:=qY hii hi h1;by_cases hjj:j=id
   ·subst hjj;rw[bP]at h2;injection h2 with h2;injection h2 with e1 e2;subst e2
    exact absurd o2 (hdis i b1 hii k1 x n1 k2 f o1)
   ·obtain⟨k3,k4⟩:=qY hjj hj h2;exact hi1.inj i j x x' n1 n2 b1 b2 f k1 k3 k2 k4 o1 o2
 ·intro i r n' f h1 ho;by_cases hii:i=id
  ·subst hii;rw[bP]at h1;injection h1 with h1;injection h1 with e1 e2;subst e2
   rcases ho with ho|ho
   ·simpa using hown.2 f ho
   ·simpa using (ha.free f ho).2.1
  ·rw[mO hii]at h1;simpa using hi1.low i r n' f h1 ho
 ·intro i r n' f h1 ho;by_cases hii:i=id
  ·subst hii;rw[bP]at h1;injection h1 with h1;injection h1 with e1 e2;subst e2
   rcases ho with ho|ho
   ·exact .inr (eD.not he ho)
   ·obtain⟨_,_,id',b',n',blk',_,q2,q3⟩:=ha.free f ho;exact .inr (eD.not q2 q3)
  ·rw[mO hii]at h1;exact .inr (eD.not h1 ho)
theorem D5 {t:TypeId} {av xv:Value} {xs:List AV} {st':Store} {id k ix off:Nat} (hi:Inv w m φ st) (ha:Rep m φ (.ownE id k ix off) av) (hxc:RepC m φ xs xv.cells.toList) (hxl:xs.length=xv.cells.size) (hs':iF C.P t=some xv.cells.size) (h4:(bnd (tV st xs) fun p=>dQ id k ix off p.1 p.2 (p.2 id))=some st') :
 ∃ w' m' φ',(Instr.storeAt t av xv).run C.P w=.ok () w'∧Inv w' m' φ' st'∧Adv w m φ w' m' φ'∧∀ id,φ' id≠none→φ id≠none:=by
 cases ha with
 | @ownE _ _ _ _ b n' e =>
  obtain⟨p,h5,h6⟩:=aI.1 h4;obtain⟨F,O,hab⟩:=nR hi hxc (show tV st xs=some (p.1,p.2)from h5);have hi1:Inv w m φ p.2:=hi.forget fun id blk e=>(hab.less id blk e).1
  have hpl:=hab.cells.length;simp only[yQ]at hpl
  have hids:∀ j,kW φ id (b,⟨n'.len,fun f=>n'.own f∨O f⟩) j≠none→φ j≠none:=by
   intro j hj;by_cases e':j=id
   ·subst e';rw[e];simp
   ·rwa [mO e']at hj
  cases hst:p.2 id with
  | none=>rw[hst]at h6;simp[dQ]at h6
  | some blk =>
   rw[hst]at h6;obtain⟨hb,hok⟩:=cK hi1 e hst
   have rows:∀ {es:List (List IV)} {ec:List IV} {vs:List Value},w.heap[b]?=w.heap[b]?→(∀ e∈es,e.length=k)→k*es.length≤vs.length→es[ix]?=some ec→off+p.1.length≤ec.length →
    (∀ d∈es.set ix (ec.take off++p.1++ec.drop (off+p.1.length)),d.length=k) ∧
    (es.set ix (ec.take off++p.1++ec.drop (off+p.1.length))).flatten=es.flatten.take (k*ix+off)++p.1++es.flatten.drop (k*ix+off+p.1.length) ∧
    (vs.take (k*ix+off)++xv.cells.toList++vs.drop (k*ix+off+xv.cells.size)).take (k*es.length)=(vs.take (k*es.length)).take (k*ix+off)++xv.cells.toList++(vs.take (k*es.length)).drop (k*ix+off+xv.cells.size)∧k*ix+off+xv.cells.size≤k*es.length:=by
    intro es ec vs _ hw1 hfit h9 h13;have hixl:ix<es.length:=(zZ.1 h9).1;have hel:ec.length=k:=hw1 ec (zU h9)
    have hmul:k*ix+k≤k*es.length:=by
     have:=zD k (show ix+1≤es.length by omega)
     rwa [zC,zB8]at this
    have hfl:=vZ hw1 h9;have hfll:=cZ hw1;refine⟨fun d hd=>?_,?_,?_,by omega⟩
    ·rcases zB3 hd with hd|hd
     ·exact hw1 d hd
     ·subst hd;simp;omega
    ·rw[rH hw1 (by simp;omega) hixl];have e1:(ec.take off++p.1++ec.drop (off+p.1.length)).length=k:=by simp;omega
     rw[e1]
     have e2:es.flatten.take (k*ix+off)=es.flatten.take (k*ix)++ec.take off:=by
      rw[← hfl,zK,yM (by omega),List.take_add]
     have e3:es.flatten.drop (k*ix+off+p.1.length)=ec.drop (off+p.1.length)++es.flatten.drop (k*ix+k):=by
      rw[← hfl,xW];rw[xE]
      have:es.flatten.drop (k*ix+k)=(es.flatten.drop (k*ix+(off+p.1.length))).drop (k-(off+p.1.length)):=by
       rw[xE];congr 1;omega
      rw[this,xV,yC]
     rw[e2,e3];simp
    ·have a1:(vs.take (k*ix+off)++xv.cells.toList).length=k*ix+off+xv.cells.size:=by simp;omega
     rw[xM,a1,zY (by rw[a1];omega),xW,zK,yM (by omega)]
   have hbO:¬ O b:=fun h=>(hab.less id blk hst).2 b n' e b hb.1 h
   have treOk:∀ {es:List (List IV)} {vs:List Value} {T:TypeId} {F0:List Nat} {ec:List IV},w.heap[b]?=some (.cells vs.toArray T (0,0))→vs.length=n'.len→0<k→(∀ e∈es,e.length=k)→UCells w m es.flatten (vs.take (k*es.length)) F0→k*es.length≤n'.len→(b::F0).Nodup→(∀ f∈F0,n'.own f)→(∀ f,n'.own f→∀ o,m f o=none)→(∀ v∈vs,v.oneCell'=true)→es[ix]?=some ec→off+p.1.length≤ec.length →
    ∃ w',(Instr.storeAt t (.pointer (some ⟨b,k*ix+off,none⟩)) xv).run C.P w=.ok () w'∧Inv w' m (kW φ id (b,⟨n'.len,fun f=>n'.own f∨O f⟩)) (upd p.2 id (some (.tre k (es.set ix (ec.take off++p.1++ec.drop (off+p.1.length))))))∧Adv w m φ w' m (kW φ id (b,⟨n'.len,fun f=>n'.own f∨O f⟩)):=by
    intro es vs T F0 ec hh hl hpos hw1 hc hfit hnd hF0 hm hone h9 h13;obtain⟨r1,r2,r3,r4⟩:=rows (vs:=vs) rfl hw1 (by omega) h9 h13;have hrun:=jO (P:=C.P) (off:=k*ix+off) hs' hh (by omega) hab.cells.one;obtain⟨F1,F2,hF,t1,t2⟩:=hc.split (k*ix+off);obtain⟨F3,F4,hF',t3,t4⟩:=t2.split p.1.length;rw[xE,xE]at t4
    have hsub:∀ f,f∈F1++F4→f∈F0:=by
     intro f hf;rw[hF,hF']
     rcases zV.1 hf with hf|hf
     ·simp[hf]
     ·simp[hf]
    have hFO:∀ f∈F0,¬ O f:=fun f hf h=>(hab.less id blk hst).2 b n' e f (hF0 f hf) h
    have hblk:BlkOk (w.setRow b (vs.take (k*ix+off)++xv.cells.toList++vs.drop (k*ix+off+xv.cells.size)).toArray) m (kW φ id (b,⟨n'.len,fun f=>n'.own f∨O f⟩)) b ⟨n'.len,fun f=>n'.own f∨O f⟩ (.tre k (es.set ix (ec.take off++p.1++ec.drop (off+p.1.length)))):=by
     refine .tre (T:=T) (F:=F1++F++F4) (setRow_heap w b _ _ T (0,0) hh) (by simp;omega) hpos r1 ?_ (by rw[zC7];exact hfit) ?_ ?_ ?_ (fun v hv=>by
      rcases zV.1 hv with hv|hv
      ·rcases zV.1 hv with hv|hv
       ·exact hone v (yY hv)
       ·exact hab.cells.one v hv
      ·exact hone v (yF hv))
     ·rw[r2,zC7,r3,← hpl];refine((t1.append hab.cells.toU).append t4).mono (.refl _) fun f hf=>?_
      refine setRow_other w b f _ fun e'=>?_
      subst e';simp only[zV]at hf
      rcases hf with (hf|hf)|hf
      ·exact(yX.1 hnd).1 (hsub f (by simp[hf]))
      ·exact hbO (hab.own f hf)
      ·exact(yX.1 hnd).1 (hsub f (by simp[hf]))
     ·rw[yX];have hnd0:=(yX.1 hnd).2;rw[hF,hF']at hnd0;have hn1:=zJ.1 hnd0;have hn2:=zJ.1 hn1.2.1;refine⟨fun hf=>?_,?_⟩
      ·simp only[zV]at hf
       rcases hf with (hf|hf)|hf
       ·exact(yX.1 hnd).1 (hsub b (by simp[hf]))
       ·exact hbO (hab.own b hf)
       ·exact(yX.1 hnd).1 (hsub b (by simp[hf]))
      ·rw[zJ,zJ];refine⟨⟨hn1.1,hab.nodup,fun x hx y hy e'=>?_⟩,hn2.2.1,fun x hx y hy e'=>?_⟩
       ·subst e';exact hFO x (hsub x (by simp[hx])) (hab.own x hy)
       ·subst e'
        rcases zV.1 hx with hx|hx
        ·exact hn1.2.2 x hx x (by simp[hy]) rfl
        ·exact hFO x (hsub x (by simp[hy])) (hab.own x hx)
     ·intro f hf;simp only[zV]at hf
      rcases hf with (hf|hf)|hf
      ·exact .inl (hF0 f (hsub f (by simp[hf])))
      ·exact .inr (hab.own f hf)
      ·exact .inl (hF0 f (hsub f (by simp[hf])))
     ·intro f hf o
      rcases hf with hf|hf
      ·exact hm f hf o
      ·exact(hab.free f hf).1 o
    obtain⟨k1,k2⟩:=hi.grow hab hst e (hm b hb.1) _ hblk;exact⟨_,by simp only[Instr.storeAt,Instr.sureAddr,Sem.run_bind,Sem.run_pure,Result.andThen_ok];exact hrun,k1,k2⟩
   cases hok with
   | box=>simp[dQ]at h6
   | frz=>simp[dQ]at h6
   | fbox=>simp[dQ]at h6
   | loop=>simp[dQ]at h6
   | @arr T k' es vs hh hl hpos hw1 hcc hfit hm hown1 hone =>
    simp only[dQ]at h6;obtain⟨h7,h8⟩:=aQ.1 h6;have h7:=zR h7;subst h7;obtain⟨ec,h9,h10⟩:=aI.1 h8;rw[fA]at h9;obtain⟨e',h11,h12⟩:=aI.1 h10;obtain⟨rfl,h13⟩:=lW _ _ _ _ h11;obtain⟨e'',h11',h12⟩:=aI.1 h12;obtain⟨rfl,h13'⟩:=lW _ _ _ _ h11';unfold wO at h12;split at h12
    ·rename_i hlit;injection h12 with h12;subst h12;obtain⟨r1,r2,r3,r4⟩:=rows (vs:=vs) rfl hw1 (by omega) h9 h13;have hrun:=jO (P:=C.P) (off:=k'*ix+off) hs' hh (by omega) hab.cells.one
     have hblk:BlkOk (w.setRow b (vs.take (k'*ix+off)++xv.cells.toList++vs.drop (k'*ix+off+xv.cells.size)).toArray) m φ b n' (.arr k' (es.set ix (ec.take off++p.1++ec.drop (off+p.1.length)))):=by
      refine .arr (T:=T) (setRow_heap w b _ _ T (0,0) hh) (by simp;omega) hpos r1 ?_ (by rw[zC7];exact hfit) hm hown1 (fun v hv=>by
     rcases zV.1 hv with hv|hv
     ·rcases zV.1 hv with hv|hv
      ·exact hone v (yY hv)
      ·exact hab.cells.one v hv
     ·exact hone v (yF hv))
      rw[r2,zC7,r3,← hpl];exact((hcc.take _).append (APA hlit hab.cells)).append (hcc.drop _)
     obtain⟨k1,k2⟩:=hi1.set hst e hm _ hblk;exact⟨_,m,φ,by simp only[Instr.storeAt,Instr.sureAddr,Sem.run_bind,Sem.run_pure,Result.andThen_ok];exact hrun,k1,k2,fun _ h=>h⟩
    ·split at h12
     ·rename_i h14;injection h12 with h15;subst h15;obtain⟨w',z1,z2,z3⟩:=treOk hh hl hpos hw1 (ABS (gW h14) hcc).toU hfit (by simp) (by simp) (fun f hf=>by rw[hown1 f hf];exact hm) hone h9 h13;exact⟨w',m,_,z1,z2,z3,hids⟩
     ·injection h12 with h15;subst h15;obtain⟨w',z1,z2,z3⟩:=treOk (es:=gD es) hh hl hpos (GK hw1) (by rw[wM,EU];exact AFI hcc) (by rw[EU];exact hfit) (by simp) (by simp) (fun f hf=>by rw[hown1 f hf];exact hm) hone (NW h9) h13';exact⟨w',m,_,z1,z2,z3,hids⟩
   | @tre T k' es vs F0 hh hl hpos hw1 hc hfit hnd hF0 hm hone =>
    simp only[dQ]at h6;obtain⟨h7,h8⟩:=aQ.1 h6;have h7:=zR h7;subst h7;obtain⟨ec,h9,h10⟩:=aI.1 h8;rw[fA]at h9;obtain⟨e',h11,h12⟩:=aI.1 h10;obtain⟨rfl,h13⟩:=lW _ _ _ _ h11;injection h12 with h12;subst h12;obtain⟨w',z1,z2,z3⟩:=treOk hh hl hpos hw1 hc hfit hnd hF0 hm hone h9 h13;exact⟨w',m,_,z1,z2,z3,hids⟩
theorem TZ {t:TypeId} {a:AV} {av xv:Value} {xs:List AV} {st':Store} (hi:Inv w m φ st) (ha:Rep m φ a av) (hxc:RepC m φ xs xv.cells.toList) (hxl:xs.length=xv.cells.size) (hs':iF C.P t=some xv.cells.size) (h4:storeT xs st a=some st') :
 ∃ w' m' φ',(Instr.storeAt t av xv).run C.P w=.ok () w'∧Inv w' m' φ' st'∧Adv w m φ w' m' φ'∧∀ id,φ' id≠none→φ id≠none:=by
 unfold storeT at h4;split at h4
 ·rename_i id off;unfold JY at h4;split at h4
  ·rename_i k es hes
   have ha':Rep m φ (.ownE id k 0 off) av:=by
    cases ha with
    | own e=>simpa using Rep.ownE (m:=m) (k:=k) (ix:=0) (off:=off) e
   exact D5 hi ha' hxc hxl hs' h4
  ·rename_i cs hes;obtain⟨w',m',k1,k2,k3⟩:=D6 (C:=C) hi ha hxc hxl hs' (show storeAt xs st (.own id off)=some st' by unfold storeAt;simp only;rw[hes];exact h4);exact⟨w',m',φ,k1,k2,k3,fun _ h=>h⟩
  ·cases h4
 ·exact D5 hi ha hxc hxl hs' h4
 ·cases h4
theorem U0 {t:TypeId} {a x:AV} {av xv:Value} {st':Store} (hi:Inv w m φ st) (ha:Rep m φ a av) (hx:Rep m φ x xv) (h:GY C t a x st=some st') :
 ∃ w' m' φ',(Instr.storeAt t av xv).run C.P w=.ok () w'∧Inv w' m' φ' st'∧Adv w m φ w' m' φ'∧∀ id,φ' id≠none→φ id≠none:=by
 unfold GY at h;obtain⟨n,hs,h1⟩:=aI.1 h;obtain⟨xs,hc,h2⟩:=aI.1 h1;obtain⟨h3,h4⟩:=aQ.1 h2;have hn:=zR h3;subst hn;have hxc:=BO hc hx;have hxl:=hxc.length;simp only[yQ]at hxl;have hs':iF C.P t=some xv.cells.size:=by rw[hs,hxl]
 unfold D7 at h4;split at h4
 ·obtain⟨w',m',k1,k2,k3⟩:=D6 hi ha hxc hxl hs' h4;exact⟨w',m',φ,k1,k2,k3,fun _ h=>h⟩
 ·exact TZ hi ha hxc hxl hs' h4
theorem AE3 {t u ty:TypeId} {d x v:AV} {dv xv:Value} {st':Store} {nb:Nat} (hi:Inv w m φ st) (hd:Rep m φ d dv) (hx:Rep m φ x xv) (h:Z7 C t d x st=some (v,st')) :
 ∃ y w',(Builtin.copy_ #[t,u] ty #[dv,xv]).run C.P w=.ok y w'∧Out w m φ nb v st' y w':=by
 unfold Z7 at h;obtain⟨e,he,h1⟩:=aI.1 h;obtain⟨k,hk,h2⟩:=aI.1 h1;obtain⟨h3,h4⟩:=aQ.1 h2;have hk0:=zR h3;obtain⟨src,hn,h5⟩:=aI.1 h4;have ht:=jX he;obtain⟨cs,hrr⟩:=FZ (P:=C.P) hi hx hn;have hr:=hrr w rfl;have hcl:=hr.cells.length;rw[cZ hr.width]at hcl;unfold MI at h5
 cases hd with
 | junk=>simp at h5
 | i=>simp at h5
 | own=>simp at h5
 | ownE=>simp at h5
 | agg=>simp at h5
 | tup=>simp at h5
 | fn=>simp at h5
 | yld=>simp at h5
 | ydead=>simp at h5
 | nils =>
  simp only[Option.some.injEq,Prod.mk.injEq]at h5;obtain⟨rfl,rfl⟩:=h5;have hf:=hr.first 0 (zB9 _);refine⟨_,w,?_,Out.same hi (.i (.lit _))⟩;simp[Builtin.copy_,goInt,hr.len,hf,jH ht,dL hk]
 | @osl id k' off len cap b n ao eφ hlc hcap ha1 ha2 =>
  simp only at h5
  cases hst:st id with
  | none=>rw[hst]at h5;simp[o7]at h5
  | some blk =>
   rw[hst]at h5;obtain⟨hbl,hok⟩:=MQ hi eφ hst
   cases hok with
   | box=>simp[o7]at h5
   | fbox=>simp[o7]at h5
   | frz=>simp[o7]at h5
   | tre=>simp[o7]at h5
   | loop=>simp[o7]at h5
   | @arr T k'' es vs hh hl hpos hw1 hc hfit hm hown1 hone =>
    simp only[o7]at h5;obtain⟨h8,h9⟩:=aQ.1 h5;obtain⟨rfl,rfl,hle⟩:=zR h8;simp only[Option.some.injEq,Prod.mk.injEq]at h9;obtain⟨rfl,rfl⟩:=h9;have hmn:Nat.min src.length len=min src.length len:=rfl;have hf:=hr.first (min src.length len) (Nat.min_le_left _ _);have htl:(src.take len).length=min src.length len:=by simp;omega
    have hnews:ICells m (src.take len).flatten (cs.take (min src.length len*k'')):=by
     rw[oM len src hr.width];have:=hr.cells.take (k''*len);by_cases hc1:len≤src.length
     ·rw[Nat.min_eq_right hc1,yU len];exact this
     ·rw[yM (by omega),zY (l:=cs) (by rw[← hcl,yU];exact zO _)];rw[zY (l:=cs) (by rw[← hcl];exact zD _ (by omega))]at this;exact this
    have hnl:(cs.take (min src.length len*k'')).length=k''*min src.length len:=by
     rw[xY,← hcl,yU];exact yM (zD _ (Nat.min_le_left _ _))
    have hwn:∀ d∈over es off (src.take len),d.length=k'':=fun d hd=>by
     unfold over at hd;simp only[zV]at hd
     rcases hd with (hd|hd)|hd
     ·exact hw1 d (yY hd)
     ·exact hr.width d (yY hd)
     ·exact hw1 d (yF hd)
    have hol:(over es off (src.take len)).length=es.length:=by unfold over;simp;omega
    have hkoff:k''*off+k''*min src.length len≤k''*es.length:=by
     rw[← Nat.mul_add];exact zD _ (by omega)
    have hflat:(over es off (src.take len)).flatten=es.flatten.take (k''*off)++(src.take len).flatten++es.flatten.drop (k''*off+(src.take len).flatten.length):=by
     unfold over
     have g1:∀ (n:Nat) (l:List (List IV)),(∀ e∈l,e.length=k'')→(l.drop n).flatten=l.flatten.drop (k''*n):=by
      intro n
      induction n with
      | zero=>intro l _;simp
      | succ n ih =>
       intro l hl
       cases l with
       | nil=>simp
       | cons e l =>
        have he:=hl e (by simp);simp only[zC2,z8];rw[ih l (fun e he=>hl e (by simp[he])),zE5,show k''*(n+1)=e.length+k''*n by rw[he,zC];omega];simp
     rw[zC3,zC3,oM off es hw1,g1 _ es hw1,cZ (fun e he=>hr.width e (yY he)),zC]
    have hsl:(src.take len).flatten.length=k''*min src.length len:=by rw[cZ (fun e he=>hr.width e (yY he)),htl]
    by_cases hc0:cap=0
    ·have hl0:len=0:=by omega
     subst hl0;have hov:over es off (src.take 0)=es:=by unfold over;simp
     rw[hov];have hmin:Nat.min src.length 0=0:=Nat.min_zero _;have hf0:=hr.first 0 (zB9 _);refine⟨goInt 0,w,?_,?_⟩
     ·cases ao with
      | none=>simp[Builtin.copy_,jH ht,dL hk,hr.len,hf0]
      | some a=>simp[Builtin.copy_,jH ht,dL hk,hr.len,hf0,storeCells]
     ·have:upd st id (some (Blk.arr k'' es))=st:=by
       funext j;unfold upd;split
       ·rename_i e;subst e;exact hst.symm
       ·rfl
      rw[this];have h0:((min src.length 0:Nat):Int)=0:=by simp
      rw[h0];exact Out.same hi (.i (.lit _))
    ·have hao:=ha1 hc0;subst hao;have hstore:=run_storeCells_at C.P b (k''*off) T (cs.take (min src.length len*k'')) 0 vs.toArray w hh (by simp only[List.size_toArray];rw[hnl];omega) hnews.one;simp only[yE]at hstore
     have hvl:(vs.take (k''*off)++cs.take (min src.length len*k'')++vs.drop (k''*off+(cs.take (min src.length len*k'')).length)).length=n.len:=by
      rw[zL,zL,hnl,xY,zA2];omega
     have hblk:BlkOk (w.setRow b (vs.take (k''*off)++cs.take (min src.length len*k'')++vs.drop (k''*off+(cs.take (min src.length len*k'')).length)).toArray) m φ b n (.arr k'' (over es off (src.take len))):=by
      refine .arr (T:=T) (setRow_heap w b _ _ T (0,0) hh) hvl hk0 hwn ?_ (by rw[hol];exact hfit) hm hown1 (fun v hv=>by
      rcases zV.1 hv with hv|hv
      ·rcases zV.1 hv with hv|hv
       ·exact hone v (yY hv)
       ·exact hnews.one v hv
      ·exact hone v (yF hv))
      rw[hol,hflat,hsl]
      have e4:(vs.take (k''*off)++cs.take (min src.length len*k'')++vs.drop (k''*off+(cs.take (min src.length len*k'')).length)).take (k''*es.length) =
       (vs.take (k''*es.length)).take (k''*off)++cs.take (min src.length len*k'')++(vs.take (k''*es.length)).drop (k''*off+k''*min src.length len):=by
       have a1:(vs.take (k''*off)++cs.take (min src.length len*k'')).length=k''*off+k''*min src.length len:=by rw[zL,hnl,xY];omega
       have a2:(vs.take (k''*off)++cs.take (min src.length len*k'')).length≤k''*es.length:=by rw[a1];exact hkoff
       have a3:k''*off≤k''*es.length:=by omega
       rw[xM,zY a2,a1,hnl,xW,zK,yM a3]
      rw[e4];exact((hc.take _).append hnews).append (hc.drop _)
     obtain⟨k1,k2⟩:=hi.set hst eφ hm _ hblk;refine⟨goInt (min src.length len:Nat),_,?_,m,φ, .i (.lit _),k1,k2,fun _ h=>.inl h⟩;simp[Builtin.copy_,jH ht,dL hk,hr.len,hmn,hf,hstore]
end
section
variable {C:Ctx} {w w':World} {m:Mem} {φ:Pl} {st st1:Store}
theorem Inv.AAB (h:Inv w m φ st) {l:List IV} {vs:List Value} {F:List Nat} {O:Nat→Prop} (ha:AbsOk w m φ st st1 l vs F O) {nb:Nat} (hnb:φ nb=none) {b len:Nat} {blk:Blk}
 (hsz:w.heap.size≤w'.heap.size) (hos:w'.os=w.os) (htp:Tp w w') (hout:w'.output=w.output) (hoth:∀ x,x<w.heap.size→¬ O x→w'.heap[x]?=w.heap[x]?) (hb:O b∨(w.heap.size≤b∧b<w'.heap.size))
 (hk:BlkOk w' m (kW φ nb (b,⟨len,fun f=>O f∨f=b⟩)) b ⟨len,fun f=>O f∨f=b⟩ blk) :
 Inv w' m (kW φ nb (b,⟨len,fun f=>O f∨f=b⟩)) (upd st1 nb (some blk))∧Adv w m φ w' m (kW φ nb (b,⟨len,fun f=>O f∨f=b⟩)):=by
 have hi1:Inv w m φ st1:=h.forget fun id blk e=>(ha.less id blk e).1
 have hO:∀ f,O f→f<w.heap.size:=fun f hf=>(ha.free f hf).2.1
 have hlt:∀ f,(O f∨f=b)→f<w'.heap.size:=fun f hf=>by
  rcases hf with hf|rfl
  ·have:=hO f hf;omega
  ·rcases hb with hb|hb
   ·have:=hO _ hb;omega
   ·exact hb.2
 have hp:PLe φ (kW φ nb (b,⟨len,fun f=>O f∨f=b⟩)):=by
  intro j r n' e;have hj:j≠nb:=fun e'=>by subst e';rw[hnb]at e;cases e
  exact⟨n',by rw[mO hj];exact e,rfl,fun _ h=>h⟩
 have hnew:∀ f,(O f∨f=b)→w.heap.size≤f∨O f:=fun f hf=>by
  rcases hf with hf|rfl
  ·exact .inr hf
  ·rcases hb with hb|hb
   ·exact .inr hb
   ·exact .inl hb.1
 have hdis:∀ j blk1,st1 j=some blk1→∀ r n',φ j=some (r,n')→∀ f,n'.own f→¬ (O f∨f=b):=by
  intro j blk1 hb1 r n' e f hf hh
  rcases hnew f hh with h1|h1
  ·have:=(cK hi1 e hb1).1.2 f hf;omega
  ·exact(ha.less j blk1 hb1).2 r n' e f hf h1
 refine⟨⟨?_,?_,?_,?_,h.kn.on (fun x hx hk=>hoth x hx fun hO=>hk ((ha.free x hO).1 0)) fun _ k=>k⟩,⟨hsz,hos,htp,hout,fun x hx hn=>hoth x hx fun hh=>?_, .refl _,fun _ _ _ _=>rfl,hp,?_⟩⟩
 ·intro x o v e;have hx:=h.mem.lt e;have hnO:¬ O x:=fun hh=>by rw[(ha.free x hh).1 o]at e;cases e
  rw[cell_of_heap (hoth x hx hnO)];exact h.mem x o v e
 ·intro j blk1 hj;unfold upd at hj;split at hj
  ·rename_i e;subst e;injection hj with hj;subst hj
   exact⟨b,_,bP _ _ _,⟨.inr rfl,hlt⟩,hk⟩
  ·rename_i hne;obtain⟨b',n',e',hlt',hok⟩:=hi1.live _ _ hj;exact⟨b',n',by rw[mO hne];exact e',⟨hlt'.1,fun f hf=>zI (hlt'.2 f hf) hsz⟩,hok.mono hlt'.1 (fun f hf=>hoth f (hlt'.2 f hf) fun hh=>hdis j blk1 hj b' n' e' f hf (.inl hh)) (.refl _) hp fun _ _ _=>rfl⟩
 ·intro i j x x' n1 n2 b1 b2 f hi hj h1 h2 o1 o2;by_cases hii:i=nb
  ·by_cases hjj:j=nb
   ·rw[hii,hjj]
   ·subst hii;rw[bP]at h1;injection h1 with h1;injection h1 with e1 e2;subst e2
    obtain⟨k1,k2⟩:=qY hjj hj h2;exact absurd o1 (hdis j b2 k1 x' n2 k2 f o2)
  ·obtain⟨k1,k2⟩:=qY hii hi h1;by_cases hjj:j=nb
   ·subst hjj;rw[bP]at h2;injection h2 with h2;injection h2 with e1 e2;subst e2
    exact absurd o2 (hdis i b1 k1 x n1 k2 f o1)
   ·obtain⟨k3,k4⟩:=qY hjj hj h2;exact hi1.inj i j x x' n1 n2 b1 b2 f k1 k3 k2 k4 o1 o2
 ·intro i r n' f h1 ho;by_cases hii:i=nb
  ·subst hii;rw[bP]at h1;injection h1 with h1;injection h1 with e1 e2;subst e2
   exact hlt f ho
  ·rw[mO hii]at h1;exact zI (hi1.low i r n' f h1 ho) hsz
 ·obtain⟨_,_,id,b',n',blk',_,q2,q3⟩:=ha.free x hh;exact hn id b' n' q2 q3
 ·intro i r n' f h1 ho;by_cases hii:i=nb
  ·subst hii;rw[bP]at h1;injection h1 with h1;injection h1 with e1 e2;subst e2
   rcases hnew f ho with h2|h2
   ·exact .inl h2
   ·obtain⟨_,_,id',b',n',blk',_,q2,q3⟩:=ha.free f h2;exact .inr (eD.not q2 q3)
  ·rw[mO hii]at h1;exact .inr (eD.not h1 ho)
theorem ACF {k:Nat} {us:List Value} {n b:Nat} (hr:∃ T,w.heap[b]?=some (.cells us.toArray T (0,0))) (hn:k*n≤us.length):(loadCells ⟨b,0,none⟩ (k*n)).run C.P w=.ok (us.take (k*n)).toArray w:=by
 obtain⟨T,hr⟩:=hr
 have:=run_loadCells_list (P:=C.P) w ⟨b,0,none⟩ (us.take (k*n)) (fun j u hj=>by
  rw[Addr.dP,zH];show w.cell? ⟨b,j,none⟩=some u;rw[bG hr];rw[zF]at hj;split at hj
  ·exact hj
  ·cases hj)
 rwa [show(us.take (k*n)).length=k*n by simp;omega]at this
theorem ADG (hz:sS C.P) {t e:TypeId} {n nb:Nat} {ps:List (Nat×List AV)} {vs:List (Nat×Value)} {v:AV} {st':Store} (hi:Inv w m φ st) (hf:∀ id,nb≤id→id<nb+wide→φ id=none)
 (ht:C.P.underlying t=some (.slice e)) (hps:PartsRep m φ ps vs) (h:AUH C e n st nb ps=some (v,st')) (parts:Array (Nat×Value)) (hparts:parts.toList=vs) :
 ∃ y w',(Instr.buildSlice t n parts).run C.P w=.ok y w'∧Out w m φ nb v st' y w':=by
 have hnb:=hf nb (zO _) (gY nb);unfold AUH at h;split at h
 ·rename_i cs;obtain⟨k,hk,h1⟩:=aI.1 h;obtain⟨z,hzz,h2⟩:=aI.1 h1;obtain⟨h4,h5⟩:=aQ.1 h2;obtain⟨rfl,hk0,hk1,hcl,hzl⟩:=zR h4;obtain⟨q,hq,h6⟩:=aI.1 h5;simp only[Option.some.injEq,Prod.mk.injEq]at h6;obtain⟨rfl,rfl⟩:=h6
  cases hps with
  | @cons _ _ xv _ _ hc hps =>
  cases hps
  obtain⟨F,O,hab⟩:=nR hi hc (show tV st cs=some (q.1,q.2)from hq);obtain⟨zv,hzr,hzc⟩:=DD hzz w;have hql:=hab.cells.length;have hcl2:=hc.length;simp only[yQ]at hql hcl2;have hxs:xv.cells.size=k:=by omega
  have hzs:zv.cells.size=k:=by have:=congrArg List.length hzc;simp only[yQ]at this;omega
  have hrun:(Instr.buildSlice t 1 parts).run C.P w=.ok (.slice (some ⟨w.heap.size,0,none⟩) 1 1) (w.alloc (.cells xv.cells e)):=by
   have hn':¬ 16777216<1*k:=by omega
   have hn0:¬ 1*k=0:=by omega
   have hfill:∀ f:Nat→Value,Instr.fill (fun i=>some (i*k,k)) (Array.map f (Array.range (1*k))) [(0,xv)]=some xv.cells:=fun f=>by
    have hz2:=M4 xv.cells (Array.map f (Array.range (1*k))) (0*k) (by simp;omega);simp only[Instr.fill];rw[if_neg (by simp;omega)];congr 1;apply Array.ext';rw[hz2];simp;omega
   unfold Instr.buildSlice;rw[hparts];simp only[Nat.one_mul]at hn' hn0 hfill;simp[jH ht,dL hk,hn',hn0,hzr,newRow,hfill]
  have hnO:¬ O w.heap.size:=fun hh=>by have:=(hab.free _ hh).2.1;omega
  have hold:∀ x,x<w.heap.size→(w.alloc (.cells xv.cells e)).heap[x]?=w.heap[x]?:=fun x hx=>d9 w _ hx
  have hblk:BlkOk (w.alloc (.cells xv.cells e)) m (kW φ nb (w.heap.size,⟨k,fun f=>O f∨f=w.heap.size⟩)) w.heap.size ⟨k,fun f=>O f∨f=w.heap.size⟩ (.tre k [q.1]):=by
   refine .tre (T:=e) (vs:=xv.cells.toList) (F:=F) (by simpa using dS w (.cells xv.cells e)) (by simp[hxs]) hk0 (fun e he=>by simp at he;subst he;omega) ?_ (by simp) ?_ (fun f hf=>.inl (hab.own f hf)) ?_ hab.cells.one
   ·simp only[z8,List.flatten_nil,zA,zP,yT,zH,zB8];rw[zY (by simp;omega)];exact(hab.cells.mono fun f hf=>hold f (hab.free f (hab.own f hf)).2.1).toU
   ·rw[yX];exact⟨fun hh=>hnO (hab.own _ hh),hab.nodup⟩
   ·intro f hf o
    rcases hf with hf|rfl
    ·exact(hab.free f hf).1 o
    ·cases hm:m w.heap.size o with
     | none=>rfl
     | some u=>exact absurd (hi.mem.lt hm) (by omega)
  obtain⟨j1,j2⟩:=hi.AAB hab hnb (w':=w.alloc (.cells xv.cells e)) (by simp) rfl ⟨rfl,zO _⟩ rfl (fun x hx _=>hold x hx) (.inr ⟨Nat.le_refl _,by simp⟩) hblk;exact⟨_,_,hrun,m,_, .osl (bP _ _ _) (zO _) (by simp) (fun _=>rfl) (fun h=>by cases h),j1,j2,jW (zO _) (gY nb)⟩
 ·cases h
theorem TCells.l9 {es:List (List IV)} {v:Value} {cs:List IV} {vs:List Value} {F:List Nat} (h:TCells w (.isl es::cs) (v::vs) F) (hne:es≠[]):∃ b k cap us G F',v=.slice (some ⟨b,0,none⟩) es.length cap∧F=b::G++F'∧rowOf w b us∧0<k∧(∀ e∈es,e.length=k)∧k*cap≤us.length∧es.length≤cap∧TCells w es.flatten (us.take (k*es.length)) G∧TCells w cs vs F':=by
 cases h with
 | isl0=>exact absurd rfl hne
 | isl hn hr hk hl hf hc g r=>exact⟨_,_,_,_,_,_,rfl,rfl,hr,hk,hl,hf,hc,g,r⟩
theorem PS {id k off len b:Nat} {n:Ext} {es:List (List IV)} (hi:Inv w m φ st) (e:φ id=some (b,n)) (h:A7 k off len (st id)=some es):(∀ e∈es,e.length=k)∧len=es.length∧off=0:=by
 cases hst:st id with
 | none=>rw[hst]at h;simp[A7]at h
 | some blk =>
  rw[hst]at h;obtain⟨hb,hok⟩:=cK hi e hst
  cases hok with
  | box=>simp[A7]at h
  | fbox=>simp[A7]at h
  | loop=>simp[A7]at h
  | frz=>simp[A7]at h
  | arr hh hl hpos hw1 hc hfit hm hown1 hone =>
   simp only[A7]at h;obtain⟨h3,h4⟩:=aQ.1 h;obtain⟨h5,h6⟩:=aQ.1 h4;injection h6 with h6;subst h6;obtain⟨rfl,h7,h8⟩:=zR h3;exact⟨hw1,h8,h7⟩
  | tre hh hl hpos hw1 hc hfit hnd hF hm hone =>
   simp only[A7]at h;obtain⟨h3,h4⟩:=aQ.1 h;obtain⟨_,h6⟩:=aQ.1 h4;injection h6 with h6;subst h6;obtain⟨rfl,h7,h8⟩:=zR h3;exact⟨hw1,h8,h7⟩
theorem rW {k n cap b:Nat} {us:List Value} (hr:∃ T,w.heap[b]?=some (.cells us.toArray T (0,0))) (hn:k*n≤us.length):(Builtin.firstCells k n (.slice (some ⟨b,0,none⟩) n cap)).run C.P w=.ok (us.take (k*n)).toArray w:=by
 have:=ACF (C:=C) hr hn;simp only[Builtin.firstCells];rw[yU n];exact this
theorem AES {t u ty:TypeId} {s x v:AV} {sv xv:Value} {st':Store} {nb:Nat} (hzo:sS C.P) (hi:Inv w m φ st) (hs:Rep m φ s sv) (hx:Rep m φ x xv) (hf:∀ id,nb≤id→id<nb+wide→φ id=none)
 (hu:wV (bJ C.P u)=true) (h:WQ C t s st nb x=some (v,st')):∃ y w',(Builtin.append_ #[t,u] ty #[sv,xv]).run C.P w=.ok y w'∧Out w m φ nb v st' y w':=by
 have hnb:=hf nb (zO _) (gY nb);unfold WQ at h;split at h
 case h_2=>cases h
 rename_i id k' off n;obtain⟨e,he,h1⟩:=aI.1 h;obtain⟨k,hk,h2⟩:=aI.1 h1;obtain⟨by_,hby,h3⟩:=aI.1 h2;obtain⟨z,hz,h4⟩:=aI.1 h3;obtain⟨h5,h6⟩:=aQ.1 h4;obtain⟨hk0,hb0,hzl,rfl,hn0⟩:=zR h5;obtain⟨news,hne,h7⟩:=aI.1 h6;have ht:=jX he;have hx':=hx
 cases hx' with
 | @osl _ _ _ _ xcap xb xn xao exφ xlc xcapk xa1 xa2 =>
 obtain⟨hnw,hnl,rfl⟩:=PS hi exφ hne;have hn1:news≠[]:=fun e=>by subst e;simp at hnl;omega
 have hax:ER st (.osl id k' 0 n)=some (.isl news,upd st id none):=by simp only[ER];rw[hne];rfl
 have hwide:∀ {k2:Nat},(∀ e∈news,e.length=k2)→k2=k':=fun h=>by
  obtain⟨e0,he0⟩:=List.exists_mem_of_ne_nil _ hn1;rw[← h e0 he0,hnw e0 he0]
 cases hs with
 | junk=>simp[kQ]at h7
 | i=>simp[kQ]at h7
 | own=>simp[kQ]at h7
 | ownE=>simp[kQ]at h7
 | agg=>simp[kQ]at h7
 | tup=>simp[kQ]at h7
 | fn=>simp[kQ]at h7
 | yld=>simp[kQ]at h7
 | ydead=>simp[kQ]at h7
 | nils =>
  simp only[kQ]at h7;obtain⟨h8,h9⟩:=aQ.1 h7;obtain⟨hp,hbytes⟩:=zR h8;simp only[Option.some.injEq,Prod.mk.injEq]at h9;obtain⟨rfl,rfl⟩:=h9;obtain⟨F,O,hab⟩:=nR hi (.cons hx rfl .nil) (show tV st [.osl id k' 0 n]=some ([.isl news],upd st id none)by simp only[tV];rw[hax];rfl);obtain⟨b2,k2,cap2,us2,G2,F',hv2,hF,⟨T2,hr2,ho2⟩,hk2,hw2,hcu2,hlc2,ht2,hnil⟩:=hab.cells.l9 hn1;have:=hwide hw2;subst this
  cases hnil
  have hkn:k2*news.length≤us2.length:=xX (zD _ hlc2) hcu2;have hlen:(Builtin.lenOf (.slice xao n xcap)).run C.P w=.ok n w:=by simp[Builtin.lenOf]
  rw[hv2]at hlen ⊢;rw[hnl]at hlen;have hfirst2:=rW (C:=C) (w:=w.drew) (cap:=cap2) ⟨T2,hr2⟩ hkn;have hcl:(us2.take (k2*news.length)).length=k2*news.length:=by simp;omega
  obtain⟨cap',rest,hcap,hrest,hrz,hrun⟩:=kP (ty:=ty) (len:=0) (cap:=0) (base:=none) (olds:=[]) ht hu hk hby hz hlen (by omega) hb0 (by simpa using hbytes) hfirst2 (by simp[Builtin.firstCells]);simp only[zH,yO]at hrun hcap hrest;have hsub:∀ f∈G2,f∈F:=fun f hf=>by rw[hF];simp[hf]
  have hnd:(b2::G2).Nodup:=by have:=hab.nodup;rw[hF]at this;simpa using this
  have hblk:BlkOk (w.drew.alloc (.cells (us2.take (k2*news.length)++rest).toArray e)) m (kW φ nb (w.drew.heap.size,⟨(us2.take (k2*news.length)++rest).length,fun f=>O f∨f=w.drew.heap.size⟩)) w.drew.heap.size ⟨(us2.take (k2*news.length)++rest).length,fun f=>O f∨f=w.drew.heap.size⟩ (.tre k2 news):=by
   refine .tre (T:=e) (F:=G2) (dS w.drew _) rfl hk0 hnw ?_ ?_ ?_ (fun f hf=>.inl (hab.own f (hsub f hf))) ?_ (fun v hv=>by
    rcases zV.1 hv with hv|hv
    ·exact ho2 v (yY hv)
    ·exact hzo _ _ hz v (hrz v hv))
   ·have e0:(us2.take (k2*news.length)++rest).take (k2*news.length)=us2.take (k2*news.length):=by
     have:=zC0 (l₁:=us2.take (k2*news.length)) (l₂:=rest)
     rwa [hcl]at this
    rw[e0];exact(ht2.mono fun f hf=>d9 w.drew _ (hab.free f (hab.own f (hsub f hf))).2.1).toU
   ·simp only[zL];rw[hcl];omega
   ·rw[yX];exact⟨fun hh=>by have:=(hab.free _ (hab.own _ (hsub _ hh))).2.1;exact absurd this (by show ¬ w.heap.size<w.heap.size;omega),(yX.1 hnd).2⟩
   ·intro f hf o
    rcases hf with hf|rfl
    ·exact(hab.free f hf).1 o
    ·cases hm:m w.drew.heap.size o with
     | none=>rfl
     | some u=>exact absurd (hi.mem.lt hm) (by show ¬ w.heap.size<w.heap.size;omega)
  obtain⟨j1,j2⟩:=hi.AAB hab hnb (w':=w.drew.alloc (.cells (us2.take (k2*news.length)++rest).toArray e)) (by show w.heap.size≤(w.drew.alloc _).heap.size;simp) rfl ⟨rfl,Nat.le_succ _⟩ rfl (fun x hx _=>d9 w.drew _ hx) (.inr ⟨Nat.le_refl _,by simp⟩) hblk;refine⟨_,_,hrun,m,_, .osl (bP _ _ _) hcap ?_ (fun _=>rfl) (fun h=>by cases h),j1,j2,jW (zO _) (gY nb)⟩;simp only[zL];rw[hcl,hrest,hzl,zH,← Nat.mul_comm k2,← Nat.mul_add];exact zD _ (by omega)
 | @osl id1 k1 off1 len cap1 bb n1 ao eφ hlc hcap ha1 ha2 =>
  simp only[kQ]at h7;obtain⟨es,hes,h8⟩:=aI.1 h7;obtain⟨h9,h10⟩:=aQ.1 h8;obtain⟨rfl,hl0,hbytes⟩:=zR h9;simp only[Option.some.injEq,Prod.mk.injEq]at h10;obtain⟨rfl,rfl⟩:=h10
  have hi1:Inv w m φ (upd st id none):=hi.forget fun j blk hj=>by
   unfold upd at hj;split at hj
   ·cases hj
   ·exact hj
  obtain⟨hew,hel,rfl⟩:=PS hi1 eφ hes;have he1:es≠[]:=fun e=>by subst e;simp at hel;omega
  have has:ER (upd st id none) (.osl id1 k1 0 len)=some (.isl es,upd (upd st id none) id1 none):=by simp only[ER];rw[hes];rfl
  obtain⟨F,O,hab⟩:=nR hi (.cons hx rfl (.cons (.osl eφ hlc hcap ha1 ha2) rfl .nil)) (show tV st [.osl id k1 0 n, .osl id1 k1 0 len]=some ([.isl news, .isl es],upd (upd st id none) id1 none)by simp only[tV];rw[hax];simp only[dO];rw[has];rfl);obtain⟨b2,k2,cap2,us2,G2,F',hv2,hF,⟨T2,hr2,ho2⟩,hk2,hw2,hcu2,hlc2,ht2,hrest0⟩:=hab.cells.l9 hn1;obtain⟨b1,k3,cp1,us1,G1,F'',hv1,hF',⟨T1,hr1,ho1⟩,hk3,hw3,hcu1,hlc1,ht1,hnil⟩:=hrest0.l9 he1
  cases hnil
  have:=hwide hw2;subst this
  obtain rfl:k3=k2:=by
   obtain⟨e0,he0⟩:=List.exists_mem_of_ne_nil _ he1;rw[← hw3 e0 he0,hew e0 he0]
  injection hv1 with hv1 hv1' hv1'';subst hv1 hv1'';have hkn:k3*news.length≤us2.length:=xX (zD _ hlc2) hcu2;have hke:k3*es.length≤us1.length:=xX (zD _ hlc1) hcu1;have hlen:(Builtin.lenOf (.slice xao n xcap)).run C.P w=.ok n w:=by simp[Builtin.lenOf]
  rw[hv2]at hlen ⊢;rw[hnl]at hlen;rw[hel]at hbytes ⊢;have hfirst:=rW (C:=C) (w:=w) (cap:=cap2) ⟨T2,hr2⟩ hkn;have hfirst2:=rW (C:=C) (w:=w.drew) (cap:=cap2) ⟨T2,hr2⟩ hkn;have hcl:(us2.take (k3*news.length)).length=k3*news.length:=by simp;omega
  have hcl1:(us1.take (k3*es.length)).length=k3*es.length:=by simp;omega
  have hs1:∀ f∈G1,f∈F:=fun f hf=>by rw[hF,hF'];simp[hf]
  have hs2:∀ f∈G2,f∈F:=fun f hf=>by rw[hF];simp[hf]
  have hb1F:b1∈F:=by rw[hF,hF'];simp
  have hnd:=hab.nodup;rw[hF,hF']at hnd
  have hndG:(b1::(G1++G2)).Nodup:=by
   simp only[zA,yV,yX,zJ,zV,zS,not_or]at hnd ⊢;obtain⟨q1,q2,⟨q3,q4⟩,q5⟩:=hnd;exact⟨⟨q3,fun hh=>q5 _ hh b1 (.inl rfl) rfl⟩,q4,q2,fun a ha b hb hab=>q5 b hb a (.inr ha) hab.symm⟩
  have hfl:(es++news).flatten=es.flatten++news.flatten:=by simp
  have hwn:∀ e∈es++news,e.length=k3:=fun e he=>by
   rcases zV.1 he with he|he
   ·exact hw3 e he
   ·exact hw2 e he
  by_cases hroom:es.length+news.length≤cap1
  ·-- in place
   have hkr:k3*es.length+k3*news.length≤us1.length:=by rw[← Nat.mul_add];exact xX (zD _ hroom) hcu1
   have hstore:=run_storeCells_at C.P b1 (es.length*k3) T1 (us2.take (k3*news.length)) 0 us1.toArray w hr1 (by simp only[List.size_toArray];rw[hcl,yU es.length];omega) (fun v hv=>ho2 v (yY hv));simp only[yE]at hstore;rw[yU es.length]at hstore
   have hrun:=kN (ty:=ty) (base:=some ⟨b1,0,none⟩) (cap:=cap1) ht hu hk hlen hfirst hroom _ (by
    simp only[Addr.dP,zH];rw[yU es.length];exact hstore)
   have hvs:(us1.toArray.toList.take (k3*es.length)++us2.take (k3*news.length)++us1.toArray.toList.drop (k3*es.length+(us2.take (k3*news.length)).length)).toArray=(us1.take (k3*es.length)++us2.take (k3*news.length)++us1.drop (k3*es.length+(us2.take (k3*news.length)).length)).toArray:=by simp
   rw[hvs]at hrun;refine⟨_,_,hrun,?_⟩;generalize hus:us1.take (k3*es.length)++us2.take (k3*news.length)++us1.drop (k3*es.length+(us2.take (k3*news.length)).length)=us3;have hl3:us3.length=us1.length:=by rw[← hus];simp only[zL,zA2];rw[hcl,hcl1];omega
   have hoth:∀ x,x≠b1→(w.setRow b1 us3.toArray).heap[x]?=w.heap[x]?:=fun x hx=>setRow_other w b1 x _ hx
   have hblk:BlkOk (w.setRow b1 us3.toArray) m (kW φ nb (b1,⟨us1.length,fun f=>O f∨f=b1⟩)) b1 ⟨us1.length,fun f=>O f∨f=b1⟩ (.tre k3 (es++news)):=by
    refine .tre (T:=T1) (F:=G1++G2) (setRow_heap w b1 _ _ T1 (0,0) hr1) hl3 hk0 hwn ?_ (by rw[zL,zC];exact hkr) hndG (fun f hf=>.inl (hab.own f (by
     rcases zV.1 hf with hf|hf
     ·exact hs1 f hf
     ·exact hs2 f hf))) ?_ (fun v hv=>by
     rw[← hus]at hv
     rcases zV.1 hv with hv|hv
     ·rcases zV.1 hv with hv|hv
      ·exact ho1 v (yY hv)
      ·exact ho2 v (yY hv)
     ·exact ho1 v (yF hv))
    ·have e0:us3.take (k3*(es++news).length)=us1.take (k3*es.length)++us2.take (k3*news.length):=by
      have e1:k3*(es++news).length=(us1.take (k3*es.length)++us2.take (k3*news.length)).length:=by rw[zL,zL,hcl,hcl1,zC]
      rw[e1,← hus,zC0]
     rw[e0,hfl];refine TCells.toU ((ht1.append ht2).mono fun f hf=>hoth f fun e'=>?_);subst e';exact(yX.1 hndG).1 hf
    ·intro f hf o
     rcases hf with hf|rfl
     ·exact(hab.free f hf).1 o
     ·exact(hab.free f (hab.own f hb1F)).1 o
   obtain⟨j1,j2⟩:=hi.AAB hab hnb (w':=w.setRow b1 us3.toArray) (by simp) rfl ⟨rfl,zO _⟩ rfl (fun x _ hx=>hoth x fun e'=>hx (by subst e';exact hab.own _ hb1F)) (.inl (hab.own _ hb1F)) hblk;exact⟨m,_, .osl (bP _ _ _) hroom (by simpa using hcu1) (fun _=>rfl) (fun h=>by cases h),j1,j2,jW (zO _) (gY nb)⟩
  ·have hold:=rW (C:=C) (w:=w.drew) (cap:=cap1) ⟨T1,hr1⟩ hke;obtain⟨cap',rest,hcap',hrest,hrz,hrun⟩:=kP (ty:=ty) (len:=es.length) (cap:=cap1) (base:=some ⟨b1,0,none⟩) (olds:=us1.take (k3*es.length)) ht hu hk hby hz hlen (by omega) hb0 hbytes hfirst2 hold;refine⟨_,_,hrun,?_⟩;generalize hus:us1.take (k3*es.length)++(us2.take (k3*news.length)++rest)=us3;have hl3:us3.length=k3*es.length+(k3*news.length+rest.length):=by rw[← hus];simp only[zL];rw[hcl,hcl1]
   have hblk:BlkOk (w.drew.alloc (.cells us3.toArray e)) m (kW φ nb (w.drew.heap.size,⟨us3.length,fun f=>O f∨f=w.drew.heap.size⟩)) w.drew.heap.size ⟨us3.length,fun f=>O f∨f=w.drew.heap.size⟩ (.tre k3 (es++news)):=by
    refine .tre (T:=e) (F:=G1++G2) (dS w.drew _) rfl hk0 hwn ?_ (by rw[zL,zC];show _≤us3.length;omega) ?_ (fun f hf=>.inl (hab.own f (by
     rcases zV.1 hf with hf|hf
     ·exact hs1 f hf
     ·exact hs2 f hf))) ?_ (fun v hv=>by
     rw[← hus]at hv
     rcases zV.1 hv with hv|hv
     ·exact ho1 v (yY hv)
     ·rcases zV.1 hv with hv|hv
      ·exact ho2 v (yY hv)
      ·exact hzo _ _ hz v (hrz v hv))
    ·have e0:us3.take (k3*(es++news).length)=us1.take (k3*es.length)++us2.take (k3*news.length):=by
      have e1:k3*(es++news).length=(us1.take (k3*es.length)++us2.take (k3*news.length)).length:=by rw[zL,zL,hcl,hcl1,zC]
      rw[e1,← hus,← List.append_assoc,zC0]
     rw[e0,hfl]
     exact TCells.toU ((ht1.append ht2).mono fun f hf=>d9 w.drew _ (hab.free f (hab.own f (by
      rcases zV.1 hf with hf|hf
      ·exact hs1 f hf
      ·exact hs2 f hf))).2.1)
    ·rw[yX];refine⟨fun hh=>?_,(yX.1 hndG).2⟩
     have:=(hab.free _ (hab.own w.drew.heap.size (by
      rcases zV.1 hh with hf|hf
      ·exact hs1 _ hf
      ·exact hs2 _ hf))).2.1
     exact absurd this (by show ¬ w.heap.size<w.heap.size;omega)
    ·intro f hf o
     rcases hf with hf|rfl
     ·exact(hab.free f hf).1 o
     ·cases hm:m w.drew.heap.size o with
      | none=>rfl
      | some u=>exact absurd (hi.mem.lt hm) (by show ¬ w.heap.size<w.heap.size;omega)
   obtain⟨j1,j2⟩:=hi.AAB hab hnb (w':=w.drew.alloc (.cells us3.toArray e)) (by show w.heap.size≤(w.drew.alloc _).heap.size;simp) rfl ⟨rfl,Nat.le_succ _⟩ rfl (fun x hx _=>d9 w.drew _ hx) (.inr ⟨Nat.le_refl _,by simp⟩) hblk;refine⟨m,_, .osl (bP _ _ _) hcap' ?_ (fun _=>rfl) (fun h=>by cases h),j1,j2,jW (zO _) (gY nb)⟩;show _≤us3.length;rw[hl3,hrest,hzl,zH,yU (cap'-_),← Nat.mul_add,← Nat.mul_add];exact zD _ (by omega)
end
def AdU (P:Program) (t:TypeId):Prop:=∃ fb fn k,P.underlying t=some (.struct #[fb,fn])∧P.stoodInHeld t=false∧P.eqGuardType P.depth t=false ∧
 fb.name≠ "_"∧fn.name≠ "_"∧fb.offset=0∧fn.offset=1∧P.underlying fb.type=some .bool∧P.underlying fn.type=some (.int k)
structure CtxOk (C:Ctx):Prop where
 zeros:sS C.P
 fields:TA C.P
 eqs:∀ t,C.eqT t=true→AdU C.P t
section
variable {C:Ctx} {w:World} {m:Mem} {φ:Pl} {st:Store} {env:Nat→AV} {ρ:Operand→Value}
theorem WJ {e:TypeId} {xv:Value} {cs:List AV} {nb:Nat} (hi:Inv w m φ st) (hf:∀ id,nb≤id→id<nb+wide→φ id=none) (hx:RepC m φ cs xv.cells.toList) :
 ∃ a w',(newVar e xv).run C.P w=.ok a w'∧Out w m φ nb (.own nb 0) (upd st nb (some (.box cs))) (.pointer (some a)) w':=by
 have hnb:=hf nb (zO _) (gY nb)
 have hblk:BlkOk (w.alloc (.cells xv.cells e)) m (kW φ nb (w.heap.size,one w.heap.size xv.cells.toList.length)) w.heap.size (one w.heap.size xv.cells.toList.length) (.box cs):=by
  refine .box (T:=e) (by simpa using dS w (.cells xv.cells e)) rfl (hx.mono (.refl _) (PLe.kW hnb)) ?_;intro o
  cases hm:m w.heap.size o with
  | none=>rfl
  | some u=>exact absurd (hi.mem.lt hm) (by omega)
 obtain⟨j1,j2⟩:=hi.push hnb _ hblk;exact⟨⟨w.heap.size,0,none⟩,_,by simp[newVar,newRow],m,_, .own (bP _ _ _),j1,j2,jW (zO _) (gY nb)⟩
theorem ANN {op:BinOp} {t:TypeId} {a b:ByteArray} {r:IV} (hs:eQ op=false) (h:AKG op a b=some r) (x y:Operand) :
 ∃ v,(do eqGuard op t x y (.string a) (.string b);binOp op t (.string a) (.string b):Sem Value).run C.P w=.ok v w∧IRep m r v:=by
 have hg:eqGuard op t x y (.string a) (.string b)=pure ():=by cases op<;>rfl
 rw[hg]
 cases op<;>simp[AKG,eQ]at h hs<;>first|skip|(cases h;done)
 case add =>
  obtain⟨h1,h2⟩:=aQ.1 h;have h1:=zR h1;injection h2 with h2;subst h2;have h3:(a.size:Int)+(b.size:Int)≤9223372036854775807:=by omega
  exact⟨_,by simp[binOp,Op.stringOp,h3], .lit _⟩
 all_goals (subst h;exact⟨_,by simp[binOp,Op.stringOp], .lit _⟩)
theorem ANQ {op:BinOp} {t:TypeId} {k:IntKind} {a b:Int} {r:IV} (hs:eQ op=false) (h:TB op k a b=some r) (x y:Operand) :
 ∃ v,(do eqGuard op t x y (.int k a) (.int k b);binOp op t (.int k a) (.int k b):Sem Value).run C.P w=.ok v w∧IRep m r v:=by
 have hg:eqGuard op t x y (.int k a) (.int k b)=pure ():=by cases op<;>rfl
 rw[hg]
 cases op<;>simp[TB,eQ]at h hs<;>first|skip|(cases h;done)
 case quo =>
  obtain⟨h1,h2⟩:=aQ.1 h;injection h2 with h2;subst h2;have h3:¬ b=0:=by simpa using h1
  exact⟨_,by simp[binOp,Op.intDiv,h3], .lit _⟩
 case rem =>
  obtain⟨h1,h2⟩:=aQ.1 h;injection h2 with h2;subst h2;have h3:¬ b=0:=by simpa using h1
  exact⟨_,by simp[binOp,Op.intDiv,h3], .lit _⟩
 all_goals (subst h;exact⟨_,by simp[binOp,Op.intArith,Op.intBits,Op.intCmp], .lit _⟩)
theorem AR5 {op:BinOp} {t:TypeId} {k k':IntKind} {a b:Int} {r:IV} (h:shI op k a b=some r) (x y:Operand) :
 ∃ v,(do eqGuard op t x y (.int k a) (.int k' b);binOp op t (.int k a) (.int k' b):Sem Value).run C.P w=.ok v w∧IRep m r v:=by
 have hg:eqGuard op t x y (.int k a) (.int k' b)=pure ():=by cases op<;>rfl
 rw[hg]
 cases op<;>simp[shI]at h<;>first|skip|(cases h;done)
 all_goals
  obtain⟨h1,h2⟩:=aQ.1 h;injection h2 with h2;subst h2;have h3:¬ b<0:=by have:=zR h1;omega
  exact⟨_,by simp[binOp,Op.shift,h3], .lit _⟩
theorem ANR {op:BinOp} {t:TypeId} {a b:Bool} {r:IV} (h:AYP op (bJ C.P t) a b=some r) (x y:Operand) :
 ∃ v,(do eqGuard op t x y (.bool a) (.bool b);binOp op t (.bool a) (.bool b):Sem Value).run C.P w=.ok v w∧IRep m r v:=by
 have hg:eqGuard op t x y (.bool a) (.bool b)=pure ():=by cases op<;>rfl
 rw[hg];unfold AYP at h;split at h
 ·rename_i hd;have hu:=wN hd;injection h with h;subst h;exact⟨_,by simp[binOp,Op.equal,Op.maxDepth,run_equalIn_bool _ _ _ _ _ hu], .lit _⟩
 ·rename_i hd;have hu:=wN hd;injection h with h;subst h;exact⟨_,by simp[binOp,Op.equal,Op.maxDepth,run_equalIn_bool _ _ _ _ _ hu], .lit _⟩
 ·cases h
theorem ANM {op:BinOp} {t:TypeId} {a b:Bool} {n l:Int} {r:IV} (hC:CtxOk C) (h:AYN op (C.eqT t) a n b l=some r) (x y:Operand) :
 ∃ v,(do eqGuard op t x y (.agg #[.bool a, .int .i64 n]) (.agg #[.bool b, .int .i64 l]);binOp op t (.agg #[.bool a, .int .i64 n]) (.agg #[.bool b, .int .i64 l]):Sem Value).run C.P w=.ok v w∧IRep m r v:=by
 have key:C.eqT t=true→(Op.equalIn 10000 t (.agg #[.bool a, .int .i64 n]) (.agg #[.bool b, .int .i64 l])).run C.P w=.ok (a == b && n == l) w∧C.P.eqGuardType C.P.depth t=false:=by
  intro he;obtain⟨fb,fn,k,h1,h2,h3,h4,h5,h6,h7,h8,h9⟩:=hC.eqs t he;refine⟨?_,h3⟩;have hfo:C.P.fieldsOf t=#[fb,fn]:=by simp[Program.fieldsOf,h1]
  rw[run_equalIn_struct w 9999 t _ _ (by rw[hfo];exact h1) h2,hfo]
  have p1:∀ (xs:Array Value) (v:Value),xs[0]?=some v→(part fb.type xs 0).run C.P w=.ok v w:=fun xs v hx=>by
   simp[part,isAgg,run_underlying h8,hx]
  have p2:∀ (xs:Array Value) (v:Value),xs[1]?=some v→(part fn.type xs 1).run C.P w=.ok v w:=fun xs v hx=>by
   simp[part,isAgg,run_underlying h9,hx]
  simp only[Op.eqFields,h4,h5,h6,h7,ne_eq,not_false_eq_true,if_true,Sem.run_bind];rw[p1 _ (.bool a) rfl];simp only[Result.andThen_ok];rw[p1 _ (.bool b) rfl];simp only[Result.andThen_ok];rw[run_equalIn_bool w 9998 fb.type a b h8];simp only[Result.andThen_ok]
  cases hab:(a == b)
  ·simp
  ·simp only[Bool.not_true,yK,if_false,Sem.run_bind,Bool.true_and];rw[p2 _ (.int .i64 n) rfl];simp only[Result.andThen_ok];rw[p2 _ (.int .i64 l) rfl];simp only[Result.andThen_ok];rw[run_equalIn_int w 9998 fn.type .i64 k n l h9];simp only[Result.andThen_ok]
   cases(n == l)<;>simp
 unfold AYN at h;split at h
 ·rename_i he;obtain⟨k1,k2⟩:=key (by assumption);injection h with h;subst h;exact⟨_,by rw[Sem.run_bind,run_eqGuard_agg _ _ _ _ _ _ _ k2,Result.andThen_ok,run_eql_struct,k1,Result.andThen_ok], .lit _⟩
 ·rename_i he;obtain⟨k1,k2⟩:=key (by assumption);injection h with h;subst h;exact⟨_,by rw[Sem.run_bind,run_eqGuard_agg _ _ _ _ _ _ _ k2,Result.andThen_ok,run_neq_struct,k1,Result.andThen_ok], .lit _⟩
 ·cases h
theorem IRep.lit_eq {v x:Value} (h:IRep m (.lit v) x):x=v:=by cases h;rfl
theorem Rep.lit_eq {v x:Value} (h:Rep m φ (.i (.lit v)) x):x=v:=by cases h with|i h=>exact h.lit_eq
theorem Rep.AH3 {u v x:Value} (h:Rep m φ (.i (.agg [.lit u, .lit v])) x):x=.agg #[u,v]:=by
 cases h with|i h=>cases h with|agg h=>cases h with|cons a _ b=>cases b with|cons b _ c=>cases c;rw[a.lit_eq,b.lit_eq]
theorem ADJ {P:Program} {t:TypeId} (h:VI P t=true):P.underlying t=some (.pointer (P.pointee t)):=by
 unfold VI at h;split at h
 ·rename_i e he;have:P.pointee t=e:=by simp[Program.pointee,he]
  rw[this];exact he
 ·cases h
theorem AM1 {a:AV} {v:Value} {b:Bool} (ha:Rep m φ a v) (h:AS1 a=some b):∃ p,v=.pointer p∧p.isNone=b:=by
 unfold AS1 at h;split at h
 ·cases ha;injection h with h;subst h;exact⟨_,rfl,rfl⟩
 ·cases ha;injection h with h;subst h;exact⟨_,rfl,rfl⟩
 ·cases ha with|i h1=>cases h1;injection h with h;subst h;exact⟨_,rfl,rfl⟩
 ·rw[ha.lit_eq];injection h with h;subst h;exact⟨_,rfl,rfl⟩
 ·cases h
theorem ANO {op:BinOp} {t:TypeId} {p:Option Addr} {r:IV} (ht:VI C.P t=true) (h:ANP op p.isNone=some r) (x y:Operand) :
 ∃ v,(do eqGuard op t x y (.pointer p) (.pointer none);binOp op t (.pointer p) (.pointer none):Sem Value).run C.P w=.ok v w∧IRep m r v:=by
 have hg:eqGuard op t x y (.pointer p) (.pointer none)=pure ():=by cases op<;>rfl
 rw[hg];have hu:=ADJ ht;unfold ANP at h;split at h
 ·injection h with h;subst h;exact⟨_,by simp[binOp,run_equal_pointer_nil w t p hu], .lit _⟩
 ·injection h with h;subst h;exact⟨_,by simp[binOp,run_equal_pointer_nil w t p hu], .lit _⟩
 ·cases h
theorem AJC (hC:CtxOk C) {op:BinOp} {t:TypeId} {a b:AV} {r:IV} {av bv:Value} (ha:Rep m φ a av) (hb:Rep m φ b bv) (h:ZH C op t a b=some r) (x y:Operand) :
 ∃ v,(do eqGuard op t x y av bv;binOp op t av bv:Sem Value).run C.P w=.ok v w∧IRep m r v:=by
 unfold ZH at h;split at h
 ·rename_i k n k' l;rw[ha.lit_eq,hb.lit_eq]
  cases hs:eQ op with
  | true=>rw[hs]at h;exact AR5 h x y
  | false =>
   rw[hs]at h;obtain⟨h1,h2⟩:=aQ.1 h;have h1:=zR h1;subst h1;exact ANQ hs h2 x y
 ·rw[ha.lit_eq,hb.lit_eq];obtain⟨h1,h2⟩:=aQ.1 h;exact ANN (by simpa using h1) h2 x y
 ·rw[ha.lit_eq,hb.lit_eq];exact ANR h x y
 ·rw[ha.AH3,hb.AH3];exact ANM hC h x y
 ·obtain⟨h1,h2⟩:=aQ.1 h;obtain⟨b,h3,h4⟩:=aI.1 h2;obtain⟨p,rfl,rfl⟩:=AM1 ha h3;rw[hb.lit_eq];exact ANO h1 h4 x y
 ·cases h
theorem AI5 {P:Program} {t:TypeId} (h:AMM P t=true):P.underlying t=some (.interface (P.methodsAt t)):=by
 unfold AMM at h;split at h
 ·rename_i e he;have:P.methodsAt t=e:=by simp[Program.methodsAt,he]
  rw[this];exact he
 ·cases h
theorem AM2 {a:AV} {v:Value} {b:Bool} (ha:Rep m φ a v) (h:AUD a=some b):(v=.nilIface∧b=true)∨(∃ u x,v=.iface u x∧b=false):=by
 unfold AUD at h;split at h
 ·rw[ha.lit_eq];injection h with h;exact .inl ⟨rfl,h.symm⟩
 ·rw[ha.lit_eq];injection h with h;exact .inr ⟨_,_,rfl,h.symm⟩
 ·cases h
theorem AEG (hC:CtxOk C) {op:BinOp} {t:TypeId} {a:AV} {env:Nat→AV} {r:IV} {av bv:Value} (x y:Operand) (ha:Rep m φ a av) (hb:Rep m φ (ev env y) bv) (h:AF7 C op t a (ev env y) y=some r) :
 ∃ v,(do eqGuard op t x y av bv;binOp op t av bv:Sem Value).run C.P w=.ok v w∧IRep m r v:=by
 unfold AF7 at h;split at h
 ·obtain⟨h1,h2⟩:=aQ.1 h;obtain⟨q,h3,h4⟩:=aI.1 h2;have hu:=AI5 h1;have hbv:bv=.nilIface:=(show Rep m φ (.i (.lit .nilIface)) bv from hb).lit_eq;subst hbv
  rcases AM2 ha h3 with ⟨rfl,rfl⟩|⟨u,z,rfl,rfl⟩
  ·rw[eqGuard_nil_constR];unfold ANP at h4;split at h4
   ·injection h4 with h4;subst h4;exact⟨_,by simp[binOp,Op.equal,Op.maxDepth,run_equalIn_nil_nil w 9999 t hu], .lit _⟩
   ·injection h4 with h4;subst h4;exact⟨_,by simp[binOp,Op.equal,Op.maxDepth,run_equalIn_nil_nil w 9999 t hu], .lit _⟩
   ·cases h4
  ·rw[eqGuard_at_iface];unfold ANP at h4;split at h4
   ·injection h4 with h4;subst h4;exact⟨_,by simp[binOp,run_equal_held_nil w t u z hu], .lit _⟩
   ·injection h4 with h4;subst h4;exact⟨_,by simp[binOp,run_equal_held_nil w t u z hu], .lit _⟩
   ·cases h4
 ·exact AJC hC ha hb h x y
theorem AKS {op:UnOp} {a:AV} {r:IV} {av:Value} (ha:Rep m φ a av) (h:unA op a=some r):∃ v,(Op.unary op av).run C.P w=.ok v w∧IRep m r v:=by
 unfold unA at h;split at h
 ·rw[ha.lit_eq];injection h with h;subst h;exact⟨_,by simp[Op.unary], .lit _⟩
 ·rw[ha.lit_eq];injection h with h;subst h;exact⟨_,by simp[Op.unary,Op.intArith], .lit _⟩
 ·cases h
theorem AEA {s d:TypeId} {a r:AV} {av:Value} (ha:Rep m φ a av) (h:ZA (bJ C.P s) (bJ C.P d) a=some r):∃ v,(convert s d av).run C.P w=.ok v w∧Rep m φ r v:=by
 unfold ZA at h;split at h
 ·rename_i ds k k' n hs hd;obtain⟨us,hus⟩:=NA hs;have hud:=CR hd;rw[ha.lit_eq];injection h with h;subst h
  exact⟨_,by simp[convert,run_underlying hus,run_underlying hud,Conv.intToInt], .i (.lit _)⟩
 ·rename_i hs hd;have hus:=fC hs;have hud:=fC hd;rw[ha.lit_eq];injection h with h;subst h
  exact⟨_,by simp[convert,run_underlying hus,run_underlying hud], .i (.lit _)⟩
 ·cases h
theorem EI {m:Mem}:∀ {es:List (List IV)} {ns:List Int} {cs:List Value},bytesOf es=some ns→ICells m es.flatten cs→cs=ns.map (Value.int .u8)
 | [],ns,cs,h,hc=>by
  simp[bytesOf]at h;subst h
  cases hc;rfl
 | e::es,ns,cs,h,hc=>by
  unfold bytesOf at h;split at h
  ·rename_i heq;cases heq
  ·rename_i n r heq;injection heq with h1 h2;subst h1;subst h2;obtain⟨l,h3,h4⟩:=aI.1 h;injection h4 with h4;subst h4;simp only[z8,List.singleton_append]at hc
   cases hc with
   | cons a o r =>
    cases a
    rw[EI h3 r];rfl
  ·cases h
theorem Z9 {s d:TypeId} {a r:AV} {av:Value} (hi:Inv w m φ st) (ha:Rep m φ a av) (h:NN C.P st (bJ C.P d) a (bJ C.P s)=some r):∃ v,(convert s d av).run C.P w=.ok v w∧Rep m φ r v:=by
 unfold NN at h;split at h
 ·rename_i e hs;unfold ABJ at h;split at h
  ·rename_i hd;obtain⟨h1,h2⟩:=aQ.1 h;simp only[zT]at h1;obtain⟨h1,h1'⟩:=h1;obtain⟨es,h3,h4⟩:=aI.1 h2;obtain⟨ns,h5,h6⟩:=aI.1 h4;injection h6 with h6;subst h6;have hus:=fZ hs;have hud:=fC hd
   have hue:C.P.underlying e=some (.int .u8):=by
    unfold AbP at h1;split at h1
    ·rename_i h';exact CR h'
    ·cases h1
   obtain⟨cs,hrd⟩:=FZ (P:=C.P) hi ha h3;have hr:=hrd w rfl
   obtain⟨ao,len,cap,rfl⟩:∃ ao len cap,av=.slice ao len cap:=by
    unfold slV at h1';split at h1'
    ·cases ha;exact⟨_,_,_,rfl⟩
    ·cases ha;exact⟨_,_,_,rfl⟩
    ·cases ha with
     | i ha=>cases ha<;>exact⟨_,_,_,rfl⟩
    ·cases h1'
   have hcs:=EI h5 hr.cells
   have hlen:len=es.length:=by
    have:=hr.len;simp[Builtin.lenOf]at this
    first|exact this|omega
   have hf:=hr.first es.length (zO _)
   have hcl:cs.length=es.length:=by
    have:=hr.cells.length;rw[cZ hr.width]at this;omega
   rw[run_convert_bytes_string w s d e ao len cap hus hue hud];refine⟨.string (strOf ns),?_, .i (.lit _)⟩
   cases ao with
   | none =>
    simp only[Builtin.firstCells,Sem.run_pure]at hf
    have h0:cs.take (es.length*1)=[]:=by
     have:(#[]:Array Value)=(cs.take (es.length*1)).toArray:=by injection hf
     have:=congrArg Array.toList this;simpa using this.symm
    have h9:cs=[]:=by
     rw[zY (by omega)]at h0;exact h0
    rw[h9]at hcs
    have hn:ns=[]:=by cases ns with
     | nil=>rfl
     | cons=>simp at hcs
    subst hn;rfl
   | some a =>
    simp only[Builtin.firstCells]at hf;rw[zY (by omega),zB8,← hlen,hcs]at hf;rw[run_bytesToString w a len cap ns hf,foldl_push_bytes];simp[strOf,ByteArray.empty,ByteArray.emptyWithCapacity];rfl
  ·cases h
 ·exact AEA ha h
theorem AD6 {c a b r:AV} {cv av bv:Value} (hc:Rep m φ c cv) (ha:Rep m φ a av) (hb:Rep m φ b bv) (h:AH2 a b c=some r) :
 ∃ t:Bool,cv=.bool t∧Rep m φ r (if t=true then av else bv):=by
 unfold AH2 at h;split at h
 ·rename_i t;refine⟨t,hc.lit_eq,?_⟩;injection h with h;subst h
  cases t
  ·exact hb
  ·exact ha
 ·cases h
theorem AHC {a r:AV} {av:Value} (ha:Rep m φ a av) (h:AM3 a=some r) :
 Rep m φ r av∧((∃ ad,av=.pointer (some ad))∨∃ g cs,av=.func (.func g) #[] cs):=by
 unfold AM3 at h;split at h
 ·injection h with h;subst h;refine⟨ha, .inl ?_⟩;cases ha;exact⟨_,rfl⟩
 ·injection h with h;subst h;refine⟨ha, .inl ?_⟩;cases ha;exact⟨_,rfl⟩
 ·injection h with h;subst h;refine⟨ha, .inl ?_⟩;cases ha with|i ha=>cases ha;exact⟨_,rfl⟩
 ·injection h with h;subst h;refine⟨ha, .inl ?_⟩;exact⟨_,ha.lit_eq⟩
 ·injection h with h;subst h;refine⟨ha, .inr ?_⟩;cases ha;exact⟨_,_,rfl⟩
 ·cases h
theorem lG {a:AV} {x:Value} {n j:Nat} (ha:Rep m φ a x) (h:nJ a n=some j):∃ k i,x=.int k i∧0≤i∧i<n∧i.toNat=j:=by
 unfold nJ at h;split at h
 ·obtain⟨h1,h2⟩:=aQ.1 h;have h1:=zR h1;injection h2 with h2;exact⟨_,_,ha.lit_eq,h1.1,h1.2,h2⟩
 ·cases h
theorem M9 {s:TypeId} {f:Nat} {p:TypeId×Nat} {n:Nat} {a r:AV} {av:Value} (ha:Rep m φ a av) (h1:dM C.P s f=some p) (h2:iF C.P p.1=some n) (h3:0<n) (h:jT p.2 a=some r) :
 ∃ v,(Instr.fieldAt s av f).run C.P w=.ok v w∧Rep m φ r v:=by
 obtain⟨fs,fd,k1,k2,k3,k4⟩:=M8 h1;have hsz:(sizeOf fd.type).run C.P w=.ok n w:=by rw[k3];exact dL h2 w
 have hrun:∀ ad:Addr,(Instr.fieldAt s (.pointer (some ad)) f).run C.P w=.ok (.pointer (some (ad.add p.2))) w:=fun ad=>by
  simp[Instr.fieldAt,run_underlying k1,k2,Instr.sureAddr,fieldPlace,hsz,Nat.ne_of_gt h3,k4]
 unfold jT at h;split at h
 ·injection h with h;subst h
  cases ha with|own e=>exact⟨_,hrun _,by rw[Addr.dP];exact .own e⟩
 ·injection h with h;subst h
  cases ha with|ownE e=>exact⟨_,hrun _,by rw[Addr.dP,yC];exact .ownE e⟩
 ·obtain⟨h4,h5⟩:=aQ.1 h;injection h5 with h5;subst h5
  cases ha with|i ha=>cases ha with|iref hat=>exact⟨_,hrun _,by rw[Addr.dP];exact .i (.iref (hat.dropE _ (zR h4)))⟩
 ·injection h with h;subst h
  cases ha with|i ha=>cases ha with|lit=>exact⟨_,hrun _,by rw[Addr.dP];exact .i (.lit _)⟩
 ·cases h
theorem AAI {t:TypeId} {n off:Nat} {g:Bool} {vs:List Value} (hs:iF C.P t=some n) (hg:EP (bJ C.P t)=some g) :
 (g=true→(part t vs.toArray off).run C.P w=.ok (.agg ((vs.drop off).take n).toArray) w)∧(g=false→∀ x,vs[off]?=some x→(part t vs.toArray off).run C.P w=.ok x w):=by
 constructor
 ·intro h;subst h;simp only[part,Sem.run_bind,DI hg,dL hs,Result.andThen_ok,if_true,Sem.run_pure];congr 2;apply Array.ext';simp[List.extract_eq_take_drop]
 ·intro h x hx;subst h;simp[part,DI hg,hx]
theorem ATA {cs l:List AV} {vs:List Value} {t:TypeId} {off n:Nat} {g:Bool} {r:AV} (hs:iF C.P t=some n) (hg:EP (bJ C.P t)=some g) (hc:RepC m φ cs vs) (h:cut cs off n=some l) (h2:rR g l=some r) :
 ∃ x,(part t vs.toArray off).run C.P w=.ok x w∧Rep m φ r x:=by
 have hp:=AAI (C:=C) (w:=w) (off:=off) (vs:=vs) hs hg
 rcases MH h with ⟨rfl,hle⟩|⟨rfl,rfl⟩
 ·rcases rQ h2 ((hc.drop off).take n)with ⟨rfl,k⟩|⟨rfl,x,hx,k⟩
  ·exact⟨_,hp.1 rfl,k⟩
  ·refine⟨x,hp.2 rfl x ?_,k⟩;have h0:((vs.drop off).take n)[0]?=some x:=by rw[hx];rfl
   rw[zF]at h0;split at h0
   ·rw[yJ]at h0;simpa using h0
   ·cases h0
 ·cases g with
  | true =>
   refine⟨_,hp.1 rfl,?_⟩
   rcases rQ h2 (.nil (m:=m) (φ:=φ))with ⟨_,k⟩|⟨h,_⟩
   ·simpa using k
   ·cases h
  | false=>simp[rR]at h2
theorem ABE {cs l:List IV} {vs:List Value} {t:TypeId} {off n:Nat} {g:Bool} {r:AV} (hs:iF C.P t=some n) (hg:EP (bJ C.P t)=some g) (hc:ICells m cs vs) (h:cut cs off n=some l) (h2:iW g l=some r) :
 ∃ x,(part t vs.toArray off).run C.P w=.ok x w∧Rep m φ r x:=by
 have hp:=AAI (C:=C) (w:=w) (off:=off) (vs:=vs) hs hg
 rcases MH h with ⟨rfl,hle⟩|⟨rfl,rfl⟩
 ·rcases fH (φ:=φ) h2 ((hc.drop off).take n)with ⟨rfl,k⟩|⟨rfl,x,hx,k⟩
  ·exact⟨_,hp.1 rfl,k⟩
  ·refine⟨x,hp.2 rfl x ?_,k⟩;have h0:((vs.drop off).take n)[0]?=some x:=by rw[hx];rfl
   rw[zF]at h0;split at h0
   ·rw[yJ]at h0;simpa using h0
   ·cases h0
 ·cases g with
  | true =>
   refine⟨_,hp.1 rfl,?_⟩
   rcases fH (φ:=φ) h2 (.nil (m:=m))with ⟨_,k⟩|⟨h,_⟩
   ·simpa using k
   ·cases h
  | false=>simp[iW]at h2
theorem YU {s:TypeId} {f:Nat} {p:TypeId×Nat} {n:Nat} {g:Bool} {a r:AV} {av:Value} (ha:Rep m φ a av) (h1:dM C.P s f=some p) (h2:iF C.P p.1=some n) (hg:EP (bJ C.P p.1)=some g) (h:P8 p.2 n g a=some r) :
 ∃ v,(Instr.field s av f).run C.P w=.ok v w∧Rep m φ r v:=by
 obtain⟨fs,fd,k1,k2,k3,k4⟩:=M8 h1
 have hrun:∀ (vs:List Value) (x:Value),(part p.1 vs.toArray p.2).run C.P w=.ok x w→(Instr.field s (.agg vs.toArray) f).run C.P w=.ok x w:=fun vs x hx=>by
  simp[Instr.field,run_underlying k1,k2,asAgg,k3,k4,hx]
 unfold P8 at h;split at h
 ·obtain⟨l,h3,h4⟩:=aI.1 h
  cases ha with
  | agg hc=>obtain⟨x,j1,j2⟩:=ATA (w:=w) h2 hg hc h3 h4;exact⟨x,hrun _ _ j1,j2⟩
 ·obtain⟨l,h3,h4⟩:=aI.1 h
  cases ha with
  | i ha=>cases ha with
   | agg hc=>obtain⟨x,j1,j2⟩:=ABE (w:=w) h2 hg hc h3 h4;exact⟨x,hrun _ _ j1,j2⟩
 ·cases h
theorem LJ {t:TypeId} {x ix r:AV} {xv iv:Value} (hx:Rep m φ x xv) (hix:Rep m φ ix iv) (h:nO C x ix (bJ C.P t)=some r) :
 ∃ v,(Instr.indexAt t xv iv).run C.P w=.ok v w∧Rep m φ r v:=by
 unfold nO at h;split at h
 ·rename_i e hd;have hu:=fZ hd;obtain⟨k,hk,h1⟩:=aI.1 h
  have hrun:∀ (a:Addr) (len cap:Nat) (q:IntKind) (i:Int),0≤i→i<len→(Instr.indexAt t (.slice (some a) len cap) (.int q i)).run C.P w=.ok (.pointer (some (a.add (i.toNat*k)))) w:=fun a len cap q i h0 hl=>by
   simp[Instr.indexAt,run_underlying hu,asIntOf,h0,hl,dL hk]
  unfold LH at h1;split at h1
  ·rename_i es;obtain⟨j,h2,h3⟩:=aI.1 h1;obtain⟨cs,h4,h5⟩:=aI.1 h3;rw[fA]at h4;obtain⟨h6,h7⟩:=aQ.1 h5;injection h7 with h7;subst h7;obtain⟨q,i,rfl,i0,i1,i2⟩:=lG hix h2;have h6:cs.length=k:=by simpa using h6
   cases hx with
   | i hx =>
    cases hx with
    | isl0=>simp at h4
    | isl hn he hcap =>
     obtain⟨hat,hel⟩:=JG he h4;refine⟨_,hrun _ _ _ q i i0 i1,?_⟩;rw[Addr.dP,i2];rw[h6]at hel;subst hel;rw[yU];exact .i (.iref hat)
  ·rename_i id k' off len;obtain⟨j,h2,h3⟩:=aI.1 h1;obtain⟨h6,h7⟩:=aQ.1 h3;injection h7 with h7;subst h7;have h6:k'=k:=by simpa using h6
   subst h6;obtain⟨q,i,rfl,i0,i1,i2⟩:=lG hix h2
   cases hx with
   | osl eφ hlc hcap ha1 ha2 =>
    rw[ha1 (by omega)];refine⟨_,hrun _ _ _ q i i0 i1,?_⟩;rw[Addr.dP,i2,show k'*off+j*k'=k'*(off+j)+0 by rw[zC,yU j];omega];exact .ownE eφ
  ·rename_i b off len cap;obtain⟨j,h2,h3⟩:=aI.1 h1;injection h3 with h3;subst h3;obtain⟨q,i,rfl,i0,i1,i2⟩:=lG hix h2;rw[hx.lit_eq];refine⟨_,hrun _ _ _ q i i0 i1,?_⟩;rw[Addr.dP,i2];exact .i (.lit _)
  ·cases h1
 ·rename_i n e hd;have hu:=nT hd;obtain⟨k,hk,h1⟩:=aI.1 h;unfold YH at h1;split at h1
  ·obtain⟨j,h2,h3⟩:=aI.1 h1;injection h3 with h3;subst h3;obtain⟨q,i,rfl,i0,i1,i2⟩:=lG hix h2
   cases hx with
   | own eφ =>
    refine⟨_,by simp[Instr.indexAt,run_underlying hu,asIntOf,i0,i1,dL hk,Instr.sureAddr];rfl,?_⟩;rw[Addr.dP,i2];exact .own eφ
  ·cases h1
 ·cases h
theorem YG {t:TypeId} {x ix r:AV} {xv iv:Value} (hx:Rep m φ x xv) (hix:Rep m φ ix iv) (h:OV C ix (bJ C.P t) x=some r) :
 ∃ v,(Instr.index t xv iv).run C.P w=.ok v w∧Rep m φ r v:=by
 unfold OV at h;split at h
 ·rename_i s hd;have hu:=fC hd;obtain⟨j,h2,h3⟩:=aI.1 h;obtain⟨b,h4,h5⟩:=aI.1 h3;rw[fA,xU]at h4;injection h5 with h5;subst h5;obtain⟨q,i,rfl,i0,i1,i2⟩:=lG hix h2;rw[hx.lit_eq]
  have hb:s[i.toNat]?=some b:=by
   rw[i2];obtain⟨hlt,hget⟩:=zN.1 h4;have hlt':j<s.size:=hlt;rw[getElem?_pos s j hlt'];exact congrArg some hget
  exact⟨_,by simp[Instr.index,run_underlying hu,asIntOf,i0,hb], .i (.lit _)⟩
 ·rename_i n e cs hd;have hu:=nT hd;obtain⟨k,hk,h1⟩:=aI.1 h;obtain⟨g,hg,h2⟩:=aI.1 h1;obtain⟨j,h3,h4⟩:=aI.1 h2;obtain⟨l,h5,h6⟩:=aI.1 h4;obtain⟨q,i,rfl,i0,i1,i2⟩:=lG hix h3
  cases hx with
  | i hx=>cases hx with
   | agg hc =>
    obtain⟨y,j1,j2⟩:=ABE (w:=w) (φ:=φ) hk hg hc h5 h6;exact⟨y,by simp[Instr.index,run_underlying hu,asIntOf,i0,i1,dL hk,i2,j1],j2⟩
 ·cases h
theorem R9 {x r:AV} {xv:Value} {j:Nat} (hx:Rep m φ x xv) (h:EC j x=some r):∃ v,(Instr.extract xv j).run C.P w=.ok v w∧Rep m φ r v:=by
 unfold EC at h;split at h
 ·cases hx with
  | tup hl =>
   have key:∀ {cs:List AV} {vs:List Value} {j:Nat} {r:AV},RepL m φ cs vs→cs[j]?=some r→∃ v,vs[j]?=some v∧Rep m φ r v:=by
    intro cs
    induction cs with
    | nil=>intro vs j r _ h;simp at h
    | cons c cs ih =>
     intro vs j r hl h
     cases hl with
     | cons a b =>
      cases j with
      | zero=>simp at h;subst h;exact⟨_,rfl,a⟩
      | succ j=>obtain⟨v,h1,h2⟩:=ih b (by simpa using h);exact⟨v,by simpa using h1,h2⟩
   obtain⟨v,h1,h2⟩:=key hl h;exact⟨v,by simp[Instr.extract,h1],h2⟩
 ·cases h
theorem LK {o:Option AV} {v:Option Value} {dflt n h:Nat} (hr:∀ a,o=some a→∃ x,v=some x∧Rep m φ a x) (hn:o=none→v=none) (e:kI o dflt n=some h) :
 (o=none∧v=none∧h=dflt)∨∃ k i,v=some (.int k i)∧0≤i∧i≤n∧h=i.toNat:=by
 unfold kI at e;split at e
 ·injection e with e;exact .inl ⟨rfl,hn rfl,e.symm⟩
 ·obtain⟨h1,h2⟩:=aQ.1 e;have h1:=zR h1;injection h2 with h2;obtain⟨x,rfl,hx⟩:=hr _ rfl;exact .inr ⟨_,_,by rw[hx.lit_eq],h1.1,h1.2,h2.symm⟩
 ·cases e
theorem qK {isSlice:Bool} {len cap:Nat} {lo hi:Option AV} {lv hv:Option Value} {l h:Nat} (hlc:len≤cap)
 (r1:∀ a,lo=some a→∃ x,lv=some x∧Rep m φ a x) (n1:lo=none→lv=none) (r2:∀ a,hi=some a→∃ x,hv=some x∧Rep m φ a x) (n2:hi=none→hv=none)
 (e1:kI hi len len=some h) (e2:kI lo 0 h=some l) :
 (Instr.sliceBounds isSlice len cap lv hv none).run C.P w=.ok (l,h,cap) w∧l≤h∧h≤len:=by
 have q2:=LK r2 n2 e1;have q1:=LK r1 n1 e2
 rcases q2 with ⟨_,rfl,rfl⟩|⟨k,i,rfl,i0,i1,rfl⟩
 ·rcases q1 with ⟨_,rfl,rfl⟩|⟨k',j,rfl,j0,j1,rfl⟩
  ·exact⟨by simp[Instr.sliceBounds],by omega,by omega⟩
  ·exact⟨by simp[Instr.sliceBounds,Instr.sliceBound,asIntOf,j0,j1],by omega,by omega⟩
 ·have i2:i≤(cap:Int):=by omega
  rcases q1 with ⟨_,rfl,rfl⟩|⟨k',j,rfl,j0,j1,rfl⟩
  ·exact⟨by simp[Instr.sliceBounds,Instr.sliceBound,asIntOf,i0,i2],by omega,by omega⟩
  ·have j2:j≤i:=by omega
   exact⟨by simp[Instr.sliceBounds,Instr.sliceBound,asIntOf,i0,i2,j0,j2,Int.toNat_of_nonneg i0],by omega,by omega⟩
end
section
variable {C:Ctx} {w:World} {m:Mem} {φ:Pl} {st:Store} {env:Nat→AV} {ρ:Operand→Value}
theorem XV {t:TypeId} {x r:AV} {xv:Value} {lo hi:Option AV} {lv hv:Option Value} (hx:Rep m φ x xv)
 (r1:∀ a,lo=some a→∃ x,lv=some x∧Rep m φ a x) (n1:lo=none→lv=none) (r2:∀ a,hi=some a→∃ x,hv=some x∧Rep m φ a x) (n2:hi=none→hv=none)
 (h:H5 C t lo hi x=some r) :
 ∃ v,(Instr.sliceAt t xv lv hv none).run C.P w=.ok v w∧Rep m φ r v:=by
 unfold H5 at h;split at h
 ·rename_i s;obtain⟨hd,h0⟩:=aQ.1 h;obtain⟨h',e1,h1⟩:=aI.1 h0;obtain⟨l,e2,h2⟩:=aI.1 h1;injection h2 with h2;subst h2
  have hu:C.P.underlying t=some .string:=by
   unfold AI4 at hd;split at hd
   ·rename_i hd';exact fC hd'
   ·cases hd
  obtain⟨k1,k2,k3⟩:=qK (w:=w) (C:=C) (isSlice:=false) (zO s.size) r1 n1 r2 n2 e1 e2;rw[hx.lit_eq];exact⟨_,by simp[Instr.sliceAt,Instr.slice,run_underlying hu,k1], .i (.lit _)⟩
 ·rename_i es;obtain⟨e,he,h1⟩:=aI.1 h;obtain⟨k,hk,h2⟩:=aI.1 h1;obtain⟨hw1,h3⟩:=aQ.1 h2;obtain⟨h',e1,h4⟩:=aI.1 h3;obtain⟨l,e2,h5⟩:=aI.1 h4;injection h5 with h5;subst h5;have hu:=jX he;have hwd:=TL hw1
  cases hx with
  | i hx =>
   cases hx with
   | isl0 ao cap hc =>
    obtain⟨k1,k2,k3⟩:=qK (w:=w) (C:=C) (isSlice:=true) (zB9 cap) r1 n1 r2 n2 (by simpa using e1) e2;have hl0:l=0:=by omega
    have hh0:h'=0:=by omega
    subst hl0;subst hh0;refine⟨_,by simp[Instr.sliceAt,Instr.slice,run_underlying hu,k1,dL hk];rfl,?_⟩;have:window ([]:List (List IV)) 0 0=[]:=rfl;rw[this];split
    ·exact .i (.isl0 _ _ hc)
    ·refine .i (.isl0 _ _ fun h=>?_)
     cases ao with
     | none=>exact hc rfl
     | some a=>simp at h
   | @isl b off k' _ cap hn hel hcap =>
    obtain⟨k1,k2,k3⟩:=qK (w:=w) (C:=C) (isSlice:=true) hcap r1 n1 r2 n2 e1 e2
    have hkk:k'=k:=by
     cases es with
     | nil=>exact absurd rfl hn
     | cons e0 es=>exact(uU hel e0 (by simp)).symm.trans (hwd e0 (by simp))
    subst hkk;refine⟨_,by simp[Instr.sliceAt,Instr.slice,run_underlying hu,k1,dL hk];rfl,?_⟩;have hwn:(window es l (h'-l)).length=h'-l:=by unfold window;simp;omega
    by_cases h0:h'-l=0
    ·rw[h0];have:window es l 0=[]:=by simp[window]
     rw[this];split
     ·exact .i (.isl0 _ _ fun h=>by cases h)
     ·exact .i (.isl0 _ _ fun h=>by cases h)
    ·have hcl:¬ cap=l:=by omega
     simp only[hcl,if_false];rw[Addr.dP,yU l];have hel':=IE l (h'-l) hel;have hne:window es l (h'-l)≠[]:=fun h=>by rw[h]at hwn;simp at hwn;omega
     have:=Rep.i (φ:=φ) (IRep.isl (cap:=cap-l) hne hel' (by rw[hwn];omega))
     rwa [hwn]at this
 ·rename_i id k off len;obtain⟨e,he,h1⟩:=aI.1 h;obtain⟨k',hk,h2⟩:=aI.1 h1;obtain⟨hw1,h3⟩:=aQ.1 h2;have hw1:=zR hw1;subst hw1;obtain⟨h',e1,h4⟩:=aI.1 h3;obtain⟨l,e2,h5⟩:=aI.1 h4;injection h5 with h5;subst h5;have hu:=jX he
  cases hx with
  | @osl _ _ _ _ cap b n ao eφ hlc hcap ha1 ha2 =>
   obtain⟨k1,k2,k3⟩:=qK (w:=w) (C:=C) (isSlice:=true) hlc r1 n1 r2 n2 e1 e2;refine⟨_,by simp[Instr.sliceAt,Instr.slice,run_underlying hu,k1,dL hk];rfl,?_⟩;by_cases hcl:cap=l
   ·simp only[hcl,if_true,zE6];have:h'-l=0:=by omega
    rw[this];refine .osl eφ (zO _) ?_ (fun h=>absurd rfl h) (fun _=>rfl);rw[yE];subst hcl;exact hcap
   ·simp only[hcl,if_false];have hao:=ha1 (by omega);subst hao;refine .osl eφ (by omega) ?_ (fun _=>?_) (fun h=>by simp at h)
    ·rw[show off+l+(cap-l)=off+cap by omega];exact hcap
    ·simp only[xG,Addr.dP];rw[zC,yU l]
 ·obtain⟨e,he,h1⟩:=aI.1 h;obtain⟨k,hk,h2⟩:=aI.1 h1;obtain⟨h',e1,h4⟩:=aI.1 h2;obtain⟨l,e2,h5⟩:=aI.1 h4;injection h5 with h5;subst h5;have hu:=jX he
  cases hx with
  | nils =>
   obtain⟨k1,k2,k3⟩:=qK (w:=w) (C:=C) (isSlice:=true) (zO 0) r1 n1 r2 n2 e1 e2;have hl0:l=0:=by omega
   have hh0:h'=0:=by omega
   subst hl0;subst hh0;exact⟨_,by simp[Instr.sliceAt,Instr.slice,run_underlying hu,k1,dL hk], .nils⟩
 ·cases h
theorem AI2 {t ty:TypeId} {x:AV} {xv:Value} {n:Nat} (hx:Rep m φ x xv) (h:APE (bJ C.P t) x=some n):(Builtin.len_ #[t] ty #[xv]).run C.P w=.ok (goInt n) w:=by
 unfold APE at h;split at h
 ·rename_i e hd;have hu:=fZ hd;injection h with h;subst h
  cases hx with|nils=>simp[Builtin.len_,run_underlying hu]
 ·rename_i e es hd;have hu:=fZ hd;injection h with h;subst h
  cases hx with
  | i hx=>cases hx<;>simp[Builtin.len_,run_underlying hu]
 ·rename_i e id k off len hd;have hu:=fZ hd;injection h with h;subst h
  cases hx with|osl=>simp[Builtin.len_,run_underlying hu]
 ·rename_i e a len cap hd;have hu:=fZ hd;injection h with h;subst h;rw[hx.lit_eq];simp[Builtin.len_,run_underlying hu]
 ·rename_i s hd;have hu:=fC hd;injection h with h;subst h;rw[hx.lit_eq];simp[Builtin.len_,run_underlying hu]
 ·cases h
theorem ANU {a b:AV} {vs:List Value} (h:RepL m φ [a,b] vs):∃ x y,vs=[x,y]∧Rep m φ a x∧Rep m φ b y:=by
 cases h with|cons a h=>cases h with|cons b h=>cases h;exact⟨_,_,rfl,a,b⟩
theorem AEP {a:AV} {vs:List Value} (h:RepL m φ [a] vs):∃ x,vs=[x]∧Rep m φ a x:=by
 cases h with|cons a h=>cases h;exact⟨_,rfl,a⟩
theorem AHK {args:List AV} {vs:List Value} {r:AV} {ts:Array TypeId} {ty:TypeId} (hx:RepL m φ args vs) (h:uH .min args=some r):∃ v,(Builtin.min_ ts ty vs.toArray).run C.P w=.ok v w∧Rep m φ r v:=by
 unfold uH at h;split at h
 ·injection h with h;subst h;obtain⟨x,y,rfl,k1,k2⟩:=ANU hx;rw[k1.lit_eq,k2.lit_eq];exact⟨_,by simp[Builtin.min_,Builtin.min2], .i (.lit _)⟩
 ·rename_i hq;cases hq
 ·cases h
theorem AHS {args:List AV} {vs:List Value} {r:AV} {ts:Array TypeId} {ty:TypeId} (hx:RepL m φ args vs) (h:uH .max args=some r):∃ v,(Builtin.max_ ts ty vs.toArray).run C.P w=.ok v w∧Rep m φ r v:=by
 unfold uH at h;split at h
 ·rename_i hq;cases hq
 ·injection h with h;subst h;obtain⟨x,y,rfl,k1,k2⟩:=ANU hx;rw[k1.lit_eq,k2.lit_eq];exact⟨_,by simp[Builtin.max_,Builtin.max2], .i (.lit _)⟩
 ·cases h
theorem RA (hρ:Fits m φ env ρ):∀ {l:List Operand},(∀ x∈l,KT x=true)→RepL m φ (evL env l) (l.map ρ)
 | [],_=>.nil
 | x::l,h=>.cons (hρ x (h x (by simp))) (RA hρ fun y hy=>h y (by simp[hy]))
theorem KY {l:List (Nat×Operand)} {p:Nat×Operand} (h:p∈l):p.2∈gJ l:=by
 induction l with
 | nil=>cases h
 | cons q l ih =>
  rcases zS.1 h with rfl|h
  ·simp[gJ]
  ·simp[gJ,ih h]
theorem AKJ (hz:sS C.P) {t:TypeId} {z:List Value} (h:zeroOf C.P t=some z):RepC m φ (eP z) z:=p9 m φ z (hz t z h)
def AYY (nx:Next) (y:Value):Prop:=nx=.value y∨(nx=.skip∧y=undef)
theorem XN (hC:CtxOk C) {nb:Nat} {o:Oper} {v:AV} {st':Store} (hi:Inv w m φ st) (hf:∀ id,nb≤id→id<nb+wide→φ id=none) (hρ:Fits m φ env ρ) (ho:AcI o.op=true)
 (h:eY C env st nb o.op=some (v,st')):∃ nx y w',(execOp ρ o).run C.P w=.ok nx w'∧AYY nx y∧Out w m φ nb v st' y w':=by
 have hall:∀ x∈opsOf o.op,KT x=true:=fun x hx=>zQ.1 ho x hx
 unfold execOp;unfold eY at h;split at h
 ·rename_i x e;rw[e]at hall;simp only[e];injection h with h;injection h with h1 h2;subst h1;subst h2;exact⟨_,_,w,by simp, .inl rfl,Out.same hi (hρ x (hall x (by simp[opsOf])))⟩
 ·rename_i x e;rw[e]at hall;simp only[e];injection h with h;injection h with h1 h2;subst h1;subst h2;exact⟨_,_,w,by simp, .inl rfl,Out.same hi (hρ x (hall x (by simp[opsOf])))⟩
 ·rename_i c a b e;rw[e]at hall;simp only[e];obtain⟨v',h1,h2⟩:=aI.1 h;injection h2 with h2;injection h2 with h2 h3;subst h2;subst h3;obtain⟨t,h4,h5⟩:=AD6 (hρ c (hall c (by simp[opsOf]))) (hρ a (hall a (by simp[opsOf]))) (hρ b (hall b (by simp[opsOf]))) h1;refine⟨_,_,w,?_, .inl rfl,Out.same hi h5⟩;rw[h4];simp[asBool]
 ·rename_i t e;simp only[e];obtain⟨z,h1,h2⟩:=aI.1 h;injection h2 with h2;injection h2 with h2 h3;subst h2;subst h3;obtain⟨zv,h4,h5⟩:=DD h1 w;obtain⟨a,w',h6,h7⟩:=WJ (C:=C) (e:=t) (xv:=zv) hi hf (by rw[h5];exact AKJ hC.zeros h1);exact⟨_,_,w',by simp[Instr.alloc,h4,h6], .inl rfl,h7⟩
 ·rename_i t x e;rw[e]at hall;simp only[e];obtain⟨cs,h1,h2⟩:=aI.1 h;injection h2 with h2;injection h2 with h2 h3;subst h2;subst h3;obtain⟨a,w',h6,h7⟩:=WJ (C:=C) (e:=t) hi hf (BO h1 (hρ x (hall x (by simp[opsOf]))));exact⟨_,_,w',by simp[Instr.box,h6], .inl rfl,h7⟩
 ·rename_i t parts e;rw[e]at hall;simp only[e];obtain⟨g,hg,h1⟩:=aI.1 h;obtain⟨rfl,h2⟩:=aQ.1 h1;obtain⟨z,hz,h3⟩:=aI.1 h2;obtain⟨ps,hps,h4⟩:=aI.1 h3;obtain⟨cs,hcs,h5⟩:=aI.1 h4;injection h5 with h5;injection h5 with h5 h6;subst h5;subst h6;obtain⟨out,k1,k2⟩:=AJ9 (w:=w) hC.zeros hC.fields hρ (fun p hp=>hall _ (by simpa [opsOf]using KY hp)) hz hps hcs hg;refine⟨_, .agg out,w,by simp[k1], .inl rfl,Out.same hi ?_⟩;have:=KW k2;simpa using this
 ·rename_i t n parts e;rw[e]at hall;simp only[e];obtain⟨el,he,h1⟩:=aI.1 h;obtain⟨ps,hps,h2⟩:=aI.1 h1;have hpr:=AR hρ (fun p hp=>hall _ (by simpa [opsOf]using KY hp)) hps;unfold rG at h2;split at h2
  ·obtain⟨y,w',k1,k2⟩:=ADG (w:=w) hC.zeros hi hf (jX he) hpr h2 (parts.map fun p=>(p.1,ρ p.2)) (by simp);exact⟨_,_,w',by simp[k1], .inl rfl,k2⟩
  ·obtain⟨y,w',k1,k2⟩:=ND (w:=w) hC.zeros hi hf (jX he) hpr h2 (parts.map fun p=>(p.1,ρ p.2)) (by simp);exact⟨_,_,w',by simp[k1], .inl rfl,k2⟩
 ·rename_i t a e;rw[e]at hall;simp only[e];obtain⟨v',h1,h2⟩:=aI.1 h;injection h2 with h2;injection h2 with h2 h3;subst h2;subst h3;obtain⟨ad,y,k1,k2,k3⟩:=BA hi (hρ a (hall a (by simp[opsOf]))) h1;exact⟨_,_,w,by simp[Instr.loadAt,Instr.sureAddr,k1,k2], .inl rfl,Out.same hi k3⟩
 ·rename_i t a x e;rw[e]at hall;simp only[e];obtain⟨st1,h1,h2⟩:=aI.1 h;injection h2 with h2;injection h2 with h2 h3;subst h2;subst h3;obtain⟨w',m',φ',k1,k2,k3,k4⟩:=U0 hi (hρ a (hall a (by simp[opsOf]))) (hρ x (hall x (by simp[opsOf]))) h1;exact⟨_,_,w',by simp[k1], .inr ⟨rfl,rfl⟩,m',φ', .i (.lit _),k2,k3,fun _ h=>.inl (k4 _ h)⟩
 ·rename_i x e;rw[e]at hall;simp only[e];obtain⟨v',h1,h2⟩:=aI.1 h;injection h2 with h2;injection h2 with h2 h3;subst h2;subst h3;obtain⟨k1,k2⟩:=AHC (hρ x (hall x (by simp[opsOf]))) h1;refine⟨_,ρ x,w,?_, .inl rfl,Out.same hi k1⟩
  rcases k2 with ⟨ad,k2⟩|⟨g,cs,k2⟩<;>simp[k2]
 ·rename_i op t x y ty e;rw[e]at hall;simp only[e];obtain⟨r,h1,h2⟩:=aI.1 h;injection h2 with h2;injection h2 with h2 h3;subst h2;subst h3;obtain⟨v',k1,k2⟩:=AEG (w:=w) hC x y (hρ x (hall x (by simp[opsOf]))) (hρ y (hall y (by simp[opsOf]))) h1;refine⟨_,_,w,?_, .inl rfl,Out.same hi (.i k2)⟩;rw[Sem.run_bind,k1];simp
 ·rename_i op ty x e;rw[e]at hall;simp only[e];obtain⟨r,h1,h2⟩:=aI.1 h;injection h2 with h2;injection h2 with h2 h3;subst h2;subst h3;obtain⟨v',k1,k2⟩:=AKS (C:=C) (w:=w) (hρ x (hall x (by simp[opsOf]))) h1;exact⟨_,_,w,by simp[k1], .inl rfl,Out.same hi (.i k2)⟩
 ·rename_i s d x e;rw[e]at hall;simp only[e];obtain⟨r,h1,h2⟩:=aI.1 h;injection h2 with h2;injection h2 with h2 h3;subst h2;subst h3;obtain⟨v',k1,k2⟩:=Z9 (C:=C) (w:=w) hi (hρ x (hall x (by simp[opsOf]))) h1;exact⟨_,_,w,by simp[k1], .inl rfl,Out.same hi k2⟩
 ·rename_i t l c e;rw[e]at hall;simp only[e];obtain⟨y,w',k1,k2⟩:=ADC hC.zeros hi hf (hρ l (hall l (by simp[opsOf]))) (hρ c (hall c (by simp[opsOf]))) h;exact⟨_,_,w',by simp[k1], .inl rfl,k2⟩
 ·rename_i t x lo hi' e;rw[e]at hall;simp only[e];obtain⟨r,h1,h2⟩:=aI.1 h;injection h2 with h2;injection h2 with h2 h3;subst h2;subst h3
  have q:∀ (l:Option Operand),(∀ x∈l.toList,KT x=true)→(∀ a,evO env l=some a→∃ x,l.map ρ=some x∧Rep m φ a x)∧(evO env l=none→l.map ρ=none):=by
   intro l hl
   cases l with
   | none=>exact⟨fun a h=>(by cases h),fun _=>rfl⟩
   | some x=>exact⟨fun a h=>(by injection h with h;subst h;exact⟨_,rfl,hρ x (hl x (by simp))⟩),fun h=>(by cases h)⟩
  obtain⟨q1,q2⟩:=q lo fun x hx=>hall x (by simp[opsOf]at hx ⊢;simp[hx])
  obtain⟨q3,q4⟩:=q hi' fun x hx=>hall x (by simp[opsOf]at hx ⊢;simp[hx])
  obtain⟨v',k1,k2⟩:=XV (C:=C) (w:=w) (hρ x (hall x (by simp[opsOf]))) q1 q2 q3 q4 h1;exact⟨_,_,w,by simp[k1], .inl rfl,Out.same hi k2⟩
 ·rename_i s x f e;rw[e]at hall;simp only[e];obtain⟨p,h1,h2⟩:=aI.1 h;obtain⟨n,h3,h4⟩:=aI.1 h2;obtain⟨h5,h6⟩:=aQ.1 h4;obtain⟨r,h7,h8⟩:=aI.1 h6;injection h8 with h8;injection h8 with h8 h9;subst h8;subst h9;obtain⟨v',k1,k2⟩:=M9 (w:=w) (hρ x (hall x (by simp[opsOf]))) h1 h3 (zR h5) h7;exact⟨_,_,w,by simp[k1], .inl rfl,Out.same hi k2⟩
 ·rename_i s x f e;rw[e]at hall;simp only[e];obtain⟨p,h1,h2⟩:=aI.1 h;obtain⟨n,h3,h4⟩:=aI.1 h2;obtain⟨g,h5,h6⟩:=aI.1 h4;obtain⟨r,h7,h8⟩:=aI.1 h6;injection h8 with h8;injection h8 with h8 h9;subst h8;subst h9;obtain⟨v',k1,k2⟩:=YU (w:=w) (hρ x (hall x (by simp[opsOf]))) h1 h3 h5 h7;exact⟨_,_,w,by simp[k1], .inl rfl,Out.same hi k2⟩
 ·rename_i t x ix e;rw[e]at hall;simp only[e];obtain⟨r,h1,h2⟩:=aI.1 h;injection h2 with h2;injection h2 with h2 h3;subst h2;subst h3;obtain⟨v',k1,k2⟩:=LJ (w:=w) (hρ x (hall x (by simp[opsOf]))) (hρ ix (hall ix (by simp[opsOf]))) h1;exact⟨_,_,w,by simp[k1], .inl rfl,Out.same hi k2⟩
 ·rename_i t x ix e;rw[e]at hall;simp only[e];obtain⟨r,h1,h2⟩:=aI.1 h;injection h2 with h2;injection h2 with h2 h3;subst h2;subst h3;obtain⟨v',k1,k2⟩:=YG (w:=w) (hρ x (hall x (by simp[opsOf]))) (hρ ix (hall ix (by simp[opsOf]))) h1;exact⟨_,_,w,by simp[k1], .inl rfl,Out.same hi k2⟩
 ·rename_i x j e;rw[e]at hall;simp only[e];obtain⟨r,h1,h2⟩:=aI.1 h;injection h2 with h2;injection h2 with h2 h3;subst h2;subst h3;obtain⟨v',k1,k2⟩:=R9 (C:=C) (w:=w) (hρ x (hall x (by simp[opsOf]))) h1;exact⟨_,_,w,by simp[k1], .inl rfl,Out.same hi k2⟩
 ·rename_i f first cs e;rw[e]at hall;simp only[e];obtain⟨h1,h2⟩:=aQ.1 h;obtain⟨v1,h0,h2⟩:=aI.1 h2;injection h2 with h2;injection h2 with h2 h3;subst h2;subst h3;unfold AM6 at h0;split at h0
  case h_2=>cases h0
  rename_i f;injection h0 with h0;subst h0
  have hfst:first=#[]:=by
   apply Array.ext';simpa [List.isEmpty_iff]using h1
  subst hfst;have hc:=RA hρ (l:=cs.toList) fun x hx=>hall x (by simpa [opsOf]using hx)
  have:=Rep.fn (f:=f) hc;exact⟨_, .func (.func f) #[] (cs.map ρ),w,by simp[Instr.makeFunc], .inl rfl,Out.same hi (by rw[show cs.map ρ=(cs.toList.map ρ).toArray from Array.ext' (by simp)];exact this)⟩
 ·rename_i b args ts e;rw[e]at hall;simp only[e];have hargs:=RA hρ (l:=args.toList) fun x hx=>hall x (show x∈args.toList from hx)
  have hres:resolve ρ { callee:=.builtin b,args:=args,argTypes:=ts } o.type=pure { target:=.builtin b ts o.type (args.map fun | .const _=>true|_=>false),args:=args.map ρ }:=rfl;rw[hres];have hmap:args.map ρ=(args.toList.map ρ).toArray:=Array.ext' (by simp);unfold jB at h;split at h
  ·rename_i t x ets eargs;rw[eargs]at hargs;obtain⟨n,h1,h2⟩:=aI.1 h;injection h2 with h2;injection h2 with h2 h3;subst h2;subst h3;obtain⟨xv,hv,hx⟩:=AEP hargs;have hts:ts=#[t]:=by apply Array.ext';simpa using ets
   refine⟨_,goInt n,w,?_, .inl rfl,Out.same hi (.i (.lit _))⟩;rw[hmap,hv,hts];simp[invoke,builtin,AI2 (C:=C) (w:=w) (ty:=o.type) hx h1]
  ·rename_i t u s x ets eargs;rw[eargs]at hargs;obtain⟨h1,h2⟩:=aQ.1 h;obtain⟨sv,xv,hv,hs,hx⟩:=ANU hargs;have hts:ts=#[t,u]:=by apply Array.ext';simpa using ets
   obtain⟨y,w',k1,k2⟩:∃ y w',(Builtin.append_ #[t,u] o.type #[sv,xv]).run C.P w=.ok y w'∧Out w m φ nb v st' y w':=by
    unfold IQ at h2;split at h2
    ·exact AES (w:=w) (ty:=o.type) hC.zeros hi hs hx hf h1 h2
    ·exact WO (w:=w) (ty:=o.type) hC.zeros hi hs hx hf h1 h2
   refine⟨_,_,w',?_, .inl rfl,k2⟩;rw[hmap,hv,hts];simp[invoke,builtin,k1]
  ·rename_i t u d x ets eargs;rw[eargs]at hargs;obtain⟨dv,xv,hv,hd,hx⟩:=ANU hargs;have hts:ts=#[t,u]:=by apply Array.ext';simpa using ets
   obtain⟨y,w',k1,k2⟩:=AE3 (C:=C) (w:=w) (u:=u) (ty:=o.type) (nb:=nb) hi hd hx h;refine⟨_,_,w',?_, .inl rfl,k2⟩;rw[hmap,hv,hts];simp[invoke,builtin,k1]
  ·obtain⟨r,h1,h2⟩:=aI.1 h;injection h2 with h2;injection h2 with h2 h3;subst h2;subst h3;obtain⟨y,k1,k2⟩:=AHK (C:=C) (w:=w) (ts:=ts) (ty:=o.type) hargs h1;refine⟨_,_,w,?_, .inl rfl,Out.same hi k2⟩;rw[hmap];simp[invoke,builtin,k1]
  ·obtain⟨r,h1,h2⟩:=aI.1 h;injection h2 with h2;injection h2 with h2 h3;subst h2;subst h3;obtain⟨y,k1,k2⟩:=AHS (C:=C) (w:=w) (ts:=ts) (ty:=o.type) hargs h1;refine⟨_,_,w,?_, .inl rfl,Out.same hi k2⟩;rw[hmap];simp[invoke,builtin,k1]
  ·cases h
 ·cases h
end
def Ren (r:Nat→Option Nat) (φ ψ:Pl):Prop:=∀ id j p,r id=some j→φ id=some p→ψ j=some p
mutual
theorem Rep.ren {m:Mem} {φ ψ:Pl} {r:Nat→Option Nat} (hr:Ren r φ ψ) {v:AV} {x:Value}:Rep m φ v x→Rep m ψ (ren r v) x
 | .junk v=>.junk v
 | .nils=>.nils
 | .i a=>.i a
 | .own (id:=id) e=>by
  unfold Av.ren
  cases h:r id with
  | none=>exact .junk _
  | some j=>exact .own (hr _ _ _ h e)
 | .ownE (id:=id) e=>by
  unfold Av.ren
  cases h:r id with
  | none=>exact .junk _
  | some j=>exact .ownE (hr _ _ _ h e)
 | .osl (id:=id) e a b c d=>by
  unfold Av.ren
  cases h:r id with
  | none=>exact .junk _
  | some j=>exact .osl (hr _ _ _ h e) a b c d
 | .agg c=>.agg (RepC.ren hr c)
 | .tup c=>.tup (RepL.ren hr c)
 | .fn c=>.fn (RepL.ren hr c)
 | .yld (id:=id) e=>by
  simp only[Av.ren,DL]
  cases h:r id with
  | none=>exact .ydead _
  | some j=>exact .yld (hr _ _ _ h e)
 | .ydead b=>.ydead b
theorem RepL.ren {m:Mem} {φ ψ:Pl} {r:Nat→Option Nat} (hr:Ren r φ ψ) {cs:List AV} {vs:List Value}:RepL m φ cs vs→RepL m ψ (DL r cs) vs
 | .nil=>.nil
 | .cons a b=>.cons (Rep.ren hr a) (RepL.ren hr b)
theorem RepC.ren {m:Mem} {φ ψ:Pl} {r:Nat→Option Nat} (hr:Ren r φ ψ) {cs:List AV} {vs:List Value}:RepC m φ cs vs→RepC m ψ (DL r cs) vs
 | .nil=>.nil
 | .cons a o b=>.cons (Rep.ren hr a) o (RepC.ren hr b)
end
theorem ABC (r:Nat→Option Nat) (t:Nat):∀ (ts:List Nat) (cs:List AV),aJ (X9 ts (DL r cs)) t=Av.ren r (aJ (X9 ts cs) t)
 | [],_=>by simp[X9,aJ,Av.ren]
 | _::_,[]=>by simp[X9,aJ,Av.ren,DL]
 | u::ts,c::cs=>by
  simp only[DL,X9,aJ];by_cases e:t=u
  ·simp[e]
  ·simp only[e,if_false];exact ABC r t ts cs
theorem BlkOk.ren {w:World} {m:Mem} {φ ψ:Pl} {r:Nat→Option Nat} (hr:Ren r φ ψ) {b:Nat} {n:Ext} {o:Option Blk} {blk:Blk} (h:∀ c,o=some c→BlkOk w m φ b n c) (e:DN r o=some blk):BlkOk w m ψ b n blk:=by
 unfold DN at e;split at e
 ·injection e with e;subst e
  cases h _ rfl with
  | box h1 h2 h3 h4=>exact .box h1 h2 (h3.ren hr) h4
 ·injection e with e;subst e
  cases h _ rfl with
  | arr h1 h2 h3 h4 h5 h6 h7 h8 h9=>exact .arr h1 h2 h3 h4 h5 h6 h7 h8 h9
 ·injection e with e;subst e
  cases h _ rfl with
  | frz h1 h2=>exact .frz h1 h2
 ·injection e with e;subst e
  cases h _ rfl with
  | fbox h1=>exact .fbox h1
 ·injection e with e;subst e
  cases h _ rfl with
  | tre h1 h2 h3 h4 h5 h6 h7 h8 h9 h10=>exact .tre h1 h2 h3 h4 h5 h6 h7 h8 h9 h10
 ·injection e with e;subst e
  cases h _ rfl with
  | loop h1 h2 h3 h4 h5 h6=>exact .loop h1 h2 h3 h4 (fun t=>by rw[ABC];exact(h5 t).ren hr) h6
 ·cases e
theorem qA {r:Nat→Option Nat} {o:Option Blk} {blk:Blk} (e:DN r o=some blk):∃ c,o=some c:=by
 cases o with
 | none=>simp[DN]at e
 | some c=>exact⟨c,rfl⟩
theorem HV:∀ (ids:List Nat) (n i j:Nat),kZ n ids i=some j→n≤j∧ids[j-n]?=some i
 | [],n,i,j,h=>by simp[kZ]at h
 | a::ids,n,i,j,h=>by
  simp only[kZ]at h;split at h
  ·rename_i e;injection h with h;subst h;subst e;simp
  ·obtain⟨h1,h2⟩:=HV ids (n+1) i j h;refine⟨by omega,?_⟩;rw[show j-n=(j-(n+1))+1 by omega];simpa using h2
theorem jS {ids:List Nat} {i j:Nat} (h:iD ids i=some j):ids[j]?=some i:=by
 have:=(HV ids 0 i j h).2;simpa using this
theorem OG:∀ (ids:List Nat) (n i k:Nat),ids.Nodup→ids[k]?=some i→kZ n ids i=some (n+k)
 | [],n,i,k,_,h=>by simp at h
 | a::ids,n,i,0,_,h=>by simp at h;subst h;simp[kZ]
 | a::ids,n,i,k+1,hd,h=>by
  have hk:ids[k]?=some i:=by simpa using h
  have hne:i≠a:=fun e=>by
   subst e;exact(yX.1 hd).1 (zU hk)
  simp only[kZ,hne,if_false];rw[OG ids (n+1) i k (yX.1 hd).2 hk];congr 1;omega
theorem DT {ids:List Nat} {i k:Nat} (hd:ids.Nodup) (h:ids[k]?=some i):iD ids i=some k:=by
 have:=OG ids 0 i k hd h;simpa [iD]using this
theorem HZ:∀ {ids:List Nat} {n i:Nat},kZ n ids i=none→i ∉ ids
 | [],_,_,_=>by simp
 | a::ids,n,i,h=>by
  simp only[kZ]at h;split at h
  ·cases h
  ·rename_i hne;have:=HZ h;simp[hne,this]
theorem LU {l:List Nat} {i:Nat}:NM l i=true↔i∈l:=by
 induction l with
 | nil=>simp[NM]
 | cons a l ih =>
  simp only[NM];split
  ·rename_i e;simp[e]
  ·rename_i e;simp[e,ih]
theorem rO (st:Store):∀ (n:Nat) (todo seen:List Nat),seen.Nodup→(reach st n todo seen).Nodup
 | 0,_,_,h=>by simpa [reach]using h
 | _+1,[],_,h=>by simpa [reach]using h
 | n+1,i::todo,seen,h=>by
  simp only[reach];split
  ·exact rO st n _ _ h
  ·rename_i hn;refine rO st n _ _ ?_;have hni:i ∉ seen:=fun hm=>hn (LU.2 hm)
   rw[zJ];refine⟨h,by simp,?_⟩;intro a ha b hb;simp at hb;subst hb;exact fun e=>hni (e ▸ ha)
theorem oU (st:Store):∀ (n:Nat) (todo seen:List Nat),∃ l,reach st n todo seen=seen++l
 | 0,_,seen=>⟨[],by simp[reach]⟩
 | _+1,[],seen=>⟨[],by simp[reach]⟩
 | n+1,i::todo,seen=>by
  simp only[reach];split
  ·exact oU st n _ _
  ·obtain⟨l,h⟩:=oU st n (iL (st i)++todo) (seen++[i]);exact⟨i::l,by rw[h];simp⟩
theorem XL (n:Nat):upto n=List.range n:=by
 induction n with
 | zero=>rfl
 | succ n ih=>rw[upto,ih,zC8]
theorem iX (st:Store) (na:Nat) (vs:List AV):(jL st na vs).Nodup:=rO st _ _ _ (by rw[XL];exact List.nodup_range)
theorem FQ (st:Store) (na:Nat) (vs:List AV) {j:Nat} (h:j<na):(jL st na vs)[j]?=some j:=by
 obtain⟨l,hl⟩:=oU st LZ (rU st (upto na)++bC vs) (upto na);unfold jL;rw[hl,XL,zG (by simpa using h)];simp[List.getElem?_range h]
theorem YD (st:Store) (na:Nat) (vs:List AV):na≤(jL st na vs).length:=by
 obtain⟨l,hl⟩:=oU st LZ (rU st (upto na)++bC vs) (upto na);unfold jL;rw[hl,XL];simp
theorem iT (r:Nat→Option Nat) (st:Store):∀ (ids:List Nat),(lU r st ids).length=ids.length
 | []=>rfl
 | _::ids=>by simp[lU,iT r st ids]
theorem rE:∀ (l:StL) (j:Nat),aR l j=(l[j]?).join
 | [],j=>by simp[aR]
 | b::l,0=>by simp[aR]
 | b::l,j+1=>by simp[aR,rE l j]
theorem U2 (r:Nat→Option Nat) (st:Store):∀ (ids:List Nat) (j:Nat),aR (lU r st ids) j=(ids[j]?).bind fun i=>DN r (st i)
 | [],j=>by simp[lU,aR]
 | i::ids,0=>by simp[lU,aR]
 | i::ids,j+1=>by simp[lU,aR,U2 r st ids j]
def eX (ids:List Nat) (φ:Pl):Pl:=fun j=>(ids[j]?).bind φ
theorem nZ (ids:List Nat) (φ:Pl):Ren (iD ids) φ (eX ids φ):=fun id j p h e=>by
 simp[eX,jS h,e]
theorem Inv.keep {w:World} {m:Mem} {φ:Pl} {st:Store} (h:Inv w m φ st) {ids:List Nat} (hd:ids.Nodup):Inv w m (eX ids φ) (aR (lU (iD ids) st ids)):=by
 have key:∀ j blk,aR (lU (iD ids) st ids) j=some blk→∃ i,ids[j]?=some i∧DN (iD ids) (st i)=some blk:=by
  intro j blk e;rw[U2]at e
  cases hi:ids[j]? with
  | none=>rw[hi]at e;cases e
  | some i=>rw[hi]at e;exact⟨i,rfl,e⟩
 refine⟨h.mem,?_,?_,fun j b n f p1 o1=>?_,h.kn⟩
 ·intro j blk e;obtain⟨i,h1,h2⟩:=key j blk e;obtain⟨c,hc⟩:=qA h2;obtain⟨b,n,h3,h4,h5⟩:=h.live i c hc;refine⟨b,n,by simp[eX,h1,h3],h4,BlkOk.ren (nZ ids φ) (fun c' e'=>?_) h2⟩;rw[hc]at e';injection e' with e';subst e';exact h5
 ·intro j j' b b2 n n' blk blk' f e1 e2 p1 p2 o1 o2;obtain⟨i,h1,h2⟩:=key j blk e1;obtain⟨i',h1',h2'⟩:=key j' blk' e2;obtain⟨c,hc⟩:=qA h2;obtain⟨c',hc'⟩:=qA h2';simp only[eX,h1,yH]at p1;simp only[eX,h1',yH]at p2;have:=h.inj i i' b b2 n n' c c' f hc hc' p1 p2 o1 o2;subst this;have a1:=DT hd h1;have a2:=DT hd h1';rw[a1]at a2;injection a2
 ·cases hi:ids[j]? with
  | none=>simp[eX,hi]at p1
  | some i=>simp only[eX,hi,yH]at p1;exact h.low i b n f p1 o1
theorem Adv.keep {w0 w:World} {m0 m:Mem} {φ0 φ:Pl} (h:Adv w0 m0 φ0 w m φ) {ids:List Nat} {na:Nat} (h0:∀ id,φ0 id≠none→id<na) (hk:∀ j,j<na→ids[j]?=some j):Adv w0 m0 φ0 w m (eX ids φ):=by
 refine⟨h.size,h.os,h.tape,h.output,h.block,h.mle,h.mnew,?_,?_⟩
 ·intro id b n e;have h1:=hk id (h0 id (by rw[e];simp));simp only[eX,h1,yH];exact h.ple _ _ _ e
 ·intro id b n f h2 ho
  cases hi:ids[id]? with
  | none=>simp[eX,hi]at h2
  | some i =>
   simp only[eX,hi,yH]at h2;exact h.pnew i b n f h2 ho
section
variable {C:Ctx}
def bS (w:World) (m:Mem) (φ:Pl) (r:AV) (stl':StL) (e:Ending) (w':World):Prop :=
 ∃ v m' φ',e=.returned v∧Rep m' φ' r v∧Inv w' m' φ' (aR stl')∧Adv w m φ w' m' φ'∧∀ id,φ' id≠none→id<stl'.length
structure CallOk (C:Ctx) (call:dI):Prop where
 name:∀ g args stl p,g≠oG→call g args stl=some p→∃ fn,C.P.funcs[g]?=some fn∧fn.name≠ "runtime.NumGoroutine"∧fn.body.isSome=true
 calls:∀ g args stl r stl',g≠oG→call g args stl=some (r,stl')→∀ (w:World) (m:Mem) (φ:Pl) (vs:List Value),Inv w m φ (aR stl)→RepL m φ args vs→(∀ id,φ id≠none→id<stl.length) →
  Calls C.P g vs.toArray w (bS w m φ r stl')
 rounds:∀ args stl r stl',call oG args stl=some (r,stl')→∀ (w:World) (m:Mem) (φ:Pl) (vs:List Value),Inv w m φ (aR stl)→RepL m φ args vs→(∀ id,φ id≠none→id<stl.length) →
  ∃ l us,vs=.func (.yield l) #[] #[]::us∧YieldAt Fence.wide 0 C.P l us.toArray w (bS w m φ r stl')
theorem pG {w:World} {m:Mem} {φ:Pl} {st st1:Store} {v u:AV} {x:Value} (hi:Inv w m φ st) (hr:Rep m φ v x) (h:jC st v=some (u,st1)) :
 ∃ m1,Rep m1 φ u x∧Inv w m1 φ st1∧Adv w m φ w m1 φ:=by
 unfold jC at h;split at h
 ·injection h with h;injection h with h1 h2;subst h1;subst h2;exact⟨m,hr,hi, .refl _ _ _⟩
 ·injection h with h;injection h with h1 h2;subst h1;subst h2;exact⟨m,hr,hi, .refl _ _ _⟩
 ·obtain⟨p,h1,h2⟩:=aI.1 h;injection h2 with h2;injection h2 with h2 h3;subst h2;subst h3;obtain⟨m1,k1,k2,k3⟩:=iY hi hr (show rV st _=some (p.1,p.2)from h1);exact⟨m1, .i k1,k2,k3⟩
theorem EK {w:World}:∀ {args us:List AV} {m:Mem} {φ:Pl} {st st1:Store} {vs:List Value},Inv w m φ st→RepL m φ args vs→gL st args=some (us,st1) →
 ∃ m1,RepL m1 φ us vs∧Inv w m1 φ st1∧Adv w m φ w m1 φ
 | [],us,m,φ,st,st1,_,hi, .nil,h=>by
  simp[gL]at h;obtain⟨rfl,rfl⟩:=h;exact⟨m, .nil,hi, .refl _ _ _⟩
 | v::args,us,m,φ,st,st1,_,hi, .cons a b,h=>by
  simp only[gL]at h;obtain⟨p,h1,h2⟩:=aI.1 h;obtain⟨q,h3,h4⟩:=aI.1 h2;injection h4 with h4;injection h4 with h4 h5;subst h4;subst h5;obtain⟨m1,k1,k2,k3⟩:=pG hi a (show jC st v=some (p.1,p.2)from h1);obtain⟨m2,j1,j2,j3⟩:=EK k2 (b.mono k3.mle (.refl _)) (show gL p.2 args=some (q.1,q.2)from h3);exact⟨m2, .cons (k1.mono j3.mle (.refl _)) j1,j2,k3.trans j3⟩
theorem I7 {st:Store}:∀ {ids:List Nat},rT st ids=true→∀ i∈ids,∃ c,st i=some c
 | [],_=>by simp
 | i::ids,h=>by
  simp only[rT,zT]at h;intro j hj
  rcases zS.1 hj with rfl|hj
  ·cases hs:st j with
   | none=>rw[hs]at h;simp[AME]at h
   | some c=>exact⟨c,rfl⟩
  ·exact I7 h.2 j hj
theorem sK:∀ (ids:List Nat) (nb j:Nat),pF ids nb j=if j<ids.length then ids[j]? else some (nb+(j-ids.length))
 | [],nb,j=>by simp[pF]
 | i::ids,nb,0=>by simp[pF]
 | i::ids,nb,j+1=>by
  rw[pF,sK ids nb j];simp
theorem UQ (r:Nat→Option Nat) (st:Store):∀ (ids:List Nat) (stl:StL) (nb:Nat) (id:Nat),ids.Nodup →
 kF r st nb ids stl id=match iD ids id with
  | some j=>if j<stl.length then DN r (aR stl j)else st id
  | none=>if nb≤id∧id-nb+ids.length<stl.length then DN r (aR stl (id-nb+ids.length))else st id:=by
 intro ids stl
 induction stl generalizing ids with
 | nil=>intro nb id _;cases ids<;>simp[kF]<;>split<;>simp
 | cons b bs ih =>
  intro nb id hd
  cases ids with
  | nil =>
   simp only[kF,upd];have h0:iD [] id=none:=rfl;rw[h0];by_cases e:id=nb
   ·subst e;simp[aR]
   ·simp only[e,if_false];rw[ih [] (nb+1) id (by simp),h0];simp only[yT,yE,zP];by_cases h1:nb+1≤id
    ·have h2:id-nb=(id-(nb+1))+1:=by omega
     rw[h2];simp only[aR];by_cases h3:id-(nb+1)<bs.length
     ·rw[if_pos ⟨h1,h3⟩,if_pos ⟨by omega,by omega⟩]
     ·rw[if_neg (by omega),if_neg (by omega)]
    ·rw[if_neg (by omega),if_neg (by omega)]
  | cons i ids =>
   simp only[kF,upd];have hd':=yX.1 hd;by_cases e:id=i
   ·subst e;simp[iD,kZ,aR]
   ·simp only[e,if_false];rw[ih ids nb id hd'.2]
    cases hp:iD ids id with
    | none =>
     have h1:iD (i::ids) id=none:=by
      cases h2:iD (i::ids) id with
      | none=>rfl
      | some j =>
       have h3:=jS h2
       cases j with
       | zero=>simp at h3;exact absurd h3.symm e
       | succ j =>
        have h4:ids[j]?=some id:=by simpa using h3
        rw[DT hd'.2 h4]at hp;cases hp
     rw[h1];simp only[zP];by_cases h3:nb≤id∧id-nb+ids.length<bs.length
     ·rw[if_pos h3,if_pos ⟨h3.1,by omega⟩];rw[show id-nb+(ids.length+1)=(id-nb+ids.length)+1 by omega];simp[aR]
     ·rw[if_neg h3,if_neg (by omega)]
    | some j =>
     have h1:iD (i::ids) id=some (j+1):=DT hd (by simpa using jS hp);rw[h1];simp only[zP,aR];by_cases h3:j<bs.length
     ·rw[if_pos h3,if_pos (by omega)]
     ·rw[if_neg h3,if_neg (by omega)]
def BS (ids:List Nat) (nb:Nat) (φ φ':Pl):Pl:=fun id =>
 match iD ids id with
 | some j=>φ' j
 | none=>if nb≤id∧id<nb+wide then φ' (id-nb+ids.length)else φ id
theorem AD5 {ids:List Nat} {i:Nat} (h:iD ids i=none):i ∉ ids:=HZ h
theorem NP {w w':World} {m m':Mem} {φ φ':Pl} {st st':Store} {nb:Nat} {ids:List Nat} {r v:AV} {stl':StL} {y:Value} (hi:Inv w m φ st) (hf:∀ id,nb≤id→id<nb+wide→φ id=none)
 (hd:ids.Nodup) (hlive:∀ i∈ids,∃ c,st i=some c)
 (hr:Rep m' φ' r y) (hi':Inv w' m' φ' (aR stl')) (ha:Adv w m (eX ids φ) w' m' φ') (hb:∀ id,φ' id≠none→id<stl'.length)
 (h:wD ids st nb r stl'=some (v,st')):Out w m φ nb v st' y w':=by
 unfold wD at h;obtain⟨h1,h2⟩:=aQ.1 h;obtain⟨hl1,hl2⟩:=zR h1;injection h2 with h2;injection h2 with h2 h3;subst h2;subst h3
 have hlt:∀ i∈ids,¬ (nb≤i∧i<nb+wide):=fun i hm hh=>by
  obtain⟨c,hc⟩:=hlive i hm;obtain⟨b,n,e,_⟩:=hi.live _ _ hc;rw[hf i hh.1 hh.2]at e;cases e
 have hren:Ren (pF ids nb) φ' (BS ids nb φ φ'):=by
  intro j id p e1 e2;rw[sK]at e1;split at e1
  ·unfold BS;rw[DT hd e1];exact e2
  ·rename_i hj;injection e1 with e1;have hjl:=hb j (by rw[e2];simp)
   have hnone:iD ids id=none:=by
    cases hp:iD ids id with
    | none=>rfl
    | some k=>exact absurd ⟨by omega,by omega⟩ (hlt id (zU (jS hp)))
   unfold BS;rw[hnone];simp only;rw[if_pos ⟨by omega,by omega⟩,show id-nb+ids.length=j by omega];exact e2
 have hple:PLe φ (BS ids nb φ φ'):=by
  intro id b n e;unfold BS
  cases hp:iD ids id with
  | some j =>
   simp only;refine ha.ple j b n ?_;simp[eX,jS hp,e]
  | none =>
   simp only;rw[if_neg fun hh=>by have:=hf id hh.1 hh.2;rw[this]at e;cases e];exact⟨n,e,rfl,fun _ h=>h⟩
 have hout:∀ b,eD φ b→eD (eX ids φ) b:=by
  intro b hn j r n e;unfold eX at e
  cases hi:ids[j]? with
  | none=>rw[hi]at e;cases e
  | some i=>rw[hi]at e;exact hn _ _ _ e
 have hadv:Adv w m φ w' m' (BS ids nb φ φ'):=by
  refine⟨ha.size,ha.os,ha.tape,ha.output,fun b hb' hn=>ha.block b hb' (hout b hn),ha.mle,fun b hb' hn=>ha.mnew b hb' (hout b hn),hple,?_⟩;intro id b n f e2 ho;unfold BS at e2
  have fin:∀ j,φ' j=some (b,n)→w.heap.size≤f∨¬ eD φ f:=by
   intro j q1
   rcases ha.pnew j b n f q1 ho with q|q
   ·exact .inl q
   ·exact .inr fun hh=>q (hout f hh)
  cases hp:iD ids id with
  | some j =>
   rw[hp]at e2;exact fin j e2
  | none =>
   rw[hp]at e2;simp only at e2;split at e2
   ·exact fin _ e2
   ·exact .inr (eD.not e2 ho)
 have hcase:∀ id blk,kF (pF ids nb) st nb ids stl' id=some blk →
  (∃ j c,aR stl' j=some c∧DN (pF ids nb) (some c)=some blk∧BS ids nb φ φ' id=φ' j∧pF ids nb j=some id)∨(iD ids id=none∧st id=some blk∧BS ids nb φ φ' id=φ id):=by
  intro id blk e;rw[UQ _ _ _ _ _ _ hd]at e
  cases hp:iD ids id with
  | some j =>
   rw[hp]at e;have hjl:j<ids.length:=(zZ.1 (jS hp)).1;simp only[show j<stl'.length by omega,if_true]at e;obtain⟨c,hc⟩:=qA e;refine .inl ⟨j,c,hc,by rw[← hc];exact e,by simp[BS,hp],?_⟩;rw[sK,if_pos hjl];exact jS hp
  | none =>
   rw[hp]at e;simp only at e;split at e
   ·rename_i hh;obtain⟨c,hc⟩:=qA e;refine .inl ⟨_,c,hc,by rw[← hc];exact e,?_,?_⟩
    ·simp only[BS,hp];rw[if_pos ⟨hh.1,by omega⟩]
    ·rw[sK,if_neg (by omega)];congr 1;omega
   ·refine .inr ⟨rfl,e,?_⟩;simp only[BS,hp];split
    ·rename_i hh;obtain⟨b,n,q,_⟩:=hi.live _ _ e;rw[hf id hh.1 hh.2]at q;cases q
    ·rfl
 have hapart:∀ id blk,iD ids id=none→st id=some blk→∀ b n f,φ id=some (b,n)→n.own f→eD (eX ids φ) f:=by
  intro id blk h1 h2 b n f h3 ho j r n' e ho';unfold eX at e
  cases hi':ids[j]? with
  | none=>rw[hi']at e;cases e
  | some i =>
   rw[hi']at e;obtain⟨c,hc⟩:=hlive i (zU hi');have:=hi.inj id i b r n n' blk c f h2 hc h3 e ho ho';subst this;exact AD5 h1 (zU hi')
 refine⟨m',BS ids nb φ φ',hr.ren hren,⟨hi'.mem,?_,?_,?_,hi'.kn⟩,hadv,?_⟩
 ·intro id blk e
  rcases hcase id blk e with ⟨j,c,h1,h2,h3,_⟩|⟨h1,h2,h3⟩
  ·obtain⟨b,n,q1,q2,q3⟩:=hi'.live j c h1;exact⟨b,n,by rw[h3];exact q1,q2,BlkOk.ren hren (fun c' e'=>by injection e' with e';subst e';exact q3) h2⟩
  ·obtain⟨b,n,q1,q2,q3⟩:=hi.live id blk h2;have hap:=fun f hf=>hapart id blk h1 h2 b n f q1 hf
   exact⟨b,n,by rw[h3];exact q1,⟨q2.1,fun f hf=>zI (q2.2 f hf) ha.size⟩,q3.mono q2.1 (fun f hf=>ha.block f (q2.2 f hf) (hap f hf)) ha.mle hple (fun f hf=>ha.mnew f (q2.2 f hf) (hap f hf))⟩
 ·intro id id' b b' n n' blk blk' f e1 e2 p1 p2 o1 o2
  rcases hcase id blk e1 with ⟨j,c,h1,h2,h3,h4⟩|⟨h1,h2,h3⟩
  ·rcases hcase id' blk' e2 with ⟨j',c',h1',h2',h3',h4'⟩|⟨h1',h2',h3'⟩
   ·rw[h3]at p1;rw[h3']at p2;have:=hi'.inj j j' b b' n n' c c' f h1 h1' p1 p2 o1 o2;subst this;rw[h4]at h4';injection h4'
   ·exfalso;rw[h3]at p1;rw[h3']at p2;exact ha.range ((cK hi p2 h2').1.2 f o2) (hapart id' blk' h1' h2' b' n' f p2 o2) j b n p1 o1
  ·rcases hcase id' blk' e2 with ⟨j',c',h1',h2',h3',h4'⟩|⟨h1',h2',h3'⟩
   ·exfalso;rw[h3]at p1;rw[h3']at p2;exact ha.range ((cK hi p1 h2).1.2 f o1) (hapart id blk h1 h2 b n f p1 o1) j' b' n' p2 o2
   ·rw[h3]at p1;rw[h3']at p2;exact hi.inj id id' b b' n n' blk blk' f h2 h2' p1 p2 o1 o2
 ·intro id b n f p1 o1;unfold BS at p1
  cases hp:iD ids id with
  | some j=>rw[hp]at p1;exact hi'.low j b n f p1 o1
  | none =>
   rw[hp]at p1;simp only at p1;split at p1
   ·exact hi'.low _ b n f p1 o1
   ·exact zI (hi.low id b n f p1 o1) ha.size
 ·intro id hne;unfold BS at hne
  cases hp:iD ids id with
  | some j =>
   obtain⟨c,hc⟩:=hlive id (zU (jS hp));obtain⟨b,n,q,_⟩:=hi.live _ _ hc;exact .inl (by rw[q];simp)
  | none =>
   rw[hp]at hne;simp only at hne;split at hne
   ·rename_i hh;exact .inr hh
   ·exact .inl hne
theorem Out.adv {w w1 w':World} {m m1:Mem} {φ:Pl} {nb:Nat} {v:AV} {st':Store} {y:Value} (ha:Adv w m φ w1 m1 φ) (h:Out w1 m1 φ nb v st' y w'):Out w m φ nb v st' y w':=by
 obtain⟨m',φ',h1,h2,h3,h4⟩:=h;exact⟨m',φ',h1,h2,ha.trans h3,h4⟩
theorem IK {call:dI} {w:World} {m:Mem} {φ:Pl} {st st':Store} {nb:Nat} {own:Bool} {g:FuncId} {args:List AV} {vs:List Value} {v:AV} (hi:Inv w m φ st)
 (hf:∀ id,nb≤id→id<nb+wide→φ id=none) (hargs:RepL m φ args vs) (h:gT call own g args st nb=some (v,st')) :
 ∃ m1 φ1 AEP stl r stl',call g AEP stl=some (r,stl')∧Inv w m1 φ1 (aR stl)∧RepL m1 φ1 AEP vs∧(∀ id,φ1 id≠none→id<stl.length) ∧
   ∀ e w',bS w m1 φ1 r stl' e w'→∃ y,e=.returned y∧Out w m φ nb v st' y w':=by
 unfold gT at h;obtain⟨p,h1,h2⟩:=aI.1 h
 have hfr:∃ m1,RepL m1 φ p.1 vs∧Inv w m1 φ p.2∧Adv w m φ w m1 φ:=by
  cases own with
  | true =>
   simp only[uY,Option.some.injEq]at h1;subst h1;exact⟨m,hargs,hi, .refl _ _ _⟩
  | false=>exact EK hi hargs (show gL st args=some (p.1,p.2)from h1)
 obtain⟨m1,k1,k2,k3⟩:=hfr;generalize hids:reach p.2 LZ (bC p.1) []=ids at h2;have hd:ids.Nodup:=by rw[← hids];exact rO _ _ _ _ (by simp)
 unfold lS at h2;obtain⟨h3,h4⟩:=aQ.1 h2;have hlive:=I7 h3;obtain⟨q,h5,h6⟩:=aI.1 h4;refine⟨m1,eX ids φ,_,_,q.1,q.2,h5,k2.keep hd,k1.ren (nZ ids φ),?_,?_⟩
 ·intro id hne;rw[iT];unfold eX at hne
  cases hx:ids[id]? with
  | none=>rw[hx]at hne;exact absurd rfl hne
  | some i=>exact(zZ.1 hx).1
 ·rintro e w' ⟨y,m',φ',rfl,j1,j2,j3,j4⟩;exact⟨y,rfl,(NP k2 hf hd hlive j1 j2 j3 j4 h6).adv k3⟩
theorem IJ {call:dI} (hcall:CallOk C call) {w:World} {m:Mem} {φ:Pl} {st st':Store} {nb:Nat} {own:Bool} {g:FuncId} {args:List AV} {vs:List Value} {v:AV} (hg:g≠oG) (hi:Inv w m φ st)
 (hf:∀ id,nb≤id→id<nb+wide→φ id=none) (hargs:RepL m φ args vs) (h:gT call own g args st nb=some (v,st')) :
 (∃ fn,C.P.funcs[g]?=some fn∧fn.name≠ "runtime.NumGoroutine"∧fn.body.isSome=true)∧Calls C.P g vs.toArray w (fun e w'=>∃ y,e=.returned y∧Out w m φ nb v st' y w'):=by
 obtain⟨m1,φ1,AEP,stl,r,stl',h1,h2,h3,h4,h5⟩:=IK hi hf hargs h;exact⟨hcall.name _ _ _ _ hg h1,(hcall.calls g _ _ r stl' hg h1 w m1 φ1 vs h2 h3 h4).mono h5⟩
theorem YieldAt.mono' {F:Fence} {n l:Nat} {P:Program} {args:Array Value} {W:World} {R R':Ending→World→Prop} (h:YieldAt F n P l args W R) (k:∀ e w,R e w→R' e w):YieldAt F n P l args W R':=by
 obtain⟨fn,tmps,asg,body,h1,h2⟩:=h;exact⟨fn,tmps,asg,body,h1,h2.mono k⟩
theorem WH {call:dI} (hcall:CallOk C call) {w:World} {m:Mem} {φ:Pl} {st st':Store} {nb:Nat} {own:Bool} {args:List AV} {vs:List Value} {v:AV} (hi:Inv w m φ st)
 (hf:∀ id,nb≤id→id<nb+wide→φ id=none) (hargs:RepL m φ args vs) (h:gT call own oG args st nb=some (v,st')) :
 ∃ l us,vs=.func (.yield l) #[] #[]::us∧YieldAt Fence.wide 0 C.P l us.toArray w (fun e w'=>∃ y,e=.returned y∧Out w m φ nb v st' y w'):=by
 obtain⟨m1,φ1,AEP,stl,r,stl',h1,h2,h3,h4,h5⟩:=IK hi hf hargs h;obtain⟨l,us,e,k⟩:=hcall.rounds _ _ r stl' h1 w m1 φ1 vs h2 h3 h4;exact⟨l,us,e,YieldAt.mono' k h5⟩
end
def FR (ρ:Option Nat):Fence:={ Fence.wide with round:=ρ }
theorem RZ {ρ:Option Nat} {n:Nat} {P:Program} {f:FuncId} {args:Array Value} {w:World} {R:Ending→World→Prop} (h:Calls P f args w R):CallsIn (FR ρ) n P f args w R:=callsIn_wide.2 h
theorem AR9 {ρ:Option Nat} {n k l:Nat} {P:Program} {f:FuncId} {tmps:Array Value} {a b:Code} {w:World} {R:Ending→World→Prop} (h:RoundIn Fence.wide n P l f tmps a b w R):RoundIn (FR ρ) k P l f tmps a b w R :=
 ⟨trivial,fun c cs _=>h.2 c cs (room_wide _)⟩
structure Marks (n0:Nat) (φ:Pl) (w:World) (ds:List Deferred):Prop where
 form:∃ Ds:List Nat,ds=Ds.map (fun D=>({ target:=.collected D,args:=#[] }:Deferred))∧Ds.Nodup∧∀ D∈Ds,n0≤D∧w.heap[D]?=some (.deferred (some []))∧eD φ D
theorem Marks.nil (n0:Nat) (φ:Pl) (w:World):Marks n0 φ w []:=⟨⟨[],rfl,List.nodup_nil,by simp⟩⟩
theorem Marks.adv {n0:Nat} {w w':World} {m m':Mem} {φ φ':Pl} {ds:List Deferred} (h:Marks n0 φ w ds) (k:Adv w m φ w' m' φ'):Marks n0 φ' w' ds:=by
 obtain⟨Ds,h1,h2,h3⟩:=h.form;refine⟨⟨Ds,h1,h2,fun D hD=>?_⟩⟩;obtain⟨a,b,c⟩:=h3 D hD;have hlt:D<w.heap.size:=(zN.1 b).1;exact⟨a,(k.block D hlt c).trans b,k.range hlt c⟩
theorem Marks.same {n0:Nat} {φ:Pl} {w w':World} {ds:List Deferred} (h:Marks n0 φ w ds) (e:w'.heap=w.heap):Marks n0 φ w' ds:=by
 obtain⟨Ds,h1,h2,h3⟩:=h.form;exact⟨⟨Ds,h1,h2,fun D hD=>by rw[e];exact h3 D hD⟩⟩
section
variable {C:Ctx}
structure ARel (ds:List Deferred) (w0:World) (m0:Mem) (φ0:Pl) (nt:Nat) (ok:Nat→Prop) (env:Nat→AV) (st:Store) (a:Act) (w:World):Prop where
 out:∃ m φ,Inv w m φ st∧(∀ t,Rep m φ (env t) (a.tmps.getD t undef))∧Adv w0 m0 φ0 w m φ∧(∀ id,φ id≠none→ok id)∧Marks w0.heap.size φ w ds
 size:nt≤a.tmps.size
 defers:a.defers=ds
theorem M6 {m:Mem} {φ:Pl} {env:Nat→AV} {a:Act} (h:∀ t,Rep m φ (env t) (a.tmps.getD t undef)):Fits m φ env a.eval:=by
 intro x hx
 cases x with
 | tmp t=>exact h t
 | const v=>exact AI1 m φ hx
 | global g=>exact .junk _
 | func f=>exact .fn .nil
theorem vQ {m:Mem} {φ:Pl} {env:Nat→AV} {a:Act} {nt:Nat} {dst:Option Tmp} {v:AV} {x:Value} (h:∀ t,Rep m φ (env t) (a.tmps.getD t undef)) (hs:nt≤a.tmps.size) (hd:YZ nt dst=true) (hv:Rep m φ v x) :
 ∀ t,Rep m φ (BV env dst v t) ((a.put dst x).tmps.getD t undef):=by
 intro t
 cases dst with
 | none=>exact h t
 | some d =>
  have hlt:d<a.tmps.size:=zI (zR hd) hs;simp only[BV,upd,Act.put];by_cases e:t=d
  ·subst e;simpa [Array.getD,hlt]using hv
  ·simp only[e,if_false];have:=h t
   have he:(a.tmps.setIfInBounds d x).getD t undef=a.tmps.getD t undef:=by
    simp only[xR];rw[zC4 (Ne.symm e)]
   rwa [he]
theorem nD (a:Act) (dst:Option Tmp) (x:Value):(a.put dst x).tmps.size=a.tmps.size:=by cases dst<;>simp[Act.put]
theorem iI (a:Act) (dst:Option Tmp) (x:Value):(a.put dst x).defers=a.defers:=by cases dst<;>rfl
theorem AC6 {m:Mem} {φ:Pl} {env:Nat→AV} {a:Act} {ops:Array Oper} {o:Oper} {b:Bool} (h:∀ t,Rep m φ (env t) (a.tmps.getD t undef)) (e:CK ops.toList env o.guard=some b) :
 Region.wanted o (yielded ops a.tmps)=b:=by
 unfold Region.wanted
 cases hg:o.guard with
 | none=>rw[hg]at e;simpa [CK]using e
 | some p =>
  rw[hg]at e;obtain⟨j,want⟩:=p;simp only[CK]at e;simp only[yielded];have hl:ops.toList[j]?=ops[j]?:=by simp
  rw[hl]at e
  cases hd:(ops[j]?).bind (·.dst)with
  | none=>rw[hd]at e;simp[TR]at e;simp[← e]
  | some d =>
   rw[hd]at e;simp only[TR,ZQ]at e;have hr:=h d;simp only[yH];split at e
   ·rename_i c hc;injection e with e;subst e;rw[hc]at hr;have:=hr.lit_eq
    have hlt:a.tmps[d]?=some (.bool c):=by
     rw[xR]at this
     cases hx:a.tmps[d]? with
     | none=>rw[hx]at this;simp[undef]at this
     | some y=>rw[hx]at this;simpa using this
    rw[hlt]
    cases c<;>cases want<;>rfl
   ·rename_i c hc;injection e with e;subst e;rw[hc]at hr;have:=hr.lit_eq
    cases hx:a.tmps[d]? with
    | none=>rfl
    | some y =>
     rw[xR,hx]at this;simp only[yP]at this;subst this;rfl
   ·cases e
def aOp (C:Ctx) (call:dI) (all:List Oper) (base i:Nat) (o:Oper) (S:(Nat→AV)×Store):Option ((Nat→AV)×Store) :=
 bnd (CK all S.1 o.guard) fun b =>
  if b=true then bnd (dB C call o.op S.1 S.2 (base+wide*i)) fun p=>some (BV S.1 o.dst p.1,p.2)
  else some (BV S.1 o.dst (.i (.lit undef)),S.2)
def J9 (base:Nat) (dn:Nat→Prop) (id:Nat):Prop:=id<base∨∃ i,dn i∧base+wide*i≤id∧id<base+wide*i+wide
theorem qC {base:Nat} {dn dn':Nat→Prop} (h:∀ i,dn i→dn' i) {id:Nat} (k:J9 base dn id):J9 base dn' id:=by
 rcases k with k|⟨i,k1,k2⟩
 ·exact .inl k
 ·exact .inr ⟨i,h i k1,k2⟩
theorem AD7 {base i id:Nat} {dn:Nat→Prop} (hdn:¬ dn i) (h1:base+wide*i≤id) (h2:id<base+wide*i+wide):¬ J9 base dn id:=by
 rintro(k|⟨j,k1,k2,k3⟩)
 ·omega
 ·have:i=j:=by
   unfold wide at *
   omega
  subst this;exact hdn k1
theorem LY {op:Op} {p:Operand×List Operand} (h:wY op=some p):∃ args ts,op=.call ⟨.value p.1,args,ts⟩∧args.toList=p.2:=by
 unfold wY at h;split at h
 ·injection h with h;subst h;exact⟨_,_,rfl,rfl⟩
 ·cases h
theorem pU (hC:CtxOk C) {call:dI} (hcall:CallOk C call) {ops:Array Oper} {Q:Exit→Act→World→Prop} {K:Act→World→Prop} {i base nt:Nat} {o:Oper} {S S':(Nat→AV)×Store}
 {w0:World} {m0:Mem} {φ0:Pl} {dn:Nat→Prop} {ds:List Deferred} {ρ:Option Nat} {k:Nat} {a:Act} {w:World} (ho:ops[i]?=some o) (hs:gN nt o=true) (hdn:¬ dn i) (h:aOp C call ops.toList base i o S=some S')
 (hr:ARel ds w0 m0 φ0 nt (J9 base dn) S.1 S.2 a w) (hK:∀ a' w',ARel ds w0 m0 φ0 nt (J9 base fun j=>dn j∨j=i) S'.1 S'.2 a' w'→K a' w'):wpOpIn (FR ρ) k C.P ops Q i K a w:=by
 simp only[gN,zT]at hs;obtain⟨⟨m,φ,hi,henv,hadv,hok,hmk⟩,hsz,hdf⟩:=hr;unfold aOp at h;obtain⟨b,h1,h2⟩:=aI.1 h;have hw:=AC6 henv h1
 have hfr:∀ id,base+wide*i≤id→id<base+wide*i+wide→φ id=none:=fun id k1 k2=>by
  cases e:φ id with
  | none=>rfl
  | some p=>exact absurd (hok id (by rw[e];simp)) (AD7 hdn k1 k2)
 have fin:∀ v st' y w',S'=(BV S.1 o.dst v,st')→Out w m φ (base+wide*i) v st' y w'→K (a.put o.dst y) w':=by
  rintro v st' y w' rfl ⟨m',φ',k1,k2,k3,k4⟩;refine hK _ _ ⟨⟨m',φ',k2,?_,hadv.trans k3,?_,hmk.adv k3⟩,by rw[nD];exact hsz,by rw[iI];exact hdf⟩
  ·exact vQ (fun t=>(henv t).mono k3.mle k3.ple) hsz hs.2 k1
  ·intro id hne
   rcases k4 id hne with q|q
   ·exact qC (fun _=>.inl) (hok id q)
   ·exact .inr ⟨i, .inr rfl,q⟩
 unfold wpOpIn;rw[ho];simp only;rw[hw]
 cases b with
 | false =>
  simp only[yK,if_false]at h2 ⊢;injection h2 with h2;exact⟨fun _ _=>trivial,fin _ _ undef w h2.symm (Out.same hi (.i (.lit _)))⟩
 | true =>
  simp only[if_true]at h2 ⊢;obtain⟨p,h3,h4⟩:=aI.1 h2;injection h4 with h4;refine⟨fun _ _=>trivial,?_⟩
  have hnd:∀ c,o.op≠.defer c:=fun c e=>by
   unfold dB at h3;rw[e]at h3;simp[wY,stepW,eY]at h3
  rw[Oper.semAt_eq _ _ _ hnd];unfold dB at h3
  cases hg:wY o.op with
  | none =>
   rw[hg]at h3;obtain⟨nx,y,w',k1,k2,k3⟩:=XN hC hi hfr (M6 henv) hs.1 (show eY C S.1 S.2 _ o.op=some (p.1,p.2)from h3);rw[k1]
   rcases k2 with rfl|⟨rfl,rfl⟩
   ·exact fin _ _ y w' h4.symm k3
   ·exact fin _ _ undef w' h4.symm k3
  | some q =>
   rw[hg]at h3;obtain⟨args,ts,hop,hargs⟩:=LY hg;simp only[stepW]at h3;have hall:∀ x∈opsOf o.op,KT x=true:=fun x hx=>zQ.1 hs.1 x hx
   rw[hop]at hall;have hfv:=M6 henv q.1 (hall _ (show q.1∈q.1::args.toList by simp));have hav:=RA (M6 henv) (l:=q.2) fun x hx=>hall x (show x∈q.1::args.toList by rw[hargs];simp[hx])
   unfold NC at h3;split at h3
   ·rename_i g caps hfe;rw[hfe]at hfv;generalize hev:a.eval q.1=fv at hfv
    cases hfv with
    | @fn _ _ cvs hcaps =>
     have hall2:RepL m φ (evL S.1 q.2++caps) (q.2.map a.eval++cvs):=by
      have key:∀ {cs:List AV} {vs:List Value},RepL m φ cs vs→RepL m φ (cs++caps) (vs++cvs):=by
       intro cs
       induction cs with
       | nil=>intro vs h;cases h;exact hcaps
       | cons c cs ih=>intro vs h;cases h with|cons a b=>exact .cons a (ih b)
      exact key hav
     split at h3
     ·cases h3
     rename_i hgy;obtain⟨⟨fn,g1,g2,g3⟩,g4⟩:=IJ hcall hgy hi hfr hall2 (show gT call _ g _ S.2 _=some (p.1,p.2)from h3);have hbody:fn.body≠none:=by intro hb;rw[hb]at g3;cases g3
     have hmap:args.map a.eval++cvs.toArray=(q.2.map a.eval++cvs).toArray:=by
      apply Array.ext';simp[← hargs]
     have hrun:(execOp a.eval o).run C.P w=.ok (.enter g ((q.2.map a.eval++cvs).toArray)) w:=by
      unfold execOp;rw[hop];simp[resolve,Deferred.ofValue,hev,invoke,callFunc,g1,g2,hbody,← hmap]
     rw[hrun];rw[Oper.uponIn_enter];refine⟨fun h=>(by cases h),RZ (g4.mono ?_)⟩;rintro e w' ⟨y,rfl,k⟩;exact fin _ _ y w' h4.symm k
   ·rename_i id hfe;rw[hfe]at hfv;generalize hev:a.eval q.1=fv at hfv;obtain⟨l,us,e,fn,tmps,asg,body,k1,k2⟩:=WH hcall hi hfr (.cons hfv hav) (show gT call true oG _ S.2 _=some (p.1,p.2)from h3);injection e with e1 e2;subst e2;rw[e1]at hev
    have hrun:(execOp a.eval o).run C.P w=.ok (.round l fn tmps asg body) w:=by
     have hm:args.map a.eval=(q.2.map a.eval).toArray:=by apply Array.ext';simp[← hargs]
     unfold execOp;rw[hop];simp[resolve,Deferred.ofValue,hev,invoke,hm,k1]
    rw[hrun,Oper.uponIn_round];refine⟨fun h=>(by cases h),AR9 (k2.mono ?_)⟩;rintro e w' ⟨y,rfl,k⟩;exact fin _ _ y w' h4.symm k
   ·cases h3
end
section
variable {C:Ctx}
theorem eD.keep {φ:Pl} {D:Nat} (h:eD φ D) (ids:List Nat):eD (eX ids φ) D:=by
 intro id b n e;unfold eX at e
 cases hi:ids[id]? with
 | none=>rw[hi]at e;simp at e
 | some i=>rw[hi]at e;exact h i b n e
theorem Marks.keep {n0:Nat} {φ:Pl} {w:World} {ds:List Deferred} (h:Marks n0 φ w ds) (ids:List Nat):Marks n0 (eX ids φ) w ds:=by
 obtain⟨Ds,h1,h2,h3⟩:=h.form;exact⟨⟨Ds,h1,h2,fun D hD=>⟨(h3 D hD).1,(h3 D hD).2.1,(h3 D hD).2.2.keep ids⟩⟩⟩
theorem OB {ds:List Deferred} {w0:World} {m0:Mem} {φ0:Pl} {nt na:Nat} {ok:Nat→Prop} {env:Nat→AV} {st:Store} {a:Act} {w:World} {G:List Nat} (h0:∀ id,φ0 id≠none→id<na)
 (h:ARel ds w0 m0 φ0 nt ok env st a w):ARel ds w0 m0 φ0 nt (fun id=>id<(settle G na env st).st.length) (aJ (settle G na env st).env) (aR (settle G na env st).st) a w:=by
 obtain⟨⟨m,φ,hi,henv,hadv,hok,hmk⟩,hsz,hdf⟩:=h;unfold settle AL;generalize hids:jL st na (EE env G)=ids;have hd:ids.Nodup:=by rw[← hids];exact iX _ _ _
 refine⟨⟨m,eX ids φ,hi.keep hd,?_,hadv.keep h0 (fun j hj=>by rw[← hids];exact FQ _ _ _ hj),?_,hmk.keep ids⟩,hsz,hdf⟩
 ·intro t
  have key:∀ G:List Nat,Rep m (eX ids φ) (aJ (mR (iD ids) env G) t) (a.tmps.getD t undef):=by
   intro G
   induction G with
   | nil=>exact .junk _
   | cons u G ih =>
    simp only[mR,aJ];by_cases e:t=u
    ·subst e;simp only[if_true];exact(henv t).ren (nZ ids φ)
    ·simp only[e,if_false];exact ih
  exact key G
 ·intro id hne;simp only[iT];unfold eX at hne
  cases hx:ids[id]? with
  | none=>rw[hx]at hne;exact absurd rfl hne
  | some i=>exact(zZ.1 hx).1
theorem OC {G:List Nat} {na:Nat} {env:Nat→AV} {st:Store}:na≤(settle G na env st).st.length:=by
 unfold settle AL;simp only[iT];exact YD _ _ _
theorem KC (hC:CtxOk C) {call:dI} (hcall:CallOk C call) {ops:Array Oper} {Q:Exit→Act→World→Prop} {base nt:Nat} {ds:List Deferred} {ρ:Option Nat} {w0:World} {m0:Mem} {φ0:Pl} (hs:∀ o∈ops,gN nt o=true) :
 ∀ (os:List Oper) (i:Nat) (R R':RS) (a:Act) (w:World),(∀ j,os[j]?=ops[i+j]?)→dC C call ops.toList false base os i R=some R' →
   ARel ds w0 m0 φ0 nt (J9 base (fun j=>j<i)) R.env R.st a w→(∀ a' w',ARel ds w0 m0 φ0 nt (fun _=>True) R'.env R'.st a' w'→Q .normal a' w')→wpOpsIn (FR ρ) 0 C.P ops Q (List.range' i os.length) a w
 | [],i,R,R',a,w,_,h,hr,hQ=>by
  simp only[dC,Option.some.injEq]at h;subst h;simp only[yT,List.range'_zero,wpOpsIn];obtain⟨⟨m,φ,h1,h2,h3,h4,h7⟩,h5,h6⟩:=hr;exact hQ a w ⟨⟨m,φ,h1,h2,h3,fun _ _=>trivial,h7⟩,h5,h6⟩
 | o::os,i,R,R',a,w,hl,h,hr,hQ=>by
  have ho:ops[i]?=some o:=by simpa using (hl 0).symm
  simp only[zP,List.range'_succ];rw[wpOpsIn_cons];simp only[dC]at h;obtain⟨b,h1,h2⟩:=aI.1 h;have hstat:=hs o (Array.mem_of_getElem? ho)
  have hrest:∀ j,os[j]?=ops[i+1+j]?:=fun j=>by
   have:=hl (j+1);simpa [yC,zE7 1 j]using this
  have mono:∀ env st a' w',ARel ds w0 m0 φ0 nt (J9 base fun j=>j<i∨j=i) env st a' w'→ARel ds w0 m0 φ0 nt (J9 base fun j=>j<i+1) env st a' w':=by
   rintro env st a' w' ⟨⟨m,φ,k1,k2,k3,k4,k7⟩,k5,k6⟩;exact⟨⟨m,φ,k1,k2,k3,fun id hne=>qC (fun j hj=>by omega) (k4 id hne),k7⟩,k5,k6⟩
  cases b with
  | true =>
   simp only[if_true]at h2;obtain⟨_,h3⟩:=aQ.1 h2;obtain⟨p,h4,h5⟩:=aI.1 h3;refine pU hC hcall (dn:=fun j=>j<i) (base:=base) (S:=(R.env,R.st)) (S':=(BV R.env o.dst p.1,p.2)) ho hstat (xL i) ?_ hr fun a' w' hr'=>?_
   ·unfold aOp;exact aI.2 ⟨true,h1,by simp only[if_true];exact aI.2 ⟨p,h4,rfl⟩⟩
   ·exact KC hC hcall hs os (i+1) _ R' a' w' hrest h5 (mono _ _ _ _ hr') hQ
  | false =>
   simp only[yK,if_false]at h2;refine pU hC hcall (dn:=fun j=>j<i) (base:=base) (S:=(R.env,R.st)) (S':=(BV R.env o.dst (.i (.lit undef)),R.st)) ho hstat (xL i) ?_ hr fun a' w' hr'=>?_
   ·unfold aOp;exact aI.2 ⟨false,h1,by simp⟩
   ·exact KC hC hcall hs os (i+1) _ R' a' w' hrest h2 (mono _ _ _ _ hr') hQ
def X5 (C:Ctx) (call:dI):Prop:=∀ (ops:Array Oper) (id base nt:Nat) (R':RS) (env:Nat→AV) (st:Store) (ds:List Deferred) (ρ:Option Nat) (w0:World) (m0:Mem) (φ0:Pl) (a:Act) (w:World) (Q:Exit→Act→World→Prop),
 (∀ o∈ops,gN nt o=true)→Region.lexB .any ops=true→dC C call ops.toList true base ops.toList 0 { env:=env,st:=st,log:=[] }=some R' →
 ARel ds w0 m0 φ0 nt (fun id=>id<base) env st a w→(∀ a' w',ARel ds w0 m0 φ0 nt (fun _=>True) R'.env R'.st a' w'→Q .normal a' w')→(Code.region id ops true).wpIn (FR ρ) 0 C.P Q a w
theorem JO {P:Program} {ρ:Option Nat} {Q:Exit→Act→World→Prop} {c:Code} (I:Nat→Act→World→Prop)
 (round:∀ n a w,I n a w→c.wpIn (FR ρ) 0 P (Exit.then (fun a' w'=>∃ k,k<n∧I k a' w') Q) a w) {n:Nat} {a:Act} {w:World} (h0:I n a w):(Code.loop c).wpIn (FR ρ) 0 P Q a w:=by
 intro b k cs hro hb hr
 have key:∀ n a w,I n a w→∃ e a' w',Q e a' w'∧ArrivesIn (Machine.fenced P (FR ρ)) P (lone (b.atR a (.code c :: .inLoop c::k)) cs w) b k cs e a' w':=by
  intro n
  induction n using Nat.strongRecOn with
  | _ n ih =>
   intro a w hI;obtain⟨e,a1,w1,hq,harr⟩:=round n a w hI b (.inLoop c::k) cs hro hb hr
   have other:e≠.normal→Exit.then (fun a' w'=>∃ k,k<n∧I k a' w') Q e a1 w1→∃ e a' w',Q e a' w'∧ArrivesIn (Machine.fenced P (FR ρ)) P (lone (b.atR a (.code c :: .inLoop c::k)) cs w) b k cs e a' w':=by
    intro hne hq;refine⟨e,a1,w1,?_, .pass (x:=.inLoop c) rfl (fun _ _=>.inl hne) harr⟩
    cases e<;>first|exact hq|exact absurd rfl hne
   by_cases hne:e=.normal
   ·subst hne;obtain⟨j,hlt,hI1⟩:=hq;obtain⟨e2,a2,w2,hq2,harr2⟩:=ih j hlt a1 w1 hI1;exact⟨e2,a2,w2,hq2, .of_steps (StepsIn.trans harr (.one (fenced_calm hb hr rfl) stepR_inLoop)) harr2⟩
   ·exact other hne hq
 obtain⟨e,a',w',hq,harr⟩:=key n a w h0;exact⟨e,a',w',hq, .of_steps (.one (fenced_calm hb hr rfl) stepR_loop) harr⟩
theorem tX {P:Program} {Q:Exit→Act→World→Prop} {c:Code} (I:Nat→Act→World→Prop)
 (round:∀ n a w,I n a w→c.wp P (Exit.then (fun a' w'=>∃ k,k<n∧I k a' w') Q) a w) {n:Nat} {a:Act} {w:World} (h0:I n a w):(Code.loop c).wp P Q a w :=
 wpIn_wide.1 (JO (ρ:=none) I (fun n a w h=>wpIn_wide.2 (round n a w h)) h0)
def gQ:AExit→Exit
 | .normal=>.normal
 | .exit i=>.exit i
 | .ret=>.ret
def MZ (ds:List Deferred) (w0:World) (m0:Mem) (φ0:Pl) (nt na:Nat) (S:AS) (a:Act) (w:World):Prop :=
 ARel ds w0 m0 φ0 nt (fun id=>id<S.st.length) (aJ S.env) (aR S.st) a w∧na≤S.st.length
def AK0 (ds:List Deferred) (w0:World) (m0:Mem) (φ0:Pl) (nt na:Nat) (c:Code) (e:AExit) (S':AS) (e':Exit) (a:Act) (w:World):Prop :=
 e'=gQ e∧∃ ds',MZ ds' w0 m0 φ0 nt na S' a w∧(bK c=true→ds'=ds)
theorem AK0.mk {ds:List Deferred} {w0:World} {m0:Mem} {φ0:Pl} {nt na:Nat} {c:Code} {e:AExit} {S':AS} {a:Act} {w:World} (h:MZ ds w0 m0 φ0 nt na S' a w):AK0 ds w0 m0 φ0 nt na c e S' (gQ e) a w :=
 ⟨rfl,ds,h,fun _=>rfl⟩
theorem AIS {m:Mem} {φ:Pl} {env:Nat→AV} {a:Act} (h:∀ t,Rep m φ (env t) (a.tmps.getD t undef)) (t:Nat):∀ rs:List Nat,Rep m φ (aJ (X9 rs (EE env rs)) t) (a.tmps.getD t undef)
 | []=>by simp only[EE,X9,aJ];exact .junk _
 | r::rs=>by
  simp only[EE,X9,aJ];by_cases e:t=r
  ·subst e;simp only[if_true];exact h t
  ·simp only[e,if_false];exact AIS h t rs
theorem XZ (hC:CtxOk C) {call:dI} (hcall:CallOk C call) {G rs:List Nat} {na nt:Nat} {w0:World} {m0:Mem} {φ0:Pl} (h0:∀ id,φ0 id≠none→id<na) {ds:List Deferred} {g:Operand} {ps:Array Tmp} {x y:Code} {S S':AS}
 {e:AExit} {it:FuncId} {caps:List AV} {p:AV×Store} {a:Act} {w:World} (hg:KT g=true) (hps:∀ t∈ps.toList,t<nt) (hx:codeOk nt x=true) (hy:codeOk nt y=true) (hnx:bK x=true) (hny:bK y=true)
 (hev:ev (aJ S.env) g=.fn (.func it) caps) (hit:it≠oG)
 (hcg:gT call true it (.fn (.yield 0) [.own S.st.length 0]::caps) (upd (aR S.st) S.st.length (some (.loop ⟨G,rs,ps.toList,x,y⟩ (EE (aJ S.env) rs) .ready))) (S.st.length+1)=some p)
 (hout:DR G na (aJ S.env) S.st.length p.2 (p.2 S.st.length)=some (e,S')) (hr:MZ ds w0 m0 φ0 nt na S a w) :
 (Code.rangeFunc g ps x y).wpIn (FR none) 0 C.P (fun e' a' w'=>e'=gQ e∧∃ ds',MZ ds' w0 m0 φ0 nt na S' a' w') a w:=by
 obtain⟨⟨⟨m,φ,hi,henv,hadv,hok,hmk⟩,hsz,hdf⟩,hlen⟩:=hr;have hgv:=M6 henv g hg;rw[hev]at hgv;generalize hae:a.eval g=gv at hgv
 cases hgv with
 | @fn _ _ cvs hcaps =>
 have hL:φ S.st.length=none:=by
  cases h:φ S.st.length with
  | none=>rfl
  | some q=>exact absurd (hok _ (by rw[h];simp)) (xL _)
 obtain⟨hi1,ha1⟩:=hi.more (.deferred (some []));refine wpIn_rangeFunc fun fn _=>?_
 let rec0:Loop:={ state:=.ready,pending:=none,fn:=fn,tmps:=a.tmps,params:=ps,assign:=x,body:=y,defers:=w.heap.size }
 have hb:BlkOk ((w.alloc (.deferred (some []))).alloc (.loop rec0)) m (kW φ S.st.length ((w.alloc (.deferred (some []))).heap.size,one (w.alloc (.deferred (some []))).heap.size 1)) (w.alloc (.deferred (some []))).heap.size
  (one (w.alloc (.deferred (some []))).heap.size 1) (.loop ⟨G,rs,ps.toList,x,y⟩ (EE (aJ S.env) rs) .ready):=by
  refine .loop (nt:=nt) (fn:=fn) (tmps:=a.tmps) (dfr:=w.heap.size) ?_ hsz hps ⟨hx,hy,hnx,hny⟩ ?_ ?_
  ·rw[dS];rfl
  ·intro t;exact(AIS henv t rs).mono (.refl _) (PLe.kW hL)
  ·intro o
   cases hm:m (w.alloc (.deferred (some []))).heap.size o with
   | none=>rfl
   | some v=>exact absurd (hi1.mem.lt hm) (xL _)
 obtain⟨hi2,ha2⟩:=hi1.push hL (.loop rec0) hb
 have hargs:RepL m (kW φ S.st.length ((w.alloc (.deferred (some []))).heap.size,one (w.alloc (.deferred (some []))).heap.size 1)) (.fn (.yield 0) [.own S.st.length 0]::caps) (.func (.yield (w.heap.size+1)) #[] #[]::cvs):=by
  refine .cons ?_ (hcaps.mono (.refl _) (PLe.kW hL));have:=Rep.yld (m:=m) (bP φ S.st.length ((w.alloc (.deferred (some []))).heap.size,one (w.alloc (.deferred (some []))).heap.size 1));simpa using this
 obtain⟨⟨fn1,g1,g2,g3⟩,hcalls⟩:=IJ hcall hit hi2 (nb:=S.st.length+1) (fun id k1 k2=>by
  rw[mO (by omega)]
  cases h:φ id with
  | none=>rfl
  | some q=>exact absurd (hok id (by rw[h];simp)) (by omega)) hargs hcg
 have hbody:fn1.body≠none:=by intro hb;rw[hb]at g3;cases g3
 refine⟨w.heap.size+1,[{ target:=.collected w.heap.size,args:=#[] }],(w.alloc (.deferred (some []))).alloc (.loop rec0),{ target:=.fn (.func it) cvs.toArray,args:=#[.func (.yield (w.heap.size+1)) #[] #[]] },(w.alloc (.deferred (some []))).alloc (.loop rec0),it,#[.func (.yield (w.heap.size+1)) #[] #[]]++cvs.toArray,(w.alloc (.deferred (some []))).alloc (.loop rec0),
  run_enterLoop_outer fn a.tmps ps x y,?_,fun _ _=>trivial,?_,fun h=>(by cases h),RZ ?_⟩
 ·have hcv:∀ v:Value,a.eval (.const v)=v:=fun _=>rfl
  simp[resolve,rangeCall,Deferred.ofValue,hae,hcv]
 ·simp[invoke,callFunc,g1,g2,hbody]
 ·have hm:(#[.func (.yield (w.heap.size+1)) #[] #[]]++cvs.toArray:Array Value)=((.func (.yield (w.heap.size+1)) #[] #[]:Value)::cvs).toArray:=by simp
  rw[hm];refine hcalls.mono ?_;rintro e1 w3 ⟨yv,rfl,m3,φ3,r1,r2,r3,r4⟩;have hD:w.heap.size<((w.alloc (.deferred (some []))).alloc (.loop rec0)).heap.size:=by simp;omega
  have hfree:eD φ w.heap.size:=fun id b n h1 h2=>xL _ (hi.low id b n _ h1 h2)
  have hfree2:eD (kW φ S.st.length ((w.alloc (.deferred (some []))).heap.size,one (w.alloc (.deferred (some []))).heap.size 1)) w.heap.size:=by
   intro id b n h1 h2;unfold kW at h1;split at h1
   ·injection h1 with h1;injection h1 with e1 e2;subst e2;have h2:w.heap.size=(w.alloc (.deferred (some []))).heap.size:=h2;simp at h2
   ·exact hfree id b n h1 h2
  have hD2:((w.alloc (.deferred (some []))).alloc (.loop rec0)).heap[w.heap.size]?=some (.deferred (some [])):=by
   rw[d9 _ _ (by simp)];exact dS _ _
  have hD3:=(r3.block _ hD hfree2).trans hD2;have hfree3:=r3.range hD hfree2
  have key:∀ R cs s,p.2 S.st.length=some (.loop R cs s)→∃ r n3,w3.heap[w.heap.size+1]?=some (.loop r)∧r.state=AP9 s∧r.pending=UU s∧φ3 S.st.length=some (w.heap.size+1,n3)∧(∀ o,m3 (w.heap.size+1) o=none)∧n3.own (w.heap.size+1):=by
   intro R cs s hs;obtain⟨b,n3,q1,q2,q3⟩:=r2.live _ _ hs;obtain⟨n4,q4,_,_⟩:=r3.ple _ _ _ (bP φ S.st.length ((w.alloc (.deferred (some []))).heap.size,one (w.alloc (.deferred (some []))).heap.size 1));rw[q1]at q4;injection q4 with q4;injection q4 with q5 q6
   have hb:b=w.heap.size+1:=by rw[q5];simp
   subst hb
   cases q3 with
   | loop u1 u2 u3 u4 u5 u6=>exact⟨_,n3,u1,rfl,rfl,q1,u6,q2.1⟩
  have fin:∀ R cs s,p.2 S.st.length=some (.loop R cs s)→s≠.busy→∃ w4,(Instr.endLoop (w.heap.size+1)).run C.P w3=.ok (UU s) w4 ∧
   MZ ({ target:=.collected w.heap.size,args:=#[] }::ds) w0 m0 φ0 nt na (settle G na (aJ S.env) (upd p.2 S.st.length none)) { a with defers:=[{ target:=.collected w.heap.size,args:=#[] }]++a.defers } w4:=by
   intro R cs s hs hbusy;obtain⟨r,n3,q1,q2,q3,q4,q5,q6⟩:=key R cs s hs;have hst:r.state≠.busy:=by rw[q2];cases s<;>simp[AP9]at hbusy ⊢
   refine⟨_,by rw[← q3];exact run_endLoop q1 hst,⟨OB (ok:=fun _=>True) h0 ⟨⟨m3,φ3,?_,?_,?_,fun _ _=>trivial,?_⟩,hsz,by rw[hdf];rfl⟩,OC⟩⟩
   ·have hoth:∀ z,z≠w.heap.size+1→(w3.putObj (w.heap.size+1) (.loop { r with state:=.exhausted })).heap[z]?=w3.heap[z]?:=fun z hz=>World.putObj_heap_other hz
    refine⟨?_,?_,?_,(fun i b n f k1 k2=>by simpa using r2.low i b n f k1 k2),r2.kn.aside hoth q5⟩
    ·intro z o v k;have:z≠w.heap.size+1:=fun e'=>by subst e';rw[q5 o]at k;cases k
     rw[cell_of_heap (hoth z this)];exact r2.mem z o v k
    ·intro j blk hj;unfold upd at hj;split at hj
     ·cases hj
     ·rename_i hne;obtain⟨b,n,k1,k2,k3⟩:=r2.live _ _ hj;have:∀ f,n.own f→f≠w.heap.size+1:=fun f hf e'=>by subst e';exact hne (r2.inj _ _ _ _ _ _ _ _ _ hj hs k1 q4 hf q6)
      exact⟨b,n,k1,⟨k2.1,fun f hf=>by simpa using k2.2 f hf⟩,k3.mono k2.1 (fun f hf=>hoth f (this f hf)) (.refl _) (.refl _) fun _ _ _=>rfl⟩
    ·intro i j b b' n1 n2 b1 b2 f k1 k2
     have drop:∀ i b1,upd p.2 S.st.length none i=some b1→p.2 i=some b1:=by
      intro i b1 k;unfold upd at k;split at k
      ·cases k
      ·exact k
     exact r2.inj i j b b' n1 n2 b1 b2 f (drop _ _ k1) (drop _ _ k2)
   ·intro t;exact((henv t).mono (.refl _) (PLe.kW hL)).mono r3.mle r3.ple
   ·have ha3:=((hadv.trans ha1).trans ha2).trans r3;refine⟨by simpa using ha3.size,ha3.os,⟨ha3.tape.tape,ha3.tape.fwd⟩,ha3.output,?_,ha3.mle,ha3.mnew,ha3.ple,ha3.pnew⟩;intro b hb1 hb2;have hw:=hadv.size;rw[World.putObj_heap_other (by omega)];exact ha3.block b hb1 hb2
   ·obtain⟨Ds,f1,f2,f3⟩:=hmk.form;have hne:∀ D∈Ds,D<w.heap.size:=fun D hD=>(zN.1 (f3 D hD).2.1).1
    refine⟨⟨w.heap.size::Ds,by rw[f1];rfl,yX.2 ⟨fun h=>xL _ (hne _ h),f2⟩,?_⟩⟩;intro D hD
    rcases zS.1 hD with rfl|hD
    ·exact⟨hadv.size,by rw[World.putObj_heap_other (by omega)];exact hD3,hfree3⟩
    ·obtain⟨f4,f5,f6⟩:=f3 D hD;have hlt:=hne D hD;have k1:=ha1.range hlt f6;have hlt1:D<(w.alloc (.deferred (some []))).heap.size:=by simp;omega
     have k2:=ha2.range hlt1 k1;have hlt2:D<((w.alloc (.deferred (some []))).alloc (.loop rec0)).heap.size:=by simp;omega
     exact⟨f4,by rw[World.putObj_heap_other (by omega),r3.block D hlt2 k2,ha2.block D hlt1 k1,ha1.block D hlt f6];exact f5,r3.range hlt2 k2⟩
  unfold DR at hout;split at hout
  ·rename_i R cs hs;injection hout with hout;injection hout with e1 e2;subst e1;subst e2;obtain⟨w4,z1,z2⟩:=fin R cs .ready hs (by simp);exact⟨_,w4,z1,rfl,_,z2⟩
  ·rename_i R cs e2 hs;injection hout with hout;injection hout with e3 e4;subst e3;subst e4;obtain⟨w4,z1,z2⟩:=fin R cs (.over e2) hs (by simp);refine⟨_,w4,z1,?_⟩
   cases e2 with
   | normal=>exact wpIn_skip ⟨rfl,_,z2⟩
   | exit k=>exact wpIn_exit ⟨rfl,_,z2⟩
   | ret=>exact wpIn_ret ⟨rfl,_,z2⟩
  ·cases hout
theorem bW (hC:CtxOk C) {call:dI} (hcall:CallOk C call) (hdraw:X5 C call) {G:List Nat} {na nt:Nat} {w0:World} {m0:Mem} {φ0:Pl} (h0:∀ id,φ0 id≠none→id<na) {ρ:Option Nat} :
 ∀ (n:Nat) (c:Code) (S S':AS) (e:AExit) (ds:List Deferred) (a:Act) (w:World),codeOk nt c=true→(ρ=none∨bK c=true)→exec C call G na n c S=some (e,S')→MZ ds w0 m0 φ0 nt na S a w →
   c.wpIn (FR ρ) 0 C.P (AK0 ds w0 m0 φ0 nt na c e S') a w
 | 0,_,_,_,_,_,_,_,_,_,h,_=>by simp[exec]at h
 | n+1,c,S,S',e,ds,a,w,hc,hn,h,hr=>by
  unfold exec at h
  cases c with
  | skip =>
   simp only[Option.some.injEq,Prod.mk.injEq]at h;obtain⟨rfl,rfl⟩:=h;exact wpIn_skip (.mk hr)
  | region id ops draw =>
   simp only at h;simp only[codeOk,zT]at hc;have hs:∀ o∈ops,gN nt o=true:=fun o ho=>yG.1 hc.1 o ho
   unfold AIU at h;split at h
   ·rename_i R hR;simp only[Option.some.injEq,Prod.mk.injEq]at h;obtain⟨rfl,rfl⟩:=h
    have fin:∀ a' w',ARel ds w0 m0 φ0 nt (fun _=>True) R.env R.st a' w'→AK0 ds w0 m0 φ0 nt na (.region id ops draw) .normal (settle G na R.env R.st) .normal a' w':=fun a' w' k =>
     .mk ⟨OB h0 k,OC⟩
    cases draw with
    | true=>exact hdraw ops id S.st.length nt R _ _ ds ρ w0 m0 φ0 a w _ hs (by simpa using hc.2) hR hr.1 fin
    | false =>
     refine wpIn_region ?_;rw[zB4];have:=KC (ρ:=ρ) (Q:=AK0 ds w0 m0 φ0 nt na (.region id ops false) .normal (settle G na R.env R.st)) hC hcall hs ops.toList 0 _ R a w (by simp) hR (w0:=w0) (m0:=m0) (φ0:=φ0) ?_ fin
     ·simpa using this
     ·obtain⟨⟨m,φ,k1,k2,k3,k4,k7⟩,k5,k6⟩:=hr.1;exact⟨⟨m,φ,k1,k2,k3,fun id hne=>.inl (k4 id hne),k7⟩,k5,k6⟩
   ·cases h
  | seq x y =>
   simp only[codeOk,zT]at hc;simp only at h;have hn1:ρ=none∨bK x=true:=hn.imp id fun k=>by simp only[bK,zT]at k;exact k.1
   have hn2:ρ=none∨bK y=true:=hn.imp id fun k=>by simp only[bK,zT]at k;exact k.2
   refine wpIn_seq ?_;unfold AD0 at h;split at h
   ·rename_i S1 h1;refine wpIn_mono (bW hC hcall hdraw h0 n x S S1 .normal ds a w hc.1 hn1 h1 hr) ?_;rintro e' a' w' ⟨rfl,ds1,k,kd⟩;refine wpIn_mono (bW hC hcall hdraw h0 n y S1 S' e ds1 a' w' hc.2 hn2 h k) ?_;rintro e' a' w' ⟨rfl,ds2,k',kd'⟩;exact⟨rfl,ds2,k',fun q=>by simp only[bK,zT]at q;rw[kd' q.2,kd q.1]⟩
   ·rename_i i S1 h1;injection h with h;injection h with h2 h3;subst h2;subst h3;refine wpIn_mono (bW hC hcall hdraw h0 n x S S1 (.exit i) ds a w hc.1 hn1 h1 hr) ?_;rintro e' a' w' ⟨rfl,ds1,k,kd⟩;exact⟨rfl,ds1,k,fun q=>by simp only[bK,zT]at q;exact kd q.1⟩
   ·rename_i S1 h1;injection h with h;injection h with h2 h3;subst h2;subst h3;refine wpIn_mono (bW hC hcall hdraw h0 n x S S1 .ret ds a w hc.1 hn1 h1 hr) ?_;rintro e' a' w' ⟨rfl,ds1,k,kd⟩;exact⟨rfl,ds1,k,fun q=>by simp only[bK,zT]at q;exact kd q.1⟩
   ·cases h
  | cond x y z =>
   simp only[codeOk,zT]at hc;simp only at h;have hn1:ρ=none∨bK y=true:=hn.imp id fun k=>by simp only[bK,zT]at k;exact k.1
   have hn2:ρ=none∨bK z=true:=hn.imp id fun k=>by simp only[bK,zT]at k;exact k.2
   obtain⟨t,ht,h1⟩:=lQ.1 h;obtain⟨⟨m,φ,k1,k2,k3,k4,k7⟩,k5,k6⟩:=hr.1;have hx:=M6 k2 x hc.1;rw[ht]at hx;refine wpIn_cond hx.lit_eq ?_
   cases t with
   | true =>
    refine wpIn_mono (bW hC hcall hdraw h0 n y S S' e ds a w hc.2.1 hn1 h1 hr) ?_;rintro e' a' w' ⟨rfl,ds1,k,kd⟩;exact⟨rfl,ds1,k,fun q=>by simp only[bK,zT]at q;exact kd q.1⟩
   | false =>
    refine wpIn_mono (bW hC hcall hdraw h0 n z S S' e ds a w hc.2.2 hn2 h1 hr) ?_;rintro e' a' w' ⟨rfl,ds1,k,kd⟩;exact⟨rfl,ds1,k,fun q=>by simp only[bK,zT]at q;exact kd q.2⟩
  | block id b =>
   simp only[codeOk]at hc;simp only at h;refine wpIn_block ?_;unfold MP at h;split at h
   ·rename_i S1 h1;injection h with h;injection h with h2 h3;subst h2;subst h3;refine wpIn_mono (bW hC hcall hdraw h0 n b S S1 .normal ds a w hc hn h1 hr) ?_;rintro e' a' w' ⟨rfl,k⟩;exact⟨rfl,k⟩
   ·rename_i i S1 h1;refine wpIn_mono (bW hC hcall hdraw h0 n b S S1 (.exit i) ds a w hc hn h1 hr) ?_;rintro e' a' w' ⟨rfl,k⟩;simp only[gQ,Exit.inBlock];split at h
    ·rename_i e0;injection h with h;injection h with h2 h3;subst h2;subst h3;rw[if_pos e0];exact⟨rfl,k⟩
    ·rename_i e0;injection h with h;injection h with h2 h3;subst h2;subst h3;rw[if_neg e0];exact⟨rfl,k⟩
   ·rename_i S1 h1;injection h with h;injection h with h2 h3;subst h2;subst h3;refine wpIn_mono (bW hC hcall hdraw h0 n b S S1 .ret ds a w hc hn h1 hr) ?_;rintro e' a' w' ⟨rfl,k⟩;exact⟨rfl,k⟩
   ·cases h
  | loop b =>
   simp only[codeOk]at hc;have hn1:ρ=none∨bK b=true:=hn.imp id fun k=>by simpa only[bK]using k
   have hI:∃ ds1,(bK b=true→ds1=ds)∧∃ S,exec C call G na (n+1) (.loop b) S=some (e,S')∧MZ ds1 w0 m0 φ0 nt na S a w:=⟨ds,fun _=>rfl,S,by unfold exec;exact h,hr⟩
   refine JO (fun k a w=>k≤n+1∧∃ ds1,(bK b=true→ds1=ds)∧∃ S,exec C call G na k (.loop b) S=some (e,S')∧MZ ds1 w0 m0 φ0 nt na S a w) ?_ (n:=n+1) ⟨Nat.le_refl _,hI⟩;rintro k a w ⟨hk,ds1,hd1,S,h1,hr⟩
   cases k with
   | zero=>simp[exec]at h1
   | succ k =>
    unfold exec at h1;simp only at h1;unfold AD0 at h1;split at h1
    ·rename_i S1 h2;refine wpIn_mono (bW hC hcall hdraw h0 k b S S1 .normal ds1 a w hc hn1 h2 hr) ?_;rintro e' a' w' ⟨rfl,ds2,q,qd⟩;exact⟨k,Nat.lt_succ_self k,by omega,ds2,fun u=>(qd u).trans (hd1 u),S1,h1,q⟩
    ·rename_i i S1 h2;injection h1 with h1;injection h1 with h3 h4;subst h3;subst h4;refine wpIn_mono (bW hC hcall hdraw h0 k b S S1 (.exit i) ds1 a w hc hn1 h2 hr) ?_;rintro e' a' w' ⟨rfl,ds2,q,qd⟩;exact⟨rfl,ds2,q,fun u=>(qd u).trans (hd1 u)⟩
    ·rename_i S1 h2;injection h1 with h1;injection h1 with h3 h4;subst h3;subst h4;refine wpIn_mono (bW hC hcall hdraw h0 k b S S1 .ret ds1 a w hc hn1 h2 hr) ?_;rintro e' a' w' ⟨rfl,ds2,q,qd⟩;exact⟨rfl,ds2,q,fun u=>(qd u).trans (hd1 u)⟩
    ·cases h1
  | rangeFunc g ps x y =>
   simp only at h;obtain rfl:ρ=none:=hn.resolve_right (by simp[bK]);simp only[codeOk,zT]at hc;unfold pK at h;split at h
   case isFalse=>cases h
   rename_i hnr;simp only[zT]at hnr;generalize hev:ev (aJ S.env) g=gv at h;unfold UN at h;split at h
   case h_2=>cases h
   rename_i it caps;split at h
   ·cases h
   rename_i hit;generalize hcg:gT call true it _ _ _=rr at h
   cases rr with
   | none=>simp[vP]at h
   | some p =>
    refine wpIn_mono (XZ hC hcall h0 hc.1 (fun t ht=>zR (zQ.1 hc.2.1 t ht)) hc.2.2.1 hc.2.2.2 hnr.1 hnr.2 hev hit hcg h hr) ?_;rintro e' a' w' ⟨rfl,ds1,k⟩;exact⟨rfl,ds1,k,fun q=>by simp[bK]at q⟩
  | exit id =>
   simp only[Option.some.injEq,Prod.mk.injEq]at h;obtain⟨rfl,rfl⟩:=h;exact wpIn_exit (.mk hr)
  | ret =>
   simp only[Option.some.injEq,Prod.mk.injEq]at h;obtain⟨rfl,rfl⟩:=h;exact wpIn_ret (.mk hr)
  | scope=>simp at h
  | label=>simp at h
  | goto=>simp at h
  | refuse=>simp at h
termination_by n=>n
decreasing_by all_goals omega
end
section
variable {C:Ctx}
def AD2 (a:Act):ResultVar→Sem Value
 | .tmp t=>pure (a.tmps.getD t undef)
 | .cell s t=>do loadVar t (← asAddr (a.tmps.getD s undef))
theorem H8 {w:World} {m:Mem} {φ:Pl} {st:Store} {env:Nat→AV} {a:Act} (hi:Inv w m φ st) (henv:∀ t,Rep m φ (env t) (a.tmps.getD t undef)) :
 ∀ (rs:List ResultVar) (vs:List AV),KF C env st rs=some vs→∃ ys,(rs.mapM (AD2 a)).run C.P w=.ok ys w∧RepL m φ vs ys
 | [],vs,h=>by simp[KF]at h;subst h;exact⟨[],by simp, .nil⟩
 | r::rs,vs,h=>by
  simp only[KF]at h;obtain⟨v,h1,h2⟩:=aI.1 h;obtain⟨l,h3,h4⟩:=aI.1 h2;injection h4 with h4;subst h4;obtain⟨ys,k1,k2⟩:=H8 hi henv rs l h3
  have hone:∃ y,(AD2 a r).run C.P w=.ok y w∧Rep m φ v y:=by
   cases r with
   | tmp t=>simp only[AAC,Option.some.injEq]at h1;subst h1;exact⟨_,by simp[AD2],henv t⟩
   | cell s t =>
    obtain⟨ad,y,q1,q2,q3⟩:=BA hi (henv s) (show L9 C t (env s) st=some v from h1);exact⟨y,by simp[AD2,q1,asAddr,q2],q3⟩
  obtain⟨y,q1,q2⟩:=hone;exact⟨y::ys,by simp[q1,k1], .cons q2 k2⟩
theorem uO {w:World}:∀ {vs us:List AV} {m:Mem} {φ:Pl} {st st1:Store} {ys:List Value},Inv w m φ st→RepL m φ vs ys→uP st vs=some (us,st1) →
 ∃ m1,RepL m1 φ us ys∧Inv w m1 φ st1∧Adv w m φ w m1 φ
 | [],us,m,φ,st,st1,_,hi, .nil,h=>by
  simp[uP]at h;obtain⟨rfl,rfl⟩:=h;exact⟨m, .nil,hi, .refl _ _ _⟩
 | v::vs,us,m,φ,st,st1,_,hi, .cons a b,h=>by
  simp only[uP]at h;obtain⟨p,h1,h2⟩:=aI.1 h;obtain⟨q,h3,h4⟩:=aI.1 h2;injection h4 with h4;injection h4 with h4 h5;subst h4;subst h5;obtain⟨m1,k1,k2,k3⟩:=iY hi a (show rV st v=some (p.1,p.2)from h1);obtain⟨m2,j1,j2,j3⟩:=uO k2 (b.mono k3.mle (.refl _)) (show uP p.2 vs=some (q.1,q.2)from h3);exact⟨m2, .cons ((Rep.i k1).mono j3.mle (.refl _)) j1,j2,k3.trans j3⟩
theorem YB {w:World} {m:Mem} {φ:Pl} {st st1:Store} {v u:AV} {x:Value} (hi:Inv w m φ st) (a:Rep m φ v x) (h:FP st v=some (u,st1)):∃ m1,Rep m1 φ u x∧Inv w m1 φ st1∧Adv w m φ w m1 φ:=by
 unfold FP at h;split at h
 ·obtain⟨r,h5,h6⟩:=aI.1 h;injection h6 with h6;injection h6 with h6 h7;subst h6;subst h7;obtain⟨m1,k1,k2,k3⟩:=iY hi a (show rV st _=some (r.1,r.2)from h5);exact⟨m1, .i k1,k2,k3⟩
 ·injection h with h;injection h with h6 h7;subst h6;subst h7;exact⟨m,a,hi, .refl _ _ _⟩
theorem IA {w:World}:∀ {vs us:List AV} {m:Mem} {φ:Pl} {st st1:Store} {ys:List Value},Inv w m φ st→RepL m φ vs ys→wX st vs=some (us,st1) →
 ∃ m1,RepL m1 φ us ys∧Inv w m1 φ st1∧Adv w m φ w m1 φ
 | [],us,m,φ,st,st1,_,hi, .nil,h=>by
  simp[wX]at h;obtain⟨rfl,rfl⟩:=h;exact⟨m, .nil,hi, .refl _ _ _⟩
 | v::vs,us,m,φ,st,st1,_,hi, .cons a b,h=>by
  simp only[wX]at h;obtain⟨p,h1,h2⟩:=aI.1 h;obtain⟨q,h3,h4⟩:=aI.1 h2;injection h4 with h4;injection h4 with h4 h5;subst h4;subst h5;obtain⟨m1,k1,k2,k3⟩:=YB hi a (show FP st v=some (p.1,p.2)from h1);obtain⟨m2,j1,j2,j3⟩:=IA k2 (b.mono k3.mle (.refl _)) (show wX p.2 vs=some (q.1,q.2)from h3);exact⟨m2, .cons (k1.mono j3.mle (.refl _)) j1,j2,k3.trans j3⟩
theorem AD1 {m:Mem} {φ:Pl} {vs:List AV} {ys:List Value} (h:RepL m φ vs ys):Rep m φ (OE vs) (if h:ys.toArray.size=1 then ys.toArray[0]else .tuple ys.toArray):=by
 have hl:=h.length;unfold OE;split
 ·cases h with|cons a b=>cases b;simpa using a
 ·rename_i hne
  have h1:¬ ys.toArray.size=1:=fun e=>by
   have e:ys.length=1:=by simpa using e
   cases h with
   | nil=>simp at e
   | cons a b =>
    cases b with
    | nil=>exact hne _ rfl
    | cons c d=>simp at e
  rw[dif_neg h1];exact .tup h
theorem AMC {α β:Type} {f:α→Sem β} {xs:Array α} {ys:List β} {P:Program} {w:World} (h:(xs.toList.mapM f).run P w=.ok ys w):(xs.mapM f).run P w=.ok ys.toArray w:=by
 obtain⟨l⟩:=xs;simp at h ⊢;simp[h]
theorem fJ {fn:Func} {keep:Bool} {ds:List Deferred} {na nt:Nat} {w0 w:World} {m0:Mem} {φ0:Pl} {S:AS} {a:Act} {r:AV} {stl':StL} (h0:∀ id,φ0 id≠none→id<na) (hr:MZ ds w0 m0 φ0 nt na S a w)
 (h:finish C keep fn.results.toList na S=some (r,stl')):∃ v,(results fn a.tmps).run C.P w=.ok v w∧bS w0 m0 φ0 r stl' (.returned v) w:=by
 obtain⟨⟨⟨m,φ,hi,henv,hadv,hok,hmk⟩,hsz,hdf⟩,hlen⟩:=hr;unfold finish at h;obtain⟨vs,h1,h2⟩:=aI.1 h;obtain⟨p,h3,h4⟩:=aI.1 h2;obtain⟨ys,k1,k2⟩:=H8 (C:=C) hi henv _ _ h1
 have hres:∃ m1,RepL m1 φ p.1 ys∧Inv w m1 φ p.2∧Adv w m φ w m1 φ:=by
  unfold AAE at h3;split at h3
  rotate_left
  ·split at h3
   ·injection h3 with h3;subst h3;exact⟨m,k2,hi, .refl _ _ _⟩
   ·exact uO hi k2 (show uP _ vs=some (p.1,p.2)from h3)
  cases keep with
  | true =>
   simp only[AAD]at h3;unfold KG at h3;split at h3
   ·injection h3 with h3;subst h3;exact⟨m,k2,hi, .refl _ _ _⟩
   ·exact IA hi k2 (show wX _ vs=some (p.1,p.2)from h3)
  | false=>exact uO hi k2 (show uP _ vs=some (p.1,p.2)from h3)
 obtain⟨m1,j1,j2,j3⟩:=hres;unfold AH4 at h4;injection h4 with h4;injection h4 with h4 h5;subst h4;subst h5;generalize hids:jL p.2 na p.1=ids;have hd:ids.Nodup:=by rw[← hids];exact iX _ _ _
 refine⟨_,?_,_,m1,eX ids φ,rfl,AD1 (j1.ren (nZ ids φ)),j2.keep hd,(hadv.trans j3).keep h0 (fun j hj=>by rw[← hids];exact FQ _ _ _ hj),?_⟩
 ·have hm:(fn.results.mapM (AD2 a)).run C.P w=.ok ys.toArray w:=by
   exact AMC k1
  have he:results fn a.tmps=(do let vs ← fn.results.mapM (AD2 a);pure (if h:vs.size=1 then vs[0]else .tuple vs)):=by
   unfold results;congr 1
  rw[he,Sem.run_bind,hm];simp only[Result.andThen_ok,Sem.run_pure]
 ·intro id hne;rw[iT];unfold eX at hne
  cases hx:ids[id]? with
  | none=>rw[hx]at hne;exact absurd rfl hne
  | some i=>exact(zZ.1 hx).1
def AYZ (P:Program):Prop:=∀ (g:FuncId) (fn:Func) (c:Code),P.funcs[g]?=some fn→fn.body=some c→fn.name≠ "runtime.NumGoroutine"∧codeOk fn.ntmps c=true
def bV (C:Ctx):dI:=fun g args st=>match C.prim g with
 | some p=>p args st
 | none=>none
structure PrimOk (C:Ctx):Prop where
 name:∀ g args stl p,bV C g args stl=some p→∃ fn,C.P.funcs[g]?=some fn∧fn.name≠ "runtime.NumGoroutine"∧fn.body.isSome=true
 calls:∀ g args stl r stl',bV C g args stl=some (r,stl')→∀ (w:World) (m:Mem) (φ:Pl) (vs:List Value),Inv w m φ (aR stl)→RepL m φ args vs→(∀ id,φ id≠none→id<stl.length) →
  Calls C.P g vs.toArray w (bS w m φ r stl')
structure SoundOk (C:Ctx):Prop where
 ctx:CtxOk C
 fns:AYZ C.P
 draw:∀ call,CallOk C call→X5 C call
 prim:PrimOk C
theorem mG {m:Mem} {φ:Pl} {args:List AV} {vs:List Value} (n:Nat) (h:RepL m φ args vs):∀ t,Rep m φ (sN args t) ((vs.toArray++Array.replicate n undef).getD t undef):=by
 have key:∀ (args:List AV) (vs:List Value) (t:Nat),RepL m φ args vs→Rep m φ (sN args t) ((vs++List.replicate n undef)[t]?.getD undef):=by
  intro args
  induction args with
  | nil=>intro vs t h;exact .junk _
  | cons c args ih =>
   intro vs t h
   cases h with
   | cons a b =>
    cases t with
    | zero=>simpa [sN]using a
    | succ t=>simpa [sN]using ih _ t b
 intro t;have:=key args vs t h;rw[xR]
 have e:(vs.toArray++Array.replicate n undef)[t]?=(vs++List.replicate n undef)[t]?:=by
  rw[← Array.getElem?_toList];simp
 rw[e];exact this
theorem MZ.close {D:Nat} {ds:List Deferred} {w0 w:World} {m0:Mem} {φ0:Pl} {nt na:Nat} {S:AS} {a:Act} (h:MZ ({ target:=.collected D,args:=#[] }::ds) w0 m0 φ0 nt na S a w) :
 (Instr.takeDeferred D).run C.P w=.ok [] (w.putObj D (.deferred none))∧MZ ds w0 m0 φ0 nt na S { a with defers:=ds } (w.putObj D (.deferred none)):=by
 obtain⟨⟨⟨m,φ,hi,henv,hadv,hok,hmk⟩,hsz,hdf⟩,hlen⟩:=h;obtain⟨Ds,f1,f2,f3⟩:=hmk.form
 cases Ds with
 | nil=>cases f1
 | cons D' Ds =>
  simp only[yS,List.cons.injEq,Deferred.mk.injEq,Target.collected.injEq,and_true]at f1;obtain⟨rfl,f1⟩:=f1;obtain⟨g1,g2,g3⟩:=f3 D (by simp);obtain⟨n1,n2⟩:=yX.1 f2;have hoth:∀ x,x≠D→(w.putObj D (.deferred none)).heap[x]?=w.heap[x]?:=fun x hx=>World.putObj_heap_other hx
  have hm:∀ o,m D o=none:=by
   intro o
   cases e:m D o with
   | none=>rfl
   | some v =>
    have:=hi.mem D o v e;simp[World.cell?,g2]at this
  refine⟨run_takeDeferred g2,⟨⟨m,φ,hi.aside (by simp) hoth hm g3,henv,?_,hok,⟨⟨Ds,f1,n2,fun D' hD'=>?_⟩⟩⟩,hsz,rfl⟩,hlen⟩
  ·refine⟨by simpa using hadv.size,hadv.os,⟨hadv.tape.tape,hadv.tape.fwd⟩,hadv.output,?_,hadv.mle,hadv.mnew,hadv.ple,hadv.pnew⟩;intro b hb1 hb2;rw[hoth b (by omega)];exact hadv.block b hb1 hb2
  ·obtain⟨k1,k2,k3⟩:=f3 D' (by simp[hD']);exact⟨k1,by rw[hoth D' fun e=>n1 (e ▸ hD')];exact k2,k3⟩
theorem BB {fn:Func} {R:Ending→World→Prop} {w0:World} {m0:Mem} {φ0:Pl} {nt na:Nat} {S:AS}:∀ {ds:List Deferred} {a:Act} {w:World},MZ ds w0 m0 φ0 nt na S a w →
 (∀ (a':Act) (w':World),a'.tmps=a.tmps→MZ [] w0 m0 φ0 nt na S a' w'→∃ v,(results fn a'.tmps).run C.P w'=.ok v w'∧R (.returned v) w')→LeavesInM Fence.wide 0 C.P fn a.tmps R ds .returning w
 | [],a,w,h,k=>by
  obtain⟨v,k1,k2⟩:=k a w rfl h;exact⟨v,k1,k2⟩
 | d::ds,a,w,h,k=>by
  have hd:∃ D,d={ target:=.collected D,args:=#[] }:=by
   obtain⟨⟨⟨m,φ,_,_,_,_,hmk⟩,_,_⟩,_⟩:=h;obtain⟨Ds,f1,_,_⟩:=hmk.form
   cases Ds with
   | nil=>cases f1
   | cons D Ds=>simp only[yS,List.cons.injEq]at f1;exact⟨D,f1.1⟩
  obtain⟨D,rfl⟩:=hd;obtain⟨h1,h2⟩:=h.close (C:=C);exact⟨by simp, .inl ⟨D,_,rfl,h1,BB (a:={ a with defers:=ds }) h2 fun a' w' e=>k a' w' e⟩⟩
theorem WM {m:Mem} {φ:Pl} {nt:Nat}:∀ {ps:List Nat} {as1:List AV} {us:List Value} {E:List (Nat×AV)} {tmps:Array Value},(∀ p∈ps,p<nt)→nt≤tmps.size→RepL m φ as1 us→as1.length=ps.length →
 (∀ t,Rep m φ (aJ E t) (tmps.getD t undef)) →
 nt≤((ps.zip us).foldl (fun t (p:Nat×Value)=>t.setIfInBounds p.1 p.2) tmps).size∧∀ t,Rep m φ (aJ (NQ ps as1 E) t) (((ps.zip us).foldl (fun t (p:Nat×Value)=>t.setIfInBounds p.1 p.2) tmps).getD t undef)
 | [],as1,us,E,tmps,_,hs,_,_,h=>by simp only[NQ];exact⟨hs,h⟩
 | p::ps,[],us,E,tmps,_,_,_,hl,_=>by simp at hl
 | p::ps,a::as1,_,E,tmps,hp,hs, .cons (v:=v) ha hb,hl,h=>by
  simp only[NQ,List.zip_cons_cons,zA8];refine WM (fun q hq=>hp q (by simp[hq])) (by simpa using hs) hb (by simpa using hl) ?_;intro t;have hlt:p<tmps.size:=zI (hp p (by simp)) hs;simp only[aJ];by_cases e:t=p
  ·subst e;simpa [Array.getD,hlt]using ha
  ·simp only[e,if_false];have:=h t;rw[xR]at this ⊢;rw[zC4 (Ne.symm e)];exact this
theorem KA:∀ (st:StL) (id:Nat) (b:Option Blk),id<st.length→aR (setSt st id b)=upd (aR st) id b
 | [],id,b,h=>by simp at h
 | c::st,0,b,_=>by
  funext i
  cases i with
  | zero=>simp[setSt,aR,upd]
  | succ i=>simp[setSt,aR,upd]
 | c::st,id+1,b,h=>by
  funext i
  cases i with
  | zero=>simp[setSt,aR,upd]
  | succ i =>
   have:=congrFun (KA st id b (by simpa using h)) i;simp only[setSt,aR,this,upd];by_cases e:i=id
   ·subst e;simp
   ·simp[e]
theorem K9:∀ (st:StL) (id:Nat) (b:Option Blk),(setSt st id b).length=st.length
 | [],_,_=>rfl
 | _::st,0,_=>by simp[setSt]
 | _::st,id+1,b=>by simp[setSt,K9 st id b]
theorem ARel.turn {ds:List Deferred} {w0 w:World} {m0:Mem} {φ0:Pl} {nt:Nat} {ok:Nat→Prop} {env:Nat→AV} {st:Store} {a:Act} {id:Nat} {R:Rng} {cs:List AV} {s:LSt} (h:ARel ds w0 m0 φ0 nt ok env st a w) (hs:st id=some (.loop R cs s)) {l:Nat} {n0:Ext}
 (h0:φ0 id=some (l,n0)):∃ r:Loop,w.heap[l]?=some (.loop r)∧r.state=AP9 s∧r.pending=UU s∧∀ s':LSt,
  ARel ds w0 m0 φ0 nt ok env (upd st id (some (.loop R cs s'))) a (w.putObj l (.loop { r with state:=AP9 s',pending:=UU s' })):=by
 obtain⟨⟨m,φ,hi,henv,hadv,hok,hmk⟩,hsz,hdf⟩:=h;obtain⟨b,n,q1,q2,q3⟩:=hi.live _ _ hs;obtain⟨n4,q4,_,_⟩:=hadv.ple _ _ _ h0;rw[q1]at q4;injection q4 with q4;injection q4 with q5 q6
 subst q5
 cases q3 with
 | loop u1 u2 u3 u4 u5 u6 =>
  have hlt:b<w.heap.size:=(zN.1 u1).1;refine⟨_,u1,rfl,rfl,fun s'=>?_⟩;obtain⟨k1,k2⟩:=hi.AcF (w':=w.putObj b (.loop _)) hs q1 u6 (by simp) (fun x hx=>World.putObj_heap_other hx) ⟨rfl,⟨rfl,zO _⟩,rfl⟩ (.loop (s:=s') (World.putObj_heap_same hlt) u2 u3 u4 u5 u6);exact⟨⟨m,φ,k1,henv,hadv.trans k2,hok,hmk.adv k2⟩,hsz,hdf⟩
theorem UJ {w0 w:World} {m0:Mem} {φ0:Pl} {S:AS} {a:Act} {id l nt na:Nat} {n0:Ext} {e:AExit} {r:AV} {stl':StL} {ds:List Deferred} (h0:∀ id,φ0 id≠none→id<na) (hl:φ0 id=some (l,n0)) (hid:id<na)
 (hr:MZ ds w0 m0 φ0 nt na S a w) (h:AAA na e id S (aR S.st id)=some (r,stl')):∀ j:Option Code,(j=match e with | .normal=>none|e=>some (AXS e))→∃ v w',(Instr.endRound l j).run C.P w=.ok v w'∧bS w0 m0 φ0 r stl' (.returned v) w':=by
 intro j hj;obtain⟨hr,hlen⟩:=hr;unfold AAA at h;split at h
 ·rename_i R cs hs;obtain⟨rec,q1,q2,q3,q4⟩:=hr.turn hs hl;have hrun:=run_endRound (P:=C.P) j q1;rw[KA _ _ _ (zI hid hlen)]at h;have h4:=q4 (Q6 e)
  have hrec:({ rec with state:=AP9 (Q6 e),pending:=UU (Q6 e) }:Loop)={ rec with state:=if j.isNone then .ready else .done,pending:=j }:=by
   subst hj;cases e<;>rfl
  rw[hrec]at h4;refine⟨_,_,hrun,?_⟩;obtain⟨⟨m,φ,hi,henv,hadv,hok,hmk⟩,hsz,hdf⟩:=h4;unfold AH4 at h;injection h with h;injection h with h5 h6;subst h5;subst h6;generalize hids:jL (upd (aR S.st) id (some (.loop R cs (Q6 e)))) na [.bool (LX e)]=ids;have hd:ids.Nodup:=by rw[← hids];exact iX _ _ _
  have hb:j.isNone=LX e:=by subst hj;cases e<;>rfl
  refine⟨_,m,eX ids φ,rfl,?_,hi.keep hd,hadv.keep h0 (fun j hj=>by rw[← hids];exact FQ _ _ _ hj),?_⟩
  ·rw[hb];exact .i (.lit _)
  ·intro i hne;rw[iT];unfold eX at hne
   cases hx:ids[i]? with
   | none=>rw[hx]at hne;exact absurd rfl hne
   | some k=>exact(zZ.1 hx).1
 ·cases h
theorem sI (hS:SoundOk C):∀ n,CallOk C (gZ C n)
 | 0=>⟨fun _ _ _ _ _ h=>by simp[gZ]at h,fun _ _ _ _ _ _ h=>by simp[gZ]at h,fun _ _ _ _ h=>by simp[gZ]at h⟩
 | n+1=>by
  have ih:=sI hS n;constructor
  ·intro g args stl p hg h;unfold gZ at h;rw[if_neg hg]at h
   cases hp:C.prim g with
   | some q =>
    rw[hp]at h;exact hS.prim.name g args stl p (by unfold bV;rw[hp];exact h)
   | none =>
    rw[hp]at h;simp only at h;split at h
    ·cases h
    ·rename_i fn hf;split at h
     ·cases h
     ·rename_i c hb;exact⟨fn,hf,(hS.fns g fn c hf hb).1,by rw[hb];rfl⟩
  ·intro g args stl r stl' hg h w m φ vs hi hargs hid;unfold gZ at h;rw[if_neg hg]at h
   cases hp:C.prim g with
   | some q =>
    rw[hp]at h;exact hS.prim.calls g args stl r stl' (by unfold bV;rw[hp];exact h) w m φ vs hi hargs hid
   | none =>
    rw[hp]at h;simp only at h;split at h
    ·cases h
    ·rename_i fn hf;split at h
     ·cases h
     ·rename_i c hb;have hst:=(hS.fns g fn c hf hb).2
      have hrel:MZ [] w m φ fn.ntmps stl.length (enter (C.G g) args stl) { tmps:=vs.toArray++Array.replicate (fn.ntmps-vs.toArray.size) undef,defers:=[] } w:=by
       refine⟨⟨⟨m,φ,hi,?_, .refl _ _ _,hid, .nil _ _ _⟩,by simp;omega,rfl⟩,zO _⟩;intro t;unfold enter;simp only;generalize C.G g=G
       induction G with
       | nil=>exact .junk _
       | cons u G ihG =>
        simp only[P9,aJ];by_cases e:t=u
        ·subst e;simp only[if_true];exact mG _ hargs t
        ·simp only[e,if_false];exact ihG
      refine callsIn_wide.1 (callsIn_of_wp_marks (n:=0) hf hb trivial ?_)
      have done:∀ S e,exec C (gZ C n) (C.G g) stl.length n c (enter (C.G g) args stl)=some (e,S)→finish C (C.keepRes g) fn.results.toList stl.length S=some (r,stl')→(e=.normal∨e=.ret) →
       c.wpIn Fence.wide 0 C.P (bodyPostM Fence.wide 0 C.P fn (bS w m φ r stl')) { tmps:=vs.toArray++Array.replicate (fn.ntmps-vs.toArray.size) undef,defers:=[] } w:=by
       intro S e hS' hfin he;refine wpIn_mono (bW (ρ:=none) hS.ctx ih (hS.draw _ ih) hid n c _ S e [] _ w hst (.inl rfl) hS' hrel) ?_;rintro e' a' w' ⟨rfl,ds,k,_⟩
       have hl:LeavesInM Fence.wide 0 C.P fn a'.tmps (bS w m φ r stl') a'.defers .returning w':=by
        rw[k.1.defers];refine BB k fun a2 w2 _ k2=>?_
        obtain⟨v,k3,k4⟩:=fJ (C:=C) hid k2 hfin;exact⟨v,k3,k4⟩
       rcases he with rfl|rfl
       ·exact hl
       ·exact hl
      unfold AIT at h;split at h
      ·rename_i S hS';exact done S .normal hS' h (.inl rfl)
      ·rename_i S hS';exact done S .ret hS' h (.inr rfl)
      ·cases h
      ·cases h
  ·intro args stl r stl' h w m φ vs hi hargs hid;unfold gZ at h;rw[if_pos rfl]at h;unfold DJ at h;split at h
   ·rename_i id as1;obtain⟨h0,h⟩:=aQ.1 h;have h0:=zR h0;unfold UK at h;split at h
    ·rename_i R cs hs;obtain⟨h2,h⟩:=aQ.1 h;have h2:=zR h2
     cases hargs with
     | @cons _ v _ us hy hus =>
     obtain⟨b,n0,q1,q2,q3⟩:=hi.live _ _ hs
     cases hy with
     | yld e0 =>
     rw[q1]at e0;injection e0 with e0;injection e0 with e1 e2;subst e1;subst e2
     cases q3 with
     | @loop R cs s nt fn tmps dfr u1 u2 u3 u4 u5 u6 =>
     refine⟨b,us,rfl,fn,_,R.asg,R.body,run_yield u1 (by simp;rw[← hus.length];exact h2),?_⟩;obtain⟨z1,z2⟩:=WM u3 u2 hus h2 u5;have hfold:∀ (l:List (Nat×Value)) (t:Array Value),(l.toArray.foldl (fun(tmps:Array Value) (x:Nat×Value)=>tmps.setIfInBounds x.1 x.2) t)=l.foldl (fun t (p:Nat×Value)=>t.setIfInBounds p.1 p.2) t:=fun l t=>by simp
     have htm:((R.ps.toArray.zip us.toArray).foldl (fun(tmps:Array Value) (x:Nat×Value)=>tmps.setIfInBounds x.1 x.2) tmps)=(R.ps.zip us).foldl (fun t (p:Nat×Value)=>t.setIfInBounds p.1 p.2) tmps:=by
      rw[List.zip_toArray,hfold]
     have hrel:MZ [] w m φ nt stl.length ⟨NQ R.ps as1 (X9 R.ts cs),stl⟩ { tmps:=(R.ps.zip us).foldl (fun t (p:Nat×Value)=>t.setIfInBounds p.1 p.2) tmps,defers:=[] } w :=
      ⟨⟨⟨m,φ,hi,z2, .refl _ _ _,hid, .nil _ _ _⟩,z1,rfl⟩,zO _⟩
     refine roundIn_of_wpIn (F:=Fence.wide) trivial ?_;show Code.wpIn (FR (some b)) 0 C.P _ _ _ _;have htm':=htm;simp only[]at htm';rw[show(Array.foldl (fun tmps (x:Nat×Value)=>match x with|(t,a)=>tmps.setIfInBounds t a) tmps (R.ps.toArray.zip us.toArray))=(R.ps.zip us).foldl (fun t (p:Nat×Value)=>t.setIfInBounds p.1 p.2) tmps from htm];unfold oQ at h;split at h
     case h_2=>cases h
     rename_i e S hx;unfold ABU at hx;split at hx
     ·rename_i S1 hx1;refine wpIn_mono (bW (ρ:=some b) hS.ctx ih (hS.draw _ ih) hid n R.asg _ S1 .normal [] _ w u4.1 (.inr u4.2.2.1) hx1 hrel) ?_;rintro e' a1 w1 ⟨rfl,ds1,k1,kd⟩;have kd:=kd u4.2.2.1;subst kd;simp only[AJB]at hx;split at hx
      ·rename_i R1 cs1 hs1;obtain⟨rec,p1,p2,p3,p4⟩:=k1.1.turn hs1 q1;refine⟨_,run_beginRound p1 p2,?_⟩;have p5:=p4 .busy
       have hrec:({ rec with state:=AP9 .busy,pending:=UU .busy }:Loop)={ rec with state:=.busy }:=by
        have:rec.pending=none:=p3
        cases rec;simp_all [AP9,UU]
       rw[hrec]at p5;have hlt1:id<S1.st.length:=zI h0 k1.2
       have hrel2:MZ [] w m φ nt stl.length ⟨S1.env,setSt S1.st id (some (.loop R1 cs1 .busy))⟩ a1 (w1.putObj b (.loop { rec with state:=.busy })):=by
        refine⟨?_,by simp only[K9];exact k1.2⟩;simp only[K9];rw[KA _ _ _ hlt1];exact p5
       refine wpIn_mono (bW (ρ:=some b) hS.ctx ih (hS.draw _ ih) hid n R.body _ S e [] _ _ u4.2.1 (.inr u4.2.2.2) hx hrel2) ?_;rintro e' a2 w2 ⟨rfl,ds2,k2,_⟩;have fin:=UJ (C:=C) hid q1 h0 k2 h
       cases e with
       | normal=>exact fin none rfl
       | exit k=>exact fin (some (.exit k)) rfl
       | ret=>exact fin (some .ret) rfl
      ·cases hx
     ·cases hx
    ·cases h
   ·cases h
theorem aY (hS:SoundOk C):CallOk C (aH C):=by
 constructor
 ·intro g args stl p hg h;obtain⟨N,hN⟩:=(mI _).1 h;exact(sI hS N).name g args stl p hg hN
 ·intro g args stl r stl' hg h;obtain⟨N,hN⟩:=(mI _).1 h;exact(sI hS N).calls g args stl r stl' hg hN
 ·intro args stl r stl' h;obtain⟨N,hN⟩:=(mI _).1 h;exact(sI hS N).rounds args stl r stl' hN
end
abbrev Upd:=List (Nat×Option Blk)
def fO:Upd→Store→Store
 | [],st=>st
 | p::U,st=>upd (fO U st) p.1 p.2
theorem sP:∀ (U V:Upd) (st:Store),fO (U++V) st=fO U (fO V st)
 | [],_,_=>rfl
 | p::U,V,st=>by simp[fO,sP U V st]
theorem iQ:∀ {U:Upd} {st:Store} {i:Nat},(∀ p∈U,p.1≠i)→fO U st i=st i
 | [],_,_,_=>rfl
 | p::U,st,i,h=>by
  simp only[fO,upd];rw[if_neg (fun e=>h p (by simp) e.symm)];exact iQ fun q hq=>h q (by simp[hq])
theorem sO:∀ (U:Upd) {st st':Store} {i:Nat},st' i=st i→fO U st' i=fO U st i
 | [],_,_,_,h=>h
 | p::U,st,st',i,h=>by
  simp only[fO,upd];split
  ·rfl
  ·exact sO U h
theorem ZM {U V:Upd} (h:∀ p∈U,∀ q∈V,p.1≠q.1) (st:Store):fO U (fO V st)=fO V (fO U st):=by
 funext i;by_cases hu:∃ p∈U,p.1=i
 ·obtain⟨p,hp,rfl⟩:=hu;have hv:∀ q∈V,q.1≠p.1:=fun q hq e=>h p hp q hq e.symm
  rw[iQ hv];exact sO U (iQ hv)
 ·have hu':∀ p∈U,p.1≠i:=fun p hp e=>hu ⟨p,hp,e⟩
  rw[iQ hu'];exact(sO V (iQ hu')).symm
def Agree (ts:List Nat) (st st':Store):Prop:=∀ i∈ts,st' i=st i
def Clo (ts:List Nat) (st:Store):Prop:=∀ i∈ts,∀ j∈iL (st i),j∈ts
theorem Agree.apply {ts:List Nat} {st st':Store} (h:Agree ts st st') (U:Upd):Agree ts (fO U st) (fO U st'):=fun i hi=>sO U (h i hi)
theorem Clo.agree {ts:List Nat} {st st':Store} (h:Clo ts st) (k:Agree ts st st'):Clo ts st':=fun i hi j hj=>by
 rw[k i hi]at hj;exact h i hi j hj
theorem Agree.symm {ts:List Nat} {st st':Store} (h:Agree ts st st'):Agree ts st' st:=fun i hi=>(h i hi).symm
def Loc {α:Type} (ts:List Nat) (ex:Nat→Prop) (F:Store→Option (α×Store)) (st:Store) (a:α) (s1:Store):Prop :=
 ∃ U:Upd,(∀ p∈U,ex p.1)∧s1=fO U st∧∀ st',Agree ts st st'→F st'=some (a,fO U st')
theorem Loc.mono {α:Type} {ts:List Nat} {ex ex':Nat→Prop} {F:Store→Option (α×Store)} {st s1:Store} {a:α} (h:Loc ts ex F st a s1) (hx:∀ i,ex i→ex' i):Loc ts ex' F st a s1:=by
 obtain⟨U,h1,h2,h3⟩:=h;exact⟨U,fun p hp=>hx _ (h1 p hp),h2,h3⟩
theorem Loc.seq {α β:Type} {ts:List Nat} {ex:Nat→Prop} {F:Store→Option (α×Store)} {H:Store→Option (β×Store)} {F2:α→Store→Option (β×Store)} {st s1 s2:Store} {a:α} {b:β}
 (h:Loc ts ex F st a s1) (h2:Loc ts ex (F2 a) s1 b s2)
 (hs:∀ st' s r,F st'=some (a,s)→F2 a s=some r→H st'=some r):Loc ts ex H st b s2:=by
 obtain⟨U,h3,h4,h5⟩:=h;obtain⟨V,k3,k4,k5⟩:=h2;refine⟨V++U,fun p hp=>?_,by rw[sP,k4,h4],fun st' ha=>?_⟩
 ·rcases zV.1 hp with hp|hp
  ·exact k3 p hp
  ·exact h3 p hp
 ·rw[sP];refine hs st' _ _ (h5 st' ha) (k5 _ ?_);rw[h4];exact ha.apply U
theorem Loc.here {α:Type} {ts:List Nat} {ex:Nat→Prop} {F:Store→Option (α×Store)} {st:Store} {a:α} (h:∀ st',Agree ts st st'→F st'=some (a,st')):Loc ts ex F st a st :=
 ⟨[],by simp,rfl,h⟩
theorem Loc.one {α:Type} {ts:List Nat} {ex:Nat→Prop} {F:Store→Option (α×Store)} {st:Store} {a:α} {i:Nat} {b:Option Blk} (hi:ex i) (h:∀ st',Agree ts st st'→F st'=some (a,upd st' i b)):Loc ts ex F st a (upd st i b) :=
 ⟨[(i,b)],by simpa using hi,rfl,h⟩
theorem AII {id k off len:Nat} {o:Option Blk} {iv:IV} {us:Ups} (h:wJ id k off len o=some (iv,us)):∀ p∈us,p.1=id∧iL (some p.2)=[]:=by
 unfold wJ at h;split at h
 ·obtain⟨_,h2⟩:=aQ.1 h;injection h2 with h2;injection h2 with h2 h3;subst h3;intro p hp;simp at hp;subst hp;exact⟨rfl,rfl⟩
 ·obtain⟨_,h2⟩:=aQ.1 h;injection h2 with h2;injection h2 with h2 h3;subst h3;simp
 ·cases h
mutual
theorem YQ {ts:List Nat} {st st':Store} (hc:Clo ts st) (ha:Agree ts st st'):∀ (n:Nat) (v:AV) {r:IV×Ups},(∀ i∈dE v,i∈ts)→frz st n v=some r→frz st' n v=some r∧∀ p∈r.2,p.1∈ts∧iL (some p.2)=[]
 | 0,_,_,_,h=>by simp[frz]at h
 | n+1,v,r,hv,h=>by
  cases v with
  | junk=>simp[frz]at h
  | tup=>simp[frz]at h
  | fn=>simp[frz]at h
  | ownE=>simp[frz]at h
  | i v=>simp[frz]at h ⊢;subst h;simp
  | nils=>simp[frz]at h ⊢;subst h;simp
  | osl id k off len =>
   simp only[frz]at h ⊢;have hm:=hv id (by simp[dE]);rw[ha id hm];refine⟨h,fun p hp=>?_⟩;obtain⟨h1,h2⟩:=AII (show wJ id k off len (st id)=some (r.1,r.2)from h) p hp;exact⟨h1 ▸ hm,h2⟩
  | own id off =>
   simp only[frz]at h ⊢;have hm:=hv id (by simp[dE]);rw[ha id hm];exact AMY hc ha n id off hm h
  | agg cs =>
   simp only[frz]at h ⊢;obtain⟨p,h1,h2⟩:=aI.1 h;obtain⟨k1,k2⟩:=R5 hc ha n cs (fun i hi=>hv i (by simpa [dE]using hi)) h1;injection h2 with h2;subst h2;exact⟨by rw[k1];rfl,k2⟩
theorem AMY {ts:List Nat} {st st':Store} (hc:Clo ts st) (ha:Agree ts st st'):∀ (n id off:Nat) {r:IV×Ups},id∈ts→EN st n id off (st id)=some r→EN st' n id off (st id)=some r∧∀ p∈r.2,p.1∈ts∧iL (some p.2)=[]
 | 0,_,_,_,_,h=>by simp[EN]at h
 | n+1,id,off,r,hm,h=>by
  cases hst:st id with
  | none=>rw[hst]at h;simp[EN]at h
  | some blk =>
   rw[hst]at h
   cases blk with
   | arr=>simp[EN]at h
   | frz=>simp[EN]at h
   | tre=>simp[EN]at h
   | loop=>simp[EN]at h
   | fbox l =>
    simp only[EN]at h ⊢;obtain⟨h1,h2⟩:=aQ.1 h;injection h2 with h2;subst h2;exact⟨h,by simp⟩
   | box cs =>
    simp only[EN]at h ⊢;obtain⟨p,h1,h2⟩:=aI.1 h;obtain⟨h3,h4⟩:=aQ.1 h2;injection h4 with h4;subst h4;obtain⟨k1,k2⟩:=R5 hc ha n cs (fun i hi=>hc id hm i (by rw[hst];simpa [iL]using hi)) h1;refine⟨by rw[k1];simp only[dO];rw[h3];rfl,?_⟩;intro q hq
    rcases zS.1 hq with rfl|hq
    ·exact⟨hm,rfl⟩
    ·exact k2 q hq
theorem R5 {ts:List Nat} {st st':Store} (hc:Clo ts st) (ha:Agree ts st st'):∀ (n:Nat) (cs:List AV) {r:List IV×Ups},(∀ i∈bC cs,i∈ts)→IW st n cs=some r→IW st' n cs=some r∧∀ p∈r.2,p.1∈ts∧iL (some p.2)=[]
 | _,[],r,_,h=>by simp[IW]at h ⊢;subst h;simp
 | 0,_::_,_,_,h=>by simp[IW]at h
 | n+1,c::cs,r,hv,h=>by
  simp only[IW]at h ⊢;obtain⟨p,h1,h2⟩:=aI.1 h;obtain⟨q,h3,h4⟩:=aI.1 h2;injection h4 with h4;subst h4;obtain⟨k1,k2⟩:=YQ hc ha n c (fun i hi=>hv i (by simp[bC,hi])) h1;obtain⟨k3,k4⟩:=R5 hc ha n cs (fun i hi=>hv i (by simp[bC,hi])) h3;refine⟨by rw[k1,dO,k3];rfl,?_⟩;intro u hu
  rcases zV.1 hu with hu|hu
  ·exact k2 u hu
  ·exact k4 u hu
end
def AQA (us:Ups):Upd:=us.map fun p=>(p.1,some p.2)
theorem uQ:∀ (us:Ups) (st:Store),iM st us=fO (AQA us) st
 | [],_=>rfl
 | p::us,st=>by simp[iM,AQA,fO,uQ us st]
def T9 {α:Type} (ts:List Nat) (F:Store→Option (α×Store)) (st:Store) (a:α) (s1:Store):Prop:=Loc ts (fun i=>i∈ts) F st a s1∧Clo ts s1
theorem GD {ts:List Nat}:∀ {U:Upd} {st:Store},Clo ts st→(∀ p∈U,iL p.2=[])→Clo ts (fO U st)
 | [],_,h,_=>h
 | p::U,st,h,hU=>by
  have ih:=GD (U:=U) h fun q hq=>hU q (by simp[hq])
  intro i hi j hj;simp only[fO,upd]at hj;split at hj
  ·rw[hU p (by simp)]at hj;cases hj
  ·exact ih i hi j hj
theorem AB3 {ts:List Nat} {st s1:Store} (hc:Clo ts st) {v:AV} {iv:IV} (hv:∀ i∈dE v,i∈ts) (h:rV st v=some (iv,s1)):T9 ts (fun s=>rV s v) st iv s1:=by
 have key:∀ v,(∀ i∈dE v,i∈ts)→(bnd (frz st BG v) fun p=>some (p.1,iM st p.2))=some (iv,s1)→(∀ s,rV s v=bnd (frz s BG v) fun p=>some (p.1,iM s p.2))→T9 ts (fun s=>rV s v) st iv s1:=by
  intro v hv h he;obtain⟨p,h1,h2⟩:=aI.1 h;injection h2 with h2;injection h2 with h2 h3;subst h2;subst h3;obtain⟨_,k2⟩:=YQ hc (fun i _=>rfl:Agree ts st st) BG v hv h1;rw[uQ];refine⟨⟨AQA p.2,?_,rfl,?_⟩,GD hc ?_⟩
  ·intro q hq;obtain⟨u,hu,rfl⟩:=yI.1 hq;exact(k2 u hu).1
  ·intro st' ha;obtain⟨k1,_⟩:=YQ hc ha BG v hv h1;simp only;rw[he,k1,dO,uQ]
  ·intro q hq;obtain⟨u,hu,rfl⟩:=yI.1 hq;exact(k2 u hu).2
 cases v with
 | i v =>
  simp only[rV,Option.some.injEq,Prod.mk.injEq]at h;obtain⟨rfl,rfl⟩:=h;exact⟨.here fun _ _=>rfl,hc⟩
 | _=>exact key _ hv h fun _=>rfl
theorem T9.seq {α β:Type} {ts:List Nat} {F:Store→Option (α×Store)} {H:Store→Option (β×Store)} {F2:Store→Option (β×Store)} {st s1 s2:Store} {a:α} {b:β}
 (h:T9 ts F st a s1) (h2:T9 ts F2 s1 b s2) (hs:∀ st' s r,F st'=some (a,s)→F2 s=some r→H st'=some r):T9 ts H st b s2 :=
 ⟨h.1.seq (F2:=fun _=>F2) h2.1 hs,h2.2⟩
theorem T9.map {α β:Type} {ts:List Nat} {F:Store→Option (α×Store)} {H:Store→Option (β×Store)} {st s1:Store} {a:α} {b:β}
 (h:T9 ts F st a s1) (hs:∀ st' s,F st'=some (a,s)→H st'=some (b,s)):T9 ts H st b s1:=by
 obtain⟨⟨U,h1,h2,h3⟩,h4⟩:=h;exact⟨⟨U,h1,h2,fun st' ha=>hs _ _ (h3 st' ha)⟩,h4⟩
theorem M0 {ts:List Nat}:∀ {cs:List AV} {st s1:Store} {l:List IV},Clo ts st→(∀ i∈bC cs,i∈ts)→oH st cs=some (l,s1)→T9 ts (fun s=>oH s cs) st l s1
 | [],st,s1,l,hc,_,h=>by
  simp[oH]at h;obtain⟨rfl,rfl⟩:=h;exact⟨.here fun _ _=>rfl,hc⟩
 | c::cs,st,s1,l,hc,hv,h=>by
  simp only[oH]at h;obtain⟨p,h1,h2⟩:=aI.1 h;obtain⟨q,h3,h4⟩:=aI.1 h2;injection h4 with h4;injection h4 with h4 h5;subst h4;subst h5;have k1:=AB3 hc (fun i hi=>hv i (by simp[bC,hi])) (show rV st c=some (p.1,p.2)from h1);have k2:=M0 k1.2 (fun i hi=>hv i (by simp[bC,hi])) (show oH p.2 cs=some (q.1,q.2)from h3);refine k1.seq (k2.map (H:=fun s=>bnd (oH s cs) fun q=>some (p.1::q.1,q.2)) fun st' s e=>?_) fun st' s r e1 e2=>?_
  ·show bnd (oH st' cs) _=_;rw[show oH st' cs=_ from e];rfl
  ·simp only[oH]at e1 e2 ⊢;rw[e1];exact e2
theorem IC {ts:List Nat}:∀ {ps:List (Nat×List AV)} {st s1:Store} {l:List (Nat×List IV)},Clo ts st→(∀ p∈ps,∀ i∈bC p.2,i∈ts)→eZ st ps=some (l,s1)→T9 ts (fun s=>eZ s ps) st l s1
 | [],st,s1,l,hc,_,h=>by
  simp[eZ]at h;obtain⟨rfl,rfl⟩:=h;exact⟨.here fun _ _=>rfl,hc⟩
 | c::cs,st,s1,l,hc,hv,h=>by
  simp only[eZ]at h;obtain⟨p,h1,h2⟩:=aI.1 h;obtain⟨q,h3,h4⟩:=aI.1 h2;injection h4 with h4;injection h4 with h4 h5;subst h4;subst h5;have k1:=M0 hc (fun i hi=>hv c (by simp) i hi) (show oH st c.2=some (p.1,p.2)from h1);have k2:=IC k1.2 (fun d hd i hi=>hv d (by simp[hd]) i hi) (show eZ p.2 cs=some (q.1,q.2)from h3);refine k1.seq (k2.map (H:=fun s=>bnd (eZ s cs) fun q=>some ((c.1,p.1)::q.1,q.2)) fun st' s e=>?_) fun st' s r e1 e2=>?_
  ·show bnd (eZ st' cs) _=_;rw[show eZ st' cs=_ from e];rfl
  ·simp only[eZ]at e1 e2 ⊢;rw[e1];exact e2
theorem AEQ {ts:List Nat} {st s1:Store} (hc:Clo ts st) {v u:AV} (hv:∀ i∈dE v,i∈ts) (h:jC st v=some (u,s1)):T9 ts (fun s=>jC s v) st u s1∧∀ i∈dE u,i∈ts:=by
 have key:∀ v,(∀ i∈dE v,i∈ts)→(bnd (rV st v) fun p=>some (AV.i p.1,p.2))=some (u,s1)→(∀ s,jC s v=bnd (rV s v) fun p=>some (AV.i p.1,p.2))→T9 ts (fun s=>jC s v) st u s1∧∀ i∈dE u,i∈ts:=by
  intro v hv h he;obtain⟨p,h1,h2⟩:=aI.1 h;injection h2 with h2;injection h2 with h2 h3;subst h2;subst h3;refine⟨(AB3 hc hv (show rV st v=some (p.1,p.2)from h1)).map fun st' s e=>?_,by simp[dE]⟩;show jC st' v=_;rw[he,show rV st' v=_ from e];rfl
 cases v with
 | i v =>
  simp only[jC,Option.some.injEq,Prod.mk.injEq]at h;obtain⟨rfl,rfl⟩:=h;exact⟨⟨.here fun _ _=>rfl,hc⟩,hv⟩
 | fn f cs =>
  simp only[jC,Option.some.injEq,Prod.mk.injEq]at h;obtain⟨rfl,rfl⟩:=h;exact⟨⟨.here fun _ _=>rfl,hc⟩,hv⟩
 | _=>exact key _ hv h fun _=>rfl
theorem MR {ts:List Nat}:∀ {cs us:List AV} {st s1:Store},Clo ts st→(∀ i∈bC cs,i∈ts)→gL st cs=some (us,s1)→T9 ts (fun s=>gL s cs) st us s1∧∀ i∈bC us,i∈ts
 | [],us,st,s1,hc,_,h=>by
  simp[gL]at h;obtain⟨rfl,rfl⟩:=h;exact⟨⟨.here fun _ _=>rfl,hc⟩,by simp[bC]⟩
 | c::cs,us,st,s1,hc,hv,h=>by
  simp only[gL]at h;obtain⟨p,h1,h2⟩:=aI.1 h;obtain⟨q,h3,h4⟩:=aI.1 h2;injection h4 with h4;injection h4 with h4 h5;subst h4;subst h5;obtain⟨k1,j1⟩:=AEQ hc (fun i hi=>hv i (by simp[bC,hi])) (show jC st c=some (p.1,p.2)from h1);obtain⟨k2,j2⟩:=MR k1.2 (fun i hi=>hv i (by simp[bC,hi])) (show gL p.2 cs=some (q.1,q.2)from h3);refine⟨k1.seq (k2.map (H:=fun s=>bnd (gL s cs) fun q=>some (p.1::q.1,q.2)) fun st' s e=>?_) fun st' s r e1 e2=>?_,?_⟩
  ·show bnd (gL st' cs) _=_;rw[show gL st' cs=_ from e];rfl
  ·simp only[gL]at e1 e2 ⊢;rw[e1];exact e2
  ·intro i hi;simp only[bC,zV]at hi;exact hi.elim (j1 i) (j2 i)
end Go.Av

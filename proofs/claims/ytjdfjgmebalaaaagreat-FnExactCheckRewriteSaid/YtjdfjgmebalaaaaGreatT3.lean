/- Part 3 of what the proof rests on: the executor and what it is worth, and the program's functions as it runs them. No condition. -/
import Derived.Test.YtjdfjgmebalaaaaGreatT2
import Derived.Test.YtjdfjgmebalaaaaGreatProg
import Derived.KernelRfl
set_option linter.unusedVariables false
set_option linter.unusedSimpArgs false
namespace Go.Av
def iZ:Blk→Prop
 | .box cs=>∀ c∈cs,(∃ v,c=.i v)∨c=.nils
 | .loop _ _ _=>False
 | _=>True
theorem RepC.tree {m:Mem} {φ φ':Pl}:∀ {cs:List AV} {vs:List Value},(∀ c∈cs,(∃ v,c=.i v)∨c=.nils)→RepC m φ cs vs→RepC m φ' cs vs
 | [],_,_, .nil=>.nil
 | c::cs,_,h, .cons a o r=>by
  have hr:=RepC.tree (m:=m) (φ':=φ') (fun d hd=>h d (by simp[hd])) r
  rcases h c (by simp)with ⟨v,rfl⟩|rfl
  ·cases a with|i a=>exact .cons (.i a) o hr
  ·cases a;exact .cons .nils o hr
theorem BlkOk.tree {w:World} {m:Mem} {φ φ':Pl} {b:Nat} {n:Ext} {blk:Blk} (hl:iZ blk) (h:BlkOk w m φ b n blk):BlkOk w m φ' b n blk:=by
 cases h with
 | box h1 h2 h3 h4=>exact .box h1 h2 (h3.tree hl) h4
 | arr h1 h2 h3 h4 h5 h6 h7 h8 h9=>exact .arr h1 h2 h3 h4 h5 h6 h7 h8 h9
 | frz h1 h2=>exact .frz h1 h2
 | fbox h1=>exact .fbox h1
 | tre h1 h2 h3 h4 h5 h6 h7 h8 h9 h10=>exact .tre h1 h2 h3 h4 h5 h6 h7 h8 h9 h10
 | loop=>cases hl
theorem Inv.APG {w:World} {m:Mem} {φ:Pl} {st st':Store} (hi:Inv w m φ st) (hst:∀ i blk,st' i=some blk→st i=some blk∧iZ blk):Inv w m (sU st' φ) st':=by
 refine⟨hi.mem,?_,?_,fun i b n f e ho=>hi.low i b n f (dJ e).1 ho⟩
 ·intro i blk hb;obtain⟨h1,h2⟩:=hst i blk hb;obtain⟨b,n,q1,q2,q3⟩:=hi.live i blk h1;exact⟨b,n,by rw[mG (by rw[hb];simp)];exact q1,q2,q3.tree h2⟩
 ·intro i j b bx n n2 b1 b2 f h1 h2 h3 h4 o1 o2;exact hi.inj i j b bx n n2 b1 b2 f (hst i b1 h1).1 (hst j b2 h2).1 (dJ h3).1 (dJ h4).1 o1 o2
theorem uH {w:World} {m:Mem} {φ:Pl} {st st':Store} {id b f:Nat} {n:Ext} {blk:Blk} (hi:Inv w m φ st) (hst:∀ i blk,st' i=some blk→st i=some blk) (hid:st id=some blk) (hn:st' id=none) (e:φ id=some (b,n)) (ho:n.own f):jN (sU st' φ) f:=by
 intro i r n' e' ho';obtain⟨h1,h2⟩:=dJ e'
 cases hb:st' i with
 | none=>exact h2 hb
 | some blk' =>
  have:=hi.inj i id r b n' n blk' blk f (hst i blk' hb) hid h1 e ho' ho;rw[this,hn]at hb;cases hb
def lX (st':Store):AV→Prop
 | .i _=>True
 | .own id _=>st' id≠none
 | .osl id _ _ _=>st' id≠none
 | .nils=>True
 | _=>False
theorem lX.rep {m:Mem} {φ φ':Pl} {st':Store} {v:AV} {x:Value} (h:lX st' v) (he:∀ i,st' i≠none→φ' i=φ i) (hr:Rep m φ v x):Rep m φ' v x:=by
 unfold lX at h;split at h
 ·cases hr with|i k=>exact .i k
 ·cases hr with
  | own e=>exact .own (by rw[he _ h];exact e)
 ·cases hr with
  | osl e a b c d=>exact .osl (by rw[he _ h];exact e) a b c d
 ·cases hr;exact .nils
 ·cases h
theorem Inv.ALR {w w':World} {m m':Mem} {φ:Pl} {st:Store} (hi:Inv w m φ st) (ha:Adv w m (fun _=>none) w' m' (fun _=>none)) (hm:lD w' m'):Inv w' m' φ st∧Adv w m φ w' m' φ:=by
 have hb:∀ f,f<w.heap.size→w'.heap[f]?=w.heap[f]?:=fun f hf=>ha.block f hf fun _ _ _ e=>by cases e
 have hn:∀ f,f<w.heap.size→∀ o,m' f o=m f o:=fun f hf=>ha.mnew f hf fun _ _ _ e=>by cases e
 refine⟨⟨hm,fun id blk e=>?_,hi.inj,fun id b n f e ho=>zH (hi.low id b n f e ho) ha.size⟩,⟨ha.size,ha.os,ha.tape,ha.output,fun b hb' _=>hb b hb',ha.mle,fun b hb' _=>hn b hb', .refl _,fun _ _ _ _ e ho=>.inr (jN.not e ho)⟩⟩;obtain⟨b,n,k1,k2,k3⟩:=hi.live id blk e;exact⟨b,n,k1,⟨k2.1,fun f hf=>zH (k2.2 f hf) ha.size⟩,k3.mono k2.1 (fun f hf=>hb f (k2.2 f hf)) ha.mle (.refl _) fun f hf=>hn f (k2.2 f hf)⟩
structure CPY (wi:World) (p:Pn) (F:List Nat) (v0 v1 v2 v3 v4:Value) (w:World) (m:Mem) (φ:Pl):Prop where
 th:∀ {w':World} {m':Mem} {b o:Nat},MLe m m'→(∀ f∈F,∀ j,w'.cell? ⟨f,j,none⟩=w.cell? ⟨f,j,none⟩)→At5 w' b o v0 v1 v2 v3 v4→TH w' m' p b o F []
 cells:∀ {m':Mem},MLe m m'→(∀ f∈F,∀ j,m' f j=w.cell? ⟨f,j,none⟩)→ICells m' p.cells [v0,v1,v2,v3,v4]
 nd:F.Nodup
 all:∀ f∈F,wi.heap.size≤f∧f<w.heap.size∧jN φ f∧(∀ o,m f o=none)∧∃ (vs:List Value) (T:TypeId),w.heap[f]?=some (.cells vs.toArray T (0,0))∧∀ v∈vs,v.oneCell'=true
theorem CPY.KN (wi:World) (p:Pn) (F:List Nat) (v0 v1 v2 v3 v4:Value):ABD (CPY wi p F v0 v1 v2 v3 v4):=by
 intro w m φ w' m' φ' ha h;have hs:∀ f∈F,w'.heap[f]?=w.heap[f]?:=fun f hf=>ha.block f (h.all f hf).2.1 (h.all f hf).2.2.1
 refine⟨fun hm hw h5=>h.th (ha.mle.trans hm) (fun f hf j=>(hw f hf j).trans (gZ (hs f hf) j)) h5,fun hm hw=>h.cells (ha.mle.trans hm) fun f hf j=>(hw f hf j).trans (gZ (hs f hf) j),h.nd,fun f hf=>?_⟩;obtain⟨k1,k2,k3,k4,vs,T,k5,k6⟩:=h.all f hf;exact⟨k1,zH k2 ha.size,ha.range k2 k3,fun o=>(ha.mnew f k2 k3 o).trans (k4 o),vs,T,by rw[hs f hf];exact k5,k6⟩
theorem TH.cells {w:World} {m:Mem} {x:Pn} {b o:Nat} {F:List Nat} (h:TH w m x b o F []):∃ v0 v1 v2 v3 v4,At5 w b o v0 v1 v2 v3 v4∧(∀ v∈[v0,v1,v2,v3,v4],v.oneCell'=true)∧(∃ ao cap,v4=.slice ao x.kids.length cap)∧(∀ {w':World} {m':Mem} {b' o':Nat},MLe m m'→(∀ f∈F,∀ j,w'.cell? ⟨f,j,none⟩=w.cell? ⟨f,j,none⟩)→At5 w' b' o' v0 v1 v2 v3 v4→TH w' m' x b' o' F []) ∧
 ∀ {m':Mem},MLe m m'→(∀ f∈F,∀ j,m' f j=w.cell? ⟨f,j,none⟩)→ICells m' x.cells [v0,v1,v2,v3,v4]:=by
 have o2:∀ {m:Mem} es v,IRep m (.isl es) v→v.oneCell'=true:=fun es v h=>by cases h<;>rfl
 generalize hH:([]:PL)=H at h
 cases h with
 | fresh=>cases hH
 | leaf h1 h2 h3 h4 =>
  refine⟨_,_,_,_,_,h1,(by intro v hv;simp only[zQ,List.not_mem_nil,or_false]at hv;rcases hv with rfl|rfl|rfl|rfl|rfl<;>first|rfl|exact o2 _ _ h2|exact o2 _ _ h3),⟨_,_,rfl⟩,fun hm _ h5=>.leaf h5 (h2.mono hm) (h3.mono hm) h4,fun hm _=>?_⟩;rw[Pn.dP];exact .cons (.lit _) rfl (.cons (.lit _) rfl (.cons (h2.mono hm) (o2 _ _ h2) (.cons (h3.mono hm) (o2 _ _ h3) (.cons (.isl0 _ _ h4) rfl .nil))))
 | @node k t es cs ks _ _ b' cap vE vC F1 _ h1 h2 h3 h4 h5 h6 =>
  subst hH;refine⟨_,_,_,_,_,h1,(by intro v hv;simp only[zQ,List.not_mem_nil,or_false]at hv;rcases hv with rfl|rfl|rfl|rfl|rfl<;>first|rfl|exact o2 _ _ h2|exact o2 _ _ h3),⟨_,_,rfl⟩,fun hm hF k5=>.node k5 (h2.mono hm) (h3.mono hm) h4 h5 (h6.frame hm (fun j _ _=>hF _ (by simp) j) fun f hf=>hF f (by simp[hf])),fun hm hF=>?_⟩;rw[Pn.dP];have he:=THL.AOX hm h6 (fun j _ _=>hF b' (by simp) j) (fun f hf=>hF f (by simp[hf]));have hl:(Pn.aB ks).length=ks.length:=by simp
  have hn:Pn.aB ks≠[]:=fun e=>by rw[e]at hl;simp at hl;exact h4 (zX.1 hl.symm)
  have hk:=IRep.isl (cap:=cap) hn he (by omega);rw[hl]at hk;exact .cons (.lit _) rfl (.cons (.lit _) rfl (.cons (h2.mono hm) (o2 _ _ h2) (.cons (h3.mono hm) (o2 _ _ h3) (.cons hk rfl .nil))))
structure RAT (wi:World) (root:Nat) (p:Pn) (F:List Nat) (path:List Int) (y:Pn) (bq oq:Nat) (Fa Fy Fz:List Nat) (w:World) (m:Mem) (φ:Pl):Prop where
 raw:RAW wi root p F [] w m φ
 pos:AtP w m p root 0 F path y bq oq Fa Fy Fz
theorem RAT.KN (wi:World) (root:Nat) (p:Pn) (F:List Nat) (path:List Int) (y:Pn) (bq oq:Nat) (Fa Fy Fz:List Nat):ABD (RAT wi root p F path y bq oq Fa Fy Fz):=by
 intro w m φ w' m' φ' ha h;exact⟨RAW.KN wi root p F [] w m φ w' m' φ' ha h.raw,h.pos.frame ha.mle fun f hf j=>gZ (ha.block f (h.raw.all f hf).2.1 (h.raw.all f hf).2.2.1) j⟩
structure ADK (wi:World) (root:Nat) (p:Pn) (F:List Nat) (path:List Int) (y:Pn) (bq oq:Nat) (Fa Fy Fz:List Nat) (k:Nat) (wa:World) (ma:Mem) (w:World) (m:Mem) (φ:Pl):Prop where
 pos:AtP wa ma p root 0 F path y bq oq Fa Fy Fz
 le:MLe ma m
 own:∃ n,φ k=some (bq,n)
 bqn:wi.heap.size≤bq
 oth:∀ f∈root::F,f≠bq→wi.heap.size≤f∧f<w.heap.size∧jN φ f∧(∀ o,m f o=none)∧w.heap[f]?=wa.heap[f]?∧∃ (vs:List Value) (T:TypeId),wa.heap[f]?=some (.cells vs.toArray T (0,0))∧∀ v∈vs,v.oneCell'=true
theorem ADK.KN (wi:World) (root:Nat) (p:Pn) (F:List Nat) (path:List Int) (y:Pn) (bq oq:Nat) (Fa Fy Fz:List Nat) (k:Nat) (wa:World) (ma:Mem):ABD (ADK wi root p F path y bq oq Fa Fy Fz k wa ma):=by
 intro w m φ w' m' φ' ha h;refine⟨h.pos,h.le.trans ha.mle,?_,h.bqn,fun f hf hne=>?_⟩
 ·obtain⟨n,e⟩:=h.own;obtain⟨n',e',_⟩:=ha.ple _ _ _ e;exact⟨n',e'⟩
 ·obtain⟨k1,k2,k3,k4,k5,k6⟩:=h.oth f hf hne;exact⟨k1,zH k2 ha.size,ha.range k2 k3,fun o=>(ha.mnew f k2 k3 o).trans (k4 o),(ha.block f k2 k3).trans k5,k6⟩
def KH (wi:World) (mi:Mem) (p:Pn) (e:Ending) (w:World):Prop :=
 ∃ v0 v1 v2 v3 v4 F m,e=.returned (.agg #[v0,v1,v2,v3,v4])∧(∀ v∈[v0,v1,v2,v3,v4],v.oneCell'=true)∧lD w m∧Adv wi mi (fun _=>none) w m (fun _=>none)∧CPY wi p F v0 v1 v2 v3 v4 w m (fun _=>none)
theorem KH.tree {wi:World} {mi:Mem} {p:Pn} {e:Ending} {w:World} (h:KH wi mi p e w):bR wi mi (fun _=>none) (.i (.agg p.cells)) [] e w:=by
 classical
 obtain⟨v0,v1,v2,v3,v4,F,m,rfl,hone,hm,ha,hc⟩:=h
 let m':Mem:=fun f o=>if f∈F then w.cell? ⟨f,o,none⟩else m f o
 have hin:∀ f,f∈F→∀ o,m' f o=w.cell? ⟨f,o,none⟩:=fun f hf o=>by show(if f∈F then _ else _)=_;rw[if_pos hf]
 have hout:∀ f,f ∉ F→∀ o,m' f o=m f o:=fun f hf o=>by show(if f∈F then _ else _)=_;rw[if_neg hf]
 have hle:MLe m m':=fun f o v e=>by
  by_cases hf:f∈F
  ·rw[(hc.all f hf).2.2.2.1 o]at e;cases e
  ·rw[hout f hf];exact e
 have hmem:lD w m':=fun f o v e=>by
  by_cases hf:f∈F
  ·rw[hin f hf]at e;exact e
  ·rw[hout f hf]at e;exact hm f o v e
 refine⟨_,m',fun _=>none,rfl, .i (.agg (hc.cells hle hin)),⟨hmem,fun id blk e=>by simp[bD]at e,fun id id' b b' n n' blk blk' f e=>by simp[bD]at e,fun _ _ _ _ e=>by cases e⟩,⟨ha.size,ha.os,ha.tape,ha.output,ha.block,ha.mle.trans hle,fun f hf hfr o=>?_, .refl _,fun _ _ _ _ e=>by cases e⟩,fun id h=>absurd rfl h⟩;rw[hout f (fun hf'=>by have:=(hc.all f hf').1;omega)];exact ha.mnew f hf hfr o
section
variable {C:Ctx} {wi:World} {mi:Mem} {nt:Nat}
theorem GR.ops (hS:SoundOk C) {ops:Array Oper} {Q:Exit→Act→World→Prop} {base:Nat} {js:List Nat} {R:World→Mem→Pl→Prop} (hR:ABD R) (hs:ops.all (jH nt)=true) {os:List Oper} {i:Nat} {R0 R1:RS} {a:Act} {w:World} (hl:∀ j,j<os.length→os[j]?=ops[i+j]?) (hx:cZ C (aI C) ops.toList false base os i R0=some R1)
 (h:GR wi mi nt (F6 base fun j=>j<i) R R0.env R0.st a w) (hQ:∀ a' w',GR wi mi nt (F6 base fun j=>j<i+os.length) R R1.env R1.st a' w'→wpOpsIn (FR none) 0 C.P ops Q js a' w'):wpOpsIn (FR none) 0 C.P ops Q (List.range' i os.length++js) a w:=by
 obtain⟨⟨m,φ,h1,h2,h3,h4,h5⟩,h6,h7⟩:=h;refine jX hS.ctx (bF hS) (fun o ho=>yC.1 hs o ho) os i R0 R1 a w hl hx ⟨⟨m,φ,h1,h2, .refl _ _ _,h4, .nil _ _ _⟩,h6,h7⟩ fun a' w' k=>hQ a' w' ?_
 obtain⟨⟨m',φ',k1,k2,k3,k4,_⟩,k5,k6⟩:=k;exact⟨⟨m',φ',k1,k2,h3.trans k3,k4,hR _ _ _ _ _ _ k3 h5⟩,k5,k6⟩
theorem GR.AN7 (hS:SoundOk C) {ops:Array Oper} {Q:Exit→Act→World→Prop} {base:Nat} {js:List Nat} {R:World→Mem→Pl→Prop} (hR:ABD R) (i k:Nat) (hk:decide (i+k≤ops.toList.length)=true) (hs:ops.all (jH nt)=true) {R0 R1:RS} {a:Act} {w:World} (hx:cZ C (aI C) ops.toList false base ((ops.toList.drop i).take k) i R0=some R1)
 (h:GR wi mi nt (F6 base fun j=>j<i) R R0.env R0.st a w) (hQ:∀ a' w',GR wi mi nt (F6 base fun j=>j<i+k) R R1.env R1.st a' w'→wpOpsIn (FR none) 0 C.P ops Q js a' w'):wpOpsIn (FR none) 0 C.P ops Q (List.range' i k++js) a w:=by
 have hk:=zS hk;have hl:((ops.toList.drop i).take k).length=k:=by rw[yM,xS];omega
 have:=GR.ops (js:=js) hS hR hs (os:=(ops.toList.drop i).take k) (i:=i) (fun j hj=>by
  rw[hl]at hj
  rw[zL,if_pos hj,yS,y5]) hx h (by rw[hl];exact hQ)
 rwa [hl]at this
theorem FO {P:Program} {ops:Array Oper} {Q:Exit→Act→World→Prop} {K:Act→World→Prop} {i d:Nat} {g:FuncId} {args:Array Operand} {ts:Array TypeId} {a:Act} {w:World} {fn:Func} {o:Oper} (ho:ops[i]?=some o) (hop:o.op=.call ⟨.value (.func g),args,ts⟩) (hd:o.dst=some d) (hg:o.guard=none)
 (hf:P.funcs[g]?=some fn) (hn:fn.name≠ "runtime.NumGoroutine") (hb:fn.body.isSome=true) {vs:List Value} (hargs:args.toList.map a.eval=vs) (hc:Calls P g vs.toArray w fun e w'=>∃ y,e=.returned y∧K (a.put (some d) y) w'):wpOpIn (FR none) 0 P ops Q i K a w:=by
 obtain⟨dst,op,ty,pos,after,guard⟩:=o;simp only at hop hd hg;subst hop hd hg;have hmap:args.map a.eval=vs.toArray:=by apply Array.ext';simp[hargs]
 rw[← hmap]at hc;unfold wpOpIn;rw[ho];simp only[Region.wanted,if_true];refine⟨fun _ _=>trivial,?_⟩;rw[Oper.semAt_eq _ _ _ (fun c e=>by cases e)];have hbody:fn.body≠none:=by intro h;rw[h]at hb;cases hb
 have hrun:(execOp a.eval ⟨some d, .call ⟨.value (.func g),args,ts⟩,ty,pos,after,none⟩).run P w=.ok (.enter g (args.map a.eval)) w:=by
  unfold execOp;simp[resolve,Deferred.ofValue,Act.eval,invoke,callFunc,hf,hn,hbody]
 rw[hrun];rw[Oper.uponIn_enter];refine⟨fun h=>(by cases h),QE (hc.mono ?_)⟩;rintro e w' ⟨y,rfl,k⟩;exact k
theorem GR.put {ok:Nat→Prop} {R:World→Mem→Pl→Prop} {env:Nat→AV} {st:Store} {a:Act} {w:World} {d:Nat} {x:AV} {v:Value} (hd:d<nt) (h:GR wi mi nt ok R env st a w) (hr:∀ m φ,R w m φ→Rep m φ x v):GR wi mi nt ok R (upd env d x) st (a.put (some d) v) w:=by
 obtain⟨⟨m,φ,hi,henv,hadv,hok,hK⟩,hsz,hdf⟩:=h;exact⟨⟨m,φ,hi,uB (dst:=some d) henv hsz (by simpa [VD]using hd) (hr m φ hK),hadv,hok,hK⟩,by rw[uA];exact hsz,by rw[kS];exact hdf⟩
theorem GR.AR2 {ok:Nat→Prop} {wx:World} {p:Pn} {F:List Nat} {v0 v1 v2 v3 v4:Value} {env:Nat→AV} {st st':Store} {a:Act} {w:World} {u id:Nat} (h:GR wi mi nt ok (CPY wx p F v0 v1 v2 v3 v4) env st a w) (hwx:wi.heap.size≤wx.heap.size) (hu:env u=.own id 0) (hbox:st id=some (.box (bX [v0,v1,v2,v3,v4])))
 (hst:∀ i blk,st' i=some blk→i≠id∧st i=some blk∧iZ blk) :
 ∃ b3,∀ env',(∀ t,env' t=.junk∨(t=u∧env' t=.i (.lit (.pointer (some ⟨b3,0,none⟩))))∨(env' t=env t∧lX st' (env t)))→GR wi mi nt (fun i=>st' i≠none) (RAW wi b3 p F []) env' st' a w:=by
 obtain⟨⟨m,φ,hi,henv,hadv,hk,hc⟩,h6,h7⟩:=h;have hr:=henv u;rw[hu]at hr;generalize hy:a.tmps.getD u undef=yy at hr
 cases hr with
 | @own _ _ b3 n3 e3 =>
  obtain⟨hb,hok⟩:=dF hi e3 hbox;have hst2:∀ i blk,st' i=some blk→st i=some blk∧iZ blk:=fun i blk hb=>(hst i blk hb).2
  cases hok with
  | @box T _ vs hh hl hrc hm =>
   obtain rfl:=(nU hrc).symm;have hnF:b3 ∉ F:=fun hf=>(hc.all b3 hf).2.2.1 id b3 n3 e3 hb.1
   refine⟨b3,fun env' he=>⟨⟨m,sU st' φ,hi.APG hst2,fun t=>?_,hadv.cut,fun i hi'=>?_,?_⟩,h6,h7⟩⟩
   ·rcases he t with e|⟨rfl,e⟩|⟨e,e'⟩
    ·rw[e];exact .junk _
    ·rw[e,hy];exact .i (.lit _)
    ·rw[e];exact e'.rep (fun i hi'=>mG hi') (henv t)
   ·cases hx:sU st' φ i with
    | none=>exact absurd hx hi'
    | some q=>exact(dJ hx).2
   ·refine⟨hc.th (.refl _) (fun _ _ _=>rfl) ⟨by rw[bG hh];rfl,by rw[bG hh];rfl,by rw[bG hh];rfl,by rw[bG hh];rfl,by rw[bG hh];rfl⟩,hnF,hc.nd,fun f hf=>?_⟩
    rcases zQ.1 hf with rfl|hf
    ·refine⟨CU hadv e3 hb.1,hb.2 _ hb.1,?_,hm,_,T,hh,hrc.one⟩;refine uH hi (fun i blk h=>(hst2 i blk h).1) hbox ?_ e3 hb.1
     cases hx:st' id with
     | none=>rfl
     | some blk=>exact absurd rfl (hst id blk hx).1
    ·obtain⟨q1,q2,q3,q4,q5⟩:=hc.all f hf;exact⟨Nat.le_trans hwx q1,q2,q3.cut,q4,q5⟩
theorem GR.AMM {ok:Nat→Prop} {root:Nat} {p:Pn} {F:List Nat} {env:Nat→AV} {st:Store} {a:Act} {w:World} {u k:Nat} (h:GR wi mi nt ok (RAW wi root p F []) env st a w) (hu:env u=.i (.lit (.pointer (some ⟨root,0,none⟩)))) (hk:st k=none) (hok:¬ ok k) :
 ∃ v0 v1 v2 v3 v4 post,(∀ v∈[v0,v1,v2,v3,v4],v.oneCell'=true)∧∀ env',(∀ t,env' t=.junk∨(t=u∧env' t=.own k 0)∨env' t=env t) →
   GR wi mi nt (fun id=>ok id∨id=k) (CPY wi p F v0 v1 v2 v3 v4) env' (upd st k (some (.box (bX [v0,v1,v2,v3,v4]++bX post)))) a w:=by
 obtain⟨⟨m,φ,hi,henv,hadv,hid,hr⟩,h6,h7⟩:=h;obtain⟨k1,k2,k3,k4,us,T,k5,k6⟩:=hr.all root (by simp);obtain⟨v0,v1,v2,v3,v4,h5,_,_,hth,hce⟩:=hr.th.cells;have gc:∀ {o:Nat} {v:Value},w.cell? ⟨root,o,none⟩=some v→us[o]?=some v:=fun h=>by rwa [bG k5]at h
 have hrow:=JB (gc h5.c0) (gc h5.c1) (gc h5.c2) (gc h5.c3) (gc h5.c4);simp only[List.take_zero,xN,zD]at hrow
 have hφk:φ k=none:=by
  cases e:φ k with
  | none=>rfl
  | some q=>exact absurd (hid k (by rw[e];simp)) hok
 refine⟨v0,v1,v2,v3,v4,us.drop 5,fun v hv=>k6 v (by rw[hrow];exact yJ _ hv),fun env' he=>?_⟩
 have hrep:RepC m (upd φ k (some (root,one root us.length))) (bX [v0,v1,v2,v3,v4]++bX (us.drop 5)) us:=by
  have h1:=mQ (m:=m) (φ:=upd φ k (some (root,one root us.length))) (vs:=us) k6
  have:bX us=bX [v0,v1,v2,v3,v4]++bX (us.drop 5):=by
   conv=>lhs;rw[hrow]
   simp[bX]
  rwa [this]at h1
 have hp:PLe φ (upd φ k (some (root,one root us.length))):=fun i r n e=>by
  refine⟨n,?_,rfl,fun _ h=>h⟩;have:i≠k:=fun h=>by rw[h,hφk]at e;cases e
  simp[upd,this,e]
 refine⟨⟨m,upd φ k (some (root,one root us.length)),hi.adopt hk hφk k3 k4 k5 hrep,fun t=>?_,hadv.adopt k1,fun id hne=>?_,?_⟩,h6,h7⟩
 ·rcases he t with e|⟨rfl,e⟩|e
  ·rw[e];exact .junk _
  ·have:=henv t;rw[hu]at this;rw[e,this.bP];exact .own (n:=one root us.length) (by simp[upd])
  ·rw[e];exact(henv t).mono (.refl _) hp
 ·by_cases e:id=k
  ·exact .inr e
  ·simp[upd,e]at hne;exact .inl (hid id hne)
 ·refine⟨hth,hce,hr.nd,fun f hf=>?_⟩;obtain⟨q1,q2,q3,q4,q5⟩:=hr.all f (by simp[hf]);refine⟨q1,q2,fun i r n e ho=>?_,q4,q5⟩;by_cases e2:i=k
  ·subst e2;simp[upd]at e;obtain⟨rfl,rfl⟩:=e;have:f=root:=ho;exact hr.nr (this ▸ hf)
  ·simp[upd,e2]at e;exact q3 i r n e ho
theorem GR.AML {ok:Nat→Prop} {root:Nat} {p:Pn} {F:List Nat} {path:List Int} {y:Pn} {bq oq:Nat} {Fa Fy Fz:List Nat} {env:Nat→AV} {st st':Store} {a:Act} {w:World} {u k:Nat} (h:GR wi mi nt ok (RAT wi root p F path y bq oq Fa Fy Fz) env st a w) (hu:env u=.i (.lit (.pointer (some ⟨bq,oq,none⟩))))
 (hst:∀ i blk,st' i=some blk→st i=some blk∧iZ blk) (hk:st' k=none) :
 ∃ pre row post ma,row.length=5∧pre.length=oq∧∀ env',(∀ t,env' t=.junk∨(t=u∧env' t=.own k oq)∨(env' t=env t∧lX st' (env t))) →
   GR wi mi nt (fun id=>st' id≠none∨id=k) (fun w' m' φ'=>ADK wi root p F path y bq oq Fa Fy Fz k w ma w' m' φ'∧(∃ T,w.heap[bq]?=some (.cells (pre++(row++post)).toArray T (0,0)))) env' (upd st' k (some (.box (jD pre (bX row) post)))) a w:=by
 obtain⟨⟨m,φ,hi,henv,hadv,hok,hr⟩,h6,h7⟩:=h;have hinF:=hr.pos.mem;obtain⟨k1,k2,k3,k4,us,T,k5,k6⟩:=hr.raw.all bq hinF;obtain⟨v0,v1,v2,v3,v4,h5,_,_,_,_⟩:=hr.pos.th.cells;have gc:∀ {o:Nat} {v:Value},w.cell? ⟨bq,o,none⟩=some v→us[o]?=some v:=fun h=>by rwa [bG k5]at h
 have hrow:=JB (gc h5.c0) (gc h5.c1) (gc h5.c2) (gc h5.c3) (gc h5.c4);have hl4:=(zZ.1 (gc h5.c4)).1;have hi2:=hi.APG hst;have hφk:sU st' φ k=none:=by unfold sU;rw[hk]
 have hfr:jN (sU st' φ) bq:=k3.cut;refine⟨us.take oq,[v0,v1,v2,v3,v4],us.drop (oq+5),m,rfl,by rw[yM];omega,fun env' he=>?_⟩
 have hrep:RepC m (upd (sU st' φ) k (some (bq,one bq us.length))) (jD (us.take oq) (bX [v0,v1,v2,v3,v4]) (us.drop (oq+5))) us:=by
  have h1:=mQ (m:=m) (φ:=upd (sU st' φ) k (some (bq,one bq us.length))) (vs:=us) k6
  have:bX us=jD (us.take oq) (bX [v0,v1,v2,v3,v4]) (us.drop (oq+5)):=by
   conv=>lhs;rw[hrow]
   simp[jD,bX]
  rwa [this]at h1
 have hp:PLe (sU st' φ) (upd (sU st' φ) k (some (bq,one bq us.length))):=fun i r n e=>by
  refine⟨n,?_,rfl,fun _ h=>h⟩;have:i≠k:=fun h=>by rw[h,hφk]at e;cases e
  simp[upd,this,e]
 refine⟨⟨m,upd (sU st' φ) k (some (bq,one bq us.length)),hi2.adopt hk hφk hfr k4 k5 hrep,fun t=>?_,(Adv.cut hadv).adopt k1,fun id hid=>?_,?_,?_⟩,h6,h7⟩
 ·rcases he t with e|⟨rfl,e⟩|⟨e,e'⟩
  ·rw[e];exact .junk _
  ·have:=henv t;rw[hu]at this;rw[e,this.bP];exact .own (n:=one bq us.length) (by simp[upd])
  ·rw[e];exact(e'.rep (fun i hi'=>mG hi') (henv t)).mono (.refl _) hp
 ·by_cases e:id=k
  ·exact .inr e
  ·simp[upd,e]at hid
   cases hx:sU st' φ id with
   | none=>exact absurd hx hid
   | some q=>exact .inl (dJ hx).2
 ·refine⟨hr.pos, .refl _,⟨one bq us.length,by simp[upd]⟩,k1,fun f hf hne=>?_⟩;obtain⟨q1,q2,q3,q4,q5⟩:=hr.raw.all f hf;refine⟨q1,q2,fun i r n e ho=>?_,q4,rfl,q5⟩;by_cases e2:i=k
  ·subst e2;simp[upd]at e;obtain⟨rfl,rfl⟩:=e;exact hne ho
  ·simp[upd,e2]at e;exact q3 i r n (dJ e).1 ho
 ·exact⟨T,by rw[← hrow];exact k5⟩
theorem GR.AOY {ok:Nat→Prop} {root:Nat} {p q:Pn} {F:List Nat} {path:List Int} {y:Pn} {bq oq:Nat} {Fa Fy Fz:List Nat} {env env':Nat→AV} {st st':Store} {a:Act} {w wa:World} {ma:Mem} {k:Nat} {pre row post:List Value}
 (h:GR wi mi nt ok (fun w' m' φ'=>ADK wi root p F path y bq oq Fa Fy Fz k wa ma w' m' φ'∧(∃ T,wa.heap[bq]?=some (.cells (pre++(row++post)).toArray T (0,0)))) env st a w) (hrl:row.length=5) (hpl:pre.length=oq) (hbox:st k=some (.box (jD pre (jR q.cells) post)))
 (hst:∀ i blk,st' i=some blk→i≠k∧st i=some blk∧iZ blk) (he:∀ t,env' t=.junk∨(env' t=env t∧lX st' (env t))) :
 GR wi mi nt (fun id=>st' id≠none) (RAW wi root (Pn.put path p q) (Fa++([]++Fz)) [((bq,oq),q)]) env' st' a w:=by
 obtain⟨⟨m,φ,hi,henv,hadv,hk,hr,T0,hrow0⟩,h6,h7⟩:=h;obtain⟨n2,e2⟩:=hr.own;obtain⟨hb2,hok2⟩:=dF hi e2 hbox;have hst2:∀ i blk,st' i=some blk→st i=some blk∧iZ blk:=fun i blk hb=>(hst i blk hb).2
 cases hok2 with
 | @box T _ vs hh hl hrc hm =>
  have hone:=hrc.one;obtain⟨vp,x,rfl,r1,r2⟩:=kR hrc;obtain⟨vr,vq,rfl,r3,r4⟩:=kR r2;obtain rfl:=(nU r1).symm;obtain rfl:=(nU r4).symm;have hc:=CB r3;have hlen:=hc.length;rw[Pn.d9]at hlen
  obtain⟨v0,v1,v2,v3,v4,rfl⟩:∃ v0 v1 v2 v3 v4,vr=[v0,v1,v2,v3,v4]:=by
   match vr,hlen with
   | [v0,v1,v2,v3,v4],_=>exact⟨v0,v1,v2,v3,v4,rfl⟩
  have hcell:∀ f∈root::F,f≠bq→∀ j,w.cell? ⟨f,j,none⟩=wa.cell? ⟨f,j,none⟩:=fun f hf hne j=>gZ (hr.oth f hf hne).2.2.2.2.1 j
  have sub:∀ f∈root::(Fa++([]++Fz)),f∈root::F:=fun f hf=>by
   rw[hr.pos.eq]
   rcases zQ.1 hf with e|e
   ·simp[e]
   ·rcases zT.1 e with e|e
    ·simp[e]
    ·simp at e;simp[e]
  have g:∀ (i:Nat),i<5→(pre++([v0,v1,v2,v3,v4]++post))[oq+i]?=[v0,v1,v2,v3,v4][i]?:=fun i hi=>by
   rw[zM (by omega),zJ (by simp;omega),hpl,yI]
  have far:∀ (r:List Value),r.length=5→∀ j,oq+5≤j→(pre++(r++post))[j]?=post[j-oq-5]?:=fun r hr j hj=>by
   rw[zM (by omega),zM (by omega),hr,hpl]
  have hth:TH w m (Pn.put path p q) root 0 (Fa++([]++Fz)) [((bq,oq),q)]:=by
   refine hr.pos.fill hr.le (fun f hf j hj=>?_) (.fresh hc ⟨?_,?_,?_,?_,?_⟩)
   ·by_cases hne:f=bq
    ·subst hne;rw[bG hh,bG hrow0]
     rcases hj with hj|hj|hj
     ·exact absurd rfl hj
     ·rw[zJ (by omega),zJ (by omega)]
     ·rw[far _ rfl j hj,far _ hrl j hj]
    ·refine hcell f ?_ hne j;rw[hr.pos.eq]
     rcases zQ.1 hf with e|e
     ·simp[e]
     ·rcases zT.1 e with e|e<;>simp[e]
   ·rw[bG hh];exact g 0 (by omega)
   ·rw[bG hh];exact g 1 (by omega)
   ·rw[bG hh];exact g 2 (by omega)
   ·rw[bG hh];exact g 3 (by omega)
   ·rw[bG hh];exact g 4 (by omega)
  refine⟨⟨m,sU st' φ,hi.APG hst2,fun x=>?_,hadv.cut,fun id hid=>?_,?_⟩,h6,h7⟩
  ·rcases he x with e|⟨e,e'⟩
   ·rw[e];exact .junk _
   ·rw[e];exact e'.rep (fun i hi'=>mG hi') (henv x)
  ·cases hx:sU st' φ id with
   | none=>exact absurd hx hid
   | some q=>exact(dJ hx).2
  ·have hnd:=hr.pos.nd;rw[hr.pos.eq]at hnd;refine⟨hth,fun hm'=>?_,?_,fun f hf=>?_⟩
   ·have:=sub root (by simp);refine hr.pos.nr ?_;rw[hr.pos.eq]
    rcases zT.1 hm' with e|e
    ·simp[e]
    ·simp at e;simp[e]
   ·rw[xN];rw[yT]at hnd ⊢;refine⟨hnd.1,(yT.1 hnd.2.1).2.1,fun x hx z hz=>hnd.2.2 x hx z (by simp[hz])⟩
   ·have hf':=sub f hf;by_cases hne:f=bq
    ·subst hne;refine⟨hr.bqn,(zI.1 hh).1,?_,hm,_,T,hh,hone⟩;refine uH hi (fun i blk h=>(hst2 i blk h).1) hbox ?_ e2 hb2.1
     cases hx:st' k with
     | none=>rfl
     | some blk=>exact absurd rfl (hst k blk hx).1
    ·obtain⟨q1,q2,q3,q4,q5,vs',T',q6,q7⟩:=hr.oth f hf' hne;exact⟨q1,q2,q3.cut,q4,vs',T',by rw[q5];exact q6,q7⟩
theorem GR.AYC {ok:Nat→Prop} {root:Nat} {p:Pn} {F:List Nat} {H:PL} {env:Nat→AV} {st:Store} {a:Act} {w:World} (h:GR wi mi nt ok (RAW wi root p F H) env st a w) {u:Nat} (hu:env u=.i (.lit (.pointer (some ⟨root,0,none⟩)))) {env':Nat→AV} (he:∀ t,env' t=.junk∨(t=u∧env' t=.i (.iref p.cells))∨env' t=env t) :
 GR wi mi nt ok (fun _ _ _=>True) env' st a w:=by
 classical
 obtain⟨⟨m,φ,hi,henv,hadv,hk,hr⟩,h6,h7⟩:=h
 let m':Mem:=fun f o=>if f∈root::F then w.cell? ⟨f,o,none⟩else m f o
 have hin:∀ f,f∈root::F→∀ o,m' f o=w.cell? ⟨f,o,none⟩:=fun f hf o=>by show(if f∈root::F then _ else _)=_;rw[if_pos hf]
 have hout:∀ f,f ∉ root::F→∀ o,m' f o=m f o:=fun f hf o=>by show(if f∈root::F then _ else _)=_;rw[if_neg hf]
 have hle:MLe m m':=fun f o v e=>by
  by_cases hf:f∈root::F
  ·rw[(hr.all f hf).2.2.2.1 o]at e;cases e
  ·rw[hout f hf];exact e
 have hmem:lD w m':=fun f o v e=>by
  by_cases hf:f∈root::F
  ·rw[hin f hf]at e;exact e
  ·rw[hout f hf]at e;exact hi.mem f o v e
 have hat:IAt m' root 0 p.cells:=hr.th.APY hle (fun j _ _=>hin root (by simp) j) (fun f hf j=>hin f (by simp[hf]) j);refine⟨⟨m',φ,⟨hmem,fun i blk hb=>?_,hi.inj,hi.low⟩,fun t=>?_,⟨hadv.size,hadv.os,hadv.tape,hadv.output,hadv.block,hadv.mle.trans hle,fun f hf hfr o=>?_,hadv.ple,hadv.pnew⟩,hk,trivial⟩,h6,h7⟩
 ·obtain⟨b,n,q1,q2,q3⟩:=hi.live i blk hb;exact⟨b,n,q1,q2,q3.mono q2.1 (fun _ _=>rfl) hle (.refl _) fun f hf o=>hout f (fun hf'=>(hr.all f hf').2.2.1 i b n q1 hf) o⟩
 ·rcases he t with e|⟨rfl,e⟩|e
  ·rw[e];exact .junk _
  ·have hx:=henv t;rw[hu]at hx;rw[e,hx.bP];exact .i (.iref hat)
  ·rw[e];exact(henv t).mono hle (.refl _)
 ·rw[hout f (fun hf'=>by have:=(hr.all f hf').1;omega)];exact hadv.mnew f hf hfr o
end
theorem DI:∀ {l m:List Int},aF l=aF m→l=m:=by
 intro l
 induction l with
 | nil=>intro m h;cases m with
  | nil=>rfl
  | cons b m=>simp[aF]at h
 | cons a l ih=>intro m h;cases m with
  | nil=>simp[aF]at h
  | cons b m =>
   simp only[aF,List.cons.injEq]at h;rw[show a=b by simpa using h.1,ih h.2]
theorem Ex.VJ:∀ (a b:Ex),a.cells=b.cells→a=b:=by
 intro a
 induction a using Ex.ind with
 | h k c v ks ih =>
  intro b h;obtain⟨k',c',v',ks'⟩:=b
  have key:∀ {l m:List Ex},(∀ a∈l,∀ b,a.cells=b.cells→a=b)→Ex.aB l=Ex.aB m→l=m:=by
   intro l
   induction l with
   | nil=>intro m _ h;cases m with
    | nil=>rfl
    | cons b m=>simp[Ex.aB]at h
   | cons a l ihl=>intro m hi h;cases m with
    | nil=>simp[Ex.aB]at h
    | cons b m =>
     simp only[Ex.aB,List.cons.injEq]at h;rw[hi a (by simp) b h.1,ihl (fun x hx=>hi x (by simp[hx])) h.2]
  rw[Ex.aA,Ex.aA]at h;simp only[List.cons.injEq,IV.lit.injEq,Value.int.injEq,Value.bool.injEq,IV.isl.injEq,true_and,and_true]at h;obtain⟨h1,h2,h3,h4,h5⟩:=h;have h5:=key ih h5;obtain⟨b1,n1⟩:=v;obtain⟨b2,n2⟩:=v';simp only[Ex.kind,Ex.col,Ex.val,Ex.kids]at h1 h2 h3 h4 h5;subst h1 h2 h3 h4 h5;rfl
theorem Ex.QD:∀ {l m:List Ex},Ex.aB l=Ex.aB m→l=m:=by
 intro l
 induction l with
 | nil=>intro m h;cases m with
  | nil=>rfl
  | cons b m=>simp[Ex.aB]at h
 | cons a l ihl=>intro m h;cases m with
  | nil=>simp[Ex.aB]at h
  | cons b m =>
   simp only[Ex.aB,List.cons.injEq]at h;rw[Ex.VJ a b h.1,ihl h.2]
theorem Pn.AA1:∀ (a b:Pn),a.cells=b.cells→a=b:=by
 intro a
 induction a using Pn.ind with
 | h k t es cs ks ih =>
  intro b h;obtain⟨k',t',es',cs',ks'⟩:=b
  have key:∀ {l m:List Pn},(∀ a∈l,∀ b,a.cells=b.cells→a=b)→Pn.aB l=Pn.aB m→l=m:=by
   intro l
   induction l with
   | nil=>intro m _ h;cases m with
    | nil=>rfl
    | cons b m=>simp[Pn.aB]at h
   | cons a l ihl=>intro m hi h;cases m with
    | nil=>simp[Pn.aB]at h
    | cons b m =>
     simp only[Pn.aB,List.cons.injEq]at h;rw[hi a (by simp) b h.1,ihl (fun x hx=>hi x (by simp[hx])) h.2]
  rw[Pn.dP,Pn.dP]at h;simp only[List.cons.injEq,IV.lit.injEq,Value.int.injEq,IV.isl.injEq,true_and,and_true]at h;obtain⟨h1,h2,h3,h4,h5⟩:=h;rw[h1,h2,Ex.QD h3,DI h4,key ih h5]
def apO (p:Pn) (ws:List Int) (r:Int) (path:List Int):Option Pn:=if p.width ws=0 then none else apI ws r path p
def apR:Option Pn→AV×StL
 | some q=>(.tup [.i (.agg q.cells), .bool true],[])
 | none=>(.tup [.i (.agg Pn.zero.cells), .bool false],[])
def ApA (args:List AV) (x:Pn×List Int×Int×List Int):Prop:=args=[.i (.agg x.1.cells), .i (.isl (aF x.2.1)), .i (.agg [.int x.2.2.1, .isl (aF x.2.2.2)])]
noncomputable def A8:List AV→StL→Option (AV×StL)
 | args,[]=>open Classical in if h:∃ x,ApA args x then some (apR (apO h.choose.1 h.choose.2.1 h.choose.2.2.1 h.choose.2.2.2))else none
 | _,_=>none
theorem ApA.inj {args:List AV} {x y:Pn×List Int×Int×List Int} (hx:ApA args x) (hy:ApA args y):x=y:=by
 unfold ApA at hx hy;rw[hx]at hy;simp only[List.cons.injEq,AV.i.injEq,IV.agg.injEq,IV.isl.injEq,IV.lit.injEq,Value.int.injEq,true_and,and_true]at hy;obtain⟨h1,h2,h3,h4⟩:=hy;obtain⟨a,b,c,d⟩:=x;obtain⟨a',b',c',d'⟩:=y;simp only at h1 h2 h3 h4;rw[Pn.AA1 _ _ h1,DI h2,h3,DI h4]
theorem AAL (p:Pn) (ws:List Int) (r:Int) (path:List Int):A8 [.i (.agg p.cells), .i (.isl (aF ws)), .i (.agg [.int r, .isl (aF path)])] []=some (apR (apO p ws r path)):=by
 have h:∃ x,ApA [.i (.agg p.cells), .i (.isl (aF ws)), .i (.agg [.int r, .isl (aF path)])] x:=⟨(p,ws,r,path),rfl⟩
 unfold A8;simp only;rw[dif_pos h];have:=h.choose_spec.inj (y:=(p,ws,r,path)) rfl;rw[this]
theorem QJ {args:List AV} {st:StL} {q:AV×StL} (h:A8 args st=some q):∃ p ws r path,args=[.i (.agg (Pn.cells p)), .i (.isl (aF ws)), .i (.agg [.int r, .isl (aF path)])]∧st=[]∧q=apR (apO p ws r path):=by
 unfold A8 at h;split at h
 ·split at h
  ·rename_i hx;injection h with h;exact⟨_,_,_,_,hx.choose_spec,rfl,h.symm⟩
  ·cases h
 ·cases h
theorem oN {p:Pn} {ws:List Int} (h:p.width ws≠0):jI ws=true∧p.wd ws 8≠0:=by
 unfold Pn.width at h;by_cases hw:jI ws=true
 ·rw[if_pos hw]at h;exact⟨hw,h⟩
 ·rw[if_neg hw]at h;exact absurd rfl h
noncomputable def AJZ (C:Ctx) (G:List Nat) (na:Nat) (b:Code) (S:AS):XR:=eT C G na b S
@[simp] theorem AJ9 {C:Ctx} {G:List Nat} {na:Nat} (a b:Code) (S:AS):eT C G na (.seq a b) S=UI (eT C G na a S) (AJZ C G na b):=ZO a b
@[simp] theorem AN1 {C:Ctx} {G:List Nat} {na:Nat} (b:Code) (e:List (Nat×AV)) (st:StL):AJZ C G na b ⟨e,st⟩=eT C G na b ⟨e,st⟩:=(rfl)
def AA0 (C:Ctx) (call:dK) (all:List Oper) (draw:Bool) (base:Nat) (os:List Oper) (i:Nat) (env:Nat→AV) (dst:Option Tmp) (log:List (Nat×List Nat×Bool)) (p:AV×Store):Option RS:=cZ C call all draw base os i ⟨sS env dst p.1,p.2,log⟩
@[simp] theorem ANR {C:Ctx} {call:dK} (all:List Oper) (draw:Bool) (base:Nat) (os:List Oper) (i:Nat) (env:Nat→AV) (dst:Option Tmp) (log:List (Nat×List Nat×Bool)) (v:AV) (st:Store):AA0 C call all draw base os i env dst log (v,st)=cZ C call all draw base os i ⟨sS env dst v,st,log⟩:=(rfl)
attribute [simp] NF VB PZ V8 ZP VA WY
@[simp] theorem AIL (k:Nat):iO k []=true:=(rfl)
@[simp] theorem AFN (k:Nat) (e:List IV) (es:List (List IV)):iO k (e::es)=(e.length == k && iO k es):=(rfl)
@[simp] theorem AF4:gP (.slice none 0 0)=.nils:=(rfl)
@[simp] theorem AJ2:vH (.slice none 0 0)=.nils:=(rfl)
@[simp] theorem AF5 (b:Bool):gP (.bool b)=.i (.lit (.bool b)):=(rfl)
@[simp] theorem AJ3 (b:Bool):vH (.bool b)=.i (.lit (.bool b)):=(rfl)
@[simp] theorem AFG (b:Bool):cellsOf (.i (.lit (.bool b)))=some [.i (.lit (.bool b))]:=(rfl)
@[simp] theorem AH1 (k:IntKind) (n:Int):gP (.int k n)=.i (.lit (.int k n)):=(rfl)
@[simp] theorem AL9 (k:IntKind) (n:Int):vH (.int k n)=.i (.lit (.int k n)):=(rfl)
@[simp] theorem AI5 (k:IntKind) (n:Int):cellsOf (.i (.lit (.int k n)))=some [.i (.lit (.int k n))]:=(rfl)
@[simp] theorem AB4 (s:ByteArray):gP (.string s)=.i (.lit (.string s)):=(rfl)
@[simp] theorem AF6 (s:ByteArray):vH (.string s)=.i (.lit (.string s)):=(rfl)
@[simp] theorem AB9 (s:ByteArray):cellsOf (.i (.lit (.string s)))=some [.i (.lit (.string s))]:=(rfl)
@[simp] theorem YX (a:Option Addr):gP (.pointer a)=.i (.lit (.pointer a)):=(rfl)
@[simp] theorem ACU (a:Option Addr):vH (.pointer a)=.i (.lit (.pointer a)):=(rfl)
@[simp] theorem AA2 (a:Option Addr):cellsOf (.i (.lit (.pointer a)))=some [.i (.lit (.pointer a))]:=(rfl)
@[simp] theorem AH0 (r:Option Nat):gP (.map r)=.i (.lit (.map r)):=(rfl)
@[simp] theorem AL8 (r:Option Nat):vH (.map r)=.i (.lit (.map r)):=(rfl)
@[simp] theorem AI3 (r:Option Nat):cellsOf (.i (.lit (.map r)))=some [.i (.lit (.map r))]:=(rfl)
@[simp] theorem YY :gP (.nilFunc)=.i (.lit (.nilFunc)):=(rfl)
@[simp] theorem ACV :vH (.nilFunc)=.i (.lit (.nilFunc)):=(rfl)
@[simp] theorem AA3 :cellsOf (.i (.lit (.nilFunc)))=some [.i (.lit (.nilFunc))]:=(rfl)
@[simp] theorem WL :gP (.nilIface)=.i (.lit (.nilIface)):=(rfl)
@[simp] theorem AB6 :vH (.nilIface)=.i (.lit (.nilIface)):=(rfl)
@[simp] theorem WP :cellsOf (.i (.lit (.nilIface)))=some [.i (.lit (.nilIface))]:=(rfl)
@[simp] theorem ACT (a:Array Value):gP (.tuple a)=.i (.lit (.tuple a)):=(rfl)
@[simp] theorem AH3 (a:Array Value):vH (.tuple a)=.i (.lit (.tuple a)):=(rfl)
@[simp] theorem ALA (cs:Array Value):vH (.agg cs)=MN (dM cs.toList):=(rfl)
attribute [simp] dM.eq_1 dM.eq_2 cellsOf.eq_3 cellsOf.eq_4
@[simp] theorem AFE :cellsOf .nils=some [.nils]:=(rfl)
@[simp] theorem AI1 (i o:Nat):cellsOf (.own i o)=some [(.own i o)]:=(rfl)
@[simp] theorem AFD (i k j o:Nat):cellsOf (.ownE i k j o)=some [(.ownE i k j o)]:=(rfl)
@[simp] theorem AI2 (i k o l:Nat):cellsOf (.osl i k o l)=some [(.osl i k o l)]:=(rfl)
@[simp] theorem AJF (f:Fn) (cs:List AV):cellsOf (.fn f cs)=some [(.fn f cs)]:=(rfl)
@[simp] theorem ADO (a:Option Addr) (l c:Nat):cellsOf (.i (.lit (.slice a l c)))=some [(.i (.lit (.slice a l c)))]:=(rfl)
@[simp] theorem AI4 (es:List (List IV)):cellsOf (.i (.isl es))=some [(.i (.isl es))]:=(rfl)
@[simp] theorem AFF (cs:List IV):cellsOf (.i (.iref cs))=some [(.i (.iref cs))]:=(rfl)
@[simp] theorem AJD  (x:Option (List IV)):NP .nils x=none:=by cases x<;>rfl
@[simp] theorem ALS (st:Store) :oL st .nils=bnd (frz st rX .nils) fun p=>some (p.1,gB st p.2):=(rfl)
@[simp] theorem AIE (st:Store) :gD st .nils=bnd (oL st .nils) fun p=>some (.i p.1,p.2):=(rfl)
@[simp] theorem ANN (st:Store) (i o:Nat):oL st (.own i o)=bnd (frz st rX (.own i o)) fun p=>some (p.1,gB st p.2):=(rfl)
@[simp] theorem AJI (st:Store) (i o:Nat):gD st (.own i o)=bnd (oL st (.own i o)) fun p=>some (.i p.1,p.2):=(rfl)
@[simp] theorem AM5 (i k o l:Nat) (x:Option (List IV)):NP (.osl i k o l) x=none:=by cases x<;>rfl
@[simp] theorem ANO (st:Store) (i k o l:Nat):oL st (.osl i k o l)=bnd (frz st rX (.osl i k o l)) fun p=>some (p.1,gB st p.2):=(rfl)
@[simp] theorem AJJ (st:Store) (i k o l:Nat):gD st (.osl i k o l)=bnd (oL st (.osl i k o l)) fun p=>some (.i p.1,p.2):=(rfl)
@[simp] theorem ANU (f:Fn) (cs:List AV) (x:Option (List IV)):NP (.fn f cs) x=none:=by cases x<;>rfl
@[simp] theorem ANP (st:Store) (cs:List AV):oL st (.agg cs)=bnd (frz st rX (.agg cs)) fun p=>some (p.1,gB st p.2):=(rfl)
@[simp] theorem AJK (st:Store) (cs:List AV):gD st (.agg cs)=bnd (oL st (.agg cs)) fun p=>some (.i p.1,p.2):=(rfl)
@[simp] theorem APK (v:IV) (l:List IV):NP (.i v) (some l)=some (v::l):=(rfl)
@[simp] theorem ANT (v:IV):NP (.i v) none=none:=(rfl)
@[simp] theorem AQ1 (st:Store) (v:IV):oL st (.i v)=some (v,st):=(rfl)
@[simp] theorem ANZ (st:Store) (v:IV):gD st (.i v)=some (.i v,st):=(rfl)
@[simp] theorem AMH (st:Store) (f:Fn) (cs:List AV):gD st (.fn f cs)=some (.fn f cs,st):=(rfl)
@[simp] theorem AJL:uT (some .strct)=some true:=(rfl)
@[simp] theorem AJM (e:TypeId):uT (some (.slice e))=some false:=(rfl)
@[simp] theorem AO0 (k:IntKind):uT (some (.int k))=some false:=(rfl)
@[simp] theorem AII:uT (some .string)=some false:=(rfl)
@[simp] theorem AMK:uT (some .bool)=some false:=(rfl)
@[simp] theorem AJN:uT (some .other)=some false:=(rfl)
@[simp] theorem AJO (n:Nat) (e:TypeId):uT (some (.array n e))=some true:=(rfl)
@[simp] theorem AHM:dN .add=false:=(rfl)
@[simp] theorem AH9:dN .sub=false:=(rfl)
@[simp] theorem AHF:dN .mul=false:=(rfl)
@[simp] theorem AHD:dN .quo=false:=(rfl)
@[simp] theorem AHC:dN .rem=false:=(rfl)
@[simp] theorem AHL:dN .and=false:=(rfl)
@[simp] theorem AJ7:dN .or=false:=(rfl)
@[simp] theorem AH8:dN .xor=false:=(rfl)
@[simp] theorem AB7:dN .andNot=false:=(rfl)
@[simp] theorem AHK:dN .eql=false:=(rfl)
@[simp] theorem AHE:dN .neq=false:=(rfl)
@[simp] theorem AHG:dN .lss=false:=(rfl)
@[simp] theorem AHH:dN .leq=false:=(rfl)
@[simp] theorem AHI:dN .gtr=false:=(rfl)
@[simp] theorem AHJ:dN .geq=false:=(rfl)
@[simp] theorem AHB:dN .shl=true:=(rfl)
@[simp] theorem AHA:dN .shr=true:=(rfl)
@[simp] theorem AN6:GH []=.tup []:=(rfl)
@[simp] theorem AN5 (v:AV):GH [v]=v:=(rfl)
@[simp] theorem AN4 (a b:AV) (l:List AV):GH (a::b::l)=.tup (a::b::l):=(rfl)
attribute [simp] pE.eq_1 pE.eq_2 fI.eq_1 fI.eq_2 fI.eq_3
section
variable (C:Ctx) (call:dK) (env:Nat→AV) (st:Store) (nb:Nat)
@[simp] theorem AG3 (x:Operand):bS C call (.move x) env st nb=some (ev env x,st):=(rfl)
@[simp] theorem ABX (x:Operand):bS C call (.assign x) env st nb=some (ev env x,st):=(rfl)
@[simp] theorem AG2 (c a b:Operand):bS C call (.pick c a b) env st nb=bnd (YD (ev env a) (ev env b) (ev env c)) fun v=>some (v,st):=(rfl)
@[simp] theorem AEU (t:TypeId):bS C call (.alloc t) env st nb=bnd (zeroOf C.P t) fun z=>some (.own nb 0,upd st nb (some (.box (dM z)))):=(rfl)
@[simp] theorem AIV (t:TypeId) (x:Operand):bS C call (.box t x) env st nb=bnd (cellsOf (ev env x)) fun cs=>some (.own nb 0,upd st nb (some (.box cs))):=(rfl)
@[simp] theorem AES (t:TypeId) (ps:Array (Nat×Operand)):bS C call (.build t ps) env st nb=bnd (uT (bE C.P t)) fun g=>tst g (bnd (zeroOf C.P t) fun z=>bnd (partsOf env ps.toList) fun ps=>bnd (JR (CJ C.P t) (dM z) ps) fun cs=>some (MN cs,st)):=(rfl)
@[simp] theorem U4 (t:TypeId) (n:Nat) (ps:Array (Nat×Operand)):bS C call (.buildSlice t n ps) env st nb=bnd (EJ (bE C.P t)) fun e=>bnd (partsOf env ps.toList) fun ps=>nJ C e n st nb ps:=(rfl)
@[simp] theorem AG4 (t:TypeId) (a:Operand):bS C call (.load t a) env st nb=bnd (D6 C t (ev env a) st) fun v=>some (v,st):=(rfl)
@[simp] theorem AEN (t:TypeId) (a x:Operand):bS C call (.store t a x) env st nb=bnd (wF C t (ev env a) (ev env x) st) fun st1=>some (.i (.lit undef),st1):=(rfl)
@[simp] theorem XC (x:Operand):bS C call (.nilCheck x) env st nb=bnd (ACM (ev env x)) fun v=>some (v,st):=(rfl)
@[simp] theorem AET (op:BinOp) (t:TypeId) (x y:Operand) (u:TypeId):bS C call (.binOp op t x y u) env st nb=bnd (AE0 C op t (ev env x) (ev env y)) fun v=>some (.i v,st):=(rfl)
@[simp] theorem AG1 (op:UnOp) (t:TypeId) (x:Operand):bS C call (.unOp op t x) env st nb=bnd (unA op (ev env x)) fun v=>some (.i v,st):=(rfl)
@[simp] theorem AAZ (s d:TypeId) (x:Operand):bS C call (.convert s d x) env st nb=bnd (VH (bE C.P s) (bE C.P d) (ev env x)) fun v=>some (v,st):=(rfl)
@[simp] theorem WG (t:TypeId) (l c:Operand):bS C call (.makeSlice t l c) env st nb=PH C t st nb (ev env l) (ev env c):=(rfl)
@[simp] theorem AEO (t:TypeId) (x:Operand) (lo hi:Option Operand):bS C call (.slice t x lo hi none) env st nb=bnd (wG C t (evO env lo) (evO env hi) (ev env x)) fun v=>some (v,st):=(rfl)
@[simp] theorem WI (s:TypeId) (x:Operand) (f:Nat):bS C call (.fieldAddr s x f) env st nb=bnd (dI C.P s f) fun p=>bnd (gM C.P p.1) fun n=>tst (decide (0<n)) (bnd (gY p.2 (ev env x)) fun v=>some (v,st)):=(rfl)
@[simp] theorem AEQ (s:TypeId) (x:Operand) (f:Nat):bS C call (.field s x f) env st nb=bnd (dI C.P s f) fun p=>bnd (gM C.P p.1) fun n=>bnd (uT (bE C.P p.1)) fun g=>bnd (I8 p.2 n g (ev env x)) fun v=>some (v,st):=(rfl)
@[simp] theorem WH (t:TypeId) (x i:Operand):bS C call (.indexAddr t x i) env st nb=bnd (kJ C (ev env x) (ev env i) (bE C.P t)) fun v=>some (v,st):=(rfl)
@[simp] theorem AEP (t:TypeId) (x i:Operand):bS C call (.index t x i) env st nb=bnd (HV C (ev env i) (bE C.P t) (ev env x)) fun v=>some (v,st):=(rfl)
@[simp] theorem AAY (x:Operand) (j:Nat):bS C call (.extract x j) env st nb=bnd (uK j (ev env x)) fun v=>some (v,st):=(rfl)
@[simp] theorem XD (f:Fn) (fs cs:Array Operand):bS C call (.makeFunc f fs cs) env st nb=tst fs.toList.isEmpty (bnd (ACO (evL env cs.toList) f) fun v=>some (v,st)):=(rfl)
@[simp] theorem AJ1 (cs:List AV) (g:FuncId):ACO cs (.func g)=some (.fn (.func g) cs):=(rfl)
@[simp] theorem AB0 (b:Builtin) (as1:Array Operand) (ts:Array TypeId):bS C call (.call ⟨.builtin b,as1,ts⟩) env st nb=fZ C st nb b ts.toList (evL env as1.toList):=(rfl)
@[simp] theorem AER (f:Operand) (as1:Array Operand) (ts:Array TypeId):bS C call (.call ⟨.value f,as1,ts⟩) env st nb=F9 C call (evL env as1.toList) st nb (ev env f):=(rfl)
@[simp] theorem AFY (x:Operand):bB env (.move x)=([],true):=(rfl)
@[simp] theorem ABS (x:Operand):bB env (.assign x)=([],true):=(rfl)
@[simp] theorem AFX (c a b:Operand):bB env (.pick c a b)=([],true):=(rfl)
@[simp] theorem AEK (t:TypeId):bB env (.alloc t)=([],true):=(rfl)
@[simp] theorem AIR (t:TypeId) (x:Operand):bB env (.box t x)=([],true):=(rfl)
@[simp] theorem AEI (t:TypeId) (ps:Array (Nat×Operand)):bB env (.build t ps)=([],true):=(rfl)
@[simp] theorem X0 (x:Operand):bB env (.nilCheck x)=([],true):=(rfl)
@[simp] theorem AEJ (op:BinOp) (t:TypeId) (x y:Operand) (u:TypeId):bB env (.binOp op t x y u)=([],true):=(rfl)
@[simp] theorem AFW (op:UnOp) (t:TypeId) (x:Operand):bB env (.unOp op t x)=([],true):=(rfl)
@[simp] theorem AAX (s d:TypeId) (x:Operand):bB env (.convert s d x)=([],true):=(rfl)
@[simp] theorem WC (t:TypeId) (l c:Operand):bB env (.makeSlice t l c)=([],true):=(rfl)
@[simp] theorem AEF (t:TypeId) (x:Operand) (lo hi:Option Operand):bB env (.slice t x lo hi none)=([],true):=(rfl)
@[simp] theorem WF (s:TypeId) (x:Operand) (f:Nat):bB env (.fieldAddr s x f)=([],true):=(rfl)
@[simp] theorem AEH (s:TypeId) (x:Operand) (f:Nat):bB env (.field s x f)=([],true):=(rfl)
@[simp] theorem WE (t:TypeId) (x i:Operand):bB env (.indexAddr t x i)=([],true):=(rfl)
@[simp] theorem AEG (t:TypeId) (x i:Operand):bB env (.index t x i)=([],true):=(rfl)
@[simp] theorem AAW (x:Operand) (j:Nat):bB env (.extract x j)=([],true):=(rfl)
@[simp] theorem X3 (f:Fn) (fs cs:Array Operand):bB env (.makeFunc f fs cs)=([],true):=(rfl)
attribute [simp] bB.eq_1 bB.eq_2 bB.eq_3 bB.eq_4 bB.eq_5 bB.eq_6
@[simp] theorem AIQ (as1:Array Operand) (ts:Array TypeId):bB env (.call ⟨.builtin .len,as1,ts⟩)=([],true):=(rfl)
@[simp] theorem AIO (as1:Array Operand) (ts:Array TypeId):bB env (.call ⟨.builtin .min,as1,ts⟩)=([],true):=(rfl)
@[simp] theorem AIP (as1:Array Operand) (ts:Array TypeId):bB env (.call ⟨.builtin .max,as1,ts⟩)=([],true):=(rfl)
@[simp] theorem AN2 (args:List AV) (g:FuncId) (cs:List AV):F9 C call args st nb (.fn (.func g) cs)=if g=1000000007 then none else eG call (C.ownArgs g) g (args++cs) st nb:=(rfl)
@[simp] theorem AK6 (args:List AV) (id:Nat):F9 C call args st nb (.fn (.yield 0) [.own id 0])=eG call true uS (.fn (.yield 0) [.own id 0]::args) st nb:=(rfl)
variable (all:List Oper) (base i:Nat) (log:List (Nat×List Nat×Bool)) (dst:Option Tmp) (op:Op) (ty:TypeId) (pos:String) (after:Array Edge) (os:List Oper)
@[simp] theorem AKZ (t:Tmp) (v:AV):sS env (some t) v=upd env t v:=(rfl)
@[simp] theorem AL0 (v:AV):sS env none v=env:=(rfl)
@[simp] theorem AIY (draw:Bool) (R:RS):cZ C call all draw base [] i R=some R:=(rfl)
@[simp] theorem AKP:cZ C call all false base (⟨dst,op,ty,pos,after,none⟩::os) i ⟨env,st,log⟩ =
 bnd (bS C call op env st (base+8*i)) (AA0 C call all false base os (i+1) env dst []):=(rfl)
@[simp] theorem AKO (g:Nat×Bool):cZ C call all false base (⟨dst,op,ty,pos,after,some g⟩::os) i ⟨env,st,log⟩ =
 bnd (L8 env g.2 ((all[g.1]?).bind (·.dst))) fun b=>if b=true then bnd (bS C call op env st (base+8*i)) (AA0 C call all false base os (i+1) env dst [])
  else cZ C call all false base os (i+1) ⟨sS env dst (.i (.lit undef)),st,log⟩:=(rfl)
@[simp] theorem AKN:cZ C call all true base (⟨dst,op,ty,pos,after,none⟩::os) i ⟨env,st,log⟩ =
 tst (AM7 base all ⟨dst,op,ty,pos,after,none⟩ st (bB env op).1 (wE st (bB env op)).1 (bB env op).2 log)
  (bnd (bS C call op env st (base+8*i)) (AA0 C call all true base os (i+1) env dst (EY i (bB env op).2 log (wE st (bB env op)).1))):=(rfl)
@[simp] theorem AKM (g:Nat×Bool):cZ C call all true base (⟨dst,op,ty,pos,after,some g⟩::os) i ⟨env,st,log⟩ =
 bnd (L8 env g.2 ((all[g.1]?).bind (·.dst))) fun b=>if b=true then
  tst (AM7 base all ⟨dst,op,ty,pos,after,some g⟩ st (bB env op).1 (wE st (bB env op)).1 (bB env op).2 log)
   (bnd (bS C call op env st (base+8*i)) (AA0 C call all true base os (i+1) env dst (EY i (bB env op).2 log (wE st (bB env op)).1)))
  else cZ C call all true base os (i+1) ⟨sS env dst (.i (.lit undef)),st,log⟩:=(rfl)
end
attribute [simp] aT.eq_1 aT.eq_2
attribute [simp] bD.eq_1 bD.eq_2 bD.eq_3
attribute [simp] ABB.eq_1 ABB.eq_2
attribute [simp] AIH.eq_1 AIH.eq_2
attribute [simp] MN.eq_1
attribute [simp] jR.eq_1 jR.eq_2
attribute [simp] nS.eq_1 nS.eq_2
attribute [simp] fT.eq_1 fT.eq_2
attribute [simp] dropE.eq_1 dropE.eq_2 dropE.eq_3
attribute [simp] tN.eq_1 tN.eq_2 tN.eq_3
attribute [simp] cut.eq_1
attribute [simp] splice.eq_1 splice.eq_2 splice.eq_3 splice.eq_4 splice.eq_5
attribute [simp] EJ.eq_1
attribute [simp] qR.eq_1 qR.eq_2
attribute [simp] frz.eq_1 frz.eq_2 frz.eq_3 frz.eq_4 frz.eq_5 frz.eq_6
attribute [simp] wV.eq_1 wV.eq_2 wV.eq_3
attribute [simp] I5.eq_1 I5.eq_2 I5.eq_3
attribute [simp] rX.eq_1
attribute [simp] gB.eq_1 gB.eq_2
attribute [simp] l8.eq_1 l8.eq_2
attribute [simp] dD.eq_1 dD.eq_2 dD.eq_3 dD.eq_4 dD.eq_5 dD.eq_6 dD.eq_7 dD.eq_8 dD.eq_9
attribute [simp] aX.eq_1 aX.eq_2
attribute [simp] gW.eq_1 gW.eq_2 gW.eq_3 gW.eq_4 gW.eq_5 gW.eq_6 gW.eq_7
attribute [simp] ren.eq_1 ren.eq_2 ren.eq_3 ren.eq_4 ren.eq_5 ren.eq_6 ren.eq_7 ren.eq_8 ren.eq_9
attribute [simp] wK.eq_1 wK.eq_2
attribute [simp] FH.eq_1 FH.eq_2 FH.eq_3 FH.eq_4 FH.eq_5 FH.eq_6 FH.eq_7
attribute [simp] iQ.eq_1 iQ.eq_2
attribute [simp] fH.eq_1
attribute [simp] FM.eq_1 FM.eq_2
attribute [simp] reach.eq_1 reach.eq_2 reach.eq_3
attribute [simp] DY.eq_1
attribute [simp] nW.eq_1 nW.eq_2
attribute [simp] upto.eq_1 upto.eq_2
attribute [simp] gH.eq_1
attribute [simp] jE.eq_1 jE.eq_2
attribute [simp] ev.eq_1 ev.eq_2 ev.eq_3 ev.eq_4
attribute [simp] evL.eq_1 evL.eq_2
attribute [simp] evO.eq_1 evO.eq_2
attribute [simp] KP.eq_1 KP.eq_2 KP.eq_3 KP.eq_4 KP.eq_5 KP.eq_6 KP.eq_7 KP.eq_8 KP.eq_9 KP.eq_10 KP.eq_11 KP.eq_12 KP.eq_13 KP.eq_14 KP.eq_15
attribute [simp] shI.eq_1 shI.eq_2
attribute [simp] ABA.eq_1 ABA.eq_2 ABA.eq_3 ABA.eq_4 ABA.eq_5 ABA.eq_6 ABA.eq_7
attribute [simp] AMG.eq_1 AMG.eq_2
attribute [simp] AME.eq_1 AME.eq_2
attribute [simp] AIA.eq_1 AIA.eq_2
attribute [simp] AE0.eq_1 AE0.eq_2 AE0.eq_3 AE0.eq_4 AE0.eq_5 AGT.eq_1 AGT.eq_2 AGT.eq_3 AGT.eq_4 AMF.eq_1 AMF.eq_2
attribute [simp] unA.eq_1 unA.eq_2
attribute [simp] kD.eq_1
attribute [simp] iH.eq_1 iH.eq_2
attribute [simp] mF.eq_1 mF.eq_2
attribute [simp] dE.eq_1 dE.eq_2 dE.eq_3 dE.eq_4
attribute [simp] A9.eq_1 A9.eq_2
attribute [simp] qD.eq_1
attribute [simp] O8.eq_1 O8.eq_2
attribute [simp] AIF.eq_1
attribute [simp] l5.eq_1
attribute [simp] EL.eq_1 EL.eq_2
attribute [simp] Q8.eq_1
attribute [simp] AF7.eq_1 AF7.eq_2 AF7.eq_3 AF7.eq_4 AF7.eq_5
attribute [simp] wG.eq_1 wG.eq_2 wG.eq_3 wG.eq_4
attribute [simp] JR.eq_1 JR.eq_2
attribute [simp] partsOf.eq_1 partsOf.eq_2
attribute [simp] MG.eq_1 MG.eq_2
attribute [simp] CJ.eq_1
attribute [simp] nM.eq_1 nM.eq_2 nM.eq_3
attribute [simp] lI.eq_1 lI.eq_2
attribute [simp] dS.eq_1 dS.eq_2
attribute [simp] VI.eq_1 VI.eq_2
attribute [simp] IZ.eq_1 IZ.eq_2
attribute [simp] AGO.eq_1 AGO.eq_2
attribute [simp] FL.eq_1 FL.eq_2
attribute [simp] FK.eq_1 FK.eq_2
attribute [simp] loadAt.eq_1 loadAt.eq_2 loadAt.eq_3
attribute [simp] D6.eq_1
attribute [simp] oI.eq_1
attribute [simp] mM.eq_1
attribute [simp] storeAt.eq_1 storeAt.eq_2
attribute [simp] wF.eq_1
attribute [simp] eX.eq_1 eX.eq_2
attribute [simp] qA.eq_1 qA.eq_2
attribute [simp] iG.eq_1 iG.eq_2 iG.eq_3
attribute [simp] lV.eq_1 lV.eq_2 lV.eq_3
attribute [simp] qO.eq_1
attribute [simp] iN.eq_1
attribute [simp] eG.eq_1
attribute [simp] uD.eq_1 uD.eq_2
attribute [simp] fZ.eq_1 fZ.eq_2 fZ.eq_3 fZ.eq_4 fZ.eq_5
attribute [simp] VH.eq_1 VH.eq_2
attribute [simp] YD.eq_1
attribute [simp] ACM.eq_1 ACM.eq_2 ACM.eq_3 ACM.eq_4 ACM.eq_5
attribute [simp] PH.eq_1
attribute [simp] gY.eq_1 gY.eq_2 gY.eq_3 gY.eq_4
attribute [simp] I8.eq_1 I8.eq_2
attribute [simp] DJ.eq_1 DJ.eq_2 DJ.eq_3
attribute [simp] PQ.eq_1
attribute [simp] kJ.eq_1 kJ.eq_2
attribute [simp] HV.eq_1 HV.eq_2
attribute [simp] uK.eq_1
attribute [simp] nJ.eq_1
attribute [simp] QM.eq_1 QM.eq_2
attribute [simp] L8.eq_1 L8.eq_2
attribute [simp] tH.eq_1 tH.eq_2
attribute [simp] eP.eq_1 eP.eq_2
attribute [simp] wE.eq_1
attribute [simp] allIn.eq_1 allIn.eq_2
attribute [simp] PG.eq_1 PG.eq_2
attribute [simp] AM7.eq_1
attribute [simp] ACS.eq_1 ACS.eq_2
attribute [simp] nT.eq_1 nT.eq_2
attribute [simp] Z6.eq_1
attribute [simp] mW.eq_1 mW.eq_2
attribute [simp] tJ.eq_1
attribute [simp] wN.eq_1 wN.eq_2
attribute [simp] UU.eq_1 UU.eq_2
attribute [simp] EY.eq_1 EY.eq_2
attribute [simp] mD.eq_1 mD.eq_2
attribute [simp] vQ.eq_1 vQ.eq_2
attribute [simp] uZ.eq_1
attribute [simp] settle.eq_1
attribute [simp] AE2.eq_1 u7.eq_1 u7.eq_2 qI.eq_1 qI.eq_2 M9.eq_1 nP.eq_1 ADS.eq_1 J7.eq_1 DW.eq_1 R6.eq_1 tZ.eq_1 tZ.eq_2 R7.eq_1 GD.eq_1 Q5.eq_1 KD.eq_1 setSt.eq_1 setSt.eq_2 setSt.eq_3
@[simp] theorem AIU (k:Nat):J7 (.exit k)=.over (.exit k):=(rfl)
@[simp] theorem AHQ (k:Nat):DW (.exit k)=false:=(rfl)
@[simp] theorem AJ8:DW .ret=false:=(rfl)
@[simp] theorem AK5:J7 .ret=.over .ret:=(rfl)
@[simp] theorem ANQ (vs:List AV):Q5 [] vs=[]:=(rfl)
@[simp] theorem AMD (vs:List AV) (E:List (Nat×AV)):KD [] vs E=E:=(rfl)
attribute [simp] UI.eq_1 UI.eq_2 UI.eq_3 UI.eq_4
attribute [simp] EP.eq_1 EP.eq_2 EP.eq_3 EP.eq_4
attribute [simp] QB.eq_1
attribute [simp] ZV.eq_1 ZV.eq_2
attribute [simp] R8.eq_1 R8.eq_2
attribute [simp] BZ.eq_1 BZ.eq_2
attribute [simp] pK.eq_1 pK.eq_2
attribute [simp] R9.eq_1 R9.eq_2
attribute [simp] rD.eq_1 rD.eq_2
attribute [simp] PE.eq_1
attribute [simp] finish.eq_1
attribute [simp] WN.eq_1 WN.eq_2 WN.eq_3 WN.eq_4
attribute [simp] qW.eq_1 qW.eq_2 qW.eq_3
attribute [simp] EH.eq_1 EH.eq_2
attribute [simp] enter.eq_1
attribute [simp] tQ.eq_1 tQ.eq_2
attribute [simp] RA.eq_1 RA.eq_2
attribute [simp] qV.eq_1 qV.eq_2 qV.eq_3 qV.eq_4 qV.eq_5
attribute [simp] vU.eq_1 vU.eq_2
attribute [simp] ER.eq_1 ER.eq_2
attribute [simp] AB5.eq_1 AB5.eq_2 AB5.eq_3 AB5.eq_4
attribute [simp] AJ.eq_1 AJ.eq_2
attribute [simp] ABC.eq_1 ABC.eq_2
attribute [simp] OH.eq_1 OH.eq_2 OH.eq_3
attribute [simp] IW.eq_1 IW.eq_2
attribute [simp] FV.eq_1
attribute [simp] gF.eq_1 gF.eq_2
attribute [simp] storeT.eq_1 storeT.eq_2
@[simp] theorem AGK (st:Store) (v:AV):C8 st [v]=some ([v],st):=(rfl)
@[simp] theorem AGL (st:Store):C8 st []=some ([],st):=(rfl)
@[simp] theorem AGJ (st:Store) (a b:AV) (r:List AV):C8 st (a::b::r)=rD st (a::b::r):=(rfl)
@[simp] theorem ALI (st:Store) (cs:List AV):vL st (.agg cs)=bnd (oL st (.agg cs)) fun p=>some (.i p.1,p.2):=(rfl)
@[simp] theorem AJ5 (st:Store) :vL st .nils=some (.nils,st):=(rfl)
@[simp] theorem ALG (st:Store) (i o:Nat):vL st (.own i o)=some ((.own i o),st):=(rfl)
@[simp] theorem AJ4 (st:Store) (i k j o:Nat):vL st (.ownE i k j o)=some ((.ownE i k j o),st):=(rfl)
@[simp] theorem ALH (st:Store) (i k o l:Nat):vL st (.osl i k o l)=some ((.osl i k o l),st):=(rfl)
@[simp] theorem ANK (st:Store) (f:Fn) (cs:List AV):vL st (.fn f cs)=some ((.fn f cs),st):=(rfl)
@[simp] theorem AOV (st:Store) (v:IV):vL st (.i v)=some ((.i v),st):=(rfl)
@[simp] theorem ALF (st:Store) (cs:List AV):vL st (.tup cs)=some ((.tup cs),st):=(rfl)
@[simp] theorem AJ6 (st:Store) :vL st .junk=some (.junk,st):=(rfl)
@[simp] theorem AMV (all:List Oper) (after:List Edge) (j:Nat):eY all 3 after j=if tJ after j=true then true else after.any fun e=>Region.binds .any e && eY all 2 (qP all e.on) j:=(rfl)
@[simp] theorem AMW (all:List Oper) (after:List Edge) (j:Nat):eY all 2 after j=if tJ after j=true then true else after.any fun e=>Region.binds .any e && eY all 1 (qP all e.on) j:=(rfl)
@[simp] theorem AMX (all:List Oper) (after:List Edge) (j:Nat):eY all 1 after j=if tJ after j=true then true else after.any fun e=>Region.binds .any e && eY all 0 (qP all e.on) j:=(rfl)
@[simp] theorem AMY (all:List Oper) (after:List Edge) (j:Nat):eY all 0 after j=tJ after j:=(rfl)
attribute [simp] qP.eq_1
attribute [simp] undef
attribute [simp] wide
end Go.Av
namespace Go.Proofs.YtjdfjgmebalaaaaGreat
open Go Go.Av
def GS:FuncId→List Nat
 | 3=>[0,1,2,3,4,5,8,9,10,11,12,13,14,15,18,23,28,33,58,63,68,73,78]
 | 4=>[0,2,3,4,5,6,7,8,9,10,11,12,13,16,59,81,95]
 | 5=>[0,1,2,4,5,6,7,8,9,10,11,12,13,16,21,37,42,47,61,69,72,81,86,89]
 | 6=>[0,1,2,3,5,6,7,8,9,10,11,12,13,14,15,16,17,18,19,22,27,32,64,69,74,79,101,109,112,131,136,139]
 | 7=>[0,1,2,3,6,7,8,9,10,11,12,13,14,15,16,17,18,19,22,27,32,64,69,74,79,101,109,112,131,136,139]
 | 8=>[0,1,2,4,5,6,7,8,9,10,11,12,13,14,15,16,19,24,52,57,62,82,93,98,101,119,124,129,132]
 | 9=>[0,1,2,4,5,6,7,8,9,10,11,12,13,14,15,16,21,26,54,59,64,84,95,100,103,121,126,131,134]
 | 10=>[0,1,2,4,10,16,22]
 | 11=>[0,1,4,5,11,15,25]
 | 12=>[0,1,2,3,4,5,8,9,10]
 | 13=>[0,1,2,3]
 | 14=>[0,2,3,4,11]
 | 15=>[0,2,3,4,11]
 | 16=>[0,1,2,3,4,5,8,9,10]
 | 17=>[0,1,2,3,4,9,14,20,26,32]
 | 18=>[0,1,4,5,10,14,25]
 | 19=>[0,1,4,5,10,14,26]
 | 20=>[0,2,3]
 | 21=>[0,1,2,3,4,5,6,7,8,9,10,11,12,13,18,26,27,36,42]
 | 22=>[0,1,2,4,5,6,7,8,9,10,11,12,13,15,19,26,50,68]
 | 23=>[0,1,2,4,6]
 | 24=>[0,1,2,3,4,5,42,47,61]
 | 25=>[0,1,4,5,10,14,25]
 | 26=>[0,1,2,3,5,6,7,8,9,10,11,15,21,36]
 | 27=>[0,1,2,4,8]
 | 28=>[0,1,2,4,5,6,10,12,13]
 | 29=>[0,1,2,4]
 | 30=>[0,1,4,5,9]
 | 31=>[0,1,4,5,9]
 | 32=>[0,1,4,5,9,18,29]
 | 33=>[0,1,2,4,10]
 | 34=>[0,1,2,3,5,6,7,17]
 | 35=>[0,1,2,3]
 | 36=>[0,1,2,3,4,9,15]
 | 37=>[0,1,2,4]
 | 38=>[0,1,2,4,10,16,22]
 | 39=>[0,1,2,3,6,7,8,9,10,11,20,27,41]
 | 40=>[0,1,2,3,6,7,8,10,11,12,21,24,25,26,27,38]
 | 41=>[0,1,2,4,5,6,7,8,9,10,16,23,39,45]
 | 42=>[0,1,2,4,5,6,7,8,9,13,18,25]
 | 43=>[0,1,4,5,11,15,25]
 | 44=>[0,2,3,4,11]
 | 45=>[0,1,4,5,10,14,26]
 | 46=>[0,1,4,5,9]
 | 47=>[0,1,2,4,10]
 | 48=>[0,1,4,5,11,15,25]
 | 49=>[0,1,4,10]
 | 50=>[0,1,4,5,11,15,25]
 | 51=>[0,1,2,3,4,5,6,7,46,51,65,70,83,88,102]
 | 52=>[0,2,3,4,11]
 | 53=>[0,2,3,4,11]
 | 54=>[0,1,4,5,6,38,62,67,68,69,84,90,91,92,107]
 | 55=>[0,1,4,5,10,14,26]
 | 56=>[0,1,4,5,10,14,26]
 | 57=>[0,2,3,4,5,6]
 | 58=>[0,2,3,4,6,7,8]
 | 59=>[0,2,3,4,5,6,7,14,38,39,40,76,77,78]
 | 60=>[0,1,2,3,4]
 | 61=>[0,1,2,4,5,6,11,25]
 | 62=>[0,1,2,3,4,5,19,37]
 | 63=>[0,1,2,4,5,6,14]
 | 64=>[0,1,2,4,5,6,7,8,9,11,20,24,42]
 | 65=>[0,1,2,3,5,6,7,8,9,10,19,30,40]
 | 66=>[0,1,4,5,6,7,8,11,13,14,15,28,36]
 | 67=>[0,1,4,5,10,14,26]
 | 68=>[0,1,2,4,7]
 | 69=>[0,1,4,6,9,10,11,12,13,26]
 | 70=>[0,1,2,3,8,9,10,11,12,19,37]
 | 71=>[0,1,2,4,7]
 | 72=>[0,1,4,5,9]
 | 73=>[0,1,4,5,9]
 | 74=>[0,1,4,5,9,17]
 | 75=>[0,1,4,5,9,18,27,39,49,60]
 | 76=>[0,1,4,5,9,18,27,38,47,56]
 | 77=>[0,2]
 | 78=>[0,1,4,5,6,9,10,12]
 | 79=>[0,1,2,4,10,16]
 | 80=>[0,1,2,3]
 | 81=>[0,1,2,3,4,9,15,21]
 | 82=>[0,1,2,4,10]
 | 83=>[0,1,2,3,4,5,33,38,52]
 | 84=>[0,1,2,3]
 | 85=>[0,1,4,5,10,12,13,14,24]
 | 86=>[0,1,4,5,49,54,55,56,71]
 | 87=>[0,1,2,3,4,9,14,20,26]
 | 88=>[0,2,5]
 | 89=>[0,2,3,4,5,13]
 | 90=>[0,1,4,5,6,11,28]
 | 91=>[0,2,3,6]
 | 92=>[0,2,3,4,5,6,13,37,38,39]
 | 93=>[0,2,3,6]
 | 94=>[0,2,3,6]
 | 95=>[0,1,2]
 | 96=>[0,1,2,3,8,9,11,12,14,28,35,40,41,42,58]
 | 97=>[0,1,2,4]
 | 98=>[0,1,2,3,4,16]
 | 99=>[0,1,2,4,5,6,9,23,24,31,56,77,82,93,98]
 | 100=>[0,1,2,4,6,7,18]
 | 101=>[0,1,2,4,5,6,10,22]
 | 102=>[0,1,2,3,6,7,8,9,10,11,12,13,14,24,71,99,120]
 | 103=>[0,1,2,3,5,6,7,10]
 | 104=>[0,1,2,3,6,7,8,9,23,28,41,47,48,55,61,70,74,82,106,114,122,126,131,144]
 | 105=>[0,1,2,4,5,18,30,31,32,33,50,72]
 | 106=>[0,1,2,6,7,8,9,10,15,16,17,36,37,47,62,82,103,108,116,123]
 | 107=>[0,1,2,3,4]
 | 108=>[0,2,4,12,13,14,15,16,21]
 | 109=>[0,1,2,6,7,8,9,10,31,60,87,92,106,118,119,120,137]
 | 110=>[0,4,5,6,7,8,16]
 | 111=>[0,4,5,6,21]
 | 112=>[0,1,4,5,6,7,8,16,38]
 | 113=>[0,1,4,5,6,7,8,9,10,18,34]
 | 114=>[0,4,5,6,7,8,16]
 | 115=>[0,1,4,5,6,7,8,9,10,15,37,38,39]
 | 116=>[0,1,4,5,6,7,8,9,10,11,19,36,49]
 | 117=>[0,4,5,6,7,8,16]
 | 118=>[0,4,5,30]
 | 119=>[0,1,4,5,6,7,8,9,17]
 | 120=>[0,1,4,5,6,7,8,9,10,11,26,50,51,52,71]
 | 121=>[0,2,3,7,15]
 | 122=>[0,1,2]
 | 123=>[0,1,2,3]
 | 124=>[0,1,2,3,4,9,14]
 | 125=>[0,2,3,4,10]
 | 126=>[0,1,4,5,10,11,17,23,33]
 | 127=>[0,1,4,5,6,24,36]
 | 128=>[0,1,4]
 | 129=>[0,1,2,3,4,5,6,7,8,16,24,36,43]
 | 130=>[0,1,2,6,7,8,15]
 | 131=>[0,1,4,5,12,18,19,25,33]
 | 132=>[0,1,2,6]
 | 133=>[0,1,2,4,5,23,26,54]
 | 134=>[0,1,2,3,4,5,6,8,9,17,26,42,64,88,96,98,110]
 | 135=>[0,1,2,4,5,13,27]
 | 136=>[0,1,2,3,6,7,8,9,10,11,12,13,14,26,42,62,81,112,150,169,190,212]
 | 137=>[0,1,4,5,6,10]
 | 138=>[0,1,2,4,5,6,9,27]
 | 139=>[0,1,2,3,4,6,7,9,12,14,16]
 | 140=>[0,1,2,4]
 | 141=>[0,1,4,5,9,18,21]
 | 142=>[0,1,4,5,9,35]
 | 143=>[0,2]
 | 144=>[0,2,6,7,11,27]
 | 145=>[0,1,4,5,6,10,11,15,25,46,59,64,66,82]
 | 146=>[0,2,3,4,5,7,10,13,15]
 | 147=>[0,1,2,6,7,8,13,14,21,22,26,27,35,46,47,48,59,65]
 | 148=>[0,1,4,5,6,22]
 | 149=>[0,1,2,3,4]
 | 150=>[0,1,2,3,4]
 | 151=>[0,2,3,4,9,19,20,21]
 | 152=>[0,1,2,3,5,6,7,8]
 | 153=>[0,1,3,4]
 | 154=>[0,1,3]
 | 155=>[0,1,2,4,7]
 | 156=>[0,2]
 | 157=>[0,1,2,3,6,7,8,10,14,18,19,20,26,27,28,29,38]
 | 158=>[0,1,2,3,4,6,7,8,9,14,20,21,22,30,42]
 | 159=>[0,1,4,5,6,18]
 | 160=>[0,1,4,5,10,11,17,24]
 | 161=>[0,1,4,5,6,10,19]
 | 162=>[0,1,4,5,6,10]
 | 163=>[0,1,4,5,6,11,16]
 | 164=>[0,2,3]
 | 165=>[0,1,2,3,6]
 | 166=>[0,1,2,4,15]
 | 167=>[0,1,2,3,4]
 | 168=>[0,1,2,3,6,7]
 | 169=>[0,1,2,3,6]
 | 170=>[0,1,4,5,6,11]
 | 171=>[0,1,2,3,6,7,24,29,41,43,44,57]
 | 172=>[0,2,8]
 | 173=>[0,1,4,5,6,35,53]
 | 174=>[0,1,4,5,7,10,11,12,13,14,24]
 | 175=>[0,1,2,4]
 | 176=>[0,1,4,5,6,12,39,40,41]
 | 177=>[0,1,3,8]
 | 178=>[0,1,4,5,6,10,11,20,37,38,50,54,59]
 | 179=>[0,2,3,4,9,10,11]
 | 180=>[0,1,2,6,7,27,32,33,34,46]
 | 181=>[0,1,3,8]
 | 182=>[0,1,4,5,6,7,8,9,10,11,12,31,44,45,54,62,77,88,110,122,128,146,151,154]
 | 183=>[0,1,4]
 | 184=>[0,1,2,6,7,8,9,10,18,21,37]
 | 185=>[0,2,3,7,8,11]
 | 186=>[0,1,4,5,6,16,29]
 | 187=>[0,2,5]
 | 188=>[0,1,4,5,6,7,8,13,24]
 | 189=>[0,1,3,4,5,8,17]
 | 190=>[0,1,2,4,5,6,7,9,10,17,29,30,42,46,49,66,76,84,89]
 | 191=>[0,1,4,5,6,7,8,12,18,26]
 | 192=>[0,2,3,4,7,10]
 | 193=>[0,1,2]
 | 194=>[0,1,2,3,6]
 | 195=>[0,1,2,6,7,8,28,62,90,95,96,97,109]
 | 196=>[0,1,2,3,6]
 | 197=>[0,1,2,6,7,9,11,17,19,20,21,22,26,27,28,29,46,54,66]
 | 198=>[0,1,2,6,7,8,9,20,32,33,34,39,46,59,66]
 | 199=>[0,1,2]
 | 200=>[0,1,2,3,4,5,9]
 | 201=>[0,2]
 | 202=>[0,1,4,5,6,18,32]
 | 203=>[0,1,2,3,6]
 | 204=>[0,1,2,6,7,8,9,11,15,29]
 | 205=>[0,2,3,4,7,10]
 | 206=>[0,1,2,4]
 | 207=>[0,2,3,5,9,10,11,12,19]
 | 208=>[0,1,2,4,5,6,7,16,25,33,34,42,50,58]
 | 209=>[0,1,2,4,5,6,7,8,16,32,34,35,43,51,59]
 | 210=>[0,2,3,4,7]
 | 211=>[0,2]
 | 212=>[0]
 | 213=>[0,2,4]
 | 214=>[0,2,3,7]
 | 215=>[0,2,3]
 | 216=>[0,2,4]
 | 217=>[0,1,4,5,12]
 | 218=>[0,2,4]
 | 219=>[0,2,5]
 | 235=>[]
 | _=>[]
def bU:FuncId→Bool
 | 89=>true
 | 90=>true
 | 92=>true
 | 95=>true
 | 100=>true
 | 125=>true
 | 126=>true
 | 127=>true
 | 128=>true
 | 130=>true
 | 131=>true
 | 154=>true
 | 155=>true
 | 159=>true
 | 160=>true
 | 161=>true
 | 162=>true
 | 177=>true
 | 181=>true
 | 182=>true
 | 183=>true
 | 184=>true
 | 185=>true
 | 187=>true
 | 198=>true
 | _=>false
def keepR:FuncId→Bool
 | 88=>true
 | 162=>true
 | 130=>true
 | 125=>true
 | 126=>true
 | 160=>true
 | 91=>true
 | 94=>true
 | 93=>true
 | 137=>true
 | 62=>true
 | 100=>true
 | 60=>true
 | 188=>true
 | 201=>true
 | 129=>true
 | _=>false
def JW:TypeId→Bool
 | 108=>true
 | 109=>true
 | 113=>true
 | _=>false
@[simp] theorem kR3:keepR 3=false:=(rfl)
@[simp] theorem gS3:GS 3=[0,1,2,3,4,5,8,9,10,11,12,13,14,15,18,23,28,33,58,63,68,73,78]:=(rfl)
@[simp] theorem AaP:bU 10=false:=(rfl)
@[simp] theorem AbV:keepR 10=false:=(rfl)
@[simp] theorem Ad9:GS 10=[0,1,2,4,10,16,22]:=(rfl)
@[simp] theorem AaO:bU 11=false:=(rfl)
@[simp] theorem AbU:keepR 11=false:=(rfl)
@[simp] theorem Ad8:GS 11=[0,1,4,5,11,15,25]:=(rfl)
@[simp] theorem AaN:bU 12=false:=(rfl)
@[simp] theorem AbT:keepR 12=false:=(rfl)
@[simp] theorem Ad7:GS 12=[0,1,2,3,4,5,8,9,10]:=(rfl)
@[simp] theorem AaM:bU 13=false:=(rfl)
@[simp] theorem AbS:keepR 13=false:=(rfl)
@[simp] theorem Ad6:GS 13=[0,1,2,3]:=(rfl)
@[simp] theorem AaL:bU 14=false:=(rfl)
@[simp] theorem AbR:keepR 14=false:=(rfl)
@[simp] theorem Ad5:GS 14=[0,2,3,4,11]:=(rfl)
@[simp] theorem AaK:bU 15=false:=(rfl)
@[simp] theorem AbQ:keepR 15=false:=(rfl)
@[simp] theorem Ad4:GS 15=[0,2,3,4,11]:=(rfl)
@[simp] theorem AaJ:bU 16=false:=(rfl)
@[simp] theorem AbP:keepR 16=false:=(rfl)
@[simp] theorem Ad3:GS 16=[0,1,2,3,4,5,8,9,10]:=(rfl)
@[simp] theorem AaI:bU 17=false:=(rfl)
@[simp] theorem AbO:keepR 17=false:=(rfl)
@[simp] theorem Ad2:GS 17=[0,1,2,3,4,9,14,20,26,32]:=(rfl)
@[simp] theorem AaH:bU 18=false:=(rfl)
@[simp] theorem AbN:keepR 18=false:=(rfl)
@[simp] theorem Ad1:GS 18=[0,1,4,5,10,14,25]:=(rfl)
@[simp] theorem AaG:bU 19=false:=(rfl)
@[simp] theorem AbM:keepR 19=false:=(rfl)
@[simp] theorem Ad0:GS 19=[0,1,4,5,10,14,26]:=(rfl)
@[simp] theorem AaF:bU 26=false:=(rfl)
@[simp] theorem AbL:keepR 26=false:=(rfl)
@[simp] theorem AcZ:GS 26=[0,1,2,3,5,6,7,8,9,10,11,15,21,36]:=(rfl)
@[simp] theorem AaE:bU 33=false:=(rfl)
@[simp] theorem AbK:keepR 33=false:=(rfl)
@[simp] theorem AcY:GS 33=[0,1,2,4,10]:=(rfl)
@[simp] theorem AaD:bU 34=false:=(rfl)
@[simp] theorem AbJ:keepR 34=false:=(rfl)
@[simp] theorem AcX:GS 34=[0,1,2,3,5,6,7,17]:=(rfl)
@[simp] theorem AaC:bU 35=false:=(rfl)
@[simp] theorem AbI:keepR 35=false:=(rfl)
@[simp] theorem AcW:GS 35=[0,1,2,3]:=(rfl)
@[simp] theorem AaB:bU 36=false:=(rfl)
@[simp] theorem AbH:keepR 36=false:=(rfl)
@[simp] theorem AcV:GS 36=[0,1,2,3,4,9,15]:=(rfl)
@[simp] theorem AaA:bU 39=false:=(rfl)
@[simp] theorem AbG:keepR 39=false:=(rfl)
@[simp] theorem AcU:GS 39=[0,1,2,3,6,7,8,9,10,11,20,27,41]:=(rfl)
@[simp] theorem Aa9:bU 40=false:=(rfl)
@[simp] theorem AbF:keepR 40=false:=(rfl)
@[simp] theorem AcT:GS 40=[0,1,2,3,6,7,8,10,11,12,21,24,25,26,27,38]:=(rfl)
@[simp] theorem Aa8:bU 48=false:=(rfl)
@[simp] theorem AbE:keepR 48=false:=(rfl)
@[simp] theorem AcS:GS 48=[0,1,4,5,11,15,25]:=(rfl)
@[simp] theorem Aa7:bU 49=false:=(rfl)
@[simp] theorem AbD:keepR 49=false:=(rfl)
@[simp] theorem AcR:GS 49=[0,1,4,10]:=(rfl)
@[simp] theorem Aa6:bU 50=false:=(rfl)
@[simp] theorem AbC:keepR 50=false:=(rfl)
@[simp] theorem AcQ:GS 50=[0,1,4,5,11,15,25]:=(rfl)
@[simp] theorem Aa5:bU 51=false:=(rfl)
@[simp] theorem AbB:keepR 51=false:=(rfl)
@[simp] theorem AcP:GS 51=[0,1,2,3,4,5,6,7,46,51,65,70,83,88,102]:=(rfl)
@[simp] theorem Aa4:bU 52=false:=(rfl)
@[simp] theorem AbA:keepR 52=false:=(rfl)
@[simp] theorem AcO:GS 52=[0,2,3,4,11]:=(rfl)
@[simp] theorem Aa3:bU 53=false:=(rfl)
@[simp] theorem Ab9:keepR 53=false:=(rfl)
@[simp] theorem AcN:GS 53=[0,2,3,4,11]:=(rfl)
@[simp] theorem Aa2:bU 54=false:=(rfl)
@[simp] theorem Ab8:keepR 54=false:=(rfl)
@[simp] theorem AcM:GS 54=[0,1,4,5,6,38,62,67,68,69,84,90,91,92,107]:=(rfl)
@[simp] theorem Aa1:bU 55=false:=(rfl)
@[simp] theorem Ab7:keepR 55=false:=(rfl)
@[simp] theorem AcL:GS 55=[0,1,4,5,10,14,26]:=(rfl)
@[simp] theorem Aa0:bU 56=false:=(rfl)
@[simp] theorem Ab6:keepR 56=false:=(rfl)
@[simp] theorem AcK:GS 56=[0,1,4,5,10,14,26]:=(rfl)
@[simp] theorem AZZ:bU 59=false:=(rfl)
@[simp] theorem AcJ:GS 59=[0,2,3,4,5,6,7,14,38,39,40,76,77,78]:=(rfl)
@[simp] theorem AZY:bU 62=false:=(rfl)
@[simp] theorem Ab5:keepR 62=true:=(rfl)
@[simp] theorem AcI:GS 62=[0,1,2,3,4,5,19,37]:=(rfl)
@[simp] theorem AZX:bU 65=false:=(rfl)
@[simp] theorem Ab4:keepR 65=false:=(rfl)
@[simp] theorem AcH:GS 65=[0,1,2,3,5,6,7,8,9,10,19,30,40]:=(rfl)
@[simp] theorem AZW:bU 68=false:=(rfl)
@[simp] theorem Ab3:keepR 68=false:=(rfl)
@[simp] theorem AcG:GS 68=[0,1,2,4,7]:=(rfl)
@[simp] theorem AZV:bU 69=false:=(rfl)
@[simp] theorem Ab2:keepR 69=false:=(rfl)
@[simp] theorem AcF:GS 69=[0,1,4,6,9,10,11,12,13,26]:=(rfl)
@[simp] theorem AZU:bU 70=false:=(rfl)
@[simp] theorem Ab1:keepR 70=false:=(rfl)
@[simp] theorem AcE:GS 70=[0,1,2,3,8,9,10,11,12,19,37]:=(rfl)
@[simp] theorem AZT:bU 71=false:=(rfl)
@[simp] theorem Ab0:keepR 71=false:=(rfl)
@[simp] theorem AcD:GS 71=[0,1,2,4,7]:=(rfl)
@[simp] theorem AZS:bU 82=false:=(rfl)
@[simp] theorem AaZ:keepR 82=false:=(rfl)
@[simp] theorem AcC:GS 82=[0,1,2,4,10]:=(rfl)
@[simp] theorem AZR:bU 83=false:=(rfl)
@[simp] theorem AaY:keepR 83=false:=(rfl)
@[simp] theorem AcB:GS 83=[0,1,2,3,4,5,33,38,52]:=(rfl)
@[simp] theorem AZQ:bU 84=false:=(rfl)
@[simp] theorem AaX:keepR 84=false:=(rfl)
@[simp] theorem AcA:GS 84=[0,1,2,3]:=(rfl)
@[simp] theorem AZP:bU 85=false:=(rfl)
@[simp] theorem AaW:keepR 85=false:=(rfl)
@[simp] theorem Ac9:GS 85=[0,1,4,5,10,12,13,14,24]:=(rfl)
@[simp] theorem AZO:bU 86=false:=(rfl)
@[simp] theorem AaV:keepR 86=false:=(rfl)
@[simp] theorem Ac8:GS 86=[0,1,4,5,49,54,55,56,71]:=(rfl)
@[simp] theorem AZN:bU 87=false:=(rfl)
@[simp] theorem AaU:keepR 87=false:=(rfl)
@[simp] theorem Ac7:GS 87=[0,1,2,3,4,9,14,20,26]:=(rfl)
@[simp] theorem AZM:bU 91=false:=(rfl)
@[simp] theorem AaT:keepR 91=true:=(rfl)
@[simp] theorem Ac6:GS 91=[0,2,3,6]:=(rfl)
@[simp] theorem AZL:bU 92=true:=(rfl)
@[simp] theorem Ac5:GS 92=[0,2,3,4,5,6,13,37,38,39]:=(rfl)
@[simp] theorem AZK:bU 93=false:=(rfl)
@[simp] theorem AaS:keepR 93=true:=(rfl)
@[simp] theorem Ac4:GS 93=[0,2,3,6]:=(rfl)
@[simp] theorem AZJ:bU 94=false:=(rfl)
@[simp] theorem AaR:keepR 94=true:=(rfl)
@[simp] theorem Ac3:GS 94=[0,2,3,6]:=(rfl)
@[simp] theorem AZI:bU 98=false:=(rfl)
@[simp] theorem AaQ:keepR 98=false:=(rfl)
@[simp] theorem Ac2:GS 98=[0,1,2,3,4,16]:=(rfl)
@[simp] theorem ATG:bU 101=false:=(rfl)
@[simp] theorem AVQ:keepR 101=false:=(rfl)
@[simp] theorem AYB:GS 101=[0,1,2,4,5,6,10,22]:=(rfl)
@[simp] theorem ATF:bU 102=false:=(rfl)
@[simp] theorem AVP:keepR 102=false:=(rfl)
@[simp] theorem AYA:GS 102=[0,1,2,3,6,7,8,9,10,11,12,13,14,24,71,99,120]:=(rfl)
@[simp] theorem ATE:bU 103=false:=(rfl)
@[simp] theorem AVO:keepR 103=false:=(rfl)
@[simp] theorem AY9:GS 103=[0,1,2,3,5,6,7,10]:=(rfl)
@[simp] theorem ATD:bU 104=false:=(rfl)
@[simp] theorem AVN:keepR 104=false:=(rfl)
@[simp] theorem AY8:GS 104=[0,1,2,3,6,7,8,9,23,28,41,47,48,55,61,70,74,82,106,114,122,126,131,144]:=(rfl)
@[simp] theorem ATC:bU 108=false:=(rfl)
@[simp] theorem AVM:keepR 108=false:=(rfl)
@[simp] theorem AY7:GS 108=[0,2,4,12,13,14,15,16,21]:=(rfl)
@[simp] theorem ATB:bU 109=false:=(rfl)
@[simp] theorem AVL:keepR 109=false:=(rfl)
@[simp] theorem AY6:GS 109=[0,1,2,6,7,8,9,10,31,60,87,92,106,118,119,120,137]:=(rfl)
@[simp] theorem ATA:bU 110=false:=(rfl)
@[simp] theorem AVK:keepR 110=false:=(rfl)
@[simp] theorem AY5:GS 110=[0,4,5,6,7,8,16]:=(rfl)
@[simp] theorem AT9:bU 111=false:=(rfl)
@[simp] theorem AVJ:keepR 111=false:=(rfl)
@[simp] theorem AY4:GS 111=[0,4,5,6,21]:=(rfl)
@[simp] theorem AT8:bU 112=false:=(rfl)
@[simp] theorem AVI:keepR 112=false:=(rfl)
@[simp] theorem AY3:GS 112=[0,1,4,5,6,7,8,16,38]:=(rfl)
@[simp] theorem AT7:bU 113=false:=(rfl)
@[simp] theorem AVH:keepR 113=false:=(rfl)
@[simp] theorem AY2:GS 113=[0,1,4,5,6,7,8,9,10,18,34]:=(rfl)
@[simp] theorem AT6:bU 114=false:=(rfl)
@[simp] theorem AVG:keepR 114=false:=(rfl)
@[simp] theorem AY1:GS 114=[0,4,5,6,7,8,16]:=(rfl)
@[simp] theorem AT5:bU 115=false:=(rfl)
@[simp] theorem AVF:keepR 115=false:=(rfl)
@[simp] theorem AY0:GS 115=[0,1,4,5,6,7,8,9,10,15,37,38,39]:=(rfl)
@[simp] theorem AT4:bU 116=false:=(rfl)
@[simp] theorem AVE:keepR 116=false:=(rfl)
@[simp] theorem AXZ:GS 116=[0,1,4,5,6,7,8,9,10,11,19,36,49]:=(rfl)
@[simp] theorem AT3:bU 117=false:=(rfl)
@[simp] theorem AVD:keepR 117=false:=(rfl)
@[simp] theorem AXY:GS 117=[0,4,5,6,7,8,16]:=(rfl)
@[simp] theorem AT2:bU 118=false:=(rfl)
@[simp] theorem AVC:keepR 118=false:=(rfl)
@[simp] theorem AXX:GS 118=[0,4,5,30]:=(rfl)
@[simp] theorem AT1:bU 119=false:=(rfl)
@[simp] theorem AVB:keepR 119=false:=(rfl)
@[simp] theorem AXW:GS 119=[0,1,4,5,6,7,8,9,17]:=(rfl)
@[simp] theorem AT0:bU 120=false:=(rfl)
@[simp] theorem AVA:keepR 120=false:=(rfl)
@[simp] theorem AXV:GS 120=[0,1,4,5,6,7,8,9,10,11,26,50,51,52,71]:=(rfl)
@[simp] theorem ASZ:bU 121=false:=(rfl)
@[simp] theorem AV9:keepR 121=false:=(rfl)
@[simp] theorem AXU:GS 121=[0,2,3,7,15]:=(rfl)
@[simp] theorem ASY:bU 123=false:=(rfl)
@[simp] theorem AV8:keepR 123=false:=(rfl)
@[simp] theorem AXT:GS 123=[0,1,2,3]:=(rfl)
@[simp] theorem ASW:bU 124=false:=(rfl)
@[simp] theorem AV7:keepR 124=false:=(rfl)
@[simp] theorem AXS:GS 124=[0,1,2,3,4,9,14]:=(rfl)
@[simp] theorem ASV:bU 132=false:=(rfl)
@[simp] theorem AV6:keepR 132=false:=(rfl)
@[simp] theorem AXR:GS 132=[0,1,2,6]:=(rfl)
@[simp] theorem ASU:bU 136=false:=(rfl)
@[simp] theorem AV5:keepR 136=false:=(rfl)
@[simp] theorem AXQ:GS 136=[0,1,2,3,6,7,8,9,10,11,12,13,14,26,42,62,81,112,150,169,190,212]:=(rfl)
@[simp] theorem AST:bU 137=false:=(rfl)
@[simp] theorem AV4:keepR 137=true:=(rfl)
@[simp] theorem AXP:GS 137=[0,1,4,5,6,10]:=(rfl)
@[simp] theorem ASS:bU 138=false:=(rfl)
@[simp] theorem AV3:keepR 138=false:=(rfl)
@[simp] theorem AXO:GS 138=[0,1,2,4,5,6,9,27]:=(rfl)
@[simp] theorem ASR:bU 139=false:=(rfl)
@[simp] theorem AV2:keepR 139=false:=(rfl)
@[simp] theorem AXN:GS 139=[0,1,2,3,4,6,7,9,12,14,16]:=(rfl)
@[simp] theorem ASQ:bU 140=false:=(rfl)
@[simp] theorem AV1:keepR 140=false:=(rfl)
@[simp] theorem AXM:GS 140=[0,1,2,4]:=(rfl)
@[simp] theorem ASP:bU 141=false:=(rfl)
@[simp] theorem AV0:keepR 141=false:=(rfl)
@[simp] theorem AXL:GS 141=[0,1,4,5,9,18,21]:=(rfl)
@[simp] theorem ASO:bU 142=false:=(rfl)
@[simp] theorem AUZ:keepR 142=false:=(rfl)
@[simp] theorem AXK:GS 142=[0,1,4,5,9,35]:=(rfl)
@[simp] theorem ASN:bU 143=false:=(rfl)
@[simp] theorem AUY:keepR 143=false:=(rfl)
@[simp] theorem AXJ:GS 143=[0,2]:=(rfl)
@[simp] theorem ASM:bU 146=false:=(rfl)
@[simp] theorem AUX:keepR 146=false:=(rfl)
@[simp] theorem AXI:GS 146=[0,2,3,4,5,7,10,13,15]:=(rfl)
@[simp] theorem ASL:bU 147=false:=(rfl)
@[simp] theorem AUW:keepR 147=false:=(rfl)
@[simp] theorem AXH:GS 147=[0,1,2,6,7,8,13,14,21,22,26,27,35,46,47,48,59,65]:=(rfl)
@[simp] theorem ASJ:bU 148=false:=(rfl)
@[simp] theorem AUV:keepR 148=false:=(rfl)
@[simp] theorem AXG:GS 148=[0,1,4,5,6,22]:=(rfl)
@[simp] theorem ASI:bU 149=false:=(rfl)
@[simp] theorem AUU:keepR 149=false:=(rfl)
@[simp] theorem AXF:GS 149=[0,1,2,3,4]:=(rfl)
@[simp] theorem ASH:bU 150=false:=(rfl)
@[simp] theorem AUT:keepR 150=false:=(rfl)
@[simp] theorem AXE:GS 150=[0,1,2,3,4]:=(rfl)
@[simp] theorem ASG:bU 151=false:=(rfl)
@[simp] theorem AUS:keepR 151=false:=(rfl)
@[simp] theorem AXD:GS 151=[0,2,3,4,9,19,20,21]:=(rfl)
@[simp] theorem ASF:bU 152=false:=(rfl)
@[simp] theorem AUR:keepR 152=false:=(rfl)
@[simp] theorem AXC:GS 152=[0,1,2,3,5,6,7,8]:=(rfl)
@[simp] theorem ASE:bU 153=false:=(rfl)
@[simp] theorem AUQ:keepR 153=false:=(rfl)
@[simp] theorem AXB:GS 153=[0,1,3,4]:=(rfl)
@[simp] theorem ASD:bU 154=true:=(rfl)
@[simp] theorem AUP:keepR 154=false:=(rfl)
@[simp] theorem AXA:GS 154=[0,1,3]:=(rfl)
@[simp] theorem ASC:bU 155=true:=(rfl)
@[simp] theorem AUO:keepR 155=false:=(rfl)
@[simp] theorem AX9:GS 155=[0,1,2,4,7]:=(rfl)
@[simp] theorem ASB:bU 156=false:=(rfl)
@[simp] theorem AUN:keepR 156=false:=(rfl)
@[simp] theorem AX8:GS 156=[0,2]:=(rfl)
@[simp] theorem ASA:bU 157=false:=(rfl)
@[simp] theorem AUM:keepR 157=false:=(rfl)
@[simp] theorem AX7:GS 157=[0,1,2,3,6,7,8,10,14,18,19,20,26,27,28,29,38]:=(rfl)
@[simp] theorem AS9:bU 158=false:=(rfl)
@[simp] theorem AUL:keepR 158=false:=(rfl)
@[simp] theorem AX6:GS 158=[0,1,2,3,4,6,7,8,9,14,20,21,22,30,42]:=(rfl)
@[simp] theorem AS8:bU 165=false:=(rfl)
@[simp] theorem AUK:keepR 165=false:=(rfl)
@[simp] theorem AX5:GS 165=[0,1,2,3,6]:=(rfl)
@[simp] theorem AS7:bU 167=false:=(rfl)
@[simp] theorem AUJ:keepR 167=false:=(rfl)
@[simp] theorem AX4:GS 167=[0,1,2,3,4]:=(rfl)
@[simp] theorem AS6:bU 168=false:=(rfl)
@[simp] theorem AUI:keepR 168=false:=(rfl)
@[simp] theorem AX3:GS 168=[0,1,2,3,6,7]:=(rfl)
@[simp] theorem AS5:bU 169=false:=(rfl)
@[simp] theorem AUH:keepR 169=false:=(rfl)
@[simp] theorem AX2:GS 169=[0,1,2,3,6]:=(rfl)
@[simp] theorem AS4:bU 170=false:=(rfl)
@[simp] theorem AUG:keepR 170=false:=(rfl)
@[simp] theorem AX1:GS 170=[0,1,4,5,6,11]:=(rfl)
@[simp] theorem AS3:bU 171=false:=(rfl)
@[simp] theorem AUF:keepR 171=false:=(rfl)
@[simp] theorem AX0:GS 171=[0,1,2,3,6,7,24,29,41,43,44,57]:=(rfl)
@[simp] theorem AS2:bU 174=false:=(rfl)
@[simp] theorem AUE:keepR 174=false:=(rfl)
@[simp] theorem AWZ:GS 174=[0,1,4,5,7,10,11,12,13,14,24]:=(rfl)
@[simp] theorem AS1:bU 175=false:=(rfl)
@[simp] theorem AUD:keepR 175=false:=(rfl)
@[simp] theorem AWY:GS 175=[0,1,2,4]:=(rfl)
@[simp] theorem AS0:bU 176=false:=(rfl)
@[simp] theorem AUC:keepR 176=false:=(rfl)
@[simp] theorem AWX:GS 176=[0,1,4,5,6,12,39,40,41]:=(rfl)
@[simp] theorem ARZ:bU 177=true:=(rfl)
@[simp] theorem AUB:keepR 177=false:=(rfl)
@[simp] theorem AWW:GS 177=[0,1,3,8]:=(rfl)
@[simp] theorem ARY:bU 178=false:=(rfl)
@[simp] theorem AUA:keepR 178=false:=(rfl)
@[simp] theorem AWV:GS 178=[0,1,4,5,6,10,11,20,37,38,50,54,59]:=(rfl)
@[simp] theorem ARX:bU 179=false:=(rfl)
@[simp] theorem AU9:keepR 179=false:=(rfl)
@[simp] theorem AWU:GS 179=[0,2,3,4,9,10,11]:=(rfl)
@[simp] theorem ARW:bU 180=false:=(rfl)
@[simp] theorem AU8:keepR 180=false:=(rfl)
@[simp] theorem AWT:GS 180=[0,1,2,6,7,27,32,33,34,46]:=(rfl)
@[simp] theorem ARV:bU 181=true:=(rfl)
@[simp] theorem AU7:keepR 181=false:=(rfl)
@[simp] theorem AWS:GS 181=[0,1,3,8]:=(rfl)
@[simp] theorem ARU:bU 189=false:=(rfl)
@[simp] theorem AU6:keepR 189=false:=(rfl)
@[simp] theorem AWR:GS 189=[0,1,3,4,5,8,17]:=(rfl)
@[simp] theorem ART:bU 190=false:=(rfl)
@[simp] theorem AU5:keepR 190=false:=(rfl)
@[simp] theorem AWQ:GS 190=[0,1,2,4,5,6,7,9,10,17,29,30,42,46,49,66,76,84,89]:=(rfl)
@[simp] theorem ARS:bU 191=false:=(rfl)
@[simp] theorem AU4:keepR 191=false:=(rfl)
@[simp] theorem AWP:GS 191=[0,1,4,5,6,7,8,12,18,26]:=(rfl)
@[simp] theorem ARR:bU 192=false:=(rfl)
@[simp] theorem AU3:keepR 192=false:=(rfl)
@[simp] theorem AWO:GS 192=[0,2,3,4,7,10]:=(rfl)
@[simp] theorem ARQ:bU 193=false:=(rfl)
@[simp] theorem AU2:keepR 193=false:=(rfl)
@[simp] theorem AWN:GS 193=[0,1,2]:=(rfl)
@[simp] theorem ARP:bU 194=false:=(rfl)
@[simp] theorem AU1:keepR 194=false:=(rfl)
@[simp] theorem AWM:GS 194=[0,1,2,3,6]:=(rfl)
@[simp] theorem ARO:bU 195=false:=(rfl)
@[simp] theorem AU0:keepR 195=false:=(rfl)
@[simp] theorem AWL:GS 195=[0,1,2,6,7,8,28,62,90,95,96,97,109]:=(rfl)
@[simp] theorem ARN:bU 196=false:=(rfl)
@[simp] theorem ATZ:keepR 196=false:=(rfl)
@[simp] theorem AWK:GS 196=[0,1,2,3,6]:=(rfl)
@[simp] theorem ARL:bU 197=false:=(rfl)
@[simp] theorem ATY:keepR 197=false:=(rfl)
@[simp] theorem AWJ:GS 197=[0,1,2,6,7,9,11,17,19,20,21,22,26,27,28,29,46,54,66]:=(rfl)
@[simp] theorem ARK:bU 202=false:=(rfl)
@[simp] theorem ATX:keepR 202=false:=(rfl)
@[simp] theorem AWI:GS 202=[0,1,4,5,6,18,32]:=(rfl)
@[simp] theorem ARJ:bU 203=false:=(rfl)
@[simp] theorem ATW:keepR 203=false:=(rfl)
@[simp] theorem AWH:GS 203=[0,1,2,3,6]:=(rfl)
@[simp] theorem ARI:bU 204=false:=(rfl)
@[simp] theorem ATV:keepR 204=false:=(rfl)
@[simp] theorem AWG:GS 204=[0,1,2,6,7,8,9,11,15,29]:=(rfl)
@[simp] theorem ARH:bU 205=false:=(rfl)
@[simp] theorem ATU:keepR 205=false:=(rfl)
@[simp] theorem AWF:GS 205=[0,2,3,4,7,10]:=(rfl)
@[simp] theorem ARG:bU 206=false:=(rfl)
@[simp] theorem ATT:keepR 206=false:=(rfl)
@[simp] theorem AWE:GS 206=[0,1,2,4]:=(rfl)
@[simp] theorem ARF:bU 207=false:=(rfl)
@[simp] theorem ATS:keepR 207=false:=(rfl)
@[simp] theorem AWD:GS 207=[0,2,3,5,9,10,11,12,19]:=(rfl)
@[simp] theorem ARD:bU 208=false:=(rfl)
@[simp] theorem ATR:keepR 208=false:=(rfl)
@[simp] theorem AWC:GS 208=[0,1,2,4,5,6,7,16,25,33,34,42,50,58]:=(rfl)
@[simp] theorem ARC:bU 209=false:=(rfl)
@[simp] theorem ATQ:keepR 209=false:=(rfl)
@[simp] theorem AWB:GS 209=[0,1,2,4,5,6,7,8,16,32,34,35,43,51,59]:=(rfl)
@[simp] theorem ARB:bU 210=false:=(rfl)
@[simp] theorem ATP:keepR 210=false:=(rfl)
@[simp] theorem AWA:GS 210=[0,2,3,4,7]:=(rfl)
@[simp] theorem ARA:bU 211=false:=(rfl)
@[simp] theorem ATO:keepR 211=false:=(rfl)
@[simp] theorem AW9:GS 211=[0,2]:=(rfl)
@[simp] theorem AR9:bU 212=false:=(rfl)
@[simp] theorem ATN:keepR 212=false:=(rfl)
@[simp] theorem AW8:GS 212=[0]:=(rfl)
@[simp] theorem AR8:bU 213=false:=(rfl)
@[simp] theorem ATM:keepR 213=false:=(rfl)
@[simp] theorem AW7:GS 213=[0,2,4]:=(rfl)
@[simp] theorem AR7:bU 214=false:=(rfl)
@[simp] theorem ATL:keepR 214=false:=(rfl)
@[simp] theorem AW6:GS 214=[0,2,3,7]:=(rfl)
@[simp] theorem AR6:bU 215=false:=(rfl)
@[simp] theorem ATK:keepR 215=false:=(rfl)
@[simp] theorem AW5:GS 215=[0,2,3]:=(rfl)
@[simp] theorem AR5:bU 216=false:=(rfl)
@[simp] theorem ATJ:keepR 216=false:=(rfl)
@[simp] theorem AW4:GS 216=[0,2,4]:=(rfl)
@[simp] theorem AR4:bU 217=false:=(rfl)
@[simp] theorem ATI:keepR 217=false:=(rfl)
@[simp] theorem AVZ:GS 217=[0,1,4,5,12]:=(rfl)
@[simp] theorem AR3:bU 218=false:=(rfl)
@[simp] theorem ATH:keepR 218=false:=(rfl)
@[simp] theorem AVY:GS 218=[0,2,4]:=(rfl)
@[simp] theorem AYD:JW 113=true:=(rfl)
noncomputable def AGR:FuncId→Option (List AV→StL→Option (AV×StL))
 | 92=>some EM
 | 59=>some NK
 | _=>none
noncomputable def C0:Ctx:={ P:=Tryz.prog,G:=GS,ownArgs:=bU,keepRes:=keepR,eqT:=JW,prim:=AGR }
@[simp] theorem dk3:bE Tryz.prog 3=some (.int .i64):=by kernel_rfl
@[simp] theorem sz3:gM Tryz.prog 3=some 1:=by kernel_rfl
@[simp] theorem by3:WQ Tryz.prog 3=some 8:=by kernel_rfl
@[simp] theorem ze3:zeroOf Tryz.prog 3=some [(.int .i64 0)]:=by kernel_rfl
@[simp] theorem dk4:bE Tryz.prog 4=some .bool:=by kernel_rfl
@[simp] theorem sz4:gM Tryz.prog 4=some 1:=by kernel_rfl
@[simp] theorem sz6:gM Tryz.prog 6=some 1:=by kernel_rfl
@[simp] theorem APS:gM Tryz.prog 10=some 1:=by kernel_rfl
@[simp] theorem AdL:bE Tryz.prog 22=some (.slice 111):=by kernel_rfl
@[simp] theorem AZF:gM Tryz.prog 22=some 1:=by kernel_rfl
@[simp] theorem AdK:bE Tryz.prog 23=some (.slice 3):=by kernel_rfl
@[simp] theorem AZE:gM Tryz.prog 23=some 1:=by kernel_rfl
@[simp] theorem AdJ:bE Tryz.prog 24=some (.slice 26):=by kernel_rfl
@[simp] theorem AZD:gM Tryz.prog 24=some 1:=by kernel_rfl
@[simp] theorem AdI:bE Tryz.prog 26=some .strct:=by kernel_rfl
@[simp] theorem AZC:gM Tryz.prog 26=some 5:=by kernel_rfl
@[simp] theorem AQF:dI Tryz.prog 26 0=some (3,0):=by kernel_rfl
@[simp] theorem AQE:dI Tryz.prog 26 1=some (3,1):=by kernel_rfl
@[simp] theorem AQD:dI Tryz.prog 26 2=some (22,2):=by kernel_rfl
@[simp] theorem AQC:dI Tryz.prog 26 3=some (23,3):=by kernel_rfl
@[simp] theorem AQB:dI Tryz.prog 26 4=some (24,4):=by kernel_rfl
@[simp] theorem AdH:bE Tryz.prog 27=some (.slice 62):=by kernel_rfl
@[simp] theorem AdG:bE Tryz.prog 31=some (.slice 115):=by kernel_rfl
@[simp] theorem AZB:gM Tryz.prog 31=some 1:=by kernel_rfl
@[simp] theorem AdF:bE Tryz.prog 32=some (.slice 34):=by kernel_rfl
@[simp] theorem AZA:gM Tryz.prog 32=some 1:=by kernel_rfl
@[simp] theorem AdE:bE Tryz.prog 34=some .strct:=by kernel_rfl
@[simp] theorem AZ9:gM Tryz.prog 34=some 5:=by kernel_rfl
@[simp] theorem AdO:WQ Tryz.prog 34=some 88:=by kernel_rfl
@[simp] theorem AZ5:zeroOf Tryz.prog 34=some [(.int .i64 0),(.int .i64 0),(.slice none 0 0),(.slice none 0 0),(.slice none 0 0)]:=by kernel_rfl
@[simp] theorem AQA:dI Tryz.prog 34 0=some (3,0):=by kernel_rfl
@[simp] theorem AQ9:dI Tryz.prog 34 1=some (3,1):=by kernel_rfl
@[simp] theorem AQ8:dI Tryz.prog 34 2=some (31,2):=by kernel_rfl
@[simp] theorem AQ7:dI Tryz.prog 34 3=some (23,3):=by kernel_rfl
@[simp] theorem AQ6:dI Tryz.prog 34 4=some (32,4):=by kernel_rfl
@[simp] theorem AdD:bE Tryz.prog 37=some (.slice 48):=by kernel_rfl
@[simp] theorem AdC:bE Tryz.prog 48=some .strct:=by kernel_rfl
@[simp] theorem AZ8:gM Tryz.prog 48=some 2:=by kernel_rfl
@[simp] theorem AdN:WQ Tryz.prog 48=some 32:=by kernel_rfl
@[simp] theorem AZ4:zeroOf Tryz.prog 48=some [(.int .i64 0),(.slice none 0 0)]:=by kernel_rfl
@[simp] theorem AQ5:dI Tryz.prog 48 0=some (3,0):=by kernel_rfl
@[simp] theorem AQ4:dI Tryz.prog 48 1=some (23,1):=by kernel_rfl
@[simp] theorem AdB:bE Tryz.prog 62=some .strct:=by kernel_rfl
@[simp] theorem AZ7:gM Tryz.prog 62=some 2:=by kernel_rfl
@[simp] theorem AQ3:dI Tryz.prog 62 0=some (3,0):=by kernel_rfl
@[simp] theorem AQ2:dI Tryz.prog 62 1=some (23,1):=by kernel_rfl
@[simp] theorem AdA:bE Tryz.prog 83=some .other:=by kernel_rfl
@[simp] theorem Ac1:N8 Tryz.prog 83=true:=by kernel_rfl
@[simp] theorem AZ6:gM Tryz.prog 83=some 1:=by kernel_rfl
@[simp] theorem AdM:WQ Tryz.prog 83=some 8:=by kernel_rfl
@[simp] theorem AZ3:zeroOf Tryz.prog 83=some [(.pointer none)]:=by kernel_rfl
@[simp] theorem AYP:bE Tryz.prog 109=some .strct:=by kernel_rfl
@[simp] theorem AQY:gM Tryz.prog 109=some 2:=by kernel_rfl
@[simp] theorem APC:dI Tryz.prog 109 0=some (4,0):=by kernel_rfl
@[simp] theorem APB:dI Tryz.prog 109 1=some (3,1):=by kernel_rfl
@[simp] theorem AYO:bE Tryz.prog 111=some .strct:=by kernel_rfl
@[simp] theorem AQX:gM Tryz.prog 111=some 5:=by kernel_rfl
@[simp] theorem APA:dI Tryz.prog 111 0=some (3,0):=by kernel_rfl
@[simp] theorem AP9:dI Tryz.prog 111 1=some (3,1):=by kernel_rfl
@[simp] theorem AP8:dI Tryz.prog 111 2=some (109,2):=by kernel_rfl
@[simp] theorem AP7:dI Tryz.prog 111 3=some (22,4):=by kernel_rfl
@[simp] theorem AYN:bE Tryz.prog 113=some .strct:=by kernel_rfl
@[simp] theorem AQW:gM Tryz.prog 113=some 2:=by kernel_rfl
@[simp] theorem AYU:WQ Tryz.prog 113=some 16:=by kernel_rfl
@[simp] theorem AQQ:zeroOf Tryz.prog 113=some [(.bool false),(.int .i64 0)]:=by kernel_rfl
@[simp] theorem AP6:dI Tryz.prog 113 0=some (4,0):=by kernel_rfl
@[simp] theorem AP5:dI Tryz.prog 113 1=some (3,1):=by kernel_rfl
@[simp] theorem AYM:bE Tryz.prog 115=some .strct:=by kernel_rfl
@[simp] theorem AQV:gM Tryz.prog 115=some 5:=by kernel_rfl
@[simp] theorem AYT:WQ Tryz.prog 115=some 56:=by kernel_rfl
@[simp] theorem AQP:zeroOf Tryz.prog 115=some [(.int .i64 0),(.int .i64 0),(.bool false),(.int .i64 0),(.slice none 0 0)]:=by kernel_rfl
@[simp] theorem AP4:dI Tryz.prog 115 0=some (3,0):=by kernel_rfl
@[simp] theorem AP3:dI Tryz.prog 115 1=some (3,1):=by kernel_rfl
@[simp] theorem AP2:dI Tryz.prog 115 2=some (113,2):=by kernel_rfl
@[simp] theorem AP1:dI Tryz.prog 115 3=some (31,4):=by kernel_rfl
@[simp] theorem AYL:bE Tryz.prog 118=some .other:=by kernel_rfl
@[simp] theorem AQU:gM Tryz.prog 118=some 1:=by kernel_rfl
@[simp] theorem AYS:WQ Tryz.prog 118=some 8:=by kernel_rfl
@[simp] theorem AQO:zeroOf Tryz.prog 118=some [(.pointer none)]:=by kernel_rfl
@[simp] theorem AYK:bE Tryz.prog 124=some (.slice 83):=by kernel_rfl
@[simp] theorem AYJ:bE Tryz.prog 141=some .other:=by kernel_rfl
@[simp] theorem AQT:gM Tryz.prog 141=some 1:=by kernel_rfl
@[simp] theorem AYI:bE Tryz.prog 142=some (.array 12 141):=by kernel_rfl
@[simp] theorem AQS:gM Tryz.prog 142=some 12:=by kernel_rfl
@[simp] theorem AQN:zeroOf Tryz.prog 142=some [(.nilFunc),(.nilFunc),(.nilFunc),(.nilFunc),(.nilFunc),(.nilFunc),(.nilFunc),(.nilFunc),(.nilFunc),(.nilFunc),(.nilFunc),(.nilFunc)]:=by kernel_rfl
@[simp] theorem AYH:bE Tryz.prog 150=some .other:=by kernel_rfl
@[simp] theorem AQR:gM Tryz.prog 150=some 1:=by kernel_rfl
@[simp] theorem AYG:bE Tryz.prog 158=some (.slice 118):=by kernel_rfl
@[simp] theorem AYF:bE Tryz.prog 167=some (.array 2 3):=by kernel_rfl
@[simp] theorem AQM:zeroOf Tryz.prog 167=some [(.int .i64 0),(.int .i64 0)]:=by kernel_rfl
@[simp] theorem AYE:bE Tryz.prog 184=some (.slice 113):=by kernel_rfl
end Go.Proofs.YtjdfjgmebalaaaaGreat
namespace Go.Av
def fnT (fn:Func):Bool:=(fn.name != "runtime.NumGoroutine") && match fn.body with
 | some c=>codeOk fn.ntmps c
 | none=>true
theorem VY {α:Type} {p:α→Bool} {l:List α} (c n:Nat) (hc:0<c) (hl:l.length≤c*n) (h:∀ i,i<n→((l.drop (c*i)).take c).all p=true):l.all p=true:=by
 rw[zR];intro x hx;obtain⟨j,hj,rfl⟩:=List.getElem_of_mem hx;have hd:c*(j / c)+j % c=j:=Nat.div_add_mod j c;have hm:j % c<c:=Nat.mod_lt _ hc
 have hi:j / c<n:=by
  rw[Nat.div_lt_iff_lt_mul hc,zG];omega
 refine zR.1 (h (j / c) hi) _ ?_;refine zV (i:=j % c) ?_;rw[zL,if_pos hm,yS,hd,zY hj]
theorem ZK {P:Program} (h:P.funcs.toList.all fnT=true):SB P=true:=h
end Go.Av
namespace Go.Proofs.YtjdfjgmebalaaaaGreat
open Go Go.Av
set_option maxHeartbeats 2000000
theorem ft:EB Tryz.prog=true:=by kernel_rfl
theorem nt0:((Tryz.prog.funcs.toList.drop (25*0)).take 25).all fnT=true:=by kernel_rfl
theorem nt1:((Tryz.prog.funcs.toList.drop (25*1)).take 25).all fnT=true:=by kernel_rfl
theorem nt2:((Tryz.prog.funcs.toList.drop (25*2)).take 25).all fnT=true:=by kernel_rfl
theorem nt3:((Tryz.prog.funcs.toList.drop (25*3)).take 25).all fnT=true:=by kernel_rfl
theorem nt4:((Tryz.prog.funcs.toList.drop (25*4)).take 25).all fnT=true:=by kernel_rfl
theorem nt5:((Tryz.prog.funcs.toList.drop (25*5)).take 25).all fnT=true:=by kernel_rfl
theorem nt6:((Tryz.prog.funcs.toList.drop (25*6)).take 25).all fnT=true:=by kernel_rfl
theorem nt7:((Tryz.prog.funcs.toList.drop (25*7)).take 25).all fnT=true:=by kernel_rfl
theorem nt8:((Tryz.prog.funcs.toList.drop (25*8)).take 25).all fnT=true:=by kernel_rfl
theorem nt9:((Tryz.prog.funcs.toList.drop (25*9)).take 25).all fnT=true:=by kernel_rfl
theorem ntl:Tryz.prog.funcs.toList.length≤25*10:=zS (by kernel_rfl)
theorem nt:SB Tryz.prog=true:=ZK (VY 25 10 (by decide) ntl fun i hi=>by
 have h:i=0∨i=1∨i=2∨i=3∨i=4∨i=5∨i=6∨i=7∨i=8∨i=9:=by omega
 rcases h with rfl|rfl|rfl|rfl|rfl|rfl|rfl|rfl|rfl|rfl
 ·exact nt0
 ·exact nt1
 ·exact nt2
 ·exact nt3
 ·exact nt4
 ·exact nt5
 ·exact nt6
 ·exact nt7
 ·exact nt8
 ·exact nt9)
theorem mo:Tryz.prog.follows .mixedOrders=true:=by kernel_rfl
theorem eqS:∀ t,JW t=true→SF Tryz.prog t=true:=by
 intro t h;unfold JW at h;split at h
 ·kernel_rfl
 ·kernel_rfl
 ·kernel_rfl
 ·cases h
@[simp] theorem C_P:C0.P=Tryz.prog:=(rfl)
@[simp] theorem C_G (f):C0.G f=GS f:=(rfl)
@[simp] theorem C_o (f):C0.ownArgs f=bU f:=(rfl)
@[simp] theorem C_k (f):C0.keepRes f=keepR f:=(rfl)
@[simp] theorem C_e (f):C0.eqT f=JW f:=(rfl)
@[simp] theorem C_t:C0.tree=false:=(rfl)
theorem wrap64 {x:Int} (h1:-9223372036854775808≤x) (h2:x<9223372036854775808):IntKind.i64.wrap x=x:=by
 unfold IntKind.wrap;simp[IntKind.signed,IntKind.bits];omega
theorem wrO {n:Int} (h1:-9223372036854775808≤n:=by omega) (h2:n<9223372036854775808:=by omega):IntKind.i64.wrap n=n:=wrap64 h1 h2
abbrev Rd (l:List UInt8) (p:Int):Option Blk:=some (.box [.i (.isl (mW l)), .int p])
set_option maxRecDepth 4000
noncomputable def C1:Ctx:={ P:=Tryz.prog,G:=GS,ownArgs:=bU,keepRes:=keepR,eqT:=JW,prim:=fun _=>none }
@[simp] theorem AeN:C1.P=Tryz.prog:=(rfl)
@[simp] theorem AeO (f):C1.G f=GS f:=(rfl)
@[simp] theorem AeK (f):C1.ownArgs f=bU f:=(rfl)
@[simp] theorem AeL (f):C1.keepRes f=keepR f:=(rfl)
@[simp] theorem AeM (f):C1.eqT f=JW f:=(rfl)
@[simp] theorem AeJ:C1.tree=false:=(rfl)
theorem AHW:aI C1 91 [.i (.isl [])] []=some (.nils,[]):=by
 rw[aD rfl Tryz.func91 rfl rfl];simp
theorem ADI {ks:List Ex} (h:ks≠[]) (hl:ks.length<1000000000):aI C1 91 [.i (.isl (Ex.aB ks))] []=some (.osl 0 5 0 ks.length,[some (.arr 5 (Ex.aB ks))]):=by
 rw[aD rfl Tryz.func91 rfl rfl];have h1:56*(ks.length:Int)≤281474976710656:=by omega
 simp[h,h1];unfold over;simp
theorem oJ:SoundOk C1:=lH (C:=C1) ft nt eqS mo (Y6 fun _=>rfl)
def ptr (p:Nat×Nat):IV:=.lit (.pointer (some ⟨p.1,p.2,none⟩))
def zc:List AV:=[.int 0, .int 0, .bool false, .int 0, .nils]
def AIJ (p:Nat×Nat):AS:={ env:=[(0, .i (ptr p))],st:=[] }
def APR (e:Ex) (p:Nat×Nat):AS:={ env:=[(0, .i (ptr p)),(2, .own 0 0),(3, .own 1 0),(4, .junk),(5, .junk),(6, .junk),(13, .junk),(37, .junk),(38, .junk),(39, .junk)],st:=[some (.box zc),some (.box (jR e.cells))] }
def SL (b3:Nat) (todo X:KL):AS :=
 { env:=[(0, .junk),(2, .own 0 0),(3, .i (ptr (b3,0))),(4, .osl 1 1 0 todo.length),(5, .junk),(6, .junk),(13, .junk),(37, .junk),(38, .junk),(39, .junk)],st:=[some (.box zc),some (.arr 1 ((todo++X).map fun k=>[ptr k.1]))] }
theorem Y5:∀ (l:KL),∀ c∈(l.map fun k=>[ptr k.1]).flatten,∃ v,c=.lit v
 | [],c,h=>by simp at h
 | k::l,c,h=>by
  simp only[xO,z8,zT,List.mem_singleton]at h
  rcases h with rfl|h
  ·exact⟨_,rfl⟩
  ·exact Y5 l c h
def PP (b3:Nat) (b o n:Nat) (x:Ex) (ES:List (List IV)) (env:Nat→AV) (st:Store):Prop :=
 env 2=.own 0 0∧env 3=.i (ptr (b3,0))∧env 4=.osl 1 1 0 n∧env 5=.i (ptr (b,o))∧env 32=.i (ptr (b,o+4))∧st 0=some (.box zc)∧st 1=some (.arr 1 ES) ∧
  ((env 30=.nils∧x.kids=[])∨∃ id,env 30=.osl id 5 0 x.kids.length∧x.kids≠[]∧st id=some (.arr 5 (Ex.aB x.kids))∧2≤id)
theorem AFM:IntKind.i64.wrap 1=1:=wrO
def RW (init:KL) (b' i:Nat):List (List IV):=(init.map fun k=>[ptr k.1])++(List.range i).map fun j=>[ptr (b',j*5)]
theorem AFK (init:KL) (b' i:Nat):(RW init b' i).length=init.length+i:=by simp[RW]
theorem AAV (init:KL) (b' i:Nat):RW init b' i++[[ptr (b',i*5)]]=RW init b' (i+1):=by simp[RW,xC]
theorem H6 (b:Nat):∀ (o:Nat) (l:List Ex),(gV b o l).map (fun k=>[ptr k.1])=(List.range l.length).map fun j=>[ptr (b,o+j*5)]
 | _,[]=>by simp[gV]
 | o,a::l=>by
  simp only[gV,xO,H6 b (o+5) l,zO,List.range_succ_eq_map,List.map_map];simp only[List.cons.injEq,Nat.zero_mul,xQ,true_and];apply List.map_congr_left;intro j _;simp only[Function.comp,Nat.succ_eq_add_one];rw[show o+5+j*5=o+(j+1)*5 by omega]
theorem H7 (b:Nat):∀ (o:Nat) (l:List Ex),(gV b o l).length=l.length
 | _,[]=>rfl
 | o,a::l=>by simp[gV,H7 b (o+5) l]
theorem H5 (b:Nat):∀ (o:Nat) (l:List Ex),((gV b o l).map fun k=>k.2.size).sum=Ex.aZ l
 | _,[]=>rfl
 | o,a::l=>by simp[gV,Ex.aZ,H5 b (o+5) l]
def YS (b3 b' cap:Nat) (x:Ex) (init:KL) (ES:List (List IV)) (i:Nat):AS :=
 { env:=[(0, .junk),(2, .own 0 0),(3, .i (ptr (b3,0))),(4,if i=0 then .osl 1 1 0 init.length else .osl 2 1 0 (init.length+i)),(5, .i (.iref [.int x.kind, .int x.col, .bool x.val.null, .int x.val.n, .lit (.slice (some ⟨b',0,none⟩) x.kids.length cap)])),(6,jk i (.int (i-1))),(13, .junk),(37, .int x.kids.length),(38, .int i),(39,jk i (.bool true))],
   st:=some (.box zc)::if i=0 then [some (.arr 1 ES)]else [none,some (.arr 1 (RW init b' i))] }
set_option maxHeartbeats 1000000
theorem NN {e:Ex} (he:e.size<1000000000) {wi:World} {mi:Mem} {b o:Nat} (hi:Inv wi mi (fun _=>none) (bD []))
 (hrun:∀ w',wi.heap.size≤w'.heap.size→(∀ f,f<wi.heap.size→w'.heap[f]?=wi.heap[f]?)→∃ y,(Instr.loadAt 115 (.pointer (some ⟨b,o,none⟩))).run C1.P w'=.ok y w'∧IRep mi (.agg e.cells) y) :
 Calls Tryz.prog 92 #[.pointer (some ⟨b,o,none⟩)] wi (bR wi mi (fun _=>none) (.i (.agg e.cells)) []):=by
 refine calls_of_wp (fn:=Tryz.f92) Tryz.func92 rfl ?_
 have g0:GG wi mi 52 (fun id=>id<(AIJ (b,o)).st.length) [] (aT (AIJ (b,o)).env) (bD (AIJ (b,o)).st) { tmps:=[Value.pointer (some ⟨b,o,none⟩)].toArray++Array.replicate (52-1) undef,defers:=[] } wi:=by
  refine⟨⟨mi,fun _=>none,hi,?_, .refl _ _ _,fun id h=>absurd rfl h,fun k hk=>by simp at hk⟩,by simp,rfl⟩;intro t;have:=kZ (m:=mi) (φ:=fun _=>none) (52-1) (show RepL mi (fun _=>none) [.i (ptr (b,o))] [.pointer (some ⟨b,o,none⟩)]from .cons (.i (.lit _)) .nil) t
  cases t with
  | zero=>simpa [AIJ,aT,qW]using this
  | succ t=>simp only[AIJ,aT];simp;exact .junk _
 refine wp_seq (wp_mono (GG.fC oJ (G:=GS 92) (S:=AIJ (b,o)) (e:=.normal) (S':={ env:=[(0, .i (ptr (b,o))),(2, .own 0 0),(3, .junk),(4, .junk),(5, .junk),(6, .junk),(13, .junk),(37, .junk),(38, .junk),(39, .junk)],st:=[some (.box zc)] }) (by kernel_rfl) (by simp[AIJ,zc,ptr]) g0) ?_);rintro _ a1 w1 ⟨rfl,g1⟩
 refine wp_seq (GG.AGP oJ (os1:=[_,_]) (os2:=[_,_]) (G:=GS 92) (S:={ env:=[(0, .i (ptr (b,o))),(2, .own 0 0),(3, .junk),(4, .junk),(5, .junk),(6, .junk),(13, .junk),(37, .junk),(38, .junk),(39, .junk)],st:=[some (.box zc)] }) (S':=APR e (b,o)) rfl (by
  have h:∀ ops:Array Oper,ops.all (jH 52)=true→∀ o∈ops,jH 52 o=true:=fun ops h o ho=>yC.1 h o ho
  exact h _ (by kernel_rfl)) g1 (by decide) hrun ?_ ?_)
 ·rw[Ex.aA];simp[APR,zc,ptr,Ex.aA]
 intro a2 w2 g2
 obtain⟨b3,g3⟩:=g2.pub (u:=3) (id:=1) (e:=e) (st':=bD [some (.box zc)]) (ok':=fun id=>id<1) rfl rfl (by
  intro i blk h
  cases i with
  | zero=>simp[bD]at h;subst h;exact⟨by omega,rfl,by simp[iA,zc]⟩
  | succ i=>simp[bD]at h) (by
  intro i h
  cases i with
  | zero=>omega
  | succ i=>simp[bD]at h)
 have g3:=g3 (aT [(2, .own 0 0),(3, .i (ptr (b3,0)))]) (by
  intro t;simp only[aT];by_cases h2:t=2
  ·subst h2;exact .inr (.inr ⟨rfl,by simp[APR,aT,kH,bD]⟩)
  ·by_cases h3:t=3
   ·subst h3;exact .inr (.inl ⟨rfl,rfl⟩)
   ·simp[h2,h3])
 refine wp_seq (wp_mono (GG.fC oJ (G:=GS 92) (S:={ env:=[(2, .own 0 0),(3, .i (ptr (b3,0)))],st:=[some (.box zc)] }) (e:=.normal) (S':=SL b3 [((b3,0),e)] []) (by kernel_rfl) (by simp[SL,ptr,zc]) g3) ?_);rintro _ a3 w3 ⟨rfl,g4⟩;refine wp_seq (wp_block ?_);refine BD (fun n a w=>∃ todo X K:KL,(∀ k∈todo,k∈K)∧((b3,0),e)∈K∧(todo.map fun k=>k.2.size).sum=n∧n<1000000000∧GG wi mi 52 (fun id=>id<(SL b3 todo X).st.length) K (aT (SL b3 todo X).env) (bD (SL b3 todo X).st) a w) ?_ (n:=e.size) ⟨[((b3,0),e)],[],[((b3,0),e)],fun k hk=>hk,by simp,by simp,he,g4⟩;rintro n a w ⟨todo,X,K,hsub,hb3,hsum,hn,g⟩
 rcases xG todo with rfl|⟨init,k,rfl⟩
 ·refine wp_mono (GG.fC oJ (G:=GS 92) (S:=SL b3 [] X) (e:=.exit 0) (S':={ env:=[(0, .junk),(2, .own 0 0),(3, .i (ptr (b3,0))),(4, .osl 1 1 0 0),(5, .junk),(6, .junk),(13, .bool false),(37, .junk),(38, .junk),(39, .junk)],st:=[some (.box zc),some (.arr 1 (X.map fun k=>[ptr k.1]))] }) (by kernel_rfl) (by simp[SL,ptr,zc]) g) ?_;rintro _ a5 w5 ⟨rfl,g5⟩;simp only[kX,Exit.then,Exit.inBlock,if_true]
  have g6:=(g5.see (u:=3) (b:=b3) (o:=0) rfl hb3).envTo (env':=aT [(2, .own 0 0),(3, .i (.iref e.cells))]) (by
   intro t;simp only[aT,upd];by_cases h2:t=2
   ·subst h2;simp
   ·by_cases h3:t=3
    ·subst h3;simp
    ·simp[h2,h3])
  refine wp_mono (GG.fC oJ (G:=GS 92) (S:={ env:=[(2, .own 0 0),(3, .i (.iref e.cells))],st:=[some (.box zc),some (.arr 1 (X.map fun k=>[ptr k.1]))] }) (e:=.ret) (S':={ env:=[(0, .junk),(2, .own 0 0),(3, .i (.iref e.cells)),(4, .junk),(5, .junk),(6, .junk),(13, .junk),(37, .junk),(38, .junk),(39, .junk)],st:=[some (.box (jR e.cells)),some (.arr 1 (X.map fun k=>[ptr k.1]))] }) (by kernel_rfl) (by simp[zc]) g6) ?_;rintro _ a6 w6 ⟨rfl,g7⟩;obtain⟨⟨m,φ,q1,q2,q3,q4,q5⟩,q6,q7⟩:=g7
  obtain⟨v,k1,k2⟩:=fJ (C:=C1) (fn:=Tryz.f92) (keep:=false) (na:=0) (S:={ env:=[(0, .junk),(2, .own 0 0),(3, .i (.iref e.cells)),(4, .junk),(5, .junk),(6, .junk),(13, .junk),(37, .junk),(38, .junk),(39, .junk)],st:=[some (.box (jR e.cells)),some (.arr 1 (X.map fun k=>[ptr k.1]))] }) (r:=.i (.agg e.cells)) (stl':=[]) (fun id h=>absurd rfl h) ⟨⟨⟨m,φ,q1,q2,q3,q4, .nil _ _ _⟩,q6,q7⟩,xJ _⟩ (by
   show finish C1 false [ResultVar.cell 2 115] 0 _=_
   simp)
  exact⟨q7,v,k1,k2⟩
 ·clear g0 g4 g3 g1 g2;obtain⟨⟨b,o⟩,x⟩:=k
  have hlen:∀ l:KL,l.length≤(l.map fun k=>k.2.size).sum:=by
   intro l
   induction l with
   | nil=>simp
   | cons a l ih=>have:=Ex.qH a.2;simp;omega
  have hil:=hlen init;simp at hsum;have hxk:((b,o),x)∈K:=hsub _ (by simp);have hxs:=Ex.size_eq x;have hkl:=Ex.bK x.kids;have hne:¬ ((init.length:Int)+1≤0):=by omega
  have hpos:(0:Int)<(init.length:Int)+1:=by omega
  have w1:IntKind.i64.wrap (init.length:Int)=init.length:=wrO;generalize hES:((init++[((b,o),x)]++X).map fun k=>[ptr k.1])=ES
  have hnth:fI ES init.length=some [ptr (b,o)]:=by
   rw[iU,← hES];simp
  have hlit:∀ c∈ES.flatten,∃ v,c=.lit v:=by rw[← hES];exact Y5 _
  have hlt:(init.length:Int)<(init.length:Int)+1:=by omega
  have hlt2:(init.length:Int)≤(init.length:Int)+1:=by omega
  refine wp_seq (wp_mono (GG.fC oJ (G:=GS 92) (S:=SL b3 (init++[((b,o),x)]) X) (e:=.normal) (S':={ env:=[(0, .junk),(2, .own 0 0),(3, .i (ptr (b3,0))),(4, .osl 1 1 0 (init.length+1)),(5, .junk),(6, .junk),(13, .bool true),(37, .junk),(38, .junk),(39, .junk)],st:=[some (.box zc),some (.arr 1 ES)] }) (by kernel_rfl) (by simp only[SL,hES];simp[ptr,zc,hpos]) (by simpa using g)) ?_);rintro _ a5 w5 ⟨rfl,g5⟩;clear g;refine wp_block ?_;refine wp_seq (wp_mono (GG.fC oJ (G:=GS 92) (S:={ env:=[(0, .junk),(2, .own 0 0),(3, .i (ptr (b3,0))),(4, .osl 1 1 0 (init.length+1)),(5, .junk),(6, .junk),(13, .bool true),(37, .junk),(38, .junk),(39, .junk)],st:=[some (.box zc),some (.arr 1 ES)] }) (e:=.normal) (S':={ env:=[(0, .junk),(2, .own 0 0),(3, .i (ptr (b3,0))),(4, .osl 1 1 0 (init.length+1)),(5,(.i (ptr (b,o)))),(6, .junk),(13, .bool true),(37, .junk),(38, .junk),(39, .junk)],st:=[some (.box zc),some (.arr 1 ES)] }) (by kernel_rfl) (by simp only[ptr]at hnth;simp[ptr,zc,hnth,w1,hlt]) g5) ?_);rintro _ a6 w6 ⟨rfl,g6⟩;clear g5;refine wp_seq (wp_mono (GG.fC oJ (G:=GS 92) (S:={ env:=[(0, .junk),(2, .own 0 0),(3, .i (ptr (b3,0))),(4, .osl 1 1 0 (init.length+1)),(5,(.i (ptr (b,o)))),(6, .junk),(13, .bool true),(37, .junk),(38, .junk),(39, .junk)],st:=[some (.box zc),some (.arr 1 ES)] }) (e:=.normal) (S':={ env:=[(0, .junk),(2, .own 0 0),(3, .i (ptr (b3,0))),(4, .osl 1 1 0 init.length),(5,(.i (ptr (b,o)))),(6, .junk),(13, .bool true),(37, .junk),(38, .junk),(39, .junk)],st:=[some (.box zc),some (.arr 1 ES)] }) (by kernel_rfl) (by simp[ptr,zc,w1,hlt2]) g6) ?_);rintro _ a7 w7 ⟨rfl,g7⟩;clear g6
  refine wp_seq (GG.region oJ (os1:=[_,_]) (os2:=[_,_,_,_,_,_]) (u:=26) (PP:=PP b3 b o init.length x ES) rfl (by
   have h:∀ ops:Array Oper,ops.all (jH 52)=true→∀ o∈ops,jH 52 o=true:=fun ops h o ho=>yC.1 h o ho
   exact h _ (by kernel_rfl)) g7 hxk ?_ ?_)
  ·rw[Ex.aA];by_cases hx:x.kids=[]
   ·simp[ptr,zc,hx,PP,Ex.aB,AHW]
   ·simp[ptr,zc,PP,ADI hx (by omega),hx]
  ·rintro env st a8 w8 ⟨p2,p3,p4,p5,p32,q0,q1,p30⟩ g8;clear g7
   obtain⟨w9,b',ao,cap,e1,e2,hrun,hG⟩:=GG.turn (C:=C1) (ok':=fun id=>id<2) (st':=bD [some (.box zc),some (.arr 1 ES)]) (u:=30) (t:=31) g8 (by simp) hi.mem hxk rfl (by
    rcases p30 with ⟨h1,h2⟩|⟨id,h1,h2,h3,h4⟩
    ·refine .inl ⟨h1,h2,?_⟩;intro i blk h
     rcases i with _|_|i
     ·simp[bD]at h;subst h;exact q0
     ·simp[bD]at h;subst h;exact q1
     ·simp[bD]at h
    ·refine .inr ⟨id,h1,h2,h3,?_⟩;intro i blk h
     rcases i with _|_|i
     ·simp[bD]at h;subst h;exact⟨by omega,q0⟩
     ·simp[bD]at h;subst h;exact⟨by omega,q1⟩
     ·simp[bD]at h) (by
    intro i blk h
    rcases i with _|_|i
    ·simp[bD]at h;subst h;simp[iA,zc]
    ·simp[bD]at h;subst h;exact hlit
    ·simp[bD]at h) (by
    intro i h
    rcases i with _|_|i
    ·omega
    ·omega
    ·simp[bD]at h)
   have ev5:=g8.AH2 (t:=5) p5;have ev32:=g8.AH2 (t:=32) p32
   refine TP (C:=C1) (w':=w9) rfl (by
    show(Instr.storeAt 31 (a8.tmps.getD 32 undef) (a8.tmps.getD 30 undef)).run C1.P w8=_
    rw[ev32];exact hrun) ?_
   have g9:=hG (aT [(2, .own 0 0),(3, .i (ptr (b3,0))),(4, .osl 1 1 0 init.length),(5,(.i (.iref [.int x.kind, .int x.col, .bool x.val.null, .int x.val.n, .lit (.slice ao x.kids.length cap)])))]) (by
    intro t;simp only[aT];by_cases h2:t=2
    ·subst h2;exact .inr (.inr ⟨by simp[p2],by rw[p2];simp[kH,bD]⟩)
    by_cases h3:t=3
    ·subst h3;exact .inr (.inr ⟨by simp[p3],by rw[p3];simp[kH,ptr]⟩)
    by_cases h4:t=4
    ·subst h4;exact .inr (.inr ⟨by simp[p4],by rw[p4];simp[kH,bD]⟩)
    by_cases h5:t=5
    ·subst h5;exact .inr (.inl ⟨ev5,by simp⟩)
    ·simp[h2,h3,h4,h5])
   clear hG g8;show Code.wp _ _ _ _ _;refine wp_seq (wp_mono (GG.fC oJ (G:=GS 92) (S:={ env:=[(2, .own 0 0),(3, .i (ptr (b3,0))),(4, .osl 1 1 0 init.length),(5,(.i (.iref [.int x.kind, .int x.col, .bool x.val.null, .int x.val.n, .lit (.slice ao x.kids.length cap)])))],st:=[some (.box zc),some (.arr 1 ES)] }) (e:=.normal) (S':={ env:=[(0, .junk),(2, .own 0 0),(3, .i (ptr (b3,0))),(4, .osl 1 1 0 init.length),(5,(.i (.iref [.int x.kind, .int x.col, .bool x.val.null, .int x.val.n, .lit (.slice ao x.kids.length cap)]))),(6, .junk),(13, .junk),(37, .int x.kids.length),(38, .int 0),(39, .junk)],st:=[some (.box zc),some (.arr 1 ES)] }) (by kernel_rfl) (by simp[ptr,zc]) g9) ?_);rintro _ a10 w10 ⟨rfl,g10⟩;clear g9;by_cases hx:x.kids=[]
   ·refine wp_mono (GG.fC oJ (G:=GS 92) (S:={ env:=[(0, .junk),(2, .own 0 0),(3, .i (ptr (b3,0))),(4, .osl 1 1 0 init.length),(5,(.i (.iref [.int x.kind, .int x.col, .bool x.val.null, .int x.val.n, .lit (.slice ao x.kids.length cap)]))),(6, .junk),(13, .junk),(37, .int x.kids.length),(38, .int 0),(39, .junk)],st:=[some (.box zc),some (.arr 1 ES)] }) (e:=.normal) (S':={ env:=[(0, .junk),(2, .own 0 0),(3, .i (ptr (b3,0))),(4, .osl 1 1 0 init.length),(5,(.i (.iref [.int x.kind, .int x.col, .bool x.val.null, .int x.val.n, .lit (.slice ao x.kids.length cap)]))),(6, .junk),(13, .junk),(37, .int x.kids.length),(38, .int 0),(39, .bool false)],st:=[some (.box zc),some (.arr 1 ES)] }) (by kernel_rfl) (by
     simp only[hx,xL];simp;rw[aG]
     simp[ptr,zc]) g10) ?_
    rintro _ a11 w11 ⟨rfl,g11⟩;simp only[kX,Exit.then,Exit.inBlock];refine⟨n-1,by omega,init,((b,o),x)::X,K++gV b' 0 x.kids,fun k hk=>yJ _ (hsub k (by simp[hk])),yJ _ hb3,?_,by omega,?_⟩
    ·rw[hx]at hxs;simp[Ex.aZ]at hxs;omega
    ·have hES2:((init++((b,o),x)::X).map fun k=>[ptr k.1])=ES:=by rw[← hES];simp
     simp only[SL,hES2]
     exact g11.envTo (by
      intro t;simp only[aT];by_cases h2:t=2
      ·subst h2;simp
      by_cases h3:t=3
      ·subst h3;simp
      by_cases h4:t=4
      ·subst h4;simp
      ·simp[h2,h3,h4])
   ·obtain rfl:=e2 hx;have hET:ES.take init.length=RW init b' 0:=by rw[← hES];simp[RW]
    have hEL:init.length≤ES.length:=by rw[← hES];simp
    have hlim:∀ i,i≤x.kids.length→(init.length+i+1)*8≤140737488355328:=fun i hi=>by omega
    have hk0:x.kids.length≠0:=fun h=>hx (zX.1 h)
    refine wp_mono (GG.fC oJ (G:=GS 92) (S:={ env:=[(0, .junk),(2, .own 0 0),(3, .i (ptr (b3,0))),(4, .osl 1 1 0 init.length),(5,(.i (.iref [.int x.kind, .int x.col, .bool x.val.null, .int x.val.n, .lit (.slice (some ⟨b',0,none⟩) x.kids.length cap)]))),(6, .junk),(13, .junk),(37, .int x.kids.length),(38, .int 0),(39, .junk)],st:=[some (.box zc),some (.arr 1 ES)] }) (e:=.normal) (S':={ env:=[(0, .junk),(2, .own 0 0),(3, .i (ptr (b3,0))),(4, .osl 2 1 0 (init.length+x.kids.length)),(5,(.i (.iref [.int x.kind, .int x.col, .bool x.val.null, .int x.val.n, .lit (.slice (some ⟨b',0,none⟩) x.kids.length cap)]))),(6, .int (x.kids.length-1)),(13, .junk),(37, .int x.kids.length),(38, .int x.kids.length),(39, .bool false)],st:=[some (.box zc),none,some (.arr 1 (RW init b' x.kids.length))] }) (by kernel_rfl) (by
     simp;rw[aO (YS b3 b' cap x init ES) x.kids.length (by simp[YS])]
     ·rw[aG];simp[YS,hk0,bZ hk0,zc,ptr]
     ·intro i hi;have w2:IntKind.i64.wrap ((i:Int)+1)=i+1:=wrO;have hi0:(i:Int)<x.kids.length:=by omega
      by_cases h0:i=0
      ·subst h0;have hl:(init.length+1)*8≤140737488355328:=by omega
       have hR:RW init b' 0++[[.lit (.pointer (some ⟨b',0,none⟩))]]=RW init b' 1:=by simpa [ptr]using AAV init b' 0
       simp[YS,zc,ptr,AFM,hi,hET,hEL,hl,hR]
      ·have hl:=hlim i (by omega);have hT:(RW init b' i).take (init.length+i)=RW init b' i:=zW (by rw[AFK];omega);have hR:RW init b' i++[[.lit (.pointer (some ⟨b',i*5,none⟩))]]=RW init b' (i+1):=by simpa [ptr]using AAV init b' i
       simp[YS,h0,bZ h0,zc,ptr,w2,hi,hT,AFK,hl,hR,← Nat.add_assoc]) g10) ?_
    rintro _ a11 w11 ⟨rfl,g11⟩;simp only[kX,Exit.then,Exit.inBlock];refine⟨n-1,by omega,init++gV b' 0 x.kids,[],K++gV b' 0 x.kids,?_,yJ _ hb3,?_,by omega,?_⟩
    ·intro k hk
     rcases zT.1 hk with h|h
     ·exact yJ _ (hsub k (by simp[h]))
     ·exact List.mem_append_right _ h
    ·rw[zA9,List.sum_append,H5];omega
    ·have g12:=g11.settle [2,3,4]
     have hR:List.map (fun k:(Nat×Nat)×Ex=>[ptr k.1]) (init++gV b' 0 x.kids++[])=RW init b' x.kids.length:=by
      rw[xB,zA9,H6];simp[RW]
     have hl:(init++gV b' 0 x.kids).length=init.length+x.kids.length:=by rw[zF,H7]
     simp only[SL,hR,hl]
     have hs:Av.settle [2,3,4] 0 (aT [(0, .junk),(2, .own 0 0),(3, .i (ptr (b3,0))),(4, .osl 2 1 0 (init.length+x.kids.length)),(5, .i (.iref [.int x.kind, .int x.col, .bool x.val.null, .int x.val.n, .lit (.slice (some ⟨b',0,none⟩) x.kids.length cap)])),(6, .int (x.kids.length-1)),(13, .junk),(37, .int x.kids.length),(38, .int x.kids.length),(39, .bool false)]) (bD [some (.box zc),none,some (.arr 1 (RW init b' x.kids.length))])={ env:=[(2, .own 0 0),(3, .i (ptr (b3,0))),(4, .osl 1 1 0 (init.length+x.kids.length))],st:=[some (.box zc),some (.arr 1 (RW init b' x.kids.length))] }:=by
      simp[zc,ptr]
     rw[hs]at g12
     exact g12.envTo (by
      intro t;simp only[aT];by_cases h2:t=2
      ·subst h2;simp
      by_cases h3:t=3
      ·subst h3;simp
      by_cases h4:t=4
      ·subst h4;simp
      ·simp[h2,h3,h4])
theorem RL {w:World} {m:Mem} {φ:Pl} {st:Store} {t:TypeId} {a v:AV} {x:Value} (hi:Inv w m φ st) (hr:Rep m φ a x) (h:D6 C1 t a st=some v):∃ y,(Instr.loadAt t x).run C1.P w=.ok y w∧Rep m φ v y:=by
 obtain⟨ad,y,k1,k2,k3⟩:=rT hi hr h;exact⟨y,by subst k1;simpa [Instr.loadAt,Instr.sureAddr]using k2,k3⟩
theorem AD0 {w:World} {m:Mem} (h:lD w m):Inv w m (fun _=>none) (bD []):=⟨h,fun id blk e=>(by simp[bD]at e),fun i j b b' n n' b1 b2 f e=>(by simp[bD]at e),fun _ _ _ _ e=>(by cases e)⟩
theorem wX {e:Ex} (he:e.size<1000000000) {wi:World} {mi:Mem} {φ:Pl} {vs:List Value} (hi:Inv wi mi φ (bD [])) (hr:RepL mi φ [.i (.iref e.cells)] vs) (h0:∀ id,φ id≠none→id<0) :
 Calls Tryz.prog 92 vs.toArray wi (bR wi mi φ (.i (.agg e.cells)) []):=by
 obtain rfl:φ=fun _=>none:=by
  funext id
  cases h:φ id with
  | none=>rfl
  | some p=>exact absurd (h0 id (by rw[h];simp)) (xZ _)
 cases hr with
 | cons h1 h2 =>
  cases h2
  have hp:=h1
  cases h1 with
  | i h1=>cases h1 with
   | iref ha =>
    refine NN he hi fun w' hs hw=>?_
    obtain⟨y,k1,k2⟩:=RL (t:=115) (v:=.i (.agg e.cells)) (hi.later hs hw) hp (by rw[Ex.aA];simp)
    cases k2 with
    | i k2=>exact⟨y,k1,k2⟩
theorem IJ {e:Ex} (he:e.size<1000000000) {w:World} {m:Mem} {φ:Pl} {vs:List Value} {es:List (List IV)} {j:Nat} (hes:es[j]?=some e.cells) (hi:Inv w m φ (bD [some (.arr 5 es)])) (hr:RepL m φ [.ownE 0 5 j 0] vs) (h0:∀ id,φ id≠none→id<1) :
 Calls Tryz.prog 92 vs.toArray w (bR w m φ (.i (.agg e.cells)) [some (.arr 5 es)]):=by
 cases hr with
 | cons h1 h2 =>
  cases h2
  have hp:=h1
  cases h1 with
  | ownE hφ =>
   refine(NN he (AD0 hi.mem) fun w' hs hw=>?_).mono ?_
   ·obtain⟨y,k1,k2⟩:=RL (t:=115) (v:=.i (.agg e.cells)) (hi.later hs hw) hp (by
     have h5:=hes;rw[← iU]at h5
     rw[Ex.aA]at h5 ⊢;simp[h5])
    cases k2 with
    | i k2=>exact⟨y,k1,k2⟩
   ·rintro en w' ⟨v,m',φ',rfl,j1,j2,j3,j4⟩;have free0:∀ b,jN (fun _=>none) b:=fun b id r n e=>by cases e
    have hsame:∀ f,f<w.heap.size→w'.heap[f]?=w.heap[f]?:=fun f hf=>j3.block f hf (free0 f)
    refine⟨v,m',φ,rfl,?_,⟨j2.mem,fun id blk hb=>?_,hi.inj,fun id b n f e ho=>zH (hi.low id b n f e ho) j3.size⟩,⟨j3.size,j3.os,j3.tape,j3.output,fun b hb' _=>hsame b hb',j3.mle,fun b hb' _ o=>j3.mnew b hb' (free0 b) o, .refl _,fun _ _ _ _ e ho=>.inr (jN.not e ho)⟩,h0⟩
    ·cases j1 with
     | i j1=>exact .i j1
    ·obtain⟨b,n,k1,k2,k3⟩:=hi.live id blk hb;exact⟨b,n,k1,⟨k2.1,fun f hf=>zH (k2.2 f hf) j3.size⟩,k3.mono k2.1 (fun f hf=>hsame f (k2.2 f hf)) j3.mle (.refl _) fun f hf o=>j3.mnew f (k2.2 f hf) (free0 f) o⟩
end Go.Proofs.YtjdfjgmebalaaaaGreat
namespace Go.Proofs.YtjdfjgmebalaaaaGreat.G
open Go Go.Av
set_option maxRecDepth 4000
set_option maxHeartbeats 4000000
noncomputable def AGS:FuncId→Option (List AV→StL→Option (AV×StL))
 | 92=>some EM
 | _=>none
noncomputable def C2:Ctx:={ P:=Tryz.prog,G:=GS,ownArgs:=bU,keepRes:=keepR,eqT:=JW,prim:=AGS }
@[simp] theorem AeH:C2.P=Tryz.prog:=(rfl)
@[simp] theorem AeI (f):C2.G f=GS f:=(rfl)
@[simp] theorem AeE (f):C2.ownArgs f=bU f:=(rfl)
@[simp] theorem AeF (f):C2.keepRes f=keepR f:=(rfl)
@[simp] theorem AeG (f):C2.eqT f=JW f:=(rfl)
@[simp] theorem AeD:C2.tree=false:=(rfl)
theorem ACG:PrimOk C2:=by
 have key:∀ g q,C2.prim g=some q→g=92∧q=EM:=by
  intro g q h;have h:AGS g=some q:=h;unfold AGS at h;split at h
  ·injection h with h;exact⟨rfl,h.symm⟩
  ·cases h
 constructor
 ·intro g args st p h;unfold bM at h
  cases hq:C2.prim g with
  | none=>rw[hq]at h;cases h
  | some q =>
   obtain⟨rfl,rfl⟩:=key g q hq;exact⟨Tryz.f92,Tryz.func92,by decide,rfl⟩
 ·intro g args stl r stl' h w m φ vs hi hr h0;unfold bM at h
  cases hq:C2.prim g with
  | none=>rw[hq]at h;cases h
  | some q =>
   obtain⟨rfl,rfl⟩:=key g q hq;rw[hq]at h;obtain⟨e,he,hres,hor⟩:=IG h;injection hres with h1 h2;subst h1;subst h2
   rcases hor with ⟨rfl,rfl⟩|⟨j,es,rfl,rfl,hes⟩
   ·exact wX he hi hr h0
   ·exact IJ he hes hi hr h0
theorem iD:SoundOk C2:=lH (C:=C2) ft nt eqS mo ACG
theorem AMB:aI C2 91 [.i (.isl [])] []=some (.nils,[]):=by
 rw[aD rfl Tryz.func91 rfl rfl];simp
theorem AI6 {ks:List Ex} (h:ks≠[]) (hl:ks.length<1000000000):aI C2 91 [.i (.isl (Ex.aB ks))] []=some (.osl 0 5 0 ks.length,[some (.arr 5 (Ex.aB ks))]):=by
 rw[aD rfl Tryz.func91 rfl rfl];have h1:56*(ks.length:Int)≤281474976710656:=by omega
 simp[h,h1];unfold over;simp
theorem AFI:aI C2 93 [.i (.isl [])] []=some (.nils,[]):=by
 rw[aD rfl Tryz.func93 rfl rfl];simp
theorem AA4 {l:List Int} (h:l≠[]) (hl:l.length<1000000000):aI C2 93 [.i (.isl (aF l))] []=some (.osl 0 1 0 l.length,[some (.arr 1 (aF l))]):=by
 rw[aD rfl Tryz.func93 rfl rfl];have h1:8*(l.length:Int)≤281474976710656:=by omega
 simp[h,h1];unfold over;simp
theorem T9:aI C2 94 [.i (.isl [])] []=some (.nils,[]):=by
 rw[aD rfl Tryz.func94 rfl rfl];simp
theorem K7 {ks:List Pn} (h:ks≠[]) (hl:ks.length<1000000000):aI C2 94 [.i (.isl (Pn.aB ks))] []=some (.osl 0 5 0 ks.length,[some (.arr 5 (Pn.aB ks))]):=by
 rw[aD rfl Tryz.func94 rfl rfl];have h1:88*(ks.length:Int)≤281474976710656:=by omega
 simp[h,h1];unfold over;simp
theorem AMA {e:Ex} {es:List (List IV)} {j:Nat} (h:e.size<1000000000) (he:fI es j=some e.cells):aI C2 92 [.ownE 0 5 j 0] [some (.arr 5 es)]=some (.i (.agg e.cells),[some (.arr 5 es)]):=by
 rw[bH (p:=EM) rfl];exact ZX h (by rw[← iU];exact he)
def zp:List AV:=[.int 0, .int 0, .nils, .nils, .nils]
def EV (b3:Nat) (v4 v5 v6 v7 v14 v38 v39 v40 v76 v77 v78:AV):List (Nat×AV):=[(0, .junk),(2, .own 0 0),(3, .i (ptr (b3,0))),(4,v4),(5,v5),(6,v6),(7,v7),(14,v14),(38,v38),(39,v39),(40,v40),(76,v76),(77,v77),(78,v78)]
def jO (l:PL):List (List IV):=l.map fun k=>[ptr k.1]
def SLp (b3:Nat) (todo X:PL):AS:={ env:=EV b3 (.osl 1 1 0 todo.length) .junk .junk .junk .junk .junk .junk .junk .junk .junk .junk,st:=[some (.box zp),some (.arr 1 (jO (todo++X)))] }
def SRp (b3 n o:Nat) (ES:List (List IV)) (v6 v7 v14 v38 v39 v40 v76 v77 v78:AV) (cells:List AV) (L:StL):AS:={ env:=EV b3 (.osl 1 1 0 n) (.own 2 o) v6 v7 v14 v38 v39 v40 v76 v77 v78,st:=some (.box zp)::some (.arr 1 ES)::some (.box cells)::L }
theorem JG:∀ (l:PL),∀ c∈(jO l).flatten,∃ v,c=.lit v
 | [],c,h=>by simp[jO]at h
 | k::l,c,h=>by
  simp only[jO,xO,z8,zT,List.mem_singleton]at h
  rcases h with rfl|h
  ·exact⟨_,rfl⟩
  ·exact JG l c h
theorem BR (a b x:Option Blk):upd (bD [a,b]) 2 x=bD [a,b,x]:=by
 funext i;rcases i with _|_|_|i<;>simp[bD,upd]
theorem APF (b3:Nat) (v4 v5 v5' v6 v7 v14 v38 v39 v40 v76 v77 v78:AV):upd (aT (EV b3 v4 v5 v6 v7 v14 v38 v39 v40 v76 v77 v78)) 5 v5'=aT (EV b3 v4 v5' v6 v7 v14 v38 v39 v40 v76 v77 v78):=by
 funext t;simp only[upd,EV,aT];by_cases h5:t=5
 ·subst h5;simp
 ·simp only[h5,if_false]
def XS (b3 n:Nat) (ES:List (List IV)) (pre post:List Value) (k t:Int) (es:List Ex) (aC aK:AV) (v14:AV) (i:Nat):AS :=
 SRp b3 n pre.length ES (jk i (.int (i-1))) .junk v14 (.int es.length) (.int i) (jk i (.bool true)) .junk .junk .junk (jD pre [.int k, .int t, .osl 3 5 0 es.length,aC,aK] post) [some (.arr 5 (Ex.aB es))]
set_option maxHeartbeats 8000000
def jj:List (Nat×AV):=[(4, .junk),(5, .junk),(6, .junk),(7, .junk),(14, .junk),(38, .junk),(39, .junk),(40, .junk),(76, .junk),(77, .junk),(78, .junk)]
theorem kP:ABD (fun _ _ _=>True):=fun _ _ _ _ _ _ _ _=>trivial
theorem AFL:IntKind.i64.wrap 1=1:=wrO
def RWp (init:PL) (b' i:Nat):List (List IV):=jO init++(List.range i).map fun j=>[ptr (b',j*5)]
theorem AAU (init:PL) (b' i:Nat):(RWp init b' i).length=init.length+i:=by simp[RWp,jO]
theorem AEB (init:PL) (b' i:Nat):RWp init b' i++[[ptr (b',i*5)]]=RWp init b' (i+1):=by simp[RWp,xC]
theorem GZ (b:Nat):∀ (o:Nat) (l:List Pn),jO (kC b o l)=(List.range l.length).map fun j=>[ptr (b,o+j*5)]
 | _,[]=>by simp[kC,jO]
 | o,a::l=>by
  have ih:=GZ b (o+5) l;simp only[jO]at ih ⊢;simp only[kC,xO,ih,zO,List.range_succ_eq_map,List.map_map];simp only[List.cons.injEq,Nat.zero_mul,xQ,true_and];apply List.map_congr_left;intro j _;simp only[Function.comp,Nat.succ_eq_add_one];rw[show o+5+j*5=o+(j+1)*5 by omega]
theorem MZ (b:Nat):∀ (o:Nat) (l:List Pn),(kC b o l).length=l.length
 | _,[]=>rfl
 | o,a::l=>by simp[kC,MZ b (o+5) l]
theorem MW (b:Nat):∀ (o:Nat) (l:List Pn),((kC b o l).map fun k=>k.2.size).sum=Pn.aZ l
 | _,[]=>by simp[kC,Pn.aZ]
 | o,a::l=>by simp[kC,Pn.aZ,MW b (o+5) l]
theorem MX {b:Nat}:∀ {o:Nat} {l:List Pn},∀ q∈kC b o l,q.2∈l∧q.1.1=b
 | _,[],q,h=>by simp[kC]at h
 | o,a::l,q,h=>by
  simp only[kC,zQ]at h
  rcases h with rfl|h
  ·simp
  ·have:=MX q h;exact⟨by simp[this.1],this.2⟩
def iE (es:List Ex):Nat:=if es.length=0 then 100 else 3
def lE (es:List Ex):StL:=if es.length=0 then []else [some (.arr 5 (Ex.aB es))]
def iC (es:List Ex) (cs:List Int):Nat:=if cs.length=0 then 101 else 3+(lE es).length
def lC (es:List Ex) (cs:List Int):StL:=if cs.length=0 then lE es else lE es++[some (.arr 1 (aF cs))]
def iK (es:List Ex) (cs:List Int) (ks:List Pn):Nat:=if ks.length=0 then 102 else 3+(lC es cs).length
def lK (es:List Ex) (cs:List Int) (ks:List Pn):StL:=if ks.length=0 then lC es cs else lC es cs++[some (.arr 5 (Pn.aB ks))]
def YP (b3 n o:Nat) (ES:List (List IV)) (init:PL) (b' nk:Nat) (cells:List AV) (i:Nat):AS :=
 { env:=EV b3 (if i=0 then .osl 1 1 0 n else .osl 3 1 0 (n+i)) (.own 2 o) .junk (jk i (.int (i-1))) (.bool true) .junk .junk .junk (.int nk) (.int i) (jk i (.bool true)),
   st:=some (.box zp)::(if i=0 then some (.arr 1 ES)else none)::some (.box cells)::(if i=0 then []else [some (.arr 1 (RWp init b' i))]) }
theorem XE (a b c:Option Blk):∀ (l:StL) {x:Option Blk},bD (a::b::c::(l++[x])) (3+l.length)=x:=by
 intro l x;rw[QY]
 have:(a::b::c::(l++[x]))[3+l.length]?=some x:=by
  rw[show 3+l.length=l.length+1+1+1 by omega];simp
 rw[this];rfl
theorem pU {p:Pn} (hsz:p.size<1000000000) (hth:p.thin) (hty:p.tiny) {wi:World} {mi:Mem} {vs:List Value} (hi:Inv wi mi (fun _=>none) (bD [])) (hr:RepL mi (fun _=>none) [.i (.iref p.cells)] vs) :
 Calls Tryz.prog 59 vs.toArray wi (KH wi mi p):=by
 refine calls_of_wp (fn:=Tryz.f59) Tryz.func59 rfl ?_;have hv1:vs.length=1:=by simpa using hr.length.symm
 have g0:GR wi mi 91 (fun id=>id<({ env:=[(0, .i (.iref p.cells))],st:=[] }:AS).st.length) (fun _ _ _=>True) (aT [(0, .i (.iref p.cells))]) (bD []) { tmps:=vs.toArray++Array.replicate (91-vs.toArray.size) undef,defers:=[] } wi:=by
  refine⟨⟨mi,fun _=>none,hi,?_, .refl _ _ _,fun id h=>absurd rfl h,trivial⟩,by simp;omega,rfl⟩;intro t;have:=kZ (m:=mi) (φ:=fun _=>none) (91-vs.toArray.size) hr t
  cases t with
  | zero=>simpa [aT,qW]using this
  | succ t=>simp only[aT];simp;exact .junk _
 refine wp_seq (wp_mono (GR.fC iD (G:=GS 59) (S:={ env:=[(0, .i (.iref p.cells))],st:=[] }) (e:=.normal) (S':={ env:=[(0, .i (.iref p.cells)),(2, .own 0 0),(3, .junk)]++jj,st:=[some (.box zp)] }) kP (by kernel_rfl) (by simp[zp,jj]) g0) ?_);rintro _ a1 w1 ⟨rfl,g1⟩;refine wp_seq (wp_mono (GR.fC iD (G:=GS 59) (S:={ env:=[(0, .i (.iref p.cells)),(2, .own 0 0),(3, .junk)]++jj,st:=[some (.box zp)] }) (e:=.normal) (S':={ env:=[(0, .i (.iref p.cells)),(2, .own 0 0),(3, .own 1 0)]++jj,st:=[some (.box zp),some (.box (jR p.cells))] }) kP (by kernel_rfl) (by rw[Pn.aA];simp[zp,jj]) g1) ?_);rintro _ a2 w2 ⟨rfl,g2⟩
 obtain⟨b3,g3⟩:=g2.AR1 (u:=3) (id:=1) (p:=p) (st':=bD [some (.box zp)]) rfl rfl (by
  intro i blk h
  cases i with
  | zero=>simp[bD]at h;subst h;exact⟨by omega,rfl,by simp[iA,zp]⟩
  | succ i=>simp[bD]at h)
 have g3:=g3 (aT [(2, .own 0 0),(3, .i (ptr (b3,0)))]) (by
  intro t;simp only[aT];by_cases h2:t=2
  ·subst h2;exact .inr (.inr ⟨rfl,by simp[aT,kH,bD,jj]⟩)
  ·by_cases h3:t=3
   ·subst h3;exact .inr (.inl ⟨rfl,rfl⟩)
   ·simp[h2,h3])
 have g3:=g3.ok' (ok':=fun id=>id<({ env:=[(2, .own 0 0),(3, .i (ptr (b3,0)))],st:=[some (.box zp)] }:AS).st.length) (by
  intro i h
  cases i with
  | zero=>simp
  | succ i=>simp[bD]at h)
 refine wp_seq (wp_mono (GR.fC iD (G:=GS 59) (S:={ env:=[(2, .own 0 0),(3, .i (ptr (b3,0)))],st:=[some (.box zp)] }) (e:=.normal) (S':=SLp b3 [((b3,0),p)] []) (RAW.KN _ _ _ _ _) (by kernel_rfl) (by simp[SLp,EV,jO,ptr,zp]) g3) ?_);rintro _ a3 w3 ⟨rfl,g4⟩;clear g0 g1 g2 g3;refine wp_seq (wp_block ?_);refine BD (fun n a w=>∃ (todo X H:PL) (F:List Nat),H.Perm todo∧(todo.map fun k=>k.2.size).sum=n∧n<1000000000∧(∀ q∈todo,q.2.thin∧q.2.tiny)∧GR wi mi 91 (fun id=>id<(SLp b3 todo X).st.length) (RAW wi b3 p F H) (aT (SLp b3 todo X).env) (bD (SLp b3 todo X).st) a w) ?_ (n:=p.size) ⟨[((b3,0),p)],[],[((b3,0),p)],[], .refl _,by simp,hsz,by simpa using ⟨hth,hty⟩,g4⟩;clear g4;rintro n a w ⟨todo,X,H,F,hperm,hsum,hn,hall,g⟩
 rcases xG todo with rfl|⟨init,k,rfl⟩
 ·obtain rfl:=List.perm_nil.1 hperm;refine wp_mono (GR.fC iD (G:=GS 59) (S:=SLp b3 [] X) (e:=.exit 0) (S':={ env:=EV b3 (.osl 1 1 0 0) .junk .junk .junk (.bool false) .junk .junk .junk .junk .junk .junk,st:=[some (.box zp),some (.arr 1 (jO X))] }) (RAW.KN _ _ _ _ _) (by kernel_rfl) (by simp[SLp,EV,zp]) g) ?_;rintro _ a5 w5 ⟨rfl,g5⟩;simp only[kX,Exit.then,Exit.inBlock,if_true];obtain⟨v0,v1,v2,v3,v4,post,hone,g6⟩:=g5.AMM (u:=3) (k:=2) rfl rfl (by simp)
  have g6:=(g6 (aT [(2, .own 0 0),(3, .own 2 0)]) (by
   intro t;simp only[aT];by_cases h2:t=2
   ·subst h2;exact .inr (.inr (by simp[aT,EV]))
   ·by_cases h3:t=3
    ·subst h3;exact .inr (.inl ⟨rfl,rfl⟩)
    ·simp[h2,h3])).ok' (ok':=fun id=>id<({ env:=[(2, .own 0 0),(3, .own 2 0)],st:=[some (.box zp),some (.arr 1 (jO X)),some (.box (bX [v0,v1,v2,v3,v4]++bX post))] }:AS).st.length) (by
   intro i h
   simp at h ⊢;omega)
  rw[BR]at g6
  refine wp_mono (GR.fC iD (G:=GS 59) (S:={ env:=[(2, .own 0 0),(3, .own 2 0)],st:=[some (.box zp),some (.arr 1 (jO X)),some (.box (bX [v0,v1,v2,v3,v4]++bX post))] }) (e:=.ret) (S':={ env:=[(0, .junk),(2, .own 0 0),(3, .own 2 0)]++jj,st:=[some (.box (bX [v0,v1,v2,v3,v4])),some (.arr 1 (jO X)),some (.box (bX [v0,v1,v2,v3,v4]++bX post))] }) (CPY.KN _ _ _ _ _ _ _ _) (by kernel_rfl) (by
   have hz:bX [v0,v1,v2,v3,v4]=[.i (.lit v0), .i (.lit v1), .i (.lit v2), .i (.lit v3), .i (.lit v4)]:=rfl;rw[hz]
   simp[zp,jj,DR,GI]) g6) ?_
  rintro _ a6 w6 ⟨rfl,g7⟩;obtain⟨⟨m,φ,q1,q2,q3,q4,q5⟩,q6,q7⟩:=g7
  obtain⟨v,k1,k2⟩:=fJ (C:=C2) (fn:=Tryz.f59) (keep:=false) (na:=0) (S:={ env:=[(0, .junk),(2, .own 0 0),(3, .own 2 0)]++jj,st:=[some (.box (bX [v0,v1,v2,v3,v4])),some (.arr 1 (jO X)),some (.box (bX [v0,v1,v2,v3,v4]++bX post))] }) (r:=.i (.agg [.lit v0, .lit v1, .lit v2, .lit v3, .lit v4])) (stl':=[]) (fun id h=>absurd rfl h) ⟨⟨⟨m,φ,q1,q2,q3,q4, .nil _ _ _⟩,q6,q7⟩,xJ _⟩ (by
   show finish C2 false [ResultVar.cell 2 34] 0 _=_;have hz:bX [v0,v1,v2,v3,v4]=[.i (.lit v0), .i (.lit v1), .i (.lit v2), .i (.lit v3), .i (.lit v4)]:=rfl;rw[hz]
   simp)
  have hv:v=.agg #[v0,v1,v2,v3,v4]:=by
   obtain⟨_,_,_,e,r,_⟩:=k2;injection e with e;subst e
   cases r with
   | i r=>cases r with
    | agg r =>
     cases r with|cons a0 _ r=>cases r with|cons a1 _ r=>cases r with|cons a2 _ r=>cases r with|cons a3 _ r=>cases r with|cons a4 _ r =>
     cases r
     rw[kU a0,kU a1,kU a2,kU a3,kU a4]
  subst hv;refine⟨q7,_,k1,v0,v1,v2,v3,v4,F,m,rfl,hone,q1.mem,⟨q3.size,q3.os,q3.tape,q3.output,q3.block,q3.mle,q3.mnew, .refl _,fun _ _ _ _ e=>by cases e⟩,q5.th,q5.cells,q5.nd,fun f hf=>?_⟩;obtain⟨z1,z2,z3,z4,z5⟩:=q5.all f hf;exact⟨z1,z2,(by intro _ _ _ e;cases e),z4,z5⟩
 ·obtain⟨⟨b,o⟩,x⟩:=k;rw[List.concat_eq_append]at hperm hsum hall g
  have hlen:∀ l:PL,l.length≤(l.map fun k=>k.2.size).sum:=by
   intro l
   induction l with
   | nil=>simp
   | cons a l ih=>have:=Pn.qH a.2;simp;omega
  have hil:=hlen init;simp at hsum;have hq:((b,o),x)∈H:=hperm.mem_iff.2 (by simp);have hxs:=Pn.size_eq x;have hkl:=Pn.bK x.kids;have hpos:(0:Int)<(init.length:Int)+1:=by omega
  have w1:IntKind.i64.wrap (init.length:Int)=init.length:=wrO;generalize hES:jO (init++[((b,o),x)]++X)=ES at *
  have hnth:fI ES init.length=some [ptr (b,o)]:=by
   rw[iU,← hES];simp[jO]
  have hlit:∀ c∈ES.flatten,∃ v,c=.lit v:=by rw[← hES];exact JG _
  have htake:ES.take init.length=jO init:=by rw[← hES];simp[jO]
  have hESl:init.length≤ES.length:=by rw[← hES];simp[jO]
  have hlt:(init.length:Int)<(init.length:Int)+1:=by omega
  have hlt2:(init.length:Int)≤(init.length:Int)+1:=by omega
  obtain⟨hxt,hxy⟩:=hall ((b,o),x) (by simp);simp only at hxt hxy;refine wp_seq (wp_mono (GR.fC iD (G:=GS 59) (S:=SLp b3 (init++[((b,o),x)]) X) (e:=.normal) (S':={ env:=EV b3 (.osl 1 1 0 (init.length+1)) .junk .junk .junk (.bool true) .junk .junk .junk .junk .junk .junk,st:=[some (.box zp),some (.arr 1 ES)] }) (RAW.KN _ _ _ _ _) (by kernel_rfl) (by simp only[SLp,hES];simp[EV,zp,hpos]) g) ?_);rintro _ a5 w5 ⟨rfl,g5⟩;clear g;refine wp_block ?_;refine wp_seq (wp_mono (GR.fC iD (G:=GS 59) (S:={ env:=EV b3 (.osl 1 1 0 (init.length+1)) .junk .junk .junk (.bool true) .junk .junk .junk .junk .junk .junk,st:=[some (.box zp),some (.arr 1 ES)] }) (e:=.normal) (S':={ env:=EV b3 (.osl 1 1 0 (init.length+1)) (.i (ptr (b,o))) .junk .junk (.bool true) .junk .junk .junk .junk .junk .junk,st:=[some (.box zp),some (.arr 1 ES)] }) (RAW.KN _ _ _ _ _) (by kernel_rfl) (by simp only[ptr]at hnth;simp[EV,ptr,zp,hnth,w1,hlt]) g5) ?_);rintro _ a6 w6 ⟨rfl,g6⟩;clear g5;refine wp_seq (wp_mono (GR.fC iD (G:=GS 59) (S:={ env:=EV b3 (.osl 1 1 0 (init.length+1)) (.i (ptr (b,o))) .junk .junk (.bool true) .junk .junk .junk .junk .junk .junk,st:=[some (.box zp),some (.arr 1 ES)] }) (e:=.normal) (S':={ env:=EV b3 (.osl 1 1 0 init.length) (.i (ptr (b,o))) .junk .junk (.bool true) .junk .junk .junk .junk .junk .junk,st:=[some (.box zp),some (.arr 1 ES)] }) (RAW.KN _ _ _ _ _) (by kernel_rfl) (by simp[EV,ptr,zp,w1,hlt2]) g6) ?_);rintro _ a7 w7 ⟨rfl,g7⟩;clear g6;obtain⟨pre,post,us,ma,e1,e2,e3,e4,e5,g8⟩:=g7.adopt (u:=5) (y:=x) rfl (by simp) hq rfl;clear g7;rw[APF,BR]at g8;subst e3;obtain⟨kd,tb,es,cs,ks⟩:=x;obtain⟨t1,t2,t3,t4,t5⟩:=(Pn.bC _).1 hxt;obtain⟨y1,y2⟩:=(Pn.J5 _).1 hxy;simp only[Pn.iV,Pn.bW,Pn.eU]at t1 t2 t3 t4 t5 y1 y2 hxs hkl;rw[Pn.dP]at g8;have hst:=ADP.KN wi b3 p F H b us w7 ma
  refine wp_seq (wp_mono (GR.fC iD (G:=GS 59) (S:=SRp b3 init.length pre.length ES .junk .junk (.bool true) .junk .junk .junk .junk .junk .junk (jD pre [.int kd, .int tb, .i (.isl (Ex.aB es)), .i (.isl (aF cs)), .i (.isl (Pn.aB ks))] post) []) (e:=.normal) (S':=SRp b3 init.length pre.length ES .junk .junk (.bool true) .junk .junk .junk .junk .junk .junk (jD pre [.int kd, .int tb,slA es.length (iE es) 5, .i (.isl (aF cs)), .i (.isl (Pn.aB ks))] post) (lE es)) hst (by kernel_rfl) (by
   by_cases he:es=[]
   ·subst he;simp[SRp,EV,zp,AIS,UF,bA,bJ,Ex.aB,AMB,slA,lE]
   ·have hel:es.length≠0:=fun h=>he (zX.1 h)
    simp[SRp,EV,zp,AIS,UF,bA,bJ,AI6 he t1,slA,lE,iE,he]) (g8.ok' fun id h=>by simp at h ⊢;simp[SRp];omega)) ?_)
  rintro _ a9 w9 ⟨rfl,g9⟩;clear g8
  refine wp_seq (wp_mono (GR.AM6 iD (G:=GS 59) (S:=SRp b3 init.length pre.length ES .junk .junk (.bool true) .junk .junk .junk .junk .junk .junk (jD pre [.int kd, .int tb,slA es.length (iE es) 5, .i (.isl (aF cs)), .i (.isl (Pn.aB ks))] post) (lE es)) hst
   (PP:=fun e S'=>e=.normal∧∃ v6 v38 v39 v40,S'=SRp b3 init.length pre.length ES v6 .junk (.bool true) v38 v39 v40 .junk .junk .junk (jD pre [.int kd, .int tb,slA es.length (iE es) 5, .i (.isl (aF cs)), .i (.isl (Pn.aB ks))] post) (lE es)) (by kernel_rfl) (by
   by_cases he:es=[]
   ·subst he;refine⟨.normal,SRp b3 init.length pre.length ES .junk .junk (.bool true) (.int 0) (.int 0) (.bool false) .junk .junk .junk (jD pre [.int kd, .int tb,slA 0 (iE []) 5, .i (.isl (aF cs)), .i (.isl (Pn.aB ks))] post) (lE []),?_,rfl,_,_,_,_,rfl⟩;simp[SRp,EV,zp,AIS,UF,bA,bJ,slA,lE];rw[aG];simp[bA,bJ]
   ·have hel:es.length≠0:=fun h=>he (zX.1 h)
    refine⟨.normal,SRp b3 init.length pre.length ES (.int (es.length-1)) .junk (.bool true) (.int es.length) (.int es.length) (.bool false) .junk .junk .junk (jD pre [.int kd, .int tb,slA es.length (iE es) 5, .i (.isl (aF cs)), .i (.isl (Pn.aB ks))] post) (lE es),?_,rfl,_,_,_,_,rfl⟩;simp[SRp,EV,zp,AIS,UF,bA,bJ,slA,lE,iE,he];rw[aO (XS b3 init.length ES pre post kd tb es (.i (.isl (aF cs))) (.i (.isl (Pn.aB ks))) (.bool true)) es.length (by simp[XS,SRp,EV,zp])]
    ·rw[aG];simp[XS,SRp,EV,zp,AIS,UF,bA,bJ,bZ hel]
    ·intro i hi;have h3:=zY hi;have hs:=y1 _ (zV h3);have r2:=Ex.aJ h3;generalize es[i]=a at h3 hs r2;have hk:=AMA hs r2;have hput:=Ex.qN h3;have w2:IntKind.i64.wrap ((i:Int)+1)=i+1:=wrO;rw[Ex.aA]at r2 hk hput
     simp[XS,SRp,EV,zp,AIS,UF,bA,bJ,hi,r2,hk,w2,hput]) g9) ?_)
  rintro _ a10 w10 ⟨e,S',rfl,⟨rfl,v6,v38,v39,v40,rfl⟩,g10⟩;clear g9
  have g10:=(g10.envTo (env':=aT (SRp b3 init.length pre.length ES .junk .junk (.bool true) .junk .junk .junk .junk .junk .junk (jD pre [.int kd, .int tb,slA es.length (iE es) 5, .i (.isl (aF cs)), .i (.isl (Pn.aB ks))] post) (lE es)).env) (by
   intro t;simp only[SRp,EV,aT];by_cases h6:t=6
   ·subst h6;simp
   by_cases h38:t=38
   ·subst h38;simp
   by_cases h39:t=39
   ·subst h39;simp
   by_cases h40:t=40
   ·subst h40;simp
   ·simp[h6,h38,h39,h40]))
  refine wp_seq (wp_mono (GR.fC iD (G:=GS 59) (S:=SRp b3 init.length pre.length ES .junk .junk (.bool true) .junk .junk .junk .junk .junk .junk (jD pre [.int kd, .int tb,slA es.length (iE es) 5, .i (.isl (aF cs)), .i (.isl (Pn.aB ks))] post) (lE es)) (e:=.normal) (S':=SRp b3 init.length pre.length ES .junk .junk (.bool true) .junk .junk .junk .junk .junk .junk (jD pre [.int kd, .int tb,slA es.length (iE es) 5,slA cs.length (iC es cs) 1, .i (.isl (Pn.aB ks))] post) (lC es cs)) hst (by kernel_rfl) (by
   by_cases he:es=[]<;>by_cases hc:cs=[]
   ·subst he;subst hc;simp[SRp,EV,zp,AN0,AC2,bA,bJ,aF,AFI,slA,lE,lC]
   ·have hcl:cs.length≠0:=fun h=>hc (zX.1 h)
    subst he;simp[SRp,EV,zp,AN0,AC2,bA,bJ,AA4 hc t3,slA,lE,lC,iC,hc]
   ·have hel:es.length≠0:=fun h=>he (zX.1 h)
    subst hc;simp[SRp,EV,zp,AN0,AC2,bA,bJ,aF,AFI,slA,lE,lC,iE,he]
   ·have hel:es.length≠0:=fun h=>he (zX.1 h)
    have hcl:cs.length≠0:=fun h=>hc (zX.1 h)
    simp[SRp,EV,zp,AN0,AC2,bA,bJ,AA4 hc t3,slA,lE,lC,iE,iC,he,hc]) g10) ?_)
  rintro _ a11 w11 ⟨rfl,g11⟩;clear g10
  refine wp_seq (wp_mono (GR.fC iD (G:=GS 59) (S:=SRp b3 init.length pre.length ES .junk .junk (.bool true) .junk .junk .junk .junk .junk .junk (jD pre [.int kd, .int tb,slA es.length (iE es) 5,slA cs.length (iC es cs) 1, .i (.isl (Pn.aB ks))] post) (lC es cs)) (e:=.normal) (S':=SRp b3 init.length pre.length ES .junk .junk (.bool true) .junk .junk .junk .junk .junk .junk (jD pre [.int kd, .int tb,slA es.length (iE es) 5,slA cs.length (iC es cs) 1,slA ks.length (iK es cs ks) 5] post) (lK es cs ks)) hst (by kernel_rfl) (by
   by_cases he:es=[]<;>by_cases hc:cs=[]<;>by_cases hk:ks=[]
   all_goals (try subst he)
   all_goals (try subst hc)
   all_goals (try subst hk)
   ·simp[SRp,EV,zp,TV,LY,bA,bJ,Pn.aB,T9,slA,lE,lC,lK]
   ·simp[SRp,EV,zp,TV,LY,bA,bJ,K7 hk t4,slA,lE,lC,lK,iK,hk]
   ·simp[SRp,EV,zp,TV,LY,bA,bJ,Pn.aB,T9,slA,lE,lC,lK,iC,hc]
   ·simp[SRp,EV,zp,TV,LY,bA,bJ,K7 hk t4,slA,lE,lC,lK,iC,iK,hc,hk]
   ·simp[SRp,EV,zp,TV,LY,bA,bJ,Pn.aB,T9,slA,lE,lC,lK,iE,he]
   ·simp[SRp,EV,zp,TV,LY,bA,bJ,K7 hk t4,slA,lE,lC,lK,iE,iK,he,hk]
   ·simp[SRp,EV,zp,TV,LY,bA,bJ,Pn.aB,T9,slA,lE,lC,lK,iE,iC,he,hc]
   ·simp[SRp,EV,zp,TV,LY,bA,bJ,K7 hk t4,slA,lE,lC,lK,iE,iC,iK,he,hc,hk]) g11) ?_)
  rintro _ a12 w12 ⟨rfl,g12⟩;clear g11
  obtain⟨F',H',us',b',cap,vE,vC,m2,hpm,hus,hone,hbn,g13⟩:=g12.AOG (u:=5) (st':=bD [some (.box zp),some (.arr 1 ES)]) (env':=aT (EV b3 (.osl 1 1 0 init.length) (.own 2 pre.length) .junk .junk (.bool true) .junk .junk .junk .junk .junk .junk)) (idE:=iE es) (idC:=iC es cs) (idK:=iK es cs ks) (oq:=pre.length) e1 e2 rfl e4 hq rfl
   (fun h=>by simp[SRp,iE,lE,lC,lK,h];split<;>split<;>simp[bD])
   (fun h=>by simp only[SRp,iC,lC,lK,h,if_false];cases hh:lE es with
    | nil=>split<;>simp[bD]
    | cons a l =>
     have:l=[]:=by unfold lE at hh;split at hh<;>simp_all
     subst this;split<;>simp[bD])
   (fun h=>by simp only[SRp,iK,lK,h,if_false];exact XE _ _ _ _)
   (by unfold iE iC iK lC lE;repeat' split<;>simp_all)
   (by
    intro i blk h
    rcases i with _|_|i
    ·simp[bD]at h;subst h;exact⟨by omega,rfl,by simp[iA,zp]⟩
    ·simp[bD]at h;subst h;exact⟨by omega,rfl,hlit⟩
    ·simp[bD]at h)
   (by
    intro t;simp only[SRp,EV,aT];by_cases h0:t=0
    ·subst h0;simp
    by_cases h2:t=2
    ·subst h2;exact .inr ⟨by simp, .inr (by simp[kH,bD])⟩
    by_cases h3:t=3
    ·subst h3;exact .inr ⟨by simp, .inr (by simp[kH,ptr])⟩
    by_cases h4:t=4
    ·subst h4;exact .inr ⟨by simp, .inr (by simp[kH,bD])⟩
    by_cases h5:t=5
    ·subst h5;exact .inr ⟨by simp, .inl (by simp)⟩
    by_cases h14:t=14
    ·subst h14;exact .inr ⟨by simp, .inr (by simp[kH])⟩
    simp[h0,h2,h3,h4,h5,h14])
  clear g12;rw[BR]at g13;have hbx:bX us'=jD pre [.i (.lit (.int .i64 kd)), .i (.lit (.int .i64 tb)), .i (.lit vE), .i (.lit vC), .i (.lit (if ks.length=0 then .slice none 0 0 else .slice (some ⟨b',0,none⟩) ks.length cap))] post:=by rw[hus];simp[jD,bX]
  rw[hbx]at g13;have hst':=ADP.KN wi b3 p F' H' b us' w12 m2
  refine wp_mono (GR.AM6 iD (G:=GS 59) (S:=SRp b3 init.length pre.length ES .junk .junk (.bool true) .junk .junk .junk .junk .junk .junk (jD pre [.i (.lit (.int .i64 kd)), .i (.lit (.int .i64 tb)), .i (.lit vE), .i (.lit vC), .i (.lit (if ks.length=0 then .slice none 0 0 else .slice (some ⟨b',0,none⟩) ks.length cap))] post) []) hst'
   (PP:=fun e S'=>e=.normal∧∃ v7 v76 v77 v78,S'={ env:=EV b3 (if ks.length=0 then .osl 1 1 0 init.length else .osl 3 1 0 (init.length+ks.length)) (.own 2 pre.length) .junk v7 (.bool true) .junk .junk .junk v76 v77 v78,st:=some (.box zp)::(if ks.length=0 then some (.arr 1 ES)else none)::some (.box (jD pre [.i (.lit (.int .i64 kd)), .i (.lit (.int .i64 tb)), .i (.lit vE), .i (.lit vC), .i (.lit (if ks.length=0 then .slice none 0 0 else .slice (some ⟨b',0,none⟩) ks.length cap))] post))::(if ks.length=0 then []else [some (.arr 1 (RWp init b' ks.length))]) }) (by kernel_rfl) (by
   by_cases h0:ks.length=0
   ·refine⟨.normal,{ env:=EV b3 (.osl 1 1 0 init.length) (.own 2 pre.length) .junk .junk (.bool true) .junk .junk .junk (.int 0) (.int 0) (.bool false),st:=some (.box zp)::some (.arr 1 ES)::some (.box (jD pre [.i (.lit (.int .i64 kd)), .i (.lit (.int .i64 tb)), .i (.lit vE), .i (.lit vC), .i (.lit (if ks.length=0 then .slice none 0 0 else .slice (some ⟨b',0,none⟩) ks.length cap))] post))::[] },?_,rfl, .junk, .int 0, .int 0, .bool false,by simp[h0]⟩;simp[SRp,EV,zp,TV,bA,bJ,h0];rw[aG];simp[bA,bJ]
   ·refine⟨.normal,{ env:=EV b3 (.osl 3 1 0 (init.length+ks.length)) (.own 2 pre.length) .junk (.int (ks.length-1)) (.bool true) .junk .junk .junk (.int ks.length) (.int ks.length) (.bool false),st:=some (.box zp)::none::some (.box (jD pre [.i (.lit (.int .i64 kd)), .i (.lit (.int .i64 tb)), .i (.lit vE), .i (.lit vC), .i (.lit (if ks.length=0 then .slice none 0 0 else .slice (some ⟨b',0,none⟩) ks.length cap))] post))::[some (.arr 1 (RWp init b' ks.length))] },?_,rfl, .int (ks.length-1), .int ks.length, .int ks.length, .bool false,by simp[h0]⟩;simp only[h0,if_false];simp[SRp,EV,zp,TV,bA,bJ];rw[aO (YP b3 init.length pre.length ES init b' ks.length (jD pre [.i (.lit (.int .i64 kd)), .i (.lit (.int .i64 tb)), .i (.lit vE), .i (.lit vC), .i (.lit (if ks.length=0 then .slice none 0 0 else .slice (some ⟨b',0,none⟩) ks.length cap))] post)) ks.length (by simp[YP,EV,zp,h0])]
    ·rw[aG];simp[YP,EV,zp,TV,bA,bJ,h0,bZ h0]
    ·intro i hi;have w2:IntKind.i64.wrap ((i:Int)+1)=i+1:=wrO;by_cases hi0:i=0
     ·subst hi0;have hR:jO init++[[.lit (.pointer (some ⟨b',0,none⟩))]]=RWp init b' 1:=by simp[RWp,ptr]
      have hl:(init.length+1)*8≤140737488355328:=by omega
      simp[YP,EV,zp,TV,bA,bJ,h0,AFL,hi,htake,hR,hl,hESl]
     ·have hl:(init.length+i+1)*8≤140737488355328:=by omega
      have hT:(RWp init b' i).take (init.length+i)=RWp init b' i:=zW (by rw[AAU];omega);have hR:RWp init b' i++[[.lit (.pointer (some ⟨b',i*5,none⟩))]]=RWp init b' (i+1):=by simpa [ptr]using AEB init b' i
      simp[YP,EV,zp,TV,bA,bJ,h0,hi0,bZ hi0,w2,hi,hT,AAU,hl,hR,← Nat.add_assoc]) (g13.ok' fun id h=>by simp[SRp];omega)) ?_
  rintro _ a13 w13 ⟨e,S',rfl,⟨rfl,v7,v76,v77,v78,rfl⟩,g14⟩;clear g13;simp only[kX,Exit.then,Exit.inBlock]
  have hpm2:H'.Perm (init++kC b' 0 ks):=by
   have h1:(((b,pre.length),Pn.mk kd tb es cs ks)::H').Perm (((b,pre.length),Pn.mk kd tb es cs ks)::(init++kC b' 0 ks)):=by
    refine hpm.trans ((hperm.append_right _).trans ?_);rw[yL];exact List.perm_middle
   exact(List.perm_cons _).1 h1
  have hszx:(Pn.mk kd tb es cs ks).size=1+Pn.aZ ks:=hxs
  have hall2:∀ q∈init++kC b' 0 ks,q.2.thin∧q.2.tiny:=by
   intro q hq'
   rcases zT.1 hq' with h|h
   ·exact hall q (by simp[h])
   ·have:=(MX q h).1;exact⟨t5 _ this,y2 _ this⟩
  have hsum2:((init++kC b' 0 ks).map fun k=>k.2.size).sum=n-1:=by
   rw[zA9,List.sum_append,MW];omega
  by_cases hk0:ks.length=0
  ·have hks:ks=[]:=zX.1 hk0;subst hks;simp only[xL,if_true]at g14 hbx
   have g15:=g14.S9 (st':=bD [some (.box zp),some (.arr 1 ES)]) (env':=aT (EV b3 (.osl 1 1 0 init.length) .junk .junk .junk .junk .junk .junk .junk .junk .junk .junk)) (by rw[hbx];rfl) (by
    intro i blk h
    rcases i with _|_|i
    ·simp[bD]at h;subst h;exact⟨by omega,rfl,by simp[iA,zp]⟩
    ·simp[bD]at h;subst h;exact⟨by omega,rfl,hlit⟩
    ·simp[bD]at h) (by
    intro t;simp only[EV,aT];by_cases h0:t=0
    ·subst h0;simp
    by_cases h2:t=2
    ·subst h2;exact .inr ⟨by simp,by simp[kH,bD]⟩
    by_cases h3:t=3
    ·subst h3;exact .inr ⟨by simp,by simp[kH,ptr]⟩
    by_cases h4:t=4
    ·subst h4;exact .inr ⟨by simp,by simp[kH,bD]⟩
    simp[h0,h2,h3,h4])
   simp only[kC,xB]at hpm2 hall2 hsum2;refine⟨n-1,by omega,init,[((b,pre.length),Pn.mk kd tb es cs [])]++X,H',F',hpm2,hsum2,by omega,hall2,?_⟩;have hES2:jO (init++([((b,pre.length),Pn.mk kd tb es cs [])]++X))=ES:=by rw[← hES,yL]
   simp only[SLp,hES2]
   exact g15.ok' (by
    intro i h
    rcases i with _|_|i
    ·simp
    ·simp
    ·simp[bD]at h)
  ·simp only[hk0,if_false]at g14 hbx
   have g15:=g14.S9 (st':=bD [some (.box zp),none,none,some (.arr 1 (RWp init b' ks.length))]) (env':=aT [(2, .own 0 0),(3, .i (ptr (b3,0))),(4, .osl 3 1 0 (init.length+ks.length))]) (by rw[hbx];rfl) (by
    intro i blk h
    rcases i with _|_|_|_|i
    ·simp[bD]at h;subst h;exact⟨by omega,rfl,by simp[iA,zp]⟩
    ·simp[bD]at h
    ·simp[bD]at h
    ·simp[bD]at h;subst h;exact⟨by omega,rfl,by
      intro c hc;rw[List.mem_flatten]at hc;obtain⟨r,hr1,hr2⟩:=hc;unfold RWp at hr1
      rcases zT.1 hr1 with h|h
      ·exact JG init c (List.mem_flatten.2 ⟨r,h,hr2⟩)
      ·obtain⟨j,_,rfl⟩:=yB.1 h
       simp at hr2;subst hr2;exact⟨_,rfl⟩⟩
    ·simp[bD]at h) (by
    intro t;simp only[EV,aT];by_cases h2:t=2
    ·subst h2;exact .inr ⟨by simp,by simp[kH,bD]⟩
    by_cases h3:t=3
    ·subst h3;exact .inr ⟨by simp,by simp[kH,ptr]⟩
    by_cases h4:t=4
    ·subst h4;exact .inr ⟨by simp,by simp[kH,bD]⟩
    simp[h2,h3,h4])
   have g16:=g15.settle (fun w m φ ids h=>RAW.keep ids h) [2,3,4]
   have hs:Av.settle [2,3,4] 0 (aT [(2, .own 0 0),(3, .i (ptr (b3,0))),(4, .osl 3 1 0 (init.length+ks.length))]) (bD [some (.box zp),none,none,some (.arr 1 (RWp init b' ks.length))])={ env:=[(2, .own 0 0),(3, .i (ptr (b3,0))),(4, .osl 1 1 0 (init.length+ks.length))],st:=[some (.box zp),some (.arr 1 (RWp init b' ks.length))] }:=by
    simp[zp,ptr]
   rw[hs]at g16;refine⟨n-1,by omega,init++kC b' 0 ks,[],H',F',hpm2,hsum2,by omega,hall2,?_⟩
   have hR:jO (init++kC b' 0 ks++[])=RWp init b' ks.length:=by
    rw[xB];have:=GZ b' 0 ks;simp only[jO]at this;simp only[jO,RWp,zA9,this,zD]
   have hl:(init++kC b' 0 ks).length=init.length+ks.length:=by rw[zF,MZ]
   simp only[SLp,hR,hl]
   exact g16.envTo (by
    intro t;simp only[EV,aT];by_cases h0:t=0
    ·subst h0;simp
    by_cases h2:t=2
    ·subst h2;simp
    by_cases h3:t=3
    ·subst h3;simp
    by_cases h4:t=4
    ·subst h4;simp
    ·simp[h0,h2,h3,h4])
theorem K3 {p:Pn} (hsz:p.size<1000000000) (hth:p.thin) (hty:p.tiny) {wi:World} {mi:Mem} {φ:Pl} {vs:List Value} (hi:Inv wi mi φ (bD [])) (hr:RepL mi φ [.i (.iref p.cells)] vs) (h0:∀ id,φ id≠none→id<0) :
 Calls Tryz.prog 59 vs.toArray wi (bR wi mi φ (.i (.agg p.cells)) []):=by
 obtain rfl:φ=fun _=>none:=by
  funext id
  cases h:φ id with
  | none=>rfl
  | some p=>exact absurd (h0 id (by rw[h];simp)) (xZ _)
 exact(pU hsz hth hty hi hr).mono fun _ _ h=>h.tree
end Go.Proofs.YtjdfjgmebalaaaaGreat.G
namespace Go.Av
section
variable {wi:World} {mi:Mem} {nt:Nat}
theorem GR.AQZ {ok:Nat→Prop} {R:World→Mem→Pl→Prop} {env:Nat→AV} {st:Store} {a:Act} {w:World} {u bq oq:Nat} {cs:List IV} (h:GR wi mi nt ok R env st a w) (hu:env u=.i (.lit (.pointer (some ⟨bq,oq,none⟩)))) (hc:IAt mi bq oq cs):GR wi mi nt ok R (upd env u (.i (.iref cs))) st a w:=by
 refine h.turn fun m φ h1 h2 h3 h4 h5=>⟨m,φ,h1,fun t=>?_,h3,h4,h5⟩
 by_cases ht:t=u
 ·subst ht;have:=h2 t;rw[hu]at this;simp only[upd,if_true];rw[this.bP];exact .i (.iref (hc.mono h3.mle))
 ·simp only[upd,ht,if_false];exact h2 t
end
theorem AtP.see {w:World} {m:Mem} {x:Pn} {b o:Nat} {F:List Nat} {path:List Int} {y:Pn} {bq oq:Nat} {Fa Fy Fz:List Nat} (h:AtP w m x b o F path y bq oq Fa Fy Fz):∃ v0 v1 v2 v3 ao cap,IAt (dA w) bq oq [.lit v0, .lit v1, .lit v2, .lit v3, .lit (.slice ao y.kids.length cap)]∧w.cell? ⟨bq,oq+4,none⟩=some (.slice ao y.kids.length cap):=by
 obtain⟨v0,v1,v2,v3,v4,h5,hone,⟨ao,cap,rfl⟩,_,_⟩:=h.th.cells;exact⟨v0,v1,v2,v3,ao,cap, .cons h5.c0 (.lit _) (hone _ (by simp)) (.cons h5.c1 (.lit _) (hone _ (by simp)) (.cons h5.c2 (.lit _) (hone _ (by simp)) (.cons h5.c3 (.lit _) (hone _ (by simp)) (.cons h5.c4 (.lit _) (hone _ (by simp)) (.nil _ _))))),h5.c4⟩
end Go.Av
namespace Go.Proofs.YtjdfjgmebalaaaaGreat.G
open Go Go.Av
set_option maxRecDepth 4000
set_option maxHeartbeats 4000000
def AEV (v0:AV) (path:List Int) (v6 v13 v26:AV) (i:Nat):List (Nat×AV):=[(0,v0),(1, .i (.isl (aF path))),(4, .i (.lit (.pointer none))),(6,v6),(9, .bool false),(10, .i (.isl (aF path))),(11, .int path.length),(12, .int i),(13,v13),(26,v26)]
theorem ALY (v0 v0':AV) (path:List Int) (v6 v13 v26:AV) (i:Nat):upd (aT (AEV v0 path v6 v13 v26 i)) 0 v0'=aT (AEV v0' path v6 v13 v26 i):=by
 funext t;simp only[upd,AEV,aT];by_cases h0:t=0
 ·subst h0;simp
 ·simp only[h0,if_false]
theorem AE1 {w:World} {m:Mem} {p y:Pn} {root:Nat} {F:List Nat} {path:List Int} (hth:TH w m p root 0 F []) (hr:root ∉ F) (hn:F.Nodup) (hy:Pn.at path p=some y) (hl:path.length≤8) {vs:List Value} (hvs:RepL (dA w) (fun _=>none) [.i (.lit (.pointer (some ⟨root,0,none⟩))), .i (.isl (aF path))] vs) :
 Calls Tryz.prog 69 vs.toArray w fun e w'=>∃ bq oq Fa Fy Fz m',e=.returned (.pointer (some ⟨bq,oq,none⟩))∧AtP w m p root 0 F path y bq oq Fa Fy Fz∧lD w' m'∧Adv w (dA w) (fun _=>none) w' m' (fun _=>none):=by
 refine calls_of_wp (fn:=Tryz.f69) Tryz.func69 rfl ?_;have hv1:vs.length=2:=by simpa using hvs.length.symm
 have g0:GR w (dA w) 35 (fun id=>id<({ env:=[(0, .i (.lit (.pointer (some ⟨root,0,none⟩)))),(1, .i (.isl (aF path)))],st:=[] }:AS).st.length) (fun _ _ _=>True) (aT [(0, .i (.lit (.pointer (some ⟨root,0,none⟩)))),(1, .i (.isl (aF path)))]) (bD []) { tmps:=vs.toArray++Array.replicate (35-vs.toArray.size) undef,defers:=[] } w:=by
  refine⟨⟨dA w,fun _=>none,inv0 w,?_, .refl _ _ _,fun id h=>absurd rfl h,trivial⟩,by simp;omega,rfl⟩;intro t;have:=kZ (m:=dA w) (φ:=fun _=>none) (35-vs.toArray.size) hvs t
  rcases t with _|_|t
  ·simpa [aT,qW]using this
  ·simpa [aT,qW]using this
  ·simp only[aT];simp;exact .junk _
 refine wp_seq (wp_mono (GR.fC iD (G:=GS 69) (S:={ env:=[(0, .i (.lit (.pointer (some ⟨root,0,none⟩)))),(1, .i (.isl (aF path)))],st:=[] }) (e:=.normal) (S':={ env:=[(0, .i (.lit (.pointer (some ⟨root,0,none⟩)))),(1, .i (.isl (aF path))),(4, .i (.lit (.pointer none))),(6, .junk),(9, .junk),(10, .junk),(11, .junk),(12, .junk),(13, .junk),(26, .junk)],st:=[] }) kP (by kernel_rfl) (by simp) g0) ?_);rintro _ a1 w1 ⟨rfl,g1⟩;have hle:¬ (8:Int)<path.length:=by omega
 refine wp_seq (wp_mono (GR.fC iD (G:=GS 69) (S:={ env:=[(0, .i (.lit (.pointer (some ⟨root,0,none⟩)))),(1, .i (.isl (aF path))),(4, .i (.lit (.pointer none))),(6, .junk),(9, .junk),(10, .junk),(11, .junk),(12, .junk),(13, .junk),(26, .junk)],st:=[] }) (e:=.normal) (S':={ env:=[(0, .i (.lit (.pointer (some ⟨root,0,none⟩)))),(1, .i (.isl (aF path))),(4, .i (.lit (.pointer none))),(6, .junk),(9, .bool false),(10, .junk),(11, .junk),(12, .junk),(13, .junk),(26, .junk)],st:=[] }) kP (by kernel_rfl) (by simp[hle]) g1) ?_);rintro _ a2 w2 ⟨rfl,g2⟩;refine wp_seq (wp_seq (wp_mono (GR.fC iD (G:=GS 69) (S:={ env:=[(0, .i (.lit (.pointer (some ⟨root,0,none⟩)))),(1, .i (.isl (aF path))),(4, .i (.lit (.pointer none))),(6, .junk),(9, .bool false),(10, .junk),(11, .junk),(12, .junk),(13, .junk),(26, .junk)],st:=[] }) (e:=.normal) (S':={ env:=AEV (.i (.lit (.pointer (some ⟨root,0,none⟩)))) path .junk .junk .junk 0,st:=[] }) kP (by kernel_rfl) (by simp[AEV]) g2) ?_));rintro _ a3 w3 ⟨rfl,g3⟩;clear g0 g1 g2;refine wp_block ?_;refine BD (fun n a w'=>∃ (i:Nat) (z:Pn) (bq oq:Nat) (Fa Fy Fz:List Nat),n=path.length-i∧i≤path.length∧AtP w m p root 0 F (path.take i) z bq oq Fa Fy Fz∧GR w (dA w) 35 (fun id=>id<0) (fun _ _ _=>True) (aT (AEV (.i (.lit (.pointer (some ⟨bq,oq,none⟩)))) path .junk .junk .junk i)) (bD []) a w') ?_ (n:=path.length) ⟨0,p,root,0,[],F,[],by omega,by omega,by simpa using AtP.start hth hr hn,g3⟩;clear g3;rintro n a w' ⟨i,z,bq,oq,Fa,Fy,Fz,rfl,hi,hat,g⟩;by_cases hi2:i=path.length
 ·subst hi2;rw[List.take_length]at hat;have hz:z=y:=by have:=hat.is;rw[hy]at this;injection this with this;exact this.symm
  subst hz;refine wp_mono (GR.fC iD (G:=GS 69) (S:={ env:=AEV (.i (.lit (.pointer (some ⟨bq,oq,none⟩)))) path .junk .junk .junk path.length,st:=[] }) (e:=.exit 0) (S':={ env:=AEV (.i (.lit (.pointer (some ⟨bq,oq,none⟩)))) path .junk (.bool false) .junk path.length,st:=[] }) kP (by kernel_rfl) (by simp[AEV]) g) ?_;rintro _ a5 w5 ⟨rfl,g5⟩;simp only[kX,Exit.then,Exit.inBlock,if_true];refine wp_mono (GR.fC iD (G:=GS 69) (S:={ env:=AEV (.i (.lit (.pointer (some ⟨bq,oq,none⟩)))) path .junk (.bool false) .junk path.length,st:=[] }) (e:=.ret) (S':={ env:=[(0, .i (.lit (.pointer (some ⟨bq,oq,none⟩)))),(1, .i (.isl (aF path))),(4, .i (.lit (.pointer (some ⟨bq,oq,none⟩)))),(6, .junk),(9, .bool false),(10, .i (.isl (aF path))),(11, .int path.length),(12, .int path.length),(13, .bool false),(26, .junk)],st:=[] }) kP (by kernel_rfl) (by simp[AEV]) g5) ?_;rintro _ a6 w6 ⟨rfl,g6⟩;obtain⟨⟨m2,φ2,q1,q2,q3,q4,q5⟩,q6,q7⟩:=g6
  have hφ:φ2=fun _=>none:=by
   funext id
   cases h:φ2 id with
   | none=>rfl
   | some p=>exact absurd (q4 id (by rw[h];simp)) (xZ _)
  subst hφ
  obtain⟨v,k1,k2⟩:=fJ (C:=C2) (fn:=Tryz.f69) (keep:=false) (na:=0) (S:={ env:=[(0, .i (.lit (.pointer (some ⟨bq,oq,none⟩)))),(1, .i (.isl (aF path))),(4, .i (.lit (.pointer (some ⟨bq,oq,none⟩)))),(6, .junk),(9, .bool false),(10, .i (.isl (aF path))),(11, .int path.length),(12, .int path.length),(13, .bool false),(26, .junk)],st:=[] }) (r:=.i (.lit (.pointer (some ⟨bq,oq,none⟩)))) (stl':=[]) (fun id h=>absurd rfl h) ⟨⟨⟨m2,fun _=>none,q1,q2,q3,q4, .nil _ _ _⟩,q6,q7⟩,xJ _⟩ (by
   show finish C2 false [ResultVar.tmp 4] 0 _=_
   simp)
  have hv:v=.pointer (some ⟨bq,oq,none⟩):=by
   obtain⟨_,_,_,e,r,_⟩:=k2;injection e with e;subst e;exact r.bP
  subst hv;exact⟨q7,_,k1,bq,oq,Fa,Fy,Fz,m2,rfl,hat,q1.mem,q3⟩
 ·have hi3:i<path.length:=by omega
  have q1:=zY hi3
  have hsplit:path=path.take i++path[i]::path.drop (i+1):=by
   rw[← List.drop_eq_getElem_cons hi3,yK]
  have hr2:Pn.at (path[i]::path.drop (i+1)) z=some y:=by
   rw[hsplit]at hy
   rwa [uO _ _ _ _ hat.is]at hy
  obtain⟨x,hx,zk,hk1,hk2⟩:=Pn.oD hr2;obtain⟨b',cap,hc1,hc2,Fa',Fy',Fz',hat'⟩:=hat.step hk1;obtain⟨v0,v1,v2,v3,ao,cap',hsee,hsee2⟩:=hat.see;rw[hc1]at hsee2;injection hsee2 with hsee2;injection hsee2 with e1 _ e3;subst e1;subst e3;have htk:path.take i++[(x:Int)]=path.take (i+1):=by rw[← hx,zA1,q1];rfl
  rw[htk]at hat';have r1:=aW q1;rw[hx]at r1;have hxl:x<z.kids.length:=(zZ.1 hk1).1;have g1:=g.AQZ (u:=0) rfl hsee;rw[ALY]at g1;have w2:IntKind.i64.wrap ((i:Int)+1)=i+1:=wrO
  refine wp_mono (GR.fC iD (G:=GS 69) (S:={ env:=AEV (.i (.iref [.lit v0, .lit v1, .lit v2, .lit v3, .lit (.slice (some ⟨b',0,none⟩) z.kids.length cap)])) path .junk .junk .junk i,st:=[] }) (e:=.normal) (S':={ env:=AEV (.i (.lit (.pointer (some ⟨b',x*5,none⟩)))) path (.int x) (.bool true) (.bool false) (i+1),st:=[] }) kP (by kernel_rfl) (by
   have n1:¬ (x:Int)<0:=by omega
   have n2:¬ z.kids.length≤x:=by omega
   simp[AEV,hi3,r1,hxl,w2,n1,n2]) g1) ?_
  rintro _ a5 w5 ⟨rfl,g5⟩;simp only[kX,Exit.then,Exit.inBlock];refine⟨path.length-(i+1),by omega,i+1,zk,b',5*x,Fa',Fy',Fz',rfl,by omega,hat',?_⟩;rw[zG 5 x]
  exact g5.envTo (by
   intro t;simp only[AEV,aT];by_cases h6:t=6
   ·subst h6;simp
   by_cases h13:t=13
   ·subst h13;simp
   by_cases h26:t=26
   ·subst h26;simp
   simp[h6,h13,h26])
end Go.Proofs.YtjdfjgmebalaaaaGreat.G
namespace Go.Av
theorem DF:∀ (l:List Int) (i:Nat) (x:Int),(aF l).set i [.int x]=aF (l.set i x)
 | [],i,x=>by simp[aF]
 | a::l,0,x=>by simp[aF]
 | a::l,i+1,x=>by simp[aF,DF l i x]
end Go.Av
namespace Go.Proofs.YtjdfjgmebalaaaaGreat
open Go Go.Av
set_option maxHeartbeats 4000000
set_option maxRecDepth 4000
theorem N7 (n:Int):n=1∨n=2∨n=3∨n=4∨n=5∨n=6∨n=7∨n=8∨n=9∨n=10∨n=11∨(n≠1∧n≠2∧n≠3∧n≠4∧n≠5∧n≠6∧n≠7∧n≠8∧n≠9∧n≠10∧n≠11):=by omega
@[simp] theorem ACY (n:Int):aI C0 205 [.int n] []=some (.int (bO n),[]):=by
  rw[aD rfl Tryz.func205 rfl rfl]
  rcases N7 n with rfl|rfl|rfl|rfl|rfl|rfl|rfl|rfl|rfl|rfl|rfl|⟨h1,h2,h3,h4,h5,h6,h7,h8,h9,h10,h11⟩
  all_goals first
   | (simp[bO];done)
   | (have e:bO n=-1:=by
       unfold bO;rw[if_neg (by omega),if_neg (by omega),if_neg (by omega)]
      simp[e,h1,h2,h3,h4,h5,h6,h7,h8,h9,h10,h11])
@[simp] theorem ALE (n:Int):aI C0 192 [.int n] []=some (.int (bO n),[]):=by
  rw[aD rfl Tryz.func192 rfl rfl]
  rcases N7 n with rfl|rfl|rfl|rfl|rfl|rfl|rfl|rfl|rfl|rfl|rfl|⟨h1,h2,h3,h4,h5,h6,h7,h8,h9,h10,h11⟩
  all_goals first
   | (simp[bO];done)
   | (have e:bO n=-1:=by
       unfold bO;rw[if_neg (by omega),if_neg (by omega),if_neg (by omega)]
      simp[e,h1,h2,h3,h4,h5,h6,h7,h8,h9,h10,h11])
@[simp] theorem ABN (n:Int):aI C0 143 [.int n] []=some (.bool (bI n),[]):=by
  rw[aD rfl Tryz.func143 rfl rfl];by_cases h1:1≤n<;>by_cases h2:n≤6<;>simp[bI,h1,h2]
@[simp] theorem HZ (n a b:Int):aI C0 132 [.int n, .int a, .int b] []=some (.bool (decide (a≤n∧n≤b)),[]):=by
  rw[aD rfl Tryz.func132 rfl rfl];by_cases h1:a≤n<;>by_cases h2:n≤b<;>simp[h1,h2]
@[simp] theorem valid_eq (b:Bool) (n:Int):aI C0 206 [.i (.agg [.bool b, .int n])] []=some (.bool (Val.ok ⟨b,n⟩),[]):=by
  rw[aD rfl Tryz.func206 rfl rfl]
  cases b
  ·by_cases h1:-9999≤n<;>by_cases h2:n≤9999<;>simp[Val.ok,h1,h2]
  ·by_cases h1:n=0<;>simp[Val.ok,h1]
@[simp] theorem ABO (b:Bool) (n:Int):aI C0 193 [.i (.agg [.bool b, .int n])] []=some (.bool (Val.ok ⟨b,n⟩),[]):=by
  rw[aD rfl Tryz.func193 rfl rfl]
  cases b
  ·by_cases h1:-9999≤n<;>by_cases h2:n≤9999<;>simp[Val.ok,h1,h2]
  ·by_cases h1:n=0
   ·subst h1;simp[Val.ok]
   ·by_cases h2:-9999≤n<;>by_cases h3:n≤9999<;>simp[Val.ok,h1,h2,h3]
theorem AEE {e:Ex} {w:Int} (n:Nat) (hk:¬ (e.kids.length:Int)=bO e.kind):aI C0 195 [.i (.iref e.cells), .int w, .int n] []=some (.bool false,[]):=by
 rw[aD rfl Tryz.func195 rfl rfl,Ex.aA];simp[Ex.aV,hk]
theorem AFR {e:Ex} {w:Int} (hk:(e.kids.length:Int)=bO e.kind) (hz:0<bO e.kind):aI C0 195 [.i (.iref e.cells), .int w, .int 0] []=some (.bool false,[]):=by
 rw[aD rfl Tryz.func195 rfl rfl,Ex.aA];simp[Ex.aV,hk,hz]
theorem WU {e:Ex} {w:Int} (n:Nat) (hk:(e.kids.length:Int)=bO e.kind) (hz:0<bO e.kind→n≠0) (hh:e.headOk w=false) :
 aI C0 195 [.i (.iref e.cells), .int w, .int n] []=some (.bool false,[]):=by
 rw[aD rfl Tryz.func195 rfl rfl,Ex.aA];unfold Ex.headOk at hh;by_cases h1:e.kind=1
 ·rw[h1]at hz hk;simp[h1,bO]at hh hk;by_cases h2:0≤e.col
  ·by_cases h3:e.col<w
   ·cases h4:e.val.null with
    | true=>simp[Ex.aV,hk,h1,xV.2 h2,zB0.2 h3,h4,bO]
    | false=>simp[Ex.aV,hk,h1,xV.2 h2,zB0.2 h3,h4,hh h2 h3 h4,bO]
   ·simp[Ex.aV,hk,h1,xV.2 h2,xV.1 h3,bO]
  ·simp[Ex.aV,hk,h1,zB0.1 h2,bO]
 ·by_cases h2:e.kind=2
  ·rw[h2]at hz hk;simp[h2,bO]at hh hk;by_cases h3:e.col=0
   ·have h4:Val.ok ⟨e.val.null,e.val.n⟩=false:=hh h3;simp[Ex.aV,hk,h2,h3,h4,bO]
   ·simp[Ex.aV,hk,h2,h3,bO]
  ·simp[h1,h2]at hh;by_cases h0:0<bO e.kind
   ·have hn:=hz h0;by_cases h3:e.col=0
    ·cases h4:e.val.null with
     | true=>simp[Ex.aV,hk,h1,h2,h3,h4,h0,hn,hz h0]
     | false=>simp[Ex.aV,hk,h1,h2,h3,h4,hh h3 h4,h0,hn,hz h0]
    ·simp[Ex.aV,hk,h1,h2,h3,h0,hn,hz h0]
   ·by_cases h3:e.col=0
    ·cases h4:e.val.null with
     | true=>simp[Ex.aV,hk,h1,h2,h3,h4,h0]
     | false=>simp[Ex.aV,hk,h1,h2,h3,h4,hh h3 h4,h0]
    ·simp[Ex.aV,hk,h1,h2,h3,h0]
def VX (e:Ex) (w n:Int) (i:Nat):AS :=
 { env:=[(0, .i (.iref [.int e.kind, .int 0, .bool false, .int 0, .isl (Ex.aB e.kids)])),(1, .int w),(2, .int n),(6, .bool false),(7, .int (bO e.kind)),(8,jk i (.int (i-1))),(28, .bool (n == 0)),(62, .bool false),(90, .bool false),(95, .int (bO e.kind)),(96, .int i),(97,jk i (.bool true)),(109,jk i (.bool false))],st:=[] }
theorem AJR {e:Ex} {w:Int} (n:Nat) (hn:n≤8) (hk:(e.kids.length:Int)=bO e.kind) (hz:0<bO e.kind→n≠0) (hh:e.headOk w=true) (ih:∀ k∈e.kids,0<bO e.kind→aI C0 195 [.i (.iref k.cells), .int w, .int ((n:Int)-1)] []=some (.bool (Ex.vB w (n-1) k),[])) :
 aI C0 195 [.i (.iref e.cells), .int w, .int n] []=some (.bool (e.kids.all (Ex.vB w (n-1))),[]):=by
 rw[aD rfl Tryz.func195 rfl rfl,Ex.aA]
 rcases Ex.V3 w e with h|⟨-,⟨hA,hB,hC,hD,hE,hF⟩|⟨hA,hB,hC,hD,hE,hF⟩|⟨hA,hB,hC,hD,hE,hF⟩⟩
 ·simp[h]at hh
 ·have h2:e.kids=[]:=by rw[hF]at hk;simpa using hk
  simp[h2,Ex.aB,hA,hD,hE,xV.2 hB,zB0.2 hC,bO];rw[aG];simp
 ·have h2:e.kids=[]:=by rw[hF]at hk;simpa using hk
  simp[h2,Ex.aB,hA,hB,hC,bO];rw[aG];simp
 ·by_cases h0:0<bO e.kind
  ·have hn:=hz h0;simp[Ex.aV,hk,hA,hB,hC,hD,hE,h0,hn,hz h0];obtain⟨j,h1,h2⟩:=fP (Ex.vB w (n-1)) e.kids;have w1:IntKind.i64.wrap ((n:Int)-1)=n-1:=wrO
   have rd:∀ (i:Nat) (k:Ex),e.kids[i]?=some k→k∈e.kids→i<e.kids.length∧fI (Ex.aB e.kids) i=some k.cells∧aI C0 195 [.i (.iref k.cells), .int w, .int ((n:Int)-1)] []=some (.bool (Ex.vB w (n-1) k),[]) :=
    fun i k a b=>⟨(zZ.1 a).1,Ex.aJ a,ih k b h0⟩
   have hlen:e.kids.length≤2:=by have:bO e.kind≤2:=by
                                  unfold bO;split;· omega
                                  split;· omega
                                  split<;>omega
                                 omega
   rw[aO (VX e w n) j (by simp[VX])]
   ·rw[aG]
    rcases h2 with ⟨hj,ha⟩|⟨k,h3,h4,h5,ha⟩
    ·have l1:¬ ((j:Int)<bO e.kind):=by omega
     simp[VX,l1,ha]
    ·obtain⟨r1,r2,r3⟩:=rd j k h3 h4;have l1:(j:Int)<bO e.kind:=by omega
     rw[Ex.aA]at r2 r3;simp[VX,l1,r1,ha,r2,r3,w1,h5]
   ·intro i hi;obtain⟨k,h3,h4,h5⟩:=h1 i hi;obtain⟨r1,r2,r3⟩:=rd i k h3 h4;have l1:(i:Int)<bO e.kind:=by omega
    have w2:IntKind.i64.wrap ((i:Int)+1)=i+1:=wrO;rw[Ex.aA]at r2 r3;simp[VX,l1,r1,r2,r3,w1,w2,h5]
  ·have h2:e.kids=[]:=by cases h:e.kids with
    | nil=>rfl
    | cons a l=>rw[h]at hk;simp at hk;omega
   rw[h2]at hk;simp at hk;simp[h2,Ex.aB,hA,hB,hC,hD,hE,← hk];rw[aG];simp
@[simp] theorem tK {w:Int}:∀ (n:Nat) (e:Ex),n≤8→aI C0 195 [.i (.iref e.cells), .int w, .int n] []=some (.bool (Ex.vB w n e),[])
  | 0,e,hn=>by
   by_cases hk:(e.kids.length:Int)=bO e.kind
   ·by_cases hz:0<bO e.kind
    ·rw[show((0:Nat):Int)=0 from rfl,AFR hk hz];simp[Ex.vB,zB0.2 hz]
    ·cases hh:e.headOk w with
     | false=>rw[WU 0 hk (fun h=>absurd h hz) hh];simp[Ex.vB,hh]
     | true =>
      rw[AJR 0 hn hk (fun h=>absurd h hz) hh (fun k _ h=>absurd h hz)]
      have:e.kids=[]:=by cases h:e.kids with
       | nil=>rfl
       | cons a l=>rw[h]at hk;simp at hk;omega
      have h3:bO e.kind=0:=by rw[this]at hk;simpa using hk.symm
      simp[Ex.vB,hh,h3,this]
   ·rw[AEE 0 hk];simp[Ex.vB,hk]
  | n+1,e,hn=>by
   by_cases hk:(e.kids.length:Int)=bO e.kind
   ·cases hh:e.headOk w with
    | false=>rw[WU (n+1) hk (fun _=>by omega) hh];simp[Ex.vB,hh]
    | true =>
     rw[AJR (n+1) hn hk (fun _=>by omega) hh (fun k _ _=>by
      have:=tK (w:=w) n k (by omega);rw[show(((n+1:Nat):Int)-1)=(n:Int)by omega]
      exact this)]
     simp[Ex.vB,hh,hk]
   ·rw[AEE (n+1) hk];simp[Ex.vB,hk]
theorem AED {e:Ex} {w:Int} (n:Nat) (hk:¬ (e.kids.length:Int)=bO e.kind):aI C0 171 [.i (.agg e.cells), .int w, .int n] []=some (.bool false,[]):=by
 rw[aD rfl Tryz.func171 rfl rfl,Ex.aA];simp[hk]
theorem AFQ {e:Ex} {w:Int} (hk:(e.kids.length:Int)=bO e.kind) (hz:0<bO e.kind):aI C0 171 [.i (.agg e.cells), .int w, .int 0] []=some (.bool false,[]):=by
 rw[aD rfl Tryz.func171 rfl rfl,Ex.aA];simp[hk,hz]
def EX (e:Ex) (w n:Int) (v:AV) (i:Nat):AS :=
 { env:=[(0, .i (.agg [.int e.kind, .int e.col, .bool e.val.null, .int e.val.n, .isl (Ex.aB e.kids)])),(1, .int w),(2, .int n),(3, .own 0 0),(6, .bool false),(7, .int i),(24,v),(29,jk i (.bool true)),(41,jk i (.bool false)),(43, .junk),(44, .junk),(57, .junk)],
   st:=[some (.box [.int e.kind, .int e.col, .bool e.val.null, .int e.val.n, .i (.isl (Ex.aB e.kids))])] }
theorem AJQ {e:Ex} {w:Int} (n:Nat) (hn:n≤8) (hk:(e.kids.length:Int)=bO e.kind) (hz:0<bO e.kind→n≠0)  (hw:1≤w∧w≤6)
 (ih:∀ k∈e.kids,0<bO e.kind→aI C0 171 [.i (.agg k.cells), .int w, .int ((n:Int)-1)] []=some (.bool (Ex.vB w (n-1) k),[])) :
  aI C0 171 [.i (.agg e.cells), .int w, .int n] []=some (.bool (e.kids.all (Ex.vB w (n-1)) && e.headOk w),[]):=by
 rw[aD rfl Tryz.func171 rfl rfl,Ex.aA];have w0:IntKind.i64.wrap (w-1)=w-1:=wrO;by_cases h0:0<bO e.kind
 ·have hn:=hz h0;simp[hk,h0,hn];obtain⟨j,h1,h2⟩:=fP (Ex.vB w (n-1)) e.kids;have w1:IntKind.i64.wrap ((n:Int)-1)=n-1:=wrO
  have rd:∀ (i:Nat) (k:Ex),e.kids[i]?=some k→k∈e.kids→i<e.kids.length∧fI (Ex.aB e.kids) i=some k.cells∧aI C0 171 [.i (.agg k.cells), .int w, .int ((n:Int)-1)] []=some (.bool (Ex.vB w (n-1) k),[]) :=
   fun i k a b=>⟨(zZ.1 a).1,Ex.aJ a,ih k b h0⟩
  have hlen:e.kids.length≤2:=by have:bO e.kind≤2:=by
                                 unfold bO;split;· omega
                                 split;· omega
                                 split<;>omega
                                omega
  have hk1:e.kind≠1:=fun h=>by rw[h]at h0;simp[bO]at h0
  have hk2:e.kind≠2:=fun h=>by rw[h]at h0;simp[bO]at h0
  rw[aO (EX e w n (.bool ((n:Int) == 0)) ) j (by simp[EX])]
  ·rw[aG]
   rcases h2 with ⟨hj,ha⟩|⟨k,h3,h4,h5,ha⟩
   ·have l1:¬ ((j:Int)<bO e.kind):=by omega
    by_cases h6:e.col=0
    ·cases h7:e.val.null with
     | true=>simp[EX,l1,hk,ha,Ex.headOk,hk1,hk2,h6,h7]
     | false=>simp[EX,l1,hk,ha,Ex.headOk,hk1,hk2,h6,h7]
    ·simp[EX,l1,hk,ha,Ex.headOk,hk1,hk2,h6]
   ·obtain⟨r1,r2,r3⟩:=rd j k h3 h4;have l1:(j:Int)<bO e.kind:=by omega
    rw[Ex.aA]at r2 r3;simp[EX,l1,r1,hk,ha,r2,r3,w1,h5]
  ·intro i hi;obtain⟨k,h3,h4,h5⟩:=h1 i hi;obtain⟨r1,r2,r3⟩:=rd i k h3 h4;have l1:(i:Int)<bO e.kind:=by omega
   have w2:IntKind.i64.wrap ((i:Int)+1)=i+1:=wrO;rw[Ex.aA]at r2 r3;simp[EX,l1,r1,hk,r2,r3,w1,w2,h5]
 ·have h2:e.kids=[]:=by cases h:e.kids with
   | nil=>rfl
   | cons a l=>rw[h]at hk;simp at hk;omega
  rw[h2]at hk;simp at hk;simp[h2,Ex.aB,← hk];rw[aG];by_cases h1:e.kind=1
  ·by_cases h4:0≤e.col
   ·by_cases h5:e.col<w
    ·cases h7:e.val.null with
     | true=>simp[h1,w0,Ex.headOk,h4,h5,h7,show e.col≤w-1 by omega]
     | false=>simp[h1,w0,Ex.headOk,h4,h5,h7,show e.col≤w-1 by omega]
    ·simp[h1,w0,Ex.headOk,h4,h5,show ¬ e.col≤w-1 by omega]
   ·simp[h1,w0,Ex.headOk,h4]
  ·by_cases h3:e.kind=2
   ·by_cases h4:e.col=0
    ·simp[h3,Ex.headOk,h4]
    ·simp[h3,Ex.headOk,h4]
   ·by_cases h4:e.col=0
    ·cases h7:e.val.null with
     | true=>simp[h1,h3,Ex.headOk,h4,h7]
     | false=>simp[h1,h3,Ex.headOk,h4,h7]
    ·simp[h1,h3,Ex.headOk,h4]
theorem wD {w:Int} (hw:1≤w∧w≤6):∀ (n:Nat) (e:Ex),n≤8→aI C0 171 [.i (.agg e.cells), .int w, .int n] []=some (.bool (Ex.vB w n e),[])
 | 0,e,hn=>by
  by_cases hk:(e.kids.length:Int)=bO e.kind
  ·by_cases hz:0<bO e.kind
   ·rw[show((0:Nat):Int)=0 from rfl,AFQ hk hz];simp[Ex.vB,zB0.2 hz]
   ·rw[AJQ 0 hn hk (fun h=>absurd h hz) hw (fun k _ h=>absurd h hz)]
    have:e.kids=[]:=by cases h:e.kids with
     | nil=>rfl
     | cons a l=>rw[h]at hk;simp at hk;omega
    have h3:bO e.kind=0:=by rw[this]at hk;simpa using hk.symm
    simp[Ex.vB,h3,this]
  ·rw[AED 0 hk];simp[Ex.vB,hk]
 | n+1,e,hn=>by
  by_cases hk:(e.kids.length:Int)=bO e.kind
  ·rw[AJQ (n+1) hn hk (fun _=>by omega) hw (fun k _ _=>by
      have:=wD (w:=w) hw n k (by omega);rw[show(((n+1:Nat):Int)-1)=(n:Int)by omega]
      exact this)]
   simp[Ex.vB,hk,Bool.and_comm]
  ·rw[AED (n+1) hk];simp[Ex.vB,hk]
theorem ok_eq (w:Int) (e:Ex):aI C0 175 [.i (.agg e.cells), .int w] []=some (.bool (e.ok w),[]):=by
 rw[aD rfl Tryz.func175 rfl rfl];have h:=tK (w:=w) 8 e (by omega);rw[Ex.aA]at h ⊢;have e8:((8:Nat):Int)=8:=rfl;rw[e8]at h
 cases hw:bI w with
 | false=>simp[hw,Ex.ok]
 | true=>simp[hw,Ex.ok,h]
theorem M0 (w:Int) (e:Ex):aI C0 140 [.i (.agg e.cells), .int w] []=some (.bool (e.ok w),[]):=by
 rw[aD rfl Tryz.func140 rfl rfl];by_cases hw:1≤w∧w≤6
 ·have h:=wD hw 8 e (by omega);rw[Ex.aA]at h ⊢;have e8:((8:Nat):Int)=8:=rfl;rw[e8]at h;simp[hw,Ex.ok,bI,h]
 ·rw[Ex.aA];simp[hw,Ex.ok,bI]
theorem cO:IntKind.i64.wrap 1=1:=wrO
def CX (e:Ex) (i:Nat):AS :=
 { env:=[(0, .i (.agg [.int e.kind, .int e.col, .bool e.val.null, .int e.val.n, .isl (Ex.aB e.kids)])),(1, .own 0 0),(2, .own 1 0),(3, .own 2 0),(4, .int i),(16,jk i (.bool true))],
   st:=some (.box [.int e.kind, .int e.col, .bool e.val.null, .int e.val.n, .i (.isl (Ex.aB e.kids))])::some (.box [.int 0, .int 0, .bool false, .int 0, .nils]) ::
    some (.box [.int e.kind, .int e.col, .bool e.val.null, .int e.val.n,gro 3 5 i])::WM 5 (Ex.aB (e.kids.take i)) i }
theorem AHX {e:Ex} (hl:e.kids.length<1000000000) (ih:∀ a∈e.kids,aI C0 98 [.i (.agg a.cells)] []=some (.i (.agg a.cells),[])) :
 aI C0 98 [.i (.agg e.cells)] []=some (.i (.agg e.cells),[]):=by
 rw[aD rfl Tryz.func98 rfl rfl,Ex.aA];simp;rw[aO (CX e) e.kids.length (by simp[CX])]
 ·rw[aG]
  cases hn:e.kids.length with
  | zero =>
   have:e.kids=[]:=zX.1 hn;simp[CX,this,Ex.aB]
  | succ n =>
   have:e.kids.take (n+1)=e.kids:=zW (by omega);simp[CX,hn,this]
 ·intro i hi;have h3:=zY hi;have hc:=ih _ (zV h3);have r2:=Ex.aJ h3;generalize e.kids[i]=a at h3 hc r2;have w2:IntKind.i64.wrap ((i:Int)+1)=i+1:=wrO;by_cases h0:i=0
  ·subst h0;simp[CX,hi,r2,hc,cO,aM h3,Ex.aB]
  ·simp[CX,aN h0,aL h0,bZ h0,hi,r2,hc,w2,aM h3,Ex.aU,show min i e.kids.length=i by omega,show(i+1)*56≤140737488355328 by omega,zK]
theorem sH:∀ (e:Ex),e.thin→aI C0 98 [.i (.agg e.cells)] []=some (.i (.agg e.cells),[]):=by
 intro e
 induction e using Ex.ind with
 | h k c v ks ih =>
  intro ht;have ht':=(Ex.bC _).1 ht;exact AHX ht'.1 fun a ha=>ih a ha (ht'.2 a ha)
def SX (e:Ex) (l:List Ex) (f:Ex→Ex) (i:Nat):AS :=
 { env:=[(0, .i (.agg [.int e.kind, .int e.col, .bool e.val.null, .int e.val.n, .isl (Ex.aB e.kids)])),(1, .i (.isl (Ex.aB l))),(2, .own 0 0),(4, .own 1 0),(5, .own 2 0),(6, .int i),(9, .bool false),(27,jk i (.bool true))],
   st:=some (.box [.int e.kind, .int e.col, .bool e.val.null, .int e.val.n, .i (.isl (Ex.aB e.kids))])::some (.box [.int 0, .int 0, .bool false, .int 0, .nils]) ::
    some (.box [.int e.kind, .int e.col, .bool e.val.null, .int e.val.n,gro 3 5 i])::WM 5 (Ex.aB ((e.kids.take i).map f)) i }
theorem rJ {e b:Ex} {l:List Ex} (h1:e.kind=1) (h0:0≤e.col) (hb:l[e.col.toNat]?=some b) (ht:b.thin) :
 aI C0 138 [.i (.agg e.cells), .i (.isl (Ex.aB l))] []=some (.i (.agg b.cells),[]):=by
 rw[aD rfl Tryz.func138 rfl rfl,Ex.aA];have hc:=sH b ht;have r2:=Ex.aJ hb;have r1:=(zZ.1 hb).1;rw[Ex.aA]at hc r2 ⊢;simp[h1,h0,r2,hc,show e.col<l.length by omega]
theorem ABT {e:Ex} {l:List Ex} {f:Ex→Ex} (h1:e.kind≠1) (hl:e.kids.length<1000000000) (ih:∀ a∈e.kids,aI C0 138 [.i (.agg a.cells), .i (.isl (Ex.aB l))] []=some (.i (.agg (f a).cells),[])) :
 aI C0 138 [.i (.agg e.cells), .i (.isl (Ex.aB l))] []=some (.i (.agg (Ex.mk e.kind e.col e.val (e.kids.map f)).cells),[]):=by
 rw[aD rfl Tryz.func138 rfl rfl,Ex.aA];simp[h1];rw[aO (SX e l f) e.kids.length (by simp[SX,h1])]
 ·rw[aG]
  cases hn:e.kids.length with
  | zero =>
   have:e.kids=[]:=zX.1 hn;simp[SX,this,Ex.aB,Ex.cells]
  | succ n =>
   have:e.kids.take (n+1)=e.kids:=zW (by omega);simp[SX,hn,this,Ex.cells,← List.map_take]
 ·intro i hi;have h3:=zY hi;have hc:=ih _ (zV h3);have r2:=Ex.aJ h3;generalize e.kids[i]=a at h3 hc r2;have w2:IntKind.i64.wrap ((i:Int)+1)=i+1:=wrO;by_cases h0:i=0
  ·subst h0;simp[SX,hi,r2,hc,cO,aM h3,Ex.aB]
  ·simp[SX,aN h0,aL h0,bZ h0,hi,r2,hc,w2,aM h3,Ex.aU,show min i e.kids.length=i by omega,show(i+1)*56≤140737488355328 by omega,← List.map_take,zK]
theorem jW (l:List Ex) (hlt:∀ b∈l,b.thin):∀ (e:Ex),e.thin→e.QC l.length→aI C0 138 [.i (.agg e.cells), .i (.isl (Ex.aB l))] []=some (.i (.agg (e.sub l).cells),[]):=by
 intro e
 induction e using Ex.ind with
 | h k c v ks ih =>
  intro ht hc;have ht':=(Ex.bC _).1 ht;have hc':=(Ex.NR _ _).1 hc;by_cases hk:k=1
  ·obtain⟨h0,h1⟩:=hc'.1 hk;have hi:c.toNat<l.length:=by simp[Ex.col]at h0 h1;omega
   have hb:=zY hi;rw[Ex.rJ l (e:=.mk k c v ks) hk hb];exact rJ hk h0 hb (hlt _ (y8 hi))
  ·rw[Ex.rH l (e:=.mk k c v ks) hk];exact ABT hk ht'.1 fun a ha=>ih a ha (ht'.2 a ha) (hc'.2 hk a ha)
def HX (e:Ex) (i:Nat):AS :=
 { env:=[(0, .i (.iref [.int e.kind, .int e.col, .bool e.val.null, .int e.val.n, .isl (Ex.aB e.kids)])),(2, .int 0),(3, .int (Ex.htL (e.kids.take i):Nat)),(4,jk i (.int (i-1))),(9, .int e.kids.length),(10, .int i),(11,jk i (.bool true))],st:=[] }
theorem PU {e:Ex} (hs:e.size<1000000000) (ih:∀ k∈e.kids,aI C0 179 [.i (.iref k.cells)] []=some (.int (k.ht:Nat),[])) :
 aI C0 179 [.i (.iref e.cells)] []=some (.int (e.ht:Nat),[]):=by
 rw[aD rfl Tryz.func179 rfl rfl,Ex.aA];simp;have hl:=Ex.bK e.kids;rw[Ex.size_eq]at hs;rw[aO (HX e) e.kids.length (by simp[HX,Ex.htL])]
 ·rw[aG];simp[HX,Ex.AD4 e]
 ·intro i hi;have h3:=zY hi;have hm:=zV h3;have hc:=ih _ hm;have r2:=Ex.aJ h3;have hz:=Ex.gI hm;generalize e.kids[i]=a at h3 hc r2 hz;have ha:=Ex.ZB a;have w2:IntKind.i64.wrap ((i:Int)+1)=i+1:=wrO;have w1:IntKind.i64.wrap (1+(a.ht:Int))=1+a.ht:=wrO;rw[Ex.aA]at hc r2;have hmax:Ex.htL (e.kids.take (i+1))=max (Ex.htL (e.kids.take i)) (1+a.ht):=by rw[aM h3,Ex.RY]
  by_cases hg:1+a.ht > Ex.htL (e.kids.take i)
  ·simp[HX,hi,r2,hc,w1,w2,hmax,show max (Ex.htL (e.kids.take i)) (1+a.ht)=1+a.ht by omega,show(Ex.htL (e.kids.take i):Int)<1+a.ht by omega]
  ·simp[HX,hi,r2,hc,w1,w2,hmax,show max (Ex.htL (e.kids.take i)) (1+a.ht)=Ex.htL (e.kids.take i)by omega,show ¬ (Ex.htL (e.kids.take i):Int)<1+a.ht by omega]
theorem ZH:∀ (e:Ex),e.size<1000000000→aI C0 179 [.i (.iref e.cells)] []=some (.int (e.ht:Nat),[]):=by
 intro e
 induction e using Ex.ind with
 | h k c v ks ih =>
  intro hs;exact PU hs fun a ha=>ih a ha (by have:=Ex.gI ha;simp only[Ex.size,Ex.kids]at hs this;omega)
theorem AD9 {e:Ex} {hs:List Nat} {n:Int} (hn:n<0):aI C0 180 [.i (.iref e.cells), .i (.isl (mP hs)), .int n] []=some (.bool false,[]):=by
 rw[aD rfl Tryz.func180 rfl rfl,Ex.aA];simp[hn]
theorem ADA {e:Ex} {hs:List Nat} {n:Int} {h:Nat} (hn:0≤n) (hk:e.kind=1) (hks:e.kids=[]) (h0:0≤e.col) (hh:hs[e.col.toNat]?=some h) :
 aI C0 180 [.i (.iref e.cells), .i (.isl (mP hs)), .int n] []=some (.bool (decide ((h:Int)≤n)),[]):=by
 rw[aD rfl Tryz.func180 rfl rfl,Ex.aA];have r2:=ML hh;have r1:=(zZ.1 hh).1;by_cases hc:n<h
 ·simp[xV.2 hn,hk,h0,r2,hc,show e.col<hs.length by omega]
 ·simp[xV.2 hn,hk,h0,r2,hc,xV.1 hc,show e.col<hs.length by omega,hks,Ex.aB];rw[aG];simp
def FX (e:Ex) (hs:List Nat) (n:Int) (i:Nat):AS :=
 { env:=[(0, .i (.iref [.int e.kind, .int e.col, .bool e.val.null, .int e.val.n, .isl (Ex.aB e.kids)])),(1, .i (.isl (mP hs))),(2, .int n),(6, .bool false),(7,jk i (.int (i-1))),(27, .bool false),(32, .int e.kids.length),(33, .int i),(34,jk i (.bool true)),(46,jk i (.bool false))],st:=[] }
theorem ZL {e:Ex} {hs:List Nat} {n:Int} (hn:0≤n) (hn8:n≤8) (hl:e.kids.length<1000000000) (hk:e.kind≠1)
 (ih:∀ k∈e.kids,aI C0 180 [.i (.iref k.cells), .i (.isl (mP hs)), .int (n-1)] []=some (.bool (decide ((k.htS hs:Int)≤n-1)),[])) :
  aI C0 180 [.i (.iref e.cells), .i (.isl (mP hs)), .int n] []=some (.bool (e.kids.all fun k=>decide ((k.htS hs:Int)≤n-1)),[]):=by
 rw[aD rfl Tryz.func180 rfl rfl,Ex.aA];simp[xV.2 hn,hk];obtain⟨j,h1,h2⟩:=fP (fun k:Ex=>decide ((k.htS hs:Int)≤n-1)) e.kids;have w1:IntKind.i64.wrap (n-1)=n-1:=wrO;rw[aO (FX e hs n) j (by simp[FX])]
 ·rw[aG]
  rcases h2 with ⟨hj,ha⟩|⟨k,h3,h4,h5,ha⟩
  ·simp[FX,hj,ha]
  ·have r1:=(zZ.1 h3).1;have r2:=Ex.aJ h3;have r3:=ih k h4;rw[Ex.aA]at r2 r3;rw[h5]at r3;simp[FX,r1,ha,r2,r3,w1]
 ·intro i hi;obtain⟨k,h3,h4,h5⟩:=h1 i hi;have r1:=(zZ.1 h3).1;have r2:=Ex.aJ h3;have r3:=ih k h4;have w2:IntKind.i64.wrap ((i:Int)+1)=i+1:=wrO;rw[Ex.aA]at r2 r3;rw[h5]at r3;simp[FX,r1,r2,r3,w1,w2]
theorem AHS {m:Int} {hs:List Nat} (hm:m=hs.length):∀ (e:Ex),e.wf m=true→e.size<1000000000→∀ n:Int,n≤8→aI C0 180 [.i (.iref e.cells), .i (.isl (mP hs)), .int n] []=some (.bool (decide ((e.htS hs:Int)≤n)),[]):=by
 intro e
 induction e using Ex.ind with
 | h k c v ks ih =>
  intro hw hs' n hn;by_cases h0:n<0
  ·rw[AD9 h0,show decide ((Ex.htS hs (.mk k c v ks):Int)≤n)=false by simp;omega]
  ·by_cases hk:k=1
   ·obtain⟨c0,c1,ck⟩:=Ex.qY hw hk;have hi:c.toNat<hs.length:=by simp[Ex.col]at c0 c1;omega
    have hb:=zY hi;rw[Ex.ZE hs (e:=.mk k c v ks) (h:=hs[c.toNat]) hk hb];exact ADA (by omega) hk ck c0 hb
   ·have hl:=Ex.bK ks;have hsz:Ex.aZ ks<1000000000:=by simp[Ex.size]at hs';omega
    have hn0:=xV.1 h0;rw[ZL (e:=.mk k c v ks) (n:=n) hn0 hn (by simp only[Ex.kids];omega) hk fun x hx=>ih x hx (Ex.lY hw hx) (by have:=Ex.gI hx;simp only[Ex.kids]at this;omega) (n-1) (by omega)];rw[Ex.ZC hs (e:=.mk k c v ks) hk]
    suffices hsf:(ks.all fun x=>decide ((x.htS hs:Int)≤n-1))=decide ((Ex.AB8 hs ks:Int)≤n)by simp only[Ex.kids];rw[hsf];rfl
    rw[xK];have:=Ex.ZF hs (n:=n.toNat) ks;simp only[zR,zP];constructor
    ·intro h;have h2:=this.2 fun x hx=>by have:=h x hx;omega
     omega
    ·intro h x hx;have h2:=this.1 (by omega) x hx;omega
@[simp] theorem NM {e:Ex} (h:e.size<1000000000):aI C0 92 [.i (.iref e.cells)] []=some (.i (.agg e.cells),[]):=by
  rw[bH (p:=EM) rfl];exact SN h
theorem ABV {e b:Ex} {l:List Ex} (hk:e.kind=1) (h0:0≤e.col) (hb:l[e.col.toNat]?=some b) (hs:b.size<1000000000) :
 aI C0 181 [.i (.iref e.cells), .own 0 0] [some (.box [.i (.isl (Ex.aB l))])]=some (.i (.agg b.cells),[some (.box [.i (.isl (Ex.aB l))])]):=by
 rw[aD rfl Tryz.func181 rfl rfl];have hc:=NM hs;have r2:=Ex.aJ hb;have r1:=(zZ.1 hb).1;rw[Ex.aA]at hc r2 ⊢;rw[Ex.aA];simp[hk,h0,r2,hc,show e.col<l.length by omega]
theorem ABU {e:Ex} {l:List Ex} (hk:e.kind≠1) (hs:e.size<1000000000) :
 aI C0 181 [.i (.iref e.cells), .own 0 0] [some (.box [.i (.isl (Ex.aB l))])]=some (.i (.agg e.cells),[some (.box [.i (.isl (Ex.aB l))])]):=by
 rw[aD rfl Tryz.func181 rfl rfl];have hc:=NM hs;rw[Ex.aA]at hc ⊢;simp[hk,hc]
def WB:List IV:=[.int 0, .int 0, .bool false, .int 0, .isl []]
def RX (e:Ex) (l:List Ex) (f:Ex→Ex) (i:Nat):AS :=
 { env:=[(0, .i (.iref [.int e.kind, .int e.col, .bool e.val.null, .int e.val.n, .isl (Ex.aB e.kids)])),(1, .fn (.func 181) [.own 0 0]),(4, .own 1 0),(5, .own 2 0),(6,jk i (.int (i-1))),(12, .bool ((e.kids.length:Int) == 0)),(39, .int e.kids.length),(40, .int i),(41,jk i (.bool true))],
   st:=[some (.box [.i (.isl (Ex.aB l))]),some (.box [.int 0, .int 0, .bool false, .int 0, .nils]),some (.box [.int e.kind, .int e.col, .bool e.val.null, .int e.val.n, .osl 3 5 0 e.kids.length]),some (.arr 5 (Ex.aB ((e.kids.map f).take i)++List.replicate (e.kids.length-i) WB))] }
theorem ACD {e:Ex} {l:List Ex} {f:Ex→Ex} (hk:e.kids≠[]) (hl:e.kids.length<1000000000) (ih:∀ a∈e.kids,aI C0 176 [.i (.iref a.cells), .fn (.func 181) [.own 0 0]] [some (.box [.i (.isl (Ex.aB l))])]=some (.i (.agg (f a).cells),[some (.box [.i (.isl (Ex.aB l))])])) :
 aI C0 176 [.i (.iref e.cells), .fn (.func 181) [.own 0 0]] [some (.box [.i (.isl (Ex.aB l))])]=some (.i (.agg (Ex.mk e.kind e.col e.val (e.kids.map f)).cells),[some (.box [.i (.isl (Ex.aB l))])]):=by
 rw[aD rfl Tryz.func176 rfl rfl,Ex.aA];have hb:56*(e.kids.length:Int)≤281474976710656:=by omega
 simp[hk,hb];rw[aO (RX e l f) e.kids.length (by simp[RX,Ex.aB,WB])]
 ·rw[aG];have ht:(e.kids.map f).take e.kids.length=e.kids.map f:=zW (by simp);simp[RX,Ex.cells,ht]
 ·intro i hi;have h3:=zY hi;have hm:=zV h3;have hc:=ih _ hm;have r2:=Ex.aJ h3;generalize e.kids[i]=a at h3 hc r2;have w2:IntKind.i64.wrap ((i:Int)+1)=i+1:=wrO;rw[Ex.aA]at hc r2;have hD:(Ex.aB ((e.kids.map f).take i)).length=i:=by simp;omega
  have hS:Ex.aB ((e.kids.map f).take i)++[(f a).cells]=Ex.aB ((e.kids.map f).take (i+1)):=by rw[aM (a:=f a) (by simp[h3]),Ex.aU]
  have g1:=lU (n:=e.kids.length) (z:=WB) hD hi;have g2:=lT (n:=e.kids.length) (z:=WB) (x:=(f a).cells) hD hi;have g3:splice WB 0 (f a).cells=some (f a).cells:=iP (by simp[WB]);rw[hS]at g2;simp[RX,hi,r2,hc,w2,g1,g2,g3]
theorem RB {e x:Ex} {l:List Ex} (hk:e.kids=[]) (h:aI C0 181 [.i (.iref e.cells), .own 0 0] [some (.box [.i (.isl (Ex.aB l))])]=some (.i (.agg x.cells),[some (.box [.i (.isl (Ex.aB l))])])) :
 aI C0 176 [.i (.iref e.cells), .fn (.func 181) [.own 0 0]] [some (.box [.i (.isl (Ex.aB l))])]=some (.i (.agg x.cells),[some (.box [.i (.isl (Ex.aB l))])]):=by
 rw[aD rfl Tryz.func176 rfl rfl];rw[Ex.aA e]at h ⊢;rw[Ex.aA x]at h ⊢;simp[hk,Ex.aB]at h ⊢;simp[h]
theorem M8 {m:Int} (l:List Ex) (hm:m=l.length) (hl:∀ b∈l,b.size<1000000000):∀ (e:Ex),e.wf m=true→e.size<1000000000 →
 aI C0 176 [.i (.iref e.cells), .fn (.func 181) [.own 0 0]] [some (.box [.i (.isl (Ex.aB l))])]=some (.i (.agg (e.sub l).cells),[some (.box [.i (.isl (Ex.aB l))])]):=by
 intro e
 induction e using Ex.ind with
 | h k c v ks ih =>
  intro hw hs;have hsz:=hs;rw[Ex.size_eq]at hsz;have hkl:=Ex.bK ks;by_cases hk:k=1
  ·obtain⟨c0,c1,ck⟩:=Ex.qY hw hk;have hi:c.toNat<l.length:=by simp[Ex.col]at c0 c1;omega
   have hb:=zY hi;rw[Ex.rJ l (e:=.mk k c v ks) hk hb];exact RB ck (ABV (e:=.mk k c v ks) hk c0 hb (hl _ (y8 hi)))
  ·cases ks with
   | nil =>
    have hn:=ABU (e:=.mk k c v []) (l:=l) hk hs;rw[Ex.rH l (e:=.mk k c v []) hk];exact RB (e:=.mk k c v []) rfl hn
   | cons a ks =>
    rw[Ex.rH l (e:=.mk k c v (a::ks)) hk];refine ACD (e:=.mk k c v (a::ks)) (by simp[Ex.kids]) (by simp only[Ex.kids]at hsz ⊢;omega) fun x hx=>ih x hx (Ex.lY hw hx) ?_
    have:=Ex.gI hx;omega
end Go.Proofs.YtjdfjgmebalaaaaGreat
namespace Go.Av
def Ex.subst (e:Ex) (l:List Ex) (w:Int):Option Ex:=if e.ok l.length && (l.all (Ex.ok w) && (e.sub l).ok w)then some (e.sub l)else none
def AGN:Option Ex→AV
 | some e=>.tup [.i (.agg e.cells), .bool true]
 | none=>.tup [.i (.agg Ex.zero.cells), .bool false]
theorem aR:Ex.zero.cells=[.int 0, .int 0, .bool false, .int 0, .isl []]:=by simp[Ex.zero,Ex.cells,Ex.aB,Val.zero]
end Go.Av
namespace Go.Proofs.YtjdfjgmebalaaaaGreat
open Go Go.Av
set_option maxRecDepth 4000
theorem AH6 {e:Ex} {l:List Ex} {w:Int} (h:e.ok l.length=false):aI C0 158 [.i (.agg e.cells), .i (.isl (Ex.aB l)), .int w] []=some (AGN (e.subst l w),[]):=by
 rw[aD rfl Tryz.func158 rfl rfl];have hc:=ok_eq l.length e;rw[h]at hc;rw[Ex.aA e]at hc ⊢;simp[hc,Ex.subst,h,AGN,aR]
theorem GL:∀ (hs:List Nat) (h:Nat),mP hs++[[.int h]]=mP (hs++[h])
 | [],_=>rfl
 | _::hs,h=>by simp[mP,GL hs h]
def IX (e:Ex) (l:List Ex) (w:Int) (i:Nat):AS :=
 { env:=[(0, .i (.agg [.int e.kind, .int e.col, .bool e.val.null, .int e.val.n, .isl (Ex.aB e.kids)])),(1, .i (.isl (Ex.aB l))),(2, .int w),(3, .own 0 0),(4, .own 1 0),(6, .own 2 0),(7, .bool false),(8, .osl 3 1 0 l.length),(9,jk i (.int (i-1))),(14, .bool false),(20, .int l.length),(21, .int i),(22,jk i (.bool true)),(30,jk i (.bool false)),(42, .junk)],
   st:=[some (.box [.int e.kind, .int e.col, .bool e.val.null, .int e.val.n, .i (.isl (Ex.aB e.kids))]),some (.box [.i (.isl (Ex.aB l))]),some (.box [.int 0, .int 0, .bool false, .int 0, .nils]),some (.arr 1 (mP ((l.map Ex.ht).take i)++List.replicate (l.length-i) [.int 0]))] }
theorem AH7 {e:Ex} {l:List Ex} {w:Int} (h:e.ok l.length=true):aI C0 158 [.i (.agg e.cells), .i (.isl (Ex.aB l)), .int w] []=some (AGN (e.subst l w),[]):=by
 rw[aD rfl Tryz.func158 rfl rfl];have hc:=ok_eq l.length e;rw[h]at hc;have hw:1≤(l.length:Int)∧(l.length:Int)≤6:=by simp[Ex.ok,bI]at h;omega
 have hwf:e.wf l.length=true:=by simp[Ex.ok,Ex.LF]at h;exact h.2.1
 have hsz:=Ex.gG h;rw[Ex.aA e]at hc ⊢;have hb:8*(l.length:Int)≤281474976710656:=by omega
 simp[hc,hb];obtain⟨j,h1,h2⟩:=fP (Ex.ok w) l;rw[aO (IX e l w) j (by simp[IX,mP])]
 ·rw[aG]
  rcases h2 with ⟨hj,ha⟩|⟨k,h3,h4,h5,ha⟩
  ·have ht:(l.map Ex.ht).take l.length=l.map Ex.ht:=zW (by simp);have ht2:(mP (l.map Ex.ht)).take l.length=mP (l.map Ex.ht):=zW (by simp);have hf:=AHS (m:=l.length) (hs:=l.map Ex.ht) (by simp) e hwf (by omega) 8 (by omega);have hr:=M8 (m:=l.length) l rfl (fun b hb=>by have:=Ex.gG (zR.1 ha b hb);omega) e hwf (by omega)
   have hwl:∀ b∈l,b.wf w=true:=fun b hb=>by
    have:=zR.1 ha b hb;simp[Ex.ok,Ex.LF]at this;exact this.2.1
   have hww:bI w=true:=by
    cases l with
    | nil=>simp at hw
    | cons b l=>simp[Ex.ok]at ha;exact ha.1.1
   have hq:(e.sub l).ok w=decide ((e.htS (l.map Ex.ht):Int)≤8):=by
    simp only[Ex.ok,Ex.LF,Ex.AJP (m:=l.length) l rfl hwl e hwf,Ex.ALQ (w:=l.length) l rfl e hwf,hww,Bool.true_and];rw[xK];simp;omega
   rw[Ex.aA e]at hf hr;rw[← hq]at hf
   cases hq':(e.sub l).ok w with
   | true=>rw[hq']at hf;simp[IX,hj,ht,ht2,hf,hr,Ex.subst,h,ha,hq',AGN]
   | false=>rw[hq']at hf;simp[IX,hj,ht,ht2,hf,Ex.subst,h,ha,hq',AGN,aR]
  ·have r1:=(zZ.1 h3).1;have r2:=Ex.aJ h3;have r3:=ok_eq w k;rw[h5]at r3;simp[IX,r1,r2,r3,Ex.subst,h,ha,AGN,aR]
 ·intro i hi;obtain⟨k,h3,h4,h5⟩:=h1 i hi;have r1:=(zZ.1 h3).1;have r2:=Ex.aJ h3;have r3:=ok_eq w k;have w2:IntKind.i64.wrap ((i:Int)+1)=i+1:=wrO;have hh:=ZH k (by have:=Ex.gG h5;omega);rw[h5]at r3;have hD:(mP ((l.map Ex.ht).take i)).length=i:=by simp;omega
  have g1:=lU (n:=l.length) (z:=[IV.int 0]) hD r1;have g2:=lT (n:=l.length) (z:=[IV.int 0]) (x:=[IV.int k.ht]) hD r1;rw[GL,← aM (a:=k.ht) (by simp[h3])]at g2;simp[IX,r1,r2,r3,w2,hh,g1,g2]
end Go.Proofs.YtjdfjgmebalaaaaGreat
namespace Go.Av
end Go.Av
namespace Go.Proofs.YtjdfjgmebalaaaaGreat
open Go Go.Av
set_option maxRecDepth 4000
set_option maxHeartbeats 1000000
end Go.Proofs.YtjdfjgmebalaaaaGreat
namespace Go.Av
end Go.Av
namespace Go.Proofs.YtjdfjgmebalaaaaGreat
open Go Go.Av
set_option maxRecDepth 4000
set_option maxHeartbeats 1000000
end Go.Proofs.YtjdfjgmebalaaaaGreat
namespace Go.Av
def AYQ (i:Nat):Ex:=.mk 1 i Val.zero []
def APL (n:Nat):List Ex:=(List.range n).map AYQ
def AD6 (o:Option Ex):Ex:=o.getD Ex.zero
theorem AGM (o:Option Ex):AGN o=.tup [.i (.agg (AD6 o).cells), .bool o.isSome]:=by cases o<;>rfl
end Go.Av
namespace Go.Proofs.YtjdfjgmebalaaaaGreat
open Go Go.Av
set_option maxRecDepth 4000
set_option maxHeartbeats 1000000
theorem Z5 (e:Ex) (l:List Ex) (w:Int):aI C0 158 [.i (.agg e.cells), .i (.isl (Ex.aB l)), .int w] []=some (.tup [.i (.agg (AD6 (e.subst l w)).cells), .bool (e.subst l w).isSome],[]):=by
 rw[← AGM]
 cases h:e.ok l.length with
 | true=>exact AH7 h
 | false=>exact AH6 h
def WX (code:List UInt8) (e:Ex) (l:List Ex) (w:Int) (i:Nat):AS :=
 { env:=[(0, .i (.isl (mW code))),(2, .bool false),(3, .own 0 0),(4, .i (.isl (Ex.aB l))),(5, .int w),(6, .own 1 0),(7, .bool (e.subst l w).isSome),(8, .own 2 0),(9, .bool (e.subst l w).isSome),(10, .osl 3 5 0 i),(11, .int i),(12, .junk),(13, .junk),(16, .bool false),(52, .bool false),(65,jk i (.bool true))],
   st:=[some (.box (jR e.cells)),some (.box (jR (AD6 (e.subst l w)).cells)),some (.box (jR (AD6 (e.subst l w)).cells)),some (.arr 5 (Ex.aB (APL i)))] }
@[simp] theorem AIN (b:Bool) (n:Int):aI C0 194 [.i (.agg [.bool b, .int n])] []=some (.int (Val.tr ⟨b,n⟩),[]):=by
  rw[aD rfl Tryz.func194 rfl rfl]
  cases b
  ·by_cases h:n=0<;>simp[Val.tr,h]
  ·simp[Val.tr]
@[simp] theorem AOM:aI C0 212 [] []=some (.i (.agg [.bool true, .int 0]),[]):=by
  rw[aD rfl Tryz.func212 rfl rfl];simp
@[simp] theorem number_eq (n:Int):aI C0 211 [.int n] []=some (.i (.agg [.bool false, .int n]),[]):=by
  rw[aD rfl Tryz.func211 rfl rfl];simp
@[simp] theorem YI (n:Int):aI C0 214 [.int n] []=some (.i (.agg [.bool (AJ0 n).null, .int (AJ0 n).n]),[]):=by
  rw[aD rfl Tryz.func214 rfl rfl];by_cases h:-9999≤n∧n≤9999<;>simp[AJ0,Val.ok,h]
@[simp] theorem AP0 (b:Bool):aI C0 215 [.bool b] []=some (.i (.agg [.bool (PX b).null, .int (PX b).n]),[]):=by
  rw[aD rfl Tryz.func215 rfl rfl]
  cases b<;>simp[PX]
@[simp] theorem AJS (t:Int):aI C0 213 [.int t] []=some (.i (.agg [.bool (trV t).null, .int (trV t).n]),[]):=by
  rw[aD rfl Tryz.func213 rfl rfl];by_cases h:t=1
  ·simp[trV,h]
  ·by_cases h2:t=2<;>simp[trV,PX,h,h2]
theorem nZ (k:Int) (a b:Val) (ha:a.ok=true) (hb:b.ok=true):aI C0 208 [.int k, .i (.agg [.bool a.null, .int a.n]), .i (.agg [.bool b.null, .int b.n])] []=some (.i (.agg [.bool (Val.cmb k a b).null, .int (Val.cmb k a b).n]),[]):=by
 rw[aD rfl Tryz.func208 rfl rfl];obtain⟨an,a⟩:=a;obtain⟨bn,b⟩:=b;have ba:-9999≤a∧a≤9999:=by cases an<;>simp[Val.ok]at ha<;>omega
 have bb:-9999≤b∧b≤9999:=by cases bn<;>simp[Val.ok]at hb<;>omega
 have w1:IntKind.i64.wrap (a+b)=a+b:=wrO;have w2:IntKind.i64.wrap (a-b)=a-b:=wrO
 have w3:IntKind.i64.wrap (a*b)=a*b:=by
  have h1:a*b≤9999*9999:=by
   have:=Int.mul_le_mul_of_natAbs_le (x:=a) (y:=b) (s:=9999) (t:=9999) (by omega) (by omega);omega
  have h2:-(9999*9999)≤a*b:=by
   have:=Int.mul_le_mul_of_natAbs_le (x:=-a) (y:=b) (s:=9999) (t:=9999) (by omega) (by omega);rw[Int.neg_mul]at this;omega
  exact wrO
 by_cases k8:k=8
 ·by_cases hm:Val.tr ⟨bn,b⟩<Val.tr ⟨an,a⟩<;>simp[Val.cmb,k8,hm]
 by_cases k9:k=9
 ·by_cases hm:Val.tr ⟨an,a⟩<Val.tr ⟨bn,b⟩<;>simp[Val.cmb,k9,hm]
 cases an
 ·cases bn
  ·by_cases k3:k=3
   ·simp[Val.cmb,k3,w1]
   by_cases k4:k=4
   ·simp[Val.cmb,k4,w2]
   by_cases k5:k=5
   ·simp[Val.cmb,k5,w3]
   by_cases k6:k=6
   ·simp[Val.cmb,k6]
   ·simp[Val.cmb,k8,k9,k3,k4,k5,k6]
  ·simp[Val.cmb,k8,k9]
 ·simp[Val.cmb,k8,k9]
end Go.Proofs.YtjdfjgmebalaaaaGreat
namespace Go.Av
end Go.Av
namespace Go.Proofs.YtjdfjgmebalaaaaGreat
open Go Go.Av
set_option maxRecDepth 4000
set_option maxHeartbeats 1000000
end Go.Proofs.YtjdfjgmebalaaaaGreat
namespace Go.Av
end Go.Av
namespace Go.Proofs.YtjdfjgmebalaaaaGreat
open Go Go.Av
set_option maxRecDepth 4000
set_option maxHeartbeats 1000000
end Go.Proofs.YtjdfjgmebalaaaaGreat
namespace Go.Av
end Go.Av
namespace Go.Proofs.YtjdfjgmebalaaaaGreat
open Go Go.Av
set_option maxRecDepth 4000
set_option maxHeartbeats 2000000
def xv (a b:Nat):AV:=if b=a then .osl 0 2 0 a else .osl 1 2 0 b
def wi (n:Nat):Nat:=if n=0 then 1 else 2
end Go.Proofs.YtjdfjgmebalaaaaGreat
namespace Go.Av
end Go.Av
namespace Go.Proofs.YtjdfjgmebalaaaaGreat
open Go Go.Av
set_option maxRecDepth 4000
set_option maxHeartbeats 2000000
end Go.Proofs.YtjdfjgmebalaaaaGreat
namespace Go.Av
end Go.Av
namespace Go.Proofs.YtjdfjgmebalaaaaGreat
open Go Go.Av
set_option maxRecDepth 4000
set_option maxHeartbeats 2000000
set_option maxHeartbeats 4000000
end Go.Proofs.YtjdfjgmebalaaaaGreat
namespace Go.Av
end Go.Av
namespace Go.Proofs.YtjdfjgmebalaaaaGreat
open Go Go.Av
set_option maxRecDepth 4000
set_option maxHeartbeats 2000000
end Go.Proofs.YtjdfjgmebalaaaaGreat

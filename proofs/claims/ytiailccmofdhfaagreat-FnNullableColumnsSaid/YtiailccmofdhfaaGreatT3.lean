/- Part 3 of what the proof rests on: the executor and what it is worth, and the program's functions as it runs them. No condition. -/
import Derived.Test.YtiailccmofdhfaaGreatT2
import Derived.Test.YtiailccmofdhfaaGreatProg
import Derived.KernelRfl
set_option linter.unusedVariables false
set_option linter.unusedSimpArgs false
namespace Go.Av
def TreeBlk:Blk→Prop
 | .box cs=>∀ c∈cs,(∃ v,c=.i v)∨c=.nils
 | .loop _ _ _=>False
 | _=>True
theorem RepC.tree {m:Mem} {φ φ':Pl}:∀ {cs:List AV} {vs:List Value},(∀ c∈cs,(∃ v,c=.i v)∨c=.nils)→RepC m φ cs vs→RepC m φ' cs vs
 | [],_,_, .nil=>.nil
 | c::cs,_,h, .cons a o r=>by
  have hr:=RepC.tree (m:=m) (φ':=φ') (fun d hd=>h d (by simp[hd])) r
  rcases h c (by simp)with ⟨v,rfl⟩|rfl
  ·cases a with|i a=>exact .cons (.i a) o hr
  ·cases a;exact .cons .nils o hr
theorem BlkOk.tree {w:World} {m:Mem} {φ φ':Pl} {b:Nat} {n:Ext} {blk:Blk} (hl:TreeBlk blk) (h:BlkOk w m φ b n blk):BlkOk w m φ' b n blk:=by
 cases h with
 | box h1 h2 h3 h4=>exact .box h1 h2 (h3.tree hl) h4
 | arr h1 h2 h3 h4 h5 h6 h7 h8 h9=>exact .arr h1 h2 h3 h4 h5 h6 h7 h8 h9
 | frz h1 h2=>exact .frz h1 h2
 | fbox h1=>exact .fbox h1
 | tre h1 h2 h3 h4 h5 h6 h7 h8 h9 h10=>exact .tre h1 h2 h3 h4 h5 h6 h7 h8 h9 h10
 | loop=>cases hl
def StaysT (st':Store):AV→Prop
 | .i _=>True
 | .own id _=>st' id≠none
 | .osl id _ _ _=>st' id≠none
 | .nils=>True
 | _=>False
theorem StaysT.rep {m:Mem} {φ φ':Pl} {st':Store} {v:AV} {x:Value} (h:StaysT st' v) (he:∀ i,st' i≠none→φ' i=φ i) (hr:Rep m φ v x):Rep m φ' v x:=by
 unfold StaysT at h
 split at h
 ·cases hr with|i k=>exact .i k
 ·cases hr with
  | own e=>exact .own (by rw[he _ h];exact e)
 ·cases hr with
  | osl e a b c d=>exact .osl (by rw[he _ h];exact e) a b c d
 ·cases hr;exact .nils
 ·cases h
structure CPY (wi:World) (p:Pn) (F:List Nat) (v0 v1 v2 v3 v4:Value) (w:World) (m:Mem) (φ:Pl):Prop where
 th:∀ {w':World} {m':Mem} {b o:Nat},MLe m m'→(∀ f∈F,∀ j,w'.cell? ⟨f,j,none⟩=w.cell? ⟨f,j,none⟩)→At5 w' b o v0 v1 v2 v3 v4→TH w' m' p b o F []
 cells:∀ {m':Mem},MLe m m'→(∀ f∈F,∀ j,m' f j=w.cell? ⟨f,j,none⟩)→ICells m' p.cells [v0,v1,v2,v3,v4]
 nd:F.Nodup
 all:∀ f∈F,wi.heap.size≤f∧f<w.heap.size∧Free φ f∧(∀ o,m f o=none)∧∃ (vs:List Value) (T:TypeId),w.heap[f]?=some (.cells vs.toArray T (0,0))∧∀ v∈vs,v.oneCell'=true
theorem CPY.stab (wi:World) (p:Pn) (F:List Nat) (v0 v1 v2 v3 v4:Value):Stab (CPY wi p F v0 v1 v2 v3 v4):=by
 intro w m φ w' m' φ' ha h
 have hs:∀ f∈F,w'.heap[f]?=w.heap[f]?:=fun f hf=>ha.block f (h.all f hf).2.1 (h.all f hf).2.2.1
 refine⟨fun hm hw h5=>h.th (ha.mle.trans hm) (fun f hf j=>(hw f hf j).trans (cells_same (hs f hf) j)) h5,fun hm hw=>h.cells (ha.mle.trans hm) fun f hf j=>(hw f hf j).trans (cells_same (hs f hf) j),h.nd,fun f hf=>?_⟩
 obtain⟨k1,k2,k3,k4,vs,T,k5,k6⟩:=h.all f hf
 exact⟨k1,Nat.lt_of_lt_of_le k2 ha.size,ha.range k2 k3,fun o=>(ha.mnew f k2 k3 o).trans (k4 o),vs,T,by rw[hs f hf];exact k5,k6⟩
theorem TH.cells {w:World} {m:Mem} {x:Pn} {b o:Nat} {F:List Nat} (h:TH w m x b o F []):∃ v0 v1 v2 v3 v4,At5 w b o v0 v1 v2 v3 v4∧(∀ v∈[v0,v1,v2,v3,v4],v.oneCell'=true)∧(∃ ao cap,v4=.slice ao x.kids.length cap)∧(∀ {w':World} {m':Mem} {b' o':Nat},MLe m m'→(∀ f∈F,∀ j,w'.cell? ⟨f,j,none⟩=w.cell? ⟨f,j,none⟩)→At5 w' b' o' v0 v1 v2 v3 v4→TH w' m' x b' o' F []) ∧
 ∀ {m':Mem},MLe m m'→(∀ f∈F,∀ j,m' f j=w.cell? ⟨f,j,none⟩)→ICells m' x.cells [v0,v1,v2,v3,v4]:=by
 have o2:∀ {m:Mem} es v,IRep m (.isl es) v→v.oneCell'=true:=fun es v h=>by cases h<;>rfl
 generalize hH:([]:PL)=H at h
 cases h with
 | fresh=>cases hH
 | leaf h1 h2 h3 h4 =>
  refine⟨_,_,_,_,_,h1,(by intro v hv;simp only[List.mem_cons,List.not_mem_nil,or_false]at hv;rcases hv with rfl|rfl|rfl|rfl|rfl<;>first|rfl|exact o2 _ _ h2|exact o2 _ _ h3),⟨_,_,rfl⟩,fun hm _ h5=>.leaf h5 (h2.mono hm) (h3.mono hm) h4,fun hm _=>?_⟩
  rw[Pn.cells_mk]
  exact .cons (.lit _) rfl (.cons (.lit _) rfl (.cons (h2.mono hm) (o2 _ _ h2) (.cons (h3.mono hm) (o2 _ _ h3) (.cons (.isl0 _ _ h4) rfl .nil))))
 | @node k t es cs ks _ _ b' cap vE vC F1 _ h1 h2 h3 h4 h5 h6 =>
  subst hH
  refine⟨_,_,_,_,_,h1,(by intro v hv;simp only[List.mem_cons,List.not_mem_nil,or_false]at hv;rcases hv with rfl|rfl|rfl|rfl|rfl<;>first|rfl|exact o2 _ _ h2|exact o2 _ _ h3),⟨_,_,rfl⟩,fun hm hF k5=>.node k5 (h2.mono hm) (h3.mono hm) h4 h5 (h6.frame hm (fun j _ _=>hF _ (by simp) j) fun f hf=>hF f (by simp[hf])),fun hm hF=>?_⟩
  rw[Pn.cells_mk]
  have he:=THL.iel2 hm h6 (fun j _ _=>hF b' (by simp) j) (fun f hf=>hF f (by simp[hf]))
  have hl:(Pn.cellsL ks).length=ks.length:=by simp
  have hn:Pn.cellsL ks≠[]:=fun e=>by rw[e]at hl;simp at hl;exact h4 (List.length_eq_zero_iff.1 hl.symm)
  have hk:=IRep.isl (cap:=cap) hn he (by omega)
  rw[hl]at hk
  exact .cons (.lit _) rfl (.cons (.lit _) rfl (.cons (h2.mono hm) (o2 _ _ h2) (.cons (h3.mono hm) (o2 _ _ h3) (.cons hk rfl .nil))))
structure RAT (wi:World) (root:Nat) (p:Pn) (F:List Nat) (path:List Int) (y:Pn) (bq oq:Nat) (Fa Fy Fz:List Nat) (w:World) (m:Mem) (φ:Pl):Prop where
 raw:RAW wi root p F [] w m φ
 pos:AtP w m p root 0 F path y bq oq Fa Fy Fz
theorem RAT.stab (wi:World) (root:Nat) (p:Pn) (F:List Nat) (path:List Int) (y:Pn) (bq oq:Nat) (Fa Fy Fz:List Nat):Stab (RAT wi root p F path y bq oq Fa Fy Fz):=by
 intro w m φ w' m' φ' ha h
 exact⟨RAW.stab wi root p F [] w m φ w' m' φ' ha h.raw,h.pos.frame ha.mle fun f hf j=>cells_same (ha.block f (h.raw.all f hf).2.1 (h.raw.all f hf).2.2.1) j⟩
structure ADK (wi:World) (root:Nat) (p:Pn) (F:List Nat) (path:List Int) (y:Pn) (bq oq:Nat) (Fa Fy Fz:List Nat) (k:Nat) (wa:World) (ma:Mem) (w:World) (m:Mem) (φ:Pl):Prop where
 pos:AtP wa ma p root 0 F path y bq oq Fa Fy Fz
 le:MLe ma m
 own:∃ n,φ k=some (bq,n)
 bqn:wi.heap.size≤bq
 oth:∀ f∈root::F,f≠bq→wi.heap.size≤f∧f<w.heap.size∧Free φ f∧(∀ o,m f o=none)∧w.heap[f]?=wa.heap[f]?∧∃ (vs:List Value) (T:TypeId),wa.heap[f]?=some (.cells vs.toArray T (0,0))∧∀ v∈vs,v.oneCell'=true
theorem ADK.stab (wi:World) (root:Nat) (p:Pn) (F:List Nat) (path:List Int) (y:Pn) (bq oq:Nat) (Fa Fy Fz:List Nat) (k:Nat) (wa:World) (ma:Mem):Stab (ADK wi root p F path y bq oq Fa Fy Fz k wa ma):=by
 intro w m φ w' m' φ' ha h
 refine⟨h.pos,h.le.trans ha.mle,?_,h.bqn,fun f hf hne=>?_⟩
 ·obtain⟨n,e⟩:=h.own
  obtain⟨n',e',_⟩:=ha.ple _ _ _ e
  exact⟨n',e'⟩
 ·obtain⟨k1,k2,k3,k4,k5,k6⟩:=h.oth f hf hne
  exact⟨k1,Nat.lt_of_lt_of_le k2 ha.size,ha.range k2 k3,fun o=>(ha.mnew f k2 k3 o).trans (k4 o),(ha.block f k2 k3).trans k5,k6⟩
def RawPost (wi:World) (mi:Mem) (p:Pn) (e:Ending) (w:World):Prop :=
 ∃ v0 v1 v2 v3 v4 F m,e=.returned (.agg #[v0,v1,v2,v3,v4])∧(∀ v∈[v0,v1,v2,v3,v4],v.oneCell'=true)∧MemOk w m∧Adv wi mi (fun _=>none) w m (fun _=>none)∧CPY wi p F v0 v1 v2 v3 v4 w m (fun _=>none)
theorem RawPost.tree {wi:World} {mi:Mem} {p:Pn} {e:Ending} {w:World} (h:RawPost wi mi p e w):CallPost wi mi (fun _=>none) (.i (.agg p.cells)) [] e w:=by
 classical
 obtain⟨v0,v1,v2,v3,v4,F,m,rfl,hone,hm,ha,hc⟩:=h
 let m':Mem:=fun f o=>if f∈F then w.cell? ⟨f,o,none⟩else m f o
 have hin:∀ f,f∈F→∀ o,m' f o=w.cell? ⟨f,o,none⟩:=fun f hf o=>by show(if f∈F then _ else _)=_;rw[if_pos hf]
 have hout:∀ f,f ∉ F→∀ o,m' f o=m f o:=fun f hf o=>by show(if f∈F then _ else _)=_;rw[if_neg hf]
 have hle:MLe m m':=fun f o v e=>by
  by_cases hf:f∈F
  ·rw[(hc.all f hf).2.2.2.1 o]at e;cases e
  ·rw[hout f hf];exact e
 have hmem:MemOk w m':=fun f o v e=>by
  by_cases hf:f∈F
  ·rw[hin f hf]at e;exact e
  ·rw[hout f hf]at e;exact hm f o v e
 refine⟨_,m',fun _=>none,rfl, .i (.agg (hc.cells hle hin)),⟨hmem,fun id blk e=>by simp[stOf]at e,fun id id' b b' n n' blk blk' f e=>by simp[stOf]at e,fun _ _ _ _ e=>by cases e⟩,⟨ha.size,ha.os,ha.tape,ha.output,ha.block,ha.mle.trans hle,fun f hf hfr o=>?_, .refl _,fun _ _ _ _ e=>by cases e⟩,fun id h=>absurd rfl h⟩
 rw[hout f (fun hf'=>by have:=(hc.all f hf').1;omega)]
 exact ha.mnew f hf hfr o
section
variable {C:Ctx} {wi:World} {mi:Mem} {nt:Nat}
theorem GR.ops (hS:SoundOk C) {ops:Array Oper} {Q:Exit→Act→World→Prop} {base:Nat} {js:List Nat} {R:World→Mem→Pl→Prop} (hR:Stab R) (hs:ops.all (operOk nt)=true) {os:List Oper} {i:Nat} {R0 R1:RS} {a:Act} {w:World} (hl:∀ j,j<os.length→os[j]?=ops[i+j]?) (hx:runOps C (callA C) ops.toList false base os i R0=some R1)
 (h:GR wi mi nt (okIn base fun j=>j<i) R R0.env R0.st a w) (hQ:∀ a' w',GR wi mi nt (okIn base fun j=>j<i+os.length) R R1.env R1.st a' w'→wpOpsIn (FR none) 0 C.P ops Q js a' w'):wpOpsIn (FR none) 0 C.P ops Q (List.range' i os.length++js) a w:=by
 obtain⟨⟨m,φ,h1,h2,h3,h4,h5⟩,h6,h7⟩:=h
 refine runOps_wp_pre hS.ctx (callA_sound hS) (fun o ho=>Array.all_eq_true_iff_forall_mem.1 hs o ho) os i R0 R1 a w hl hx ⟨⟨m,φ,h1,h2, .refl _ _ _,h4, .nil _ _ _⟩,h6,h7⟩ fun a' w' k=>hQ a' w' ?_
 obtain⟨⟨m',φ',k1,k2,k3,k4,_⟩,k5,k6⟩:=k
 exact⟨⟨m',φ',k1,k2,h3.trans k3,k4,hR _ _ _ _ _ _ k3 h5⟩,k5,k6⟩
theorem GR.opsK (hS:SoundOk C) {ops:Array Oper} {Q:Exit→Act→World→Prop} {base:Nat} {js:List Nat} {R:World→Mem→Pl→Prop} (hR:Stab R) (i k:Nat) (hk:decide (i+k≤ops.toList.length)=true) (hs:ops.all (operOk nt)=true) {R0 R1:RS} {a:Act} {w:World} (hx:runOps C (callA C) ops.toList false base ((ops.toList.drop i).take k) i R0=some R1)
 (h:GR wi mi nt (okIn base fun j=>j<i) R R0.env R0.st a w) (hQ:∀ a' w',GR wi mi nt (okIn base fun j=>j<i+k) R R1.env R1.st a' w'→wpOpsIn (FR none) 0 C.P ops Q js a' w'):wpOpsIn (FR none) 0 C.P ops Q (List.range' i k++js) a w:=by
 have hk:=of_decide_eq_true hk
 have hl:((ops.toList.drop i).take k).length=k:=by rw[List.length_take,List.length_drop];omega
 have:=GR.ops (js:=js) hS hR hs (os:=(ops.toList.drop i).take k) (i:=i) (fun j hj=>by
  rw[hl]at hj
  rw[List.getElem?_take,if_pos hj,List.getElem?_drop,Array.getElem?_toList]) hx h (by rw[hl];exact hQ)
 rwa [hl]at this
theorem GR.put {ok:Nat→Prop} {R:World→Mem→Pl→Prop} {env:Nat→AV} {st:Store} {a:Act} {w:World} {d:Nat} {x:AV} {v:Value} (hd:d<nt) (h:GR wi mi nt ok R env st a w) (hr:∀ m φ,R w m φ→Rep m φ x v):GR wi mi nt ok R (upd env d x) st (a.put (some d) v) w:=by
 obtain⟨⟨m,φ,hi,henv,hadv,hok,hK⟩,hsz,hdf⟩:=h
 exact⟨⟨m,φ,hi,putA_rep (dst:=some d) henv hsz (by simpa [dstOk]using hd) (hr m φ hK),hadv,hok,hK⟩,by rw[put_size];exact hsz,by rw[put_defers'];exact hdf⟩
theorem GR.adoptC {ok:Nat→Prop} {root:Nat} {p:Pn} {F:List Nat} {env:Nat→AV} {st:Store} {a:Act} {w:World} {u k:Nat} (h:GR wi mi nt ok (RAW wi root p F []) env st a w) (hu:env u=.i (.lit (.pointer (some ⟨root,0,none⟩)))) (hk:st k=none) (hok:¬ ok k) :
 ∃ v0 v1 v2 v3 v4 post,(∀ v∈[v0,v1,v2,v3,v4],v.oneCell'=true)∧∀ env',(∀ t,env' t=.junk∨(t=u∧env' t=.own k 0)∨env' t=env t) →
   GR wi mi nt (fun id=>ok id∨id=k) (CPY wi p F v0 v1 v2 v3 v4) env' (upd st k (some (.box (litVs [v0,v1,v2,v3,v4]++litVs post)))) a w:=by
 obtain⟨⟨m,φ,hi,henv,hadv,hid,hr⟩,h6,h7⟩:=h
 obtain⟨k1,k2,k3,k4,us,T,k5,k6⟩:=hr.all root (by simp)
 obtain⟨v0,v1,v2,v3,v4,h5,_,_,hth,hce⟩:=hr.th.cells
 have gc:∀ {o:Nat} {v:Value},w.cell? ⟨root,o,none⟩=some v→us[o]?=some v:=fun h=>by rwa [cell_row k5]at h
 have hrow:=row_five (gc h5.c0) (gc h5.c1) (gc h5.c2) (gc h5.c3) (gc h5.c4)
 simp only[List.take_zero,List.nil_append,Nat.zero_add]at hrow
 have hφk:φ k=none:=by
  cases e:φ k with
  | none=>rfl
  | some q=>exact absurd (hid k (by rw[e];simp)) hok
 refine⟨v0,v1,v2,v3,v4,us.drop 5,fun v hv=>k6 v (by rw[hrow];exact List.mem_append_left _ hv),fun env' he=>?_⟩
 have hrep:RepC m (upd φ k (some (root,one root us.length))) (litVs [v0,v1,v2,v3,v4]++litVs (us.drop 5)) us:=by
  have h1:=litVs_rep (m:=m) (φ:=upd φ k (some (root,one root us.length))) (vs:=us) k6
  have:litVs us=litVs [v0,v1,v2,v3,v4]++litVs (us.drop 5):=by
   conv=>lhs;rw[hrow]
   simp[litVs]
  rwa [this]at h1
 have hp:PLe φ (upd φ k (some (root,one root us.length))):=fun i r n e=>by
  refine⟨n,?_,rfl,fun _ h=>h⟩
  have:i≠k:=fun h=>by rw[h,hφk]at e;cases e
  simp[upd,this,e]
 refine⟨⟨m,upd φ k (some (root,one root us.length)),hi.adopt hk hφk k3 k4 k5 hrep,fun t=>?_,hadv.adopt k1,fun id hne=>?_,?_⟩,h6,h7⟩
 ·rcases he t with e|⟨rfl,e⟩|e
  ·rw[e];exact .junk _
  ·have:=henv t;rw[hu]at this
   rw[e,this.lit_eq]
   exact .own (n:=one root us.length) (by simp[upd])
  ·rw[e]
   exact(henv t).mono (.refl _) hp
 ·by_cases e:id=k
  ·exact .inr e
  ·simp[upd,e]at hne
   exact .inl (hid id hne)
 ·refine⟨hth,hce,hr.nd,fun f hf=>?_⟩
  obtain⟨q1,q2,q3,q4,q5⟩:=hr.all f (by simp[hf])
  refine⟨q1,q2,fun i r n e ho=>?_,q4,q5⟩
  by_cases e2:i=k
  ·subst e2
   simp[upd]at e
   obtain⟨rfl,rfl⟩:=e
   have:f=root:=ho
   exact hr.nr (this ▸ hf)
  ·simp[upd,e2]at e
   exact q3 i r n e ho
end
theorem intsL_inj:∀ {l m:List Int},intsL l=intsL m→l=m:=by
 intro l
 induction l with
 | nil=>intro m h;cases m with
  | nil=>rfl
  | cons b m=>simp[intsL]at h
 | cons a l ih=>intro m h;cases m with
  | nil=>simp[intsL]at h
  | cons b m =>
   simp only[intsL,List.cons.injEq]at h
   rw[show a=b by simpa using h.1,ih h.2]
theorem Ex.cells_inj2:∀ (a b:Ex),a.cells=b.cells→a=b:=by
 intro a
 induction a using Ex.ind with
 | h k c v ks ih =>
  intro b h
  obtain⟨k',c',v',ks'⟩:=b
  have key:∀ {l m:List Ex},(∀ a∈l,∀ b,a.cells=b.cells→a=b)→Ex.cellsL l=Ex.cellsL m→l=m:=by
   intro l
   induction l with
   | nil=>intro m _ h;cases m with
    | nil=>rfl
    | cons b m=>simp[Ex.cellsL]at h
   | cons a l ihl=>intro m hi h;cases m with
    | nil=>simp[Ex.cellsL]at h
    | cons b m =>
     simp only[Ex.cellsL,List.cons.injEq]at h
     rw[hi a (by simp) b h.1,ihl (fun x hx=>hi x (by simp[hx])) h.2]
  rw[Ex.cells_eq,Ex.cells_eq]at h
  simp only[List.cons.injEq,IV.lit.injEq,Value.int.injEq,Value.bool.injEq,IV.isl.injEq,true_and,and_true]at h
  obtain⟨h1,h2,h3,h4,h5⟩:=h
  have h5:=key ih h5
  obtain⟨b1,n1⟩:=v;obtain⟨b2,n2⟩:=v'
  simp only[Ex.kind,Ex.col,Ex.val,Ex.kids]at h1 h2 h3 h4 h5
  subst h1 h2 h3 h4 h5;rfl
theorem Ex.cellsL_inj2:∀ {l m:List Ex},Ex.cellsL l=Ex.cellsL m→l=m:=by
 intro l
 induction l with
 | nil=>intro m h;cases m with
  | nil=>rfl
  | cons b m=>simp[Ex.cellsL]at h
 | cons a l ihl=>intro m h;cases m with
  | nil=>simp[Ex.cellsL]at h
  | cons b m =>
   simp only[Ex.cellsL,List.cons.injEq]at h
   rw[Ex.cells_inj2 a b h.1,ihl h.2]
theorem Pn.cells_inj:∀ (a b:Pn),a.cells=b.cells→a=b:=by
 intro a
 induction a using Pn.ind with
 | h k t es cs ks ih =>
  intro b h
  obtain⟨k',t',es',cs',ks'⟩:=b
  have key:∀ {l m:List Pn},(∀ a∈l,∀ b,a.cells=b.cells→a=b)→Pn.cellsL l=Pn.cellsL m→l=m:=by
   intro l
   induction l with
   | nil=>intro m _ h;cases m with
    | nil=>rfl
    | cons b m=>simp[Pn.cellsL]at h
   | cons a l ihl=>intro m hi h;cases m with
    | nil=>simp[Pn.cellsL]at h
    | cons b m =>
     simp only[Pn.cellsL,List.cons.injEq]at h
     rw[hi a (by simp) b h.1,ihl (fun x hx=>hi x (by simp[hx])) h.2]
  rw[Pn.cells_mk,Pn.cells_mk]at h
  simp only[List.cons.injEq,IV.lit.injEq,Value.int.injEq,IV.isl.injEq,true_and,and_true]at h
  obtain⟨h1,h2,h3,h4,h5⟩:=h
  rw[h1,h2,Ex.cellsL_inj2 h3,intsL_inj h4,key ih h5]
def ApA (args:List AV) (x:Pn×List Int×Int×List Int):Prop:=args=[.i (.agg x.1.cells), .i (.isl (intsL x.2.1)), .i (.agg [.int x.2.2.1, .isl (intsL x.2.2.2)])]
theorem ApA.inj {args:List AV} {x y:Pn×List Int×Int×List Int} (hx:ApA args x) (hy:ApA args y):x=y:=by
 unfold ApA at hx hy
 rw[hx]at hy
 simp only[List.cons.injEq,AV.i.injEq,IV.agg.injEq,IV.isl.injEq,IV.lit.injEq,Value.int.injEq,true_and,and_true]at hy
 obtain⟨h1,h2,h3,h4⟩:=hy
 obtain⟨a,b,c,d⟩:=x;obtain⟨a',b',c',d'⟩:=y
 simp only at h1 h2 h3 h4
 rw[Pn.cells_inj _ _ h1,intsL_inj h2,h3,intsL_inj h4]
noncomputable def thenA (C:Ctx) (G:List Nat) (na:Nat) (b:Code) (S:AS):XR:=execA C G na b S
@[simp] theorem execA_seqT {C:Ctx} {G:List Nat} {na:Nat} (a b:Code) (S:AS):execA C G na (.seq a b) S=seqK (execA C G na a S) (thenA C G na b):=execA_seq a b
@[simp] theorem thenA_ap {C:Ctx} {G:List Nat} {na:Nat} (b:Code) (e:List (Nat×AV)) (st:StL):thenA C G na b ⟨e,st⟩=execA C G na b ⟨e,st⟩:=(rfl)
def contA (C:Ctx) (call:CallF) (all:List Oper) (draw:Bool) (base:Nat) (os:List Oper) (i:Nat) (env:Nat→AV) (dst:Option Tmp) (log:List (Nat×List Nat×Bool)) (p:AV×Store):Option RS:=runOps C call all draw base os i ⟨putA env dst p.1,p.2,log⟩
@[simp] theorem contA_ap {C:Ctx} {call:CallF} (all:List Oper) (draw:Bool) (base:Nat) (os:List Oper) (i:Nat) (env:Nat→AV) (dst:Option Tmp) (log:List (Nat×List Nat×Bool)) (v:AV) (st:Store):contA C call all draw base os i env dst log (v,st)=runOps C call all draw base os i ⟨putA env dst v,st,log⟩:=(rfl)
attribute [simp] execA_range execA_region execA_cond execA_block execA_skip execA_ret execA_exit upd_apply
@[simp] theorem widths_nil (k:Nat):widths k []=true:=(rfl)
@[simp] theorem widths_cons (k:Nat) (e:List IV) (es:List (List IV)):widths k (e::es)=(e.length == k && widths k es):=(rfl)
@[simp] theorem litCell_nils:litCell (.slice none 0 0)=.nils:=(rfl)
@[simp] theorem litAV_nils:litAV (.slice none 0 0)=.nils:=(rfl)
@[simp] theorem litCell_bool (b:Bool):litCell (.bool b)=.i (.lit (.bool b)):=(rfl)
@[simp] theorem litAV_bool (b:Bool):litAV (.bool b)=.i (.lit (.bool b)):=(rfl)
@[simp] theorem cellsOf_bool (b:Bool):cellsOf (.i (.lit (.bool b)))=some [.i (.lit (.bool b))]:=(rfl)
@[simp] theorem litCell_int (k:IntKind) (n:Int):litCell (.int k n)=.i (.lit (.int k n)):=(rfl)
@[simp] theorem litAV_int (k:IntKind) (n:Int):litAV (.int k n)=.i (.lit (.int k n)):=(rfl)
@[simp] theorem cellsOf_int (k:IntKind) (n:Int):cellsOf (.i (.lit (.int k n)))=some [.i (.lit (.int k n))]:=(rfl)
@[simp] theorem litCell_string (s:ByteArray):litCell (.string s)=.i (.lit (.string s)):=(rfl)
@[simp] theorem litAV_string (s:ByteArray):litAV (.string s)=.i (.lit (.string s)):=(rfl)
@[simp] theorem cellsOf_string (s:ByteArray):cellsOf (.i (.lit (.string s)))=some [.i (.lit (.string s))]:=(rfl)
@[simp] theorem litCell_pointer (a:Option Addr):litCell (.pointer a)=.i (.lit (.pointer a)):=(rfl)
@[simp] theorem litAV_pointer (a:Option Addr):litAV (.pointer a)=.i (.lit (.pointer a)):=(rfl)
@[simp] theorem cellsOf_pointer (a:Option Addr):cellsOf (.i (.lit (.pointer a)))=some [.i (.lit (.pointer a))]:=(rfl)
@[simp] theorem litCell_map (r:Option Nat):litCell (.map r)=.i (.lit (.map r)):=(rfl)
@[simp] theorem litAV_map (r:Option Nat):litAV (.map r)=.i (.lit (.map r)):=(rfl)
@[simp] theorem cellsOf_map (r:Option Nat):cellsOf (.i (.lit (.map r)))=some [.i (.lit (.map r))]:=(rfl)
@[simp] theorem litCell_nilFunc :litCell (.nilFunc)=.i (.lit (.nilFunc)):=(rfl)
@[simp] theorem litAV_nilFunc :litAV (.nilFunc)=.i (.lit (.nilFunc)):=(rfl)
@[simp] theorem cellsOf_nilFunc :cellsOf (.i (.lit (.nilFunc)))=some [.i (.lit (.nilFunc))]:=(rfl)
@[simp] theorem litCell_nilIface :litCell (.nilIface)=.i (.lit (.nilIface)):=(rfl)
@[simp] theorem litAV_nilIface :litAV (.nilIface)=.i (.lit (.nilIface)):=(rfl)
@[simp] theorem cellsOf_nilIface :cellsOf (.i (.lit (.nilIface)))=some [.i (.lit (.nilIface))]:=(rfl)
@[simp] theorem litCell_tuple (a:Array Value):litCell (.tuple a)=.i (.lit (.tuple a)):=(rfl)
@[simp] theorem litAV_tuple (a:Array Value):litAV (.tuple a)=.i (.lit (.tuple a)):=(rfl)
@[simp] theorem litAV_agg (cs:Array Value):litAV (.agg cs)=mkAgg (litCells cs.toList):=(rfl)
attribute [simp] litCells.eq_1 litCells.eq_2 cellsOf.eq_3 cellsOf.eq_4
@[simp] theorem cellsOf_nils :cellsOf .nils=some [.nils]:=(rfl)
@[simp] theorem cellsOf_own (i o:Nat):cellsOf (.own i o)=some [(.own i o)]:=(rfl)
@[simp] theorem cellsOf_ownE (i k j o:Nat):cellsOf (.ownE i k j o)=some [(.ownE i k j o)]:=(rfl)
@[simp] theorem cellsOf_osl (i k o l:Nat):cellsOf (.osl i k o l)=some [(.osl i k o l)]:=(rfl)
@[simp] theorem cellsOf_fn (f:Fn) (cs:List AV):cellsOf (.fn f cs)=some [(.fn f cs)]:=(rfl)
@[simp] theorem cellsOf_slice (a:Option Addr) (l c:Nat):cellsOf (.i (.lit (.slice a l c)))=some [(.i (.lit (.slice a l c)))]:=(rfl)
@[simp] theorem cellsOf_isl (es:List (List IV)):cellsOf (.i (.isl es))=some [(.i (.isl es))]:=(rfl)
@[simp] theorem cellsOf_iref (cs:List IV):cellsOf (.i (.iref cs))=some [(.i (.iref cs))]:=(rfl)
@[simp] theorem consI_nils  (x:Option (List IV)):consI .nils x=none:=by cases x<;>rfl
@[simp] theorem frzV_nils (st:Store) :frzV st .nils=bnd (frz st fuelF .nils) fun p=>some (p.1,frzIds st p.2):=(rfl)
@[simp] theorem argVal_nils (st:Store) :argVal st .nils=bnd (frzV st .nils) fun p=>some (.i p.1,p.2):=(rfl)
@[simp] theorem consI_own (i o:Nat) (x:Option (List IV)):consI (.own i o) x=none:=by cases x<;>rfl
@[simp] theorem frzV_own (st:Store) (i o:Nat):frzV st (.own i o)=bnd (frz st fuelF (.own i o)) fun p=>some (p.1,frzIds st p.2):=(rfl)
@[simp] theorem argVal_own (st:Store) (i o:Nat):argVal st (.own i o)=bnd (frzV st (.own i o)) fun p=>some (.i p.1,p.2):=(rfl)
@[simp] theorem consI_osl (i k o l:Nat) (x:Option (List IV)):consI (.osl i k o l) x=none:=by cases x<;>rfl
@[simp] theorem frzV_osl (st:Store) (i k o l:Nat):frzV st (.osl i k o l)=bnd (frz st fuelF (.osl i k o l)) fun p=>some (p.1,frzIds st p.2):=(rfl)
@[simp] theorem argVal_osl (st:Store) (i k o l:Nat):argVal st (.osl i k o l)=bnd (frzV st (.osl i k o l)) fun p=>some (.i p.1,p.2):=(rfl)
@[simp] theorem frzV_agg (st:Store) (cs:List AV):frzV st (.agg cs)=bnd (frz st fuelF (.agg cs)) fun p=>some (p.1,frzIds st p.2):=(rfl)
@[simp] theorem argVal_agg (st:Store) (cs:List AV):argVal st (.agg cs)=bnd (frzV st (.agg cs)) fun p=>some (.i p.1,p.2):=(rfl)
@[simp] theorem consI_i (v:IV) (l:List IV):consI (.i v) (some l)=some (v::l):=(rfl)
@[simp] theorem consI_in (v:IV):consI (.i v) none=none:=(rfl)
@[simp] theorem frzV_i (st:Store) (v:IV):frzV st (.i v)=some (v,st):=(rfl)
@[simp] theorem argVal_i (st:Store) (v:IV):argVal st (.i v)=some (.i v,st):=(rfl)
@[simp] theorem argVal_fn (st:Store) (f:Fn) (cs:List AV):argVal st (.fn f cs)=some (.fn f cs,st):=(rfl)
@[simp] theorem aggD_strct:aggD (some .strct)=some true:=(rfl)
@[simp] theorem aggD_slice (e:TypeId):aggD (some (.slice e))=some false:=(rfl)
@[simp] theorem aggD_int (k:IntKind):aggD (some (.int k))=some false:=(rfl)
@[simp] theorem aggD_string:aggD (some .string)=some false:=(rfl)
@[simp] theorem aggD_bool:aggD (some .bool)=some false:=(rfl)
@[simp] theorem aggD_other:aggD (some .other)=some false:=(rfl)
@[simp] theorem aggD_array (n:Nat) (e:TypeId):aggD (some (.array n e))=some true:=(rfl)
@[simp] theorem isShift_add:isShift .add=false:=(rfl)
@[simp] theorem isShift_sub:isShift .sub=false:=(rfl)
@[simp] theorem isShift_mul:isShift .mul=false:=(rfl)
@[simp] theorem isShift_quo:isShift .quo=false:=(rfl)
@[simp] theorem isShift_rem:isShift .rem=false:=(rfl)
@[simp] theorem isShift_and:isShift .and=false:=(rfl)
@[simp] theorem isShift_or:isShift .or=false:=(rfl)
@[simp] theorem isShift_xor:isShift .xor=false:=(rfl)
@[simp] theorem isShift_andNot:isShift .andNot=false:=(rfl)
@[simp] theorem isShift_eql:isShift .eql=false:=(rfl)
@[simp] theorem isShift_neq:isShift .neq=false:=(rfl)
@[simp] theorem isShift_lss:isShift .lss=false:=(rfl)
@[simp] theorem isShift_leq:isShift .leq=false:=(rfl)
@[simp] theorem isShift_gtr:isShift .gtr=false:=(rfl)
@[simp] theorem isShift_geq:isShift .geq=false:=(rfl)
@[simp] theorem isShift_shl:isShift .shl=true:=(rfl)
@[simp] theorem isShift_shr:isShift .shr=true:=(rfl)
@[simp] theorem retVal_0:retVal []=.tup []:=(rfl)
@[simp] theorem retVal_1 (v:AV):retVal [v]=v:=(rfl)
@[simp] theorem retVal_2 (a b:AV) (l:List AV):retVal (a::b::l)=.tup (a::b::l):=(rfl)
attribute [simp] minmaxA.eq_1 minmaxA.eq_2 nthE.eq_1 nthE.eq_2 nthE.eq_3
section
variable (C:Ctx) (call:CallF) (env:Nat→AV) (st:Store) (nb:Nat)
@[simp] theorem stepOp_move (x:Operand):stepOp C call (.move x) env st nb=some (ev env x,st):=(rfl)
@[simp] theorem stepOp_assign (x:Operand):stepOp C call (.assign x) env st nb=some (ev env x,st):=(rfl)
@[simp] theorem stepOp_pick (c a b:Operand):stepOp C call (.pick c a b) env st nb=bnd (pickA (ev env a) (ev env b) (ev env c)) fun v=>some (v,st):=(rfl)
@[simp] theorem stepOp_alloc (t:TypeId):stepOp C call (.alloc t) env st nb=bnd (zeroOf C.P t) fun z=>some (.own nb 0,upd st nb (some (.box (litCells z)))):=(rfl)
@[simp] theorem stepOp_box (t:TypeId) (x:Operand):stepOp C call (.box t x) env st nb=bnd (cellsOf (ev env x)) fun cs=>some (.own nb 0,upd st nb (some (.box cs))):=(rfl)
@[simp] theorem stepOp_build (t:TypeId) (ps:Array (Nat×Operand)):stepOp C call (.build t ps) env st nb=bnd (aggD (descK C.P t)) fun g=>tst g (bnd (zeroOf C.P t) fun z=>bnd (partsOf env ps.toList) fun ps=>bnd (fillA (placeS C.P t) (litCells z) ps) fun cs=>some (mkAgg cs,st)):=(rfl)
@[simp] theorem stepOp_buildSlice (t:TypeId) (n:Nat) (ps:Array (Nat×Operand)):stepOp C call (.buildSlice t n ps) env st nb=bnd (elemD (descK C.P t)) fun e=>bnd (partsOf env ps.toList) fun ps=>sliceLit C e n st nb ps:=(rfl)
@[simp] theorem stepOp_load (t:TypeId) (a:Operand):stepOp C call (.load t a) env st nb=bnd (loadA C t (ev env a) st) fun v=>some (v,st):=(rfl)
@[simp] theorem stepOp_store (t:TypeId) (a x:Operand):stepOp C call (.store t a x) env st nb=bnd (storeA C t (ev env a) (ev env x) st) fun st1=>some (.i (.lit undef),st1):=(rfl)
@[simp] theorem stepOp_nilCheck (x:Operand):stepOp C call (.nilCheck x) env st nb=bnd (nilA (ev env x)) fun v=>some (v,st):=(rfl)
@[simp] theorem stepOp_binOp (op:BinOp) (t:TypeId) (x y:Operand) (u:TypeId):stepOp C call (.binOp op t x y u) env st nb=bnd (binA C op t (ev env x) (ev env y)) fun v=>some (.i v,st):=(rfl)
@[simp] theorem stepOp_unOp (op:UnOp) (t:TypeId) (x:Operand):stepOp C call (.unOp op t x) env st nb=bnd (unA op (ev env x)) fun v=>some (.i v,st):=(rfl)
@[simp] theorem stepOp_convert (s d:TypeId) (x:Operand):stepOp C call (.convert s d x) env st nb=bnd (convA (descK C.P s) (descK C.P d) (ev env x)) fun v=>some (v,st):=(rfl)
@[simp] theorem stepOp_makeSlice (t:TypeId) (l c:Operand):stepOp C call (.makeSlice t l c) env st nb=makeA C t st nb (ev env l) (ev env c):=(rfl)
@[simp] theorem stepOp_slice (t:TypeId) (x:Operand) (lo hi:Option Operand):stepOp C call (.slice t x lo hi none) env st nb=bnd (sliceA C t (evO env lo) (evO env hi) (ev env x)) fun v=>some (v,st):=(rfl)
@[simp] theorem stepOp_fieldAddr (s:TypeId) (x:Operand) (f:Nat):stepOp C call (.fieldAddr s x f) env st nb=bnd (fieldT C.P s f) fun p=>bnd (szOf C.P p.1) fun n=>tst (decide (0<n)) (bnd (fieldAddrA p.2 (ev env x)) fun v=>some (v,st)):=(rfl)
@[simp] theorem stepOp_field (s:TypeId) (x:Operand) (f:Nat):stepOp C call (.field s x f) env st nb=bnd (fieldT C.P s f) fun p=>bnd (szOf C.P p.1) fun n=>bnd (aggD (descK C.P p.1)) fun g=>bnd (fieldA p.2 n g (ev env x)) fun v=>some (v,st):=(rfl)
@[simp] theorem stepOp_indexAddr (t:TypeId) (x i:Operand):stepOp C call (.indexAddr t x i) env st nb=bnd (indexAddrA C (ev env x) (ev env i) (descK C.P t)) fun v=>some (v,st):=(rfl)
@[simp] theorem stepOp_index (t:TypeId) (x i:Operand):stepOp C call (.index t x i) env st nb=bnd (indexA C (ev env i) (descK C.P t) (ev env x)) fun v=>some (v,st):=(rfl)
@[simp] theorem stepOp_extract (x:Operand) (j:Nat):stepOp C call (.extract x j) env st nb=bnd (extractA j (ev env x)) fun v=>some (v,st):=(rfl)
@[simp] theorem stepOp_makeFunc (f:Fn) (fs cs:Array Operand):stepOp C call (.makeFunc f fs cs) env st nb=tst fs.toList.isEmpty (bnd (mkFnA (evL env cs.toList) f) fun v=>some (v,st)):=(rfl)
@[simp] theorem mkFnA_func (cs:List AV) (g:FuncId):mkFnA cs (.func g)=some (.fn (.func g) cs):=(rfl)
@[simp] theorem stepOp_builtin (b:Builtin) (as1:Array Operand) (ts:Array TypeId):stepOp C call (.call ⟨.builtin b,as1,ts⟩) env st nb=builtinA C st nb b ts.toList (evL env as1.toList):=(rfl)
@[simp] theorem stepOp_callV (f:Operand) (as1:Array Operand) (ts:Array TypeId):stepOp C call (.call ⟨.value f,as1,ts⟩) env st nb=stepC C call (evL env as1.toList) st nb (ev env f):=(rfl)
@[simp] theorem touchI_move (x:Operand):touchI env (.move x)=([],true):=(rfl)
@[simp] theorem touchI_assign (x:Operand):touchI env (.assign x)=([],true):=(rfl)
@[simp] theorem touchI_pick (c a b:Operand):touchI env (.pick c a b)=([],true):=(rfl)
@[simp] theorem touchI_alloc (t:TypeId):touchI env (.alloc t)=([],true):=(rfl)
@[simp] theorem touchI_box (t:TypeId) (x:Operand):touchI env (.box t x)=([],true):=(rfl)
@[simp] theorem touchI_build (t:TypeId) (ps:Array (Nat×Operand)):touchI env (.build t ps)=([],true):=(rfl)
@[simp] theorem touchI_nilCheck (x:Operand):touchI env (.nilCheck x)=([],true):=(rfl)
@[simp] theorem touchI_binOp (op:BinOp) (t:TypeId) (x y:Operand) (u:TypeId):touchI env (.binOp op t x y u)=([],true):=(rfl)
@[simp] theorem touchI_unOp (op:UnOp) (t:TypeId) (x:Operand):touchI env (.unOp op t x)=([],true):=(rfl)
@[simp] theorem touchI_convert (s d:TypeId) (x:Operand):touchI env (.convert s d x)=([],true):=(rfl)
@[simp] theorem touchI_makeSlice (t:TypeId) (l c:Operand):touchI env (.makeSlice t l c)=([],true):=(rfl)
@[simp] theorem touchI_slice (t:TypeId) (x:Operand) (lo hi:Option Operand):touchI env (.slice t x lo hi none)=([],true):=(rfl)
@[simp] theorem touchI_fieldAddr (s:TypeId) (x:Operand) (f:Nat):touchI env (.fieldAddr s x f)=([],true):=(rfl)
@[simp] theorem touchI_field (s:TypeId) (x:Operand) (f:Nat):touchI env (.field s x f)=([],true):=(rfl)
@[simp] theorem touchI_indexAddr (t:TypeId) (x i:Operand):touchI env (.indexAddr t x i)=([],true):=(rfl)
@[simp] theorem touchI_index (t:TypeId) (x i:Operand):touchI env (.index t x i)=([],true):=(rfl)
@[simp] theorem touchI_extract (x:Operand) (j:Nat):touchI env (.extract x j)=([],true):=(rfl)
@[simp] theorem touchI_makeFunc (f:Fn) (fs cs:Array Operand):touchI env (.makeFunc f fs cs)=([],true):=(rfl)
attribute [simp] touchI.eq_1 touchI.eq_2 touchI.eq_3 touchI.eq_4 touchI.eq_5 touchI.eq_6
@[simp] theorem touchI_len (as1:Array Operand) (ts:Array TypeId):touchI env (.call ⟨.builtin .len,as1,ts⟩)=([],true):=(rfl)
@[simp] theorem touchI_min (as1:Array Operand) (ts:Array TypeId):touchI env (.call ⟨.builtin .min,as1,ts⟩)=([],true):=(rfl)
@[simp] theorem touchI_max (as1:Array Operand) (ts:Array TypeId):touchI env (.call ⟨.builtin .max,as1,ts⟩)=([],true):=(rfl)
@[simp] theorem stepC_fn (args:List AV) (g:FuncId) (cs:List AV):stepC C call args st nb (.fn (.func g) cs)=if g=1000000007 then none else callGo call (C.ownArgs g) g (args++cs) st nb:=(rfl)
@[simp] theorem stepC_yld (args:List AV) (id:Nat):stepC C call args st nb (.fn (.yield 0) [.own id 0])=callGo call true yldF (.fn (.yield 0) [.own id 0]::args) st nb:=(rfl)
variable (all:List Oper) (base i:Nat) (log:List (Nat×List Nat×Bool)) (dst:Option Tmp) (op:Op) (ty:TypeId) (pos:String) (after:Array Edge) (os:List Oper)
@[simp] theorem putA_some (t:Tmp) (v:AV):putA env (some t) v=upd env t v:=(rfl)
@[simp] theorem putA_none (v:AV):putA env none v=env:=(rfl)
@[simp] theorem runOps_nil (draw:Bool) (R:RS):runOps C call all draw base [] i R=some R:=(rfl)
@[simp] theorem runOps_f0:runOps C call all false base (⟨dst,op,ty,pos,after,none⟩::os) i ⟨env,st,log⟩ =
 bnd (stepOp C call op env st (base+8*i)) (contA C call all false base os (i+1) env dst []):=(rfl)
@[simp] theorem runOps_f1 (g:Nat×Bool):runOps C call all false base (⟨dst,op,ty,pos,after,some g⟩::os) i ⟨env,st,log⟩ =
 bnd (wantD env g.2 ((all[g.1]?).bind (·.dst))) fun b=>if b=true then bnd (stepOp C call op env st (base+8*i)) (contA C call all false base os (i+1) env dst [])
  else runOps C call all false base os (i+1) ⟨putA env dst (.i (.lit undef)),st,log⟩:=(rfl)
@[simp] theorem runOps_t0:runOps C call all true base (⟨dst,op,ty,pos,after,none⟩::os) i ⟨env,st,log⟩ =
 tst (chkT base all ⟨dst,op,ty,pos,after,none⟩ st (touchI env op).1 (touchA st (touchI env op)).1 (touchI env op).2 log)
  (bnd (stepOp C call op env st (base+8*i)) (contA C call all true base os (i+1) env dst (addLog i (touchI env op).2 log (touchA st (touchI env op)).1))):=(rfl)
@[simp] theorem runOps_t1 (g:Nat×Bool):runOps C call all true base (⟨dst,op,ty,pos,after,some g⟩::os) i ⟨env,st,log⟩ =
 bnd (wantD env g.2 ((all[g.1]?).bind (·.dst))) fun b=>if b=true then
  tst (chkT base all ⟨dst,op,ty,pos,after,some g⟩ st (touchI env op).1 (touchA st (touchI env op)).1 (touchI env op).2 log)
   (bnd (stepOp C call op env st (base+8*i)) (contA C call all true base os (i+1) env dst (addLog i (touchI env op).2 log (touchA st (touchI env op)).1)))
  else runOps C call all true base os (i+1) ⟨putA env dst (.i (.lit undef)),st,log⟩:=(rfl)
end
attribute [simp] envOf.eq_1 envOf.eq_2
attribute [simp] stOf.eq_1 stOf.eq_2 stOf.eq_3
attribute [simp] allI.eq_1 allI.eq_2
attribute [simp] aggOf.eq_1 aggOf.eq_2
attribute [simp] mkAgg.eq_1
attribute [simp] impI.eq_1 impI.eq_2
attribute [simp] ofCells.eq_1 ofCells.eq_2
attribute [simp] ofCellsI.eq_1 ofCellsI.eq_2
attribute [simp] dropE.eq_1 dropE.eq_2 dropE.eq_3
attribute [simp] takeE.eq_1 takeE.eq_2 takeE.eq_3
attribute [simp] cut.eq_1
attribute [simp] splice.eq_1 splice.eq_2 splice.eq_3 splice.eq_4 splice.eq_5
attribute [simp] elemD.eq_1
attribute [simp] frzSl.eq_1 frzSl.eq_2
attribute [simp] frz.eq_1 frz.eq_2 frz.eq_3 frz.eq_4 frz.eq_5 frz.eq_6
attribute [simp] frzP.eq_1 frzP.eq_2 frzP.eq_3
attribute [simp] frzL.eq_1 frzL.eq_2 frzL.eq_3
attribute [simp] fuelF.eq_1
attribute [simp] frzIds.eq_1 frzIds.eq_2
attribute [simp] frzVs.eq_1 frzVs.eq_2
attribute [simp] idsOf.eq_1 idsOf.eq_2 idsOf.eq_3 idsOf.eq_4 idsOf.eq_5 idsOf.eq_6 idsOf.eq_7 idsOf.eq_8 idsOf.eq_9
attribute [simp] idsOfL.eq_1 idsOfL.eq_2
attribute [simp] idsOfB.eq_1 idsOfB.eq_2 idsOfB.eq_3 idsOfB.eq_4 idsOfB.eq_5 idsOfB.eq_6 idsOfB.eq_7
attribute [simp] ren.eq_1 ren.eq_2 ren.eq_3 ren.eq_4 ren.eq_5 ren.eq_6 ren.eq_7 ren.eq_8 ren.eq_9
attribute [simp] renL.eq_1 renL.eq_2
attribute [simp] renB.eq_1 renB.eq_2 renB.eq_3 renB.eq_4 renB.eq_5 renB.eq_6 renB.eq_7
attribute [simp] posFrom.eq_1 posFrom.eq_2
attribute [simp] posOf.eq_1
attribute [simp] hasId.eq_1 hasId.eq_2
attribute [simp] reach.eq_1 reach.eq_2 reach.eq_3
attribute [simp] fuelR.eq_1
attribute [simp] idsOfBs.eq_1 idsOfBs.eq_2
attribute [simp] upto.eq_1 upto.eq_2
attribute [simp] keepIds.eq_1
attribute [simp] takeSt.eq_1 takeSt.eq_2
attribute [simp] ev.eq_1 ev.eq_2 ev.eq_3 ev.eq_4
attribute [simp] evL.eq_1 evL.eq_2
attribute [simp] evO.eq_1 evO.eq_2
attribute [simp] binI.eq_1 binI.eq_2 binI.eq_3 binI.eq_4 binI.eq_5 binI.eq_6 binI.eq_7 binI.eq_8 binI.eq_9 binI.eq_10 binI.eq_11 binI.eq_12 binI.eq_13 binI.eq_14 binI.eq_15
attribute [simp] shI.eq_1 shI.eq_2
attribute [simp] binS.eq_1 binS.eq_2 binS.eq_3 binS.eq_4 binS.eq_5 binS.eq_6 binS.eq_7
attribute [simp] binB.eq_1 binB.eq_2
attribute [simp] binV.eq_1 binV.eq_2
attribute [simp] binIK.eq_1 binIK.eq_2
attribute [simp] binA.eq_1 binA.eq_2 binA.eq_3 binA.eq_4 binA.eq_5 nilQ.eq_1 nilQ.eq_2 nilQ.eq_3 nilQ.eq_4 binP.eq_1 binP.eq_2
attribute [simp] unA.eq_1 unA.eq_2
attribute [simp] idxBelow.eq_1
attribute [simp] idxUpto.eq_1 idxUpto.eq_2
attribute [simp] elemsSl.eq_1 elemsSl.eq_2
attribute [simp] elemsOf.eq_1 elemsOf.eq_2 elemsOf.eq_3 elemsOf.eq_4
attribute [simp] appNil.eq_1 appNil.eq_2
attribute [simp] appOsl.eq_1
attribute [simp] appTo.eq_1 appTo.eq_2
attribute [simp] appA.eq_1
attribute [simp] copyOsl.eq_1
attribute [simp] copyTo.eq_1 copyTo.eq_2
attribute [simp] copyA.eq_1
attribute [simp] lenA.eq_1 lenA.eq_2 lenA.eq_3 lenA.eq_4 lenA.eq_5
attribute [simp] sliceA.eq_1 sliceA.eq_2 sliceA.eq_3 sliceA.eq_4
attribute [simp] fillA.eq_1 fillA.eq_2
attribute [simp] partsOf.eq_1 partsOf.eq_2
attribute [simp] placeD.eq_1 placeD.eq_2
attribute [simp] placeS.eq_1
attribute [simp] setElem.eq_1 setElem.eq_2 setElem.eq_3
attribute [simp] setElems.eq_1 setElems.eq_2
attribute [simp] frzParts.eq_1 frzParts.eq_2
attribute [simp] consZ.eq_1 consZ.eq_2
attribute [simp] zeroI.eq_1 zeroI.eq_2
attribute [simp] repl.eq_1 repl.eq_2
attribute [simp] loadB.eq_1 loadB.eq_2
attribute [simp] loadE.eq_1 loadE.eq_2
attribute [simp] loadAt.eq_1 loadAt.eq_2 loadAt.eq_3
attribute [simp] loadA.eq_1
attribute [simp] storeB.eq_1
attribute [simp] storeE.eq_1
attribute [simp] storeAt.eq_1 storeAt.eq_2
attribute [simp] storeA.eq_1
attribute [simp] argsVal.eq_1 argsVal.eq_2
attribute [simp] argsFor.eq_1 argsFor.eq_2
attribute [simp] putBack.eq_1 putBack.eq_2 putBack.eq_3
attribute [simp] backOf.eq_1 backOf.eq_2 backOf.eq_3
attribute [simp] callBack.eq_1
attribute [simp] callWith.eq_1
attribute [simp] callGo.eq_1
attribute [simp] notInt.eq_1 notInt.eq_2
attribute [simp] builtinA.eq_1 builtinA.eq_2 builtinA.eq_3 builtinA.eq_4 builtinA.eq_5
attribute [simp] convA.eq_1 convA.eq_2
attribute [simp] pickA.eq_1
attribute [simp] nilA.eq_1 nilA.eq_2 nilA.eq_3 nilA.eq_4 nilA.eq_5
attribute [simp] makeA.eq_1
attribute [simp] fieldAddrA.eq_1 fieldAddrA.eq_2 fieldAddrA.eq_3 fieldAddrA.eq_4
attribute [simp] fieldA.eq_1 fieldA.eq_2
attribute [simp] indexSl.eq_1 indexSl.eq_2 indexSl.eq_3
attribute [simp] indexAr.eq_1
attribute [simp] indexAddrA.eq_1 indexAddrA.eq_2
attribute [simp] indexA.eq_1 indexA.eq_2
attribute [simp] extractA.eq_1
attribute [simp] sliceLit.eq_1
attribute [simp] yieldA.eq_1 yieldA.eq_2
attribute [simp] wantD.eq_1 wantD.eq_2
attribute [simp] wantA.eq_1 wantA.eq_2
attribute [simp] partOps.eq_1 partOps.eq_2
attribute [simp] touchA.eq_1
attribute [simp] allIn.eq_1 allIn.eq_2
attribute [simp] oldOk.eq_1 oldOk.eq_2
attribute [simp] chkT.eq_1
attribute [simp] liveO.eq_1 liveO.eq_2
attribute [simp] liveAll.eq_1 liveAll.eq_2
attribute [simp] isStrD.eq_1
attribute [simp] bytesI.eq_1 bytesI.eq_2
attribute [simp] waitsA.eq_1
attribute [simp] noneOf.eq_1 noneOf.eq_2
attribute [simp] logOk.eq_1 logOk.eq_2
attribute [simp] addLog.eq_1 addLog.eq_2
attribute [simp] keepEnv.eq_1 keepEnv.eq_2
attribute [simp] envAt.eq_1 envAt.eq_2
attribute [simp] settleW.eq_1
attribute [simp] settle.eq_1
attribute [simp] asgK.eq_1 rangeOut.eq_1 rangeOut.eq_2 rangeEnd.eq_1 rangeEnd.eq_2 rangeW.eq_1 rangeGo.eq_1 bodyW.eq_1 stopA.eq_1 goesOn.eq_1 roundF.eq_1 roundE.eq_1 roundE.eq_2 roundB.eq_1 roundW.eq_1 envZ.eq_1 bindE.eq_1 setSt.eq_1 setSt.eq_2 setSt.eq_3
@[simp] theorem stopA_exit (k:Nat):stopA (.exit k)=.over (.exit k):=(rfl)
@[simp] theorem goesOn_exit (k:Nat):goesOn (.exit k)=false:=(rfl)
@[simp] theorem goesOn_ret:goesOn .ret=false:=(rfl)
@[simp] theorem stopA_ret:stopA .ret=.over .ret:=(rfl)
@[simp] theorem envZ_nil (vs:List AV):envZ [] vs=[]:=(rfl)
@[simp] theorem bindE_nil (vs:List AV) (E:List (Nat×AV)):bindE [] vs E=E:=(rfl)
attribute [simp] seqK.eq_1 seqK.eq_2 seqK.eq_3 seqK.eq_4
attribute [simp] blockK.eq_1 blockK.eq_2 blockK.eq_3 blockK.eq_4
attribute [simp] condK.eq_1
attribute [simp] doneK.eq_1 doneK.eq_2
attribute [simp] retOne.eq_1 retOne.eq_2
attribute [simp] retAll.eq_1 retAll.eq_2
attribute [simp] frzRes.eq_1 frzRes.eq_2
attribute [simp] resFor.eq_1 resFor.eq_2
attribute [simp] keepVs.eq_1 keepVs.eq_2
attribute [simp] outOf.eq_1
attribute [simp] finish.eq_1
attribute [simp] endK.eq_1 endK.eq_2 endK.eq_3 endK.eq_4
attribute [simp] argAt.eq_1 argAt.eq_2 argAt.eq_3
attribute [simp] enterE.eq_1 enterE.eq_2
attribute [simp] enter.eq_1
attribute [simp] storeAny.eq_1 storeAny.eq_2
attribute [simp] resAny.eq_1 resAny.eq_2
attribute [simp] bareC.eq_1 bareC.eq_2 bareC.eq_3 bareC.eq_4 bareC.eq_5
attribute [simp] bareL.eq_1 bareL.eq_2
attribute [simp] bareLL.eq_1 bareLL.eq_2
attribute [simp] litC.eq_1 litC.eq_2 litC.eq_3 litC.eq_4
attribute [simp] litsL.eq_1 litsL.eq_2
attribute [simp] absE.eq_1 absE.eq_2
attribute [simp] absC.eq_1 absC.eq_2 absC.eq_3
attribute [simp] absL.eq_1 absL.eq_2
attribute [simp] treArr.eq_1
attribute [simp] storeTE.eq_1 storeTE.eq_2
attribute [simp] storeT.eq_1 storeT.eq_2
@[simp] theorem resKeep_one (st:Store) (v:AV):resKeep st [v]=some ([v],st):=(rfl)
@[simp] theorem resKeep_nil (st:Store):resKeep st []=some ([],st):=(rfl)
@[simp] theorem resKeep_two (st:Store) (a b:AV) (r:List AV):resKeep st (a::b::r)=keepVs st (a::b::r):=(rfl)
@[simp] theorem keepV_agg (st:Store) (cs:List AV):keepV st (.agg cs)=bnd (frzV st (.agg cs)) fun p=>some (.i p.1,p.2):=(rfl)
@[simp] theorem keepV_nils (st:Store) :keepV st .nils=some (.nils,st):=(rfl)
@[simp] theorem keepV_own (st:Store) (i o:Nat):keepV st (.own i o)=some ((.own i o),st):=(rfl)
@[simp] theorem keepV_ownE (st:Store) (i k j o:Nat):keepV st (.ownE i k j o)=some ((.ownE i k j o),st):=(rfl)
@[simp] theorem keepV_osl (st:Store) (i k o l:Nat):keepV st (.osl i k o l)=some ((.osl i k o l),st):=(rfl)
@[simp] theorem keepV_fn (st:Store) (f:Fn) (cs:List AV):keepV st (.fn f cs)=some ((.fn f cs),st):=(rfl)
@[simp] theorem keepV_i (st:Store) (v:IV):keepV st (.i v)=some ((.i v),st):=(rfl)
@[simp] theorem keepV_tup (st:Store) (cs:List AV):keepV st (.tup cs)=some ((.tup cs),st):=(rfl)
@[simp] theorem keepV_junk (st:Store) :keepV st .junk=some (.junk,st):=(rfl)
@[simp] theorem waitsN_3 (all:List Oper) (after:List Edge) (j:Nat):waitsN all 3 after j=if waitsA after j=true then true else after.any fun e=>Region.binds .any e && waitsN all 2 (aftersOf all e.on) j:=(rfl)
@[simp] theorem waitsN_2 (all:List Oper) (after:List Edge) (j:Nat):waitsN all 2 after j=if waitsA after j=true then true else after.any fun e=>Region.binds .any e && waitsN all 1 (aftersOf all e.on) j:=(rfl)
@[simp] theorem waitsN_1 (all:List Oper) (after:List Edge) (j:Nat):waitsN all 1 after j=if waitsA after j=true then true else after.any fun e=>Region.binds .any e && waitsN all 0 (aftersOf all e.on) j:=(rfl)
@[simp] theorem waitsN_0 (all:List Oper) (after:List Edge) (j:Nat):waitsN all 0 after j=waitsA after j:=(rfl)
attribute [simp] aftersOf.eq_1
attribute [simp] undef
attribute [simp] wide
end Go.Av
namespace Go.Proofs.YtiailccmofdhfaaGreat
open Go Go.Av
def GS:FuncId→List Nat
 | 3=>[0,2,3,4,5,6,7,8,9,12,29,48]
 | 4=>[0,2,3,4,5,6,7,8,9,10,11,12,15,45,67,110]
 | 5=>[0,2,3,4,5,6,7,8,9,10,11,12,13,14,15,18,48]
 | 6=>[0,2,3,4,5,6,7,8,9,10,11,12,15,45,58]
 | 7=>[0,2,3,4,5,6,7,8,9,10,11,14,44,56,76]
 | 8=>[0,2,3,4,5,6,7,8,9,10,11,12,13,14,17,52]
 | 9=>[0,2,3,4,5,6,7,8,9,10,11,12,15,45]
 | 10=>[0,2,3,4,5,6,7,8,9,10,11,14,49]
 | 11=>[0,2,3,4,5,6,7,8,9,10,11,12,13,16,46]
 | 12=>[0,1,4,5,6,7,8,9,10,11,12,13,14,15,16,17,18,19,20,28,58]
 | 13=>[0,2,3,4,5,6,7,8,11,41]
 | 14=>[0,2,3,4,5,6,7,8,9,10,11,12,13,14,17,51,83,87,128]
 | 15=>[0,1,4,5,6,7,8,9,10,11,12,13,14,15,16,17,18,19,20,21,29,59,111]
 | 16=>[0,2,3,4,5,6,7,8,9,10,11,12,13,14,15,16,17,18,21,56,79]
 | 17=>[0,2,3,4,5,6,7,8,9,10,13,48]
 | 18=>[0,2,3,4,5,6,7,8,9,10,11,14,44,57]
 | 19=>[0,2,3,4,5,6,7,8,9,10,11,12,13,16,46,65,71]
 | 20=>[0,2,3,4,5,6,7,8,9,10,11,13,14,15,18,48,61]
 | 21=>[0,2,3,4,5,6,7,8,9,10,11,12,13,14,15,16,19,67]
 | 22=>[0,2,3,4,5,6,7,8,9,10,11,12,13,14,15,16,19,62,89]
 | 23=>[0,2,3,4,5,6,7,8,9,10,11,12,13,14,15,16,17,20,50,63,73,83,118,123,129,147]
 | 24=>[0,2,3]
 | 25=>[0,1,2,4,6,7,15]
 | 26=>[0,1,2,4,9]
 | 27=>[0,1,2,4,5,6,8]
 | 28=>[0,2,3]
 | 29=>[0,1,2,4,5,10]
 | 30=>[0,1,2,3,4]
 | 31=>[0,1,2,3,4]
 | 32=>[0,1,2,3,6]
 | 33=>[0,1,2,4,5,6]
 | 34=>[0,1,2,3,4,14,16,17,18,19,32,45]
 | 35=>[0,1,2,4,7]
 | 36=>[0,2,3,4,9]
 | 37=>[0,2,3,4,5,7,8,9]
 | 38=>[0,1,2,4,6,7,8,9,10,11,12,30,35,36,37,43]
 | 39=>[0,1,2,4,6,7,8,9,10,11,12,31,39,47,52,57]
 | 40=>[0,1,2]
 | 41=>[0,1,2,3,4,5,20]
 | 42=>[0,1,4,5,7,15,17,18,19,20,31]
 | 43=>[0,1,2,3,4,5,9]
 | 44=>[0,1,2,3,6,8,19,20,21,22,23,31]
 | 45=>[0,1,2,3,6,7,18,22,30]
 | 46=>[0,1,2,4,5,6,10,12,13,14,17]
 | 47=>[0,1,4,5,9,17]
 | 48=>[0,1,4,5,10,14,25]
 | 49=>[0,1,2,4,8]
 | 50=>[0,1,2,3,6,17]
 | 51=>[0,1,2,3,6]
 | 52=>[0,2,3,4,5,6,7,8,9,10]
 | 53=>[0,1,2,3,4,5,7,8,9,10,25,31,38]
 | 54=>[0,1,2,3,4,5,7,8,9,10,11,22]
 | 55=>[0,1,2,3,6,7,8,19,20,21,22,23,33]
 | 56=>[0,2,3,4,5,6,17]
 | 57=>[0,2,5]
 | 58=>[0,1,4,5,6,7,8,9,10,25]
 | 59=>[0,1,2,4,7]
 | 60=>[0,2,3,4,9,17]
 | 61=>[0,1,2,4,5,6,16]
 | 62=>[0,1,2,4,5,8,29,30,38,44,62,72]
 | 63=>[0,1,4,5,10,14,26]
 | 64=>[0,1,2,4,5,6,7,8,11]
 | 65=>[0,1,2]
 | 66=>[0,2]
 | 67=>[0,2,4,8,9,10,11,12,17]
 | 68=>[0,1,4]
 | 69=>[0,2,4,12,13,14,15,16,21]
 | 70=>[0,1,2,6,7,8,9,10,31,60,87,92,106,118,119,120,137]
 | 71=>[0,2,3,4,5,6,7,8,9,10,43,56]
 | 72=>[0,1,4,5,6,11]
 | 73=>[0,2,3,4,6,14,15,16,17,18,23]
 | 74=>[0,1,2,3,6,7]
 | 75=>[0,1,3,4,5]
 | 76=>[0,1,2,6]
 | 77=>[0,1,3,4,5,8,17]
 | 78=>[0,1,4,5,6,11,16]
 | 79=>[0,1,2]
 | 80=>[0,2,3,5,6,8,9,10,11,12,20,25,26,27,28]
 | 81=>[0,1,2,3,4]
 | 82=>[0,1,2,3,4,6,8,9,11,12,13,14,31,49,56]
 | 83=>[1,2,5]
 | 84=>[0,1,4,5,10,28,29,40,52,63,70]
 | 85=>[0,1,2,4,5,8,21,22,32,43,53,58]
 | 86=>[0,1,2,6,7,8,9,13,14,23,26,32,33,34,45,51,56,57,58,68]
 | 87=>[0,1,2,3,6,7,9,10,17,19,22,46,57]
 | 88=>[0,1,4,5,6,19,24,25,26]
 | 89=>[0,2,3,4,9,10,11]
 | 90=>[0,1,4,5,6,7,8,9,16,39,40,41,57,58,59]
 | 91=>[0,1,2,4,5,18]
 | 92=>[0,2,3,4,5,6,7,14,38,39,40,76,77,78]
 | 93=>[0,1,2,3,5,6,9]
 | 94=>[0,1,4,5,6,38,62,67,68,69,84,90,91,92,107]
 | 95=>[0,1,4,5,6,7,8,9,10,11,13,18,37,38,43,57,58,59,76,87,96,97,98,104,112,113,114,115,131,136,137,138,139]
 | 96=>[0,2,3,4,10]
 | 97=>[0,1,4,5,10,11,17,23,33]
 | 98=>[0,1,4,5,6,24,36]
 | 99=>[0,1,2,6,7,13,14,20,25,36,41]
 | 100=>[0,1,2,6,7,8,9,10,11,16,17,18,38,39,58,64,75,89,100,106]
 | 101=>[0,2,3,7,15]
 | 102=>[0,1,2,3,6,7,8,9,23,28,41,47,48,55,61,70,74,82,106,114,122,126,131,144]
 | 103=>[0,1,2,3,8,47]
 | 104=>[0,1,2,3,4,5,6,12,21]
 | 105=>[0,1,2,4,5,6,7,8,14,21]
 | 106=>[0,1,2,3,4,5,6,8,9,10,11,12,13,19,26,42,51]
 | 107=>[0,1,2,3,4]
 | 108=>[0,1,2,3,4,12,31]
 | 109=>[0,1,2,4,5,6,7,8,9,10,11,18,40,46,66]
 | 110=>[0,1,4,5,10,14,25]
 | 111=>[0,2,3,6]
 | 112=>[0,1,4]
 | 113=>[0,1,3,4,5,6,7,8,23,27]
 | 114=>[0,1,2,4]
 | 115=>[0,1,2,6,7,8,9,10,11,12,13,14,21,31,38]
 | 116=>[0,1,2,3,4,5,12,15]
 | 117=>[0,2,3,4,5,7,10,13,15]
 | 118=>[0,1,2,6,7,8,13,14,21,22,26,27,35,46,47,48,59,65]
 | 119=>[0,1,4,5,6,7,8,9,10,11,12,31,44,45,54,62,77,88,110,122,128,146,151,154]
 | 120=>[0,1,4,5,6,18]
 | 121=>[0,1,2,3,4]
 | 122=>[0,1,4]
 | 123=>[0,1,2,3,4,5,19,37]
 | 124=>[0,1,4]
 | 125=>[0,1,2,6,7,8,15]
 | 126=>[0,1,4,12,13,14]
 | 127=>[0,1,2]
 | 128=>[0,1,4,5,6,18,32]
 | 129=>[0,1,4,5,6,7,8,13,24]
 | 130=>[0,1,4,5,6,7,8,14]
 | 131=>[0,1,4,6,16]
 | 132=>[0,2,3,4,9,19,20,21]
 | 133=>[0,1,4,5,6,7,10,16,38]
 | 134=>[0,2,3,6]
 | 135=>[0,2,3,6]
 | 136=>[0,2,3,4,5,6,13,37,38,39]
 | 137=>[0,2,3,6]
 | 138=>[0,1,4,5,10,12,13,14,24]
 | 139=>[0,1,4,5,49,54,55,56,71]
 | 140=>[0,2,3,6]
 | 141=>[0,1,4,5,6,7,12,13,14,20]
 | 142=>[0,2,3,4,9,10,11,19]
 | 143=>[0,1,4,5,6,10,11,20,37,38,50,54,59]
 | 144=>[0,1,4,5,10,11,17,24]
 | 145=>[0,2]
 | 146=>[0,1,4,5,10,11,14,18]
 | 147=>[0,1,2,3,4]
 | 148=>[0,1,2,3,4]
 | 149=>[0,1,2,3,4,5,6]
 | 150=>[0,1,2,3,4]
 | 151=>[0,1,2,3,4,6,7,9,12,14,16]
 | 152=>[0,1,2,4]
 | 153=>[0,1,4,5,9,18,21]
 | 154=>[0,1,4,5,9,35]
 | 155=>[0,2,3,7,15]
 | 156=>[0,1,4,5,6,16,29]
 | 157=>[0,1,2,4]
 | 158=>[0,1,2,4,6,7,14,18,29]
 | 159=>[0,1,4]
 | 160=>[0,2,3,4,8]
 | 161=>[0,1,4,5,6,11]
 | 162=>[0,1,2,3,4,10,11,12,13,14,15,16,17,18,19,20,25,32,39,56,75,80,97,125]
 | 164=>[0,1,4,5,6,11,12,13,16,19]
 | 165=>[0,1,4,5,7,10,11,12,13,14,24]
 | 166=>[0,1,2,4]
 | 167=>[0,1,2,6,7,8,9,10,18,21,37]
 | 168=>[0,1,2,6,7,8,9,20,32,33,34,39,46,59,66]
 | 169=>[0,1,2,3,4,16]
 | 170=>[0,1,4,5,6,10]
 | 171=>[0,1,2,3,6]
 | 172=>[0,1,2,6,7,9,11,17,19,20,21,22,26,27,28,29,46,54,66]
 | 173=>[0,2,3,7,8,11]
 | 174=>[0,1,2,5,7,8,9,10,27]
 | 175=>[0,1,2,3,6]
 | 176=>[0,1,4,5,9,10,19,35,36,42]
 | 177=>[0,1,2,4,6,7,15,16,17,18,25,26,27,44]
 | 178=>[0,1,2,3,5,7,8,10,11,19,20,21,22,29,30,31,32,49,53,62,68,78]
 | 179=>[0]
 | 180=>[0,1,2,5,11,12,13,14,32]
 | 181=>[0,1,2,3,4,5,6,7,8,9,10,18,19,20,21,37]
 | 182=>[0,1,4,5,7,8,9,10,11]
 | 183=>[0,2]
 | 184=>[0,1,2,3,6,7,24,29,41,43,44,57]
 | 185=>[0,1,2]
 | 186=>[0,1,2,3,4,5,9]
 | 187=>[0,1,2,3,6]
 | 188=>[0,2,4]
 | 189=>[0,2,4]
 | 190=>[0,2,3]
 | 191=>[0,1,2,4,5,6,7,8,16,32,34,35,43,51,59]
 | 192=>[0,1,2,3,8,9,14,34]
 | 193=>[0,1,2,3,8,9,10,11,12,21,33]
 | 194=>[0,1,2,8,9,10,11,12,17,35,45]
 | 195=>[0,1,2,3,8,9,10,11,12,13,14,34,36,55,57,60]
 | 196=>[0,1,2,8,9,15]
 | 197=>[0,1,2,3,8,9,10,11,12,16,36,41,45,65,69,84,104,109,124]
 | 198=>[0,1,2,3,4,10,11,12,47,65,70]
 | 199=>[0,1,2,3,4,10,11,12,13,47,66,71,120,139,144]
 | 202=>[0,2]
 | 203=>[0,1,2,6,7,8,28,62,90,95,96,97,109]
 | 204=>[0,1,2]
 | 205=>[0,2,5]
 | 206=>[0,2,3,4,7,10]
 | 207=>[0,2,3,5,9,10,11,12,19]
 | 208=>[0,1,2,4,5,6,7,16,25,33,34,42,50,58]
 | 209=>[0,2,4]
 | 210=>[0,2,3]
 | 211=>[0,2,3,6]
 | 212=>[0,1,2,5]
 | 213=>[0,1]
 | 214=>[0,1,4,5,12]
 | 215=>[0,2,5]
 | 216=>[0,1,2,3,4,10,11,18,40,58]
 | 217=>[0,2]
 | 219=>[0,1,2,3,8]
 | 220=>[0,1,2,3,4,5,12]
 | 221=>[0,2,3,4,7,10]
 | 222=>[0,2,3,7]
 | 223=>[0,1,2,6,7,8,9,13,30,35,54]
 | 224=>[0,1,2,3,4,10,11,22]
 | 225=>[0,1,2,3,4,10,11,12,13,14,15,16,17,18,19,20,21,22,23,24,28,33,50,58,80,85,103,110,140,151,171,185,199,213]
 | 226=>[0,1,2,3,4,10,11,20,23]
 | 227=>[0,1,2,3,10,13]
 | _=>[]
def ownA:FuncId→Bool
 | 56=>true
 | 64=>true
 | 71=>true
 | 72=>true
 | 83=>true
 | 90=>true
 | 91=>true
 | 93=>true
 | 96=>true
 | 97=>true
 | 98=>true
 | 99=>true
 | 100=>true
 | 111=>true
 | 112=>true
 | 113=>true
 | 119=>true
 | 120=>true
 | 122=>true
 | 124=>true
 | 125=>true
 | 126=>true
 | 127=>true
 | 130=>true
 | 136=>true
 | 144=>true
 | 146=>true
 | 167=>true
 | 168=>true
 | 170=>true
 | 173=>true
 | 174=>true
 | 177=>true
 | 178=>true
 | 180=>true
 | 192=>true
 | 205=>true
 | 212=>true
 | 213=>true
 | 223=>true
 | 225=>true
 | 226=>true
 | 227=>true
 | _=>false
def keepR:FuncId→Bool
 | 57=>true
 | 170=>true
 | 146=>true
 | 125=>true
 | 99=>true
 | 96=>true
 | 72=>true
 | 97=>true
 | 144=>true
 | 134=>true
 | 137=>true
 | 135=>true
 | 123=>true
 | 147=>true
 | 148=>true
 | 149=>true
 | 150=>true
 | 65=>true
 | 79=>true
 | 131=>true
 | 182=>true
 | 211=>true
 | 129=>true
 | 145=>true
 | 95=>true
 | 141=>true
 | 140=>true
 | 142=>true
 | _=>false
def eqTy:TypeId→Bool
 | 39=>true
 | 40=>true
 | _=>false
@[simp] theorem kR23:keepR 23=false:=(rfl)
@[simp] theorem gS23:GS 23=[0,2,3,4,5,6,7,8,9,10,11,12,13,14,15,16,17,20,50,63,73,83,118,123,129,147]:=(rfl)
@[simp] theorem oA27:ownA 27=false:=(rfl)
@[simp] theorem kR27:keepR 27=false:=(rfl)
@[simp] theorem gS27:GS 27=[0,1,2,4,5,6,8]:=(rfl)
@[simp] theorem oA28:ownA 28=false:=(rfl)
@[simp] theorem kR28:keepR 28=false:=(rfl)
@[simp] theorem gS28:GS 28=[0,2,3]:=(rfl)
@[simp] theorem oA29:ownA 29=false:=(rfl)
@[simp] theorem kR29:keepR 29=false:=(rfl)
@[simp] theorem gS29:GS 29=[0,1,2,4,5,10]:=(rfl)
@[simp] theorem oA30:ownA 30=false:=(rfl)
@[simp] theorem kR30:keepR 30=false:=(rfl)
@[simp] theorem gS30:GS 30=[0,1,2,3,4]:=(rfl)
@[simp] theorem oA34:ownA 34=false:=(rfl)
@[simp] theorem kR34:keepR 34=false:=(rfl)
@[simp] theorem gS34:GS 34=[0,1,2,3,4,14,16,17,18,19,32,45]:=(rfl)
@[simp] theorem oA35:ownA 35=false:=(rfl)
@[simp] theorem kR35:keepR 35=false:=(rfl)
@[simp] theorem gS35:GS 35=[0,1,2,4,7]:=(rfl)
@[simp] theorem oA36:ownA 36=false:=(rfl)
@[simp] theorem kR36:keepR 36=false:=(rfl)
@[simp] theorem gS36:GS 36=[0,2,3,4,9]:=(rfl)
@[simp] theorem oA55:ownA 55=false:=(rfl)
@[simp] theorem kR55:keepR 55=false:=(rfl)
@[simp] theorem gS55:GS 55=[0,1,2,3,6,7,8,19,20,21,22,23,33]:=(rfl)
@[simp] theorem oA56:ownA 56=true:=(rfl)
@[simp] theorem kR56:keepR 56=false:=(rfl)
@[simp] theorem gS56:GS 56=[0,2,3,4,5,6,17]:=(rfl)
@[simp] theorem oA57:ownA 57=false:=(rfl)
@[simp] theorem kR57:keepR 57=true:=(rfl)
@[simp] theorem gS57:GS 57=[0,2,5]:=(rfl)
@[simp] theorem oA58:ownA 58=false:=(rfl)
@[simp] theorem kR58:keepR 58=false:=(rfl)
@[simp] theorem gS58:GS 58=[0,1,4,5,6,7,8,9,10,25]:=(rfl)
@[simp] theorem oA59:ownA 59=false:=(rfl)
@[simp] theorem kR59:keepR 59=false:=(rfl)
@[simp] theorem gS59:GS 59=[0,1,2,4,7]:=(rfl)
@[simp] theorem oA60:ownA 60=false:=(rfl)
@[simp] theorem kR60:keepR 60=false:=(rfl)
@[simp] theorem gS60:GS 60=[0,2,3,4,9,17]:=(rfl)
@[simp] theorem oA62:ownA 62=false:=(rfl)
@[simp] theorem kR62:keepR 62=false:=(rfl)
@[simp] theorem gS62:GS 62=[0,1,2,4,5,8,29,30,38,44,62,72]:=(rfl)
@[simp] theorem oA63:ownA 63=false:=(rfl)
@[simp] theorem kR63:keepR 63=false:=(rfl)
@[simp] theorem gS63:GS 63=[0,1,4,5,10,14,26]:=(rfl)
@[simp] theorem oA64:ownA 64=true:=(rfl)
@[simp] theorem kR64:keepR 64=false:=(rfl)
@[simp] theorem gS64:GS 64=[0,1,2,4,5,6,7,8,11]:=(rfl)
@[simp] theorem oA65:ownA 65=false:=(rfl)
@[simp] theorem kR65:keepR 65=true:=(rfl)
@[simp] theorem gS65:GS 65=[0,1,2]:=(rfl)
@[simp] theorem oA66:ownA 66=false:=(rfl)
@[simp] theorem kR66:keepR 66=false:=(rfl)
@[simp] theorem gS66:GS 66=[0,2]:=(rfl)
@[simp] theorem oA67:ownA 67=false:=(rfl)
@[simp] theorem kR67:keepR 67=false:=(rfl)
@[simp] theorem gS67:GS 67=[0,2,4,8,9,10,11,12,17]:=(rfl)
@[simp] theorem oA68:ownA 68=false:=(rfl)
@[simp] theorem kR68:keepR 68=false:=(rfl)
@[simp] theorem gS68:GS 68=[0,1,4]:=(rfl)
@[simp] theorem oA69:ownA 69=false:=(rfl)
@[simp] theorem kR69:keepR 69=false:=(rfl)
@[simp] theorem gS69:GS 69=[0,2,4,12,13,14,15,16,21]:=(rfl)
@[simp] theorem oA70:ownA 70=false:=(rfl)
@[simp] theorem kR70:keepR 70=false:=(rfl)
@[simp] theorem gS70:GS 70=[0,1,2,6,7,8,9,10,31,60,87,92,106,118,119,120,137]:=(rfl)
@[simp] theorem oA72:ownA 72=true:=(rfl)
@[simp] theorem kR72:keepR 72=true:=(rfl)
@[simp] theorem gS72:GS 72=[0,1,4,5,6,11]:=(rfl)
@[simp] theorem oA73:ownA 73=false:=(rfl)
@[simp] theorem kR73:keepR 73=false:=(rfl)
@[simp] theorem gS73:GS 73=[0,2,3,4,6,14,15,16,17,18,23]:=(rfl)
@[simp] theorem oA76:ownA 76=false:=(rfl)
@[simp] theorem kR76:keepR 76=false:=(rfl)
@[simp] theorem gS76:GS 76=[0,1,2,6]:=(rfl)
@[simp] theorem oA78:ownA 78=false:=(rfl)
@[simp] theorem kR78:keepR 78=false:=(rfl)
@[simp] theorem gS78:GS 78=[0,1,4,5,6,11,16]:=(rfl)
@[simp] theorem oA79:ownA 79=false:=(rfl)
@[simp] theorem kR79:keepR 79=true:=(rfl)
@[simp] theorem gS79:GS 79=[0,1,2]:=(rfl)
@[simp] theorem oA80:ownA 80=false:=(rfl)
@[simp] theorem kR80:keepR 80=false:=(rfl)
@[simp] theorem gS80:GS 80=[0,2,3,5,6,8,9,10,11,12,20,25,26,27,28]:=(rfl)
@[simp] theorem gS92:GS 92=[0,2,3,4,5,6,7,14,38,39,40,76,77,78]:=(rfl)
@[simp] theorem oA95:ownA 95=false:=(rfl)
@[simp] theorem kR95:keepR 95=true:=(rfl)
@[simp] theorem gS95:GS 95=[0,1,4,5,6,7,8,9,10,11,13,18,37,38,43,57,58,59,76,87,96,97,98,104,112,113,114,115,131,136,137,138,139]:=(rfl)
@[simp] theorem oA96:ownA 96=true:=(rfl)
@[simp] theorem kR96:keepR 96=true:=(rfl)
@[simp] theorem gS96:GS 96=[0,2,3,4,10]:=(rfl)
@[simp] theorem oA97:ownA 97=true:=(rfl)
@[simp] theorem kR97:keepR 97=true:=(rfl)
@[simp] theorem gS97:GS 97=[0,1,4,5,10,11,17,23,33]:=(rfl)
@[simp] theorem oA98:ownA 98=true:=(rfl)
@[simp] theorem kR98:keepR 98=false:=(rfl)
@[simp] theorem gS98:GS 98=[0,1,4,5,6,24,36]:=(rfl)
@[simp] theorem oA99:ownA 99=true:=(rfl)
@[simp] theorem kR99:keepR 99=true:=(rfl)
@[simp] theorem gS99:GS 99=[0,1,2,6,7,13,14,20,25,36,41]:=(rfl)
@[simp] theorem oA100:ownA 100=true:=(rfl)
@[simp] theorem kR100:keepR 100=false:=(rfl)
@[simp] theorem gS100:GS 100=[0,1,2,6,7,8,9,10,11,16,17,18,38,39,58,64,75,89,100,106]:=(rfl)
@[simp] theorem oA101:ownA 101=false:=(rfl)
@[simp] theorem kR101:keepR 101=false:=(rfl)
@[simp] theorem gS101:GS 101=[0,2,3,7,15]:=(rfl)
@[simp] theorem oA102:ownA 102=false:=(rfl)
@[simp] theorem kR102:keepR 102=false:=(rfl)
@[simp] theorem gS102:GS 102=[0,1,2,3,6,7,8,9,23,28,41,47,48,55,61,70,74,82,106,114,122,126,131,144]:=(rfl)
@[simp] theorem oA103:ownA 103=false:=(rfl)
@[simp] theorem kR103:keepR 103=false:=(rfl)
@[simp] theorem gS103:GS 103=[0,1,2,3,8,47]:=(rfl)
@[simp] theorem oA104:ownA 104=false:=(rfl)
@[simp] theorem kR104:keepR 104=false:=(rfl)
@[simp] theorem gS104:GS 104=[0,1,2,3,4,5,6,12,21]:=(rfl)
@[simp] theorem oA105:ownA 105=false:=(rfl)
@[simp] theorem kR105:keepR 105=false:=(rfl)
@[simp] theorem gS105:GS 105=[0,1,2,4,5,6,7,8,14,21]:=(rfl)
@[simp] theorem oA106:ownA 106=false:=(rfl)
@[simp] theorem kR106:keepR 106=false:=(rfl)
@[simp] theorem gS106:GS 106=[0,1,2,3,4,5,6,8,9,10,11,12,13,19,26,42,51]:=(rfl)
@[simp] theorem oA107:ownA 107=false:=(rfl)
@[simp] theorem kR107:keepR 107=false:=(rfl)
@[simp] theorem gS107:GS 107=[0,1,2,3,4]:=(rfl)
@[simp] theorem oA108:ownA 108=false:=(rfl)
@[simp] theorem kR108:keepR 108=false:=(rfl)
@[simp] theorem gS108:GS 108=[0,1,2,3,4,12,31]:=(rfl)
@[simp] theorem oA109:ownA 109=false:=(rfl)
@[simp] theorem kR109:keepR 109=false:=(rfl)
@[simp] theorem gS109:GS 109=[0,1,2,4,5,6,7,8,9,10,11,18,40,46,66]:=(rfl)
@[simp] theorem oA110:ownA 110=false:=(rfl)
@[simp] theorem kR110:keepR 110=false:=(rfl)
@[simp] theorem gS110:GS 110=[0,1,4,5,10,14,25]:=(rfl)
@[simp] theorem oA111:ownA 111=true:=(rfl)
@[simp] theorem kR111:keepR 111=false:=(rfl)
@[simp] theorem gS111:GS 111=[0,2,3,6]:=(rfl)
@[simp] theorem oA112:ownA 112=true:=(rfl)
@[simp] theorem kR113:keepR 113=false:=(rfl)
@[simp] theorem gS113:GS 113=[0,1,3,4,5,6,7,8,23,27]:=(rfl)
@[simp] theorem oA114:ownA 114=false:=(rfl)
@[simp] theorem kR114:keepR 114=false:=(rfl)
@[simp] theorem gS114:GS 114=[0,1,2,4]:=(rfl)
@[simp] theorem oA115:ownA 115=false:=(rfl)
@[simp] theorem kR115:keepR 115=false:=(rfl)
@[simp] theorem gS115:GS 115=[0,1,2,6,7,8,9,10,11,12,13,14,21,31,38]:=(rfl)
@[simp] theorem oA116:ownA 116=false:=(rfl)
@[simp] theorem kR116:keepR 116=false:=(rfl)
@[simp] theorem gS116:GS 116=[0,1,2,3,4,5,12,15]:=(rfl)
@[simp] theorem oA117:ownA 117=false:=(rfl)
@[simp] theorem kR117:keepR 117=false:=(rfl)
@[simp] theorem gS117:GS 117=[0,2,3,4,5,7,10,13,15]:=(rfl)
@[simp] theorem oA118:ownA 118=false:=(rfl)
@[simp] theorem kR118:keepR 118=false:=(rfl)
@[simp] theorem gS118:GS 118=[0,1,2,6,7,8,13,14,21,22,26,27,35,46,47,48,59,65]:=(rfl)
@[simp] theorem oA119:ownA 119=true:=(rfl)
@[simp] theorem kR119:keepR 119=false:=(rfl)
@[simp] theorem gS119:GS 119=[0,1,4,5,6,7,8,9,10,11,12,31,44,45,54,62,77,88,110,122,128,146,151,154]:=(rfl)
@[simp] theorem oA120:ownA 120=true:=(rfl)
@[simp] theorem kR120:keepR 120=false:=(rfl)
@[simp] theorem gS120:GS 120=[0,1,4,5,6,18]:=(rfl)
@[simp] theorem oA121:ownA 121=false:=(rfl)
@[simp] theorem kR121:keepR 121=false:=(rfl)
@[simp] theorem gS121:GS 121=[0,1,2,3,4]:=(rfl)
@[simp] theorem oA122:ownA 122=true:=(rfl)
@[simp] theorem kR122:keepR 122=false:=(rfl)
@[simp] theorem gS122:GS 122=[0,1,4]:=(rfl)
@[simp] theorem oA123:ownA 123=false:=(rfl)
@[simp] theorem kR123:keepR 123=true:=(rfl)
@[simp] theorem gS123:GS 123=[0,1,2,3,4,5,19,37]:=(rfl)
@[simp] theorem oA124:ownA 124=true:=(rfl)
@[simp] theorem kR124:keepR 124=false:=(rfl)
@[simp] theorem gS124:GS 124=[0,1,4]:=(rfl)
@[simp] theorem oA125:ownA 125=true:=(rfl)
@[simp] theorem kR125:keepR 125=true:=(rfl)
@[simp] theorem gS125:GS 125=[0,1,2,6,7,8,15]:=(rfl)
@[simp] theorem oA129:ownA 129=false:=(rfl)
@[simp] theorem kR129:keepR 129=true:=(rfl)
@[simp] theorem gS129:GS 129=[0,1,4,5,6,7,8,13,24]:=(rfl)
@[simp] theorem kR130:keepR 130=false:=(rfl)
@[simp] theorem gS130:GS 130=[0,1,4,5,6,7,8,14]:=(rfl)
@[simp] theorem oA134:ownA 134=false:=(rfl)
@[simp] theorem kR134:keepR 134=true:=(rfl)
@[simp] theorem gS134:GS 134=[0,2,3,6]:=(rfl)
@[simp] theorem oA135:ownA 135=false:=(rfl)
@[simp] theorem kR135:keepR 135=true:=(rfl)
@[simp] theorem gS135:GS 135=[0,2,3,6]:=(rfl)
@[simp] theorem oA136:ownA 136=true:=(rfl)
@[simp] theorem gS136:GS 136=[0,2,3,4,5,6,13,37,38,39]:=(rfl)
@[simp] theorem oA137:ownA 137=false:=(rfl)
@[simp] theorem kR137:keepR 137=true:=(rfl)
@[simp] theorem gS137:GS 137=[0,2,3,6]:=(rfl)
@[simp] theorem oA140:ownA 140=false:=(rfl)
@[simp] theorem kR140:keepR 140=true:=(rfl)
@[simp] theorem gS140:GS 140=[0,2,3,6]:=(rfl)
@[simp] theorem oA141:ownA 141=false:=(rfl)
@[simp] theorem kR141:keepR 141=true:=(rfl)
@[simp] theorem gS141:GS 141=[0,1,4,5,6,7,12,13,14,20]:=(rfl)
@[simp] theorem oA142:ownA 142=false:=(rfl)
@[simp] theorem kR142:keepR 142=true:=(rfl)
@[simp] theorem gS142:GS 142=[0,2,3,4,9,10,11,19]:=(rfl)
@[simp] theorem oA143:ownA 143=false:=(rfl)
@[simp] theorem kR143:keepR 143=false:=(rfl)
@[simp] theorem gS143:GS 143=[0,1,4,5,6,10,11,20,37,38,50,54,59]:=(rfl)
@[simp] theorem oA144:ownA 144=true:=(rfl)
@[simp] theorem kR144:keepR 144=true:=(rfl)
@[simp] theorem gS144:GS 144=[0,1,4,5,10,11,17,24]:=(rfl)
@[simp] theorem oA145:ownA 145=false:=(rfl)
@[simp] theorem kR145:keepR 145=true:=(rfl)
@[simp] theorem gS145:GS 145=[0,2]:=(rfl)
@[simp] theorem oA146:ownA 146=true:=(rfl)
@[simp] theorem kR146:keepR 146=true:=(rfl)
@[simp] theorem gS146:GS 146=[0,1,4,5,10,11,14,18]:=(rfl)
@[simp] theorem oA147:ownA 147=false:=(rfl)
@[simp] theorem kR147:keepR 147=true:=(rfl)
@[simp] theorem gS147:GS 147=[0,1,2,3,4]:=(rfl)
@[simp] theorem oA148:ownA 148=false:=(rfl)
@[simp] theorem kR148:keepR 148=true:=(rfl)
@[simp] theorem gS148:GS 148=[0,1,2,3,4]:=(rfl)
@[simp] theorem oA149:ownA 149=false:=(rfl)
@[simp] theorem kR149:keepR 149=true:=(rfl)
@[simp] theorem gS149:GS 149=[0,1,2,3,4,5,6]:=(rfl)
@[simp] theorem oA150:ownA 150=false:=(rfl)
@[simp] theorem kR150:keepR 150=true:=(rfl)
@[simp] theorem gS150:GS 150=[0,1,2,3,4]:=(rfl)
@[simp] theorem oA151:ownA 151=false:=(rfl)
@[simp] theorem kR151:keepR 151=false:=(rfl)
@[simp] theorem gS151:GS 151=[0,1,2,3,4,6,7,9,12,14,16]:=(rfl)
@[simp] theorem oA152:ownA 152=false:=(rfl)
@[simp] theorem kR152:keepR 152=false:=(rfl)
@[simp] theorem gS152:GS 152=[0,1,2,4]:=(rfl)
@[simp] theorem oA153:ownA 153=false:=(rfl)
@[simp] theorem kR153:keepR 153=false:=(rfl)
@[simp] theorem gS153:GS 153=[0,1,4,5,9,18,21]:=(rfl)
@[simp] theorem oA154:ownA 154=false:=(rfl)
@[simp] theorem kR154:keepR 154=false:=(rfl)
@[simp] theorem gS154:GS 154=[0,1,4,5,9,35]:=(rfl)
@[simp] theorem oA155:ownA 155=false:=(rfl)
@[simp] theorem kR155:keepR 155=false:=(rfl)
@[simp] theorem gS155:GS 155=[0,2,3,7,15]:=(rfl)
@[simp] theorem oA156:ownA 156=false:=(rfl)
@[simp] theorem kR156:keepR 156=false:=(rfl)
@[simp] theorem gS156:GS 156=[0,1,4,5,6,16,29]:=(rfl)
@[simp] theorem oA157:ownA 157=false:=(rfl)
@[simp] theorem kR157:keepR 157=false:=(rfl)
@[simp] theorem gS157:GS 157=[0,1,2,4]:=(rfl)
@[simp] theorem oA158:ownA 158=false:=(rfl)
@[simp] theorem kR158:keepR 158=false:=(rfl)
@[simp] theorem gS158:GS 158=[0,1,2,4,6,7,14,18,29]:=(rfl)
@[simp] theorem oA159:ownA 159=false:=(rfl)
@[simp] theorem kR159:keepR 159=false:=(rfl)
@[simp] theorem gS159:GS 159=[0,1,4]:=(rfl)
@[simp] theorem oA160:ownA 160=false:=(rfl)
@[simp] theorem kR160:keepR 160=false:=(rfl)
@[simp] theorem gS160:GS 160=[0,2,3,4,8]:=(rfl)
@[simp] theorem oA161:ownA 161=false:=(rfl)
@[simp] theorem kR161:keepR 161=false:=(rfl)
@[simp] theorem gS161:GS 161=[0,1,4,5,6,11]:=(rfl)
@[simp] theorem oA164:ownA 164=false:=(rfl)
@[simp] theorem kR164:keepR 164=false:=(rfl)
@[simp] theorem gS164:GS 164=[0,1,4,5,6,11,12,13,16,19]:=(rfl)
@[simp] theorem oA165:ownA 165=false:=(rfl)
@[simp] theorem kR165:keepR 165=false:=(rfl)
@[simp] theorem gS165:GS 165=[0,1,4,5,7,10,11,12,13,14,24]:=(rfl)
@[simp] theorem oA166:ownA 166=false:=(rfl)
@[simp] theorem kR166:keepR 166=false:=(rfl)
@[simp] theorem gS166:GS 166=[0,1,2,4]:=(rfl)
@[simp] theorem oA167:ownA 167=true:=(rfl)
@[simp] theorem kR167:keepR 167=false:=(rfl)
@[simp] theorem gS167:GS 167=[0,1,2,6,7,8,9,10,18,21,37]:=(rfl)
@[simp] theorem oA168:ownA 168=true:=(rfl)
@[simp] theorem kR168:keepR 168=false:=(rfl)
@[simp] theorem gS168:GS 168=[0,1,2,6,7,8,9,20,32,33,34,39,46,59,66]:=(rfl)
@[simp] theorem oA169:ownA 169=false:=(rfl)
@[simp] theorem kR169:keepR 169=false:=(rfl)
@[simp] theorem gS169:GS 169=[0,1,2,3,4,16]:=(rfl)
@[simp] theorem oA170:ownA 170=true:=(rfl)
@[simp] theorem kR170:keepR 170=true:=(rfl)
@[simp] theorem gS170:GS 170=[0,1,4,5,6,10]:=(rfl)
@[simp] theorem oA171:ownA 171=false:=(rfl)
@[simp] theorem kR171:keepR 171=false:=(rfl)
@[simp] theorem gS171:GS 171=[0,1,2,3,6]:=(rfl)
@[simp] theorem oA172:ownA 172=false:=(rfl)
@[simp] theorem kR172:keepR 172=false:=(rfl)
@[simp] theorem gS172:GS 172=[0,1,2,6,7,9,11,17,19,20,21,22,26,27,28,29,46,54,66]:=(rfl)
@[simp] theorem oA173:ownA 173=true:=(rfl)
@[simp] theorem kR173:keepR 173=false:=(rfl)
@[simp] theorem gS173:GS 173=[0,2,3,7,8,11]:=(rfl)
@[simp] theorem kR174:keepR 174=false:=(rfl)
@[simp] theorem gS174:GS 174=[0,1,2,5,7,8,9,10,27]:=(rfl)
@[simp] theorem oA175:ownA 175=false:=(rfl)
@[simp] theorem kR175:keepR 175=false:=(rfl)
@[simp] theorem gS175:GS 175=[0,1,2,3,6]:=(rfl)
@[simp] theorem oA176:ownA 176=false:=(rfl)
@[simp] theorem kR176:keepR 176=false:=(rfl)
@[simp] theorem gS176:GS 176=[0,1,4,5,9,10,19,35,36,42]:=(rfl)
@[simp] theorem kR177:keepR 177=false:=(rfl)
@[simp] theorem gS177:GS 177=[0,1,2,4,6,7,15,16,17,18,25,26,27,44]:=(rfl)
@[simp] theorem kR178:keepR 178=false:=(rfl)
@[simp] theorem gS178:GS 178=[0,1,2,3,5,7,8,10,11,19,20,21,22,29,30,31,32,49,53,62,68,78]:=(rfl)
@[simp] theorem oA179:ownA 179=false:=(rfl)
@[simp] theorem kR179:keepR 179=false:=(rfl)
@[simp] theorem gS179:GS 179=[0]:=(rfl)
@[simp] theorem kR180:keepR 180=false:=(rfl)
@[simp] theorem gS180:GS 180=[0,1,2,5,11,12,13,14,32]:=(rfl)
@[simp] theorem oA181:ownA 181=false:=(rfl)
@[simp] theorem kR181:keepR 181=false:=(rfl)
@[simp] theorem gS181:GS 181=[0,1,2,3,4,5,6,7,8,9,10,18,19,20,21,37]:=(rfl)
@[simp] theorem oA182:ownA 182=false:=(rfl)
@[simp] theorem kR182:keepR 182=true:=(rfl)
@[simp] theorem gS182:GS 182=[0,1,4,5,7,8,9,10,11]:=(rfl)
@[simp] theorem oA183:ownA 183=false:=(rfl)
@[simp] theorem kR183:keepR 183=false:=(rfl)
@[simp] theorem gS183:GS 183=[0,2]:=(rfl)
@[simp] theorem oA184:ownA 184=false:=(rfl)
@[simp] theorem kR184:keepR 184=false:=(rfl)
@[simp] theorem gS184:GS 184=[0,1,2,3,6,7,24,29,41,43,44,57]:=(rfl)
@[simp] theorem oA185:ownA 185=false:=(rfl)
@[simp] theorem kR185:keepR 185=false:=(rfl)
@[simp] theorem gS185:GS 185=[0,1,2]:=(rfl)
@[simp] theorem oA186:ownA 186=false:=(rfl)
@[simp] theorem kR186:keepR 186=false:=(rfl)
@[simp] theorem gS186:GS 186=[0,1,2,3,4,5,9]:=(rfl)
@[simp] theorem oA187:ownA 187=false:=(rfl)
@[simp] theorem kR187:keepR 187=false:=(rfl)
@[simp] theorem gS187:GS 187=[0,1,2,3,6]:=(rfl)
@[simp] theorem oA188:ownA 188=false:=(rfl)
@[simp] theorem kR188:keepR 188=false:=(rfl)
@[simp] theorem gS188:GS 188=[0,2,4]:=(rfl)
@[simp] theorem oA189:ownA 189=false:=(rfl)
@[simp] theorem kR189:keepR 189=false:=(rfl)
@[simp] theorem gS189:GS 189=[0,2,4]:=(rfl)
@[simp] theorem oA190:ownA 190=false:=(rfl)
@[simp] theorem kR190:keepR 190=false:=(rfl)
@[simp] theorem gS190:GS 190=[0,2,3]:=(rfl)
@[simp] theorem oA191:ownA 191=false:=(rfl)
@[simp] theorem kR191:keepR 191=false:=(rfl)
@[simp] theorem gS191:GS 191=[0,1,2,4,5,6,7,8,16,32,34,35,43,51,59]:=(rfl)
@[simp] theorem oA192:ownA 192=true:=(rfl)
@[simp] theorem kR192:keepR 192=false:=(rfl)
@[simp] theorem gS192:GS 192=[0,1,2,3,8,9,14,34]:=(rfl)
@[simp] theorem oA202:ownA 202=false:=(rfl)
@[simp] theorem kR202:keepR 202=false:=(rfl)
@[simp] theorem gS202:GS 202=[0,2]:=(rfl)
@[simp] theorem oA203:ownA 203=false:=(rfl)
@[simp] theorem kR203:keepR 203=false:=(rfl)
@[simp] theorem gS203:GS 203=[0,1,2,6,7,8,28,62,90,95,96,97,109]:=(rfl)
@[simp] theorem oA204:ownA 204=false:=(rfl)
@[simp] theorem kR204:keepR 204=false:=(rfl)
@[simp] theorem gS204:GS 204=[0,1,2]:=(rfl)
@[simp] theorem oA205:ownA 205=true:=(rfl)
@[simp] theorem kR205:keepR 205=false:=(rfl)
@[simp] theorem gS205:GS 205=[0,2,5]:=(rfl)
@[simp] theorem oA206:ownA 206=false:=(rfl)
@[simp] theorem kR206:keepR 206=false:=(rfl)
@[simp] theorem gS206:GS 206=[0,2,3,4,7,10]:=(rfl)
@[simp] theorem oA207:ownA 207=false:=(rfl)
@[simp] theorem kR207:keepR 207=false:=(rfl)
@[simp] theorem gS207:GS 207=[0,2,3,5,9,10,11,12,19]:=(rfl)
@[simp] theorem oA208:ownA 208=false:=(rfl)
@[simp] theorem kR208:keepR 208=false:=(rfl)
@[simp] theorem gS208:GS 208=[0,1,2,4,5,6,7,16,25,33,34,42,50,58]:=(rfl)
@[simp] theorem oA209:ownA 209=false:=(rfl)
@[simp] theorem kR209:keepR 209=false:=(rfl)
@[simp] theorem gS209:GS 209=[0,2,4]:=(rfl)
@[simp] theorem oA210:ownA 210=false:=(rfl)
@[simp] theorem kR210:keepR 210=false:=(rfl)
@[simp] theorem gS210:GS 210=[0,2,3]:=(rfl)
@[simp] theorem oA211:ownA 211=false:=(rfl)
@[simp] theorem kR211:keepR 211=true:=(rfl)
@[simp] theorem gS211:GS 211=[0,2,3,6]:=(rfl)
@[simp] theorem oA212:ownA 212=true:=(rfl)
@[simp] theorem kR212:keepR 212=false:=(rfl)
@[simp] theorem gS212:GS 212=[0,1,2,5]:=(rfl)
@[simp] theorem oA213:ownA 213=true:=(rfl)
@[simp] theorem kR213:keepR 213=false:=(rfl)
@[simp] theorem gS213:GS 213=[0,1]:=(rfl)
@[simp] theorem oA214:ownA 214=false:=(rfl)
@[simp] theorem kR214:keepR 214=false:=(rfl)
@[simp] theorem gS214:GS 214=[0,1,4,5,12]:=(rfl)
@[simp] theorem oA215:ownA 215=false:=(rfl)
@[simp] theorem kR215:keepR 215=false:=(rfl)
@[simp] theorem gS215:GS 215=[0,2,5]:=(rfl)
@[simp] theorem oA221:ownA 221=false:=(rfl)
@[simp] theorem kR221:keepR 221=false:=(rfl)
@[simp] theorem gS221:GS 221=[0,2,3,4,7,10]:=(rfl)
@[simp] theorem oA222:ownA 222=false:=(rfl)
@[simp] theorem kR222:keepR 222=false:=(rfl)
@[simp] theorem gS222:GS 222=[0,2,3,7]:=(rfl)
@[simp] theorem oA223:ownA 223=true:=(rfl)
@[simp] theorem kR223:keepR 223=false:=(rfl)
@[simp] theorem gS223:GS 223=[0,1,2,6,7,8,9,13,30,35,54]:=(rfl)
@[simp] theorem oA225:ownA 225=true:=(rfl)
@[simp] theorem kR225:keepR 225=false:=(rfl)
@[simp] theorem gS225:GS 225=[0,1,2,3,4,10,11,12,13,14,15,16,17,18,19,20,21,22,23,24,28,33,50,58,80,85,103,110,140,151,171,185,199,213]:=(rfl)
@[simp] theorem oA226:ownA 226=true:=(rfl)
@[simp] theorem kR226:keepR 226=false:=(rfl)
@[simp] theorem gS226:GS 226=[0,1,2,3,4,10,11,20,23]:=(rfl)
@[simp] theorem oA227:ownA 227=true:=(rfl)
@[simp] theorem kR227:keepR 227=false:=(rfl)
@[simp] theorem gS227:GS 227=[0,1,2,3,10,13]:=(rfl)
@[simp] theorem eT40:eqTy 40=true:=(rfl)
noncomputable def primF:FuncId→Option (List AV→StL→Option (AV×StL))
 | 136=>some copyE
 | 92=>some copyP
 | _=>none
noncomputable def C0:Ctx:={ P:=Tryz.prog,G:=GS,ownArgs:=ownA,keepRes:=keepR,eqT:=eqTy,prim:=primF }
@[simp] theorem dk3:descK Tryz.prog 3=some (.int .i64):=by kernel_rfl
@[simp] theorem sz3:szOf Tryz.prog 3=some 1:=by kernel_rfl
@[simp] theorem by3:byOf Tryz.prog 3=some 8:=by kernel_rfl
@[simp] theorem ze3:zeroOf Tryz.prog 3=some [(.int .i64 0)]:=by kernel_rfl
@[simp] theorem dk4:descK Tryz.prog 4=some .bool:=by kernel_rfl
@[simp] theorem sz4:szOf Tryz.prog 4=some 1:=by kernel_rfl
@[simp] theorem by4:byOf Tryz.prog 4=some 1:=by kernel_rfl
@[simp] theorem ze4:zeroOf Tryz.prog 4=some [(.bool false)]:=by kernel_rfl
@[simp] theorem dk5:descK Tryz.prog 5=some (.int .u8):=by kernel_rfl
@[simp] theorem sz5:szOf Tryz.prog 5=some 1:=by kernel_rfl
@[simp] theorem dk22:descK Tryz.prog 22=some (.slice 5):=by kernel_rfl
@[simp] theorem sz22:szOf Tryz.prog 22=some 1:=by kernel_rfl
@[simp] theorem dk23:descK Tryz.prog 23=some (.slice 43):=by kernel_rfl
@[simp] theorem sz23:szOf Tryz.prog 23=some 1:=by kernel_rfl
@[simp] theorem dk24:descK Tryz.prog 24=some (.slice 3):=by kernel_rfl
@[simp] theorem sz24:szOf Tryz.prog 24=some 1:=by kernel_rfl
@[simp] theorem dk25:descK Tryz.prog 25=some (.slice 27):=by kernel_rfl
@[simp] theorem sz25:szOf Tryz.prog 25=some 1:=by kernel_rfl
@[simp] theorem dk27:descK Tryz.prog 27=some .strct:=by kernel_rfl
@[simp] theorem sz27:szOf Tryz.prog 27=some 5:=by kernel_rfl
@[simp] theorem by27:byOf Tryz.prog 27=some 88:=by kernel_rfl
@[simp] theorem ze27:zeroOf Tryz.prog 27=some [(.int .i64 0),(.int .i64 0),(.slice none 0 0),(.slice none 0 0),(.slice none 0 0)]:=by kernel_rfl
@[simp] theorem fd27_0:fieldT Tryz.prog 27 0=some (3,0):=by kernel_rfl
@[simp] theorem fd27_1:fieldT Tryz.prog 27 1=some (3,1):=by kernel_rfl
@[simp] theorem fd27_2:fieldT Tryz.prog 27 2=some (23,2):=by kernel_rfl
@[simp] theorem fd27_3:fieldT Tryz.prog 27 3=some (24,3):=by kernel_rfl
@[simp] theorem fd27_4:fieldT Tryz.prog 27 4=some (25,4):=by kernel_rfl
@[simp] theorem dk28:descK Tryz.prog 28=some (.slice 34):=by kernel_rfl
@[simp] theorem dk32:descK Tryz.prog 32=some (.slice 41):=by kernel_rfl
@[simp] theorem sz32:szOf Tryz.prog 32=some 1:=by kernel_rfl
@[simp] theorem by32:byOf Tryz.prog 32=some 24:=by kernel_rfl
@[simp] theorem ze32:zeroOf Tryz.prog 32=some [(.slice none 0 0)]:=by kernel_rfl
@[simp] theorem dk34:descK Tryz.prog 34=some .strct:=by kernel_rfl
@[simp] theorem sz34:szOf Tryz.prog 34=some 2:=by kernel_rfl
@[simp] theorem by34:byOf Tryz.prog 34=some 32:=by kernel_rfl
@[simp] theorem ze34:zeroOf Tryz.prog 34=some [(.int .i64 0),(.slice none 0 0)]:=by kernel_rfl
@[simp] theorem fd34_0:fieldT Tryz.prog 34 0=some (3,0):=by kernel_rfl
@[simp] theorem fd34_1:fieldT Tryz.prog 34 1=some (32,1):=by kernel_rfl
@[simp] theorem dk40:descK Tryz.prog 40=some .strct:=by kernel_rfl
@[simp] theorem sz40:szOf Tryz.prog 40=some 2:=by kernel_rfl
@[simp] theorem by40:byOf Tryz.prog 40=some 16:=by kernel_rfl
@[simp] theorem ze40:zeroOf Tryz.prog 40=some [(.bool false),(.int .i64 0)]:=by kernel_rfl
@[simp] theorem fd40_0:fieldT Tryz.prog 40 0=some (4,0):=by kernel_rfl
@[simp] theorem fd40_1:fieldT Tryz.prog 40 1=some (3,1):=by kernel_rfl
@[simp] theorem dk41:descK Tryz.prog 41=some (.slice 40):=by kernel_rfl
@[simp] theorem sz41:szOf Tryz.prog 41=some 1:=by kernel_rfl
@[simp] theorem by41:byOf Tryz.prog 41=some 24:=by kernel_rfl
@[simp] theorem ze41:zeroOf Tryz.prog 41=some [(.slice none 0 0)]:=by kernel_rfl
@[simp] theorem dk43:descK Tryz.prog 43=some .strct:=by kernel_rfl
@[simp] theorem sz43:szOf Tryz.prog 43=some 5:=by kernel_rfl
@[simp] theorem by43:byOf Tryz.prog 43=some 56:=by kernel_rfl
@[simp] theorem ze43:zeroOf Tryz.prog 43=some [(.int .i64 0),(.int .i64 0),(.bool false),(.int .i64 0),(.slice none 0 0)]:=by kernel_rfl
@[simp] theorem fd43_0:fieldT Tryz.prog 43 0=some (3,0):=by kernel_rfl
@[simp] theorem fd43_1:fieldT Tryz.prog 43 1=some (3,1):=by kernel_rfl
@[simp] theorem fd43_2:fieldT Tryz.prog 43 2=some (40,2):=by kernel_rfl
@[simp] theorem fd43_3:fieldT Tryz.prog 43 3=some (23,4):=by kernel_rfl
@[simp] theorem dk62:descK Tryz.prog 62=some (.slice 4):=by kernel_rfl
@[simp] theorem sz62:szOf Tryz.prog 62=some 1:=by kernel_rfl
@[simp] theorem by62:byOf Tryz.prog 62=some 24:=by kernel_rfl
@[simp] theorem ze62:zeroOf Tryz.prog 62=some [(.slice none 0 0)]:=by kernel_rfl
@[simp] theorem dk70:descK Tryz.prog 70=some (.slice 62):=by kernel_rfl
@[simp] theorem dk73:descK Tryz.prog 73=some .other:=by kernel_rfl
@[simp] theorem sz73:szOf Tryz.prog 73=some 1:=by kernel_rfl
@[simp] theorem dk77:descK Tryz.prog 77=some .other:=by kernel_rfl
@[simp] theorem sz77:szOf Tryz.prog 77=some 1:=by kernel_rfl
@[simp] theorem by77:byOf Tryz.prog 77=some 8:=by kernel_rfl
@[simp] theorem ze77:zeroOf Tryz.prog 77=some [(.pointer none)]:=by kernel_rfl
@[simp] theorem dk114:descK Tryz.prog 114=some .strct:=by kernel_rfl
@[simp] theorem ze114:zeroOf Tryz.prog 114=some [(.slice none 0 0),(.int .i64 0)]:=by kernel_rfl
@[simp] theorem fd114_0:fieldT Tryz.prog 114 0=some (22,0):=by kernel_rfl
@[simp] theorem fd114_1:fieldT Tryz.prog 114 1=some (3,1):=by kernel_rfl
@[simp] theorem dk133:descK Tryz.prog 133=some (.array 2 3):=by kernel_rfl
@[simp] theorem ze133:zeroOf Tryz.prog 133=some [(.int .i64 0),(.int .i64 0)]:=by kernel_rfl
@[simp] theorem dk137:descK Tryz.prog 137=some .strct:=by kernel_rfl
@[simp] theorem ze137:zeroOf Tryz.prog 137=some [(.pointer none),(.slice none 0 0),(.int .i64 0),(.int .i64 0)]:=by kernel_rfl
@[simp] theorem fd137_0:fieldT Tryz.prog 137 0=some (73,0):=by kernel_rfl
@[simp] theorem fd137_1:fieldT Tryz.prog 137 1=some (24,1):=by kernel_rfl
@[simp] theorem fd137_2:fieldT Tryz.prog 137 2=some (3,2):=by kernel_rfl
@[simp] theorem fd137_3:fieldT Tryz.prog 137 3=some (3,3):=by kernel_rfl
@[simp] theorem dk145:descK Tryz.prog 145=some (.slice 32):=by kernel_rfl
@[simp] theorem dk151:descK Tryz.prog 151=some (.slice 77):=by kernel_rfl
@[simp] theorem dk154:descK Tryz.prog 154=some .other:=by kernel_rfl
@[simp] theorem sz154:szOf Tryz.prog 154=some 1:=by kernel_rfl
@[simp] theorem by154:byOf Tryz.prog 154=some 8:=by kernel_rfl
@[simp] theorem ze154:zeroOf Tryz.prog 154=some [(.pointer none)]:=by kernel_rfl
@[simp] theorem dk158:descK Tryz.prog 158=some (.array 2 34):=by kernel_rfl
@[simp] theorem ze158:zeroOf Tryz.prog 158=some [(.int .i64 0),(.slice none 0 0),(.int .i64 0),(.slice none 0 0)]:=by kernel_rfl
@[simp] theorem dk171:descK Tryz.prog 171=some (.int .u64):=by kernel_rfl
@[simp] theorem dk173:descK Tryz.prog 173=some (.slice 154):=by kernel_rfl
end Go.Proofs.YtiailccmofdhfaaGreat
namespace Go.Av
def fnT (fn:Func):Bool:=(fn.name != "runtime.NumGoroutine") && match fn.body with
 | some c=>codeOk fn.ntmps c
 | none=>true
theorem all_chunks {α:Type} {p:α→Bool} {l:List α} (c n:Nat) (hc:0<c) (hl:l.length≤c*n) (h:∀ i,i<n→((l.drop (c*i)).take c).all p=true):l.all p=true:=by
 rw[List.all_eq_true]
 intro x hx
 obtain⟨j,hj,rfl⟩:=List.getElem_of_mem hx
 have hd:c*(j / c)+j % c=j:=Nat.div_add_mod j c
 have hm:j % c<c:=Nat.mod_lt _ hc
 have hi:j / c<n:=by
  rw[Nat.div_lt_iff_lt_mul hc,Nat.mul_comm];omega
 refine List.all_eq_true.1 (h (j / c) hi) _ ?_
 refine List.mem_of_getElem? (i:=j % c) ?_
 rw[List.getElem?_take,if_pos hm,List.getElem?_drop,hd,List.getElem?_eq_getElem hj]
theorem fnTest_of {P:Program} (h:P.funcs.toList.all fnT=true):fnTest P=true:=h
end Go.Av
namespace Go.Proofs.YtiailccmofdhfaaGreat
open Go Go.Av
set_option maxHeartbeats 2000000
theorem ft:fieldTest Tryz.prog=true:=by kernel_rfl
theorem nt0:((Tryz.prog.funcs.toList.drop (25*0)).take 25).all fnT=true:=by kernel_rfl
theorem nt1:((Tryz.prog.funcs.toList.drop (25*1)).take 25).all fnT=true:=by kernel_rfl
theorem nt2:((Tryz.prog.funcs.toList.drop (25*2)).take 25).all fnT=true:=by kernel_rfl
theorem nt3:((Tryz.prog.funcs.toList.drop (25*3)).take 25).all fnT=true:=by kernel_rfl
theorem nt4:((Tryz.prog.funcs.toList.drop (25*4)).take 25).all fnT=true:=by kernel_rfl
theorem nt5:((Tryz.prog.funcs.toList.drop (25*5)).take 25).all fnT=true:=by kernel_rfl
theorem nt6:((Tryz.prog.funcs.toList.drop (25*6)).take 25).all fnT=true:=by kernel_rfl
theorem nt7:((Tryz.prog.funcs.toList.drop (25*7)).take 25).all fnT=true:=by kernel_rfl
theorem nt8:((Tryz.prog.funcs.toList.drop (25*8)).take 25).all fnT=true:=by kernel_rfl
theorem nt9:((Tryz.prog.funcs.toList.drop (25*9)).take 25).all fnT=true:=by kernel_rfl
theorem ntl:Tryz.prog.funcs.toList.length≤25*10:=of_decide_eq_true (by kernel_rfl)
theorem nt:fnTest Tryz.prog=true:=fnTest_of (all_chunks 25 10 (by decide) ntl fun i hi=>by
 have h:i=0∨i=1∨i=2∨i=3∨i=4∨i=5∨i=6∨i=7∨i=8∨i=9:=by omega
 rcases h with rfl|rfl|rfl|rfl|rfl|rfl|rfl|rfl|rfl|rfl
 ·exact nt0
 ·exact nt1
 ·exact nt2
 ·exact nt3
 ·exact nt4
 ·exact nt5
 ·exact nt6
 ·exact nt7
 ·exact nt8
 ·exact nt9)
theorem mo:Tryz.prog.follows .mixedOrders=true:=by kernel_rfl
theorem eqS:∀ t,eqTy t=true→eqTest Tryz.prog t=true:=by
 intro t h
 unfold eqTy at h
 split at h
 ·kernel_rfl
 ·kernel_rfl
 ·cases h
@[simp] theorem C_P:C0.P=Tryz.prog:=(rfl)
@[simp] theorem C_G (f):C0.G f=GS f:=(rfl)
@[simp] theorem C_o (f):C0.ownArgs f=ownA f:=(rfl)
@[simp] theorem C_k (f):C0.keepRes f=keepR f:=(rfl)
@[simp] theorem C_e (f):C0.eqT f=eqTy f:=(rfl)
@[simp] theorem C_t:C0.tree=false:=(rfl)
theorem bytesI_get:∀ {l:List UInt8} {j:Nat},j<l.length→∃ x:Nat,x<256∧nthE (bytesI l) j=some [.lit (.int .u8 x)]
 | [],j,h=>by simp at h
 | b::l,0,_=>⟨b.toNat,b.toNat_lt,by simp[bytesI,nthE]⟩
 | b::l,j+1,h=>by
  obtain⟨x,h1,h2⟩:=bytesI_get (l:=l) (j:=j) (by simpa using h)
  exact⟨x,h1,by simpa [bytesI,nthE]using h2⟩
theorem bytesI_length:∀ (l:List UInt8),(bytesI l).length=l.length
 | []=>rfl
 | _::l=>by simp[bytesI,bytesI_length l]
theorem wrap64 {x:Int} (h1:-9223372036854775808≤x) (h2:x<9223372036854775808):IntKind.i64.wrap x=x:=by
 unfold IntKind.wrap
 simp[IntKind.signed,IntKind.bits]
 omega
abbrev Rd (l:List UInt8) (p:Int):Option Blk:=some (.box [.i (.isl (bytesI l)), .int p])
set_option maxHeartbeats 4000000
set_option maxRecDepth 4000
theorem xor64 {S:Int} (h0:0≤S) (h1:S<4611686018427387904):0≤IntKind.i64.wrap ((((S % 2 ^ IntKind.i64.bits).toNat ^^^ (IntKind.i64.wrap (S.tdiv 64) % 2 ^ IntKind.i64.bits).toNat:Nat)):Int):=by
 have e1:0≤S.tdiv 64:=Int.tdiv_nonneg h0 (by omega)
 have e2:S.tdiv 64≤S:=Int.tdiv_le_self _ h0
 have e3:IntKind.i64.wrap (S.tdiv 64)=S.tdiv 64:=wrap64 (by omega) (by omega)
 have e4:∀ T:Int,0≤T→T<4611686018427387904→(T % 2 ^ IntKind.i64.bits).toNat<2 ^ 62:=fun T k1 k2=>by
  have:T % 2 ^ IntKind.i64.bits=T:=Int.emod_eq_of_lt k1 (by simp[IntKind.bits];omega)
  rw[this];omega
 rw[e3]
 have:=Nat.xor_lt_two_pow (e4 S h0 h1) (e4 (S.tdiv 64) e1 (by omega))
 rw[wrap64 (by omega) (by omega)]
 omega
theorem pick_eq (l:List UInt8) (p n:Int) (h0:0≤p) (h1:p<1000000000) (hl:l.length≤2000):∃ v,callA C0 98 [.own 0 0, .int n] [Rd l p]=some (.int v,[Rd l (p+1)])∧(1≤n→0≤v∧v<n)∧(n<1→v=0):=by
 have hw:IntKind.i64.wrap (p+1)=p+1:=wrap64 (by omega) (by omega)
 have hw':IntKind.i64.wrap p=p:=wrap64 (by omega) (by omega)
 by_cases hn:n<1
 ·refine⟨0,?_,by omega,fun _=>rfl⟩
  rw[callA_eq rfl Tryz.func98 rfl rfl]
  simp[Rd,hw,hn]
 by_cases he:l=[]
 ·refine⟨0,?_,by omega,fun _=>rfl⟩
  rw[callA_eq rfl Tryz.func98 rfl rfl]
  subst he
  simp[Rd,hw,hn]
 have hlen:0<l.length:=List.length_pos_iff.2 he
 have hn0:n≠0:=by omega
 have hn1:(n != 0)=true:=by simp[hn0]
 by_cases hk:p<l.length
 ·obtain⟨x,hx1,hx2⟩:=bytesI_get (l:=l) (j:=p.toNat) (by omega)
  have hwx:IntKind.i64.wrap (x:Int)=x:=wrap64 (by omega) (by omega)
  refine⟨(x:Int).tmod n,?_,fun _=>⟨Int.tmod_nonneg _ (by omega),Int.tmod_lt_of_pos _ (by omega)⟩,by omega⟩
  rw[callA_eq rfl Tryz.func98 rfl rfl]
  simp[Rd,hw,hw',hn,hk,he,h0,bytesI_length,hx2,hn1,hwx]
 ·obtain⟨x,hx1,hx2⟩:=bytesI_get (l:=l) (j:=(p.tmod l.length).toNat) (by have:=Int.tmod_lt_of_pos p (b:=l.length) (by omega);omega)
  obtain⟨y,hy1,hy2⟩:=bytesI_get (l:=l) (j:=((p*7+3).tmod l.length).toNat) (by have:=Int.tmod_lt_of_pos (p*7+3) (b:=l.length) (by omega);omega)
  have a1:0≤p.tmod l.length:=Int.tmod_nonneg _ h0
  have a2:p.tmod l.length<l.length:=Int.tmod_lt_of_pos _ (by omega)
  have a3:0≤(p*7+3).tmod l.length:=Int.tmod_nonneg _ (by omega)
  have a4:(p*7+3).tmod l.length<l.length:=Int.tmod_lt_of_pos _ (by omega)
  have w7:IntKind.i64.wrap (p*7)=p*7:=wrap64 (by omega) (by omega)
  have w8:IntKind.i64.wrap (p*7+3)=p*7+3:=wrap64 (by omega) (by omega)
  have hwx:IntKind.i64.wrap (x:Int)=x:=wrap64 (by omega) (by omega)
  have hwy:IntKind.i64.wrap (y:Int)=y:=wrap64 (by omega) (by omega)
  have hl1:((l.length:Int) != 0)=true:=by simp[he]
  rw[callA_eq rfl Tryz.func98 rfl rfl]
  have d1:0≤p.tdiv l.length:=Int.tdiv_nonneg h0 (by omega)
  have d2:p.tdiv l.length≤p:=Int.tdiv_le_self _ h0
  have w1:IntKind.i64.wrap ((x:Int)*131)=x*131:=wrap64 (by omega) (by omega)
  have w2:IntKind.i64.wrap ((y:Int)*1117)=y*1117:=wrap64 (by omega) (by omega)
  have w3:IntKind.i64.wrap (p*29)=p*29:=wrap64 (by omega) (by omega)
  have w4:IntKind.i64.wrap (p.tdiv l.length)=p.tdiv l.length:=wrap64 (by omega) (by omega)
  have w5:IntKind.i64.wrap (p.tdiv l.length*53)=p.tdiv l.length*53:=wrap64 (by omega) (by omega)
  have w6:IntKind.i64.wrap ((x:Int)*131+y*1117)=x*131+y*1117:=wrap64 (by omega) (by omega)
  have w9:IntKind.i64.wrap ((x:Int)*131+y*1117+p*29)=x*131+y*1117+p*29:=wrap64 (by omega) (by omega)
  have wA:IntKind.i64.wrap ((x:Int)*131+y*1117+p*29+p.tdiv l.length*53)=x*131+y*1117+p*29+p.tdiv l.length*53:=wrap64 (by omega) (by omega)
  simp[Rd,hw,hw',hn,hk,he,bytesI_length,hx2,hy2,hn1,hwx,hwy,w7,w8,hl1,a1,a2,a3,a4,w1,w2,w3,w4,w5,w6,w9,wA]
  intro hn2
  have hx:=xor64 (S:=x*131+y*1117+p*29+p.tdiv l.length*53) (by omega) (by omega)
  exact⟨Int.tmod_nonneg _ hx,Int.tmod_lt_of_pos _ (by omega)⟩
theorem kidsCases (n:Int):n=1∨n=2∨n=3∨n=4∨n=5∨n=6∨n=7∨n=8∨n=9∨n=10∨n=11∨(n≠1∧n≠2∧n≠3∧n≠4∧n≠5∧n≠6∧n≠7∧n≠8∧n≠9∧n≠10∧n≠11):=by omega
@[simp] theorem kidsOfKind_eq (n:Int):callA C0 221 [.int n] []=some (.int (kidsK n),[]):=by
  rw[callA_eq rfl Tryz.func221 rfl rfl]
  rcases kidsCases n with rfl|rfl|rfl|rfl|rfl|rfl|rfl|rfl|rfl|rfl|rfl|⟨h1,h2,h3,h4,h5,h6,h7,h8,h9,h10,h11⟩
  all_goals first
   | (simp[kidsK];done)
   | (have e:kidsK n=-1:=by
       unfold kidsK
       rw[if_neg (by omega),if_neg (by omega),if_neg (by omega)]
      simp[e,h1,h2,h3,h4,h5,h6,h7,h8,h9,h10,h11])
@[simp] theorem kidsOf_eq (n:Int):callA C0 206 [.int n] []=some (.int (kidsK n),[]):=by
  rw[callA_eq rfl Tryz.func206 rfl rfl]
  rcases kidsCases n with rfl|rfl|rfl|rfl|rfl|rfl|rfl|rfl|rfl|rfl|rfl|⟨h1,h2,h3,h4,h5,h6,h7,h8,h9,h10,h11⟩
  all_goals first
   | (simp[kidsK];done)
   | (have e:kidsK n=-1:=by
       unfold kidsK
       rw[if_neg (by omega),if_neg (by omega),if_neg (by omega)]
      simp[e,h1,h2,h3,h4,h5,h6,h7,h8,h9,h10,h11])
@[simp] theorem validWidth_eq (n:Int):callA C0 66 [.int n] []=some (.bool (okWidth n),[]):=by
  rw[callA_eq rfl Tryz.func66 rfl rfl]
  by_cases h1:1≤n<;>by_cases h2:n≤6<;>simp[okWidth,h1,h2]
@[simp] theorem inRange_eq (n a b:Int):callA C0 76 [.int n, .int a, .int b] []=some (.bool (decide (a≤n∧n≤b)),[]):=by
  rw[callA_eq rfl Tryz.func76 rfl rfl]
  by_cases h1:a≤n<;>by_cases h2:n≤b<;>simp[h1,h2]
@[simp] theorem valid_eq (b:Bool) (n:Int):callA C0 114 [.i (.agg [.bool b, .int n])] []=some (.bool (Val.ok ⟨b,n⟩),[]):=by
  rw[callA_eq rfl Tryz.func114 rfl rfl]
  cases b
  ·by_cases h1:-9999≤n<;>by_cases h2:n≤9999<;>simp[Val.ok,h1,h2]
  ·by_cases h1:n=0<;>simp[Val.ok,h1]
@[simp] theorem validValue_eq (b:Bool) (n:Int):callA C0 185 [.i (.agg [.bool b, .int n])] []=some (.bool (Val.ok ⟨b,n⟩),[]):=by
  rw[callA_eq rfl Tryz.func185 rfl rfl]
  cases b
  ·by_cases h1:-9999≤n<;>by_cases h2:n≤9999<;>simp[Val.ok,h1,h2]
  ·by_cases h1:n=0
   ·subst h1;simp[Val.ok]
   ·by_cases h2:-9999≤n<;>by_cases h3:n≤9999<;>simp[Val.ok,h1,h2,h3]
@[simp] theorem constant_eq (v:Val):callA C0 204 [.i (.agg [.bool v.null, .int v.n])] []=some (.i (.agg (Ex.mk 2 0 v []).cells),[]):=by
  rw[callA_eq rfl Tryz.func204 rfl rfl]
  simp[Ex.cells,Ex.cellsL]
theorem vb_len {e:Ex} {w:Int} (n:Nat) (hk:¬ (e.kids.length:Int)=kidsK e.kind):callA C0 203 [.i (.iref e.cells), .int w, .int n] []=some (.bool false,[]):=by
 rw[callA_eq rfl Tryz.func203 rfl rfl,Ex.cells_eq]
 simp[Ex.cellsL_length,hk]
theorem vb_deep {e:Ex} {w:Int} (hk:(e.kids.length:Int)=kidsK e.kind) (hz:0<kidsK e.kind):callA C0 203 [.i (.iref e.cells), .int w, .int 0] []=some (.bool false,[]):=by
 rw[callA_eq rfl Tryz.func203 rfl rfl,Ex.cells_eq]
 simp[Ex.cellsL_length,hk,hz]
theorem vb_head {e:Ex} {w:Int} (n:Nat) (hk:(e.kids.length:Int)=kidsK e.kind) (hz:0<kidsK e.kind→n≠0) (hh:e.headOk w=false) :
 callA C0 203 [.i (.iref e.cells), .int w, .int n] []=some (.bool false,[]):=by
 rw[callA_eq rfl Tryz.func203 rfl rfl,Ex.cells_eq]
 unfold Ex.headOk at hh
 by_cases h1:e.kind=1
 ·rw[h1]at hz hk;simp[h1,kidsK]at hh hk
  by_cases h2:0≤e.col
  ·by_cases h3:e.col<w
   ·cases h4:e.val.null with
    | true=>simp[Ex.cellsL_length,hk,h1,Int.not_lt.2 h2,Int.not_le.2 h3,h4,kidsK]
    | false=>simp[Ex.cellsL_length,hk,h1,Int.not_lt.2 h2,Int.not_le.2 h3,h4,hh h2 h3 h4,kidsK]
   ·simp[Ex.cellsL_length,hk,h1,Int.not_lt.2 h2,Int.not_lt.1 h3,kidsK]
  ·simp[Ex.cellsL_length,hk,h1,Int.not_le.1 h2,kidsK]
 ·by_cases h2:e.kind=2
  ·rw[h2]at hz hk;simp[h2,kidsK]at hh hk
   by_cases h3:e.col=0
   ·have h4:Val.ok ⟨e.val.null,e.val.n⟩=false:=hh h3
    simp[Ex.cellsL_length,hk,h2,h3,h4,kidsK]
   ·simp[Ex.cellsL_length,hk,h2,h3,kidsK]
  ·simp[h1,h2]at hh
   by_cases h0:0<kidsK e.kind
   ·have hn:=hz h0
    by_cases h3:e.col=0
    ·cases h4:e.val.null with
     | true=>simp[Ex.cellsL_length,hk,h1,h2,h3,h4,h0,hn,hz h0]
     | false=>simp[Ex.cellsL_length,hk,h1,h2,h3,h4,hh h3 h4,h0,hn,hz h0]
    ·simp[Ex.cellsL_length,hk,h1,h2,h3,h0,hn,hz h0]
   ·by_cases h3:e.col=0
    ·cases h4:e.val.null with
     | true=>simp[Ex.cellsL_length,hk,h1,h2,h3,h4,h0]
     | false=>simp[Ex.cellsL_length,hk,h1,h2,h3,h4,hh h3 h4,h0]
    ·simp[Ex.cellsL_length,hk,h1,h2,h3,h0]
def VX (e:Ex) (w n:Int) (i:Nat):AS :=
 { env:=[(0, .i (.iref [.int e.kind, .int 0, .bool false, .int 0, .isl (Ex.cellsL e.kids)])),(1, .int w),(2, .int n),(6, .bool false),(7, .int (kidsK e.kind)),(8,jk i (.int (i-1))),(28, .bool (n == 0)),(62, .bool false),(90, .bool false),(95, .int (kidsK e.kind)),(96, .int i),(97,jk i (.bool true)),(109,jk i (.bool false))],st:=[] }
theorem vb_go {e:Ex} {w:Int} (n:Nat) (hn:n≤8) (hk:(e.kids.length:Int)=kidsK e.kind) (hz:0<kidsK e.kind→n≠0) (hh:e.headOk w=true) (ih:∀ k∈e.kids,0<kidsK e.kind→callA C0 203 [.i (.iref k.cells), .int w, .int ((n:Int)-1)] []=some (.bool (Ex.vB w (n-1) k),[])) :
 callA C0 203 [.i (.iref e.cells), .int w, .int n] []=some (.bool (e.kids.all (Ex.vB w (n-1))),[]):=by
 rw[callA_eq rfl Tryz.func203 rfl rfl,Ex.cells_eq]
 rcases Ex.head_cases w e with h|⟨-,⟨hA,hB,hC,hD,hE,hF⟩|⟨hA,hB,hC,hD,hE,hF⟩|⟨hA,hB,hC,hD,hE,hF⟩⟩
 ·simp[h]at hh
 ·have h2:e.kids=[]:=by rw[hF]at hk;simpa using hk
  simp[h2,Ex.cellsL,hA,hD,hE,Int.not_lt.2 hB,Int.not_le.2 hC,kidsK]
  rw[execA_loop]
  simp
 ·have h2:e.kids=[]:=by rw[hF]at hk;simpa using hk
  simp[h2,Ex.cellsL,hA,hB,hC,kidsK]
  rw[execA_loop]
  simp
 ·by_cases h0:0<kidsK e.kind
  ·have hn:=hz h0
   simp[Ex.cellsL_length,hk,hA,hB,hC,hD,hE,h0,hn,hz h0]
   obtain⟨j,h1,h2⟩:=upto_bad (Ex.vB w (n-1)) e.kids
   have w1:IntKind.i64.wrap ((n:Int)-1)=n-1:=wrap64 (by omega) (by omega)
   have rd:∀ (i:Nat) (k:Ex),e.kids[i]?=some k→k∈e.kids→i<e.kids.length∧nthE (Ex.cellsL e.kids) i=some k.cells∧callA C0 203 [.i (.iref k.cells), .int w, .int ((n:Int)-1)] []=some (.bool (Ex.vB w (n-1) k),[]) :=
    fun i k a b=>⟨(List.getElem?_eq_some_iff.1 a).1,Ex.cellsL_nth a,ih k b h0⟩
   have hlen:e.kids.length≤2:=by have:kidsK e.kind≤2:=by
                                  unfold kidsK;split;· omega
                                  split;· omega
                                  split<;>omega
                                 omega
   rw[loop_to (VX e w n) j (by simp[VX])]
   ·rw[execA_loop]
    rcases h2 with ⟨hj,ha⟩|⟨k,h3,h4,h5,ha⟩
    ·have l1:¬ ((j:Int)<kidsK e.kind):=by omega
     simp[VX,l1,ha]
    ·obtain⟨r1,r2,r3⟩:=rd j k h3 h4
     have l1:(j:Int)<kidsK e.kind:=by omega
     rw[Ex.cells_eq]at r2 r3
     simp[VX,l1,r1,ha,r2,r3,w1,h5]
   ·intro i hi
    obtain⟨k,h3,h4,h5⟩:=h1 i hi
    obtain⟨r1,r2,r3⟩:=rd i k h3 h4
    have l1:(i:Int)<kidsK e.kind:=by omega
    have w2:IntKind.i64.wrap ((i:Int)+1)=i+1:=wrap64 (by omega) (by omega)
    rw[Ex.cells_eq]at r2 r3
    simp[VX,l1,r1,r2,r3,w1,w2,h5]
  ·have h2:e.kids=[]:=by cases h:e.kids with
    | nil=>rfl
    | cons a l=>rw[h]at hk;simp at hk;omega
   rw[h2]at hk
   simp at hk
   simp[h2,Ex.cellsL,hA,hB,hC,hD,hE,← hk]
   rw[execA_loop]
   simp
@[simp] theorem validBelow_eq {w:Int}:∀ (n:Nat) (e:Ex),n≤8→callA C0 203 [.i (.iref e.cells), .int w, .int n] []=some (.bool (Ex.vB w n e),[])
  | 0,e,hn=>by
   by_cases hk:(e.kids.length:Int)=kidsK e.kind
   ·by_cases hz:0<kidsK e.kind
    ·rw[show((0:Nat):Int)=0 from rfl,vb_deep hk hz]
     simp[Ex.vB,Int.not_le.2 hz]
    ·cases hh:e.headOk w with
     | false=>rw[vb_head 0 hk (fun h=>absurd h hz) hh];simp[Ex.vB,hh]
     | true =>
      rw[vb_go 0 hn hk (fun h=>absurd h hz) hh (fun k _ h=>absurd h hz)]
      have:e.kids=[]:=by cases h:e.kids with
       | nil=>rfl
       | cons a l=>rw[h]at hk;simp at hk;omega
      have h3:kidsK e.kind=0:=by rw[this]at hk;simpa using hk.symm
      simp[Ex.vB,hh,h3,this]
   ·rw[vb_len 0 hk];simp[Ex.vB,hk]
  | n+1,e,hn=>by
   by_cases hk:(e.kids.length:Int)=kidsK e.kind
   ·cases hh:e.headOk w with
    | false=>rw[vb_head (n+1) hk (fun _=>by omega) hh];simp[Ex.vB,hh]
    | true =>
     rw[vb_go (n+1) hn hk (fun _=>by omega) hh (fun k _ _=>by
      have:=validBelow_eq (w:=w) n k (by omega)
      rw[show(((n+1:Nat):Int)-1)=(n:Int)by omega]
      exact this)]
     simp[Ex.vB,hh,hk]
   ·rw[vb_len (n+1) hk];simp[Ex.vB,hk]
theorem ve_len {e:Ex} {w:Int} (n:Nat) (hk:¬ (e.kids.length:Int)=kidsK e.kind):callA C0 184 [.i (.agg e.cells), .int w, .int n] []=some (.bool false,[]):=by
 rw[callA_eq rfl Tryz.func184 rfl rfl,Ex.cells_eq]
 simp[hk]
theorem ve_deep {e:Ex} {w:Int} (hk:(e.kids.length:Int)=kidsK e.kind) (hz:0<kidsK e.kind):callA C0 184 [.i (.agg e.cells), .int w, .int 0] []=some (.bool false,[]):=by
 rw[callA_eq rfl Tryz.func184 rfl rfl,Ex.cells_eq]
 simp[hk,hz]
def EX (e:Ex) (w n:Int) (v:AV) (i:Nat):AS :=
 { env:=[(0, .i (.agg [.int e.kind, .int e.col, .bool e.val.null, .int e.val.n, .isl (Ex.cellsL e.kids)])),(1, .int w),(2, .int n),(3, .own 0 0),(6, .bool false),(7, .int i),(24,v),(29,jk i (.bool true)),(41,jk i (.bool false)),(43, .junk),(44, .junk),(57, .junk)],
   st:=[some (.box [.int e.kind, .int e.col, .bool e.val.null, .int e.val.n, .i (.isl (Ex.cellsL e.kids))])] }
theorem ve_go {e:Ex} {w:Int} (n:Nat) (hn:n≤8) (hk:(e.kids.length:Int)=kidsK e.kind) (hz:0<kidsK e.kind→n≠0)  (hw:1≤w∧w≤6)
 (ih:∀ k∈e.kids,0<kidsK e.kind→callA C0 184 [.i (.agg k.cells), .int w, .int ((n:Int)-1)] []=some (.bool (Ex.vB w (n-1) k),[])) :
  callA C0 184 [.i (.agg e.cells), .int w, .int n] []=some (.bool (e.kids.all (Ex.vB w (n-1)) && e.headOk w),[]):=by
 rw[callA_eq rfl Tryz.func184 rfl rfl,Ex.cells_eq]
 have w0:IntKind.i64.wrap (w-1)=w-1:=wrap64 (by omega) (by omega)
 by_cases h0:0<kidsK e.kind
 ·have hn:=hz h0
  simp[hk,h0,hn]
  obtain⟨j,h1,h2⟩:=upto_bad (Ex.vB w (n-1)) e.kids
  have w1:IntKind.i64.wrap ((n:Int)-1)=n-1:=wrap64 (by omega) (by omega)
  have rd:∀ (i:Nat) (k:Ex),e.kids[i]?=some k→k∈e.kids→i<e.kids.length∧nthE (Ex.cellsL e.kids) i=some k.cells∧callA C0 184 [.i (.agg k.cells), .int w, .int ((n:Int)-1)] []=some (.bool (Ex.vB w (n-1) k),[]) :=
   fun i k a b=>⟨(List.getElem?_eq_some_iff.1 a).1,Ex.cellsL_nth a,ih k b h0⟩
  have hlen:e.kids.length≤2:=by have:kidsK e.kind≤2:=by
                                 unfold kidsK;split;· omega
                                 split;· omega
                                 split<;>omega
                                omega
  have hk1:e.kind≠1:=fun h=>by rw[h]at h0;simp[kidsK]at h0
  have hk2:e.kind≠2:=fun h=>by rw[h]at h0;simp[kidsK]at h0
  rw[loop_to (EX e w n (.bool ((n:Int) == 0)) ) j (by simp[EX])]
  ·rw[execA_loop]
   rcases h2 with ⟨hj,ha⟩|⟨k,h3,h4,h5,ha⟩
   ·have l1:¬ ((j:Int)<kidsK e.kind):=by omega
    by_cases h6:e.col=0
    ·cases h7:e.val.null with
     | true=>simp[EX,l1,hk,ha,Ex.headOk,hk1,hk2,h6,h7]
     | false=>simp[EX,l1,hk,ha,Ex.headOk,hk1,hk2,h6,h7]
    ·simp[EX,l1,hk,ha,Ex.headOk,hk1,hk2,h6]
   ·obtain⟨r1,r2,r3⟩:=rd j k h3 h4
    have l1:(j:Int)<kidsK e.kind:=by omega
    rw[Ex.cells_eq]at r2 r3
    simp[EX,l1,r1,hk,ha,r2,r3,w1,h5]
  ·intro i hi
   obtain⟨k,h3,h4,h5⟩:=h1 i hi
   obtain⟨r1,r2,r3⟩:=rd i k h3 h4
   have l1:(i:Int)<kidsK e.kind:=by omega
   have w2:IntKind.i64.wrap ((i:Int)+1)=i+1:=wrap64 (by omega) (by omega)
   rw[Ex.cells_eq]at r2 r3
   simp[EX,l1,r1,hk,r2,r3,w1,w2,h5]
 ·have h2:e.kids=[]:=by cases h:e.kids with
   | nil=>rfl
   | cons a l=>rw[h]at hk;simp at hk;omega
  rw[h2]at hk
  simp at hk
  simp[h2,Ex.cellsL,← hk]
  rw[execA_loop]
  by_cases h1:e.kind=1
  ·by_cases h4:0≤e.col
   ·by_cases h5:e.col<w
    ·cases h7:e.val.null with
     | true=>simp[h1,w0,Ex.headOk,h4,h5,h7,show e.col≤w-1 by omega]
     | false=>simp[h1,w0,Ex.headOk,h4,h5,h7,show e.col≤w-1 by omega]
    ·simp[h1,w0,Ex.headOk,h4,h5,show ¬ e.col≤w-1 by omega]
   ·simp[h1,w0,Ex.headOk,h4]
  ·by_cases h3:e.kind=2
   ·by_cases h4:e.col=0
    ·simp[h3,Ex.headOk,h4]
    ·simp[h3,Ex.headOk,h4]
   ·by_cases h4:e.col=0
    ·cases h7:e.val.null with
     | true=>simp[h1,h3,Ex.headOk,h4,h7]
     | false=>simp[h1,h3,Ex.headOk,h4,h7]
    ·simp[h1,h3,Ex.headOk,h4]
theorem validExpr_eq {w:Int} (hw:1≤w∧w≤6):∀ (n:Nat) (e:Ex),n≤8→callA C0 184 [.i (.agg e.cells), .int w, .int n] []=some (.bool (Ex.vB w n e),[])
 | 0,e,hn=>by
  by_cases hk:(e.kids.length:Int)=kidsK e.kind
  ·by_cases hz:0<kidsK e.kind
   ·rw[show((0:Nat):Int)=0 from rfl,ve_deep hk hz]
    simp[Ex.vB,Int.not_le.2 hz]
   ·rw[ve_go 0 hn hk (fun h=>absurd h hz) hw (fun k _ h=>absurd h hz)]
    have:e.kids=[]:=by cases h:e.kids with
     | nil=>rfl
     | cons a l=>rw[h]at hk;simp at hk;omega
    have h3:kidsK e.kind=0:=by rw[this]at hk;simpa using hk.symm
    simp[Ex.vB,h3,this]
  ·rw[ve_len 0 hk];simp[Ex.vB,hk]
 | n+1,e,hn=>by
  by_cases hk:(e.kids.length:Int)=kidsK e.kind
  ·rw[ve_go (n+1) hn hk (fun _=>by omega) hw (fun k _ _=>by
      have:=validExpr_eq (w:=w) hw n k (by omega)
      rw[show(((n+1:Nat):Int)-1)=(n:Int)by omega]
      exact this)]
   simp[Ex.vB,hk,Bool.and_comm]
  ·rw[ve_len (n+1) hk];simp[Ex.vB,hk]
theorem ok_eq (w:Int) (e:Ex):callA C0 166 [.i (.agg e.cells), .int w] []=some (.bool (e.ok w),[]):=by
 rw[callA_eq rfl Tryz.func166 rfl rfl]
 have h:=validBelow_eq (w:=w) 8 e (by omega)
 rw[Ex.cells_eq]at h ⊢
 have e8:((8:Nat):Int)=8:=rfl
 rw[e8]at h
 cases hw:okWidth w with
 | false=>simp[hw,Ex.ok]
 | true=>simp[hw,Ex.ok,h]
theorem sok_eq (w:Int) (e:Ex):callA C0 152 [.i (.agg e.cells), .int w] []=some (.bool (e.ok w),[]):=by
 rw[callA_eq rfl Tryz.func152 rfl rfl]
 by_cases hw:1≤w∧w≤6
 ·have h:=validExpr_eq hw 8 e (by omega)
  rw[Ex.cells_eq]at h ⊢
  have e8:((8:Nat):Int)=8:=rfl
  rw[e8]at h
  simp[hw,Ex.ok,okWidth,h]
 ·rw[Ex.cells_eq]
  simp[hw,Ex.ok,okWidth]
theorem wrap_1:IntKind.i64.wrap 1=1:=wrap64 (by omega) (by omega)
def CX (e:Ex) (i:Nat):AS :=
 { env:=[(0, .i (.agg [.int e.kind, .int e.col, .bool e.val.null, .int e.val.n, .isl (Ex.cellsL e.kids)])),(1, .own 0 0),(2, .own 1 0),(3, .own 2 0),(4, .int i),(16,jk i (.bool true))],
   st:=some (.box [.int e.kind, .int e.col, .bool e.val.null, .int e.val.n, .i (.isl (Ex.cellsL e.kids))])::some (.box [.int 0, .int 0, .bool false, .int 0, .nils]) ::
    some (.box [.int e.kind, .int e.col, .bool e.val.null, .int e.val.n,gro 3 5 i])::groB 5 (Ex.cellsL (e.kids.take i)) i }
theorem cp_step {e:Ex} (hl:e.kids.length<1000000000) (ih:∀ a∈e.kids,callA C0 169 [.i (.agg a.cells)] []=some (.i (.agg a.cells),[])) :
 callA C0 169 [.i (.agg e.cells)] []=some (.i (.agg e.cells),[]):=by
 rw[callA_eq rfl Tryz.func169 rfl rfl,Ex.cells_eq]
 simp
 rw[loop_to (CX e) e.kids.length (by simp[CX])]
 ·rw[execA_loop]
  cases hn:e.kids.length with
  | zero =>
   have:e.kids=[]:=List.length_eq_zero_iff.1 hn
   simp[CX,this,Ex.cellsL]
  | succ n =>
   have:e.kids.take (n+1)=e.kids:=List.take_of_length_le (by omega)
   simp[CX,hn,this]
 ·intro i hi
  have h3:=List.getElem?_eq_getElem hi
  have hc:=ih _ (List.mem_of_getElem? h3)
  have r2:=Ex.cellsL_nth h3
  generalize e.kids[i]=a at h3 hc r2
  have w2:IntKind.i64.wrap ((i:Int)+1)=i+1:=wrap64 (by omega) (by omega)
  by_cases h0:i=0
  ·subst h0;simp[CX,hi,r2,hc,wrap_1,take_snoc h3,Ex.cellsL]
  ·simp[CX,gro_pos h0,groB_pos h0,jk_pos h0,hi,r2,hc,w2,take_snoc h3,Ex.cellsL_snoc,show min i e.kids.length=i by omega,show(i+1)*56≤140737488355328 by omega,List.take_take]
theorem copyExpr_eq:∀ (e:Ex),e.thin→callA C0 169 [.i (.agg e.cells)] []=some (.i (.agg e.cells),[]):=by
 intro e
 induction e using Ex.ind with
 | h k c v ks ih =>
  intro ht
  have ht':=(Ex.thin_iff _).1 ht
  exact cp_step ht'.1 fun a ha=>ih a ha (ht'.2 a ha)
def HX (e:Ex) (i:Nat):AS :=
 { env:=[(0, .i (.iref [.int e.kind, .int e.col, .bool e.val.null, .int e.val.n, .isl (Ex.cellsL e.kids)])),(2, .int 0),(3, .int (Ex.htL (e.kids.take i):Nat)),(4,jk i (.int (i-1))),(9, .int e.kids.length),(10, .int i),(11,jk i (.bool true))],st:=[] }
end Go.Proofs.YtiailccmofdhfaaGreat
namespace Go.Av
def Ex.subst (e:Ex) (l:List Ex) (w:Int):Option Ex:=if e.ok l.length && (l.all (Ex.ok w) && (e.sub l).ok w)then some (e.sub l)else none
end Go.Av
namespace Go.Proofs.YtiailccmofdhfaaGreat
open Go Go.Av
set_option maxRecDepth 4000
end Go.Proofs.YtiailccmofdhfaaGreat
namespace Go.Av
@[simp] theorem bytesI_widths:∀ l:List UInt8,widths 1 (bytesI l)=true
  | []=>rfl
  | _::l=>by have:=bytesI_widths l;simp only[widths]at this;simp[bytesI,widths,this]
@[simp] theorem bytesI_take:∀ (n:Nat) (l:List UInt8),(bytesI l).take n=bytesI (l.take n)
  | 0,l=>by simp[bytesI]
  | n+1,[]=>by simp[bytesI]
  | n+1,b::l=>by simp[bytesI,bytesI_take n l]
end Go.Av
namespace Go.Proofs.YtiailccmofdhfaaGreat
open Go Go.Av
set_option maxRecDepth 4000
theorem newReader_eq (l:List UInt8):∃ l':List UInt8,l'.length≤2000∧callA C0 57 [.i (.isl (bytesI l))] []=some (.own 0 0,[Rd l' 0]):=by
 by_cases h:(l.length:Int) > 2000
 ·refine⟨l.take 2000,by simp;omega,?_⟩
  rw[callA_eq rfl Tryz.func57 rfl rfl]
  simp[bytesI_length,h,show(2000:Int)≤l.length by omega]
 ·refine⟨l,by omega,?_⟩
  rw[callA_eq rfl Tryz.func57 rfl rfl]
  simp[bytesI_length,h]
theorem one_eq (l:List UInt8) (p:Int) (h0:0≤p) (h1:p<1000000000) (hl:l.length≤2000) (es:List (List IV)) (hn:0<es.length) (hes:es.length≤100) (hi:∀ r∈es,∃ x,r=[.int x]) :
 ∃ x:Int,callA C0 124 [.own 0 0, .osl 1 1 0 es.length] [Rd l p,some (.arr 1 es)]=some (.int x,[Rd l (p+1),some (.arr 1 es)])∧[.int x]∈es:=by
 obtain⟨v,hv,hv1,hv2⟩:=pick_eq l p es.length h0 h1 hl
 obtain⟨v0,v1⟩:=hv1 (by omega)
 have hlt:v.toNat<es.length:=by omega
 have hm:=List.getElem_mem hlt
 obtain⟨x,hx⟩:=hi _ hm
 refine⟨x,?_,hx ▸ hm⟩
 have hnth:nthE es v.toNat=some [.int x]:=by rw[nthE_eq,List.getElem?_eq_getElem hlt,hx]
 have hw:widths 1 es=true:=by
  rw[widths,List.all_eq_true];intro r hr;obtain⟨y,rfl⟩:=hi r hr;rfl
 rw[callA_eq rfl Tryz.func124 rfl rfl]
 simp[hv,v0,v1,hnth,hw]
theorem randomValue_eq (l:List UInt8) (p:Int) (h0:0≤p) (h1:p<900000000) (hl:l.length≤2000) :
 ∃ (v:Val) (p':Int),callA C0 205 [.own 0 0] [Rd l p]=some (.i (.agg [.bool v.null, .int v.n]),[Rd l p'])∧p≤p'∧p'≤p+2:=by
 obtain⟨v,hv,hv1,hv2⟩:=pick_eq l p 5 h0 (by omega) hl
 by_cases h:v=0
 ·refine⟨⟨true,0⟩,p+1,?_,by omega,by omega⟩
  rw[callA_eq rfl Tryz.func205 rfl rfl]
  simp[hv,h]
 ·obtain⟨x,hx,_⟩:=one_eq l (p+1) (by omega) (by omega) hl [[.int 0],[.int 1],[.int 2],[.int 3],[.int (-1)]] (by simp) (by simp) (by simp)
  refine⟨⟨false,x⟩,p+1+1,?_,by omega,by omega⟩
  rw[callA_eq rfl Tryz.func205 rfl rfl]
  simp at hx
  simp[hv,h,hx]
theorem anyValue_eq (l:List UInt8) (p:Int) (h0:0≤p) (h1:p<900000000) (hl:l.length≤2000) :
 ∃ (v:Val) (p':Int),callA C0 173 [.own 0 0] [Rd l p]=some (.i (.agg [.bool v.null, .int v.n]),[Rd l p'])∧p≤p'∧p'≤p+4:=by
 obtain⟨v,p1,hv,q1,q2⟩:=randomValue_eq l p h0 (by omega) hl
 obtain⟨k,hk,hk1,hk2⟩:=pick_eq l p1 14 (by omega) (by omega) hl
 by_cases g0:k=0
 ·refine⟨⟨true,1⟩,p1+1,?_,by omega,by omega⟩
  rw[callA_eq rfl Tryz.func173 rfl rfl]
  simp[hv,hk,g0]
 ·by_cases g1:k=1
  ·obtain⟨x,hx,_⟩:=one_eq l (p1+1) (by omega) (by omega) hl [[.int 10000],[.int (-10000)],[.int 9999],[.int (-9999)]] (by simp) (by simp) (by simp)
   refine⟨⟨false,x⟩,p1+1+1,?_,by omega,by omega⟩
   rw[callA_eq rfl Tryz.func173 rfl rfl]
   simp at hx
   simp[hv,hk,g1,hx]
  ·refine⟨v,p1+1,?_,by omega,by omega⟩
   rw[callA_eq rfl Tryz.func173 rfl rfl]
   simp[hv,hk,g0,g1]
set_option maxHeartbeats 1000000
theorem rE_leaf {l:List UInt8} (hl:l.length≤2000) {w:Int} {n:Nat} {p k:Int} (h0:0≤p) (h1:p<800000000) (hk:callA C0 98 [.own 0 0, .int 13] [Rd l p]=some (.int k,[Rd l (p+1)])) (hc:n=0∨k > 10) :
 ∃ (e:Ex) (p':Int),callA C0 167 [.own 0 0, .int w, .int n] [Rd l p]=some (.i (.agg e.cells),[Rd l p'])∧p≤p'∧p'≤p+4∧e.size=1:=by
 obtain⟨t,ht,ht1,ht2⟩:=pick_eq l (p+1) 3 (by omega) (by omega) hl
 by_cases g:t > 0
 ·obtain⟨c,hc',-,-⟩:=pick_eq l (p+1+1) w (by omega) (by omega) hl
  refine⟨.mk 1 c Val.zero [],p+1+1+1,?_,by omega,by omega,by simp[Ex.size,Ex.sizeL]⟩
  rw[callA_eq rfl Tryz.func167 rfl rfl]
  by_cases hn:n=0
  ·simp[hk,hn,ht,g,hc',Ex.cells,Ex.cellsL,Val.zero]
  ·have hk10:k > 10:=by omega
   simp[hk,hn,hk10,ht,g,hc',Ex.cells,Ex.cellsL,Val.zero]
 ·obtain⟨v,p2,hv,q1,q2⟩:=randomValue_eq l (p+1+1) (by omega) (by omega) hl
  refine⟨.mk 2 0 v [],p2,?_,by omega,by omega,by simp[Ex.size,Ex.sizeL]⟩
  rw[callA_eq rfl Tryz.func167 rfl rfl]
  by_cases hn:n=0
  ·simp[hk,hn,ht,g,hv]
  ·have hk10:k > 10:=by omega
   simp[hk,hn,hk10,ht,g,hv]
theorem rE_node {l:List UInt8} (hl:l.length≤2000) {w:Int} {n c:Nat} {p k:Int} (h0:0≤p) (h1:p<800000000) (hk:callA C0 98 [.own 0 0, .int 13] [Rd l p]=some (.int k,[Rd l (p+1)])) (hk0:0≤k) (hk1:k≤10) (hn:n<10) (hc:c<100) (hpc:p+(2*c+1)<700000000) (ih:∀ p:Int,0≤p→p+c<700000000→∃ (e:Ex) (p':Int),callA C0 167 [.own 0 0, .int w, .int n] [Rd l p]=some (.i (.agg e.cells),[Rd l p'])∧p≤p'∧p'≤p+c∧e.size≤c) :
 ∃ (e:Ex) (p':Int),callA C0 167 [.own 0 0, .int w, .int ((n+1:Nat):Int)] [Rd l p]=some (.i (.agg e.cells),[Rd l p'])∧p≤p'∧p'≤p+(2*c+1:Nat)∧e.size≤2*c+1:=by
 obtain⟨e1,p1,he1,a1,a2,a3⟩:=ih (p+1) (by omega) (by omega)
 obtain⟨e2,p2,he2,b1,b2,b3⟩:=ih p1 (by omega) (by omega)
 have t1:0≤k.tmod 9:=Int.tmod_nonneg _ hk0
 have t2:k.tmod 9<9:=Int.tmod_lt_of_pos _ (by omega)
 have w1:IntKind.i64.wrap (3+k.tmod 9)=3+k.tmod 9:=wrap64 (by omega) (by omega)
 have w2:IntKind.i64.wrap (n:Int)=n:=wrap64 (by omega) (by omega)
 have w3:IntKind.i64.wrap 2=2:=wrap64 (by omega) (by omega)
 have hn1:¬ ((n:Int)+1=0):=by omega
 have wn:((n:Int)+1 == 0)=false:=by simp[hn1]
 have hkk:¬ (10<k):=by omega
 have hK:kidsK (3+k.tmod 9)=1∨kidsK (3+k.tmod 9)=2:=by
  unfold kidsK;split;· omega
  split;· exact .inl rfl
  split;· exact .inr rfl
  ·omega
 rcases hK with hK|hK
 ·refine⟨.mk (3+k.tmod 9) 0 Val.zero [e1],p1,?_,by omega,by omega,by simp[Ex.size,Ex.sizeL];omega⟩
  rw[callA_eq rfl Tryz.func167 rfl rfl]
  simp[hk,hn1,wn,hkk,w1]
  rw[execA_loop]
  simp[hK,w2,he1,wrap_1]
  rw[execA_loop]
  simp[hK,Ex.cells,Ex.cellsL,Val.zero]
 ·refine⟨.mk (3+k.tmod 9) 0 Val.zero [e1,e2],p2,?_,by omega,by omega,by simp[Ex.size,Ex.sizeL];omega⟩
  rw[callA_eq rfl Tryz.func167 rfl rfl]
  simp[hk,hn1,wn,hkk,w1]
  rw[execA_loop]
  simp[hK,w2,he1,wrap_1]
  rw[execA_loop]
  simp[hK,w2,he2,w3]
  rw[execA_loop]
  simp[hK,Ex.cells,Ex.cellsL,Val.zero]
def costE:Nat→Nat
 | 0=>4
 | n+1=>2*costE n+1
theorem costE_ge:∀ n,4≤costE n
 | 0=>by simp[costE]
 | n+1=>by have:=costE_ge n;simp only[costE];omega
theorem rE (l:List UInt8) (hl:l.length≤2000) (w:Int):∀ n:Nat,costE n<200→n<10→∀ p:Int,0≤p→p+costE n<700000000→∃ (e:Ex) (p':Int),callA C0 167 [.own 0 0, .int w, .int n] [Rd l p]=some (.i (.agg e.cells),[Rd l p'])∧p≤p'∧p'≤p+costE n∧e.size≤costE n
 | 0,hc,hn,p,h0,h1=>by
  obtain⟨k,hk,-,-⟩:=pick_eq l p 13 h0 (by omega) hl
  obtain⟨e,p',a1,a2,a3,a4⟩:=rE_leaf hl (n:=0) (w:=w) h0 (by omega) hk (.inl rfl)
  exact⟨e,p',a1,a2,by simp[costE];omega,by simp[costE];omega⟩
 | n+1,hc,hn,p,h0,h1=>by
  obtain⟨k,hk,hk1,-⟩:=pick_eq l p 13 h0 (by omega) hl
  obtain⟨k0,k1⟩:=hk1 (by omega)
  have hc':costE (n+1)=2*costE n+1:=rfl
  by_cases hg:k > 10
  ·obtain⟨e,p',a1,a2,a3,a4⟩:=rE_leaf hl (n:=n+1) (w:=w) h0 (by omega) hk (.inr hg)
   have h4:=costE_ge n
   exact⟨e,p',a1,a2,by omega,by omega⟩
  ·rw[hc']
   exact rE_node hl h0 (by omega) hk k0 (by omega) (by omega) (by omega) (by omega) fun q q0 q1=>rE l hl w n (by omega) (by omega) q q0 q1
theorem randomExpr3 (l:List UInt8) (hl:l.length≤2000) (w p:Int) (h0:0≤p) (h1:p<600000000):∃ (e:Ex) (p':Int),callA C0 167 [.own 0 0, .int w, .int 3] [Rd l p]=some (.i (.agg e.cells),[Rd l p'])∧p≤p'∧p'≤p+39∧e.size≤39:=rE l hl w 3 (by decide) (by omega) p h0 (by simp only[costE];omega)
theorem randomExpr2 (l:List UInt8) (hl:l.length≤2000) (w p:Int) (h0:0≤p) (h1:p<600000000):∃ (e:Ex) (p':Int),callA C0 167 [.own 0 0, .int w, .int 2] [Rd l p]=some (.i (.agg e.cells),[Rd l p'])∧p≤p'∧p'≤p+19∧e.size≤19:=rE l hl w 2 (by decide) (by omega) p h0 (by simp only[costE];omega)
end Go.Proofs.YtiailccmofdhfaaGreat
namespace Go.Av
end Go.Av
namespace Go.Proofs.YtiailccmofdhfaaGreat
open Go Go.Av
set_option maxRecDepth 4000
set_option maxHeartbeats 1000000
theorem anyExpr_eq (l:List UInt8) (hl:l.length≤2000) (w p:Int) (h0:0≤p) (h1:p<500000000):∃ (e:Ex) (p':Int),callA C0 144 [.own 0 0, .int w] [Rd l p]=some (.i (.agg e.cells),[Rd l p'])∧p≤p'∧p'≤p+50∧e.size≤39:=by
 obtain⟨e,p1,he,a1,a2,a3⟩:=randomExpr3 l hl w p h0 (by omega)
 obtain⟨k,hk,-,-⟩:=pick_eq l p1 18 (by omega) (by omega) hl
 rw[Ex.cells_eq]at he
 by_cases g0:k=0
 ·obtain⟨x,hx,-⟩:=one_eq l (p1+1) (by omega) (by omega) hl [[.int 0],[.int 12],[.int 3],[.int 10]] (by simp) (by simp) (by simp)
  refine⟨.mk x e.col e.val e.kids,p1+1+1,?_,by omega,by omega,by rw[Ex.size_eq]at a3 ⊢;simpa [Ex.kids]using a3⟩
  rw[callA_eq rfl Tryz.func144 rfl rfl]
  simp at hx
  simp[he,hk,g0,hx,Ex.cells]
 ·by_cases g1:k=1
  ·obtain⟨x,hx,-⟩:=one_eq l (p1+1) (by omega) (by omega) hl [[.int (-1)],[.int 6],[.int w]] (by simp) (by simp) (by simp)
   refine⟨.mk e.kind x e.val e.kids,p1+1+1,?_,by omega,by omega,by rw[Ex.size_eq]at a3 ⊢;simpa [Ex.kids]using a3⟩
   rw[callA_eq rfl Tryz.func144 rfl rfl]
   simp at hx
   simp[he,hk,g1,hx,Ex.cells]
  ·by_cases g2:k=2
   ·obtain⟨v,p2,hv,q1,q2⟩:=anyValue_eq l (p1+1) (by omega) (by omega) hl
    refine⟨.mk e.kind e.col v e.kids,p2,?_,by omega,by omega,by rw[Ex.size_eq]at a3 ⊢;simpa [Ex.kids]using a3⟩
    rw[callA_eq rfl Tryz.func144 rfl rfl]
    simp[he,hk,g2,hv,Ex.cells]
   ·refine⟨e,p1+1,?_,by omega,by omega,by omega⟩
    rw[callA_eq rfl Tryz.func144 rfl rfl]
    simp[he,hk,g0,g1,g2,Ex.cells_eq e]
end Go.Proofs.YtiailccmofdhfaaGreat
namespace Go.Av
def colE (i:Nat):Ex:=.mk 1 i Val.zero []
def colsE (n:Nat):List Ex:=(List.range n).map colE
def getE (o:Option Ex):Ex:=o.getD Ex.zero
end Go.Av
namespace Go.Proofs.YtiailccmofdhfaaGreat
open Go Go.Av
set_option maxRecDepth 4000
set_option maxHeartbeats 1000000
def WX (code:List UInt8) (e:Ex) (l:List Ex) (w:Int) (i:Nat):AS :=
 { env:=[(0, .i (.isl (bytesI code))),(2, .bool false),(3, .own 0 0),(4, .i (.isl (Ex.cellsL l))),(5, .int w),(6, .own 1 0),(7, .bool (e.subst l w).isSome),(8, .own 2 0),(9, .bool (e.subst l w).isSome),(10, .osl 3 5 0 i),(11, .int i),(12, .junk),(13, .junk),(16, .bool false),(52, .bool false),(65,jk i (.bool true))],
   st:=[some (.box (impI e.cells)),some (.box (impI (getE (e.subst l w)).cells)),some (.box (impI (getE (e.subst l w)).cells)),some (.arr 5 (Ex.cellsL (colsE i)))] }
theorem wrap_0:IntKind.i64.wrap 0=0:=wrap64 (by omega) (by omega)
@[simp] theorem truthOf_eq (b:Bool) (n:Int):callA C0 175 [.i (.agg [.bool b, .int n])] []=some (.int (Val.tr ⟨b,n⟩),[]):=by
  rw[callA_eq rfl Tryz.func175 rfl rfl]
  cases b
  ·by_cases h:n=0<;>simp[Val.tr,h]
  ·simp[Val.tr]
@[simp] theorem null_eq:callA C0 179 [] []=some (.i (.agg [.bool true, .int 0]),[]):=by
  rw[callA_eq rfl Tryz.func179 rfl rfl]
  simp
@[simp] theorem number_eq (n:Int):callA C0 183 [.int n] []=some (.i (.agg [.bool false, .int n]),[]):=by
  rw[callA_eq rfl Tryz.func183 rfl rfl]
  simp
@[simp] theorem numberOrNull_eq (n:Int):callA C0 222 [.int n] []=some (.i (.agg [.bool (numV n).null, .int (numV n).n]),[]):=by
  rw[callA_eq rfl Tryz.func222 rfl rfl]
  by_cases h:-9999≤n∧n≤9999<;>simp[numV,Val.ok,h]
@[simp] theorem flag_eq (b:Bool):callA C0 210 [.bool b] []=some (.i (.agg [.bool (flagV b).null, .int (flagV b).n]),[]):=by
  rw[callA_eq rfl Tryz.func210 rfl rfl]
  cases b<;>simp[flagV]
@[simp] theorem tvalue_eq (t:Int):callA C0 209 [.int t] []=some (.i (.agg [.bool (trV t).null, .int (trV t).n]),[]):=by
  rw[callA_eq rfl Tryz.func209 rfl rfl]
  by_cases h:t=1
  ·simp[trV,h]
  ·by_cases h2:t=2<;>simp[trV,flagV,h,h2]
theorem combined_eq (k:Int) (a b:Val) (ha:a.ok=true) (hb:b.ok=true):callA C0 208 [.int k, .i (.agg [.bool a.null, .int a.n]), .i (.agg [.bool b.null, .int b.n])] []=some (.i (.agg [.bool (Val.cmb k a b).null, .int (Val.cmb k a b).n]),[]):=by
 rw[callA_eq rfl Tryz.func208 rfl rfl]
 obtain⟨an,a⟩:=a
 obtain⟨bn,b⟩:=b
 have ba:-9999≤a∧a≤9999:=by cases an<;>simp[Val.ok]at ha<;>omega
 have bb:-9999≤b∧b≤9999:=by cases bn<;>simp[Val.ok]at hb<;>omega
 have w1:IntKind.i64.wrap (a+b)=a+b:=wrap64 (by omega) (by omega)
 have w2:IntKind.i64.wrap (a-b)=a-b:=wrap64 (by omega) (by omega)
 have w3:IntKind.i64.wrap (a*b)=a*b:=by
  have h1:a*b≤9999*9999:=by
   have:=Int.mul_le_mul_of_natAbs_le (x:=a) (y:=b) (s:=9999) (t:=9999) (by omega) (by omega)
   omega
  have h2:-(9999*9999)≤a*b:=by
   have:=Int.mul_le_mul_of_natAbs_le (x:=-a) (y:=b) (s:=9999) (t:=9999) (by omega) (by omega)
   rw[Int.neg_mul]at this
   omega
  exact wrap64 (by omega) (by omega)
 by_cases k8:k=8
 ·by_cases hm:Val.tr ⟨bn,b⟩<Val.tr ⟨an,a⟩<;>simp[Val.cmb,k8,hm]
 by_cases k9:k=9
 ·by_cases hm:Val.tr ⟨an,a⟩<Val.tr ⟨bn,b⟩<;>simp[Val.cmb,k9,hm]
 cases an
 ·cases bn
  ·by_cases k3:k=3
   ·simp[Val.cmb,k3,w1]
   by_cases k4:k=4
   ·simp[Val.cmb,k4,w2]
   by_cases k5:k=5
   ·simp[Val.cmb,k5,w3]
   by_cases k6:k=6
   ·simp[Val.cmb,k6]
   ·simp[Val.cmb,k8,k9,k3,k4,k5,k6]
  ·simp[Val.cmb,k8,k9]
 ·simp[Val.cmb,k8,k9]
theorem tr_b (v:Val):0≤v.tr∧v.tr≤2:=by
 unfold Val.tr
 split
 ·omega
 ·split<;>omega
theorem value_col {e:Ex} {row:List Val} {v:Val} (hk:e.kind=1) (h0:0≤e.col) (hv:row[e.col.toNat]?=some v) :
 callA C0 176 [.i (.iref e.cells), .i (.isl (valsL row))] []=some (.i (.agg [.bool v.null, .int v.n]),[]):=by
 rw[callA_eq rfl Tryz.func176 rfl rfl,Ex.cells_eq]
 have r1:=(List.getElem?_eq_some_iff.1 hv).1
 simp[hk,h0,valsL_nth hv,show e.col<row.length by omega]
theorem value_const {e:Ex} {row:List Val} (hk:e.kind=2) :
 callA C0 176 [.i (.iref e.cells), .i (.isl (valsL row))] []=some (.i (.agg [.bool e.val.null, .int e.val.n]),[]):=by
 rw[callA_eq rfl Tryz.func176 rfl rfl,Ex.cells_eq]
 simp[hk]
theorem value_one {e a:Ex} {va:Val} {row:List Val} (hk:e.kind=10∨e.kind=11) (hks:e.kids=[a]) (ha:callA C0 176 [.i (.iref a.cells), .i (.isl (valsL row))] []=some (.i (.agg [.bool va.null, .int va.n]),[])) :
 callA C0 176 [.i (.iref e.cells), .i (.isl (valsL row))] []=some (.i (.agg [.bool (evN row e.kind e.col e.val [va]).null, .int (evN row e.kind e.col e.val [va]).n]),[]):=by
 rw[callA_eq rfl Tryz.func176 rfl rfl,Ex.cells_eq,hks]
 have w:IntKind.i64.wrap (2-Val.tr ⟨va.null,va.n⟩)=2-Val.tr ⟨va.null,va.n⟩:=by
  have:=tr_b ⟨va.null,va.n⟩
  exact wrap64 (by omega) (by omega)
 rcases hk with hk|hk
 ·simp[hk,Ex.cellsL,ha,w,evN]
 ·simp[hk,Ex.cellsL,ha,evN]
theorem value_two {e a b:Ex} {va vb:Val} {row:List Val} (h1:e.kind≠1) (h2:e.kind≠2) (h3:e.kind≠10) (h4:e.kind≠11) (hks:e.kids=[a,b]) (oa:va.ok=true) (ob:vb.ok=true) (ha:callA C0 176 [.i (.iref a.cells), .i (.isl (valsL row))] []=some (.i (.agg [.bool va.null, .int va.n]),[]))
 (hb:callA C0 176 [.i (.iref b.cells), .i (.isl (valsL row))] []=some (.i (.agg [.bool vb.null, .int vb.n]),[])) :
 callA C0 176 [.i (.iref e.cells), .i (.isl (valsL row))] []=some (.i (.agg [.bool (evN row e.kind e.col e.val [va,vb]).null, .int (evN row e.kind e.col e.val [va,vb]).n]),[]):=by
 rw[callA_eq rfl Tryz.func176 rfl rfl,Ex.cells_eq,hks]
 have hc:=combined_eq e.kind va vb oa ob
 simp[h1,h2,h3,h4,Ex.cellsL,ha,hb,hc,evN]
theorem kindCases {e:Ex} {w:Int} (h:e.wf w=true):(e.kind=1∧e.kids=[])∨(e.kind=2∧e.kids=[])∨((e.kind=10∨e.kind=11)∧∃ a,e.kids=[a])∨(e.kind≠1∧e.kind≠2∧e.kind≠10∧e.kind≠11∧∃ a b,e.kids=[a,b]):=by
 rw[Ex.wf_eq]at h
 simp at h
 have hl:=h.1
 rcases kidsCases e.kind with k|k|k|k|k|k|k|k|k|k|k|⟨h1,h2,h3,h4,h5,h6,h7,h8,h9,h10,h11⟩
 case inr.inr.inr.inr.inr.inr.inr.inr.inr.inr.inr =>
  have:kidsK e.kind=-1:=by unfold kidsK;rw[if_neg (by omega),if_neg (by omega),if_neg (by omega)]
  omega
 all_goals (rw[k]at hl;simp[kidsK]at hl;simp[k])
 all_goals first
  | exact hl
  | (cases hk:e.kids with
     | nil=>rw[hk]at hl;simp at hl
     | cons a r=>cases r with
      | nil=>first|exact⟨a,rfl⟩|(rw[hk]at hl;simp at hl)
      | cons b r=>cases r with
       | nil=>first|exact⟨a,b,rfl⟩|(rw[hk]at hl;simp at hl)
       | cons c r=>rw[hk]at hl;simp at hl;omega)
theorem value_eq {m:Int} (row:List Val) (hm:m=row.length) (hr:row.all Val.ok=true):∀ (e:Ex),e.wf m=true→callA C0 176 [.i (.iref e.cells), .i (.isl (valsL row))] []=some (.i (.agg [.bool (e.ev row).null, .int (e.ev row).n]),[]):=by
 intro e
 induction e using Ex.ind with
 | h k c v ks ih =>
  intro h
  rcases kindCases h with ⟨k1,ck⟩|⟨k1,ck⟩|⟨k1,a,ck⟩|⟨k1,k2,k3,k4,a,b,ck⟩
  ·obtain⟨h0,h1,_⟩:=Ex.wf_col h k1
   have hi:c.toNat<row.length:=by simp[Ex.col]at h0 h1;omega
   have hb:=List.getElem?_eq_getElem hi
   have:=value_col (e:=.mk k c v ks) (row:=row) k1 h0 hb
   rw[this]
   simp[Ex.kind]at k1
   simp[Ex.ev,evN,k1,hb]
  ·rw[value_const k1]
   simp[Ex.kind]at k1
   simp[Ex.ev,evN,k1,Ex.val]
  ·have ck':ks=[a]:=ck
   subst ck'
   have hw:=Ex.wf_kids h (k:=a) (by simp[Ex.kids])
   have:=value_one k1 ck (ih a (by simp) hw)
   simpa [Ex.ev,Ex.evL,Ex.kind,Ex.col,Ex.val]using this
  ·have ck':ks=[a,b]:=ck
   subst ck'
   have hwa:=Ex.wf_kids h (k:=a) (by simp[Ex.kids])
   have hwb:=Ex.wf_kids h (k:=b) (by simp[Ex.kids])
   have:=value_two (e:=.mk k c v [a,b]) k1 k2 k3 k4 ck (ev_ok row hm hr a hwa) (ev_ok row hm hr b hwb) (ih a (by simp) hwa) (ih b (by simp) hwb)
   simpa [Ex.ev,Ex.evL,Ex.kind,Ex.col,Ex.val]using this
def VR (row:List Val) (i:Nat):AS :=
 { env:=[(0, .i (.isl (valsL row))),(2, .bool false),(4,if i=0 then .junk else .own 0 0),(8, .bool false),(9, .i (.isl (valsL row))),(10, .int row.length),(11, .int i),(12,jk i (.bool true)),(17,jk i (.bool false))],
   st:=if i=0 then []else [some (.box [.bool ((row[i-1]?).getD Val.zero).null, .int ((row[i-1]?).getD Val.zero).n])] }
theorem validRow_eq (row:List Val) (hl:row.length<1000000000):callA C0 67 [.i (.isl (valsL row))] []=some (.bool (okRow row),[]):=by
 rw[callA_eq rfl Tryz.func67 rfl rfl]
 cases hw:okWidth row.length with
 | false=>simp[hw,okRow]
 | true =>
  simp[hw,okRow]
  obtain⟨j,h1,h2⟩:=upto_bad Val.ok row
  rw[loop_to (VR row) j (by simp[VR])]
  ·rw[execA_loop]
   rcases h2 with ⟨hj,ha⟩|⟨v,h3,h4,h5,ha⟩
   ·by_cases h0:j=0
    ·have:row.length=0:=by omega
     have:row=[]:=List.length_eq_zero_iff.1 this
     subst this;subst h0
     simp[VR,valsL]
    ·have hz:row.length≠0:=by omega
     simp[VR,hj,ha,hz]
   ·have r1:=(List.getElem?_eq_some_iff.1 h3).1
    have r2:=valsL_nth h3
    have r3:Val.ok ⟨v.null,v.n⟩=false:=h5
    by_cases h0:j=0
    ·subst h0;simp[VR,r1,r2,r3,ha]
    ·simp[VR,h0,r1,r2,r3,ha]
  ·intro i hi
   obtain⟨v,h3,h4,h5⟩:=h1 i hi
   have r1:=(List.getElem?_eq_some_iff.1 h3).1
   have r2:=valsL_nth h3
   have r3:Val.ok ⟨v.null,v.n⟩=true:=h5
   obtain⟨_,hv⟩:=List.getElem?_eq_some_iff.1 h3
   have w2:IntKind.i64.wrap ((i:Int)+1)=i+1:=wrap64 (by omega) (by omega)
   by_cases h0:i=0
   ·subst h0;simp[VR,r1,r2,r3,hv,wrap_1]
   ·simp[VR,h0,r1,r2,r3,hv,w2]
end Go.Proofs.YtiailccmofdhfaaGreat
namespace Go.Av
def Val.cmp (a b:Val):Int:=if a.null=true then(if b.null=true then 0 else -1)else if b.null=true then 1 else if a.n<b.n then -1 else if b.n<a.n then 1 else 0
theorem Val.cmp_self (a:Val):Val.cmp a a=0:=by unfold Val.cmp;split<;>simp
theorem Val.cmp_neg (a b:Val):Val.cmp b a=- Val.cmp a b:=by
 unfold Val.cmp
 cases a.null<;>cases b.null<;>simp
 split<;>split<;>(try split)<;>omega
theorem cmp_cases (a b:Val):(Val.cmp a b=-1∧((a.null=true∧b.null=false)∨(a.null=false∧b.null=false∧a.n<b.n)))∨(Val.cmp a b=0∧((a.null=true∧b.null=true)∨(a.null=false∧b.null=false∧a.n=b.n)))∨(Val.cmp a b=1∧((a.null=false∧b.null=true)∨(a.null=false∧b.null=false∧b.n<a.n))):=by
 unfold Val.cmp
 by_cases h1:a.n<b.n<;>by_cases h2:b.n<a.n<;>cases a.null<;>cases b.null<;>simp[h1,h2]<;>omega
theorem Val.cmp_trans {a b c:Val} (h1:Val.cmp a b≤0) (h2:Val.cmp b c≤0):Val.cmp a c≤0∧(Val.cmp a c=0→Val.cmp a b=0∧Val.cmp b c=0):=by
 rcases cmp_cases a b with ⟨e1,q1⟩|⟨e1,q1⟩|⟨e1,q1⟩<;>rcases cmp_cases b c with ⟨e2,q2⟩|⟨e2,q2⟩|⟨e2,q2⟩<;>rcases cmp_cases a c with ⟨e3,q3⟩|⟨e3,q3⟩|⟨e3,q3⟩<;>(try omega) <;>
  (rcases q1 with ⟨x1,x2⟩|⟨x1,x2,x3⟩<;>rcases q2 with ⟨y1,y2⟩|⟨y1,y2,y3⟩<;>rcases q3 with ⟨z1,z2⟩|⟨z1,z2,z3⟩<;>simp_all<;>omega)
theorem Val.cmp_zero {a b:Val} (ha:a.ok=true) (hb:b.ok=true) (h:Val.cmp a b=0):a=b:=by
 obtain⟨x,n⟩:=a;obtain⟨y,k⟩:=b
 unfold Val.cmp at h
 cases x<;>cases y<;>simp[Val.ok]at *<;>(try omega)
 repeat' split at h
 all_goals omega
def rowCmp:List Val→List Val→Int
 | [],[]=>0
 | [],_::_=>-1
 | _::_,[]=>1
 | a::l,b::m=>if Val.cmp a b=0 then rowCmp l m else Val.cmp a b
theorem rowCmp_self:∀ l:List Val,rowCmp l l=0
 | []=>rfl
 | a::l=>by simp[rowCmp,Val.cmp_self,rowCmp_self l]
theorem rowCmp_neg:∀ a b:List Val,rowCmp b a=- rowCmp a b
 | [],[]=>rfl
 | [],_::_=>rfl
 | _::_,[]=>rfl
 | a::l,b::m=>by
  simp only[rowCmp,Val.cmp_neg a b,rowCmp_neg l m]
  split<;>split<;>omega
theorem rowCmp_trans:∀ {a b c:List Val},rowCmp a b≤0→rowCmp b c≤0→rowCmp a c≤0
 | [],_,[],_,_=>by simp[rowCmp]
 | [],_,_::_,_,_=>by simp[rowCmp]
 | _::_,[],_,h,_=>by simp[rowCmp]at h
 | _::_,_::_,[],_,h=>by simp[rowCmp]at h
 | a::l,b::m,c::n,h1,h2=>by
  simp only[rowCmp]at *
  have k1:Val.cmp a b≤0:=by split at h1<;>omega
  have k2:Val.cmp b c≤0:=by split at h2<;>omega
  obtain⟨k3,k4⟩:=Val.cmp_trans k1 k2
  split
  ·rename_i h0
   obtain⟨k5,k6⟩:=k4 h0
   rw[if_pos k5]at h1;rw[if_pos k6]at h2
   exact rowCmp_trans h1 h2
  ·exact k3
theorem rowCmp_zero:∀ {a b:List Val},a.all Val.ok=true→b.all Val.ok=true→rowCmp a b=0→a=b
 | [],[],_,_,_=>rfl
 | [],_::_,_,_,h=>by simp[rowCmp]at h
 | _::_,[],_,_,h=>by simp[rowCmp]at h
 | a::l,b::m,h1,h2,h=>by
  simp only[List.all_cons,Bool.and_eq_true]at h1 h2
  simp only[rowCmp]at h
  split at h
  ·rename_i h0
   rw[Val.cmp_zero h1.1 h2.1 h0,rowCmp_zero h1.2 h2.2 h]
  ·rename_i h0;exact absurd h h0
def rowLe (a b:List Val):Bool:=decide (rowCmp a b≤0)
theorem rowLe_total (a b:List Val):rowLe a b=true∨rowLe b a=true:=by
 unfold rowLe;have:=rowCmp_neg a b;simp;omega
theorem rowLe_refl (a:List Val):rowLe a a=true:=by simp[rowLe,rowCmp_self]
theorem rowLe_trans {a b c:List Val} (h1:rowLe a b=true) (h2:rowLe b c=true):rowLe a c=true:=by
 unfold rowLe at *
 simp only[decide_eq_true_eq]at *
 exact rowCmp_trans h1 h2
theorem rowLe_anti {a b:List Val} (ha:a.all Val.ok=true) (hb:b.all Val.ok=true) (h1:rowLe a b=true) (h2:rowLe b a=true):a=b:=by
 unfold rowLe at *
 simp only[decide_eq_true_eq]at *
 have:=rowCmp_neg a b
 exact rowCmp_zero ha hb (by omega)
theorem rowLe_not {a b:List Val} (h:rowLe a b=false):rowLe b a=true:=(rowLe_total a b).resolve_left (by simp[h])
abbrev Srt (l:List (List Val)):Prop:=l.Pairwise fun a b=>rowLe a b=true
abbrev oks (l:List (List Val)):Prop:=∀ r∈l,r.all Val.ok=true
def insR (l:List (List Val)) (r:List Val):List (List Val):=l.takeWhile (fun x=>rowLe x r)++r::l.dropWhile (fun x=>rowLe x r)
theorem insR_perm (l:List (List Val)) (r:List Val):(insR l r).Perm (r::l):=by
 unfold insR
 have:=List.takeWhile_append_dropWhile (p:=fun x=>rowLe x r) (l:=l)
 refine List.perm_middle.trans ?_
 rw[this]
theorem mem_takeWhile_imp {α:Type} {p:α→Bool}:∀ {l:List α} {x:α},x∈l.takeWhile p→p x=true∧x∈l
 | [],x,h=>by simp at h
 | a::l,x,h=>by
  rw[List.takeWhile_cons]at h
  split at h
  ·rename_i ha
   rcases List.mem_cons.1 h with rfl|h
   ·exact⟨ha,by simp⟩
   ·obtain⟨h1,h2⟩:=mem_takeWhile_imp h;exact⟨h1,List.mem_cons_of_mem _ h2⟩
  ·simp at h
theorem takeWhile_sub {α:Type} (p:α→Bool) (l:List α):(l.takeWhile p).Sublist l:=List.takeWhile_sublist p
theorem dropWhile_gt {r:List Val}:∀ {l:List (List Val)},Srt l→∀ x∈l.dropWhile (fun x=>rowLe x r),rowLe r x=true
 | [],_,x,h=>by simp at h
 | a::l,hs,x,h=>by
  rw[List.dropWhile_cons]at h
  have hs:=List.pairwise_cons.1 hs
  split at h
  ·exact dropWhile_gt hs.2 x h
  ·rename_i ha
   have hra:=rowLe_not (Bool.eq_false_iff.2 ha)
   rcases List.mem_cons.1 h with rfl|h
   ·exact hra
   ·exact rowLe_trans hra (hs.1 x h)
theorem insR_srt {l:List (List Val)} {r:List Val} (h:Srt l):Srt (insR l r):=by
 unfold insR
 rw[Srt,List.pairwise_append,List.pairwise_cons]
 refine⟨h.sublist (takeWhile_sub _ _),⟨fun x hx=>dropWhile_gt h x hx,h.sublist (List.dropWhile_sublist _)⟩,fun a ha b hb=>?_⟩
 have h1:=(mem_takeWhile_imp ha).1
 rcases List.mem_cons.1 hb with rfl|hb
 ·exact h1
 ·exact rowLe_trans h1 (dropWhile_gt h b hb)
def sortR (l:List (List Val)):List (List Val):=l.foldl insR []
theorem foldl_insR:∀ (l acc:List (List Val)),Srt acc→Srt (l.foldl insR acc)∧(l.foldl insR acc).Perm (l++acc)
 | [],acc,h=>⟨h, .refl _⟩
 | r::l,acc,h=>by
  obtain⟨h1,h2⟩:=foldl_insR l (insR acc r) (insR_srt h)
  refine⟨h1,h2.trans ?_⟩
  refine(List.Perm.append_left l (insR_perm acc r)).trans ?_
  exact List.perm_middle
theorem sortR_srt (l:List (List Val)):Srt (sortR l):=(foldl_insR l [] .nil).1
theorem sortR_perm (l:List (List Val)):(sortR l).Perm l:=by have:=(foldl_insR l [] .nil).2;rwa [List.append_nil]at this
theorem sortR_length (l:List (List Val)):(sortR l).length=l.length:=(sortR_perm l).length_eq
theorem srt_uniq:∀ {l m:List (List Val)},l.Perm m→Srt l→Srt m→oks l→l=m
 | [],m,hp,_,_,_=>by simpa using hp.symm.eq_nil.symm
 | a::l,[],hp,_,_,_=>by simpa using hp.eq_nil
 | a::l,b::m,hp,h1,h2,ho=>by
  have h1':=List.pairwise_cons.1 h1
  have h2':=List.pairwise_cons.1 h2
  have hb:b∈a::l:=hp.mem_iff.2 (by simp)
  have ha:a∈b::m:=hp.mem_iff.1 (by simp)
  have k1:rowLe a b=true:=by
   rcases List.mem_cons.1 hb with rfl|hb
   ·exact rowLe_refl _
   ·exact h1'.1 b hb
  have k2:rowLe b a=true:=by
   rcases List.mem_cons.1 ha with rfl|ha
   ·exact rowLe_refl _
   ·exact h2'.1 a ha
  have e:=rowLe_anti (ho a (by simp)) (ho b hb) k1 k2
  subst e
  rw[srt_uniq (List.Perm.cons_inv hp) h1'.2 h2'.2 fun r hr=>ho r (List.mem_cons_of_mem _ hr)]
theorem oks_perm {l m:List (List Val)} (hp:l.Perm m) (h:oks l):oks m:=fun r hr=>h r (hp.mem_iff.2 hr)
theorem sortR_eq {l m:List (List Val)} (hp:m.Perm l) (hs:Srt m) (ho:oks l):m=sortR l :=
 srt_uniq (hp.trans (sortR_perm l).symm) hs (sortR_srt l) (oks_perm hp.symm ho)
theorem sortR_id {l:List (List Val)} (hs:Srt l) (ho:oks l):sortR l=l:=(sortR_eq (.refl l) hs ho).symm
theorem sortR_congr {l m:List (List Val)} (hp:l.Perm m) (ho:oks l):sortR l=sortR m :=
 sortR_eq ((sortR_perm l).trans hp) (sortR_srt l) (oks_perm hp ho)
theorem sortR_mem {l:List (List Val)} {r:List Val}:r∈sortR l↔r∈l:=(sortR_perm l).mem_iff
def rowsL (l:List (List Val)):List (List IV):=l.map fun r=>[.isl (valsL r)]
@[simp] theorem rowsL_length (l:List (List Val)):(rowsL l).length=l.length:=by simp[rowsL]
theorem rowsL_nil:rowsL []=[]:=rfl
theorem rowsL_cons (r:List Val) (l:List (List Val)):rowsL (r::l)=[.isl (valsL r)]::rowsL l:=rfl
theorem rowsL_nth:∀ {l:List (List Val)} {i:Nat} {r:List Val},l[i]?=some r→nthE (rowsL l) i=some [.isl (valsL r)]
 | [],_,_,h=>by simp at h
 | a::l,0,r,h=>by simp at h;subst h;simp[rowsL,nthE]
 | a::l,i+1,r,h=>by simp only[rowsL,List.map_cons,nthE];exact rowsL_nth (l:=l) (by simpa using h)
@[simp] theorem rowsL_widths (l:List (List Val)):widths 1 (rowsL l)=true:=by simp[rowsL,widths]
theorem rowsL_append (a b:List (List Val)):rowsL (a++b)=rowsL a++rowsL b:=by simp[rowsL]
@[simp] theorem rowsL_take (n:Nat) (l:List (List Val)):(rowsL l).take n=rowsL (l.take n):=by simp[rowsL,List.map_take]
@[simp] theorem rowsL_drop (n:Nat) (l:List (List Val)):(rowsL l).drop n=rowsL (l.drop n):=by simp[rowsL,List.map_drop]
structure Tbl where
 w:Int
 rows:List (List Val)
def Tbl.cells (t:Tbl):List IV:=[.int t.w, .isl (rowsL t.rows)]
def tblsL (l:List Tbl):List (List IV):=l.map Tbl.cells
@[simp] theorem tblsL_length (l:List Tbl):(tblsL l).length=l.length:=by simp[tblsL]
theorem tblsL_nth:∀ {l:List Tbl} {i:Nat} {t:Tbl},l[i]?=some t→nthE (tblsL l) i=some [.int t.w, .isl (rowsL t.rows)]
 | [],_,_,h=>by simp at h
 | a::l,0,r,h=>by simp at h;subst h;simp[tblsL,nthE,Tbl.cells]
 | a::l,i+1,r,h=>by simp only[tblsL,List.map_cons,nthE];exact tblsL_nth (l:=l) (by simpa using h)
theorem tblsL_append (a b:List Tbl):tblsL (a++b)=tblsL a++tblsL b:=by simp[tblsL]
def tab (w:Int) (rows:List (List Val)):Tbl:=if 400<rows.length then⟨w,[]⟩else⟨w,sortR rows⟩
def chainB:List (List Val)→Bool
 | a::b::l=>rowLe a b && chainB (b::l)
 | _=>true
theorem chainB_srt:∀ {l:List (List Val)},chainB l=true↔Srt l
 | []=>by simp[chainB]
 | [a]=>by simp[chainB]
 | a::b::l=>by
  rw[chainB,Bool.and_eq_true,chainB_srt,Srt,Srt,List.pairwise_cons (a:=a)]
  constructor
  ·rintro⟨h1,h2⟩
   refine⟨fun x hx=>?_,h2⟩
   rcases List.mem_cons.1 hx with rfl|hx
   ·exact h1
   ·exact rowLe_trans h1 ((List.pairwise_cons.1 h2).1 x hx)
  ·rintro⟨h1,h2⟩
   exact⟨h1 b (by simp),h2⟩
def rowOk (w:Int) (r:List Val):Bool:=decide ((r.length:Int)=w) && r.all Val.ok
def Tbl.ok (t:Tbl):Bool:=okWidth t.w && (decide (t.rows.length≤400) && (t.rows.all (rowOk t.w) && chainB t.rows))
def isT (e:Ex) (r:List Val):Bool:=decide ((e.ev r).tr=2)
def nullsV (n:Int):List Val:=List.replicate n.toNat ⟨true,0⟩
def joinM (e:Ex) (rs:List (List Val)) (r:List Val):List (List Val):=(rs.map (r ++ ·)).filter (isT e)
def joinL (e:Ex) (outer:Bool) (w:Int) (rs:List (List Val)) (r:List Val):List (List Val) :=
 if(outer && (joinM e rs r).isEmpty)=true then [r++nullsV w]else joinM e rs r
def joinR (e:Ex) (outer:Bool) (a b:Tbl):List (List Val):=a.rows.flatMap (joinL e outer b.w b.rows)
def dd:List Val→List (List Val)→List (List Val)
 | _,[]=>[]
 | p,a::l=>if rowCmp p a=0 then dd a l else a::dd a l
def dedup:List (List Val)→List (List Val)
 | []=>[]
 | a::l=>a::dd a l
def pickV (cs:List Int) (r:List Val):List Val:=cs.map fun c=>(r[c.toNat]?).getD Val.zero
def bump (key:List Val):List (List Val×Nat)→List (List Val×Nat)
 | []=>[(key,1)]
 | g::l=>if rowCmp g.1 key=0 then(g.1,g.2+1)::l else g::bump key l
def groups (cs:List Int) (rows:List (List Val)):List (List Val×Nat):=rows.foldl (fun acc r=>bump (pickV cs r) acc) []
def numRow (g:List Val×Nat):List Val:=g.1++[⟨false,(g.2:Int)⟩]
def groupRows (cs:List Int) (rows:List (List Val)):List (List Val):=(groups cs rows).map numRow
def tblZ:Tbl:=⟨0,[]⟩
def exO (es:List Ex):Ex:=(es[0]?).getD (.mk 0 0 Val.zero [])
def evK (db:List Tbl) (k t:Int) (es:List Ex) (cs:List Int) (a b:Tbl):Tbl :=
 if k=1 then tab ((db[t.toNat]?).getD tblZ).w ((db[t.toNat]?).getD tblZ).rows
 else if k=2 then tab a.w (a.rows.filter (isT (exO es)))
 else if k=3 then tab es.length (a.rows.map fun r=>es.map (Ex.ev r))
 else if k=4∨k=5 then tab (a.w+b.w) (joinR (exO es) (decide (k=5)) a b)
 else if k=6 then tab a.w (a.rows++b.rows)
 else if k=7 then tab a.w (dedup a.rows)
 else tab ((cs.length:Int)+1) (groupRows cs a.rows)
mutual
def Pn.evP (db:List Tbl):Pn→Tbl
 | .mk k t es cs ks=>evK db k t es cs (((Pn.evPL db ks)[0]?).getD tblZ) (((Pn.evPL db ks)[1]?).getD tblZ)
def Pn.evPL (db:List Tbl):List Pn→List Tbl
 | []=>[]
 | p::ps=>Pn.evP db p::Pn.evPL db ps
end
theorem Pn.evPL_map (db:List Tbl):∀ l:List Pn,Pn.evPL db l=l.map (Pn.evP db)
 | []=>by simp[Pn.evPL]
 | p::l=>by simp[Pn.evPL,Pn.evPL_map db l]
theorem Pn.evP_eq (db:List Tbl) (p:Pn):p.evP db=evK db p.kind p.table p.exprs p.cols ((p.kids[0]?.map (Pn.evP db)).getD tblZ) ((p.kids[1]?.map (Pn.evP db)).getD tblZ):=by
 cases p;simp[Pn.evP,Pn.evPL_map,Pn.kind,Pn.table,Pn.exprs,Pn.cols,Pn.kids]
theorem evP_scan (db:List Tbl) (t:Int):(Pn.scan t).evP db=tab ((db[t.toNat]?).getD tblZ).w ((db[t.toNat]?).getD tblZ).rows:=by
 rw[Pn.evP_eq];rfl
theorem evP_filt (db:List Tbl) (e:Ex) (a:Pn):(filt e a).evP db=tab (a.evP db).w ((a.evP db).rows.filter (isT e)):=by
 rw[Pn.evP_eq];rfl
theorem evP_proj (db:List Tbl) (es:List Ex) (a:Pn):(proj es a).evP db=tab es.length ((a.evP db).rows.map fun r=>es.map (Ex.ev r)):=by
 rw[Pn.evP_eq];rfl
theorem evP_pair (db:List Tbl) {k:Int} (hk:k=4∨k=5) (e:Ex) (a b:Pn):(pairP k e a b).evP db=tab ((a.evP db).w+(b.evP db).w) (joinR e (decide (k=5)) (a.evP db) (b.evP db)):=by
 rw[Pn.evP_eq];rcases hk with rfl|rfl<;>rfl
theorem evP_union (db:List Tbl) (a b:Pn):(unionP a b).evP db=tab (a.evP db).w ((a.evP db).rows++(b.evP db).rows):=by
 rw[Pn.evP_eq];rfl
theorem evP_dist (db:List Tbl) (a:Pn):(Pn.mk 7 0 [] [] [a]).evP db=tab (a.evP db).w (dedup (a.evP db).rows):=by
 rw[Pn.evP_eq];rfl
theorem evP_group (db:List Tbl) (cs:List Int) (a:Pn):(Pn.mk 8 0 [] cs [a]).evP db=tab ((cs.length:Int)+1) (groupRows cs (a.evP db).rows):=by
 rw[Pn.evP_eq];rfl
mutual
def Pn.cost (db:List Tbl):Pn→Nat
 | .mk k t es cs ks=>Pn.costL db ks+((Pn.mk k t es cs ks).evP db).rows.length
def Pn.costL (db:List Tbl):List Pn→Nat
 | []=>0
 | p::ps=>Pn.cost db p+Pn.costL db ps
end
theorem Pn.cost_eq (db:List Tbl) (p:Pn):p.cost db=Pn.costL db p.kids+(p.evP db).rows.length:=by
 cases p;simp[Pn.cost,Pn.kids]
theorem tab_w (w:Int) (rows:List (List Val)):(tab w rows).w=w:=by unfold tab;split<;>rfl
theorem tab_rows {w:Int} {rows:List (List Val)} (h:rows.length≤400):(tab w rows).rows=sortR rows:=by unfold tab;rw[if_neg (by omega)]
theorem tab_len (w:Int) (rows:List (List Val)):(tab w rows).rows.length≤400∧(tab w rows).rows.length≤rows.length:=by
 unfold tab;split
 ·simp
 ·simp only[sortR_length];omega
theorem tab_mem {w:Int} {rows:List (List Val)} {r:List Val} (h:r∈(tab w rows).rows):r∈rows:=by
 unfold tab at h;split at h
 ·simp at h
 ·exact sortR_mem.1 h
theorem Tbl.ok_iff (t:Tbl):t.ok=true↔okWidth t.w=true∧t.rows.length≤400∧(∀ r∈t.rows,rowOk t.w r=true)∧Srt t.rows:=by
 unfold Tbl.ok
 simp only[Bool.and_eq_true,decide_eq_true_eq,List.all_eq_true,chainB_srt]
theorem tab_ok {w:Int} {rows:List (List Val)} (hw:okWidth w=true) (h:∀ r∈rows,rowOk w r=true):(tab w rows).ok=true:=by
 rw[Tbl.ok_iff,tab_w]
 refine⟨hw,(tab_len _ _).1,fun r hr=>h r (tab_mem hr),?_⟩
 unfold tab;split
 ·exact .nil
 ·exact sortR_srt _
theorem rowOk_ok {w:Int} {r:List Val} (h:rowOk w r=true):r.all Val.ok=true:=by unfold rowOk at h;simp only[Bool.and_eq_true]at h;exact h.2
theorem rowOk_len {w:Int} {r:List Val} (h:rowOk w r=true):(r.length:Int)=w:=by unfold rowOk at h;simp only[Bool.and_eq_true,decide_eq_true_eq]at h;exact h.1
theorem Tbl.ok_oks {t:Tbl} (h:t.ok=true):oks t.rows:=fun r hr=>rowOk_ok ((Tbl.ok_iff t).1 h |>.2.2.1 r hr)
theorem tab_id {t:Tbl} (h:t.ok=true):tab t.w t.rows=t:=by
 obtain⟨h1,h2,h3,h4⟩:=(Tbl.ok_iff t).1 h
 unfold tab
 rw[if_neg (by omega),sortR_id h4 (Tbl.ok_oks h)]
theorem ev_row {e:Ex} {w:Int} {r:List Val} (hr:rowOk w r=true) (he:e.ok w=true):(e.ev r).ok=true:=by
 have hl:=rowOk_len hr
 exact ev_ok r hl.symm (rowOk_ok hr) e (by simp[Ex.ok,Ex.vB_eq]at he;exact he.2.1)
theorem dd_sub:∀ (p:List Val) (l:List (List Val)),(dd p l).Sublist l
 | _,[]=>.slnil
 | p,a::l=>by
  simp only[dd]
  split
  ·exact(dd_sub a l).cons a
  ·exact(dd_sub a l).cons_cons a
theorem dedup_sub:∀ l:List (List Val),(dedup l).Sublist l
 | []=>.slnil
 | a::l=>(dd_sub a l).cons_cons a
theorem bump_len (key:List Val):∀ l:List (List Val×Nat),(bump key l).length≤l.length+1
 | []=>by simp[bump]
 | g::l=>by simp only[bump];split<;>simp[bump_len key l]
theorem bump_keys (key:List Val) (q:List Val→Prop) (hk:q key):∀ l:List (List Val×Nat),(∀ g∈l,q g.1)→∀ g∈bump key l,q g.1
 | [],_,g,h=>by simp[bump]at h;subst h;exact hk
 | a::l,hl,g,h=>by
  simp only[bump]at h
  split at h
  ·rcases List.mem_cons.1 h with rfl|h
   ·exact hl a (by simp)
   ·exact hl g (by simp[h])
  ·rcases List.mem_cons.1 h with rfl|h
   ·exact hl g (by simp)
   ·exact bump_keys key q hk l (fun x hx=>hl x (by simp[hx])) g h
theorem bump_sum (key:List Val):∀ l:List (List Val×Nat),((bump key l).map (·.2)).sum=(l.map (·.2)).sum+1
 | []=>by simp[bump]
 | a::l=>by
  simp only[bump]
  split
  ·simp;omega
  ·simp only[List.map_cons,List.sum_cons,bump_sum key l];omega
theorem foldl_bump (cs:List Int) (q:List Val→Prop):∀ (rows:List (List Val)) (acc:List (List Val×Nat)),(∀ r∈rows,q (pickV cs r))→(∀ g∈acc,q g.1) →
 (∀ g∈rows.foldl (fun acc r=>bump (pickV cs r) acc) acc,q g.1)∧(rows.foldl (fun acc r=>bump (pickV cs r) acc) acc).length≤rows.length+acc.length∧((rows.foldl (fun acc r=>bump (pickV cs r) acc) acc).map (·.2)).sum=rows.length+(acc.map (·.2)).sum
 | [],acc,_,h=>⟨h,by simp,by simp⟩
 | r::rows,acc,hr,h=>by
  obtain⟨h1,h2,h3⟩:=foldl_bump cs q rows (bump (pickV cs r) acc) (fun x hx=>hr x (by simp[hx])) (bump_keys _ q (hr r (by simp)) acc h)
  have:=bump_len (pickV cs r) acc
  have:=bump_sum (pickV cs r) acc
  refine⟨h1,by simp only[List.foldl_cons,List.length_cons];omega,by simp only[List.foldl_cons,List.length_cons];omega⟩
theorem groups_facts (cs:List Int) (q:List Val→Prop) (rows:List (List Val)) (h:∀ r∈rows,q (pickV cs r)):(∀ g∈groups cs rows,q g.1)∧(groups cs rows).length≤rows.length∧((groups cs rows).map (·.2)).sum=rows.length:=by
 have:=foldl_bump cs q rows [] h (by simp)
 simpa [groups]using this
theorem mem_sum_le {l:List Nat} {n:Nat} (h:n∈l):n≤l.sum:=by
 induction l with
 | nil=>simp at h
 | cons a l ih=>rcases List.mem_cons.1 h with rfl|h<;>simp<;>(try have:=ih h)<;>omega
theorem groups_cnt (cs:List Int) {rows:List (List Val)} {g:List Val×Nat} (h:g∈groups cs rows):g.2≤rows.length:=by
 have h1:=(groups_facts cs (fun _=>True) rows (fun _ _=>trivial)).2.2
 have h2:g.2∈(groups cs rows).map (·.2):=List.mem_map.2 ⟨g,h,rfl⟩
 have:=mem_sum_le h2
 omega
theorem pickV_ok {cs:List Int} {w:Int} {r:List Val} (hr:rowOk w r=true) (hc:∀ c∈cs,0≤c∧c<w):rowOk cs.length (pickV cs r)=true:=by
 unfold rowOk
 simp only[Bool.and_eq_true,decide_eq_true_eq,pickV,List.length_map,List.all_eq_true,List.mem_map,true_and]
 rintro v ⟨c,hc1,rfl⟩
 have hl:=rowOk_len hr
 obtain⟨h0,h1⟩:=hc c hc1
 have hi:c.toNat<r.length:=by omega
 rw[List.getElem?_eq_getElem hi]
 exact List.all_eq_true.1 (rowOk_ok hr) _ (List.getElem_mem hi)
theorem colsOk_mem {w:Int}:∀ {cs:List Int} (m:Int),((cs.zip (m::cs)).all fun x=>decide (x.2<x.1∧x.1<w))=true→(∀ c∈cs,m<c∧c<w)
 | [],m,_,c,hc=>by simp at hc
 | a::cs,m,h,c,hc=>by
  simp only[List.zip_cons_cons,List.all_cons,Bool.and_eq_true,decide_eq_true_eq]at h
  rcases List.mem_cons.1 hc with rfl|hc
  ·exact h.1
  ·have:=colsOk_mem (w:=w) a h.2 c hc;omega
theorem colsOk_rng {w:Int} {cs:List Int} (h:colsOk w cs=true):∀ c∈cs,0≤c∧c<w:=by
 intro c hc
 have:=colsOk_mem (w:=w) (-1) h c hc
 omega
theorem rowOk_append {v w:Int} {r s:List Val} (h1:rowOk v r=true) (h2:rowOk w s=true):rowOk (v+w) (r++s)=true:=by
 unfold rowOk at *
 simp only[Bool.and_eq_true,decide_eq_true_eq,List.length_append,List.all_append]at *
 refine⟨by omega,h1.2,h2.2⟩
theorem nullsV_ok {w:Int} (h:0≤w):rowOk w (nullsV w)=true:=by
 unfold rowOk nullsV
 simp only[Bool.and_eq_true,decide_eq_true_eq,List.length_replicate,List.all_eq_true]
 refine⟨by omega,fun v hv=>?_⟩
 rw[(List.mem_replicate.1 hv).2];rfl
theorem joinM_mem {e:Ex} {rs:List (List Val)} {r x:List Val} (h:x∈joinM e rs r):∃ s∈rs,x=r++s∧isT e x=true:=by
 unfold joinM at h
 obtain⟨h1,h2⟩:=List.mem_filter.1 h
 obtain⟨s,hs,rfl⟩:=List.mem_map.1 h1
 exact⟨s,hs,rfl,h2⟩
theorem joinR_ok {e:Ex} {o:Bool} {a b:Tbl} (ha:a.ok=true) (hb:b.ok=true):∀ r∈joinR e o a b,rowOk (a.w+b.w) r=true:=by
 intro r hr
 obtain⟨x,hx,hr⟩:=List.mem_flatMap.1 hr
 have h1:=((Tbl.ok_iff a).1 ha).2.2.1 x hx
 unfold joinL at hr
 split at hr
 ·simp at hr;subst hr
  have:0≤b.w:=by have:=((Tbl.ok_iff b).1 hb).1;unfold okWidth at this;simp at this;omega
  exact rowOk_append h1 (nullsV_ok this)
 ·obtain⟨s,hs,rfl,_⟩:=joinM_mem hr
  exact rowOk_append h1 (((Tbl.ok_iff b).1 hb).2.2.1 s hs)
theorem okWidth_iff (n:Int):okWidth n=true↔1≤n∧n≤6:=by unfold okWidth;simp
theorem ev_good {ws:List Int} {db:List Tbl} (hws:ws=db.map Tbl.w) (hdb:∀ t∈db,t.ok=true):∀ (p:Pn) (lv:Nat),p.wd ws lv≠0→(p.evP db).ok=true∧(p.evP db).w=p.wd ws lv:=by
 intro p
 induction p using Pn.ind with
 | h k t es cs ks ih =>
  intro lv h
  have hs:=wd_shape h
  generalize hp:Pn.mk k t es cs ks=p at hs h
  have hk:ks=p.kids:=by rw[← hp];rfl
  subst hk
  cases hs with
  | scan t W h0 h1 hW =>
   rw[hws,List.getElem?_map]at h1
   obtain⟨s,hs,rfl⟩:=Option.map_eq_some_iff.1 h1
   have hok:=hdb s (List.mem_of_getElem? hs)
   rw[evP_scan,hs]
   simp only[Option.getD_some]
   rw[tab_id hok]
   refine⟨hok,?_⟩
   rw[Pn.wd_eq]
   simp[Pn.scan,Pn.headOk,nKids,nExprs,h0,hws,hs]
  | filt m e a h1 ha he =>
   subst h1
   obtain⟨k1,k2⟩:=ih a (by simp[filt]) m ha
   have hw:(filt e a).wd ws (m+1)=a.wd ws m:=by rw[wd_filt,if_pos ⟨ha,he⟩]
   rw[evP_filt,hw,tab_w]
   obtain⟨g1,g2,g3,g4⟩:=(Tbl.ok_iff _).1 k1
   exact⟨tab_ok g1 fun r hr=>g3 r (List.mem_filter.1 hr).1,k2⟩
  | proj m es a h1 ha hl he =>
   subst h1
   obtain⟨k1,k2⟩:=ih a (by simp[proj]) m ha
   have hw:(proj es a).wd ws (m+1)=es.length:=by rw[wd_proj,if_pos ⟨ha,hl,List.all_eq_true.2 he⟩]
   rw[evP_proj,hw,tab_w]
   obtain⟨g1,g2,g3,g4⟩:=(Tbl.ok_iff _).1 k1
   refine⟨tab_ok hl fun r hr=>?_,rfl⟩
   obtain⟨x,hx,rfl⟩:=List.mem_map.1 hr
   have:=g3 x hx
   unfold rowOk
   simp only[List.length_map,Bool.and_eq_true,decide_eq_true_eq,true_and,List.all_eq_true,List.mem_map]
   rintro v ⟨e,hem,rfl⟩
   exact ev_row this (by rw[k2];exact he e hem)
  | pair m k e a b h1 hk ha hb hl he =>
   subst h1
   obtain⟨k1,k2⟩:=ih a (by simp[pairP]) m ha
   obtain⟨k3,k4⟩:=ih b (by simp[pairP]) m hb
   have hw:(pairP k e a b).wd ws (m+1)=a.wd ws m+b.wd ws m:=by rw[wd_pair hk,if_pos ⟨ha,hb,hl,he⟩]
   rw[evP_pair db hk,hw,tab_w,k2,k4]
   have g1:=(okWidth_iff _).1 ((Tbl.ok_iff _).1 k1).1
   have g2:=(okWidth_iff _).1 ((Tbl.ok_iff _).1 k3).1
   refine⟨tab_ok ((okWidth_iff _).2 (by omega)) fun r hr=>?_,rfl⟩
   have:=joinR_ok k1 k3 r hr
   rwa [k2,k4]at this
  | union m a b h1 ha hb =>
   subst h1
   obtain⟨k1,k2⟩:=ih a (by simp[unionP]) m ha
   obtain⟨k3,k4⟩:=ih b (by simp[unionP]) m (by rw[hb];exact ha)
   have hw:(unionP a b).wd ws (m+1)=a.wd ws m:=by rw[wd_union,if_pos ⟨ha,hb.symm⟩]
   rw[evP_union,hw,tab_w]
   obtain⟨g1,g2,g3,g4⟩:=(Tbl.ok_iff _).1 k1
   obtain⟨e1,e2,e3,e4⟩:=(Tbl.ok_iff _).1 k3
   refine⟨tab_ok g1 fun r hr=>?_,k2⟩
   rcases List.mem_append.1 hr with hr|hr
   ·exact g3 r hr
   ·have:=e3 r hr;rwa [k4,hb,← k2]at this
  | dist m a h1 ha =>
   subst h1
   obtain⟨k1,k2⟩:=ih a (by simp) m ha
   have hw:(Pn.mk 7 0 [] [] [a]).wd ws (m+1)=a.wd ws m:=by rw[wd_one (by omega),if_pos ⟨by simp[Pn.headOk,nKids,nExprs],ha⟩];simp[wdOver]
   rw[evP_dist,hw,tab_w]
   obtain⟨g1,g2,g3,g4⟩:=(Tbl.ok_iff _).1 k1
   exact⟨tab_ok g1 fun r hr=>g3 r ((dedup_sub _).subset hr),k2⟩
  | group m cs a h1 ha hc ho =>
   subst h1
   obtain⟨k1,k2⟩:=ih a (by simp) m ha
   have hw:(Pn.mk 8 0 [] cs [a]).wd ws (m+1)=(cs.length:Int)+1:=by rw[wd_one (by omega),if_pos ⟨by simp[Pn.headOk,nKids,nExprs],ha⟩];simp[wdOver,hc,ho]
   rw[evP_group,hw,tab_w]
   obtain⟨g1,g2,g3,g4⟩:=(Tbl.ok_iff _).1 k1
   refine⟨tab_ok ((okWidth_iff _).2 (by omega)) fun r hr=>?_,rfl⟩
   obtain⟨g,hg,rfl⟩:=List.mem_map.1 hr
   have h2:=(groups_facts cs (fun r=>rowOk cs.length r=true) (a.evP db).rows (fun r hr=>pickV_ok (g3 r hr) (by rw[k2];exact colsOk_rng ho))).1 g hg
   have h3:=groups_cnt cs hg
   refine rowOk_append h2 ?_
   unfold rowOk
   simp[Val.ok];omega
theorem perm_of_nodup {α:Type} [DecidableEq α] {l m:List α} (hl:l.Nodup) (hm:m.Nodup) (h:∀ a,a∈l↔a∈m):l.Perm m:=by
 rw[List.perm_iff_count]
 intro a
 by_cases ha:a∈l
 ·rw[hl.count,hm.count,if_pos ha,if_pos ((h a).1 ha)]
 ·rw[hl.count,hm.count,if_neg ha,if_neg (fun h'=>ha ((h a).2 h'))]
theorem tab_dedup {t:Tbl} (h:t.ok=true):tab t.w (dedup t.rows)=⟨t.w,dedup t.rows⟩:=by
 obtain⟨h1,h2,h3,h4⟩:=(Tbl.ok_iff t).1 h
 have hl:=(dedup_sub t.rows).length_le
 unfold tab
 rw[if_neg (by omega),sortR_id (h4.sublist (dedup_sub _)) fun r hr=>rowOk_ok (h3 r ((dedup_sub _).subset hr))]
theorem tr_cases (v:Val):v.tr=0∨v.tr=1∨v.tr=2:=by
 unfold Val.tr
 split
 ·simp
 ·split<;>simp
theorem trV_tr {t:Int} (h:t=0∨t=1∨t=2):(trV t).tr=t:=by
 rcases h with rfl|rfl|rfl<;>rfl
theorem bump_mem {key:List Val} (hk:key.all Val.ok=true):∀ {l:List (List Val×Nat)},(∀ g∈l,g.1.all Val.ok=true)→(l.map (·.1)).Nodup→∀ g,g∈bump key l↔((g.1≠key∧g∈l)∨(g.1=key∧((∃ n,(key,n)∈l∧g.2=n+1)∨(key ∉ l.map (·.1)∧g.2=1))))
 | [],_,_,g=>by
  simp only[bump,List.mem_singleton,List.not_mem_nil,and_false,false_or,List.map_nil,not_false_eq_true,true_and,false_and,exists_false]
  constructor
  ·rintro rfl;exact⟨rfl,rfl⟩
  ·rintro⟨h1,h2⟩;rw[← h1,← h2]
 | a::l,ho,hn,g=>by
  simp only[List.map_cons,List.nodup_cons]at hn
  simp only[bump]
  split
  ·rename_i h0
   have:=rowCmp_zero (ho a (by simp)) hk h0
   subst this
   constructor
   ·intro h
    rcases List.mem_cons.1 h with h|h
    ·subst h;exact .inr ⟨rfl, .inl ⟨a.2,List.mem_cons_self ..,rfl⟩⟩
    ·refine .inl ⟨fun e=>hn.1 ?_,List.mem_cons_of_mem _ h⟩
     rw[← e];exact List.mem_map.2 ⟨g,h,rfl⟩
   ·rintro(⟨h1,h2⟩|⟨h1,⟨n,h2,h3⟩|⟨h2,h3⟩⟩)
    ·rcases List.mem_cons.1 h2 with h2|h2
     ·subst h2;exact absurd rfl h1
     ·exact List.mem_cons_of_mem _ h2
    ·rcases List.mem_cons.1 h2 with h2|h2
     ·have h4:n=a.2:=by rw[← h2]
      rw[List.mem_cons];left;exact Prod.ext h1 (by rw[h3,h4])
     ·exact absurd (List.mem_map.2 ⟨_,h2,rfl⟩) hn.1
    ·exact absurd (by simp) h2
  ·rename_i h0
   have hne:a.1≠key:=fun e=>h0 (by rw[e];exact rowCmp_self _)
   have ih:=bump_mem hk (l:=l) (fun g hg=>ho g (by simp[hg])) hn.2 g
   simp only[List.mem_cons,ih,List.map_cons]
   constructor
   ·rintro(rfl|⟨h1,h2⟩|⟨h1,⟨n,h2,h3⟩|⟨h2,h3⟩⟩)
    ·exact .inl ⟨hne, .inl rfl⟩
    ·exact .inl ⟨h1, .inr h2⟩
    ·exact .inr ⟨h1, .inl ⟨n, .inr h2,h3⟩⟩
    ·exact .inr ⟨h1, .inr ⟨by simp[h2,Ne.symm hne],h3⟩⟩
   ·rintro(⟨h1,rfl|h2⟩|⟨h1,⟨n,h2|h2,h3⟩|⟨h2,h3⟩⟩)
    ·exact .inl rfl
    ·exact .inr (.inl ⟨h1,h2⟩)
    ·exact absurd (by rw[← h2]) hne
    ·exact .inr (.inr ⟨h1, .inl ⟨n,h2,h3⟩⟩)
    ·exact .inr (.inr ⟨h1, .inr ⟨fun h=>h2 (.inr h),h3⟩⟩)
theorem bump_nodup {key:List Val} (hk:key.all Val.ok=true):∀ {l:List (List Val×Nat)},(∀ g∈l,g.1.all Val.ok=true)→(l.map (·.1)).Nodup→((bump key l).map (·.1)).Nodup
 | [],_,_=>by simp[bump]
 | a::l,ho,hn=>by
  simp only[bump]
  split
  ·simpa using hn
  ·rename_i h0
   simp only[List.map_cons,List.nodup_cons]at hn ⊢
   refine⟨fun hm=>?_,bump_nodup hk (fun g hg=>ho g (by simp[hg])) hn.2⟩
   obtain⟨g,hg,he⟩:=List.mem_map.1 hm
   have h2:=bump_keys key (fun x=>x=key∨x∈l.map (·.1)) (.inl rfl) l (fun g hg=>.inr (List.mem_map.2 ⟨g,hg,rfl⟩)) g hg
   rw[he]at h2
   rcases h2 with h2|h2
   ·exact h0 (by rw[h2];exact rowCmp_self _)
   ·exact hn.1 h2
theorem foldl_bump_mem (cs:List Int):∀ (rows:List (List Val)) (acc:List (List Val×Nat)),(∀ r∈rows,(pickV cs r).all Val.ok=true)→(∀ g∈acc,g.1.all Val.ok=true)→(acc.map (·.1)).Nodup→(∀ g∈acc,1≤g.2) →
 ((rows.foldl (fun acc r=>bump (pickV cs r) acc) acc).map (·.1)).Nodup∧∀ g,g∈rows.foldl (fun acc r=>bump (pickV cs r) acc) acc ↔
   1≤g.2∧((∃ n,(g.1,n)∈acc∧g.2=n+(rows.map (pickV cs)).count g.1)∨(g.1 ∉ acc.map (·.1)∧g.2=(rows.map (pickV cs)).count g.1))
 | [],acc,_,_,hn,hp=>by
  refine⟨hn,fun g=>?_⟩
  simp only[List.foldl_nil,List.map_nil,List.count_nil,Nat.add_zero]
  constructor
  ·intro h;exact⟨hp g h, .inl ⟨g.2,h,rfl⟩⟩
  ·rintro⟨h0,⟨n,h1,h2⟩|⟨h1,h2⟩⟩
   ·rw[← h2]at h1;exact h1
   ·omega
 | r::rows,acc,hr,ho,hn,hp=>by
  have hk:=hr r (by simp)
  have hb:=bump_mem hk ho hn
  have hpos:∀ g∈bump (pickV cs r) acc,1≤g.2:=by
   intro g hg
   rcases(hb g).1 hg with ⟨_,h⟩|⟨_,⟨n,_,h⟩|⟨_,h⟩⟩
   ·exact hp g h
   ·omega
   ·omega
  obtain⟨h1,h2⟩:=foldl_bump_mem cs rows (bump (pickV cs r) acc) (fun x hx=>hr x (by simp[hx])) (bump_keys _ (fun x=>x.all Val.ok=true) hk acc ho) (bump_nodup hk ho hn) hpos
  refine⟨h1,fun g=>?_⟩
  simp only[List.foldl_cons,List.map_cons,h2]
  have hkey:g.1∈(bump (pickV cs r) acc).map (·.1)↔g.1=pickV cs r∨g.1∈acc.map (·.1):=by
   constructor
   ·intro h
    obtain⟨x,hx,he⟩:=List.mem_map.1 h
    have:=bump_keys (pickV cs r) (fun y=>y=pickV cs r∨y∈acc.map (·.1)) (.inl rfl) acc (fun g hg=>.inr (List.mem_map.2 ⟨g,hg,rfl⟩)) x hx
    rwa [he]at this
   ·rintro(h|h)
    ·by_cases hm:pickV cs r∈acc.map (·.1)
     ·obtain⟨x,hx,he⟩:=List.mem_map.1 hm
      exact List.mem_map.2 ⟨(pickV cs r,x.2+1),(hb _).2 (.inr ⟨rfl, .inl ⟨x.2,by rw[← he];exact hx,rfl⟩⟩),h.symm⟩
     ·exact List.mem_map.2 ⟨(pickV cs r,1),(hb _).2 (.inr ⟨rfl, .inr ⟨hm,rfl⟩⟩),h.symm⟩
    ·obtain⟨x,hx,he⟩:=List.mem_map.1 h
     by_cases hq:x.1=pickV cs r
     ·exact List.mem_map.2 ⟨(pickV cs r,x.2+1),(hb _).2 (.inr ⟨rfl, .inl ⟨x.2,by rw[← hq];exact hx,rfl⟩⟩),by rw[← he,hq]⟩
     ·exact List.mem_map.2 ⟨x,(hb _).2 (.inl ⟨hq,hx⟩),he⟩
  have hcnt:((pickV cs r)::rows.map (pickV cs)).count g.1=(rows.map (pickV cs)).count g.1+if g.1=pickV cs r then 1 else 0:=by
   rw[List.count_cons]
   by_cases h:g.1=pickV cs r
   ·simp[h]
   ·simp[h,Ne.symm h]
  rw[hcnt]
  by_cases hq:g.1=pickV cs r
  ·have hbk:∀ n,(g.1,n)∈bump (pickV cs r) acc↔((∃ k,(g.1,k)∈acc∧n=k+1)∨(g.1 ∉ acc.map (·.1)∧n=1)):=fun n=>by
    rw[hq]
    have:=hb (pickV cs r,n)
    simpa using this
   rw[if_pos hq]
   constructor
   ·rintro⟨h0,⟨n,h3,h4⟩|⟨h3,h4⟩⟩
    ·refine⟨h0,?_⟩
     rcases(hbk n).1 h3 with ⟨k,h5,h6⟩|⟨h5,h6⟩
     ·exact .inl ⟨k,h5,by omega⟩
     ·exact .inr ⟨h5,by omega⟩
    ·exact absurd (hkey.2 (.inl hq)) h3
   ·rintro⟨h0,⟨n,h3,h4⟩|⟨h3,h4⟩⟩
    ·exact⟨h0, .inl ⟨n+1,(hbk _).2 (.inl ⟨n,h3,rfl⟩),by omega⟩⟩
    ·exact⟨h0, .inl ⟨1,(hbk _).2 (.inr ⟨h3,rfl⟩),by omega⟩⟩
  ·have e1:∀ n,(g.1,n)∈bump (pickV cs r) acc↔(g.1,n)∈acc:=by
    intro n
    have:=hb (g.1,n)
    rw[this]
    constructor
    ·rintro(⟨_,h⟩|⟨h,_⟩)
     ·exact h
     ·exact absurd h hq
    ·exact fun h=>.inl ⟨hq,h⟩
   have e2:g.1∈(bump (pickV cs r) acc).map (·.1)↔g.1∈acc.map (·.1):=by
    rw[hkey];exact⟨fun h=>h.resolve_left hq, .inr⟩
   rw[if_neg hq,Nat.add_zero,e2]
   simp only[e1]
theorem groups_mem {cs:List Int} {rows:List (List Val)} (h:∀ r∈rows,(pickV cs r).all Val.ok=true):((groups cs rows).map (·.1)).Nodup∧∀ g,g∈groups cs rows↔1≤g.2∧g.2=(rows.map (pickV cs)).count g.1:=by
 obtain⟨h1,h2⟩:=foldl_bump_mem cs rows [] h (by simp) (by simp) (by simp)
 exact⟨h1,fun g=>by rw[groups,h2];simp⟩
def stepG (cs:List Int) (st:List (List (List Val))×Option (List Val)) (x:List Val):List (List (List Val))×Option (List Val) :=
 match st.2 with
 | none=>(st.1++[[x]],some x)
 | some p=>if rowCmp (pickV cs p) (pickV cs x)=0 then(st.1.dropLast++[(st.1.getLast?).getD []++[x]],some x)else(st.1++[[x]],some x)
def runs (cs:List Int) (l:List (List Val)):List (List (List Val)):=(l.foldl (stepG cs) ([],none)).1
theorem stepG_prev (cs:List Int):∀ (l:List (List Val)) (st:List (List (List Val))×Option (List Val)),(l.foldl (stepG cs) st).2=(match l.getLast? with|some x=>some x|none=>st.2)
 | [],st=>rfl
 | [x],st=>by
  simp only[List.foldl_cons,List.foldl_nil,List.getLast?_singleton,stepG]
  split
  ·rfl
  ·split<;>rfl
 | x::y::l,st=>by
  rw[List.foldl_cons,stepG_prev cs (y::l)]
  rw[List.getLast?_cons_cons]
  cases h:(y::l).getLast? with
  | none=>simp at h
  | some z=>rfl
theorem runs_snoc (cs:List Int) (l:List (List Val)) (x:List Val):runs cs (l++[x])=match l.getLast? with
 | none=>runs cs l++[[x]]
 | some p=>if rowCmp (pickV cs p) (pickV cs x)=0 then(runs cs l).dropLast++[((runs cs l).getLast?).getD []++[x]]else runs cs l++[[x]]:=by
 unfold runs
 rw[List.foldl_append,List.foldl_cons,List.foldl_nil]
 have h:=stepG_prev cs l ([],none)
 generalize l.foldl (stepG cs) ([],none)=st at h
 unfold stepG
 cases hl:l.getLast? with
 | none=>rw[hl]at h;rw[h]
 | some p =>
  rw[hl]at h
  rw[h]
  simp only
  split<;>rfl
def pairG (cs:List Int) (g:List (List Val)):List Val×Nat:=(pickV cs (g.headD []),g.length)
theorem bump_new {key:List Val}:∀ {P:List (List Val×Nat)},(∀ g∈P,rowCmp g.1 key≠0)→bump key P=P++[(key,1)]
 | [],_=>rfl
 | g::P,h=>by
  simp only[bump]
  rw[if_neg (h g (by simp)),bump_new fun x hx=>h x (by simp[hx])]
  rfl
theorem bump_last {key:List Val} {n:Nat}:∀ {P:List (List Val×Nat)},(∀ g∈P,rowCmp g.1 key≠0)→bump key (P++[(key,n)])=P++[(key,n+1)]
 | [],_=>by simp[bump,rowCmp_self]
 | g::P,h=>by
  simp only[List.cons_append,bump]
  rw[if_neg (h g (by simp)),bump_last fun x hx=>h x (by simp[hx])]
theorem groups_snoc (cs:List Int) (l:List (List Val)) (x:List Val):groups cs (l++[x])=bump (pickV cs x) (groups cs l):=by
 unfold groups;rw[List.foldl_append];rfl
theorem runs_groups (cs:List Int):∀ (n:Nat) (l:List (List Val)),l.length=n→(∀ r∈l,(pickV cs r).all Val.ok=true)→(l.map (pickV cs)).Pairwise (fun a b=>rowLe a b=true) →
 (runs cs l).map (pairG cs)=groups cs l∧(∀ g∈runs cs l,g≠[])∧(∀ p,l.getLast?=some p→∃ G g,runs cs l=G++[g]∧(pairG cs g).1=pickV cs p)
 | 0,l,h,_,_=>by
  have:l=[]:=List.length_eq_zero_iff.1 h
  subst this
  refine⟨rfl,by simp[runs],by simp⟩
 | n+1,l,h,ho,hs=>by
  have hne:l≠[]:=fun e=>by subst e;simp at h
  obtain⟨l',x,rfl⟩:∃ l' x,l=l'++[x]:=⟨l.dropLast,l.getLast hne,(List.dropLast_concat_getLast hne).symm⟩
  have hl':l'.length=n:=by simpa using h
  rw[List.map_append,List.pairwise_append]at hs
  obtain⟨s1,-,s3⟩:=hs
  have hox:=ho x (by simp)
  have ho':∀ r∈l',(pickV cs r).all Val.ok=true:=fun r hr=>ho r (by simp[hr])
  obtain⟨i1,i2,i3⟩:=runs_groups cs n l' hl' ho' s1
  have hk:=groups_mem ho'
  rw[groups_snoc,runs_snoc]
  cases hp:l'.getLast? with
  | none =>
   have:l'=[]:=by simpa using hp
   subst this
   refine⟨by simp[runs,groups,pairG,bump],by simp[runs],fun p hp=>?_⟩
   simp at hp;subst hp
   exact⟨[],[x],by simp[runs],rfl⟩
  | some p =>
   obtain⟨G,g,hG,hg⟩:=i3 p hp
   have hpm:p∈l':=List.mem_of_getLast? hp
   have hpx:rowLe (pickV cs p) (pickV cs x)=true:=s3 _ (List.mem_map.2 ⟨p,hpm,rfl⟩) _ (by simp)
   have hmem:∀ q∈groups cs l',∃ r∈l',q.1=pickV cs r:=by
    intro q hq
    have h1:=(hk.2 q).1 hq
    have h2:0<(l'.map (pickV cs)).count q.1:=by omega
    obtain⟨r,hr,he⟩:=List.mem_map.1 (List.count_pos_iff.1 h2)
    exact⟨r,hr,he.symm⟩
   have hlast:∀ r∈l',rowLe (pickV cs r) (pickV cs p)=true:=by
    intro r hr
    have hd:l'=l'.dropLast++[p]:=by
     have:=List.dropLast_concat_getLast (show l'≠[]from fun e=>by subst e;simp at hp)
     rw[List.getLast?_eq_some_getLast (fun e=>by subst e;simp at hp)]at hp
     injection hp with hp
     rw[hp]at this;exact this.symm
    rw[hd]at hr s1
    rw[List.map_append,List.pairwise_append]at s1
    rcases List.mem_append.1 hr with hr|hr
    ·exact s1.2.2 _ (List.mem_map.2 ⟨r,hr,rfl⟩) _ (by simp)
    ·simp at hr;subst hr;exact rowLe_refl _
   rw[hG]at i1 i2
   rw[List.map_append,List.map_singleton]at i1
   have hgne:g≠[]:=i2 g (by simp)
   dsimp only
   split
   ·rename_i h0
    have he:=rowCmp_zero (ho' p hpm) hox h0
    rw[hG,List.dropLast_concat]
    simp only[List.getLast?_append,List.getLast?_singleton,Option.some_or,Option.getD_some]
    have hpg:pairG cs (g++[x])=(pickV cs x,(pairG cs g).2+1):=by
     unfold pairG at hg ⊢
     cases g with
     | nil=>exact absurd rfl hgne
     | cons a g=>simp at hg ⊢;rw[← he];exact hg
    refine⟨?_,?_,?_⟩
    ·rw[List.map_append,List.map_singleton,← i1,hpg]
     have hpr:pairG cs g=(pickV cs x,(pairG cs g).2):=Prod.ext (by rw[hg,he]) rfl
     rw[hpr]
     refine(bump_last fun q hq=>?_).symm
     intro h1
     have hn:=hk.1
     rw[← i1,List.map_append,List.nodup_append]at hn
     have hqm:q∈groups cs l':=by rw[← i1];exact List.mem_append_left _ hq
     obtain⟨r,hr,hqr⟩:=hmem q hqm
     have hq1:q.1=pickV cs x:=rowCmp_zero (by rw[hqr];exact ho' r hr) hox h1
     exact hn.2.2 q.1 (List.mem_map.2 ⟨q,hq,rfl⟩) (pairG cs g).1 (by simp) (by rw[hq1,hg,he])
    ·intro y hy
     rcases List.mem_append.1 hy with hy|hy
     ·exact i2 y (List.mem_append_left _ hy)
     ·simp at hy;subst hy;simp
    ·intro p' hp'
     simp at hp';subst hp'
     exact⟨G,g++[x],rfl,by rw[hpg]⟩
   ·rename_i h0
    refine⟨?_,?_,?_⟩
    ·rw[hG,List.map_append,List.map_append,List.map_singleton,List.map_singleton,← i1]
     refine(bump_new fun q hq=>?_).symm
     intro h1
     have hqm:q∈groups cs l':=by rw[← i1];exact hq
     obtain⟨r,hr,hqr⟩:=hmem q hqm
     have hq1:q.1=pickV cs x:=rowCmp_zero (by rw[hqr];exact ho' r hr) hox h1
     have h2:=hlast r hr
     rw[← hqr,hq1]at h2
     have:=rowLe_anti (ho' p hpm) hox hpx h2
     exact h0 (by rw[this];exact rowCmp_self _)
    ·intro y hy
     rcases List.mem_append.1 hy with hy|hy
     ·rw[hG]at hy;exact i2 y hy
     ·simp at hy;subst hy;simp
    ·intro p' hp'
     simp at hp';subst hp'
     exact⟨_,[x],rfl,rfl⟩
theorem groups_perm {cs:List Int} {l m:List (List Val)} (hp:l.Perm m) (ho:∀ r∈l,(pickV cs r).all Val.ok=true):(groups cs l).Perm (groups cs m):=by
 have h1:=groups_mem ho
 have h2:=groups_mem (rows:=m) fun r hr=>ho r (hp.mem_iff.2 hr)
 refine perm_of_nodup ?_ ?_ fun g=>?_
 ·exact List.Pairwise.of_map (·.1) (fun a b h e=>h (by rw[e])) h1.1
 ·exact List.Pairwise.of_map (·.1) (fun a b h e=>h (by rw[e])) h2.1
 ·rw[h1.2,h2.2,(hp.map (pickV cs)).count_eq]
theorem runs_rows {cs:List Int} {l m:List (List Val)} (hp:m.Perm l) (ho:∀ r∈l,(pickV cs r).all Val.ok=true) (hs:(m.map (pickV cs)).Pairwise (fun a b=>rowLe a b=true)) :
 ((runs cs m).map fun g=>numRow (pairG cs g)).Perm (groupRows cs l):=by
 have ho':∀ r∈m,(pickV cs r).all Val.ok=true:=fun r hr=>ho r (hp.mem_iff.1 hr)
 have h:=(runs_groups cs m.length m rfl ho' hs).1
 unfold groupRows
 have e:(runs cs m).map (fun g=>numRow (pairG cs g))=((runs cs m).map (pairG cs)).map numRow:=by rw[List.map_map];rfl
 rw[e,h]
 exact(groups_perm hp ho').map numRow
section
variable {rows:List (List Val)} {w:Int} (hr:∀ r∈rows,rowOk w r=true) (hw:okWidth w=true)
include hr hw
end
theorem sum_map_const {α:Type} (n:Nat):∀ l:List α,(l.map fun _=>n).sum=l.length*n
 | []=>by simp
 | a::l=>by simp[sum_map_const n l,Nat.succ_mul];omega
theorem sum_map_le {α:Type} {f g:α→Nat}:∀ {l:List α},(∀ x∈l,f x≤g x)→(l.map f).sum≤(l.map g).sum
 | [],_=>by simp
 | a::l,h=>by have:=h a (by simp);have:=sum_map_le (l:=l) fun x hx=>h x (by simp[hx]);simp;omega
theorem joinM_len (e:Ex) (rs:List (List Val)) (r:List Val):(joinM e rs r).length≤rs.length:=by
 unfold joinM;have:=List.length_filter_le (isT e) (rs.map (r ++ ·));rwa [List.length_map]at this
theorem joinL_len (e:Ex) (o:Bool) (w:Int) (rs:List (List Val)) (r:List Val):(joinL e o w rs r).length≤if o=true then max 1 rs.length else rs.length:=by
 have:=joinM_len e rs r
 unfold joinL
 cases o
 ·simpa using this
 ·simp only[Bool.true_and,if_true];split
  ·simp;omega
  ·omega
theorem joinR_len (e:Ex) (o:Bool) (a b:Tbl):(joinR e o a b).length≤a.rows.length*(if o=true then max 1 b.rows.length else b.rows.length):=by
 unfold joinR
 rw[List.length_flatMap,← sum_map_const]
 exact sum_map_le fun x _=>joinL_len _ _ _ _ _
def rbK (cnt:List Int) (k t:Int) (cs:List Int) (a b:Int):Int :=
 if k=1 then(cnt[t.toNat]?).getD 0 else min (if k=4 then a*b else if k=5 then a*max 1 b else if k=6 then a+b else if k=8∧cs=[]then min a 1 else a) 1000000000
mutual
def Pn.rb (cnt:List Int):Pn→Int
 | .mk k t es cs ks=>rbK cnt k t cs (((Pn.rbL cnt ks)[0]?).getD 0) (((Pn.rbL cnt ks)[1]?).getD 0)
def Pn.rbL (cnt:List Int):List Pn→List Int
 | []=>[]
 | p::ps=>Pn.rb cnt p::Pn.rbL cnt ps
end
theorem Ex.ok_wf {w:Int} {e:Ex} (h:e.ok w=true):e.wf w=true∧1≤w∧w≤6:=by
 unfold Ex.ok okWidth at h
 rw[Ex.vB_eq]at h
 simp only[Bool.and_eq_true,decide_eq_true_eq]at h
 exact⟨h.2.1,h.1.1,h.1.2⟩
def okS (a:Int):Prop:=1≤a∧a≤7
theorem cmbS_tab:∀ a b:Fin 8,a.val≠0→b.val≠0→(1≤cmbS 8 a.val b.val∧cmbS 8 a.val b.val≤7)∧(1≤cmbS 9 a.val b.val∧cmbS 9 a.val b.val≤7)∧(1≤cmbS 3 a.val b.val∧cmbS 3 a.val b.val≤7)∧(1≤cmbS 6 a.val b.val∧cmbS 6 a.val b.val≤7):=by decide
theorem cmbS_ok {k a b:Int} (ha:okS a) (hb:okS b):okS (cmbS k a b):=by
 obtain⟨a,rfl⟩:=Int.eq_ofNat_of_zero_le (show 0≤a by have:=ha.1;omega)
 obtain⟨b,rfl⟩:=Int.eq_ofNat_of_zero_le (show 0≤b by have:=hb.1;omega)
 have h:=cmbS_tab ⟨a,by have:=ha.2;omega⟩ ⟨b,by have:=hb.2;omega⟩ (by have:=ha.1;simp;omega) (by have:=hb.1;simp;omega)
 unfold okS
 by_cases h8:k=8
 ·subst h8;exact h.1
 ·by_cases h9:k=9
  ·subst h9;exact h.2.1
  ·by_cases h6:k<6
   ·have e:cmbS k a b=cmbS 3 a b:=by simp[cmbS,h8,h9,h6]
    rw[e];exact h.2.2.1
   ·have e:cmbS k a b=cmbS 6 a b:=by simp[cmbS,h8,h9,h6]
    rw[e];exact h.2.2.2
theorem notS_tab:∀ a:Fin 8,a.val≠0→(1≤notS a.val∧notS a.val≤7)∧(1≤nulS a.val∧nulS a.val≤7):=by decide
theorem stV_ok (v:Val):okS (stV v):=by
 unfold stV okS
 split
 ·omega
 ·split<;>omega
theorem outS_eq (st:List Int) (e:Ex):outS st e=if e.kind=1 then(st[e.col.toNat]?).getD 0 else if e.kind=2 then stV e.val else if e.kind=10 then notS ((e.kids[0]?.map (outS st)).getD 0)else if e.kind=11 then nulS ((e.kids[0]?.map (outS st)).getD 0)else cmbS e.kind ((e.kids[0]?.map (outS st)).getD 0) ((e.kids[1]?.map (outS st)).getD 0):=by
 cases e
 simp only[outS,outSL_map,Ex.kind,Ex.col,Ex.val,Ex.kids,List.getElem?_map]
 congr
def sT (t:Int):Int:=if t=1 then 4 else if t=0 then 1 else 2
theorem stV_tr (v:Val):stV v=sT v.tr:=by
 unfold stV sT Val.tr
 cases v.null<;>simp
 split<;>simp
theorem stV_trV {t:Int} (h:t=0∨t=1∨t=2):stV (trV t)=sT t:=by rw[stV_tr,trV_tr h]
theorem cmbS_snd:∀ a b:Fin 8,∀ s t:Fin 3,hasS a.val (sT s.val)=true→hasS b.val (sT t.val)=true →
 hasS (cmbS 8 a.val b.val) (sT (if(t.val:Int)<s.val then t.val else s.val))=true∧hasS (cmbS 9 a.val b.val) (sT (if(t.val:Int) > s.val then t.val else s.val))=true:=by decide +kernel
theorem cmbS_snd2:∀ a b:Fin 8,(hasS a.val 4=true∨hasS b.val 4=true→hasS (cmbS 3 a.val b.val) 4=true∧hasS (cmbS 6 a.val b.val) 4=true) ∧
 ((hasS a.val 1=true∨hasS a.val 2=true)→(hasS b.val 1=true∨hasS b.val 2=true)→cmbS 3 a.val b.val=7∧hasS (cmbS 6 a.val b.val) 1=true∧hasS (cmbS 6 a.val b.val) 2=true):=by decide +kernel
theorem okS_fin {a:Int} (h:okS a):∃ n:Fin 8,a=(n.val:Int):=⟨⟨a.toNat,by have:=h.1;have:=h.2;omega⟩,by have:=h.1;simp;omega⟩
theorem tr_fin (v:Val):∃ n:Fin 3,v.tr=(n.val:Int):=by
 rcases tr_cases v with h|h|h
 ·exact⟨0,h⟩
 ·exact⟨1,h⟩
 ·exact⟨2,h⟩
theorem cmb_state {k a b:Int} {v w:Val} (ha:okS a) (hb:okS b) (h1:hasS a (stV v)=true) (h2:hasS b (stV w)=true):hasS (cmbS k a b) (stV (Val.cmb k v w))=true:=by
 obtain⟨x,rfl⟩:=okS_fin ha
 obtain⟨y,rfl⟩:=okS_fin hb
 by_cases h8:k=8∨k=9
 ·rw[stV_tr]at h1 h2
  have hv:=tr_cases v
  have hw:=tr_cases w
  obtain⟨s,hs⟩:=tr_fin v
  obtain⟨t,ht⟩:=tr_fin w
  rw[hs]at h1 hv;rw[ht]at h2 hw
  have h:=cmbS_snd x y s t h1 h2
  rcases h8 with rfl|rfl
  ·have e:Val.cmb 8 v w=trV (if w.tr<v.tr then w.tr else v.tr):=by simp[Val.cmb]
   rw[e,hs,ht,stV_trV (by split<;>assumption)]
   exact h.1
  ·have e:Val.cmb 9 v w=trV (if w.tr > v.tr then w.tr else v.tr):=by simp[Val.cmb]
   rw[e,hs,ht,stV_trV (by split<;>assumption)]
   exact h.2
 ·have hk8:k≠8:=fun e=>h8 (.inl e)
  have hk9:k≠9:=fun e=>h8 (.inr e)
  have h:=cmbS_snd2 x y
  have e3:cmbS k x.val y.val=if k<6 then cmbS 3 x.val y.val else cmbS 6 x.val y.val:=by
   by_cases h6:k<6<;>simp[cmbS,hk8,hk9,h6]
  by_cases hn:v.null=true∨w.null=true
  ·have e:Val.cmb k v w=⟨true,0⟩:=by simp[Val.cmb,hk8,hk9,hn]
   have h4:hasS x.val 4=true∨hasS y.val 4=true:=by
    rcases hn with hn|hn
    ·left;simpa [stV,hn]using h1
    ·right;simpa [stV,hn]using h2
   have:=h.1 h4
   rw[e,e3]
   simp only[stV,if_true]
   split
   ·exact this.1
   ·exact this.2
  ·have hv:v.null=false:=by simpa using fun e=>hn (.inl e)
   have hw:w.null=false:=by simpa using fun e=>hn (.inr e)
   have p1:hasS x.val 1=true∨hasS x.val 2=true:=by
    simp only[stV,hv]at h1
    by_cases e:v.n=0
    ·left;simpa [e]using h1
    ·right;simpa [e]using h1
   have p2:hasS y.val 1=true∨hasS y.val 2=true:=by
    simp only[stV,hw]at h2
    by_cases e:w.n=0
    ·left;simpa [e]using h2
    ·right;simpa [e]using h2
   have:=h.2 p1 p2
   rw[e3]
   by_cases h6:k<6
   ·rw[if_pos h6,this.1]
    have hs:=stV_ok (Val.cmb k v w)
    unfold stV
    split
    ·decide
    ·split<;>decide
   ·rw[if_neg h6]
    have e:∃ b,Val.cmb k v w=flagV b:=by
     unfold Val.cmb
     rw[if_neg hk8,if_neg hk9,if_neg hn,if_neg (by omega),if_neg (by omega),if_neg (by omega)]
     split<;>exact⟨_,rfl⟩
    obtain⟨b,e⟩:=e
    rw[e]
    cases b
    ·exact this.2.1
    ·exact this.2.2
theorem not_snd:∀ a:Fin 8,∀ s:Fin 3,hasS a.val (sT s.val)=true→hasS (notS a.val) (sT (2-(s.val:Int)))=true:=by decide +kernel
theorem nul_snd:∀ a:Fin 8,(hasS a.val 4=true→hasS (nulS a.val) 2=true)∧(hasS a.val 1=true∨hasS a.val 2=true→hasS (nulS a.val) 1=true):=by decide +kernel
theorem kids_two {k:Int} {n:Nat} (h:(n:Int)=kidsK k) (h1:k≠1) (h2:k≠2) (h10:k≠10) (h11:k≠11):n=2:=by
 unfold kidsK at h
 by_cases c1:k=1∨k=2
 ·omega
 ·by_cases c2:k=10∨k=11
  ·omega
  ·rw[if_neg c1,if_neg c2]at h
   split at h<;>omega
theorem outS_okS {W:Int} (st:List Int) (hl:(st.length:Int)=W) (hs:∀ a∈st,okS a):∀ e:Ex,e.wf W=true→okS (outS st e):=by
 intro e
 induction e using Ex.ind with
 | h k c v ks ih =>
  intro h
  have h':=h
  rw[Ex.wf_eq]at h'
  simp only[Bool.and_eq_true,decide_eq_true_eq,Ex.kids,Ex.kind]at h'
  rw[outS_eq]
  simp only[Ex.kind,Ex.col,Ex.val,Ex.kids]
  have hkid:∀ (i:Nat) (a:Ex),ks[i]?=some a→okS (outS st a):=fun i a hi=>ih a (List.mem_of_getElem? hi) (Ex.wf_kids h (List.mem_of_getElem? hi))
  by_cases hk1:k=1
  ·simp only[hk1,if_true]
   obtain⟨h0,h1,_⟩:=Ex.wf_col h hk1
   simp only[Ex.col]at h0 h1
   rw[List.getElem?_eq_getElem (show c.toNat<st.length by omega)]
   exact hs _ (List.getElem_mem _)
  by_cases hk2:k=2
  ·simp only[hk1,hk2,if_false,if_true,show ¬ (2:Int)=1 by omega];exact stV_ok _
  simp only[hk1,hk2,if_false]
  by_cases hk10:k=10
  ·simp only[hk10,if_true]
   have h0:0<ks.length:=by have:=h'.1;rw[hk10]at this;simp[kidsK]at this;omega
   have e1:=List.getElem?_eq_getElem h0
   have g2:=hkid 0 _ e1
   simp only[e1,Option.map_some,Option.getD_some]
   obtain⟨n,hn⟩:=okS_fin g2
   have hn0:n.val≠0:=by have:=g2.1;omega
   rw[hn];exact(notS_tab n hn0).1
  by_cases hk11:k=11
  ·simp only[hk11,if_true,if_false,show ¬ (11:Int)=10 by omega]
   have h0:0<ks.length:=by have:=h'.1;rw[hk11]at this;simp[kidsK]at this;omega
   have e1:=List.getElem?_eq_getElem h0
   have g2:=hkid 0 _ e1
   simp only[e1,Option.map_some,Option.getD_some]
   obtain⟨n,hn⟩:=okS_fin g2
   have hn0:n.val≠0:=by have:=g2.1;omega
   rw[hn];exact(notS_tab n hn0).2
  simp only[hk10,hk11,if_false]
  have h2:=kids_two (of_decide_eq_true h'.1) hk1 hk2 hk10 hk11
  have e0:=List.getElem?_eq_getElem (show 0<ks.length by omega)
  have e1:=List.getElem?_eq_getElem (show 1<ks.length by omega)
  simp only[e0,e1,Option.map_some,Option.getD_some]
  exact cmbS_ok (hkid 0 _ e0) (hkid 1 _ e1)
theorem outS_sound {W:Int} (st:List Int) (row:List Val) (hl:(st.length:Int)=W) (hr:row.length=st.length) (hs:∀ a∈st,okS a) (hst:∀ (i:Nat) (a:Int) (v:Val),st[i]?=some a→row[i]?=some v→hasS a (stV v)=true):∀ e:Ex,e.wf W=true→hasS (outS st e) (stV (e.ev row))=true:=by
 intro e
 induction e using Ex.ind with
 | h k c v ks ih =>
  intro h
  have h':=h
  rw[Ex.wf_eq]at h'
  simp only[Bool.and_eq_true,decide_eq_true_eq,Ex.kids,Ex.kind]at h'
  rw[outS_eq,Ex.ev_eq]
  simp only[Ex.kind,Ex.col,Ex.val,Ex.kids,evN]
  have hkid:∀ (i:Nat) (a:Ex),ks[i]?=some a→hasS (outS st a) (stV (a.ev row))=true∧okS (outS st a):=fun i a hi=>⟨ih a (List.mem_of_getElem? hi) (Ex.wf_kids h (List.mem_of_getElem? hi)),outS_okS st hl hs a (Ex.wf_kids h (List.mem_of_getElem? hi))⟩
  by_cases hk1:k=1
  ·simp only[hk1,if_true]
   obtain⟨h0,h1,_⟩:=Ex.wf_col h hk1
   simp only[Ex.col]at h0 h1
   have e1:=List.getElem?_eq_getElem (show c.toNat<st.length by omega)
   have e2:=List.getElem?_eq_getElem (show c.toNat<row.length by omega)
   have:=hst _ _ _ e1 e2
   rw[e1,e2];exact this
  by_cases hk2:k=2
  ·simp only[hk1,hk2,if_false,if_true,show ¬ (2:Int)=1 by omega]
   unfold stV
   split
   ·decide
   ·split<;>decide
  simp only[hk1,hk2,if_false]
  by_cases hk10:k=10
  ·simp only[hk10,if_true]
   have h0:0<ks.length:=by have:=h'.1;rw[hk10]at this;simp[kidsK]at this;omega
   have e1:=List.getElem?_eq_getElem h0
   obtain⟨g1,g2⟩:=hkid 0 _ e1
   simp only[List.getElem?_map,e1,Option.map_some,Option.getD_some]
   obtain⟨n,hn⟩:=okS_fin g2
   obtain⟨s,hs'⟩:=tr_fin (ks[0].ev row)
   have ht:=tr_cases (ks[0].ev row)
   rw[stV_tr,hs',hn]at g1
   rw[hn,hs',stV_trV (by rw[hs']at ht;omega)]
   exact not_snd n s g1
  by_cases hk11:k=11
  ·simp only[hk11,if_true,if_false,show ¬ (11:Int)=10 by omega]
   have h0:0<ks.length:=by have:=h'.1;rw[hk11]at this;simp[kidsK]at this;omega
   have e1:=List.getElem?_eq_getElem h0
   obtain⟨g1,g2⟩:=hkid 0 _ e1
   simp only[List.getElem?_map,e1,Option.map_some,Option.getD_some]
   obtain⟨n,hn⟩:=okS_fin g2
   rw[hn]at g1 ⊢
   cases hnl:(ks[0].ev row).null with
   | true =>
    simp only[stV,hnl,if_true]at g1
    exact(nul_snd n).1 g1
   | false =>
    have:hasS n.val 1=true∨hasS n.val 2=true:=by
     simp only[stV,hnl]at g1
     by_cases e:(ks[0].ev row).n=0
     ·left;simpa [e]using g1
     ·right;simpa [e]using g1
    exact(nul_snd n).2 this
  simp only[hk10,hk11,if_false]
  have h2:=kids_two (of_decide_eq_true h'.1) hk1 hk2 hk10 hk11
  have e0:=List.getElem?_eq_getElem (show 0<ks.length by omega)
  have e1:=List.getElem?_eq_getElem (show 1<ks.length by omega)
  simp only[List.getElem?_map,e0,e1,Option.map_some,Option.getD_some]
  exact cmb_state (hkid 0 _ e0).2 (hkid 1 _ e1).2 (hkid 0 _ e0).1 (hkid 1 _ e1).1
def stsOf (fl:List Bool):List Int:=fl.map fun b=>if b=true then 7 else 3
def nlFilt (e:Ex) (fl:List Bool):List Bool:=(List.range fl.length).map fun i=>(fl[i]?).getD false && hasS (outS ((stsOf fl).set i 4) e) 2
def nlK (flags:List (List Bool)) (k t:Int) (es:List Ex) (cs:List Int) (a b:List Bool):List Bool :=
 if k=1 then(flags[t.toNat]?).getD []
 else if k=2 then nlFilt (exO es) a
 else if k=3 then es.map fun e=>hasS (outS (stsOf a) e) 4
 else if k=4 then a++b
 else if k=5 then a++b.map fun _=>true
 else if k=6 then List.zipWith (· || ·) a b
 else if k=8 then(cs.map fun c=>(a[c.toNat]?).getD false)++[false]
 else a
mutual
def Pn.nl (flags:List (List Bool)):Pn→List Bool
 | .mk k t es cs ks=>nlK flags k t es cs (((Pn.nlL flags ks)[0]?).getD []) (((Pn.nlL flags ks)[1]?).getD [])
def Pn.nlL (flags:List (List Bool)):List Pn→List (List Bool)
 | []=>[]
 | p::ps=>Pn.nl flags p::Pn.nlL flags ps
end
theorem Pn.nlL_map (flags:List (List Bool)):∀ l:List Pn,Pn.nlL flags l=l.map (Pn.nl flags)
 | []=>by simp[Pn.nlL]
 | p::l=>by simp[Pn.nlL,Pn.nlL_map flags l]
theorem Pn.nl_eq (flags:List (List Bool)) (p:Pn):p.nl flags=nlK flags p.kind p.table p.exprs p.cols ((p.kids[0]?.map (Pn.nl flags)).getD []) ((p.kids[1]?.map (Pn.nl flags)).getD []):=by
 cases p;simp[Pn.nl,Pn.nlL_map,Pn.kind,Pn.table,Pn.exprs,Pn.cols,Pn.kids]
def NlOk (fl:List Bool) (rows:List (List Val)):Prop:=∀ r∈rows,∀ (i:Nat) (v:Val),r[i]?=some v→v.null=true→fl[i]?=some true
theorem stsOf_ok (fl:List Bool):∀ a∈stsOf fl,okS a:=by
 intro a h
 obtain⟨b,_,rfl⟩:=List.mem_map.1 h
 unfold okS;split<;>omega
theorem stsOf_has {fl:List Bool} {r:List Val} (h:∀ (i:Nat) (v:Val),r[i]?=some v→v.null=true→fl[i]?=some true):∀ (i:Nat) (a:Int) (v:Val),(stsOf fl)[i]?=some a→r[i]?=some v→hasS a (stV v)=true:=by
 intro i a v ha hv
 unfold stsOf at ha
 rw[List.getElem?_map]at ha
 obtain⟨b,hb,rfl⟩:=Option.map_eq_some_iff.1 ha
 unfold stV
 cases hn:v.null with
 | true =>
  have:=h i v hv hn
  rw[hb]at this;injection this with this;subst this
  simp only[if_true];decide
 | false=>simp only[Bool.false_eq_true,if_false];split<;>split<;>decide
theorem hasS2 {e:Ex} {row:List Val} (h:isT e row=true):stV (e.ev row)=2:=by
 unfold isT at h
 rw[stV_tr,of_decide_eq_true h];rfl
theorem ok_wf {w:Int} {e:Ex} (h:e.ok w=true):e.wf w=true:=by simp[Ex.ok,Ex.vB_eq]at h;exact h.2.1
theorem ev_null {ws:List Int} {db:List Tbl} (hws:ws=db.map Tbl.w) (hdb:∀ t∈db,t.ok=true) {flags:List (List Bool)} (hf:∀ (i:Nat) (t:Tbl),db[i]?=some t→∃ fl,flags[i]?=some fl∧(fl.length:Int)=t.w∧NlOk fl t.rows):∀ (p:Pn) (lv:Nat),p.wd ws lv≠0→((p.nl flags).length:Int)=p.wd ws lv∧NlOk (p.nl flags) (p.evP db).rows:=by
 intro p
 induction p using Pn.ind with
 | h k t es cs ks ih =>
  intro lv h
  have hg0:=ev_good hws hdb _ lv h
  have hsh:=wd_shape h
  generalize hp:Pn.mk k t es cs ks=p at hsh h hg0
  have hk:ks=p.kids:=by rw[← hp];rfl
  subst hk
  rw[Pn.nl_eq]
  rw[← hg0.2]
  cases hsh with
  | scan t W h0 h1 hW =>
   rw[hws,List.getElem?_map]at h1
   obtain⟨s,hs,rfl⟩:=Option.map_eq_some_iff.1 h1
   obtain⟨fl,f1,f2,f3⟩:=hf _ s hs
   rw[evP_scan,hs]
   simp only[Option.getD_some,Pn.scan,Pn.kind_mk,Pn.table_mk,nlK,if_true,f1]
   rw[tab_w]
   exact⟨f2,fun r hr=>f3 r (tab_mem hr)⟩
  | filt m e a h1 ha he =>
   obtain⟨k1,k2⟩:=ih a (by simp[filt]) m ha
   have hga:=ev_good hws hdb a m ha
   have hro:=((Tbl.ok_iff _).1 hga.1).2.2.1
   rw[evP_filt]
   simp only[filt,Pn.kind_mk,Pn.exprs_mk,Pn.kids_mk,nlK,show ¬ (2:Int)=1 by omega,if_false,if_true]
   rw[tab_w]
   simp only[List.getElem?_cons_zero,Option.map_some,Option.getD_some,exO]
   refine⟨by unfold nlFilt;rw[List.length_map,List.length_range,k1,hga.2],fun r hr i v hv hn=>?_⟩
   obtain⟨hr1,hr2⟩:=List.mem_filter.1 (tab_mem hr)
   have hfl:=k2 r hr1 i v hv hn
   have hi:i<(a.nl flags).length:=(List.getElem?_eq_some_iff.1 hfl).1
   have hrl:=rowOk_len (hro r hr1)
   have hlen:r.length=(a.nl flags).length:=by omega
   unfold nlFilt
   rw[List.getElem?_map,List.getElem?_range hi,Option.map_some,hfl]
   simp only[Option.getD_some,Bool.true_and]
   congr 1
   have:=outS_sound (W:=a.wd ws m) ((stsOf (a.nl flags)).set i 4) r (by simp[stsOf];omega) (by simp[stsOf];exact hlen)
    (fun x hx=>by
     rcases List.mem_or_eq_of_mem_set hx with hx|rfl
     ·exact stsOf_ok _ x hx
     ·unfold okS;omega)
    (fun j x u hx hu=>by
     rw[List.getElem?_set]at hx
     split at hx
     ·rename_i e
      subst e
      rw[hv]at hu;injection hu with hu;subst hu
      split at hx
      ·injection hx with hx;subst hx
       unfold stV;rw[if_pos hn];decide
      ·cases hx
     ·exact stsOf_has (k2 r hr1) j x u hx hu) e (ok_wf he)
   rw[hasS2 hr2]at this
   exact this
  | proj m es a h1 ha hl he =>
   obtain⟨k1,k2⟩:=ih a (by simp[proj]) m ha
   have hga:=ev_good hws hdb a m ha
   have hro:=((Tbl.ok_iff _).1 hga.1).2.2.1
   rw[evP_proj]
   simp only[proj,Pn.kind_mk,Pn.exprs_mk,Pn.kids_mk,nlK,show ¬ (3:Int)=1 by omega,show ¬ (3:Int)=2 by omega,if_false,if_true]
   rw[tab_w]
   simp only[List.getElem?_cons_zero,Option.map_some,Option.getD_some]
   refine⟨by rw[List.length_map],fun r hr i v hv hn=>?_⟩
   obtain⟨x,hx,rfl⟩:=List.mem_map.1 (tab_mem hr)
   rw[List.getElem?_map]at hv ⊢
   obtain⟨e,hee,rfl⟩:=Option.map_eq_some_iff.1 hv
   rw[hee,Option.map_some]
   congr 1
   have hrl:=rowOk_len (hro x hx)
   have:=outS_sound (W:=a.wd ws m) (stsOf (a.nl flags)) x (by simp[stsOf];omega) (by simp[stsOf];omega) (stsOf_ok _) (stsOf_has (k2 x hx)) e (ok_wf (he e (List.mem_of_getElem? hee)))
   rw[show stV (e.ev x)=4 by unfold stV;rw[if_pos hn]]at this
   exact this
  | pair m k e a b h1 hk ha hb hl he =>
   obtain⟨k1,k2⟩:=ih a (by simp[pairP]) m ha
   obtain⟨k3,k4⟩:=ih b (by simp[pairP]) m hb
   have hga:=ev_good hws hdb a m ha
   have hgb:=ev_good hws hdb b m hb
   have hro:=((Tbl.ok_iff _).1 hga.1).2.2.1
   have hrob:=((Tbl.ok_iff _).1 hgb.1).2.2.1
   rw[evP_pair db hk,tab_w]
   have key:∀ (b':List Bool),b'.length=(b.nl flags).length→(∀ (i:Nat),(b.nl flags)[i]?=some true→b'[i]?=some true)→(k=5→∀ (i:Nat),i<b'.length→b'[i]?=some true)→NlOk (a.nl flags++b') (tab ((a.evP db).w+(b.evP db).w) (joinR e (decide (k=5)) (a.evP db) (b.evP db))).rows:=by
    intro b' hb1 hb2 hb3 r hr i v hv hn
    obtain⟨x,hx,hr'⟩:=List.mem_flatMap.1 (tab_mem hr)
    have hxl:=rowOk_len (hro x hx)
    have hax:x.length=(a.nl flags).length:=by omega
    have hfin:∀ s:List Val,r=x++s→((i<x.length∨∃ j,i=x.length+j∧b'[j]?=some true))→(a.nl flags++b')[i]?=some true:=by
     intro s hs hor
     subst hs
     by_cases hi:i<x.length
     ·rw[List.getElem?_append_left hi]at hv
      rw[List.getElem?_append_left (by omega)]
      exact k2 x hx i v hv hn
     ·rcases hor with h|⟨j,rfl,hj⟩
      ·exact absurd h hi
      ·rw[List.getElem?_append_right (by omega),show x.length+j-(a.nl flags).length=j by omega];exact hj
    unfold joinL at hr'
    split at hr'
    ·rename_i hcnd
     simp only[Bool.and_eq_true,decide_eq_true_eq]at hcnd
     simp only[List.mem_singleton]at hr'
     refine hfin _ hr' ?_
     by_cases hi:i<x.length
     ·exact .inl hi
     ·refine .inr ⟨i-x.length,by omega,hb3 hcnd.1 _ ?_⟩
      have:=(List.getElem?_eq_some_iff.1 hv).1
      rw[hr',List.length_append]at this
      have hnl:(nullsV (b.evP db).w).length=(b.evP db).w.toNat:=by simp[nullsV]
      omega
    ·obtain⟨s,hs,hr2,_⟩:=joinM_mem hr'
     refine hfin s hr2 ?_
     by_cases hi:i<x.length
     ·exact .inl hi
     ·refine .inr ⟨i-x.length,by omega,hb2 _ ?_⟩
      subst hr2
      rw[List.getElem?_append_right (by omega)]at hv
      exact k4 s hs _ v hv hn
   rcases hk with rfl|rfl
   ·simp only[pairP,Pn.kind_mk,Pn.kids_mk,nlK,show ¬ (4:Int)=1 by omega,show ¬ (4:Int)=2 by omega,show ¬ (4:Int)=3 by omega,if_false,if_true,List.getElem?_cons_zero,List.getElem?_cons_succ,Option.map_some,Option.getD_some]
    exact⟨by rw[List.length_append];omega,key _ rfl (fun _ h=>h) (fun h=>by omega)⟩
   ·simp only[pairP,Pn.kind_mk,Pn.kids_mk,nlK,show ¬ (5:Int)=1 by omega,show ¬ (5:Int)=2 by omega,show ¬ (5:Int)=3 by omega,show ¬ (5:Int)=4 by omega,if_false,if_true,List.getElem?_cons_zero,List.getElem?_cons_succ,Option.map_some,Option.getD_some]
    refine⟨by rw[List.length_append,List.length_map];omega,key _ (by rw[List.length_map]) (fun i h=>?_) (fun _ i hi=>?_)⟩
    ·rw[List.getElem?_map,h];rfl
    ·rw[List.length_map]at hi
     rw[List.getElem?_map,List.getElem?_eq_getElem hi];rfl
  | union m a b h1 ha hb =>
   obtain⟨k1,k2⟩:=ih a (by simp[unionP]) m ha
   obtain⟨k3,k4⟩:=ih b (by simp[unionP]) m (by rw[hb];exact ha)
   have hga:=ev_good hws hdb a m ha
   rw[evP_union,tab_w]
   simp only[unionP,Pn.kind_mk,Pn.kids_mk,nlK,show ¬ (6:Int)=1 by omega,show ¬ (6:Int)=2 by omega,show ¬ (6:Int)=3 by omega,show ¬ (6:Int)=4 by omega,show ¬ (6:Int)=5 by omega,if_false,if_true,List.getElem?_cons_zero,List.getElem?_cons_succ,Option.map_some,Option.getD_some]
   refine⟨by rw[List.length_zipWith];omega,fun r hr i v hv hn=>?_⟩
   rw[List.getElem?_zipWith]
   rcases List.mem_append.1 (tab_mem hr)with hr|hr
   ·have h5:=k2 r hr i v hv hn
    have hi:=(List.getElem?_eq_some_iff.1 h5).1
    rw[h5,List.getElem?_eq_getElem (show i<(b.nl flags).length by omega)];simp
   ·have h5:=k4 r hr i v hv hn
    have hi:=(List.getElem?_eq_some_iff.1 h5).1
    rw[h5,List.getElem?_eq_getElem (show i<(a.nl flags).length by omega)];simp
  | dist m a h1 ha =>
   obtain⟨k1,k2⟩:=ih a (by simp) m ha
   have hga:=ev_good hws hdb a m ha
   rw[evP_dist,tab_w]
   simp only[Pn.kind_mk,Pn.kids_mk,nlK,show ¬ (7:Int)=1 by omega,show ¬ (7:Int)=2 by omega,show ¬ (7:Int)=3 by omega,show ¬ (7:Int)=4 by omega,show ¬ (7:Int)=5 by omega,show ¬ (7:Int)=6 by omega,show ¬ (7:Int)=8 by omega,if_false,List.getElem?_cons_zero,Option.map_some,Option.getD_some]
   exact⟨by omega,fun r hr=>k2 r ((dedup_sub _).subset (tab_mem hr))⟩
  | group m cs a h1 ha hc ho =>
   obtain⟨k1,k2⟩:=ih a (by simp) m ha
   have hga:=ev_good hws hdb a m ha
   have hro:=((Tbl.ok_iff _).1 hga.1).2.2.1
   rw[evP_group,tab_w]
   simp only[Pn.kind_mk,Pn.kids_mk,Pn.cols_mk,nlK,show ¬ (8:Int)=1 by omega,show ¬ (8:Int)=2 by omega,show ¬ (8:Int)=3 by omega,show ¬ (8:Int)=4 by omega,show ¬ (8:Int)=5 by omega,show ¬ (8:Int)=6 by omega,if_false,if_true,List.getElem?_cons_zero,Option.map_some,Option.getD_some]
   refine⟨by simp,fun r hr i v hv hn=>?_⟩
   obtain⟨g,hg,rfl⟩:=List.mem_map.1 (tab_mem hr)
   obtain⟨⟨x,hx,hgx⟩,_⟩:(∃ x∈(a.evP db).rows,g.1=pickV cs x)∧True:=⟨(groups_facts cs (fun k=>∃ x∈(a.evP db).rows,k=pickV cs x) (a.evP db).rows (fun r hr=>⟨r,hr,rfl⟩)).1 g hg,trivial⟩
   unfold numRow at hv
   rw[hgx]at hv
   have hl:(pickV cs x).length=cs.length:=by simp[pickV]
   by_cases hi:i<cs.length
   ·rw[List.getElem?_append_left (by omega)]at hv
    rw[List.getElem?_append_left (by simpa using hi)]
    unfold pickV at hv
    rw[List.getElem?_map]at hv ⊢
    obtain⟨c,hcc,rfl⟩:=Option.map_eq_some_iff.1 hv
    rw[hcc,Option.map_some]
    have hcr:=colsOk_rng ho c (List.mem_of_getElem? hcc)
    have hxl:=rowOk_len (hro x hx)
    have e2:=List.getElem?_eq_getElem (show c.toNat<x.length by omega)
    rw[e2]at hn
    rw[k2 x hx _ _ e2 hn];rfl
   ·rw[List.getElem?_append_right (by omega),hl]at hv
    cases hj:i-cs.length with
    | zero=>rw[hj]at hv;simp at hv;subst hv;cases hn
    | succ j=>rw[hj]at hv;simp at hv
def rawK (db:List Tbl) (k t:Int) (es:List Ex) (cs:List Int) (a b:Tbl):List (List Val) :=
 if k=1 then((db[t.toNat]?).getD tblZ).rows
 else if k=2 then a.rows.filter (isT (exO es))
 else if k=3 then a.rows.map fun r=>es.map (Ex.ev r)
 else if k=4∨k=5 then joinR (exO es) (decide (k=5)) a b
 else if k=6 then a.rows++b.rows
 else if k=7 then dedup a.rows
 else groupRows cs a.rows
def Pn.raw (db:List Tbl) (p:Pn):List (List Val):=rawK db p.kind p.table p.exprs p.cols ((p.kids[0]?.map (Pn.evP db)).getD tblZ) ((p.kids[1]?.map (Pn.evP db)).getD tblZ)
mutual
def Pn.fit (db:List Tbl):Pn→Bool
 | .mk k t es cs ks=>decide ((Pn.raw db (.mk k t es cs ks)).length≤400) && Pn.fitL db ks
def Pn.fitL (db:List Tbl):List Pn→Bool
 | []=>true
 | p::ps=>Pn.fit db p && Pn.fitL db ps
end
theorem Pn.fitL_all (db:List Tbl):∀ l:List Pn,Pn.fitL db l=l.all (Pn.fit db)
 | []=>by simp[Pn.fitL]
 | p::l=>by simp[Pn.fitL,Pn.fitL_all db l]
theorem Pn.fit_iff (db:List Tbl) (p:Pn):p.fit db=true↔(p.raw db).length≤400∧∀ a∈p.kids,a.fit db=true:=by
 cases p;simp[Pn.fit,Pn.fitL_all,Pn.kids]
theorem raw_scan (db:List Tbl) (t:Int):(Pn.scan t).raw db=((db[t.toNat]?).getD tblZ).rows:=rfl
theorem raw_filt (db:List Tbl) (e:Ex) (a:Pn):(filt e a).raw db=(a.evP db).rows.filter (isT e):=rfl
theorem raw_proj (db:List Tbl) (es:List Ex) (a:Pn):(proj es a).raw db=(a.evP db).rows.map fun r=>es.map (Ex.ev r):=rfl
theorem raw_pair (db:List Tbl) {k:Int} (hk:k=4∨k=5) (e:Ex) (a b:Pn):(pairP k e a b).raw db=joinR e (decide (k=5)) (a.evP db) (b.evP db):=by rcases hk with rfl|rfl<;>rfl
theorem raw_union (db:List Tbl) (a b:Pn):(unionP a b).raw db=(a.evP db).rows++(b.evP db).rows:=rfl
theorem raw_dist (db:List Tbl) (a:Pn):(Pn.mk 7 0 [] [] [a]).raw db=dedup (a.evP db).rows:=rfl
theorem raw_group (db:List Tbl) (cs:List Int) (a:Pn):(Pn.mk 8 0 [] cs [a]).raw db=groupRows cs (a.evP db).rows:=rfl
mutual
def Pn.bd (n:Nat):Pn→Nat
 | .mk _ _ es _ ks=>bdK n es (Pn.bdL n ks)
def Pn.bdL (n:Nat):List Pn→List Nat
 | []=>[]
 | p::ps=>Pn.bd n p::Pn.bdL n ps
def bdK (n:Nat) (es:List Ex):List Nat→Nat
 | []=>n
 | [a]=>a
 | a::b::_=>if es=[]then a+b else a*b
end
theorem bd_scan (n:Nat) (t:Int):(Pn.scan t).bd n=n:=by simp[Pn.scan,Pn.bd,Pn.bdL,bdK]
theorem bd_one (n:Nat) (k t:Int) (es:List Ex) (cs:List Int) (a:Pn):(Pn.mk k t es cs [a]).bd n=a.bd n:=by simp[Pn.bd,Pn.bdL,bdK]
theorem bd_two (n:Nat) (k t:Int) (es:List Ex) (cs:List Int) (a b:Pn):(Pn.mk k t es cs [a,b]).bd n=if es=[]then a.bd n+b.bd n else a.bd n*b.bd n:=by simp[Pn.bd,Pn.bdL,bdK]
theorem bd_pos {n:Nat} (hn:1≤n):∀ p:Pn,1≤p.bd n:=by
 intro p
 induction p using Pn.ind with
 | h k t es cs ks ih =>
  match ks,ih with
  | [],_=>simp[Pn.bd,Pn.bdL,bdK];exact hn
  | [a],ih=>rw[bd_one];exact ih a (by simp)
  | a::b::l,ih =>
   have h1:=ih a (by simp)
   have h2:=ih b (by simp)
   simp only[Pn.bd,Pn.bdL,bdK]
   split
   ·omega
   ·exact Nat.mul_pos h1 h2
theorem bd_fit {ws:List Int} {db:List Tbl} {n:Nat} (hn:1≤n) (hws:ws=db.map Tbl.w) (hdb:∀ t∈db,t.ok=true∧t.rows.length≤n):∀ (p:Pn) (lv:Nat),p.wd ws lv≠0→p.bd n≤400→p.fit db=true∧(p.evP db).rows.length≤p.bd n:=by
 intro p
 induction p using Pn.ind with
 | h k t es cs ks ih =>
  intro lv h hb
  have hsh:=wd_shape h
  generalize hp:Pn.mk k t es cs ks=p at hsh h hb
  have hk:ks=p.kids:=by rw[← hp];rfl
  subst hk
  rw[Pn.fit_iff]
  cases hsh with
  | scan t W h0 h1 hW =>
   rw[hws,List.getElem?_map]at h1
   obtain⟨s,hs,rfl⟩:=Option.map_eq_some_iff.1 h1
   have:=hdb s (List.mem_of_getElem? hs)
   rw[raw_scan,evP_scan,bd_scan,hs]
   rw[bd_scan]at hb
   simp only[Option.getD_some]
   have h3:=(tab_len s.w s.rows).2
   exact⟨⟨by omega,by simp[Pn.scan]⟩,by omega⟩
  | filt m e a h1 ha he =>
   unfold filt at hb
   rw[bd_one]at hb
   obtain⟨i1,i2⟩:=ih a (by simp[filt]) m ha hb
   rw[raw_filt,evP_filt]
   have h3:=List.length_filter_le (isT e) (a.evP db).rows
   have h4:=(tab_len (a.evP db).w ((a.evP db).rows.filter (isT e))).2
   refine⟨⟨by omega,by simp[filt,i1]⟩,?_⟩
   unfold filt;rw[bd_one];omega
  | proj m es a h1 ha hl he =>
   unfold proj at hb
   rw[bd_one]at hb
   obtain⟨i1,i2⟩:=ih a (by simp[proj]) m ha hb
   rw[raw_proj,evP_proj]
   have h4:=(tab_len es.length ((a.evP db).rows.map fun r=>es.map (Ex.ev r))).2
   rw[List.length_map]at h4 ⊢
   refine⟨⟨by omega,by simp[proj,i1]⟩,?_⟩
   unfold proj;rw[bd_one];omega
  | pair m k e a b h1 hk ha hb' hl he =>
   unfold pairP at hb
   rw[bd_two,if_neg (by simp)]at hb
   have pa:=bd_pos hn a
   have pb:=bd_pos hn b
   have la:a.bd n≤a.bd n*b.bd n:=Nat.le_mul_of_pos_right _ pb
   have lb:b.bd n≤a.bd n*b.bd n:=Nat.le_mul_of_pos_left _ pa
   obtain⟨i1,i2⟩:=ih a (by simp[pairP]) m ha (by omega)
   obtain⟨i3,i4⟩:=ih b (by simp[pairP]) m hb' (by omega)
   rw[raw_pair db hk,evP_pair db hk]
   have h3:=joinR_len e (decide (k=5)) (a.evP db) (b.evP db)
   have h4:=(tab_len ((a.evP db).w+(b.evP db).w) (joinR e (decide (k=5)) (a.evP db) (b.evP db))).2
   have h5:(a.evP db).rows.length*(if decide (k=5)=true then max 1 (b.evP db).rows.length else(b.evP db).rows.length)≤a.bd n*b.bd n:=Nat.mul_le_mul i2 (by split<;>omega)
   refine⟨⟨by omega,by simp[pairP,i1,i3]⟩,?_⟩
   unfold pairP;rw[bd_two,if_neg (by simp)];omega
  | union m a b h1 ha hb' =>
   unfold unionP at hb
   rw[bd_two,if_pos rfl]at hb
   obtain⟨i1,i2⟩:=ih a (by simp[unionP]) m ha (by omega)
   obtain⟨i3,i4⟩:=ih b (by simp[unionP]) m (by rw[hb'];exact ha) (by omega)
   rw[raw_union,evP_union]
   have h4:=(tab_len (a.evP db).w ((a.evP db).rows++(b.evP db).rows)).2
   rw[List.length_append]at h4 ⊢
   refine⟨⟨by omega,by simp[unionP,i1,i3]⟩,?_⟩
   unfold unionP;rw[bd_two,if_pos rfl];omega
  | dist m a h1 ha =>
   rw[bd_one]at hb
   obtain⟨i1,i2⟩:=ih a (by simp) m ha hb
   rw[raw_dist,evP_dist,bd_one]
   have h3:=(dedup_sub (a.evP db).rows).length_le
   have h4:=(tab_len (a.evP db).w (dedup (a.evP db).rows)).2
   exact⟨⟨by omega,by simp[i1]⟩,by omega⟩
  | group m cs a h1 ha hc ho =>
   rw[bd_one]at hb
   obtain⟨i1,i2⟩:=ih a (by simp) m ha hb
   rw[raw_group,evP_group,bd_one]
   have h3:=(groups_facts cs (fun _=>True) (a.evP db).rows (fun _ _=>trivial)).2.1
   have h5:(groupRows cs (a.evP db).rows).length=(groups cs (a.evP db).rows).length:=by simp[groupRows]
   have h4:=(tab_len ((cs.length:Int)+1) (groupRows cs (a.evP db).rows)).2
   exact⟨⟨by omega,by simp[i1]⟩,by omega⟩
def Th (P:Pn) (j j':Nat) (u u':Int):Prop:=P.thin∧(j'≤j∧u'≤u∧∀ n:Nat,1≤n→P.bd n≤2 ^ (u-u').toNat*n ^ (j-j'+1))∧(P.exprs=[]→P.kids.length=2→P.kind=6)
theorem Th.scan {t:Int} (h:(Pn.scan t).thin) (j:Nat) (u:Int):Th (.scan t) j j u u:=by
 refine⟨h,⟨Nat.le_refl _,Int.le_refl _,fun n _=>?_⟩,by simp[Pn.scan]⟩
 rw[bd_scan];simp
theorem Th.one {k t:Int} {es:List Ex} {cs:List Int} {K:Pn} {j j1:Nat} {u u1:Int} (hth:(Pn.mk k t es cs [K]).thin) (h:Th K j j1 u u1):Th (.mk k t es cs [K]) j j1 u u1:=by
 refine⟨hth,⟨h.2.1.1,h.2.1.2.1,fun n hn=>?_⟩,by simp⟩
 rw[bd_one];exact h.2.1.2.2 n hn
theorem Th.skip {k t:Int} {es:List Ex} {cs:List Int} {K:Pn} {j j1 j2:Nat} {u u1 u2:Int} (hth:(Pn.mk k t es cs [K]).thin) (h:Th K j j1 u u1) (h2:j2≤j1) (h3:u2≤u1):Th (.mk k t es cs [K]) j j2 u u2:=by
 obtain⟨-,⟨g1,g2,g3⟩,-⟩:=h
 refine⟨hth,⟨by omega,by omega,fun n hn=>?_⟩,by simp⟩
 rw[bd_one]
 refine Nat.le_trans (g3 n hn) (Nat.mul_le_mul (Nat.pow_le_pow_right (by omega) (by omega)) (Nat.pow_le_pow_right hn (by omega)))
theorem Th.un {e:Ex} {K:Pn} {j j1:Nat} {u u1:Int} (hth:(Pn.mk 6 0 [] [] [K, .mk 2 0 [e] [] [K]]).thin) (h:Th K j j1 u u1):Th (.mk 6 0 [] [] [K, .mk 2 0 [e] [] [K]]) j j1 u (u1-1):=by
 obtain⟨-,⟨g1,g2,g3⟩,-⟩:=h
 refine⟨hth,⟨g1,by omega,fun n hn=>?_⟩,by simp⟩
 rw[bd_two,if_pos rfl,bd_one]
 have:=g3 n hn
 rw[show(u-(u1-1)).toNat=(u-u1).toNat+1 by omega,Nat.pow_succ,Nat.mul_comm (2 ^ (u-u1).toNat) 2,Nat.mul_assoc]
 omega
theorem Th.jn {z:Int} {e:Ex} {K O:Pn} {j j1 j2:Nat} {u u1 u2:Int} (hth:(Pn.mk z 0 [e] [] [K,O]).thin) (hj:j1≠0) (h:Th K j j1 u u1) (h2:Th O (j1-1) j2 u1 u2):Th (.mk z 0 [e] [] [K,O]) j j2 u u2:=by
 obtain⟨-,⟨g1,g2,g3⟩,-⟩:=h
 obtain⟨-,⟨k1,k2,k3⟩,-⟩:=h2
 refine⟨hth,⟨by omega,by omega,fun n hn=>?_⟩,by simp⟩
 rw[bd_two,if_neg (by simp)]
 have:=Nat.mul_le_mul (g3 n hn) (k3 n hn)
 refine Nat.le_trans this (Nat.le_of_eq ?_)
 have e1:2 ^ (u-u2).toNat=2 ^ (u-u1).toNat*2 ^ (u1-u2).toNat:=by rw[← Nat.pow_add];congr 1;omega
 have e2:n ^ (j-j2+1)=n ^ (j-j1+1)*n ^ (j1-1-j2+1):=by rw[← Nat.pow_add];congr 1;omega
 rw[e1,e2]
 exact Nat.mul_mul_mul_comm _ _ _ _
def BdV (P:Pn):Prop:=∀ (ws:List Int) (lv n:Nat),1≤n→P.wd ws lv≠0→P.bd n≤2*n ^ 2
theorem Th.bdV {P:Pn} {j':Nat} {u':Int} (h:Th P 1 j' 1 u') (hu:0≤u'):∀ n:Nat,1≤n→P.bd n≤2*n ^ 2:=by
 intro n hn
 have:=h.2.1.2.2 n hn
 refine Nat.le_trans this (Nat.mul_le_mul (Nat.pow_le_pow_right (by omega) (show(1-u').toNat≤1 by omega)) (Nat.pow_le_pow_right hn (by omega)))
theorem bd_head (n:Nat) (P:Pn) (k t:Int) (cs:List Int):(Pn.mk k t P.exprs cs P.kids).bd n=P.bd n:=by
 obtain⟨k',t',es,cs',ks⟩:=P
 simp[Pn.bd,Pn.exprs,Pn.kids]
theorem bdV_expr {P:Pn} {e:Ex} (h:∀ n:Nat,1≤n→P.bd n≤2*n ^ 2) (h6:P.exprs=[]→P.kids.length=2→P.kind=6):BdV (.mk P.kind P.table (P.exprs++[e]) P.cols P.kids):=by
 intro ws lv n hn hw
 have h0:=h n hn
 obtain⟨k,t,es,cs,ks⟩:=P
 simp only[Pn.exprs_mk,Pn.kids_mk,Pn.kind_mk,Pn.table_mk,Pn.cols_mk]at *
 match ks,h0,h6,hw with
 | [],h0,_,_=>simpa [Pn.bd,Pn.bdL,bdK]using h0
 | [a],h0,_,_=>rw[bd_one]at h0 ⊢;exact h0
 | a::b::l,h0,h6,hw =>
  by_cases he:es=[]
  ·subst he
   have hsh:=wd_shape hw
   generalize hp:Pn.mk k t ([]++[e]) cs (a::b::l)=p at hsh
   cases hsh<;>simp only[Pn.scan,filt,proj,pairP,unionP,Pn.mk.injEq,List.nil_append,reduceCtorEq,and_false,List.cons.injEq,false_and,and_true]at hp
   rename_i hk _ _ _ _
   obtain⟨rfl,_,_,_,_,_,rfl⟩:=hp
   have:=h6 rfl rfl
   omega
  ·have e1:(Pn.mk k t (es++[e]) cs (a::b::l)).bd n=(Pn.mk k t es cs (a::b::l)).bd n:=by
    simp only[Pn.bd,Pn.bdL,bdK]
    rw[if_neg (by simp),if_neg he]
   rw[e1];exact h0
def Rt (P:Pn):Prop:=P.thin∧(∀ n:Nat,1≤n→P.bd n≤2*n ^ 2)∧(P.exprs=[]→P.kids.length=2→P.kind=6)
theorem Th.rt {P:Pn} {j':Nat} {u':Int} (h:Th P 1 j' 1 u') (hu:0≤u'):Rt P:=⟨h.1,h.bdV hu,h.2.2⟩
theorem Rt.one {k t:Int} {es:List Ex} {cs:List Int} {P:Pn} (hth:(Pn.mk k t es cs [P]).thin) (h:Rt P):Rt (.mk k t es cs [P]):=⟨hth,fun n hn=>by rw[bd_one];exact h.2.1 n hn,by simp⟩
theorem Rt.head {P:Pn} {k t:Int} {cs:List Int} (h:Rt P):BdV (.mk k t P.exprs cs P.kids):=fun ws lv n hn _=>by rw[bd_head];exact h.2.1 n hn
theorem Rt.all {P:Pn} (h:Rt P):BdV P:=fun ws lv n hn _=>h.2.1 n hn
end Go.Av

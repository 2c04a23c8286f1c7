/- Part 1 of what the proof rests on: the executor and what it is worth, and the program's functions as it runs them. No condition. -/
import Derived.Test.YtjdfjgmebalaaaaGreatT0
import Derived.Laws.StructEq
import Derived.Laws.Pointers
import Derived.RangeFuncSeq
import Derived.RangeFuncCalls
import Derived.OrdersIn
import Derived.Still
set_option linter.unusedVariables false
set_option linter.unusedSimpArgs false
namespace Go.Av
def AQL (P:Program) (t:TypeId):Prop:=∃ fb fn k,P.underlying t=some (.struct #[fb,fn])∧P.stoodInHeld t=false∧P.eqGuardType P.depth t=false ∧
 fb.name≠ "_"∧fn.name≠ "_"∧fb.offset=0∧fn.offset=1∧P.underlying fb.type=some .bool∧P.underlying fn.type=some (.int k)
structure CtxOk (C:Ctx):Prop where
 zeros:sO C.P
 fields:KJ C.P
 eqs:∀ t,C.eqT t=true→AQL C.P t
section
variable {C:Ctx} {w:World} {m:Mem} {φ:Pl} {st:Store} {env:Nat→AV} {ρ:Operand→Value}
theorem NY {e:TypeId} {xv:Value} {cs:List AV} {nb:Nat} (hi:Inv w m φ st) (hf:∀ id,nb≤id→id<nb+wide→φ id=none) (hx:RepC m φ cs xv.cells.toList) :
 ∃ a w',(newVar e xv).run C.P w=.ok a w'∧Out w m φ nb (.own nb 0) (upd st nb (some (.box cs))) (.pointer (some a)) w':=by
 have hnb:=hf nb (zN _) (jP nb)
 have hblk:BlkOk (w.alloc (.cells xv.cells e)) m (kI φ nb (w.heap.size,one w.heap.size xv.cells.toList.length)) w.heap.size (one w.heap.size xv.cells.toList.length) (.box cs):=by
  refine .box (T:=e) (by simpa using eQ w (.cells xv.cells e)) rfl (hx.mono (.refl _) (PLe.kI hnb)) ?_;intro o
  cases hm:m w.heap.size o with
  | none=>rfl
  | some u=>exact absurd (hi.mem.lt hm) (by omega)
 obtain⟨j1,j2⟩:=hi.push hnb _ hblk;exact⟨⟨w.heap.size,0,none⟩,_,by simp[newVar,newRow],m,_, .own (cK _ _ _),j1,j2,nE (zN _) (jP nb)⟩
theorem ADW {op:BinOp} {t:TypeId} {a b:ByteArray} {r:IV} (hs:dN op=false) (h:ABA op a b=some r) (x y:Operand) :
 ∃ v,(do eqGuard op t x y (.string a) (.string b);binOp op t (.string a) (.string b):Sem Value).run C.P w=.ok v w∧IRep m r v:=by
 have hg:eqGuard op t x y (.string a) (.string b)=pure ():=by cases op<;>rfl
 rw[hg]
 cases op<;>simp[ABA,dN]at h hs<;>first|skip|(cases h;done)
 case add =>
  obtain⟨h1,h2⟩:=aP.1 h;have h1:=zS h1;injection h2 with h2;subst h2;have h3:(a.size:Int)+(b.size:Int)≤9223372036854775807:=by omega
  exact⟨_,by simp[binOp,Op.stringOp,h3], .lit _⟩
 all_goals (subst h;exact⟨_,by simp[binOp,Op.stringOp], .lit _⟩)
theorem ADY {op:BinOp} {t:TypeId} {k:IntKind} {a b:Int} {r:IV} (hs:dN op=false) (h:KP op k a b=some r) (x y:Operand) :
 ∃ v,(do eqGuard op t x y (.int k a) (.int k b);binOp op t (.int k a) (.int k b):Sem Value).run C.P w=.ok v w∧IRep m r v:=by
 have hg:eqGuard op t x y (.int k a) (.int k b)=pure ():=by cases op<;>rfl
 rw[hg]
 cases op<;>simp[KP,dN]at h hs<;>first|skip|(cases h;done)
 case quo =>
  obtain⟨h1,h2⟩:=aP.1 h;injection h2 with h2;subst h2;have h3:¬ b=0:=by simpa using h1
  exact⟨_,by simp[binOp,Op.intDiv,h3], .lit _⟩
 case rem =>
  obtain⟨h1,h2⟩:=aP.1 h;injection h2 with h2;subst h2;have h3:¬ b=0:=by simpa using h1
  exact⟨_,by simp[binOp,Op.intDiv,h3], .lit _⟩
 all_goals (subst h;exact⟨_,by simp[binOp,Op.intArith,Op.intBits,Op.intCmp], .lit _⟩)
theorem AGE {op:BinOp} {t:TypeId} {k k':IntKind} {a b:Int} {r:IV} (h:shI op k a b=some r) (x y:Operand) :
 ∃ v,(do eqGuard op t x y (.int k a) (.int k' b);binOp op t (.int k a) (.int k' b):Sem Value).run C.P w=.ok v w∧IRep m r v:=by
 have hg:eqGuard op t x y (.int k a) (.int k' b)=pure ():=by cases op<;>rfl
 rw[hg]
 cases op<;>simp[shI]at h<;>first|skip|(cases h;done)
 all_goals
  obtain⟨h1,h2⟩:=aP.1 h;injection h2 with h2;subst h2;have h3:¬ b<0:=by have:=zS h1;omega
  exact⟨_,by simp[binOp,Op.shift,h3], .lit _⟩
theorem ADZ {op:BinOp} {t:TypeId} {a b:Bool} {r:IV} (h:AMG op (bE C.P t) a b=some r) (x y:Operand) :
 ∃ v,(do eqGuard op t x y (.bool a) (.bool b);binOp op t (.bool a) (.bool b):Sem Value).run C.P w=.ok v w∧IRep m r v:=by
 have hg:eqGuard op t x y (.bool a) (.bool b)=pure ():=by cases op<;>rfl
 rw[hg];unfold AMG at h;split at h
 ·rename_i hd;have hu:=qZ hd;injection h with h;subst h;exact⟨_,by simp[binOp,Op.equal,Op.maxDepth,run_equalIn_bool _ _ _ _ _ hu], .lit _⟩
 ·rename_i hd;have hu:=qZ hd;injection h with h;subst h;exact⟨_,by simp[binOp,Op.equal,Op.maxDepth,run_equalIn_bool _ _ _ _ _ hu], .lit _⟩
 ·cases h
theorem ADV {op:BinOp} {t:TypeId} {a b:Bool} {n l:Int} {r:IV} (hC:CtxOk C) (h:AME op (C.eqT t) a n b l=some r) (x y:Operand) :
 ∃ v,(do eqGuard op t x y (.agg #[.bool a, .int .i64 n]) (.agg #[.bool b, .int .i64 l]);binOp op t (.agg #[.bool a, .int .i64 n]) (.agg #[.bool b, .int .i64 l]):Sem Value).run C.P w=.ok v w∧IRep m r v:=by
 have key:C.eqT t=true→(Op.equalIn 10000 t (.agg #[.bool a, .int .i64 n]) (.agg #[.bool b, .int .i64 l])).run C.P w=.ok (a == b && n == l) w∧C.P.eqGuardType C.P.depth t=false:=by
  intro he;obtain⟨fb,fn,k,h1,h2,h3,h4,h5,h6,h7,h8,h9⟩:=hC.eqs t he;refine⟨?_,h3⟩;have hfo:C.P.fieldsOf t=#[fb,fn]:=by simp[Program.fieldsOf,h1]
  rw[run_equalIn_struct w 9999 t _ _ (by rw[hfo];exact h1) h2,hfo]
  have p1:∀ (xs:Array Value) (v:Value),xs[0]?=some v→(part fb.type xs 0).run C.P w=.ok v w:=fun xs v hx=>by
   simp[part,isAgg,run_underlying h8,hx]
  have p2:∀ (xs:Array Value) (v:Value),xs[1]?=some v→(part fn.type xs 1).run C.P w=.ok v w:=fun xs v hx=>by
   simp[part,isAgg,run_underlying h9,hx]
  simp only[Op.eqFields,h4,h5,h6,h7,ne_eq,not_false_eq_true,if_true,Sem.run_bind];rw[p1 _ (.bool a) rfl];simp only[Result.andThen_ok];rw[p1 _ (.bool b) rfl];simp only[Result.andThen_ok];rw[run_equalIn_bool w 9998 fb.type a b h8];simp only[Result.andThen_ok]
  cases hab:(a == b)
  ·simp
  ·simp only[Bool.not_true,yZ,if_false,Sem.run_bind,Bool.true_and];rw[p2 _ (.int .i64 n) rfl];simp only[Result.andThen_ok];rw[p2 _ (.int .i64 l) rfl];simp only[Result.andThen_ok];rw[run_equalIn_int w 9998 fn.type .i64 k n l h9];simp only[Result.andThen_ok]
   cases(n == l)<;>simp
 unfold AME at h;split at h
 ·rename_i he;obtain⟨k1,k2⟩:=key (by assumption);injection h with h;subst h;exact⟨_,by rw[Sem.run_bind,run_eqGuard_agg _ _ _ _ _ _ _ k2,Result.andThen_ok,run_eql_struct,k1,Result.andThen_ok], .lit _⟩
 ·rename_i he;obtain⟨k1,k2⟩:=key (by assumption);injection h with h;subst h;exact⟨_,by rw[Sem.run_bind,run_eqGuard_agg _ _ _ _ _ _ _ k2,Result.andThen_ok,run_neq_struct,k1,Result.andThen_ok], .lit _⟩
 ·cases h
theorem IRep.bP {v x:Value} (h:IRep m (.lit v) x):x=v:=by cases h;rfl
theorem Rep.bP {v x:Value} (h:Rep m φ (.i (.lit v)) x):x=v:=by cases h with|i h=>exact h.bP
theorem Rep.YE {u v x:Value} (h:Rep m φ (.i (.agg [.lit u, .lit v])) x):x=.agg #[u,v]:=by
 cases h with|i h=>cases h with|agg h=>cases h with|cons a _ b=>cases b with|cons b _ c=>cases c;rw[a.bP,b.bP]
theorem UV {P:Program} {t:TypeId} (h:N8 P t=true):P.underlying t=some (.pointer (P.pointee t)):=by
 unfold N8 at h;split at h
 ·rename_i e he;have:P.pointee t=e:=by simp[Program.pointee,he]
  rw[this];exact he
 ·cases h
theorem ACK {a:AV} {v:Value} {b:Bool} (ha:Rep m φ a v) (h:AGT a=some b):∃ p,v=.pointer p∧p.isNone=b:=by
 unfold AGT at h;split at h
 ·cases ha;injection h with h;subst h;exact⟨_,rfl,rfl⟩
 ·cases ha;injection h with h;subst h;exact⟨_,rfl,rfl⟩
 ·cases ha with|i h1=>cases h1;injection h with h;subst h;exact⟨_,rfl,rfl⟩
 ·rw[ha.bP];injection h with h;subst h;exact⟨_,rfl,rfl⟩
 ·cases h
theorem ADX {op:BinOp} {t:TypeId} {p:Option Addr} {r:IV} (ht:N8 C.P t=true) (h:AMF op p.isNone=some r) (x y:Operand) :
 ∃ v,(do eqGuard op t x y (.pointer p) (.pointer none);binOp op t (.pointer p) (.pointer none):Sem Value).run C.P w=.ok v w∧IRep m r v:=by
 have hg:eqGuard op t x y (.pointer p) (.pointer none)=pure ():=by cases op<;>rfl
 rw[hg];have hu:=UV ht;unfold AMF at h;split at h
 ·injection h with h;subst h;exact⟨_,by simp[binOp,run_equal_pointer_nil w t p hu], .lit _⟩
 ·injection h with h;subst h;exact⟨_,by simp[binOp,run_equal_pointer_nil w t p hu], .lit _⟩
 ·cases h
theorem AA8 (hC:CtxOk C) {op:BinOp} {t:TypeId} {a b:AV} {r:IV} {av bv:Value} (ha:Rep m φ a av) (hb:Rep m φ b bv) (h:AE0 C op t a b=some r) (x y:Operand) :
 ∃ v,(do eqGuard op t x y av bv;binOp op t av bv:Sem Value).run C.P w=.ok v w∧IRep m r v:=by
 unfold AE0 at h;split at h
 ·rename_i k n k' l;rw[ha.bP,hb.bP]
  cases hs:dN op with
  | true=>rw[hs]at h;exact AGE h x y
  | false =>
   rw[hs]at h;obtain⟨h1,h2⟩:=aP.1 h;have h1:=zS h1;subst h1;exact ADY hs h2 x y
 ·rw[ha.bP,hb.bP];obtain⟨h1,h2⟩:=aP.1 h;exact ADW (by simpa using h1) h2 x y
 ·rw[ha.bP,hb.bP];exact ADZ h x y
 ·rw[ha.YE,hb.YE];exact ADV hC h x y
 ·obtain⟨h1,h2⟩:=aP.1 h;obtain⟨b,h3,h4⟩:=aH.1 h2;obtain⟨p,rfl,rfl⟩:=ACK ha h3;rw[hb.bP];exact ADX h1 h4 x y
 ·cases h
theorem ABP {op:UnOp} {a:AV} {r:IV} {av:Value} (ha:Rep m φ a av) (h:unA op a=some r):∃ v,(Op.unary op av).run C.P w=.ok v w∧IRep m r v:=by
 unfold unA at h;split at h
 ·rw[ha.bP];injection h with h;subst h;exact⟨_,by simp[Op.unary], .lit _⟩
 ·rw[ha.bP];injection h with h;subst h;exact⟨_,by simp[Op.unary,Op.intArith], .lit _⟩
 ·cases h
theorem VG {s d:TypeId} {a r:AV} {av:Value} (ha:Rep m φ a av) (h:VH (bE C.P s) (bE C.P d) a=some r):∃ v,(convert s d av).run C.P w=.ok v w∧Rep m φ r v:=by
 unfold VH at h;split at h
 ·rename_i ds k k' n hs hd;obtain⟨us,hus⟩:=F8 hs;have hud:=J4 hd;rw[ha.bP];injection h with h;subst h
  exact⟨_,by simp[convert,run_underlying hus,run_underlying hud,Conv.intToInt], .i (.lit _)⟩
 ·rename_i hs hd;have hus:=eZ hs;have hud:=eZ hd;rw[ha.bP];injection h with h;subst h
  exact⟨_,by simp[convert,run_underlying hus,run_underlying hud], .i (.lit _)⟩
 ·cases h
theorem UQ {c a b r:AV} {cv av bv:Value} (hc:Rep m φ c cv) (ha:Rep m φ a av) (hb:Rep m φ b bv) (h:YD a b c=some r) :
 ∃ t:Bool,cv=.bool t∧Rep m φ r (if t=true then av else bv):=by
 unfold YD at h;split at h
 ·rename_i t;refine⟨t,hc.bP,?_⟩;injection h with h;subst h
  cases t
  ·exact hb
  ·exact ha
 ·cases h
theorem YK {a r:AV} {av:Value} (ha:Rep m φ a av) (h:ACM a=some r) :
 Rep m φ r av∧((∃ ad,av=.pointer (some ad))∨∃ g cs,av=.func (.func g) #[] cs):=by
 unfold ACM at h;split at h
 ·injection h with h;subst h;refine⟨ha, .inl ?_⟩;cases ha;exact⟨_,rfl⟩
 ·injection h with h;subst h;refine⟨ha, .inl ?_⟩;cases ha;exact⟨_,rfl⟩
 ·injection h with h;subst h;refine⟨ha, .inl ?_⟩;cases ha with|i ha=>cases ha;exact⟨_,rfl⟩
 ·injection h with h;subst h;refine⟨ha, .inl ?_⟩;exact⟨_,ha.bP⟩
 ·injection h with h;subst h;refine⟨ha, .inr ?_⟩;cases ha;exact⟨_,_,rfl⟩
 ·cases h
theorem iW {a:AV} {x:Value} {n j:Nat} (ha:Rep m φ a x) (h:kD a n=some j):∃ k i,x=.int k i∧0≤i∧i<n∧i.toNat=j:=by
 unfold kD at h;split at h
 ·obtain⟨h1,h2⟩:=aP.1 h;have h1:=zS h1;injection h2 with h2;exact⟨_,_,ha.bP,h1.1,h1.2,h2⟩
 ·cases h
theorem ED {s:TypeId} {f:Nat} {p:TypeId×Nat} {n:Nat} {a r:AV} {av:Value} (ha:Rep m φ a av) (h1:dI C.P s f=some p) (h2:gM C.P p.1=some n) (h3:0<n) (h:gY p.2 a=some r) :
 ∃ v,(Instr.fieldAt s av f).run C.P w=.ok v w∧Rep m φ r v:=by
 obtain⟨fs,fd,k1,k2,k3,k4⟩:=EC h1;have hsz:(sizeOf fd.type).run C.P w=.ok n w:=by rw[k3];exact dB h2 w
 have hrun:∀ ad:Addr,(Instr.fieldAt s (.pointer (some ad)) f).run C.P w=.ok (.pointer (some (ad.add p.2))) w:=fun ad=>by
  simp[Instr.fieldAt,run_underlying k1,k2,Instr.sureAddr,fieldPlace,hsz,Nat.ne_of_gt h3,k4]
 unfold gY at h;split at h
 ·injection h with h;subst h
  cases ha with|own e=>exact⟨_,hrun _,by rw[Addr.dH];exact .own e⟩
 ·injection h with h;subst h
  cases ha with|ownE e=>exact⟨_,hrun _,by rw[Addr.dH,yN];exact .ownE e⟩
 ·obtain⟨h4,h5⟩:=aP.1 h;injection h5 with h5;subst h5
  cases ha with|i ha=>cases ha with|iref hat=>exact⟨_,hrun _,by rw[Addr.dH];exact .i (.iref (hat.dropE _ (zS h4)))⟩
 ·injection h with h;subst h
  cases ha with|i ha=>cases ha with|lit=>exact⟨_,hrun _,by rw[Addr.dH];exact .i (.lit _)⟩
 ·cases h
theorem RG {t:TypeId} {n off:Nat} {g:Bool} {vs:List Value} (hs:gM C.P t=some n) (hg:uT (bE C.P t)=some g) :
 (g=true→(part t vs.toArray off).run C.P w=.ok (.agg ((vs.drop off).take n).toArray) w)∧(g=false→∀ x,vs[off]?=some x→(part t vs.toArray off).run C.P w=.ok x w):=by
 constructor
 ·intro h;subst h;simp only[part,Sem.run_bind,tY hg,dB hs,Result.andThen_ok,if_true,Sem.run_pure];congr 2;apply Array.ext';simp[List.extract_eq_take_drop]
 ·intro h x hx;subst h;simp[part,tY hg,hx]
theorem AHV {cs l:List AV} {vs:List Value} {t:TypeId} {off n:Nat} {g:Bool} {r:AV} (hs:gM C.P t=some n) (hg:uT (bE C.P t)=some g) (hc:RepC m φ cs vs) (h:cut cs off n=some l) (h2:nS g l=some r) :
 ∃ x,(part t vs.toArray off).run C.P w=.ok x w∧Rep m φ r x:=by
 have hp:=RG (C:=C) (w:=w) (off:=off) (vs:=vs) hs hg
 rcases EK h with ⟨rfl,hle⟩|⟨rfl,rfl⟩
 ·rcases nR h2 ((hc.drop off).take n)with ⟨rfl,k⟩|⟨rfl,x,hx,k⟩
  ·exact⟨_,hp.1 rfl,k⟩
  ·refine⟨x,hp.2 rfl x ?_,k⟩;have h0:((vs.drop off).take n)[0]?=some x:=by rw[hx];rfl
   rw[zL]at h0;split at h0
   ·rw[yS]at h0;simpa using h0
   ·cases h0
 ·cases g with
  | true =>
   refine⟨_,hp.1 rfl,?_⟩
   rcases nR h2 (.nil (m:=m) (φ:=φ))with ⟨_,k⟩|⟨h,_⟩
   ·simpa using k
   ·cases h
  | false=>simp[nS]at h2
theorem SI {cs l:List IV} {vs:List Value} {t:TypeId} {off n:Nat} {g:Bool} {r:AV} (hs:gM C.P t=some n) (hg:uT (bE C.P t)=some g) (hc:ICells m cs vs) (h:cut cs off n=some l) (h2:fT g l=some r) :
 ∃ x,(part t vs.toArray off).run C.P w=.ok x w∧Rep m φ r x:=by
 have hp:=RG (C:=C) (w:=w) (off:=off) (vs:=vs) hs hg
 rcases EK h with ⟨rfl,hle⟩|⟨rfl,rfl⟩
 ·rcases dX (φ:=φ) h2 ((hc.drop off).take n)with ⟨rfl,k⟩|⟨rfl,x,hx,k⟩
  ·exact⟨_,hp.1 rfl,k⟩
  ·refine⟨x,hp.2 rfl x ?_,k⟩;have h0:((vs.drop off).take n)[0]?=some x:=by rw[hx];rfl
   rw[zL]at h0;split at h0
   ·rw[yS]at h0;simpa using h0
   ·cases h0
 ·cases g with
  | true =>
   refine⟨_,hp.1 rfl,?_⟩
   rcases dX (φ:=φ) h2 (.nil (m:=m))with ⟨_,k⟩|⟨h,_⟩
   ·simpa using k
   ·cases h
  | false=>simp[fT]at h2
theorem PY {s:TypeId} {f:Nat} {p:TypeId×Nat} {n:Nat} {g:Bool} {a r:AV} {av:Value} (ha:Rep m φ a av) (h1:dI C.P s f=some p) (h2:gM C.P p.1=some n) (hg:uT (bE C.P p.1)=some g) (h:I8 p.2 n g a=some r) :
 ∃ v,(Instr.field s av f).run C.P w=.ok v w∧Rep m φ r v:=by
 obtain⟨fs,fd,k1,k2,k3,k4⟩:=EC h1
 have hrun:∀ (vs:List Value) (x:Value),(part p.1 vs.toArray p.2).run C.P w=.ok x w→(Instr.field s (.agg vs.toArray) f).run C.P w=.ok x w:=fun vs x hx=>by
  simp[Instr.field,run_underlying k1,k2,asAgg,k3,k4,hx]
 unfold I8 at h;split at h
 ·obtain⟨l,h3,h4⟩:=aH.1 h
  cases ha with
  | agg hc=>obtain⟨x,j1,j2⟩:=AHV (w:=w) h2 hg hc h3 h4;exact⟨x,hrun _ _ j1,j2⟩
 ·obtain⟨l,h3,h4⟩:=aH.1 h
  cases ha with
  | i ha=>cases ha with
   | agg hc=>obtain⟨x,j1,j2⟩:=SI (w:=w) h2 hg hc h3 h4;exact⟨x,hrun _ _ j1,j2⟩
 ·cases h
theorem DL {t:TypeId} {x ix r:AV} {xv iv:Value} (hx:Rep m φ x xv) (hix:Rep m φ ix iv) (h:kJ C x ix (bE C.P t)=some r) :
 ∃ v,(Instr.indexAt t xv iv).run C.P w=.ok v w∧Rep m φ r v:=by
 unfold kJ at h;split at h
 ·rename_i e hd;have hu:=fF hd;obtain⟨k,hk,h1⟩:=aH.1 h
  have hrun:∀ (a:Addr) (len cap:Nat) (q:IntKind) (i:Int),0≤i→i<len→(Instr.indexAt t (.slice (some a) len cap) (.int q i)).run C.P w=.ok (.pointer (some (a.add (i.toNat*k)))) w:=fun a len cap q i h0 hl=>by
   simp[Instr.indexAt,run_underlying hu,asIntOf,h0,hl,dB hk]
  unfold DJ at h1;split at h1
  ·rename_i es;obtain⟨j,h2,h3⟩:=aH.1 h1;obtain⟨cs,h4,h5⟩:=aH.1 h3;rw[iU]at h4;obtain⟨h6,h7⟩:=aP.1 h5;injection h7 with h7;subst h7;obtain⟨q,i,rfl,i0,i1,i2⟩:=iW hix h2;have h6:cs.length=k:=by simpa using h6
   cases hx with
   | i hx =>
    cases hx with
    | isl0=>simp at h4
    | isl hn he hcap =>
     obtain⟨hat,hel⟩:=JX he h4;refine⟨_,hrun _ _ _ q i i0 i1,?_⟩;rw[Addr.dH,i2];rw[h6]at hel;subst hel;rw[zG];exact .i (.iref hat)
  ·rename_i id k' off len;obtain⟨j,h2,h3⟩:=aH.1 h1;obtain⟨h6,h7⟩:=aP.1 h3;injection h7 with h7;subst h7;have h6:k'=k:=by simpa using h6
   subst h6;obtain⟨q,i,rfl,i0,i1,i2⟩:=iW hix h2
   cases hx with
   | osl eφ hlc hcap ha1 ha2 =>
    rw[ha1 (by omega)];refine⟨_,hrun _ _ _ q i i0 i1,?_⟩;rw[Addr.dH,i2,show k'*off+j*k'=k'*(off+j)+0 by rw[zA,zG j];omega];exact .ownE eφ
  ·rename_i b off len cap;obtain⟨j,h2,h3⟩:=aH.1 h1;injection h3 with h3;subst h3;obtain⟨q,i,rfl,i0,i1,i2⟩:=iW hix h2;rw[hx.bP];refine⟨_,hrun _ _ _ q i i0 i1,?_⟩;rw[Addr.dH,i2];exact .i (.lit _)
  ·cases h1
 ·rename_i n e hd;have hu:=kM hd;obtain⟨k,hk,h1⟩:=aH.1 h;unfold PQ at h1;split at h1
  ·obtain⟨j,h2,h3⟩:=aH.1 h1;injection h3 with h3;subst h3;obtain⟨q,i,rfl,i0,i1,i2⟩:=iW hix h2
   cases hx with
   | own eφ =>
    refine⟨_,by simp[Instr.indexAt,run_underlying hu,asIntOf,i0,i1,dB hk,Instr.sureAddr];rfl,?_⟩;rw[Addr.dH,i2];exact .own eφ
  ·cases h1
 ·cases h
theorem PO {t:TypeId} {x ix r:AV} {xv iv:Value} (hx:Rep m φ x xv) (hix:Rep m φ ix iv) (h:HV C ix (bE C.P t) x=some r) :
 ∃ v,(Instr.index t xv iv).run C.P w=.ok v w∧Rep m φ r v:=by
 unfold HV at h;split at h
 ·rename_i s hd;have hu:=eZ hd;obtain⟨j,h2,h3⟩:=aH.1 h;obtain⟨b,h4,h5⟩:=aH.1 h3;rw[iU,y5]at h4;injection h5 with h5;subst h5;obtain⟨q,i,rfl,i0,i1,i2⟩:=iW hix h2;rw[hx.bP]
  have hb:s[i.toNat]?=some b:=by
   rw[i2];obtain⟨hlt,hget⟩:=zI.1 h4;have hlt':j<s.size:=hlt;rw[getElem?_pos s j hlt'];exact congrArg some hget
  exact⟨_,by simp[Instr.index,run_underlying hu,asIntOf,i0,hb], .i (.lit _)⟩
 ·rename_i n e cs hd;have hu:=kM hd;obtain⟨k,hk,h1⟩:=aH.1 h;obtain⟨g,hg,h2⟩:=aH.1 h1;obtain⟨j,h3,h4⟩:=aH.1 h2;obtain⟨l,h5,h6⟩:=aH.1 h4;obtain⟨q,i,rfl,i0,i1,i2⟩:=iW hix h3
  cases hx with
  | i hx=>cases hx with
   | agg hc =>
    obtain⟨y,j1,j2⟩:=SI (w:=w) (φ:=φ) hk hg hc h5 h6;exact⟨y,by simp[Instr.index,run_underlying hu,asIntOf,i0,i1,dB hk,i2,j1],j2⟩
 ·cases h
theorem JS {x r:AV} {xv:Value} {j:Nat} (hx:Rep m φ x xv) (h:uK j x=some r):∃ v,(Instr.extract xv j).run C.P w=.ok v w∧Rep m φ r v:=by
 unfold uK at h;split at h
 ·cases hx with
  | tup hl =>
   have key:∀ {cs:List AV} {vs:List Value} {j:Nat} {r:AV},RepL m φ cs vs→cs[j]?=some r→∃ v,vs[j]?=some v∧Rep m φ r v:=by
    intro cs
    induction cs with
    | nil=>intro vs j r _ h;simp at h
    | cons c cs ih =>
     intro vs j r hl h
     cases hl with
     | cons a b =>
      cases j with
      | zero=>simp at h;subst h;exact⟨_,rfl,a⟩
      | succ j=>obtain⟨v,h1,h2⟩:=ih b (by simpa using h);exact⟨v,by simpa using h1,h2⟩
   obtain⟨v,h1,h2⟩:=key hl h;exact⟨v,by simp[Instr.extract,h1],h2⟩
 ·cases h
theorem DN {o:Option AV} {v:Option Value} {dflt n h:Nat} (hr:∀ a,o=some a→∃ x,v=some x∧Rep m φ a x) (hn:o=none→v=none) (e:iH o dflt n=some h) :
 (o=none∧v=none∧h=dflt)∨∃ k i,v=some (.int k i)∧0≤i∧i≤n∧h=i.toNat:=by
 unfold iH at e;split at e
 ·injection e with e;exact .inl ⟨rfl,hn rfl,e.symm⟩
 ·obtain⟨h1,h2⟩:=aP.1 e;have h1:=zS h1;injection h2 with h2;obtain⟨x,rfl,hx⟩:=hr _ rfl;exact .inr ⟨_,_,by rw[hx.bP],h1.1,h1.2,h2.symm⟩
 ·cases e
theorem mX {isSlice:Bool} {len cap:Nat} {lo hi:Option AV} {lv hv:Option Value} {l h:Nat} (hlc:len≤cap)
 (r1:∀ a,lo=some a→∃ x,lv=some x∧Rep m φ a x) (n1:lo=none→lv=none) (r2:∀ a,hi=some a→∃ x,hv=some x∧Rep m φ a x) (n2:hi=none→hv=none)
 (e1:iH hi len len=some h) (e2:iH lo 0 h=some l) :
 (Instr.sliceBounds isSlice len cap lv hv none).run C.P w=.ok (l,h,cap) w∧l≤h∧h≤len:=by
 have q2:=DN r2 n2 e1;have q1:=DN r1 n1 e2
 rcases q2 with ⟨_,rfl,rfl⟩|⟨k,i,rfl,i0,i1,rfl⟩
 ·rcases q1 with ⟨_,rfl,rfl⟩|⟨k',j,rfl,j0,j1,rfl⟩
  ·exact⟨by simp[Instr.sliceBounds],by omega,by omega⟩
  ·exact⟨by simp[Instr.sliceBounds,Instr.sliceBound,asIntOf,j0,j1],by omega,by omega⟩
 ·have i2:i≤(cap:Int):=by omega
  rcases q1 with ⟨_,rfl,rfl⟩|⟨k',j,rfl,j0,j1,rfl⟩
  ·exact⟨by simp[Instr.sliceBounds,Instr.sliceBound,asIntOf,i0,i2],by omega,by omega⟩
  ·have j2:j≤i:=by omega
   exact⟨by simp[Instr.sliceBounds,Instr.sliceBound,asIntOf,i0,i2,j0,j2,Int.toNat_of_nonneg i0],by omega,by omega⟩
end
section
variable {C:Ctx} {w:World} {m:Mem} {φ:Pl} {st:Store} {env:Nat→AV} {ρ:Operand→Value}
theorem OV {t:TypeId} {x r:AV} {xv:Value} {lo hi:Option AV} {lv hv:Option Value} (hx:Rep m φ x xv)
 (r1:∀ a,lo=some a→∃ x,lv=some x∧Rep m φ a x) (n1:lo=none→lv=none) (r2:∀ a,hi=some a→∃ x,hv=some x∧Rep m φ a x) (n2:hi=none→hv=none)
 (h:wG C t lo hi x=some r) :
 ∃ v,(Instr.sliceAt t xv lv hv none).run C.P w=.ok v w∧Rep m φ r v:=by
 unfold wG at h;split at h
 ·rename_i s;obtain⟨hd,h0⟩:=aP.1 h;obtain⟨h',e1,h1⟩:=aH.1 h0;obtain⟨l,e2,h2⟩:=aH.1 h1;injection h2 with h2;subst h2
  have hu:C.P.underlying t=some .string:=by
   unfold Z6 at hd;split at hd
   ·rename_i hd';exact eZ hd'
   ·cases hd
  obtain⟨k1,k2,k3⟩:=mX (w:=w) (C:=C) (isSlice:=false) (zN s.size) r1 n1 r2 n2 e1 e2;rw[hx.bP];exact⟨_,by simp[Instr.sliceAt,Instr.slice,run_underlying hu,k1], .i (.lit _)⟩
 ·rename_i es;obtain⟨e,he,h1⟩:=aH.1 h;obtain⟨k,hk,h2⟩:=aH.1 h1;obtain⟨hw1,h3⟩:=aP.1 h2;obtain⟨h',e1,h4⟩:=aH.1 h3;obtain⟨l,e2,h5⟩:=aH.1 h4;injection h5 with h5;subst h5;have hu:=kL he;have hwd:=KT hw1
  cases hx with
  | i hx =>
   cases hx with
   | isl0 ao cap hc =>
    obtain⟨k1,k2,k3⟩:=mX (w:=w) (C:=C) (isSlice:=true) (xJ cap) r1 n1 r2 n2 (by simpa using e1) e2;have hl0:l=0:=by omega
    have hh0:h'=0:=by omega
    subst hl0;subst hh0;refine⟨_,by simp[Instr.sliceAt,Instr.slice,run_underlying hu,k1,dB hk];rfl,?_⟩;have:window ([]:List (List IV)) 0 0=[]:=rfl;rw[this];split
    ·exact .i (.isl0 _ _ hc)
    ·refine .i (.isl0 _ _ fun h=>?_)
     cases ao with
     | none=>exact hc rfl
     | some a=>simp at h
   | @isl b off k' _ cap hn hel hcap =>
    obtain⟨k1,k2,k3⟩:=mX (w:=w) (C:=C) (isSlice:=true) hcap r1 n1 r2 n2 e1 e2
    have hkk:k'=k:=by
     cases es with
     | nil=>exact absurd rfl hn
     | cons e0 es=>exact(pQ hel e0 (by simp)).symm.trans (hwd e0 (by simp))
    subst hkk;refine⟨_,by simp[Instr.sliceAt,Instr.slice,run_underlying hu,k1,dB hk];rfl,?_⟩;have hwn:(window es l (h'-l)).length=h'-l:=by unfold window;simp;omega
    by_cases h0:h'-l=0
    ·rw[h0];have:window es l 0=[]:=by simp[window]
     rw[this];split
     ·exact .i (.isl0 _ _ fun h=>by cases h)
     ·exact .i (.isl0 _ _ fun h=>by cases h)
    ·have hcl:¬ cap=l:=by omega
     simp only[hcl,if_false];rw[Addr.dH,zG l];have hel':=wW l (h'-l) hel;have hne:window es l (h'-l)≠[]:=fun h=>by rw[h]at hwn;simp at hwn;omega
     have:=Rep.i (φ:=φ) (IRep.isl (cap:=cap-l) hne hel' (by rw[hwn];omega))
     rwa [hwn]at this
 ·rename_i id k off len;obtain⟨e,he,h1⟩:=aH.1 h;obtain⟨k',hk,h2⟩:=aH.1 h1;obtain⟨hw1,h3⟩:=aP.1 h2;have hw1:=zS hw1;subst hw1;obtain⟨h',e1,h4⟩:=aH.1 h3;obtain⟨l,e2,h5⟩:=aH.1 h4;injection h5 with h5;subst h5;have hu:=kL he
  cases hx with
  | @osl _ _ _ _ cap b n ao eφ hlc hcap ha1 ha2 =>
   obtain⟨k1,k2,k3⟩:=mX (w:=w) (C:=C) (isSlice:=true) hlc r1 n1 r2 n2 e1 e2;refine⟨_,by simp[Instr.sliceAt,Instr.slice,run_underlying hu,k1,dB hk];rfl,?_⟩;by_cases hcl:cap=l
   ·simp only[hcl,if_true,Nat.sub_self];have:h'-l=0:=by omega
    rw[this];refine .osl eφ (zN _) ?_ (fun h=>absurd rfl h) (fun _=>rfl);rw[xQ];subst hcl;exact hcap
   ·simp only[hcl,if_false];have hao:=ha1 (by omega);subst hao;refine .osl eφ (by omega) ?_ (fun _=>?_) (fun h=>by simp at h)
    ·rw[show off+l+(cap-l)=off+cap by omega];exact hcap
    ·simp only[xD,Addr.dH];rw[zA,zG l]
 ·obtain⟨e,he,h1⟩:=aH.1 h;obtain⟨k,hk,h2⟩:=aH.1 h1;obtain⟨h',e1,h4⟩:=aH.1 h2;obtain⟨l,e2,h5⟩:=aH.1 h4;injection h5 with h5;subst h5;have hu:=kL he
  cases hx with
  | nils =>
   obtain⟨k1,k2,k3⟩:=mX (w:=w) (C:=C) (isSlice:=true) (zN 0) r1 n1 r2 n2 e1 e2;have hl0:l=0:=by omega
   have hh0:h'=0:=by omega
   subst hl0;subst hh0;exact⟨_,by simp[Instr.sliceAt,Instr.slice,run_underlying hu,k1,dB hk], .nils⟩
 ·cases h
theorem Z0 {t ty:TypeId} {x:AV} {xv:Value} {n:Nat} (hx:Rep m φ x xv) (h:AF7 (bE C.P t) x=some n):(Builtin.len_ #[t] ty #[xv]).run C.P w=.ok (goInt n) w:=by
 unfold AF7 at h;split at h
 ·rename_i e hd;have hu:=fF hd;injection h with h;subst h
  cases hx with|nils=>simp[Builtin.len_,run_underlying hu]
 ·rename_i e es hd;have hu:=fF hd;injection h with h;subst h
  cases hx with
  | i hx=>cases hx<;>simp[Builtin.len_,run_underlying hu]
 ·rename_i e id k off len hd;have hu:=fF hd;injection h with h;subst h
  cases hx with|osl=>simp[Builtin.len_,run_underlying hu]
 ·rename_i e a len cap hd;have hu:=fF hd;injection h with h;subst h;rw[hx.bP];simp[Builtin.len_,run_underlying hu]
 ·rename_i s hd;have hu:=eZ hd;injection h with h;subst h;rw[hx.bP];simp[Builtin.len_,run_underlying hu]
 ·cases h
theorem AE3 {a b:AV} {vs:List Value} (h:RepL m φ [a,b] vs):∃ x y,vs=[x,y]∧Rep m φ a x∧Rep m φ b y:=by
 cases h with|cons a h=>cases h with|cons b h=>cases h;exact⟨_,_,rfl,a,b⟩
theorem VT {a:AV} {vs:List Value} (h:RepL m φ [a] vs):∃ x,vs=[x]∧Rep m φ a x:=by
 cases h with|cons a h=>cases h;exact⟨_,rfl,a⟩
theorem YO {args:List AV} {vs:List Value} {r:AV} {ts:Array TypeId} {ty:TypeId} (hx:RepL m φ args vs) (h:pE .min args=some r):∃ v,(Builtin.min_ ts ty vs.toArray).run C.P w=.ok v w∧Rep m φ r v:=by
 unfold pE at h;split at h
 ·injection h with h;subst h;obtain⟨x,y,rfl,k1,k2⟩:=AE3 hx;rw[k1.bP,k2.bP];exact⟨_,by simp[Builtin.min_,Builtin.min2], .i (.lit _)⟩
 ·rename_i hq;cases hq
 ·cases h
theorem YT {args:List AV} {vs:List Value} {r:AV} {ts:Array TypeId} {ty:TypeId} (hx:RepL m φ args vs) (h:pE .max args=some r):∃ v,(Builtin.max_ ts ty vs.toArray).run C.P w=.ok v w∧Rep m φ r v:=by
 unfold pE at h;split at h
 ·rename_i hq;cases hq
 ·injection h with h;subst h;obtain⟨x,y,rfl,k1,k2⟩:=AE3 hx;rw[k1.bP,k2.bP];exact⟨_,by simp[Builtin.max_,Builtin.max2], .i (.lit _)⟩
 ·cases h
theorem JV (hρ:Fits m φ env ρ):∀ {l:List Operand},(∀ x∈l,CO x=true)→RepL m φ (evL env l) (l.map ρ)
 | [],_=>.nil
 | x::l,h=>.cons (hρ x (h x (by simp))) (JV hρ fun y hy=>h y (by simp[hy]))
theorem CY {l:List (Nat×Operand)} {p:Nat×Operand} (h:p∈l):p.2∈eP l:=by
 induction l with
 | nil=>cases h
 | cons q l ih =>
  rcases zQ.1 h with rfl|h
  ·simp[eP]
  ·simp[eP,ih h]
theorem ABF (hz:sO C.P) {t:TypeId} {z:List Value} (h:zeroOf C.P t=some z):RepC m φ (dM z) z:=lS m φ z (hz t z h)
def AMT (nx:Next) (y:Value):Prop:=nx=.value y∨(nx=.skip∧y=undef)
theorem OO (hC:CtxOk C) {nb:Nat} {o:Oper} {v:AV} {st':Store} (hi:Inv w m φ st) (hf:∀ id,nb≤id→id<nb+wide→φ id=none) (hρ:Fits m φ env ρ) (ho:APW o.op=true)
 (h:dU C env st nb o.op=some (v,st')):∃ nx y w',(execOp ρ o).run C.P w=.ok nx w'∧AMT nx y∧Out w m φ nb v st' y w':=by
 have hall:∀ x∈opsOf o.op,CO x=true:=fun x hx=>zR.1 ho x hx
 unfold execOp;unfold dU at h;split at h
 ·rename_i x e;rw[e]at hall;simp only[e];injection h with h;injection h with h1 h2;subst h1;subst h2;exact⟨_,_,w,by simp, .inl rfl,Out.same hi (hρ x (hall x (by simp[opsOf])))⟩
 ·rename_i x e;rw[e]at hall;simp only[e];injection h with h;injection h with h1 h2;subst h1;subst h2;exact⟨_,_,w,by simp, .inl rfl,Out.same hi (hρ x (hall x (by simp[opsOf])))⟩
 ·rename_i c a b e;rw[e]at hall;simp only[e];obtain⟨v',h1,h2⟩:=aH.1 h;injection h2 with h2;injection h2 with h2 h3;subst h2;subst h3;obtain⟨t,h4,h5⟩:=UQ (hρ c (hall c (by simp[opsOf]))) (hρ a (hall a (by simp[opsOf]))) (hρ b (hall b (by simp[opsOf]))) h1;refine⟨_,_,w,?_, .inl rfl,Out.same hi h5⟩;rw[h4];simp[asBool]
 ·rename_i t e;simp only[e];obtain⟨z,h1,h2⟩:=aH.1 h;injection h2 with h2;injection h2 with h2 h3;subst h2;subst h3;obtain⟨zv,h4,h5⟩:=AO h1 w;obtain⟨a,w',h6,h7⟩:=NY (C:=C) (e:=t) (xv:=zv) hi hf (by rw[h5];exact ABF hC.zeros h1);exact⟨_,_,w',by simp[Instr.alloc,h4,h6], .inl rfl,h7⟩
 ·rename_i t x e;rw[e]at hall;simp only[e];obtain⟨cs,h1,h2⟩:=aH.1 h;injection h2 with h2;injection h2 with h2 h3;subst h2;subst h3;obtain⟨a,w',h6,h7⟩:=NY (C:=C) (e:=t) hi hf (sJ h1 (hρ x (hall x (by simp[opsOf]))));exact⟨_,_,w',by simp[Instr.box,h6], .inl rfl,h7⟩
 ·rename_i t parts e;rw[e]at hall;simp only[e];obtain⟨g,hg,h1⟩:=aH.1 h;obtain⟨rfl,h2⟩:=aP.1 h1;obtain⟨z,hz,h3⟩:=aH.1 h2;obtain⟨ps,hps,h4⟩:=aH.1 h3;obtain⟨cs,hcs,h5⟩:=aH.1 h4;injection h5 with h5;injection h5 with h5 h6;subst h5;subst h6;obtain⟨out,k1,k2⟩:=AA5 (w:=w) hC.zeros hC.fields hρ (fun p hp=>hall _ (by simpa [opsOf]using CY hp)) hz hps hcs hg;refine⟨_, .agg out,w,by simp[k1], .inl rfl,Out.same hi ?_⟩;have:=CW k2;simpa using this
 ·rename_i t n parts e;rw[e]at hall;simp only[e];obtain⟨el,he,h1⟩:=aH.1 h;obtain⟨ps,hps,h2⟩:=aH.1 h1;have hpr:=rO hρ (fun p hp=>hall _ (by simpa [opsOf]using CY hp)) hps;obtain⟨y,w',k1,k2⟩:=FB (w:=w) hC.zeros hi hf (kL he) hpr h2 (parts.map fun p=>(p.1,ρ p.2)) (by simp);exact⟨_,_,w',by simp[k1], .inl rfl,k2⟩
 ·rename_i t a e;rw[e]at hall;simp only[e];obtain⟨v',h1,h2⟩:=aH.1 h;injection h2 with h2;injection h2 with h2 h3;subst h2;subst h3;obtain⟨ad,y,k1,k2,k3⟩:=rT hi (hρ a (hall a (by simp[opsOf]))) h1;exact⟨_,_,w,by simp[Instr.loadAt,Instr.sureAddr,k1,k2], .inl rfl,Out.same hi k3⟩
 ·rename_i t a x e;rw[e]at hall;simp only[e];obtain⟨st1,h1,h2⟩:=aH.1 h;injection h2 with h2;injection h2 with h2 h3;subst h2;subst h3;obtain⟨w',m',φ',k1,k2,k3,k4⟩:=LQ hi (hρ a (hall a (by simp[opsOf]))) (hρ x (hall x (by simp[opsOf]))) h1;exact⟨_,_,w',by simp[k1], .inr ⟨rfl,rfl⟩,m',φ', .i (.lit _),k2,k3,fun _ h=>.inl (k4 _ h)⟩
 ·rename_i x e;rw[e]at hall;simp only[e];obtain⟨v',h1,h2⟩:=aH.1 h;injection h2 with h2;injection h2 with h2 h3;subst h2;subst h3;obtain⟨k1,k2⟩:=YK (hρ x (hall x (by simp[opsOf]))) h1;refine⟨_,ρ x,w,?_, .inl rfl,Out.same hi k1⟩
  rcases k2 with ⟨ad,k2⟩|⟨g,cs,k2⟩<;>simp[k2]
 ·rename_i op t x y ty e;rw[e]at hall;simp only[e];obtain⟨r,h1,h2⟩:=aH.1 h;injection h2 with h2;injection h2 with h2 h3;subst h2;subst h3;obtain⟨v',k1,k2⟩:=AA8 (w:=w) hC (hρ x (hall x (by simp[opsOf]))) (hρ y (hall y (by simp[opsOf]))) h1 x y;refine⟨_,_,w,?_, .inl rfl,Out.same hi (.i k2)⟩;rw[Sem.run_bind,k1];simp
 ·rename_i op ty x e;rw[e]at hall;simp only[e];obtain⟨r,h1,h2⟩:=aH.1 h;injection h2 with h2;injection h2 with h2 h3;subst h2;subst h3;obtain⟨v',k1,k2⟩:=ABP (C:=C) (w:=w) (hρ x (hall x (by simp[opsOf]))) h1;exact⟨_,_,w,by simp[k1], .inl rfl,Out.same hi (.i k2)⟩
 ·rename_i s d x e;rw[e]at hall;simp only[e];obtain⟨r,h1,h2⟩:=aH.1 h;injection h2 with h2;injection h2 with h2 h3;subst h2;subst h3;obtain⟨v',k1,k2⟩:=VG (C:=C) (w:=w) (hρ x (hall x (by simp[opsOf]))) h1;exact⟨_,_,w,by simp[k1], .inl rfl,Out.same hi k2⟩
 ·rename_i t l c e;rw[e]at hall;simp only[e];obtain⟨y,w',k1,k2⟩:=UT hC.zeros hi hf (hρ l (hall l (by simp[opsOf]))) (hρ c (hall c (by simp[opsOf]))) h;exact⟨_,_,w',by simp[k1], .inl rfl,k2⟩
 ·rename_i t x lo hi' e;rw[e]at hall;simp only[e];obtain⟨r,h1,h2⟩:=aH.1 h;injection h2 with h2;injection h2 with h2 h3;subst h2;subst h3
  have q:∀ (l:Option Operand),(∀ x∈l.toList,CO x=true)→(∀ a,evO env l=some a→∃ x,l.map ρ=some x∧Rep m φ a x)∧(evO env l=none→l.map ρ=none):=by
   intro l hl
   cases l with
   | none=>exact⟨fun a h=>(by cases h),fun _=>rfl⟩
   | some x=>exact⟨fun a h=>(by injection h with h;subst h;exact⟨_,rfl,hρ x (hl x (by simp))⟩),fun h=>(by cases h)⟩
  obtain⟨q1,q2⟩:=q lo fun x hx=>hall x (by simp[opsOf]at hx ⊢;simp[hx])
  obtain⟨q3,q4⟩:=q hi' fun x hx=>hall x (by simp[opsOf]at hx ⊢;simp[hx])
  obtain⟨v',k1,k2⟩:=OV (C:=C) (w:=w) (hρ x (hall x (by simp[opsOf]))) q1 q2 q3 q4 h1;exact⟨_,_,w,by simp[k1], .inl rfl,Out.same hi k2⟩
 ·rename_i s x f e;rw[e]at hall;simp only[e];obtain⟨p,h1,h2⟩:=aH.1 h;obtain⟨n,h3,h4⟩:=aH.1 h2;obtain⟨h5,h6⟩:=aP.1 h4;obtain⟨r,h7,h8⟩:=aH.1 h6;injection h8 with h8;injection h8 with h8 h9;subst h8;subst h9;obtain⟨v',k1,k2⟩:=ED (w:=w) (hρ x (hall x (by simp[opsOf]))) h1 h3 (zS h5) h7;exact⟨_,_,w,by simp[k1], .inl rfl,Out.same hi k2⟩
 ·rename_i s x f e;rw[e]at hall;simp only[e];obtain⟨p,h1,h2⟩:=aH.1 h;obtain⟨n,h3,h4⟩:=aH.1 h2;obtain⟨g,h5,h6⟩:=aH.1 h4;obtain⟨r,h7,h8⟩:=aH.1 h6;injection h8 with h8;injection h8 with h8 h9;subst h8;subst h9;obtain⟨v',k1,k2⟩:=PY (w:=w) (hρ x (hall x (by simp[opsOf]))) h1 h3 h5 h7;exact⟨_,_,w,by simp[k1], .inl rfl,Out.same hi k2⟩
 ·rename_i t x ix e;rw[e]at hall;simp only[e];obtain⟨r,h1,h2⟩:=aH.1 h;injection h2 with h2;injection h2 with h2 h3;subst h2;subst h3;obtain⟨v',k1,k2⟩:=DL (w:=w) (hρ x (hall x (by simp[opsOf]))) (hρ ix (hall ix (by simp[opsOf]))) h1;exact⟨_,_,w,by simp[k1], .inl rfl,Out.same hi k2⟩
 ·rename_i t x ix e;rw[e]at hall;simp only[e];obtain⟨r,h1,h2⟩:=aH.1 h;injection h2 with h2;injection h2 with h2 h3;subst h2;subst h3;obtain⟨v',k1,k2⟩:=PO (w:=w) (hρ x (hall x (by simp[opsOf]))) (hρ ix (hall ix (by simp[opsOf]))) h1;exact⟨_,_,w,by simp[k1], .inl rfl,Out.same hi k2⟩
 ·rename_i x j e;rw[e]at hall;simp only[e];obtain⟨r,h1,h2⟩:=aH.1 h;injection h2 with h2;injection h2 with h2 h3;subst h2;subst h3;obtain⟨v',k1,k2⟩:=JS (C:=C) (w:=w) (hρ x (hall x (by simp[opsOf]))) h1;exact⟨_,_,w,by simp[k1], .inl rfl,Out.same hi k2⟩
 ·rename_i f first cs e;rw[e]at hall;simp only[e];obtain⟨h1,h2⟩:=aP.1 h;obtain⟨v1,h0,h2⟩:=aH.1 h2;injection h2 with h2;injection h2 with h2 h3;subst h2;subst h3;unfold ACO at h0;split at h0
  case h_2=>cases h0
  rename_i f;injection h0 with h0;subst h0
  have hfst:first=#[]:=by
   apply Array.ext';simpa [List.isEmpty_iff]using h1
  subst hfst;have hc:=JV hρ (l:=cs.toList) fun x hx=>hall x (by simpa [opsOf]using hx)
  have:=Rep.fn (f:=f) hc;exact⟨_, .func (.func f) #[] (cs.map ρ),w,by simp[Instr.makeFunc], .inl rfl,Out.same hi (by rw[show cs.map ρ=(cs.toList.map ρ).toArray from Array.ext' (by simp)];exact this)⟩
 ·rename_i b args ts e;rw[e]at hall;simp only[e];have hargs:=JV hρ (l:=args.toList) fun x hx=>hall x (show x∈args.toList from hx)
  have hres:resolve ρ { callee:=.builtin b,args:=args,argTypes:=ts } o.type=pure { target:=.builtin b ts o.type (args.map fun | .const _=>true|_=>false),args:=args.map ρ }:=rfl;rw[hres];have hmap:args.map ρ=(args.toList.map ρ).toArray:=Array.ext' (by simp);unfold fZ at h;split at h
  ·rename_i t x ets eargs;rw[eargs]at hargs;obtain⟨n,h1,h2⟩:=aH.1 h;injection h2 with h2;injection h2 with h2 h3;subst h2;subst h3;obtain⟨xv,hv,hx⟩:=VT hargs;have hts:ts=#[t]:=by apply Array.ext';simpa using ets
   refine⟨_,goInt n,w,?_, .inl rfl,Out.same hi (.i (.lit _))⟩;rw[hmap,hv,hts];simp[invoke,builtin,Z0 (C:=C) (w:=w) (ty:=o.type) hx h1]
  ·rename_i t u s x ets eargs;rw[eargs]at hargs;obtain⟨h1,h2⟩:=aP.1 h;obtain⟨sv,xv,hv,hs,hx⟩:=AE3 hargs;have hts:ts=#[t,u]:=by apply Array.ext';simpa using ets
   obtain⟨y,w',k1,k2⟩:=O7 (w:=w) (ty:=o.type) hC.zeros hi hs hx hf h1 h2;refine⟨_,_,w',?_, .inl rfl,k2⟩;rw[hmap,hv,hts];simp[invoke,builtin,k1]
  ·rename_i t u d x ets eargs;rw[eargs]at hargs;obtain⟨dv,xv,hv,hd,hx⟩:=AE3 hargs;have hts:ts=#[t,u]:=by apply Array.ext';simpa using ets
   obtain⟨y,w',k1,k2⟩:=VE (C:=C) (w:=w) (u:=u) (ty:=o.type) (nb:=nb) hi hd hx h;refine⟨_,_,w',?_, .inl rfl,k2⟩;rw[hmap,hv,hts];simp[invoke,builtin,k1]
  ·obtain⟨r,h1,h2⟩:=aH.1 h;injection h2 with h2;injection h2 with h2 h3;subst h2;subst h3;obtain⟨y,k1,k2⟩:=YO (C:=C) (w:=w) (ts:=ts) (ty:=o.type) hargs h1;refine⟨_,_,w,?_, .inl rfl,Out.same hi k2⟩;rw[hmap];simp[invoke,builtin,k1]
  ·obtain⟨r,h1,h2⟩:=aH.1 h;injection h2 with h2;injection h2 with h2 h3;subst h2;subst h3;obtain⟨y,k1,k2⟩:=YT (C:=C) (w:=w) (ts:=ts) (ty:=o.type) hargs h1;refine⟨_,_,w,?_, .inl rfl,Out.same hi k2⟩;rw[hmap];simp[invoke,builtin,k1]
  ·cases h
 ·cases h
end
def Ren (r:Nat→Option Nat) (φ ψ:Pl):Prop:=∀ id j p,r id=some j→φ id=some p→ψ j=some p
mutual
theorem Rep.ren {m:Mem} {φ ψ:Pl} {r:Nat→Option Nat} (hr:Ren r φ ψ) {v:AV} {x:Value}:Rep m φ v x→Rep m ψ (ren r v) x
 | .junk v=>.junk v
 | .nils=>.nils
 | .i a=>.i a
 | .own (id:=id) e=>by
  unfold Av.ren
  cases h:r id with
  | none=>exact .junk _
  | some j=>exact .own (hr _ _ _ h e)
 | .ownE (id:=id) e=>by
  unfold Av.ren
  cases h:r id with
  | none=>exact .junk _
  | some j=>exact .ownE (hr _ _ _ h e)
 | .osl (id:=id) e a b c d=>by
  unfold Av.ren
  cases h:r id with
  | none=>exact .junk _
  | some j=>exact .osl (hr _ _ _ h e) a b c d
 | .agg c=>.agg (RepC.ren hr c)
 | .tup c=>.tup (RepL.ren hr c)
 | .fn c=>.fn (RepL.ren hr c)
 | .yld (id:=id) e=>by
  simp only[Av.ren,wK]
  cases h:r id with
  | none=>exact .ydead _
  | some j=>exact .yld (hr _ _ _ h e)
 | .ydead b=>.ydead b
theorem RepL.ren {m:Mem} {φ ψ:Pl} {r:Nat→Option Nat} (hr:Ren r φ ψ) {cs:List AV} {vs:List Value}:RepL m φ cs vs→RepL m ψ (wK r cs) vs
 | .nil=>.nil
 | .cons a b=>.cons (Rep.ren hr a) (RepL.ren hr b)
theorem RepC.ren {m:Mem} {φ ψ:Pl} {r:Nat→Option Nat} (hr:Ren r φ ψ) {cs:List AV} {vs:List Value}:RepC m φ cs vs→RepC m ψ (wK r cs) vs
 | .nil=>.nil
 | .cons a o b=>.cons (Rep.ren hr a) o (RepC.ren hr b)
end
theorem SG (r:Nat→Option Nat) (t:Nat):∀ (ts:List Nat) (cs:List AV),aT (Q5 ts (wK r cs)) t=Av.ren r (aT (Q5 ts cs) t)
 | [],_=>by simp[Q5,aT,Av.ren]
 | _::_,[]=>by simp[Q5,aT,Av.ren,wK]
 | u::ts,c::cs=>by
  simp only[wK,Q5,aT];by_cases e:t=u
  ·simp[e]
  ·simp only[e,if_false];exact SG r t ts cs
theorem BlkOk.ren {w:World} {m:Mem} {φ ψ:Pl} {r:Nat→Option Nat} (hr:Ren r φ ψ) {b:Nat} {n:Ext} {o:Option Blk} {blk:Blk} (h:∀ c,o=some c→BlkOk w m φ b n c) (e:FH r o=some blk):BlkOk w m ψ b n blk:=by
 unfold FH at e;split at e
 ·injection e with e;subst e
  cases h _ rfl with
  | box h1 h2 h3 h4=>exact .box h1 h2 (h3.ren hr) h4
 ·injection e with e;subst e
  cases h _ rfl with
  | arr h1 h2 h3 h4 h5 h6 h7 h8 h9=>exact .arr h1 h2 h3 h4 h5 h6 h7 h8 h9
 ·injection e with e;subst e
  cases h _ rfl with
  | frz h1 h2=>exact .frz h1 h2
 ·injection e with e;subst e
  cases h _ rfl with
  | fbox h1=>exact .fbox h1
 ·injection e with e;subst e
  cases h _ rfl with
  | tre h1 h2 h3 h4 h5 h6 h7 h8 h9 h10=>exact .tre h1 h2 h3 h4 h5 h6 h7 h8 h9 h10
 ·injection e with e;subst e
  cases h _ rfl with
  | loop h1 h2 h3 h4 h5 h6=>exact .loop h1 h2 h3 h4 (fun t=>by rw[SG];exact(h5 t).ren hr) h6
 ·cases e
theorem oZ {r:Nat→Option Nat} {o:Option Blk} {blk:Blk} (e:FH r o=some blk):∃ c,o=some c:=by
 cases o with
 | none=>simp[FH]at e
 | some c=>exact⟨c,rfl⟩
theorem wL:∀ (ids:List Nat) (n i j:Nat),iQ n ids i=some j→n≤j∧ids[j-n]?=some i
 | [],n,i,j,h=>by simp[iQ]at h
 | a::ids,n,i,j,h=>by
  simp only[iQ]at h;split at h
  ·rename_i e;injection h with h;subst h;subst e;simp
  ·obtain⟨h1,h2⟩:=wL ids (n+1) i j h;refine⟨by omega,?_⟩;rw[show j-n=(j-(n+1))+1 by omega];simpa using h2
theorem gU {ids:List Nat} {i j:Nat} (h:fH ids i=some j):ids[j]?=some i:=by
 have:=(wL ids 0 i j h).2;simpa using this
theorem GJ:∀ (ids:List Nat) (n i k:Nat),ids.Nodup→ids[k]?=some i→iQ n ids i=some (n+k)
 | [],n,i,k,_,h=>by simp at h
 | a::ids,n,i,0,_,h=>by simp at h;subst h;simp[iQ]
 | a::ids,n,i,k+1,hd,h=>by
  have hk:ids[k]?=some i:=by simpa using h
  have hne:i≠a:=fun e=>by
   subst e;exact(yR.1 hd).1 (zV hk)
  simp only[iQ,hne,if_false];rw[GJ ids (n+1) i k (yR.1 hd).2 hk];congr 1;omega
theorem uC {ids:List Nat} {i k:Nat} (hd:ids.Nodup) (h:ids[k]?=some i):fH ids i=some k:=by
 have:=GJ ids 0 i k hd h;simpa [fH]using this
theorem wM:∀ {ids:List Nat} {n i:Nat},iQ n ids i=none→i ∉ ids
 | [],_,_,_=>by simp
 | a::ids,n,i,h=>by
  simp only[iQ]at h;split at h
  ·cases h
  ·rename_i hne;have:=wM h;simp[hne,this]
theorem DV {l:List Nat} {i:Nat}:FM l i=true↔i∈l:=by
 induction l with
 | nil=>simp[FM]
 | cons a l ih =>
  simp only[FM];split
  ·rename_i e;simp[e]
  ·rename_i e;simp[e,ih]
theorem nO (st:Store):∀ (n:Nat) (todo seen:List Nat),seen.Nodup→(reach st n todo seen).Nodup
 | 0,_,_,h=>by simpa [reach]using h
 | _+1,[],_,h=>by simpa [reach]using h
 | n+1,i::todo,seen,h=>by
  simp only[reach];split
  ·exact nO st n _ _ h
  ·rename_i hn;refine nO st n _ _ ?_;have hni:i ∉ seen:=fun hm=>hn (DV.2 hm)
   rw[yT];refine⟨h,by simp,?_⟩;intro a ha b hb;simp at hb;subst hb;exact fun e=>hni (e ▸ ha)
theorem lM (st:Store):∀ (n:Nat) (todo seen:List Nat),∃ l,reach st n todo seen=seen++l
 | 0,_,seen=>⟨[],by simp[reach]⟩
 | _+1,[],seen=>⟨[],by simp[reach]⟩
 | n+1,i::todo,seen=>by
  simp only[reach];split
  ·exact lM st n _ _
  ·obtain⟨l,h⟩:=lM st n (gW (st i)++todo) (seen++[i]);exact⟨i::l,by rw[h];simp⟩
theorem OL (n:Nat):upto n=List.range n:=by
 induction n with
 | zero=>rfl
 | succ n ih=>rw[upto,ih,xC]
theorem fU (st:Store) (na:Nat) (vs:List AV):(gH st na vs).Nodup:=nO st _ _ _ (by rw[OL];exact List.nodup_range)
theorem qK (st:Store) (na:Nat) (vs:List AV) {j:Nat} (h:j<na):(gH st na vs)[j]?=some j:=by
 obtain⟨l,hl⟩:=lM st DY (nW st (upto na)++aX vs) (upto na);unfold gH;rw[hl,OL,zJ (by simpa using h)];simp[List.getElem?_range h]
theorem PK (st:Store) (na:Nat) (vs:List AV):na≤(gH st na vs).length:=by
 obtain⟨l,hl⟩:=lM st DY (nW st (upto na)++aX vs) (upto na);unfold gH;rw[hl,OL];simp
theorem fQ (r:Nat→Option Nat) (st:Store):∀ (ids:List Nat),(jE r st ids).length=ids.length
 | []=>rfl
 | _::ids=>by simp[jE,fQ r st ids]
theorem QY:∀ (l:StL) (j:Nat),bD l j=(l[j]?).join
 | [],j=>by simp[bD]
 | b::l,0=>by simp[bD]
 | b::l,j+1=>by simp[bD,QY l j]
theorem LV (r:Nat→Option Nat) (st:Store):∀ (ids:List Nat) (j:Nat),bD (jE r st ids) j=(ids[j]?).bind fun i=>FH r (st i)
 | [],j=>by simp[jE,bD]
 | i::ids,0=>by simp[jE,bD]
 | i::ids,j+1=>by simp[jE,bD,LV r st ids j]
def eD (ids:List Nat) (φ:Pl):Pl:=fun j=>(ids[j]?).bind φ
theorem kW (ids:List Nat) (φ:Pl):Ren (fH ids) φ (eD ids φ):=fun id j p h e=>by
 simp[eD,gU h,e]
theorem Inv.keep {w:World} {m:Mem} {φ:Pl} {st:Store} (h:Inv w m φ st) {ids:List Nat} (hd:ids.Nodup):Inv w m (eD ids φ) (bD (jE (fH ids) st ids)):=by
 have key:∀ j blk,bD (jE (fH ids) st ids) j=some blk→∃ i,ids[j]?=some i∧FH (fH ids) (st i)=some blk:=by
  intro j blk e;rw[LV]at e
  cases hi:ids[j]? with
  | none=>rw[hi]at e;cases e
  | some i=>rw[hi]at e;exact⟨i,rfl,e⟩
 refine⟨h.mem,?_,?_,fun j b n f p1 o1=>?_⟩
 ·intro j blk e;obtain⟨i,h1,h2⟩:=key j blk e;obtain⟨c,hc⟩:=oZ h2;obtain⟨b,n,h3,h4,h5⟩:=h.live i c hc;refine⟨b,n,by simp[eD,h1,h3],h4,BlkOk.ren (kW ids φ) (fun c' e'=>?_) h2⟩;rw[hc]at e';injection e' with e';subst e';exact h5
 ·intro j j' b b2 n n' blk blk' f e1 e2 p1 p2 o1 o2;obtain⟨i,h1,h2⟩:=key j blk e1;obtain⟨i',h1',h2'⟩:=key j' blk' e2;obtain⟨c,hc⟩:=oZ h2;obtain⟨c',hc'⟩:=oZ h2';simp only[eD,h1,yU]at p1;simp only[eD,h1',yU]at p2;have:=h.inj i i' b b2 n n' c c' f hc hc' p1 p2 o1 o2;subst this;have a1:=uC hd h1;have a2:=uC hd h1';rw[a1]at a2;injection a2
 ·cases hi:ids[j]? with
  | none=>simp[eD,hi]at p1
  | some i=>simp only[eD,hi,yU]at p1;exact h.low i b n f p1 o1
theorem Adv.keep {w0 w:World} {m0 m:Mem} {φ0 φ:Pl} (h:Adv w0 m0 φ0 w m φ) {ids:List Nat} {na:Nat} (h0:∀ id,φ0 id≠none→id<na) (hk:∀ j,j<na→ids[j]?=some j):Adv w0 m0 φ0 w m (eD ids φ):=by
 refine⟨h.size,h.os,h.tape,h.output,h.block,h.mle,h.mnew,?_,?_⟩
 ·intro id b n e;have h1:=hk id (h0 id (by rw[e];simp));simp only[eD,h1,yU];exact h.ple _ _ _ e
 ·intro id b n f h2 ho
  cases hi:ids[id]? with
  | none=>simp[eD,hi]at h2
  | some i =>
   simp only[eD,hi,yU]at h2;exact h.pnew i b n f h2 ho
section
variable {C:Ctx}
def bR (w:World) (m:Mem) (φ:Pl) (r:AV) (stl':StL) (e:Ending) (w':World):Prop :=
 ∃ v m' φ',e=.returned v∧Rep m' φ' r v∧Inv w' m' φ' (bD stl')∧Adv w m φ w' m' φ'∧∀ id,φ' id≠none→id<stl'.length
structure CallOk (C:Ctx) (call:dK):Prop where
 name:∀ g args stl p,g≠uS→call g args stl=some p→∃ fn,C.P.funcs[g]?=some fn∧fn.name≠ "runtime.NumGoroutine"∧fn.body.isSome=true
 calls:∀ g args stl r stl',g≠uS→call g args stl=some (r,stl')→∀ (w:World) (m:Mem) (φ:Pl) (vs:List Value),Inv w m φ (bD stl)→RepL m φ args vs→(∀ id,φ id≠none→id<stl.length) →
  Calls C.P g vs.toArray w (bR w m φ r stl')
 rounds:∀ args stl r stl',call uS args stl=some (r,stl')→∀ (w:World) (m:Mem) (φ:Pl) (vs:List Value),Inv w m φ (bD stl)→RepL m φ args vs→(∀ id,φ id≠none→id<stl.length) →
  ∃ l us,vs=.func (.yield l) #[] #[]::us∧YieldAt Fence.wide 0 C.P l us.toArray w (bR w m φ r stl')
theorem qB {w:World} {m:Mem} {φ:Pl} {st st1:Store} {v u:AV} {x:Value} (hi:Inv w m φ st) (hr:Rep m φ v x) (h:gD st v=some (u,st1)) :
 ∃ m1,Rep m1 φ u x∧Inv w m1 φ st1∧Adv w m φ w m1 φ:=by
 unfold gD at h;split at h
 ·injection h with h;injection h with h1 h2;subst h1;subst h2;exact⟨m,hr,hi, .refl _ _ _⟩
 ·injection h with h;injection h with h1 h2;subst h1;subst h2;exact⟨m,hr,hi, .refl _ _ _⟩
 ·obtain⟨p,h1,h2⟩:=aH.1 h;injection h2 with h2;injection h2 with h2 h3;subst h2;subst h3;obtain⟨m1,k1,k2,k3⟩:=gX hi hr (show oL st _=some (p.1,p.2)from h1);exact⟨m1, .i k1,k2,k3⟩
theorem uP {w:World}:∀ {args us:List AV} {m:Mem} {φ:Pl} {st st1:Store} {vs:List Value},Inv w m φ st→RepL m φ args vs→eX st args=some (us,st1) →
 ∃ m1,RepL m1 φ us vs∧Inv w m1 φ st1∧Adv w m φ w m1 φ
 | [],us,m,φ,st,st1,_,hi, .nil,h=>by
  simp[eX]at h;obtain⟨rfl,rfl⟩:=h;exact⟨m, .nil,hi, .refl _ _ _⟩
 | v::args,us,m,φ,st,st1,_,hi, .cons a b,h=>by
  simp only[eX]at h;obtain⟨p,h1,h2⟩:=aH.1 h;obtain⟨q,h3,h4⟩:=aH.1 h2;injection h4 with h4;injection h4 with h4 h5;subst h4;subst h5;obtain⟨m1,k1,k2,k3⟩:=qB hi a (show gD st v=some (p.1,p.2)from h1);obtain⟨m2,j1,j2,j3⟩:=uP k2 (b.mono k3.mle (.refl _)) (show eX p.2 args=some (q.1,q.2)from h3);exact⟨m2, .cons (k1.mono j3.mle (.refl _)) j1,j2,k3.trans j3⟩
theorem wQ {st:Store}:∀ {ids:List Nat},nT st ids=true→∀ i∈ids,∃ c,st i=some c
 | [],_=>by simp
 | i::ids,h=>by
  simp only[nT,zU]at h;intro j hj
  rcases zQ.1 hj with rfl|hj
  ·cases hs:st j with
   | none=>rw[hs]at h;simp[ACS]at h
   | some c=>exact⟨c,rfl⟩
  ·exact wQ h.2 j hj
theorem o9:∀ (ids:List Nat) (nb j:Nat),lV ids nb j=if j<ids.length then ids[j]? else some (nb+(j-ids.length))
 | [],nb,j=>by simp[lV]
 | i::ids,nb,0=>by simp[lV]
 | i::ids,nb,j+1=>by
  rw[lV,o9 ids nb j];simp
theorem MC (r:Nat→Option Nat) (st:Store):∀ (ids:List Nat) (stl:StL) (nb:Nat) (id:Nat),ids.Nodup →
 iG r st nb ids stl id=match fH ids id with
  | some j=>if j<stl.length then FH r (bD stl j)else st id
  | none=>if nb≤id∧id-nb+ids.length<stl.length then FH r (bD stl (id-nb+ids.length))else st id:=by
 intro ids stl
 induction stl generalizing ids with
 | nil=>intro nb id _;cases ids<;>simp[iG]<;>split<;>simp
 | cons b bs ih =>
  intro nb id hd
  cases ids with
  | nil =>
   simp only[iG,upd];have h0:fH [] id=none:=rfl;rw[h0];by_cases e:id=nb
   ·subst e;simp[bD]
   ·simp only[e,if_false];rw[ih [] (nb+1) id (by simp),h0];simp only[xL,xQ,zO];by_cases h1:nb+1≤id
    ·have h2:id-nb=(id-(nb+1))+1:=by omega
     rw[h2];simp only[bD];by_cases h3:id-(nb+1)<bs.length
     ·rw[if_pos ⟨h1,h3⟩,if_pos ⟨by omega,by omega⟩]
     ·rw[if_neg (by omega),if_neg (by omega)]
    ·rw[if_neg (by omega),if_neg (by omega)]
  | cons i ids =>
   simp only[iG,upd];have hd':=yR.1 hd;by_cases e:id=i
   ·subst e;simp[fH,iQ,bD]
   ·simp only[e,if_false];rw[ih ids nb id hd'.2]
    cases hp:fH ids id with
    | none =>
     have h1:fH (i::ids) id=none:=by
      cases h2:fH (i::ids) id with
      | none=>rfl
      | some j =>
       have h3:=gU h2
       cases j with
       | zero=>simp at h3;exact absurd h3.symm e
       | succ j =>
        have h4:ids[j]?=some id:=by simpa using h3
        rw[uC hd'.2 h4]at hp;cases hp
     rw[h1];simp only[zO];by_cases h3:nb≤id∧id-nb+ids.length<bs.length
     ·rw[if_pos h3,if_pos ⟨h3.1,by omega⟩];rw[show id-nb+(ids.length+1)=(id-nb+ids.length)+1 by omega];simp[bD]
     ·rw[if_neg h3,if_neg (by omega)]
    | some j =>
     have h1:fH (i::ids) id=some (j+1):=uC hd (by simpa using gU hp);rw[h1];simp only[zO,bD];by_cases h3:j<bs.length
     ·rw[if_pos h3,if_pos (by omega)]
     ·rw[if_neg h3,if_neg (by omega)]
def sN (ids:List Nat) (nb:Nat) (φ φ':Pl):Pl:=fun id =>
 match fH ids id with
 | some j=>φ' j
 | none=>if nb≤id∧id<nb+wide then φ' (id-nb+ids.length)else φ id
theorem UO {ids:List Nat} {i:Nat} (h:fH ids i=none):i ∉ ids:=wM h
theorem FN {w w':World} {m m':Mem} {φ φ':Pl} {st st':Store} {nb:Nat} {ids:List Nat} {r v:AV} {stl':StL} {y:Value} (hi:Inv w m φ st) (hf:∀ id,nb≤id→id<nb+wide→φ id=none)
 (hd:ids.Nodup) (hlive:∀ i∈ids,∃ c,st i=some c)
 (hr:Rep m' φ' r y) (hi':Inv w' m' φ' (bD stl')) (ha:Adv w m (eD ids φ) w' m' φ') (hb:∀ id,φ' id≠none→id<stl'.length)
 (h:qO ids st nb r stl'=some (v,st')):Out w m φ nb v st' y w':=by
 unfold qO at h;obtain⟨h1,h2⟩:=aP.1 h;obtain⟨hl1,hl2⟩:=zS h1;injection h2 with h2;injection h2 with h2 h3;subst h2;subst h3
 have hlt:∀ i∈ids,¬ (nb≤i∧i<nb+wide):=fun i hm hh=>by
  obtain⟨c,hc⟩:=hlive i hm;obtain⟨b,n,e,_⟩:=hi.live _ _ hc;rw[hf i hh.1 hh.2]at e;cases e
 have hren:Ren (lV ids nb) φ' (sN ids nb φ φ'):=by
  intro j id p e1 e2;rw[o9]at e1;split at e1
  ·unfold sN;rw[uC hd e1];exact e2
  ·rename_i hj;injection e1 with e1;have hjl:=hb j (by rw[e2];simp)
   have hnone:fH ids id=none:=by
    cases hp:fH ids id with
    | none=>rfl
    | some k=>exact absurd ⟨by omega,by omega⟩ (hlt id (zV (gU hp)))
   unfold sN;rw[hnone];simp only;rw[if_pos ⟨by omega,by omega⟩,show id-nb+ids.length=j by omega];exact e2
 have hple:PLe φ (sN ids nb φ φ'):=by
  intro id b n e;unfold sN
  cases hp:fH ids id with
  | some j =>
   simp only;refine ha.ple j b n ?_;simp[eD,gU hp,e]
  | none =>
   simp only;rw[if_neg fun hh=>by have:=hf id hh.1 hh.2;rw[this]at e;cases e];exact⟨n,e,rfl,fun _ h=>h⟩
 have hout:∀ b,jN φ b→jN (eD ids φ) b:=by
  intro b hn j r n e;unfold eD at e
  cases hi:ids[j]? with
  | none=>rw[hi]at e;cases e
  | some i=>rw[hi]at e;exact hn _ _ _ e
 have hadv:Adv w m φ w' m' (sN ids nb φ φ'):=by
  refine⟨ha.size,ha.os,ha.tape,ha.output,fun b hb' hn=>ha.block b hb' (hout b hn),ha.mle,fun b hb' hn=>ha.mnew b hb' (hout b hn),hple,?_⟩;intro id b n f e2 ho;unfold sN at e2
  have fin:∀ j,φ' j=some (b,n)→w.heap.size≤f∨¬ jN φ f:=by
   intro j q1
   rcases ha.pnew j b n f q1 ho with q|q
   ·exact .inl q
   ·exact .inr fun hh=>q (hout f hh)
  cases hp:fH ids id with
  | some j =>
   rw[hp]at e2;exact fin j e2
  | none =>
   rw[hp]at e2;simp only at e2;split at e2
   ·exact fin _ e2
   ·exact .inr (jN.not e2 ho)
 have hcase:∀ id blk,iG (lV ids nb) st nb ids stl' id=some blk →
  (∃ j c,bD stl' j=some c∧FH (lV ids nb) (some c)=some blk∧sN ids nb φ φ' id=φ' j∧lV ids nb j=some id)∨(fH ids id=none∧st id=some blk∧sN ids nb φ φ' id=φ id):=by
  intro id blk e;rw[MC _ _ _ _ _ _ hd]at e
  cases hp:fH ids id with
  | some j =>
   rw[hp]at e;have hjl:j<ids.length:=(zZ.1 (gU hp)).1;simp only[show j<stl'.length by omega,if_true]at e;obtain⟨c,hc⟩:=oZ e;refine .inl ⟨j,c,hc,by rw[← hc];exact e,by simp[sN,hp],?_⟩;rw[o9,if_pos hjl];exact gU hp
  | none =>
   rw[hp]at e;simp only at e;split at e
   ·rename_i hh;obtain⟨c,hc⟩:=oZ e;refine .inl ⟨_,c,hc,by rw[← hc];exact e,?_,?_⟩
    ·simp only[sN,hp];rw[if_pos ⟨hh.1,by omega⟩]
    ·rw[o9,if_neg (by omega)];congr 1;omega
   ·refine .inr ⟨rfl,e,?_⟩;simp only[sN,hp];split
    ·rename_i hh;obtain⟨b,n,q,_⟩:=hi.live _ _ e;rw[hf id hh.1 hh.2]at q;cases q
    ·rfl
 have hapart:∀ id blk,fH ids id=none→st id=some blk→∀ b n f,φ id=some (b,n)→n.own f→jN (eD ids φ) f:=by
  intro id blk h1 h2 b n f h3 ho j r n' e ho';unfold eD at e
  cases hi':ids[j]? with
  | none=>rw[hi']at e;cases e
  | some i =>
   rw[hi']at e;obtain⟨c,hc⟩:=hlive i (zV hi');have:=hi.inj id i b r n n' blk c f h2 hc h3 e ho ho';subst this;exact UO h1 (zV hi')
 refine⟨m',sN ids nb φ φ',hr.ren hren,⟨hi'.mem,?_,?_,?_⟩,hadv,?_⟩
 ·intro id blk e
  rcases hcase id blk e with ⟨j,c,h1,h2,h3,_⟩|⟨h1,h2,h3⟩
  ·obtain⟨b,n,q1,q2,q3⟩:=hi'.live j c h1;exact⟨b,n,by rw[h3];exact q1,q2,BlkOk.ren hren (fun c' e'=>by injection e' with e';subst e';exact q3) h2⟩
  ·obtain⟨b,n,q1,q2,q3⟩:=hi.live id blk h2;have hap:=fun f hf=>hapart id blk h1 h2 b n f q1 hf
   exact⟨b,n,by rw[h3];exact q1,⟨q2.1,fun f hf=>zH (q2.2 f hf) ha.size⟩,q3.mono q2.1 (fun f hf=>ha.block f (q2.2 f hf) (hap f hf)) ha.mle hple (fun f hf=>ha.mnew f (q2.2 f hf) (hap f hf))⟩
 ·intro id id' b b' n n' blk blk' f e1 e2 p1 p2 o1 o2
  rcases hcase id blk e1 with ⟨j,c,h1,h2,h3,h4⟩|⟨h1,h2,h3⟩
  ·rcases hcase id' blk' e2 with ⟨j',c',h1',h2',h3',h4'⟩|⟨h1',h2',h3'⟩
   ·rw[h3]at p1;rw[h3']at p2;have:=hi'.inj j j' b b' n n' c c' f h1 h1' p1 p2 o1 o2;subst this;rw[h4]at h4';injection h4'
   ·exfalso;rw[h3]at p1;rw[h3']at p2;exact ha.range ((dF hi p2 h2').1.2 f o2) (hapart id' blk' h1' h2' b' n' f p2 o2) j b n p1 o1
  ·rcases hcase id' blk' e2 with ⟨j',c',h1',h2',h3',h4'⟩|⟨h1',h2',h3'⟩
   ·exfalso;rw[h3]at p1;rw[h3']at p2;exact ha.range ((dF hi p1 h2).1.2 f o1) (hapart id blk h1 h2 b n f p1 o1) j' b' n' p2 o2
   ·rw[h3]at p1;rw[h3']at p2;exact hi.inj id id' b b' n n' blk blk' f h2 h2' p1 p2 o1 o2
 ·intro id b n f p1 o1;unfold sN at p1
  cases hp:fH ids id with
  | some j=>rw[hp]at p1;exact hi'.low j b n f p1 o1
  | none =>
   rw[hp]at p1;simp only at p1;split at p1
   ·exact hi'.low _ b n f p1 o1
   ·exact zH (hi.low id b n f p1 o1) ha.size
 ·intro id hne;unfold sN at hne
  cases hp:fH ids id with
  | some j =>
   obtain⟨c,hc⟩:=hlive id (zV (gU hp));obtain⟨b,n,q,_⟩:=hi.live _ _ hc;exact .inl (by rw[q];simp)
  | none =>
   rw[hp]at hne;simp only at hne;split at hne
   ·rename_i hh;exact .inr hh
   ·exact .inl hne
theorem Out.adv {w w1 w':World} {m m1:Mem} {φ:Pl} {nb:Nat} {v:AV} {st':Store} {y:Value} (ha:Adv w m φ w1 m1 φ) (h:Out w1 m1 φ nb v st' y w'):Out w m φ nb v st' y w':=by
 obtain⟨m',φ',h1,h2,h3,h4⟩:=h;exact⟨m',φ',h1,h2,ha.trans h3,h4⟩
theorem wY {call:dK} {w:World} {m:Mem} {φ:Pl} {st st':Store} {nb:Nat} {own:Bool} {g:FuncId} {args:List AV} {vs:List Value} {v:AV} (hi:Inv w m φ st)
 (hf:∀ id,nb≤id→id<nb+wide→φ id=none) (hargs:RepL m φ args vs) (h:eG call own g args st nb=some (v,st')) :
 ∃ m1 φ1 VT stl r stl',call g VT stl=some (r,stl')∧Inv w m1 φ1 (bD stl)∧RepL m1 φ1 VT vs∧(∀ id,φ1 id≠none→id<stl.length) ∧
   ∀ e w',bR w m1 φ1 r stl' e w'→∃ y,e=.returned y∧Out w m φ nb v st' y w':=by
 unfold eG at h;obtain⟨p,h1,h2⟩:=aH.1 h
 have hfr:∃ m1,RepL m1 φ p.1 vs∧Inv w m1 φ p.2∧Adv w m φ w m1 φ:=by
  cases own with
  | true =>
   simp only[qA,Option.some.injEq]at h1;subst h1;exact⟨m,hargs,hi, .refl _ _ _⟩
  | false=>exact uP hi hargs (show eX st args=some (p.1,p.2)from h1)
 obtain⟨m1,k1,k2,k3⟩:=hfr;generalize hids:reach p.2 DY (aX p.1) []=ids at h2;have hd:ids.Nodup:=by rw[← hids];exact nO _ _ _ _ (by simp)
 unfold iN at h2;obtain⟨h3,h4⟩:=aP.1 h2;have hlive:=wQ h3;obtain⟨q,h5,h6⟩:=aH.1 h4;refine⟨m1,eD ids φ,_,_,q.1,q.2,h5,k2.keep hd,k1.ren (kW ids φ),?_,?_⟩
 ·intro id hne;rw[fQ];unfold eD at hne
  cases hx:ids[id]? with
  | none=>rw[hx]at hne;exact absurd rfl hne
  | some i=>exact(zZ.1 hx).1
 ·rintro e w' ⟨y,m',φ',rfl,j1,j2,j3,j4⟩;exact⟨y,rfl,(FN k2 hf hd hlive j1 j2 j3 j4 h6).adv k3⟩
theorem pY {call:dK} (hcall:CallOk C call) {w:World} {m:Mem} {φ:Pl} {st st':Store} {nb:Nat} {own:Bool} {g:FuncId} {args:List AV} {vs:List Value} {v:AV} (hg:g≠uS) (hi:Inv w m φ st)
 (hf:∀ id,nb≤id→id<nb+wide→φ id=none) (hargs:RepL m φ args vs) (h:eG call own g args st nb=some (v,st')) :
 (∃ fn,C.P.funcs[g]?=some fn∧fn.name≠ "runtime.NumGoroutine"∧fn.body.isSome=true)∧Calls C.P g vs.toArray w (fun e w'=>∃ y,e=.returned y∧Out w m φ nb v st' y w'):=by
 obtain⟨m1,φ1,VT,stl,r,stl',h1,h2,h3,h4,h5⟩:=wY hi hf hargs h;exact⟨hcall.name _ _ _ _ hg h1,(hcall.calls g _ _ r stl' hg h1 w m1 φ1 vs h2 h3 h4).mono h5⟩
theorem YieldAt.mono' {F:Fence} {n l:Nat} {P:Program} {args:Array Value} {W:World} {R R':Ending→World→Prop} (h:YieldAt F n P l args W R) (k:∀ e w,R e w→R' e w):YieldAt F n P l args W R':=by
 obtain⟨fn,tmps,asg,body,h1,h2⟩:=h;exact⟨fn,tmps,asg,body,h1,h2.mono k⟩
theorem NV {call:dK} (hcall:CallOk C call) {w:World} {m:Mem} {φ:Pl} {st st':Store} {nb:Nat} {own:Bool} {args:List AV} {vs:List Value} {v:AV} (hi:Inv w m φ st)
 (hf:∀ id,nb≤id→id<nb+wide→φ id=none) (hargs:RepL m φ args vs) (h:eG call own uS args st nb=some (v,st')) :
 ∃ l us,vs=.func (.yield l) #[] #[]::us∧YieldAt Fence.wide 0 C.P l us.toArray w (fun e w'=>∃ y,e=.returned y∧Out w m φ nb v st' y w'):=by
 obtain⟨m1,φ1,VT,stl,r,stl',h1,h2,h3,h4,h5⟩:=wY hi hf hargs h;obtain⟨l,us,e,k⟩:=hcall.rounds _ _ r stl' h1 w m1 φ1 vs h2 h3 h4;exact⟨l,us,e,YieldAt.mono' k h5⟩
end
def FR (ρ:Option Nat):Fence:={ Fence.wide with round:=ρ }
theorem QE {ρ:Option Nat} {n:Nat} {P:Program} {f:FuncId} {args:Array Value} {w:World} {R:Ending→World→Prop} (h:Calls P f args w R):CallsIn (FR ρ) n P f args w R:=callsIn_wide.2 h
theorem AGI {ρ:Option Nat} {n k l:Nat} {P:Program} {f:FuncId} {tmps:Array Value} {a b:Code} {w:World} {R:Ending→World→Prop} (h:RoundIn Fence.wide n P l f tmps a b w R):RoundIn (FR ρ) k P l f tmps a b w R :=
 ⟨trivial,fun c cs _=>h.2 c cs (room_wide _)⟩
structure Marks (n0:Nat) (φ:Pl) (w:World) (ds:List Deferred):Prop where
 form:∃ Ds:List Nat,ds=Ds.map (fun D=>({ target:=.collected D,args:=#[] }:Deferred))∧Ds.Nodup∧∀ D∈Ds,n0≤D∧w.heap[D]?=some (.deferred (some []))∧jN φ D
theorem Marks.nil (n0:Nat) (φ:Pl) (w:World):Marks n0 φ w []:=⟨⟨[],rfl,List.nodup_nil,by simp⟩⟩
theorem Marks.adv {n0:Nat} {w w':World} {m m':Mem} {φ φ':Pl} {ds:List Deferred} (h:Marks n0 φ w ds) (k:Adv w m φ w' m' φ'):Marks n0 φ' w' ds:=by
 obtain⟨Ds,h1,h2,h3⟩:=h.form;refine⟨⟨Ds,h1,h2,fun D hD=>?_⟩⟩;obtain⟨a,b,c⟩:=h3 D hD;have hlt:D<w.heap.size:=(zI.1 b).1;exact⟨a,(k.block D hlt c).trans b,k.range hlt c⟩
section
variable {C:Ctx}
structure ARel (ds:List Deferred) (w0:World) (m0:Mem) (φ0:Pl) (nt:Nat) (ok:Nat→Prop) (env:Nat→AV) (st:Store) (a:Act) (w:World):Prop where
 out:∃ m φ,Inv w m φ st∧(∀ t,Rep m φ (env t) (a.tmps.getD t undef))∧Adv w0 m0 φ0 w m φ∧(∀ id,φ id≠none→ok id)∧Marks w0.heap.size φ w ds
 size:nt≤a.tmps.size
 defers:a.defers=ds
theorem EA {m:Mem} {φ:Pl} {env:Nat→AV} {a:Act} (h:∀ t,Rep m φ (env t) (a.tmps.getD t undef)):Fits m φ env a.eval:=by
 intro x hx
 cases x with
 | tmp t=>exact h t
 | const v=>exact YZ m φ hx
 | global g=>exact .junk _
 | func f=>exact .fn .nil
theorem uB {m:Mem} {φ:Pl} {env:Nat→AV} {a:Act} {nt:Nat} {dst:Option Tmp} {v:AV} {x:Value} (h:∀ t,Rep m φ (env t) (a.tmps.getD t undef)) (hs:nt≤a.tmps.size) (hd:VD nt dst=true) (hv:Rep m φ v x) :
 ∀ t,Rep m φ (sS env dst v t) ((a.put dst x).tmps.getD t undef):=by
 intro t
 cases dst with
 | none=>exact h t
 | some d =>
  have hlt:d<a.tmps.size:=zH (zS hd) hs;simp only[sS,upd,Act.put];by_cases e:t=d
  ·subst e;simpa [Array.getD,hlt]using hv
  ·simp only[e,if_false];have:=h t
   have he:(a.tmps.setIfInBounds d x).getD t undef=a.tmps.getD t undef:=by
    simp only[yG];rw[Array.getElem?_setIfInBounds_ne (Ne.symm e)]
   rwa [he]
theorem uA (a:Act) (dst:Option Tmp) (x:Value):(a.put dst x).tmps.size=a.tmps.size:=by cases dst<;>simp[Act.put]
theorem kS (a:Act) (dst:Option Tmp) (x:Value):(a.put dst x).defers=a.defers:=by cases dst<;>rfl
theorem TR {m:Mem} {φ:Pl} {env:Nat→AV} {a:Act} {ops:Array Oper} {o:Oper} {b:Bool} (h:∀ t,Rep m φ (env t) (a.tmps.getD t undef)) (e:tH ops.toList env o.guard=some b) :
 Region.wanted o (yielded ops a.tmps)=b:=by
 unfold Region.wanted
 cases hg:o.guard with
 | none=>rw[hg]at e;simpa [tH]using e
 | some p =>
  rw[hg]at e;obtain⟨j,want⟩:=p;simp only[tH]at e;simp only[yielded];have hl:ops.toList[j]?=ops[j]?:=by simp
  rw[hl]at e
  cases hd:(ops[j]?).bind (·.dst)with
  | none=>rw[hd]at e;simp[L8]at e;simp[← e]
  | some d =>
   rw[hd]at e;simp only[L8,QM]at e;have hr:=h d;simp only[yU];split at e
   ·rename_i c hc;injection e with e;subst e;rw[hc]at hr;have:=hr.bP
    have hlt:a.tmps[d]?=some (.bool c):=by
     rw[yG]at this
     cases hx:a.tmps[d]? with
     | none=>rw[hx]at this;simp[undef]at this
     | some y=>rw[hx]at this;simpa using this
    rw[hlt]
    cases c<;>cases want<;>rfl
   ·rename_i c hc;injection e with e;subst e;rw[hc]at hr;have:=hr.bP
    cases hx:a.tmps[d]? with
    | none=>rfl
    | some y =>
     rw[yG,hx]at this;simp only[yO]at this;subst this;rfl
   ·cases e
def aOp (C:Ctx) (call:dK) (all:List Oper) (base i:Nat) (o:Oper) (S:(Nat→AV)×Store):Option ((Nat→AV)×Store) :=
 bnd (tH all S.1 o.guard) fun b =>
  if b=true then bnd (bS C call o.op S.1 S.2 (base+wide*i)) fun p=>some (sS S.1 o.dst p.1,p.2)
  else some (sS S.1 o.dst (.i (.lit undef)),S.2)
def F6 (base:Nat) (dn:Nat→Prop) (id:Nat):Prop:=id<base∨∃ i,dn i∧base+wide*i≤id∧id<base+wide*i+wide
theorem mO {base:Nat} {dn dn':Nat→Prop} (h:∀ i,dn i→dn' i) {id:Nat} (k:F6 base dn id):F6 base dn' id:=by
 rcases k with k|⟨i,k1,k2⟩
 ·exact .inl k
 ·exact .inr ⟨i,h i k1,k2⟩
theorem UR {base i id:Nat} {dn:Nat→Prop} (hdn:¬ dn i) (h1:base+wide*i≤id) (h2:id<base+wide*i+wide):¬ F6 base dn id:=by
 rintro(k|⟨j,k1,k2,k3⟩)
 ·omega
 ·have:i=j:=by
   unfold wide at *
   omega
  subst this;exact hdn k1
theorem DX {op:Op} {p:Operand×List Operand} (h:rE op=some p):∃ args ts,op=.call ⟨.value p.1,args,ts⟩∧args.toList=p.2:=by
 unfold rE at h;split at h
 ·injection h with h;subst h;exact⟨_,_,rfl,rfl⟩
 ·cases h
theorem mJ (hC:CtxOk C) {call:dK} (hcall:CallOk C call) {ops:Array Oper} {Q:Exit→Act→World→Prop} {K:Act→World→Prop} {i base nt:Nat} {o:Oper} {S S':(Nat→AV)×Store}
 {w0:World} {m0:Mem} {φ0:Pl} {dn:Nat→Prop} {ds:List Deferred} {ρ:Option Nat} {k:Nat} {a:Act} {w:World} (ho:ops[i]?=some o) (hs:jH nt o=true) (hdn:¬ dn i) (h:aOp C call ops.toList base i o S=some S')
 (hr:ARel ds w0 m0 φ0 nt (F6 base dn) S.1 S.2 a w) (hK:∀ a' w',ARel ds w0 m0 φ0 nt (F6 base fun j=>dn j∨j=i) S'.1 S'.2 a' w'→K a' w'):wpOpIn (FR ρ) k C.P ops Q i K a w:=by
 simp only[jH,zU]at hs;obtain⟨⟨m,φ,hi,henv,hadv,hok,hmk⟩,hsz,hdf⟩:=hr;unfold aOp at h;obtain⟨b,h1,h2⟩:=aH.1 h;have hw:=TR henv h1
 have hfr:∀ id,base+wide*i≤id→id<base+wide*i+wide→φ id=none:=fun id k1 k2=>by
  cases e:φ id with
  | none=>rfl
  | some p=>exact absurd (hok id (by rw[e];simp)) (UR hdn k1 k2)
 have fin:∀ v st' y w',S'=(sS S.1 o.dst v,st')→Out w m φ (base+wide*i) v st' y w'→K (a.put o.dst y) w':=by
  rintro v st' y w' rfl ⟨m',φ',k1,k2,k3,k4⟩;refine hK _ _ ⟨⟨m',φ',k2,?_,hadv.trans k3,?_,hmk.adv k3⟩,by rw[uA];exact hsz,by rw[kS];exact hdf⟩
  ·exact uB (fun t=>(henv t).mono k3.mle k3.ple) hsz hs.2 k1
  ·intro id hne
   rcases k4 id hne with q|q
   ·exact mO (fun _=>.inl) (hok id q)
   ·exact .inr ⟨i, .inr rfl,q⟩
 unfold wpOpIn;rw[ho];simp only;rw[hw]
 cases b with
 | false =>
  simp only[yZ,if_false]at h2 ⊢;injection h2 with h2;exact⟨fun _ _=>trivial,fin _ _ undef w h2.symm (Out.same hi (.i (.lit _)))⟩
 | true =>
  simp only[if_true]at h2 ⊢;obtain⟨p,h3,h4⟩:=aH.1 h2;injection h4 with h4;refine⟨fun _ _=>trivial,?_⟩
  have hnd:∀ c,o.op≠.defer c:=fun c e=>by
   unfold bS at h3;rw[e]at h3;simp[rE,stepW,dU]at h3
  rw[Oper.semAt_eq _ _ _ hnd];unfold bS at h3
  cases hg:rE o.op with
  | none =>
   rw[hg]at h3;obtain⟨nx,y,w',k1,k2,k3⟩:=OO hC hi hfr (EA henv) hs.1 (show dU C S.1 S.2 _ o.op=some (p.1,p.2)from h3);rw[k1]
   rcases k2 with rfl|⟨rfl,rfl⟩
   ·exact fin _ _ y w' h4.symm k3
   ·exact fin _ _ undef w' h4.symm k3
  | some q =>
   rw[hg]at h3;obtain⟨args,ts,hop,hargs⟩:=DX hg;simp only[stepW]at h3;have hall:∀ x∈opsOf o.op,CO x=true:=fun x hx=>zR.1 hs.1 x hx
   rw[hop]at hall;have hfv:=EA henv q.1 (hall _ (show q.1∈q.1::args.toList by simp));have hav:=JV (EA henv) (l:=q.2) fun x hx=>hall x (show x∈q.1::args.toList by rw[hargs];simp[hx])
   unfold F9 at h3;split at h3
   ·rename_i g caps hfe;rw[hfe]at hfv;generalize hev:a.eval q.1=fv at hfv
    cases hfv with
    | @fn _ _ cvs hcaps =>
     have hall2:RepL m φ (evL S.1 q.2++caps) (q.2.map a.eval++cvs):=by
      have key:∀ {cs:List AV} {vs:List Value},RepL m φ cs vs→RepL m φ (cs++caps) (vs++cvs):=by
       intro cs
       induction cs with
       | nil=>intro vs h;cases h;exact hcaps
       | cons c cs ih=>intro vs h;cases h with|cons a b=>exact .cons a (ih b)
      exact key hav
     split at h3
     ·cases h3
     rename_i hgy;obtain⟨⟨fn,g1,g2,g3⟩,g4⟩:=pY hcall hgy hi hfr hall2 (show eG call _ g _ S.2 _=some (p.1,p.2)from h3);have hbody:fn.body≠none:=by intro hb;rw[hb]at g3;cases g3
     have hmap:args.map a.eval++cvs.toArray=(q.2.map a.eval++cvs).toArray:=by
      apply Array.ext';simp[← hargs]
     have hrun:(execOp a.eval o).run C.P w=.ok (.enter g ((q.2.map a.eval++cvs).toArray)) w:=by
      unfold execOp;rw[hop];simp[resolve,Deferred.ofValue,hev,invoke,callFunc,g1,g2,hbody,← hmap]
     rw[hrun];rw[Oper.uponIn_enter];refine⟨fun h=>(by cases h),QE (g4.mono ?_)⟩;rintro e w' ⟨y,rfl,k⟩;exact fin _ _ y w' h4.symm k
   ·rename_i id hfe;rw[hfe]at hfv;generalize hev:a.eval q.1=fv at hfv;obtain⟨l,us,e,fn,tmps,asg,body,k1,k2⟩:=NV hcall hi hfr (.cons hfv hav) (show eG call true uS _ S.2 _=some (p.1,p.2)from h3);injection e with e1 e2;subst e2;rw[e1]at hev
    have hrun:(execOp a.eval o).run C.P w=.ok (.round l fn tmps asg body) w:=by
     have hm:args.map a.eval=(q.2.map a.eval).toArray:=by apply Array.ext';simp[← hargs]
     unfold execOp;rw[hop];simp[resolve,Deferred.ofValue,hev,invoke,hm,k1]
    rw[hrun,Oper.uponIn_round];refine⟨fun h=>(by cases h),AGI (k2.mono ?_)⟩;rintro e w' ⟨y,rfl,k⟩;exact fin _ _ y w' h4.symm k
   ·cases h3
end
section
variable {C:Ctx}
theorem jN.keep {φ:Pl} {D:Nat} (h:jN φ D) (ids:List Nat):jN (eD ids φ) D:=by
 intro id b n e;unfold eD at e
 cases hi:ids[id]? with
 | none=>rw[hi]at e;simp at e
 | some i=>rw[hi]at e;exact h i b n e
theorem Marks.keep {n0:Nat} {φ:Pl} {w:World} {ds:List Deferred} (h:Marks n0 φ w ds) (ids:List Nat):Marks n0 (eD ids φ) w ds:=by
 obtain⟨Ds,h1,h2,h3⟩:=h.form;exact⟨⟨Ds,h1,h2,fun D hD=>⟨(h3 D hD).1,(h3 D hD).2.1,(h3 D hD).2.2.keep ids⟩⟩⟩
theorem G7 {ds:List Deferred} {w0:World} {m0:Mem} {φ0:Pl} {nt na:Nat} {ok:Nat→Prop} {env:Nat→AV} {st:Store} {a:Act} {w:World} {G:List Nat} (h0:∀ id,φ0 id≠none→id<na)
 (h:ARel ds w0 m0 φ0 nt ok env st a w):ARel ds w0 m0 φ0 nt (fun id=>id<(settle G na env st).st.length) (aT (settle G na env st).env) (bD (settle G na env st).st) a w:=by
 obtain⟨⟨m,φ,hi,henv,hadv,hok,hmk⟩,hsz,hdf⟩:=h;unfold settle uZ;generalize hids:gH st na (vQ env G)=ids;have hd:ids.Nodup:=by rw[← hids];exact fU _ _ _
 refine⟨⟨m,eD ids φ,hi.keep hd,?_,hadv.keep h0 (fun j hj=>by rw[← hids];exact qK _ _ _ hj),?_,hmk.keep ids⟩,hsz,hdf⟩
 ·intro t
  have key:∀ G:List Nat,Rep m (eD ids φ) (aT (mD (fH ids) env G) t) (a.tmps.getD t undef):=by
   intro G
   induction G with
   | nil=>exact .junk _
   | cons u G ih =>
    simp only[mD,aT];by_cases e:t=u
    ·subst e;simp only[if_true];exact(henv t).ren (kW ids φ)
    ·simp only[e,if_false];exact ih
  exact key G
 ·intro id hne;simp only[fQ];unfold eD at hne
  cases hx:ids[id]? with
  | none=>rw[hx]at hne;exact absurd rfl hne
  | some i=>exact(zZ.1 hx).1
theorem G8 {G:List Nat} {na:Nat} {env:Nat→AV} {st:Store}:na≤(settle G na env st).st.length:=by
 unfold settle uZ;simp only[fQ];exact PK _ _ _
theorem BX (hC:CtxOk C) {call:dK} (hcall:CallOk C call) {ops:Array Oper} {Q:Exit→Act→World→Prop} {base nt:Nat} {ds:List Deferred} {ρ:Option Nat} {w0:World} {m0:Mem} {φ0:Pl} (hs:∀ o∈ops,jH nt o=true) :
 ∀ (os:List Oper) (i:Nat) (R R':RS) (a:Act) (w:World),(∀ j,os[j]?=ops[i+j]?)→cZ C call ops.toList false base os i R=some R' →
   ARel ds w0 m0 φ0 nt (F6 base (fun j=>j<i)) R.env R.st a w→(∀ a' w',ARel ds w0 m0 φ0 nt (fun _=>True) R'.env R'.st a' w'→Q .normal a' w')→wpOpsIn (FR ρ) 0 C.P ops Q (List.range' i os.length) a w
 | [],i,R,R',a,w,_,h,hr,hQ=>by
  simp only[cZ,Option.some.injEq]at h;subst h;simp only[xL,List.range'_zero,wpOpsIn];obtain⟨⟨m,φ,h1,h2,h3,h4,h7⟩,h5,h6⟩:=hr;exact hQ a w ⟨⟨m,φ,h1,h2,h3,fun _ _=>trivial,h7⟩,h5,h6⟩
 | o::os,i,R,R',a,w,hl,h,hr,hQ=>by
  have ho:ops[i]?=some o:=by simpa using (hl 0).symm
  simp only[zO,List.range'_succ];rw[wpOpsIn_cons];simp only[cZ]at h;obtain⟨b,h1,h2⟩:=aH.1 h;have hstat:=hs o (Array.mem_of_getElem? ho)
  have hrest:∀ j,os[j]?=ops[i+1+j]?:=fun j=>by
   have:=hl (j+1);simpa [yN,Nat.add_comm 1 j]using this
  have mono:∀ env st a' w',ARel ds w0 m0 φ0 nt (F6 base fun j=>j<i∨j=i) env st a' w'→ARel ds w0 m0 φ0 nt (F6 base fun j=>j<i+1) env st a' w':=by
   rintro env st a' w' ⟨⟨m,φ,k1,k2,k3,k4,k7⟩,k5,k6⟩;exact⟨⟨m,φ,k1,k2,k3,fun id hne=>mO (fun j hj=>by omega) (k4 id hne),k7⟩,k5,k6⟩
  cases b with
  | true =>
   simp only[if_true]at h2;obtain⟨_,h3⟩:=aP.1 h2;obtain⟨p,h4,h5⟩:=aH.1 h3;refine mJ hC hcall (dn:=fun j=>j<i) (base:=base) (S:=(R.env,R.st)) (S':=(sS R.env o.dst p.1,p.2)) ho hstat (xY i) ?_ hr fun a' w' hr'=>?_
   ·unfold aOp;exact aH.2 ⟨true,h1,by simp only[if_true];exact aH.2 ⟨p,h4,rfl⟩⟩
   ·exact BX hC hcall hs os (i+1) _ R' a' w' hrest h5 (mono _ _ _ _ hr') hQ
  | false =>
   simp only[yZ,if_false]at h2;refine mJ hC hcall (dn:=fun j=>j<i) (base:=base) (S:=(R.env,R.st)) (S':=(sS R.env o.dst (.i (.lit undef)),R.st)) ho hstat (xY i) ?_ hr fun a' w' hr'=>?_
   ·unfold aOp;exact aH.2 ⟨false,h1,by simp⟩
   ·exact BX hC hcall hs os (i+1) _ R' a' w' hrest h2 (mono _ _ _ _ hr') hQ
def TM (C:Ctx) (call:dK):Prop:=∀ (ops:Array Oper) (id base nt:Nat) (R':RS) (env:Nat→AV) (st:Store) (ds:List Deferred) (ρ:Option Nat) (w0:World) (m0:Mem) (φ0:Pl) (a:Act) (w:World) (Q:Exit→Act→World→Prop),
 (∀ o∈ops,jH nt o=true)→Region.lexB .any ops=true→cZ C call ops.toList true base ops.toList 0 { env:=env,st:=st,log:=[] }=some R' →
 ARel ds w0 m0 φ0 nt (fun id=>id<base) env st a w→(∀ a' w',ARel ds w0 m0 φ0 nt (fun _=>True) R'.env R'.st a' w'→Q .normal a' w')→(Code.region id ops true).wpIn (FR ρ) 0 C.P Q a w
theorem BF {P:Program} {ρ:Option Nat} {Q:Exit→Act→World→Prop} {c:Code} (I:Nat→Act→World→Prop)
 (round:∀ n a w,I n a w→c.wpIn (FR ρ) 0 P (Exit.then (fun a' w'=>∃ k,k<n∧I k a' w') Q) a w) {n:Nat} {a:Act} {w:World} (h0:I n a w):(Code.loop c).wpIn (FR ρ) 0 P Q a w:=by
 intro b k cs hro hb hr
 have key:∀ n a w,I n a w→∃ e a' w',Q e a' w'∧ArrivesIn (Machine.fenced P (FR ρ)) P (lone (b.atR a (.code c :: .inLoop c::k)) cs w) b k cs e a' w':=by
  intro n
  induction n using Nat.strongRecOn with
  | _ n ih =>
   intro a w hI;obtain⟨e,a1,w1,hq,harr⟩:=round n a w hI b (.inLoop c::k) cs hro hb hr
   have other:e≠.normal→Exit.then (fun a' w'=>∃ k,k<n∧I k a' w') Q e a1 w1→∃ e a' w',Q e a' w'∧ArrivesIn (Machine.fenced P (FR ρ)) P (lone (b.atR a (.code c :: .inLoop c::k)) cs w) b k cs e a' w':=by
    intro hne hq;refine⟨e,a1,w1,?_, .pass (x:=.inLoop c) rfl (fun _ _=>.inl hne) harr⟩
    cases e<;>first|exact hq|exact absurd rfl hne
   by_cases hne:e=.normal
   ·subst hne;obtain⟨j,hlt,hI1⟩:=hq;obtain⟨e2,a2,w2,hq2,harr2⟩:=ih j hlt a1 w1 hI1;exact⟨e2,a2,w2,hq2, .of_steps (StepsIn.trans harr (.one (fenced_calm hb hr rfl) stepR_inLoop)) harr2⟩
   ·exact other hne hq
 obtain⟨e,a',w',hq,harr⟩:=key n a w h0;exact⟨e,a',w',hq, .of_steps (.one (fenced_calm hb hr rfl) stepR_loop) harr⟩
theorem BD {P:Program} {Q:Exit→Act→World→Prop} {c:Code} (I:Nat→Act→World→Prop)
 (round:∀ n a w,I n a w→c.wp P (Exit.then (fun a' w'=>∃ k,k<n∧I k a' w') Q) a w) {n:Nat} {a:Act} {w:World} (h0:I n a w):(Code.loop c).wp P Q a w :=
 wpIn_wide.1 (BF (ρ:=none) I (fun n a w h=>wpIn_wide.2 (round n a w h)) h0)
def kX:AExit→Exit
 | .normal=>.normal
 | .exit i=>.exit i
 | .ret=>.ret
def IY (ds:List Deferred) (w0:World) (m0:Mem) (φ0:Pl) (nt na:Nat) (S:AS) (a:Act) (w:World):Prop :=
 ARel ds w0 m0 φ0 nt (fun id=>id<S.st.length) (aT S.env) (bD S.st) a w∧na≤S.st.length
def AAT (ds:List Deferred) (w0:World) (m0:Mem) (φ0:Pl) (nt na:Nat) (c:Code) (e:AExit) (S':AS) (e':Exit) (a:Act) (w:World):Prop :=
 e'=kX e∧∃ ds',IY ds' w0 m0 φ0 nt na S' a w∧(bL c=true→ds'=ds)
theorem AAT.mk {ds:List Deferred} {w0:World} {m0:Mem} {φ0:Pl} {nt na:Nat} {c:Code} {e:AExit} {S':AS} {a:Act} {w:World} (h:IY ds w0 m0 φ0 nt na S' a w):AAT ds w0 m0 φ0 nt na c e S' (kX e) a w :=
 ⟨rfl,ds,h,fun _=>rfl⟩
theorem ZU {m:Mem} {φ:Pl} {env:Nat→AV} {a:Act} (h:∀ t,Rep m φ (env t) (a.tmps.getD t undef)) (t:Nat):∀ rs:List Nat,Rep m φ (aT (Q5 rs (vQ env rs)) t) (a.tmps.getD t undef)
 | []=>by simp only[vQ,Q5,aT];exact .junk _
 | r::rs=>by
  simp only[vQ,Q5,aT];by_cases e:t=r
  ·subst e;simp only[if_true];exact h t
  ·simp only[e,if_false];exact ZU h t rs
theorem P7 (hC:CtxOk C) {call:dK} (hcall:CallOk C call) {G rs:List Nat} {na nt:Nat} {w0:World} {m0:Mem} {φ0:Pl} (h0:∀ id,φ0 id≠none→id<na) {ds:List Deferred} {g:Operand} {ps:Array Tmp} {x y:Code} {S S':AS}
 {e:AExit} {it:FuncId} {caps:List AV} {p:AV×Store} {a:Act} {w:World} (hg:CO g=true) (hps:∀ t∈ps.toList,t<nt) (hx:codeOk nt x=true) (hy:codeOk nt y=true) (hnx:bL x=true) (hny:bL y=true)
 (hev:ev (aT S.env) g=.fn (.func it) caps) (hit:it≠uS)
 (hcg:eG call true it (.fn (.yield 0) [.own S.st.length 0]::caps) (upd (bD S.st) S.st.length (some (.loop ⟨G,rs,ps.toList,x,y⟩ (vQ (aT S.env) rs) .ready))) (S.st.length+1)=some p)
 (hout:u7 G na (aT S.env) S.st.length p.2 (p.2 S.st.length)=some (e,S')) (hr:IY ds w0 m0 φ0 nt na S a w) :
 (Code.rangeFunc g ps x y).wpIn (FR none) 0 C.P (fun e' a' w'=>e'=kX e∧∃ ds',IY ds' w0 m0 φ0 nt na S' a' w') a w:=by
 obtain⟨⟨⟨m,φ,hi,henv,hadv,hok,hmk⟩,hsz,hdf⟩,hlen⟩:=hr;have hgv:=EA henv g hg;rw[hev]at hgv;generalize hae:a.eval g=gv at hgv
 cases hgv with
 | @fn _ _ cvs hcaps =>
 have hL:φ S.st.length=none:=by
  cases h:φ S.st.length with
  | none=>rfl
  | some q=>exact absurd (hok _ (by rw[h];simp)) (xY _)
 obtain⟨hi1,ha1⟩:=hi.more (.deferred (some []));refine wpIn_rangeFunc fun fn _=>?_
 let rec0:Loop:={ state:=.ready,pending:=none,fn:=fn,tmps:=a.tmps,params:=ps,assign:=x,body:=y,defers:=w.heap.size }
 have hb:BlkOk ((w.alloc (.deferred (some []))).alloc (.loop rec0)) m (kI φ S.st.length ((w.alloc (.deferred (some []))).heap.size,one (w.alloc (.deferred (some []))).heap.size 1)) (w.alloc (.deferred (some []))).heap.size
  (one (w.alloc (.deferred (some []))).heap.size 1) (.loop ⟨G,rs,ps.toList,x,y⟩ (vQ (aT S.env) rs) .ready):=by
  refine .loop (nt:=nt) (fn:=fn) (tmps:=a.tmps) (dfr:=w.heap.size) ?_ hsz hps ⟨hx,hy,hnx,hny⟩ ?_ ?_
  ·rw[eQ];rfl
  ·intro t;exact(ZU henv t rs).mono (.refl _) (PLe.kI hL)
  ·intro o
   cases hm:m (w.alloc (.deferred (some []))).heap.size o with
   | none=>rfl
   | some v=>exact absurd (hi1.mem.lt hm) (xY _)
 obtain⟨hi2,ha2⟩:=hi1.push hL (.loop rec0) hb
 have hargs:RepL m (kI φ S.st.length ((w.alloc (.deferred (some []))).heap.size,one (w.alloc (.deferred (some []))).heap.size 1)) (.fn (.yield 0) [.own S.st.length 0]::caps) (.func (.yield (w.heap.size+1)) #[] #[]::cvs):=by
  refine .cons ?_ (hcaps.mono (.refl _) (PLe.kI hL));have:=Rep.yld (m:=m) (cK φ S.st.length ((w.alloc (.deferred (some []))).heap.size,one (w.alloc (.deferred (some []))).heap.size 1));simpa using this
 obtain⟨⟨fn1,g1,g2,g3⟩,hcalls⟩:=pY hcall hit hi2 (nb:=S.st.length+1) (fun id k1 k2=>by
  rw[oQ (by omega)]
  cases h:φ id with
  | none=>rfl
  | some q=>exact absurd (hok id (by rw[h];simp)) (by omega)) hargs hcg
 have hbody:fn1.body≠none:=by intro hb;rw[hb]at g3;cases g3
 refine⟨w.heap.size+1,[{ target:=.collected w.heap.size,args:=#[] }],(w.alloc (.deferred (some []))).alloc (.loop rec0),{ target:=.fn (.func it) cvs.toArray,args:=#[.func (.yield (w.heap.size+1)) #[] #[]] },(w.alloc (.deferred (some []))).alloc (.loop rec0),it,#[.func (.yield (w.heap.size+1)) #[] #[]]++cvs.toArray,(w.alloc (.deferred (some []))).alloc (.loop rec0),
  run_enterLoop_outer fn a.tmps ps x y,?_,fun _ _=>trivial,?_,fun h=>(by cases h),QE ?_⟩
 ·have hcv:∀ v:Value,a.eval (.const v)=v:=fun _=>rfl
  simp[resolve,rangeCall,Deferred.ofValue,hae,hcv]
 ·simp[invoke,callFunc,g1,g2,hbody]
 ·have hm:(#[.func (.yield (w.heap.size+1)) #[] #[]]++cvs.toArray:Array Value)=((.func (.yield (w.heap.size+1)) #[] #[]:Value)::cvs).toArray:=by simp
  rw[hm];refine hcalls.mono ?_;rintro e1 w3 ⟨yv,rfl,m3,φ3,r1,r2,r3,r4⟩;have hD:w.heap.size<((w.alloc (.deferred (some []))).alloc (.loop rec0)).heap.size:=by simp;omega
  have hfree:jN φ w.heap.size:=fun id b n h1 h2=>xY _ (hi.low id b n _ h1 h2)
  have hfree2:jN (kI φ S.st.length ((w.alloc (.deferred (some []))).heap.size,one (w.alloc (.deferred (some []))).heap.size 1)) w.heap.size:=by
   intro id b n h1 h2;unfold kI at h1;split at h1
   ·injection h1 with h1;injection h1 with e1 e2;subst e2;have h2:w.heap.size=(w.alloc (.deferred (some []))).heap.size:=h2;simp at h2
   ·exact hfree id b n h1 h2
  have hD2:((w.alloc (.deferred (some []))).alloc (.loop rec0)).heap[w.heap.size]?=some (.deferred (some [])):=by
   rw[fV _ _ (by simp)];exact eQ _ _
  have hD3:=(r3.block _ hD hfree2).trans hD2;have hfree3:=r3.range hD hfree2
  have key:∀ R cs s,p.2 S.st.length=some (.loop R cs s)→∃ r n3,w3.heap[w.heap.size+1]?=some (.loop r)∧r.state=AF2 s∧r.pending=MH s∧φ3 S.st.length=some (w.heap.size+1,n3)∧(∀ o,m3 (w.heap.size+1) o=none)∧n3.own (w.heap.size+1):=by
   intro R cs s hs;obtain⟨b,n3,q1,q2,q3⟩:=r2.live _ _ hs;obtain⟨n4,q4,_,_⟩:=r3.ple _ _ _ (cK φ S.st.length ((w.alloc (.deferred (some []))).heap.size,one (w.alloc (.deferred (some []))).heap.size 1));rw[q1]at q4;injection q4 with q4;injection q4 with q5 q6
   have hb:b=w.heap.size+1:=by rw[q5];simp
   subst hb
   cases q3 with
   | loop u1 u2 u3 u4 u5 u6=>exact⟨_,n3,u1,rfl,rfl,q1,u6,q2.1⟩
  have fin:∀ R cs s,p.2 S.st.length=some (.loop R cs s)→s≠.busy→∃ w4,(Instr.endLoop (w.heap.size+1)).run C.P w3=.ok (MH s) w4 ∧
   IY ({ target:=.collected w.heap.size,args:=#[] }::ds) w0 m0 φ0 nt na (settle G na (aT S.env) (upd p.2 S.st.length none)) { a with defers:=[{ target:=.collected w.heap.size,args:=#[] }]++a.defers } w4:=by
   intro R cs s hs hbusy;obtain⟨r,n3,q1,q2,q3,q4,q5,q6⟩:=key R cs s hs;have hst:r.state≠.busy:=by rw[q2];cases s<;>simp[AF2]at hbusy ⊢
   refine⟨_,by rw[← q3];exact run_endLoop q1 hst,⟨G7 (ok:=fun _=>True) h0 ⟨⟨m3,φ3,?_,?_,?_,fun _ _=>trivial,?_⟩,hsz,by rw[hdf];rfl⟩,G8⟩⟩
   ·have hoth:∀ z,z≠w.heap.size+1→(w3.putObj (w.heap.size+1) (.loop { r with state:=.exhausted })).heap[z]?=w3.heap[z]?:=fun z hz=>World.putObj_heap_other hz
    refine⟨?_,?_,?_,fun i b n f k1 k2=>by simpa using r2.low i b n f k1 k2⟩
    ·intro z o v k;have:z≠w.heap.size+1:=fun e'=>by subst e';rw[q5 o]at k;cases k
     rw[cell_of_heap (hoth z this)];exact r2.mem z o v k
    ·intro j blk hj;unfold upd at hj;split at hj
     ·cases hj
     ·rename_i hne;obtain⟨b,n,k1,k2,k3⟩:=r2.live _ _ hj;have:∀ f,n.own f→f≠w.heap.size+1:=fun f hf e'=>by subst e';exact hne (r2.inj _ _ _ _ _ _ _ _ _ hj hs k1 q4 hf q6)
      exact⟨b,n,k1,⟨k2.1,fun f hf=>by simpa using k2.2 f hf⟩,k3.mono k2.1 (fun f hf=>hoth f (this f hf)) (.refl _) (.refl _) fun _ _ _=>rfl⟩
    ·intro i j b b' n1 n2 b1 b2 f k1 k2
     have drop:∀ i b1,upd p.2 S.st.length none i=some b1→p.2 i=some b1:=by
      intro i b1 k;unfold upd at k;split at k
      ·cases k
      ·exact k
     exact r2.inj i j b b' n1 n2 b1 b2 f (drop _ _ k1) (drop _ _ k2)
   ·intro t;exact((henv t).mono (.refl _) (PLe.kI hL)).mono r3.mle r3.ple
   ·have ha3:=((hadv.trans ha1).trans ha2).trans r3;refine⟨by simpa using ha3.size,ha3.os,⟨ha3.tape.tape,ha3.tape.fwd⟩,ha3.output,?_,ha3.mle,ha3.mnew,ha3.ple,ha3.pnew⟩;intro b hb1 hb2;have hw:=hadv.size;rw[World.putObj_heap_other (by omega)];exact ha3.block b hb1 hb2
   ·obtain⟨Ds,f1,f2,f3⟩:=hmk.form;have hne:∀ D∈Ds,D<w.heap.size:=fun D hD=>(zI.1 (f3 D hD).2.1).1
    refine⟨⟨w.heap.size::Ds,by rw[f1];rfl,yR.2 ⟨fun h=>xY _ (hne _ h),f2⟩,?_⟩⟩;intro D hD
    rcases zQ.1 hD with rfl|hD
    ·exact⟨hadv.size,by rw[World.putObj_heap_other (by omega)];exact hD3,hfree3⟩
    ·obtain⟨f4,f5,f6⟩:=f3 D hD;have hlt:=hne D hD;have k1:=ha1.range hlt f6;have hlt1:D<(w.alloc (.deferred (some []))).heap.size:=by simp;omega
     have k2:=ha2.range hlt1 k1;have hlt2:D<((w.alloc (.deferred (some []))).alloc (.loop rec0)).heap.size:=by simp;omega
     exact⟨f4,by rw[World.putObj_heap_other (by omega),r3.block D hlt2 k2,ha2.block D hlt1 k1,ha1.block D hlt f6];exact f5,r3.range hlt2 k2⟩
  unfold u7 at hout;split at hout
  ·rename_i R cs hs;injection hout with hout;injection hout with e1 e2;subst e1;subst e2;obtain⟨w4,z1,z2⟩:=fin R cs .ready hs (by simp);exact⟨_,w4,z1,rfl,_,z2⟩
  ·rename_i R cs e2 hs;injection hout with hout;injection hout with e3 e4;subst e3;subst e4;obtain⟨w4,z1,z2⟩:=fin R cs (.over e2) hs (by simp);refine⟨_,w4,z1,?_⟩
   cases e2 with
   | normal=>exact wpIn_skip ⟨rfl,_,z2⟩
   | exit k=>exact wpIn_exit ⟨rfl,_,z2⟩
   | ret=>exact wpIn_ret ⟨rfl,_,z2⟩
  ·cases hout
theorem bQ (hC:CtxOk C) {call:dK} (hcall:CallOk C call) (hdraw:TM C call) {G:List Nat} {na nt:Nat} {w0:World} {m0:Mem} {φ0:Pl} (h0:∀ id,φ0 id≠none→id<na) {ρ:Option Nat} :
 ∀ (n:Nat) (c:Code) (S S':AS) (e:AExit) (ds:List Deferred) (a:Act) (w:World),codeOk nt c=true→(ρ=none∨bL c=true)→exec C call G na n c S=some (e,S')→IY ds w0 m0 φ0 nt na S a w →
   c.wpIn (FR ρ) 0 C.P (AAT ds w0 m0 φ0 nt na c e S') a w
 | 0,_,_,_,_,_,_,_,_,_,h,_=>by simp[exec]at h
 | n+1,c,S,S',e,ds,a,w,hc,hn,h,hr=>by
  unfold exec at h
  cases c with
  | skip =>
   simp only[Option.some.injEq,Prod.mk.injEq]at h;obtain⟨rfl,rfl⟩:=h;exact wpIn_skip (.mk hr)
  | region id ops draw =>
   simp only at h;simp only[codeOk,zU]at hc;have hs:∀ o∈ops,jH nt o=true:=fun o ho=>yC.1 hc.1 o ho
   unfold ZV at h;split at h
   ·rename_i R hR;simp only[Option.some.injEq,Prod.mk.injEq]at h;obtain⟨rfl,rfl⟩:=h
    have fin:∀ a' w',ARel ds w0 m0 φ0 nt (fun _=>True) R.env R.st a' w'→AAT ds w0 m0 φ0 nt na (.region id ops draw) .normal (settle G na R.env R.st) .normal a' w':=fun a' w' k =>
     .mk ⟨G7 h0 k,G8⟩
    cases draw with
    | true=>exact hdraw ops id S.st.length nt R _ _ ds ρ w0 m0 φ0 a w _ hs (by simpa using hc.2) hR hr.1 fin
    | false =>
     refine wpIn_region ?_;rw[List.range_eq_range'];have:=BX (ρ:=ρ) (Q:=AAT ds w0 m0 φ0 nt na (.region id ops false) .normal (settle G na R.env R.st)) hC hcall hs ops.toList 0 _ R a w (by simp) hR (w0:=w0) (m0:=m0) (φ0:=φ0) ?_ fin
     ·simpa using this
     ·obtain⟨⟨m,φ,k1,k2,k3,k4,k7⟩,k5,k6⟩:=hr.1;exact⟨⟨m,φ,k1,k2,k3,fun id hne=>.inl (k4 id hne),k7⟩,k5,k6⟩
   ·cases h
  | seq x y =>
   simp only[codeOk,zU]at hc;simp only at h;have hn1:ρ=none∨bL x=true:=hn.imp id fun k=>by simp only[bL,zU]at k;exact k.1
   have hn2:ρ=none∨bL y=true:=hn.imp id fun k=>by simp only[bL,zU]at k;exact k.2
   refine wpIn_seq ?_;unfold UI at h;split at h
   ·rename_i S1 h1;refine wpIn_mono (bQ hC hcall hdraw h0 n x S S1 .normal ds a w hc.1 hn1 h1 hr) ?_;rintro e' a' w' ⟨rfl,ds1,k,kd⟩;refine wpIn_mono (bQ hC hcall hdraw h0 n y S1 S' e ds1 a' w' hc.2 hn2 h k) ?_;rintro e' a' w' ⟨rfl,ds2,k',kd'⟩;exact⟨rfl,ds2,k',fun q=>by simp only[bL,zU]at q;rw[kd' q.2,kd q.1]⟩
   ·rename_i i S1 h1;injection h with h;injection h with h2 h3;subst h2;subst h3;refine wpIn_mono (bQ hC hcall hdraw h0 n x S S1 (.exit i) ds a w hc.1 hn1 h1 hr) ?_;rintro e' a' w' ⟨rfl,ds1,k,kd⟩;exact⟨rfl,ds1,k,fun q=>by simp only[bL,zU]at q;exact kd q.1⟩
   ·rename_i S1 h1;injection h with h;injection h with h2 h3;subst h2;subst h3;refine wpIn_mono (bQ hC hcall hdraw h0 n x S S1 .ret ds a w hc.1 hn1 h1 hr) ?_;rintro e' a' w' ⟨rfl,ds1,k,kd⟩;exact⟨rfl,ds1,k,fun q=>by simp only[bL,zU]at q;exact kd q.1⟩
   ·cases h
  | cond x y z =>
   simp only[codeOk,zU]at hc;simp only at h;have hn1:ρ=none∨bL y=true:=hn.imp id fun k=>by simp only[bL,zU]at k;exact k.1
   have hn2:ρ=none∨bL z=true:=hn.imp id fun k=>by simp only[bL,zU]at k;exact k.2
   obtain⟨t,ht,h1⟩:=jC.1 h;obtain⟨⟨m,φ,k1,k2,k3,k4,k7⟩,k5,k6⟩:=hr.1;have hx:=EA k2 x hc.1;rw[ht]at hx;refine wpIn_cond hx.bP ?_
   cases t with
   | true =>
    refine wpIn_mono (bQ hC hcall hdraw h0 n y S S' e ds a w hc.2.1 hn1 h1 hr) ?_;rintro e' a' w' ⟨rfl,ds1,k,kd⟩;exact⟨rfl,ds1,k,fun q=>by simp only[bL,zU]at q;exact kd q.1⟩
   | false =>
    refine wpIn_mono (bQ hC hcall hdraw h0 n z S S' e ds a w hc.2.2 hn2 h1 hr) ?_;rintro e' a' w' ⟨rfl,ds1,k,kd⟩;exact⟨rfl,ds1,k,fun q=>by simp only[bL,zU]at q;exact kd q.2⟩
  | block id b =>
   simp only[codeOk]at hc;simp only at h;refine wpIn_block ?_;unfold EP at h;split at h
   ·rename_i S1 h1;injection h with h;injection h with h2 h3;subst h2;subst h3;refine wpIn_mono (bQ hC hcall hdraw h0 n b S S1 .normal ds a w hc hn h1 hr) ?_;rintro e' a' w' ⟨rfl,k⟩;exact⟨rfl,k⟩
   ·rename_i i S1 h1;refine wpIn_mono (bQ hC hcall hdraw h0 n b S S1 (.exit i) ds a w hc hn h1 hr) ?_;rintro e' a' w' ⟨rfl,k⟩;simp only[kX,Exit.inBlock];split at h
    ·rename_i e0;injection h with h;injection h with h2 h3;subst h2;subst h3;rw[if_pos e0];exact⟨rfl,k⟩
    ·rename_i e0;injection h with h;injection h with h2 h3;subst h2;subst h3;rw[if_neg e0];exact⟨rfl,k⟩
   ·rename_i S1 h1;injection h with h;injection h with h2 h3;subst h2;subst h3;refine wpIn_mono (bQ hC hcall hdraw h0 n b S S1 .ret ds a w hc hn h1 hr) ?_;rintro e' a' w' ⟨rfl,k⟩;exact⟨rfl,k⟩
   ·cases h
  | loop b =>
   simp only[codeOk]at hc;have hn1:ρ=none∨bL b=true:=hn.imp id fun k=>by simpa only[bL]using k
   have hI:∃ ds1,(bL b=true→ds1=ds)∧∃ S,exec C call G na (n+1) (.loop b) S=some (e,S')∧IY ds1 w0 m0 φ0 nt na S a w:=⟨ds,fun _=>rfl,S,by unfold exec;exact h,hr⟩
   refine BF (fun k a w=>k≤n+1∧∃ ds1,(bL b=true→ds1=ds)∧∃ S,exec C call G na k (.loop b) S=some (e,S')∧IY ds1 w0 m0 φ0 nt na S a w) ?_ (n:=n+1) ⟨Nat.le_refl _,hI⟩;rintro k a w ⟨hk,ds1,hd1,S,h1,hr⟩
   cases k with
   | zero=>simp[exec]at h1
   | succ k =>
    unfold exec at h1;simp only at h1;unfold UI at h1;split at h1
    ·rename_i S1 h2;refine wpIn_mono (bQ hC hcall hdraw h0 k b S S1 .normal ds1 a w hc hn1 h2 hr) ?_;rintro e' a' w' ⟨rfl,ds2,q,qd⟩;exact⟨k,Nat.lt_succ_self k,by omega,ds2,fun u=>(qd u).trans (hd1 u),S1,h1,q⟩
    ·rename_i i S1 h2;injection h1 with h1;injection h1 with h3 h4;subst h3;subst h4;refine wpIn_mono (bQ hC hcall hdraw h0 k b S S1 (.exit i) ds1 a w hc hn1 h2 hr) ?_;rintro e' a' w' ⟨rfl,ds2,q,qd⟩;exact⟨rfl,ds2,q,fun u=>(qd u).trans (hd1 u)⟩
    ·rename_i S1 h2;injection h1 with h1;injection h1 with h3 h4;subst h3;subst h4;refine wpIn_mono (bQ hC hcall hdraw h0 k b S S1 .ret ds1 a w hc hn1 h2 hr) ?_;rintro e' a' w' ⟨rfl,ds2,q,qd⟩;exact⟨rfl,ds2,q,fun u=>(qd u).trans (hd1 u)⟩
    ·cases h1
  | rangeFunc g ps x y =>
   simp only at h;obtain rfl:ρ=none:=hn.resolve_right (by simp[bL]);simp only[codeOk,zU]at hc;unfold nP at h;split at h
   case isFalse=>cases h
   rename_i hnr;simp only[zU]at hnr;generalize hev:ev (aT S.env) g=gv at h;unfold M9 at h;split at h
   case h_2=>cases h
   rename_i it caps;split at h
   ·cases h
   rename_i hit;generalize hcg:eG call true it _ _ _=rr at h
   cases rr with
   | none=>simp[qI]at h
   | some p =>
    refine wpIn_mono (P7 hC hcall h0 hc.1 (fun t ht=>zS (zR.1 hc.2.1 t ht)) hc.2.2.1 hc.2.2.2 hnr.1 hnr.2 hev hit hcg h hr) ?_;rintro e' a' w' ⟨rfl,ds1,k⟩;exact⟨rfl,ds1,k,fun q=>by simp[bL]at q⟩
  | exit id =>
   simp only[Option.some.injEq,Prod.mk.injEq]at h;obtain⟨rfl,rfl⟩:=h;exact wpIn_exit (.mk hr)
  | ret =>
   simp only[Option.some.injEq,Prod.mk.injEq]at h;obtain⟨rfl,rfl⟩:=h;exact wpIn_ret (.mk hr)
  | scope=>simp at h
  | label=>simp at h
  | goto=>simp at h
  | refuse=>simp at h
termination_by n=>n
decreasing_by all_goals omega
end
section
variable {C:Ctx}
def UK (a:Act):ResultVar→Sem Value
 | .tmp t=>pure (a.tmps.getD t undef)
 | .cell s t=>do loadVar t (← asAddr (a.tmps.getD s undef))
theorem wI {w:World} {m:Mem} {φ:Pl} {st:Store} {env:Nat→AV} {a:Act} (hi:Inv w m φ st) (henv:∀ t,Rep m φ (env t) (a.tmps.getD t undef)) :
 ∀ (rs:List ResultVar) (vs:List AV),BZ C env st rs=some vs→∃ ys,(rs.mapM (UK a)).run C.P w=.ok ys w∧RepL m φ vs ys
 | [],vs,h=>by simp[BZ]at h;subst h;exact⟨[],by simp, .nil⟩
 | r::rs,vs,h=>by
  simp only[BZ]at h;obtain⟨v,h1,h2⟩:=aH.1 h;obtain⟨l,h3,h4⟩:=aH.1 h2;injection h4 with h4;subst h4;obtain⟨ys,k1,k2⟩:=wI hi henv rs l h3
  have hone:∃ y,(UK a r).run C.P w=.ok y w∧Rep m φ v y:=by
   cases r with
   | tmp t=>simp only[R8,Option.some.injEq]at h1;subst h1;exact⟨_,by simp[UK],henv t⟩
   | cell s t =>
    obtain⟨ad,y,q1,q2,q3⟩:=rT hi (henv s) (show D6 C t (env s) st=some v from h1);exact⟨y,by simp[UK,q1,asAddr,q2],q3⟩
  obtain⟨y,q1,q2⟩:=hone;exact⟨y::ys,by simp[q1,k1], .cons q2 k2⟩
theorem pJ {w:World}:∀ {vs us:List AV} {m:Mem} {φ:Pl} {st st1:Store} {ys:List Value},Inv w m φ st→RepL m φ vs ys→pK st vs=some (us,st1) →
 ∃ m1,RepL m1 φ us ys∧Inv w m1 φ st1∧Adv w m φ w m1 φ
 | [],us,m,φ,st,st1,_,hi, .nil,h=>by
  simp[pK]at h;obtain⟨rfl,rfl⟩:=h;exact⟨m, .nil,hi, .refl _ _ _⟩
 | v::vs,us,m,φ,st,st1,_,hi, .cons a b,h=>by
  simp only[pK]at h;obtain⟨p,h1,h2⟩:=aH.1 h;obtain⟨q,h3,h4⟩:=aH.1 h2;injection h4 with h4;injection h4 with h4 h5;subst h4;subst h5;obtain⟨m1,k1,k2,k3⟩:=gX hi a (show oL st v=some (p.1,p.2)from h1);obtain⟨m2,j1,j2,j3⟩:=pJ k2 (b.mono k3.mle (.refl _)) (show pK p.2 vs=some (q.1,q.2)from h3);exact⟨m2, .cons ((Rep.i k1).mono j3.mle (.refl _)) j1,j2,k3.trans j3⟩
theorem PI {w:World} {m:Mem} {φ:Pl} {st st1:Store} {v u:AV} {x:Value} (hi:Inv w m φ st) (a:Rep m φ v x) (h:vL st v=some (u,st1)):∃ m1,Rep m1 φ u x∧Inv w m1 φ st1∧Adv w m φ w m1 φ:=by
 unfold vL at h;split at h
 ·obtain⟨r,h5,h6⟩:=aH.1 h;injection h6 with h6;injection h6 with h6 h7;subst h6;subst h7;obtain⟨m1,k1,k2,k3⟩:=gX hi a (show oL st _=some (r.1,r.2)from h5);exact⟨m1, .i k1,k2,k3⟩
 ·injection h with h;injection h with h6 h7;subst h6;subst h7;exact⟨m,a,hi, .refl _ _ _⟩
theorem wS {w:World}:∀ {vs us:List AV} {m:Mem} {φ:Pl} {st st1:Store} {ys:List Value},Inv w m φ st→RepL m φ vs ys→rD st vs=some (us,st1) →
 ∃ m1,RepL m1 φ us ys∧Inv w m1 φ st1∧Adv w m φ w m1 φ
 | [],us,m,φ,st,st1,_,hi, .nil,h=>by
  simp[rD]at h;obtain⟨rfl,rfl⟩:=h;exact⟨m, .nil,hi, .refl _ _ _⟩
 | v::vs,us,m,φ,st,st1,_,hi, .cons a b,h=>by
  simp only[rD]at h;obtain⟨p,h1,h2⟩:=aH.1 h;obtain⟨q,h3,h4⟩:=aH.1 h2;injection h4 with h4;injection h4 with h4 h5;subst h4;subst h5;obtain⟨m1,k1,k2,k3⟩:=PI hi a (show vL st v=some (p.1,p.2)from h1);obtain⟨m2,j1,j2,j3⟩:=wS k2 (b.mono k3.mle (.refl _)) (show rD p.2 vs=some (q.1,q.2)from h3);exact⟨m2, .cons (k1.mono j3.mle (.refl _)) j1,j2,k3.trans j3⟩
theorem UJ {m:Mem} {φ:Pl} {vs:List AV} {ys:List Value} (h:RepL m φ vs ys):Rep m φ (GH vs) (if h:ys.toArray.size=1 then ys.toArray[0]else .tuple ys.toArray):=by
 have hl:=h.length;unfold GH;split
 ·cases h with|cons a b=>cases b;simpa using a
 ·rename_i hne
  have h1:¬ ys.toArray.size=1:=fun e=>by
   have e:ys.length=1:=by simpa using e
   cases h with
   | nil=>simp at e
   | cons a b =>
    cases b with
    | nil=>exact hne _ rfl
    | cons c d=>simp at e
  rw[dif_neg h1];exact .tup h
theorem ACP {α β:Type} {f:α→Sem β} {xs:Array α} {ys:List β} {P:Program} {w:World} (h:(xs.toList.mapM f).run P w=.ok ys w):(xs.mapM f).run P w=.ok ys.toArray w:=by
 obtain⟨l⟩:=xs;simp at h ⊢;simp[h]
theorem fJ {fn:Func} {keep:Bool} {ds:List Deferred} {na nt:Nat} {w0 w:World} {m0:Mem} {φ0:Pl} {S:AS} {a:Act} {r:AV} {stl':StL} (h0:∀ id,φ0 id≠none→id<na) (hr:IY ds w0 m0 φ0 nt na S a w)
 (h:finish C keep fn.results.toList na S=some (r,stl')):∃ v,(results fn a.tmps).run C.P w=.ok v w∧bR w0 m0 φ0 r stl' (.returned v) w:=by
 obtain⟨⟨⟨m,φ,hi,henv,hadv,hok,hmk⟩,hsz,hdf⟩,hlen⟩:=hr;unfold finish at h;obtain⟨vs,h1,h2⟩:=aH.1 h;obtain⟨p,h3,h4⟩:=aH.1 h2;obtain⟨ys,k1,k2⟩:=wI (C:=C) hi henv _ _ h1
 have hres:∃ m1,RepL m1 φ p.1 ys∧Inv w m1 φ p.2∧Adv w m φ w m1 φ:=by
  unfold RA at h3;split at h3
  rotate_left
  ·split at h3
   ·injection h3 with h3;subst h3;exact⟨m,k2,hi, .refl _ _ _⟩
   ·exact pJ hi k2 (show pK _ vs=some (p.1,p.2)from h3)
  cases keep with
  | true =>
   simp only[R9]at h3;unfold C8 at h3;split at h3
   ·injection h3 with h3;subst h3;exact⟨m,k2,hi, .refl _ _ _⟩
   ·exact wS hi k2 (show rD _ vs=some (p.1,p.2)from h3)
  | false=>exact pJ hi k2 (show pK _ vs=some (p.1,p.2)from h3)
 obtain⟨m1,j1,j2,j3⟩:=hres;unfold PE at h4;injection h4 with h4;injection h4 with h4 h5;subst h4;subst h5;generalize hids:gH p.2 na p.1=ids;have hd:ids.Nodup:=by rw[← hids];exact fU _ _ _
 refine⟨_,?_,_,m1,eD ids φ,rfl,UJ (j1.ren (kW ids φ)),j2.keep hd,(hadv.trans j3).keep h0 (fun j hj=>by rw[← hids];exact qK _ _ _ hj),?_⟩
 ·have hm:(fn.results.mapM (UK a)).run C.P w=.ok ys.toArray w:=by
   exact ACP k1
  have he:results fn a.tmps=(do let vs ← fn.results.mapM (UK a);pure (if h:vs.size=1 then vs[0]else .tuple vs)):=by
   unfold results;congr 1
  rw[he,Sem.run_bind,hm];simp only[Result.andThen_ok,Sem.run_pure]
 ·intro id hne;rw[fQ];unfold eD at hne
  cases hx:ids[id]? with
  | none=>rw[hx]at hne;exact absurd rfl hne
  | some i=>exact(zZ.1 hx).1
def AMU (P:Program):Prop:=∀ (g:FuncId) (fn:Func) (c:Code),P.funcs[g]?=some fn→fn.body=some c→fn.name≠ "runtime.NumGoroutine"∧codeOk fn.ntmps c=true
def bM (C:Ctx):dK:=fun g args st=>match C.prim g with
 | some p=>p args st
 | none=>none
structure PrimOk (C:Ctx):Prop where
 name:∀ g args stl p,bM C g args stl=some p→∃ fn,C.P.funcs[g]?=some fn∧fn.name≠ "runtime.NumGoroutine"∧fn.body.isSome=true
 calls:∀ g args stl r stl',bM C g args stl=some (r,stl')→∀ (w:World) (m:Mem) (φ:Pl) (vs:List Value),Inv w m φ (bD stl)→RepL m φ args vs→(∀ id,φ id≠none→id<stl.length) →
  Calls C.P g vs.toArray w (bR w m φ r stl')
structure SoundOk (C:Ctx):Prop where
 ctx:CtxOk C
 fns:AMU C.P
 draw:∀ call,CallOk C call→TM C call
 prim:PrimOk C
theorem kZ {m:Mem} {φ:Pl} {args:List AV} {vs:List Value} (n:Nat) (h:RepL m φ args vs):∀ t,Rep m φ (qW args t) ((vs.toArray++Array.replicate n undef).getD t undef):=by
 have key:∀ (args:List AV) (vs:List Value) (t:Nat),RepL m φ args vs→Rep m φ (qW args t) ((vs++List.replicate n undef)[t]?.getD undef):=by
  intro args
  induction args with
  | nil=>intro vs t h;exact .junk _
  | cons c args ih =>
   intro vs t h
   cases h with
   | cons a b =>
    cases t with
    | zero=>simpa [qW]using a
    | succ t=>simpa [qW]using ih _ t b
 intro t;have:=key args vs t h;rw[yG]
 have e:(vs.toArray++Array.replicate n undef)[t]?=(vs++List.replicate n undef)[t]?:=by
  rw[← Array.getElem?_toList];simp
 rw[e];exact this
theorem IY.close {D:Nat} {ds:List Deferred} {w0 w:World} {m0:Mem} {φ0:Pl} {nt na:Nat} {S:AS} {a:Act} (h:IY ({ target:=.collected D,args:=#[] }::ds) w0 m0 φ0 nt na S a w) :
 (Instr.takeDeferred D).run C.P w=.ok [] (w.putObj D (.deferred none))∧IY ds w0 m0 φ0 nt na S { a with defers:=ds } (w.putObj D (.deferred none)):=by
 obtain⟨⟨⟨m,φ,hi,henv,hadv,hok,hmk⟩,hsz,hdf⟩,hlen⟩:=h;obtain⟨Ds,f1,f2,f3⟩:=hmk.form
 cases Ds with
 | nil=>cases f1
 | cons D' Ds =>
  simp only[xO,List.cons.injEq,Deferred.mk.injEq,Target.collected.injEq,and_true]at f1;obtain⟨rfl,f1⟩:=f1;obtain⟨g1,g2,g3⟩:=f3 D (by simp);obtain⟨n1,n2⟩:=yR.1 f2;have hoth:∀ x,x≠D→(w.putObj D (.deferred none)).heap[x]?=w.heap[x]?:=fun x hx=>World.putObj_heap_other hx
  have hm:∀ o,m D o=none:=by
   intro o
   cases e:m D o with
   | none=>rfl
   | some v =>
    have:=hi.mem D o v e;simp[World.cell?,g2]at this
  refine⟨run_takeDeferred g2,⟨⟨m,φ,hi.aside (by simp) hoth hm g3,henv,?_,hok,⟨⟨Ds,f1,n2,fun D' hD'=>?_⟩⟩⟩,hsz,rfl⟩,hlen⟩
  ·refine⟨by simpa using hadv.size,hadv.os,⟨hadv.tape.tape,hadv.tape.fwd⟩,hadv.output,?_,hadv.mle,hadv.mnew,hadv.ple,hadv.pnew⟩;intro b hb1 hb2;rw[hoth b (by omega)];exact hadv.block b hb1 hb2
  ·obtain⟨k1,k2,k3⟩:=f3 D' (by simp[hD']);exact⟨k1,by rw[hoth D' fun e=>n1 (e ▸ hD')];exact k2,k3⟩
theorem nV {fn:Func} {R:Ending→World→Prop} {w0:World} {m0:Mem} {φ0:Pl} {nt na:Nat} {S:AS}:∀ {ds:List Deferred} {a:Act} {w:World},IY ds w0 m0 φ0 nt na S a w →
 (∀ (a':Act) (w':World),a'.tmps=a.tmps→IY [] w0 m0 φ0 nt na S a' w'→∃ v,(results fn a'.tmps).run C.P w'=.ok v w'∧R (.returned v) w')→LeavesInM Fence.wide 0 C.P fn a.tmps R ds .returning w
 | [],a,w,h,k=>by
  obtain⟨v,k1,k2⟩:=k a w rfl h;exact⟨v,k1,k2⟩
 | d::ds,a,w,h,k=>by
  have hd:∃ D,d={ target:=.collected D,args:=#[] }:=by
   obtain⟨⟨⟨m,φ,_,_,_,_,hmk⟩,_,_⟩,_⟩:=h;obtain⟨Ds,f1,_,_⟩:=hmk.form
   cases Ds with
   | nil=>cases f1
   | cons D Ds=>simp only[xO,List.cons.injEq]at f1;exact⟨D,f1.1⟩
  obtain⟨D,rfl⟩:=hd;obtain⟨h1,h2⟩:=h.close (C:=C);exact⟨by simp, .inl ⟨D,_,rfl,h1,nV (a:={ a with defers:=ds }) h2 fun a' w' e=>k a' w' e⟩⟩
theorem O0 {m:Mem} {φ:Pl} {nt:Nat}:∀ {ps:List Nat} {as1:List AV} {us:List Value} {E:List (Nat×AV)} {tmps:Array Value},(∀ p∈ps,p<nt)→nt≤tmps.size→RepL m φ as1 us→as1.length=ps.length →
 (∀ t,Rep m φ (aT E t) (tmps.getD t undef)) →
 nt≤((ps.zip us).foldl (fun t (p:Nat×Value)=>t.setIfInBounds p.1 p.2) tmps).size∧∀ t,Rep m φ (aT (KD ps as1 E) t) (((ps.zip us).foldl (fun t (p:Nat×Value)=>t.setIfInBounds p.1 p.2) tmps).getD t undef)
 | [],as1,us,E,tmps,_,hs,_,_,h=>by simp only[KD];exact⟨hs,h⟩
 | p::ps,[],us,E,tmps,_,_,_,hl,_=>by simp at hl
 | p::ps,a::as1,_,E,tmps,hp,hs, .cons (v:=v) ha hb,hl,h=>by
  simp only[KD,List.zip_cons_cons,List.foldl_cons];refine O0 (fun q hq=>hp q (by simp[hq])) (by simpa using hs) hb (by simpa using hl) ?_;intro t;have hlt:p<tmps.size:=zH (hp p (by simp)) hs;simp only[aT];by_cases e:t=p
  ·subst e;simpa [Array.getD,hlt]using ha
  ·simp only[e,if_false];have:=h t;rw[yG]at this ⊢;rw[Array.getElem?_setIfInBounds_ne (Ne.symm e)];exact this
theorem BV:∀ (st:StL) (id:Nat) (b:Option Blk),id<st.length→bD (setSt st id b)=upd (bD st) id b
 | [],id,b,h=>by simp at h
 | c::st,0,b,_=>by
  funext i
  cases i with
  | zero=>simp[setSt,bD,upd]
  | succ i=>simp[setSt,bD,upd]
 | c::st,id+1,b,h=>by
  funext i
  cases i with
  | zero=>simp[setSt,bD,upd]
  | succ i =>
   have:=congrFun (BV st id b (by simpa using h)) i;simp only[setSt,bD,this,upd];by_cases e:i=id
   ·subst e;simp
   ·simp[e]
theorem BU:∀ (st:StL) (id:Nat) (b:Option Blk),(setSt st id b).length=st.length
 | [],_,_=>rfl
 | _::st,0,_=>by simp[setSt]
 | _::st,id+1,b=>by simp[setSt,BU st id b]
theorem ARel.turn {ds:List Deferred} {w0 w:World} {m0:Mem} {φ0:Pl} {nt:Nat} {ok:Nat→Prop} {env:Nat→AV} {st:Store} {a:Act} {id:Nat} {R:Rng} {cs:List AV} {s:LSt} (h:ARel ds w0 m0 φ0 nt ok env st a w) (hs:st id=some (.loop R cs s)) {l:Nat} {n0:Ext}
 (h0:φ0 id=some (l,n0)):∃ r:Loop,w.heap[l]?=some (.loop r)∧r.state=AF2 s∧r.pending=MH s∧∀ s':LSt,
  ARel ds w0 m0 φ0 nt ok env (upd st id (some (.loop R cs s'))) a (w.putObj l (.loop { r with state:=AF2 s',pending:=MH s' })):=by
 obtain⟨⟨m,φ,hi,henv,hadv,hok,hmk⟩,hsz,hdf⟩:=h;obtain⟨b,n,q1,q2,q3⟩:=hi.live _ _ hs;obtain⟨n4,q4,_,_⟩:=hadv.ple _ _ _ h0;rw[q1]at q4;injection q4 with q4;injection q4 with q5 q6
 subst q5
 cases q3 with
 | loop u1 u2 u3 u4 u5 u6 =>
  have hlt:b<w.heap.size:=(zI.1 u1).1;refine⟨_,u1,rfl,rfl,fun s'=>?_⟩;obtain⟨k1,k2⟩:=hi.APU (w':=w.putObj b (.loop _)) hs q1 u6 (by simp) (fun x hx=>World.putObj_heap_other hx) ⟨rfl,⟨rfl,zN _⟩,rfl⟩ (.loop (s:=s') (World.putObj_heap_same hlt) u2 u3 u4 u5 u6);exact⟨⟨m,φ,k1,henv,hadv.trans k2,hok,hmk.adv k2⟩,hsz,hdf⟩
theorem M7 {w0 w:World} {m0:Mem} {φ0:Pl} {S:AS} {a:Act} {id l nt na:Nat} {n0:Ext} {e:AExit} {r:AV} {stl':StL} {ds:List Deferred} (h0:∀ id,φ0 id≠none→id<na) (hl:φ0 id=some (l,n0)) (hid:id<na)
 (hr:IY ds w0 m0 φ0 nt na S a w) (h:R6 na e id S (bD S.st id)=some (r,stl')):∀ j:Option Code,(j=match e with | .normal=>none|e=>some (ALJ e))→∃ v w',(Instr.endRound l j).run C.P w=.ok v w'∧bR w0 m0 φ0 r stl' (.returned v) w':=by
 intro j hj;obtain⟨hr,hlen⟩:=hr;unfold R6 at h;split at h
 ·rename_i R cs hs;obtain⟨rec,q1,q2,q3,q4⟩:=hr.turn hs hl;have hrun:=run_endRound (P:=C.P) j q1;rw[BV _ _ _ (zH hid hlen)]at h;have h4:=q4 (J7 e)
  have hrec:({ rec with state:=AF2 (J7 e),pending:=MH (J7 e) }:Loop)={ rec with state:=if j.isNone then .ready else .done,pending:=j }:=by
   subst hj;cases e<;>rfl
  rw[hrec]at h4;refine⟨_,_,hrun,?_⟩;obtain⟨⟨m,φ,hi,henv,hadv,hok,hmk⟩,hsz,hdf⟩:=h4;unfold PE at h;injection h with h;injection h with h5 h6;subst h5;subst h6;generalize hids:gH (upd (bD S.st) id (some (.loop R cs (J7 e)))) na [.bool (DW e)]=ids;have hd:ids.Nodup:=by rw[← hids];exact fU _ _ _
  have hb:j.isNone=DW e:=by subst hj;cases e<;>rfl
  refine⟨_,m,eD ids φ,rfl,?_,hi.keep hd,hadv.keep h0 (fun j hj=>by rw[← hids];exact qK _ _ _ hj),?_⟩
  ·rw[hb];exact .i (.lit _)
  ·intro i hne;rw[fQ];unfold eD at hne
   cases hx:ids[i]? with
   | none=>rw[hx]at hne;exact absurd rfl hne
   | some k=>exact(zZ.1 hx).1
 ·cases h
theorem o7 (hS:SoundOk C):∀ n,CallOk C (gK C n)
 | 0=>⟨fun _ _ _ _ _ h=>by simp[gK]at h,fun _ _ _ _ _ _ h=>by simp[gK]at h,fun _ _ _ _ h=>by simp[gK]at h⟩
 | n+1=>by
  have ih:=o7 hS n;constructor
  ·intro g args stl p hg h;unfold gK at h;rw[if_neg hg]at h
   cases hp:C.prim g with
   | some q =>
    rw[hp]at h;exact hS.prim.name g args stl p (by unfold bM;rw[hp];exact h)
   | none =>
    rw[hp]at h;simp only at h;split at h
    ·cases h
    ·rename_i fn hf;split at h
     ·cases h
     ·rename_i c hb;exact⟨fn,hf,(hS.fns g fn c hf hb).1,by rw[hb];rfl⟩
  ·intro g args stl r stl' hg h w m φ vs hi hargs hid;unfold gK at h;rw[if_neg hg]at h
   cases hp:C.prim g with
   | some q =>
    rw[hp]at h;exact hS.prim.calls g args stl r stl' (by unfold bM;rw[hp];exact h) w m φ vs hi hargs hid
   | none =>
    rw[hp]at h;simp only at h;split at h
    ·cases h
    ·rename_i fn hf;split at h
     ·cases h
     ·rename_i c hb;have hst:=(hS.fns g fn c hf hb).2
      have hrel:IY [] w m φ fn.ntmps stl.length (enter (C.G g) args stl) { tmps:=vs.toArray++Array.replicate (fn.ntmps-vs.toArray.size) undef,defers:=[] } w:=by
       refine⟨⟨⟨m,φ,hi,?_, .refl _ _ _,hid, .nil _ _ _⟩,by simp;omega,rfl⟩,zN _⟩;intro t;unfold enter;simp only;generalize C.G g=G
       induction G with
       | nil=>exact .junk _
       | cons u G ihG =>
        simp only[EH,aT];by_cases e:t=u
        ·subst e;simp only[if_true];exact kZ _ hargs t
        ·simp only[e,if_false];exact ihG
      refine callsIn_wide.1 (callsIn_of_wp_marks (n:=0) hf hb trivial ?_)
      have done:∀ S e,exec C (gK C n) (C.G g) stl.length n c (enter (C.G g) args stl)=some (e,S)→finish C (C.keepRes g) fn.results.toList stl.length S=some (r,stl')→(e=.normal∨e=.ret) →
       c.wpIn Fence.wide 0 C.P (bodyPostM Fence.wide 0 C.P fn (bR w m φ r stl')) { tmps:=vs.toArray++Array.replicate (fn.ntmps-vs.toArray.size) undef,defers:=[] } w:=by
       intro S e hS' hfin he;refine wpIn_mono (bQ (ρ:=none) hS.ctx ih (hS.draw _ ih) hid n c _ S e [] _ w hst (.inl rfl) hS' hrel) ?_;rintro e' a' w' ⟨rfl,ds,k,_⟩
       have hl:LeavesInM Fence.wide 0 C.P fn a'.tmps (bR w m φ r stl') a'.defers .returning w':=by
        rw[k.1.defers];refine nV k fun a2 w2 _ k2=>?_
        obtain⟨v,k3,k4⟩:=fJ (C:=C) hid k2 hfin;exact⟨v,k3,k4⟩
       rcases he with rfl|rfl
       ·exact hl
       ·exact hl
      unfold WN at h;split at h
      ·rename_i S hS';exact done S .normal hS' h (.inl rfl)
      ·rename_i S hS';exact done S .ret hS' h (.inr rfl)
      ·cases h
      ·cases h
  ·intro args stl r stl' h w m φ vs hi hargs hid;unfold gK at h;rw[if_pos rfl]at h;unfold GD at h;split at h
   ·rename_i id as1;obtain⟨h0,h⟩:=aP.1 h;have h0:=zS h0;unfold R7 at h;split at h
    ·rename_i R cs hs;obtain⟨h2,h⟩:=aP.1 h;have h2:=zS h2
     cases hargs with
     | @cons _ v _ us hy hus =>
     obtain⟨b,n0,q1,q2,q3⟩:=hi.live _ _ hs
     cases hy with
     | yld e0 =>
     rw[q1]at e0;injection e0 with e0;injection e0 with e1 e2;subst e1;subst e2
     cases q3 with
     | @loop R cs s nt fn tmps dfr u1 u2 u3 u4 u5 u6 =>
     refine⟨b,us,rfl,fn,_,R.asg,R.body,run_yield u1 (by simp;rw[← hus.length];exact h2),?_⟩;obtain⟨z1,z2⟩:=O0 u3 u2 hus h2 u5;have hfold:∀ (l:List (Nat×Value)) (t:Array Value),(l.toArray.foldl (fun(tmps:Array Value) (x:Nat×Value)=>tmps.setIfInBounds x.1 x.2) t)=l.foldl (fun t (p:Nat×Value)=>t.setIfInBounds p.1 p.2) t:=fun l t=>by simp
     have htm:((R.ps.toArray.zip us.toArray).foldl (fun(tmps:Array Value) (x:Nat×Value)=>tmps.setIfInBounds x.1 x.2) tmps)=(R.ps.zip us).foldl (fun t (p:Nat×Value)=>t.setIfInBounds p.1 p.2) tmps:=by
      rw[List.zip_toArray,hfold]
     have hrel:IY [] w m φ nt stl.length ⟨KD R.ps as1 (Q5 R.ts cs),stl⟩ { tmps:=(R.ps.zip us).foldl (fun t (p:Nat×Value)=>t.setIfInBounds p.1 p.2) tmps,defers:=[] } w :=
      ⟨⟨⟨m,φ,hi,z2, .refl _ _ _,hid, .nil _ _ _⟩,z1,rfl⟩,zN _⟩
     refine roundIn_of_wpIn (F:=Fence.wide) trivial ?_;show Code.wpIn (FR (some b)) 0 C.P _ _ _ _;have htm':=htm;simp only[]at htm';rw[show(Array.foldl (fun tmps (x:Nat×Value)=>match x with|(t,a)=>tmps.setIfInBounds t a) tmps (R.ps.toArray.zip us.toArray))=(R.ps.zip us).foldl (fun t (p:Nat×Value)=>t.setIfInBounds p.1 p.2) tmps from htm];unfold tZ at h;split at h
     case h_2=>cases h
     rename_i e S hx;unfold AE2 at hx;split at hx
     ·rename_i S1 hx1;refine wpIn_mono (bQ (ρ:=some b) hS.ctx ih (hS.draw _ ih) hid n R.asg _ S1 .normal [] _ w u4.1 (.inr u4.2.2.1) hx1 hrel) ?_;rintro e' a1 w1 ⟨rfl,ds1,k1,kd⟩;have kd:=kd u4.2.2.1;subst kd;simp only[ADS]at hx;split at hx
      ·rename_i R1 cs1 hs1;obtain⟨rec,p1,p2,p3,p4⟩:=k1.1.turn hs1 q1;refine⟨_,run_beginRound p1 p2,?_⟩;have p5:=p4 .busy
       have hrec:({ rec with state:=AF2 .busy,pending:=MH .busy }:Loop)={ rec with state:=.busy }:=by
        have:rec.pending=none:=p3
        cases rec;simp_all [AF2,MH]
       rw[hrec]at p5;have hlt1:id<S1.st.length:=zH h0 k1.2
       have hrel2:IY [] w m φ nt stl.length ⟨S1.env,setSt S1.st id (some (.loop R1 cs1 .busy))⟩ a1 (w1.putObj b (.loop { rec with state:=.busy })):=by
        refine⟨?_,by simp only[BU];exact k1.2⟩;simp only[BU];rw[BV _ _ _ hlt1];exact p5
       refine wpIn_mono (bQ (ρ:=some b) hS.ctx ih (hS.draw _ ih) hid n R.body _ S e [] _ _ u4.2.1 (.inr u4.2.2.2) hx hrel2) ?_;rintro e' a2 w2 ⟨rfl,ds2,k2,_⟩;have fin:=M7 (C:=C) hid q1 h0 k2 h
       cases e with
       | normal=>exact fin none rfl
       | exit k=>exact fin (some (.exit k)) rfl
       | ret=>exact fin (some .ret) rfl
      ·cases hx
     ·cases hx
    ·cases h
   ·cases h
theorem bF (hS:SoundOk C):CallOk C (aI C):=by
 constructor
 ·intro g args stl p hg h;obtain⟨N,hN⟩:=(l6 _).1 h;exact(o7 hS N).name g args stl p hg hN
 ·intro g args stl r stl' hg h;obtain⟨N,hN⟩:=(l6 _).1 h;exact(o7 hS N).calls g args stl r stl' hg hN
 ·intro args stl r stl' h;obtain⟨N,hN⟩:=(l6 _).1 h;exact(o7 hS N).rounds args stl r stl' hN
end
abbrev Upd:=List (Nat×Option Blk)
def eB:Upd→Store→Store
 | [],st=>st
 | p::U,st=>upd (eB U st) p.1 p.2
theorem oG:∀ (U V:Upd) (st:Store),eB (U++V) st=eB U (eB V st)
 | [],_,_=>rfl
 | p::U,V,st=>by simp[eB,oG U V st]
theorem fM:∀ {U:Upd} {st:Store} {i:Nat},(∀ p∈U,p.1≠i)→eB U st i=st i
 | [],_,_,_=>rfl
 | p::U,st,i,h=>by
  simp only[eB,upd];rw[if_neg (fun e=>h p (by simp) e.symm)];exact fM fun q hq=>h q (by simp[hq])
theorem oF:∀ (U:Upd) {st st':Store} {i:Nat},st' i=st i→eB U st' i=eB U st i
 | [],_,_,_,h=>h
 | p::U,st,st',i,h=>by
  simp only[eB,upd];split
  ·rfl
  ·exact oF U h
theorem QI {U V:Upd} (h:∀ p∈U,∀ q∈V,p.1≠q.1) (st:Store):eB U (eB V st)=eB V (eB U st):=by
 funext i;by_cases hu:∃ p∈U,p.1=i
 ·obtain⟨p,hp,rfl⟩:=hu;have hv:∀ q∈V,q.1≠p.1:=fun q hq e=>h p hp q hq e.symm
  rw[fM hv];exact oF U (fM hv)
 ·have hu':∀ p∈U,p.1≠i:=fun p hp e=>hu ⟨p,hp,e⟩
  rw[fM hu'];exact(oF V (fM hu')).symm
def Agree (ts:List Nat) (st st':Store):Prop:=∀ i∈ts,st' i=st i
def Clo (ts:List Nat) (st:Store):Prop:=∀ i∈ts,∀ j∈gW (st i),j∈ts
theorem Agree.apply {ts:List Nat} {st st':Store} (h:Agree ts st st') (U:Upd):Agree ts (eB U st) (eB U st'):=fun i hi=>oF U (h i hi)
theorem Clo.agree {ts:List Nat} {st st':Store} (h:Clo ts st) (k:Agree ts st st'):Clo ts st':=fun i hi j hj=>by
 rw[k i hi]at hj;exact h i hi j hj
theorem Agree.symm {ts:List Nat} {st st':Store} (h:Agree ts st st'):Agree ts st' st:=fun i hi=>(h i hi).symm
def Loc {α:Type} (ts:List Nat) (ex:Nat→Prop) (F:Store→Option (α×Store)) (st:Store) (a:α) (s1:Store):Prop :=
 ∃ U:Upd,(∀ p∈U,ex p.1)∧s1=eB U st∧∀ st',Agree ts st st'→F st'=some (a,eB U st')
theorem Loc.mono {α:Type} {ts:List Nat} {ex ex':Nat→Prop} {F:Store→Option (α×Store)} {st s1:Store} {a:α} (h:Loc ts ex F st a s1) (hx:∀ i,ex i→ex' i):Loc ts ex' F st a s1:=by
 obtain⟨U,h1,h2,h3⟩:=h;exact⟨U,fun p hp=>hx _ (h1 p hp),h2,h3⟩
theorem Loc.seq {α β:Type} {ts:List Nat} {ex:Nat→Prop} {F:Store→Option (α×Store)} {H:Store→Option (β×Store)} {F2:α→Store→Option (β×Store)} {st s1 s2:Store} {a:α} {b:β}
 (h:Loc ts ex F st a s1) (h2:Loc ts ex (F2 a) s1 b s2)
 (hs:∀ st' s r,F st'=some (a,s)→F2 a s=some r→H st'=some r):Loc ts ex H st b s2:=by
 obtain⟨U,h3,h4,h5⟩:=h;obtain⟨V,k3,k4,k5⟩:=h2;refine⟨V++U,fun p hp=>?_,by rw[oG,k4,h4],fun st' ha=>?_⟩
 ·rcases zT.1 hp with hp|hp
  ·exact k3 p hp
  ·exact h3 p hp
 ·rw[oG];refine hs st' _ _ (h5 st' ha) (k5 _ ?_);rw[h4];exact ha.apply U
theorem Loc.here {α:Type} {ts:List Nat} {ex:Nat→Prop} {F:Store→Option (α×Store)} {st:Store} {a:α} (h:∀ st',Agree ts st st'→F st'=some (a,st')):Loc ts ex F st a st :=
 ⟨[],by simp,rfl,h⟩
theorem Loc.one {α:Type} {ts:List Nat} {ex:Nat→Prop} {F:Store→Option (α×Store)} {st:Store} {a:α} {i:Nat} {b:Option Blk} (hi:ex i) (h:∀ st',Agree ts st st'→F st'=some (a,upd st' i b)):Loc ts ex F st a (upd st i b) :=
 ⟨[(i,b)],by simpa using hi,rfl,h⟩
theorem ZJ {id k off len:Nat} {o:Option Blk} {iv:IV} {us:Ups} (h:qR id k off len o=some (iv,us)):∀ p∈us,p.1=id∧gW (some p.2)=[]:=by
 unfold qR at h;split at h
 ·obtain⟨_,h2⟩:=aP.1 h;injection h2 with h2;injection h2 with h2 h3;subst h3;intro p hp;simp at hp;subst hp;exact⟨rfl,rfl⟩
 ·obtain⟨_,h2⟩:=aP.1 h;injection h2 with h2;injection h2 with h2 h3;subst h3;simp
 ·cases h
mutual
theorem PV {ts:List Nat} {st st':Store} (hc:Clo ts st) (ha:Agree ts st st'):∀ (n:Nat) (v:AV) {r:IV×Ups},(∀ i∈dD v,i∈ts)→frz st n v=some r→frz st' n v=some r∧∀ p∈r.2,p.1∈ts∧gW (some p.2)=[]
 | 0,_,_,_,h=>by simp[frz]at h
 | n+1,v,r,hv,h=>by
  cases v with
  | junk=>simp[frz]at h
  | tup=>simp[frz]at h
  | fn=>simp[frz]at h
  | ownE=>simp[frz]at h
  | i v=>simp[frz]at h ⊢;subst h;simp
  | nils=>simp[frz]at h ⊢;subst h;simp
  | osl id k off len =>
   simp only[frz]at h ⊢;have hm:=hv id (by simp[dD]);rw[ha id hm];refine⟨h,fun p hp=>?_⟩;obtain⟨h1,h2⟩:=ZJ (show qR id k off len (st id)=some (r.1,r.2)from h) p hp;exact⟨h1 ▸ hm,h2⟩
  | own id off =>
   simp only[frz]at h ⊢;have hm:=hv id (by simp[dD]);rw[ha id hm];exact AD7 hc ha n id off hm h
  | agg cs =>
   simp only[frz]at h ⊢;obtain⟨p,h1,h2⟩:=aH.1 h;obtain⟨k1,k2⟩:=JP hc ha n cs (fun i hi=>hv i (by simpa [dD]using hi)) h1;injection h2 with h2;subst h2;exact⟨by rw[k1];rfl,k2⟩
theorem AD7 {ts:List Nat} {st st':Store} (hc:Clo ts st) (ha:Agree ts st st'):∀ (n id off:Nat) {r:IV×Ups},id∈ts→wV st n id off (st id)=some r→wV st' n id off (st id)=some r∧∀ p∈r.2,p.1∈ts∧gW (some p.2)=[]
 | 0,_,_,_,_,h=>by simp[wV]at h
 | n+1,id,off,r,hm,h=>by
  cases hst:st id with
  | none=>rw[hst]at h;simp[wV]at h
  | some blk =>
   rw[hst]at h
   cases blk with
   | arr=>simp[wV]at h
   | frz=>simp[wV]at h
   | tre=>simp[wV]at h
   | loop=>simp[wV]at h
   | fbox l =>
    simp only[wV]at h ⊢;obtain⟨h1,h2⟩:=aP.1 h;injection h2 with h2;subst h2;exact⟨h,by simp⟩
   | box cs =>
    simp only[wV]at h ⊢;obtain⟨p,h1,h2⟩:=aH.1 h;obtain⟨h3,h4⟩:=aP.1 h2;injection h4 with h4;subst h4;obtain⟨k1,k2⟩:=JP hc ha n cs (fun i hi=>hc id hm i (by rw[hst];simpa [gW]using hi)) h1;refine⟨by rw[k1];simp only[dZ];rw[h3];rfl,?_⟩;intro q hq
    rcases zQ.1 hq with rfl|hq
    ·exact⟨hm,rfl⟩
    ·exact k2 q hq
theorem JP {ts:List Nat} {st st':Store} (hc:Clo ts st) (ha:Agree ts st st'):∀ (n:Nat) (cs:List AV) {r:List IV×Ups},(∀ i∈aX cs,i∈ts)→I5 st n cs=some r→I5 st' n cs=some r∧∀ p∈r.2,p.1∈ts∧gW (some p.2)=[]
 | _,[],r,_,h=>by simp[I5]at h ⊢;subst h;simp
 | 0,_::_,_,_,h=>by simp[I5]at h
 | n+1,c::cs,r,hv,h=>by
  simp only[I5]at h ⊢;obtain⟨p,h1,h2⟩:=aH.1 h;obtain⟨q,h3,h4⟩:=aH.1 h2;injection h4 with h4;subst h4;obtain⟨k1,k2⟩:=PV hc ha n c (fun i hi=>hv i (by simp[aX,hi])) h1;obtain⟨k3,k4⟩:=JP hc ha n cs (fun i hi=>hv i (by simp[aX,hi])) h3;refine⟨by rw[k1,dZ,k3];rfl,?_⟩;intro u hu
  rcases zT.1 hu with hu|hu
  ·exact k2 u hu
  ·exact k4 u hu
end
def AFS (us:Ups):Upd:=us.map fun p=>(p.1,some p.2)
theorem pM:∀ (us:Ups) (st:Store),gB st us=eB (AFS us) st
 | [],_=>rfl
 | p::us,st=>by simp[gB,AFS,eB,pM us st]
def KI {α:Type} (ts:List Nat) (F:Store→Option (α×Store)) (st:Store) (a:α) (s1:Store):Prop:=Loc ts (fun i=>i∈ts) F st a s1∧Clo ts s1
theorem vV {ts:List Nat}:∀ {U:Upd} {st:Store},Clo ts st→(∀ p∈U,gW p.2=[])→Clo ts (eB U st)
 | [],_,h,_=>h
 | p::U,st,h,hU=>by
  have ih:=vV (U:=U) h fun q hq=>hU q (by simp[hq])
  intro i hi j hj;simp only[eB,upd]at hj;split at hj
  ·rw[hU p (by simp)]at hj;cases hj
  ·exact ih i hi j hj
theorem SA {ts:List Nat} {st s1:Store} (hc:Clo ts st) {v:AV} {iv:IV} (hv:∀ i∈dD v,i∈ts) (h:oL st v=some (iv,s1)):KI ts (fun s=>oL s v) st iv s1:=by
 have key:∀ v,(∀ i∈dD v,i∈ts)→(bnd (frz st rX v) fun p=>some (p.1,gB st p.2))=some (iv,s1)→(∀ s,oL s v=bnd (frz s rX v) fun p=>some (p.1,gB s p.2))→KI ts (fun s=>oL s v) st iv s1:=by
  intro v hv h he;obtain⟨p,h1,h2⟩:=aH.1 h;injection h2 with h2;injection h2 with h2 h3;subst h2;subst h3;obtain⟨_,k2⟩:=PV hc (fun i _=>rfl:Agree ts st st) rX v hv h1;rw[pM];refine⟨⟨AFS p.2,?_,rfl,?_⟩,vV hc ?_⟩
  ·intro q hq;obtain⟨u,hu,rfl⟩:=yB.1 hq;exact(k2 u hu).1
  ·intro st' ha;obtain⟨k1,_⟩:=PV hc ha rX v hv h1;simp only;rw[he,k1,dZ,pM]
  ·intro q hq;obtain⟨u,hu,rfl⟩:=yB.1 hq;exact(k2 u hu).2
 cases v with
 | i v =>
  simp only[oL,Option.some.injEq,Prod.mk.injEq]at h;obtain⟨rfl,rfl⟩:=h;exact⟨.here fun _ _=>rfl,hc⟩
 | _=>exact key _ hv h fun _=>rfl
theorem KI.seq {α β:Type} {ts:List Nat} {F:Store→Option (α×Store)} {H:Store→Option (β×Store)} {F2:Store→Option (β×Store)} {st s1 s2:Store} {a:α} {b:β}
 (h:KI ts F st a s1) (h2:KI ts F2 s1 b s2) (hs:∀ st' s r,F st'=some (a,s)→F2 s=some r→H st'=some r):KI ts H st b s2 :=
 ⟨h.1.seq (F2:=fun _=>F2) h2.1 hs,h2.2⟩
theorem KI.map {α β:Type} {ts:List Nat} {F:Store→Option (α×Store)} {H:Store→Option (β×Store)} {st s1:Store} {a:α} {b:β}
 (h:KI ts F st a s1) (hs:∀ st' s,F st'=some (a,s)→H st'=some (b,s)):KI ts H st b s1:=by
 obtain⟨⟨U,h1,h2,h3⟩,h4⟩:=h;exact⟨⟨U,h1,h2,fun st' ha=>hs _ _ (h3 st' ha)⟩,h4⟩
theorem DZ {ts:List Nat}:∀ {cs:List AV} {st s1:Store} {l:List IV},Clo ts st→(∀ i∈aX cs,i∈ts)→l8 st cs=some (l,s1)→KI ts (fun s=>l8 s cs) st l s1
 | [],st,s1,l,hc,_,h=>by
  simp[l8]at h;obtain⟨rfl,rfl⟩:=h;exact⟨.here fun _ _=>rfl,hc⟩
 | c::cs,st,s1,l,hc,hv,h=>by
  simp only[l8]at h;obtain⟨p,h1,h2⟩:=aH.1 h;obtain⟨q,h3,h4⟩:=aH.1 h2;injection h4 with h4;injection h4 with h4 h5;subst h4;subst h5;have k1:=SA hc (fun i hi=>hv i (by simp[aX,hi])) (show oL st c=some (p.1,p.2)from h1);have k2:=DZ k1.2 (fun i hi=>hv i (by simp[aX,hi])) (show l8 p.2 cs=some (q.1,q.2)from h3);refine k1.seq (k2.map (H:=fun s=>bnd (l8 s cs) fun q=>some (p.1::q.1,q.2)) fun st' s e=>?_) fun st' s r e1 e2=>?_
  ·show bnd (l8 st' cs) _=_;rw[show l8 st' cs=_ from e];rfl
  ·simp only[l8]at e1 e2 ⊢;rw[e1];exact e2
theorem wU {ts:List Nat}:∀ {ps:List (Nat×List AV)} {st s1:Store} {l:List (Nat×List IV)},Clo ts st→(∀ p∈ps,∀ i∈aX p.2,i∈ts)→dS st ps=some (l,s1)→KI ts (fun s=>dS s ps) st l s1
 | [],st,s1,l,hc,_,h=>by
  simp[dS]at h;obtain⟨rfl,rfl⟩:=h;exact⟨.here fun _ _=>rfl,hc⟩
 | c::cs,st,s1,l,hc,hv,h=>by
  simp only[dS]at h;obtain⟨p,h1,h2⟩:=aH.1 h;obtain⟨q,h3,h4⟩:=aH.1 h2;injection h4 with h4;injection h4 with h4 h5;subst h4;subst h5;have k1:=DZ hc (fun i hi=>hv c (by simp) i hi) (show l8 st c.2=some (p.1,p.2)from h1);have k2:=wU k1.2 (fun d hd i hi=>hv d (by simp[hd]) i hi) (show dS p.2 cs=some (q.1,q.2)from h3);refine k1.seq (k2.map (H:=fun s=>bnd (dS s cs) fun q=>some ((c.1,p.1)::q.1,q.2)) fun st' s e=>?_) fun st' s r e1 e2=>?_
  ·show bnd (dS st' cs) _=_;rw[show dS st' cs=_ from e];rfl
  ·simp only[dS]at e1 e2 ⊢;rw[e1];exact e2
theorem VU {ts:List Nat} {st s1:Store} (hc:Clo ts st) {v u:AV} (hv:∀ i∈dD v,i∈ts) (h:gD st v=some (u,s1)):KI ts (fun s=>gD s v) st u s1∧∀ i∈dD u,i∈ts:=by
 have key:∀ v,(∀ i∈dD v,i∈ts)→(bnd (oL st v) fun p=>some (AV.i p.1,p.2))=some (u,s1)→(∀ s,gD s v=bnd (oL s v) fun p=>some (AV.i p.1,p.2))→KI ts (fun s=>gD s v) st u s1∧∀ i∈dD u,i∈ts:=by
  intro v hv h he;obtain⟨p,h1,h2⟩:=aH.1 h;injection h2 with h2;injection h2 with h2 h3;subst h2;subst h3;refine⟨(SA hc hv (show oL st v=some (p.1,p.2)from h1)).map fun st' s e=>?_,by simp[dD]⟩;show gD st' v=_;rw[he,show oL st' v=_ from e];rfl
 cases v with
 | i v =>
  simp only[gD,Option.some.injEq,Prod.mk.injEq]at h;obtain⟨rfl,rfl⟩:=h;exact⟨⟨.here fun _ _=>rfl,hc⟩,hv⟩
 | fn f cs =>
  simp only[gD,Option.some.injEq,Prod.mk.injEq]at h;obtain⟨rfl,rfl⟩:=h;exact⟨⟨.here fun _ _=>rfl,hc⟩,hv⟩
 | _=>exact key _ hv h fun _=>rfl
theorem ET {ts:List Nat}:∀ {cs us:List AV} {st s1:Store},Clo ts st→(∀ i∈aX cs,i∈ts)→eX st cs=some (us,s1)→KI ts (fun s=>eX s cs) st us s1∧∀ i∈aX us,i∈ts
 | [],us,st,s1,hc,_,h=>by
  simp[eX]at h;obtain⟨rfl,rfl⟩:=h;exact⟨⟨.here fun _ _=>rfl,hc⟩,by simp[aX]⟩
 | c::cs,us,st,s1,hc,hv,h=>by
  simp only[eX]at h;obtain⟨p,h1,h2⟩:=aH.1 h;obtain⟨q,h3,h4⟩:=aH.1 h2;injection h4 with h4;injection h4 with h4 h5;subst h4;subst h5;obtain⟨k1,j1⟩:=VU hc (fun i hi=>hv i (by simp[aX,hi])) (show gD st c=some (p.1,p.2)from h1);obtain⟨k2,j2⟩:=ET k1.2 (fun i hi=>hv i (by simp[aX,hi])) (show eX p.2 cs=some (q.1,q.2)from h3);refine⟨k1.seq (k2.map (H:=fun s=>bnd (eX s cs) fun q=>some (p.1::q.1,q.2)) fun st' s e=>?_) fun st' s r e1 e2=>?_,?_⟩
  ·show bnd (eX st' cs) _=_;rw[show eX st' cs=_ from e];rfl
  ·simp only[eX]at e1 e2 ⊢;rw[e1];exact e2
  ·intro i hi;simp only[aX,zT]at hi;exact hi.elim (j1 i) (j2 i)
section
variable {C:Ctx}
theorem I1:∀ (l:List IV),aX (jR l)=[]
 | []=>rfl
 | v::l=>by simp[jR,aX,dD,I1 l]
theorem EN {v:AV} {cs:List AV} (h:cellsOf v=some cs):∀ i∈aX cs,i∈dD v:=by
 unfold cellsOf at h;split at h
 ·cases h
 ·cases h
 ·injection h with h;subst h;intro i hi;simpa [dD]using hi
 ·injection h with h;subst h;intro i hi;rw[I1]at hi;cases hi
 ·cases h
 ·cases h
 ·injection h with h;subst h;intro i hi;simpa [aX]using hi
theorem CK {env:Nat→AV}:∀ {l:List (Nat×Operand)} {ps:List (Nat×List AV)},partsOf env l=some ps→∀ p∈ps,∀ i∈aX p.2,i∈aX (evL env (eP l))
 | [],ps,h=>by simp[partsOf]at h;subst h;simp
 | q::l,ps,h=>by
  simp only[partsOf]at h;obtain⟨cs,h1,h2⟩:=aH.1 h;obtain⟨ps',h3,h4⟩:=aH.1 h2;injection h4 with h4;subst h4;intro p hp i hi;simp only[eP,evL,aX,zT]
  rcases zQ.1 hp with rfl|hp
  ·exact .inl (EN h1 i hi)
  ·exact .inr (CK h3 p hp i hi)
def Wr (ts:List Nat) (nb:Nat) (ro:Bool) (i:Nat):Prop:=(ro=false∧i∈ts)∨(nb≤i∧i<nb+wide)
theorem Wr.nb (ts:List Nat) (nb:Nat) (ro:Bool):Wr ts nb ro nb:=.inr ⟨Nat.le_refl _,jP nb⟩
theorem KI.wr {α:Type} {ts:List Nat} {F:Store→Option (α×Store)} {st s1:Store} {a:α} (h:KI ts F st a s1) (nb:Nat):Loc ts (Wr ts nb false) F st a s1:=h.1.mono fun _ hi=>.inl ⟨rfl,hi⟩
theorem YW {ts:List Nat} {st st':Store} {t:TypeId} {a:AV} (ha:Agree ts st st') (hv:∀ i∈dD a,i∈ts):D6 C t a st'=D6 C t a st:=by
 unfold D6;congr 1;funext n;congr 1;funext g;unfold loadAt
 cases a with
 | own id off=>simp only;rw[ha id (hv id (by simp[dD]))]
 | ownE id k ix off=>simp only;rw[ha id (hv id (by simp[dD]))]
 | i v=>cases v<;>rfl
 | _=>rfl
theorem EI {ts:List Nat} {st st':Store} {k:Nat} {a:AV} (ha:Agree ts st st') (hv:∀ i∈dD a,i∈ts):dE st' k a=dE st k a:=by
 unfold dE
 cases a with
 | osl id k' off len=>simp only;rw[ha id (hv id (by simp[dD]))]
 | i v =>
  cases v with
  | lit v=>cases v<;>rfl
  | _=>rfl
 | _=>rfl
theorem BO {ts:List Nat} {st s1:Store} {a:AV} {xs:List AV} {nb:Nat} (hc:Clo ts st) (ha:∀ i∈dD a,i∈ts) (hxs:∀ i∈aX xs,i∈ts) (h6:storeAt xs st a=some s1) :
 Loc ts (Wr ts nb false) (fun s=>bnd (storeAt xs s a) fun r=>some (AV.i (.lit undef),r)) st (.i (.lit undef)) s1:=by
 unfold storeAt at h6
 cases a with
 | own id off =>
  simp only at h6;have hm:=ha id (by simp[dD]);unfold oI at h6;split at h6
  ·rename_i cs hcs;obtain⟨l,k1,k2⟩:=aH.1 h6;injection k2 with k2;subst k2;refine .one (.inl ⟨rfl,hm⟩) fun st' hag=>?_
   simp only[storeAt];rw[hag id hm,hcs];simp[oI,k1]
  ·cases h6
 | ownE id k ix off =>
  simp only at h6;have hm:=ha id (by simp[dD]);obtain⟨p,k1,k2⟩:=aH.1 h6;have hl:=DZ hc hxs (show l8 st xs=some (p.1,p.2)from k1)
  have h2':Loc ts (Wr ts nb false) (fun s=>bnd (mM id k ix off p.1 s (s id)) fun r=>some (AV.i (.lit undef),r)) p.2 (.i (.lit undef)) s1:=by
   unfold mM at k2;split at k2
   ·rename_i k' es hes;obtain⟨j1,j2⟩:=aP.1 k2;obtain⟨e,j3,j4⟩:=aH.1 j2;obtain⟨e',j5,j6⟩:=aH.1 j4;injection j6 with j6;subst j6;refine .one (.inl ⟨rfl,hm⟩) fun st' hag=>?_
    rw[hag id hm,hes];simp[mM,j1,j3,j5]
   ·cases k2
  refine(hl.wr nb).seq (F2:=fun q s=>bnd (mM id k ix off q s (s id)) fun r=>some (AV.i (.lit undef),r)) h2' fun st' s r e1 e2=>?_
  simp only[storeAt];rw[show l8 st' xs=_ from e1];exact e2
 | _=>simp at h6
theorem AE8 {ts:List Nat} {st s1:Store} (hc:Clo ts st) {v:AV} {iv:IV} (hv:∀ i∈dD v,i∈ts) (h:OH st v=some (iv,s1)):KI ts (fun s=>OH s v) st iv s1:=by
 cases v with
 | i v =>
  simp only[OH]at h;obtain⟨h1,h2⟩:=aP.1 h;injection h2 with h2;injection h2 with h2 h3;subst h2;subst h3;exact⟨.here fun st' _=>by simp[OH,h1],hc⟩
 | nils =>
  simp only[OH]at h;injection h with h2;injection h2 with h2 h3;subst h2;subst h3;exact⟨.here fun st' _=>rfl,hc⟩
 | osl id k off len =>
  simp only[OH]at h;obtain⟨es,h1,h2⟩:=aH.1 h;injection h2 with h2;injection h2 with h2 h3;subst h2;subst h3;have hm:=hv id (by simp[dD]);refine⟨.one hm fun st' hag=>?_,?_⟩
  ·simp only[OH];rw[hag id hm,h1];rfl
  ·exact vV (U:=[(id,none)]) hc (by simp[gW])
 | _=>simp[OH]at h
theorem TG {ts:List Nat}:∀ {cs:List AV} {st s1:Store} {l:List IV},Clo ts st→(∀ i∈aX cs,i∈ts)→IW st cs=some (l,s1)→KI ts (fun s=>IW s cs) st l s1
 | [],st,s1,l,hc,_,h=>by
  simp[IW]at h;obtain⟨rfl,rfl⟩:=h;exact⟨.here fun _ _=>rfl,hc⟩
 | c::cs,st,s1,l,hc,hv,h=>by
  simp only[IW]at h;obtain⟨p,h1,h2⟩:=aH.1 h;obtain⟨q,h3,h4⟩:=aH.1 h2;injection h4 with h4;injection h4 with h4 h5;subst h4;subst h5;have k1:=AE8 hc (fun i hi=>hv i (by simp[aX,hi])) (show OH st c=some (p.1,p.2)from h1);have k2:=TG k1.2 (fun i hi=>hv i (by simp[aX,hi])) (show IW p.2 cs=some (q.1,q.2)from h3);refine k1.seq (k2.map (H:=fun s=>bnd (IW s cs) fun q=>some (p.1::q.1,q.2)) fun st' s e=>?_) fun st' s r e1 e2=>?_
  ·show bnd (IW st' cs) _=_;rw[show IW st' cs=_ from e];rfl
  ·simp only[IW]at e1 e2 ⊢;rw[e1];exact e2
theorem U0 {ts:List Nat} {st s1:Store} {a:AV} {xs:List AV} {nb:Nat} (hc:Clo ts st) (ha:∀ i∈dD a,i∈ts) (hxs:∀ i∈aX xs,i∈ts) (h6:storeT xs st a=some s1) :
 Loc ts (Wr ts nb false) (fun s=>bnd (storeT xs s a) fun r=>some (AV.i (.lit undef),r)) st (.i (.lit undef)) s1:=by
 unfold storeT at h6
 cases a with
 | own id off=>exact BO hc ha hxs (show storeAt xs st (.own id off)=some s1 from h6)
 | ownE id k ix off =>
  simp only at h6;have hm:=ha id (by simp[dD]);obtain⟨p,k1,k2⟩:=aH.1 h6;have hl:=TG hc hxs (show IW st xs=some (p.1,p.2)from k1)
  have h2':Loc ts (Wr ts nb false) (fun s=>bnd (gF id k ix off p.1 s (s id)) fun r=>some (AV.i (.lit undef),r)) p.2 (.i (.lit undef)) s1:=by
   unfold gF at k2;split at k2
   ·rename_i k' es hes;obtain⟨j1,j2⟩:=aP.1 k2;obtain⟨e,j3,j4⟩:=aH.1 j2;obtain⟨e',j5,j6⟩:=aH.1 j4;unfold FV at j6;split at j6
    ·rename_i hl;injection j6 with j6;subst j6;refine .one (.inl ⟨rfl,hm⟩) fun st' hag=>?_
     rw[hag id hm,hes];simp[gF,j1,j3,j5,FV,hl]
    ·rename_i hl;obtain⟨j7,j8⟩:=aP.1 j6;injection j8 with j8;subst j8;refine .one (.inl ⟨rfl,hm⟩) fun st' hag=>?_
     rw[hag id hm,hes];simp[gF,j1,j3,j5,FV,hl,j7]
   ·rename_i k' es hes;obtain⟨j1,j2⟩:=aP.1 k2;obtain⟨e,j3,j4⟩:=aH.1 j2;obtain⟨e',j5,j6⟩:=aH.1 j4;injection j6 with j6;subst j6;refine .one (.inl ⟨rfl,hm⟩) fun st' hag=>?_
    rw[hag id hm,hes];simp[gF,j1,j3,j5]
   ·cases k2
  refine(hl.wr nb).seq (F2:=fun q s=>bnd (gF id k ix off q s (s id)) fun r=>some (AV.i (.lit undef),r)) h2' fun st' s r e1 e2=>?_
  simp only[storeT];rw[show IW st' xs=_ from e1];exact e2
 | _=>simp at h6
theorem U1 {ts:List Nat} {st s1:Store} {t:TypeId} {a x:AV} {nb:Nat} (hc:Clo ts st) (ha:∀ i∈dD a,i∈ts) (hx:∀ i∈dD x,i∈ts) (h:wF C t a x st=some s1) :
 Loc ts (Wr ts nb false) (fun s=>bnd (wF C t a x s) fun r=>some (AV.i (.lit undef),r)) st (.i (.lit undef)) s1:=by
 unfold wF at h ⊢;obtain⟨n,h1,h2⟩:=aH.1 h;obtain⟨xs,h3,h4⟩:=aH.1 h2;obtain⟨h5,h6⟩:=aP.1 h4;simp only[h1,h3,dZ,h5,jU];have hxs:∀ i∈aX xs,i∈ts:=fun i hi=>hx i (EN h3 i hi)
 unfold tQ at h6 ⊢;split at h6
 ·exact BO hc ha hxs h6
 ·exact U0 hc ha hxs h6
theorem AE4 {ts:List Nat} {st s1:Store} {t:TypeId} {a x v:AV} {nb:Nat} (ha:∀ i∈dD a,i∈ts) (hx:∀ i∈dD x,i∈ts) (h:AIF C t a x st nb=some (v,s1)) :
 Loc ts (Wr ts nb false) (fun s=>AIF C t a x s nb) st v s1:=by
 unfold AIF at h ⊢;obtain⟨e,h1,h2⟩:=aH.1 h;obtain⟨k,h3,h4⟩:=aH.1 h2;obtain⟨by_,h5,h6⟩:=aH.1 h4;obtain⟨z,h7,h8⟩:=aH.1 h6;obtain⟨h9,h10⟩:=aP.1 h8;obtain⟨news,h11,h12⟩:=aH.1 h10;simp only[h1,h3,h5,h7,dZ,h9,jU];have hel:∀ st',Agree ts st st'→dE st' k x=some news:=fun st' hag=>by rw[EI hag hx];exact h11
 unfold O8 at h12
 cases a with
 | nils =>
  simp only at h12;unfold A9 at h12;split at h12
  ·rename_i hem;injection h12 with h12;injection h12 with j1 j2;subst j1;subst j2;refine .here fun st' hag=>?_
   rw[hel st' hag];simp[O8,A9,hem]
  ·rename_i hem;obtain⟨j1,j2⟩:=aP.1 h12;injection j2 with j2;injection j2 with j2 j3;subst j2;subst j3;refine .one (Wr.nb _ _ _) fun st' hag=>?_
   rw[hel st' hag];simp only[dZ,O8];rw[hem];simp only[A9];rw[j1];rfl
 | osl id k' off len =>
  simp only at h12;have hm:=ha id (by simp[dD]);unfold qD at h12;split at h12
  ·rename_i k'' es hes;obtain⟨j1,j2⟩:=aP.1 h12;injection j2 with j2;injection j2 with j2 j3;subst j2;subst j3;refine⟨[(nb,some (.arr k (es.take len++news))),(id,none)],?_,rfl,fun st' hag=>?_⟩
   ·intro p hp;simp at hp
    rcases hp with rfl|rfl
    ·exact Wr.nb _ _ _
    ·exact .inl ⟨rfl,hm⟩
   ·simp only;rw[hel st' hag];simp only[dZ,O8];rw[hag id hm,hes];simp only[qD];rw[j1];rfl
  ·cases h12
 | _=>simp at h12
theorem ZY {ts:List Nat} {st s1:Store} {t:TypeId} {a x v:AV} {nb:Nat} (ha:∀ i∈dD a,i∈ts) (hx:∀ i∈dD x,i∈ts) (h:Q8 C t a x st=some (v,s1)) :
 Loc ts (Wr ts nb false) (fun s=>Q8 C t a x s) st v s1:=by
 unfold Q8 at h ⊢;obtain⟨e,h1,h2⟩:=aH.1 h;obtain⟨k,h3,h4⟩:=aH.1 h2;obtain⟨h9,h10⟩:=aP.1 h4;obtain⟨src,h11,h12⟩:=aH.1 h10;simp only[h1,h3,dZ,h9,jU];have hel:∀ st',Agree ts st st'→dE st' k x=some src:=fun st' hag=>by rw[EI hag hx];exact h11
 unfold EL at h12
 cases a with
 | nils =>
  simp only at h12;injection h12 with h12;injection h12 with j1 j2;subst j1;subst j2;refine .here fun st' hag=>?_
  rw[hel st' hag];simp[EL]
 | osl id k' off len =>
  simp only at h12;have hm:=ha id (by simp[dD]);unfold l5 at h12;split at h12
  ·rename_i k'' es hes;obtain⟨j1,j2⟩:=aP.1 h12;injection j2 with j2;injection j2 with j2 j3;subst j2;subst j3;refine .one (.inl ⟨rfl,hm⟩) fun st' hag=>?_
   rw[hel st' hag];simp only[dZ,EL];rw[hag id hm,hes];simp only[l5];rw[j1];rfl
  ·cases h12
 | _=>simp at h12
theorem JE {ts:List Nat} {st:Store} (hc:Clo ts st):∀ (n:Nat) (todo seen:List Nat),(∀ i∈todo,i∈ts)→(∀ i∈seen,i∈ts)→∀ i∈reach st n todo seen,i∈ts
 | 0,_,_,_,h=>by simpa [reach]using h
 | _+1,[],_,_,h=>by simpa [reach]using h
 | n+1,i::todo,seen,ht,h=>by
  simp only[reach];split
  ·exact JE hc n _ _ (fun j hj=>ht j (by simp[hj])) h
  ·have hi:=ht i (by simp);refine JE hc n _ _ (fun j hj=>?_) (fun j hj=>?_)
   ·rcases zT.1 hj with hj|hj
    ·exact hc i hi j hj
    ·exact ht j (by simp[hj])
   ·rcases zT.1 hj with hj|hj
    ·exact h j hj
    ·simp at hj;subst hj;exact hi
theorem CE {ts:List Nat} {st st':Store} (hc:Clo ts st) (ha:Agree ts st st'):∀ (n:Nat) (todo seen:List Nat),(∀ i∈todo,i∈ts)→reach st' n todo seen=reach st n todo seen
 | 0,_,_,_=>rfl
 | _+1,[],_,_=>rfl
 | n+1,i::todo,seen,ht=>by
  simp only[reach];have hi:=ht i (by simp);rw[ha i hi,CE hc ha n todo seen (fun j hj=>ht j (by simp[hj])),CE hc ha n (gW (st i)++todo) (seen++[i]) (fun j hj=>?_)]
  rcases zT.1 hj with hj|hj
  ·exact hc i hi j hj
  ·exact ht j (by simp[hj])
theorem FY {ts:List Nat} {st st':Store} (r:Nat→Option Nat) (ha:Agree ts st st'):∀ {ids:List Nat},(∀ i∈ids,i∈ts)→jE r st' ids=jE r st ids
 | [],_=>rfl
 | i::ids,h=>by simp only[jE];rw[ha i (h i (by simp)),FY r ha (fun j hj=>h j (by simp[hj]))]
theorem D7 {ts:List Nat} {st st':Store} (ha:Agree ts st st'):∀ {ids:List Nat},(∀ i∈ids,i∈ts)→nT st' ids=nT st ids
 | [],_=>rfl
 | i::ids,h=>by simp only[nT];rw[ha i (h i (by simp)),D7 ha (fun j hj=>h j (by simp[hj]))]
def Y3 (r:Nat→Option Nat) (nb:Nat):List Nat→StL→Upd
 | _,[]=>[]
 | i::ids,b::bs=>(i,FH r b)::Y3 r nb ids bs
 | [],b::bs=>(nb,FH r b)::Y3 r (nb+1) [] bs
theorem jY (r:Nat→Option Nat) (st:Store):∀ (nb:Nat) (ids:List Nat) (stl:StL),iG r st nb ids stl=eB (Y3 r nb ids stl) st
 | _,[],[]=>rfl
 | _,_::_,[]=>rfl
 | nb,i::ids,b::bs=>by simp[iG,Y3,eB,jY r st nb ids bs]
 | nb,[],b::bs=>by simp[iG,Y3,eB,jY r st (nb+1) [] bs]
theorem JF (r:Nat→Option Nat):∀ (nb:Nat) (ids:List Nat) (stl:StL),∀ p∈Y3 r nb ids stl,p.1∈ids∨(nb≤p.1∧p.1<nb+(stl.length-ids.length))
 | _,[],[]=>by simp[Y3]
 | _,_::_,[]=>by simp[Y3]
 | nb,i::ids,b::bs=>by
  intro p hp;simp only[Y3,zQ]at hp
  rcases hp with rfl|hp
  ·simp
  ·rcases JF r nb ids bs p hp with h|h
   ·simp[h]
   ·right;simpa using h
 | nb,[],b::bs=>by
  intro p hp;simp only[Y3,zQ]at hp
  rcases hp with rfl|hp
  ·right;simp
  ·rcases JF r (nb+1) [] bs p hp with h|h
   ·simp at h
   ·right;simp at h ⊢;omega
theorem IP {call:dK} {ts:List Nat} {st s1:Store} {nb:Nat} {own:Bool} {g:FuncId} {args:List AV} {v:AV} (hc:Clo ts st) (hv:∀ i∈aX args,i∈ts) (h:eG call own g args st nb=some (v,s1)) :
 Loc ts (Wr ts nb false) (fun s=>eG call own g args s nb) st v s1:=by
 unfold eG at h ⊢;obtain⟨p,h1,h2⟩:=aH.1 h
 have hfr:KI ts (fun s=>qA s args own) st p.1 p.2∧∀ i∈aX p.1,i∈ts:=by
  cases own with
  | true =>
   simp only[qA,Option.some.injEq]at h1;subst h1;exact⟨⟨.here fun _ _=>rfl,hc⟩,hv⟩
  | false=>exact ET hc hv (show eX st args=some (p.1,p.2)from h1)
 have h2':Loc ts (Wr ts nb false) (fun s=>iN call g p.1 s nb (reach s DY (aX p.1) [])) p.2 v s1:=by
  unfold iN at h2 ⊢;obtain⟨h3,h4⟩:=aP.1 h2;obtain⟨q,h5,h6⟩:=aH.1 h4;unfold qO at h6;obtain⟨h7,h8⟩:=aP.1 h6;injection h8 with h8;injection h8 with h8 h9;subst h8;subst h9;have hin:=JE hfr.1.2 DY (aX p.1) [] hfr.2 (by simp);rw[jY];refine⟨Y3 _ nb _ q.2,fun u hu=>?_,rfl,fun st' hag=>?_⟩
  ·rcases JF _ _ _ _ u hu with k|k
   ·exact .inl ⟨rfl,hin _ k⟩
   ·have:=(zS h7).2;exact .inr ⟨k.1,by omega⟩
  ·simp only;rw[CE hfr.1.2 hag DY _ [] hfr.2,D7 hag hin,FY _ hag hin,h3,h5];simp only[jU,dZ,qO];rw[h7,jY];rfl
 refine(hfr.1.wr nb).seq (F2:=fun us s=>iN call g us s nb (reach s DY (aX us) [])) h2' fun st' s r e1 e2=>?_
 show bnd (qA st' args own) _=_;rw[show qA st' args own=_ from e1];exact e2
end
section
variable {C:Ctx}
theorem jZ {α β:Type} {ts:List Nat} {ex:Nat→Prop} {o:Option α} {f:α→β} {st s1:Store} {v:β} (h:(bnd o fun a=>some (f a,st))=some (v,s1)):Loc ts ex (fun s=>bnd o fun a=>some (f a,s)) st v s1:=by
 obtain⟨a,h1,h2⟩:=aH.1 h;injection h2 with h2;injection h2 with h2 h3;subst h2;subst h3;exact .here fun st' _=>by simp[h1]
theorem XB {env:Nat→AV} {ts:List Nat} {st s1:Store} {nb:Nat} {op:Op} {v:AV} (hg:rE op=none) (hc:(bB env op).2=false→Clo ts st) (hv:∀ i∈(bB env op).1,i∈ts) (h:dU C env st nb op=some (v,s1)) :
 Loc ts (Wr ts nb (bB env op).2) (fun s=>dU C env s nb op) st v s1:=by
 unfold dU at h;split at h
 ·injection h with h;injection h with h1 h2;subst h1;subst h2;exact .here fun _ _=>rfl
 ·injection h with h;injection h with h1 h2;subst h1;subst h2;exact .here fun _ _=>rfl
 ·exact jZ (f:=fun v=>v) h
 ·obtain⟨z,h1,h2⟩:=aH.1 h;injection h2 with h2;injection h2 with h2 h3;subst h2;subst h3;exact .one (Wr.nb _ _ _) fun st' _=>by simp[dU,h1]
 ·obtain⟨z,h1,h2⟩:=aH.1 h;injection h2 with h2;injection h2 with h2 h3;subst h2;subst h3;exact .one (Wr.nb _ _ _) fun st' _=>by simp[dU,h1]
 ·rename_i t parts;obtain⟨g,h1,h2⟩:=aH.1 h;obtain⟨h3,h4⟩:=aP.1 h2;obtain⟨z,h5,h6⟩:=aH.1 h4;obtain⟨ps,h7,h8⟩:=aH.1 h6;obtain⟨cs,h9,h10⟩:=aH.1 h8;injection h10 with h10;injection h10 with h11 h12;subst h11;subst h12;exact .here fun st' _=>by simp[dU,h1,h3,h5,h7,h9]
 ·rename_i t n parts;obtain⟨e,h1,h2⟩:=aH.1 h;obtain⟨ps,h3,h4⟩:=aH.1 h2;unfold nJ at h4;obtain⟨k,h5,h6⟩:=aH.1 h4;obtain⟨z,h7,h8⟩:=aH.1 h6;obtain⟨zi,h9,h10⟩:=aH.1 h8;obtain⟨h11,h12⟩:=aP.1 h10;obtain⟨q,h13,h14⟩:=aH.1 h12;obtain⟨es,h15,h16⟩:=aH.1 h14;injection h16 with h16;injection h16 with h17 h18;subst h17;subst h18;have hl:=wU (hc rfl) (fun p hp i hi=>hv i (by simp only[bB];exact CK h3 p hp i hi)) (show dS st ps=some (q.1,q.2)from h13);refine(hl.wr nb).seq (F2:=fun l s=>bnd (lI k (AGO n zi) l) fun es=>some (AV.osl nb k 0 n,upd s nb (some (.arr k es)))) ?_ fun st' s r e1 e2=>?_
  ·exact .one (Wr.nb _ _ _) fun st' _=>by simp[h15]
  ·simp only[dU,h1,h3,dZ,nJ,h5,h7,h9];rw[h11,jU,show dS st' ps=_ from e1];exact e2
 ·rename_i t a;obtain⟨x,h1,h2⟩:=aH.1 h;injection h2 with h2;injection h2 with h2 h3;subst h2;subst h3;exact .here fun st' hag=>by simp only[dU];rw[YW hag (fun i hi=>hv i hi),h1];rfl
 ·rename_i t a x;obtain⟨s2,h1,h2⟩:=aH.1 h;injection h2 with h2;injection h2 with h2 h3;subst h2;subst h3;exact U1 (hc rfl) (fun i hi=>hv i (by simp[bB,hi])) (fun i hi=>hv i (by simp[bB,hi])) h1
 ·exact jZ (f:=fun v=>v) h
 ·exact jZ (f:=fun v=>AV.i v) h
 ·exact jZ (f:=fun v=>AV.i v) h
 ·exact jZ (f:=fun v=>v) h
 ·rename_i t l c;unfold PH at h;split at h
  ·rename_i l c hl hcc;obtain⟨e,h1,h2⟩:=aH.1 h;obtain⟨k,h3,h4⟩:=aH.1 h2;obtain⟨by_,h5,h6⟩:=aH.1 h4;obtain⟨z,h7,h8⟩:=aH.1 h6;obtain⟨zi,h9,h10⟩:=aH.1 h8;obtain⟨h11,h12⟩:=aP.1 h10;injection h12 with h12;injection h12 with h13 h14;subst h13;subst h14;refine .one (Wr.nb _ _ _) fun st' _=>?_
   simp only[dU];rw[hl,hcc];simp only[PH,h1,h3,h5,h7,h9,dZ];rw[h11,jU]
  ·cases h
 ·exact jZ (f:=fun v=>v) h
 ·rename_i s x f;obtain⟨p,h1,h2⟩:=aH.1 h;obtain⟨n,h3,h4⟩:=aH.1 h2;obtain⟨h5,h6⟩:=aP.1 h4;obtain⟨r,h7,h8⟩:=aH.1 h6;injection h8 with h8;injection h8 with h8 h9;subst h8;subst h9;exact .here fun st' _=>by simp only[dU,h1,h3,dZ];rw[h5,jU,h7];rfl
 ·rename_i s x f;obtain⟨p,h1,h2⟩:=aH.1 h;obtain⟨n,h3,h4⟩:=aH.1 h2;obtain⟨g,h5,h6⟩:=aH.1 h4;obtain⟨r,h7,h8⟩:=aH.1 h6;injection h8 with h8;injection h8 with h8 h9;subst h8;subst h9;exact .here fun st' _=>by simp only[dU,h1,h3,h5,h7,dZ]
 ·exact jZ (f:=fun v=>v) h
 ·exact jZ (f:=fun v=>v) h
 ·exact jZ (f:=fun v=>v) h
 ·obtain⟨h1,h2⟩:=aP.1 h;obtain⟨u,h4,h2⟩:=aH.1 h2;injection h2 with h2;injection h2 with h2 h3;subst h2;subst h3;exact .here fun st' _=>by simp only[dU];rw[h1,jU,h4,dZ]
 ·rename_i b args ts';unfold fZ at h;split at h
  ·rename_i t x e1 e2;obtain⟨n,h1,h2⟩:=aH.1 h;injection h2 with h2;injection h2 with h2 h3;subst h2;subst h3;exact .here fun st' _=>by simp only[dU];rw[e1,e2];simp[fZ,h1]
  ·rename_i t u s x e1 e2;obtain⟨h1,h2⟩:=aP.1 h;have hv':∀ i∈aX [s,x],i∈ts:=fun i hi=>hv i (show i∈aX (evL env args.toList)by rw[e2];exact hi)
   have hl:=AE4 (fun i hi=>hv' i (by simp[aX,hi])) (fun i hi=>hv' i (by simp[aX,hi])) h2;obtain⟨U,k1,k2,k3⟩:=hl;refine⟨U,k1,k2,fun st' hag=>?_⟩;simp only[dU];rw[e1,e2];simp only[fZ];rw[h1,jU];exact k3 st' hag
  ·rename_i t u d x e1 e2;have hv':∀ i∈aX [d,x],i∈ts:=fun i hi=>hv i (show i∈aX (evL env args.toList)by rw[e2];exact hi)
   obtain⟨U,k1,k2,k3⟩:=ZY (nb:=nb) (fun i hi=>hv' i (by simp[aX,hi])) (fun i hi=>hv' i (by simp[aX,hi])) h;refine⟨U,k1,k2,fun st' hag=>?_⟩;simp only[dU];rw[e1,e2];exact k3 st' hag
  ·obtain⟨n,h1,h2⟩:=aH.1 h;injection h2 with h2;injection h2 with h2 h3;subst h2;subst h3;exact .here fun st' _=>by simp only[dU];simp[fZ,h1]
  ·obtain⟨n,h1,h2⟩:=aH.1 h;injection h2 with h2;injection h2 with h2 h3;subst h2;subst h3;exact .here fun st' _=>by simp only[dU];simp[fZ,h1]
  ·cases h
 ·cases h
theorem U2 {call:dK} {env:Nat→AV} {ts:List Nat} {st s1:Store} {nb:Nat} {op:Op} {v:AV} (hc:(bB env op).2=false→Clo ts st) (hv:∀ i∈(bB env op).1,i∈ts) (h:bS C call op env st nb=some (v,s1)) :
 Loc ts (Wr ts nb (bB env op).2) (fun s=>bS C call op env s nb) st v s1:=by
 unfold bS at h ⊢
 cases hg:rE op with
 | none =>
  rw[hg]at h;exact XB hg hc hv h
 | some q =>
  rw[hg]at h;obtain⟨args,ts',hop,hargs⟩:=DX hg;simp only[stepW]at h ⊢;have htouch:bB env op=(dD (ev env q.1)++aX (evL env q.2),false):=by rw[hop,← hargs];rfl
  rw[htouch]at hv hc ⊢;replace hc:=hc rfl;unfold F9 at h ⊢;split at h
  ·rename_i g caps hfe;rw[hfe]at hv ⊢;split at h
   ·cases h
   rename_i hgy;simp only[hgy,if_false];refine IP hc (fun i hi=>hv i ?_) h
   have:∀ (a b:List AV),aX (a++b)=aX a++aX b:=by
    intro a b
    induction a with
    | nil=>rfl
    | cons c a ih=>simp[aX,ih]
   rw[this]at hi;simp only[dD,zT]at hi ⊢;exact hi.symm
  ·rename_i id hfe;rw[hfe]at hv ⊢;refine IP hc (fun i hi=>hv i ?_) h;simpa [dD,aX]using hi
  ·cases h
theorem kY {env env':Nat→AV}:∀ {l:List Operand},(∀ x∈l,ev env' x=ev env x)→evL env' l=evL env l
 | [],_=>rfl
 | x::l,h=>by simp only[evL];rw[h x (by simp),kY fun y hy=>h y (by simp[hy])]
theorem nQ {env env':Nat→AV}:∀ {l:List (Nat×Operand)},(∀ x∈eP l,ev env' x=ev env x)→partsOf env' l=partsOf env l
 | [],_=>rfl
 | p::l,h=>by simp only[partsOf];rw[h p.2 (by simp[eP]),nQ fun y hy=>h y (by simp[eP,hy])]
theorem NG {env env':Nat→AV} {o:Option Operand} (h:∀ x∈o.toList,ev env' x=ev env x):evO env' o=evO env o:=by
 cases o with
 | none=>rfl
 | some x=>simp only[evO];rw[h x (by simp)]
theorem OP {env env':Nat→AV} {st:Store} {nb:Nat} {op:Op} (h:∀ x∈opsOf op,ev env' x=ev env x):dU C env' st nb op=dU C env st nb op:=by
 cases op with
 | slice t x lo hi mx =>
  have hx:=h x (by simp[opsOf]);have hlo:=NG (env:=env) (env':=env') (o:=lo) fun y hy=>h y (by simp[opsOf]at hy ⊢;simp[hy])
  have hhi:=NG (env:=env) (env':=env') (o:=hi) fun y hy=>h y (by simp[opsOf]at hy ⊢;simp[hy])
  cases mx with
  | none=>simp only[dU];rw[hx,hlo,hhi]
  | some m=>rfl
 | call c =>
  obtain⟨callee,args,ts⟩:=c
  cases callee with
  | builtin b =>
   simp only[dU];rw[kY (l:=args.toList) fun y hy=>h y (show y∈args.toList from hy)]
  | value f=>rfl
  | invoke f m=>rfl
 | build t parts=>simp only[dU];rw[nQ (l:=parts.toList) fun y hy=>h y hy]
 | buildSlice t n parts=>simp only[dU];rw[nQ (l:=parts.toList) fun y hy=>h y hy]
 | makeFunc f first cs=>simp only[dU];rw[kY (l:=cs.toList) fun y hy=>h y hy]
 | move x=>simp only[dU];rw[h x (by simp[opsOf])]
 | assign x=>simp only[dU];rw[h x (by simp[opsOf])]
 | pick c a b=>simp only[dU];rw[h c (by simp[opsOf]),h a (by simp[opsOf]),h b (by simp[opsOf])]
 | box t x=>simp only[dU];rw[h x (by simp[opsOf])]
 | load t x=>simp only[dU];rw[h x (by simp[opsOf])]
 | store t a x=>simp only[dU];rw[h a (by simp[opsOf]),h x (by simp[opsOf])]
 | nilCheck x=>simp only[dU];rw[h x (by simp[opsOf])]
 | binOp op t x y ty=>simp only[dU];rw[h x (by simp[opsOf]),h y (by simp[opsOf])]
 | unOp op ty x=>simp only[dU];rw[h x (by simp[opsOf])]
 | convert s d x=>simp only[dU];rw[h x (by simp[opsOf])]
 | makeSlice t l c=>simp only[dU];rw[h l (by simp[opsOf]),h c (by simp[opsOf])]
 | fieldAddr s x f=>simp only[dU];rw[h x (by simp[opsOf])]
 | field s x f=>simp only[dU];rw[h x (by simp[opsOf])]
 | indexAddr t x i=>simp only[dU];rw[h x (by simp[opsOf]),h i (by simp[opsOf])]
 | index t x i=>simp only[dU];rw[h x (by simp[opsOf]),h i (by simp[opsOf])]
 | extract x j=>simp only[dU];rw[h x (by simp[opsOf])]
 | _=>rfl
theorem LU {call:dK} {env env':Nat→AV} {st:Store} {nb:Nat} {op:Op} (h:∀ x∈opsOf op,ev env' x=ev env x):bS C call op env' st nb=bS C call op env st nb:=by
 unfold bS
 cases hg:rE op with
 | none=>exact OP h
 | some q =>
  obtain⟨args,ts',hop,hargs⟩:=DX hg;rw[hop]at h;simp only[stepW];rw[h q.1 (show q.1∈q.1::args.toList by simp),kY (l:=q.2) fun y hy=>h y (show y∈q.1::args.toList by rw[hargs];simp[hy])]
theorem LG {env env':Nat→AV} {op:Op} (h:∀ x∈opsOf op,ev env' x=ev env x):bB env' op=bB env op:=by
 cases op with
 | call c =>
  obtain⟨callee,args,ts⟩:=c
  cases callee with
  | builtin b =>
   have:=kY (l:=args.toList) (env:=env) (env':=env') fun y hy=>h y (show y∈args.toList from hy)
   cases b<;>first|rfl|(simp only[bB];rw[this])
  | value f =>
   simp only[bB];rw[h f (show f∈f::args.toList by simp),kY (l:=args.toList) fun y hy=>h y (show y∈f::args.toList by simp[hy])]
  | invoke f m=>rfl
 | buildSlice t n parts=>simp only[bB];rw[kY (l:=eP parts.toList) fun y hy=>h y hy]
 | load t x=>simp only[bB];rw[h x (by simp[opsOf])]
 | store t a x=>simp only[bB];rw[h a (by simp[opsOf]),h x (by simp[opsOf])]
 | _=>rfl
end
section
variable {C:Ctx} {call:dK} {ops:Array Oper} {base:Nat}
abbrev St2:=(Nat→AV)×Store
abbrev Ft:=List Nat×Bool
def AYW (all:List Oper) (t:Ft) (o:Oper) (S:St2):Prop :=
 tH all S.1 o.guard=some true→(∀ x∈(bB S.1 o.op).1,x∈t.1)∧((bB S.1 o.op).2=false→Clo t.1 S.2)∧(t.2=true→(bB S.1 o.op).2=true)
def Step (C:Ctx) (call:dK) (all:List Oper) (base:Nat) (t:Ft) (i:Nat) (o:Oper) (S S':St2):Prop:=aOp C call all base i o S=some S'∧AYW all t o S
theorem FZ {t:Ft} {i:Nat} {o:Oper} {S S':St2} (h:Step C call ops.toList base t i o S S') :
 ∃ v U,S'=(sS S.1 o.dst v,eB U S.2)∧(∀ p∈U,Wr t.1 (base+wide*i) t.2 p.1) ∧
   ∀ env' st',(∀ x∈opsOf o.op,ev env' x=ev S.1 x)→tH ops.toList env' o.guard=tH ops.toList S.1 o.guard→Agree t.1 S.2 st' →
     Step C call ops.toList base t i o (env',st') (sS env' o.dst v,eB U st'):=by
 obtain⟨h1,h2⟩:=h;unfold aOp at h1;obtain⟨b,h3,h4⟩:=aH.1 h1
 cases b with
 | false =>
  simp only[yZ,if_false,Option.some.injEq]at h4;refine⟨_,[],h4.symm,by simp,fun env' st' hx hw _=>⟨?_,fun hh=>?_⟩⟩
  ·unfold aOp;simp only;rw[hw,h3];simp[eB]
  ·simp only at hh;rw[hw,h3]at hh;simp at hh
 | true =>
  simp only[if_true]at h4;obtain⟨p,h5,h6⟩:=aH.1 h4;injection h6 with h6;obtain⟨k1,k2,k3⟩:=h2 h3;obtain⟨U,j1,j2,j3⟩:=U2 k2 k1 (show bS C call o.op S.1 S.2 _=some (p.1,p.2)from h5);refine⟨p.1,U,by rw[← h6,j2],fun q hq=>?_,fun env' st' hx hw hag=>⟨?_,fun _=>?_⟩⟩
  ·rcases j1 q hq with ⟨e1,e2⟩|e
   ·refine .inl ⟨?_,e2⟩
    cases ht:t.2 with
    | false=>rfl
    | true=>rw[k3 ht]at e1;cases e1
   ·exact .inr e
  ·unfold aOp;simp only;rw[hw,h3,dZ,if_pos rfl,LU hx,show bS C call o.op S.1 st' (base+wide*i)=_ from j3 st' hag];rfl
  ·simp only;rw[LG hx];exact⟨k1,fun e=>(k2 e).agree hag,k3⟩
def TL (base:Nat) (t u:Ft) (i j:Nat):Prop :=
 ((∀ x∈t.1,x ∉ u.1)∨(t.2=true∧u.2=true))∧(∀ x∈u.1,¬ (base+wide*i≤x∧x<base+wide*i+wide))∧(∀ x∈t.1,¬ (base+wide*j≤x∧x<base+wide*j+wide))
theorem ALW {env:Nat→AV} {dst:Option Tmp} {v:AV} {x:Operand} (h:∀ d,dst=some d→x≠.tmp d):ev (sS env dst v) x=ev env x:=by
 cases dst with
 | none=>rfl
 | some d =>
  cases x with
  | tmp t =>
   have hne:t≠d:=fun e=>h d rfl (by rw[e])
   simp[ev,sS,upd,hne]
  | _=>rfl
theorem FJ {op:Op} {x:Operand} (h:x∈opsOf op):x∈op.operands:=by
 cases op with
 | call c =>
  obtain⟨callee,args,ts⟩:=c
  cases callee with
  | builtin b=>have h:x∈args.toList:=h;simpa [Op.operands,Call.operands]using h
  | value f=>have h:x∈f::args.toList:=h;simpa [Op.operands,Call.operands]using h
  | invoke f m=>have h:x∈args.toList:=h;simp only[Op.operands,Call.operands];simp at h ⊢;exact .inr h
 | build t parts =>
  have:∀ l:List (Nat×Operand),eP l=l.map (·.2):=fun l=>by induction l<;>simp_all [eP]
  simp only[opsOf,this]at h;simpa [Op.operands]using h
 | buildSlice t n parts =>
  have:∀ l:List (Nat×Operand),eP l=l.map (·.2):=fun l=>by induction l<;>simp_all [eP]
  simp only[opsOf,this]at h;simpa [Op.operands]using h
 | slice t x lo hi mx =>
  simp only[opsOf,zQ,zT,Option.mem_toList]at h;simp only[Op.operands];simp
  rcases h with h|h|h
  ·exact .inl h
  ·exact .inr (.inl h)
  ·exact .inr (.inr (.inl h))
 | makeFunc f first cs =>
  have h:x∈cs.toList:=h;simp only[Op.operands];simp at h ⊢;exact .inr h
 | _=>first|(simp[opsOf]at h;done)|(simpa [opsOf,Op.operands]using h)
theorem SE {o:Oper} {env:Nat→AV} {dst:Option Tmp} {v:AV} (h:∀ d,dst=some d→d ∉ o.looksAt ops):∀ x∈opsOf o.op,ev (sS env dst v) x=ev env x:=by
 intro x hx;refine ALW fun d hd e=>h d hd ?_
 subst e;exact yJ _ (List.mem_filterMap.2 ⟨.tmp d,by simpa using FJ hx,rfl⟩)
theorem FQ {o:Oper} {env:Nat→AV} {dst:Option Tmp} {v:AV} (h:∀ d,dst=some d→d ∉ o.looksAt ops):tH ops.toList (sS env dst v) o.guard=tH ops.toList env o.guard:=by
 cases hg:o.guard with
 | none=>rfl
 | some p =>
  obtain⟨g,want⟩:=p;simp only[tH];have hl:ops.toList[g]?=ops[g]?:=by simp
  rw[hl]
  cases hd:(ops[g]?).bind (·.dst)with
  | none=>rfl
  | some t =>
   simp only[L8]
   cases dst with
   | none=>rfl
   | some d =>
    have hne:t≠d:=fun e=>h d rfl (by subst e;simp[Oper.looksAt,hg,hd])
    simp[sS,upd,hne]
theorem Y4 {env:Nat→AV} {x y:Option Tmp} {v u:AV} (h:∀ d,x=some d→y≠some d):sS (sS env x v) y u=sS (sS env y u) x v:=by
 cases x with
 | none=>rfl
 | some d =>
  cases y with
  | none=>rfl
  | some e =>
   have hne:d≠e:=fun q=>h d rfl (by rw[q])
   funext i;simp only[sS,upd];by_cases h1:i=e
   ·subst h1;simp[Ne.symm hne]
   ·simp[h1]
theorem XA {t u:Ft} {i j:Nat} {oi oj:Oper} {S Si Sij:St2} (hne:i≠j) (hap:oi.apart ops oj=true) (ht:TL base t u i j)
 (h1:Step C call ops.toList base t i oi S Si) (h2:Step C call ops.toList base u j oj Si Sij):∃ Sj,Step C call ops.toList base u j oj S Sj∧Step C call ops.toList base t i oi Sj Sij:=by
 obtain⟨a1,a2,a3⟩:=Oper.apart_spec hap;obtain⟨v,U,rfl,hU,hi⟩:=FZ h1;obtain⟨y,V,rfl,hV,hj⟩:=FZ h2;obtain⟨d1,d2,d3⟩:=ht
 have n1:∀ p∈U,p.1 ∉ u.1:=fun p hp hm=>by
  rcases hU p hp with ⟨e1,e2⟩|e
  ·rcases d1 with d1|⟨d1,_⟩
   ·exact d1 _ e2 hm
   ·rw[d1]at e1;cases e1
  ·exact d2 _ hm e
 have n2:∀ p∈V,p.1 ∉ t.1:=fun p hp hm=>by
  rcases hV p hp with ⟨e1,e2⟩|e
  ·rcases d1 with d1|⟨_,d1⟩
   ·exact d1 _ hm e2
   ·rw[d1]at e1;cases e1
  ·exact d3 _ hm e
 have n3:∀ p∈U,∀ q∈V,p.1≠q.1:=fun p hp q hq e=>by
  rcases hV q hq with ⟨_,e2⟩|e2
  ·exact n1 p hp (e ▸ e2)
  ·rcases hU p hp with ⟨_,e3⟩|e3
   ·exact n2 q hq (e ▸ e3)
   ·rw[e]at e3;apply hne;unfold wide at e2 e3;omega
 have s1:=hj S.1 S.2 (fun x hx=>(SE a1 x hx).symm) (FQ a1).symm (fun x hx=>(fM fun p hp e=>n1 p hp (e ▸ hx)).symm);refine⟨_,s1,?_⟩;have s2:=hi (sS S.1 oj.dst y) (eB V S.2) (SE a3) (FQ a3) (fun x hx=>fM fun p hp e=>n2 p hp (e ▸ hx));rw[Y4 (x:=oi.dst) (y:=oj.dst) a2,← QI n3];exact s2
def AMN (C:Ctx) (call:dK) (ops:Array Oper) (base:Nat) (T:Nat→Ft) (Q:St2→Prop):Nat→Array Bool→St2→Prop
 | 0,listed,S=>Region.ready .any ops listed=[]∧Q S
 | fuel+1,listed,S=>(Region.ready .any ops listed=[]→Q S) ∧
  ∀ i∈Region.ready .any ops listed,∃ o S',ops[i]?=some o∧Step C call ops.toList base (T i) i o S S'∧AMN C call ops base T Q fuel (listed.setIfInBounds i true) S'
def DC (ops:Array Oper) (listed:Array Bool):Prop:=∀ k ok,ops[k]?=some ok→listed.getD k false=true→∀ e∈ok.after,Region.binds .any e=true→listed.getD e.on false=true
theorem DC.step {listed:Array Bool} (h:DC ops listed) {j:Nat} {oj:Oper} (hj:ops[j]?=some oj) (hp:∀ e∈oj.after,Region.binds .any e=true→listed.getD e.on false=true):DC ops (listed.setIfInBounds j true):=by
 intro k ok hk hl e he hb;have up:∀ m,listed.getD m false=true→(listed.setIfInBounds j true).getD m false=true:=fun m hm=>getD_set_true hm
 by_cases hjk:j=k
 ·subst hjk;rw[hj]at hk;injection hk with hk;subst hk
  exact up _ (hp e he hb)
 ·rw[getD_set_ne false hjk]at hl;exact up _ (h k ok hk hl e he hb)
theorem FT {after:List Edge} {i:Nat} (h:tJ after i=true):∃ e∈after,Region.binds .any e=true∧e.on=i:=by
 unfold tJ at h;rw[List.any_eq_true]at h;obtain⟨e,he,hh⟩:=h;simp only[zU,beq_iff_eq]at hh;exact⟨e,he,hh.1,hh.2⟩
theorem nD {listed:Array Bool} (hd:DC ops listed) {i:Nat}:∀ (n:Nat) (after:List Edge),(∀ e∈after,Region.binds .any e=true→listed.getD e.on false=true)→eY ops.toList n after i=true→listed.getD i false=true
 | 0,after,hp,h=>by
  obtain⟨e,he,hb,rfl⟩:=FT h;exact hp e he hb
 | n+1,after,hp,h=>by
  simp only[eY]at h;split at h
  ·rename_i h1;obtain⟨e,he,hb,rfl⟩:=FT h1;exact hp e he hb
  ·rw[List.any_eq_true]at h;obtain⟨e,he,hh⟩:=h;simp only[zU]at hh;refine nD hd n _ ?_ hh.2;intro d hd' hb;unfold qP at hd';split at hd'
   ·rename_i o ho;exact hd e.on o (by simpa using ho) (hp e he hh.1) d (by simpa using hd') hb
   ·cases hd'
theorem WA {T:Nat→Ft} {Q:St2→Prop} {i:Nat} {oi:Oper} (hi:ops[i]?=some oi) :
 ∀ (fuel:Nat) (listed:Array Bool) (S S':St2),DC ops listed →
   (∀ j oj,ops[j]?=some oj→j≠i→listed.getD j true=false→(∀ e∈oj.after,Region.binds .any e=true→e.on≠i)→oi.apart ops oj=true∧(eY ops.toList 3 oj.after.toList i=false→eY ops.toList 3 oi.after.toList j=false→TL base (T i) (T j) i j)) →
   i∈Region.ready .any ops listed→Step C call ops.toList base (T i) i oi S S' →
   AMN C call ops base T Q fuel (listed.setIfInBounds i true) S'→AMN C call ops base T Q (fuel+1) listed S:=by
 intro fuel
 induction fuel with
 | zero =>
  intro listed S S' _ _ hr hs H;refine⟨fun h=>(by rw[h]at hr;cases hr),fun j hj=>?_⟩;by_cases hji:j=i
  ·subst hji;exact⟨oi,S',hi,hs,H⟩
  ·have:=ready_mono hj hji;rw[H.1]at this
   cases this
 | succ fuel ih =>
  intro listed S S' hdc hfree hr hs H;refine⟨fun h=>(by rw[h]at hr;cases hr),fun j hj=>?_⟩;by_cases hji:j=i
  ·subst hji;exact⟨oi,S',hi,hs,H⟩
  ·obtain⟨oj,Sij,hoj,hsj,Hj⟩:=H.2 j (ready_mono hj hji);obtain⟨hjun,oj',hoj',hall⟩:=mem_ready.1 hj;rw[hoj]at hoj';injection hoj' with hoj';subst hoj'
   have notw:∀ {x y:Nat} {l:Array Bool},l.getD y true=false→l.getD y false=true→False:=fun {x y l} h0 h1=>by
    rcases zA6 y l.size with h'|h'
    ·simp[h']at h0 h1;rw[h0]at h1;cases h1
    ·simp[zA3 h']at h1
   have hnot:∀ e∈oj.after,Region.binds .any e=true→e.on≠i:=fun e he hb heq=>by
    have h1:=hall e he hb;have h0:=(mem_ready.1 hr).1;rw[heq]at h1;exact notw (x:=0) h0 h1
   obtain⟨hiun,oi',hoi',halli⟩:=mem_ready.1 hr;rw[hi]at hoi';injection hoi' with hoi';subst hoi'
   have hw1:eY ops.toList 3 oj.after.toList i=false:=by
    cases hq:eY ops.toList 3 oj.after.toList i with
    | false=>rfl
    | true=>exact(notw (x:=0) hiun (nD hdc 3 _ (fun e he hb=>hall e (by simpa using he) hb) hq)).elim
   have hw2:eY ops.toList 3 oi.after.toList j=false:=by
    cases hq:eY ops.toList 3 oi.after.toList j with
    | false=>rfl
    | true=>exact(notw (x:=0) hjun (nD hdc 3 _ (fun e he hb=>halli e (by simpa using he) hb) hq)).elim
   obtain⟨hap,hta⟩:=hfree j oj hoj hji hjun hnot;obtain⟨Sj,k1,k2⟩:=XA (Ne.symm hji) hap (hta hw1 hw2) hs hsj;refine⟨oj,Sj,hoj,k1,ih (listed.setIfInBounds j true) Sj Sij (hdc.step hoj fun e he hb=>hall e he hb) ?_ (ready_mono hr (Ne.symm hji)) k2 (by rw[Array.setIfInBounds_comm _ _ hji];exact Hj)⟩;intro k ok hk hki hun hno;refine hfree k ok hk hki ?_ hno;by_cases hjk:j=k
   ·subst hjk;exact hjun
   ·rw[getD_set_ne true hjk]at hun;exact hun
def AMS (C:Ctx) (call:dK) (all:List Oper) (base:Nat):List Oper→List Ft→Nat→St2→St2→Prop
 | [],_,_,S,S'=>S=S'
 | o::os,t::ts,i,S,S'=>∃ S1,Step C call all base t i o S S1∧AMS C call all base os ts (i+1) S1 S'
 | _::_,[],_,_,_=>False
theorem TI {T:Nat→Ft} {Q:St2→Prop} (hT:∀ i j oi oj,ops[i]?=some oi→ops[j]?=some oj→i≠j→eY ops.toList 3 oj.after.toList i=false→eY ops.toList 3 oi.after.toList j=false→TL base (T i) (T j) i j) :
 ∀ (l:List Oper) (ts:List Ft) (k:Nat) (listed:Array Bool) (S S':St2),DC ops listed→(∀ j,l[j]?=ops[k+j]?)→(∀ j t,ts[j]?=some t→T (k+j)=t) →
   Region.lexFrom .any ops l.length k listed=true→AMS C call ops.toList base l ts k S S'→Q S'→AMN C call ops base T Q l.length listed S
 | [],_,_,_,S,S',_,_,_,hB,h,hQ=>by
  simp only[AMS]at h;subst h;exact⟨by simpa [Region.lexFrom]using hB,hQ⟩
 | o::l,[],_,_,_,_,_,_,_,_,h,_=>by simp[AMS]at h
 | o::l,t::ts,k,listed,S,S',hdc,hl,ht,hB,h,hQ=>by
  have h0:ops[k]?=some o:=by simpa using (hl 0).symm
  simp only[zO,Region.lexFrom,zU]at hB;obtain⟨⟨hr,hf⟩,hB'⟩:=hB;obtain⟨S1,h1,h2⟩:=h;have htk:T k=t:=by simpa using ht 0 t rfl
  rw[← htk]at h1;have hrk:k∈Region.ready .any ops listed:=by simpa using hr
  refine WA h0 l.length listed S S1 hdc (fun j oj hj hne hun hno=>⟨Region.free_spec h0 hf j oj hj hne hun hno,fun hn1 hn2=>hT k j o oj h0 hj (Ne.symm hne) hn1 hn2⟩) hrk h1 ?_;obtain⟨_,o',ho',hall⟩:=mem_ready.1 hrk;rw[h0]at ho';injection ho' with ho';subst ho'
  exact TI hT l ts (k+1) _ S1 S' (hdc.step h0 fun e he hb=>hall e he hb) (fun j=>by have:=hl (j+1);simpa [yN,Nat.add_comm 1 j]using this)
   (fun j u hu=>by have:=ht (j+1) u (by simpa using hu);simpa [yN,Nat.add_comm 1 j]using this) hB' h2 hQ
theorem W9 (hC:CtxOk C) (hcall:CallOk C call) {T:Nat→Ft} {QA:St2→Prop} {Q:Exit→Act→World→Prop} {nt:Nat} {ds:List Deferred} {ρ:Option Nat} {w0:World} {m0:Mem} {φ0:Pl} (hs:∀ o∈ops,jH nt o=true)
 (hQ:∀ S a w,QA S→ARel ds w0 m0 φ0 nt (fun _=>True) S.1 S.2 a w→Q .normal a w) :
 ∀ (fuel:Nat) (listed:Array Bool) (S:St2) (a:Act) (w:World),AMN C call ops base T QA fuel listed S→ARel ds w0 m0 φ0 nt (F6 base fun j=>listed.getD j false=true) S.1 S.2 a w→wpAnyIn (FR ρ) 0 C.P .any ops Q fuel listed a w:=by
 have drop:∀ {ok:Nat→Prop} {S:St2} {a:Act} {w:World},ARel ds w0 m0 φ0 nt ok S.1 S.2 a w→ARel ds w0 m0 φ0 nt (fun _=>True) S.1 S.2 a w:=by
  rintro ok S a w ⟨⟨m,φ,k1,k2,k3,k4,k7⟩,k5,k6⟩;exact⟨⟨m,φ,k1,k2,k3,fun _ _=>trivial,k7⟩,k5,k6⟩
 intro fuel
 induction fuel with
 | zero=>intro listed S a w h hr;exact⟨h.1,hQ S a w h.2 (drop hr)⟩
 | succ fuel ih =>
  intro listed S a w h hr;refine⟨fun h0=>hQ S a w (h.1 h0) (drop hr),fun i hi=>?_⟩;obtain⟨o,S',ho,⟨hstep,_⟩,hnext⟩:=h.2 i hi;have hun:=(mem_ready.1 hi).1
  have hlt:i<listed.size:=by
   rcases zA6 i listed.size with h'|h'
   ·exact h'
   ·simp[zA3 h']at hun
  have hdn:¬ (listed.getD i false=true):=by
   intro h1;simp[hlt]at hun h1;rw[hun]at h1;cases h1
  refine mJ hC hcall (dn:=fun j=>listed.getD j false=true) (base:=base) ho (hs o (Array.mem_of_getElem? ho)) hdn hstep hr fun a' w' hr'=>ih _ S' a' w' hnext ?_
  obtain⟨⟨m,φ,k1,k2,k3,k4,k7⟩,k5,k6⟩:=hr';refine⟨⟨m,φ,k1,k2,k3,fun id hne=>mO (fun j hj=>?_) (k4 id hne),k7⟩,k5,k6⟩
  rcases hj with hj|rfl
  ·exact getD_set_true hj
  ·simp[hlt]
def Chk (all:List Oper) (e:Nat×List Nat×Bool) (t:Ft) (o:Oper):Prop:=wN t.1 e.2.1=true∨(t.2=true∧e.2.2=true)∨eY all 3 o.after.toList e.1=true
def AMR (base:Nat) (all os:List Oper) (ts:List Ft) (i:Nat) (log:List (Nat×List Nat×Bool)):Prop :=
 ∀ j o t,os[j]?=some o→ts[j]?=some t→PG base all o.after.toList t.1=true∧(∀ e∈log,Chk all e t o)∧∀ k t',k<j→ts[k]?=some t'→t'.1≠[]→Chk all (i+k,t') t o
theorem rQ:∀ {xs ys:List Nat},wN xs ys=true→∀ x∈xs,x ∉ ys
 | [],_,_=>by simp
 | x::xs,ys,h=>by
  simp only[wN,zU,Bool.not_eq_true']at h;intro y hy hm
  rcases zQ.1 hy with rfl|hy
  ·rw[DV.2 hm]at h;cases h.1
  ·exact rQ h.2 y hy hm
theorem vW:∀ {xs ys:List Nat},allIn xs ys=true→∀ x∈xs,x∈ys
 | [],_,_=>by simp
 | x::xs,ys,h=>by
  simp only[allIn,zU]at h;intro y hy
  rcases zQ.1 hy with rfl|hy
  ·exact DV.1 h.1
  ·exact vW h.2 y hy
theorem GQ {all:List Oper} {after:List Edge} {ns:List Nat} {ro:Bool}:∀ {log:List (Nat×List Nat×Bool)},UU all after ns ro log=true→∀ e∈log,wN ns e.2.1=true∨(ro=true∧e.2.2=true)∨eY all 3 after e.1=true
 | [],_=>by simp
 | e::log,h=>by
  simp only[UU,zU,zA7]at h;intro d hd
  rcases zQ.1 hd with rfl|hd
  ·have h1:=h.1;split at h1
   ·rename_i hc
    rcases hc with hc|hc
    ·exact .inl hc
    ·exact .inr (.inl hc)
   ·exact .inr (.inr h1)
  ·exact GQ h.2 d hd
theorem DT (st:Store):∀ {l:List Nat} {i j:Nat},i∈l→j∈gW (st i)→j∈nW st l
 | [],_,_,h,_=>by cases h
 | a::l,i,j,h,k=>by
  simp only[nW,zT]
  rcases zQ.1 h with rfl|h
  ·exact .inl k
  ·exact .inr (DT st h k)
theorem vI:∀ (os:List Oper) (i:Nat) (R R':RS),cZ C call ops.toList true base os i R=some R' →
 ∃ ts,ts.length=os.length∧AMS C call ops.toList base os ts i (R.env,R.st) (R'.env,R'.st)∧AMR base ops.toList os ts i R.log
 | [],i,R,R',h=>by
  simp only[cZ,Option.some.injEq]at h;subst h;exact⟨[],rfl,rfl,by intro j o t h;simp at h⟩
 | o::os,i,R,R',h=>by
  simp only[cZ]at h;obtain⟨b,h1,h2⟩:=aH.1 h
  cases b with
  | true =>
   simp only[if_true]at h2;obtain⟨h3,h4⟩:=aP.1 h2;obtain⟨p,h5,h6⟩:=aH.1 h4;obtain⟨ts,k0,k1,k2⟩:=vI os (i+1) _ R' h6;simp only[AQH,if_true,AM7,zU]at h3;obtain⟨c1,c2,c3,c4⟩:=h3
   let t:Ft:=((wE R.st (bB R.env o.op)).1,(bB R.env o.op).2)
   refine⟨t::ts,by simp[k0],⟨_,⟨?_,fun _=>⟨fun x hx=>vW c1 x hx,fun e x hx y hy=>vW (by rw[e]at c2;exact c2) y (DT _ hx hy),fun h=>h⟩⟩,k1⟩,?_⟩
   ·unfold aOp;exact aH.2 ⟨true,h1,by simp only[if_true];exact aH.2 ⟨p,h5,rfl⟩⟩
   ·intro j o' t' ho ht
    cases j with
    | zero =>
     simp at ho ht;subst ho;subst ht;exact⟨c3,fun e he=>GQ c4 e he,fun k _ hk=>by omega⟩
    | succ j =>
     obtain⟨q1,q2,q3⟩:=k2 j o' t' (by simpa using ho) (by simpa using ht)
     have hmem:∀ e∈R.log,e∈MK true o i R:=by
      intro e he;simp only[MK,if_true];unfold EY;split
      ·exact he
      ·exact List.mem_cons_of_mem _ he
     refine⟨q1,fun e he=>q2 e (hmem e he),fun k u hk hu hne=>?_⟩
     cases k with
     | zero =>
      simp at hu;subst hu
      have:(i,t)∈MK true o i R:=by
       simp only[MK,if_true];unfold EY;split
       ·rename_i hq;exact absurd hq hne
       ·rename_i hq;rw[← hq];exact List.mem_cons_self
      exact q2 _ this
     | succ k =>
      have:=q3 k u (by omega) (by simpa using hu) hne
      rwa [show i+1+k=i+(k+1)by omega]at this
  | false =>
   simp only[yZ,if_false]at h2;obtain⟨ts,k0,k1,k2⟩:=vI os (i+1) _ R' h2;refine⟨([],true)::ts,by simp[k0],⟨_,⟨?_,fun hh=>?_⟩,k1⟩,?_⟩
   ·unfold aOp;exact aH.2 ⟨false,h1,by simp⟩
   ·rw[show tH ops.toList R.env o.guard=some false from h1]at hh;simp at hh
   ·intro j o' t' ho ht
    cases j with
    | zero =>
     simp at ho ht;subst ho;subst ht;exact⟨rfl,fun e _=>.inl rfl,fun k _ hk=>by omega⟩
    | succ j =>
     obtain⟨q1,q2,q3⟩:=k2 j o' t' (by simpa using ho) (by simpa using ht);refine⟨q1,q2,fun k u hk hu hne=>?_⟩
     cases k with
     | zero=>simp at hu;subst hu;exact absurd rfl hne
     | succ k =>
      have:=q3 k u (by omega) (by simpa using hu) hne
      rwa [show i+1+k=i+(k+1)by omega]at this
theorem vF {base:Nat} {all:List Oper} {after:Array Edge}:∀ {ns:List Nat},PG base all after.toList ns=true→∀ x∈ns,∀ i,eY all 3 after.toList i=false→¬ (base+wide*i≤x∧x<base+wide*i+wide)
 | [],_=>by simp
 | n::ns,h=>by
  simp only[PG,zU]at h;intro x hx i hi hh
  rcases zQ.1 hx with rfl|hx
  ·have h1:=h.1;split at h1
   ·omega
   ·have:(x-base) / wide=i:=by unfold wide at *;omega
    rw[this,hi]at h1;cases h1
  ·exact vF h.2 x hx i hi hh
theorem AHU (hC:CtxOk C) (hm:C.P.follows .mixedOrders=true) {call:dK} (hcall:CallOk C call):TM C call:=by
 intro ops id base nt R' env st ds ρ w0 m0 φ0 a w Q hs hlex hrun hr hQ;simp only[Region.lexB,zU]at hlex;obtain⟨ts,hlen,hlx,hp⟩:=vI _ _ _ _ hrun
 let T:Nat→Ft:=fun i=>(ts[i]?).getD ([],true)
 have hget:∀ i o,ops[i]?=some o→∃ t,ts[i]?=some t∧T i=t:=fun i o ho=>by
  have hlt:i<ops.toList.length:=by simpa using (zI.1 ho).1
  rw[← hlen]at hlt;exact⟨ts[i],zY hlt,by simp[T,zY hlt]⟩
 have hT:∀ i j oi oj,ops[i]?=some oi→ops[j]?=some oj→i≠j→eY ops.toList 3 oj.after.toList i=false→eY ops.toList 3 oi.after.toList j=false→TL base (T i) (T j) i j:=by
  intro i j oi oj hi hj hne hji hij;obtain⟨ti,gi,ei⟩:=hget i oi hi;obtain⟨tj,gj,ej⟩:=hget j oj hj;rw[ei,ej];obtain⟨pi1,_,pi3⟩:=hp i oi ti (by simpa using hi) gi;obtain⟨pj1,_,pj3⟩:=hp j oj tj (by simpa using hj) gj;refine⟨?_,fun x hx=>vF pj1 x hx i hji,fun x hx=>vF pi1 x hx j hij⟩
  rcases Nat.lt_or_gt_of_ne hne with h|h
  ·by_cases he:ti.1=[]
   ·rw[he];exact .inl (by simp)
   ·have:=pj3 i ti h gi he;rw[zD]at this
    rcases this with q|q|q
    ·exact .inl fun x hx hm=>rQ q x hm hx
    ·exact .inr ⟨q.2,q.1⟩
    ·rw[hji]at q;cases q
  ·by_cases he:tj.1=[]
   ·rw[he];exact .inl (by simp)
   ·have:=pi3 j tj h gj he;rw[zD]at this
    rcases this with q|q|q
    ·exact .inl fun x hx hm=>rQ q x hx hm
    ·exact .inr q
    ·rw[hij]at q;cases q
 refine wpIn_region_any hm (W9 (QA:=fun S=>S=(R'.env,R'.st)) (base:=base) (T:=T) hC hcall hs (fun S a w h1 h2=>by subst h1;exact hQ a w h2) _ _ (env,st) a _ ?_ ?_)
 ·have:=TI (C:=C) (call:=call) (base:=base) (T:=T) (Q:=fun S=>S=(R'.env,R'.st)) hT ops.toList ts 0 (Array.replicate ops.size false) (env,st) (R'.env,R'.st) (by intro k ok _ hl;exfalso;rcases zA6 k ops.size with h'|h'<;>simp[h',zA3]at hl) (by simp)
   (fun j t ht=>by simp[T,ht]) (by simpa using hlex.2) hlx rfl
  simpa using this
 ·obtain⟨⟨m,φ,k1,k2,k3,k4,k7⟩,k5,k6⟩:=hr;exact⟨⟨m,φ,k1.drew,k2,k3.trans (.drew w m φ),fun id hne=>.inl (k4 id hne),k7.adv (.drew w m φ)⟩,k5,k6⟩
end
theorem ABE (P:Program):sO P:=fun _ _ h=>TN h
def EB (P:Program):Bool:=(List.range P.types.size).all fun t=>match P.underlying t with
 | some (.struct fs)=>fs.toList.all fun f=>(gM P f.type).isSome
 | some (.array _ e)=>(gM P e).isSome
 | _=>true
theorem ZM {P:Program} (h:EB P=true):KJ P:=by
 constructor
 ·intro t fs hlt hu f hf;have:=zR.1 h t (List.mem_range.2 hlt);rw[hu]at this;exact Option.isSome_iff_exists.1 (zR.1 this f (by simpa using hf))
 ·intro t n e hlt hu;have:=zR.1 h t (List.mem_range.2 hlt);rw[hu]at this;exact Option.isSome_iff_exists.1 this
def SB (P:Program):Bool:=P.funcs.toList.all fun fn=>(fn.name != "runtime.NumGoroutine") && match fn.body with
 | some c=>codeOk fn.ntmps c
 | none=>true
theorem ALT {P:Program} (h:SB P=true):AMU P:=by
 intro g fn c hf hb;have:=zR.1 h fn (zV (by simpa using hf));simp only[zU,bne_iff_ne]at this;rw[hb]at this;exact this
def SF (P:Program) (t:TypeId):Bool:=match P.underlying t with
 | some (.struct fs)=>match fs.toList with
  | [fb,fn]=>!P.stoodInHeld t && (!P.eqGuardType P.depth t && (fb.name != "_" && (fn.name != "_" && (fb.offset == 0 && (fn.offset == 1 && (match P.underlying fb.type,P.underlying fn.type with
   | some .bool,some (.int _)=>true
   | _,_=>false))))))
  | _=>false
 | _=>false
theorem APE {P:Program} {t:TypeId} (h:SF P t=true):AQL P t:=by
 unfold SF at h;split at h
 ·rename_i fs hu;split at h
  ·rename_i fb fn hfs;simp only[zU,Bool.not_eq_true',bne_iff_ne,beq_iff_eq]at h;obtain⟨h1,h2,h3,h4,h5,h6,h7⟩:=h;split at h7
   ·rename_i k hb hn;refine⟨fb,fn,k,?_,h1,h2,h3,h4,h5,h6,hb,hn⟩;rw[hu];have:fs=#[fb,fn]:=by apply Array.ext';simpa using hfs
    rw[this]
   ·cases h7
  ·cases h
 ·cases h
theorem lH {C:Ctx} (hf:EB C.P=true) (hn:SB C.P=true) (he:∀ t,C.eqT t=true→SF C.P t=true) (hm:C.P.follows .mixedOrders=true) (hp:PrimOk C):SoundOk C :=
 have hc:CtxOk C:=⟨ABE _,ZM hf,fun t ht=>APE (he t ht)⟩
 ⟨hc,ALT hn,fun _ hcall=>AHU hc hm hcall,hp⟩
theorem Y6 {C:Ctx} (h:∀ g,C.prim g=none):PrimOk C :=
 ⟨fun g args st p hp=>(by unfold bM at hp;rw[h g]at hp;cases hp),fun g args st r s hp=>(by unfold bM at hp;rw[h g]at hp;cases hp)⟩
structure Val where
 null:Bool
 n:Int
 deriving DecidableEq
inductive Ex where
 | mk (kind col:Int) (val:Val) (kids:List Ex)
def Ex.kind:Ex→Int | .mk k _ _ _=>k
def Ex.col:Ex→Int | .mk _ c _ _=>c
def Ex.val:Ex→Val | .mk _ _ v _=>v
def Ex.kids:Ex→List Ex | .mk _ _ _ ks=>ks
def Val.cells (v:Val):List IV:=[.bool v.null, .int v.n]
mutual
def Ex.cells:Ex→List IV
 | .mk k c v ks=>[.int k, .int c, .bool v.null, .int v.n, .isl (Ex.aB ks)]
def Ex.aB:List Ex→List (List IV)
 | []=>[]
 | e::es=>e.cells::Ex.aB es
end
theorem Ex.ind {P:Ex→Prop} (h:∀ k c v ks,(∀ e∈ks,P e)→P (.mk k c v ks)):(e:Ex)→P e
 | .mk k c v ks=>h k c v ks fun e he=>Ex.ind h e
termination_by e=>SizeOf.sizeOf e
decreasing_by
 have:=List.sizeOf_lt_of_mem he;simp;omega
theorem Ex.aA (e:Ex):e.cells=[.int e.kind, .int e.col, .bool e.val.null, .int e.val.n, .isl (Ex.aB e.kids)]:=by
 cases e;simp[Ex.cells,Ex.kind,Ex.col,Ex.val,Ex.kids]
@[simp] theorem Ex.aV:∀ (l:List Ex),(Ex.aB l).length=l.length
  | []=>by simp[Ex.aB]
  | _::l=>by simp[Ex.aB,Ex.aV l]
theorem Ex.aJ:∀ {l:List Ex} {i:Nat} {e:Ex},l[i]?=some e→fI (Ex.aB l) i=some e.cells
 | [],_,_,h=>by simp at h
 | a::l,0,e,h=>by simp at h;subst h;simp[Ex.aB,fI]
 | a::l,i+1,e,h=>by simp only[Ex.aB,fI];exact Ex.aJ (by simpa using h)
@[simp] theorem Ex.d9 (e:Ex):e.cells.length=5:=by rw[Ex.aA];rfl
@[simp] theorem Ex.AJE (e:Ex):tN 5 e.cells=some e.cells:=by rw[Ex.aA];rfl
@[simp] theorem Ex.o6:∀ (l:List Ex),iO 5 (Ex.aB l)=true
  | []=>by simp[Ex.aB,iO]
  | e::l=>by
   have:=Ex.o6 l;simp only[iO]at this;simp[Ex.aB,iO,Ex.d9,this]
theorem Ex.iM (a b:List Ex):Ex.aB (a++b)=Ex.aB a++Ex.aB b:=by
 induction a with
 | nil=>simp[Ex.aB]
 | cons e a ih=>simp[Ex.aB,ih]
@[simp] theorem Ex.sK:∀ (n:Nat) (l:List Ex),(Ex.aB l).take n=Ex.aB (l.take n)
  | 0,l=>by simp[Ex.aB]
  | n+1,[]=>by simp[Ex.aB]
  | n+1,e::l=>by simp[Ex.aB,Ex.sK n l]
theorem Ex.aU (l:List Ex) (e:Ex):Ex.aB (l++[e])=Ex.aB l++[e.cells]:=by
 rw[Ex.iM];simp[Ex.aB]
theorem aM {α:Type} {l:List α} {i:Nat} {a:α} (h:l[i]?=some a):l.take (i+1)=l.take i++[a]:=by
 rw[zA1,h];rfl
mutual
def Ex.size:Ex→Nat
 | .mk _ _ _ ks=>1+Ex.aZ ks
def Ex.aZ:List Ex→Nat
 | []=>0
 | e::es=>e.size+Ex.aZ es
end
theorem Ex.size_eq (e:Ex):e.size=1+Ex.aZ e.kids:=by cases e;simp[Ex.size,Ex.kids]
theorem Ex.qH (e:Ex):1≤e.size:=by rw[Ex.size_eq];omega
theorem Ex.bK:∀ (l:List Ex),l.length≤Ex.aZ l
 | []=>by simp[Ex.aZ]
 | e::es=>by have:=Ex.bK es;have:=Ex.qH e;simp[Ex.aZ];omega
theorem Ex.gI:∀ {l:List Ex} {e:Ex},e∈l→e.size≤Ex.aZ l
 | a::l,e,h=>by
  rcases zQ.1 h with rfl|h
  ·simp[Ex.aZ]
  ·have:=Ex.gI h;simp[Ex.aZ];omega
@[simp] theorem PT:∀ l:List IV,aX (jR l)=[]
  | []=>rfl
  | _::l=>by simp[jR,aX,dD,PT l]
@[simp] theorem XU (r:Nat→Option Nat):∀ l:List IV,wK r (jR l)=jR l
  | []=>rfl
  | _::l=>by simp[jR,wK,ren,XU r l]
@[simp] theorem AAN:∀ l:List IV,ABB (jR l)=some l
  | []=>rfl
  | _::l=>by simp[jR,ABB,AAN l,NP]
@[simp] theorem Ex.AI0 (e:Ex):tN 5 (jR e.cells)=some (jR e.cells):=by rw[Ex.aA];rfl
@[simp] theorem Ex.ADN (e:Ex) (a b c d f:AV):splice [a,b,c,d,f] 0 (jR e.cells)=some (jR e.cells):=by rw[Ex.aA];rfl
def bO (n:Int):Int:=if n=1∨n=2 then 0 else if n=10∨n=11 then 1 else if 3≤n∧n≤9 then 2 else -1
def bI (w:Int):Bool:=decide (1≤w∧w≤6)
def Val.ok (v:Val):Bool:=if v.null then decide (v.n=0)else decide (-9999≤v.n∧v.n≤9999)
def Val.zero:Val:=⟨false,0⟩
def Ex.zero:Ex:=.mk 0 0 Val.zero []
mutual
def Ex.eqb:Ex→Ex→Bool
 | .mk k c v ks, .mk k' c' v' ks'=>k == k' && (c == c' && (((v.null == v'.null) && v.n == v'.n) && Ex.uL ks ks'))
def Ex.uL:List Ex→List Ex→Bool
 | [],[]=>true
 | a::l,b::m=>Ex.eqb a b && Ex.uL l m
 | [],_::_=>false
 | _::_,[]=>false
end
theorem Ex.EF (a b:Ex):a.eqb b=(a.kind == b.kind && (a.col == b.col && (((a.val.null == b.val.null) && a.val.n == b.val.n) && Ex.uL a.kids b.kids))):=by
 cases a;cases b;simp[Ex.eqb,Ex.kind,Ex.col,Ex.val,Ex.kids]
theorem Ex.kE:∀ (l m:List Ex),l.length≠m.length→Ex.uL l m=false
 | [],[],h=>by simp at h
 | a::l,b::m,h=>by simp[Ex.uL,Ex.kE l m (by simpa using h)]
 | [],_::_,_=>by simp[Ex.uL]
 | _::_,[],_=>by simp[Ex.uL]
theorem Ex.iL:∀ (l m:List Ex),l.length=m.length→∃ j:Nat,(∀ i,i<j→∃ a b,l[i]?=some a∧m[i]?=some b∧a∈l∧a.eqb b=true)∧((j=l.length∧Ex.uL l m=true)∨∃ a b,l[j]?=some a∧m[j]?=some b∧a∈l∧a.eqb b=false∧Ex.uL l m=false)
 | [],[],_=>⟨0,fun i h=>by omega, .inl ⟨rfl,by simp[Ex.uL]⟩⟩
 | a::l,b::m,h=>by
  cases hab:a.eqb b with
  | false=>exact⟨0,fun i h=>by omega, .inr ⟨a,b,rfl,rfl,by simp,hab,by simp[Ex.uL,hab]⟩⟩
  | true =>
   obtain⟨j,h1,h2⟩:=Ex.iL l m (by simpa using h);refine⟨j+1,?_,?_⟩
   ·intro i hi
    cases i with
    | zero=>exact⟨a,b,rfl,rfl,by simp,hab⟩
    | succ i =>
     obtain⟨x,y,k1,k2,k3,k4⟩:=h1 i (by omega);exact⟨x,y,by simpa using k1,by simpa using k2,by simp[k3],k4⟩
   ·rcases h2 with ⟨k1,k2⟩|⟨x,y,k1,k2,k3,k4,k5⟩
    ·exact .inl ⟨by simp[k1],by simp[Ex.uL,hab,k2]⟩
    ·exact .inr ⟨x,y,by simpa using k1,by simpa using k2,by simp[k3],k4,by simp[Ex.uL,k5]⟩
 | [],_::_,h=>by simp at h
 | _::_,[],h=>by simp at h
mutual
def Ex.thin:Ex→Prop
 | .mk _ _ _ ks=>ks.length<1000000000∧Ex.nG ks
def Ex.nG:List Ex→Prop
 | []=>True
 | e::es=>e.thin∧Ex.nG es
end
theorem Ex.oV:∀ (l:List Ex),Ex.nG l↔∀ k∈l,k.thin
 | []=>by simp[Ex.nG]
 | e::es=>by simp[Ex.nG,Ex.oV es]
theorem Ex.bC (e:Ex):e.thin↔e.kids.length<1000000000∧∀ k∈e.kids,k.thin:=by
 cases e;simp[Ex.thin,Ex.kids,Ex.oV]
def Ex.headOk (w:Int) (e:Ex):Bool:=if e.kind=1 then decide (0≤e.col) && (decide (e.col<w) && (!e.val.null && e.val.n == 0))else if e.kind=2 then decide (e.col=0) && e.val.ok else decide (e.col=0) && (!e.val.null && e.val.n == 0)
def Ex.vB (w:Int):Nat→Ex→Bool
 | 0,e=>decide ((e.kids.length:Int)=bO e.kind) && (decide (bO e.kind≤0) && e.headOk w)
 | n+1,e=>decide ((e.kids.length:Int)=bO e.kind) && (e.headOk w && e.kids.all (Ex.vB w n))
theorem Ex.V3 (w:Int) (e:Ex):e.headOk w=false∨e.headOk w=true∧((e.kind=1∧0≤e.col∧e.col<w∧e.val.null=false∧e.val.n=0∧bO e.kind=0)∨(e.kind=2∧e.col=0∧Val.ok ⟨e.val.null,e.val.n⟩=true∧True∧True∧bO e.kind=0)∨(e.kind≠1∧e.kind≠2∧e.col=0∧e.val.null=false∧e.val.n=0∧True)):=by
 cases h:e.headOk w with
 | false=>exact .inl rfl
 | true =>
  refine .inr ⟨rfl,?_⟩;unfold Ex.headOk at h;by_cases h1:e.kind=1
  ·simp[h1]at h;simp[h1,h,bO]
  ·by_cases h2:e.kind=2
   ·simp[h2]at h;simp[h2,h,bO]
   ·simp[h1,h2]at h;simp[h1,h2,h]
def Ex.ok (w:Int) (e:Ex):Bool:=bI w && e.vB w 8
mutual
def Ex.sub (by_:List Ex):Ex→Ex
 | .mk k c v ks=>if k=1 then(by_[c.toNat]?).getD Ex.zero else .mk k c v (Ex.AK4 by_ ks)
def Ex.AK4 (by_:List Ex):List Ex→List Ex
 | []=>[]
 | e::es=>Ex.sub by_ e::Ex.AK4 by_ es
end
theorem Ex.QW (by_:List Ex):∀ l,Ex.AK4 by_ l=l.map (Ex.sub by_)
 | []=>by simp[Ex.AK4]
 | e::es=>by simp[Ex.AK4,Ex.QW by_ es]
theorem Ex.rJ (by_:List Ex) {e b:Ex} (h:e.kind=1) (hb:by_[e.col.toNat]?=some b):e.sub by_=b:=by
 cases e;simp[Ex.kind,Ex.col]at h hb;simp[Ex.sub,h,hb]
theorem Ex.rH (by_:List Ex) {e:Ex} (h:e.kind≠1):e.sub by_=.mk e.kind e.col e.val (e.kids.map (Ex.sub by_)):=by
 cases e;simp[Ex.kind]at h;simp[Ex.sub,h,Ex.QW,Ex.kind,Ex.col,Ex.val,Ex.kids]
mutual
def Ex.QC (n:Int):Ex→Prop
 | .mk k c _ ks=>(k=1→0≤c∧c<n)∧(k≠1→Ex.NS n ks)
def Ex.NS (n:Int):List Ex→Prop
 | []=>True
 | e::es=>Ex.QC n e∧Ex.NS n es
end
theorem Ex.IM (n:Int):∀ l,Ex.NS n l↔∀ k∈l,Ex.QC n k
 | []=>by simp[Ex.NS]
 | e::es=>by simp[Ex.NS,Ex.IM n es]
theorem Ex.NR (n:Int) (e:Ex):e.QC n↔(e.kind=1→0≤e.col∧e.col<n)∧(e.kind≠1→∀ k∈e.kids,k.QC n):=by
 cases e;simp[Ex.QC,Ex.kind,Ex.col,Ex.kids,Ex.IM]
mutual
def Ex.ht:Ex→Nat
 | .mk _ _ _ ks=>Ex.htL ks
def Ex.htL:List Ex→Nat
 | []=>0
 | e::es=>max (1+e.ht) (Ex.htL es)
end
theorem Ex.AD4 (e:Ex):e.ht=Ex.htL e.kids:=by cases e;simp[Ex.ht,Ex.kids]
theorem Ex.RY:∀ (l:List Ex) (e:Ex),Ex.htL (l++[e])=max (Ex.htL l) (1+e.ht)
 | [],e=>by simp[Ex.htL]
 | a::l,e=>by simp[Ex.htL,Ex.RY l e,Nat.max_assoc]
theorem Ex.AF9 {n:Nat}:∀ (l:List Ex),Ex.htL l≤n↔∀ e∈l,1+e.ht≤n
 | []=>by simp[Ex.htL]
 | a::l=>by simp[Ex.htL,Nat.max_le,Ex.AF9 l]
mutual
theorem Ex.ZB:∀ e:Ex,e.ht<e.size
 | .mk _ _ _ ks=>by have:=Ex.RZ ks;simp[Ex.ht,Ex.size];omega
theorem Ex.RZ:∀ l:List Ex,Ex.htL l≤Ex.aZ l
 | []=>by simp[Ex.htL]
 | a::l=>by have:=Ex.ZB a;have:=Ex.RZ l;simp[Ex.htL,Ex.aZ];omega
end
theorem Ex.eO:∀ e:Ex,e.size<1000000000→e.thin:=by
 intro e
 induction e using Ex.ind with
 | h k c v ks ih =>
  intro hs;rw[Ex.bC];simp only[Ex.kids];have h1:=Ex.bK ks;simp[Ex.size]at hs;exact⟨by omega,fun e he=>ih e he (by have:=Ex.gI he;omega)⟩
mutual
def Ex.wf (w:Int):Ex→Bool
 | .mk k c v ks=>decide ((ks.length:Int)=bO k) && (Ex.headOk w (.mk k c v ks) && Ex.wfL w ks)
def Ex.wfL (w:Int):List Ex→Bool
 | []=>true
 | e::es=>Ex.wf w e && Ex.wfL w es
end
theorem Ex.WS (w:Int):∀ l,Ex.wfL w l=l.all (Ex.wf w)
 | []=>by simp[Ex.wfL]
 | e::es=>by simp[Ex.wfL,Ex.WS w es]
theorem Ex.KU (w:Int) (e:Ex):e.wf w=(decide ((e.kids.length:Int)=bO e.kind) && (e.headOk w && e.kids.all (Ex.wf w))):=by
 cases e;rw[Ex.wf,Ex.WS];rfl
theorem Ex.LF (w:Int):∀ (n:Nat) (e:Ex),e.vB w n=(e.wf w && decide (e.ht≤n))
 | 0,e=>by
  rw[Ex.KU,Ex.AD4,xK];simp only[Ex.vB,zU,zP];constructor
  ·rintro⟨h1,h2,h3⟩
   have:e.kids=[]:=by cases h:e.kids with
    | nil=>rfl
    | cons a l=>rw[h]at h1;simp at h1;omega
   simp[this,h3,Ex.htL];rw[this]at h1;simpa using h1
  ·rintro⟨⟨h1,h2,h3⟩,h4⟩
   have:e.kids=[]:=by cases h:e.kids with
    | nil=>rfl
    | cons a l=>rw[h]at h4;simp[Ex.htL]at h4
   rw[this]at h1;simp at h1;simp[this,← h1,h2]
 | n+1,e=>by
  rw[Ex.KU,Ex.AD4,xK];simp only[Ex.vB,zU,zP,zR,Ex.AF9];constructor
  ·rintro⟨h1,h2,h3⟩;refine⟨⟨h1,h2,fun x hx=>?_⟩,fun x hx=>?_⟩
   ·have:=h3 x hx;rw[Ex.LF w n x]at this;simp at this;exact this.1
   ·have:=h3 x hx;rw[Ex.LF w n x]at this;simp at this;omega
  ·rintro⟨⟨h1,h2,h3⟩,h4⟩;refine⟨h1,h2,fun x hx=>?_⟩;rw[Ex.LF w n x];have:=h4 x hx;simp[h3 x hx];omega
theorem Ex.WW (w:Int):∀ (n:Nat) (e:Ex),e.vB w n=true→e.size+1≤2 ^ (n+1)
 | n,e,h=>by
  have hk:bO e.kind≤2:=by
   unfold bO;split;· omega
   split;· omega
   split<;>omega
  rw[Ex.size_eq];have hw:=h;rw[Ex.LF,Ex.KU]at hw;simp only[zU,zP]at hw;obtain⟨⟨h1,h2,h3⟩,h4⟩:=hw
  cases n with
  | zero =>
   have:e.kids=[]:=by cases h:e.kids with
    | nil=>rfl
    | cons a l=>rw[Ex.AD4,h]at h4;simp[Ex.htL]at h4
   simp[this,Ex.aZ]
  | succ n =>
   simp only[Ex.vB,zU,zP,zR]at h
   have key:∀ l:List Ex,(∀ x∈l,x.vB w n=true)→Ex.aZ l+l.length≤l.length*2 ^ (n+1):=by
    intro l
    induction l with
    | nil=>intro _;simp[Ex.aZ]
    | cons a l ih =>
     intro hl;have a1:=Ex.WW w n a (hl a (by simp));have a2:=ih fun x hx=>hl x (by simp[hx])
     simp only[Ex.aZ,zO,Nat.add_mul,Nat.one_mul];omega
   have a1:=key e.kids h.2.2;have a2:e.kids.length≤2:=by omega
   have a3:e.kids.length*2 ^ (n+1)≤2*2 ^ (n+1):=Nat.mul_le_mul_right _ a2;have a4:2 ^ (n+1+1)=2*2 ^ (n+1):=by rw[zA8];omega
   have a5:2≤2 ^ (n+1):=by rw[zA8];have:=x9 (n:=n);omega
   rcases zA6 1 e.kids.length with h5|h5
   ·have:e.kids.length=2:=by omega
    rw[this]at a1;omega
   ·have:e.kids.length*2 ^ (n+1)≤1*2 ^ (n+1):=Nat.mul_le_mul_right _ h5;have:=xJ e.kids.length
    rcases Nat.eq_zero_or_pos e.kids.length with h6|h6
    ·rw[h6]at a1;omega
    ·omega
theorem Ex.gG {w:Int} {e:Ex} (h:e.ok w=true):e.size<1000:=by
 simp[Ex.ok]at h;have:=Ex.WW w 8 e h.2;omega
mutual
def Ex.htS (hs:List Nat):Ex→Nat
 | .mk k c _ ks=>if k=1 then(hs[c.toNat]?).getD 0 else Ex.AB8 hs ks
def Ex.AB8 (hs:List Nat):List Ex→Nat
 | []=>0
 | e::es=>max (1+Ex.htS hs e) (Ex.AB8 hs es)
end
theorem Ex.ZF (hs:List Nat) {n:Nat}:∀ (l:List Ex),Ex.AB8 hs l≤n↔∀ e∈l,1+e.htS hs≤n
 | []=>by simp[Ex.AB8]
 | a::l=>by simp[Ex.AB8,Nat.max_le,Ex.ZF hs l]
theorem Ex.ZE (hs:List Nat) {e:Ex} {h:Nat} (hk:e.kind=1) (hh:hs[e.col.toNat]?=some h):e.htS hs=h:=by
 cases e;simp[Ex.kind,Ex.col]at hk hh;simp[Ex.htS,hk,hh]
theorem Ex.ZC (hs:List Nat) {e:Ex} (hk:e.kind≠1):e.htS hs=Ex.AB8 hs e.kids:=by
 cases e;simp[Ex.kind]at hk;simp[Ex.htS,hk,Ex.kids]
theorem Ex.lY {w:Int} {e k:Ex} (h:e.wf w=true) (hk:k∈e.kids):k.wf w=true:=by
 rw[Ex.KU]at h;simp at h;exact h.2.2 k hk
theorem Ex.qY {w:Int} {e:Ex} (h:e.wf w=true) (hk:e.kind=1):0≤e.col∧e.col<w∧e.kids=[]:=by
 rw[Ex.KU]at h;simp[Ex.headOk,hk,bO]at h;exact⟨h.2.1.1,h.2.1.2.1,h.1⟩
theorem Ex.AL {w:Int}:∀ (e:Ex),e.wf w=true→e.QC w:=by
 intro e
 induction e using Ex.ind with
 | h k c v ks ih =>
  intro h;rw[Ex.NR];refine⟨fun hk=>?_,fun _ x hx=>ih x hx (Ex.lY h hx)⟩;have:=Ex.qY h hk;exact⟨this.1,this.2.1⟩
theorem Ex.ZG {f:Ex→Ex} {hs:List Nat}:∀ {l:List Ex},(∀ e∈l,(f e).ht=e.htS hs)→Ex.htL (l.map f)=Ex.AB8 hs l
 | [],_=>by simp[Ex.htL,Ex.AB8]
 | a::l,h=>by
  simp only[xO,Ex.htL,Ex.AB8,h a (by simp)];rw[Ex.ZG fun e he=>h e (by simp[he])]
theorem Ex.ALQ {w:Int} (l:List Ex) (hw:w=l.length):∀ (e:Ex),e.wf w=true→(e.sub l).ht=e.htS (l.map Ex.ht):=by
 intro e
 induction e using Ex.ind with
 | h k c v ks ih =>
  intro h;by_cases hk:k=1
  ·obtain⟨h0,h1,_⟩:=Ex.qY h hk;have hi:c.toNat<l.length:=by simp[Ex.col]at h0 h1;omega
   have hb:=zY hi;rw[Ex.rJ l (e:=.mk k c v ks) hk hb,Ex.ZE (l.map Ex.ht) (e:=.mk k c v ks) (h:=l[c.toNat].ht) hk (by simp[Ex.col,hb])]
  ·rw[Ex.rH l (e:=.mk k c v ks) hk,Ex.ZC _ (e:=.mk k c v ks) hk];simp only[Ex.ht,Ex.kids];exact Ex.ZG fun x hx=>ih x hx (Ex.lY h hx)
theorem Ex.AJP {m w:Int} (l:List Ex) (hm:m=l.length) (hl:∀ b∈l,b.wf w=true):∀ (e:Ex),e.wf m=true→(e.sub l).wf w=true:=by
 intro e
 induction e using Ex.ind with
 | h k c v ks ih =>
  intro h;by_cases hk:k=1
  ·obtain⟨h0,h1,_⟩:=Ex.qY h hk;have hi:c.toNat<l.length:=by simp[Ex.col]at h0 h1;omega
   have hb:=zY hi;rw[Ex.rJ l (e:=.mk k c v ks) hk hb];exact hl _ (y8 hi)
  ·rw[Ex.rH l (e:=.mk k c v ks) hk];have h':=h;rw[Ex.KU]at h ⊢;simp[Ex.kids,Ex.kind,Ex.headOk,Ex.col,Ex.val,hk]at h ⊢;exact⟨of_decide_eq_true h.1,h.2.1,fun x hx=>ih x hx (Ex.lY h' hx)⟩
def mP:List Nat→List (List IV)
 | []=>[]
 | h::hs=>[.int h]::mP hs
@[simp] theorem MM:∀ hs:List Nat,(mP hs).length=hs.length
  | []=>rfl
  | _::hs=>by simp[mP,MM hs]
theorem ML:∀ {hs:List Nat} {i h:Nat},hs[i]?=some h→fI (mP hs) i=some [.int h]
 | [],_,_,e=>by simp at e
 | a::hs,0,h,e=>by simp at e;subst e;simp[mP,fI]
 | a::hs,i+1,h,e=>by simp only[mP,fI];exact ML (by simpa using e)
end Go.Av

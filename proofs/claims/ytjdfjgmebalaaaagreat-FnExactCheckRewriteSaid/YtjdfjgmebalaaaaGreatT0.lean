/- Part 0 of what the proof rests on: the executor and what it is worth, and the program's functions as it runs them. No condition. -/
import Derived.Orders
import Derived.Laws.CopyRow
import Derived.Laws.Cells
import Derived.Laws.Entries
import Derived.Still
import Derived.ChangeKeysEq
import Derived.Laws.World
import Derived.Laws.Append
import Derived.Laws.MakeOwn
set_option linter.unusedVariables false
set_option linter.unusedSimpArgs false
abbrev zZ:=@List.getElem?_eq_some_iff
abbrev zY:=@List.getElem?_eq_getElem
abbrev zX:=@List.length_eq_zero_iff
abbrev zW:=@List.take_of_length_le
abbrev zV:=@List.mem_of_getElem?
abbrev zU:=@Bool.and_eq_true
abbrev zT:=@List.mem_append
abbrev zS:=@of_decide_eq_true
abbrev zR:=@List.all_eq_true
abbrev zQ:=@List.mem_cons
abbrev zP:=@decide_eq_true_eq
abbrev zO:=@List.length_cons
abbrev zN:=@Nat.le_refl
abbrev zM:=@List.getElem?_append_right
abbrev zL:=@List.getElem?_take
abbrev zK:=@List.take_take
abbrev zJ:=@List.getElem?_append_left
abbrev zI:=@Array.getElem?_eq_some_iff
abbrev zH:=@Nat.lt_of_lt_of_le
abbrev zG:=@Nat.mul_comm
abbrev zF:=@List.length_append
abbrev zD:=@Nat.zero_add
abbrev zC:=@List.mem_of_mem_take
abbrev zB:=@Int.eq_ofNat_of_zero_le
abbrev zA:=@Nat.mul_add
abbrev z8:=@List.flatten_cons
abbrev yZ:=@Bool.false_eq_true
abbrev yY:=@Nat.mul_le_mul_left
abbrev yX:=@List.take_succ_cons
abbrev yV:=@Array.length_toList
abbrev yU:=@Option.bind_some
abbrev yT:=@List.nodup_append
abbrev yS:=@List.getElem?_drop
abbrev yR:=@List.nodup_cons
abbrev yQ:=@List.mem_of_mem_drop
abbrev yP:=@Int.natCast_add
abbrev yO:=@Option.getD_some
abbrev yN:=@Nat.add_assoc
abbrev yM:=@List.length_take
abbrev yL:=@List.append_assoc
abbrev yK:=@List.take_append_drop
abbrev yJ:=@List.mem_append_left
abbrev yI:=@Nat.add_sub_cancel_left
abbrev yH:=@Nat.min_eq_left
abbrev yG:=@Array.getD_eq_getD_getElem?
abbrev yF:=@List.replicate_succ
abbrev yE:=@Nat.le_max_right
abbrev yD:=@List.cons_append
abbrev yC:=@Array.all_eq_true_iff_forall_mem
abbrev yB:=@List.mem_map
abbrev yA:=@List.eq_nil_of_length_eq_zero
abbrev y9:=@List.take_append_of_le_length
abbrev y8:=@List.getElem_mem
abbrev y7:=@Nat.le_max_left
abbrev y5:=@Array.getElem?_toList
abbrev xZ:=@Nat.not_lt_zero
abbrev xY:=@Nat.lt_irrefl
abbrev xX:=@Nat.or_lt_two_pow
abbrev xW:=@List.mem_or_eq_of_mem_set
abbrev xV:=@Int.not_lt
abbrev xU:=@List.getElem?_eq_none_iff
abbrev xS:=@List.length_drop
abbrev xR:=@List.take_append
abbrev xQ:=@Nat.add_zero
abbrev xP:=@List.drop_succ_cons
abbrev xO:=@List.map_cons
abbrev xN:=@List.nil_append
abbrev xM:=@List.length_set
abbrev xL:=@List.length_nil
abbrev xK:=@Bool.eq_iff_iff
abbrev xJ:=@Nat.zero_le
abbrev xI:=@List.length_replicate
abbrev xH:=@List.drop_drop
abbrev xG:=@List.eq_nil_or_concat
abbrev xE:=@List.range'_append_1
abbrev xD:=@Option.map_some
abbrev xC:=@List.range_succ
abbrev xB:=@List.append_nil
abbrev xA:=@List.drop_eq_getElem_cons
abbrev x9:=@Nat.one_le_two_pow
abbrev x8:=@List.drop_take
abbrev zA0:=@List.getElem?_map
abbrev zA1:=@List.take_add_one
abbrev zA2:=@List.foldl_append
abbrev zA3:=@Array.getElem?_eq_none
abbrev zA4:=@List.findIdx_le_length
abbrev zA5:=@List.drop_append
abbrev zA6:=@Nat.lt_or_ge
abbrev zA7:=@Bool.or_eq_true
abbrev zA8:=@Nat.pow_succ
abbrev zA9:=@List.map_append
abbrev zB0:=@Int.not_le
namespace Go.Av
def bnd {α β:Type}:Option α→(α→Option β)→Option β
 | some a,f=>f a
 | none,_=>none
@[congr] theorem AMC {α β:Type} {x y:Option α} {f:α→Option β} (h:x=y):bnd x f=bnd y f:=by rw[h]
@[simp] theorem dZ {α β:Type} (a:α) (f:α→Option β):bnd (some a) f=f a:=(rfl)
@[simp] theorem ANW {α β:Type} (f:α→Option β):bnd none f=none:=(rfl)
theorem aH {α β:Type} {x:Option α} {f:α→Option β} {r:β}:bnd x f=some r↔∃ a,x=some a∧f a=some r:=by
 cases x<;>simp[bnd]
def tst {β:Type}:Bool→Option β→Option β
 | true,x=>x
 | false,_=>none
@[congr] theorem AJU {β:Type} {c d:Bool} {x:Option β} (h:c=d):tst c x=tst d x:=by rw[h]
@[simp] theorem jU {β:Type} (x:Option β):tst true x=x:=(rfl)
@[simp] theorem AJT {β:Type} (x:Option β):tst false x=none:=(rfl)
theorem aP {β:Type} {c:Bool} {x:Option β} {r:β}:tst c x=some r↔c=true∧x=some r:=by
 cases c<;>simp[tst]
inductive IV where
 | lit (v:Value)
 | agg (cs:List IV)
 | isl (es:List (List IV))
 | iref (cs:List IV)
 deriving Inhabited
inductive AV where
 | junk
 | nils
 | i (v:IV)
 | own (id off:Nat)
 | ownE (id k ix off:Nat)
 | osl (id k off len:Nat)
 | agg (cs:List AV)
 | tup (vs:List AV)
 | fn (f:Fn) (caps:List AV)
 deriving Inhabited
inductive AExit where
 | normal
 | exit (id:Nat)
 | ret
inductive LSt where
 | ready
 | busy
 | over (e:AExit)
structure Rng where
 G:List Nat
 ts:List Nat
 ps:List Nat
 asg:Code
 body:Code
inductive Blk where
 | box (cs:List AV)
 | arr (k:Nat) (es:List (List IV))
 | frz (k:Nat) (es:List (List IV))
 | fbox (cs:List IV)
 | tre (k:Nat) (es:List (List IV))
 | loop (R:Rng) (cs:List AV) (s:LSt)
abbrev Store:=Nat→Option Blk
abbrev StL:=List (Option Blk)
abbrev IV.int (n:Int):IV:=.lit (.int .i64 n)
abbrev IV.bool (b:Bool):IV:=.lit (.bool b)
abbrev AV.int (n:Int):AV:=.i (.lit (.int .i64 n))
abbrev AV.bool (b:Bool):AV:=.i (.lit (.bool b))
def upd {α:Type} (f:Nat→α) (a:Nat) (v:α):Nat→α:=fun b=>if b=a then v else f b
theorem WY {α:Type} (f:Nat→α) (a:Nat) (v:α) (b:Nat):upd f a v b=if b=a then v else f b:=rfl
def aT:List (Nat×AV)→Nat→AV
 | [],_=>.junk
 | (t,v)::r,s=>if s=t then v else aT r s
def bD:StL→Store
 | [],_=>none
 | b::_,0=>b
 | _::r,n+1=>bD r n
def gP:Value→AV
 | .slice none 0 0=>.nils
 | v=>.i (.lit v)
def NP:AV→Option (List IV)→Option (List IV)
 | .i v,some l=>some (v::l)
 | _,_=>none
def ABB:List AV→Option (List IV)
 | []=>some []
 | c::r=>NP c (ABB r)
def AIH:Option (List IV)→List AV→AV
 | some l,_=>.i (.agg l)
 | none,cs=>.agg cs
def MN (cs:List AV):AV:=AIH (ABB cs) cs
def dM:List Value→List AV
 | []=>[]
 | v::r=>gP v::dM r
def vH:Value→AV
 | .agg cs=>MN (dM cs.toList)
 | v=>gP v
def jR:List IV→List AV
 | []=>[]
 | v::r=>.i v::jR r
def cellsOf:AV→Option (List AV)
 | .junk=>none
 | .tup _=>none
 | .agg cs=>some cs
 | .i (.agg cs)=>some (jR cs)
 | .i (.lit (.agg _))=>none
 | .i (.lit (.tuple _))=>none
 | v=>some [v]
def nS:Bool→List AV→Option AV
 | true,cs=>some (MN cs)
 | false,[v]=>some v
 | false,_=>none
def fT:Bool→List IV→Option AV
 | true,cs=>some (.i (.agg cs))
 | false,[v]=>some (.i v)
 | false,_=>none
def dropE {α:Type}:Nat→List α→List α
 | 0,l=>l
 | _+1,[]=>[]
 | n+1,_::r=>dropE n r
def tN {α:Type}:Nat→List α→Option (List α)
 | 0,_=>some []
 | _+1,[]=>none
 | n+1,a::r=>bnd (tN n r) fun l=>some (a::l)
def fI {α:Type}:List α→Nat→Option α
 | [],_=>none
 | a::_,0=>some a
 | _::r,n+1=>fI r n
theorem iU {α:Type}:∀ (l:List α) (n:Nat),fI l n=l[n]?
 | [],n=>by simp[fI]
 | a::_,0=>by simp[fI]
 | _::r,n+1=>by simp[fI,iU r n]
def cut {α:Type} (cs:List α) (off n:Nat):Option (List α):=tN n (dropE off cs)
def splice {α:Type}:List α→Nat→List α→Option (List α)
 | cs,0,[]=>some cs
 | _::cs,0,x::xs=>bnd (splice cs 0 xs) fun l=>some (x::l)
 | [],0,_::_=>none
 | c::cs,n+1,xs=>bnd (splice cs n xs) fun l=>some (c::l)
 | [],_+1,_=>none
def gM (P:Program) (t:TypeId):Option Nat:=(P.info? t).map (·.size)
def WQ (P:Program) (t:TypeId):Option Nat:=(P.info? t).map (·.bytes)
inductive DK where
 | strct
 | array (n:Nat) (e:TypeId)
 | slice (e:TypeId)
 | int (k:IntKind)
 | string
 | bool
 | other
def bE (P:Program) (t:TypeId):Option DK :=
 match P.underlying t with
 | some (.struct _)=>some .strct
 | some (.array n e)=>some (.array n e)
 | some (.slice e)=>some (.slice e)
 | some (.int k)=>some (.int k)
 | some .string=>some .string
 | some .bool=>some .bool
 | some _=>some .other
 | none=>none
def uT:Option DK→Option Bool
 | some .strct=>some true
 | some (.array _ _)=>some true
 | some _=>some false
 | none=>none
def EJ:Option DK→Option TypeId
 | some (.slice e)=>some e
 | _=>none
def zeroOf (P:Program) (t:TypeId):Option (List Value):=tst (decide (t<P.types.size)) (bnd (((P.info? t).bind (·.zero)).map (fun v=>v.cells.toList)) fun z=>tst (z.all (·.oneCell')) (some z))
theorem mI {P:Program} {t:TypeId} {z:List Value} (h:zeroOf P t=some z):t<P.types.size∧((P.info? t).bind (·.zero)).map (fun v=>v.cells.toList)=some z:=by
 obtain⟨h1,h2⟩:=aP.1 h;obtain⟨y,h3,h4⟩:=aH.1 h2;obtain⟨_,h5⟩:=aP.1 h4;injection h5 with h5;subst h5;exact⟨of_decide_eq_true h1,h3⟩
theorem TN {P:Program} {t:TypeId} {z:List Value} (h:zeroOf P t=some z):∀ v∈z,v.oneCell'=true:=by
 obtain⟨h1,h2⟩:=aP.1 h;obtain⟨y,h3,h4⟩:=aH.1 h2;obtain⟨h6,h5⟩:=aP.1 h4;injection h5 with h5;subst h5;exact zR.1 h6
def dI (P:Program) (t:TypeId) (f:Nat):Option (TypeId×Nat) :=
 match P.underlying t with|some (.struct fs)=>(fs[f]?).map (fun f=>(f.type,f.offset))|_=>none
def window {α:Type} (es:List α) (off len:Nat):List α:=(es.drop off).take len
abbrev Ups:=List (Nat×Blk)
def qR (id k off len:Nat):Option Blk→Option (IV×Ups)
 | some (.arr k' es)=>tst (decide (k'=k∧off+len≤es.length)) (some (.isl (window es off len),[(id, .frz k' es)]))
 | some (.frz k' es)=>tst (decide (k'=k∧off+len≤es.length)) (some (.isl (window es off len),[]))
 | _=>none
mutual
def frz (st:Store):Nat→AV→Option (IV×Ups)
 | 0,_=>none
 | _+1, .i v=>some (v,[])
 | _+1, .nils=>some (.isl [],[])
 | _+1, .osl id k off len=>qR id k off len (st id)
 | n+1, .own id off=>wV st n id off (st id)
 | n+1, .agg cs=>bnd (I5 st n cs) fun p=>some (.agg p.1,p.2)
 | _+1,_=>none
def wV (st:Store):Nat→Nat→Nat→Option Blk→Option (IV×Ups)
 | 0,_,_,_=>none
 | n+1,id,off,some (.box cs)=>bnd (I5 st n cs) fun p=>tst (decide (off≤p.1.length)) (some (.iref (dropE off p.1),(id, .fbox p.1)::p.2))
 | _+1,_,off,some (.fbox l)=>tst (decide (off≤l.length)) (some (.iref (dropE off l),[]))
 | _+1,_,_,_=>none
def I5 (st:Store):Nat→List AV→Option (List IV×Ups)
 | _,[]=>some ([],[])
 | 0,_::_=>none
 | n+1,c::cs=>bnd (frz st n c) fun p=>bnd (I5 st n cs) fun q=>some (p.1::q.1,p.2++q.2)
end
def rX:Nat:=20
def gB (st:Store):Ups→Store
 | []=>st
 | p::r=>upd (gB st r) p.1 (some p.2)
def oL (st:Store):AV→Option (IV×Store)
 | .i v=>some (v,st)
 | v=>bnd (frz st rX v) fun p=>some (p.1,gB st p.2)
def l8 (st:Store):List AV→Option (List IV×Store)
 | []=>some ([],st)
 | c::cs=>bnd (oL st c) fun p=>bnd (l8 p.2 cs) fun q=>some (p.1::q.1,q.2)
mutual
def dD:AV→List Nat
 | .own id _=>[id]
 | .ownE id _ _ _=>[id]
 | .osl id _ _ _=>[id]
 | .agg cs=>aX cs
 | .tup cs=>aX cs
 | .fn _ cs=>aX cs
 | .junk=>[]
 | .nils=>[]
 | .i _=>[]
def aX:List AV→List Nat
 | []=>[]
 | c::cs=>dD c++aX cs
end
def gW:Option Blk→List Nat
 | some (.box cs)=>aX cs
 | some (.arr _ _)=>[]
 | some (.frz _ _)=>[]
 | some (.fbox _)=>[]
 | some (.tre _ _)=>[]
 | some (.loop _ cs _)=>aX cs
 | none=>[]
def AKV (j:Option Nat) (f:Nat→AV):AV:=match j with|some j=>f j|none=>.junk
@[simp] theorem AKT (j:Nat) (f:Nat→AV):AKV (some j) f=f j:=(rfl)
@[simp] theorem AKU (f:Nat→AV):AKV none f=.junk:=(rfl)
mutual
def ren (r:Nat→Option Nat):AV→AV
 | .own id off=>AKV (r id) fun j=>.own j off
 | .ownE id k ix off=>AKV (r id) fun j=>.ownE j k ix off
 | .osl id k off len=>AKV (r id) fun j=>.osl j k off len
 | .agg cs=>.agg (wK r cs)
 | .tup cs=>.tup (wK r cs)
 | .fn f cs=>.fn f (wK r cs)
 | .junk=>.junk
 | .nils=>.nils
 | .i v=>.i v
def wK (r:Nat→Option Nat):List AV→List AV
 | []=>[]
 | c::cs=>ren r c::wK r cs
end
def FH (r:Nat→Option Nat):Option Blk→Option Blk
 | some (.box cs)=>some (.box (wK r cs))
 | some (.arr k es)=>some (.arr k es)
 | some (.frz k es)=>some (.frz k es)
 | some (.fbox cs)=>some (.fbox cs)
 | some (.tre k es)=>some (.tre k es)
 | some (.loop R cs s)=>some (.loop R (wK r cs) s)
 | none=>none
def iQ:Nat→List Nat→Nat→Option Nat
 | _,[],_=>none
 | n,i::r,j=>if j=i then some n else iQ (n+1) r j
def fH (ids:List Nat) (j:Nat):Option Nat:=iQ 0 ids j
def FM:List Nat→Nat→Bool
 | [],_=>false
 | i::r,j=>if j=i then true else FM r j
def reach (st:Store):Nat→List Nat→List Nat→List Nat
 | 0,_,seen=>seen
 | _+1,[],seen=>seen
 | n+1,i::todo,seen=>if FM seen i=true then reach st n todo seen else reach st n (gW (st i)++todo) (seen++[i])
def DY:Nat:=60
def nW (st:Store):List Nat→List Nat
 | []=>[]
 | i::r=>gW (st i)++nW st r
def upto:Nat→List Nat
 | 0=>[]
 | n+1=>upto n++[n]
def gH (st:Store) (na:Nat) (vs:List AV):List Nat:=reach st DY (nW st (upto na)++aX vs) (upto na)
def jE (r:Nat→Option Nat) (st:Store):List Nat→StL
 | []=>[]
 | i::ids=>FH r (st i)::jE r st ids
structure Ctx where
 P:Program
 G:FuncId→List Nat
 ownArgs:FuncId→Bool
 keepRes:FuncId→Bool
 eqT:TypeId→Bool
 prim:FuncId→Option (List AV→StL→Option (AV×StL))
 tree:Bool:=false
abbrev dK:=FuncId→List AV→StL→Option (AV×StL)
def ev (env:Nat→AV):Operand→AV
 | .tmp t=>env t
 | .const v=>vH v
 | .global _=>.junk
 | .func f=>.fn (.func f) []
def evL (env:Nat→AV):List Operand→List AV
 | []=>[]
 | x::r=>ev env x::evL env r
def evO (env:Nat→AV):Option Operand→Option AV
 | some x=>some (ev env x)
 | none=>none
def KP:BinOp→IntKind→Int→Int→Option IV
 | .add,k,x,y=>some (.lit (.int k (k.wrap (x+y))))
 | .sub,k,x,y=>some (.lit (.int k (k.wrap (x-y))))
 | .mul,k,x,y=>some (.lit (.int k (k.wrap (x*y))))
 | .quo,k,x,y=>tst (y != 0) (some (.lit (.int k (k.wrap (x.tdiv y)))))
 | .rem,k,x,y=>tst (y != 0) (some (.lit (.int k (x.tmod y))))
 | .and,k,x,y=>some (.lit (.int k (k.wrap (BitVec.ofInt k.bits x &&& BitVec.ofInt k.bits y).toNat)))
 | .or,k,x,y=>some (.lit (.int k (k.wrap (BitVec.ofInt k.bits x ||| BitVec.ofInt k.bits y).toNat)))
 | .xor,k,x,y=>some (.lit (.int k (k.wrap (BitVec.ofInt k.bits x ^^^ BitVec.ofInt k.bits y).toNat)))
 | .andNot,k,x,y=>some (.lit (.int k (k.wrap (BitVec.ofInt k.bits x &&& ~~~BitVec.ofInt k.bits y).toNat)))
 | .eql,_,x,y=>some (.lit (.bool (x == y)))
 | .neq,_,x,y=>some (.lit (.bool (x != y)))
 | .lss,_,x,y=>some (.lit (.bool (x<y)))
 | .leq,_,x,y=>some (.lit (.bool (x≤y)))
 | .gtr,_,x,y=>some (.lit (.bool (x > y)))
 | .geq,_,x,y=>some (.lit (.bool (x ≥ y)))
 | _,_,_,_=>none
def shI:BinOp→IntKind→Int→Int→Option IV
 | .shl,k,x,y=>tst (decide (0≤y)) (some (.lit (.int k (k.wrap (x*2 ^ (min y.toNat k.bits))))))
 | .shr,k,x,y=>tst (decide (0≤y)) (some (.lit (.int k (x.fdiv (2 ^ (min y.toNat k.bits))))))
 | _,_,_,_=>none
def ABA:BinOp→ByteArray→ByteArray→Option IV
 | .add,x,y=>tst (decide (x.size+y.size≤9223372036854775807)) (some (.lit (.string (x++y))))
 | .eql,x,y=>some (.lit (.bool (x.toList == y.toList)))
 | .neq,x,y=>some (.lit (.bool !(x.toList == y.toList)))
 | .lss,x,y=>some (.lit (.bool (Op.bytesLess x.toList y.toList)))
 | .leq,x,y=>some (.lit (.bool (Op.bytesLess x.toList y.toList || x.toList == y.toList)))
 | .gtr,x,y=>some (.lit (.bool !(Op.bytesLess x.toList y.toList || x.toList == y.toList)))
 | .geq,x,y=>some (.lit (.bool !(Op.bytesLess x.toList y.toList)))
 | _,_,_=>none
def dN:BinOp→Bool
 | .shl=>true
 | .shr=>true
 | _=>false
def AMG:BinOp→Option DK→Bool→Bool→Option IV
 | .eql,some .bool,a,b=>some (.lit (.bool (a == b)))
 | .neq,some .bool,a,b=>some (.lit (.bool (!(a == b))))
 | _,_,_,_=>none
def AME:BinOp→Bool→Bool→Int→Bool→Int→Option IV
 | .eql,true,a,n,b,m=>some (.lit (.bool (a == b && n == m)))
 | .neq,true,a,n,b,m=>some (.lit (.bool (!(a == b && n == m))))
 | _,_,_,_,_,_=>none
def AIA (op:BinOp) (k k':IntKind) (a b:Int):Bool→Option IV
 | true=>shI op k a b
 | false=>tst (decide (k=k')) (KP op k a b)
def N8 (P:Program) (t:TypeId):Bool:=match P.underlying t with
 | some (.pointer _)=>true
 | _=>false
def AGT:AV→Option Bool
 | .own _ _=>some false
 | .ownE _ _ _ _=>some false
 | .i (.iref _)=>some false
 | .i (.lit (.pointer p))=>some p.isNone
 | _=>none
def AMF:BinOp→Bool→Option IV
 | .eql,b=>some (.lit (.bool b))
 | .neq,b=>some (.lit (.bool !b))
 | _,_=>none
def AE0 (C:Ctx) (op:BinOp) (t:TypeId):AV→AV→Option IV
 | .i (.lit (.int k a)), .i (.lit (.int k' b))=>AIA op k k' a b (dN op)
 | .i (.lit (.string a)), .i (.lit (.string b))=>tst (!dN op) (ABA op a b)
 | .i (.lit (.bool a)), .i (.lit (.bool b))=>AMG op (bE C.P t) a b
 | .i (.agg [.lit (.bool a), .lit (.int .i64 n)]), .i (.agg [.lit (.bool b), .lit (.int .i64 m)])=>AME op (C.eqT t) a n b m
 | a, .i (.lit (.pointer none))=>tst (N8 C.P t) (bnd (AGT a) fun b=>AMF op b)
 | _,_=>none
def unA:UnOp→AV→Option IV
 | .not, .i (.lit (.bool b))=>some (.lit (.bool !b))
 | .neg, .i (.lit (.int k n))=>some (.lit (.int k (k.wrap (0-n))))
 | _,_=>none
def kD:AV→Nat→Option Nat
 | .i (.lit (.int _ i)),n=>tst (decide (0≤i∧i<n)) (some i.toNat)
 | _,_=>none
def iH:Option AV→Nat→Nat→Option Nat
 | none,dflt,_=>some dflt
 | some (.i (.lit (.int _ i))),_,n=>tst (decide (0≤i∧i≤n)) (some i.toNat)
 | some _,_,_=>none
def iO (k:Nat) (es:List (List IV)):Bool:=es.all fun e=>e.length == k
def mW:List UInt8→List (List IV)
 | []=>[]
 | b::r=>[.lit (.int .u8 b.toNat)]::mW r
def mF (k k' off len:Nat):Option Blk→Option (List (List IV))
 | some (.arr k'' es)=>tst (decide (k'=k∧k''=k∧off+len≤es.length)) (some (window es off len))
 | some (.frz k'' es)=>tst (decide (k'=k∧k''=k∧off+len≤es.length)) (some (window es off len))
 | _=>none
def dE (st:Store) (k:Nat):AV→Option (List (List IV))
 | .nils=>some []
 | .i (.isl es)=>tst (iO k es) (some es)
 | .i (.lit (.string s))=>tst (k == 1) (some (mW s.data.toList))
 | .osl id k' off len=>mF k k' off len (st id)
 | _=>none
def A9 (k by_:Nat) (news:List (List IV)) (st:Store) (nb:Nat):Bool→Option (AV×Store)
 | true=>some (.nils,st)
 | false=>tst (decide (news.length*by_≤140737488355328)) (some (.osl nb k 0 news.length,upd st nb (some (.arr k news))))
def qD (k by_ id k' off len:Nat) (news:List (List IV)) (st:Store) (nb:Nat):Option Blk→Option (AV×Store)
 | some (.arr k'' es)=>tst (decide (k'=k∧k''=k∧off=0∧len≤es.length∧(len+news.length)*by_≤140737488355328))
  (some (.osl nb k 0 (len+news.length),upd (upd st id none) nb (some (.arr k (es.take len++news)))))
 | _=>none
def O8 (k by_:Nat) (news:List (List IV)) (st:Store) (nb:Nat):AV→Option (AV×Store)
 | .nils=>A9 k by_ news st nb news.isEmpty
 | .osl id k' off len=>qD k by_ id k' off len news st nb (st id)
 | _=>none
def AIF (C:Ctx) (t:TypeId) (s x:AV) (st:Store) (nb:Nat):Option (AV×Store) :=
 bnd (EJ (bE C.P t)) fun e=>bnd (gM C.P e) fun k=>bnd (WQ C.P e) fun by_=>bnd (zeroOf C.P e) fun z =>
  tst (decide (0<k∧0<by_∧z.length=k)) (bnd (dE st k x) fun news=>O8 k by_ news st nb s)
def over {α:Type} (es:List α) (off:Nat) (xs:List α):List α:=es.take off++xs++es.drop (off+xs.length)
def l5 (k id k' off len:Nat) (src:List (List IV)) (st:Store):Option Blk→Option (AV×Store)
 | some (.arr k'' es)=>tst (decide (k'=k∧k''=k∧off+len≤es.length))
  (some (.int (min src.length len:Nat),upd st id (some (.arr k (over es off (src.take len))))))
 | _=>none
def EL (k:Nat) (src:List (List IV)) (st:Store):AV→Option (AV×Store)
 | .nils=>some (.int 0,st)
 | .osl id k' off len=>l5 k id k' off len src st (st id)
 | _=>none
def Q8 (C:Ctx) (t:TypeId) (d x:AV) (st:Store):Option (AV×Store) :=
 bnd (EJ (bE C.P t)) fun e=>bnd (gM C.P e) fun k =>
  tst (decide (0<k)) (bnd (dE st k x) fun src=>EL k src st d)
def AF7:Option DK→AV→Option Nat
 | some (.slice _), .nils=>some 0
 | some (.slice _), .i (.isl es)=>some es.length
 | some (.slice _), .osl _ _ _ len=>some len
 | some (.slice _), .i (.lit (.slice _ len _))=>some len
 | some .string, .i (.lit (.string s))=>some s.size
 | _,_=>none
def pE:Builtin→List AV→Option AV
 | .min,[.i (.lit (.int k x)), .i (.lit (.int _ y))]=>some (.i (.lit (.int k (if y<x then y else x))))
 | .max,[.i (.lit (.int k x)), .i (.lit (.int _ y))]=>some (.i (.lit (.int k (if y > x then y else x))))
 | _,_=>none
def Z6:Option DK→Bool
 | some .string=>true
 | _=>false
def wG (C:Ctx) (t:TypeId) (lo hi:Option AV):AV→Option AV
 | .i (.lit (.string s))=>tst (Z6 (bE C.P t)) (bnd (iH hi s.size s.size) fun h=>bnd (iH lo 0 h) fun l=>some (.i (.lit (.string (s.extract l h)))))
 | .i (.isl es)=>bnd (EJ (bE C.P t)) fun e=>bnd (gM C.P e) fun k=>tst (iO k es)
  (bnd (iH hi es.length es.length) fun h=>bnd (iH lo 0 h) fun l=>some (.i (.isl (window es l (h-l)))))
 | .osl id k off len=>bnd (EJ (bE C.P t)) fun e=>bnd (gM C.P e) fun k'=>tst (decide (k'=k))
  (bnd (iH hi len len) fun h=>bnd (iH lo 0 h) fun l=>some (.osl id k (off+l) (h-l)))
 | .nils=>bnd (EJ (bE C.P t)) fun e=>bnd (gM C.P e) fun _=>bnd (iH hi 0 0) fun h=>bnd (iH lo 0 h) fun _=>some .nils
 | _=>none
def JR {α:Type} (place:Nat→Option (Nat×Nat)):List α→List (Nat×List α)→Option (List α)
 | cells,[]=>some cells
 | cells,p::r=>bnd (place p.1) fun q=>tst (decide (p.2.length=q.2)) (bnd (splice cells q.1 p.2) fun l=>JR place l r)
def partsOf (env:Nat→AV):List (Nat×Operand)→Option (List (Nat×List AV))
 | []=>some []
 | p::r=>bnd (cellsOf (ev env p.2)) fun cs=>bnd (partsOf env r) fun l=>some ((p.1,cs)::l)
def MG (P:Program) (t:TypeId) (i:Nat):Option DK→Option (Nat×Nat)
 | some .strct=>bnd (dI P t i) fun f=>bnd (gM P f.1) fun n=>some (f.2,n)
 | some (.array _ e)=>bnd (gM P e) fun n=>some (i*n,n)
 | _=>none
def CJ (P:Program) (t:TypeId) (i:Nat):Option (Nat×Nat):=MG P t i (bE P t)
def nM {α:Type}:List α→Nat→α→Option (List α)
 | [],_,_=>none
 | _::r,0,x=>some (x::r)
 | a::r,n+1,x=>bnd (nM r n x) fun l=>some (a::l)
def lI (k:Nat):List (List IV)→List (Nat×List IV)→Option (List (List IV))
 | es,[]=>some es
 | es,p::r=>tst (p.2.length == k) (bnd (nM es p.1 p.2) fun l=>lI k l r)
def dS (st:Store):List (Nat×List AV)→Option (List (Nat×List IV)×Store)
 | []=>some ([],st)
 | p::r=>bnd (l8 st p.2) fun q=>bnd (dS q.2 r) fun s=>some ((p.1,q.1)::s.1,s.2)
def VI:AV→Option (List IV)→Option (List IV)
 | .i v,some l=>some (v::l)
 | .nils,some l=>some (.isl []::l)
 | _,_=>none
def IZ:List AV→Option (List IV)
 | []=>some []
 | c::r=>VI c (IZ r)
def AGO {α:Type}:Nat→α→List α
 | 0,_=>[]
 | n+1,x=>x::AGO n x
def FL (g:Bool) (n off:Nat):Option Blk→Option AV
 | some (.box cs)=>bnd (cut cs off n) fun l=>nS g l
 | some (.fbox cs)=>bnd (cut cs off n) fun l=>fT g l
 | _=>none
def FK (g:Bool) (n k ix off:Nat):Option Blk→Option AV
 | some (.arr k' es)=>tst (decide (k'=k)) (bnd (fI es ix) fun e=>bnd (cut e off n) fun l=>fT g l)
 | some (.frz k' es)=>tst (decide (k'=k)) (bnd (fI es ix) fun e=>bnd (cut e off n) fun l=>fT g l)
 | _=>none
def loadAt (g:Bool) (n:Nat) (st:Store):AV→Option AV
 | .own id off=>FL g n off (st id)
 | .ownE id k ix off=>FK g n k ix off (st id)
 | .i (.iref cs)=>bnd (cut cs 0 n) fun l=>fT g l
 | _=>none
def D6 (C:Ctx) (t:TypeId) (a:AV) (st:Store):Option AV :=
 bnd (gM C.P t) fun n=>bnd (uT (bE C.P t)) fun g=>loadAt g n st a
def oI (id off:Nat) (xs:List AV) (st:Store):Option Blk→Option Store
 | some (.box cs)=>bnd (splice cs off xs) fun l=>some (upd st id (some (.box l)))
 | _=>none
def mM (id k ix off:Nat) (l:List IV) (st:Store):Option Blk→Option Store
 | some (.arr k' es)=>tst (decide (k'=k)) (bnd (fI es ix) fun e=>bnd (splice e off l) fun e'=>some (upd st id (some (.arr k (es.set ix e')))))
 | _=>none
def storeAt (xs:List AV) (st:Store):AV→Option Store
 | .own id off=>oI id off xs st (st id)
 | .ownE id k ix off=>bnd (l8 st xs) fun p=>mM id k ix off p.1 p.2 (p.2 id)
 | _=>none
def qV:IV→Bool
 | .lit _=>true
 | .isl []=>true
 | .isl (_::_)=>false
 | .agg _=>false
 | .iref _=>false
def vU:List IV→Bool
 | []=>true
 | c::r=>qV c && vU r
def ER:List (List IV)→Bool
 | []=>true
 | e::r=>vU e && ER r
def AB5:IV→Bool
 | .lit _=>true
 | .isl _=>false
 | .agg _=>false
 | .iref _=>false
def AJ:List IV→Bool
 | []=>true
 | c::r=>AB5 c && AJ r
def ABC (k off len:Nat):Option Blk→Option (List (List IV))
 | some (.arr k' es)=>tst (decide (k'=k∧off=0∧len=es.length)) (tst (ER es) (some es))
 | some (.tre k' es)=>tst (decide (k'=k∧off=0∧len=es.length)) (some es)
 | _=>none
def OH (st:Store):AV→Option (IV×Store)
 | .i v=>tst (qV v) (some (v,st))
 | .nils=>some (.isl [],st)
 | .osl id k off len=>bnd (ABC k off len (st id)) fun es=>some (.isl es,upd st id none)
 | _=>none
def IW (st:Store):List AV→Option (List IV×Store)
 | []=>some ([],st)
 | c::r=>bnd (OH st c) fun p=>bnd (IW p.2 r) fun q=>some (p.1::q.1,q.2)
def FV (id k:Nat) (es:List (List IV)) (l:List IV) (es':List (List IV)) (st:Store):Option Store :=
 if AJ l=true then some (upd st id (some (.arr k es')))else tst (ER es) (some (upd st id (some (.tre k es'))))
def gF (id k ix off:Nat) (l:List IV) (st:Store):Option Blk→Option Store
 | some (.arr k' es)=>tst (decide (k'=k)) (bnd (fI es ix) fun e=>bnd (splice e off l) fun e'=>FV id k es l (es.set ix e') st)
 | some (.tre k' es)=>tst (decide (k'=k)) (bnd (fI es ix) fun e=>bnd (splice e off l) fun e'=>some (upd st id (some (.tre k (es.set ix e')))))
 | _=>none
def storeT (xs:List AV) (st:Store):AV→Option Store
 | .own id off=>oI id off xs st (st id)
 | .ownE id k ix off=>bnd (IW st xs) fun p=>gF id k ix off p.1 p.2 (p.2 id)
 | _=>none
def tQ (xs:List AV) (st:Store) (a:AV):Bool→Option Store
 | false=>storeAt xs st a
 | true=>storeT xs st a
def wF (C:Ctx) (t:TypeId) (a x:AV) (st:Store):Option Store :=
 bnd (gM C.P t) fun n=>bnd (cellsOf x) fun xs=>tst (decide (xs.length=n)) (tQ xs st a C.tree)
def gD (st:Store):AV→Option (AV×Store)
 | .fn f cs=>some (.fn f cs,st)
 | .i v=>some (.i v,st)
 | v=>bnd (oL st v) fun p=>some (.i p.1,p.2)
def eX (st:Store):List AV→Option (List AV×Store)
 | []=>some ([],st)
 | v::r=>bnd (gD st v) fun p=>bnd (eX p.2 r) fun q=>some (p.1::q.1,q.2)
def qA (st:Store) (args:List AV):Bool→Option (List AV×Store)
 | true=>some (args,st)
 | false=>eX st args
def iG (r:Nat→Option Nat) (st:Store) (nb:Nat):List Nat→StL→Store
 | _,[]=>st
 | i::ids,b::bs=>upd (iG r st nb ids bs) i (FH r b)
 | [],b::bs=>upd (iG r st (nb+1) [] bs) nb (FH r b)
def lV:List Nat→Nat→Nat→Option Nat
 | [],nb,j=>some (nb+j)
 | i::_,_,0=>some i
 | _::ids,nb,j+1=>lV ids nb j
def wide:Nat:=8
def qO (ids:List Nat) (st:Store) (nb:Nat) (r:AV) (stl:StL):Option (AV×Store) :=
 tst (decide (ids.length≤stl.length∧stl.length≤ids.length+wide)) (some (ren (lV ids nb) r,iG (lV ids nb) st nb ids stl))
def ACS:Option Blk→Bool
 | some _=>true
 | none=>false
def nT (st:Store):List Nat→Bool
 | []=>true
 | i::r=>ACS (st i) && nT st r
def iN (call:dK) (g:FuncId) (args:List AV) (st:Store) (nb:Nat) (ids:List Nat):Option (AV×Store) :=
 tst (nT st ids) (bnd (call g (wK (fH ids) args) (jE (fH ids) st ids)) fun p=>qO ids st nb p.1 p.2)
def eG (call:dK) (own:Bool) (g:FuncId) (args:List AV) (st:Store) (nb:Nat):Option (AV×Store) :=
 bnd (qA st args own) fun p=>iN call g p.1 p.2 nb (reach p.2 DY (aX p.1) [])
def uD:Option DK→Bool
 | some (.slice _)=>true
 | some .string=>true
 | _=>false
def fZ (C:Ctx) (st:Store) (nb:Nat):Builtin→List TypeId→List AV→Option (AV×Store)
 | .len,[t],[x]=>bnd (AF7 (bE C.P t) x) fun n=>some (.int n,st)
 | .append,[t,u],[s,x]=>tst (uD (bE C.P u)) (AIF C t s x st nb)
 | .copy,[t,_],[d,x]=>Q8 C t d x st
 | .min,_,args=>bnd (pE .min args) fun v=>some (v,st)
 | .max,_,args=>bnd (pE .max args) fun v=>some (v,st)
 | _,_,_=>none
def VH:Option DK→Option DK→AV→Option AV
 | some _,some (.int k), .i (.lit (.int _ n))=>some (.i (.lit (.int k (k.wrap n))))
 | some .string,some .string, .i (.lit (.string s))=>some (.i (.lit (.string s)))
 | _,_,_=>none
def YD (a b:AV):AV→Option AV
 | .i (.lit (.bool t))=>some (if t=true then a else b)
 | _=>none
def ACM:AV→Option AV
 | .own id off=>some (.own id off)
 | .ownE id k ix off=>some (.ownE id k ix off)
 | .i (.iref cs)=>some (.i (.iref cs))
 | .i (.lit (.pointer (some a)))=>some (.i (.lit (.pointer (some a))))
 | .fn (.func g) cs=>some (.fn (.func g) cs)
 | _=>none
def PH (C:Ctx) (t:TypeId) (st:Store) (nb:Nat):AV→AV→Option (AV×Store)
 | .i (.lit (.int .i64 l)), .i (.lit (.int .i64 c)) =>
  bnd (EJ (bE C.P t)) fun e=>bnd (gM C.P e) fun k=>bnd (WQ C.P e) fun by_=>bnd (zeroOf C.P e) fun z=>bnd (IZ (dM z)) fun zi =>
   tst (decide (0<k∧0<by_∧0≤l∧l≤c∧(by_:Int)*c≤281474976710656∧zi.length=k))
    (some (.osl nb k 0 l.toNat,upd st nb (some (.arr k (List.replicate l.toNat zi)))))
 | _,_=>none
def gY (fo:Nat):AV→Option AV
 | .own id off=>some (.own id (off+fo))
 | .ownE id k ix off=>some (.ownE id k ix (off+fo))
 | .i (.iref cs)=>tst (decide (fo≤cs.length)) (some (.i (.iref (dropE fo cs))))
 | .i (.lit (.pointer (some ⟨b,off,none⟩)))=>some (.i (.lit (.pointer (some ⟨b,off+fo,none⟩))))
 | _=>none
def I8 (fo n:Nat) (g:Bool):AV→Option AV
 | .agg cs=>bnd (cut cs fo n) fun l=>nS g l
 | .i (.agg cs)=>bnd (cut cs fo n) fun l=>fT g l
 | _=>none
def DJ (k:Nat) (ix:AV):AV→Option AV
 | .i (.isl es)=>bnd (kD ix es.length) fun j=>bnd (fI es j) fun cs=>tst (cs.length == k) (some (.i (.iref cs)))
 | .osl id k' off len=>bnd (kD ix len) fun j=>tst (k' == k) (some (.ownE id k (off+j) 0))
 | .i (.lit (.slice (some ⟨b,off,none⟩) len _))=>bnd (kD ix len) fun j=>some (.i (.lit (.pointer (some ⟨b,off+j*k,none⟩))))
 | _=>none
def PQ (k n:Nat) (ix:AV):AV→Option AV
 | .own id off=>bnd (kD ix n) fun j=>some (.own id (off+j*k))
 | _=>none
def kJ (C:Ctx) (x ix:AV):Option DK→Option AV
 | some (.slice e)=>bnd (gM C.P e) fun k=>DJ k ix x
 | some (.array n e)=>bnd (gM C.P e) fun k=>PQ k n ix x
 | _=>none
def HV (C:Ctx) (ix:AV):Option DK→AV→Option AV
 | some .string, .i (.lit (.string s))=>bnd (kD ix s.size) fun j=>bnd (fI s.data.toList j) fun b=>some (.i (.lit (.int .u8 b.toNat)))
 | some (.array n e), .i (.agg cs)=>bnd (gM C.P e) fun k=>bnd (uT (bE C.P e)) fun g=>bnd (kD ix n) fun j=>bnd (cut cs (j*k) k) fun l=>fT g l
 | _,_=>none
def uK (j:Nat):AV→Option AV
 | .tup vs=>vs[j]?
 | _=>none
def nJ (C:Ctx) (e:TypeId) (n:Nat) (st:Store) (nb:Nat) (ps:List (Nat×List AV)):Option (AV×Store) :=
 bnd (gM C.P e) fun k=>bnd (zeroOf C.P e) fun z=>bnd (IZ (dM z)) fun zi =>
  tst (decide (0<k∧n*k≤16777216∧zi.length=k)) (bnd (dS st ps) fun q=>bnd (lI k (AGO n zi) q.1) fun es =>
   some (.osl nb k 0 n,upd q.2 nb (some (.arr k es))))
def ACO (cs:List AV):Fn→Option AV
 | .func g=>some (.fn (.func g) cs)
 | _=>none
def dU (C:Ctx) (env:Nat→AV) (st:Store) (nb:Nat):Op→Option (AV×Store)
 | .move x=>some (ev env x,st)
 | .assign x=>some (ev env x,st)
 | .pick c a b=>bnd (YD (ev env a) (ev env b) (ev env c)) fun v=>some (v,st)
 | .alloc t=>bnd (zeroOf C.P t) fun z=>some (.own nb 0,upd st nb (some (.box (dM z))))
 | .box _ x=>bnd (cellsOf (ev env x)) fun cs=>some (.own nb 0,upd st nb (some (.box cs)))
 | .build t parts=>bnd (uT (bE C.P t)) fun g=>tst g (bnd (zeroOf C.P t) fun z=>bnd (partsOf env parts.toList) fun ps=>bnd (JR (CJ C.P t) (dM z) ps) fun cs=>some (MN cs,st))
 | .buildSlice t n parts=>bnd (EJ (bE C.P t)) fun e=>bnd (partsOf env parts.toList) fun ps=>nJ C e n st nb ps
 | .load t a=>bnd (D6 C t (ev env a) st) fun v=>some (v,st)
 | .store t a x=>bnd (wF C t (ev env a) (ev env x) st) fun st1=>some (.i (.lit undef),st1)
 | .nilCheck x=>bnd (ACM (ev env x)) fun v=>some (v,st)
 | .binOp op t x y _=>bnd (AE0 C op t (ev env x) (ev env y)) fun v=>some (.i v,st)
 | .unOp op _ x=>bnd (unA op (ev env x)) fun v=>some (.i v,st)
 | .convert s d x=>bnd (VH (bE C.P s) (bE C.P d) (ev env x)) fun v=>some (v,st)
 | .makeSlice t l c=>PH C t st nb (ev env l) (ev env c)
 | .slice t x lo hi none=>bnd (wG C t (evO env lo) (evO env hi) (ev env x)) fun v=>some (v,st)
 | .fieldAddr s x f=>bnd (dI C.P s f) fun p=>bnd (gM C.P p.1) fun n=>tst (decide (0<n)) (bnd (gY p.2 (ev env x)) fun v=>some (v,st))
 | .field s x f=>bnd (dI C.P s f) fun p=>bnd (gM C.P p.1) fun n=>bnd (uT (bE C.P p.1)) fun g=>bnd (I8 p.2 n g (ev env x)) fun v=>some (v,st)
 | .indexAddr t x ix=>bnd (kJ C (ev env x) (ev env ix) (bE C.P t)) fun v=>some (v,st)
 | .index t x ix=>bnd (HV C (ev env ix) (bE C.P t) (ev env x)) fun v=>some (v,st)
 | .extract x j=>bnd (uK j (ev env x)) fun v=>some (v,st)
 | .makeFunc f first captured=>tst first.toList.isEmpty (bnd (ACO (evL env captured.toList) f) fun v=>some (v,st))
 | .call ⟨.builtin b,args,ts⟩=>fZ C st nb b ts.toList (evL env args.toList)
 | _=>none
def rE:Op→Option (Operand×List Operand)
 | .call ⟨.value f,args,_⟩=>some (f,args.toList)
 | _=>none
def uS:FuncId:=1000000007
def F9 (C:Ctx) (call:dK) (args:List AV) (st:Store) (nb:Nat):AV→Option (AV×Store)
 | .fn (.func g) caps=>if g=uS then none else eG call (C.ownArgs g) g (args++caps) st nb
 | .fn (.yield 0) [.own id 0]=>eG call true uS (.fn (.yield 0) [.own id 0]::args) st nb
 | _=>none
def stepW (C:Ctx) (call:dK) (op:Op) (env:Nat→AV) (st:Store) (nb:Nat):Option (Operand×List Operand)→Option (AV×Store)
 | some p=>F9 C call (evL env p.2) st nb (ev env p.1)
 | none=>dU C env st nb op
def bS (C:Ctx) (call:dK) (op:Op) (env:Nat→AV) (st:Store) (nb:Nat):Option (AV×Store):=stepW C call op env st nb (rE op)
structure RS where
 env:Nat→AV
 st:Store
 log:List (Nat×List Nat×Bool)
def QM (want:Bool):AV→Option Bool
 | .i (.lit (.bool b))=>some (b == want)
 | .i (.lit (.tuple _))=>some false
 | _=>none
def L8 (env:Nat→AV) (want:Bool):Option Nat→Option Bool
 | none=>some false
 | some d=>QM want (env d)
def tH (ops:List Oper) (env:Nat→AV):Option (Nat×Bool)→Option Bool
 | none=>some true
 | some p=>L8 env p.2 ((ops[p.1]?).bind (·.dst))
def eP:List (Nat×Operand)→List Operand
 | []=>[]
 | p::r=>p.2::eP r
def bB (env:Nat→AV):Op→List Nat×Bool
 | .load _ a=>(dD (ev env a),true)
 | .store _ a x=>(dD (ev env a)++dD (ev env x),false)
 | .buildSlice _ _ parts=>(aX (evL env (eP parts.toList)),false)
 | .call ⟨.builtin .append,args,_⟩=>(aX (evL env args.toList),false)
 | .call ⟨.builtin .copy,args,_⟩=>(aX (evL env args.toList),false)
 | .call ⟨.value f,args,_⟩=>(dD (ev env f)++aX (evL env args.toList),false)
 | _=>([],true)
def tJ (after:List Edge) (j:Nat):Bool:=after.any fun e=>Region.binds .any e && e.on == j
def qP (all:List Oper) (k:Nat):List Edge:=match all[k]? with|some o=>o.after.toList|none=>[]
def eY (all:List Oper):Nat→List Edge→Nat→Bool
 | 0,after,j=>tJ after j
 | n+1,after,j=>if tJ after j=true then true else after.any fun e=>Region.binds .any e && eY all n (qP all e.on) j
def wN:List Nat→List Nat→Bool
 | [],_=>true
 | x::xs,ys=>!FM ys x && wN xs ys
def UU (all:List Oper) (after:List Edge) (ns:List Nat) (ro:Bool):List (Nat×List Nat×Bool)→Bool
 | []=>true
 | e::r=>(if(wN ns e.2.1 || (ro && e.2.2))=true then true else eY all 3 after e.1) && UU all after ns ro r
def EY (i:Nat) (ro:Bool) (log:List (Nat×List Nat×Bool)):List Nat→List (Nat×List Nat×Bool)
 | []=>log
 | n::ns=>(i,n::ns,ro)::log
def sS (env:Nat→AV):Option Tmp→AV→Nat→AV
 | some d,v=>upd env d v
 | none,_=>env
def allIn:List Nat→List Nat→Bool
 | [],_=>true
 | x::xs,ys=>FM ys x && allIn xs ys
def PG (base:Nat) (all:List Oper) (after:List Edge):List Nat→Bool
 | []=>true
 | n::ns=>(if n<base then true else eY all 3 after ((n-base) / wide)) && PG base all after ns
def AM7 (base:Nat) (all:List Oper) (o:Oper) (st:Store) (is ns:List Nat) (ro:Bool) (log:List (Nat×List Nat×Bool)):Bool :=
 allIn is ns && ((if ro=true then true else allIn (nW st ns) ns) && (PG base all o.after.toList ns && UU all o.after.toList ns ro log))
def wE (st:Store) (p:List Nat×Bool):List Nat×Bool:=if p.2=true then p else(reach st DY p.1 [],p.2)
def AQH (draw:Bool) (base:Nat) (all:List Oper) (o:Oper) (R:RS):Bool :=
 if draw=true then AM7 base all o R.st (bB R.env o.op).1 (wE R.st (bB R.env o.op)).1 (bB R.env o.op).2 R.log else true
def MK (draw:Bool) (o:Oper) (i:Nat) (R:RS):List (Nat×List Nat×Bool) :=
 if draw=true then EY i (bB R.env o.op).2 R.log (wE R.st (bB R.env o.op)).1 else []
def cZ (C:Ctx) (call:dK) (all:List Oper) (draw:Bool) (base:Nat):List Oper→Nat→RS→Option RS
 | [],_,R=>some R
 | o::os,i,R=>bnd (tH all R.env o.guard) fun b =>
  if b=true then
   tst (AQH draw base all o R) (bnd (bS C call o.op R.env R.st (base+wide*i)) fun p =>
    cZ C call all draw base os (i+1) { env:=sS R.env o.dst p.1,st:=p.2,log:=MK draw o i R })
  else cZ C call all draw base os (i+1) { R with env:=sS R.env o.dst (.i (.lit undef)) }
structure AS where
 env:List (Nat×AV)
 st:StL
def mD (r:Nat→Option Nat) (env:Nat→AV):List Nat→List (Nat×AV)
 | []=>[]
 | t::G=>(t,ren r (env t))::mD r env G
def vQ (env:Nat→AV):List Nat→List AV
 | []=>[]
 | t::G=>env t::vQ env G
def uZ (G:List Nat) (env:Nat→AV) (st:Store) (ids:List Nat):AS :=
 { env:=mD (fH ids) env G,st:=jE (fH ids) st ids }
def settle (G:List Nat) (na:Nat) (env:Nat→AV) (st:Store):AS:=uZ G env st (gH st na (vQ env G))
abbrev XR:=Option (AExit×AS)
def UI:XR→(AS→XR)→XR
 | some (.normal,S),f=>f S
 | some (.exit i,S),_=>some (.exit i,S)
 | some (.ret,S),_=>some (.ret,S)
 | none,_=>none
@[congr] theorem AIW {x y:XR} {f:AS→XR} (h:x=y):UI x f=UI y f:=by rw[h]
def EP (id:Nat):XR→XR
 | some (.normal,S)=>some (.normal,S)
 | some (.exit i,S)=>if i=id then some (.normal,S)else some (.exit i,S)
 | some (.ret,S)=>some (.ret,S)
 | none=>none
def QB:AV→XR→XR→XR
 | .i (.lit (.bool t)),a,b=>if t=true then a else b
 | _,_,_=>none
theorem jC {v:AV} {a b:XR} {r:AExit×AS}:QB v a b=some r↔∃ t:Bool,v=.i (.lit (.bool t))∧(if t=true then a else b)=some r:=by
 unfold QB;constructor
 ·intro h;split at h
  ·rename_i t;exact⟨t,rfl,h⟩
  ·cases h
 ·rintro⟨t,rfl,h⟩;exact h
@[congr] theorem AHY {x y:AV} {a b:XR} (h:x=y):QB x a b=QB y a b:=by rw[h]
def ZV (G:List Nat) (na:Nat):Option RS→XR
 | some R=>some (.normal,settle G na R.env R.st)
 | none=>none
def GH:List AV→AV
 | [v]=>v
 | vs=>.tup vs
def PE (ws:List AV) (st:Store) (ids:List Nat):Option (AV×StL):=some (GH (wK (fH ids) ws),jE (fH ids) st ids)
def bL:Code→Bool
 | .seq a b=>bL a && bL b
 | .cond _ a b=>bL a && bL b
 | .block _ b=>bL b
 | .loop b=>bL b
 | .rangeFunc _ _ _ _=>false
 | _=>true
def AJY:Operand→List Nat
 | .tmp t=>[t]
 | _=>[]
def AEL:List Operand→List Nat
 | []=>[]
 | x::r=>AJY x++AEL r
def LJ:Code→List Nat
 | .region _ ops _=>ops.toList.flatMap fun o=>AEL o.op.operands.toList
 | .seq a b=>LJ a++LJ b
 | .cond x a b=>AJY x++(LJ a++LJ b)
 | .block _ b=>LJ b
 | .loop b=>LJ b
 | _=>[]
def AKY (G:List Nat) (a b:Code):List Nat:=G.filter fun t=>FM (LJ a++LJ b) t
def Q5:List Nat→List AV→List (Nat×AV)
 | t::ts,v::vs=>(t,v)::Q5 ts vs
 | _,_=>[]
def KD:List Nat→List AV→List (Nat×AV)→List (Nat×AV)
 | p::ps,a::as1,E=>KD ps as1 ((p,a)::E)
 | _,_,E=>E
def setSt:StL→Nat→Option Blk→StL
 | [],_,_=>[]
 | _::r,0,x=>x::r
 | b::r,n+1,x=>b::setSt r n x
def u7 (G:List Nat) (na:Nat) (env:Nat→AV) (L:Nat) (st:Store):Option Blk→XR
 | some (.loop _ _ .ready)=>some (.normal,settle G na env (upd st L none))
 | some (.loop _ _ (.over e))=>some (e,settle G na env (upd st L none))
 | _=>none
def qI (G:List Nat) (na:Nat) (env:Nat→AV) (L:Nat):Option (AV×Store)→XR
 | some p=>u7 G na env L p.2 (p.2 L)
 | none=>none
def M9 (call:dK) (G:List Nat) (na:Nat) (ps:List Nat) (a b:Code) (env:Nat→AV) (st:Store) (L:Nat) (rs:List Nat):AV→XR
 | .fn (.func it) caps=>if it=uS then none else
  qI G na env L (eG call true it (.fn (.yield 0) [.own L 0]::caps) (upd st L (some (.loop ⟨G,rs,ps,a,b⟩ (vQ env rs) .ready))) (L+1))
 | _=>none
def nP (call:dK) (G:List Nat) (na:Nat) (g:Operand) (ps:List Nat) (a b:Code) (S:AS):XR :=
 if(bL a && bL b)=true then M9 call G na ps a b (aT S.env) (bD S.st) S.st.length (AKY G a b) (ev (aT S.env) g)else none
def ADS (ex:Code→AS→XR) (id:Nat) (S:AS) (b:Code):Option Blk→XR
 | some (.loop R cs .ready)=>ex b ⟨S.env,setSt S.st id (some (.loop R cs .busy))⟩
 | _=>none
def J7:AExit→LSt
 | .normal=>.ready
 | e=>.over e
def DW:AExit→Bool
 | .normal=>true
 | _=>false
def R6 (na:Nat) (e:AExit) (id:Nat) (S:AS):Option Blk→Option (AV×StL)
 | some (.loop R cs .busy)=>PE [.bool (DW e)] (bD (setSt S.st id (some (.loop R cs (J7 e))))) (gH (bD (setSt S.st id (some (.loop R cs (J7 e))))) na [.bool (DW e)])
 | _=>none
def tZ (na id:Nat):XR→Option (AV×StL)
 | some (e,S)=>R6 na e id S (bD S.st id)
 | none=>none
def AE2:XR→(AS→XR)→XR
 | some (.normal,S),f=>f S
 | _,_=>none
@[congr] theorem AJH {x y:XR} {f:AS→XR} (h:x=y):AE2 x f=AE2 y f:=by rw[h]
def R7 (ex:List Nat→Nat→Code→AS→XR) (id:Nat) (args:List AV) (st:StL):Option Blk→Option (AV×StL)
 | some (.loop R cs .ready)=>tst (decide (args.length=R.ps.length))
  (tZ st.length id (AE2 (ex R.G st.length R.asg ⟨KD R.ps args (Q5 R.ts cs),st⟩) fun S=>ADS (ex R.G st.length) id S R.body (bD S.st id)))
 | _=>none
def GD (ex:List Nat→Nat→Code→AS→XR) (st:StL):List AV→Option (AV×StL)
 | .fn (.yield 0) [.own id 0]::args=>tst (decide (id<st.length)) (R7 ex id args st (bD st id))
 | _=>none
def exec (C:Ctx) (call:dK) (G:List Nat) (na:Nat):Nat→Code→AS→XR
 | 0,_,_=>none
 | n+1,c,S =>
  match c with
  | .skip=>some (.normal,S)
  | .region _ ops draw=>ZV G na (cZ C call ops.toList draw S.st.length ops.toList 0 { env:=aT S.env,st:=bD S.st,log:=[] })
  | .seq a b=>UI (exec C call G na n a S) fun S1=>exec C call G na n b S1
  | .cond x a b=>QB (ev (aT S.env) x) (exec C call G na n a S) (exec C call G na n b S)
  | .block id b=>EP id (exec C call G na n b S)
  | .loop b=>UI (exec C call G na n b S) fun S1=>exec C call G na n (.loop b) S1
  | .exit id=>some (.exit id,S)
  | .ret=>some (.ret,S)
  | .rangeFunc g ps a b=>nP call G na g ps.toList a b S
  | _=>none
def R8 (C:Ctx) (env:Nat→AV) (st:Store):ResultVar→Option AV
 | .tmp t=>some (env t)
 | .cell a t=>D6 C t (env a) st
def BZ (C:Ctx) (env:Nat→AV) (st:Store):List ResultVar→Option (List AV)
 | []=>some []
 | r::rs=>bnd (R8 C env st r) fun v=>bnd (BZ C env st rs) fun l=>some (v::l)
def pK (st:Store):List AV→Option (List AV×Store)
 | []=>some ([],st)
 | v::r=>bnd (oL st v) fun p=>bnd (pK p.2 r) fun q=>some (.i p.1::q.1,q.2)
def vL (st:Store):AV→Option (AV×Store)
 | .agg cs=>bnd (oL st (.agg cs)) fun p=>some (.i p.1,p.2)
 | v=>some (v,st)
def rD (st:Store):List AV→Option (List AV×Store)
 | []=>some ([],st)
 | v::r=>bnd (vL st v) fun p=>bnd (rD p.2 r) fun q=>some (p.1::q.1,q.2)
def C8 (st:Store):List AV→Option (List AV×Store)
 | [v]=>some ([v],st)
 | vs=>rD st vs
def R9 (st:Store) (vs:List AV):Bool→Option (List AV×Store)
 | true=>C8 st vs
 | false=>pK st vs
def RA (st:Store) (vs:List AV) (keep:Bool):Bool→Option (List AV×Store)
 | false=>R9 st vs keep
 | true=>if keep=true then some (vs,st)else pK st vs
def finish (C:Ctx) (keep:Bool) (rs:List ResultVar) (na:Nat) (S:AS):Option (AV×StL) :=
 bnd (BZ C (aT S.env) (bD S.st) rs) fun vs=>bnd (RA (bD S.st) vs keep C.tree) fun p=>PE p.1 p.2 (gH p.2 na p.1)
def WN (C:Ctx) (keep:Bool) (rs:List ResultVar) (na:Nat):XR→Option (AV×StL)
 | some (.normal,S)=>finish C keep rs na S
 | some (.ret,S)=>finish C keep rs na S
 | some (.exit _,_)=>none
 | none=>none
def qW:List AV→Nat→AV
 | [],_=>.junk
 | a::_,0=>a
 | _::r,n+1=>qW r n
def EH (args:List AV):List Nat→List (Nat×AV)
 | []=>[]
 | t::G=>(t,qW args t)::EH args G
def enter (G:List Nat) (args:List AV) (st:StL):AS:={ env:=EH args G,st:=st }
def gK (C:Ctx):Nat→dK
 | 0,_,_,_=>none
 | n+1,f,args,st =>
  if f=uS then GD (fun G na c S=>exec C (gK C n) G na n c S) st args else
  match C.prim f with
  | some p=>p args st
  | none =>
   match C.P.funcs[f]? with
   | none=>none
   | some fn =>
    match fn.body with
    | none=>none
    | some c=>WN C (C.keepRes f) fn.results.toList st.length (exec C (gK C n) (C.G f) st.length n c (enter (C.G f) args st))
section lim
noncomputable def lim {α:Type} (f:Nat→Option α):Option α:=open Classical in if h:∃ r,∃ n,f n=some r then some h.choose else none
def AYV {α:Type} (f:Nat→Option α):Prop:=∀ n m r,n≤m→f n=some r→f m=some r
theorem D9 {α:Type} {f:Nat→Option α} (hm:AYV f) (r:α):lim f=some r↔∃ n,f n=some r:=by
 unfold lim;constructor
 ·intro h;split at h
  ·rename_i h';obtain⟨n,hn⟩:=h'.choose_spec;exact⟨n,by rw[hn];exact h⟩
  ·cases h
 ·rintro⟨n,hn⟩
  have h':∃ r,∃ n,f n=some r:=⟨r,n,hn⟩
  rw[dif_pos h'];obtain⟨m,hm'⟩:=h'.choose_spec;have h1:=hm n (max n m) r (y7 _ _) hn;have h2:=hm m (max n m) _ (yE _ _) hm';rw[h1]at h2;exact h2.symm
theorem ACW {α:Type} {f:Nat→Option α} (h:lim f=none) (n:Nat):f n=none:=by
 cases hn:f n with
 | none=>rfl
 | some r =>
  exfalso;unfold lim at h;rw[dif_pos ⟨r,n,hn⟩]at h
  cases h
theorem nY {α:Type} {a b:Option α} (h:∀ r,a=some r↔b=some r):a=b:=by
 cases a with
 | none=>cases b with
  | none=>rfl
  | some r=>exact absurd ((h r).2 rfl) (by simp)
 | some r=>exact((h r).1 rfl).symm
end lim
def jM (c d:dK):Prop:=∀ f a s r,c f a s=some r→d f a s=some r
theorem jM.refl (c:dK):jM c c:=fun _ _ _ _ h=>h
theorem K6 {c d:dK} (h:jM c d) {g:FuncId} {args:List AV} {st:Store} {nb:Nat} {ids:List Nat} {r:AV×Store} (hr:iN c g args st nb ids=some r) :
 iN d g args st nb ids=some r:=by
 unfold iN at *
 obtain⟨h0,h1⟩:=aP.1 hr;obtain⟨p,h1,h2⟩:=aH.1 h1;exact aP.2 ⟨h0,aH.2 ⟨p,h _ _ _ _ h1,h2⟩⟩
theorem sM {c d:dK} (h:jM c d) {own:Bool} {g:FuncId} {args:List AV} {st:Store} {nb:Nat} {r:AV×Store} (hr:eG c own g args st nb=some r) :
 eG d own g args st nb=some r:=by
 unfold eG at *
 obtain⟨p,h1,h2⟩:=aH.1 hr;exact aH.2 ⟨p,h1,K6 h h2⟩
theorem U5 {C:Ctx} {c d:dK} (h:jM c d) {f:AV} {args:List AV} {st:Store} {nb:Nat} {r:AV×Store} (hr:F9 C c args st nb f=some r) :
 F9 C d args st nb f=some r:=by
 unfold F9 at *
 split at hr
 ·split at hr
  ·cases hr
  ·rename_i hg;rw[if_neg hg];exact sM h hr
 ·exact sM h hr
 ·cases hr
theorem MB {c d:dK} (h:jM c d) {G:List Nat} {na:Nat} {g:Operand} {ps:List Nat} {a b:Code} {S:AS} {r:AExit×AS} (hr:nP c G na g ps a b S=some r) :
 nP d G na g ps a b S=some r:=by
 unfold nP at *
 split at hr
 ·rename_i hn;rw[if_pos hn];unfold M9 at *
  split at hr
  ·split at hr
   ·cases hr
   ·rename_i hg;rw[if_neg hg];generalize hx:eG c _ _ _ _ _=x at hr
    cases x with
    | none=>simp[qI]at hr
    | some p=>rw[sM h hx];exact hr
  ·cases hr
 ·cases hr
theorem OZ {ex ex':List Nat→Nat→Code→AS→XR} (h:∀ G na c S r,ex G na c S=some r→ex' G na c S=some r) {st:StL} {args:List AV} {r:AV×StL}
 (hr:GD ex st args=some r):GD ex' st args=some r:=by
 unfold GD at *
 split at hr
 ·rename_i id as1;obtain⟨h0,h1⟩:=aP.1 hr;refine aP.2 ⟨h0,?_⟩;unfold R7 at *
  split at h1
  ·rename_i R cs hb;obtain⟨h2,h3⟩:=aP.1 h1;refine aP.2 ⟨h2,?_⟩
   cases hx:ex R.G st.length R.asg ⟨KD R.ps as1 (Q5 R.ts cs),st⟩with
   | none=>rw[hx]at h3;simp[AE2,tZ]at h3
   | some p =>
    obtain⟨e,S⟩:=p;rw[h _ _ _ _ _ hx];rw[hx]at h3
    cases e with
    | normal =>
     simp only[AE2]at h3 ⊢;unfold ADS at *
     split at h3
     ·rename_i R' cs' hb';generalize hy:ex R.G st.length R.body _=y at h3
      cases y with
      | none=>simp[tZ]at h3
      | some q=>rw[h _ _ _ _ _ hy];exact h3
     ·simp[tZ]at h3
    | exit k=>simp[AE2,tZ]at h3
    | ret=>simp[AE2,tZ]at h3
  ·cases h1
 ·cases hr
theorem BP {C:Ctx} {c d:dK} (h:jM c d) {op:Op} {env:Nat→AV} {st:Store} {nb:Nat} {r:AV×Store} (hr:bS C c op env st nb=some r) :
 bS C d op env st nb=some r:=by
 unfold bS at *
 cases hg:rE op with
 | none=>rw[hg]at hr;exact hr
 | some p=>rw[hg]at hr;exact U5 h hr
theorem nN {C:Ctx} {c d:dK} (h:jM c d) {all:List Oper} {draw:Bool} {base:Nat}:∀ (os:List Oper) (i:Nat) (R R':RS),
 cZ C c all draw base os i R=some R'→cZ C d all draw base os i R=some R'
 | [],_,_,_,hr=>hr
 | o::os,i,R,R',hr=>by
  unfold cZ at *
  obtain⟨b,h1,h2⟩:=aH.1 hr;refine aH.2 ⟨b,h1,?_⟩
  cases b with
  | false=>simp only[yZ,if_false]at h2 ⊢;exact nN h os _ _ _ h2
  | true =>
   simp only[if_true]at h2 ⊢;obtain⟨h3,h4⟩:=aP.1 h2;obtain⟨p,h5,h6⟩:=aH.1 h4;exact aP.2 ⟨h3,aH.2 ⟨p,BP h h5,nN h os _ _ _ h6⟩⟩
theorem fK {C:Ctx} {c d:dK} (h:jM c d) {G:List Nat} {na:Nat}:∀ (n m:Nat),n≤m→∀ (code:Code) (S:AS) (r:AExit×AS),
 exec C c G na n code S=some r→exec C d G na m code S=some r:=by
 intro n
 induction n with
 | zero=>intro m _ code S r hr;simp[exec]at hr
 | succ n ih =>
  intro m hm code S r hr
  obtain⟨m,rfl⟩:∃ k,m=k+1:=⟨m-1,by omega⟩
  have hm':n≤m:=by omega
  cases code with
  | skip=>simpa [exec]using hr
  | region id ops draw =>
   simp only[exec]at hr ⊢
   cases hx:cZ C c ops.toList draw S.st.length ops.toList 0 { env:=aT S.env,st:=bD S.st,log:=[] }with
   | none=>rw[hx]at hr;cases hr
   | some R=>rw[nN h _ _ _ _ hx];rw[hx]at hr;exact hr
  | seq a b =>
   simp only[exec]at hr ⊢
   cases hx:exec C c G na n a S with
   | none=>rw[hx]at hr;cases hr
   | some p =>
    obtain⟨e,S1⟩:=p;rw[ih m hm' _ _ _ hx];rw[hx]at hr
    cases e with
    | normal=>exact ih m hm' _ _ _ hr
    | exit k=>exact hr
    | ret=>exact hr
  | cond x a b =>
   simp only[exec]at hr ⊢;obtain⟨t,h1,h2⟩:=jC.1 hr;refine jC.2 ⟨t,h1,?_⟩
   cases t with
   | true=>exact ih m hm' _ _ _ h2
   | false=>exact ih m hm' _ _ _ h2
  | block id b =>
   simp only[exec]at hr ⊢
   cases hx:exec C c G na n b S with
   | none=>rw[hx]at hr;cases hr
   | some p=>rw[ih m hm' _ _ _ hx];rw[hx]at hr;exact hr
  | loop b =>
   simp only[exec]at hr ⊢
   cases hx:exec C c G na n b S with
   | none=>rw[hx]at hr;cases hr
   | some p =>
    obtain⟨e,S1⟩:=p;rw[ih m hm' _ _ _ hx];rw[hx]at hr
    cases e with
    | normal=>exact ih m hm' _ _ _ hr
    | exit k=>exact hr
    | ret=>exact hr
  | rangeFunc _ _ _ _=>simp only[exec]at hr ⊢;exact MB h hr
  | exit id=>simpa [exec]using hr
  | scope _=>simp[exec]at hr
  | label _=>simp[exec]at hr
  | goto _=>simp[exec]at hr
  | ret=>simpa [exec]using hr
  | refuse _=>simp[exec]at hr
theorem mV {C:Ctx}:∀ (n m:Nat),n≤m→jM (gK C n) (gK C m):=by
 intro n
 induction n with
 | zero=>intro m _ f a s r hr;simp[gK]at hr
 | succ n ih =>
  intro m hm f a s r hr
  obtain⟨m,rfl⟩:∃ k,m=k+1:=⟨m-1,by omega⟩
  have hm':n≤m:=by omega
  simp only[gK]at hr ⊢;split at hr
  ·rename_i hy;rw[if_pos hy];exact OZ (fun G na c S r hx=>fK (ih m hm') n m hm' _ _ _ hx) hr
  ·rename_i hy;rw[if_neg hy];split at hr
   ·exact hr
   ·split at hr
    ·cases hr
    ·split at hr
     ·cases hr
     ·rename_i c _
      cases hx:exec C (gK C n) (C.G f) s.length n c (enter (C.G f) a s)with
      | none=>rw[hx]at hr;simp[WN]at hr
      | some p=>rw[fK (ih m hm') n m hm' _ _ _ hx];rw[hx]at hr;exact hr
noncomputable def aI (C:Ctx):dK:=fun f args st=>lim fun n=>gK C n f args st
theorem l6 {C:Ctx} {f:FuncId} {args:List AV} {st:StL} (r:AV×StL):aI C f args st=some r↔∃ n,gK C n f args st=some r :=
 D9 (fun n m _ h hr=>mV n m h _ _ _ _ hr) r
theorem ADQ (C:Ctx) (n:Nat):jM (gK C n) (aI C):=fun _ _ _ r hr=>(l6 r).2 ⟨n,hr⟩
noncomputable def eT (C:Ctx) (G:List Nat) (na:Nat) (c:Code) (S:AS):Option (AExit×AS):=lim fun n=>exec C (aI C) G na n c S
theorem dC {C:Ctx} {G:List Nat} {na:Nat} {c:Code} {S:AS} (r:AExit×AS):eT C G na c S=some r↔∃ n,exec C (aI C) G na n c S=some r :=
 D9 (fun n m _ h hr=>fK (jM.refl _) n m h _ _ _ hr) r
theorem jB {C:Ctx} {G:List Nat} {na:Nat} {c:Code} {S:AS} {r:AExit×AS} (n:Nat) (h:exec C (aI C) G na n c S=some r):eT C G na c S=some r:=(dC r).2 ⟨n,h⟩
theorem V9 {C:Ctx} {G:List Nat} {na:Nat} {c:Code} {S:AS} (h:eT C G na c S=none) (n:Nat):exec C (aI C) G na n c S=none:=ACW h n
theorem vR {C:Ctx} {own:Bool} {g:FuncId} {args:List AV} {st:Store} {nb:Nat} {r:AV×Store} (h:eG (aI C) own g args st nb=some r):∃ N,eG (gK C N) own g args st nb=some r:=by
 unfold eG iN at *
 obtain⟨q,h1,h2⟩:=aH.1 h;obtain⟨h0,h2⟩:=aP.1 h2;obtain⟨u,h3,h4⟩:=aH.1 h2;obtain⟨N,hN⟩:=(l6 _).1 h3;exact⟨N,aH.2 ⟨q,h1,aP.2 ⟨h0,aH.2 ⟨u,hN,h4⟩⟩⟩⟩
theorem P8 {C:Ctx} {G:List Nat} {na:Nat} {g:Operand} {ps:List Nat} {a b:Code} {S:AS} {r:AExit×AS} (hr:nP (aI C) G na g ps a b S=some r) :
 ∃ N,nP (gK C N) G na g ps a b S=some r:=by
 unfold nP at *
 split at hr
 ·rename_i hn;unfold M9 at *
  split at hr
  ·split at hr
   ·cases hr
   ·rename_i hg;generalize hx:eG (aI C) _ _ _ _ _=x at hr
    cases x with
    | none=>simp[qI]at hr
    | some p =>
     obtain⟨N,hN⟩:=vR hx;exact⟨N,by rw[if_pos hn,if_neg hg,hN];exact hr⟩
  ·cases hr
 ·cases hr
theorem U3 {C:Ctx} {op:Op} {env:Nat→AV} {st:Store} {nb:Nat} {r:AV×Store} (h:bS C (aI C) op env st nb=some r):∃ N,bS C (gK C N) op env st nb=some r:=by
 unfold bS at *
 cases hg:rE op with
 | none=>rw[hg]at h;exact⟨0,h⟩
 | some p =>
  rw[hg]at h;simp only[stepW]at h ⊢;unfold F9 at *
  split at h
  ·split at h
   ·cases h
   ·rename_i hg;obtain⟨N,hN⟩:=vR h;exact⟨N,by rw[if_neg hg];exact hN⟩
  ·exact vR h
  ·cases h
theorem vD {C:Ctx} {all:List Oper} {draw:Bool} {base:Nat}:∀ (os:List Oper) (i:Nat) (R R':RS),
 cZ C (aI C) all draw base os i R=some R'→∃ N,cZ C (gK C N) all draw base os i R=some R'
 | [],_,_,_,hr=>⟨0,hr⟩
 | o::os,i,R,R',hr=>by
  unfold cZ at *
  obtain⟨b,h1,h2⟩:=aH.1 hr
  cases b with
  | false =>
   simp only[yZ,if_false]at h2;obtain⟨N,hN⟩:=vD os _ _ _ h2;exact⟨N,aH.2 ⟨false,h1,by simp only[yZ,if_false];exact hN⟩⟩
  | true =>
   simp only[if_true]at h2;obtain⟨h3,h4⟩:=aP.1 h2;obtain⟨p,h5,h6⟩:=aH.1 h4;obtain⟨N,hN⟩:=U3 h5;obtain⟨M,hM⟩:=vD os _ _ _ h6
   exact⟨max N M,aH.2 ⟨true,h1,by
    simp only[if_true]
    exact aP.2 ⟨h3,aH.2 ⟨p,BP (mV _ _ (y7 N M)) hN,nN (mV _ _ (yE N M)) _ _ _ _ hM⟩⟩⟩⟩
theorem ADC {C:Ctx} {G:List Nat} {na:Nat}:∀ (n:Nat) (code:Code) (S:AS) (r:AExit×AS),
 exec C (aI C) G na n code S=some r→∃ N,exec C (gK C N) G na n code S=some r:=by
 intro n
 induction n with
 | zero=>intro code S r hr;simp[exec]at hr
 | succ n ih =>
  intro code S r hr
  have up:∀ {N M:Nat} {code:Code} {S:AS} {r:AExit×AS},N≤M→exec C (gK C N) G na n code S=some r→exec C (gK C M) G na n code S=some r :=
   fun h hr=>fK (mV _ _ h) n n (zN _) _ _ _ hr
  cases code with
  | skip=>exact⟨0,by simpa [exec]using hr⟩
  | region id ops draw =>
   simp only[exec]at hr
   cases hx:cZ C (aI C) ops.toList draw S.st.length ops.toList 0 { env:=aT S.env,st:=bD S.st,log:=[] }with
   | none=>rw[hx]at hr;cases hr
   | some R =>
    obtain⟨N,hN⟩:=vD _ _ _ _ hx;exact⟨N,by simp only[exec];rw[hN];rw[hx]at hr;exact hr⟩
  | seq a b =>
   simp only[exec]at hr
   cases hx:exec C (aI C) G na n a S with
   | none=>rw[hx]at hr;cases hr
   | some p =>
    obtain⟨e,S1⟩:=p;rw[hx]at hr;obtain⟨N,hN⟩:=ih _ _ _ hx
    cases e with
    | normal =>
     obtain⟨M,hM⟩:=ih _ _ _ hr;exact⟨max N M,by simp only[exec];rw[up (y7 N M) hN];exact up (yE N M) hM⟩
    | exit k=>exact⟨N,by simp only[exec];rw[hN];exact hr⟩
    | ret=>exact⟨N,by simp only[exec];rw[hN];exact hr⟩
  | cond x a b =>
   simp only[exec]at hr;obtain⟨t,h1,h2⟩:=jC.1 hr
   cases t with
   | true=>obtain⟨N,hN⟩:=ih _ _ _ h2;exact⟨N,by simp only[exec];exact jC.2 ⟨true,h1,hN⟩⟩
   | false=>obtain⟨N,hN⟩:=ih _ _ _ h2;exact⟨N,by simp only[exec];exact jC.2 ⟨false,h1,hN⟩⟩
  | block id b =>
   simp only[exec]at hr
   cases hx:exec C (aI C) G na n b S with
   | none=>rw[hx]at hr;cases hr
   | some p =>
    obtain⟨N,hN⟩:=ih _ _ _ hx;exact⟨N,by simp only[exec];rw[hN];rw[hx]at hr;exact hr⟩
  | loop b =>
   simp only[exec]at hr
   cases hx:exec C (aI C) G na n b S with
   | none=>rw[hx]at hr;cases hr
   | some p =>
    obtain⟨e,S1⟩:=p;rw[hx]at hr;obtain⟨N,hN⟩:=ih _ _ _ hx
    cases e with
    | normal =>
     obtain⟨M,hM⟩:=ih _ _ _ hr;exact⟨max N M,by simp only[exec];rw[up (y7 N M) hN];exact up (yE N M) hM⟩
    | exit k=>exact⟨N,by simp only[exec];rw[hN];exact hr⟩
    | ret=>exact⟨N,by simp only[exec];rw[hN];exact hr⟩
  | rangeFunc _ _ _ _ =>
   simp only[exec]at hr;obtain⟨N,hN⟩:=P8 hr;exact⟨N,by simp only[exec];exact hN⟩
  | exit id=>exact⟨0,by simpa [exec]using hr⟩
  | scope _=>simp[exec]at hr
  | label _=>simp[exec]at hr
  | goto _=>simp[exec]at hr
  | ret=>exact⟨0,by simpa [exec]using hr⟩
  | refuse _=>simp[exec]at hr
section eqs
variable {C:Ctx} {G:List Nat} {na:Nat} {S:AS}
theorem V8:eT C G na .skip S=some (.normal,S):=jB 1 rfl
theorem VA (id:Nat):eT C G na (.exit id) S=some (.exit id,S):=jB 1 rfl
theorem ZP:eT C G na .ret S=some (.ret,S):=jB 1 rfl
theorem NF (id:Nat) (ops:Array Oper) (draw:Bool):eT C G na (.region id ops draw) S =
 ZV G na (cZ C (aI C) ops.toList draw S.st.length ops.toList 0 { env:=aT S.env,st:=bD S.st,log:=[] }):=by
 apply nY;intro r;rw[dC];constructor
 ·rintro⟨n,hn⟩
  cases n with
  | zero=>simp[exec]at hn
  | succ n=>exact hn
 ·intro h;exact⟨1,h⟩
theorem ZO (a b:Code):eT C G na (.seq a b) S=UI (eT C G na a S) fun S1=>eT C G na b S1:=by
 apply nY;intro r;rw[dC]
 cases hx:eT C G na a S with
 | none =>
  constructor
  ·rintro⟨n,hn⟩
   cases n with
   | zero=>simp[exec]at hn
   | succ n=>simp only[exec]at hn;rw[V9 hx n]at hn;exact hn
  ·intro h;cases h
 | some p =>
  obtain⟨e,S1⟩:=p;obtain⟨k,hk⟩:=(dC _).1 hx;have up:∀ n,k≤n→exec C (aI C) G na n a S=some (e,S1):=fun n h=>fK (jM.refl _) k n h _ _ _ hk
  constructor
  ·rintro⟨n,hn⟩;have hn':=fK (jM.refl (aI C)) n (max n k+1) (by omega) _ _ _ hn;simp only[exec]at hn';rw[up _ (yE n k)]at hn'
   cases e with
   | normal=>exact jB _ hn'
   | exit j=>exact hn'
   | ret=>exact hn'
  ·intro h
   cases e with
   | normal =>
    obtain⟨m,hm⟩:=(dC _).1 h;refine⟨max m k+1,?_⟩;simp only[exec];rw[up _ (yE m k)];exact fK (jM.refl _) m _ (y7 m k) _ _ _ hm
   | exit j=>exact⟨k+1,by simp only[exec];rw[hk];exact h⟩
   | ret=>exact⟨k+1,by simp only[exec];rw[hk];exact h⟩
theorem VB (x:Operand) (a b:Code):eT C G na (.cond x a b) S=QB (ev (aT S.env) x) (eT C G na a S) (eT C G na b S):=by
 apply nY;intro r;rw[dC,jC];constructor
 ·rintro⟨n,hn⟩
  cases n with
  | zero=>simp[exec]at hn
  | succ n =>
   simp only[exec]at hn;obtain⟨t,h1,h2⟩:=jC.1 hn;refine⟨t,h1,?_⟩
   cases t with
   | true=>exact jB n h2
   | false=>exact jB n h2
 ·rintro⟨t,h1,h2⟩
  cases t with
  | true=>obtain⟨m,hm⟩:=(dC _).1 h2;exact⟨m+1,by simp only[exec];exact jC.2 ⟨true,h1,hm⟩⟩
  | false=>obtain⟨m,hm⟩:=(dC _).1 h2;exact⟨m+1,by simp only[exec];exact jC.2 ⟨false,h1,hm⟩⟩
theorem PZ (id:Nat) (b:Code):eT C G na (.block id b) S=EP id (eT C G na b S):=by
 apply nY;intro r;rw[dC];constructor
 ·rintro⟨n,hn⟩
  cases n with
  | zero=>simp[exec]at hn
  | succ n =>
   simp only[exec]at hn
   cases hx:exec C (aI C) G na n b S with
   | none=>rw[hx]at hn;cases hn
   | some p=>rw[jB n hx];rw[hx]at hn;exact hn
 ·intro h
  cases hx:eT C G na b S with
  | none=>rw[hx]at h;cases h
  | some p =>
   obtain⟨m,hm⟩:=(dC _).1 hx;exact⟨m+1,by simp only[exec];rw[hm];rw[hx]at h;exact h⟩
theorem aG (b:Code):eT C G na (.loop b) S=UI (eT C G na b S) fun S1=>eT C G na (.loop b) S1:=by
 apply nY;intro r;rw[dC];constructor
 ·rintro⟨n,hn⟩
  cases n with
  | zero=>simp[exec]at hn
  | succ n =>
   simp only[exec]at hn
   cases hx:exec C (aI C) G na n b S with
   | none=>rw[hx]at hn;cases hn
   | some p =>
    obtain⟨e,S1⟩:=p;rw[jB n hx];rw[hx]at hn
    cases e with
    | normal=>exact jB n hn
    | exit j=>exact hn
    | ret=>exact hn
 ·intro h
  cases hx:eT C G na b S with
  | none=>rw[hx]at h;cases h
  | some p =>
   obtain⟨e,S1⟩:=p;obtain⟨k,hk⟩:=(dC _).1 hx;rw[hx]at h
   cases e with
   | normal =>
    obtain⟨m,hm⟩:=(dC _).1 h;refine⟨max m k+1,?_⟩;simp only[exec];rw[fK (jM.refl _) k _ (yE m k) _ _ _ hk];exact fK (jM.refl _) m _ (y7 m k) _ _ _ hm
   | exit j=>exact⟨k+1,by simp only[exec];rw[hk];exact h⟩
   | ret=>exact⟨k+1,by simp only[exec];rw[hk];exact h⟩
end eqs
theorem aD {C:Ctx} {f:FuncId} {fn:Func} {c:Code} {rs:List ResultVar} (hp:C.prim f=none) (hf:C.P.funcs[f]?=some fn) (hb:fn.body=some c) (hr:fn.results.toList=rs) (args:List AV) (st:StL) (hy:f≠uS:=by decide) :
 aI C f args st=WN C (C.keepRes f) rs st.length (eT C (C.G f) st.length c (enter (C.G f) args st)):=by
 subst hr;apply nY;intro r;rw[l6];constructor
 ·rintro⟨n,hn⟩
  cases n with
  | zero=>simp[gK]at hn
  | succ n =>
   simp only[gK,hp,hf,hb,if_neg hy]at hn
   cases hx:exec C (gK C n) (C.G f) st.length n c (enter (C.G f) args st)with
   | none=>rw[hx]at hn;cases hn
   | some p=>rw[jB n (fK (ADQ C n) n n (zN _) _ _ _ hx)];rw[hx]at hn;exact hn
 ·intro h
  cases hx:eT C (C.G f) st.length c (enter (C.G f) args st)with
  | none=>rw[hx]at h;cases h
  | some p =>
   obtain⟨m,hm⟩:=(dC _).1 hx;obtain⟨N,hN⟩:=ADC m _ _ _ hm;refine⟨max N m+1,?_⟩;simp only[gK,hp,hf,hb,if_neg hy];rw[fK (mV _ _ (y7 N m)) m _ (yE N m) _ _ _ hN];rw[hx]at h;exact h
theorem bH {C:Ctx} {f:FuncId} {p:List AV→StL→Option (AV×StL)} (hp:C.prim f=some p) (args:List AV) (st:StL) (hy:f≠uS:=by decide):aI C f args st=p args st:=by
 apply nY;intro r;rw[l6];constructor
 ·rintro⟨n,hn⟩
  cases n with
  | zero=>simp[gK]at hn
  | succ n=>simpa only[gK,hp,if_neg hy]using hn
 ·intro h;exact⟨1,by simpa only[gK,hp,if_neg hy]using h⟩
abbrev Mem:=Nat→Nat→Option Value
structure Ext where
 len:Nat
 own:Nat→Prop
abbrev Pl:=Nat→Option (Nat×Ext)
def one (b n:Nat):Ext:=⟨n,fun f=>f=b⟩
@[simp] theorem JL (b n:Nat):(one b n).len=n:=(rfl)
def jN (φ:Pl) (f:Nat):Prop:=∀ id b n,φ id=some (b,n)→¬ n.own f
mutual
inductive IRep (m:Mem):IV→Value→Prop
 | lit (v:Value):IRep m (.lit v) v
 | agg {cs:List IV} {vs:List Value}:ICells m cs vs→IRep m (.agg cs) (.agg vs.toArray)
 | isl0 (ao:Option Addr) (cap:Nat):(ao=none→cap=0)→IRep m (.isl []) (.slice ao 0 cap)
 | isl {b off k:Nat} {es:List (List IV)} {cap:Nat}:es≠[]→IElems m b off k es→es.length≤cap→IRep m (.isl es) (.slice (some ⟨b,off,none⟩) es.length cap)
 | iref {b off:Nat} {cs:List IV}:IAt m b off cs→IRep m (.iref cs) (.pointer (some ⟨b,off,none⟩))
inductive ICells (m:Mem):List IV→List Value→Prop
 | nil:ICells m [] []
 | cons {c:IV} {v:Value} {cs:List IV} {vs:List Value}:IRep m c v→v.oneCell'=true→ICells m cs vs→ICells m (c::cs) (v::vs)
inductive IAt (m:Mem):Nat→Nat→List IV→Prop
 | nil (b off:Nat):IAt m b off []
 | cons {b off:Nat} {c:IV} {v:Value} {cs:List IV}:m b off=some v→IRep m c v→v.oneCell'=true→IAt m b (off+1) cs→IAt m b off (c::cs)
inductive IElems (m:Mem):Nat→Nat→Nat→List (List IV)→Prop
 | nil (b off k:Nat):IElems m b off k []
 | cons {b off k:Nat} {cs:List IV} {es:List (List IV)}:IAt m b off cs→cs.length=k→IElems m b (off+k) k es→IElems m b off k (cs::es)
end
mutual
inductive Rep (m:Mem) (φ:Pl):AV→Value→Prop
 | junk (v:Value):Rep m φ .junk v
 | nils:Rep m φ .nils (.slice none 0 0)
 | i {v:IV} {x:Value}:IRep m v x→Rep m φ (.i v) x
 | own {id off b:Nat} {n:Ext}:φ id=some (b,n)→Rep m φ (.own id off) (.pointer (some ⟨b,off,none⟩))
 | ownE {id k ix off b:Nat} {n:Ext}:φ id=some (b,n)→Rep m φ (.ownE id k ix off) (.pointer (some ⟨b,k*ix+off,none⟩))
 | osl {id k off len cap b:Nat} {n:Ext} {ao:Option Addr}:φ id=some (b,n)→len≤cap→k*(off+cap)≤n.len→(cap≠0→ao=some ⟨b,k*off,none⟩)→(ao=none→cap=0)→Rep m φ (.osl id k off len) (.slice ao len cap)
 | agg {cs:List AV} {vs:List Value}:RepC m φ cs vs→Rep m φ (.agg cs) (.agg vs.toArray)
 | tup {cs:List AV} {vs:List Value}:RepL m φ cs vs→Rep m φ (.tup cs) (.tuple vs.toArray)
 | fn {f:FuncId} {cs:List AV} {vs:List Value}:RepL m φ cs vs→Rep m φ (.fn (.func f) cs) (.func (.func f) #[] vs.toArray)
 | yld {id b:Nat} {n:Ext}:φ id=some (b,n)→Rep m φ (.fn (.yield 0) [.own id 0]) (.func (.yield b) #[] #[])
 | ydead (b:Nat):Rep m φ (.fn (.yield 0) [.junk]) (.func (.yield b) #[] #[])
inductive RepL (m:Mem) (φ:Pl):List AV→List Value→Prop
 | nil:RepL m φ [] []
 | cons {c:AV} {v:Value} {cs:List AV} {vs:List Value}:Rep m φ c v→RepL m φ cs vs→RepL m φ (c::cs) (v::vs)
inductive RepC (m:Mem) (φ:Pl):List AV→List Value→Prop
 | nil:RepC m φ [] []
 | cons {c:AV} {v:Value} {cs:List AV} {vs:List Value}:Rep m φ c v→v.oneCell'=true→RepC m φ cs vs→RepC m φ (c::cs) (v::vs)
end
def MLe (m m':Mem):Prop:=∀ b o v,m b o=some v→m' b o=some v
def PLe (φ φ':Pl):Prop:=∀ id b n,φ id=some (b,n)→∃ n',φ' id=some (b,n')∧n'.len=n.len∧∀ f,n.own f→n'.own f
theorem MLe.refl (m:Mem):MLe m m:=fun _ _ _ h=>h
theorem PLe.refl (φ:Pl):PLe φ φ:=fun _ _ n h=>⟨n,h,rfl,fun _ h=>h⟩
theorem MLe.trans {a b c:Mem} (h:MLe a b) (k:MLe b c):MLe a c:=fun x y v e=>k _ _ _ (h x y v e)
theorem PLe.trans {a b c:Pl} (h:PLe a b) (k:PLe b c):PLe a c:=fun x v n e=>by
 obtain⟨n1,e1,l1,o1⟩:=h x v n e;obtain⟨n2,e2,l2,o2⟩:=k x v n1 e1;exact⟨n2,e2,l2.trans l1,fun f hf=>o2 f (o1 f hf)⟩
mutual
theorem IRep.mono {m m':Mem} (h:MLe m m') {v:IV} {x:Value}:IRep m v x→IRep m' v x
 | .lit v=>.lit v
 | .agg c=>.agg (ICells.mono h c)
 | .isl0 ao cap hc=>.isl0 ao cap hc
 | .isl hn he hc=>.isl hn (IElems.mono h he) hc
 | .iref a=>.iref (IAt.mono h a)
theorem ICells.mono {m m':Mem} (h:MLe m m') {cs:List IV} {vs:List Value}:ICells m cs vs→ICells m' cs vs
 | .nil=>.nil
 | .cons a o b=>.cons (IRep.mono h a) o (ICells.mono h b)
theorem IAt.mono {m m':Mem} (h:MLe m m') {b off:Nat} {cs:List IV}:IAt m b off cs→IAt m' b off cs
 | .nil b off=>.nil b off
 | .cons e a o r=>.cons (h _ _ _ e) (IRep.mono h a) o (IAt.mono h r)
theorem IElems.mono {m m':Mem} (h:MLe m m') {b off k:Nat} {es:List (List IV)}:IElems m b off k es→IElems m' b off k es
 | .nil b off k=>.nil b off k
 | .cons a e r=>.cons (IAt.mono h a) e (IElems.mono h r)
end
mutual
theorem Rep.mono {m m':Mem} {φ φ':Pl} {v:AV} {x:Value} (r:Rep m φ v x) (h:MLe m m') (hp:PLe φ φ'):Rep m' φ' v x :=
 match r with
 | .junk v=>.junk v
 | .nils=>.nils
 | .i a=>.i (a.mono h)
 | .own e=>by obtain⟨n',e',_,_⟩:=hp _ _ _ e;exact .own e'
 | .ownE e=>by obtain⟨n',e',_,_⟩:=hp _ _ _ e;exact .ownE e'
 | .osl e a b c d=>by obtain⟨n',e',hl,_⟩:=hp _ _ _ e;exact .osl e' a (by rw[hl];exact b) c d
 | .agg c=>.agg (RepC.mono c h hp)
 | .tup c=>.tup (RepL.mono c h hp)
 | .fn c=>.fn (RepL.mono c h hp)
 | .yld e=>by obtain⟨n',e',_,_⟩:=hp _ _ _ e;exact .yld e'
 | .ydead b=>.ydead b
theorem RepL.mono {m m':Mem} {φ φ':Pl} {cs:List AV} {vs:List Value} (r:RepL m φ cs vs) (h:MLe m m') (hp:PLe φ φ'):RepL m' φ' cs vs :=
 match r with
 | .nil=>.nil
 | .cons a b=>.cons (Rep.mono a h hp) (RepL.mono b h hp)
theorem RepC.mono {m m':Mem} {φ φ':Pl} {cs:List AV} {vs:List Value} (r:RepC m φ cs vs) (h:MLe m m') (hp:PLe φ φ'):RepC m' φ' cs vs :=
 match r with
 | .nil=>.nil
 | .cons a o b=>.cons (Rep.mono a h hp) o (RepC.mono b h hp)
end
def lD (w:World) (m:Mem):Prop:=∀ b o v,m b o=some v→w.cell? ⟨b,o,none⟩=some v
def rowOf (w:World) (b:Nat) (vs:List Value):Prop:=∃ T,w.heap[b]?=some (.cells vs.toArray T (0,0))∧∀ v∈vs,v.oneCell'=true
inductive TCells (w:World):List IV→List Value→List Nat→Prop
 | nil:TCells w [] [] []
 | lit {v:Value} {cs:List IV} {vs:List Value} {F:List Nat}:v.oneCell'=true→TCells w cs vs F→TCells w (.lit v::cs) (v::vs) F
 | isl0 {ao:Option Addr} {cap:Nat} {cs:List IV} {vs:List Value} {F:List Nat}:(ao=none→cap=0)→TCells w cs vs F→TCells w (.isl []::cs) (.slice ao 0 cap::vs) F
 | isl {b k cap:Nat} {es:List (List IV)} {us:List Value} {G:List Nat} {cs:List IV} {vs:List Value} {F:List Nat}:es≠[]→rowOf w b us→0<k→(∀ e∈es,e.length=k)→k*cap≤us.length→es.length≤cap →
  TCells w es.flatten (us.take (k*es.length)) G→TCells w cs vs F→TCells w (.isl es::cs) (.slice (some ⟨b,0,none⟩) es.length cap::vs) (b::G++F)
theorem TCells.mono {w w':World}:∀ {cs:List IV} {vs:List Value} {F:List Nat},TCells w cs vs F→(∀ f∈F,w'.heap[f]?=w.heap[f]?)→TCells w' cs vs F
 | _,_,_, .nil,_=>.nil
 | _,_,_, .lit o r,h=>.lit o (r.mono h)
 | _,_,_, .isl0 c r,h=>.isl0 c (r.mono h)
 | _,_,_, .isl hn ⟨T,hr,ho⟩ hk hl hf hc g r,h=>.isl hn ⟨T,(h _ (by simp)).trans hr,ho⟩ hk hl hf hc (g.mono fun f hf=>h f (by simp[hf])) (r.mono fun f hf=>h f (by simp[hf]))
theorem TCells.length {w:World}:∀ {cs:List IV} {vs:List Value} {F:List Nat},TCells w cs vs F→cs.length=vs.length
 | _,_,_, .nil=>rfl
 | _,_,_, .lit _ r=>by simp[r.length]
 | _,_,_, .isl0 _ r=>by simp[r.length]
 | _,_,_, .isl _ _ _ _ _ _ _ r=>by simp[r.length]
theorem TCells.one {w:World}:∀ {cs:List IV} {vs:List Value} {F:List Nat},TCells w cs vs F→∀ v∈vs,v.oneCell'=true
 | _,_,_, .nil=>by simp
 | _,_,_, .lit o r=>by
  intro v hv
  rcases zQ.1 hv with rfl|hv
  ·exact o
  ·exact r.one v hv
 | _,_,_, .isl0 _ r=>by
  intro v hv
  rcases zQ.1 hv with rfl|hv
  ·rfl
  ·exact r.one v hv
 | _,_,_, .isl _ _ _ _ _ _ _ r=>by
  intro v hv
  rcases zQ.1 hv with rfl|hv
  ·rfl
  ·exact r.one v hv
def Q9:Value→Bool
 | .agg cs=>cs.toList.all (·.oneCell')
 | _=>true
def CO:Operand→Bool
 | .const v=>Q9 v
 | _=>true
def opsOf:Op→List Operand
 | .move x=>[x]
 | .assign x=>[x]
 | .pick c a b=>[c,a,b]
 | .box _ x=>[x]
 | .build _ parts=>eP parts.toList
 | .buildSlice _ _ parts=>eP parts.toList
 | .load _ a=>[a]
 | .store _ a x=>[a,x]
 | .nilCheck x=>[x]
 | .binOp _ _ x y _=>[x,y]
 | .unOp _ _ x=>[x]
 | .convert _ _ x=>[x]
 | .makeSlice _ l c=>[l,c]
 | .slice _ x lo hi _=>x::(lo.toList++hi.toList)
 | .fieldAddr _ x _=>[x]
 | .field _ x _=>[x]
 | .indexAddr _ x i=>[x,i]
 | .index _ x i=>[x,i]
 | .extract x _=>[x]
 | .makeFunc _ _ cs=>cs.toList
 | .call ⟨.value f,args,_⟩=>f::args.toList
 | .call ⟨_,args,_⟩=>args.toList
 | _=>[]
def APW (o:Op):Bool:=(opsOf o).all CO
def VD (nt:Nat):Option Tmp→Bool
 | some d=>d<nt
 | none=>true
def jH (nt:Nat) (o:Oper):Bool:=APW o.op && VD nt o.dst
def codeOk (nt:Nat):Code→Bool
 | .skip=>true
 | .region _ ops draw=>ops.all (jH nt) && (!draw || Region.lexB .any ops)
 | .seq a b=>codeOk nt a && codeOk nt b
 | .cond x a b=>CO x && (codeOk nt a && codeOk nt b)
 | .block _ b=>codeOk nt b
 | .loop b=>codeOk nt b
 | .exit _=>true
 | .ret=>true
 | .rangeFunc g ps a b=>CO g && (ps.toList.all (fun t=>decide (t<nt)) && (codeOk nt a && codeOk nt b))
 | _=>true
def AF2:LSt→LoopState
 | .ready=>.ready
 | .busy=>.busy
 | .over _=>.done
def ALJ:AExit→Code
 | .normal=>.skip
 | .exit id=>.exit id
 | .ret=>.ret
def MH:LSt→Option Code
 | .over e=>some (ALJ e)
 | _=>none
inductive BlkOk (w:World) (m:Mem) (φ:Pl) (b:Nat) (n:Ext):Blk→Prop
 | box {T:TypeId} {cs:List AV} {vs:List Value}:w.heap[b]?=some (.cells vs.toArray T (0,0))→vs.length=n.len→RepC m φ cs vs→(∀ o,m b o=none)→BlkOk w m φ b n (.box cs)
 | arr {T:TypeId} {k:Nat} {es:List (List IV)} {vs:List Value}:w.heap[b]?=some (.cells vs.toArray T (0,0))→vs.length=n.len→0<k→(∀ e∈es,e.length=k) →
  ICells m es.flatten (vs.take (k*es.length))→k*es.length≤n.len→(∀ o,m b o=none)→(∀ f,n.own f→f=b)→(∀ v∈vs,v.oneCell'=true)→BlkOk w m φ b n (.arr k es)
 | frz {k:Nat} {es:List (List IV)}:0<k→IElems m b 0 k es→BlkOk w m φ b n (.frz k es)
 | fbox {cs:List IV}:IAt m b 0 cs→BlkOk w m φ b n (.fbox cs)
 | tre {T:TypeId} {k:Nat} {es:List (List IV)} {vs:List Value} {F:List Nat}:w.heap[b]?=some (.cells vs.toArray T (0,0))→vs.length=n.len→0<k→(∀ e∈es,e.length=k) →
  TCells w es.flatten (vs.take (k*es.length)) F→k*es.length≤n.len→(b::F).Nodup→(∀ f∈F,n.own f)→(∀ f,n.own f→∀ o,m f o=none)→(∀ v∈vs,v.oneCell'=true)→BlkOk w m φ b n (.tre k es)
 | loop {R:Rng} {cs:List AV} {s:LSt} {nt:Nat} {fn:FuncId} {tmps:Array Value} {dfr:Nat} :
  w.heap[b]?=some (.loop { state:=AF2 s,pending:=MH s,fn,tmps,params:=R.ps.toArray,assign:=R.asg,body:=R.body,defers:=dfr }) →
  nt≤tmps.size→(∀ p∈R.ps,p<nt)→codeOk nt R.asg=true∧codeOk nt R.body=true∧bL R.asg=true∧bL R.body=true→(∀ t,Rep m φ (aT (Q5 R.ts cs) t) (tmps.getD t undef))→(∀ o,m b o=none)→BlkOk w m φ b n (.loop R cs s)
structure Inv (w:World) (m:Mem) (φ:Pl) (st:Store):Prop where
 mem:lD w m
 live:∀ id blk,st id=some blk→∃ b n,φ id=some (b,n)∧(n.own b∧∀ f,n.own f→f<w.heap.size)∧BlkOk w m φ b n blk
 inj:∀ id id' b b' n n' blk blk' f,st id=some blk→st id'=some blk'→φ id=some (b,n)→φ id'=some (b',n')→n.own f→n'.own f→id=id'
 low:∀ id b n f,φ id=some (b,n)→n.own f→f<w.heap.size
structure Tp (w w':World):Prop where
 tape:w'.tape=w.tape
 fwd:w.drawn≤w'.drawn
theorem Tp.refl (w:World):Tp w w:=⟨rfl,zN _⟩
theorem Tp.trans {w w1 w2:World} (b:Tp w1 w2) (a:Tp w w1):Tp w w2:=⟨b.tape.trans a.tape,Nat.le_trans a.fwd b.fwd⟩
structure Adv (w:World) (m:Mem) (φ:Pl) (w':World) (m':Mem) (φ':Pl):Prop where
 size:w.heap.size≤w'.heap.size
 os:w'.os=w.os
 tape:Tp w w'
 output:w'.output=w.output
 block:∀ b,b<w.heap.size→jN φ b→w'.heap[b]?=w.heap[b]?
 mle:MLe m m'
 mnew:∀ b,b<w.heap.size→jN φ b→∀ o,m' b o=m b o
 ple:PLe φ φ'
 pnew:∀ id b n f,φ' id=some (b,n)→n.own f→w.heap.size≤f∨¬ jN φ f
theorem jN.not {φ:Pl} {id b:Nat} {n:Ext} {f:Nat} (e:φ id=some (b,n)) (h:n.own f):¬ jN φ f:=fun k=>k id b n e h
theorem Adv.refl (w:World) (m:Mem) (φ:Pl):Adv w m φ w m φ :=
 ⟨Nat.le_refl _,rfl, .refl _,rfl,fun _ _ _=>rfl, .refl _,fun _ _ _ _=>rfl, .refl _,fun _ _ _ _ h h'=>.inr (jN.not h h')⟩
theorem Adv.range {w w':World} {m m':Mem} {φ φ':Pl} (a:Adv w m φ w' m' φ') {b:Nat} (hb:b<w.heap.size) (h:jN φ b):jN φ' b:=by
 intro id r n e ho
 rcases a.pnew id r n b e ho with h1|h1
 ·omega
 ·exact h1 h
theorem Adv.trans {w1 w2 w3:World} {m1 m2 m3:Mem} {φ1 φ2 φ3:Pl} (a:Adv w1 m1 φ1 w2 m2 φ2) (b:Adv w2 m2 φ2 w3 m3 φ3):Adv w1 m1 φ1 w3 m3 φ3:=by
 refine⟨Nat.le_trans a.size b.size,b.os.trans a.os,b.tape.trans a.tape,b.output.trans a.output,?_,a.mle.trans b.mle,?_,a.ple.trans b.ple,?_⟩
 ·intro x hx hn;rw[b.block x (zH hx a.size) (a.range hx hn),a.block x hx hn]
 ·intro x hx hn o;rw[b.mnew x (zH hx a.size) (a.range hx hn) o,a.mnew x hx hn o]
 ·intro id x n f h3 ho
  rcases b.pnew id x n f h3 ho with h4|h4
  ·exact .inl (Nat.le_trans a.size h4)
  ·by_cases hlt:f<w1.heap.size
   ·exact .inr fun hf=>h4 (a.range hlt hf)
   ·exact .inl (by omega)
theorem lD.lt {w:World} {m:Mem} (h:lD w m) {b o:Nat} {v:Value} (e:m b o=some v):b<w.heap.size:=by
 have:=h b o v e;simp only[World.cell?]at this;split at this
 ·rename_i c _ _ hc;exact(zI.1 hc).1
 ·cases this
theorem BlkOk.mono {w w':World} {m m':Mem} {φ φ':Pl} {b:Nat} {n:Ext} {blk:Blk} (h:BlkOk w m φ b n blk) (ho:n.own b) (hw:∀ f,n.own f→w'.heap[f]?=w.heap[f]?) (hm:MLe m m') (hp:PLe φ φ') (hn:∀ f,n.own f→∀ o,m' f o=m f o):BlkOk w' m' φ' b n blk:=by
 cases h with
 | box h1 h2 h3 h4=>exact .box ((hw b ho).trans h1) h2 (h3.mono hm hp) (fun o=>(hn b ho o).trans (h4 o))
 | arr h1 h2 h3 h4 h6 h7 h8 h9 h10=>exact .arr ((hw b ho).trans h1) h2 h3 h4 (h6.mono hm) h7 (fun o=>(hn b ho o).trans (h8 o)) h9 h10
 | frz h1 h2=>exact .frz h1 (h2.mono hm)
 | fbox h1=>exact .fbox (h1.mono hm)
 | loop h1 h2 h3 h4 h5 h6=>exact .loop ((hw b ho).trans h1) h2 h3 h4 (fun t=>(h5 t).mono hm hp) (fun o=>(hn b ho o).trans (h6 o))
 | tre h1 h2 h3 h4 h5 h6 h7 h8 h9 h10=>exact .tre ((hw b ho).trans h1) h2 h3 h4 (h5.mono fun f hf=>hw f (h8 f hf)) h6 h7 h8 (fun f hf o=>(hn f hf o).trans (h9 f hf o)) h10
theorem Addr.dH (b off n:Nat):(⟨b,off,none⟩:Addr).add n=⟨b,off+n,none⟩:=by
 unfold Addr.add;split
 ·rename_i h;subst h;rfl
 ·rfl
theorem ICells.length {m:Mem}:∀ {cs:List IV} {vs:List Value},ICells m cs vs→cs.length=vs.length
 | _,_, .nil=>rfl
 | _,_, .cons _ _ h=>by simp[h.length]
theorem RepC.length {m:Mem} {φ:Pl}:∀ {cs:List AV} {vs:List Value},RepC m φ cs vs→cs.length=vs.length
 | _,_, .nil=>rfl
 | _,_, .cons _ _ h=>by simp[h.length]
theorem RepL.length {m:Mem} {φ:Pl}:∀ {cs:List AV} {vs:List Value},RepL m φ cs vs→cs.length=vs.length
 | _,_, .nil=>rfl
 | _,_, .cons _ h=>by simp[h.length]
theorem ICells.one {m:Mem}:∀ {cs:List IV} {vs:List Value},ICells m cs vs→∀ v∈vs,v.oneCell'=true
 | _,_, .nil=>by simp
 | _,_, .cons _ o h=>by
  intro v hv
  rcases zQ.1 hv with rfl|hv
  ·exact o
  ·exact h.one v hv
theorem RepC.one {m:Mem} {φ:Pl}:∀ {cs:List AV} {vs:List Value},RepC m φ cs vs→∀ v∈vs,v.oneCell'=true
 | _,_, .nil=>by simp
 | _,_, .cons _ o h=>by
  intro v hv
  rcases zQ.1 hv with rfl|hv
  ·exact o
  ·exact h.one v hv
theorem ICells.append {m:Mem}:∀ {cs ds:List IV} {vs us:List Value},ICells m cs vs→ICells m ds us→ICells m (cs++ds) (vs++us)
 | _,_,_,_, .nil,h=>h
 | _,_,_,_, .cons a o b,h=>.cons a o (b.append h)
theorem ICells.take {m:Mem}:∀ (n:Nat) {cs:List IV} {vs:List Value},ICells m cs vs→ICells m (cs.take n) (vs.take n)
 | 0,_,_,_=>by simpa using ICells.nil
 | _+1,_,_, .nil=>by simpa using ICells.nil
 | n+1,_,_, .cons a o b=>.cons a o (b.take n)
theorem ICells.drop {m:Mem}:∀ (n:Nat) {cs:List IV} {vs:List Value},ICells m cs vs→ICells m (cs.drop n) (vs.drop n)
 | 0,_,_,h=>by simpa using h
 | _+1,_,_, .nil=>by simpa using ICells.nil
 | n+1,_,_, .cons _ _ b=>by simpa using b.drop n
theorem ICells.toC {m:Mem} (φ:Pl):∀ {cs:List IV} {vs:List Value},ICells m cs vs→RepC m φ (jR cs) vs
 | _,_, .nil=>.nil
 | _,_, .cons a o b=>.cons (.i a) o (b.toC φ)
theorem IAt.cells {m:Mem} {b:Nat}:∀ {off:Nat} {cs:List IV},IAt m b off cs→∃ vs,ICells m cs vs∧∀ j v,vs[j]?=some v→m b (off+j)=some v
 | _,_, .nil _ _=>⟨[], .nil,by simp⟩
 | off,_, .cons (v:=v) e a o r=>by
  obtain⟨vs,h1,h2⟩:=IAt.cells r;refine⟨v::vs, .cons a o h1,fun j u hu=>?_⟩
  cases j with
  | zero=>simp at hu;subst hu;simpa using e
  | succ j=>simp at hu;have:=h2 j u hu;rw[← this];congr 1;omega
theorem IAt.mk {m:Mem} {b:Nat}:∀ {cs:List IV} {vs:List Value} (off:Nat),ICells m cs vs→(∀ j v,vs[j]?=some v→m b (off+j)=some v)→IAt m b off cs
 | _,_,off, .nil,_=>.nil b off
 | _,_,off, .cons a o r,h=>.cons (by simpa using h 0 _ rfl) a o (IAt.mk (off+1) r fun j v hv=>by
  have:=h (j+1) v (by simpa using hv);rw[← this];congr 1;omega)
theorem IAt.dropE {m:Mem} {b:Nat}:∀ (n:Nat) {off:Nat} {cs:List IV},IAt m b off cs→n≤cs.length→IAt m b (off+n) (dropE n cs)
 | 0,_,_,h,_=>h
 | n+1,_,_, .nil _ _,h=>by simp at h
 | n+1,off,_, .cons _ _ _ r,h=>by
  have:=IAt.dropE n r (by simpa using h);rw[Av.dropE];rw[show off+(n+1)=off+1+n by omega];exact this
theorem SH {α:Type}:∀ (n:Nat) (l:List α),dropE n l=l.drop n
 | 0,l=>by simp[dropE]
 | _+1,[]=>by simp[dropE]
 | n+1,_::r=>by simp[dropE,SH n r]
theorem QR {α:Type}:∀ (n:Nat) (l r:List α),tN n l=some r→r=l.take n∧n≤l.length
 | 0,l,r,h=>by simp[tN]at h;subst h;simp
 | _+1,[],r,h=>by simp[tN]at h
 | n+1,a::l,r,h=>by
  simp only[tN]at h;obtain⟨x,h1,h2⟩:=aH.1 h;obtain⟨rfl,h3⟩:=QR n l x h1;injection h2 with h2;subst h2;simp;omega
theorem EK {α:Type} {cs:List α} {off n:Nat} {r:List α} (h:cut cs off n=some r):r=(cs.drop off).take n∧off+n≤cs.length∨(n=0∧r=[]):=by
 unfold cut at h;obtain⟨h1,h2⟩:=QR _ _ _ h;rw[SH]at h1 h2;simp only[xS]at h2;by_cases hn:n=0
 ·subst hn;right;simpa using h1
 ·left;exact⟨h1,by omega⟩
theorem kQ {α:Type}:∀ (cs:List α) (off:Nat) (xs r:List α),splice cs off xs=some r→r=cs.take off++xs++cs.drop (off+xs.length)∧off+xs.length≤cs.length
 | cs,0,[],r,h=>by simp[splice]at h;subst h;simp
 | [],0,_::_,r,h=>by simp[splice]at h
 | c::cs,0,x::xs,r,h=>by
  simp only[splice]at h;obtain⟨l,h1,h2⟩:=aH.1 h;obtain⟨rfl,h3⟩:=kQ cs 0 xs l h1;injection h2 with h2;subst h2;simp at h3 ⊢;omega
 | [],_+1,_,r,h=>by simp[splice]at h
 | c::cs,n+1,xs,r,h=>by
  simp only[splice]at h;obtain⟨l,h1,h2⟩:=aH.1 h;obtain⟨rfl,h3⟩:=kQ cs n xs l h1;injection h2 with h2;subst h2;refine⟨by simp[show n+1+xs.length=(n+xs.length)+1 by omega],by simp;omega⟩
theorem RepC.take {m:Mem} {φ:Pl}:∀ (n:Nat) {cs:List AV} {vs:List Value},RepC m φ cs vs→RepC m φ (cs.take n) (vs.take n)
 | 0,_,_,_=>by simpa using RepC.nil
 | _+1,_,_, .nil=>by simpa using RepC.nil
 | n+1,_,_, .cons a o b=>.cons a o (b.take n)
theorem RepC.drop {m:Mem} {φ:Pl}:∀ (n:Nat) {cs:List AV} {vs:List Value},RepC m φ cs vs→RepC m φ (cs.drop n) (vs.drop n)
 | 0,_,_,h=>by simpa using h
 | _+1,_,_, .nil=>by simpa using RepC.nil
 | n+1,_,_, .cons _ _ b=>by simpa using b.drop n
theorem RepC.append {m:Mem} {φ:Pl}:∀ {cs ds:List AV} {vs us:List Value},RepC m φ cs vs→RepC m φ ds us→RepC m φ (cs++ds) (vs++us)
 | _,_,_,_, .nil,h=>h
 | _,_,_,_, .cons a o b,h=>.cons a o (b.append h)
theorem TD {m:Mem} {φ:Pl}:∀ {cs:List AV} {l:List IV} {vs:List Value},ABB cs=some l→RepC m φ cs vs→ICells m l vs
 | [],l,_,h, .nil=>by simp[ABB]at h;subst h;exact .nil
 | c::cs,l,_,h, .cons a o b=>by
  simp only[ABB]at h;unfold NP at h;split at h
  ·rename_i v l' h';injection h with h;subst h
   cases a with
   | i a=>exact .cons a o (TD h' b)
  ·cases h
theorem CW {m:Mem} {φ:Pl} {cs:List AV} {vs:List Value} (h:RepC m φ cs vs):Rep m φ (MN cs) (.agg vs.toArray):=by
 unfold MN
 cases hl:ABB cs with
 | none=>exact .agg h
 | some l=>exact .i (.agg (TD hl h))
theorem sJ {m:Mem} {φ:Pl} {v:AV} {x:Value} {cs:List AV} (hc:cellsOf v=some cs) (h:Rep m φ v x):RepC m φ cs x.cells.toList:=by
 unfold cellsOf at hc;split at hc
 ·cases hc
 ·cases hc
 ·injection hc with hc;subst hc
  cases h with
  | agg h=>simpa [Value.cells]using h
 ·injection hc with hc;subst hc
  cases h with
  | i h=>cases h with
   | agg h=>simpa [Value.cells]using h.toC φ
 ·cases hc
 ·cases hc
 ·rename_i h1 h2 h3 h4 h5 h6;injection hc with hc;subst hc
  cases h with
  | junk=>exact absurd rfl h1
  | nils=>exact .cons .nils rfl .nil
  | i h=>cases h with
   | lit =>
    cases x<;>first
     | exact absurd rfl (h5 _)
     | exact absurd rfl (h6 _)
     | exact .cons (.i (.lit _)) rfl .nil
   | agg h=>exact absurd rfl (h4 _)
   | isl0 ao cap hc=>exact .cons (.i (.isl0 ao cap hc)) rfl .nil
   | isl a b c=>exact .cons (.i (.isl a b c)) rfl .nil
   | iref a=>exact .cons (.i (.iref a)) rfl .nil
  | own e=>exact .cons (.own e) rfl .nil
  | ownE e=>exact .cons (.ownE e) rfl .nil
  | osl e a b c d=>exact .cons (.osl e a b c d) rfl .nil
  | agg h=>exact absurd rfl (h3 _)
  | tup h=>exact absurd rfl (h2 _)
  | fn h=>exact .cons (.fn h) rfl .nil
  | yld e=>exact .cons (.yld e) rfl .nil
  | ydead b=>exact .cons (.ydead b) rfl .nil
theorem D8 (m:Mem) (φ:Pl) (v:Value):Rep m φ (gP v) v:=by
 unfold gP;split
 ·exact .nils
 ·exact .i (.lit _)
theorem lS (m:Mem) (φ:Pl):∀ (vs:List Value),(∀ v∈vs,v.oneCell'=true)→RepC m φ (dM vs) vs
 | [],_=>.nil
 | v::vs,h=>.cons (D8 m φ v) (h v (by simp)) (lS m φ vs fun u hu=>h u (by simp[hu]))
theorem YZ (m:Mem) (φ:Pl) {v:Value} (h:Q9 v=true):Rep m φ (vH v) v:=by
 unfold vH;split
 ·rename_i cs;have:=CW (lS m φ cs.toList (fun v hv=>zR.1 (by simpa only[Q9]using h) v hv));simpa using this
 ·exact D8 m φ v
theorem nR {m:Mem} {φ:Pl} {g:Bool} {cs:List AV} {v:AV} {vs:List Value} (h:nS g cs=some v) (hr:RepC m φ cs vs) :
 (g=true∧Rep m φ v (.agg vs.toArray))∨(g=false∧∃ x,vs=[x]∧Rep m φ v x):=by
 cases g with
 | true=>simp only[nS,Option.some.injEq]at h;subst h;exact .inl ⟨rfl,CW hr⟩
 | false =>
  unfold nS at h;split at h
  ·rename_i h1;cases h1
  ·injection h with h;subst h
   cases hr with
   | cons a o b=>cases b with
    | nil=>exact .inr ⟨rfl,_,rfl,a⟩
  ·cases h
theorem dX {m:Mem} {φ:Pl} {g:Bool} {cs:List IV} {v:AV} {vs:List Value} (h:fT g cs=some v) (hr:ICells m cs vs) :
 (g=true∧Rep m φ v (.agg vs.toArray))∨(g=false∧∃ x,vs=[x]∧Rep m φ v x):=by
 cases g with
 | true=>simp only[fT,Option.some.injEq]at h;subst h;exact .inl ⟨rfl, .i (.agg hr)⟩
 | false =>
  unfold fT at h;split at h
  ·rename_i h1;cases h1
  ·injection h with h;subst h
   cases hr with
   | cons a o b=>cases b with
    | nil=>exact .inr ⟨rfl,_,rfl, .i a⟩
  ·cases h
section types
variable {P:Program} {t:TypeId}
theorem kL {e:TypeId} (h:EJ (bE P t)=some e):P.underlying t=some (.slice e):=by
 unfold bE at h;split at h<;>simp[EJ]at h;rename_i h';rw[h',h]
theorem fF {e:TypeId} (h:bE P t=some (.slice e)):P.underlying t=some (.slice e):=by
 unfold bE at h;split at h<;>simp at h;rename_i h';rw[h',h]
theorem kM {n:Nat} {e:TypeId} (h:bE P t=some (.array n e)):P.underlying t=some (.array n e):=by
 unfold bE at h;split at h<;>simp at h;rename_i h';rw[h',h.1,h.2]
theorem eZ (h:bE P t=some .string):P.underlying t=some .string:=by
 unfold bE at h;split at h<;>simp at h;rename_i h';exact h'
theorem qZ (h:bE P t=some .bool):P.underlying t=some .bool:=by
 unfold bE at h;split at h<;>simp at h;rename_i h';exact h'
theorem J4 {k:IntKind} (h:bE P t=some (.int k)):P.underlying t=some (.int k):=by
 unfold bE at h;split at h<;>simp at h;rename_i h';rw[h',h]
theorem F8 {d:DK} (h:bE P t=some d):∃ u,P.underlying t=some u:=by
 unfold bE at h
 cases hu:P.underlying t with
 | none=>simp[hu]at h
 | some u=>exact⟨u,rfl⟩
theorem iF {d:TypeDesc} (h:P.underlying t=some d) (w:World):(underlying t).run P w=.ok d w:=run_underlying h w
theorem tY {g:Bool} (h:uT (bE P t)=some g) (w:World):(isAgg t).run P w=.ok g w:=by
 unfold bE at h
 cases hu:P.underlying t with
 | none=>simp[hu,uT]at h
 | some u =>
  rw[hu]at h
  cases u<;>simp[uT]at h<;>subst h<;>simp[isAgg,run_underlying hu]
theorem dB {n:Nat} (h:gM P t=some n) (w:World):(sizeOf t).run P w=.ok n w:=by
 unfold gM at h
 cases hi:P.info? t with
 | none=>simp[hi]at h
 | some i=>simp[hi]at h;subst h;simp[sizeOf,typeInfo,hi]
theorem M6 {n:Nat} (h:WQ P t=some n) (w:World):∃ i,(typeInfo t).run P w=.ok i w∧i.bytes=n∧P.info? t=some i:=by
 unfold WQ at h
 cases hi:P.info? t with
 | none=>simp[hi]at h
 | some i=>simp[hi]at h;subst h;exact⟨i,by simp[typeInfo,hi],rfl,rfl⟩
theorem AO {z:List Value} (h:zeroOf P t=some z) (w:World):∃ v,(zeroValue t).run P w=.ok v w∧v.cells.toList=z:=by
 have h:=(mI h).2
 cases hi:P.info? t with
 | none=>simp[hi]at h
 | some i =>
  cases hz:i.zero with
  | none=>simp[hi,hz]at h
  | some v=>simp[hi,hz]at h;exact⟨v,by simp[zeroValue,typeInfo,hi,hz],h⟩
theorem EC {f:Nat} {p:TypeId×Nat} (h:dI P t f=some p):∃ fs:Array Field,∃ fd:Field,P.underlying t=some (.struct fs)∧fs[f]?=some fd∧fd.type=p.1∧fd.offset=p.2:=by
 unfold dI at h
 cases hu:P.underlying t with
 | none=>simp[hu]at h
 | some u =>
  rw[hu]at h
  cases u<;>simp at h
  rename_i fs;obtain⟨fd,h1,h2⟩:=h;exact⟨fs,fd,rfl,h1,by rw[← h2],by rw[← h2]⟩
end types
section mem
variable {P:Program} {w:World} {m:Mem} {φ:Pl} {st:Store}
def Out (w:World) (m:Mem) (φ:Pl) (nb:Nat) (v:AV) (st':Store) (x:Value) (w':World):Prop :=
 ∃ m' φ',Rep m' φ' v x∧Inv w' m' φ' st'∧Adv w m φ w' m' φ'∧∀ id,φ' id≠none→φ id≠none∨(nb≤id∧id<nb+wide)
theorem Out.same {nb:Nat} {v:AV} {x:Value} (h:Inv w m φ st) (hr:Rep m φ v x):Out w m φ nb v st x w :=
 ⟨m,φ,hr,h, .refl _ _ _,fun _ h=>.inl h⟩
theorem Z7 {b off:Nat} {cs l:List IV} {n:Nat} (hw:lD w m) (h:IAt m b off cs) (hc:cut cs 0 n=some l) :
 ∃ vs,ICells m l vs∧vs.length=n∧∀ j v,vs[j]?=some v→w.cell? ((⟨b,off,none⟩:Addr).add j)=some v:=by
 obtain⟨us,h1,h2⟩:=h.cells
 rcases EK hc with ⟨rfl,hl⟩|⟨rfl,rfl⟩
 ·refine⟨us.take n,by simpa using h1.take n,?_,fun j v hj=>?_⟩
  ·have:=h1.length;simp;omega
  ·rw[Addr.dH];apply hw;apply h2;rw[zL]at hj;split at hj
   ·exact hj
   ·cases hj
 ·exact⟨[], .nil,rfl,by simp⟩
theorem FE {t:TypeId} {n:Nat} {g:Bool} {a:Addr} {vs:List Value} (hs:gM P t=some n) (hg:uT (bE P t)=some g) (hl:vs.length=n)
 (hc:∀ j v,vs[j]?=some v→w.cell? (a.add j)=some v) :
 (g=true→(loadVar t a).run P w=.ok (.agg vs.toArray) w)∧(g=false→∀ x,vs=[x]→(loadVar t a).run P w=.ok x w):=by
 constructor
 ·intro h;subst h;have h1:=run_loadCells_list (P:=P) w a vs hc;rw[hl]at h1;simp[loadVar,tY hg,dB hs,h1]
 ·intro h x hx;subst h;subst hx;have h1:=hc 0 x rfl;have h2:a.add 0=a:=by simp[Addr.add]
  rw[h2]at h1;simp[loadVar,tY hg,h1]
theorem bG {b:Nat} {T:TypeId} {vs:List Value} {fr:Nat×Nat} (h:w.heap[b]?=some (.cells vs.toArray T fr)) (o:Nat):w.cell? ⟨b,o,none⟩=vs[o]?:=by
 simp[World.cell?,h]
theorem qL {k:Nat}:∀ {es:List (List IV)} {ix:Nat} {e:List IV},(∀ e∈es,e.length=k)→es[ix]?=some e→(es.flatten.drop (k*ix)).take k=e
 | [],ix,e,_,h=>by simp at h
 | d::es,0,e,hk,h=>by
  simp at h;subst h;have:=hk d (by simp);subst this;simp
 | d::es,ix+1,e,hk,h=>by
  have hd:=hk d (by simp);have:=qL (k:=k) (es:=es) (ix:=ix) (e:=e) (fun e he=>hk e (by simp[he])) (by simpa using h);rw[← this];simp only[z8];rw[zA5];rw[show k*(ix+1)=d.length+k*ix by rw[hd,zA];omega];have h0:List.drop (d.length+k*ix) d=[]:=by simp
  rw[h0,xN];congr 2;omega
theorem bV {k:Nat}:∀ {es:List (List IV)},(∀ e∈es,e.length=k)→es.flatten.length=k*es.length
 | [],_=>by simp
 | d::es,h=>by
  have hd:=h d (by simp);have:=bV (k:=k) (es:=es) (fun e he=>h e (by simp[he]));rw[z8,zF,hd,this];simp[zA];omega
theorem JX {b k:Nat}:∀ {off:Nat} {es:List (List IV)} {ix:Nat} {e:List IV},IElems m b off k es→es[ix]?=some e→IAt m b (off+k*ix) e∧e.length=k
 | _,_,ix,e, .nil _ _ _,h=>by simp at h
 | off,_,0,e, .cons a hl _,h=>by simp at h;subst h;exact⟨by simpa using a,hl⟩
 | off,_,ix+1,e, .cons _ _ r,h=>by
  have:=JX r (by simpa using h);refine⟨?_,this.2⟩;have h2:=this.1
  rwa [show off+k*(ix+1)=off+k+k*ix by rw[zA];omega]
theorem pQ {b k:Nat}:∀ {off:Nat} {es:List (List IV)},IElems m b off k es→∀ e∈es,e.length=k
 | _,_, .nil _ _ _=>by simp
 | _,_, .cons _ hl r=>by
  intro e he
  rcases zQ.1 he with rfl|he
  ·exact hl
  ·exact pQ r e he
theorem IE {b k:Nat}:∀ (n:Nat) {off:Nat} {es:List (List IV)},IElems m b off k es→IElems m b (off+k*n) k (es.drop n)
 | 0,_,_,h=>by simpa using h
 | n+1,off,_, .nil _ _ _=>by simpa using IElems.nil b _ k
 | n+1,off,_, .cons _ _ r=>by
  have:=IE n r;rw[show off+k*(n+1)=off+k+k*n by rw[zA];omega];simpa using this
theorem qM {b k:Nat}:∀ (n:Nat) {off:Nat} {es:List (List IV)},IElems m b off k es→IElems m b off k (es.take n)
 | 0,off,_,h=>by simpa using IElems.nil b off k
 | n+1,off,_, .nil _ _ _=>by simpa using IElems.nil b _ k
 | n+1,off,_, .cons a l r=>by simpa using IElems.cons a l (qM n r)
theorem wW {b k off:Nat} {es:List (List IV)} (lo n:Nat) (h:IElems m b off k es):IElems m b (off+k*lo) k (window es lo n):=qM n (IE lo h)
theorem mE {b k:Nat}:∀ {es:List (List IV)} {vs:List Value} (off:Nat),(∀ e∈es,e.length=k)→ICells m es.flatten vs→(∀ j v,vs[j]?=some v→m b (off+j)=some v)→IElems m b off k es
 | [],_,off,_,_,_=>.nil b off k
 | e::es,vs,off,hk,hc,hm=>by
  have hl:=hk e (by simp);have h1:=hc.take k;have h2:=hc.drop k;rw[z8,← hl,List.take_left]at h1;rw[z8,← hl,List.drop_left]at h2;refine .cons (IAt.mk off h1 fun j v hj=>?_) hl (mE (off+k) (fun e he=>hk e (by simp[he])) h2 fun j v hj=>?_)
  ·rw[zL]at hj;split at hj
   ·exact hm j v hj
   ·cases hj
  ·rw[yS]at hj;have:=hm _ v hj;rw[← this,hl];congr 1;omega
end mem
theorem dF {w:World} {m:Mem} {φ:Pl} {st:Store} (hi:Inv w m φ st) {id b:Nat} {n:Ext} {blk:Blk} (e:φ id=some (b,n)) (hst:st id=some blk):(n.own b∧∀ f,n.own f→f<w.heap.size)∧BlkOk w m φ b n blk:=by
 obtain⟨b',n',e',hb,hok⟩:=hi.live _ _ hst;rw[e]at e';injection e' with e';injection e' with e1 e2;subst e1;subst e2
 exact⟨hb,hok⟩
theorem IQ {w:World} {m:Mem} {φ:Pl} {st:Store} (hi:Inv w m φ st) {id b:Nat} {n:Ext} {blk:Blk} (e:φ id=some (b,n)) (hst:st id=some blk):b<w.heap.size∧BlkOk w m φ b n blk :=
 have h:=dF hi e hst
 ⟨h.1.2 _ h.1.1,h.2⟩
theorem MR {w:World} {m:Mem} {φ:Pl} {st:Store} {g:Bool} {n:Nat} {a v:AV} {x:Value} (hi:Inv w m φ st) (hr:Rep m φ a x) (h:loadAt g n st a=some v) :
 ∃ ad vs,x=.pointer (some ad)∧vs.length=n∧(∀ j u,vs[j]?=some u→w.cell? (ad.add j)=some u)∧((g=true∧Rep m φ v (.agg vs.toArray))∨(g=false∧∃ y,vs=[y]∧Rep m φ v y)):=by
 cases hr with
 | junk=>simp[loadAt]at h
 | nils=>simp[loadAt]at h
 | osl=>simp[loadAt]at h
 | agg=>simp[loadAt]at h
 | tup=>simp[loadAt]at h
 | fn=>simp[loadAt]at h
 | yld=>simp[loadAt]at h
 | ydead=>simp[loadAt]at h
 | @own id off b n' e =>
  simp only[loadAt]at h
  cases hst:st id with
  | none=>rw[hst]at h;simp[FL]at h
  | some blk =>
   rw[hst]at h;obtain⟨hb,hok⟩:=IQ hi e hst
   cases hok with
   | arr=>simp[FL]at h
   | tre=>simp[FL]at h
   | loop=>simp[FL]at h
   | frz=>simp[FL]at h
   | @box T cs vs hh hl hc hm =>
    simp only[FL]at h;obtain⟨l,h1,h2⟩:=aH.1 h
    rcases EK h1 with ⟨rfl,hle⟩|⟨rfl,rfl⟩
    ·have hlen:=hc.length;refine⟨_,(vs.drop off).take n,rfl,by simp;omega,fun j u hj=>?_,nR h2 ((hc.drop off).take n)⟩;rw[Addr.dH,bG hh];rw[zL]at hj;split at hj
     ·rwa [yS]at hj
     ·cases hj
    ·exact⟨_,[],rfl,rfl,by simp,nR h2 .nil⟩
   | @fbox cs ha =>
    simp only[FL]at h;obtain⟨l,h1,h2⟩:=aH.1 h;obtain⟨us,h3,h4⟩:=ha.cells
    rcases EK h1 with ⟨rfl,hle⟩|⟨rfl,rfl⟩
    ·have hlen:=h3.length;refine⟨_,(us.drop off).take n,rfl,by simp;omega,fun j u hj=>?_,dX h2 ((h3.drop off).take n)⟩;rw[Addr.dH];apply hi.mem;rw[zL]at hj;split at hj
     ·rw[yS]at hj;have:=h4 _ _ hj
      rwa [zD]at this
     ·cases hj
    ·exact⟨_,[],rfl,rfl,by simp,dX h2 .nil⟩
 | @ownE id k ix off b n' e =>
  simp only[loadAt]at h
  cases hst:st id with
  | none=>rw[hst]at h;simp[FK]at h
  | some blk =>
   rw[hst]at h;obtain⟨hb,hok⟩:=IQ hi e hst
   cases hok with
   | box=>simp[FK]at h
   | tre=>simp[FK]at h
   | loop=>simp[FK]at h
   | fbox=>simp[FK]at h
   | @arr T k' es vs hh hl hpos hw1 hc hfit hm hown1 hone =>
    simp only[FK]at h;obtain⟨hk,h0⟩:=aP.1 h;have hk:=zS hk;subst hk;obtain⟨ec,h1,h2⟩:=aH.1 h0;rw[iU]at h1;obtain⟨l,h3,h4⟩:=aH.1 h2;have hfl:=qL hw1 h1;have hel:ec.length=k':=hw1 ec (zV h1);have hixl:ix<es.length:=(zZ.1 h1).1;have hce:=(hc.drop (k'*ix)).take k';rw[hfl]at hce
    have hmul:k'*ix+k'≤k'*es.length:=by
     have:=yY k' (show ix+1≤es.length by omega)
     rwa [zA,Nat.mul_one]at this
    rcases EK h3 with ⟨rfl,hle⟩|⟨rfl,rfl⟩
    ·refine⟨_,((((vs.take (k'*es.length)).drop (k'*ix)).take k').drop off).take n,rfl,by simp;omega,fun j u hj=>?_,dX h4 ((hce.drop off).take n)⟩;rw[Addr.dH,bG hh];rw[zL]at hj;split at hj
     ·rw[yS,zL]at hj;split at hj
      ·rw[yS,zL]at hj;split at hj
       ·rw[← hj];congr 1;omega
       ·cases hj
      ·cases hj
     ·cases hj
    ·exact⟨_,[],rfl,rfl,by simp,dX h4 .nil⟩
   | @frz k' es hpos he =>
    simp only[FK]at h;obtain⟨hk,h0⟩:=aP.1 h;have hk:=zS hk;subst hk;obtain⟨ec,h1,h2⟩:=aH.1 h0;rw[iU]at h1;obtain⟨l,h3,h4⟩:=aH.1 h2;obtain⟨hat,hel⟩:=JX he h1;obtain⟨us,h5,h6⟩:=hat.cells
    rcases EK h3 with ⟨rfl,hle⟩|⟨rfl,rfl⟩
    ·have hlen:=h5.length;refine⟨_,(us.drop off).take n,rfl,by simp;omega,fun j u hj=>?_,dX h4 ((h5.drop off).take n)⟩;rw[Addr.dH];apply hi.mem;rw[zL]at hj;split at hj
     ·rw[yS]at hj;have:=h6 _ _ hj;rw[← this];congr 1;omega
     ·cases hj
    ·exact⟨_,[],rfl,rfl,by simp,dX h4 .nil⟩
 | i hr =>
  cases hr with
  | lit=>simp[loadAt]at h
  | agg=>simp[loadAt]at h
  | isl0=>simp[loadAt]at h
  | isl=>simp[loadAt]at h
  | iref ha =>
   simp only[loadAt]at h;obtain⟨l,h1,h2⟩:=aH.1 h;obtain⟨vs,h3,h4,h5⟩:=Z7 hi.mem ha h1;exact⟨_,vs,rfl,h4,h5,dX h2 h3⟩
theorem rT {C:Ctx} {w:World} {m:Mem} {φ:Pl} {st:Store} {t:TypeId} {a v:AV} {x:Value} (hi:Inv w m φ st) (hr:Rep m φ a x) (h:D6 C t a st=some v) :
 ∃ ad y,x=.pointer (some ad)∧(loadVar t ad).run C.P w=.ok y w∧Rep m φ v y:=by
 unfold D6 at h;obtain⟨n,hs,h1⟩:=aH.1 h;obtain⟨g,hg,h2⟩:=aH.1 h1;obtain⟨ad,vs,hx,hl,hc,hv⟩:=MR hi hr h2;have h0:=FE (P:=C.P) hs hg hl hc
 rcases hv with ⟨h3,h4⟩|⟨h3,y,h4,h5⟩
 ·exact⟨ad,_,hx,h0.1 h3,h4⟩
 ·exact⟨ad,y,hx,h0.2 h3 y h4,h5⟩
theorem fV (w:World) (o:Obj) {b:Nat} (h:b<w.heap.size):(w.alloc o).heap[b]?=w.heap[b]?:=by
 show(w.heap.push o)[b]?=_;rw[Array.getElem?_push,if_neg (by omega)]
theorem eQ (w:World) (o:Obj):(w.alloc o).heap[w.heap.size]?=some o:=by
 show(w.heap.push o)[w.heap.size]?=_;rw[Array.getElem?_push,if_pos rfl]
theorem cell_of_heap {w w':World} {b o:Nat} (h:w'.heap[b]?=w.heap[b]?):w'.cell? ⟨b,o,none⟩=w.cell? ⟨b,o,none⟩:=by
 simp[World.cell?,h]
theorem lD.push {w:World} {m:Mem} (h:lD w m) (o:Obj):lD (w.alloc o) m:=fun b j v e=>by
 rw[cell_of_heap (fV w o (h.lt e))];exact h b j v e
def kI (φ:Pl) (id:Nat) (p:Nat×Ext):Pl:=fun j=>if j=id then some p else φ j
theorem PLe.kI {φ:Pl} {id:Nat} {p:Nat×Ext} (h:φ id=none):PLe φ (kI φ id p):=fun j b n e=>by
 refine⟨n,?_,rfl,fun _ h=>h⟩;unfold Av.kI;split
 ·rename_i hj;subst hj;rw[h]at e;cases e
 ·exact e
theorem oQ {φ:Pl} {id j:Nat} {p:Nat×Ext} (h:j≠id):kI φ id p j=φ j:=by simp[kI,h]
theorem cK (φ:Pl) (id:Nat) (p:Nat×Ext):kI φ id p id=some p:=by simp[kI]
theorem uX {st:Store} {φ:Pl} {id i b:Nat} {n:Ext} {p:Nat×Ext} {blk:Option Blk} {b1:Blk} (hne:i≠id) (hi:upd st id blk i=some b1) (h1:kI φ id p i=some (b,n)):st i=some b1∧φ i=some (b,n):=by
 unfold upd at hi;unfold kI at h1;rw[if_neg hne]at hi h1;exact⟨hi,h1⟩
theorem Inv.push {w:World} {m:Mem} {φ:Pl} {st:Store} (h:Inv w m φ st) {id:Nat} (hf:φ id=none) (o:Obj) {n:Nat} {blk:Blk}
 (hb:BlkOk (w.alloc o) m (kI φ id (w.heap.size,one w.heap.size n)) w.heap.size (one w.heap.size n) blk) :
 Inv (w.alloc o) m (kI φ id (w.heap.size,one w.heap.size n)) (upd st id (some blk))∧Adv w m φ (w.alloc o) m (kI φ id (w.heap.size,one w.heap.size n)):=by
 have hp:=PLe.kI (p:=(w.heap.size,one w.heap.size n)) hf;refine⟨⟨h.mem.push o,?_,?_,fun i b n' f h2 ho=>?_⟩,⟨by simp,rfl,⟨rfl,zN _⟩,rfl,fun b hb _=>fV w o hb, .refl _,fun _ _ _ _=>rfl,hp,?_⟩⟩
 ·intro j blk' hj;unfold upd at hj;split at hj
  ·rename_i e;subst e;injection hj with hj;subst hj
   exact⟨_,_,cK _ _ _,⟨rfl,fun f hf=>by have hf:f=w.heap.size:=hf;subst hf;simp⟩,hb⟩
  ·rename_i hne;obtain⟨b,n',e,hlt,hok⟩:=h.live _ _ hj;exact⟨b,n',by rw[oQ hne];exact e,⟨hlt.1,fun f hf=>by have:=hlt.2 f hf;simp;omega⟩,hok.mono hlt.1 (fun f hf=>fV w o (hlt.2 f hf)) (.refl _) hp fun _ _ _=>rfl⟩
 ·intro i j b b' n1 n2 b1 b2 f hi hj h1 h2 o1 o2
  have lt:∀ i b n1 b1,i≠id→upd st id (some blk) i=some b1→kI φ id (w.heap.size,one w.heap.size n) i=some (b,n1)→n1.own f→f<w.heap.size:=by
   intro i b n1 b1 hne hi h1 ho;obtain⟨k1,k2⟩:=uX hne hi h1;exact(dF h k2 k1).1.2 f ho
  by_cases hii:i=id
  ·subst hii;by_cases hjj:j=i
   ·exact hjj.symm
   ·have:=lt j b' n2 b2 hjj hj h2 o2;rw[cK]at h1;injection h1 with h1;injection h1 with e1 e2;subst e2
    have o1:f=w.heap.size:=o1;omega
  ·by_cases hjj:j=id
   ·subst hjj;have:=lt i b n1 b1 hii hi h1 o1;rw[cK]at h2;injection h2 with h2;injection h2 with e1 e2;subst e2
    have o2:f=w.heap.size:=o2;omega
   ·have k1:=uX hii hi h1;have k2:=uX hjj hj h2;exact h.inj i j b b' n1 n2 b1 b2 f k1.1 k2.1 k1.2 k2.2 o1 o2
 ·unfold kI at h2;split at h2
  ·injection h2 with h2;injection h2 with e1 e2;subst e2;have ho:f=w.heap.size:=ho;simp;omega
  ·have:=h.low i b n' f h2 ho;simp;omega
 ·intro i b n' f h2 ho;unfold kI at h2;split at h2
  ·injection h2 with h2;injection h2 with e1 e2;subst e2;have ho:f=w.heap.size:=ho;exact .inl (by omega)
  ·exact .inr (jN.not h2 ho)
theorem Inv.more {w:World} {m:Mem} {φ:Pl} {st:Store} (h:Inv w m φ st) (o:Obj):Inv (w.alloc o) m φ st∧Adv w m φ (w.alloc o) m φ:=by
 refine⟨⟨h.mem.push o,?_,h.inj,fun i b n f h2 ho=>by have:=h.low i b n f h2 ho;simp;omega⟩,⟨by simp,rfl,⟨rfl,zN _⟩,rfl,fun b hb _=>fV w o hb, .refl _,fun _ _ _ _=>rfl, .refl _,fun i b n f h2 ho=>.inr (jN.not h2 ho)⟩⟩;intro j blk hj;obtain⟨b,n',e,hlt,hok⟩:=h.live _ _ hj;exact⟨b,n',e,⟨hlt.1,fun f hf=>by have:=hlt.2 f hf;simp;omega⟩,hok.mono hlt.1 (fun f hf=>fV w o (hlt.2 f hf)) (.refl _) (.refl _) fun _ _ _=>rfl⟩
theorem Inv.aside {w w':World} {m:Mem} {φ:Pl} {st:Store} (h:Inv w m φ st) {D:Nat} (hz:w'.heap.size=w.heap.size) (hoth:∀ x,x≠D→w'.heap[x]?=w.heap[x]?) (hm:∀ o,m D o=none) (hf:jN φ D):Inv w' m φ st:=by
 refine⟨?_,?_,h.inj,fun i b n f h2 ho=>by have:=h.low i b n f h2 ho;omega⟩
 ·intro x o v e;have:x≠D:=fun e'=>by subst e';rw[hm o]at e;cases e
  rw[cell_of_heap (hoth x this)];exact h.mem x o v e
 ·intro j blk hj;obtain⟨b,n',e,hlt,hok⟩:=h.live _ _ hj;have:∀ f,n'.own f→f≠D:=fun f hf1 e'=>by subst e';exact hf j b n' e hf1
  exact⟨b,n',e,⟨hlt.1,fun f hf=>by rw[hz];exact hlt.2 f hf⟩,hok.mono hlt.1 (fun f hf=>hoth f (this f hf)) (.refl _) (.refl _) fun _ _ _=>rfl⟩
theorem nE {φ:Pl} {id nb:Nat} {p:Nat×Ext} (h1:nb≤id) (h2:id<nb+wide):∀ j,kI φ id p j≠none→φ j≠none∨(nb≤j∧j<nb+wide):=by
 intro j hj;unfold kI at hj;split at hj
 ·rename_i e;subst e;exact .inr ⟨h1,h2⟩
 ·exact .inl hj
theorem jP (nb:Nat):nb<nb+wide:=by unfold wide;omega
theorem Inv.APU {w w':World} {m:Mem} {φ:Pl} {st:Store} (h:Inv w m φ st) {id b:Nat} {n:Ext} {blk blk':Blk} (hs:st id=some blk) (he:φ id=some (b,n)) (hm:∀ o,m b o=none) (hz:w'.heap.size=w.heap.size) (hoth:∀ x,x≠b→w'.heap[x]?=w.heap[x]?) (hos:w'.os=w.os∧Tp w w'∧w'.output=w.output)
 (hb:BlkOk w' m φ b n blk'):Inv w' m φ (upd st id (some blk'))∧Adv w m φ w' m φ:=by
 have hown:=(dF h he hs).1;refine⟨⟨?_,?_,?_,fun i x n' f h1 ho=>by rw[hz];exact h.low i x n' f h1 ho⟩,⟨by omega,hos.1,hos.2.1,hos.2.2,fun x _ hn=>hoth x fun e=>hn id b n he (by rw[e];exact hown.1), .refl _,fun _ _ _ _=>rfl, .refl _,fun i x n' f h1 ho=>.inr (jN.not h1 ho)⟩⟩
 ·intro x o v e;have:x≠b:=fun e'=>by subst e';rw[hm o]at e;cases e
  rw[cell_of_heap (hoth x this)];exact h.mem x o v e
 ·intro j blk1 hj;unfold upd at hj;split at hj
  ·rename_i e;subst e;injection hj with hj;subst hj
   exact⟨b,n,he,⟨hown.1,fun f hf=>by rw[hz];exact hown.2 f hf⟩,hb⟩
  ·rename_i hne;obtain⟨b',n',e',hlt,hok⟩:=h.live _ _ hj;have:∀ f,n'.own f→f≠b:=fun f hf e=>by subst e;exact hne (h.inj _ _ _ _ _ _ _ _ _ hj hs e' he hf hown.1)
   exact⟨b',n',e',⟨hlt.1,fun f hf=>by rw[hz];exact hlt.2 f hf⟩,hok.mono hlt.1 (fun f hf=>hoth f (this f hf)) (.refl _) (.refl _) fun _ _ _=>rfl⟩
 ·intro i j x x' n1 n2 b1 b2 f hi hj h1 h2 o1 o2
  have key:∀ i b1,upd st id (some blk') i=some b1→∃ b2,st i=some b2:=by
   intro i b1 hi;unfold upd at hi;split at hi
   ·rename_i e;subst e;exact⟨_,hs⟩
   ·exact⟨_,hi⟩
  obtain⟨_,k1⟩:=key i b1 hi;obtain⟨_,k2⟩:=key j b2 hj;exact h.inj i j x x' n1 n2 _ _ f k1 k2 h1 h2 o1 o2
theorem Inv.set {w:World} {m:Mem} {φ:Pl} {st:Store} (h:Inv w m φ st) {id b:Nat} {n:Ext} {blk blk':Blk} (hs:st id=some blk) (he:φ id=some (b,n)) (hm:∀ o,m b o=none) (cs:Array Value)
 (hb:BlkOk (w.setRow b cs) m φ b n blk'):Inv (w.setRow b cs) m φ (upd st id (some blk'))∧Adv w m φ (w.setRow b cs) m φ :=
 h.APU hs he hm (by simp) (fun x hx=>setRow_other w b x cs hx) ⟨rfl,⟨rfl,zN _⟩,rfl⟩ hb
theorem Inv.AKS {w w0:World} {m:Mem} {φ:Pl} {st:Store} (hi:Inv w m φ st) {id nb b:Nat} {n:Ext} {blk blk0:Blk} (hst:st id=some blk0) (eφ:φ id=some (b,n)) (hnb:φ nb=none) (hblk:BlkOk w m φ b n blk) (ha:Adv w0 m φ w m φ) :
 Inv w m (kI φ nb (b,n)) (upd (upd st id none) nb (some blk))∧Adv w0 m φ w m (kI φ nb (b,n)):=by
 have hp:=PLe.kI (p:=(b,n)) hnb;have hne:nb≠id:=fun e=>by subst e;rw[hnb]at eφ;cases eφ
 have hown:=(dF hi eφ hst).1;refine⟨⟨hi.mem,?_,?_,fun i b' n' f h11 ho=>?_⟩,⟨ha.size,ha.os,ha.tape,ha.output,ha.block, .refl _,ha.mnew,hp,?_⟩⟩
 ·intro j blk' hj;unfold upd at hj;split at hj
  ·rename_i e;subst e;injection hj with hj;subst hj
   exact⟨b,n,cK _ _ _,hown,hblk.mono hown.1 (fun _ _=>rfl) (.refl _) hp fun _ _ _=>rfl⟩
  ·rename_i hj1;split at hj
   ·cases hj
   ·obtain⟨b',n',e',hlt,hok'⟩:=hi.live _ _ hj;exact⟨b',n',by rw[oQ hj1];exact e',hlt,hok'.mono hlt.1 (fun _ _=>rfl) (.refl _) hp fun _ _ _=>rfl⟩
 ·intro i j b1 b1' n1 n2 b2 b3 f h10 h11 h12 h13 o1 o2
  have key:∀ i b1 n1 b2,upd (upd st id none) nb (some blk) i=some b2→kI φ nb (b,n) i=some (b1,n1)→(i=nb∧n1=n)∨(i≠nb∧i≠id∧st i=some b2∧φ i=some (b1,n1)):=by
   intro i b1 n1 b2 h1 h2;unfold upd at h1;unfold kI at h2;split at h1
   ·rename_i e;subst e;rw[if_pos rfl]at h2;injection h2 with h2;injection h2 with e1 e2;exact .inl ⟨rfl,e2.symm⟩
   ·rename_i hne1;rw[if_neg hne1]at h2;split at h1
    ·cases h1
    ·rename_i hne2;exact .inr ⟨hne1,hne2,h1,h2⟩
  have q1:=key i b1 n1 b2 h10 h12;have q2:=key j b1' n2 b3 h11 h13
  rcases q1 with ⟨rfl,rfl⟩|⟨p1,p2,p3,p4⟩
  ·rcases q2 with ⟨rfl,_⟩|⟨p1,p2,p3,p4⟩
   ·rfl
   ·exact absurd (hi.inj _ _ _ _ _ _ _ _ _ p3 hst p4 eφ o2 o1) p2
  ·rcases q2 with ⟨rfl,rfl⟩|⟨q1,q2,q3,q4⟩
   ·exact absurd (hi.inj _ _ _ _ _ _ _ _ _ p3 hst p4 eφ o1 o2) p2
   ·exact hi.inj _ _ _ _ _ _ _ _ _ p3 q3 p4 q4 o1 o2
 ·unfold kI at h11;split at h11
  ·injection h11 with h11;injection h11 with e1 e2;subst e2;exact hi.low _ _ _ f eφ ho
  ·exact hi.low _ _ _ f h11 ho
 ·intro i b' n' f h11 ho;unfold kI at h11;split at h11
  ·injection h11 with h11;injection h11 with e1 e2;subst e2;exact .inr (jN.not eφ ho)
  ·exact .inr (jN.not h11 ho)
theorem Inv.forget {w:World} {m:Mem} {φ:Pl} {st st':Store} (h:Inv w m φ st) (hs:∀ id blk,st' id=some blk→st id=some blk):Inv w m φ st' :=
 ⟨h.mem,fun _ _ e=>h.live _ _ (hs _ _ e),fun i j b b' n1 n2 b1 b2 f hi hj h1 h2=>h.inj i j b b' n1 n2 b1 b2 f (hs _ _ hi) (hs _ _ hj) h1 h2,h.low⟩
def AQG:Blk→Nat
 | .box cs=>cs.length
 | .arr k es=>k*es.length
 | _=>0
open Classical in
noncomputable def AR (w:World) (m:Mem) (φ:Pl) (st:Store) (S:List Nat):Mem:=fun b o =>
 match m b o with
 | some v=>some v
 | none=>if ∃ id∈S,∃ n blk,φ id=some (b,n)∧st id=some blk∧o<AQG blk then w.cell? ⟨b,o,none⟩else none
theorem vG (w:World) (m:Mem) (φ:Pl) (st:Store) (S:List Nat):MLe m (AR w m φ st S):=fun b o v e=>by simp[AR,e]
theorem AGW {w:World} {m:Mem} {φ:Pl} {st:Store} (h:lD w m) (S:List Nat):lD w (AR w m φ st S):=fun b o v e=>by
 unfold AR at e;split at e
 ·rename_i u hu;injection e with e;subst e;exact h _ _ _ hu
 ·split at e
  ·exact e
  ·cases e
theorem GM {w:World} {m:Mem} {φ:Pl} {st:Store} {S:List Nat} {b:Nat} (h:∀ id∈S,∀ n,st id≠none→φ id≠some (b,n)) (o:Nat):AR w m φ st S b o=m b o:=by
 unfold AR
 cases hm:m b o with
 | some v=>rfl
 | none =>
  simp only;rw[if_neg];rintro⟨id,hs,n,blk,e,hst,_⟩;exact h id hs n (by rw[hst];simp) e
theorem YR {w:World} {m:Mem} {φ:Pl} {st:Store} {S:List Nat} {id b o:Nat} {n:Ext} {blk:Blk} (hS:id∈S) (e:φ id=some (b,n)) (hst:st id=some blk)
 (hl:o<AQG blk) (hm:m b o=none):AR w m φ st S b o=w.cell? ⟨b,o,none⟩:=by
 unfold AR;rw[hm];simp only;rw[if_pos ⟨id,hS,n,blk,e,hst,hl⟩]
def mK:Ups→List Nat
 | []=>[]
 | p::r=>p.1::mK r
theorem oU:∀ (a b:Ups),mK (a++b)=mK a++mK b
 | [],_=>rfl
 | p::a,b=>by simp[mK,oU a b]
def AMO (w:World) (m:Mem) (φ:Pl) (st:Store) (m':Mem) (p:Nat×Blk):Prop :=
 ∃ b n blk,φ p.1=some (b,n)∧(n.own b∧∀ f,n.own f→f<w.heap.size)∧st p.1=some blk∧(∀ o,m b o=none)∧BlkOk w m' φ b n p.2
theorem PW {w:World} {m:Mem} {φ:Pl} {st:Store} (hi:Inv w m φ st) (S:List Nat) {id k off len:Nat} {iv:IV} {us:Ups} {x:Value} (h:qR id k off len (st id)=some (iv,us)) (hS:∀ j∈mK us,j∈S) (hr:Rep m φ (.osl id k off len) x) :
 IRep (AR w m φ st S) iv x∧∀ p∈us,AMO w m φ st (AR w m φ st S) p:=by
 cases hr with
 | @osl _ _ _ _ cap b n ao e hlc hcap ha1 ha2 =>
  cases hst:st id with
  | none=>rw[hst]at h;simp[qR]at h
  | some blk =>
   rw[hst]at h;obtain⟨hb,hok⟩:=dF hi e hst
   have fin:∀ {es:List (List IV)},IElems (AR w m φ st S) b 0 k es→off+len≤es.length→IRep (AR w m φ st S) (.isl (window es off len)) (.slice ao len cap):=by
    intro es he hle;have hw:=wW off len he;have hl:(window es off len).length=len:=by simp[window];omega
    by_cases h0:window es off len=[]
    ·rw[h0]at hl ⊢;simp at hl;subst hl;exact .isl0 ao cap ha2
    ·have hc0:cap≠0:=fun hc=>by
      apply h0;apply yA;omega
     have:=ha1 hc0;subst this;have:=IRep.isl h0 hw (cap:=cap) (by omega)
     rwa [hl,zD]at this
   cases hok with
   | box=>simp[qR]at h
   | fbox=>simp[qR]at h
   | tre=>simp[qR]at h
   | loop=>simp[qR]at h
   | @arr T k' es vs hh hl hpos hw1 hc hfit hm hown1 hone =>
    simp only[qR]at h;obtain⟨h1,h2⟩:=aP.1 h;obtain⟨h3,h4⟩:=zS h1;subst h3;injection h2 with h2;injection h2 with h5 h6;subst h5;subst h6;have hin:id∈S:=hS id (by simp[mK])
    have he:IElems (AR w m φ st S) b 0 k' es:=by
     refine mE 0 hw1 (hc.mono (vG w m φ st S)) fun j v hj=>?_
     rw[zL]at hj;split at hj
     ·rename_i hlt;rw[zD,YR hin e hst hlt (hm j),bG hh,hj]
     ·cases hj
    exact⟨fin he h4,fun p hp=>by simp at hp;subst hp;exact⟨b,n,_,e,hb,hst,hm, .frz hpos he⟩⟩
   | @frz k' es hpos he =>
    simp only[qR]at h;obtain⟨h1,h2⟩:=aP.1 h;obtain⟨h3,h4⟩:=zS h1;subst h3;injection h2 with h2;injection h2 with h5 h6;subst h5;subst h6;exact⟨fin (he.mono (vG w m φ st S)) h4,fun p hp=>by simp at hp⟩
mutual
theorem ND {w:World} {m:Mem} {φ:Pl} {st:Store} (hi:Inv w m φ st) (S:List Nat):∀ (n:Nat) {v:AV} {iv:IV} {us:Ups} {x:Value},frz st n v=some (iv,us)→(∀ j∈mK us,j∈S)→Rep m φ v x →
 IRep (AR w m φ st S) iv x∧∀ p∈us,AMO w m φ st (AR w m φ st S) p
 | 0,_,_,_,_,h,_,_=>by simp[frz]at h
 | n+1,v,iv,us,x,h,hS,hr=>by
  cases hr with
  | junk=>simp[frz]at h
  | nils=>simp[frz]at h;obtain⟨rfl,rfl⟩:=h;exact⟨.isl0 none 0 (fun _=>rfl),by simp⟩
  | i hr=>simp[frz]at h;obtain⟨rfl,rfl⟩:=h;exact⟨hr.mono (vG w m φ st S),by simp⟩
  | @own id off b n' e =>
   simp only[frz]at h;exact V6 hi S n e h hS
  | ownE=>simp[frz]at h
  | osl a b c d e=>exact PW hi S (by simpa only[frz]using h) hS (.osl a b c d e)
  | @agg cs vs hc =>
   simp only[frz]at h;obtain⟨p,h1,h2⟩:=aH.1 h;injection h2 with h2;injection h2 with h3 h4;subst h3;subst h4;have:=vP hi S n h1 hS hc;exact⟨.agg this.1,this.2⟩
  | tup=>simp[frz]at h
  | fn=>simp[frz]at h
  | yld=>simp[frz]at h
  | ydead=>simp[frz]at h
theorem V6 {w:World} {m:Mem} {φ:Pl} {st:Store} (hi:Inv w m φ st) (S:List Nat):∀ (n:Nat) {id off b:Nat} {n':Ext} {iv:IV} {us:Ups},φ id=some (b,n')→wV st n id off (st id)=some (iv,us)→(∀ j∈mK us,j∈S) →
 IRep (AR w m φ st S) iv (.pointer (some ⟨b,off,none⟩))∧∀ p∈us,AMO w m φ st (AR w m φ st S) p
 | 0,_,_,_,_,_,_,_,h,_=>by simp[wV]at h
 | n+1,id,off,b,n',iv,us,e,h,hS=>by
  cases hst:st id with
  | none=>rw[hst]at h;simp[wV]at h
  | some blk =>
   rw[hst]at h;obtain⟨hb,hok⟩:=dF hi e hst
   cases hok with
   | arr=>simp[wV]at h
   | tre=>simp[wV]at h
   | loop=>simp[wV]at h
   | frz=>simp[wV]at h
   | @box T cs vs hh hl hc hm =>
    simp only[wV]at h;obtain⟨p,h1,h2⟩:=aH.1 h;obtain⟨h3,h4⟩:=aP.1 h2;have h3:=zS h3;injection h4 with h4;injection h4 with h5 h6;subst h5;subst h6;have hin:id∈S:=hS id (by simp[mK]);have hL:=vP hi S n h1 (fun j hj=>hS j (by simp[mK,hj])) hc;have hlen:=hc.length
    have hat:IAt (AR w m φ st S) b 0 p.1:=IAt.mk 0 hL.1 fun j v hj=>by
     have hjl:j<cs.length:=by have:=(zZ.1 hj).1;omega
     rw[zD,YR hin e hst hjl (hm j),bG hh,hj]
    refine⟨.iref (by have:=hat.dropE off h3;rwa [zD]at this),fun q hq=>?_⟩
    rcases zQ.1 hq with rfl|hq
    ·exact⟨b,n',_,e,hb,hst,hm, .fbox hat⟩
    ·exact hL.2 q hq
   | @fbox cs ha =>
    simp only[wV]at h;obtain⟨h3,h4⟩:=aP.1 h;have h3:=zS h3;injection h4 with h4;injection h4 with h5 h6;subst h5;subst h6;exact⟨.iref (by have:=(ha.mono (vG w m φ st S)).dropE off h3;rwa [zD]at this),by simp⟩
theorem vP {w:World} {m:Mem} {φ:Pl} {st:Store} (hi:Inv w m φ st) (S:List Nat):∀ (n:Nat) {cs:List AV} {l:List IV} {us:Ups} {vs:List Value},I5 st n cs=some (l,us)→(∀ j∈mK us,j∈S)→RepC m φ cs vs →
 ICells (AR w m φ st S) l vs∧∀ p∈us,AMO w m φ st (AR w m φ st S) p
 | n,[],_,_,_,h,_, .nil=>by simp[I5]at h;obtain⟨rfl,rfl⟩:=h;exact⟨.nil,by simp⟩
 | 0,_::_,_,_,_,h,_,_=>by simp[I5]at h
 | n+1,c::cs,l,us,_,h,hS, .cons a o b=>by
  simp only[I5]at h;obtain⟨p,h1,h2⟩:=aH.1 h;obtain⟨q,h3,h4⟩:=aH.1 h2;injection h4 with h4;injection h4 with h5 h6;subst h5;subst h6;have k1:=ND hi S n h1 (fun j hj=>hS j (by rw[oU];exact zT.2 (.inl hj))) a;have k2:=vP hi S n h3 (fun j hj=>hS j (by rw[oU];exact zT.2 (.inr hj))) b;refine⟨.cons k1.1 o k2.1,fun r hr=>?_⟩
  rcases zT.1 hr with hr|hr
  ·exact k1.2 r hr
  ·exact k2.2 r hr
end
theorem E5 (st:Store):∀ (us:Ups) (id:Nat),(gB st us id=st id∧id ∉ mK us)∨∃ blk,(id,blk)∈us∧gB st us id=some blk
 | [],id=>.inl ⟨rfl,by simp[mK]⟩
 | p::us,id=>by
  simp only[gB,upd];by_cases h:id=p.1
  ·subst h;exact .inr ⟨p.2,by simp,by simp⟩
  ·rw[if_neg h]
   rcases E5 st us id with ⟨h1,h2⟩|⟨blk,h1,h2⟩
   ·exact .inl ⟨h1,by simp[mK,h,h2]⟩
   ·exact .inr ⟨blk,by simp[h1],h2⟩
theorem V7 {w:World} {m:Mem} {φ:Pl} {st:Store} (hi:Inv w m φ st) (us:Ups) (hu:∀ p∈us,AMO w m φ st (AR w m φ st (mK us)) p) :
 Inv w (AR w m φ st (mK us)) φ (gB st us)∧Adv w m φ w (AR w m φ st (mK us)) φ:=by
 have hlive:∀ id blk,gB st us id=some blk→∃ blk',st id=some blk':=by
  intro id blk h
  rcases E5 st us id with ⟨h1,_⟩|⟨blk',h1,_⟩
  ·exact⟨blk,by rw[← h1];exact h⟩
  ·obtain⟨_,_,b1,_,_,h2,_⟩:=hu _ h1;exact⟨b1,h2⟩
 have hroot:∀ id f n,st id≠none→φ id=some (f,n)→n.own f:=fun id f n hne e=>by
  obtain⟨blk2,hb2⟩:=Option.ne_none_iff_exists'.1 hne;exact(dF hi e hb2).1.1
 refine⟨⟨AGW hi.mem _,?_,?_,hi.low⟩,⟨Nat.le_refl _,rfl, .refl _,rfl,fun _ _ _=>rfl,vG _ _ _ _ _,fun b _ hn o=>GM (fun id _ n hne e=>hn id b n e (hroot id b n hne e)) o, .refl _,fun i b n f h1 ho=>.inr (jN.not h1 ho)⟩⟩
 ·intro id blk h
  rcases E5 st us id with ⟨h1,h2⟩|⟨blk',h1,h2⟩
  ·rw[h1]at h;obtain⟨b,n,e,hb,hok⟩:=hi.live _ _ h;refine⟨b,n,e,hb,?_⟩
   have hoth2:∀ f,n.own f→∀ o,AR w m φ st (mK us) f o=m f o:=by
    intro f hf;apply GM;intro j hj n' hj' e';obtain⟨blk2,hb2⟩:=Option.ne_none_iff_exists'.1 hj';have:=hi.inj _ _ _ _ _ _ _ _ _ hb2 h e' e (hroot j f n' hj' e') hf;subst this;exact h2 hj
   exact hok.mono hb.1 (fun _ _=>rfl) (vG _ _ _ _ _) (.refl _) hoth2
  ·rw[h2]at h;injection h with h;subst h
   obtain⟨b,n,_,e,hb,_,_,hok⟩:=hu _ h1;exact⟨b,n,e,hb,hok⟩
 ·intro i j b b' n1 n2 b1 b2 f h1 h2 h3 h4;obtain⟨_,k1⟩:=hlive _ _ h1;obtain⟨_,k2⟩:=hlive _ _ h2;exact hi.inj i j b b' n1 n2 _ _ f k1 k2 h3 h4
theorem gX {w:World} {m:Mem} {φ:Pl} {st st1:Store} {v:AV} {iv:IV} {x:Value} (hi:Inv w m φ st) (hr:Rep m φ v x) (h:oL st v=some (iv,st1)) :
 ∃ m1,IRep m1 iv x∧Inv w m1 φ st1∧Adv w m φ w m1 φ:=by
 have key:∀ us,frz st rX v=some (iv,us)→st1=gB st us→∃ m1,IRep m1 iv x∧Inv w m1 φ st1∧Adv w m φ w m1 φ:=by
  intro us h1 h2;subst h2;have k:=ND hi (mK us) rX h1 (fun _ h=>h) hr;have k2:=V7 hi us k.2;exact⟨_,k.1,k2.1,k2.2⟩
 unfold oL at h;split at h
 ·injection h with h;injection h with h1 h2;subst h1;subst h2
  cases hr with
  | i hr=>exact⟨m,hr,hi, .refl _ _ _⟩
 ·obtain⟨p,h1,h2⟩:=aH.1 h;injection h2 with h2;injection h2 with h3 h4;subst h3;exact key p.2 h1 h4.symm
theorem rY {w:World}:∀ {cs:List AV} {m:Mem} {φ:Pl} {st st1:Store} {l:List IV} {vs:List Value},Inv w m φ st→RepC m φ cs vs→l8 st cs=some (l,st1) →
 ∃ m1,ICells m1 l vs∧Inv w m1 φ st1∧Adv w m φ w m1 φ
 | [],m,φ,st,st1,l,_,hi, .nil,h=>by
  simp[l8]at h;obtain⟨rfl,rfl⟩:=h;exact⟨m, .nil,hi, .refl _ _ _⟩
 | c::cs,m,φ,st,st1,l,_,hi, .cons a o b,h=>by
  simp only[l8]at h;obtain⟨p,h1,h2⟩:=aH.1 h;obtain⟨q,h3,h4⟩:=aH.1 h2;injection h4 with h4;injection h4 with h5 h6;subst h5;subst h6;obtain⟨m1,k1,k2,k3⟩:=gX hi a h1;obtain⟨m2,k4,k5,k6⟩:=rY k2 (b.mono k3.mle (.refl _)) h3;exact⟨m2, .cons (k1.mono k6.mle) o k4,k5,k3.trans k6⟩
theorem Inv.drew {w:World} {m:Mem} {φ:Pl} {st:Store} (h:Inv w m φ st):Inv w.drew m φ st :=
 ⟨fun b o v e=>h.mem b o v e,fun id blk e=>by
  obtain⟨b,n,e1,hb,hok⟩:=h.live id blk e
  exact⟨b,n,e1,hb,hok.mono (w':=w.drew) hb.1 (fun _ _=>rfl) (.refl _) (.refl _) fun _ _ _=>rfl⟩,h.inj,h.low⟩
theorem Adv.drew (w:World) (m:Mem) (φ:Pl):Adv w m φ w.drew m φ :=
 ⟨Nat.le_refl _,rfl,⟨rfl,Nat.le_succ _⟩,rfl,fun _ _ _=>rfl, .refl _,fun _ _ _ _=>rfl, .refl _,fun i b n f h1 ho=>.inr (jN.not h1 ho)⟩
theorem sF {m:Mem} {b k:Nat}:∀ {off:Nat} {es:List (List IV)},IElems m b off k es→∃ cs,ICells m es.flatten cs∧∀ j v,cs[j]?=some v→m b (off+j)=some v
 | _,_, .nil _ _ _=>⟨[], .nil,by simp⟩
 | off,_, .cons (cs:=e) a hl r=>by
  obtain⟨us,h1,h2⟩:=a.cells;obtain⟨cs,h3,h4⟩:=sF r;refine⟨us++cs,by simpa using h1.append h3,fun j v hj=>?_⟩;have hul:us.length=k:=by have:=h1.length;omega
  by_cases hlt:j<us.length
  ·rw[zJ hlt]at hj;exact h2 j v hj
  ·rw[zM (by omega)]at hj;have:=h4 _ v hj;rw[← this];congr 1;omega
theorem vS:∀ (l:List UInt8),(mW l).length=l.length
 | []=>rfl
 | _::l=>by simp[mW,vS l]
theorem A7 (m:Mem):∀ (l:List UInt8),ICells m (mW l).flatten (l.map fun b=>.int .u8 b.toNat)
 | []=>.nil
 | b::l=>by simpa [mW]using ICells.cons (.lit _) rfl (A7 m l)
theorem wZ:∀ (l:List UInt8),∀ e∈mW l,e.length=1
 | []=>by simp[mW]
 | b::l=>by
  intro e he
  rcases zQ.1 he with rfl|he
  ·rfl
  ·exact wZ l e he
theorem KT {k:Nat} {es:List (List IV)} (h:iO k es=true):∀ e∈es,e.length=k:=fun e he=>by
 have:=zR.1 h e he;simpa using this
section
variable {P:Program} {w:World} {m:Mem} {φ:Pl} {st:Store}
structure Reads (P:Program) (w:World) (m:Mem) (k:Nat) (es:List (List IV)) (x:Value) (cs:List Value):Prop where
 len:(Builtin.lenOf x).run P w=.ok es.length w
 first:∀ n,n≤es.length→(Builtin.firstCells k n x).run P w=.ok (cs.take (n*k)).toArray w
 cells:ICells m es.flatten cs
 width:∀ e∈es,e.length=k
theorem NU {w w':World} (h:w'.heap=w.heap) (a:Addr):w'.cell? a=w.cell? a:=by simp[World.cell?,h]
theorem Y0 {b off k:Nat} {es:List (List IV)} {cap:Nat} (hw:lD w m) (he:IElems m b off k es):∃ cs,∀ w',w'.heap=w.heap→Reads P w' m k es (.slice (some ⟨b,off,none⟩) es.length cap) cs:=by
 obtain⟨cs,h1,h2⟩:=sF he;have hwid:=pQ he;have hl:=h1.length;rw[bV hwid]at hl;refine⟨cs,fun w' hw'=>⟨rfl,fun n hn=>?_,h1,hwid⟩⟩;have hnk:n*k≤cs.length:=by rw[← hl,zG];exact yY _ hn
 have:=run_loadCells_list (P:=P) w' ⟨b,off,none⟩ (cs.take (n*k)) (fun j v hj=>by
  rw[Addr.dH,NU hw'];apply hw;apply h2;rw[zL]at hj;split at hj
  ·exact hj
  ·cases hj)
 rw[yM,yH hnk]at this;exact this
theorem rM (P:Program) (w:World) (m:Mem) (k:Nat) (ao:Option Addr) (cap:Nat):Reads P w m k [] (.slice ao 0 cap) []:=by
 refine⟨rfl,fun n hn=>?_, .nil,by simp⟩;have:n=0:=by simpa using hn
 subst this
 cases ao with
 | none=>simp[Builtin.firstCells]
 | some a=>simp[Builtin.firstCells,loadCells,loadCellsFrom]
theorem IA {k:Nat} {a:AV} {x:Value} {es:List (List IV)} (hi:Inv w m φ st) (hr:Rep m φ a x) (h:dE st k a=some es):∃ cs,∀ w',w'.heap=w.heap→Reads P w' m k es x cs:=by
 cases hr with
 | junk=>simp[dE]at h
 | own=>simp[dE]at h
 | ownE=>simp[dE]at h
 | agg=>simp[dE]at h
 | tup=>simp[dE]at h
 | fn=>simp[dE]at h
 | yld=>simp[dE]at h
 | ydead=>simp[dE]at h
 | nils=>simp[dE]at h;subst h;exact⟨[],fun w' _=>rM P w' m k none 0⟩
 | i hr =>
  cases hr with
  | agg=>simp[dE]at h
  | iref=>simp[dE]at h
  | isl0 ao cap hc =>
   simp only[dE]at h;obtain⟨_,h⟩:=aP.1 h;injection h with h;subst h;exact⟨[],fun w' _=>rM P w' m k ao cap⟩
  | @isl b off k' es' cap hne he hc =>
   simp only[dE]at h;obtain⟨h0,h⟩:=aP.1 h;injection h with h;subst h;have h1:=KT h0;have h2:=pQ he
   cases es' with
   | nil=>exact absurd rfl hne
   | cons e es =>
    have hk:k'=k:=by rw[← h1 e (by simp),← h2 e (by simp)]
    subst hk;exact Y0 hi.mem he
  | lit =>
   cases x<;>simp only[dE]at h<;>try (cases h;done)
   rename_i s;obtain⟨h0,h⟩:=aP.1 h;injection h with h;subst h;have hk:k=1:=by simpa using h0
   subst hk;refine⟨s.data.toList.map fun b=>.int .u8 b.toNat,fun w' _=>⟨?_,?_,A7 m _,wZ _⟩⟩
   ·show Result.ok s.size w'=Result.ok (mW s.data.toList).length w';rw[vS];rfl
   ·intro n hn;rw[vS]at hn;simp only[Builtin.firstCells,Sem.run_pure,Nat.mul_one];congr 1;apply Array.ext';simp[ByteArray.data_extract]
 | @osl id k' off len cap b n ao e hlc hcap ha1 ha2 =>
  simp only[dE]at h
  cases hst:st id with
  | none=>rw[hst]at h;simp[mF]at h
  | some blk =>
   rw[hst]at h;obtain⟨hb,hok⟩:=IQ hi e hst
   have fin:∀ (es0:List (List IV)),off+len≤es0.length→es=window es0 off len→(∃ cs:List Value,ICells m es0.flatten cs∧(∀ e∈es0,e.length=k)∧∀ j v,cs[j]?=some v→w.cell? ⟨b,j,none⟩=some v) →
    k'=k→∃ cs,∀ w',w'.heap=w.heap→Reads P w' m k es (.slice ao len cap) cs:=by
    intro es0 hle hes ⟨cs,h1,h2,h3⟩ hk;subst hes;subst hk;have hwl:(window es0 off len).length=len:=by simp[window];omega
    have hww:∀ e∈window es0 off len,e.length=k':=fun e he=>h2 e (yQ (zC he))
    by_cases hc0:len=0
    ·subst hc0;have:window es0 off 0=[]:=by simp[window]
     rw[this];exact⟨[],fun w' _=>rM P w' m k' ao cap⟩
    ·have:=ha1 (by omega);subst this
     have hflat:(window es0 off len).flatten=(es0.flatten.drop (k'*off)).take (k'*len):=by
      have g1:∀ (n:Nat) (l:List (List IV)),(∀ e∈l,e.length=k')→(l.drop n).flatten=l.flatten.drop (k'*n):=by
       intro n
       induction n with
       | zero=>intro l _;simp
       | succ n ih =>
        intro l hl
        cases l with
        | nil=>simp
        | cons e l =>
         have he:=hl e (by simp);simp only[xP,z8];rw[ih l (fun e he=>hl e (by simp[he])),zA5,show k'*(n+1)=e.length+k'*n by rw[he,zA];omega];simp
      have g2:∀ (n:Nat) (l:List (List IV)),(∀ e∈l,e.length=k')→(l.take n).flatten=l.flatten.take (k'*n):=by
       intro n
       induction n with
       | zero=>intro l _;simp
       | succ n ih =>
        intro l hl
        cases l with
        | nil=>simp
        | cons e l =>
         have he:=hl e (by simp);simp only[yX,z8];rw[ih l (fun e he=>hl e (by simp[he])),xR,show k'*(n+1)=e.length+k'*n by rw[he,zA];omega];rw[zW (by omega:e.length≤e.length+k'*n)];simp
      unfold window;rw[g2 len _ (fun e he=>h2 e (yQ he)),g1 off es0 h2]
     have hcl:=h1.length;rw[bV h2]at hcl;refine⟨(cs.drop (k'*off)).take (k'*len),fun w' hw'=>⟨by rw[hwl];rfl,fun j hj=>?_,by rw[hflat];exact(h1.drop _).take _,hww⟩⟩;rw[hwl]at hj;have hjk:j*k'≤k'*len:=by rw[zG j];exact yY _ hj
     have hall:k'*off+k'*len≤cs.length:=by rw[← hcl,← Nat.mul_add];exact yY _ hle
     have:=run_loadCells_list (P:=P) w' ⟨b,k'*off,none⟩ (((cs.drop (k'*off)).take (k'*len)).take (j*k')) (fun i v hi'=>by
      rw[Addr.dH,NU hw'];apply h3;rw[zL]at hi';split at hi'
      ·rw[zL]at hi';split at hi'
       ·rw[yS]at hi';exact hi'
       ·cases hi'
      ·cases hi')
     rw[show((((cs.drop (k'*off)).take (k'*len)).take (j*k'))).length=j*k' by simp;omega]at this;exact this
   cases hok with
   | box=>simp[mF]at h
   | fbox=>simp[mF]at h
   | tre=>simp[mF]at h
   | loop=>simp[mF]at h
   | @arr T k'' es0 vs hh hl hpos hw1 hc hfit hm hown1 hone =>
    simp only[mF]at h;obtain⟨h1,h2⟩:=aP.1 h;obtain⟨h3,h4,h5⟩:=zS h1;injection h2 with h2;subst h4;refine fin es0 h5 h2.symm ⟨_,hc,hw1,fun j v hj=>?_⟩ h3;rw[bG hh];rw[zL]at hj;split at hj
    ·exact hj
    ·cases hj
   | @frz k'' es0 hpos he =>
    simp only[mF]at h;obtain⟨h1,h2⟩:=aP.1 h;obtain⟨h3,h4,h5⟩:=zS h1;injection h2 with h2;subst h4;obtain⟨cs,h6,h7⟩:=sF he;refine fin es0 h5 h2.symm ⟨cs,h6,pQ he,fun j v hj=>?_⟩ h3;apply hi.mem;have:=h7 j v hj
    rwa [zD]at this
end
theorem rP {P:Program} {u:TypeId} (h:uD (bE P u)=true):P.underlying u=some .string∨∃ e,P.underlying u=some (.slice e):=by
 unfold bE at h
 cases hu:P.underlying u with
 | none=>rw[hu]at h;simp[uD]at h
 | some d=>rw[hu]at h;cases d<;>first|(simp[uD]at h;done)|exact .inl rfl|exact .inr ⟨_,rfl⟩
section
variable {P:Program} {w:World}
theorem l7 {t u ty e:TypeId} {k n len cap:Nat} {base:Option Addr} {xv:Value} {news:List Value} (ht:P.underlying t=some (.slice e)) (hu:uD (bE P u)=true) (hs:gM P e=some k)
 (hl:(Builtin.lenOf xv).run P w=.ok n w) (hf:(Builtin.firstCells k n xv).run P w=.ok news.toArray w) (hroom:len+n≤cap) (w':World)
 (hst:match base with|some a=>(storeCells (a.add (len*k)) news).run P w=.ok () w'|none=>w'=w) :
 (Builtin.append_ #[t,u] ty #[.slice base len cap,xv]).run P w=.ok (.slice base (len+n) cap) w':=by
 cases base with
 | none =>
  simp only at hst;subst hst
  rcases rP hu with hd|⟨e',hd⟩<;>simp[Builtin.append_,iF ht,iF hd,dB hs,hl,hf,hroom]
 | some a =>
  simp only at hst
  rcases rP hu with hd|⟨e',hd⟩<;>simp[Builtin.append_,iF ht,iF hd,dB hs,hl,hf,hroom,hst]
theorem J2 {z:Array Value} {n:Nat} {u:Value} (h:u∈(Builtin.zeroCells z n).toList):u∈z.toList:=by
 simp only[Builtin.zeroCells,Array.toList_map,yB,Array.toList_range,List.mem_range]at h;obtain⟨i,hi,rfl⟩:=h
 have h0:0<z.size:=by
  rcases Nat.eq_zero_or_pos z.size with h|h
  ·rw[h]at hi;simp at hi
  ·exact h
 have hm:=Nat.mod_lt i h0;rw[getElem!_pos z (i % z.size) hm];simp
theorem qC {t u ty e:TypeId} {k n len cap by_:Nat} {base:Option Addr} {xv:Value} {olds news z:List Value} (ht:P.underlying t=some (.slice e)) (hu:uD (bE P u)=true) (hs:gM P e=some k)
 (hby:WQ P e=some by_) (hz:zeroOf P e=some z)
 (hl:(Builtin.lenOf xv).run P w=.ok n w)
 (hgrow:cap<len+n) (hpos:0<by_) (hbytes:(len+n)*by_≤140737488355328)
 (hf2:(Builtin.firstCells k n xv).run P w.drew=.ok news.toArray w.drew) (ho2:(Builtin.firstCells k len (.slice base len cap)).run P w.drew=.ok olds.toArray w.drew) :
 ∃ (cap':Nat) (rest:List Value),len+n≤cap'∧rest.length=(cap'-(len+n))*z.length∧(∀ v∈rest,v∈z) ∧
   (Builtin.append_ #[t,u] ty #[.slice base len cap,xv]).run P w=.ok (.slice (some ⟨w.heap.size,0,none⟩) (len+n) cap') (w.drew.alloc (.cells (olds++(news++rest)).toArray e)):=by
 obtain⟨i,_,hi2,hi3⟩:=M6 hby w;have hi4:∀ w,(typeInfo e).run P w=.ok i w:=fun w=>by simp[typeInfo,hi3]
 have hzr:∀ w,∃ v,(zeroValue e).run P w=.ok v w∧v.cells.toList=z:=AO hz;obtain⟨v,hv1,hv2⟩:=hzr w
 have hv3:∀ w,(zeroValue e).run P w=.ok v w:=fun w'=>by
  have hz:=(mI hz).2;rw[hi3]at hz
  cases hzz:i.zero with
  | none=>simp[hzz]at hz
  | some u =>
   simp[zeroValue,typeInfo,hi3,hzz]at hv1 ⊢;exact hv1
 subst hi2;have hnot:¬ len+n≤cap:=by omega
 have hfit:=growslice_fits (bytes:=i.bytes) hgrow hbytes;have hnb:¬ (281474976710656<Builtin.nextslicecap (len+n) cap*i.bytes):=by omega
 have hb0:¬ i.bytes=0:=by omega
 let q:=Question.appendCap (len+n) cap e
 refine⟨q.cut (w.tape w.drawn q),(Builtin.zeroCells v.cells (q.cut (w.tape w.drawn q)-(len+n))).toList,?_,?_,?_,?_⟩
 ·show len+n≤(len+n)+_;omega
 ·rw[← hv2];simp[Builtin.zeroCells]
 ·intro u hu;rw[← hv2];exact J2 hu
 ·rcases rP hu with hd|⟨e',hd⟩<;>simp[Builtin.append_,iF ht,iF hd,dB hs,hl,hnot,hi4,hnb,hb0,hv3,newRow,Question.forced,hf2,ho2,q]<;>(congr 2;apply Array.ext';simp)
end
def sO (P:Program):Prop:=∀ t z,zeroOf P t=some z→∀ v∈z,v.oneCell'=true
theorem lF {k:Nat}:∀ (n:Nat) (l:List (List IV)),(∀ e∈l,e.length=k)→(l.take n).flatten=l.flatten.take (k*n)
 | 0,l,_=>by simp
 | n+1,[],_=>by simp
 | n+1,e::l,h=>by
  have he:=h e (by simp);simp only[yX,z8];rw[lF n l (fun e he=>h e (by simp[he])),xR,show k*(n+1)=e.length+k*n by rw[he,zA];omega];rw[zW (by omega:e.length≤e.length+k*n)];simp
section
variable {C:Ctx} {w:World} {m:Mem} {φ:Pl} {st:Store}
theorem O7 {t u ty:TypeId} {s x v:AV} {sv xv:Value} {st':Store} {nb:Nat} (hzo:sO C.P) (hi:Inv w m φ st) (hs:Rep m φ s sv) (hx:Rep m φ x xv) (hf:∀ id,nb≤id→id<nb+wide→φ id=none)
 (hu:uD (bE C.P u)=true) (h:AIF C t s x st nb=some (v,st')):∃ y w',(Builtin.append_ #[t,u] ty #[sv,xv]).run C.P w=.ok y w'∧Out w m φ nb v st' y w':=by
 have hnb:=hf nb (zN _) (jP nb);unfold AIF at h;obtain⟨e,he,h1⟩:=aH.1 h;obtain⟨k,hk,h2⟩:=aH.1 h1;obtain⟨by_,hby,h3⟩:=aH.1 h2;obtain⟨z,hz,h4⟩:=aH.1 h3;obtain⟨h5,h6⟩:=aP.1 h4;obtain⟨hk0,hb0,hzl⟩:=zS h5;obtain⟨news,hn,h7⟩:=aH.1 h6;have ht:=kL he;obtain⟨cs,hrr⟩:=IA (P:=C.P) hi hx hn;have hr:=hrr w rfl;have hr2:=hrr w.drew rfl;have hcl:=hr.cells.length;rw[bV hr.width]at hcl;have hle0:cs.length≤news.length*k:=by rw[← hcl,zG];exact zN _
 have hfirst:=hr.first news.length (zN _);rw[zW hle0]at hfirst;have hlen:=hr.len;have hfirst2:=hr2.first news.length (zN _);rw[zW hle0]at hfirst2;unfold O8 at h7
 cases hs with
 | junk=>simp at h7
 | i=>simp at h7
 | own=>simp at h7
 | ownE=>simp at h7
 | agg=>simp at h7
 | tup=>simp at h7
 | fn=>simp at h7
 | yld=>simp at h7
 | ydead=>simp at h7
 | nils =>
  simp only at h7;by_cases hempty:news=[]
  ·subst hempty;simp only[List.isEmpty_nil,A9,Option.some.injEq,Prod.mk.injEq]at h7;obtain⟨rfl,rfl⟩:=h7;have hcl:=yA hcl.symm;subst hcl;refine⟨_,w,l7 (n:=0) ht hu hk hlen hfirst (by omega) w rfl,?_⟩;exact Out.same hi .nils
  ·have hie:news.isEmpty=false:=by cases news<;>simp at hempty ⊢
   rw[hie]at h7;simp only[A9]at h7;obtain⟨h8,h9⟩:=aP.1 h7;have h8:=zS h8;simp only[Option.some.injEq,Prod.mk.injEq]at h9;obtain⟨rfl,rfl⟩:=h9;have hpos:0<news.length:=by cases news with|nil=>exact absurd rfl hempty|cons=>simp
   obtain⟨cap',rest,hcap,hrest,hrz,hrun⟩:=qC (ty:=ty) (len:=0) (cap:=0) (base:=none) (olds:=[]) ht hu hk hby hz hlen (by omega) hb0 (by simpa using h8) hfirst2 (by simp[Builtin.firstCells]);simp only[zD,xN]at hrun hcap hrest
   have hblk:BlkOk (w.drew.alloc (.cells (cs++rest).toArray e)) m (kI φ nb (w.drew.heap.size,one w.drew.heap.size (cs++rest).length)) w.drew.heap.size (one w.drew.heap.size (cs++rest).length) (.arr k news):=by
    refine .arr (T:=e) (eQ w.drew _) rfl hk0 hr.width ?_ ?_ ?_ (fun _ hf=>hf) (fun v hv=>by
     rcases zT.1 hv with hv|hv
     ·exact hr.cells.one v hv
     ·exact hzo _ _ hz v (hrz v hv))
    ·rw[hcl,List.take_left];exact hr.cells
    ·rw[hcl];simp
    ·intro o
     cases hm:m w.drew.heap.size o with
     | none=>rfl
     | some u=>exact absurd (hi.mem.lt hm) (by show ¬ w.heap.size<w.heap.size;omega)
   obtain⟨k1,k2⟩:=hi.drew.push hnb _ hblk;refine⟨_,_,hrun,m,_, .osl (cK _ _ _) hcap ?_ (fun _=>rfl) (fun h=>by cases h),k1,(Adv.drew w m φ).trans k2,nE (zN _) (jP nb)⟩;rw[JL,zF,← hcl,hrest,hzl,zD,← Nat.mul_comm k,← Nat.mul_add];exact yY _ (by omega)
 | @osl id k' off len cap b n ao eφ hlc hcap ha1 ha2 =>
  simp only at h7
  cases hst:st id with
  | none=>rw[hst]at h7;simp[qD]at h7
  | some blk =>
   rw[hst]at h7;obtain⟨hbl,hok⟩:=dF hi eφ hst
   cases hok with
   | box=>simp[qD]at h7
   | fbox=>simp[qD]at h7
   | frz=>simp[qD]at h7
   | tre=>simp[qD]at h7
   | loop=>simp[qD]at h7
   | @arr T k'' es vs hh hl hpos hw1 hc hfit hm hown1 hone =>
    simp only[qD]at h7;obtain⟨h8,h9⟩:=aP.1 h7;obtain⟨rfl,rfl,rfl,hle,hbytes⟩:=zS h8;simp only[Option.some.injEq,Prod.mk.injEq]at h9;obtain⟨rfl,rfl⟩:=h9;simp only[zD,Nat.mul_zero]at hcap ha1;have hklen:k''*len≤k''*es.length:=yY _ hle;have hwt:∀ e∈es.take len,e.length=k'':=fun e he=>hw1 e (zC he)
    have hwn:∀ e∈es.take len++news,e.length=k'':=fun e he=>by
     rcases zT.1 he with he|he
     ·exact hwt e he
     ·exact hr.width e he
    have hcold:ICells m (es.take len).flatten (vs.take (k''*len)):=by
     rw[lF len es hw1];have:=hc.take (k''*len)
     rwa [zK,yH hklen]at this
    have hnew:ICells m (es.take len++news).flatten (vs.take (k''*len)++cs):=by
     rw[List.flatten_append];exact hcold.append hr.cells
    have holdlen:(vs.take (k''*len)).length=k''*len:=by simp;omega
    have htl:(es.take len++news).length=len+news.length:=by simp;omega
    by_cases hroom:len+news.length≤cap
    ·-- in place
     have hkr:k''*(len+news.length)≤n.len:=Nat.le_trans (yY _ hroom) hcap;have hkr':k''*len+cs.length≤n.len:=by rw[← hcl,← Nat.mul_add];exact hkr
     by_cases hc0:cap=0
     ·-- nothing is appended to nothing
      have hl0:len=0:=by omega
      have hn0:news=[]:=yA (by omega);subst hl0;subst hn0;have hcl:=yA hcl.symm;subst hcl
      refine⟨_,w,l7 (n:=0) ht hu hk hlen hfirst hroom w (by
       cases ao with
       | none=>rfl
       | some a=>simp[storeCells]),?_⟩
      have hi1:Inv w m φ (upd st id none):=hi.forget fun j blk hj=>by
       unfold upd at hj;split at hj
       ·cases hj
       ·exact hj
      obtain⟨z1,z2⟩:=hi.AKS hst eφ hnb (blk:=.arr k'' []) (.arr hh hl hk0 (by simp) (by simpa using ICells.nil) (by simp) hm hown1 hone) (.refl _ _ _);exact⟨m,kI φ nb (b,n), .osl (cK _ _ _) hroom (by simpa using hcap) (by simpa using ha1) ha2,by simpa using z1,z2,nE (zN _) (jP nb)⟩
     ·have hao:=ha1 hc0;subst hao;have hstore:=run_storeCells_at C.P b (len*k'') T cs 0 vs.toArray w hh (by simp;rw[zG len];omega) hr.cells.one;simp only[xQ]at hstore;rw[zG len]at hstore
      have hrun:=l7 (ty:=ty) (base:=some ⟨b,0,none⟩) (cap:=cap) ht hu hk hlen hfirst hroom _ (by
       simp only[Addr.dH,zD];rw[zG len];exact hstore)
      refine⟨_,_,hrun,?_⟩;have hvs:(vs.toArray.toList.take (k''*len)++cs++vs.toArray.toList.drop (k''*len+cs.length)).toArray=(vs.take (k''*len)++cs++vs.drop (k''*len+cs.length)).toArray:=by simp
      rw[hvs];have hlen2:(vs.take (k''*len)++cs++vs.drop (k''*len+cs.length)).length=n.len:=by simp;omega
      have hblk:BlkOk (w.setRow b (vs.take (k''*len)++cs++vs.drop (k''*len+cs.length)).toArray) m φ b n (.arr k'' (es.take len++news)):=by
       refine .arr (T:=T) (setRow_heap w b _ _ T (0,0) hh) hlen2 hk0 hwn ?_ (by rw[htl];exact hkr) hm hown1 (fun v hv=>by
      rcases zT.1 hv with hv|hv
      ·rcases zT.1 hv with hv|hv
       ·exact hone v (zC hv)
       ·exact hr.cells.one v hv
      ·exact hone v (yQ hv))
       rw[htl,zA,hcl];have e0:(vs.take (k''*len)++cs).length=k''*len+cs.length:=by rw[zF,holdlen]
       rw[← e0,List.take_left];exact hnew
      obtain⟨g1,g2⟩:=hi.set hst eφ hm _ hblk;have hs1:upd st id (some (.arr k'' (es.take len++news))) id=some (.arr k'' (es.take len++news)):=by simp[upd]
      obtain⟨z1,z2⟩:=g1.AKS hs1 eφ hnb hblk g2
      have hst2:upd (upd (upd st id (some (Blk.arr k'' (es.take len++news)))) id none) nb (some (Blk.arr k'' (es.take len++news)))=upd (upd st id none) nb (some (Blk.arr k'' (es.take len++news))):=by
       funext j;simp only[upd];split
       ·rfl
       ·split<;>rfl
      rw[hst2]at z1;exact⟨m,kI φ nb (b,n), .osl (cK _ _ _) hroom (by simpa using hcap) (fun _=>by simp) (fun h=>by cases h),z1,z2,nE (zN _) (jP nb)⟩
    ·-- a new array
     have hold:(Builtin.firstCells k'' len (.slice ao len cap)).run C.P w.drew=.ok (vs.take (k''*len)).toArray w.drew:=by
      by_cases hc0:cap=0
      ·have hl0:len=0:=by omega
       subst hl0
       cases ao with
       | none=>simp[Builtin.firstCells]
       | some a=>simp[Builtin.firstCells,loadCells,loadCellsFrom]
      ·have hao:=ha1 hc0;subst hao
       have:=run_loadCells_list (P:=C.P) w.drew ⟨b,0,none⟩ (vs.take (k''*len)) (fun j u hj=>by
        rw[Addr.dH,zD];show w.cell? ⟨b,j,none⟩=some u;rw[bG hh];rw[zL]at hj;split at hj
        ·exact hj
        ·cases hj)
       rw[holdlen]at this;simp only[Builtin.firstCells];rw[zG len];exact this
     obtain⟨cap',rest,hcap',hrest,hrz,hrun⟩:=qC (ty:=ty) (len:=len) (cap:=cap) (base:=ao) (olds:=vs.take (k''*len)) ht hu hk hby hz hlen (by omega) hb0 hbytes hfirst2 hold
     have hi1:Inv w m φ (upd st id none):=hi.forget fun j blk hj=>by
      unfold upd at hj;split at hj
      ·cases hj
      ·exact hj
     have hblk:BlkOk (w.drew.alloc (.cells (vs.take (k''*len)++(cs++rest)).toArray e)) m (kI φ nb (w.drew.heap.size,one w.drew.heap.size (vs.take (k''*len)++(cs++rest)).length)) w.drew.heap.size (one w.drew.heap.size (vs.take (k''*len)++(cs++rest)).length) (.arr k'' (es.take len++news)):=by
      refine .arr (T:=e) (eQ w.drew _) rfl hk0 hwn ?_ ?_ ?_ (fun _ hf=>hf) (fun v hv=>by
       rcases zT.1 hv with hv|hv
       ·exact hone v (zC hv)
       ·rcases zT.1 hv with hv|hv
        ·exact hr.cells.one v hv
        ·exact hzo _ _ hz v (hrz v hv))
      ·rw[htl,zA,hcl,← List.append_assoc];have e0:(vs.take (k''*len)++cs).length=k''*len+cs.length:=by rw[zF,holdlen]
       rw[← e0,List.take_left];exact hnew
      ·rw[JL,htl,zF,holdlen,zA,zF,← hcl];omega
      ·intro o
       cases hm':m w.drew.heap.size o with
       | none=>rfl
       | some u=>exact absurd (hi.mem.lt hm') (by show ¬ w.heap.size<w.heap.size;omega)
     obtain⟨k1,k2⟩:=hi1.drew.push hnb _ hblk;refine⟨_,_,hrun,m,_, .osl (cK _ _ _) hcap' ?_ (fun _=>by simp) (fun h=>by cases h),k1,(Adv.drew w m φ).trans k2,nE (zN _) (jP nb)⟩;rw[JL,zF,holdlen,zF,← hcl,hrest,hzl,zD,zG (cap'-_),← Nat.mul_add,← Nat.mul_add];exact yY _ (by omega)
end
def KJ (P:Program):Prop:=(∀ t fs,t<P.types.size→P.underlying t=some (.struct fs)→∀ f∈fs,∃ n,gM P f.type=some n)∧∀ t n e,t<P.types.size→P.underlying t=some (.array n e)→∃ k,gM P e=some k
section
variable {P:Program} {w:World}
theorem tX {α β:Type} (f:α→Sem β) (g:α→β):∀ (l:List α),(∀ a∈l,(f a).run P w=.ok (g a) w)→(l.mapM f).run P w=.ok (l.map g) w
 | [],_=>by simp
 | a::l,h=>by
  have h1:=h a (by simp);have h2:=tX f g l fun b hb=>h b (by simp[hb])
  simp[List.mapM_cons,h1,h2]
theorem FD {α β:Type} (f:α→Sem β) (g:α→β) (a:Array α) (h:∀ x∈a,(f x).run P w=.ok (g x) w):(a.mapM f).run P w=.ok (a.map g) w:=by
 obtain⟨l⟩:=a;have:=tX f g l (fun x hx=>h x (by simpa using hx));simp[this]
end
theorem foldl_set {xs:List Value}:∀ (cells:Array Value) (off j:Nat),off+j+xs.length≤cells.size →
 ((xs.zipIdx j).foldl (fun cs p=>cs.setIfInBounds (off+p.2) p.1) cells).toList=cells.toList.take (off+j)++xs++cells.toList.drop (off+j+xs.length):=by
 induction xs with
 | nil=>intro cells off j _;simp
 | cons x xs ih =>
  intro cells off j h;simp only[zO]at h;simp only[List.zipIdx_cons,List.foldl_cons];rw[ih _ _ _ (by simp;omega)];simp only[Array.toList_setIfInBounds,zO];have e:=list_seg_step cells.toList (off+j) x xs (by simp;omega);simpa [yN]using e
theorem NE (v:Array Value) (cells:Array Value) (off:Nat) (h:off+v.size≤cells.size) :
 (v.zipIdx.foldl (fun cs (c,j)=>cs.setIfInBounds (off+j) c) cells).toList=cells.toList.take off++v.toList++cells.toList.drop (off+v.size):=by
 have:=foldl_set (xs:=v.toList) cells off 0 (by simpa using h);rw[← Array.foldl_toList];simpa using this
section
variable {C:Ctx} {w:World} {m:Mem} {φ:Pl} {st:Store} {ρ:Operand→Value} {env:Nat→AV}
def Fits (m:Mem) (φ:Pl) (env:Nat→AV) (ρ:Operand→Value):Prop:=∀ x,CO x=true→Rep m φ (ev env x) (ρ x)
inductive PartsRep (m:Mem) (φ:Pl):List (Nat×List AV)→List (Nat×Value)→Prop
 | nil:PartsRep m φ [] []
 | cons {i:Nat} {cs:List AV} {v:Value} {ps:List (Nat×List AV)} {vs:List (Nat×Value)}:RepC m φ cs v.cells.toList→PartsRep m φ ps vs→PartsRep m φ ((i,cs)::ps) ((i,v)::vs)
theorem rO (hρ:Fits m φ env ρ):∀ {l:List (Nat×Operand)} {ps:List (Nat×List AV)},(∀ p∈l,CO p.2=true)→partsOf env l=some ps→PartsRep m φ ps (l.map fun p=>(p.1,ρ p.2))
 | [],ps,_,h=>by simp[partsOf]at h;subst h;exact .nil
 | p::l,ps,ho,h=>by
  simp only[partsOf]at h;obtain⟨cs,h1,h2⟩:=aH.1 h;obtain⟨qs,h3,h4⟩:=aH.1 h2;injection h4 with h4;subst h4;exact .cons (sJ h1 (hρ p.2 (ho p (by simp)))) (rO hρ (fun q hq=>ho q (by simp[hq])) h3)
theorem JQ {place:Nat→Option (Nat×Nat)} {place':Nat→Option (Nat×Nat)} (hp:∀ i q,place i=some q→place' i=some q):∀ {ps:List (Nat×List AV)} {vs:List (Nat×Value)} {cells r:List AV} {vals:Array Value},
 PartsRep m φ ps vs→RepC m φ cells vals.toList→JR place cells ps=some r→∃ out,Instr.fill place' vals vs=some out∧RepC m φ r out.toList
 | _,_,cells,r,vals, .nil,hc,h=>by simp[JR]at h;subst h;exact⟨vals,rfl,hc⟩
 | _,_,cells,r,vals, .cons (i:=i) (cs:=cs) (v:=v) hv hps,hc,h=>by
  simp only[JR]at h;obtain⟨q,h1,h2⟩:=aH.1 h;obtain⟨h3,h4⟩:=aP.1 h2;have h3:=zS h3;obtain⟨l,h5,h6⟩:=aH.1 h4;obtain⟨rfl,h7⟩:=kQ _ _ _ _ h5;have hl:=hv.length;have hcl:=hc.length;simp only[yV]at hl hcl;have hz:=NE v.cells vals q.1 (by omega)
  obtain⟨out,k1,k2⟩:=JQ hp (vals:=(v.cells.zipIdx.foldl (fun cs (c,j)=>cs.setIfInBounds (q.1+j) c) vals)) hps (by
   rw[hz];rw[hl]
   exact((hc.take q.1).append hv).append (hc.drop _)) h6
  refine⟨out,?_,k2⟩;simp only[Instr.fill,hp i q h1];rw[if_neg (by simp;omega)];exact k1
theorem JH {t:TypeId} {fs:Array Field} (hu:C.P.underlying t=some (.struct fs)) {i:Nat} {q:Nat×Nat} (h:CJ C.P t i=some q) :
 (fs.map fun f=>(f.offset,(gM C.P f.type).getD 0))[i]?=some q:=by
 unfold CJ bE at h;rw[hu]at h;simp only[MG]at h;obtain⟨p,h1,h2⟩:=aH.1 h;obtain⟨n,h3,h4⟩:=aH.1 h2;obtain⟨fs',fd,g1,g2,g3,g4⟩:=EC h1;rw[hu]at g1;injection g1 with g1;injection g1 with g1;subst g1
 injection h4 with h4;subst h4;rw[Array.getElem?_map,g2];simp[g3,g4,h3]
theorem AA5 (hz:sO C.P) (hf:KJ C.P) (hρ:Fits m φ env ρ) {t:TypeId} {parts:Array (Nat×Operand)} {z:List Value} {ps:List (Nat×List AV)} {cs:List AV}
 (ho:∀ p∈parts.toList,CO p.2=true) (h1:zeroOf C.P t=some z) (h2:partsOf env parts.toList=some ps) (h3:JR (CJ C.P t) (dM z) ps=some cs) (hg:uT (bE C.P t)=some true) :
 ∃ out:Array Value,(Instr.build t (parts.map fun p=>(p.1,ρ p.2))).run C.P w=.ok (.agg out) w∧RepC m φ cs out.toList:=by
 obtain⟨zv,hzr,hzc⟩:=AO h1 w;have hps:=rO hρ ho h2;have hz0:RepC m φ (dM z) zv.cells.toList:=by rw[hzc];exact lS m φ z (hz t z h1)
 have hpl:(parts.map fun p=>(p.1,ρ p.2)).toList=parts.toList.map fun p=>(p.1,ρ p.2):=by simp
 cases hd:bE C.P t with
 | none=>rw[hd]at hg;simp[uT]at hg
 | some d =>
  rw[hd]at hg
  cases d with
  | strct =>
   have hu:∃ fs,C.P.underlying t=some (.struct fs):=by
    unfold bE at hd;split at hd<;>simp at hd;rename_i fs h';exact⟨fs,h'⟩
   obtain⟨fs,hu⟩:=hu
   have hm:=FD (P:=C.P) (w:=w) (fun f:Field=>(do pure (f.offset,← sizeOf f.type):Sem (Nat×Nat))) (fun f=>(f.offset,(gM C.P f.type).getD 0)) fs (fun f hfm=>by
    obtain⟨n,hn⟩:=hf.1 t fs (mI h1).1 hu f hfm
    simp[dB hn,hn])
   obtain⟨out,k1,k2⟩:=JQ (place':=fun i=>(fs.map fun f=>(f.offset,(gM C.P f.type).getD 0))[i]?) (fun i q hq=>JH hu hq) hps hz0 h3;refine⟨out,?_,k2⟩;unfold Instr.build;simp only[Sem.run_bind,hzr,Result.andThen_ok,iF hu,hm,hpl];rw[k1];rfl
  | array n e =>
   have hu:=kM hd;obtain⟨k,hk⟩:=hf.2 t n e (mI h1).1 hu
   obtain⟨out,k1,k2⟩:=JQ (place':=fun i=>some (i*k,k)) (fun i q hq=>by
    unfold CJ at hq;rw[hd]at hq;simp only[MG,hk,dZ]at hq
    exact hq) hps hz0 h3
   refine⟨out,?_,k2⟩;unfold Instr.build;simp only[Sem.run_bind,hzr,Result.andThen_ok,iF hu,dB hk,hpl];rw[k1];rfl
  | slice=>simp[uT]at hg
  | int=>simp[uT]at hg
  | string=>simp[uT]at hg
  | bool=>simp[uT]at hg
  | other=>simp[uT]at hg
end
theorem ICells.AF0 {m:Mem}:∀ {cs:List IV} {vs:List Value},cs.length=vs.length→(∀ (i:Nat) (c:IV) (v:Value),cs[i]?=some c→vs[i]?=some v→IRep m c v∧v.oneCell'=true)→ICells m cs vs
 | [],[],_,_=>.nil
 | [],_::_,h,_=>by simp at h
 | _::_,[],h,_=>by simp at h
 | c::cs,v::vs,h,hg=>by
  have h0:=hg 0 c v rfl rfl;exact .cons h0.1 h0.2 (ICells.AF0 (by simpa using h) fun i c v h1 h2=>hg (i+1) c v (by simpa using h1) (by simpa using h2))
theorem ICells.get {m:Mem}:∀ {cs:List IV} {vs:List Value},ICells m cs vs→∀ {i:Nat} {c:IV} {v:Value},cs[i]?=some c→vs[i]?=some v→IRep m c v∧v.oneCell'=true
 | _,_, .nil,i,c,v,h,_=>by simp at h
 | _,_, .cons a o b,0,c,v,h,h'=>by simp at h h';subst h;subst h';exact⟨a,o⟩
 | _,_, .cons a o b,i+1,c,v,h,h'=>b.get (by simpa using h) (by simpa using h')
theorem BC {m:Mem}:∀ {z:List Value} {zi:List IV},IZ (dM z)=some zi→(∀ v∈z,v.oneCell'=true)→ICells m zi z
 | [],zi,h,_=>by simp[dM,IZ]at h;subst h;exact .nil
 | v::z,zi,h,ho=>by
  simp only[dM,IZ]at h
  cases hz:IZ (dM z)with
  | none =>
   rw[hz]at h
   cases hl:gP v<;>rw[hl]at h<;>simp[VI]at h
  | some l =>
   rw[hz]at h;have ih:=BC (m:=m) hz fun u hu=>ho u (by simp[hu])
   have h1:=ho v (by simp);unfold gP at h;split at h
   ·simp only[VI,Option.some.injEq]at h;subst h;exact .cons (.isl0 none 0 fun _=>rfl) h1 ih
   ·simp only[VI,Option.some.injEq]at h;subst h;exact .cons (.lit _) h1 ih
theorem jG {k:Nat} {zi:List IV} (hk:zi.length=k) (h0:0<k):∀ (n i:Nat),i<n*k→(List.replicate n zi).flatten[i]?=zi[i % k]?
 | 0,i,h=>by simp at h
 | n+1,i,h=>by
  rw[yF,z8,List.getElem?_append,hk];by_cases c:i<k
  ·rw[if_pos c,Nat.mod_eq_of_lt c]
  ·rw[if_neg c,jG hk h0 n (i-k) (by rw[Nat.add_mul]at h;omega)];rw[← Nat.mod_eq_sub_mod (by omega)]
theorem oW {k:Nat} {zi:List IV} (hk:zi.length=k) (n:Nat):(List.replicate n zi).flatten.length=n*k:=by
 induction n with
 | zero=>simp
 | succ n ih=>rw[yF,z8,zF,ih,hk,Nat.add_mul];omega
theorem JO {m:Mem} {k:Nat} {z:Array Value} {zi:List IV} (hz:ICells m zi z.toList) (hk:zi.length=k) (h0:0<k) (n N:Nat) (hN:n*k≤N) (f:Nat→Value) (hf:∀ i,i<N→f i=z[i % z.size]!) :
 ICells m (List.replicate n zi).flatten (((Array.range N).map f).toList.take (k*n)):=by
 have hzl:z.size=k:=by have:=hz.length;simp at this;omega
 apply ICells.AF0
 ·rw[oW hk];simp;rw[zG k];omega
 ·intro i c v h1 h2;rw[zL]at h2;split at h2
  ·rename_i hi;rw[zG]at hi;rw[jG hk h0 n i hi]at h1;have hiN:i<N:=by omega
   simp only[Array.toList_map,zA0,Array.toList_range,List.getElem?_range hiN,xD,Option.some.injEq]at h2;rw[hf i hiN]at h2;have hmod:i % k<k:=Nat.mod_lt _ h0;refine hz.get h1 ?_;rw[hzl]at h2;rw[← h2];have:i % k<z.size:=by omega
   simp[this]
  ·cases h2
theorem G9 {α:Type}:∀ {l r:List α} {i:Nat} {x:α},nM l i x=some r→r=l.set i x∧i<l.length
 | [],_,_,_,h=>by simp[nM]at h
 | a::l,r,0,x,h=>by simp[nM]at h;subst h;simp
 | a::l,r,i+1,x,h=>by
  simp only[nM]at h;obtain⟨q,h1,h2⟩:=aH.1 h;obtain⟨rfl,h3⟩:=G9 h1;injection h2 with h2;subst h2;simp;omega
theorem nL {k:Nat}:∀ {es:List (List IV)} {i:Nat} {x:List IV},(∀ e∈es,e.length=k)→x.length=k→i<es.length→(es.set i x).flatten=es.flatten.take (k*i)++x++es.flatten.drop (k*i+x.length)
 | [],i,_,_,_,h=>by simp at h
 | e::es,0,x,hw,hx,_=>by
  have he:=hw e (by simp);simp only[List.set_cons_zero,z8,Nat.mul_zero,List.take_zero,xN,zD];rw[hx,← he,List.drop_left]
 | e::es,i+1,x,hw,hx,h=>by
  have he:=hw e (by simp);simp only[List.set_cons_succ,z8];rw[nL (fun e he=>hw e (by simp[he])) hx (by simpa using h)];rw[show k*(i+1)=e.length+k*i by rw[zA,he];omega]
  have t1:(e++es.flatten).take (e.length+k*i)=e++es.flatten.take (k*i):=by
   rw[xR,zW (by omega:e.length≤e.length+k*i),yI]
  have t2:(e++es.flatten).drop (e.length+(k*i+x.length))=es.flatten.drop (k*i+x.length):=by
   rw[zA5,List.drop_of_length_le (by omega:e.length≤e.length+(k*i+x.length)),yI,xN]
  rw[yN,t1,t2];simp
theorem XP {α:Type}:∀ (n:Nat) (x:α),AGO n x=List.replicate n x
 | 0,_=>rfl
 | n+1,x=>by simp[AGO,XP n x,yF]
inductive PartsI (m:Mem):List (Nat×List IV)→List (Nat×Value)→Prop
 | nil:PartsI m [] []
 | cons {i:Nat} {cs:List IV} {v:Value} {ps:List (Nat×List IV)} {vs:List (Nat×Value)}:ICells m cs v.cells.toList→PartsI m ps vs→PartsI m ((i,cs)::ps) ((i,v)::vs)
theorem PartsI.mono {m m':Mem} (h:MLe m m'):∀ {ps:List (Nat×List IV)} {vs:List (Nat×Value)},PartsI m ps vs→PartsI m' ps vs
 | _,_, .nil=>.nil
 | _,_, .cons a b=>.cons (a.mono h) (b.mono h)
theorem PartsRep.mono {m m':Mem} {φ:Pl} (h:MLe m m'):∀ {ps:List (Nat×List AV)} {vs:List (Nat×Value)},PartsRep m φ ps vs→PartsRep m' φ ps vs
 | _,_, .nil=>.nil
 | _,_, .cons a b=>.cons (a.mono h (.refl _)) (b.mono h)
theorem rF {w:World}:∀ {ps:List (Nat×List AV)} {m:Mem} {φ:Pl} {st st1:Store} {qs:List (Nat×List IV)} {vs:List (Nat×Value)},Inv w m φ st→PartsRep m φ ps vs→dS st ps=some (qs,st1) →
 ∃ m1,PartsI m1 qs vs∧Inv w m1 φ st1∧Adv w m φ w m1 φ
 | [],m,φ,st,st1,qs,_,hi, .nil,h=>by simp[dS]at h;obtain⟨rfl,rfl⟩:=h;exact⟨m, .nil,hi, .refl _ _ _⟩
 | _::ps,m,φ,st,st1,qs,_,hi, .cons hv hps,h=>by
  simp only[dS]at h;obtain⟨p,h1,h2⟩:=aH.1 h;obtain⟨q,h3,h4⟩:=aH.1 h2;injection h4 with h4;injection h4 with h5 h6;subst h5;subst h6;obtain⟨m1,k1,k2,k3⟩:=rY hi hv h1;obtain⟨m2,k4,k5,k6⟩:=rF k2 (hps.mono k3.mle) h3;exact⟨m2, .cons (k1.mono k6.mle) k4,k5,k3.trans k6⟩
theorem I7 {m:Mem} {k:Nat}:∀ {qs:List (Nat×List IV)} {vs:List (Nat×Value)} {es r:List (List IV)} {vals:Array Value},PartsI m qs vs→ICells m es.flatten vals.toList→(∀ e∈es,e.length=k)→lI k es qs=some r →
 ∃ out,Instr.fill (fun i=>some (i*k,k)) vals vs=some out∧ICells m r.flatten out.toList∧(∀ e∈r,e.length=k)∧r.length=es.length
 | _,_,es,r,vals, .nil,hc,hw,h=>by simp[lI]at h;subst h;exact⟨vals,rfl,hc,hw,rfl⟩
 | _,_,es,r,vals, .cons (i:=i) (cs:=cs) (v:=v) hv hps,hc,hw,h=>by
  simp only[lI]at h;obtain⟨h1,h2⟩:=aP.1 h;have h1:cs.length=k:=by simpa using h1
  obtain⟨l,h3,h4⟩:=aH.1 h2;obtain⟨rfl,h5⟩:=G9 h3;have hvl:=hv.length;simp only[yV]at hvl;have hcl:=hc.length;rw[bV hw]at hcl;simp only[yV]at hcl
  have hik:i*k+k≤vals.size:=by
   rw[← hcl];have:=yY k (show i+1≤es.length by omega);rw[zA,Nat.mul_one,zG k i]at this;exact this
  have hz:=NE v.cells vals (i*k) (by omega)
  obtain⟨out,k1,k2,k3,k4⟩:=I7 (es:=es.set i cs) (vals:=v.cells.zipIdx.foldl (fun cs (c,j)=>cs.setIfInBounds (i*k+j) c) vals) hps (by
   rw[hz,nL hw h1 h5,zG k i,hvl]
   exact((hc.take _).append hv).append (hc.drop _)) (fun e he=>by
    rcases xW he with he|he
    ·exact hw e he
    ·subst he;exact h1) h4
  refine⟨out,?_,k2,k3,by simpa using k4⟩;simp only[Instr.fill];rw[if_neg (by simp;omega)];exact k1
section
variable {C:Ctx} {w:World} {m:Mem} {φ:Pl} {st:Store} {ρ:Operand→Value} {env:Nat→AV}
theorem FB (hz:sO C.P) {t e:TypeId} {n nb:Nat} {ps:List (Nat×List AV)} {vs:List (Nat×Value)} {v:AV} {st':Store} (hi:Inv w m φ st) (hf:∀ id,nb≤id→id<nb+wide→φ id=none)
 (ht:C.P.underlying t=some (.slice e)) (hps:PartsRep m φ ps vs) (h:nJ C e n st nb ps=some (v,st')) (parts:Array (Nat×Value)) (hparts:parts.toList=vs) :
 ∃ y w',(Instr.buildSlice t n parts).run C.P w=.ok y w'∧Out w m φ nb v st' y w':=by
 have hnb:=hf nb (zN _) (jP nb);unfold nJ at h;obtain⟨k,hk,h1⟩:=aH.1 h;obtain⟨z,hzz,h2⟩:=aH.1 h1;obtain⟨zi,hzi,h3⟩:=aH.1 h2;obtain⟨h4,h5⟩:=aP.1 h3;obtain⟨hk0,hn,hzl⟩:=zS h4;obtain⟨q,hq,h6⟩:=aH.1 h5;obtain⟨es,hes,h7⟩:=aH.1 h6;simp only[Option.some.injEq,Prod.mk.injEq]at h7;obtain⟨rfl,rfl⟩:=h7;obtain⟨m1,k1,k2,k3⟩:=rF hi hps hq;obtain⟨zv,hzr,hzc⟩:=AO hzz w;have hzrep:ICells m1 zi zv.cells.toList:=by rw[hzc];exact BC hzi (hz e z hzz)
 have hzs:zv.cells.size=k:=by have:=hzrep.length;simp at this;omega
 rw[XP]at hes;have hmade:=JO hzrep hzl hk0 n (n*k) (zN _) (fun i=>zv.cells[i % zv.cells.size]!) (fun _ _=>rfl);rw[zW (by simp[zG])]at hmade;obtain⟨out,g1,g2,g3,g4⟩:=I7 k1 hmade (fun e he=>by rw[List.eq_of_mem_replicate he];exact hzl) hes;simp only[xI]at g4;have hol:=g2.length;rw[bV g3,g4]at hol;simp only[yV]at hol
 have hrun:(Instr.buildSlice t n parts).run C.P w=.ok (.slice (some ⟨w.heap.size,0,none⟩) n n) (w.alloc (.cells out e)):=by
  have hn':¬ 16777216<n*k:=by omega
  unfold Instr.buildSlice;rw[hparts];by_cases h0:n*k=0
  ·have g5:∀ f:Nat→Value,Instr.fill (fun i=>some (i*k,k)) (Array.map f (Array.range (n*k))) vs=some out:=fun f=>by
    rw[← g1];congr 1;rw[h0];simp
   simp[iF ht,dB hk,h0,newRow];rw[← h0];simp[g5]
  ·simp[iF ht,dB hk,hn',h0,hzr,newRow,g1]
 have hblk:BlkOk (w.alloc (.cells out e)) m1 (kI φ nb (w.heap.size,one w.heap.size out.toList.length)) w.heap.size (one w.heap.size out.toList.length) (.arr k es):=by
  refine .arr (T:=e) (by simpa using eQ w (.cells out e)) rfl hk0 g3 ?_ ?_ ?_ (fun _ hf=>hf) g2.one
  ·rw[g4,zW (by simp;omega)];exact g2
  ·rw[JL,g4];simp;omega
  ·intro o
   cases hm:m1 w.heap.size o with
   | none=>rfl
   | some u=>exact absurd (k2.mem.lt hm) (by omega)
 obtain⟨j1,j2⟩:=k2.push hnb _ hblk;refine⟨_,_,hrun,m1,_, .osl (cK _ _ _) (zN _) ?_ (fun _=>rfl) (fun h=>by cases h),j1,k3.trans j2,nE (zN _) (jP nb)⟩;simp;omega
theorem UT (hz:sO C.P) {t:TypeId} {nb:Nat} {a b v:AV} {x y:Value} {st':Store} (hi:Inv w m φ st) (hf:∀ id,nb≤id→id<nb+wide→φ id=none)
 (ha:Rep m φ a x) (hb:Rep m φ b y) (h:PH C t st nb a b=some (v,st')):∃ r w',(Instr.makeSlice t x y).run C.P w=.ok r w'∧Out w m φ nb v st' r w':=by
 have hnb:=hf nb (zN _) (jP nb);unfold PH at h;split at h
 ·rename_i l c
  cases ha with
  | i ha=>cases ha with
   | lit=>cases hb with
    | i hb=>cases hb with
     | lit =>
      obtain⟨e,he,h1⟩:=aH.1 h;obtain⟨k,hk,h2⟩:=aH.1 h1;obtain⟨by_,hby,h3⟩:=aH.1 h2;obtain⟨z,hzz,h4⟩:=aH.1 h3;obtain⟨zi,hzi,h5⟩:=aH.1 h4;obtain⟨h6,h7⟩:=aP.1 h5;obtain⟨hk0,hb0,hl0,hlc,hbytes,hzl⟩:=zS h6;simp only[Option.some.injEq,Prod.mk.injEq]at h7;obtain⟨rfl,rfl⟩:=h7;obtain⟨i,hi1,hi2,hi3⟩:=M6 hby w;have hisz:i.size=k:=by unfold gM at hk;rw[hi3]at hk;simpa using hk
      obtain⟨zv,hzv⟩:∃ zv,i.zero=some zv:=by
       have hzz:=(mI hzz).2;rw[hi3]at hzz
       cases hq:i.zero with
       | none=>simp[hq]at hzz
       | some zv=>exact⟨zv,rfl⟩
      have hzc:zv.cells.toList=z:=by have hzz:=(mI hzz).2;rw[hi3]at hzz;simpa [hzv]using hzz
      have hb1:(1:Int)≤by_:=by omega
      have hcle:c≤by_*c:=by
       have:=Int.mul_le_mul_of_nonneg_right hb1 (show 0≤c by omega);simpa using this
      have hrun:=run_make (P:=C.P) w t e i zv (kL he) hi3 hzv .i64 .i64 l c hl0 hlc (by rw[hi2];exact hbytes) (by omega);rw[hisz]at hrun;have hzrep:ICells m zi zv.cells.toList:=by rw[hzc];exact BC hzi (hz e z hzz)
      have hN:l.toNat*k≤c.toNat*k:=Nat.mul_le_mul_right _ (by omega);have hmade:=JO hzrep hzl hk0 l.toNat (c.toNat*k) hN (fun i=>zv.cells[i % zv.cells.size]!) (fun _ _=>rfl);have hsz:(madeCells zv.cells (c.toNat*k)).size=c.toNat*k:=size_madeCells _ _;have hmade2:=JO hzrep hzl hk0 c.toNat (c.toNat*k) (zN _) (fun i=>zv.cells[i % zv.cells.size]!) (fun _ _=>rfl);rw[zW (by simp[zG])]at hmade2
      have hblk:BlkOk (w.alloc (.cells (madeCells zv.cells (c.toNat*k)) e)) m (kI φ nb (w.heap.size,one w.heap.size (madeCells zv.cells (c.toNat*k)).toList.length)) w.heap.size (one w.heap.size (madeCells zv.cells (c.toNat*k)).toList.length) (.arr k (List.replicate l.toNat zi)):=by
       refine .arr (T:=e) (by simpa using eQ w (.cells (madeCells zv.cells (c.toNat*k)) e)) rfl hk0 (fun e he=>by rw[List.eq_of_mem_replicate he];exact hzl) ?_ ?_ ?_ (fun _ hf=>hf) hmade2.one
       ·rw[xI];exact hmade
       ·simp only[xI,yV,hsz,zG k];exact hN
       ·intro o
        cases hm:m w.heap.size o with
        | none=>rfl
        | some u=>exact absurd (hi.mem.lt hm) (by omega)
      obtain⟨j1,j2⟩:=hi.push hnb _ hblk;refine⟨_,_,hrun,m,_, .osl (cK _ _ _) (by omega) ?_ (fun _=>rfl) (fun h=>by cases h),j1,j2,nE (zN _) (jP nb)⟩;simp only[yV,hsz,zD,zG k];exact zN _
 ·cases h
end
section
variable {C:Ctx} {w:World} {m:Mem} {φ:Pl} {st:Store}
theorem jF {P:Program} {t:TypeId} {v:Value} {b off:Nat} {T:TypeId} {vs:List Value} (hs:gM P t=some v.cells.size) (hh:w.heap[b]?=some (.cells vs.toArray T (0,0))) (hl:off+v.cells.size≤vs.length) (h1:∀ u∈v.cells.toList,u.oneCell'=true) :
 (storeVar t ⟨b,off,none⟩ v).run P w=.ok () (w.setRow b (vs.take off++v.cells.toList++vs.drop (off+v.cells.size)).toArray):=by
 have:=run_storeCells_at P b off T v.cells.toList 0 vs.toArray w hh (by simpa using hl) h1;simp only[xQ,yV]at this;simp[storeVar,dB hs,this]
theorem tO {t:TypeId} {a:AV} {av xv:Value} {xs:List AV} {st':Store} (hi:Inv w m φ st) (ha:Rep m φ a av) (hxc:RepC m φ xs xv.cells.toList) (hxl:xs.length=xv.cells.size) (hs':gM C.P t=some xv.cells.size) (h4:storeAt xs st a=some st') :
 ∃ w' m',(Instr.storeAt t av xv).run C.P w=.ok () w'∧Inv w' m' φ st'∧Adv w m φ w' m' φ:=by
 unfold storeAt at h4
 cases ha with
 | junk=>simp at h4
 | nils=>simp at h4
 | i=>simp at h4
 | osl=>simp at h4
 | agg=>simp at h4
 | tup=>simp at h4
 | fn=>simp at h4
 | yld=>simp at h4
 | ydead=>simp at h4
 | @own id off b n' e =>
  simp only at h4
  cases hst:st id with
  | none=>rw[hst]at h4;simp[oI]at h4
  | some blk =>
   rw[hst]at h4;obtain⟨hb,hok⟩:=IQ hi e hst
   cases hok with
   | arr=>simp[oI]at h4
   | tre=>simp[oI]at h4
   | loop=>simp[oI]at h4
   | frz=>simp[oI]at h4
   | fbox=>simp[oI]at h4
   | @box T cs vs hh hl hcc hm =>
    simp only[oI]at h4;obtain⟨l,h5,h6⟩:=aH.1 h4;injection h6 with h6;subst h6;obtain⟨rfl,h7⟩:=kQ _ _ _ _ h5;have hcl:=hcc.length;have hrun:=jF (P:=C.P) (off:=off) hs' hh (by omega) hxc.one
    have hblk:BlkOk (w.setRow b (vs.take off++xv.cells.toList++vs.drop (off+xv.cells.size)).toArray) m φ b n' (.box (cs.take off++xs++cs.drop (off+xs.length))):=by
     refine .box (T:=T) (setRow_heap w b _ _ T (0,0) hh) (by simp;omega) ?_ hm;rw[hxl];exact((hcc.take _).append hxc).append (hcc.drop _)
    obtain⟨k1,k2⟩:=hi.set hst e hm _ hblk;exact⟨_,m,by simp only[Instr.storeAt,Instr.sureAddr,Sem.run_bind,Sem.run_pure,Result.andThen_ok];exact hrun,k1,k2⟩
 | @ownE id k ix off b n' e =>
  simp only at h4;obtain⟨p,h5,h6⟩:=aH.1 h4;obtain⟨m1,q1,q2,q3⟩:=rY hi hxc h5
  cases hst:p.2 id with
  | none=>rw[hst]at h6;simp[mM]at h6
  | some blk =>
   rw[hst]at h6;obtain⟨hb,hok⟩:=IQ q2 e hst
   cases hok with
   | box=>simp[mM]at h6
   | frz=>simp[mM]at h6
   | tre=>simp[mM]at h6
   | loop=>simp[mM]at h6
   | fbox=>simp[mM]at h6
   | @arr T k' es vs hh hl hpos hw1 hcc hfit hm hown1 hone =>
    simp only[mM]at h6;obtain⟨h7,h8⟩:=aP.1 h6;have h7:=zS h7;subst h7;obtain⟨ec,h9,h10⟩:=aH.1 h8;rw[iU]at h9;obtain⟨e',h11,h12⟩:=aH.1 h10;injection h12 with h12;subst h12;obtain⟨rfl,h13⟩:=kQ _ _ _ _ h11;have hixl:ix<es.length:=(zZ.1 h9).1;have hel:ec.length=k':=hw1 ec (zV h9);have hpl:=q1.length;simp only[yV]at hpl
    have hmul:k'*ix+k'≤k'*es.length:=by
     have:=yY k' (show ix+1≤es.length by omega)
     rwa [zA,Nat.mul_one]at this
    have hrun:=jF (P:=C.P) (off:=k'*ix+off) hs' hh (by omega) hxc.one
    have hw2:∀ d∈es.set ix (ec.take off++p.1++ec.drop (off+p.1.length)),d.length=k':=fun d hd=>by
     rcases xW hd with hd|hd
     ·exact hw1 d hd
     ·subst hd;simp;omega
    have hfl:=qL hw1 h9;have hfll:=bV hw1
    have hrow:(es.set ix (ec.take off++p.1++ec.drop (off+p.1.length))).flatten=es.flatten.take (k'*ix+off)++p.1++es.flatten.drop (k'*ix+off+p.1.length):=by
     rw[nL hw1 (by simp;omega) hixl];have e1:(ec.take off++p.1++ec.drop (off+p.1.length)).length=k':=by simp;omega
     rw[e1]
     have e2:es.flatten.take (k'*ix+off)=es.flatten.take (k'*ix)++ec.take off:=by
      rw[← hfl,zK,yH (by omega),List.take_add]
     have e3:es.flatten.drop (k'*ix+off+p.1.length)=ec.drop (off+p.1.length)++es.flatten.drop (k'*ix+k'):=by
      rw[← hfl,x8];rw[xH]
      have:es.flatten.drop (k'*ix+k')=(es.flatten.drop (k'*ix+(off+p.1.length))).drop (k'-(off+p.1.length)):=by
       rw[xH];congr 1;omega
      rw[this,yK,yN]
     rw[e2,e3];simp
    have hblk:BlkOk (w.setRow b (vs.take (k'*ix+off)++xv.cells.toList++vs.drop (k'*ix+off+xv.cells.size)).toArray) m1 φ b n' (.arr k' (es.set ix (ec.take off++p.1++ec.drop (off+p.1.length)))):=by
     refine .arr (T:=T) (setRow_heap w b _ _ T (0,0) hh) (by simp;omega) hpos hw2 ?_ (by rw[xM];exact hfit) hm hown1 (fun v hv=>by
      rcases zT.1 hv with hv|hv
      ·rcases zT.1 hv with hv|hv
       ·exact hone v (zC hv)
       ·exact hxc.one v hv
      ·exact hone v (yQ hv))
     rw[hrow,xM];have hcl:=hcc.length;rw[hfll]at hcl
     have e4:(vs.take (k'*ix+off)++xv.cells.toList++vs.drop (k'*ix+off+xv.cells.size)).take (k'*es.length) =
      (vs.take (k'*es.length)).take (k'*ix+off)++xv.cells.toList++(vs.take (k'*es.length)).drop (k'*ix+off+xv.cells.size):=by
      have a1:(vs.take (k'*ix+off)++xv.cells.toList).length=k'*ix+off+xv.cells.size:=by simp;omega
      rw[xR,a1,zW (by rw[a1];omega),x8,zK,yH (by omega)]
     rw[e4,hpl];exact((hcc.take _).append q1).append (hcc.drop _)
    obtain⟨k1,k2⟩:=q2.set hst e hm _ hblk;exact⟨_,m1,by simp only[Instr.storeAt,Instr.sureAddr,Sem.run_bind,Sem.run_pure,Result.andThen_ok];exact hrun,k1,q3.trans k2⟩
theorem TCells.append {w:World}:∀ {cs ds:List IV} {vs us:List Value} {F G:List Nat},TCells w cs vs F→TCells w ds us G→TCells w (cs++ds) (vs++us) (F++G)
 | _,_,_,_,_,_, .nil,h=>h
 | _,_,_,_,_,_, .lit o r,h=>.lit o (r.append h)
 | _,_,_,_,_,_, .isl0 c r,h=>.isl0 c (r.append h)
 | _,_,_,_,_,G, .isl (G:=G1) (F:=F1) hn hr hk hl hf hc g r,h=>by
  have:=TCells.isl hn hr hk hl hf hc g (r.append h);simpa using this
theorem TCells.split {w:World}:∀ {cs:List IV} {vs:List Value} {F:List Nat} (n:Nat),TCells w cs vs F→∃ F1 F2,F=F1++F2∧TCells w (cs.take n) (vs.take n) F1∧TCells w (cs.drop n) (vs.drop n) F2
 | _,_,_,0,h=>⟨[],_,rfl,by simpa using TCells.nil,by simpa using h⟩
 | _,_,_,_+1, .nil=>⟨[],[],rfl,by simpa using TCells.nil,by simpa using TCells.nil⟩
 | _,_,_,n+1, .lit o r=>by
  obtain⟨F1,F2,e,h1,h2⟩:=r.split n;exact⟨F1,F2,e,by simpa using TCells.lit o h1,by simpa using h2⟩
 | _,_,_,n+1, .isl0 c r=>by
  obtain⟨F1,F2,e,h1,h2⟩:=r.split n;exact⟨F1,F2,e,by simpa using TCells.isl0 c h1,by simpa using h2⟩
 | _,_,_,n+1, .isl (b:=b) (G:=G) hn hr hk hl hf hc g r=>by
  obtain⟨F1,F2,rfl,h1,h2⟩:=r.split n;exact⟨b::G++F1,F2,by simp,by simpa using TCells.isl hn hr hk hl hf hc g h1,by simpa using h2⟩
theorem TA {m:Mem} {w:World}:∀ {cs:List IV} {vs:List Value},vU cs=true→ICells m cs vs→TCells w cs vs []
 | [],_,_, .nil=>.nil
 | c::cs,_,h, .cons a o r=>by
  simp only[vU,zU]at h;have ih:=TA (w:=w) h.2 r
  cases a with
  | lit v=>exact .lit o ih
  | isl0 ao cap hc=>exact .isl0 hc ih
  | isl hn=>rename_i es _ _ _;cases es with|nil=>exact absurd rfl hn|cons e es=>simp[qV]at h
  | agg=>simp[qV]at h
  | iref=>simp[qV]at h
theorem mH:∀ {es:List (List IV)},ER es=true→vU es.flatten=true
 | [],_=>rfl
 | e::es,h=>by
  simp only[ER,zU]at h;have ih:=mH h.2;rw[z8]
  have app:∀ (a b:List IV),vU a=true→vU b=true→vU (a++b)=true:=by
   intro a
   induction a with
   | nil=>intro b _ h;exact h
   | cons c a iha=>intro b h1 h2;simp only[vU,zU]at h1;simp only[yD,vU,h1.1,iha b h1.2 h2,Bool.and_self]
  exact app _ _ h.1 ih
theorem AF3 {m:Mem} {w:World}:∀ {cs:List IV} {vs:List Value} {F:List Nat},AJ cs=true→TCells w cs vs F→ICells m cs vs
 | [],_,_,_, .nil=>.nil
 | _::_,_,_,h, .lit o r=>by
  simp only[AJ,zU]at h;exact .cons (.lit _) o (AF3 h.2 r)
 | _::_,_,_,h, .isl0 _ _=>by simp[AJ,AB5]at h
 | _::_,_,_,h, .isl _ _ _ _ _ _ _ _=>by simp[AJ,AB5]at h
structure AbsOk (w:World) (m:Mem) (φ:Pl) (st st1:Store) (l:List IV) (vs:List Value) (F:List Nat) (O:Nat→Prop):Prop where
 cells:TCells w l vs F
 nodup:F.Nodup
 own:∀ f∈F,O f
 free:∀ f,O f→(∀ o,m f o=none)∧f<w.heap.size∧∃ id b n blk,st id=some blk∧φ id=some (b,n)∧n.own f
 less:∀ id blk,st1 id=some blk→st id=some blk∧∀ b n,φ id=some (b,n)→∀ f,n.own f→¬ O f
theorem VZ {c:AV} {v:Value} {iv:IV} {st1:Store} (hi:Inv w m φ st) (hr:Rep m φ c v) (ho:v.oneCell'=true) (h:OH st c=some (iv,st1)):∃ F O,AbsOk w m φ st st1 [iv] [v] F O:=by
 unfold OH at h;split at h
 ·rename_i u;obtain⟨h1,h2⟩:=aP.1 h;injection h2 with h2;injection h2 with h2 h3;subst h2;subst h3
  cases hr with
  | i hr=>exact⟨[],fun _=>False,TA (by simp[vU,h1]) (.cons hr ho .nil),by simp,by simp,fun _ h=>h.elim,fun id blk h=>⟨h,fun _ _ _ _ _ h=>h⟩⟩
 ·injection h with h2;injection h2 with h2 h3;subst h2;subst h3
  cases hr with
  | nils=>exact⟨[],fun _=>False, .isl0 (fun _=>rfl) .nil,by simp,by simp,fun _ h=>h.elim,fun id blk h=>⟨h,fun _ _ _ _ _ h=>h⟩⟩
 ·rename_i id k off len;obtain⟨es,h1,h2⟩:=aH.1 h;injection h2 with h2;injection h2 with h2 h3;subst h2;subst h3
  cases hr with
  | @osl _ _ _ _ cap b n ao eφ hlc hcap ha1 ha2 =>
   cases hst:st id with
   | none=>rw[hst]at h1;simp[ABC]at h1
   | some blk =>
    rw[hst]at h1;obtain⟨hb,hok⟩:=dF hi eφ hst
    have hless:∀ j blk',upd st id none j=some blk'→st j=some blk'∧∀ b' n',φ j=some (b',n')→∀ f,n'.own f→¬ n.own f:=by
     intro j blk' hj;unfold upd at hj;split at hj
     ·cases hj
     ·rename_i hne;exact⟨hj,fun b' n' e f hf hf'=>hne (hi.inj _ _ _ _ _ _ _ _ _ hj hst e eφ hf hf')⟩
    have fin:∀ {F:List Nat} {us:List Value},len=es.length→off=0→rowOf w b us→0<k→(∀ e∈es,e.length=k)→k*(off+cap)≤us.length→TCells w es.flatten (us.take (k*es.length)) F→(b::F).Nodup→(∀ f∈F,n.own f)→(∀ f,n.own f→∀ o,m f o=none) →
     ∃ F O,AbsOk w m φ st (upd st id none) [.isl es] [.slice ao len cap] F O:=by
     intro F us hlen hoff hrow hk hw hfit ht hnd hF hm;subst hoff;subst hlen
     have hfree:∀ f,n.own f→(∀ o,m f o=none)∧f<w.heap.size∧∃ id b n blk,st id=some blk∧φ id=some (b,n)∧n.own f:=fun f hf=>⟨hm f hf,hb.2 f hf,id,b,n,_,hst,eφ,hf⟩
     by_cases h0:es=[]
     ·subst h0;exact⟨[],n.own, .isl0 ha2 .nil,by simp,by simp,hfree,hless⟩
     ·have hcap0:cap≠0:=by have:=List.length_pos_iff.2 h0;omega
      have:=ha1 hcap0;subst this;refine⟨b::F++[],n.own, .isl h0 hrow hk hw (by simpa using hfit) hlc ht .nil,by simpa using hnd,?_,hfree,hless⟩;intro f hf;simp at hf
      rcases hf with rfl|hf
      ·exact hb.1
      ·exact hF f hf
    cases hok with
    | box=>simp[ABC]at h1
    | fbox=>simp[ABC]at h1
    | loop=>simp[ABC]at h1
    | frz=>simp[ABC]at h1
    | @arr T k' es0 vs hh hl hpos hw1 hc hfit hm hown1 hone =>
     simp only[ABC]at h1;obtain⟨h3,h4⟩:=aP.1 h1;obtain⟨h5,h6⟩:=aP.1 h4;injection h6 with h6;subst h6;obtain⟨rfl,h7,h8⟩:=zS h3;exact fin h8 h7 ⟨T,hh,hone⟩ hpos hw1 (by rw[hl];exact hcap) (TA (mH h5) hc) (by simp) (by simp) (fun f hf=>by rw[hown1 f hf];exact hm)
    | @tre T k' es0 vs F hh hl hpos hw1 hc hfit hnd hF hm hone =>
     simp only[ABC]at h1;obtain⟨h3,h4⟩:=aP.1 h1;injection h4 with h6;subst h6;obtain⟨rfl,h7,h8⟩:=zS h3;exact fin h8 h7 ⟨T,hh,hone⟩ hpos hw1 (by rw[hl];exact hcap) hc hnd hF hm
 ·cases h
theorem IU {w:World} {m:Mem} {φ:Pl}:∀ {cs:List AV} {st st1:Store} {l:List IV} {vs:List Value},Inv w m φ st→RepC m φ cs vs→IW st cs=some (l,st1)→∃ F O,AbsOk w m φ st st1 l vs F O
 | [],st,st1,l,_,hi, .nil,h=>by
  simp[IW]at h;obtain⟨rfl,rfl⟩:=h;exact⟨[],fun _=>False, .nil,by simp,by simp,fun _ h=>h.elim,fun id blk h=>⟨h,fun _ _ _ _ _ h=>h⟩⟩
 | c::cs,st,st1,l,_,hi, .cons a o b,h=>by
  simp only[IW]at h;obtain⟨p,h1,h2⟩:=aH.1 h;obtain⟨q,h3,h4⟩:=aH.1 h2;injection h4 with h4;injection h4 with h5 h6;subst h5;subst h6;obtain⟨F1,O1,k1⟩:=VZ hi a o (show OH st c=some (p.1,p.2)from h1);obtain⟨F2,O2,k2⟩:=IU (hi.forget fun id blk e=>(k1.less id blk e).1) b (show IW p.2 cs=some (q.1,q.2)from h3)
  have hdis:∀ f,O2 f→¬ O1 f:=by
   intro f h2 h1;obtain⟨_,_,id,b',n',blk,e1,e2,e3⟩:=k2.free f h2;exact(k1.less id blk e1).2 b' n' e2 f e3 h1
  refine⟨F1++F2,fun f=>O1 f∨O2 f,k1.cells.append k2.cells,?_,?_,?_,?_⟩
  ·rw[yT];refine⟨k1.nodup,k2.nodup,?_⟩;intro x hx y hy e;subst e;exact hdis x (k2.own x hy) (k1.own x hx)
  ·intro f hf
   rcases zT.1 hf with hf|hf
   ·exact .inl (k1.own f hf)
   ·exact .inr (k2.own f hf)
  ·intro f hf
   rcases hf with hf|hf
   ·exact k1.free f hf
   ·obtain⟨a1,a2,id,b',n',blk,e1,e2,e3⟩:=k2.free f hf;exact⟨a1,a2,id,b',n',blk,(k1.less id blk e1).1,e2,e3⟩
  ·intro id blk e;obtain⟨e1,d1⟩:=k2.less id blk e;obtain⟨e2,d2⟩:=k1.less id blk e1;exact⟨e2,fun b n hp f hf hh=>hh.elim (d2 b n hp f hf) (d1 b n hp f hf)⟩
theorem Inv.grow {st1:Store} (h:Inv w m φ st) {l:List IV} {vs:List Value} {F:List Nat} {O:Nat→Prop} (ha:AbsOk w m φ st st1 l vs F O) {id b:Nat} {n:Ext} {blk blk':Blk} (hs:st1 id=some blk) (he:φ id=some (b,n)) (hm:∀ o,m b o=none) (cs:Array Value)
 (hb:BlkOk (w.setRow b cs) m (kI φ id (b,⟨n.len,fun f=>n.own f∨O f⟩)) b ⟨n.len,fun f=>n.own f∨O f⟩ blk') :
 Inv (w.setRow b cs) m (kI φ id (b,⟨n.len,fun f=>n.own f∨O f⟩)) (upd st1 id (some blk'))∧Adv w m φ (w.setRow b cs) m (kI φ id (b,⟨n.len,fun f=>n.own f∨O f⟩)):=by
 have hi1:Inv w m φ st1:=h.forget fun id blk e=>(ha.less id blk e).1
 have hoth:∀ x,x≠b→(w.setRow b cs).heap[x]?=w.heap[x]?:=fun x hx=>setRow_other w b x cs hx
 have hown:=(dF hi1 he hs).1
 have hp:PLe φ (kI φ id (b,⟨n.len,fun f=>n.own f∨O f⟩)):=by
  intro j r n' e;by_cases hj:j=id
  ·subst hj;rw[he]at e;injection e with e;injection e with e1 e2;subst e1;subst e2
   exact⟨_,cK _ _ _,rfl,fun f hf=>.inl hf⟩
  ·exact⟨n',by rw[oQ hj];exact e,rfl,fun _ h=>h⟩
 have hdis:∀ j blk1,j≠id→st1 j=some blk1→∀ r n',φ j=some (r,n')→∀ f,n'.own f→¬ (n.own f∨O f):=by
  intro j blk1 hj hb1 r n' e f hf hh
  rcases hh with hh|hh
  ·exact hj (hi1.inj _ _ _ _ _ _ _ _ _ hb1 hs e he hf hh)
  ·exact(ha.less j blk1 hb1).2 r n' e f hf hh
 refine⟨⟨?_,?_,?_,?_⟩,⟨by simp,rfl,⟨rfl,zN _⟩,rfl,fun x _ hn=>hoth x fun e=>hn id b n he (by rw[e];exact hown.1), .refl _,fun _ _ _ _=>rfl,hp,?_⟩⟩
 ·intro x o v e;have:x≠b:=fun e'=>by subst e';rw[hm o]at e;cases e
  rw[cell_of_heap (hoth x this)];exact h.mem x o v e
 ·intro j blk1 hj;unfold upd at hj;split at hj
  ·rename_i e;subst e;injection hj with hj;subst hj
   refine⟨b,_,cK _ _ _,⟨.inl hown.1,fun f hf=>?_⟩,hb⟩
   rcases hf with hf|hf
   ·simpa using hown.2 f hf
   ·simpa using (ha.free f hf).2.1
  ·rename_i hne;obtain⟨b',n',e',hlt,hok⟩:=hi1.live _ _ hj;have:∀ f,n'.own f→f≠b:=fun f hf e=>by subst e;exact hdis j blk1 hne hj b' n' e' f hf (.inl hown.1)
   exact⟨b',n',by rw[oQ hne];exact e',⟨hlt.1,fun f hf=>by simpa using hlt.2 f hf⟩,hok.mono hlt.1 (fun f hf=>hoth f (this f hf)) (.refl _) hp fun _ _ _=>rfl⟩
 ·intro i j x x' n1 n2 b1 b2 f hi hj h1 h2 o1 o2;by_cases hii:i=id
  ·by_cases hjj:j=id
   ·rw[hii,hjj]
   ·subst hii;rw[cK]at h1;injection h1 with h1;injection h1 with e1 e2;subst e2
    obtain⟨k1,k2⟩:=uX hjj hj h2;exact absurd o1 (hdis j b2 hjj k1 x' n2 k2 f o2)
  ·obtain⟨k1,k2⟩:=uX hii hi h1;by_cases hjj:j=id
   ·subst hjj;rw[cK]at h2;injection h2 with h2;injection h2 with e1 e2;subst e2
    exact absurd o2 (hdis i b1 hii k1 x n1 k2 f o1)
   ·obtain⟨k3,k4⟩:=uX hjj hj h2;exact hi1.inj i j x x' n1 n2 b1 b2 f k1 k3 k2 k4 o1 o2
 ·intro i r n' f h1 ho;by_cases hii:i=id
  ·subst hii;rw[cK]at h1;injection h1 with h1;injection h1 with e1 e2;subst e2
   rcases ho with ho|ho
   ·simpa using hown.2 f ho
   ·simpa using (ha.free f ho).2.1
  ·rw[oQ hii]at h1;simpa using hi1.low i r n' f h1 ho
 ·intro i r n' f h1 ho;by_cases hii:i=id
  ·subst hii;rw[cK]at h1;injection h1 with h1;injection h1 with e1 e2;subst e2
   rcases ho with ho|ho
   ·exact .inr (jN.not he ho)
   ·obtain⟨_,_,id',b',n',blk',_,q2,q3⟩:=ha.free f ho;exact .inr (jN.not q2 q3)
  ·rw[oQ hii]at h1;exact .inr (jN.not h1 ho)
theorem LP {t:TypeId} {a:AV} {av xv:Value} {xs:List AV} {st':Store} (hi:Inv w m φ st) (ha:Rep m φ a av) (hxc:RepC m φ xs xv.cells.toList) (hxl:xs.length=xv.cells.size) (hs':gM C.P t=some xv.cells.size) (h4:storeT xs st a=some st') :
 ∃ w' m' φ',(Instr.storeAt t av xv).run C.P w=.ok () w'∧Inv w' m' φ' st'∧Adv w m φ w' m' φ'∧∀ id,φ' id≠none→φ id≠none:=by
 unfold storeT at h4;split at h4
 ·rename_i id off;obtain⟨w',m',k1,k2,k3⟩:=tO (C:=C) hi ha hxc hxl hs' (show storeAt xs st (.own id off)=some st' from h4);exact⟨w',m',φ,k1,k2,k3,fun _ h=>h⟩
 ·rename_i id k ix off
  cases ha with
  | @ownE _ _ _ _ b n' e =>
   obtain⟨p,h5,h6⟩:=aH.1 h4;obtain⟨F,O,hab⟩:=IU hi hxc (show IW st xs=some (p.1,p.2)from h5);have hi1:Inv w m φ p.2:=hi.forget fun id blk e=>(hab.less id blk e).1
   have hpl:=hab.cells.length;simp only[yV]at hpl
   have hids:∀ j,kI φ id (b,⟨n'.len,fun f=>n'.own f∨O f⟩) j≠none→φ j≠none:=by
    intro j hj;by_cases e':j=id
    ·subst e';rw[e];simp
    ·rwa [oQ e']at hj
   cases hst:p.2 id with
   | none=>rw[hst]at h6;simp[gF]at h6
   | some blk =>
    rw[hst]at h6;obtain⟨hb,hok⟩:=dF hi1 e hst
    have rows:∀ {es:List (List IV)} {ec:List IV} {vs:List Value},w.heap[b]?=w.heap[b]?→(∀ e∈es,e.length=k)→k*es.length≤vs.length→es[ix]?=some ec→off+p.1.length≤ec.length →
     (∀ d∈es.set ix (ec.take off++p.1++ec.drop (off+p.1.length)),d.length=k) ∧
     (es.set ix (ec.take off++p.1++ec.drop (off+p.1.length))).flatten=es.flatten.take (k*ix+off)++p.1++es.flatten.drop (k*ix+off+p.1.length) ∧
     (vs.take (k*ix+off)++xv.cells.toList++vs.drop (k*ix+off+xv.cells.size)).take (k*es.length)=(vs.take (k*es.length)).take (k*ix+off)++xv.cells.toList++(vs.take (k*es.length)).drop (k*ix+off+xv.cells.size)∧k*ix+off+xv.cells.size≤k*es.length:=by
     intro es ec vs _ hw1 hfit h9 h13;have hixl:ix<es.length:=(zZ.1 h9).1;have hel:ec.length=k:=hw1 ec (zV h9)
     have hmul:k*ix+k≤k*es.length:=by
      have:=yY k (show ix+1≤es.length by omega)
      rwa [zA,Nat.mul_one]at this
     have hfl:=qL hw1 h9;have hfll:=bV hw1;refine⟨fun d hd=>?_,?_,?_,by omega⟩
     ·rcases xW hd with hd|hd
      ·exact hw1 d hd
      ·subst hd;simp;omega
     ·rw[nL hw1 (by simp;omega) hixl];have e1:(ec.take off++p.1++ec.drop (off+p.1.length)).length=k:=by simp;omega
      rw[e1]
      have e2:es.flatten.take (k*ix+off)=es.flatten.take (k*ix)++ec.take off:=by
       rw[← hfl,zK,yH (by omega),List.take_add]
      have e3:es.flatten.drop (k*ix+off+p.1.length)=ec.drop (off+p.1.length)++es.flatten.drop (k*ix+k):=by
       rw[← hfl,x8];rw[xH]
       have:es.flatten.drop (k*ix+k)=(es.flatten.drop (k*ix+(off+p.1.length))).drop (k-(off+p.1.length)):=by
        rw[xH];congr 1;omega
       rw[this,yK,yN]
      rw[e2,e3];simp
     ·have a1:(vs.take (k*ix+off)++xv.cells.toList).length=k*ix+off+xv.cells.size:=by simp;omega
      rw[xR,a1,zW (by rw[a1];omega),x8,zK,yH (by omega)]
    have hbO:¬ O b:=fun h=>(hab.less id blk hst).2 b n' e b hb.1 h
    have treOk:∀ {es:List (List IV)} {vs:List Value} {T:TypeId} {F0:List Nat} {ec:List IV},w.heap[b]?=some (.cells vs.toArray T (0,0))→vs.length=n'.len→0<k→(∀ e∈es,e.length=k)→TCells w es.flatten (vs.take (k*es.length)) F0→k*es.length≤n'.len→(b::F0).Nodup→(∀ f∈F0,n'.own f)→(∀ f,n'.own f→∀ o,m f o=none)→(∀ v∈vs,v.oneCell'=true)→es[ix]?=some ec→off+p.1.length≤ec.length →
     ∃ w',(Instr.storeAt t (.pointer (some ⟨b,k*ix+off,none⟩)) xv).run C.P w=.ok () w'∧Inv w' m (kI φ id (b,⟨n'.len,fun f=>n'.own f∨O f⟩)) (upd p.2 id (some (.tre k (es.set ix (ec.take off++p.1++ec.drop (off+p.1.length))))))∧Adv w m φ w' m (kI φ id (b,⟨n'.len,fun f=>n'.own f∨O f⟩)):=by
     intro es vs T F0 ec hh hl hpos hw1 hc hfit hnd hF0 hm hone h9 h13;obtain⟨r1,r2,r3,r4⟩:=rows (vs:=vs) rfl hw1 (by omega) h9 h13;have hrun:=jF (P:=C.P) (off:=k*ix+off) hs' hh (by omega) hab.cells.one;obtain⟨F1,F2,hF,t1,t2⟩:=hc.split (k*ix+off);obtain⟨F3,F4,hF',t3,t4⟩:=t2.split p.1.length;rw[xH,xH]at t4
     have hsub:∀ f,f∈F1++F4→f∈F0:=by
      intro f hf;rw[hF,hF']
      rcases zT.1 hf with hf|hf
      ·simp[hf]
      ·simp[hf]
     have hFO:∀ f∈F0,¬ O f:=fun f hf h=>(hab.less id blk hst).2 b n' e f (hF0 f hf) h
     have hblk:BlkOk (w.setRow b (vs.take (k*ix+off)++xv.cells.toList++vs.drop (k*ix+off+xv.cells.size)).toArray) m (kI φ id (b,⟨n'.len,fun f=>n'.own f∨O f⟩)) b ⟨n'.len,fun f=>n'.own f∨O f⟩ (.tre k (es.set ix (ec.take off++p.1++ec.drop (off+p.1.length)))):=by
      refine .tre (T:=T) (F:=F1++F++F4) (setRow_heap w b _ _ T (0,0) hh) (by simp;omega) hpos r1 ?_ (by rw[xM];exact hfit) ?_ ?_ ?_ (fun v hv=>by
       rcases zT.1 hv with hv|hv
       ·rcases zT.1 hv with hv|hv
        ·exact hone v (zC hv)
        ·exact hab.cells.one v hv
       ·exact hone v (yQ hv))
      ·rw[r2,xM,r3,← hpl];refine((t1.append hab.cells).append t4).mono fun f hf=>?_
       refine setRow_other w b f _ fun e'=>?_
       subst e';simp only[zT]at hf
       rcases hf with (hf|hf)|hf
       ·exact(yR.1 hnd).1 (hsub f (by simp[hf]))
       ·exact hbO (hab.own f hf)
       ·exact(yR.1 hnd).1 (hsub f (by simp[hf]))
      ·rw[yR];have hnd0:=(yR.1 hnd).2;rw[hF,hF']at hnd0;have hn1:=yT.1 hnd0;have hn2:=yT.1 hn1.2.1;refine⟨fun hf=>?_,?_⟩
       ·simp only[zT]at hf
        rcases hf with (hf|hf)|hf
        ·exact(yR.1 hnd).1 (hsub b (by simp[hf]))
        ·exact hbO (hab.own b hf)
        ·exact(yR.1 hnd).1 (hsub b (by simp[hf]))
       ·rw[yT,yT];refine⟨⟨hn1.1,hab.nodup,fun x hx y hy e'=>?_⟩,hn2.2.1,fun x hx y hy e'=>?_⟩
        ·subst e';exact hFO x (hsub x (by simp[hx])) (hab.own x hy)
        ·subst e'
         rcases zT.1 hx with hx|hx
         ·exact hn1.2.2 x hx x (by simp[hy]) rfl
         ·exact hFO x (hsub x (by simp[hy])) (hab.own x hx)
      ·intro f hf;simp only[zT]at hf
       rcases hf with (hf|hf)|hf
       ·exact .inl (hF0 f (hsub f (by simp[hf])))
       ·exact .inr (hab.own f hf)
       ·exact .inl (hF0 f (hsub f (by simp[hf])))
      ·intro f hf o
       rcases hf with hf|hf
       ·exact hm f hf o
       ·exact(hab.free f hf).1 o
     obtain⟨k1,k2⟩:=hi.grow hab hst e (hm b hb.1) _ hblk;exact⟨_,by simp only[Instr.storeAt,Instr.sureAddr,Sem.run_bind,Sem.run_pure,Result.andThen_ok];exact hrun,k1,k2⟩
    cases hok with
    | box=>simp[gF]at h6
    | frz=>simp[gF]at h6
    | fbox=>simp[gF]at h6
    | loop=>simp[gF]at h6
    | @arr T k' es vs hh hl hpos hw1 hcc hfit hm hown1 hone =>
     simp only[gF]at h6;obtain⟨h7,h8⟩:=aP.1 h6;have h7:=zS h7;subst h7;obtain⟨ec,h9,h10⟩:=aH.1 h8;rw[iU]at h9;obtain⟨e',h11,h12⟩:=aH.1 h10;obtain⟨rfl,h13⟩:=kQ _ _ _ _ h11;unfold FV at h12;split at h12
     ·rename_i hlit;injection h12 with h12;subst h12;obtain⟨r1,r2,r3,r4⟩:=rows (vs:=vs) rfl hw1 (by omega) h9 h13;have hrun:=jF (P:=C.P) (off:=k'*ix+off) hs' hh (by omega) hab.cells.one
      have hblk:BlkOk (w.setRow b (vs.take (k'*ix+off)++xv.cells.toList++vs.drop (k'*ix+off+xv.cells.size)).toArray) m φ b n' (.arr k' (es.set ix (ec.take off++p.1++ec.drop (off+p.1.length)))):=by
       refine .arr (T:=T) (setRow_heap w b _ _ T (0,0) hh) (by simp;omega) hpos r1 ?_ (by rw[xM];exact hfit) hm hown1 (fun v hv=>by
      rcases zT.1 hv with hv|hv
      ·rcases zT.1 hv with hv|hv
       ·exact hone v (zC hv)
       ·exact hab.cells.one v hv
      ·exact hone v (yQ hv))
       rw[r2,xM,r3,← hpl];exact((hcc.take _).append (AF3 hlit hab.cells)).append (hcc.drop _)
      obtain⟨k1,k2⟩:=hi1.set hst e hm _ hblk;exact⟨_,m,φ,by simp only[Instr.storeAt,Instr.sureAddr,Sem.run_bind,Sem.run_pure,Result.andThen_ok];exact hrun,k1,k2,fun _ h=>h⟩
     ·obtain⟨h14,h15⟩:=aP.1 h12;injection h15 with h15;subst h15;obtain⟨w',z1,z2,z3⟩:=treOk hh hl hpos hw1 (TA (mH h14) hcc) hfit (by simp) (by simp) (fun f hf=>by rw[hown1 f hf];exact hm) hone h9 h13;exact⟨w',m,_,z1,z2,z3,hids⟩
    | @tre T k' es vs F0 hh hl hpos hw1 hc hfit hnd hF0 hm hone =>
     simp only[gF]at h6;obtain⟨h7,h8⟩:=aP.1 h6;have h7:=zS h7;subst h7;obtain⟨ec,h9,h10⟩:=aH.1 h8;rw[iU]at h9;obtain⟨e',h11,h12⟩:=aH.1 h10;obtain⟨rfl,h13⟩:=kQ _ _ _ _ h11;injection h12 with h12;subst h12;obtain⟨w',z1,z2,z3⟩:=treOk hh hl hpos hw1 hc hfit hnd hF0 hm hone h9 h13;exact⟨w',m,_,z1,z2,z3,hids⟩
 ·cases h4
theorem LQ {t:TypeId} {a x:AV} {av xv:Value} {st':Store} (hi:Inv w m φ st) (ha:Rep m φ a av) (hx:Rep m φ x xv) (h:wF C t a x st=some st') :
 ∃ w' m' φ',(Instr.storeAt t av xv).run C.P w=.ok () w'∧Inv w' m' φ' st'∧Adv w m φ w' m' φ'∧∀ id,φ' id≠none→φ id≠none:=by
 unfold wF at h;obtain⟨n,hs,h1⟩:=aH.1 h;obtain⟨xs,hc,h2⟩:=aH.1 h1;obtain⟨h3,h4⟩:=aP.1 h2;have hn:=zS h3;subst hn;have hxc:=sJ hc hx;have hxl:=hxc.length;simp only[yV]at hxl;have hs':gM C.P t=some xv.cells.size:=by rw[hs,hxl]
 unfold tQ at h4;split at h4
 ·obtain⟨w',m',k1,k2,k3⟩:=tO hi ha hxc hxl hs' h4;exact⟨w',m',φ,k1,k2,k3,fun _ h=>h⟩
 ·exact LP hi ha hxc hxl hs' h4
theorem VE {t u ty:TypeId} {d x v:AV} {dv xv:Value} {st':Store} {nb:Nat} (hi:Inv w m φ st) (hd:Rep m φ d dv) (hx:Rep m φ x xv) (h:Q8 C t d x st=some (v,st')) :
 ∃ y w',(Builtin.copy_ #[t,u] ty #[dv,xv]).run C.P w=.ok y w'∧Out w m φ nb v st' y w':=by
 unfold Q8 at h;obtain⟨e,he,h1⟩:=aH.1 h;obtain⟨k,hk,h2⟩:=aH.1 h1;obtain⟨h3,h4⟩:=aP.1 h2;have hk0:=zS h3;obtain⟨src,hn,h5⟩:=aH.1 h4;have ht:=kL he;obtain⟨cs,hrr⟩:=IA (P:=C.P) hi hx hn;have hr:=hrr w rfl;have hcl:=hr.cells.length;rw[bV hr.width]at hcl;unfold EL at h5
 cases hd with
 | junk=>simp at h5
 | i=>simp at h5
 | own=>simp at h5
 | ownE=>simp at h5
 | agg=>simp at h5
 | tup=>simp at h5
 | fn=>simp at h5
 | yld=>simp at h5
 | ydead=>simp at h5
 | nils =>
  simp only[Option.some.injEq,Prod.mk.injEq]at h5;obtain⟨rfl,rfl⟩:=h5;have hf:=hr.first 0 (xJ _);refine⟨_,w,?_,Out.same hi (.i (.lit _))⟩;simp[Builtin.copy_,goInt,hr.len,hf,iF ht,dB hk]
 | @osl id k' off len cap b n ao eφ hlc hcap ha1 ha2 =>
  simp only at h5
  cases hst:st id with
  | none=>rw[hst]at h5;simp[l5]at h5
  | some blk =>
   rw[hst]at h5;obtain⟨hbl,hok⟩:=IQ hi eφ hst
   cases hok with
   | box=>simp[l5]at h5
   | fbox=>simp[l5]at h5
   | frz=>simp[l5]at h5
   | tre=>simp[l5]at h5
   | loop=>simp[l5]at h5
   | @arr T k'' es vs hh hl hpos hw1 hc hfit hm hown1 hone =>
    simp only[l5]at h5;obtain⟨h8,h9⟩:=aP.1 h5;obtain⟨rfl,rfl,hle⟩:=zS h8;simp only[Option.some.injEq,Prod.mk.injEq]at h9;obtain⟨rfl,rfl⟩:=h9;have hmn:Nat.min src.length len=min src.length len:=rfl;have hf:=hr.first (min src.length len) (Nat.min_le_left _ _);have htl:(src.take len).length=min src.length len:=by simp;omega
    have hnews:ICells m (src.take len).flatten (cs.take (min src.length len*k'')):=by
     rw[lF len src hr.width];have:=hr.cells.take (k''*len);by_cases hc1:len≤src.length
     ·rw[Nat.min_eq_right hc1,zG len];exact this
     ·rw[yH (by omega),zW (l:=cs) (by rw[← hcl,zG];exact zN _)];rw[zW (l:=cs) (by rw[← hcl];exact yY _ (by omega))]at this;exact this
    have hnl:(cs.take (min src.length len*k'')).length=k''*min src.length len:=by
     rw[yM,← hcl,zG];exact yH (yY _ (Nat.min_le_left _ _))
    have hwn:∀ d∈over es off (src.take len),d.length=k'':=fun d hd=>by
     unfold over at hd;simp only[zT]at hd
     rcases hd with (hd|hd)|hd
     ·exact hw1 d (zC hd)
     ·exact hr.width d (zC hd)
     ·exact hw1 d (yQ hd)
    have hol:(over es off (src.take len)).length=es.length:=by unfold over;simp;omega
    have hkoff:k''*off+k''*min src.length len≤k''*es.length:=by
     rw[← Nat.mul_add];exact yY _ (by omega)
    have hflat:(over es off (src.take len)).flatten=es.flatten.take (k''*off)++(src.take len).flatten++es.flatten.drop (k''*off+(src.take len).flatten.length):=by
     unfold over
     have g1:∀ (n:Nat) (l:List (List IV)),(∀ e∈l,e.length=k'')→(l.drop n).flatten=l.flatten.drop (k''*n):=by
      intro n
      induction n with
      | zero=>intro l _;simp
      | succ n ih =>
       intro l hl
       cases l with
       | nil=>simp
       | cons e l =>
        have he:=hl e (by simp);simp only[xP,z8];rw[ih l (fun e he=>hl e (by simp[he])),zA5,show k''*(n+1)=e.length+k''*n by rw[he,zA];omega];simp
     rw[List.flatten_append,List.flatten_append,lF off es hw1,g1 _ es hw1,bV (fun e he=>hr.width e (zC he)),zA]
    have hsl:(src.take len).flatten.length=k''*min src.length len:=by rw[bV (fun e he=>hr.width e (zC he)),htl]
    by_cases hc0:cap=0
    ·have hl0:len=0:=by omega
     subst hl0;have hov:over es off (src.take 0)=es:=by unfold over;simp
     rw[hov];have hmin:Nat.min src.length 0=0:=Nat.min_zero _;have hf0:=hr.first 0 (xJ _);refine⟨goInt 0,w,?_,?_⟩
     ·cases ao with
      | none=>simp[Builtin.copy_,iF ht,dB hk,hr.len,hf0]
      | some a=>simp[Builtin.copy_,iF ht,dB hk,hr.len,hf0,storeCells]
     ·have:upd st id (some (Blk.arr k'' es))=st:=by
       funext j;unfold upd;split
       ·rename_i e;subst e;exact hst.symm
       ·rfl
      rw[this];have h0:((min src.length 0:Nat):Int)=0:=by simp
      rw[h0];exact Out.same hi (.i (.lit _))
    ·have hao:=ha1 hc0;subst hao;have hstore:=run_storeCells_at C.P b (k''*off) T (cs.take (min src.length len*k'')) 0 vs.toArray w hh (by simp only[List.size_toArray];rw[hnl];omega) hnews.one;simp only[xQ]at hstore
     have hvl:(vs.take (k''*off)++cs.take (min src.length len*k'')++vs.drop (k''*off+(cs.take (min src.length len*k'')).length)).length=n.len:=by
      rw[zF,zF,hnl,yM,xS];omega
     have hblk:BlkOk (w.setRow b (vs.take (k''*off)++cs.take (min src.length len*k'')++vs.drop (k''*off+(cs.take (min src.length len*k'')).length)).toArray) m φ b n (.arr k'' (over es off (src.take len))):=by
      refine .arr (T:=T) (setRow_heap w b _ _ T (0,0) hh) hvl hk0 hwn ?_ (by rw[hol];exact hfit) hm hown1 (fun v hv=>by
      rcases zT.1 hv with hv|hv
      ·rcases zT.1 hv with hv|hv
       ·exact hone v (zC hv)
       ·exact hnews.one v hv
      ·exact hone v (yQ hv))
      rw[hol,hflat,hsl]
      have e4:(vs.take (k''*off)++cs.take (min src.length len*k'')++vs.drop (k''*off+(cs.take (min src.length len*k'')).length)).take (k''*es.length) =
       (vs.take (k''*es.length)).take (k''*off)++cs.take (min src.length len*k'')++(vs.take (k''*es.length)).drop (k''*off+k''*min src.length len):=by
       have a1:(vs.take (k''*off)++cs.take (min src.length len*k'')).length=k''*off+k''*min src.length len:=by rw[zF,hnl,yM];omega
       have a2:(vs.take (k''*off)++cs.take (min src.length len*k'')).length≤k''*es.length:=by rw[a1];exact hkoff
       have a3:k''*off≤k''*es.length:=by omega
       rw[xR,zW a2,a1,hnl,x8,zK,yH a3]
      rw[e4];exact((hc.take _).append hnews).append (hc.drop _)
     obtain⟨k1,k2⟩:=hi.set hst eφ hm _ hblk;refine⟨goInt (min src.length len:Nat),_,?_,m,φ, .i (.lit _),k1,k2,fun _ h=>.inl h⟩;simp[Builtin.copy_,iF ht,dB hk,hr.len,hmn,hf,hstore]
end
end Go.Av

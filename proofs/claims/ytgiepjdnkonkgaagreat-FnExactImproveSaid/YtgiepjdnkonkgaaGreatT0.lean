/- Part 0 of what the proof rests on: the executor and what it is worth, and the program's functions as it runs them. No condition. -/
import GoSem.Core.Value
import Derived.Orders
import Derived.Laws.CopyRow
import Derived.Laws.Cells
import Derived.Laws.Entries
import Derived.Still
import Derived.ChangeKeysEq
import Derived.Laws.World
import Derived.Laws.Append
import Derived.Laws.MakeOwn
set_option linter.unusedVariables false
set_option linter.unusedSimpArgs false
abbrev zZ:=@List.getElem?_eq_some_iff
abbrev zY:=@List.take_of_length_le
abbrev zX:=@List.getElem?_eq_getElem
abbrev zW:=@List.length_eq_zero_iff
abbrev zV:=@List.mem_append
abbrev zU:=@List.mem_of_getElem?
abbrev zT:=@Bool.and_eq_true
abbrev zS:=@List.mem_cons
abbrev zR:=@of_decide_eq_true
abbrev zQ:=@List.all_eq_true
abbrev zP:=@List.length_cons
abbrev zO:=@Nat.le_refl
abbrev zN:=@Array.getElem?_eq_some_iff
abbrev zM:=@decide_eq_true_eq
abbrev zL:=@List.length_append
abbrev zK:=@List.take_take
abbrev zJ:=@List.nodup_append
abbrev zI:=@Nat.lt_of_lt_of_le
abbrev zH:=@Nat.zero_add
abbrev zG:=@List.getElem?_append_left
abbrev zF:=@List.getElem?_take
abbrev zD:=@Nat.mul_le_mul_left
abbrev zC:=@Nat.mul_add
abbrev zB:=@List.getElem?_append_right
abbrev zA:=@List.append_nil
abbrev z8:=@List.flatten_cons
abbrev yZ:=@List.append_assoc
abbrev yY:=@List.mem_of_mem_take
abbrev yX:=@List.nodup_cons
abbrev yV:=@List.cons_append
abbrev yU:=@Nat.mul_comm
abbrev yT:=@List.length_nil
abbrev yS:=@List.map_cons
abbrev yR:=@List.take_succ_cons
abbrev yQ:=@Array.length_toList
abbrev yP:=@Option.getD_some
abbrev yO:=@List.nil_append
abbrev yN:=@Int.eq_ofNat_of_zero_le
abbrev yM:=@Nat.min_eq_left
abbrev yL:=@List.mem_append_left
abbrev yK:=@Bool.false_eq_true
abbrev yJ:=@List.getElem?_drop
abbrev yI:=@List.mem_map
abbrev yH:=@Option.bind_some
abbrev yG:=@Array.all_eq_true_iff_forall_mem
abbrev yF:=@List.mem_of_mem_drop
abbrev yE:=@Nat.add_zero
abbrev yD:=@List.drop_eq_getElem_cons
abbrev yC:=@Nat.add_assoc
abbrev yB:=@List.map_append
abbrev yA:=@Int.natCast_add
abbrev xZ:=@List.getElem?_cons_succ
abbrev xY:=@List.length_take
abbrev xX:=@Nat.le_trans
abbrev xW:=@List.drop_take
abbrev xV:=@List.take_append_drop
abbrev xU:=@Array.getElem?_toList
abbrev xS:=@Nat.not_lt_zero
abbrev xR:=@Array.getD_eq_getD_getElem?
abbrev xQ:=@Nat.add_sub_cancel_left
abbrev xP:=@Nat.le_max_right
abbrev xO:=@List.replicate_succ
abbrev xN:=@List.length_pos_iff
abbrev xM:=@List.take_append
abbrev xL:=@Nat.lt_irrefl
abbrev xK:=@List.range'_append_1
abbrev xJ:=@List.getElem?_map
abbrev xH:=@Nat.le_max_left
abbrev xG:=@Option.map_some
abbrev xE:=@List.drop_drop
abbrev xD:=@Option.isSome_iff_exists
abbrev xC:=@Int.add_zero
abbrev xB:=@List.foldl_append
abbrev xA:=@List.eq_nil_of_length_eq_zero
abbrev zA0:=@List.take_append_of_le_length
abbrev zA1:=@Int.mul_le_mul_of_nonneg_left
abbrev zA2:=@List.length_drop
abbrev zA3:=@List.getElem_mem
abbrev zA4:=@List.not_mem_nil
abbrev zA5:=@Option.isSome_none
abbrev zA6:=@List.mem_singleton
abbrev zA7:=@List.map_nil
abbrev zA8:=@List.foldl_cons
abbrev zA9:=@List.set_append_right
abbrev zB0:=@List.drop_left'
abbrev zB1:=@List.length_map
abbrev zB2:=@Nat.or_lt_two_pow
abbrev zB3:=@List.mem_or_eq_of_mem_set
abbrev zB4:=@List.range_eq_range'
abbrev zB5:=@List.mem_cons_of_mem
abbrev zB6:=@Int.not_lt
abbrev zB7:=@List.getElem?_eq_none_iff
abbrev zB8:=@Nat.mul_one
abbrev zB9:=@Nat.zero_le
abbrev zC0:=@List.take_left
abbrev zC1:=@List.take_length
abbrev zC2:=@List.drop_succ_cons
abbrev zC3:=@List.flatten_append
abbrev zC4:=@Array.getElem?_setIfInBounds_ne
abbrev zC5:=@List.getElem?_cons_zero
abbrev zC6:=@List.set_cons_zero
abbrev zC7:=@List.length_set
abbrev zC8:=@List.range_succ
abbrev zC9:=@Bool.eq_iff_iff
abbrev zD0:=@Array.getElem?_eq_none
abbrev zD1:=@List.length_replicate
abbrev zD2:=@List.eq_nil_or_concat
abbrev zD3:=@List.mem_append_right
abbrev zD4:=@List.map_congr_left
abbrev zD5:=@Nat.lt_or_ge
abbrev zD6:=@Nat.one_le_two_pow
abbrev zD7:=@List.pairwise_cons
abbrev zD8:=@List.append_eq_nil_iff
abbrev zD9:=@List.findIdx_le_length
abbrev zE0:=@Option.map_eq_some_iff
abbrev zE1:=@List.range_succ_eq_map
abbrev zE2:=@List.getElem?_set_self
abbrev zE3:=@Bool.and_true
abbrev zE4:=@List.map_take
abbrev zE5:=@List.drop_append
abbrev zE6:=@Nat.sub_self
abbrev zE7:=@Nat.add_comm
abbrev zE8:=@Bool.or_eq_true
abbrev zE9:=@Nat.pow_succ
abbrev zF0:=@List.take_left'
abbrev zF1:=@Int.not_le
namespace Go.Av
def AaL:List (Nat×Array Value):=[]
def bnd {α β:Type}:Option α→(α→Option β)→Option β
 | some a,f=>f a
 | none,_=>none
@[congr] theorem AYL {α β:Type} {x y:Option α} {f:α→Option β} (h:x=y):bnd x f=bnd y f:=by rw[h]
@[simp] theorem dO {α β:Type} (a:α) (f:α→Option β):bnd (some a) f=f a:=(rfl)
@[simp] theorem Aa5 {α β:Type} (f:α→Option β):bnd none f=none:=(rfl)
theorem aI {α β:Type} {x:Option α} {f:α→Option β} {r:β}:bnd x f=some r↔∃ a,x=some a∧f a=some r:=by
 cases x<;>simp[bnd]
def tst {β:Type}:Bool→Option β→Option β
 | true,x=>x
 | false,_=>none
@[congr] theorem AVI {β:Type} {c d:Bool} {x:Option β} (h:c=d):tst c x=tst d x:=by rw[h]
@[simp] theorem jY {β:Type} (x:Option β):tst true x=x:=(rfl)
@[simp] theorem AVH {β:Type} (x:Option β):tst false x=none:=(rfl)
theorem aQ {β:Type} {c:Bool} {x:Option β} {r:β}:tst c x=some r↔c=true∧x=some r:=by
 cases c<;>simp[tst]
inductive IV where
 | lit (v:Value)
 | agg (cs:List IV)
 | isl (es:List (List IV))
 | iref (cs:List IV)
 deriving Inhabited
inductive AV where
 | junk
 | nils
 | i (v:IV)
 | own (id off:Nat)
 | ownE (id k ix off:Nat)
 | osl (id k off len:Nat)
 | agg (cs:List AV)
 | tup (vs:List AV)
 | fn (f:Fn) (caps:List AV)
 deriving Inhabited
inductive AExit where
 | normal
 | exit (id:Nat)
 | ret
inductive LSt where
 | ready
 | busy
 | over (e:AExit)
structure Rng where
 G:List Nat
 ts:List Nat
 ps:List Nat
 asg:Code
 body:Code
inductive Blk where
 | box (cs:List AV)
 | arr (k:Nat) (es:List (List IV))
 | frz (k:Nat) (es:List (List IV))
 | fbox (cs:List IV)
 | tre (k:Nat) (es:List (List IV))
 | loop (R:Rng) (cs:List AV) (s:LSt)
abbrev Store:=Nat→Option Blk
abbrev StL:=List (Option Blk)
abbrev IV.int (n:Int):IV:=.lit (.int .i64 n)
abbrev IV.bool (b:Bool):IV:=.lit (.bool b)
abbrev AV.int (n:Int):AV:=.i (.lit (.int .i64 n))
abbrev AV.bool (b:Bool):AV:=.i (.lit (.bool b))
def upd {α:Type} (f:Nat→α) (a:Nat) (v:α):Nat→α:=fun b=>if b=a then v else f b
theorem AFO {α:Type} (f:Nat→α) (a:Nat) (v:α) (b:Nat):upd f a v b=if b=a then v else f b:=rfl
def aJ:List (Nat×AV)→Nat→AV
 | [],_=>.junk
 | (t,v)::r,s=>if s=t then v else aJ r s
def aR:StL→Store
 | [],_=>none
 | b::_,0=>b
 | _::r,n+1=>aR r n
def jK:Value→AV
 | .slice none 0 0=>.nils
 | v=>.i (.lit v)
def VZ:AV→Option (List IV)→Option (List IV)
 | .i v,some l=>some (v::l)
 | _,_=>none
def AKH:List AV→Option (List IV)
 | []=>some []
 | c::r=>VZ c (AKH r)
def ATU:Option (List IV)→List AV→AV
 | some l,_=>.i (.agg l)
 | none,cs=>.agg cs
def V6 (cs:List AV):AV:=ATU (AKH cs) cs
def eP:List Value→List AV
 | []=>[]
 | v::r=>jK v::eP r
def FM:Value→AV
 | .agg cs=>V6 (eP cs.toList)
 | v=>jK v
def lF:List IV→List AV
 | []=>[]
 | v::r=>.i v::lF r
def cellsOf:AV→Option (List AV)
 | .junk=>none
 | .tup _=>none
 | .agg cs=>some cs
 | .i (.agg cs)=>some (lF cs)
 | .i (.lit (.agg _))=>none
 | .i (.lit (.tuple _))=>none
 | v=>some [v]
def rR:Bool→List AV→Option AV
 | true,cs=>some (V6 cs)
 | false,[v]=>some v
 | false,_=>none
def iW:Bool→List IV→Option AV
 | true,cs=>some (.i (.agg cs))
 | false,[v]=>some (.i v)
 | false,_=>none
def dropE {α:Type}:Nat→List α→List α
 | 0,l=>l
 | _+1,[]=>[]
 | n+1,_::r=>dropE n r
def CY {α:Type}:Nat→List α→Option (List α)
 | 0,_=>some []
 | _+1,[]=>none
 | n+1,a::r=>bnd (CY n r) fun l=>some (a::l)
def fT {α:Type}:List α→Nat→Option α
 | [],_=>none
 | a::_,0=>some a
 | _::r,n+1=>fT r n
theorem fA {α:Type}:∀ (l:List α) (n:Nat),fT l n=l[n]?
 | [],n=>by simp[fT]
 | a::_,0=>by simp[fT]
 | _::r,n+1=>by simp[fT,fA r n]
def cut {α:Type} (cs:List α) (off n:Nat):Option (List α):=CY n (dropE off cs)
def splice {α:Type}:List α→Nat→List α→Option (List α)
 | cs,0,[]=>some cs
 | _::cs,0,x::xs=>bnd (splice cs 0 xs) fun l=>some (x::l)
 | [],0,_::_=>none
 | c::cs,n+1,xs=>bnd (splice cs n xs) fun l=>some (c::l)
 | [],_+1,_=>none
def iF (P:Program) (t:TypeId):Option Nat:=(P.info? t).map (·.size)
def ZG (P:Program) (t:TypeId):Option Nat:=(P.info? t).map (·.bytes)
inductive DK where
 | strct
 | array (n:Nat) (e:TypeId)
 | slice (e:TypeId)
 | int (k:IntKind)
 | string
 | bool
 | other
def bJ (P:Program) (t:TypeId):Option DK :=
 match P.underlying t with
 | some (.struct _)=>some .strct
 | some (.array n e)=>some (.array n e)
 | some (.slice e)=>some (.slice e)
 | some (.int k)=>some (.int k)
 | some .string=>some .string
 | some .bool=>some .bool
 | some _=>some .other
 | none=>none
def EP:Option DK→Option Bool
 | some .strct=>some true
 | some (.array _ _)=>some true
 | some _=>some false
 | none=>none
def IY:Option DK→Option TypeId
 | some (.slice e)=>some e
 | _=>none
def zeroOf (P:Program) (t:TypeId):Option (List Value):=tst (decide (t<P.types.size)) (bnd (((P.info? t).bind (·.zero)).map (fun v=>v.cells.toList)) fun z=>tst (z.all (·.oneCell')) (some z))
theorem pR {P:Program} {t:TypeId} {z:List Value} (h:zeroOf P t=some z):t<P.types.size∧((P.info? t).bind (·.zero)).map (fun v=>v.cells.toList)=some z:=by
 obtain⟨h1,h2⟩:=aQ.1 h;obtain⟨y,h3,h4⟩:=aI.1 h2;obtain⟨_,h5⟩:=aQ.1 h4;injection h5 with h5;subst h5;exact⟨of_decide_eq_true h1,h3⟩
theorem AC1 {P:Program} {t:TypeId} {z:List Value} (h:zeroOf P t=some z):∀ v∈z,v.oneCell'=true:=by
 obtain⟨h1,h2⟩:=aQ.1 h;obtain⟨y,h3,h4⟩:=aI.1 h2;obtain⟨h6,h5⟩:=aQ.1 h4;injection h5 with h5;subst h5;exact zQ.1 h6
def dM (P:Program) (t:TypeId) (f:Nat):Option (TypeId×Nat) :=
 match P.underlying t with|some (.struct fs)=>(fs[f]?).map (fun f=>(f.type,f.offset))|_=>none
def window {α:Type} (es:List α) (off len:Nat):List α:=(es.drop off).take len
abbrev Ups:=List (Nat×Blk)
def wJ (id k off len:Nat):Option Blk→Option (IV×Ups)
 | some (.arr k' es)=>tst (decide (k'=k∧off+len≤es.length)) (some (.isl (window es off len),[(id, .frz k' es)]))
 | some (.frz k' es)=>tst (decide (k'=k∧off+len≤es.length)) (some (.isl (window es off len),[]))
 | _=>none
mutual
def frz (st:Store):Nat→AV→Option (IV×Ups)
 | 0,_=>none
 | _+1, .i v=>some (v,[])
 | _+1, .nils=>some (.isl [],[])
 | _+1, .osl id k off len=>wJ id k off len (st id)
 | n+1, .own id off=>EN st n id off (st id)
 | n+1, .agg cs=>bnd (IW st n cs) fun p=>some (.agg p.1,p.2)
 | _+1,_=>none
def EN (st:Store):Nat→Nat→Nat→Option Blk→Option (IV×Ups)
 | 0,_,_,_=>none
 | n+1,id,off,some (.box cs)=>bnd (IW st n cs) fun p=>tst (decide (off≤p.1.length)) (some (.iref (dropE off p.1),(id, .fbox p.1)::p.2))
 | _+1,_,off,some (.fbox l)=>tst (decide (off≤l.length)) (some (.iref (dropE off l),[]))
 | _+1,_,_,_=>none
def IW (st:Store):Nat→List AV→Option (List IV×Ups)
 | _,[]=>some ([],[])
 | 0,_::_=>none
 | n+1,c::cs=>bnd (frz st n c) fun p=>bnd (IW st n cs) fun q=>some (p.1::q.1,p.2++q.2)
end
def BG:Nat:=20
def iM (st:Store):Ups→Store
 | []=>st
 | p::r=>upd (iM st r) p.1 (some p.2)
def rV (st:Store):AV→Option (IV×Store)
 | .i v=>some (v,st)
 | v=>bnd (frz st BG v) fun p=>some (p.1,iM st p.2)
def oH (st:Store):List AV→Option (List IV×Store)
 | []=>some ([],st)
 | c::cs=>bnd (rV st c) fun p=>bnd (oH p.2 cs) fun q=>some (p.1::q.1,q.2)
mutual
def dE:AV→List Nat
 | .own id _=>[id]
 | .ownE id _ _ _=>[id]
 | .osl id _ _ _=>[id]
 | .agg cs=>bC cs
 | .tup cs=>bC cs
 | .fn _ cs=>bC cs
 | .junk=>[]
 | .nils=>[]
 | .i _=>[]
def bC:List AV→List Nat
 | []=>[]
 | c::cs=>dE c++bC cs
end
def iL:Option Blk→List Nat
 | some (.box cs)=>bC cs
 | some (.arr _ _)=>[]
 | some (.frz _ _)=>[]
 | some (.fbox _)=>[]
 | some (.tre _ _)=>[]
 | some (.loop _ cs _)=>bC cs
 | none=>[]
def AU9 (j:Option Nat) (f:Nat→AV):AV:=match j with|some j=>f j|none=>.junk
@[simp] theorem AWR (j:Nat) (f:Nat→AV):AU9 (some j) f=f j:=(rfl)
@[simp] theorem AWS (f:Nat→AV):AU9 none f=.junk:=(rfl)
mutual
def ren (r:Nat→Option Nat):AV→AV
 | .own id off=>AU9 (r id) fun j=>.own j off
 | .ownE id k ix off=>AU9 (r id) fun j=>.ownE j k ix off
 | .osl id k off len=>AU9 (r id) fun j=>.osl j k off len
 | .agg cs=>.agg (DL r cs)
 | .tup cs=>.tup (DL r cs)
 | .fn f cs=>.fn f (DL r cs)
 | .junk=>.junk
 | .nils=>.nils
 | .i v=>.i v
def DL (r:Nat→Option Nat):List AV→List AV
 | []=>[]
 | c::cs=>ren r c::DL r cs
end
def DN (r:Nat→Option Nat):Option Blk→Option Blk
 | some (.box cs)=>some (.box (DL r cs))
 | some (.arr k es)=>some (.arr k es)
 | some (.frz k es)=>some (.frz k es)
 | some (.fbox cs)=>some (.fbox cs)
 | some (.tre k es)=>some (.tre k es)
 | some (.loop R cs s)=>some (.loop R (DL r cs) s)
 | none=>none
def kZ:Nat→List Nat→Nat→Option Nat
 | _,[],_=>none
 | n,i::r,j=>if j=i then some n else kZ (n+1) r j
def iD (ids:List Nat) (j:Nat):Option Nat:=kZ 0 ids j
def NM:List Nat→Nat→Bool
 | [],_=>false
 | i::r,j=>if j=i then true else NM r j
def reach (st:Store):Nat→List Nat→List Nat→List Nat
 | 0,_,seen=>seen
 | _+1,[],seen=>seen
 | n+1,i::todo,seen=>if NM seen i=true then reach st n todo seen else reach st n (iL (st i)++todo) (seen++[i])
def LZ:Nat:=60
def rU (st:Store):List Nat→List Nat
 | []=>[]
 | i::r=>iL (st i)++rU st r
def upto:Nat→List Nat
 | 0=>[]
 | n+1=>upto n++[n]
def jL (st:Store) (na:Nat) (vs:List AV):List Nat:=reach st LZ (rU st (upto na)++bC vs) (upto na)
def lU (r:Nat→Option Nat) (st:Store):List Nat→StL
 | []=>[]
 | i::ids=>DN r (st i)::lU r st ids
structure Ctx where
 P:Program
 G:FuncId→List Nat
 ownArgs:FuncId→Bool
 keepRes:FuncId→Bool
 eqT:TypeId→Bool
 prim:FuncId→Option (List AV→StL→Option (AV×StL))
 tree:Bool:=false
abbrev dI:=FuncId→List AV→StL→Option (AV×StL)
def ev (env:Nat→AV):Operand→AV
 | .tmp t=>env t
 | .const v=>FM v
 | .global _=>.junk
 | .func f=>.fn (.func f) []
def evL (env:Nat→AV):List Operand→List AV
 | []=>[]
 | x::r=>ev env x::evL env r
def evO (env:Nat→AV):Option Operand→Option AV
 | some x=>some (ev env x)
 | none=>none
def TB:BinOp→IntKind→Int→Int→Option IV
 | .add,k,x,y=>some (.lit (.int k (k.wrap (x+y))))
 | .sub,k,x,y=>some (.lit (.int k (k.wrap (x-y))))
 | .mul,k,x,y=>some (.lit (.int k (k.wrap (x*y))))
 | .quo,k,x,y=>tst (y != 0) (some (.lit (.int k (k.wrap (x.tdiv y)))))
 | .rem,k,x,y=>tst (y != 0) (some (.lit (.int k (x.tmod y))))
 | .and,k,x,y=>some (.lit (.int k (k.wrap (BitVec.ofInt k.bits x &&& BitVec.ofInt k.bits y).toNat)))
 | .or,k,x,y=>some (.lit (.int k (k.wrap (BitVec.ofInt k.bits x ||| BitVec.ofInt k.bits y).toNat)))
 | .xor,k,x,y=>some (.lit (.int k (k.wrap (BitVec.ofInt k.bits x ^^^ BitVec.ofInt k.bits y).toNat)))
 | .andNot,k,x,y=>some (.lit (.int k (k.wrap (BitVec.ofInt k.bits x &&& ~~~BitVec.ofInt k.bits y).toNat)))
 | .eql,_,x,y=>some (.lit (.bool (x == y)))
 | .neq,_,x,y=>some (.lit (.bool (x != y)))
 | .lss,_,x,y=>some (.lit (.bool (x<y)))
 | .leq,_,x,y=>some (.lit (.bool (x≤y)))
 | .gtr,_,x,y=>some (.lit (.bool (x > y)))
 | .geq,_,x,y=>some (.lit (.bool (x ≥ y)))
 | _,_,_,_=>none
def shI:BinOp→IntKind→Int→Int→Option IV
 | .shl,k,x,y=>tst (decide (0≤y)) (some (.lit (.int k (k.wrap (x*2 ^ (min y.toNat k.bits))))))
 | .shr,k,x,y=>tst (decide (0≤y)) (some (.lit (.int k (x.fdiv (2 ^ (min y.toNat k.bits))))))
 | _,_,_,_=>none
def AKG:BinOp→ByteArray→ByteArray→Option IV
 | .add,x,y=>tst (decide (x.size+y.size≤9223372036854775807)) (some (.lit (.string (x++y))))
 | .eql,x,y=>some (.lit (.bool (x.toList == y.toList)))
 | .neq,x,y=>some (.lit (.bool !(x.toList == y.toList)))
 | .lss,x,y=>some (.lit (.bool (Op.bytesLess x.toList y.toList)))
 | .leq,x,y=>some (.lit (.bool (Op.bytesLess x.toList y.toList || x.toList == y.toList)))
 | .gtr,x,y=>some (.lit (.bool !(Op.bytesLess x.toList y.toList || x.toList == y.toList)))
 | .geq,x,y=>some (.lit (.bool !(Op.bytesLess x.toList y.toList)))
 | _,_,_=>none
def eQ:BinOp→Bool
 | .shl=>true
 | .shr=>true
 | _=>false
def AYP:BinOp→Option DK→Bool→Bool→Option IV
 | .eql,some .bool,a,b=>some (.lit (.bool (a == b)))
 | .neq,some .bool,a,b=>some (.lit (.bool (!(a == b))))
 | _,_,_,_=>none
def AYN:BinOp→Bool→Bool→Int→Bool→Int→Option IV
 | .eql,true,a,n,b,m=>some (.lit (.bool (a == b && n == m)))
 | .neq,true,a,n,b,m=>some (.lit (.bool (!(a == b && n == m))))
 | _,_,_,_,_,_=>none
def ATO (op:BinOp) (k k':IntKind) (a b:Int):Bool→Option IV
 | true=>shI op k a b
 | false=>tst (decide (k=k')) (TB op k a b)
def VI (P:Program) (t:TypeId):Bool:=match P.underlying t with
 | some (.pointer _)=>true
 | _=>false
def AS1:AV→Option Bool
 | .own _ _=>some false
 | .ownE _ _ _ _=>some false
 | .i (.iref _)=>some false
 | .i (.lit (.pointer p))=>some p.isNone
 | _=>none
def ANP:BinOp→Bool→Option IV
 | .eql,b=>some (.lit (.bool b))
 | .neq,b=>some (.lit (.bool !b))
 | _,_=>none
def ZH (C:Ctx) (op:BinOp) (t:TypeId):AV→AV→Option IV
 | .i (.lit (.int k a)), .i (.lit (.int k' b))=>ATO op k k' a b (eQ op)
 | .i (.lit (.string a)), .i (.lit (.string b))=>tst (!eQ op) (AKG op a b)
 | .i (.lit (.bool a)), .i (.lit (.bool b))=>AYP op (bJ C.P t) a b
 | .i (.agg [.lit (.bool a), .lit (.int .i64 n)]), .i (.agg [.lit (.bool b), .lit (.int .i64 m)])=>AYN op (C.eqT t) a n b m
 | a, .i (.lit (.pointer none))=>tst (VI C.P t) (bnd (AS1 a) fun b=>ANP op b)
 | _,_=>none
def AUD:AV→Option Bool
 | .i (.lit .nilIface)=>some true
 | .i (.lit (.iface _ _))=>some false
 | _=>none
def AMM (P:Program) (t:TypeId):Bool:=match P.underlying t with
 | some (.interface _)=>true
 | _=>false
def AF7 (C:Ctx) (op:BinOp) (t:TypeId) (a b:AV):Operand→Option IV
 | .const .nilIface=>tst (AMM C.P t) (bnd (AUD a) fun q=>ANP op q)
 | _=>ZH C op t a b
def unA:UnOp→AV→Option IV
 | .not, .i (.lit (.bool b))=>some (.lit (.bool !b))
 | .neg, .i (.lit (.int k n))=>some (.lit (.int k (k.wrap (0-n))))
 | _,_=>none
def nJ:AV→Nat→Option Nat
 | .i (.lit (.int _ i)),n=>tst (decide (0≤i∧i<n)) (some i.toNat)
 | _,_=>none
def kI:Option AV→Nat→Nat→Option Nat
 | none,dflt,_=>some dflt
 | some (.i (.lit (.int _ i))),_,n=>tst (decide (0≤i∧i≤n)) (some i.toNat)
 | some _,_,_=>none
def kV (k:Nat) (es:List (List IV)):Bool:=es.all fun e=>e.length == k
def tJ:List UInt8→List (List IV)
 | []=>[]
 | b::r=>[.lit (.int .u8 b.toNat)]::tJ r
def pQ (k k' off len:Nat):Option Blk→Option (List (List IV))
 | some (.arr k'' es)=>tst (decide (k'=k∧k''=k∧off+len≤es.length)) (some (window es off len))
 | some (.frz k'' es)=>tst (decide (k'=k∧k''=k∧off+len≤es.length)) (some (window es off len))
 | _=>none
def dK (st:Store) (k:Nat):AV→Option (List (List IV))
 | .nils=>some []
 | .i (.isl es)=>tst (kV k es) (some es)
 | .i (.lit (.string s))=>tst (k == 1) (some (tJ s.data.toList))
 | .osl id k' off len=>pQ k k' off len (st id)
 | _=>none
def IP (k by_:Nat) (news:List (List IV)) (st:Store) (nb:Nat):Bool→Option (AV×Store)
 | true=>some (.nils,st)
 | false=>tst (decide (news.length*by_≤140737488355328)) (some (.osl nb k 0 news.length,upd st nb (some (.arr k news))))
def vF (k by_ id k' off len:Nat) (news:List (List IV)) (st:Store) (nb:Nat):Option Blk→Option (AV×Store)
 | some (.arr k'' es)=>tst (decide (k'=k∧k''=k∧off=0∧len≤es.length∧(len+news.length)*by_≤140737488355328))
  (some (.osl nb k 0 (len+news.length),upd (upd st id none) nb (some (.arr k (es.take len++news)))))
 | _=>none
def WP (k by_:Nat) (news:List (List IV)) (st:Store) (nb:Nat):AV→Option (AV×Store)
 | .nils=>IP k by_ news st nb news.isEmpty
 | .osl id k' off len=>vF k by_ id k' off len news st nb (st id)
 | _=>none
def ATT (C:Ctx) (t:TypeId) (s x:AV) (st:Store) (nb:Nat):Option (AV×Store) :=
 bnd (IY (bJ C.P t)) fun e=>bnd (iF C.P e) fun k=>bnd (ZG C.P e) fun by_=>bnd (zeroOf C.P e) fun z =>
  tst (decide (0<k∧0<by_∧z.length=k)) (bnd (dK st k x) fun news=>WP k by_ news st nb s)
def over {α:Type} (es:List α) (off:Nat) (xs:List α):List α:=es.take off++xs++es.drop (off+xs.length)
def o7 (k id k' off len:Nat) (src:List (List IV)) (st:Store):Option Blk→Option (AV×Store)
 | some (.arr k'' es)=>tst (decide (k'=k∧k''=k∧off+len≤es.length))
  (some (.int (min src.length len:Nat),upd st id (some (.arr k (over es off (src.take len))))))
 | _=>none
def MI (k:Nat) (src:List (List IV)) (st:Store):AV→Option (AV×Store)
 | .nils=>some (.int 0,st)
 | .osl id k' off len=>o7 k id k' off len src st (st id)
 | _=>none
def Z7 (C:Ctx) (t:TypeId) (d x:AV) (st:Store):Option (AV×Store) :=
 bnd (IY (bJ C.P t)) fun e=>bnd (iF C.P e) fun k =>
  tst (decide (0<k)) (bnd (dK st k x) fun src=>MI k src st d)
def APE:Option DK→AV→Option Nat
 | some (.slice _), .nils=>some 0
 | some (.slice _), .i (.isl es)=>some es.length
 | some (.slice _), .osl _ _ _ len=>some len
 | some (.slice _), .i (.lit (.slice _ len _))=>some len
 | some .string, .i (.lit (.string s))=>some s.size
 | _,_=>none
def uH:Builtin→List AV→Option AV
 | .min,[.i (.lit (.int k x)), .i (.lit (.int _ y))]=>some (.i (.lit (.int k (if y<x then y else x))))
 | .max,[.i (.lit (.int k x)), .i (.lit (.int _ y))]=>some (.i (.lit (.int k (if y > x then y else x))))
 | _,_=>none
def AI4:Option DK→Bool
 | some .string=>true
 | _=>false
def H5 (C:Ctx) (t:TypeId) (lo hi:Option AV):AV→Option AV
 | .i (.lit (.string s))=>tst (AI4 (bJ C.P t)) (bnd (kI hi s.size s.size) fun h=>bnd (kI lo 0 h) fun l=>some (.i (.lit (.string (s.extract l h)))))
 | .i (.isl es)=>bnd (IY (bJ C.P t)) fun e=>bnd (iF C.P e) fun k=>tst (kV k es)
  (bnd (kI hi es.length es.length) fun h=>bnd (kI lo 0 h) fun l=>some (.i (.isl (window es l (h-l)))))
 | .osl id k off len=>bnd (IY (bJ C.P t)) fun e=>bnd (iF C.P e) fun k'=>tst (decide (k'=k))
  (bnd (kI hi len len) fun h=>bnd (kI lo 0 h) fun l=>some (.osl id k (off+l) (h-l)))
 | .nils=>bnd (IY (bJ C.P t)) fun e=>bnd (iF C.P e) fun _=>bnd (kI hi 0 0) fun h=>bnd (kI lo 0 h) fun _=>some .nils
 | _=>none
def R8 {α:Type} (place:Nat→Option (Nat×Nat)):List α→List (Nat×List α)→Option (List α)
 | cells,[]=>some cells
 | cells,p::r=>bnd (place p.1) fun q=>tst (decide (p.2.length=q.2)) (bnd (splice cells q.1 p.2) fun l=>R8 place l r)
def partsOf (env:Nat→AV):List (Nat×Operand)→Option (List (Nat×List AV))
 | []=>some []
 | p::r=>bnd (cellsOf (ev env p.2)) fun cs=>bnd (partsOf env r) fun l=>some ((p.1,cs)::l)
def UT (P:Program) (t:TypeId) (i:Nat):Option DK→Option (Nat×Nat)
 | some .strct=>bnd (dM P t i) fun f=>bnd (iF P f.1) fun n=>some (f.2,n)
 | some (.array _ e)=>bnd (iF P e) fun n=>some (i*n,n)
 | _=>none
def KP (P:Program) (t:TypeId) (i:Nat):Option (Nat×Nat):=UT P t i (bJ P t)
def rJ {α:Type}:List α→Nat→α→Option (List α)
 | [],_,_=>none
 | _::r,0,x=>some (x::r)
 | a::r,n+1,x=>bnd (rJ r n x) fun l=>some (a::l)
def oO (k:Nat):List (List IV)→List (Nat×List IV)→Option (List (List IV))
 | es,[]=>some es
 | es,p::r=>tst (p.2.length == k) (bnd (rJ es p.1 p.2) fun l=>oO k l r)
def eZ (st:Store):List (Nat×List AV)→Option (List (Nat×List IV)×Store)
 | []=>some ([],st)
 | p::r=>bnd (oH st p.2) fun q=>bnd (eZ q.2 r) fun s=>some ((p.1,q.1)::s.1,s.2)
def AEB:AV→Option (List IV)→Option (List IV)
 | .i v,some l=>some (v::l)
 | .nils,some l=>some (.isl []::l)
 | _,_=>none
def PU:List AV→Option (List IV)
 | []=>some []
 | c::r=>AEB c (PU r)
def ARG {α:Type}:Nat→α→List α
 | 0,_=>[]
 | n+1,x=>x::ARG n x
def NK (g:Bool) (n off:Nat):Option Blk→Option AV
 | some (.box cs)=>bnd (cut cs off n) fun l=>rR g l
 | some (.fbox cs)=>bnd (cut cs off n) fun l=>iW g l
 | _=>none
def NJ (g:Bool) (n k ix off:Nat):Option Blk→Option AV
 | some (.arr k' es)=>tst (decide (k'=k)) (bnd (fT es ix) fun e=>bnd (cut e off n) fun l=>iW g l)
 | some (.frz k' es)=>tst (decide (k'=k)) (bnd (fT es ix) fun e=>bnd (cut e off n) fun l=>iW g l)
 | _=>none
def loadAt (g:Bool) (n:Nat) (st:Store):AV→Option AV
 | .own id off=>NK g n off (st id)
 | .ownE id k ix off=>NJ g n k ix off (st id)
 | .i (.iref cs)=>bnd (cut cs 0 n) fun l=>iW g l
 | _=>none
def L9 (C:Ctx) (t:TypeId) (a:AV) (st:Store):Option AV :=
 bnd (iF C.P t) fun n=>bnd (EP (bJ C.P t)) fun g=>loadAt g n st a
def sW (id off:Nat) (xs:List AV) (st:Store):Option Blk→Option Store
 | some (.box cs)=>bnd (splice cs off xs) fun l=>some (upd st id (some (.box l)))
 | _=>none
def pX (id k ix off:Nat) (l:List IV) (st:Store):Option Blk→Option Store
 | some (.arr k' es)=>tst (decide (k'=k)) (bnd (fT es ix) fun e=>bnd (splice e off l) fun e'=>some (upd st id (some (.arr k (es.set ix e')))))
 | _=>none
def storeAt (xs:List AV) (st:Store):AV→Option Store
 | .own id off=>sW id off xs st (st id)
 | .ownE id k ix off=>bnd (oH st xs) fun p=>pX id k ix off p.1 p.2 (p.2 id)
 | _=>none
def jM:IV→Bool
 | .lit _=>true
 | .isl []=>true
 | .isl (_::_)=>false
 | .agg _=>false
 | .iref _=>false
def mJ:List IV→Bool
 | []=>true
 | c::r=>jM c && mJ r
def fM:List (List IV)→Bool
 | []=>true
 | e::r=>mJ e && fM r
def AI0:IV→Bool
 | .lit _=>true
 | .isl _=>false
 | .agg _=>false
 | .iref _=>false
def DY:List IV→Bool
 | []=>true
 | c::r=>AI0 c && DY r
def KJ:IV→Bool
 | .iref _=>false
 | _=>true
def jI:List IV→Bool
 | []=>true
 | c::r=>KJ c && jI r
def kG:List (List IV)→Bool
 | []=>true
 | e::r=>jI e && kG r
def XH (c:IV):IV:=if jM c=true then c else .iref [c]
def mM:List IV→List IV
 | []=>[]
 | c::r=>XH c::mM r
def gD:List (List IV)→List (List IV)
 | []=>[]
 | e::r=>mM e::gD r
def A7 (k off len:Nat):Option Blk→Option (List (List IV))
 | some (.arr k' es)=>tst (decide (k'=k∧off=0∧len=es.length)) (tst (fM es) (some es))
 | some (.tre k' es)=>tst (decide (k'=k∧off=0∧len=es.length)) (tst (kG es) (some es))
 | _=>none
def ER (st:Store):AV→Option (IV×Store)
 | .i v=>tst (jM v) (some (v,st))
 | .nils=>some (.isl [],st)
 | .osl id k off len=>bnd (A7 k off len (st id)) fun es=>some (.isl es,upd st id none)
 | _=>none
def tV (st:Store):List AV→Option (List IV×Store)
 | []=>some ([],st)
 | c::r=>bnd (ER st c) fun p=>bnd (tV p.2 r) fun q=>some (p.1::q.1,q.2)
def slC:AV→Bool
 | .nils=>true
 | .osl _ _ _ _=>true
 | _=>false
def slL:List AV→Bool
 | []=>false
 | c::r=>slC c || slL r
def ABV:List (Nat×List AV)→Bool
 | []=>false
 | p::r=>slL p.2 || ABV r
def AUH (C:Ctx) (e:TypeId) (n:Nat) (st:Store) (nb:Nat):List (Nat×List AV)→Option (AV×Store)
 | [(0,cs)]=>bnd (iF C.P e) fun k=>bnd (zeroOf C.P e) fun z=>tst (decide (n=1∧0<k∧k≤16777216∧cs.length=k∧z.length=k)) (bnd (tV st cs) fun q=>some (.osl nb k 0 1,upd q.2 nb (some (.tre k [q.1]))))
 | _=>none
def ADI:Option Blk→Bool
 | some (.tre _ _)=>true
 | _=>false
def AOF (st:Store):AV→Bool
 | .osl id _ _ _=>ADI (st id)
 | _=>false
def kQ (k by_:Nat) (news:List (List IV)) (st:Store) (nb:Nat):AV→Option (AV×Store)
 | .nils=>tst (decide (0<news.length∧news.length*by_≤140737488355328)) (some (.osl nb k 0 news.length,upd st nb (some (.tre k news))))
 | .osl id k' off len=>bnd (A7 k off len (st id)) fun es=>tst (decide (k'=k∧0<len∧(len+news.length)*by_≤140737488355328)) (some (.osl nb k 0 (len+news.length),upd (upd st id none) nb (some (.tre k (es++news)))))
 | _=>none
def WQ (C:Ctx) (t:TypeId) (s:AV) (st:Store) (nb:Nat):AV→Option (AV×Store)
 | .osl id k' off n=>bnd (IY (bJ C.P t)) fun e=>bnd (iF C.P e) fun k=>bnd (ZG C.P e) fun by_=>bnd (zeroOf C.P e) fun z =>
  tst (decide (0<k∧0<by_∧z.length=k∧k'=k∧0<n)) (bnd (A7 k off n (st id)) fun news=>kQ k by_ news (upd st id none) nb s)
 | _=>none
def IQ (C:Ctx) (t:TypeId) (s x:AV) (st:Store) (nb:Nat):Option (AV×Store) :=
 if(C.tree && (AOF st s || AOF st x))=true then WQ C t s st nb x else ATT C t s x st nb
def wO (id k:Nat) (es:List (List IV)) (l:List IV) (es' es'':List (List IV)) (st:Store):Option Store :=
 if DY l=true then some (upd st id (some (.arr k es')))else if fM es=true then some (upd st id (some (.tre k es')))else some (upd st id (some (.tre k es'')))
def dQ (id k ix off:Nat) (l:List IV) (st:Store):Option Blk→Option Store
 | some (.arr k' es)=>tst (decide (k'=k)) (bnd (fT es ix) fun e=>bnd (splice e off l) fun e'=>bnd (splice (mM e) off l) fun e''=>wO id k es l (es.set ix e') ((gD es).set ix e'') st)
 | some (.tre k' es)=>tst (decide (k'=k)) (bnd (fT es ix) fun e=>bnd (splice e off l) fun e'=>some (upd st id (some (.tre k (es.set ix e')))))
 | _=>none
def JY (id off:Nat) (xs:List AV) (st:Store):Option Blk→Option Store
 | some (.tre k _)=>bnd (tV st xs) fun p=>dQ id k 0 off p.1 p.2 (p.2 id)
 | some (.box cs)=>sW id off xs st (some (.box cs))
 | _=>none
def storeT (xs:List AV) (st:Store):AV→Option Store
 | .own id off=>JY id off xs st (st id)
 | .ownE id k ix off=>bnd (tV st xs) fun p=>dQ id k ix off p.1 p.2 (p.2 id)
 | _=>none
def D7 (xs:List AV) (st:Store) (a:AV):Bool→Option Store
 | false=>storeAt xs st a
 | true=>storeT xs st a
def GY (C:Ctx) (t:TypeId) (a x:AV) (st:Store):Option Store :=
 bnd (iF C.P t) fun n=>bnd (cellsOf x) fun xs=>tst (decide (xs.length=n)) (D7 xs st a C.tree)
def jC (st:Store):AV→Option (AV×Store)
 | .fn f cs=>some (.fn f cs,st)
 | .i v=>some (.i v,st)
 | v=>bnd (rV st v) fun p=>some (.i p.1,p.2)
def gL (st:Store):List AV→Option (List AV×Store)
 | []=>some ([],st)
 | v::r=>bnd (jC st v) fun p=>bnd (gL p.2 r) fun q=>some (p.1::q.1,q.2)
def uY (st:Store) (args:List AV):Bool→Option (List AV×Store)
 | true=>some (args,st)
 | false=>gL st args
def kF (r:Nat→Option Nat) (st:Store) (nb:Nat):List Nat→StL→Store
 | _,[]=>st
 | i::ids,b::bs=>upd (kF r st nb ids bs) i (DN r b)
 | [],b::bs=>upd (kF r st (nb+1) [] bs) nb (DN r b)
def pF:List Nat→Nat→Nat→Option Nat
 | [],nb,j=>some (nb+j)
 | i::_,_,0=>some i
 | _::ids,nb,j+1=>pF ids nb j
def wide:Nat:=8
def wD (ids:List Nat) (st:Store) (nb:Nat) (r:AV) (stl:StL):Option (AV×Store) :=
 tst (decide (ids.length≤stl.length∧stl.length≤ids.length+wide)) (some (ren (pF ids nb) r,kF (pF ids nb) st nb ids stl))
def AME:Option Blk→Bool
 | some _=>true
 | none=>false
def rT (st:Store):List Nat→Bool
 | []=>true
 | i::r=>AME (st i) && rT st r
def lS (call:dI) (g:FuncId) (args:List AV) (st:Store) (nb:Nat) (ids:List Nat):Option (AV×Store) :=
 tst (rT st ids) (bnd (call g (DL (iD ids) args) (lU (iD ids) st ids)) fun p=>wD ids st nb p.1 p.2)
def gT (call:dI) (own:Bool) (g:FuncId) (args:List AV) (st:Store) (nb:Nat):Option (AV×Store) :=
 bnd (uY st args own) fun p=>lS call g p.1 p.2 nb (reach p.2 LZ (bC p.1) [])
def wV:Option DK→Bool
 | some (.slice _)=>true
 | some .string=>true
 | _=>false
def jB (C:Ctx) (st:Store) (nb:Nat):Builtin→List TypeId→List AV→Option (AV×Store)
 | .len,[t],[x]=>bnd (APE (bJ C.P t) x) fun n=>some (.int n,st)
 | .append,[t,u],[s,x]=>tst (wV (bJ C.P u)) (IQ C t s x st nb)
 | .copy,[t,_],[d,x]=>Z7 C t d x st
 | .min,_,args=>bnd (uH .min args) fun v=>some (v,st)
 | .max,_,args=>bnd (uH .max args) fun v=>some (v,st)
 | _,_,_=>none
def ZA:Option DK→Option DK→AV→Option AV
 | some _,some (.int k), .i (.lit (.int _ n))=>some (.i (.lit (.int k (k.wrap n))))
 | some .string,some .string, .i (.lit (.string s))=>some (.i (.lit (.string s)))
 | _,_,_=>none
def bytesOf:List (List IV)→Option (List Int)
 | []=>some []
 | [.lit (.int .u8 n)]::r=>bnd (bytesOf r) fun l=>some (n::l)
 | _=>none
def strOf (ns:List Int):ByteArray:=⟨(ns.map fun n=>UInt8.ofNat n.toNat).toArray⟩
def AbP:Option DK→Bool
 | some (.int .u8)=>true
 | _=>false
def slV:AV→Bool
 | .nils=>true
 | .osl _ _ _ _=>true
 | .i (.isl _)=>true
 | _=>false
def ABJ (P:Program) (st:Store) (e:TypeId) (x:AV):Option DK→Option AV
 | some .string=>tst (AbP (bJ P e) && slV x) (bnd (dK st 1 x) fun es=>bnd (bytesOf es) fun ns=>some (.i (.lit (.string (strOf ns)))))
 | _=>none
def NN (P:Program) (st:Store) (d:Option DK) (x:AV):Option DK→Option AV
 | some (.slice e)=>ABJ P st e x d
 | s=>ZA s d x
def AH2 (a b:AV):AV→Option AV
 | .i (.lit (.bool t))=>some (if t=true then a else b)
 | _=>none
def AM3:AV→Option AV
 | .own id off=>some (.own id off)
 | .ownE id k ix off=>some (.ownE id k ix off)
 | .i (.iref cs)=>some (.i (.iref cs))
 | .i (.lit (.pointer (some a)))=>some (.i (.lit (.pointer (some a))))
 | .fn (.func g) cs=>some (.fn (.func g) cs)
 | _=>none
def Y8 (C:Ctx) (t:TypeId) (st:Store) (nb:Nat):AV→AV→Option (AV×Store)
 | .i (.lit (.int .i64 l)), .i (.lit (.int .i64 c)) =>
  bnd (IY (bJ C.P t)) fun e=>bnd (iF C.P e) fun k=>bnd (ZG C.P e) fun by_=>bnd (zeroOf C.P e) fun z=>bnd (PU (eP z)) fun zi =>
   tst (decide (0<k∧0<by_∧0≤l∧l≤c∧(by_:Int)*c≤281474976710656∧zi.length=k))
    (some (.osl nb k 0 l.toNat,upd st nb (some (.arr k (List.replicate l.toNat zi)))))
 | _,_=>none
def jT (fo:Nat):AV→Option AV
 | .own id off=>some (.own id (off+fo))
 | .ownE id k ix off=>some (.ownE id k ix (off+fo))
 | .i (.iref cs)=>tst (decide (fo≤cs.length)) (some (.i (.iref (dropE fo cs))))
 | .i (.lit (.pointer (some ⟨b,off,none⟩)))=>some (.i (.lit (.pointer (some ⟨b,off+fo,none⟩))))
 | _=>none
def P8 (fo n:Nat) (g:Bool):AV→Option AV
 | .agg cs=>bnd (cut cs fo n) fun l=>rR g l
 | .i (.agg cs)=>bnd (cut cs fo n) fun l=>iW g l
 | _=>none
def LH (k:Nat) (ix:AV):AV→Option AV
 | .i (.isl es)=>bnd (nJ ix es.length) fun j=>bnd (fT es j) fun cs=>tst (cs.length == k) (some (.i (.iref cs)))
 | .osl id k' off len=>bnd (nJ ix len) fun j=>tst (k' == k) (some (.ownE id k (off+j) 0))
 | .i (.lit (.slice (some ⟨b,off,none⟩) len _))=>bnd (nJ ix len) fun j=>some (.i (.lit (.pointer (some ⟨b,off+j*k,none⟩))))
 | _=>none
def YH (k n:Nat) (ix:AV):AV→Option AV
 | .own id off=>bnd (nJ ix n) fun j=>some (.own id (off+j*k))
 | _=>none
def nO (C:Ctx) (x ix:AV):Option DK→Option AV
 | some (.slice e)=>bnd (iF C.P e) fun k=>LH k ix x
 | some (.array n e)=>bnd (iF C.P e) fun k=>YH k n ix x
 | _=>none
def OV (C:Ctx) (ix:AV):Option DK→AV→Option AV
 | some .string, .i (.lit (.string s))=>bnd (nJ ix s.size) fun j=>bnd (fT s.data.toList j) fun b=>some (.i (.lit (.int .u8 b.toNat)))
 | some (.array n e), .i (.agg cs)=>bnd (iF C.P e) fun k=>bnd (EP (bJ C.P e)) fun g=>bnd (nJ ix n) fun j=>bnd (cut cs (j*k) k) fun l=>iW g l
 | _,_=>none
def EC (j:Nat):AV→Option AV
 | .tup vs=>vs[j]?
 | _=>none
def vM (C:Ctx) (e:TypeId) (n:Nat) (st:Store) (nb:Nat) (ps:List (Nat×List AV)):Option (AV×Store) :=
 bnd (iF C.P e) fun k=>bnd (zeroOf C.P e) fun z=>bnd (PU (eP z)) fun zi =>
  tst (decide (0<k∧n*k≤16777216∧zi.length=k)) (bnd (eZ st ps) fun q=>bnd (oO k (ARG n zi) q.1) fun es =>
   some (.osl nb k 0 n,upd q.2 nb (some (.arr k es))))
def rG (C:Ctx) (e:TypeId) (n:Nat) (st:Store) (nb:Nat) (ps:List (Nat×List AV)):Option (AV×Store) :=
 if(C.tree && ABV ps)=true then AUH C e n st nb ps else vM C e n st nb ps
def AM6 (cs:List AV):Fn→Option AV
 | .func g=>some (.fn (.func g) cs)
 | _=>none
def eY (C:Ctx) (env:Nat→AV) (st:Store) (nb:Nat):Op→Option (AV×Store)
 | .move x=>some (ev env x,st)
 | .assign x=>some (ev env x,st)
 | .pick c a b=>bnd (AH2 (ev env a) (ev env b) (ev env c)) fun v=>some (v,st)
 | .alloc t=>bnd (zeroOf C.P t) fun z=>some (.own nb 0,upd st nb (some (.box (eP z))))
 | .box _ x=>bnd (cellsOf (ev env x)) fun cs=>some (.own nb 0,upd st nb (some (.box cs)))
 | .build t parts=>bnd (EP (bJ C.P t)) fun g=>tst g (bnd (zeroOf C.P t) fun z=>bnd (partsOf env parts.toList) fun ps=>bnd (R8 (KP C.P t) (eP z) ps) fun cs=>some (V6 cs,st))
 | .buildSlice t n parts=>bnd (IY (bJ C.P t)) fun e=>bnd (partsOf env parts.toList) fun ps=>rG C e n st nb ps
 | .load t a=>bnd (L9 C t (ev env a) st) fun v=>some (v,st)
 | .store t a x=>bnd (GY C t (ev env a) (ev env x) st) fun st1=>some (.i (.lit undef),st1)
 | .nilCheck x=>bnd (AM3 (ev env x)) fun v=>some (v,st)
 | .binOp op t x y _=>bnd (AF7 C op t (ev env x) (ev env y) y) fun v=>some (.i v,st)
 | .unOp op _ x=>bnd (unA op (ev env x)) fun v=>some (.i v,st)
 | .convert s d x=>bnd (NN C.P st (bJ C.P d) (ev env x) (bJ C.P s)) fun v=>some (v,st)
 | .makeSlice t l c=>Y8 C t st nb (ev env l) (ev env c)
 | .slice t x lo hi none=>bnd (H5 C t (evO env lo) (evO env hi) (ev env x)) fun v=>some (v,st)
 | .fieldAddr s x f=>bnd (dM C.P s f) fun p=>bnd (iF C.P p.1) fun n=>tst (decide (0<n)) (bnd (jT p.2 (ev env x)) fun v=>some (v,st))
 | .field s x f=>bnd (dM C.P s f) fun p=>bnd (iF C.P p.1) fun n=>bnd (EP (bJ C.P p.1)) fun g=>bnd (P8 p.2 n g (ev env x)) fun v=>some (v,st)
 | .indexAddr t x ix=>bnd (nO C (ev env x) (ev env ix) (bJ C.P t)) fun v=>some (v,st)
 | .index t x ix=>bnd (OV C (ev env ix) (bJ C.P t) (ev env x)) fun v=>some (v,st)
 | .extract x j=>bnd (EC j (ev env x)) fun v=>some (v,st)
 | .makeFunc f first captured=>tst first.toList.isEmpty (bnd (AM6 (evL env captured.toList) f) fun v=>some (v,st))
 | .call ⟨.builtin b,args,ts⟩=>jB C st nb b ts.toList (evL env args.toList)
 | _=>none
def wY:Op→Option (Operand×List Operand)
 | .call ⟨.value f,args,_⟩=>some (f,args.toList)
 | _=>none
def oG:FuncId:=1000000007
def NC (C:Ctx) (call:dI) (args:List AV) (st:Store) (nb:Nat):AV→Option (AV×Store)
 | .fn (.func g) caps=>if g=oG then none else gT call (C.ownArgs g) g (args++caps) st nb
 | .fn (.yield 0) [.own id 0]=>gT call true oG (.fn (.yield 0) [.own id 0]::args) st nb
 | _=>none
def stepW (C:Ctx) (call:dI) (op:Op) (env:Nat→AV) (st:Store) (nb:Nat):Option (Operand×List Operand)→Option (AV×Store)
 | some p=>NC C call (evL env p.2) st nb (ev env p.1)
 | none=>eY C env st nb op
def dB (C:Ctx) (call:dI) (op:Op) (env:Nat→AV) (st:Store) (nb:Nat):Option (AV×Store):=stepW C call op env st nb (wY op)
structure RS where
 env:Nat→AV
 st:Store
 log:List (Nat×List Nat×Bool)
def ZQ (want:Bool):AV→Option Bool
 | .i (.lit (.bool b))=>some (b == want)
 | .i (.lit (.tuple _))=>some false
 | _=>none
def TR (env:Nat→AV) (want:Bool):Option Nat→Option Bool
 | none=>some false
 | some d=>ZQ want (env d)
def CK (ops:List Oper) (env:Nat→AV):Option (Nat×Bool)→Option Bool
 | none=>some true
 | some p=>TR env p.2 ((ops[p.1]?).bind (·.dst))
def gJ:List (Nat×Operand)→List Operand
 | []=>[]
 | p::r=>p.2::gJ r
def bI (env:Nat→AV):Op→List Nat×Bool
 | .load _ a=>(dE (ev env a),true)
 | .convert _ _ x=>(dE (ev env x),true)
 | .store _ a x=>(dE (ev env a)++dE (ev env x),false)
 | .buildSlice _ _ parts=>(bC (evL env (gJ parts.toList)),false)
 | .call ⟨.builtin .append,args,_⟩=>(bC (evL env args.toList),false)
 | .call ⟨.builtin .copy,args,_⟩=>(bC (evL env args.toList),false)
 | .call ⟨.value f,args,_⟩=>(dE (ev env f)++bC (evL env args.toList),false)
 | _=>([],true)
def CL (after:List Edge) (j:Nat):Bool:=after.any fun e=>Region.binds .any e && e.on == j
def wE (all:List Oper) (k:Nat):List Edge:=match all[k]? with|some o=>o.after.toList|none=>[]
def fV (all:List Oper):Nat→List Edge→Nat→Bool
 | 0,after,j=>CL after j
 | n+1,after,j=>if CL after j=true then true else after.any fun e=>Region.binds .any e && fV all n (wE all e.on) j
def I1:List Nat→List Nat→Bool
 | [],_=>true
 | x::xs,ys=>!NM ys x && I1 xs ys
def ADE (all:List Oper) (after:List Edge) (ns:List Nat) (ro:Bool):List (Nat×List Nat×Bool)→Bool
 | []=>true
 | e::r=>(if(I1 ns e.2.1 || (ro && e.2.2))=true then true else fV all 3 after e.1) && ADE all after ns ro r
def MV (i:Nat) (ro:Bool) (log:List (Nat×List Nat×Bool)):List Nat→List (Nat×List Nat×Bool)
 | []=>log
 | n::ns=>(i,n::ns,ro)::log
def BV (env:Nat→AV):Option Tmp→AV→Nat→AV
 | some d,v=>upd env d v
 | none,_=>env
def allIn:List Nat→List Nat→Bool
 | [],_=>true
 | x::xs,ys=>NM ys x && allIn xs ys
def Y4 (base:Nat) (all:List Oper) (after:List Edge):List Nat→Bool
 | []=>true
 | n::ns=>(if n<base then true else fV all 3 after ((n-base) / wide)) && Y4 base all after ns
def AYI (base:Nat) (all:List Oper) (o:Oper) (st:Store) (is ns:List Nat) (ro:Bool) (log:List (Nat×List Nat×Bool)):Bool :=
 allIn is ns && ((if ro=true then true else allIn (rU st ns) ns) && (Y4 base all o.after.toList ns && ADE all o.after.toList ns ro log))
def GV (st:Store) (p:List Nat×Bool):List Nat×Bool:=if p.2=true then p else(reach st LZ p.1 [],p.2)
def AdP (draw:Bool) (base:Nat) (all:List Oper) (o:Oper) (R:RS):Bool :=
 if draw=true then AYI base all o R.st (bI R.env o.op).1 (GV R.st (bI R.env o.op)).1 (bI R.env o.op).2 R.log else true
def V3 (draw:Bool) (o:Oper) (i:Nat) (R:RS):List (Nat×List Nat×Bool) :=
 if draw=true then MV i (bI R.env o.op).2 R.log (GV R.st (bI R.env o.op)).1 else []
def dC (C:Ctx) (call:dI) (all:List Oper) (draw:Bool) (base:Nat):List Oper→Nat→RS→Option RS
 | [],_,R=>some R
 | o::os,i,R=>bnd (CK all R.env o.guard) fun b =>
  if b=true then
   tst (AdP draw base all o R) (bnd (dB C call o.op R.env R.st (base+wide*i)) fun p =>
    dC C call all draw base os (i+1) { env:=BV R.env o.dst p.1,st:=p.2,log:=V3 draw o i R })
  else dC C call all draw base os (i+1) { R with env:=BV R.env o.dst (.i (.lit undef)) }
structure AS where
 env:List (Nat×AV)
 st:StL
def mR (r:Nat→Option Nat) (env:Nat→AV):List Nat→List (Nat×AV)
 | []=>[]
 | t::G=>(t,ren r (env t))::mR r env G
def EE (env:Nat→AV):List Nat→List AV
 | []=>[]
 | t::G=>env t::EE env G
def AL (G:List Nat) (env:Nat→AV) (st:Store) (ids:List Nat):AS :=
 { env:=mR (iD ids) env G,st:=lU (iD ids) st ids }
def settle (G:List Nat) (na:Nat) (env:Nat→AV) (st:Store):AS:=AL G env st (jL st na (EE env G))
abbrev XR:=Option (AExit×AS)
def AD0:XR→(AS→XR)→XR
 | some (.normal,S),f=>f S
 | some (.exit i,S),_=>some (.exit i,S)
 | some (.ret,S),_=>some (.ret,S)
 | none,_=>none
@[congr] theorem AU7 {x y:XR} {f:AS→XR} (h:x=y):AD0 x f=AD0 y f:=by rw[h]
def MP (id:Nat):XR→XR
 | some (.normal,S)=>some (.normal,S)
 | some (.exit i,S)=>if i=id then some (.normal,S)else some (.exit i,S)
 | some (.ret,S)=>some (.ret,S)
 | none=>none
def ZC:AV→XR→XR→XR
 | .i (.lit (.bool t)),a,b=>if t=true then a else b
 | _,_,_=>none
theorem lQ {v:AV} {a b:XR} {r:AExit×AS}:ZC v a b=some r↔∃ t:Bool,v=.i (.lit (.bool t))∧(if t=true then a else b)=some r:=by
 unfold ZC;constructor
 ·intro h;split at h
  ·rename_i t;exact⟨t,rfl,h⟩
  ·cases h
 ·rintro⟨t,rfl,h⟩;exact h
@[congr] theorem ATC {x y:AV} {a b:XR} (h:x=y):ZC x a b=ZC y a b:=by rw[h]
def AIU (G:List Nat) (na:Nat):Option RS→XR
 | some R=>some (.normal,settle G na R.env R.st)
 | none=>none
def OE:List AV→AV
 | [v]=>v
 | vs=>.tup vs
def AH4 (ws:List AV) (st:Store) (ids:List Nat):Option (AV×StL):=some (OE (DL (iD ids) ws),lU (iD ids) st ids)
def bK:Code→Bool
 | .seq a b=>bK a && bK b
 | .cond _ a b=>bK a && bK b
 | .block _ b=>bK b
 | .loop b=>bK b
 | .rangeFunc _ _ _ _=>false
 | _=>true
def AQH:Operand→List Nat
 | .tmp t=>[t]
 | _=>[]
def AFV:List Operand→List Nat
 | []=>[]
 | x::r=>AQH x++AFV r
def Q3:Code→List Nat
 | .region _ ops _=>ops.toList.flatMap fun o=>AFV o.op.operands.toList
 | .seq a b=>Q3 a++Q3 b
 | .cond x a b=>AQH x++(Q3 a++Q3 b)
 | .block _ b=>Q3 b
 | .loop b=>Q3 b
 | _=>[]
def AP0 (G:List Nat) (a b:Code):List Nat:=G.filter fun t=>NM (Q3 a++Q3 b) t
def X9:List Nat→List AV→List (Nat×AV)
 | t::ts,v::vs=>(t,v)::X9 ts vs
 | _,_=>[]
def NQ:List Nat→List AV→List (Nat×AV)→List (Nat×AV)
 | p::ps,a::as1,E=>NQ ps as1 ((p,a)::E)
 | _,_,E=>E
def setSt:StL→Nat→Option Blk→StL
 | [],_,_=>[]
 | _::r,0,x=>x::r
 | b::r,n+1,x=>b::setSt r n x
def DR (G:List Nat) (na:Nat) (env:Nat→AV) (L:Nat) (st:Store):Option Blk→XR
 | some (.loop _ _ .ready)=>some (.normal,settle G na env (upd st L none))
 | some (.loop _ _ (.over e))=>some (e,settle G na env (upd st L none))
 | _=>none
def vP (G:List Nat) (na:Nat) (env:Nat→AV) (L:Nat):Option (AV×Store)→XR
 | some p=>DR G na env L p.2 (p.2 L)
 | none=>none
def UN (call:dI) (G:List Nat) (na:Nat) (ps:List Nat) (a b:Code) (env:Nat→AV) (st:Store) (L:Nat) (rs:List Nat):AV→XR
 | .fn (.func it) caps=>if it=oG then none else
  vP G na env L (gT call true it (.fn (.yield 0) [.own L 0]::caps) (upd st L (some (.loop ⟨G,rs,ps,a,b⟩ (EE env rs) .ready))) (L+1))
 | _=>none
def pK (call:dI) (G:List Nat) (na:Nat) (g:Operand) (ps:List Nat) (a b:Code) (S:AS):XR :=
 if(bK a && bK b)=true then UN call G na ps a b (aJ S.env) (aR S.st) S.st.length (AP0 G a b) (ev (aJ S.env) g)else none
def AJB (ex:Code→AS→XR) (id:Nat) (S:AS) (b:Code):Option Blk→XR
 | some (.loop R cs .ready)=>ex b ⟨S.env,setSt S.st id (some (.loop R cs .busy))⟩
 | _=>none
def Q6:AExit→LSt
 | .normal=>.ready
 | e=>.over e
def LX:AExit→Bool
 | .normal=>true
 | _=>false
def AAA (na:Nat) (e:AExit) (id:Nat) (S:AS):Option Blk→Option (AV×StL)
 | some (.loop R cs .busy)=>AH4 [.bool (LX e)] (aR (setSt S.st id (some (.loop R cs (Q6 e))))) (jL (aR (setSt S.st id (some (.loop R cs (Q6 e))))) na [.bool (LX e)])
 | _=>none
def oQ (na id:Nat):XR→Option (AV×StL)
 | some (e,S)=>AAA na e id S (aR S.st id)
 | none=>none
def ABU:XR→(AS→XR)→XR
 | some (.normal,S),f=>f S
 | _,_=>none
@[congr] theorem AUW {x y:XR} {f:AS→XR} (h:x=y):ABU x f=ABU y f:=by rw[h]
def UK (ex:List Nat→Nat→Code→AS→XR) (id:Nat) (args:List AV) (st:StL):Option Blk→Option (AV×StL)
 | some (.loop R cs .ready)=>tst (decide (args.length=R.ps.length))
  (oQ st.length id (ABU (ex R.G st.length R.asg ⟨NQ R.ps args (X9 R.ts cs),st⟩) fun S=>AJB (ex R.G st.length) id S R.body (aR S.st id)))
 | _=>none
def DJ (ex:List Nat→Nat→Code→AS→XR) (st:StL):List AV→Option (AV×StL)
 | .fn (.yield 0) [.own id 0]::args=>tst (decide (id<st.length)) (UK ex id args st (aR st id))
 | _=>none
def exec (C:Ctx) (call:dI) (G:List Nat) (na:Nat):Nat→Code→AS→XR
 | 0,_,_=>none
 | n+1,c,S =>
  match c with
  | .skip=>some (.normal,S)
  | .region _ ops draw=>AIU G na (dC C call ops.toList draw S.st.length ops.toList 0 { env:=aJ S.env,st:=aR S.st,log:=[] })
  | .seq a b=>AD0 (exec C call G na n a S) fun S1=>exec C call G na n b S1
  | .cond x a b=>ZC (ev (aJ S.env) x) (exec C call G na n a S) (exec C call G na n b S)
  | .block id b=>MP id (exec C call G na n b S)
  | .loop b=>AD0 (exec C call G na n b S) fun S1=>exec C call G na n (.loop b) S1
  | .exit id=>some (.exit id,S)
  | .ret=>some (.ret,S)
  | .rangeFunc g ps a b=>pK call G na g ps.toList a b S
  | _=>none
def AAC (C:Ctx) (env:Nat→AV) (st:Store):ResultVar→Option AV
 | .tmp t=>some (env t)
 | .cell a t=>L9 C t (env a) st
def KF (C:Ctx) (env:Nat→AV) (st:Store):List ResultVar→Option (List AV)
 | []=>some []
 | r::rs=>bnd (AAC C env st r) fun v=>bnd (KF C env st rs) fun l=>some (v::l)
def uP (st:Store):List AV→Option (List AV×Store)
 | []=>some ([],st)
 | v::r=>bnd (rV st v) fun p=>bnd (uP p.2 r) fun q=>some (.i p.1::q.1,q.2)
def FP (st:Store):AV→Option (AV×Store)
 | .agg cs=>bnd (rV st (.agg cs)) fun p=>some (.i p.1,p.2)
 | v=>some (v,st)
def wX (st:Store):List AV→Option (List AV×Store)
 | []=>some ([],st)
 | v::r=>bnd (FP st v) fun p=>bnd (wX p.2 r) fun q=>some (p.1::q.1,q.2)
def KG (st:Store):List AV→Option (List AV×Store)
 | [v]=>some ([v],st)
 | vs=>wX st vs
def AAD (st:Store) (vs:List AV):Bool→Option (List AV×Store)
 | true=>KG st vs
 | false=>uP st vs
def AAE (st:Store) (vs:List AV) (keep:Bool):Bool→Option (List AV×Store)
 | false=>AAD st vs keep
 | true=>if keep=true then some (vs,st)else uP st vs
def finish (C:Ctx) (keep:Bool) (rs:List ResultVar) (na:Nat) (S:AS):Option (AV×StL) :=
 bnd (KF C (aJ S.env) (aR S.st) rs) fun vs=>bnd (AAE (aR S.st) vs keep C.tree) fun p=>AH4 p.1 p.2 (jL p.2 na p.1)
def AIT (C:Ctx) (keep:Bool) (rs:List ResultVar) (na:Nat):XR→Option (AV×StL)
 | some (.normal,S)=>finish C keep rs na S
 | some (.ret,S)=>finish C keep rs na S
 | some (.exit _,_)=>none
 | none=>none
def sN:List AV→Nat→AV
 | [],_=>.junk
 | a::_,0=>a
 | _::r,n+1=>sN r n
def P9 (args:List AV):List Nat→List (Nat×AV)
 | []=>[]
 | t::G=>(t,sN args t)::P9 args G
def enter (G:List Nat) (args:List AV) (st:StL):AS:={ env:=P9 args G,st:=st }
def gZ (C:Ctx):Nat→dI
 | 0,_,_,_=>none
 | n+1,f,args,st =>
  if f=oG then DJ (fun G na c S=>exec C (gZ C n) G na n c S) st args else
  match C.prim f with
  | some p=>p args st
  | none =>
   match C.P.funcs[f]? with
   | none=>none
   | some fn =>
    match fn.body with
    | none=>none
    | some c=>AIT C (C.keepRes f) fn.results.toList st.length (exec C (gZ C n) (C.G f) st.length n c (enter (C.G f) args st))
section lim
noncomputable def lim {α:Type} (f:Nat→Option α):Option α:=open Classical in if h:∃ r,∃ n,f n=some r then some h.choose else none
def AjM {α:Type} (f:Nat→Option α):Prop:=∀ n m r,n≤m→f n=some r→f m=some r
theorem LC {α:Type} {f:Nat→Option α} (hm:AjM f) (r:α):lim f=some r↔∃ n,f n=some r:=by
 unfold lim;constructor
 ·intro h;split at h
  ·rename_i h';obtain⟨n,hn⟩:=h'.choose_spec;exact⟨n,by rw[hn];exact h⟩
  ·cases h
 ·rintro⟨n,hn⟩
  have h':∃ r,∃ n,f n=some r:=⟨r,n,hn⟩
  rw[dif_pos h'];obtain⟨m,hm'⟩:=h'.choose_spec;have h1:=hm n (max n m) r (xH _ _) hn;have h2:=hm m (max n m) _ (xP _ _) hm';rw[h1]at h2;exact h2.symm
theorem AMI {α:Type} {f:Nat→Option α} (h:lim f=none) (n:Nat):f n=none:=by
 cases hn:f n with
 | none=>rfl
 | some r =>
  exfalso;unfold lim at h;rw[dif_pos ⟨r,n,hn⟩]at h
  cases h
theorem nL {α:Type} {a b:Option α} (h:∀ r,a=some r↔b=some r):a=b:=by
 cases a with
 | none=>cases b with
  | none=>rfl
  | some r=>exact absurd ((h r).2 rfl) (by simp)
 | some r=>exact((h r).1 rfl).symm
end lim
def mK (c d:dI):Prop:=∀ f a s r,c f a s=some r→d f a s=some r
theorem mK.refl (c:dI):mK c c:=fun _ _ _ _ h=>h
theorem S9 {c d:dI} (h:mK c d) {g:FuncId} {args:List AV} {st:Store} {nb:Nat} {ids:List Nat} {r:AV×Store} (hr:lS c g args st nb ids=some r) :
 lS d g args st nb ids=some r:=by
 unfold lS at *
 obtain⟨h0,h1⟩:=aQ.1 hr;obtain⟨p,h1,h2⟩:=aI.1 h1;exact aQ.2 ⟨h0,aI.2 ⟨p,h _ _ _ _ h1,h2⟩⟩
theorem BR {c d:dI} (h:mK c d) {own:Bool} {g:FuncId} {args:List AV} {st:Store} {nb:Nat} {r:AV×Store} (hr:gT c own g args st nb=some r) :
 gT d own g args st nb=some r:=by
 unfold gT at *
 obtain⟨p,h1,h2⟩:=aI.1 hr;exact aI.2 ⟨p,h1,S9 h h2⟩
theorem ACP {C:Ctx} {c d:dI} (h:mK c d) {f:AV} {args:List AV} {st:Store} {nb:Nat} {r:AV×Store} (hr:NC C c args st nb f=some r) :
 NC C d args st nb f=some r:=by
 unfold NC at *
 split at hr
 ·split at hr
  ·cases hr
  ·rename_i hg;rw[if_neg hg];exact BR h hr
 ·exact BR h hr
 ·cases hr
theorem UO {c d:dI} (h:mK c d) {G:List Nat} {na:Nat} {g:Operand} {ps:List Nat} {a b:Code} {S:AS} {r:AExit×AS} (hr:pK c G na g ps a b S=some r) :
 pK d G na g ps a b S=some r:=by
 unfold pK at *
 split at hr
 ·rename_i hn;rw[if_pos hn];unfold UN at *
  split at hr
  ·split at hr
   ·cases hr
   ·rename_i hg;rw[if_neg hg];generalize hx:gT c _ _ _ _ _=x at hr
    cases x with
    | none=>simp[vP]at hr
    | some p=>rw[BR h hx];exact hr
  ·cases hr
 ·cases hr
theorem KE {ex ex':List Nat→Nat→Code→AS→XR} (h:∀ G na c S r,ex G na c S=some r→ex' G na c S=some r) {st:StL} {args:List AV} {r:AV×StL}
 (hr:DJ ex st args=some r):DJ ex' st args=some r:=by
 unfold DJ at *
 split at hr
 ·rename_i id as1;obtain⟨h0,h1⟩:=aQ.1 hr;refine aQ.2 ⟨h0,?_⟩;unfold UK at *
  split at h1
  ·rename_i R cs hb;obtain⟨h2,h3⟩:=aQ.1 h1;refine aQ.2 ⟨h2,?_⟩
   cases hx:ex R.G st.length R.asg ⟨NQ R.ps as1 (X9 R.ts cs),st⟩with
   | none=>rw[hx]at h3;simp[ABU,oQ]at h3
   | some p =>
    obtain⟨e,S⟩:=p;rw[h _ _ _ _ _ hx];rw[hx]at h3
    cases e with
    | normal =>
     simp only[ABU]at h3 ⊢;unfold AJB at *
     split at h3
     ·rename_i R' cs' hb';generalize hy:ex R.G st.length R.body _=y at h3
      cases y with
      | none=>simp[oQ]at h3
      | some q=>rw[h _ _ _ _ _ hy];exact h3
     ·simp[oQ]at h3
    | exit k=>simp[ABU,oQ]at h3
    | ret=>simp[ABU,oQ]at h3
  ·cases h1
 ·cases hr
theorem K3 {C:Ctx} {c d:dI} (h:mK c d) {op:Op} {env:Nat→AV} {st:Store} {nb:Nat} {r:AV×Store} (hr:dB C c op env st nb=some r) :
 dB C d op env st nb=some r:=by
 unfold dB at *
 cases hg:wY op with
 | none=>rw[hg]at hr;exact hr
 | some p=>rw[hg]at hr;exact ACP h hr
theorem rM {C:Ctx} {c d:dI} (h:mK c d) {all:List Oper} {draw:Bool} {base:Nat}:∀ (os:List Oper) (i:Nat) (R R':RS),
 dC C c all draw base os i R=some R'→dC C d all draw base os i R=some R'
 | [],_,_,_,hr=>hr
 | o::os,i,R,R',hr=>by
  unfold dC at *
  obtain⟨b,h1,h2⟩:=aI.1 hr;refine aI.2 ⟨b,h1,?_⟩
  cases b with
  | false=>simp only[yK,if_false]at h2 ⊢;exact rM h os _ _ _ h2
  | true =>
   simp only[if_true]at h2 ⊢;obtain⟨h3,h4⟩:=aQ.1 h2;obtain⟨p,h5,h6⟩:=aI.1 h4;exact aQ.2 ⟨h3,aI.2 ⟨p,K3 h h5,rM h os _ _ _ h6⟩⟩
theorem gB {C:Ctx} {c d:dI} (h:mK c d) {G:List Nat} {na:Nat}:∀ (n m:Nat),n≤m→∀ (code:Code) (S:AS) (r:AExit×AS),
 exec C c G na n code S=some r→exec C d G na m code S=some r:=by
 intro n
 induction n with
 | zero=>intro m _ code S r hr;simp[exec]at hr
 | succ n ih =>
  intro m hm code S r hr
  obtain⟨m,rfl⟩:∃ k,m=k+1:=⟨m-1,by omega⟩
  have hm':n≤m:=by omega
  cases code with
  | skip=>simpa [exec]using hr
  | region id ops draw =>
   simp only[exec]at hr ⊢
   cases hx:dC C c ops.toList draw S.st.length ops.toList 0 { env:=aJ S.env,st:=aR S.st,log:=[] }with
   | none=>rw[hx]at hr;cases hr
   | some R=>rw[rM h _ _ _ _ hx];rw[hx]at hr;exact hr
  | seq a b =>
   simp only[exec]at hr ⊢
   cases hx:exec C c G na n a S with
   | none=>rw[hx]at hr;cases hr
   | some p =>
    obtain⟨e,S1⟩:=p;rw[ih m hm' _ _ _ hx];rw[hx]at hr
    cases e with
    | normal=>exact ih m hm' _ _ _ hr
    | exit k=>exact hr
    | ret=>exact hr
  | cond x a b =>
   simp only[exec]at hr ⊢;obtain⟨t,h1,h2⟩:=lQ.1 hr;refine lQ.2 ⟨t,h1,?_⟩
   cases t with
   | true=>exact ih m hm' _ _ _ h2
   | false=>exact ih m hm' _ _ _ h2
  | block id b =>
   simp only[exec]at hr ⊢
   cases hx:exec C c G na n b S with
   | none=>rw[hx]at hr;cases hr
   | some p=>rw[ih m hm' _ _ _ hx];rw[hx]at hr;exact hr
  | loop b =>
   simp only[exec]at hr ⊢
   cases hx:exec C c G na n b S with
   | none=>rw[hx]at hr;cases hr
   | some p =>
    obtain⟨e,S1⟩:=p;rw[ih m hm' _ _ _ hx];rw[hx]at hr
    cases e with
    | normal=>exact ih m hm' _ _ _ hr
    | exit k=>exact hr
    | ret=>exact hr
  | rangeFunc _ _ _ _=>simp only[exec]at hr ⊢;exact UO h hr
  | exit id=>simpa [exec]using hr
  | scope _=>simp[exec]at hr
  | label _=>simp[exec]at hr
  | goto _=>simp[exec]at hr
  | ret=>simpa [exec]using hr
  | refuse _=>simp[exec]at hr
theorem nQ {C:Ctx}:∀ (n m:Nat),n≤m→mK (gZ C n) (gZ C m):=by
 intro n
 induction n with
 | zero=>intro m _ f a s r hr;simp[gZ]at hr
 | succ n ih =>
  intro m hm f a s r hr
  obtain⟨m,rfl⟩:∃ k,m=k+1:=⟨m-1,by omega⟩
  have hm':n≤m:=by omega
  simp only[gZ]at hr ⊢;split at hr
  ·rename_i hy;rw[if_pos hy];exact KE (fun G na c S r hx=>gB (ih m hm') n m hm' _ _ _ hx) hr
  ·rename_i hy;rw[if_neg hy];split at hr
   ·exact hr
   ·split at hr
    ·cases hr
    ·split at hr
     ·cases hr
     ·rename_i c _
      cases hx:exec C (gZ C n) (C.G f) s.length n c (enter (C.G f) a s)with
      | none=>rw[hx]at hr;simp[AIT]at hr
      | some p=>rw[gB (ih m hm') n m hm' _ _ _ hx];rw[hx]at hr;exact hr
noncomputable def aH (C:Ctx):dI:=fun f args st=>lim fun n=>gZ C n f args st
theorem mI {C:Ctx} {f:FuncId} {args:List AV} {st:StL} (r:AV×StL):aH C f args st=some r↔∃ n,gZ C n f args st=some r :=
 LC (fun n m _ h hr=>nQ n m h _ _ _ _ hr) r
theorem ABO (C:Ctx) (n:Nat):mK (gZ C n) (aH C):=fun _ _ _ r hr=>(mI r).2 ⟨n,hr⟩
noncomputable def dY (C:Ctx) (G:List Nat) (na:Nat) (c:Code) (S:AS):Option (AExit×AS):=lim fun n=>exec C (aH C) G na n c S
theorem dD {C:Ctx} {G:List Nat} {na:Nat} {c:Code} {S:AS} (r:AExit×AS):dY C G na c S=some r↔∃ n,exec C (aH C) G na n c S=some r :=
 LC (fun n m _ h hr=>gB (mK.refl _) n m h _ _ _ hr) r
theorem kL {C:Ctx} {G:List Nat} {na:Nat} {c:Code} {S:AS} {r:AExit×AS} (n:Nat) (h:exec C (aH C) G na n c S=some r):dY C G na c S=some r:=(dD r).2 ⟨n,h⟩
theorem ADY {C:Ctx} {G:List Nat} {na:Nat} {c:Code} {S:AS} (h:dY C G na c S=none) (n:Nat):exec C (aH C) G na n c S=none:=AMI h n
theorem G8 {C:Ctx} {own:Bool} {g:FuncId} {args:List AV} {st:Store} {nb:Nat} {r:AV×Store} (h:gT (aH C) own g args st nb=some r):∃ N,gT (gZ C N) own g args st nb=some r:=by
 unfold gT lS at *
 obtain⟨q,h1,h2⟩:=aI.1 h;obtain⟨h0,h2⟩:=aQ.1 h2;obtain⟨u,h3,h4⟩:=aI.1 h2;obtain⟨N,hN⟩:=(mI _).1 h3;exact⟨N,aI.2 ⟨q,h1,aQ.2 ⟨h0,aI.2 ⟨u,hN,h4⟩⟩⟩⟩
theorem Y0 {C:Ctx} {G:List Nat} {na:Nat} {g:Operand} {ps:List Nat} {a b:Code} {S:AS} {r:AExit×AS} (hr:pK (aH C) G na g ps a b S=some r) :
 ∃ N,pK (gZ C N) G na g ps a b S=some r:=by
 unfold pK at *
 split at hr
 ·rename_i hn;unfold UN at *
  split at hr
  ·split at hr
   ·cases hr
   ·rename_i hg;generalize hx:gT (aH C) _ _ _ _ _=x at hr
    cases x with
    | none=>simp[vP]at hr
    | some p =>
     obtain⟨N,hN⟩:=G8 hx;exact⟨N,by rw[if_pos hn,if_neg hg,hN];exact hr⟩
  ·cases hr
 ·cases hr
theorem ACN {C:Ctx} {op:Op} {env:Nat→AV} {st:Store} {nb:Nat} {r:AV×Store} (h:dB C (aH C) op env st nb=some r):∃ N,dB C (gZ C N) op env st nb=some r:=by
 unfold dB at *
 cases hg:wY op with
 | none=>rw[hg]at h;exact⟨0,h⟩
 | some p =>
  rw[hg]at h;simp only[stepW]at h ⊢;unfold NC at *
  split at h
  ·split at h
   ·cases h
   ·rename_i hg;obtain⟨N,hN⟩:=G8 h;exact⟨N,by rw[if_neg hg];exact hN⟩
  ·exact G8 h
  ·cases h
theorem FD {C:Ctx} {all:List Oper} {draw:Bool} {base:Nat}:∀ (os:List Oper) (i:Nat) (R R':RS),
 dC C (aH C) all draw base os i R=some R'→∃ N,dC C (gZ C N) all draw base os i R=some R'
 | [],_,_,_,hr=>⟨0,hr⟩
 | o::os,i,R,R',hr=>by
  unfold dC at *
  obtain⟨b,h1,h2⟩:=aI.1 hr
  cases b with
  | false =>
   simp only[yK,if_false]at h2;obtain⟨N,hN⟩:=FD os _ _ _ h2;exact⟨N,aI.2 ⟨false,h1,by simp only[yK,if_false];exact hN⟩⟩
  | true =>
   simp only[if_true]at h2;obtain⟨h3,h4⟩:=aQ.1 h2;obtain⟨p,h5,h6⟩:=aI.1 h4;obtain⟨N,hN⟩:=ACN h5;obtain⟨M,hM⟩:=FD os _ _ _ h6
   exact⟨max N M,aI.2 ⟨true,h1,by
    simp only[if_true]
    exact aQ.2 ⟨h3,aI.2 ⟨p,K3 (nQ _ _ (xH N M)) hN,rM (nQ _ _ (xP N M)) _ _ _ _ hM⟩⟩⟩⟩
theorem AB7 {C:Ctx} {G:List Nat} {na:Nat}:∀ (n:Nat) (code:Code) (S:AS) (r:AExit×AS),
 exec C (aH C) G na n code S=some r→∃ N,exec C (gZ C N) G na n code S=some r:=by
 intro n
 induction n with
 | zero=>intro code S r hr;simp[exec]at hr
 | succ n ih =>
  intro code S r hr
  have up:∀ {N M:Nat} {code:Code} {S:AS} {r:AExit×AS},N≤M→exec C (gZ C N) G na n code S=some r→exec C (gZ C M) G na n code S=some r :=
   fun h hr=>gB (nQ _ _ h) n n (zO _) _ _ _ hr
  cases code with
  | skip=>exact⟨0,by simpa [exec]using hr⟩
  | region id ops draw =>
   simp only[exec]at hr
   cases hx:dC C (aH C) ops.toList draw S.st.length ops.toList 0 { env:=aJ S.env,st:=aR S.st,log:=[] }with
   | none=>rw[hx]at hr;cases hr
   | some R =>
    obtain⟨N,hN⟩:=FD _ _ _ _ hx;exact⟨N,by simp only[exec];rw[hN];rw[hx]at hr;exact hr⟩
  | seq a b =>
   simp only[exec]at hr
   cases hx:exec C (aH C) G na n a S with
   | none=>rw[hx]at hr;cases hr
   | some p =>
    obtain⟨e,S1⟩:=p;rw[hx]at hr;obtain⟨N,hN⟩:=ih _ _ _ hx
    cases e with
    | normal =>
     obtain⟨M,hM⟩:=ih _ _ _ hr;exact⟨max N M,by simp only[exec];rw[up (xH N M) hN];exact up (xP N M) hM⟩
    | exit k=>exact⟨N,by simp only[exec];rw[hN];exact hr⟩
    | ret=>exact⟨N,by simp only[exec];rw[hN];exact hr⟩
  | cond x a b =>
   simp only[exec]at hr;obtain⟨t,h1,h2⟩:=lQ.1 hr
   cases t with
   | true=>obtain⟨N,hN⟩:=ih _ _ _ h2;exact⟨N,by simp only[exec];exact lQ.2 ⟨true,h1,hN⟩⟩
   | false=>obtain⟨N,hN⟩:=ih _ _ _ h2;exact⟨N,by simp only[exec];exact lQ.2 ⟨false,h1,hN⟩⟩
  | block id b =>
   simp only[exec]at hr
   cases hx:exec C (aH C) G na n b S with
   | none=>rw[hx]at hr;cases hr
   | some p =>
    obtain⟨N,hN⟩:=ih _ _ _ hx;exact⟨N,by simp only[exec];rw[hN];rw[hx]at hr;exact hr⟩
  | loop b =>
   simp only[exec]at hr
   cases hx:exec C (aH C) G na n b S with
   | none=>rw[hx]at hr;cases hr
   | some p =>
    obtain⟨e,S1⟩:=p;rw[hx]at hr;obtain⟨N,hN⟩:=ih _ _ _ hx
    cases e with
    | normal =>
     obtain⟨M,hM⟩:=ih _ _ _ hr;exact⟨max N M,by simp only[exec];rw[up (xH N M) hN];exact up (xP N M) hM⟩
    | exit k=>exact⟨N,by simp only[exec];rw[hN];exact hr⟩
    | ret=>exact⟨N,by simp only[exec];rw[hN];exact hr⟩
  | rangeFunc _ _ _ _ =>
   simp only[exec]at hr;obtain⟨N,hN⟩:=Y0 hr;exact⟨N,by simp only[exec];exact hN⟩
  | exit id=>exact⟨0,by simpa [exec]using hr⟩
  | scope _=>simp[exec]at hr
  | label _=>simp[exec]at hr
  | goto _=>simp[exec]at hr
  | ret=>exact⟨0,by simpa [exec]using hr⟩
  | refuse _=>simp[exec]at hr
section eqs
variable {C:Ctx} {G:List Nat} {na:Nat} {S:AS}
theorem ADW:dY C G na .skip S=some (.normal,S):=kL 1 rfl
theorem ADZ (id:Nat):dY C G na (.exit id) S=some (.exit id,S):=kL 1 rfl
theorem AIP:dY C G na .ret S=some (.ret,S):=kL 1 rfl
theorem VP (id:Nat) (ops:Array Oper) (draw:Bool):dY C G na (.region id ops draw) S =
 AIU G na (dC C (aH C) ops.toList draw S.st.length ops.toList 0 { env:=aJ S.env,st:=aR S.st,log:=[] }):=by
 apply nL;intro r;rw[dD];constructor
 ·rintro⟨n,hn⟩
  cases n with
  | zero=>simp[exec]at hn
  | succ n=>exact hn
 ·intro h;exact⟨1,h⟩
theorem YW (g:Operand) (ps:Array Tmp) (a b:Code):dY C G na (.rangeFunc g ps a b) S=pK (aH C) G na g ps.toList a b S:=by
 apply nL;intro r;rw[dD];constructor
 ·rintro⟨n,hn⟩
  cases n with
  | zero=>simp[exec]at hn
  | succ n=>exact hn
 ·intro h;exact⟨1,h⟩
theorem AIO (a b:Code):dY C G na (.seq a b) S=AD0 (dY C G na a S) fun S1=>dY C G na b S1:=by
 apply nL;intro r;rw[dD]
 cases hx:dY C G na a S with
 | none =>
  constructor
  ·rintro⟨n,hn⟩
   cases n with
   | zero=>simp[exec]at hn
   | succ n=>simp only[exec]at hn;rw[ADY hx n]at hn;exact hn
  ·intro h;cases h
 | some p =>
  obtain⟨e,S1⟩:=p;obtain⟨k,hk⟩:=(dD _).1 hx;have up:∀ n,k≤n→exec C (aH C) G na n a S=some (e,S1):=fun n h=>gB (mK.refl _) k n h _ _ _ hk
  constructor
  ·rintro⟨n,hn⟩;have hn':=gB (mK.refl (aH C)) n (max n k+1) (by omega) _ _ _ hn;simp only[exec]at hn';rw[up _ (xP n k)]at hn'
   cases e with
   | normal=>exact kL _ hn'
   | exit j=>exact hn'
   | ret=>exact hn'
  ·intro h
   cases e with
   | normal =>
    obtain⟨m,hm⟩:=(dD _).1 h;refine⟨max m k+1,?_⟩;simp only[exec];rw[up _ (xP m k)];exact gB (mK.refl _) m _ (xH m k) _ _ _ hm
   | exit j=>exact⟨k+1,by simp only[exec];rw[hk];exact h⟩
   | ret=>exact⟨k+1,by simp only[exec];rw[hk];exact h⟩
theorem AE0 (x:Operand) (a b:Code):dY C G na (.cond x a b) S=ZC (ev (aJ S.env) x) (dY C G na a S) (dY C G na b S):=by
 apply nL;intro r;rw[dD,lQ];constructor
 ·rintro⟨n,hn⟩
  cases n with
  | zero=>simp[exec]at hn
  | succ n =>
   simp only[exec]at hn;obtain⟨t,h1,h2⟩:=lQ.1 hn;refine⟨t,h1,?_⟩
   cases t with
   | true=>exact kL n h2
   | false=>exact kL n h2
 ·rintro⟨t,h1,h2⟩
  cases t with
  | true=>obtain⟨m,hm⟩:=(dD _).1 h2;exact⟨m+1,by simp only[exec];exact lQ.2 ⟨true,h1,hm⟩⟩
  | false=>obtain⟨m,hm⟩:=(dD _).1 h2;exact⟨m+1,by simp only[exec];exact lQ.2 ⟨false,h1,hm⟩⟩
theorem YX (id:Nat) (b:Code):dY C G na (.block id b) S=MP id (dY C G na b S):=by
 apply nL;intro r;rw[dD];constructor
 ·rintro⟨n,hn⟩
  cases n with
  | zero=>simp[exec]at hn
  | succ n =>
   simp only[exec]at hn
   cases hx:exec C (aH C) G na n b S with
   | none=>rw[hx]at hn;cases hn
   | some p=>rw[kL n hx];rw[hx]at hn;exact hn
 ·intro h
  cases hx:dY C G na b S with
  | none=>rw[hx]at h;cases h
  | some p =>
   obtain⟨m,hm⟩:=(dD _).1 hx;exact⟨m+1,by simp only[exec];rw[hm];rw[hx]at h;exact h⟩
theorem aG (b:Code):dY C G na (.loop b) S=AD0 (dY C G na b S) fun S1=>dY C G na (.loop b) S1:=by
 apply nL;intro r;rw[dD];constructor
 ·rintro⟨n,hn⟩
  cases n with
  | zero=>simp[exec]at hn
  | succ n =>
   simp only[exec]at hn
   cases hx:exec C (aH C) G na n b S with
   | none=>rw[hx]at hn;cases hn
   | some p =>
    obtain⟨e,S1⟩:=p;rw[kL n hx];rw[hx]at hn
    cases e with
    | normal=>exact kL n hn
    | exit j=>exact hn
    | ret=>exact hn
 ·intro h
  cases hx:dY C G na b S with
  | none=>rw[hx]at h;cases h
  | some p =>
   obtain⟨e,S1⟩:=p;obtain⟨k,hk⟩:=(dD _).1 hx;rw[hx]at h
   cases e with
   | normal =>
    obtain⟨m,hm⟩:=(dD _).1 h;refine⟨max m k+1,?_⟩;simp only[exec];rw[gB (mK.refl _) k _ (xP m k) _ _ _ hk];exact gB (mK.refl _) m _ (xH m k) _ _ _ hm
   | exit j=>exact⟨k+1,by simp only[exec];rw[hk];exact h⟩
   | ret=>exact⟨k+1,by simp only[exec];rw[hk];exact h⟩
end eqs
theorem aD {C:Ctx} {f:FuncId} {fn:Func} {c:Code} {rs:List ResultVar} (hp:C.prim f=none) (hf:C.P.funcs[f]?=some fn) (hb:fn.body=some c) (hr:fn.results.toList=rs) (args:List AV) (st:StL) (hy:f≠oG:=by decide) :
 aH C f args st=AIT C (C.keepRes f) rs st.length (dY C (C.G f) st.length c (enter (C.G f) args st)):=by
 subst hr;apply nL;intro r;rw[mI];constructor
 ·rintro⟨n,hn⟩
  cases n with
  | zero=>simp[gZ]at hn
  | succ n =>
   simp only[gZ,hp,hf,hb,if_neg hy]at hn
   cases hx:exec C (gZ C n) (C.G f) st.length n c (enter (C.G f) args st)with
   | none=>rw[hx]at hn;cases hn
   | some p=>rw[kL n (gB (ABO C n) n n (zO _) _ _ _ hx)];rw[hx]at hn;exact hn
 ·intro h
  cases hx:dY C (C.G f) st.length c (enter (C.G f) args st)with
  | none=>rw[hx]at h;cases h
  | some p =>
   obtain⟨m,hm⟩:=(dD _).1 hx;obtain⟨N,hN⟩:=AB7 m _ _ _ hm;refine⟨max N m+1,?_⟩;simp only[gZ,hp,hf,hb,if_neg hy];rw[gB (nQ _ _ (xH N m)) m _ (xP N m) _ _ _ hN];rw[hx]at h;exact h
theorem VQ {C:Ctx} {G:List Nat} {na:Nat} {c:Code} {S:AS} {r:AExit×AS} (h:dY C G na c S=some r):∃ N,∀ M,N≤M→exec C (gZ C M) G na M c S=some r:=by
 obtain⟨n,hn⟩:=(dD _).1 h;obtain⟨N,hN⟩:=AB7 _ _ _ _ hn;exact⟨max N n,fun M hM=>gB (nQ _ _ (xX (xH N n) hM)) n M (xX (xP N n) hM) _ _ _ hN⟩
theorem WI {C:Ctx} (args:List AV) (st:StL):aH C oG args st=DJ (dY C) st args:=by
 apply nL;intro r;rw[mI];constructor
 ·rintro⟨n,hn⟩
  cases n with
  | zero=>simp[gZ]at hn
  | succ n =>
   simp only[gZ,if_true]at hn;exact KE (fun G na c S r hx=>kL n (gB (ABO C n) n n (zO _) _ _ _ hx)) hn
 ·intro h
  have key:∃ N,DJ (fun G na c S=>exec C (gZ C N) G na N c S) st args=some r:=by
   unfold DJ at *
   split at h
   ·rename_i id as1;obtain⟨h0,h1⟩:=aQ.1 h;unfold UK at *
    split at h1
    ·rename_i R cs hb;obtain⟨h2,h3⟩:=aQ.1 h1
     cases hx:dY C R.G st.length R.asg ⟨NQ R.ps as1 (X9 R.ts cs),st⟩with
     | none=>rw[hx]at h3;simp[ABU,oQ]at h3
     | some p =>
      obtain⟨e,S⟩:=p;obtain⟨N,hN⟩:=VQ hx;rw[hx]at h3
      cases e with
      | normal =>
       simp only[ABU]at h3;unfold AJB at *
       split at h3
       ·rename_i R' cs' hb';generalize hy:dY C R.G st.length R.body _=y at h3
        cases y with
        | none=>simp[oQ]at h3
        | some q =>
         obtain⟨M,hM⟩:=VQ hy;refine⟨max N M,aQ.2 ⟨h0,aQ.2 ⟨h2,?_⟩⟩⟩;have e1:=hN _ (xH N M);have e2:=hM _ (xP N M);simp only[e1,ABU,hb',e2];exact h3
       ·simp[oQ]at h3
      | exit k=>simp[ABU,oQ]at h3
      | ret=>simp[ABU,oQ]at h3
    ·cases h1
   ·cases h
  obtain⟨N,hN⟩:=key;exact⟨N+1,by simp only[gZ,if_true];exact hN⟩
theorem aT {C:Ctx} {f:FuncId} {p:List AV→StL→Option (AV×StL)} (hp:C.prim f=some p) (args:List AV) (st:StL) (hy:f≠oG:=by decide):aH C f args st=p args st:=by
 apply nL;intro r;rw[mI];constructor
 ·rintro⟨n,hn⟩
  cases n with
  | zero=>simp[gZ]at hn
  | succ n=>simpa only[gZ,hp,if_neg hy]using hn
 ·intro h;exact⟨1,by simpa only[gZ,hp,if_neg hy]using h⟩
abbrev Mem:=Nat→Nat→Option Value
structure Ext where
 len:Nat
 own:Nat→Prop
abbrev Pl:=Nat→Option (Nat×Ext)
def one (b n:Nat):Ext:=⟨n,fun f=>f=b⟩
@[simp] theorem QN (b n:Nat):(one b n).len=n:=(rfl)
def eD (φ:Pl) (f:Nat):Prop:=∀ id b n,φ id=some (b,n)→¬ n.own f
mutual
inductive IRep (m:Mem):IV→Value→Prop
 | lit (v:Value):IRep m (.lit v) v
 | agg {cs:List IV} {vs:List Value}:ICells m cs vs→IRep m (.agg cs) (.agg vs.toArray)
 | isl0 (ao:Option Addr) (cap:Nat):(ao=none→cap=0)→IRep m (.isl []) (.slice ao 0 cap)
 | isl {b off k:Nat} {es:List (List IV)} {cap:Nat}:es≠[]→IElems m b off k es→es.length≤cap→IRep m (.isl es) (.slice (some ⟨b,off,none⟩) es.length cap)
 | iref {b off:Nat} {cs:List IV}:IAt m b off cs→IRep m (.iref cs) (.pointer (some ⟨b,off,none⟩))
inductive ICells (m:Mem):List IV→List Value→Prop
 | nil:ICells m [] []
 | cons {c:IV} {v:Value} {cs:List IV} {vs:List Value}:IRep m c v→v.oneCell'=true→ICells m cs vs→ICells m (c::cs) (v::vs)
inductive IAt (m:Mem):Nat→Nat→List IV→Prop
 | nil (b off:Nat):IAt m b off []
 | cons {b off:Nat} {c:IV} {v:Value} {cs:List IV}:m b off=some v→IRep m c v→v.oneCell'=true→IAt m b (off+1) cs→IAt m b off (c::cs)
inductive IElems (m:Mem):Nat→Nat→Nat→List (List IV)→Prop
 | nil (b off k:Nat):IElems m b off k []
 | cons {b off k:Nat} {cs:List IV} {es:List (List IV)}:IAt m b off cs→cs.length=k→IElems m b (off+k) k es→IElems m b off k (cs::es)
end
mutual
inductive Rep (m:Mem) (φ:Pl):AV→Value→Prop
 | junk (v:Value):Rep m φ .junk v
 | nils:Rep m φ .nils (.slice none 0 0)
 | i {v:IV} {x:Value}:IRep m v x→Rep m φ (.i v) x
 | own {id off b:Nat} {n:Ext}:φ id=some (b,n)→Rep m φ (.own id off) (.pointer (some ⟨b,off,none⟩))
 | ownE {id k ix off b:Nat} {n:Ext}:φ id=some (b,n)→Rep m φ (.ownE id k ix off) (.pointer (some ⟨b,k*ix+off,none⟩))
 | osl {id k off len cap b:Nat} {n:Ext} {ao:Option Addr}:φ id=some (b,n)→len≤cap→k*(off+cap)≤n.len→(cap≠0→ao=some ⟨b,k*off,none⟩)→(ao=none→cap=0)→Rep m φ (.osl id k off len) (.slice ao len cap)
 | agg {cs:List AV} {vs:List Value}:RepC m φ cs vs→Rep m φ (.agg cs) (.agg vs.toArray)
 | tup {cs:List AV} {vs:List Value}:RepL m φ cs vs→Rep m φ (.tup cs) (.tuple vs.toArray)
 | fn {f:FuncId} {cs:List AV} {vs:List Value}:RepL m φ cs vs→Rep m φ (.fn (.func f) cs) (.func (.func f) #[] vs.toArray)
 | yld {id b:Nat} {n:Ext}:φ id=some (b,n)→Rep m φ (.fn (.yield 0) [.own id 0]) (.func (.yield b) #[] #[])
 | ydead (b:Nat):Rep m φ (.fn (.yield 0) [.junk]) (.func (.yield b) #[] #[])
inductive RepL (m:Mem) (φ:Pl):List AV→List Value→Prop
 | nil:RepL m φ [] []
 | cons {c:AV} {v:Value} {cs:List AV} {vs:List Value}:Rep m φ c v→RepL m φ cs vs→RepL m φ (c::cs) (v::vs)
inductive RepC (m:Mem) (φ:Pl):List AV→List Value→Prop
 | nil:RepC m φ [] []
 | cons {c:AV} {v:Value} {cs:List AV} {vs:List Value}:Rep m φ c v→v.oneCell'=true→RepC m φ cs vs→RepC m φ (c::cs) (v::vs)
end
def MLe (m m':Mem):Prop:=∀ b o v,m b o=some v→m' b o=some v
def PLe (φ φ':Pl):Prop:=∀ id b n,φ id=some (b,n)→∃ n',φ' id=some (b,n')∧n'.len=n.len∧∀ f,n.own f→n'.own f
theorem MLe.refl (m:Mem):MLe m m:=fun _ _ _ h=>h
theorem PLe.refl (φ:Pl):PLe φ φ:=fun _ _ n h=>⟨n,h,rfl,fun _ h=>h⟩
theorem MLe.trans {a b c:Mem} (h:MLe a b) (k:MLe b c):MLe a c:=fun x y v e=>k _ _ _ (h x y v e)
theorem PLe.trans {a b c:Pl} (h:PLe a b) (k:PLe b c):PLe a c:=fun x v n e=>by
 obtain⟨n1,e1,l1,o1⟩:=h x v n e;obtain⟨n2,e2,l2,o2⟩:=k x v n1 e1;exact⟨n2,e2,l2.trans l1,fun f hf=>o2 f (o1 f hf)⟩
mutual
theorem IRep.mono {m m':Mem} (h:MLe m m') {v:IV} {x:Value}:IRep m v x→IRep m' v x
 | .lit v=>.lit v
 | .agg c=>.agg (ICells.mono h c)
 | .isl0 ao cap hc=>.isl0 ao cap hc
 | .isl hn he hc=>.isl hn (IElems.mono h he) hc
 | .iref a=>.iref (IAt.mono h a)
theorem ICells.mono {m m':Mem} (h:MLe m m') {cs:List IV} {vs:List Value}:ICells m cs vs→ICells m' cs vs
 | .nil=>.nil
 | .cons a o b=>.cons (IRep.mono h a) o (ICells.mono h b)
theorem IAt.mono {m m':Mem} (h:MLe m m') {b off:Nat} {cs:List IV}:IAt m b off cs→IAt m' b off cs
 | .nil b off=>.nil b off
 | .cons e a o r=>.cons (h _ _ _ e) (IRep.mono h a) o (IAt.mono h r)
theorem IElems.mono {m m':Mem} (h:MLe m m') {b off k:Nat} {es:List (List IV)}:IElems m b off k es→IElems m' b off k es
 | .nil b off k=>.nil b off k
 | .cons a e r=>.cons (IAt.mono h a) e (IElems.mono h r)
end
mutual
theorem Rep.mono {m m':Mem} {φ φ':Pl} {v:AV} {x:Value} (r:Rep m φ v x) (h:MLe m m') (hp:PLe φ φ'):Rep m' φ' v x :=
 match r with
 | .junk v=>.junk v
 | .nils=>.nils
 | .i a=>.i (a.mono h)
 | .own e=>by obtain⟨n',e',_,_⟩:=hp _ _ _ e;exact .own e'
 | .ownE e=>by obtain⟨n',e',_,_⟩:=hp _ _ _ e;exact .ownE e'
 | .osl e a b c d=>by obtain⟨n',e',hl,_⟩:=hp _ _ _ e;exact .osl e' a (by rw[hl];exact b) c d
 | .agg c=>.agg (RepC.mono c h hp)
 | .tup c=>.tup (RepL.mono c h hp)
 | .fn c=>.fn (RepL.mono c h hp)
 | .yld e=>by obtain⟨n',e',_,_⟩:=hp _ _ _ e;exact .yld e'
 | .ydead b=>.ydead b
theorem RepL.mono {m m':Mem} {φ φ':Pl} {cs:List AV} {vs:List Value} (r:RepL m φ cs vs) (h:MLe m m') (hp:PLe φ φ'):RepL m' φ' cs vs :=
 match r with
 | .nil=>.nil
 | .cons a b=>.cons (Rep.mono a h hp) (RepL.mono b h hp)
theorem RepC.mono {m m':Mem} {φ φ':Pl} {cs:List AV} {vs:List Value} (r:RepC m φ cs vs) (h:MLe m m') (hp:PLe φ φ'):RepC m' φ' cs vs :=
 match r with
 | .nil=>.nil
 | .cons a o b=>.cons (Rep.mono a h hp) o (RepC.mono b h hp)
end
def kR (w:World) (m:Mem):Prop:=∀ b o v,m b o=some v→w.cell? ⟨b,o,none⟩=some v
def rowOf (w:World) (b:Nat) (vs:List Value):Prop:=∃ T,w.heap[b]?=some (.cells vs.toArray T (0,0))∧∀ v∈vs,v.oneCell'=true
inductive TCells (w:World):List IV→List Value→List Nat→Prop
 | nil:TCells w [] [] []
 | lit {v:Value} {cs:List IV} {vs:List Value} {F:List Nat}:v.oneCell'=true→TCells w cs vs F→TCells w (.lit v::cs) (v::vs) F
 | isl0 {ao:Option Addr} {cap:Nat} {cs:List IV} {vs:List Value} {F:List Nat}:(ao=none→cap=0)→TCells w cs vs F→TCells w (.isl []::cs) (.slice ao 0 cap::vs) F
 | isl {b k cap:Nat} {es:List (List IV)} {us:List Value} {G:List Nat} {cs:List IV} {vs:List Value} {F:List Nat}:es≠[]→rowOf w b us→0<k→(∀ e∈es,e.length=k)→k*cap≤us.length→es.length≤cap →
  TCells w es.flatten (us.take (k*es.length)) G→TCells w cs vs F→TCells w (.isl es::cs) (.slice (some ⟨b,0,none⟩) es.length cap::vs) (b::G++F)
theorem TCells.mono {w w':World}:∀ {cs:List IV} {vs:List Value} {F:List Nat},TCells w cs vs F→(∀ f∈F,w'.heap[f]?=w.heap[f]?)→TCells w' cs vs F
 | _,_,_, .nil,_=>.nil
 | _,_,_, .lit o r,h=>.lit o (r.mono h)
 | _,_,_, .isl0 c r,h=>.isl0 c (r.mono h)
 | _,_,_, .isl hn ⟨T,hr,ho⟩ hk hl hf hc g r,h=>.isl hn ⟨T,(h _ (by simp)).trans hr,ho⟩ hk hl hf hc (g.mono fun f hf=>h f (by simp[hf])) (r.mono fun f hf=>h f (by simp[hf]))
theorem TCells.length {w:World}:∀ {cs:List IV} {vs:List Value} {F:List Nat},TCells w cs vs F→cs.length=vs.length
 | _,_,_, .nil=>rfl
 | _,_,_, .lit _ r=>by simp[r.length]
 | _,_,_, .isl0 _ r=>by simp[r.length]
 | _,_,_, .isl _ _ _ _ _ _ _ r=>by simp[r.length]
theorem TCells.one {w:World}:∀ {cs:List IV} {vs:List Value} {F:List Nat},TCells w cs vs F→∀ v∈vs,v.oneCell'=true
 | _,_,_, .nil=>by simp
 | _,_,_, .lit o r=>by
  intro v hv
  rcases zS.1 hv with rfl|hv
  ·exact o
  ·exact r.one v hv
 | _,_,_, .isl0 _ r=>by
  intro v hv
  rcases zS.1 hv with rfl|hv
  ·rfl
  ·exact r.one v hv
 | _,_,_, .isl _ _ _ _ _ _ _ r=>by
  intro v hv
  rcases zS.1 hv with rfl|hv
  ·rfl
  ·exact r.one v hv
inductive UCells (w:World) (m:Mem):List IV→List Value→List Nat→Prop
 | nil:UCells w m [] [] []
 | lit {v:Value} {cs:List IV} {vs:List Value} {F:List Nat}:v.oneCell'=true→UCells w m cs vs F→UCells w m (.lit v::cs) (v::vs) F
 | isl0 {ao:Option Addr} {cap:Nat} {cs:List IV} {vs:List Value} {F:List Nat}:(ao=none→cap=0)→UCells w m cs vs F→UCells w m (.isl []::cs) (.slice ao 0 cap::vs) F
 | isl {b k cap:Nat} {es:List (List IV)} {us:List Value} {G:List Nat} {cs:List IV} {vs:List Value} {F:List Nat}:es≠[]→rowOf w b us→0<k→(∀ e∈es,e.length=k)→k*cap≤us.length→es.length≤cap →
  TCells w es.flatten (us.take (k*es.length)) G→UCells w m cs vs F→UCells w m (.isl es::cs) (.slice (some ⟨b,0,none⟩) es.length cap::vs) (b::G++F)
 | kn {c:IV} {v:Value} {cs:List IV} {vs:List Value} {F:List Nat}:IRep m c v→v.oneCell'=true→UCells w m cs vs F→UCells w m (.iref [c]::cs) (v::vs) F
theorem UCells.mono {w w':World} {m m':Mem} (hm:MLe m m'):∀ {cs:List IV} {vs:List Value} {F:List Nat},UCells w m cs vs F→(∀ f∈F,w'.heap[f]?=w.heap[f]?)→UCells w' m' cs vs F
 | _,_,_, .nil,_=>.nil
 | _,_,_, .lit o r,h=>.lit o (r.mono hm h)
 | _,_,_, .isl0 c r,h=>.isl0 c (r.mono hm h)
 | _,_,_, .isl hn ⟨T,hr,ho⟩ hk hl hf hc g r,h=>.isl hn ⟨T,(h _ (by simp)).trans hr,ho⟩ hk hl hf hc (g.mono fun f hf=>h f (by simp[hf])) (r.mono hm fun f hf=>h f (by simp[hf]))
 | _,_,_, .kn a o r,h=>.kn (a.mono hm) o (r.mono hm h)
theorem TCells.toU {w:World} {m:Mem}:∀ {cs:List IV} {vs:List Value} {F:List Nat},TCells w cs vs F→UCells w m cs vs F
 | _,_,_, .nil=>.nil
 | _,_,_, .lit o r=>.lit o r.toU
 | _,_,_, .isl0 c r=>.isl0 c r.toU
 | _,_,_, .isl hn hr hk hl hf hc g r=>.isl hn hr hk hl hf hc g r.toU
theorem UCells.pure {w:World} {m:Mem}:∀ {cs:List IV} {vs:List Value} {F:List Nat},jI cs=true→UCells w m cs vs F→TCells w cs vs F
 | _,_,_,_, .nil=>.nil
 | _,_,_,h, .lit o r=>.lit o (r.pure (by simpa [jI,KJ]using h))
 | _,_,_,h, .isl0 c r=>.isl0 c (r.pure (by simpa [jI,KJ]using h))
 | _,_,_,h, .isl hn hr hk hl hf hc g r=>.isl hn hr hk hl hf hc g (r.pure (by simpa [jI,KJ]using h))
 | _,_,_,h, .kn _ _ _=>by simp[jI,KJ]at h
theorem lN:∀ {es:List (List IV)},kG es=true→jI es.flatten=true
 | [],_=>rfl
 | e::es,h=>by
  simp only[kG,zT]at h;have ih:=lN h.2;rw[z8]
  have app:∀ (a b:List IV),jI a=true→jI b=true→jI (a++b)=true:=by
   intro a
   induction a with
   | nil=>intro b _ h;exact h
   | cons c a iha=>intro b h1 h2;simp only[jI,zT]at h1;simp only[yV,jI,h1.1,iha b h1.2 h2,Bool.and_self]
  exact app _ _ h.1 ih
theorem AFI {w:World} {m:Mem}:∀ {cs:List IV} {vs:List Value},ICells m cs vs→UCells w m (mM cs) vs []
 | _,_, .nil=>.nil
 | c::_,_, .cons a o r=>by
  have ih:=AFI (w:=w) r;simp only[mM,XH];by_cases hb:jM c=true
  ·rw[if_pos hb]
   cases a with
   | lit v=>exact .lit o ih
   | isl0 ao cap hc=>exact .isl0 hc ih
   | isl hn=>rename_i es _ _ _;cases es with|nil=>exact absurd rfl hn|cons e es=>simp[jM]at hb
   | agg=>simp[jM]at hb
   | iref=>simp[jM]at hb
  ·rw[if_neg hb];exact .kn a o ih
theorem C8:∀ (cs:List IV),(mM cs).length=cs.length
 | []=>rfl
 | _::cs=>by simp[mM,C8 cs]
theorem EU:∀ (es:List (List IV)),(gD es).length=es.length
 | []=>rfl
 | _::es=>by simp[gD,EU es]
theorem TI:∀ (a b:List IV),mM (a++b)=mM a++mM b
 | [],_=>rfl
 | c::a,b=>by simp[mM,TI a b]
theorem wM:∀ (es:List (List IV)),(gD es).flatten=mM es.flatten
 | []=>rfl
 | e::es=>by simp[gD,TI,wM es]
theorem GK {k:Nat}:∀ {es:List (List IV)},(∀ e∈es,e.length=k)→∀ e∈gD es,e.length=k
 | [],_,e,h=>by simp[gD]at h
 | x::es,hw,e,h=>by
  simp only[gD,zS]at h
  rcases h with rfl|h
  ·rw[C8];exact hw x (by simp)
  ·exact GK (fun y hy=>hw y (by simp[hy])) e h
theorem NW:∀ {es:List (List IV)} {i:Nat} {e:List IV},es[i]?=some e→(gD es)[i]?=some (mM e)
 | [],_,_,h=>by simp at h
 | x::es,0,e,h=>by simp at h;subst h;simp[gD]
 | x::es,i+1,e,h=>by simp only[gD,xZ];exact NW (by simpa using h)
def ZB:Value→Bool
 | .agg cs=>cs.toList.all (·.oneCell')
 | _=>true
def KT:Operand→Bool
 | .const v=>ZB v
 | _=>true
def opsOf:Op→List Operand
 | .move x=>[x]
 | .assign x=>[x]
 | .pick c a b=>[c,a,b]
 | .box _ x=>[x]
 | .build _ parts=>gJ parts.toList
 | .buildSlice _ _ parts=>gJ parts.toList
 | .load _ a=>[a]
 | .store _ a x=>[a,x]
 | .nilCheck x=>[x]
 | .binOp _ _ x y _=>[x,y]
 | .unOp _ _ x=>[x]
 | .convert _ _ x=>[x]
 | .makeSlice _ l c=>[l,c]
 | .slice _ x lo hi _=>x::(lo.toList++hi.toList)
 | .fieldAddr _ x _=>[x]
 | .field _ x _=>[x]
 | .indexAddr _ x i=>[x,i]
 | .index _ x i=>[x,i]
 | .extract x _=>[x]
 | .makeFunc _ _ cs=>cs.toList
 | .call ⟨.value f,args,_⟩=>f::args.toList
 | .call ⟨_,args,_⟩=>args.toList
 | _=>[]
def AcI (o:Op):Bool:=(opsOf o).all KT
def YZ (nt:Nat):Option Tmp→Bool
 | some d=>d<nt
 | none=>true
def gN (nt:Nat) (o:Oper):Bool:=AcI o.op && YZ nt o.dst
def codeOk (nt:Nat):Code→Bool
 | .skip=>true
 | .region _ ops draw=>ops.all (gN nt) && (!draw || Region.lexB .any ops)
 | .seq a b=>codeOk nt a && codeOk nt b
 | .cond x a b=>KT x && (codeOk nt a && codeOk nt b)
 | .block _ b=>codeOk nt b
 | .loop b=>codeOk nt b
 | .exit _=>true
 | .ret=>true
 | .rangeFunc g ps a b=>KT g && (ps.toList.all (fun t=>decide (t<nt)) && (codeOk nt a && codeOk nt b))
 | _=>true
def AP9:LSt→LoopState
 | .ready=>.ready
 | .busy=>.busy
 | .over _=>.done
def AXS:AExit→Code
 | .normal=>.skip
 | .exit id=>.exit id
 | .ret=>.ret
def UU:LSt→Option Code
 | .over e=>some (AXS e)
 | _=>none
inductive BlkOk (w:World) (m:Mem) (φ:Pl) (b:Nat) (n:Ext):Blk→Prop
 | box {T:TypeId} {cs:List AV} {vs:List Value}:w.heap[b]?=some (.cells vs.toArray T (0,0))→vs.length=n.len→RepC m φ cs vs→(∀ o,m b o=none)→BlkOk w m φ b n (.box cs)
 | arr {T:TypeId} {k:Nat} {es:List (List IV)} {vs:List Value}:w.heap[b]?=some (.cells vs.toArray T (0,0))→vs.length=n.len→0<k→(∀ e∈es,e.length=k) →
  ICells m es.flatten (vs.take (k*es.length))→k*es.length≤n.len→(∀ o,m b o=none)→(∀ f,n.own f→f=b)→(∀ v∈vs,v.oneCell'=true)→BlkOk w m φ b n (.arr k es)
 | frz {k:Nat} {es:List (List IV)}:0<k→IElems m b 0 k es→BlkOk w m φ b n (.frz k es)
 | fbox {cs:List IV}:IAt m b 0 cs→BlkOk w m φ b n (.fbox cs)
 | tre {T:TypeId} {k:Nat} {es:List (List IV)} {vs:List Value} {F:List Nat}:w.heap[b]?=some (.cells vs.toArray T (0,0))→vs.length=n.len→0<k→(∀ e∈es,e.length=k) →
  UCells w m es.flatten (vs.take (k*es.length)) F→k*es.length≤n.len→(b::F).Nodup→(∀ f∈F,n.own f)→(∀ f,n.own f→∀ o,m f o=none)→(∀ v∈vs,v.oneCell'=true)→BlkOk w m φ b n (.tre k es)
 | loop {R:Rng} {cs:List AV} {s:LSt} {nt:Nat} {fn:FuncId} {tmps:Array Value} {dfr:Nat} :
  w.heap[b]?=some (.loop { state:=AP9 s,pending:=UU s,fn,tmps,params:=R.ps.toArray,assign:=R.asg,body:=R.body,defers:=dfr }) →
  nt≤tmps.size→(∀ p∈R.ps,p<nt)→codeOk nt R.asg=true∧codeOk nt R.body=true∧bK R.asg=true∧bK R.body=true→(∀ t,Rep m φ (aJ (X9 R.ts cs) t) (tmps.getD t undef))→(∀ o,m b o=none)→BlkOk w m φ b n (.loop R cs s)
def oD (w:World) (m:Mem):Prop:=∀ p∈AaL,(∃ T r,w.heap[p.1]?=some (.cells p.2 T r))∧m p.1 0≠none
theorem oD.on {w w':World} {m m':Mem} (h:oD w m) (hh:∀ b,b<w.heap.size→m b 0≠none→w'.heap[b]?=w.heap[b]?) (hm:∀ b,m b 0≠none→m' b 0≠none):oD w' m':=fun p hp=>by
 obtain⟨⟨T,r,e⟩,k⟩:=h p hp;exact⟨⟨T,r,(hh p.1 (zN.1 e).1 k).trans e⟩,hm _ k⟩
theorem oD.mem {w:World} {m m':Mem} (h:oD w m) (hm:MLe m m'):oD w m':=h.on (fun _ _ _=>rfl) fun b hb=>by
 cases e:m b 0 with
 | none=>exact absurd e hb
 | some v=>rw[hm _ _ _ e];simp
theorem oD.same {w w':World} {m:Mem} (h:oD w m) (hh:∀ b,b<w.heap.size→w'.heap[b]?=w.heap[b]?):oD w' m:=h.on (fun b hb _=>hh b hb) fun _ k=>k
theorem oD.aside {w w':World} {m:Mem} (h:oD w m) {D:Nat} (hoth:∀ x,x≠D→w'.heap[x]?=w.heap[x]?) (hm:∀ o,m D o=none):oD w' m:=h.on (fun b _ k=>hoth b fun e=>k (by rw[e];exact hm 0)) fun _ k=>k
structure Inv (w:World) (m:Mem) (φ:Pl) (st:Store):Prop where
 mem:kR w m
 live:∀ id blk,st id=some blk→∃ b n,φ id=some (b,n)∧(n.own b∧∀ f,n.own f→f<w.heap.size)∧BlkOk w m φ b n blk
 inj:∀ id id' b b' n n' blk blk' f,st id=some blk→st id'=some blk'→φ id=some (b,n)→φ id'=some (b',n')→n.own f→n'.own f→id=id'
 low:∀ id b n f,φ id=some (b,n)→n.own f→f<w.heap.size
 kn:oD w m
structure Tp (w w':World):Prop where
 tape:w'.tape=w.tape
 fwd:w.drawn≤w'.drawn
theorem Tp.refl (w:World):Tp w w:=⟨rfl,zO _⟩
theorem Tp.trans {w w1 w2:World} (b:Tp w1 w2) (a:Tp w w1):Tp w w2:=⟨b.tape.trans a.tape,xX a.fwd b.fwd⟩
structure Adv (w:World) (m:Mem) (φ:Pl) (w':World) (m':Mem) (φ':Pl):Prop where
 size:w.heap.size≤w'.heap.size
 os:w'.os=w.os
 tape:Tp w w'
 output:w'.output=w.output
 block:∀ b,b<w.heap.size→eD φ b→w'.heap[b]?=w.heap[b]?
 mle:MLe m m'
 mnew:∀ b,b<w.heap.size→eD φ b→∀ o,m' b o=m b o
 ple:PLe φ φ'
 pnew:∀ id b n f,φ' id=some (b,n)→n.own f→w.heap.size≤f∨¬ eD φ f
theorem eD.not {φ:Pl} {id b:Nat} {n:Ext} {f:Nat} (e:φ id=some (b,n)) (h:n.own f):¬ eD φ f:=fun k=>k id b n e h
theorem Adv.refl (w:World) (m:Mem) (φ:Pl):Adv w m φ w m φ :=
 ⟨Nat.le_refl _,rfl, .refl _,rfl,fun _ _ _=>rfl, .refl _,fun _ _ _ _=>rfl, .refl _,fun _ _ _ _ h h'=>.inr (eD.not h h')⟩
theorem Adv.range {w w':World} {m m':Mem} {φ φ':Pl} (a:Adv w m φ w' m' φ') {b:Nat} (hb:b<w.heap.size) (h:eD φ b):eD φ' b:=by
 intro id r n e ho
 rcases a.pnew id r n b e ho with h1|h1
 ·omega
 ·exact h1 h
theorem Adv.trans {w1 w2 w3:World} {m1 m2 m3:Mem} {φ1 φ2 φ3:Pl} (a:Adv w1 m1 φ1 w2 m2 φ2) (b:Adv w2 m2 φ2 w3 m3 φ3):Adv w1 m1 φ1 w3 m3 φ3:=by
 refine⟨Nat.le_trans a.size b.size,b.os.trans a.os,b.tape.trans a.tape,b.output.trans a.output,?_,a.mle.trans b.mle,?_,a.ple.trans b.ple,?_⟩
 ·intro x hx hn;rw[b.block x (zI hx a.size) (a.range hx hn),a.block x hx hn]
 ·intro x hx hn o;rw[b.mnew x (zI hx a.size) (a.range hx hn) o,a.mnew x hx hn o]
 ·intro id x n f h3 ho
  rcases b.pnew id x n f h3 ho with h4|h4
  ·exact .inl (xX a.size h4)
  ·by_cases hlt:f<w1.heap.size
   ·exact .inr fun hf=>h4 (a.range hlt hf)
   ·exact .inl (by omega)
theorem kR.lt {w:World} {m:Mem} (h:kR w m) {b o:Nat} {v:Value} (e:m b o=some v):b<w.heap.size:=by
 have:=h b o v e;simp only[World.cell?]at this;split at this
 ·rename_i c _ _ hc;exact(zN.1 hc).1
 ·cases this
theorem BlkOk.mono {w w':World} {m m':Mem} {φ φ':Pl} {b:Nat} {n:Ext} {blk:Blk} (h:BlkOk w m φ b n blk) (ho:n.own b) (hw:∀ f,n.own f→w'.heap[f]?=w.heap[f]?) (hm:MLe m m') (hp:PLe φ φ') (hn:∀ f,n.own f→∀ o,m' f o=m f o):BlkOk w' m' φ' b n blk:=by
 cases h with
 | box h1 h2 h3 h4=>exact .box ((hw b ho).trans h1) h2 (h3.mono hm hp) (fun o=>(hn b ho o).trans (h4 o))
 | arr h1 h2 h3 h4 h6 h7 h8 h9 h10=>exact .arr ((hw b ho).trans h1) h2 h3 h4 (h6.mono hm) h7 (fun o=>(hn b ho o).trans (h8 o)) h9 h10
 | frz h1 h2=>exact .frz h1 (h2.mono hm)
 | fbox h1=>exact .fbox (h1.mono hm)
 | loop h1 h2 h3 h4 h5 h6=>exact .loop ((hw b ho).trans h1) h2 h3 h4 (fun t=>(h5 t).mono hm hp) (fun o=>(hn b ho o).trans (h6 o))
 | tre h1 h2 h3 h4 h5 h6 h7 h8 h9 h10=>exact .tre ((hw b ho).trans h1) h2 h3 h4 (h5.mono hm fun f hf=>hw f (h8 f hf)) h6 h7 h8 (fun f hf o=>(hn f hf o).trans (h9 f hf o)) h10
theorem Addr.dP (b off n:Nat):(⟨b,off,none⟩:Addr).add n=⟨b,off+n,none⟩:=by
 unfold Addr.add;split
 ·rename_i h;subst h;rfl
 ·rfl
theorem ICells.length {m:Mem}:∀ {cs:List IV} {vs:List Value},ICells m cs vs→cs.length=vs.length
 | _,_, .nil=>rfl
 | _,_, .cons _ _ h=>by simp[h.length]
theorem RepC.length {m:Mem} {φ:Pl}:∀ {cs:List AV} {vs:List Value},RepC m φ cs vs→cs.length=vs.length
 | _,_, .nil=>rfl
 | _,_, .cons _ _ h=>by simp[h.length]
theorem RepL.length {m:Mem} {φ:Pl}:∀ {cs:List AV} {vs:List Value},RepL m φ cs vs→cs.length=vs.length
 | _,_, .nil=>rfl
 | _,_, .cons _ h=>by simp[h.length]
theorem ICells.one {m:Mem}:∀ {cs:List IV} {vs:List Value},ICells m cs vs→∀ v∈vs,v.oneCell'=true
 | _,_, .nil=>by simp
 | _,_, .cons _ o h=>by
  intro v hv
  rcases zS.1 hv with rfl|hv
  ·exact o
  ·exact h.one v hv
theorem RepC.one {m:Mem} {φ:Pl}:∀ {cs:List AV} {vs:List Value},RepC m φ cs vs→∀ v∈vs,v.oneCell'=true
 | _,_, .nil=>by simp
 | _,_, .cons _ o h=>by
  intro v hv
  rcases zS.1 hv with rfl|hv
  ·exact o
  ·exact h.one v hv
theorem ICells.append {m:Mem}:∀ {cs ds:List IV} {vs us:List Value},ICells m cs vs→ICells m ds us→ICells m (cs++ds) (vs++us)
 | _,_,_,_, .nil,h=>h
 | _,_,_,_, .cons a o b,h=>.cons a o (b.append h)
theorem ICells.take {m:Mem}:∀ (n:Nat) {cs:List IV} {vs:List Value},ICells m cs vs→ICells m (cs.take n) (vs.take n)
 | 0,_,_,_=>by simpa using ICells.nil
 | _+1,_,_, .nil=>by simpa using ICells.nil
 | n+1,_,_, .cons a o b=>.cons a o (b.take n)
theorem ICells.drop {m:Mem}:∀ (n:Nat) {cs:List IV} {vs:List Value},ICells m cs vs→ICells m (cs.drop n) (vs.drop n)
 | 0,_,_,h=>by simpa using h
 | _+1,_,_, .nil=>by simpa using ICells.nil
 | n+1,_,_, .cons _ _ b=>by simpa using b.drop n
theorem ICells.toC {m:Mem} (φ:Pl):∀ {cs:List IV} {vs:List Value},ICells m cs vs→RepC m φ (lF cs) vs
 | _,_, .nil=>.nil
 | _,_, .cons a o b=>.cons (.i a) o (b.toC φ)
theorem IAt.cells {m:Mem} {b:Nat}:∀ {off:Nat} {cs:List IV},IAt m b off cs→∃ vs,ICells m cs vs∧∀ j v,vs[j]?=some v→m b (off+j)=some v
 | _,_, .nil _ _=>⟨[], .nil,by simp⟩
 | off,_, .cons (v:=v) e a o r=>by
  obtain⟨vs,h1,h2⟩:=IAt.cells r;refine⟨v::vs, .cons a o h1,fun j u hu=>?_⟩
  cases j with
  | zero=>simp at hu;subst hu;simpa using e
  | succ j=>simp at hu;have:=h2 j u hu;rw[← this];congr 1;omega
theorem IAt.mk {m:Mem} {b:Nat}:∀ {cs:List IV} {vs:List Value} (off:Nat),ICells m cs vs→(∀ j v,vs[j]?=some v→m b (off+j)=some v)→IAt m b off cs
 | _,_,off, .nil,_=>.nil b off
 | _,_,off, .cons a o r,h=>.cons (by simpa using h 0 _ rfl) a o (IAt.mk (off+1) r fun j v hv=>by
  have:=h (j+1) v (by simpa using hv);rw[← this];congr 1;omega)
theorem IAt.dropE {m:Mem} {b:Nat}:∀ (n:Nat) {off:Nat} {cs:List IV},IAt m b off cs→n≤cs.length→IAt m b (off+n) (dropE n cs)
 | 0,_,_,h,_=>h
 | n+1,_,_, .nil _ _,h=>by simp at h
 | n+1,off,_, .cons _ _ _ r,h=>by
  have:=IAt.dropE n r (by simpa using h);rw[Av.dropE];rw[show off+(n+1)=off+1+n by omega];exact this
theorem ABD {α:Type}:∀ (n:Nat) (l:List α),dropE n l=l.drop n
 | 0,l=>by simp[dropE]
 | _+1,[]=>by simp[dropE]
 | n+1,_::r=>by simp[dropE,ABD n r]
theorem ZY {α:Type}:∀ (n:Nat) (l r:List α),CY n l=some r→r=l.take n∧n≤l.length
 | 0,l,r,h=>by simp[CY]at h;subst h;simp
 | _+1,[],r,h=>by simp[CY]at h
 | n+1,a::l,r,h=>by
  simp only[CY]at h;obtain⟨x,h1,h2⟩:=aI.1 h;obtain⟨rfl,h3⟩:=ZY n l x h1;injection h2 with h2;subst h2;simp;omega
theorem MH {α:Type} {cs:List α} {off n:Nat} {r:List α} (h:cut cs off n=some r):r=(cs.drop off).take n∧off+n≤cs.length∨(n=0∧r=[]):=by
 unfold cut at h;obtain⟨h1,h2⟩:=ZY _ _ _ h;rw[ABD]at h1 h2;simp only[zA2]at h2;by_cases hn:n=0
 ·subst hn;right;simpa using h1
 ·left;exact⟨h1,by omega⟩
theorem lW {α:Type}:∀ (cs:List α) (off:Nat) (xs r:List α),splice cs off xs=some r→r=cs.take off++xs++cs.drop (off+xs.length)∧off+xs.length≤cs.length
 | cs,0,[],r,h=>by simp[splice]at h;subst h;simp
 | [],0,_::_,r,h=>by simp[splice]at h
 | c::cs,0,x::xs,r,h=>by
  simp only[splice]at h;obtain⟨l,h1,h2⟩:=aI.1 h;obtain⟨rfl,h3⟩:=lW cs 0 xs l h1;injection h2 with h2;subst h2;simp at h3 ⊢;omega
 | [],_+1,_,r,h=>by simp[splice]at h
 | c::cs,n+1,xs,r,h=>by
  simp only[splice]at h;obtain⟨l,h1,h2⟩:=aI.1 h;obtain⟨rfl,h3⟩:=lW cs n xs l h1;injection h2 with h2;subst h2;refine⟨by simp[show n+1+xs.length=(n+xs.length)+1 by omega],by simp;omega⟩
theorem RepC.take {m:Mem} {φ:Pl}:∀ (n:Nat) {cs:List AV} {vs:List Value},RepC m φ cs vs→RepC m φ (cs.take n) (vs.take n)
 | 0,_,_,_=>by simpa using RepC.nil
 | _+1,_,_, .nil=>by simpa using RepC.nil
 | n+1,_,_, .cons a o b=>.cons a o (b.take n)
theorem RepC.drop {m:Mem} {φ:Pl}:∀ (n:Nat) {cs:List AV} {vs:List Value},RepC m φ cs vs→RepC m φ (cs.drop n) (vs.drop n)
 | 0,_,_,h=>by simpa using h
 | _+1,_,_, .nil=>by simpa using RepC.nil
 | n+1,_,_, .cons _ _ b=>by simpa using b.drop n
theorem RepC.append {m:Mem} {φ:Pl}:∀ {cs ds:List AV} {vs us:List Value},RepC m φ cs vs→RepC m φ ds us→RepC m φ (cs++ds) (vs++us)
 | _,_,_,_, .nil,h=>h
 | _,_,_,_, .cons a o b,h=>.cons a o (b.append h)
theorem ABX {m:Mem} {φ:Pl}:∀ {cs:List AV} {l:List IV} {vs:List Value},AKH cs=some l→RepC m φ cs vs→ICells m l vs
 | [],l,_,h, .nil=>by simp[AKH]at h;subst h;exact .nil
 | c::cs,l,_,h, .cons a o b=>by
  simp only[AKH]at h;unfold VZ at h;split at h
  ·rename_i v l' h';injection h with h;subst h
   cases a with
   | i a=>exact .cons a o (ABX h' b)
  ·cases h
theorem KW {m:Mem} {φ:Pl} {cs:List AV} {vs:List Value} (h:RepC m φ cs vs):Rep m φ (V6 cs) (.agg vs.toArray):=by
 unfold V6
 cases hl:AKH cs with
 | none=>exact .agg h
 | some l=>exact .i (.agg (ABX hl h))
theorem BO {m:Mem} {φ:Pl} {v:AV} {x:Value} {cs:List AV} (hc:cellsOf v=some cs) (h:Rep m φ v x):RepC m φ cs x.cells.toList:=by
 unfold cellsOf at hc;split at hc
 ·cases hc
 ·cases hc
 ·injection hc with hc;subst hc
  cases h with
  | agg h=>simpa [Value.cells]using h
 ·injection hc with hc;subst hc
  cases h with
  | i h=>cases h with
   | agg h=>simpa [Value.cells]using h.toC φ
 ·cases hc
 ·cases hc
 ·rename_i h1 h2 h3 h4 h5 h6;injection hc with hc;subst hc
  cases h with
  | junk=>exact absurd rfl h1
  | nils=>exact .cons .nils rfl .nil
  | i h=>cases h with
   | lit =>
    cases x<;>first
     | exact absurd rfl (h5 _)
     | exact absurd rfl (h6 _)
     | exact .cons (.i (.lit _)) rfl .nil
   | agg h=>exact absurd rfl (h4 _)
   | isl0 ao cap hc=>exact .cons (.i (.isl0 ao cap hc)) rfl .nil
   | isl a b c=>exact .cons (.i (.isl a b c)) rfl .nil
   | iref a=>exact .cons (.i (.iref a)) rfl .nil
  | own e=>exact .cons (.own e) rfl .nil
  | ownE e=>exact .cons (.ownE e) rfl .nil
  | osl e a b c d=>exact .cons (.osl e a b c d) rfl .nil
  | agg h=>exact absurd rfl (h3 _)
  | tup h=>exact absurd rfl (h2 _)
  | fn h=>exact .cons (.fn h) rfl .nil
  | yld e=>exact .cons (.yld e) rfl .nil
  | ydead b=>exact .cons (.ydead b) rfl .nil
theorem LB (m:Mem) (φ:Pl) (v:Value):Rep m φ (jK v) v:=by
 unfold jK;split
 ·exact .nils
 ·exact .i (.lit _)
theorem p9 (m:Mem) (φ:Pl):∀ (vs:List Value),(∀ v∈vs,v.oneCell'=true)→RepC m φ (eP vs) vs
 | [],_=>.nil
 | v::vs,h=>.cons (LB m φ v) (h v (by simp)) (p9 m φ vs fun u hu=>h u (by simp[hu]))
theorem AI1 (m:Mem) (φ:Pl) {v:Value} (h:ZB v=true):Rep m φ (FM v) v:=by
 unfold FM;split
 ·rename_i cs;have:=KW (p9 m φ cs.toList (fun v hv=>zQ.1 (by simpa only[ZB]using h) v hv));simpa using this
 ·exact LB m φ v
theorem rQ {m:Mem} {φ:Pl} {g:Bool} {cs:List AV} {v:AV} {vs:List Value} (h:rR g cs=some v) (hr:RepC m φ cs vs) :
 (g=true∧Rep m φ v (.agg vs.toArray))∨(g=false∧∃ x,vs=[x]∧Rep m φ v x):=by
 cases g with
 | true=>simp only[rR,Option.some.injEq]at h;subst h;exact .inl ⟨rfl,KW hr⟩
 | false =>
  unfold rR at h;split at h
  ·rename_i h1;cases h1
  ·injection h with h;subst h
   cases hr with
   | cons a o b=>cases b with
    | nil=>exact .inr ⟨rfl,_,rfl,a⟩
  ·cases h
theorem fH {m:Mem} {φ:Pl} {g:Bool} {cs:List IV} {v:AV} {vs:List Value} (h:iW g cs=some v) (hr:ICells m cs vs) :
 (g=true∧Rep m φ v (.agg vs.toArray))∨(g=false∧∃ x,vs=[x]∧Rep m φ v x):=by
 cases g with
 | true=>simp only[iW,Option.some.injEq]at h;subst h;exact .inl ⟨rfl, .i (.agg hr)⟩
 | false =>
  unfold iW at h;split at h
  ·rename_i h1;cases h1
  ·injection h with h;subst h
   cases hr with
   | cons a o b=>cases b with
    | nil=>exact .inr ⟨rfl,_,rfl, .i a⟩
  ·cases h
section types
variable {P:Program} {t:TypeId}
theorem jX {e:TypeId} (h:IY (bJ P t)=some e):P.underlying t=some (.slice e):=by
 unfold bJ at h;split at h<;>simp[IY]at h;rename_i h';rw[h',h]
theorem fZ {e:TypeId} (h:bJ P t=some (.slice e)):P.underlying t=some (.slice e):=by
 unfold bJ at h;split at h<;>simp at h;rename_i h';rw[h',h]
theorem nT {n:Nat} {e:TypeId} (h:bJ P t=some (.array n e)):P.underlying t=some (.array n e):=by
 unfold bJ at h;split at h<;>simp at h;rename_i h';rw[h',h.1,h.2]
theorem fC (h:bJ P t=some .string):P.underlying t=some .string:=by
 unfold bJ at h;split at h<;>simp at h;rename_i h';exact h'
theorem wN (h:bJ P t=some .bool):P.underlying t=some .bool:=by
 unfold bJ at h;split at h<;>simp at h;rename_i h';exact h'
theorem CR {k:IntKind} (h:bJ P t=some (.int k)):P.underlying t=some (.int k):=by
 unfold bJ at h;split at h<;>simp at h;rename_i h';rw[h',h]
theorem NA {d:DK} (h:bJ P t=some d):∃ u,P.underlying t=some u:=by
 unfold bJ at h
 cases hu:P.underlying t with
 | none=>simp[hu]at h
 | some u=>exact⟨u,rfl⟩
theorem jH {d:TypeDesc} (h:P.underlying t=some d) (w:World):(underlying t).run P w=.ok d w:=run_underlying h w
theorem DI {g:Bool} (h:EP (bJ P t)=some g) (w:World):(isAgg t).run P w=.ok g w:=by
 unfold bJ at h
 cases hu:P.underlying t with
 | none=>simp[hu,EP]at h
 | some u =>
  rw[hu]at h
  cases u<;>simp[EP]at h<;>subst h<;>simp[isAgg,run_underlying hu]
theorem dL {n:Nat} (h:iF P t=some n) (w:World):(sizeOf t).run P w=.ok n w:=by
 unfold iF at h
 cases hi:P.info? t with
 | none=>simp[hi]at h
 | some i=>simp[hi]at h;subst h;simp[sizeOf,typeInfo,hi]
theorem UH {n:Nat} (h:ZG P t=some n) (w:World):∃ i,(typeInfo t).run P w=.ok i w∧i.bytes=n∧P.info? t=some i:=by
 unfold ZG at h
 cases hi:P.info? t with
 | none=>simp[hi]at h
 | some i=>simp[hi]at h;subst h;exact⟨i,by simp[typeInfo,hi],rfl,rfl⟩
theorem DD {z:List Value} (h:zeroOf P t=some z) (w:World):∃ v,(zeroValue t).run P w=.ok v w∧v.cells.toList=z:=by
 have h:=(pR h).2
 cases hi:P.info? t with
 | none=>simp[hi]at h
 | some i =>
  cases hz:i.zero with
  | none=>simp[hi,hz]at h
  | some v=>simp[hi,hz]at h;exact⟨v,by simp[zeroValue,typeInfo,hi,hz],h⟩
theorem M8 {f:Nat} {p:TypeId×Nat} (h:dM P t f=some p):∃ fs:Array Field,∃ fd:Field,P.underlying t=some (.struct fs)∧fs[f]?=some fd∧fd.type=p.1∧fd.offset=p.2:=by
 unfold dM at h
 cases hu:P.underlying t with
 | none=>simp[hu]at h
 | some u =>
  rw[hu]at h
  cases u<;>simp at h
  rename_i fs;obtain⟨fd,h1,h2⟩:=h;exact⟨fs,fd,rfl,h1,by rw[← h2],by rw[← h2]⟩
end types
section mem
variable {P:Program} {w:World} {m:Mem} {φ:Pl} {st:Store}
def Out (w:World) (m:Mem) (φ:Pl) (nb:Nat) (v:AV) (st':Store) (x:Value) (w':World):Prop :=
 ∃ m' φ',Rep m' φ' v x∧Inv w' m' φ' st'∧Adv w m φ w' m' φ'∧∀ id,φ' id≠none→φ id≠none∨(nb≤id∧id<nb+wide)
theorem Out.same {nb:Nat} {v:AV} {x:Value} (h:Inv w m φ st) (hr:Rep m φ v x):Out w m φ nb v st x w :=
 ⟨m,φ,hr,h, .refl _ _ _,fun _ h=>.inl h⟩
theorem AI6 {b off:Nat} {cs l:List IV} {n:Nat} (hw:kR w m) (h:IAt m b off cs) (hc:cut cs 0 n=some l) :
 ∃ vs,ICells m l vs∧vs.length=n∧∀ j v,vs[j]?=some v→w.cell? ((⟨b,off,none⟩:Addr).add j)=some v:=by
 obtain⟨us,h1,h2⟩:=h.cells
 rcases MH hc with ⟨rfl,hl⟩|⟨rfl,rfl⟩
 ·refine⟨us.take n,by simpa using h1.take n,?_,fun j v hj=>?_⟩
  ·have:=h1.length;simp;omega
  ·rw[Addr.dP];apply hw;apply h2;rw[zF]at hj;split at hj
   ·exact hj
   ·cases hj
 ·exact⟨[], .nil,rfl,by simp⟩
theorem NG {t:TypeId} {n:Nat} {g:Bool} {a:Addr} {vs:List Value} (hs:iF P t=some n) (hg:EP (bJ P t)=some g) (hl:vs.length=n)
 (hc:∀ j v,vs[j]?=some v→w.cell? (a.add j)=some v) :
 (g=true→(loadVar t a).run P w=.ok (.agg vs.toArray) w)∧(g=false→∀ x,vs=[x]→(loadVar t a).run P w=.ok x w):=by
 constructor
 ·intro h;subst h;have h1:=run_loadCells_list (P:=P) w a vs hc;rw[hl]at h1;simp[loadVar,DI hg,dL hs,h1]
 ·intro h x hx;subst h;subst hx;have h1:=hc 0 x rfl;have h2:a.add 0=a:=by simp[Addr.add]
  rw[h2]at h1;simp[loadVar,DI hg,h1]
theorem bG {b:Nat} {T:TypeId} {vs:List Value} {fr:Nat×Nat} (h:w.heap[b]?=some (.cells vs.toArray T fr)) (o:Nat):w.cell? ⟨b,o,none⟩=vs[o]?:=by
 simp[World.cell?,h]
theorem vZ {k:Nat}:∀ {es:List (List IV)} {ix:Nat} {e:List IV},(∀ e∈es,e.length=k)→es[ix]?=some e→(es.flatten.drop (k*ix)).take k=e
 | [],ix,e,_,h=>by simp at h
 | d::es,0,e,hk,h=>by
  simp at h;subst h;have:=hk d (by simp);subst this;simp
 | d::es,ix+1,e,hk,h=>by
  have hd:=hk d (by simp);have:=vZ (k:=k) (es:=es) (ix:=ix) (e:=e) (fun e he=>hk e (by simp[he])) (by simpa using h);rw[← this];simp only[z8];rw[zE5];rw[show k*(ix+1)=d.length+k*ix by rw[hd,zC];omega];have h0:List.drop (d.length+k*ix) d=[]:=by simp
  rw[h0,yO];congr 2;omega
theorem cZ {k:Nat}:∀ {es:List (List IV)},(∀ e∈es,e.length=k)→es.flatten.length=k*es.length
 | [],_=>by simp
 | d::es,h=>by
  have hd:=h d (by simp);have:=cZ (k:=k) (es:=es) (fun e he=>h e (by simp[he]));rw[z8,zL,hd,this];simp[zC];omega
theorem JG {b k:Nat}:∀ {off:Nat} {es:List (List IV)} {ix:Nat} {e:List IV},IElems m b off k es→es[ix]?=some e→IAt m b (off+k*ix) e∧e.length=k
 | _,_,ix,e, .nil _ _ _,h=>by simp at h
 | off,_,0,e, .cons a hl _,h=>by simp at h;subst h;exact⟨by simpa using a,hl⟩
 | off,_,ix+1,e, .cons _ _ r,h=>by
  have:=JG r (by simpa using h);refine⟨?_,this.2⟩;have h2:=this.1
  rwa [show off+k*(ix+1)=off+k+k*ix by rw[zC];omega]
theorem uU {b k:Nat}:∀ {off:Nat} {es:List (List IV)},IElems m b off k es→∀ e∈es,e.length=k
 | _,_, .nil _ _ _=>by simp
 | _,_, .cons _ hl r=>by
  intro e he
  rcases zS.1 he with rfl|he
  ·exact hl
  ·exact uU r e he
theorem PH {b k:Nat}:∀ (n:Nat) {off:Nat} {es:List (List IV)},IElems m b off k es→IElems m b (off+k*n) k (es.drop n)
 | 0,_,_,h=>by simpa using h
 | n+1,off,_, .nil _ _ _=>by simpa using IElems.nil b _ k
 | n+1,off,_, .cons _ _ r=>by
  have:=PH n r;rw[show off+k*(n+1)=off+k+k*n by rw[zC];omega];simpa using this
theorem PE {b k:Nat}:∀ (n:Nat) {off:Nat} {es:List (List IV)},IElems m b off k es→IElems m b off k (es.take n)
 | 0,off,_,h=>by simpa using IElems.nil b off k
 | n+1,off,_, .nil _ _ _=>by simpa using IElems.nil b _ k
 | n+1,off,_, .cons a l r=>by simpa using IElems.cons a l (PE n r)
theorem IE {b k off:Nat} {es:List (List IV)} (lo n:Nat) (h:IElems m b off k es):IElems m b (off+k*lo) k (window es lo n):=PE n (PH lo h)
theorem gV {b k:Nat}:∀ {es:List (List IV)} {vs:List Value} (off:Nat),(∀ e∈es,e.length=k)→ICells m es.flatten vs→(∀ j v,vs[j]?=some v→m b (off+j)=some v)→IElems m b off k es
 | [],_,off,_,_,_=>.nil b off k
 | e::es,vs,off,hk,hc,hm=>by
  have hl:=hk e (by simp);have h1:=hc.take k;have h2:=hc.drop k;rw[z8,← hl,zC0]at h1;rw[z8,← hl,List.drop_left]at h2;refine .cons (IAt.mk off h1 fun j v hj=>?_) hl (gV (off+k) (fun e he=>hk e (by simp[he])) h2 fun j v hj=>?_)
  ·rw[zF]at hj;split at hj
   ·exact hm j v hj
   ·cases hj
  ·rw[yJ]at hj;have:=hm _ v hj;rw[← this,hl];congr 1;omega
end mem
theorem cK {w:World} {m:Mem} {φ:Pl} {st:Store} (hi:Inv w m φ st) {id b:Nat} {n:Ext} {blk:Blk} (e:φ id=some (b,n)) (hst:st id=some blk):(n.own b∧∀ f,n.own f→f<w.heap.size)∧BlkOk w m φ b n blk:=by
 obtain⟨b',n',e',hb,hok⟩:=hi.live _ _ hst;rw[e]at e';injection e' with e';injection e' with e1 e2;subst e1;subst e2
 exact⟨hb,hok⟩
theorem MQ {w:World} {m:Mem} {φ:Pl} {st:Store} (hi:Inv w m φ st) {id b:Nat} {n:Ext} {blk:Blk} (e:φ id=some (b,n)) (hst:st id=some blk):b<w.heap.size∧BlkOk w m φ b n blk :=
 have h:=cK hi e hst
 ⟨h.1.2 _ h.1.1,h.2⟩
theorem VB {w:World} {m:Mem} {φ:Pl} {st:Store} {g:Bool} {n:Nat} {a v:AV} {x:Value} (hi:Inv w m φ st) (hr:Rep m φ a x) (h:loadAt g n st a=some v) :
 ∃ ad vs,x=.pointer (some ad)∧vs.length=n∧(∀ j u,vs[j]?=some u→w.cell? (ad.add j)=some u)∧((g=true∧Rep m φ v (.agg vs.toArray))∨(g=false∧∃ y,vs=[y]∧Rep m φ v y)):=by
 cases hr with
 | junk=>simp[loadAt]at h
 | nils=>simp[loadAt]at h
 | osl=>simp[loadAt]at h
 | agg=>simp[loadAt]at h
 | tup=>simp[loadAt]at h
 | fn=>simp[loadAt]at h
 | yld=>simp[loadAt]at h
 | ydead=>simp[loadAt]at h
 | @own id off b n' e =>
  simp only[loadAt]at h
  cases hst:st id with
  | none=>rw[hst]at h;simp[NK]at h
  | some blk =>
   rw[hst]at h;obtain⟨hb,hok⟩:=MQ hi e hst
   cases hok with
   | arr=>simp[NK]at h
   | tre=>simp[NK]at h
   | loop=>simp[NK]at h
   | frz=>simp[NK]at h
   | @box T cs vs hh hl hc hm =>
    simp only[NK]at h;obtain⟨l,h1,h2⟩:=aI.1 h
    rcases MH h1 with ⟨rfl,hle⟩|⟨rfl,rfl⟩
    ·have hlen:=hc.length;refine⟨_,(vs.drop off).take n,rfl,by simp;omega,fun j u hj=>?_,rQ h2 ((hc.drop off).take n)⟩;rw[Addr.dP,bG hh];rw[zF]at hj;split at hj
     ·rwa [yJ]at hj
     ·cases hj
    ·exact⟨_,[],rfl,rfl,by simp,rQ h2 .nil⟩
   | @fbox cs ha =>
    simp only[NK]at h;obtain⟨l,h1,h2⟩:=aI.1 h;obtain⟨us,h3,h4⟩:=ha.cells
    rcases MH h1 with ⟨rfl,hle⟩|⟨rfl,rfl⟩
    ·have hlen:=h3.length;refine⟨_,(us.drop off).take n,rfl,by simp;omega,fun j u hj=>?_,fH h2 ((h3.drop off).take n)⟩;rw[Addr.dP];apply hi.mem;rw[zF]at hj;split at hj
     ·rw[yJ]at hj;have:=h4 _ _ hj
      rwa [zH]at this
     ·cases hj
    ·exact⟨_,[],rfl,rfl,by simp,fH h2 .nil⟩
 | @ownE id k ix off b n' e =>
  simp only[loadAt]at h
  cases hst:st id with
  | none=>rw[hst]at h;simp[NJ]at h
  | some blk =>
   rw[hst]at h;obtain⟨hb,hok⟩:=MQ hi e hst
   cases hok with
   | box=>simp[NJ]at h
   | tre=>simp[NJ]at h
   | loop=>simp[NJ]at h
   | fbox=>simp[NJ]at h
   | @arr T k' es vs hh hl hpos hw1 hc hfit hm hown1 hone =>
    simp only[NJ]at h;obtain⟨hk,h0⟩:=aQ.1 h;have hk:=zR hk;subst hk;obtain⟨ec,h1,h2⟩:=aI.1 h0;rw[fA]at h1;obtain⟨l,h3,h4⟩:=aI.1 h2;have hfl:=vZ hw1 h1;have hel:ec.length=k':=hw1 ec (zU h1);have hixl:ix<es.length:=(zZ.1 h1).1;have hce:=(hc.drop (k'*ix)).take k';rw[hfl]at hce
    have hmul:k'*ix+k'≤k'*es.length:=by
     have:=zD k' (show ix+1≤es.length by omega)
     rwa [zC,zB8]at this
    rcases MH h3 with ⟨rfl,hle⟩|⟨rfl,rfl⟩
    ·refine⟨_,((((vs.take (k'*es.length)).drop (k'*ix)).take k').drop off).take n,rfl,by simp;omega,fun j u hj=>?_,fH h4 ((hce.drop off).take n)⟩;rw[Addr.dP,bG hh];rw[zF]at hj;split at hj
     ·rw[yJ,zF]at hj;split at hj
      ·rw[yJ,zF]at hj;split at hj
       ·rw[← hj];congr 1;omega
       ·cases hj
      ·cases hj
     ·cases hj
    ·exact⟨_,[],rfl,rfl,by simp,fH h4 .nil⟩
   | @frz k' es hpos he =>
    simp only[NJ]at h;obtain⟨hk,h0⟩:=aQ.1 h;have hk:=zR hk;subst hk;obtain⟨ec,h1,h2⟩:=aI.1 h0;rw[fA]at h1;obtain⟨l,h3,h4⟩:=aI.1 h2;obtain⟨hat,hel⟩:=JG he h1;obtain⟨us,h5,h6⟩:=hat.cells
    rcases MH h3 with ⟨rfl,hle⟩|⟨rfl,rfl⟩
    ·have hlen:=h5.length;refine⟨_,(us.drop off).take n,rfl,by simp;omega,fun j u hj=>?_,fH h4 ((h5.drop off).take n)⟩;rw[Addr.dP];apply hi.mem;rw[zF]at hj;split at hj
     ·rw[yJ]at hj;have:=h6 _ _ hj;rw[← this];congr 1;omega
     ·cases hj
    ·exact⟨_,[],rfl,rfl,by simp,fH h4 .nil⟩
 | i hr =>
  cases hr with
  | lit=>simp[loadAt]at h
  | agg=>simp[loadAt]at h
  | isl0=>simp[loadAt]at h
  | isl=>simp[loadAt]at h
  | iref ha =>
   simp only[loadAt]at h;obtain⟨l,h1,h2⟩:=aI.1 h;obtain⟨vs,h3,h4,h5⟩:=AI6 hi.mem ha h1;exact⟨_,vs,rfl,h4,h5,fH h2 h3⟩
theorem BA {C:Ctx} {w:World} {m:Mem} {φ:Pl} {st:Store} {t:TypeId} {a v:AV} {x:Value} (hi:Inv w m φ st) (hr:Rep m φ a x) (h:L9 C t a st=some v) :
 ∃ ad y,x=.pointer (some ad)∧(loadVar t ad).run C.P w=.ok y w∧Rep m φ v y:=by
 unfold L9 at h;obtain⟨n,hs,h1⟩:=aI.1 h;obtain⟨g,hg,h2⟩:=aI.1 h1;obtain⟨ad,vs,hx,hl,hc,hv⟩:=VB hi hr h2;have h0:=NG (P:=C.P) hs hg hl hc
 rcases hv with ⟨h3,h4⟩|⟨h3,y,h4,h5⟩
 ·exact⟨ad,_,hx,h0.1 h3,h4⟩
 ·exact⟨ad,y,hx,h0.2 h3 y h4,h5⟩
theorem d9 (w:World) (o:Obj) {b:Nat} (h:b<w.heap.size):(w.alloc o).heap[b]?=w.heap[b]?:=by
 show(w.heap.push o)[b]?=_;rw[Array.getElem?_push,if_neg (by omega)]
theorem dS (w:World) (o:Obj):(w.alloc o).heap[w.heap.size]?=some o:=by
 show(w.heap.push o)[w.heap.size]?=_;rw[Array.getElem?_push,if_pos rfl]
theorem cell_of_heap {w w':World} {b o:Nat} (h:w'.heap[b]?=w.heap[b]?):w'.cell? ⟨b,o,none⟩=w.cell? ⟨b,o,none⟩:=by
 simp[World.cell?,h]
theorem kR.push {w:World} {m:Mem} (h:kR w m) (o:Obj):kR (w.alloc o) m:=fun b j v e=>by
 rw[cell_of_heap (d9 w o (h.lt e))];exact h b j v e
def kW (φ:Pl) (id:Nat) (p:Nat×Ext):Pl:=fun j=>if j=id then some p else φ j
theorem PLe.kW {φ:Pl} {id:Nat} {p:Nat×Ext} (h:φ id=none):PLe φ (kW φ id p):=fun j b n e=>by
 refine⟨n,?_,rfl,fun _ h=>h⟩;unfold Av.kW;split
 ·rename_i hj;subst hj;rw[h]at e;cases e
 ·exact e
theorem mO {φ:Pl} {id j:Nat} {p:Nat×Ext} (h:j≠id):kW φ id p j=φ j:=by simp[kW,h]
theorem bP (φ:Pl) (id:Nat) (p:Nat×Ext):kW φ id p id=some p:=by simp[kW]
theorem qY {st:Store} {φ:Pl} {id i b:Nat} {n:Ext} {p:Nat×Ext} {blk:Option Blk} {b1:Blk} (hne:i≠id) (hi:upd st id blk i=some b1) (h1:kW φ id p i=some (b,n)):st i=some b1∧φ i=some (b,n):=by
 unfold upd at hi;unfold kW at h1;rw[if_neg hne]at hi h1;exact⟨hi,h1⟩
theorem Inv.push {w:World} {m:Mem} {φ:Pl} {st:Store} (h:Inv w m φ st) {id:Nat} (hf:φ id=none) (o:Obj) {n:Nat} {blk:Blk}
 (hb:BlkOk (w.alloc o) m (kW φ id (w.heap.size,one w.heap.size n)) w.heap.size (one w.heap.size n) blk) :
 Inv (w.alloc o) m (kW φ id (w.heap.size,one w.heap.size n)) (upd st id (some blk))∧Adv w m φ (w.alloc o) m (kW φ id (w.heap.size,one w.heap.size n)):=by
 have hp:=PLe.kW (p:=(w.heap.size,one w.heap.size n)) hf;refine⟨⟨h.mem.push o,?_,?_,fun i b n' f h2 ho=>?_,h.kn.same fun b hb=>d9 w o hb⟩,⟨by simp,rfl,⟨rfl,zO _⟩,rfl,fun b hb _=>d9 w o hb, .refl _,fun _ _ _ _=>rfl,hp,?_⟩⟩
 ·intro j blk' hj;unfold upd at hj;split at hj
  ·rename_i e;subst e;injection hj with hj;subst hj
   exact⟨_,_,bP _ _ _,⟨rfl,fun f hf=>by have hf:f=w.heap.size:=hf;subst hf;simp⟩,hb⟩
  ·rename_i hne;obtain⟨b,n',e,hlt,hok⟩:=h.live _ _ hj;exact⟨b,n',by rw[mO hne];exact e,⟨hlt.1,fun f hf=>by have:=hlt.2 f hf;simp;omega⟩,hok.mono hlt.1 (fun f hf=>d9 w o (hlt.2 f hf)) (.refl _) hp fun _ _ _=>rfl⟩
 ·intro i j b b' n1 n2 b1 b2 f hi hj h1 h2 o1 o2
  have lt:∀ i b n1 b1,i≠id→upd st id (some blk) i=some b1→kW φ id (w.heap.size,one w.heap.size n) i=some (b,n1)→n1.own f→f<w.heap.size:=by
   intro i b n1 b1 hne hi h1 ho;obtain⟨k1,k2⟩:=qY hne hi h1;exact(cK h k2 k1).1.2 f ho
  by_cases hii:i=id
  ·subst hii;by_cases hjj:j=i
   ·exact hjj.symm
   ·have:=lt j b' n2 b2 hjj hj h2 o2;rw[bP]at h1;injection h1 with h1;injection h1 with e1 e2;subst e2
    have o1:f=w.heap.size:=o1;omega
  ·by_cases hjj:j=id
   ·subst hjj;have:=lt i b n1 b1 hii hi h1 o1;rw[bP]at h2;injection h2 with h2;injection h2 with e1 e2;subst e2
    have o2:f=w.heap.size:=o2;omega
   ·have k1:=qY hii hi h1;have k2:=qY hjj hj h2;exact h.inj i j b b' n1 n2 b1 b2 f k1.1 k2.1 k1.2 k2.2 o1 o2
 ·unfold kW at h2;split at h2
  ·injection h2 with h2;injection h2 with e1 e2;subst e2;have ho:f=w.heap.size:=ho;simp;omega
  ·have:=h.low i b n' f h2 ho;simp;omega
 ·intro i b n' f h2 ho;unfold kW at h2;split at h2
  ·injection h2 with h2;injection h2 with e1 e2;subst e2;have ho:f=w.heap.size:=ho;exact .inl (by omega)
  ·exact .inr (eD.not h2 ho)
theorem Inv.more {w:World} {m:Mem} {φ:Pl} {st:Store} (h:Inv w m φ st) (o:Obj):Inv (w.alloc o) m φ st∧Adv w m φ (w.alloc o) m φ:=by
 refine⟨⟨h.mem.push o,?_,h.inj,fun i b n f h2 ho=>by have:=h.low i b n f h2 ho;simp;omega,h.kn.same fun b hb=>d9 w o hb⟩,⟨by simp,rfl,⟨rfl,zO _⟩,rfl,fun b hb _=>d9 w o hb, .refl _,fun _ _ _ _=>rfl, .refl _,fun i b n f h2 ho=>.inr (eD.not h2 ho)⟩⟩;intro j blk hj;obtain⟨b,n',e,hlt,hok⟩:=h.live _ _ hj;exact⟨b,n',e,⟨hlt.1,fun f hf=>by have:=hlt.2 f hf;simp;omega⟩,hok.mono hlt.1 (fun f hf=>d9 w o (hlt.2 f hf)) (.refl _) (.refl _) fun _ _ _=>rfl⟩
theorem Inv.aside {w w':World} {m:Mem} {φ:Pl} {st:Store} (h:Inv w m φ st) {D:Nat} (hz:w'.heap.size=w.heap.size) (hoth:∀ x,x≠D→w'.heap[x]?=w.heap[x]?) (hm:∀ o,m D o=none) (hf:eD φ D):Inv w' m φ st:=by
 refine⟨?_,?_,h.inj,fun i b n f h2 ho=>by have:=h.low i b n f h2 ho;omega,h.kn.aside hoth hm⟩
 ·intro x o v e;have:x≠D:=fun e'=>by subst e';rw[hm o]at e;cases e
  rw[cell_of_heap (hoth x this)];exact h.mem x o v e
 ·intro j blk hj;obtain⟨b,n',e,hlt,hok⟩:=h.live _ _ hj;have:∀ f,n'.own f→f≠D:=fun f hf1 e'=>by subst e';exact hf j b n' e hf1
  exact⟨b,n',e,⟨hlt.1,fun f hf=>by rw[hz];exact hlt.2 f hf⟩,hok.mono hlt.1 (fun f hf=>hoth f (this f hf)) (.refl _) (.refl _) fun _ _ _=>rfl⟩
theorem jW {φ:Pl} {id nb:Nat} {p:Nat×Ext} (h1:nb≤id) (h2:id<nb+wide):∀ j,kW φ id p j≠none→φ j≠none∨(nb≤j∧j<nb+wide):=by
 intro j hj;unfold kW at hj;split at hj
 ·rename_i e;subst e;exact .inr ⟨h1,h2⟩
 ·exact .inl hj
theorem gY (nb:Nat):nb<nb+wide:=by unfold wide;omega
theorem Inv.AcF {w w':World} {m:Mem} {φ:Pl} {st:Store} (h:Inv w m φ st) {id b:Nat} {n:Ext} {blk blk':Blk} (hs:st id=some blk) (he:φ id=some (b,n)) (hm:∀ o,m b o=none) (hz:w'.heap.size=w.heap.size) (hoth:∀ x,x≠b→w'.heap[x]?=w.heap[x]?) (hos:w'.os=w.os∧Tp w w'∧w'.output=w.output)
 (hb:BlkOk w' m φ b n blk'):Inv w' m φ (upd st id (some blk'))∧Adv w m φ w' m φ:=by
 have hown:=(cK h he hs).1;refine⟨⟨?_,?_,?_,fun i x n' f h1 ho=>by rw[hz];exact h.low i x n' f h1 ho,h.kn.aside hoth hm⟩,⟨by omega,hos.1,hos.2.1,hos.2.2,fun x _ hn=>hoth x fun e=>hn id b n he (by rw[e];exact hown.1), .refl _,fun _ _ _ _=>rfl, .refl _,fun i x n' f h1 ho=>.inr (eD.not h1 ho)⟩⟩
 ·intro x o v e;have:x≠b:=fun e'=>by subst e';rw[hm o]at e;cases e
  rw[cell_of_heap (hoth x this)];exact h.mem x o v e
 ·intro j blk1 hj;unfold upd at hj;split at hj
  ·rename_i e;subst e;injection hj with hj;subst hj
   exact⟨b,n,he,⟨hown.1,fun f hf=>by rw[hz];exact hown.2 f hf⟩,hb⟩
  ·rename_i hne;obtain⟨b',n',e',hlt,hok⟩:=h.live _ _ hj;have:∀ f,n'.own f→f≠b:=fun f hf e=>by subst e;exact hne (h.inj _ _ _ _ _ _ _ _ _ hj hs e' he hf hown.1)
   exact⟨b',n',e',⟨hlt.1,fun f hf=>by rw[hz];exact hlt.2 f hf⟩,hok.mono hlt.1 (fun f hf=>hoth f (this f hf)) (.refl _) (.refl _) fun _ _ _=>rfl⟩
 ·intro i j x x' n1 n2 b1 b2 f hi hj h1 h2 o1 o2
  have key:∀ i b1,upd st id (some blk') i=some b1→∃ b2,st i=some b2:=by
   intro i b1 hi;unfold upd at hi;split at hi
   ·rename_i e;subst e;exact⟨_,hs⟩
   ·exact⟨_,hi⟩
  obtain⟨_,k1⟩:=key i b1 hi;obtain⟨_,k2⟩:=key j b2 hj;exact h.inj i j x x' n1 n2 _ _ f k1 k2 h1 h2 o1 o2
theorem Inv.set {w:World} {m:Mem} {φ:Pl} {st:Store} (h:Inv w m φ st) {id b:Nat} {n:Ext} {blk blk':Blk} (hs:st id=some blk) (he:φ id=some (b,n)) (hm:∀ o,m b o=none) (cs:Array Value)
 (hb:BlkOk (w.setRow b cs) m φ b n blk'):Inv (w.setRow b cs) m φ (upd st id (some blk'))∧Adv w m φ (w.setRow b cs) m φ :=
 h.AcF hs he hm (by simp) (fun x hx=>setRow_other w b x cs hx) ⟨rfl,⟨rfl,zO _⟩,rfl⟩ hb
theorem Inv.AWQ {w w0:World} {m:Mem} {φ:Pl} {st:Store} (hi:Inv w m φ st) {id nb b:Nat} {n:Ext} {blk blk0:Blk} (hst:st id=some blk0) (eφ:φ id=some (b,n)) (hnb:φ nb=none) (hblk:BlkOk w m φ b n blk) (ha:Adv w0 m φ w m φ) :
 Inv w m (kW φ nb (b,n)) (upd (upd st id none) nb (some blk))∧Adv w0 m φ w m (kW φ nb (b,n)):=by
 have hp:=PLe.kW (p:=(b,n)) hnb;have hne:nb≠id:=fun e=>by subst e;rw[hnb]at eφ;cases eφ
 have hown:=(cK hi eφ hst).1;refine⟨⟨hi.mem,?_,?_,fun i b' n' f h11 ho=>?_,hi.kn⟩,⟨ha.size,ha.os,ha.tape,ha.output,ha.block, .refl _,ha.mnew,hp,?_⟩⟩
 ·intro j blk' hj;unfold upd at hj;split at hj
  ·rename_i e;subst e;injection hj with hj;subst hj
   exact⟨b,n,bP _ _ _,hown,hblk.mono hown.1 (fun _ _=>rfl) (.refl _) hp fun _ _ _=>rfl⟩
  ·rename_i hj1;split at hj
   ·cases hj
   ·obtain⟨b',n',e',hlt,hok'⟩:=hi.live _ _ hj;exact⟨b',n',by rw[mO hj1];exact e',hlt,hok'.mono hlt.1 (fun _ _=>rfl) (.refl _) hp fun _ _ _=>rfl⟩
 ·intro i j b1 b1' n1 n2 b2 b3 f h10 h11 h12 h13 o1 o2
  have key:∀ i b1 n1 b2,upd (upd st id none) nb (some blk) i=some b2→kW φ nb (b,n) i=some (b1,n1)→(i=nb∧n1=n)∨(i≠nb∧i≠id∧st i=some b2∧φ i=some (b1,n1)):=by
   intro i b1 n1 b2 h1 h2;unfold upd at h1;unfold kW at h2;split at h1
   ·rename_i e;subst e;rw[if_pos rfl]at h2;injection h2 with h2;injection h2 with e1 e2;exact .inl ⟨rfl,e2.symm⟩
   ·rename_i hne1;rw[if_neg hne1]at h2;split at h1
    ·cases h1
    ·rename_i hne2;exact .inr ⟨hne1,hne2,h1,h2⟩
  have q1:=key i b1 n1 b2 h10 h12;have q2:=key j b1' n2 b3 h11 h13
  rcases q1 with ⟨rfl,rfl⟩|⟨p1,p2,p3,p4⟩
  ·rcases q2 with ⟨rfl,_⟩|⟨p1,p2,p3,p4⟩
   ·rfl
   ·exact absurd (hi.inj _ _ _ _ _ _ _ _ _ p3 hst p4 eφ o2 o1) p2
  ·rcases q2 with ⟨rfl,rfl⟩|⟨q1,q2,q3,q4⟩
   ·exact absurd (hi.inj _ _ _ _ _ _ _ _ _ p3 hst p4 eφ o1 o2) p2
   ·exact hi.inj _ _ _ _ _ _ _ _ _ p3 q3 p4 q4 o1 o2
 ·unfold kW at h11;split at h11
  ·injection h11 with h11;injection h11 with e1 e2;subst e2;exact hi.low _ _ _ f eφ ho
  ·exact hi.low _ _ _ f h11 ho
 ·intro i b' n' f h11 ho;unfold kW at h11;split at h11
  ·injection h11 with h11;injection h11 with e1 e2;subst e2;exact .inr (eD.not eφ ho)
  ·exact .inr (eD.not h11 ho)
theorem Inv.forget {w:World} {m:Mem} {φ:Pl} {st st':Store} (h:Inv w m φ st) (hs:∀ id blk,st' id=some blk→st id=some blk):Inv w m φ st' :=
 ⟨h.mem,fun _ _ e=>h.live _ _ (hs _ _ e),fun i j b b' n1 n2 b1 b2 f hi hj h1 h2=>h.inj i j b b' n1 n2 b1 b2 f (hs _ _ hi) (hs _ _ hj) h1 h2,h.low,h.kn⟩
def AdO:Blk→Nat
 | .box cs=>cs.length
 | .arr k es=>k*es.length
 | _=>0
open Classical in
noncomputable def JC (w:World) (m:Mem) (φ:Pl) (st:Store) (S:List Nat):Mem:=fun b o =>
 match m b o with
 | some v=>some v
 | none=>if ∃ id∈S,∃ n blk,φ id=some (b,n)∧st id=some blk∧o<AdO blk then w.cell? ⟨b,o,none⟩else none
theorem AY (w:World) (m:Mem) (φ:Pl) (st:Store) (S:List Nat):MLe m (JC w m φ st S):=fun b o v e=>by simp[JC,e]
theorem AS5 {w:World} {m:Mem} {φ:Pl} {st:Store} (h:kR w m) (S:List Nat):kR w (JC w m φ st S):=fun b o v e=>by
 unfold JC at e;split at e
 ·rename_i u hu;injection e with e;subst e;exact h _ _ _ hu
 ·split at e
  ·exact e
  ·cases e
theorem OO {w:World} {m:Mem} {φ:Pl} {st:Store} {S:List Nat} {b:Nat} (h:∀ id∈S,∀ n,st id≠none→φ id≠some (b,n)) (o:Nat):JC w m φ st S b o=m b o:=by
 unfold JC
 cases hm:m b o with
 | some v=>rfl
 | none =>
  simp only;rw[if_neg];rintro⟨id,hs,n,blk,e,hst,_⟩;exact h id hs n (by rw[hst];simp) e
theorem AHR {w:World} {m:Mem} {φ:Pl} {st:Store} {S:List Nat} {id b o:Nat} {n:Ext} {blk:Blk} (hS:id∈S) (e:φ id=some (b,n)) (hst:st id=some blk)
 (hl:o<AdO blk) (hm:m b o=none):JC w m φ st S b o=w.cell? ⟨b,o,none⟩:=by
 unfold JC;rw[hm];simp only;rw[if_pos ⟨id,hS,n,blk,e,hst,hl⟩]
def pV:Ups→List Nat
 | []=>[]
 | p::r=>p.1::pV r
theorem u7:∀ (a b:Ups),pV (a++b)=pV a++pV b
 | [],_=>rfl
 | p::a,b=>by simp[pV,u7 a b]
def AYV (w:World) (m:Mem) (φ:Pl) (st:Store) (m':Mem) (p:Nat×Blk):Prop :=
 ∃ b n blk,φ p.1=some (b,n)∧(n.own b∧∀ f,n.own f→f<w.heap.size)∧st p.1=some blk∧(∀ o,m b o=none)∧BlkOk w m' φ b n p.2
theorem YR {w:World} {m:Mem} {φ:Pl} {st:Store} (hi:Inv w m φ st) (S:List Nat) {id k off len:Nat} {iv:IV} {us:Ups} {x:Value} (h:wJ id k off len (st id)=some (iv,us)) (hS:∀ j∈pV us,j∈S) (hr:Rep m φ (.osl id k off len) x) :
 IRep (JC w m φ st S) iv x∧∀ p∈us,AYV w m φ st (JC w m φ st S) p:=by
 cases hr with
 | @osl _ _ _ _ cap b n ao e hlc hcap ha1 ha2 =>
  cases hst:st id with
  | none=>rw[hst]at h;simp[wJ]at h
  | some blk =>
   rw[hst]at h;obtain⟨hb,hok⟩:=cK hi e hst
   have fin:∀ {es:List (List IV)},IElems (JC w m φ st S) b 0 k es→off+len≤es.length→IRep (JC w m φ st S) (.isl (window es off len)) (.slice ao len cap):=by
    intro es he hle;have hw:=IE off len he;have hl:(window es off len).length=len:=by simp[window];omega
    by_cases h0:window es off len=[]
    ·rw[h0]at hl ⊢;simp at hl;subst hl;exact .isl0 ao cap ha2
    ·have hc0:cap≠0:=fun hc=>by
      apply h0;apply xA;omega
     have:=ha1 hc0;subst this;have:=IRep.isl h0 hw (cap:=cap) (by omega)
     rwa [hl,zH]at this
   cases hok with
   | box=>simp[wJ]at h
   | fbox=>simp[wJ]at h
   | tre=>simp[wJ]at h
   | loop=>simp[wJ]at h
   | @arr T k' es vs hh hl hpos hw1 hc hfit hm hown1 hone =>
    simp only[wJ]at h;obtain⟨h1,h2⟩:=aQ.1 h;obtain⟨h3,h4⟩:=zR h1;subst h3;injection h2 with h2;injection h2 with h5 h6;subst h5;subst h6;have hin:id∈S:=hS id (by simp[pV])
    have he:IElems (JC w m φ st S) b 0 k' es:=by
     refine gV 0 hw1 (hc.mono (AY w m φ st S)) fun j v hj=>?_
     rw[zF]at hj;split at hj
     ·rename_i hlt;rw[zH,AHR hin e hst hlt (hm j),bG hh,hj]
     ·cases hj
    exact⟨fin he h4,fun p hp=>by simp at hp;subst hp;exact⟨b,n,_,e,hb,hst,hm, .frz hpos he⟩⟩
   | @frz k' es hpos he =>
    simp only[wJ]at h;obtain⟨h1,h2⟩:=aQ.1 h;obtain⟨h3,h4⟩:=zR h1;subst h3;injection h2 with h2;injection h2 with h5 h6;subst h5;subst h6;exact⟨fin (he.mono (AY w m φ st S)) h4,fun p hp=>by simp at hp⟩
mutual
theorem VN {w:World} {m:Mem} {φ:Pl} {st:Store} (hi:Inv w m φ st) (S:List Nat):∀ (n:Nat) {v:AV} {iv:IV} {us:Ups} {x:Value},frz st n v=some (iv,us)→(∀ j∈pV us,j∈S)→Rep m φ v x →
 IRep (JC w m φ st S) iv x∧∀ p∈us,AYV w m φ st (JC w m φ st S) p
 | 0,_,_,_,_,h,_,_=>by simp[frz]at h
 | n+1,v,iv,us,x,h,hS,hr=>by
  cases hr with
  | junk=>simp[frz]at h
  | nils=>simp[frz]at h;obtain⟨rfl,rfl⟩:=h;exact⟨.isl0 none 0 (fun _=>rfl),by simp⟩
  | i hr=>simp[frz]at h;obtain⟨rfl,rfl⟩:=h;exact⟨hr.mono (AY w m φ st S),by simp⟩
  | @own id off b n' e =>
   simp only[frz]at h;exact ADU hi S n e h hS
  | ownE=>simp[frz]at h
  | osl a b c d e=>exact YR hi S (by simpa only[frz]using h) hS (.osl a b c d e)
  | @agg cs vs hc =>
   simp only[frz]at h;obtain⟨p,h1,h2⟩:=aI.1 h;injection h2 with h2;injection h2 with h3 h4;subst h3;subst h4;have:=FW hi S n h1 hS hc;exact⟨.agg this.1,this.2⟩
  | tup=>simp[frz]at h
  | fn=>simp[frz]at h
  | yld=>simp[frz]at h
  | ydead=>simp[frz]at h
theorem ADU {w:World} {m:Mem} {φ:Pl} {st:Store} (hi:Inv w m φ st) (S:List Nat):∀ (n:Nat) {id off b:Nat} {n':Ext} {iv:IV} {us:Ups},φ id=some (b,n')→EN st n id off (st id)=some (iv,us)→(∀ j∈pV us,j∈S) →
 IRep (JC w m φ st S) iv (.pointer (some ⟨b,off,none⟩))∧∀ p∈us,AYV w m φ st (JC w m φ st S) p
 | 0,_,_,_,_,_,_,_,h,_=>by simp[EN]at h
 | n+1,id,off,b,n',iv,us,e,h,hS=>by
  cases hst:st id with
  | none=>rw[hst]at h;simp[EN]at h
  | some blk =>
   rw[hst]at h;obtain⟨hb,hok⟩:=cK hi e hst
   cases hok with
   | arr=>simp[EN]at h
   | tre=>simp[EN]at h
   | loop=>simp[EN]at h
   | frz=>simp[EN]at h
   | @box T cs vs hh hl hc hm =>
    simp only[EN]at h;obtain⟨p,h1,h2⟩:=aI.1 h;obtain⟨h3,h4⟩:=aQ.1 h2;have h3:=zR h3;injection h4 with h4;injection h4 with h5 h6;subst h5;subst h6;have hin:id∈S:=hS id (by simp[pV]);have hL:=FW hi S n h1 (fun j hj=>hS j (by simp[pV,hj])) hc;have hlen:=hc.length
    have hat:IAt (JC w m φ st S) b 0 p.1:=IAt.mk 0 hL.1 fun j v hj=>by
     have hjl:j<cs.length:=by have:=(zZ.1 hj).1;omega
     rw[zH,AHR hin e hst hjl (hm j),bG hh,hj]
    refine⟨.iref (by have:=hat.dropE off h3;rwa [zH]at this),fun q hq=>?_⟩
    rcases zS.1 hq with rfl|hq
    ·exact⟨b,n',_,e,hb,hst,hm, .fbox hat⟩
    ·exact hL.2 q hq
   | @fbox cs ha =>
    simp only[EN]at h;obtain⟨h3,h4⟩:=aQ.1 h;have h3:=zR h3;injection h4 with h4;injection h4 with h5 h6;subst h5;subst h6;exact⟨.iref (by have:=(ha.mono (AY w m φ st S)).dropE off h3;rwa [zH]at this),by simp⟩
theorem FW {w:World} {m:Mem} {φ:Pl} {st:Store} (hi:Inv w m φ st) (S:List Nat):∀ (n:Nat) {cs:List AV} {l:List IV} {us:Ups} {vs:List Value},IW st n cs=some (l,us)→(∀ j∈pV us,j∈S)→RepC m φ cs vs →
 ICells (JC w m φ st S) l vs∧∀ p∈us,AYV w m φ st (JC w m φ st S) p
 | n,[],_,_,_,h,_, .nil=>by simp[IW]at h;obtain⟨rfl,rfl⟩:=h;exact⟨.nil,by simp⟩
 | 0,_::_,_,_,_,h,_,_=>by simp[IW]at h
 | n+1,c::cs,l,us,_,h,hS, .cons a o b=>by
  simp only[IW]at h;obtain⟨p,h1,h2⟩:=aI.1 h;obtain⟨q,h3,h4⟩:=aI.1 h2;injection h4 with h4;injection h4 with h5 h6;subst h5;subst h6;have k1:=VN hi S n h1 (fun j hj=>hS j (by rw[u7];exact zV.2 (.inl hj))) a;have k2:=FW hi S n h3 (fun j hj=>hS j (by rw[u7];exact zV.2 (.inr hj))) b;refine⟨.cons k1.1 o k2.1,fun r hr=>?_⟩
  rcases zV.1 hr with hr|hr
  ·exact k1.2 r hr
  ·exact k2.2 r hr
end
theorem M3 (st:Store):∀ (us:Ups) (id:Nat),(iM st us id=st id∧id ∉ pV us)∨∃ blk,(id,blk)∈us∧iM st us id=some blk
 | [],id=>.inl ⟨rfl,by simp[pV]⟩
 | p::us,id=>by
  simp only[iM,upd];by_cases h:id=p.1
  ·subst h;exact .inr ⟨p.2,by simp,by simp⟩
  ·rw[if_neg h]
   rcases M3 st us id with ⟨h1,h2⟩|⟨blk,h1,h2⟩
   ·exact .inl ⟨h1,by simp[pV,h,h2]⟩
   ·exact .inr ⟨blk,by simp[h1],h2⟩
theorem ADV {w:World} {m:Mem} {φ:Pl} {st:Store} (hi:Inv w m φ st) (us:Ups) (hu:∀ p∈us,AYV w m φ st (JC w m φ st (pV us)) p) :
 Inv w (JC w m φ st (pV us)) φ (iM st us)∧Adv w m φ w (JC w m φ st (pV us)) φ:=by
 have hlive:∀ id blk,iM st us id=some blk→∃ blk',st id=some blk':=by
  intro id blk h
  rcases M3 st us id with ⟨h1,_⟩|⟨blk',h1,_⟩
  ·exact⟨blk,by rw[← h1];exact h⟩
  ·obtain⟨_,_,b1,_,_,h2,_⟩:=hu _ h1;exact⟨b1,h2⟩
 have hroot:∀ id f n,st id≠none→φ id=some (f,n)→n.own f:=fun id f n hne e=>by
  obtain⟨blk2,hb2⟩:=Option.ne_none_iff_exists'.1 hne;exact(cK hi e hb2).1.1
 refine⟨⟨AS5 hi.mem _,?_,?_,hi.low,hi.kn.mem (AY _ _ _ _ _)⟩,⟨Nat.le_refl _,rfl, .refl _,rfl,fun _ _ _=>rfl,AY _ _ _ _ _,fun b _ hn o=>OO (fun id _ n hne e=>hn id b n e (hroot id b n hne e)) o, .refl _,fun i b n f h1 ho=>.inr (eD.not h1 ho)⟩⟩
 ·intro id blk h
  rcases M3 st us id with ⟨h1,h2⟩|⟨blk',h1,h2⟩
  ·rw[h1]at h;obtain⟨b,n,e,hb,hok⟩:=hi.live _ _ h;refine⟨b,n,e,hb,?_⟩
   have hoth2:∀ f,n.own f→∀ o,JC w m φ st (pV us) f o=m f o:=by
    intro f hf;apply OO;intro j hj n' hj' e';obtain⟨blk2,hb2⟩:=Option.ne_none_iff_exists'.1 hj';have:=hi.inj _ _ _ _ _ _ _ _ _ hb2 h e' e (hroot j f n' hj' e') hf;subst this;exact h2 hj
   exact hok.mono hb.1 (fun _ _=>rfl) (AY _ _ _ _ _) (.refl _) hoth2
  ·rw[h2]at h;injection h with h;subst h
   obtain⟨b,n,_,e,hb,_,_,hok⟩:=hu _ h1;exact⟨b,n,e,hb,hok⟩
 ·intro i j b b' n1 n2 b1 b2 f h1 h2 h3 h4;obtain⟨_,k1⟩:=hlive _ _ h1;obtain⟨_,k2⟩:=hlive _ _ h2;exact hi.inj i j b b' n1 n2 _ _ f k1 k2 h3 h4
theorem iY {w:World} {m:Mem} {φ:Pl} {st st1:Store} {v:AV} {iv:IV} {x:Value} (hi:Inv w m φ st) (hr:Rep m φ v x) (h:rV st v=some (iv,st1)) :
 ∃ m1,IRep m1 iv x∧Inv w m1 φ st1∧Adv w m φ w m1 φ:=by
 have key:∀ us,frz st BG v=some (iv,us)→st1=iM st us→∃ m1,IRep m1 iv x∧Inv w m1 φ st1∧Adv w m φ w m1 φ:=by
  intro us h1 h2;subst h2;have k:=VN hi (pV us) BG h1 (fun _ h=>h) hr;have k2:=ADV hi us k.2;exact⟨_,k.1,k2.1,k2.2⟩
 unfold rV at h;split at h
 ·injection h with h;injection h with h1 h2;subst h1;subst h2
  cases hr with
  | i hr=>exact⟨m,hr,hi, .refl _ _ _⟩
 ·obtain⟨p,h1,h2⟩:=aI.1 h;injection h2 with h2;injection h2 with h3 h4;subst h3;exact key p.2 h1 h4.symm
theorem BH {w:World}:∀ {cs:List AV} {m:Mem} {φ:Pl} {st st1:Store} {l:List IV} {vs:List Value},Inv w m φ st→RepC m φ cs vs→oH st cs=some (l,st1) →
 ∃ m1,ICells m1 l vs∧Inv w m1 φ st1∧Adv w m φ w m1 φ
 | [],m,φ,st,st1,l,_,hi, .nil,h=>by
  simp[oH]at h;obtain⟨rfl,rfl⟩:=h;exact⟨m, .nil,hi, .refl _ _ _⟩
 | c::cs,m,φ,st,st1,l,_,hi, .cons a o b,h=>by
  simp only[oH]at h;obtain⟨p,h1,h2⟩:=aI.1 h;obtain⟨q,h3,h4⟩:=aI.1 h2;injection h4 with h4;injection h4 with h5 h6;subst h5;subst h6;obtain⟨m1,k1,k2,k3⟩:=iY hi a h1;obtain⟨m2,k4,k5,k6⟩:=BH k2 (b.mono k3.mle (.refl _)) h3;exact⟨m2, .cons (k1.mono k6.mle) o k4,k5,k3.trans k6⟩
theorem Inv.drew {w:World} {m:Mem} {φ:Pl} {st:Store} (h:Inv w m φ st):Inv w.drew m φ st :=
 ⟨fun b o v e=>h.mem b o v e,fun id blk e=>by
  obtain⟨b,n,e1,hb,hok⟩:=h.live id blk e
  exact⟨b,n,e1,hb,hok.mono (w':=w.drew) hb.1 (fun _ _=>rfl) (.refl _) (.refl _) fun _ _ _=>rfl⟩,h.inj,h.low,h.kn.same fun _ _=>rfl⟩
theorem Adv.drew (w:World) (m:Mem) (φ:Pl):Adv w m φ w.drew m φ :=
 ⟨Nat.le_refl _,rfl,⟨rfl,Nat.le_succ _⟩,rfl,fun _ _ _=>rfl, .refl _,fun _ _ _ _=>rfl, .refl _,fun i b n f h1 ho=>.inr (eD.not h1 ho)⟩
theorem BJ {m:Mem} {b k:Nat}:∀ {off:Nat} {es:List (List IV)},IElems m b off k es→∃ cs,ICells m es.flatten cs∧∀ j v,cs[j]?=some v→m b (off+j)=some v
 | _,_, .nil _ _ _=>⟨[], .nil,by simp⟩
 | off,_, .cons (cs:=e) a hl r=>by
  obtain⟨us,h1,h2⟩:=a.cells;obtain⟨cs,h3,h4⟩:=BJ r;refine⟨us++cs,by simpa using h1.append h3,fun j v hj=>?_⟩;have hul:us.length=k:=by have:=h1.length;omega
  by_cases hlt:j<us.length
  ·rw[zG hlt]at hj;exact h2 j v hj
  ·rw[zB (by omega)]at hj;have:=h4 _ v hj;rw[← this];congr 1;omega
theorem G9:∀ (l:List UInt8),(tJ l).length=l.length
 | []=>rfl
 | _::l=>by simp[tJ,G9 l]
theorem IM (m:Mem):∀ (l:List UInt8),ICells m (tJ l).flatten (l.map fun b=>.int .u8 b.toNat)
 | []=>.nil
 | b::l=>by simpa [tJ]using ICells.cons (.lit _) rfl (IM m l)
theorem IL:∀ (l:List UInt8),∀ e∈tJ l,e.length=1
 | []=>by simp[tJ]
 | b::l=>by
  intro e he
  rcases zS.1 he with rfl|he
  ·rfl
  ·exact IL l e he
theorem TL {k:Nat} {es:List (List IV)} (h:kV k es=true):∀ e∈es,e.length=k:=fun e he=>by
 have:=zQ.1 h e he;simpa using this
section
variable {P:Program} {w:World} {m:Mem} {φ:Pl} {st:Store}
structure Reads (P:Program) (w:World) (m:Mem) (k:Nat) (es:List (List IV)) (x:Value) (cs:List Value):Prop where
 len:(Builtin.lenOf x).run P w=.ok es.length w
 first:∀ n,n≤es.length→(Builtin.firstCells k n x).run P w=.ok (cs.take (n*k)).toArray w
 cells:ICells m es.flatten cs
 width:∀ e∈es,e.length=k
theorem WG {w w':World} (h:w'.heap=w.heap) (a:Addr):w'.cell? a=w.cell? a:=by simp[World.cell?,h]
theorem AGU {b off k:Nat} {es:List (List IV)} {cap:Nat} (hw:kR w m) (he:IElems m b off k es):∃ cs,∀ w',w'.heap=w.heap→Reads P w' m k es (.slice (some ⟨b,off,none⟩) es.length cap) cs:=by
 obtain⟨cs,h1,h2⟩:=BJ he;have hwid:=uU he;have hl:=h1.length;rw[cZ hwid]at hl;refine⟨cs,fun w' hw'=>⟨rfl,fun n hn=>?_,h1,hwid⟩⟩;have hnk:n*k≤cs.length:=by rw[← hl,yU];exact zD _ hn
 have:=run_loadCells_list (P:=P) w' ⟨b,off,none⟩ (cs.take (n*k)) (fun j v hj=>by
  rw[Addr.dP,WG hw'];apply hw;apply h2;rw[zF]at hj;split at hj
  ·exact hj
  ·cases hj)
 rw[xY,yM hnk]at this;exact this
theorem AP (P:Program) (w:World) (m:Mem) (k:Nat) (ao:Option Addr) (cap:Nat):Reads P w m k [] (.slice ao 0 cap) []:=by
 refine⟨rfl,fun n hn=>?_, .nil,by simp⟩;have:n=0:=by simpa using hn
 subst this
 cases ao with
 | none=>simp[Builtin.firstCells]
 | some a=>simp[Builtin.firstCells,loadCells,loadCellsFrom]
theorem FZ {k:Nat} {a:AV} {x:Value} {es:List (List IV)} (hi:Inv w m φ st) (hr:Rep m φ a x) (h:dK st k a=some es):∃ cs,∀ w',w'.heap=w.heap→Reads P w' m k es x cs:=by
 cases hr with
 | junk=>simp[dK]at h
 | own=>simp[dK]at h
 | ownE=>simp[dK]at h
 | agg=>simp[dK]at h
 | tup=>simp[dK]at h
 | fn=>simp[dK]at h
 | yld=>simp[dK]at h
 | ydead=>simp[dK]at h
 | nils=>simp[dK]at h;subst h;exact⟨[],fun w' _=>AP P w' m k none 0⟩
 | i hr =>
  cases hr with
  | agg=>simp[dK]at h
  | iref=>simp[dK]at h
  | isl0 ao cap hc =>
   simp only[dK]at h;obtain⟨_,h⟩:=aQ.1 h;injection h with h;subst h;exact⟨[],fun w' _=>AP P w' m k ao cap⟩
  | @isl b off k' es' cap hne he hc =>
   simp only[dK]at h;obtain⟨h0,h⟩:=aQ.1 h;injection h with h;subst h;have h1:=TL h0;have h2:=uU he
   cases es' with
   | nil=>exact absurd rfl hne
   | cons e es =>
    have hk:k'=k:=by rw[← h1 e (by simp),← h2 e (by simp)]
    subst hk;exact AGU hi.mem he
  | lit =>
   cases x<;>simp only[dK]at h<;>try (cases h;done)
   rename_i s;obtain⟨h0,h⟩:=aQ.1 h;injection h with h;subst h;have hk:k=1:=by simpa using h0
   subst hk;refine⟨s.data.toList.map fun b=>.int .u8 b.toNat,fun w' _=>⟨?_,?_,IM m _,IL _⟩⟩
   ·show Result.ok s.size w'=Result.ok (tJ s.data.toList).length w';rw[G9];rfl
   ·intro n hn;rw[G9]at hn;simp only[Builtin.firstCells,Sem.run_pure,zB8];congr 1;apply Array.ext';simp[ByteArray.data_extract]
 | @osl id k' off len cap b n ao e hlc hcap ha1 ha2 =>
  simp only[dK]at h
  cases hst:st id with
  | none=>rw[hst]at h;simp[pQ]at h
  | some blk =>
   rw[hst]at h;obtain⟨hb,hok⟩:=MQ hi e hst
   have fin:∀ (es0:List (List IV)),off+len≤es0.length→es=window es0 off len→(∃ cs:List Value,ICells m es0.flatten cs∧(∀ e∈es0,e.length=k)∧∀ j v,cs[j]?=some v→w.cell? ⟨b,j,none⟩=some v) →
    k'=k→∃ cs,∀ w',w'.heap=w.heap→Reads P w' m k es (.slice ao len cap) cs:=by
    intro es0 hle hes ⟨cs,h1,h2,h3⟩ hk;subst hes;subst hk;have hwl:(window es0 off len).length=len:=by simp[window];omega
    have hww:∀ e∈window es0 off len,e.length=k':=fun e he=>h2 e (yF (yY he))
    by_cases hc0:len=0
    ·subst hc0;have:window es0 off 0=[]:=by simp[window]
     rw[this];exact⟨[],fun w' _=>AP P w' m k' ao cap⟩
    ·have:=ha1 (by omega);subst this
     have hflat:(window es0 off len).flatten=(es0.flatten.drop (k'*off)).take (k'*len):=by
      have g1:∀ (n:Nat) (l:List (List IV)),(∀ e∈l,e.length=k')→(l.drop n).flatten=l.flatten.drop (k'*n):=by
       intro n
       induction n with
       | zero=>intro l _;simp
       | succ n ih =>
        intro l hl
        cases l with
        | nil=>simp
        | cons e l =>
         have he:=hl e (by simp);simp only[zC2,z8];rw[ih l (fun e he=>hl e (by simp[he])),zE5,show k'*(n+1)=e.length+k'*n by rw[he,zC];omega];simp
      have g2:∀ (n:Nat) (l:List (List IV)),(∀ e∈l,e.length=k')→(l.take n).flatten=l.flatten.take (k'*n):=by
       intro n
       induction n with
       | zero=>intro l _;simp
       | succ n ih =>
        intro l hl
        cases l with
        | nil=>simp
        | cons e l =>
         have he:=hl e (by simp);simp only[yR,z8];rw[ih l (fun e he=>hl e (by simp[he])),xM,show k'*(n+1)=e.length+k'*n by rw[he,zC];omega];rw[zY (by omega:e.length≤e.length+k'*n)];simp
      unfold window;rw[g2 len _ (fun e he=>h2 e (yF he)),g1 off es0 h2]
     have hcl:=h1.length;rw[cZ h2]at hcl;refine⟨(cs.drop (k'*off)).take (k'*len),fun w' hw'=>⟨by rw[hwl];rfl,fun j hj=>?_,by rw[hflat];exact(h1.drop _).take _,hww⟩⟩;rw[hwl]at hj;have hjk:j*k'≤k'*len:=by rw[yU j];exact zD _ hj
     have hall:k'*off+k'*len≤cs.length:=by rw[← hcl,← Nat.mul_add];exact zD _ hle
     have:=run_loadCells_list (P:=P) w' ⟨b,k'*off,none⟩ (((cs.drop (k'*off)).take (k'*len)).take (j*k')) (fun i v hi'=>by
      rw[Addr.dP,WG hw'];apply h3;rw[zF]at hi';split at hi'
      ·rw[zF]at hi';split at hi'
       ·rw[yJ]at hi';exact hi'
       ·cases hi'
      ·cases hi')
     rw[show((((cs.drop (k'*off)).take (k'*len)).take (j*k'))).length=j*k' by simp;omega]at this;exact this
   cases hok with
   | box=>simp[pQ]at h
   | fbox=>simp[pQ]at h
   | tre=>simp[pQ]at h
   | loop=>simp[pQ]at h
   | @arr T k'' es0 vs hh hl hpos hw1 hc hfit hm hown1 hone =>
    simp only[pQ]at h;obtain⟨h1,h2⟩:=aQ.1 h;obtain⟨h3,h4,h5⟩:=zR h1;injection h2 with h2;subst h4;refine fin es0 h5 h2.symm ⟨_,hc,hw1,fun j v hj=>?_⟩ h3;rw[bG hh];rw[zF]at hj;split at hj
    ·exact hj
    ·cases hj
   | @frz k'' es0 hpos he =>
    simp only[pQ]at h;obtain⟨h1,h2⟩:=aQ.1 h;obtain⟨h3,h4,h5⟩:=zR h1;injection h2 with h2;subst h4;obtain⟨cs,h6,h7⟩:=BJ he;refine fin es0 h5 h2.symm ⟨cs,h6,uU he,fun j v hj=>?_⟩ h3;apply hi.mem;have:=h7 j v hj
    rwa [zH]at this
end
theorem AX {P:Program} {u:TypeId} (h:wV (bJ P u)=true):P.underlying u=some .string∨∃ e,P.underlying u=some (.slice e):=by
 unfold bJ at h
 cases hu:P.underlying u with
 | none=>rw[hu]at h;simp[wV]at h
 | some d=>rw[hu]at h;cases d<;>first|(simp[wV]at h;done)|exact .inl rfl|exact .inr ⟨_,rfl⟩
section
variable {P:Program} {w:World}
theorem kN {t u ty e:TypeId} {k n len cap:Nat} {base:Option Addr} {xv:Value} {news:List Value} (ht:P.underlying t=some (.slice e)) (hu:wV (bJ P u)=true) (hs:iF P e=some k)
 (hl:(Builtin.lenOf xv).run P w=.ok n w) (hf:(Builtin.firstCells k n xv).run P w=.ok news.toArray w) (hroom:len+n≤cap) (w':World)
 (hst:match base with|some a=>(storeCells (a.add (len*k)) news).run P w=.ok () w'|none=>w'=w) :
 (Builtin.append_ #[t,u] ty #[.slice base len cap,xv]).run P w=.ok (.slice base (len+n) cap) w':=by
 cases base with
 | none =>
  simp only at hst;subst hst
  rcases AX hu with hd|⟨e',hd⟩<;>simp[Builtin.append_,jH ht,jH hd,dL hs,hl,hf,hroom]
 | some a =>
  simp only at hst
  rcases AX hu with hd|⟨e',hd⟩<;>simp[Builtin.append_,jH ht,jH hd,dL hs,hl,hf,hroom,hst]
theorem PV {z:Array Value} {n:Nat} {u:Value} (h:u∈(Builtin.zeroCells z n).toList):u∈z.toList:=by
 simp only[Builtin.zeroCells,Array.toList_map,yI,Array.toList_range,List.mem_range]at h;obtain⟨i,hi,rfl⟩:=h
 have h0:0<z.size:=by
  rcases Nat.eq_zero_or_pos z.size with h|h
  ·rw[h]at hi;simp at hi
  ·exact h
 have hm:=Nat.mod_lt i h0;rw[getElem!_pos z (i % z.size) hm];simp
theorem kP {t u ty e:TypeId} {k n len cap by_:Nat} {base:Option Addr} {xv:Value} {olds news z:List Value} (ht:P.underlying t=some (.slice e)) (hu:wV (bJ P u)=true) (hs:iF P e=some k)
 (hby:ZG P e=some by_) (hz:zeroOf P e=some z)
 (hl:(Builtin.lenOf xv).run P w=.ok n w)
 (hgrow:cap<len+n) (hpos:0<by_) (hbytes:(len+n)*by_≤140737488355328)
 (hf2:(Builtin.firstCells k n xv).run P w.drew=.ok news.toArray w.drew) (ho2:(Builtin.firstCells k len (.slice base len cap)).run P w.drew=.ok olds.toArray w.drew) :
 ∃ (cap':Nat) (rest:List Value),len+n≤cap'∧rest.length=(cap'-(len+n))*z.length∧(∀ v∈rest,v∈z) ∧
   (Builtin.append_ #[t,u] ty #[.slice base len cap,xv]).run P w=.ok (.slice (some ⟨w.heap.size,0,none⟩) (len+n) cap') (w.drew.alloc (.cells (olds++(news++rest)).toArray e)):=by
 obtain⟨i,_,hi2,hi3⟩:=UH hby w;have hi4:∀ w,(typeInfo e).run P w=.ok i w:=fun w=>by simp[typeInfo,hi3]
 have hzr:∀ w,∃ v,(zeroValue e).run P w=.ok v w∧v.cells.toList=z:=DD hz;obtain⟨v,hv1,hv2⟩:=hzr w
 have hv3:∀ w,(zeroValue e).run P w=.ok v w:=fun w'=>by
  have hz:=(pR hz).2;rw[hi3]at hz
  cases hzz:i.zero with
  | none=>simp[hzz]at hz
  | some u =>
   simp[zeroValue,typeInfo,hi3,hzz]at hv1 ⊢;exact hv1
 subst hi2;have hnot:¬ len+n≤cap:=by omega
 have hfit:=growslice_fits (bytes:=i.bytes) hgrow hbytes;have hnb:¬ (281474976710656<Builtin.nextslicecap (len+n) cap*i.bytes):=by omega
 have hb0:¬ i.bytes=0:=by omega
 let q:=Question.appendCap (len+n) cap e
 refine⟨q.cut (w.tape w.drawn q),(Builtin.zeroCells v.cells (q.cut (w.tape w.drawn q)-(len+n))).toList,?_,?_,?_,?_⟩
 ·show len+n≤(len+n)+_;omega
 ·rw[← hv2];simp[Builtin.zeroCells]
 ·intro u hu;rw[← hv2];exact PV hu
 ·rcases AX hu with hd|⟨e',hd⟩<;>simp[Builtin.append_,jH ht,jH hd,dL hs,hl,hnot,hi4,hnb,hb0,hv3,newRow,Question.forced,hf2,ho2,q]<;>(congr 2;apply Array.ext';simp)
end
def sS (P:Program):Prop:=∀ t z,zeroOf P t=some z→∀ v∈z,v.oneCell'=true
theorem oM {k:Nat}:∀ (n:Nat) (l:List (List IV)),(∀ e∈l,e.length=k)→(l.take n).flatten=l.flatten.take (k*n)
 | 0,l,_=>by simp
 | n+1,[],_=>by simp
 | n+1,e::l,h=>by
  have he:=h e (by simp);simp only[yR,z8];rw[oM n l (fun e he=>h e (by simp[he])),xM,show k*(n+1)=e.length+k*n by rw[he,zC];omega];rw[zY (by omega:e.length≤e.length+k*n)];simp
section
variable {C:Ctx} {w:World} {m:Mem} {φ:Pl} {st:Store}
theorem WO {t u ty:TypeId} {s x v:AV} {sv xv:Value} {st':Store} {nb:Nat} (hzo:sS C.P) (hi:Inv w m φ st) (hs:Rep m φ s sv) (hx:Rep m φ x xv) (hf:∀ id,nb≤id→id<nb+wide→φ id=none)
 (hu:wV (bJ C.P u)=true) (h:ATT C t s x st nb=some (v,st')):∃ y w',(Builtin.append_ #[t,u] ty #[sv,xv]).run C.P w=.ok y w'∧Out w m φ nb v st' y w':=by
 have hnb:=hf nb (zO _) (gY nb);unfold ATT at h;obtain⟨e,he,h1⟩:=aI.1 h;obtain⟨k,hk,h2⟩:=aI.1 h1;obtain⟨by_,hby,h3⟩:=aI.1 h2;obtain⟨z,hz,h4⟩:=aI.1 h3;obtain⟨h5,h6⟩:=aQ.1 h4;obtain⟨hk0,hb0,hzl⟩:=zR h5;obtain⟨news,hn,h7⟩:=aI.1 h6;have ht:=jX he;obtain⟨cs,hrr⟩:=FZ (P:=C.P) hi hx hn;have hr:=hrr w rfl;have hr2:=hrr w.drew rfl;have hcl:=hr.cells.length;rw[cZ hr.width]at hcl;have hle0:cs.length≤news.length*k:=by rw[← hcl,yU];exact zO _
 have hfirst:=hr.first news.length (zO _);rw[zY hle0]at hfirst;have hlen:=hr.len;have hfirst2:=hr2.first news.length (zO _);rw[zY hle0]at hfirst2;unfold WP at h7
 cases hs with
 | junk=>simp at h7
 | i=>simp at h7
 | own=>simp at h7
 | ownE=>simp at h7
 | agg=>simp at h7
 | tup=>simp at h7
 | fn=>simp at h7
 | yld=>simp at h7
 | ydead=>simp at h7
 | nils =>
  simp only at h7;by_cases hempty:news=[]
  ·subst hempty;simp only[List.isEmpty_nil,IP,Option.some.injEq,Prod.mk.injEq]at h7;obtain⟨rfl,rfl⟩:=h7;have hcl:=xA hcl.symm;subst hcl;refine⟨_,w,kN (n:=0) ht hu hk hlen hfirst (by omega) w rfl,?_⟩;exact Out.same hi .nils
  ·have hie:news.isEmpty=false:=by cases news<;>simp at hempty ⊢
   rw[hie]at h7;simp only[IP]at h7;obtain⟨h8,h9⟩:=aQ.1 h7;have h8:=zR h8;simp only[Option.some.injEq,Prod.mk.injEq]at h9;obtain⟨rfl,rfl⟩:=h9;have hpos:0<news.length:=by cases news with|nil=>exact absurd rfl hempty|cons=>simp
   obtain⟨cap',rest,hcap,hrest,hrz,hrun⟩:=kP (ty:=ty) (len:=0) (cap:=0) (base:=none) (olds:=[]) ht hu hk hby hz hlen (by omega) hb0 (by simpa using h8) hfirst2 (by simp[Builtin.firstCells]);simp only[zH,yO]at hrun hcap hrest
   have hblk:BlkOk (w.drew.alloc (.cells (cs++rest).toArray e)) m (kW φ nb (w.drew.heap.size,one w.drew.heap.size (cs++rest).length)) w.drew.heap.size (one w.drew.heap.size (cs++rest).length) (.arr k news):=by
    refine .arr (T:=e) (dS w.drew _) rfl hk0 hr.width ?_ ?_ ?_ (fun _ hf=>hf) (fun v hv=>by
     rcases zV.1 hv with hv|hv
     ·exact hr.cells.one v hv
     ·exact hzo _ _ hz v (hrz v hv))
    ·rw[hcl,zC0];exact hr.cells
    ·rw[hcl];simp
    ·intro o
     cases hm:m w.drew.heap.size o with
     | none=>rfl
     | some u=>exact absurd (hi.mem.lt hm) (by show ¬ w.heap.size<w.heap.size;omega)
   obtain⟨k1,k2⟩:=hi.drew.push hnb _ hblk;refine⟨_,_,hrun,m,_, .osl (bP _ _ _) hcap ?_ (fun _=>rfl) (fun h=>by cases h),k1,(Adv.drew w m φ).trans k2,jW (zO _) (gY nb)⟩;rw[QN,zL,← hcl,hrest,hzl,zH,← Nat.mul_comm k,← Nat.mul_add];exact zD _ (by omega)
 | @osl id k' off len cap b n ao eφ hlc hcap ha1 ha2 =>
  simp only at h7
  cases hst:st id with
  | none=>rw[hst]at h7;simp[vF]at h7
  | some blk =>
   rw[hst]at h7;obtain⟨hbl,hok⟩:=cK hi eφ hst
   cases hok with
   | box=>simp[vF]at h7
   | fbox=>simp[vF]at h7
   | frz=>simp[vF]at h7
   | tre=>simp[vF]at h7
   | loop=>simp[vF]at h7
   | @arr T k'' es vs hh hl hpos hw1 hc hfit hm hown1 hone =>
    simp only[vF]at h7;obtain⟨h8,h9⟩:=aQ.1 h7;obtain⟨rfl,rfl,rfl,hle,hbytes⟩:=zR h8;simp only[Option.some.injEq,Prod.mk.injEq]at h9;obtain⟨rfl,rfl⟩:=h9;simp only[zH,Nat.mul_zero]at hcap ha1;have hklen:k''*len≤k''*es.length:=zD _ hle;have hwt:∀ e∈es.take len,e.length=k'':=fun e he=>hw1 e (yY he)
    have hwn:∀ e∈es.take len++news,e.length=k'':=fun e he=>by
     rcases zV.1 he with he|he
     ·exact hwt e he
     ·exact hr.width e he
    have hcold:ICells m (es.take len).flatten (vs.take (k''*len)):=by
     rw[oM len es hw1];have:=hc.take (k''*len)
     rwa [zK,yM hklen]at this
    have hnew:ICells m (es.take len++news).flatten (vs.take (k''*len)++cs):=by
     rw[zC3];exact hcold.append hr.cells
    have holdlen:(vs.take (k''*len)).length=k''*len:=by simp;omega
    have htl:(es.take len++news).length=len+news.length:=by simp;omega
    by_cases hroom:len+news.length≤cap
    ·-- in place
     have hkr:k''*(len+news.length)≤n.len:=xX (zD _ hroom) hcap;have hkr':k''*len+cs.length≤n.len:=by rw[← hcl,← Nat.mul_add];exact hkr
     by_cases hc0:cap=0
     ·-- nothing is appended to nothing
      have hl0:len=0:=by omega
      have hn0:news=[]:=xA (by omega);subst hl0;subst hn0;have hcl:=xA hcl.symm;subst hcl
      refine⟨_,w,kN (n:=0) ht hu hk hlen hfirst hroom w (by
       cases ao with
       | none=>rfl
       | some a=>simp[storeCells]),?_⟩
      have hi1:Inv w m φ (upd st id none):=hi.forget fun j blk hj=>by
       unfold upd at hj;split at hj
       ·cases hj
       ·exact hj
      obtain⟨z1,z2⟩:=hi.AWQ hst eφ hnb (blk:=.arr k'' []) (.arr hh hl hk0 (by simp) (by simpa using ICells.nil) (by simp) hm hown1 hone) (.refl _ _ _);exact⟨m,kW φ nb (b,n), .osl (bP _ _ _) hroom (by simpa using hcap) (by simpa using ha1) ha2,by simpa using z1,z2,jW (zO _) (gY nb)⟩
     ·have hao:=ha1 hc0;subst hao;have hstore:=run_storeCells_at C.P b (len*k'') T cs 0 vs.toArray w hh (by simp;rw[yU len];omega) hr.cells.one;simp only[yE]at hstore;rw[yU len]at hstore
      have hrun:=kN (ty:=ty) (base:=some ⟨b,0,none⟩) (cap:=cap) ht hu hk hlen hfirst hroom _ (by
       simp only[Addr.dP,zH];rw[yU len];exact hstore)
      refine⟨_,_,hrun,?_⟩;have hvs:(vs.toArray.toList.take (k''*len)++cs++vs.toArray.toList.drop (k''*len+cs.length)).toArray=(vs.take (k''*len)++cs++vs.drop (k''*len+cs.length)).toArray:=by simp
      rw[hvs];have hlen2:(vs.take (k''*len)++cs++vs.drop (k''*len+cs.length)).length=n.len:=by simp;omega
      have hblk:BlkOk (w.setRow b (vs.take (k''*len)++cs++vs.drop (k''*len+cs.length)).toArray) m φ b n (.arr k'' (es.take len++news)):=by
       refine .arr (T:=T) (setRow_heap w b _ _ T (0,0) hh) hlen2 hk0 hwn ?_ (by rw[htl];exact hkr) hm hown1 (fun v hv=>by
      rcases zV.1 hv with hv|hv
      ·rcases zV.1 hv with hv|hv
       ·exact hone v (yY hv)
       ·exact hr.cells.one v hv
      ·exact hone v (yF hv))
       rw[htl,zC,hcl];have e0:(vs.take (k''*len)++cs).length=k''*len+cs.length:=by rw[zL,holdlen]
       rw[← e0,zC0];exact hnew
      obtain⟨g1,g2⟩:=hi.set hst eφ hm _ hblk;have hs1:upd st id (some (.arr k'' (es.take len++news))) id=some (.arr k'' (es.take len++news)):=by simp[upd]
      obtain⟨z1,z2⟩:=g1.AWQ hs1 eφ hnb hblk g2
      have hst2:upd (upd (upd st id (some (Blk.arr k'' (es.take len++news)))) id none) nb (some (Blk.arr k'' (es.take len++news)))=upd (upd st id none) nb (some (Blk.arr k'' (es.take len++news))):=by
       funext j;simp only[upd];split
       ·rfl
       ·split<;>rfl
      rw[hst2]at z1;exact⟨m,kW φ nb (b,n), .osl (bP _ _ _) hroom (by simpa using hcap) (fun _=>by simp) (fun h=>by cases h),z1,z2,jW (zO _) (gY nb)⟩
    ·-- a new array
     have hold:(Builtin.firstCells k'' len (.slice ao len cap)).run C.P w.drew=.ok (vs.take (k''*len)).toArray w.drew:=by
      by_cases hc0:cap=0
      ·have hl0:len=0:=by omega
       subst hl0
       cases ao with
       | none=>simp[Builtin.firstCells]
       | some a=>simp[Builtin.firstCells,loadCells,loadCellsFrom]
      ·have hao:=ha1 hc0;subst hao
       have:=run_loadCells_list (P:=C.P) w.drew ⟨b,0,none⟩ (vs.take (k''*len)) (fun j u hj=>by
        rw[Addr.dP,zH];show w.cell? ⟨b,j,none⟩=some u;rw[bG hh];rw[zF]at hj;split at hj
        ·exact hj
        ·cases hj)
       rw[holdlen]at this;simp only[Builtin.firstCells];rw[yU len];exact this
     obtain⟨cap',rest,hcap',hrest,hrz,hrun⟩:=kP (ty:=ty) (len:=len) (cap:=cap) (base:=ao) (olds:=vs.take (k''*len)) ht hu hk hby hz hlen (by omega) hb0 hbytes hfirst2 hold
     have hi1:Inv w m φ (upd st id none):=hi.forget fun j blk hj=>by
      unfold upd at hj;split at hj
      ·cases hj
      ·exact hj
     have hblk:BlkOk (w.drew.alloc (.cells (vs.take (k''*len)++(cs++rest)).toArray e)) m (kW φ nb (w.drew.heap.size,one w.drew.heap.size (vs.take (k''*len)++(cs++rest)).length)) w.drew.heap.size (one w.drew.heap.size (vs.take (k''*len)++(cs++rest)).length) (.arr k'' (es.take len++news)):=by
      refine .arr (T:=e) (dS w.drew _) rfl hk0 hwn ?_ ?_ ?_ (fun _ hf=>hf) (fun v hv=>by
       rcases zV.1 hv with hv|hv
       ·exact hone v (yY hv)
       ·rcases zV.1 hv with hv|hv
        ·exact hr.cells.one v hv
        ·exact hzo _ _ hz v (hrz v hv))
      ·rw[htl,zC,hcl,← List.append_assoc];have e0:(vs.take (k''*len)++cs).length=k''*len+cs.length:=by rw[zL,holdlen]
       rw[← e0,zC0];exact hnew
      ·rw[QN,htl,zL,holdlen,zC,zL,← hcl];omega
      ·intro o
       cases hm':m w.drew.heap.size o with
       | none=>rfl
       | some u=>exact absurd (hi.mem.lt hm') (by show ¬ w.heap.size<w.heap.size;omega)
     obtain⟨k1,k2⟩:=hi1.drew.push hnb _ hblk;refine⟨_,_,hrun,m,_, .osl (bP _ _ _) hcap' ?_ (fun _=>by simp) (fun h=>by cases h),k1,(Adv.drew w m φ).trans k2,jW (zO _) (gY nb)⟩;rw[QN,zL,holdlen,zL,← hcl,hrest,hzl,zH,yU (cap'-_),← Nat.mul_add,← Nat.mul_add];exact zD _ (by omega)
end
def TA (P:Program):Prop:=(∀ t fs,t<P.types.size→P.underlying t=some (.struct fs)→∀ f∈fs,∃ n,iF P f.type=some n)∧∀ t n e,t<P.types.size→P.underlying t=some (.array n e)→∃ k,iF P e=some k
section
variable {P:Program} {w:World}
theorem DF {α β:Type} (f:α→Sem β) (g:α→β):∀ (l:List α),(∀ a∈l,(f a).run P w=.ok (g a) w)→(l.mapM f).run P w=.ok (l.map g) w
 | [],_=>by simp
 | a::l,h=>by
  have h1:=h a (by simp);have h2:=DF f g l fun b hb=>h b (by simp[hb])
  simp[List.mapM_cons,h1,h2]
theorem NF {α β:Type} (f:α→Sem β) (g:α→β) (a:Array α) (h:∀ x∈a,(f x).run P w=.ok (g x) w):(a.mapM f).run P w=.ok (a.map g) w:=by
 obtain⟨l⟩:=a;have:=DF f g l (fun x hx=>h x (by simpa using hx));simp[this]
end
theorem foldl_set {xs:List Value}:∀ (cells:Array Value) (off j:Nat),off+j+xs.length≤cells.size →
 ((xs.zipIdx j).foldl (fun cs p=>cs.setIfInBounds (off+p.2) p.1) cells).toList=cells.toList.take (off+j)++xs++cells.toList.drop (off+j+xs.length):=by
 induction xs with
 | nil=>intro cells off j _;simp
 | cons x xs ih =>
  intro cells off j h;simp only[zP]at h;simp only[List.zipIdx_cons,zA8];rw[ih _ _ _ (by simp;omega)];simp only[Array.toList_setIfInBounds,zP];have e:=list_seg_step cells.toList (off+j) x xs (by simp;omega);simpa [yC]using e
theorem M4 (v:Array Value) (cells:Array Value) (off:Nat) (h:off+v.size≤cells.size) :
 (v.zipIdx.foldl (fun cs (c,j)=>cs.setIfInBounds (off+j) c) cells).toList=cells.toList.take off++v.toList++cells.toList.drop (off+v.size):=by
 have:=foldl_set (xs:=v.toList) cells off 0 (by simpa using h);rw[← Array.foldl_toList];simpa using this
section
variable {C:Ctx} {w:World} {m:Mem} {φ:Pl} {st:Store} {ρ:Operand→Value} {env:Nat→AV}
def Fits (m:Mem) (φ:Pl) (env:Nat→AV) (ρ:Operand→Value):Prop:=∀ x,KT x=true→Rep m φ (ev env x) (ρ x)
inductive PartsRep (m:Mem) (φ:Pl):List (Nat×List AV)→List (Nat×Value)→Prop
 | nil:PartsRep m φ [] []
 | cons {i:Nat} {cs:List AV} {v:Value} {ps:List (Nat×List AV)} {vs:List (Nat×Value)}:RepC m φ cs v.cells.toList→PartsRep m φ ps vs→PartsRep m φ ((i,cs)::ps) ((i,v)::vs)
theorem AR (hρ:Fits m φ env ρ):∀ {l:List (Nat×Operand)} {ps:List (Nat×List AV)},(∀ p∈l,KT p.2=true)→partsOf env l=some ps→PartsRep m φ ps (l.map fun p=>(p.1,ρ p.2))
 | [],ps,_,h=>by simp[partsOf]at h;subst h;exact .nil
 | p::l,ps,ho,h=>by
  simp only[partsOf]at h;obtain⟨cs,h1,h2⟩:=aI.1 h;obtain⟨qs,h3,h4⟩:=aI.1 h2;injection h4 with h4;subst h4;exact .cons (BO h1 (hρ p.2 (ho p (by simp)))) (AR hρ (fun q hq=>ho q (by simp[hq])) h3)
theorem R7 {place:Nat→Option (Nat×Nat)} {place':Nat→Option (Nat×Nat)} (hp:∀ i q,place i=some q→place' i=some q):∀ {ps:List (Nat×List AV)} {vs:List (Nat×Value)} {cells r:List AV} {vals:Array Value},
 PartsRep m φ ps vs→RepC m φ cells vals.toList→R8 place cells ps=some r→∃ out,Instr.fill place' vals vs=some out∧RepC m φ r out.toList
 | _,_,cells,r,vals, .nil,hc,h=>by simp[R8]at h;subst h;exact⟨vals,rfl,hc⟩
 | _,_,cells,r,vals, .cons (i:=i) (cs:=cs) (v:=v) hv hps,hc,h=>by
  simp only[R8]at h;obtain⟨q,h1,h2⟩:=aI.1 h;obtain⟨h3,h4⟩:=aQ.1 h2;have h3:=zR h3;obtain⟨l,h5,h6⟩:=aI.1 h4;obtain⟨rfl,h7⟩:=lW _ _ _ _ h5;have hl:=hv.length;have hcl:=hc.length;simp only[yQ]at hl hcl;have hz:=M4 v.cells vals q.1 (by omega)
  obtain⟨out,k1,k2⟩:=R7 hp (vals:=(v.cells.zipIdx.foldl (fun cs (c,j)=>cs.setIfInBounds (q.1+j) c) vals)) hps (by
   rw[hz];rw[hl]
   exact((hc.take q.1).append hv).append (hc.drop _)) h6
  refine⟨out,?_,k2⟩;simp only[Instr.fill,hp i q h1];rw[if_neg (by simp;omega)];exact k1
theorem QI {t:TypeId} {fs:Array Field} (hu:C.P.underlying t=some (.struct fs)) {i:Nat} {q:Nat×Nat} (h:KP C.P t i=some q) :
 (fs.map fun f=>(f.offset,(iF C.P f.type).getD 0))[i]?=some q:=by
 unfold KP bJ at h;rw[hu]at h;simp only[UT]at h;obtain⟨p,h1,h2⟩:=aI.1 h;obtain⟨n,h3,h4⟩:=aI.1 h2;obtain⟨fs',fd,g1,g2,g3,g4⟩:=M8 h1;rw[hu]at g1;injection g1 with g1;injection g1 with g1;subst g1
 injection h4 with h4;subst h4;rw[Array.getElem?_map,g2];simp[g3,g4,h3]
theorem AJ9 (hz:sS C.P) (hf:TA C.P) (hρ:Fits m φ env ρ) {t:TypeId} {parts:Array (Nat×Operand)} {z:List Value} {ps:List (Nat×List AV)} {cs:List AV}
 (ho:∀ p∈parts.toList,KT p.2=true) (h1:zeroOf C.P t=some z) (h2:partsOf env parts.toList=some ps) (h3:R8 (KP C.P t) (eP z) ps=some cs) (hg:EP (bJ C.P t)=some true) :
 ∃ out:Array Value,(Instr.build t (parts.map fun p=>(p.1,ρ p.2))).run C.P w=.ok (.agg out) w∧RepC m φ cs out.toList:=by
 obtain⟨zv,hzr,hzc⟩:=DD h1 w;have hps:=AR hρ ho h2;have hz0:RepC m φ (eP z) zv.cells.toList:=by rw[hzc];exact p9 m φ z (hz t z h1)
 have hpl:(parts.map fun p=>(p.1,ρ p.2)).toList=parts.toList.map fun p=>(p.1,ρ p.2):=by simp
 cases hd:bJ C.P t with
 | none=>rw[hd]at hg;simp[EP]at hg
 | some d =>
  rw[hd]at hg
  cases d with
  | strct =>
   have hu:∃ fs,C.P.underlying t=some (.struct fs):=by
    unfold bJ at hd;split at hd<;>simp at hd;rename_i fs h';exact⟨fs,h'⟩
   obtain⟨fs,hu⟩:=hu
   have hm:=NF (P:=C.P) (w:=w) (fun f:Field=>(do pure (f.offset,← sizeOf f.type):Sem (Nat×Nat))) (fun f=>(f.offset,(iF C.P f.type).getD 0)) fs (fun f hfm=>by
    obtain⟨n,hn⟩:=hf.1 t fs (pR h1).1 hu f hfm
    simp[dL hn,hn])
   obtain⟨out,k1,k2⟩:=R7 (place':=fun i=>(fs.map fun f=>(f.offset,(iF C.P f.type).getD 0))[i]?) (fun i q hq=>QI hu hq) hps hz0 h3;refine⟨out,?_,k2⟩;unfold Instr.build;simp only[Sem.run_bind,hzr,Result.andThen_ok,jH hu,hm,hpl];rw[k1];rfl
  | array n e =>
   have hu:=nT hd;obtain⟨k,hk⟩:=hf.2 t n e (pR h1).1 hu
   obtain⟨out,k1,k2⟩:=R7 (place':=fun i=>some (i*k,k)) (fun i q hq=>by
    unfold KP at hq;rw[hd]at hq;simp only[UT,hk,dO]at hq
    exact hq) hps hz0 h3
   refine⟨out,?_,k2⟩;unfold Instr.build;simp only[Sem.run_bind,hzr,Result.andThen_ok,jH hu,dL hk,hpl];rw[k1];rfl
  | slice=>simp[EP]at hg
  | int=>simp[EP]at hg
  | string=>simp[EP]at hg
  | bool=>simp[EP]at hg
  | other=>simp[EP]at hg
end
theorem ICells.AP3 {m:Mem}:∀ {cs:List IV} {vs:List Value},cs.length=vs.length→(∀ (i:Nat) (c:IV) (v:Value),cs[i]?=some c→vs[i]?=some v→IRep m c v∧v.oneCell'=true)→ICells m cs vs
 | [],[],_,_=>.nil
 | [],_::_,h,_=>by simp at h
 | _::_,[],h,_=>by simp at h
 | c::cs,v::vs,h,hg=>by
  have h0:=hg 0 c v rfl rfl;exact .cons h0.1 h0.2 (ICells.AP3 (by simpa using h) fun i c v h1 h2=>hg (i+1) c v (by simpa using h1) (by simpa using h2))
theorem ICells.get {m:Mem}:∀ {cs:List IV} {vs:List Value},ICells m cs vs→∀ {i:Nat} {c:IV} {v:Value},cs[i]?=some c→vs[i]?=some v→IRep m c v∧v.oneCell'=true
 | _,_, .nil,i,c,v,h,_=>by simp at h
 | _,_, .cons a o b,0,c,v,h,h'=>by simp at h h';subst h;subst h';exact⟨a,o⟩
 | _,_, .cons a o b,i+1,c,v,h,h'=>b.get (by simpa using h) (by simpa using h')
theorem JL {m:Mem}:∀ {z:List Value} {zi:List IV},PU (eP z)=some zi→(∀ v∈z,v.oneCell'=true)→ICells m zi z
 | [],zi,h,_=>by simp[eP,PU]at h;subst h;exact .nil
 | v::z,zi,h,ho=>by
  simp only[eP,PU]at h
  cases hz:PU (eP z)with
  | none =>
   rw[hz]at h
   cases hl:jK v<;>rw[hl]at h<;>simp[AEB]at h
  | some l =>
   rw[hz]at h;have ih:=JL (m:=m) hz fun u hu=>ho u (by simp[hu])
   have h1:=ho v (by simp);unfold jK at h;split at h
   ·simp only[AEB,Option.some.injEq]at h;subst h;exact .cons (.isl0 none 0 fun _=>rfl) h1 ih
   ·simp only[AEB,Option.some.injEq]at h;subst h;exact .cons (.lit _) h1 ih
theorem lY {k:Nat} {zi:List IV} (hk:zi.length=k) (h0:0<k):∀ (n i:Nat),i<n*k→(List.replicate n zi).flatten[i]?=zi[i % k]?
 | 0,i,h=>by simp at h
 | n+1,i,h=>by
  rw[xO,z8,List.getElem?_append,hk];by_cases c:i<k
  ·rw[if_pos c,Nat.mod_eq_of_lt c]
  ·rw[if_neg c,lY hk h0 n (i-k) (by rw[Nat.add_mul]at h;omega)];rw[← Nat.mod_eq_sub_mod (by omega)]
theorem uE {k:Nat} {zi:List IV} (hk:zi.length=k) (n:Nat):(List.replicate n zi).flatten.length=n*k:=by
 induction n with
 | zero=>simp
 | succ n ih=>rw[xO,z8,zL,ih,hk,Nat.add_mul];omega
theorem QV {m:Mem} {k:Nat} {z:Array Value} {zi:List IV} (hz:ICells m zi z.toList) (hk:zi.length=k) (h0:0<k) (n N:Nat) (hN:n*k≤N) (f:Nat→Value) (hf:∀ i,i<N→f i=z[i % z.size]!) :
 ICells m (List.replicate n zi).flatten (((Array.range N).map f).toList.take (k*n)):=by
 have hzl:z.size=k:=by have:=hz.length;simp at this;omega
 apply ICells.AP3
 ·rw[uE hk];simp;rw[yU k];omega
 ·intro i c v h1 h2;rw[zF]at h2;split at h2
  ·rename_i hi;rw[yU]at hi;rw[lY hk h0 n i hi]at h1;have hiN:i<N:=by omega
   simp only[Array.toList_map,xJ,Array.toList_range,List.getElem?_range hiN,xG,Option.some.injEq]at h2;rw[hf i hiN]at h2;have hmod:i % k<k:=Nat.mod_lt _ h0;refine hz.get h1 ?_;rw[hzl]at h2;rw[← h2];have:i % k<z.size:=by omega
   simp[this]
  ·cases h2
theorem OD {α:Type}:∀ {l r:List α} {i:Nat} {x:α},rJ l i x=some r→r=l.set i x∧i<l.length
 | [],_,_,_,h=>by simp[rJ]at h
 | a::l,r,0,x,h=>by simp[rJ]at h;subst h;simp
 | a::l,r,i+1,x,h=>by
  simp only[rJ]at h;obtain⟨q,h1,h2⟩:=aI.1 h;obtain⟨rfl,h3⟩:=OD h1;injection h2 with h2;subst h2;simp;omega
theorem rH {k:Nat}:∀ {es:List (List IV)} {i:Nat} {x:List IV},(∀ e∈es,e.length=k)→x.length=k→i<es.length→(es.set i x).flatten=es.flatten.take (k*i)++x++es.flatten.drop (k*i+x.length)
 | [],i,_,_,_,h=>by simp at h
 | e::es,0,x,hw,hx,_=>by
  have he:=hw e (by simp);simp only[zC6,z8,Nat.mul_zero,List.take_zero,yO,zH];rw[hx,← he,List.drop_left]
 | e::es,i+1,x,hw,hx,h=>by
  have he:=hw e (by simp);simp only[List.set_cons_succ,z8];rw[rH (fun e he=>hw e (by simp[he])) hx (by simpa using h)];rw[show k*(i+1)=e.length+k*i by rw[zC,he];omega]
  have t1:(e++es.flatten).take (e.length+k*i)=e++es.flatten.take (k*i):=by
   rw[xM,zY (by omega:e.length≤e.length+k*i),xQ]
  have t2:(e++es.flatten).drop (e.length+(k*i+x.length))=es.flatten.drop (k*i+x.length):=by
   rw[zE5,List.drop_of_length_le (by omega:e.length≤e.length+(k*i+x.length)),xQ,yO]
  rw[yC,t1,t2];simp
theorem AGL {α:Type}:∀ (n:Nat) (x:α),ARG n x=List.replicate n x
 | 0,_=>rfl
 | n+1,x=>by simp[ARG,AGL n x,xO]
inductive PartsI (m:Mem):List (Nat×List IV)→List (Nat×Value)→Prop
 | nil:PartsI m [] []
 | cons {i:Nat} {cs:List IV} {v:Value} {ps:List (Nat×List IV)} {vs:List (Nat×Value)}:ICells m cs v.cells.toList→PartsI m ps vs→PartsI m ((i,cs)::ps) ((i,v)::vs)
theorem PartsI.mono {m m':Mem} (h:MLe m m'):∀ {ps:List (Nat×List IV)} {vs:List (Nat×Value)},PartsI m ps vs→PartsI m' ps vs
 | _,_, .nil=>.nil
 | _,_, .cons a b=>.cons (a.mono h) (b.mono h)
theorem PartsRep.mono {m m':Mem} {φ:Pl} (h:MLe m m'):∀ {ps:List (Nat×List AV)} {vs:List (Nat×Value)},PartsRep m φ ps vs→PartsRep m' φ ps vs
 | _,_, .nil=>.nil
 | _,_, .cons a b=>.cons (a.mono h (.refl _)) (b.mono h)
theorem wZ {w:World}:∀ {ps:List (Nat×List AV)} {m:Mem} {φ:Pl} {st st1:Store} {qs:List (Nat×List IV)} {vs:List (Nat×Value)},Inv w m φ st→PartsRep m φ ps vs→eZ st ps=some (qs,st1) →
 ∃ m1,PartsI m1 qs vs∧Inv w m1 φ st1∧Adv w m φ w m1 φ
 | [],m,φ,st,st1,qs,_,hi, .nil,h=>by simp[eZ]at h;obtain⟨rfl,rfl⟩:=h;exact⟨m, .nil,hi, .refl _ _ _⟩
 | _::ps,m,φ,st,st1,qs,_,hi, .cons hv hps,h=>by
  simp only[eZ]at h;obtain⟨p,h1,h2⟩:=aI.1 h;obtain⟨q,h3,h4⟩:=aI.1 h2;injection h4 with h4;injection h4 with h5 h6;subst h5;subst h6;obtain⟨m1,k1,k2,k3⟩:=BH hi hv h1;obtain⟨m2,k4,k5,k6⟩:=wZ k2 (hps.mono k3.mle) h3;exact⟨m2, .cons (k1.mono k6.mle) k4,k5,k3.trans k6⟩
theorem P7 {m:Mem} {k:Nat}:∀ {qs:List (Nat×List IV)} {vs:List (Nat×Value)} {es r:List (List IV)} {vals:Array Value},PartsI m qs vs→ICells m es.flatten vals.toList→(∀ e∈es,e.length=k)→oO k es qs=some r →
 ∃ out,Instr.fill (fun i=>some (i*k,k)) vals vs=some out∧ICells m r.flatten out.toList∧(∀ e∈r,e.length=k)∧r.length=es.length
 | _,_,es,r,vals, .nil,hc,hw,h=>by simp[oO]at h;subst h;exact⟨vals,rfl,hc,hw,rfl⟩
 | _,_,es,r,vals, .cons (i:=i) (cs:=cs) (v:=v) hv hps,hc,hw,h=>by
  simp only[oO]at h;obtain⟨h1,h2⟩:=aQ.1 h;have h1:cs.length=k:=by simpa using h1
  obtain⟨l,h3,h4⟩:=aI.1 h2;obtain⟨rfl,h5⟩:=OD h3;have hvl:=hv.length;simp only[yQ]at hvl;have hcl:=hc.length;rw[cZ hw]at hcl;simp only[yQ]at hcl
  have hik:i*k+k≤vals.size:=by
   rw[← hcl];have:=zD k (show i+1≤es.length by omega);rw[zC,zB8,yU k i]at this;exact this
  have hz:=M4 v.cells vals (i*k) (by omega)
  obtain⟨out,k1,k2,k3,k4⟩:=P7 (es:=es.set i cs) (vals:=v.cells.zipIdx.foldl (fun cs (c,j)=>cs.setIfInBounds (i*k+j) c) vals) hps (by
   rw[hz,rH hw h1 h5,yU k i,hvl]
   exact((hc.take _).append hv).append (hc.drop _)) (fun e he=>by
    rcases zB3 he with he|he
    ·exact hw e he
    ·subst he;exact h1) h4
  refine⟨out,?_,k2,k3,by simpa using k4⟩;simp only[Instr.fill];rw[if_neg (by simp;omega)];exact k1
section
variable {C:Ctx} {w:World} {m:Mem} {φ:Pl} {st:Store} {ρ:Operand→Value} {env:Nat→AV}
theorem ND (hz:sS C.P) {t e:TypeId} {n nb:Nat} {ps:List (Nat×List AV)} {vs:List (Nat×Value)} {v:AV} {st':Store} (hi:Inv w m φ st) (hf:∀ id,nb≤id→id<nb+wide→φ id=none)
 (ht:C.P.underlying t=some (.slice e)) (hps:PartsRep m φ ps vs) (h:vM C e n st nb ps=some (v,st')) (parts:Array (Nat×Value)) (hparts:parts.toList=vs) :
 ∃ y w',(Instr.buildSlice t n parts).run C.P w=.ok y w'∧Out w m φ nb v st' y w':=by
 have hnb:=hf nb (zO _) (gY nb);unfold vM at h;obtain⟨k,hk,h1⟩:=aI.1 h;obtain⟨z,hzz,h2⟩:=aI.1 h1;obtain⟨zi,hzi,h3⟩:=aI.1 h2;obtain⟨h4,h5⟩:=aQ.1 h3;obtain⟨hk0,hn,hzl⟩:=zR h4;obtain⟨q,hq,h6⟩:=aI.1 h5;obtain⟨es,hes,h7⟩:=aI.1 h6;simp only[Option.some.injEq,Prod.mk.injEq]at h7;obtain⟨rfl,rfl⟩:=h7;obtain⟨m1,k1,k2,k3⟩:=wZ hi hps hq;obtain⟨zv,hzr,hzc⟩:=DD hzz w;have hzrep:ICells m1 zi zv.cells.toList:=by rw[hzc];exact JL hzi (hz e z hzz)
 have hzs:zv.cells.size=k:=by have:=hzrep.length;simp at this;omega
 rw[AGL]at hes;have hmade:=QV hzrep hzl hk0 n (n*k) (zO _) (fun i=>zv.cells[i % zv.cells.size]!) (fun _ _=>rfl);rw[zY (by simp[yU])]at hmade;obtain⟨out,g1,g2,g3,g4⟩:=P7 k1 hmade (fun e he=>by rw[List.eq_of_mem_replicate he];exact hzl) hes;simp only[zD1]at g4;have hol:=g2.length;rw[cZ g3,g4]at hol;simp only[yQ]at hol
 have hrun:(Instr.buildSlice t n parts).run C.P w=.ok (.slice (some ⟨w.heap.size,0,none⟩) n n) (w.alloc (.cells out e)):=by
  have hn':¬ 16777216<n*k:=by omega
  unfold Instr.buildSlice;rw[hparts];by_cases h0:n*k=0
  ·have g5:∀ f:Nat→Value,Instr.fill (fun i=>some (i*k,k)) (Array.map f (Array.range (n*k))) vs=some out:=fun f=>by
    rw[← g1];congr 1;rw[h0];simp
   simp[jH ht,dL hk,h0,newRow];rw[← h0];simp[g5]
  ·simp[jH ht,dL hk,hn',h0,hzr,newRow,g1]
 have hblk:BlkOk (w.alloc (.cells out e)) m1 (kW φ nb (w.heap.size,one w.heap.size out.toList.length)) w.heap.size (one w.heap.size out.toList.length) (.arr k es):=by
  refine .arr (T:=e) (by simpa using dS w (.cells out e)) rfl hk0 g3 ?_ ?_ ?_ (fun _ hf=>hf) g2.one
  ·rw[g4,zY (by simp;omega)];exact g2
  ·rw[QN,g4];simp;omega
  ·intro o
   cases hm:m1 w.heap.size o with
   | none=>rfl
   | some u=>exact absurd (k2.mem.lt hm) (by omega)
 obtain⟨j1,j2⟩:=k2.push hnb _ hblk;refine⟨_,_,hrun,m1,_, .osl (bP _ _ _) (zO _) ?_ (fun _=>rfl) (fun h=>by cases h),j1,k3.trans j2,jW (zO _) (gY nb)⟩;simp;omega
theorem ADC (hz:sS C.P) {t:TypeId} {nb:Nat} {a b v:AV} {x y:Value} {st':Store} (hi:Inv w m φ st) (hf:∀ id,nb≤id→id<nb+wide→φ id=none)
 (ha:Rep m φ a x) (hb:Rep m φ b y) (h:Y8 C t st nb a b=some (v,st')):∃ r w',(Instr.makeSlice t x y).run C.P w=.ok r w'∧Out w m φ nb v st' r w':=by
 have hnb:=hf nb (zO _) (gY nb);unfold Y8 at h;split at h
 ·rename_i l c
  cases ha with
  | i ha=>cases ha with
   | lit=>cases hb with
    | i hb=>cases hb with
     | lit =>
      obtain⟨e,he,h1⟩:=aI.1 h;obtain⟨k,hk,h2⟩:=aI.1 h1;obtain⟨by_,hby,h3⟩:=aI.1 h2;obtain⟨z,hzz,h4⟩:=aI.1 h3;obtain⟨zi,hzi,h5⟩:=aI.1 h4;obtain⟨h6,h7⟩:=aQ.1 h5;obtain⟨hk0,hb0,hl0,hlc,hbytes,hzl⟩:=zR h6;simp only[Option.some.injEq,Prod.mk.injEq]at h7;obtain⟨rfl,rfl⟩:=h7;obtain⟨i,hi1,hi2,hi3⟩:=UH hby w;have hisz:i.size=k:=by unfold iF at hk;rw[hi3]at hk;simpa using hk
      obtain⟨zv,hzv⟩:∃ zv,i.zero=some zv:=by
       have hzz:=(pR hzz).2;rw[hi3]at hzz
       cases hq:i.zero with
       | none=>simp[hq]at hzz
       | some zv=>exact⟨zv,rfl⟩
      have hzc:zv.cells.toList=z:=by have hzz:=(pR hzz).2;rw[hi3]at hzz;simpa [hzv]using hzz
      have hb1:(1:Int)≤by_:=by omega
      have hcle:c≤by_*c:=by
       have:=Int.mul_le_mul_of_nonneg_right hb1 (show 0≤c by omega);simpa using this
      have hrun:=run_make (P:=C.P) w t e i zv (jX he) hi3 hzv .i64 .i64 l c hl0 hlc (by rw[hi2];exact hbytes) (by omega);rw[hisz]at hrun;have hzrep:ICells m zi zv.cells.toList:=by rw[hzc];exact JL hzi (hz e z hzz)
      have hN:l.toNat*k≤c.toNat*k:=Nat.mul_le_mul_right _ (by omega);have hmade:=QV hzrep hzl hk0 l.toNat (c.toNat*k) hN (fun i=>zv.cells[i % zv.cells.size]!) (fun _ _=>rfl);have hsz:(madeCells zv.cells (c.toNat*k)).size=c.toNat*k:=size_madeCells _ _;have hmade2:=QV hzrep hzl hk0 c.toNat (c.toNat*k) (zO _) (fun i=>zv.cells[i % zv.cells.size]!) (fun _ _=>rfl);rw[zY (by simp[yU])]at hmade2
      have hblk:BlkOk (w.alloc (.cells (madeCells zv.cells (c.toNat*k)) e)) m (kW φ nb (w.heap.size,one w.heap.size (madeCells zv.cells (c.toNat*k)).toList.length)) w.heap.size (one w.heap.size (madeCells zv.cells (c.toNat*k)).toList.length) (.arr k (List.replicate l.toNat zi)):=by
       refine .arr (T:=e) (by simpa using dS w (.cells (madeCells zv.cells (c.toNat*k)) e)) rfl hk0 (fun e he=>by rw[List.eq_of_mem_replicate he];exact hzl) ?_ ?_ ?_ (fun _ hf=>hf) hmade2.one
       ·rw[zD1];exact hmade
       ·simp only[zD1,yQ,hsz,yU k];exact hN
       ·intro o
        cases hm:m w.heap.size o with
        | none=>rfl
        | some u=>exact absurd (hi.mem.lt hm) (by omega)
      obtain⟨j1,j2⟩:=hi.push hnb _ hblk;refine⟨_,_,hrun,m,_, .osl (bP _ _ _) (by omega) ?_ (fun _=>rfl) (fun h=>by cases h),j1,j2,jW (zO _) (gY nb)⟩;simp only[yQ,hsz,zH,yU k];exact zO _
 ·cases h
end
end Go.Av

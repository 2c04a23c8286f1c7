/- Part 4 of what the proof rests on: the executor and what it is worth, and the program's functions as it runs them. No condition. -/
import Derived.Test.YtgpclhjdfdojhaaT3
import Derived.Test.YtgpclhjdfdojhaaProg
import Derived.KernelRfl
set_option linter.unusedVariables false
set_option linter.unusedSimpArgs false
/- Which equations the executor is run by. No condition. -/
namespace Go.Av
/-- What follows, not looked into before it is reached. -/
noncomputable def thenA (C : Ctx) (G : List Nat) (na : Nat) (b : Code) (S : AS) : XR := execA C G na b S
@[simp] theorem execA_seqT {C : Ctx} {G : List Nat} {na : Nat} (a b : Code) (S : AS) : execA C G na (.seq a b) S = seqK (execA C G na a S) (thenA C G na b) := execA_seq a b
@[simp] theorem thenA_ap {C : Ctx} {G : List Nat} {na : Nat} (b : Code) (e : List (Nat × AV)) (st : StL) : thenA C G na b ⟨e, st⟩ = execA C G na b ⟨e, st⟩ := (rfl)
def contA (C : Ctx) (call : CallF) (all : List Oper) (draw : Bool) (base : Nat) (os : List Oper) (i : Nat) (env : Nat → AV) (dst : Option Tmp) (log : List (Nat × List Nat × Bool)) (p : AV × Store) : Option RS := runOps C call all draw base os i ⟨putA env dst p.1, p.2, log⟩
@[simp] theorem contA_ap {C : Ctx} {call : CallF} (all : List Oper) (draw : Bool) (base : Nat) (os : List Oper) (i : Nat) (env : Nat → AV) (dst : Option Tmp) (log : List (Nat × List Nat × Bool)) (v : AV) (st : Store) : contA C call all draw base os i env dst log (v, st) = runOps C call all draw base os i ⟨putA env dst v, st, log⟩ := (rfl)
attribute [simp] execA_region execA_cond execA_block execA_skip execA_ret execA_exit upd_apply
@[simp] theorem widths_nil (k : Nat) : widths k [] = true := (rfl)
@[simp] theorem widths_cons (k : Nat) (e : List IV) (es : List (List IV)) : widths k (e :: es) = (e.length == k && widths k es) := (rfl)
@[simp] theorem litCell_nils : litCell (.slice none 0 0) = .nils := (rfl)
@[simp] theorem litAV_nils : litAV (.slice none 0 0) = .nils := (rfl)
@[simp] theorem litCell_bool (b : Bool) : litCell (.bool b) = .i (.lit (.bool b)) := (rfl)
@[simp] theorem litAV_bool (b : Bool) : litAV (.bool b) = .i (.lit (.bool b)) := (rfl)
@[simp] theorem cellsOf_bool (b : Bool) : cellsOf (.i (.lit (.bool b))) = some [.i (.lit (.bool b))] := (rfl)
@[simp] theorem litCell_int (k : IntKind) (n : Int) : litCell (.int k n) = .i (.lit (.int k n)) := (rfl)
@[simp] theorem litAV_int (k : IntKind) (n : Int) : litAV (.int k n) = .i (.lit (.int k n)) := (rfl)
@[simp] theorem cellsOf_int (k : IntKind) (n : Int) : cellsOf (.i (.lit (.int k n))) = some [.i (.lit (.int k n))] := (rfl)
@[simp] theorem litCell_string (s : ByteArray) : litCell (.string s) = .i (.lit (.string s)) := (rfl)
@[simp] theorem litAV_string (s : ByteArray) : litAV (.string s) = .i (.lit (.string s)) := (rfl)
@[simp] theorem cellsOf_string (s : ByteArray) : cellsOf (.i (.lit (.string s))) = some [.i (.lit (.string s))] := (rfl)
@[simp] theorem litCell_pointer (a : Option Addr) : litCell (.pointer a) = .i (.lit (.pointer a)) := (rfl)
@[simp] theorem litAV_pointer (a : Option Addr) : litAV (.pointer a) = .i (.lit (.pointer a)) := (rfl)
@[simp] theorem cellsOf_pointer (a : Option Addr) : cellsOf (.i (.lit (.pointer a))) = some [.i (.lit (.pointer a))] := (rfl)
@[simp] theorem litCell_map (r : Option Nat) : litCell (.map r) = .i (.lit (.map r)) := (rfl)
@[simp] theorem litAV_map (r : Option Nat) : litAV (.map r) = .i (.lit (.map r)) := (rfl)
@[simp] theorem cellsOf_map (r : Option Nat) : cellsOf (.i (.lit (.map r))) = some [.i (.lit (.map r))] := (rfl)
@[simp] theorem litCell_nilFunc  : litCell (.nilFunc) = .i (.lit (.nilFunc)) := (rfl)
@[simp] theorem litAV_nilFunc  : litAV (.nilFunc) = .i (.lit (.nilFunc)) := (rfl)
@[simp] theorem cellsOf_nilFunc  : cellsOf (.i (.lit (.nilFunc))) = some [.i (.lit (.nilFunc))] := (rfl)
@[simp] theorem litCell_nilIface  : litCell (.nilIface) = .i (.lit (.nilIface)) := (rfl)
@[simp] theorem litAV_nilIface  : litAV (.nilIface) = .i (.lit (.nilIface)) := (rfl)
@[simp] theorem cellsOf_nilIface  : cellsOf (.i (.lit (.nilIface))) = some [.i (.lit (.nilIface))] := (rfl)
@[simp] theorem litCell_tuple (a : Array Value) : litCell (.tuple a) = .i (.lit (.tuple a)) := (rfl)
@[simp] theorem litAV_tuple (a : Array Value) : litAV (.tuple a) = .i (.lit (.tuple a)) := (rfl)
@[simp] theorem litAV_agg (cs : Array Value) : litAV (.agg cs) = mkAgg (litCells cs.toList) := (rfl)
attribute [simp] litCells.eq_1 litCells.eq_2 cellsOf.eq_3 cellsOf.eq_4
@[simp] theorem cellsOf_nils  : cellsOf .nils = some [.nils] := (rfl)
@[simp] theorem cellsOf_own (i o : Nat) : cellsOf (.own i o) = some [(.own i o)] := (rfl)
@[simp] theorem cellsOf_ownE (i k j o : Nat) : cellsOf (.ownE i k j o) = some [(.ownE i k j o)] := (rfl)
@[simp] theorem cellsOf_osl (i k o l : Nat) : cellsOf (.osl i k o l) = some [(.osl i k o l)] := (rfl)
@[simp] theorem cellsOf_fn (f : Fn) (cs : List AV) : cellsOf (.fn f cs) = some [(.fn f cs)] := (rfl)
@[simp] theorem cellsOf_slice (a : Option Addr) (l c : Nat) : cellsOf (.i (.lit (.slice a l c))) = some [(.i (.lit (.slice a l c)))] := (rfl)
@[simp] theorem cellsOf_isl (es : List (List IV)) : cellsOf (.i (.isl es)) = some [(.i (.isl es))] := (rfl)
@[simp] theorem cellsOf_iref (cs : List IV) : cellsOf (.i (.iref cs)) = some [(.i (.iref cs))] := (rfl)
@[simp] theorem consI_nils  (x : Option (List IV)) : consI .nils x = none := by cases x <;> rfl
@[simp] theorem frzV_nils (st : Store)  : frzV st .nils = bnd (frz st fuelF .nils) fun p => some (p.1, frzIds st p.2) := (rfl)
@[simp] theorem argVal_nils (st : Store)  : argVal st .nils = bnd (frzV st .nils) fun p => some (.i p.1, p.2) := (rfl)
@[simp] theorem consI_own (i o : Nat) (x : Option (List IV)) : consI (.own i o) x = none := by cases x <;> rfl
@[simp] theorem frzV_own (st : Store) (i o : Nat) : frzV st (.own i o) = bnd (frz st fuelF (.own i o)) fun p => some (p.1, frzIds st p.2) := (rfl)
@[simp] theorem argVal_own (st : Store) (i o : Nat) : argVal st (.own i o) = bnd (frzV st (.own i o)) fun p => some (.i p.1, p.2) := (rfl)
@[simp] theorem consI_ownE (i k j o : Nat) (x : Option (List IV)) : consI (.ownE i k j o) x = none := by cases x <;> rfl
@[simp] theorem consI_osl (i k o l : Nat) (x : Option (List IV)) : consI (.osl i k o l) x = none := by cases x <;> rfl
@[simp] theorem frzV_osl (st : Store) (i k o l : Nat) : frzV st (.osl i k o l) = bnd (frz st fuelF (.osl i k o l)) fun p => some (p.1, frzIds st p.2) := (rfl)
@[simp] theorem argVal_osl (st : Store) (i k o l : Nat) : argVal st (.osl i k o l) = bnd (frzV st (.osl i k o l)) fun p => some (.i p.1, p.2) := (rfl)
@[simp] theorem consI_fn (f : Fn) (cs : List AV) (x : Option (List IV)) : consI (.fn f cs) x = none := by cases x <;> rfl
@[simp] theorem consI_agg (cs : List AV) (x : Option (List IV)) : consI (.agg cs) x = none := by cases x <;> rfl
@[simp] theorem frzV_agg (st : Store) (cs : List AV) : frzV st (.agg cs) = bnd (frz st fuelF (.agg cs)) fun p => some (p.1, frzIds st p.2) := (rfl)
@[simp] theorem argVal_agg (st : Store) (cs : List AV) : argVal st (.agg cs) = bnd (frzV st (.agg cs)) fun p => some (.i p.1, p.2) := (rfl)
@[simp] theorem consI_tup (cs : List AV) (x : Option (List IV)) : consI (.tup cs) x = none := by cases x <;> rfl
@[simp] theorem consI_junk  (x : Option (List IV)) : consI .junk x = none := by cases x <;> rfl
@[simp] theorem consI_i (v : IV) (l : List IV) : consI (.i v) (some l) = some (v :: l) := (rfl)
@[simp] theorem consI_in (v : IV) : consI (.i v) none = none := (rfl)
@[simp] theorem frzV_i (st : Store) (v : IV) : frzV st (.i v) = some (v, st) := (rfl)
@[simp] theorem argVal_i (st : Store) (v : IV) : argVal st (.i v) = some (.i v, st) := (rfl)
@[simp] theorem argVal_fn (st : Store) (f : Fn) (cs : List AV) : argVal st (.fn f cs) = some (.fn f cs, st) := (rfl)
@[simp] theorem aggD_strct : aggD (some .strct) = some true := (rfl)
@[simp] theorem aggD_slice (e : TypeId) : aggD (some (.slice e)) = some false := (rfl)
@[simp] theorem aggD_int (k : IntKind) : aggD (some (.int k)) = some false := (rfl)
@[simp] theorem aggD_string : aggD (some .string) = some false := (rfl)
@[simp] theorem aggD_bool : aggD (some .bool) = some false := (rfl)
@[simp] theorem aggD_other : aggD (some .other) = some false := (rfl)
@[simp] theorem aggD_array (n : Nat) (e : TypeId) : aggD (some (.array n e)) = some true := (rfl)
@[simp] theorem isShift_add : isShift .add = false := (rfl)
@[simp] theorem isShift_sub : isShift .sub = false := (rfl)
@[simp] theorem isShift_mul : isShift .mul = false := (rfl)
@[simp] theorem isShift_quo : isShift .quo = false := (rfl)
@[simp] theorem isShift_rem : isShift .rem = false := (rfl)
@[simp] theorem isShift_and : isShift .and = false := (rfl)
@[simp] theorem isShift_or : isShift .or = false := (rfl)
@[simp] theorem isShift_xor : isShift .xor = false := (rfl)
@[simp] theorem isShift_andNot : isShift .andNot = false := (rfl)
@[simp] theorem isShift_eql : isShift .eql = false := (rfl)
@[simp] theorem isShift_neq : isShift .neq = false := (rfl)
@[simp] theorem isShift_lss : isShift .lss = false := (rfl)
@[simp] theorem isShift_leq : isShift .leq = false := (rfl)
@[simp] theorem isShift_gtr : isShift .gtr = false := (rfl)
@[simp] theorem isShift_geq : isShift .geq = false := (rfl)
@[simp] theorem isShift_shl : isShift .shl = true := (rfl)
@[simp] theorem isShift_shr : isShift .shr = true := (rfl)
@[simp] theorem retVal_0 : retVal [] = .tup [] := (rfl)
@[simp] theorem retVal_1 (v : AV) : retVal [v] = v := (rfl)
@[simp] theorem retVal_2 (a b : AV) (l : List AV) : retVal (a :: b :: l) = .tup (a :: b :: l) := (rfl)
attribute [simp] minmaxA.eq_1 minmaxA.eq_2 nthE.eq_1 nthE.eq_2 nthE.eq_3
section
variable (C : Ctx) (call : CallF) (env : Nat → AV) (st : Store) (nb : Nat)
@[simp] theorem stepOp_move (x : Operand) : stepOp C call (.move x) env st nb = some (ev env x, st) := (rfl)
@[simp] theorem stepOp_assign (x : Operand) : stepOp C call (.assign x) env st nb = some (ev env x, st) := (rfl)
@[simp] theorem stepOp_pick (c a b : Operand) : stepOp C call (.pick c a b) env st nb = bnd (pickA (ev env a) (ev env b) (ev env c)) fun v => some (v, st) := (rfl)
@[simp] theorem stepOp_alloc (t : TypeId) : stepOp C call (.alloc t) env st nb = bnd (zeroOf C.P t) fun z => some (.own nb 0, upd st nb (some (.box (litCells z)))) := (rfl)
@[simp] theorem stepOp_box (t : TypeId) (x : Operand) : stepOp C call (.box t x) env st nb = bnd (cellsOf (ev env x)) fun cs => some (.own nb 0, upd st nb (some (.box cs))) := (rfl)
@[simp] theorem stepOp_build (t : TypeId) (ps : Array (Nat × Operand)) : stepOp C call (.build t ps) env st nb = bnd (aggD (descK C.P t)) fun g => tst g (bnd (zeroOf C.P t) fun z => bnd (partsOf env ps.toList) fun ps => bnd (fillA (placeS C.P t) (litCells z) ps) fun cs => some (mkAgg cs, st)) := (rfl)
@[simp] theorem stepOp_buildSlice (t : TypeId) (n : Nat) (ps : Array (Nat × Operand)) : stepOp C call (.buildSlice t n ps) env st nb = bnd (elemD (descK C.P t)) fun e => bnd (partsOf env ps.toList) fun ps => sliceLit C e n st nb ps := (rfl)
@[simp] theorem stepOp_load (t : TypeId) (a : Operand) : stepOp C call (.load t a) env st nb = bnd (loadA C t (ev env a) st) fun v => some (v, st) := (rfl)
@[simp] theorem stepOp_store (t : TypeId) (a x : Operand) : stepOp C call (.store t a x) env st nb = bnd (storeA C t (ev env a) (ev env x) st) fun st1 => some (.i (.lit undef), st1) := (rfl)
@[simp] theorem stepOp_nilCheck (x : Operand) : stepOp C call (.nilCheck x) env st nb = bnd (nilA (ev env x)) fun v => some (v, st) := (rfl)
@[simp] theorem stepOp_binOp (op : BinOp) (t : TypeId) (x y : Operand) (u : TypeId) : stepOp C call (.binOp op t x y u) env st nb = bnd (binA C op t (ev env x) (ev env y)) fun v => some (.i v, st) := (rfl)
@[simp] theorem stepOp_unOp (op : UnOp) (t : TypeId) (x : Operand) : stepOp C call (.unOp op t x) env st nb = bnd (unA op (ev env x)) fun v => some (.i v, st) := (rfl)
@[simp] theorem stepOp_convert (s d : TypeId) (x : Operand) : stepOp C call (.convert s d x) env st nb = bnd (convA (descK C.P s) (descK C.P d) (ev env x)) fun v => some (v, st) := (rfl)
@[simp] theorem stepOp_makeSlice (t : TypeId) (l c : Operand) : stepOp C call (.makeSlice t l c) env st nb = makeA C t st nb (ev env l) (ev env c) := (rfl)
@[simp] theorem stepOp_slice (t : TypeId) (x : Operand) (lo hi : Option Operand) : stepOp C call (.slice t x lo hi none) env st nb = bnd (sliceA C t (evO env lo) (evO env hi) (ev env x)) fun v => some (v, st) := (rfl)
@[simp] theorem stepOp_fieldAddr (s : TypeId) (x : Operand) (f : Nat) : stepOp C call (.fieldAddr s x f) env st nb = bnd (fieldT C.P s f) fun p => bnd (szOf C.P p.1) fun n => tst (decide (0 < n)) (bnd (fieldAddrA p.2 (ev env x)) fun v => some (v, st)) := (rfl)
@[simp] theorem stepOp_field (s : TypeId) (x : Operand) (f : Nat) : stepOp C call (.field s x f) env st nb = bnd (fieldT C.P s f) fun p => bnd (szOf C.P p.1) fun n => bnd (aggD (descK C.P p.1)) fun g => bnd (fieldA p.2 n g (ev env x)) fun v => some (v, st) := (rfl)
@[simp] theorem stepOp_indexAddr (t : TypeId) (x i : Operand) : stepOp C call (.indexAddr t x i) env st nb = bnd (indexAddrA C (ev env x) (ev env i) (descK C.P t)) fun v => some (v, st) := (rfl)
@[simp] theorem stepOp_index (t : TypeId) (x i : Operand) : stepOp C call (.index t x i) env st nb = bnd (indexA C (ev env i) (descK C.P t) (ev env x)) fun v => some (v, st) := (rfl)
@[simp] theorem stepOp_extract (x : Operand) (j : Nat) : stepOp C call (.extract x j) env st nb = bnd (extractA j (ev env x)) fun v => some (v, st) := (rfl)
@[simp] theorem stepOp_makeFunc (f : Fn) (fs cs : Array Operand) : stepOp C call (.makeFunc f fs cs) env st nb = tst fs.toList.isEmpty (some (.fn f (evL env cs.toList), st)) := (rfl)
@[simp] theorem stepOp_builtin (b : Builtin) (as1 : Array Operand) (ts : Array TypeId) : stepOp C call (.call ⟨.builtin b, as1, ts⟩) env st nb = builtinA C st nb b ts.toList (evL env as1.toList) := (rfl)
@[simp] theorem stepOp_callV (f : Operand) (as1 : Array Operand) (ts : Array TypeId) : stepOp C call (.call ⟨.value f, as1, ts⟩) env st nb = stepC C call (evL env as1.toList) st nb (ev env f) := (rfl)
@[simp] theorem touchI_move (x : Operand) : touchI env (.move x) = ([], true) := (rfl)
@[simp] theorem touchI_assign (x : Operand) : touchI env (.assign x) = ([], true) := (rfl)
@[simp] theorem touchI_pick (c a b : Operand) : touchI env (.pick c a b) = ([], true) := (rfl)
@[simp] theorem touchI_alloc (t : TypeId) : touchI env (.alloc t) = ([], true) := (rfl)
@[simp] theorem touchI_box (t : TypeId) (x : Operand) : touchI env (.box t x) = ([], true) := (rfl)
@[simp] theorem touchI_build (t : TypeId) (ps : Array (Nat × Operand)) : touchI env (.build t ps) = ([], true) := (rfl)
@[simp] theorem touchI_nilCheck (x : Operand) : touchI env (.nilCheck x) = ([], true) := (rfl)
@[simp] theorem touchI_binOp (op : BinOp) (t : TypeId) (x y : Operand) (u : TypeId) : touchI env (.binOp op t x y u) = ([], true) := (rfl)
@[simp] theorem touchI_unOp (op : UnOp) (t : TypeId) (x : Operand) : touchI env (.unOp op t x) = ([], true) := (rfl)
@[simp] theorem touchI_convert (s d : TypeId) (x : Operand) : touchI env (.convert s d x) = ([], true) := (rfl)
@[simp] theorem touchI_makeSlice (t : TypeId) (l c : Operand) : touchI env (.makeSlice t l c) = ([], true) := (rfl)
@[simp] theorem touchI_slice (t : TypeId) (x : Operand) (lo hi : Option Operand) : touchI env (.slice t x lo hi none) = ([], true) := (rfl)
@[simp] theorem touchI_fieldAddr (s : TypeId) (x : Operand) (f : Nat) : touchI env (.fieldAddr s x f) = ([], true) := (rfl)
@[simp] theorem touchI_field (s : TypeId) (x : Operand) (f : Nat) : touchI env (.field s x f) = ([], true) := (rfl)
@[simp] theorem touchI_indexAddr (t : TypeId) (x i : Operand) : touchI env (.indexAddr t x i) = ([], true) := (rfl)
@[simp] theorem touchI_index (t : TypeId) (x i : Operand) : touchI env (.index t x i) = ([], true) := (rfl)
@[simp] theorem touchI_extract (x : Operand) (j : Nat) : touchI env (.extract x j) = ([], true) := (rfl)
@[simp] theorem touchI_makeFunc (f : Fn) (fs cs : Array Operand) : touchI env (.makeFunc f fs cs) = ([], true) := (rfl)
attribute [simp] touchI.eq_1 touchI.eq_2 touchI.eq_3 touchI.eq_4 touchI.eq_5 touchI.eq_6
@[simp] theorem touchI_len (as1 : Array Operand) (ts : Array TypeId) : touchI env (.call ⟨.builtin .len, as1, ts⟩) = ([], true) := (rfl)
@[simp] theorem touchI_min (as1 : Array Operand) (ts : Array TypeId) : touchI env (.call ⟨.builtin .min, as1, ts⟩) = ([], true) := (rfl)
@[simp] theorem touchI_max (as1 : Array Operand) (ts : Array TypeId) : touchI env (.call ⟨.builtin .max, as1, ts⟩) = ([], true) := (rfl)
@[simp] theorem stepC_fn (args : List AV) (g : FuncId) (cs : List AV) : stepC C call args st nb (.fn (.func g) cs) = callGo call (C.ownArgs g) g (args ++ cs) st nb := (rfl)
variable (all : List Oper) (base i : Nat) (log : List (Nat × List Nat × Bool)) (dst : Option Tmp) (op : Op) (ty : TypeId) (pos : String) (after : Array Edge) (os : List Oper)
@[simp] theorem putA_some (t : Tmp) (v : AV) : putA env (some t) v = upd env t v := (rfl)
@[simp] theorem putA_none (v : AV) : putA env none v = env := (rfl)
@[simp] theorem runOps_nil (draw : Bool) (R : RS) : runOps C call all draw base [] i R = some R := (rfl)
@[simp] theorem runOps_f0 : runOps C call all false base (⟨dst, op, ty, pos, after, none⟩ :: os) i ⟨env, st, log⟩ =
    bnd (stepOp C call op env st (base + 8 * i)) (contA C call all false base os (i + 1) env dst []) := (rfl)
@[simp] theorem runOps_f1 (g : Nat × Bool) : runOps C call all false base (⟨dst, op, ty, pos, after, some g⟩ :: os) i ⟨env, st, log⟩ =
    bnd (wantD env g.2 ((all[g.1]?).bind (·.dst))) fun b => if b = true then bnd (stepOp C call op env st (base + 8 * i)) (contA C call all false base os (i + 1) env dst [])
      else runOps C call all false base os (i + 1) ⟨putA env dst (.i (.lit undef)), st, log⟩ := (rfl)
@[simp] theorem runOps_t0 : runOps C call all true base (⟨dst, op, ty, pos, after, none⟩ :: os) i ⟨env, st, log⟩ =
    tst (chkT base all ⟨dst, op, ty, pos, after, none⟩ st (touchI env op).1 (touchA st (touchI env op)).1 (touchI env op).2 log)
      (bnd (stepOp C call op env st (base + 8 * i)) (contA C call all true base os (i + 1) env dst (addLog i (touchI env op).2 log (touchA st (touchI env op)).1))) := (rfl)
@[simp] theorem runOps_t1 (g : Nat × Bool) : runOps C call all true base (⟨dst, op, ty, pos, after, some g⟩ :: os) i ⟨env, st, log⟩ =
    bnd (wantD env g.2 ((all[g.1]?).bind (·.dst))) fun b => if b = true then
      tst (chkT base all ⟨dst, op, ty, pos, after, some g⟩ st (touchI env op).1 (touchA st (touchI env op)).1 (touchI env op).2 log)
        (bnd (stepOp C call op env st (base + 8 * i)) (contA C call all true base os (i + 1) env dst (addLog i (touchI env op).2 log (touchA st (touchI env op)).1)))
      else runOps C call all true base os (i + 1) ⟨putA env dst (.i (.lit undef)), st, log⟩ := (rfl)
end
attribute [simp] envOf.eq_1 envOf.eq_2
attribute [simp] stOf.eq_1 stOf.eq_2 stOf.eq_3
attribute [simp] allI.eq_1 allI.eq_2
attribute [simp] aggOf.eq_1 aggOf.eq_2
attribute [simp] mkAgg.eq_1
attribute [simp] impI.eq_1 impI.eq_2
attribute [simp] ofCells.eq_1 ofCells.eq_2
attribute [simp] ofCellsI.eq_1 ofCellsI.eq_2
attribute [simp] dropE.eq_1 dropE.eq_2 dropE.eq_3
attribute [simp] takeE.eq_1 takeE.eq_2 takeE.eq_3
attribute [simp] cut.eq_1
attribute [simp] splice.eq_1 splice.eq_2 splice.eq_3 splice.eq_4 splice.eq_5
attribute [simp] elemD.eq_1
attribute [simp] frzSl.eq_1 frzSl.eq_2
attribute [simp] frz.eq_1 frz.eq_2 frz.eq_3 frz.eq_4 frz.eq_5 frz.eq_6
attribute [simp] frzP.eq_1 frzP.eq_2 frzP.eq_3
attribute [simp] frzL.eq_1 frzL.eq_2 frzL.eq_3
attribute [simp] fuelF.eq_1
attribute [simp] frzIds.eq_1 frzIds.eq_2
attribute [simp] frzVs.eq_1 frzVs.eq_2
attribute [simp] idsOf.eq_1 idsOf.eq_2 idsOf.eq_3 idsOf.eq_4 idsOf.eq_5 idsOf.eq_6 idsOf.eq_7 idsOf.eq_8 idsOf.eq_9
attribute [simp] idsOfL.eq_1 idsOfL.eq_2
attribute [simp] idsOfB.eq_1 idsOfB.eq_2 idsOfB.eq_3 idsOfB.eq_4 idsOfB.eq_5
attribute [simp] ren.eq_1 ren.eq_2 ren.eq_3 ren.eq_4 ren.eq_5 ren.eq_6 ren.eq_7 ren.eq_8 ren.eq_9
attribute [simp] renL.eq_1 renL.eq_2
attribute [simp] renB.eq_1 renB.eq_2 renB.eq_3 renB.eq_4 renB.eq_5
attribute [simp] posFrom.eq_1 posFrom.eq_2
attribute [simp] posOf.eq_1
attribute [simp] hasId.eq_1 hasId.eq_2
attribute [simp] reach.eq_1 reach.eq_2 reach.eq_3
attribute [simp] fuelR.eq_1
attribute [simp] idsOfBs.eq_1 idsOfBs.eq_2
attribute [simp] upto.eq_1 upto.eq_2
attribute [simp] keepIds.eq_1
attribute [simp] takeSt.eq_1 takeSt.eq_2
attribute [simp] ev.eq_1 ev.eq_2 ev.eq_3 ev.eq_4
attribute [simp] evL.eq_1 evL.eq_2
attribute [simp] evO.eq_1 evO.eq_2
attribute [simp] binI.eq_1 binI.eq_2 binI.eq_3 binI.eq_4 binI.eq_5 binI.eq_6 binI.eq_7 binI.eq_8 binI.eq_9 binI.eq_10 binI.eq_11 binI.eq_12 binI.eq_13 binI.eq_14 binI.eq_15
attribute [simp] shI.eq_1 shI.eq_2
attribute [simp] binS.eq_1 binS.eq_2 binS.eq_3 binS.eq_4 binS.eq_5 binS.eq_6 binS.eq_7
attribute [simp] binB.eq_1 binB.eq_2
attribute [simp] binV.eq_1 binV.eq_2
attribute [simp] binIK.eq_1 binIK.eq_2
attribute [simp] binA.eq_1 binA.eq_2 binA.eq_3 binA.eq_4
attribute [simp] unA.eq_1 unA.eq_2
attribute [simp] idxBelow.eq_1
attribute [simp] idxUpto.eq_1 idxUpto.eq_2
attribute [simp] elemsSl.eq_1 elemsSl.eq_2
attribute [simp] elemsOf.eq_1 elemsOf.eq_2 elemsOf.eq_3 elemsOf.eq_4
attribute [simp] appNil.eq_1 appNil.eq_2
attribute [simp] appOsl.eq_1
attribute [simp] appTo.eq_1 appTo.eq_2
attribute [simp] appA.eq_1
attribute [simp] copyOsl.eq_1
attribute [simp] copyTo.eq_1 copyTo.eq_2
attribute [simp] copyA.eq_1
attribute [simp] lenA.eq_1 lenA.eq_2 lenA.eq_3 lenA.eq_4 lenA.eq_5
attribute [simp] sliceA.eq_1 sliceA.eq_2 sliceA.eq_3 sliceA.eq_4
attribute [simp] fillA.eq_1 fillA.eq_2
attribute [simp] partsOf.eq_1 partsOf.eq_2
attribute [simp] placeD.eq_1 placeD.eq_2
attribute [simp] placeS.eq_1
attribute [simp] setElem.eq_1 setElem.eq_2 setElem.eq_3
attribute [simp] setElems.eq_1 setElems.eq_2
attribute [simp] frzParts.eq_1 frzParts.eq_2
attribute [simp] consZ.eq_1 consZ.eq_2
attribute [simp] zeroI.eq_1 zeroI.eq_2
attribute [simp] repl.eq_1 repl.eq_2
attribute [simp] loadB.eq_1 loadB.eq_2
attribute [simp] loadE.eq_1 loadE.eq_2
attribute [simp] loadAt.eq_1 loadAt.eq_2 loadAt.eq_3
attribute [simp] loadA.eq_1
attribute [simp] storeB.eq_1
attribute [simp] storeE.eq_1
attribute [simp] storeAt.eq_1 storeAt.eq_2
attribute [simp] storeA.eq_1
attribute [simp] argsVal.eq_1 argsVal.eq_2
attribute [simp] argsFor.eq_1 argsFor.eq_2
attribute [simp] putBack.eq_1 putBack.eq_2 putBack.eq_3
attribute [simp] backOf.eq_1 backOf.eq_2 backOf.eq_3
attribute [simp] callBack.eq_1
attribute [simp] callWith.eq_1
attribute [simp] callGo.eq_1
attribute [simp] notInt.eq_1 notInt.eq_2
attribute [simp] builtinA.eq_1 builtinA.eq_2 builtinA.eq_3 builtinA.eq_4 builtinA.eq_5
attribute [simp] convA.eq_1 convA.eq_2
attribute [simp] pickA.eq_1
attribute [simp] nilA.eq_1 nilA.eq_2 nilA.eq_3 nilA.eq_4 nilA.eq_5
attribute [simp] makeA.eq_1
attribute [simp] fieldAddrA.eq_1 fieldAddrA.eq_2 fieldAddrA.eq_3 fieldAddrA.eq_4
attribute [simp] fieldA.eq_1 fieldA.eq_2
attribute [simp] indexSl.eq_1 indexSl.eq_2 indexSl.eq_3
attribute [simp] indexAr.eq_1
attribute [simp] indexAddrA.eq_1 indexAddrA.eq_2
attribute [simp] indexA.eq_1 indexA.eq_2
attribute [simp] extractA.eq_1
attribute [simp] sliceLit.eq_1
attribute [simp] yieldA.eq_1 yieldA.eq_2
attribute [simp] wantD.eq_1 wantD.eq_2
attribute [simp] wantA.eq_1 wantA.eq_2
attribute [simp] partOps.eq_1 partOps.eq_2
attribute [simp] touchA.eq_1
attribute [simp] allIn.eq_1 allIn.eq_2
attribute [simp] oldOk.eq_1 oldOk.eq_2
attribute [simp] chkT.eq_1
attribute [simp] liveO.eq_1 liveO.eq_2
attribute [simp] liveAll.eq_1 liveAll.eq_2
attribute [simp] isStrD.eq_1
attribute [simp] bytesI.eq_1 bytesI.eq_2
attribute [simp] waitsA.eq_1
attribute [simp] noneOf.eq_1 noneOf.eq_2
attribute [simp] logOk.eq_1 logOk.eq_2
attribute [simp] addLog.eq_1 addLog.eq_2
attribute [simp] keepEnv.eq_1 keepEnv.eq_2
attribute [simp] envAt.eq_1 envAt.eq_2
attribute [simp] settleW.eq_1
attribute [simp] settle.eq_1
attribute [simp] seqK.eq_1 seqK.eq_2 seqK.eq_3 seqK.eq_4
attribute [simp] blockK.eq_1 blockK.eq_2 blockK.eq_3 blockK.eq_4
attribute [simp] condK.eq_1
attribute [simp] doneK.eq_1 doneK.eq_2
attribute [simp] retOne.eq_1 retOne.eq_2
attribute [simp] retAll.eq_1 retAll.eq_2
attribute [simp] frzRes.eq_1 frzRes.eq_2
attribute [simp] resFor.eq_1 resFor.eq_2
attribute [simp] keepVs.eq_1 keepVs.eq_2
attribute [simp] outOf.eq_1
attribute [simp] finish.eq_1
attribute [simp] endK.eq_1 endK.eq_2 endK.eq_3 endK.eq_4
attribute [simp] argAt.eq_1 argAt.eq_2 argAt.eq_3
attribute [simp] enterE.eq_1 enterE.eq_2
attribute [simp] enter.eq_1
@[simp] theorem resKeep_one (st : Store) (v : AV) : resKeep st [v] = some ([v], st) := (rfl)
@[simp] theorem resKeep_nil (st : Store) : resKeep st [] = some ([], st) := (rfl)
@[simp] theorem resKeep_two (st : Store) (a b : AV) (r : List AV) : resKeep st (a :: b :: r) = keepVs st (a :: b :: r) := (rfl)
@[simp] theorem keepV_agg (st : Store) (cs : List AV) : keepV st (.agg cs) = bnd (frzV st (.agg cs)) fun p => some (.i p.1, p.2) := (rfl)
@[simp] theorem keepV_nils (st : Store)  : keepV st .nils = some (.nils, st) := (rfl)
@[simp] theorem keepV_own (st : Store) (i o : Nat) : keepV st (.own i o) = some ((.own i o), st) := (rfl)
@[simp] theorem keepV_ownE (st : Store) (i k j o : Nat) : keepV st (.ownE i k j o) = some ((.ownE i k j o), st) := (rfl)
@[simp] theorem keepV_osl (st : Store) (i k o l : Nat) : keepV st (.osl i k o l) = some ((.osl i k o l), st) := (rfl)
@[simp] theorem keepV_fn (st : Store) (f : Fn) (cs : List AV) : keepV st (.fn f cs) = some ((.fn f cs), st) := (rfl)
@[simp] theorem keepV_i (st : Store) (v : IV) : keepV st (.i v) = some ((.i v), st) := (rfl)
@[simp] theorem keepV_tup (st : Store) (cs : List AV) : keepV st (.tup cs) = some ((.tup cs), st) := (rfl)
@[simp] theorem keepV_junk (st : Store)  : keepV st .junk = some (.junk, st) := (rfl)
@[simp] theorem waitsN_3 (all : List Oper) (after : List Edge) (j : Nat) : waitsN all 3 after j = if waitsA after j = true then true else after.any fun e => Region.binds .any e && waitsN all 2 (aftersOf all e.on) j := (rfl)
@[simp] theorem waitsN_2 (all : List Oper) (after : List Edge) (j : Nat) : waitsN all 2 after j = if waitsA after j = true then true else after.any fun e => Region.binds .any e && waitsN all 1 (aftersOf all e.on) j := (rfl)
@[simp] theorem waitsN_1 (all : List Oper) (after : List Edge) (j : Nat) : waitsN all 1 after j = if waitsA after j = true then true else after.any fun e => Region.binds .any e && waitsN all 0 (aftersOf all e.on) j := (rfl)
@[simp] theorem waitsN_0 (all : List Oper) (after : List Edge) (j : Nat) : waitsN all 0 after j = waitsA after j := (rfl)
attribute [simp] aftersOf.eq_1
attribute [simp] undef
attribute [simp] wide
end Go.Av

/- Written by a program: which slots each function keeps between its regions, and facts on the loaded program's types. No condition. -/
namespace Go.Proofs.Ytgpclhjdfdojhaa
open Go Go.Av
def GS : FuncId → List Nat
  | 3 => [0, 2, 3, 4, 5, 6, 7, 8, 9, 10, 11, 12, 13, 16, 52, 65]
  | 4 => [0, 2, 3, 4, 5, 6, 7, 8, 9, 10, 11, 12, 15, 53]
  | 5 => [0, 1, 2, 3, 6, 7, 8, 9, 10, 11, 12, 13, 14, 15, 16, 17, 18, 23, 28, 57, 62, 67, 86, 94, 97, 115, 120, 123]
  | 6 => [0, 1, 2, 4, 5, 6, 7, 8, 9, 10, 11, 12, 13, 14, 15, 16, 17, 18, 23, 55, 60, 82, 93, 98, 101, 124, 129, 134, 137]
  | 7 => [0, 1, 2, 3, 6, 7, 8, 9, 10, 11, 12, 13, 14, 15, 16, 17, 18, 23, 28, 57, 62, 67, 86, 94, 97, 115, 120, 123]
  | 8 => [0, 1, 4, 5, 6, 7, 8, 9, 10, 11, 12, 13, 14, 15, 16, 17, 25, 62, 74]
  | 9 => [0, 1, 4, 5, 6, 7, 8, 9, 10, 11, 12, 13, 14, 15, 16, 17, 18, 19, 20, 21, 29, 62, 74, 91, 104]
  | 10 => [0, 2, 3, 4, 5, 6, 7, 8, 9, 10, 25, 36]
  | 11 => [0, 1, 2, 3, 4, 6, 7, 8, 9, 14, 20, 21, 22, 30, 42]
  | 12 => [0, 1, 2, 3, 6, 7, 8, 9, 14, 19, 28, 36]
  | 13 => [0, 1, 2, 3, 4]
  | 14 => [0, 1, 2, 4]
  | 15 => [0, 2, 3, 4, 5, 13]
  | 16 => [0, 1, 2, 3, 4, 5, 6, 7, 8, 12, 20]
  | 17 => [0, 1, 2, 4, 5, 6, 7, 8, 12, 26]
  | 18 => [0, 1, 4, 5, 10, 14, 25]
  | 19 => [0, 1, 2, 3, 4, 5, 6, 7, 9, 10, 11, 12, 13, 18, 32]
  | 20 => [0, 1, 2, 4, 10]
  | 21 => [0, 1, 4, 5, 11, 15, 25]
  | 22 => [0, 1, 2, 3]
  | 23 => [0, 2, 3, 4, 11]
  | 24 => [0, 1, 2, 3, 4, 9, 14, 20, 26]
  | 25 => [0, 1, 4, 5, 10, 14, 26]
  | 26 => [0, 1, 2, 4]
  | 27 => [0, 1, 4, 5, 9]
  | 28 => [0, 1, 2, 4, 10]
  | 29 => [0, 1, 4, 5, 10, 14, 26]
  | 30 => [0, 1, 4, 5, 9]
  | 31 => [0, 1, 4, 5, 9, 20, 29]
  | 32 => [0, 1, 4, 10]
  | 33 => [0, 1, 2, 3, 6, 7, 8, 9, 10, 14, 22, 34, 41]
  | 34 => [0, 2, 3, 4, 11]
  | 35 => [0, 2, 3, 4, 5, 6, 7, 8, 18, 29]
  | 36 => [0, 1, 2, 4, 5, 15]
  | 37 => [0, 2, 5]
  | 38 => [0, 1, 4, 5, 6, 24, 36]
  | 39 => [0, 1, 4, 5, 10, 11, 17, 24]
  | 40 => [0, 1, 2, 6, 7, 8, 9, 10, 18, 21, 37]
  | 41 => [0, 2, 3, 4, 9, 10, 11]
  | 42 => [0, 1, 2, 6, 7, 27, 32, 33, 34, 46]
  | 43 => [0, 1, 4, 5, 6, 12, 39, 40, 41]
  | 44 => [0, 1, 3, 8]
  | 45 => [0, 2, 3, 4, 5, 6, 13, 37, 38, 39]
  | 46 => [0, 1, 2, 4]
  | 47 => [0, 1, 2, 4, 5, 6, 9, 27]
  | 48 => [0, 1, 4, 5, 10, 14, 26]
  | 49 => [0, 2]
  | 50 => [0, 1, 2, 6, 7, 8, 28, 62, 90, 95, 96, 97, 109]
  | 51 => [0, 1, 4]
  | 52 => [0, 1, 2, 4, 9]
  | 53 => [0, 2]
  | 54 => [0, 1, 2, 3, 6, 7, 8, 9, 10, 11, 14, 34]
  | 55 => [0, 1, 2, 4]
  | 56 => [0, 1, 2, 4, 17]
  | 57 => [0, 1, 2]
  | 58 => [0, 1, 2, 3]
  | 59 => [0, 1, 2, 3, 4, 9, 14]
  | 60 => [0, 1, 4, 5, 9, 18, 27, 39, 49, 60]
  | 61 => [0, 1, 2]
  | 62 => [0, 1, 4, 5, 6, 10]
  | 63 => [0, 1, 2]
  | 64 => [0, 2, 3, 4, 9, 24]
  | 65 => [0, 1, 4]
  | 66 => [0, 2, 4, 8, 9, 10, 11, 12, 17]
  | 67 => [0, 1, 4, 5, 9, 10, 19, 35, 36, 42]
  | 68 => [0, 2, 3, 7, 8, 11]
  | 69 => [0, 2, 5]
  | 70 => [0, 2, 3, 4, 7, 10]
  | 71 => [0, 2, 3, 6]
  | 72 => [0, 1, 2, 6]
  | 73 => [0, 1, 2, 3, 6, 7, 24, 29, 41, 43, 44, 57]
  | 74 => [0, 1, 2, 3, 4, 16]
  | 75 => [0, 2, 3, 4, 7, 10]
  | 76 => [0, 1, 2, 6, 7, 8, 9, 20, 32, 33, 34, 39, 46, 59, 66]
  | 77 => [0, 1, 2, 3, 6]
  | 78 => [0, 2, 4]
  | 79 => [0, 2, 3]
  | 80 => [0, 1, 2, 4, 5, 6, 7, 16, 25, 33, 34, 42, 50, 58]
  | 81 => [0]
  | 82 => [0, 2]
  | 83 => [0, 2, 3, 7]
  | 99 => []
  | _ => []
def ownA : FuncId → Bool
  | 38 => true
  | 39 => true
  | 40 => true
  | 44 => true
  | 51 => true
  | 52 => true
  | 54 => true
  | 56 => true
  | 64 => true
  | 65 => true
  | 68 => true
  | 69 => true
  | 76 => true
  | _ => false
def keepR : FuncId → Bool
  | 37 => true
  | 39 => true
  | 64 => true
  | 71 => true
  | 62 => true
  | 54 => true
  | _ => false
def eqTy : TypeId → Bool
  | 23 => true
  | 24 => true
  | 42 => true
  | _ => false
@[simp] theorem oA3 : ownA 3 = false := (rfl)
@[simp] theorem kR3 : keepR 3 = false := (rfl)
@[simp] theorem gS3 : GS 3 = [0, 2, 3, 4, 5, 6, 7, 8, 9, 10, 11, 12, 13, 16, 52, 65] := (rfl)
@[simp] theorem oA4 : ownA 4 = false := (rfl)
@[simp] theorem kR4 : keepR 4 = false := (rfl)
@[simp] theorem gS4 : GS 4 = [0, 2, 3, 4, 5, 6, 7, 8, 9, 10, 11, 12, 15, 53] := (rfl)
@[simp] theorem oA5 : ownA 5 = false := (rfl)
@[simp] theorem kR5 : keepR 5 = false := (rfl)
@[simp] theorem gS5 : GS 5 = [0, 1, 2, 3, 6, 7, 8, 9, 10, 11, 12, 13, 14, 15, 16, 17, 18, 23, 28, 57, 62, 67, 86, 94, 97, 115, 120, 123] := (rfl)
@[simp] theorem oA6 : ownA 6 = false := (rfl)
@[simp] theorem kR6 : keepR 6 = false := (rfl)
@[simp] theorem gS6 : GS 6 = [0, 1, 2, 4, 5, 6, 7, 8, 9, 10, 11, 12, 13, 14, 15, 16, 17, 18, 23, 55, 60, 82, 93, 98, 101, 124, 129, 134, 137] := (rfl)
@[simp] theorem oA7 : ownA 7 = false := (rfl)
@[simp] theorem kR7 : keepR 7 = false := (rfl)
@[simp] theorem gS7 : GS 7 = [0, 1, 2, 3, 6, 7, 8, 9, 10, 11, 12, 13, 14, 15, 16, 17, 18, 23, 28, 57, 62, 67, 86, 94, 97, 115, 120, 123] := (rfl)
@[simp] theorem oA8 : ownA 8 = false := (rfl)
@[simp] theorem kR8 : keepR 8 = false := (rfl)
@[simp] theorem gS8 : GS 8 = [0, 1, 4, 5, 6, 7, 8, 9, 10, 11, 12, 13, 14, 15, 16, 17, 25, 62, 74] := (rfl)
@[simp] theorem oA9 : ownA 9 = false := (rfl)
@[simp] theorem kR9 : keepR 9 = false := (rfl)
@[simp] theorem gS9 : GS 9 = [0, 1, 4, 5, 6, 7, 8, 9, 10, 11, 12, 13, 14, 15, 16, 17, 18, 19, 20, 21, 29, 62, 74, 91, 104] := (rfl)
@[simp] theorem oA10 : ownA 10 = false := (rfl)
@[simp] theorem kR10 : keepR 10 = false := (rfl)
@[simp] theorem gS10 : GS 10 = [0, 2, 3, 4, 5, 6, 7, 8, 9, 10, 25, 36] := (rfl)
@[simp] theorem oA11 : ownA 11 = false := (rfl)
@[simp] theorem kR11 : keepR 11 = false := (rfl)
@[simp] theorem gS11 : GS 11 = [0, 1, 2, 3, 4, 6, 7, 8, 9, 14, 20, 21, 22, 30, 42] := (rfl)
@[simp] theorem oA12 : ownA 12 = false := (rfl)
@[simp] theorem kR12 : keepR 12 = false := (rfl)
@[simp] theorem gS12 : GS 12 = [0, 1, 2, 3, 6, 7, 8, 9, 14, 19, 28, 36] := (rfl)
@[simp] theorem oA13 : ownA 13 = false := (rfl)
@[simp] theorem kR13 : keepR 13 = false := (rfl)
@[simp] theorem gS13 : GS 13 = [0, 1, 2, 3, 4] := (rfl)
@[simp] theorem oA14 : ownA 14 = false := (rfl)
@[simp] theorem kR14 : keepR 14 = false := (rfl)
@[simp] theorem gS14 : GS 14 = [0, 1, 2, 4] := (rfl)
@[simp] theorem oA15 : ownA 15 = false := (rfl)
@[simp] theorem kR15 : keepR 15 = false := (rfl)
@[simp] theorem gS15 : GS 15 = [0, 2, 3, 4, 5, 13] := (rfl)
@[simp] theorem oA16 : ownA 16 = false := (rfl)
@[simp] theorem kR16 : keepR 16 = false := (rfl)
@[simp] theorem gS16 : GS 16 = [0, 1, 2, 3, 4, 5, 6, 7, 8, 12, 20] := (rfl)
@[simp] theorem oA17 : ownA 17 = false := (rfl)
@[simp] theorem kR17 : keepR 17 = false := (rfl)
@[simp] theorem gS17 : GS 17 = [0, 1, 2, 4, 5, 6, 7, 8, 12, 26] := (rfl)
@[simp] theorem oA18 : ownA 18 = false := (rfl)
@[simp] theorem kR18 : keepR 18 = false := (rfl)
@[simp] theorem gS18 : GS 18 = [0, 1, 4, 5, 10, 14, 25] := (rfl)
@[simp] theorem oA19 : ownA 19 = false := (rfl)
@[simp] theorem kR19 : keepR 19 = false := (rfl)
@[simp] theorem gS19 : GS 19 = [0, 1, 2, 3, 4, 5, 6, 7, 9, 10, 11, 12, 13, 18, 32] := (rfl)
@[simp] theorem oA20 : ownA 20 = false := (rfl)
@[simp] theorem kR20 : keepR 20 = false := (rfl)
@[simp] theorem gS20 : GS 20 = [0, 1, 2, 4, 10] := (rfl)
@[simp] theorem oA21 : ownA 21 = false := (rfl)
@[simp] theorem kR21 : keepR 21 = false := (rfl)
@[simp] theorem gS21 : GS 21 = [0, 1, 4, 5, 11, 15, 25] := (rfl)
@[simp] theorem oA22 : ownA 22 = false := (rfl)
@[simp] theorem kR22 : keepR 22 = false := (rfl)
@[simp] theorem gS22 : GS 22 = [0, 1, 2, 3] := (rfl)
@[simp] theorem oA23 : ownA 23 = false := (rfl)
@[simp] theorem kR23 : keepR 23 = false := (rfl)
@[simp] theorem gS23 : GS 23 = [0, 2, 3, 4, 11] := (rfl)
@[simp] theorem oA24 : ownA 24 = false := (rfl)
@[simp] theorem kR24 : keepR 24 = false := (rfl)
@[simp] theorem gS24 : GS 24 = [0, 1, 2, 3, 4, 9, 14, 20, 26] := (rfl)
@[simp] theorem oA25 : ownA 25 = false := (rfl)
@[simp] theorem kR25 : keepR 25 = false := (rfl)
@[simp] theorem gS25 : GS 25 = [0, 1, 4, 5, 10, 14, 26] := (rfl)
@[simp] theorem oA26 : ownA 26 = false := (rfl)
@[simp] theorem kR26 : keepR 26 = false := (rfl)
@[simp] theorem gS26 : GS 26 = [0, 1, 2, 4] := (rfl)
@[simp] theorem oA27 : ownA 27 = false := (rfl)
@[simp] theorem kR27 : keepR 27 = false := (rfl)
@[simp] theorem gS27 : GS 27 = [0, 1, 4, 5, 9] := (rfl)
@[simp] theorem oA28 : ownA 28 = false := (rfl)
@[simp] theorem kR28 : keepR 28 = false := (rfl)
@[simp] theorem gS28 : GS 28 = [0, 1, 2, 4, 10] := (rfl)
@[simp] theorem oA29 : ownA 29 = false := (rfl)
@[simp] theorem kR29 : keepR 29 = false := (rfl)
@[simp] theorem gS29 : GS 29 = [0, 1, 4, 5, 10, 14, 26] := (rfl)
@[simp] theorem oA30 : ownA 30 = false := (rfl)
@[simp] theorem kR30 : keepR 30 = false := (rfl)
@[simp] theorem gS30 : GS 30 = [0, 1, 4, 5, 9] := (rfl)
@[simp] theorem oA31 : ownA 31 = false := (rfl)
@[simp] theorem kR31 : keepR 31 = false := (rfl)
@[simp] theorem gS31 : GS 31 = [0, 1, 4, 5, 9, 20, 29] := (rfl)
@[simp] theorem oA32 : ownA 32 = false := (rfl)
@[simp] theorem kR32 : keepR 32 = false := (rfl)
@[simp] theorem gS32 : GS 32 = [0, 1, 4, 10] := (rfl)
@[simp] theorem oA33 : ownA 33 = false := (rfl)
@[simp] theorem kR33 : keepR 33 = false := (rfl)
@[simp] theorem gS33 : GS 33 = [0, 1, 2, 3, 6, 7, 8, 9, 10, 14, 22, 34, 41] := (rfl)
@[simp] theorem oA34 : ownA 34 = false := (rfl)
@[simp] theorem kR34 : keepR 34 = false := (rfl)
@[simp] theorem gS34 : GS 34 = [0, 2, 3, 4, 11] := (rfl)
@[simp] theorem oA35 : ownA 35 = false := (rfl)
@[simp] theorem kR35 : keepR 35 = false := (rfl)
@[simp] theorem gS35 : GS 35 = [0, 2, 3, 4, 5, 6, 7, 8, 18, 29] := (rfl)
@[simp] theorem oA36 : ownA 36 = false := (rfl)
@[simp] theorem kR36 : keepR 36 = false := (rfl)
@[simp] theorem gS36 : GS 36 = [0, 1, 2, 4, 5, 15] := (rfl)
@[simp] theorem oA37 : ownA 37 = false := (rfl)
@[simp] theorem kR37 : keepR 37 = true := (rfl)
@[simp] theorem gS37 : GS 37 = [0, 2, 5] := (rfl)
@[simp] theorem oA38 : ownA 38 = true := (rfl)
@[simp] theorem kR38 : keepR 38 = false := (rfl)
@[simp] theorem gS38 : GS 38 = [0, 1, 4, 5, 6, 24, 36] := (rfl)
@[simp] theorem oA39 : ownA 39 = true := (rfl)
@[simp] theorem kR39 : keepR 39 = true := (rfl)
@[simp] theorem gS39 : GS 39 = [0, 1, 4, 5, 10, 11, 17, 24] := (rfl)
@[simp] theorem oA40 : ownA 40 = true := (rfl)
@[simp] theorem kR40 : keepR 40 = false := (rfl)
@[simp] theorem gS40 : GS 40 = [0, 1, 2, 6, 7, 8, 9, 10, 18, 21, 37] := (rfl)
@[simp] theorem oA41 : ownA 41 = false := (rfl)
@[simp] theorem kR41 : keepR 41 = false := (rfl)
@[simp] theorem gS41 : GS 41 = [0, 2, 3, 4, 9, 10, 11] := (rfl)
@[simp] theorem oA42 : ownA 42 = false := (rfl)
@[simp] theorem kR42 : keepR 42 = false := (rfl)
@[simp] theorem gS42 : GS 42 = [0, 1, 2, 6, 7, 27, 32, 33, 34, 46] := (rfl)
@[simp] theorem oA43 : ownA 43 = false := (rfl)
@[simp] theorem kR43 : keepR 43 = false := (rfl)
@[simp] theorem gS43 : GS 43 = [0, 1, 4, 5, 6, 12, 39, 40, 41] := (rfl)
@[simp] theorem oA44 : ownA 44 = true := (rfl)
@[simp] theorem kR44 : keepR 44 = false := (rfl)
@[simp] theorem gS44 : GS 44 = [0, 1, 3, 8] := (rfl)
@[simp] theorem oA45 : ownA 45 = false := (rfl)
@[simp] theorem kR45 : keepR 45 = false := (rfl)
@[simp] theorem gS45 : GS 45 = [0, 2, 3, 4, 5, 6, 13, 37, 38, 39] := (rfl)
@[simp] theorem oA46 : ownA 46 = false := (rfl)
@[simp] theorem kR46 : keepR 46 = false := (rfl)
@[simp] theorem gS46 : GS 46 = [0, 1, 2, 4] := (rfl)
@[simp] theorem oA47 : ownA 47 = false := (rfl)
@[simp] theorem kR47 : keepR 47 = false := (rfl)
@[simp] theorem gS47 : GS 47 = [0, 1, 2, 4, 5, 6, 9, 27] := (rfl)
@[simp] theorem oA48 : ownA 48 = false := (rfl)
@[simp] theorem kR48 : keepR 48 = false := (rfl)
@[simp] theorem gS48 : GS 48 = [0, 1, 4, 5, 10, 14, 26] := (rfl)
@[simp] theorem oA49 : ownA 49 = false := (rfl)
@[simp] theorem kR49 : keepR 49 = false := (rfl)
@[simp] theorem gS49 : GS 49 = [0, 2] := (rfl)
@[simp] theorem oA50 : ownA 50 = false := (rfl)
@[simp] theorem kR50 : keepR 50 = false := (rfl)
@[simp] theorem gS50 : GS 50 = [0, 1, 2, 6, 7, 8, 28, 62, 90, 95, 96, 97, 109] := (rfl)
@[simp] theorem oA51 : ownA 51 = true := (rfl)
@[simp] theorem kR51 : keepR 51 = false := (rfl)
@[simp] theorem gS51 : GS 51 = [0, 1, 4] := (rfl)
@[simp] theorem oA52 : ownA 52 = true := (rfl)
@[simp] theorem kR52 : keepR 52 = false := (rfl)
@[simp] theorem gS52 : GS 52 = [0, 1, 2, 4, 9] := (rfl)
@[simp] theorem oA53 : ownA 53 = false := (rfl)
@[simp] theorem kR53 : keepR 53 = false := (rfl)
@[simp] theorem gS53 : GS 53 = [0, 2] := (rfl)
@[simp] theorem oA54 : ownA 54 = true := (rfl)
@[simp] theorem kR54 : keepR 54 = true := (rfl)
@[simp] theorem gS54 : GS 54 = [0, 1, 2, 3, 6, 7, 8, 9, 10, 11, 14, 34] := (rfl)
@[simp] theorem oA55 : ownA 55 = false := (rfl)
@[simp] theorem kR55 : keepR 55 = false := (rfl)
@[simp] theorem gS55 : GS 55 = [0, 1, 2, 4] := (rfl)
@[simp] theorem oA56 : ownA 56 = true := (rfl)
@[simp] theorem kR56 : keepR 56 = false := (rfl)
@[simp] theorem gS56 : GS 56 = [0, 1, 2, 4, 17] := (rfl)
@[simp] theorem oA57 : ownA 57 = false := (rfl)
@[simp] theorem kR57 : keepR 57 = false := (rfl)
@[simp] theorem gS57 : GS 57 = [0, 1, 2] := (rfl)
@[simp] theorem oA58 : ownA 58 = false := (rfl)
@[simp] theorem kR58 : keepR 58 = false := (rfl)
@[simp] theorem gS58 : GS 58 = [0, 1, 2, 3] := (rfl)
@[simp] theorem oA59 : ownA 59 = false := (rfl)
@[simp] theorem kR59 : keepR 59 = false := (rfl)
@[simp] theorem gS59 : GS 59 = [0, 1, 2, 3, 4, 9, 14] := (rfl)
@[simp] theorem oA60 : ownA 60 = false := (rfl)
@[simp] theorem kR60 : keepR 60 = false := (rfl)
@[simp] theorem gS60 : GS 60 = [0, 1, 4, 5, 9, 18, 27, 39, 49, 60] := (rfl)
@[simp] theorem oA61 : ownA 61 = false := (rfl)
@[simp] theorem kR61 : keepR 61 = false := (rfl)
@[simp] theorem gS61 : GS 61 = [0, 1, 2] := (rfl)
@[simp] theorem oA62 : ownA 62 = false := (rfl)
@[simp] theorem kR62 : keepR 62 = true := (rfl)
@[simp] theorem gS62 : GS 62 = [0, 1, 4, 5, 6, 10] := (rfl)
@[simp] theorem oA63 : ownA 63 = false := (rfl)
@[simp] theorem kR63 : keepR 63 = false := (rfl)
@[simp] theorem gS63 : GS 63 = [0, 1, 2] := (rfl)
@[simp] theorem oA64 : ownA 64 = true := (rfl)
@[simp] theorem kR64 : keepR 64 = true := (rfl)
@[simp] theorem gS64 : GS 64 = [0, 2, 3, 4, 9, 24] := (rfl)
@[simp] theorem oA65 : ownA 65 = true := (rfl)
@[simp] theorem kR65 : keepR 65 = false := (rfl)
@[simp] theorem gS65 : GS 65 = [0, 1, 4] := (rfl)
@[simp] theorem oA66 : ownA 66 = false := (rfl)
@[simp] theorem kR66 : keepR 66 = false := (rfl)
@[simp] theorem gS66 : GS 66 = [0, 2, 4, 8, 9, 10, 11, 12, 17] := (rfl)
@[simp] theorem oA67 : ownA 67 = false := (rfl)
@[simp] theorem kR67 : keepR 67 = false := (rfl)
@[simp] theorem gS67 : GS 67 = [0, 1, 4, 5, 9, 10, 19, 35, 36, 42] := (rfl)
@[simp] theorem oA68 : ownA 68 = true := (rfl)
@[simp] theorem kR68 : keepR 68 = false := (rfl)
@[simp] theorem gS68 : GS 68 = [0, 2, 3, 7, 8, 11] := (rfl)
@[simp] theorem oA69 : ownA 69 = true := (rfl)
@[simp] theorem kR69 : keepR 69 = false := (rfl)
@[simp] theorem gS69 : GS 69 = [0, 2, 5] := (rfl)
@[simp] theorem oA70 : ownA 70 = false := (rfl)
@[simp] theorem kR70 : keepR 70 = false := (rfl)
@[simp] theorem gS70 : GS 70 = [0, 2, 3, 4, 7, 10] := (rfl)
@[simp] theorem oA71 : ownA 71 = false := (rfl)
@[simp] theorem kR71 : keepR 71 = true := (rfl)
@[simp] theorem gS71 : GS 71 = [0, 2, 3, 6] := (rfl)
@[simp] theorem oA72 : ownA 72 = false := (rfl)
@[simp] theorem kR72 : keepR 72 = false := (rfl)
@[simp] theorem gS72 : GS 72 = [0, 1, 2, 6] := (rfl)
@[simp] theorem oA73 : ownA 73 = false := (rfl)
@[simp] theorem kR73 : keepR 73 = false := (rfl)
@[simp] theorem gS73 : GS 73 = [0, 1, 2, 3, 6, 7, 24, 29, 41, 43, 44, 57] := (rfl)
@[simp] theorem oA74 : ownA 74 = false := (rfl)
@[simp] theorem kR74 : keepR 74 = false := (rfl)
@[simp] theorem gS74 : GS 74 = [0, 1, 2, 3, 4, 16] := (rfl)
@[simp] theorem oA75 : ownA 75 = false := (rfl)
@[simp] theorem kR75 : keepR 75 = false := (rfl)
@[simp] theorem gS75 : GS 75 = [0, 2, 3, 4, 7, 10] := (rfl)
@[simp] theorem oA76 : ownA 76 = true := (rfl)
@[simp] theorem kR76 : keepR 76 = false := (rfl)
@[simp] theorem gS76 : GS 76 = [0, 1, 2, 6, 7, 8, 9, 20, 32, 33, 34, 39, 46, 59, 66] := (rfl)
@[simp] theorem oA77 : ownA 77 = false := (rfl)
@[simp] theorem kR77 : keepR 77 = false := (rfl)
@[simp] theorem gS77 : GS 77 = [0, 1, 2, 3, 6] := (rfl)
@[simp] theorem oA78 : ownA 78 = false := (rfl)
@[simp] theorem kR78 : keepR 78 = false := (rfl)
@[simp] theorem gS78 : GS 78 = [0, 2, 4] := (rfl)
@[simp] theorem oA79 : ownA 79 = false := (rfl)
@[simp] theorem kR79 : keepR 79 = false := (rfl)
@[simp] theorem gS79 : GS 79 = [0, 2, 3] := (rfl)
@[simp] theorem oA80 : ownA 80 = false := (rfl)
@[simp] theorem kR80 : keepR 80 = false := (rfl)
@[simp] theorem gS80 : GS 80 = [0, 1, 2, 4, 5, 6, 7, 16, 25, 33, 34, 42, 50, 58] := (rfl)
@[simp] theorem oA81 : ownA 81 = false := (rfl)
@[simp] theorem kR81 : keepR 81 = false := (rfl)
@[simp] theorem gS81 : GS 81 = [0] := (rfl)
@[simp] theorem oA82 : ownA 82 = false := (rfl)
@[simp] theorem kR82 : keepR 82 = false := (rfl)
@[simp] theorem gS82 : GS 82 = [0, 2] := (rfl)
@[simp] theorem oA83 : ownA 83 = false := (rfl)
@[simp] theorem kR83 : keepR 83 = false := (rfl)
@[simp] theorem gS83 : GS 83 = [0, 2, 3, 7] := (rfl)
@[simp] theorem oA99 : ownA 99 = false := (rfl)
@[simp] theorem kR99 : keepR 99 = false := (rfl)
@[simp] theorem gS99 : GS 99 = [] := (rfl)
@[simp] theorem eT0 : eqTy 0 = false := (rfl)
@[simp] theorem eT1 : eqTy 1 = false := (rfl)
@[simp] theorem eT2 : eqTy 2 = false := (rfl)
@[simp] theorem eT3 : eqTy 3 = false := (rfl)
@[simp] theorem eT4 : eqTy 4 = false := (rfl)
@[simp] theorem eT5 : eqTy 5 = false := (rfl)
@[simp] theorem eT6 : eqTy 6 = false := (rfl)
@[simp] theorem eT7 : eqTy 7 = false := (rfl)
@[simp] theorem eT8 : eqTy 8 = false := (rfl)
@[simp] theorem eT9 : eqTy 9 = false := (rfl)
@[simp] theorem eT10 : eqTy 10 = false := (rfl)
@[simp] theorem eT11 : eqTy 11 = false := (rfl)
@[simp] theorem eT12 : eqTy 12 = false := (rfl)
@[simp] theorem eT13 : eqTy 13 = false := (rfl)
@[simp] theorem eT14 : eqTy 14 = false := (rfl)
@[simp] theorem eT15 : eqTy 15 = false := (rfl)
@[simp] theorem eT16 : eqTy 16 = false := (rfl)
@[simp] theorem eT17 : eqTy 17 = false := (rfl)
@[simp] theorem eT18 : eqTy 18 = false := (rfl)
@[simp] theorem eT19 : eqTy 19 = false := (rfl)
@[simp] theorem eT20 : eqTy 20 = false := (rfl)
@[simp] theorem eT21 : eqTy 21 = false := (rfl)
@[simp] theorem eT22 : eqTy 22 = false := (rfl)
@[simp] theorem eT23 : eqTy 23 = true := (rfl)
@[simp] theorem eT24 : eqTy 24 = true := (rfl)
@[simp] theorem eT25 : eqTy 25 = false := (rfl)
@[simp] theorem eT26 : eqTy 26 = false := (rfl)
@[simp] theorem eT27 : eqTy 27 = false := (rfl)
@[simp] theorem eT28 : eqTy 28 = false := (rfl)
@[simp] theorem eT29 : eqTy 29 = false := (rfl)
@[simp] theorem eT30 : eqTy 30 = false := (rfl)
@[simp] theorem eT31 : eqTy 31 = false := (rfl)
@[simp] theorem eT32 : eqTy 32 = false := (rfl)
@[simp] theorem eT33 : eqTy 33 = false := (rfl)
@[simp] theorem eT34 : eqTy 34 = false := (rfl)
@[simp] theorem eT35 : eqTy 35 = false := (rfl)
@[simp] theorem eT36 : eqTy 36 = false := (rfl)
@[simp] theorem eT37 : eqTy 37 = false := (rfl)
@[simp] theorem eT38 : eqTy 38 = false := (rfl)
@[simp] theorem eT39 : eqTy 39 = false := (rfl)
@[simp] theorem eT40 : eqTy 40 = false := (rfl)
@[simp] theorem eT41 : eqTy 41 = false := (rfl)
@[simp] theorem eT42 : eqTy 42 = true := (rfl)
@[simp] theorem eT43 : eqTy 43 = false := (rfl)
@[simp] theorem eT44 : eqTy 44 = false := (rfl)
@[simp] theorem eT45 : eqTy 45 = false := (rfl)
@[simp] theorem eT46 : eqTy 46 = false := (rfl)
@[simp] theorem eT47 : eqTy 47 = false := (rfl)
@[simp] theorem eT48 : eqTy 48 = false := (rfl)
@[simp] theorem eT49 : eqTy 49 = false := (rfl)
@[simp] theorem eT50 : eqTy 50 = false := (rfl)
@[simp] theorem eT51 : eqTy 51 = false := (rfl)
@[simp] theorem eT52 : eqTy 52 = false := (rfl)
@[simp] theorem eT53 : eqTy 53 = false := (rfl)
@[simp] theorem eT54 : eqTy 54 = false := (rfl)
@[simp] theorem eT55 : eqTy 55 = false := (rfl)
@[simp] theorem eT56 : eqTy 56 = false := (rfl)
@[simp] theorem eT57 : eqTy 57 = false := (rfl)
@[simp] theorem eT58 : eqTy 58 = false := (rfl)
@[simp] theorem eT59 : eqTy 59 = false := (rfl)
@[simp] theorem eT60 : eqTy 60 = false := (rfl)
@[simp] theorem eT61 : eqTy 61 = false := (rfl)
@[simp] theorem eT62 : eqTy 62 = false := (rfl)
@[simp] theorem eT63 : eqTy 63 = false := (rfl)
@[simp] theorem eT64 : eqTy 64 = false := (rfl)
@[simp] theorem eT65 : eqTy 65 = false := (rfl)
@[simp] theorem eT66 : eqTy 66 = false := (rfl)
@[simp] theorem eT67 : eqTy 67 = false := (rfl)
@[simp] theorem eT68 : eqTy 68 = false := (rfl)
@[simp] theorem eT69 : eqTy 69 = false := (rfl)
@[simp] theorem eT70 : eqTy 70 = false := (rfl)
@[simp] theorem eT71 : eqTy 71 = false := (rfl)
@[simp] theorem eT72 : eqTy 72 = false := (rfl)
@[simp] theorem eT73 : eqTy 73 = false := (rfl)
@[simp] theorem eT74 : eqTy 74 = false := (rfl)
@[simp] theorem eT75 : eqTy 75 = false := (rfl)
@[simp] theorem eT76 : eqTy 76 = false := (rfl)
@[simp] theorem eT77 : eqTy 77 = false := (rfl)
@[simp] theorem eT78 : eqTy 78 = false := (rfl)
@[simp] theorem eT79 : eqTy 79 = false := (rfl)
@[simp] theorem eT80 : eqTy 80 = false := (rfl)
@[simp] theorem eT81 : eqTy 81 = false := (rfl)
@[simp] theorem eT82 : eqTy 82 = false := (rfl)
@[simp] theorem eT83 : eqTy 83 = false := (rfl)
@[simp] theorem eT84 : eqTy 84 = false := (rfl)
@[simp] theorem eT85 : eqTy 85 = false := (rfl)
@[simp] theorem eT86 : eqTy 86 = false := (rfl)
@[simp] theorem eT87 : eqTy 87 = false := (rfl)
@[simp] theorem eT88 : eqTy 88 = false := (rfl)
@[simp] theorem eT89 : eqTy 89 = false := (rfl)
@[simp] theorem eT90 : eqTy 90 = false := (rfl)
@[simp] theorem eT91 : eqTy 91 = false := (rfl)
@[simp] theorem eT92 : eqTy 92 = false := (rfl)
@[simp] theorem eT93 : eqTy 93 = false := (rfl)
@[simp] theorem eT94 : eqTy 94 = false := (rfl)
@[simp] theorem eT95 : eqTy 95 = false := (rfl)
@[simp] theorem eT96 : eqTy 96 = false := (rfl)
@[simp] theorem eT97 : eqTy 97 = false := (rfl)
@[simp] theorem eT98 : eqTy 98 = false := (rfl)
@[simp] theorem eT99 : eqTy 99 = false := (rfl)
@[simp] theorem eT100 : eqTy 100 = false := (rfl)
@[simp] theorem eT101 : eqTy 101 = false := (rfl)
@[simp] theorem eT102 : eqTy 102 = false := (rfl)
@[simp] theorem eT103 : eqTy 103 = false := (rfl)
@[simp] theorem eT104 : eqTy 104 = false := (rfl)
@[simp] theorem eT105 : eqTy 105 = false := (rfl)
@[simp] theorem eT106 : eqTy 106 = false := (rfl)
@[simp] theorem eT107 : eqTy 107 = false := (rfl)
@[simp] theorem eT108 : eqTy 108 = false := (rfl)
@[simp] theorem eT109 : eqTy 109 = false := (rfl)
@[simp] theorem eT110 : eqTy 110 = false := (rfl)
@[simp] theorem eT111 : eqTy 111 = false := (rfl)
@[simp] theorem eT112 : eqTy 112 = false := (rfl)
@[simp] theorem eT113 : eqTy 113 = false := (rfl)
@[simp] theorem eT114 : eqTy 114 = false := (rfl)
@[simp] theorem eT115 : eqTy 115 = false := (rfl)
@[simp] theorem eT116 : eqTy 116 = false := (rfl)
@[simp] theorem eT117 : eqTy 117 = false := (rfl)
@[simp] theorem eT118 : eqTy 118 = false := (rfl)
@[simp] theorem eT119 : eqTy 119 = false := (rfl)
@[simp] theorem eT120 : eqTy 120 = false := (rfl)
@[simp] theorem eT121 : eqTy 121 = false := (rfl)
@[simp] theorem eT122 : eqTy 122 = false := (rfl)
noncomputable def primF : FuncId → Option (List AV → StL → Option (AV × StL))
  | 45 => some copyE
  | _ => none
/-- The program with what the executor is told of it, with its ready contracts. -/
noncomputable def C0 : Ctx := { P := Try.prog, G := GS, ownArgs := ownA, keepRes := keepR, eqT := eqTy, prim := primF }
@[simp] theorem dk1 : descK Try.prog 1 = some .other := by kernel_rfl
@[simp] theorem sz1 : szOf Try.prog 1 = some 1 := by kernel_rfl
@[simp] theorem by1 : byOf Try.prog 1 = some 8 := by kernel_rfl
@[simp] theorem ze1 : zeroOf Try.prog 1 = some [(.nilFunc)] := by kernel_rfl
@[simp] theorem dk2 : descK Try.prog 2 = some (.int .i64) := by kernel_rfl
@[simp] theorem sz2 : szOf Try.prog 2 = some 1 := by kernel_rfl
@[simp] theorem by2 : byOf Try.prog 2 = some 8 := by kernel_rfl
@[simp] theorem ze2 : zeroOf Try.prog 2 = some [(.int .i64 0)] := by kernel_rfl
@[simp] theorem dk3 : descK Try.prog 3 = some (.int .i64) := by kernel_rfl
@[simp] theorem sz3 : szOf Try.prog 3 = some 1 := by kernel_rfl
@[simp] theorem by3 : byOf Try.prog 3 = some 8 := by kernel_rfl
@[simp] theorem ze3 : zeroOf Try.prog 3 = some [(.int .i64 0)] := by kernel_rfl
@[simp] theorem dk4 : descK Try.prog 4 = some .bool := by kernel_rfl
@[simp] theorem sz4 : szOf Try.prog 4 = some 1 := by kernel_rfl
@[simp] theorem by4 : byOf Try.prog 4 = some 1 := by kernel_rfl
@[simp] theorem ze4 : zeroOf Try.prog 4 = some [(.bool false)] := by kernel_rfl
@[simp] theorem dk5 : descK Try.prog 5 = some (.int .u8) := by kernel_rfl
@[simp] theorem sz5 : szOf Try.prog 5 = some 1 := by kernel_rfl
@[simp] theorem by5 : byOf Try.prog 5 = some 1 := by kernel_rfl
@[simp] theorem ze5 : zeroOf Try.prog 5 = some [(.int .u8 0)] := by kernel_rfl
@[simp] theorem dk6 : descK Try.prog 6 = some (.int .u8) := by kernel_rfl
@[simp] theorem sz6 : szOf Try.prog 6 = some 1 := by kernel_rfl
@[simp] theorem by6 : byOf Try.prog 6 = some 1 := by kernel_rfl
@[simp] theorem ze6 : zeroOf Try.prog 6 = some [(.int .u8 0)] := by kernel_rfl
@[simp] theorem dk7 : descK Try.prog 7 = some .strct := by kernel_rfl
@[simp] theorem sz7 : szOf Try.prog 7 = some 4 := by kernel_rfl
@[simp] theorem by7 : byOf Try.prog 7 = some 24 := by kernel_rfl
@[simp] theorem ze7 : zeroOf Try.prog 7 = some [(.int .i64 0), (.int .i64 0), (.bool false), (.int .u8 0)] := by kernel_rfl
@[simp] theorem fd7_0 : fieldT Try.prog 7 0 = some (2, 0) := by kernel_rfl
@[simp] theorem fd7_1 : fieldT Try.prog 7 1 = some (3, 1) := by kernel_rfl
@[simp] theorem fd7_2 : fieldT Try.prog 7 2 = some (4, 2) := by kernel_rfl
@[simp] theorem fd7_3 : fieldT Try.prog 7 3 = some (6, 3) := by kernel_rfl
@[simp] theorem dk8 : descK Try.prog 8 = some .strct := by kernel_rfl
@[simp] theorem sz8 : szOf Try.prog 8 = some 4 := by kernel_rfl
@[simp] theorem by8 : byOf Try.prog 8 = some 24 := by kernel_rfl
@[simp] theorem ze8 : zeroOf Try.prog 8 = some [(.int .i64 0), (.int .i64 0), (.bool false), (.int .u8 0)] := by kernel_rfl
@[simp] theorem fd8_0 : fieldT Try.prog 8 0 = some (2, 0) := by kernel_rfl
@[simp] theorem fd8_1 : fieldT Try.prog 8 1 = some (3, 1) := by kernel_rfl
@[simp] theorem fd8_2 : fieldT Try.prog 8 2 = some (4, 2) := by kernel_rfl
@[simp] theorem fd8_3 : fieldT Try.prog 8 3 = some (6, 3) := by kernel_rfl
@[simp] theorem dk9 : descK Try.prog 9 = some .string := by kernel_rfl
@[simp] theorem sz9 : szOf Try.prog 9 = some 1 := by kernel_rfl
@[simp] theorem by9 : byOf Try.prog 9 = some 16 := by kernel_rfl
@[simp] theorem ze9 : zeroOf Try.prog 9 = some [(.string ⟨#[]⟩)] := by kernel_rfl
@[simp] theorem dk10 : descK Try.prog 10 = some .string := by kernel_rfl
@[simp] theorem sz10 : szOf Try.prog 10 = some 1 := by kernel_rfl
@[simp] theorem by10 : byOf Try.prog 10 = some 16 := by kernel_rfl
@[simp] theorem ze10 : zeroOf Try.prog 10 = some [(.string ⟨#[]⟩)] := by kernel_rfl
@[simp] theorem dk11 : descK Try.prog 11 = some .string := by kernel_rfl
@[simp] theorem sz11 : szOf Try.prog 11 = some 1 := by kernel_rfl
@[simp] theorem by11 : byOf Try.prog 11 = some 16 := by kernel_rfl
@[simp] theorem ze11 : zeroOf Try.prog 11 = some [(.string ⟨#[]⟩)] := by kernel_rfl
@[simp] theorem dk12 : descK Try.prog 12 = some (.int .u64) := by kernel_rfl
@[simp] theorem sz12 : szOf Try.prog 12 = some 1 := by kernel_rfl
@[simp] theorem by12 : byOf Try.prog 12 = some 8 := by kernel_rfl
@[simp] theorem ze12 : zeroOf Try.prog 12 = some [(.int .u64 0)] := by kernel_rfl
@[simp] theorem dk13 : descK Try.prog 13 = some .strct := by kernel_rfl
@[simp] theorem sz13 : szOf Try.prog 13 = some 2 := by kernel_rfl
@[simp] theorem by13 : byOf Try.prog 13 = some 24 := by kernel_rfl
@[simp] theorem ze13 : zeroOf Try.prog 13 = some [(.string ⟨#[]⟩), (.int .u64 0)] := by kernel_rfl
@[simp] theorem fd13_0 : fieldT Try.prog 13 0 = some (9, 0) := by kernel_rfl
@[simp] theorem fd13_1 : fieldT Try.prog 13 1 = some (12, 1) := by kernel_rfl
@[simp] theorem dk14 : descK Try.prog 14 = some .strct := by kernel_rfl
@[simp] theorem sz14 : szOf Try.prog 14 = some 2 := by kernel_rfl
@[simp] theorem by14 : byOf Try.prog 14 = some 24 := by kernel_rfl
@[simp] theorem ze14 : zeroOf Try.prog 14 = some [(.string ⟨#[]⟩), (.int .u64 0)] := by kernel_rfl
@[simp] theorem fd14_0 : fieldT Try.prog 14 0 = some (9, 0) := by kernel_rfl
@[simp] theorem fd14_1 : fieldT Try.prog 14 1 = some (12, 1) := by kernel_rfl
@[simp] theorem dk15 : descK Try.prog 15 = some .other := by kernel_rfl
@[simp] theorem sz15 : szOf Try.prog 15 = some 1 := by kernel_rfl
@[simp] theorem by15 : byOf Try.prog 15 = some 8 := by kernel_rfl
@[simp] theorem ze15 : zeroOf Try.prog 15 = some [(.pointer none)] := by kernel_rfl
@[simp] theorem dk16 : descK Try.prog 16 = some .other := by kernel_rfl
@[simp] theorem sz16 : szOf Try.prog 16 = some 1 := by kernel_rfl
@[simp] theorem by16 : byOf Try.prog 16 = some 8 := by kernel_rfl
@[simp] theorem ze16 : zeroOf Try.prog 16 = some [(.pointer none)] := by kernel_rfl
@[simp] theorem dk17 : descK Try.prog 17 = some .other := by kernel_rfl
@[simp] theorem sz17 : szOf Try.prog 17 = some 1 := by kernel_rfl
@[simp] theorem by17 : byOf Try.prog 17 = some 8 := by kernel_rfl
@[simp] theorem ze17 : zeroOf Try.prog 17 = some [(.pointer none)] := by kernel_rfl
@[simp] theorem dk18 : descK Try.prog 18 = some .strct := by kernel_rfl
@[simp] theorem sz18 : szOf Try.prog 18 = some 1 := by kernel_rfl
@[simp] theorem by18 : byOf Try.prog 18 = some 8 := by kernel_rfl
@[simp] theorem ze18 : zeroOf Try.prog 18 = some [(.pointer none)] := by kernel_rfl
@[simp] theorem fd18_0 : fieldT Try.prog 18 0 = some (17, 0) := by kernel_rfl
@[simp] theorem dk19 : descK Try.prog 19 = some .strct := by kernel_rfl
@[simp] theorem sz19 : szOf Try.prog 19 = some 1 := by kernel_rfl
@[simp] theorem by19 : byOf Try.prog 19 = some 8 := by kernel_rfl
@[simp] theorem ze19 : zeroOf Try.prog 19 = some [(.pointer none)] := by kernel_rfl
@[simp] theorem fd19_0 : fieldT Try.prog 19 0 = some (17, 0) := by kernel_rfl
@[simp] theorem dk20 : descK Try.prog 20 = some .other := by kernel_rfl
@[simp] theorem sz20 : szOf Try.prog 20 = some 1 := by kernel_rfl
@[simp] theorem by20 : byOf Try.prog 20 = some 16 := by kernel_rfl
@[simp] theorem ze20 : zeroOf Try.prog 20 = some [(.nilIface)] := by kernel_rfl
@[simp] theorem dk21 : descK Try.prog 21 = some (.int .i32) := by kernel_rfl
@[simp] theorem sz21 : szOf Try.prog 21 = some 1 := by kernel_rfl
@[simp] theorem by21 : byOf Try.prog 21 = some 4 := by kernel_rfl
@[simp] theorem ze21 : zeroOf Try.prog 21 = some [(.int .i32 0)] := by kernel_rfl
@[simp] theorem dk22 : descK Try.prog 22 = some (.slice 5) := by kernel_rfl
@[simp] theorem sz22 : szOf Try.prog 22 = some 1 := by kernel_rfl
@[simp] theorem by22 : byOf Try.prog 22 = some 24 := by kernel_rfl
@[simp] theorem ze22 : zeroOf Try.prog 22 = some [(.slice none 0 0)] := by kernel_rfl
@[simp] theorem dk23 : descK Try.prog 23 = some .strct := by kernel_rfl
@[simp] theorem sz23 : szOf Try.prog 23 = some 2 := by kernel_rfl
@[simp] theorem by23 : byOf Try.prog 23 = some 16 := by kernel_rfl
@[simp] theorem ze23 : zeroOf Try.prog 23 = some [(.bool false), (.int .i64 0)] := by kernel_rfl
@[simp] theorem fd23_0 : fieldT Try.prog 23 0 = some (4, 0) := by kernel_rfl
@[simp] theorem fd23_1 : fieldT Try.prog 23 1 = some (3, 1) := by kernel_rfl
@[simp] theorem dk24 : descK Try.prog 24 = some .strct := by kernel_rfl
@[simp] theorem sz24 : szOf Try.prog 24 = some 2 := by kernel_rfl
@[simp] theorem by24 : byOf Try.prog 24 = some 16 := by kernel_rfl
@[simp] theorem ze24 : zeroOf Try.prog 24 = some [(.bool false), (.int .i64 0)] := by kernel_rfl
@[simp] theorem fd24_0 : fieldT Try.prog 24 0 = some (4, 0) := by kernel_rfl
@[simp] theorem fd24_1 : fieldT Try.prog 24 1 = some (3, 1) := by kernel_rfl
@[simp] theorem dk25 : descK Try.prog 25 = some (.slice 27) := by kernel_rfl
@[simp] theorem sz25 : szOf Try.prog 25 = some 1 := by kernel_rfl
@[simp] theorem by25 : byOf Try.prog 25 = some 24 := by kernel_rfl
@[simp] theorem ze25 : zeroOf Try.prog 25 = some [(.slice none 0 0)] := by kernel_rfl
@[simp] theorem dk26 : descK Try.prog 26 = some .strct := by kernel_rfl
@[simp] theorem sz26 : szOf Try.prog 26 = some 5 := by kernel_rfl
@[simp] theorem by26 : byOf Try.prog 26 = some 56 := by kernel_rfl
@[simp] theorem ze26 : zeroOf Try.prog 26 = some [(.int .i64 0), (.int .i64 0), (.bool false), (.int .i64 0), (.slice none 0 0)] := by kernel_rfl
@[simp] theorem fd26_0 : fieldT Try.prog 26 0 = some (3, 0) := by kernel_rfl
@[simp] theorem fd26_1 : fieldT Try.prog 26 1 = some (3, 1) := by kernel_rfl
@[simp] theorem fd26_2 : fieldT Try.prog 26 2 = some (24, 2) := by kernel_rfl
@[simp] theorem fd26_3 : fieldT Try.prog 26 3 = some (25, 4) := by kernel_rfl
@[simp] theorem dk27 : descK Try.prog 27 = some .strct := by kernel_rfl
@[simp] theorem sz27 : szOf Try.prog 27 = some 5 := by kernel_rfl
@[simp] theorem by27 : byOf Try.prog 27 = some 56 := by kernel_rfl
@[simp] theorem ze27 : zeroOf Try.prog 27 = some [(.int .i64 0), (.int .i64 0), (.bool false), (.int .i64 0), (.slice none 0 0)] := by kernel_rfl
@[simp] theorem fd27_0 : fieldT Try.prog 27 0 = some (3, 0) := by kernel_rfl
@[simp] theorem fd27_1 : fieldT Try.prog 27 1 = some (3, 1) := by kernel_rfl
@[simp] theorem fd27_2 : fieldT Try.prog 27 2 = some (24, 2) := by kernel_rfl
@[simp] theorem fd27_3 : fieldT Try.prog 27 3 = some (25, 4) := by kernel_rfl
@[simp] theorem dk29 : descK Try.prog 29 = some .other := by kernel_rfl
@[simp] theorem sz29 : szOf Try.prog 29 = some 1 := by kernel_rfl
@[simp] theorem by29 : byOf Try.prog 29 = some 8 := by kernel_rfl
@[simp] theorem ze29 : zeroOf Try.prog 29 = some [(.nilFunc)] := by kernel_rfl
@[simp] theorem dk31 : descK Try.prog 31 = some .other := by kernel_rfl
@[simp] theorem sz31 : szOf Try.prog 31 = some 1 := by kernel_rfl
@[simp] theorem by31 : byOf Try.prog 31 = some 8 := by kernel_rfl
@[simp] theorem ze31 : zeroOf Try.prog 31 = some [(.nilFunc)] := by kernel_rfl
@[simp] theorem dk32 : descK Try.prog 32 = some .other := by kernel_rfl
@[simp] theorem sz32 : szOf Try.prog 32 = some 1 := by kernel_rfl
@[simp] theorem by32 : byOf Try.prog 32 = some 8 := by kernel_rfl
@[simp] theorem ze32 : zeroOf Try.prog 32 = some [(.nilFunc)] := by kernel_rfl
@[simp] theorem dk33 : descK Try.prog 33 = some .other := by kernel_rfl
@[simp] theorem sz33 : szOf Try.prog 33 = some 1 := by kernel_rfl
@[simp] theorem by33 : byOf Try.prog 33 = some 8 := by kernel_rfl
@[simp] theorem ze33 : zeroOf Try.prog 33 = some [(.nilFunc)] := by kernel_rfl
@[simp] theorem dk34 : descK Try.prog 34 = some .other := by kernel_rfl
@[simp] theorem sz34 : szOf Try.prog 34 = some 1 := by kernel_rfl
@[simp] theorem by34 : byOf Try.prog 34 = some 8 := by kernel_rfl
@[simp] theorem ze34 : zeroOf Try.prog 34 = some [(.nilFunc)] := by kernel_rfl
@[simp] theorem dk36 : descK Try.prog 36 = some .other := by kernel_rfl
@[simp] theorem sz36 : szOf Try.prog 36 = some 1 := by kernel_rfl
@[simp] theorem by36 : byOf Try.prog 36 = some 8 := by kernel_rfl
@[simp] theorem ze36 : zeroOf Try.prog 36 = some [(.nilFunc)] := by kernel_rfl
@[simp] theorem dk37 : descK Try.prog 37 = some (.slice 24) := by kernel_rfl
@[simp] theorem sz37 : szOf Try.prog 37 = some 1 := by kernel_rfl
@[simp] theorem by37 : byOf Try.prog 37 = some 24 := by kernel_rfl
@[simp] theorem ze37 : zeroOf Try.prog 37 = some [(.slice none 0 0)] := by kernel_rfl
@[simp] theorem dk39 : descK Try.prog 39 = some .other := by kernel_rfl
@[simp] theorem sz39 : szOf Try.prog 39 = some 1 := by kernel_rfl
@[simp] theorem by39 : byOf Try.prog 39 = some 8 := by kernel_rfl
@[simp] theorem ze39 : zeroOf Try.prog 39 = some [(.nilFunc)] := by kernel_rfl
@[simp] theorem dk40 : descK Try.prog 40 = some .other := by kernel_rfl
@[simp] theorem sz40 : szOf Try.prog 40 = some 1 := by kernel_rfl
@[simp] theorem by40 : byOf Try.prog 40 = some 8 := by kernel_rfl
@[simp] theorem ze40 : zeroOf Try.prog 40 = some [(.nilFunc)] := by kernel_rfl
@[simp] theorem dk41 : descK Try.prog 41 = some .other := by kernel_rfl
@[simp] theorem sz41 : szOf Try.prog 41 = some 1 := by kernel_rfl
@[simp] theorem by41 : byOf Try.prog 41 = some 8 := by kernel_rfl
@[simp] theorem ze41 : zeroOf Try.prog 41 = some [(.nilFunc)] := by kernel_rfl
@[simp] theorem dk42 : descK Try.prog 42 = some .strct := by kernel_rfl
@[simp] theorem sz42 : szOf Try.prog 42 = some 2 := by kernel_rfl
@[simp] theorem by42 : byOf Try.prog 42 = some 16 := by kernel_rfl
@[simp] theorem ze42 : zeroOf Try.prog 42 = some [(.bool false), (.int .i64 0)] := by kernel_rfl
@[simp] theorem fd42_0 : fieldT Try.prog 42 0 = some (4, 0) := by kernel_rfl
@[simp] theorem fd42_1 : fieldT Try.prog 42 1 = some (3, 1) := by kernel_rfl
@[simp] theorem dk43 : descK Try.prog 43 = some (.slice 45) := by kernel_rfl
@[simp] theorem sz43 : szOf Try.prog 43 = some 1 := by kernel_rfl
@[simp] theorem by43 : byOf Try.prog 43 = some 24 := by kernel_rfl
@[simp] theorem ze43 : zeroOf Try.prog 43 = some [(.slice none 0 0)] := by kernel_rfl
@[simp] theorem dk44 : descK Try.prog 44 = some .strct := by kernel_rfl
@[simp] theorem sz44 : szOf Try.prog 44 = some 5 := by kernel_rfl
@[simp] theorem by44 : byOf Try.prog 44 = some 56 := by kernel_rfl
@[simp] theorem ze44 : zeroOf Try.prog 44 = some [(.int .i64 0), (.int .i64 0), (.bool false), (.int .i64 0), (.slice none 0 0)] := by kernel_rfl
@[simp] theorem fd44_0 : fieldT Try.prog 44 0 = some (3, 0) := by kernel_rfl
@[simp] theorem fd44_1 : fieldT Try.prog 44 1 = some (3, 1) := by kernel_rfl
@[simp] theorem fd44_2 : fieldT Try.prog 44 2 = some (42, 2) := by kernel_rfl
@[simp] theorem fd44_3 : fieldT Try.prog 44 3 = some (43, 4) := by kernel_rfl
@[simp] theorem dk45 : descK Try.prog 45 = some .strct := by kernel_rfl
@[simp] theorem sz45 : szOf Try.prog 45 = some 5 := by kernel_rfl
@[simp] theorem by45 : byOf Try.prog 45 = some 56 := by kernel_rfl
@[simp] theorem ze45 : zeroOf Try.prog 45 = some [(.int .i64 0), (.int .i64 0), (.bool false), (.int .i64 0), (.slice none 0 0)] := by kernel_rfl
@[simp] theorem fd45_0 : fieldT Try.prog 45 0 = some (3, 0) := by kernel_rfl
@[simp] theorem fd45_1 : fieldT Try.prog 45 1 = some (3, 1) := by kernel_rfl
@[simp] theorem fd45_2 : fieldT Try.prog 45 2 = some (42, 2) := by kernel_rfl
@[simp] theorem fd45_3 : fieldT Try.prog 45 3 = some (43, 4) := by kernel_rfl
@[simp] theorem dk46 : descK Try.prog 46 = some .other := by kernel_rfl
@[simp] theorem sz46 : szOf Try.prog 46 = some 1 := by kernel_rfl
@[simp] theorem by46 : byOf Try.prog 46 = some 8 := by kernel_rfl
@[simp] theorem ze46 : zeroOf Try.prog 46 = some [(.nilFunc)] := by kernel_rfl
@[simp] theorem dk47 : descK Try.prog 47 = some .other := by kernel_rfl
@[simp] theorem sz47 : szOf Try.prog 47 = some 1 := by kernel_rfl
@[simp] theorem by47 : byOf Try.prog 47 = some 8 := by kernel_rfl
@[simp] theorem ze47 : zeroOf Try.prog 47 = some [(.nilFunc)] := by kernel_rfl
@[simp] theorem dk48 : descK Try.prog 48 = some .other := by kernel_rfl
@[simp] theorem sz48 : szOf Try.prog 48 = some 1 := by kernel_rfl
@[simp] theorem by48 : byOf Try.prog 48 = some 8 := by kernel_rfl
@[simp] theorem ze48 : zeroOf Try.prog 48 = some [(.nilFunc)] := by kernel_rfl
@[simp] theorem dk49 : descK Try.prog 49 = some .other := by kernel_rfl
@[simp] theorem sz49 : szOf Try.prog 49 = some 1 := by kernel_rfl
@[simp] theorem by49 : byOf Try.prog 49 = some 8 := by kernel_rfl
@[simp] theorem ze49 : zeroOf Try.prog 49 = some [(.nilFunc)] := by kernel_rfl
@[simp] theorem dk50 : descK Try.prog 50 = some .other := by kernel_rfl
@[simp] theorem sz50 : szOf Try.prog 50 = some 1 := by kernel_rfl
@[simp] theorem by50 : byOf Try.prog 50 = some 8 := by kernel_rfl
@[simp] theorem ze50 : zeroOf Try.prog 50 = some [(.nilFunc)] := by kernel_rfl
@[simp] theorem dk51 : descK Try.prog 51 = some .other := by kernel_rfl
@[simp] theorem sz51 : szOf Try.prog 51 = some 1 := by kernel_rfl
@[simp] theorem by51 : byOf Try.prog 51 = some 8 := by kernel_rfl
@[simp] theorem ze51 : zeroOf Try.prog 51 = some [(.nilFunc)] := by kernel_rfl
@[simp] theorem dk52 : descK Try.prog 52 = some .other := by kernel_rfl
@[simp] theorem sz52 : szOf Try.prog 52 = some 1 := by kernel_rfl
@[simp] theorem by52 : byOf Try.prog 52 = some 8 := by kernel_rfl
@[simp] theorem ze52 : zeroOf Try.prog 52 = some [(.nilFunc)] := by kernel_rfl
@[simp] theorem dk53 : descK Try.prog 53 = some .other := by kernel_rfl
@[simp] theorem sz53 : szOf Try.prog 53 = some 1 := by kernel_rfl
@[simp] theorem by53 : byOf Try.prog 53 = some 8 := by kernel_rfl
@[simp] theorem ze53 : zeroOf Try.prog 53 = some [(.nilFunc)] := by kernel_rfl
@[simp] theorem dk54 : descK Try.prog 54 = some .other := by kernel_rfl
@[simp] theorem sz54 : szOf Try.prog 54 = some 1 := by kernel_rfl
@[simp] theorem by54 : byOf Try.prog 54 = some 8 := by kernel_rfl
@[simp] theorem ze54 : zeroOf Try.prog 54 = some [(.nilFunc)] := by kernel_rfl
@[simp] theorem dk55 : descK Try.prog 55 = some .other := by kernel_rfl
@[simp] theorem sz55 : szOf Try.prog 55 = some 1 := by kernel_rfl
@[simp] theorem by55 : byOf Try.prog 55 = some 8 := by kernel_rfl
@[simp] theorem ze55 : zeroOf Try.prog 55 = some [(.nilFunc)] := by kernel_rfl
@[simp] theorem dk56 : descK Try.prog 56 = some (.slice 42) := by kernel_rfl
@[simp] theorem sz56 : szOf Try.prog 56 = some 1 := by kernel_rfl
@[simp] theorem by56 : byOf Try.prog 56 = some 24 := by kernel_rfl
@[simp] theorem ze56 : zeroOf Try.prog 56 = some [(.slice none 0 0)] := by kernel_rfl
@[simp] theorem dk57 : descK Try.prog 57 = some .other := by kernel_rfl
@[simp] theorem sz57 : szOf Try.prog 57 = some 1 := by kernel_rfl
@[simp] theorem by57 : byOf Try.prog 57 = some 8 := by kernel_rfl
@[simp] theorem ze57 : zeroOf Try.prog 57 = some [(.nilFunc)] := by kernel_rfl
@[simp] theorem dk58 : descK Try.prog 58 = some .other := by kernel_rfl
@[simp] theorem sz58 : szOf Try.prog 58 = some 1 := by kernel_rfl
@[simp] theorem by58 : byOf Try.prog 58 = some 8 := by kernel_rfl
@[simp] theorem ze58 : zeroOf Try.prog 58 = some [(.nilFunc)] := by kernel_rfl
@[simp] theorem dk59 : descK Try.prog 59 = some .other := by kernel_rfl
@[simp] theorem sz59 : szOf Try.prog 59 = some 1 := by kernel_rfl
@[simp] theorem by59 : byOf Try.prog 59 = some 8 := by kernel_rfl
@[simp] theorem ze59 : zeroOf Try.prog 59 = some [(.nilFunc)] := by kernel_rfl
@[simp] theorem dk61 : descK Try.prog 61 = some .other := by kernel_rfl
@[simp] theorem sz61 : szOf Try.prog 61 = some 1 := by kernel_rfl
@[simp] theorem by61 : byOf Try.prog 61 = some 8 := by kernel_rfl
@[simp] theorem ze61 : zeroOf Try.prog 61 = some [(.nilFunc)] := by kernel_rfl
@[simp] theorem dk63 : descK Try.prog 63 = some .other := by kernel_rfl
@[simp] theorem sz63 : szOf Try.prog 63 = some 1 := by kernel_rfl
@[simp] theorem by63 : byOf Try.prog 63 = some 8 := by kernel_rfl
@[simp] theorem ze63 : zeroOf Try.prog 63 = some [(.nilFunc)] := by kernel_rfl
@[simp] theorem dk64 : descK Try.prog 64 = some .other := by kernel_rfl
@[simp] theorem sz64 : szOf Try.prog 64 = some 1 := by kernel_rfl
@[simp] theorem by64 : byOf Try.prog 64 = some 8 := by kernel_rfl
@[simp] theorem ze64 : zeroOf Try.prog 64 = some [(.nilFunc)] := by kernel_rfl
@[simp] theorem dk65 : descK Try.prog 65 = some .other := by kernel_rfl
@[simp] theorem sz65 : szOf Try.prog 65 = some 1 := by kernel_rfl
@[simp] theorem by65 : byOf Try.prog 65 = some 8 := by kernel_rfl
@[simp] theorem ze65 : zeroOf Try.prog 65 = some [(.pointer none)] := by kernel_rfl
@[simp] theorem dk66 : descK Try.prog 66 = some .other := by kernel_rfl
@[simp] theorem sz66 : szOf Try.prog 66 = some 1 := by kernel_rfl
@[simp] theorem by66 : byOf Try.prog 66 = some 8 := by kernel_rfl
@[simp] theorem ze66 : zeroOf Try.prog 66 = some [(.nilFunc)] := by kernel_rfl
@[simp] theorem dk67 : descK Try.prog 67 = some .other := by kernel_rfl
@[simp] theorem sz67 : szOf Try.prog 67 = some 1 := by kernel_rfl
@[simp] theorem by67 : byOf Try.prog 67 = some 8 := by kernel_rfl
@[simp] theorem ze67 : zeroOf Try.prog 67 = some [(.nilFunc)] := by kernel_rfl
@[simp] theorem dk68 : descK Try.prog 68 = some .other := by kernel_rfl
@[simp] theorem sz68 : szOf Try.prog 68 = some 1 := by kernel_rfl
@[simp] theorem by68 : byOf Try.prog 68 = some 8 := by kernel_rfl
@[simp] theorem ze68 : zeroOf Try.prog 68 = some [(.nilFunc)] := by kernel_rfl
@[simp] theorem dk69 : descK Try.prog 69 = some .other := by kernel_rfl
@[simp] theorem sz69 : szOf Try.prog 69 = some 1 := by kernel_rfl
@[simp] theorem by69 : byOf Try.prog 69 = some 8 := by kernel_rfl
@[simp] theorem ze69 : zeroOf Try.prog 69 = some [(.nilFunc)] := by kernel_rfl
@[simp] theorem dk70 : descK Try.prog 70 = some (.slice 3) := by kernel_rfl
@[simp] theorem sz70 : szOf Try.prog 70 = some 1 := by kernel_rfl
@[simp] theorem by70 : byOf Try.prog 70 = some 24 := by kernel_rfl
@[simp] theorem ze70 : zeroOf Try.prog 70 = some [(.slice none 0 0)] := by kernel_rfl
@[simp] theorem dk71 : descK Try.prog 71 = some .other := by kernel_rfl
@[simp] theorem sz71 : szOf Try.prog 71 = some 1 := by kernel_rfl
@[simp] theorem by71 : byOf Try.prog 71 = some 8 := by kernel_rfl
@[simp] theorem ze71 : zeroOf Try.prog 71 = some [(.nilFunc)] := by kernel_rfl
@[simp] theorem dk72 : descK Try.prog 72 = some .other := by kernel_rfl
@[simp] theorem sz72 : szOf Try.prog 72 = some 1 := by kernel_rfl
@[simp] theorem by72 : byOf Try.prog 72 = some 8 := by kernel_rfl
@[simp] theorem ze72 : zeroOf Try.prog 72 = some [(.nilFunc)] := by kernel_rfl
@[simp] theorem dk73 : descK Try.prog 73 = some .other := by kernel_rfl
@[simp] theorem sz73 : szOf Try.prog 73 = some 1 := by kernel_rfl
@[simp] theorem by73 : byOf Try.prog 73 = some 8 := by kernel_rfl
@[simp] theorem ze73 : zeroOf Try.prog 73 = some [(.nilFunc)] := by kernel_rfl
@[simp] theorem dk74 : descK Try.prog 74 = some .other := by kernel_rfl
@[simp] theorem sz74 : szOf Try.prog 74 = some 1 := by kernel_rfl
@[simp] theorem by74 : byOf Try.prog 74 = some 8 := by kernel_rfl
@[simp] theorem ze74 : zeroOf Try.prog 74 = some [(.pointer none)] := by kernel_rfl
@[simp] theorem dk75 : descK Try.prog 75 = some .other := by kernel_rfl
@[simp] theorem sz75 : szOf Try.prog 75 = some 1 := by kernel_rfl
@[simp] theorem by75 : byOf Try.prog 75 = some 8 := by kernel_rfl
@[simp] theorem ze75 : zeroOf Try.prog 75 = some [(.nilFunc)] := by kernel_rfl
@[simp] theorem dk76 : descK Try.prog 76 = some .other := by kernel_rfl
@[simp] theorem sz76 : szOf Try.prog 76 = some 1 := by kernel_rfl
@[simp] theorem by76 : byOf Try.prog 76 = some 8 := by kernel_rfl
@[simp] theorem ze76 : zeroOf Try.prog 76 = some [(.nilFunc)] := by kernel_rfl
@[simp] theorem dk77 : descK Try.prog 77 = some .other := by kernel_rfl
@[simp] theorem sz77 : szOf Try.prog 77 = some 1 := by kernel_rfl
@[simp] theorem by77 : byOf Try.prog 77 = some 8 := by kernel_rfl
@[simp] theorem ze77 : zeroOf Try.prog 77 = some [(.nilFunc)] := by kernel_rfl
@[simp] theorem dk78 : descK Try.prog 78 = some .other := by kernel_rfl
@[simp] theorem sz78 : szOf Try.prog 78 = some 1 := by kernel_rfl
@[simp] theorem by78 : byOf Try.prog 78 = some 8 := by kernel_rfl
@[simp] theorem ze78 : zeroOf Try.prog 78 = some [(.nilFunc)] := by kernel_rfl
@[simp] theorem dk79 : descK Try.prog 79 = some .other := by kernel_rfl
@[simp] theorem sz79 : szOf Try.prog 79 = some 1 := by kernel_rfl
@[simp] theorem by79 : byOf Try.prog 79 = some 8 := by kernel_rfl
@[simp] theorem ze79 : zeroOf Try.prog 79 = some [(.nilFunc)] := by kernel_rfl
@[simp] theorem dk80 : descK Try.prog 80 = some .other := by kernel_rfl
@[simp] theorem sz80 : szOf Try.prog 80 = some 1 := by kernel_rfl
@[simp] theorem by80 : byOf Try.prog 80 = some 8 := by kernel_rfl
@[simp] theorem ze80 : zeroOf Try.prog 80 = some [(.nilFunc)] := by kernel_rfl
@[simp] theorem dk82 : descK Try.prog 82 = some .other := by kernel_rfl
@[simp] theorem sz82 : szOf Try.prog 82 = some 1 := by kernel_rfl
@[simp] theorem by82 : byOf Try.prog 82 = some 8 := by kernel_rfl
@[simp] theorem ze82 : zeroOf Try.prog 82 = some [(.nilFunc)] := by kernel_rfl
@[simp] theorem dk83 : descK Try.prog 83 = some .other := by kernel_rfl
@[simp] theorem sz83 : szOf Try.prog 83 = some 1 := by kernel_rfl
@[simp] theorem by83 : byOf Try.prog 83 = some 8 := by kernel_rfl
@[simp] theorem ze83 : zeroOf Try.prog 83 = some [(.nilFunc)] := by kernel_rfl
@[simp] theorem dk84 : descK Try.prog 84 = some .other := by kernel_rfl
@[simp] theorem sz84 : szOf Try.prog 84 = some 1 := by kernel_rfl
@[simp] theorem by84 : byOf Try.prog 84 = some 8 := by kernel_rfl
@[simp] theorem ze84 : zeroOf Try.prog 84 = some [(.nilFunc)] := by kernel_rfl
@[simp] theorem dk85 : descK Try.prog 85 = some .other := by kernel_rfl
@[simp] theorem sz85 : szOf Try.prog 85 = some 1 := by kernel_rfl
@[simp] theorem by85 : byOf Try.prog 85 = some 8 := by kernel_rfl
@[simp] theorem ze85 : zeroOf Try.prog 85 = some [(.nilFunc)] := by kernel_rfl
@[simp] theorem dk86 : descK Try.prog 86 = some .other := by kernel_rfl
@[simp] theorem sz86 : szOf Try.prog 86 = some 1 := by kernel_rfl
@[simp] theorem by86 : byOf Try.prog 86 = some 8 := by kernel_rfl
@[simp] theorem ze86 : zeroOf Try.prog 86 = some [(.nilFunc)] := by kernel_rfl
@[simp] theorem dk87 : descK Try.prog 87 = some .other := by kernel_rfl
@[simp] theorem sz87 : szOf Try.prog 87 = some 1 := by kernel_rfl
@[simp] theorem by87 : byOf Try.prog 87 = some 8 := by kernel_rfl
@[simp] theorem ze87 : zeroOf Try.prog 87 = some [(.nilFunc)] := by kernel_rfl
@[simp] theorem dk88 : descK Try.prog 88 = some .other := by kernel_rfl
@[simp] theorem sz88 : szOf Try.prog 88 = some 1 := by kernel_rfl
@[simp] theorem by88 : byOf Try.prog 88 = some 8 := by kernel_rfl
@[simp] theorem ze88 : zeroOf Try.prog 88 = some [(.nilFunc)] := by kernel_rfl
@[simp] theorem dk89 : descK Try.prog 89 = some .other := by kernel_rfl
@[simp] theorem sz89 : szOf Try.prog 89 = some 1 := by kernel_rfl
@[simp] theorem by89 : byOf Try.prog 89 = some 8 := by kernel_rfl
@[simp] theorem ze89 : zeroOf Try.prog 89 = some [(.nilFunc)] := by kernel_rfl
@[simp] theorem dk90 : descK Try.prog 90 = some .other := by kernel_rfl
@[simp] theorem sz90 : szOf Try.prog 90 = some 1 := by kernel_rfl
@[simp] theorem by90 : byOf Try.prog 90 = some 8 := by kernel_rfl
@[simp] theorem ze90 : zeroOf Try.prog 90 = some [(.nilFunc)] := by kernel_rfl
@[simp] theorem dk91 : descK Try.prog 91 = some .other := by kernel_rfl
@[simp] theorem sz91 : szOf Try.prog 91 = some 1 := by kernel_rfl
@[simp] theorem by91 : byOf Try.prog 91 = some 8 := by kernel_rfl
@[simp] theorem ze91 : zeroOf Try.prog 91 = some [(.nilFunc)] := by kernel_rfl
@[simp] theorem dk92 : descK Try.prog 92 = some .other := by kernel_rfl
@[simp] theorem sz92 : szOf Try.prog 92 = some 1 := by kernel_rfl
@[simp] theorem by92 : byOf Try.prog 92 = some 8 := by kernel_rfl
@[simp] theorem ze92 : zeroOf Try.prog 92 = some [(.nilFunc)] := by kernel_rfl
@[simp] theorem dk93 : descK Try.prog 93 = some .strct := by kernel_rfl
@[simp] theorem sz93 : szOf Try.prog 93 = some 2 := by kernel_rfl
@[simp] theorem by93 : byOf Try.prog 93 = some 32 := by kernel_rfl
@[simp] theorem ze93 : zeroOf Try.prog 93 = some [(.slice none 0 0), (.int .i64 0)] := by kernel_rfl
@[simp] theorem fd93_0 : fieldT Try.prog 93 0 = some (22, 0) := by kernel_rfl
@[simp] theorem fd93_1 : fieldT Try.prog 93 1 = some (3, 1) := by kernel_rfl
@[simp] theorem dk94 : descK Try.prog 94 = some .strct := by kernel_rfl
@[simp] theorem sz94 : szOf Try.prog 94 = some 2 := by kernel_rfl
@[simp] theorem by94 : byOf Try.prog 94 = some 32 := by kernel_rfl
@[simp] theorem ze94 : zeroOf Try.prog 94 = some [(.slice none 0 0), (.int .i64 0)] := by kernel_rfl
@[simp] theorem fd94_0 : fieldT Try.prog 94 0 = some (22, 0) := by kernel_rfl
@[simp] theorem fd94_1 : fieldT Try.prog 94 1 = some (3, 1) := by kernel_rfl
@[simp] theorem dk95 : descK Try.prog 95 = some .other := by kernel_rfl
@[simp] theorem sz95 : szOf Try.prog 95 = some 1 := by kernel_rfl
@[simp] theorem by95 : byOf Try.prog 95 = some 8 := by kernel_rfl
@[simp] theorem ze95 : zeroOf Try.prog 95 = some [(.nilFunc)] := by kernel_rfl
@[simp] theorem dk96 : descK Try.prog 96 = some (.slice 74) := by kernel_rfl
@[simp] theorem sz96 : szOf Try.prog 96 = some 1 := by kernel_rfl
@[simp] theorem by96 : byOf Try.prog 96 = some 24 := by kernel_rfl
@[simp] theorem ze96 : zeroOf Try.prog 96 = some [(.slice none 0 0)] := by kernel_rfl
@[simp] theorem dk97 : descK Try.prog 97 = some .other := by kernel_rfl
@[simp] theorem sz97 : szOf Try.prog 97 = some 1 := by kernel_rfl
@[simp] theorem by97 : byOf Try.prog 97 = some 8 := by kernel_rfl
@[simp] theorem ze97 : zeroOf Try.prog 97 = some [(.nilFunc)] := by kernel_rfl
@[simp] theorem dk98 : descK Try.prog 98 = some .other := by kernel_rfl
@[simp] theorem sz98 : szOf Try.prog 98 = some 1 := by kernel_rfl
@[simp] theorem by98 : byOf Try.prog 98 = some 8 := by kernel_rfl
@[simp] theorem ze98 : zeroOf Try.prog 98 = some [(.nilFunc)] := by kernel_rfl
@[simp] theorem dk99 : descK Try.prog 99 = some .other := by kernel_rfl
@[simp] theorem sz99 : szOf Try.prog 99 = some 1 := by kernel_rfl
@[simp] theorem by99 : byOf Try.prog 99 = some 8 := by kernel_rfl
@[simp] theorem ze99 : zeroOf Try.prog 99 = some [(.nilFunc)] := by kernel_rfl
@[simp] theorem dk100 : descK Try.prog 100 = some .other := by kernel_rfl
@[simp] theorem sz100 : szOf Try.prog 100 = some 1 := by kernel_rfl
@[simp] theorem by100 : byOf Try.prog 100 = some 8 := by kernel_rfl
@[simp] theorem ze100 : zeroOf Try.prog 100 = some [(.nilFunc)] := by kernel_rfl
@[simp] theorem dk101 : descK Try.prog 101 = some (.int .i64) := by kernel_rfl
@[simp] theorem sz101 : szOf Try.prog 101 = some 1 := by kernel_rfl
@[simp] theorem by101 : byOf Try.prog 101 = some 8 := by kernel_rfl
@[simp] theorem ze101 : zeroOf Try.prog 101 = some [(.int .i64 0)] := by kernel_rfl
@[simp] theorem dk102 : descK Try.prog 102 = some .other := by kernel_rfl
@[simp] theorem sz102 : szOf Try.prog 102 = some 1 := by kernel_rfl
@[simp] theorem by102 : byOf Try.prog 102 = some 8 := by kernel_rfl
@[simp] theorem ze102 : zeroOf Try.prog 102 = some [(.nilFunc)] := by kernel_rfl
@[simp] theorem dk103 : descK Try.prog 103 = some .other := by kernel_rfl
@[simp] theorem sz103 : szOf Try.prog 103 = some 1 := by kernel_rfl
@[simp] theorem by103 : byOf Try.prog 103 = some 8 := by kernel_rfl
@[simp] theorem ze103 : zeroOf Try.prog 103 = some [(.nilFunc)] := by kernel_rfl
@[simp] theorem dk104 : descK Try.prog 104 = some .other := by kernel_rfl
@[simp] theorem sz104 : szOf Try.prog 104 = some 1 := by kernel_rfl
@[simp] theorem by104 : byOf Try.prog 104 = some 8 := by kernel_rfl
@[simp] theorem ze104 : zeroOf Try.prog 104 = some [(.nilFunc)] := by kernel_rfl
@[simp] theorem dk105 : descK Try.prog 105 = some .other := by kernel_rfl
@[simp] theorem sz105 : szOf Try.prog 105 = some 1 := by kernel_rfl
@[simp] theorem by105 : byOf Try.prog 105 = some 8 := by kernel_rfl
@[simp] theorem ze105 : zeroOf Try.prog 105 = some [(.nilFunc)] := by kernel_rfl
@[simp] theorem dk106 : descK Try.prog 106 = some .other := by kernel_rfl
@[simp] theorem sz106 : szOf Try.prog 106 = some 1 := by kernel_rfl
@[simp] theorem by106 : byOf Try.prog 106 = some 8 := by kernel_rfl
@[simp] theorem ze106 : zeroOf Try.prog 106 = some [(.nilFunc)] := by kernel_rfl
@[simp] theorem dk107 : descK Try.prog 107 = some .other := by kernel_rfl
@[simp] theorem sz107 : szOf Try.prog 107 = some 1 := by kernel_rfl
@[simp] theorem by107 : byOf Try.prog 107 = some 8 := by kernel_rfl
@[simp] theorem ze107 : zeroOf Try.prog 107 = some [(.nilFunc)] := by kernel_rfl
@[simp] theorem dk108 : descK Try.prog 108 = some .strct := by kernel_rfl
@[simp] theorem sz108 : szOf Try.prog 108 = some 4 := by kernel_rfl
@[simp] theorem by108 : byOf Try.prog 108 = some 40 := by kernel_rfl
@[simp] theorem ze108 : zeroOf Try.prog 108 = some [(.pointer none), (.pointer none), (.pointer none), (.string ⟨#[]⟩)] := by kernel_rfl
@[simp] theorem fd108_0 : fieldT Try.prog 108 0 = some (17, 0) := by kernel_rfl
@[simp] theorem fd108_1 : fieldT Try.prog 108 1 = some (17, 1) := by kernel_rfl
@[simp] theorem fd108_2 : fieldT Try.prog 108 2 = some (17, 2) := by kernel_rfl
@[simp] theorem fd108_3 : fieldT Try.prog 108 3 = some (9, 3) := by kernel_rfl
@[simp] theorem dk109 : descK Try.prog 109 = some .strct := by kernel_rfl
@[simp] theorem sz109 : szOf Try.prog 109 = some 4 := by kernel_rfl
@[simp] theorem by109 : byOf Try.prog 109 = some 40 := by kernel_rfl
@[simp] theorem ze109 : zeroOf Try.prog 109 = some [(.pointer none), (.pointer none), (.pointer none), (.string ⟨#[]⟩)] := by kernel_rfl
@[simp] theorem fd109_0 : fieldT Try.prog 109 0 = some (17, 0) := by kernel_rfl
@[simp] theorem fd109_1 : fieldT Try.prog 109 1 = some (17, 1) := by kernel_rfl
@[simp] theorem fd109_2 : fieldT Try.prog 109 2 = some (17, 2) := by kernel_rfl
@[simp] theorem fd109_3 : fieldT Try.prog 109 3 = some (9, 3) := by kernel_rfl
@[simp] theorem dk110 : descK Try.prog 110 = some (.array 0 16) := by kernel_rfl
@[simp] theorem sz110 : szOf Try.prog 110 = some 0 := by kernel_rfl
@[simp] theorem by110 : byOf Try.prog 110 = some 0 := by kernel_rfl
@[simp] theorem ze110 : zeroOf Try.prog 110 = some [] := by kernel_rfl
@[simp] theorem dk111 : descK Try.prog 111 = some .strct := by kernel_rfl
@[simp] theorem sz111 : szOf Try.prog 111 = some 0 := by kernel_rfl
@[simp] theorem by111 : byOf Try.prog 111 = some 0 := by kernel_rfl
@[simp] theorem ze111 : zeroOf Try.prog 111 = some [] := by kernel_rfl
@[simp] theorem fd111_0 : fieldT Try.prog 111 0 = some (110, 0) := by kernel_rfl
@[simp] theorem dk112 : descK Try.prog 112 = some .strct := by kernel_rfl
@[simp] theorem sz112 : szOf Try.prog 112 = some 0 := by kernel_rfl
@[simp] theorem by112 : byOf Try.prog 112 = some 0 := by kernel_rfl
@[simp] theorem ze112 : zeroOf Try.prog 112 = some [] := by kernel_rfl
@[simp] theorem fd112_0 : fieldT Try.prog 112 0 = some (110, 0) := by kernel_rfl
@[simp] theorem dk113 : descK Try.prog 113 = some (.int .u32) := by kernel_rfl
@[simp] theorem sz113 : szOf Try.prog 113 = some 1 := by kernel_rfl
@[simp] theorem by113 : byOf Try.prog 113 = some 4 := by kernel_rfl
@[simp] theorem ze113 : zeroOf Try.prog 113 = some [(.int .u32 0)] := by kernel_rfl
@[simp] theorem dk114 : descK Try.prog 114 = some (.int .u8) := by kernel_rfl
@[simp] theorem sz114 : szOf Try.prog 114 = some 1 := by kernel_rfl
@[simp] theorem by114 : byOf Try.prog 114 = some 1 := by kernel_rfl
@[simp] theorem ze114 : zeroOf Try.prog 114 = some [(.int .u8 0)] := by kernel_rfl
@[simp] theorem dk115 : descK Try.prog 115 = some (.int .u8) := by kernel_rfl
@[simp] theorem sz115 : szOf Try.prog 115 = some 1 := by kernel_rfl
@[simp] theorem by115 : byOf Try.prog 115 = some 1 := by kernel_rfl
@[simp] theorem ze115 : zeroOf Try.prog 115 = some [(.int .u8 0)] := by kernel_rfl
@[simp] theorem dk116 : descK Try.prog 116 = some .other := by kernel_rfl
@[simp] theorem sz116 : szOf Try.prog 116 = some 1 := by kernel_rfl
@[simp] theorem by116 : byOf Try.prog 116 = some 8 := by kernel_rfl
@[simp] theorem ze116 : zeroOf Try.prog 116 = some [(.nilFunc)] := by kernel_rfl
@[simp] theorem dk117 : descK Try.prog 117 = some .other := by kernel_rfl
@[simp] theorem sz117 : szOf Try.prog 117 = some 1 := by kernel_rfl
@[simp] theorem by117 : byOf Try.prog 117 = some 8 := by kernel_rfl
@[simp] theorem ze117 : zeroOf Try.prog 117 = some [(.pointer none)] := by kernel_rfl
@[simp] theorem dk118 : descK Try.prog 118 = some (.int .i32) := by kernel_rfl
@[simp] theorem sz118 : szOf Try.prog 118 = some 1 := by kernel_rfl
@[simp] theorem by118 : byOf Try.prog 118 = some 4 := by kernel_rfl
@[simp] theorem ze118 : zeroOf Try.prog 118 = some [(.int .i32 0)] := by kernel_rfl
@[simp] theorem dk119 : descK Try.prog 119 = some (.int .i32) := by kernel_rfl
@[simp] theorem sz119 : szOf Try.prog 119 = some 1 := by kernel_rfl
@[simp] theorem by119 : byOf Try.prog 119 = some 4 := by kernel_rfl
@[simp] theorem ze119 : zeroOf Try.prog 119 = some [(.int .i32 0)] := by kernel_rfl
@[simp] theorem dk120 : descK Try.prog 120 = some .strct := by kernel_rfl
@[simp] theorem sz120 : szOf Try.prog 120 = some 11 := by kernel_rfl
@[simp] theorem by120 : byOf Try.prog 120 = some 48 := by kernel_rfl
@[simp] theorem ze120 : zeroOf Try.prog 120 = some [(.int .u64 0), (.int .u64 0), (.int .u32 0), (.int .u8 0), (.int .u8 0), (.int .u8 0), (.int .u8 0), (.nilFunc), (.pointer none), (.int .i32 0), (.int .i32 0)] := by kernel_rfl
@[simp] theorem fd120_0 : fieldT Try.prog 120 0 = some (12, 0) := by kernel_rfl
@[simp] theorem fd120_1 : fieldT Try.prog 120 1 = some (12, 1) := by kernel_rfl
@[simp] theorem fd120_2 : fieldT Try.prog 120 2 = some (113, 2) := by kernel_rfl
@[simp] theorem fd120_3 : fieldT Try.prog 120 3 = some (114, 3) := by kernel_rfl
@[simp] theorem fd120_4 : fieldT Try.prog 120 4 = some (5, 4) := by kernel_rfl
@[simp] theorem fd120_5 : fieldT Try.prog 120 5 = some (5, 5) := by kernel_rfl
@[simp] theorem fd120_6 : fieldT Try.prog 120 6 = some (115, 6) := by kernel_rfl
@[simp] theorem fd120_7 : fieldT Try.prog 120 7 = some (116, 7) := by kernel_rfl
@[simp] theorem fd120_8 : fieldT Try.prog 120 8 = some (117, 8) := by kernel_rfl
@[simp] theorem fd120_9 : fieldT Try.prog 120 9 = some (118, 9) := by kernel_rfl
@[simp] theorem fd120_10 : fieldT Try.prog 120 10 = some (119, 10) := by kernel_rfl
@[simp] theorem dk121 : descK Try.prog 121 = some .strct := by kernel_rfl
@[simp] theorem sz121 : szOf Try.prog 121 = some 11 := by kernel_rfl
@[simp] theorem by121 : byOf Try.prog 121 = some 48 := by kernel_rfl
@[simp] theorem ze121 : zeroOf Try.prog 121 = some [(.int .u64 0), (.int .u64 0), (.int .u32 0), (.int .u8 0), (.int .u8 0), (.int .u8 0), (.int .u8 0), (.nilFunc), (.pointer none), (.int .i32 0), (.int .i32 0)] := by kernel_rfl
@[simp] theorem fd121_0 : fieldT Try.prog 121 0 = some (12, 0) := by kernel_rfl
@[simp] theorem fd121_1 : fieldT Try.prog 121 1 = some (12, 1) := by kernel_rfl
@[simp] theorem fd121_2 : fieldT Try.prog 121 2 = some (113, 2) := by kernel_rfl
@[simp] theorem fd121_3 : fieldT Try.prog 121 3 = some (114, 3) := by kernel_rfl
@[simp] theorem fd121_4 : fieldT Try.prog 121 4 = some (5, 4) := by kernel_rfl
@[simp] theorem fd121_5 : fieldT Try.prog 121 5 = some (5, 5) := by kernel_rfl
@[simp] theorem fd121_6 : fieldT Try.prog 121 6 = some (115, 6) := by kernel_rfl
@[simp] theorem fd121_7 : fieldT Try.prog 121 7 = some (116, 7) := by kernel_rfl
@[simp] theorem fd121_8 : fieldT Try.prog 121 8 = some (117, 8) := by kernel_rfl
@[simp] theorem fd121_9 : fieldT Try.prog 121 9 = some (118, 9) := by kernel_rfl
@[simp] theorem fd121_10 : fieldT Try.prog 121 10 = some (119, 10) := by kernel_rfl
@[simp] theorem dk122 : descK Try.prog 122 = some .other := by kernel_rfl
end Go.Proofs.Ytgpclhjdfdojhaa

/- The executor is right for this program. No condition. -/
namespace Go.Proofs.Ytgpclhjdfdojhaa
open Go Go.Av
set_option maxHeartbeats 2000000
theorem ft : fieldTest Try.prog = true := by kernel_rfl
theorem nt : fnTest Try.prog = true := by kernel_rfl
theorem mo : Try.prog.follows .mixedOrders = true := by kernel_rfl
theorem e23 : eqTest Try.prog 23 = true := by kernel_rfl
theorem e24 : eqTest Try.prog 24 = true := by kernel_rfl
theorem e42 : eqTest Try.prog 42 = true := by kernel_rfl
end Go.Proofs.Ytgpclhjdfdojhaa

/- The executor's context, opened for simplification. No condition. -/
namespace Go.Proofs.Ytgpclhjdfdojhaa
open Go Go.Av
@[simp] theorem C_P : C0.P = Try.prog := (rfl)
@[simp] theorem C_G (f) : C0.G f = GS f := (rfl)
@[simp] theorem C_o (f) : C0.ownArgs f = ownA f := (rfl)
@[simp] theorem C_k (f) : C0.keepRes f = keepR f := (rfl)
@[simp] theorem C_e (f) : C0.eqT f = eqTy f := (rfl)
theorem bytesI_get : ∀ {l : List UInt8} {j : Nat}, j < l.length → ∃ x : Nat, x < 256 ∧ nthE (bytesI l) j = some [.lit (.int .u8 x)]
  | [], j, h => by simp at h
  | b :: l, 0, _ => ⟨b.toNat, b.toNat_lt, by simp [bytesI, nthE]⟩
  | b :: l, j + 1, h => by
    obtain ⟨x, h1, h2⟩ := bytesI_get (l := l) (j := j) (by simpa using h)
    exact ⟨x, h1, by simpa [bytesI, nthE] using h2⟩
theorem bytesI_length : ∀ (l : List UInt8), (bytesI l).length = l.length
  | [] => rfl
  | _ :: l => by simp [bytesI, bytesI_length l]
theorem wrap64 {x : Int} (h1 : -9223372036854775808 ≤ x) (h2 : x < 9223372036854775808) : IntKind.i64.wrap x = x := by
  unfold IntKind.wrap
  simp [IntKind.signed, IntKind.bits]
  omega
/-- A reader of bytes at a place. -/
abbrev Rd (l : List UInt8) (p : Int) : Option Blk := some (.box [.i (.isl (bytesI l)), .int p])
end Go.Proofs.Ytgpclhjdfdojhaa

/- The copy of an expression: the worklist's code. No condition. -/
namespace Go.Proofs.Ytgpclhjdfdojhaa
open Go Go.Av
set_option maxRecDepth 4000
/-- The context without ready contracts. -/
noncomputable def C1 : Ctx := { P := Try.prog, G := GS, ownArgs := ownA, keepRes := keepR, eqT := eqTy, prim := fun _ => none }
@[simp] theorem C1_P : C1.P = Try.prog := (rfl)
@[simp] theorem C1_G (f) : C1.G f = GS f := (rfl)
@[simp] theorem C1_o (f) : C1.ownArgs f = ownA f := (rfl)
@[simp] theorem C1_k (f) : C1.keepRes f = keepR f := (rfl)
@[simp] theorem C1_e (f) : C1.eqT f = eqTy f := (rfl)
theorem cpl_nil : callA C1 71 [.i (.isl [])] [] = some (.nils, []) := by
  rw [callA_eq rfl Try.func71 rfl rfl]
  simp
theorem cpl_some {ks : List Ex} (h : ks ≠ []) (hl : ks.length < 1000000000) : callA C1 71 [.i (.isl (Ex.cellsL ks))] [] = some (.osl 0 5 0 ks.length, [some (.arr 5 (Ex.cellsL ks))]) := by
  rw [callA_eq rfl Try.func71 rfl rfl]
  have h1 : 56 * (ks.length : Int) ≤ 281474976710656 := by omega
  simp [h, h1]
  unfold over
  simp
theorem sound1 : SoundOk C1 := sound_ok (C := C1) ft nt (fun t ht => by
  have h : eqTy t = true := ht
  unfold eqTy at h
  split at h
  · exact e23
  · exact e24
  · exact e42
  · cases h) mo (prim_none fun _ => rfl)
def ptr (p : Nat × Nat) : IV := .lit (.pointer (some ⟨p.1, p.2, none⟩))
def zc : List AV := [.int 0, .int 0, .bool false, .int 0, .nils]
def Sini (e : Ex) : AS := { env := [(0, .i (.iref e.cells))], st := [] }
def Sout (e : Ex) : AS := { env := [(0, .i (.iref e.cells)), (2, .own 0 0), (3, .own 1 0), (4, .junk), (5, .junk), (6, .junk), (13, .junk), (37, .junk), (38, .junk), (39, .junk)], st := [some (.box zc), some (.box (impI e.cells))] }
/-- The state at the worklist's head. -/
def SL (b3 : Nat) (todo X : KL) : AS :=
  { env := [(0, .junk), (2, .own 0 0), (3, .i (ptr (b3, 0))), (4, .osl 1 1 0 todo.length), (5, .junk), (6, .junk), (13, .junk), (37, .junk), (38, .junk), (39, .junk)], st := [some (.box zc), some (.arr 1 ((todo ++ X).map fun k => [ptr k.1]))] }
theorem ptr_lit : ∀ (l : KL), ∀ c ∈ (l.map fun k => [ptr k.1]).flatten, ∃ v, c = .lit v
  | [], c, h => by simp at h
  | k :: l, c, h => by
    simp only [List.map_cons, List.flatten_cons, List.mem_append, List.mem_singleton] at h
    rcases h with rfl | h
    · exact ⟨_, rfl⟩
    · exact ptr_lit l c h
/-- What is known when the kids have been copied, ahead of the store. -/
def PP (b3 : Nat) (b o n : Nat) (x : Ex) (ES : List (List IV)) (env : Nat → AV) (st : Store) : Prop :=
  env 2 = .own 0 0 ∧ env 3 = .i (ptr (b3, 0)) ∧ env 4 = .osl 1 1 0 n ∧ env 5 = .i (ptr (b, o)) ∧ env 32 = .i (ptr (b, o + 4)) ∧ st 0 = some (.box zc) ∧ st 1 = some (.arr 1 ES) ∧
    ((env 30 = .nils ∧ x.kids = []) ∨ ∃ id, env 30 = .osl id 5 0 x.kids.length ∧ x.kids ≠ [] ∧ st id = some (.arr 5 (Ex.cellsL x.kids)) ∧ 2 ≤ id)
theorem wrap_1' : IntKind.i64.wrap 1 = 1 := wrap64 (by omega) (by omega)
/-- The pointers that have been put on the worklist. -/
def RW (init : KL) (b' i : Nat) : List (List IV) := (init.map fun k => [ptr k.1]) ++ (List.range i).map fun j => [ptr (b', j * 5)]
theorem RW_len (init : KL) (b' i : Nat) : (RW init b' i).length = init.length + i := by simp [RW]
theorem RW_succ (init : KL) (b' i : Nat) : RW init b' i ++ [[ptr (b', i * 5)]] = RW init b' (i + 1) := by simp [RW, List.range_succ]
theorem kidsAt_map (b : Nat) : ∀ (o : Nat) (l : List Ex), (kidsAt b o l).map (fun k => [ptr k.1]) = (List.range l.length).map fun j => [ptr (b, o + j * 5)]
  | _, [] => by simp [kidsAt]
  | o, a :: l => by
    simp only [kidsAt, List.map_cons, kidsAt_map b (o + 5) l, List.length_cons, List.range_succ_eq_map, List.map_map]
    simp only [List.cons.injEq, Nat.zero_mul, Nat.add_zero, true_and]
    apply List.map_congr_left
    intro j _
    simp only [Function.comp, Nat.succ_eq_add_one]
    rw [show o + 5 + j * 5 = o + (j + 1) * 5 by omega]
theorem kidsAt_len (b : Nat) : ∀ (o : Nat) (l : List Ex), (kidsAt b o l).length = l.length
  | _, [] => rfl
  | o, a :: l => by simp [kidsAt, kidsAt_len b (o + 5) l]
theorem kidsAt_sum (b : Nat) : ∀ (o : Nat) (l : List Ex), ((kidsAt b o l).map fun k => k.2.size).sum = Ex.sizeL l
  | _, [] => rfl
  | o, a :: l => by simp [kidsAt, Ex.sizeL, kidsAt_sum b (o + 5) l]
/-- The state when so many kids have been put on the worklist. -/
def YS (b3 b' cap : Nat) (x : Ex) (init : KL) (ES : List (List IV)) (i : Nat) : AS :=
  { env := [(0, .junk), (2, .own 0 0), (3, .i (ptr (b3, 0))), (4, if i = 0 then .osl 1 1 0 init.length else .osl 2 1 0 (init.length + i)), (5, .i (.iref [.int x.kind, .int x.col, .bool x.val.null, .int x.val.n, .lit (.slice (some ⟨b', 0, none⟩) x.kids.length cap)])), (6, jk i (.int (i - 1))), (13, .junk), (37, .int x.kids.length), (38, .int i), (39, jk i (.bool true))],
    st := some (.box zc) :: if i = 0 then [some (.arr 1 ES)] else [none, some (.arr 1 (RW init b' i))] }
set_option maxHeartbeats 1000000
theorem copied_calls {e : Ex} (he : e.size < 1000000000) {wi : World} {mi : Mem} {φ : Pl} {vs : List Value} (hi : Inv wi mi φ (stOf [])) (hr : RepL mi φ [.i (.iref e.cells)] vs) (h0 : ∀ id, φ id ≠ none → id < 0) :
    Calls Try.prog 45 vs.toArray wi (CallPost wi mi φ (.i (.agg e.cells)) []) := by
  obtain rfl : φ = fun _ => none := by
    funext id
    cases h : φ id with
    | none => rfl
    | some p => exact absurd (h0 id (by rw [h]; simp)) (Nat.not_lt_zero _)
  refine calls_of_wp (fn := Try.f45) Try.func45 rfl ?_
  have g0 : GG wi mi 52 (fun id => id < (Sini e).st.length) [] (envOf (Sini e).env) (stOf (Sini e).st) { tmps := vs.toArray ++ Array.replicate (52 - vs.toArray.size) undef, defers := [] } wi := by
    refine ⟨⟨mi, fun _ => none, hi, ?_, .refl _ _ _, fun id h => absurd rfl h, fun k hk => by simp at hk⟩, by simp; omega, rfl⟩
    intro t
    have := enter_rep (m := mi) (φ := fun _ => none) (52 - vs.toArray.size) hr t
    cases t with
    | zero => simpa [Sini, envOf, argAt] using this
    | succ t => simp only [Sini, envOf]; simp; exact .junk _
  refine wp_seq (wp_mono (GG.codeA sound1 (G := GS 45) (S := Sini e) (e := .normal) (S' := { Sout e with env := [(0, .i (.iref e.cells)), (2, .own 0 0), (3, .junk), (4, .junk), (5, .junk), (6, .junk), (13, .junk), (37, .junk), (38, .junk), (39, .junk)], st := [some (.box zc)] }) (by kernel_rfl) (by simp [Sini, zc]) g0) ?_)
  rintro _ a1 w1 ⟨rfl, g1⟩
  refine wp_seq (wp_mono (GG.codeA sound1 (G := GS 45) (S := { Sout e with env := [(0, .i (.iref e.cells)), (2, .own 0 0), (3, .junk), (4, .junk), (5, .junk), (6, .junk), (13, .junk), (37, .junk), (38, .junk), (39, .junk)], st := [some (.box zc)] }) (e := .normal) (S' := Sout e) (by kernel_rfl) (by simp [Sout, zc]) g1) ?_)
  rintro _ a2 w2 ⟨rfl, g2⟩
  obtain ⟨b3, g3⟩ := g2.pub (u := 3) (id := 1) (e := e) (st' := stOf [some (.box zc)]) (ok' := fun id => id < 1) rfl rfl (by
    intro i blk h
    cases i with
    | zero => simp [stOf] at h; subst h; exact ⟨by omega, rfl, by simp [LitBlk, zc]⟩
    | succ i => simp [stOf] at h) (by
    intro i h
    cases i with
    | zero => omega
    | succ i => simp [stOf] at h)
  have g3 := g3 (envOf [(2, .own 0 0), (3, .i (ptr (b3, 0)))]) (by
    intro t
    simp only [envOf]
    by_cases h2 : t = 2
    · subst h2; exact .inr (.inr ⟨rfl, by simp [Sout, envOf, Stays, stOf]⟩)
    · by_cases h3 : t = 3
      · subst h3; exact .inr (.inl ⟨rfl, rfl⟩)
      · simp [h2, h3])
  refine wp_seq (wp_mono (GG.codeA sound1 (G := GS 45) (S := { env := [(2, .own 0 0), (3, .i (ptr (b3, 0)))], st := [some (.box zc)] }) (e := .normal) (S' := SL b3 [((b3, 0), e)] []) (by kernel_rfl) (by simp [SL, ptr, zc]) g3) ?_)
  rintro _ a3 w3 ⟨rfl, g4⟩
  refine wp_seq (wp_block ?_)
  refine wp_loop_n (fun n a w => ∃ todo X K : KL, (∀ k ∈ todo, k ∈ K) ∧ ((b3, 0), e) ∈ K ∧ (todo.map fun k => k.2.size).sum = n ∧ n < 1000000000 ∧ GG wi mi 52 (fun id => id < (SL b3 todo X).st.length) K (envOf (SL b3 todo X).env) (stOf (SL b3 todo X).st) a w) ?_ (n := e.size) ⟨[((b3, 0), e)], [], [((b3, 0), e)], fun k hk => hk, by simp, by simp, he, g4⟩
  rintro n a w ⟨todo, X, K, hsub, hb3, hsum, hn, g⟩
  rcases List.eq_nil_or_concat todo with rfl | ⟨init, k, rfl⟩
  · refine wp_mono (GG.codeA sound1 (G := GS 45) (S := SL b3 [] X) (e := .exit 0) (S' := { env := [(0, .junk), (2, .own 0 0), (3, .i (ptr (b3, 0))), (4, .osl 1 1 0 0), (5, .junk), (6, .junk), (13, .bool false), (37, .junk), (38, .junk), (39, .junk)], st := [some (.box zc), some (.arr 1 (X.map fun k => [ptr k.1]))] }) (by kernel_rfl) (by simp [SL, ptr, zc]) g) ?_
    rintro _ a5 w5 ⟨rfl, g5⟩
    simp only [exitOf, Exit.then, Exit.inBlock, if_true]
    have g6 := (g5.see (u := 3) (b := b3) (o := 0) rfl hb3).envTo (env' := envOf [(2, .own 0 0), (3, .i (.iref e.cells))]) (by
      intro t
      simp only [envOf, upd]
      by_cases h2 : t = 2
      · subst h2; simp
      · by_cases h3 : t = 3
        · subst h3; simp
        · simp [h2, h3])
    refine wp_mono (GG.codeA sound1 (G := GS 45) (S := { env := [(2, .own 0 0), (3, .i (.iref e.cells))], st := [some (.box zc), some (.arr 1 (X.map fun k => [ptr k.1]))] }) (e := .ret) (S' := { env := [(0, .junk), (2, .own 0 0), (3, .i (.iref e.cells)), (4, .junk), (5, .junk), (6, .junk), (13, .junk), (37, .junk), (38, .junk), (39, .junk)], st := [some (.box (impI e.cells)), some (.arr 1 (X.map fun k => [ptr k.1]))] }) (by kernel_rfl) (by simp [zc]) g6) ?_
    rintro _ a6 w6 ⟨rfl, g7⟩
    obtain ⟨⟨m, φ, q1, q2, q3, q4, q5⟩, q6, q7⟩ := g7
    obtain ⟨v, k1, k2⟩ := finish_sound (C := C1) (fn := Try.f45) (keep := false) (na := 0) (S := { env := [(0, .junk), (2, .own 0 0), (3, .i (.iref e.cells)), (4, .junk), (5, .junk), (6, .junk), (13, .junk), (37, .junk), (38, .junk), (39, .junk)], st := [some (.box (impI e.cells)), some (.arr 1 (X.map fun k => [ptr k.1]))] }) (r := .i (.agg e.cells)) (stl' := []) (fun id h => absurd rfl h) ⟨⟨⟨m, φ, q1, q2, q3, q4⟩, q6, q7⟩, Nat.zero_le _⟩ (by
      show finish C1 false [ResultVar.cell 2 27] 0 _ = _
      simp)
    exact ⟨q7, v, k1, k2⟩
  · clear g0 g4 g3 g1 g2
    obtain ⟨⟨b, o⟩, x⟩ := k
    have hlen : ∀ l : KL, l.length ≤ (l.map fun k => k.2.size).sum := by
      intro l
      induction l with
      | nil => simp
      | cons a l ih => have := Ex.size_pos a.2; simp; omega
    have hil := hlen init
    simp at hsum
    have hxk : ((b, o), x) ∈ K := hsub _ (by simp)
    have hxs := Ex.size_eq x
    have hkl := Ex.sizeL_length x.kids
    have hne : ¬ ((init.length : Int) + 1 ≤ 0) := by omega
    have hpos : (0 : Int) < (init.length : Int) + 1 := by omega
    have w1 : IntKind.i64.wrap (init.length : Int) = init.length := wrap64 (by omega) (by omega)
    generalize hES : ((init ++ [((b, o), x)] ++ X).map fun k => [ptr k.1]) = ES
    have hnth : nthE ES init.length = some [ptr (b, o)] := by
      rw [nthE_eq, ← hES]; simp
    have hlit : ∀ c ∈ ES.flatten, ∃ v, c = .lit v := by rw [← hES]; exact ptr_lit _
    have hlt : (init.length : Int) < (init.length : Int) + 1 := by omega
    have hlt2 : (init.length : Int) ≤ (init.length : Int) + 1 := by omega
    refine wp_seq (wp_mono (GG.codeA sound1 (G := GS 45) (S := SL b3 (init ++ [((b, o), x)]) X) (e := .normal) (S' := { env := [(0, .junk), (2, .own 0 0), (3, .i (ptr (b3, 0))), (4, .osl 1 1 0 (init.length + 1)), (5, .junk), (6, .junk), (13, .bool true), (37, .junk), (38, .junk), (39, .junk)], st := [some (.box zc), some (.arr 1 ES)] }) (by kernel_rfl) (by simp only [SL, hES]; simp [ptr, zc, hpos]) (by simpa using g)) ?_)
    rintro _ a5 w5 ⟨rfl, g5⟩
    clear g
    refine wp_block ?_
    refine wp_seq (wp_mono (GG.codeA sound1 (G := GS 45) (S := { env := [(0, .junk), (2, .own 0 0), (3, .i (ptr (b3, 0))), (4, .osl 1 1 0 (init.length + 1)), (5, .junk), (6, .junk), (13, .bool true), (37, .junk), (38, .junk), (39, .junk)], st := [some (.box zc), some (.arr 1 ES)] }) (e := .normal) (S' := { env := [(0, .junk), (2, .own 0 0), (3, .i (ptr (b3, 0))), (4, .osl 1 1 0 (init.length + 1)), (5, (.i (ptr (b, o)))), (6, .junk), (13, .bool true), (37, .junk), (38, .junk), (39, .junk)], st := [some (.box zc), some (.arr 1 ES)] }) (by kernel_rfl) (by simp only [ptr] at hnth; simp [ptr, zc, hnth, w1, hlt]) g5) ?_)
    rintro _ a6 w6 ⟨rfl, g6⟩
    clear g5
    refine wp_seq (wp_mono (GG.codeA sound1 (G := GS 45) (S := { env := [(0, .junk), (2, .own 0 0), (3, .i (ptr (b3, 0))), (4, .osl 1 1 0 (init.length + 1)), (5, (.i (ptr (b, o)))), (6, .junk), (13, .bool true), (37, .junk), (38, .junk), (39, .junk)], st := [some (.box zc), some (.arr 1 ES)] }) (e := .normal) (S' := { env := [(0, .junk), (2, .own 0 0), (3, .i (ptr (b3, 0))), (4, .osl 1 1 0 init.length), (5, (.i (ptr (b, o)))), (6, .junk), (13, .bool true), (37, .junk), (38, .junk), (39, .junk)], st := [some (.box zc), some (.arr 1 ES)] }) (by kernel_rfl) (by simp [ptr, zc, w1, hlt2]) g6) ?_)
    rintro _ a7 w7 ⟨rfl, g7⟩
    clear g6
    refine wp_seq (GG.region sound1 (os1 := [_, _]) (os2 := [_, _, _, _, _, _]) (u := 26) (PP := PP b3 b o init.length x ES) rfl (by
      have h : ∀ ops : Array Oper, ops.all (operOk 52) = true → ∀ o ∈ ops, operOk 52 o = true := fun ops h o ho => Array.all_eq_true_iff_forall_mem.1 h o ho
      exact h _ (by kernel_rfl)) g7 hxk ?_ ?_)
    · rw [Ex.cells_eq]
      by_cases hx : x.kids = []
      · simp [ptr, zc, hx, PP, Ex.cellsL, cpl_nil]
      · simp [ptr, zc, PP, cpl_some hx (by omega), hx]
    · rintro env st a8 w8 ⟨p2, p3, p4, p5, p32, q0, q1, p30⟩ g8
      clear g7
      obtain ⟨w9, b', ao, cap, e1, e2, hrun, hG⟩ := GG.turn (C := C1) (ok' := fun id => id < 2) (st' := stOf [some (.box zc), some (.arr 1 ES)]) (u := 30) (t := 25) g8 (by simp) hi.mem hxk rfl (by
        rcases p30 with ⟨h1, h2⟩ | ⟨id, h1, h2, h3, h4⟩
        · refine .inl ⟨h1, h2, ?_⟩
          intro i blk h
          rcases i with _ | _ | i
          · simp [stOf] at h; subst h; exact q0
          · simp [stOf] at h; subst h; exact q1
          · simp [stOf] at h
        · refine .inr ⟨id, h1, h2, h3, ?_⟩
          intro i blk h
          rcases i with _ | _ | i
          · simp [stOf] at h; subst h; exact ⟨by omega, q0⟩
          · simp [stOf] at h; subst h; exact ⟨by omega, q1⟩
          · simp [stOf] at h) (by
        intro i blk h
        rcases i with _ | _ | i
        · simp [stOf] at h; subst h; simp [LitBlk, zc]
        · simp [stOf] at h; subst h; exact hlit
        · simp [stOf] at h) (by
        intro i h
        rcases i with _ | _ | i
        · omega
        · omega
        · simp [stOf] at h)
      have ev5 := g8.litAt (t := 5) p5
      have ev32 := g8.litAt (t := 32) p32
      refine wpOp_store (C := C1) (w' := w9) rfl (by
        show (Instr.storeAt 25 (a8.tmps.getD 32 undef) (a8.tmps.getD 30 undef)).run C1.P w8 = _
        rw [ev32]; exact hrun) ?_
      have g9 := hG (envOf [(2, .own 0 0), (3, .i (ptr (b3, 0))), (4, .osl 1 1 0 init.length), (5, (.i (.iref [.int x.kind, .int x.col, .bool x.val.null, .int x.val.n, .lit (.slice ao x.kids.length cap)])))]) (by
        intro t
        simp only [envOf]
        by_cases h2 : t = 2
        · subst h2; exact .inr (.inr ⟨by simp [p2], by rw [p2]; simp [Stays, stOf]⟩)
        by_cases h3 : t = 3
        · subst h3; exact .inr (.inr ⟨by simp [p3], by rw [p3]; simp [Stays, ptr]⟩)
        by_cases h4 : t = 4
        · subst h4; exact .inr (.inr ⟨by simp [p4], by rw [p4]; simp [Stays, stOf]⟩)
        by_cases h5 : t = 5
        · subst h5; exact .inr (.inl ⟨ev5, by simp⟩)
        · simp [h2, h3, h4, h5])
      clear hG g8
      show Code.wp _ _ _ _ _
      refine wp_seq (wp_mono (GG.codeA sound1 (G := GS 45) (S := { env := [(2, .own 0 0), (3, .i (ptr (b3, 0))), (4, .osl 1 1 0 init.length), (5, (.i (.iref [.int x.kind, .int x.col, .bool x.val.null, .int x.val.n, .lit (.slice ao x.kids.length cap)])))], st := [some (.box zc), some (.arr 1 ES)] }) (e := .normal) (S' := { env := [(0, .junk), (2, .own 0 0), (3, .i (ptr (b3, 0))), (4, .osl 1 1 0 init.length), (5, (.i (.iref [.int x.kind, .int x.col, .bool x.val.null, .int x.val.n, .lit (.slice ao x.kids.length cap)]))), (6, .junk), (13, .junk), (37, .int x.kids.length), (38, .int 0), (39, .junk)], st := [some (.box zc), some (.arr 1 ES)] }) (by kernel_rfl) (by simp [ptr, zc]) g9) ?_)
      rintro _ a10 w10 ⟨rfl, g10⟩
      clear g9
      by_cases hx : x.kids = []
      · refine wp_mono (GG.codeA sound1 (G := GS 45) (S := { env := [(0, .junk), (2, .own 0 0), (3, .i (ptr (b3, 0))), (4, .osl 1 1 0 init.length), (5, (.i (.iref [.int x.kind, .int x.col, .bool x.val.null, .int x.val.n, .lit (.slice ao x.kids.length cap)]))), (6, .junk), (13, .junk), (37, .int x.kids.length), (38, .int 0), (39, .junk)], st := [some (.box zc), some (.arr 1 ES)] }) (e := .normal) (S' := { env := [(0, .junk), (2, .own 0 0), (3, .i (ptr (b3, 0))), (4, .osl 1 1 0 init.length), (5, (.i (.iref [.int x.kind, .int x.col, .bool x.val.null, .int x.val.n, .lit (.slice ao x.kids.length cap)]))), (6, .junk), (13, .junk), (37, .int x.kids.length), (38, .int 0), (39, .bool false)], st := [some (.box zc), some (.arr 1 ES)] }) (by kernel_rfl) (by
          simp only [hx, List.length_nil]
          simp
          rw [execA_loop]
          simp [ptr, zc]) g10) ?_
        rintro _ a11 w11 ⟨rfl, g11⟩
        simp only [exitOf, Exit.then, Exit.inBlock]
        refine ⟨n - 1, by omega, init, ((b, o), x) :: X, K ++ kidsAt b' 0 x.kids, fun k hk => List.mem_append_left _ (hsub k (by simp [hk])), List.mem_append_left _ hb3, ?_, by omega, ?_⟩
        · rw [hx] at hxs; simp [Ex.sizeL] at hxs; omega
        · have hES2 : ((init ++ ((b, o), x) :: X).map fun k => [ptr k.1]) = ES := by rw [← hES]; simp
          simp only [SL, hES2]
          exact g11.envTo (by
            intro t
            simp only [envOf]
            by_cases h2 : t = 2
            · subst h2; simp
            by_cases h3 : t = 3
            · subst h3; simp
            by_cases h4 : t = 4
            · subst h4; simp
            · simp [h2, h3, h4])
      · obtain rfl := e2 hx
        have hET : ES.take init.length = RW init b' 0 := by rw [← hES]; simp [RW]
        have hEL : init.length ≤ ES.length := by rw [← hES]; simp
        have hlim : ∀ i, i ≤ x.kids.length → (init.length + i + 1) * 8 ≤ 140737488355328 := fun i hi => by omega
        have hk0 : x.kids.length ≠ 0 := fun h => hx (List.length_eq_zero_iff.1 h)
        refine wp_mono (GG.codeA sound1 (G := GS 45) (S := { env := [(0, .junk), (2, .own 0 0), (3, .i (ptr (b3, 0))), (4, .osl 1 1 0 init.length), (5, (.i (.iref [.int x.kind, .int x.col, .bool x.val.null, .int x.val.n, .lit (.slice (some ⟨b', 0, none⟩) x.kids.length cap)]))), (6, .junk), (13, .junk), (37, .int x.kids.length), (38, .int 0), (39, .junk)], st := [some (.box zc), some (.arr 1 ES)] }) (e := .normal) (S' := { env := [(0, .junk), (2, .own 0 0), (3, .i (ptr (b3, 0))), (4, .osl 2 1 0 (init.length + x.kids.length)), (5, (.i (.iref [.int x.kind, .int x.col, .bool x.val.null, .int x.val.n, .lit (.slice (some ⟨b', 0, none⟩) x.kids.length cap)]))), (6, .int (x.kids.length - 1)), (13, .junk), (37, .int x.kids.length), (38, .int x.kids.length), (39, .bool false)], st := [some (.box zc), none, some (.arr 1 (RW init b' x.kids.length))] }) (by kernel_rfl) (by
          simp
          rw [loop_to (YS b3 b' cap x init ES) x.kids.length (by simp [YS])]
          · rw [execA_loop]
            simp [YS, hk0, jk_pos hk0, zc, ptr]
          · intro i hi
            have w2 : IntKind.i64.wrap ((i : Int) + 1) = i + 1 := wrap64 (by omega) (by omega)
            have hi0 : (i : Int) < x.kids.length := by omega
            by_cases h0 : i = 0
            · subst h0
              have hl : (init.length + 1) * 8 ≤ 140737488355328 := by omega
              have hR : RW init b' 0 ++ [[.lit (.pointer (some ⟨b', 0, none⟩))]] = RW init b' 1 := by simpa [ptr] using RW_succ init b' 0
              simp [YS, zc, ptr, wrap_1', hi, hET, hEL, hl, hR]
            · have hl := hlim i (by omega)
              have hT : (RW init b' i).take (init.length + i) = RW init b' i := List.take_of_length_le (by rw [RW_len]; omega)
              have hR : RW init b' i ++ [[.lit (.pointer (some ⟨b', i * 5, none⟩))]] = RW init b' (i + 1) := by simpa [ptr] using RW_succ init b' i
              simp [YS, h0, jk_pos h0, zc, ptr, w2, hi, hT, RW_len, hl, hR, ← Nat.add_assoc]) g10) ?_
        rintro _ a11 w11 ⟨rfl, g11⟩
        simp only [exitOf, Exit.then, Exit.inBlock]
        refine ⟨n - 1, by omega, init ++ kidsAt b' 0 x.kids, [], K ++ kidsAt b' 0 x.kids, ?_, List.mem_append_left _ hb3, ?_, by omega, ?_⟩
        · intro k hk
          rcases List.mem_append.1 hk with h | h
          · exact List.mem_append_left _ (hsub k (by simp [h]))
          · exact List.mem_append_right _ h
        · rw [List.map_append, List.sum_append, kidsAt_sum]; omega
        · have g12 := g11.settle [2, 3, 4]
          have hR : List.map (fun k : (Nat × Nat) × Ex => [ptr k.1]) (init ++ kidsAt b' 0 x.kids ++ []) = RW init b' x.kids.length := by
            rw [List.append_nil, List.map_append, kidsAt_map]; simp [RW]
          have hl : (init ++ kidsAt b' 0 x.kids).length = init.length + x.kids.length := by rw [List.length_append, kidsAt_len]
          simp only [SL, hR, hl]
          have hs : Av.settle [2, 3, 4] 0 (envOf [(0, .junk), (2, .own 0 0), (3, .i (ptr (b3, 0))), (4, .osl 2 1 0 (init.length + x.kids.length)), (5, .i (.iref [.int x.kind, .int x.col, .bool x.val.null, .int x.val.n, .lit (.slice (some ⟨b', 0, none⟩) x.kids.length cap)])), (6, .int (x.kids.length - 1)), (13, .junk), (37, .int x.kids.length), (38, .int x.kids.length), (39, .bool false)]) (stOf [some (.box zc), none, some (.arr 1 (RW init b' x.kids.length))]) = { env := [(2, .own 0 0), (3, .i (ptr (b3, 0))), (4, .osl 1 1 0 (init.length + x.kids.length))], st := [some (.box zc), some (.arr 1 (RW init b' x.kids.length))] } := by
            simp [zc, ptr]
          rw [hs] at g12
          exact g12.envTo (by
            intro t
            simp only [envOf]
            by_cases h2 : t = 2
            · subst h2; simp
            by_cases h3 : t = 3
            · subst h3; simp
            by_cases h4 : t = 4
            · subst h4; simp
            · simp [h2, h3, h4])
end Go.Proofs.Ytgpclhjdfdojhaa

/- The reader. No condition. -/
namespace Go.Proofs.Ytgpclhjdfdojhaa
open Go Go.Av
set_option maxHeartbeats 4000000
set_option maxRecDepth 4000
theorem xor64 {S : Int} (h0 : 0 ≤ S) (h1 : S < 4611686018427387904) : 0 ≤ IntKind.i64.wrap ((((S % 2 ^ IntKind.i64.bits).toNat ^^^ (IntKind.i64.wrap (S.tdiv 64) % 2 ^ IntKind.i64.bits).toNat : Nat)) : Int) := by
  have e1 : 0 ≤ S.tdiv 64 := Int.tdiv_nonneg h0 (by omega)
  have e2 : S.tdiv 64 ≤ S := Int.tdiv_le_self _ h0
  have e3 : IntKind.i64.wrap (S.tdiv 64) = S.tdiv 64 := wrap64 (by omega) (by omega)
  have e4 : ∀ T : Int, 0 ≤ T → T < 4611686018427387904 → (T % 2 ^ IntKind.i64.bits).toNat < 2 ^ 62 := fun T k1 k2 => by
    have : T % 2 ^ IntKind.i64.bits = T := Int.emod_eq_of_lt k1 (by simp [IntKind.bits]; omega)
    rw [this]; omega
  rw [e3]
  have := Nat.xor_lt_two_pow (e4 S h0 h1) (e4 (S.tdiv 64) e1 (by omega))
  rw [wrap64 (by omega) (by omega)]
  omega
theorem pick_eq (l : List UInt8) (p n : Int) (h0 : 0 ≤ p) (h1 : p < 1000000000) (hl : l.length ≤ 2000) : ∃ v, callA C0 38 [.own 0 0, .int n] [Rd l p] = some (.int v, [Rd l (p + 1)]) ∧ (1 ≤ n → 0 ≤ v ∧ v < n) ∧ (n < 1 → v = 0) := by
  have hw : IntKind.i64.wrap (p + 1) = p + 1 := wrap64 (by omega) (by omega)
  have hw' : IntKind.i64.wrap p = p := wrap64 (by omega) (by omega)
  by_cases hn : n < 1
  · refine ⟨0, ?_, by omega, fun _ => rfl⟩
    rw [callA_eq rfl Try.func38 rfl rfl]
    simp [Rd, hw, hn]
  by_cases he : l = []
  · refine ⟨0, ?_, by omega, fun _ => rfl⟩
    rw [callA_eq rfl Try.func38 rfl rfl]
    subst he
    simp [Rd, hw, hn]
  have hlen : 0 < l.length := List.length_pos_iff.2 he
  have hn0 : n ≠ 0 := by omega
  have hn1 : (n != 0) = true := by simp [hn0]
  by_cases hk : p < l.length
  · obtain ⟨x, hx1, hx2⟩ := bytesI_get (l := l) (j := p.toNat) (by omega)
    have hwx : IntKind.i64.wrap (x : Int) = x := wrap64 (by omega) (by omega)
    refine ⟨(x : Int).tmod n, ?_, fun _ => ⟨Int.tmod_nonneg _ (by omega), Int.tmod_lt_of_pos _ (by omega)⟩, by omega⟩
    rw [callA_eq rfl Try.func38 rfl rfl]
    simp [Rd, hw, hw', hn, hk, he, h0, bytesI_length, hx2, hn1, hwx]
  · obtain ⟨x, hx1, hx2⟩ := bytesI_get (l := l) (j := (p.tmod l.length).toNat) (by have := Int.tmod_lt_of_pos p (b := l.length) (by omega); omega)
    obtain ⟨y, hy1, hy2⟩ := bytesI_get (l := l) (j := ((p * 7 + 3).tmod l.length).toNat) (by have := Int.tmod_lt_of_pos (p * 7 + 3) (b := l.length) (by omega); omega)
    have a1 : 0 ≤ p.tmod l.length := Int.tmod_nonneg _ h0
    have a2 : p.tmod l.length < l.length := Int.tmod_lt_of_pos _ (by omega)
    have a3 : 0 ≤ (p * 7 + 3).tmod l.length := Int.tmod_nonneg _ (by omega)
    have a4 : (p * 7 + 3).tmod l.length < l.length := Int.tmod_lt_of_pos _ (by omega)
    have w7 : IntKind.i64.wrap (p * 7) = p * 7 := wrap64 (by omega) (by omega)
    have w8 : IntKind.i64.wrap (p * 7 + 3) = p * 7 + 3 := wrap64 (by omega) (by omega)
    have hwx : IntKind.i64.wrap (x : Int) = x := wrap64 (by omega) (by omega)
    have hwy : IntKind.i64.wrap (y : Int) = y := wrap64 (by omega) (by omega)
    have hl1 : ((l.length : Int) != 0) = true := by simp [he]
    rw [callA_eq rfl Try.func38 rfl rfl]
    have d1 : 0 ≤ p.tdiv l.length := Int.tdiv_nonneg h0 (by omega)
    have d2 : p.tdiv l.length ≤ p := Int.tdiv_le_self _ h0
    have w1 : IntKind.i64.wrap ((x : Int) * 131) = x * 131 := wrap64 (by omega) (by omega)
    have w2 : IntKind.i64.wrap ((y : Int) * 1117) = y * 1117 := wrap64 (by omega) (by omega)
    have w3 : IntKind.i64.wrap (p * 29) = p * 29 := wrap64 (by omega) (by omega)
    have w4 : IntKind.i64.wrap (p.tdiv l.length) = p.tdiv l.length := wrap64 (by omega) (by omega)
    have w5 : IntKind.i64.wrap (p.tdiv l.length * 53) = p.tdiv l.length * 53 := wrap64 (by omega) (by omega)
    have w6 : IntKind.i64.wrap ((x : Int) * 131 + y * 1117) = x * 131 + y * 1117 := wrap64 (by omega) (by omega)
    have w9 : IntKind.i64.wrap ((x : Int) * 131 + y * 1117 + p * 29) = x * 131 + y * 1117 + p * 29 := wrap64 (by omega) (by omega)
    have wA : IntKind.i64.wrap ((x : Int) * 131 + y * 1117 + p * 29 + p.tdiv l.length * 53) = x * 131 + y * 1117 + p * 29 + p.tdiv l.length * 53 := wrap64 (by omega) (by omega)
    simp [Rd, hw, hw', hn, hk, he, bytesI_length, hx2, hy2, hn1, hwx, hwy, w7, w8, hl1, a1, a2, a3, a4, w1, w2, w3, w4, w5, w6, w9, wA]
    intro hn2
    have hx := xor64 (S := x * 131 + y * 1117 + p * 29 + p.tdiv l.length * 53) (by omega) (by omega)
    exact ⟨Int.tmod_nonneg _ hx, Int.tmod_lt_of_pos _ (by omega)⟩
end Go.Proofs.Ytgpclhjdfdojhaa

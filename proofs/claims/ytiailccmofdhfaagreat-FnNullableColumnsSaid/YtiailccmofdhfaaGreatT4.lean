/- Part 4 of what the proof rests on: the executor and what it is worth, and the program's functions as it runs them. No condition. -/
import Derived.Test.YtiailccmofdhfaaGreatT3
set_option linter.unusedVariables false
set_option linter.unusedSimpArgs false
namespace Go.Proofs.YtiailccmofdhfaaGreat
open Go Go.Av
set_option maxRecDepth 4000
def tS (v:Val):Int:=if v.null=true then 2 else if v.n=0 then 0 else 1
def ofTS (n:Int):Val:=if n=2 then⟨true,0⟩else⟨false,n⟩
def andTS (a b:Int):Int:=if a=0∨b=0 then 0 else if a=1∧b=1 then 1 else 2
def notTS (a:Int):Int:=if a=2 then 2 else 1-a
theorem tS_rng (v:Val):(tS v=0∧v.tr=0)∨(tS v=1∧v.tr=2)∨(tS v=2∧v.tr=1):=by
 unfold tS Val.tr
 cases v.null
 ·by_cases h:v.n=0<;>simp[h]
 ·simp
@[simp] theorem strut_eq (b:Bool) (n:Int):callA C0 187 [.i (.agg [.bool b, .int n])] []=some (.int (tS ⟨b,n⟩),[]):=by
  rw[callA_eq rfl Tryz.func187 rfl rfl]
  cases b
  ·by_cases h:n=0<;>simp[tS,h]
  ·simp[tS]
@[simp] theorem sofTruth_eq (n:Int):callA C0 188 [.int n] []=some (.i (.agg [.bool (ofTS n).null, .int (ofTS n).n]),[]):=by
  rw[callA_eq rfl Tryz.func188 rfl rfl]
  by_cases h:n=2<;>simp[ofTS,h]
@[simp] theorem sandTruth_eq (a b:Int):callA C0 214 [.int a, .int b] []=some (.int (andTS a b),[]):=by
  rw[callA_eq rfl Tryz.func214 rfl rfl]
  by_cases h1:a=0
  ·simp[andTS,h1]
  ·by_cases h2:b=0
   ·simp[andTS,h1,h2]
   ·by_cases h3:a=1
    ·by_cases h4:b=1<;>simp[andTS,h3,h4,h2]
    ·simp[andTS,h1,h2,h3]
theorem snotTruth_eq (a:Int) (h:0≤a∧a≤2):callA C0 189 [.int a] []=some (.int (notTS a),[]):=by
 rw[callA_eq rfl Tryz.func189 rfl rfl]
 have w:IntKind.i64.wrap (1-a)=1-a:=wrap64 (by omega) (by omega)
 by_cases h1:a=2<;>simp[notTS,h1,w]
@[simp] theorem stoInt_eq (b:Bool):callA C0 190 [.bool b] []=some (.int (if b=true then 1 else 0),[]):=by
  rw[callA_eq rfl Tryz.func190 rfl rfl]
  cases b<;>simp
@[simp] theorem snumber_eq (n:Int):callA C0 215 [.int n] []=some (.i (.agg [.bool (numV n).null, .int (numV n).n]),[]):=by
  rw[callA_eq rfl Tryz.func215 rfl rfl]
  by_cases h:-9999≤n∧n≤9999<;>simp[numV,h]
theorem and_cmb (a b:Val):ofTS (andTS (tS a) (tS b))=Val.cmb 8 a b:=by
 have e:Val.cmb 8 a b=trV (if b.tr<a.tr then b.tr else a.tr):=by simp[Val.cmb]
 rw[e]
 rcases tS_rng a with ⟨h1,h2⟩|⟨h1,h2⟩|⟨h1,h2⟩<;>rcases tS_rng b with ⟨h3,h4⟩|⟨h3,h4⟩|⟨h3,h4⟩<;>rw[h1,h2,h3,h4]<;>decide
theorem or_cmb (a b:Val):ofTS (notTS (andTS (notTS (tS a)) (notTS (tS b))))=Val.cmb 9 a b:=by
 have e:Val.cmb 9 a b=trV (if b.tr > a.tr then b.tr else a.tr):=by simp[Val.cmb]
 rw[e]
 rcases tS_rng a with ⟨h1,h2⟩|⟨h1,h2⟩|⟨h1,h2⟩<;>rcases tS_rng b with ⟨h3,h4⟩|⟨h3,h4⟩|⟨h3,h4⟩<;>rw[h1,h2,h3,h4]<;>decide
theorem not_ev (a:Val):ofTS (notTS (tS a))=trV (2-a.tr):=by
 rcases tS_rng a with ⟨h1,h2⟩|⟨h1,h2⟩|⟨h1,h2⟩<;>rw[h1,h2]<;>decide
theorem tS_b (v:Val):0≤tS v∧tS v≤2:=by rcases tS_rng v with h|h|h<;>omega
theorem andTS_rng (a b:Int):0≤andTS a b∧andTS a b≤2:=by
 unfold andTS
 split
 ·omega
 ·split<;>omega
theorem scombine_eq (k:Int) (a b:Val) (ha:a.ok=true) (hb:b.ok=true):callA C0 191 [.int k, .i (.agg [.bool a.null, .int a.n]), .i (.agg [.bool b.null, .int b.n])] []=some (.i (.agg [.bool (Val.cmb k a b).null, .int (Val.cmb k a b).n]),[]):=by
 have n1:=snotTruth_eq (tS a) (tS_b a)
 have n2:=snotTruth_eq (tS b) (tS_b b)
 have n3:=snotTruth_eq (andTS (notTS (tS a)) (notTS (tS b))) (andTS_rng _ _)
 have e8:=and_cmb a b
 have e9:=or_cmb a b
 rw[callA_eq rfl Tryz.func191 rfl rfl]
 obtain⟨an,a⟩:=a
 obtain⟨bn,b⟩:=b
 have ba:-9999≤a∧a≤9999:=by cases an<;>simp[Val.ok]at ha<;>omega
 have bb:-9999≤b∧b≤9999:=by cases bn<;>simp[Val.ok]at hb<;>omega
 have w1:IntKind.i64.wrap (a+b)=a+b:=wrap64 (by omega) (by omega)
 have w2:IntKind.i64.wrap (a-b)=a-b:=wrap64 (by omega) (by omega)
 have w3:IntKind.i64.wrap (a*b)=a*b:=by
  have h1:a*b≤9999*9999:=by
   have:=Int.mul_le_mul_of_natAbs_le (x:=a) (y:=b) (s:=9999) (t:=9999) (by omega) (by omega)
   omega
  have h2:-(9999*9999)≤a*b:=by
   have:=Int.mul_le_mul_of_natAbs_le (x:=-a) (y:=b) (s:=9999) (t:=9999) (by omega) (by omega)
   rw[Int.neg_mul]at this
   omega
  exact wrap64 (by omega) (by omega)
 by_cases k8:k=8
 ·subst k8;rw[← e8];simp
 by_cases k9:k=9
 ·subst k9;rw[← e9];simp[n1,n2,n3]
 cases an
 ·cases bn
  ·by_cases k3:k=3
   ·simp[Val.cmb,k3,w1]
   by_cases k4:k=4
   ·simp[Val.cmb,k4,w2]
   by_cases k5:k=5
   ·simp[Val.cmb,k5,w3]
   by_cases k6:k=6
   ·simp[Val.cmb,k6,flagV]
   ·simp[Val.cmb,k8,k9,k3,k4,k5,k6,flagV]
  ·simp[Val.cmb,k8,k9]
 ·simp[Val.cmb,k8,k9]
theorem sval_col {e:Ex} {row:List Val} {v:Val} (hk:e.kind=1) (h0:0≤e.col) (hv:row[e.col.toNat]?=some v) :
 callA C0 158 [.i (.agg e.cells), .i (.isl (valsL row))] []=some (.i (.agg [.bool v.null, .int v.n]),[]):=by
 rw[callA_eq rfl Tryz.func158 rfl rfl,Ex.cells_eq]
 have r1:=(List.getElem?_eq_some_iff.1 hv).1
 simp[hk,h0,valsL_nth hv,show e.col<row.length by omega]
theorem sval_const {e:Ex} {row:List Val} (hk:e.kind=2) :
 callA C0 158 [.i (.agg e.cells), .i (.isl (valsL row))] []=some (.i (.agg [.bool e.val.null, .int e.val.n]),[]):=by
 rw[callA_eq rfl Tryz.func158 rfl rfl,Ex.cells_eq]
 simp[hk]
theorem sval_one {e a:Ex} {va:Val} {row:List Val} (hk:e.kind=10∨e.kind=11) (hks:e.kids=[a]) (ha:callA C0 158 [.i (.agg a.cells), .i (.isl (valsL row))] []=some (.i (.agg [.bool va.null, .int va.n]),[])) :
 callA C0 158 [.i (.agg e.cells), .i (.isl (valsL row))] []=some (.i (.agg [.bool (evN row e.kind e.col e.val [va]).null, .int (evN row e.kind e.col e.val [va]).n]),[]):=by
 have n1:=snotTruth_eq (tS va) (tS_b va)
 have e1:=not_ev va
 rw[callA_eq rfl Tryz.func158 rfl rfl,Ex.cells_eq,hks]
 rw[Ex.cells_eq a]at ha
 rcases hk with hk|hk
 ·simp[hk,Ex.cellsL,ha,n1,evN,Ex.cells_eq a,← e1]
 ·simp[hk,Ex.cellsL,ha,evN,Ex.cells_eq a,flagV]
theorem sval_two {e a b:Ex} {va vb:Val} {row:List Val} (h1:e.kind≠1) (h2:e.kind≠2) (h3:e.kind≠10) (h4:e.kind≠11) (hks:e.kids=[a,b]) (oa:va.ok=true) (ob:vb.ok=true) (ha:callA C0 158 [.i (.agg a.cells), .i (.isl (valsL row))] []=some (.i (.agg [.bool va.null, .int va.n]),[]))
 (hb:callA C0 158 [.i (.agg b.cells), .i (.isl (valsL row))] []=some (.i (.agg [.bool vb.null, .int vb.n]),[])) :
 callA C0 158 [.i (.agg e.cells), .i (.isl (valsL row))] []=some (.i (.agg [.bool (evN row e.kind e.col e.val [va,vb]).null, .int (evN row e.kind e.col e.val [va,vb]).n]),[]):=by
 have hc:=scombine_eq e.kind va vb oa ob
 rw[callA_eq rfl Tryz.func158 rfl rfl,Ex.cells_eq,hks]
 rw[Ex.cells_eq a]at ha
 rw[Ex.cells_eq b]at hb
 simp[h1,h2,h3,h4,Ex.cellsL,ha,hb,hc,evN,Ex.cells_eq a,Ex.cells_eq b]
theorem sevalExpr_eq {m:Int} (row:List Val) (hm:m=row.length) (hr:row.all Val.ok=true):∀ (e:Ex),e.wf m=true→callA C0 158 [.i (.agg e.cells), .i (.isl (valsL row))] []=some (.i (.agg [.bool (e.ev row).null, .int (e.ev row).n]),[]):=by
 intro e
 induction e using Ex.ind with
 | h k c v ks ih =>
  intro h
  rcases kindCases h with ⟨k1,ck⟩|⟨k1,ck⟩|⟨k1,a,ck⟩|⟨k1,k2,k3,k4,a,b,ck⟩
  ·obtain⟨h0,h1,_⟩:=Ex.wf_col h k1
   have hi:c.toNat<row.length:=by simp[Ex.col]at h0 h1;omega
   have hb:=List.getElem?_eq_getElem hi
   have:=sval_col (e:=.mk k c v ks) (row:=row) k1 h0 hb
   rw[this]
   simp[Ex.kind]at k1
   simp[Ex.ev,evN,k1,hb]
  ·rw[sval_const k1]
   simp[Ex.kind]at k1
   simp[Ex.ev,evN,k1,Ex.val]
  ·have ck':ks=[a]:=ck
   subst ck'
   have ha:=ih a (by simp) (Ex.wf_kids h (by simp[Ex.kids]))
   rw[sval_one k1 rfl ha]
   simp[Ex.ev,Ex.evL,Ex.kind,Ex.col,Ex.val]
  ·have ck':ks=[a,b]:=ck
   subst ck'
   have wa:=Ex.wf_kids h (show a∈(Ex.mk k c v [a,b]).kids by simp[Ex.kids])
   have wb:=Ex.wf_kids h (show b∈(Ex.mk k c v [a,b]).kids by simp[Ex.kids])
   have ha:=ih a (by simp) wa
   have hb:=ih b (by simp) wb
   rw[sval_two k1 k2 k3 k4 rfl (ev_ok row hm hr a wa) (ev_ok row hm hr b wb) ha hb]
   simp[Ex.ev,Ex.evL,Ex.kind,Ex.col,Ex.val]
theorem tS_isT (e:Ex) (row:List Val):decide (tS (e.ev row)=1)=isT e row:=by
 unfold isT
 rcases tS_rng (e.ev row)with ⟨h1,h2⟩|⟨h1,h2⟩|⟨h1,h2⟩<;>simp[h1,h2]
theorem sholds_eq {m:Int} (row:List Val) (hm:m=row.length) (hr:row.all Val.ok=true) (e:Ex) (h:e.wf m=true):callA C0 157 [.i (.agg e.cells), .i (.isl (valsL row))] []=some (.bool (isT e row),[]):=by
 have h1:=sevalExpr_eq row hm hr e h
 rw[callA_eq rfl Tryz.func157 rfl rfl]
 rw[Ex.cells_eq]at h1 ⊢
 rw[← tS_isT]
 simp[h1]
 rfl
theorem scompareValues_eq (a b:Val) (ha:a.ok=true) (hb:b.ok=true):callA C0 186 [.i (.agg [.bool a.null, .int a.n]), .i (.agg [.bool b.null, .int b.n])] []=some (.int (Val.cmp a b),[]):=by
 rw[callA_eq rfl Tryz.func186 rfl rfl]
 obtain⟨an,a⟩:=a
 obtain⟨bn,b⟩:=b
 cases an<;>cases bn<;>simp[Val.ok]at ha hb
 ·by_cases h1:a=b
  ·subst h1;simp[Val.cmp]
  ·by_cases h2:a<b
   ·simp[Val.cmp,h1,h2]
   ·have:b<a:=by omega
    simp[Val.cmp,h1,h2,this]
 ·subst hb;by_cases h1:a=0<;>simp[Val.cmp,h1]
 ·subst ha;simp[Val.cmp]
 ·subst ha;subst hb;simp[Val.cmp]
end Go.Proofs.YtiailccmofdhfaaGreat
namespace Go.Av
abbrev LeK (cs:List Int) (a b:List Val):Prop:=rowLe (pickV cs a) (pickV cs b)=true
abbrev SrtK (cs:List Int) (l:List (List Val)):Prop:=l.Pairwise (LeK cs)
theorem LeK.refl (cs:List Int) (a:List Val):LeK cs a a:=rowLe_refl _
theorem LeK.trans {cs:List Int} {a b c:List Val} (h1:LeK cs a b) (h2:LeK cs b c):LeK cs a c:=rowLe_trans h1 h2
theorem srtK_map {cs:List Int} {l:List (List Val)} (h:SrtK cs l):(l.map (pickV cs)).Pairwise (fun a b=>rowLe a b=true):=List.pairwise_map.2 h
def swp {α:Type} (l:List α) (i j:Nat) (x y:α):List α:=(l.set i y).set j x
theorem set_mid {α:Type} (P:List α) (a b:α) (S:List α) {i:Nat} (hi:i=P.length):(P++a::S).set i b=P++b::S:=by
 subst hi;rw[List.set_append_right _ _ (Nat.le_refl _),Nat.sub_self];rfl
theorem swp_mid {α:Type} (P M S:List α) (a b:α) {i j:Nat} (hi:i=P.length) (hj:j=P.length+1+M.length):swp (P++a::(M++b::S)) i j a b=P++b::(M++a::S):=by
 unfold swp
 rw[set_mid P a b _ hi]
 have:P++b::(M++b::S)=(P++b::M)++b::S:=by simp
 rw[this,set_mid _ b a S (by simp;omega)];simp
theorem nth_mid {α:Type} (P:List α) (a:α) (S:List α) {i:Nat} (hi:i=P.length):(P++a::S)[i]?=some a:=by
 subst hi;rw[List.getElem?_append_right (Nat.le_refl _),Nat.sub_self];rfl
theorem rowsL_set (l:List (List Val)) (i:Nat) (r:List Val):(rowsL l).set i [.isl (valsL r)]=rowsL (l.set i r):=by
 unfold rowsL;rw[List.map_set]
theorem halves_le {cs:List Int} {u1 u2 v1 v2:List (List Val)} (hu:SrtK cs (u1++u2)) (hv:SrtK cs (v1++v2))
 (h1:u1=[]∨v2=[]∨∃ x y,u1.getLast?=some x∧v2.head?=some y∧LeK cs x y) (h2:v1=[]∨u2=[]∨∃ x y,v1.getLast?=some x∧u2.head?=some y∧LeK cs x y) :
 ∀ x∈u1++v1,∀ y∈u2++v2,LeK cs x y:=by
 have last:∀ {u:List (List Val)} {x z},SrtK cs u→u.getLast?=some z→x∈u→LeK cs x z:=by
  intro u x z hs hz hx
  have hd:u=u.dropLast++[z]:=by
   have hne:u≠[]:=fun e=>by subst e;simp at hz
   have h3:=List.dropLast_concat_getLast hne
   rw[List.getLast?_eq_some_getLast hne]at hz
   injection hz with hz
   rw[hz]at h3;exact h3.symm
  rw[hd]at hs hx
  rw[SrtK,List.pairwise_append]at hs
  rcases List.mem_append.1 hx with hx|hx
  ·exact hs.2.2 x hx z (by simp)
  ·simp at hx;subst hx;exact .refl _ _
 have first:∀ {u:List (List Val)} {y z},SrtK cs u→u.head?=some z→y∈u→LeK cs z y:=by
  intro u y z hs hz hy
  cases u with
  | nil=>simp at hz
  | cons a u =>
   simp at hz;subst hz
   rcases List.mem_cons.1 hy with rfl|hy
   ·exact .refl _ _
   ·exact(List.pairwise_cons.1 hs).1 y hy
 have hu':=List.pairwise_append.1 hu
 have hv':=List.pairwise_append.1 hv
 intro x hx y hy
 rcases List.mem_append.1 hx with hx|hx<;>rcases List.mem_append.1 hy with hy|hy
 ·exact hu'.2.2 x hx y hy
 ·rcases h1 with rfl|rfl|⟨a,b,ha,hb,hab⟩
  ·simp at hx
  ·simp at hy
  ·exact((last hu'.1 ha hx).trans hab).trans (first hv'.2.1 hb hy)
 ·rcases h2 with rfl|rfl|⟨a,b,ha,hb,hab⟩
  ·simp at hx
  ·simp at hy
  ·exact((last hv'.1 ha hx).trans hab).trans (first hu'.2.1 hb hy)
 ·exact hv'.2.2 x hx y hy
theorem srtK_append {cs:List Int} {l m:List (List Val)} (h1:SrtK cs l) (h2:SrtK cs m) (h:∀ x∈l,∀ y∈m,LeK cs x y):SrtK cs (l++m) :=
 List.pairwise_append.2 ⟨h1,h2,h⟩
theorem leK_of_not {cs:List Int} {a b:List Val} (h:¬ rowCmp (pickV cs b) (pickV cs a)<0):LeK cs a b:=by
 have:=rowCmp_neg (pickV cs b) (pickV cs a)
 unfold LeK rowLe;simp;omega
theorem leK_of_lt {cs:List Int} {a b:List Val} (h:rowCmp (pickV cs a) (pickV cs b)<0):LeK cs a b:=by
 unfold LeK rowLe;simp;omega
theorem ins_srtK {cs:List Int} {A B:List (List Val)} {x:List Val} (h:SrtK cs (A++B)) (h1:A=[]∨∃ y,A.getLast?=some y∧LeK cs y x) (h2:B=[]∨∃ y,B.head?=some y∧LeK cs x y):SrtK cs (A++x::B):=by
 have h':=List.pairwise_append.1 h
 have hx:SrtK cs ([x]++([]:List (List Val))):=by simp[SrtK]
 have k:=halves_le (u1:=A) (u2:=B) (v1:=[x]) (v2:=[]) h (by simp) (.inr (.inl rfl)) (by
  rcases h2 with h2|⟨y,h2,h3⟩
  ·exact .inr (.inl h2)
  ·exact .inr (.inr ⟨x,y,rfl,h2,h3⟩))
 have k2:=halves_le (u1:=A) (u2:=B) (v1:=[]) (v2:=[x]) h (by simp) (by
  rcases h1 with h1|⟨y,h1,h3⟩
  ·exact .inl h1
  ·exact .inr (.inr ⟨y,x,h1,rfl,h3⟩)) (.inl rfl)
 rw[SrtK,List.pairwise_append,List.pairwise_cons]
 refine⟨h'.1,⟨fun b hb=>k x (by simp) b (by simp[hb]),h'.2.1⟩,fun a ha b hb=>?_⟩
 rcases List.mem_cons.1 hb with rfl|hb
 ·exact k2 a (by simp[ha]) b (by simp)
 ·exact h'.2.2 a ha b hb
theorem loop_wf {C:Ctx} {G:List Nat} {na:Nat} {b:Code} {Q:AExit×AS→Prop} (I:Nat→AS→Prop) (hs:∀ k S,I k S→(∃ S1 k',execA C G na b S=some (.normal,S1)∧k'<k∧I k' S1)∨(∃ e T,execA C G na b S=some (e,T)∧e≠.normal∧Q (e,T))) :
 ∀ k S,I k S→∃ r,execA C G na (.loop b) S=some r∧Q r:=by
 intro k
 induction k using Nat.strongRecOn with
 | ind k ih =>
  intro S h
  rcases hs k S h with ⟨S1,k',h1,h2,h3⟩|⟨e,T,h1,h2,h3⟩
  ·obtain⟨r,h4,h5⟩:=ih k' h2 S1 h3
   exact⟨r,loop_once h1 h4,h5⟩
  ·exact⟨_,loop_last h1 h2,h3⟩
end Go.Av
namespace Go.Proofs.YtiailccmofdhfaaGreat
open Go Go.Av
set_option maxRecDepth 4000
set_option maxHeartbeats 2000000
@[simp] theorem isNaN_eq (n:Int):callA C0 202 [.int n] []=some (.bool false,[]):=by
  rw[callA_eq rfl Tryz.func202 rfl rfl]
  simp
theorem cmpCompare_eq (a b:Int):callA C0 164 [.int a, .int b] []=some (.int (if a<b then -1 else if b<a then 1 else 0),[]):=by
 rw[callA_eq rfl Tryz.func164 rfl rfl]
 by_cases h1:a<b
 ·simp[h1]
 ·by_cases h2:b<a<;>simp[h1,h2]
theorem vcompare_eq (a b:Val):callA C0 116 [.i (.agg [.bool a.null, .int a.n]), .i (.agg [.bool b.null, .int b.n])] []=some (.int (Val.cmp a b),[]):=by
 have h:=cmpCompare_eq a.n b.n
 rw[callA_eq rfl Tryz.func116 rfl rfl]
 obtain⟨an,a⟩:=a
 obtain⟨bn,b⟩:=b
 cases an<;>cases bn<;>simp[Val.cmp,h]
theorem rowCmp_first:∀ a b:List Val,∃ j,(∀ i,i<j→∃ x y,a[i]?=some x∧b[i]?=some y∧Val.cmp x y=0)∧((a.length=j∧b.length=j∧rowCmp a b=0)∨(a.length=j∧j<b.length∧rowCmp a b=-1)∨(j<a.length∧b.length=j∧rowCmp a b=1)∨(∃ x y,a[j]?=some x∧b[j]?=some y∧Val.cmp x y≠0∧rowCmp a b=Val.cmp x y))
 | [],[]=>⟨0,by omega, .inl ⟨rfl,rfl,rfl⟩⟩
 | [],_::_=>⟨0,by omega, .inr (.inl ⟨rfl,by simp,rfl⟩)⟩
 | _::_,[]=>⟨0,by omega, .inr (.inr (.inl ⟨by simp,rfl,rfl⟩))⟩
 | x::a,y::b=>by
  by_cases h:Val.cmp x y=0
  ·obtain⟨j,h1,h2⟩:=rowCmp_first a b
   refine⟨j+1,?_,?_⟩
   ·intro i hi
    cases i with
    | zero=>exact⟨x,y,rfl,rfl,h⟩
    | succ i=>exact h1 i (by omega)
   ·simp only[rowCmp,h,if_true,List.length_cons,List.getElem?_cons_succ]
    rcases h2 with ⟨e1,e2,e3⟩|⟨e1,e2,e3⟩|⟨e1,e2,e3⟩|h2
    ·exact .inl ⟨by omega,by omega,e3⟩
    ·exact .inr (.inl ⟨by omega,by omega,e3⟩)
    ·exact .inr (.inr (.inl ⟨by omega,by omega,e3⟩))
    ·exact .inr (.inr (.inr h2))
  ·exact⟨0,by omega, .inr (.inr (.inr ⟨x,y,rfl,rfl,h,by simp[rowCmp,h]⟩))⟩
def vBox (l:List Val) (i:Nat):Option Blk:=some (.box [.bool ((l[i-1]?).getD Val.zero).null, .int ((l[i-1]?).getD Val.zero).n])
def CFX (a b:List Val) (i:Nat):AS :=
 { env:=[(0, .i (.isl (valsL a))),(1, .i (.isl (valsL b))),(2, .fn (.func 116) []),(6, .int 0),(7,jk i (.int ((i:Int)-1))),(8,if i=0 then .junk else .own 0 0),(9,if i=0 then .junk else .own 1 0),(10,jk i (.int 0)),(11, .i (.isl (valsL a))),(12, .int a.length),(13, .int i),(14,jk i (.bool true)),(21,jk i (.bool false)),(31,jk i (.bool false)),(38, .junk)],
   st:=if i=0 then []else [vBox a i,vBox b i] }
theorem CompareFunc_eq (a b:List Val) (ha:a.length<1000000) (hb:b.length<1000000):callA C0 115 [.i (.isl (valsL a)), .i (.isl (valsL b)), .fn (.func 116) []] []=some (.int (rowCmp a b),[]):=by
 rw[callA_eq rfl Tryz.func115 rfl rfl]
 obtain⟨j,h1,h2⟩:=rowCmp_first a b
 simp
 rw[loop_to (CFX a b) j (by simp[CFX])]
 ·rw[execA_loop]
  rcases h2 with ⟨e1,e2,e3⟩|⟨e1,e2,e3⟩|⟨e1,e2,e3⟩|⟨x,y,e1,e2,e3,e4⟩
  ·by_cases h0:j=0
   ·subst h0;simp[CFX,e1,e2,e3]
   ·simp[CFX,vBox,h0,e1,e2,e3]
  ·by_cases h0:j=0
   ·subst h0;simp[CFX,e1,e2,e3]
   ·simp[CFX,vBox,h0,e1,e2,e3]
  ·obtain⟨x,hx⟩:∃ x,a[j]?=some x:=⟨_,List.getElem?_eq_getElem e1⟩
   have r1:=valsL_nth hx
   have w1:=wrap_1
   by_cases h0:j=0
   ·subst h0;simp[CFX,e1,e2,e3,r1]
   ·simp[CFX,vBox,h0,e1,e2,e3,r1]
  ·have r1:=valsL_nth e1
   have r2:=valsL_nth e2
   have l1:=(List.getElem?_eq_some_iff.1 e1).1
   have l2:=(List.getElem?_eq_some_iff.1 e2).1
   have hc:=vcompare_eq x y
   have hz:¬ (b.length:Int)≤j:=by omega
   have hz':¬ b.length≤j:=by omega
   by_cases h0:j=0
   ·subst h0;simp at hz;simp[CFX,e3,e4,r1,r2,l1,l2,hc,hz]
   ·simp[CFX,vBox,h0,e3,e4,r1,r2,l1,l2,hc,hz,hz']
 ·intro i hi
  obtain⟨x,y,e1,e2,e3⟩:=h1 i hi
  have r1:=valsL_nth e1
  have r2:=valsL_nth e2
  obtain⟨l1,g1⟩:=List.getElem?_eq_some_iff.1 e1
  obtain⟨l2,g2⟩:=List.getElem?_eq_some_iff.1 e2
  have hc:=vcompare_eq x y
  have hz:¬ (b.length:Int)≤i:=by omega
  have hz':¬ b.length≤i:=by omega
  have w2:IntKind.i64.wrap ((i:Int)+1)=i+1:=wrap64 (by omega) (by omega)
  by_cases h0:i=0
  ·subst h0;simp at hz;simp[CFX,vBox,e1,e2,e3,r1,r2,l1,l2,hc,hz,wrap_1,g1,g2]
  ·simp[CFX,vBox,h0,e1,e2,e3,r1,r2,l1,l2,hc,hz,hz',w2,g1,g2]
theorem compareRows_eq (a b:List Val) (ha:a.length<1000000) (hb:b.length<1000000):callA C0 68 [.i (.isl (valsL a)), .i (.isl (valsL b))] []=some (.int (rowCmp a b),[]):=by
 have h:=CompareFunc_eq a b ha hb
 rw[callA_eq rfl Tryz.func68 rfl rfl]
 simp[h]
def SCX (a b:List Val) (i:Nat):AS :=
 { env:=[(0, .i (.isl (valsL a))),(1, .i (.isl (valsL b))),(4, .int 0),(5, .int i),(6,jk i (.int 0)),(16,jk i (.bool true)),(29,jk i (.bool false))],st:=[] }
theorem scompareRows_eq (a b:List Val) (hl:a.length=b.length) (ha:a.length<1000000) (oa:a.all Val.ok=true) (ob:b.all Val.ok=true):callA C0 156 [.i (.isl (valsL a)), .i (.isl (valsL b))] []=some (.int (rowCmp a b),[]):=by
 rw[callA_eq rfl Tryz.func156 rfl rfl]
 obtain⟨j,h1,h2⟩:=rowCmp_first a b
 have hoa:=List.all_eq_true.1 oa
 have hob:=List.all_eq_true.1 ob
 have w0:=wrap_0
 simp
 rw[loop_to (SCX a b) j (by simp[SCX])]
 ·rw[execA_loop]
  rcases h2 with ⟨e1,e2,e3⟩|⟨e1,e2,e3⟩|⟨e1,e2,e3⟩|⟨x,y,e1,e2,e3,e4⟩
  ·simp[SCX,e1,e2,e3,w0]
  ·omega
  ·omega
  ·have r1:=valsL_nth e1
   have r2:=valsL_nth e2
   have l1:=(List.getElem?_eq_some_iff.1 e1).1
   have l2:=(List.getElem?_eq_some_iff.1 e2).1
   have hc:=scompareValues_eq x y (hoa _ (List.mem_of_getElem? e1)) (hob _ (List.mem_of_getElem? e2))
   simp[SCX,e3,e4,r1,r2,l1,l2,hc]
 ·intro i hi
  obtain⟨x,y,e1,e2,e3⟩:=h1 i hi
  have r1:=valsL_nth e1
  have r2:=valsL_nth e2
  obtain⟨l1,g1⟩:=List.getElem?_eq_some_iff.1 e1
  obtain⟨l2,g2⟩:=List.getElem?_eq_some_iff.1 e2
  have hc:=scompareValues_eq x y (hoa _ (List.mem_of_getElem? e1)) (hob _ (List.mem_of_getElem? e2))
  have w2:IntKind.i64.wrap ((i:Int)+1)=i+1:=wrap64 (by omega) (by omega)
  simp[SCX,e3,r1,r2,l1,l2,hc,w2]
def SVX (a:List Val) (i:Nat):AS :=
 { env:=[(0, .i (.isl (valsL a))),(2, .bool false),(3, .int i),(7,jk i (.bool true)),(15,jk i (.bool false))],st:=[] }
theorem svalidRow_eq (a:List Val) (ha:a.length<1000000):callA C0 155 [.i (.isl (valsL a))] []=some (.bool (okRow a),[]):=by
 rw[callA_eq rfl Tryz.func155 rfl rfl]
 obtain⟨j,h1,h2⟩:=upto_bad Val.ok a
 simp
 rw[loop_to (SVX a) j (by simp[SVX])]
 ·rw[execA_loop]
  rcases h2 with ⟨hj,ha⟩|⟨v,h3,h4,h5,ha⟩
  ·simp[SVX,hj,ha,okRow,okWidth]
  ·have r1:=(List.getElem?_eq_some_iff.1 h3).1
   have r2:=valsL_nth h3
   have r3:Val.ok ⟨v.null,v.n⟩=false:=h5
   simp[SVX,r1,r2,r3,ha,okRow]
 ·intro i hi
  obtain⟨v,h3,h4,h5⟩:=h1 i hi
  have r1:=(List.getElem?_eq_some_iff.1 h3).1
  have r2:=valsL_nth h3
  have r3:Val.ok ⟨v.null,v.n⟩=true:=h5
  have w2:IntKind.i64.wrap ((i:Int)+1)=i+1:=wrap64 (by omega) (by omega)
  simp[SVX,r1,r2,r3,w2]
theorem copyRow_eq (a:List Val) (ha:a.length<1000000) (hn:a≠[]):callA C0 145 [.i (.isl (valsL a))] []=some (.osl 0 2 0 a.length,[some (.arr 2 (valsL a))]):=by
 rw[callA_eq rfl Tryz.func145 rfl rfl]
 have hb:a.length*16≤140737488355328:=by omega
 simp[hn,hb]
theorem insR_at {l:List (List Val)} {r:List Val}:∀ (k:Nat),k≤l.length→(∀ i x,i<k→l[i]?=some x→rowLe x r=true)→(∀ x,l[k]?=some x→rowLe x r=false)→insR l r=l.take k++r::l.drop k:=by
 intro k hk h1 h2
 unfold insR
 suffices H:l.takeWhile (fun x=>rowLe x r)=l.take k∧l.dropWhile (fun x=>rowLe x r)=l.drop k by rw[H.1,H.2]
 induction k generalizing l with
 | zero =>
  cases l with
  | nil=>simp
  | cons a l=>have:=h2 a rfl;simp[this]
 | succ k ih =>
  cases l with
  | nil=>simp at hk
  | cons a l =>
   have ha:=h1 0 a (by omega) rfl
   obtain⟨i1,i2⟩:=ih (l:=l) (by simpa using hk) (fun i x hi hx=>h1 (i+1) x (by omega) (by simpa using hx)) (fun x hx=>h2 x (by simpa using hx))
   simp[ha,i1,i2]
def ISX (l:List (List Val)) (r:List Val) (n lo hi:Nat) (m:Int) (c:Bool) (g:AV):AS :=
 { env:=[(0, .i (.isl (rowsL l))),(1, .i (.isl (valsL r))),(4, .nils),(5, .int lo),(6, .int hi),(7,jk n (.int m)),(8, .junk),(13,g),(24,jk n (.bool c))],st:=[] }
theorem srt_idx {l:List (List Val)} (hs:Srt l) {i j:Nat} {x y:List Val} (hi:l[i]?=some x) (hj:l[j]?=some y) (h:i≤j):rowLe x y=true:=by
 obtain⟨h1,rfl⟩:=List.getElem?_eq_some_iff.1 hi
 obtain⟨h2,rfl⟩:=List.getElem?_eq_some_iff.1 hj
 by_cases e:i=j
 ·subst e;exact rowLe_refl _
 ·exact List.pairwise_iff_getElem.1 hs i j h1 h2 (by omega)
theorem insertRow_eq (l:List (List Val)) (r:List Val) (hl:l.length<1000000) (hr:r.all Val.ok=true) (hrl:r.length<1000000) (hr0:r≠[]) (hrows:∀ x∈l,x.all Val.ok=true∧x.length=r.length) (hs:Srt l):callA C0 129 [.i (.isl (rowsL l)), .i (.isl (valsL r))] []=some (.osl 0 1 0 (l.length+1),[some (.arr 1 (rowsL (insR l r)))]):=by
 rw[callA_eq rfl Tryz.func129 rfl rfl]
 simp
 generalize hX:execA C0 _ _ (Code.loop _) _=X
 have key:∃ rr,X=some rr∧∃ (n k:Nat) (m:Int) (c:Bool),rr=(.exit 0,ISX l r n k k m c (.bool false))∧k≤l.length∧(∀ i x,i<k→l[i]?=some x→rowLe x r=true)∧(∀ x,l[k]?=some x→rowLe x r=false):=by
  rw[← hX]
  refine loop_wf (fun d S=>∃ (n lo hi:Nat) (m:Int) (c:Bool),S=ISX l r n lo hi m c (jk n (.bool true))∧lo≤hi∧hi≤l.length∧d=hi-lo∧(∀ i x,i<lo→l[i]?=some x→rowLe x r=true)∧(∀ x,hi<l.length→l[hi]?=some x→rowLe x r=false)) ?_ l.length _ ⟨0,0,l.length,0,true,by simp[ISX],by omega,by omega,by omega,by omega,by omega⟩
  rintro d S ⟨n,lo,hi,m,c,rfl,a1,a2,a3,a4,a5⟩
  by_cases hlt:lo<hi
  ·left
   obtain⟨x,hx⟩:∃ x,l[(lo+hi) / 2]?=some x:=⟨_,List.getElem?_eq_getElem (by omega)⟩
   have hxm:=hrows x (List.mem_of_getElem? hx)
   have r1:=rowsL_nth hx
   have hc:=scompareRows_eq x r hxm.2 (by omega) hxm.1 hr
   have w1:IntKind.i64.wrap ((lo:Int)+hi)=lo+hi:=wrap64 (by omega) (by omega)
   have w2:IntKind.i64.wrap (((lo:Int)+hi).tdiv 2)=(((lo+hi) / 2:Nat):Int):=by
    have e:((lo:Int)+hi).tdiv 2=(((lo+hi) / 2:Nat):Int):=by
     rw[Int.tdiv_eq_ediv_of_nonneg (by omega)];omega
    rw[e];exact wrap64 (by omega) (by omega)
   have w3:IntKind.i64.wrap ((((lo+hi) / 2:Nat):Int)+1)=(((lo+hi) / 2+1:Nat):Int):=by rw[wrap64 (by omega) (by omega)];omega
   have hmid:(lo+hi) / 2<l.length:=by omega
   have hlo:lo≤(lo+hi) / 2:=by omega
   have hhi:(lo+hi) / 2<hi:=by omega
   generalize (lo+hi) / 2=mid at *
   by_cases hle:rowCmp x r≤0
   ·refine⟨ISX l r 1 (mid+1) hi mid true (.bool true),hi-(mid+1),?_,by omega,1,mid+1,hi,mid,true,rfl,by omega,a2,rfl,fun i y hi' hy=>?_,a5⟩
    ·simp[ISX,hlt,w1,w2,w3,hmid,r1,hc,hle]
    ·exact rowLe_trans (srt_idx hs hy hx (by omega)) (by unfold rowLe;simpa using hle)
   ·refine⟨ISX l r 1 lo mid mid false (.bool true),mid-lo,?_,by omega,1,lo,mid,mid,false,rfl,by omega,by omega,rfl,a4,fun y _ hy=>?_⟩
    ·simp[ISX,hlt,w1,w2,w3,hmid,r1,hc,hle]
    ·rw[hx]at hy;injection hy with hy;subst hy;unfold rowLe;simpa using hle
  ·right
   obtain rfl:lo=hi:=by omega
   refine⟨.exit 0,ISX l r n lo lo m c (.bool false),?_,by simp,n,lo,m,c,rfl,a2,a4,fun x hx=>a5 x (List.getElem?_eq_some_iff.1 hx).1 hx⟩
   simp[ISX]
 obtain⟨rr,rfl,n,k,m,c,rfl,k1,k2,k3⟩:=key
 have hcp:=copyRow_eq r hrl hr0
 have hb1:k*24≤140737488355328:=by omega
 have hb2:(k+1)*24≤140737488355328:=by omega
 have hb3:(k+1+(l.length-k))*24≤140737488355328:=by omega
 have hkl:(k:Int)≤l.length:=by omega
 have hmin:min k l.length=k:=by omega
 have hT:(l.take k).length=k:=by simp;omega
 rw[insR_at k k1 k2 k3]
 have e1:(l.take k).take k=l.take k:=by rw[List.take_take,Nat.min_self]
 have e2:List.take (k+1) (rowsL (l.take k)++[[.isl (valsL r)]])=rowsL (l.take k)++[[.isl (valsL r)]]:=List.take_of_length_le (by simp;omega)
 have e3:List.take (l.length-k) (l.drop k)=l.drop k:=List.take_of_length_le (by simp)
 have e4:k+1+(l.length-k)=l.length+1:=by omega
 have hb4:(l.length+1)*24≤140737488355328:=by omega
 simp[ISX,hcp,hkl,k1,hmin,hb1,hb2,hb3,rowsL_append,rowsL_cons,e1,e2,e3,e4,hb4]
end Go.Proofs.YtiailccmofdhfaaGreat
namespace Go.Av
def goodAt (t:Tbl) (i:Nat):Bool:=okRow ((t.rows[i]?).getD []) && (decide ((((t.rows[i]?).getD []).length:Int)=t.w) && (decide (i=0) || rowLe ((t.rows[i-1]?).getD []) ((t.rows[i]?).getD [])))
theorem chainB_idx:∀ l:List (List Val),chainB l=true↔∀ i,0<i→i<l.length→rowLe ((l[i-1]?).getD []) ((l[i]?).getD [])=true
 | []=>by simp[chainB]
 | [a]=>by simp[chainB];omega
 | a::b::l=>by
  rw[chainB,Bool.and_eq_true,chainB_idx (b::l)]
  constructor
  ·rintro⟨h1,h2⟩ i h0 hi
   match i,h0 with
   | 1,_=>simpa using h1
   | i+2,_=>have:=h2 (i+1) (by omega) (by simpa using hi);simpa using this
  ·intro h
   refine⟨by simpa using h 1 (by omega) (by simp),fun i h0 hi=>?_⟩
   have:=h (i+1) (by omega) (by simpa using hi)
   obtain⟨k,rfl⟩:∃ k,i=k+1:=⟨i-1,by omega⟩
   simpa using this
theorem ok_good {t:Tbl} (h:∀ i,i<t.rows.length→goodAt t i=true):t.ok=(okWidth t.w && decide (t.rows.length≤400)):=by
 have h1:t.rows.all (rowOk t.w)=true:=by
  rw[List.all_eq_true]
  intro r hr
  obtain⟨i,hi,rfl⟩:=List.getElem_of_mem hr
  have:=h i hi
  unfold goodAt at this
  rw[List.getElem?_eq_getElem hi]at this
  simp only[Option.getD_some,Bool.and_eq_true,okRow]at this
  unfold rowOk
  rw[Bool.and_eq_true]
  exact⟨this.2.1,this.1.2⟩
 have h2:chainB t.rows=true:=(chainB_idx _).2 fun i h0 hi=>by
  have:=h i hi
  unfold goodAt at this
  simp only[Bool.and_eq_true,Bool.or_eq_true,decide_eq_true_eq]at this
  rcases this.2.2 with e|e
  ·omega
  ·exact e
 unfold Tbl.ok
 rw[h1,h2];simp
theorem ok_bad {t:Tbl} {i:Nat} (hi:i<t.rows.length) (h:goodAt t i=false):t.ok=false:=by
 cases ho:t.ok with
 | false=>rfl
 | true =>
  obtain⟨h1,h2,h3,h4⟩:=(Tbl.ok_iff t).1 ho
  have hr:=h3 _ (List.getElem_mem hi)
  have hc:=(chainB_idx t.rows).1 (chainB_srt.2 h4)
  have:goodAt t i=true:=by
   unfold goodAt
   rw[List.getElem?_eq_getElem hi]
   simp only[Option.getD_some,Bool.and_eq_true,Bool.or_eq_true,decide_eq_true_eq]
   have hl:=rowOk_len hr
   refine⟨by unfold okRow;rw[Bool.and_eq_true];exact⟨by rw[hl];exact h1,rowOk_ok hr⟩,hl,?_⟩
   by_cases e:i=0
   ·exact .inl e
   ·right;have:=hc i (by omega) hi;rw[List.getElem?_eq_getElem hi]at this;simpa using this
  rw[this]at h;cases h
theorem good_upto (t:Tbl):∃ j,(∀ i,i<j→i<t.rows.length∧goodAt t i=true)∧((j=t.rows.length∧t.ok=(okWidth t.w && decide (t.rows.length≤400)))∨(j<t.rows.length∧goodAt t j=false∧t.ok=false)):=by
 obtain⟨j,h1,h2⟩:=upto_bad (goodAt t) (List.range t.rows.length)
 have h1':∀ i,i<j→i<t.rows.length∧goodAt t i=true:=by
  intro i hi
  obtain⟨k,e,_,hp⟩:=h1 i hi
  obtain⟨hl,e'⟩:=List.getElem?_eq_some_iff.1 e
  simp at hl e'
  subst e'
  exact⟨hl,hp⟩
 refine⟨j,h1',?_⟩
 rcases h2 with ⟨e,_⟩|⟨k,e,_,hp,_⟩
 ·simp at e
  exact .inl ⟨e,ok_good fun i hi=>(h1' i (by omega)).2⟩
 ·obtain⟨hl,e'⟩:=List.getElem?_eq_some_iff.1 e
  simp at hl e'
  subst e'
  exact .inr ⟨hl,hp,ok_bad hl hp⟩
theorem foldl_insR_snoc {l:List (List Val)} {i:Nat} {r:List Val} (h:l[i]?=some r):sortR (l.take (i+1))=insR (sortR (l.take i)) r:=by
 rw[take_snoc h];unfold sortR;rw[List.foldl_append];rfl
theorem dd_snoc:∀ (p:List Val) (l:List (List Val)) (x:List Val),dd p (l++[x])=dd p l++(if rowCmp (((p::l).getLast?).getD []) x=0 then []else [x])
 | p,[],x=>by by_cases h:rowCmp p x=0<;>simp[dd,h]
 | p,a::l,x=>by
  simp only[List.cons_append,dd,dd_snoc a l x,List.getLast?_cons_cons]
  split<;>simp
theorem dedup_snoc (l:List (List Val)) (x:List Val):dedup (l++[x])=dedup l++(if l≠[]∧rowCmp ((l.getLast?).getD []) x=0 then []else [x]):=by
 cases l with
 | nil=>simp[dedup,dd]
 | cons a l=>simp only[List.cons_append,dedup,dd_snoc];simp
theorem take_last {α:Type} {l:List α} {i:Nat} {a:α} (h:l[i]?=some a):(l.take (i+1)).getLast?=some a:=by rw[take_snoc h];simp
end Go.Av
namespace Go.Proofs.YtiailccmofdhfaaGreat
open Go Go.Av
set_option maxRecDepth 4000
set_option maxHeartbeats 4000000
def TOX (w:Int) (l:List (List Val)) (i:Nat):AS :=
 { env:=[(0, .int w),(1, .i (.isl (rowsL l))),(4, .own 0 0),(5, .own 1 0),(6, .int i),(11, .bool false),(16,jk i (.bool true))],st:=[some (.box [.int 0, .nils]),some (.box [.int w,gro 2 1 i])]++groB 1 (rowsL (sortR (l.take i))) i }
theorem stableOf_eq (w:Int) (l:List (List Val)) (n:Nat) (hn:n<1000000) (hn0:n≠0) (hl0:l.length<1000000) (hl:∀ x∈l,x.all Val.ok=true∧x.length=n):callA C0 78 [.int w, .i (.isl (rowsL l))] []=some (.i (.agg [.int w, .isl (rowsL (tab w l).rows)]),[]):=by
 rw[callA_eq rfl Tryz.func78 rfl rfl]
 by_cases h:(400:Int)<l.length
 ·have:400<l.length:=by omega
  simp[h,tab,this,rowsL]
 ·have h':¬ 400<l.length:=by omega
  simp[h,tab,h']
  rw[loop_to (TOX w l) l.length (by simp[TOX])]
  ·rw[execA_loop]
   by_cases h0:l.length=0
   ·have:l=[]:=List.length_eq_zero_iff.1 h0
    subst this
    simp[TOX,sortR,rowsL]
   ·have hT:(sortR l).length=l.length:=sortR_length l
    have e1:List.take l.length (sortR l)=sortR l:=List.take_of_length_le (by omega)
    simp[TOX,gro_pos h0,groB_pos h0,hT,e1]
  ·intro i hi
   have h3:=List.getElem?_eq_getElem hi
   have hm:=List.mem_of_getElem? h3
   have hsn:=foldl_insR_snoc h3
   generalize l[i]=x at h3 hm hsn
   have r1:=rowsL_nth h3
   have w2:IntKind.i64.wrap ((i:Int)+1)=i+1:=wrap64 (by omega) (by omega)
   have hlen:(sortR (l.take i)).length=i:=by rw[sortR_length];simp;omega
   have e1:List.take i (sortR (l.take i))=sortR (l.take i):=List.take_of_length_le (by omega)
   have hx0:x≠[]:=fun e=>by have:=(hl x hm).2;subst e;simp at this;omega
   have hc:=insertRow_eq (sortR (l.take i)) x (by omega) (hl x hm).1 (by rw[(hl x hm).2];exact hn) hx0 (fun y hy=>by
    have:=hl y (List.mem_of_mem_take (sortR_mem.1 hy));exact⟨this.1,by rw[this.2,(hl x hm).2]⟩) (sortR_srt _)
   rw[hlen]at hc
   by_cases h0:i=0
   ·subst h0
    have hs0:sortR ([]:List (List Val))=[]:=rfl
    simp[hs0,rowsL_nil]at hc hsn
    simp[TOX,hi,r1,hc,hsn,wrap_1]
   ·simp[TOX,gro_pos h0,groB_pos h0,hi,r1,hc,hsn,w2,hlen,e1]
def VTX (t:Tbl) (i:Nat):AS :=
 { env:=[(0, .i (.agg [.int t.w, .isl (rowsL t.rows)])),(1, .own 0 0),(2, .bool false),(3, .int i),(8,jk i (.bool true)),(47,jk i (.bool false))],st:=[some (.box [.i (.int t.w), .i (.isl (rowsL t.rows))])] }
theorem svalidTable_eq (t:Tbl) (hl0:t.rows.length<1000000) (hl:∀ r∈t.rows,r.length<1000000):callA C0 103 [.i (.agg [.int t.w, .isl (rowsL t.rows)])] []=some (.bool t.ok,[]):=by
 rw[callA_eq rfl Tryz.func103 rfl rfl]
 obtain⟨j,h1,h2⟩:=good_upto t
 have good:∀ i,i<j→∃ r,t.rows[i]?=some r∧okRow r=true∧(r.length:Int)=t.w∧(i≠0→∃ q,t.rows[i-1]?=some q∧rowLe q r=true):=by
  intro i hi
  obtain⟨k1,k2⟩:=h1 i hi
  have e1:=List.getElem?_eq_getElem k1
  refine⟨_,e1,?_⟩
  unfold goodAt at k2
  rw[e1]at k2
  simp only[Option.getD_some,Bool.and_eq_true,Bool.or_eq_true,decide_eq_true_eq]at k2
  refine⟨k2.1,k2.2.1,fun h0=>?_⟩
  have e2:=List.getElem?_eq_getElem (show i-1<t.rows.length by omega)
  rw[e2]at k2
  exact⟨_,e2,by rcases k2.2.2 with e|e;omega;simpa using e⟩
 simp
 rw[loop_to (VTX t) j (by simp[VTX])]
 ·rw[execA_loop]
  rcases h2 with ⟨e,ho⟩|⟨e,hb,ho⟩
  ·by_cases hw:1≤t.w∧t.w≤6
   ·by_cases h4:t.rows.length≤400
    ·have h4i:(t.rows.length:Int)≤400:=by omega
     simp[VTX,e,ho,okWidth,hw,h4,h4i]
    ·have h4i:¬ (t.rows.length:Int)≤400:=by omega
     have h4j:(400:Int)<t.rows.length:=by omega
     simp[VTX,e,ho,okWidth,hw,h4,h4i,h4j]
   ·simp[VTX,e,ho,okWidth,hw]
  ·have e1:=List.getElem?_eq_getElem e
   have hm:=List.mem_of_getElem? e1
   unfold goodAt at hb
   rw[e1]at hb
   generalize t.rows[j]=r at e1 hm hb
   have r1:=rowsL_nth e1
   have c1:=svalidRow_eq r (hl r hm)
   by_cases v1:okRow r=true
   ·by_cases v2:(r.length:Int)=t.w
    ·simp only[Option.getD_some,v1,v2,decide_true,Bool.true_and,Bool.or_eq_false_iff,decide_eq_false_iff_not]at hb
     obtain⟨hj0,hlt⟩:=hb
     obtain⟨q,g1,g2,g3,_⟩:=good (j-1) (by omega)
     rw[g1]at hlt
     have hgt:0<rowCmp q r:=by simp[rowLe]at hlt;omega
     have q1:=rowsL_nth g1
     have w3:IntKind.i64.wrap ((j:Int)-1)=((j-1:Nat):Int):=by rw[wrap64 (by omega) (by omega)];omega
     have oq:q.all Val.ok=true:=by simp[okRow]at g2;simpa using g2.2
     have or':r.all Val.ok=true:=by simp[okRow]at v1;simpa using v1.2
     have hc:=scompareRows_eq q r (by omega) (hl q (List.mem_of_getElem? g1)) oq or'
     have hjl:j-1<t.rows.length:=by omega
     have hjp:(0:Int)<j:=by omega
     have hjp':0<j:=by omega
     simp[VTX,e,ho,r1,c1,v1,v2,q1,w3,hc,hgt,hjl,hjp,hjp']
    ·simp[VTX,e,ho,r1,c1,v1,v2]
   ·simp[VTX,e,ho,r1,c1,v1]
 ·intro i hi
  obtain⟨r,e1,v1,v2,v3⟩:=good i hi
  have hm:=List.mem_of_getElem? e1
  have r1:=rowsL_nth e1
  have hil:=(h1 i hi).1
  have c1:=svalidRow_eq r (hl r hm)
  have w2:IntKind.i64.wrap ((i:Int)+1)=i+1:=wrap64 (by omega) (by omega)
  by_cases h0:i=0
  ·subst h0
   simp[VTX,hil,r1,c1,v1,v2,wrap_1]
  ·obtain⟨q,g1,g4⟩:=v3 h0
   obtain⟨q',g1',g2,g3,_⟩:=good (i-1) (by omega)
   rw[g1]at g1';injection g1' with g1';subst g1'
   have hle:¬ 0<rowCmp q r:=by simp[rowLe]at g4;omega
   have q1:=rowsL_nth g1
   have w3:IntKind.i64.wrap ((i:Int)-1)=((i-1:Nat):Int):=by rw[wrap64 (by omega) (by omega)];omega
   have oq:q.all Val.ok=true:=by simp[okRow]at g2;simpa using g2.2
   have or':r.all Val.ok=true:=by simp[okRow]at v1;simpa using v1.2
   have hc:=scompareRows_eq q r (by omega) (hl q (List.mem_of_getElem? g1)) oq or'
   have hjl:i-1<t.rows.length:=by omega
   have hjp:(0:Int)<i:=by omega
   have hjp':0<i:=by omega
   simp[VTX,hil,r1,c1,v1,v2,q1,w3,hc,hle,hjl,hjp,hjp',w2]
end Go.Proofs.YtiailccmofdhfaaGreat
namespace Go.Av
theorem Tbl.ok_row {t:Tbl} (h:t.ok=true):1≤t.w∧t.w≤6∧t.rows.length≤400∧∀ r∈t.rows,r.all Val.ok=true∧r.length=t.w.toNat∧(r.length:Int)=t.w:=by
 obtain⟨h1,h2,h3,h4⟩:=(Tbl.ok_iff t).1 h
 have hw:=(okWidth_iff _).1 h1
 refine⟨hw.1,hw.2,h2,fun r hr=>?_⟩
 have h5:=rowOk_len (h3 r hr)
 exact⟨rowOk_ok (h3 r hr),by omega,h5⟩
theorem filter_snoc {l:List (List Val)} {i:Nat} {r:List Val} (h:l[i]?=some r) (f:List Val→Bool):(l.take (i+1)).filter f=(l.take i).filter f++if f r=true then [r]else []:=by
 rw[take_snoc h,List.filter_append]
 cases hf:f r<;>simp[hf]
theorem dedup_at {l:List (List Val)} {i:Nat} {r:List Val} (h:l[i]?=some r):dedup (l.take (i+1))=dedup (l.take i)++if i≠0∧rowCmp ((l[i-1]?).getD []) r=0 then []else [r]:=by
 rw[take_snoc h,dedup_snoc]
 have hi:=(List.getElem?_eq_some_iff.1 h).1
 cases i with
 | zero=>simp
 | succ i =>
  have e:=List.getElem?_eq_getElem (show i<l.length by omega)
  rw[take_last e]
  have hne:l.take (i+1)≠[]:=by
   intro e'
   have h5:(l.take (i+1)).length=i+1:=by rw[List.length_take];omega
   rw[e']at h5;simp at h5
  simp[hne,e]
end Go.Av
namespace Go.Proofs.YtiailccmofdhfaaGreat
open Go Go.Av
set_option maxRecDepth 4000
set_option maxHeartbeats 4000000
theorem sunionAll_eq (a b:Tbl) (ha:a.ok=true) (hb:b.ok=true) (hw:a.w=b.w):callA C0 107 [.i (.agg [.int a.w, .isl (rowsL a.rows)]), .i (.agg [.int b.w, .isl (rowsL b.rows)])] []=some (.i (.agg [.int a.w, .isl (rowsL (tab a.w (a.rows++b.rows)).rows)]),[]):=by
 obtain⟨w1,w2,l1,r1⟩:=Tbl.ok_row ha
 obtain⟨_,_,l2,r2⟩:=Tbl.ok_row hb
 have hc:=stableOf_eq a.w (a.rows++b.rows) a.w.toNat (by omega) (by omega) (by rw[List.length_append];omega) (fun x hx=>by
  rcases List.mem_append.1 hx with h|h
  ·exact⟨(r1 x h).1,(r1 x h).2.1⟩
  ·exact⟨(r2 x h).1,by have:=(r2 x h).2.1;rw[hw];exact this⟩)
 have e1:List.take (a.rows.length+b.rows.length) (rowsL a.rows++rowsL b.rows)=rowsL (a.rows++b.rows):=by rw[rowsL_append];exact List.take_of_length_le (by simp)
 have e2:List.take (rowsL b.rows).length (rowsL b.rows)=rowsL b.rows:=List.take_of_length_le (by simp)
 have hs:a.rows.length*24≤140737488355328:=by omega
 have hs2:(a.rows.length+b.rows.length)*24≤140737488355328:=by omega
 rw[callA_eq rfl Tryz.func107 rfl rfl]
 by_cases hn:a.rows=[]
 ·by_cases hm:b.rows=[]
  ·simp[hn,hm,rowsL_nil]at hc
   simp[hn,hm,rowsL_nil,hc]
  ·have hs3:b.rows.length*24≤140737488355328:=by omega
   have e3:List.take b.rows.length (rowsL b.rows)=rowsL b.rows:=List.take_of_length_le (by simp)
   simp[hn]at hc
   simp[hn,hm,rowsL_nil,hc,hs3,e3]
 ·simp[hn,hs,hs2,e1,hc]
def FTX (t:Tbl) (e:Ex) (i:Nat):AS :=
 { env:=[(0, .i (.agg [.int t.w, .isl (rowsL t.rows)])),(1, .i (.agg [.int e.kind, .int e.col, .bool e.val.null, .int e.val.n, .isl (Ex.cellsL e.kids)])),(2, .own 0 0),(3, .own 1 0),(4, .own 2 0),(5, .osl 3 1 0 ((t.rows.take i).filter (isT e)).length),(6, .int i),(12,jk i (.bool true)),(21,jk i (.bool (isT e ((t.rows[i-1]?).getD []))))],
   st:=[some (.box [.i (.int t.w), .i (.isl (rowsL t.rows))]),some (.box [.i (.int e.kind), .i (.int e.col), .i (.bool e.val.null), .i (.int e.val.n), .i (.isl (Ex.cellsL e.kids))]),some (.box [.int 0, .nils]),some (.arr 1 (rowsL ((t.rows.take i).filter (isT e))))] }
theorem sfilterTable_eq (t:Tbl) (ht:t.ok=true) (e:Ex) (he:e.wf t.w=true):callA C0 104 [.i (.agg [.int t.w, .isl (rowsL t.rows)]), .i (.agg e.cells)] []=some (.i (.agg [.int t.w, .isl (rowsL (tab t.w (t.rows.filter (isT e))).rows)]),[]):=by
 obtain⟨w1,w2,l1,r1⟩:=Tbl.ok_row ht
 have hfl:=List.length_filter_le (isT e) t.rows
 have hc:=stableOf_eq t.w (t.rows.filter (isT e)) t.w.toNat (by omega) (by omega) (by omega) (fun x hx=>⟨(r1 x (List.mem_filter.1 hx).1).1,(r1 x (List.mem_filter.1 hx).1).2.1⟩)
 rw[callA_eq rfl Tryz.func104 rfl rfl,Ex.cells_eq]
 simp
 rw[loop_to (FTX t e) t.rows.length (by simp[FTX,rowsL_nil])]
 ·rw[execA_loop]
  have e1:List.take (t.rows.filter (isT e)).length (t.rows.filter (isT e))=t.rows.filter (isT e):=List.take_of_length_le (by simp)
  simp[FTX,hc,e1]
 ·intro i hi
  obtain⟨x,h3⟩:∃ x,t.rows[i]?=some x:=⟨_,List.getElem?_eq_getElem hi⟩
  have hm:=List.mem_of_getElem? h3
  have hsn:=filter_snoc h3 (isT e)
  obtain⟨_,hg⟩:=List.getElem?_eq_some_iff.1 h3
  have k1:=rowsL_nth h3
  have hh:=sholds_eq x (r1 x hm).2.2.symm (r1 x hm).1 e he
  rw[Ex.cells_eq]at hh
  have w3:IntKind.i64.wrap ((i:Int)+1)=i+1:=wrap64 (by omega) (by omega)
  have hlen:((t.rows.take i).filter (isT e)).length≤i:=by have:=List.length_filter_le (isT e) (t.rows.take i);simp at this;omega
  have hb:(((t.rows.take i).filter (isT e)).length+1)*24≤140737488355328:=by omega
  have e1:((t.rows.take i).filter (isT e)).take ((t.rows.take i).filter (isT e)).length=(t.rows.take i).filter (isT e):=List.take_of_length_le (by simp)
  cases hx:isT e x with
  | true =>
   rw[hx]at hsn hh
   simp[FTX,hi,k1,hh,w3,hsn,hb,e1,rowsL_append,rowsL_cons,rowsL_nil,h3,hx,hg]
  | false =>
   rw[hx]at hsn hh
   simp[FTX,hi,k1,hh,w3,hsn,h3,hx,hg]
def DTX (t:Tbl) (i:Nat):AS :=
 { env:=[(0, .i (.agg [.int t.w, .isl (rowsL t.rows)])),(1, .own 0 0),(2, .own 1 0),(3, .own 2 0),(4, .int i),(12,jk i (.bool true)),(31,jk i (.bool (decide (i=1) || !(rowCmp ((t.rows[i-2]?).getD []) ((t.rows[i-1]?).getD []) == 0))))],
   st:=[some (.box [.i (.int t.w), .i (.isl (rowsL t.rows))]),some (.box [.int 0, .nils]),some (.box [.int t.w,gro 3 1 (dedup (t.rows.take i)).length])]++groB 1 (rowsL (dedup (t.rows.take i))) (dedup (t.rows.take i)).length }
theorem sdistinctRows_eq (t:Tbl) (ht:t.ok=true):callA C0 108 [.i (.agg [.int t.w, .isl (rowsL t.rows)])] []=some (.i (.agg [.int t.w, .isl (rowsL (dedup t.rows))]),[]):=by
 obtain⟨w1,w2,l1,r1⟩:=Tbl.ok_row ht
 rw[callA_eq rfl Tryz.func108 rfl rfl]
 simp
 have hd0:∀ l:List (List Val),l≠[]→(dedup l).length≠0:=by
  intro l h;cases l with
  | nil=>exact absurd rfl h
  | cons a l=>simp[dedup]
 rw[loop_to (DTX t) t.rows.length (by simp[DTX,dedup])]
 ·rw[execA_loop]
  by_cases h0:t.rows=[]
  ·simp[DTX,h0,dedup,rowsL_nil]
  ·have:=hd0 t.rows h0
   have e1:(dedup t.rows).take (dedup t.rows).length=dedup t.rows:=List.take_of_length_le (by simp)
   simp[DTX,gro_pos this,groB_pos this,e1]
 ·intro i hi
  obtain⟨x,h3⟩:∃ x,t.rows[i]?=some x:=⟨_,List.getElem?_eq_getElem hi⟩
  have hm:=List.mem_of_getElem? h3
  have hsn:=dedup_at h3
  obtain⟨_,hg⟩:=List.getElem?_eq_some_iff.1 h3
  have k1:=rowsL_nth h3
  have w3:IntKind.i64.wrap ((i:Int)+1)=i+1:=wrap64 (by omega) (by omega)
  have hx0:x≠[]:=fun e=>by have:=(r1 x hm).2.1;subst e;simp at this;omega
  have hcp:=copyRow_eq x (by have:=(r1 x hm).2.1;omega) hx0
  have hlen:(dedup (t.rows.take i)).length≤i:=by have:=(dedup_sub (t.rows.take i)).length_le;simp at this;omega
  have hb:((dedup (t.rows.take i)).length+1)*24≤140737488355328:=by omega
  have e1:(dedup (t.rows.take i)).take (dedup (t.rows.take i)).length=dedup (t.rows.take i):=List.take_of_length_le (by simp)
  have e2:x.take x.length=x:=List.take_of_length_le (by simp)
  by_cases h0:i=0
  ·subst h0
   simp[dedup]at hsn
   simp[DTX,hi,k1,hcp,hsn,wrap_1,dedup,rowsL_cons,rowsL_nil,e2]
  ·obtain⟨q,hq⟩:∃ q,t.rows[i-1]?=some q:=⟨_,List.getElem?_eq_getElem (by omega)⟩
   have hqm:=List.mem_of_getElem? hq
   obtain⟨_,hgq⟩:=List.getElem?_eq_some_iff.1 hq
   have k2:=rowsL_nth hq
   have w4:IntKind.i64.wrap ((i:Int)-1)=((i-1:Nat):Int):=by rw[wrap64 (by omega) (by omega)];omega
   have hcm:=scompareRows_eq q x (by rw[(r1 q hqm).2.1,(r1 x hm).2.1]) (by have:=(r1 q hqm).2.1;omega) (r1 q hqm).1 (r1 x hm).1
   have hjl:i-1<t.rows.length:=by omega
   have hne:t.rows.take i≠[]:=by
    intro e'
    have h5:(t.rows.take i).length=i:=by rw[List.length_take];omega
    rw[e']at h5;simp at h5;omega
   have hdn:=hd0 _ hne
   rw[hq]at hsn
   have h1:i+1-2=i-1:=by omega
   simp only[Option.getD_some,ne_eq,h0,not_false_eq_true,true_and]at hsn
   by_cases hz:rowCmp q x=0
   ·rw[if_pos hz,List.append_nil]at hsn
    simp[DTX,hi,k1,k2,w4,hcm,hz,hsn,w3,h0,hq,h3,h1,hjl,gro_pos hdn,groB_pos hdn,hg,hgq]
   ·rw[if_neg hz]at hsn
    simp[DTX,hi,k1,k2,w4,hcm,hz,hsn,w3,h0,hq,h3,h1,hjl,gro_pos hdn,groB_pos hdn,hcp,hb,e1,e2,rowsL_append,rowsL_cons,rowsL_nil,hg,hgq]
    rfl
def evs (es:List Ex) (r:List Val):List Val:=es.map (Ex.ev r)
@[simp] theorem evs_length (es:List Ex) (r:List Val):(evs es r).length=es.length:=by simp[evs]
def PTX (t:Tbl) (es:List Ex) (i:Nat):AS :=
 { env:=[(0, .i (.agg [.int t.w, .isl (rowsL t.rows)])),(1, .i (.isl (Ex.cellsL es))),(2, .own 0 0),(4, .own 1 0),(5, .osl 2 1 0 i),(6, .int i),(7,if i=0 then .junk else .osl 3 2 0 es.length),(8,jk i (.int es.length)),(14,jk i (.bool true)),(21,jk i (.bool false))],
   st:=[some (.box [.i (.int t.w), .i (.isl (rowsL t.rows))]),some (.box [.int 0, .nils]),some (.arr 1 (rowsL ((t.rows.take i).map (evs es))))]++(if i=0 then []else [some (.frz 2 (valsL (evs es ((t.rows[i-1]?).getD []))))]) }
def PTI (t:Tbl) (es:List Ex) (i:Nat) (x:List Val) (k:Nat):AS :=
 { env:=[(0, .i (.agg [.int t.w, .isl (rowsL t.rows)])),(1, .i (.isl (Ex.cellsL es))),(2, .own 0 0),(4, .own 1 0),(5, .osl 2 1 0 i),(6, .int i),(7, .osl 3 2 0 k),(8, .int k),(14, .bool true),(21,if k=0 then jk i (.bool false)else .bool true)],
   st:=[some (.box [.i (.int t.w), .i (.isl (rowsL t.rows))]),some (.box [.int 0, .nils]),some (.arr 1 (rowsL ((t.rows.take i).map (evs es)))),some (.arr 2 (valsL (evs (es.take k) x)))] }
theorem evs_snoc {es:List Ex} {k:Nat} {e:Ex} (h:es[k]?=some e) (x:List Val):evs (es.take (k+1)) x=evs (es.take k) x++[e.ev x]:=by rw[take_snoc h];simp[evs]
theorem sprojectTable_eq (t:Tbl) (ht:t.ok=true) (es:List Ex) (h0:okWidth es.length=true) (he:∀ e∈es,e.wf t.w=true):callA C0 105 [.i (.agg [.int t.w, .isl (rowsL t.rows)]), .i (.isl (Ex.cellsL es))] []=some (.i (.agg [.int es.length, .isl (rowsL (tab es.length (t.rows.map (evs es))).rows)]),[]):=by
 obtain⟨w1,w2,l1,r1⟩:=Tbl.ok_row ht
 have hes:=(okWidth_iff _).1 h0
 have hc:=stableOf_eq es.length (t.rows.map (evs es)) es.length (by omega) (by omega) (by rw[List.length_map];omega) (fun x hx=>by
  obtain⟨r,hr,rfl⟩:=List.mem_map.1 hx
  refine⟨?_,by simp[evs]⟩
  unfold evs
  simp only[List.all_map,List.all_eq_true]
  exact fun e hem=>ev_ok r (r1 r hr).2.2.symm (r1 r hr).1 e (he e hem))
 rw[callA_eq rfl Tryz.func105 rfl rfl]
 simp
 rw[loop_to (PTX t es) t.rows.length (by simp[PTX,rowsL_nil])]
 ·rw[execA_loop]
  have e1:List.take t.rows.length (t.rows.map (evs es))=t.rows.map (evs es):=List.take_of_length_le (by simp)
  by_cases hz:t.rows.length=0
  ·have:t.rows=[]:=List.length_eq_zero_iff.1 hz
   simp[this,rowsL_nil]at hc
   simp[PTX,this,rowsL_nil,hc]
  ·simp[PTX,hz,hc,e1]
 ·intro i hi
  obtain⟨x,h3⟩:∃ x,t.rows[i]?=some x:=⟨_,List.getElem?_eq_getElem hi⟩
  have hm:=List.mem_of_getElem? h3
  obtain⟨_,hg⟩:=List.getElem?_eq_some_iff.1 h3
  have k1:=rowsL_nth h3
  have w3:IntKind.i64.wrap ((i:Int)+1)=i+1:=wrap64 (by omega) (by omega)
  have hT:(t.rows.map (evs es)).take (i+1)=(t.rows.map (evs es)).take i++[evs es x]:=take_snoc (by rw[List.getElem?_map,h3];rfl)
  have hmin2:min i t.rows.length=i:=by omega
  have hinner:∀ k,k<es.length→∃ e,es[k]?=some e∧nthE (Ex.cellsL es) k=some [.int e.kind, .int e.col, .bool e.val.null, .int e.val.n, .isl (Ex.cellsL e.kids)]∧evs (es.take (k+1)) x=evs (es.take k) x++[e.ev x]∧callA C0 158 [.i (.agg [.int e.kind, .int e.col, .bool e.val.null, .int e.val.n, .isl (Ex.cellsL e.kids)]), .i (.isl (valsL x))] []=some (.i (.agg [.bool (e.ev x).null, .int (e.ev x).n]),[]):=by
   intro k hk
   obtain⟨e,h4⟩:∃ e,es[k]?=some e:=⟨_,List.getElem?_eq_getElem hk⟩
   have k2:=Ex.cellsL_nth h4
   have k3:=sevalExpr_eq x (r1 x hm).2.2.symm (r1 x hm).1 e (he e (List.mem_of_getElem? h4))
   rw[Ex.cells_eq]at k2 k3
   exact⟨e,h4,k2,evs_snoc h4 x,k3⟩
  have hlen:∀ k,k≤es.length→(evs (es.take k) x).length=k:=by intro k hk;simp[evs];omega
  have hb:(i+1)*24≤140737488355328:=by omega
  have e1:List.take i (List.take i (t.rows.map (evs es)))=List.take i (t.rows.map (evs es)):=by rw[List.take_take,Nat.min_self]
  have hfull:es.take es.length=es:=List.take_of_length_le (by simp)
  have e5:(evs es x).take es.length=evs es x:=List.take_of_length_le (by simp[evs])
  have hne:es.length≠0:=by omega
  have fin:∀ k,k<es.length→∀ (S:AS),S=PTI t es i x k→True:=fun _ _ _ _=>trivial
  by_cases hz:i=0
  ·subst hz
   simp[PTX,hi,rowsL_nil]
   rw[loop_to (PTI t es 0 x) es.length (by simp[PTI,evs,valsL,rowsL_nil])]
   ·rw[execA_loop]
    simp at hT
    simp[PTI,hne,hfull,wrap_1,e5,rowsL_cons,rowsL_nil,hg,hT]
   ·intro k hk
    obtain⟨e,_,k2,k4,k3⟩:=hinner k hk
    have w4:IntKind.i64.wrap ((k:Int)+1)=k+1:=wrap64 (by omega) (by omega)
    have hb2:(k+1)*16≤140737488355328:=by omega
    have e6:(evs (es.take k) x).take k=evs (es.take k) x:=List.take_of_length_le (by rw[hlen k (by omega)];omega)
    have hmin:min k es.length=k:=by omega
    simp[PTI,hk,k2,k3,k4,k1,w4,hb2,hi,e6,hmin,valsL_append,valsL,rowsL_nil]
  ·simp[PTX,hi,hz]
   rw[loop_to (PTI t es i x) es.length (by simp[PTI,evs,valsL])]
   ·rw[execA_loop]
    simp[PTI,hne,hfull,w3,e5,e1,hb,hmin2,rowsL_append,rowsL_cons,rowsL_nil,hg,hT]
   ·intro k hk
    obtain⟨e,_,k2,k4,k3⟩:=hinner k hk
    have w4:IntKind.i64.wrap ((k:Int)+1)=k+1:=wrap64 (by omega) (by omega)
    have hb2:(k+1)*16≤140737488355328:=by omega
    have e6:(evs (es.take k) x).take k=evs (es.take k) x:=List.take_of_length_le (by rw[hlen k (by omega)];omega)
    have hmin:min k es.length=k:=by omega
    simp[PTI,hk,k2,k3,k4,k1,w4,hb2,hi,e6,hmin,valsL_append,valsL]
theorem sconcat_eq (a b:List Val) (ha:a≠[]) (hl:a.length+b.length<1000000):callA C0 159 [.i (.isl (valsL a)), .i (.isl (valsL b))] []=some (.i (.isl (valsL (a++b))),[]):=by
 have hc:=copyRow_eq a (by omega) ha
 have hb:(a.length+b.length)*16≤140737488355328:=by omega
 have e1:a.take a.length=a:=List.take_of_length_le (by simp)
 have e2:List.take (a.length+b.length) (valsL a++valsL b)=valsL (a++b):=by rw[valsL_append];exact List.take_of_length_le (by simp)
 rw[callA_eq rfl Tryz.func159 rfl rfl]
 simp[hc,hb,e1,e2]
def NUX (n:Int) (i:Nat):AS :=
 { env:=[(0, .int n),(2, .nils),(3, .osl 0 2 0 i),(4, .int i),(8,jk i (.bool true))],st:=[some (.arr 2 (valsL (nullsV i)))] }
theorem snulls_eq (n:Int) (h0:0≤n) (h1:n<1000000):callA C0 160 [.int n] []=some (.i (.isl (valsL (nullsV n))),[]):=by
 obtain⟨m,rfl⟩:∃ m:Nat,n=m:=⟨n.toNat,by omega⟩
 rw[callA_eq rfl Tryz.func160 rfl rfl]
 have hl:∀ k:Nat,(nullsV (k:Int)).length=k:=by intro k;simp[nullsV]
 simp
 rw[loop_to (NUX m) m (by simp[NUX,nullsV,valsL])]
 ·rw[execA_loop]
  have e1:(nullsV (m:Int)).take m=nullsV m:=List.take_of_length_le (by rw[hl];omega)
  simp[NUX,e1,hl m]
 ·intro i hi
  have w3:IntKind.i64.wrap ((i:Int)+1)=i+1:=wrap64 (by omega) (by omega)
  have hb:(i+1)*16≤140737488355328:=by omega
  have e1:(nullsV (i:Int)).take i=nullsV i:=List.take_of_length_le (by rw[hl];omega)
  have e2:valsL (nullsV ((i:Int)+1))=valsL (nullsV i)++[[.bool true, .int 0]]:=by
   rw[show nullsV ((i:Int)+1)=nullsV i++[⟨true,0⟩]by simp[nullsV,List.replicate_succ'],valsL_append];rfl
  simp[NUX,hi,w3,hb,e1,e2,hl i]
end Go.Proofs.YtiailccmofdhfaaGreat
namespace Go.Av
theorem step_of {C:Ctx} {G:List Nat} {na:Nat} {b:Code} {S:AS} {d:Nat} {I:Nat→AS→Prop} (P:AS→Prop) (h:∃ S1,execA C G na b S=some (.normal,S1)∧P S1) (hP:∀ S1,P S1→∃ k',k'<d∧I k' S1):∃ S1 k',execA C G na b S=some (.normal,S1)∧k'<d∧I k' S1:=by
 obtain⟨S1,h1,h2⟩:=h
 obtain⟨k',h3,h4⟩:=hP S1 h2
 exact⟨S1,k',h1,h3,h4⟩
end Go.Av
namespace Go.Proofs.YtiailccmofdhfaaGreat
open Go Go.Av
set_option maxRecDepth 4000
set_option maxHeartbeats 8000000
def JOX (t b:Tbl) (e:Ex) (o:Bool) (acc:List (List Val)) (i:Nat) (f:Bool) (n13:Nat) (x13:List Val) (n42:Nat) (c42 c51:Bool) (g:AV):AS :=
 { env:=[(0, .i (.agg [.int t.w, .isl (rowsL t.rows)])),(1, .i (.agg [.int b.w, .isl (rowsL b.rows)])),(2, .i (.agg [.int e.kind, .int e.col, .bool e.val.null, .int e.val.n, .isl (Ex.cellsL e.kids)])),(3, .bool o),(4, .own 0 0),(5, .own 1 0),(6, .own 2 0),(8, .own 3 0),(9, .osl 4 1 0 acc.length),(10, .int i),(11,jk i (.bool f)),(12,jk i (.int b.rows.length)),(13,jk n13 (.isl (valsL x13))),(19,g),(26,jk i (.bool false)),(42,jk n42 (.bool c42)),(51,jk i (.bool c51))],
   st:=[some (.box [.i (.int t.w), .i (.isl (rowsL t.rows))]),some (.box [.i (.int b.w), .i (.isl (rowsL b.rows))]),some (.box [.i (.int e.kind), .i (.int e.col), .i (.bool e.val.null), .i (.int e.val.n), .i (.isl (Ex.cellsL e.kids))]),some (.box [.int 0, .nils]),some (.arr 1 (rowsL acc))] }
def JIX (t b:Tbl) (e:Ex) (o:Bool) (acc:List (List Val)) (i k:Nat) (f:Bool) (n13:Nat) (x13:List Val) (n42:Nat) (c42 c51:Bool) (g:AV):AS :=
 { env:=[(0, .i (.agg [.int t.w, .isl (rowsL t.rows)])),(1, .i (.agg [.int b.w, .isl (rowsL b.rows)])),(2, .i (.agg [.int e.kind, .int e.col, .bool e.val.null, .int e.val.n, .isl (Ex.cellsL e.kids)])),(3, .bool o),(4, .own 0 0),(5, .own 1 0),(6, .own 2 0),(8, .own 3 0),(9, .osl 4 1 0 acc.length),(10, .int i),(11, .bool f),(12, .int k),(13,jk n13 (.isl (valsL x13))),(19, .bool true),(26,g),(42,jk n42 (.bool c42)),(51,jk i (.bool c51))],
   st:=[some (.box [.i (.int t.w), .i (.isl (rowsL t.rows))]),some (.box [.i (.int b.w), .i (.isl (rowsL b.rows))]),some (.box [.i (.int e.kind), .i (.int e.col), .i (.bool e.val.null), .i (.int e.val.n), .i (.isl (Ex.cellsL e.kids))]),some (.box [.int 0, .nils]),some (.arr 1 (rowsL acc))] }
theorem joinM_snoc {e:Ex} {l:List (List Val)} {k:Nat} {y:List Val} (h:l[k]?=some y) (x:List Val):joinM e (l.take (k+1)) x=joinM e (l.take k) x++if isT e (x++y)=true then [x++y]else []:=by
 unfold joinM
 rw[take_snoc h,List.map_append,List.filter_append]
 cases hf:isT e (x++y)<;>simp[hf]
theorem flatMap_snoc {l:List (List Val)} {i:Nat} {x:List Val} (h:l[i]?=some x) (f:List Val→List (List Val)):(l.take (i+1)).flatMap f=(l.take i).flatMap f++f x:=by rw[take_snoc h];simp
theorem sjoinTables_eq (t b:Tbl) (ht:t.ok=true) (hb:b.ok=true) (e:Ex) (he:e.wf (t.w+b.w)=true) (o:Bool):callA C0 106 [.i (.agg [.int t.w, .isl (rowsL t.rows)]), .i (.agg [.int b.w, .isl (rowsL b.rows)]), .i (.agg e.cells), .bool o] []=some (.i (.agg [.int (t.w+b.w), .isl (rowsL (tab (t.w+b.w) (joinR e o t b)).rows)]),[]):=by
 obtain⟨w1,w2,l1,r1⟩:=Tbl.ok_row ht
 obtain⟨v1,v2,l2,r2⟩:=Tbl.ok_row hb
 have hJ:=joinR_ok (e:=e) (o:=o) ht hb
 have hlen:=joinR_len e o t b
 have hlen2:(joinR e o t b).length≤160000:=by
  refine Nat.le_trans hlen (Nat.le_trans (Nat.mul_le_mul l1 (show(if o=true then max 1 b.rows.length else b.rows.length)≤400 by split<;>omega)) (by omega))
 clear hlen
 have hc:=stableOf_eq (t.w+b.w) (joinR e o t b) (t.w+b.w).toNat (by omega) (by omega) (by omega) (fun x hx=>⟨rowOk_ok (hJ x hx),by have:=rowOk_len (hJ x hx);omega⟩)
 have wtb:IntKind.i64.wrap (t.w+b.w)=t.w+b.w:=wrap64 (by omega) (by omega)
 have hnu:=snulls_eq b.w (by omega) (by omega)
 rw[callA_eq rfl Tryz.func106 rfl rfl,Ex.cells_eq]
 simp
 generalize hX:execA C0 _ _ (Code.loop _) _=X
 have key:∃ rr,X=some rr∧∃ (f:Bool) (n13:Nat) (x13:List Val) (n42:Nat) (c42 c51:Bool),rr=(.exit 0,JOX t b e o (joinR e o t b) t.rows.length f n13 x13 n42 c42 c51 (.bool false)):=by
  rw[← hX]
  refine loop_wf (fun d S=>∃ (i:Nat) (f:Bool) (n13:Nat) (x13:List Val) (n42:Nat) (c42 c51:Bool),S=JOX t b e o ((t.rows.take i).flatMap (joinL e o b.w b.rows)) i f n13 x13 n42 c42 c51 (jk i (.bool true))∧i≤t.rows.length∧d=t.rows.length-i) ?_ t.rows.length _ ⟨0,true,0,[],0,true,true,by simp[JOX,rowsL_nil],by omega,by omega⟩
  rintro d S ⟨i,f,n13,x13,n42,c42,c51,rfl,a1,a2⟩
  have hT:(t.rows.take t.rows.length)=t.rows:=List.take_of_length_le (by simp)
  by_cases hi:i<t.rows.length
  ·left
   obtain⟨x,h3⟩:∃ x,t.rows[i]?=some x:=⟨_,List.getElem?_eq_getElem hi⟩
   have hm:=List.mem_of_getElem? h3
   have k1:=rowsL_nth h3
   have hfs:=flatMap_snoc h3 (joinL e o b.w b.rows)
   have w3:IntKind.i64.wrap ((i:Int)+1)=((i+1:Nat):Int):=by rw[wrap64 (by omega) (by omega)];omega
   have hx0:x≠[]:=fun e'=>by have:=(r1 x hm).2.1;subst e';simp at this;omega
   have hal:((t.rows.take i).flatMap (joinL e o b.w b.rows)).length≤160000:=by
    have:=joinR_len e o ⟨t.w,t.rows.take i⟩ b
    unfold joinR at this
    refine Nat.le_trans this (Nat.le_trans (Nat.mul_le_mul (show(t.rows.take i).length≤400 by simp;omega) (show(if o=true then max 1 b.rows.length else b.rows.length)≤400 by split<;>omega)) (by omega))
   generalize (t.rows.take i).flatMap (joinL e o b.w b.rows)=acc at hfs hal ⊢
   obtain⟨P,hP⟩:∃ P:AS→Prop,∀ S1,P S1↔∃ (f:Bool) (n13:Nat) (x13:List Val) (n42:Nat) (c42 c51:Bool),S1=JOX t b e o (acc++joinL e o b.w b.rows x) (i+1) f n13 x13 n42 c42 c51 (.bool true):=⟨fun S1=>_,fun S1=>Iff.rfl⟩
   refine step_of P ?_ (fun S1 hS1=>by
    obtain⟨f',n13',x13',n42',c42',c51',rfl⟩:=(hP S1).1 hS1
    exact⟨t.rows.length-(i+1),by omega,i+1,f',n13',x13',n42',c42',c51',by rw[hfs,jk_s],by omega,rfl⟩)
   simp[JOX,hi]
   generalize hY:execA C0 _ _ (Code.loop _) _=Y
   have key2:∃ rr,Y=some rr∧∃ (n13:Nat) (x13:List Val) (n42:Nat) (c42:Bool),rr=(.exit 2,JIX t b e o (acc++joinM e b.rows x) i b.rows.length (!(joinM e b.rows x).isEmpty) n13 x13 n42 c42 c51 (.bool false)):=by
    rw[← hY]
    refine loop_wf (fun d S=>∃ (k:Nat) (n13:Nat) (x13:List Val) (n42:Nat) (c42:Bool) (g:AV),S=JIX t b e o (acc++joinM e (b.rows.take k) x) i k (!(joinM e (b.rows.take k) x).isEmpty) n13 x13 n42 c42 c51 g∧(g=jk i (.bool false)∨g=.bool true)∧k≤b.rows.length∧d=b.rows.length-k) ?_ b.rows.length _ ⟨0,n13,x13,n42,c42,jk i (.bool false),by simp[JIX,joinM], .inl rfl,by omega,by omega⟩
    rintro d S ⟨k,n13,x13,n42,c42,g,rfl,hg,b1,b2⟩
    by_cases hk:k<b.rows.length
    ·left
     obtain⟨y,h4⟩:∃ y,b.rows[k]?=some y:=⟨_,List.getElem?_eq_getElem hk⟩
     have hym:=List.mem_of_getElem? h4
     have k2:=rowsL_nth h4
     have hjs:=joinM_snoc (e:=e) h4 x
     have w4:IntKind.i64.wrap ((k:Int)+1)=((k+1:Nat):Int):=by rw[wrap64 (by omega) (by omega)];omega
     have hcc:=sconcat_eq x y hx0 (by have:=(r1 x hm).2.1;have:=(r2 y hym).2.1;omega)
     have hxy:(x++y).all Val.ok=true:=by rw[List.all_append,(r1 x hm).1,(r2 y hym).1];rfl
     have hh:=sholds_eq (x++y) (m:=t.w+b.w) (by have:=(r1 x hm).2.2;have:=(r2 y hym).2.2;rw[List.length_append];omega) hxy e he
     rw[Ex.cells_eq]at hh
     have hml:=joinM_len e (b.rows.take k) x
     have hml2:(joinM e (b.rows.take k) x).length≤400:=by simp at hml;omega
     have hb3:(acc.length+((joinM e (b.rows.take k) x).length+1))*24≤140737488355328:=by omega
     have e7:List.take (acc.length+(joinM e (b.rows.take k) x).length) (rowsL acc++rowsL (joinM e (b.rows.take k) x))=rowsL acc++rowsL (joinM e (b.rows.take k) x):=List.take_of_length_le (by simp)
     cases hx:isT e (x++y)with
     | true =>
      rw[hx]at hjs hh
      refine⟨JIX t b e o (acc++joinM e (b.rows.take (k+1)) x) i (k+1) (!(joinM e (b.rows.take (k+1)) x).isEmpty) 1 (x++y) 1 true c51 (.bool true),b.rows.length-(k+1),?_,by omega,k+1,1,x++y,1,true, .bool true,rfl, .inr rfl,by omega,rfl⟩
      rcases hg with rfl|rfl<;>simp[JIX,hk,k1,k2,hi,hcc,hh,w4,hjs,hb3,e7,rowsL_append,rowsL_cons,rowsL_nil,Nat.add_assoc]
     | false =>
      rw[hx]at hjs hh
      refine⟨JIX t b e o (acc++joinM e (b.rows.take (k+1)) x) i (k+1) (!(joinM e (b.rows.take (k+1)) x).isEmpty) 1 (x++y) 1 false c51 (.bool true),b.rows.length-(k+1),?_,by omega,k+1,1,x++y,1,false, .bool true,rfl, .inr rfl,by omega,rfl⟩
      rcases hg with rfl|rfl<;>simp[JIX,hk,k1,k2,hi,hcc,hh,w4,hjs]
    ·right
     obtain rfl:k=b.rows.length:=by omega
     have hT2:(b.rows.take b.rows.length)=b.rows:=List.take_of_length_le (by simp)
     refine⟨.exit 2,JIX t b e o (acc++joinM e b.rows x) i b.rows.length (!(joinM e b.rows x).isEmpty) n13 x13 n42 c42 c51 (.bool false),?_,by simp,n13,x13,n42,c42,rfl⟩
     rcases hg with rfl|rfl<;>simp[JIX,hT2]
   obtain⟨rr,rfl,n13',x13',n42',c42',rfl⟩:=key2
   have hcn:=sconcat_eq x (nullsV b.w) hx0 (by have:=(r1 x hm).2.1;simp[nullsV];omega)
   have hml:=joinM_len e b.rows x
   have e8:List.take (acc.length+(joinM e b.rows x).length) (rowsL acc++rowsL (joinM e b.rows x))=rowsL acc++rowsL (joinM e b.rows x):=List.take_of_length_le (by simp)
   have hb4:(acc.length+(joinM e b.rows x).length+1)*24≤140737488355328:=by omega
   by_cases hout:(o && (joinM e b.rows x).isEmpty)=true
   ·have hJL:joinL e o b.w b.rows x=[x++nullsV b.w]:=by unfold joinL;rw[if_pos hout]
    simp only[Bool.and_eq_true]at hout
    obtain⟨ho,hemp⟩:=hout
    have hemp':joinM e b.rows x=[]:=List.isEmpty_iff.1 hemp
    have hb5:(acc.length+1)*24≤140737488355328:=Nat.le_trans (Nat.mul_le_mul_right 24 (Nat.succ_le_succ hal)) (by decide)
    have e9:List.take acc.length (rowsL acc)=rowsL acc:=List.take_of_length_le (by simp)
    refine⟨JOX t b e o (acc++[x++nullsV b.w]) (i+1) false n13' x13' n42' c42' true (.bool true),?_,(hP _).2 ⟨false,n13',x13',n42',c42',true,by rw[hJL]⟩⟩
    simp[JOX,JIX,ho,hemp',k1,hi,hnu,hcn,w3,hb5,e9,rowsL_append,rowsL_cons,rowsL_nil]
   ·have hJL:joinL e o b.w b.rows x=joinM e b.rows x:=by unfold joinL;rw[if_neg hout]
    refine⟨JOX t b e o (acc++joinM e b.rows x) (i+1) (!(joinM e b.rows x).isEmpty) n13' x13' n42' c42' false (.bool true),?_,(hP _).2 ⟨_,n13',x13',n42',c42',false,by rw[hJL]⟩⟩
    cases ho:o with
    | false=>simp[JOX,JIX,w3,ho]
    | true =>
     have hemp:(joinM e b.rows x).isEmpty=false:=by rw[ho]at hout;simpa using hout
     simp[JOX,JIX,w3,ho,hemp]
  ·right
   obtain rfl:i=t.rows.length:=by omega
   refine⟨.exit 0,JOX t b e o (joinR e o t b) t.rows.length f n13 x13 n42 c42 c51 (.bool false),?_,by simp,f,n13,x13,n42,c42,c51,rfl⟩
   rw[hT]
   simp[JOX,joinR]
 obtain⟨rr,rfl,f,n13,x13,n42,c42,c51,rfl⟩:=key
 have e1:List.take (joinR e o t b).length (joinR e o t b)=joinR e o t b:=List.take_of_length_le (by simp)
 simp[JOX,wtb,hc,e1]
end Go.Proofs.YtiailccmofdhfaaGreat
namespace Go.Av
theorem kids_wd {ws:List Int} {p:Pn} {lv:Nat} (h:p.wd ws lv≠0) (hk:p.kids≠[]):∀ a∈p.kids,a.wd ws (lv-1)≠0:=by
 rw[Pn.wd_eq]at h
 obtain⟨h1,h2⟩:=ite_ne h
 split at h2
 ·rename_i hk1
  exact absurd (Pn.headOk_leaf h1.1 hk1) hk
 ·obtain⟨h3,_⟩:=ite_ne h2
  exact fun a ha=>by simpa using List.all_eq_true.1 h3 a ha
theorem cost_le {ws:List Int} {db:List Tbl} (hws:ws=db.map Tbl.w) (hdb:∀ t∈db,t.ok=true):∀ (p:Pn) (lv:Nat),p.wd ws lv≠0→p.cost db≤400*p.size:=by
 intro p
 induction p using Pn.ind with
 | h k t es cs ks ih =>
  intro lv h
  have hg:=ev_good hws hdb _ lv h
  have h400:=((Tbl.ok_iff _).1 hg.1).2.1
  have hkids:∀ a∈ks,a.cost db≤400*a.size:=by
   intro a ha
   by_cases hk:ks=[]
   ·subst hk;simp at ha
   ·have:=kids_wd (p:=.mk k t es cs ks) h hk a ha
    exact ih a ha _ this
  have hsum:Pn.costL db ks≤400*Pn.sizeL ks:=by
   clear ih hg h400 h
   induction ks with
   | nil=>simp[Pn.costL]
   | cons a l ihl =>
    have h1:=hkids a (by simp)
    have h2:=ihl fun x hx=>hkids x (by simp[hx])
    simp only[Pn.costL,Pn.sizeL];omega
  rw[Pn.cost_eq,Pn.size_eq]
  simp only[Pn.kids_mk];omega
theorem bump_at (key:List Val):∀ G:List (List Val×Nat),∃ k,k≤G.length∧(∀ j g,j<k→G[j]?=some g→rowCmp g.1 key≠0)∧((k=G.length∧bump key G=G++[(key,1)])∨(∃ g,G[k]?=some g∧rowCmp g.1 key=0∧bump key G=G.set k (g.1,g.2+1)))
 | []=>⟨0,by simp,by omega, .inl ⟨rfl,rfl⟩⟩
 | a::G=>by
  by_cases h:rowCmp a.1 key=0
  ·exact⟨0,by omega,by omega, .inr ⟨a,rfl,h,by simp[bump,h]⟩⟩
  ·obtain⟨k,h0,h1,h2⟩:=bump_at key G
   refine⟨k+1,by simpa using h0,?_,?_⟩
   ·intro j g hj hg
    cases j with
    | zero=>simp at hg;subst hg;exact h
    | succ j=>exact h1 j g (by omega) (by simpa using hg)
   ·rcases h2 with ⟨e,h2⟩|⟨g,h3,h4,h5⟩
    ·exact .inl ⟨by simp[e],by simp[bump,h,h2]⟩
    ·exact .inr ⟨g,by simpa using h3,h4,by simp[bump,h,h5]⟩
theorem groups_at {cs:List Int} {l:List (List Val)} {i:Nat} {x:List Val} (h:l[i]?=some x):groups cs (l.take (i+1))=bump (pickV cs x) (groups cs (l.take i)):=by rw[take_snoc h,groups_snoc]
theorem intsL_set:∀ (l:List Int) (i:Nat) (x:Int),(intsL l).set i [.int x]=intsL (l.set i x)
 | [],i,x=>by simp[intsL]
 | a::l,0,x=>by simp[intsL]
 | a::l,i+1,x=>by simp[intsL,intsL_set l i x]
end Go.Av
namespace Go.Proofs.YtiailccmofdhfaaGreat
open Go Go.Av
set_option maxRecDepth 4000
set_option maxHeartbeats 8000000
def PCX (a:List Val) (l:List Int) (i:Nat):AS :=
 { env:=[(0, .i (.isl (valsL a))),(1, .i (.isl (intsL l))),(4, .nils),(5, .osl 0 2 0 i),(6, .int i),(11,jk i (.bool true))],st:=[some (.arr 2 (valsL (pickV (l.take i) a)))] }
theorem spickCols_eq (a:List Val) (l:List Int) (hl:l.length<1000000) (h:∀ c∈l,0≤c∧c<a.length):callA C0 161 [.i (.isl (valsL a)), .i (.isl (intsL l))] []=some (.i (.isl (valsL (pickV l a))),[]):=by
 rw[callA_eq rfl Tryz.func161 rfl rfl]
 have hlen:∀ k,k≤l.length→(pickV (l.take k) a).length=k:=by intro k hk;simp[pickV];omega
 simp
 rw[loop_to (PCX a l) l.length (by simp[PCX,pickV,valsL])]
 ·rw[execA_loop]
  have e0:l.take l.length=l:=List.take_of_length_le (by simp)
  have e1:(pickV l a).take l.length=pickV l a:=List.take_of_length_le (by simp[pickV])
  have e2:(pickV l a).length=l.length:=by simp[pickV]
  simp[PCX,e0,e1,e2]
 ·intro i hi
  obtain⟨c,hc⟩:∃ c,l[i]?=some c:=⟨_,List.getElem?_eq_getElem hi⟩
  obtain⟨c0,c1⟩:=h c (List.mem_of_getElem? hc)
  have k1:=intsL_nth hc
  have k2:=valsL_nth (List.getElem?_eq_getElem (show c.toNat<a.length by omega))
  have w3:IntKind.i64.wrap ((i:Int)+1)=i+1:=wrap64 (by omega) (by omega)
  have hb:(i+1)*16≤140737488355328:=by omega
  have e1:(pickV (l.take i) a).take i=pickV (l.take i) a:=List.take_of_length_le (by rw[hlen i (by omega)];omega)
  have e2:=hlen i (by omega)
  have e3:pickV (l.take (i+1)) a=pickV (l.take i) a++[(a[c.toNat]?).getD Val.zero]:=by rw[take_snoc hc];simp[pickV]
  rw[List.getElem?_eq_getElem (show c.toNat<a.length by omega)]at e3
  simp[PCX,hi,k1,k2,c0,c1,w3,hb,e1,e2,e3,valsL_append,valsL]
theorem copyRow_nil:callA C0 145 [.i (.isl [])] []=some (.osl 0 2 0 0,[some (.arr 2 [])]):=by
 rw[callA_eq rfl Tryz.func145 rfl rfl]
 simp
theorem sconcat_all (a b:List Val) (hl:a.length+b.length<1000000):callA C0 159 [.i (.isl (valsL a)), .i (.isl (valsL b))] []=some (.i (.isl (valsL (a++b))),[]):=by
 by_cases ha:a=[]
 ·subst ha
  have hb:b.length*16≤140737488355328:=by simp at hl;omega
  have e1:b.take b.length=b:=List.take_of_length_le (by simp)
  rw[callA_eq rfl Tryz.func159 rfl rfl]
  simp[valsL,copyRow_nil,hb,e1]
 ·exact sconcat_eq a b ha hl
def keysL (G:List (List Val×Nat)):List (List IV):=rowsL (G.map (·.1))
def cntsL (G:List (List Val×Nat)):List (List IV):=intsL (G.map fun g=>(g.2:Int))
def GTX (t:Tbl) (cs:List Int) (G:List (List Val×Nat)) (i:Nat) (key:List Val) (n9:Nat) (k9:Int) (c46:Bool) (g:AV):AS :=
 { env:=[(0, .i (.agg [.int t.w, .isl (rowsL t.rows)])),(1, .i (.isl (intsL cs))),(2, .own 0 0),(4, .own 1 0),(5, .osl 2 1 0 G.length),(6, .osl 3 1 0 G.length),(7, .int i),(8,jk i (.isl (valsL key))),(9,jk i (.int k9)),(10, .junk),(11, .junk),(18,g),(40,jk i (.bool false)),(46,jk i (.bool c46)),(66, .junk)],
   st:=[some (.box [.i (.int t.w), .i (.isl (rowsL t.rows))]),some (.box [.int 0, .nils]),some (.arr 1 (keysL G)),some (.arr 1 (cntsL G))] }
def GTI (t:Tbl) (cs:List Int) (G:List (List Val×Nat)) (i:Nat) (key:List Val) (c46:Bool) (k:Nat):AS :=
 { env:=[(0, .i (.agg [.int t.w, .isl (rowsL t.rows)])),(1, .i (.isl (intsL cs))),(2, .own 0 0),(4, .own 1 0),(5, .osl 2 1 0 G.length),(6, .osl 3 1 0 G.length),(7, .int i),(8, .i (.isl (valsL key))),(9, .int k),(10, .junk),(11, .junk),(18, .bool true),(40,if k=0 then jk i (.bool false)else .bool true),(46,jk i (.bool c46)),(66, .junk)],
   st:=[some (.box [.i (.int t.w), .i (.isl (rowsL t.rows))]),some (.box [.int 0, .nils]),some (.arr 1 (keysL G)),some (.arr 1 (cntsL G))] }
@[simp] theorem keysL_length (G:List (List Val×Nat)):(keysL G).length=G.length:=by simp[keysL]
@[simp] theorem cntsL_length (G:List (List Val×Nat)):(cntsL G).length=G.length:=by simp[cntsL]
theorem keysL_nth {G:List (List Val×Nat)} {k:Nat} {g:List Val×Nat} (h:G[k]?=some g):nthE (keysL G) k=some [.isl (valsL g.1)]:=rowsL_nth (by rw[List.getElem?_map,h];rfl)
theorem cntsL_nth {G:List (List Val×Nat)} {k:Nat} {g:List Val×Nat} (h:G[k]?=some g):nthE (cntsL G) k=some [.int (g.2:Int)]:=intsL_nth (by rw[List.getElem?_map,h];rfl)
theorem sgroupTable_keys {t:Tbl} (ht:t.ok=true) {cs:List Int} (hcs:cs.length<6) (hc:∀ c∈cs,0≤c∧c<t.w) {i:Nat} {x:List Val} (h3:t.rows[i]?=some x) :
 callA C0 161 [.i (.isl (valsL x)), .i (.isl (intsL cs))] []=some (.i (.isl (valsL (pickV cs x))),[])∧(pickV cs x).all Val.ok=true∧(pickV cs x).length=cs.length ∧
 ∀ g∈groups cs (t.rows.take i),callA C0 156 [.i (.isl (valsL g.1)), .i (.isl (valsL (pickV cs x)))] []=some (.int (rowCmp g.1 (pickV cs x)),[]):=by
 obtain⟨w1,w2,l1,r1⟩:=Tbl.ok_row ht
 have hm:=List.mem_of_getElem? h3
 have hR:=((Tbl.ok_iff _).1 ht).2.2.1
 have ho:=pickV_ok (hR x hm) hc
 refine⟨spickCols_eq x cs (by omega) (fun c hcm=>by rw[(r1 x hm).2.2];exact hc c hcm),rowOk_ok ho,by have:=rowOk_len ho;omega,fun g hg=>?_⟩
 have h5:=(groups_facts cs (fun k=>k.all Val.ok=true∧k.length=cs.length) (t.rows.take i) (fun r hr=>by
  have:=pickV_ok (hR r (List.mem_of_mem_take hr)) hc
  exact⟨rowOk_ok this,by have:=rowOk_len this;omega⟩)).1 g hg
 exact scompareRows_eq g.1 (pickV cs x) (by have:=rowOk_len ho;omega) (by omega) h5.1 (rowOk_ok ho)
theorem keysL_snoc (G:List (List Val×Nat)) (key:List Val) (n:Nat):keysL (G++[(key,n)])=keysL G++[[.isl (valsL key)]]:=by simp[keysL,rowsL]
theorem cntsL_snoc (G:List (List Val×Nat)) (key:List Val) (n:Nat):cntsL (G++[(key,n)])=cntsL G++[[.int (n:Int)]]:=by simp[cntsL,intsL_append,intsL]
theorem keysL_set {G:List (List Val×Nat)} {k:Nat} {g:List Val×Nat} (h:G[k]?=some g) (n:Nat):keysL (G.set k (g.1,n))=keysL G:=by
 unfold keysL
 rw[List.map_set]
 obtain⟨h1,rfl⟩:=List.getElem?_eq_some_iff.1 h
 congr 1
 have e:(G.map (·.1))[k]'(by simpa using h1)=G[k].1:=by simp
 conv=>lhs;rw[show((G[k].1,n):List Val×Nat).1=(G.map (·.1))[k]'(by simpa using h1)from e.symm]
 exact List.set_getElem_self _
theorem cntsL_set (G:List (List Val×Nat)) (k:Nat) (key:List Val) (n:Nat):cntsL (G.set k (key,n))=(cntsL G).set k [.int (n:Int)]:=by
 unfold cntsL
 rw[List.map_set,← intsL_set]
def RTX (t:Tbl) (cs:List Int) (G:List (List Val×Nat)) (i:Nat) (key:List Val) (k9:Int) (c46:Bool) (j:Nat):AS :=
 { env:=[(0, .i (.agg [.int t.w, .isl (rowsL t.rows)])),(1, .i (.isl (intsL cs))),(2, .own 0 0),(4, .own 1 0),(5, .osl 2 1 0 G.length),(6, .osl 3 1 0 G.length),(7, .int i),(8,jk i (.isl (valsL key))),(9,jk i (.int k9)),(10, .osl 4 1 0 j),(11, .int j),(18, .bool false),(40,jk i (.bool false)),(46,jk i (.bool c46)),(66,jk j (.bool true))],
   st:=[some (.box [.i (.int t.w), .i (.isl (rowsL t.rows))]),some (.box [.int 0, .nils]),some (.arr 1 (keysL G)),some (.arr 1 (cntsL G)),some (.arr 1 (rowsL ((G.take j).map numRow)))] }
theorem sgroupTable_eq (t:Tbl) (ht:t.ok=true) (cs:List Int) (hcs:cs.length<6) (hcr:∀ c∈cs,0≤c∧c<t.w):callA C0 109 [.i (.agg [.int t.w, .isl (rowsL t.rows)]), .i (.isl (intsL cs))] []=some (.i (.agg [.int ((cs.length:Int)+1), .isl (rowsL (tab ((cs.length:Int)+1) (groupRows cs t.rows)).rows)]),[]):=by
 obtain⟨w1,w2,l1,r1⟩:=Tbl.ok_row ht
 have hR:=((Tbl.ok_iff _).1 ht).2.2.1
 have hlenG:∀ i,(groups cs (t.rows.take i)).length≤400:=fun i=>by
  have:=(groups_facts cs (fun _=>True) (t.rows.take i) (fun _ _=>trivial)).2.1
  simp at this;omega
 have hcntG:∀ i,∀ g∈groups cs (t.rows.take i),g.2≤400:=fun i g hg=>by
  have:=groups_cnt cs hg
  simp at this;omega
 rw[callA_eq rfl Tryz.func109 rfl rfl]
 simp
 generalize hX:execA C0 _ _ (Code.loop _) _=X
 have key:∃ rr,X=some rr∧∃ (key:List Val) (k9:Int) (c46:Bool),rr=(.exit 0,GTX t cs (groups cs t.rows) t.rows.length key 0 k9 c46 (.bool false)):=by
  rw[← hX]
  refine loop_wf (fun d S=>∃ (i:Nat) (key:List Val) (k9:Int) (c46:Bool),S=GTX t cs (groups cs (t.rows.take i)) i key 0 k9 c46 (jk i (.bool true))∧i≤t.rows.length∧d=t.rows.length-i) ?_ t.rows.length _ ⟨0,[],0,true,by simp[GTX,groups,keysL,cntsL,rowsL_nil,intsL],by omega,by omega⟩
  rintro d S ⟨i,key,k9,c46,rfl,a1,a2⟩
  have hT:(t.rows.take t.rows.length)=t.rows:=List.take_of_length_le (by simp)
  by_cases hi:i<t.rows.length
  ·left
   obtain⟨x,h3⟩:∃ x,t.rows[i]?=some x:=⟨_,List.getElem?_eq_getElem hi⟩
   have hm:=List.mem_of_getElem? h3
   have k1:=rowsL_nth h3
   have hga:=groups_at (cs:=cs) h3
   have w3:IntKind.i64.wrap ((i:Int)+1)=((i+1:Nat):Int):=by rw[wrap64 (by omega) (by omega)];omega
   obtain⟨hpk,ho,hpl,hcm⟩:=sgroupTable_keys ht hcs hcr h3
   have hl:=hlenG i
   have hct:=hcntG i
   generalize groups cs (t.rows.take i)=G at hga hcm hl hct ⊢
   generalize pickV cs x=ky at *
   obtain⟨P,hP⟩:∃ P:AS→Prop,∀ S1,P S1↔∃ (key:List Val) (k9:Int) (c46:Bool),S1=GTX t cs (bump ky G) (i+1) key 0 k9 c46 (.bool true):=⟨fun S1=>_,fun S1=>Iff.rfl⟩
   refine step_of P ?_ (fun S1 hS1=>by
    obtain⟨key',k9',c46',rfl⟩:=(hP S1).1 hS1
    exact⟨t.rows.length-(i+1),by omega,i+1,key',k9',c46',by rw[hga,jk_s],by omega,rfl⟩)
   obtain⟨k,hk0,hk1,hk2⟩:=bump_at ky G
   simp[GTX,hi,k1,hpk]
   rw[loop_to (GTI t cs G i ky c46) k (by simp[GTI])]
   ·rw[execA_loop]
    have e1:List.take G.length (keysL G)=keysL G:=List.take_of_length_le (by simp)
    have e2:List.take G.length (cntsL G)=cntsL G:=List.take_of_length_le (by simp)
    rcases hk2 with ⟨rfl,hb⟩|⟨g,hg,hz,hb⟩
    ·have hb1:(G.length+1)*24≤140737488355328:=by omega
     have hb2:(G.length+1)*8≤140737488355328:=by omega
     have hn:nthE (cntsL G++[[.lit (.int .i64 0)]]) G.length=some [.lit (.int .i64 0)]:=by have:=nthE_append (cntsL G) [IV.lit (.int .i64 0)] [];simpa using this
     have hs:(cntsL G++[[IV.lit (.int .i64 0)]]).set G.length [IV.lit (.int .i64 1)]=cntsL G++[[IV.lit (.int .i64 1)]]:=by rw[List.set_append_right _ _ (by simp)];simp
     refine⟨GTX t cs (G++[(ky,1)]) (i+1) ky 0 G.length true (.bool true),?_,(hP _).2 ⟨ky,G.length,true,by rw[hb]⟩⟩
     have hlt:(G.length:Int)<G.length+1:=by omega
     by_cases h0:G.length=0
     ·have hG:G=[]:=List.length_eq_zero_iff.1 h0
      subst hG
      simp[GTI,GTX,w3,keysL,cntsL,rowsL_nil,rowsL_cons,intsL,wrap_1]
     ·simp[GTI,GTX,h0,hi,w3,hb1,hb2,e1,e2,hn,hs,hlt,keysL_snoc,cntsL_snoc,wrap_1]
    ·have hkl:=(List.getElem?_eq_some_iff.1 hg).1
     have q1:=keysL_nth hg
     have q2:=cntsL_nth hg
     have hc:=hcm g (List.mem_of_getElem? hg)
     have hg4:=hct g (List.mem_of_getElem? hg)
     have hne:¬ k=G.length:=by omega
     have hneI:¬ (k:Int)=G.length:=by omega
     have hneB:((k:Int) == G.length)=false:=by simp[hneI]
     have w5:IntKind.i64.wrap ((g.2:Int)+1)=((g.2+1:Nat):Int):=by rw[wrap64 (by omega) (by omega)];omega
     refine⟨GTX t cs (G.set k (g.1,g.2+1)) (i+1) ky 0 k false (.bool true),?_,(hP _).2 ⟨ky,k,false,by rw[hb]⟩⟩
     by_cases h0:k=0
     ·subst h0
      simp at hneI hneB
      simp[GTI,GTX,hi,hkl,hneI,hneB,q1,q2,hc,hz,hne,w3,w5,keysL_set hg,cntsL_set]
     ·simp[GTI,GTX,h0,hi,hkl,hneI,hneB,q1,q2,hc,hz,hne,w3,w5,keysL_set hg,cntsL_set]
   ·intro j hj
    obtain⟨g,hg⟩:∃ g,G[j]?=some g:=⟨_,List.getElem?_eq_getElem (by omega)⟩
    have hjl:j<G.length:=by omega
    have q1:=keysL_nth hg
    have hc:=hcm g (List.mem_of_getElem? hg)
    have hz:=hk1 j g hj hg
    have w4:IntKind.i64.wrap ((j:Int)+1)=j+1:=wrap64 (by omega) (by omega)
    simp[GTI,hjl,q1,hc,hz,w4]
  ·right
   obtain rfl:i=t.rows.length:=by omega
   refine⟨.exit 0,GTX t cs (groups cs t.rows) t.rows.length key 0 k9 c46 (.bool false),?_,by simp,key,k9,c46,rfl⟩
   rw[hT]
   simp[GTX]
 obtain⟨rr,rfl,key,k9,c46,rfl⟩:=key
 have hl:=hlenG t.rows.length
 have hct:=hcntG t.rows.length
 rw[List.take_of_length_le (Nat.le_refl _)]at hl hct
 have hkey:=(groups_facts cs (fun k=>k.all Val.ok=true∧k.length=cs.length) t.rows (fun r hr=>by
  have:=pickV_ok (hR r hr) hcr
  exact⟨rowOk_ok this,by have:=rowOk_len this;omega⟩)).1
 have hc:=stableOf_eq ((cs.length:Int)+1) (groupRows cs t.rows) (cs.length+1) (by omega) (by omega) (by simp[groupRows];omega) (fun r hr=>by
  obtain⟨g,hg,rfl⟩:=List.mem_map.1 hr
  have h1:=hkey g hg
  have h2:=hct g hg
  unfold numRow
  refine⟨?_,by simp[h1.2]⟩
  rw[List.all_append,h1.1]
  simp[Val.ok];omega)
 unfold groupRows at hc ⊢
 generalize groups cs t.rows=G at *
 have wcs:IntKind.i64.wrap ((cs.length:Int)+1)=(cs.length:Int)+1:=wrap64 (by omega) (by omega)
 simp[GTX]
 rw[loop_to (RTX t cs G t.rows.length key k9 c46) G.length (by simp[RTX,rowsL_nil])]
 ·rw[execA_loop]
  have e1:List.take G.length (G.map numRow)=G.map numRow:=List.take_of_length_le (by simp)
  simp[RTX,hc,e1,wcs]
 ·intro j hj
  obtain⟨g,hg⟩:∃ g,G[j]?=some g:=⟨_,List.getElem?_eq_getElem hj⟩
  have q1:=keysL_nth hg
  have q2:=cntsL_nth hg
  have h1:=hkey g (List.mem_of_getElem? hg)
  have hcc:=sconcat_all g.1 [⟨false,(g.2:Int)⟩] (by rw[h1.2];simp;omega)
  simp only[valsL]at hcc
  have w4:IntKind.i64.wrap ((j:Int)+1)=j+1:=wrap64 (by omega) (by omega)
  have hb:(j+1)*24≤140737488355328:=by omega
  have hT:(G.map numRow).take (j+1)=(G.map numRow).take j++[numRow g]:=take_snoc (by rw[List.getElem?_map,hg];rfl)
  have e1:List.take j (List.take j (G.map numRow))=List.take j (G.map numRow):=by rw[List.take_take,Nat.min_self]
  have hmin:min j G.length=j:=by omega
  simp[RTX,hj,q1,q2,hcc,w4,hb,hT,e1,hmin,rowsL_append,rowsL_cons,rowsL_nil,numRow]
end Go.Proofs.YtiailccmofdhfaaGreat
namespace Go.Av
end Go.Av
namespace Go.Proofs.YtiailccmofdhfaaGreat
open Go Go.Av
set_option maxRecDepth 4000
set_option maxHeartbeats 1000000
end Go.Proofs.YtiailccmofdhfaaGreat
namespace Go.Av
def constE (v:Val):Ex:=.mk 2 0 v []
theorem constE_cells (v:Val):(constE v).cells=[.int 2, .int 0, .bool v.null, .int v.n, .isl []]:=by simp[constE,Ex.cells,Ex.cellsL]
end Go.Av
namespace Go.Proofs.YtiailccmofdhfaaGreat
open Go Go.Av
set_option maxRecDepth 4000
set_option maxHeartbeats 1000000
end Go.Proofs.YtiailccmofdhfaaGreat
namespace Go.Av
mutual
def Ex.ext (w:Int) (vs:List Val):Ex→Ex×List Val
 | .mk k c v ks=>if k=2 then(.mk 1 (w+vs.length) Val.zero [],vs++[v])else((.mk k c Val.zero (Ex.extL w vs ks).1),(Ex.extL w vs ks).2)
def Ex.extL (w:Int) (vs:List Val):List Ex→List Ex×List Val
 | []=>([],vs)
 | e::es=>(((Ex.ext w vs e).1::(Ex.extL w (Ex.ext w vs e).2 es).1),(Ex.extL w (Ex.ext w vs e).2 es).2)
end
end Go.Av
namespace Go.Proofs.YtiailccmofdhfaaGreat
open Go Go.Av
set_option maxRecDepth 4000
set_option maxHeartbeats 2000000
def xv (a b:Nat):AV:=if b=a then .osl 0 2 0 a else .osl 1 2 0 b
def wi (n:Nat):Nat:=if n=0 then 1 else 2
end Go.Proofs.YtiailccmofdhfaaGreat
namespace Go.Av
end Go.Av
namespace Go.Proofs.YtiailccmofdhfaaGreat
open Go Go.Av
set_option maxRecDepth 4000
set_option maxHeartbeats 2000000
end Go.Proofs.YtiailccmofdhfaaGreat
namespace Go.Av
end Go.Av
namespace Go.Proofs.YtiailccmofdhfaaGreat
open Go Go.Av
set_option maxRecDepth 4000
set_option maxHeartbeats 2000000
set_option maxHeartbeats 4000000
def colR (c:Int):Ex:=.mk 1 c Val.zero []
def two (k:Int) (a b:Ex):Ex:=.mk k 0 Val.zero [a,b]
theorem colR_cells (c:Int):(colR c).cells=[.int 1, .int c, .bool false, .int 0, .isl []]:=by simp[colR,Ex.cells,Ex.cellsL,Val.zero]
theorem two_cells (k:Int) (a b:Ex):(two k a b).cells=[.int k, .int 0, .bool false, .int 0, .isl [a.cells,b.cells]]:=by simp[two,Ex.cells,Ex.cellsL,Val.zero]
def costC:Nat→Nat
 | 0=>40
 | n+1=>costC n+40
theorem cond_step (l:List UInt8) (hl:l.length≤2000) (w:Int) (n c:Nat) (hn:n≤3) (p:Int) (h0:0≤p) (h1:p+10*n<500000000)
 (ih:n=0∨∀ p:Int,0≤p→p+10*((n:Int)-1)<500000000→∃ (e:Ex) (p':Int),callA C0 168 [.own 0 0, .int w, .int ((n:Int)-1)] [Rd l p]=some (.i (.agg e.cells),[Rd l p'])∧p≤p'∧p'≤p+c∧e.size≤c) :
 ∃ (e:Ex) (p':Int),callA C0 168 [.own 0 0, .int w, .int n] [Rd l p]=some (.i (.agg e.cells),[Rd l p'])∧p≤p'∧p'≤p+(c+40:Nat)∧e.size≤c+40:=by
 obtain⟨c1,hc1,-,-⟩:=pick_eq l p w h0 (by omega) hl
 obtain⟨x,hx,-,-⟩:=pick_eq l (p+1) 4 (by omega) (by omega) hl
 obtain⟨t,ht,-,-⟩:=pick_eq l (p+1+1) 3 (by omega) (by omega) hl
 obtain⟨c2,hc2,-,-⟩:=pick_eq l (p+1+1+1) w (by omega) (by omega) hl
 have hcon:=constant_eq ⟨false,x⟩
 rw[show(Ex.mk 2 0 ⟨false,x⟩ []).cells=(constE ⟨false,x⟩).cells from rfl]at hcon
 simp at hcon
 have wn:IntKind.i64.wrap ((n:Int)-1)=n-1:=wrap64 (by omega) (by omega)
 by_cases g:t=0
 ·obtain⟨k,hk,-,-⟩:=pick_eq l (p+1+1+1+1) 8 (by omega) (by omega) hl
  by_cases k0:k=0
  ·obtain⟨e,p',he,a1,a2,a3⟩:=randomExpr2 l hl w (p+1+1+1+1+1) (by omega) (by omega)
   refine⟨e,p',?_,by omega,by omega,by omega⟩
   rw[callA_eq rfl Tryz.func168 rfl rfl]
   simp[hc1,hx,ht,hk,hcon,g,hc2,colR_cells,constE_cells,two_cells,Ex.cellsL,k0,he]
  by_cases k1:k=1
  ·refine⟨.mk 10 0 Val.zero [.mk 11 0 Val.zero [colR c1]],p+1+1+1+1+1,?_,by omega,by omega,by simp[colR,Ex.size,Ex.sizeL]⟩
   rw[callA_eq rfl Tryz.func168 rfl rfl]
   simp[hc1,hx,ht,hk,hcon,g,hc2,colR_cells,constE_cells,two_cells,Ex.cellsL,k1,Ex.cells,Val.zero]
  by_cases k2:k=2
  ·rcases ih with rfl|ih
   ·refine⟨two 7 (colR c1) (colR c2),p+1+1+1+1+1,?_,by omega,by omega,by simp[two,colR,constE,Ex.size,Ex.sizeL]⟩
    rw[callA_eq rfl Tryz.func168 rfl rfl]
    simp[hc1,hx,ht,hk,hcon,g,hc2,colR_cells,constE_cells,two_cells,Ex.cellsL,k2]
   ·by_cases n0:n=0
    ·refine⟨two 7 (colR c1) (colR c2),p+1+1+1+1+1,?_,by omega,by omega,by simp[two,colR,constE,Ex.size,Ex.sizeL]⟩
     rw[callA_eq rfl Tryz.func168 rfl rfl]
     simp[hc1,hx,ht,hk,hcon,g,hc2,colR_cells,constE_cells,two_cells,Ex.cellsL,k2,n0]
    ·obtain⟨e,p',he,a1,a2,a3⟩:=ih (p+1+1+1+1+1) (by omega) (by omega)
     refine⟨two 8 e (two 6 (colR c1) (colR c2)),p',?_,by omega,by omega,by simp[two,colR,constE,Ex.size,Ex.sizeL];omega⟩
     rw[callA_eq rfl Tryz.func168 rfl rfl]
     simp[hc1,hx,ht,hk,hcon,g,hc2,colR_cells,constE_cells,two_cells,Ex.cellsL,k2,n0,wn,he]
  by_cases k3:k=3
  ·refine⟨two 7 (colR c2) (colR c1),p+1+1+1+1+1,?_,by omega,by omega,by simp[two,colR,constE,Ex.size,Ex.sizeL]⟩
   rw[callA_eq rfl Tryz.func168 rfl rfl]
   simp[hc1,hx,ht,hk,hcon,g,hc2,colR_cells,constE_cells,two_cells,Ex.cellsL,k3]
  by_cases k4:k=4
  ·refine⟨two 7 (colR c2) (colR c1),p+1+1+1+1+1,?_,by omega,by omega,by simp[two,colR,constE,Ex.size,Ex.sizeL]⟩
   rw[callA_eq rfl Tryz.func168 rfl rfl]
   simp[hc1,hx,ht,hk,hcon,g,hc2,colR_cells,constE_cells,two_cells,Ex.cellsL,k4]
  by_cases k5:k=5
  ·refine⟨two 7 (colR c1) (colR c2),p+1+1+1+1+1,?_,by omega,by omega,by simp[two,colR,constE,Ex.size,Ex.sizeL]⟩
   rw[callA_eq rfl Tryz.func168 rfl rfl]
   simp[hc1,hx,ht,hk,hcon,g,hc2,colR_cells,constE_cells,two_cells,Ex.cellsL,k5]
  refine⟨two 6 (colR c1) (colR c2),p+1+1+1+1+1,?_,by omega,by omega,by simp[two,colR,constE,Ex.size,Ex.sizeL]⟩
  rw[callA_eq rfl Tryz.func168 rfl rfl]
  simp[hc1,hx,ht,hk,hcon,g,hc2,colR_cells,constE_cells,two_cells,Ex.cellsL,k0,k1,k2,k3,k4,k5]
 ·obtain⟨k,hk,-,-⟩:=pick_eq l (p+1+1+1) 8 (by omega) (by omega) hl
  by_cases k0:k=0
  ·obtain⟨e,p',he,a1,a2,a3⟩:=randomExpr2 l hl w (p+1+1+1+1) (by omega) (by omega)
   refine⟨e,p',?_,by omega,by omega,by omega⟩
   rw[callA_eq rfl Tryz.func168 rfl rfl]
   simp[hc1,hx,ht,hk,hcon,g,colR_cells,constE_cells,two_cells,Ex.cellsL,k0,he]
  by_cases k1:k=1
  ·refine⟨.mk 10 0 Val.zero [.mk 11 0 Val.zero [colR c1]],p+1+1+1+1,?_,by omega,by omega,by simp[colR,Ex.size,Ex.sizeL]⟩
   rw[callA_eq rfl Tryz.func168 rfl rfl]
   simp[hc1,hx,ht,hk,hcon,g,colR_cells,constE_cells,two_cells,Ex.cellsL,k1,Ex.cells,Val.zero]
  by_cases k2:k=2
  ·rcases ih with rfl|ih
   ·refine⟨two 7 (colR c1) (constE ⟨false,x⟩),p+1+1+1+1,?_,by omega,by omega,by simp[two,colR,constE,Ex.size,Ex.sizeL]⟩
    rw[callA_eq rfl Tryz.func168 rfl rfl]
    simp[hc1,hx,ht,hk,hcon,g,colR_cells,constE_cells,two_cells,Ex.cellsL,k2]
   ·by_cases n0:n=0
    ·refine⟨two 7 (colR c1) (constE ⟨false,x⟩),p+1+1+1+1,?_,by omega,by omega,by simp[two,colR,constE,Ex.size,Ex.sizeL]⟩
     rw[callA_eq rfl Tryz.func168 rfl rfl]
     simp[hc1,hx,ht,hk,hcon,g,colR_cells,constE_cells,two_cells,Ex.cellsL,k2,n0]
    ·obtain⟨e,p',he,a1,a2,a3⟩:=ih (p+1+1+1+1) (by omega) (by omega)
     refine⟨two 8 e (two 6 (colR c1) (constE ⟨false,x⟩)),p',?_,by omega,by omega,by simp[two,colR,constE,Ex.size,Ex.sizeL];omega⟩
     rw[callA_eq rfl Tryz.func168 rfl rfl]
     simp[hc1,hx,ht,hk,hcon,g,colR_cells,constE_cells,two_cells,Ex.cellsL,k2,n0,wn,he]
  by_cases k3:k=3
  ·refine⟨two 7 (constE ⟨false,x⟩) (colR c1),p+1+1+1+1,?_,by omega,by omega,by simp[two,colR,constE,Ex.size,Ex.sizeL]⟩
   rw[callA_eq rfl Tryz.func168 rfl rfl]
   simp[hc1,hx,ht,hk,hcon,g,colR_cells,constE_cells,two_cells,Ex.cellsL,k3]
  by_cases k4:k=4
  ·refine⟨two 7 (constE ⟨false,x⟩) (colR c1),p+1+1+1+1,?_,by omega,by omega,by simp[two,colR,constE,Ex.size,Ex.sizeL]⟩
   rw[callA_eq rfl Tryz.func168 rfl rfl]
   simp[hc1,hx,ht,hk,hcon,g,colR_cells,constE_cells,two_cells,Ex.cellsL,k4]
  by_cases k5:k=5
  ·refine⟨two 7 (colR c1) (constE ⟨false,x⟩),p+1+1+1+1,?_,by omega,by omega,by simp[two,colR,constE,Ex.size,Ex.sizeL]⟩
   rw[callA_eq rfl Tryz.func168 rfl rfl]
   simp[hc1,hx,ht,hk,hcon,g,colR_cells,constE_cells,two_cells,Ex.cellsL,k5]
  refine⟨two 6 (colR c1) (constE ⟨false,x⟩),p+1+1+1+1,?_,by omega,by omega,by simp[two,colR,constE,Ex.size,Ex.sizeL]⟩
  rw[callA_eq rfl Tryz.func168 rfl rfl]
  simp[hc1,hx,ht,hk,hcon,g,colR_cells,constE_cells,two_cells,Ex.cellsL,k0,k1,k2,k3,k4,k5]
theorem cond_eq (l:List UInt8) (hl:l.length≤2000) (w:Int):∀ (n:Nat),n≤3→∀ p:Int,0≤p→p+10*n<500000000→∃ (e:Ex) (p':Int),callA C0 168 [.own 0 0, .int w, .int n] [Rd l p]=some (.i (.agg e.cells),[Rd l p'])∧p≤p'∧p'≤p+costC n∧e.size≤costC n
 | 0,hn,p,h0,h1=>cond_step l hl w 0 0 hn p h0 h1 (.inl rfl)
 | n+1,hn,p,h0,h1=>by
  refine cond_step l hl w (n+1) (costC n) hn p h0 h1 (.inr fun q q0 q1=>?_)
  rw[show((n+1:Nat):Int)-1=n by omega]at q1 ⊢
  exact cond_eq l hl w n (by omega) q q0 q1
end Go.Proofs.YtiailccmofdhfaaGreat
namespace Go.Av
end Go.Av
namespace Go.Proofs.YtiailccmofdhfaaGreat
open Go Go.Av
set_option maxRecDepth 4000
set_option maxHeartbeats 2000000
theorem randomCondition_eq (l:List UInt8) (hl:l.length≤2000) (w p:Int) (h0:0≤p) (h1:p<400000000):∃ (e:Ex) (p':Int),callA C0 122 [.own 0 0, .int w] [Rd l p]=some (.i (.agg e.cells),[Rd l p'])∧p≤p'∧p'≤p+120∧e.size≤120:=by
 obtain⟨e,p',he,a1,a2,a3⟩:=cond_eq l hl w 2 (by omega) p h0 (by omega)
 refine⟨e,p',?_,a1,a2,a3⟩
 rw[callA_eq rfl Tryz.func122 rfl rfl]
 rw[show((2:Nat):Int)=2 from rfl,Ex.cells_eq]at he
 rw[Ex.cells_eq]
 simp[he]
end Go.Proofs.YtiailccmofdhfaaGreat
namespace Go.Proofs.YtiailccmofdhfaaGreat.P
open Go Go.Av
set_option maxRecDepth 4000
theorem partCases (n:Int):n=1∨n=2∨n=3∨n=4∨n=5∨n=6∨n=7∨n=8∨(n≠1∧n≠2∧n≠3∧n≠4∧n≠5∧n≠6∧n≠7∧n≠8):=by omega
@[simp] theorem partsOfKind_eq (n:Int):callA C0 117 [.int n] []=some (.tup [.int (nExprs n), .int (nKids n)],[]):=by
  rw[callA_eq rfl Tryz.func117 rfl rfl]
  rcases partCases n with rfl|rfl|rfl|rfl|rfl|rfl|rfl|rfl|⟨h1,h2,h3,h4,h5,h6,h7,h8⟩
  all_goals first
   | (simp[nExprs,nKids];done)
   | (have e1:nExprs n=0:=by unfold nExprs;rw[if_neg (by omega)]
      have e2:nKids n=-1:=by unfold nKids;rw[if_neg (by omega),if_neg (by omega),if_neg (by omega)]
      simp[e1,e2,h1,h2,h3,h4,h5,h6,h7,h8])
def pv (cs:List Int) (i:Nat):Int:=((-1)::cs)[i]?.getD 0
theorem pv_succ {cs:List Int} {i:Nat} {c:Int} (h:cs[i]?=some c):pv cs (i+1)=c:=by simp[pv,h]
theorem cols_nth {cs:List Int} {i:Nat} {x:Int×Int} (h:(cs.zip (-1::cs))[i]?=some x):cs[i]?=some x.1∧pv cs i=x.2:=by
 rw[List.getElem?_zip_eq_some]at h
 exact⟨h.1,by simp[pv,h.2]⟩
theorem cols_len (cs:List Int):(cs.zip (-1::cs)).length=cs.length:=by simp
def GX (cs:List Int) (w:Int) (i:Nat):AS :=
 { env:=[(0, .i (.isl (intsL cs))),(1, .int w),(4, .bool false),(5, .int (pv cs i)),(7,jk i (.int (pv cs i))),(10, .bool false),(11, .i (.isl (intsL cs))),(12, .int cs.length),(13, .int i),(14,jk i (.bool true)),(24,jk i (.bool false))],st:=[] }
theorem validGroupColumns_eq (cs:List Int) (w:Int):callA C0 165 [.i (.isl (intsL cs)), .int w] []=some (.bool (decide (cs.length<6) && colsOk w cs),[]):=by
 rw[callA_eq rfl Tryz.func165 rfl rfl]
 by_cases h6:cs.length<6
 case neg=>simp[h6,show(6:Int)≤cs.length by omega]
 simp[h6,show ¬ (6:Int)≤cs.length by omega]
 obtain⟨j,h1,h2⟩:=upto_bad (fun x:Int×Int=>decide (x.2<x.1∧x.1<w)) (cs.zip (-1::cs))
 rw[loop_to (GX cs w) j (by simp[GX,pv])]
 ·rw[execA_loop]
  rcases h2 with ⟨hj,ha⟩|⟨x,h3,_,h4,ha⟩
  ·rw[cols_len]at hj
   have ha:colsOk w cs=true:=ha
   simp[GX,hj,ha]
  ·obtain⟨c1,c2⟩:=cols_nth h3
   have r1:=(List.getElem?_eq_some_iff.1 c1).1
   have r2:=intsL_nth c1
   have hb:¬ (x.2<x.1∧x.1<w):=by simpa using h4
   have ha:colsOk w cs=false:=ha
   by_cases hx:x.1≤x.2
   ·simp[GX,r1,r2,c2,hx,ha]
   ·simp[GX,r1,r2,c2,hx,ha,show w≤x.1 by omega]
 ·intro i hi
  obtain⟨x,h3,_,h4⟩:=h1 i hi
  obtain⟨c1,c2⟩:=cols_nth h3
  have r1:=(List.getElem?_eq_some_iff.1 c1).1
  have r2:=intsL_nth c1
  have c3:=pv_succ c1
  have hb:x.2<x.1∧x.1<w:=by simpa using h4
  have w2:IntKind.i64.wrap ((i:Int)+1)=i+1:=wrap64 (by omega) (by omega)
  simp[GX,r1,r2,c2,c3,w2,show ¬ x.1≤x.2 by omega,show ¬ w≤x.1 by omega]
def WX (p:Pn) (a b y:Int) (x14:Bool) (n21 n22:Nat) (x22:Bool) (n26 n27:Nat) (x27:Bool) (i:Nat):AS :=
 { env:=[(0, .i (.iref [.int p.kind, .int p.table, .isl (Ex.cellsL p.exprs), .isl (intsL p.cols), .isl (Pn.cellsL p.kids)])),(1, .int a),(2, .int b),(6, .int 0),(7, .int y),(8,jk i (.int (i-1))),(13, .int p.kind),(14, .bool x14),(21,jk n21 (.bool false)),(22,jk n22 (.bool x22)),(26,jk n26 (.bool false)),(27,jk n27 (.bool x27)),(35, .junk),(46, .int p.exprs.length),(47, .int i),(48,jk i (.bool true)),(59,jk i (.bool false)),(65, .junk)],st:=[] }
theorem widthOver_eq (p:Pn) (a b:Int) (ha:0≤a∧a≤6) (hb:0≤b∧b≤6) (hd:p.headOk=true):callA C0 118 [.i (.iref p.cells), .int a, .int b] []=some (.int (wdOver p.kind p.exprs p.cols a b),[]):=by
 rw[callA_eq rfl Tryz.func118 rfl rfl]
 have he:=Pn.headOk_exprs hd
 rw[Pn.cells_eq]
 have hg:=validGroupColumns_eq p.cols a
 have w1:IntKind.i64.wrap (a+b)=a+b:=wrap64 (by omega) (by omega)
 by_cases h6:p.kind=6
 ·have h8:p.kind≠8:=by omega
  have h4:p.kind≠5:=by omega
  have hz:p.exprs=[]:=by
   simp only[Pn.headOk,Bool.and_eq_true,decide_eq_true_eq,h6]at hd
   have:=hd.2.1
   simp[nExprs]at this
   exact this
  by_cases hab:a=b
  ·subst hab
   simp[h6]
   rw[execA_loop]
   simp[hz,h6,wdOver]
  ·simp[h6,hab,wdOver]
 by_cases h8:p.kind=8
 ·by_cases h9:p.cols.length<6
  ·have w3:IntKind.i64.wrap ((p.cols.length:Int)+1)=p.cols.length+1:=wrap64 (by omega) (by omega)
   cases hc:colsOk a p.cols<;>simp[h8,hg,h9,hc,wdOver,w3]
  ·simp[h8,hg,h9,wdOver]
 by_cases h45:p.kind=4∨p.kind=5
 ·by_cases hs:a+b≤6
  case neg=>rcases h45 with h4|h4<;>simp[h4,w1,show 6<a+b by omega,wdOver,hs]
  have h4:True:=trivial
  rcases h45 with h45|h45
  ·simp[h45,w1,show ¬ 6<a+b by omega]
   obtain⟨j,h1,h2⟩:=upto_bad (Ex.ok (a+b)) p.exprs
   rw[loop_to (WX p a b (a+b) true 1 0 false 0 0 false) j (by simp[WX,h45])]
   ·rw[execA_loop]
    rcases h2 with ⟨hj,hall⟩|⟨x,h3,_,h5,hall⟩
    ·simp[WX,hj,hall,wdOver,h45,hs]
    ·have r1:=(List.getElem?_eq_some_iff.1 h3).1
     have r2:=Ex.cellsL_nth h3
     have r3:=ok_eq (a+b) x
     rw[h5]at r3
     rw[Ex.cells_eq]at r2 r3
     simp[WX,r1,r2,r3,hall,wdOver,h45,hs]
   ·intro i hi
    obtain⟨x,h3,_,h5⟩:=h1 i hi
    have r1:=(List.getElem?_eq_some_iff.1 h3).1
    have r2:=Ex.cellsL_nth h3
    have r3:=ok_eq (a+b) x
    rw[h5]at r3
    rw[Ex.cells_eq]at r2 r3
    have w2:IntKind.i64.wrap ((i:Int)+1)=i+1:=wrap64 (by omega) (by omega)
    simp[WX,r1,r2,r3,w2,h45]
  ·simp[h45,w1,show ¬ 6<a+b by omega]
   obtain⟨j,h1,h2⟩:=upto_bad (Ex.ok (a+b)) p.exprs
   rw[loop_to (WX p a b (a+b) true 1 0 false 0 0 false) j (by simp[WX,h45])]
   ·rw[execA_loop]
    rcases h2 with ⟨hj,hall⟩|⟨x,h3,_,h5,hall⟩
    ·simp[WX,hj,hall,wdOver,h45,hs]
    ·have r1:=(List.getElem?_eq_some_iff.1 h3).1
     have r2:=Ex.cellsL_nth h3
     have r3:=ok_eq (a+b) x
     rw[h5]at r3
     rw[Ex.cells_eq]at r2 r3
     simp[WX,r1,r2,r3,hall,wdOver,h45,hs]
   ·intro i hi
    obtain⟨x,h3,_,h5⟩:=h1 i hi
    have r1:=(List.getElem?_eq_some_iff.1 h3).1
    have r2:=Ex.cellsL_nth h3
    have r3:=ok_eq (a+b) x
    rw[h5]at r3
    rw[Ex.cells_eq]at r2 r3
    have w2:IntKind.i64.wrap ((i:Int)+1)=i+1:=wrap64 (by omega) (by omega)
    simp[WX,r1,r2,r3,w2,h45]
 have h4:p.kind≠4:=by omega
 have h5':p.kind≠5:=by omega
 simp[h6,h8,h4,h5']
 obtain⟨j,h1,h2⟩:=upto_bad (Ex.ok (a)) p.exprs
 rw[loop_to (WX p a b a false 0 1 false 0 1 false) j (by simp[WX,h6,h8,h5'])]
 ·rw[execA_loop]
  rcases h2 with ⟨hj,hall⟩|⟨x,h3,_,h5,hall⟩
  ·by_cases h3':p.kind=3
   ·simp[WX,hj,hall,wdOver,h3']
   ·simp[WX,hj,hall,wdOver,h6,h8,h4,h5',h3']
  ·have r1:=(List.getElem?_eq_some_iff.1 h3).1
   have r2:=Ex.cellsL_nth h3
   have r3:=ok_eq (a) x
   rw[h5]at r3
   rw[Ex.cells_eq]at r2 r3
   by_cases h3':p.kind=3
   ·simp[WX,r1,r2,r3,hall,wdOver,h3']
   ·simp[WX,r1,r2,r3,hall,wdOver,h6,h8,h4,h5',h3']
 ·intro i hi
  obtain⟨x,h3,_,h5⟩:=h1 i hi
  have r1:=(List.getElem?_eq_some_iff.1 h3).1
  have r2:=Ex.cellsL_nth h3
  have r3:=ok_eq (a) x
  rw[h5]at r3
  rw[Ex.cells_eq]at r2 r3
  have w2:IntKind.i64.wrap ((i:Int)+1)=i+1:=wrap64 (by omega) (by omega)
  simp[WX,r1,r2,r3,w2]
set_option maxHeartbeats 2000000
@[simp] theorem nKids_1:nKids 1=0:=by decide
@[simp] theorem nExprs_1:nExprs 1=0:=by decide
@[simp] theorem nKids_2:nKids 2=1:=by decide
@[simp] theorem nExprs_2:nExprs 2=1:=by decide
@[simp] theorem nKids_3:nKids 3=1:=by decide
@[simp] theorem nExprs_3:nExprs 3=1:=by decide
@[simp] theorem nKids_4:nKids 4=2:=by decide
@[simp] theorem nExprs_4:nExprs 4=1:=by decide
@[simp] theorem nKids_5:nKids 5=2:=by decide
@[simp] theorem nExprs_5:nExprs 5=1:=by decide
@[simp] theorem nKids_6:nKids 6=2:=by decide
@[simp] theorem nExprs_6:nExprs 6=0:=by decide
@[simp] theorem nKids_7:nKids 7=1:=by decide
@[simp] theorem nExprs_7:nExprs 7=0:=by decide
@[simp] theorem nKids_8:nKids 8=1:=by decide
@[simp] theorem nExprs_8:nExprs 8=0:=by decide
theorem nKids_no {k:Int} (h:k≠1∧k≠2∧k≠3∧k≠4∧k≠5∧k≠6∧k≠7∧k≠8):nKids k=-1:=by
 unfold nKids;rw[if_neg (by omega),if_neg (by omega),if_neg (by omega)]
theorem below_other {ws:List Int} {t:Int} {es:List Ex} {cs:List Int} {ks:List Pn} {lv:Nat} {k:Int} (h:k≠1∧k≠2∧k≠3∧k≠4∧k≠5∧k≠6∧k≠7∧k≠8):callA C0 70 [.i (.iref [.int k, .int t, .isl (Ex.cellsL es), .isl (intsL cs), .isl (Pn.cellsL ks)]), .i (.isl (intsL ws)), .int lv] []=some (.int 0,[]):=by
 rw[callA_eq rfl Tryz.func70 rfl rfl]
 have c1:¬ (ks.length:Int)=-1:=by omega
 have hn:=nKids_no h
 simp[h.2.2.1,hn,c1]
theorem below_no1 {ws:List Int} {t:Int} {es:List Ex} {cs:List Int} {ks:List Pn} {lv:Nat} (h:¬ ((ks.length:Int)=0∧(es.length:Int)=0∧True∧cs=[])):callA C0 70 [.i (.iref [.int 1, .int t, .isl (Ex.cellsL es), .isl (intsL cs), .isl (Pn.cellsL ks)]), .i (.isl (intsL ws)), .int lv] []=some (.int 0,[]):=by
 rw[callA_eq rfl Tryz.func70 rfl rfl]
 by_cases c1:(ks.length:Int)=0
 case neg=>simp at c1;simp[c1]
 by_cases c2:(es.length:Int)=0
 case neg=>simp at c2;simp[c1,c2]
 by_cases c5:cs=[]
 case neg=>simp[c1,c2,c5]
 exact absurd (by simp[c1,c2,c5]) h
theorem below_no2 {ws:List Int} {t:Int} {es:List Ex} {cs:List Int} {ks:List Pn} {lv:Nat} (h:¬ ((ks.length:Int)=1∧(es.length:Int)=1∧lv≠0∧t=0∧cs=[])):callA C0 70 [.i (.iref [.int 2, .int t, .isl (Ex.cellsL es), .isl (intsL cs), .isl (Pn.cellsL ks)]), .i (.isl (intsL ws)), .int lv] []=some (.int 0,[]):=by
 rw[callA_eq rfl Tryz.func70 rfl rfl]
 by_cases c1:(ks.length:Int)=1
 case neg=>simp[c1]
 by_cases c2:(es.length:Int)=1
 case neg=>simp[c1,c2]
 by_cases c3:lv=0
 case pos=>subst c3;simp[c1,c2]
 have c3':¬ (lv:Int)=0:=by omega
 by_cases c4:t=0
 case neg=>simp[c1,c2,c3,c3',c4]
 by_cases c5:cs=[]
 case neg=>simp[c1,c2,c3,c3',c4,c5]
 exact absurd (by simp[c1,c2,c3,c3',c4,c5]) h
theorem below_no3 {ws:List Int} {t:Int} {es:List Ex} {cs:List Int} {ks:List Pn} {lv:Nat} (h:¬ ((ks.length:Int)=1∧(es.length:Int)=(if okWidth es.length=true then(es.length:Int)else 1)∧lv≠0∧t=0∧cs=[])):callA C0 70 [.i (.iref [.int 3, .int t, .isl (Ex.cellsL es), .isl (intsL cs), .isl (Pn.cellsL ks)]), .i (.isl (intsL ws)), .int lv] []=some (.int 0,[]):=by
 rw[callA_eq rfl Tryz.func70 rfl rfl]
 cases hv:okWidth es.length
 ·have hq:(es.length:Int)≠1:=fun hq=>by rw[hq]at hv;simp[okWidth]at hv
  by_cases c1:(ks.length:Int)=1
  case neg=>simp[hv,c1]
  simp[hv,c1,hq]
 by_cases c1:(ks.length:Int)=1
 case neg=>simp[hv,c1]
 by_cases c3:lv=0
 case pos=>subst c3;simp[hv,c1]
 have c3':¬ (lv:Int)=0:=by omega
 by_cases c4:t=0
 case neg=>simp[hv,c1,c3,c3',c4]
 by_cases c5:cs=[]
 case neg=>simp[hv,c1,c3,c3',c4,c5]
 exact absurd (by simp[hv,c1,c3,c4,c5]) h
theorem below_no4 {ws:List Int} {t:Int} {es:List Ex} {cs:List Int} {ks:List Pn} {lv:Nat} (h:¬ ((ks.length:Int)=2∧(es.length:Int)=1∧lv≠0∧t=0∧cs=[])):callA C0 70 [.i (.iref [.int 4, .int t, .isl (Ex.cellsL es), .isl (intsL cs), .isl (Pn.cellsL ks)]), .i (.isl (intsL ws)), .int lv] []=some (.int 0,[]):=by
 rw[callA_eq rfl Tryz.func70 rfl rfl]
 by_cases c1:(ks.length:Int)=2
 case neg=>simp[c1]
 by_cases c2:(es.length:Int)=1
 case neg=>simp[c1,c2]
 by_cases c3:lv=0
 case pos=>subst c3;simp[c1,c2]
 have c3':¬ (lv:Int)=0:=by omega
 by_cases c4:t=0
 case neg=>simp[c1,c2,c3,c3',c4]
 by_cases c5:cs=[]
 case neg=>simp[c1,c2,c3,c3',c4,c5]
 exact absurd (by simp[c1,c2,c3,c3',c4,c5]) h
theorem below_no5 {ws:List Int} {t:Int} {es:List Ex} {cs:List Int} {ks:List Pn} {lv:Nat} (h:¬ ((ks.length:Int)=2∧(es.length:Int)=1∧lv≠0∧t=0∧cs=[])):callA C0 70 [.i (.iref [.int 5, .int t, .isl (Ex.cellsL es), .isl (intsL cs), .isl (Pn.cellsL ks)]), .i (.isl (intsL ws)), .int lv] []=some (.int 0,[]):=by
 rw[callA_eq rfl Tryz.func70 rfl rfl]
 by_cases c1:(ks.length:Int)=2
 case neg=>simp[c1]
 by_cases c2:(es.length:Int)=1
 case neg=>simp[c1,c2]
 by_cases c3:lv=0
 case pos=>subst c3;simp[c1,c2]
 have c3':¬ (lv:Int)=0:=by omega
 by_cases c4:t=0
 case neg=>simp[c1,c2,c3,c3',c4]
 by_cases c5:cs=[]
 case neg=>simp[c1,c2,c3,c3',c4,c5]
 exact absurd (by simp[c1,c2,c3,c3',c4,c5]) h
theorem below_no6 {ws:List Int} {t:Int} {es:List Ex} {cs:List Int} {ks:List Pn} {lv:Nat} (h:¬ ((ks.length:Int)=2∧(es.length:Int)=0∧lv≠0∧t=0∧cs=[])):callA C0 70 [.i (.iref [.int 6, .int t, .isl (Ex.cellsL es), .isl (intsL cs), .isl (Pn.cellsL ks)]), .i (.isl (intsL ws)), .int lv] []=some (.int 0,[]):=by
 rw[callA_eq rfl Tryz.func70 rfl rfl]
 by_cases c1:(ks.length:Int)=2
 case neg=>simp[c1]
 by_cases c2:(es.length:Int)=0
 case neg=>simp at c2;simp[c1,c2]
 by_cases c3:lv=0
 case pos=>subst c3;simp[c1,c2]
 have c3':¬ (lv:Int)=0:=by omega
 by_cases c4:t=0
 case neg=>simp[c1,c2,c3,c3',c4]
 by_cases c5:cs=[]
 case neg=>simp[c1,c2,c3,c3',c4,c5]
 exact absurd (by simp[c1,c2,c3,c3',c4,c5]) h
theorem below_no7 {ws:List Int} {t:Int} {es:List Ex} {cs:List Int} {ks:List Pn} {lv:Nat} (h:¬ ((ks.length:Int)=1∧(es.length:Int)=0∧lv≠0∧t=0∧cs=[])):callA C0 70 [.i (.iref [.int 7, .int t, .isl (Ex.cellsL es), .isl (intsL cs), .isl (Pn.cellsL ks)]), .i (.isl (intsL ws)), .int lv] []=some (.int 0,[]):=by
 rw[callA_eq rfl Tryz.func70 rfl rfl]
 by_cases c1:(ks.length:Int)=1
 case neg=>simp[c1]
 by_cases c2:(es.length:Int)=0
 case neg=>simp at c2;simp[c1,c2]
 by_cases c3:lv=0
 case pos=>subst c3;simp[c1,c2]
 have c3':¬ (lv:Int)=0:=by omega
 by_cases c4:t=0
 case neg=>simp[c1,c2,c3,c3',c4]
 by_cases c5:cs=[]
 case neg=>simp[c1,c2,c3,c3',c4,c5]
 exact absurd (by simp[c1,c2,c3,c3',c4,c5]) h
theorem below_no8 {ws:List Int} {t:Int} {es:List Ex} {cs:List Int} {ks:List Pn} {lv:Nat} (h:¬ ((ks.length:Int)=1∧(es.length:Int)=0∧lv≠0∧t=0)):callA C0 70 [.i (.iref [.int 8, .int t, .isl (Ex.cellsL es), .isl (intsL cs), .isl (Pn.cellsL ks)]), .i (.isl (intsL ws)), .int lv] []=some (.int 0,[]):=by
 rw[callA_eq rfl Tryz.func70 rfl rfl]
 by_cases c1:(ks.length:Int)=1
 case neg=>simp[c1]
 by_cases c2:(es.length:Int)=0
 case neg=>simp at c2;simp[c1,c2]
 by_cases c3:lv=0
 case pos=>subst c3;simp[c1,c2]
 have c3':¬ (lv:Int)=0:=by omega
 by_cases c4:t=0
 case neg=>simp[c1,c2,c3,c3',c4]
 exact absurd (by simp[c1,c2,c3,c3',c4]) h
theorem below_yes1 {ws:List Int} {t:Int} {lv:Nat}:callA C0 70 [.i (.iref [.int 1, .int t, .isl (Ex.cellsL []), .isl (intsL []), .isl (Pn.cellsL [])]), .i (.isl (intsL ws)), .int lv] []=some (.int (if 0≤t then(ws[t.toNat]?).getD 0 else 0),[]):=by
 rw[callA_eq rfl Tryz.func70 rfl rfl]
 by_cases h0:0≤t
 case neg=>simp[Ex.cellsL,Pn.cellsL,intsL,h0,show t<0 by omega]
 cases hx:ws[t.toNat]? with
 | none =>
  have:=List.getElem?_eq_none_iff.1 hx
  simp[Ex.cellsL,Pn.cellsL,intsL,h0,show ¬ t<0 by omega,show(ws.length:Int)≤t by omega]
 | some x =>
  have r1:=(List.getElem?_eq_some_iff.1 hx).1
  have r2:=intsL_nth hx
  simp[Ex.cellsL,Pn.cellsL,intsL,h0,show ¬ t<0 by omega,show ¬ (ws.length:Int)≤t by omega,r2,show t<ws.length by omega]
theorem below_yes2 {ws:List Int} {es:List Ex} {a:Pn} {lv:Nat} {va:Int} (hl:lv≠0) (hl8:lv≤8) (hd:Pn.headOk (Pn.mk 2 0 es [] [a])=true) (ha:callA C0 70 [.i (.iref a.cells), .i (.isl (intsL ws)), .int (lv-1:Nat)] []=some (.int va,[])) (ra:0≤va∧va≤6):callA C0 70 [.i (.iref [.int 2, .int 0, .isl (Ex.cellsL es), .isl (intsL []), .isl (Pn.cellsL [a])]), .i (.isl (intsL ws)), .int lv] []=some (.int (if va=0 then 0 else wdOver 2 es [] va 0),[]):=by
 rw[callA_eq rfl Tryz.func70 rfl rfl]
 have c3':¬ (lv:Int)=0:=by omega
 have w1:IntKind.i64.wrap ((lv:Int)-1)=(lv-1:Nat):=by rw[wrap64 (by omega) (by omega)];omega
 have r0:nthE [a.cells] 0=some a.cells:=rfl
 have hov:=widthOver_eq (Pn.mk 2 0 es [] [a]) va 0 ra (by omega) hd
 rw[Pn.cells_mk]at hov
 simp only[Pn.kind_mk,Pn.exprs_mk,Pn.cols_mk,Pn.cellsL,intsL,Ex.cellsL]at hov
 rw[Pn.cells_eq a]at ha hov r0
 have c2:(es.length:Int)=1:=by
  simp only[Pn.headOk,Bool.and_eq_true,decide_eq_true_eq,Pn.exprs_mk,Pn.kind_mk]at hd
  simpa using hd.2.1
 simp[c2,hl,c3',Pn.cellsL,intsL,Ex.cellsL]
 rw[Pn.cells_eq a]
 rw[execA_loop]
 by_cases z1:va=0
 case pos=>simp[w1,ha,r0,z1]
 simp[w1,ha,r0,z1,wrap_1]
 rw[execA_loop]
 simp[hov,z1]
theorem below_yes3 {ws:List Int} {es:List Ex} {a:Pn} {lv:Nat} {va:Int} (hl:lv≠0) (hl8:lv≤8) (hd:Pn.headOk (Pn.mk 3 0 es [] [a])=true) (ha:callA C0 70 [.i (.iref a.cells), .i (.isl (intsL ws)), .int (lv-1:Nat)] []=some (.int va,[])) (ra:0≤va∧va≤6):callA C0 70 [.i (.iref [.int 3, .int 0, .isl (Ex.cellsL es), .isl (intsL []), .isl (Pn.cellsL [a])]), .i (.isl (intsL ws)), .int lv] []=some (.int (if va=0 then 0 else wdOver 3 es [] va 0),[]):=by
 rw[callA_eq rfl Tryz.func70 rfl rfl]
 have c3':¬ (lv:Int)=0:=by omega
 have w1:IntKind.i64.wrap ((lv:Int)-1)=(lv-1:Nat):=by rw[wrap64 (by omega) (by omega)];omega
 have r0:nthE [a.cells] 0=some a.cells:=rfl
 have hov:=widthOver_eq (Pn.mk 3 0 es [] [a]) va 0 ra (by omega) hd
 rw[Pn.cells_mk]at hov
 simp only[Pn.kind_mk,Pn.exprs_mk,Pn.cols_mk,Pn.cellsL,intsL,Ex.cellsL]at hov
 rw[Pn.cells_eq a]at ha hov r0
 have hv:okWidth es.length=true∨(es.length:Int)=1:=by
  simp only[Pn.headOk,Bool.and_eq_true,decide_eq_true_eq,Pn.exprs_mk,Pn.kind_mk]at hd
  have:=hd.2.1
  split at this
  ·rename_i h;exact .inl h.2
  ·exact .inr (by simpa using this)
 have hv:okWidth es.length=true:=by
  rcases hv with h|h
  ·exact h
  ·rw[h];decide
 simp[hv,hl,c3',Pn.cellsL,intsL,Ex.cellsL]
 rw[Pn.cells_eq a]
 rw[execA_loop]
 by_cases z1:va=0
 case pos=>simp[w1,ha,r0,z1]
 simp[w1,ha,r0,z1,wrap_1]
 rw[execA_loop]
 simp[hov,z1]
theorem below_yes4 {ws:List Int} {es:List Ex} {a b:Pn} {lv:Nat} {va vb:Int} (hl:lv≠0) (hl8:lv≤8) (hd:Pn.headOk (Pn.mk 4 0 es [] [a,b])=true) (ha:callA C0 70 [.i (.iref a.cells), .i (.isl (intsL ws)), .int (lv-1:Nat)] []=some (.int va,[])) (ra:0≤va∧va≤6) (hb:callA C0 70 [.i (.iref b.cells), .i (.isl (intsL ws)), .int (lv-1:Nat)] []=some (.int vb,[])) (rb:0≤vb∧vb≤6):callA C0 70 [.i (.iref [.int 4, .int 0, .isl (Ex.cellsL es), .isl (intsL []), .isl (Pn.cellsL [a,b])]), .i (.isl (intsL ws)), .int lv] []=some (.int (if va=0∨vb=0 then 0 else wdOver 4 es [] va vb),[]):=by
 rw[callA_eq rfl Tryz.func70 rfl rfl]
 have c3':¬ (lv:Int)=0:=by omega
 have w1:IntKind.i64.wrap ((lv:Int)-1)=(lv-1:Nat):=by rw[wrap64 (by omega) (by omega)];omega
 have r0:nthE [a.cells,b.cells] 0=some a.cells:=rfl
 have r1:nthE [a.cells,b.cells] 1=some b.cells:=rfl
 have hov:=widthOver_eq (Pn.mk 4 0 es [] [a,b]) va vb ra rb hd
 rw[Pn.cells_mk]at hov
 simp only[Pn.kind_mk,Pn.exprs_mk,Pn.cols_mk,Pn.cellsL,intsL,Ex.cellsL]at hov
 rw[Pn.cells_eq a]at ha hov r0 r1
 rw[Pn.cells_eq b]at hb hov r0 r1
 have c2:(es.length:Int)=1:=by
  simp only[Pn.headOk,Bool.and_eq_true,decide_eq_true_eq,Pn.exprs_mk,Pn.kind_mk]at hd
  simpa using hd.2.1
 simp[c2,hl,c3',Pn.cellsL,intsL,Ex.cellsL]
 rw[Pn.cells_eq a,Pn.cells_eq b]
 rw[execA_loop]
 by_cases z1:va=0
 case pos=>simp[w1,ha,r0,z1]
 simp[w1,ha,r0,z1,wrap_1]
 rw[execA_loop]
 by_cases z2:vb=0
 case pos=>simp[w1,hb,r1,z2]
 simp[w1,hb,r1,z1,z2,wrap64 (x:=2) (by omega) (by omega)]
 rw[execA_loop]
 simp[hov,z1,z2]
theorem below_yes5 {ws:List Int} {es:List Ex} {a b:Pn} {lv:Nat} {va vb:Int} (hl:lv≠0) (hl8:lv≤8) (hd:Pn.headOk (Pn.mk 5 0 es [] [a,b])=true) (ha:callA C0 70 [.i (.iref a.cells), .i (.isl (intsL ws)), .int (lv-1:Nat)] []=some (.int va,[])) (ra:0≤va∧va≤6) (hb:callA C0 70 [.i (.iref b.cells), .i (.isl (intsL ws)), .int (lv-1:Nat)] []=some (.int vb,[])) (rb:0≤vb∧vb≤6):callA C0 70 [.i (.iref [.int 5, .int 0, .isl (Ex.cellsL es), .isl (intsL []), .isl (Pn.cellsL [a,b])]), .i (.isl (intsL ws)), .int lv] []=some (.int (if va=0∨vb=0 then 0 else wdOver 5 es [] va vb),[]):=by
 rw[callA_eq rfl Tryz.func70 rfl rfl]
 have c3':¬ (lv:Int)=0:=by omega
 have w1:IntKind.i64.wrap ((lv:Int)-1)=(lv-1:Nat):=by rw[wrap64 (by omega) (by omega)];omega
 have r0:nthE [a.cells,b.cells] 0=some a.cells:=rfl
 have r1:nthE [a.cells,b.cells] 1=some b.cells:=rfl
 have hov:=widthOver_eq (Pn.mk 5 0 es [] [a,b]) va vb ra rb hd
 rw[Pn.cells_mk]at hov
 simp only[Pn.kind_mk,Pn.exprs_mk,Pn.cols_mk,Pn.cellsL,intsL,Ex.cellsL]at hov
 rw[Pn.cells_eq a]at ha hov r0 r1
 rw[Pn.cells_eq b]at hb hov r0 r1
 have c2:(es.length:Int)=1:=by
  simp only[Pn.headOk,Bool.and_eq_true,decide_eq_true_eq,Pn.exprs_mk,Pn.kind_mk]at hd
  simpa using hd.2.1
 simp[c2,hl,c3',Pn.cellsL,intsL,Ex.cellsL]
 rw[Pn.cells_eq a,Pn.cells_eq b]
 rw[execA_loop]
 by_cases z1:va=0
 case pos=>simp[w1,ha,r0,z1]
 simp[w1,ha,r0,z1,wrap_1]
 rw[execA_loop]
 by_cases z2:vb=0
 case pos=>simp[w1,hb,r1,z2]
 simp[w1,hb,r1,z1,z2,wrap64 (x:=2) (by omega) (by omega)]
 rw[execA_loop]
 simp[hov,z1,z2]
theorem below_yes6 {ws:List Int} {a b:Pn} {lv:Nat} {va vb:Int} (hl:lv≠0) (hl8:lv≤8) (hd:Pn.headOk (Pn.mk 6 0 [] [] [a,b])=true) (ha:callA C0 70 [.i (.iref a.cells), .i (.isl (intsL ws)), .int (lv-1:Nat)] []=some (.int va,[])) (ra:0≤va∧va≤6) (hb:callA C0 70 [.i (.iref b.cells), .i (.isl (intsL ws)), .int (lv-1:Nat)] []=some (.int vb,[])) (rb:0≤vb∧vb≤6):callA C0 70 [.i (.iref [.int 6, .int 0, .isl (Ex.cellsL []), .isl (intsL []), .isl (Pn.cellsL [a,b])]), .i (.isl (intsL ws)), .int lv] []=some (.int (if va=0∨vb=0 then 0 else wdOver 6 [] [] va vb),[]):=by
 rw[callA_eq rfl Tryz.func70 rfl rfl]
 have c3':¬ (lv:Int)=0:=by omega
 have w1:IntKind.i64.wrap ((lv:Int)-1)=(lv-1:Nat):=by rw[wrap64 (by omega) (by omega)];omega
 have r0:nthE [a.cells,b.cells] 0=some a.cells:=rfl
 have r1:nthE [a.cells,b.cells] 1=some b.cells:=rfl
 have hov:=widthOver_eq (Pn.mk 6 0 [] [] [a,b]) va vb ra rb hd
 rw[Pn.cells_mk]at hov
 simp only[Pn.kind_mk,Pn.exprs_mk,Pn.cols_mk,Pn.cellsL,intsL,Ex.cellsL]at hov
 rw[Pn.cells_eq a]at ha hov r0 r1
 rw[Pn.cells_eq b]at hb hov r0 r1
 simp[hl,c3',Pn.cellsL,intsL,Ex.cellsL]
 rw[Pn.cells_eq a,Pn.cells_eq b]
 rw[execA_loop]
 by_cases z1:va=0
 case pos=>simp[w1,ha,r0,z1]
 simp[w1,ha,r0,z1,wrap_1]
 rw[execA_loop]
 by_cases z2:vb=0
 case pos=>simp[w1,hb,r1,z2]
 simp[w1,hb,r1,z1,z2,wrap64 (x:=2) (by omega) (by omega)]
 rw[execA_loop]
 simp[hov,z1,z2]
theorem below_yes7 {ws:List Int} {a:Pn} {lv:Nat} {va:Int} (hl:lv≠0) (hl8:lv≤8) (hd:Pn.headOk (Pn.mk 7 0 [] [] [a])=true) (ha:callA C0 70 [.i (.iref a.cells), .i (.isl (intsL ws)), .int (lv-1:Nat)] []=some (.int va,[])) (ra:0≤va∧va≤6):callA C0 70 [.i (.iref [.int 7, .int 0, .isl (Ex.cellsL []), .isl (intsL []), .isl (Pn.cellsL [a])]), .i (.isl (intsL ws)), .int lv] []=some (.int (if va=0 then 0 else wdOver 7 [] [] va 0),[]):=by
 rw[callA_eq rfl Tryz.func70 rfl rfl]
 have c3':¬ (lv:Int)=0:=by omega
 have w1:IntKind.i64.wrap ((lv:Int)-1)=(lv-1:Nat):=by rw[wrap64 (by omega) (by omega)];omega
 have r0:nthE [a.cells] 0=some a.cells:=rfl
 have hov:=widthOver_eq (Pn.mk 7 0 [] [] [a]) va 0 ra (by omega) hd
 rw[Pn.cells_mk]at hov
 simp only[Pn.kind_mk,Pn.exprs_mk,Pn.cols_mk,Pn.cellsL,intsL,Ex.cellsL]at hov
 rw[Pn.cells_eq a]at ha hov r0
 simp[hl,c3',Pn.cellsL,intsL,Ex.cellsL]
 rw[Pn.cells_eq a]
 rw[execA_loop]
 by_cases z1:va=0
 case pos=>simp[w1,ha,r0,z1]
 simp[w1,ha,r0,z1,wrap_1]
 rw[execA_loop]
 simp[hov,z1]
theorem below_yes8 {ws:List Int} {cs:List Int} {a:Pn} {lv:Nat} {va:Int} (hl:lv≠0) (hl8:lv≤8) (hd:Pn.headOk (Pn.mk 8 0 [] cs [a])=true) (ha:callA C0 70 [.i (.iref a.cells), .i (.isl (intsL ws)), .int (lv-1:Nat)] []=some (.int va,[])) (ra:0≤va∧va≤6):callA C0 70 [.i (.iref [.int 8, .int 0, .isl (Ex.cellsL []), .isl (intsL cs), .isl (Pn.cellsL [a])]), .i (.isl (intsL ws)), .int lv] []=some (.int (if va=0 then 0 else wdOver 8 [] cs va 0),[]):=by
 rw[callA_eq rfl Tryz.func70 rfl rfl]
 have c3':¬ (lv:Int)=0:=by omega
 have w1:IntKind.i64.wrap ((lv:Int)-1)=(lv-1:Nat):=by rw[wrap64 (by omega) (by omega)];omega
 have r0:nthE [a.cells] 0=some a.cells:=rfl
 have hov:=widthOver_eq (Pn.mk 8 0 [] cs [a]) va 0 ra (by omega) hd
 rw[Pn.cells_mk]at hov
 simp only[Pn.kind_mk,Pn.exprs_mk,Pn.cols_mk,Pn.cellsL,intsL,Ex.cellsL]at hov
 rw[Pn.cells_eq a]at ha hov r0
 simp[hl,c3',Pn.cellsL,intsL,Ex.cellsL]
 rw[Pn.cells_eq a]
 rw[execA_loop]
 by_cases z1:va=0
 case pos=>simp[w1,ha,r0,z1]
 simp[w1,ha,r0,z1,wrap_1]
 rw[execA_loop]
 simp[hov,z1]
theorem headOk_iff (k t:Int) (es:List Ex) (cs:List Int) (ks:List Pn):Pn.headOk (.mk k t es cs ks)=true↔((ks.length:Int)=nKids k∧(es.length:Int)=(if k=3∧okWidth es.length=true then(es.length:Int)else nExprs k)∧(k=1∨t=0)∧(k=8∨cs=[])):=by
 unfold Pn.headOk
 simp only[Bool.and_eq_true,Bool.or_eq_true,decide_eq_true_eq]
 exact Iff.rfl
theorem len_one {α:Type} {l:List α} (h:(l.length:Int)=1):∃ a,l=[a]:=List.length_eq_one_iff.1 (by omega)
theorem len_two {α:Type} {l:List α} (h:(l.length:Int)=2):∃ a b,l=[a,b]:=by
 match l,h with
 | [a,b],_=>exact⟨a,b,rfl⟩
 | [],h=>simp at h
 | [_],h=>simp at h
 | _::_::_::_,h=>simp at h;omega
theorem len_zero {α:Type} {l:List α} (h:(l.length:Int)=0):l=[]:=List.length_eq_zero_iff.1 (by omega)
theorem widthBelow_eq {ws:List Int} (hw:∀ w∈ws,0≤w∧w≤6):∀ (p:Pn) (lv:Nat),lv≤8→callA C0 70 [.i (.iref p.cells), .i (.isl (intsL ws)), .int lv] []=some (.int (p.wd ws lv),[]):=by
 intro p
 induction p using Pn.ind with
 | h k t es cs ks ih =>
  intro lv hlv
  rw[Pn.cells_mk]
  by_cases hh:Pn.headOk (.mk k t es cs ks)=true∧(ks=[]∨lv≠0)
  case neg =>
   rw[Pn.wd_no hh]
   rw[headOk_iff]at hh
   rcases partCases k with rfl|rfl|rfl|rfl|rfl|rfl|rfl|rfl|h
   ·refine below_no1 fun h=>hh ?_
    have:=len_zero h.1
    simp[h.2.1,h.2.2.2,this]
   ·exact below_no2 fun h=>hh (by simp[h.1,h.2.1,h.2.2.1,h.2.2.2.1,h.2.2.2.2])
   ·exact below_no3 fun h=>hh (by refine⟨⟨by simp[h.1],by simpa using h.2.1,by simp[h.2.2.2.1],by simp[h.2.2.2.2]⟩, .inr h.2.2.1⟩)
   ·exact below_no4 fun h=>hh (by simp[h.1,h.2.1,h.2.2.1,h.2.2.2.1,h.2.2.2.2])
   ·exact below_no5 fun h=>hh (by simp[h.1,h.2.1,h.2.2.1,h.2.2.2.1,h.2.2.2.2])
   ·exact below_no6 fun h=>hh (by simp[h.1,len_zero h.2.1,h.2.2.1,h.2.2.2.1,h.2.2.2.2])
   ·exact below_no7 fun h=>hh (by simp[h.1,len_zero h.2.1,h.2.2.1,h.2.2.2.1,h.2.2.2.2])
   ·exact below_no8 fun h=>hh (by simp[h.1,len_zero h.2.1,h.2.2.1,h.2.2.2])
   ·exact below_other h
  have hd:=hh.1
  have hx:=Pn.wd_eq ws lv (.mk k t es cs ks)
  rw[if_pos (by simpa using hh)]at hx
  simp only[Pn.kind_mk,Pn.table_mk,Pn.exprs_mk,Pn.cols_mk,Pn.kids_mk]at hx
  rw[hx]
  rw[headOk_iff]at hh
  obtain⟨⟨h1,h2,h3,h4⟩,h5⟩:=hh
  have hr:=fun a=>Pn.wd_range hw a (lv-1)
  rcases partCases k with rfl|rfl|rfl|rfl|rfl|rfl|rfl|rfl|h
  ·obtain rfl:=len_zero (by simpa using h1)
   obtain rfl:es=[]:=len_zero (by simpa using h2)
   obtain rfl:cs=[]:=by simpa using h4
   exact below_yes1
  ·obtain⟨a,rfl⟩:=len_one (by simpa using h1)
   obtain rfl:cs=[]:=by simpa using h4
   obtain rfl:t=0:=by simpa using h3
   have hl:lv≠0:=by simpa using h5
   rw[below_yes2 hl hlv hd (ih a (by simp) (lv-1) (by omega)) (hr a)]
   by_cases z:a.wd ws (lv-1)=0<;>simp[z]
  ·obtain⟨a,rfl⟩:=len_one (by simpa using h1)
   obtain rfl:cs=[]:=by simpa using h4
   obtain rfl:t=0:=by simpa using h3
   have hl:lv≠0:=by simpa using h5
   rw[below_yes3 hl hlv hd (ih a (by simp) (lv-1) (by omega)) (hr a)]
   by_cases z:a.wd ws (lv-1)=0<;>simp[z]
  ·obtain⟨a,b,rfl⟩:=len_two (by simpa using h1)
   obtain rfl:cs=[]:=by simpa using h4
   obtain rfl:t=0:=by simpa using h3
   have hl:lv≠0:=by simpa using h5
   rw[below_yes4 hl hlv hd (ih a (by simp) (lv-1) (by omega)) (hr a) (ih b (by simp) (lv-1) (by omega)) (hr b)]
   by_cases z:a.wd ws (lv-1)=0<;>by_cases z2:b.wd ws (lv-1)=0<;>simp[z,z2]
  ·obtain⟨a,b,rfl⟩:=len_two (by simpa using h1)
   obtain rfl:cs=[]:=by simpa using h4
   obtain rfl:t=0:=by simpa using h3
   have hl:lv≠0:=by simpa using h5
   rw[below_yes5 hl hlv hd (ih a (by simp) (lv-1) (by omega)) (hr a) (ih b (by simp) (lv-1) (by omega)) (hr b)]
   by_cases z:a.wd ws (lv-1)=0<;>by_cases z2:b.wd ws (lv-1)=0<;>simp[z,z2]
  ·obtain⟨a,b,rfl⟩:=len_two (by simpa using h1)
   obtain rfl:es=[]:=len_zero (by simpa using h2)
   obtain rfl:cs=[]:=by simpa using h4
   obtain rfl:t=0:=by simpa using h3
   have hl:lv≠0:=by simpa using h5
   rw[below_yes6 hl hlv hd (ih a (by simp) (lv-1) (by omega)) (hr a) (ih b (by simp) (lv-1) (by omega)) (hr b)]
   by_cases z:a.wd ws (lv-1)=0<;>by_cases z2:b.wd ws (lv-1)=0<;>simp[z,z2]
  ·obtain⟨a,rfl⟩:=len_one (by simpa using h1)
   obtain rfl:es=[]:=len_zero (by simpa using h2)
   obtain rfl:cs=[]:=by simpa using h4
   obtain rfl:t=0:=by simpa using h3
   have hl:lv≠0:=by simpa using h5
   rw[below_yes7 hl hlv hd (ih a (by simp) (lv-1) (by omega)) (hr a)]
   by_cases z:a.wd ws (lv-1)=0<;>simp[z]
  ·obtain⟨a,rfl⟩:=len_one (by simpa using h1)
   obtain rfl:es=[]:=len_zero (by simpa using h2)
   obtain rfl:t=0:=by simpa using h3
   have hl:lv≠0:=by simpa using h5
   rw[below_yes8 hl hlv hd (ih a (by simp) (lv-1) (by omega)) (hr a)]
   by_cases z:a.wd ws (lv-1)=0<;>simp[z]
  ·exact absurd h1 (by rw[nKids_no h];omega)
def VX (ws:List Int) (i:Nat):AS :=
 { env:=[(0, .i (.isl (intsL ws))),(2, .bool false),(4,jk i (.int (ws[i-1]?.getD 0))),(12, .bool false),(13, .i (.isl (intsL ws))),(14, .int ws.length),(15, .int i),(16,jk i (.bool true)),(21,jk i (.bool false))],st:=[] }
theorem validWidths_eq (ws:List Int):callA C0 69 [.i (.isl (intsL ws))] []=some (.bool (okWs ws),[]):=by
 rw[callA_eq rfl Tryz.func69 rfl rfl]
 by_cases h1:ws.length=0
 ·have:=List.length_eq_zero_iff.1 h1
  subst this
  simp[intsL,okWs]
 by_cases h4:ws.length≤4
 case neg=>simp[okWs,h4,show ¬ (ws.length:Int)<1 by omega,show 4<(ws.length:Int)by omega]
 simp[show ¬ (ws.length:Int)<1 by omega,show ¬ 4<(ws.length:Int)by omega]
 obtain⟨j,h1',h2⟩:=upto_bad okWidth ws
 rw[loop_to (VX ws) j (by simp[VX])]
 ·rw[execA_loop]
  rcases h2 with ⟨hj,ha⟩|⟨x,h3,_,h5,ha⟩
  ·simp[VX,hj,okWs,h4,ha,show 1≤ws.length by omega]
  ·have r1:=(List.getElem?_eq_some_iff.1 h3).1
   have r2:=intsL_nth h3
   simp[VX,r1,r2,h5,okWs,ha]
 ·intro i hi
  obtain⟨x,h3,_,h5⟩:=h1' i hi
  have r1:=(List.getElem?_eq_some_iff.1 h3).1
  have r2:=intsL_nth h3
  have w2:IntKind.i64.wrap ((i:Int)+1)=i+1:=wrap64 (by omega) (by omega)
  have h3':ws[i]=x:=(List.getElem?_eq_some_iff.1 h3).2
  simp[VX,r1,r2,h5,w2,h3']
theorem okWs_range {ws:List Int} (h:okWs ws=true):∀ w∈ws,0≤w∧w≤6:=by
 intro w hw
 simp only[okWs,Bool.and_eq_true]at h
 have:=List.all_eq_true.1 h.2 w hw
 simp[okWidth]at this
 omega
theorem planWidth_eq (p:Pn) (ws:List Int):callA C0 35 [.i (.agg p.cells), .i (.isl (intsL ws))] []=some (.int (p.width ws),[]):=by
 rw[callA_eq rfl Tryz.func35 rfl rfl]
 have hv:=validWidths_eq ws
 cases h:okWs ws with
 | false=>rw[h]at hv;rw[Pn.cells_eq];simp[hv,Pn.width,h]
 | true =>
  rw[h]at hv
  have hb:=widthBelow_eq (okWs_range h) p 8 (by omega)
  rw[show((8:Nat):Int)=8 from rfl]at hb
  rw[Pn.cells_eq]at hb ⊢
  simp[hv,Pn.width,h,hb]
def only (k t:Int) (es:List Ex) (cs:List Int) (ks:List Pn):Bool:=decide (1≤k∧k≤8) && (decide ((ks.length:Int)=nKids k) && (decide ((es.length:Int)=if k=3 then(es.length:Int)else nExprs k) && ((decide (t=0) || decide (k=1)) && (decide (cs=[]) || decide (k=8)))))
theorem onlyFields_eq (k t:Int) (es:List Ex) (cs:List Int) (ks:List Pn):callA C0 151 [.i (.agg [.int k, .int t, .isl (Ex.cellsL es), .isl (intsL cs), .isl (Pn.cellsL ks)])] []=some (.bool (only k t es cs ks),[]):=by
 rw[callA_eq rfl Tryz.func151 rfl rfl]
 rcases partCases k with rfl|rfl|rfl|rfl|rfl|rfl|rfl|rfl|h
 case inr.inr.inr.inr.inr.inr.inr.inr =>
  have h1:¬ (1≤k∧k≤8):=by omega
  simp[h.1,h.2.1,h.2.2.1,h.2.2.2.1,h.2.2.2.2.1,h.2.2.2.2.2.1,h1,only]
 case inr.inr.inl =>
  by_cases c1:(ks.length:Int)=1
  case neg=>simp[c1,only]
  by_cases c3:t=0
  case neg=>simp[c1,c3,only]
  by_cases c5:cs=[]<;>simp[c1,c3,c5,only,intsL]
 case inl =>
  by_cases c1:ks=[]
  case neg=>simp[c1,only]
  by_cases c2:es=[]
  case neg=>simp[c1,c2,only]
  by_cases c3:t=0<;>by_cases c5:cs=[]<;>simp[c1,c2,c3,c5,only,intsL,Ex.cellsL,Pn.cellsL]
 case inr.inl =>
  by_cases c1:(ks.length:Int)=1
  case neg=>simp[c1,only]
  by_cases c2:(es.length:Int)=1
  case neg=>simp[c1,c2,only]
  by_cases c3:t=0
  case neg=>simp[c1,c2,c3,only]
  by_cases c5:cs=[]<;>simp[c1,c2,c3,c5,only,intsL]
 case inr.inr.inr.inl =>
  by_cases c1:(ks.length:Int)=2
  case neg=>simp[c1,only]
  by_cases c2:(es.length:Int)=1
  case neg=>simp[c1,c2,only]
  by_cases c3:t=0
  case neg=>simp[c1,c2,c3,only]
  by_cases c5:cs=[]<;>simp[c1,c2,c3,c5,only,intsL]
 case inr.inr.inr.inr.inl =>
  by_cases c1:(ks.length:Int)=2
  case neg=>simp[c1,only]
  by_cases c2:(es.length:Int)=1
  case neg=>simp[c1,c2,only]
  by_cases c3:t=0
  case neg=>simp[c1,c2,c3,only]
  by_cases c5:cs=[]<;>simp[c1,c2,c3,c5,only,intsL]
 case inr.inr.inr.inr.inr.inl =>
  by_cases c1:(ks.length:Int)=2
  case neg=>simp[c1,only]
  by_cases c2:es=[]
  case neg=>simp[c1,c2,only]
  by_cases c3:t=0
  case neg=>simp[c1,c2,c3,only]
  by_cases c5:cs=[]<;>simp[c1,c2,c3,c5,only,intsL,Ex.cellsL]
 case inr.inr.inr.inr.inr.inr.inl =>
  by_cases c1:(ks.length:Int)=1
  case neg=>simp[c1,only]
  by_cases c2:es=[]
  case neg=>simp[c1,c2,only]
  by_cases c3:t=0
  case neg=>simp[c1,c2,c3,only]
  by_cases c5:cs=[]<;>simp[c1,c2,c3,c5,only,intsL,Ex.cellsL]
 case inr.inr.inr.inr.inr.inr.inr.inl =>
  by_cases c1:(ks.length:Int)=1
  case neg=>simp[c1,only]
  by_cases c2:es=[]
  case neg=>simp[c1,c2,only]
  by_cases c3:t=0
  case neg=>simp[c1,c2,c3,only]
  by_cases c5:cs=[]<;>simp[c1,c2,c3,c5,only,intsL,Ex.cellsL]
theorem pv_ge {cs:List Int} {w:Int}:∀ {i:Nat},(∀ k,k<i→∃ x,(cs.zip (-1::cs))[k]?=some x∧x∈cs.zip (-1::cs)∧decide (x.2<x.1∧x.1<w)=true)→-1≤pv cs i∧(i≠0→0≤pv cs i)
 | 0,_=>by simp[pv]
 | i+1,h=>by
  obtain⟨x,h3,_,h4⟩:=h i (by omega)
  obtain⟨c1,c2⟩:=cols_nth h3
  rw[pv_succ c1]
  have hb:x.2<x.1∧x.1<w:=by simpa using h4
  have:=pv_ge (i:=i) fun k hk=>h k (by omega)
  omega
def CX (cs:List Int) (w:Int) (i:Nat):AS :=
 { env:=[(0, .i (.isl (intsL cs))),(1, .int w),(4, .bool false),(5, .int i),(9,jk i (.bool true)),(35,jk i (.bool false))],st:=[] }
theorem validCols_eq (cs:List Int) (w:Int) (hl:cs.length<9223372036854775808) (hw:0≤w∧w≤6):callA C0 154 [.i (.isl (intsL cs)), .int w] []=some (.bool (colsOk w cs),[]):=by
 rw[callA_eq rfl Tryz.func154 rfl rfl]
 have w1:IntKind.i64.wrap (w-1)=w-1:=wrap64 (by omega) (by omega)
 simp
 obtain⟨j,h1,h2⟩:=upto_bad (fun x:Int×Int=>decide (x.2<x.1∧x.1<w)) (cs.zip (-1::cs))
 rw[loop_to (CX cs w) j (by simp[CX])]
 ·rw[execA_loop]
  rcases h2 with ⟨hj,ha⟩|⟨x,h3,_,h4,ha⟩
  ·rw[cols_len]at hj
   have ha:colsOk w cs=true:=ha
   simp[CX,hj,ha]
  ·obtain⟨c1,c2⟩:=cols_nth h3
   have r1:=(List.getElem?_eq_some_iff.1 c1).1
   have r2:=intsL_nth c1
   have hb:¬ (x.2<x.1∧x.1<w):=by simpa using h4
   have ha:colsOk w cs=false:=ha
   have hp:=pv_ge (i:=j) h1
   by_cases hin:0≤x.1∧x.1≤w-1
   ·have hj:j≠0:=fun h=>by subst h;simp[pv]at c2;omega
    obtain⟨j,rfl⟩:∃ i,j=i+1:=⟨j-1,by omega⟩
    have q1:cs[j]?=some x.2:=by
     have:pv cs (j+1)=x.2:=c2
     simp only[pv,List.getElem?_cons_succ]at this
     rw[List.getElem?_eq_getElem (by omega)]at this ⊢
     simpa using this
    have q2:=intsL_nth q1
    have w4:IntKind.i64.wrap ((j:Int)+1-1)=j:=by rw[wrap64 (by omega) (by omega)];omega
    have w5:IntKind.i64.wrap ((j:Int))=j:=by rw[wrap64 (by omega) (by omega)]
    simp[CX,r1,r2,w1,hin,ha,q2,w4,w5,show(0:Int)<j+1 by omega,show x.1≤x.2 by omega,show(0:Int)≤(j:Int)+1 by omega,show j<cs.length by omega,show((j:Int)+1<cs.length)by omega]
   ·simp[CX,r1,r2,w1,hin,ha]
 ·intro i hi
  obtain⟨x,h3,_,h4⟩:=h1 i hi
  obtain⟨c1,c2⟩:=cols_nth h3
  have r1:=(List.getElem?_eq_some_iff.1 c1).1
  have r2:=intsL_nth c1
  have hb:x.2<x.1∧x.1<w:=by simpa using h4
  have hp:=pv_ge (i:=i) fun k hk=>h1 k (by omega)
  have hin:0≤x.1∧x.1≤w-1:=by omega
  have w2:IntKind.i64.wrap ((i:Int)+1)=i+1:=wrap64 (by omega) (by omega)
  by_cases h0:i=0
  ·subst h0
   simp[CX,r1,r2,w1,hin,wrap_1]
  ·obtain⟨i,rfl⟩:∃ j,i=j+1:=⟨i-1,by omega⟩
   have q1:cs[i]?=some x.2:=by
    have:pv cs (i+1)=x.2:=c2
    simp only[pv,List.getElem?_cons_succ]at this
    rw[List.getElem?_eq_getElem (by omega)]at this ⊢
    simpa using this
   have q2:=intsL_nth q1
   have w5:IntKind.i64.wrap ((i:Int))=i:=by rw[wrap64 (by omega) (by omega)]
   have w2':IntKind.i64.wrap ((i:Int)+1+1)=i+1+1:=wrap64 (by omega) (by omega)
   simp[CX,r1,r2,w1,hin,q2,w5,w2',show(0:Int)<i+1 by omega,show ¬ x.1≤x.2 by omega,show(0:Int)≤(i:Int)+1 by omega,show i<cs.length by omega,show((i:Int)+1<cs.length)by omega]
def pW (es:List Ex) (w:Int):Int:=if es.all (Ex.ok w)=true∧es.length≤6 then(es.length:Int)else 0
def QX (es:List Ex) (w:Int) (i:Nat):AS :=
 { env:=[(0, .i (.isl (Ex.cellsL es))),(1, .int w),(4, .int 0),(5, .int i),(9,jk i (.bool true)),(18,jk i (.bool false)),(21, .junk)],st:=[] }
theorem projectWidth_eq (es:List Ex) (w:Int) (hl:es.length<9223372036854775808):callA C0 153 [.i (.isl (Ex.cellsL es)), .int w] []=some (.int (pW es w),[]):=by
 rw[callA_eq rfl Tryz.func153 rfl rfl]
 simp
 obtain⟨j,h1,h2⟩:=upto_bad (Ex.ok w) es
 rw[loop_to (QX es w) j (by simp[QX])]
 ·rw[execA_loop]
  rcases h2 with ⟨hj,hall⟩|⟨x,h3,_,h5,hall⟩
  ·by_cases h6:es.length≤6
   ·have hq:pW es w=es.length:=if_pos ⟨hall,h6⟩
    simp[QX,hj,hq,show ¬ (6:Int)<es.length by omega]
   ·have hq:pW es w=0:=if_neg fun h=>h6 h.2
    simp[QX,hj,hq,show(6:Int)<es.length by omega]
  ·have r1:=(List.getElem?_eq_some_iff.1 h3).1
   have r2:=Ex.cellsL_nth h3
   have r3:=sok_eq w x
   rw[h5]at r3
   rw[Ex.cells_eq]at r2 r3
   have hq:pW es w=0:=if_neg fun h=>by rw[hall]at h;simp at h
   simp[QX,r1,r2,r3,hq]
 ·intro i hi
  obtain⟨x,h3,_,h5⟩:=h1 i hi
  have r1:=(List.getElem?_eq_some_iff.1 h3).1
  have r2:=Ex.cellsL_nth h3
  have r3:=sok_eq w x
  rw[h5]at r3
  rw[Ex.cells_eq]at r2 r3
  have w2:IntKind.i64.wrap ((i:Int)+1)=i+1:=wrap64 (by omega) (by omega)
  simp[QX,r1,r2,r3,w2]
def UX (ws:List Int) (i:Nat):AS :=
 { env:=[(0, .i (.isl (intsL ws))),(2, .bool false),(3, .int i),(7,jk i (.bool true)),(15,jk i (.bool false))],st:=[] }
theorem svalidWidths_eq (ws:List Int) (hl:ws.length<9223372036854775808):callA C0 101 [.i (.isl (intsL ws))] []=some (.bool (okWs ws),[]):=by
 rw[callA_eq rfl Tryz.func101 rfl rfl]
 simp
 obtain⟨j,h1',h2⟩:=upto_bad okWidth ws
 rw[loop_to (UX ws) j (by simp[UX])]
 ·rw[execA_loop]
  rcases h2 with ⟨hj,ha⟩|⟨x,h3,_,h5,ha⟩
  ·by_cases h4:1≤ws.length∧ws.length≤4
   ·simp[UX,hj,okWs,h4,ha,show(1:Int)≤ws.length∧(ws.length:Int)≤4 by omega]
   ·simp[UX,hj,okWs,h4,ha,show ¬ ((1:Int)≤ws.length∧(ws.length:Int)≤4)by omega]
  ·have r1:=(List.getElem?_eq_some_iff.1 h3).1
   have r2:=intsL_nth h3
   have h5:¬ (1≤x∧x≤6):=by simpa [okWidth]using h5
   simp[UX,r1,r2,h5,okWs,ha]
 ·intro i hi
  obtain⟨x,h3,_,h5⟩:=h1' i hi
  have r1:=(List.getElem?_eq_some_iff.1 h3).1
  have r2:=intsL_nth h3
  have h5:1≤x∧x≤6:=by simpa [okWidth]using h5
  have w2:IntKind.i64.wrap ((i:Int)+1)=i+1:=wrap64 (by omega) (by omega)
  simp[UX,r1,r2,h5,w2]
theorem splan_no {ws:List Int} {k t:Int} {es:List Ex} {cs:List Int} {ks:List Pn} {lv:Nat} (h:¬ (only k t es cs ks=true∧(ks=[]∨lv≠0))):callA C0 102 [.i (.agg [.int k, .int t, .isl (Ex.cellsL es), .isl (intsL cs), .isl (Pn.cellsL ks)]), .i (.isl (intsL ws)), .int lv] []=some (.int 0,[]):=by
 rw[callA_eq rfl Tryz.func102 rfl rfl]
 have ho:=onlyFields_eq k t es cs ks
 cases hq:only k t es cs ks with
 | false=>rw[hq]at ho;simp[ho]
 | true =>
  rw[hq]at ho
  by_cases hk:ks=[]
  ·exact absurd ⟨hq, .inl hk⟩ h
  by_cases hl:lv=0
  ·have:0<ks.length:=List.length_pos_iff.2 hk
   subst hl;simp[ho,hk,this]
  ·exact absurd ⟨hq, .inr hl⟩ h
theorem splan_yes1 {ws:List Int} {lv:Nat} {t:Int} (ho:only 1 t [] [] []=true) (hw:ws.length<1000000000):callA C0 102 [.i (.agg [.int 1, .int t, .isl (Ex.cellsL []), .isl (intsL []), .isl (Pn.cellsL [])]), .i (.isl (intsL ws)), .int lv] []=some (.int (if 0≤t then(ws[t.toNat]?).getD 0 else 0),[]):=by
 rw[callA_eq rfl Tryz.func102 rfl rfl]
 have hf:=onlyFields_eq 1 t [] [] []
 rw[ho]at hf
 have w1:IntKind.i64.wrap ((ws.length:Int)-1)=ws.length-1:=wrap64 (by omega) (by omega)
 simp only[Ex.cellsL,Pn.cellsL,intsL]at hf ⊢
 simp[hf,w1]
 rw[execA_loop]
 by_cases h0:0≤t
 case neg=>simp[h0,w1]
 cases hx:ws[t.toNat]? with
 | none =>
  have:=List.getElem?_eq_none_iff.1 hx
  simp[h0,w1,show ¬ t≤ws.length-1 by omega]
 | some x =>
  have r1:=(List.getElem?_eq_some_iff.1 hx).1
  have r2:=intsL_nth hx
  simp[h0,w1,show t≤ws.length-1 by omega,show t<ws.length by omega,r2]
theorem splan_yes2 {ws:List Int} {lv:Nat} {a:Pn} {va:Int} {e:Ex} (ho:only 2 0 [e] [] [a]=true) (hl:lv≠0) (hl8:lv≤8) (ha:callA C0 102 [.i (.agg a.cells), .i (.isl (intsL ws)), .int (lv-1:Nat)] []=some (.int va,[])) (ra:0≤va∧va≤6):callA C0 102 [.i (.agg [.int 2, .int 0, .isl (Ex.cellsL [e]), .isl (intsL []), .isl (Pn.cellsL [a])]), .i (.isl (intsL ws)), .int lv] []=some (.int (if va=0 then 0 else if e.ok va=true then va else 0),[]):=by
 rw[callA_eq rfl Tryz.func102 rfl rfl]
 have hf:=onlyFields_eq 2 0 [e] [] [a]
 rw[ho]at hf
 have c3':¬ (lv:Int)=0:=by omega
 have w1:IntKind.i64.wrap ((lv:Int)-1)=(lv-1:Nat):=by rw[wrap64 (by omega) (by omega)];omega
 have w2:IntKind.i64.wrap (1:Int)=1:=wrap_1
 have w3:IntKind.i64.wrap (2:Int)=2:=wrap64 (by omega) (by omega)
 have r0:nthE [a.cells] 0=some a.cells:=rfl
 simp only[Pn.cellsL,intsL,Ex.cellsL]at hf ⊢
 have q0:nthE [e.cells] 0=some e.cells:=rfl
 have qe:=sok_eq (va) e
 rw[Ex.cells_eq e]at q0 qe hf ⊢
 rw[Pn.cells_eq a]at ha r0 hf ⊢
 simp[hf,hl,c3']
 rw[execA_loop]
 by_cases z1:va=0
 case pos=>simp[w1,ha,r0,z1]
 simp[w1,w2,ha,r0,z1]
 rw[execA_loop]
 cases hv:e.ok va<;>rw[hv]at qe<;>simp[z1,q0,qe]
theorem splan_yes3 {ws:List Int} {lv:Nat} {a:Pn} {va:Int} {es:List Ex} (ho:only 3 0 es [] [a]=true) (hl:lv≠0) (hl8:lv≤8) (ha:callA C0 102 [.i (.agg a.cells), .i (.isl (intsL ws)), .int (lv-1:Nat)] []=some (.int va,[])) (ra:0≤va∧va≤6) (he:es.length<9223372036854775808):callA C0 102 [.i (.agg [.int 3, .int 0, .isl (Ex.cellsL es), .isl (intsL []), .isl (Pn.cellsL [a])]), .i (.isl (intsL ws)), .int lv] []=some (.int (if va=0 then 0 else pW es va),[]):=by
 rw[callA_eq rfl Tryz.func102 rfl rfl]
 have hf:=onlyFields_eq 3 0 es [] [a]
 rw[ho]at hf
 have c3':¬ (lv:Int)=0:=by omega
 have w1:IntKind.i64.wrap ((lv:Int)-1)=(lv-1:Nat):=by rw[wrap64 (by omega) (by omega)];omega
 have w2:IntKind.i64.wrap (1:Int)=1:=wrap_1
 have w3:IntKind.i64.wrap (2:Int)=2:=wrap64 (by omega) (by omega)
 have r0:nthE [a.cells] 0=some a.cells:=rfl
 simp only[Pn.cellsL,intsL,Ex.cellsL]at hf ⊢
 rw[Pn.cells_eq a]at ha r0 hf ⊢
 simp[hf,hl,c3']
 rw[execA_loop]
 by_cases z1:va=0
 case pos=>simp[w1,ha,r0,z1]
 simp[w1,w2,ha,r0,z1]
 rw[execA_loop]
 have hp:=projectWidth_eq es va he
 simp[z1,hp]
theorem splan_yes4 {ws:List Int} {lv:Nat} {a:Pn} {va:Int} {b:Pn} {vb:Int} {e:Ex} (ho:only 4 0 [e] [] [a,b]=true) (hl:lv≠0) (hl8:lv≤8) (ha:callA C0 102 [.i (.agg a.cells), .i (.isl (intsL ws)), .int (lv-1:Nat)] []=some (.int va,[])) (ra:0≤va∧va≤6) (hb:callA C0 102 [.i (.agg b.cells), .i (.isl (intsL ws)), .int (lv-1:Nat)] []=some (.int vb,[])) (rb:0≤vb∧vb≤6):callA C0 102 [.i (.agg [.int 4, .int 0, .isl (Ex.cellsL [e]), .isl (intsL []), .isl (Pn.cellsL [a,b])]), .i (.isl (intsL ws)), .int lv] []=some (.int (if va=0∨vb=0 then 0 else if va+vb≤6∧e.ok (va+vb)=true then va+vb else 0),[]):=by
 rw[callA_eq rfl Tryz.func102 rfl rfl]
 have hf:=onlyFields_eq 4 0 [e] [] [a,b]
 rw[ho]at hf
 have c3':¬ (lv:Int)=0:=by omega
 have w1:IntKind.i64.wrap ((lv:Int)-1)=(lv-1:Nat):=by rw[wrap64 (by omega) (by omega)];omega
 have w2:IntKind.i64.wrap (1:Int)=1:=wrap_1
 have w3:IntKind.i64.wrap (2:Int)=2:=wrap64 (by omega) (by omega)
 have r0:nthE [a.cells,b.cells] 0=some a.cells:=rfl
 have r1:nthE [a.cells,b.cells] 1=some b.cells:=rfl
 simp only[Pn.cellsL,intsL,Ex.cellsL]at hf ⊢
 have q0:nthE [e.cells] 0=some e.cells:=rfl
 have qe:=sok_eq (va+vb) e
 rw[Ex.cells_eq e]at q0 qe hf ⊢
 rw[Pn.cells_eq a]at ha r0 hf ⊢
 rw[Pn.cells_eq a]at r1
 rw[Pn.cells_eq b]at hb r0 r1 hf ⊢
 simp[hf,hl,c3']
 rw[execA_loop]
 by_cases z1:va=0
 case pos=>simp[w1,ha,r0,z1]
 simp[w1,w2,ha,r0,z1]
 rw[execA_loop]
 by_cases z2:vb=0
 case pos=>simp[w1,hb,r1,z2]
 simp[w1,hb,r1,z1,z2,w2,w3]
 rw[execA_loop]
 have w4:IntKind.i64.wrap (va+vb)=va+vb:=wrap64 (by omega) (by omega)
 by_cases h6:va+vb≤6
 ·cases hv:e.ok (va+vb)<;>rw[hv]at qe<;>simp[z1,z2,q0,qe,w4,h6]
 ·simp[z1,z2,w4,h6]
theorem splan_yes5 {ws:List Int} {lv:Nat} {a:Pn} {va:Int} {b:Pn} {vb:Int} {e:Ex} (ho:only 5 0 [e] [] [a,b]=true) (hl:lv≠0) (hl8:lv≤8) (ha:callA C0 102 [.i (.agg a.cells), .i (.isl (intsL ws)), .int (lv-1:Nat)] []=some (.int va,[])) (ra:0≤va∧va≤6) (hb:callA C0 102 [.i (.agg b.cells), .i (.isl (intsL ws)), .int (lv-1:Nat)] []=some (.int vb,[])) (rb:0≤vb∧vb≤6):callA C0 102 [.i (.agg [.int 5, .int 0, .isl (Ex.cellsL [e]), .isl (intsL []), .isl (Pn.cellsL [a,b])]), .i (.isl (intsL ws)), .int lv] []=some (.int (if va=0∨vb=0 then 0 else if va+vb≤6∧e.ok (va+vb)=true then va+vb else 0),[]):=by
 rw[callA_eq rfl Tryz.func102 rfl rfl]
 have hf:=onlyFields_eq 5 0 [e] [] [a,b]
 rw[ho]at hf
 have c3':¬ (lv:Int)=0:=by omega
 have w1:IntKind.i64.wrap ((lv:Int)-1)=(lv-1:Nat):=by rw[wrap64 (by omega) (by omega)];omega
 have w2:IntKind.i64.wrap (1:Int)=1:=wrap_1
 have w3:IntKind.i64.wrap (2:Int)=2:=wrap64 (by omega) (by omega)
 have r0:nthE [a.cells,b.cells] 0=some a.cells:=rfl
 have r1:nthE [a.cells,b.cells] 1=some b.cells:=rfl
 simp only[Pn.cellsL,intsL,Ex.cellsL]at hf ⊢
 have q0:nthE [e.cells] 0=some e.cells:=rfl
 have qe:=sok_eq (va+vb) e
 rw[Ex.cells_eq e]at q0 qe hf ⊢
 rw[Pn.cells_eq a]at ha r0 hf ⊢
 rw[Pn.cells_eq a]at r1
 rw[Pn.cells_eq b]at hb r0 r1 hf ⊢
 simp[hf,hl,c3']
 rw[execA_loop]
 by_cases z1:va=0
 case pos=>simp[w1,ha,r0,z1]
 simp[w1,w2,ha,r0,z1]
 rw[execA_loop]
 by_cases z2:vb=0
 case pos=>simp[w1,hb,r1,z2]
 simp[w1,hb,r1,z1,z2,w2,w3]
 rw[execA_loop]
 have w4:IntKind.i64.wrap (va+vb)=va+vb:=wrap64 (by omega) (by omega)
 by_cases h6:va+vb≤6
 ·cases hv:e.ok (va+vb)<;>rw[hv]at qe<;>simp[z1,z2,q0,qe,w4,h6]
 ·simp[z1,z2,w4,h6]
theorem splan_yes6 {ws:List Int} {lv:Nat} {a:Pn} {va:Int} {b:Pn} {vb:Int} (ho:only 6 0 [] [] [a,b]=true) (hl:lv≠0) (hl8:lv≤8) (ha:callA C0 102 [.i (.agg a.cells), .i (.isl (intsL ws)), .int (lv-1:Nat)] []=some (.int va,[])) (ra:0≤va∧va≤6) (hb:callA C0 102 [.i (.agg b.cells), .i (.isl (intsL ws)), .int (lv-1:Nat)] []=some (.int vb,[])) (rb:0≤vb∧vb≤6):callA C0 102 [.i (.agg [.int 6, .int 0, .isl (Ex.cellsL []), .isl (intsL []), .isl (Pn.cellsL [a,b])]), .i (.isl (intsL ws)), .int lv] []=some (.int (if va=0∨vb=0 then 0 else if va=vb then va else 0),[]):=by
 rw[callA_eq rfl Tryz.func102 rfl rfl]
 have hf:=onlyFields_eq 6 0 [] [] [a,b]
 rw[ho]at hf
 have c3':¬ (lv:Int)=0:=by omega
 have w1:IntKind.i64.wrap ((lv:Int)-1)=(lv-1:Nat):=by rw[wrap64 (by omega) (by omega)];omega
 have w2:IntKind.i64.wrap (1:Int)=1:=wrap_1
 have w3:IntKind.i64.wrap (2:Int)=2:=wrap64 (by omega) (by omega)
 have r0:nthE [a.cells,b.cells] 0=some a.cells:=rfl
 have r1:nthE [a.cells,b.cells] 1=some b.cells:=rfl
 simp only[Pn.cellsL,intsL,Ex.cellsL]at hf ⊢
 rw[Pn.cells_eq a]at ha r0 hf ⊢
 rw[Pn.cells_eq a]at r1
 rw[Pn.cells_eq b]at hb r0 r1 hf ⊢
 simp[hf,hl,c3']
 rw[execA_loop]
 by_cases z1:va=0
 case pos=>simp[w1,ha,r0,z1]
 simp[w1,w2,ha,r0,z1]
 rw[execA_loop]
 by_cases z2:vb=0
 case pos=>simp[w1,hb,r1,z2]
 simp[w1,hb,r1,z1,z2,w2,w3]
 rw[execA_loop]
 by_cases h6:va=vb<;>simp[z1,z2,h6]
theorem splan_yes7 {ws:List Int} {lv:Nat} {a:Pn} {va:Int} (ho:only 7 0 [] [] [a]=true) (hl:lv≠0) (hl8:lv≤8) (ha:callA C0 102 [.i (.agg a.cells), .i (.isl (intsL ws)), .int (lv-1:Nat)] []=some (.int va,[])) (ra:0≤va∧va≤6):callA C0 102 [.i (.agg [.int 7, .int 0, .isl (Ex.cellsL []), .isl (intsL []), .isl (Pn.cellsL [a])]), .i (.isl (intsL ws)), .int lv] []=some (.int (if va=0 then 0 else va),[]):=by
 rw[callA_eq rfl Tryz.func102 rfl rfl]
 have hf:=onlyFields_eq 7 0 [] [] [a]
 rw[ho]at hf
 have c3':¬ (lv:Int)=0:=by omega
 have w1:IntKind.i64.wrap ((lv:Int)-1)=(lv-1:Nat):=by rw[wrap64 (by omega) (by omega)];omega
 have w2:IntKind.i64.wrap (1:Int)=1:=wrap_1
 have w3:IntKind.i64.wrap (2:Int)=2:=wrap64 (by omega) (by omega)
 have r0:nthE [a.cells] 0=some a.cells:=rfl
 simp only[Pn.cellsL,intsL,Ex.cellsL]at hf ⊢
 rw[Pn.cells_eq a]at ha r0 hf ⊢
 simp[hf,hl,c3']
 rw[execA_loop]
 by_cases z1:va=0
 case pos=>simp[w1,ha,r0,z1]
 simp[w1,w2,ha,r0,z1]
 rw[execA_loop]
 simp[z1]
theorem splan_yes8 {ws:List Int} {lv:Nat} {a:Pn} {va:Int} {cs:List Int} (ho:only 8 0 [] cs [a]=true) (hl:lv≠0) (hl8:lv≤8) (ha:callA C0 102 [.i (.agg a.cells), .i (.isl (intsL ws)), .int (lv-1:Nat)] []=some (.int va,[])) (ra:0≤va∧va≤6) (hc:cs.length<9223372036854775808):callA C0 102 [.i (.agg [.int 8, .int 0, .isl (Ex.cellsL []), .isl (intsL cs), .isl (Pn.cellsL [a])]), .i (.isl (intsL ws)), .int lv] []=some (.int (if va=0 then 0 else if cs.length<6∧colsOk va cs=true then(cs.length:Int)+1 else 0),[]):=by
 rw[callA_eq rfl Tryz.func102 rfl rfl]
 have hf:=onlyFields_eq 8 0 [] cs [a]
 rw[ho]at hf
 have c3':¬ (lv:Int)=0:=by omega
 have w1:IntKind.i64.wrap ((lv:Int)-1)=(lv-1:Nat):=by rw[wrap64 (by omega) (by omega)];omega
 have w2:IntKind.i64.wrap (1:Int)=1:=wrap_1
 have w3:IntKind.i64.wrap (2:Int)=2:=wrap64 (by omega) (by omega)
 have r0:nthE [a.cells] 0=some a.cells:=rfl
 simp only[Pn.cellsL,intsL,Ex.cellsL]at hf ⊢
 rw[Pn.cells_eq a]at ha r0 hf ⊢
 simp[hf,hl,c3']
 rw[execA_loop]
 by_cases z1:va=0
 case pos=>simp[w1,ha,r0,z1]
 simp[w1,w2,ha,r0,z1]
 rw[execA_loop]
 have hp:=validCols_eq cs va hc ra
 by_cases h6:cs.length<6
 ·have w5:IntKind.i64.wrap ((cs.length:Int)+1)=cs.length+1:=wrap64 (by omega) (by omega)
  cases hv:colsOk va cs<;>rw[hv]at hp<;>simp[z1,hp,h6,show(cs.length:Int)<6 by omega,w5]
 ·cases hv:colsOk va cs<;>rw[hv]at hp<;>simp[z1,hp,h6,show ¬ (cs.length:Int)<6 by omega]
theorem only_iff (k t:Int) (es:List Ex) (cs:List Int) (ks:List Pn):only k t es cs ks=true↔((1≤k∧k≤8)∧(ks.length:Int)=nKids k∧((es.length:Int)=if k=3 then(es.length:Int)else nExprs k)∧(t=0∨k=1)∧(cs=[]∨k=8)):=by
 unfold only
 simp only[Bool.and_eq_true,Bool.or_eq_true,decide_eq_true_eq]
theorem splanWidth_eq {ws:List Int} (hw:∀ w∈ws,0≤w∧w≤6) (hwl:ws.length<1000000000):∀ (p:Pn),p.lim→∀ (lv:Nat),lv≤8→callA C0 102 [.i (.agg p.cells), .i (.isl (intsL ws)), .int lv] []=some (.int (p.wd ws lv),[]):=by
 intro p
 induction p using Pn.ind with
 | h k t es cs ks ih =>
  intro hp lv hlv
  have hp:=(Pn.lim_iff _).1 hp
  simp only[Pn.exprs_mk,Pn.cols_mk,Pn.kids_mk]at hp
  obtain⟨he,hc,-,hks⟩:=hp
  rw[Pn.cells_mk]
  have hr:=fun a=>Pn.wd_range hw a (lv-1)
  by_cases ho:only k t es cs ks=true∧(ks=[]∨lv≠0)
  case neg =>
   rw[splan_no ho,Pn.wd_no]
   intro hh
   apply ho
   refine⟨?_,hh.2⟩
   have h:=(headOk_iff k t es cs ks).1 hh.1
   rw[only_iff]
   refine⟨?_,h.1,?_,h.2.2.1.symm,h.2.2.2.symm⟩
   ·rcases nKids_range k with h1|h1|h1|h1<;>omega
   ·by_cases h3:k=3
    ·rw[if_pos h3]
    ·have:=h.2.1;rw[if_neg fun h=>h3 h.1]at this;rw[if_neg h3];exact this
  have hoo:=ho.1
  have hq:=(only_iff k t es cs ks).1 ho.1
  obtain⟨h0,h1,h2,h3,h4⟩:=hq
  have h5:=ho.2
  by_cases hd:Pn.headOk (.mk k t es cs ks)=true
  case neg =>
   rw[Pn.wd_no fun h=>hd h.1]
   have hk3:k=3∧¬ okWidth es.length=true∧(es.length:Int)≠1:=by
    by_cases hk:k=3
    ·refine⟨hk,?_,?_⟩
     ·intro hv
      exact hd ((headOk_iff k t es cs ks).2 ⟨h1,by rw[if_pos ⟨hk,hv⟩],h3.symm,h4.symm⟩)
     ·intro hv
      have:okWidth es.length=true:=by rw[hv];decide
      exact hd ((headOk_iff k t es cs ks).2 ⟨h1,by rw[if_pos ⟨hk,this⟩],h3.symm,h4.symm⟩)
    ·exact absurd ((headOk_iff k t es cs ks).2 ⟨h1,by rw[if_neg fun h=>hk h.1];rwa [if_neg hk]at h2,h3.symm,h4.symm⟩) hd
   obtain⟨rfl,hv,hv1⟩:=hk3
   obtain⟨a,rfl⟩:=len_one (by simpa using h1)
   obtain rfl:cs=[]:=by simpa using h4
   obtain rfl:t=0:=by simpa using h3
   have hl:lv≠0:=by simpa using h5
   rw[splan_yes3 hoo hl hlv (ih a (by simp) (hks a (by simp)) (lv-1) (by omega)) (hr a) he]
   have:pW es (a.wd ws (lv-1))=0:=by
    unfold pW
    split
    ·rename_i h
     have:¬ (1≤(es.length:Int)∧(es.length:Int)≤6):=by simpa [okWidth]using hv
     omega
    ·rfl
   simp[this]
  have hx:=Pn.wd_eq ws lv (.mk k t es cs ks)
  rw[if_pos (by simpa using (⟨hd,h5⟩:_∧_))]at hx
  simp only[Pn.kind_mk,Pn.table_mk,Pn.exprs_mk,Pn.cols_mk,Pn.kids_mk]at hx
  rw[hx]
  rcases partCases k with rfl|rfl|rfl|rfl|rfl|rfl|rfl|rfl|h
  ·obtain rfl:=len_zero (by simpa using h1)
   obtain rfl:es=[]:=len_zero (by simpa using h2)
   obtain rfl:cs=[]:=by simpa using h4
   exact splan_yes1 hoo hwl
  ·obtain⟨a,rfl⟩:=len_one (by simpa using h1)
   obtain⟨e,rfl⟩:=len_one (by simpa using h2)
   obtain rfl:cs=[]:=by simpa using h4
   obtain rfl:t=0:=by simpa using h3
   have hl:lv≠0:=by simpa using h5
   rw[splan_yes2 hoo hl hlv (ih a (by simp) (hks a (by simp)) (lv-1) (by omega)) (hr a)]
   by_cases z:a.wd ws (lv-1)=0<;>simp[z,wdOver]
  ·obtain⟨a,rfl⟩:=len_one (by simpa using h1)
   obtain rfl:cs=[]:=by simpa using h4
   obtain rfl:t=0:=by simpa using h3
   have hl:lv≠0:=by simpa using h5
   rw[splan_yes3 hoo hl hlv (ih a (by simp) (hks a (by simp)) (lv-1) (by omega)) (hr a) he]
   have h6:=Pn.headOk_exprs hd
   simp only[Pn.exprs_mk]at h6
   by_cases z:a.wd ws (lv-1)=0<;>simp[z,wdOver,pW,h6]
  ·obtain⟨a,b,rfl⟩:=len_two (by simpa using h1)
   obtain⟨e,rfl⟩:=len_one (by simpa using h2)
   obtain rfl:cs=[]:=by simpa using h4
   obtain rfl:t=0:=by simpa using h3
   have hl:lv≠0:=by simpa using h5
   rw[splan_yes4 hoo hl hlv (ih a (by simp) (hks a (by simp)) (lv-1) (by omega)) (hr a) (ih b (by simp) (hks b (by simp)) (lv-1) (by omega)) (hr b)]
   by_cases z:a.wd ws (lv-1)=0<;>by_cases z2:b.wd ws (lv-1)=0<;>simp[z,z2,wdOver]
  ·obtain⟨a,b,rfl⟩:=len_two (by simpa using h1)
   obtain⟨e,rfl⟩:=len_one (by simpa using h2)
   obtain rfl:cs=[]:=by simpa using h4
   obtain rfl:t=0:=by simpa using h3
   have hl:lv≠0:=by simpa using h5
   rw[splan_yes5 hoo hl hlv (ih a (by simp) (hks a (by simp)) (lv-1) (by omega)) (hr a) (ih b (by simp) (hks b (by simp)) (lv-1) (by omega)) (hr b)]
   by_cases z:a.wd ws (lv-1)=0<;>by_cases z2:b.wd ws (lv-1)=0<;>simp[z,z2,wdOver]
  ·obtain⟨a,b,rfl⟩:=len_two (by simpa using h1)
   obtain rfl:es=[]:=len_zero (by simpa using h2)
   obtain rfl:cs=[]:=by simpa using h4
   obtain rfl:t=0:=by simpa using h3
   have hl:lv≠0:=by simpa using h5
   rw[splan_yes6 hoo hl hlv (ih a (by simp) (hks a (by simp)) (lv-1) (by omega)) (hr a) (ih b (by simp) (hks b (by simp)) (lv-1) (by omega)) (hr b)]
   by_cases z:a.wd ws (lv-1)=0<;>by_cases z2:b.wd ws (lv-1)=0<;>simp[z,z2,wdOver]
  ·obtain⟨a,rfl⟩:=len_one (by simpa using h1)
   obtain rfl:es=[]:=len_zero (by simpa using h2)
   obtain rfl:cs=[]:=by simpa using h4
   obtain rfl:t=0:=by simpa using h3
   have hl:lv≠0:=by simpa using h5
   rw[splan_yes7 hoo hl hlv (ih a (by simp) (hks a (by simp)) (lv-1) (by omega)) (hr a)]
   by_cases z:a.wd ws (lv-1)=0<;>simp[z,wdOver]
  ·obtain⟨a,rfl⟩:=len_one (by simpa using h1)
   obtain rfl:es=[]:=len_zero (by simpa using h2)
   obtain rfl:t=0:=by simpa using h3
   have hl:lv≠0:=by simpa using h5
   rw[splan_yes8 hoo hl hlv (ih a (by simp) (hks a (by simp)) (lv-1) (by omega)) (hr a) hc]
   by_cases z:a.wd ws (lv-1)=0<;>simp[z,wdOver]
  ·omega
theorem widthOf_eq (p:Pn) (hp:p.lim) (ws:List Int) (hl:ws.length<9223372036854775808):callA C0 59 [.i (.agg p.cells), .i (.isl (intsL ws))] []=some (.int (p.width ws),[]):=by
 rw[callA_eq rfl Tryz.func59 rfl rfl]
 have hv:=svalidWidths_eq ws hl
 cases h:okWs ws with
 | false=>rw[h]at hv;rw[Pn.cells_eq];simp[hv,Pn.width,h]
 | true =>
  rw[h]at hv
  have h4:ws.length≤4:=by simp[okWs]at h;omega
  have hb:=splanWidth_eq (okWs_range h) (by omega) p hp 8 (by omega)
  rw[show((8:Nat):Int)=8 from rfl]at hb
  rw[Pn.cells_eq]at hb ⊢
  simp[hv,Pn.width,h,hb]
end Go.Proofs.YtiailccmofdhfaaGreat.P
namespace Go.Proofs.YtiailccmofdhfaaGreat
open Go Go.Av
set_option maxRecDepth 4000
set_option maxHeartbeats 8000000
theorem sevalPlan_eq {ws:List Int} {db:List Tbl} (hws:ws=db.map Tbl.w) (hdb:∀ t∈db,t.ok=true):∀ (p:Pn) (lv:Nat),p.wd ws lv≠0→callA C0 62 [.i (.agg p.cells), .i (.isl (tblsL db))] []=some (.i (.agg [.int (p.evP db).w, .isl (rowsL (p.evP db).rows)]),[]):=by
 intro p
 induction p using Pn.ind with
 | h k t es cs ks ih =>
  intro lv h
  have hsh:=wd_shape h
  generalize hp:Pn.mk k t es cs ks=p at hsh h
  have hk:ks=p.kids:=by rw[← hp];rfl
  subst hk
  cases hsh with
  | scan t W h0 h1 hW =>
   rw[hws,List.getElem?_map]at h1
   obtain⟨s,hs,rfl⟩:=Option.map_eq_some_iff.1 h1
   have hok:=hdb s (List.mem_of_getElem? hs)
   obtain⟨w1,w2,l1,r1⟩:=Tbl.ok_row hok
   have hc:=stableOf_eq s.w s.rows s.w.toNat (by omega) (by omega) (by omega) (fun x hx=>⟨(r1 x hx).1,(r1 x hx).2.1⟩)
   have q:=tblsL_nth hs
   have hl:=(List.getElem?_eq_some_iff.1 hs).1
   have hl':t<(db.length:Int):=by omega
   rw[callA_eq rfl Tryz.func62 rfl rfl,evP_scan,hs]
   simp[Pn.scan,Pn.cells_mk,h0,hl,hl',q,hc,tab_w]
  | filt m e a h1 ha he =>
   have hg:=ev_good hws hdb a m ha
   have i1:=ih a (by simp[filt]) m ha
   have hf:=sfilterTable_eq (a.evP db) hg.1 e (by rw[hg.2];exact ok_wf he)
   rw[callA_eq rfl Tryz.func62 rfl rfl,evP_filt]
   rw[Pn.cells_eq a]at i1
   rw[Ex.cells_eq e]at hf
   simp[filt,Pn.cells_mk,Pn.cellsL,Ex.cellsL,Pn.cells_eq a,Ex.cells_eq e,i1,hf,tab_w]
  | proj m es a h1 ha hl he =>
   have hg:=ev_good hws hdb a m ha
   have i1:=ih a (by simp[proj]) m ha
   have hf:=sprojectTable_eq (a.evP db) hg.1 es hl (fun e hm=>by rw[hg.2];exact ok_wf (he e hm))
   rw[callA_eq rfl Tryz.func62 rfl rfl,evP_proj]
   rw[Pn.cells_eq a]at i1
   simp only[show(fun r=>List.map (Ex.ev r) es)=evs es from rfl]
   simp[proj,Pn.cells_mk,Pn.cellsL,Pn.cells_eq a,i1,hf,tab_w]
  | pair m k e a b h1 hk ha hb hl he =>
   have hg:=ev_good hws hdb a m ha
   have hg2:=ev_good hws hdb b m hb
   have i1:=ih a (by simp[pairP]) m ha
   have i2:=ih b (by simp[pairP]) m hb
   have hf:=sjoinTables_eq (a.evP db) (b.evP db) hg.1 hg2.1 e (by rw[hg.2,hg2.2];exact ok_wf he) (decide (k=5))
   rw[callA_eq rfl Tryz.func62 rfl rfl,evP_pair db hk]
   rw[Pn.cells_eq a]at i1
   rw[Pn.cells_eq b]at i2
   rw[Ex.cells_eq e]at hf
   rcases hk with rfl|rfl
   ·simp at hf
    simp[pairP,Pn.cells_mk,Pn.cellsL,Ex.cellsL,Pn.cells_eq a,Pn.cells_eq b,Ex.cells_eq e,i1,i2,hf,tab_w]
   ·simp at hf
    simp[pairP,Pn.cells_mk,Pn.cellsL,Ex.cellsL,Pn.cells_eq a,Pn.cells_eq b,Ex.cells_eq e,i1,i2,hf,tab_w]
  | union m a b h1 ha hb =>
   have hb':b.wd ws m≠0:=by rw[hb];exact ha
   have hg:=ev_good hws hdb a m ha
   have hg2:=ev_good hws hdb b m hb'
   have i1:=ih a (by simp[unionP]) m ha
   have i2:=ih b (by simp[unionP]) m hb'
   have hf:=sunionAll_eq (a.evP db) (b.evP db) hg.1 hg2.1 (by rw[hg.2,hg2.2,hb])
   rw[callA_eq rfl Tryz.func62 rfl rfl,evP_union]
   rw[Pn.cells_eq a]at i1
   rw[Pn.cells_eq b]at i2
   simp[unionP,Pn.cells_mk,Pn.cellsL,Pn.cells_eq a,Pn.cells_eq b,i1,i2,hf,tab_w]
  | dist m a h1 ha =>
   have hg:=ev_good hws hdb a m ha
   have i1:=ih a (by simp) m ha
   have hf:=sdistinctRows_eq (a.evP db) hg.1
   have ht:=tab_dedup hg.1
   rw[callA_eq rfl Tryz.func62 rfl rfl,evP_dist,ht]
   rw[Pn.cells_eq a]at i1
   simp[Pn.cells_mk,Pn.cellsL,Pn.cells_eq a,i1,hf]
  | group m cs a h1 ha hc ho =>
   have hg:=ev_good hws hdb a m ha
   have i1:=ih a (by simp) m ha
   have hf:=sgroupTable_eq (a.evP db) hg.1 cs hc (by rw[hg.2];exact colsOk_rng ho)
   rw[callA_eq rfl Tryz.func62 rfl rfl,evP_group]
   rw[Pn.cells_eq a]at i1
   simp[Pn.cells_mk,Pn.cellsL,Pn.cells_eq a,i1,hf,tab_w]
end Go.Proofs.YtiailccmofdhfaaGreat
namespace Go.Av
theorem eq_first {α:Type} [DecidableEq α]:∀ {a b:List α},a.length=b.length→∃ j,(∀ i,i<j→∃ x,a[i]?=some x∧b[i]?=some x)∧((j=a.length∧a=b)∨(∃ x y,a[j]?=some x∧b[j]?=some y∧x≠y∧a≠b))
 | [],[],_=>⟨0,by omega, .inl ⟨rfl,rfl⟩⟩
 | [],_::_,h=>by simp at h
 | _::_,[],h=>by simp at h
 | x::a,y::b,h=>by
  by_cases e:x=y
  ·subst e
   obtain⟨j,h1,h2⟩:=eq_first (a:=a) (b:=b) (by simpa using h)
   refine⟨j+1,?_,?_⟩
   ·intro i hi
    cases i with
    | zero=>exact⟨x,rfl,rfl⟩
    | succ i=>simpa using h1 i (by omega)
   ·rcases h2 with ⟨e1,e2⟩|⟨u,v,e1,e2,e3,e4⟩
    ·exact .inl ⟨by simp[e1],by rw[e2]⟩
    ·exact .inr ⟨u,v,by simpa using e1,by simpa using e2,e3,by simpa using e4⟩
  ·exact⟨0,by omega, .inr ⟨x,y,rfl,rfl,e,by simp[e]⟩⟩
def Tbl.small (t:Tbl):Prop:=t.rows.length<1000000∧∀ r∈t.rows,r.length<1000000
theorem Tbl.ok_small {t:Tbl} (h:t.ok=true):t.small:=by
 obtain⟨w1,w2,l1,r1⟩:=Tbl.ok_row h
 exact⟨by omega,fun r hr=>by have:=(r1 r hr).2.1;omega⟩
def evOk (p:Pn) (db:List Tbl):Bool:=db.all Tbl.ok && decide (p.width (db.map Tbl.w)≠0)
end Go.Av
namespace Go.Proofs.YtiailccmofdhfaaGreat
open Go Go.Av
set_option maxRecDepth 4000
set_option maxHeartbeats 8000000
def SWX (db:List Tbl) (i:Nat):AS :=
 { env:=[(0, .i (.isl (tblsL db))),(2, .nils),(3, .osl 0 1 0 i),(4, .int i),(9,jk i (.bool true)),(17,jk i (.bool false))],st:=[some (.arr 1 (intsL ((db.take i).map Tbl.w)))] }
theorem swidthsOf_eq (db:List Tbl) (hl:db.length<1000000) (hs:∀ t∈db,t.small):callA C0 60 [.i (.isl (tblsL db))] []=some (.i (.isl (intsL (if db.all Tbl.ok=true then db.map Tbl.w else []))),[]):=by
 rw[callA_eq rfl Tryz.func60 rfl rfl]
 obtain⟨j,h1,h2⟩:=upto_bad Tbl.ok db
 simp
 rw[loop_to (SWX db) j (by simp[SWX,intsL])]
 ·rw[execA_loop]
  rcases h2 with ⟨hj,ha⟩|⟨t,h3,h4,h5,ha⟩
  ·subst hj
   have e1:List.take db.length (db.map Tbl.w)=db.map Tbl.w:=List.take_of_length_le (by simp)
   have ha':∀ x∈db,x.ok=true:=List.all_eq_true.1 ha
   simp[SWX,e1]
   rw[if_pos ha']
  ·have hil:=(List.getElem?_eq_some_iff.1 h3).1
   have q:=tblsL_nth h3
   have hv:=svalidTable_eq t (hs t h4).1 (hs t h4).2
   rw[h5]at hv
   have hna:¬ ∀ x∈db,x.ok=true:=fun h=>by rw[h t h4]at h5;cases h5
   simp[SWX,hil,q,hv,hna,intsL]
 ·intro i hi
  obtain⟨t,h3,h4,h5⟩:=h1 i hi
  have hil:=(List.getElem?_eq_some_iff.1 h3).1
  have q:=tblsL_nth h3
  have hv:=svalidTable_eq t (hs t h4).1 (hs t h4).2
  rw[h5]at hv
  have w3:IntKind.i64.wrap ((i:Int)+1)=i+1:=wrap64 (by omega) (by omega)
  have hb:(i+1)*8≤140737488355328:=by omega
  have hT:(db.map Tbl.w).take (i+1)=(db.map Tbl.w).take i++[t.w]:=take_snoc (by rw[List.getElem?_map,h3];rfl)
  have e1:List.take i (List.take i (db.map Tbl.w))=List.take i (db.map Tbl.w):=by rw[List.take_take,Nat.min_self]
  have hmin:min i db.length=i:=by omega
  simp[SWX,hil,q,hv,w3,hb,hT,e1,hmin,intsL_append,intsL]
theorem sEvalPlan_eq (p:Pn) (hp:p.thin) (db:List Tbl) (hl:db.length<1000000) (hs:∀ t∈db,t.small):callA C0 29 [.i (.agg p.cells), .i (.isl (tblsL db))] []=some (if evOk p db=true then .tup [.i (.agg [.int (p.evP db).w, .isl (rowsL (p.evP db).rows)]), .bool true]else .tup [.i (.agg [.int 0, .isl []]), .bool false],[]):=by
 have c1:=swidthsOf_eq db hl hs
 have c2:=P.widthOf_eq p (Pn.thin_lim p hp) (if db.all Tbl.ok=true then db.map Tbl.w else []) (by split<;>simp;omega)
 rw[callA_eq rfl Tryz.func29 rfl rfl]
 unfold evOk
 by_cases ha:db.all Tbl.ok=true
 ·rw[if_pos ha]at c1 c2
  by_cases hw:p.width (db.map Tbl.w)=0
  ·rw[hw]at c2
   rw[Pn.cells_eq p]at c2 ⊢
   simp[c1,c2,hw]
  ·have hwd:p.wd (db.map Tbl.w) 8≠0:=by
    unfold Pn.width at hw
    split at hw
    ·exact hw
    ·exact absurd rfl hw
   have c3:=sevalPlan_eq (db:=db) rfl (List.all_eq_true.1 ha) p 8 hwd
   rw[Pn.cells_eq p]at c2 c3 ⊢
   have ha':∀ x∈db,x.ok=true:=List.all_eq_true.1 ha
   simp[c1,c2,c3,hw]
   exact ha'
 ·rw[if_neg ha]at c1 c2
  have hz:p.width []=0:=by unfold Pn.width;rw[if_neg (by simp[okWs])]
  rw[hz]at c2
  rw[Pn.cells_eq p]at c2 ⊢
  have ha':¬ ∀ x∈db,x.ok=true:=fun h=>ha (List.all_eq_true.2 h)
  simp[c1,c2]
  simp[ha']
def ERX (a b:List Val) (i:Nat):AS :=
 { env:=[(0, .i (.isl (valsL a))),(1, .i (.isl (valsL b))),(4, .bool false),(5, .int i),(10, .bool false),(14,jk i (.bool true)),(25,jk i (.bool false))],st:=[] }
theorem equalRows_eq (a b:List Val) (hl:a.length<1000000):callA C0 110 [.i (.isl (valsL a)), .i (.isl (valsL b))] []=some (.bool (decide (a=b)),[]):=by
 rw[callA_eq rfl Tryz.func110 rfl rfl]
 by_cases h:a.length=b.length
 ·obtain⟨j,h1,h2⟩:=eq_first h
  simp[h]
  rw[loop_to (ERX a b) j (by simp[ERX])]
  ·rw[execA_loop]
   rcases h2 with ⟨hj,he⟩|⟨x,y,e1,e2,e3,e4⟩
   ·subst he;subst hj;simp[ERX]
   ·have l1:=(List.getElem?_eq_some_iff.1 e1).1
    have l2:=(List.getElem?_eq_some_iff.1 e2).1
    have r1:=valsL_nth e1
    have r2:=valsL_nth e2
    have hne:¬ (x.null=y.null∧x.n=y.n):=fun⟨h1,h2⟩=>e3 (by cases x;cases y;simp_all)
    by_cases hq:x.null=y.null
    ·have:¬ x.n=y.n:=fun h=>hne ⟨hq,h⟩
     simp[ERX,l1,l2,r1,r2,e4,hq,this]
    ·simp[ERX,l1,l2,r1,r2,e4,hq]
  ·intro i hi
   obtain⟨x,e1,e2⟩:=h1 i hi
   have l1:=(List.getElem?_eq_some_iff.1 e1).1
   have l2:=(List.getElem?_eq_some_iff.1 e2).1
   have r1:=valsL_nth e1
   have r2:=valsL_nth e2
   have w3:IntKind.i64.wrap ((i:Int)+1)=i+1:=wrap64 (by omega) (by omega)
   simp[ERX,l1,l2,r1,r2,w3]
 ·have hne:¬ a=b:=fun e=>h (by rw[e])
  have hI:¬ (a.length:Int)=b.length:=by omega
  simp[h,hne,hI]
def EBX (a b:List (List Val)) (i:Nat):AS :=
 { env:=[(0, .i (.isl (rowsL a))),(1, .i (.isl (rowsL b))),(4, .bool false),(5, .int i),(10, .bool false),(14,jk i (.bool true)),(26,jk i (.bool false))],st:=[] }
theorem equalBags_eq (a b:List (List Val)) (hl:a.length<1000000) (hr:∀ r∈a,r.length<1000000):callA C0 63 [.i (.isl (rowsL a)), .i (.isl (rowsL b))] []=some (.bool (decide (a=b)),[]):=by
 rw[callA_eq rfl Tryz.func63 rfl rfl]
 by_cases h:a.length=b.length
 ·obtain⟨j,h1,h2⟩:=eq_first h
  simp[h]
  rw[loop_to (EBX a b) j (by simp[EBX])]
  ·rw[execA_loop]
   rcases h2 with ⟨hj,he⟩|⟨x,y,e1,e2,e3,e4⟩
   ·subst he;subst hj;simp[EBX]
   ·have l1:=(List.getElem?_eq_some_iff.1 e1).1
    have l2:=(List.getElem?_eq_some_iff.1 e2).1
    have r1:=rowsL_nth e1
    have r2:=rowsL_nth e2
    have hc:=equalRows_eq x y (hr x (List.mem_of_getElem? e1))
    simp[EBX,l1,l2,r1,r2,e4,hc,e3]
  ·intro i hi
   obtain⟨x,e1,e2⟩:=h1 i hi
   have l1:=(List.getElem?_eq_some_iff.1 e1).1
   have l2:=(List.getElem?_eq_some_iff.1 e2).1
   have r1:=rowsL_nth e1
   have r2:=rowsL_nth e2
   have hc:=equalRows_eq x x (hr x (List.mem_of_getElem? e1))
   have w3:IntKind.i64.wrap ((i:Int)+1)=i+1:=wrap64 (by omega) (by omega)
   simp[EBX,l1,l2,r1,r2,w3,hc]
 ·have hne:¬ a=b:=fun e=>h (by rw[e])
  have hI:¬ (a.length:Int)=b.length:=by omega
  simp[h,hne,hI]
theorem equalTables_eq (a b:Tbl) (hs:a.small):callA C0 30 [.i (.agg [.int a.w, .isl (rowsL a.rows)]), .i (.agg [.int b.w, .isl (rowsL b.rows)])] []=some (.bool (decide (a.w=b.w) && decide (a.rows=b.rows)),[]):=by
 have hc:=equalBags_eq a.rows b.rows hs.1 hs.2
 rw[callA_eq rfl Tryz.func30 rfl rfl]
 by_cases hw:a.w=b.w
 ·simp[hw,hc]
 ·simp[hw]
def LWX (db:List Tbl) (i:Nat):AS :=
 { env:=[(0, .i (.isl (tblsL db))),(2, .nils),(3, .osl 0 1 0 i),(4, .int i),(9,jk i (.bool true))],st:=[some (.arr 1 (intsL ((db.take i).map Tbl.w)))] }
theorem lwidthsOf_eq (db:List Tbl) (hl:db.length<1000000):callA C0 36 [.i (.isl (tblsL db))] []=some (.i (.isl (intsL (db.map Tbl.w))),[]):=by
 rw[callA_eq rfl Tryz.func36 rfl rfl]
 simp
 rw[loop_to (LWX db) db.length (by simp[LWX,intsL])]
 ·rw[execA_loop]
  have e1:List.take db.length (db.map Tbl.w)=db.map Tbl.w:=List.take_of_length_le (by simp)
  simp[LWX,e1]
 ·intro i hi
  obtain⟨t,h3⟩:∃ t,db[i]?=some t:=⟨_,List.getElem?_eq_getElem hi⟩
  have q:=tblsL_nth h3
  have w3:IntKind.i64.wrap ((i:Int)+1)=i+1:=wrap64 (by omega) (by omega)
  have hb:(i+1)*8≤140737488355328:=by omega
  have hT:(db.map Tbl.w).take (i+1)=(db.map Tbl.w).take i++[t.w]:=take_snoc (by rw[List.getElem?_map,h3];rfl)
  have e1:List.take i (List.take i (db.map Tbl.w))=List.take i (db.map Tbl.w):=by rw[List.take_take,Nat.min_self]
  have hmin:min i db.length=i:=by omega
  simp[LWX,hi,q,w3,hb,hT,e1,hmin,intsL_append,intsL]
def IVX (t:Tbl) (i:Nat):AS :=
 { env:=[(0, .i (.agg [.int t.w, .isl (rowsL t.rows)])),(1, .own 0 0),(2, .bool false),(3,jk i (.int ((i:Int)-1))),(4,jk i (.isl (valsL ((t.rows[i-1]?).getD [])))),(14, .bool false),(16, .i (.isl (rowsL t.rows))),(17, .int t.rows.length),(18, .int i),(19,jk i (.bool true)),(32,jk i (.bool false)),(45,jk i (.bool false))],st:=[some (.box [.i (.int t.w), .i (.isl (rowsL t.rows))])] }
theorem ValidTable_eq (t:Tbl) (hl:∀ r∈t.rows,r.length<1000000):callA C0 34 [.i (.agg [.int t.w, .isl (rowsL t.rows)])] []=some (.bool t.ok,[]):=by
 rw[callA_eq rfl Tryz.func34 rfl rfl]
 by_cases hw:okWidth t.w=true
 case neg =>
  have ho:t.ok=false:=by unfold Tbl.ok;simp[hw]
  simp[hw,ho]
 by_cases h4:(400:Int)<t.rows.length
 ·have ho:t.ok=false:=by unfold Tbl.ok;have:¬ t.rows.length≤400:=by omega
                         simp[this]
  simp[hw,h4,ho]
 have h4':t.rows.length≤400:=by omega
 obtain⟨j,h1,h2⟩:=good_upto t
 have good:∀ i,i<j→∃ r,t.rows[i]?=some r∧okRow r=true∧(r.length:Int)=t.w∧(i≠0→∃ q,t.rows[i-1]?=some q∧rowLe q r=true):=by
  intro i hi
  obtain⟨k1,k2⟩:=h1 i hi
  have e1:=List.getElem?_eq_getElem k1
  refine⟨_,e1,?_⟩
  unfold goodAt at k2
  rw[e1]at k2
  simp only[Option.getD_some,Bool.and_eq_true,Bool.or_eq_true,decide_eq_true_eq]at k2
  refine⟨k2.1,k2.2.1,fun h0=>?_⟩
  have e2:=List.getElem?_eq_getElem (show i-1<t.rows.length by omega)
  rw[e2]at k2
  exact⟨_,e2,by rcases k2.2.2 with e|e;omega;simpa using e⟩
 simp[hw,h4]
 rw[loop_to (IVX t) j (by simp[IVX])]
 ·rw[execA_loop]
  rcases h2 with ⟨e,ho⟩|⟨e,hb,ho⟩
  ·simp[IVX,e,ho,hw,h4']
  ·have e1:=List.getElem?_eq_getElem e
   have hm:=List.mem_of_getElem? e1
   unfold goodAt at hb
   rw[e1]at hb
   generalize t.rows[j]=r at e1 hm hb
   have r1:=rowsL_nth e1
   have c1:=validRow_eq r (by have:=hl r hm;omega)
   by_cases v2:(r.length:Int)=t.w
   ·by_cases v1:okRow r=true
    ·simp only[Option.getD_some,v1,v2,decide_true,Bool.true_and,Bool.or_eq_false_iff,decide_eq_false_iff_not]at hb
     obtain⟨hj0,hlt⟩:=hb
     obtain⟨q,g1,g2,g3,_⟩:=good (j-1) (by omega)
     rw[g1]at hlt
     have hgt:0<rowCmp q r:=by simp[rowLe]at hlt;omega
     have q1:=rowsL_nth g1
     have w3:IntKind.i64.wrap ((j:Int)-1)=((j-1:Nat):Int):=by rw[wrap64 (by omega) (by omega)];omega
     have hc:=compareRows_eq q r (hl q (List.mem_of_getElem? g1)) (hl r hm)
     have hjl:j-1<t.rows.length:=by omega
     have hjp:(0:Int)<j:=by omega
     have hjp':0<j:=by omega
     simp[IVX,e,ho,r1,c1,v1,v2,q1,w3,hc,hgt,hjl,hjp,hjp']
    ·simp[IVX,e,ho,r1,c1,v1,v2]
   ·simp[IVX,e,ho,r1,v2]
 ·intro i hi
  obtain⟨r,e1,v1,v2,v3⟩:=good i hi
  have hm:=List.mem_of_getElem? e1
  obtain⟨_,hg⟩:=List.getElem?_eq_some_iff.1 e1
  have r1:=rowsL_nth e1
  have hil:=(h1 i hi).1
  have c1:=validRow_eq r (by have:=hl r hm;omega)
  have w2:IntKind.i64.wrap ((i:Int)+1)=i+1:=wrap64 (by omega) (by omega)
  by_cases h0:i=0
  ·subst h0
   simp[IVX,hil,r1,c1,v1,v2,wrap_1,hg]
  ·obtain⟨q,g1,g4⟩:=v3 h0
   have hle:¬ 0<rowCmp q r:=by simp[rowLe]at g4;omega
   have q1:=rowsL_nth g1
   have w3:IntKind.i64.wrap ((i:Int)-1)=((i-1:Nat):Int):=by rw[wrap64 (by omega) (by omega)];omega
   have hc:=compareRows_eq q r (hl q (List.mem_of_getElem? g1)) (hl r hm)
   have hjl:i-1<t.rows.length:=by omega
   have hjp:(0:Int)<i:=by omega
   have hjp':0<i:=by omega
   simp[IVX,hil,r1,c1,v1,v2,q1,w3,hc,hle,hjl,hjp,hjp',w2,hg]
def PKX (a:List Val) (l:List Int) (i:Nat):AS :=
 { env:=[(0, .i (.isl (valsL a))),(1, .i (.isl (intsL l))),(4, .nils),(5,gro 0 2 i),(7,jk i (.int ((l[i-1]?).getD 0))),(8, .i (.isl (intsL l))),(9, .int l.length),(10, .int i),(11,jk i (.bool true))],st:=groB 2 (valsL (pickV (l.take i) a)) i }
theorem picked_eq (a:List Val) (l:List Int) (hl:l.length<1000000) (h:∀ c∈l,0≤c∧c<a.length):callA C0 182 [.i (.isl (valsL a)), .i (.isl (intsL l))] []=some (gro 0 2 l.length,groB 2 (valsL (pickV l a)) l.length):=by
 rw[callA_eq rfl Tryz.func182 rfl rfl]
 have hlen:∀ k,k≤l.length→(pickV (l.take k) a).length=k:=by intro k hk;simp[pickV];omega
 simp
 rw[loop_to (PKX a l) l.length (by simp[PKX])]
 ·rw[execA_loop]
  have e0:l.take l.length=l:=List.take_of_length_le (by simp)
  by_cases hz:l.length=0
  ·simp[PKX,hz]
  ·simp[PKX,hz,gro_pos hz,groB_pos hz,e0]
 ·intro i hi
  obtain⟨c,hc⟩:∃ c,l[i]?=some c:=⟨_,List.getElem?_eq_getElem hi⟩
  obtain⟨_,hg⟩:=List.getElem?_eq_some_iff.1 hc
  obtain⟨c0,c1⟩:=h c (List.mem_of_getElem? hc)
  have k1:=intsL_nth hc
  have k2:=valsL_nth (List.getElem?_eq_getElem (show c.toNat<a.length by omega))
  have w3:IntKind.i64.wrap ((i:Int)+1)=i+1:=wrap64 (by omega) (by omega)
  have hb:(i+1)*16≤140737488355328:=by omega
  have e1:(pickV (l.take i) a).take i=pickV (l.take i) a:=List.take_of_length_le (by rw[hlen i (by omega)];omega)
  have e2:=hlen i (by omega)
  have e3:pickV (l.take (i+1)) a=pickV (l.take i) a++[(a[c.toNat]?).getD Val.zero]:=by rw[take_snoc hc];simp[pickV]
  rw[List.getElem?_eq_getElem (show c.toNat<a.length by omega)]at e3
  by_cases h0:i=0
  ·subst h0
   simp[pickV]at e3
   simp[PKX,hi,k1,k2,c0,c1,wrap_1,pickV,e3,valsL,hg]
  ·simp[PKX,hi,k1,k2,c0,c1,w3,hb,e1,e2,e3,gro_pos h0,groB_pos h0,valsL_append,valsL,hg]
def IWX (db:List Tbl) (i:Nat):AS :=
 { env:=[(0, .i (.isl (tblsL db))),(2, .nils),(3, .bool false),(4,gro 0 1 i),(6,if i=0 then .junk else .own 1 0),(14, .bool false),(15, .i (.isl (tblsL db))),(16, .int db.length),(17, .int i),(18,jk i (.bool true)),(23,jk i (.bool false))],
   st:=if i=0 then []else [some (.arr 1 (intsL ((db.take i).map Tbl.w))),some (.box [.i (.int ((db[i-1]?).getD tblZ).w), .i (.isl (rowsL ((db[i-1]?).getD tblZ).rows))])] }
theorem widthsOf_eq (db:List Tbl) (hs:∀ t∈db,t.small):callA C0 73 [.i (.isl (tblsL db))] []=some (if(decide (1≤db.length∧db.length≤4) && db.all Tbl.ok)=true then .tup [.i (.isl (intsL (db.map Tbl.w))), .bool true]else .tup [.i (.isl []), .bool false],[]):=by
 rw[callA_eq rfl Tryz.func73 rfl rfl]
 by_cases hz:(db.length:Int)<1
 ·have:¬ 1≤db.length:=by omega
  simp[hz,this]
 by_cases h4:(4:Int)<db.length
 ·have:¬ db.length≤4:=by omega
  simp[hz,h4,this]
 have hb1:1≤db.length:=by omega
 have hb4:db.length≤4:=by omega
 obtain⟨j,h1,h2⟩:=upto_bad Tbl.ok db
 simp[hz,h4]
 rw[loop_to (IWX db) j (by simp[IWX])]
 ·rw[execA_loop]
  rcases h2 with ⟨hj,ha⟩|⟨t,h3,h4',h5,ha⟩
  ·subst hj
   have hn:db.length≠0:=by omega
   have e1:List.take db.length (db.map Tbl.w)=db.map Tbl.w:=List.take_of_length_le (by simp)
   simp[IWX,hn,gro_pos hn,e1,hb1,hb4]
   exact List.all_eq_true.1 ha
  ·have hil:=(List.getElem?_eq_some_iff.1 h3).1
   have q:=tblsL_nth h3
   have hv:=ValidTable_eq t (hs t h4').2
   rw[h5]at hv
   by_cases h0:j=0
   ·subst h0
    simp[IWX,hil,q,hv]
    exact fun _ _=>⟨t,h4',h5⟩
   ·simp[IWX,h0,gro_pos h0,hil,q,hv]
    exact fun _ _=>⟨t,h4',h5⟩
 ·intro i hi
  obtain⟨t,h3,h4',h5⟩:=h1 i hi
  obtain⟨hil,hg⟩:=List.getElem?_eq_some_iff.1 h3
  have q:=tblsL_nth h3
  have hv:=ValidTable_eq t (hs t h4').2
  rw[h5]at hv
  have w3:IntKind.i64.wrap ((i:Int)+1)=i+1:=wrap64 (by omega) (by omega)
  have hb:(i+1)*8≤140737488355328:=by omega
  have hT:(db.map Tbl.w).take (i+1)=(db.map Tbl.w).take i++[t.w]:=take_snoc (by rw[List.getElem?_map,h3];rfl)
  have e1:List.take i (List.take i (db.map Tbl.w))=List.take i (db.map Tbl.w):=by rw[List.take_take,Nat.min_self]
  have hmin:min i db.length=i:=by omega
  by_cases h0:i=0
  ·subst h0
   simp at hT
   simp[IWX,hil,q,hv,wrap_1,hT,hg,intsL]
  ·simp[IWX,h0,gro_pos h0,hil,q,hv,w3,hb,hT,e1,hmin,hg,intsL_append,intsL]
theorem copiedRow_eq (a:List Val) (h0:a≠[]) (hl:a.length<1000000):callA C0 111 [.i (.isl (valsL a))] []=some (.i (.isl (valsL a)),[]):=by
 have hb:16*(a.length:Int)≤281474976710656:=by omega
 have hb2:16*a.length≤281474976710656:=by omega
 have e1:List.take a.length (valsL a)=valsL a:=List.take_of_length_le (by simp)
 rw[callA_eq rfl Tryz.func111 rfl rfl]
 simp[h0,hb,hb2,e1,over]
 done
theorem randomValue_ok (l:List UInt8) (p:Int) (h0:0≤p) (h1:p<900000000) (hl:l.length≤2000) :
 ∃ (v:Val) (p':Int),callA C0 205 [.own 0 0] [Rd l p]=some (.i (.agg [.bool v.null, .int v.n]),[Rd l p'])∧p≤p'∧p'≤p+2∧v.ok=true:=by
 obtain⟨v,hv,hv1,hv2⟩:=pick_eq l p 5 h0 (by omega) hl
 by_cases h:v=0
 ·refine⟨⟨true,0⟩,p+1,?_,by omega,by omega,rfl⟩
  rw[callA_eq rfl Tryz.func205 rfl rfl]
  simp[hv,h]
 ·obtain⟨x,hx,hm⟩:=one_eq l (p+1) (by omega) (by omega) hl [[.int 0],[.int 1],[.int 2],[.int 3],[.int (-1)]] (by simp) (by simp) (by simp)
  refine⟨⟨false,x⟩,p+1+1,?_,by omega,by omega,?_⟩
  ·rw[callA_eq rfl Tryz.func205 rfl rfl]
   simp at hx
   simp[hv,h,hx]
  ·simp at hm
   rcases hm with rfl|rfl|rfl|rfl|rfl<;>rfl
theorem draws_ok (l:List UInt8) (hl:l.length≤2000):∀ (n:Nat) (p:Int),0≤p→p+2*n<800000000→∃ (vs:List Val) (ps:Nat→Int),vs.length=n∧vs.all Val.ok=true∧ps 0=p∧(∀ i,i≤n→p≤ps i∧ps i≤p+2*i)∧∀ i v,vs[i]?=some v→callA C0 205 [.own 0 0] [Rd l (ps i)]=some (.i (.agg [.bool v.null, .int v.n]),[Rd l (ps (i+1))])
 | 0,p,h0,h1=>⟨[],fun _=>p,rfl,rfl,rfl,fun i hi=>by show p≤p∧p≤p+2*(i:Int);omega,fun i v h=>by simp at h⟩
 | n+1,p,h0,h1=>by
  obtain⟨v,p1,hv,q1,q2,q3⟩:=randomValue_ok l p h0 (by omega) hl
  obtain⟨vs,ps,a1,a5,a2,a3,a4⟩:=draws_ok l hl n p1 (by omega) (by omega)
  refine⟨v::vs,fun i=>match i with|0=>p|i+1=>ps i,by simp[a1],by simp[q3];simpa using a5,rfl,?_,?_⟩
  ·intro i hi
   cases i with
   | zero=>simp
   | succ i=>have:=a3 i (by omega);simp;omega
  ·intro i u hu
   cases i with
   | zero=>simp at hu;subst hu;simp only;rw[a2];exact hv
   | succ i=>exact a4 i u (by simpa using hu)
def RWX (l:List UInt8) (vs:List Val) (ps:Nat→Int) (n:Nat) (i:Nat):AS :=
 { env:=[(0, .own 0 0),(1, .int n),(4, .nils),(5, .osl 1 2 0 i),(6, .int i),(10,jk i (.bool true))],st:=[Rd l (ps i),some (.arr 2 (valsL (vs.take i)))] }
theorem randomRow_eq (l:List UInt8) (hl:l.length≤2000) (n:Nat) (hn:n≤10) (p:Int) (h0:0≤p) (h1:p<700000000):∃ (x:List Val) (p':Int),callA C0 170 [.own 0 0, .int n] [Rd l p]=some (.osl 1 2 0 x.length,[Rd l p',some (.arr 2 (valsL x))])∧x.length=n∧x.all Val.ok=true∧p≤p'∧p'≤p+20:=by
 obtain⟨vs,ps,a1,a5,a2,a3,a4⟩:=draws_ok l hl n p h0 (by omega)
 have b1:=a3 n (by omega)
 refine⟨vs,ps n,?_,a1,a5,by omega,by omega⟩
 rw[callA_eq rfl Tryz.func170 rfl rfl]
 simp
 rw[loop_to (RWX l vs ps n) n (by simp[RWX,a2,valsL])]
 ·rw[execA_loop]
  have e1:vs.take n=vs:=List.take_of_length_le (by omega)
  simp[RWX,e1,a1]
 ·intro i hi
  obtain⟨v,hv⟩:∃ v,vs[i]?=some v:=⟨_,List.getElem?_eq_getElem (by omega)⟩
  have hd:=a4 i v hv
  have hT:=take_snoc hv
  have w3:IntKind.i64.wrap ((i:Int)+1)=i+1:=wrap64 (by omega) (by omega)
  have hb:(i+1)*16≤140737488355328:=by omega
  have e1:List.take i (List.take i vs)=List.take i vs:=by rw[List.take_take,Nat.min_self]
  have hmin:min i vs.length=i:=by omega
  simp[RWX,hi,hd,hT,w3,hb,e1,hmin,valsL_append,valsL]
theorem rows_ok (l:List UInt8) (hl:l.length≤2000) (w:Nat) (hw:w≤10):∀ (n:Nat) (p:Int),0≤p→p+20*n<600000000→∃ (rs:List (List Val)) (ps:Nat→Int),rs.length=n∧(∀ r∈rs,r.all Val.ok=true∧r.length=w)∧ps 0=p∧(∀ i,i≤n→p≤ps i∧ps i≤p+20*i)∧∀ i x,rs[i]?=some x→callA C0 170 [.own 0 0, .int w] [Rd l (ps i)]=some (.osl 1 2 0 x.length,[Rd l (ps (i+1)),some (.arr 2 (valsL x))])
 | 0,p,h0,h1=>⟨[],fun _=>p,rfl,by simp,rfl,fun i hi=>by show p≤p∧p≤p+20*(i:Int);omega,fun i v h=>by simp at h⟩
 | n+1,p,h0,h1=>by
  obtain⟨x,p1,hv,q3,q4,q1,q2⟩:=randomRow_eq l hl w hw p h0 (by omega)
  obtain⟨rs,ps,a1,a5,a2,a3,a4⟩:=rows_ok l hl w hw n p1 (by omega) (by omega)
  refine⟨x::rs,fun i=>match i with|0=>p|i+1=>ps i,by simp[a1],?_,rfl,?_,?_⟩
  ·intro r hr
   rcases List.mem_cons.1 hr with rfl|hr
   ·exact⟨q4,q3⟩
   ·exact a5 r hr
  ·intro i hi
   cases i with
   | zero=>simp
   | succ i=>have:=a3 i (by omega);simp;omega
  ·intro i u hu
   cases i with
   | zero=>simp at hu;subst hu;simp only;rw[a2];exact hv
   | succ i=>exact a4 i u (by simpa using hu)
def RTBX (l:List UInt8) (w:Nat) (m:Int) (rs:List (List Val)) (ps:Nat→Int) (n:Nat) (i:Nat):AS :=
 { env:=[(0, .own 0 0),(1, .int w),(2, .int m),(6, .own 1 0),(7, .osl 2 1 0 i),(8, .int ((n:Int)-i)),(15,jk i (.bool true))],st:=[Rd l (ps i),some (.box [.int 0, .nils]),some (.arr 1 (rowsL (rs.take i)))] }
theorem randomTable_eq (l:List UInt8) (hl:l.length≤2000) (w:Nat) (hw0:w≠0) (hw:w≤10) (m:Nat) (hm:m≤20) (p:Int) (h0:0≤p) (h1:p<500000000):∃ (rs:List (List Val)) (p':Int),callA C0 125 [.own 0 0, .int w, .int m] [Rd l p]=some (.i (.agg [.int w, .isl (rowsL (sortR rs))]),[Rd l p'])∧rs.length≤m∧(∀ r∈rs,r.all Val.ok=true∧r.length=w)∧p≤p'∧p'≤p+500:=by
 have wm:IntKind.i64.wrap ((m:Int)+1)=((m+1:Nat):Int):=by rw[wrap64 (by omega) (by omega)];omega
 obtain⟨k,hk,hk1,-⟩:=pick_eq l p ((m+1:Nat):Int) h0 (by omega) hl
 obtain⟨k0,k1⟩:=hk1 (by omega)
 obtain⟨n,rfl⟩:∃ n:Nat,k=n:=⟨k.toNat,by omega⟩
 obtain⟨rs,ps,a1,a5,a2,a3,a4⟩:=rows_ok l hl w hw n (p+1) (by omega) (by omega)
 have b1:=a3 n (by omega)
 have hc:=stableOf_eq w rs w (by omega) hw0 (by omega) a5
 rw[tab_rows (by omega)]at hc
 refine⟨rs,ps n,?_,by omega,a5,by omega,by omega⟩
 rw[callA_eq rfl Tryz.func125 rfl rfl]
 simp[wm]
 simp at hk
 simp[hk]
 rw[loop_to (RTBX l w m rs ps n) n (by simp[RTBX,a2,rowsL_nil])]
 ·rw[execA_loop]
  have e1:rs.take n=rs:=List.take_of_length_le (by omega)
  simp[RTBX,e1,a1,hc]
 ·intro i hi
  obtain⟨x,hx⟩:∃ x,rs[i]?=some x:=⟨_,List.getElem?_eq_getElem (by omega)⟩
  have hd:=a4 i x hx
  have hT:=take_snoc hx
  have hpos:(0:Int)<(n:Int)-i:=by omega
  have w3:IntKind.i64.wrap ((n:Int)-i-1)=(n:Int)-(i+1):=by rw[wrap64 (by omega) (by omega)];omega
  have hb:(i+1)*24≤140737488355328:=by omega
  have e1:List.take i (List.take i rs)=List.take i rs:=by rw[List.take_take,Nat.min_self]
  have e2:x.take x.length=x:=List.take_of_length_le (by simp)
  have hmin:min i rs.length=i:=by omega
  have hlt:(i:Int)<n:=by omega
  simp[RTBX,hpos,hlt,hi,hd,hT,w3,hb,e1,e2,hmin,rowsL_append,rowsL_cons,rowsL_nil]
end Go.Proofs.YtiailccmofdhfaaGreat
namespace Go.Av
def swR (P X M Y S:List (List Val)) (i:Nat):List (List Val):=(P++Y.take i)++X.drop i++M++X.take i++Y.drop i++S
theorem swR_at {P X M Y S:List (List Val)} {i:Nat} {x y:List Val} (hx:X[i]?=some x) (hy:Y[i]?=some y):swR P X M Y S i=(P++Y.take i)++x::((X.drop (i+1)++M++X.take i)++y::(Y.drop (i+1)++S)):=by
 obtain⟨h1,rfl⟩:=List.getElem?_eq_some_iff.1 hx
 obtain⟨h2,rfl⟩:=List.getElem?_eq_some_iff.1 hy
 unfold swR
 rw[List.drop_eq_getElem_cons h1,List.drop_eq_getElem_cons h2];simp only[List.append_assoc,List.cons_append]
theorem swR_next {P X M Y S:List (List Val)} {i:Nat} {x y:List Val} (hx:X[i]?=some x) (hy:Y[i]?=some y):swR P X M Y S (i+1)=(P++Y.take i)++y::((X.drop (i+1)++M++X.take i)++x::(Y.drop (i+1)++S)):=by
 unfold swR
 rw[take_snoc hx,take_snoc hy];simp
theorem swR_len (P X M Y S:List (List Val)) (i:Nat):(swR P X M Y S i).length=P.length+X.length+M.length+Y.length+S.length:=by
 unfold swR
 simp
 omega
end Go.Av
namespace Go.Proofs.YtiailccmofdhfaaGreat
open Go Go.Av
set_option maxRecDepth 4000
set_option maxHeartbeats 8000000
def SRX (P X M Y S:List (List Val)) (kb:Option Blk) (N a b n:Nat) (i:Nat):AS :=
 { env:=[(0, .osl 0 1 0 N),(1, .int a),(2, .int b),(3, .int n),(10, .int i),(13,jk i (.bool true))],st:=[some (.arr 1 (rowsL (swR P X M Y S i))),kb] }
theorem swapRange_eq (P X M Y S:List (List Val)) (c:List Int) (f:FuncId) (N a b n:Nat) (hP:P.length=a) (hX:X.length=n) (hY:Y.length=n) (hb:b=a+n+M.length) (hN:N=P.length+X.length+M.length+Y.length+S.length) (hs:N<1000000) :
 callA C0 227 [.osl 0 1 0 N, .int a, .int b, .int n, .fn (.func f) [.own 1 0]] [some (.arr 1 (rowsL (P++X++M++Y++S))),some (.box [.i (.isl (intsL c))])]=some (.tup [],[some (.arr 1 (rowsL (P++Y++M++X++S))),some (.box [.i (.isl (intsL c))])]):=by
 rw[callA_eq rfl Tryz.func227 rfl rfl]
 have e0:swR P X M Y S 0=P++(X++(M++(Y++S))):=by simp[swR]
 have en:swR P X M Y S n=P++(Y++(M++(X++S))):=by unfold swR;rw[List.take_of_length_le (by omega),List.take_of_length_le (by omega),List.drop_of_length_le (by omega),List.drop_of_length_le (by omega)];simp
 simp
 rw[loop_to (SRX P X M Y S (some (.box [.i (.isl (intsL c))])) N a b n) n (by simp[SRX,e0])]
 ·rw[execA_loop]
  simp[SRX,en]
 ·intro i hi
  obtain⟨x,hx⟩:∃ x,X[i]?=some x:=⟨_,List.getElem?_eq_getElem (by omega)⟩
  obtain⟨y,hy⟩:∃ y,Y[i]?=some y:=⟨_,List.getElem?_eq_getElem (by omega)⟩
  have h1:=swR_at (P:=P) (M:=M) (S:=S) hx hy
  have h2:=swR_next (P:=P) (M:=M) (S:=S) hx hy
  have hl:=swR_len P X M Y S i
  have hPl:(P++Y.take i).length=a+i:=by simp;omega
  have hMl:(X.drop (i+1)++M++X.take i).length=n+M.length-1:=by simp;omega
  have hsw:=swp_mid (P++Y.take i) (X.drop (i+1)++M++X.take i) (Y.drop (i+1)++S) x y (i:=a+i) (j:=b+i) hPl.symm (by rw[hPl,hMl];omega)
  rw[← h1,← h2]at hsw
  have q1:(swR P X M Y S i)[a+i]?=some x:=by rw[h1];exact nth_mid _ _ _ hPl.symm
  have q2:(swR P X M Y S i)[b+i]?=some y:=by
   rw[h1]
   have:∀ (A B:List (List Val)) (u:List Val),A++u::(B++y::(Y.drop (i+1)++S))=(A++u::B)++y::(Y.drop (i+1)++S):=by intros;simp
   rw[this]
   refine nth_mid _ _ _ ?_
   rw[List.length_append,List.length_cons,hPl,hMl];omega
  have r1:=rowsL_nth q1
  have r2:=rowsL_nth q2
  have w1:IntKind.i64.wrap ((a:Int)+i)=((a+i:Nat):Int):=by rw[wrap64 (by omega) (by omega)];omega
  have w2:IntKind.i64.wrap ((b:Int)+i)=((b+i:Nat):Int):=by rw[wrap64 (by omega) (by omega)];omega
  have w3:IntKind.i64.wrap ((i:Int)+1)=i+1:=wrap64 (by omega) (by omega)
  have l1:a+i<N:=by omega
  have l2:b+i<N:=by omega
  have l3:a+i<(swR P X M Y S i).length:=by omega
  have l4:b+i<(swR P X M Y S i).length:=by omega
  have hlN:N≤(swR P X M Y S i).length:=by omega
  have hset:((rowsL (swR P X M Y S i)).set (a+i) [.isl (valsL y)]).set (b+i) [.isl (valsL x)]=rowsL (swR P X M Y S (i+1)):=by rw[rowsL_set,rowsL_set,← hsw];rfl
  have hset':((rowsL (swR P X M Y S i)).set (b+i) [.isl (valsL x)]).set (a+i) [.isl (valsL y)]=rowsL (swR P X M Y S (i+1)):=by rw[List.set_comm _ _ (by omega),hset]
  have l1i:(a:Int)+i<N:=by omega
  have l2i:(b:Int)+i<N:=by omega
  have z1:(0:Int)≤(a:Int)+i:=by omega
  have z2:(0:Int)≤(b:Int)+i:=by omega
  have t1:((a:Int)+i).toNat=a+i:=by omega
  have t2:((b:Int)+i).toNat=b+i:=by omega
  have n1:nthE ((rowsL (swR P X M Y S i)).set (a+i) [.isl (valsL y)]) (b+i)=some [.isl (valsL y)]:=by
   rw[nthE_eq,List.getElem?_set_ne (by omega),← nthE_eq];exact r2
  simp[SRX,hi,w1,w2,w3,l1,l2,l3,l4,l1i,l2i,z1,z2,t1,t2,r1,r2,n1,hset,hset',hlN]
def ROX (l:List (List Val)) (kb:Option Blk) (f:FuncId) (N a m b i j n:Nat) (c:Bool) (g:AV):AS :=
 { env:=[(0, .osl 0 1 0 N),(1, .int a),(2, .int m),(3, .int b),(4, .fn (.func f) [.own 1 0]),(10, .int i),(11, .int j),(20,g),(23,jk n (.bool c))],st:=[some (.arr 1 (rowsL l)),kb] }
theorem rotate_eq (P U V S:List (List Val)) (cs:List Int) (f:FuncId) (N a m b:Nat) (hU:U≠[]) (hV:V≠[]) (hP:P.length=a) (hm:m=a+U.length) (hb:b=m+V.length) (hN:N=P.length+U.length+V.length+S.length) (hs:N<1000000) :
 callA C0 226 [.osl 0 1 0 N, .int a, .int m, .int b, .fn (.func f) [.own 1 0]] [some (.arr 1 (rowsL (P++U++V++S))),some (.box [.i (.isl (intsL cs))])]=some (.tup [],[some (.arr 1 (rowsL (P++V++U++S))),some (.box [.i (.isl (intsL cs))])]):=by
 have hU0:=List.length_pos_iff.2 hU
 have hV0:=List.length_pos_iff.2 hV
 have w1:IntKind.i64.wrap ((m:Int)-a)=(U.length:Int):=by rw[wrap64 (by omega) (by omega)];omega
 have w2:IntKind.i64.wrap ((b:Int)-m)=(V.length:Int):=by rw[wrap64 (by omega) (by omega)];omega
 rw[callA_eq rfl Tryz.func226 rfl rfl]
 simp only[List.append_assoc]
 obtain⟨T,hT⟩:∃ T,T=P++(V++(U++S)):=⟨_,rfl⟩
 rw[← hT]
 simp[w1,w2]
 generalize hX:execA C0 _ _ (Code.loop _) _=X
 have key:∃ rr,X=some rr∧∃ (P' L R S':List (List Val)) (n:Nat) (c:Bool),rr=(.exit 0,ROX (P'++(L++(R++S'))) (some (.box [.i (.isl (intsL cs))])) f N a m b L.length L.length n c (.bool false))∧R.length=L.length∧P'.length+L.length=m∧P'++(R++(L++S'))=T∧N=P'.length+L.length+R.length+S'.length:=by
  rw[← hX]
  refine loop_wf (fun d St=>∃ (P' L R S':List (List Val)) (n:Nat) (c:Bool),St=ROX (P'++(L++(R++S'))) (some (.box [.i (.isl (intsL cs))])) f N a m b L.length R.length n c (jk n (.bool true))∧0<L.length∧0<R.length∧d=L.length+R.length∧P'.length+L.length=m∧P'++(R++(L++S'))=T∧N=P'.length+L.length+R.length+S'.length) ?_ _ _ ⟨P,U,V,S,0,true,by simp[ROX],hU0,hV0,rfl,by omega,hT.symm,by omega⟩
  rintro d St ⟨P',L,R,S',n,c,rfl,h1,h2,h3,h4,h5,h6⟩
  by_cases he:L.length=R.length
  ·right
   refine⟨.exit 0,_,?_,by simp,P',L,R,S',n,c,rfl,he.symm,h4,h5,h6⟩
   simp[ROX,he]
  ·left
   have heI:¬ (L.length:Int)=R.length:=by omega
   by_cases hgt:R.length<L.length
   ·have hgtI:(R.length:Int)<L.length:=by omega
    have hsr:=swapRange_eq P' (L.take R.length) (L.drop R.length) R S' cs f N (m-L.length) m R.length (by omega) (by simp;omega) rfl (by simp;omega) (by simp;omega) hs
    have e1:P'++L.take R.length++L.drop R.length++R++S'=P'++(L++(R++S')):=by simp
    have e2:P'++R++L.drop R.length++L.take R.length++S'=(P'++R)++(L.drop R.length++(L.take R.length++S')):=by simp
    rw[e1,e2]at hsr
    have w3:IntKind.i64.wrap ((m:Int)-L.length)=((m-L.length:Nat):Int):=by rw[wrap64 (by omega) (by omega)];omega
    have w4:IntKind.i64.wrap ((L.length:Int)-R.length)=((L.length-R.length:Nat):Int):=by rw[wrap64 (by omega) (by omega)];omega
    have l1:(L.drop R.length).length=L.length-R.length:=by simp
    have l2:(L.take R.length).length=R.length:=by simp;omega
    refine⟨ROX ((P'++R)++(L.drop R.length++(L.take R.length++S'))) (some (.box [.i (.isl (intsL cs))])) f N a m b (L.length-R.length) R.length 1 true (.bool true),L.length,?_,by omega,P'++R,L.drop R.length,L.take R.length,S',1,true,by rw[l1,l2];rfl,by omega,by omega,by omega,by rw[List.length_append,l1];omega,by rw[← h5];simp only[List.append_assoc];rw[← List.append_assoc (L.take _),List.take_append_drop],by rw[l1,l2,List.length_append];omega⟩
    simp only[List.append_assoc]at hsr ⊢
    simp[ROX,heI,hgtI,w3,w4,hsr]
   ·have hgtI:¬ (R.length:Int)<L.length:=by omega
    have hsr:=swapRange_eq P' L (R.take (R.length-L.length)) (R.drop (R.length-L.length)) S' cs f N (m-L.length) (m+R.length-L.length) L.length (by omega) rfl (by simp;omega) (by simp;omega) (by simp;omega) hs
    have e1:P'++L++R.take (R.length-L.length)++R.drop (R.length-L.length)++S'=P'++(L++(R++S')):=by simp
    have e2:P'++R.drop (R.length-L.length)++R.take (R.length-L.length)++L++S'=P'++(R.drop (R.length-L.length)++(R.take (R.length-L.length)++(L++S'))):=by simp
    rw[e1,e2]at hsr
    have w3:IntKind.i64.wrap ((m:Int)-L.length)=((m-L.length:Nat):Int):=by rw[wrap64 (by omega) (by omega)];omega
    have w5:IntKind.i64.wrap ((m:Int)+R.length)=(m:Int)+R.length:=wrap64 (by omega) (by omega)
    have w6:IntKind.i64.wrap ((m:Int)+R.length-L.length)=((m+R.length-L.length:Nat):Int):=by rw[wrap64 (by omega) (by omega)];omega
    have w4:IntKind.i64.wrap ((R.length:Int)-L.length)=((R.length-L.length:Nat):Int):=by rw[wrap64 (by omega) (by omega)];omega
    have l1:(R.drop (R.length-L.length)).length=L.length:=by simp;omega
    have l2:(R.take (R.length-L.length)).length=R.length-L.length:=by simp
    refine⟨ROX (P'++(R.drop (R.length-L.length)++(R.take (R.length-L.length)++(L++S')))) (some (.box [.i (.isl (intsL cs))])) f N a m b L.length (R.length-L.length) 1 false (.bool true),R.length,?_,by omega,P',R.drop (R.length-L.length),R.take (R.length-L.length),L++S',1,false,by rw[l1,l2];rfl,by omega,by omega,by omega,by omega,by rw[← h5,← List.append_assoc (R.take _),List.take_append_drop],by rw[l1,l2,List.length_append];omega⟩
    simp[ROX,heI,hgtI,w3,w4,w5,w6,hsr]
 obtain⟨rr,rfl,P',L,R,S',n,c,rfl,k1,k2,k3,k4⟩:=key
 have hsr:=swapRange_eq P' L [] R S' cs f N (m-L.length) m L.length (by omega) rfl k1 (by simp;omega) (by simp;omega) hs
 simp only[List.append_nil,List.append_assoc]at hsr
 have w3:IntKind.i64.wrap ((m:Int)-L.length)=((m-L.length:Nat):Int):=by rw[wrap64 (by omega) (by omega)];omega
 simp[ROX,w3,hsr,k3]
theorem gcmp_eq (cs:List Int) (hl:cs.length<1000000) (x y:List Val) (hx:∀ c∈cs,0≤c∧c<x.length) (hy:∀ c∈cs,0≤c∧c<y.length):callA C0 212 [.i (.isl (valsL x)), .i (.isl (valsL y)), .own 0 0] [some (.box [.i (.isl (intsL cs))])]=some (.int (rowCmp (pickV cs x) (pickV cs y)),[some (.box [.i (.isl (intsL cs))])]):=by
 have h1:=picked_eq x cs hl hx
 have h2:=picked_eq y cs hl hy
 have hc:=compareRows_eq (pickV cs x) (pickV cs y) (by simp[pickV];omega) (by simp[pickV];omega)
 have l1:(pickV cs x).length=cs.length:=by simp[pickV]
 have l2:(pickV cs y).length=cs.length:=by simp[pickV]
 have t1:(pickV cs x).take cs.length=pickV cs x:=List.take_of_length_le (by omega)
 have t2:(pickV cs y).take cs.length=pickV cs y:=List.take_of_length_le (by omega)
 rw[callA_eq rfl Tryz.func212 rfl rfl]
 by_cases h0:cs.length=0
 ·have:cs=[]:=List.length_eq_zero_iff.1 h0
  subst this
  simp[pickV,intsL,valsL]at h1 h2 hc
  simp[intsL,h1,h2,hc,pickV]
 ·rw[gro_pos h0,groB_pos h0]at h1 h2
  simp[h1,h2,hc,l1,l2,t1,t2]
def INX (l:List (List Val)) (kb:Option Blk) (N a b:Nat) (i:Int) (n9:Nat) (j:Int) (n34:Nat) (c34:Bool) (g:AV):AS :=
 { env:=[(0, .osl 0 1 0 N),(1, .int a),(2, .int b),(3, .fn (.func 212) [.own 1 0]),(8, .int i),(9,jk n9 (.int j)),(14,g),(34,jk n34 (.bool c34))],st:=[some (.arr 1 (rowsL l)),kb] }
theorem insertionSort_eq (P M S:List (List Val)) (cs:List Int) (N a b:Nat) (hP:P.length=a) (hb:b=a+M.length) (hN:N=P.length+M.length+S.length) (hs:N<1000000) (hcs:cs.length<1000000) (hr:∀ r∈M,∀ c∈cs,0≤c∧c<r.length) :
 ∃ M',callA C0 192 [.osl 0 1 0 N, .int a, .int b, .fn (.func 212) [.own 1 0]] [some (.arr 1 (rowsL (P++M++S))),some (.box [.i (.isl (intsL cs))])]=some (.tup [],[some (.arr 1 (rowsL (P++M'++S))),some (.box [.i (.isl (intsL cs))])])∧M'.Perm M∧SrtK cs M':=by
 rw[callA_eq rfl Tryz.func192 rfl rfl]
 have wa:IntKind.i64.wrap ((a:Int)+1)=(a:Int)+1:=wrap64 (by omega) (by omega)
 simp[wa]
 generalize hX:execA C0 _ _ (Code.loop _) _=X
 have key:∃ rr,X=some rr∧∃ (M':List (List Val)) (i:Int) (n9:Nat) (j:Int) (n34:Nat) (c34:Bool),rr=(.exit 0,INX (P++(M'++S)) (some (.box [.i (.isl (intsL cs))])) N a b i n9 j n34 c34 (.bool false))∧M'.Perm M∧SrtK cs M':=by
  rw[← hX]
  by_cases hM:M=[]
  ·subst hM
   refine loop_wf (fun d St=>∃ (i:Int),St=INX (P++([]++S)) (some (.box [.i (.isl (intsL cs))])) N a b i 0 0 0 true .junk∧i=a+1) ?_ 0 _ ⟨(a:Int)+1,by simp[INX],rfl⟩
   rintro d St ⟨i,rfl,rfl⟩
   right
   refine⟨.exit 0,INX (P++([]++S)) (some (.box [.i (.isl (intsL cs))])) N a b ((a:Int)+1) 0 0 0 true (.bool false),?_,by simp,[],_,0,0,0,true,rfl, .refl _, .nil⟩
   have hbI:¬ (a:Int)+1<b:=by simp at hb;omega
   simp[INX,hbI]
  obtain⟨x0,M0,rfl⟩:=List.exists_cons_of_ne_nil hM
  refine loop_wf (fun d St=>∃ (A B:List (List Val)) (n9:Nat) (j:Int) (n34:Nat) (c34:Bool) (g:AV),St=INX (P++(A++B++S)) (some (.box [.i (.isl (intsL cs))])) N a b ((a+A.length:Nat):Int) n9 j n34 c34 g∧(g=.junk∨g=.bool true)∧0<A.length∧(A++B).Perm (x0::M0)∧SrtK cs A∧d=B.length) ?_ _ _ ⟨[x0],M0,0,0,0,true, .junk,by simp[INX], .inl rfl,by simp,by simp,by simp[SrtK],rfl⟩
  rintro d St ⟨A,B,n9,j,n34,c34,g,rfl,hg,hA0,hp,hsA,hd⟩
  have hlen:=hp.length_eq
  simp only[List.length_append,List.length_cons]at hlen hb hN
  cases B with
  | nil =>
   right
   have hbI:¬ ((a+A.length:Nat):Int)<b:=by simp at hlen;omega
   refine⟨.exit 0,INX (P++(A++S)) (some (.box [.i (.isl (intsL cs))])) N a b ((a+A.length:Nat):Int) n9 j n34 c34 (.bool false),?_,by simp,A,_,n9,j,n34,c34,rfl,by simpa using hp,hsA⟩
   have hbI':¬ (a:Int)+A.length<b:=by omega
   rcases hg with rfl|rfl<;>simp[INX,hbI']
  | cons x B =>
   left
   simp only[List.length_cons]at hlen
   have hltI:(a:Int)+A.length<b:=by omega
   have hxm:x∈x0::M0:=hp.mem_iff.1 (by simp)
   have w5:IntKind.i64.wrap ((a:Int)+A.length+1)=((a+(A.length+1):Nat):Int):=by rw[wrap64 (by omega) (by omega)];omega
   obtain⟨Q0,hQ⟩:∃ Q0:AS→Prop,∀ S1,Q0 S1↔∃ (A':List (List Val)) (n9:Nat) (j:Int) (n34:Nat) (c34:Bool),S1=INX (P++(A'++B++S)) (some (.box [.i (.isl (intsL cs))])) N a b ((a+A'.length:Nat):Int) n9 j n34 c34 (.bool true)∧A'.length=A.length+1∧A'.Perm (x::A)∧SrtK cs A':=⟨fun S1=>_,fun S1=>Iff.rfl⟩
   refine step_of Q0 ?_ (fun S1 hS1=>by
    obtain⟨A',n9',j',n34',c34',rfl,e1,e2,e3⟩:=(hQ S1).1 hS1
    refine⟨B.length,by rw[hd];simp,A',B,n9',j',n34',c34', .bool true,rfl, .inr rfl,by omega,?_,e3,rfl⟩
    refine(e2.append_right B).trans (List.Perm.trans ?_ hp)
    exact(List.perm_middle (l₁:=A)).symm)
   have hle:((a+A.length:Nat):Int)=(a:Int)+A.length:=by omega
   have body:∀ St,(St=INX (P++(A++x::B++S)) (some (.box [.i (.isl (intsL cs))])) N a b ((a+A.length:Nat):Int) 1 ((a+A.length:Nat):Int) n34 c34 (.bool true))→True:=fun _ _=>trivial
   have inner:∀ {G:List Nat} {na:Nat} {bd:Code} (hround:∀ (A1 A2:List (List Val)) (n34:Nat) (c34:Bool),A1++A2=A→(A2=[]∨∃ y,A2.head?=some y∧LeK cs x y) →
    (∃ A1' y c,A1=A1'++[y]∧rowCmp (pickV cs x) (pickV cs y)<0∧execA C0 G na bd (INX (P++(A1++x::A2++B++S)) (some (.box [.i (.isl (intsL cs))])) N a b ((a+A.length:Nat):Int) 1 ((a+A1.length:Nat):Int) n34 c34 (.bool true))=some (.normal,INX (P++(A1'++x::(y::A2)++B++S)) (some (.box [.i (.isl (intsL cs))])) N a b ((a+A.length:Nat):Int) 1 ((a+A1'.length:Nat):Int) 1 c (.bool true))) ∨
    ((A1=[]∨∃ y,A1.getLast?=some y∧LeK cs y x)∧execA C0 G na bd (INX (P++(A1++x::A2++B++S)) (some (.box [.i (.isl (intsL cs))])) N a b ((a+A.length:Nat):Int) 1 ((a+A1.length:Nat):Int) n34 c34 (.bool true))=some (.exit 2,INX (P++(A1++x::A2++B++S)) (some (.box [.i (.isl (intsL cs))])) N a b ((a+A.length:Nat):Int) 1 ((a+A1.length:Nat):Int) 1 false (.bool true)))),
    ∃ rr,execA C0 G na (.loop bd) (INX (P++(A++x::[]++B++S)) (some (.box [.i (.isl (intsL cs))])) N a b ((a+A.length:Nat):Int) 1 ((a+A.length:Nat):Int) n34 c34 (.bool true))=some rr∧∃ (A':List (List Val)) (j:Int),rr=(.exit 2,INX (P++(A'++B++S)) (some (.box [.i (.isl (intsL cs))])) N a b ((a+A.length:Nat):Int) 1 j 1 false (.bool true))∧A'.length=A.length+1∧A'.Perm (x::A)∧SrtK cs A':=by
    intro G na bd hround
    refine loop_wf (fun d St=>∃ (A1 A2:List (List Val)) (n34:Nat) (c34:Bool),St=INX (P++(A1++x::A2++B++S)) (some (.box [.i (.isl (intsL cs))])) N a b ((a+A.length:Nat):Int) 1 ((a+A1.length:Nat):Int) n34 c34 (.bool true)∧A1++A2=A∧(A2=[]∨∃ y,A2.head?=some y∧LeK cs x y)∧d=A1.length) ?_ _ _ ⟨A,[],n34,c34,rfl,by simp, .inl rfl,rfl⟩
    rintro d St ⟨A1,A2,n34,c34,rfl,e1,e2,e3⟩
    rcases hround A1 A2 n34 c34 e1 e2 with ⟨A1',y,c,rfl,hlt,hex⟩|⟨hge,hex⟩
    ·exact .inl ⟨_,A1'.length,hex,by rw[e3];simp,A1',y::A2,1,c,rfl,by rw[← e1];simp, .inr ⟨y,rfl,leK_of_lt hlt⟩,rfl⟩
    ·refine .inr ⟨_,_,hex,by simp,A1++x::A2,_,rfl,by rw[← e1];simp;omega,by rw[← e1];exact List.perm_middle,ins_srtK (by rw[e1];exact hsA) hge e2⟩
   rcases hg with rfl|rfl
   ·simp[INX,hltI]
    generalize hY:execA C0 _ _ (Code.loop _) _=Y
    have e0:INX (P++(A++x::[]++B++S)) (some (.box [.i (.isl (intsL cs))])) N a b ((a+A.length:Nat):Int) 1 ((a+A.length:Nat):Int) n34 c34 (.bool true)={ env:=[(0, .osl 0 1 0 N),(1, .int a),(2, .int b),(3, .fn (.func 212) [.own 1 0]),(8, .int ((a:Int)+A.length)),(9, .int ((a:Int)+A.length)),(14, .bool true),(34,jk n34 (.bool c34))],st:=[some (.arr 1 (rowsL (P++(A++x::(B++S))))),some (.box [.i (.isl (intsL cs))])] }:=by simp[INX]
    have key2:∃ rr,Y=some rr∧∃ (A':List (List Val)) (j:Int),rr=(.exit 2,INX (P++(A'++B++S)) (some (.box [.i (.isl (intsL cs))])) N a b ((a+A.length:Nat):Int) 1 j 1 false (.bool true))∧A'.length=A.length+1∧A'.Perm (x::A)∧SrtK cs A':=by
     rw[← hY,← e0]
     refine inner ?_
     intro A1 A2 n34 c34 e1 e2
     have hl1:A1.length+A2.length=A.length:=by rw[← e1];simp
     rcases List.eq_nil_or_concat A1 with rfl|⟨A1',y,rfl⟩
     ·right
      refine⟨.inl rfl,?_⟩
      simp[INX]
     ·have hrx:=hr x hxm
      have hry:=hr y (hp.mem_iff.1 (by rw[← e1];simp))
      have hg:=gcmp_eq cs hcs x y hrx hry
      have hl2:A1'.length+1+A2.length=A.length:=by simpa using hl1
      have hja:(a:Int)<a+(A1'.length+1):=by omega
      have hb0:0≤(a:Int)+(A1'.length+1):=by omega
      have hb1:(a:Int)+(A1'.length+1)<N:=by omega
      have hb2:0≤(a:Int)+A1'.length:=by omega
      have hb3:(a:Int)+A1'.length<N:=by omega
      have t1:((a:Int)+(A1'.length+1)).toNat=a+A1'.length+1:=by omega
      have t2:((a:Int)+A1'.length).toNat=a+A1'.length:=by omega
      have wj:IntKind.i64.wrap ((a:Int)+(A1'.length+1)-1)=(a:Int)+A1'.length:=by rw[wrap64 (by omega) (by omega)];omega
      have eL:P++(A1'++y::x::(A2++(B++S)))=(P++A1')++y::x::(A2++(B++S)):=by simp
      have eL1:P++(A1'++y::x::(A2++(B++S)))=(P++A1'++[y])++x::(A2++(B++S)):=by simp
      have nx:nthE (rowsL (P++(A1'++y::x::(A2++(B++S))))) (a+A1'.length+1)=some [.isl (valsL x)]:=by rw[nthE_eq,eL1];simp only[rowsL,List.getElem?_map];rw[nth_mid _ _ _ (by simp;omega)];rfl
      have ny:nthE (rowsL (P++(A1'++y::x::(A2++(B++S))))) (a+A1'.length)=some [.isl (valsL y)]:=by rw[nthE_eq,eL];simp only[rowsL,List.getElem?_map];rw[nth_mid _ _ _ (by simp;omega)];rfl
      have sw1:(rowsL (P++(A1'++y::x::(A2++(B++S))))).set (a+A1'.length+1) [.isl (valsL y)]=rowsL (P++(A1'++y::y::(A2++(B++S)))):=by rw[rowsL_set,eL1,set_mid _ _ _ _ (by simp;omega)];simp
      have ny2:nthE (rowsL (P++(A1'++y::y::(A2++(B++S))))) (a+A1'.length)=some [.isl (valsL y)]:=by
       have:P++(A1'++y::y::(A2++(B++S)))=(P++A1')++y::(y::(A2++(B++S))):=by simp
       rw[nthE_eq,this];simp only[rowsL,List.getElem?_map];rw[nth_mid _ _ _ (by simp;omega)];rfl
      have sw2:(rowsL (P++(A1'++y::y::(A2++(B++S))))).set (a+A1'.length) [.isl (valsL x)]=rowsL (P++(A1'++x::y::(A2++(B++S)))):=by
       have:P++(A1'++y::y::(A2++(B++S)))=(P++A1')++y::(y::(A2++(B++S))):=by simp
       rw[rowsL_set,this,set_mid _ _ _ _ (by simp;omega)];simp
      by_cases hlt:rowCmp (pickV cs x) (pickV cs y)<0
      ·left
       refine⟨A1',y,true,by simp,hlt,?_⟩
       simp[INX,hja,hb0,hb1,hb2,hb3,t1,t2,wj,nx,ny,ny2,hg,hlt,sw1,sw2]
      ·right
       refine⟨.inr ⟨y,by simp,leK_of_not hlt⟩,?_⟩
       simp[INX,hja,hb0,hb1,hb2,hb3,t1,t2,wj,nx,ny,hg,hlt]
    obtain⟨rr,rfl,A',j',rfl,k1,k2,k3⟩:=key2
    simp[INX,w5]
    rw[hQ]
    refine⟨A',1,j',1,false,?_,k1,k2,k3⟩
    simp[INX,k1,w5]
   ·simp[INX,hltI]
    generalize hY:execA C0 _ _ (Code.loop _) _=Y
    have e0:INX (P++(A++x::[]++B++S)) (some (.box [.i (.isl (intsL cs))])) N a b ((a+A.length:Nat):Int) 1 ((a+A.length:Nat):Int) n34 c34 (.bool true)={ env:=[(0, .osl 0 1 0 N),(1, .int a),(2, .int b),(3, .fn (.func 212) [.own 1 0]),(8, .int ((a:Int)+A.length)),(9, .int ((a:Int)+A.length)),(14, .bool true),(34,jk n34 (.bool c34))],st:=[some (.arr 1 (rowsL (P++(A++x::(B++S))))),some (.box [.i (.isl (intsL cs))])] }:=by simp[INX]
    have key2:∃ rr,Y=some rr∧∃ (A':List (List Val)) (j:Int),rr=(.exit 2,INX (P++(A'++B++S)) (some (.box [.i (.isl (intsL cs))])) N a b ((a+A.length:Nat):Int) 1 j 1 false (.bool true))∧A'.length=A.length+1∧A'.Perm (x::A)∧SrtK cs A':=by
     rw[← hY,← e0]
     refine inner ?_
     intro A1 A2 n34 c34 e1 e2
     have hl1:A1.length+A2.length=A.length:=by rw[← e1];simp
     rcases List.eq_nil_or_concat A1 with rfl|⟨A1',y,rfl⟩
     ·right
      refine⟨.inl rfl,?_⟩
      simp[INX]
     ·have hrx:=hr x hxm
      have hry:=hr y (hp.mem_iff.1 (by rw[← e1];simp))
      have hg:=gcmp_eq cs hcs x y hrx hry
      have hl2:A1'.length+1+A2.length=A.length:=by simpa using hl1
      have hja:(a:Int)<a+(A1'.length+1):=by omega
      have hb0:0≤(a:Int)+(A1'.length+1):=by omega
      have hb1:(a:Int)+(A1'.length+1)<N:=by omega
      have hb2:0≤(a:Int)+A1'.length:=by omega
      have hb3:(a:Int)+A1'.length<N:=by omega
      have t1:((a:Int)+(A1'.length+1)).toNat=a+A1'.length+1:=by omega
      have t2:((a:Int)+A1'.length).toNat=a+A1'.length:=by omega
      have wj:IntKind.i64.wrap ((a:Int)+(A1'.length+1)-1)=(a:Int)+A1'.length:=by rw[wrap64 (by omega) (by omega)];omega
      have eL:P++(A1'++y::x::(A2++(B++S)))=(P++A1')++y::x::(A2++(B++S)):=by simp
      have eL1:P++(A1'++y::x::(A2++(B++S)))=(P++A1'++[y])++x::(A2++(B++S)):=by simp
      have nx:nthE (rowsL (P++(A1'++y::x::(A2++(B++S))))) (a+A1'.length+1)=some [.isl (valsL x)]:=by rw[nthE_eq,eL1];simp only[rowsL,List.getElem?_map];rw[nth_mid _ _ _ (by simp;omega)];rfl
      have ny:nthE (rowsL (P++(A1'++y::x::(A2++(B++S))))) (a+A1'.length)=some [.isl (valsL y)]:=by rw[nthE_eq,eL];simp only[rowsL,List.getElem?_map];rw[nth_mid _ _ _ (by simp;omega)];rfl
      have sw1:(rowsL (P++(A1'++y::x::(A2++(B++S))))).set (a+A1'.length+1) [.isl (valsL y)]=rowsL (P++(A1'++y::y::(A2++(B++S)))):=by rw[rowsL_set,eL1,set_mid _ _ _ _ (by simp;omega)];simp
      have ny2:nthE (rowsL (P++(A1'++y::y::(A2++(B++S))))) (a+A1'.length)=some [.isl (valsL y)]:=by
       have:P++(A1'++y::y::(A2++(B++S)))=(P++A1')++y::(y::(A2++(B++S))):=by simp
       rw[nthE_eq,this];simp only[rowsL,List.getElem?_map];rw[nth_mid _ _ _ (by simp;omega)];rfl
      have sw2:(rowsL (P++(A1'++y::y::(A2++(B++S))))).set (a+A1'.length) [.isl (valsL x)]=rowsL (P++(A1'++x::y::(A2++(B++S)))):=by
       have:P++(A1'++y::y::(A2++(B++S)))=(P++A1')++y::(y::(A2++(B++S))):=by simp
       rw[rowsL_set,this,set_mid _ _ _ _ (by simp;omega)];simp
      by_cases hlt:rowCmp (pickV cs x) (pickV cs y)<0
      ·left
       refine⟨A1',y,true,by simp,hlt,?_⟩
       simp[INX,hja,hb0,hb1,hb2,hb3,t1,t2,wj,nx,ny,ny2,hg,hlt,sw1,sw2]
      ·right
       refine⟨.inr ⟨y,by simp,leK_of_not hlt⟩,?_⟩
       simp[INX,hja,hb0,hb1,hb2,hb3,t1,t2,wj,nx,ny,hg,hlt]
    obtain⟨rr,rfl,A',j',rfl,k1,k2,k3⟩:=key2
    simp[INX,w5]
    rw[hQ]
    refine⟨A',1,j',1,false,?_,k1,k2,k3⟩
    simp[INX,k1,w5]
 obtain⟨rr,rfl,M',i,n9,j,n34,c34,rfl,k1,k2⟩:=key
 refine⟨M',?_,k1,k2⟩
 simp[INX]
end Go.Proofs.YtiailccmofdhfaaGreat

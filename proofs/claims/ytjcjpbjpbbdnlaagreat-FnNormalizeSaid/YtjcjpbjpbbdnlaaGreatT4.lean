/- Part 4 of what the proof rests on: the executor and what it is worth, and the program's functions as it runs them. No condition. -/
import Derived.Test.YtjcjpbjpbbdnlaaGreatT3
set_option linter.unusedVariables false
set_option linter.unusedSimpArgs false
namespace Go.Proofs.YtjcjpbjpbbdnlaaGreat
open Go Go.Av
set_option maxRecDepth 4000
noncomputable def C1:Ctx:={ P:=Tryz.prog,G:=GS,ownArgs:=ownA,keepRes:=keepR,eqT:=eqTy,prim:=fun _=>none }
@[simp] theorem C1_P:C1.P=Tryz.prog:=(rfl)
@[simp] theorem C1_G (f):C1.G f=GS f:=(rfl)
@[simp] theorem C1_o (f):C1.ownArgs f=ownA f:=(rfl)
@[simp] theorem C1_k (f):C1.keepRes f=keepR f:=(rfl)
@[simp] theorem C1_e (f):C1.eqT f=eqTy f:=(rfl)
@[simp] theorem C1_t:C1.tree=false:=(rfl)
theorem cpl_nil:callA C1 98 [.i (.isl [])] []=some (.nils,[]):=by
 rw [callA_eq rfl Tryz.func98 rfl rfl]
 simp
theorem cpl_some {ks:List Ex} (h:ks≠[]) (hl:ks.length < 1000000000):callA C1 98 [.i (.isl (Ex.cellsL ks))] []=some (.osl 0 5 0 ks.length,[some (.arr 5 (Ex.cellsL ks))]):=by
 rw [callA_eq rfl Tryz.func98 rfl rfl]
 have h1:56 * (ks.length:Int)≤281474976710656:=by omega
 simp [h,h1]
 unfold over
 simp
theorem sound1:SoundOk C1:=sound_ok (C:=C1) ft nt eqS mo (prim_none fun _=>rfl)
def ptr (p:Nat×Nat):IV:=.lit (.pointer (some ⟨p.1,p.2,none⟩))
def zc:List AV:=[.int 0, .int 0, .bool false, .int 0, .nils]
def Sini (p:Nat×Nat):AS:={ env:=[(0, .i (ptr p))],st:=[] }
def Sout (e:Ex) (p:Nat×Nat):AS:={ env:=[(0, .i (ptr p)),(2, .own 0 0),(3, .own 1 0),(4, .junk),(5, .junk),(6, .junk),(13, .junk),(37, .junk),(38, .junk),(39, .junk)],st:=[some (.box zc),some (.box (impI e.cells))] }
def SL (b3:Nat) (todo X:KL):AS :=
 {env:=[(0, .junk),(2, .own 0 0),(3, .i (ptr (b3,0))),(4, .osl 1 1 0 todo.length),(5, .junk),(6, .junk),(13, .junk),(37, .junk),(38, .junk),(39, .junk)],st:=[some (.box zc),some (.arr 1 ((todo ++ X).map fun k=>[ptr k.1]))] }
theorem ptr_lit : ∀ (l : KL), ∀ c ∈ (l.map fun k => [ptr k.1]).flatten, ∃ v, c = .lit v
  | [], c, h => by simp at h
  | k :: l, c, h => by
    simp only [List.map_cons, List.flatten_cons, List.mem_append, List.mem_singleton] at h
    rcases h with rfl | h
    · exact ⟨_, rfl⟩
    · exact ptr_lit l c h
def PP (b3:Nat) (b o n:Nat) (x:Ex) (ES:List (List IV)) (env:Nat→AV) (st:Store):Prop :=
 env 2=.own 0 0∧env 3=.i (ptr (b3,0))∧env 4=.osl 1 1 0 n∧env 5=.i (ptr (b,o))∧env 32=.i (ptr (b,o + 4))∧st 0=some (.box zc)∧st 1=some (.arr 1 ES) ∧
  ((env 30=.nils∧x.kids=[])∨∃ id,env 30=.osl id 5 0 x.kids.length∧x.kids≠[]∧st id=some (.arr 5 (Ex.cellsL x.kids))∧2≤id)
theorem wrap_1':IntKind.i64.wrap 1=1:=wrap64 (by omega) (by omega)
def RW (init:KL) (b' i:Nat):List (List IV):=(init.map fun k=>[ptr k.1]) ++ (List.range i).map fun j=>[ptr (b',j * 5)]
theorem RW_len (init:KL) (b' i:Nat):(RW init b' i).length=init.length + i:=by simp [RW]
theorem RW_succ (init:KL) (b' i:Nat):RW init b' i ++ [[ptr (b',i * 5)]]=RW init b' (i + 1):=by simp [RW,List.range_succ]
theorem kidsAt_map (b : Nat) : ∀ (o : Nat) (l : List Ex), (kidsAt b o l).map (fun k => [ptr k.1]) = (List.range l.length).map fun j => [ptr (b, o + j * 5)]
  | _, [] => by simp [kidsAt]
  | o, a :: l => by
    simp only [kidsAt, List.map_cons, kidsAt_map b (o + 5) l, List.length_cons, List.range_succ_eq_map, List.map_map]
    simp only [List.cons.injEq, Nat.zero_mul, Nat.add_zero, true_and]
    apply List.map_congr_left
    intro j _
    simp only [Function.comp, Nat.succ_eq_add_one]
    rw [show o + 5 + j * 5 = o + (j + 1) * 5 by omega]
theorem kidsAt_len (b:Nat):∀ (o:Nat) (l:List Ex),(kidsAt b o l).length=l.length
 | _,[]=>rfl
 | o,a :: l=>by simp [kidsAt,kidsAt_len b (o + 5) l]
theorem kidsAt_sum (b:Nat):∀ (o:Nat) (l:List Ex),((kidsAt b o l).map fun k=>k.2.size).sum=Ex.sizeL l
 | _,[]=>rfl
 | o,a :: l=>by simp [kidsAt,Ex.sizeL,kidsAt_sum b (o + 5) l]
def YS (b3 b' cap:Nat) (x:Ex) (init:KL) (ES:List (List IV)) (i:Nat):AS :=
 {env:=[(0, .junk),(2, .own 0 0),(3, .i (ptr (b3,0))),(4,if i=0 then .osl 1 1 0 init.length else .osl 2 1 0 (init.length + i)),(5, .i (.iref [.int x.kind, .int x.col, .bool x.val.null, .int x.val.n, .lit (.slice (some ⟨b',0,none⟩) x.kids.length cap)])),(6,jk i (.int (i - 1))),(13, .junk),(37, .int x.kids.length),(38, .int i),(39,jk i (.bool true))],
  st:=some (.box zc) :: if i=0 then [some (.arr 1 ES)] else [none,some (.arr 1 (RW init b' i))] }
set_option maxHeartbeats 1000000
theorem copied_at {e:Ex} (he:e.size < 1000000000) {wi:World} {mi:Mem} {b o:Nat} (hi:Inv wi mi (fun _=>none) (stOf []))
  (hrun:∀ w',wi.heap.size≤w'.heap.size→(∀ f,f < wi.heap.size→w'.heap[f]?=wi.heap[f]?)→∃ y,(Instr.loadAt 112 (.pointer (some ⟨b,o,none⟩))).run C1.P w'=.ok y w'∧IRep mi (.agg e.cells) y) :
  Calls Tryz.prog 99 #[.pointer (some ⟨b,o,none⟩)] wi (CallPost wi mi (fun _=>none) (.i (.agg e.cells)) []):=by
 refine calls_of_wp (fn:=Tryz.f99) Tryz.func99 rfl ?_
 have g0:GG wi mi 52 (fun id=>id < (Sini (b,o)).st.length) [] (envOf (Sini (b,o)).env) (stOf (Sini (b,o)).st) { tmps:=[Value.pointer (some ⟨b,o,none⟩)].toArray ++ Array.replicate (52 - 1) undef,defers:=[] } wi:=by
  refine ⟨⟨mi,fun _=>none,hi,?_, .refl _ _ _,fun id h=>absurd rfl h,fun k hk=>by simp at hk⟩,by simp,rfl⟩
  intro t
  have:=enter_rep (m:=mi) (φ:=fun _=>none) (52 - 1) (show RepL mi (fun _=>none) [.i (ptr (b,o))] [.pointer (some ⟨b,o,none⟩)] from .cons (.i (.lit _)) .nil) t
  cases t with
  | zero=>simpa [Sini,envOf,argAt] using this
  | succ t=>simp only [Sini,envOf]; simp; exact .junk _
 refine wp_seq (wp_mono (GG.codeA sound1 (G:=GS 99) (S:=Sini (b,o)) (e:=.normal) (S':={ env:=[(0, .i (ptr (b,o))),(2, .own 0 0),(3, .junk),(4, .junk),(5, .junk),(6, .junk),(13, .junk),(37, .junk),(38, .junk),(39, .junk)],st:=[some (.box zc)] }) (by kernel_rfl) (by simp [Sini,zc,ptr]) g0) ?_)
 rintro _ a1 w1 ⟨rfl,g1⟩
 refine wp_seq (GG.regionL sound1 (os1:=[_,_]) (os2:=[_,_]) (G:=GS 99) (S:={ env:=[(0, .i (ptr (b,o))),(2, .own 0 0),(3, .junk),(4, .junk),(5, .junk),(6, .junk),(13, .junk),(37, .junk),(38, .junk),(39, .junk)],st:=[some (.box zc)] }) (S':=Sout e (b,o)) rfl (by
   have h:∀ ops:Array Oper,ops.all (operOk 52)=true→∀ o∈ops,operOk 52 o=true:=fun ops h o ho=>Array.all_eq_true_iff_forall_mem.1 h o ho
   exact h _ (by kernel_rfl)) g1 (by decide) hrun ?_ ?_)
 ·rw [Ex.cells_eq]; simp [Sout,zc,ptr,Ex.cells_eq]
 intro a2 w2 g2
 obtain ⟨b3,g3⟩:=g2.pub (u:=3) (id:=1) (e:=e) (st':=stOf [some (.box zc)]) (ok':=fun id=>id < 1) rfl rfl (by
  intro i blk h
  cases i with
  | zero=>simp [stOf] at h; subst h; exact ⟨by omega,rfl,by simp [LitBlk,zc]⟩
  | succ i=>simp [stOf] at h) (by
  intro i h
  cases i with
  | zero=>omega
  | succ i=>simp [stOf] at h)
 have g3:=g3 (envOf [(2, .own 0 0),(3, .i (ptr (b3,0)))]) (by
  intro t
  simp only [envOf]
  by_cases h2:t=2
  ·subst h2; exact .inr (.inr ⟨rfl,by simp [Sout,envOf,Stays,stOf]⟩)
  ·by_cases h3:t=3
   ·subst h3; exact .inr (.inl ⟨rfl,rfl⟩)
   ·simp [h2,h3])
 refine wp_seq (wp_mono (GG.codeA sound1 (G:=GS 99) (S:={ env:=[(2, .own 0 0),(3, .i (ptr (b3,0)))],st:=[some (.box zc)] }) (e:=.normal) (S':=SL b3 [((b3,0),e)] []) (by kernel_rfl) (by simp [SL,ptr,zc]) g3) ?_)
 rintro _ a3 w3 ⟨rfl,g4⟩
 refine wp_seq (wp_block ?_)
 refine wp_loop_n (fun n a w=>∃ todo X K:KL,(∀ k∈todo,k∈K)∧((b3,0),e)∈K∧(todo.map fun k=>k.2.size).sum=n∧n < 1000000000∧GG wi mi 52 (fun id=>id < (SL b3 todo X).st.length) K (envOf (SL b3 todo X).env) (stOf (SL b3 todo X).st) a w) ?_ (n:=e.size) ⟨[((b3,0),e)],[],[((b3,0),e)],fun k hk=>hk,by simp,by simp,he,g4⟩
 rintro n a w ⟨todo,X,K,hsub,hb3,hsum,hn,g⟩
 rcases List.eq_nil_or_concat todo with rfl | ⟨init,k,rfl⟩
 ·refine wp_mono (GG.codeA sound1 (G:=GS 99) (S:=SL b3 [] X) (e:=.exit 0) (S':={ env:=[(0, .junk),(2, .own 0 0),(3, .i (ptr (b3,0))),(4, .osl 1 1 0 0),(5, .junk),(6, .junk),(13, .bool false),(37, .junk),(38, .junk),(39, .junk)],st:=[some (.box zc),some (.arr 1 (X.map fun k=>[ptr k.1]))] }) (by kernel_rfl) (by simp [SL,ptr,zc]) g) ?_
  rintro _ a5 w5 ⟨rfl,g5⟩
  simp only [exitOf,Exit.then,Exit.inBlock,if_true]
  have g6:=(g5.see (u:=3) (b:=b3) (o:=0) rfl hb3).envTo (env':=envOf [(2, .own 0 0),(3, .i (.iref e.cells))]) (by
   intro t
   simp only [envOf,upd]
   by_cases h2:t=2
   ·subst h2; simp
   ·by_cases h3:t=3
    ·subst h3; simp
    ·simp [h2,h3])
  refine wp_mono (GG.codeA sound1 (G:=GS 99) (S:={ env:=[(2, .own 0 0),(3, .i (.iref e.cells))],st:=[some (.box zc),some (.arr 1 (X.map fun k=>[ptr k.1]))] }) (e:=.ret) (S':={ env:=[(0, .junk),(2, .own 0 0),(3, .i (.iref e.cells)),(4, .junk),(5, .junk),(6, .junk),(13, .junk),(37, .junk),(38, .junk),(39, .junk)],st:=[some (.box (impI e.cells)),some (.arr 1 (X.map fun k=>[ptr k.1]))] }) (by kernel_rfl) (by simp [zc]) g6) ?_
  rintro _ a6 w6 ⟨rfl,g7⟩
  obtain ⟨⟨m,φ,q1,q2,q3,q4,q5⟩,q6,q7⟩:=g7
  obtain ⟨v,k1,k2⟩:=finish_sound (C:=C1) (fn:=Tryz.f99) (keep:=false) (na:=0) (S:={ env:=[(0, .junk),(2, .own 0 0),(3, .i (.iref e.cells)),(4, .junk),(5, .junk),(6, .junk),(13, .junk),(37, .junk),(38, .junk),(39, .junk)],st:=[some (.box (impI e.cells)),some (.arr 1 (X.map fun k=>[ptr k.1]))] }) (r:=.i (.agg e.cells)) (stl':=[]) (fun id h=>absurd rfl h) ⟨⟨⟨m,φ,q1,q2,q3,q4, .nil _ _ _⟩,q6,q7⟩,Nat.zero_le _⟩ (by
   show finish C1 false [ResultVar.cell 2 112] 0 _=_
   simp)
  exact ⟨q7,v,k1,k2⟩
 ·clear g0 g4 g3 g1 g2
  obtain ⟨⟨b,o⟩,x⟩:=k
  have hlen:∀ l:KL,l.length≤(l.map fun k=>k.2.size).sum:=by
   intro l
   induction l with
   | nil=>simp
   | cons a l ih=>have:=Ex.size_pos a.2; simp; omega
  have hil:=hlen init
  simp at hsum
  have hxk:((b,o),x)∈K:=hsub _ (by simp)
  have hxs:=Ex.size_eq x
  have hkl:=Ex.sizeL_length x.kids
  have hne:¬ ((init.length:Int) + 1≤0):=by omega
  have hpos:(0:Int) < (init.length:Int) + 1:=by omega
  have w1:IntKind.i64.wrap (init.length:Int)=init.length:=wrap64 (by omega) (by omega)
  generalize hES:((init ++ [((b,o),x)] ++ X).map fun k=>[ptr k.1])=ES
  have hnth:nthE ES init.length=some [ptr (b,o)]:=by
   rw [nthE_eq,← hES]; simp
  have hlit:∀ c∈ES.flatten,∃ v,c=.lit v:=by rw [← hES]; exact ptr_lit _
  have hlt:(init.length:Int) < (init.length:Int) + 1:=by omega
  have hlt2:(init.length:Int)≤(init.length:Int) + 1:=by omega
  refine wp_seq (wp_mono (GG.codeA sound1 (G:=GS 99) (S:=SL b3 (init ++ [((b,o),x)]) X) (e:=.normal) (S':={ env:=[(0, .junk),(2, .own 0 0),(3, .i (ptr (b3,0))),(4, .osl 1 1 0 (init.length + 1)),(5, .junk),(6, .junk),(13, .bool true),(37, .junk),(38, .junk),(39, .junk)],st:=[some (.box zc),some (.arr 1 ES)] }) (by kernel_rfl) (by simp only [SL,hES]; simp [ptr,zc,hpos]) (by simpa using g)) ?_)
  rintro _ a5 w5 ⟨rfl,g5⟩
  clear g
  refine wp_block ?_
  refine wp_seq (wp_mono (GG.codeA sound1 (G:=GS 99) (S:={ env:=[(0, .junk),(2, .own 0 0),(3, .i (ptr (b3,0))),(4, .osl 1 1 0 (init.length + 1)),(5, .junk),(6, .junk),(13, .bool true),(37, .junk),(38, .junk),(39, .junk)],st:=[some (.box zc),some (.arr 1 ES)] }) (e:=.normal) (S':={ env:=[(0, .junk),(2, .own 0 0),(3, .i (ptr (b3,0))),(4, .osl 1 1 0 (init.length + 1)),(5,(.i (ptr (b,o)))),(6, .junk),(13, .bool true),(37, .junk),(38, .junk),(39, .junk)],st:=[some (.box zc),some (.arr 1 ES)] }) (by kernel_rfl) (by simp only [ptr] at hnth; simp [ptr,zc,hnth,w1,hlt]) g5) ?_)
  rintro _ a6 w6 ⟨rfl,g6⟩
  clear g5
  refine wp_seq (wp_mono (GG.codeA sound1 (G:=GS 99) (S:={ env:=[(0, .junk),(2, .own 0 0),(3, .i (ptr (b3,0))),(4, .osl 1 1 0 (init.length + 1)),(5,(.i (ptr (b,o)))),(6, .junk),(13, .bool true),(37, .junk),(38, .junk),(39, .junk)],st:=[some (.box zc),some (.arr 1 ES)] }) (e:=.normal) (S':={ env:=[(0, .junk),(2, .own 0 0),(3, .i (ptr (b3,0))),(4, .osl 1 1 0 init.length),(5,(.i (ptr (b,o)))),(6, .junk),(13, .bool true),(37, .junk),(38, .junk),(39, .junk)],st:=[some (.box zc),some (.arr 1 ES)] }) (by kernel_rfl) (by simp [ptr,zc,w1,hlt2]) g6) ?_)
  rintro _ a7 w7 ⟨rfl,g7⟩
  clear g6
  refine wp_seq (GG.region sound1 (os1:=[_,_]) (os2:=[_,_,_,_,_,_]) (u:=26) (PP:=PP b3 b o init.length x ES) rfl (by
   have h:∀ ops:Array Oper,ops.all (operOk 52)=true→∀ o∈ops,operOk 52 o=true:=fun ops h o ho=>Array.all_eq_true_iff_forall_mem.1 h o ho
   exact h _ (by kernel_rfl)) g7 hxk ?_ ?_)
  ·rw [Ex.cells_eq]
   by_cases hx:x.kids=[]
   ·simp [ptr,zc,hx,PP,Ex.cellsL,cpl_nil]
   ·simp [ptr,zc,PP,cpl_some hx (by omega),hx]
  ·rintro env st a8 w8 ⟨p2,p3,p4,p5,p32,q0,q1,p30⟩ g8
   clear g7
   obtain ⟨w9,b',ao,cap,e1,e2,hrun,hG⟩:=GG.turn (C:=C1) (ok':=fun id=>id < 2) (st':=stOf [some (.box zc),some (.arr 1 ES)]) (u:=30) (t:=23) g8 (by simp) hi.mem hxk rfl (by
    rcases p30 with ⟨h1,h2⟩ | ⟨id,h1,h2,h3,h4⟩
    ·refine .inl ⟨h1,h2,?_⟩
     intro i blk h
     rcases i with _ | _ | i
     ·simp [stOf] at h; subst h; exact q0
     ·simp [stOf] at h; subst h; exact q1
     ·simp [stOf] at h
    ·refine .inr ⟨id,h1,h2,h3,?_⟩
     intro i blk h
     rcases i with _ | _ | i
     ·simp [stOf] at h; subst h; exact ⟨by omega,q0⟩
     ·simp [stOf] at h; subst h; exact ⟨by omega,q1⟩
     ·simp [stOf] at h) (by
    intro i blk h
    rcases i with _ | _ | i
    ·simp [stOf] at h; subst h; simp [LitBlk,zc]
    ·simp [stOf] at h; subst h; exact hlit
    ·simp [stOf] at h) (by
    intro i h
    rcases i with _ | _ | i
    ·omega
    ·omega
    ·simp [stOf] at h)
   have ev5:=g8.litAt (t:=5) p5
   have ev32:=g8.litAt (t:=32) p32
   refine wpOp_store (C:=C1) (w':=w9) rfl (by
    show (Instr.storeAt 23 (a8.tmps.getD 32 undef) (a8.tmps.getD 30 undef)).run C1.P w8=_
    rw [ev32]; exact hrun) ?_
   have g9:=hG (envOf [(2, .own 0 0),(3, .i (ptr (b3,0))),(4, .osl 1 1 0 init.length),(5,(.i (.iref [.int x.kind, .int x.col, .bool x.val.null, .int x.val.n, .lit (.slice ao x.kids.length cap)])))]) (by
    intro t
    simp only [envOf]
    by_cases h2:t=2
    ·subst h2; exact .inr (.inr ⟨by simp [p2],by rw [p2]; simp [Stays,stOf]⟩)
    by_cases h3:t=3
    ·subst h3; exact .inr (.inr ⟨by simp [p3],by rw [p3]; simp [Stays,ptr]⟩)
    by_cases h4:t=4
    ·subst h4; exact .inr (.inr ⟨by simp [p4],by rw [p4]; simp [Stays,stOf]⟩)
    by_cases h5:t=5
    ·subst h5; exact .inr (.inl ⟨ev5,by simp⟩)
    ·simp [h2,h3,h4,h5])
   clear hG g8
   show Code.wp _ _ _ _ _
   refine wp_seq (wp_mono (GG.codeA sound1 (G:=GS 99) (S:={ env:=[(2, .own 0 0),(3, .i (ptr (b3,0))),(4, .osl 1 1 0 init.length),(5,(.i (.iref [.int x.kind, .int x.col, .bool x.val.null, .int x.val.n, .lit (.slice ao x.kids.length cap)])))],st:=[some (.box zc),some (.arr 1 ES)] }) (e:=.normal) (S':={ env:=[(0, .junk),(2, .own 0 0),(3, .i (ptr (b3,0))),(4, .osl 1 1 0 init.length),(5,(.i (.iref [.int x.kind, .int x.col, .bool x.val.null, .int x.val.n, .lit (.slice ao x.kids.length cap)]))),(6, .junk),(13, .junk),(37, .int x.kids.length),(38, .int 0),(39, .junk)],st:=[some (.box zc),some (.arr 1 ES)] }) (by kernel_rfl) (by simp [ptr,zc]) g9) ?_)
   rintro _ a10 w10 ⟨rfl,g10⟩
   clear g9
   by_cases hx:x.kids=[]
   ·refine wp_mono (GG.codeA sound1 (G:=GS 99) (S:={ env:=[(0, .junk),(2, .own 0 0),(3, .i (ptr (b3,0))),(4, .osl 1 1 0 init.length),(5,(.i (.iref [.int x.kind, .int x.col, .bool x.val.null, .int x.val.n, .lit (.slice ao x.kids.length cap)]))),(6, .junk),(13, .junk),(37, .int x.kids.length),(38, .int 0),(39, .junk)],st:=[some (.box zc),some (.arr 1 ES)] }) (e:=.normal) (S':={ env:=[(0, .junk),(2, .own 0 0),(3, .i (ptr (b3,0))),(4, .osl 1 1 0 init.length),(5,(.i (.iref [.int x.kind, .int x.col, .bool x.val.null, .int x.val.n, .lit (.slice ao x.kids.length cap)]))),(6, .junk),(13, .junk),(37, .int x.kids.length),(38, .int 0),(39, .bool false)],st:=[some (.box zc),some (.arr 1 ES)] }) (by kernel_rfl) (by
     simp only [hx,List.length_nil]
     simp
     rw [execA_loop]
     simp [ptr,zc]) g10) ?_
    rintro _ a11 w11 ⟨rfl,g11⟩
    simp only [exitOf,Exit.then,Exit.inBlock]
    refine ⟨n - 1,by omega,init,((b,o),x) :: X,K ++ kidsAt b' 0 x.kids,fun k hk=>List.mem_append_left _ (hsub k (by simp [hk])),List.mem_append_left _ hb3,?_,by omega,?_⟩
    ·rw [hx] at hxs; simp [Ex.sizeL] at hxs; omega
    ·have hES2:((init ++ ((b,o),x) :: X).map fun k=>[ptr k.1])=ES:=by rw [← hES]; simp
     simp only [SL,hES2]
     exact g11.envTo (by
      intro t
      simp only [envOf]
      by_cases h2:t=2
      ·subst h2; simp
      by_cases h3:t=3
      ·subst h3; simp
      by_cases h4:t=4
      ·subst h4; simp
      ·simp [h2,h3,h4])
   ·obtain rfl:=e2 hx
    have hET:ES.take init.length=RW init b' 0:=by rw [← hES]; simp [RW]
    have hEL:init.length≤ES.length:=by rw [← hES]; simp
    have hlim:∀ i,i≤x.kids.length→(init.length + i + 1) * 8≤140737488355328:=fun i hi=>by omega
    have hk0:x.kids.length≠0:=fun h=>hx (List.length_eq_zero_iff.1 h)
    refine wp_mono (GG.codeA sound1 (G:=GS 99) (S:={ env:=[(0, .junk),(2, .own 0 0),(3, .i (ptr (b3,0))),(4, .osl 1 1 0 init.length),(5,(.i (.iref [.int x.kind, .int x.col, .bool x.val.null, .int x.val.n, .lit (.slice (some ⟨b',0,none⟩) x.kids.length cap)]))),(6, .junk),(13, .junk),(37, .int x.kids.length),(38, .int 0),(39, .junk)],st:=[some (.box zc),some (.arr 1 ES)] }) (e:=.normal) (S':={ env:=[(0, .junk),(2, .own 0 0),(3, .i (ptr (b3,0))),(4, .osl 2 1 0 (init.length + x.kids.length)),(5,(.i (.iref [.int x.kind, .int x.col, .bool x.val.null, .int x.val.n, .lit (.slice (some ⟨b',0,none⟩) x.kids.length cap)]))),(6, .int (x.kids.length - 1)),(13, .junk),(37, .int x.kids.length),(38, .int x.kids.length),(39, .bool false)],st:=[some (.box zc),none,some (.arr 1 (RW init b' x.kids.length))] }) (by kernel_rfl) (by
     simp
     rw [loop_to (YS b3 b' cap x init ES) x.kids.length (by simp [YS])]
     ·rw [execA_loop]
      simp [YS,hk0,jk_pos hk0,zc,ptr]
     ·intro i hi
      have w2:IntKind.i64.wrap ((i:Int) + 1)=i + 1:=wrap64 (by omega) (by omega)
      have hi0:(i:Int) < x.kids.length:=by omega
      by_cases h0:i=0
      ·subst h0
       have hl:(init.length + 1) * 8≤140737488355328:=by omega
       have hR:RW init b' 0 ++ [[.lit (.pointer (some ⟨b',0,none⟩))]]=RW init b' 1:=by simpa [ptr] using RW_succ init b' 0
       simp [YS,zc,ptr,wrap_1',hi,hET,hEL,hl,hR]
      ·have hl:=hlim i (by omega)
       have hT:(RW init b' i).take (init.length + i)=RW init b' i:=List.take_of_length_le (by rw [RW_len]; omega)
       have hR:RW init b' i ++ [[.lit (.pointer (some ⟨b',i * 5,none⟩))]]=RW init b' (i + 1):=by simpa [ptr] using RW_succ init b' i
       simp [YS,h0,jk_pos h0,zc,ptr,w2,hi,hT,RW_len,hl,hR,← Nat.add_assoc]) g10) ?_
    rintro _ a11 w11 ⟨rfl,g11⟩
    simp only [exitOf,Exit.then,Exit.inBlock]
    refine ⟨n - 1,by omega,init ++ kidsAt b' 0 x.kids,[],K ++ kidsAt b' 0 x.kids,?_,List.mem_append_left _ hb3,?_,by omega,?_⟩
    ·intro k hk
     rcases List.mem_append.1 hk with h | h
     ·exact List.mem_append_left _ (hsub k (by simp [h]))
     ·exact List.mem_append_right _ h
    ·rw [List.map_append,List.sum_append,kidsAt_sum]; omega
    ·have g12:=g11.settle [2,3,4]
     have hR:List.map (fun k:(Nat×Nat)×Ex=>[ptr k.1]) (init ++ kidsAt b' 0 x.kids ++ [])=RW init b' x.kids.length:=by
      rw [List.append_nil,List.map_append,kidsAt_map]; simp [RW]
     have hl:(init ++ kidsAt b' 0 x.kids).length=init.length + x.kids.length:=by rw [List.length_append,kidsAt_len]
     simp only [SL,hR,hl]
     have hs:Av.settle [2,3,4] 0 (envOf [(0, .junk),(2, .own 0 0),(3, .i (ptr (b3,0))),(4, .osl 2 1 0 (init.length + x.kids.length)),(5, .i (.iref [.int x.kind, .int x.col, .bool x.val.null, .int x.val.n, .lit (.slice (some ⟨b',0,none⟩) x.kids.length cap)])),(6, .int (x.kids.length - 1)),(13, .junk),(37, .int x.kids.length),(38, .int x.kids.length),(39, .bool false)]) (stOf [some (.box zc),none,some (.arr 1 (RW init b' x.kids.length))])={ env:=[(2, .own 0 0),(3, .i (ptr (b3,0))),(4, .osl 1 1 0 (init.length + x.kids.length))],st:=[some (.box zc),some (.arr 1 (RW init b' x.kids.length))] }:=by
      simp [zc,ptr]
     rw [hs] at g12
     exact g12.envTo (by
      intro t
      simp only [envOf]
      by_cases h2:t=2
      ·subst h2; simp
      by_cases h3:t=3
      ·subst h3; simp
      by_cases h4:t=4
      ·subst h4; simp
      ·simp [h2,h3,h4])
theorem load_run {w:World} {m:Mem} {φ:Pl} {st:Store} {t:TypeId} {a v:AV} {x:Value} (hi:Inv w m φ st) (hr:Rep m φ a x) (h:loadA C1 t a st=some v):∃ y,(Instr.loadAt t x).run C1.P w=.ok y w∧Rep m φ v y:=by
 obtain ⟨ad,y,k1,k2,k3⟩:=loadA_sound hi hr h
 exact ⟨y,by subst k1; simpa [Instr.loadAt,Instr.sureAddr] using k2,k3⟩
theorem inv_none {w:World} {m:Mem} (h:MemOk w m):Inv w m (fun _=>none) (stOf []):=⟨h,fun id blk e=>(by simp [stOf] at e),fun i j b b' n n' b1 b2 f e=>(by simp [stOf] at e),fun _ _ _ _ e=>(by cases e)⟩
theorem copied_calls {e : Ex} (he : e.size < 1000000000) {wi : World} {mi : Mem} {φ : Pl} {vs : List Value} (hi : Inv wi mi φ (stOf [])) (hr : RepL mi φ [.i (.iref e.cells)] vs) (h0 : ∀ id, φ id ≠ none → id < 0) :
    Calls Tryz.prog 99 vs.toArray wi (CallPost wi mi φ (.i (.agg e.cells)) []) := by
  obtain rfl : φ = fun _ => none := by
    funext id
    cases h : φ id with
    | none => rfl
    | some p => exact absurd (h0 id (by rw [h]; simp)) (Nat.not_lt_zero _)
  cases hr with
  | cons h1 h2 =>
    cases h2
    have hp := h1
    cases h1 with
    | i h1 => cases h1 with
      | iref ha =>
        refine copied_at he hi fun w' hs hw => ?_
        obtain ⟨y, k1, k2⟩ := load_run (t := 112) (v := .i (.agg e.cells)) (hi.later hs hw) hp (by rw [Ex.cells_eq]; simp)
        cases k2 with
        | i k2 => exact ⟨y, k1, k2⟩
theorem copied_row {e : Ex} (he : e.size < 1000000000) {w : World} {m : Mem} {φ : Pl} {vs : List Value} {es : List (List IV)} {j : Nat} (hes : es[j]? = some e.cells) (hi : Inv w m φ (stOf [some (.arr 5 es)])) (hr : RepL m φ [.ownE 0 5 j 0] vs) (h0 : ∀ id, φ id ≠ none → id < 1) :
    Calls Tryz.prog 99 vs.toArray w (CallPost w m φ (.i (.agg e.cells)) [some (.arr 5 es)]) := by
  cases hr with
  | cons h1 h2 =>
    cases h2
    have hp := h1
    cases h1 with
    | ownE hφ =>
      refine (copied_at he (inv_none hi.mem) fun w' hs hw => ?_).mono ?_
      · obtain ⟨y, k1, k2⟩ := load_run (t := 112) (v := .i (.agg e.cells)) (hi.later hs hw) hp (by
          have h5 := hes
          rw [← nthE_eq] at h5
          rw [Ex.cells_eq] at h5 ⊢; simp [h5])
        cases k2 with
        | i k2 => exact ⟨y, k1, k2⟩
      · rintro en w' ⟨v, m', φ', rfl, j1, j2, j3, j4⟩
        have free0 : ∀ b, Free (fun _ => none) b := fun b id r n e => by cases e
        have hsame : ∀ f, f < w.heap.size → w'.heap[f]? = w.heap[f]? := fun f hf => j3.block f hf (free0 f)
        refine ⟨v, m', φ, rfl, ?_, ⟨j2.mem, fun id blk hb => ?_, hi.inj, fun id b n f e ho => Nat.lt_of_lt_of_le (hi.low id b n f e ho) j3.size⟩, ⟨j3.size, j3.os, j3.tape, j3.output, fun b hb' _ => hsame b hb', j3.mle, fun b hb' _ o => j3.mnew b hb' (free0 b) o, .refl _, fun _ _ _ _ e ho => .inr (Free.not e ho)⟩, h0⟩
        · cases j1 with
          | i j1 => exact .i j1
        · obtain ⟨b, n, k1, k2, k3⟩ := hi.live id blk hb
          exact ⟨b, n, k1, ⟨k2.1, fun f hf => Nat.lt_of_lt_of_le (k2.2 f hf) j3.size⟩, k3.mono k2.1 (fun f hf => hsame f (k2.2 f hf)) j3.mle (.refl _) fun f hf o => j3.mnew f (k2.2 f hf) (free0 f) o⟩
end Go.Proofs.YtjcjpbjpbbdnlaaGreat

namespace Go.Proofs.YtjcjpbjpbbdnlaaGreat.G
open Go Go.Av
set_option maxRecDepth 4000
set_option maxHeartbeats 4000000
noncomputable def prim2:FuncId→Option (List AV→StL→Option (AV×StL))
 | 99=>some copyE
 | _=>none
noncomputable def C2:Ctx:={ P:=Tryz.prog,G:=GS,ownArgs:=ownA,keepRes:=keepR,eqT:=eqTy,prim:=prim2 }
@[simp] theorem C2_P:C2.P=Tryz.prog:=(rfl)
@[simp] theorem C2_G (f):C2.G f=GS f:=(rfl)
@[simp] theorem C2_o (f):C2.ownArgs f=ownA f:=(rfl)
@[simp] theorem C2_k (f):C2.keepRes f=keepR f:=(rfl)
@[simp] theorem C2_e (f):C2.eqT f=eqTy f:=(rfl)
@[simp] theorem C2_t:C2.tree=false:=(rfl)
theorem prim2_ok : PrimOk C2 := by
  have key : ∀ g q, C2.prim g = some q → g = 99 ∧ q = copyE := by
    intro g q h
    have h : prim2 g = some q := h
    unfold prim2 at h
    split at h
    · injection h with h; exact ⟨rfl, h.symm⟩
    · cases h
  constructor
  · intro g args st p h
    unfold primCall at h
    cases hq : C2.prim g with
    | none => rw [hq] at h; cases h
    | some q =>
      obtain ⟨rfl, rfl⟩ := key g q hq
      exact ⟨Tryz.f99, Tryz.func99, by decide, rfl⟩
  · intro g args stl r stl' h w m φ vs hi hr h0
    unfold primCall at h
    cases hq : C2.prim g with
    | none => rw [hq] at h; cases h
    | some q =>
      obtain ⟨rfl, rfl⟩ := key g q hq
      rw [hq] at h
      obtain ⟨e, he, hres, hor⟩ := copyE_some h
      injection hres with h1 h2
      subst h1; subst h2
      rcases hor with ⟨rfl, rfl⟩ | ⟨j, es, rfl, rfl, hes⟩
      · exact copied_calls he hi hr h0
      · exact copied_row he hes hi hr h0
theorem sound2:SoundOk C2:=sound_ok (C:=C2) ft nt eqS mo prim2_ok
theorem cE_nil:callA C2 98 [.i (.isl [])] []=some (.nils,[]):=by
 rw [callA_eq rfl Tryz.func98 rfl rfl]; simp
theorem cE_some {ks:List Ex} (h:ks≠[]) (hl:ks.length < 1000000000):callA C2 98 [.i (.isl (Ex.cellsL ks))] []=some (.osl 0 5 0 ks.length,[some (.arr 5 (Ex.cellsL ks))]):=by
 rw [callA_eq rfl Tryz.func98 rfl rfl]
 have h1:56 * (ks.length:Int)≤281474976710656:=by omega
 simp [h,h1]
 unfold over
 simp
theorem cI_nil:callA C2 100 [.i (.isl [])] []=some (.nils,[]):=by
 rw [callA_eq rfl Tryz.func100 rfl rfl]; simp
theorem cI_some {l:List Int} (h:l≠[]) (hl:l.length < 1000000000):callA C2 100 [.i (.isl (intsL l))] []=some (.osl 0 1 0 l.length,[some (.arr 1 (intsL l))]):=by
 rw [callA_eq rfl Tryz.func100 rfl rfl]
 have h1:8 * (l.length:Int)≤281474976710656:=by omega
 simp [h,h1]
 unfold over
 simp
theorem cP_nil:callA C2 101 [.i (.isl [])] []=some (.nils,[]):=by
 rw [callA_eq rfl Tryz.func101 rfl rfl]; simp
theorem cP_some {ks:List Pn} (h:ks≠[]) (hl:ks.length < 1000000000):callA C2 101 [.i (.isl (Pn.cellsL ks))] []=some (.osl 0 5 0 ks.length,[some (.arr 5 (Pn.cellsL ks))]):=by
 rw [callA_eq rfl Tryz.func101 rfl rfl]
 have h1:88 * (ks.length:Int)≤281474976710656:=by omega
 simp [h,h1]
 unfold over
 simp
theorem cX_row {e:Ex} {es:List (List IV)} {j:Nat} (h:e.size < 1000000000) (he:nthE es j=some e.cells):callA C2 99 [.ownE 0 5 j 0] [some (.arr 5 es)]=some (.i (.agg e.cells),[some (.arr 5 es)]):=by
 rw [callA_prim (p:=copyE) rfl]; exact copyE_row h (by rw [← nthE_eq]; exact he)
def zp:List AV:=[.int 0, .int 0, .nils, .nils, .nils]
def EV (b3:Nat) (v4 v5 v6 v7 v14 v38 v39 v40 v76 v77 v78:AV):List (Nat×AV):=[(0, .junk),(2, .own 0 0),(3, .i (ptr (b3,0))),(4,v4),(5,v5),(6,v6),(7,v7),(14,v14),(38,v38),(39,v39),(40,v40),(76,v76),(77,v77),(78,v78)]
def rowsP (l:PL):List (List IV):=l.map fun k=>[ptr k.1]
def SLp (b3:Nat) (todo X:PL):AS:={ env:=EV b3 (.osl 1 1 0 todo.length) .junk .junk .junk .junk .junk .junk .junk .junk .junk .junk,st:=[some (.box zp),some (.arr 1 (rowsP (todo ++ X)))] }
def SRp (b3 n o:Nat) (ES:List (List IV)) (v6 v7 v14 v38 v39 v40 v76 v77 v78:AV) (cells:List AV) (L:StL):AS:={ env:=EV b3 (.osl 1 1 0 n) (.own 2 o) v6 v7 v14 v38 v39 v40 v76 v77 v78,st:=some (.box zp) :: some (.arr 1 ES) :: some (.box cells) :: L }
theorem ptr_lits : ∀ (l : PL), ∀ c ∈ (rowsP l).flatten, ∃ v, c = .lit v
  | [], c, h => by simp [rowsP] at h
  | k :: l, c, h => by
    simp only [rowsP, List.map_cons, List.flatten_cons, List.mem_append, List.mem_singleton] at h
    rcases h with rfl | h
    · exact ⟨_, rfl⟩
    · exact ptr_lits l c h
theorem stOf_upd2 (a b x:Option Blk):upd (stOf [a,b]) 2 x=stOf [a,b,x]:=by
 funext i; rcases i with _ | _ | _ | i<;>simp [stOf,upd]
theorem envEV (b3:Nat) (v4 v5 v5' v6 v7 v14 v38 v39 v40 v76 v77 v78:AV):upd (envOf (EV b3 v4 v5 v6 v7 v14 v38 v39 v40 v76 v77 v78)) 5 v5'=envOf (EV b3 v4 v5' v6 v7 v14 v38 v39 v40 v76 v77 v78):=by
 funext t
 simp only [upd,EV,envOf]
 by_cases h5:t=5
 ·subst h5; simp
 ·simp only [h5,if_false]
def XS (b3 n:Nat) (ES:List (List IV)) (pre post:List Value) (k t:Int) (es:List Ex) (aC aK:AV) (v14:AV) (i:Nat):AS :=
 SRp b3 n pre.length ES (jk i (.int (i - 1))) .junk v14 (.int es.length) (.int i) (jk i (.bool true)) .junk .junk .junk (boxL pre [.int k, .int t, .osl 3 5 0 es.length,aC,aK] post) [some (.arr 5 (Ex.cellsL es))]
end Go.Proofs.YtjcjpbjpbbdnlaaGreat.G

namespace Go.Proofs.YtjcjpbjpbbdnlaaGreat.G
open Go Go.Av
set_option maxRecDepth 4000
set_option maxHeartbeats 8000000
def jj:List (Nat×AV):=[(4, .junk),(5, .junk),(6, .junk),(7, .junk),(14, .junk),(38, .junk),(39, .junk),(40, .junk),(76, .junk),(77, .junk),(78, .junk)]
theorem stTrue:Stab (fun _ _ _=>True):=fun _ _ _ _ _ _ _ _=>trivial
theorem wrap_1p:IntKind.i64.wrap 1=1:=wrap64 (by omega) (by omega)
def RWp (init:PL) (b' i:Nat):List (List IV):=rowsP init ++ (List.range i).map fun j=>[ptr (b',j * 5)]
theorem RWp_len (init:PL) (b' i:Nat):(RWp init b' i).length=init.length + i:=by simp [RWp,rowsP]
theorem RWp_succ (init:PL) (b' i:Nat):RWp init b' i ++ [[ptr (b',i * 5)]]=RWp init b' (i + 1):=by simp [RWp,List.range_succ]
theorem kidsP_rows (b : Nat) : ∀ (o : Nat) (l : List Pn), rowsP (kidsP b o l) = (List.range l.length).map fun j => [ptr (b, o + j * 5)]
  | _, [] => by simp [kidsP, rowsP]
  | o, a :: l => by
    have ih := kidsP_rows b (o + 5) l
    simp only [rowsP] at ih ⊢
    simp only [kidsP, List.map_cons, ih, List.length_cons, List.range_succ_eq_map, List.map_map]
    simp only [List.cons.injEq, Nat.zero_mul, Nat.add_zero, true_and]
    apply List.map_congr_left
    intro j _
    simp only [Function.comp, Nat.succ_eq_add_one]
    rw [show o + 5 + j * 5 = o + (j + 1) * 5 by omega]
theorem kidsP_len (b:Nat):∀ (o:Nat) (l:List Pn),(kidsP b o l).length=l.length
 | _,[]=>rfl
 | o,a :: l=>by simp [kidsP,kidsP_len b (o + 5) l]
theorem kidsP_sum (b:Nat):∀ (o:Nat) (l:List Pn),((kidsP b o l).map fun k=>k.2.size).sum=Pn.sizeL l
 | _,[]=>by simp [kidsP,Pn.sizeL]
 | o,a :: l=>by simp [kidsP,Pn.sizeL,kidsP_sum b (o + 5) l]
theorem kidsP_mem {b : Nat} : ∀ {o : Nat} {l : List Pn}, ∀ q ∈ kidsP b o l, q.2 ∈ l ∧ q.1.1 = b
  | _, [], q, h => by simp [kidsP] at h
  | o, a :: l, q, h => by
    simp only [kidsP, List.mem_cons] at h
    rcases h with rfl | h
    · simp
    · have := kidsP_mem q h; exact ⟨by simp [this.1], this.2⟩
def iE (es:List Ex):Nat:=if es.length=0 then 100 else 3
def lE (es:List Ex):StL:=if es.length=0 then [] else [some (.arr 5 (Ex.cellsL es))]
def iC (es:List Ex) (cs:List Int):Nat:=if cs.length=0 then 101 else 3 + (lE es).length
def lC (es:List Ex) (cs:List Int):StL:=if cs.length=0 then lE es else lE es ++ [some (.arr 1 (intsL cs))]
def iK (es:List Ex) (cs:List Int) (ks:List Pn):Nat:=if ks.length=0 then 102 else 3 + (lC es cs).length
def lK (es:List Ex) (cs:List Int) (ks:List Pn):StL:=if ks.length=0 then lC es cs else lC es cs ++ [some (.arr 5 (Pn.cellsL ks))]
def YP (b3 n o:Nat) (ES:List (List IV)) (init:PL) (b' nk:Nat) (cells:List AV) (i:Nat):AS :=
 {env:=EV b3 (if i=0 then .osl 1 1 0 n else .osl 3 1 0 (n + i)) (.own 2 o) .junk (jk i (.int (i - 1))) (.bool true) .junk .junk .junk (.int nk) (.int i) (jk i (.bool true)),
  st:=some (.box zp) :: (if i=0 then some (.arr 1 ES) else none) :: some (.box cells) :: (if i=0 then [] else [some (.arr 1 (RWp init b' i))]) }
theorem stOf_last (a b c:Option Blk):∀ (l:StL) {x:Option Blk},stOf (a :: b :: c :: (l ++ [x])) (3 + l.length)=x:=by
 intro l x
 rw [stOf_get]
 have:(a :: b :: c :: (l ++ [x]))[3 + l.length]?=some x:=by
  rw [show 3 + l.length=l.length + 1 + 1 + 1 by omega]
  simp
 rw [this]; rfl
theorem copiedRaw_calls {p : Pn} (hsz : p.size < 1000000000) (hth : p.thin) (hty : p.tiny) {wi : World} {mi : Mem} {vs : List Value} (hi : Inv wi mi (fun _ => none) (stOf [])) (hr : RepL mi (fun _ => none) [.i (.iref p.cells)] vs) :
    Calls Tryz.prog 55 vs.toArray wi (RawPost wi mi p) := by
  refine calls_of_wp (fn := Tryz.f55) Tryz.func55 rfl ?_
  have hv1 : vs.length = 1 := by simpa using hr.length.symm
  have g0 : GR wi mi 91 (fun id => id < ({ env := [(0, .i (.iref p.cells))], st := [] } : AS).st.length) (fun _ _ _ => True) (envOf [(0, .i (.iref p.cells))]) (stOf []) { tmps := vs.toArray ++ Array.replicate (91 - vs.toArray.size) undef, defers := [] } wi := by
    refine ⟨⟨mi, fun _ => none, hi, ?_, .refl _ _ _, fun id h => absurd rfl h, trivial⟩, by simp; omega, rfl⟩
    intro t
    have := enter_rep (m := mi) (φ := fun _ => none) (91 - vs.toArray.size) hr t
    cases t with
    | zero => simpa [envOf, argAt] using this
    | succ t => simp only [envOf]; simp; exact .junk _
  refine wp_seq (wp_mono (GR.codeA sound2 (G := GS 55) (S := { env := [(0, .i (.iref p.cells))], st := [] }) (e := .normal) (S' := { env := [(0, .i (.iref p.cells)), (2, .own 0 0), (3, .junk)] ++ jj, st := [some (.box zp)] }) stTrue (by kernel_rfl) (by simp [zp, jj]) g0) ?_)
  rintro _ a1 w1 ⟨rfl, g1⟩
  refine wp_seq (wp_mono (GR.codeA sound2 (G := GS 55) (S := { env := [(0, .i (.iref p.cells)), (2, .own 0 0), (3, .junk)] ++ jj, st := [some (.box zp)] }) (e := .normal) (S' := { env := [(0, .i (.iref p.cells)), (2, .own 0 0), (3, .own 1 0)] ++ jj, st := [some (.box zp), some (.box (impI p.cells))] }) stTrue (by kernel_rfl) (by rw [Pn.cells_eq]; simp [zp, jj]) g1) ?_)
  rintro _ a2 w2 ⟨rfl, g2⟩
  obtain ⟨b3, g3⟩ := g2.pubP (u := 3) (id := 1) (p := p) (st' := stOf [some (.box zp)]) rfl rfl (by
    intro i blk h
    cases i with
    | zero => simp [stOf] at h; subst h; exact ⟨by omega, rfl, by simp [LitBlk, zp]⟩
    | succ i => simp [stOf] at h)
  have g3 := g3 (envOf [(2, .own 0 0), (3, .i (ptr (b3, 0)))]) (by
    intro t
    simp only [envOf]
    by_cases h2 : t = 2
    · subst h2; exact .inr (.inr ⟨rfl, by simp [envOf, Stays, stOf, jj]⟩)
    · by_cases h3 : t = 3
      · subst h3; exact .inr (.inl ⟨rfl, rfl⟩)
      · simp [h2, h3])
  have g3 := g3.ok' (ok' := fun id => id < ({ env := [(2, .own 0 0), (3, .i (ptr (b3, 0)))], st := [some (.box zp)] } : AS).st.length) (by
    intro i h
    cases i with
    | zero => simp
    | succ i => simp [stOf] at h)
  refine wp_seq (wp_mono (GR.codeA sound2 (G := GS 55) (S := { env := [(2, .own 0 0), (3, .i (ptr (b3, 0)))], st := [some (.box zp)] }) (e := .normal) (S' := SLp b3 [((b3, 0), p)] []) (RAW.stab _ _ _ _ _) (by kernel_rfl) (by simp [SLp, EV, rowsP, ptr, zp]) g3) ?_)
  rintro _ a3 w3 ⟨rfl, g4⟩
  clear g0 g1 g2 g3
  refine wp_seq (wp_block ?_)
  refine wp_loop_n (fun n a w => ∃ (todo X H : PL) (F : List Nat), H.Perm todo ∧ (todo.map fun k => k.2.size).sum = n ∧ n < 1000000000 ∧ (∀ q ∈ todo, q.2.thin ∧ q.2.tiny) ∧ GR wi mi 91 (fun id => id < (SLp b3 todo X).st.length) (RAW wi b3 p F H) (envOf (SLp b3 todo X).env) (stOf (SLp b3 todo X).st) a w) ?_ (n := p.size) ⟨[((b3, 0), p)], [], [((b3, 0), p)], [], .refl _, by simp, hsz, by simpa using ⟨hth, hty⟩, g4⟩
  clear g4
  rintro n a w ⟨todo, X, H, F, hperm, hsum, hn, hall, g⟩
  rcases List.eq_nil_or_concat todo with rfl | ⟨init, k, rfl⟩
  · obtain rfl := List.perm_nil.1 hperm
    refine wp_mono (GR.codeA sound2 (G := GS 55) (S := SLp b3 [] X) (e := .exit 0) (S' := { env := EV b3 (.osl 1 1 0 0) .junk .junk .junk (.bool false) .junk .junk .junk .junk .junk .junk, st := [some (.box zp), some (.arr 1 (rowsP X))] }) (RAW.stab _ _ _ _ _) (by kernel_rfl) (by simp [SLp, EV, zp]) g) ?_
    rintro _ a5 w5 ⟨rfl, g5⟩
    simp only [exitOf, Exit.then, Exit.inBlock, if_true]
    obtain ⟨v0, v1, v2, v3, v4, post, hone, g6⟩ := g5.adoptC (u := 3) (k := 2) rfl rfl (by simp)
    have g6 := (g6 (envOf [(2, .own 0 0), (3, .own 2 0)]) (by
      intro t
      simp only [envOf]
      by_cases h2 : t = 2
      · subst h2; exact .inr (.inr (by simp [envOf, EV]))
      · by_cases h3 : t = 3
        · subst h3; exact .inr (.inl ⟨rfl, rfl⟩)
        · simp [h2, h3])).ok' (ok' := fun id => id < ({ env := [(2, .own 0 0), (3, .own 2 0)], st := [some (.box zp), some (.arr 1 (rowsP X)), some (.box (litVs [v0, v1, v2, v3, v4] ++ litVs post))] } : AS).st.length) (by
      intro i h
      simp at h ⊢; omega)
    rw [stOf_upd2] at g6
    refine wp_mono (GR.codeA sound2 (G := GS 55) (S := { env := [(2, .own 0 0), (3, .own 2 0)], st := [some (.box zp), some (.arr 1 (rowsP X)), some (.box (litVs [v0, v1, v2, v3, v4] ++ litVs post))] }) (e := .ret) (S' := { env := [(0, .junk), (2, .own 0 0), (3, .own 2 0)] ++ jj, st := [some (.box (litVs [v0, v1, v2, v3, v4])), some (.arr 1 (rowsP X)), some (.box (litVs [v0, v1, v2, v3, v4] ++ litVs post))] }) (CPY.stab _ _ _ _ _ _ _ _) (by kernel_rfl) (by
      have hz : litVs [v0, v1, v2, v3, v4] = [.i (.lit v0), .i (.lit v1), .i (.lit v2), .i (.lit v3), .i (.lit v4)] := rfl
      rw [hz]
      simp [zp, jj, idsOf_litVs, renL_litVs]) g6) ?_
    rintro _ a6 w6 ⟨rfl, g7⟩
    obtain ⟨⟨m, φ, q1, q2, q3, q4, q5⟩, q6, q7⟩ := g7
    obtain ⟨v, k1, k2⟩ := finish_sound (C := C2) (fn := Tryz.f55) (keep := false) (na := 0) (S := { env := [(0, .junk), (2, .own 0 0), (3, .own 2 0)] ++ jj, st := [some (.box (litVs [v0, v1, v2, v3, v4])), some (.arr 1 (rowsP X)), some (.box (litVs [v0, v1, v2, v3, v4] ++ litVs post))] }) (r := .i (.agg [.lit v0, .lit v1, .lit v2, .lit v3, .lit v4])) (stl' := []) (fun id h => absurd rfl h) ⟨⟨⟨m, φ, q1, q2, q3, q4, .nil _ _ _⟩, q6, q7⟩, Nat.zero_le _⟩ (by
      show finish C2 false [ResultVar.cell 2 27] 0 _ = _
      have hz : litVs [v0, v1, v2, v3, v4] = [.i (.lit v0), .i (.lit v1), .i (.lit v2), .i (.lit v3), .i (.lit v4)] := rfl
      rw [hz]
      simp)
    have hv : v = .agg #[v0, v1, v2, v3, v4] := by
      obtain ⟨_, _, _, e, r, _⟩ := k2
      injection e with e
      subst e
      cases r with
      | i r => cases r with
        | agg r =>
          cases r with | cons a0 _ r => cases r with | cons a1 _ r => cases r with | cons a2 _ r => cases r with | cons a3 _ r => cases r with | cons a4 _ r =>
          cases r
          rw [lit_inv a0, lit_inv a1, lit_inv a2, lit_inv a3, lit_inv a4]
    subst hv
    refine ⟨q7, _, k1, v0, v1, v2, v3, v4, F, m, rfl, hone, q1.mem, ⟨q3.size, q3.os, q3.tape, q3.output, q3.block, q3.mle, q3.mnew, .refl _, fun _ _ _ _ e => by cases e⟩, q5.th, q5.cells, q5.nd, fun f hf => ?_⟩
    obtain ⟨z1, z2, z3, z4, z5⟩ := q5.all f hf
    exact ⟨z1, z2, (by intro _ _ _ e; cases e), z4, z5⟩
  · obtain ⟨⟨b, o⟩, x⟩ := k
    rw [List.concat_eq_append] at hperm hsum hall g
    have hlen : ∀ l : PL, l.length ≤ (l.map fun k => k.2.size).sum := by
      intro l
      induction l with
      | nil => simp
      | cons a l ih => have := Pn.size_pos a.2; simp; omega
    have hil := hlen init
    simp at hsum
    have hq : ((b, o), x) ∈ H := hperm.mem_iff.2 (by simp)
    have hxs := Pn.size_eq x
    have hkl := Pn.sizeL_length x.kids
    have hpos : (0 : Int) < (init.length : Int) + 1 := by omega
    have w1 : IntKind.i64.wrap (init.length : Int) = init.length := wrap64 (by omega) (by omega)
    generalize hES : rowsP (init ++ [((b, o), x)] ++ X) = ES at *
    have hnth : nthE ES init.length = some [ptr (b, o)] := by
      rw [nthE_eq, ← hES]; simp [rowsP]
    have hlit : ∀ c ∈ ES.flatten, ∃ v, c = .lit v := by rw [← hES]; exact ptr_lits _
    have htake : ES.take init.length = rowsP init := by rw [← hES]; simp [rowsP]
    have hESl : init.length ≤ ES.length := by rw [← hES]; simp [rowsP]
    have hlt : (init.length : Int) < (init.length : Int) + 1 := by omega
    have hlt2 : (init.length : Int) ≤ (init.length : Int) + 1 := by omega
    obtain ⟨hxt, hxy⟩ := hall ((b, o), x) (by simp)
    simp only at hxt hxy
    refine wp_seq (wp_mono (GR.codeA sound2 (G := GS 55) (S := SLp b3 (init ++ [((b, o), x)]) X) (e := .normal) (S' := { env := EV b3 (.osl 1 1 0 (init.length + 1)) .junk .junk .junk (.bool true) .junk .junk .junk .junk .junk .junk, st := [some (.box zp), some (.arr 1 ES)] }) (RAW.stab _ _ _ _ _) (by kernel_rfl) (by simp only [SLp, hES]; simp [EV, zp, hpos]) g) ?_)
    rintro _ a5 w5 ⟨rfl, g5⟩
    clear g
    refine wp_block ?_
    refine wp_seq (wp_mono (GR.codeA sound2 (G := GS 55) (S := { env := EV b3 (.osl 1 1 0 (init.length + 1)) .junk .junk .junk (.bool true) .junk .junk .junk .junk .junk .junk, st := [some (.box zp), some (.arr 1 ES)] }) (e := .normal) (S' := { env := EV b3 (.osl 1 1 0 (init.length + 1)) (.i (ptr (b, o))) .junk .junk (.bool true) .junk .junk .junk .junk .junk .junk, st := [some (.box zp), some (.arr 1 ES)] }) (RAW.stab _ _ _ _ _) (by kernel_rfl) (by simp only [ptr] at hnth; simp [EV, ptr, zp, hnth, w1, hlt]) g5) ?_)
    rintro _ a6 w6 ⟨rfl, g6⟩
    clear g5
    refine wp_seq (wp_mono (GR.codeA sound2 (G := GS 55) (S := { env := EV b3 (.osl 1 1 0 (init.length + 1)) (.i (ptr (b, o))) .junk .junk (.bool true) .junk .junk .junk .junk .junk .junk, st := [some (.box zp), some (.arr 1 ES)] }) (e := .normal) (S' := { env := EV b3 (.osl 1 1 0 init.length) (.i (ptr (b, o))) .junk .junk (.bool true) .junk .junk .junk .junk .junk .junk, st := [some (.box zp), some (.arr 1 ES)] }) (RAW.stab _ _ _ _ _) (by kernel_rfl) (by simp [EV, ptr, zp, w1, hlt2]) g6) ?_)
    rintro _ a7 w7 ⟨rfl, g7⟩
    clear g6
    obtain ⟨pre, post, us, ma, e1, e2, e3, e4, e5, g8⟩ := g7.adopt (u := 5) (y := x) rfl (by simp) hq rfl
    clear g7
    rw [envEV, stOf_upd2] at g8
    subst e3
    obtain ⟨kd, tb, es, cs, ks⟩ := x
    obtain ⟨t1, t2, t3, t4, t5⟩ := (Pn.thin_iff _).1 hxt
    obtain ⟨y1, y2⟩ := (Pn.tiny_iff _).1 hxy
    simp only [Pn.kids_mk, Pn.exprs_mk, Pn.cols_mk] at t1 t2 t3 t4 t5 y1 y2 hxs hkl
    rw [Pn.cells_mk] at g8
    have hst := ADP.stab wi b3 p F H b us w7 ma
    refine wp_seq (wp_mono (GR.codeA sound2 (G := GS 55) (S := SRp b3 init.length pre.length ES .junk .junk (.bool true) .junk .junk .junk .junk .junk .junk (boxL pre [.int kd, .int tb, .i (.isl (Ex.cellsL es)), .i (.isl (intsL cs)), .i (.isl (Pn.cellsL ks))] post) []) (e := .normal) (S' := SRp b3 init.length pre.length ES .junk .junk (.bool true) .junk .junk .junk .junk .junk .junk (boxL pre [.int kd, .int tb, slA es.length (iE es) 5, .i (.isl (intsL cs)), .i (.isl (Pn.cellsL ks))] post) (lE es)) hst (by kernel_rfl) (by
      by_cases he : es = []
      · subst he
        simp [SRp, EV, zp, tkB2, splB2, idsOfL_boxL, renL_boxL, Ex.cellsL, cE_nil, slA, lE]
      · have hel : es.length ≠ 0 := fun h => he (List.length_eq_zero_iff.1 h)
        simp [SRp, EV, zp, tkB2, splB2, idsOfL_boxL, renL_boxL, cE_some he t1, slA, lE, iE, he]) (g8.ok' fun id h => by simp at h ⊢; simp [SRp]; omega)) ?_)
    rintro _ a9 w9 ⟨rfl, g9⟩
    clear g8
    refine wp_seq (wp_mono (GR.codeX sound2 (G := GS 55) (S := SRp b3 init.length pre.length ES .junk .junk (.bool true) .junk .junk .junk .junk .junk .junk (boxL pre [.int kd, .int tb, slA es.length (iE es) 5, .i (.isl (intsL cs)), .i (.isl (Pn.cellsL ks))] post) (lE es)) hst
      (PP := fun e S' => e = .normal ∧ ∃ v6 v38 v39 v40, S' = SRp b3 init.length pre.length ES v6 .junk (.bool true) v38 v39 v40 .junk .junk .junk (boxL pre [.int kd, .int tb, slA es.length (iE es) 5, .i (.isl (intsL cs)), .i (.isl (Pn.cellsL ks))] post) (lE es)) (by kernel_rfl) (by
      by_cases he : es = []
      · subst he
        refine ⟨.normal, SRp b3 init.length pre.length ES .junk .junk (.bool true) (.int 0) (.int 0) (.bool false) .junk .junk .junk (boxL pre [.int kd, .int tb, slA 0 (iE []) 5, .i (.isl (intsL cs)), .i (.isl (Pn.cellsL ks))] post) (lE []), ?_, rfl, _, _, _, _, rfl⟩
        simp [SRp, EV, zp, tkB2, splB2, idsOfL_boxL, renL_boxL, slA, lE]
        rw [execA_loop]
        simp [idsOfL_boxL, renL_boxL]
      · have hel : es.length ≠ 0 := fun h => he (List.length_eq_zero_iff.1 h)
        refine ⟨.normal, SRp b3 init.length pre.length ES (.int (es.length - 1)) .junk (.bool true) (.int es.length) (.int es.length) (.bool false) .junk .junk .junk (boxL pre [.int kd, .int tb, slA es.length (iE es) 5, .i (.isl (intsL cs)), .i (.isl (Pn.cellsL ks))] post) (lE es), ?_, rfl, _, _, _, _, rfl⟩
        simp [SRp, EV, zp, tkB2, splB2, idsOfL_boxL, renL_boxL, slA, lE, iE, he]
        rw [loop_to (XS b3 init.length ES pre post kd tb es (.i (.isl (intsL cs))) (.i (.isl (Pn.cellsL ks))) (.bool true)) es.length (by simp [XS, SRp, EV, zp])]
        · rw [execA_loop]
          simp [XS, SRp, EV, zp, tkB2, splB2, idsOfL_boxL, renL_boxL, jk_pos hel]
        · intro i hi
          have h3 := List.getElem?_eq_getElem hi
          have hs := y1 _ (List.mem_of_getElem? h3)
          have r2 := Ex.cellsL_nth h3
          generalize es[i] = a at h3 hs r2
          have hk := cX_row hs r2
          have hput := Ex.cellsL_set h3
          have w2 : IntKind.i64.wrap ((i : Int) + 1) = i + 1 := wrap64 (by omega) (by omega)
          rw [Ex.cells_eq] at r2 hk hput
          simp [XS, SRp, EV, zp, tkB2, splB2, idsOfL_boxL, renL_boxL, hi, r2, hk, w2, hput]) g9) ?_)
    rintro _ a10 w10 ⟨e, S', rfl, ⟨rfl, v6, v38, v39, v40, rfl⟩, g10⟩
    clear g9
    have g10 := (g10.envTo (env' := envOf (SRp b3 init.length pre.length ES .junk .junk (.bool true) .junk .junk .junk .junk .junk .junk (boxL pre [.int kd, .int tb, slA es.length (iE es) 5, .i (.isl (intsL cs)), .i (.isl (Pn.cellsL ks))] post) (lE es)).env) (by
      intro t
      simp only [SRp, EV, envOf]
      by_cases h6 : t = 6
      · subst h6; simp
      by_cases h38 : t = 38
      · subst h38; simp
      by_cases h39 : t = 39
      · subst h39; simp
      by_cases h40 : t = 40
      · subst h40; simp
      · simp [h6, h38, h39, h40]))
    refine wp_seq (wp_mono (GR.codeA sound2 (G := GS 55) (S := SRp b3 init.length pre.length ES .junk .junk (.bool true) .junk .junk .junk .junk .junk .junk (boxL pre [.int kd, .int tb, slA es.length (iE es) 5, .i (.isl (intsL cs)), .i (.isl (Pn.cellsL ks))] post) (lE es)) (e := .normal) (S' := SRp b3 init.length pre.length ES .junk .junk (.bool true) .junk .junk .junk .junk .junk .junk (boxL pre [.int kd, .int tb, slA es.length (iE es) 5, slA cs.length (iC es cs) 1, .i (.isl (Pn.cellsL ks))] post) (lC es cs)) hst (by kernel_rfl) (by
      by_cases he : es = [] <;> by_cases hc : cs = []
      · subst he; subst hc
        simp [SRp, EV, zp, tkB3, splB3, idsOfL_boxL, renL_boxL, intsL, cI_nil, slA, lE, lC]
      · have hcl : cs.length ≠ 0 := fun h => hc (List.length_eq_zero_iff.1 h)
        subst he
        simp [SRp, EV, zp, tkB3, splB3, idsOfL_boxL, renL_boxL, cI_some hc t3, slA, lE, lC, iC, hc]
      · have hel : es.length ≠ 0 := fun h => he (List.length_eq_zero_iff.1 h)
        subst hc
        simp [SRp, EV, zp, tkB3, splB3, idsOfL_boxL, renL_boxL, intsL, cI_nil, slA, lE, lC, iE, he]
      · have hel : es.length ≠ 0 := fun h => he (List.length_eq_zero_iff.1 h)
        have hcl : cs.length ≠ 0 := fun h => hc (List.length_eq_zero_iff.1 h)
        simp [SRp, EV, zp, tkB3, splB3, idsOfL_boxL, renL_boxL, cI_some hc t3, slA, lE, lC, iE, iC, he, hc]) g10) ?_)
    rintro _ a11 w11 ⟨rfl, g11⟩
    clear g10
    refine wp_seq (wp_mono (GR.codeA sound2 (G := GS 55) (S := SRp b3 init.length pre.length ES .junk .junk (.bool true) .junk .junk .junk .junk .junk .junk (boxL pre [.int kd, .int tb, slA es.length (iE es) 5, slA cs.length (iC es cs) 1, .i (.isl (Pn.cellsL ks))] post) (lC es cs)) (e := .normal) (S' := SRp b3 init.length pre.length ES .junk .junk (.bool true) .junk .junk .junk .junk .junk .junk (boxL pre [.int kd, .int tb, slA es.length (iE es) 5, slA cs.length (iC es cs) 1, slA ks.length (iK es cs ks) 5] post) (lK es cs ks)) hst (by kernel_rfl) (by
      by_cases he : es = [] <;> by_cases hc : cs = [] <;> by_cases hk : ks = []
      all_goals (try subst he)
      all_goals (try subst hc)
      all_goals (try subst hk)
      · simp [SRp, EV, zp, tkB4, splB4, idsOfL_boxL, renL_boxL, Pn.cellsL, cP_nil, slA, lE, lC, lK]
      · simp [SRp, EV, zp, tkB4, splB4, idsOfL_boxL, renL_boxL, cP_some hk t4, slA, lE, lC, lK, iK, hk]
      · simp [SRp, EV, zp, tkB4, splB4, idsOfL_boxL, renL_boxL, Pn.cellsL, cP_nil, slA, lE, lC, lK, iC, hc]
      · simp [SRp, EV, zp, tkB4, splB4, idsOfL_boxL, renL_boxL, cP_some hk t4, slA, lE, lC, lK, iC, iK, hc, hk]
      · simp [SRp, EV, zp, tkB4, splB4, idsOfL_boxL, renL_boxL, Pn.cellsL, cP_nil, slA, lE, lC, lK, iE, he]
      · simp [SRp, EV, zp, tkB4, splB4, idsOfL_boxL, renL_boxL, cP_some hk t4, slA, lE, lC, lK, iE, iK, he, hk]
      · simp [SRp, EV, zp, tkB4, splB4, idsOfL_boxL, renL_boxL, Pn.cellsL, cP_nil, slA, lE, lC, lK, iE, iC, he, hc]
      · simp [SRp, EV, zp, tkB4, splB4, idsOfL_boxL, renL_boxL, cP_some hk t4, slA, lE, lC, lK, iE, iC, iK, he, hc, hk]) g11) ?_)
    rintro _ a12 w12 ⟨rfl, g12⟩
    clear g11
    obtain ⟨F', H', us', b', cap, vE, vC, m2, hpm, hus, hone, hbn, g13⟩ := g12.relit (u := 5) (st' := stOf [some (.box zp), some (.arr 1 ES)]) (env' := envOf (EV b3 (.osl 1 1 0 init.length) (.own 2 pre.length) .junk .junk (.bool true) .junk .junk .junk .junk .junk .junk)) (idE := iE es) (idC := iC es cs) (idK := iK es cs ks) (oq := pre.length) e1 e2 rfl e4 hq rfl
      (fun h => by simp [SRp, iE, lE, lC, lK, h]; split <;> split <;> simp [stOf])
      (fun h => by simp only [SRp, iC, lC, lK, h, if_false]; cases hh : lE es with
        | nil => split <;> simp [stOf]
        | cons a l =>
          have : l = [] := by unfold lE at hh; split at hh <;> simp_all
          subst this; split <;> simp [stOf])
      (fun h => by simp only [SRp, iK, lK, h, if_false]; exact stOf_last _ _ _ _)
      (by unfold iE iC iK lC lE; repeat' split <;> simp_all)
      (by
        intro i blk h
        rcases i with _ | _ | i
        · simp [stOf] at h; subst h; exact ⟨by omega, rfl, by simp [LitBlk, zp]⟩
        · simp [stOf] at h; subst h; exact ⟨by omega, rfl, hlit⟩
        · simp [stOf] at h)
      (by
        intro t
        simp only [SRp, EV, envOf]
        by_cases h0 : t = 0
        · subst h0; simp
        by_cases h2 : t = 2
        · subst h2; exact .inr ⟨by simp, .inr (by simp [Stays, stOf])⟩
        by_cases h3 : t = 3
        · subst h3; exact .inr ⟨by simp, .inr (by simp [Stays, ptr])⟩
        by_cases h4 : t = 4
        · subst h4; exact .inr ⟨by simp, .inr (by simp [Stays, stOf])⟩
        by_cases h5 : t = 5
        · subst h5; exact .inr ⟨by simp, .inl (by simp)⟩
        by_cases h14 : t = 14
        · subst h14; exact .inr ⟨by simp, .inr (by simp [Stays])⟩
        simp [h0, h2, h3, h4, h5, h14])
    clear g12
    rw [stOf_upd2] at g13
    have hbx : litVs us' = boxL pre [.i (.lit (.int .i64 kd)), .i (.lit (.int .i64 tb)), .i (.lit vE), .i (.lit vC), .i (.lit (if ks.length = 0 then .slice none 0 0 else .slice (some ⟨b', 0, none⟩) ks.length cap))] post := by rw [hus]; simp [boxL, litVs]
    rw [hbx] at g13
    have hst' := ADP.stab wi b3 p F' H' b us' w12 m2
    refine wp_mono (GR.codeX sound2 (G := GS 55) (S := SRp b3 init.length pre.length ES .junk .junk (.bool true) .junk .junk .junk .junk .junk .junk (boxL pre [.i (.lit (.int .i64 kd)), .i (.lit (.int .i64 tb)), .i (.lit vE), .i (.lit vC), .i (.lit (if ks.length = 0 then .slice none 0 0 else .slice (some ⟨b', 0, none⟩) ks.length cap))] post) []) hst'
      (PP := fun e S' => e = .normal ∧ ∃ v7 v76 v77 v78, S' = { env := EV b3 (if ks.length = 0 then .osl 1 1 0 init.length else .osl 3 1 0 (init.length + ks.length)) (.own 2 pre.length) .junk v7 (.bool true) .junk .junk .junk v76 v77 v78, st := some (.box zp) :: (if ks.length = 0 then some (.arr 1 ES) else none) :: some (.box (boxL pre [.i (.lit (.int .i64 kd)), .i (.lit (.int .i64 tb)), .i (.lit vE), .i (.lit vC), .i (.lit (if ks.length = 0 then .slice none 0 0 else .slice (some ⟨b', 0, none⟩) ks.length cap))] post)) :: (if ks.length = 0 then [] else [some (.arr 1 (RWp init b' ks.length))]) }) (by kernel_rfl) (by
      by_cases h0 : ks.length = 0
      · refine ⟨.normal, { env := EV b3 (.osl 1 1 0 init.length) (.own 2 pre.length) .junk .junk (.bool true) .junk .junk .junk (.int 0) (.int 0) (.bool false), st := some (.box zp) :: some (.arr 1 ES) :: some (.box (boxL pre [.i (.lit (.int .i64 kd)), .i (.lit (.int .i64 tb)), .i (.lit vE), .i (.lit vC), .i (.lit (if ks.length = 0 then .slice none 0 0 else .slice (some ⟨b', 0, none⟩) ks.length cap))] post)) :: [] }, ?_, rfl, .junk, .int 0, .int 0, .bool false, by simp [h0]⟩
        simp [SRp, EV, zp, tkB4, idsOfL_boxL, renL_boxL, h0]
        rw [execA_loop]
        simp [idsOfL_boxL, renL_boxL]
      · refine ⟨.normal, { env := EV b3 (.osl 3 1 0 (init.length + ks.length)) (.own 2 pre.length) .junk (.int (ks.length - 1)) (.bool true) .junk .junk .junk (.int ks.length) (.int ks.length) (.bool false), st := some (.box zp) :: none :: some (.box (boxL pre [.i (.lit (.int .i64 kd)), .i (.lit (.int .i64 tb)), .i (.lit vE), .i (.lit vC), .i (.lit (if ks.length = 0 then .slice none 0 0 else .slice (some ⟨b', 0, none⟩) ks.length cap))] post)) :: [some (.arr 1 (RWp init b' ks.length))] }, ?_, rfl, .int (ks.length - 1), .int ks.length, .int ks.length, .bool false, by simp [h0]⟩
        simp only [h0, if_false]
        simp [SRp, EV, zp, tkB4, idsOfL_boxL, renL_boxL]
        rw [loop_to (YP b3 init.length pre.length ES init b' ks.length (boxL pre [.i (.lit (.int .i64 kd)), .i (.lit (.int .i64 tb)), .i (.lit vE), .i (.lit vC), .i (.lit (if ks.length = 0 then .slice none 0 0 else .slice (some ⟨b', 0, none⟩) ks.length cap))] post)) ks.length (by simp [YP, EV, zp, h0])]
        · rw [execA_loop]
          simp [YP, EV, zp, tkB4, idsOfL_boxL, renL_boxL, h0, jk_pos h0]
        · intro i hi
          have w2 : IntKind.i64.wrap ((i : Int) + 1) = i + 1 := wrap64 (by omega) (by omega)
          by_cases hi0 : i = 0
          · subst hi0
            have hR : rowsP init ++ [[.lit (.pointer (some ⟨b', 0, none⟩))]] = RWp init b' 1 := by simp [RWp, ptr]
            have hl : (init.length + 1) * 8 ≤ 140737488355328 := by omega
            simp [YP, EV, zp, tkB4, idsOfL_boxL, renL_boxL, h0, wrap_1p, hi, htake, hR, hl, hESl]
          · have hl : (init.length + i + 1) * 8 ≤ 140737488355328 := by omega
            have hT : (RWp init b' i).take (init.length + i) = RWp init b' i := List.take_of_length_le (by rw [RWp_len]; omega)
            have hR : RWp init b' i ++ [[.lit (.pointer (some ⟨b', i * 5, none⟩))]] = RWp init b' (i + 1) := by simpa [ptr] using RWp_succ init b' i
            simp [YP, EV, zp, tkB4, idsOfL_boxL, renL_boxL, h0, hi0, jk_pos hi0, w2, hi, hT, RWp_len, hl, hR, ← Nat.add_assoc]) (g13.ok' fun id h => by simp [SRp]; omega)) ?_
    rintro _ a13 w13 ⟨e, S', rfl, ⟨rfl, v7, v76, v77, v78, rfl⟩, g14⟩
    clear g13
    simp only [exitOf, Exit.then, Exit.inBlock]
    have hpm2 : H'.Perm (init ++ kidsP b' 0 ks) := by
      have h1 : (((b, pre.length), Pn.mk kd tb es cs ks) :: H').Perm (((b, pre.length), Pn.mk kd tb es cs ks) :: (init ++ kidsP b' 0 ks)) := by
        refine hpm.trans ((hperm.append_right _).trans ?_)
        rw [List.append_assoc]
        exact List.perm_middle
      exact (List.perm_cons _).1 h1
    have hszx : (Pn.mk kd tb es cs ks).size = 1 + Pn.sizeL ks := hxs
    have hall2 : ∀ q ∈ init ++ kidsP b' 0 ks, q.2.thin ∧ q.2.tiny := by
      intro q hq'
      rcases List.mem_append.1 hq' with h | h
      · exact hall q (by simp [h])
      · have := (kidsP_mem q h).1; exact ⟨t5 _ this, y2 _ this⟩
    have hsum2 : ((init ++ kidsP b' 0 ks).map fun k => k.2.size).sum = n - 1 := by
      rw [List.map_append, List.sum_append, kidsP_sum]; omega
    by_cases hk0 : ks.length = 0
    · have hks : ks = [] := List.length_eq_zero_iff.1 hk0
      subst hks
      simp only [List.length_nil, if_true] at g14 hbx
      have g15 := g14.giveback (st' := stOf [some (.box zp), some (.arr 1 ES)]) (env' := envOf (EV b3 (.osl 1 1 0 init.length) .junk .junk .junk .junk .junk .junk .junk .junk .junk .junk)) (by rw [hbx]; rfl) (by
        intro i blk h
        rcases i with _ | _ | i
        · simp [stOf] at h; subst h; exact ⟨by omega, rfl, by simp [LitBlk, zp]⟩
        · simp [stOf] at h; subst h; exact ⟨by omega, rfl, hlit⟩
        · simp [stOf] at h) (by
        intro t
        simp only [EV, envOf]
        by_cases h0 : t = 0
        · subst h0; simp
        by_cases h2 : t = 2
        · subst h2; exact .inr ⟨by simp, by simp [Stays, stOf]⟩
        by_cases h3 : t = 3
        · subst h3; exact .inr ⟨by simp, by simp [Stays, ptr]⟩
        by_cases h4 : t = 4
        · subst h4; exact .inr ⟨by simp, by simp [Stays, stOf]⟩
        simp [h0, h2, h3, h4])
      simp only [kidsP, List.append_nil] at hpm2 hall2 hsum2
      refine ⟨n - 1, by omega, init, [((b, pre.length), Pn.mk kd tb es cs [])] ++ X, H', F', hpm2, hsum2, by omega, hall2, ?_⟩
      have hES2 : rowsP (init ++ ([((b, pre.length), Pn.mk kd tb es cs [])] ++ X)) = ES := by rw [← hES, List.append_assoc]
      simp only [SLp, hES2]
      exact g15.ok' (by
        intro i h
        rcases i with _ | _ | i
        · simp
        · simp
        · simp [stOf] at h)
    · simp only [hk0, if_false] at g14 hbx
      have g15 := g14.giveback (st' := stOf [some (.box zp), none, none, some (.arr 1 (RWp init b' ks.length))]) (env' := envOf [(2, .own 0 0), (3, .i (ptr (b3, 0))), (4, .osl 3 1 0 (init.length + ks.length))]) (by rw [hbx]; rfl) (by
        intro i blk h
        rcases i with _ | _ | _ | _ | i
        · simp [stOf] at h; subst h; exact ⟨by omega, rfl, by simp [LitBlk, zp]⟩
        · simp [stOf] at h
        · simp [stOf] at h
        · simp [stOf] at h; subst h; exact ⟨by omega, rfl, by
            intro c hc
            rw [List.mem_flatten] at hc
            obtain ⟨r, hr1, hr2⟩ := hc
            unfold RWp at hr1
            rcases List.mem_append.1 hr1 with h | h
            · exact ptr_lits init c (List.mem_flatten.2 ⟨r, h, hr2⟩)
            · obtain ⟨j, _, rfl⟩ := List.mem_map.1 h
              simp at hr2; subst hr2; exact ⟨_, rfl⟩⟩
        · simp [stOf] at h) (by
        intro t
        simp only [EV, envOf]
        by_cases h2 : t = 2
        · subst h2; exact .inr ⟨by simp, by simp [Stays, stOf]⟩
        by_cases h3 : t = 3
        · subst h3; exact .inr ⟨by simp, by simp [Stays, ptr]⟩
        by_cases h4 : t = 4
        · subst h4; exact .inr ⟨by simp, by simp [Stays, stOf]⟩
        simp [h2, h3, h4])
      have g16 := g15.settle (fun w m φ ids h => RAW.keep ids h) [2, 3, 4]
      have hs : Av.settle [2, 3, 4] 0 (envOf [(2, .own 0 0), (3, .i (ptr (b3, 0))), (4, .osl 3 1 0 (init.length + ks.length))]) (stOf [some (.box zp), none, none, some (.arr 1 (RWp init b' ks.length))]) = { env := [(2, .own 0 0), (3, .i (ptr (b3, 0))), (4, .osl 1 1 0 (init.length + ks.length))], st := [some (.box zp), some (.arr 1 (RWp init b' ks.length))] } := by
        simp [zp, ptr]
      rw [hs] at g16
      refine ⟨n - 1, by omega, init ++ kidsP b' 0 ks, [], H', F', hpm2, hsum2, by omega, hall2, ?_⟩
      have hR : rowsP (init ++ kidsP b' 0 ks ++ []) = RWp init b' ks.length := by
        rw [List.append_nil]
        have := kidsP_rows b' 0 ks
        simp only [rowsP] at this
        simp only [rowsP, RWp, List.map_append, this, Nat.zero_add]
      have hl : (init ++ kidsP b' 0 ks).length = init.length + ks.length := by rw [List.length_append, kidsP_len]
      simp only [SLp, hR, hl]
      exact g16.envTo (by
        intro t
        simp only [EV, envOf]
        by_cases h0 : t = 0
        · subst h0; simp
        by_cases h2 : t = 2
        · subst h2; simp
        by_cases h3 : t = 3
        · subst h3; simp
        by_cases h4 : t = 4
        · subst h4; simp
        · simp [h0, h2, h3, h4])
theorem copiedP_calls {p:Pn} (hsz:p.size < 1000000000) (hth:p.thin) (hty:p.tiny) {wi:World} {mi:Mem} {φ:Pl} {vs:List Value} (hi:Inv wi mi φ (stOf [])) (hr:RepL mi φ [.i (.iref p.cells)] vs) (h0:∀ id,φ id≠none→id < 0) :
  Calls Tryz.prog 55 vs.toArray wi (CallPost wi mi φ (.i (.agg p.cells)) []):=by
 obtain rfl:φ=fun _=>none:=by
  funext id
  cases h:φ id with
  | none=>rfl
  | some p=>exact absurd (h0 id (by rw [h]; simp)) (Nat.not_lt_zero _)
 exact (copiedRaw_calls hsz hth hty hi hr).mono fun _ _ h=>h.tree
end Go.Proofs.YtjcjpbjpbbdnlaaGreat.G

namespace Go.Av
section
variable {wi:World} {mi:Mem} {nt:Nat}
theorem GR.seeL {ok:Nat→Prop} {R:World→Mem→Pl→Prop} {env:Nat→AV} {st:Store} {a:Act} {w:World} {u bq oq:Nat} {cs:List IV} (h:GR wi mi nt ok R env st a w) (hu:env u=.i (.lit (.pointer (some ⟨bq,oq,none⟩)))) (hc:IAt mi bq oq cs):GR wi mi nt ok R (upd env u (.i (.iref cs))) st a w:=by
 refine h.turn fun m φ h1 h2 h3 h4 h5=>⟨m,φ,h1,fun t=>?_,h3,h4,h5⟩
 by_cases ht:t=u
 ·subst ht
  have:=h2 t; rw [hu] at this
  simp only [upd,if_true]
  rw [this.lit_eq]
  exact .i (.iref (hc.mono h3.mle))
 ·simp only [upd,ht,if_false]; exact h2 t
end
theorem AtP.see {w:World} {m:Mem} {x:Pn} {b o:Nat} {F:List Nat} {path:List Int} {y:Pn} {bq oq:Nat} {Fa Fy Fz:List Nat} (h:AtP w m x b o F path y bq oq Fa Fy Fz):∃ v0 v1 v2 v3 ao cap,IAt (memOf w) bq oq [.lit v0, .lit v1, .lit v2, .lit v3, .lit (.slice ao y.kids.length cap)]∧w.cell? ⟨bq,oq + 4,none⟩=some (.slice ao y.kids.length cap):=by
 obtain ⟨v0,v1,v2,v3,v4,h5,hone,⟨ao,cap,rfl⟩,_,_⟩:=h.th.cells
 exact ⟨v0,v1,v2,v3,ao,cap, .cons h5.c0 (.lit _) (hone _ (by simp)) (.cons h5.c1 (.lit _) (hone _ (by simp)) (.cons h5.c2 (.lit _) (hone _ (by simp)) (.cons h5.c3 (.lit _) (hone _ (by simp)) (.cons h5.c4 (.lit _) (hone _ (by simp)) (.nil _ _))))),h5.c4⟩
end Go.Av
namespace Go.Proofs.YtjcjpbjpbbdnlaaGreat.G
open Go Go.Av
set_option maxRecDepth 4000
set_option maxHeartbeats 4000000
def AEV (v0:AV) (path:List Int) (v6 v13 v26:AV) (i:Nat):List (Nat×AV):=[(0,v0),(1, .i (.isl (intsL path))),(4, .i (.lit (.pointer none))),(6,v6),(9, .bool false),(10, .i (.isl (intsL path))),(11, .int path.length),(12, .int i),(13,v13),(26,v26)]
theorem envAEV (v0 v0':AV) (path:List Int) (v6 v13 v26:AV) (i:Nat):upd (envOf (AEV v0 path v6 v13 v26 i)) 0 v0'=envOf (AEV v0' path v6 v13 v26 i):=by
 funext t
 simp only [upd,AEV,envOf]
 by_cases h0:t=0
 ·subst h0; simp
 ·simp only [h0,if_false]
theorem at_calls {w:World} {m:Mem} {p y:Pn} {root:Nat} {F:List Nat} {path:List Int} (hth:TH w m p root 0 F []) (hr:root ∉ F) (hn:F.Nodup) (hy:Pn.at path p=some y) (hl:path.length≤8) {vs:List Value} (hvs:RepL (memOf w) (fun _=>none) [.i (.lit (.pointer (some ⟨root,0,none⟩))), .i (.isl (intsL path))] vs) :
  Calls Tryz.prog 53 vs.toArray w fun e w'=>∃ bq oq Fa Fy Fz m',e=.returned (.pointer (some ⟨bq,oq,none⟩))∧AtP w m p root 0 F path y bq oq Fa Fy Fz∧MemOk w' m'∧Adv w (memOf w) (fun _=>none) w' m' (fun _=>none):=by
 refine calls_of_wp (fn:=Tryz.f53) Tryz.func53 rfl ?_
 have hv1:vs.length=2:=by simpa using hvs.length.symm
 have g0:GR w (memOf w) 35 (fun id=>id < ({ env:=[(0, .i (.lit (.pointer (some ⟨root,0,none⟩)))),(1, .i (.isl (intsL path)))],st:=[] }:AS).st.length) (fun _ _ _=>True) (envOf [(0, .i (.lit (.pointer (some ⟨root,0,none⟩)))),(1, .i (.isl (intsL path)))]) (stOf []) { tmps:=vs.toArray ++ Array.replicate (35 - vs.toArray.size) undef,defers:=[] } w:=by
  refine ⟨⟨memOf w,fun _=>none,inv0 w,?_, .refl _ _ _,fun id h=>absurd rfl h,trivial⟩,by simp; omega,rfl⟩
  intro t
  have:=enter_rep (m:=memOf w) (φ:=fun _=>none) (35 - vs.toArray.size) hvs t
  rcases t with _ | _ | t
  ·simpa [envOf,argAt] using this
  ·simpa [envOf,argAt] using this
  ·simp only [envOf]; simp; exact .junk _
 refine wp_seq (wp_mono (GR.codeA sound2 (G:=GS 53) (S:={ env:=[(0, .i (.lit (.pointer (some ⟨root,0,none⟩)))),(1, .i (.isl (intsL path)))],st:=[] }) (e:=.normal) (S':={ env:=[(0, .i (.lit (.pointer (some ⟨root,0,none⟩)))),(1, .i (.isl (intsL path))),(4, .i (.lit (.pointer none))),(6, .junk),(9, .junk),(10, .junk),(11, .junk),(12, .junk),(13, .junk),(26, .junk)],st:=[] }) stTrue (by kernel_rfl) (by simp) g0) ?_)
 rintro _ a1 w1 ⟨rfl,g1⟩
 have hle:¬ (8:Int) < path.length:=by omega
 refine wp_seq (wp_mono (GR.codeA sound2 (G:=GS 53) (S:={ env:=[(0, .i (.lit (.pointer (some ⟨root,0,none⟩)))),(1, .i (.isl (intsL path))),(4, .i (.lit (.pointer none))),(6, .junk),(9, .junk),(10, .junk),(11, .junk),(12, .junk),(13, .junk),(26, .junk)],st:=[] }) (e:=.normal) (S':={ env:=[(0, .i (.lit (.pointer (some ⟨root,0,none⟩)))),(1, .i (.isl (intsL path))),(4, .i (.lit (.pointer none))),(6, .junk),(9, .bool false),(10, .junk),(11, .junk),(12, .junk),(13, .junk),(26, .junk)],st:=[] }) stTrue (by kernel_rfl) (by simp [hle]) g1) ?_)
 rintro _ a2 w2 ⟨rfl,g2⟩
 refine wp_seq (wp_seq (wp_mono (GR.codeA sound2 (G:=GS 53) (S:={ env:=[(0, .i (.lit (.pointer (some ⟨root,0,none⟩)))),(1, .i (.isl (intsL path))),(4, .i (.lit (.pointer none))),(6, .junk),(9, .bool false),(10, .junk),(11, .junk),(12, .junk),(13, .junk),(26, .junk)],st:=[] }) (e:=.normal) (S':={ env:=AEV (.i (.lit (.pointer (some ⟨root,0,none⟩)))) path .junk .junk .junk 0,st:=[] }) stTrue (by kernel_rfl) (by simp [AEV]) g2) ?_))
 rintro _ a3 w3 ⟨rfl,g3⟩
 clear g0 g1 g2
 refine wp_block ?_
 refine wp_loop_n (fun n a w'=>∃ (i:Nat) (z:Pn) (bq oq:Nat) (Fa Fy Fz:List Nat),n=path.length - i∧i≤path.length∧AtP w m p root 0 F (path.take i) z bq oq Fa Fy Fz∧GR w (memOf w) 35 (fun id=>id < 0) (fun _ _ _=>True) (envOf (AEV (.i (.lit (.pointer (some ⟨bq,oq,none⟩)))) path .junk .junk .junk i)) (stOf []) a w') ?_ (n:=path.length) ⟨0,p,root,0,[],F,[],by omega,by omega,by simpa using AtP.start hth hr hn,g3⟩
 clear g3
 rintro n a w' ⟨i,z,bq,oq,Fa,Fy,Fz,rfl,hi,hat,g⟩
 by_cases hi2:i=path.length
 ·subst hi2
  rw [List.take_length] at hat
  have hz:z=y:=by have:=hat.is; rw [hy] at this; injection this with this; exact this.symm
  subst hz
  refine wp_mono (GR.codeA sound2 (G:=GS 53) (S:={ env:=AEV (.i (.lit (.pointer (some ⟨bq,oq,none⟩)))) path .junk .junk .junk path.length,st:=[] }) (e:=.exit 0) (S':={ env:=AEV (.i (.lit (.pointer (some ⟨bq,oq,none⟩)))) path .junk (.bool false) .junk path.length,st:=[] }) stTrue (by kernel_rfl) (by simp [AEV]) g) ?_
  rintro _ a5 w5 ⟨rfl,g5⟩
  simp only [exitOf,Exit.then,Exit.inBlock,if_true]
  refine wp_mono (GR.codeA sound2 (G:=GS 53) (S:={ env:=AEV (.i (.lit (.pointer (some ⟨bq,oq,none⟩)))) path .junk (.bool false) .junk path.length,st:=[] }) (e:=.ret) (S':={ env:=[(0, .i (.lit (.pointer (some ⟨bq,oq,none⟩)))),(1, .i (.isl (intsL path))),(4, .i (.lit (.pointer (some ⟨bq,oq,none⟩)))),(6, .junk),(9, .bool false),(10, .i (.isl (intsL path))),(11, .int path.length),(12, .int path.length),(13, .bool false),(26, .junk)],st:=[] }) stTrue (by kernel_rfl) (by simp [AEV]) g5) ?_
  rintro _ a6 w6 ⟨rfl,g6⟩
  obtain ⟨⟨m2,φ2,q1,q2,q3,q4,q5⟩,q6,q7⟩:=g6
  have hφ:φ2=fun _=>none:=by
   funext id
   cases h:φ2 id with
   | none=>rfl
   | some p=>exact absurd (q4 id (by rw [h]; simp)) (Nat.not_lt_zero _)
  subst hφ
  obtain ⟨v,k1,k2⟩:=finish_sound (C:=C2) (fn:=Tryz.f53) (keep:=false) (na:=0) (S:={ env:=[(0, .i (.lit (.pointer (some ⟨bq,oq,none⟩)))),(1, .i (.isl (intsL path))),(4, .i (.lit (.pointer (some ⟨bq,oq,none⟩)))),(6, .junk),(9, .bool false),(10, .i (.isl (intsL path))),(11, .int path.length),(12, .int path.length),(13, .bool false),(26, .junk)],st:=[] }) (r:=.i (.lit (.pointer (some ⟨bq,oq,none⟩)))) (stl':=[]) (fun id h=>absurd rfl h) ⟨⟨⟨m2,fun _=>none,q1,q2,q3,q4, .nil _ _ _⟩,q6,q7⟩,Nat.zero_le _⟩ (by
   show finish C2 false [ResultVar.tmp 4] 0 _=_
   simp)
  have hv:v=.pointer (some ⟨bq,oq,none⟩):=by
   obtain ⟨_,_,_,e,r,_⟩:=k2
   injection e with e
   subst e
   exact r.lit_eq
  subst hv
  exact ⟨q7,_,k1,bq,oq,Fa,Fy,Fz,m2,rfl,hat,q1.mem,q3⟩
 ·have hi3:i < path.length:=by omega
  have q1:=List.getElem?_eq_getElem hi3
  have hsplit:path=path.take i ++ path[i] :: path.drop (i + 1):=by
   rw [← List.drop_eq_getElem_cons hi3,List.take_append_drop]
  have hr2:Pn.at (path[i] :: path.drop (i + 1)) z=some y:=by
   rw [hsplit] at hy
   rwa [at_append _ _ _ _ hat.is] at hy
  obtain ⟨x,hx,zk,hk1,hk2⟩:=Pn.at_cons hr2
  obtain ⟨b',cap,hc1,hc2,Fa',Fy',Fz',hat'⟩:=hat.step hk1
  obtain ⟨v0,v1,v2,v3,ao,cap',hsee,hsee2⟩:=hat.see
  rw [hc1] at hsee2
  injection hsee2 with hsee2
  injection hsee2 with e1 _ e3
  subst e1; subst e3
  have htk:path.take i ++ [(x:Int)]=path.take (i + 1):=by rw [← hx,List.take_add_one,q1]; rfl
  rw [htk] at hat'
  have r1:=intsL_nth q1
  rw [hx] at r1
  have hxl:x < z.kids.length:=(List.getElem?_eq_some_iff.1 hk1).1
  have g1:=g.seeL (u:=0) rfl hsee
  rw [envAEV] at g1
  have w2:IntKind.i64.wrap ((i:Int) + 1)=i + 1:=wrap64 (by omega) (by omega)
  refine wp_mono (GR.codeA sound2 (G:=GS 53) (S:={ env:=AEV (.i (.iref [.lit v0, .lit v1, .lit v2, .lit v3, .lit (.slice (some ⟨b',0,none⟩) z.kids.length cap)])) path .junk .junk .junk i,st:=[] }) (e:=.normal) (S':={ env:=AEV (.i (.lit (.pointer (some ⟨b',x * 5,none⟩)))) path (.int x) (.bool true) (.bool false) (i + 1),st:=[] }) stTrue (by kernel_rfl) (by
   have n1:¬ (x:Int) < 0:=by omega
   have n2:¬ z.kids.length≤x:=by omega
   simp [AEV,hi3,r1,hxl,w2,n1,n2]) g1) ?_
  rintro _ a5 w5 ⟨rfl,g5⟩
  simp only [exitOf,Exit.then,Exit.inBlock]
  refine ⟨path.length - (i + 1),by omega,i + 1,zk,b',5 * x,Fa',Fy',Fz',rfl,by omega,hat',?_⟩
  rw [Nat.mul_comm 5 x]
  exact g5.envTo (by
   intro t
   simp only [AEV,envOf]
   by_cases h6:t=6
   ·subst h6; simp
   by_cases h13:t=13
   ·subst h13; simp
   by_cases h26:t=26
   ·subst h26; simp
   simp [h6,h13,h26])
end Go.Proofs.YtjcjpbjpbbdnlaaGreat.G

namespace Go.Proofs.YtjcjpbjpbbdnlaaGreat
open Go Go.Av
set_option maxHeartbeats 4000000
set_option maxRecDepth 4000
theorem xor64 {S:Int} (h0:0≤S) (h1:S < 4611686018427387904):0≤IntKind.i64.wrap ((((S % 2 ^ IntKind.i64.bits).toNat ^^^ (IntKind.i64.wrap (S.tdiv 64) % 2 ^ IntKind.i64.bits).toNat:Nat)):Int):=by
 have e1:0≤S.tdiv 64:=Int.tdiv_nonneg h0 (by omega)
 have e2:S.tdiv 64≤S:=Int.tdiv_le_self _ h0
 have e3:IntKind.i64.wrap (S.tdiv 64)=S.tdiv 64:=wrap64 (by omega) (by omega)
 have e4:∀ T:Int,0≤T→T < 4611686018427387904→(T % 2 ^ IntKind.i64.bits).toNat < 2 ^ 62:=fun T k1 k2=>by
  have:T % 2 ^ IntKind.i64.bits=T:=Int.emod_eq_of_lt k1 (by simp [IntKind.bits]; omega)
  rw [this]; omega
 rw [e3]
 have:=Nat.xor_lt_two_pow (e4 S h0 h1) (e4 (S.tdiv 64) e1 (by omega))
 rw [wrap64 (by omega) (by omega)]
 omega
theorem pick_eq (l:List UInt8) (p n:Int) (h0:0≤p) (h1:p < 1000000000) (hl:l.length≤2000):∃ v,callA C0 76 [.own 0 0, .int n] [Rd l p]=some (.int v,[Rd l (p + 1)])∧(1≤n→0≤v∧v < n)∧(n < 1→v=0):=by
 have hw:IntKind.i64.wrap (p + 1)=p + 1:=wrap64 (by omega) (by omega)
 have hw':IntKind.i64.wrap p=p:=wrap64 (by omega) (by omega)
 by_cases hn:n < 1
 ·refine ⟨0,?_,by omega,fun _=>rfl⟩
  rw [callA_eq rfl Tryz.func76 rfl rfl]
  simp [Rd,hw,hn]
 by_cases he:l=[]
 ·refine ⟨0,?_,by omega,fun _=>rfl⟩
  rw [callA_eq rfl Tryz.func76 rfl rfl]
  subst he
  simp [Rd,hw,hn]
 have hlen:0 < l.length:=List.length_pos_iff.2 he
 have hn0:n≠0:=by omega
 have hn1:(n != 0)=true:=by simp [hn0]
 by_cases hk:p < l.length
 ·obtain ⟨x,hx1,hx2⟩:=bytesI_get (l:=l) (j:=p.toNat) (by omega)
  have hwx:IntKind.i64.wrap (x:Int)=x:=wrap64 (by omega) (by omega)
  refine ⟨(x:Int).tmod n,?_,fun _=>⟨Int.tmod_nonneg _ (by omega),Int.tmod_lt_of_pos _ (by omega)⟩,by omega⟩
  rw [callA_eq rfl Tryz.func76 rfl rfl]
  simp [Rd,hw,hw',hn,hk,he,h0,bytesI_length,hx2,hn1,hwx]
 ·obtain ⟨x,hx1,hx2⟩:=bytesI_get (l:=l) (j:=(p.tmod l.length).toNat) (by have:=Int.tmod_lt_of_pos p (b:=l.length) (by omega); omega)
  obtain ⟨y,hy1,hy2⟩:=bytesI_get (l:=l) (j:=((p * 7 + 3).tmod l.length).toNat) (by have:=Int.tmod_lt_of_pos (p * 7 + 3) (b:=l.length) (by omega); omega)
  have a1:0≤p.tmod l.length:=Int.tmod_nonneg _ h0
  have a2:p.tmod l.length < l.length:=Int.tmod_lt_of_pos _ (by omega)
  have a3:0≤(p * 7 + 3).tmod l.length:=Int.tmod_nonneg _ (by omega)
  have a4:(p * 7 + 3).tmod l.length < l.length:=Int.tmod_lt_of_pos _ (by omega)
  have w7:IntKind.i64.wrap (p * 7)=p * 7:=wrap64 (by omega) (by omega)
  have w8:IntKind.i64.wrap (p * 7 + 3)=p * 7 + 3:=wrap64 (by omega) (by omega)
  have hwx:IntKind.i64.wrap (x:Int)=x:=wrap64 (by omega) (by omega)
  have hwy:IntKind.i64.wrap (y:Int)=y:=wrap64 (by omega) (by omega)
  have hl1:((l.length:Int) != 0)=true:=by simp [he]
  rw [callA_eq rfl Tryz.func76 rfl rfl]
  have d1:0≤p.tdiv l.length:=Int.tdiv_nonneg h0 (by omega)
  have d2:p.tdiv l.length≤p:=Int.tdiv_le_self _ h0
  have w1:IntKind.i64.wrap ((x:Int) * 131)=x * 131:=wrap64 (by omega) (by omega)
  have w2:IntKind.i64.wrap ((y:Int) * 1117)=y * 1117:=wrap64 (by omega) (by omega)
  have w3:IntKind.i64.wrap (p * 29)=p * 29:=wrap64 (by omega) (by omega)
  have w4:IntKind.i64.wrap (p.tdiv l.length)=p.tdiv l.length:=wrap64 (by omega) (by omega)
  have w5:IntKind.i64.wrap (p.tdiv l.length * 53)=p.tdiv l.length * 53:=wrap64 (by omega) (by omega)
  have w6:IntKind.i64.wrap ((x:Int) * 131 + y * 1117)=x * 131 + y * 1117:=wrap64 (by omega) (by omega)
  have w9:IntKind.i64.wrap ((x:Int) * 131 + y * 1117 + p * 29)=x * 131 + y * 1117 + p * 29:=wrap64 (by omega) (by omega)
  have wA:IntKind.i64.wrap ((x:Int) * 131 + y * 1117 + p * 29 + p.tdiv l.length * 53)=x * 131 + y * 1117 + p * 29 + p.tdiv l.length * 53:=wrap64 (by omega) (by omega)
  simp [Rd,hw,hw',hn,hk,he,bytesI_length,hx2,hy2,hn1,hwx,hwy,w7,w8,hl1,a1,a2,a3,a4,w1,w2,w3,w4,w5,w6,w9,wA]
  intro hn2
  have hx:=xor64 (S:=x * 131 + y * 1117 + p * 29 + p.tdiv l.length * 53) (by omega) (by omega)
  exact ⟨Int.tmod_nonneg _ hx,Int.tmod_lt_of_pos _ (by omega)⟩
end Go.Proofs.YtjcjpbjpbbdnlaaGreat

namespace Go.Proofs.YtjcjpbjpbbdnlaaGreat
open Go Go.Av
set_option maxRecDepth 4000
theorem kidsCases (n:Int):n=1∨n=2∨n=3∨n=4∨n=5∨n=6∨n=7∨n=8∨n=9∨n=10∨n=11∨(n≠1∧n≠2∧n≠3∧n≠4∧n≠5∧n≠6∧n≠7∧n≠8∧n≠9∧n≠10∧n≠11):=by omega
@[simp] theorem kidsOfKind_eq (n : Int) : callA C0 176 [.int n] [] = some (.int (kidsK n), []) := by
  rw [callA_eq rfl Tryz.func176 rfl rfl]
  rcases kidsCases n with rfl | rfl | rfl | rfl | rfl | rfl | rfl | rfl | rfl | rfl | rfl | ⟨h1, h2, h3, h4, h5, h6, h7, h8, h9, h10, h11⟩
  all_goals first
    | (simp [kidsK]; done)
    | (have e : kidsK n = -1 := by
        unfold kidsK
        rw [if_neg (by omega), if_neg (by omega), if_neg (by omega)]
       simp [e, h1, h2, h3, h4, h5, h6, h7, h8, h9, h10, h11])
@[simp] theorem kidsOf_eq (n : Int) : callA C0 169 [.int n] [] = some (.int (kidsK n), []) := by
  rw [callA_eq rfl Tryz.func169 rfl rfl]
  rcases kidsCases n with rfl | rfl | rfl | rfl | rfl | rfl | rfl | rfl | rfl | rfl | rfl | ⟨h1, h2, h3, h4, h5, h6, h7, h8, h9, h10, h11⟩
  all_goals first
    | (simp [kidsK]; done)
    | (have e : kidsK n = -1 := by
        unfold kidsK
        rw [if_neg (by omega), if_neg (by omega), if_neg (by omega)]
       simp [e, h1, h2, h3, h4, h5, h6, h7, h8, h9, h10, h11])
@[simp] theorem validWidth_eq (n:Int):callA C0 108 [.int n] []=some (.bool (okWidth n),[]):=by
 rw [callA_eq rfl Tryz.func108 rfl rfl]
 by_cases h1:1≤n<;>by_cases h2:n≤6<;>simp [okWidth,h1,h2]
@[simp] theorem inRange_eq (n a b:Int):callA C0 136 [.int n, .int a, .int b] []=some (.bool (decide (a≤n∧n≤b)),[]):=by
 rw [callA_eq rfl Tryz.func136 rfl rfl]
 by_cases h1:a≤n<;>by_cases h2:n≤b<;>simp [h1,h2]
@[simp] theorem valid_eq (b:Bool) (n:Int):callA C0 177 [.i (.agg [.bool b, .int n])] []=some (.bool (Val.ok ⟨b,n⟩),[]):=by
 rw [callA_eq rfl Tryz.func177 rfl rfl]
 cases b
 ·by_cases h1:-9999≤n<;>by_cases h2:n≤9999<;>simp [Val.ok,h1,h2]
 ·by_cases h1:n=0<;>simp [Val.ok,h1]
@[simp] theorem validValue_eq (b:Bool) (n:Int):callA C0 172 [.i (.agg [.bool b, .int n])] []=some (.bool (Val.ok ⟨b,n⟩),[]):=by
 rw [callA_eq rfl Tryz.func172 rfl rfl]
 cases b
 ·by_cases h1:-9999≤n<;>by_cases h2:n≤9999<;>simp [Val.ok,h1,h2]
 ·by_cases h1:n=0
  ·subst h1; simp [Val.ok]
  ·by_cases h2:-9999≤n<;>by_cases h3:n≤9999<;>simp [Val.ok,h1,h2,h3]
@[simp] theorem constant_eq (v:Val):callA C0 167 [.i (.agg [.bool v.null, .int v.n])] []=some (.i (.agg (Ex.mk 2 0 v []).cells),[]):=by
 rw [callA_eq rfl Tryz.func167 rfl rfl]
 simp [Ex.cells,Ex.cellsL]
end Go.Proofs.YtjcjpbjpbbdnlaaGreat

namespace Go.Proofs.YtjcjpbjpbbdnlaaGreat
open Go Go.Av
set_option maxRecDepth 4000
theorem vb_len {e:Ex} {w:Int} (n:Nat) (hk:¬ (e.kids.length:Int)=kidsK e.kind):callA C0 165 [.i (.iref e.cells), .int w, .int n] []=some (.bool false,[]):=by
 rw [callA_eq rfl Tryz.func165 rfl rfl,Ex.cells_eq]
 simp [Ex.cellsL_length,hk]
theorem vb_deep {e:Ex} {w:Int} (hk:(e.kids.length:Int)=kidsK e.kind) (hz:0 < kidsK e.kind):callA C0 165 [.i (.iref e.cells), .int w, .int 0] []=some (.bool false,[]):=by
 rw [callA_eq rfl Tryz.func165 rfl rfl,Ex.cells_eq]
 simp [Ex.cellsL_length,hk,hz]
theorem vb_head {e:Ex} {w:Int} (n:Nat) (hk:(e.kids.length:Int)=kidsK e.kind) (hz:0 < kidsK e.kind→n≠0) (hh:e.headOk w=false) :
  callA C0 165 [.i (.iref e.cells), .int w, .int n] []=some (.bool false,[]):=by
 rw [callA_eq rfl Tryz.func165 rfl rfl,Ex.cells_eq]
 unfold Ex.headOk at hh
 by_cases h1:e.kind=1
 ·rw [h1] at hz hk; simp [h1,kidsK] at hh hk
  by_cases h2:0≤e.col
  ·by_cases h3:e.col < w
   ·cases h4:e.val.null with
    | true=>simp [Ex.cellsL_length,hk,h1,Int.not_lt.2 h2,Int.not_le.2 h3,h4,kidsK]
    | false=>simp [Ex.cellsL_length,hk,h1,Int.not_lt.2 h2,Int.not_le.2 h3,h4,hh h2 h3 h4,kidsK]
   ·simp [Ex.cellsL_length,hk,h1,Int.not_lt.2 h2,Int.not_lt.1 h3,kidsK]
  ·simp [Ex.cellsL_length,hk,h1,Int.not_le.1 h2,kidsK]
 ·by_cases h2:e.kind=2
  ·rw [h2] at hz hk; simp [h2,kidsK] at hh hk
   by_cases h3:e.col=0
   ·have h4:Val.ok ⟨e.val.null,e.val.n⟩=false:=hh h3
    simp [Ex.cellsL_length,hk,h2,h3,h4,kidsK]
   ·simp [Ex.cellsL_length,hk,h2,h3,kidsK]
  ·simp [h1,h2] at hh
   by_cases h0:0 < kidsK e.kind
   ·have hn:=hz h0
    by_cases h3:e.col=0
    ·cases h4:e.val.null with
     | true=>simp [Ex.cellsL_length,hk,h1,h2,h3,h4,h0,hn,hz h0]
     | false=>simp [Ex.cellsL_length,hk,h1,h2,h3,h4,hh h3 h4,h0,hn,hz h0]
    ·simp [Ex.cellsL_length,hk,h1,h2,h3,h0,hn,hz h0]
   ·by_cases h3:e.col=0
    ·cases h4:e.val.null with
     | true=>simp [Ex.cellsL_length,hk,h1,h2,h3,h4,h0]
     | false=>simp [Ex.cellsL_length,hk,h1,h2,h3,h4,hh h3 h4,h0]
    ·simp [Ex.cellsL_length,hk,h1,h2,h3,h0]
def VX (e:Ex) (w n:Int) (i:Nat):AS :=
 {env:=[(0, .i (.iref [.int e.kind, .int 0, .bool false, .int 0, .isl (Ex.cellsL e.kids)])),(1, .int w),(2, .int n),(6, .bool false),(7, .int (kidsK e.kind)),(8,jk i (.int (i - 1))),(28, .bool (n == 0)),(62, .bool false),(90, .bool false),(95, .int (kidsK e.kind)),(96, .int i),(97,jk i (.bool true)),(109,jk i (.bool false))],st:=[] }
theorem vb_go {e : Ex} {w : Int} (n : Nat) (hn : n ≤ 8) (hk : (e.kids.length : Int) = kidsK e.kind) (hz : 0 < kidsK e.kind → n ≠ 0) (hh : e.headOk w = true) (ih : ∀ k ∈ e.kids, 0 < kidsK e.kind → callA C0 165 [.i (.iref k.cells), .int w, .int ((n : Int) - 1)] [] = some (.bool (Ex.vB w (n - 1) k), [])) :
    callA C0 165 [.i (.iref e.cells), .int w, .int n] [] = some (.bool (e.kids.all (Ex.vB w (n - 1))), []) := by
  rw [callA_eq rfl Tryz.func165 rfl rfl, Ex.cells_eq]
  rcases Ex.head_cases w e with h | ⟨-, ⟨hA, hB, hC, hD, hE, hF⟩ | ⟨hA, hB, hC, hD, hE, hF⟩ | ⟨hA, hB, hC, hD, hE, hF⟩⟩
  · simp [h] at hh
  · have h2 : e.kids = [] := by rw [hF] at hk; simpa using hk
    simp [h2, Ex.cellsL, hA, hD, hE, Int.not_lt.2 hB, Int.not_le.2 hC, kidsK]
    rw [execA_loop]
    simp
  · have h2 : e.kids = [] := by rw [hF] at hk; simpa using hk
    simp [h2, Ex.cellsL, hA, hB, hC, kidsK]
    rw [execA_loop]
    simp
  · by_cases h0 : 0 < kidsK e.kind
    · have hn := hz h0
      simp [Ex.cellsL_length, hk, hA, hB, hC, hD, hE, h0, hn, hz h0]
      obtain ⟨j, h1, h2⟩ := upto_bad (Ex.vB w (n - 1)) e.kids
      have w1 : IntKind.i64.wrap ((n : Int) - 1) = n - 1 := wrap64 (by omega) (by omega)
      have rd : ∀ (i : Nat) (k : Ex), e.kids[i]? = some k → k ∈ e.kids → i < e.kids.length ∧ nthE (Ex.cellsL e.kids) i = some k.cells ∧ callA C0 165 [.i (.iref k.cells), .int w, .int ((n : Int) - 1)] [] = some (.bool (Ex.vB w (n - 1) k), []) :=
        fun i k a b => ⟨(List.getElem?_eq_some_iff.1 a).1, Ex.cellsL_nth a, ih k b h0⟩
      have hlen : e.kids.length ≤ 2 := by have : kidsK e.kind ≤ 2 := by
                                            unfold kidsK; split; · omega
                                            split; · omega
                                            split <;> omega
                                          omega
      rw [loop_to (VX e w n) j (by simp [VX])]
      · rw [execA_loop]
        rcases h2 with ⟨hj, ha⟩ | ⟨k, h3, h4, h5, ha⟩
        · have l1 : ¬ ((j : Int) < kidsK e.kind) := by omega
          simp [VX, l1, ha]
        · obtain ⟨r1, r2, r3⟩ := rd j k h3 h4
          have l1 : (j : Int) < kidsK e.kind := by omega
          rw [Ex.cells_eq] at r2 r3
          simp [VX, l1, r1, ha, r2, r3, w1, h5]
      · intro i hi
        obtain ⟨k, h3, h4, h5⟩ := h1 i hi
        obtain ⟨r1, r2, r3⟩ := rd i k h3 h4
        have l1 : (i : Int) < kidsK e.kind := by omega
        have w2 : IntKind.i64.wrap ((i : Int) + 1) = i + 1 := wrap64 (by omega) (by omega)
        rw [Ex.cells_eq] at r2 r3
        simp [VX, l1, r1, r2, r3, w1, w2, h5]
    · have h2 : e.kids = [] := by cases h : e.kids with
        | nil => rfl
        | cons a l => rw [h] at hk; simp at hk; omega
      rw [h2] at hk
      simp at hk
      simp [h2, Ex.cellsL, hA, hB, hC, hD, hE, ← hk]
      rw [execA_loop]
      simp
@[simp] theorem validBelow_eq {w : Int} : ∀ (n : Nat) (e : Ex), n ≤ 8 → callA C0 165 [.i (.iref e.cells), .int w, .int n] [] = some (.bool (Ex.vB w n e), [])
  | 0, e, hn => by
    by_cases hk : (e.kids.length : Int) = kidsK e.kind
    · by_cases hz : 0 < kidsK e.kind
      · rw [show ((0 : Nat) : Int) = 0 from rfl, vb_deep hk hz]
        simp [Ex.vB, Int.not_le.2 hz]
      · cases hh : e.headOk w with
        | false => rw [vb_head 0 hk (fun h => absurd h hz) hh]; simp [Ex.vB, hh]
        | true =>
          rw [vb_go 0 hn hk (fun h => absurd h hz) hh (fun k _ h => absurd h hz)]
          have : e.kids = [] := by cases h : e.kids with
            | nil => rfl
            | cons a l => rw [h] at hk; simp at hk; omega
          have h3 : kidsK e.kind = 0 := by rw [this] at hk; simpa using hk.symm
          simp [Ex.vB, hh, h3, this]
    · rw [vb_len 0 hk]; simp [Ex.vB, hk]
  | n + 1, e, hn => by
    by_cases hk : (e.kids.length : Int) = kidsK e.kind
    · cases hh : e.headOk w with
      | false => rw [vb_head (n + 1) hk (fun _ => by omega) hh]; simp [Ex.vB, hh]
      | true =>
        rw [vb_go (n + 1) hn hk (fun _ => by omega) hh (fun k _ _ => by
          have := validBelow_eq (w := w) n k (by omega)
          rw [show (((n + 1 : Nat) : Int) - 1) = (n : Int) by omega]
          exact this)]
        simp [Ex.vB, hh, hk]
    · rw [vb_len (n + 1) hk]; simp [Ex.vB, hk]
end Go.Proofs.YtjcjpbjpbbdnlaaGreat

namespace Go.Proofs.YtjcjpbjpbbdnlaaGreat
open Go Go.Av
set_option maxRecDepth 4000
theorem ve_len {e:Ex} {w:Int} (n:Nat) (hk:¬ (e.kids.length:Int)=kidsK e.kind):callA C0 161 [.i (.agg e.cells), .int w, .int n] []=some (.bool false,[]):=by
 rw [callA_eq rfl Tryz.func161 rfl rfl,Ex.cells_eq]
 simp [hk]
theorem ve_deep {e:Ex} {w:Int} (hk:(e.kids.length:Int)=kidsK e.kind) (hz:0 < kidsK e.kind):callA C0 161 [.i (.agg e.cells), .int w, .int 0] []=some (.bool false,[]):=by
 rw [callA_eq rfl Tryz.func161 rfl rfl,Ex.cells_eq]
 simp [hk,hz]
def EX (e:Ex) (w n:Int) (v:AV) (i:Nat):AS :=
 {env:=[(0, .i (.agg [.int e.kind, .int e.col, .bool e.val.null, .int e.val.n, .isl (Ex.cellsL e.kids)])),(1, .int w),(2, .int n),(3, .own 0 0),(6, .bool false),(7, .int i),(24,v),(29,jk i (.bool true)),(41,jk i (.bool false)),(43, .junk),(44, .junk),(57, .junk)],
  st:=[some (.box [.int e.kind, .int e.col, .bool e.val.null, .int e.val.n, .i (.isl (Ex.cellsL e.kids))])] }
theorem ve_go {e : Ex} {w : Int} (n : Nat) (hn : n ≤ 8) (hk : (e.kids.length : Int) = kidsK e.kind) (hz : 0 < kidsK e.kind → n ≠ 0)  (hw : 1 ≤ w ∧ w ≤ 6)
  (ih : ∀ k ∈ e.kids, 0 < kidsK e.kind → callA C0 161 [.i (.agg k.cells), .int w, .int ((n : Int) - 1)] [] = some (.bool (Ex.vB w (n - 1) k), [])) :
    callA C0 161 [.i (.agg e.cells), .int w, .int n] [] = some (.bool (e.kids.all (Ex.vB w (n - 1)) && e.headOk w), []) := by
  rw [callA_eq rfl Tryz.func161 rfl rfl, Ex.cells_eq]
  have w0 : IntKind.i64.wrap (w - 1) = w - 1 := wrap64 (by omega) (by omega)
  by_cases h0 : 0 < kidsK e.kind
  · have hn := hz h0
    simp [hk, h0, hn]
    obtain ⟨j, h1, h2⟩ := upto_bad (Ex.vB w (n - 1)) e.kids
    have w1 : IntKind.i64.wrap ((n : Int) - 1) = n - 1 := wrap64 (by omega) (by omega)
    have rd : ∀ (i : Nat) (k : Ex), e.kids[i]? = some k → k ∈ e.kids → i < e.kids.length ∧ nthE (Ex.cellsL e.kids) i = some k.cells ∧ callA C0 161 [.i (.agg k.cells), .int w, .int ((n : Int) - 1)] [] = some (.bool (Ex.vB w (n - 1) k), []) :=
      fun i k a b => ⟨(List.getElem?_eq_some_iff.1 a).1, Ex.cellsL_nth a, ih k b h0⟩
    have hlen : e.kids.length ≤ 2 := by have : kidsK e.kind ≤ 2 := by
                                          unfold kidsK; split; · omega
                                          split; · omega
                                          split <;> omega
                                        omega
    have hk1 : e.kind ≠ 1 := fun h => by rw [h] at h0; simp [kidsK] at h0
    have hk2 : e.kind ≠ 2 := fun h => by rw [h] at h0; simp [kidsK] at h0
    rw [loop_to (EX e w n (.bool ((n : Int) == 0)) ) j (by simp [EX])]
    · rw [execA_loop]
      rcases h2 with ⟨hj, ha⟩ | ⟨k, h3, h4, h5, ha⟩
      · have l1 : ¬ ((j : Int) < kidsK e.kind) := by omega
        by_cases h6 : e.col = 0
        · cases h7 : e.val.null with
          | true => simp [EX, l1, hk, ha, Ex.headOk, hk1, hk2, h6, h7]
          | false => simp [EX, l1, hk, ha, Ex.headOk, hk1, hk2, h6, h7]
        · simp [EX, l1, hk, ha, Ex.headOk, hk1, hk2, h6]
      · obtain ⟨r1, r2, r3⟩ := rd j k h3 h4
        have l1 : (j : Int) < kidsK e.kind := by omega
        rw [Ex.cells_eq] at r2 r3
        simp [EX, l1, r1, hk, ha, r2, r3, w1, h5]
    · intro i hi
      obtain ⟨k, h3, h4, h5⟩ := h1 i hi
      obtain ⟨r1, r2, r3⟩ := rd i k h3 h4
      have l1 : (i : Int) < kidsK e.kind := by omega
      have w2 : IntKind.i64.wrap ((i : Int) + 1) = i + 1 := wrap64 (by omega) (by omega)
      rw [Ex.cells_eq] at r2 r3
      simp [EX, l1, r1, hk, r2, r3, w1, w2, h5]
  · have h2 : e.kids = [] := by cases h : e.kids with
      | nil => rfl
      | cons a l => rw [h] at hk; simp at hk; omega
    rw [h2] at hk
    simp at hk
    simp [h2, Ex.cellsL, ← hk]
    rw [execA_loop]
    by_cases h1 : e.kind = 1
    · by_cases h4 : 0 ≤ e.col
      · by_cases h5 : e.col < w
        · cases h7 : e.val.null with
          | true => simp [h1, w0, Ex.headOk, h4, h5, h7, show e.col ≤ w - 1 by omega]
          | false => simp [h1, w0, Ex.headOk, h4, h5, h7, show e.col ≤ w - 1 by omega]
        · simp [h1, w0, Ex.headOk, h4, h5, show ¬ e.col ≤ w - 1 by omega]
      · simp [h1, w0, Ex.headOk, h4]
    · by_cases h3 : e.kind = 2
      · by_cases h4 : e.col = 0
        · simp [h3, Ex.headOk, h4]
        · simp [h3, Ex.headOk, h4]
      · by_cases h4 : e.col = 0
        · cases h7 : e.val.null with
          | true => simp [h1, h3, Ex.headOk, h4, h7]
          | false => simp [h1, h3, Ex.headOk, h4, h7]
        · simp [h1, h3, Ex.headOk, h4]
theorem validExpr_eq {w : Int} (hw : 1 ≤ w ∧ w ≤ 6) : ∀ (n : Nat) (e : Ex), n ≤ 8 → callA C0 161 [.i (.agg e.cells), .int w, .int n] [] = some (.bool (Ex.vB w n e), [])
  | 0, e, hn => by
    by_cases hk : (e.kids.length : Int) = kidsK e.kind
    · by_cases hz : 0 < kidsK e.kind
      · rw [show ((0 : Nat) : Int) = 0 from rfl, ve_deep hk hz]
        simp [Ex.vB, Int.not_le.2 hz]
      · rw [ve_go 0 hn hk (fun h => absurd h hz) hw (fun k _ h => absurd h hz)]
        have : e.kids = [] := by cases h : e.kids with
          | nil => rfl
          | cons a l => rw [h] at hk; simp at hk; omega
        have h3 : kidsK e.kind = 0 := by rw [this] at hk; simpa using hk.symm
        simp [Ex.vB, h3, this]
    · rw [ve_len 0 hk]; simp [Ex.vB, hk]
  | n + 1, e, hn => by
    by_cases hk : (e.kids.length : Int) = kidsK e.kind
    · rw [ve_go (n + 1) hn hk (fun _ => by omega) hw (fun k _ _ => by
          have := validExpr_eq (w := w) hw n k (by omega)
          rw [show (((n + 1 : Nat) : Int) - 1) = (n : Int) by omega]
          exact this)]
      simp [Ex.vB, hk, Bool.and_comm]
    · rw [ve_len (n + 1) hk]; simp [Ex.vB, hk]
end Go.Proofs.YtjcjpbjpbbdnlaaGreat

namespace Go.Proofs.YtjcjpbjpbbdnlaaGreat
open Go Go.Av
set_option maxRecDepth 4000
theorem ok_eq (w:Int) (e:Ex):callA C0 145 [.i (.agg e.cells), .int w] []=some (.bool (e.ok w),[]):=by
 rw [callA_eq rfl Tryz.func145 rfl rfl]
 have h:=validBelow_eq (w:=w) 8 e (by omega)
 rw [Ex.cells_eq] at h ⊢
 have e8:((8:Nat):Int)=8:=rfl
 rw [e8] at h
 cases hw:okWidth w with
 | false=>simp [hw,Ex.ok]
 | true=>simp [hw,Ex.ok,h]
theorem sok_eq (w:Int) (e:Ex):callA C0 138 [.i (.agg e.cells), .int w] []=some (.bool (e.ok w),[]):=by
 rw [callA_eq rfl Tryz.func138 rfl rfl]
 by_cases hw:1≤w∧w≤6
 ·have h:=validExpr_eq hw 8 e (by omega)
  rw [Ex.cells_eq] at h ⊢
  have e8:((8:Nat):Int)=8:=rfl
  rw [e8] at h
  simp [hw,Ex.ok,okWidth,h]
 ·rw [Ex.cells_eq]
  simp [hw,Ex.ok,okWidth]
end Go.Proofs.YtjcjpbjpbbdnlaaGreat

namespace Go.Proofs.YtjcjpbjpbbdnlaaGreat
open Go Go.Av
set_option maxRecDepth 4000
theorem eqE_step {a b:Ex} (ih:callA C0 58 [.i (.isl (Ex.cellsL a.kids)), .i (.isl (Ex.cellsL b.kids))] []=some (.bool (Ex.eqbL a.kids b.kids),[])) :
  callA C0 107 [.i (.agg a.cells), .i (.agg b.cells)] []=some (.bool (a.eqb b),[]):=by
 rw [callA_eq rfl Tryz.func107 rfl rfl,Ex.cells_eq,Ex.cells_eq,Ex.eqb_def]
 by_cases h1:a.kind=b.kind
 ·by_cases h2:a.col=b.col
  ·cases h3:(a.val.null == b.val.null && a.val.n == b.val.n) with
   | true=>simp [h1,h2,h3,ih]
   | false=>simp [h1,h2,h3]
  ·simp [h1,h2]
 ·simp [h1]
def LX (l m:List Ex) (i:Nat):AS :=
 {env:=[(0, .i (.isl (Ex.cellsL l))),(1, .i (.isl (Ex.cellsL m))),(4, .bool false),(5, .int i),(10, .bool false),(14,jk i (.bool true)),(26,jk i (.bool false))],st:=[] }
theorem eqL_step {l m:List Ex} (hl:l.length < 1000000000) (ih:∀ a∈l,∀ b,callA C0 107 [.i (.agg a.cells), .i (.agg b.cells)] []=some (.bool (a.eqb b),[])) :
  callA C0 58 [.i (.isl (Ex.cellsL l)), .i (.isl (Ex.cellsL m))] []=some (.bool (Ex.eqbL l m),[]):=by
 rw [callA_eq rfl Tryz.func58 rfl rfl]
 by_cases hlm:l.length=m.length
 ·simp [hlm]
  obtain ⟨j,h1,h2⟩:=Ex.eqbL_upto l m hlm
  rw [loop_to (LX l m) j (by simp [LX])]
  ·rw [execA_loop]
   rcases h2 with ⟨hj,ha⟩ | ⟨a,b,k1,k2,k3,k4,ha⟩
   ·simp [LX,hj,hlm,ha]
   ·have r1:=(List.getElem?_eq_some_iff.1 k1).1
    have r2:=(List.getElem?_eq_some_iff.1 k2).1
    have s1:=Ex.cellsL_nth k1
    have s2:=Ex.cellsL_nth k2
    have hc:=ih a k3 b
    rw [Ex.cells_eq] at s1 s2
    rw [Ex.cells_eq,Ex.cells_eq] at hc
    simp [LX,r1,r2,s1,s2,ha,hc,k4]
  ·intro i hi
   obtain ⟨a,b,k1,k2,k3,k4⟩:=h1 i hi
   have r1:=(List.getElem?_eq_some_iff.1 k1).1
   have r2:=(List.getElem?_eq_some_iff.1 k2).1
   have s1:=Ex.cellsL_nth k1
   have s2:=Ex.cellsL_nth k2
   have hc:=ih a k3 b
   have w2:IntKind.i64.wrap ((i:Int) + 1)=i + 1:=wrap64 (by omega) (by omega)
   rw [Ex.cells_eq] at s1 s2
   rw [Ex.cells_eq,Ex.cells_eq] at hc
   simp [LX,r1,r2,s1,s2,hc,k4,w2]
 ·simp [show ¬ (l.length:Int)=m.length by omega,Ex.eqbL_len l m hlm]
theorem equalExprs_eq : ∀ (a : Ex), a.thin → ∀ b : Ex, callA C0 107 [.i (.agg a.cells), .i (.agg b.cells)] [] = some (.bool (a.eqb b), []) := by
  intro a
  induction a using Ex.ind with
  | h k c v ks ih =>
    intro ht b
    have ht' := (Ex.thin_iff _).1 ht
    exact eqE_step (eqL_step ht'.1 fun a ha b => ih a ha (ht'.2 a ha) b)
end Go.Proofs.YtjcjpbjpbbdnlaaGreat

namespace Go.Proofs.YtjcjpbjpbbdnlaaGreat
open Go Go.Av
set_option maxRecDepth 4000
theorem wrap_1:IntKind.i64.wrap 1=1:=wrap64 (by omega) (by omega)
def CX (e:Ex) (i:Nat):AS :=
 {env:=[(0, .i (.agg [.int e.kind, .int e.col, .bool e.val.null, .int e.val.n, .isl (Ex.cellsL e.kids)])),(1, .own 0 0),(2, .own 1 0),(3, .own 2 0),(4, .int i),(16,jk i (.bool true))],
  st:=some (.box [.int e.kind, .int e.col, .bool e.val.null, .int e.val.n, .i (.isl (Ex.cellsL e.kids))]) :: some (.box [.int 0, .int 0, .bool false, .int 0, .nils]) ::
   some (.box [.int e.kind, .int e.col, .bool e.val.null, .int e.val.n,gro 3 5 i]) :: groB 5 (Ex.cellsL (e.kids.take i)) i }
theorem cp_step {e : Ex} (hl : e.kids.length < 1000000000) (ih : ∀ a ∈ e.kids, callA C0 113 [.i (.agg a.cells)] [] = some (.i (.agg a.cells), [])) :
    callA C0 113 [.i (.agg e.cells)] [] = some (.i (.agg e.cells), []) := by
  rw [callA_eq rfl Tryz.func113 rfl rfl, Ex.cells_eq]
  simp
  rw [loop_to (CX e) e.kids.length (by simp [CX])]
  · rw [execA_loop]
    cases hn : e.kids.length with
    | zero =>
      have : e.kids = [] := List.length_eq_zero_iff.1 hn
      simp [CX, this, Ex.cellsL]
    | succ n =>
      have : e.kids.take (n + 1) = e.kids := List.take_of_length_le (by omega)
      simp [CX, hn, this]
  · intro i hi
    have h3 := List.getElem?_eq_getElem hi
    have hc := ih _ (List.mem_of_getElem? h3)
    have r2 := Ex.cellsL_nth h3
    generalize e.kids[i] = a at h3 hc r2
    have w2 : IntKind.i64.wrap ((i : Int) + 1) = i + 1 := wrap64 (by omega) (by omega)
    by_cases h0 : i = 0
    · subst h0; simp [CX, hi, r2, hc, wrap_1, take_snoc h3, Ex.cellsL]
    · simp [CX, gro_pos h0, groB_pos h0, jk_pos h0, hi, r2, hc, w2, take_snoc h3, Ex.cellsL_snoc, show min i e.kids.length = i by omega, show (i + 1) * 56 ≤ 140737488355328 by omega, List.take_take]
theorem copyExpr_eq : ∀ (e : Ex), e.thin → callA C0 113 [.i (.agg e.cells)] [] = some (.i (.agg e.cells), []) := by
  intro e
  induction e using Ex.ind with
  | h k c v ks ih =>
    intro ht
    have ht' := (Ex.thin_iff _).1 ht
    exact cp_step ht'.1 fun a ha => ih a ha (ht'.2 a ha)
def SX (e:Ex) (l:List Ex) (f:Ex→Ex) (i:Nat):AS :=
 {env:=[(0, .i (.agg [.int e.kind, .int e.col, .bool e.val.null, .int e.val.n, .isl (Ex.cellsL e.kids)])),(1, .i (.isl (Ex.cellsL l))),(2, .own 0 0),(4, .own 1 0),(5, .own 2 0),(6, .int i),(9, .bool false),(27,jk i (.bool true))],
  st:=some (.box [.int e.kind, .int e.col, .bool e.val.null, .int e.val.n, .i (.isl (Ex.cellsL e.kids))]) :: some (.box [.int 0, .int 0, .bool false, .int 0, .nils]) ::
   some (.box [.int e.kind, .int e.col, .bool e.val.null, .int e.val.n,gro 3 5 i]) :: groB 5 (Ex.cellsL ((e.kids.take i).map f)) i }
theorem sub_col {e b:Ex} {l:List Ex} (h1:e.kind=1) (h0:0≤e.col) (hb:l[e.col.toNat]?=some b) (ht:b.thin) :
  callA C0 143 [.i (.agg e.cells), .i (.isl (Ex.cellsL l))] []=some (.i (.agg b.cells),[]):=by
 rw [callA_eq rfl Tryz.func143 rfl rfl,Ex.cells_eq]
 have hc:=copyExpr_eq b ht
 have r2:=Ex.cellsL_nth hb
 have r1:=(List.getElem?_eq_some_iff.1 hb).1
 rw [Ex.cells_eq] at hc r2 ⊢
 simp [h1,h0,r2,hc,show e.col < l.length by omega]
theorem sub_step {e : Ex} {l : List Ex} {f : Ex → Ex} (h1 : e.kind ≠ 1) (hl : e.kids.length < 1000000000) (ih : ∀ a ∈ e.kids, callA C0 143 [.i (.agg a.cells), .i (.isl (Ex.cellsL l))] [] = some (.i (.agg (f a).cells), [])) :
    callA C0 143 [.i (.agg e.cells), .i (.isl (Ex.cellsL l))] [] = some (.i (.agg (Ex.mk e.kind e.col e.val (e.kids.map f)).cells), []) := by
  rw [callA_eq rfl Tryz.func143 rfl rfl, Ex.cells_eq]
  simp [h1]
  rw [loop_to (SX e l f) e.kids.length (by simp [SX, h1])]
  · rw [execA_loop]
    cases hn : e.kids.length with
    | zero =>
      have : e.kids = [] := List.length_eq_zero_iff.1 hn
      simp [SX, this, Ex.cellsL, Ex.cells]
    | succ n =>
      have : e.kids.take (n + 1) = e.kids := List.take_of_length_le (by omega)
      simp [SX, hn, this, Ex.cells, ← List.map_take]
  · intro i hi
    have h3 := List.getElem?_eq_getElem hi
    have hc := ih _ (List.mem_of_getElem? h3)
    have r2 := Ex.cellsL_nth h3
    generalize e.kids[i] = a at h3 hc r2
    have w2 : IntKind.i64.wrap ((i : Int) + 1) = i + 1 := wrap64 (by omega) (by omega)
    by_cases h0 : i = 0
    · subst h0; simp [SX, hi, r2, hc, wrap_1, take_snoc h3, Ex.cellsL]
    · simp [SX, gro_pos h0, groB_pos h0, jk_pos h0, hi, r2, hc, w2, take_snoc h3, Ex.cellsL_snoc, show min i e.kids.length = i by omega, show (i + 1) * 56 ≤ 140737488355328 by omega, ← List.map_take, List.take_take]
theorem substitute_eq (l : List Ex) (hlt : ∀ b ∈ l, b.thin) : ∀ (e : Ex), e.thin → e.colsB l.length → callA C0 143 [.i (.agg e.cells), .i (.isl (Ex.cellsL l))] [] = some (.i (.agg (e.sub l).cells), []) := by
  intro e
  induction e using Ex.ind with
  | h k c v ks ih =>
    intro ht hc
    have ht' := (Ex.thin_iff _).1 ht
    have hc' := (Ex.colsB_iff _ _).1 hc
    by_cases hk : k = 1
    · obtain ⟨h0, h1⟩ := hc'.1 hk
      have hi : c.toNat < l.length := by simp [Ex.col] at h0 h1; omega
      have hb := List.getElem?_eq_getElem hi
      rw [Ex.sub_col l (e := .mk k c v ks) hk hb]
      exact sub_col hk h0 hb (hlt _ (List.getElem_mem hi))
    · rw [Ex.sub_not l (e := .mk k c v ks) hk]
      exact sub_step hk ht'.1 fun a ha => ih a ha (ht'.2 a ha) (hc'.2 hk a ha)
end Go.Proofs.YtjcjpbjpbbdnlaaGreat

namespace Go.Proofs.YtjcjpbjpbbdnlaaGreat
open Go Go.Av
set_option maxRecDepth 4000
def HX (e:Ex) (i:Nat):AS :=
 {env:=[(0, .i (.iref [.int e.kind, .int e.col, .bool e.val.null, .int e.val.n, .isl (Ex.cellsL e.kids)])),(2, .int 0),(3, .int (Ex.htL (e.kids.take i):Nat)),(4,jk i (.int (i - 1))),(9, .int e.kids.length),(10, .int i),(11,jk i (.bool true))],st:=[] }
theorem height_step {e:Ex} (hs:e.size < 1000000000) (ih:∀ k∈e.kids,callA C0 158 [.i (.iref k.cells)] []=some (.int (k.ht:Nat),[])) :
  callA C0 158 [.i (.iref e.cells)] []=some (.int (e.ht:Nat),[]):=by
 rw [callA_eq rfl Tryz.func158 rfl rfl,Ex.cells_eq]
 simp
 have hl:=Ex.sizeL_length e.kids
 rw [Ex.size_eq] at hs
 rw [loop_to (HX e) e.kids.length (by simp [HX,Ex.htL])]
 ·rw [execA_loop]
  simp [HX,Ex.ht_eq e]
 ·intro i hi
  have h3:=List.getElem?_eq_getElem hi
  have hm:=List.mem_of_getElem? h3
  have hc:=ih _ hm
  have r2:=Ex.cellsL_nth h3
  have hz:=Ex.sizeL_mem hm
  generalize e.kids[i]=a at h3 hc r2 hz
  have ha:=Ex.ht_size a
  have w2:IntKind.i64.wrap ((i:Int) + 1)=i + 1:=wrap64 (by omega) (by omega)
  have w1:IntKind.i64.wrap (1 + (a.ht:Int))=1 + a.ht:=wrap64 (by omega) (by omega)
  rw [Ex.cells_eq] at hc r2
  have hmax:Ex.htL (e.kids.take (i + 1))=max (Ex.htL (e.kids.take i)) (1 + a.ht):=by rw [take_snoc h3,Ex.htL_snoc]
  by_cases hg:1 + a.ht > Ex.htL (e.kids.take i)
  ·simp [HX,hi,r2,hc,w1,w2,hmax,show max (Ex.htL (e.kids.take i)) (1 + a.ht)=1 + a.ht by omega,show (Ex.htL (e.kids.take i):Int) < 1 + a.ht by omega]
  ·simp [HX,hi,r2,hc,w1,w2,hmax,show max (Ex.htL (e.kids.take i)) (1 + a.ht)=Ex.htL (e.kids.take i) by omega,show ¬ (Ex.htL (e.kids.take i):Int) < 1 + a.ht by omega]
theorem height_eq : ∀ (e : Ex), e.size < 1000000000 → callA C0 158 [.i (.iref e.cells)] [] = some (.int (e.ht : Nat), []) := by
  intro e
  induction e using Ex.ind with
  | h k c v ks ih =>
    intro hs
    exact height_step hs fun a ha => ih a ha (by have := Ex.sizeL_mem ha; simp only [Ex.size, Ex.kids] at hs this; omega)
end Go.Proofs.YtjcjpbjpbbdnlaaGreat

namespace Go.Proofs.YtjcjpbjpbbdnlaaGreat
open Go Go.Av
set_option maxRecDepth 4000
theorem fits_neg {e:Ex} {hs:List Nat} {n:Int} (hn:n < 0):callA C0 159 [.i (.iref e.cells), .i (.isl (natsL hs)), .int n] []=some (.bool false,[]):=by
 rw [callA_eq rfl Tryz.func159 rfl rfl,Ex.cells_eq]
 simp [hn]
theorem fits_col {e:Ex} {hs:List Nat} {n:Int} {h:Nat} (hn:0≤n) (hk:e.kind=1) (hks:e.kids=[]) (h0:0≤e.col) (hh:hs[e.col.toNat]?=some h) :
  callA C0 159 [.i (.iref e.cells), .i (.isl (natsL hs)), .int n] []=some (.bool (decide ((h:Int)≤n)),[]):=by
 rw [callA_eq rfl Tryz.func159 rfl rfl,Ex.cells_eq]
 have r2:=natsL_nth hh
 have r1:=(List.getElem?_eq_some_iff.1 hh).1
 by_cases hc:n < h
 ·simp [Int.not_lt.2 hn,hk,h0,r2,hc,show e.col < hs.length by omega]
 ·simp [Int.not_lt.2 hn,hk,h0,r2,hc,Int.not_lt.1 hc,show e.col < hs.length by omega,hks,Ex.cellsL]
  rw [execA_loop]
  simp
def FX (e:Ex) (hs:List Nat) (n:Int) (i:Nat):AS :=
 {env:=[(0, .i (.iref [.int e.kind, .int e.col, .bool e.val.null, .int e.val.n, .isl (Ex.cellsL e.kids)])),(1, .i (.isl (natsL hs))),(2, .int n),(6, .bool false),(7,jk i (.int (i - 1))),(27, .bool false),(32, .int e.kids.length),(33, .int i),(34,jk i (.bool true)),(46,jk i (.bool false))],st:=[] }
theorem fits_kids {e : Ex} {hs : List Nat} {n : Int} (hn : 0 ≤ n) (hn8 : n ≤ 8) (hl : e.kids.length < 1000000000) (hk : e.kind ≠ 1)
   (ih : ∀ k ∈ e.kids, callA C0 159 [.i (.iref k.cells), .i (.isl (natsL hs)), .int (n - 1)] [] = some (.bool (decide ((k.htS hs : Int) ≤ n - 1)), [])) :
    callA C0 159 [.i (.iref e.cells), .i (.isl (natsL hs)), .int n] [] = some (.bool (e.kids.all fun k => decide ((k.htS hs : Int) ≤ n - 1)), []) := by
  rw [callA_eq rfl Tryz.func159 rfl rfl, Ex.cells_eq]
  simp [Int.not_lt.2 hn, hk]
  obtain ⟨j, h1, h2⟩ := upto_bad (fun k : Ex => decide ((k.htS hs : Int) ≤ n - 1)) e.kids
  have w1 : IntKind.i64.wrap (n - 1) = n - 1 := wrap64 (by omega) (by omega)
  rw [loop_to (FX e hs n) j (by simp [FX])]
  · rw [execA_loop]
    rcases h2 with ⟨hj, ha⟩ | ⟨k, h3, h4, h5, ha⟩
    · simp [FX, hj, ha]
    · have r1 := (List.getElem?_eq_some_iff.1 h3).1
      have r2 := Ex.cellsL_nth h3
      have r3 := ih k h4
      rw [Ex.cells_eq] at r2 r3
      rw [h5] at r3
      simp [FX, r1, ha, r2, r3, w1]
  · intro i hi
    obtain ⟨k, h3, h4, h5⟩ := h1 i hi
    have r1 := (List.getElem?_eq_some_iff.1 h3).1
    have r2 := Ex.cellsL_nth h3
    have r3 := ih k h4
    have w2 : IntKind.i64.wrap ((i : Int) + 1) = i + 1 := wrap64 (by omega) (by omega)
    rw [Ex.cells_eq] at r2 r3
    rw [h5] at r3
    simp [FX, r1, r2, r3, w1, w2]
theorem fits_eq {m : Int} {hs : List Nat} (hm : m = hs.length) : ∀ (e : Ex), e.wf m = true → e.size < 1000000000 → ∀ n : Int, n ≤ 8 → callA C0 159 [.i (.iref e.cells), .i (.isl (natsL hs)), .int n] [] = some (.bool (decide ((e.htS hs : Int) ≤ n)), []) := by
  intro e
  induction e using Ex.ind with
  | h k c v ks ih =>
    intro hw hs' n hn
    by_cases h0 : n < 0
    · rw [fits_neg h0, show decide ((Ex.htS hs (.mk k c v ks) : Int) ≤ n) = false by simp; omega]
    · by_cases hk : k = 1
      · obtain ⟨c0, c1, ck⟩ := Ex.wf_col hw hk
        have hi : c.toNat < hs.length := by simp [Ex.col] at c0 c1; omega
        have hb := List.getElem?_eq_getElem hi
        rw [Ex.htS_col hs (e := .mk k c v ks) (h := hs[c.toNat]) hk hb]
        exact fits_col (by omega) hk ck c0 hb
      · have hl := Ex.sizeL_length ks
        have hsz : Ex.sizeL ks < 1000000000 := by simp [Ex.size] at hs'; omega
        have hn0 := Int.not_lt.1 h0
        rw [fits_kids (e := .mk k c v ks) (n := n) hn0 hn (by simp only [Ex.kids]; omega) hk fun x hx => ih x hx (Ex.wf_kids hw hx) (by have := Ex.sizeL_mem hx; simp only [Ex.kids] at this; omega) (n - 1) (by omega)]
        rw [Ex.htS_not hs (e := .mk k c v ks) hk]
        suffices hsf : (ks.all fun x => decide ((x.htS hs : Int) ≤ n - 1)) = decide ((Ex.htSL hs ks : Int) ≤ n) by simp only [Ex.kids]; rw [hsf]; rfl
        rw [Bool.eq_iff_iff]
        have := Ex.htSL_le hs (n := n.toNat) ks
        simp only [List.all_eq_true, decide_eq_true_eq]
        constructor
        · intro h
          have h2 := this.2 fun x hx => by have := h x hx; omega
          omega
        · intro h x hx
          have h2 := this.1 (by omega) x hx
          omega
end Go.Proofs.YtjcjpbjpbbdnlaaGreat

namespace Go.Proofs.YtjcjpbjpbbdnlaaGreat
open Go Go.Av
set_option maxRecDepth 4000
@[simp] theorem copied_eq {e:Ex} (h:e.size < 1000000000):callA C0 99 [.i (.iref e.cells)] []=some (.i (.agg e.cells),[]):=by
 rw [callA_prim (p:=copyE) rfl]; exact copyE_eq h
theorem sub1_col {e b:Ex} {l:List Ex} (hk:e.kind=1) (h0:0≤e.col) (hb:l[e.col.toNat]?=some b) (hs:b.size < 1000000000) :
  callA C0 160 [.i (.iref e.cells), .own 0 0] [some (.box [.i (.isl (Ex.cellsL l))])]=some (.i (.agg b.cells),[some (.box [.i (.isl (Ex.cellsL l))])]):=by
 rw [callA_eq rfl Tryz.func160 rfl rfl]
 have hc:=copied_eq hs
 have r2:=Ex.cellsL_nth hb
 have r1:=(List.getElem?_eq_some_iff.1 hb).1
 rw [Ex.cells_eq] at hc r2 ⊢
 rw [Ex.cells_eq]
 simp [hk,h0,r2,hc,show e.col < l.length by omega]
theorem sub1_not {e:Ex} {l:List Ex} (hk:e.kind≠1) (hs:e.size < 1000000000) :
  callA C0 160 [.i (.iref e.cells), .own 0 0] [some (.box [.i (.isl (Ex.cellsL l))])]=some (.i (.agg e.cells),[some (.box [.i (.isl (Ex.cellsL l))])]):=by
 rw [callA_eq rfl Tryz.func160 rfl rfl]
 have hc:=copied_eq hs
 rw [Ex.cells_eq] at hc ⊢
 simp [hk,hc]
def zrow:List IV:=[.int 0, .int 0, .bool false, .int 0, .isl []]
def RX (e:Ex) (l:List Ex) (f:Ex→Ex) (i:Nat):AS :=
 {env:=[(0, .i (.iref [.int e.kind, .int e.col, .bool e.val.null, .int e.val.n, .isl (Ex.cellsL e.kids)])),(1, .fn (.func 160) [.own 0 0]),(4, .own 1 0),(5, .own 2 0),(6,jk i (.int (i - 1))),(12, .bool ((e.kids.length:Int) == 0)),(39, .int e.kids.length),(40, .int i),(41,jk i (.bool true))],
  st:=[some (.box [.i (.isl (Ex.cellsL l))]),some (.box [.int 0, .int 0, .bool false, .int 0, .nils]),some (.box [.int e.kind, .int e.col, .bool e.val.null, .int e.val.n, .osl 3 5 0 e.kids.length]),some (.arr 5 (Ex.cellsL ((e.kids.map f).take i) ++ List.replicate (e.kids.length - i) zrow))] }
theorem rep_step {e:Ex} {l:List Ex} {f:Ex→Ex} (hk:e.kids≠[]) (hl:e.kids.length < 1000000000) (ih:∀ a∈e.kids,callA C0 155 [.i (.iref a.cells), .fn (.func 160) [.own 0 0]] [some (.box [.i (.isl (Ex.cellsL l))])]=some (.i (.agg (f a).cells),[some (.box [.i (.isl (Ex.cellsL l))])])) :
  callA C0 155 [.i (.iref e.cells), .fn (.func 160) [.own 0 0]] [some (.box [.i (.isl (Ex.cellsL l))])]=some (.i (.agg (Ex.mk e.kind e.col e.val (e.kids.map f)).cells),[some (.box [.i (.isl (Ex.cellsL l))])]):=by
 rw [callA_eq rfl Tryz.func155 rfl rfl,Ex.cells_eq]
 have hb:56 * (e.kids.length:Int)≤281474976710656:=by omega
 simp [hk,hb]
 rw [loop_to (RX e l f) e.kids.length (by simp [RX,Ex.cellsL,zrow])]
 ·rw [execA_loop]
  have ht:(e.kids.map f).take e.kids.length=e.kids.map f:=List.take_of_length_le (by simp)
  simp [RX,Ex.cells,ht]
 ·intro i hi
  have h3:=List.getElem?_eq_getElem hi
  have hm:=List.mem_of_getElem? h3
  have hc:=ih _ hm
  have r2:=Ex.cellsL_nth h3
  generalize e.kids[i]=a at h3 hc r2
  have w2:IntKind.i64.wrap ((i:Int) + 1)=i + 1:=wrap64 (by omega) (by omega)
  rw [Ex.cells_eq] at hc r2
  have hD:(Ex.cellsL ((e.kids.map f).take i)).length=i:=by simp; omega
  have hS:Ex.cellsL ((e.kids.map f).take i) ++ [(f a).cells]=Ex.cellsL ((e.kids.map f).take (i + 1)):=by rw [take_snoc (a:=f a) (by simp [h3]),Ex.cellsL_snoc]
  have g1:=half_nth (n:=e.kids.length) (z:=zrow) hD hi
  have g2:=half_set (n:=e.kids.length) (z:=zrow) (x:=(f a).cells) hD hi
  have g3:splice zrow 0 (f a).cells=some (f a).cells:=splice_all (by simp [zrow])
  rw [hS] at g2
  simp [RX,hi,r2,hc,w2,g1,g2,g3]
theorem rep_leaf {e x:Ex} {l:List Ex} (hk:e.kids=[]) (h:callA C0 160 [.i (.iref e.cells), .own 0 0] [some (.box [.i (.isl (Ex.cellsL l))])]=some (.i (.agg x.cells),[some (.box [.i (.isl (Ex.cellsL l))])])) :
  callA C0 155 [.i (.iref e.cells), .fn (.func 160) [.own 0 0]] [some (.box [.i (.isl (Ex.cellsL l))])]=some (.i (.agg x.cells),[some (.box [.i (.isl (Ex.cellsL l))])]):=by
 rw [callA_eq rfl Tryz.func155 rfl rfl]
 rw [Ex.cells_eq e] at h ⊢
 rw [Ex.cells_eq x] at h ⊢
 simp [hk,Ex.cellsL] at h ⊢
 simp [h]
theorem replaced_sub {m : Int} (l : List Ex) (hm : m = l.length) (hl : ∀ b ∈ l, b.size < 1000000000) : ∀ (e : Ex), e.wf m = true → e.size < 1000000000 →
    callA C0 155 [.i (.iref e.cells), .fn (.func 160) [.own 0 0]] [some (.box [.i (.isl (Ex.cellsL l))])] = some (.i (.agg (e.sub l).cells), [some (.box [.i (.isl (Ex.cellsL l))])]) := by
  intro e
  induction e using Ex.ind with
  | h k c v ks ih =>
    intro hw hs
    have hsz := hs
    rw [Ex.size_eq] at hsz
    have hkl := Ex.sizeL_length ks
    by_cases hk : k = 1
    · obtain ⟨c0, c1, ck⟩ := Ex.wf_col hw hk
      have hi : c.toNat < l.length := by simp [Ex.col] at c0 c1; omega
      have hb := List.getElem?_eq_getElem hi
      rw [Ex.sub_col l (e := .mk k c v ks) hk hb]
      exact rep_leaf ck (sub1_col (e := .mk k c v ks) hk c0 hb (hl _ (List.getElem_mem hi)))
    · cases ks with
      | nil =>
        have hn := sub1_not (e := .mk k c v []) (l := l) hk hs
        rw [Ex.sub_not l (e := .mk k c v []) hk]
        exact rep_leaf (e := .mk k c v []) rfl hn
      | cons a ks =>
        rw [Ex.sub_not l (e := .mk k c v (a :: ks)) hk]
        refine rep_step (e := .mk k c v (a :: ks)) (by simp [Ex.kids]) (by simp only [Ex.kids] at hsz ⊢; omega) fun x hx => ih x hx (Ex.wf_kids hw hx) ?_
        have := Ex.sizeL_mem hx
        omega
end Go.Proofs.YtjcjpbjpbbdnlaaGreat

namespace Go.Av
def Ex.subst (e:Ex) (l:List Ex) (w:Int):Option Ex:=if e.ok l.length && (l.all (Ex.ok w) && (e.sub l).ok w) then some (e.sub l) else none
def resE:Option Ex→AV
 | some e=>.tup [.i (.agg e.cells), .bool true]
 | none=>.tup [.i (.agg Ex.zero.cells), .bool false]
theorem zero_cells:Ex.zero.cells=[.int 0, .int 0, .bool false, .int 0, .isl []]:=by simp [Ex.zero,Ex.cells,Ex.cellsL,Val.zero]
end Go.Av
namespace Go.Proofs.YtjcjpbjpbbdnlaaGreat
open Go Go.Av
set_option maxRecDepth 4000
end Go.Proofs.YtjcjpbjpbbdnlaaGreat

namespace Go.Proofs.YtjcjpbjpbbdnlaaGreat
open Go Go.Av
set_option maxRecDepth 4000
theorem isub_no {e:Ex} {l:List Ex} {w:Int} (h:e.ok l.length=false):callA C0 135 [.i (.agg e.cells), .i (.isl (Ex.cellsL l)), .int w] []=some (resE (e.subst l w),[]):=by
 rw [callA_eq rfl Tryz.func135 rfl rfl]
 have hc:=ok_eq l.length e
 rw [h] at hc
 rw [Ex.cells_eq e] at hc ⊢
 simp [hc,Ex.subst,h,resE,zero_cells]
theorem natsL_snoc:∀ (hs:List Nat) (h:Nat),natsL hs ++ [[.int h]]=natsL (hs ++ [h])
 | [],_=>rfl
 | _ :: hs,h=>by simp [natsL,natsL_snoc hs h]
def IX (e:Ex) (l:List Ex) (w:Int) (i:Nat):AS :=
 {env:=[(0, .i (.agg [.int e.kind, .int e.col, .bool e.val.null, .int e.val.n, .isl (Ex.cellsL e.kids)])),(1, .i (.isl (Ex.cellsL l))),(2, .int w),(3, .own 0 0),(4, .own 1 0),(6, .own 2 0),(7, .bool false),(8, .osl 3 1 0 l.length),(9,jk i (.int (i - 1))),(14, .bool false),(20, .int l.length),(21, .int i),(22,jk i (.bool true)),(30,jk i (.bool false)),(42, .junk)],
  st:=[some (.box [.int e.kind, .int e.col, .bool e.val.null, .int e.val.n, .i (.isl (Ex.cellsL e.kids))]),some (.box [.i (.isl (Ex.cellsL l))]),some (.box [.int 0, .int 0, .bool false, .int 0, .nils]),some (.arr 1 (natsL ((l.map Ex.ht).take i) ++ List.replicate (l.length - i) [.int 0]))] }
theorem isub_go {e:Ex} {l:List Ex} {w:Int} (h:e.ok l.length=true):callA C0 135 [.i (.agg e.cells), .i (.isl (Ex.cellsL l)), .int w] []=some (resE (e.subst l w),[]):=by
 rw [callA_eq rfl Tryz.func135 rfl rfl]
 have hc:=ok_eq l.length e
 rw [h] at hc
 have hw:1≤(l.length:Int)∧(l.length:Int)≤6:=by simp [Ex.ok,okWidth] at h; omega
 have hwf:e.wf l.length=true:=by simp [Ex.ok,Ex.vB_eq] at h; exact h.2.1
 have hsz:=Ex.ok_size h
 rw [Ex.cells_eq e] at hc ⊢
 have hb:8 * (l.length:Int)≤281474976710656:=by omega
 simp [hc,hb]
 obtain ⟨j,h1,h2⟩:=upto_bad (Ex.ok w) l
 rw [loop_to (IX e l w) j (by simp [IX,natsL])]
 ·rw [execA_loop]
  rcases h2 with ⟨hj,ha⟩ | ⟨k,h3,h4,h5,ha⟩
  ·have ht:(l.map Ex.ht).take l.length=l.map Ex.ht:=List.take_of_length_le (by simp)
   have ht2:(natsL (l.map Ex.ht)).take l.length=natsL (l.map Ex.ht):=List.take_of_length_le (by simp)
   have hf:=fits_eq (m:=l.length) (hs:=l.map Ex.ht) (by simp) e hwf (by omega) 8 (by omega)
   have hr:=replaced_sub (m:=l.length) l rfl (fun b hb=>by have:=Ex.ok_size (List.all_eq_true.1 ha b hb); omega) e hwf (by omega)
   have hwl:∀ b∈l,b.wf w=true:=fun b hb=>by
    have:=List.all_eq_true.1 ha b hb
    simp [Ex.ok,Ex.vB_eq] at this; exact this.2.1
   have hww:okWidth w=true:=by
    cases l with
    | nil=>simp at hw
    | cons b l=>simp [Ex.ok] at ha; exact ha.1.1
   have hq:(e.sub l).ok w=decide ((e.htS (l.map Ex.ht):Int)≤8):=by
    simp only [Ex.ok,Ex.vB_eq,Ex.wf_sub (m:=l.length) l rfl hwl e hwf,Ex.ht_sub (w:=l.length) l rfl e hwf,hww,Bool.true_and]
    rw [Bool.eq_iff_iff]; simp; omega
   rw [Ex.cells_eq e] at hf hr
   rw [← hq] at hf
   cases hq':(e.sub l).ok w with
   | true=>rw [hq'] at hf; simp [IX,hj,ht,ht2,hf,hr,Ex.subst,h,ha,hq',resE]
   | false=>rw [hq'] at hf; simp [IX,hj,ht,ht2,hf,Ex.subst,h,ha,hq',resE,zero_cells]
  ·have r1:=(List.getElem?_eq_some_iff.1 h3).1
   have r2:=Ex.cellsL_nth h3
   have r3:=ok_eq w k
   rw [h5] at r3
   simp [IX,r1,r2,r3,Ex.subst,h,ha,resE,zero_cells]
 ·intro i hi
  obtain ⟨k,h3,h4,h5⟩:=h1 i hi
  have r1:=(List.getElem?_eq_some_iff.1 h3).1
  have r2:=Ex.cellsL_nth h3
  have r3:=ok_eq w k
  have w2:IntKind.i64.wrap ((i:Int) + 1)=i + 1:=wrap64 (by omega) (by omega)
  have hh:=height_eq k (by have:=Ex.ok_size h5; omega)
  rw [h5] at r3
  have hD:(natsL ((l.map Ex.ht).take i)).length=i:=by simp; omega
  have g1:=half_nth (n:=l.length) (z:=[IV.int 0]) hD r1
  have g2:=half_set (n:=l.length) (z:=[IV.int 0]) (x:=[IV.int k.ht]) hD r1
  rw [natsL_snoc,← take_snoc (a:=k.ht) (by simp [h3])] at g2
  simp [IX,r1,r2,r3,w2,hh,g1,g2]
end Go.Proofs.YtjcjpbjpbbdnlaaGreat

namespace Go.Av
@[simp] theorem bytesI_widths:∀ l:List UInt8,widths 1 (bytesI l)=true
 | []=>rfl
 | _ :: l=>by have:=bytesI_widths l; simp only [widths] at this; simp [bytesI,widths,this]
@[simp] theorem bytesI_take:∀ (n:Nat) (l:List UInt8),(bytesI l).take n=bytesI (l.take n)
 | 0,l=>by simp [bytesI]
 | n + 1,[]=>by simp [bytesI]
 | n + 1,b :: l=>by simp [bytesI,bytesI_take n l]
end Go.Av
namespace Go.Proofs.YtjcjpbjpbbdnlaaGreat
open Go Go.Av
set_option maxRecDepth 4000
theorem newReader_eq (l:List UInt8):∃ l':List UInt8,l'.length≤2000∧callA C0 50 [.i (.isl (bytesI l))] []=some (.own 0 0,[Rd l' 0]):=by
 by_cases h:(l.length:Int) > 2000
 ·refine ⟨l.take 2000,by simp; omega,?_⟩
  rw [callA_eq rfl Tryz.func50 rfl rfl]
  simp [bytesI_length,h,show (2000:Int)≤l.length by omega]
 ·refine ⟨l,by omega,?_⟩
  rw [callA_eq rfl Tryz.func50 rfl rfl]
  simp [bytesI_length,h]
theorem one_eq (l:List UInt8) (p:Int) (h0:0≤p) (h1:p < 1000000000) (hl:l.length≤2000) (es:List (List IV)) (hn:0 < es.length) (hes:es.length≤100) (hi:∀ r∈es,∃ x,r=[.int x]) :
  ∃ x:Int,callA C0 84 [.own 0 0, .osl 1 1 0 es.length] [Rd l p,some (.arr 1 es)]=some (.int x,[Rd l (p + 1),some (.arr 1 es)])∧[.int x]∈es:=by
 obtain ⟨v,hv,hv1,hv2⟩:=pick_eq l p es.length h0 h1 hl
 obtain ⟨v0,v1⟩:=hv1 (by omega)
 have hlt:v.toNat < es.length:=by omega
 have hm:=List.getElem_mem hlt
 obtain ⟨x,hx⟩:=hi _ hm
 refine ⟨x,?_,hx ▸ hm⟩
 have hnth:nthE es v.toNat=some [.int x]:=by rw [nthE_eq,List.getElem?_eq_getElem hlt,hx]
 have hw:widths 1 es=true:=by
  rw [widths,List.all_eq_true]; intro r hr; obtain ⟨y,rfl⟩:=hi r hr; rfl
 rw [callA_eq rfl Tryz.func84 rfl rfl]
 simp [hv,v0,v1,hnth,hw]
theorem randomValue_eq (l:List UInt8) (p:Int) (h0:0≤p) (h1:p < 900000000) (hl:l.length≤2000) :
  ∃ (v:Val) (p':Int),callA C0 168 [.own 0 0] [Rd l p]=some (.i (.agg [.bool v.null, .int v.n]),[Rd l p'])∧p≤p'∧p'≤p + 2:=by
 obtain ⟨v,hv,hv1,hv2⟩:=pick_eq l p 5 h0 (by omega) hl
 by_cases h:v=0
 ·refine ⟨⟨true,0⟩,p + 1,?_,by omega,by omega⟩
  rw [callA_eq rfl Tryz.func168 rfl rfl]
  simp [hv,h]
 ·obtain ⟨x,hx,_⟩:=one_eq l (p + 1) (by omega) (by omega) hl [[.int 0],[.int 1],[.int 2],[.int 3],[.int (-1)]] (by simp) (by simp) (by simp)
  refine ⟨⟨false,x⟩,p + 1 + 1,?_,by omega,by omega⟩
  rw [callA_eq rfl Tryz.func168 rfl rfl]
  simp at hx
  simp [hv,h,hx]
theorem anyValue_eq (l:List UInt8) (p:Int) (h0:0≤p) (h1:p < 900000000) (hl:l.length≤2000) :
  ∃ (v:Val) (p':Int),callA C0 154 [.own 0 0] [Rd l p]=some (.i (.agg [.bool v.null, .int v.n]),[Rd l p'])∧p≤p'∧p'≤p + 4:=by
 obtain ⟨v,p1,hv,q1,q2⟩:=randomValue_eq l p h0 (by omega) hl
 obtain ⟨k,hk,hk1,hk2⟩:=pick_eq l p1 14 (by omega) (by omega) hl
 by_cases g0:k=0
 ·refine ⟨⟨true,1⟩,p1 + 1,?_,by omega,by omega⟩
  rw [callA_eq rfl Tryz.func154 rfl rfl]
  simp [hv,hk,g0]
 ·by_cases g1:k=1
  ·obtain ⟨x,hx,_⟩:=one_eq l (p1 + 1) (by omega) (by omega) hl [[.int 10000],[.int (-10000)],[.int 9999],[.int (-9999)]] (by simp) (by simp) (by simp)
   refine ⟨⟨false,x⟩,p1 + 1 + 1,?_,by omega,by omega⟩
   rw [callA_eq rfl Tryz.func154 rfl rfl]
   simp at hx
   simp [hv,hk,g1,hx]
  ·refine ⟨v,p1 + 1,?_,by omega,by omega⟩
   rw [callA_eq rfl Tryz.func154 rfl rfl]
   simp [hv,hk,g0,g1]
end Go.Proofs.YtjcjpbjpbbdnlaaGreat

namespace Go.Proofs.YtjcjpbjpbbdnlaaGreat
open Go Go.Av
set_option maxRecDepth 4000
set_option maxHeartbeats 1000000
theorem rE_leaf {l:List UInt8} (hl:l.length≤2000) {w:Int} {n:Nat} {p k:Int} (h0:0≤p) (h1:p < 800000000) (hk:callA C0 76 [.own 0 0, .int 13] [Rd l p]=some (.int k,[Rd l (p + 1)])) (hc:n=0∨k > 10) :
  ∃ (e:Ex) (p':Int),callA C0 153 [.own 0 0, .int w, .int n] [Rd l p]=some (.i (.agg e.cells),[Rd l p'])∧p≤p'∧p'≤p + 4∧e.size=1:=by
 obtain ⟨t,ht,ht1,ht2⟩:=pick_eq l (p + 1) 3 (by omega) (by omega) hl
 by_cases g:t > 0
 ·obtain ⟨c,hc',-,-⟩:=pick_eq l (p + 1 + 1) w (by omega) (by omega) hl
  refine ⟨.mk 1 c Val.zero [],p + 1 + 1 + 1,?_,by omega,by omega,by simp [Ex.size,Ex.sizeL]⟩
  rw [callA_eq rfl Tryz.func153 rfl rfl]
  by_cases hn:n=0
  ·simp [hk,hn,ht,g,hc',Ex.cells,Ex.cellsL,Val.zero]
  ·have hk10:k > 10:=by omega
   simp [hk,hn,hk10,ht,g,hc',Ex.cells,Ex.cellsL,Val.zero]
 ·obtain ⟨v,p2,hv,q1,q2⟩:=randomValue_eq l (p + 1 + 1) (by omega) (by omega) hl
  refine ⟨.mk 2 0 v [],p2,?_,by omega,by omega,by simp [Ex.size,Ex.sizeL]⟩
  rw [callA_eq rfl Tryz.func153 rfl rfl]
  by_cases hn:n=0
  ·simp [hk,hn,ht,g,hv]
  ·have hk10:k > 10:=by omega
   simp [hk,hn,hk10,ht,g,hv]
theorem rE_node {l:List UInt8} (hl:l.length≤2000) {w:Int} {n c:Nat} {p k:Int} (h0:0≤p) (h1:p < 800000000) (hk:callA C0 76 [.own 0 0, .int 13] [Rd l p]=some (.int k,[Rd l (p + 1)])) (hk0:0≤k) (hk1:k≤10) (hn:n < 10) (hc:c < 100) (hpc:p + (2 * c + 1) < 700000000) (ih:∀ p:Int,0≤p→p + c < 700000000→∃ (e:Ex) (p':Int),callA C0 153 [.own 0 0, .int w, .int n] [Rd l p]=some (.i (.agg e.cells),[Rd l p'])∧p≤p'∧p'≤p + c∧e.size≤c) :
  ∃ (e:Ex) (p':Int),callA C0 153 [.own 0 0, .int w, .int ((n + 1:Nat):Int)] [Rd l p]=some (.i (.agg e.cells),[Rd l p'])∧p≤p'∧p'≤p + (2 * c + 1:Nat)∧e.size≤2 * c + 1:=by
 obtain ⟨e1,p1,he1,a1,a2,a3⟩:=ih (p + 1) (by omega) (by omega)
 obtain ⟨e2,p2,he2,b1,b2,b3⟩:=ih p1 (by omega) (by omega)
 have t1:0≤k.tmod 9:=Int.tmod_nonneg _ hk0
 have t2:k.tmod 9 < 9:=Int.tmod_lt_of_pos _ (by omega)
 have w1:IntKind.i64.wrap (3 + k.tmod 9)=3 + k.tmod 9:=wrap64 (by omega) (by omega)
 have w2:IntKind.i64.wrap (n:Int)=n:=wrap64 (by omega) (by omega)
 have w3:IntKind.i64.wrap 2=2:=wrap64 (by omega) (by omega)
 have hn1:¬ ((n:Int) + 1=0):=by omega
 have wn:((n:Int) + 1 == 0)=false:=by simp [hn1]
 have hkk:¬ (10 < k):=by omega
 have hK:kidsK (3 + k.tmod 9)=1∨kidsK (3 + k.tmod 9)=2:=by
  unfold kidsK; split; · omega
  split; · exact .inl rfl
  split; · exact .inr rfl
  ·omega
 rcases hK with hK | hK
 ·refine ⟨.mk (3 + k.tmod 9) 0 Val.zero [e1],p1,?_,by omega,by omega,by simp [Ex.size,Ex.sizeL]; omega⟩
  rw [callA_eq rfl Tryz.func153 rfl rfl]
  simp [hk,hn1,wn,hkk,w1]
  rw [execA_loop]
  simp [hK,w2,he1,wrap_1]
  rw [execA_loop]
  simp [hK,Ex.cells,Ex.cellsL,Val.zero]
 ·refine ⟨.mk (3 + k.tmod 9) 0 Val.zero [e1,e2],p2,?_,by omega,by omega,by simp [Ex.size,Ex.sizeL]; omega⟩
  rw [callA_eq rfl Tryz.func153 rfl rfl]
  simp [hk,hn1,wn,hkk,w1]
  rw [execA_loop]
  simp [hK,w2,he1,wrap_1]
  rw [execA_loop]
  simp [hK,w2,he2,w3]
  rw [execA_loop]
  simp [hK,Ex.cells,Ex.cellsL,Val.zero]
def costE:Nat→Nat
 | 0=>4
 | n + 1=>2 * costE n + 1
theorem costE_ge:∀ n,4≤costE n
 | 0=>by simp [costE]
 | n + 1=>by have:=costE_ge n; simp only [costE]; omega
theorem rE (l : List UInt8) (hl : l.length ≤ 2000) (w : Int) : ∀ n : Nat, costE n < 200 → n < 10 → ∀ p : Int, 0 ≤ p → p + costE n < 700000000 → ∃ (e : Ex) (p' : Int), callA C0 153 [.own 0 0, .int w, .int n] [Rd l p] = some (.i (.agg e.cells), [Rd l p']) ∧ p ≤ p' ∧ p' ≤ p + costE n ∧ e.size ≤ costE n
  | 0, hc, hn, p, h0, h1 => by
    obtain ⟨k, hk, -, -⟩ := pick_eq l p 13 h0 (by omega) hl
    obtain ⟨e, p', a1, a2, a3, a4⟩ := rE_leaf hl (n := 0) (w := w) h0 (by omega) hk (.inl rfl)
    exact ⟨e, p', a1, a2, by simp [costE]; omega, by simp [costE]; omega⟩
  | n + 1, hc, hn, p, h0, h1 => by
    obtain ⟨k, hk, hk1, -⟩ := pick_eq l p 13 h0 (by omega) hl
    obtain ⟨k0, k1⟩ := hk1 (by omega)
    have hc' : costE (n + 1) = 2 * costE n + 1 := rfl
    by_cases hg : k > 10
    · obtain ⟨e, p', a1, a2, a3, a4⟩ := rE_leaf hl (n := n + 1) (w := w) h0 (by omega) hk (.inr hg)
      have h4 := costE_ge n
      exact ⟨e, p', a1, a2, by omega, by omega⟩
    · rw [hc']
      exact rE_node hl h0 (by omega) hk k0 (by omega) (by omega) (by omega) (by omega) fun q q0 q1 => rE l hl w n (by omega) (by omega) q q0 q1
theorem randomExpr3 (l:List UInt8) (hl:l.length≤2000) (w p:Int) (h0:0≤p) (h1:p < 600000000):∃ (e:Ex) (p':Int),callA C0 153 [.own 0 0, .int w, .int 3] [Rd l p]=some (.i (.agg e.cells),[Rd l p'])∧p≤p'∧p'≤p + 39∧e.size≤39:=rE l hl w 3 (by decide) (by omega) p h0 (by simp only [costE]; omega)
theorem randomExpr2 (l:List UInt8) (hl:l.length≤2000) (w p:Int) (h0:0≤p) (h1:p < 600000000):∃ (e:Ex) (p':Int),callA C0 153 [.own 0 0, .int w, .int 2] [Rd l p]=some (.i (.agg e.cells),[Rd l p'])∧p≤p'∧p'≤p + 19∧e.size≤19:=rE l hl w 2 (by decide) (by omega) p h0 (by simp only [costE]; omega)
end Go.Proofs.YtjcjpbjpbbdnlaaGreat

namespace Go.Av
end Go.Av
namespace Go.Proofs.YtjcjpbjpbbdnlaaGreat
open Go Go.Av
set_option maxRecDepth 4000
set_option maxHeartbeats 1000000
theorem anyExpr_eq (l:List UInt8) (hl:l.length≤2000) (w p:Int) (h0:0≤p) (h1:p < 500000000):∃ (e:Ex) (p':Int),callA C0 124 [.own 0 0, .int w] [Rd l p]=some (.i (.agg e.cells),[Rd l p'])∧p≤p'∧p'≤p + 50∧e.size≤39:=by
 obtain ⟨e,p1,he,a1,a2,a3⟩:=randomExpr3 l hl w p h0 (by omega)
 obtain ⟨k,hk,-,-⟩:=pick_eq l p1 18 (by omega) (by omega) hl
 rw [Ex.cells_eq] at he
 by_cases g0:k=0
 ·obtain ⟨x,hx,-⟩:=one_eq l (p1 + 1) (by omega) (by omega) hl [[.int 0],[.int 12],[.int 3],[.int 10]] (by simp) (by simp) (by simp)
  refine ⟨.mk x e.col e.val e.kids,p1 + 1 + 1,?_,by omega,by omega,by rw [Ex.size_eq] at a3 ⊢; simpa [Ex.kids] using a3⟩
  rw [callA_eq rfl Tryz.func124 rfl rfl]
  simp at hx
  simp [he,hk,g0,hx,Ex.cells]
 ·by_cases g1:k=1
  ·obtain ⟨x,hx,-⟩:=one_eq l (p1 + 1) (by omega) (by omega) hl [[.int (-1)],[.int 6],[.int w]] (by simp) (by simp) (by simp)
   refine ⟨.mk e.kind x e.val e.kids,p1 + 1 + 1,?_,by omega,by omega,by rw [Ex.size_eq] at a3 ⊢; simpa [Ex.kids] using a3⟩
   rw [callA_eq rfl Tryz.func124 rfl rfl]
   simp at hx
   simp [he,hk,g1,hx,Ex.cells]
  ·by_cases g2:k=2
   ·obtain ⟨v,p2,hv,q1,q2⟩:=anyValue_eq l (p1 + 1) (by omega) (by omega) hl
    refine ⟨.mk e.kind e.col v e.kids,p2,?_,by omega,by omega,by rw [Ex.size_eq] at a3 ⊢; simpa [Ex.kids] using a3⟩
    rw [callA_eq rfl Tryz.func124 rfl rfl]
    simp [he,hk,g2,hv,Ex.cells]
   ·refine ⟨e,p1 + 1,?_,by omega,by omega,by omega⟩
    rw [callA_eq rfl Tryz.func124 rfl rfl]
    simp [he,hk,g0,g1,g2,Ex.cells_eq e]
end Go.Proofs.YtjcjpbjpbbdnlaaGreat

namespace Go.Av
def colE (i:Nat):Ex:=.mk 1 i Val.zero []
def colsE (n:Nat):List Ex:=(List.range n).map colE
def getE (o:Option Ex):Ex:=o.getD Ex.zero
theorem resE_eq (o:Option Ex):resE o=.tup [.i (.agg (getE o).cells), .bool o.isSome]:=by cases o<;>rfl
end Go.Av
namespace Go.Proofs.YtjcjpbjpbbdnlaaGreat
open Go Go.Av
set_option maxRecDepth 4000
set_option maxHeartbeats 1000000
theorem isub_eq (e:Ex) (l:List Ex) (w:Int):callA C0 135 [.i (.agg e.cells), .i (.isl (Ex.cellsL l)), .int w] []=some (.tup [.i (.agg (getE (e.subst l w)).cells), .bool (e.subst l w).isSome],[]):=by
 rw [← resE_eq]
 cases h:e.ok l.length with
 | true=>exact isub_go h
 | false=>exact isub_no h
def WX (code:List UInt8) (e:Ex) (l:List Ex) (w:Int) (i:Nat):AS :=
 {env:=[(0, .i (.isl (bytesI code))),(2, .bool false),(3, .own 0 0),(4, .i (.isl (Ex.cellsL l))),(5, .int w),(6, .own 1 0),(7, .bool (e.subst l w).isSome),(8, .own 2 0),(9, .bool (e.subst l w).isSome),(10, .osl 3 5 0 i),(11, .int i),(12, .junk),(13, .junk),(16, .bool false),(52, .bool false),(65,jk i (.bool true))],
  st:=[some (.box (impI e.cells)),some (.box (impI (getE (e.subst l w)).cells)),some (.box (impI (getE (e.subst l w)).cells)),some (.arr 5 (Ex.cellsL (colsE i)))] }
end Go.Proofs.YtjcjpbjpbbdnlaaGreat

namespace Go.Proofs.YtjcjpbjpbbdnlaaGreat
open Go Go.Av
set_option maxRecDepth 4000
@[simp] theorem truthOf_eq (b:Bool) (n:Int):callA C0 185 [.i (.agg [.bool b, .int n])] []=some (.int (Val.tr ⟨b,n⟩),[]):=by
 rw [callA_eq rfl Tryz.func185 rfl rfl]
 cases b
 ·by_cases h:n=0<;>simp [Val.tr,h]
 ·simp [Val.tr]
@[simp] theorem null_eq:callA C0 184 [] []=some (.i (.agg [.bool true, .int 0]),[]):=by
 rw [callA_eq rfl Tryz.func184 rfl rfl]
 simp
@[simp] theorem number_eq (n:Int):callA C0 183 [.int n] []=some (.i (.agg [.bool false, .int n]),[]):=by
 rw [callA_eq rfl Tryz.func183 rfl rfl]
 simp
@[simp] theorem numberOrNull_eq (n:Int):callA C0 187 [.int n] []=some (.i (.agg [.bool (numV n).null, .int (numV n).n]),[]):=by
 rw [callA_eq rfl Tryz.func187 rfl rfl]
 by_cases h:-9999≤n∧n≤9999<;>simp [numV,Val.ok,h]
@[simp] theorem flag_eq (b:Bool):callA C0 188 [.bool b] []=some (.i (.agg [.bool (flagV b).null, .int (flagV b).n]),[]):=by
 rw [callA_eq rfl Tryz.func188 rfl rfl]
 cases b<;>simp [flagV]
@[simp] theorem tvalue_eq (t:Int):callA C0 186 [.int t] []=some (.i (.agg [.bool (trV t).null, .int (trV t).n]),[]):=by
 rw [callA_eq rfl Tryz.func186 rfl rfl]
 by_cases h:t=1
 ·simp [trV,h]
 ·by_cases h2:t=2<;>simp [trV,flagV,h,h2]
theorem combined_eq (k:Int) (a b:Val) (ha:a.ok=true) (hb:b.ok=true):callA C0 179 [.int k, .i (.agg [.bool a.null, .int a.n]), .i (.agg [.bool b.null, .int b.n])] []=some (.i (.agg [.bool (Val.cmb k a b).null, .int (Val.cmb k a b).n]),[]):=by
 rw [callA_eq rfl Tryz.func179 rfl rfl]
 obtain ⟨an,a⟩:=a
 obtain ⟨bn,b⟩:=b
 have ba:-9999≤a∧a≤9999:=by cases an<;>simp [Val.ok] at ha<;>omega
 have bb:-9999≤b∧b≤9999:=by cases bn<;>simp [Val.ok] at hb<;>omega
 have w1:IntKind.i64.wrap (a + b)=a + b:=wrap64 (by omega) (by omega)
 have w2:IntKind.i64.wrap (a - b)=a - b:=wrap64 (by omega) (by omega)
 have w3:IntKind.i64.wrap (a * b)=a * b:=by
  have h1:a * b≤9999 * 9999:=by
   have:=Int.mul_le_mul_of_natAbs_le (x:=a) (y:=b) (s:=9999) (t:=9999) (by omega) (by omega)
   omega
  have h2:-(9999 * 9999)≤a * b:=by
   have:=Int.mul_le_mul_of_natAbs_le (x:=-a) (y:=b) (s:=9999) (t:=9999) (by omega) (by omega)
   rw [Int.neg_mul] at this
   omega
  exact wrap64 (by omega) (by omega)
 by_cases k8:k=8
 ·by_cases hm:Val.tr ⟨bn,b⟩ < Val.tr ⟨an,a⟩<;>simp [Val.cmb,k8,hm]
 by_cases k9:k=9
 ·by_cases hm:Val.tr ⟨an,a⟩ < Val.tr ⟨bn,b⟩<;>simp [Val.cmb,k9,hm]
 cases an
 ·cases bn
  ·by_cases k3:k=3
   ·simp [Val.cmb,k3,w1]
   by_cases k4:k=4
   ·simp [Val.cmb,k4,w2]
   by_cases k5:k=5
   ·simp [Val.cmb,k5,w3]
   by_cases k6:k=6
   ·simp [Val.cmb,k6]
   ·simp [Val.cmb,k8,k9,k3,k4,k5,k6]
  ·simp [Val.cmb,k8,k9]
 ·simp [Val.cmb,k8,k9]
end Go.Proofs.YtjcjpbjpbbdnlaaGreat

namespace Go.Av
end Go.Av
namespace Go.Proofs.YtjcjpbjpbbdnlaaGreat
open Go Go.Av
set_option maxRecDepth 4000
set_option maxHeartbeats 1000000
end Go.Proofs.YtjcjpbjpbbdnlaaGreat

namespace Go.Av
def constE (v:Val):Ex:=.mk 2 0 v []
theorem constE_cells (v:Val):(constE v).cells=[.int 2, .int 0, .bool v.null, .int v.n, .isl []]:=by simp [constE,Ex.cells,Ex.cellsL]
end Go.Av
namespace Go.Proofs.YtjcjpbjpbbdnlaaGreat
open Go Go.Av
set_option maxRecDepth 4000
end Go.Proofs.YtjcjpbjpbbdnlaaGreat

namespace Go.Proofs.YtjcjpbjpbbdnlaaGreat
open Go Go.Av
set_option maxRecDepth 4000
set_option maxHeartbeats 1000000
def SB (e:Ex) (w:Int) (vs:List Val) (i:Nat):AS :=
 {env:=[(0, .i (.agg [.int e.kind, .int e.col, .bool e.val.null, .int e.val.n, .isl (Ex.cellsL e.kids)])),(1, .int w),(2, .i (.isl (valsL vs))),(3, .own 0 0),(6, .own 1 0),(7, .bool false),(8, .int i),(9, .junk),(10, .junk),(14,jk i (.bool true)),(22,jk i (.bool false)),(34, .junk),(41, .junk)],
  st:=[some (.box [.int e.kind, .int e.col, .bool e.val.null, .int e.val.n, .i (.isl (Ex.cellsL e.kids))]),some (.box [.int 0, .int 0, .bool false, .int 0, .nils])] }
end Go.Proofs.YtjcjpbjpbbdnlaaGreat

namespace Go.Av
end Go.Av

namespace Go.Proofs.YtjcjpbjpbbdnlaaGreat
open Go Go.Av
set_option maxRecDepth 4000
set_option maxHeartbeats 2000000
def xv (a b:Nat):AV:=if b=a then .osl 0 2 0 a else .osl 1 2 0 b
end Go.Proofs.YtjcjpbjpbbdnlaaGreat

namespace Go.Proofs.YtjcjpbjpbbdnlaaGreat
open Go Go.Av
set_option maxRecDepth 4000
set_option maxHeartbeats 2000000
def wi (n:Nat):Nat:=if n=0 then 1 else 2
end Go.Proofs.YtjcjpbjpbbdnlaaGreat

namespace Go.Proofs.YtjcjpbjpbbdnlaaGreat
open Go Go.Av
set_option maxRecDepth 4000
set_option maxHeartbeats 2000000
end Go.Proofs.YtjcjpbjpbbdnlaaGreat

namespace Go.Av
end Go.Av
namespace Go.Proofs.YtjcjpbjpbbdnlaaGreat
open Go Go.Av
set_option maxRecDepth 4000
set_option maxHeartbeats 2000000
end Go.Proofs.YtjcjpbjpbbdnlaaGreat

namespace Go.Proofs.YtjcjpbjpbbdnlaaGreat
open Go Go.Av
set_option maxRecDepth 4000
set_option maxHeartbeats 2000000
end Go.Proofs.YtjcjpbjpbbdnlaaGreat

namespace Go.Av
end Go.Av
namespace Go.Proofs.YtjcjpbjpbbdnlaaGreat
open Go Go.Av
set_option maxRecDepth 4000
set_option maxHeartbeats 2000000
end Go.Proofs.YtjcjpbjpbbdnlaaGreat

namespace Go.Proofs.YtjcjpbjpbbdnlaaGreat
open Go Go.Av
set_option maxRecDepth 4000
set_option maxHeartbeats 4000000
def colR (c:Int):Ex:=.mk 1 c Val.zero []
def two (k:Int) (a b:Ex):Ex:=.mk k 0 Val.zero [a,b]
theorem colR_cells (c:Int):(colR c).cells=[.int 1, .int c, .bool false, .int 0, .isl []]:=by simp [colR,Ex.cells,Ex.cellsL,Val.zero]
theorem two_cells (k:Int) (a b:Ex):(two k a b).cells=[.int k, .int 0, .bool false, .int 0, .isl [a.cells,b.cells]]:=by simp [two,Ex.cells,Ex.cellsL,Val.zero]
def costC:Nat→Nat
 | 0=>40
 | n + 1=>costC n + 40
theorem cond_step (l:List UInt8) (hl:l.length≤2000) (w:Int) (n c:Nat) (hn:n≤3) (p:Int) (h0:0≤p) (h1:p + 10 * n < 500000000)
  (ih:n=0∨∀ p:Int,0≤p→p + 10 * ((n:Int) - 1) < 500000000→∃ (e:Ex) (p':Int),callA C0 166 [.own 0 0, .int w, .int ((n:Int) - 1)] [Rd l p]=some (.i (.agg e.cells),[Rd l p'])∧p≤p'∧p'≤p + c∧e.size≤c) :
  ∃ (e:Ex) (p':Int),callA C0 166 [.own 0 0, .int w, .int n] [Rd l p]=some (.i (.agg e.cells),[Rd l p'])∧p≤p'∧p'≤p + (c + 40:Nat)∧e.size≤c + 40:=by
 obtain ⟨c1,hc1,-,-⟩:=pick_eq l p w h0 (by omega) hl
 obtain ⟨x,hx,-,-⟩:=pick_eq l (p + 1) 4 (by omega) (by omega) hl
 obtain ⟨t,ht,-,-⟩:=pick_eq l (p + 1 + 1) 3 (by omega) (by omega) hl
 obtain ⟨c2,hc2,-,-⟩:=pick_eq l (p + 1 + 1 + 1) w (by omega) (by omega) hl
 have hcon:=constant_eq ⟨false,x⟩
 rw [show (Ex.mk 2 0 ⟨false,x⟩ []).cells=(constE ⟨false,x⟩).cells from rfl] at hcon
 simp at hcon
 have wn:IntKind.i64.wrap ((n:Int) - 1)=n - 1:=wrap64 (by omega) (by omega)
 by_cases g:t=0
 ·obtain ⟨k,hk,-,-⟩:=pick_eq l (p + 1 + 1 + 1 + 1) 8 (by omega) (by omega) hl
  by_cases k0:k=0
  ·obtain ⟨e,p',he,a1,a2,a3⟩:=randomExpr2 l hl w (p + 1 + 1 + 1 + 1 + 1) (by omega) (by omega)
   refine ⟨e,p',?_,by omega,by omega,by omega⟩
   rw [callA_eq rfl Tryz.func166 rfl rfl]
   simp [hc1,hx,ht,hk,hcon,g,hc2,colR_cells,constE_cells,two_cells,Ex.cellsL,k0,he]
  by_cases k1:k=1
  ·refine ⟨.mk 10 0 Val.zero [.mk 11 0 Val.zero [colR c1]],p + 1 + 1 + 1 + 1 + 1,?_,by omega,by omega,by simp [colR,Ex.size,Ex.sizeL]⟩
   rw [callA_eq rfl Tryz.func166 rfl rfl]
   simp [hc1,hx,ht,hk,hcon,g,hc2,colR_cells,constE_cells,two_cells,Ex.cellsL,k1,Ex.cells,Val.zero]
  by_cases k2:k=2
  ·rcases ih with rfl | ih
   ·refine ⟨two 7 (colR c1) (colR c2),p + 1 + 1 + 1 + 1 + 1,?_,by omega,by omega,by simp [two,colR,constE,Ex.size,Ex.sizeL]⟩
    rw [callA_eq rfl Tryz.func166 rfl rfl]
    simp [hc1,hx,ht,hk,hcon,g,hc2,colR_cells,constE_cells,two_cells,Ex.cellsL,k2]
   ·by_cases n0:n=0
    ·refine ⟨two 7 (colR c1) (colR c2),p + 1 + 1 + 1 + 1 + 1,?_,by omega,by omega,by simp [two,colR,constE,Ex.size,Ex.sizeL]⟩
     rw [callA_eq rfl Tryz.func166 rfl rfl]
     simp [hc1,hx,ht,hk,hcon,g,hc2,colR_cells,constE_cells,two_cells,Ex.cellsL,k2,n0]
    ·obtain ⟨e,p',he,a1,a2,a3⟩:=ih (p + 1 + 1 + 1 + 1 + 1) (by omega) (by omega)
     refine ⟨two 8 e (two 6 (colR c1) (colR c2)),p',?_,by omega,by omega,by simp [two,colR,constE,Ex.size,Ex.sizeL]; omega⟩
     rw [callA_eq rfl Tryz.func166 rfl rfl]
     simp [hc1,hx,ht,hk,hcon,g,hc2,colR_cells,constE_cells,two_cells,Ex.cellsL,k2,n0,wn,he]
  by_cases k3:k=3
  ·refine ⟨two 7 (colR c2) (colR c1),p + 1 + 1 + 1 + 1 + 1,?_,by omega,by omega,by simp [two,colR,constE,Ex.size,Ex.sizeL]⟩
   rw [callA_eq rfl Tryz.func166 rfl rfl]
   simp [hc1,hx,ht,hk,hcon,g,hc2,colR_cells,constE_cells,two_cells,Ex.cellsL,k3]
  by_cases k4:k=4
  ·refine ⟨two 7 (colR c2) (colR c1),p + 1 + 1 + 1 + 1 + 1,?_,by omega,by omega,by simp [two,colR,constE,Ex.size,Ex.sizeL]⟩
   rw [callA_eq rfl Tryz.func166 rfl rfl]
   simp [hc1,hx,ht,hk,hcon,g,hc2,colR_cells,constE_cells,two_cells,Ex.cellsL,k4]
  by_cases k5:k=5
  ·refine ⟨two 7 (colR c1) (colR c2),p + 1 + 1 + 1 + 1 + 1,?_,by omega,by omega,by simp [two,colR,constE,Ex.size,Ex.sizeL]⟩
   rw [callA_eq rfl Tryz.func166 rfl rfl]
   simp [hc1,hx,ht,hk,hcon,g,hc2,colR_cells,constE_cells,two_cells,Ex.cellsL,k5]
  refine ⟨two 6 (colR c1) (colR c2),p + 1 + 1 + 1 + 1 + 1,?_,by omega,by omega,by simp [two,colR,constE,Ex.size,Ex.sizeL]⟩
  rw [callA_eq rfl Tryz.func166 rfl rfl]
  simp [hc1,hx,ht,hk,hcon,g,hc2,colR_cells,constE_cells,two_cells,Ex.cellsL,k0,k1,k2,k3,k4,k5]
 ·obtain ⟨k,hk,-,-⟩:=pick_eq l (p + 1 + 1 + 1) 8 (by omega) (by omega) hl
  by_cases k0:k=0
  ·obtain ⟨e,p',he,a1,a2,a3⟩:=randomExpr2 l hl w (p + 1 + 1 + 1 + 1) (by omega) (by omega)
   refine ⟨e,p',?_,by omega,by omega,by omega⟩
   rw [callA_eq rfl Tryz.func166 rfl rfl]
   simp [hc1,hx,ht,hk,hcon,g,colR_cells,constE_cells,two_cells,Ex.cellsL,k0,he]
  by_cases k1:k=1
  ·refine ⟨.mk 10 0 Val.zero [.mk 11 0 Val.zero [colR c1]],p + 1 + 1 + 1 + 1,?_,by omega,by omega,by simp [colR,Ex.size,Ex.sizeL]⟩
   rw [callA_eq rfl Tryz.func166 rfl rfl]
   simp [hc1,hx,ht,hk,hcon,g,colR_cells,constE_cells,two_cells,Ex.cellsL,k1,Ex.cells,Val.zero]
  by_cases k2:k=2
  ·rcases ih with rfl | ih
   ·refine ⟨two 7 (colR c1) (constE ⟨false,x⟩),p + 1 + 1 + 1 + 1,?_,by omega,by omega,by simp [two,colR,constE,Ex.size,Ex.sizeL]⟩
    rw [callA_eq rfl Tryz.func166 rfl rfl]
    simp [hc1,hx,ht,hk,hcon,g,colR_cells,constE_cells,two_cells,Ex.cellsL,k2]
   ·by_cases n0:n=0
    ·refine ⟨two 7 (colR c1) (constE ⟨false,x⟩),p + 1 + 1 + 1 + 1,?_,by omega,by omega,by simp [two,colR,constE,Ex.size,Ex.sizeL]⟩
     rw [callA_eq rfl Tryz.func166 rfl rfl]
     simp [hc1,hx,ht,hk,hcon,g,colR_cells,constE_cells,two_cells,Ex.cellsL,k2,n0]
    ·obtain ⟨e,p',he,a1,a2,a3⟩:=ih (p + 1 + 1 + 1 + 1) (by omega) (by omega)
     refine ⟨two 8 e (two 6 (colR c1) (constE ⟨false,x⟩)),p',?_,by omega,by omega,by simp [two,colR,constE,Ex.size,Ex.sizeL]; omega⟩
     rw [callA_eq rfl Tryz.func166 rfl rfl]
     simp [hc1,hx,ht,hk,hcon,g,colR_cells,constE_cells,two_cells,Ex.cellsL,k2,n0,wn,he]
  by_cases k3:k=3
  ·refine ⟨two 7 (constE ⟨false,x⟩) (colR c1),p + 1 + 1 + 1 + 1,?_,by omega,by omega,by simp [two,colR,constE,Ex.size,Ex.sizeL]⟩
   rw [callA_eq rfl Tryz.func166 rfl rfl]
   simp [hc1,hx,ht,hk,hcon,g,colR_cells,constE_cells,two_cells,Ex.cellsL,k3]
  by_cases k4:k=4
  ·refine ⟨two 7 (constE ⟨false,x⟩) (colR c1),p + 1 + 1 + 1 + 1,?_,by omega,by omega,by simp [two,colR,constE,Ex.size,Ex.sizeL]⟩
   rw [callA_eq rfl Tryz.func166 rfl rfl]
   simp [hc1,hx,ht,hk,hcon,g,colR_cells,constE_cells,two_cells,Ex.cellsL,k4]
  by_cases k5:k=5
  ·refine ⟨two 7 (colR c1) (constE ⟨false,x⟩),p + 1 + 1 + 1 + 1,?_,by omega,by omega,by simp [two,colR,constE,Ex.size,Ex.sizeL]⟩
   rw [callA_eq rfl Tryz.func166 rfl rfl]
   simp [hc1,hx,ht,hk,hcon,g,colR_cells,constE_cells,two_cells,Ex.cellsL,k5]
  refine ⟨two 6 (colR c1) (constE ⟨false,x⟩),p + 1 + 1 + 1 + 1,?_,by omega,by omega,by simp [two,colR,constE,Ex.size,Ex.sizeL]⟩
  rw [callA_eq rfl Tryz.func166 rfl rfl]
  simp [hc1,hx,ht,hk,hcon,g,colR_cells,constE_cells,two_cells,Ex.cellsL,k0,k1,k2,k3,k4,k5]
theorem cond_eq (l : List UInt8) (hl : l.length ≤ 2000) (w : Int) : ∀ (n : Nat), n ≤ 3 → ∀ p : Int, 0 ≤ p → p + 10 * n < 500000000 → ∃ (e : Ex) (p' : Int), callA C0 166 [.own 0 0, .int w, .int n] [Rd l p] = some (.i (.agg e.cells), [Rd l p']) ∧ p ≤ p' ∧ p' ≤ p + costC n ∧ e.size ≤ costC n
  | 0, hn, p, h0, h1 => cond_step l hl w 0 0 hn p h0 h1 (.inl rfl)
  | n + 1, hn, p, h0, h1 => by
    refine cond_step l hl w (n + 1) (costC n) hn p h0 h1 (.inr fun q q0 q1 => ?_)
    rw [show ((n + 1 : Nat) : Int) - 1 = n by omega] at q1 ⊢
    exact cond_eq l hl w n (by omega) q q0 q1
end Go.Proofs.YtjcjpbjpbbdnlaaGreat

namespace Go.Av
theorem htL_map (l m : List Ex) (h : l.map Ex.ht = m.map Ex.ht) : Ex.htL l = Ex.htL m := by
  induction l generalizing m with
  | nil => cases m with | nil => rfl | cons b m => simp at h
  | cons a l ih =>
    cases m with
    | nil => simp at h
    | cons b m => simp at h; simp only [Ex.htL, h.1, ih m h.2]
end Go.Av
namespace Go.Proofs.YtjcjpbjpbbdnlaaGreat
open Go Go.Av
set_option maxRecDepth 4000
set_option maxHeartbeats 2000000
theorem randomCondition_eq (l:List UInt8) (hl:l.length≤2000) (w p:Int) (h0:0≤p) (h1:p < 400000000):∃ (e:Ex) (p':Int),callA C0 152 [.own 0 0, .int w] [Rd l p]=some (.i (.agg e.cells),[Rd l p'])∧p≤p'∧p'≤p + 120∧e.size≤120:=by
 obtain ⟨e,p',he,a1,a2,a3⟩:=cond_eq l hl w 2 (by omega) p h0 (by omega)
 refine ⟨e,p',?_,a1,a2,a3⟩
 rw [callA_eq rfl Tryz.func152 rfl rfl]
 rw [show ((2:Nat):Int)=2 from rfl,Ex.cells_eq] at he
 rw [Ex.cells_eq]
 simp [he]
end Go.Proofs.YtjcjpbjpbbdnlaaGreat

namespace Go.Proofs.YtjcjpbjpbbdnlaaGreat.P
open Go Go.Av
set_option maxRecDepth 4000
theorem partCases (n:Int):n=1∨n=2∨n=3∨n=4∨n=5∨n=6∨n=7∨n=8∨(n≠1∧n≠2∧n≠3∧n≠4∧n≠5∧n≠6∧n≠7∧n≠8):=by omega
@[simp] theorem partsOfKind_eq (n : Int) : callA C0 109 [.int n] [] = some (.tup [.int (nExprs n), .int (nKids n)], []) := by
  rw [callA_eq rfl Tryz.func109 rfl rfl]
  rcases partCases n with rfl | rfl | rfl | rfl | rfl | rfl | rfl | rfl | ⟨h1, h2, h3, h4, h5, h6, h7, h8⟩
  all_goals first
    | (simp [nExprs, nKids]; done)
    | (have e1 : nExprs n = 0 := by unfold nExprs; rw [if_neg (by omega)]
       have e2 : nKids n = -1 := by unfold nKids; rw [if_neg (by omega), if_neg (by omega), if_neg (by omega)]
       simp [e1, e2, h1, h2, h3, h4, h5, h6, h7, h8])
def pv (cs:List Int) (i:Nat):Int:=((-1) :: cs)[i]?.getD 0
theorem pv_succ {cs:List Int} {i:Nat} {c:Int} (h:cs[i]?=some c):pv cs (i + 1)=c:=by simp [pv,h]
theorem cols_nth {cs:List Int} {i:Nat} {x:Int×Int} (h:(cs.zip (-1 :: cs))[i]?=some x):cs[i]?=some x.1∧pv cs i=x.2:=by
 rw [List.getElem?_zip_eq_some] at h
 exact ⟨h.1,by simp [pv,h.2]⟩
theorem cols_len (cs:List Int):(cs.zip (-1 :: cs)).length=cs.length:=by simp
def GX (cs:List Int) (w:Int) (i:Nat):AS :=
 {env:=[(0, .i (.isl (intsL cs))),(1, .int w),(4, .bool false),(5, .int (pv cs i)),(7,jk i (.int (pv cs i))),(10, .bool false),(11, .i (.isl (intsL cs))),(12, .int cs.length),(13, .int i),(14,jk i (.bool true)),(24,jk i (.bool false))],st:=[] }
theorem validGroupColumns_eq (cs:List Int) (w:Int):callA C0 144 [.i (.isl (intsL cs)), .int w] []=some (.bool (decide (cs.length < 6) && colsOk w cs),[]):=by
 rw [callA_eq rfl Tryz.func144 rfl rfl]
 by_cases h6:cs.length < 6
 case neg=>simp [h6,show (6:Int)≤cs.length by omega]
 simp [h6,show ¬ (6:Int)≤cs.length by omega]
 obtain ⟨j,h1,h2⟩:=upto_bad (fun x:Int×Int=>decide (x.2 < x.1∧x.1 < w)) (cs.zip (-1 :: cs))
 rw [loop_to (GX cs w) j (by simp [GX,pv])]
 ·rw [execA_loop]
  rcases h2 with ⟨hj,ha⟩ | ⟨x,h3,_,h4,ha⟩
  ·rw [cols_len] at hj
   have ha:colsOk w cs=true:=ha
   simp [GX,hj,ha]
  ·obtain ⟨c1,c2⟩:=cols_nth h3
   have r1:=(List.getElem?_eq_some_iff.1 c1).1
   have r2:=intsL_nth c1
   have hb:¬ (x.2 < x.1∧x.1 < w):=by simpa using h4
   have ha:colsOk w cs=false:=ha
   by_cases hx:x.1≤x.2
   ·simp [GX,r1,r2,c2,hx,ha]
   ·simp [GX,r1,r2,c2,hx,ha,show w≤x.1 by omega]
 ·intro i hi
  obtain ⟨x,h3,_,h4⟩:=h1 i hi
  obtain ⟨c1,c2⟩:=cols_nth h3
  have r1:=(List.getElem?_eq_some_iff.1 c1).1
  have r2:=intsL_nth c1
  have c3:=pv_succ c1
  have hb:x.2 < x.1∧x.1 < w:=by simpa using h4
  have w2:IntKind.i64.wrap ((i:Int) + 1)=i + 1:=wrap64 (by omega) (by omega)
  simp [GX,r1,r2,c2,c3,w2,show ¬ x.1≤x.2 by omega,show ¬ w≤x.1 by omega]
def WX (p:Pn) (a b y:Int) (x14:Bool) (n21 n22:Nat) (x22:Bool) (n26 n27:Nat) (x27:Bool) (i:Nat):AS :=
 {env:=[(0, .i (.iref [.int p.kind, .int p.table, .isl (Ex.cellsL p.exprs), .isl (intsL p.cols), .isl (Pn.cellsL p.kids)])),(1, .int a),(2, .int b),(6, .int 0),(7, .int y),(8,jk i (.int (i - 1))),(13, .int p.kind),(14, .bool x14),(21,jk n21 (.bool false)),(22,jk n22 (.bool x22)),(26,jk n26 (.bool false)),(27,jk n27 (.bool x27)),(35, .junk),(46, .int p.exprs.length),(47, .int i),(48,jk i (.bool true)),(59,jk i (.bool false)),(65, .junk)],st:=[] }
theorem widthOver_eq (p:Pn) (a b:Int) (ha:0≤a∧a≤6) (hb:0≤b∧b≤6) (hd:p.headOk=true):callA C0 110 [.i (.iref p.cells), .int a, .int b] []=some (.int (wdOver p.kind p.exprs p.cols a b),[]):=by
 rw [callA_eq rfl Tryz.func110 rfl rfl]
 have he:=Pn.headOk_exprs hd
 rw [Pn.cells_eq]
 have hg:=validGroupColumns_eq p.cols a
 have w1:IntKind.i64.wrap (a + b)=a + b:=wrap64 (by omega) (by omega)
 by_cases h6:p.kind=6
 ·have h8:p.kind≠8:=by omega
  have h4:p.kind≠5:=by omega
  have hz:p.exprs=[]:=by
   simp only [Pn.headOk,Bool.and_eq_true,decide_eq_true_eq,h6] at hd
   have:=hd.2.1
   simp [nExprs] at this
   exact this
  by_cases hab:a=b
  ·subst hab
   simp [h6]
   rw [execA_loop]
   simp [hz,h6,wdOver]
  ·simp [h6,hab,wdOver]
 by_cases h8:p.kind=8
 ·by_cases h9:p.cols.length < 6
  ·have w3:IntKind.i64.wrap ((p.cols.length:Int) + 1)=p.cols.length + 1:=wrap64 (by omega) (by omega)
   cases hc:colsOk a p.cols<;>simp [h8,hg,h9,hc,wdOver,w3]
  ·simp [h8,hg,h9,wdOver]
 by_cases h45:p.kind=4∨p.kind=5
 ·by_cases hs:a + b≤6
  case neg=>rcases h45 with h4 | h4<;>simp [h4,w1,show 6 < a + b by omega,wdOver,hs]
  have h4:True:=trivial
  rcases h45 with h45 | h45
  ·simp [h45,w1,show ¬ 6 < a + b by omega]
   obtain ⟨j,h1,h2⟩:=upto_bad (Ex.ok (a + b)) p.exprs
   rw [loop_to (WX p a b (a + b) true 1 0 false 0 0 false) j (by simp [WX,h45])]
   ·rw [execA_loop]
    rcases h2 with ⟨hj,hall⟩ | ⟨x,h3,_,h5,hall⟩
    ·simp [WX,hj,hall,wdOver,h45,hs]
    ·have r1:=(List.getElem?_eq_some_iff.1 h3).1
     have r2:=Ex.cellsL_nth h3
     have r3:=ok_eq (a + b) x
     rw [h5] at r3
     rw [Ex.cells_eq] at r2 r3
     simp [WX,r1,r2,r3,hall,wdOver,h45,hs]
   ·intro i hi
    obtain ⟨x,h3,_,h5⟩:=h1 i hi
    have r1:=(List.getElem?_eq_some_iff.1 h3).1
    have r2:=Ex.cellsL_nth h3
    have r3:=ok_eq (a + b) x
    rw [h5] at r3
    rw [Ex.cells_eq] at r2 r3
    have w2:IntKind.i64.wrap ((i:Int) + 1)=i + 1:=wrap64 (by omega) (by omega)
    simp [WX,r1,r2,r3,w2,h45]
  ·simp [h45,w1,show ¬ 6 < a + b by omega]
   obtain ⟨j,h1,h2⟩:=upto_bad (Ex.ok (a + b)) p.exprs
   rw [loop_to (WX p a b (a + b) true 1 0 false 0 0 false) j (by simp [WX,h45])]
   ·rw [execA_loop]
    rcases h2 with ⟨hj,hall⟩ | ⟨x,h3,_,h5,hall⟩
    ·simp [WX,hj,hall,wdOver,h45,hs]
    ·have r1:=(List.getElem?_eq_some_iff.1 h3).1
     have r2:=Ex.cellsL_nth h3
     have r3:=ok_eq (a + b) x
     rw [h5] at r3
     rw [Ex.cells_eq] at r2 r3
     simp [WX,r1,r2,r3,hall,wdOver,h45,hs]
   ·intro i hi
    obtain ⟨x,h3,_,h5⟩:=h1 i hi
    have r1:=(List.getElem?_eq_some_iff.1 h3).1
    have r2:=Ex.cellsL_nth h3
    have r3:=ok_eq (a + b) x
    rw [h5] at r3
    rw [Ex.cells_eq] at r2 r3
    have w2:IntKind.i64.wrap ((i:Int) + 1)=i + 1:=wrap64 (by omega) (by omega)
    simp [WX,r1,r2,r3,w2,h45]
 have h4:p.kind≠4:=by omega
 have h5':p.kind≠5:=by omega
 simp [h6,h8,h4,h5']
 obtain ⟨j,h1,h2⟩:=upto_bad (Ex.ok (a)) p.exprs
 rw [loop_to (WX p a b a false 0 1 false 0 1 false) j (by simp [WX,h6,h8,h5'])]
 ·rw [execA_loop]
  rcases h2 with ⟨hj,hall⟩ | ⟨x,h3,_,h5,hall⟩
  ·by_cases h3':p.kind=3
   ·simp [WX,hj,hall,wdOver,h3']
   ·simp [WX,hj,hall,wdOver,h6,h8,h4,h5',h3']
  ·have r1:=(List.getElem?_eq_some_iff.1 h3).1
   have r2:=Ex.cellsL_nth h3
   have r3:=ok_eq (a) x
   rw [h5] at r3
   rw [Ex.cells_eq] at r2 r3
   by_cases h3':p.kind=3
   ·simp [WX,r1,r2,r3,hall,wdOver,h3']
   ·simp [WX,r1,r2,r3,hall,wdOver,h6,h8,h4,h5',h3']
 ·intro i hi
  obtain ⟨x,h3,_,h5⟩:=h1 i hi
  have r1:=(List.getElem?_eq_some_iff.1 h3).1
  have r2:=Ex.cellsL_nth h3
  have r3:=ok_eq (a) x
  rw [h5] at r3
  rw [Ex.cells_eq] at r2 r3
  have w2:IntKind.i64.wrap ((i:Int) + 1)=i + 1:=wrap64 (by omega) (by omega)
  simp [WX,r1,r2,r3,w2]
end Go.Proofs.YtjcjpbjpbbdnlaaGreat.P

namespace Go.Proofs.YtjcjpbjpbbdnlaaGreat.P
open Go Go.Av
set_option maxRecDepth 4000
set_option maxHeartbeats 2000000
@[simp] theorem nKids_1:nKids 1=0:=by decide
@[simp] theorem nExprs_1:nExprs 1=0:=by decide
@[simp] theorem nKids_2:nKids 2=1:=by decide
@[simp] theorem nExprs_2:nExprs 2=1:=by decide
@[simp] theorem nKids_3:nKids 3=1:=by decide
@[simp] theorem nExprs_3:nExprs 3=1:=by decide
@[simp] theorem nKids_4:nKids 4=2:=by decide
@[simp] theorem nExprs_4:nExprs 4=1:=by decide
@[simp] theorem nKids_5:nKids 5=2:=by decide
@[simp] theorem nExprs_5:nExprs 5=1:=by decide
@[simp] theorem nKids_6:nKids 6=2:=by decide
@[simp] theorem nExprs_6:nExprs 6=0:=by decide
@[simp] theorem nKids_7:nKids 7=1:=by decide
@[simp] theorem nExprs_7:nExprs 7=0:=by decide
@[simp] theorem nKids_8:nKids 8=1:=by decide
@[simp] theorem nExprs_8:nExprs 8=0:=by decide
theorem nKids_no {k:Int} (h:k≠1∧k≠2∧k≠3∧k≠4∧k≠5∧k≠6∧k≠7∧k≠8):nKids k=-1:=by
 unfold nKids; rw [if_neg (by omega),if_neg (by omega),if_neg (by omega)]
theorem below_other {ws:List Int} {t:Int} {es:List Ex} {cs:List Int} {ks:List Pn} {lv:Nat} {k:Int} (h:k≠1∧k≠2∧k≠3∧k≠4∧k≠5∧k≠6∧k≠7∧k≠8):callA C0 60 [.i (.iref [.int k, .int t, .isl (Ex.cellsL es), .isl (intsL cs), .isl (Pn.cellsL ks)]), .i (.isl (intsL ws)), .int lv] []=some (.int 0,[]):=by
 rw [callA_eq rfl Tryz.func60 rfl rfl]
 have c1:¬ (ks.length:Int)=-1:=by omega
 have hn:=nKids_no h
 simp [h.2.2.1,hn,c1]
theorem below_no1 {ws:List Int} {t:Int} {es:List Ex} {cs:List Int} {ks:List Pn} {lv:Nat} (h:¬ ((ks.length:Int)=0∧(es.length:Int)=0∧True∧cs=[])):callA C0 60 [.i (.iref [.int 1, .int t, .isl (Ex.cellsL es), .isl (intsL cs), .isl (Pn.cellsL ks)]), .i (.isl (intsL ws)), .int lv] []=some (.int 0,[]):=by
 rw [callA_eq rfl Tryz.func60 rfl rfl]
 by_cases c1:(ks.length:Int)=0
 case neg=>simp at c1; simp [c1]
 by_cases c2:(es.length:Int)=0
 case neg=>simp at c2; simp [c1,c2]
 by_cases c5:cs=[]
 case neg=>simp [c1,c2,c5]
 exact absurd (by simp [c1,c2,c5]) h
theorem below_no2 {ws:List Int} {t:Int} {es:List Ex} {cs:List Int} {ks:List Pn} {lv:Nat} (h:¬ ((ks.length:Int)=1∧(es.length:Int)=1∧lv≠0∧t=0∧cs=[])):callA C0 60 [.i (.iref [.int 2, .int t, .isl (Ex.cellsL es), .isl (intsL cs), .isl (Pn.cellsL ks)]), .i (.isl (intsL ws)), .int lv] []=some (.int 0,[]):=by
 rw [callA_eq rfl Tryz.func60 rfl rfl]
 by_cases c1:(ks.length:Int)=1
 case neg=>simp [c1]
 by_cases c2:(es.length:Int)=1
 case neg=>simp [c1,c2]
 by_cases c3:lv=0
 case pos=>subst c3; simp [c1,c2]
 have c3':¬ (lv:Int)=0:=by omega
 by_cases c4:t=0
 case neg=>simp [c1,c2,c3,c3',c4]
 by_cases c5:cs=[]
 case neg=>simp [c1,c2,c3,c3',c4,c5]
 exact absurd (by simp [c1,c2,c3,c3',c4,c5]) h
theorem below_no3 {ws:List Int} {t:Int} {es:List Ex} {cs:List Int} {ks:List Pn} {lv:Nat} (h:¬ ((ks.length:Int)=1∧(es.length:Int)=(if okWidth es.length=true then (es.length:Int) else 1)∧lv≠0∧t=0∧cs=[])):callA C0 60 [.i (.iref [.int 3, .int t, .isl (Ex.cellsL es), .isl (intsL cs), .isl (Pn.cellsL ks)]), .i (.isl (intsL ws)), .int lv] []=some (.int 0,[]):=by
 rw [callA_eq rfl Tryz.func60 rfl rfl]
 cases hv:okWidth es.length
 ·have hq:(es.length:Int)≠1:=fun hq=>by rw [hq] at hv; simp [okWidth] at hv
  by_cases c1:(ks.length:Int)=1
  case neg=>simp [hv,c1]
  simp [hv,c1,hq]
 by_cases c1:(ks.length:Int)=1
 case neg=>simp [hv,c1]
 by_cases c3:lv=0
 case pos=>subst c3; simp [hv,c1]
 have c3':¬ (lv:Int)=0:=by omega
 by_cases c4:t=0
 case neg=>simp [hv,c1,c3,c3',c4]
 by_cases c5:cs=[]
 case neg=>simp [hv,c1,c3,c3',c4,c5]
 exact absurd (by simp [hv,c1,c3,c4,c5]) h
theorem below_no4 {ws:List Int} {t:Int} {es:List Ex} {cs:List Int} {ks:List Pn} {lv:Nat} (h:¬ ((ks.length:Int)=2∧(es.length:Int)=1∧lv≠0∧t=0∧cs=[])):callA C0 60 [.i (.iref [.int 4, .int t, .isl (Ex.cellsL es), .isl (intsL cs), .isl (Pn.cellsL ks)]), .i (.isl (intsL ws)), .int lv] []=some (.int 0,[]):=by
 rw [callA_eq rfl Tryz.func60 rfl rfl]
 by_cases c1:(ks.length:Int)=2
 case neg=>simp [c1]
 by_cases c2:(es.length:Int)=1
 case neg=>simp [c1,c2]
 by_cases c3:lv=0
 case pos=>subst c3; simp [c1,c2]
 have c3':¬ (lv:Int)=0:=by omega
 by_cases c4:t=0
 case neg=>simp [c1,c2,c3,c3',c4]
 by_cases c5:cs=[]
 case neg=>simp [c1,c2,c3,c3',c4,c5]
 exact absurd (by simp [c1,c2,c3,c3',c4,c5]) h
theorem below_no5 {ws:List Int} {t:Int} {es:List Ex} {cs:List Int} {ks:List Pn} {lv:Nat} (h:¬ ((ks.length:Int)=2∧(es.length:Int)=1∧lv≠0∧t=0∧cs=[])):callA C0 60 [.i (.iref [.int 5, .int t, .isl (Ex.cellsL es), .isl (intsL cs), .isl (Pn.cellsL ks)]), .i (.isl (intsL ws)), .int lv] []=some (.int 0,[]):=by
 rw [callA_eq rfl Tryz.func60 rfl rfl]
 by_cases c1:(ks.length:Int)=2
 case neg=>simp [c1]
 by_cases c2:(es.length:Int)=1
 case neg=>simp [c1,c2]
 by_cases c3:lv=0
 case pos=>subst c3; simp [c1,c2]
 have c3':¬ (lv:Int)=0:=by omega
 by_cases c4:t=0
 case neg=>simp [c1,c2,c3,c3',c4]
 by_cases c5:cs=[]
 case neg=>simp [c1,c2,c3,c3',c4,c5]
 exact absurd (by simp [c1,c2,c3,c3',c4,c5]) h
theorem below_no6 {ws:List Int} {t:Int} {es:List Ex} {cs:List Int} {ks:List Pn} {lv:Nat} (h:¬ ((ks.length:Int)=2∧(es.length:Int)=0∧lv≠0∧t=0∧cs=[])):callA C0 60 [.i (.iref [.int 6, .int t, .isl (Ex.cellsL es), .isl (intsL cs), .isl (Pn.cellsL ks)]), .i (.isl (intsL ws)), .int lv] []=some (.int 0,[]):=by
 rw [callA_eq rfl Tryz.func60 rfl rfl]
 by_cases c1:(ks.length:Int)=2
 case neg=>simp [c1]
 by_cases c2:(es.length:Int)=0
 case neg=>simp at c2; simp [c1,c2]
 by_cases c3:lv=0
 case pos=>subst c3; simp [c1,c2]
 have c3':¬ (lv:Int)=0:=by omega
 by_cases c4:t=0
 case neg=>simp [c1,c2,c3,c3',c4]
 by_cases c5:cs=[]
 case neg=>simp [c1,c2,c3,c3',c4,c5]
 exact absurd (by simp [c1,c2,c3,c3',c4,c5]) h
theorem below_no7 {ws:List Int} {t:Int} {es:List Ex} {cs:List Int} {ks:List Pn} {lv:Nat} (h:¬ ((ks.length:Int)=1∧(es.length:Int)=0∧lv≠0∧t=0∧cs=[])):callA C0 60 [.i (.iref [.int 7, .int t, .isl (Ex.cellsL es), .isl (intsL cs), .isl (Pn.cellsL ks)]), .i (.isl (intsL ws)), .int lv] []=some (.int 0,[]):=by
 rw [callA_eq rfl Tryz.func60 rfl rfl]
 by_cases c1:(ks.length:Int)=1
 case neg=>simp [c1]
 by_cases c2:(es.length:Int)=0
 case neg=>simp at c2; simp [c1,c2]
 by_cases c3:lv=0
 case pos=>subst c3; simp [c1,c2]
 have c3':¬ (lv:Int)=0:=by omega
 by_cases c4:t=0
 case neg=>simp [c1,c2,c3,c3',c4]
 by_cases c5:cs=[]
 case neg=>simp [c1,c2,c3,c3',c4,c5]
 exact absurd (by simp [c1,c2,c3,c3',c4,c5]) h
theorem below_no8 {ws:List Int} {t:Int} {es:List Ex} {cs:List Int} {ks:List Pn} {lv:Nat} (h:¬ ((ks.length:Int)=1∧(es.length:Int)=0∧lv≠0∧t=0)):callA C0 60 [.i (.iref [.int 8, .int t, .isl (Ex.cellsL es), .isl (intsL cs), .isl (Pn.cellsL ks)]), .i (.isl (intsL ws)), .int lv] []=some (.int 0,[]):=by
 rw [callA_eq rfl Tryz.func60 rfl rfl]
 by_cases c1:(ks.length:Int)=1
 case neg=>simp [c1]
 by_cases c2:(es.length:Int)=0
 case neg=>simp at c2; simp [c1,c2]
 by_cases c3:lv=0
 case pos=>subst c3; simp [c1,c2]
 have c3':¬ (lv:Int)=0:=by omega
 by_cases c4:t=0
 case neg=>simp [c1,c2,c3,c3',c4]
 exact absurd (by simp [c1,c2,c3,c3',c4]) h
end Go.Proofs.YtjcjpbjpbbdnlaaGreat.P

namespace Go.Proofs.YtjcjpbjpbbdnlaaGreat.P
open Go Go.Av
set_option maxRecDepth 4000
set_option maxHeartbeats 2000000
theorem below_yes1 {ws : List Int} {t : Int} {lv : Nat} : callA C0 60 [.i (.iref [.int 1, .int t, .isl (Ex.cellsL []), .isl (intsL []), .isl (Pn.cellsL [])]), .i (.isl (intsL ws)), .int lv] [] = some (.int (if 0 ≤ t then (ws[t.toNat]?).getD 0 else 0), []) := by
  rw [callA_eq rfl Tryz.func60 rfl rfl]
  by_cases h0 : 0 ≤ t
  case neg => simp [Ex.cellsL, Pn.cellsL, intsL, h0, show t < 0 by omega]
  cases hx : ws[t.toNat]? with
  | none =>
    have := List.getElem?_eq_none_iff.1 hx
    simp [Ex.cellsL, Pn.cellsL, intsL, h0, show ¬ t < 0 by omega, show (ws.length : Int) ≤ t by omega]
  | some x =>
    have r1 := (List.getElem?_eq_some_iff.1 hx).1
    have r2 := intsL_nth hx
    simp [Ex.cellsL, Pn.cellsL, intsL, h0, show ¬ t < 0 by omega, show ¬ (ws.length : Int) ≤ t by omega, r2, show t < ws.length by omega]
theorem below_yes2 {ws:List Int} {es:List Ex} {a:Pn} {lv:Nat} {va:Int} (hl:lv≠0) (hl8:lv≤8) (hd:Pn.headOk (Pn.mk 2 0 es [] [a])=true) (ha:callA C0 60 [.i (.iref a.cells), .i (.isl (intsL ws)), .int (lv - 1:Nat)] []=some (.int va,[])) (ra:0≤va∧va≤6):callA C0 60 [.i (.iref [.int 2, .int 0, .isl (Ex.cellsL es), .isl (intsL []), .isl (Pn.cellsL [a])]), .i (.isl (intsL ws)), .int lv] []=some (.int (if va=0 then 0 else wdOver 2 es [] va 0),[]):=by
 rw [callA_eq rfl Tryz.func60 rfl rfl]
 have c3':¬ (lv:Int)=0:=by omega
 have w1:IntKind.i64.wrap ((lv:Int) - 1)=(lv - 1:Nat):=by rw [wrap64 (by omega) (by omega)]; omega
 have r0:nthE [a.cells] 0=some a.cells:=rfl
 have hov:=widthOver_eq (Pn.mk 2 0 es [] [a]) va 0 ra (by omega) hd
 rw [Pn.cells_mk] at hov
 simp only [Pn.kind_mk,Pn.exprs_mk,Pn.cols_mk,Pn.cellsL,intsL,Ex.cellsL] at hov
 rw [Pn.cells_eq a] at ha hov r0
 have c2:(es.length:Int)=1:=by
  simp only [Pn.headOk,Bool.and_eq_true,decide_eq_true_eq,Pn.exprs_mk,Pn.kind_mk] at hd
  simpa using hd.2.1
 simp [c2,hl,c3',Pn.cellsL,intsL,Ex.cellsL]
 rw [Pn.cells_eq a]
 rw [execA_loop]
 by_cases z1:va=0
 case pos=>simp [w1,ha,r0,z1]
 simp [w1,ha,r0,z1,wrap_1]
 rw [execA_loop]
 simp [hov,z1]
theorem below_yes3 {ws:List Int} {es:List Ex} {a:Pn} {lv:Nat} {va:Int} (hl:lv≠0) (hl8:lv≤8) (hd:Pn.headOk (Pn.mk 3 0 es [] [a])=true) (ha:callA C0 60 [.i (.iref a.cells), .i (.isl (intsL ws)), .int (lv - 1:Nat)] []=some (.int va,[])) (ra:0≤va∧va≤6):callA C0 60 [.i (.iref [.int 3, .int 0, .isl (Ex.cellsL es), .isl (intsL []), .isl (Pn.cellsL [a])]), .i (.isl (intsL ws)), .int lv] []=some (.int (if va=0 then 0 else wdOver 3 es [] va 0),[]):=by
 rw [callA_eq rfl Tryz.func60 rfl rfl]
 have c3':¬ (lv:Int)=0:=by omega
 have w1:IntKind.i64.wrap ((lv:Int) - 1)=(lv - 1:Nat):=by rw [wrap64 (by omega) (by omega)]; omega
 have r0:nthE [a.cells] 0=some a.cells:=rfl
 have hov:=widthOver_eq (Pn.mk 3 0 es [] [a]) va 0 ra (by omega) hd
 rw [Pn.cells_mk] at hov
 simp only [Pn.kind_mk,Pn.exprs_mk,Pn.cols_mk,Pn.cellsL,intsL,Ex.cellsL] at hov
 rw [Pn.cells_eq a] at ha hov r0
 have hv:okWidth es.length=true∨(es.length:Int)=1:=by
  simp only [Pn.headOk,Bool.and_eq_true,decide_eq_true_eq,Pn.exprs_mk,Pn.kind_mk] at hd
  have:=hd.2.1
  split at this
  ·rename_i h; exact .inl h.2
  ·exact .inr (by simpa using this)
 have hv:okWidth es.length=true:=by
  rcases hv with h | h
  ·exact h
  ·rw [h]; decide
 simp [hv,hl,c3',Pn.cellsL,intsL,Ex.cellsL]
 rw [Pn.cells_eq a]
 rw [execA_loop]
 by_cases z1:va=0
 case pos=>simp [w1,ha,r0,z1]
 simp [w1,ha,r0,z1,wrap_1]
 rw [execA_loop]
 simp [hov,z1]
theorem below_yes4 {ws:List Int} {es:List Ex} {a b:Pn} {lv:Nat} {va vb:Int} (hl:lv≠0) (hl8:lv≤8) (hd:Pn.headOk (Pn.mk 4 0 es [] [a,b])=true) (ha:callA C0 60 [.i (.iref a.cells), .i (.isl (intsL ws)), .int (lv - 1:Nat)] []=some (.int va,[])) (ra:0≤va∧va≤6) (hb:callA C0 60 [.i (.iref b.cells), .i (.isl (intsL ws)), .int (lv - 1:Nat)] []=some (.int vb,[])) (rb:0≤vb∧vb≤6):callA C0 60 [.i (.iref [.int 4, .int 0, .isl (Ex.cellsL es), .isl (intsL []), .isl (Pn.cellsL [a,b])]), .i (.isl (intsL ws)), .int lv] []=some (.int (if va=0∨vb=0 then 0 else wdOver 4 es [] va vb),[]):=by
 rw [callA_eq rfl Tryz.func60 rfl rfl]
 have c3':¬ (lv:Int)=0:=by omega
 have w1:IntKind.i64.wrap ((lv:Int) - 1)=(lv - 1:Nat):=by rw [wrap64 (by omega) (by omega)]; omega
 have r0:nthE [a.cells,b.cells] 0=some a.cells:=rfl
 have r1:nthE [a.cells,b.cells] 1=some b.cells:=rfl
 have hov:=widthOver_eq (Pn.mk 4 0 es [] [a,b]) va vb ra rb hd
 rw [Pn.cells_mk] at hov
 simp only [Pn.kind_mk,Pn.exprs_mk,Pn.cols_mk,Pn.cellsL,intsL,Ex.cellsL] at hov
 rw [Pn.cells_eq a] at ha hov r0 r1
 rw [Pn.cells_eq b] at hb hov r0 r1
 have c2:(es.length:Int)=1:=by
  simp only [Pn.headOk,Bool.and_eq_true,decide_eq_true_eq,Pn.exprs_mk,Pn.kind_mk] at hd
  simpa using hd.2.1
 simp [c2,hl,c3',Pn.cellsL,intsL,Ex.cellsL]
 rw [Pn.cells_eq a,Pn.cells_eq b]
 rw [execA_loop]
 by_cases z1:va=0
 case pos=>simp [w1,ha,r0,z1]
 simp [w1,ha,r0,z1,wrap_1]
 rw [execA_loop]
 by_cases z2:vb=0
 case pos=>simp [w1,hb,r1,z2]
 simp [w1,hb,r1,z1,z2,wrap64 (x:=2) (by omega) (by omega)]
 rw [execA_loop]
 simp [hov,z1,z2]
theorem below_yes5 {ws:List Int} {es:List Ex} {a b:Pn} {lv:Nat} {va vb:Int} (hl:lv≠0) (hl8:lv≤8) (hd:Pn.headOk (Pn.mk 5 0 es [] [a,b])=true) (ha:callA C0 60 [.i (.iref a.cells), .i (.isl (intsL ws)), .int (lv - 1:Nat)] []=some (.int va,[])) (ra:0≤va∧va≤6) (hb:callA C0 60 [.i (.iref b.cells), .i (.isl (intsL ws)), .int (lv - 1:Nat)] []=some (.int vb,[])) (rb:0≤vb∧vb≤6):callA C0 60 [.i (.iref [.int 5, .int 0, .isl (Ex.cellsL es), .isl (intsL []), .isl (Pn.cellsL [a,b])]), .i (.isl (intsL ws)), .int lv] []=some (.int (if va=0∨vb=0 then 0 else wdOver 5 es [] va vb),[]):=by
 rw [callA_eq rfl Tryz.func60 rfl rfl]
 have c3':¬ (lv:Int)=0:=by omega
 have w1:IntKind.i64.wrap ((lv:Int) - 1)=(lv - 1:Nat):=by rw [wrap64 (by omega) (by omega)]; omega
 have r0:nthE [a.cells,b.cells] 0=some a.cells:=rfl
 have r1:nthE [a.cells,b.cells] 1=some b.cells:=rfl
 have hov:=widthOver_eq (Pn.mk 5 0 es [] [a,b]) va vb ra rb hd
 rw [Pn.cells_mk] at hov
 simp only [Pn.kind_mk,Pn.exprs_mk,Pn.cols_mk,Pn.cellsL,intsL,Ex.cellsL] at hov
 rw [Pn.cells_eq a] at ha hov r0 r1
 rw [Pn.cells_eq b] at hb hov r0 r1
 have c2:(es.length:Int)=1:=by
  simp only [Pn.headOk,Bool.and_eq_true,decide_eq_true_eq,Pn.exprs_mk,Pn.kind_mk] at hd
  simpa using hd.2.1
 simp [c2,hl,c3',Pn.cellsL,intsL,Ex.cellsL]
 rw [Pn.cells_eq a,Pn.cells_eq b]
 rw [execA_loop]
 by_cases z1:va=0
 case pos=>simp [w1,ha,r0,z1]
 simp [w1,ha,r0,z1,wrap_1]
 rw [execA_loop]
 by_cases z2:vb=0
 case pos=>simp [w1,hb,r1,z2]
 simp [w1,hb,r1,z1,z2,wrap64 (x:=2) (by omega) (by omega)]
 rw [execA_loop]
 simp [hov,z1,z2]
theorem below_yes6 {ws:List Int} {a b:Pn} {lv:Nat} {va vb:Int} (hl:lv≠0) (hl8:lv≤8) (hd:Pn.headOk (Pn.mk 6 0 [] [] [a,b])=true) (ha:callA C0 60 [.i (.iref a.cells), .i (.isl (intsL ws)), .int (lv - 1:Nat)] []=some (.int va,[])) (ra:0≤va∧va≤6) (hb:callA C0 60 [.i (.iref b.cells), .i (.isl (intsL ws)), .int (lv - 1:Nat)] []=some (.int vb,[])) (rb:0≤vb∧vb≤6):callA C0 60 [.i (.iref [.int 6, .int 0, .isl (Ex.cellsL []), .isl (intsL []), .isl (Pn.cellsL [a,b])]), .i (.isl (intsL ws)), .int lv] []=some (.int (if va=0∨vb=0 then 0 else wdOver 6 [] [] va vb),[]):=by
 rw [callA_eq rfl Tryz.func60 rfl rfl]
 have c3':¬ (lv:Int)=0:=by omega
 have w1:IntKind.i64.wrap ((lv:Int) - 1)=(lv - 1:Nat):=by rw [wrap64 (by omega) (by omega)]; omega
 have r0:nthE [a.cells,b.cells] 0=some a.cells:=rfl
 have r1:nthE [a.cells,b.cells] 1=some b.cells:=rfl
 have hov:=widthOver_eq (Pn.mk 6 0 [] [] [a,b]) va vb ra rb hd
 rw [Pn.cells_mk] at hov
 simp only [Pn.kind_mk,Pn.exprs_mk,Pn.cols_mk,Pn.cellsL,intsL,Ex.cellsL] at hov
 rw [Pn.cells_eq a] at ha hov r0 r1
 rw [Pn.cells_eq b] at hb hov r0 r1
 simp [hl,c3',Pn.cellsL,intsL,Ex.cellsL]
 rw [Pn.cells_eq a,Pn.cells_eq b]
 rw [execA_loop]
 by_cases z1:va=0
 case pos=>simp [w1,ha,r0,z1]
 simp [w1,ha,r0,z1,wrap_1]
 rw [execA_loop]
 by_cases z2:vb=0
 case pos=>simp [w1,hb,r1,z2]
 simp [w1,hb,r1,z1,z2,wrap64 (x:=2) (by omega) (by omega)]
 rw [execA_loop]
 simp [hov,z1,z2]
theorem below_yes7 {ws:List Int} {a:Pn} {lv:Nat} {va:Int} (hl:lv≠0) (hl8:lv≤8) (hd:Pn.headOk (Pn.mk 7 0 [] [] [a])=true) (ha:callA C0 60 [.i (.iref a.cells), .i (.isl (intsL ws)), .int (lv - 1:Nat)] []=some (.int va,[])) (ra:0≤va∧va≤6):callA C0 60 [.i (.iref [.int 7, .int 0, .isl (Ex.cellsL []), .isl (intsL []), .isl (Pn.cellsL [a])]), .i (.isl (intsL ws)), .int lv] []=some (.int (if va=0 then 0 else wdOver 7 [] [] va 0),[]):=by
 rw [callA_eq rfl Tryz.func60 rfl rfl]
 have c3':¬ (lv:Int)=0:=by omega
 have w1:IntKind.i64.wrap ((lv:Int) - 1)=(lv - 1:Nat):=by rw [wrap64 (by omega) (by omega)]; omega
 have r0:nthE [a.cells] 0=some a.cells:=rfl
 have hov:=widthOver_eq (Pn.mk 7 0 [] [] [a]) va 0 ra (by omega) hd
 rw [Pn.cells_mk] at hov
 simp only [Pn.kind_mk,Pn.exprs_mk,Pn.cols_mk,Pn.cellsL,intsL,Ex.cellsL] at hov
 rw [Pn.cells_eq a] at ha hov r0
 simp [hl,c3',Pn.cellsL,intsL,Ex.cellsL]
 rw [Pn.cells_eq a]
 rw [execA_loop]
 by_cases z1:va=0
 case pos=>simp [w1,ha,r0,z1]
 simp [w1,ha,r0,z1,wrap_1]
 rw [execA_loop]
 simp [hov,z1]
theorem below_yes8 {ws:List Int} {cs:List Int} {a:Pn} {lv:Nat} {va:Int} (hl:lv≠0) (hl8:lv≤8) (hd:Pn.headOk (Pn.mk 8 0 [] cs [a])=true) (ha:callA C0 60 [.i (.iref a.cells), .i (.isl (intsL ws)), .int (lv - 1:Nat)] []=some (.int va,[])) (ra:0≤va∧va≤6):callA C0 60 [.i (.iref [.int 8, .int 0, .isl (Ex.cellsL []), .isl (intsL cs), .isl (Pn.cellsL [a])]), .i (.isl (intsL ws)), .int lv] []=some (.int (if va=0 then 0 else wdOver 8 [] cs va 0),[]):=by
 rw [callA_eq rfl Tryz.func60 rfl rfl]
 have c3':¬ (lv:Int)=0:=by omega
 have w1:IntKind.i64.wrap ((lv:Int) - 1)=(lv - 1:Nat):=by rw [wrap64 (by omega) (by omega)]; omega
 have r0:nthE [a.cells] 0=some a.cells:=rfl
 have hov:=widthOver_eq (Pn.mk 8 0 [] cs [a]) va 0 ra (by omega) hd
 rw [Pn.cells_mk] at hov
 simp only [Pn.kind_mk,Pn.exprs_mk,Pn.cols_mk,Pn.cellsL,intsL,Ex.cellsL] at hov
 rw [Pn.cells_eq a] at ha hov r0
 simp [hl,c3',Pn.cellsL,intsL,Ex.cellsL]
 rw [Pn.cells_eq a]
 rw [execA_loop]
 by_cases z1:va=0
 case pos=>simp [w1,ha,r0,z1]
 simp [w1,ha,r0,z1,wrap_1]
 rw [execA_loop]
 simp [hov,z1]
end Go.Proofs.YtjcjpbjpbbdnlaaGreat.P

namespace Go.Proofs.YtjcjpbjpbbdnlaaGreat.P
open Go Go.Av
set_option maxRecDepth 4000
set_option maxHeartbeats 2000000
theorem headOk_iff (k t:Int) (es:List Ex) (cs:List Int) (ks:List Pn):Pn.headOk (.mk k t es cs ks)=true ↔ ((ks.length:Int)=nKids k∧(es.length:Int)=(if k=3∧okWidth es.length=true then (es.length:Int) else nExprs k)∧(k=1∨t=0)∧(k=8∨cs=[])):=by
 unfold Pn.headOk
 simp only [Bool.and_eq_true,Bool.or_eq_true,decide_eq_true_eq]
 exact Iff.rfl
theorem len_one {α:Type} {l:List α} (h:(l.length:Int)=1):∃ a,l=[a]:=List.length_eq_one_iff.1 (by omega)
theorem len_two {α:Type} {l:List α} (h:(l.length:Int)=2):∃ a b,l=[a,b]:=by
 match l,h with
 | [a,b],_=>exact ⟨a,b,rfl⟩
 | [],h=>simp at h
 | [_],h=>simp at h
 | _ :: _ :: _ :: _,h=>simp at h; omega
theorem len_zero {α:Type} {l:List α} (h:(l.length:Int)=0):l=[]:=List.length_eq_zero_iff.1 (by omega)
theorem widthBelow_eq {ws : List Int} (hw : ∀ w ∈ ws, 0 ≤ w ∧ w ≤ 6) : ∀ (p : Pn) (lv : Nat), lv ≤ 8 → callA C0 60 [.i (.iref p.cells), .i (.isl (intsL ws)), .int lv] [] = some (.int (p.wd ws lv), []) := by
  intro p
  induction p using Pn.ind with
  | h k t es cs ks ih =>
    intro lv hlv
    rw [Pn.cells_mk]
    by_cases hh : Pn.headOk (.mk k t es cs ks) = true ∧ (ks = [] ∨ lv ≠ 0)
    case neg =>
      rw [Pn.wd_no hh]
      rw [headOk_iff] at hh
      rcases partCases k with rfl | rfl | rfl | rfl | rfl | rfl | rfl | rfl | h
      · refine below_no1 fun h => hh ?_
        have := len_zero h.1
        simp [h.2.1, h.2.2.2, this]
      · exact below_no2 fun h => hh (by simp [h.1, h.2.1, h.2.2.1, h.2.2.2.1, h.2.2.2.2])
      · exact below_no3 fun h => hh (by refine ⟨⟨by simp [h.1], by simpa using h.2.1, by simp [h.2.2.2.1], by simp [h.2.2.2.2]⟩, .inr h.2.2.1⟩)
      · exact below_no4 fun h => hh (by simp [h.1, h.2.1, h.2.2.1, h.2.2.2.1, h.2.2.2.2])
      · exact below_no5 fun h => hh (by simp [h.1, h.2.1, h.2.2.1, h.2.2.2.1, h.2.2.2.2])
      · exact below_no6 fun h => hh (by simp [h.1, len_zero h.2.1, h.2.2.1, h.2.2.2.1, h.2.2.2.2])
      · exact below_no7 fun h => hh (by simp [h.1, len_zero h.2.1, h.2.2.1, h.2.2.2.1, h.2.2.2.2])
      · exact below_no8 fun h => hh (by simp [h.1, len_zero h.2.1, h.2.2.1, h.2.2.2])
      · exact below_other h
    have hd := hh.1
    have hx := Pn.wd_eq ws lv (.mk k t es cs ks)
    rw [if_pos (by simpa using hh)] at hx
    simp only [Pn.kind_mk, Pn.table_mk, Pn.exprs_mk, Pn.cols_mk, Pn.kids_mk] at hx
    rw [hx]
    rw [headOk_iff] at hh
    obtain ⟨⟨h1, h2, h3, h4⟩, h5⟩ := hh
    have hr := fun a => Pn.wd_range hw a (lv - 1)
    rcases partCases k with rfl | rfl | rfl | rfl | rfl | rfl | rfl | rfl | h
    · obtain rfl := len_zero (by simpa using h1)
      obtain rfl : es = [] := len_zero (by simpa using h2)
      obtain rfl : cs = [] := by simpa using h4
      exact below_yes1
    · obtain ⟨a, rfl⟩ := len_one (by simpa using h1)
      obtain rfl : cs = [] := by simpa using h4
      obtain rfl : t = 0 := by simpa using h3
      have hl : lv ≠ 0 := by simpa using h5
      rw [below_yes2 hl hlv hd (ih a (by simp) (lv - 1) (by omega)) (hr a)]
      by_cases z : a.wd ws (lv - 1) = 0 <;> simp [z]
    · obtain ⟨a, rfl⟩ := len_one (by simpa using h1)
      obtain rfl : cs = [] := by simpa using h4
      obtain rfl : t = 0 := by simpa using h3
      have hl : lv ≠ 0 := by simpa using h5
      rw [below_yes3 hl hlv hd (ih a (by simp) (lv - 1) (by omega)) (hr a)]
      by_cases z : a.wd ws (lv - 1) = 0 <;> simp [z]
    · obtain ⟨a, b, rfl⟩ := len_two (by simpa using h1)
      obtain rfl : cs = [] := by simpa using h4
      obtain rfl : t = 0 := by simpa using h3
      have hl : lv ≠ 0 := by simpa using h5
      rw [below_yes4 hl hlv hd (ih a (by simp) (lv - 1) (by omega)) (hr a) (ih b (by simp) (lv - 1) (by omega)) (hr b)]
      by_cases z : a.wd ws (lv - 1) = 0 <;> by_cases z2 : b.wd ws (lv - 1) = 0 <;> simp [z, z2]
    · obtain ⟨a, b, rfl⟩ := len_two (by simpa using h1)
      obtain rfl : cs = [] := by simpa using h4
      obtain rfl : t = 0 := by simpa using h3
      have hl : lv ≠ 0 := by simpa using h5
      rw [below_yes5 hl hlv hd (ih a (by simp) (lv - 1) (by omega)) (hr a) (ih b (by simp) (lv - 1) (by omega)) (hr b)]
      by_cases z : a.wd ws (lv - 1) = 0 <;> by_cases z2 : b.wd ws (lv - 1) = 0 <;> simp [z, z2]
    · obtain ⟨a, b, rfl⟩ := len_two (by simpa using h1)
      obtain rfl : es = [] := len_zero (by simpa using h2)
      obtain rfl : cs = [] := by simpa using h4
      obtain rfl : t = 0 := by simpa using h3
      have hl : lv ≠ 0 := by simpa using h5
      rw [below_yes6 hl hlv hd (ih a (by simp) (lv - 1) (by omega)) (hr a) (ih b (by simp) (lv - 1) (by omega)) (hr b)]
      by_cases z : a.wd ws (lv - 1) = 0 <;> by_cases z2 : b.wd ws (lv - 1) = 0 <;> simp [z, z2]
    · obtain ⟨a, rfl⟩ := len_one (by simpa using h1)
      obtain rfl : es = [] := len_zero (by simpa using h2)
      obtain rfl : cs = [] := by simpa using h4
      obtain rfl : t = 0 := by simpa using h3
      have hl : lv ≠ 0 := by simpa using h5
      rw [below_yes7 hl hlv hd (ih a (by simp) (lv - 1) (by omega)) (hr a)]
      by_cases z : a.wd ws (lv - 1) = 0 <;> simp [z]
    · obtain ⟨a, rfl⟩ := len_one (by simpa using h1)
      obtain rfl : es = [] := len_zero (by simpa using h2)
      obtain rfl : t = 0 := by simpa using h3
      have hl : lv ≠ 0 := by simpa using h5
      rw [below_yes8 hl hlv hd (ih a (by simp) (lv - 1) (by omega)) (hr a)]
      by_cases z : a.wd ws (lv - 1) = 0 <;> simp [z]
    · exact absurd h1 (by rw [nKids_no h]; omega)
def VX (ws:List Int) (i:Nat):AS :=
 {env:=[(0, .i (.isl (intsL ws))),(2, .bool false),(4,jk i (.int (ws[i - 1]?.getD 0))),(12, .bool false),(13, .i (.isl (intsL ws))),(14, .int ws.length),(15, .int i),(16,jk i (.bool true)),(21,jk i (.bool false))],st:=[] }
theorem validWidths_eq (ws:List Int):callA C0 59 [.i (.isl (intsL ws))] []=some (.bool (okWs ws),[]):=by
 rw [callA_eq rfl Tryz.func59 rfl rfl]
 by_cases h1:ws.length=0
 ·have:=List.length_eq_zero_iff.1 h1
  subst this
  simp [intsL,okWs]
 by_cases h4:ws.length≤4
 case neg=>simp [okWs,h4,show ¬ (ws.length:Int) < 1 by omega,show 4 < (ws.length:Int) by omega]
 simp [show ¬ (ws.length:Int) < 1 by omega,show ¬ 4 < (ws.length:Int) by omega]
 obtain ⟨j,h1',h2⟩:=upto_bad okWidth ws
 rw [loop_to (VX ws) j (by simp [VX])]
 ·rw [execA_loop]
  rcases h2 with ⟨hj,ha⟩ | ⟨x,h3,_,h5,ha⟩
  ·simp [VX,hj,okWs,h4,ha,show 1≤ws.length by omega]
  ·have r1:=(List.getElem?_eq_some_iff.1 h3).1
   have r2:=intsL_nth h3
   simp [VX,r1,r2,h5,okWs,ha]
 ·intro i hi
  obtain ⟨x,h3,_,h5⟩:=h1' i hi
  have r1:=(List.getElem?_eq_some_iff.1 h3).1
  have r2:=intsL_nth h3
  have w2:IntKind.i64.wrap ((i:Int) + 1)=i + 1:=wrap64 (by omega) (by omega)
  have h3':ws[i]=x:=(List.getElem?_eq_some_iff.1 h3).2
  simp [VX,r1,r2,h5,w2,h3']
theorem okWs_range {ws:List Int} (h:okWs ws=true):∀ w∈ws,0≤w∧w≤6:=by
 intro w hw
 simp only [okWs,Bool.and_eq_true] at h
 have:=List.all_eq_true.1 h.2 w hw
 simp [okWidth] at this
 omega
theorem planWidth_eq (p : Pn) (ws : List Int) : callA C0 17 [.i (.agg p.cells), .i (.isl (intsL ws))] [] = some (.int (p.width ws), []) := by
  rw [callA_eq rfl Tryz.func17 rfl rfl]
  have hv := validWidths_eq ws
  cases h : okWs ws with
  | false => rw [h] at hv; rw [Pn.cells_eq]; simp [hv, Pn.width, h]
  | true =>
    rw [h] at hv
    have hb := widthBelow_eq (okWs_range h) p 8 (by omega)
    rw [show ((8 : Nat) : Int) = 8 from rfl] at hb
    rw [Pn.cells_eq] at hb ⊢
    simp [hv, Pn.width, h, hb]
end Go.Proofs.YtjcjpbjpbbdnlaaGreat.P

namespace Go.Proofs.YtjcjpbjpbbdnlaaGreat.P
open Go Go.Av
set_option maxRecDepth 4000
set_option maxHeartbeats 2000000
def only (k t:Int) (es:List Ex) (cs:List Int) (ks:List Pn):Bool:=decide (1≤k∧k≤8) && (decide ((ks.length:Int)=nKids k) && (decide ((es.length:Int)=if k=3 then (es.length:Int) else nExprs k) && ((decide (t=0) || decide (k=1)) && (decide (cs=[]) || decide (k=8)))))
theorem onlyFields_eq (k t:Int) (es:List Ex) (cs:List Int) (ks:List Pn):callA C0 137 [.i (.agg [.int k, .int t, .isl (Ex.cellsL es), .isl (intsL cs), .isl (Pn.cellsL ks)])] []=some (.bool (only k t es cs ks),[]):=by
 rw [callA_eq rfl Tryz.func137 rfl rfl]
 rcases partCases k with rfl | rfl | rfl | rfl | rfl | rfl | rfl | rfl | h
 case inr.inr.inr.inr.inr.inr.inr.inr =>
  have h1:¬ (1≤k∧k≤8):=by omega
  simp [h.1,h.2.1,h.2.2.1,h.2.2.2.1,h.2.2.2.2.1,h.2.2.2.2.2.1,h1,only]
 case inr.inr.inl =>
  by_cases c1:(ks.length:Int)=1
  case neg=>simp [c1,only]
  by_cases c3:t=0
  case neg=>simp [c1,c3,only]
  by_cases c5:cs=[]<;>simp [c1,c3,c5,only,intsL]
 case inl =>
  by_cases c1:ks=[]
  case neg=>simp [c1,only]
  by_cases c2:es=[]
  case neg=>simp [c1,c2,only]
  by_cases c3:t=0<;>by_cases c5:cs=[]<;>simp [c1,c2,c3,c5,only,intsL,Ex.cellsL,Pn.cellsL]
 case inr.inl =>
  by_cases c1:(ks.length:Int)=1
  case neg=>simp [c1,only]
  by_cases c2:(es.length:Int)=1
  case neg=>simp [c1,c2,only]
  by_cases c3:t=0
  case neg=>simp [c1,c2,c3,only]
  by_cases c5:cs=[]<;>simp [c1,c2,c3,c5,only,intsL]
 case inr.inr.inr.inl =>
  by_cases c1:(ks.length:Int)=2
  case neg=>simp [c1,only]
  by_cases c2:(es.length:Int)=1
  case neg=>simp [c1,c2,only]
  by_cases c3:t=0
  case neg=>simp [c1,c2,c3,only]
  by_cases c5:cs=[]<;>simp [c1,c2,c3,c5,only,intsL]
 case inr.inr.inr.inr.inl =>
  by_cases c1:(ks.length:Int)=2
  case neg=>simp [c1,only]
  by_cases c2:(es.length:Int)=1
  case neg=>simp [c1,c2,only]
  by_cases c3:t=0
  case neg=>simp [c1,c2,c3,only]
  by_cases c5:cs=[]<;>simp [c1,c2,c3,c5,only,intsL]
 case inr.inr.inr.inr.inr.inl =>
  by_cases c1:(ks.length:Int)=2
  case neg=>simp [c1,only]
  by_cases c2:es=[]
  case neg=>simp [c1,c2,only]
  by_cases c3:t=0
  case neg=>simp [c1,c2,c3,only]
  by_cases c5:cs=[]<;>simp [c1,c2,c3,c5,only,intsL,Ex.cellsL]
 case inr.inr.inr.inr.inr.inr.inl =>
  by_cases c1:(ks.length:Int)=1
  case neg=>simp [c1,only]
  by_cases c2:es=[]
  case neg=>simp [c1,c2,only]
  by_cases c3:t=0
  case neg=>simp [c1,c2,c3,only]
  by_cases c5:cs=[]<;>simp [c1,c2,c3,c5,only,intsL,Ex.cellsL]
 case inr.inr.inr.inr.inr.inr.inr.inl =>
  by_cases c1:(ks.length:Int)=1
  case neg=>simp [c1,only]
  by_cases c2:es=[]
  case neg=>simp [c1,c2,only]
  by_cases c3:t=0
  case neg=>simp [c1,c2,c3,only]
  by_cases c5:cs=[]<;>simp [c1,c2,c3,c5,only,intsL,Ex.cellsL]
theorem pv_ge {cs : List Int} {w : Int} : ∀ {i : Nat}, (∀ k, k < i → ∃ x, (cs.zip (-1 :: cs))[k]? = some x ∧ x ∈ cs.zip (-1 :: cs) ∧ decide (x.2 < x.1 ∧ x.1 < w) = true) → -1 ≤ pv cs i ∧ (i ≠ 0 → 0 ≤ pv cs i)
  | 0, _ => by simp [pv]
  | i + 1, h => by
    obtain ⟨x, h3, _, h4⟩ := h i (by omega)
    obtain ⟨c1, c2⟩ := cols_nth h3
    rw [pv_succ c1]
    have hb : x.2 < x.1 ∧ x.1 < w := by simpa using h4
    have := pv_ge (i := i) fun k hk => h k (by omega)
    omega
def CX (cs:List Int) (w:Int) (i:Nat):AS :=
 {env:=[(0, .i (.isl (intsL cs))),(1, .int w),(4, .bool false),(5, .int i),(9,jk i (.bool true)),(35,jk i (.bool false))],st:=[] }
theorem validCols_eq (cs:List Int) (w:Int) (hl:cs.length < 9223372036854775808) (hw:0≤w∧w≤6):callA C0 140 [.i (.isl (intsL cs)), .int w] []=some (.bool (colsOk w cs),[]):=by
 rw [callA_eq rfl Tryz.func140 rfl rfl]
 have w1:IntKind.i64.wrap (w - 1)=w - 1:=wrap64 (by omega) (by omega)
 simp
 obtain ⟨j,h1,h2⟩:=upto_bad (fun x:Int×Int=>decide (x.2 < x.1∧x.1 < w)) (cs.zip (-1 :: cs))
 rw [loop_to (CX cs w) j (by simp [CX])]
 ·rw [execA_loop]
  rcases h2 with ⟨hj,ha⟩ | ⟨x,h3,_,h4,ha⟩
  ·rw [cols_len] at hj
   have ha:colsOk w cs=true:=ha
   simp [CX,hj,ha]
  ·obtain ⟨c1,c2⟩:=cols_nth h3
   have r1:=(List.getElem?_eq_some_iff.1 c1).1
   have r2:=intsL_nth c1
   have hb:¬ (x.2 < x.1∧x.1 < w):=by simpa using h4
   have ha:colsOk w cs=false:=ha
   have hp:=pv_ge (i:=j) h1
   by_cases hin:0≤x.1∧x.1≤w - 1
   ·have hj:j≠0:=fun h=>by subst h; simp [pv] at c2; omega
    obtain ⟨j,rfl⟩:∃ i,j=i + 1:=⟨j - 1,by omega⟩
    have q1:cs[j]?=some x.2:=by
     have:pv cs (j + 1)=x.2:=c2
     simp only [pv,List.getElem?_cons_succ] at this
     rw [List.getElem?_eq_getElem (by omega)] at this ⊢
     simpa using this
    have q2:=intsL_nth q1
    have w4:IntKind.i64.wrap ((j:Int) + 1 - 1)=j:=by rw [wrap64 (by omega) (by omega)]; omega
    have w5:IntKind.i64.wrap ((j:Int))=j:=by rw [wrap64 (by omega) (by omega)]
    simp [CX,r1,r2,w1,hin,ha,q2,w4,w5,show (0:Int) < j + 1 by omega,show x.1≤x.2 by omega,show (0:Int)≤(j:Int) + 1 by omega,show j < cs.length by omega,show ((j:Int) + 1 < cs.length) by omega]
   ·simp [CX,r1,r2,w1,hin,ha]
 ·intro i hi
  obtain ⟨x,h3,_,h4⟩:=h1 i hi
  obtain ⟨c1,c2⟩:=cols_nth h3
  have r1:=(List.getElem?_eq_some_iff.1 c1).1
  have r2:=intsL_nth c1
  have hb:x.2 < x.1∧x.1 < w:=by simpa using h4
  have hp:=pv_ge (i:=i) fun k hk=>h1 k (by omega)
  have hin:0≤x.1∧x.1≤w - 1:=by omega
  have w2:IntKind.i64.wrap ((i:Int) + 1)=i + 1:=wrap64 (by omega) (by omega)
  by_cases h0:i=0
  ·subst h0
   simp [CX,r1,r2,w1,hin,wrap_1]
  ·obtain ⟨i,rfl⟩:∃ j,i=j + 1:=⟨i - 1,by omega⟩
   have q1:cs[i]?=some x.2:=by
    have:pv cs (i + 1)=x.2:=c2
    simp only [pv,List.getElem?_cons_succ] at this
    rw [List.getElem?_eq_getElem (by omega)] at this ⊢
    simpa using this
   have q2:=intsL_nth q1
   have w5:IntKind.i64.wrap ((i:Int))=i:=by rw [wrap64 (by omega) (by omega)]
   have w2':IntKind.i64.wrap ((i:Int) + 1 + 1)=i + 1 + 1:=wrap64 (by omega) (by omega)
   simp [CX,r1,r2,w1,hin,q2,w5,w2',show (0:Int) < i + 1 by omega,show ¬ x.1≤x.2 by omega,show (0:Int)≤(i:Int) + 1 by omega,show i < cs.length by omega,show ((i:Int) + 1 < cs.length) by omega]
def pW (es:List Ex) (w:Int):Int:=if es.all (Ex.ok w)=true∧es.length≤6 then (es.length:Int) else 0
def QX (es:List Ex) (w:Int) (i:Nat):AS :=
 {env:=[(0, .i (.isl (Ex.cellsL es))),(1, .int w),(4, .int 0),(5, .int i),(9,jk i (.bool true)),(18,jk i (.bool false)),(21, .junk)],st:=[] }
theorem projectWidth_eq (es:List Ex) (w:Int) (hl:es.length < 9223372036854775808):callA C0 139 [.i (.isl (Ex.cellsL es)), .int w] []=some (.int (pW es w),[]):=by
 rw [callA_eq rfl Tryz.func139 rfl rfl]
 simp
 obtain ⟨j,h1,h2⟩:=upto_bad (Ex.ok w) es
 rw [loop_to (QX es w) j (by simp [QX])]
 ·rw [execA_loop]
  rcases h2 with ⟨hj,hall⟩ | ⟨x,h3,_,h5,hall⟩
  ·by_cases h6:es.length≤6
   ·have hq:pW es w=es.length:=if_pos ⟨hall,h6⟩
    simp [QX,hj,hq,show ¬ (6:Int) < es.length by omega]
   ·have hq:pW es w=0:=if_neg fun h=>h6 h.2
    simp [QX,hj,hq,show (6:Int) < es.length by omega]
  ·have r1:=(List.getElem?_eq_some_iff.1 h3).1
   have r2:=Ex.cellsL_nth h3
   have r3:=sok_eq w x
   rw [h5] at r3
   rw [Ex.cells_eq] at r2 r3
   have hq:pW es w=0:=if_neg fun h=>by rw [hall] at h; simp at h
   simp [QX,r1,r2,r3,hq]
 ·intro i hi
  obtain ⟨x,h3,_,h5⟩:=h1 i hi
  have r1:=(List.getElem?_eq_some_iff.1 h3).1
  have r2:=Ex.cellsL_nth h3
  have r3:=sok_eq w x
  rw [h5] at r3
  rw [Ex.cells_eq] at r2 r3
  have w2:IntKind.i64.wrap ((i:Int) + 1)=i + 1:=wrap64 (by omega) (by omega)
  simp [QX,r1,r2,r3,w2]
def UX (ws:List Int) (i:Nat):AS :=
 {env:=[(0, .i (.isl (intsL ws))),(2, .bool false),(3, .int i),(7,jk i (.bool true)),(15,jk i (.bool false))],st:=[] }
theorem svalidWidths_eq (ws:List Int) (hl:ws.length < 9223372036854775808):callA C0 102 [.i (.isl (intsL ws))] []=some (.bool (okWs ws),[]):=by
 rw [callA_eq rfl Tryz.func102 rfl rfl]
 simp
 obtain ⟨j,h1',h2⟩:=upto_bad okWidth ws
 rw [loop_to (UX ws) j (by simp [UX])]
 ·rw [execA_loop]
  rcases h2 with ⟨hj,ha⟩ | ⟨x,h3,_,h5,ha⟩
  ·by_cases h4:1≤ws.length∧ws.length≤4
   ·simp [UX,hj,okWs,h4,ha,show (1:Int)≤ws.length∧(ws.length:Int)≤4 by omega]
   ·simp [UX,hj,okWs,h4,ha,show ¬ ((1:Int)≤ws.length∧(ws.length:Int)≤4) by omega]
  ·have r1:=(List.getElem?_eq_some_iff.1 h3).1
   have r2:=intsL_nth h3
   have h5:¬ (1≤x∧x≤6):=by simpa [okWidth] using h5
   simp [UX,r1,r2,h5,okWs,ha]
 ·intro i hi
  obtain ⟨x,h3,_,h5⟩:=h1' i hi
  have r1:=(List.getElem?_eq_some_iff.1 h3).1
  have r2:=intsL_nth h3
  have h5:1≤x∧x≤6:=by simpa [okWidth] using h5
  have w2:IntKind.i64.wrap ((i:Int) + 1)=i + 1:=wrap64 (by omega) (by omega)
  simp [UX,r1,r2,h5,w2]
end Go.Proofs.YtjcjpbjpbbdnlaaGreat.P

namespace Go.Proofs.YtjcjpbjpbbdnlaaGreat.P
open Go Go.Av
set_option maxRecDepth 4000
set_option maxHeartbeats 2000000
theorem splan_no {ws : List Int} {k t : Int} {es : List Ex} {cs : List Int} {ks : List Pn} {lv : Nat} (h : ¬ (only k t es cs ks = true ∧ (ks = [] ∨ lv ≠ 0))) : callA C0 103 [.i (.agg [.int k, .int t, .isl (Ex.cellsL es), .isl (intsL cs), .isl (Pn.cellsL ks)]), .i (.isl (intsL ws)), .int lv] [] = some (.int 0, []) := by
  rw [callA_eq rfl Tryz.func103 rfl rfl]
  have ho := onlyFields_eq k t es cs ks
  cases hq : only k t es cs ks with
  | false => rw [hq] at ho; simp [ho]
  | true =>
    rw [hq] at ho
    by_cases hk : ks = []
    · exact absurd ⟨hq, .inl hk⟩ h
    by_cases hl : lv = 0
    · have : 0 < ks.length := List.length_pos_iff.2 hk
      subst hl; simp [ho, hk, this]
    · exact absurd ⟨hq, .inr hl⟩ h
theorem splan_yes1 {ws : List Int} {lv : Nat} {t : Int} (ho : only 1 t [] [] [] = true) (hw : ws.length < 1000000000) : callA C0 103 [.i (.agg [.int 1, .int t, .isl (Ex.cellsL []), .isl (intsL []), .isl (Pn.cellsL [])]), .i (.isl (intsL ws)), .int lv] [] = some (.int (if 0 ≤ t then (ws[t.toNat]?).getD 0 else 0), []) := by
  rw [callA_eq rfl Tryz.func103 rfl rfl]
  have hf := onlyFields_eq 1 t [] [] []
  rw [ho] at hf
  have w1 : IntKind.i64.wrap ((ws.length : Int) - 1) = ws.length - 1 := wrap64 (by omega) (by omega)
  simp only [Ex.cellsL, Pn.cellsL, intsL] at hf ⊢
  simp [hf, w1]
  rw [execA_loop]
  by_cases h0 : 0 ≤ t
  case neg => simp [h0, w1]
  cases hx : ws[t.toNat]? with
  | none =>
    have := List.getElem?_eq_none_iff.1 hx
    simp [h0, w1, show ¬ t ≤ ws.length - 1 by omega]
  | some x =>
    have r1 := (List.getElem?_eq_some_iff.1 hx).1
    have r2 := intsL_nth hx
    simp [h0, w1, show t ≤ ws.length - 1 by omega, show t < ws.length by omega, r2]
theorem splan_yes2 {ws:List Int} {lv:Nat} {a:Pn} {va:Int} {e:Ex} (ho:only 2 0 [e] [] [a]=true) (hl:lv≠0) (hl8:lv≤8) (ha:callA C0 103 [.i (.agg a.cells), .i (.isl (intsL ws)), .int (lv - 1:Nat)] []=some (.int va,[])) (ra:0≤va∧va≤6):callA C0 103 [.i (.agg [.int 2, .int 0, .isl (Ex.cellsL [e]), .isl (intsL []), .isl (Pn.cellsL [a])]), .i (.isl (intsL ws)), .int lv] []=some (.int (if va=0 then 0 else if e.ok va=true then va else 0),[]):=by
 rw [callA_eq rfl Tryz.func103 rfl rfl]
 have hf:=onlyFields_eq 2 0 [e] [] [a]
 rw [ho] at hf
 have c3':¬ (lv:Int)=0:=by omega
 have w1:IntKind.i64.wrap ((lv:Int) - 1)=(lv - 1:Nat):=by rw [wrap64 (by omega) (by omega)]; omega
 have w2:IntKind.i64.wrap (1:Int)=1:=wrap_1
 have w3:IntKind.i64.wrap (2:Int)=2:=wrap64 (by omega) (by omega)
 have r0:nthE [a.cells] 0=some a.cells:=rfl
 simp only [Pn.cellsL,intsL,Ex.cellsL] at hf ⊢
 have q0:nthE [e.cells] 0=some e.cells:=rfl
 have qe:=sok_eq (va) e
 rw [Ex.cells_eq e] at q0 qe hf ⊢
 rw [Pn.cells_eq a] at ha r0 hf ⊢
 simp [hf,hl,c3']
 rw [execA_loop]
 by_cases z1:va=0
 case pos=>simp [w1,ha,r0,z1]
 simp [w1,w2,ha,r0,z1]
 rw [execA_loop]
 cases hv:e.ok va<;>rw [hv] at qe<;>simp [z1,q0,qe]
theorem splan_yes3 {ws:List Int} {lv:Nat} {a:Pn} {va:Int} {es:List Ex} (ho:only 3 0 es [] [a]=true) (hl:lv≠0) (hl8:lv≤8) (ha:callA C0 103 [.i (.agg a.cells), .i (.isl (intsL ws)), .int (lv - 1:Nat)] []=some (.int va,[])) (ra:0≤va∧va≤6) (he:es.length < 9223372036854775808):callA C0 103 [.i (.agg [.int 3, .int 0, .isl (Ex.cellsL es), .isl (intsL []), .isl (Pn.cellsL [a])]), .i (.isl (intsL ws)), .int lv] []=some (.int (if va=0 then 0 else pW es va),[]):=by
 rw [callA_eq rfl Tryz.func103 rfl rfl]
 have hf:=onlyFields_eq 3 0 es [] [a]
 rw [ho] at hf
 have c3':¬ (lv:Int)=0:=by omega
 have w1:IntKind.i64.wrap ((lv:Int) - 1)=(lv - 1:Nat):=by rw [wrap64 (by omega) (by omega)]; omega
 have w2:IntKind.i64.wrap (1:Int)=1:=wrap_1
 have w3:IntKind.i64.wrap (2:Int)=2:=wrap64 (by omega) (by omega)
 have r0:nthE [a.cells] 0=some a.cells:=rfl
 simp only [Pn.cellsL,intsL,Ex.cellsL] at hf ⊢
 rw [Pn.cells_eq a] at ha r0 hf ⊢
 simp [hf,hl,c3']
 rw [execA_loop]
 by_cases z1:va=0
 case pos=>simp [w1,ha,r0,z1]
 simp [w1,w2,ha,r0,z1]
 rw [execA_loop]
 have hp:=projectWidth_eq es va he
 simp [z1,hp]
theorem splan_yes4 {ws:List Int} {lv:Nat} {a:Pn} {va:Int} {b:Pn} {vb:Int} {e:Ex} (ho:only 4 0 [e] [] [a,b]=true) (hl:lv≠0) (hl8:lv≤8) (ha:callA C0 103 [.i (.agg a.cells), .i (.isl (intsL ws)), .int (lv - 1:Nat)] []=some (.int va,[])) (ra:0≤va∧va≤6) (hb:callA C0 103 [.i (.agg b.cells), .i (.isl (intsL ws)), .int (lv - 1:Nat)] []=some (.int vb,[])) (rb:0≤vb∧vb≤6):callA C0 103 [.i (.agg [.int 4, .int 0, .isl (Ex.cellsL [e]), .isl (intsL []), .isl (Pn.cellsL [a,b])]), .i (.isl (intsL ws)), .int lv] []=some (.int (if va=0∨vb=0 then 0 else if va + vb≤6∧e.ok (va + vb)=true then va + vb else 0),[]):=by
 rw [callA_eq rfl Tryz.func103 rfl rfl]
 have hf:=onlyFields_eq 4 0 [e] [] [a,b]
 rw [ho] at hf
 have c3':¬ (lv:Int)=0:=by omega
 have w1:IntKind.i64.wrap ((lv:Int) - 1)=(lv - 1:Nat):=by rw [wrap64 (by omega) (by omega)]; omega
 have w2:IntKind.i64.wrap (1:Int)=1:=wrap_1
 have w3:IntKind.i64.wrap (2:Int)=2:=wrap64 (by omega) (by omega)
 have r0:nthE [a.cells,b.cells] 0=some a.cells:=rfl
 have r1:nthE [a.cells,b.cells] 1=some b.cells:=rfl
 simp only [Pn.cellsL,intsL,Ex.cellsL] at hf ⊢
 have q0:nthE [e.cells] 0=some e.cells:=rfl
 have qe:=sok_eq (va + vb) e
 rw [Ex.cells_eq e] at q0 qe hf ⊢
 rw [Pn.cells_eq a] at ha r0 hf ⊢
 rw [Pn.cells_eq a] at r1
 rw [Pn.cells_eq b] at hb r0 r1 hf ⊢
 simp [hf,hl,c3']
 rw [execA_loop]
 by_cases z1:va=0
 case pos=>simp [w1,ha,r0,z1]
 simp [w1,w2,ha,r0,z1]
 rw [execA_loop]
 by_cases z2:vb=0
 case pos=>simp [w1,hb,r1,z2]
 simp [w1,hb,r1,z1,z2,w2,w3]
 rw [execA_loop]
 have w4:IntKind.i64.wrap (va + vb)=va + vb:=wrap64 (by omega) (by omega)
 by_cases h6:va + vb≤6
 ·cases hv:e.ok (va + vb)<;>rw [hv] at qe<;>simp [z1,z2,q0,qe,w4,h6]
 ·simp [z1,z2,w4,h6]
theorem splan_yes5 {ws:List Int} {lv:Nat} {a:Pn} {va:Int} {b:Pn} {vb:Int} {e:Ex} (ho:only 5 0 [e] [] [a,b]=true) (hl:lv≠0) (hl8:lv≤8) (ha:callA C0 103 [.i (.agg a.cells), .i (.isl (intsL ws)), .int (lv - 1:Nat)] []=some (.int va,[])) (ra:0≤va∧va≤6) (hb:callA C0 103 [.i (.agg b.cells), .i (.isl (intsL ws)), .int (lv - 1:Nat)] []=some (.int vb,[])) (rb:0≤vb∧vb≤6):callA C0 103 [.i (.agg [.int 5, .int 0, .isl (Ex.cellsL [e]), .isl (intsL []), .isl (Pn.cellsL [a,b])]), .i (.isl (intsL ws)), .int lv] []=some (.int (if va=0∨vb=0 then 0 else if va + vb≤6∧e.ok (va + vb)=true then va + vb else 0),[]):=by
 rw [callA_eq rfl Tryz.func103 rfl rfl]
 have hf:=onlyFields_eq 5 0 [e] [] [a,b]
 rw [ho] at hf
 have c3':¬ (lv:Int)=0:=by omega
 have w1:IntKind.i64.wrap ((lv:Int) - 1)=(lv - 1:Nat):=by rw [wrap64 (by omega) (by omega)]; omega
 have w2:IntKind.i64.wrap (1:Int)=1:=wrap_1
 have w3:IntKind.i64.wrap (2:Int)=2:=wrap64 (by omega) (by omega)
 have r0:nthE [a.cells,b.cells] 0=some a.cells:=rfl
 have r1:nthE [a.cells,b.cells] 1=some b.cells:=rfl
 simp only [Pn.cellsL,intsL,Ex.cellsL] at hf ⊢
 have q0:nthE [e.cells] 0=some e.cells:=rfl
 have qe:=sok_eq (va + vb) e
 rw [Ex.cells_eq e] at q0 qe hf ⊢
 rw [Pn.cells_eq a] at ha r0 hf ⊢
 rw [Pn.cells_eq a] at r1
 rw [Pn.cells_eq b] at hb r0 r1 hf ⊢
 simp [hf,hl,c3']
 rw [execA_loop]
 by_cases z1:va=0
 case pos=>simp [w1,ha,r0,z1]
 simp [w1,w2,ha,r0,z1]
 rw [execA_loop]
 by_cases z2:vb=0
 case pos=>simp [w1,hb,r1,z2]
 simp [w1,hb,r1,z1,z2,w2,w3]
 rw [execA_loop]
 have w4:IntKind.i64.wrap (va + vb)=va + vb:=wrap64 (by omega) (by omega)
 by_cases h6:va + vb≤6
 ·cases hv:e.ok (va + vb)<;>rw [hv] at qe<;>simp [z1,z2,q0,qe,w4,h6]
 ·simp [z1,z2,w4,h6]
theorem splan_yes6 {ws:List Int} {lv:Nat} {a:Pn} {va:Int} {b:Pn} {vb:Int} (ho:only 6 0 [] [] [a,b]=true) (hl:lv≠0) (hl8:lv≤8) (ha:callA C0 103 [.i (.agg a.cells), .i (.isl (intsL ws)), .int (lv - 1:Nat)] []=some (.int va,[])) (ra:0≤va∧va≤6) (hb:callA C0 103 [.i (.agg b.cells), .i (.isl (intsL ws)), .int (lv - 1:Nat)] []=some (.int vb,[])) (rb:0≤vb∧vb≤6):callA C0 103 [.i (.agg [.int 6, .int 0, .isl (Ex.cellsL []), .isl (intsL []), .isl (Pn.cellsL [a,b])]), .i (.isl (intsL ws)), .int lv] []=some (.int (if va=0∨vb=0 then 0 else if va=vb then va else 0),[]):=by
 rw [callA_eq rfl Tryz.func103 rfl rfl]
 have hf:=onlyFields_eq 6 0 [] [] [a,b]
 rw [ho] at hf
 have c3':¬ (lv:Int)=0:=by omega
 have w1:IntKind.i64.wrap ((lv:Int) - 1)=(lv - 1:Nat):=by rw [wrap64 (by omega) (by omega)]; omega
 have w2:IntKind.i64.wrap (1:Int)=1:=wrap_1
 have w3:IntKind.i64.wrap (2:Int)=2:=wrap64 (by omega) (by omega)
 have r0:nthE [a.cells,b.cells] 0=some a.cells:=rfl
 have r1:nthE [a.cells,b.cells] 1=some b.cells:=rfl
 simp only [Pn.cellsL,intsL,Ex.cellsL] at hf ⊢
 rw [Pn.cells_eq a] at ha r0 hf ⊢
 rw [Pn.cells_eq a] at r1
 rw [Pn.cells_eq b] at hb r0 r1 hf ⊢
 simp [hf,hl,c3']
 rw [execA_loop]
 by_cases z1:va=0
 case pos=>simp [w1,ha,r0,z1]
 simp [w1,w2,ha,r0,z1]
 rw [execA_loop]
 by_cases z2:vb=0
 case pos=>simp [w1,hb,r1,z2]
 simp [w1,hb,r1,z1,z2,w2,w3]
 rw [execA_loop]
 by_cases h6:va=vb<;>simp [z1,z2,h6]
theorem splan_yes7 {ws:List Int} {lv:Nat} {a:Pn} {va:Int} (ho:only 7 0 [] [] [a]=true) (hl:lv≠0) (hl8:lv≤8) (ha:callA C0 103 [.i (.agg a.cells), .i (.isl (intsL ws)), .int (lv - 1:Nat)] []=some (.int va,[])) (ra:0≤va∧va≤6):callA C0 103 [.i (.agg [.int 7, .int 0, .isl (Ex.cellsL []), .isl (intsL []), .isl (Pn.cellsL [a])]), .i (.isl (intsL ws)), .int lv] []=some (.int (if va=0 then 0 else va),[]):=by
 rw [callA_eq rfl Tryz.func103 rfl rfl]
 have hf:=onlyFields_eq 7 0 [] [] [a]
 rw [ho] at hf
 have c3':¬ (lv:Int)=0:=by omega
 have w1:IntKind.i64.wrap ((lv:Int) - 1)=(lv - 1:Nat):=by rw [wrap64 (by omega) (by omega)]; omega
 have w2:IntKind.i64.wrap (1:Int)=1:=wrap_1
 have w3:IntKind.i64.wrap (2:Int)=2:=wrap64 (by omega) (by omega)
 have r0:nthE [a.cells] 0=some a.cells:=rfl
 simp only [Pn.cellsL,intsL,Ex.cellsL] at hf ⊢
 rw [Pn.cells_eq a] at ha r0 hf ⊢
 simp [hf,hl,c3']
 rw [execA_loop]
 by_cases z1:va=0
 case pos=>simp [w1,ha,r0,z1]
 simp [w1,w2,ha,r0,z1]
 rw [execA_loop]
 simp [z1]
theorem splan_yes8 {ws:List Int} {lv:Nat} {a:Pn} {va:Int} {cs:List Int} (ho:only 8 0 [] cs [a]=true) (hl:lv≠0) (hl8:lv≤8) (ha:callA C0 103 [.i (.agg a.cells), .i (.isl (intsL ws)), .int (lv - 1:Nat)] []=some (.int va,[])) (ra:0≤va∧va≤6) (hc:cs.length < 9223372036854775808):callA C0 103 [.i (.agg [.int 8, .int 0, .isl (Ex.cellsL []), .isl (intsL cs), .isl (Pn.cellsL [a])]), .i (.isl (intsL ws)), .int lv] []=some (.int (if va=0 then 0 else if cs.length < 6∧colsOk va cs=true then (cs.length:Int) + 1 else 0),[]):=by
 rw [callA_eq rfl Tryz.func103 rfl rfl]
 have hf:=onlyFields_eq 8 0 [] cs [a]
 rw [ho] at hf
 have c3':¬ (lv:Int)=0:=by omega
 have w1:IntKind.i64.wrap ((lv:Int) - 1)=(lv - 1:Nat):=by rw [wrap64 (by omega) (by omega)]; omega
 have w2:IntKind.i64.wrap (1:Int)=1:=wrap_1
 have w3:IntKind.i64.wrap (2:Int)=2:=wrap64 (by omega) (by omega)
 have r0:nthE [a.cells] 0=some a.cells:=rfl
 simp only [Pn.cellsL,intsL,Ex.cellsL] at hf ⊢
 rw [Pn.cells_eq a] at ha r0 hf ⊢
 simp [hf,hl,c3']
 rw [execA_loop]
 by_cases z1:va=0
 case pos=>simp [w1,ha,r0,z1]
 simp [w1,w2,ha,r0,z1]
 rw [execA_loop]
 have hp:=validCols_eq cs va hc ra
 by_cases h6:cs.length < 6
 ·have w5:IntKind.i64.wrap ((cs.length:Int) + 1)=cs.length + 1:=wrap64 (by omega) (by omega)
  cases hv:colsOk va cs<;>rw [hv] at hp<;>simp [z1,hp,h6,show (cs.length:Int) < 6 by omega,w5]
 ·cases hv:colsOk va cs<;>rw [hv] at hp<;>simp [z1,hp,h6,show ¬ (cs.length:Int) < 6 by omega]
end Go.Proofs.YtjcjpbjpbbdnlaaGreat.P

namespace Go.Proofs.YtjcjpbjpbbdnlaaGreat.P
open Go Go.Av
set_option maxRecDepth 4000
set_option maxHeartbeats 2000000
theorem only_iff (k t:Int) (es:List Ex) (cs:List Int) (ks:List Pn):only k t es cs ks=true ↔ ((1≤k∧k≤8)∧(ks.length:Int)=nKids k∧((es.length:Int)=if k=3 then (es.length:Int) else nExprs k)∧(t=0∨k=1)∧(cs=[]∨k=8)):=by
 unfold only
 simp only [Bool.and_eq_true,Bool.or_eq_true,decide_eq_true_eq]
theorem splanWidth_eq {ws : List Int} (hw : ∀ w ∈ ws, 0 ≤ w ∧ w ≤ 6) (hwl : ws.length < 1000000000) : ∀ (p : Pn), p.lim → ∀ (lv : Nat), lv ≤ 8 → callA C0 103 [.i (.agg p.cells), .i (.isl (intsL ws)), .int lv] [] = some (.int (p.wd ws lv), []) := by
  intro p
  induction p using Pn.ind with
  | h k t es cs ks ih =>
    intro hp lv hlv
    have hp := (Pn.lim_iff _).1 hp
    simp only [Pn.exprs_mk, Pn.cols_mk, Pn.kids_mk] at hp
    obtain ⟨he, hc, -, hks⟩ := hp
    rw [Pn.cells_mk]
    have hr := fun a => Pn.wd_range hw a (lv - 1)
    by_cases ho : only k t es cs ks = true ∧ (ks = [] ∨ lv ≠ 0)
    case neg =>
      rw [splan_no ho, Pn.wd_no]
      intro hh
      apply ho
      refine ⟨?_, hh.2⟩
      have h := (headOk_iff k t es cs ks).1 hh.1
      rw [only_iff]
      refine ⟨?_, h.1, ?_, h.2.2.1.symm, h.2.2.2.symm⟩
      · rcases nKids_range k with h1 | h1 | h1 | h1 <;> omega
      · by_cases h3 : k = 3
        · rw [if_pos h3]
        · have := h.2.1; rw [if_neg fun h => h3 h.1] at this; rw [if_neg h3]; exact this
    have hoo := ho.1
    have hq := (only_iff k t es cs ks).1 ho.1
    obtain ⟨h0, h1, h2, h3, h4⟩ := hq
    have h5 := ho.2
    by_cases hd : Pn.headOk (.mk k t es cs ks) = true
    case neg =>
      rw [Pn.wd_no fun h => hd h.1]
      have hk3 : k = 3 ∧ ¬ okWidth es.length = true ∧ (es.length : Int) ≠ 1 := by
        by_cases hk : k = 3
        · refine ⟨hk, ?_, ?_⟩
          · intro hv
            exact hd ((headOk_iff k t es cs ks).2 ⟨h1, by rw [if_pos ⟨hk, hv⟩], h3.symm, h4.symm⟩)
          · intro hv
            have : okWidth es.length = true := by rw [hv]; decide
            exact hd ((headOk_iff k t es cs ks).2 ⟨h1, by rw [if_pos ⟨hk, this⟩], h3.symm, h4.symm⟩)
        · exact absurd ((headOk_iff k t es cs ks).2 ⟨h1, by rw [if_neg fun h => hk h.1]; rwa [if_neg hk] at h2, h3.symm, h4.symm⟩) hd
      obtain ⟨rfl, hv, hv1⟩ := hk3
      obtain ⟨a, rfl⟩ := len_one (by simpa using h1)
      obtain rfl : cs = [] := by simpa using h4
      obtain rfl : t = 0 := by simpa using h3
      have hl : lv ≠ 0 := by simpa using h5
      rw [splan_yes3 hoo hl hlv (ih a (by simp) (hks a (by simp)) (lv - 1) (by omega)) (hr a) he]
      have : pW es (a.wd ws (lv - 1)) = 0 := by
        unfold pW
        split
        · rename_i h
          have : ¬ (1 ≤ (es.length : Int) ∧ (es.length : Int) ≤ 6) := by simpa [okWidth] using hv
          omega
        · rfl
      simp [this]
    have hx := Pn.wd_eq ws lv (.mk k t es cs ks)
    rw [if_pos (by simpa using (⟨hd, h5⟩ : _ ∧ _))] at hx
    simp only [Pn.kind_mk, Pn.table_mk, Pn.exprs_mk, Pn.cols_mk, Pn.kids_mk] at hx
    rw [hx]
    rcases partCases k with rfl | rfl | rfl | rfl | rfl | rfl | rfl | rfl | h
    · obtain rfl := len_zero (by simpa using h1)
      obtain rfl : es = [] := len_zero (by simpa using h2)
      obtain rfl : cs = [] := by simpa using h4
      exact splan_yes1 hoo hwl
    · obtain ⟨a, rfl⟩ := len_one (by simpa using h1)
      obtain ⟨e, rfl⟩ := len_one (by simpa using h2)
      obtain rfl : cs = [] := by simpa using h4
      obtain rfl : t = 0 := by simpa using h3
      have hl : lv ≠ 0 := by simpa using h5
      rw [splan_yes2 hoo hl hlv (ih a (by simp) (hks a (by simp)) (lv - 1) (by omega)) (hr a)]
      by_cases z : a.wd ws (lv - 1) = 0 <;> simp [z, wdOver]
    · obtain ⟨a, rfl⟩ := len_one (by simpa using h1)
      obtain rfl : cs = [] := by simpa using h4
      obtain rfl : t = 0 := by simpa using h3
      have hl : lv ≠ 0 := by simpa using h5
      rw [splan_yes3 hoo hl hlv (ih a (by simp) (hks a (by simp)) (lv - 1) (by omega)) (hr a) he]
      have h6 := Pn.headOk_exprs hd
      simp only [Pn.exprs_mk] at h6
      by_cases z : a.wd ws (lv - 1) = 0 <;> simp [z, wdOver, pW, h6]
    · obtain ⟨a, b, rfl⟩ := len_two (by simpa using h1)
      obtain ⟨e, rfl⟩ := len_one (by simpa using h2)
      obtain rfl : cs = [] := by simpa using h4
      obtain rfl : t = 0 := by simpa using h3
      have hl : lv ≠ 0 := by simpa using h5
      rw [splan_yes4 hoo hl hlv (ih a (by simp) (hks a (by simp)) (lv - 1) (by omega)) (hr a) (ih b (by simp) (hks b (by simp)) (lv - 1) (by omega)) (hr b)]
      by_cases z : a.wd ws (lv - 1) = 0 <;> by_cases z2 : b.wd ws (lv - 1) = 0 <;> simp [z, z2, wdOver]
    · obtain ⟨a, b, rfl⟩ := len_two (by simpa using h1)
      obtain ⟨e, rfl⟩ := len_one (by simpa using h2)
      obtain rfl : cs = [] := by simpa using h4
      obtain rfl : t = 0 := by simpa using h3
      have hl : lv ≠ 0 := by simpa using h5
      rw [splan_yes5 hoo hl hlv (ih a (by simp) (hks a (by simp)) (lv - 1) (by omega)) (hr a) (ih b (by simp) (hks b (by simp)) (lv - 1) (by omega)) (hr b)]
      by_cases z : a.wd ws (lv - 1) = 0 <;> by_cases z2 : b.wd ws (lv - 1) = 0 <;> simp [z, z2, wdOver]
    · obtain ⟨a, b, rfl⟩ := len_two (by simpa using h1)
      obtain rfl : es = [] := len_zero (by simpa using h2)
      obtain rfl : cs = [] := by simpa using h4
      obtain rfl : t = 0 := by simpa using h3
      have hl : lv ≠ 0 := by simpa using h5
      rw [splan_yes6 hoo hl hlv (ih a (by simp) (hks a (by simp)) (lv - 1) (by omega)) (hr a) (ih b (by simp) (hks b (by simp)) (lv - 1) (by omega)) (hr b)]
      by_cases z : a.wd ws (lv - 1) = 0 <;> by_cases z2 : b.wd ws (lv - 1) = 0 <;> simp [z, z2, wdOver]
    · obtain ⟨a, rfl⟩ := len_one (by simpa using h1)
      obtain rfl : es = [] := len_zero (by simpa using h2)
      obtain rfl : cs = [] := by simpa using h4
      obtain rfl : t = 0 := by simpa using h3
      have hl : lv ≠ 0 := by simpa using h5
      rw [splan_yes7 hoo hl hlv (ih a (by simp) (hks a (by simp)) (lv - 1) (by omega)) (hr a)]
      by_cases z : a.wd ws (lv - 1) = 0 <;> simp [z, wdOver]
    · obtain ⟨a, rfl⟩ := len_one (by simpa using h1)
      obtain rfl : es = [] := len_zero (by simpa using h2)
      obtain rfl : t = 0 := by simpa using h3
      have hl : lv ≠ 0 := by simpa using h5
      rw [splan_yes8 hoo hl hlv (ih a (by simp) (hks a (by simp)) (lv - 1) (by omega)) (hr a) hc]
      by_cases z : a.wd ws (lv - 1) = 0 <;> simp [z, wdOver]
    · omega
theorem widthOf_eq (p : Pn) (hp : p.lim) (ws : List Int) (hl : ws.length < 9223372036854775808) : callA C0 56 [.i (.agg p.cells), .i (.isl (intsL ws))] [] = some (.int (p.width ws), []) := by
  rw [callA_eq rfl Tryz.func56 rfl rfl]
  have hv := svalidWidths_eq ws hl
  cases h : okWs ws with
  | false => rw [h] at hv; rw [Pn.cells_eq]; simp [hv, Pn.width, h]
  | true =>
    rw [h] at hv
    have h4 : ws.length ≤ 4 := by simp [okWs] at h; omega
    have hb := splanWidth_eq (okWs_range h) (by omega) p hp 8 (by omega)
    rw [show ((8 : Nat) : Int) = 8 from rfl] at hb
    rw [Pn.cells_eq] at hb ⊢
    simp [hv, Pn.width, h, hb]
end Go.Proofs.YtjcjpbjpbbdnlaaGreat.P

/- Part 5 of what the proof rests on: the executor and what it is worth, and the program's functions as it runs them. No condition. -/
import Derived.Test.YtmcjmafajkeecaaDoorT4
import Derived.ChangeOld
import Derived.OpenShut
set_option linter.unusedVariables false
set_option linter.unusedSimpArgs false
namespace Go.Av.Mk
open Go Go.Av
set_option maxRecDepth 4000
theorem AF3 {m:Mem}:∀ {vs xs:List Value},ICells m (vs.map IV.lit) xs→xs=vs
 | [],_,h=>by cases h;rfl
 | v::vs,_,h=>by
  simp only[yP]at h
  cases h with
  | cons a o r=>cases a;rw[AF3 r]
structure Fr (w w':World) (S:List Nat):Prop where
 size:w.heap.size≤w'.heap.size
 os:w'.os=w.os
 tape:Tp w w'
 output:w'.output=w.output
 same:∀ f,f<w.heap.size→f ∉ S→w'.heap[f]?=w.heap[f]?
theorem Fr.refl (w:World) (S:List Nat):Fr w w S:=⟨Nat.le_refl _,rfl, .refl _,rfl,fun _ _ _=>rfl⟩
theorem Fr.trans {w1 w2 w3:World} {S:List Nat} (a:Fr w1 w2 S) (b:Fr w2 w3 S):Fr w1 w3 S :=
 ⟨Nat.le_trans a.size b.size,b.os.trans a.os,b.tape.trans a.tape,b.output.trans a.output,fun f h1 h2=>(b.same f (yZ h1 a.size) h2).trans (a.same f h1 h2)⟩
theorem Fr.sub {w w':World} {S T:List Nat} (a:Fr w w' S) (h:∀ f∈S,f∈T):Fr w w' T :=
 ⟨a.size,a.os,a.tape,a.output,fun f h1 h2=>a.same f h1 fun h3=>h2 (h f h3)⟩
section
variable {C:Ctx} {nt:Nat}
theorem APW (hS:SoundOk C) {w0:World} {m0:Mem} {φ0:Pl} {G:List Nat} {na:Nat} (h0:∀ id,φ0 id≠none→id<na) {c:Code} {S S':AS} {e:AExit} {a:Act} {w:World} (hc:codeOk nt c=true) (hx:eQ C G na c S=some (e,S')) (h:FD [] w0 m0 φ0 nt na S a w) (hnr:bI c=true:=by rfl) :
 c.wp C.P (fun e' a' w'=>e'=jH e∧FD [] w0 m0 φ0 nt na S' a' w') a w:=by
 obtain⟨n,hn⟩:=(dI _).1 hx;refine wpIn_wide.1 (wpIn_mono (bU (ρ:=none) hS.ctx (aZ hS) (hS.draw _ (aZ hS)) h0 n c S S' e [] a w hc (.inl rfl) hn h) ?_);rintro e' a' w' ⟨rfl,ds,k,kd⟩;have kd:=kd hnr;subst kd;exact⟨rfl,k⟩
end
structure MG (W nt b N n:Nat) (us:List Value) (q:Int) (j5:AV) (a:Act) (w:World):Prop where
 row:rowOf w b us
 len:us.length=N
 fit:W*n≤N
 pos:0<n
 wpos:0<W
 t0:∃ cap,n≤cap∧W*cap≤N∧a.tmps.getD 0 undef=.slice (some ⟨b,0,none⟩) n cap
 t1:a.tmps.getD 1 undef=.int .i64 q
 t5:Rep (fun _ _=>none) (fun _=>none) j5 (a.tmps.getD 5 undef)
 size:nt≤a.tmps.size
 defers:a.defers=[]
def MS (W n:Nat) (R:List (List IV)) (q:Int) (j4 j5 j9:AV):AS :=
 { env:=[(0, .osl 0 W 0 n),(1, .int q),(4,j4),(5,j5),(9,j9)],st:=[some (.arr W R)] }
theorem tlt {w:World}:∀ {cs:List IV} {vs:List Value} {F:List Nat},TCells w cs vs F→∀ f∈F,f<w.heap.size
 | _,_,_, .nil=>by simp
 | _,_,_, .lit _ r=>(tlt r)
 | _,_,_, .isl0 _ r=>(tlt r)
 | _,_,_, .isl _ ⟨T,hr,_⟩ _ _ _ _ g r=>by
  intro f hf;simp only[yT,zQ,zV]at hf
  rcases hf with rfl|hf|hf
  ·exact(zG.1 hr).1
  ·exact tlt g f hf
  ·exact tlt r f hf
section
variable {X:Type} (cells:X→List IV) (mk:Int→X→X) (sz:X→Nat)
end
structure MLoop (C:Ctx) (g:FuncId) (W nt:Nat) (G:List Nat) (fn:Func) (c0 c1 cc body c3 cend:Code):Prop where
 func:C.P.funcs[g]?=some fn
 code:fn.body=some (c0.seq ((c1.seq (.block 0 (.loop (cc.seq ((Code.block 1 body).seq c3))))).seq cend))
 ntmps:fn.ntmps=nt
 big:6≤nt
 results:fn.results.toList=[ResultVar.tmp 4]
 ok0:codeOk nt c0=true∧bI c0=true
 ok1:codeOk nt c1=true∧bI c1=true
 okc:codeOk nt cc=true∧bI cc=true
 ok3:codeOk nt c3=true∧bI c3=true
 oke:codeOk nt cend=true∧bI cend=true
 x0:∀ n R q,eQ C G 1 c0 (MS W n R q .junk .junk .junk)=some (.normal,MS W n R q (.int 0) .junk .junk)
 x1:∀ n R q,eQ C G 1 c1 (MS W n R q (.int 0) .junk .junk)=some (.normal,MS W n R q (.int 0) (.int 0) .junk)
 xc:∀ (n i:Nat) R q,i<n→eQ C G 1 cc (MS W n R q .junk (.int i) .junk)=some (.normal,MS W n R q .junk (.int i) (.bool true))
 xo:∀ (n:Nat) R q,eQ C G 1 cc (MS W n R q .junk (.int n) .junk)=some (.exit 0,MS W n R q .junk (.int n) (.bool false))
 x3:∀ (n i:Nat) R q,i<1000000000000→eQ C G 1 c3 (MS W n R q .junk (.int i) .junk)=some (.normal,MS W n R q .junk (.int (i+1)) .junk)
 xe:∀ (n:Nat) R q,eQ C G 1 cend (MS W n R q .junk (.int n) (.bool false))=some (.ret,MS W n R q (.int q) (.int n) (.bool false))
 xf:∀ (n:Nat) R (q:Int),finish C false [ResultVar.tmp 4] 1 (MS W n R q (.int q) (.int n) (.bool false))=some (.int q,[some (.arr W R)])
 nil:∀ k:Int,aH C g [.i (.isl []), .int k] []=some (.int k,[])
section
variable {X:Type} {cells:X→List IV} {mk:Int→X→X} {sz:X→Nat} {W:Nat}
def OT (cells:X→List IV) (W:Nat) (l:List X):Blk:=if l=[]then .arr W []else .tre W (l.map cells)
@[simp] theorem AKT (r:Nat→Option Nat) (l:List X):uM r (some (OT cells W l))=some (OT cells W l):=by unfold OT;split<;>rfl
@[simp] theorem AHM (l:List X):gG (some (OT cells W l))=[]:=by unfold OT;split<;>rfl
theorem uU (h:∀ x,lH (cells x)=true):∀ l:List X,iQ (l.map cells)=true
 | []=>rfl
 | x::l=>by simp only[yP,iQ,h x,uU h l,Bool.and_self]
@[simp] theorem ANM (h:∀ x,lH (cells x)=true) (l:List X):mfB (some (OT cells W l))=true:=by
  unfold OT;split
  ·rfl
  ·simp only[mfB];exact uU h l
theorem AC1 {l:List X} (h:l≠[]):OT cells W l=.tre W (l.map cells):=by simp[OT,h]
end
end Go.Av.Mk
namespace Go.Av
mutual
def Ex.fat:Ex→Prop
 | .mk _ _ _ ks=>ks.length<9223372036854775808∧Ex.AA1 ks
def Ex.AA1:List Ex→Prop
 | []=>True
 | e::es=>e.fat∧Ex.AA1 es
end
theorem Ex.uF:∀ (l:List Ex),Ex.AA1 l↔∀ k∈l,k.fat
 | []=>by simp[Ex.AA1]
 | e::es=>by simp[Ex.AA1,Ex.uF es]
theorem Ex.sM (e:Ex):e.fat↔e.kids.length<9223372036854775808∧∀ k∈e.kids,k.fat:=by
 cases e;simp[Ex.fat,Ex.kids,Ex.uF]
theorem Ex.vN:∀ l:List Ex,Ex.aA l=l.map Ex.cells
 | []=>rfl
 | e::l=>by simp[Ex.aA,Ex.vN l]
def AQG (n:Int):List IV:=[.int n]
theorem NF:∀ (l:List Int),aI l=l.map AQG
 | []=>rfl
 | n::l=>by have:=NF l;simp only[yP,← this];simp[aI,AQG]
end Go.Av
namespace Go.Av.Mk
open Go Go.Av
section
variable {X:Type} {cells:X→List IV} {W:Nat} {z:List IV}
@[simp] theorem AMP (hp:∀ x,lH (cells x)=true) (l:List X):rM W 0 l.length (some (OT cells W l))=some (l.map cells):=by
  unfold OT;split
  ·rename_i h;subst h;simp[rM,fI]
  ·simp[rM,uU hp l]
end
end Go.Av.Mk
namespace Go.Av
@[simp] theorem Ex.IQ (e:Ex):lH e.cells=true:=by rw[Ex.aB];rfl
@[simp] theorem Pn.IQ (p:Pn):lH p.cells=true:=by rw[Pn.aB];rfl
@[simp] theorem Ex.iN:∀ l:List Ex,iQ (Ex.aA l)=true
  | []=>by simp[Ex.aA,iQ]
  | e::l=>by simp[Ex.aA,iQ,Ex.iN l]
@[simp] theorem Pn.iN:∀ l:List Pn,iQ (Pn.aA l)=true
  | []=>by simp[Pn.aA,iQ]
  | p::l=>by simp[Pn.aA,iQ,Pn.iN l]
def tE (e:Ex) (j:Nat):AV:=.agg [.int e.kind, .int e.col, .bool e.val.null, .int e.val.n, .osl j 5 0 e.kids.length]
end Go.Av
namespace Go.Av.V.Sx
open Go Go.Av Go.Av.V Go.Av.Mk Go.Proofs Go.Proofs.YtmcjmafajkeecaaDoor
set_option maxRecDepth 4000
def QP (e:Ex):AS:={ env:=[(0, .i (.iref e.cells))],st:=[] }
def AB4 (e:Ex):AS:={ env:=[(0, .i (.iref e.cells)),(2, .own 0 0),(3, .own 1 0),(4, .junk),(5, .junk),(6, .junk),(13, .junk),(37, .junk),(38, .junk),(39, .junk)],st:=[some (.box zc),some (.box (kQ e.cells))] }
def SL (b3:Nat) (todo X:KL):AS :=
 { env:=[(0, .junk),(2, .own 0 0),(3, .i (ptr (b3,0))),(4, .osl 1 1 0 todo.length),(5, .junk),(6, .junk),(13, .junk),(37, .junk),(38, .junk),(39, .junk)],st:=[some (.box zc),some (.arr 1 ((todo++X).map fun k=>[ptr k.1]))] }
theorem CV:∀ (l:KL),∀ c∈(l.map fun k=>[ptr k.1]).flatten,∃ v,c=.lit v
 | [],c,h=>by simp at h
 | k::l,c,h=>by
  simp only[yP,zF,zV,xW]at h
  rcases h with rfl|h
  ·exact⟨_,rfl⟩
  ·exact CV l c h
def PP (b3:Nat) (b o n:Nat) (x:Ex) (ES:List (List IV)) (env:Nat→AV) (st:Store):Prop :=
 env 2=.own 0 0∧env 3=.i (ptr (b3,0))∧env 4=.osl 1 1 0 n∧env 5=.i (ptr (b,o))∧env 32=.i (ptr (b,o+4))∧st 0=some (.box zc)∧st 1=some (.arr 1 ES) ∧
  ((env 30=.nils∧x.kids=[])∨∃ id,env 30=.osl id 5 0 x.kids.length∧x.kids≠[]∧st id=some (.arr 5 (Ex.aA x.kids))∧2≤id)
def RW (init:KL) (b' i:Nat):List (List IV):=(init.map fun k=>[ptr k.1])++(List.range i).map fun j=>[ptr (b',j*5)]
theorem OG (init:KL) (b' i:Nat):(RW init b' i).length=init.length+i:=by simp[RW]
theorem F8 (init:KL) (b' i:Nat):RW init b' i++[[ptr (b',i*5)]]=RW init b' (i+1):=by simp[RW,zB2]
theorem mX (b:Nat):∀ (o:Nat) (l:List Ex),(bH b o l).map (fun k=>[ptr k.1])=(List.range l.length).map fun j=>[ptr (b,o+j*5)]
 | _,[]=>by simp[bH]
 | o,a::l=>by
  simp only[bH,yP,mX b (o+5) l,zS,zA9,List.map_map];simp only[List.cons.injEq,Nat.zero_mul,yE,true_and];apply zA2;intro j _;simp only[Function.comp,Nat.succ_eq_add_one];rw[show o+5+j*5=o+(j+1)*5 by omega]
theorem mY (b:Nat):∀ (o:Nat) (l:List Ex),(bH b o l).length=l.length
 | _,[]=>rfl
 | o,a::l=>by simp[bH,mY b (o+5) l]
theorem mW (b:Nat):∀ (o:Nat) (l:List Ex),((bH b o l).map fun k=>k.2.1.size).sum=Ex.aX l
 | _,[]=>rfl
 | o,a::l=>by simp[bH,Ex.aX,mW b (o+5) l]
def YS (b3 b' cap:Nat) (x:Ex) (init:KL) (ES:List (List IV)) (i:Nat):AS :=
 { env:=[(0, .junk),(2, .own 0 0),(3, .i (ptr (b3,0))),(4,if i=0 then .osl 1 1 0 init.length else .osl 2 1 0 (init.length+i)),(5, .i (.iref [.int x.kind, .int x.col, .bool x.val.null, .int x.val.n, .lit (.slice (some ⟨b',0,none⟩) x.kids.length cap)])),(6,jk i (.int (i-1))),(13, .junk),(37, .int x.kids.length),(38, .int i),(39,jk i (.bool true))],
   st:=some (.box zc)::if i=0 then [some (.arr 1 ES)]else [none,some (.arr 1 (RW init b' i))] }
set_option maxHeartbeats 1000000
theorem QC {e:Ex} (he:e.size<1000000000) (hne:e.kids≠[]) {wi:World} {mi:Mem} {φ:Pl} {vs:List Value} (hi:Inv wi mi φ (aV [])) (hr:RepL mi φ [.i (.iref e.cells)] vs) (h0:∀ id,φ id≠none→id<0) :
 Calls Tryd.prog 31 vs.toArray wi (bR wi mi φ (tE e 0) [some (OT Ex.cells 5 e.kids)]):=by
 obtain rfl:φ=fun _=>none:=by
  funext id
  cases h:φ id with
  | none=>rfl
  | some p=>exact absurd (h0 id (by rw[h];simp)) (xH _)
 refine calls_of_wp (fn:=Tryd.f31) Tryd.func31 rfl ?_
 have g0:GG wi mi 52 (fun id=>id<(QP e).st.length) [] (aW (QP e).env) (aV (QP e).st) { tmps:=vs.toArray++Array.replicate (52-vs.toArray.size) undef,defers:=[] } wi:=by
  refine⟨⟨mi,fun _=>none,hi,?_, .refl _ _ _,fun id h=>absurd rfl h,fun k hk=>by simp at hk⟩,by simp;omega,rfl⟩;intro t;have:=pX (m:=mi) (φ:=fun _=>none) (52-vs.toArray.size) hr t
  cases t with
  | zero=>simpa [QP,aW,AR]using this
  | succ t=>simp only[QP,aW];simp;exact .junk _
 refine wp_seq (wp_mono (GG.iA gD (G:=GS 31) (S:=QP e) (e:=.normal) (S':={ AB4 e with env:=[(0, .i (.iref e.cells)),(2, .own 0 0),(3, .junk),(4, .junk),(5, .junk),(6, .junk),(13, .junk),(37, .junk),(38, .junk),(39, .junk)],st:=[some (.box zc)] }) (by kernel_rfl) (by simp[QP,zc]) g0) ?_);rintro _ a1 w1 ⟨rfl,g1⟩;refine wp_seq (wp_mono (GG.iA gD (G:=GS 31) (S:={ AB4 e with env:=[(0, .i (.iref e.cells)),(2, .own 0 0),(3, .junk),(4, .junk),(5, .junk),(6, .junk),(13, .junk),(37, .junk),(38, .junk),(39, .junk)],st:=[some (.box zc)] }) (e:=.normal) (S':=AB4 e) (by kernel_rfl) (by simp[AB4,zc]) g1) ?_);rintro _ a2 w2 ⟨rfl,g2⟩
 obtain⟨b3,g3⟩:=g2.pub (u:=3) (id:=1) (e:=e) (st':=aV [some (.box zc)]) (ok':=fun id=>id<1) rfl rfl (by
  intro i blk h
  cases i with
  | zero=>simp[aV]at h;subst h;exact⟨by omega,rfl,by simp[fQ,zc]⟩
  | succ i=>simp[aV]at h) (by
  intro i h
  cases i with
  | zero=>omega
  | succ i=>simp[aV]at h)
 have g3:=g3 (aW [(2, .own 0 0),(3, .i (ptr (b3,0)))]) (by
  intro t;simp only[aW];by_cases h2:t=2
  ·subst h2;exact .inr (.inr ⟨rfl,by simp[AB4,aW,iX,aV]⟩)
  ·by_cases h3:t=3
   ·subst h3;exact .inr (.inl ⟨rfl,rfl⟩)
   ·simp[h2,h3])
 refine wp_seq (wp_mono (GG.iA gD (G:=GS 31) (S:={ env:=[(2, .own 0 0),(3, .i (ptr (b3,0)))],st:=[some (.box zc)] }) (e:=.normal) (S':=SL b3 [((b3,0),(e,none))] []) (by kernel_rfl) (by simp[SL,ptr,zc]) g3) ?_);rintro _ a3 w3 ⟨rfl,g4⟩;refine wp_seq (wp_block ?_);refine BJ (fun n a w=>∃ todo X K:KL,WL (b3,0) e todo K∧(todo.map fun k=>k.2.1.size).sum=n∧n<1000000000∧GG wi mi 52 (fun id=>id<(SL b3 todo X).st.length) K (aW (SL b3 todo X).env) (aV (SL b3 todo X).st) a w) ?_ (n:=e.size) ⟨[((b3,0),(e,none))],[],[((b3,0),(e,none))], .start b3 e,by simp,he,g4⟩;rintro n a w ⟨todo,X,K,hWL,hsum,hn,g⟩
 rcases List.eq_nil_or_concat todo with rfl|⟨init,k,rfl⟩
 ·refine wp_mono (GG.iA gD (G:=GS 31) (S:=SL b3 [] X) (e:=.exit 0) (S':={ env:=[(0, .junk),(2, .own 0 0),(3, .i (ptr (b3,0))),(4, .osl 1 1 0 0),(5, .junk),(6, .junk),(13, .bool false),(37, .junk),(38, .junk),(39, .junk)],st:=[some (.box zc),some (.arr 1 (X.map fun k=>[ptr k.1]))] }) (by kernel_rfl) (by simp[SL,ptr,zc]) g) ?_;rintro _ a5 w5 ⟨rfl,g5⟩;simp only[jH,Exit.then,Exit.inBlock,if_true];obtain⟨⟨m5,φ5,hi5,henv5,hadv5,hok5,hK5⟩,hsz5,hdf5⟩:=g5;obtain⟨v,F,hx5,ht5,hnd5,hF5⟩:=hWL.tree hK5 hi5.mem e (b3,0) hWL.hroot;have h05:∀ id,φ5 id≠none→id<2:=hok5
  have hroot:IAt m5 b3 0 [.int e.kind, .int e.col, .bool e.val.null, .int e.val.n, .lit v]:=by
   have ho:=pO hx5.kids;exact .cons (by simpa using hx5.c0) (.lit _) rfl (.cons hx5.c1 (.lit _) rfl (.cons hx5.c2 (.lit _) rfl (.cons hx5.c3 (.lit _) rfl (.cons hx5.c4 (.lit _) ho (.nil _ _)))))
  have hp3:a5.tmps.getD 3 undef=.pointer (some ⟨b3,0,none⟩):=by
   have h3:Rep m5 φ5 (.i (ptr (b3,0))) (a5.tmps.getD 3 undef):=henv5 3;exact h3.bX
  have r5:FD [] w5 m5 φ5 52 2 { env:=[(2, .own 0 0),(3, .i (.iref [.int e.kind, .int e.col, .bool e.val.null, .int e.val.n, .lit v]))],st:=[some (.box zc),some (.arr 1 (X.map fun k=>[ptr k.1]))] } a5 w5:=by
   refine⟨⟨⟨m5,φ5,by simpa using hi5,fun t=>?_, .refl _ _ _,hok5, .nil _ _ _⟩,hsz5,hdf5⟩,zO _⟩;simp only[aW];by_cases h2:t=2
   ·subst h2;simp only[if_true];exact henv5 2
   ·by_cases h3:t=3
    ·subst h3;simp only[if_true];rw[hp3];exact .i (.iref hroot)
    ·simp only[h2,h3,if_false];exact .junk _
  refine wp_mono (APW gD h05 (G:=GS 31) (S:={ env:=[(2, .own 0 0),(3, .i (.iref [.int e.kind, .int e.col, .bool e.val.null, .int e.val.n, .lit v]))],st:=[some (.box zc),some (.arr 1 (X.map fun k=>[ptr k.1]))] }) (e:=.ret) (S':={ env:=[(0, .junk),(2, .own 0 0),(3, .i (.iref [.int e.kind, .int e.col, .bool e.val.null, .int e.val.n, .lit v])),(4, .junk),(5, .junk),(6, .junk),(13, .junk),(37, .junk),(38, .junk),(39, .junk)],st:=[some (.box [.int e.kind, .int e.col, .bool e.val.null, .int e.val.n, .i (.lit v)]),some (.arr 1 (X.map fun k=>[ptr k.1]))] }) (by kernel_rfl) (by simp[zc]) r5) ?_;rintro _ a6 w6 ⟨rfl,r6⟩
  obtain⟨vv,k1,k2⟩:=kH (C:=C1) (fn:=Tryd.f31) (keep:=false) (na:=2) (S:={ env:=[(0, .junk),(2, .own 0 0),(3, .i (.iref [.int e.kind, .int e.col, .bool e.val.null, .int e.val.n, .lit v])),(4, .junk),(5, .junk),(6, .junk),(13, .junk),(37, .junk),(38, .junk),(39, .junk)],st:=[some (.box [.int e.kind, .int e.col, .bool e.val.null, .int e.val.n, .i (.lit v)]),some (.arr 1 (X.map fun k=>[ptr k.1]))] }) (r:=.i (.agg [.int e.kind, .int e.col, .bool e.val.null, .int e.val.n, .lit v])) (stl':=[some (.box [.int e.kind, .int e.col, .bool e.val.null, .int e.val.n, .i (.lit v)]),some (.arr 1 (X.map fun k=>[ptr k.1]))]) h05 r6 (by
   show finish C1 false [ResultVar.cell 2 45] 2 _=_
   simp)
  refine⟨r6.1.defers,vv,k1,?_⟩;obtain⟨y,m6,φ6,hy,j1,j2,j3,j4⟩:=k2;injection hy with hy;subst hy
  have hvv:vv=.agg [.int .i64 e.kind, .int .i64 e.col, .bool e.val.null, .int .i64 e.val.n,v].toArray:=by
   cases j1 with
   | i r=>cases r with
    | agg hc =>
     have:=AF3 (vs:=[.int .i64 e.kind, .int .i64 e.col, .bool e.val.null, .int .i64 e.val.n,v]) hc;rw[this]
  subst hvv;have hall:=hadv5.trans j3;have hwi:∀ f,f<wi.heap.size→w6.heap[f]?=wi.heap[f]?:=fun f hf=>hall.block f hf fun id b n e=>by cases e
  have ht6:=ht5.mono (w':=w6) fun f hf=>j3.block f (tlt ht5 f hf) (hF5 f hf).2.2
  have hlt6:=tlt ht6;have hlen:(Ex.aA e.kids).length=e.kids.length:=by simp
  have hcne:Ex.aA e.kids≠[]:=fun h=>by rw[h]at hlen;simp at hlen;exact hne (zZ.1 hlen.symm)
  generalize hes:Ex.aA e.kids=es at ht6 hlen hcne
  cases ht6 with
  | isl0=>exact absurd rfl hcne
  | @isl b' kk cap _ us G _ _ F1 t1 t2 t3 t4 t5 t6 t7 t8 =>
   cases t8
   obtain rfl:kk=5:=by
    cases hks:e.kids with
    | nil=>exact absurd hks hne
    | cons a l=>rw[← t4 a.cells (by rw[← hes,hks];simp[Ex.aA]),Ex.aB];rfl
   simp only[yY]at hnd5 hF5 hlt6;obtain⟨T,t2,t9⟩:=t2;have hge:∀ f∈b'::G,wi.heap.size≤f:=fun f hf=>(hF5 f hf).2.1
   have hmi:∀ f∈b'::G,∀ o,mi f o=none:=fun f hf o=>by
    cases hx:mi f o with
    | none=>rfl
    | some u=>have:=hi.mem.lt hx;have:=hge f hf;omega
   refine⟨_,mi,fun id=>if id=0 then some (b',⟨us.length,fun f=>f∈b'::G⟩)else none,rfl,?_,⟨fun b o u hu=>?_,?_,?_,fun id b n f h1 ho=>by
    by_cases hid:id=0
    ·subst hid;simp only[if_true]at h1;injection h1 with h1;injection h1 with e1 e2;subst e2;exact hlt6 f ho
    ·simp[hid]at h1⟩,⟨hall.size,hall.os,hall.tape,hall.output,fun f hf _=>hwi f hf, .refl _,fun _ _ _ _=>rfl,(fun _ _ _ h=>by cases h),?_⟩,?_⟩
   ·refine .agg (.cons (.i (.lit _)) rfl (.cons (.i (.lit _)) rfl (.cons (.i (.lit _)) rfl (.cons (.i (.lit _)) rfl (.cons ?_ rfl .nil)))));rw[hlen];exact .osl (n:=⟨us.length,fun f=>f∈b'::G⟩) rfl (by omega) (by simpa using t5) (fun _=>by simp) (fun h=>by cases h)
   ·rw[cell_of_heap (hwi b (hi.mem.lt hu))];exact hi.mem b o u hu
   ·intro id blk hb
    cases id with
    | succ id=>simp[aV]at hb
    | zero =>
     simp only[aV]at hb;rw[AC1 hne,← Ex.vN,hes]at hb;injection hb with hb;subst hb;refine⟨b',⟨us.length,fun f=>f∈b'::G⟩,rfl,⟨by simp,fun f hf=>hlt6 f hf⟩,?_⟩;exact .tre (T:=T) t2 rfl (by omega) t4 t7.toU (by show 5*es.length≤us.length;omega) hnd5 (fun f hf=>x8 _ hf) hmi t9
   ·intro i j x x' n1 n2 b1 b2 f h1 h2 _ _ _ _
    cases i with
    | succ i=>simp[aV]at h1
    | zero=>cases j with
     | zero=>rfl
     | succ j=>simp[aV]at h2
   ·intro id b n f h1 ho;by_cases hid:id=0
    ·subst hid;simp only[if_true]at h1;injection h1 with h1;injection h1 with e1 e2;subst e2;exact .inl (hge f ho)
    ·simp[hid]at h1
   ·intro id hne';by_cases hid:id=0
    ·subst hid;simp
    ·simp[hid]at hne'
 ·clear g0 g4 g3 g1 g2;obtain⟨⟨b,o⟩,x,nn⟩:=k;obtain rfl:nn=none:=(hWL.sub ((b,o),(x,nn)) (by simp)).2;rw[List.concat_eq_append]at hWL hsum g
  have hlen:∀ l:KL,l.length≤(l.map fun k=>k.2.1.size).sum:=by
   intro l
   induction l with
   | nil=>simp
   | cons a l ih=>have:=Ex.nS a.2.1;simp;omega
  have hil:=hlen init;simp at hsum;have hxk:((b,o),(x,none))∈K:=(hWL.sub _ (by simp)).1;have hxs:=Ex.size_eq x;have hkl:=Ex.eF x.kids;have hne:¬ ((init.length:Int)+1≤0):=by omega
  have hpos:(0:Int)<(init.length:Int)+1:=by omega
  have w1:IntKind.i64.wrap (init.length:Int)=init.length:=wrO;generalize hES:((init++[((b,o),((x,none):Nd))]++X:KL).map fun k=>[ptr k.1])=ES
  have hnth:gW ES init.length=some [ptr (b,o)]:=by
   rw[gM,← hES];simp
  have hlit:∀ c∈ES.flatten,∃ v,c=.lit v:=by rw[← hES];exact CV _
  have hlt:(init.length:Int)<(init.length:Int)+1:=by omega
  have hlt2:(init.length:Int)≤(init.length:Int)+1:=by omega
  refine wp_seq (wp_mono (GG.iA gD (G:=GS 31) (S:=SL b3 (init++[((b,o),((x,none):Nd))]) X) (e:=.normal) (S':={ env:=[(0, .junk),(2, .own 0 0),(3, .i (ptr (b3,0))),(4, .osl 1 1 0 (init.length+1)),(5, .junk),(6, .junk),(13, .bool true),(37, .junk),(38, .junk),(39, .junk)],st:=[some (.box zc),some (.arr 1 ES)] }) (by kernel_rfl) (by simp only[SL,hES];simp[ptr,zc,hpos]) (by simpa using g)) ?_);rintro _ a5 w5 ⟨rfl,g5⟩;clear g;refine wp_block ?_;refine wp_seq (wp_mono (GG.iA gD (G:=GS 31) (S:={ env:=[(0, .junk),(2, .own 0 0),(3, .i (ptr (b3,0))),(4, .osl 1 1 0 (init.length+1)),(5, .junk),(6, .junk),(13, .bool true),(37, .junk),(38, .junk),(39, .junk)],st:=[some (.box zc),some (.arr 1 ES)] }) (e:=.normal) (S':={ env:=[(0, .junk),(2, .own 0 0),(3, .i (ptr (b3,0))),(4, .osl 1 1 0 (init.length+1)),(5,(.i (ptr (b,o)))),(6, .junk),(13, .bool true),(37, .junk),(38, .junk),(39, .junk)],st:=[some (.box zc),some (.arr 1 ES)] }) (by kernel_rfl) (by simp only[ptr]at hnth;simp[ptr,zc,hnth,w1,hlt]) g5) ?_);rintro _ a6 w6 ⟨rfl,g6⟩;clear g5;refine wp_seq (wp_mono (GG.iA gD (G:=GS 31) (S:={ env:=[(0, .junk),(2, .own 0 0),(3, .i (ptr (b3,0))),(4, .osl 1 1 0 (init.length+1)),(5,(.i (ptr (b,o)))),(6, .junk),(13, .bool true),(37, .junk),(38, .junk),(39, .junk)],st:=[some (.box zc),some (.arr 1 ES)] }) (e:=.normal) (S':={ env:=[(0, .junk),(2, .own 0 0),(3, .i (ptr (b3,0))),(4, .osl 1 1 0 init.length),(5,(.i (ptr (b,o)))),(6, .junk),(13, .bool true),(37, .junk),(38, .junk),(39, .junk)],st:=[some (.box zc),some (.arr 1 ES)] }) (by kernel_rfl) (by simp[ptr,zc,w1,hlt2]) g6) ?_);rintro _ a7 w7 ⟨rfl,g7⟩;clear g6
  refine wp_seq (GG.region gD (os1:=[_,_]) (os2:=[_,_,_,_,_,_]) (u:=26) (PP:=PP b3 b o init.length x ES) rfl (by
   have h:∀ ops:Array Oper,ops.all (iT 52)=true→∀ o∈ops,iT 52 o=true:=fun ops h o ho=>yG.1 h o ho
   exact h _ (by kernel_rfl)) g7 hxk ?_ ?_)
  ·rw[Ex.aB];by_cases hx:x.kids=[]
   ·simp[ptr,zc,hx,PP,Ex.aA,AAB]
   ·simp[ptr,zc,PP,SX hx (by omega),hx]
  ·rintro env st a8 w8 ⟨p2,p3,p4,p5,p32,q0,q1,p30⟩ g8;clear g7
   obtain⟨w9,b',ao,cap,e1,e2,hrun,hG,hfr⟩:=GG.turn (C:=C1) (ok':=fun id=>id<2) (st':=aV [some (.box zc),some (.arr 1 ES)]) (u:=30) (t:=29) g8 (by simp) hi.mem hxk (fun k hk he'=>hWL.nolit ((b,o),(x,none)) (by simp) k hk he') rfl (by
    rcases p30 with ⟨h1,h2⟩|⟨id,h1,h2,h3,h4⟩
    ·refine .inl ⟨h1,h2,?_⟩;intro i blk h
     rcases i with _|_|i
     ·simp[aV]at h;subst h;exact q0
     ·simp[aV]at h;subst h;exact q1
     ·simp[aV]at h
    ·refine .inr ⟨id,h1,h2,h3,?_⟩;intro i blk h
     rcases i with _|_|i
     ·simp[aV]at h;subst h;exact⟨by omega,q0⟩
     ·simp[aV]at h;subst h;exact⟨by omega,q1⟩
     ·simp[aV]at h) (by
    intro i blk h
    rcases i with _|_|i
    ·simp[aV]at h;subst h;simp[fQ,zc]
    ·simp[aV]at h;subst h;exact hlit
    ·simp[aV]at h) (by
    intro i h
    rcases i with _|_|i
    ·omega
    ·omega
    ·simp[aV]at h)
   have ev5:=g8.VB (t:=5) p5;have ev32:=g8.VB (t:=32) p32
   refine G5 (C:=C1) (w':=w9) rfl (by
    show(Instr.storeAt 29 (a8.tmps.getD 32 undef) (a8.tmps.getD 30 undef)).run C1.P w8=_
    rw[ev32];exact hrun) ?_
   have g9:=hG (aW [(2, .own 0 0),(3, .i (ptr (b3,0))),(4, .osl 1 1 0 init.length),(5,(.i (.iref [.int x.kind, .int x.col, .bool x.val.null, .int x.val.n, .lit (.slice ao x.kids.length cap)])))]) (by
    intro t;simp only[aW];by_cases h2:t=2
    ·subst h2;exact .inr (.inr ⟨by simp[p2],by rw[p2];simp[iX,aV]⟩)
    by_cases h3:t=3
    ·subst h3;exact .inr (.inr ⟨by simp[p3],by rw[p3];simp[iX,ptr]⟩)
    by_cases h4:t=4
    ·subst h4;exact .inr (.inr ⟨by simp[p4],by rw[p4];simp[iX,aV]⟩)
    by_cases h5:t=5
    ·subst h5;exact .inr (.inl ⟨ev5,by simp⟩)
    ·simp[h2,h3,h4,h5])
   clear hG g8;show Code.wp _ _ _ _ _;refine wp_seq (wp_mono (GG.iA gD (G:=GS 31) (S:={ env:=[(2, .own 0 0),(3, .i (ptr (b3,0))),(4, .osl 1 1 0 init.length),(5,(.i (.iref [.int x.kind, .int x.col, .bool x.val.null, .int x.val.n, .lit (.slice ao x.kids.length cap)])))],st:=[some (.box zc),some (.arr 1 ES)] }) (e:=.normal) (S':={ env:=[(0, .junk),(2, .own 0 0),(3, .i (ptr (b3,0))),(4, .osl 1 1 0 init.length),(5,(.i (.iref [.int x.kind, .int x.col, .bool x.val.null, .int x.val.n, .lit (.slice ao x.kids.length cap)]))),(6, .junk),(13, .junk),(37, .int x.kids.length),(38, .int 0),(39, .junk)],st:=[some (.box zc),some (.arr 1 ES)] }) (by kernel_rfl) (by simp[ptr,zc]) g9) ?_);rintro _ a10 w10 ⟨rfl,g10⟩;clear g9;by_cases hx:x.kids=[]
   ·refine wp_mono (GG.iA gD (G:=GS 31) (S:={ env:=[(0, .junk),(2, .own 0 0),(3, .i (ptr (b3,0))),(4, .osl 1 1 0 init.length),(5,(.i (.iref [.int x.kind, .int x.col, .bool x.val.null, .int x.val.n, .lit (.slice ao x.kids.length cap)]))),(6, .junk),(13, .junk),(37, .int x.kids.length),(38, .int 0),(39, .junk)],st:=[some (.box zc),some (.arr 1 ES)] }) (e:=.normal) (S':={ env:=[(0, .junk),(2, .own 0 0),(3, .i (ptr (b3,0))),(4, .osl 1 1 0 init.length),(5,(.i (.iref [.int x.kind, .int x.col, .bool x.val.null, .int x.val.n, .lit (.slice ao x.kids.length cap)]))),(6, .junk),(13, .junk),(37, .int x.kids.length),(38, .int 0),(39, .bool false)],st:=[some (.box zc),some (.arr 1 ES)] }) (by kernel_rfl) (by
     simp only[hx,zI];simp;rw[aD]
     simp[ptr,zc]) g10) ?_
    rintro _ a11 w11 ⟨rfl,g11⟩;simp only[jH,Exit.then,Exit.inBlock];refine⟨n-1,by omega,init,((b,o),(x,none))::X,K++XG b o x b' cap,by have:=hWL.step (b':=b') (cap:=cap) hfr;rwa [hx,show bH b' 0 []=[]from rfl,yY]at this,?_,by omega,?_⟩
    ·rw[hx]at hxs;simp[Ex.aX]at hxs;omega
    ·have hES2:((init++((b,o),((x,none):Nd))::X:KL).map fun k=>[ptr k.1])=ES:=by rw[← hES];simp
     simp only[SL,hES2]
     exact g11.envTo (by
      intro t;simp only[aW];by_cases h2:t=2
      ·subst h2;simp
      by_cases h3:t=3
      ·subst h3;simp
      by_cases h4:t=4
      ·subst h4;simp
      ·simp[h2,h3,h4])
   ·obtain rfl:=e2 hx;have hET:ES.take init.length=RW init b' 0:=by rw[← hES];simp[RW]
    have hEL:init.length≤ES.length:=by rw[← hES];simp
    have hlim:∀ i,i≤x.kids.length→(init.length+i+1)*8≤140737488355328:=fun i hi=>by omega
    have hk0:x.kids.length≠0:=fun h=>hx (zZ.1 h)
    refine wp_mono (GG.iA gD (G:=GS 31) (S:={ env:=[(0, .junk),(2, .own 0 0),(3, .i (ptr (b3,0))),(4, .osl 1 1 0 init.length),(5,(.i (.iref [.int x.kind, .int x.col, .bool x.val.null, .int x.val.n, .lit (.slice (some ⟨b',0,none⟩) x.kids.length cap)]))),(6, .junk),(13, .junk),(37, .int x.kids.length),(38, .int 0),(39, .junk)],st:=[some (.box zc),some (.arr 1 ES)] }) (e:=.normal) (S':={ env:=[(0, .junk),(2, .own 0 0),(3, .i (ptr (b3,0))),(4, .osl 2 1 0 (init.length+x.kids.length)),(5,(.i (.iref [.int x.kind, .int x.col, .bool x.val.null, .int x.val.n, .lit (.slice (some ⟨b',0,none⟩) x.kids.length cap)]))),(6, .int (x.kids.length-1)),(13, .junk),(37, .int x.kids.length),(38, .int x.kids.length),(39, .bool false)],st:=[some (.box zc),none,some (.arr 1 (RW init b' x.kids.length))] }) (by kernel_rfl) (by
     simp;rw[aU (YS b3 b' cap x init ES) x.kids.length (by simp[YS])]
     ·rw[aD];simp[YS,hk0,fG hk0,zc,ptr]
     ·intro i hi;have w2:IntKind.i64.wrap ((i:Int)+1)=i+1:=wrO;have hi0:(i:Int)<x.kids.length:=by omega
      by_cases h0:i=0
      ·subst h0;have hl:(init.length+1)*8≤140737488355328:=by omega
       have hR:RW init b' 0++[[.lit (.pointer (some ⟨b',0,none⟩))]]=RW init b' 1:=by simpa [ptr]using F8 init b' 0
       simp[YS,zc,ptr,XK,hi,hET,hEL,hl,hR]
      ·have hl:=hlim i (by omega);have hT:(RW init b' i).take (init.length+i)=RW init b' i:=zY (by rw[OG];omega);have hR:RW init b' i++[[.lit (.pointer (some ⟨b',i*5,none⟩))]]=RW init b' (i+1):=by simpa [ptr]using F8 init b' i
       simp[YS,h0,fG h0,zc,ptr,w2,hi,hT,OG,hl,hR,← Nat.add_assoc]) g10) ?_
    rintro _ a11 w11 ⟨rfl,g11⟩;simp only[jH,Exit.then,Exit.inBlock];refine⟨n-1,by omega,init++bH b' 0 x.kids,[],K++XG b o x b' cap,hWL.step hfr,?_,by omega,?_⟩
    ·rw[yF,List.sum_append,mW];omega
    ·have g12:=g11.settle [2,3,4]
     have hR:List.map (fun k:(Nat×Nat)×Nd=>[ptr k.1]) (init++bH b' 0 x.kids++[])=RW init b' x.kids.length:=by
      rw[yY,yF,mX];simp[RW]
     have hl:(init++bH b' 0 x.kids).length=init.length+x.kids.length:=by rw[zR,mY]
     simp only[SL,hR,hl]
     have hs:Av.settle [2,3,4] 0 (aW [(0, .junk),(2, .own 0 0),(3, .i (ptr (b3,0))),(4, .osl 2 1 0 (init.length+x.kids.length)),(5, .i (.iref [.int x.kind, .int x.col, .bool x.val.null, .int x.val.n, .lit (.slice (some ⟨b',0,none⟩) x.kids.length cap)])),(6, .int (x.kids.length-1)),(13, .junk),(37, .int x.kids.length),(38, .int x.kids.length),(39, .bool false)]) (aV [some (.box zc),none,some (.arr 1 (RW init b' x.kids.length))])={ env:=[(2, .own 0 0),(3, .i (ptr (b3,0))),(4, .osl 1 1 0 (init.length+x.kids.length))],st:=[some (.box zc),some (.arr 1 (RW init b' x.kids.length))] }:=by
      simp[zc,ptr]
     rw[hs]at g12
     exact g12.envTo (by
      intro t;simp only[aW];by_cases h2:t=2
      ·subst h2;simp
      by_cases h3:t=3
      ·subst h3;simp
      by_cases h4:t=4
      ·subst h4;simp
      ·simp[h2,h3,h4])
end Go.Av.V.Sx
namespace Go.Av
def unC:IV→IV
 | .iref [c]=>c
 | c=>c
theorem ABZ (c:IV):unC (OM c)=c:=by
 unfold OM;split
 ·rename_i h
  cases c with
  | iref cs=>simp[jJ]at h
  | _=>rfl
 ·rfl
def nN (k ix off:Nat):Option Blk→Option IV
 | some (.arr k' es)=>tst (decide (k'=k∧off≤k)) (bnd (gW es ix) fun e=>some (.iref (dropE off e)))
 | some (.tre k' es)=>tst (decide (k'=k∧off≤k)) (bnd (gW es ix) fun e=>some (.iref (dropE off (e.map unC))))
 | _=>none
def AFQ (st:Store):AV→Option IV
 | .ownE id k ix off=>nN k ix off (st id)
 | v=>BO st v
def GA (st:Store):List AV→Option (List AV)
 | []=>some []
 | c::r=>bnd (AFQ st c) fun v=>bnd (GA st r) fun l=>some (.i v::l)
def PQ (call:dB) (g:FuncId) (args:List AV) (st:StL):Option (AV×StL):=bnd (GA (aV st) args) fun us=>VD call g us st
theorem UCells.toI {w:World} {m:Mem} (hm:lW w m):∀ {cs:List IV} {vs:List Value} {F:List Nat},UCells w m cs vs F→ICells (dX w) (cs.map unC) vs
 | _,_,_, .nil=>.nil
 | _,_,_, .lit o r=>.cons (.lit _) o (r.toI hm)
 | _,_,_, .isl0 c r=>.cons (.isl0 _ _ c) rfl (r.toI hm)
 | _,_,_, .isl hn hr hk hl hf hc g r=>by
  have:=(TCells.isl hn hr hk hl hf hc g .nil).toI
  cases this with
  | cons a _ _=>exact .cons a rfl (r.toI hm)
 | _,_,_, .kn a o r=>.cons (a.mono (mV hm)) o (r.toI hm)
theorem J4 {w:World} {m:Mem} {φ:Pl} {st:Store} {id k ix off:Nat} {x:Value} {iv:IV} (hi:Inv w m φ st) (hr:Rep m φ (.ownE id k ix off) x) (h:nN k ix off (st id)=some iv):IRep (dX w) iv x:=by
 cases hr with
 | @ownE _ _ _ _ b n e =>
  cases hst:st id with
  | none=>rw[hst]at h;simp[nN]at h
  | some blk =>
   rw[hst]at h;obtain⟨hb,hok⟩:=EZ hi e hst
   have key:∀ {T:TypeId} {vs:List Value} {es:List (List IV)} {er:List IV},w.heap[b]?=some (.cells vs.toArray T (0,0))→(∀ r∈es,r.length=k)→ICells (dX w) es.flatten (vs.take (k*es.length))→es[ix]?=some er→off≤k→IRep (dX w) (.iref (dropE off er)) (.pointer (some ⟨b,k*ix+off,none⟩)):=by
    intro T vs es er hh hw hc h1 ho
    have he:IElems (dX w) b 0 k es:=fV 0 hw hc fun j v hj=>by
     show w.cell? ⟨b,0+j,none⟩=some v;rw[zM,bT hh];rw[zH]at hj;split at hj
     ·exact hj
     ·cases hj
    obtain⟨hat,hl⟩:=BD he h1;have:=IAt.dropE off hat (by omega);rw[zM]at this;exact .iref this
   cases hok with
   | arr hh hl hpos hw1 hc hfit hm hown1 hone =>
    simp only[nN]at h;obtain⟨hk,h0⟩:=aR.1 h;obtain⟨rfl,ho⟩:=zP hk;obtain⟨er,h1,h2⟩:=aG.1 h0;injection h2 with h2;subst h2;rw[gM]at h1;exact key hh hw1 (hc.mono (mV hi.mem)) h1 ho
   | @tre T k' es vs F hh hl hpos hw1 hc hfit hnd hF hm hone =>
    simp only[nN]at h;obtain⟨hk,h0⟩:=aR.1 h;obtain⟨rfl,ho⟩:=zP hk;obtain⟨er,h1,h2⟩:=aG.1 h0;injection h2 with h2;subst h2;rw[gM]at h1;refine key (es:=es.map (List.map unC)) hh (fun r hr=>?_) ?_ (by rw[zA5,h1];rfl) ho
    ·obtain⟨r',hr',rfl⟩:=y7.1 hr;rw[zB6];exact hw1 r' hr'
    ·have:=hc.toI hi.mem;rw[List.map_flatten]at this;rw[zB6];exact this
   | _=>simp[nN]at h
theorem vW {w:World} {m:Mem} {φ:Pl} {st:Store} (hi:Inv w m φ st):∀ {cs us:List AV} {xs:List Value},RepL m φ cs xs→GA st cs=some us→RepL (dX w) (fun _=>none) us xs
 | [],us,_, .nil,h=>by simp[GA]at h;subst h;exact .nil
 | c::cs,us,_, .cons a b,h=>by
  simp only[GA]at h;obtain⟨v,h1,h2⟩:=aG.1 h;obtain⟨l',h3,h4⟩:=aG.1 h2;injection h4 with h4;subst h4;refine .cons (.i ?_) (vW hi b h3);unfold AFQ at h1;split at h1
  ·exact J4 hi a h1
  ·exact BN hi a h1
theorem DT {C:Ctx} {call:dB} (hcall:CallOk C call) {g:FuncId} {args:List AV} {stl stl':StL} {r:AV} (h:PQ call g args stl=some (r,stl')) (hy:g≠sW:=by decide) :
 (∃ fn,C.P.funcs[g]?=some fn∧fn.name≠ "runtime.NumGoroutine"∧fn.body.isSome=true)∧∀ (w:World) (m:Mem) (φ:Pl) (vs:List Value),Inv w m φ (aV stl)→RepL m φ args vs→(∀ id,φ id≠none→id<stl.length) →
  Calls C.P g vs.toArray w (bR w m φ r stl'):=by
 unfold PQ at h;obtain⟨us,h1,h2⟩:=aG.1 h;exact sD hcall (us:=us) (fun w m φ vs hi hr=>vW hi hr h1) h2 hy
end Go.Av
namespace Go.Av
open Go.Av.Mk
def rEx0 (e:Ex):AV×StL:=if e.kids=[]then(.i (.agg e.cells),[])else(tE e 0,[some (OT Ex.cells 5 e.kids)])
noncomputable def Q9:List AV→StL→Option (AV×StL)
 | [.i (.iref cs)],[]=>@dite _ (∃ e:Ex,e.size<1000000000∧e.cells=cs) (Classical.propDecidable _) (fun h=>some (rEx0 h.choose)) fun _=>none
 | _,_=>none
theorem ADH {e:Ex} (h:e.size<1000000000):Q9 [.i (.iref e.cells)] []=some (rEx0 e):=by
 have hh:∃ x:Ex,x.size<1000000000∧x.cells=e.cells:=⟨e,h,rfl⟩
 unfold Q9;simp only;rw[dif_pos hh,Ex.IR _ _ hh.choose_spec.2]
theorem W9 {args:List AV} {st:StL} {r:AV×StL} (h:Q9 args st=some r):∃ e:Ex,e.size<1000000000∧args=[.i (.iref e.cells)]∧st=[]∧r=rEx0 e:=by
 unfold Q9 at h;split at h
 ·rename_i cs;by_cases hc:∃ e:Ex,e.size<1000000000∧e.cells=cs
  ·rw[dif_pos hc]at h;injection h with h;exact⟨hc.choose,hc.choose_spec.1,by rw[hc.choose_spec.2],rfl,h.symm⟩
  ·rw[dif_neg hc]at h;cases h
 ·cases h
theorem L6:∀ l:List IV,(jW l).map unC=l
 | []=>rfl
 | c::l=>by simp only[jW,yP,ABZ,L6 l]
theorem FY:∀ {l:List IV},kN l=true→jW l=l
 | [],_=>rfl
 | c::l,h=>by
  simp only[kN,zU]at h;simp[jW,OM,h.1,FY h.2]
theorem BI:∀ {l:List (List IV)},fI l=true→fH l=l
 | [],_=>rfl
 | c::l,h=>by
  simp only[fI,zU]at h;simp[fH,FY h.1,BI h.2]
def FQ (es:List Ex):Nat→Blk
 | 0=>.arr 5 (Ex.aA es)
 | i+1=>.tre 5 (Ex.aA (es.take (i+1))++fH (Ex.aA (es.drop (i+1))))
@[simp] theorem AKU (r:Nat→Option Nat) (es:List Ex):∀ i,uM r (some (FQ es i))=some (FQ es i)
  | 0=>rfl
  | _+1=>rfl
@[simp] theorem AHN (es:List Ex):∀ i,gG (some (FQ es i))=[]
  | 0=>rfl
  | _+1=>rfl
theorem ACT {es:List Ex} (h:es≠[]):FQ es es.length=.tre 5 (Ex.aA es):=by
 cases hl:es.length with
 | zero=>exact absurd (zZ.1 hl) h
 | succ n =>
  have h1:es.take (n+1)=es:=zY (by omega);have h2:es.drop (n+1)=[]:=List.drop_eq_nil_of_le (by omega);simp[FQ,h1,h2,Ex.aA,fH]
theorem RI {es:List Ex} {i:Nat} {a:Ex} (h:es[i+1]?=some a):Ex.aA (es.take (i+1))++fH (Ex.aA (es.drop (i+1)))=Ex.aA (es.take (i+1))++jW a.cells::fH (Ex.aA (es.drop (i+2))):=by
 obtain⟨hl,rfl⟩:=zW.1 h;rw[yJ hl];rfl
theorem RJ {es:List Ex} {i:Nat} {a:Ex} (h:es[i]?=some a):(Ex.aA (es.take i)).length=i:=by
 have:=(zW.1 h).1;simp;omega
theorem ZG {es:List Ex} {i:Nat} {a:Ex} (h:es[i]?=some a):nN 5 i 0 (some (FQ es i))=some (.iref a.cells):=by
 have hd:∀ l:List IV,dropE 0 l=l:=fun l=>by cases l<;>rfl
 cases i with
 | zero =>
  have:=Ex.aS h;simp[FQ,nN,tst,bnd,this,hd]
 | succ i =>
  have h1:=o7 (Ex.aA (es.take (i+1))) (jW a.cells) (fH (Ex.aA (es.drop (i+2))));rw[RJ h]at h1;simp only[FQ,RI h];simp[nN,tst,bnd,h1,hd,L6]
theorem ACS {es:List Ex} {i:Nat} {a:Ex} (h:es[i]?=some a) (id:Nat) (st:Store):dR id 5 i 0 a.cells st (some (FQ es i))=some (upd st id (some (FQ es (i+1)))):=by
 have hl:AL a.cells=false:=by rw[Ex.aB];simp[AL,ACX]
 have g3:splice a.cells 0 a.cells=some a.cells:=iP rfl;have g4:splice (jW a.cells) 0 a.cells=some a.cells:=iP (by rw[BH])
 cases i with
 | zero =>
  cases es with
  | nil=>simp at h
  | cons x es =>
   simp at h;subst h;by_cases hb:fI (Ex.aA (x::es))=true
   ·have hb2:=hb;simp only[Ex.aA,fI,zU]at hb2;simp only[Ex.aA]at hb;simp[FQ,dR,tN,bnd,tst,gM,g3,g4,hl,hb,Ex.aA,BI hb2.2]
   ·simp only[Ex.aA]at hb;simp[FQ,dR,tN,bnd,tst,gM,g3,g4,hl,hb,Ex.aA,fH]
 | succ i =>
  have hn:=RJ h;have h1:=o7 (Ex.aA (es.take (i+1))) (jW a.cells) (fH (Ex.aA (es.drop (i+2))));rw[hn]at h1
  have h2:(Ex.aA (es.take (i+1))++jW a.cells::fH (Ex.aA (es.drop (i+2)))).set (i+1) a.cells=Ex.aA (es.take (i+1))++a.cells::fH (Ex.aA (es.drop (i+2))):=by
   rw[List.set_append_right _ _ (by omega),hn,Nat.sub_self,List.set_cons_zero]
  have h3:Ex.aA (es.take (i+2))=Ex.aA (es.take (i+1))++[a.cells]:=by rw[aM h,Ex.bB]
  simp only[FQ,RI h,h3,yS,List.singleton_append];simp[dR,bnd,tst,h1,g4,h2]
end Go.Av
namespace Go.Proofs.YtmcjmafajkeecaaDoor.P
open Go Go.Av Go.Av.Mk
set_option maxRecDepth 4000
set_option maxHeartbeats 4000000
noncomputable def AGQ:FuncId→Option (List AV→StL→Option (AV×StL))
 | 31=>some Q9
 | _=>none
noncomputable def C3:Ctx:={ P:=Tryd.prog,G:=GS,ownArgs:=dU,keepRes:=keepR,eqT:=wU,prim:=AGQ,tree:=true }
theorem ACG:PrimOk C3:=by
 have key:∀ g q,C3.prim g=some q→g=31∧q=Q9:=by
  intro g q h;have h:AGQ g=some q:=h;unfold AGQ at h;split at h
  ·injection h with h;exact⟨rfl,h.symm⟩
  ·cases h
 constructor
 ·intro g args st p h;unfold bN at h
  cases hq:C3.prim g with
  | none=>rw[hq]at h;cases h
  | some q =>
   obtain⟨rfl,rfl⟩:=key g q hq;exact⟨Tryd.f31,Tryd.func31,by decide,rfl⟩
 ·intro g args stl r stl' h w m φ vs hi hr h0;unfold bN at h
  cases hq:C3.prim g with
  | none=>rw[hq]at h;cases h
  | some q =>
   obtain⟨rfl,rfl⟩:=key g q hq;rw[hq]at h;obtain⟨e,he,rfl,rfl,hres⟩:=W9 h;unfold rEx0 at hres;split at hres
   ·injection hres with h1 h2;subst h1;subst h2;exact wW he hi hr h0
   ·rename_i hk;injection hres with h1 h2;subst h1;subst h2;exact Go.Av.V.Sx.QC he hk hi hr h0
theorem AKI:SoundOk C3:=iJ (C:=C3) ft nt eqS mo ACG
attribute [local simp] PQ VD GA AFQ mfA mfR ALF ALG mfC ABG jC
theorem PO {es:List Ex} {i:Nat} {a:Ex} (ha:es[i]?=some a) (hs:a.size<1000000000):PQ (aH C3) 31 [.ownE 0 5 i 0] [some (FQ es i)]=some (if a.kids=[]then .i (.agg a.cells)else tE a 1,if a.kids=[]then [some (FQ es i)]else [some (FQ es i),some (OT Ex.cells 5 a.kids)]):=by
 have h1:aH C3 31 [.i (.iref a.cells)] []=some (rEx0 a):=by
  rw[aP (C:=C3) (p:=Q9) rfl];exact ADH hs
 have h2:=ZG ha;by_cases hk:a.kids=[]
 ·simp only[rEx0,hk,if_true]at h1 ⊢;rw[Ex.aB,hk]at h1 h2 ⊢;simp only[Ex.aA]at h1 h2 ⊢;simp[h1,h2]
 ·simp only[rEx0,hk,if_false]at h1 ⊢;simp[h1,h2,tE]
end Go.Proofs.YtmcjmafajkeecaaDoor.P
namespace Go.Proofs.YtmcjmafajkeecaaDoor.G
open Go Go.Av
set_option maxRecDepth 4000
set_option maxHeartbeats 4000000
noncomputable def AGR:FuncId→Option (List AV→StL→Option (AV×StL))
 | 31=>some (PQ (aH P.C3) 31)
 | _=>none
noncomputable def C2:Ctx:={ P:=Tryd.prog,G:=GS,ownArgs:=dU,keepRes:=keepR,eqT:=wU,prim:=AGR,tree:=true }
@[simp] theorem Ad4:C2.P=Tryd.prog:=(rfl)
@[simp] theorem Ad5 (f):C2.G f=GS f:=(rfl)
@[simp] theorem Ad1 (f):C2.ownArgs f=dU f:=(rfl)
@[simp] theorem Ad2 (f):C2.keepRes f=keepR f:=(rfl)
@[simp] theorem Ad3 (f):C2.eqT f=wU f:=(rfl)
@[simp] theorem Ad0:C2.tree=true:=(rfl)
theorem ACH:PrimOk C2:=by
 have h3:=aZ P.AKI
 have key:∀ g q,C2.prim g=some q→g=31∧q=PQ (aH P.C3) g:=by
  intro g q h;have h:AGR g=some q:=h;unfold AGR at h;split at h
  ·injection h with h;exact⟨rfl,h.symm⟩
  ·cases h
 constructor
 ·intro g args st p h;unfold bN at h
  cases hq:C2.prim g with
  | none=>rw[hq]at h;cases h
  | some q =>
   obtain⟨rfl,rfl⟩:=key g q hq;rw[hq]at h;exact(DT h3 (r:=p.1) (stl':=p.2) h).1
 ·intro g args stl r stl' h w m φ vs hi hr h0;unfold bN at h
  cases hq:C2.prim g with
  | none=>rw[hq]at h;cases h
  | some q =>
   obtain⟨rfl,rfl⟩:=key g q hq;rw[hq]at h;exact(DT h3 h).2 w m φ vs hi hr h0
theorem mQ:SoundOk C2:=iJ (C:=C2) ft nt eqS mo ACH
theorem AMF:aH C2 48 [.i (.isl [])] []=some (.nils,[]):=by
 rw[aF rfl Tryd.func48 rfl rfl];simp
theorem AID {ks:List Ex} (h:ks≠[]) (hl:ks.length<1000000000):aH C2 48 [.i (.isl (Ex.aA ks))] []=some (.osl 0 5 0 ks.length,[some (.arr 5 (Ex.aA ks))]):=by
 rw[aF rfl Tryd.func48 rfl rfl];have h1:56*(ks.length:Int)≤281474976710656:=by omega
 simp[h,h1];unfold over;simp
theorem AFI:aH C2 49 [.i (.isl [])] []=some (.nils,[]):=by
 rw[aF rfl Tryd.func49 rfl rfl];simp
theorem AAN {l:List Int} (h:l≠[]) (hl:l.length<1000000000):aH C2 49 [.i (.isl (aI l))] []=some (.osl 0 1 0 l.length,[some (.arr 1 (aI l))]):=by
 rw[aF rfl Tryd.func49 rfl rfl];have h1:8*(l.length:Int)≤281474976710656:=by omega
 simp[h,h1];unfold over;simp
theorem TC:aH C2 50 [.i (.isl [])] []=some (.nils,[]):=by
 rw[aF rfl Tryd.func50 rfl rfl];simp
theorem K9 {ks:List Pn} (h:ks≠[]) (hl:ks.length<1000000000):aH C2 50 [.i (.isl (Pn.aA ks))] []=some (.osl 0 5 0 ks.length,[some (.arr 5 (Pn.aA ks))]):=by
 rw[aF rfl Tryd.func50 rfl rfl];have h1:88*(ks.length:Int)≤281474976710656:=by omega
 simp[h,h1];unfold over;simp
theorem AME {es:List Ex} {i:Nat} {a:Ex} (ha:es[i]?=some a) (hs:a.size<1000000000):aH C2 31 [.ownE 0 5 i 0] [some (FQ es i)]=some (if a.kids=[]then .i (.agg a.cells)else tE a 1,if a.kids=[]then [some (FQ es i)]else [some (FQ es i),some (Mk.OT Ex.cells 5 a.kids)]):=by
 rw[aP (C:=C2) (p:=PQ (aH P.C3) 31) rfl];exact P.PO ha hs
def zp:List AV:=[.int 0, .int 0, .nils, .nils, .nils]
def EV (b3:Nat) (v4 v5 v6 v7 v14 v38 v39 v40 v76 v77 v78:AV):List (Nat×AV):=[(0, .junk),(2, .own 0 0),(3, .i (ptr (b3,0))),(4,v4),(5,v5),(6,v6),(7,v7),(14,v14),(38,v38),(39,v39),(40,v40),(76,v76),(77,v77),(78,v78)]
def kK (l:PL):List (List IV):=l.map fun k=>[ptr k.1]
def SLp (b3:Nat) (todo X:PL):AS:={ env:=EV b3 (.osl 1 1 0 todo.length) .junk .junk .junk .junk .junk .junk .junk .junk .junk .junk,st:=[some (.box zp),some (.arr 1 (kK (todo++X)))] }
def SRp (b3 n o:Nat) (ES:List (List IV)) (v6 v7 v14 v38 v39 v40 v76 v77 v78:AV) (cells:List AV) (L:StL):AS:={ env:=EV b3 (.osl 1 1 0 n) (.own 2 o) v6 v7 v14 v38 v39 v40 v76 v77 v78,st:=some (.box zp)::some (.arr 1 ES)::some (.box cells)::L }
theorem JI:∀ (l:PL),∀ c∈(kK l).flatten,∃ v,c=.lit v
 | [],c,h=>by simp[kK]at h
 | k::l,c,h=>by
  simp only[kK,yP,zF,zV,xW]at h
  rcases h with rfl|h
  ·exact⟨_,rfl⟩
  ·exact JI l c h
theorem BZ (a b x:Option Blk):upd (aV [a,b]) 2 x=aV [a,b,x]:=by
 funext i;rcases i with _|_|_|i<;>simp[aV,upd]
theorem APC (b3:Nat) (v4 v5 v5' v6 v7 v14 v38 v39 v40 v76 v77 v78:AV):upd (aW (EV b3 v4 v5 v6 v7 v14 v38 v39 v40 v76 v77 v78)) 5 v5'=aW (EV b3 v4 v5' v6 v7 v14 v38 v39 v40 v76 v77 v78):=by
 funext t;simp only[upd,EV,aW];by_cases h5:t=5
 ·subst h5;simp
 ·simp only[h5,if_false]
def XS (b3 n:Nat) (ES:List (List IV)) (pre post:List Value) (k t:Int) (es:List Ex) (aC aK:AV) (v14:AV) (i:Nat):AS :=
 SRp b3 n pre.length ES (jk i (.int (i-1))) .junk v14 (.int es.length) (.int i) (jk i (.bool true)) .junk .junk .junk (gB pre [.int k, .int t, .osl 3 5 0 es.length,aC,aK] post) [some (FQ es i)]
set_option maxHeartbeats 8000000
def jj:List (Nat×AV):=[(4, .junk),(5, .junk),(6, .junk),(7, .junk),(14, .junk),(38, .junk),(39, .junk),(40, .junk),(76, .junk),(77, .junk),(78, .junk)]
theorem AEU:AIO (fun _ _ _=>True):=fun _ _ _ _ _ _ _ _=>trivial
theorem AFK:IntKind.i64.wrap 1=1:=wrO
def RWp (init:PL) (b' i:Nat):List (List IV):=kK init++(List.range i).map fun j=>[ptr (b',j*5)]
theorem AB6 (init:PL) (b' i:Nat):(RWp init b' i).length=init.length+i:=by simp[RWp,kK]
theorem AE6 (init:PL) (b' i:Nat):RWp init b' i++[[ptr (b',i*5)]]=RWp init b' (i+1):=by simp[RWp,zB2]
theorem I6 (b:Nat):∀ (o:Nat) (l:List Pn),kK (kV b o l)=(List.range l.length).map fun j=>[ptr (b,o+j*5)]
 | _,[]=>by simp[kV,kK]
 | o,a::l=>by
  have ih:=I6 b (o+5) l;simp only[kK]at ih ⊢;simp only[kV,yP,ih,zS,zA9,List.map_map];simp only[List.cons.injEq,Nat.zero_mul,yE,true_and];apply zA2;intro j _;simp only[Function.comp,Nat.succ_eq_add_one];rw[show o+5+j*5=o+(j+1)*5 by omega]
theorem NB (b:Nat):∀ (o:Nat) (l:List Pn),(kV b o l).length=l.length
 | _,[]=>rfl
 | o,a::l=>by simp[kV,NB b (o+5) l]
theorem N9 (b:Nat):∀ (o:Nat) (l:List Pn),((kV b o l).map fun k=>k.2.size).sum=Pn.aX l
 | _,[]=>by simp[kV,Pn.aX]
 | o,a::l=>by simp[kV,Pn.aX,N9 b (o+5) l]
theorem NA {b:Nat}:∀ {o:Nat} {l:List Pn},∀ q∈kV b o l,q.2∈l∧q.1.1=b
 | _,[],q,h=>by simp[kV]at h
 | o,a::l,q,h=>by
  simp only[kV,zQ]at h
  rcases h with rfl|h
  ·simp
  ·have:=NA q h;exact⟨by simp[this.1],this.2⟩
def iE (es:List Ex):Nat:=if es.length=0 then 100 else 3
def lE0 (es:List Ex):StL:=if es.length=0 then []else [some (.arr 5 (Ex.aA es))]
def lE (es:List Ex):StL:=if es.length=0 then []else [some (.tre 5 (Ex.aA es))]
def iC (es:List Ex) (cs:List Int):Nat:=if cs.length=0 then 101 else 3+(lE es).length
def lC (es:List Ex) (cs:List Int):StL:=if cs.length=0 then lE es else lE es++[some (.arr 1 (aI cs))]
def iK (es:List Ex) (cs:List Int) (ks:List Pn):Nat:=if ks.length=0 then 102 else 3+(lC es cs).length
def lK (es:List Ex) (cs:List Int) (ks:List Pn):StL:=if ks.length=0 then lC es cs else lC es cs++[some (.arr 5 (Pn.aA ks))]
def YP (b3 n o:Nat) (ES:List (List IV)) (init:PL) (b' nk:Nat) (cells:List AV) (i:Nat):AS :=
 { env:=EV b3 (if i=0 then .osl 1 1 0 n else .osl 3 1 0 (n+i)) (.own 2 o) .junk (jk i (.int (i-1))) (.bool true) .junk .junk .junk (.int nk) (.int i) (jk i (.bool true)),
   st:=some (.box zp)::(if i=0 then some (.arr 1 ES)else none)::some (.box cells)::(if i=0 then []else [some (.arr 1 (RWp init b' i))]) }
theorem YG (a b c:Option Blk):∀ (l:StL) {x:Option Blk},aV (a::b::c::(l++[x])) (3+l.length)=x:=by
 intro l x;rw[kT]
 have:(a::b::c::(l++[x]))[3+l.length]?=some x:=by
  rw[show 3+l.length=l.length+1+1+1 by omega];simp
 rw[this];rfl
theorem qB {p:Pn} (hsz:p.size<1000000000) (hth:p.thin) (hty:p.tiny) {wi:World} {mi:Mem} {vs:List Value} (hi:Inv wi mi (fun _=>none) (aV [])) (hr:RepL mi (fun _=>none) [.i (.iref p.cells)] vs) :
 Calls Tryd.prog 24 vs.toArray wi (vS wi mi p):=by
 refine calls_of_wp (fn:=Tryd.f24) Tryd.func24 rfl ?_;have hv1:vs.length=1:=by simpa using hr.length.symm
 have g0:GR wi mi 91 (fun id=>id<({ env:=[(0, .i (.iref p.cells))],st:=[] }:AS).st.length) (fun _ _ _=>True) (aW [(0, .i (.iref p.cells))]) (aV []) { tmps:=vs.toArray++Array.replicate (91-vs.toArray.size) undef,defers:=[] } wi:=by
  refine⟨⟨mi,fun _=>none,hi,?_, .refl _ _ _,fun id h=>absurd rfl h,trivial⟩,by simp;omega,rfl⟩;intro t;have:=pX (m:=mi) (φ:=fun _=>none) (91-vs.toArray.size) hr t
  cases t with
  | zero=>simpa [aW,AR]using this
  | succ t=>simp only[aW];simp;exact .junk _
 refine wp_seq (wp_mono (GR.iA mQ (G:=GS 24) (S:={ env:=[(0, .i (.iref p.cells))],st:=[] }) (e:=.normal) (S':={ env:=[(0, .i (.iref p.cells)),(2, .own 0 0),(3, .junk)]++jj,st:=[some (.box zp)] }) AEU (by kernel_rfl) (by simp[zp,jj]) g0) ?_);rintro _ a1 w1 ⟨rfl,g1⟩;refine wp_seq (wp_mono (GR.iA mQ (G:=GS 24) (S:={ env:=[(0, .i (.iref p.cells)),(2, .own 0 0),(3, .junk)]++jj,st:=[some (.box zp)] }) (e:=.normal) (S':={ env:=[(0, .i (.iref p.cells)),(2, .own 0 0),(3, .own 1 0)]++jj,st:=[some (.box zp),some (.box (kQ p.cells))] }) AEU (by kernel_rfl) (by rw[Pn.aB];simp[zp,jj]) g1) ?_);rintro _ a2 w2 ⟨rfl,g2⟩
 obtain⟨b3,g3⟩:=g2.ARW (u:=3) (id:=1) (p:=p) (st':=aV [some (.box zp)]) rfl rfl (by
  intro i blk h
  cases i with
  | zero=>simp[aV]at h;subst h;exact⟨by omega,rfl,by simp[fQ,zp]⟩
  | succ i=>simp[aV]at h)
 have g3:=g3 (aW [(2, .own 0 0),(3, .i (ptr (b3,0)))]) (by
  intro t;simp only[aW];by_cases h2:t=2
  ·subst h2;exact .inr (.inr ⟨rfl,by simp[aW,iX,aV,jj]⟩)
  ·by_cases h3:t=3
   ·subst h3;exact .inr (.inl ⟨rfl,rfl⟩)
   ·simp[h2,h3])
 have g3:=g3.ok' (ok':=fun id=>id<({ env:=[(2, .own 0 0),(3, .i (ptr (b3,0)))],st:=[some (.box zp)] }:AS).st.length) (by
  intro i h
  cases i with
  | zero=>simp
  | succ i=>simp[aV]at h)
 refine wp_seq (wp_mono (GR.iA mQ (G:=GS 24) (S:={ env:=[(2, .own 0 0),(3, .i (ptr (b3,0)))],st:=[some (.box zp)] }) (e:=.normal) (S':=SLp b3 [((b3,0),p)] []) (RAW.ABD _ _ _ _ _) (by kernel_rfl) (by simp[SLp,EV,kK,ptr,zp]) g3) ?_);rintro _ a3 w3 ⟨rfl,g4⟩;clear g0 g1 g2 g3;refine wp_seq (wp_block ?_);refine BJ (fun n a w=>∃ (todo X H:PL) (F:List Nat),H.Perm todo∧(todo.map fun k=>k.2.size).sum=n∧n<1000000000∧(∀ q∈todo,q.2.thin∧q.2.tiny)∧GR wi mi 91 (fun id=>id<(SLp b3 todo X).st.length) (RAW wi b3 p F H) (aW (SLp b3 todo X).env) (aV (SLp b3 todo X).st) a w) ?_ (n:=p.size) ⟨[((b3,0),p)],[],[((b3,0),p)],[], .refl _,by simp,hsz,by simpa using ⟨hth,hty⟩,g4⟩;clear g4;rintro n a w ⟨todo,X,H,F,hperm,hsum,hn,hall,g⟩
 rcases List.eq_nil_or_concat todo with rfl|⟨init,k,rfl⟩
 ·obtain rfl:=List.perm_nil.1 hperm;refine wp_mono (GR.iA mQ (G:=GS 24) (S:=SLp b3 [] X) (e:=.exit 0) (S':={ env:=EV b3 (.osl 1 1 0 0) .junk .junk .junk (.bool false) .junk .junk .junk .junk .junk .junk,st:=[some (.box zp),some (.arr 1 (kK X))] }) (RAW.ABD _ _ _ _ _) (by kernel_rfl) (by simp[SLp,EV,zp]) g) ?_;rintro _ a5 w5 ⟨rfl,g5⟩;simp only[jH,Exit.then,Exit.inBlock,if_true];obtain⟨v0,v1,v2,v3,v4,post,hone,g6⟩:=g5.AMO (u:=3) (k:=2) rfl rfl (by simp)
  have g6:=(g6 (aW [(2, .own 0 0),(3, .own 2 0)]) (by
   intro t;simp only[aW];by_cases h2:t=2
   ·subst h2;exact .inr (.inr (by simp[aW,EV]))
   ·by_cases h3:t=3
    ·subst h3;exact .inr (.inl ⟨rfl,rfl⟩)
    ·simp[h2,h3])).ok' (ok':=fun id=>id<({ env:=[(2, .own 0 0),(3, .own 2 0)],st:=[some (.box zp),some (.arr 1 (kK X)),some (.box (dO [v0,v1,v2,v3,v4]++dO post))] }:AS).st.length) (by
   intro i h
   simp at h ⊢;omega)
  rw[BZ]at g6
  refine wp_mono (GR.iA mQ (G:=GS 24) (S:={ env:=[(2, .own 0 0),(3, .own 2 0)],st:=[some (.box zp),some (.arr 1 (kK X)),some (.box (dO [v0,v1,v2,v3,v4]++dO post))] }) (e:=.ret) (S':={ env:=[(0, .junk),(2, .own 0 0),(3, .own 2 0)]++jj,st:=[some (.box (dO [v0,v1,v2,v3,v4])),some (.arr 1 (kK X)),some (.box (dO [v0,v1,v2,v3,v4]++dO post))] }) (CPY.ABD _ _ _ _ _ _ _ _) (by kernel_rfl) (by
   have hz:dO [v0,v1,v2,v3,v4]=[.i (.lit v0), .i (.lit v1), .i (.lit v2), .i (.lit v3), .i (.lit v4)]:=rfl;rw[hz]
   simp[zp,jj,sG,uT]) g6) ?_
  rintro _ a6 w6 ⟨rfl,g7⟩;obtain⟨⟨m,φ,q1,q2,q3,q4,q5⟩,q6,q7⟩:=g7
  obtain⟨v,k1,k2⟩:=kH (C:=C2) (fn:=Tryd.f24) (keep:=false) (na:=0) (S:={ env:=[(0, .junk),(2, .own 0 0),(3, .own 2 0)]++jj,st:=[some (.box (dO [v0,v1,v2,v3,v4])),some (.arr 1 (kK X)),some (.box (dO [v0,v1,v2,v3,v4]++dO post))] }) (r:=.i (.agg [.lit v0, .lit v1, .lit v2, .lit v3, .lit v4])) (stl':=[]) (fun id h=>absurd rfl h) ⟨⟨⟨m,φ,q1,q2,q3,q4, .nil _ _ _⟩,q6,q7⟩,zA6 _⟩ (by
   show finish C2 false [ResultVar.cell 2 32] 0 _=_;have hz:dO [v0,v1,v2,v3,v4]=[.i (.lit v0), .i (.lit v1), .i (.lit v2), .i (.lit v3), .i (.lit v4)]:=rfl;rw[hz]
   simp)
  have hv:v=.agg #[v0,v1,v2,v3,v4]:=by
   obtain⟨_,_,_,e,r,_⟩:=k2;injection e with e;subst e
   cases r with
   | i r=>cases r with
    | agg r =>
     cases r with|cons a0 _ r=>cases r with|cons a1 _ r=>cases r with|cons a2 _ r=>cases r with|cons a3 _ r=>cases r with|cons a4 _ r =>
     cases r
     rw[lI a0,lI a1,lI a2,lI a3,lI a4]
  subst hv;refine⟨q7,_,k1,v0,v1,v2,v3,v4,F,m,rfl,hone,q1.mem,⟨q3.size,q3.os,q3.tape,q3.output,q3.block,q3.mle,q3.mnew, .refl _,fun _ _ _ _ e=>by cases e⟩,q5.th,q5.cells,q5.nd,fun f hf=>?_,q5.kc⟩;obtain⟨z1,z2,z3,z4,z5⟩:=q5.all f hf;exact⟨z1,z2,(by intro _ _ _ e;cases e),z4,z5⟩
 ·obtain⟨⟨b,o⟩,x⟩:=k;rw[List.concat_eq_append]at hperm hsum hall g
  have hlen:∀ l:PL,l.length≤(l.map fun k=>k.2.size).sum:=by
   intro l
   induction l with
   | nil=>simp
   | cons a l ih=>have:=Pn.nS a.2;simp;omega
  have hil:=hlen init;simp at hsum;have hq:((b,o),x)∈H:=hperm.mem_iff.2 (by simp);have hxs:=Pn.size_eq x;have hkl:=Pn.eF x.kids;have hpos:(0:Int)<(init.length:Int)+1:=by omega
  have w1:IntKind.i64.wrap (init.length:Int)=init.length:=wrO;generalize hES:kK (init++[((b,o),x)]++X)=ES at *
  have hnth:gW ES init.length=some [ptr (b,o)]:=by
   rw[gM,← hES];simp[kK]
  have hlit:∀ c∈ES.flatten,∃ v,c=.lit v:=by rw[← hES];exact JI _
  have htake:ES.take init.length=kK init:=by rw[← hES];simp[kK]
  have hESl:init.length≤ES.length:=by rw[← hES];simp[kK]
  have hlt:(init.length:Int)<(init.length:Int)+1:=by omega
  have hlt2:(init.length:Int)≤(init.length:Int)+1:=by omega
  obtain⟨hxt,hxy⟩:=hall ((b,o),x) (by simp);simp only at hxt hxy;refine wp_seq (wp_mono (GR.iA mQ (G:=GS 24) (S:=SLp b3 (init++[((b,o),x)]) X) (e:=.normal) (S':={ env:=EV b3 (.osl 1 1 0 (init.length+1)) .junk .junk .junk (.bool true) .junk .junk .junk .junk .junk .junk,st:=[some (.box zp),some (.arr 1 ES)] }) (RAW.ABD _ _ _ _ _) (by kernel_rfl) (by simp only[SLp,hES];simp[EV,zp,hpos]) g) ?_);rintro _ a5 w5 ⟨rfl,g5⟩;clear g;refine wp_block ?_;refine wp_seq (wp_mono (GR.iA mQ (G:=GS 24) (S:={ env:=EV b3 (.osl 1 1 0 (init.length+1)) .junk .junk .junk (.bool true) .junk .junk .junk .junk .junk .junk,st:=[some (.box zp),some (.arr 1 ES)] }) (e:=.normal) (S':={ env:=EV b3 (.osl 1 1 0 (init.length+1)) (.i (ptr (b,o))) .junk .junk (.bool true) .junk .junk .junk .junk .junk .junk,st:=[some (.box zp),some (.arr 1 ES)] }) (RAW.ABD _ _ _ _ _) (by kernel_rfl) (by simp only[ptr]at hnth;simp[EV,ptr,zp,hnth,w1,hlt]) g5) ?_);rintro _ a6 w6 ⟨rfl,g6⟩;clear g5;refine wp_seq (wp_mono (GR.iA mQ (G:=GS 24) (S:={ env:=EV b3 (.osl 1 1 0 (init.length+1)) (.i (ptr (b,o))) .junk .junk (.bool true) .junk .junk .junk .junk .junk .junk,st:=[some (.box zp),some (.arr 1 ES)] }) (e:=.normal) (S':={ env:=EV b3 (.osl 1 1 0 init.length) (.i (ptr (b,o))) .junk .junk (.bool true) .junk .junk .junk .junk .junk .junk,st:=[some (.box zp),some (.arr 1 ES)] }) (RAW.ABD _ _ _ _ _) (by kernel_rfl) (by simp[EV,ptr,zp,w1,hlt2]) g6) ?_);rintro _ a7 w7 ⟨rfl,g7⟩;clear g6;obtain⟨pre,post,us,ma,e1,e2,e3,e4,e5,g8⟩:=g7.QO (u:=5) (y:=x) rfl (by simp) hq rfl;clear g7;rw[APC,BZ]at g8;subst e3;obtain⟨kd,tb,es,cs,ks⟩:=x;obtain⟨t1,t2,t3,t4,t5⟩:=(Pn.dV _).1 hxt;obtain⟨y1,y2⟩:=(Pn.J7 _).1 hxy;simp only[Pn.jF,Pn.cK,Pn.fA]at t1 t2 t3 t4 t5 y1 y2 hxs hkl;rw[Pn.bD]at g8;have hst:=ADP.ABD wi b3 p F H b us w7 ma
  refine wp_seq (wp_mono (GR.iA mQ (G:=GS 24) (S:=SRp b3 init.length pre.length ES .junk .junk (.bool true) .junk .junk .junk .junk .junk .junk (gB pre [.int kd, .int tb, .i (.isl (Ex.aA es)), .i (.isl (aI cs)), .i (.isl (Pn.aA ks))] post) []) (e:=.normal) (S':=SRp b3 init.length pre.length ES .junk .junk (.bool true) .junk .junk .junk .junk .junk .junk (gB pre [.int kd, .int tb,slA es.length (iE es) 5, .i (.isl (aI cs)), .i (.isl (Pn.aA ks))] post) (lE0 es)) hst (by kernel_rfl) (by
   by_cases he:es=[]
   ·subst he;simp[SRp,EV,zp,AFZ,OX,bA,bO,Ex.aA,AMF,slA,lE0]
   ·have hel:es.length≠0:=fun h=>he (zZ.1 h)
    simp[SRp,EV,zp,AFZ,OX,bA,bO,AID he t1,slA,lE0,iE,he]) (g8.ok' fun id h=>by simp at h ⊢;simp[SRp];omega)) ?_)
  rintro _ a9 w9 ⟨rfl,g9⟩;clear g8
  refine wp_seq (wp_mono (GR.AMC mQ (G:=GS 24) (S:=SRp b3 init.length pre.length ES .junk .junk (.bool true) .junk .junk .junk .junk .junk .junk (gB pre [.int kd, .int tb,slA es.length (iE es) 5, .i (.isl (aI cs)), .i (.isl (Pn.aA ks))] post) (lE0 es)) hst
   (PP:=fun e S'=>e=.normal∧∃ v6 v38 v39 v40,S'=SRp b3 init.length pre.length ES v6 .junk (.bool true) v38 v39 v40 .junk .junk .junk (gB pre [.int kd, .int tb,slA es.length (iE es) 5, .i (.isl (aI cs)), .i (.isl (Pn.aA ks))] post) (lE es)) (by kernel_rfl) (by
   by_cases he:es=[]
   ·subst he;refine⟨.normal,SRp b3 init.length pre.length ES .junk .junk (.bool true) (.int 0) (.int 0) (.bool false) .junk .junk .junk (gB pre [.int kd, .int tb,slA 0 (iE []) 5, .i (.isl (aI cs)), .i (.isl (Pn.aA ks))] post) (lE []),?_,rfl,_,_,_,_,rfl⟩;simp[SRp,EV,zp,AFZ,OX,bA,bO,slA,lE,lE0];rw[aD];simp[bA,bO]
   ·have hel:es.length≠0:=fun h=>he (zZ.1 h)
    refine⟨.normal,SRp b3 init.length pre.length ES (.int (es.length-1)) .junk (.bool true) (.int es.length) (.int es.length) (.bool false) .junk .junk .junk (gB pre [.int kd, .int tb,slA es.length (iE es) 5, .i (.isl (aI cs)), .i (.isl (Pn.aA ks))] post) (lE es),?_,rfl,_,_,_,_,rfl⟩;simp[SRp,EV,zp,AFZ,OX,bA,bO,slA,lE,lE0,iE,he];rw[aU (XS b3 init.length ES pre post kd tb es (.i (.isl (aI cs))) (.i (.isl (Pn.aA ks))) (.bool true)) es.length (by simp[XS,SRp,EV,zp,FQ])]
    ·rw[aD];have hend:=ACT he;simp[hend,XS,SRp,EV,zp,AFZ,OX,bA,bO,fG hel]
    ·intro i hi;have h3:=zX hi;have hs:=y1 _ (zT h3);generalize es[i]=a at h3 hs;have hk:=AME h3 hs;have hput:=ACS h3;have w2:IntKind.i64.wrap ((i:Int)+1)=i+1:=wrO;by_cases hkk:a.kids=[]
     ·simp only[hkk,if_true,Ex.aB,Ex.aA]at hk hput;simp[XS,SRp,EV,zp,AFZ,OX,bA,bO,hi,hk,w2,hput]
     ·simp only[hkk,if_false,tE]at hk;simp only[Ex.aB,Ex.vN]at hput
      simp[XS,SRp,EV,zp,AFZ,OX,bA,bO,hi,hk,w2,hput]) g9) ?_)
  rintro _ a10 w10 ⟨e,S',rfl,⟨rfl,v6,v38,v39,v40,rfl⟩,g10⟩;clear g9
  have g10:=(g10.envTo (env':=aW (SRp b3 init.length pre.length ES .junk .junk (.bool true) .junk .junk .junk .junk .junk .junk (gB pre [.int kd, .int tb,slA es.length (iE es) 5, .i (.isl (aI cs)), .i (.isl (Pn.aA ks))] post) (lE es)).env) (by
   intro t;simp only[SRp,EV,aW];by_cases h6:t=6
   ·subst h6;simp
   by_cases h38:t=38
   ·subst h38;simp
   by_cases h39:t=39
   ·subst h39;simp
   by_cases h40:t=40
   ·subst h40;simp
   ·simp[h6,h38,h39,h40]))
  refine wp_seq (wp_mono (GR.iA mQ (G:=GS 24) (S:=SRp b3 init.length pre.length ES .junk .junk (.bool true) .junk .junk .junk .junk .junk .junk (gB pre [.int kd, .int tb,slA es.length (iE es) 5, .i (.isl (aI cs)), .i (.isl (Pn.aA ks))] post) (lE es)) (e:=.normal) (S':=SRp b3 init.length pre.length ES .junk .junk (.bool true) .junk .junk .junk .junk .junk .junk (gB pre [.int kd, .int tb,slA es.length (iE es) 5,slA cs.length (iC es cs) 1, .i (.isl (Pn.aA ks))] post) (lC es cs)) hst (by kernel_rfl) (by
   by_cases he:es=[]<;>by_cases hc:cs=[]
   ·subst he;subst hc;simp[SRp,EV,zp,AN3,AC6,bA,bO,aI,AFI,slA,lE,lC]
   ·have hcl:cs.length≠0:=fun h=>hc (zZ.1 h)
    subst he;simp[SRp,EV,zp,AN3,AC6,bA,bO,AAN hc t3,slA,lE,lC,iC,hc]
   ·have hel:es.length≠0:=fun h=>he (zZ.1 h)
    subst hc;simp[SRp,EV,zp,AN3,AC6,bA,bO,aI,AFI,slA,lE,lC,iE,he]
   ·have hel:es.length≠0:=fun h=>he (zZ.1 h)
    have hcl:cs.length≠0:=fun h=>hc (zZ.1 h)
    simp[SRp,EV,zp,AN3,AC6,bA,bO,AAN hc t3,slA,lE,lC,iE,iC,he,hc]) g10) ?_)
  rintro _ a11 w11 ⟨rfl,g11⟩;clear g10
  refine wp_seq (wp_mono (GR.iA mQ (G:=GS 24) (S:=SRp b3 init.length pre.length ES .junk .junk (.bool true) .junk .junk .junk .junk .junk .junk (gB pre [.int kd, .int tb,slA es.length (iE es) 5,slA cs.length (iC es cs) 1, .i (.isl (Pn.aA ks))] post) (lC es cs)) (e:=.normal) (S':=SRp b3 init.length pre.length ES .junk .junk (.bool true) .junk .junk .junk .junk .junk .junk (gB pre [.int kd, .int tb,slA es.length (iE es) 5,slA cs.length (iC es cs) 1,slA ks.length (iK es cs ks) 5] post) (lK es cs ks)) hst (by kernel_rfl) (by
   by_cases he:es=[]<;>by_cases hc:cs=[]<;>by_cases hk:ks=[]
   all_goals (try subst he)
   all_goals (try subst hc)
   all_goals (try subst hk)
   ·simp[SRp,EV,zp,TR,LP,bA,bO,Pn.aA,TC,slA,lE,lC,lK]
   ·simp[SRp,EV,zp,TR,LP,bA,bO,K9 hk t4,slA,lE,lC,lK,iK,hk]
   ·simp[SRp,EV,zp,TR,LP,bA,bO,Pn.aA,TC,slA,lE,lC,lK,iC,hc]
   ·simp[SRp,EV,zp,TR,LP,bA,bO,K9 hk t4,slA,lE,lC,lK,iC,iK,hc,hk]
   ·simp[SRp,EV,zp,TR,LP,bA,bO,Pn.aA,TC,slA,lE,lC,lK,iE,he]
   ·simp[SRp,EV,zp,TR,LP,bA,bO,K9 hk t4,slA,lE,lC,lK,iE,iK,he,hk]
   ·simp[SRp,EV,zp,TR,LP,bA,bO,Pn.aA,TC,slA,lE,lC,lK,iE,iC,he,hc]
   ·simp[SRp,EV,zp,TR,LP,bA,bO,K9 hk t4,slA,lE,lC,lK,iE,iC,iK,he,hc,hk]) g11) ?_)
  rintro _ a12 w12 ⟨rfl,g12⟩;clear g11
  obtain⟨F',H',us',b',cap,vE,vC,m2,hpm,hus,hone,hbn,g13⟩:=g12.AOF (u:=5) (st':=aV [some (.box zp),some (.arr 1 ES)]) (env':=aW (EV b3 (.osl 1 1 0 init.length) (.own 2 pre.length) .junk .junk (.bool true) .junk .junk .junk .junk .junk .junk)) (idE:=iE es) (idC:=iC es cs) (idK:=iK es cs ks) (oq:=pre.length) e1 e2 rfl e4 hq rfl
   (fun h=>by simp[SRp,iE,lE,lC,lK,h];split<;>split<;>simp[aV])
   (fun h=>by simp only[SRp,iC,lC,lK,h,if_false];cases hh:lE es with
    | nil=>split<;>simp[aV]
    | cons a l =>
     have:l=[]:=by unfold lE at hh;split at hh<;>simp_all
     subst this;split<;>simp[aV])
   (fun h=>by simp only[SRp,iK,lK,h,if_false];exact YG _ _ _ _)
   (by unfold iE iC iK lC lE;repeat' split<;>simp_all)
   (by
    intro i blk h
    rcases i with _|_|i
    ·simp[aV]at h;subst h;exact⟨by omega,rfl,by simp[fQ,zp]⟩
    ·simp[aV]at h;subst h;exact⟨by omega,rfl,hlit⟩
    ·simp[aV]at h)
   (by
    intro t;simp only[SRp,EV,aW];by_cases h0:t=0
    ·subst h0;simp
    by_cases h2:t=2
    ·subst h2;exact .inr ⟨by simp, .inr (by simp[iX,aV])⟩
    by_cases h3:t=3
    ·subst h3;exact .inr ⟨by simp, .inr (by simp[iX,ptr])⟩
    by_cases h4:t=4
    ·subst h4;exact .inr ⟨by simp, .inr (by simp[iX,aV])⟩
    by_cases h5:t=5
    ·subst h5;exact .inr ⟨by simp, .inl (by simp)⟩
    by_cases h14:t=14
    ·subst h14;exact .inr ⟨by simp, .inr (by simp[iX])⟩
    simp[h0,h2,h3,h4,h5,h14])
  clear g12;rw[BZ]at g13;have hbx:dO us'=gB pre [.i (.lit (.int .i64 kd)), .i (.lit (.int .i64 tb)), .i (.lit vE), .i (.lit vC), .i (.lit (if ks.length=0 then .slice none 0 0 else .slice (some ⟨b',0,none⟩) ks.length cap))] post:=by rw[hus];simp[gB,dO]
  rw[hbx]at g13;have hst':=ADP.ABD wi b3 p F' H' b us' w12 m2
  refine wp_mono (GR.AMC mQ (G:=GS 24) (S:=SRp b3 init.length pre.length ES .junk .junk (.bool true) .junk .junk .junk .junk .junk .junk (gB pre [.i (.lit (.int .i64 kd)), .i (.lit (.int .i64 tb)), .i (.lit vE), .i (.lit vC), .i (.lit (if ks.length=0 then .slice none 0 0 else .slice (some ⟨b',0,none⟩) ks.length cap))] post) []) hst'
   (PP:=fun e S'=>e=.normal∧∃ v7 v76 v77 v78,S'={ env:=EV b3 (if ks.length=0 then .osl 1 1 0 init.length else .osl 3 1 0 (init.length+ks.length)) (.own 2 pre.length) .junk v7 (.bool true) .junk .junk .junk v76 v77 v78,st:=some (.box zp)::(if ks.length=0 then some (.arr 1 ES)else none)::some (.box (gB pre [.i (.lit (.int .i64 kd)), .i (.lit (.int .i64 tb)), .i (.lit vE), .i (.lit vC), .i (.lit (if ks.length=0 then .slice none 0 0 else .slice (some ⟨b',0,none⟩) ks.length cap))] post))::(if ks.length=0 then []else [some (.arr 1 (RWp init b' ks.length))]) }) (by kernel_rfl) (by
   by_cases h0:ks.length=0
   ·refine⟨.normal,{ env:=EV b3 (.osl 1 1 0 init.length) (.own 2 pre.length) .junk .junk (.bool true) .junk .junk .junk (.int 0) (.int 0) (.bool false),st:=some (.box zp)::some (.arr 1 ES)::some (.box (gB pre [.i (.lit (.int .i64 kd)), .i (.lit (.int .i64 tb)), .i (.lit vE), .i (.lit vC), .i (.lit (if ks.length=0 then .slice none 0 0 else .slice (some ⟨b',0,none⟩) ks.length cap))] post))::[] },?_,rfl, .junk, .int 0, .int 0, .bool false,by simp[h0]⟩;simp[SRp,EV,zp,TR,bA,bO,h0];rw[aD];simp[bA,bO]
   ·refine⟨.normal,{ env:=EV b3 (.osl 3 1 0 (init.length+ks.length)) (.own 2 pre.length) .junk (.int (ks.length-1)) (.bool true) .junk .junk .junk (.int ks.length) (.int ks.length) (.bool false),st:=some (.box zp)::none::some (.box (gB pre [.i (.lit (.int .i64 kd)), .i (.lit (.int .i64 tb)), .i (.lit vE), .i (.lit vC), .i (.lit (if ks.length=0 then .slice none 0 0 else .slice (some ⟨b',0,none⟩) ks.length cap))] post))::[some (.arr 1 (RWp init b' ks.length))] },?_,rfl, .int (ks.length-1), .int ks.length, .int ks.length, .bool false,by simp[h0]⟩;simp only[h0,if_false];simp[SRp,EV,zp,TR,bA,bO];rw[aU (YP b3 init.length pre.length ES init b' ks.length (gB pre [.i (.lit (.int .i64 kd)), .i (.lit (.int .i64 tb)), .i (.lit vE), .i (.lit vC), .i (.lit (if ks.length=0 then .slice none 0 0 else .slice (some ⟨b',0,none⟩) ks.length cap))] post)) ks.length (by simp[YP,EV,zp,h0])]
    ·rw[aD];simp[YP,EV,zp,TR,bA,bO,h0,fG h0]
    ·intro i hi;have w2:IntKind.i64.wrap ((i:Int)+1)=i+1:=wrO;by_cases hi0:i=0
     ·subst hi0;have hR:kK init++[[.lit (.pointer (some ⟨b',0,none⟩))]]=RWp init b' 1:=by simp[RWp,ptr]
      have hl:(init.length+1)*8≤140737488355328:=by omega
      simp[YP,EV,zp,TR,bA,bO,h0,AFK,hi,htake,hR,hl,hESl]
     ·have hl:(init.length+i+1)*8≤140737488355328:=by omega
      have hT:(RWp init b' i).take (init.length+i)=RWp init b' i:=zY (by rw[AB6];omega);have hR:RWp init b' i++[[.lit (.pointer (some ⟨b',i*5,none⟩))]]=RWp init b' (i+1):=by simpa [ptr]using AE6 init b' i
      simp[YP,EV,zp,TR,bA,bO,h0,hi0,fG hi0,w2,hi,hT,AB6,hl,hR,← Nat.add_assoc]) (g13.ok' fun id h=>by simp[SRp];omega)) ?_
  rintro _ a13 w13 ⟨e,S',rfl,⟨rfl,v7,v76,v77,v78,rfl⟩,g14⟩;clear g13;simp only[jH,Exit.then,Exit.inBlock]
  have hpm2:H'.Perm (init++kV b' 0 ks):=by
   have h1:(((b,pre.length),Pn.mk kd tb es cs ks)::H').Perm (((b,pre.length),Pn.mk kd tb es cs ks)::(init++kV b' 0 ks)):=by
    refine hpm.trans ((hperm.append_right _).trans ?_);rw[yS];exact List.perm_middle
   exact(List.perm_cons _).1 h1
  have hszx:(Pn.mk kd tb es cs ks).size=1+Pn.aX ks:=hxs
  have hall2:∀ q∈init++kV b' 0 ks,q.2.thin∧q.2.tiny:=by
   intro q hq'
   rcases zV.1 hq' with h|h
   ·exact hall q (by simp[h])
   ·have:=(NA q h).1;exact⟨t5 _ this,y2 _ this⟩
  have hsum2:((init++kV b' 0 ks).map fun k=>k.2.size).sum=n-1:=by
   rw[yF,List.sum_append,N9];omega
  by_cases hk0:ks.length=0
  ·have hks:ks=[]:=zZ.1 hk0;subst hks;simp only[zI,if_true]at g14 hbx
   have g15:=g14.SE (st':=aV [some (.box zp),some (.arr 1 ES)]) (env':=aW (EV b3 (.osl 1 1 0 init.length) .junk .junk .junk .junk .junk .junk .junk .junk .junk .junk)) (by rw[hbx];rfl) (by
    intro i blk h
    rcases i with _|_|i
    ·simp[aV]at h;subst h;exact⟨by omega,rfl,by simp[fQ,zp]⟩
    ·simp[aV]at h;subst h;exact⟨by omega,rfl,hlit⟩
    ·simp[aV]at h) (by
    intro t;simp only[EV,aW];by_cases h0:t=0
    ·subst h0;simp
    by_cases h2:t=2
    ·subst h2;exact .inr ⟨by simp,by simp[iX,aV]⟩
    by_cases h3:t=3
    ·subst h3;exact .inr ⟨by simp,by simp[iX,ptr]⟩
    by_cases h4:t=4
    ·subst h4;exact .inr ⟨by simp,by simp[iX,aV]⟩
    simp[h0,h2,h3,h4])
   simp only[kV,yY]at hpm2 hall2 hsum2;refine⟨n-1,by omega,init,[((b,pre.length),Pn.mk kd tb es cs [])]++X,H',F',hpm2,hsum2,by omega,hall2,?_⟩;have hES2:kK (init++([((b,pre.length),Pn.mk kd tb es cs [])]++X))=ES:=by rw[← hES,yS]
   simp only[SLp,hES2]
   exact g15.ok' (by
    intro i h
    rcases i with _|_|i
    ·simp
    ·simp
    ·simp[aV]at h)
  ·simp only[hk0,if_false]at g14 hbx
   have g15:=g14.SE (st':=aV [some (.box zp),none,none,some (.arr 1 (RWp init b' ks.length))]) (env':=aW [(2, .own 0 0),(3, .i (ptr (b3,0))),(4, .osl 3 1 0 (init.length+ks.length))]) (by rw[hbx];rfl) (by
    intro i blk h
    rcases i with _|_|_|_|i
    ·simp[aV]at h;subst h;exact⟨by omega,rfl,by simp[fQ,zp]⟩
    ·simp[aV]at h
    ·simp[aV]at h
    ·simp[aV]at h;subst h;exact⟨by omega,rfl,by
      intro c hc;rw[List.mem_flatten]at hc;obtain⟨r,hr1,hr2⟩:=hc;unfold RWp at hr1
      rcases zV.1 hr1 with h|h
      ·exact JI init c (List.mem_flatten.2 ⟨r,h,hr2⟩)
      ·obtain⟨j,_,rfl⟩:=y7.1 h
       simp at hr2;subst hr2;exact⟨_,rfl⟩⟩
    ·simp[aV]at h) (by
    intro t;simp only[EV,aW];by_cases h2:t=2
    ·subst h2;exact .inr ⟨by simp,by simp[iX,aV]⟩
    by_cases h3:t=3
    ·subst h3;exact .inr ⟨by simp,by simp[iX,ptr]⟩
    by_cases h4:t=4
    ·subst h4;exact .inr ⟨by simp,by simp[iX,aV]⟩
    simp[h2,h3,h4])
   have g16:=g15.settle (fun w m φ ids h=>RAW.keep ids h) [2,3,4]
   have hs:Av.settle [2,3,4] 0 (aW [(2, .own 0 0),(3, .i (ptr (b3,0))),(4, .osl 3 1 0 (init.length+ks.length))]) (aV [some (.box zp),none,none,some (.arr 1 (RWp init b' ks.length))])={ env:=[(2, .own 0 0),(3, .i (ptr (b3,0))),(4, .osl 1 1 0 (init.length+ks.length))],st:=[some (.box zp),some (.arr 1 (RWp init b' ks.length))] }:=by
    simp[zp,ptr]
   rw[hs]at g16;refine⟨n-1,by omega,init++kV b' 0 ks,[],H',F',hpm2,hsum2,by omega,hall2,?_⟩
   have hR:kK (init++kV b' 0 ks++[])=RWp init b' ks.length:=by
    rw[yY];have:=I6 b' 0 ks;simp only[kK]at this;simp only[kK,RWp,yF,this,zM]
   have hl:(init++kV b' 0 ks).length=init.length+ks.length:=by rw[zR,NB]
   simp only[SLp,hR,hl]
   exact g16.envTo (by
    intro t;simp only[EV,aW];by_cases h0:t=0
    ·subst h0;simp
    by_cases h2:t=2
    ·subst h2;simp
    by_cases h3:t=3
    ·subst h3;simp
    by_cases h4:t=4
    ·subst h4;simp
    ·simp[h0,h2,h3,h4])
theorem K7 {p:Pn} (hsz:p.size<1000000000) (hth:p.thin) (hty:p.tiny) {wi:World} {mi:Mem} {φ:Pl} {vs:List Value} (hi:Inv wi mi φ (aV [])) (hr:RepL mi φ [.i (.iref p.cells)] vs) (h0:∀ id,φ id≠none→id<0) :
 Calls Tryd.prog 24 vs.toArray wi (bR wi mi φ (.i (.agg p.cells)) []):=by
 obtain rfl:φ=fun _=>none:=by
  funext id
  cases h:φ id with
  | none=>rfl
  | some p=>exact absurd (h0 id (by rw[h];simp)) (xH _)
 exact(qB hsz hth hty hi hr).mono fun _ _ h=>h.tree
end Go.Proofs.YtmcjmafajkeecaaDoor.G
namespace Go.Proofs.YtmcjmafajkeecaaDoor
open Go Go.Av
theorem M9 {g:FuncId} {q:List AV→StL→Option (AV×StL)} (h:C0.prim g=some q):(g=31∧q=WC)∨(g=24∧q=ADI):=by
 have h:AGO g=some q:=h;unfold AGO at h;split at h
 ·injection h with h;exact .inl ⟨rfl,h.symm⟩
 ·injection h with h;exact .inr ⟨rfl,h.symm⟩
 ·cases h
theorem AOI:PrimOk C0:=by
 constructor
 ·intro g args st p h;unfold bN at h
  cases hq:C0.prim g with
  | none=>rw[hq]at h;cases h
  | some q =>
   rcases M9 hq with ⟨rfl,rfl⟩|⟨rfl,rfl⟩
   ·exact⟨Tryd.f31,Tryd.func31,by decide,rfl⟩
   ·exact⟨Tryd.f24,Tryd.func24,by decide,rfl⟩
 ·intro g args stl r stl' h w m φ vs hi hr h0;unfold bN at h
  cases hq:C0.prim g with
  | none=>rw[hq]at h;cases h
  | some q =>
   rcases M9 hq with ⟨rfl,rfl⟩|⟨rfl,rfl⟩
   ·rw[hq]at h;obtain⟨e,he,hres,hor⟩:=WB h;injection hres with h1 h2;subst h1;subst h2
    rcases hor with ⟨rfl,rfl⟩|⟨j,es,rfl,rfl,hes⟩
    ·exact wW he hi hr h0
    ·exact WF he hes hi hr h0
   ·rw[hq]at h;obtain⟨p,⟨k1,k2,k3⟩,rfl,rfl,hres⟩:=WA h;injection hres with h1 h2;subst h1;subst h2;exact G.K7 k1 k2 k3 hi hr h0
theorem pE:SoundOk C0:=iJ (C:=C0) ft nt eqS mo AOI
end Go.Proofs.YtmcjmafajkeecaaDoor
namespace Go.Av
def rqA (q:Pn) (j:Nat):AV :=
 .agg [.int q.kind, .int q.table,if q.exprs=[]then .nils else .osl j 5 0 q.exprs.length,if q.cols=[]then .nils else .osl (if q.exprs=[]then j else j+1) 1 0 q.cols.length,if q.kids=[]then .nils else .osl (if q.exprs=[]then(if q.cols=[]then j else j+1)else(if q.cols=[]then j+1 else j+2)) 5 0 q.kids.length]
def rqB (q:Pn):StL:=(if q.exprs=[]then []else [some (.tre 5 (Ex.aA q.exprs))])++((if q.cols=[]then []else [some (.arr 1 (aI q.cols))])++(if q.kids=[]then []else [some (.tre 5 (Pn.aA q.kids))]))
section
variable {w:World} {m:Mem}
theorem Z8 {φ:Pl} {st:StL} (hi:Inv w m φ (aV st)) (hb:∀ id,φ id≠none→id<st.length) {b len:Nat} {F:List Nat} {blk:Blk} (hbF:b∈F) (hlt:∀ f∈F,f<w.heap.size) (hfr:∀ f∈F,fJ φ f) (hblk:∀ φ':Pl,BlkOk w m φ' b ⟨len,fun f=>f∈F⟩ blk) :
 Inv w m (upd φ st.length (some (b,⟨len,fun f=>f∈F⟩))) (aV (st++[some blk]))∧∀ id,upd φ st.length (some (b,⟨len,fun f=>f∈F⟩)) id≠none→id<st.length+1:=by
 have hp:PLe φ (upd φ st.length (some (b,⟨len,fun f=>f∈F⟩))):=fun i r n e=>by
  refine⟨n,?_,rfl,fun _ h=>h⟩;have:i≠st.length:=fun h=>by have:=hb i (by rw[e];simp);omega
  simp[upd,this,e]
 have hst:∀ i blk1,aV (st++[some blk]) i=some blk1→(i≠st.length∧aV st i=some blk1)∨(i=st.length∧blk1=blk):=by
  intro i blk1 h;rw[kT]at h;by_cases h1:i<st.length
  ·rw[yV h1]at h;exact .inl ⟨by omega,by rw[kT];exact h⟩
  ·rw[zA (by omega)]at h
   cases h2:i-st.length with
   | zero=>rw[h2]at h;simp at h;exact .inr ⟨by omega,h.symm⟩
   | succ j=>rw[h2]at h;simp at h
 refine⟨⟨hi.mem,?_,?_,?_⟩,?_⟩
 ·intro i blk1 h
  rcases hst i blk1 h with ⟨h1,h2⟩|⟨rfl,rfl⟩
  ·obtain⟨r,n,q1,q2,q3⟩:=hi.live i blk1 h2;exact⟨r,n,by simp[upd,h1,q1],q2,q3.mono q2.1 (fun _ _=>rfl) (.refl _) hp fun _ _ _=>rfl⟩
  ·exact⟨b,⟨len,fun f=>f∈F⟩,by simp[upd],⟨hbF,hlt⟩,hblk _⟩
 ·intro i j r r' n n' b1 b2 f e1 e2 p1 p2 o1 o2
  rcases hst i b1 e1 with ⟨h1,h2⟩|⟨rfl,rfl⟩<;>rcases hst j b2 e2 with ⟨h3,h4⟩|⟨rfl,rfl⟩
  ·simp[upd,h1]at p1;simp[upd,h3]at p2;exact hi.inj i j r r' n n' b1 b2 f h2 h4 p1 p2 o1 o2
  ·simp[upd,h1]at p1;simp[upd]at p2;obtain⟨rfl,rfl⟩:=p2;exact absurd o1 (hfr f o2 i r n p1)
  ·simp[upd,h3]at p2;simp[upd]at p1;obtain⟨rfl,rfl⟩:=p1;exact absurd o2 (hfr f o1 j r' n' p2)
  ·rfl
 ·intro i r n f e ho;by_cases h:i=st.length
  ·simp[upd,h]at e;obtain⟨rfl,rfl⟩:=e;exact hlt f ho
  ·simp[upd,h]at e;exact hi.low i r n f e ho
 ·intro id h;by_cases h1:id=st.length
  ·omega
  ·simp[upd,h1]at h;have:=hb id h;omega
theorem AAY:∀ {cs:List IV} {vs:List Value} {F:List Nat},TCells w cs vs F→kN cs=true→F=[]
 | _,_,_, .nil,_=>rfl
 | _,_,_, .lit _ r,h=>AAY r (by simp only[kN,zU]at h;exact h.2)
 | _,_,_, .isl0 _ r,h=>AAY r (by simp only[kN,zU]at h;exact h.2)
 | _,_,_, .isl (es:=es) hn _ _ _ _ _ _ _,h=>by
  cases es with
  | nil=>exact absurd rfl hn
  | cons=>simp[kN,jJ]at h
theorem JM {φ:Pl} {st:StL} (hi:Inv w m φ (aV st)) (hb:∀ id,φ id≠none→id<st.length) {es:List (List IV)} {k:Nat} {v:Value} {F:List Nat} (hk0:0<k) (hk:∀ e∈es,e.length=k) (ht:TCells w [.isl es] [v] F) (hn:F.Nodup) (hm:∀ f∈F,∀ o,m f o=none) (hlt:∀ f∈F,f<w.heap.size) (hfr:∀ f∈F,fJ φ f)
 (hnil:es=[]→v=.slice none 0 0) {blk:Blk} (hmk:blk=.tre k es∨(blk=.arr k es∧fI es=true)) (c:Prop) [Decidable c] (hc:c↔es=[]) :
 ∃ φ',Inv w m φ' (aV (st++if c then []else [some blk]))∧(∀ id,φ' id≠none→id<(st++if c then []else [some blk]).length)∧PLe φ φ'∧Rep m φ' (if c then .nils else .osl st.length k 0 es.length) v∧(∀ f,fJ φ f→f ∉ F→fJ φ' f)∧∀ id b n f,φ' id=some (b,n)→n.own f→f∈F∨φ id=some (b,n):=by
 by_cases h:c
 ·have he:=hc.1 h;simp only[h,if_true,yY];exact⟨φ,hi,hb, .refl _,by rw[hnil he];exact .nils,fun f h1 _=>h1,fun id b n f h1 _=>.inr h1⟩
 ·have he:es≠[]:=fun e=>h (hc.2 e)
  simp only[h,if_false]
  cases ht with
  | isl0=>exact absurd rfl he
  | @isl b kk cap _ us G _ _ F1 t1 t2 t3 t4 t5 t6 t7 t8 =>
   cases t8
   obtain rfl:kk=k:=by
    cases es with
    | nil=>exact absurd rfl he
    | cons a l=>rw[← t4 a (by simp),hk a (by simp)]
   obtain⟨T,t2,t9⟩:=t2;simp only[yY]at hn hm hlt hfr ⊢
   have hblk:∀ φ':Pl,BlkOk w m φ' b ⟨us.length,fun f=>f∈b::G⟩ blk:=by
    intro φ';have hfit:kk*es.length≤us.length:=y8 (zC kk t6) t5
    rcases hmk with rfl|⟨rfl,hbr⟩
    ·exact .tre (T:=T) t2 rfl hk0 t4 t7.toU hfit hn (fun f hf=>x8 _ hf) (fun f hf o=>hm f hf o) t9
    ·have hGe:G=[]:=AAY t7 (fB hbr);subst hGe;exact .arr (T:=T) t2 rfl hk0 t4 (TD (fB hbr) t7.toI) hfit (hm b (by simp)) (fun f hf=>by simpa using hf) t9
   obtain⟨i1,i2⟩:=Z8 hi hb (b:=b) (len:=us.length) (F:=b::G) (by simp) hlt hfr hblk;refine⟨_,i1,by simpa using i2,fun i r n e=>⟨n,?_,rfl,fun _ h=>h⟩,?_,?_,?_⟩
   ·have:i≠st.length:=fun h=>by have:=hb i (by rw[e];simp);omega
    simp[upd,this,e]
   ·exact .osl (b:=b) (n:=⟨us.length,fun f=>f∈b::G⟩) (by simp[upd]) t6 (by simpa using t5) (fun _=>by simp) (fun h=>by cases h)
   ·intro f h1 h2 id r n e ho;by_cases hid:id=st.length
    ·simp[upd,hid]at e;obtain⟨rfl,rfl⟩:=e;exact h2 (zQ.2 ho)
    ·simp[upd,hid]at e;exact h1 id r n e ho
   ·intro id r n f e ho;by_cases hid:id=st.length
    ·simp[upd,hid]at e;obtain⟨rfl,rfl⟩:=e;exact .inl (zQ.2 ho)
    ·simp[upd,hid]at e;exact .inr e
end
theorem qR {l:List Ex}:l=[]↔Ex.aA l=[]:=by cases l<;>simp[Ex.aA]
theorem qP {l:List Pn}:l=[]↔Pn.aA l=[]:=by cases l<;>simp[Pn.aA]
theorem qQ {l:List Int}:l=[]↔aI l=[]:=by cases l<;>simp[aI]
theorem AMY:∀ (l:List Ex),∀ r∈Ex.aA l,r.length=5
 | [],r,h=>by simp[Ex.aA]at h
 | a::l,r,h=>by
  simp only[Ex.aA,zQ]at h
  rcases h with rfl|h
  ·rw[Ex.aB];rfl
  ·exact AMY l r h
theorem AMW:∀ (l:List Pn),∀ r∈Pn.aA l,r.length=5
 | [],r,h=>by simp[Pn.aA]at h
 | a::l,r,h=>by
  simp only[Pn.aA,zQ]at h
  rcases h with rfl|h
  ·exact Pn.cO _
  ·exact AMW l r h
theorem AMX:∀ (l:List Int),∀ r∈aI l,r.length=1
 | [],r,h=>by simp[aI]at h
 | a::l,r,h=>by
  simp only[aI,yP,zQ]at h
  rcases h with rfl|h
  ·rfl
  ·exact AMX l r (by simpa [aI]using h)
theorem vS.own {wi:World} {mi:Mem} {p:Pn} {e:Ending} {w:World} (h:vS wi mi p e w):bR wi mi (fun _=>none) (rqA p 0) (rqB p) e w:=by
 obtain⟨v0,v1,v2,v3,v4,F,m,rfl,hone,hm,ha,hc⟩:=h;have ht:=hc.kc.1.toT (fun f hf=>(hc.all f hf).2.2.2.2);obtain⟨nE,nC,nK⟩:=hc.kc.2;have hnd:=hc.nd;have hall:=hc.all;clear hc;rw[Pn.aB]at ht
 cases ht with
 | lit o0 ht =>
 cases ht with
 | lit o1 ht =>
 obtain⟨FE,G,hF,tE,ht2⟩:=ht.split 1;obtain⟨FC,FK,hG,tC,tK⟩:=ht2.split 1;simp at tE tC tK;subst hG;subst hF;have n1:=zN.1 hnd;have n2:=zN.1 n1.2.1
 have i0:Inv w m (fun _=>none) (aV []):=⟨hm,fun id blk e=>by simp[aV]at e,fun id id' b b' n n' blk blk' f e=>by simp[aV]at e,fun _ _ _ _ e=>by cases e⟩
 obtain⟨φ1,i1,b1,p1,r1,f1,q1⟩:=JM (st:=[]) i0 (fun id h=>absurd rfl h) (k:=5) (by omega) (AMY p.exprs) tE n1.1 (fun f hf=>(hall f (by simp[hf])).2.2.2.1) (fun f hf=>(hall f (by simp[hf])).2.1) (fun f hf=>(hall f (by simp[hf])).2.2.1) (fun h=>nE (qR.2 h)) (blk:=.tre 5 (Ex.aA p.exprs)) (.inl rfl) (p.exprs=[]) qR;have fr1:∀ f∈FC++FK,fJ φ1 f:=fun f hf=>f1 f (hall f (by simp at hf ⊢;exact .inr hf)).2.2.1 fun h=>n1.2.2 f h f hf rfl
 obtain⟨φ2,i2,b2,p2,r2,f2,q2⟩:=JM i1 b1 (k:=1) (by omega) (AMX p.cols) tC n2.1 (fun f hf=>(hall f (by simp[hf])).2.2.2.1) (fun f hf=>(hall f (by simp[hf])).2.1) (fun f hf=>fr1 f (by simp[hf])) (fun h=>nC (qQ.2 h)) (blk:=.arr 1 (aI p.cols)) (.inr ⟨rfl,kX _⟩) (p.cols=[]) qQ;obtain⟨φ3,i3,b3,p3,r3,f3,q3⟩:=JM i2 b2 (k:=5) (by omega) (AMW p.kids) tK n2.2.1 (fun f hf=>(hall f (by simp[hf])).2.2.2.1) (fun f hf=>(hall f (by simp[hf])).2.1) (fun f hf=>f2 f (fr1 f (by simp[hf])) fun h=>n2.2.2 f h f hf rfl) (fun h=>nK (qP.2 h)) (blk:=.tre 5 (Pn.aA p.kids)) (.inl rfl) (p.kids=[]) qP;have r1:=r1.mono (.refl m) (p2.trans p3);have r2:=r2.mono (.refl m) p3;refine⟨_,m,φ3,rfl,?_,by simpa [rqB]using i3,⟨ha.size,ha.os,ha.tape,ha.output,ha.block,ha.mle,ha.mnew,(fun _ _ _ h=>by cases h),fun id b n f e1 e2=>?_⟩,by simpa [rqB]using b3⟩
 ·have ho:∀ v∈[v2,v3,v4],v.oneCell'=true:=fun v hv=>hone v (by simp at hv ⊢;rcases hv with h|h|h<;>simp[h])
  refine .agg (.cons (.i (.lit _)) rfl (.cons (.i (.lit _)) rfl (.cons ?_ (ho _ (by simp)) (.cons ?_ (ho _ (by simp)) (.cons ?_ (ho _ (by simp)) .nil)))))
  ·by_cases c1:p.exprs=[]<;>simpa [c1]using r1
  ·by_cases c1:p.exprs=[]<;>by_cases c2:p.cols=[]<;>simpa [c1,c2]using r2
  ·by_cases c1:p.exprs=[]<;>by_cases c2:p.cols=[]<;>by_cases c3:p.kids=[]<;>simpa [c1,c2,c3]using r3
 ·rcases q3 id b n f e1 e2 with h|h
  ·exact .inl (hall f (by simp[h])).1
  ·rcases q2 id b n f h e2 with h|h
   ·exact .inl (hall f (by simp[h])).1
   ·rcases q1 id b n f h e2 with h|h
    ·exact .inl (hall f (by simp[h])).1
    ·cases h
def rqZ (q:Pn) (j:Nat):List AV :=
 [.int q.kind, .int q.table,if q.exprs=[]then .i (.isl [])else .osl j 5 0 q.exprs.length,if q.cols=[]then .i (.isl [])else .osl (if q.exprs=[]then j else j+1) 1 0 q.cols.length,if q.kids=[]then .i (.isl [])else .osl (if q.exprs=[]then(if q.cols=[]then j else j+1)else(if q.cols=[]then j+1 else j+2)) 5 0 q.kids.length]
section
variable {w:World} {m:Mem}
theorem JL {φ:Pl} {st:StL} (hi:Inv w m φ (aV st)) (hb:∀ id,φ id≠none→id<st.length) {es:List (List IV)} {k:Nat} {v:Value} {F:List Nat} (hk0:0<k) (hk:∀ e∈es,e.length=k) (ht:TCells w [.isl es] [v] F) (hn:F.Nodup) (hm:∀ f∈F,∀ o,m f o=none) (hlt:∀ f∈F,f<w.heap.size) (hfr:∀ f∈F,fJ φ f)
 {blk:Blk} (hmk:blk=.tre k es∨(blk=.arr k es∧fI es=true)) (c:Prop) [Decidable c] (hc:c↔es=[]) :
 ∃ φ',Inv w m φ' (aV (st++if c then []else [some blk]))∧(∀ id,φ' id≠none→id<(st++if c then []else [some blk]).length)∧PLe φ φ'∧Rep m φ' (if c then .i (.isl [])else .osl st.length k 0 es.length) v∧(∀ f,fJ φ f→f ∉ F→fJ φ' f)∧∀ id b n f,φ' id=some (b,n)→n.own f→f∈F∨φ id=some (b,n):=by
 by_cases h:c
 ·have he:=hc.1 h;simp only[h,if_true,yY];refine⟨φ,hi,hb, .refl _,?_,fun f h1 _=>h1,fun id b n f h1 _=>.inr h1⟩
  cases ht with
  | isl0 hcap _=>exact .i (.isl0 _ _ hcap)
  | isl hne=>exact absurd he hne
 ·have he:es≠[]:=fun e=>h (hc.2 e)
  obtain⟨φ',h1⟩:=JM hi hb hk0 hk ht hn hm hlt hfr (fun e=>absurd e he) hmk c hc;simp only[h,if_false]at h1 ⊢;exact⟨φ',h1⟩
theorem Inv.AOG {φ:Pl} {l:StL} {cs cs':List AV} {b:Nat} {n:Ext} {T:TypeId} {vs:List Value} (hi:Inv w m φ (aV (some (.box cs)::l))) (e:φ 0=some (b,n)) (hh:w.heap[b]?=some (.cells vs.toArray T (0,0))) (hl:vs.length=n.len) (hr:RepC m φ cs' vs) (hm:∀ o,m b o=none):Inv w m φ (aV (some (.box cs')::l)):=by
 have hst:∀ id blk,aV (some (.box cs')::l) id=some blk→∃ blk',aV (some (.box cs)::l) id=some blk'∧((id=0∧blk=.box cs')∨(id≠0∧blk'=blk)):=by
  intro id blk h
  cases id with
  | zero=>simp[aV]at h;exact⟨_,rfl, .inl ⟨rfl,h.symm⟩⟩
  | succ id=>exact⟨blk,h, .inr ⟨by omega,rfl⟩⟩
 refine⟨hi.mem,fun id blk h=>?_,fun id id' b1 b2 n1 n2 k1 k2 f h1 h2=>?_,hi.low⟩
 ·obtain⟨blk',h1,h2⟩:=hst id blk h;obtain⟨b1,n1,q1,q2,q3⟩:=hi.live id blk' h1
  rcases h2 with ⟨rfl,rfl⟩|⟨h2,rfl⟩
  ·rw[e]at q1;injection q1 with q1;injection q1 with e1 e2;subst e1;subst e2
   exact⟨_,_,e,q2, .box hh hl hr hm⟩
  ·exact⟨b1,n1,q1,q2,q3⟩
 ·obtain⟨k1',g1,_⟩:=hst id k1 h1;obtain⟨k2',g2,_⟩:=hst id' k2 h2;exact hi.inj id id' b1 b2 n1 n2 k1' k2' f g1 g2
theorem IC {es:List (List IV)} (hw:∀ r∈es,r.length=5):∀ i,es.flatten.take (5*i)=(es.take i).flatten∧es.flatten.drop (5*i)=(es.drop i).flatten:=by
 induction es with
 | nil=>intro i;simp
 | cons a l ih =>
  intro i;have ha:=hw a (by simp)
  cases i with
  | zero=>simp
  | succ i =>
   obtain⟨h1,h2⟩:=ih (fun r hr=>hw r (by simp[hr])) i;have e1:5*(i+1)=a.length+5*i:=by omega
   simp only[zF,yR,xB];rw[e1,List.take_length_add_append,List.drop_length_add_append,h1,h2];exact⟨rfl,rfl⟩
structure DIn (w:World) (m:Mem) (b:Nat) (n:Ext) (es:List (List IV)) (i:Nat) (pre row post:List Value) (F1 F2 F3:List Nat):Prop where
 heap:∃ T:TypeId,w.heap[b]?=some (.cells (pre++(row++post)).toArray T (0,0))
 len:(pre++(row++post)).length=n.len
 lp:pre.length=5*i
 lr:row.length=5
 fit:5*es.length≤n.len
 one:∀ v∈pre++(row++post),v.oneCell'=true
 u1:UCells w m (es.take i).flatten pre F1
 u3:UCells w m (es.drop (i+1)).flatten (post.take (5*(es.length-(i+1)))) F3
 nd:(b::(F1++(F2++F3))).Nodup
 own:∀ f∈b::(F1++(F2++F3)),n.own f
 unk:∀ f,n.own f→∀ o,m f o=none
 lt:∀ f,n.own f→f<w.heap.size
 wid:∀ r∈es,r.length=5
theorem AHX {φ:Pl} {es:List (List IV)} {i:Nat} {q:Pn} (hi:Inv w m φ (aV [some (.tre 5 es)])) {b:Nat} {n:Ext} (e:φ 0=some (b,n)) (hq:es[i]?=some q.cells) :
 ∃ pre row post F1 F2 F3 φ',DIn w m b n es i pre row post F1 F2 F3∧Inv w m φ' (aV (some (.box (gB pre (rqZ q 1) post))::rqB q))∧φ' 0=some (b,⟨n.len,fun f=>f∈[b]⟩)∧(∀ id,φ' id≠none→id<(some (Blk.box (gB pre (rqZ q 1) post))::rqB q).length)∧∀ id b' n' f,φ' id=some (b',n')→n'.own f→f∈b::F2:=by
 obtain⟨⟨hob,hlt⟩,hok⟩:=bS hi e rfl
 cases hok with
 | @tre T k _ vs F hh hlen hk hw hu hfit hnd hF hm hone =>
  have hil:=(zW.1 hq).1;obtain⟨f1,f2⟩:=IC hw i;obtain⟨F1,Fr,rfl,u1,ur⟩:=hu.split (5*i);obtain⟨F2,F3,rfl,u2,u3⟩:=ur.split 5;rw[f1]at u1;rw[f2]at u2 u3
  have hdr:es.drop i=q.cells::es.drop (i+1):=by
   obtain⟨h,h'⟩:=zW.1 hq;rw[← h'];exact yJ h
  have hq5:q.cells.length=5:=hw _ (zT hq);rw[hdr,zF]at u2 u3;rw[← hq5,xY]at u2;rw[← hq5,List.drop_left]at u3;rw[hq5]at u2 u3;have e1:(vs.take (5*es.length)).take (5*i)=vs.take (5*i):=by rw[zD];congr 1;omega
  have e2:((vs.take (5*es.length)).drop (5*i)).take 5=(vs.drop (5*i)).take 5:=by
   rw[xN,zD];congr 1;omega
  have e3:((vs.take (5*es.length)).drop (5*i)).drop 5=(vs.drop (5*i+5)).take (5*(es.length-(i+1))):=by
   rw[xM,xN];congr 1;omega
  rw[e1]at u1;rw[e2]at u2;rw[e3]at u3;have t2:=u2.pure (Pn.IQ q)
  have hvs:vs=vs.take (5*i)++((vs.drop (5*i)).take 5++vs.drop (5*i+5)):=by
   rw[← List.drop_drop,xJ,xJ]
  have hl5:((vs.drop (5*i)).take 5).length=5:=by simp;omega
  generalize hpre:vs.take (5*i)=pre at *
  generalize hrow:(vs.drop (5*i)).take 5=row at *
  generalize hpost:vs.drop (5*i+5)=post at *
  have hpl:pre.length=5*i:=by rw[← hpre];simp;omega
  subst hvs
  have hown:∀ f∈b::(F1++(F2++F3)),n.own f:=fun f hf=>by
   rcases zQ.1 hf with rfl|hf
   ·exact hob
   ·exact hF f hf
  have hdin:DIn w m b n es i pre row post F1 F2 F3:=⟨⟨T,hh⟩,hlen,hpl,hl5,hfit,hone,u1,u3,hnd,hown,hm,hlt,hw⟩
  refine⟨pre,row,post,F1,F2,F3,?_⟩
  have hnd2:F2.Nodup∧b ∉ F2:=by
   have h1:=z8.1 hnd;exact⟨(zN.1 (zN.1 h1.2).2.1).1,fun h=>h1.1 (by simp[h])⟩
  rw[Pn.aB]at t2
  obtain⟨v0,v1,v2,v3,v4,rfl⟩:∃ v0 v1 v2 v3 v4,row=[v0,v1,v2,v3,v4]:=by
   match row,hl5 with
   | [a,b,c,d,e],_=>exact⟨a,b,c,d,e,rfl⟩
  cases t2 with
  | lit o0 t2 =>
  cases t2 with
  | lit o1 t2 =>
  obtain⟨FE,G,hF2,tE,ht2⟩:=t2.split 1;obtain⟨FC,FK,hG,tC,tK⟩:=ht2.split 1;simp at tE tC tK;subst hG;subst hF2;have n1:=zN.1 hnd2.1;have n2:=zN.1 n1.2.1
  have hall:∀ f∈FE++(FC++FK),(∀ o,m f o=none)∧f<w.heap.size∧f≠b:=fun f hf=>by
   have ho:n.own f:=hown f (by simp at hf ⊢;rcases hf with h|h|h<;>simp[h]);exact⟨hm f ho,hlt f ho,fun h=>hnd2.2 (h ▸ hf)⟩
  have i0:Inv w m (fun _=>none) (aV []):=⟨hi.mem,fun id blk e=>by simp[aV]at e,fun id id' b b' n n' blk blk' f e=>by simp[aV]at e,fun _ _ _ _ e=>by cases e⟩
  have hbox:∀ φ':Pl,BlkOk w m φ' b ⟨n.len,fun f=>f∈[b]⟩ (.box (dO (pre++([.int .i64 q.kind, .int .i64 q.table,v2,v3,v4]++post)))):=fun φ'=>.box hh hlen (kD hone) (hm b hob)
  obtain⟨i1,b1⟩:=Z8 (st:=[]) i0 (fun id h=>absurd rfl h) (b:=b) (len:=n.len) (F:=[b]) (by simp) (fun f hf=>by simp at hf;subst hf;exact hlt _ hob) (fun f hf id r n' e=>by cases e) hbox
  have fr0:∀ f∈FE++(FC++FK),fJ (upd (fun _=>none) ([]:StL).length (some (b,(⟨n.len,fun f=>f∈[b]⟩:Ext)))) f:=fun f hf id r n' e ho=>by
   by_cases hid:id=([]:StL).length
   ·simp[upd,hid]at e;obtain⟨rfl,rfl⟩:=e;exact(hall f hf).2.2 (by simpa using ho)
   ·simp only[upd,if_neg hid]at e
    cases e
  obtain⟨φ1,i1,b1,p1,r1,f1,q1⟩:=JL i1 b1 (k:=5) (by omega) (AMY q.exprs) tE n1.1 (fun f hf=>(hall f (by simp[hf])).1) (fun f hf=>(hall f (by simp[hf])).2.1) (fun f hf=>fr0 f (by simp[hf])) (blk:=.tre 5 (Ex.aA q.exprs)) (.inl rfl) (q.exprs=[]) qR;have fr1:∀ f∈FC++FK,fJ φ1 f:=fun f hf=>f1 f (fr0 f (by simp at hf ⊢;exact .inr hf)) fun h=>n1.2.2 f h f hf rfl
  obtain⟨φ2,i2,b2,p2,r2,f2,q2⟩:=JL i1 b1 (k:=1) (by omega) (AMX q.cols) tC n2.1 (fun f hf=>(hall f (by simp[hf])).1) (fun f hf=>(hall f (by simp[hf])).2.1) (fun f hf=>fr1 f (by simp[hf])) (blk:=.arr 1 (aI q.cols)) (.inr ⟨rfl,kX _⟩) (q.cols=[]) qQ;obtain⟨φ3,i3,b3,p3,r3,f3,q3⟩:=JL i2 b2 (k:=5) (by omega) (AMW q.kids) tK n2.2.1 (fun f hf=>(hall f (by simp[hf])).1) (fun f hf=>(hall f (by simp[hf])).2.1) (fun f hf=>f2 f (fr1 f (by simp[hf])) fun h=>n2.2.2 f h f hf rfl) (blk:=.tre 5 (Pn.aA q.kids)) (.inl rfl) (q.kids=[]) qP;have r1:=r1.mono (.refl m) (p2.trans p3);have r2:=r2.mono (.refl m) p3;have hbn:b ∉ FE++(FC++FK):=hnd2.2
  have hz:φ3 0=some (b,(⟨n.len,fun f=>f∈[b]⟩:Ext)):=by
   obtain⟨n',e',_,ho⟩:=(p1.trans (p2.trans p3)) 0 b ⟨n.len,fun f=>f∈[b]⟩ (by simp[upd]);have hob':=ho b (by simp)
   rcases q3 0 b n' b e' hob' with h|h
   ·exact absurd (by simp[h]) hbn
   ·rcases q2 0 b n' b h hob' with h|h
    ·exact absurd (by simp[h]) hbn
    ·rcases q1 0 b n' b h hob' with h|h
     ·exact absurd (by simp[h]) hbn
     ·rw[e',← h];simp[upd]
  have hst:(([]++[some (Blk.box (dO (pre++([.int .i64 q.kind, .int .i64 q.table,v2,v3,v4]++post))))]++if q.exprs=[]then []else [some (Blk.tre 5 (Ex.aA q.exprs))])++if q.cols=[]then []else [some (Blk.arr 1 (aI q.cols))])++(if q.kids=[]then []else [some (Blk.tre 5 (Pn.aA q.kids))])=some (Blk.box (dO (pre++([.int .i64 q.kind, .int .i64 q.table,v2,v3,v4]++post))))::rqB q:=by
   simp[rqB]
  rw[hst]at i3 b3;refine⟨φ3,hdin,i3.AOG hz hh hlen ?_ (hm b hob),hz,by simpa using b3,fun id b' n' f e1 e2=>?_⟩
  ·have ho:∀ v∈[v2,v3,v4],v.oneCell'=true:=fun v hv=>hone v (by simp at hv ⊢;rcases hv with h|h|h<;>simp[h])
   have hrow:RepC m φ3 (rqZ q 1) [.int .i64 q.kind, .int .i64 q.table,v2,v3,v4]:=by
    refine .cons (.i (.lit _)) rfl (.cons (.i (.lit _)) rfl (.cons ?_ (ho _ (by simp)) (.cons ?_ (ho _ (by simp)) (.cons ?_ (ho _ (by simp)) .nil))))
    ·by_cases c1:q.exprs=[]<;>simpa [c1]using r1
    ·by_cases c1:q.exprs=[]<;>by_cases c2:q.cols=[]<;>simpa [c1,c2]using r2
    ·by_cases c1:q.exprs=[]<;>by_cases c2:q.cols=[]<;>by_cases c3:q.kids=[]<;>simpa [c1,c2,c3]using r3
   exact(kD fun v hv=>hone v (by simp[hv])).append (hrow.append (kD fun v hv=>hone v (by simp[hv])))
  ·rcases q3 id b' n' f e1 e2 with h|h
   ·simp[h]
   ·rcases q2 id b' n' f h e2 with h|h
    ·simp[h]
    ·rcases q1 id b' n' f h e2 with h|h
     ·simp[h]
     ·by_cases hid:id=([]:StL).length
      ·simp[upd,hid]at h;obtain⟨rfl,rfl⟩:=h;simp at e2;simp[e2]
      ·simp only[upd,if_neg hid]at h
       cases h
theorem AE0 {φ:Pl} {st:Store} (hi:Inv w m φ st) {j k:Nat} {es:List (List IV)} {v:Value} {blk:Blk} (hk:0<k) (hw:∀ e∈es,e.length=k) (hne:es≠[]) (hr:Rep m φ (.osl j k 0 es.length) v) (hs:st j=some blk) (hmk:(blk=.tre k es∧iQ es=true)∨(blk=.arr k es∧fI es=true)) :
 ∃ F b n,φ j=some (b,n)∧TCells w [.isl es] [v] F∧F.Nodup∧∀ f∈F,n.own f:=by
 have hl0:0<es.length:=y9.2 hne
 cases hr with
 | @osl _ _ _ _ cap b n ao e hlc hcap ha1 ha2 =>
  have hao:=ha1 (by omega);subst hao;obtain⟨⟨hob,hlt⟩,hok⟩:=bS hi e hs
  rcases hmk with ⟨rfl,hp⟩|⟨rfl,hp⟩
  ·cases hok with
   | @tre T _ _ us F hh hlen hpos hw1 hcu hfit hnd hF hm hone =>
    have hc:=hcu.pure (jT hp);have:=TCells.isl (w:=w) (b:=b) (k:=k) (cap:=cap) (us:=us) (G:=F) hne ⟨T,hh,hone⟩ hpos hw1 (by rw[hlen];simpa using hcap) hlc hc .nil;rw[yY]at this;refine⟨b::F,b,n,e,by simpa using this,hnd,fun f hf=>?_⟩
    rcases zQ.1 hf with rfl|hf
    ·exact hob
    ·exact hF f hf
  ·cases hok with
   | @arr T _ _ us hh hlen hpos hw1 hcu hfit hm hown hone =>
    have hc:=O8 (w:=w) (fB hp) hcu;have:=TCells.isl (w:=w) (b:=b) (k:=k) (cap:=cap) (us:=us) (G:=[]) hne ⟨T,hh,hone⟩ hpos hw1 (by rw[hlen];simpa using hcap) hlc hc .nil;rw[yY]at this;refine⟨[b],b,n,e,by simpa using this,by simp,fun f hf=>by simp at hf;subst hf;exact hob⟩
theorem KD {φ:Pl} {st:Store} (hi:Inv w m φ st) {j k:Nat} {es:List (List IV)} {v:Value} {blk:Blk} (hk:0<k) (hw:∀ e∈es,e.length=k) (c:Prop) [Decidable c] (hc:c↔es=[]) (hr:Rep m φ (if c then .i (.isl [])else .osl j k 0 es.length) v) (hs:¬ c→st j=some blk) (hmk:(blk=.tre k es∧iQ es=true)∨(blk=.arr k es∧fI es=true)) :
 ∃ F,TCells w [.isl es] [v] F∧F.Nodup∧∀ f∈F,¬ c∧∃ b n,φ j=some (b,n)∧n.own f:=by
 by_cases h:c
 ·have he:=hc.1 h;simp only[h,if_true]at hr;subst he
  cases hr with
  | i hr =>
   cases hr with
   | isl0 ao cap hcap=>exact⟨[], .isl0 hcap .nil,by simp,by simp⟩
   | isl hne=>exact absurd rfl hne
 ·have he:es≠[]:=fun e=>h (hc.2 e)
  simp only[h,if_false]at hr;obtain⟨F,b,n,h1,h2,h3,h4⟩:=AE0 hi hk hw he hr (hs h) hmk;exact⟨F,h2,h3,fun f hf=>⟨h,b,n,h1,h4 f hf⟩⟩
theorem YJ {q:Pn} {j:Nat} {x:Option Blk} (h:(rqB q)[j]?=some x):∃ k es,(x=some (.tre k es)∧iQ es=true)∨(x=some (.arr k es)∧fI es=true):=by
 have hm:=zT h;unfold rqB at hm
 rcases zV.1 hm with hm|hm
 ·split at hm
  ·cases hm
  ·simp at hm;exact⟨5,_, .inl ⟨hm,Ex.iN _⟩⟩
 ·rcases zV.1 hm with hm|hm
  ·split at hm
   ·cases hm
   ·simp at hm;exact⟨1,_, .inr ⟨hm,kX _⟩⟩
  ·split at hm
   ·cases hm
   ·simp at hm;exact⟨5,_, .inl ⟨hm,Pn.iN _⟩⟩
theorem ACB {φ:Pl} {X:Option Blk} {q:Pn} {row:List Value} (hi:Inv w m φ (aV (X::rqB q))) (hr:RepC m φ (rqZ q 1) row) :
 ∃ F,TCells w q.cells row F∧F.Nodup∧∀ f∈F,∃ id b n,id≠0∧id<(X::rqB q).length∧φ id=some (b,n)∧n.own f:=by
 unfold rqZ at hr
 cases hr with
 | cons a0 o0 hr =>
 cases hr with
 | cons a1 o1 hr =>
 cases hr with
 | cons a2 o2 hr =>
 cases hr with
 | cons a3 o3 hr =>
 cases hr with
 | cons a4 o4 hr =>
 cases hr
 have z0:=a0.bX;have z1:=a1.bX;subst z0;subst z1;rw[← Ex.aT q.exprs]at a2;rw[← wR q.cols]at a3;rw[← Pn.aT q.kids]at a4;obtain⟨FE,tE,nE,oE⟩:=KD hi (k:=5) (by omega) (AMY q.exprs) (q.exprs=[]) qR a2 (blk:=.tre 5 (Ex.aA q.exprs)) (fun h=>by simp[rqB,h,aV]) (.inl ⟨rfl,Ex.iN _⟩);obtain⟨FC,tC,nC,oC⟩:=KD hi (k:=1) (by omega) (AMX q.cols) (q.cols=[]) qQ a3 (blk:=.arr 1 (aI q.cols)) (fun h=>by by_cases h1:q.exprs=[]<;>simp[rqB,h,h1,aV]) (.inr ⟨rfl,kX _⟩);obtain⟨FK,tK,nK,oK⟩:=KD hi (k:=5) (by omega) (AMW q.kids) (q.kids=[]) qP a4 (blk:=.tre 5 (Pn.aA q.kids)) (fun h=>by by_cases h1:q.exprs=[]<;>by_cases h2:q.cols=[]<;>simp[rqB,h,h1,h2,aV]) (.inl ⟨rfl,Pn.iN _⟩)
 have hdis:∀ (i j:Nat) (f:Nat),i≠j→(∃ b n,φ i=some (b,n)∧n.own f)→(∃ b n,φ j=some (b,n)∧n.own f)→(∃ x,aV (X::rqB q) i=some x)→(∃ x,aV (X::rqB q) j=some x)→False:=by
  rintro i j f hne ⟨b,n,e,ho⟩ ⟨b',n',e',ho'⟩ ⟨x,hx⟩ ⟨y,hy⟩;exact hne (hi.inj i j b b' n n' x y f hx hy e e' ho ho')
 have sE:¬ q.exprs=[]→aV (X::rqB q) 1=some (.tre 5 (Ex.aA q.exprs)):=fun h=>by simp[rqB,h,aV]
 have sC:¬ q.cols=[]→aV (X::rqB q) (if q.exprs=[]then 1 else 1+1)=some (.arr 1 (aI q.cols)):=fun h=>by by_cases h1:q.exprs=[]<;>simp[rqB,h,h1,aV]
 have sK:¬ q.kids=[]→aV (X::rqB q) (if q.exprs=[]then(if q.cols=[]then 1 else 1+1)else(if q.cols=[]then 1+1 else 1+2))=some (.tre 5 (Pn.aA q.kids)):=fun h=>by by_cases h1:q.exprs=[]<;>by_cases h2:q.cols=[]<;>simp[rqB,h,h1,h2,aV]
 refine⟨FE++(FC++FK),?_,?_,?_⟩
 ·rw[Pn.aB];have:=tE.append (tC.append tK);exact .lit o0 (.lit o1 (by simpa using this))
 ·refine zN.2 ⟨nE,zN.2 ⟨nC,nK,fun x hx y hy e=>?_⟩,fun x hx y hy e=>?_⟩
  ·subst e;obtain⟨c1,h1⟩:=oC x hx;obtain⟨c2,h2⟩:=oK x hy;exact hdis _ _ x (by by_cases g1:q.exprs=[]<;>simp[g1,c1]) h1 h2 ⟨_,sC c1⟩ ⟨_,sK c2⟩
  ·subst e;obtain⟨c1,h1⟩:=oE x hx
   rcases zV.1 hy with hy|hy
   ·obtain⟨c2,h2⟩:=oC x hy;exact hdis _ _ x (by simp[c1]) h1 h2 ⟨_,sE c1⟩ ⟨_,sC c2⟩
   ·obtain⟨c2,h2⟩:=oK x hy;exact hdis _ _ x (by by_cases g1:q.cols=[]<;>simp[g1,c1]) h1 h2 ⟨_,sE c1⟩ ⟨_,sK c2⟩
 ·intro f hf
  rcases zV.1 hf with hf|hf
  ·obtain⟨c,b,n,h1,h2⟩:=oE f hf;exact⟨1,b,n,by omega,by simp[rqB,c],h1,h2⟩
  ·rcases zV.1 hf with hf|hf
   ·obtain⟨c,b,n,h1,h2⟩:=oC f hf;exact⟨_,b,n,by split<;>omega,by by_cases g1:q.exprs=[]<;>simp[rqB,c,g1],h1,h2⟩
   ·obtain⟨c,b,n,h1,h2⟩:=oK f hf;exact⟨_,b,n,by split<;>split<;>omega,by by_cases g1:q.exprs=[]<;>by_cases g2:q.cols=[]<;>simp[rqB,c,g1,g2],h1,h2⟩
theorem ADE {φ φ':Pl} {es:List (List IV)} {i:Nat} {q q':Pn} {b:Nat} {n:Ext} {pre row post:List Value} {F1 F2 F3:List Nat} (hi:Inv w m φ (aV [some (.tre 5 es)])) (e:φ 0=some (b,n)) (hb1:∀ id,φ id≠none→id<1) (hil:i<es.length) (hd:DIn w m b n es i pre row post F1 F2 F3)
 (e':φ' 0=some (b,⟨n.len,fun f=>f∈[b]⟩)) (hb':∀ id,φ' id≠none→id<1+(rqB q).length) (ho':∀ id b' n' f,φ' id=some (b',n')→n'.own f→f∈b::F2) (hlen:(rqB q').length=(rqB q).length)
 {w2:World} {m2:Mem} {φ2:Pl} (i2:Inv w2 m2 φ2 (aV (some (.box (gB pre (rqZ q' 1) post))::rqB q'))) (a2:Adv w m φ' w2 m2 φ2) :
 ∃ φ3,Inv w2 m2 φ3 (aV [some (.tre 5 (es.set i q'.cells))])∧Adv w m φ w2 m2 φ3∧∀ id,φ3 id≠none→id<1:=by
 obtain⟨n2,e2,hl2,-⟩:=a2.ple 0 b _ e';obtain⟨⟨hob2,hlt2⟩,hok⟩:=bS i2 e2 rfl
 cases hok with
 | @box T _ vs2 hh hvl hrc hm2 =>
  have hone2:=hrc.one;obtain⟨p2,x,rfl,r1,r2⟩:=lF hrc;obtain⟨row2,q2,rfl,r3,r4⟩:=lF r2;obtain rfl:=(qK r1).symm;obtain rfl:=(qK r4).symm;obtain⟨G,tG,nG,oG⟩:=ACB i2 r3;have hrl:row2.length=5:=by rw[← tG.length,Pn.aB];rfl
  have hfree:∀ f,f ∉ b::F2→fJ φ' f:=fun f hf id b1 n1 e1 ho=>hf (ho' id b1 n1 f e1 ho)
  have hsame:∀ f,n.own f→f ∉ b::F2→w2.heap[f]?=w.heap[f]?:=fun f h1 h2=>a2.block f (hd.lt f h1) (hfree f h2)
  have hnd:=hd.nd;have nb:=z8.1 hnd;have n1:=zN.1 nb.2;have n2':=zN.1 n1.2.1
  have in1:∀ f∈F1,n.own f∧f ∉ b::F2:=fun f hf=>⟨hd.own f (by simp[hf]),fun h=>by
   rcases zQ.1 h with h|h
   ·exact nb.1 (by simp[← h,hf])
   ·exact n1.2.2 f hf f (by simp[h]) rfl⟩
  have in3:∀ f∈F3,n.own f∧f ∉ b::F2:=fun f hf=>⟨hd.own f (by simp[hf]),fun h=>by
   rcases zQ.1 h with h|h
   ·exact nb.1 (by simp[← h,hf])
   ·exact n2'.2.2 f h f hf rfl⟩
  have hG:∀ f∈G,f≠b∧(w.heap.size≤f∨f∈F2)∧f<w2.heap.size∧∀ o,m2 f o=none:=by
   intro f hf;obtain⟨id,b1,k1,h0,hlt,h1,h2⟩:=oG f hf
   obtain⟨j,rfl⟩:∃ j,id=j+1:=⟨id-1,by omega⟩
   have hget:∃ x,(rqB q')[j]?=some x:=⟨_,zX (by simpa using hlt)⟩
   obtain⟨x,hx⟩:=hget;obtain⟨k,es1,hk⟩:=YJ hx
   have hst:aV (some (Blk.box (gB pre (rqZ q' 1) post))::rqB q') (j+1)=x:=by
    rw[kT];simp[hx]
   have hne:f≠b:=by
    rintro rfl
    rcases hk with ⟨rfl,_⟩|⟨rfl,_⟩
    ·have:=i2.inj (j+1) 0 _ _ _ _ _ _ f hst rfl h1 e2 h2 hob2;omega
    ·have:=i2.inj (j+1) 0 _ _ _ _ _ _ f hst rfl h1 e2 h2 hob2;omega
   refine⟨hne,?_,i2.low _ _ _ f h1 h2,?_⟩
   ·rcases a2.pnew _ _ _ f h1 h2 with h|h
    ·exact .inl h
    ·have:f∈b::F2:=Classical.byContradiction fun hc=>h (hfree f hc)
     rcases zQ.1 this with h|h
     ·exact absurd h hne
     ·exact .inr h
   ·rcases hk with ⟨rfl,_⟩|⟨rfl,_⟩
    ·obtain⟨_,hok⟩:=bS i2 h1 hst
     cases hok with
     | tre _ _ _ _ _ _ _ _ hu _=>exact hu f h2
    ·obtain⟨_,hok⟩:=bS i2 h1 hst
     cases hok with
     | arr _ _ _ _ _ _ hu hw' _=>rw[hw' f h2];exact hu
  have hlive:∀ f,n.own f→∀ o,m2 f o=none:=by
   intro f hf o;by_cases hfr:fJ φ' f
   ·rw[a2.mnew f (hd.lt f hf) hfr o];exact hd.unk f hf o
   ·obtain⟨id,b1,k1,h1,h2⟩:∃ id b1 k1,φ' id=some (b1,k1)∧k1.own f:=Classical.byContradiction fun hc=>hfr fun id b1 k1 h1 h2=>hc ⟨id,b1,k1,h1,h2⟩
    have hid:=hb' id (by rw[h1];simp);obtain⟨k2,h3,_,h4⟩:=a2.ple id b1 k1 h1
    cases id with
    | zero =>
     rw[e']at h1;injection h1 with h1;injection h1 with g1 g2;subst g1;subst g2;have:f=b:=by simpa using h2
     subst this;exact hm2 o
    | succ j =>
     obtain⟨x,hx⟩:∃ x,(rqB q')[j]?=some x:=⟨_,zX (by omega)⟩
     obtain⟨k,es1,hk⟩:=YJ hx
     have hst:aV (some (Blk.box (gB pre (rqZ q' 1) post))::rqB q') (j+1)=x:=by
      rw[kT];simp[hx]
     rcases hk with ⟨rfl,_⟩|⟨rfl,_⟩
     ·obtain⟨_,hok⟩:=bS i2 h3 hst
      cases hok with
      | tre _ _ _ _ _ _ _ _ hu _=>exact hu f (h4 f h2) o
     ·obtain⟨_,hok⟩:=bS i2 h3 hst
      cases hok with
      | arr _ _ _ _ _ _ hu hw' _=>rw[hw' f (h4 f h2)];exact hu o
  have hset:es.set i q'.cells=es.take i++q'.cells::es.drop (i+1):=by rw[xE,if_pos hil]
  have hq5:q'.cells.length=5:=by rw[Pn.aB];rfl
  have u1:=hd.u1.mono a2.mle fun f hf=>hsame f (in1 f hf).1 (in1 f hf).2
  have u3:=hd.u3.mono a2.mle fun f hf=>hsame f (in3 f hf).1 (in3 f hf).2
  have uu:=u1.append (tG.toU.append u3);have hfl:(es.set i q'.cells).flatten=(es.take i).flatten++(q'.cells++(es.drop (i+1)).flatten):=by rw[hset];simp
  have hlv:(pre++(row2++post)).take (5*(es.set i q'.cells).length)=pre++(row2++post.take (5*(es.length-(i+1)))):=by
   rw[xV,yH,yH,zY (by rw[hd.lp];omega),zY (by rw[hd.lp,hrl];omega),hd.lp,hrl];congr 3;omega
  rw[← hfl,← hlv]at uu;have hlen2:(pre++(row2++post)).length=n.len:=by rw[hvl,hl2]
  have hblk:∀ φ3:Pl,BlkOk w2 m2 φ3 b ⟨n.len,fun f=>n.own f∨f∈G⟩ (.tre 5 (es.set i q'.cells)):=by
   intro φ3;refine .tre (T:=T) hh hlen2 (by omega) ?_ uu (by rw[xV];exact hd.fit) ?_ ?_ ?_ hone2
   ·intro r hr
    rcases xG hr with h|h
    ·exact hd.wid r h
    ·rw[h];exact hq5
   ·refine z8.2 ⟨fun h=>?_,zN.2 ⟨n1.1,zN.2 ⟨nG,n2'.2.1,fun x hx y hy e=>?_⟩,fun x hx y hy e=>?_⟩⟩
    ·rcases zV.1 h with h|h
     ·exact nb.1 (by simp[h])
     ·rcases zV.1 h with h|h
      ·exact(hG b h).1 rfl
      ·exact nb.1 (by simp[h])
    ·subst e
     rcases(hG x hx).2.1 with h|h
     ·have:=hd.lt x (in3 x hy).1;omega
     ·exact(in3 x hy).2 (by simp[h])
    ·subst e
     rcases zV.1 hy with hy|hy
     ·rcases(hG x hy).2.1 with h|h
      ·have:=hd.lt x (in1 x hx).1;omega
      ·exact(in1 x hx).2 (by simp[h])
     ·exact n1.2.2 x hx x (by simp[hy]) rfl
   ·intro f hf
    rcases zV.1 hf with hf|hf
    ·exact .inl (in1 f hf).1
    ·rcases zV.1 hf with hf|hf
     ·exact .inr hf
     ·exact .inl (in3 f hf).1
   ·intro f hf
    rcases hf with hf|hf
    ·exact hlive f hf
    ·exact(hG f hf).2.2.2
  have hobn:n.own b:=hd.own b (by simp)
  have hown3:∀ f,(n.own f∨f∈G)→f<w2.heap.size:=fun f hf=>by
   rcases hf with hf|hf
   ·exact yZ (hd.lt f hf) a2.size
   ·exact(hG f hf).2.2.1
  have hfr:∀ f,fJ φ f→fJ φ' f:=fun f hf id b1 n1 h1 h2=>by
   have:=ho' id b1 n1 f h1 h2;refine hf 0 b n e ?_
   rcases zQ.1 this with h|h
   ·rw[h];exact hobn
   ·exact hd.own f (by simp[h])
  refine⟨upd (fun _=>none) 0 (some (b,⟨n.len,fun f=>n.own f∨f∈G⟩)),⟨i2.mem,?_,?_,?_⟩,⟨a2.size,a2.os,a2.tape,a2.output,fun f h1 h2=>a2.block f h1 (hfr f h2),a2.mle,fun f h1 h2=>a2.mnew f h1 (hfr f h2),?_,?_⟩,?_⟩
  ·intro id blk h
   cases id with
   | zero =>
    simp[aV]at h;subst h;exact⟨b,⟨n.len,fun f=>n.own f∨f∈G⟩,by simp[upd],⟨Or.inl hobn,hown3⟩,hblk _⟩
   | succ id=>simp[aV]at h
  ·intro id id' b1 b2 k1 k2 x y f h1 h2
   cases id with
   | zero =>
    cases id' with
    | zero=>intros;rfl
    | succ id'=>simp[aV]at h2
   | succ id=>simp[aV]at h1
  ·intro id b1 n1 f h1 h2;by_cases hid:id=0
   ·simp[upd,hid]at h1;obtain⟨rfl,rfl⟩:=h1;exact hown3 f h2
   ·simp[upd,hid]at h1
  ·intro id b1 n1 h1;have hid:id=0:=by have:=hb1 id (by rw[h1];simp);omega
   subst hid;rw[e]at h1;injection h1 with h1;injection h1 with g1 g2;subst g1;subst g2;exact⟨⟨n.len,fun f=>n.own f∨f∈G⟩,by simp[upd],rfl,fun f hf=>Or.inl hf⟩
  ·intro id b1 n1 f h1 h2;by_cases hid:id=0
   ·simp[upd,hid]at h1;obtain⟨rfl,rfl⟩:=h1
    rcases h2 with h2|h2
    ·exact .inr (fJ.not e h2)
    ·rcases(hG f h2).2.1 with h|h
     ·exact .inl h
     ·exact .inr (fJ.not e (hd.own f (by simp[h])))
   ·simp[upd,hid]at h1
  ·intro id h1;by_cases hid:id=0
   ·omega
   ·simp[upd,hid]at h1
end
def AQJ (k:Nat) (es:List (List IV)):Nat→StL
 | 0=>[]
 | _+1=>[some (.tre k es)]
@[simp] theorem AQI (k:Nat) (es:List (List IV)):AQJ k es 0=[]:=(rfl)
@[simp] theorem AQH (k i:Nat) (es:List (List IV)):AQJ k es (i+1)=[some (.tre k es)]:=(rfl)
theorem AEL (l:List Ex):(Ex.aA l).take l.length=Ex.aA l:=zY (by simp)
theorem AEK (l:List Int):(aI l).take l.length=aI l:=zY (by simp)
theorem AEJ (l:List Pn):(Pn.aA l).take l.length=Pn.aA l:=zY (by simp)
end Go.Av
namespace Go.Av
open Go.Av.Mk
theorem TE (l:List Int):fI (aI l)=true:=by
 rw[NF]
 induction l with
 | nil=>rfl
 | cons n l ih=>simp only[yP,fI,ih,Bool.and_true];rfl
theorem ABT (q:Pn):BO (aV (rqB q)) (rqA q 0)=some (.agg q.cells):=by
 rw[Pn.aB];have b1:=AEL q.exprs;have b2:=AEK q.cols;have b3:=AEJ q.kids;have b4:=TE q.cols
 by_cases q1:q.exprs=[]<;>by_cases q2:q.cols=[]<;>by_cases q3:q.kids=[] <;>
  simp[rqA,rqB,q1,q2,q3,BO,vZ,KW,aV,rM,bnd,tst,b4,Ex.aA,Pn.aA,aI]<;>simp_all [aI]
end Go.Av
namespace Go.Av
structure DescC (p:List AV→StL→Option (AV×StL)) (g1:FuncId) (args:List AV) (st:StL) (x:List (List IV)×Nat×Pn×Pn):Prop where
 args:args=[.ownE 0 5 x.2.1 0, .fn (.func g1) []]
 st:st=[some (.tre 5 x.1)]
 row:x.1[x.2.1]?=some x.2.2.1.cells
 len:(rqB x.2.2.2).length=(rqB x.2.2.1).length
 call:∀ pre post:List Value,pre.length=5*x.2.1→p [.own 0 (5*x.2.1), .fn (.func g1) []] (some (.box (gB pre (rqZ x.2.2.1 1) post))::rqB x.2.2.1)=some (.tup [],some (.box (gB pre (rqZ x.2.2.2 1) post))::rqB x.2.2.2)
noncomputable def VY (p:List AV→StL→Option (AV×StL)) (g1:FuncId) (args:List AV) (st:StL):Option (AV×StL) :=
 open Classical in if h:∃ x,DescC p g1 args st x then some (.tup [],[some (.tre 5 (h.choose.1.set h.choose.2.1 h.choose.2.2.2.cells))])else none
theorem VW {p:List AV→StL→Option (AV×StL)} {g1:FuncId} {args:List AV} {st:StL} {q:AV×StL} (h:VY p g1 args st=some q):∃ x,DescC p g1 args st x∧q=(.tup [],[some (.tre 5 (x.1.set x.2.1 x.2.2.2.cells))]):=by
 unfold VY at h;split at h
 ·rename_i hx;injection h with h;exact⟨_,hx.choose_spec,h.symm⟩
 ·cases h
theorem VV {P:Program} {p:List AV→StL→Option (AV×StL)} {g g1:FuncId}
 (hp:∀ args st r st',p args st=some (r,st')→∀ (w:World) (m:Mem) (φ:Pl) (vs:List Value),Inv w m φ (aV st)→RepL m φ args vs→(∀ id,φ id≠none→id<st.length)→Calls P g vs.toArray w (bR w m φ r st'))
 {args:List AV} {st st':StL} {r:AV} (h:VY p g1 args st=some (r,st')) (w:World) (m:Mem) (φ:Pl) (vs:List Value) (hi:Inv w m φ (aV st)) (hr:RepL m φ args vs) (hb:∀ id,φ id≠none→id<st.length):Calls P g vs.toArray w (bR w m φ r st'):=by
 obtain⟨⟨es,i,q,q'⟩,hc,he⟩:=VW h;injection he with h1 h2;subst h1;subst h2;obtain⟨rfl,rfl,hrow,hlen,hcall⟩:=hc;simp only at hrow hlen hcall ⊢
 cases hr with
 | cons ra rb =>
 cases rb with
 | cons rf rn =>
 cases rn
 cases rf with
 | fn rz =>
 cases rz
 cases ra with
 | @ownE _ _ _ _ b n e =>
  have hil:=(zW.1 hrow).1;obtain⟨pre,row,post,F1,F2,F3,φ',hd,i1,e1,b1,o1⟩:=AHX hi e hrow;refine(hp _ _ _ _ (hcall pre post hd.lp) w m φ' _ i1 (.cons (.own e1) (.cons (.fn .nil) .nil)) b1).mono ?_;rintro en w2 ⟨v,m2,φ2,rfl,hv,i2,a2,b2⟩;obtain⟨φ3,i3,a3,b3⟩:=ADE hi e (by simpa using hb) hil hd e1 (by intro id hid;have:=b1 id hid;simp only[zS]at this;omega) o1 hlen i2 a2;refine⟨v,m2,φ3,rfl,?_,i3,a3,by simpa using b3⟩
  cases hv with
  | tup hv=>cases hv;exact .tup .nil
theorem GH (q:Pn):vZ (aV (some (.box (rqZ q 1))::rqB q)) (rqZ q 1)=some q.cells:=by
 rw[Pn.aB];have b1:=AEL q.exprs;have b2:=AEK q.cols;have b3:=AEJ q.kids;have b4:=TE q.cols
 by_cases q1:q.exprs=[]<;>by_cases q2:q.cols=[]<;>by_cases q3:q.kids=[] <;>
  simp[rqZ,rqB,q1,q2,q3,vZ,KW,aV,rM,bnd,tst,b4,Ex.aA,Pn.aA,aI]<;>simp_all [aI]
theorem AG9 {a b:Pn} (h1:rqZ a 1=rqZ b 1) (h2:rqB a=rqB b):a.cells=b.cells:=by
 have h:=GH a;rw[h1,h2,GH b]at h;injection h with h;exact h.symm
theorem ADF {p:List AV→StL→Option (AV×StL)} {g1:FuncId} {es:List (List IV)} {i:Nat} {q q':Pn} (hrow:es[i]?=some q.cells) (hlen:(rqB q').length=(rqB q).length)
 (hcall:∀ pre post:List Value,pre.length=5*i→p [.own 0 (5*i), .fn (.func g1) []] (some (.box (gB pre (rqZ q 1) post))::rqB q)=some (.tup [],some (.box (gB pre (rqZ q' 1) post))::rqB q')) :
 VY p g1 [.ownE 0 5 i 0, .fn (.func g1) []] [some (.tre 5 es)]=some (.tup [],[some (.tre 5 (es.set i q'.cells))]):=by
 have hx:∃ x,DescC p g1 [.ownE 0 5 i 0, .fn (.func g1) []] [some (.tre 5 es)] x:=⟨(es,i,q,q'),rfl,rfl,hrow,hlen,hcall⟩
 unfold VY;rw[dif_pos hx];have hc:=hx.choose_spec;generalize hx.choose=y at hc;obtain⟨es2,i2,q2,q2'⟩:=y;obtain⟨a1,a2,a3,a4,a5⟩:=hc;simp only at a1 a2 a3 a4 a5 ⊢;simp only[List.cons.injEq,AV.ownE.injEq,true_and,and_true]at a1;simp only[List.cons.injEq,Option.some.injEq,Blk.tre.injEq,true_and,and_true]at a2;subst a1;subst a2;rw[hrow]at a3;injection a3 with a3;have hqq:=Pn.ER _ _ a3;subst hqq;have z1:=a5 (List.replicate (5*i) (.int .i64 0)) [] (by simp);rw[hcall (List.replicate (5*i) (.int .i64 0)) [] (by simp)]at z1;simp only[Option.some.injEq,Prod.mk.injEq,List.cons.injEq,Blk.box.injEq,true_and,gB,List.append_cancel_left_eq,List.append_cancel_right_eq]at z1;rw[AG9 z1.1 z1.2]
theorem ACA {w:World} {m:Mem} {φ:Pl} {st:Store} {id ix:Nat} {es:List (List IV)} {row:List IV} {x:Value} (hi:Inv w m φ st) (hr:Rep m φ (.ownE id 5 ix 0) x) (hs:st id=some (.tre 5 es)) (hq:es[ix]?=some row) (hp:lH row=true):IRep (dX w) (.iref row) x:=by
 cases hr with
 | @ownE _ _ _ _ b n e =>
  obtain⟨-,hok⟩:=bS hi e hs
  cases hok with
  | @tre T k _ vs F hh hlen hk hw hu hfit hnd hF hm hone =>
   have hil:=(zW.1 hq).1;obtain⟨f1,f2⟩:=IC hw ix;obtain⟨F1,Fr,rfl,u1,ur⟩:=hu.split (5*ix);obtain⟨F2,F3,rfl,u2,u3⟩:=ur.split 5;rw[f2]at u2
   have hdr:es.drop ix=row::es.drop (ix+1):=by
    obtain⟨h,h'⟩:=zW.1 hq;rw[← h'];exact yJ h
   have hq5:row.length=5:=hw _ (zT hq);rw[hdr,zF,← hq5,xY]at u2;rw[hq5]at u2
   have e2:((vs.take (5*es.length)).drop (5*ix)).take 5=(vs.drop (5*ix)).take 5:=by
    rw[xN,zD];congr 1;omega
   rw[e2]at u2;have t2:=u2.pure hp;refine .iref (IAt.mk _ t2.toI fun j v hj=>?_);show w.cell? ⟨b,5*ix+0+j,none⟩=some v;rw[bT hh,yE];rw[zH]at hj;split at hj
   ·rw[yM]at hj;exact hj
   ·cases hj
def MX (call:dB) (g g1:FuncId) (args:List AV) (st:StL):Option (AV×StL) :=
 match args with
 | [.ownE id k ix 0, .fn (.func f) []]=>tst (f == g1 && k == 5) (match aV st id with
  | some (.tre k' es)=>if k'=5 then
   match es[ix]? with
   | some row=>if lH row=true then VD call g [.i (.iref row), .fn (.func g1) []] st else none
   | none=>none
   else none
  | _=>none)
 | _=>none
theorem DU {C:Ctx} {call:dB} (hcall:CallOk C call) {g g1:FuncId} {args:List AV} {stl stl':StL} {r:AV} (h:MX call g g1 args stl=some (r,stl')) (hy:g≠sW:=by decide) :
 (∃ fn,C.P.funcs[g]?=some fn∧fn.name≠ "runtime.NumGoroutine"∧fn.body.isSome=true)∧∀ (w:World) (m:Mem) (φ:Pl) (vs:List Value),Inv w m φ (aV stl)→RepL m φ args vs→(∀ id,φ id≠none→id<stl.length) →
  Calls C.P g vs.toArray w (bR w m φ r stl'):=by
 unfold MX at h;split at h
 ·rename_i id k ix f;obtain⟨h3,h2⟩:=aR.1 h;simp only[zU,beq_iff_eq]at h3;obtain⟨rfl,rfl⟩:=h3;split at h2
  ·rename_i k' es hs;split at h2
   ·rename_i hk;subst hk;split at h2
    ·rename_i row hq;split at h2
     ·rename_i hp;refine sD hcall (us:=[.i (.iref row), .fn (.func f) []]) (fun w m φ vs hi hr=>?_) h2 hy
      cases hr with
      | cons ra rb =>
      cases rb with
      | cons rf rn =>
      cases rn
      cases rf with
      | fn rz =>
      cases rz
      exact .cons (.i (ACA hi ra hs hq hp)) (.cons (.fn .nil) .nil)
     ·cases h2
    ·cases h2
   ·cases h2
  ·cases h2
 ·cases h
theorem RU {call:dB} {g g1:FuncId} {es:List (List IV)} {ix:Nat} {row:List IV} {r:AV} {stl:StL} (hq:es[ix]?=some row) (hp:lH row=true) (h:call g [.i (.iref row), .fn (.func g1) []] []=some (r,stl)) (hm:mfA r=true) (hs:ABG stl=true):MX call g g1 [.ownE 0 5 ix 0, .fn (.func g1) []] [some (.tre 5 es)]=some (ren (fun j=>some (j+1)) r,some (.tre 5 es)::jC 1 stl):=by
 unfold MX;simp only[beq_self_eq_true,Bool.and_self,tst,if_true,aV,hq,hp];unfold VD;simp[h,bnd,hm,hs,tst]
def trB (l:List Ex):Blk:=if l=[]then .arr 5 []else .tre 5 (Ex.aA l)
@[simp] theorem AN9 (r:Nat→Option Nat) (l:List Ex):uM r (some (trB l))=some (trB l):=by unfold trB;split<;>rfl
@[simp] theorem AJB (l:List Ex):gG (some (trB l))=[]:=by unfold trB;split<;>rfl
@[simp] theorem AOX (l:List Ex):mfB (some (trB l))=true:=by
  unfold trB;split
  ·rfl
  ·simp[mfB]
@[simp] theorem AO3 (l:List Ex):rM 5 0 l.length (some (trB l))=some (Ex.aA l):=by
  unfold trB;split
  ·rename_i h;subst h;simp[rM,Ex.aA,fI]
  ·simp[rM]
theorem AFU {l:List Ex} (h:l≠[]):trB l=.tre 5 (Ex.aA l):=by simp[trB,h]
def tXx (e:Ex) (j:Nat):AV:=.agg [.int e.kind, .int e.col, .bool e.val.null, .int e.val.n, .osl j 5 0 e.kids.length]
def rsX (x:Ex) (st:StL):AV×StL:=if x.kids=[]then(.i (.agg x.cells),st)else(tXx x st.length,st++[some (trB x.kids)])
theorem JC {x:Ex} (h:x.kids=[]) (st:StL):rsX x st=(.i (.agg x.cells),st):=by simp[rsX,h]
theorem JB {x:Ex} (h:x.kids≠[]) (st:StL):rsX x st=(tXx x st.length,st++[some (trB x.kids)]):=by simp[rsX,h]
theorem AK8 (k c:Int) (v:Val) (ks:List Ex) (j:Nat):tXx (Ex.mk k c v ks) j=.agg [.int k, .int c, .bool v.null, .int v.n, .osl j 5 0 ks.length]:=(rfl)
end Go.Av
namespace Go.Proofs.YtmcjmafajkeecaaDoor.P
open Go Go.Av
set_option maxRecDepth 4000
set_option maxHeartbeats 4000000
noncomputable def YW:FuncId→Option (List AV→StL→Option (AV×StL))
 | 1000000007=>none
 | 27=>none
 | g=>some (aH C0 g)
def ND:FuncId→Bool
 | 27=>true
 | g=>keepR g
noncomputable def CTr:Ctx:={ P:=Tryd.prog,G:=GS,ownArgs:=dU,keepRes:=ND,eqT:=wU,prim:=YW,tree:=true }
@[simp] theorem ASW:CTr.P=Tryd.prog:=(rfl)
@[simp] theorem ASX (f):CTr.G f=GS f:=(rfl)
@[simp] theorem AST (f):CTr.ownArgs f=dU f:=(rfl)
@[simp] theorem ASU (f):CTr.keepRes f=ND f:=(rfl)
@[simp] theorem ASV (f):CTr.eqT f=wU f:=(rfl)
@[simp] theorem ASS:CTr.tree=true:=(rfl)
@[simp] theorem AWG:ND 27=true:=(rfl)
@[simp] theorem AbU (args:List AV) (st:StL):aH CTr 28 args st=aH C0 28 args st:=aP (C:=CTr) rfl args st
theorem AGK:PrimOk CTr:=by
 have h0:=aZ pE
 have key:∀ g q,CTr.prim g=some q→g≠sW∧q=aH C0 g:=by
  intro g q h;have h:YW g=some q:=h;unfold YW at h;split at h
  all_goals first
   | (cases h;done)
   | (injection h with h;subst h;exact⟨by assumption,rfl⟩)
 constructor
 ·intro g args st p h;unfold bN at h
  cases hq:CTr.prim g with
  | none=>rw[hq]at h;cases h
  | some q =>
   rw[hq]at h;obtain⟨hy,rfl⟩:=key g q hq;exact h0.name _ _ _ _ hy h
 ·intro g args st r st' h w m φ vs hi hr hb;unfold bN at h
  cases hq:CTr.prim g with
  | none=>rw[hq]at h;cases h
  | some q =>
   rw[hq]at h;obtain⟨hy,rfl⟩:=key g q hq;exact h0.calls _ _ _ _ _ hy h w m φ vs hi hr hb
theorem AG6:SoundOk CTr:=iJ (C:=CTr) ft nt eqS mo AGK
def hfT (l:List Ex) (n:Nat):Nat→Blk
 | 0=>.arr 5 (List.replicate n KP)
 | i+1=>.tre 5 (Ex.aA (l.take (i+1))++List.replicate (n-(i+1)) KP)
theorem AHQ {l:List Ex} {n:Nat} (h:l.length=n):hfT l n n=trB l:=by
 subst h
 cases hl:l.length with
 | zero=>have:=zZ.1 hl;subst this;simp[hfT,trB]
 | succ n =>
  have hT:l.take (n+1)=l:=zY (by omega);have hne:l≠[]:=fun h=>by subst h;simp at hl
  simp[hfT,AFU hne,hT]
@[simp] theorem ANA (r:Nat→Option Nat) (l:List Ex) (n:Nat):∀ i,uM r (some (hfT l n i))=some (hfT l n i)
  | 0=>rfl
  | _+1=>rfl
@[simp] theorem AJC (l:List Ex) (n:Nat):∀ i,gG (some (hfT l n i))=[]
  | 0=>rfl
  | _+1=>rfl
theorem AHP {l:List Ex} {n i:Nat} {a:Ex} (ha:l[i]?=some a) (hn:i<n) (id:Nat) (st:Store) :
 dR id 5 i 0 a.cells st (some (hfT l n i))=some (upd st id (some (hfT l n (i+1)))):=by
 have hil:=(zW.1 ha).1;have hS:Ex.aA (l.take i)++[a.cells]=Ex.aA (l.take (i+1)):=by rw[aM ha,Ex.bB]
 have hD:(Ex.aA (l.take i)).length=i:=by simp;omega
 have g1:=BC (n:=n) (z:=KP) hD hn;have g2:=BB (n:=n) (z:=KP) (x:=a.cells) hD hn;have g3:splice KP 0 a.cells=some a.cells:=iP (by simp[KP,Ex.aB]);have g4:splice (jW KP) 0 a.cells=some a.cells:=iP (by simp[KP,jW,Ex.aB]);rw[hS]at g2;have hl:AL a.cells=false:=by rw[Ex.aB];simp[AL,ACX]
 cases i with
 | zero =>
  simp[Ex.aA]at g1 g2;simp[hfT,g1,g3,g4,hl,g2,show kN KP=true by simp[KP]]
 | succ i=>simp[hfT,g1,g2,g3]
def RTr (e:Ex) (i:Nat):AS :=
 { env:=[(0, .i (.iref [.int e.kind, .int e.col, .bool e.val.null, .int e.val.n, .isl (Ex.aA e.kids)])),(1, .fn (.func 28) []),(4, .own 0 0),(5, .own 1 0),(6,jk i (.int (i-1))),(12, .bool ((e.kids.length:Int) == 0)),(39, .int e.kids.length),(40, .int i),(41,jk i (.bool true))],
   st:=[some (.box [.int 0, .int 0, .bool false, .int 0, .nils]),some (.box [.int e.kind, .int e.col, .bool e.val.null, .int e.val.n, .osl 2 5 0 e.kids.length]),some (hfT (e.kids.map Ex.shp) e.kids.length i)] }
theorem UT {e:Ex} (hk:e.kids≠[]) (hl:e.kids.length<1000000000) (ih:∀ a∈e.kids,aH CTr 27 [.i (.iref a.cells), .fn (.func 28) []] []=some (rsX a.shp [])) :
 aH CTr 27 [.i (.iref e.cells), .fn (.func 28) []] []=some (rsX (Ex.mk e.kind e.col e.val (e.kids.map Ex.shp)) []):=by
 rw[aF rfl Tryd.func27 rfl rfl,Ex.aB];have hb:56*(e.kids.length:Int)≤281474976710656:=by omega
 rw[JB (by simpa using hk)];simp[hk,hb];rw[aU (RTr e) e.kids.length (by simp[RTr,hfT,KP])]
 ·rw[aD];simp[RTr,AHQ (l:=e.kids.map Ex.shp) (n:=e.kids.length) (by simp),AK8]
 ·intro i hi;have h3:=zX hi;have hm:=zT h3;have hc:=ih _ hm;have r2:=Ex.aS h3;have hput:=AHP (l:=e.kids.map Ex.shp) (n:=e.kids.length) (i:=i) (a:=Ex.shp e.kids[i]) (by simp[h3]) hi;generalize e.kids[i]=a at h3 hc r2 hput;have w2:IntKind.i64.wrap ((i:Int)+1)=i+1:=wrO;rw[Ex.aB]at r2 hc;generalize a.shp=x at hc hput;by_cases hx:x.kids=[]
  ·rw[JC hx]at hc;simp only[Ex.aB,hx,Ex.aA]at hput hc;simp[RTr,hi,r2,hc,w2,hput]
  ·rw[JB hx]at hc;simp only[Ex.aB]at hput;simp at hc;simp[RTr,hi,r2,hc,tXx,w2,hput]
theorem H6 {e x:Ex} (hk:e.kids=[]) (hx:x.kids=[]) (h:aH C0 28 [.i (.iref e.cells)] []=some (.i (.agg x.cells),[])) :
 aH CTr 27 [.i (.iref e.cells), .fn (.func 28) []] []=some (rsX x []):=by
 rw[aF rfl Tryd.func27 rfl rfl,JC hx];rw[Ex.aB e]at h ⊢;rw[Ex.aB x]at h ⊢;simp[hk,Ex.aA]at h ⊢;simp[h]
theorem ACD {w:Int}:∀ (n:Nat) (e:Ex),e.vB w n=true→aH CTr 27 [.i (.iref e.cells), .fn (.func 28) []] []=some (rsX e.shp []):=by
 have leaf:∀ e:Ex,e.kids=[]→e.headOk w=true→aH CTr 27 [.i (.iref e.cells), .fn (.func 28) []] []=some (rsX e.shp []):=by
  intro e hk hd;by_cases h2:e.kind=2
  ·rw[Ex.fC,if_pos h2];exact H6 hk rfl (AAI h2)
  ·have hv:e.val=⟨false,0⟩:=by
    rcases Ex.nA w e with hf|⟨-,hc|hc|hc⟩
    ·rw[hf]at hd;cases hd
    ·obtain⟨c1,c2,c3,c4,c5,c6⟩:=hc
     cases hq:e.val;rw[hq]at c4 c5;simp at c4 c5;simp[c4,c5]
    ·exact absurd hc.1 h2
    ·obtain⟨c1,c2,c3,c4,c5,c6⟩:=hc
     cases hq:e.val;rw[hq]at c4 c5;simp at c4 c5;simp[c4,c5]
   rw[Ex.AC7 hk h2 hv];refine H6 hk hk (AI6 h2 ?_);obtain⟨k,c,v,ks⟩:=e;simp only[Ex.ZT]at hk;subst hk;rw[Ex.size_eq];simp[Ex.aX]
 intro n
 induction n with
 | zero =>
  intro e h;simp only[Ex.vB,zU,zL]at h;obtain⟨h1,h2,h3⟩:=h;exact leaf e (zZ.1 (by omega)) h3
 | succ n ih =>
  intro e h;simp only[Ex.vB,zU,zL]at h;obtain⟨h1,h3,h4⟩:=h;by_cases hk:e.kids=[]
  ·exact leaf e hk h3
  ·have hk0:e.kids.length≠0:=fun h=>hk (zZ.1 h)
   have hk2:e.kids.length≤2:=by
    unfold bQ at h1;split at h1
    ·omega
    ·split at h1
     ·omega
     ·split at h1<;>omega
   rcases Ex.nA w e with hf|⟨-,hc|hc|hc⟩
   ·rw[hf]at h3;cases h3
   ·omega
   ·omega
   ·obtain⟨c1,c2,c3,c4,c5,c6⟩:=hc
    have hv:e.val=⟨false,0⟩:=by
     cases hq:e.val;rw[hq]at c4 c5;simp at c4 c5;simp[c4,c5]
    rw[Ex.YI c2 hv];exact UT hk (by omega) fun a ha=>ih a (zJ.1 h4 a ha)
theorem ACE {w:Int} {e:Ex} (h:e.ok w=true):aH CTr 27 [.i (.iref e.cells), .fn (.func 28) []] []=some (rsX e.shp []):=by
 unfold Ex.ok at h;simp only[zU]at h;exact ACD 8 e h.2
noncomputable def AGN (pe:List AV→StL→Option (AV×StL)):FuncId→Option (List AV→StL→Option (AV×StL))
 | 1000000007=>none
 | 26=>none
 | 27=>some (MX (aH CTr) 27 28)
 | 25=>some pe
 | g=>some (aH C0 g)
def AL6:FuncId→Bool
 | 27=>true
 | g=>dU g
noncomputable def mkK (pe:List AV→StL→Option (AV×StL)):Ctx:={ P:=Tryd.prog,G:=GS,ownArgs:=AL6,keepRes:=ND,eqT:=wU,prim:=AGN pe,tree:=true }
section
variable (pe:List AV→StL→Option (AV×StL))
@[simp] theorem AS5:(mkK pe).P=Tryd.prog:=(rfl)
@[simp] theorem AS6 (f):(mkK pe).G f=GS f:=(rfl)
@[simp] theorem AS2 (f):(mkK pe).ownArgs f=AL6 f:=(rfl)
@[simp] theorem AS3 (f):(mkK pe).keepRes f=ND f:=(rfl)
@[simp] theorem AS4 (f):(mkK pe).eqT f=wU f:=(rfl)
@[simp] theorem AS1:(mkK pe).tree=true:=(rfl)
@[simp] theorem AOW (args:List AV) (st:StL):aH (mkK pe) 27 args st=MX (aH CTr) 27 28 args st:=aP (C:=mkK pe) rfl args st
@[simp] theorem ANL (args:List AV) (st:StL):aH (mkK pe) 25 args st=pe args st:=aP (C:=mkK pe) rfl args st
end
@[simp] theorem ANB:AL6 27=true:=(rfl)
@[simp] theorem AL5:AL6 25=true:=(rfl)
@[simp] theorem AOL:AL6 26=true:=(rfl)
def AB7 (pe:List AV→StL→Option (AV×StL)):Prop:=∀ args st r st',pe args st=some (r,st')→∀ (w:World) (m:Mem) (φ:Pl) (vs:List Value),Inv w m φ (aV st)→RepL m φ args vs→(∀ id,φ id≠none→id<st.length)→Calls Tryd.prog 25 vs.toArray w (bR w m φ r st')
theorem AA8:∃ fn,Tryd.prog.funcs[25]?=some fn∧fn.name≠ "runtime.NumGoroutine"∧fn.body.isSome=true:=⟨_,Tryd.func25,by decide,rfl⟩
theorem AL3 {pe:List AV→StL→Option (AV×StL)} (hpe:AB7 pe):PrimOk (mkK pe):=by
 have h0:=aZ pE;have hT:=aZ AG6
 have key:∀ g q,(mkK pe).prim g=some q→(g≠sW∧q=aH C0 g)∨(g=27∧q=MX (aH CTr) 27 28)∨(g=25∧q=pe):=by
  intro g q h;have h:AGN pe g=some q:=h;unfold AGN at h;split at h
  all_goals first
   | (cases h;done)
   | (injection h with h;subst h;exact .inr (.inl ⟨rfl,rfl⟩))
   | (injection h with h;subst h;exact .inr (.inr ⟨rfl,rfl⟩))
   | (injection h with h;subst h;exact .inl ⟨by assumption,rfl⟩)
 constructor
 ·intro g args st p h;unfold bN at h
  cases hq:(mkK pe).prim g with
  | none=>rw[hq]at h;cases h
  | some q =>
   rw[hq]at h
   rcases key g q hq with ⟨hy,rfl⟩|⟨rfl,rfl⟩|⟨rfl,rfl⟩
   ·exact h0.name _ _ _ _ hy h
   ·exact(DU hT (r:=p.1) (stl':=p.2) h).1
   ·exact AA8
 ·intro g args st r st' h w m φ vs hi hr hb;unfold bN at h
  cases hq:(mkK pe).prim g with
  | none=>rw[hq]at h;cases h
  | some q =>
   rw[hq]at h
   rcases key g q hq with ⟨hy,rfl⟩|⟨rfl,rfl⟩|⟨rfl,rfl⟩
   ·exact h0.calls _ _ _ _ _ hy h w m φ vs hi hr hb
   ·exact(DU hT h).2 w m φ vs hi hr hb
   ·exact hpe _ _ _ _ h w m φ vs hi hr hb
theorem AEW {pe:List AV→StL→Option (AV×StL)} (hpe:AB7 pe):SoundOk (mkK pe):=iJ (C:=mkK pe) ft nt eqS mo (AL3 hpe)
noncomputable def peN:Nat→List AV→StL→Option (AV×StL)
 | 0=>fun _ _=>none
 | n+1=>VY (lT (mkK (peN n)) false 25) 26
theorem AEY:∀ n,AB7 (peN n)
 | 0=>fun _ _ _ _ h=>by cases h
 | n+1=>fun args st r st' h w m φ vs hi hr hb=>by
  have hs:=AEW (AEY n);exact VV (P:=Tryd.prog) (fun a s r' s' h'=>(gT hs h').2) h w m φ vs hi hr hb
end Go.Proofs.YtmcjmafajkeecaaDoor.P
namespace Go.Av
def rqG (z:AV) (q:Pn) (j:Nat):List AV :=
 [.int q.kind, .int q.table,if q.exprs=[]then z else .osl j 5 0 q.exprs.length,if q.cols=[]then z else .osl (if q.exprs=[]then j else j+1) 1 0 q.cols.length,if q.kids=[]then z else .osl (if q.exprs=[]then(if q.cols=[]then j else j+1)else(if q.cols=[]then j+1 else j+2)) 5 0 q.kids.length]
theorem BF {pre:List Value} {row:List AV} {post:List Value} {k:Nat} (h:k<row.length):(gB pre row post)[pre.length+k]?=row[k]?:=by
 unfold gB;rw[zA (by simp[dO]),yV (by simpa [dO]using h)];simp[dO]
def Pn.XF (q:Pn):Pn:=.mk q.kind q.table (q.exprs.map Ex.shp) q.cols q.kids
theorem lJ (pre post:List Value) (row:List AV):aY (gB pre row post)=aY row:=by simp[gB,I9,sG]
theorem lG (r:Nat→Option Nat) (pre post:List Value) (row:List AV):uL r (gB pre row post)=gB pre (uL r row) post:=by simp[gB,RA,uT]
theorem NI {α:Type}:∀ {cs:List α} {i:Nat} {z:α},cs[i]?=some z→mO 1 (dropE i cs)=some [z]
 | [],i,z,h=>by simp at h
 | c::cs,0,z,h=>by simp at h;subst h;simp[dropE,mO]
 | c::cs,i+1,z,h=>by simp at h;simpa [dropE]using NI h
end Go.Av
namespace Go.Proofs.YtmcjmafajkeecaaDoor.P
open Go Go.Av
set_option maxRecDepth 4000
set_option maxHeartbeats 4000000
theorem ADN {pe:List AV→StL→Option (AV×StL)} {z:AV} (hz:z=.nils∨z=.i (.isl [])) {q:Pn} (he:q.exprs=[]) (pre post:List Value):aH (mkK pe) 26 [.own 0 pre.length] (some (.box (gB pre (rqG z q 1) post))::rqB q)=some (.tup [],some (.box (gB pre (rqG z q 1) post))::rqB q):=by
 have h3:mO 1 (dropE (pre.length+2) (gB pre (rqG z q 1) post))=some [z]:=NI (by rw[BF (by simp[rqG])];simp[rqG,he]);rw[aF rfl Tryd.func26 rfl rfl]
 rcases hz with rfl|rfl
 ·simp[h3];rw[aD];by_cases h1:q.cols=[]<;>by_cases h2:q.kids=[]<;>simp[rqG,rqB,he,h1,h2]at h3 ⊢<;>simp[h3,lJ,lG]
 ·simp[h3];rw[aD];by_cases h1:q.cols=[]<;>by_cases h2:q.kids=[]<;>simp[rqG,rqB,he,h1,h2]at h3 ⊢<;>simp[h3,lJ,lG]
theorem ZF {l:List Ex} {i:Nat} {a:Ex} (h:l[i]?=some a):(FB l i)[i]?=some a.cells:=by
 have hl:=(zW.1 h).1
 have hn:∀ (es:List Ex) (j:Nat) (b:Ex),es[j]?=some b→(Ex.aA es)[j]?=some b.cells:=by
  intro es
  induction es with
  | nil=>intro j b h;simp at h
  | cons c es ih =>
   intro j b h
   cases j with
   | zero=>simp at h;subst h;simp[Ex.aA]
   | succ j=>simp at h;simpa [Ex.aA]using ih j b h
 unfold FB;apply hn;rw[zA (by simp;omega),nD h];simp;rw[show i-min i l.length=0 by omega];rfl
theorem ACQ {l:List Ex} {i:Nat} {a:Ex} (h:l[i]?=some a) (id:Nat) (st:Store):dR id 5 i 0 a.shp.cells st (some (.tre 5 (FB l i)))=some (upd st id (some (.tre 5 (FB l (i+1))))):=by
 have g1:=JR h;have g2:=JQ h;have g3:splice a.cells 0 a.shp.cells=some a.shp.cells:=iP (by simp[Ex.aB]);simp[g1,g2,g3]
theorem AKO {l:List Ex} {i:Nat} {a:Ex} {w:Int} (h:l[i]?=some a) (ho:a.ok w=true):MX (aH CTr) 27 28 [.ownE 0 5 i 0, .fn (.func 28) []] [some (.tre 5 (FB l i))]=some (rsX a.shp [some (.tre 5 (FB l i))]):=by
 have h1:=ACE ho;by_cases hx:a.shp.kids=[]
 ·rw[JC hx]at h1 ⊢;rw[RU (ZF h) (by rw[Ex.aB];rfl) h1 (by rw[Ex.aB,hx];rfl) rfl];rfl
 ·rw[JB hx]at h1 ⊢;rw[RU (ZF h) (by rw[Ex.aB];rfl) h1 (by rfl) (by simp[ABG])];simp[tXx,jC,ren]
def SK1 (z:AV) (q:Pn) (pre post:List Value) (R:StL) (i:Nat):AS :=
 { env:=[(0, .own 0 pre.length),(2,jk i (.int (i-1))),(7, .int q.exprs.length),(8, .int i),(9,jk i (.bool true))],
   st:=some (.box (gB pre (rqG z q 1) post))::some (.tre 5 (FB q.exprs i))::R }
theorem ADM {pe:List AV→StL→Option (AV×StL)} {z:AV} (hz:z=.nils∨z=.i (.isl [])) {q:Pn} (he:q.exprs≠[]) (hl:q.exprs.length<1000000000) (ho:∀ e∈q.exprs,∃ w,e.ok w=true) (pre post:List Value):aH (mkK pe) 26 [.own 0 pre.length] (some (.box (gB pre (rqG z q 1) post))::rqB q)=some (.tup [],some (.box (gB pre (rqG z q 1) post))::rqB q.XF):=by
 have h3:mO 1 (dropE (pre.length+2) (gB pre (rqG z q 1) post))=some [.osl 1 5 0 q.exprs.length]:=NI (by rw[BF (by simp[rqG])];simp[rqG,he]);have he1:(q.exprs.map Ex.shp)≠[]:=by simpa using he
 obtain⟨R,hR,hR1⟩:∃ R,rqB q=some (.tre 5 (Ex.aA q.exprs))::R∧rqB q.XF=some (.tre 5 (Ex.aA (q.exprs.map Ex.shp)))::R:=by
  refine⟨(if q.cols=[]then []else [some (.arr 1 (aI q.cols))])++(if q.kids=[]then []else [some (.tre 5 (Pn.aA q.kids))]),by simp[rqB,he],?_⟩;by_cases h1:q.cols=[]<;>by_cases h2:q.kids=[]<;>simp[rqB,Pn.XF,he,h1,h2]
 have hRR:R=(if q.cols=[]then []else [some (.arr 1 (aI q.cols))])++(if q.kids=[]then []else [some (.tre 5 (Pn.aA q.kids))]):=by
  simp[rqB,he]at hR;exact hR.symm
 rw[hR,hR1]
 by_cases h1:q.cols=[]<;>by_cases h2:q.kids=[]<;>rcases hz with hz|hz<;>(
  simp only[h1,h2,if_true,if_false,yO,yT,yY]at hRR;rw[aF rfl Tryd.func26 rfl rfl];simp only[rqG,he,h1,h2,hz,hRR,if_true,if_false]at h3 ⊢;simp[h3,lJ,lG];rw[aU (SK1 z q pre post R) q.exprs.length (by simp[SK1,pK,rqG,he,h1,h2,hz,hRR])]
  ·rw[aD];simp only[SK1,gY,rqG,he,h1,h2,hz,hRR,if_true,if_false];simp[h3,lJ,lG]
  ·intro i hi;have h4:=zX hi;have hm:=zT h4;obtain⟨w,hw⟩:=ho _ hm;have hc:=AKO h4 hw;have hput:=ACQ h4;have hlen:=ACR q.exprs i;generalize q.exprs[i]=a at h4 hm hw hc hput;have w2:IntKind.i64.wrap ((i:Int)+1)=i+1:=wrO;generalize a.shp=x at hc hput;simp only[SK1,rqG,he,h1,h2,hz,hRR,if_true,if_false];by_cases hx:x.kids=[]
   ·rw[JC hx]at hc;simp only[Ex.aB,hx,Ex.aA]at hput hc;simp[hi,h3,hc,w2,hput,lJ,lG]
   ·rw[JB hx]at hc;simp only[Ex.aB]at hput
    simp[hi,h3,hc,tXx,w2,hput,lJ,lG])
theorem AGV {l:List Pn} {i:Nat} {a:Pn} (h:l[i]?=some a):(KN l i)[i]?=some a.cells:=by
 have hl:=(zW.1 h).1
 have hn:∀ (es:List Pn) (j:Nat) (b:Pn),es[j]?=some b→(Pn.aA es)[j]?=some b.cells:=by
  intro es
  induction es with
  | nil=>intro j b h;simp at h
  | cons c es ih =>
   intro j b h
   cases j with
   | zero=>simp at h;subst h;simp[Pn.aA]
   | succ j=>simp at h;simpa [Pn.aA]using ih j b h
 unfold KN;apply hn;rw[zA (by simp;omega),nD h];simp;rw[show i-min i l.length=0 by omega];rfl
theorem P6 (q:Pn):(rqB q.shp).length=(rqB q).length:=by
 rw[Pn.fC];by_cases h0:q.exprs=[]<;>by_cases h1:q.cols=[]<;>by_cases h2:q.kids=[]<;>simp[rqB,h0,h1,h2]
def X8 (n:Nat) (q:Pn):Prop:=∀ (z:AV),(z=.nils∨z=.i (.isl []))→∀ pre post:List Value,lT (mkK (peN n)) false 25 [.own 0 pre.length, .fn (.func 26) []] (some (.box (gB pre (rqG z q 1) post))::rqB q)=some (.tup [],some (.box (gB pre (rqG z q.shp 1) post))::rqB q.shp)
theorem P5 (z:AV) (q:Pn) (j:Nat):rqG z q.shp j=rqG z q j:=by
 rw[Pn.fC];obtain⟨k,t,es,cs,ks⟩:=q;by_cases h1:es=[]<;>by_cases h2:cs=[]<;>by_cases h3:ks=[]<;>simp[rqG,h1,h2,h3]
theorem ALO {n:Nat} {l:List Pn} {i:Nat} {a:Pn} (h:l[i]?=some a) (hC:X8 n a):peN (n+1) [.ownE 0 5 i 0, .fn (.func 26) []] [some (.tre 5 (KN l i))]=some (.tup [],[some (.tre 5 (KN l (i+1)))]):=by
 rw[← JP h];refine ADF (AGV h) (P6 a) fun pre post hp=>?_
 have:=hC (.i (.isl [])) (.inr rfl) pre post;rw[hp]at this;exact this
theorem AAJ {pe:List AV→StL→Option (AV×StL)} {z:AV} (hz:z=.nils∨z=.i (.isl [])) {q:Pn} (hl:q.exprs.length<1000000000) (ho:∀ e∈q.exprs,∃ w,e.ok w=true) (pre post:List Value):aH (mkK pe) 26 [.own 0 pre.length] (some (.box (gB pre (rqG z q 1) post))::rqB q)=some (.tup [],some (.box (gB pre (rqG z q 1) post))::rqB q.XF):=by
 by_cases he:q.exprs=[]
 ·rw[ADN hz he,show rqB q.XF=rqB q by simp[rqB,Pn.XF,he]]
 ·exact ADM hz he hl ho pre post
def SE1 (z:AV) (q:Pn) (pre post:List Value) (R:StL) (i:Nat):AS :=
 { env:=[(0, .own 0 pre.length),(1, .fn (.func 26) []),(4,jk i (.int (i-1))),(12, .int q.kids.length),(13, .int i),(14,jk i (.bool true))],
   st:=some (.box (gB pre (rqG z q 1) post))::(R++[some (.tre 5 (KN q.kids i))]) }
theorem NS {n:Nat} {q:Pn} (hk:q.kids=[]) (hl:q.exprs.length<1000000000) (ho:∀ e∈q.exprs,∃ w,e.ok w=true):X8 n q:=by
 intro z hz pre post;have h4:mO 1 (dropE (pre.length+4) (gB pre (rqG z q 1) post))=some [z]:=NI (by rw[BF (by simp[rqG])];simp[rqG,hk]);have hc:=AAJ (pe:=peN n) hz hl ho pre post;rw[dD Tryd.func25 rfl rfl,P5];have hE:rqB q.shp=rqB q.XF:=by rw[Pn.fC];simp[rqB,Pn.XF,hk]
 rw[hE];generalize hq1:rqB q.XF=R1 at *
 have hR1:R1=(if q.exprs=[]then []else [some (.tre 5 (Ex.aA (q.exprs.map Ex.shp)))])++(if q.cols=[]then []else [some (.arr 1 (aI q.cols))]):=by
  rw[← hq1];by_cases h0:q.exprs=[]<;>by_cases h1:q.cols=[]<;>simp[rqB,Pn.XF,h0,h1,hk]
 by_cases h0:q.exprs=[]<;>by_cases h1:q.cols=[]<;>rcases hz with hz|hz<;>(
  simp only[h0,h1,if_true,if_false,yO,yT,yY]at hR1;simp only[rqG,rqB,hk,h0,h1,hz,hR1,if_true,if_false,yO,yY,yT]at h4 hc ⊢;simp[hc,h4,lJ,lG];rw[aD]
  simp[h4,lJ,lG])
theorem AA7 {m:Nat} {q:Pn} (hk:q.kids≠[]) (hl:q.exprs.length<1000000000) (hkl:q.kids.length<1000000000) (ho:∀ e∈q.exprs,∃ w,e.ok w=true) (hC:∀ a∈q.kids,X8 m a):X8 (m+1) q:=by
 intro z hz pre post;have h4:mO 1 (dropE (pre.length+4) (gB pre (rqG z q 1) post))=some [if q.kids=[]then z else .osl (if q.exprs=[]then(if q.cols=[]then 1 else 1+1)else(if q.cols=[]then 1+1 else 1+2)) 5 0 q.kids.length]:=NI (by rw[BF (by simp[rqG])];simp[rqG]);rw[if_neg hk]at h4;have hc:=AAJ (pe:=peN (m+1)) hz hl ho pre post;rw[dD Tryd.func25 rfl rfl,P5];have hk1:q.kids.map Pn.shp≠[]:=by simpa using hk
 obtain⟨R,hR⟩:∃ R:StL,R=(if q.exprs=[]then []else [some (.tre 5 (Ex.aA (q.exprs.map Ex.shp)))])++(if q.cols=[]then []else [some (.arr 1 (aI q.cols))]):=⟨_,rfl⟩
 have hE1:rqB q.XF=R++[some (.tre 5 (Pn.aA q.kids))]:=by
  rw[hR];by_cases h0:q.exprs=[]<;>by_cases h1:q.cols=[]<;>simp[rqB,Pn.XF,h0,h1,hk]
 have hE2:rqB q.shp=R++[some (.tre 5 (Pn.aA (q.kids.map Pn.shp)))]:=by
  rw[hR,Pn.fC];by_cases h0:q.exprs=[]<;>by_cases h1:q.cols=[]<;>simp[rqB,h0,h1,hk]
 rw[hE2];rw[hE1]at hc
 by_cases h0:q.exprs=[]<;>by_cases h1:q.cols=[]<;>rcases hz with hz|hz<;>(
  simp only[h0,h1,if_true,if_false,yO,yT,yY]at hR;simp only[rqG,rqB,hk,h0,h1,hz,hR,if_true,if_false,yO,yY,yT]at h4 hc ⊢;simp[hc,h4,lJ,lG];rw[aU (SE1 z q pre post R) q.kids.length (by simp[SE1,pJ,rqG,hk,h0,h1,hz,hR])]
  ·rw[aD];simp only[SE1,uB,rqG,hk,h0,h1,hz,hR,if_true,if_false,yO,yY,yT];simp[h4,lJ,lG]
  ·intro i hi;have g4:=zX hi;have hm:=zT g4;have hkid:=ALO g4 (hC _ hm);have hlen:=ACP q.kids i;have w2:IntKind.i64.wrap ((i:Int)+1)=i+1:=wrO;simp only[SE1,rqG,hk,h0,h1,hz,hR,if_true,if_false,yO,yY,yT]
   simp[hi,h4,hkid,w2,lJ,lG])
end Go.Proofs.YtmcjmafajkeecaaDoor.P
namespace Go.Av
theorem XQ {p:Pn} {a b:Int} (hd:p.headOk=true) (h:bP p.kind p.exprs p.cols a b≠0):∀ e∈p.exprs,∃ w,e.ok w=true:=by
 unfold Pn.headOk at hd;simp only[zU,xU,zL]at hd;obtain⟨d1,d2,d3,d4⟩:=hd;have hno:p.exprs.length=0→∀ e∈p.exprs,∃ w,e.ok w=true:=fun h0 e he=>by rw[zZ.1 h0]at he;cases he
 have hal:∀ w:Int,p.exprs.all (Ex.ok w)=true→∀ e∈p.exprs,∃ w,e.ok w=true:=fun w hw e he=>⟨w,zJ.1 hw e he⟩
 unfold bP at h;split at h
 ·split at h
  ·rename_i h1 h2;exact hal _ h2.2
  ·exact absurd rfl h
 ·split at h
  ·rename_i h1 h2;refine hno ?_;rw[if_neg (by omega)]at d2;unfold dN at d2;rw[if_neg (by omega)]at d2;omega
  ·split at h
   ·rename_i h1 h2 h3;refine hno ?_;rw[if_neg (by omega)]at d2;unfold dN at d2;rw[if_neg (by omega)]at d2;omega
   ·split at h
    ·split at h
     ·rename_i h9;exact hal _ h9
     ·exact absurd rfl h
    ·split at h
     ·rename_i h9;exact hal _ h9
     ·exact absurd rfl h
end Go.Av
namespace Go.Proofs.YtmcjmafajkeecaaDoor.P
open Go Go.Av
theorem AHU {ws:List Int}:∀ (p:Pn) (n:Nat),p.wd ws n≠0→X8 n p:=by
 intro p
 induction p using Pn.ind with
 | h k t es cs ks ih =>
  intro n h;generalize hpp:Pn.mk k t es cs ks=p at *
  have hks:ks=p.kids:=by rw[← hpp];rfl
  subst hks;rw[Pn.sZ]at h;split at h
  case isFalse=>exact absurd rfl h
  rename_i hc;obtain⟨hd,hk0⟩:=hc;have he6:=Pn.kG hd;have hk2:=Pn.sI hd;by_cases h1:p.kind=1
  ·have hd':=hd;unfold Pn.headOk at hd';simp only[zU,xU,zL]at hd';obtain⟨d1,d2,d3,d4⟩:=hd'
   have hex:p.exprs=[]:=by
    rw[h1,if_neg (by omega)]at d2;exact zZ.1 (by unfold dN at d2;rw[if_neg (by omega)]at d2;omega)
   have hkd:p.kids=[]:=by
    rw[h1]at d1;exact zZ.1 (by unfold gX at d1;rw[if_pos rfl]at d1;omega)
   exact NS hkd (by omega) (by rw[hex];simp)
  ·rw[if_neg h1]at h;split at h
   case isFalse=>exact absurd rfl h
   rename_i hall;rw[zJ]at hall;have ho:=XQ hd h;by_cases hkk:p.kids=[]
   ·exact NS hkk (by omega) ho
   ·obtain⟨m,rfl⟩:∃ m,n=m+1:=by
     rcases hk0 with hk0|hk0
     ·exact absurd hk0 hkk
     ·exact⟨n-1,by omega⟩
    refine AA7 hkk (by omega) (by omega) ho fun a ha=>?_
    have:=hall a ha;simp only[zL,Nat.add_sub_cancel]at this;exact ih a ha m this
theorem VT {ws:List Int} {p:Pn} (h:p.width ws≠0):X8 8 p:=by
 unfold Pn.width at h;split at h
 ·exact AHU p 8 h
 ·exact absurd rfl h
end Go.Proofs.YtmcjmafajkeecaaDoor.P
namespace Go.Av
theorem Ex.AJZ {w:Int}:∀ (n:Nat) (e:Ex),e.vB w n=true→e.shp.vB w n=true:=by
 have hd:∀ e:Ex,e.headOk w=true→(e.kids.length:Int)=bQ e.kind→e.shp.headOk w=true∧e.shp.kind=e.kind∧e.shp.kids=e.kids.map Ex.shp:=by
  intro e h hk;rw[Ex.fC];by_cases h2:e.kind=2
  ·rw[if_pos h2];rw[h2]at hk;have:e.kids=[]:=zZ.1 (by unfold bQ at hk;rw[if_pos (by omega)]at hk;omega);exact⟨by simp[Ex.headOk,Val.ok],by simp[h2],by simp[this]⟩
  ·rw[if_neg h2];refine⟨?_,by simp,by simp⟩;unfold Ex.headOk at h ⊢;simp only[Ex.ZR,Ex.APV,Ex.AJY];by_cases h1:e.kind=1
   ·simp[h1]at h;simp[h1,h.1,h.2.1]
   ·simp[h1,h2]at h;simp[h1,h2,h.1]
 intro n
 induction n with
 | zero =>
  intro e h;simp only[Ex.vB,zU,zL]at h ⊢;obtain⟨h1,h2,h3⟩:=h;obtain⟨g1,g2,g3⟩:=hd e h3 h1;rw[g2,g3];exact⟨by simpa using h1,h2,g1⟩
 | succ n ih =>
  intro e h;simp only[Ex.vB,zU,zL]at h ⊢;obtain⟨h1,h3,h4⟩:=h;obtain⟨g1,g2,g3⟩:=hd e h3 h1;rw[g2,g3];refine⟨by simpa using h1,g1,?_⟩;rw[zJ]at h4 ⊢;intro x hx;simp at hx;obtain⟨a,ha,rfl⟩:=hx;exact ih a (h4 a ha)
theorem Ex.AL7 {w:Int} {e:Ex} (h:e.ok w=true):e.shp.ok w=true:=by
 unfold Ex.ok at h ⊢;simp only[zU]at h ⊢;exact⟨h.1,Ex.AJZ 8 e h.2⟩
theorem vQ {w:Int} {l:List Ex} (h:l.all (Ex.ok w)=true):(l.map Ex.shp).all (Ex.ok w)=true:=by
 rw[zJ]at h ⊢;intro x hx;simp at hx;obtain⟨a,ha,rfl⟩:=hx;exact Ex.AL7 (h a ha)
theorem TN {k:Int} {es:List Ex} {cs:List Int} {a b:Int} (h:bP k es cs a b≠0):bP k (es.map Ex.shp) cs a b=bP k es cs a b:=by
 unfold bP at h ⊢;split
 ·rename_i h1;rw[if_pos h1]at h;split at h
  ·rename_i h2;rw[if_pos ⟨h2.1,vQ h2.2⟩,if_pos h2]
  ·exact absurd rfl h
 ·rename_i h1;rw[if_neg h1]at h;split
  ·rfl
  ·rename_i h2;rw[if_neg h2]at h;split
   ·rfl
   ·rename_i h3;rw[if_neg h3]at h;split
    ·rename_i h4;rw[if_pos h4]at h;split at h
     ·rename_i h5;rw[if_pos (vQ h5),if_pos h5,zB6]
     ·exact absurd rfl h
    ·rename_i h4;rw[if_neg h4]at h;split at h
     ·rename_i h5;rw[if_pos (vQ h5),if_pos h5]
     ·exact absurd rfl h
theorem VJ (p:Pn):p.shp.headOk=p.headOk:=by
 rw[Pn.fC];obtain⟨k,t,es,cs,ks⟩:=p;unfold Pn.headOk;simp only[Pn.jF,Pn.eT,Pn.cK,Pn.jB,Pn.fA,zB6];rfl
theorem Pn.AJS {ws:List Int}:∀ (p:Pn) (n:Nat),p.wd ws n≠0→p.shp.wd ws n=p.wd ws n:=by
 intro p
 induction p using Pn.ind with
 | h k t es cs ks ih =>
  intro n h;generalize hpp:Pn.mk k t es cs ks=p at *
  have hks:ks=p.kids:=by rw[← hpp];rfl
  subst hks;rw[Pn.sZ]at h;rw[Pn.sZ ws n p.shp,VJ,Pn.sZ ws n p];split at h
  case isFalse=>exact absurd rfl h
  rename_i hc;rw[if_pos hc];have hsk:p.shp.kids=p.kids.map Pn.shp:=by rw[Pn.fC];simp
  have hse:p.shp.exprs=p.exprs.map Ex.shp:=by rw[Pn.fC];simp
  have hskd:p.shp.kind=p.kind:=by rw[Pn.fC];simp
  have hst:p.shp.table=p.table:=by rw[Pn.fC];simp
  have hsc:p.shp.cols=p.cols:=by rw[Pn.fC];simp
  rw[hsk,hse,hskd,hst,hsc,if_pos (by simpa using hc)];by_cases h1:p.kind=1
  ·rw[if_pos h1,if_pos h1]
  ·rw[if_neg h1]at h ⊢;rw[if_neg h1];split at h
   case isFalse=>exact absurd rfl h
   rename_i hall;rw[if_pos hall];have hall':=hall;rw[zJ]at hall'
   have hkid:∀ a∈p.kids,a.shp.wd ws (n-1)=a.wd ws (n-1):=fun a ha=>by
    have:=hall' a ha;simp only[zL]at this;exact ih a ha (n-1) this
   have hat:∀ i:Nat,(((p.kids.map Pn.shp)[i]?).map (Pn.wd ws (n-1))).getD 0=((p.kids[i]?).map (Pn.wd ws (n-1))).getD 0:=by
    intro i;rw[zA5]
    cases hi:p.kids[i]? with
    | none=>rfl
    | some a=>simp only[zA3,Option.getD_some];exact hkid a (zT hi)
   rw[if_pos,hat 0,hat 1]
   ·exact TN h
   ·rw[zJ];intro x hx;simp at hx;obtain⟨a,ha,rfl⟩:=hx;simp only[zL];rw[hkid a ha];have:=hall' a ha;simpa using this
theorem Pn.XN {ws:List Int} {p:Pn} (h:p.width ws≠0):p.shp.width ws=p.width ws:=by
 unfold Pn.width at h ⊢;split at h
 ·rename_i hw;rw[if_pos hw,if_pos hw];exact Pn.AJS p 8 h
 ·exact absurd rfl h
end Go.Av
namespace Go.Proofs.YtmcjmafajkeecaaDoor.P
open Go Go.Av
set_option maxRecDepth 4000
structure CopyA (args:List AV) (st:StL) (p:Pn):Prop where
 args:args=[.i (.iref p.cells)]
 st:st=[]
 sz:p.size<1000000000
 th:p.thin
 ti:p.tiny
noncomputable def EO (args:List AV) (st:StL):Option (AV×StL):=open Classical in if h:∃ p,CopyA args st p then some (rqA h.choose 0,rqB h.choose)else none
theorem AAC {p:Pn} (hsz:p.size<1000000000) (hth:p.thin) (hty:p.tiny):EO [.i (.iref p.cells)] []=some (rqA p 0,rqB p):=by
 have hx:∃ q,CopyA [.i (.iref p.cells)] [] q:=⟨p,rfl,rfl,hsz,hth,hty⟩
 unfold EO;rw[dif_pos hx];have hc:=hx.choose_spec.args;simp only[List.cons.injEq,AV.i.injEq,IV.iref.injEq,and_true]at hc;rw[← Pn.ER _ _ hc]
theorem NU {args:List AV} {st st':StL} {r:AV} (h:EO args st=some (r,st')) (w:World) (m:Mem) (φ:Pl) (vs:List Value) (hi:Inv w m φ (aV st)) (hr:RepL m φ args vs) (hb:∀ id,φ id≠none→id<st.length):Calls Tryd.prog 24 vs.toArray w (bR w m φ r st'):=by
 unfold EO at h;split at h
 ·rename_i hx;injection h with h;injection h with h1 h2;obtain⟨ha,hs,h3,h4,h5⟩:=hx.choose_spec;generalize hx.choose=p at *
  subst h1;subst h2;subst ha;subst hs
  have hφ:φ=fun _=>none:=by
   funext id
   cases hq:φ id with
   | none=>rfl
   | some q=>exact absurd (hb id (by rw[hq];simp)) (by simp)
  subst hφ;exact(G.qB h3 h4 h5 hi hr).mono fun e w' h'=>vS.own h'
 ·cases h
end Go.Proofs.YtmcjmafajkeecaaDoor.P
namespace Go.Av
end Go.Av
namespace Go.Proofs.YtmcjmafajkeecaaDoor.P
open Go Go.Av
set_option maxRecDepth 4000
set_option maxHeartbeats 4000000
noncomputable def AGP:FuncId→Option (List AV→StL→Option (AV×StL))
 | 1000000007=>none
 | 9=>none
 | 24=>some EO
 | 25=>some (lT (mkK (peN 8)) false 25)
 | 32=>some (AH1 (aH C0) 32)
 | g=>some (aH C0 g)
def AJ0:FuncId→Bool
 | 32=>true
 | 24=>false
 | g=>dU g
def PT:FuncId→Bool
 | 24=>true
 | g=>keepR g
noncomputable def CC:Ctx:={ P:=Tryd.prog,G:=GS,ownArgs:=AJ0,keepRes:=PT,eqT:=wU,prim:=AGP,tree:=true }
@[simp] theorem AcY:CC.P=Tryd.prog:=(rfl)
@[simp] theorem AcZ (f):CC.G f=GS f:=(rfl)
@[simp] theorem AcV (f):CC.ownArgs f=AJ0 f:=(rfl)
@[simp] theorem AcW (f):CC.keepRes f=PT f:=(rfl)
@[simp] theorem AcX (f):CC.eqT f=wU f:=(rfl)
@[simp] theorem AcU:CC.tree=true:=(rfl)
@[simp] theorem AQE:AJ0 32=true:=(rfl)
@[simp] theorem AQD:AJ0 24=false:=(rfl)
@[simp] theorem AQC:AJ0 25=true:=(rfl)
@[simp] theorem AP3:PT 24=true:=(rfl)
@[simp] theorem AQB:AJ0 23=false:=(rfl)
@[simp] theorem AP2:PT 9=false:=(rfl)
@[simp] theorem AP1:PT 23=false:=(rfl)
@[simp] theorem AP0:PT 25=false:=(rfl)
@[simp] theorem AOZ:PT 32=false:=(rfl)
@[simp] theorem Ac2 (args:List AV) (st:StL):aH CC 23 args st=aH C0 23 args st:=aP (C:=CC) rfl args st
@[simp] theorem Ac5 (args:List AV) (st:StL):aH CC 24 args st=EO args st:=aP (C:=CC) rfl args st
@[simp] theorem Ac4 (args:List AV) (st:StL):aH CC 25 args st=lT (mkK (peN 8)) false 25 args st:=aP (C:=CC) rfl args st
@[simp] theorem Ac3 (args:List AV) (st:StL):aH CC 32 args st=AH1 (aH C0) 32 args st:=aP (C:=CC) rfl args st
theorem AI4:∃ fn,Tryd.prog.funcs[24]?=some fn∧fn.name≠ "runtime.NumGoroutine"∧fn.body.isSome=true:=⟨_,Tryd.func24,by decide,rfl⟩
theorem AL4:PrimOk CC:=by
 have h0:=aZ pE;have hK:=AEW (AEY 8)
 have key:∀ g q,CC.prim g=some q→(g≠sW∧q=aH C0 g)∨(g=24∧q=EO)∨(g=25∧q=lT (mkK (peN 8)) false 25)∨(g=32∧q=AH1 (aH C0) 32):=by
  intro g q h;have h:AGP g=some q:=h;unfold AGP at h;split at h
  all_goals first
   | (cases h;done)
   | (injection h with h;subst h;exact .inr (.inl ⟨rfl,rfl⟩))
   | (injection h with h;subst h;exact .inr (.inr (.inl ⟨rfl,rfl⟩)))
   | (injection h with h;subst h;exact .inr (.inr (.inr ⟨rfl,rfl⟩)))
   | (injection h with h;subst h;exact .inl ⟨by assumption,rfl⟩)
 constructor
 ·intro g args st p h;unfold bN at h
  cases hq:CC.prim g with
  | none=>rw[hq]at h;cases h
  | some q =>
   rw[hq]at h
   rcases key g q hq with ⟨hy,rfl⟩|⟨rfl,rfl⟩|⟨rfl,rfl⟩|⟨rfl,rfl⟩
   ·exact h0.name _ _ _ _ hy h
   ·exact AI4
   ·exact AA8
   ·exact(I4 h0 (r:=p.1) (stl':=p.2) h (by decide)).1
 ·intro g args st r st' h w m φ vs hi hr hb;unfold bN at h
  cases hq:CC.prim g with
  | none=>rw[hq]at h;cases h
  | some q =>
   rw[hq]at h
   rcases key g q hq with ⟨hy,rfl⟩|⟨rfl,rfl⟩|⟨rfl,rfl⟩|⟨rfl,rfl⟩
   ·exact h0.calls _ _ _ _ _ hy h w m φ vs hi hr hb
   ·exact NU h w m φ vs hi hr hb
   ·exact(gT hK h).2 w m φ vs hi hr hb
   ·exact(I4 h0 h (by decide)).2 w m φ vs hi hr hb
theorem AEX:SoundOk CC:=iJ (C:=CC) ft nt eqS mo AL4
theorem Q8 {q:Pn} {ws:List Int} (ht:q.tx) (hl:(txP q).length<9000000) (h0:q.width ws≠0):AH1 (aH C0) 32 [rqA q 0, .i (.isl (aI ws))] (rqB q)=some (.i (.lit (.string ⟨(txP q).toArray⟩)),rqB q):=by
 unfold AH1;have h2:BO (aV (rqB q)) (.i (.isl (aI ws)))=some (.isl (aI ws)):=rfl;simp only[GI,ABT,h2,bnd,KI ht hl h0];simp[mfA,mfR,mfC,jJ,ABG,tst,ren,jC]
theorem oP {p:Pn} {ws:List Int} (hth:p.thin):aH CC 9 [.i (.agg p.cells), .i (.isl (aI ws))] []=some (.i (.lit (.string ⟨(QI p ws).toArray⟩)),[]):=by
 have c1:=wK p ws;by_cases h:p.width ws=0
 ·rw[aF rfl Tryd.func9 rfl rfl];rw[Pn.aB p]at *
  simp[c1,h,QI]
 ·obtain⟨t1,t2⟩:=Pn.QS h;obtain⟨hty,hsz⟩:=Pn.XO h;have c2:=AAC (by omega) hth hty;have c3:=VT h .nils (.inl rfl) [] [];rw[P5]at c3;have c4:=Q8 t1 t2 (by rw[Pn.XN h];exact h);have hck:QI p ws=txP p.shp:=by simp[QI,h]
  rw[hck];generalize txP p.shp=m at *
  have hS:rqB p.shp=(if p.exprs=[]then []else [some (.tre 5 (Ex.aA (p.exprs.map Ex.shp)))])++((if p.cols=[]then []else [some (.arr 1 (aI p.cols))])++(if p.kids=[]then []else [some (.tre 5 (Pn.aA (p.kids.map Pn.shp)))])):=by
   rw[Pn.fC];by_cases g0:p.exprs=[]<;>by_cases g1:p.cols=[]<;>by_cases g2:p.kids=[]<;>simp[rqB,g0,g1,g2]
  have hA:rqA p.shp 0=rqA p 0:=by
   rw[Pn.fC];by_cases g0:p.exprs=[]<;>by_cases g1:p.cols=[]<;>by_cases g2:p.kids=[]<;>simp[rqA,g0,g1,g2]
  rw[hS]at c3 c4;rw[hA]at c4;rw[aF rfl Tryd.func9 rfl rfl];rw[Pn.aB p]at c1 c2 ⊢;simp only[gB,dO,List.map_nil,yO,yY,zI]at c3
  by_cases g0:p.exprs=[]<;>by_cases g1:p.cols=[]<;>by_cases g2:p.kids=[]<;>(
   simp only[rqG,rqA,rqB,g0,g1,g2,if_true,if_false,yO,yY,yT]at c2 c3 c4 ⊢
   try simp only[g0,g1,g2]at c1 h
   simp[c1,h,c2,c3,c4])
end Go.Proofs.YtmcjmafajkeecaaDoor.P
namespace Go.Proofs.YtmcjmafajkeecaaDoor
open Go Go.Av
end Go.Proofs.YtmcjmafajkeecaaDoor
namespace Go.Av
theorem EG (P:Nat→Prop) [DecidablePred P]:∀ n:Nat,(∀ i,i<n→P i)∨∃ j,j<n∧(∀ i,i<j→P i)∧¬ P j
 | 0=>.inl fun i hi=>by omega
 | n+1=>by
  rcases EG P n with h|⟨j,h1,h2,h3⟩
  ·by_cases hn:P n
   ·exact .inl fun i hi=>by
     by_cases e:i=n
     ·subst e;exact hn
     ·exact h i (by omega)
   ·exact .inr ⟨n,by omega,h,hn⟩
  ·exact .inr ⟨j,by omega,h2,h3⟩
def dW (left:Int) (n:Nat):Int:=if(n:Int)≤left then left-n else -1
theorem OZ (l:List Ex) {i:Nat} {a:Ex} (h:l[i]?=some a):Ex.aX (l.take (i+1))=Ex.aX (l.take i)+a.size:=by
 induction l generalizing i with
 | nil=>simp at h
 | cons b l ih =>
  cases i with
  | zero=>simp at h;subst h;simp[Ex.aX]
  | succ i=>have:=ih (i:=i) (by simpa using h);simp only[yR,Ex.aX]at this ⊢;omega
theorem UF (l:List Ex) (i:Nat):Ex.aX (l.take i)≤Ex.aX l:=by
 induction l generalizing i with
 | nil=>simp[Ex.aX]
 | cons b l ih =>
  cases i with
  | zero=>simp[Ex.aX]
  | succ i=>simp only[yR,Ex.aX];have:=ih i;omega
theorem rA:∀ (l:List Ex) (i:Nat),i≤l.length→i≤Ex.aX (l.take i)
 | [],i,h=>by simp at h;subst h;simp
 | a::l,0,_=>by simp
 | a::l,i+1,h=>by
  have:=rA l i (by simpa using h);have:=Ex.nS a;simp only[yR,Ex.aX];omega
end Go.Av
namespace Go.Proofs.YtmcjmafajkeecaaDoor
open Go Go.Av
set_option maxRecDepth 4000
set_option maxHeartbeats 1000000
theorem AKB {e:Ex} {left:Int} (h:aH C0 15 [.i (.isl (Ex.aA e.kids)), .int left] []=some (.int (dW left (Ex.aX e.kids)),[])) :
 aH C0 37 [.i (.agg e.cells), .int left] []=some (.int (dW left (Ex.aX e.kids)),[]):=by
 rw[aF rfl Tryd.func37 rfl rfl,Ex.aB];simp[h];by_cases h0:dW left (Ex.aX e.kids)<0
 ·have:dW left (Ex.aX e.kids)=-1:=by unfold dW at h0 ⊢;split<;>rename_i hc<;>simp[hc]at h0 ⊢;omega
  simp[h0,this]
 ·simp[h0]
def szI (l:List Ex) (left:Int) (i:Nat):Int:=left-l.length-(Ex.aX (l.take i)-i)
def SZ (l:List Ex) (left:Int) (i:Nat):AS :=
 { env:=[(0, .i (.isl (Ex.aA l))),(1, .int (szI l left i)),(4, .int 0),(5, .int i),(11, .bool false),(15,jk i (.bool true)),(25,jk i (.bool false))],st:=[] }
theorem QV {l:List Ex} {left:Int} (h0:0≤left) (h1:left<1000000000) (hl:l.length<9223372036854775808)
 (ih:∀ a∈l,∀ left:Int,0≤left→left<1000000000→aH C0 37 [.i (.agg a.cells), .int left] []=some (.int (dW left (Ex.aX a.kids)),[])) :
 aH C0 15 [.i (.isl (Ex.aA l)), .int left] []=some (.int (dW left (Ex.aX l)),[]):=by
 rw[aF rfl Tryd.func15 rfl rfl];have w1:IntKind.i64.wrap (left-l.length)=left-l.length:=wrO;have hsl:=Ex.eF l;by_cases hc:left-l.length<0
 ·have:¬ ((Ex.aX l:Nat):Int)≤left:=by omega
  simp[w1,hc,dW,this]
 simp[w1,hc]
 have hpre:∀ i,i<l.length→∃ a,l[i]?=some a∧a∈l∧Ex.aX (l.take (i+1))=Ex.aX (l.take i)+(1+Ex.aX a.kids)∧gW (Ex.aA l) i=some a.cells:=by
  intro i hi;have h3:=zX hi;refine⟨_,h3,zT h3,?_,Ex.aS h3⟩;rw[OZ l h3,Ex.size_eq]
 have hround:∀ i,i<l.length→0≤szI l left i→∃ a:Ex,gW (Ex.aA l) i=some a.cells∧aH C0 37 [.i (.agg a.cells), .int (szI l left i)] []=some (.int (if 0≤szI l left (i+1)then szI l left (i+1)else -1),[]):=by
  intro i hi hs;obtain⟨a,h3,hm,hz,hn⟩:=hpre i hi;have hti:=rA l i (by omega);refine⟨a,hn,?_⟩;rw[ih a hm _ hs (by unfold szI;omega)];congr 2;unfold dW;congr 1;by_cases hle:((Ex.aX a.kids:Nat):Int)≤szI l left i
  ·rw[if_pos hle,if_pos (by unfold szI at hle ⊢;omega)];unfold szI;omega
  ·rw[if_neg hle,if_neg (by unfold szI at hle ⊢;omega)]
 rcases EG (fun i=>0≤szI l left (i+1)) l.length with hall|⟨j,hj,hlt,hbad⟩
 ·rw[aU (SZ l left) l.length (by simp[SZ,szI,Ex.aX])]
  ·rw[aD]
   have hfin:dW left (Ex.aX l)=szI l left l.length:=by
    have hT:l.take l.length=l:=zY (by simp)
    have hge:0≤szI l left l.length:=by
     cases hn:l.length with
     | zero=>unfold szI;rw[hn];simp[Ex.aX];omega
     | succ n=>exact hn ▸ hall n (by omega)
    unfold dW;unfold szI at hge ⊢;rw[hT]at hge ⊢;rw[if_pos (by omega)];omega
   rw[hfin];simp[SZ]
  ·intro i hi
   have hs:0≤szI l left i:=by
    cases i with
    | zero=>unfold szI;simp[Ex.aX];omega
    | succ i=>exact hall i (by omega)
   obtain⟨a,hn,hc⟩:=hround i hi hs;have hs1:=hall i hi;have hs1:0≤szI l left (i+1):=hs1;rw[if_pos hs1]at hc;have w2:IntKind.i64.wrap ((i:Int)+1)=i+1:=wrO;rw[Ex.aB]at hn hc;simp[SZ,hi,hn,hc,w2,show ¬ szI l left (i+1)<0 by omega]
 ·have hsl2:dW left (Ex.aX l)=-1:=by
   have hm:=UF l (j+1);have hbad:¬ 0≤szI l left (j+1):=hbad;obtain⟨a,h3,_,_,_⟩:=hpre j hj
   have hrest:Ex.aX (l.take (j+1))+(l.length-(j+1))≤Ex.aX l:=by
    have e1:Ex.aX l=Ex.aX (l.take (j+1))+Ex.aX (l.drop (j+1)):=by
     have key:∀ (n:Nat) (l:List Ex),Ex.aX l=Ex.aX (l.take n)+Ex.aX (l.drop n):=by
      intro n
      induction n with
      | zero=>intro l;simp[Ex.aX]
      | succ n ih=>intro l;cases l with
       | nil=>simp[Ex.aX]
       | cons b l=>simp only[yR,xB,Ex.aX];have:=ih l;omega
     exact key _ _
    have e2:=Ex.eF (l.drop (j+1));simp at e2;omega
   unfold dW;unfold szI at hbad;rw[if_neg (by omega)]
  rw[hsl2,aU (SZ l left) j (by simp[SZ,szI,Ex.aX])]
  ·rw[aD]
   have hs:0≤szI l left j:=by
    cases j with
    | zero=>unfold szI;simp[Ex.aX];omega
    | succ j=>exact hlt j (by omega)
   obtain⟨a,hn,hc⟩:=hround j hj hs;have hbad:¬ 0≤szI l left (j+1):=hbad;rw[if_neg hbad]at hc;rw[Ex.aB]at hn hc;simp[SZ,hj,hn,hc]
  ·intro i hi
   have hs:0≤szI l left i:=by
    cases i with
    | zero=>unfold szI;simp[Ex.aX];omega
    | succ i=>exact hlt i (by omega)
   obtain⟨a,hn,hc⟩:=hround i (by omega) hs;have hs1:0≤szI l left (i+1):=hlt i hi;rw[if_pos hs1]at hc;have w2:IntKind.i64.wrap ((i:Int)+1)=i+1:=wrO;rw[Ex.aB]at hn hc;simp[SZ,show i<l.length by omega,hn,hc,w2,show ¬ szI l left (i+1)<0 by omega]
set_option maxHeartbeats 2000000
theorem AOC:∀ (e:Ex),e.fat→∀ left:Int,0≤left→left<1000000000→aH C0 37 [.i (.agg e.cells), .int left] []=some (.int (dW left (Ex.aX e.kids)),[]):=by
 intro e
 induction e using Ex.ind with
 | h k c v ks ih =>
  intro hf left h0 h1;have hf':=(Ex.sM _).1 hf;exact AKB (QV h0 h1 hf'.1 fun a ha=>ih a ha (hf'.2 a ha))
theorem AK9 (l:List Ex) (hl:l.length<9223372036854775808) (hf:∀ a∈l,a.fat) (left:Int) (h0:0≤left) (h1:left<1000000000):aH C0 15 [.i (.isl (Ex.aA l)), .int left] []=some (.int (dW left (Ex.aX l)),[]) :=
 QV h0 h1 hl fun a ha=>AOC a (hf a ha)
theorem AD9 (v:Val):aH C0 74 [.i (.agg [.bool v.null, .int v.n]), .i (.agg [.bool v.null, .int v.n])] []=some (.bool true,[]):=by
 rw[aF rfl Tryd.func74 rfl rfl];simp
theorem AM6 {e:Ex} (h:aH C0 33 [.i (.isl (Ex.aA e.kids)), .i (.isl (Ex.aA e.kids))] []=some (.bool true,[])):aH C0 52 [.i (.agg e.cells), .i (.agg e.cells)] []=some (.bool true,[]):=by
 rw[aF rfl Tryd.func52 rfl rfl,Ex.aB];have hv:=AD9 e.val;simp[hv,h]
def EQ (l:List Ex) (i:Nat):AS :=
 { env:=[(0, .i (.isl (Ex.aA l))),(1, .i (.isl (Ex.aA l))),(4, .bool false),(5, .int i),(10, .bool false),(14,jk i (.bool true)),(26,jk i (.bool false))],st:=[] }
theorem AFA {l:List Ex} (hl:l.length<9223372036854775808) (ih:∀ a∈l,aH C0 52 [.i (.agg a.cells), .i (.agg a.cells)] []=some (.bool true,[])):aH C0 33 [.i (.isl (Ex.aA l)), .i (.isl (Ex.aA l))] []=some (.bool true,[]):=by
 rw[aF rfl Tryd.func33 rfl rfl];simp;rw[aU (EQ l) l.length (by simp[EQ])]
 ·rw[aD];simp[EQ]
 ·intro i hi;have h3:=zX hi;have hc:=ih _ (zT h3);have r2:=Ex.aS h3;generalize l[i]=a at h3 hc r2;have w2:IntKind.i64.wrap ((i:Int)+1)=i+1:=wrO;rw[Ex.aB]at hc r2;simp[EQ,hi,r2,hc,w2]
theorem ADB:∀ (e:Ex),e.fat→aH C0 52 [.i (.agg e.cells), .i (.agg e.cells)] []=some (.bool true,[]):=by
 intro e
 induction e using Ex.ind with
 | h k c v ks ih =>
  intro hf;have hf':=(Ex.sM _).1 hf;exact AM6 (AFA hf'.1 fun a ha=>ih a ha (hf'.2 a ha))
theorem ADA (l:List Ex) (hl:l.length<9223372036854775808) (hf:∀ a∈l,a.fat):aH C0 33 [.i (.isl (Ex.aA l)), .i (.isl (Ex.aA l))] []=some (.bool true,[]):=AFA hl fun a ha=>ADB a (hf a ha)
end Go.Proofs.YtmcjmafajkeecaaDoor
namespace Go.Av
mutual
def Pn.fat:Pn→Prop
 | .mk _ _ es cs ks=>es.length<9223372036854775808∧(∀ e∈es,e.fat)∧cs.length<9223372036854775808∧ks.length<9223372036854775808∧Pn.AA1 ks
def Pn.AA1:List Pn→Prop
 | []=>True
 | p::ps=>p.fat∧Pn.AA1 ps
end
theorem Pn.uF:∀ (l:List Pn),Pn.AA1 l↔∀ p∈l,p.fat
 | []=>by simp[Pn.AA1]
 | p::ps=>by simp[Pn.AA1,Pn.uF ps]
theorem Pn.sM (p:Pn):p.fat↔p.exprs.length<9223372036854775808∧(∀ e∈p.exprs,e.fat)∧p.cols.length<9223372036854775808∧p.kids.length<9223372036854775808∧∀ a∈p.kids,a.fat:=by
 cases p;simp[Pn.fat,Pn.uF]
end Go.Av
namespace Go.Proofs.YtmcjmafajkeecaaDoor.P
open Go Go.Av
set_option maxRecDepth 4000
set_option maxHeartbeats 4000000
def TIX (l:List Int) (i:Nat):AS :=
 { env:=[(0, .i (.isl (aI l))),(2, .nils),(3, .osl 0 1 0 l.length),(4, .int i),(11,jk i (.bool true))],st:=[some (.arr 1 (aI (l.take i)++List.replicate (l.length-i) [.int 0]))] }
theorem LA (l:List Int) (hl:l.length<1000000000):aH C0 8 [.i (.isl (aI l))] []=some (.i (.isl (aI l)),[]):=by
 rw[aF rfl Tryd.func8 rfl rfl];have hb:8*(l.length:Int)≤281474976710656:=by omega
 simp[hb];rw[aU (TIX l) l.length (by simp[TIX,aI])]
 ·rw[aD];simp[TIX]
 ·intro i hi;have h3:=zX hi;have r2:=dA h3;generalize l[i]=a at h3 r2;have w2:IntKind.i64.wrap ((i:Int)+1)=i+1:=wrO;have hD:(aI (l.take i)).length=i:=by simp;omega
  have g1:=BC (n:=l.length) (z:=[IV.int 0]) hD hi;have g2:=BB (n:=l.length) (z:=[IV.int 0]) (x:=[IV.int a]) hD hi;have hS:aI (l.take i)++[[IV.int a]]=aI (l.take (i+1)):=by rw[aM h3,VI]
  rw[hS]at g2;simp[TIX,hi,r2,w2,g1,g2]
def EIX (l:List Int) (i:Nat):AS :=
 { env:=[(0, .i (.isl (aI l))),(1, .i (.isl (aI l))),(4, .bool false),(5, .int i),(10, .bool false),(14,jk i (.bool true)),(25,jk i (.bool false))],st:=[] }
theorem EK (l:List Int) (hl:l.length<9223372036854775808):aH C0 11 [.i (.isl (aI l)), .i (.isl (aI l))] []=some (.bool true,[]):=by
 rw[aF rfl Tryd.func11 rfl rfl];simp;rw[aU (EIX l) l.length (by simp[EIX])]
 ·rw[aD];simp[EIX]
 ·intro i hi;have h3:=zX hi;have r2:=dA h3;generalize l[i]=a at h3 r2;have w2:IntKind.i64.wrap ((i:Int)+1)=i+1:=wrO;simp[EIX,hi,r2,w2]
theorem AA4 {p:Pn} (h1:aH C0 33 [.i (.isl (Ex.aA p.exprs)), .i (.isl (Ex.aA p.exprs))] []=some (.bool true,[])) (h2:aH C0 11 [.i (.isl (aI p.cols)), .i (.isl (aI p.cols))] []=some (.bool true,[])) (h3:aH C0 34 [.i (.isl (Pn.aA p.kids)), .i (.isl (Pn.aA p.kids))] []=some (.bool true,[])) :
 aH C0 10 [.i (.agg p.cells), .i (.agg p.cells)] []=some (.bool true,[]):=by
 rw[aF rfl Tryd.func10 rfl rfl,Pn.aB];simp[h1,h2,h3]
def EPS (l:List Pn) (i:Nat):AS :=
 { env:=[(0, .i (.isl (Pn.aA l))),(1, .i (.isl (Pn.aA l))),(4, .bool false),(5, .int i),(10, .bool false),(14,jk i (.bool true)),(26,jk i (.bool false))],st:=[] }
theorem VS {l:List Pn} (hl:l.length<9223372036854775808) (ih:∀ a∈l,aH C0 10 [.i (.agg a.cells), .i (.agg a.cells)] []=some (.bool true,[])):aH C0 34 [.i (.isl (Pn.aA l)), .i (.isl (Pn.aA l))] []=some (.bool true,[]):=by
 rw[aF rfl Tryd.func34 rfl rfl];simp;rw[aU (EPS l) l.length (by simp[EPS])]
 ·rw[aD];simp[EPS]
 ·intro i hi;have h3:=zX hi;have hc:=ih _ (zT h3);have r2:=Pn.aS h3;generalize l[i]=a at h3 hc r2;have w2:IntKind.i64.wrap ((i:Int)+1)=i+1:=wrO;rw[Pn.aB]at hc r2;simp[EPS,hi,r2,hc,w2]
theorem Q6:∀ (p:Pn),p.fat→aH C0 10 [.i (.agg p.cells), .i (.agg p.cells)] []=some (.bool true,[]):=by
 intro p
 induction p using Pn.ind with
 | h k t es cs ks ih =>
  intro hf;obtain⟨h1,h2,h3,h4,h5⟩:=(Pn.sM _).1 hf;exact AA4 (ADA es h1 h2) (EK cs h3) (VS h4 fun a ha=>ih a ha (h5 a ha))
theorem AK4 {e:Ex} (h:aH C0 21 [.i (.isl (Ex.aA e.kids))] []=some (.i (.isl (Ex.aA e.kids)),[])):aH C0 45 [.i (.agg e.cells)] []=some (.i (.agg e.cells),[]):=by
 have hv:aH C0 66 [.i (.agg [.bool e.val.null, .int e.val.n])] []=some (.i (.agg [.bool e.val.null, .int e.val.n]),[]):=by
  rw[aF rfl Tryd.func66 rfl rfl];simp
 rw[aF rfl Tryd.func45 rfl rfl,Ex.aB];simp[h,hv]
def TES (l:List Ex) (i:Nat):AS :=
 { env:=[(0, .i (.isl (Ex.aA l))),(2, .nils),(3, .osl 0 5 0 l.length),(4, .int i),(11,jk i (.bool true))],st:=[some (.arr 5 (Ex.aA (l.take i)++List.replicate (l.length-i) KP))] }
theorem Y8 {l:List Ex} (hl:l.length<1000000000) (ih:∀ a∈l,aH C0 45 [.i (.agg a.cells)] []=some (.i (.agg a.cells),[])):aH C0 21 [.i (.isl (Ex.aA l))] []=some (.i (.isl (Ex.aA l)),[]):=by
 rw[aF rfl Tryd.func21 rfl rfl];have hb:56*(l.length:Int)≤281474976710656:=by omega
 simp[hb];rw[aU (TES l) l.length (by simp[TES,Ex.aA,KP])]
 ·rw[aD];simp[TES]
 ·intro i hi;have h3:=zX hi;have hc:=ih _ (zT h3);have r2:=Ex.aS h3;generalize l[i]=a at h3 r2 hc;have w2:IntKind.i64.wrap ((i:Int)+1)=i+1:=wrO;have hD:(Ex.aA (l.take i)).length=i:=by simp;omega
  have g1:=BC (n:=l.length) (z:=KP) hD hi;have g2:=BB (n:=l.length) (z:=KP) (x:=a.cells) hD hi;have g3:splice KP 0 a.cells=some a.cells:=iP (by simp[KP]);have hS:Ex.aA (l.take i)++[a.cells]=Ex.aA (l.take (i+1)):=by rw[aM h3,Ex.bB]
  rw[hS]at g2;rw[Ex.aB]at hc r2 g2 g3;simp[TES,hi,r2,w2,g1,g2,g3,hc]
theorem Y7:∀ (e:Ex),e.thin→aH C0 45 [.i (.agg e.cells)] []=some (.i (.agg e.cells),[]):=by
 intro e
 induction e using Ex.ind with
 | h k c v ks ih =>
  intro ht;have h:=(Ex.dV _).1 ht;exact AK4 (Y8 h.1 fun a ha=>ih a ha (h.2 a ha))
theorem AK3 {p:Pn} (h1:aH C0 21 [.i (.isl (Ex.aA p.exprs))] []=some (.i (.isl (Ex.aA p.exprs)),[])) (h2:aH C0 8 [.i (.isl (aI p.cols))] []=some (.i (.isl (aI p.cols)),[])) (h3:aH C0 22 [.i (.isl (Pn.aA p.kids))] []=some (.i (.isl (Pn.aA p.kids)),[])) :
 aH C0 7 [.i (.agg p.cells)] []=some (.i (.agg p.cells),[]):=by
 rw[aF rfl Tryd.func7 rfl rfl,Pn.aB];simp[h1,h2,h3]
def zpw:List IV:=[.int 0, .int 0, .isl [], .isl [], .isl []]
def TPS (l:List Pn) (i:Nat):AS :=
 { env:=[(0, .i (.isl (Pn.aA l))),(2, .nils),(3, .osl 0 5 0 l.length),(4, .int i),(11,jk i (.bool true))],st:=[some (.arr 5 (Pn.aA (l.take i)++List.replicate (l.length-i) zpw))] }
theorem AFY {l:List Pn} (hl:l.length<1000000000) (ih:∀ a∈l,aH C0 7 [.i (.agg a.cells)] []=some (.i (.agg a.cells),[])):aH C0 22 [.i (.isl (Pn.aA l))] []=some (.i (.isl (Pn.aA l)),[]):=by
 rw[aF rfl Tryd.func22 rfl rfl];have hb:88*(l.length:Int)≤281474976710656:=by omega
 simp[hb];rw[aU (TPS l) l.length (by simp[TPS,Pn.aA,zpw])]
 ·rw[aD];simp[TPS]
 ·intro i hi;have h3:=zX hi;have hc:=ih _ (zT h3);have r2:=Pn.aS h3;generalize l[i]=a at h3 r2 hc;have w2:IntKind.i64.wrap ((i:Int)+1)=i+1:=wrO;have hD:(Pn.aA (l.take i)).length=i:=by simp;omega
  have g1:=BC (n:=l.length) (z:=zpw) hD hi;have g2:=BB (n:=l.length) (z:=zpw) (x:=a.cells) hD hi;have g3:splice zpw 0 a.cells=some a.cells:=iP (by simp[zpw]);have hS:Pn.aA (l.take i)++[a.cells]=Pn.aA (l.take (i+1)):=by rw[aM h3,Pn.bB]
  rw[hS]at g2;rw[Pn.aB]at hc r2 g2 g3;simp[TPS,hi,r2,w2,g1,g2,g3,hc]
theorem Y6:∀ (p:Pn),p.thin→aH C0 7 [.i (.agg p.cells)] []=some (.i (.agg p.cells),[]):=by
 intro p
 induction p using Pn.ind with
 | h k t es cs ks ih =>
  intro ht;obtain⟨h1,h2,h3,h4,h5⟩:=(Pn.dV _).1 ht;exact AK3 (Y8 h1 fun a ha=>Y7 a (h2 a ha)) (LA cs h3) (AFY h4 fun a ha=>ih a ha (h5 a ha))
end Go.Proofs.YtmcjmafajkeecaaDoor.P
namespace Go.Av
mutual
def Pn.ms:Pn→Nat
 | .mk _ _ es cs ks=>1+(Ex.aX es+(cs.length+Pn.msL ks))
def Pn.msL:List Pn→Nat
 | []=>0
 | p::l=>p.ms+Pn.msL l
end
def Pn.meas (p:Pn):Nat:=Ex.aX p.exprs+(p.cols.length+Pn.msL p.kids)
theorem Pn.AGU (p:Pn):p.ms=1+p.meas:=by cases p;simp[Pn.ms,Pn.meas,Pn.exprs,Pn.cols,Pn.kids]
theorem Pn.AF0 (p:Pn):1≤p.ms:=by rw[Pn.AGU];omega
theorem Pn.qJ:∀ (l:List Pn),l.length≤Pn.msL l
 | []=>by simp
 | p::l=>by have:=Pn.qJ l;have:=Pn.AF0 p;simp only[zS,Pn.msL];omega
theorem Pn.ZE:∀ {l:List Pn} {p:Pn},p∈l→p.ms≤Pn.msL l
 | a::l,p,h=>by
  simp only[Pn.msL]
  rcases zQ.1 h with rfl|h
  ·omega
  ·have:=Pn.ZE h;omega
theorem ZC (l:List Pn) {i:Nat} {a:Pn} (h:l[i]?=some a):Pn.msL (l.take (i+1))=Pn.msL (l.take i)+a.ms:=by
 induction l generalizing i with
 | nil=>simp at h
 | cons b l ih =>
  cases i with
  | zero=>simp at h;subst h;simp[Pn.msL]
  | succ i=>have:=ih (i:=i) (by simpa using h);simp only[yR,Pn.msL]at this ⊢;omega
theorem ACN (l:List Pn) (i:Nat):Pn.msL (l.take i)≤Pn.msL l:=by
 induction l generalizing i with
 | nil=>simp[Pn.msL]
 | cons b l ih =>
  cases i with
  | zero=>simp[Pn.msL]
  | succ i=>simp only[yR,Pn.msL];have:=ih i;omega
theorem wM:∀ (l:List Pn) (i:Nat),i≤l.length→i≤Pn.msL (l.take i)
 | [],i,h=>by simp at h;subst h;simp
 | a::l,0,_=>by simp
 | a::l,i+1,h=>by
  have:=wM l i (by simpa using h);have:=Pn.AF0 a;simp only[yR,Pn.msL];omega
theorem Pn.TT:∀ (p:Pn),p.meas<100000000→p.thin:=by
 intro p
 induction p using Pn.ind with
 | h k t es cs ks ih =>
  intro h;simp only[Pn.meas,Pn.exprs,Pn.cols,Pn.kids]at h;have h1:=Ex.eF es;have h2:=Pn.qJ ks;refine(Pn.dV _).2 ⟨by simp only[Pn.exprs];omega,fun e he=>Ex.bV e (by have:=Ex.C8 (show e∈es from he);omega),by simp only[Pn.cols];omega,by simp only[Pn.kids];omega,fun a ha=>ih a ha ?_⟩;have h3:=Pn.ZE (show a∈ks from ha);rw[Pn.AGU]at h3;omega
theorem MZ {left:Int} {a b:Nat} (h:0≤dW left a):dW (dW left a) b=dW left (a+b):=by
 unfold dW at h ⊢;by_cases ha:(a:Int)≤left
 ·rw[if_pos ha]at h ⊢;by_cases hb:(b:Int)≤left-a
  ·rw[if_pos hb,if_pos (by omega)];omega
  ·rw[if_neg hb,if_neg (by omega)]
 ·rw[if_neg ha]at h;omega
theorem DV {left:Int} {a:Nat} (h:dW left a<0) (b:Nat):dW left a=-1∧dW left (a+b)=-1:=by
 unfold dW at h ⊢;by_cases ha:(a:Int)≤left
 ·rw[if_pos ha]at h;omega
 ·rw[if_neg ha,if_neg (by omega)];exact⟨rfl,rfl⟩
theorem RV {left:Int} {a:Nat} (h:0≤left):dW left a≤left:=by
 unfold dW;split<;>omega
end Go.Av
namespace Go.Proofs.YtmcjmafajkeecaaDoor.P
open Go Go.Av
set_option maxRecDepth 4000
set_option maxHeartbeats 2000000
theorem AC3 (l:List Int) (hl:l.length<9223372036854775808) (left:Int) (h0:0≤left) (h1:left<1000000000):aH C0 16 [.i (.isl (aI l)), .int left] []=some (.int (dW left l.length),[]):=by
 rw[aF rfl Tryd.func16 rfl rfl];have w1:IntKind.i64.wrap (left-l.length)=left-l.length:=wrO;by_cases hc:left-l.length<0
 ·have:¬ ((l.length:Nat):Int)≤left:=by omega
  simp[w1,hc,dW,this]
 ·have:((l.length:Nat):Int)≤left:=by omega
  simp[w1,hc,dW,this]
theorem AKA {p:Pn} {left:Int} (h1:aH C0 15 [.i (.isl (Ex.aA p.exprs)), .int left] []=some (.int (dW left (Ex.aX p.exprs)),[]))
 (h2:0≤dW left (Ex.aX p.exprs)→aH C0 16 [.i (.isl (aI p.cols)), .int (dW left (Ex.aX p.exprs))] []=some (.int (dW left (Ex.aX p.exprs+p.cols.length)),[]))
 (h3:0≤dW left (Ex.aX p.exprs+p.cols.length)→aH C0 17 [.i (.isl (Pn.aA p.kids)), .int (dW left (Ex.aX p.exprs+p.cols.length))] []=some (.int (dW left (Ex.aX p.exprs+p.cols.length+Pn.msL p.kids)),[])) :
 aH C0 5 [.i (.agg p.cells), .int left] []=some (.int (dW left p.meas),[]):=by
 rw[aF rfl Tryd.func5 rfl rfl,Pn.aB];have hm:p.meas=Ex.aX p.exprs+p.cols.length+Pn.msL p.kids:=by unfold Pn.meas;omega
 rw[hm];by_cases c1:dW left (Ex.aX p.exprs)<0
 ·obtain⟨e1,e2⟩:=DV c1 (p.cols.length+Pn.msL p.kids);rw[← Nat.add_assoc]at e2;simp[h1,c1,e2]
 ·have h2:=h2 (by omega);by_cases c2:dW left (Ex.aX p.exprs+p.cols.length)<0
  ·obtain⟨e1,e2⟩:=DV c2 (Pn.msL p.kids);simp[h1,c1,h2,c2,e2]
  ·have h3:=h3 (by omega);by_cases c3:dW left (Ex.aX p.exprs+p.cols.length+Pn.msL p.kids)<0
   ·obtain⟨e1,e2⟩:=DV c3 0;simp[h1,c1,h2,c2,h3,c3,e1]
   ·simp[h1,c1,h2,c2,h3,c3]
def szJ (l:List Pn) (left:Int) (i:Nat):Int:=left-l.length-(Pn.msL (l.take i)-i)
def SZP (l:List Pn) (left:Int) (i:Nat):AS :=
 { env:=[(0, .i (.isl (Pn.aA l))),(1, .int (szJ l left i)),(4, .int 0),(5, .int i),(11, .bool false),(15,jk i (.bool true)),(25,jk i (.bool false))],st:=[] }
theorem YB {l:List Pn} {left:Int} (h0:0≤left) (h1:left<1000000000) (hl:l.length<9223372036854775808)
 (ih:∀ a∈l,∀ left:Int,0≤left→left<1000000000→aH C0 5 [.i (.agg a.cells), .int left] []=some (.int (dW left (a.meas)),[])) :
 aH C0 17 [.i (.isl (Pn.aA l)), .int left] []=some (.int (dW left (Pn.msL l)),[]):=by
 rw[aF rfl Tryd.func17 rfl rfl];have w1:IntKind.i64.wrap (left-l.length)=left-l.length:=wrO;have hsl:=Pn.qJ l;by_cases hc:left-l.length<0
 ·have:¬ ((Pn.msL l:Nat):Int)≤left:=by omega
  simp[w1,hc,dW,this]
 simp[w1,hc]
 have hpre:∀ i,i<l.length→∃ a,l[i]?=some a∧a∈l∧Pn.msL (l.take (i+1))=Pn.msL (l.take i)+(1+a.meas)∧gW (Pn.aA l) i=some a.cells:=by
  intro i hi;have h3:=zX hi;refine⟨_,h3,zT h3,?_,Pn.aS h3⟩;rw[ZC l h3,Pn.AGU]
 have hround:∀ i,i<l.length→0≤szJ l left i→∃ a:Pn,gW (Pn.aA l) i=some a.cells∧aH C0 5 [.i (.agg a.cells), .int (szJ l left i)] []=some (.int (if 0≤szJ l left (i+1)then szJ l left (i+1)else -1),[]):=by
  intro i hi hs;obtain⟨a,h3,hm,hz,hn⟩:=hpre i hi;have hti:=wM l i (by omega);refine⟨a,hn,?_⟩;rw[ih a hm _ hs (by unfold szJ;omega)];congr 2;unfold dW;congr 1;by_cases hle:((a.meas:Nat):Int)≤szJ l left i
  ·rw[if_pos hle,if_pos (by unfold szJ at hle ⊢;omega)];unfold szJ;omega
  ·rw[if_neg hle,if_neg (by unfold szJ at hle ⊢;omega)]
 rcases EG (fun i=>0≤szJ l left (i+1)) l.length with hall|⟨j,hj,hlt,hbad⟩
 ·rw[aU (SZP l left) l.length (by simp[SZP,szJ,Pn.msL])]
  ·rw[aD]
   have hfin:dW left (Pn.msL l)=szJ l left l.length:=by
    have hT:l.take l.length=l:=zY (by simp)
    have hge:0≤szJ l left l.length:=by
     cases hn:l.length with
     | zero=>unfold szJ;rw[hn];simp[Pn.msL];omega
     | succ n=>exact hn ▸ hall n (by omega)
    unfold dW;unfold szJ at hge ⊢;rw[hT]at hge ⊢;rw[if_pos (by omega)];omega
   rw[hfin];simp[SZP]
  ·intro i hi
   have hs:0≤szJ l left i:=by
    cases i with
    | zero=>unfold szJ;simp[Pn.msL];omega
    | succ i=>exact hall i (by omega)
   obtain⟨a,hn,hc⟩:=hround i hi hs;have hs1:=hall i hi;have hs1:0≤szJ l left (i+1):=hs1;rw[if_pos hs1]at hc;have w2:IntKind.i64.wrap ((i:Int)+1)=i+1:=wrO;rw[Pn.aB]at hn hc;simp[SZP,hi,hn,hc,w2,show ¬ szJ l left (i+1)<0 by omega]
 ·have hsl2:dW left (Pn.msL l)=-1:=by
   have hm:=ACN l (j+1);have hbad:¬ 0≤szJ l left (j+1):=hbad;obtain⟨a,h3,_,_,_⟩:=hpre j hj
   have hrest:Pn.msL (l.take (j+1))+(l.length-(j+1))≤Pn.msL l:=by
    have e1:Pn.msL l=Pn.msL (l.take (j+1))+Pn.msL (l.drop (j+1)):=by
     have key:∀ (n:Nat) (l:List Pn),Pn.msL l=Pn.msL (l.take n)+Pn.msL (l.drop n):=by
      intro n
      induction n with
      | zero=>intro l;simp[Pn.msL]
      | succ n ih=>intro l;cases l with
       | nil=>simp[Pn.msL]
       | cons b l=>simp only[yR,xB,Pn.msL];have:=ih l;omega
     exact key _ _
    have e2:=Pn.qJ (l.drop (j+1));simp at e2;omega
   unfold dW;unfold szJ at hbad;rw[if_neg (by omega)]
  rw[hsl2,aU (SZP l left) j (by simp[SZP,szJ,Pn.msL])]
  ·rw[aD]
   have hs:0≤szJ l left j:=by
    cases j with
    | zero=>unfold szJ;simp[Pn.msL];omega
    | succ j=>exact hlt j (by omega)
   obtain⟨a,hn,hc⟩:=hround j hj hs;have hbad:¬ 0≤szJ l left (j+1):=hbad;rw[if_neg hbad]at hc;rw[Pn.aB]at hn hc;simp[SZP,hj,hn,hc]
  ·intro i hi
   have hs:0≤szJ l left i:=by
    cases i with
    | zero=>unfold szJ;simp[Pn.msL];omega
    | succ i=>exact hlt i (by omega)
   obtain⟨a,hn,hc⟩:=hround i (by omega) hs;have hs1:0≤szJ l left (i+1):=hlt i hi;rw[if_pos hs1]at hc;have w2:IntKind.i64.wrap ((i:Int)+1)=i+1:=wrO;rw[Pn.aB]at hn hc;simp[SZP,show i<l.length by omega,hn,hc,w2,show ¬ szJ l left (i+1)<0 by omega]
theorem YA:∀ (p:Pn),p.fat→∀ left:Int,0≤left→left<1000000000→aH C0 5 [.i (.agg p.cells), .int left] []=some (.int (dW left p.meas),[]):=by
 intro p
 induction p using Pn.ind with
 | h k t es cs ks ih =>
  intro hf left h0 h1;obtain⟨f1,f2,f3,f4,f5⟩:=(Pn.sM _).1 hf;refine AKA (AK9 _ f1 f2 left h0 h1) (fun h=>?_) fun h=>?_
  ·rw[AC3 _ f3 _ h (by have:=RV (a:=Ex.aX es) h0;simp only[Pn.exprs];omega),MZ h]
  ·rw[YB h (by have:=RV (a:=Ex.aX es+cs.length) h0;simp only[Pn.exprs,Pn.cols];omega) f4 fun a ha left h0 h1=>ih a ha (f5 a ha) left h0 h1,MZ h]
end Go.Proofs.YtmcjmafajkeecaaDoor.P
namespace Go.Av
theorem AB2 {w:World} {a:Addr} {v:Value} (h:w.cell? (a.add 0)=some v):∃ b off,a=⟨b,off,none⟩:=by
 obtain⟨b,off,spot⟩:=a;simp only[Addr.add,if_true,World.cell?]at h
 cases spot with
 | none=>exact⟨b,off,rfl⟩
 | some s=>split at h<;>simp at h
theorem AK7 {cs:List Value} (h:cs.length=5):∃ c0 c1 c2 c3 c4,cs=[c0,c1,c2,c3,c4]:=by
 match cs,h with
 | [c0,c1,c2,c3,c4],_=>exact⟨c0,c1,c2,c3,c4,rfl⟩
end Go.Av
namespace Go.Proofs.YtmcjmafajkeecaaDoor.P
open Go Go.Av
set_option maxRecDepth 4000
variable {H:Type} {enc:TypeId×Value→H} {w:World} {sp:Nat→Bool}
theorem ce3:Tryd.prog.cellsOf 3=1:=by kernel_rfl
theorem ce4:Tryd.prog.cellsOf 4=1:=by kernel_rfl
theorem ARK:Tryd.prog.cellsOf 72=2:=by kernel_rfl
theorem ARJ:Tryd.prog.cellsOf 22=1:=by kernel_rfl
theorem APX:Tryd.prog.cellsOf 74=5:=by kernel_rfl
theorem AM0 {fuel:Nat} {cs:List Value} {r:DataW H×List MemPlace} (h:DataW.trod enc Tryd.prog w 0 sp true fuel 72 cs=some r):∃ v:Val,cs=[.bool v.null, .int .i64 v.n]:=by
 obtain⟨xs,n,rfl,_,hl,hx,hf⟩:=DataW.trod_struct Tryd.underlying72 h;rw[ARK]at hl;have h0:DataW.trod enc Tryd.prog w 0 sp true n 4 ((cs.drop 0).take (Tryd.prog.cellsOf 4))=xs[0]?:=hf 0 _ rfl;have h1:DataW.trod enc Tryd.prog w 0 sp true n 3 ((cs.drop 1).take (Tryd.prog.cellsOf 3))=xs[1]?:=hf 1 _ rfl;rw[ce4]at h0;rw[ce3]at h1;have hx:xs.length=2:=hx;rw[zX (by omega)]at h0 h1;obtain⟨b,hb,_⟩:=DataW.trod_bool Tryd.underlying4 h0;obtain⟨k,hk,_⟩:=DataW.trod_int Tryd.underlying3 h1
 match cs,hl with
 | [c0,c1],_ =>
  simp at hb hk;exact⟨⟨b,k⟩,by rw[hb,hk]⟩
theorem SA {b:Nat} {P:List Value→List IV→Prop} {k:Nat} (hk:∀ cs l,P cs l→l.length=k∧ICells (dX w) l cs):∀ (n off:Nat),(∀ i,i<n→∃ cs l,P cs l∧∀ j v,cs[j]?=some v→w.cell? ⟨b,off+k*i+j,none⟩=some v) →
 ∃ es:List (List IV),es.length=n∧IElems (dX w) b off k es∧∀ e∈es,∃ cs,P cs e
 | 0,off,_=>⟨[],rfl, .nil _ _ _,by simp⟩
 | n+1,off,h=>by
  obtain⟨cs,l,h1,h2⟩:=h 0 (by omega);obtain⟨k1,k2⟩:=hk cs l h1
  obtain⟨es,e1,e2,e3⟩:=SA hk n (off+k) (fun i hi=>by
   obtain⟨cs,l,h3,h4⟩:=h (i+1) (by omega)
   exact⟨cs,l,h3,fun j v hj=>by rw[← h4 j v hj];congr 2;rw[yX];omega⟩)
  refine⟨l::es,by simp[e1], .cons (IAt.mk off k2 fun j v hj=>?_) k1 e2,?_⟩
  ·have:=h2 j v hj;show w.cell? ⟨b,off+j,none⟩=some v;simpa using this
  ·intro e he
   rcases zQ.1 he with rfl|he
   ·exact⟨cs,h1⟩
   ·exact e3 e he
theorem BA {fuel:Nat} {t e:TypeId} {c:Value} {r:DataW H×List MemPlace} {k:Nat} {P:List Value→List IV→Prop} (ht:Tryd.prog.underlying t=some (.slice e)) (hce:Tryd.prog.cellsOf e=k) (hk0:0<k) (hk:∀ cs l,P cs l→l.length=k∧ICells (dX w) l cs)
 (ih:∀ n,n<fuel→∀ cs x,DataW.trod enc Tryd.prog w 0 sp true n e cs=some x→∃ l,P cs l) (h:DataW.trod enc Tryd.prog w 0 sp true fuel t [c]=some r) :
 ∃ es:List (List IV),IRep (dX w) (.isl es) c∧es.length<9223372036854775808∧∀ x∈es,∃ cs,P cs x:=by
 rcases DataW.trod_slice ht h with ⟨h1,_⟩|⟨a,len,cap,elems,rest,n,rfl,h1,_,_,hlc,hcm,hel,hat,_,_⟩
 ·injection h1 with h1;subst h1;exact⟨[], .isl0 _ _ fun _=>rfl,by simp,by simp⟩
 ·injection h1 with h1;subst h1;by_cases h0:len=0
  ·subst h0;exact⟨[], .isl0 _ _ (by simp),by simp,by simp⟩
  ·rw[hce]at hat
   have get:∀ i,i<len→∃ cs l,P cs l∧cs.length=k∧∀ j,j<k→w.cell? ((a.add (i*k)).add j)=cs[j]?:=by
    intro i hi;have h2:=hat i hi;rw[zX (by omega)]at h2;obtain⟨cs,h3,h4⟩:=Option.bind_eq_some_iff.1 h2;obtain⟨_,h5,h6⟩:=World.cells?_some h3;obtain⟨l,h7⟩:=ih n (by omega) cs _ h4;exact⟨cs,l,h7,h5,h6⟩
   obtain⟨b,off,rfl⟩:∃ b off,a=⟨b,off,none⟩:=by
    obtain⟨cs,l,_,h5,h6⟩:=get 0 (by omega);have h7:=h6 0 hk0;rw[zX (by omega)]at h7;refine AB2 (v:=cs[0]'(by omega)) (w:=w) ?_;rw[← h7,Nat.zero_mul];congr 1
   obtain⟨es,e1,e2,e3⟩:=SA (b:=b) hk len off (fun i hi=>by
    obtain⟨cs,l,h4,h5,h6⟩:=get i hi;refine⟨cs,l,h4,fun j v hj=>?_⟩;have hjl:=(zW.1 hj).1;have:=h6 j (by omega);rw[hj,Addr.dK,Addr.dK]at this
    rw[← this,zB k i])
   refine⟨es,?_,by rw[e1];unfold maxLen at hcm;omega,e3⟩;have hne:es≠[]:=fun h=>by rw[h]at e1;simp at e1;omega
   have:=IRep.isl (m:=dX w) (cap:=cap) hne e2 (by omega)
   rwa [e1]at this
theorem AM1:∀ (fuel:Nat) (cs:List Value) (r:DataW H×List MemPlace),DataW.trod enc Tryd.prog w 0 sp true fuel 74 cs=some r→∃ e:Ex,e.fat∧ICells (dX w) e.cells cs:=by
 intro fuel
 induction fuel using Nat.strongRecOn with
 | _ fuel ih =>
  intro cs r h;obtain⟨xs,n,rfl,_,hl,hx,hf⟩:=DataW.trod_struct Tryd.underlying74 h;rw[APX]at hl;have h0:DataW.trod enc Tryd.prog w 0 sp true n 3 ((cs.drop 0).take (Tryd.prog.cellsOf 3))=xs[0]?:=hf 0 _ rfl;have h1:DataW.trod enc Tryd.prog w 0 sp true n 3 ((cs.drop 1).take (Tryd.prog.cellsOf 3))=xs[1]?:=hf 1 _ rfl;have h2:DataW.trod enc Tryd.prog w 0 sp true n 72 ((cs.drop 2).take (Tryd.prog.cellsOf 72))=xs[2]?:=hf 2 _ rfl;have h3:DataW.trod enc Tryd.prog w 0 sp true n 22 ((cs.drop 4).take (Tryd.prog.cellsOf 22))=xs[3]?:=hf 3 _ rfl;rw[ce3]at h0 h1;rw[ARK]at h2;rw[ARJ]at h3;have hx:xs.length=4:=hx;rw[zX (by omega)]at h0 h1 h2 h3;obtain⟨c0,c1,c2,c3,c4,rfl⟩:=AK7 hl;obtain⟨k0,hk0,_⟩:=DataW.trod_int Tryd.underlying3 h0;obtain⟨k1,hk1,_⟩:=DataW.trod_int Tryd.underlying3 h1;obtain⟨v,hv⟩:=AM0 h2;simp at hk0 hk1 hv;obtain⟨rfl,rfl⟩:=hv;subst hk0;subst hk1;simp at h3
  obtain⟨es,e1,e2,e3⟩:=BA (P:=fun cs l=>∃ e:Ex,e.fat∧l=e.cells∧ICells (dX w) l cs) Tryd.underlying22 APX (by omega) (fun cs l ⟨e,_,h5,h6⟩=>⟨by rw[h5,Ex.aB];rfl,h6⟩)
   (fun m hm cs x hx=>by
    obtain⟨e,h5,h6⟩:=ih m (by omega) cs x hx
    exact⟨e.cells,e,h5,rfl,h6⟩) h3
  have hl:∃ l:List Ex,Ex.aA l=es∧∀ a∈l,a.fat:=by
   have key:∀ es:List (List IV),(∀ x∈es,∃ cs,∃ e:Ex,e.fat∧x=e.cells∧ICells (dX w) x cs)→∃ l:List Ex,Ex.aA l=es∧∀ a∈l,a.fat:=by
    intro es
    induction es with
    | nil=>intro _;exact⟨[],rfl,by simp⟩
    | cons x es ihe =>
     intro h;obtain⟨_,e,h5,h6,_⟩:=h x (by simp);obtain⟨l,h7,h8⟩:=ihe fun y hy=>h y (by simp[hy])
     exact⟨e::l,by simp[Ex.aA,h6,h7],fun a ha=>by
      rcases zQ.1 ha with rfl|ha
      ·exact h5
      ·exact h8 a ha⟩
   exact key es e3
  obtain⟨l,rfl,hfat⟩:=hl;refine⟨.mk k0 k1 v l,(Ex.sM _).2 ⟨by simpa [Ex.kids]using e2,hfat⟩,?_⟩;rw[show(Ex.mk k0 k1 v l).cells=[.int k0, .int k1, .bool v.null, .int v.n, .isl (Ex.aA l)]by simp[Ex.cells]];exact .cons (.lit _) rfl (.cons (.lit _) rfl (.cons (.lit _) rfl (.cons (.lit _) rfl (.cons e1 (pO e1) .nil))))
theorem ceI:Tryd.prog.cellsOf 3=1:=by kernel_rfl
theorem ASN:Tryd.prog.cellsOf 24=1:=by kernel_rfl
theorem ASO:Tryd.prog.cellsOf 23=1:=by kernel_rfl
theorem ceP:Tryd.prog.cellsOf 26=5:=by kernel_rfl
theorem ZW {fuel:Nat} {c:Value} {r:DataW H×List MemPlace} (h:DataW.trod enc Tryd.prog w 0 sp true fuel 23 [c]=some r):∃ l:List Int,l.length<9223372036854775808∧IRep (dX w) (.isl (aI l)) c:=by
 obtain⟨es,e1,e2,e3⟩:=BA (P:=fun cs l=>∃ n:Int,l=[.int n]∧cs=[.int .i64 n]) Tryd.underlying23 ceI (by omega) (fun cs l ⟨v,h5,h6⟩=>⟨by rw[h5];rfl,by rw[h5,h6];exact .cons (.lit _) rfl .nil⟩)
  (fun m hm cs x hx=>by
   obtain⟨k,hk,_⟩:=DataW.trod_int Tryd.underlying3 hx
   exact⟨[.int k],k,rfl,hk⟩) h
 have key:∀ es:List (List IV),(∀ x∈es,∃ cs:List Value,∃ n:Int,x=[.int n]∧cs=[.int .i64 n])→∃ l:List Int,aI l=es:=by
  intro es
  induction es with
  | nil=>intro _;exact⟨[],rfl⟩
  | cons x es ihe =>
   intro h;obtain⟨_,v,h5,_⟩:=h x (by simp);obtain⟨l,h7⟩:=ihe fun y hy=>h y (by simp[hy])
   exact⟨v::l,by simp[aI,h5,h7]⟩
 obtain⟨l,rfl⟩:=key es e3;exact⟨l,by simpa using e2,e1⟩
theorem AHL {fuel:Nat} {c:Value} {r:DataW H×List MemPlace} (h:DataW.trod enc Tryd.prog w 0 sp true fuel 22 [c]=some r):∃ l:List Ex,l.length<9223372036854775808∧(∀ a∈l,a.fat)∧IRep (dX w) (.isl (Ex.aA l)) c:=by
 obtain⟨es,e1,e2,e3⟩:=BA (P:=fun cs l=>∃ e:Ex,e.fat∧l=e.cells∧ICells (dX w) l cs) Tryd.underlying22 APX (by omega) (fun cs l ⟨e,_,h5,h6⟩=>⟨by rw[h5,Ex.aB];rfl,h6⟩)
  (fun m hm cs x hx=>by
   obtain⟨e,h5,h6⟩:=AM1 m cs x hx
   exact⟨e.cells,e,h5,rfl,h6⟩) h
 have key:∀ es:List (List IV),(∀ x∈es,∃ cs,∃ e:Ex,e.fat∧x=e.cells∧ICells (dX w) x cs)→∃ l:List Ex,Ex.aA l=es∧∀ a∈l,a.fat:=by
  intro es
  induction es with
  | nil=>intro _;exact⟨[],rfl,by simp⟩
  | cons x es ihe =>
   intro h;obtain⟨_,e,h5,h6,_⟩:=h x (by simp);obtain⟨l,h7,h8⟩:=ihe fun y hy=>h y (by simp[hy])
   exact⟨e::l,by simp[Ex.aA,h6,h7],fun a ha=>by
    rcases zQ.1 ha with rfl|ha
    ·exact h5
    ·exact h8 a ha⟩
 obtain⟨l,rfl,hfat⟩:=key es e3;exact⟨l,by simpa using e2,hfat,e1⟩
theorem AHK:∀ (fuel:Nat) (cs:List Value) (r:DataW H×List MemPlace),DataW.trod enc Tryd.prog w 0 sp true fuel 26 cs=some r→∃ p:Pn,p.fat∧ICells (dX w) p.cells cs:=by
 intro fuel
 induction fuel using Nat.strongRecOn with
 | _ fuel ih =>
  intro cs r h;obtain⟨xs,n,rfl,_,hl,hx,hf⟩:=DataW.trod_struct Tryd.underlying26 h;rw[ceP]at hl;have h0:DataW.trod enc Tryd.prog w 0 sp true n 3 ((cs.drop 0).take (Tryd.prog.cellsOf 3))=xs[0]?:=hf 0 _ rfl;have h1:DataW.trod enc Tryd.prog w 0 sp true n 3 ((cs.drop 1).take (Tryd.prog.cellsOf 3))=xs[1]?:=hf 1 _ rfl;have h2:DataW.trod enc Tryd.prog w 0 sp true n 22 ((cs.drop 2).take (Tryd.prog.cellsOf 22))=xs[2]?:=hf 2 _ rfl;have h3:DataW.trod enc Tryd.prog w 0 sp true n 23 ((cs.drop 3).take (Tryd.prog.cellsOf 23))=xs[3]?:=hf 3 _ rfl;have h4:DataW.trod enc Tryd.prog w 0 sp true n 24 ((cs.drop 4).take (Tryd.prog.cellsOf 24))=xs[4]?:=hf 4 _ rfl;rw[ceI]at h0 h1;rw[ARJ]at h2;rw[ASO]at h3;rw[ASN]at h4;have hx:xs.length=5:=hx;rw[zX (by omega)]at h0 h1 h2 h3 h4;obtain⟨c0,c1,c2,c3,c4,rfl⟩:=AK7 hl;obtain⟨k0,hk0,_⟩:=DataW.trod_int Tryd.underlying3 h0;obtain⟨k1,hk1,_⟩:=DataW.trod_int Tryd.underlying3 h1;simp at hk0 hk1;subst hk0;subst hk1;simp at h2 h3 h4;obtain⟨es,le,fe,re⟩:=AHL h2;obtain⟨is,li,ri⟩:=ZW h3
  obtain⟨ps,e1,e2,e3⟩:=BA (P:=fun cs l=>∃ e:Pn,e.fat∧l=e.cells∧ICells (dX w) l cs) Tryd.underlying24 ceP (by omega) (fun cs l ⟨e,_,h5,h6⟩=>⟨by rw[h5,Pn.aB];rfl,h6⟩)
   (fun m hm cs x hx=>by
    obtain⟨e,h5,h6⟩:=ih m (by omega) cs x hx
    exact⟨e.cells,e,h5,rfl,h6⟩) h4
  have key:∀ es:List (List IV),(∀ x∈es,∃ cs,∃ e:Pn,e.fat∧x=e.cells∧ICells (dX w) x cs)→∃ l:List Pn,Pn.aA l=es∧∀ a∈l,a.fat:=by
   intro es
   induction es with
   | nil=>intro _;exact⟨[],rfl,by simp⟩
   | cons x es ihe =>
    intro h;obtain⟨_,e,h5,h6,_⟩:=h x (by simp);obtain⟨l,h7,h8⟩:=ihe fun y hy=>h y (by simp[hy])
    exact⟨e::l,by simp[Pn.aA,h6,h7],fun a ha=>by
     rcases zQ.1 ha with rfl|ha
     ·exact h5
     ·exact h8 a ha⟩
  obtain⟨l,rfl,hfat⟩:=key ps e3;refine⟨.mk k0 k1 es is l,(Pn.sM _).2 ⟨le,fe,li,by simpa using e2,hfat⟩,?_⟩;rw[Pn.bD];exact .cons (.lit _) rfl (.cons (.lit _) rfl (.cons re (pO re) (.cons ri (pO ri) (.cons e1 (pO e1) .nil))))
end Go.Proofs.YtmcjmafajkeecaaDoor.P

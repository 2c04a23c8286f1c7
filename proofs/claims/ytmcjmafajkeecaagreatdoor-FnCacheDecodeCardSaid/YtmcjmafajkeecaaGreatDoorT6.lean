/- Part 6 of what the proof rests on: the executor and what it is worth, and the program's functions as it runs them. No condition. -/
import Derived.Test.YtmcjmafajkeecaaGreatDoorT5
set_option linter.unusedVariables false
set_option linter.unusedSimpArgs false
namespace Go.Av
def ASG (k:Nat) (es:List (List IV)):Nat→StL
 | 0=>[]
 | _+1=>[some (.tre k es)]
@[simp] theorem ASF (k:Nat) (es:List (List IV)):ASG k es 0=[]:=(rfl)
@[simp] theorem ASE (k i:Nat) (es:List (List IV)):ASG k es (i+1)=[some (.tre k es)]:=(rfl)
theorem AFW (l:List Ex):(Ex.aA l).take l.length=Ex.aA l:=zY (by simp)
theorem AFV (l:List Int):(aI l).take l.length=aI l:=zY (by simp)
theorem AFU (l:List Pn):(Pn.aA l).take l.length=Pn.aA l:=zY (by simp)
end Go.Av
namespace Go.Av
open Go.Av.Mk
theorem UB (l:List Int):fP (aI l)=true:=by
 rw[O8]
 induction l with
 | nil=>rfl
 | cons n l ih=>simp only[yQ,fP,ih,Bool.and_true];rfl
theorem ACR (q:Pn):CG (aT (rqB q)) (rqA q 0)=some (.agg q.cells):=by
 rw[Pn.aB];have b1:=AFW q.exprs;have b2:=AFV q.cols;have b3:=AFU q.kids;have b4:=UB q.cols
 by_cases q1:q.exprs=[]<;>by_cases q2:q.cols=[]<;>by_cases q3:q.kids=[] <;>
  simp[rqA,rqB,q1,q2,q3,CG,wT,M3,aT,sH,bnd,tst,b4,Ex.aA,Pn.aA,aI]<;>simp_all [aI]
end Go.Av
namespace Go.Av
structure DescC (p:List AV→StL→Option (AV×StL)) (g1:FuncId) (args:List AV) (st:StL) (x:List (List IV)×Nat×Pn×Pn):Prop where
 args:args=[.ownE 0 5 x.2.1 0, .fn (.func g1) []]
 st:st=[some (.tre 5 x.1)]
 row:x.1[x.2.1]?=some x.2.2.1.cells
 len:(rqB x.2.2.2).length=(rqB x.2.2.1).length
 call:∀ pre post:List Value,pre.length=5*x.2.1→p [.own 0 (5*x.2.1), .fn (.func g1) []] (some (.box (gI pre (rqZ x.2.2.1 1) post))::rqB x.2.2.1)=some (.tup [],some (.box (gI pre (rqZ x.2.2.2 1) post))::rqB x.2.2.2)
noncomputable def X3 (p:List AV→StL→Option (AV×StL)) (g1:FuncId) (args:List AV) (st:StL):Option (AV×StL) :=
 open Classical in if h:∃ x,DescC p g1 args st x then some (.tup [],[some (.tre 5 (h.choose.1.set h.choose.2.1 h.choose.2.2.2.cells))])else none
theorem X0 {p:List AV→StL→Option (AV×StL)} {g1:FuncId} {args:List AV} {st:StL} {q:AV×StL} (h:X3 p g1 args st=some q):∃ x,DescC p g1 args st x∧q=(.tup [],[some (.tre 5 (x.1.set x.2.1 x.2.2.2.cells))]):=by
 unfold X3 at h;split at h
 ·rename_i hx;injection h with h;exact⟨_,hx.choose_spec,h.symm⟩
 ·cases h
theorem WZ {P:Program} {p:List AV→StL→Option (AV×StL)} {g g1:FuncId}
 (hp:∀ args st r st',p args st=some (r,st')→∀ (w:World) (m:Mem) (φ:Pl) (vs:List Value),Inv w m φ (aT st)→RepL m φ args vs→(∀ id,φ id≠none→id<st.length)→Calls P g vs.toArray w (bK w m φ r st'))
 {args:List AV} {st st':StL} {r:AV} (h:X3 p g1 args st=some (r,st')) (w:World) (m:Mem) (φ:Pl) (vs:List Value) (hi:Inv w m φ (aT st)) (hr:RepL m φ args vs) (hb:∀ id,φ id≠none→id<st.length):Calls P g vs.toArray w (bK w m φ r st'):=by
 obtain⟨⟨es,i,q,q'⟩,hc,he⟩:=X0 h;injection he with h1 h2;subst h1;subst h2;obtain⟨rfl,rfl,hrow,hlen,hcall⟩:=hc;simp only at hrow hlen hcall ⊢
 cases hr with
 | cons ra rb =>
 cases rb with
 | cons rf rn =>
 cases rn
 cases rf with
 | fn rz =>
 cases rz
 cases ra with
 | @ownE _ _ _ _ b n e =>
  have hil:=(zX.1 hrow).1;obtain⟨pre,row,post,F1,F2,F3,φ',hd,i1,e1,b1,o1⟩:=AJG hi e hrow;refine(hp _ _ _ _ (hcall pre post hd.lp) w m φ' _ i1 (.cons (.own e1) (.cons (.fn .nil) .nil)) b1).mono ?_;rintro en w2 ⟨v,m2,φ2,rfl,hv,i2,a2,b2⟩;obtain⟨φ3,i3,a3,b3⟩:=AEP hi e (by simpa using hb) hil hd e1 (by intro id hid;have:=b1 id hid;simp only[zS]at this;omega) o1 hlen i2 a2;refine⟨v,m2,φ3,rfl,?_,i3,a3,by simpa using b3⟩
  cases hv with
  | tup hv=>cases hv;exact .tup .nil
theorem H5 (q:Pn):wT (aT (some (.box (rqZ q 1))::rqB q)) (rqZ q 1)=some q.cells:=by
 rw[Pn.aB];have b1:=AFW q.exprs;have b2:=AFV q.cols;have b3:=AFU q.kids;have b4:=UB q.cols
 by_cases q1:q.exprs=[]<;>by_cases q2:q.cols=[]<;>by_cases q3:q.kids=[] <;>
  simp[rqZ,rqB,q1,q2,q3,wT,M3,aT,sH,bnd,tst,b4,Ex.aA,Pn.aA,aI]<;>simp_all [aI]
theorem AHQ {a b:Pn} (h1:rqZ a 1=rqZ b 1) (h2:rqB a=rqB b):a.cells=b.cells:=by
 have h:=H5 a;rw[h1,h2,H5 b]at h;injection h with h;exact h.symm
theorem AEQ {p:List AV→StL→Option (AV×StL)} {g1:FuncId} {es:List (List IV)} {i:Nat} {q q':Pn} (hrow:es[i]?=some q.cells) (hlen:(rqB q').length=(rqB q).length)
 (hcall:∀ pre post:List Value,pre.length=5*i→p [.own 0 (5*i), .fn (.func g1) []] (some (.box (gI pre (rqZ q 1) post))::rqB q)=some (.tup [],some (.box (gI pre (rqZ q' 1) post))::rqB q')) :
 X3 p g1 [.ownE 0 5 i 0, .fn (.func g1) []] [some (.tre 5 es)]=some (.tup [],[some (.tre 5 (es.set i q'.cells))]):=by
 have hx:∃ x,DescC p g1 [.ownE 0 5 i 0, .fn (.func g1) []] [some (.tre 5 es)] x:=⟨(es,i,q,q'),rfl,rfl,hrow,hlen,hcall⟩
 unfold X3;rw[dif_pos hx];have hc:=hx.choose_spec;generalize hx.choose=y at hc;obtain⟨es2,i2,q2,q2'⟩:=y;obtain⟨a1,a2,a3,a4,a5⟩:=hc;simp only at a1 a2 a3 a4 a5 ⊢;simp only[List.cons.injEq,AV.ownE.injEq,true_and,and_true]at a1;simp only[List.cons.injEq,Option.some.injEq,Blk.tre.injEq,true_and,and_true]at a2;subst a1;subst a2;rw[hrow]at a3;injection a3 with a3;have hqq:=Pn.F8 _ _ a3;subst hqq;have z1:=a5 (List.replicate (5*i) (.int .i64 0)) [] (by simp);rw[hcall (List.replicate (5*i) (.int .i64 0)) [] (by simp)]at z1;simp only[Option.some.injEq,Prod.mk.injEq,List.cons.injEq,Blk.box.injEq,true_and,gI,List.append_cancel_left_eq,List.append_cancel_right_eq]at z1;rw[AHQ z1.1 z1.2]
theorem ADM {w:World} {m:Mem} {φ:Pl} {st:Store} {id ix:Nat} {es:List (List IV)} {row:List IV} {x:Value} (hi:Inv w m φ st) (hr:Rep m φ (.ownE id 5 ix 0) x) (hs:st id=some (.tre 5 es)) (hq:es[ix]?=some row) (hp:lU row=true):IRep (iW w) (.iref row) x:=by
 cases hr with
 | @ownE _ _ _ _ b n e =>
  obtain⟨-,hok⟩:=bW hi e hs
  cases hok with
  | @tre T k _ vs F hh hlen hk hw hu hfit hnd hF hm hone =>
   have hil:=(zX.1 hq).1;obtain⟨f1,f2⟩:=J3 hw ix;obtain⟨F1,Fr,rfl,u1,ur⟩:=hu.split (5*ix);obtain⟨F2,F3,rfl,u2,u3⟩:=ur.split 5;rw[f2]at u2
   have hdr:es.drop ix=row::es.drop (ix+1):=by
    obtain⟨h,h'⟩:=zX.1 hq;rw[← h'];exact yL h
   have hq5:row.length=5:=hw _ (zU hq);rw[hdr,zD,← hq5,xX]at u2;rw[hq5]at u2
   have e2:((vs.take (5*es.length)).drop (5*ix)).take 5=(vs.drop (5*ix)).take 5:=by
    rw[xJ,zF];congr 1;omega
   rw[e2]at u2;have t2:=u2.pure hp;refine .iref (IAt.mk _ t2.toI fun j v hj=>?_);show w.cell? ⟨b,5*ix+0+j,none⟩=some v;rw[bX hh,yF];rw[zH]at hj;split at hj
   ·rw[yM]at hj;exact hj
   ·cases hj
def NW (call:dG) (g g1:FuncId) (args:List AV) (st:StL):Option (AV×StL) :=
 match args with
 | [.ownE id k ix 0, .fn (.func f) []]=>tst (f == g1 && k == 5) (match aT st id with
  | some (.tre k' es)=>if k'=5 then
   match es[ix]? with
   | some row=>if lU row=true then WI call g [.i (.iref row), .fn (.func g1) []] st else none
   | none=>none
   else none
  | _=>none)
 | _=>none
theorem EE {C:Ctx} {call:dG} (hcall:CallOk C call) {g g1:FuncId} {args:List AV} {stl stl':StL} {r:AV} (h:NW call g g1 args stl=some (r,stl')) (hy:g≠uB:=by decide) :
 (∃ fn,C.P.funcs[g]?=some fn∧fn.name≠ "runtime.NumGoroutine"∧fn.body.isSome=true)∧∀ (w:World) (m:Mem) (φ:Pl) (vs:List Value),Inv w m φ (aT stl)→RepL m φ args vs→(∀ id,φ id≠none→id<stl.length) →
  Calls C.P g vs.toArray w (bK w m φ r stl'):=by
 unfold NW at h;split at h
 ·rename_i id k ix f;obtain⟨h3,h2⟩:=aR.1 h;simp only[zW,beq_iff_eq]at h3;obtain⟨rfl,rfl⟩:=h3;split at h2
  ·rename_i k' es hs;split at h2
   ·rename_i hk;subst hk;split at h2
    ·rename_i row hq;split at h2
     ·rename_i hp;refine tH hcall (us:=[.i (.iref row), .fn (.func f) []]) (fun w m φ vs hi hr=>?_) h2 hy
      cases hr with
      | cons ra rb =>
      cases rb with
      | cons rf rn =>
      cases rn
      cases rf with
      | fn rz =>
      cases rz
      exact .cons (.i (ADM hi ra hs hq hp)) (.cons (.fn .nil) .nil)
     ·cases h2
    ·cases h2
   ·cases h2
  ·cases h2
 ·cases h
theorem TL {call:dG} {g g1:FuncId} {es:List (List IV)} {ix:Nat} {row:List IV} {r:AV} {stl:StL} (hq:es[ix]?=some row) (hp:lU row=true) (h:call g [.i (.iref row), .fn (.func g1) []] []=some (r,stl)) (hm:mfA r=true) (hs:ACF stl=true):NW call g g1 [.ownE 0 5 ix 0, .fn (.func g1) []] [some (.tre 5 es)]=some (ren (fun j=>some (j+1)) r,some (.tre 5 es)::jL 1 stl):=by
 unfold NW;simp only[beq_self_eq_true,Bool.and_self,tst,if_true,aT,hq,hp];unfold WI;simp[h,bnd,hm,hs,tst]
def trB (l:List Ex):Blk:=if l=[]then .arr 5 []else .tre 5 (Ex.aA l)
@[simp] theorem AP1 (r:Nat→Option Nat) (l:List Ex):vH r (some (trB l))=some (trB l):=by unfold trB;split<;>rfl
@[simp] theorem AL2 (l:List Ex):gM (some (trB l))=[]:=by unfold trB;split<;>rfl
@[simp] theorem AQT (l:List Ex):mfB (some (trB l))=true:=by
  unfold trB;split
  ·rfl
  ·simp[mfB]
@[simp] theorem APV (l:List Ex):sH 5 0 l.length (some (trB l))=some (Ex.aA l):=by
  unfold trB;split
  ·rename_i h;subst h;simp[sH,Ex.aA,fP]
  ·simp[sH]
theorem AH9 {l:List Ex} (h:l≠[]):trB l=.tre 5 (Ex.aA l):=by simp[trB,h]
def tXx (e:Ex) (j:Nat):AV:=.agg [.int e.kind, .int e.col, .bool e.val.null, .int e.val.n, .osl j 5 0 e.kids.length]
def rsX (x:Ex) (st:StL):AV×StL:=if x.kids=[]then(.i (.agg x.cells),st)else(tXx x st.length,st++[some (trB x.kids)])
theorem JW {x:Ex} (h:x.kids=[]) (st:StL):rsX x st=(.i (.agg x.cells),st):=by simp[rsX,h]
theorem JV {x:Ex} (h:x.kids≠[]) (st:StL):rsX x st=(tXx x st.length,st++[some (trB x.kids)]):=by simp[rsX,h]
theorem ALZ (k c:Int) (v:Val) (ks:List Ex) (j:Nat):tXx (Ex.mk k c v ks) j=.agg [.int k, .int c, .bool v.null, .int v.n, .osl j 5 0 ks.length]:=(rfl)
end Go.Av
namespace Go.Proofs.YtmcjmafajkeecaaGreatDoor.P
open Go Go.Av
set_option maxRecDepth 4000
set_option maxHeartbeats 4000000
noncomputable def ZX:FuncId→Option (List AV→StL→Option (AV×StL))
 | 1000000007=>none
 | 20=>none
 | g=>some (aH C0 g)
def O6:FuncId→Bool
 | 20=>true
 | g=>keepR g
noncomputable def CTr:Ctx:={ P:=Tryz.prog,G:=GS,ownArgs:=dU,keepRes:=O6,eqT:=vI,prim:=ZX,tree:=true }
@[simp] theorem AVV:CTr.P=Tryz.prog:=(rfl)
@[simp] theorem AVW (f):CTr.G f=GS f:=(rfl)
@[simp] theorem AVS (f):CTr.ownArgs f=dU f:=(rfl)
@[simp] theorem AVT (f):CTr.keepRes f=O6 f:=(rfl)
@[simp] theorem AVU (f):CTr.eqT f=vI f:=(rfl)
@[simp] theorem AVR:CTr.tree=true:=(rfl)
@[simp] theorem AYU:O6 20=true:=(rfl)
@[simp] theorem AdC (args:List AV) (st:StL):aH CTr 21 args st=aH C0 21 args st:=aN (C:=CTr) rfl args st
theorem AI2:PrimOk CTr:=by
 have h0:=aX pJ
 have key:∀ g q,CTr.prim g=some q→g≠uB∧q=aH C0 g:=by
  intro g q h;have h:ZX g=some q:=h;unfold ZX at h;split at h
  all_goals first
   | (cases h;done)
   | (injection h with h;subst h;exact⟨by assumption,rfl⟩)
 constructor
 ·intro g args st p h;unfold bM at h
  cases hq:CTr.prim g with
  | none=>rw[hq]at h;cases h
  | some q =>
   rw[hq]at h;obtain⟨hy,rfl⟩:=key g q hq;exact h0.name _ _ _ _ hy h
 ·intro g args st r st' h w m φ vs hi hr hb;unfold bM at h
  cases hq:CTr.prim g with
  | none=>rw[hq]at h;cases h
  | some q =>
   rw[hq]at h;obtain⟨hy,rfl⟩:=key g q hq;exact h0.calls _ _ _ _ _ hy h w m φ vs hi hr hb
theorem AHK:SoundOk CTr:=iF (C:=CTr) ft nt eqS mo AI2
def hfT (l:List Ex) (n:Nat):Nat→Blk
 | 0=>.arr 5 (List.replicate n YI)
 | i+1=>.tre 5 (Ex.aA (l.take (i+1))++List.replicate (n-(i+1)) YI)
theorem AJ7 {l:List Ex} {n:Nat} (h:l.length=n):hfT l n n=trB l:=by
 subst h
 cases hl:l.length with
 | zero=>have:=zZ.1 hl;subst this;simp[hfT,trB]
 | succ n =>
  have hT:l.take (n+1)=l:=zY (by omega);have hne:l≠[]:=fun h=>by subst h;simp at hl
  simp[hfT,AH9 hne,hT]
@[simp] theorem AP2 (r:Nat→Option Nat) (l:List Ex) (n:Nat):∀ i,vH r (some (hfT l n i))=some (hfT l n i)
  | 0=>rfl
  | _+1=>rfl
@[simp] theorem AL3 (l:List Ex) (n:Nat):∀ i,gM (some (hfT l n i))=[]
  | 0=>rfl
  | _+1=>rfl
theorem AJ6 {l:List Ex} {n i:Nat} {a:Ex} (ha:l[i]?=some a) (hn:i<n) (id:Nat) (st:Store) :
 dW id 5 i 0 a.cells st (some (hfT l n i))=some (upd st id (some (hfT l n (i+1)))):=by
 have hil:=(zX.1 ha).1;have hS:Ex.aA (l.take i)++[a.cells]=Ex.aA (l.take (i+1)):=by rw[aL ha,Ex.bB]
 have hD:(Ex.aA (l.take i)).length=i:=by simp;omega
 have g1:=AEL (n:=n) (z:=YI) hD hn;have g2:=AEK (n:=n) (z:=YI) (x:=a.cells) hD hn;have g3:splice YI 0 a.cells=some a.cells:=lF (by simp[YI,Ex.aB]);have g4:splice (kI YI) 0 a.cells=some a.cells:=lF (by simp[YI,kI,Ex.aB]);rw[hS]at g2;have hl:BI a.cells=false:=by rw[Ex.aB];simp[BI,AEB]
 cases i with
 | zero =>
  simp[Ex.aA]at g1 g2;simp[hfT,g1,g3,g4,hl,g2,show kX YI=true by simp[YI]]
 | succ i=>simp[hfT,g1,g2,g3]
def RTr (e:Ex) (i:Nat):AS :=
 { env:=[(0, .i (.iref [.int e.kind, .int e.col, .bool e.val.null, .int e.val.n, .isl (Ex.aA e.kids)])),(1, .fn (.func 21) []),(4, .own 0 0),(5, .own 1 0),(6,jk i (.int (i-1))),(12, .bool ((e.kids.length:Int) == 0)),(39, .int e.kids.length),(40, .int i),(41,jk i (.bool true))],
   st:=[some (.box [.int 0, .int 0, .bool false, .int 0, .nils]),some (.box [.int e.kind, .int e.col, .bool e.val.null, .int e.val.n, .osl 2 5 0 e.kids.length]),some (hfT (e.kids.map Ex.shp) e.kids.length i)] }
theorem VQ {e:Ex} (hk:e.kids≠[]) (hl:e.kids.length<1000000000) (ih:∀ a∈e.kids,aH CTr 20 [.i (.iref a.cells), .fn (.func 21) []] []=some (rsX a.shp [])) :
 aH CTr 20 [.i (.iref e.cells), .fn (.func 21) []] []=some (rsX (Ex.mk e.kind e.col e.val (e.kids.map Ex.shp)) []):=by
 rw[aF rfl Tryz.func20 rfl rfl,Ex.aB];have hb:56*(e.kids.length:Int)≤281474976710656:=by omega
 rw[JV (by simpa using hk)];simp[hk,hb];rw[aW (RTr e) e.kids.length (by simp[RTr,hfT,YI])]
 ·rw[aD];simp[RTr,AJ7 (l:=e.kids.map Ex.shp) (n:=e.kids.length) (by simp),ALZ]
 ·intro i hi;have h3:=zT hi;have hm:=zU h3;have hc:=ih _ hm;have r2:=Ex.aS h3;have hput:=AJ6 (l:=e.kids.map Ex.shp) (n:=e.kids.length) (i:=i) (a:=Ex.shp e.kids[i]) (by simp[h3]) hi;generalize e.kids[i]=a at h3 hc r2 hput;have w2:IntKind.i64.wrap ((i:Int)+1)=i+1:=wrO;rw[Ex.aB]at r2 hc;generalize a.shp=x at hc hput;by_cases hx:x.kids=[]
  ·rw[JW hx]at hc;simp only[Ex.aB,hx,Ex.aA]at hput hc;simp[RTr,hi,r2,hc,w2,hput]
  ·rw[JV hx]at hc;simp only[Ex.aB]at hput;simp at hc;simp[RTr,hi,r2,hc,tXx,w2,hput]
theorem IB {e x:Ex} (hk:e.kids=[]) (hx:x.kids=[]) (h:aH C0 21 [.i (.iref e.cells)] []=some (.i (.agg x.cells),[])) :
 aH CTr 20 [.i (.iref e.cells), .fn (.func 21) []] []=some (rsX x []):=by
 rw[aF rfl Tryz.func20 rfl rfl,JW hx];rw[Ex.aB e]at h ⊢;rw[Ex.aB x]at h ⊢;simp[hk,Ex.aA]at h ⊢;simp[h]
theorem ADQ {w:Int}:∀ (n:Nat) (e:Ex),e.vB w n=true→aH CTr 20 [.i (.iref e.cells), .fn (.func 21) []] []=some (rsX e.shp []):=by
 have leaf:∀ e:Ex,e.kids=[]→e.headOk w=true→aH CTr 20 [.i (.iref e.cells), .fn (.func 21) []] []=some (rsX e.shp []):=by
  intro e hk hd;by_cases h2:e.kind=2
  ·rw[Ex.dS,if_pos h2];exact IB hk rfl (ABE h2)
  ·have hv:e.val=⟨false,0⟩:=by
    rcases Ex.jY w e with hf|⟨-,hc|hc|hc⟩
    ·rw[hf]at hd;cases hd
    ·obtain⟨c1,c2,c3,c4,c5,c6⟩:=hc
     cases hq:e.val;rw[hq]at c4 c5;simp at c4 c5;simp[c4,c5]
    ·exact absurd hc.1 h2
    ·obtain⟨c1,c2,c3,c4,c5,c6⟩:=hc
     cases hq:e.val;rw[hq]at c4 c5;simp at c4 c5;simp[c4,c5]
   rw[Ex.ADF hk h2 hv];refine IB hk hk (AJS h2 ?_);obtain⟨k,c,v,ks⟩:=e;simp only[Ex.NZ]at hk;subst hk;rw[Ex.size_eq];simp[Ex.bV]
 intro n
 induction n with
 | zero =>
  intro e h;simp only[Ex.vB,zW,zN]at h;obtain⟨h1,h2,h3⟩:=h;exact leaf e (zZ.1 (by omega)) h3
 | succ n ih =>
  intro e h;simp only[Ex.vB,zW,zN]at h;obtain⟨h1,h3,h4⟩:=h;by_cases hk:e.kids=[]
  ·exact leaf e hk h3
  ·have hk0:e.kids.length≠0:=fun h=>hk (zZ.1 h)
   have hk2:e.kids.length≤2:=by
    unfold bT at h1;split at h1
    ·omega
    ·split at h1
     ·omega
     ·split at h1<;>omega
   rcases Ex.jY w e with hf|⟨-,hc|hc|hc⟩
   ·rw[hf]at h3;cases h3
   ·omega
   ·omega
   ·obtain⟨c1,c2,c3,c4,c5,c6⟩:=hc
    have hv:e.val=⟨false,0⟩:=by
     cases hq:e.val;rw[hq]at c4 c5;simp at c4 c5;simp[c4,c5]
    rw[Ex.ZI c2 hv];exact VQ hk (by omega) fun a ha=>ih a (zM.1 h4 a ha)
theorem ADR {w:Int} {e:Ex} (h:e.ok w=true):aH CTr 20 [.i (.iref e.cells), .fn (.func 21) []] []=some (rsX e.shp []):=by
 unfold Ex.ok at h;simp only[zW]at h;exact ADQ 8 e h.2
noncomputable def AI4 (pe:List AV→StL→Option (AV×StL)):FuncId→Option (List AV→StL→Option (AV×StL))
 | 1000000007=>none
 | 19=>none
 | 20=>some (NW (aH CTr) 20 21)
 | 18=>some pe
 | g=>some (aH C0 g)
def AMU:FuncId→Bool
 | 20=>true
 | g=>dU g
noncomputable def mkK (pe:List AV→StL→Option (AV×StL)):Ctx:={ P:=Tryz.prog,G:=GS,ownArgs:=AMU,keepRes:=O6,eqT:=vI,prim:=AI4 pe,tree:=true }
section
variable (pe:List AV→StL→Option (AV×StL))
@[simp] theorem AU9:(mkK pe).P=Tryz.prog:=(rfl)
@[simp] theorem AUA (f):(mkK pe).G f=GS f:=(rfl)
@[simp] theorem AU6 (f):(mkK pe).ownArgs f=AMU f:=(rfl)
@[simp] theorem AU7 (f):(mkK pe).keepRes f=O6 f:=(rfl)
@[simp] theorem AU8 (f):(mkK pe).eqT f=vI f:=(rfl)
@[simp] theorem AU5:(mkK pe).tree=true:=(rfl)
@[simp] theorem AQS (args:List AV) (st:StL):aH (mkK pe) 20 args st=NW (aH CTr) 20 21 args st:=aN (C:=mkK pe) rfl args st
@[simp] theorem APC (args:List AV) (st:StL):aH (mkK pe) 18 args st=pe args st:=aN (C:=mkK pe) rfl args st
end
@[simp] theorem AP3:AMU 20=true:=(rfl)
@[simp] theorem AMT:AMU 18=true:=(rfl)
@[simp] theorem AQG:AMU 19=true:=(rfl)
def AC7 (pe:List AV→StL→Option (AV×StL)):Prop:=∀ args st r st',pe args st=some (r,st')→∀ (w:World) (m:Mem) (φ:Pl) (vs:List Value),Inv w m φ (aT st)→RepL m φ args vs→(∀ id,φ id≠none→id<st.length)→Calls Tryz.prog 18 vs.toArray w (bK w m φ r st')
theorem AB4:∃ fn,Tryz.prog.funcs[18]?=some fn∧fn.name≠ "runtime.NumGoroutine"∧fn.body.isSome=true:=⟨_,Tryz.func18,by decide,rfl⟩
theorem AMQ {pe:List AV→StL→Option (AV×StL)} (hpe:AC7 pe):PrimOk (mkK pe):=by
 have h0:=aX pJ;have hT:=aX AHK
 have key:∀ g q,(mkK pe).prim g=some q→(g≠uB∧q=aH C0 g)∨(g=20∧q=NW (aH CTr) 20 21)∨(g=18∧q=pe):=by
  intro g q h;have h:AI4 pe g=some q:=h;unfold AI4 at h;split at h
  all_goals first
   | (cases h;done)
   | (injection h with h;subst h;exact .inr (.inl ⟨rfl,rfl⟩))
   | (injection h with h;subst h;exact .inr (.inr ⟨rfl,rfl⟩))
   | (injection h with h;subst h;exact .inl ⟨by assumption,rfl⟩)
 constructor
 ·intro g args st p h;unfold bM at h
  cases hq:(mkK pe).prim g with
  | none=>rw[hq]at h;cases h
  | some q =>
   rw[hq]at h
   rcases key g q hq with ⟨hy,rfl⟩|⟨rfl,rfl⟩|⟨rfl,rfl⟩
   ·exact h0.name _ _ _ _ hy h
   ·exact(EE hT (r:=p.1) (stl':=p.2) h).1
   ·exact AB4
 ·intro g args st r st' h w m φ vs hi hr hb;unfold bM at h
  cases hq:(mkK pe).prim g with
  | none=>rw[hq]at h;cases h
  | some q =>
   rw[hq]at h
   rcases key g q hq with ⟨hy,rfl⟩|⟨rfl,rfl⟩|⟨rfl,rfl⟩
   ·exact h0.calls _ _ _ _ _ hy h w m φ vs hi hr hb
   ·exact(EE hT h).2 w m φ vs hi hr hb
   ·exact hpe _ _ _ _ h w m φ vs hi hr hb
theorem AG8 {pe:List AV→StL→Option (AV×StL)} (hpe:AC7 pe):SoundOk (mkK pe):=iF (C:=mkK pe) ft nt eqS mo (AMQ hpe)
noncomputable def peN:Nat→List AV→StL→Option (AV×StL)
 | 0=>fun _ _=>none
 | n+1=>X3 (mI (mkK (peN n)) false 18) 19
theorem AG9:∀ n,AC7 (peN n)
 | 0=>fun _ _ _ _ h=>by cases h
 | n+1=>fun args st r st' h w m φ vs hi hr hb=>by
  have hs:=AG8 (AG9 n);exact WZ (P:=Tryz.prog) (fun a s r' s' h'=>(iA hs h').2) h w m φ vs hi hr hb
end Go.Proofs.YtmcjmafajkeecaaGreatDoor.P
namespace Go.Av
def rqG (z:AV) (q:Pn) (j:Nat):List AV :=
 [.int q.kind, .int q.table,if q.exprs=[]then z else .osl j 5 0 q.exprs.length,if q.cols=[]then z else .osl (if q.exprs=[]then j else j+1) 1 0 q.cols.length,if q.kids=[]then z else .osl (if q.exprs=[]then(if q.cols=[]then j else j+1)else(if q.cols=[]then j+1 else j+2)) 5 0 q.kids.length]
theorem BS {pre:List Value} {row:List AV} {post:List Value} {k:Nat} (h:k<row.length):(gI pre row post)[pre.length+k]?=row[k]?:=by
 unfold gI;rw[zB (by simp[dR]),yV (by simpa [dR]using h)];simp[dR]
def Pn.YB (q:Pn):Pn:=.mk q.kind q.table (q.exprs.map Ex.shp) q.cols q.kids
theorem lW (pre post:List Value) (row:List AV):aZ (gI pre row post)=aZ row:=by simp[gI,IY,tL]
theorem lT (r:Nat→Option Nat) (pre post:List Value) (row:List AV):vG r (gI pre row post)=gI pre (vG r row) post:=by simp[gI,SX,vS]
theorem OB {α:Type}:∀ {cs:List α} {i:Nat} {z:α},cs[i]?=some z→nJ 1 (dropE i cs)=some [z]
 | [],i,z,h=>by simp at h
 | c::cs,0,z,h=>by simp at h;subst h;simp[dropE,nJ]
 | c::cs,i+1,z,h=>by simp at h;simpa [dropE]using OB h
end Go.Av
namespace Go.Proofs.YtmcjmafajkeecaaGreatDoor.P
open Go Go.Av
set_option maxRecDepth 4000
set_option maxHeartbeats 4000000
theorem AEZ {pe:List AV→StL→Option (AV×StL)} {z:AV} (hz:z=.nils∨z=.i (.isl [])) {q:Pn} (he:q.exprs=[]) (pre post:List Value):aH (mkK pe) 19 [.own 0 pre.length] (some (.box (gI pre (rqG z q 1) post))::rqB q)=some (.tup [],some (.box (gI pre (rqG z q 1) post))::rqB q):=by
 have h3:nJ 1 (dropE (pre.length+2) (gI pre (rqG z q 1) post))=some [z]:=OB (by rw[BS (by simp[rqG])];simp[rqG,he]);rw[aF rfl Tryz.func19 rfl rfl]
 rcases hz with rfl|rfl
 ·simp[h3];rw[aD];by_cases h1:q.cols=[]<;>by_cases h2:q.kids=[]<;>simp[rqG,rqB,he,h1,h2]at h3 ⊢<;>simp[h3,lW,lT]
 ·simp[h3];rw[aD];by_cases h1:q.cols=[]<;>by_cases h2:q.kids=[]<;>simp[rqG,rqB,he,h1,h2]at h3 ⊢<;>simp[h3,lW,lT]
theorem AAC {l:List Ex} {i:Nat} {a:Ex} (h:l[i]?=some a):(FU l i)[i]?=some a.cells:=by
 have hl:=(zX.1 h).1
 have hn:∀ (es:List Ex) (j:Nat) (b:Ex),es[j]?=some b→(Ex.aA es)[j]?=some b.cells:=by
  intro es
  induction es with
  | nil=>intro j b h;simp at h
  | cons c es ih =>
   intro j b h
   cases j with
   | zero=>simp at h;subst h;simp[Ex.aA]
   | succ j=>simp at h;simpa [Ex.aA]using ih j b h
 unfold FU;apply hn;rw[zB (by simp;omega),nU h];simp;rw[show i-min i l.length=0 by omega];rfl
theorem AE4 {l:List Ex} {i:Nat} {a:Ex} (h:l[i]?=some a) (id:Nat) (st:Store):dW id 5 i 0 a.shp.cells st (some (.tre 5 (FU l i)))=some (upd st id (some (.tre 5 (FU l (i+1))))):=by
 have g1:=KG h;have g2:=KF h;have g3:splice a.cells 0 a.shp.cells=some a.shp.cells:=lF (by simp[Ex.aB]);simp[g1,g2,g3]
theorem AMC {l:List Ex} {i:Nat} {a:Ex} {w:Int} (h:l[i]?=some a) (ho:a.ok w=true):NW (aH CTr) 20 21 [.ownE 0 5 i 0, .fn (.func 21) []] [some (.tre 5 (FU l i))]=some (rsX a.shp [some (.tre 5 (FU l i))]):=by
 have h1:=ADR ho;by_cases hx:a.shp.kids=[]
 ·rw[JW hx]at h1 ⊢;rw[TL (AAC h) (by rw[Ex.aB];rfl) h1 (by rw[Ex.aB,hx];rfl) rfl];rfl
 ·rw[JV hx]at h1 ⊢;rw[TL (AAC h) (by rw[Ex.aB];rfl) h1 (by rfl) (by simp[ACF])];simp[tXx,jL,ren]
def SK1 (z:AV) (q:Pn) (pre post:List Value) (R:StL) (i:Nat):AS :=
 { env:=[(0, .own 0 pre.length),(2,jk i (.int (i-1))),(7, .int q.exprs.length),(8, .int i),(9,jk i (.bool true))],
   st:=some (.box (gI pre (rqG z q 1) post))::some (.tre 5 (FU q.exprs i))::R }
theorem AEY {pe:List AV→StL→Option (AV×StL)} {z:AV} (hz:z=.nils∨z=.i (.isl [])) {q:Pn} (he:q.exprs≠[]) (hl:q.exprs.length<1000000000) (ho:∀ e∈q.exprs,∃ w,e.ok w=true) (pre post:List Value):aH (mkK pe) 19 [.own 0 pre.length] (some (.box (gI pre (rqG z q 1) post))::rqB q)=some (.tup [],some (.box (gI pre (rqG z q 1) post))::rqB q.YB):=by
 have h3:nJ 1 (dropE (pre.length+2) (gI pre (rqG z q 1) post))=some [.osl 1 5 0 q.exprs.length]:=OB (by rw[BS (by simp[rqG])];simp[rqG,he]);have he1:(q.exprs.map Ex.shp)≠[]:=by simpa using he
 obtain⟨R,hR,hR1⟩:∃ R,rqB q=some (.tre 5 (Ex.aA q.exprs))::R∧rqB q.YB=some (.tre 5 (Ex.aA (q.exprs.map Ex.shp)))::R:=by
  refine⟨(if q.cols=[]then []else [some (.arr 1 (aI q.cols))])++(if q.kids=[]then []else [some (.tre 5 (Pn.aA q.kids))]),by simp[rqB,he],?_⟩;by_cases h1:q.cols=[]<;>by_cases h2:q.kids=[]<;>simp[rqB,Pn.YB,he,h1,h2]
 have hRR:R=(if q.cols=[]then []else [some (.arr 1 (aI q.cols))])++(if q.kids=[]then []else [some (.tre 5 (Pn.aA q.kids))]):=by
  simp[rqB,he]at hR;exact hR.symm
 rw[hR,hR1]
 by_cases h1:q.cols=[]<;>by_cases h2:q.kids=[]<;>rcases hz with hz|hz<;>(
  simp only[h1,h2,if_true,if_false,yS,yT,z8]at hRR;rw[aF rfl Tryz.func19 rfl rfl];simp only[rqG,he,h1,h2,hz,hRR,if_true,if_false]at h3 ⊢;simp[h3,lW,lT];rw[aW (SK1 z q pre post R) q.exprs.length (by simp[SK1,qC,rqG,he,h1,h2,hz,hRR])]
  ·rw[aD];simp only[SK1,iH,rqG,he,h1,h2,hz,hRR,if_true,if_false];simp[h3,lW,lT]
  ·intro i hi;have h4:=zT hi;have hm:=zU h4;obtain⟨w,hw⟩:=ho _ hm;have hc:=AMC h4 hw;have hput:=AE4 h4;have hlen:=AE5 q.exprs i;generalize q.exprs[i]=a at h4 hm hw hc hput;have w2:IntKind.i64.wrap ((i:Int)+1)=i+1:=wrO;generalize a.shp=x at hc hput;simp only[SK1,rqG,he,h1,h2,hz,hRR,if_true,if_false];by_cases hx:x.kids=[]
   ·rw[JW hx]at hc;simp only[Ex.aB,hx,Ex.aA]at hput hc;simp[hi,h3,hc,w2,hput,lW,lT]
   ·rw[JV hx]at hc;simp only[Ex.aB]at hput
    simp[hi,h3,hc,tXx,w2,hput,lW,lT])
theorem AIE {l:List Pn} {i:Nat} {a:Pn} (h:l[i]?=some a):(LM l i)[i]?=some a.cells:=by
 have hl:=(zX.1 h).1
 have hn:∀ (es:List Pn) (j:Nat) (b:Pn),es[j]?=some b→(Pn.aA es)[j]?=some b.cells:=by
  intro es
  induction es with
  | nil=>intro j b h;simp at h
  | cons c es ih =>
   intro j b h
   cases j with
   | zero=>simp at h;subst h;simp[Pn.aA]
   | succ j=>simp at h;simpa [Pn.aA]using ih j b h
 unfold LM;apply hn;rw[zB (by simp;omega),nU h];simp;rw[show i-min i l.length=0 by omega];rfl
theorem Q6 (q:Pn):(rqB q.shp).length=(rqB q).length:=by
 rw[Pn.dS];by_cases h0:q.exprs=[]<;>by_cases h1:q.cols=[]<;>by_cases h2:q.kids=[]<;>simp[rqB,h0,h1,h2]
def Y4 (n:Nat) (q:Pn):Prop:=∀ (z:AV),(z=.nils∨z=.i (.isl []))→∀ pre post:List Value,mI (mkK (peN n)) false 18 [.own 0 pre.length, .fn (.func 19) []] (some (.box (gI pre (rqG z q 1) post))::rqB q)=some (.tup [],some (.box (gI pre (rqG z q.shp 1) post))::rqB q.shp)
theorem Q5 (z:AV) (q:Pn) (j:Nat):rqG z q.shp j=rqG z q j:=by
 rw[Pn.dS];obtain⟨k,t,es,cs,ks⟩:=q;by_cases h1:es=[]<;>by_cases h2:cs=[]<;>by_cases h3:ks=[]<;>simp[rqG,h1,h2,h3]
theorem ANC {n:Nat} {l:List Pn} {i:Nat} {a:Pn} (h:l[i]?=some a) (hC:Y4 n a):peN (n+1) [.ownE 0 5 i 0, .fn (.func 19) []] [some (.tre 5 (LM l i))]=some (.tup [],[some (.tre 5 (LM l (i+1)))]):=by
 rw[← KE h];refine AEQ (AIE h) (Q6 a) fun pre post hp=>?_
 have:=hC (.i (.isl [])) (.inr rfl) pre post;rw[hp]at this;exact this
theorem ABF {pe:List AV→StL→Option (AV×StL)} {z:AV} (hz:z=.nils∨z=.i (.isl [])) {q:Pn} (hl:q.exprs.length<1000000000) (ho:∀ e∈q.exprs,∃ w,e.ok w=true) (pre post:List Value):aH (mkK pe) 19 [.own 0 pre.length] (some (.box (gI pre (rqG z q 1) post))::rqB q)=some (.tup [],some (.box (gI pre (rqG z q 1) post))::rqB q.YB):=by
 by_cases he:q.exprs=[]
 ·rw[AEZ hz he,show rqB q.YB=rqB q by simp[rqB,Pn.YB,he]]
 ·exact AEY hz he hl ho pre post
def SE1 (z:AV) (q:Pn) (pre post:List Value) (R:StL) (i:Nat):AS :=
 { env:=[(0, .own 0 pre.length),(1, .fn (.func 19) []),(4,jk i (.int (i-1))),(12, .int q.kids.length),(13, .int i),(14,jk i (.bool true))],
   st:=some (.box (gI pre (rqG z q 1) post))::(R++[some (.tre 5 (LM q.kids i))]) }
theorem OJ {n:Nat} {q:Pn} (hk:q.kids=[]) (hl:q.exprs.length<1000000000) (ho:∀ e∈q.exprs,∃ w,e.ok w=true):Y4 n q:=by
 intro z hz pre post;have h4:nJ 1 (dropE (pre.length+4) (gI pre (rqG z q 1) post))=some [z]:=OB (by rw[BS (by simp[rqG])];simp[rqG,hk]);have hc:=ABF (pe:=peN n) hz hl ho pre post;rw[dH Tryz.func18 rfl rfl,Q5];have hE:rqB q.shp=rqB q.YB:=by rw[Pn.dS];simp[rqB,Pn.YB,hk]
 rw[hE];generalize hq1:rqB q.YB=R1 at *
 have hR1:R1=(if q.exprs=[]then []else [some (.tre 5 (Ex.aA (q.exprs.map Ex.shp)))])++(if q.cols=[]then []else [some (.arr 1 (aI q.cols))]):=by
  rw[← hq1];by_cases h0:q.exprs=[]<;>by_cases h1:q.cols=[]<;>simp[rqB,Pn.YB,h0,h1,hk]
 by_cases h0:q.exprs=[]<;>by_cases h1:q.cols=[]<;>rcases hz with hz|hz<;>(
  simp only[h0,h1,if_true,if_false,yS,yT,z8]at hR1;simp only[rqG,rqB,hk,h0,h1,hz,hR1,if_true,if_false,yS,z8,yT]at h4 hc ⊢;simp[hc,h4,lW,lT];rw[aD]
  simp[h4,lW,lT])
theorem AB3 {m:Nat} {q:Pn} (hk:q.kids≠[]) (hl:q.exprs.length<1000000000) (hkl:q.kids.length<1000000000) (ho:∀ e∈q.exprs,∃ w,e.ok w=true) (hC:∀ a∈q.kids,Y4 m a):Y4 (m+1) q:=by
 intro z hz pre post;have h4:nJ 1 (dropE (pre.length+4) (gI pre (rqG z q 1) post))=some [if q.kids=[]then z else .osl (if q.exprs=[]then(if q.cols=[]then 1 else 1+1)else(if q.cols=[]then 1+1 else 1+2)) 5 0 q.kids.length]:=OB (by rw[BS (by simp[rqG])];simp[rqG]);rw[if_neg hk]at h4;have hc:=ABF (pe:=peN (m+1)) hz hl ho pre post;rw[dH Tryz.func18 rfl rfl,Q5];have hk1:q.kids.map Pn.shp≠[]:=by simpa using hk
 obtain⟨R,hR⟩:∃ R:StL,R=(if q.exprs=[]then []else [some (.tre 5 (Ex.aA (q.exprs.map Ex.shp)))])++(if q.cols=[]then []else [some (.arr 1 (aI q.cols))]):=⟨_,rfl⟩
 have hE1:rqB q.YB=R++[some (.tre 5 (Pn.aA q.kids))]:=by
  rw[hR];by_cases h0:q.exprs=[]<;>by_cases h1:q.cols=[]<;>simp[rqB,Pn.YB,h0,h1,hk]
 have hE2:rqB q.shp=R++[some (.tre 5 (Pn.aA (q.kids.map Pn.shp)))]:=by
  rw[hR,Pn.dS];by_cases h0:q.exprs=[]<;>by_cases h1:q.cols=[]<;>simp[rqB,h0,h1,hk]
 rw[hE2];rw[hE1]at hc
 by_cases h0:q.exprs=[]<;>by_cases h1:q.cols=[]<;>rcases hz with hz|hz<;>(
  simp only[h0,h1,if_true,if_false,yS,yT,z8]at hR;simp only[rqG,rqB,hk,h0,h1,hz,hR,if_true,if_false,yS,z8,yT]at h4 hc ⊢;simp[hc,h4,lW,lT];rw[aW (SE1 z q pre post R) q.kids.length (by simp[SE1,qB,rqG,hk,h0,h1,hz,hR])]
  ·rw[aD];simp only[SE1,uS,rqG,hk,h0,h1,hz,hR,if_true,if_false,yS,z8,yT];simp[h4,lW,lT]
  ·intro i hi;have g4:=zT hi;have hm:=zU g4;have hkid:=ANC g4 (hC _ hm);have hlen:=AE3 q.kids i;have w2:IntKind.i64.wrap ((i:Int)+1)=i+1:=wrO;simp only[SE1,rqG,hk,h0,h1,hz,hR,if_true,if_false,yS,z8,yT]
   simp[hi,h4,hkid,w2,lW,lT])
end Go.Proofs.YtmcjmafajkeecaaGreatDoor.P
namespace Go.Av
theorem YO {p:Pn} {a b:Int} (hd:p.headOk=true) (h:bR p.kind p.exprs p.cols a b≠0):∀ e∈p.exprs,∃ w,e.ok w=true:=by
 unfold Pn.headOk at hd;simp only[zW,yB,zN]at hd;obtain⟨d1,d2,d3,d4⟩:=hd;have hno:p.exprs.length=0→∀ e∈p.exprs,∃ w,e.ok w=true:=fun h0 e he=>by rw[zZ.1 h0]at he;cases he
 have hal:∀ w:Int,p.exprs.all (Ex.ok w)=true→∀ e∈p.exprs,∃ w,e.ok w=true:=fun w hw e he=>⟨w,zM.1 hw e he⟩
 unfold bR at h;split at h
 ·split at h
  ·rename_i h1 h2;exact hal _ h2.2
  ·exact absurd rfl h
 ·split at h
  ·rename_i h1 h2;refine hno ?_;rw[if_neg (by omega)]at d2;unfold bU at d2;rw[if_neg (by omega)]at d2;omega
  ·split at h
   ·rename_i h1 h2 h3;refine hno ?_;rw[if_neg (by omega)]at d2;unfold bU at d2;rw[if_neg (by omega)]at d2;omega
   ·split at h
    ·split at h
     ·rename_i h9;exact hal _ h9
     ·exact absurd rfl h
    ·split at h
     ·rename_i h9;exact hal _ h9
     ·exact absurd rfl h
end Go.Av
namespace Go.Proofs.YtmcjmafajkeecaaGreatDoor.P
open Go Go.Av
theorem AJB {ws:List Int}:∀ (p:Pn) (n:Nat),p.wd ws n≠0→Y4 n p:=by
 intro p
 induction p using Pn.ind with
 | h k t es cs ks ih =>
  intro n h;generalize hpp:Pn.mk k t es cs ks=p at *
  have hks:ks=p.kids:=by rw[← hpp];rfl
  subst hks;rw[Pn.sI]at h;split at h
  case isFalse=>exact absurd rfl h
  rename_i hc;obtain⟨hd,hk0⟩:=hc;have he6:=Pn.kP hd;have hk2:=Pn.tO hd;by_cases h1:p.kind=1
  ·have hd':=hd;unfold Pn.headOk at hd';simp only[zW,yB,zN]at hd';obtain⟨d1,d2,d3,d4⟩:=hd'
   have hex:p.exprs=[]:=by
    rw[h1,if_neg (by omega)]at d2;exact zZ.1 (by unfold bU at d2;rw[if_neg (by omega)]at d2;omega)
   have hkd:p.kids=[]:=by
    rw[h1]at d1;exact zZ.1 (by unfold eX at d1;rw[if_pos rfl]at d1;omega)
   exact OJ hkd (by omega) (by rw[hex];simp)
  ·rw[if_neg h1]at h;split at h
   case isFalse=>exact absurd rfl h
   rename_i hall;rw[zM]at hall;have ho:=YO hd h;by_cases hkk:p.kids=[]
   ·exact OJ hkk (by omega) ho
   ·obtain⟨m,rfl⟩:∃ m,n=m+1:=by
     rcases hk0 with hk0|hk0
     ·exact absurd hk0 hkk
     ·exact⟨n-1,by omega⟩
    refine AB3 hkk (by omega) (by omega) ho fun a ha=>?_
    have:=hall a ha;simp only[zN,Nat.add_sub_cancel]at this;exact ih a ha m this
theorem WW {ws:List Int} {p:Pn} (h:p.width ws≠0):Y4 8 p:=by
 unfold Pn.width at h;split at h
 ·exact AJB p 8 h
 ·exact absurd rfl h
end Go.Proofs.YtmcjmafajkeecaaGreatDoor.P
namespace Go.Av
theorem Ex.ALT {w:Int}:∀ (n:Nat) (e:Ex),e.vB w n=true→e.shp.vB w n=true:=by
 have hd:∀ e:Ex,e.headOk w=true→(e.kids.length:Int)=bT e.kind→e.shp.headOk w=true∧e.shp.kind=e.kind∧e.shp.kids=e.kids.map Ex.shp:=by
  intro e h hk;rw[Ex.dS];by_cases h2:e.kind=2
  ·rw[if_pos h2];rw[h2]at hk;have:e.kids=[]:=zZ.1 (by unfold bT at hk;rw[if_pos (by omega)]at hk;omega);exact⟨by simp[Ex.headOk,Val.ok],by simp[h2],by simp[this]⟩
  ·rw[if_neg h2];refine⟨?_,by simp,by simp⟩;unfold Ex.headOk at h ⊢;simp only[Ex.TM,Ex.AO0,Ex.ALS];by_cases h1:e.kind=1
   ·simp[h1]at h;simp[h1,h.1,h.2.1]
   ·simp[h1,h2]at h;simp[h1,h2,h.1]
 intro n
 induction n with
 | zero =>
  intro e h;simp only[Ex.vB,zW,zN]at h ⊢;obtain⟨h1,h2,h3⟩:=h;obtain⟨g1,g2,g3⟩:=hd e h3 h1;rw[g2,g3];exact⟨by simpa using h1,h2,g1⟩
 | succ n ih =>
  intro e h;simp only[Ex.vB,zW,zN]at h ⊢;obtain⟨h1,h3,h4⟩:=h;obtain⟨g1,g2,g3⟩:=hd e h3 h1;rw[g2,g3];refine⟨by simpa using h1,g1,?_⟩;rw[zM]at h4 ⊢;intro x hx;simp at hx;obtain⟨a,ha,rfl⟩:=hx;exact ih a (h4 a ha)
theorem Ex.AMV {w:Int} {e:Ex} (h:e.ok w=true):e.shp.ok w=true:=by
 unfold Ex.ok at h ⊢;simp only[zW]at h ⊢;exact⟨h.1,Ex.ALT 8 e h.2⟩
theorem wK {w:Int} {l:List Ex} (h:l.all (Ex.ok w)=true):(l.map Ex.shp).all (Ex.ok w)=true:=by
 rw[zM]at h ⊢;intro x hx;simp at hx;obtain⟨a,ha,rfl⟩:=hx;exact Ex.AMV (h a ha)
theorem UJ {k:Int} {es:List Ex} {cs:List Int} {a b:Int} (h:bR k es cs a b≠0):bR k (es.map Ex.shp) cs a b=bR k es cs a b:=by
 unfold bR at h ⊢;split
 ·rename_i h1;rw[if_pos h1]at h;split at h
  ·rename_i h2;rw[if_pos ⟨h2.1,wK h2.2⟩,if_pos h2]
  ·exact absurd rfl h
 ·rename_i h1;rw[if_neg h1]at h;split
  ·rfl
  ·rename_i h2;rw[if_neg h2]at h;split
   ·rfl
   ·rename_i h3;rw[if_neg h3]at h;split
    ·rename_i h4;rw[if_pos h4]at h;split at h
     ·rename_i h5;rw[if_pos (wK h5),if_pos h5,x8]
     ·exact absurd rfl h
    ·rename_i h4;rw[if_neg h4]at h;split at h
     ·rename_i h5;rw[if_pos (wK h5),if_pos h5]
     ·exact absurd rfl h
theorem WO (p:Pn):p.shp.headOk=p.headOk:=by
 rw[Pn.dS];obtain⟨k,t,es,cs,ks⟩:=p;unfold Pn.headOk;simp only[Pn.gW,Pn.eO,Pn.bZ,Pn.iR,Pn.eT,x8];rfl
theorem Pn.ALM {ws:List Int}:∀ (p:Pn) (n:Nat),p.wd ws n≠0→p.shp.wd ws n=p.wd ws n:=by
 intro p
 induction p using Pn.ind with
 | h k t es cs ks ih =>
  intro n h;generalize hpp:Pn.mk k t es cs ks=p at *
  have hks:ks=p.kids:=by rw[← hpp];rfl
  subst hks;rw[Pn.sI]at h;rw[Pn.sI ws n p.shp,WO,Pn.sI ws n p];split at h
  case isFalse=>exact absurd rfl h
  rename_i hc;rw[if_pos hc];have hsk:p.shp.kids=p.kids.map Pn.shp:=by rw[Pn.dS];simp
  have hse:p.shp.exprs=p.exprs.map Ex.shp:=by rw[Pn.dS];simp
  have hskd:p.shp.kind=p.kind:=by rw[Pn.dS];simp
  have hst:p.shp.table=p.table:=by rw[Pn.dS];simp
  have hsc:p.shp.cols=p.cols:=by rw[Pn.dS];simp
  rw[hsk,hse,hskd,hst,hsc,if_pos (by simpa using hc)];by_cases h1:p.kind=1
  ·rw[if_pos h1,if_pos h1]
  ·rw[if_neg h1]at h ⊢;rw[if_neg h1];split at h
   case isFalse=>exact absurd rfl h
   rename_i hall;rw[if_pos hall];have hall':=hall;rw[zM]at hall'
   have hkid:∀ a∈p.kids,a.shp.wd ws (n-1)=a.wd ws (n-1):=fun a ha=>by
    have:=hall' a ha;simp only[zN]at this;exact ih a ha (n-1) this
   have hat:∀ i:Nat,(((p.kids.map Pn.shp)[i]?).map (Pn.wd ws (n-1))).getD 0=((p.kids[i]?).map (Pn.wd ws (n-1))).getD 0:=by
    intro i;rw[zA8]
    cases hi:p.kids[i]? with
    | none=>rfl
    | some a=>simp only[zA5,Option.getD_some];exact hkid a (zU hi)
   rw[if_pos,hat 0,hat 1]
   ·exact UJ h
   ·rw[zM];intro x hx;simp at hx;obtain⟨a,ha,rfl⟩:=hx;simp only[zN];rw[hkid a ha];have:=hall' a ha;simpa using this
theorem Pn.LV {ws:List Int} {p:Pn} (h:p.width ws≠0):p.shp.width ws=p.width ws:=by
 unfold Pn.width at h ⊢;split at h
 ·rename_i hw;rw[if_pos hw,if_pos hw];exact Pn.ALM p 8 h
 ·exact absurd rfl h
end Go.Av
namespace Go.Proofs.YtmcjmafajkeecaaGreatDoor.P
open Go Go.Av
set_option maxRecDepth 4000
structure CopyA (args:List AV) (st:StL) (p:Pn):Prop where
 args:args=[.i (.iref p.cells)]
 st:st=[]
 sz:p.size<1000000000
 th:p.thin
 ti:p.tiny
noncomputable def F6 (args:List AV) (st:StL):Option (AV×StL):=open Classical in if h:∃ p,CopyA args st p then some (rqA h.choose 0,rqB h.choose)else none
theorem AB8 {p:Pn} (hsz:p.size<1000000000) (hth:p.thin) (hty:p.tiny):F6 [.i (.iref p.cells)] []=some (rqA p 0,rqB p):=by
 have hx:∃ q,CopyA [.i (.iref p.cells)] [] q:=⟨p,rfl,rfl,hsz,hth,hty⟩
 unfold F6;rw[dif_pos hx];have hc:=hx.choose_spec.args;simp only[List.cons.injEq,AV.i.injEq,IV.iref.injEq,and_true]at hc;rw[← Pn.F8 _ _ hc]
theorem OM {args:List AV} {st st':StL} {r:AV} (h:F6 args st=some (r,st')) (w:World) (m:Mem) (φ:Pl) (vs:List Value) (hi:Inv w m φ (aT st)) (hr:RepL m φ args vs) (hb:∀ id,φ id≠none→id<st.length):Calls Tryz.prog 17 vs.toArray w (bK w m φ r st'):=by
 unfold F6 at h;split at h
 ·rename_i hx;injection h with h;injection h with h1 h2;obtain⟨ha,hs,h3,h4,h5⟩:=hx.choose_spec;generalize hx.choose=p at *
  subst h1;subst h2;subst ha;subst hs
  have hφ:φ=fun _=>none:=by
   funext id
   cases hq:φ id with
   | none=>rfl
   | some q=>exact absurd (hb id (by rw[hq];simp)) (by simp)
  subst hφ;exact(G.qM h3 h4 h5 hi hr).mono fun e w' h'=>wM.own h'
 ·cases h
end Go.Proofs.YtmcjmafajkeecaaGreatDoor.P
namespace Go.Av
end Go.Av
namespace Go.Proofs.YtmcjmafajkeecaaGreatDoor.P
open Go Go.Av
set_option maxRecDepth 4000
set_option maxHeartbeats 4000000
noncomputable def AI8:FuncId→Option (List AV→StL→Option (AV×StL))
 | 1000000007=>none
 | 6=>none
 | 17=>some F6
 | 18=>some (mI (mkK (peN 8)) false 18)
 | 13=>some (AIK (aH C0) 13)
 | g=>some (aH C0 g)
def AKQ:FuncId→Bool
 | 13=>true
 | 17=>false
 | g=>dU g
def QO:FuncId→Bool
 | 17=>true
 | g=>keepR g
noncomputable def CC:Ctx:={ P:=Tryz.prog,G:=GS,ownArgs:=AKQ,keepRes:=QO,eqT:=vI,prim:=AI8,tree:=true }
@[simp] theorem AeF:CC.P=Tryz.prog:=(rfl)
@[simp] theorem AeG (f):CC.G f=GS f:=(rfl)
@[simp] theorem AeC (f):CC.ownArgs f=AKQ f:=(rfl)
@[simp] theorem AeD (f):CC.keepRes f=QO f:=(rfl)
@[simp] theorem AeE (f):CC.eqT f=vI f:=(rfl)
@[simp] theorem AeB:CC.tree=true:=(rfl)
@[simp] theorem ASB:AKQ 13=true:=(rfl)
@[simp] theorem ASA:AKQ 17=false:=(rfl)
@[simp] theorem AS9:AKQ 18=true:=(rfl)
@[simp] theorem AQZ:QO 17=true:=(rfl)
@[simp] theorem AS8:AKQ 14=false:=(rfl)
@[simp] theorem AQY:QO 6=false:=(rfl)
@[simp] theorem AQX:QO 14=false:=(rfl)
@[simp] theorem AQW:QO 18=false:=(rfl)
@[simp] theorem AQV:QO 13=false:=(rfl)
@[simp] theorem AdD (args:List AV) (st:StL):aH CC 14 args st=aH C0 14 args st:=aN (C:=CC) rfl args st
@[simp] theorem AdG (args:List AV) (st:StL):aH CC 17 args st=F6 args st:=aN (C:=CC) rfl args st
@[simp] theorem AdF (args:List AV) (st:StL):aH CC 18 args st=mI (mkK (peN 8)) false 18 args st:=aN (C:=CC) rfl args st
@[simp] theorem AdE (args:List AV) (st:StL):aH CC 13 args st=AIK (aH C0) 13 args st:=aN (C:=CC) rfl args st
theorem AJQ:∃ fn,Tryz.prog.funcs[17]?=some fn∧fn.name≠ "runtime.NumGoroutine"∧fn.body.isSome=true:=⟨_,Tryz.func17,by decide,rfl⟩
theorem AMS:PrimOk CC:=by
 have h0:=aX pJ;have hK:=AG8 (AG9 8)
 have key:∀ g q,CC.prim g=some q→(g≠uB∧q=aH C0 g)∨(g=17∧q=F6)∨(g=18∧q=mI (mkK (peN 8)) false 18)∨(g=13∧q=AIK (aH C0) 13):=by
  intro g q h;have h:AI8 g=some q:=h;unfold AI8 at h;split at h
  all_goals first
   | (cases h;done)
   | (injection h with h;subst h;exact .inr (.inl ⟨rfl,rfl⟩))
   | (injection h with h;subst h;exact .inr (.inr (.inl ⟨rfl,rfl⟩)))
   | (injection h with h;subst h;exact .inr (.inr (.inr ⟨rfl,rfl⟩)))
   | (injection h with h;subst h;exact .inl ⟨by assumption,rfl⟩)
 constructor
 ·intro g args st p h;unfold bM at h
  cases hq:CC.prim g with
  | none=>rw[hq]at h;cases h
  | some q =>
   rw[hq]at h
   rcases key g q hq with ⟨hy,rfl⟩|⟨rfl,rfl⟩|⟨rfl,rfl⟩|⟨rfl,rfl⟩
   ·exact h0.name _ _ _ _ hy h
   ·exact AJQ
   ·exact AB4
   ·exact(IM h0 (r:=p.1) (stl':=p.2) h (by decide)).1
 ·intro g args st r st' h w m φ vs hi hr hb;unfold bM at h
  cases hq:CC.prim g with
  | none=>rw[hq]at h;cases h
  | some q =>
   rw[hq]at h
   rcases key g q hq with ⟨hy,rfl⟩|⟨rfl,rfl⟩|⟨rfl,rfl⟩|⟨rfl,rfl⟩
   ·exact h0.calls _ _ _ _ _ hy h w m φ vs hi hr hb
   ·exact OM h w m φ vs hi hr hb
   ·exact(iA hK h).2 w m φ vs hi hr hb
   ·exact(IM h0 h (by decide)).2 w m φ vs hi hr hb
theorem AM5:SoundOk CC:=iF (C:=CC) ft nt eqS mo AMS
theorem R5 {q:Pn} {ws:List Int} (ht:q.tx) (hl:(txP q).length<9000000) (h0:q.width ws≠0):AIK (aH C0) 13 [rqA q 0, .i (.isl (aI ws))] (rqB q)=some (.i (.lit (.string ⟨(txP q).toArray⟩)),rqB q):=by
 unfold AIK;have h2:CG (aT (rqB q)) (.i (.isl (aI ws)))=some (.isl (aI ws)):=rfl;simp only[H6,ACR,h2,bnd,vF ht hl h0];simp[mfA,mfR,mfC,jR,ACF,tst,ren,jL]
theorem FT {p:Pn} {ws:List Int} (hth:p.thin):aH CC 6 [.i (.agg p.cells), .i (.isl (aI ws))] []=some (.i (.lit (.string ⟨(YE p ws).toArray⟩)),[]):=by
 have c1:=mV p ws;by_cases h:p.width ws=0
 ·rw[aF rfl Tryz.func6 rfl rfl];rw[Pn.aB p]at *
  simp[c1,h,YE]
 ·obtain⟨t1,t2⟩:=Pn.JM h;obtain⟨hty,hsz⟩:=Pn.LW h;have c2:=AB8 (by omega) hth hty;have c3:=WW h .nils (.inl rfl) [] [];rw[Q5]at c3;have c4:=R5 t1 t2 (by rw[Pn.LV h];exact h);have hck:YE p ws=txP p.shp:=by simp[YE,h]
  rw[hck];generalize txP p.shp=m at *
  have hS:rqB p.shp=(if p.exprs=[]then []else [some (.tre 5 (Ex.aA (p.exprs.map Ex.shp)))])++((if p.cols=[]then []else [some (.arr 1 (aI p.cols))])++(if p.kids=[]then []else [some (.tre 5 (Pn.aA (p.kids.map Pn.shp)))])):=by
   rw[Pn.dS];by_cases g0:p.exprs=[]<;>by_cases g1:p.cols=[]<;>by_cases g2:p.kids=[]<;>simp[rqB,g0,g1,g2]
  have hA:rqA p.shp 0=rqA p 0:=by
   rw[Pn.dS];by_cases g0:p.exprs=[]<;>by_cases g1:p.cols=[]<;>by_cases g2:p.kids=[]<;>simp[rqA,g0,g1,g2]
  rw[hS]at c3 c4;rw[hA]at c4;rw[aF rfl Tryz.func6 rfl rfl];rw[Pn.aB p]at c1 c2 ⊢;simp only[gI,dR,List.map_nil,yS,z8,zI]at c3
  by_cases g0:p.exprs=[]<;>by_cases g1:p.cols=[]<;>by_cases g2:p.kids=[]<;>(
   simp only[rqG,rqA,rqB,g0,g1,g2,if_true,if_false,yS,z8,yT]at c2 c3 c4 ⊢
   try simp only[g0,g1,g2]at c1 h
   simp[c1,h,c2,c3,c4])
end Go.Proofs.YtmcjmafajkeecaaGreatDoor.P
namespace Go.Proofs.YtmcjmafajkeecaaGreatDoor
open Go Go.Av
set_option maxRecDepth 4000
noncomputable def AA1:FuncId→Option (List AV→StL→Option (AV×StL))
 | 1000000007=>none
 | 100=>none
 | 76=>none
 | 9=>none
 | 48=>some (NU (aH C0) 48)
 | 18=>some (AL5 (aH C0) 18)
 | 52=>some (AGL (aH C0) 52)
 | g=>some (aH C0 g)
def ACE:FuncId→Bool
 | 48=>true
 | g=>dU g
@[simp] theorem AQC (g:FuncId):ACE g=if g=48 then true else dU g:=by
  unfold ACE;split
  ·rfl
  ·rename_i h;rw[if_neg h]
noncomputable def CP:Ctx:={ P:=Tryz.prog,G:=GS,ownArgs:=ACE,keepRes:=keepR,eqT:=vI,prim:=AA1 }
@[simp] theorem Ae3:CP.P=Tryz.prog:=(rfl)
@[simp] theorem Ae4 (f):CP.G f=GS f:=(rfl)
@[simp] theorem Ae0 (f):CP.ownArgs f=ACE f:=(rfl)
@[simp] theorem Ae1 (f):CP.keepRes f=keepR f:=(rfl)
@[simp] theorem Ae2 (f):CP.eqT f=vI f:=(rfl)
@[simp] theorem AdZ:CP.tree=false:=(rfl)
theorem ND:PrimOk CP:=by
 have h0:=aX pJ
 have key:∀ g q,CP.prim g=some q→g≠uB∧(q=aH C0 g∨q=NU (aH C0) g∨q=AL5 (aH C0) g∨q=AGL (aH C0) g):=by
  intro g q h;have h:AA1 g=some q:=h;unfold AA1 at h;split at h
  all_goals first
   | (cases h;done)
   | (injection h with h;subst h;exact⟨by decide, .inr (.inl rfl)⟩)
   | (injection h with h;subst h;exact⟨by decide, .inr (.inr (.inl rfl))⟩)
   | (injection h with h;subst h;exact⟨by decide, .inr (.inr (.inr rfl))⟩)
   | (injection h with h;subst h;exact⟨by assumption, .inl rfl⟩)
 constructor
 ·intro g args st p h;unfold bM at h
  cases hq:CP.prim g with
  | none=>rw[hq]at h;cases h
  | some q =>
   rw[hq]at h;obtain⟨hy,hor⟩:=key g q hq
   rcases hor with rfl|rfl|rfl|rfl
   ·exact h0.name _ _ _ _ hy h
   ·exact(IK h0 (r:=p.1) (stl':=p.2) h hy).1
   ·exact(J2 h0 (r:=p.1) (stl':=p.2) h hy).1
   ·exact(IZ h0 (r:=p.1) (stl':=p.2) h hy).1
 ·intro g args st r st' h w m φ vs hi hr hb;unfold bM at h
  cases hq:CP.prim g with
  | none=>rw[hq]at h;cases h
  | some q =>
   rw[hq]at h;obtain⟨hy,hor⟩:=key g q hq
   rcases hor with rfl|rfl|rfl|rfl
   ·exact h0.calls _ _ _ _ _ hy h w m φ vs hi hr hb
   ·exact(IK h0 h hy).2 w m φ vs hi hr hb
   ·exact(J2 h0 h hy).2 w m φ vs hi hr hb
   ·exact(IZ h0 h hy).2 w m φ vs hi hr hb
theorem AG7:SoundOk CP:=iF (C:=CP) ft nt eqS mo ND
end Go.Proofs.YtmcjmafajkeecaaGreatDoor
namespace Go.Av
def szP (p:Pn) (ws:List Int):Int:=if p.width ws=0 then 0 else p.size
end Go.Av
namespace Go.Proofs.YtmcjmafajkeecaaGreatDoor.P
open Go Go.Av
set_option maxRecDepth 4000
set_option maxHeartbeats 4000000
@[simp] theorem AGP (a:List AV) (st:StL):aH CP 14 a st=aH C0 14 a st:=by rw[aN (p:=aH C0 14) rfl]
theorem ADW (c:List IV) {n:Nat} (hn:n<1000000000000):aH C0 31 [.i (.iref c), .own 0 0] [some (.box [.int n])]=some (.tup [],[some (.box [.int ((n+1:Nat):Int)])]):=by
 have w2:IntKind.i64.wrap ((n:Int)+1)=n+1:=wrO;rw[aF rfl Tryz.func31 rfl rfl];simp[w2]
def EPX (p:Pn) (n:Nat) (i:Nat):AS :=
 { env:=[(0, .i (.iref [.int p.kind, .int p.table, .isl (Ex.aA p.exprs), .isl (aI p.cols), .isl (Pn.aA p.kids)])),(1, .fn (.func 31) [.own 0 0]),(4,jk i (.int (i-1))),(12, .int p.kids.length),(13, .int i),(14,jk i (.bool true))],
   st:=[some (.box [.int ((n+1+Pn.bV (p.kids.take i):Nat):Int)])] }
theorem AJC:∀ (p:Pn),p.thin→∀ n:Nat,n+p.size<1000000000000→aH C0 18 [.i (.iref p.cells), .fn (.func 31) [.own 0 0]] [some (.box [.int n])]=some (.tup [],[some (.box [.int ((n+p.size:Nat):Int)])]):=by
 intro p
 induction p using Pn.ind with
 | h k tb es cs ks ih =>
  intro ht n hn;generalize hp:Pn.mk k tb es cs ks=p at *
  have hks:ks=p.kids:=by rw[← hp];rfl
  subst hks;obtain⟨t1,t2,t3,t4,t5⟩:=(Pn.dY _).1 ht;have hsz:=Pn.size_eq p;have hone:=ADW [.int p.kind, .int p.table, .isl (Ex.aA p.exprs), .isl (aI p.cols), .isl (Pn.aA p.kids)] (n:=n) (by omega);simp only[Int.natCast_add,Int.natCast_one]at hone;rw[aF rfl Tryz.func18 rfl rfl,Pn.aB];simp[hone];rw[aW (EPX p n) p.kids.length (by simp[EPX,Pn.bV])]
  ·rw[aD];simp[EPX,hsz,← Int.add_assoc]
  ·intro i hi;have h3:=zT hi;have hm:=zU h3;have r2:=Pn.aS h3;have htk:=aL h3;generalize p.kids[i]=a at h3 hm r2 htk
   have hle:Pn.bV (p.kids.take i)+a.size≤Pn.bV p.kids:=by
    have h:=Pn.mP (p.kids.take (i+1)) (p.kids.drop (i+1));rw[xW,htk,Pn.mP]at h;simp only[Pn.bV]at h;omega
   have hk:=ih a hm (t5 a hm) (n+1+Pn.bV (p.kids.take i)) (by omega);have w2:IntKind.i64.wrap ((i:Int)+1)=i+1:=wrO;rw[Pn.aB a]at r2 hk;simp only[Int.natCast_add,Int.natCast_one]at hk;have hsn:Pn.bV (p.kids.take i++[a])=Pn.bV (p.kids.take i)+a.size:=by rw[Pn.mP];simp[Pn.bV]
   by_cases h0:i=0
   ·subst h0;simp[Pn.bV]at hk hsn;simp[EPX,hi,r2,hk,bL,htk,hsn,Pn.bV]
   ·simp only[Int.add_assoc]at hk;simp[EPX,eP h0,hi,r2,hk,w2,htk,hsn,Int.add_assoc]
theorem AJP {p:Pn} (hp:p.thin) (hn:p.size<1000000000000):aH CP 18 [.own 0 0, .fn (.func 31) [.own 1 0]] [some (.box (kW p.cells)),some (.box [.int 0])]=some (.tup [],[some (.fbox p.cells),some (.box [.int (p.size:Nat)])]):=by
 have h:=AJC p hp 0 (by omega);rw[Pn.aB p]at h ⊢;rw[aN (p:=AL5 (aH C0) 18) rfl];unfold AL5;simp at h;simp[h]
theorem FQ (p:Pn) (hp:p.thin) (ws:List Int):aH CP 9 [.i (.agg p.cells), .i (.isl (aI ws))] []=some (.int (szP p ws),[]):=by
 have e1:=mV p ws;rw[aF rfl Tryz.func9 rfl rfl];unfold szP;by_cases h1:p.width ws=0
 ·rw[Pn.aB p]at *
  simp[e1,h1]
 ·have e3:=AJP hp (by have:=(Pn.LW h1).2;omega);rw[Pn.aB p]at *
  simp at e3;simp[e1,h1,e3]
@[simp] theorem ARN (a:List AV) (st:StL):aH CP 33 a st=aH C0 33 a st:=by rw[aN (p:=aH C0 33) rfl]
@[simp] theorem AT3 (a:List AV) (st:StL):aH CP 43 a st=aH C0 43 a st:=by rw[aN (p:=aH C0 43) rfl]
@[simp] theorem ARP (a:List AV) (st:StL):aH CP 102 a st=aH C0 102 a st:=by rw[aN (p:=aH C0 102) rfl]
@[simp] theorem ARO (a:List AV) (st:StL):aH CP 103 a st=aH C0 103 a st:=by rw[aN (p:=aH C0 103) rfl]
@[simp] theorem AJO (a:List AV) (st:StL):aH CP 101 a st=aH C0 101 a st:=by rw[aN (p:=aH C0 101) rfl]
theorem EZ (p:Pn) (hp:p.thin):aH CP 52 [.i (.agg p.cells)] []=some (.i (.agg p.cells),[]):=by
 have h:=mF p hp;rw[aN (p:=AGL (aH C0) 52) rfl];unfold AGL;by_cases he:p.exprs=[]
 ·by_cases hk:p.kids=[]
  ·simp[pcX,pcS,hk,he,Pn.aA,Ex.aA]at h;simp[h];rw[Pn.aB];simp[hk,he,Pn.aA,Ex.aA]
  ·have hkl:p.kids.length≠0:=fun h=>hk (zZ.1 h)
   simp[pcX,pcS,hk,he,aQ hkl,aJ hkl,Ex.aA]at h;simp[h];rw[Pn.aB];simp[hk,he,Ex.aA]
 ·have hel:p.exprs.length≠0:=fun h=>he (zZ.1 h)
  by_cases hk:p.kids=[]
  ·simp[pcX,pcS,hk,he,aQ hel,aJ hel,Pn.aA]at h;simp[h];rw[Pn.aB];simp[hk,he,Pn.aA]
  ·have hkl:p.kids.length≠0:=fun h=>hk (zZ.1 h)
   simp[pcX,pcS,hk,he,aQ hel,aJ hel,aQ hkl,aJ hkl]at h;simp[h];rw[Pn.aB]
theorem gF {ws:List Int} (hw:∀ w∈ws,0≤w∧w≤6) (hwl:ws.length<1000000) {k:Nat} (hk0:0<k) (hk:k≤ws.length) (p:Pn) (hp:p.thin):aH CP 48 [.i (.agg p.cells), .osl 0 1 0 k, .int 8] [some (.arr 1 (aI ws))]=some (.int (p.wd (ws.take k) 8),[some (.arr 1 (aI ws))]):=by
 have h:=o9 (ws:=ws.take k) (fun w hm=>hw w (zJ hm)) (by simp;omega) p (Pn.JR p hp) 8 (by omega);rw[aN (p:=NU (aH C0) 48) rfl];unfold NU;simp at h;simp[GV,UL,h,hk,hk0,jR]
def bN (e:Ex) (p:Pn):Pn:=.mk 2 0 [e] [] [p]
theorem bF (e:Ex) (p:Pn):(bN e p).cells=[.int 2, .int 0, .isl [e.cells], .isl [], .isl [p.cells]]:=by simp[bN,Pn.cells,Ex.aA,aI,Pn.aA]
theorem eQ (e:Ex) (p:Pn):aH C0 101 [.i (.agg e.cells), .i (.agg p.cells)] []=some (.i (.agg (bN e p).cells),[]):=by
 rw[aF rfl Tryz.func101 rfl rfl,bF,Ex.aB,Pn.aB];simp
theorem bP {e:Ex} {p:Pn} (he:e.size<1000000) (hp:p.thin):(bN e p).thin:=by
 have:=Ex.dA e (by omega);simp[bN,Pn.thin,Pn.iD,this,hp]
noncomputable def ZZ:FuncId→Option (List AV→StL→Option (AV×StL))
 | 100=>some (aH CP 100)
 | 101=>some (mI C0 true 101)
 | g=>AA1 g
noncomputable def CQ:Ctx:={ P:=Tryz.prog,G:=GS,ownArgs:=ACE,keepRes:=keepR,eqT:=vI,prim:=ZZ }
@[simp] theorem AdX:CQ.P=Tryz.prog:=(rfl)
@[simp] theorem AdY (f):CQ.G f=GS f:=(rfl)
@[simp] theorem AdU (f):CQ.ownArgs f=ACE f:=(rfl)
@[simp] theorem AdV (f):CQ.keepRes f=keepR f:=(rfl)
@[simp] theorem AdW (f):CQ.eqT f=vI f:=(rfl)
@[simp] theorem AdT:CQ.tree=false:=(rfl)
theorem AMP:PrimOk CQ:=by
 have hP:=aX AG7;constructor
 ·intro g args st p h;unfold bM at h
  cases hq:CQ.prim g with
  | none=>rw[hq]at h;cases h
  | some q =>
   rw[hq]at h;have hq:ZZ g=some q:=hq;unfold ZZ at hq;split at hq
   ·injection hq with hq;subst hq;exact hP.name _ _ _ _ (by decide) h
   ·injection hq with hq;subst hq;exact(iA pJ (r:=p.1) (stl':=p.2) h).1
   ·exact ND.name g args st p (by unfold bM;rw[show CP.prim g=some q from hq];exact h)
 ·intro g args st r st' h w m φ vs hi hr hb;unfold bM at h
  cases hq:CQ.prim g with
  | none=>rw[hq]at h;cases h
  | some q =>
   rw[hq]at h;have hq:ZZ g=some q:=hq;unfold ZZ at hq;split at hq
   ·injection hq with hq;subst hq;exact hP.calls _ _ _ _ _ (by decide) h w m φ vs hi hr hb
   ·injection hq with hq;subst hq;exact(iA pJ h).2 w m φ vs hi hr hb
   ·exact ND.calls g args st r st' (by unfold bM;rw[show CP.prim g=some q from hq];exact h) w m φ vs hi hr hb
theorem AG6:SoundOk CQ:=iF (C:=CQ) ft nt eqS mo AMP
noncomputable def ZY:FuncId→Option (List AV→StL→Option (AV×StL))
 | 1000000007=>none
 | 15=>none
 | 42=>none
 | 76=>none
 | 100=>some (mI CQ true 100)
 | 101=>some (mI C0 true 101)
 | 48=>some (WE (aH C0) 48)
 | g=>AA1 g
def ANI (g:FuncId):Bool:=keepR g || decide (g=76)
noncomputable def CR:Ctx:={ P:=Tryz.prog,G:=GS,ownArgs:=ACE,keepRes:=ANI,eqT:=vI,prim:=ZY }
@[simp] theorem AdR:CR.P=Tryz.prog:=(rfl)
@[simp] theorem AdS (f):CR.G f=GS f:=(rfl)
@[simp] theorem AdO (f):CR.ownArgs f=ACE f:=(rfl)
@[simp] theorem AdP (f):CR.keepRes f=(keepR f || decide (f=76)):=(rfl)
@[simp] theorem AdQ (f):CR.eqT f=vI f:=(rfl)
@[simp] theorem AdN:CR.tree=false:=(rfl)
theorem AMO:PrimOk CR:=by
 constructor
 ·intro g args st p h;unfold bM at h
  cases hq:CR.prim g with
  | none=>rw[hq]at h;cases h
  | some q =>
   rw[hq]at h;have hq:ZY g=some q:=hq;unfold ZY at hq;split at hq
   all_goals first
    | (cases hq;done)
    | (injection hq with hq;subst hq;exact(iA AG6 (r:=p.1) (stl':=p.2) h).1)
    | (injection hq with hq;subst hq;exact(iA pJ (r:=p.1) (stl':=p.2) h).1)
    | (injection hq with hq;subst hq;exact(E8 (aX pJ) (r:=p.1) (stl':=p.2) h (by decide)).1)
    | exact ND.name g args st p (by unfold bM;rw[show CP.prim g=some q from hq];exact h)
 ·intro g args st r st' h w m φ vs hi hr hb;unfold bM at h
  cases hq:CR.prim g with
  | none=>rw[hq]at h;cases h
  | some q =>
   rw[hq]at h;have hq:ZY g=some q:=hq;unfold ZY at hq;split at hq
   all_goals first
    | (cases hq;done)
    | (injection hq with hq;subst hq;exact(iA AG6 h).2 w m φ vs hi hr hb)
    | (injection hq with hq;subst hq;exact(iA pJ h).2 w m φ vs hi hr hb)
    | (injection hq with hq;subst hq;exact(E8 (aX pJ) h (by decide)).2 w m φ vs hi hr hb)
    | exact ND.calls g args st r st' (by unfold bM;rw[show CP.prim g=some q from hq];exact h) w m φ vs hi hr hb
theorem AM3:SoundOk CR:=iF (C:=CR) ft nt eqS mo AMO
end Go.Proofs.YtmcjmafajkeecaaGreatDoor.P
namespace Go.Av
section
variable {rows:List (List Val)} {w:Int} (hr:∀ r∈rows,rowOk w r=true) (hw:cK w=true)
include hr hw
end
def rbK (cnt:List Int) (k t:Int) (cs:List Int) (a b:Int):Int :=
 if k=1 then(cnt[t.toNat]?).getD 0 else min (if k=4 then a*b else if k=5 then a*max 1 b else if k=6 then a+b else if k=8∧cs=[]then min a 1 else a) 1000000000
mutual
def Pn.rb (cnt:List Int):Pn→Int
 | .mk k t es cs ks=>rbK cnt k t cs (((Pn.rbL cnt ks)[0]?).getD 0) (((Pn.rbL cnt ks)[1]?).getD 0)
def Pn.rbL (cnt:List Int):List Pn→List Int
 | []=>[]
 | p::ps=>Pn.rb cnt p::Pn.rbL cnt ps
end
def AM0 (fl:List Bool):List Int:=fl.map fun b=>if b=true then 7 else 3
def AN3 (e:Ex) (fl:List Bool):List Bool:=(List.range fl.length).map fun i=>(fl[i]?).getD false && PO (AQH ((AM0 fl).set i 4) e) 2
def nlK (flags:List (List Bool)) (k t:Int) (es:List Ex) (cs:List Int) (a b:List Bool):List Bool :=
 if k=1 then(flags[t.toNat]?).getD []
 else if k=2 then AN3 (exO es) a
 else if k=3 then es.map fun e=>PO (AQH (AM0 a) e) 4
 else if k=4 then a++b
 else if k=5 then a++b.map fun _=>true
 else if k=6 then List.zipWith (· || ·) a b
 else if k=8 then(cs.map fun c=>(a[c.toNat]?).getD false)++[false]
 else a
mutual
def Pn.nl (flags:List (List Bool)):Pn→List Bool
 | .mk k t es cs ks=>nlK flags k t es cs (((Pn.nlL flags ks)[0]?).getD []) (((Pn.nlL flags ks)[1]?).getD [])
def Pn.nlL (flags:List (List Bool)):List Pn→List (List Bool)
 | []=>[]
 | p::ps=>Pn.nl flags p::Pn.nlL flags ps
end
def ATI (db:List Tbl) (k t:Int) (es:List Ex) (cs:List Int) (a b:Tbl):List (List Val) :=
 if k=1 then((db[t.toNat]?).getD AHE).rows
 else if k=2 then a.rows.filter (isT (exO es))
 else if k=3 then a.rows.map fun r=>es.map (Ex.ev r)
 else if k=4∨k=5 then ANK (exO es) (decide (k=5)) a b
 else if k=6 then a.rows++b.rows
 else if k=7 then ANU a.rows
 else OA cs a.rows
def Pn.raw (db:List Tbl) (p:Pn):List (List Val):=ATI db p.kind p.table p.exprs p.cols ((p.kids[0]?.map (Pn.evP db)).getD AHE) ((p.kids[1]?.map (Pn.evP db)).getD AHE)
mutual
def Pn.fit (db:List Tbl):Pn→Bool
 | .mk k t es cs ks=>decide ((Pn.raw db (.mk k t es cs ks)).length≤400) && Pn.ASM db ks
def Pn.ASM (db:List Tbl):List Pn→Bool
 | []=>true
 | p::ps=>Pn.fit db p && Pn.ASM db ps
end
mutual
def Pn.bd (n:Nat):Pn→Nat
 | .mk _ _ es _ ks=>bdK n es (Pn.bdL n ks)
def Pn.bdL (n:Nat):List Pn→List Nat
 | []=>[]
 | p::ps=>Pn.bd n p::Pn.bdL n ps
def bdK (n:Nat) (es:List Ex):List Nat→Nat
 | []=>n
 | [a]=>a
 | a::b::_=>if es=[]then a+b else a*b
end
theorem AK5 (n:Nat) (t:Int):(Pn.scan t).bd n=n:=by simp[Pn.scan,Pn.bd,Pn.bdL,bdK]
theorem OY (n:Nat) (k t:Int) (es:List Ex) (cs:List Int) (a:Pn):(Pn.mk k t es cs [a]).bd n=a.bd n:=by simp[Pn.bd,Pn.bdL,bdK]
theorem AGX (n:Nat) (k t:Int) (es:List Ex) (cs:List Int) (a b:Pn):(Pn.mk k t es cs [a,b]).bd n=if es=[]then a.bd n+b.bd n else a.bd n*b.bd n:=by simp[Pn.bd,Pn.bdL,bdK]
def Th (P:Pn) (j j':Nat) (u u':Int):Prop:=P.thin∧(j'≤j∧u'≤u∧∀ n:Nat,1≤n→P.bd n≤2 ^ (u-u').toNat*n ^ (j-j'+1))∧(P.exprs=[]→P.kids.length=2→P.kind=6)
theorem Th.scan {t:Int} (h:(Pn.scan t).thin) (j:Nat) (u:Int):Th (.scan t) j j u u:=by
 refine⟨h,⟨Nat.le_refl _,Int.le_refl _,fun n _=>?_⟩,by simp[Pn.scan]⟩;rw[AK5];simp
theorem Th.one {k t:Int} {es:List Ex} {cs:List Int} {K:Pn} {j j1:Nat} {u u1:Int} (hth:(Pn.mk k t es cs [K]).thin) (h:Th K j j1 u u1):Th (.mk k t es cs [K]) j j1 u u1:=by
 refine⟨hth,⟨h.2.1.1,h.2.1.2.1,fun n hn=>?_⟩,by simp⟩;rw[OY];exact h.2.1.2.2 n hn
theorem Th.skip {k t:Int} {es:List Ex} {cs:List Int} {K:Pn} {j j1 j2:Nat} {u u1 u2:Int} (hth:(Pn.mk k t es cs [K]).thin) (h:Th K j j1 u u1) (h2:j2≤j1) (h3:u2≤u1):Th (.mk k t es cs [K]) j j2 u u2:=by
 obtain⟨-,⟨g1,g2,g3⟩,-⟩:=h;refine⟨hth,⟨by omega,by omega,fun n hn=>?_⟩,by simp⟩;rw[OY];refine y7 (g3 n hn) (Nat.mul_le_mul (zA3 (by omega) (by omega)) (zA3 hn (by omega)))
theorem Th.un {e:Ex} {K:Pn} {j j1:Nat} {u u1:Int} (hth:(Pn.mk 6 0 [] [] [K, .mk 2 0 [e] [] [K]]).thin) (h:Th K j j1 u u1):Th (.mk 6 0 [] [] [K, .mk 2 0 [e] [] [K]]) j j1 u (u1-1):=by
 obtain⟨-,⟨g1,g2,g3⟩,-⟩:=h;refine⟨hth,⟨g1,by omega,fun n hn=>?_⟩,by simp⟩;rw[AGX,if_pos rfl,OY];have:=g3 n hn;rw[show(u-(u1-1)).toNat=(u-u1).toNat+1 by omega,x9,yZ (2 ^ (u-u1).toNat) 2,Nat.mul_assoc];omega
theorem Th.jn {z:Int} {e:Ex} {K O:Pn} {j j1 j2:Nat} {u u1 u2:Int} (hth:(Pn.mk z 0 [e] [] [K,O]).thin) (hj:j1≠0) (h:Th K j j1 u u1) (h2:Th O (j1-1) j2 u1 u2):Th (.mk z 0 [e] [] [K,O]) j j2 u u2:=by
 obtain⟨-,⟨g1,g2,g3⟩,-⟩:=h;obtain⟨-,⟨k1,k2,k3⟩,-⟩:=h2;refine⟨hth,⟨by omega,by omega,fun n hn=>?_⟩,by simp⟩;rw[AGX,if_neg (by simp)];have:=Nat.mul_le_mul (g3 n hn) (k3 n hn);refine y7 this (Nat.le_of_eq ?_);have e1:2 ^ (u-u2).toNat=2 ^ (u-u1).toNat*2 ^ (u1-u2).toNat:=by rw[← Nat.pow_add];congr 1;omega
 have e2:n ^ (j-j2+1)=n ^ (j-j1+1)*n ^ (j1-1-j2+1):=by rw[← Nat.pow_add];congr 1;omega
 rw[e1,e2];exact Nat.mul_mul_mul_comm _ _ _ _
def BdV (P:Pn):Prop:=∀ (ws:List Int) (lv n:Nat),1≤n→P.wd ws lv≠0→P.bd n≤2*n ^ 2
theorem Th.bdV {P:Pn} {j':Nat} {u':Int} (h:Th P 1 j' 1 u') (hu:0≤u'):∀ n:Nat,1≤n→P.bd n≤2*n ^ 2:=by
 intro n hn;have:=h.2.1.2.2 n hn;refine y7 this (Nat.mul_le_mul (zA3 (by omega) (show(1-u').toNat≤1 by omega)) (zA3 hn (by omega)))
theorem AK6 (n:Nat) (P:Pn) (k t:Int) (cs:List Int):(Pn.mk k t P.exprs cs P.kids).bd n=P.bd n:=by
 obtain⟨k',t',es,cs',ks⟩:=P;simp[Pn.bd,Pn.exprs,Pn.kids]
theorem AFA {P:Pn} {e:Ex} (h:∀ n:Nat,1≤n→P.bd n≤2*n ^ 2) (h6:P.exprs=[]→P.kids.length=2→P.kind=6):BdV (.mk P.kind P.table (P.exprs++[e]) P.cols P.kids):=by
 intro ws lv n hn hw;have h0:=h n hn;obtain⟨k,t,es,cs,ks⟩:=P;simp only[Pn.bZ,Pn.gW,Pn.eO,Pn.iR,Pn.eT]at *
 match ks,h0,h6,hw with
 | [],h0,_,_=>simpa [Pn.bd,Pn.bdL,bdK]using h0
 | [a],h0,_,_=>rw[OY]at h0 ⊢;exact h0
 | a::b::l,h0,h6,hw =>
  by_cases he:es=[]
  ·subst he;have hsh:=ACP hw;generalize hp:Pn.mk k t ([]++[e]) cs (a::b::l)=p at hsh
   cases hsh<;>simp only[Pn.scan,filt,proj,AA6,M5,Pn.mk.injEq,yS,reduceCtorEq,and_false,List.cons.injEq,false_and,and_true]at hp
   rename_i hk _ _ _ _;obtain⟨rfl,_,_,_,_,_,rfl⟩:=hp;have:=h6 rfl rfl;omega
  ·have e1:(Pn.mk k t (es++[e]) cs (a::b::l)).bd n=(Pn.mk k t es cs (a::b::l)).bd n:=by
    simp only[Pn.bd,Pn.bdL,bdK];rw[if_neg (by simp),if_neg he]
   rw[e1];exact h0
def Rt (P:Pn):Prop:=P.thin∧(∀ n:Nat,1≤n→P.bd n≤2*n ^ 2)∧(P.exprs=[]→P.kids.length=2→P.kind=6)
theorem Th.rt {P:Pn} {j':Nat} {u':Int} (h:Th P 1 j' 1 u') (hu:0≤u'):Rt P:=⟨h.1,h.bdV hu,h.2.2⟩
theorem Rt.one {k t:Int} {es:List Ex} {cs:List Int} {P:Pn} (hth:(Pn.mk k t es cs [P]).thin) (h:Rt P):Rt (.mk k t es cs [P]):=⟨hth,fun n hn=>by rw[OY];exact h.2.1 n hn,by simp⟩
theorem Rt.head {P:Pn} {k t:Int} {cs:List Int} (h:Rt P):BdV (.mk k t P.exprs cs P.kids):=fun ws lv n hn _=>by rw[AK6];exact h.2.1 n hn
theorem Rt.all {P:Pn} (h:Rt P):BdV P:=fun ws lv n hn _=>h.2.1 n hn
end Go.Av
namespace Go.Proofs.YtmcjmafajkeecaaGreatDoor.P
open Go Go.Av
set_option maxRecDepth 4000
set_option maxHeartbeats 8000000
def PSt (l:List UInt8) (ws:List Int) (k:Nat) (j u p:Int):StL:=[some (.box [.own 1 0, .osl 2 1 0 k, .int j, .int u]),Rd l p,some (.arr 1 (aI ws))]
def mJ (l:List UInt8) (ws:List Int) (k d j c:Nat):Prop:=∀ p u:Int,0≤p→p+c<300000000→0≤u→u≤1→∃ (P:Pn) (p' u':Int) (j':Nat),
    aH CP 100 [.own 0 0, .int d] (PSt l ws k j u p)=some (.i (.agg P.cells),PSt l ws k j' u' p')∧Th P j j' u u'∧p≤p'∧p'≤p+c∧j'≤j∧0≤u'∧u'≤1
theorem I8 (t:Int):(Pn.scan t).cells=[.int 1, .int t, .isl [], .isl [], .isl []]:=by simp[Pn.scan,Pn.cells,Ex.aA,aI,Pn.aA]
theorem NE {l:List UInt8} (hl:l.length≤2000) {ws:List Int} {k:Nat} (j:Nat):mJ l ws k 0 j 1:=by
 intro p u h0 h1 hu0 hu1;obtain⟨t,ht,-,-⟩:=bE l p k h0 (by omega) hl;refine⟨.scan t,p+1,u,j,?_,Th.scan (Pn.CZ t) _ _,by omega,by omega,by omega,by omega,by omega⟩;rw[aF rfl Tryz.func100 rfl rfl];simp[PSt,ht,I8]
structure PlH (l:List UInt8) (ws:List Int) (k d j c2:Nat) (p u t v W kk p1 u1:Int) (j1:Nat) (K:Pn):Prop where
 hd:d<100
 h1:p1+400+c2<300000000
 hp1:0≤p1
 hu0:0≤u1
 hu1:u1≤1
 hW0:0≤W
 hW6:W≤6
 hKB:Th K j j1 u u1
 ht:aH C0 33 [.own 0 0, .int k] [Rd l p]=some (.int t,[Rd l (p+1)])
 hv:aH C0 33 [.own 0 0, .int 6] [Rd l (p+1)]=some (.int v,[Rd l (p+1+1)])
 v0:¬ v=0
 hkid:aH CP 100 [.own 0 0, .int d] (PSt l ws k j u (p+1+1))=some (.i (.agg K.cells),PSt l ws k j1 u1 p1)
 hW:aH CP 48 [.i (.agg K.cells), .osl 0 1 0 k, .int 8] [some (.arr 1 (aI ws))]=some (.int W,[some (.arr 1 (aI ws))])
 hkk:aH C0 33 [.own 0 0, .int 10] [Rd l p1]=some (.int kk,[Rd l (p1+1)])
abbrev PlC (l:List UInt8) (ws:List Int) (k d j c2:Nat) (p u p1:Int) (j1:Nat):Prop:=∃ (P:Pn) (p' u':Int) (j':Nat),aH CP 100 [.own 0 0, .int ((d+1:Nat):Int)] (PSt l ws k j u p)=some (.i (.agg P.cells),PSt l ws k j' u' p')∧Th P j j' u u'∧p1≤p'∧p'≤p1+400+c2∧j'≤j1∧0≤u'∧u'≤1
theorem NL {l:List UInt8} (hl:l.length≤2000) {ws:List Int} {k:Nat} {d j c2:Nat} {p u t v W kk p1 u1:Int} {j1:Nat} {K:Pn} (H:PlH l ws k d j c2 p u t v W kk p1 u1 j1 K) (hq:kk=0):PlC l ws k d j c2 p u p1 j1:=by
 obtain⟨hd,h1,hp1,hu0,hu1,hW0,hW6,hKB,ht,hv,v0,hkid,hW,hkk⟩:=H;have we:IntKind.i64.wrap (d:Int)=d:=wrO;have hK:=hKB.1;have wn:¬ ((d:Int)+1=0):=by omega
 simp only[PSt]at hkid;rw[Pn.aB K]at hkid hW;obtain⟨e,p2,he,a1,a2,a3⟩:=aM l hl W (p1+1) (by omega) (by omega);have hf:=eQ e K;rw[bF,Pn.aB K,Ex.aB e]at hf;rw[Ex.aB e]at he;refine⟨bN e K,p2,u1,j1,?_,Th.one (bP (by omega) hK) hKB,by omega,by omega,by omega,by omega,by omega⟩;rw[aF rfl Tryz.func100 rfl rfl];simp[PSt,ht,hv,v0,we,hkid,hW,hkk,wn,hq,he,hf,bF,Pn.aB K,Ex.aB e]
theorem NK {l:List UInt8} (hl:l.length≤2000) {ws:List Int} {k:Nat} {d j c2:Nat} {p u t v W kk p1 u1:Int} {j1:Nat} {K:Pn} (H:PlH l ws k d j c2 p u t v W kk p1 u1 j1 K) (hq:kk=1):PlC l ws k d j c2 p u p1 j1:=by
 obtain⟨hd,h1,hp1,hu0,hu1,hW0,hW6,hKB,ht,hv,v0,hkid,hW,hkk⟩:=H;have we:IntKind.i64.wrap (d:Int)=d:=wrO;have hK:=hKB.1;have wn:¬ ((d:Int)+1=0):=by omega
 simp only[PSt]at hkid;rw[Pn.aB K]at hkid hW;obtain⟨e,p2,he,a1,a2,a3⟩:=aM l hl W (p1+1) (by omega) (by omega);have hf:=eQ e K;rw[bF,Pn.aB K,Ex.aB e]at hf;rw[Ex.aB e]at he;refine⟨bN e K,p2,u1,j1,?_,Th.one (bP (by omega) hK) hKB,by omega,by omega,by omega,by omega,by omega⟩;rw[aF rfl Tryz.func100 rfl rfl];simp[PSt,ht,hv,v0,we,hkid,hW,hkk,wn,hq,he,hf,bF,Pn.aB K,Ex.aB e]
theorem NJ {l:List UInt8} (hl:l.length≤2000) {ws:List Int} {k:Nat} {d j c2:Nat} {p u t v W kk p1 u1:Int} {j1:Nat} {K:Pn} (H:PlH l ws k d j c2 p u t v W kk p1 u1 j1 K) (hq:kk=2):PlC l ws k d j c2 p u p1 j1:=by
 obtain⟨hd,h1,hp1,hu0,hu1,hW0,hW6,hKB,ht,hv,v0,hkid,hW,hkk⟩:=H;have we:IntKind.i64.wrap (d:Int)=d:=wrO;have hK:=hKB.1;have wn:¬ ((d:Int)+1=0):=by omega
 simp only[PSt]at hkid;rw[Pn.aB K]at hkid hW;obtain⟨e,p2,he,a1,a2,a3⟩:=aM l hl W (p1+1) (by omega) (by omega);have hf:=eQ e K;rw[bF,Pn.aB K,Ex.aB e]at hf;rw[Ex.aB e]at he;refine⟨bN e K,p2,u1,j1,?_,Th.one (bP (by omega) hK) hKB,by omega,by omega,by omega,by omega,by omega⟩;rw[aF rfl Tryz.func100 rfl rfl];simp[PSt,ht,hv,v0,we,hkid,hW,hkk,wn,hq,he,hf,bF,Pn.aB K,Ex.aB e]
theorem K7 {l:List UInt8} (hl:l.length≤2000) {ws:List Int} {k:Nat} {d j c2:Nat} {p u t v W kk p1 u1:Int} {j1:Nat} {K:Pn} (H:PlH l ws k d j c2 p u t v W kk p1 u1 j1 K) (hq:kk=8):PlC l ws k d j c2 p u p1 j1:=by
 obtain⟨hd,h1,hp1,hu0,hu1,hW0,hW6,hKB,ht,hv,v0,hkid,hW,hkk⟩:=H;have we:IntKind.i64.wrap (d:Int)=d:=wrO;have hK:=hKB.1;have wn:¬ ((d:Int)+1=0):=by omega
 simp only[PSt]at hkid;rw[Pn.aB K]at hkid hW;refine⟨.mk 7 0 [] [] [K],p1+1,u1,j1,?_,Th.one (by simp[Pn.thin,Pn.iD,hK]) hKB,by omega,by omega,by omega,by omega,by omega⟩;rw[aF rfl Tryz.func100 rfl rfl];simp[PSt,ht,hv,v0,we,hkid,hW,hkk,wn,hq,Pn.cells,Ex.aA,aI,Pn.aA,Pn.aB K]
theorem NI {l:List UInt8} (hl:l.length≤2000) {ws:List Int} {k:Nat} {d j c2:Nat} {p u t v W kk p1 u1:Int} {j1:Nat} {K:Pn} (H:PlH l ws k d j c2 p u t v W kk p1 u1 j1 K) (hj:j1=0) (hq:kk=5):PlC l ws k d j c2 p u p1 j1:=by
 obtain⟨hd,h1,hp1,hu0,hu1,hW0,hW6,hKB,ht,hv,v0,hkid,hW,hkk⟩:=H;have we:IntKind.i64.wrap (d:Int)=d:=wrO;have hK:=hKB.1;have wn:¬ ((d:Int)+1=0):=by omega
 simp only[PSt]at hkid;rw[Pn.aB K]at hkid hW;obtain⟨e,p2,he,a1,a2,a3⟩:=aM l hl W (p1+1) (by omega) (by omega);have hf:=eQ e K;rw[bF,Pn.aB K,Ex.aB e]at hf;rw[Ex.aB e]at he;refine⟨bN e K,p2,u1,j1,?_,Th.one (bP (by omega) hK) hKB,by omega,by omega,by omega,by omega,by omega⟩;rw[aF rfl Tryz.func100 rfl rfl];simp[PSt,ht,hv,v0,we,hkid,hW,hkk,wn,hq,he,hf,bF,Pn.aB K,Ex.aB e,hj]
theorem VT {l:List UInt8} (hl:l.length≤2000) {ws:List Int} {k:Nat} {d j c2:Nat} {p u t v W kk p1 u1:Int} {j1:Nat} {K:Pn} (H:PlH l ws k d j c2 p u t v W kk p1 u1 j1 K) (hj:j1≠0) (hw4:¬ W≤4) (hq:kk=5):PlC l ws k d j c2 p u p1 j1:=by
 obtain⟨hd,h1,hp1,hu0,hu1,hW0,hW6,hKB,ht,hv,v0,hkid,hW,hkk⟩:=H;have we:IntKind.i64.wrap (d:Int)=d:=wrO;have hK:=hKB.1;have wn:¬ ((d:Int)+1=0):=by omega
 simp only[PSt]at hkid;rw[Pn.aB K]at hkid hW;have hj':0<j1:=by omega
 obtain⟨e,p2,he,a1,a2,a3⟩:=aM l hl W (p1+1) (by omega) (by omega);have hf:=eQ e K;rw[bF,Pn.aB K,Ex.aB e]at hf;rw[Ex.aB e]at he;refine⟨bN e K,p2,u1,j1,?_,Th.one (bP (by omega) hK) hKB,by omega,by omega,by omega,by omega,by omega⟩;rw[aF rfl Tryz.func100 rfl rfl];simp[PSt,ht,hv,v0,we,hkid,hW,hkk,wn,hq,he,hf,bF,Pn.aB K,Ex.aB e,hj',hj,hw4]
theorem NH {l:List UInt8} (hl:l.length≤2000) {ws:List Int} {k:Nat} {d j c2:Nat} {p u t v W kk p1 u1:Int} {j1:Nat} {K:Pn} (H:PlH l ws k d j c2 p u t v W kk p1 u1 j1 K) (hj:j1=0) (hq:kk=6):PlC l ws k d j c2 p u p1 j1:=by
 obtain⟨hd,h1,hp1,hu0,hu1,hW0,hW6,hKB,ht,hv,v0,hkid,hW,hkk⟩:=H;have we:IntKind.i64.wrap (d:Int)=d:=wrO;have hK:=hKB.1;have wn:¬ ((d:Int)+1=0):=by omega
 simp only[PSt]at hkid;rw[Pn.aB K]at hkid hW;obtain⟨e,p2,he,a1,a2,a3⟩:=aM l hl W (p1+1) (by omega) (by omega);have hf:=eQ e K;rw[bF,Pn.aB K,Ex.aB e]at hf;rw[Ex.aB e]at he;refine⟨bN e K,p2,u1,j1,?_,Th.one (bP (by omega) hK) hKB,by omega,by omega,by omega,by omega,by omega⟩;rw[aF rfl Tryz.func100 rfl rfl];simp[PSt,ht,hv,v0,we,hkid,hW,hkk,wn,hq,he,hf,bF,Pn.aB K,Ex.aB e,hj]
theorem VS {l:List UInt8} (hl:l.length≤2000) {ws:List Int} {k:Nat} {d j c2:Nat} {p u t v W kk p1 u1:Int} {j1:Nat} {K:Pn} (H:PlH l ws k d j c2 p u t v W kk p1 u1 j1 K) (hj:j1≠0) (hw4:¬ W≤4) (hq:kk=6):PlC l ws k d j c2 p u p1 j1:=by
 obtain⟨hd,h1,hp1,hu0,hu1,hW0,hW6,hKB,ht,hv,v0,hkid,hW,hkk⟩:=H;have we:IntKind.i64.wrap (d:Int)=d:=wrO;have hK:=hKB.1;have wn:¬ ((d:Int)+1=0):=by omega
 simp only[PSt]at hkid;rw[Pn.aB K]at hkid hW;have hj':0<j1:=by omega
 obtain⟨e,p2,he,a1,a2,a3⟩:=aM l hl W (p1+1) (by omega) (by omega);have hf:=eQ e K;rw[bF,Pn.aB K,Ex.aB e]at hf;rw[Ex.aB e]at he;refine⟨bN e K,p2,u1,j1,?_,Th.one (bP (by omega) hK) hKB,by omega,by omega,by omega,by omega,by omega⟩;rw[aF rfl Tryz.func100 rfl rfl];simp[PSt,ht,hv,v0,we,hkid,hW,hkk,wn,hq,he,hf,bF,Pn.aB K,Ex.aB e,hj',hj,hw4]
theorem NG {l:List UInt8} (hl:l.length≤2000) {ws:List Int} {k:Nat} {d j c2:Nat} {p u t v W kk p1 u1:Int} {j1:Nat} {K:Pn} (H:PlH l ws k d j c2 p u t v W kk p1 u1 j1 K) (hu:¬ 0<u1) (hq:kk=7):PlC l ws k d j c2 p u p1 j1:=by
 obtain⟨hd,h1,hp1,hu0,hu1,hW0,hW6,hKB,ht,hv,v0,hkid,hW,hkk⟩:=H;have we:IntKind.i64.wrap (d:Int)=d:=wrO;have hK:=hKB.1;have wn:¬ ((d:Int)+1=0):=by omega
 simp only[PSt]at hkid;rw[Pn.aB K]at hkid hW;obtain⟨e,p2,he,a1,a2,a3⟩:=aM l hl W (p1+1) (by omega) (by omega);have hf:=eQ e K;rw[bF,Pn.aB K,Ex.aB e]at hf;rw[Ex.aB e]at he;refine⟨bN e K,p2,u1,j1,?_,Th.one (bP (by omega) hK) hKB,by omega,by omega,by omega,by omega,by omega⟩;rw[aF rfl Tryz.func100 rfl rfl];simp[PSt,ht,hv,v0,we,hkid,hW,hkk,wn,hq,he,hf,bF,Pn.aB K,Ex.aB e,hu]
theorem VU {l:List UInt8} (hl:l.length≤2000) {ws:List Int} {k:Nat} {d j c2:Nat} {p u t v W kk p1 u1:Int} {j1:Nat} {K:Pn} (H:PlH l ws k d j c2 p u t v W kk p1 u1 j1 K) (hu:0<u1) (hq:kk=7):PlC l ws k d j c2 p u p1 j1:=by
 obtain⟨hd,h1,hp1,hu0,hu1,hW0,hW6,hKB,ht,hv,v0,hkid,hW,hkk⟩:=H;have we:IntKind.i64.wrap (d:Int)=d:=wrO;have hK:=hKB.1;have wn:¬ ((d:Int)+1=0):=by omega
 simp only[PSt]at hkid;rw[Pn.aB K]at hkid hW;obtain⟨e,p2,he,a1,a2,a3⟩:=aM l hl W (p1+1) (by omega) (by omega);have hf:=eQ e K;have hc:=EZ K hK;have wu:IntKind.i64.wrap (u1-1)=u1-1:=wrO;rw[bF,Pn.aB K,Ex.aB e]at hf;rw[Pn.aB K]at hc;rw[Ex.aB e]at he;refine⟨.mk 6 0 [] [] [K,bN e K],p2,u1-1,j1,?_,Th.un (by have:=bP (e:=e) (by omega) hK;unfold bN at this;simp[Pn.thin,Pn.iD,hK]at this ⊢;exact this) hKB,by omega,by omega,by omega,by omega,by omega⟩;rw[aF rfl Tryz.func100 rfl rfl];simp[PSt,ht,hv,v0,we,hkid,hW,hkk,wn,hq,he,hf,bF,Pn.aB K,Ex.aB e,hu,hc,wu,Pn.bD,Ex.aA,aI,Pn.aA]
theorem QG {l:List UInt8} (hl:l.length≤2000) {ws:List Int} {k:Nat} {d j c2:Nat} {p u t v W kk p1 u1:Int} {j1:Nat} {K:Pn} (H:PlH l ws k d j c2 p u t v W kk p1 u1 j1 K) (hw1:¬ 1<W) (hq:kk=9):PlC l ws k d j c2 p u p1 j1:=by
 obtain⟨hd,h1,hp1,hu0,hu1,hW0,hW6,hKB,ht,hv,v0,hkid,hW,hkk⟩:=H;have we:IntKind.i64.wrap (d:Int)=d:=wrO;have hK:=hKB.1;have wn:¬ ((d:Int)+1=0):=by omega
 simp only[PSt]at hkid;rw[Pn.aB K]at hkid hW;refine⟨.mk 8 0 [] [] [K],p1+1,u1,j1,?_,Th.one (by simp[Pn.thin,Pn.iD,hK]) hKB,by omega,by omega,by omega,by omega,by omega⟩;rw[aF rfl Tryz.func100 rfl rfl];simp[PSt,ht,hv,v0,we,hkid,hW,hkk,wn,hq,hw1,Pn.bD,Ex.aA,aI,Pn.aA,Pn.aB K]
theorem QF {l:List UInt8} (hl:l.length≤2000) {ws:List Int} {k:Nat} {d j c2:Nat} {p u t v W kk p1 u1:Int} {j1:Nat} {K:Pn} (H:PlH l ws k d j c2 p u t v W kk p1 u1 j1 K) (hw1:1<W) (hq:kk=9):PlC l ws k d j c2 p u p1 j1:=by
 obtain⟨hd,h1,hp1,hu0,hu1,hW0,hW6,hKB,ht,hv,v0,hkid,hW,hkk⟩:=H;have we:IntKind.i64.wrap (d:Int)=d:=wrO;have hK:=hKB.1;have wn:¬ ((d:Int)+1=0):=by omega
 simp only[PSt]at hkid;rw[Pn.aB K]at hkid hW;obtain⟨g,hg,-,-⟩:=bE l (p1+1) W (by omega) (by omega) hl;refine⟨.mk 8 0 [] [g] [K],p1+1+1,u1,j1,?_,Th.one (by simp[Pn.thin,Pn.iD,hK]) hKB,by omega,by omega,by omega,by omega,by omega⟩;rw[aF rfl Tryz.func100 rfl rfl];simp[PSt,ht,hv,v0,we,hkid,hW,hkk,wn,hq,hg,hw1,Pn.bD,Ex.aA,aI,Pn.aA,Pn.aB K]
theorem VZ {l:List UInt8} (hl:l.length≤2000) {ws:List Int} (hw:∀ w∈ws,0≤w∧w≤6) (hwl:ws.length<1000000) {k:Nat} (hk0:0<k) (hkl:k≤ws.length) {d j c2:Nat} {p u t v W kk p1 u1:Int} {j1:Nat} {K:Pn} (H:PlH l ws k d j c2 p u t v W kk p1 u1 j1 K) (hj:j1≠0) (hjb:j1<1000) (hw4:W≤4) (hoth:∀ y:Nat,y≤1→mJ l ws k y (j1-1) c2) (hq:kk=5):PlC l ws k d j c2 p u p1 j1:=by
 obtain⟨hd,h1,hp1,hu0,hu1,hW0,hW6,hKB,ht,hv,v0,hkid,hW,hkk⟩:=H;have we:IntKind.i64.wrap (d:Int)=d:=wrO;have hK:=hKB.1;have wn:¬ ((d:Int)+1=0):=by omega
 simp only[PSt]at hkid;rw[Pn.aB K]at hkid hW;have hj':0<j1:=by omega
 have wj:IntKind.i64.wrap ((j1:Int)-1)=((j1-1:Nat):Int):=by rw[wrO];omega
 obtain⟨x,hx,hx1,-⟩:=bE l (p1+1) 2 (by omega) (by omega) hl;obtain⟨x0,x1⟩:=hx1 (by omega)
 obtain⟨y,rfl⟩:∃ y:Nat,x=y:=⟨x.toNat,by omega⟩
 obtain⟨O,p2,u2,j2,hO,hOt,b1,b2,b3,b4,b5⟩:=hoth y (by omega) (p1+1+1) u1 (by omega) (by omega) hu0 hu1;have hV:=gF hw hwl hk0 hkl O hOt.1;have hVr:=Pn.kY (ws:=ws.take k) (fun w hm=>hw w (zJ hm)) O 8;generalize O.wd (ws.take k) 8=V at hV hVr;have wv:IntKind.i64.wrap (W+V)=W+V:=wrO;simp only[PSt]at hO;rw[Pn.aB O]at hO hV;by_cases hs:W+V≤6
 ·have h1:=pK l p2 (by omega) (by omega) hl [[.int 4],[.int 5]] (by simp) (by simp) (by simp);obtain⟨z,hz,hzm⟩:=h1;obtain⟨e,p3,he,a1,a2,a3⟩:=aM l hl (W+V) (p2+1) (by omega) (by omega);rw[Ex.aB e]at he;simp only[zS,zI,zK,Nat.reduceAdd]at hz;have het:=Ex.dA e (by omega);refine⟨.mk z 0 [e] [] [K,O],p3,u2,j2,?_,Th.jn (by simp[Pn.thin,Pn.iD,hK,hOt.1,het]) hj hKB hOt,by omega,by omega,by omega,by omega,by omega⟩;rw[aF rfl Tryz.func100 rfl rfl];simp[PSt,ht,hv,v0,we,hkid,hW,hkk,wn,hq,hj',hj,hw4,wj,hx,hO,hV,wv,hs,hz,he,Pn.bD,Ex.aA,aI,Pn.aA,Pn.aB K,Pn.aB O,Ex.aB e]
 ·obtain⟨e,p3,he,a1,a2,a3⟩:=aM l hl W p2 (by omega) (by omega);have hf:=eQ e K;rw[bF,Pn.aB K,Ex.aB e]at hf;rw[Ex.aB e]at he;refine⟨bN e K,p3,u2,j2,?_,Th.skip (bP (by omega) hK) hKB (by omega) hOt.2.1.2.1,by omega,by omega,by omega,by omega,by omega⟩;rw[aF rfl Tryz.func100 rfl rfl];simp[PSt,ht,hv,v0,we,hkid,hW,hkk,wn,hq,hj',hj,hw4,wj,hx,hO,hV,wv,hs,he,hf,bF,Pn.aB K,Ex.aB e]
theorem VY {l:List UInt8} (hl:l.length≤2000) {ws:List Int} (hw:∀ w∈ws,0≤w∧w≤6) (hwl:ws.length<1000000) {k:Nat} (hk0:0<k) (hkl:k≤ws.length) {d j c2:Nat} {p u t v W kk p1 u1:Int} {j1:Nat} {K:Pn} (H:PlH l ws k d j c2 p u t v W kk p1 u1 j1 K) (hj:j1≠0) (hjb:j1<1000) (hw4:W≤4) (hoth:∀ y:Nat,y≤1→mJ l ws k y (j1-1) c2) (hq:kk=6):PlC l ws k d j c2 p u p1 j1:=by
 obtain⟨hd,h1,hp1,hu0,hu1,hW0,hW6,hKB,ht,hv,v0,hkid,hW,hkk⟩:=H;have we:IntKind.i64.wrap (d:Int)=d:=wrO;have hK:=hKB.1;have wn:¬ ((d:Int)+1=0):=by omega
 simp only[PSt]at hkid;rw[Pn.aB K]at hkid hW;have hj':0<j1:=by omega
 have wj:IntKind.i64.wrap ((j1:Int)-1)=((j1-1:Nat):Int):=by rw[wrO];omega
 obtain⟨x,hx,hx1,-⟩:=bE l (p1+1) 2 (by omega) (by omega) hl;obtain⟨x0,x1⟩:=hx1 (by omega)
 obtain⟨y,rfl⟩:∃ y:Nat,x=y:=⟨x.toNat,by omega⟩
 obtain⟨O,p2,u2,j2,hO,hOt,b1,b2,b3,b4,b5⟩:=hoth y (by omega) (p1+1+1) u1 (by omega) (by omega) hu0 hu1;have hV:=gF hw hwl hk0 hkl O hOt.1;have hVr:=Pn.kY (ws:=ws.take k) (fun w hm=>hw w (zJ hm)) O 8;generalize O.wd (ws.take k) 8=V at hV hVr;have wv:IntKind.i64.wrap (W+V)=W+V:=wrO;simp only[PSt]at hO;rw[Pn.aB O]at hO hV;by_cases hs:W+V≤6
 ·have h1:=pK l p2 (by omega) (by omega) hl [[.int 4],[.int 5]] (by simp) (by simp) (by simp);obtain⟨z,hz,hzm⟩:=h1;obtain⟨e,p3,he,a1,a2,a3⟩:=aM l hl (W+V) (p2+1) (by omega) (by omega);rw[Ex.aB e]at he;simp only[zS,zI,zK,Nat.reduceAdd]at hz;have het:=Ex.dA e (by omega);refine⟨.mk z 0 [e] [] [K,O],p3,u2,j2,?_,Th.jn (by simp[Pn.thin,Pn.iD,hK,hOt.1,het]) hj hKB hOt,by omega,by omega,by omega,by omega,by omega⟩;rw[aF rfl Tryz.func100 rfl rfl];simp[PSt,ht,hv,v0,we,hkid,hW,hkk,wn,hq,hj',hj,hw4,wj,hx,hO,hV,wv,hs,hz,he,Pn.bD,Ex.aA,aI,Pn.aA,Pn.aB K,Pn.aB O,Ex.aB e]
 ·obtain⟨e,p3,he,a1,a2,a3⟩:=aM l hl W p2 (by omega) (by omega);have hf:=eQ e K;rw[bF,Pn.aB K,Ex.aB e]at hf;rw[Ex.aB e]at he;refine⟨bN e K,p3,u2,j2,?_,Th.skip (bP (by omega) hK) hKB (by omega) hOt.2.1.2.1,by omega,by omega,by omega,by omega,by omega⟩;rw[aF rfl Tryz.func100 rfl rfl];simp[PSt,ht,hv,v0,we,hkid,hW,hkk,wn,hq,hj',hj,hw4,wj,hx,hO,hV,wv,hs,he,hf,bF,Pn.aB K,Ex.aB e]
theorem VW {l:List UInt8} (hl:l.length≤2000) {ws:List Int} {k:Nat} {d j c2:Nat} {p u t v W kk p1 u1:Int} {j1:Nat} {K:Pn} (H:PlH l ws k d j c2 p u t v W kk p1 u1 j1 K) (hq:kk=3):PlC l ws k d j c2 p u p1 j1:=by
 obtain⟨hd,h1,hp1,hu0,hu1,hW0,hW6,hKB,ht,hv,v0,hkid,hW,hkk⟩:=H;have we:IntKind.i64.wrap (d:Int)=d:=wrO;have hK:=hKB.1;have wn:¬ ((d:Int)+1=0):=by omega
 simp only[PSt]at hkid;rw[Pn.aB K]at hkid hW;obtain⟨m,hm,hm1,-⟩:=bE l (p1+1) 2 (by omega) (by omega) hl;obtain⟨m0,m1⟩:=hm1 (by omega);have w2:IntKind.i64.wrap (2:Int)=2:=wrO;have w1:=bL;have w0:IntKind.i64.wrap (0:Int)=0:=wrO;obtain⟨x1,hx1,hy1,-⟩:=bE l (p1+1+1) 2 (by omega) (by omega) hl;obtain⟨x1a,x1b⟩:=hy1 (by omega)
 obtain⟨y1,rfl⟩:∃ y:Nat,x1=y:=⟨x1.toNat,by omega⟩
 have hc1:jF y1≤9:=by rcases(show y1=0∨y1=1 by omega)with h|h<;>simp[h,jF]
 obtain⟨e1,q1,he1,c1a,c1b,c1c⟩:=rE l hl W y1 (by omega) (by omega) ((p1+1+1)+1) (by omega) (by omega);rw[Ex.aB e1]at he1;have t1:=Ex.dA e1 (by omega)
 rcases(show m=0∨m=1 by omega)with rfl|rfl
 ·refine⟨.mk 3 0 [e1] [] [K],q1,u1,j1,?_,Th.one (by simp[Pn.thin,Pn.iD,hK,t1]) hKB,by omega,by omega,by omega,by omega,by omega⟩;rw[aF rfl Tryz.func100 rfl rfl];simp[PSt,ht,hv,v0,we,hkid,hW,hkk,wn,hq,hm,w1];rw[aD];simp[hx1,he1,w0];rw[aD];simp[Pn.bD,Ex.aA,aI,Pn.aA,Pn.aB K,Ex.aB e1,PSt]
 ·obtain⟨x2,hx2,hy2,-⟩:=bE l q1 2 (by omega) (by omega) hl;obtain⟨x2a,x2b⟩:=hy2 (by omega)
  obtain⟨y2,rfl⟩:∃ y:Nat,x2=y:=⟨x2.toNat,by omega⟩
  have hc2:jF y2≤9:=by rcases(show y2=0∨y2=1 by omega)with h|h<;>simp[h,jF]
  obtain⟨e2,q2,he2,c2a,c2b,c2c⟩:=rE l hl W y2 (by omega) (by omega) (q1+1) (by omega) (by omega);rw[Ex.aB e2]at he2;have t2:=Ex.dA e2 (by omega);refine⟨.mk 3 0 [e1,e2] [] [K],q2,u1,j1,?_,Th.one (by simp[Pn.thin,Pn.iD,hK,t1,t2]) hKB,by omega,by omega,by omega,by omega,by omega⟩;rw[aF rfl Tryz.func100 rfl rfl];simp[PSt,ht,hv,v0,we,hkid,hW,hkk,wn,hq,hm,w2];rw[aD];simp[hx1,he1,w1];rw[aD];simp[hx2,he2,w0];rw[aD];simp[Pn.bD,Ex.aA,aI,Pn.aA,Pn.aB K,Ex.aB e1,Ex.aB e2,PSt]
theorem VV {l:List UInt8} (hl:l.length≤2000) {ws:List Int} {k:Nat} {d j c2:Nat} {p u t v W kk p1 u1:Int} {j1:Nat} {K:Pn} (H:PlH l ws k d j c2 p u t v W kk p1 u1 j1 K) (hq:kk=4):PlC l ws k d j c2 p u p1 j1:=by
 obtain⟨hd,h1,hp1,hu0,hu1,hW0,hW6,hKB,ht,hv,v0,hkid,hW,hkk⟩:=H;have we:IntKind.i64.wrap (d:Int)=d:=wrO;have hK:=hKB.1;have wn:¬ ((d:Int)+1=0):=by omega
 simp only[PSt]at hkid;rw[Pn.aB K]at hkid hW;obtain⟨m,hm,hm1,-⟩:=bE l (p1+1) 2 (by omega) (by omega) hl;obtain⟨m0,m1⟩:=hm1 (by omega);have w2:IntKind.i64.wrap (2:Int)=2:=wrO;have w1:=bL;have w0:IntKind.i64.wrap (0:Int)=0:=wrO;obtain⟨x1,hx1,hy1,-⟩:=bE l (p1+1+1) 2 (by omega) (by omega) hl;obtain⟨x1a,x1b⟩:=hy1 (by omega)
 obtain⟨y1,rfl⟩:∃ y:Nat,x1=y:=⟨x1.toNat,by omega⟩
 have hc1:jF y1≤9:=by rcases(show y1=0∨y1=1 by omega)with h|h<;>simp[h,jF]
 obtain⟨e1,q1,he1,c1a,c1b,c1c⟩:=rE l hl W y1 (by omega) (by omega) ((p1+1+1)+1) (by omega) (by omega);rw[Ex.aB e1]at he1;have t1:=Ex.dA e1 (by omega)
 rcases(show m=0∨m=1 by omega)with rfl|rfl
 ·refine⟨.mk 3 0 [e1] [] [K],q1,u1,j1,?_,Th.one (by simp[Pn.thin,Pn.iD,hK,t1]) hKB,by omega,by omega,by omega,by omega,by omega⟩;rw[aF rfl Tryz.func100 rfl rfl];simp[PSt,ht,hv,v0,we,hkid,hW,hkk,wn,hq,hm,w1];rw[aD];simp[hx1,he1,w0];rw[aD];simp[Pn.bD,Ex.aA,aI,Pn.aA,Pn.aB K,Ex.aB e1,PSt]
 ·obtain⟨x2,hx2,hy2,-⟩:=bE l q1 2 (by omega) (by omega) hl;obtain⟨x2a,x2b⟩:=hy2 (by omega)
  obtain⟨y2,rfl⟩:∃ y:Nat,x2=y:=⟨x2.toNat,by omega⟩
  have hc2:jF y2≤9:=by rcases(show y2=0∨y2=1 by omega)with h|h<;>simp[h,jF]
  obtain⟨e2,q2,he2,c2a,c2b,c2c⟩:=rE l hl W y2 (by omega) (by omega) (q1+1) (by omega) (by omega);rw[Ex.aB e2]at he2;have t2:=Ex.dA e2 (by omega);refine⟨.mk 3 0 [e1,e2] [] [K],q2,u1,j1,?_,Th.one (by simp[Pn.thin,Pn.iD,hK,t1,t2]) hKB,by omega,by omega,by omega,by omega,by omega⟩;rw[aF rfl Tryz.func100 rfl rfl];simp[PSt,ht,hv,v0,we,hkid,hW,hkk,wn,hq,hm,w2];rw[aD];simp[hx1,he1,w1];rw[aD];simp[hx2,he2,w0];rw[aD];simp[Pn.bD,Ex.aA,aI,Pn.aA,Pn.aB K,Ex.aB e1,Ex.aB e2,PSt]
theorem AA3 {l:List UInt8} {ws:List Int} {k:Nat} {d j:Nat} {p u t:Int} (hd:d<100) (ht:aH C0 33 [.own 0 0, .int k] [Rd l p]=some (.int t,[Rd l (p+1)])) (hv:aH C0 33 [.own 0 0, .int 6] [Rd l (p+1)]=some (.int 0,[Rd l (p+1+1)])) :
 aH CP 100 [.own 0 0, .int ((d+1:Nat):Int)] (PSt l ws k j u p)=some (.i (.agg (Pn.scan t).cells),PSt l ws k j u (p+1+1)):=by
 have wn:¬ ((d:Int)+1=0):=by omega
 rw[aF rfl Tryz.func100 rfl rfl];simp[PSt,ht,hv,I8,wn]
theorem NF {l:List UInt8} (hl:l.length≤2000) {ws:List Int} (hw:∀ w∈ws,0≤w∧w≤6) (hwl:ws.length<1000000) {k:Nat} (hk0:0<k) (hkl:k≤ws.length) {d j c c2:Nat} (hd:d<100) (hjb:j<1000) (ih:mJ l ws k d j c) (hoth:∀ i:Nat,i<j→∀ y:Nat,y≤1→mJ l ws k y i c2):mJ l ws k (d+1) j (c+c2+500):=by
 intro p u h0 h1 hu0 hu1;obtain⟨t,ht,-,-⟩:=bE l p k h0 (by omega) hl;obtain⟨v,hv,-,-⟩:=bE l (p+1) 6 (by omega) (by omega) hl;by_cases v0:v=0
 ·subst v0;exact⟨.scan t,p+1+1,u,j,AA3 hd ht hv,Th.scan (Pn.CZ t) _ _,by omega,by omega,by omega,by omega,by omega⟩
 obtain⟨K,p1,u1,j1,hkid,hK,a1,a2,a3,a4,a5⟩:=ih (p+1+1) u (by omega) (by omega) hu0 hu1;have hW:=gF hw hwl hk0 hkl K hK.1;have hWr:=Pn.kY (ws:=ws.take k) (fun w hm=>hw w (zJ hm)) K 8;generalize K.wd (ws.take k) 8=W at hW hWr;obtain⟨kk,hkk,hkk1,-⟩:=bE l p1 10 (by omega) (by omega) hl;obtain⟨kk0,kk9⟩:=hkk1 (by omega)
 suffices H:∃ (P:Pn) (p' u':Int) (j':Nat),aH CP 100 [.own 0 0, .int ((d+1:Nat):Int)] (PSt l ws k j u p)=some (.i (.agg P.cells),PSt l ws k j' u' p')∧Th P j j' u u'∧p1≤p'∧p'≤p1+400+c2∧j'≤j1∧0≤u'∧u'≤1 by
  obtain⟨P,p',u',j',b1,b2,b3,b4,b5,b6,b7⟩:=H;exact⟨P,p',u',j',b1,b2,by omega,by omega,by omega,b6,b7⟩
 have hb:p1+400+c2<300000000:=by omega
 have hp1:0≤p1:=by omega
 have H:PlH _ _ _ _ _ _ _ _ _ _ _ _ _ _ _ _:=⟨hd,hb,hp1,a4,a5,hWr.1,hWr.2,hK,ht,hv,v0,hkid,hW,hkk⟩
 by_cases q0:kk=0
 ·exact NL hl H q0
 by_cases q1:kk=1
 ·exact NK hl H q1
 by_cases q2:kk=2
 ·exact NJ hl H q2
 by_cases q3:kk=3
 ·exact VW hl H q3
 by_cases q4:kk=4
 ·exact VV hl H q4
 by_cases q5:kk=5
 ·by_cases hj:j1=0
  ·exact NI hl H hj q5
  by_cases hw4:W≤4
  ·exact VZ hl hw hwl hk0 hkl H hj (by omega) hw4 (fun y hy=>hoth (j1-1) (by omega) y hy) q5
  ·exact VT hl H hj hw4 q5
 by_cases q6:kk=6
 ·by_cases hj:j1=0
  ·exact NH hl H hj q6
  by_cases hw4:W≤4
  ·exact VY hl hw hwl hk0 hkl H hj (by omega) hw4 (fun y hy=>hoth (j1-1) (by omega) y hy) q6
  ·exact VS hl H hj hw4 q6
 by_cases q7:kk=7
 ·by_cases hu:0<u1
  ·exact VU hl H hu q7
  ·exact NG hl H hu q7
 by_cases q8:kk=8
 ·exact K7 hl H q8
 have q9:kk=9:=by omega
 by_cases hw1:1<W
 ·exact QF hl H hw1 q9
 ·exact QG hl H hw1 q9
theorem mJ.le {l:List UInt8} {ws:List Int} {k:Nat} {d j c c':Nat} (h:mJ l ws k d j c) (hc:c≤c'):mJ l ws k d j c':=by
 intro p u h0 h1 hu0 hu1;obtain⟨P,p',u',j',b1,b2,b3,b4,b5,b6,b7⟩:=h p u h0 (by omega) hu0 hu1;exact⟨P,p',u',j',b1,b2,b3,by omega,b5,b6,b7⟩
theorem DN {l:List UInt8} (hl:l.length≤2000) {ws:List Int} (hw:∀ w∈ws,0≤w∧w≤6) (hwl:ws.length<1000000) {k:Nat} (hk0:0<k) (hkl:k≤ws.length):∀ d:Nat,d<50→mJ l ws k d 0 (500*d+1)
 | 0,_=>(NE hl 0).le (by omega)
 | d+1,h=>(NF hl hw hwl hk0 hkl (c2:=0) (by omega) (by omega) (DN hl hw hwl hk0 hkl d (by omega)) (fun i hi=>by omega)).le (by omega)
theorem SY {l:List UInt8} (hl:l.length≤2000) {ws:List Int} (hw:∀ w∈ws,0≤w∧w≤6) (hwl:ws.length<1000000) {k:Nat} (hk0:0<k) (hkl:k≤ws.length):∀ d:Nat,d<50→mJ l ws k d 1 (2000*d+1)
 | 0,_=>(NE hl 1).le (by omega)
 | d + 1,h=>(NF hl hw hwl hk0 hkl (c2:=501) (by omega) (by omega) (SY hl hw hwl hk0 hkl d (by omega)) (fun i hi y hy=>by
     obtain rfl:i=0:=by omega
     exact(DN hl hw hwl hk0 hkl y (by omega)).le (by omega))).le (by omega)
theorem AAX {e:Ex} {p:Pn} (he:e.size≤120) (hp:p.thin):(bN e p).thin:=bP (by omega) hp
def bl (n:Nat):Nat:=if n=0 then 0 else 1
def rX (b:Nat) (P:Pn):AV:=.agg [.int P.kind, .int P.table,gro b 5 P.exprs.length,gro (b+bl P.exprs.length) 1 P.cols.length,gro (b+bl P.exprs.length+bl P.cols.length) 5 P.kids.length]
def rS (P:Pn):StL:=PQ 5 (Ex.aA P.exprs) P.exprs.length++(PQ 1 (aI P.cols) P.cols.length++PQ 5 (Pn.aA P.kids) P.kids.length)
@[simp] theorem ARI (a:List AV) (st:StL):aH CQ 100 a st=aH CP 100 a st:=by rw[aN (p:=aH CP 100) rfl]
@[simp] theorem AJL (a:List AV) (st:StL):aH CQ 101 a st=mI C0 true 101 a st:=by rw[aN (p:=mI C0 true 101) rfl]
@[simp] theorem AGO (a:List AV) (st:StL):aH CQ 48 a st=aH CP 48 a st:=by rw[aN (p:=NU (aH C0) 48) rfl,aN (p:=NU (aH C0) 48) rfl]
@[simp] theorem AJM (a:List AV) (st:StL):aH CQ 52 a st=aH CP 52 a st:=by rw[aN (p:=AGL (aH C0) 52) rfl,aN (p:=AGL (aH C0) 52) rfl]
@[simp] theorem ARJ (a:List AV) (st:StL):aH CQ 33 a st=aH C0 33 a st:=by rw[aN (p:=aH C0 33) rfl]
@[simp] theorem AT2 (a:List AV) (st:StL):aH CQ 43 a st=aH C0 43 a st:=by rw[aN (p:=aH C0 43) rfl]
@[simp] theorem ARL (a:List AV) (st:StL):aH CQ 102 a st=aH C0 102 a st:=by rw[aN (p:=aH C0 102) rfl]
@[simp] theorem ARK (a:List AV) (st:StL):aH CQ 103 a st=aH C0 103 a st:=by rw[aN (p:=aH C0 103) rfl]
theorem dO (e:Ex) (p:Pn):mI C0 true 101 [.i (.agg e.cells), .i (.agg p.cells)] []=some (.agg [.int 2, .int 0, .osl 0 5 0 1, .nils, .osl 1 5 0 1],[some (.arr 5 [e.cells]),some (.arr 5 [p.cells])]):=by
 rw[dH Tryz.func101 rfl rfl,Ex.aB,Pn.aB];simp
def PG (l:List UInt8) (ws:List Int) (k d j c:Nat):Prop:=∀ p u:Int,0≤p→p+c<300000000→0≤u→u≤1→∃ (P:Pn) (p' u':Int) (j':Nat),
    mI CQ true 100 [.own 0 0, .int d] (PSt l ws k j u p)=some (rX 3 P,PSt l ws k j' u' p'++rS P)∧Th P j j' u u'∧p≤p'∧p'≤p+c∧j'≤j∧0≤u'∧u'≤1∧P.exprs.length≤2∧P.cols.length≤1
theorem ZM {l:List UInt8} {ws:List Int} {k:Nat} {d j:Nat} {p u t:Int} (hd:d<100) (ht:aH C0 33 [.own 0 0, .int k] [Rd l p]=some (.int t,[Rd l (p+1)])) (hv:aH C0 33 [.own 0 0, .int 6] [Rd l (p+1)]=some (.int 0,[Rd l (p+1+1)])) :
 mI CQ true 100 [.own 0 0, .int ((d+1:Nat):Int)] (PSt l ws k j u p)=some (rX 3 (Pn.scan t),PSt l ws k j u (p+1+1)++rS (Pn.scan t)):=by
 have wn:¬ ((d:Int)+1=0):=by omega
 rw[dH Tryz.func100 rfl rfl];simp[PSt,ht,hv,wn,rX,rS,bl,Pn.scan]
abbrev RtC (l:List UInt8) (ws:List Int) (k d j c2:Nat) (p u p1:Int) (j1:Nat):Prop:=∃ (P:Pn) (p' u':Int) (j':Nat),mI CQ true 100 [.own 0 0, .int ((d+1:Nat):Int)] (PSt l ws k j u p)=some (rX 3 P,PSt l ws k j' u' p'++rS P)∧Th P j j' u u'∧p1≤p'∧p'≤p1+400+c2∧j'≤j1∧0≤u'∧u'≤1∧P.exprs.length≤2∧P.cols.length≤1
theorem MZ {l:List UInt8} (hl:l.length≤2000) {ws:List Int} {k:Nat} {d j c2:Nat} {p u t v W kk p1 u1:Int} {j1:Nat} {K:Pn} (H:PlH l ws k d j c2 p u t v W kk p1 u1 j1 K) (hq:kk=0):RtC l ws k d j c2 p u p1 j1:=by
 obtain⟨hd,h1,hp1,hu0,hu1,hW0,hW6,hKB,ht,hv,v0,hkid,hW,hkk⟩:=H;have we:IntKind.i64.wrap (d:Int)=d:=wrO;have hK:=hKB.1;have wn:¬ ((d:Int)+1=0):=by omega
 simp only[PSt]at hkid;rw[Pn.aB K]at hkid hW;obtain⟨e,p2,he,a1,a2,a3⟩:=aM l hl W (p1+1) (by omega) (by omega);have hf:=dO e K;rw[Pn.aB K,Ex.aB e]at hf;rw[Ex.aB e]at he;refine⟨bN e K,p2,u1,j1,?_,Th.one (bP (by omega) hK) hKB,by omega,by omega,by omega,by omega,by omega,by simp[bN,Pn.scan],by simp[bN,Pn.scan]⟩;rw[dH Tryz.func100 rfl rfl];simp[PSt,ht,hv,v0,we,hkid,hW,hkk,wn,hq,rX,rS,bl,he,hf,bN,Ex.aA,aI,Pn.aA,Pn.aB K,Ex.aB e]
theorem MX {l:List UInt8} (hl:l.length≤2000) {ws:List Int} {k:Nat} {d j c2:Nat} {p u t v W kk p1 u1:Int} {j1:Nat} {K:Pn} (H:PlH l ws k d j c2 p u t v W kk p1 u1 j1 K) (hq:kk=1):RtC l ws k d j c2 p u p1 j1:=by
 obtain⟨hd,h1,hp1,hu0,hu1,hW0,hW6,hKB,ht,hv,v0,hkid,hW,hkk⟩:=H;have we:IntKind.i64.wrap (d:Int)=d:=wrO;have hK:=hKB.1;have wn:¬ ((d:Int)+1=0):=by omega
 simp only[PSt]at hkid;rw[Pn.aB K]at hkid hW;obtain⟨e,p2,he,a1,a2,a3⟩:=aM l hl W (p1+1) (by omega) (by omega);have hf:=dO e K;rw[Pn.aB K,Ex.aB e]at hf;rw[Ex.aB e]at he;refine⟨bN e K,p2,u1,j1,?_,Th.one (bP (by omega) hK) hKB,by omega,by omega,by omega,by omega,by omega,by simp[bN,Pn.scan],by simp[bN,Pn.scan]⟩;rw[dH Tryz.func100 rfl rfl];simp[PSt,ht,hv,v0,we,hkid,hW,hkk,wn,hq,rX,rS,bl,he,hf,bN,Ex.aA,aI,Pn.aA,Pn.aB K,Ex.aB e]
theorem MW {l:List UInt8} (hl:l.length≤2000) {ws:List Int} {k:Nat} {d j c2:Nat} {p u t v W kk p1 u1:Int} {j1:Nat} {K:Pn} (H:PlH l ws k d j c2 p u t v W kk p1 u1 j1 K) (hq:kk=2):RtC l ws k d j c2 p u p1 j1:=by
 obtain⟨hd,h1,hp1,hu0,hu1,hW0,hW6,hKB,ht,hv,v0,hkid,hW,hkk⟩:=H;have we:IntKind.i64.wrap (d:Int)=d:=wrO;have hK:=hKB.1;have wn:¬ ((d:Int)+1=0):=by omega
 simp only[PSt]at hkid;rw[Pn.aB K]at hkid hW;obtain⟨e,p2,he,a1,a2,a3⟩:=aM l hl W (p1+1) (by omega) (by omega);have hf:=dO e K;rw[Pn.aB K,Ex.aB e]at hf;rw[Ex.aB e]at he;refine⟨bN e K,p2,u1,j1,?_,Th.one (bP (by omega) hK) hKB,by omega,by omega,by omega,by omega,by omega,by simp[bN,Pn.scan],by simp[bN,Pn.scan]⟩;rw[dH Tryz.func100 rfl rfl];simp[PSt,ht,hv,v0,we,hkid,hW,hkk,wn,hq,rX,rS,bl,he,hf,bN,Ex.aA,aI,Pn.aA,Pn.aB K,Ex.aB e]
theorem JX {l:List UInt8} (hl:l.length≤2000) {ws:List Int} {k:Nat} {d j c2:Nat} {p u t v W kk p1 u1:Int} {j1:Nat} {K:Pn} (H:PlH l ws k d j c2 p u t v W kk p1 u1 j1 K) (hq:kk=8):RtC l ws k d j c2 p u p1 j1:=by
 obtain⟨hd,h1,hp1,hu0,hu1,hW0,hW6,hKB,ht,hv,v0,hkid,hW,hkk⟩:=H;have we:IntKind.i64.wrap (d:Int)=d:=wrO;have hK:=hKB.1;have wn:¬ ((d:Int)+1=0):=by omega
 simp only[PSt]at hkid;rw[Pn.aB K]at hkid hW;refine⟨.mk 7 0 [] [] [K],p1+1,u1,j1,?_,Th.one (by simp[Pn.thin,Pn.iD,hK]) hKB,by omega,by omega,by omega,by omega,by omega,by simp[bN,Pn.scan],by simp[bN,Pn.scan]⟩;rw[dH Tryz.func100 rfl rfl];simp[PSt,ht,hv,v0,we,hkid,hW,hkk,wn,hq,rX,rS,bl,Pn.cells,Ex.aA,aI,Pn.aA,Pn.aB K]
theorem MV {l:List UInt8} (hl:l.length≤2000) {ws:List Int} {k:Nat} {d j c2:Nat} {p u t v W kk p1 u1:Int} {j1:Nat} {K:Pn} (H:PlH l ws k d j c2 p u t v W kk p1 u1 j1 K) (hj:j1=0) (hq:kk=5):RtC l ws k d j c2 p u p1 j1:=by
 obtain⟨hd,h1,hp1,hu0,hu1,hW0,hW6,hKB,ht,hv,v0,hkid,hW,hkk⟩:=H;have we:IntKind.i64.wrap (d:Int)=d:=wrO;have hK:=hKB.1;have wn:¬ ((d:Int)+1=0):=by omega
 simp only[PSt]at hkid;rw[Pn.aB K]at hkid hW;obtain⟨e,p2,he,a1,a2,a3⟩:=aM l hl W (p1+1) (by omega) (by omega);have hf:=dO e K;rw[Pn.aB K,Ex.aB e]at hf;rw[Ex.aB e]at he;refine⟨bN e K,p2,u1,j1,?_,Th.one (bP (by omega) hK) hKB,by omega,by omega,by omega,by omega,by omega,by simp[bN,Pn.scan],by simp[bN,Pn.scan]⟩;rw[dH Tryz.func100 rfl rfl];simp[PSt,ht,hv,v0,we,hkid,hW,hkk,wn,hq,rX,rS,bl,he,hf,bN,Ex.aA,aI,Pn.aA,Pn.aB K,Ex.aB e,hj]
theorem VI {l:List UInt8} (hl:l.length≤2000) {ws:List Int} {k:Nat} {d j c2:Nat} {p u t v W kk p1 u1:Int} {j1:Nat} {K:Pn} (H:PlH l ws k d j c2 p u t v W kk p1 u1 j1 K) (hj:j1≠0) (hw4:¬ W≤4) (hq:kk=5):RtC l ws k d j c2 p u p1 j1:=by
 obtain⟨hd,h1,hp1,hu0,hu1,hW0,hW6,hKB,ht,hv,v0,hkid,hW,hkk⟩:=H;have we:IntKind.i64.wrap (d:Int)=d:=wrO;have hK:=hKB.1;have wn:¬ ((d:Int)+1=0):=by omega
 simp only[PSt]at hkid;rw[Pn.aB K]at hkid hW;have hj':0<j1:=by omega
 obtain⟨e,p2,he,a1,a2,a3⟩:=aM l hl W (p1+1) (by omega) (by omega);have hf:=dO e K;rw[Pn.aB K,Ex.aB e]at hf;rw[Ex.aB e]at he;refine⟨bN e K,p2,u1,j1,?_,Th.one (bP (by omega) hK) hKB,by omega,by omega,by omega,by omega,by omega,by simp[bN,Pn.scan],by simp[bN,Pn.scan]⟩;rw[dH Tryz.func100 rfl rfl];simp[PSt,ht,hv,v0,we,hkid,hW,hkk,wn,hq,rX,rS,bl,he,hf,bN,Ex.aA,aI,Pn.aA,Pn.aB K,Ex.aB e,hj',hj,hw4]
theorem MU {l:List UInt8} (hl:l.length≤2000) {ws:List Int} {k:Nat} {d j c2:Nat} {p u t v W kk p1 u1:Int} {j1:Nat} {K:Pn} (H:PlH l ws k d j c2 p u t v W kk p1 u1 j1 K) (hj:j1=0) (hq:kk=6):RtC l ws k d j c2 p u p1 j1:=by
 obtain⟨hd,h1,hp1,hu0,hu1,hW0,hW6,hKB,ht,hv,v0,hkid,hW,hkk⟩:=H;have we:IntKind.i64.wrap (d:Int)=d:=wrO;have hK:=hKB.1;have wn:¬ ((d:Int)+1=0):=by omega
 simp only[PSt]at hkid;rw[Pn.aB K]at hkid hW;obtain⟨e,p2,he,a1,a2,a3⟩:=aM l hl W (p1+1) (by omega) (by omega);have hf:=dO e K;rw[Pn.aB K,Ex.aB e]at hf;rw[Ex.aB e]at he;refine⟨bN e K,p2,u1,j1,?_,Th.one (bP (by omega) hK) hKB,by omega,by omega,by omega,by omega,by omega,by simp[bN,Pn.scan],by simp[bN,Pn.scan]⟩;rw[dH Tryz.func100 rfl rfl];simp[PSt,ht,hv,v0,we,hkid,hW,hkk,wn,hq,rX,rS,bl,he,hf,bN,Ex.aA,aI,Pn.aA,Pn.aB K,Ex.aB e,hj]
theorem VH {l:List UInt8} (hl:l.length≤2000) {ws:List Int} {k:Nat} {d j c2:Nat} {p u t v W kk p1 u1:Int} {j1:Nat} {K:Pn} (H:PlH l ws k d j c2 p u t v W kk p1 u1 j1 K) (hj:j1≠0) (hw4:¬ W≤4) (hq:kk=6):RtC l ws k d j c2 p u p1 j1:=by
 obtain⟨hd,h1,hp1,hu0,hu1,hW0,hW6,hKB,ht,hv,v0,hkid,hW,hkk⟩:=H;have we:IntKind.i64.wrap (d:Int)=d:=wrO;have hK:=hKB.1;have wn:¬ ((d:Int)+1=0):=by omega
 simp only[PSt]at hkid;rw[Pn.aB K]at hkid hW;have hj':0<j1:=by omega
 obtain⟨e,p2,he,a1,a2,a3⟩:=aM l hl W (p1+1) (by omega) (by omega);have hf:=dO e K;rw[Pn.aB K,Ex.aB e]at hf;rw[Ex.aB e]at he;refine⟨bN e K,p2,u1,j1,?_,Th.one (bP (by omega) hK) hKB,by omega,by omega,by omega,by omega,by omega,by simp[bN,Pn.scan],by simp[bN,Pn.scan]⟩;rw[dH Tryz.func100 rfl rfl];simp[PSt,ht,hv,v0,we,hkid,hW,hkk,wn,hq,rX,rS,bl,he,hf,bN,Ex.aA,aI,Pn.aA,Pn.aB K,Ex.aB e,hj',hj,hw4]
theorem MR {l:List UInt8} (hl:l.length≤2000) {ws:List Int} {k:Nat} {d j c2:Nat} {p u t v W kk p1 u1:Int} {j1:Nat} {K:Pn} (H:PlH l ws k d j c2 p u t v W kk p1 u1 j1 K) (hu:¬ 0<u1) (hq:kk=7):RtC l ws k d j c2 p u p1 j1:=by
 obtain⟨hd,h1,hp1,hu0,hu1,hW0,hW6,hKB,ht,hv,v0,hkid,hW,hkk⟩:=H;have we:IntKind.i64.wrap (d:Int)=d:=wrO;have hK:=hKB.1;have wn:¬ ((d:Int)+1=0):=by omega
 simp only[PSt]at hkid;rw[Pn.aB K]at hkid hW;obtain⟨e,p2,he,a1,a2,a3⟩:=aM l hl W (p1+1) (by omega) (by omega);have hf:=dO e K;rw[Pn.aB K,Ex.aB e]at hf;rw[Ex.aB e]at he;refine⟨bN e K,p2,u1,j1,?_,Th.one (bP (by omega) hK) hKB,by omega,by omega,by omega,by omega,by omega,by simp[bN,Pn.scan],by simp[bN,Pn.scan]⟩;rw[dH Tryz.func100 rfl rfl];simp[PSt,ht,hv,v0,we,hkid,hW,hkk,wn,hq,rX,rS,bl,he,hf,bN,Ex.aA,aI,Pn.aA,Pn.aB K,Ex.aB e,hu]
theorem VJ {l:List UInt8} (hl:l.length≤2000) {ws:List Int} {k:Nat} {d j c2:Nat} {p u t v W kk p1 u1:Int} {j1:Nat} {K:Pn} (H:PlH l ws k d j c2 p u t v W kk p1 u1 j1 K) (hu:0<u1) (hq:kk=7):RtC l ws k d j c2 p u p1 j1:=by
 obtain⟨hd,h1,hp1,hu0,hu1,hW0,hW6,hKB,ht,hv,v0,hkid,hW,hkk⟩:=H;have we:IntKind.i64.wrap (d:Int)=d:=wrO;have hK:=hKB.1;have wn:¬ ((d:Int)+1=0):=by omega
 simp only[PSt]at hkid;rw[Pn.aB K]at hkid hW;obtain⟨e,p2,he,a1,a2,a3⟩:=aM l hl W (p1+1) (by omega) (by omega);have hf:=dO e K;have hc:=EZ K hK;have wu:IntKind.i64.wrap (u1-1)=u1-1:=wrO;rw[Pn.aB K,Ex.aB e]at hf;rw[Pn.aB K]at hc;rw[Ex.aB e]at he;refine⟨.mk 6 0 [] [] [K,bN e K],p2,u1-1,j1,?_,Th.un (by have:=bP (e:=e) (by omega) hK;unfold bN at this;simp[Pn.thin,Pn.iD,hK]at this ⊢;exact this) hKB,by omega,by omega,by omega,by omega,by omega,by simp[bN,Pn.scan],by simp[bN,Pn.scan]⟩;rw[dH Tryz.func100 rfl rfl];simp[PSt,ht,hv,v0,we,hkid,hW,hkk,wn,hq,rX,rS,bl,he,hf,bN,Ex.aA,aI,Pn.aA,Pn.aB K,Ex.aB e,hu,hc,wu,Pn.bD,Ex.aA,aI,Pn.aA]
theorem Q9 {l:List UInt8} (hl:l.length≤2000) {ws:List Int} {k:Nat} {d j c2:Nat} {p u t v W kk p1 u1:Int} {j1:Nat} {K:Pn} (H:PlH l ws k d j c2 p u t v W kk p1 u1 j1 K) (hw1:¬ 1<W) (hq:kk=9):RtC l ws k d j c2 p u p1 j1:=by
 obtain⟨hd,h1,hp1,hu0,hu1,hW0,hW6,hKB,ht,hv,v0,hkid,hW,hkk⟩:=H;have we:IntKind.i64.wrap (d:Int)=d:=wrO;have hK:=hKB.1;have wn:¬ ((d:Int)+1=0):=by omega
 simp only[PSt]at hkid;rw[Pn.aB K]at hkid hW;refine⟨.mk 8 0 [] [] [K],p1+1,u1,j1,?_,Th.one (by simp[Pn.thin,Pn.iD,hK]) hKB,by omega,by omega,by omega,by omega,by omega,by simp[bN,Pn.scan],by simp[bN,Pn.scan]⟩;rw[dH Tryz.func100 rfl rfl];simp[PSt,ht,hv,v0,we,hkid,hW,hkk,wn,hq,rX,rS,bl,hw1,Pn.bD,Ex.aA,aI,Pn.aA,Pn.aB K]
theorem Q8 {l:List UInt8} (hl:l.length≤2000) {ws:List Int} {k:Nat} {d j c2:Nat} {p u t v W kk p1 u1:Int} {j1:Nat} {K:Pn} (H:PlH l ws k d j c2 p u t v W kk p1 u1 j1 K) (hw1:1<W) (hq:kk=9):RtC l ws k d j c2 p u p1 j1:=by
 obtain⟨hd,h1,hp1,hu0,hu1,hW0,hW6,hKB,ht,hv,v0,hkid,hW,hkk⟩:=H;have we:IntKind.i64.wrap (d:Int)=d:=wrO;have hK:=hKB.1;have wn:¬ ((d:Int)+1=0):=by omega
 simp only[PSt]at hkid;rw[Pn.aB K]at hkid hW;obtain⟨g,hg,-,-⟩:=bE l (p1+1) W (by omega) (by omega) hl;refine⟨.mk 8 0 [] [g] [K],p1+1+1,u1,j1,?_,Th.one (by simp[Pn.thin,Pn.iD,hK]) hKB,by omega,by omega,by omega,by omega,by omega,by simp[bN,Pn.scan],by simp[bN,Pn.scan]⟩;rw[dH Tryz.func100 rfl rfl];simp[PSt,ht,hv,v0,we,hkid,hW,hkk,wn,hq,rX,rS,bl,hg,hw1,Pn.bD,Ex.aA,aI,Pn.aA,Pn.aB K]
theorem VN {l:List UInt8} (hl:l.length≤2000) {ws:List Int} (hw:∀ w∈ws,0≤w∧w≤6) (hwl:ws.length<1000000) {k:Nat} (hk0:0<k) (hkl:k≤ws.length) {d j c2:Nat} {p u t v W kk p1 u1:Int} {j1:Nat} {K:Pn} (H:PlH l ws k d j c2 p u t v W kk p1 u1 j1 K) (hj:j1≠0) (hjb:j1<1000) (hw4:W≤4) (hoth:∀ y:Nat,y≤1→mJ l ws k y (j1-1) c2) (hq:kk=5):RtC l ws k d j c2 p u p1 j1:=by
 obtain⟨hd,h1,hp1,hu0,hu1,hW0,hW6,hKB,ht,hv,v0,hkid,hW,hkk⟩:=H;have we:IntKind.i64.wrap (d:Int)=d:=wrO;have hK:=hKB.1;have wn:¬ ((d:Int)+1=0):=by omega
 simp only[PSt]at hkid;rw[Pn.aB K]at hkid hW;have hj':0<j1:=by omega
 have wj:IntKind.i64.wrap ((j1:Int)-1)=((j1-1:Nat):Int):=by rw[wrO];omega
 obtain⟨x,hx,hx1,-⟩:=bE l (p1+1) 2 (by omega) (by omega) hl;obtain⟨x0,x1⟩:=hx1 (by omega)
 obtain⟨y,rfl⟩:∃ y:Nat,x=y:=⟨x.toNat,by omega⟩
 obtain⟨O,p2,u2,j2,hO,hOt,b1,b2,b3,b4,b5⟩:=hoth y (by omega) (p1+1+1) u1 (by omega) (by omega) hu0 hu1;have hV:=gF hw hwl hk0 hkl O hOt.1;have hVr:=Pn.kY (ws:=ws.take k) (fun w hm=>hw w (zJ hm)) O 8;generalize O.wd (ws.take k) 8=V at hV hVr;have wv:IntKind.i64.wrap (W+V)=W+V:=wrO;simp only[PSt]at hO;rw[Pn.aB O]at hO hV;by_cases hs:W+V≤6
 ·have h1:=pK l p2 (by omega) (by omega) hl [[.int 4],[.int 5]] (by simp) (by simp) (by simp);obtain⟨z,hz,hzm⟩:=h1;obtain⟨e,p3,he,a1,a2,a3⟩:=aM l hl (W+V) (p2+1) (by omega) (by omega);rw[Ex.aB e]at he;simp only[zS,zI,zK,Nat.reduceAdd]at hz;have het:=Ex.dA e (by omega);refine⟨.mk z 0 [e] [] [K,O],p3,u2,j2,?_,Th.jn (by simp[Pn.thin,Pn.iD,hK,hOt.1,het]) hj hKB hOt,by omega,by omega,by omega,by omega,by omega,by simp[bN,Pn.scan],by simp[bN,Pn.scan]⟩;rw[dH Tryz.func100 rfl rfl];simp[PSt,ht,hv,v0,we,hkid,hW,hkk,wn,hq,hj',hj,hw4,wj,hx,hO,hV,wv,hs,hz,he,rX,rS,bl,Pn.bD,Ex.aA,aI,Pn.aA,Pn.aB K,Pn.aB O,Ex.aB e]
 ·obtain⟨e,p3,he,a1,a2,a3⟩:=aM l hl W p2 (by omega) (by omega);have hf:=dO e K;rw[Pn.aB K,Ex.aB e]at hf;rw[Ex.aB e]at he;refine⟨bN e K,p3,u2,j2,?_,Th.skip (bP (by omega) hK) hKB (by omega) hOt.2.1.2.1,by omega,by omega,by omega,by omega,by omega,by simp[bN,Pn.scan],by simp[bN,Pn.scan]⟩;rw[dH Tryz.func100 rfl rfl];simp[PSt,ht,hv,v0,we,hkid,hW,hkk,wn,hq,hj',hj,hw4,wj,hx,hO,hV,wv,hs,rX,rS,bl,he,hf,bN,Ex.aA,aI,Pn.aA,Pn.aB K,Ex.aB e]
theorem VM {l:List UInt8} (hl:l.length≤2000) {ws:List Int} (hw:∀ w∈ws,0≤w∧w≤6) (hwl:ws.length<1000000) {k:Nat} (hk0:0<k) (hkl:k≤ws.length) {d j c2:Nat} {p u t v W kk p1 u1:Int} {j1:Nat} {K:Pn} (H:PlH l ws k d j c2 p u t v W kk p1 u1 j1 K) (hj:j1≠0) (hjb:j1<1000) (hw4:W≤4) (hoth:∀ y:Nat,y≤1→mJ l ws k y (j1-1) c2) (hq:kk=6):RtC l ws k d j c2 p u p1 j1:=by
 obtain⟨hd,h1,hp1,hu0,hu1,hW0,hW6,hKB,ht,hv,v0,hkid,hW,hkk⟩:=H;have we:IntKind.i64.wrap (d:Int)=d:=wrO;have hK:=hKB.1;have wn:¬ ((d:Int)+1=0):=by omega
 simp only[PSt]at hkid;rw[Pn.aB K]at hkid hW;have hj':0<j1:=by omega
 have wj:IntKind.i64.wrap ((j1:Int)-1)=((j1-1:Nat):Int):=by rw[wrO];omega
 obtain⟨x,hx,hx1,-⟩:=bE l (p1+1) 2 (by omega) (by omega) hl;obtain⟨x0,x1⟩:=hx1 (by omega)
 obtain⟨y,rfl⟩:∃ y:Nat,x=y:=⟨x.toNat,by omega⟩
 obtain⟨O,p2,u2,j2,hO,hOt,b1,b2,b3,b4,b5⟩:=hoth y (by omega) (p1+1+1) u1 (by omega) (by omega) hu0 hu1;have hV:=gF hw hwl hk0 hkl O hOt.1;have hVr:=Pn.kY (ws:=ws.take k) (fun w hm=>hw w (zJ hm)) O 8;generalize O.wd (ws.take k) 8=V at hV hVr;have wv:IntKind.i64.wrap (W+V)=W+V:=wrO;simp only[PSt]at hO;rw[Pn.aB O]at hO hV;by_cases hs:W+V≤6
 ·have h1:=pK l p2 (by omega) (by omega) hl [[.int 4],[.int 5]] (by simp) (by simp) (by simp);obtain⟨z,hz,hzm⟩:=h1;obtain⟨e,p3,he,a1,a2,a3⟩:=aM l hl (W+V) (p2+1) (by omega) (by omega);rw[Ex.aB e]at he;simp only[zS,zI,zK,Nat.reduceAdd]at hz;have het:=Ex.dA e (by omega);refine⟨.mk z 0 [e] [] [K,O],p3,u2,j2,?_,Th.jn (by simp[Pn.thin,Pn.iD,hK,hOt.1,het]) hj hKB hOt,by omega,by omega,by omega,by omega,by omega,by simp[bN,Pn.scan],by simp[bN,Pn.scan]⟩;rw[dH Tryz.func100 rfl rfl];simp[PSt,ht,hv,v0,we,hkid,hW,hkk,wn,hq,hj',hj,hw4,wj,hx,hO,hV,wv,hs,hz,he,rX,rS,bl,Pn.bD,Ex.aA,aI,Pn.aA,Pn.aB K,Pn.aB O,Ex.aB e]
 ·obtain⟨e,p3,he,a1,a2,a3⟩:=aM l hl W p2 (by omega) (by omega);have hf:=dO e K;rw[Pn.aB K,Ex.aB e]at hf;rw[Ex.aB e]at he;refine⟨bN e K,p3,u2,j2,?_,Th.skip (bP (by omega) hK) hKB (by omega) hOt.2.1.2.1,by omega,by omega,by omega,by omega,by omega,by simp[bN,Pn.scan],by simp[bN,Pn.scan]⟩;rw[dH Tryz.func100 rfl rfl];simp[PSt,ht,hv,v0,we,hkid,hW,hkk,wn,hq,hj',hj,hw4,wj,hx,hO,hV,wv,hs,rX,rS,bl,he,hf,bN,Ex.aA,aI,Pn.aA,Pn.aB K,Ex.aB e]
theorem VL {l:List UInt8} (hl:l.length≤2000) {ws:List Int} {k:Nat} {d j c2:Nat} {p u t v W kk p1 u1:Int} {j1:Nat} {K:Pn} (H:PlH l ws k d j c2 p u t v W kk p1 u1 j1 K) (hq:kk=3):RtC l ws k d j c2 p u p1 j1:=by
 obtain⟨hd,h1,hp1,hu0,hu1,hW0,hW6,hKB,ht,hv,v0,hkid,hW,hkk⟩:=H;have we:IntKind.i64.wrap (d:Int)=d:=wrO;have hK:=hKB.1;have wn:¬ ((d:Int)+1=0):=by omega
 simp only[PSt]at hkid;rw[Pn.aB K]at hkid hW;obtain⟨m,hm,hm1,-⟩:=bE l (p1+1) 2 (by omega) (by omega) hl;obtain⟨m0,m1⟩:=hm1 (by omega);have w2:IntKind.i64.wrap (2:Int)=2:=wrO;have w1:=bL;have w0:IntKind.i64.wrap (0:Int)=0:=wrO;obtain⟨x1,hx1,hy1,-⟩:=bE l (p1+1+1) 2 (by omega) (by omega) hl;obtain⟨x1a,x1b⟩:=hy1 (by omega)
 obtain⟨y1,rfl⟩:∃ y:Nat,x1=y:=⟨x1.toNat,by omega⟩
 have hc1:jF y1≤9:=by rcases(show y1=0∨y1=1 by omega)with h|h<;>simp[h,jF]
 obtain⟨e1,q1,he1,c1a,c1b,c1c⟩:=rE l hl W y1 (by omega) (by omega) ((p1+1+1)+1) (by omega) (by omega);rw[Ex.aB e1]at he1;have t1:=Ex.dA e1 (by omega)
 rcases(show m=0∨m=1 by omega)with rfl|rfl
 ·refine⟨.mk 3 0 [e1] [] [K],q1,u1,j1,?_,Th.one (by simp[Pn.thin,Pn.iD,hK,t1]) hKB,by omega,by omega,by omega,by omega,by omega,by simp[bN,Pn.scan],by simp[bN,Pn.scan]⟩;rw[dH Tryz.func100 rfl rfl];simp[PSt,ht,hv,v0,we,hkid,hW,hkk,wn,hq,hm,w1];rw[aD];simp[hx1,he1,w0];rw[aD];simp[rX,rS,bl,Pn.bD,Ex.aA,aI,Pn.aA,Pn.aB K,Ex.aB e1,PSt]
 ·obtain⟨x2,hx2,hy2,-⟩:=bE l q1 2 (by omega) (by omega) hl;obtain⟨x2a,x2b⟩:=hy2 (by omega)
  obtain⟨y2,rfl⟩:∃ y:Nat,x2=y:=⟨x2.toNat,by omega⟩
  have hc2:jF y2≤9:=by rcases(show y2=0∨y2=1 by omega)with h|h<;>simp[h,jF]
  obtain⟨e2,q2,he2,c2a,c2b,c2c⟩:=rE l hl W y2 (by omega) (by omega) (q1+1) (by omega) (by omega);rw[Ex.aB e2]at he2;have t2:=Ex.dA e2 (by omega);refine⟨.mk 3 0 [e1,e2] [] [K],q2,u1,j1,?_,Th.one (by simp[Pn.thin,Pn.iD,hK,t1,t2]) hKB,by omega,by omega,by omega,by omega,by omega,by simp[bN,Pn.scan],by simp[bN,Pn.scan]⟩;rw[dH Tryz.func100 rfl rfl];simp[PSt,ht,hv,v0,we,hkid,hW,hkk,wn,hq,hm,w2];rw[aD];simp[hx1,he1,w1];rw[aD];simp[hx2,he2,w0];rw[aD];simp[rX,rS,bl,Pn.bD,Ex.aA,aI,Pn.aA,Pn.aB K,Ex.aB e1,Ex.aB e2,PSt]
theorem VK {l:List UInt8} (hl:l.length≤2000) {ws:List Int} {k:Nat} {d j c2:Nat} {p u t v W kk p1 u1:Int} {j1:Nat} {K:Pn} (H:PlH l ws k d j c2 p u t v W kk p1 u1 j1 K) (hq:kk=4):RtC l ws k d j c2 p u p1 j1:=by
 obtain⟨hd,h1,hp1,hu0,hu1,hW0,hW6,hKB,ht,hv,v0,hkid,hW,hkk⟩:=H;have we:IntKind.i64.wrap (d:Int)=d:=wrO;have hK:=hKB.1;have wn:¬ ((d:Int)+1=0):=by omega
 simp only[PSt]at hkid;rw[Pn.aB K]at hkid hW;obtain⟨m,hm,hm1,-⟩:=bE l (p1+1) 2 (by omega) (by omega) hl;obtain⟨m0,m1⟩:=hm1 (by omega);have w2:IntKind.i64.wrap (2:Int)=2:=wrO;have w1:=bL;have w0:IntKind.i64.wrap (0:Int)=0:=wrO;obtain⟨x1,hx1,hy1,-⟩:=bE l (p1+1+1) 2 (by omega) (by omega) hl;obtain⟨x1a,x1b⟩:=hy1 (by omega)
 obtain⟨y1,rfl⟩:∃ y:Nat,x1=y:=⟨x1.toNat,by omega⟩
 have hc1:jF y1≤9:=by rcases(show y1=0∨y1=1 by omega)with h|h<;>simp[h,jF]
 obtain⟨e1,q1,he1,c1a,c1b,c1c⟩:=rE l hl W y1 (by omega) (by omega) ((p1+1+1)+1) (by omega) (by omega);rw[Ex.aB e1]at he1;have t1:=Ex.dA e1 (by omega)
 rcases(show m=0∨m=1 by omega)with rfl|rfl
 ·refine⟨.mk 3 0 [e1] [] [K],q1,u1,j1,?_,Th.one (by simp[Pn.thin,Pn.iD,hK,t1]) hKB,by omega,by omega,by omega,by omega,by omega,by simp[bN,Pn.scan],by simp[bN,Pn.scan]⟩;rw[dH Tryz.func100 rfl rfl];simp[PSt,ht,hv,v0,we,hkid,hW,hkk,wn,hq,hm,w1];rw[aD];simp[hx1,he1,w0];rw[aD];simp[rX,rS,bl,Pn.bD,Ex.aA,aI,Pn.aA,Pn.aB K,Ex.aB e1,PSt]
 ·obtain⟨x2,hx2,hy2,-⟩:=bE l q1 2 (by omega) (by omega) hl;obtain⟨x2a,x2b⟩:=hy2 (by omega)
  obtain⟨y2,rfl⟩:∃ y:Nat,x2=y:=⟨x2.toNat,by omega⟩
  have hc2:jF y2≤9:=by rcases(show y2=0∨y2=1 by omega)with h|h<;>simp[h,jF]
  obtain⟨e2,q2,he2,c2a,c2b,c2c⟩:=rE l hl W y2 (by omega) (by omega) (q1+1) (by omega) (by omega);rw[Ex.aB e2]at he2;have t2:=Ex.dA e2 (by omega);refine⟨.mk 3 0 [e1,e2] [] [K],q2,u1,j1,?_,Th.one (by simp[Pn.thin,Pn.iD,hK,t1,t2]) hKB,by omega,by omega,by omega,by omega,by omega,by simp[bN,Pn.scan],by simp[bN,Pn.scan]⟩;rw[dH Tryz.func100 rfl rfl];simp[PSt,ht,hv,v0,we,hkid,hW,hkk,wn,hq,hm,w2];rw[aD];simp[hx1,he1,w1];rw[aD];simp[hx2,he2,w0];rw[aD];simp[rX,rS,bl,Pn.bD,Ex.aA,aI,Pn.aA,Pn.aB K,Ex.aB e1,Ex.aB e2,PSt]
theorem ZL {l:List UInt8} (hl:l.length≤2000) {ws:List Int} (hw:∀ w∈ws,0≤w∧w≤6) (hwl:ws.length<1000000) {k:Nat} (hk0:0<k) (hkl:k≤ws.length) {d j c c2:Nat} (hd:d<100) (hjb:j<1000) (ih:mJ l ws k d j c) (hoth:∀ i:Nat,i<j→∀ y:Nat,y≤1→mJ l ws k y i c2):PG l ws k (d+1) j (c+c2+500):=by
 intro p u h0 h1 hu0 hu1;obtain⟨t,ht,-,-⟩:=bE l p k h0 (by omega) hl;obtain⟨v,hv,-,-⟩:=bE l (p+1) 6 (by omega) (by omega) hl;by_cases v0:v=0
 ·subst v0;exact⟨.scan t,p+1+1,u,j,ZM hd ht hv,Th.scan (Pn.CZ t) _ _,by omega,by omega,by omega,by omega,by omega,by simp[Pn.scan],by simp[Pn.scan]⟩
 obtain⟨K,p1,u1,j1,hkid,hK,a1,a2,a3,a4,a5⟩:=ih (p+1+1) u (by omega) (by omega) hu0 hu1;have hW:=gF hw hwl hk0 hkl K hK.1;have hWr:=Pn.kY (ws:=ws.take k) (fun w hm=>hw w (zJ hm)) K 8;generalize K.wd (ws.take k) 8=W at hW hWr;obtain⟨kk,hkk,hkk1,-⟩:=bE l p1 10 (by omega) (by omega) hl;obtain⟨kk0,kk9⟩:=hkk1 (by omega)
 suffices H:∃ (P:Pn) (p' u':Int) (j':Nat),mI CQ true 100 [.own 0 0, .int ((d+1:Nat):Int)] (PSt l ws k j u p)=some (rX 3 P,PSt l ws k j' u' p'++rS P)∧Th P j j' u u'∧p1≤p'∧p'≤p1+400+c2∧j'≤j1∧0≤u'∧u'≤1∧P.exprs.length≤2∧P.cols.length≤1 by
  obtain⟨P,p',u',j',b1,b2,b3,b4,b5,b6,b7,b8⟩:=H;exact⟨P,p',u',j',b1,b2,by omega,by omega,by omega,b6,b7,b8⟩
 have hb:p1+400+c2<300000000:=by omega
 have hp1:0≤p1:=by omega
 have H:PlH _ _ _ _ _ _ _ _ _ _ _ _ _ _ _ _:=⟨hd,hb,hp1,a4,a5,hWr.1,hWr.2,hK,ht,hv,v0,hkid,hW,hkk⟩
 by_cases q0:kk=0
 ·exact MZ hl H q0
 by_cases q1:kk=1
 ·exact MX hl H q1
 by_cases q2:kk=2
 ·exact MW hl H q2
 by_cases q3:kk=3
 ·exact VL hl H q3
 by_cases q4:kk=4
 ·exact VK hl H q4
 by_cases q5:kk=5
 ·by_cases hj:j1=0
  ·exact MV hl H hj q5
  by_cases hw4:W≤4
  ·exact VN hl hw hwl hk0 hkl H hj (by omega) hw4 (fun y hy=>hoth (j1-1) (by omega) y hy) q5
  ·exact VI hl H hj hw4 q5
 by_cases q6:kk=6
 ·by_cases hj:j1=0
  ·exact MU hl H hj q6
  by_cases hw4:W≤4
  ·exact VM hl hw hwl hk0 hkl H hj (by omega) hw4 (fun y hy=>hoth (j1-1) (by omega) y hy) q6
  ·exact VH hl H hj hw4 q6
 by_cases q7:kk=7
 ·by_cases hu:0<u1
  ·exact VJ hl H hu q7
  ·exact MR hl H hu q7
 by_cases q8:kk=8
 ·exact JX hl H q8
 have q9:kk=9:=by omega
 by_cases hw1:1<W
 ·exact Q8 hl H hw1 q9
 ·exact Q9 hl H hw1 q9
theorem PG.le {l:List UInt8} {ws:List Int} {k:Nat} {d j c c':Nat} (h:PG l ws k d j c) (hc:c≤c'):PG l ws k d j c':=by
 intro p u h0 h1 hu0 hu1;obtain⟨P,p',u',j',b1,b2,b3,b4,b5,b6,b7,b8⟩:=h p u h0 (by omega) hu0 hu1;exact⟨P,p',u',j',b1,b2,b3,by omega,b5,b6,b7,b8⟩
theorem ADO {l:List UInt8} (hl:l.length≤2000) {ws:List Int} (hw:∀ w∈ws,0≤w∧w≤6) (hwl:ws.length<1000000) {k:Nat} (hk0:0<k) (hkl:k≤ws.length) (d:Nat) (h:d+1<50):PG l ws k (d+1) 1 (2000*(d+1)+1) :=
 (ZL hl hw hwl hk0 hkl (c2:=501) (by omega) (by omega) (SY hl hw hwl hk0 hkl d (by omega)) (fun i hi y hy=>by
  obtain rfl:i=0:=by omega
  exact(DN hl hw hwl hk0 hkl y (by omega)).le (by omega))).le (by omega)
@[simp] theorem ARF (a:List AV) (st:StL):aH CR 100 a st=mI CQ true 100 a st:=by rw[aN (p:=mI CQ true 100) rfl]
@[simp] theorem AJK (a:List AV) (st:StL):aH CR 101 a st=mI C0 true 101 a st:=by rw[aN (p:=mI C0 true 101) rfl]
@[simp] theorem AGN (a:List AV) (st:StL):aH CR 48 a st=WE (aH C0) 48 a st:=by rw[aN (p:=WE (aH C0) 48) rfl]
@[simp] theorem ARG (a:List AV) (st:StL):aH CR 33 a st=aH C0 33 a st:=by rw[aN (p:=aH C0 33) rfl]
@[simp] theorem AT1 (a:List AV) (st:StL):aH CR 43 a st=aH C0 43 a st:=by rw[aN (p:=aH C0 43) rfl]
@[simp] theorem ARH (a:List AV) (st:StL):aH CR 102 a st=aH C0 102 a st:=by rw[aN (p:=aH C0 102) rfl]
@[simp] theorem AL7 (a:List AV) (st:StL):aH CR 77 a st=aH C0 77 a st:=by rw[aN (p:=aH C0 77) rfl]
@[simp] theorem ANV (a:List AV) (st:StL):aH CR 41 a st=aH C0 41 a st:=by rw[aN (p:=aH C0 41) rfl]
theorem cO {α:Type} (l:List α):l=[]∨(l.length≠0∧l≠[]∧0<l.length):=by cases l<;>simp
theorem DF {l:List UInt8} (hl:l.length≤2000) {ws:List Int} (hw:∀ w∈ws,0≤w∧w≤6) (hwl:ws.length<1000000) (hk0:0<ws.length) (p:Int) (h0:0≤p) (h1:p+20000<200000000):∃ (P:Pn) (p':Int),
 aH CR 76 [.own 0 0, .osl 1 1 0 ws.length] [Rd l p,some (.arr 1 (aI ws))]=some (rX 2 P,[Rd l p',some (.arr 1 (aI ws))]++rS P)∧Rt P∧p≤p'∧p'≤p+20000∧P.exprs.length≤2∧P.cols.length≤1:=by
 obtain⟨v,hv,hv1,-⟩:=bE l p 4 h0 (by omega) hl;obtain⟨v0,v1⟩:=hv1 (by omega)
 obtain⟨y,rfl⟩:∃ y:Nat,v=y:=⟨v.toNat,by omega⟩
 have w1:IntKind.i64.wrap (1+(y:Int))=((y+1:Nat):Int):=by rw[wrO];omega
 obtain⟨P,p1,u',j',hP,hPt,b1,b2,b3,b4,b5,b6,b7⟩:=ADO hl hw hwl hk0 (zO _) y (by omega) (p+1) 1 (by omega) (by omega) (by omega) (by omega);simp only[PSt,Int.natCast_one,Int.natCast_add]at hP;obtain⟨z,hz,-,-⟩:=bE l p1 2 (by omega) (by omega) hl;have te:P.exprs.take P.exprs.length=P.exprs:=zY (by simp);have tc:P.cols.take P.cols.length=P.cols:=zY (by simp);have tk:P.kids.take P.kids.length=P.kids:=zY (by simp);by_cases hz0:z=0
 ·have hW:=o9 hw (by omega) P (Pn.JR P hPt.1) 8 (by omega);have twd:ws.take ws.length=ws:=zY (by simp);obtain⟨e,p2,he,a1,a2,a3⟩:=aM l hl (P.wd ws 8) (p1+1) (by omega) (by omega);have hf:=dO e P;refine⟨bN e P,p2,?_,Rt.one (AAX a3 hPt.1) (hPt.rt b4),by omega,by omega,by simp[bN],by simp[bN]⟩;rw[aF rfl Tryz.func76 rfl rfl];rw[Pn.aB P,Ex.aB e]at hf;rw[Ex.aB e]at he;rw[Pn.aB P]at hW
  rcases cO P.exprs with ce|⟨ce,ce',ce''⟩<;>rcases cO P.cols with cc|⟨cc,cc',cc''⟩<;>rcases cO P.kids with ck|⟨ck,ck',ck''⟩ <;>
   (simp[rX,rS,bl, *,aQ,aJ,Ex.aA,aI,Pn.aA]at hP hW hf
    simp[hv,w1,hP,hz,hz0,hW,he,hf,rX,rS,bl,bN,WE,GU,ACQ,GZ,YR,UL,jR, *,Ex.aA,aI,Pn.aA,Pn.aB P,Ex.aB e])
 ·refine⟨P,p1+1,?_,hPt.rt b4,by omega,by omega,b6,b7⟩;rw[aF rfl Tryz.func76 rfl rfl]
  rcases cO P.exprs with ce|⟨ce,ce',ce''⟩<;>rcases cO P.cols with cc|⟨cc,cc',cc''⟩<;>rcases cO P.kids with ck|⟨ck,ck',ck''⟩ <;>
   (simp[rX,rS,bl, *,aQ,aJ,Ex.aA,aI,Pn.aA]at hP
    simp[hv,w1,hP,hz,hz0,rX,rS,bl, *,aQ,aJ])
theorem BG (l:List UInt8) (hl:l.length≤2000) (p:Int) (h0:0≤p) (h1:p<900000000):∃ (a b:Int) (r:List Int) (p':Int),aH C0 41 [.own 0 0] [Rd l p]=some (.osl 1 1 0 (r.length+2),[Rd l p',some (.arr 1 (aI (a::b::r)))])∧p≤p'∧p'≤p+4∧1≤a∧a≤2∧1≤b∧b≤2∧r.length≤1∧∀ w∈r,1≤w∧w≤2:=by
 obtain⟨n,hn,hn1,-⟩:=bE l p 2 h0 (by omega) hl;obtain⟨a,ha,ha1,-⟩:=bE l (p+1) 2 (by omega) (by omega) hl;obtain⟨b,hb,hb1,-⟩:=bE l (p+1+1) 2 (by omega) (by omega) hl;have wa:IntKind.i64.wrap (1+a)=1+a:=wrO;have wb:IntKind.i64.wrap (1+b)=1+b:=wrO;have w2:IntKind.i64.wrap (2:Int)=2:=wrO;have w3:IntKind.i64.wrap (3:Int)=3:=wrO;have w1:=bL;have w0:IntKind.i64.wrap (0:Int)=0:=wrO;obtain⟨n0,n1⟩:=hn1 (by omega);have hn2:n=0∨n=1:=by omega
 rcases hn2 with rfl|rfl
 ·refine⟨1+a,1+b,[],p+1+1+1,?_,by omega,by omega,by omega,by omega,by omega,by omega,by simp,by simp⟩;rw[aF rfl Tryz.func41 rfl rfl];simp[hn,w2];rw[aD];simp[ha,wa,w1];rw[aD];simp[hb,wb,w0];rw[aD];simp[aI]
 ·obtain⟨c,hc,hc1,-⟩:=bE l (p+1+1+1) 2 (by omega) (by omega) hl;have wc:IntKind.i64.wrap (1+c)=1+c:=wrO;refine⟨1+a,1+b,[1+c],p+1+1+1+1,?_,by omega,by omega,by omega,by omega,by omega,by omega,by simp,by simp;omega⟩;rw[aF rfl Tryz.func41 rfl rfl];simp[hn,w3];rw[aD];simp[ha,wa,w2];rw[aD];simp[hb,wb,w1];rw[aD];simp[hc,wc,w0];rw[aD];simp[aI]
theorem Pn.MB {P:Pn} (h:P.thin) (k t:Int):(Pn.mk k t P.exprs P.cols P.kids).thin:=by
 rw[Pn.dY]at h ⊢;exact h
theorem Pn.Z9 {P:Pn} (h:P.thin) (c:List Int) (hc:c.length<1000000000):(Pn.mk P.kind P.table P.exprs c P.kids).thin:=by
 rw[Pn.dY]at h ⊢;exact⟨h.1,h.2.1,hc,h.2.2.2⟩
theorem Pn.UO {P:Pn} (h:P.thin) {e:Ex} (he:e.thin) (hl:P.exprs.length+1<1000000000):(Pn.mk P.kind P.table (P.exprs++[e]) P.cols P.kids).thin:=by
 rw[Pn.dY]at h ⊢;refine⟨by simpa [Pn.exprs]using hl,fun x hx=>?_,h.2.2⟩;simp only[Pn.exprs,zV,xS]at hx
 rcases hx with hx|rfl
 ·exact h.2.1 x hx
 ·exact he
theorem PE {l:List UInt8} (hl:l.length≤2000) {ws:List Int} (hw:∀ w∈ws,0≤w∧w≤6) (hwl:ws.length<1000000) (hk0:0<ws.length) (p:Int) (h0:0≤p) (h1:p+30000<200000000):∃ (P:Pn) (p':Int),
 aH CR 42 [.own 0 0, .osl 1 1 0 ws.length] [Rd l p,some (.arr 1 (aI ws))]=some (rX 2 P,[Rd l p',some (.arr 1 (aI ws))]++rS P)∧(P.thin∧BdV P)∧p≤p'∧p'≤p+30000:=by
 obtain⟨P,p1,hP,hPt,b1,b2,b6,b7⟩:=DF hl hw hwl hk0 p h0 (by omega);obtain⟨k,hk,-,-⟩:=bE l p1 18 (by omega) (by omega) hl;have te:P.exprs.take P.exprs.length=P.exprs:=zY (by simp);have tc:P.cols.take P.cols.length=P.cols:=zY (by simp);have hthin:=(Pn.dY P).1 hPt.1;by_cases k0:k=0
 ·obtain⟨x,hx,-⟩:=pK l (p1+1) (by omega) (by omega) hl [[.int 0],[.int 9],[.int 1],[.int 4]] (by simp) (by simp) (by simp);simp only[zS,zI,zK,Nat.reduceAdd]at hx;refine⟨.mk x P.table P.exprs P.cols P.kids,p1+1+1,?_,⟨Pn.MB hPt.1 _ _,hPt.head⟩,by omega,by omega⟩;rw[aF rfl Tryz.func42 rfl rfl]
  rcases cO P.exprs with ce|⟨ce,ce',ce''⟩<;>rcases cO P.cols with cc|⟨cc,cc',cc''⟩<;>rcases cO P.kids with ck|⟨ck,ck',ck''⟩ <;>
   (simp[rX,rS,bl,ce,cc,ck,aQ,aJ]at hP
    simp[hP,hk,k0,hx,rX,rS,bl,ce,cc,ck,aQ,aJ])
 by_cases k1:k=1
 ·obtain⟨x,hx,-⟩:=pK l (p1+1) (by omega) (by omega) hl [[.int (-1)],[.int 4],[.int 1]] (by simp) (by simp) (by simp);simp only[zS,zI,zK,Nat.reduceAdd]at hx;refine⟨.mk P.kind x P.exprs P.cols P.kids,p1+1+1,?_,⟨Pn.MB hPt.1 _ _,hPt.head⟩,by omega,by omega⟩;rw[aF rfl Tryz.func42 rfl rfl]
  rcases cO P.exprs with ce|⟨ce,ce',ce''⟩<;>rcases cO P.cols with cc|⟨cc,cc',cc''⟩<;>rcases cO P.kids with ck|⟨ck,ck',ck''⟩ <;>
   (simp[rX,rS,bl,ce,cc,ck,aQ,aJ]at hP
    simp[hP,hk,k0,k1,hx,rX,rS,bl,ce,cc,ck,aQ,aJ])
 by_cases k2:k=2
 ·obtain⟨x,hx,-⟩:=pK l (p1+1) (by omega) (by omega) hl [[.int 0],[.int 9]] (by simp) (by simp) (by simp);simp only[zS,zI,zK,Nat.reduceAdd]at hx;refine⟨.mk P.kind P.table P.exprs (P.cols++[x]) P.kids,p1+1+1,?_,⟨Pn.Z9 hPt.1 _ (by simp;omega),hPt.head⟩,by omega,by omega⟩;have hl1:(P.cols.length+1)*8≤140737488355328:=by omega
  rw[aF rfl Tryz.func42 rfl rfl]
  rcases cO P.exprs with ce|⟨ce,ce',ce''⟩<;>rcases cO P.cols with cc|⟨cc,cc',cc''⟩<;>rcases cO P.kids with ck|⟨ck,ck',ck''⟩ <;>
   (simp[rX,rS,bl,ce,cc,ck,aQ,aJ]at hP
    simp[hP,hk,k0,k1,k2,hx,rX,rS,bl,ce,cc,ck,aQ,aJ,aI,AO,hl1,tc])
 by_cases k3:k=3
 ·obtain⟨e,p2,he,a1,a2,a3⟩:=Y0 l hl 2 (p1+1) (by omega) (by omega);refine⟨.mk P.kind P.table (P.exprs++[e]) P.cols P.kids,p2,?_,⟨Pn.UO hPt.1 (Ex.dA _ (by omega)) (by omega),AFA hPt.2.1 hPt.2.2⟩,by omega,by omega⟩;have hl1:(P.exprs.length+1)*56≤140737488355328:=by omega
  rw[aF rfl Tryz.func42 rfl rfl];rw[Ex.aB e]at he
  rcases cO P.exprs with ce|⟨ce,ce',ce''⟩<;>rcases cO P.cols with cc|⟨cc,cc',cc''⟩<;>rcases cO P.kids with ck|⟨ck,ck',ck''⟩ <;>
   (simp[rX,rS,bl,ce,cc,ck,aQ,aJ]at hP
    simp[hP,hk,k0,k1,k2,k3,he,rX,rS,bl,ce,cc,ck,aQ,aJ,Ex.aA,Ex.fC,hl1,te,Ex.aB e])
 ·refine⟨P,p1+1,?_,⟨hPt.1,hPt.all⟩,by omega,by omega⟩;rw[aF rfl Tryz.func42 rfl rfl]
  rcases cO P.exprs with ce|⟨ce,ce',ce''⟩<;>rcases cO P.cols with cc|⟨cc,cc',cc''⟩<;>rcases cO P.kids with ck|⟨ck,ck',ck''⟩ <;>
   (simp[rX,rS,bl,ce,cc,ck,aQ,aJ]at hP
    simp[hP,hk,k0,k1,k2,k3,rX,rS,bl,ce,cc,ck,aQ,aJ])
theorem BH {l:List UInt8} (hl:l.length≤2000):∃ (P:Pn) (ws:List Int) (p':Int),aH CR 15 [.own 0 0] [Rd l 0]=some (.tup [.i (.agg P.cells), .i (.isl (aI ws))],[Rd l p'])∧P.thin∧ws.length≤3∧0≤p'∧p'≤40000:=by
 obtain⟨a,b,r,p1,hr,r1,r2,r3,r4,r5,r6,r7,r8⟩:=BG l hl 0 (by omega) (by omega)
 have hw:∀ w∈a::b::r,0≤w∧w≤6:=by
  intro w hm;simp only[zQ]at hm
  rcases hm with rfl|rfl|hm
  ·omega
  ·omega
  ·have:=r8 w hm;omega
 have hr0:(0:Int)<(r.length:Int)+2:=by omega
 obtain⟨P,p2,hP,hPt,c1,c2⟩:=PE hl (ws:=a::b::r) hw (by simp;omega) (by simp) p1 (by omega) (by omega);obtain⟨k,hk,-,-⟩:=bE l p2 18 (by omega) (by omega) hl;have te:P.exprs.take P.exprs.length=P.exprs:=zY (by simp);have tc:P.cols.take P.cols.length=P.cols:=zY (by simp);have tk:P.kids.take P.kids.length=P.kids:=zY (by simp);by_cases k0:k=0
 ·obtain⟨x,hx,-⟩:=pK l (p2+1) (by omega) (by omega) hl [[.int 0],[.int 7],[.int 1]] (by simp) (by simp) (by simp);simp only[zS,zI,zK,Nat.reduceAdd]at hx;refine⟨P,x::b::r,p2+1+1,?_,hPt.1,by simp;omega,by omega,by omega⟩;rw[aF rfl Tryz.func15 rfl rfl]
  rcases cO P.exprs with ce|⟨ce,ce',ce''⟩<;>rcases cO P.cols with cc|⟨cc,cc',cc''⟩<;>rcases cO P.kids with ck|⟨ck,ck',ck''⟩ <;>
   (simp[rX,rS,bl,ce,cc,ck,aQ,aJ,aI]at hP
    simp[hr,hP,hk,k0,hx,hr0,ce,cc,ck,aI,te,tc,tk,Pn.aB P,Ex.aA,Pn.aA])
 ·refine⟨P,a::b::r,p2+1,?_,hPt.1,by simp;omega,by omega,by omega⟩;rw[aF rfl Tryz.func15 rfl rfl]
  rcases cO P.exprs with ce|⟨ce,ce',ce''⟩<;>rcases cO P.cols with cc|⟨cc,cc',cc''⟩<;>rcases cO P.kids with ck|⟨ck,ck',ck''⟩ <;>
   (simp[rX,rS,bl,ce,cc,ck,aQ,aJ,aI]at hP
    simp[hr,hP,hk,k0,ce,cc,ck,aI,te,tc,tk,Pn.aB P,Ex.aA,Pn.aA])
end Go.Proofs.YtmcjmafajkeecaaGreatDoor.P
namespace Go.Av
theorem Pn.ADE:∀ p:Pn,p.shp.size=p.size:=by
 intro p
 induction p using Pn.ind with
 | h k t es cs ks ih =>
  rw[Pn.dS,Pn.size_eq,Pn.size_eq];simp only[Pn.gW];congr 1
  have:∀ l:List Pn,(∀ a∈l,a.shp.size=a.size)→Pn.bV (l.map Pn.shp)=Pn.bV l:=by
   intro l
   induction l with
   | nil=>intro _;rfl
   | cons a l ihl =>
    intro h;simp only[yQ,Pn.bV];rw[h a (by simp),ihl fun b hb=>h b (by simp[hb])]
  exact this ks ih
end Go.Av
namespace Go.Proofs.YtmcjmafajkeecaaGreatDoor.P
open Go Go.Av
set_option maxRecDepth 4000
set_option maxHeartbeats 4000000
abbrev bQ (p:Pn):Option Blk:=some (.box [.int p.kind, .int p.table, .i (.isl (Ex.aA p.exprs)), .i (.isl (aI p.cols)), .i (.isl (Pn.aA p.kids))])
noncomputable def AA0:FuncId→Option (List AV→StL→Option (AV×StL))
 | 1000000007=>none
 | 8=>none
 | 28=>some Q4
 | g=>some (aH C0 g)
def AA8:FuncId→Bool
 | 28=>true
 | g=>dU g
noncomputable def CQ2:Ctx:={ P:=Tryz.prog,G:=GS,ownArgs:=AA8,keepRes:=keepR,eqT:=vI,prim:=AA0 }
@[simp] theorem AW5:CQ2.P=Tryz.prog:=(rfl)
@[simp] theorem AW6 (f):CQ2.G f=GS f:=(rfl)
@[simp] theorem AVY (f):CQ2.ownArgs f=AA8 f:=(rfl)
@[simp] theorem AVZ (f):CQ2.keepRes f=keepR f:=(rfl)
@[simp] theorem AW4 (f):CQ2.eqT f=vI f:=(rfl)
@[simp] theorem AVX:CQ2.tree=false:=(rfl)
@[simp] theorem AQF:AA8 28=true:=(rfl)
@[simp] theorem AQE:AA8 14=dU 14:=(rfl)
@[simp] theorem AQD:AA8 13=dU 13:=(rfl)
theorem AI3:PrimOk CQ2:=by
 have h0:=aX pJ
 have key:∀ g q,CQ2.prim g=some q→(g≠uB∧q=aH C0 g)∨(g=28∧q=Q4):=by
  intro g q h;have h:AA0 g=some q:=h;unfold AA0 at h;split at h
  all_goals first
   | (cases h;done)
   | (injection h with h;subst h;exact .inr ⟨rfl,rfl⟩)
   | (injection h with h;subst h;exact .inl ⟨by assumption,rfl⟩)
 constructor
 ·intro g args st p h;unfold bM at h
  cases hq:CQ2.prim g with
  | none=>rw[hq]at h;cases h
  | some q =>
   rw[hq]at h
   rcases key g q hq with ⟨hy,rfl⟩|⟨rfl,rfl⟩
   ·exact h0.name _ _ _ _ hy h
   ·exact⟨_,Tryz.func28,by decide,rfl⟩
 ·intro g args st r st' h w m φ vs hi hr hb;unfold bM at h
  cases hq:CQ2.prim g with
  | none=>rw[hq]at h;cases h
  | some q =>
   rw[hq]at h
   rcases key g q hq with ⟨hy,rfl⟩|⟨rfl,rfl⟩
   ·exact h0.calls _ _ _ _ _ hy h w m φ vs hi hr hb
   ·exact Q3 h w m φ vs hi hr hb
theorem AHL:SoundOk CQ2:=iF (C:=CQ2) ft nt eqS mo AI3
@[simp] theorem AWW (a:List AV) (st:StL):aH CQ2 28 a st=Q4 a st:=by rw[aN (p:=Q4) rfl]
@[simp] theorem AWV (a:List AV) (st:StL):aH CQ2 14 a st=aH C0 14 a st:=by rw[aN (p:=aH C0 14) rfl]
@[simp] theorem AWX (a:List AV) (st:StL):aH CQ2 13 a st=aH C0 13 a st:=by rw[aN (p:=aH C0 13) rfl]
theorem YM {ws:List Int} {p:Pn} (h:p.width ws≠0):p.wd ws 8≠0:=by
 unfold Pn.width at h;split at h
 ·exact h
 ·exact absurd rfl h
theorem AHZ {ws:List Int} {p:Pn} (ht:p.tx) (h:p.width ws≠0) (hl:(txP p).length<9000000):aH CD 29 [.own 1 0, .own 0 0] [some (.box [.int 0, .int 0, .nils, .nils, .nils]),sB (txP p)]=some (.tup [],[bQ p,sB []]):=by
 have k1:=ADB 8 p (by omega) ht (YM h) [] rfl (by simp;omega);rw[Pn.aB p]at k1;simp at k1;rw[aF rfl Tryz.func29 rfl rfl];simp[k1]
theorem AHO {ws:List Int} {p:Pn} (ht:p.tx) (h:p.width ws≠0) (hl:(txP p).length<9000000):Q4 [H8 (txP p), .fn (.func 29) [.own 0 0]] [some (.box [.int 0, .int 0, .nils, .nils, .nils])]=some (.bool true,[bQ p]):=by
 show ADL 29 ⟨(txP p).toArray⟩ [.int 0, .int 0, .nils, .nils, .nils]=_;unfold ADL;rw[if_pos rfl,AHZ ht h hl];show tst (List.all [.int p.kind, .int p.table, .i (.isl (Ex.aA p.exprs)), .i (.isl (aI p.cols)), .i (.isl (Pn.aA p.kids))] IE) (some (AV.bool (ByteArray.mk (#[]:Array UInt8)).toList.isEmpty,[bQ p]))=_;have:(ByteArray.mk (#[]:Array UInt8)).toList=[]:=qA [];rw[this];rfl
theorem LJ {ws:List Int} {p:Pn} (ht:p.tx) (h:p.width ws≠0) (hl:(txP p).length<9000000):aH CQ2 8 [H8 (txP p), .i (.isl (aI ws))] []=some (.tup [.i (.agg p.cells), .bool true],[]):=by
 have c1:=mV p ws;have c2:=vF ht hl h;have c3:=AHO ht h hl;have hq:=ZA (txP p) (txP p);rw[beq_self_eq_true]at hq;rw[aF rfl Tryz.func8 rfl rfl];rw[Pn.aB p]at *
 generalize txP p=m at *
 simp[c1,h,c2,c3,hq]
end Go.Proofs.YtmcjmafajkeecaaGreatDoor.P
namespace Go.Av
theorem Ex.Q0:∀ e:Ex,e.shp.shp=e.shp:=by
 intro e
 induction e using Ex.ind with
 | h k c v ks ih =>
  rw[Ex.dS (Ex.mk k c v ks)];by_cases h2:(Ex.mk k c v ks).kind=2
  ·rw[if_pos h2,Ex.dS];rfl
  ·rw[if_neg h2,Ex.dS,if_neg (by simpa using h2)];simp only[Ex.TM,Ex.AO0,Ex.NZ,zA6];congr 1;apply y8;intro a ha;exact ih a ha
theorem Pn.Q0:∀ p:Pn,p.shp.shp=p.shp:=by
 intro p
 induction p using Pn.ind with
 | h k t es cs ks ih =>
  rw[Pn.dS (Pn.mk k t es cs ks),Pn.dS];simp only[Pn.eO,Pn.iR,Pn.bZ,Pn.eT,Pn.gW,zA6];congr 1
  ·apply y8;intro a _;exact Ex.Q0 a
  ·apply y8;intro a ha;exact ih a ha
theorem Ex.JQ:∀ e:Ex,e.thin→e.shp.thin:=by
 intro e
 induction e using Ex.ind with
 | h k c v ks ih =>
  intro h;rw[Ex.dS];by_cases h2:(Ex.mk k c v ks).kind=2
  ·rw[if_pos h2];simp[Ex.thin,Ex.iD]
  ·rw[if_neg h2];rw[Ex.dY]at h ⊢;simp only[Ex.NZ,x8]at h ⊢;refine⟨h.1,fun a ha=>?_⟩;simp at ha;obtain⟨b,hb,rfl⟩:=ha;exact ih b hb (h.2 b hb)
theorem Pn.JQ:∀ p:Pn,p.thin→p.shp.thin:=by
 intro p
 induction p using Pn.ind with
 | h k t es cs ks ih =>
  intro h;rw[Pn.dS];rw[Pn.dY]at h ⊢;simp only[Pn.gW,Pn.bZ,Pn.eT,x8]at h ⊢;obtain⟨h1,h2,h3,h4,h5⟩:=h;refine⟨h1,fun a ha=>?_,h3,h4,fun a ha=>?_⟩
  ·simp at ha;obtain⟨b,hb,rfl⟩:=ha;exact Ex.JQ b (h2 b hb)
  ·simp at ha;obtain⟨b,hb,rfl⟩:=ha;exact ih b hb (h5 b hb)
end Go.Av
namespace Go.Proofs.YtmcjmafajkeecaaGreatDoor.P
open Go Go.Av
set_option maxRecDepth 4000
set_option maxHeartbeats 4000000
noncomputable def AA2:FuncId→Option (List AV→StL→Option (AV×StL))
 | 1000000007=>none
 | 3=>none
 | 5=>none
 | 6=>some (aH CC 6)
 | 8=>some (aH CQ2 8)
 | 9=>some (aH CP 9)
 | g=>some (aH CR g)
noncomputable def CDk:Ctx:={ P:=Tryz.prog,G:=GS,ownArgs:=ACE,keepRes:=ANI,eqT:=vI,prim:=AA2 }
@[simp] theorem AWB:CDk.P=Tryz.prog:=(rfl)
@[simp] theorem AWC (f):CDk.G f=GS f:=(rfl)
@[simp] theorem AW8 (f):CDk.ownArgs f=ACE f:=(rfl)
@[simp] theorem AW9 (f):CDk.keepRes f=(keepR f || decide (f=76)):=(rfl)
@[simp] theorem AWA (f):CDk.eqT f=vI f:=(rfl)
@[simp] theorem AW7:CDk.tree=false:=(rfl)
theorem AI6:PrimOk CDk:=by
 have h0:=aX AM3;have hC:=aX AM5;have hQ:=aX AHL;have hP:=aX AG7
 have key:∀ g q,CDk.prim g=some q→g≠uB∧(q=aH CR g∨q=aH CC g∨q=aH CQ2 g∨q=aH CP g):=by
  intro g q h;have h:AA2 g=some q:=h;unfold AA2 at h;split at h
  all_goals first
   | (cases h;done)
   | (injection h with h;subst h;exact⟨by decide, .inr (.inl rfl)⟩)
   | (injection h with h;subst h;exact⟨by decide, .inr (.inr (.inl rfl))⟩)
   | (injection h with h;subst h;exact⟨by decide, .inr (.inr (.inr rfl))⟩)
   | (injection h with h;subst h;exact⟨by assumption, .inl rfl⟩)
 constructor
 ·intro g args st p h;unfold bM at h
  cases hq:CDk.prim g with
  | none=>rw[hq]at h;cases h
  | some q =>
   rw[hq]at h;obtain⟨hy,rfl|rfl|rfl|rfl⟩:=key g q hq
   ·exact h0.name _ _ _ _ hy h
   ·exact hC.name _ _ _ _ hy h
   ·exact hQ.name _ _ _ _ hy h
   ·exact hP.name _ _ _ _ hy h
 ·intro g args st r st' h w m φ vs hi hr hb;unfold bM at h
  cases hq:CDk.prim g with
  | none=>rw[hq]at h;cases h
  | some q =>
   rw[hq]at h;obtain⟨hy,rfl|rfl|rfl|rfl⟩:=key g q hq
   ·exact h0.calls _ _ _ _ _ hy h w m φ vs hi hr hb
   ·exact hC.calls _ _ _ _ _ hy h w m φ vs hi hr hb
   ·exact hQ.calls _ _ _ _ _ hy h w m φ vs hi hr hb
   ·exact hP.calls _ _ _ _ _ hy h w m φ vs hi hr hb
theorem AHM:SoundOk CDk:=iF (C:=CDk) ft nt eqS mo AI6
@[simp] theorem AcT (a:List AV) (st:StL):aH CDk 16 a st=aH C0 16 a st:=by rw[aN (p:=aH CR 16) rfl,aN (p:=aH C0 16) rfl]
@[simp] theorem AcU (a:List AV) (st:StL):aH CDk 15 a st=aH CR 15 a st:=by rw[aN (p:=aH CR 15) rfl]
@[simp] theorem AcW (a:List AV) (st:StL):aH CDk 6 a st=aH CC 6 a st:=by rw[aN (p:=aH CC 6) rfl]
@[simp] theorem AcV (a:List AV) (st:StL):aH CDk 8 a st=aH CQ2 8 a st:=by rw[aN (p:=aH CQ2 8) rfl]
@[simp] theorem AcR (a:List AV) (st:StL):aH CDk 9 a st=aH CP 9 a st:=by rw[aN (p:=aH CP 9) rfl]
@[simp] theorem AcS (a:List AV) (st:StL):aH CDk 7 a st=aH C0 7 a st:=by rw[aN (p:=aH CR 7) rfl,aN (p:=aH C0 7) rfl]
theorem WY (code:List UInt8):∃ (P:Pn) (ws:List Int),aH CDk 5 [.i (.isl (aP code))] []=some (.tup [.i (.agg P.cells), .i (.isl (aI ws))],[])∧P.thin∧ws.length≤3:=by
 obtain⟨c,hc,hr⟩:=NQ code;obtain⟨P,ws,p',h,h1,h2,_,_⟩:=BH hc;refine⟨P,ws,?_,h1,h2⟩;rw[aF rfl Tryz.func5 rfl rfl];rw[Pn.aB P]at *
 simp[hr,h]
theorem EF (code:List UInt8):aH CDk 3 [.i (.isl (aP code))] []=some (.bool true,[]):=by
 rw[aF rfl Tryz.func3 rfl rfl];by_cases hl:(1048576:Int)<code.length
 ·simp[fD,hl]
 obtain⟨p,ws,hd,hp,hws⟩:=WY code;have e1:=FT (ws:=ws) hp;have e2:=MO (ws:=ws) hp (by omega);by_cases h0:p.width ws=0
 ·rw[Pn.aB p]at *
  simp[fD,hl,hd,e1,e2,YE,h0]
 ·have hk:YE p ws=txP p.shp:=by simp[YE,h0]
  obtain⟨t1,t2⟩:=Pn.JM h0;have hw:p.shp.width ws≠0:=by rw[Pn.LV h0];exact h0
  have hth:p.shp.thin:=Pn.JQ p hp;have e3:=LJ t1 hw t2;have e4:=FT (ws:=ws) hth;have hk2:YE p.shp ws=txP p.shp:=by simp[YE,hw,Pn.Q0]
  have e5:=FQ p hp ws;have e6:=FQ p.shp hth ws;have hz:szP p.shp ws=szP p ws:=by unfold szP;rw[if_neg hw,if_neg h0,Pn.ADE]
  rw[hz]at e6;rw[hk]at e1 e2;rw[hk2]at e4
  have hk3:∃ t,txP p.shp=40::t:=⟨_,lM _⟩
  obtain⟨t,ht⟩:=hk3;rw[ht]at e1 e2 e3 e4;have hq:=sM (40::t) (40::t);rw[beq_self_eq_true]at hq;rw[Pn.aB p.shp]at *
  rw[Pn.aB p]at *
  simp at hq;simp[fD,hl,hd,e1,e2,e3,e4,e5,e6,hq]
theorem qE (a:Option Addr) (len cap:Nat) (zs:List Int) (w:World)
 (h:(a=none∧len=0∧cap=0∧zs=[])∨∃ x,a=some x∧len≤cap∧cap≤maxLen∧zs.length=cap∧(∀ i,i<zs.length→w.cell? (x.add i)=some (.int .u8 (zs.getD i 0)))∧∀ n∈zs,(Lit.int .u8 n).wf=true) :
 Calls Tryz.prog 3 #[.slice a len cap] w fun e w'=>e=.returned (.bool true)∧RowKit.Below w.heap.size w w':=by
 obtain⟨code,hc⟩:=ABL h;exact XE AHM (.cons (.i hc) .nil) (EF code)
end Go.Proofs.YtmcjmafajkeecaaGreatDoor.P

/- Part 5 of what the proof rests on: the executor and what it is worth, and the program's functions as it runs them. No condition. -/
import Derived.Test.YtjdfjgmebalaaaaGreatT4
import Derived.ChangeOld
import Derived.OpenShut
set_option linter.unusedVariables false
set_option linter.unusedSimpArgs false
namespace Go.Av
theorem R4 {ws:List Int} {r:Int} {lv:Nat} {p:Pn} (h:∀ q',rwP ws r p=some q'→∀ lv,q'.wd ws lv=0):rwL ws r lv p=none:=by
 unfold rwL
 cases hq:rwP ws r p with
 | none=>rfl
 | some q=>simp[h q hq lv]
theorem AC6 {ws:List Int} {r:Int} {lv:Nat} {p q:Pn} (h:rwP ws r p=some q):rwL ws r lv p=if q.wd ws lv=0 then none else some q:=by
 unfold rwL;rw[h];by_cases hq:q.wd ws lv=0<;>simp[hq]
def V4 (o:Option Pn):Pn:=o.getD Pn.zero
end Go.Av
namespace Go.Proofs.YtjdfjgmebalaaaaGreat.P
open Go Go.Av
set_option maxRecDepth 4000
set_option maxHeartbeats 4000000
theorem JC {ws:List Int} {p:Pn} {r:Int} {lv:Nat} (h:r<1∨11<r):aI C0 70 [.i (.iref p.cells), .i (.isl (aF ws)), .int r, .int lv] []=some (.tup [.i (.agg Pn.zero.cells), .bool false],[]):=by
 rw[aD rfl Tryz.func70 rfl rfl,aR]
 rcases h with h|h
 ·simp[h]
 ·simp[show ¬ r<1 by omega,show 12≤r by omega]
theorem wH {ws:List Int} (hw:jI ws=true) {p:Pn} (hp:p.wd ws 8≠0) (r:Int) {lv:Nat} (hl:lv≤8):aI C0 70 [.i (.iref p.cells), .i (.isl (aF ws)), .int r, .int lv] []=some (.tup [.i (.agg (V4 (rwL ws r lv p)).cells), .bool (rwL ws r lv p).isSome],[]):=by
 have hr:(r<1∨11<r)∨(r=1∧gL 110 ws 1 p)∨(r=2∧gL 111 ws 2 p)∨(r=3∧gL 112 ws 3 p)∨(r=4∧gL 113 ws 4 p)∨(r=5∧gL 114 ws 5 p)∨(r=6∧gL 115 ws 6 p)∨(r=7∧gL 116 ws 7 p)∨(r=8∧gL 117 ws 8 p)∨(r=9∧gL 118 ws 9 p)∨(r=10∧gL 119 ws 10 p)∨(r=11∧gL 120 ws 11 p):=by
  by_cases h:r<1∨11<r
  ·exact .inl h
  ·refine .inr ?_;have:r=1∨r=2∨r=3∨r=4∨r=5∨r=6∨r=7∨r=8∨r=9∨r=10∨r=11:=by omega
   rcases this with rfl|rfl|rfl|rfl|rfl|rfl|rfl|rfl|rfl|rfl|rfl
   ·exact(.inl ⟨rfl,AOB (kG hp)⟩)
   ·exact(.inr (.inl ⟨rfl,AOA (kG hp)⟩))
   ·exact(.inr (.inr (.inl ⟨rfl,AO9 hw hp⟩)))
   ·exact(.inr (.inr (.inr (.inl ⟨rfl,AO8 hw hp⟩))))
   ·exact(.inr (.inr (.inr (.inr (.inl ⟨rfl,AO7 (kG hp)⟩)))))
   ·exact(.inr (.inr (.inr (.inr (.inr (.inl ⟨rfl,AO6 hw hp⟩))))))
   ·exact(.inr (.inr (.inr (.inr (.inr (.inr (.inl ⟨rfl,AO5 hw hp⟩)))))))
   ·exact(.inr (.inr (.inr (.inr (.inr (.inr (.inr (.inl ⟨rfl,AO4 (kG hp)⟩))))))))
   ·exact(.inr (.inr (.inr (.inr (.inr (.inr (.inr (.inr (.inl ⟨rfl,AO3 (kG hp)⟩)))))))))
   ·exact(.inr (.inr (.inr (.inr (.inr (.inr (.inr (.inr (.inr (.inl ⟨rfl,AKR hw hp⟩))))))))))
   ·exact(.inr (.inr (.inr (.inr (.inr (.inr (.inr (.inr (.inr (.inr (⟨rfl,AKQ hw hp⟩)))))))))))
 rcases hr with h|⟨rfl,q,b,h1,h2,h3⟩|⟨rfl,q,b,h1,h2,h3⟩|⟨rfl,q,b,h1,h2,h3⟩|⟨rfl,q,b,h1,h2,h3⟩|⟨rfl,q,b,h1,h2,h3⟩|⟨rfl,q,b,h1,h2,h3⟩|⟨rfl,q,b,h1,h2,h3⟩|⟨rfl,q,b,h1,h2,h3⟩|⟨rfl,q,b,h1,h2,h3⟩|⟨rfl,q,b,h1,h2,h3⟩|⟨rfl,q,b,h1,h2,h3⟩
 ·rw[JC h]
  have:rwL ws r lv p=none:=R4 fun q' hq=>by
   have:=AC5 hq;simp[rules]at this;omega
  rw[this];rfl
 all_goals
  have h4:=sV (iR hw) q lv hl;rw[aD rfl Tryz.func70 rfl rfl]
  cases b with
  | false =>
   rw[R4 (h3 rfl)];simp only[V4,Option.getD,Option.isSome,aR,Pn.aA p,Pn.aA q]at h1 h4 ⊢;simp[h1]
  | true =>
   rw[AC6 (h2 rfl)];by_cases hq:q.wd ws lv=0
   ·rw[hq]at h4;rw[if_pos hq];simp only[V4,Option.getD,Option.isSome,aR,Pn.aA p,Pn.aA q]at h1 h4 ⊢;simp[h1,h4]
   ·rw[if_neg hq];simp only[V4,Option.getD,Option.isSome,Pn.aA p,Pn.aA q]at h1 h4 ⊢;simp[h1,h4,hq]
end Go.Proofs.YtjdfjgmebalaaaaGreat.P
namespace Go.Av
def OM (s:Stp):List IV:=[.int s.1, .isl (aF s.2)]
def dQ (l:List Stp):List (List IV):=l.map OM
@[simp] theorem AEM (l:List Stp):(dQ l).length=l.length:=by simp[dQ]
@[simp] theorem AIT (n:Nat) (l:List Stp):(dQ l).take n=dQ (l.take n):=by simp[dQ,List.map_take]
theorem kN {l:List Stp} {i:Nat} {s:Stp} (h:l[i]?=some s):fI (dQ l) i=some (OM s):=by
 rw[iU];simp[dQ,h]
theorem WT {ws:List Int} {p:Pn} {lv:Nat} (h:p.wd ws lv≠0) (hk:p.kids≠[]):p.kids.length≤2∧lv≠0∧∀ a∈p.kids,a.wd ws (lv-1)≠0:=by
 rw[Pn.tC]at h;obtain⟨h1,h2⟩:=fA h;refine⟨Pn.DU h1.1,h1.2.resolve_left hk,?_⟩;split at h2
 ·rename_i hk1;exact absurd (Pn.rW h1.1 hk1) hk
 ·obtain⟨h3,_⟩:=fA h2;exact fun a ha=>by simpa using zR.1 h3 a ha
end Go.Av
namespace Go.Proofs.YtjdfjgmebalaaaaGreat.P
open Go Go.Av
set_option maxRecDepth 4000
set_option maxHeartbeats 4000000
structure Yl (R:Rng) (cs:List AV):Prop where
 ids:cs=[.own 1 0, .junk, .junk]
 y00:∀ r:Int,aI C0 uS [.fn (.yield 0) [.own 0 0], .agg [.int r, .nils]] [some (.loop R cs .ready),some (.box [.nils])]=some (.bool true,[some (.loop R cs .ready),some (.box [.osl 2 2 0 1]),some (.arr 2 [[.int r, .isl []]])])
 y01:∀ (r:Int) (path:List Int),path≠[]→aI C0 uS [.fn (.yield 0) [.own 0 0], .agg [.int r, .osl 2 1 0 path.length]] [some (.loop R cs .ready),some (.box [.nils]),some (.arr 1 (aF path))]=some (.bool true,[some (.loop R cs .ready),some (.box [.osl 3 2 0 1]),some (.frz 1 (aF path)),some (.arr 2 [[.int r, .isl (aF path)]])])
 y10:∀ (r:Int) (n:Nat) (l:List Stp),l.length=n→n≠0→n<1000000→aI C0 uS [.fn (.yield 0) [.own 0 0], .agg [.int r, .nils]] [some (.loop R cs .ready),some (.box [.osl 2 2 0 n]),some (.arr 2 (dQ l))]=some (.bool true,[some (.loop R cs .ready),some (.box [.osl 3 2 0 (n+1)]),none,some (.arr 2 (dQ l++[[.int r, .isl []]]))])
 y11:∀ (r:Int) (n:Nat) (l:List Stp) (path:List Int),path≠[]→l.length=n→n≠0→n<1000000→aI C0 uS [.fn (.yield 0) [.own 0 0], .agg [.int r, .osl 3 1 0 path.length]] [some (.loop R cs .ready),some (.box [.osl 2 2 0 n]),some (.arr 2 (dQ l)),some (.arr 1 (aF path))]=some (.bool true,[some (.loop R cs .ready),some (.box [.osl 4 2 0 (n+1)]),none,some (.frz 1 (aF path)),some (.arr 2 (dQ l++[[.int r, .isl (aF path)]]))])
set_option maxHeartbeats 8000000
end Go.Proofs.YtjdfjgmebalaaaaGreat.P
namespace Go.Av
theorem uU {p:Pn} {ws:List Int} (h:p.width ws≠0):jI ws=true∧p.wd ws 8≠0∧p.width ws=p.wd ws 8:=by
 unfold Pn.width at h ⊢;split at h
 ·rename_i hw;exact⟨hw,h,if_pos hw⟩
 ·exact absurd rfl h
end Go.Av
namespace Go.Proofs.YtjdfjgmebalaaaaGreat.P
open Go Go.Av
set_option maxRecDepth 4000
set_option maxHeartbeats 8000000
end Go.Proofs.YtjdfjgmebalaaaaGreat.P
namespace Go.Av
theorem cB {ws:List Int}:∀ (p:Pn) (lv:Nat),p.wd ws lv≠0→p.thin:=by
 intro p
 induction p using Pn.ind with
 | h k t es cs ks ih =>
  intro lv h
  have hk:∀ a∈ks,a.thin:=fun a ha=>by
   have h2:=(WT (p:=.mk k t es cs ks) h (by intro e;simp only[Pn.kids]at e;rw[e]at ha;simp at ha)).2.2 a ha;exact ih a ha _ h2
  have hs:=sZ h;rw[Pn.bC];generalize hp:Pn.mk k t es cs ks=p at *
  have hks:ks=p.kids:=by rw[← hp];rfl
  subst hks;have ok1:∀ {w:Int} {e:Ex},e.ok w=true→e.thin:=fun h=>Ex.eO _ (by have:=Ex.gG h;omega)
  cases hs with
  | scan=>simp[Pn.scan,Pn.exprs,Pn.cols,Pn.kids]
  | filt m e a _ _ he=>exact⟨by simp[filt,Pn.exprs],fun x hx=>by simp[filt,Pn.exprs]at hx;subst hx;exact ok1 he,by simp[filt,Pn.cols],by simp[filt,Pn.kids],hk⟩
  | proj m es a _ _ hl he=>exact⟨by simp[proj,Pn.exprs];unfold bI at hl;simp at hl;omega,fun x hx=>ok1 (he x hx),by simp[proj,Pn.cols],by simp[proj,Pn.kids],hk⟩
  | pair m kd e a b _ _ _ _ _ he=>exact⟨by simp[aY,Pn.exprs],fun x hx=>by simp[aY,Pn.exprs]at hx;subst hx;exact ok1 he,by simp[aY,Pn.cols],by simp[aY,Pn.kids],hk⟩
  | union m a b=>exact⟨by simp[bY,Pn.exprs],by simp[bY,Pn.exprs],by simp[bY,Pn.cols],by simp[bY,Pn.kids],hk⟩
  | dist m a=>exact⟨by simp[Pn.exprs],by simp[Pn.exprs],by simp[Pn.cols],by simp[Pn.kids],hk⟩
  | group m cs a _ _ hc=>exact⟨by simp[Pn.exprs],by simp[Pn.exprs],by simp only[Pn.cols];omega,by simp[Pn.kids],hk⟩
theorem NT (c:Int):(SY c).thin:=by simp[SY,Ex.thin,Ex.nG]
theorem o5 (a:Int) (n:Nat):∀ b∈aS a n,b.thin:=by
 intro b hb;simp only[aS,yB]at hb;obtain⟨i,_,rfl⟩:=hb;exact NT _
theorem QQ {ws:List Int} {p:Pn} (h:p.wd ws 8≠0) (hk:p.kids≠[]):∀ a∈p.kids,a.wd ws 8≠0:=fun a ha=>by
 have h2:=(WT h hk).2.2 a ha;rw[Pn.gN a 7 8 h2 (by omega)];exact h2
end Go.Av
namespace Go.Proofs.YtjdfjgmebalaaaaGreat.P
open Go Go.Av
set_option maxRecDepth 4000
set_option maxHeartbeats 4000000
theorem BS {ws:List Int} (hw:jI ws=true) {p:Pn} (hp:p.thin):aI C0 104 [.i (.agg p.cells), .i (.isl (aF ws)), .int 8] []=some (.int (p.wd ws 8),[]):=by
 refine tT (iR hw) ?_ p (Pn.J6 p hp) 8 (by omega);unfold jI at hw;simp at hw;omega
theorem dV (e:Ex) (p:Pn):aI C0 167 [.i (.agg e.cells), .i (.agg p.cells)] []=some (.i (.agg (filt e p).cells),[]):=by
 rw[aD rfl Tryz.func167 rfl rfl,aQ,Ex.aA,Pn.aA];simp
def CFX (a:Int) (n i:Nat):AS :=
 { env:=[(0, .int a),(1, .int n),(4, .nils),(5, .osl 0 5 0 i),(6, .int i),(10,jk i (.bool true))],st:=[some (.arr 5 (Ex.aB (aS a i)))] }
theorem lJ (a:Int) (ha:0≤a∧a≤100) (n:Nat) (hn:n<1000):aI C0 137 [.int a, .int n] []=some (.osl 0 5 0 n,[some (.arr 5 (Ex.aB (aS a n)))]):=by
 rw[aD rfl Tryz.func137 rfl rfl];simp;rw[aO (CFX a n) n (by simp[CFX,aS,Ex.aB])]
 ·rw[aG];have h8:(aS a n).take n=aS a n:=zW (by simp);simp[CFX,h8]
 ·intro i hi;have w2:IntKind.i64.wrap ((i:Int)+1)=i+1:=wrO;have w3:IntKind.i64.wrap (a+(i:Int))=a+i:=wrO;have h8:(aS a i).take i=aS a i:=zW (by simp);simp[CFX,hi,w2,w3,h8,K5,Ex.aU,iX,show(i+1)*56≤140737488355328 by omega]
def l9 (ws:List Int) (r:Int) (e:Ex) (k:Pn):Prop:=aI C0 136 [.i (.agg (filt e k).cells), .int r, .i (.isl (aF ws))] []=some (.tup [.i (.agg ((rwF ws r e k).getD (filt e k)).cells), .bool (rwF ws r e k).isSome],[])
theorem OT {ws:List Int} (hw:jI ws=true) {e:Ex} {k:Pn} (hp:(filt e k).wd ws 8≠0) {r:Int} (hr:r≠1∧r≠2∧r≠3∧r≠4∧r≠5∧r≠7∧r≠8∧r≠10):l9 ws r e k:=by
 obtain⟨h1,h2,h3⟩:=qU hp;have c1:=BS hw (cB k 8 h1);unfold l9;obtain⟨r1,r2,r3,r4,r5,r7,r8,r10⟩:=hr;have hn:rwF ws r e k=none:=by simp[rwF,r1,r2,r3,r4,r5,r7,r8,r10]
 rw[hn,aD rfl Tryz.func136 rfl rfl]
 cases hk:k.kids with
 | nil =>
  simp only[Option.getD,aQ,Ex.aA e,Pn.aA k,hk,Pn.aB]at c1 ⊢;simp[c1,r1,r2,r3,r4,r5,r7,r8,r10]
 | cons x xs =>
  have c2:=BS hw (cB x 8 (QQ h1 (by simp[hk]) x (by simp[hk])));simp only[Option.getD,aQ,Ex.aA e,Pn.aA k,hk,Pn.aB,Pn.aA x]at c1 c2 ⊢;simp[c1,c2,r1,r2,r3,r4,r5,r7,r8,r10]
theorem lG {ws:List Int} (hw:jI ws=true) {e:Ex} {k:Pn} (hp:(filt e k).wd ws 8≠0) {r:Int} (hr:(r=1∧k.kind≠2)∨(r=2∧e.kind≠8)∨(r=3∧¬ (k.kind=4∨k.kind=5))∨(r=4∧k.kind≠4)∨(r=5∧k.kind≠4)∨(r=7∧k.kind≠5)∨(r=8∧k.kind≠6)∨(r=10∧k.kind≠3)):l9 ws r e k:=by
 obtain⟨h1,h2,h3⟩:=qU hp;have c1:=BS hw (cB k 8 h1);unfold l9
 have hn:rwF ws r e k=none:=by
  rcases hr with ⟨rfl,q⟩|⟨rfl,q⟩|⟨rfl,q⟩|⟨rfl,q⟩|⟨rfl,q⟩|⟨rfl,q⟩|⟨rfl,q⟩|⟨rfl,q⟩<;>simp[rwF,q]
 have hr':(r=1∧k.kind≠2)∨(r=2∧e.kind≠8)∨(r=3∧(k.kind≠4∧k.kind≠5))∨(r=4∧k.kind≠4)∨(r=5∧k.kind≠4)∨(r=7∧k.kind≠5)∨(r=8∧k.kind≠6)∨(r=10∧k.kind≠3):=by omega
 rw[hn,aD rfl Tryz.func136 rfl rfl]
 cases hk:k.kids with
 | nil =>
  simp only[Option.getD,aQ,Ex.aA e,Pn.aA k,hk,Pn.aB]at c1 ⊢
  rcases hr' with ⟨rfl,q⟩|⟨rfl,q⟩|⟨rfl,q⟩|⟨rfl,q⟩|⟨rfl,q⟩|⟨rfl,q⟩|⟨rfl,q⟩|⟨rfl,q⟩<;>simp[c1,q]
 | cons x xs =>
  have c2:=BS hw (cB x 8 (QQ h1 (by simp[hk]) x (by simp[hk])));simp only[Option.getD,aQ,Ex.aA e,Pn.aA k,hk,Pn.aB,Pn.aA x]at c1 c2 ⊢
  rcases hr' with ⟨rfl,q⟩|⟨rfl,q⟩|⟨rfl,q⟩|⟨rfl,q⟩|⟨rfl,q⟩|⟨rfl,q⟩|⟨rfl,q⟩|⟨rfl,q⟩<;>simp[c1,c2,q]
theorem AKG {ws:List Int} (hw:jI ws=true) {e e2:Ex} {a:Pn} (hp:(filt e (filt e2 a)).wd ws 8≠0):l9 ws 1 e (filt e2 a):=by
 obtain⟨h1,h2,h3⟩:=qU hp;have c1:=BS hw (cB _ 8 h1);have c2:=BS hw (cB _ 8 (qU h1).1);have c3:=dV (TC e2 e) a;have hr:rwF ws 1 e (filt e2 a)=some (filt (TC e2 e) a):=by simp[rwF,filt,Pn.ex0,Pn.gJ,Pn.kind,Pn.exprs,Pn.kids]
 unfold l9;rw[hr,aD rfl Tryz.func136 rfl rfl];generalize (filt e2 a).wd ws 8=W at *
 generalize a.wd ws 8=V at *
 simp only[Option.getD,Option.isSome,aQ,mY,Ex.aA e,Ex.aA e2,Pn.aA a]at c1 c2 c3 ⊢;simp[c1,c2,c3]
theorem AKF {ws:List Int} (hw:jI ws=true) {e x y:Ex} {k:Pn} (hp:(filt e k).wd ws 8≠0) (he:e.kind=8) (hk2:e.kids=[x,y]):l9 ws 2 e k:=by
 obtain⟨h1,h2,h3⟩:=qU hp;have c1:=BS hw (cB k 8 h1);have c3:=dV x k;have c4:=dV y (filt x k);have hr:rwF ws 2 e k=some (filt y (filt x k)):=by simp[rwF,he,Ex.gJ,Ex.mR,hk2]
 unfold l9;rw[hr,aD rfl Tryz.func136 rfl rfl]
 cases hk:k.kids with
 | nil =>
  simp only[Option.getD,Option.isSome,aQ,Ex.aA e,hk2,Ex.aB,Ex.aA x,Ex.aA y,Pn.aA k,hk,Pn.aB]at c1 c3 c4 ⊢;simp[c1,c3,c4,he]
 | cons z zs =>
  have c2:=BS hw (cB z 8 (QQ h1 (by simp[hk]) z (by simp[hk])));simp only[Option.getD,Option.isSome,aQ,Ex.aA e,hk2,Ex.aB,Ex.aA x,Ex.aA y,Pn.aA k,hk,Pn.aB,Pn.aA z]at c1 c2 c3 c4 ⊢;simp[c1,c2,c3,c4,he]
theorem AKE {ws:List Int} (hw:jI ws=true) {e e2:Ex} {x y:Pn} {kd:Int} (hkd:kd=4∨kd=5) (hp:(filt e (aY kd e2 x y)).wd ws 8≠0):l9 ws 3 e (aY kd e2 x y):=by
 obtain⟨h1,h2,h3⟩:=qU hp;obtain⟨g1,g2,g3,g4,g5⟩:=JI hkd h1;have c1:=BS hw (cB _ 8 h1);have c2:=BS hw (cB _ 8 g1);obtain⟨n,hn,n1,n2⟩:=tF hw g1;rw[hn]at c2;have c3:=dV e x;have c4:=KS e (Ex.AC h2).1 (by have:=Ex.gG h2;omega) 0 n (by omega);have w1:IntKind.i64.wrap ((n:Int)-1)=n-1:=wrO
 have hr:rwF ws 3 e (aY kd e2 x y)=if e.cin 0 n=true then some (aY kd e2 (filt e x) y)else none:=by
  simp[rwF,aY,Pn.ex0,Pn.gJ,Pn.mR,Pn.kind,Pn.exprs,Pn.kids,hkd,hn]
 unfold l9;rw[hr,aD rfl Tryz.func136 rfl rfl];generalize (aY kd e2 x y).wd ws 8=W at *
 cases hb:e.cin 0 n with
 | true =>
  rw[hb]at c4;simp only[if_true,Option.getD,Option.isSome,aQ,pair_cells,Ex.aA e,Ex.aA e2,Pn.aA x,Pn.aA y]at c1 c2 c3 c4 ⊢
  rcases hkd with rfl|rfl<;>simp[c1,c2,c3,c4,w1]
 | false =>
  rw[hb]at c4;simp only[yZ,if_false,Option.getD,Option.isSome,aQ,pair_cells,Ex.aA e,Ex.aA e2,Pn.aA x,Pn.aA y]at c1 c2 c3 c4 ⊢
  rcases hkd with rfl|rfl<;>simp[c1,c2,c4,w1]
theorem AKD {ws:List Int} (hw:jI ws=true) {e e2:Ex} {x y:Pn} (hp:(filt e (aY 4 e2 x y)).wd ws 8≠0):l9 ws 4 e (aY 4 e2 x y):=by
 obtain⟨h1,h2,h3⟩:=qU hp;obtain⟨g1,g2,g3,g4,g5⟩:=JI (.inl rfl) h1;have c1:=BS hw (cB _ 8 h1);have c2:=BS hw (cB _ 8 g1);obtain⟨n,hn,n1,n2⟩:=tF hw g1;obtain⟨m,hm,m1,m2⟩:=tF hw g2;have hwf:=(Ex.AC h2).1;rw[g5,hn,hm,← Int.natCast_add]at hwf;have g5':=g5;rw[hn,hm,← Int.natCast_add]at g5';rw[g5']at c1;rw[hn]at c2;have c4:=KS e hwf (by have:=Ex.gG h2;omega) n (n+m:Nat) (by omega);have w1:IntKind.i64.wrap ((n:Int)+m-1)=n+m-1:=wrO;have w2:IntKind.i64.wrap ((n:Int)+m-n)=m:=by rw[wrO];omega
 have hr:rwF ws 4 e (aY 4 e2 x y)=if e.cin n (n+m:Nat)=true then some (aY 4 e2 x (filt (e.rR (·-n)) y))else none:=by
  have:=g5';unfold aY at this;simp[rwF,aY,Pn.ex0,Pn.gJ,Pn.mR,Pn.kind,Pn.exprs,Pn.kids,hn,this]
 have f1:=lJ 0 (by omega) n (by omega);have f2:=lJ 0 (by omega) m (by omega);have hlen:(aS 0 n++aS 0 m).length=n+m:=by simp
 have f3:=jW (aS 0 n++aS 0 m) (fun b hb=>by
  rcases zT.1 hb with h|h<;>exact o5 _ _ b h) e (Ex.eO _ (by have:=Ex.gG h2;omega)) (by rw[hlen];exact Ex.AL e hwf)
 unfold l9;rw[hr,aD rfl Tryz.func136 rfl rfl]
 cases hb:e.cin n (n+m:Nat)with
 | true =>
  have hsub:e.sub (aS 0 n++aS 0 m)=e.rR (·-n):=Ex.QV (g:=fun c=>decide ((n:Int)≤c∧c<(n+m:Nat))) (fun c hc=>by
   simp only[zP]at hc;rw[zM (by simp;omega),pX,pV (by omega)]
   congr 2;omega) e hb
  rw[hsub]at f3;have c3:=dV (e.rR (·-n)) y;generalize e.rR (·-(n:Int))=z at *
  rw[hb]at c4;have ht:∀ k:Nat,(aS 0 k).take k=aS 0 k:=fun k=>zW (by simp)
  have ht2:(Ex.aB (aS 0 n)++Ex.aB (aS 0 m)).take (n+m)=Ex.aB (aS 0 n)++Ex.aB (aS 0 m):=zW (by simp);have hl1:(n+m)*56≤140737488355328:=by omega
  simp only[yP]at c1 c4;simp only[if_true,Option.getD,Option.isSome,aQ,pair_cells,Ex.aA e,Ex.aA e2,Ex.aA z,Pn.aA x,Pn.aA y,Ex.iM]at c1 c2 c3 c4 f3 ⊢;simp[c1,c2,c3,c4,w1,w2,f1,f2,f3,ht,ht2,hl1]
 | false =>
  rw[hb]at c4;simp only[yP]at c1 c4;simp only[yZ,if_false,Option.getD,Option.isSome,aQ,pair_cells,Ex.aA e,Ex.aA e2,Pn.aA x,Pn.aA y]at c1 c2 c4 ⊢;simp[c1,c2,c4,w1]
theorem AKC {ws:List Int} (hw:jI ws=true) {e e2:Ex} {x y:Pn} (hp:(filt e (aY 4 e2 x y)).wd ws 8≠0):l9 ws 5 e (aY 4 e2 x y):=by
 obtain⟨h1,h2,h3⟩:=qU hp;obtain⟨g1,g2,g3,g4,g5⟩:=JI (.inl rfl) h1;have c1:=BS hw (cB _ 8 h1);have c2:=BS hw (cB _ 8 g1)
 have hr:rwF ws 5 e (aY 4 e2 x y)=some (aY 4 (TC e2 e) x y):=by
  simp[rwF,aY,Pn.ex0,Pn.gJ,Pn.mR,Pn.kind,Pn.exprs,Pn.kids]
 unfold l9;rw[hr,aD rfl Tryz.func136 rfl rfl];generalize (aY 4 e2 x y).wd ws 8=W at *
 generalize x.wd ws 8=V at *
 simp only[Option.getD,Option.isSome,aQ,pair_cells,mY,Ex.aA e,Ex.aA e2,Pn.aA x,Pn.aA y]at c1 c2 ⊢;simp[c1,c2]
theorem AKB {ws:List Int} (hw:jI ws=true) {e e2:Ex} {x y:Pn} (hp:(filt e (aY 5 e2 x y)).wd ws 8≠0):l9 ws 7 e (aY 5 e2 x y):=by
 obtain⟨h1,h2,h3⟩:=qU hp;obtain⟨g1,g2,g3,g4,g5⟩:=JI (.inr rfl) h1;have c1:=BS hw (cB _ 8 h1);have c2:=BS hw (cB _ 8 g1);obtain⟨n,hn,n1,n2⟩:=tF hw g1;obtain⟨m,hm,m1,m2⟩:=tF hw g2;have hwf:=(Ex.AC h2).1;rw[g5,hn,hm,← Int.natCast_add]at hwf;have g5':=g5;rw[hn,hm,← Int.natCast_add]at g5';rw[g5']at c1;rw[hn]at c2;have c3:=dV e (aY 4 e2 x y);have f1:=K4 (n:=n+m) (p:=n) (m:=m) rfl (by omega);have f2:=OU e (n:=n+m) (p:=n) (m:=m) rfl (by omega) hwf
 have hr:rwF ws 7 e (aY 5 e2 x y)=if XZ e (n+m:Nat) n=true then some (filt e (aY 4 e2 x y))else none:=by
  have:=g5';unfold aY at this;simp[rwF,aY,Pn.ex0,Pn.gJ,Pn.mR,Pn.kind,Pn.exprs,Pn.kids,hn,this]
 unfold l9;rw[hr,aD rfl Tryz.func136 rfl rfl];simp only[yP]at c1 f1 f2
 cases hb:XZ e (n+m:Nat) n with
 | true =>
  rw[show XZ e ((n:Int)+m) n=true by rw[← Int.natCast_add];exact hb]at f2;simp only[if_true,Option.getD,Option.isSome,aQ,pair_cells,Ex.aA e,Ex.aA e2,Pn.aA x,Pn.aA y]at c1 c2 c3 f2 ⊢;simp[c1,c2,c3,f1,f2]
 | false =>
  rw[show XZ e ((n:Int)+m) n=false by rw[← Int.natCast_add];exact hb]at f2;simp only[yZ,if_false,Option.getD,Option.isSome,aQ,pair_cells,Ex.aA e,Ex.aA e2,Pn.aA x,Pn.aA y]at c1 c2 f2 ⊢;simp[c1,c2,f1,f2]
theorem AKA {ws:List Int} (hw:jI ws=true) {e:Ex} {x y:Pn} (hp:(filt e (bY x y)).wd ws 8≠0):l9 ws 8 e (bY x y):=by
 obtain⟨h1,h2,h3⟩:=qU hp;have c1:=BS hw (cB _ 8 h1);have c2:=BS hw (cB x 8 (QQ h1 (by simp[bY,Pn.kids]) x (by simp[bY,Pn.kids])));have c3:=dV e x;have c4:=dV e y
 have hr:rwF ws 8 e (bY x y)=some (bY (filt e x) (filt e y)):=by
  simp[rwF,bY,Pn.ex0,Pn.gJ,Pn.mR,Pn.kind,Pn.exprs,Pn.kids]
 unfold l9;rw[hr,aD rfl Tryz.func136 rfl rfl];generalize (bY x y).wd ws 8=W at *
 generalize x.wd ws 8=V at *
 simp only[Option.getD,Option.isSome,aQ,BL,Ex.aA e,Pn.aA x,Pn.aA y]at c1 c2 c3 c4 ⊢;simp[c1,c2,c3,c4]
theorem AGC {ws:List Int} (hw:jI ws=true) {e:Ex} {es:List Ex} {x:Pn} (hp:(filt e (proj es x)).wd ws 8≠0):l9 ws 10 e (proj es x):=by
 obtain⟨h1,h2,h3⟩:=qU hp;obtain⟨g1,g2,g3,g4⟩:=UL h1;have c1:=BS hw (cB _ 8 h1);have c2:=BS hw (cB _ 8 g1);rw[g4]at h2;have c3:=dV (e.sub es) x;have f3:=jW es (fun b hb=>Ex.eO _ (by have:=Ex.gG (zR.1 g3 b hb);omega)) e (Ex.eO _ (by have:=Ex.gG h2;omega)) (Ex.AL e (Ex.AC h2).1)
 have hr:rwF ws 10 e (proj es x)=some (proj es (filt (e.sub es) x)):=by
  simp[rwF,proj,Pn.ex0,Pn.gJ,Pn.mR,Pn.kind,Pn.exprs,Pn.kids]
 unfold l9;rw[hr,aD rfl Tryz.func136 rfl rfl];generalize (proj es x).wd ws 8=W at *
 generalize x.wd ws 8=V at *
 generalize e.sub es=z at *
 simp only[Option.getD,Option.isSome,aQ,gT,Ex.aA e,Ex.aA z,Pn.aA x]at c1 c2 c3 f3 ⊢;simp[c1,c2,c3,f3]
theorem AC0 {ws:List Int} (hw:jI ws=true) {e:Ex} {k:Pn} (hp:(filt e k).wd ws 8≠0) (r:Int):l9 ws r e k:=by
 obtain⟨h1,h2,h3⟩:=qU hp;by_cases hr:r≠1∧r≠2∧r≠3∧r≠4∧r≠5∧r≠7∧r≠8∧r≠10
 ·exact OT hw hp hr
 have hk:=kG h1;have hr':r=1∨r=2∨r=3∨r=4∨r=5∨r=7∨r=8∨r=10:=by omega
 rcases hr' with rfl|rfl|rfl|rfl|rfl|rfl|rfl|rfl
 ·by_cases q:k.kind=2
  ·obtain⟨e2,a,rfl⟩:=nA hk q;exact AKG hw hp
  ·exact lG hw hp (.inl ⟨rfl,q⟩)
 ·by_cases q:e.kind=8
  ·rcases Ex.sW (Ex.AC h2).1 with ⟨h,_⟩|⟨h,_⟩|⟨h,_⟩|⟨_,x,y,h,_⟩
   ·omega
   ·omega
   ·omega
   ·exact AKF hw hp q h
  ·exact lG hw hp (.inr (.inl ⟨rfl,q⟩))
 ·by_cases q:k.kind=4∨k.kind=5
  ·obtain⟨e2,x,y,hx⟩:=gQ hk q;generalize k.kind=kd at *
   subst hx;exact AKE hw q hp
  ·exact lG hw hp (.inr (.inr (.inl ⟨rfl,q⟩)))
 ·by_cases q:k.kind=4
  ·obtain⟨e2,x,y,hx⟩:=gQ hk (.inl q);rw[q]at hx;subst hx;exact AKD hw hp
  ·exact lG hw hp (.inr (.inr (.inr (.inl ⟨rfl,q⟩))))
 ·by_cases q:k.kind=4
  ·obtain⟨e2,x,y,hx⟩:=gQ hk (.inl q);rw[q]at hx;subst hx;exact AKC hw hp
  ·exact lG hw hp (.inr (.inr (.inr (.inr (.inl ⟨rfl,q⟩)))))
 ·by_cases q:k.kind=5
  ·obtain⟨e2,x,y,hx⟩:=gQ hk (.inr q);rw[q]at hx;subst hx;exact AKB hw hp
  ·exact lG hw hp (.inr (.inr (.inr (.inr (.inr (.inl ⟨rfl,q⟩))))))
 ·by_cases q:k.kind=6
  ·obtain⟨x,y,rfl⟩:=AAR hk q;exact AKA hw hp
  ·exact lG hw hp (.inr (.inr (.inr (.inr (.inr (.inr (.inl ⟨rfl,q⟩)))))))
 ·by_cases q:k.kind=3
  ·obtain⟨es,x,rfl⟩:=lW hk q;exact AGC hw hp
  ·exact lG hw hp (.inr (.inr (.inr (.inr (.inr (.inr (.inr ⟨rfl,q⟩)))))))
def SRw (ws:List Int) (r:Int) (p:Pn):Prop:=aI C0 102 [.i (.agg p.cells), .int r, .i (.isl (aF ws))] []=some (.tup [.i (.agg ((rwP ws r p).getD p).cells), .bool (rwP ws r p).isSome],[])
theorem ABZ {ws:List Int} (hw:jI ws=true) {e:Ex} {k:Pn} (hp:(filt e k).wd ws 8≠0) (r:Int):SRw ws r (filt e k):=by
 have h:=AC0 hw hp r;unfold l9 at h;unfold SRw;rw[dW];generalize (rwF ws r e k).getD (filt e k)=q at *
 generalize (rwF ws r e k).isSome=b at *
 rw[aD rfl Tryz.func102 rfl rfl];simp only[aQ,Pn.aA q]at h ⊢;simp[h]
theorem AK8 {ws:List Int} {p:Pn} {r:Int} (h2:p.kind≠2) (h4:¬ (r=6∧p.kind=4)) (h7:¬ (r=9∧p.kind=7)) (h3:¬ (r=11∧p.kind=3)):SRw ws r p:=by
 have hn:rwP ws r p=none:=by
  unfold rwP;rw[if_neg h2,if_neg h4,if_neg (fun h=>h7 ⟨h.1,h.2.1⟩),if_neg (fun h=>h3 ⟨h.1,h.2.1⟩)]
 unfold SRw;rw[hn,aD rfl Tryz.func102 rfl rfl];simp only[Option.getD,Option.isSome,Pn.aA p];by_cases r6:r=6
 ·have k4:¬ p.kind=4:=fun h=>h4 ⟨r6,h⟩
  simp[h2,r6,k4]
 ·by_cases r9:r=9
  ·have k7:¬ p.kind=7:=fun h=>h7 ⟨r9,h⟩
   simp[h2,r9,k7]
  ·by_cases r11:r=11
   ·have k3:¬ p.kind=3:=fun h=>h3 ⟨r11,h⟩
    simp[h2,r11,k3]
   ·simp[h2,r6,r9,r11]
theorem AGB {ws:List Int} (hw:jI ws=true) {e:Ex} {x y:Pn} (hp:(aY 4 e x y).wd ws 8≠0):SRw ws 6 (aY 4 e x y):=by
 obtain⟨g1,g2,g3,g4,g5⟩:=JI (.inl rfl) hp;have c1:=BS hw (cB _ 8 g1);have c2:=BS hw (cB _ 8 g2);obtain⟨n,hn,n1,n2⟩:=tF hw g1;obtain⟨m,hm,m1,m2⟩:=tF hw g2;have hwf:=(Ex.AC g4).1;rw[hn]at c1 hwf;rw[hm]at c2 hwf;have f1:=lJ m (by omega) n (by omega);have f2:=lJ 0 (by omega) m (by omega);have hlen:(aS (m:Int) n++aS 0 m).length=n+m:=by simp
 have f3:=jW (aS (m:Int) n++aS 0 m) (fun b hb=>by
  rcases zT.1 hb with h|h<;>exact o5 _ _ b h) e (Ex.eO _ (by have:=Ex.gG g4;omega)) (by rw[hlen,yP];exact Ex.AL e hwf)
 have hsub:e.sub (aS (m:Int) n++aS 0 m)=e.rR (nH n m):=Ex.QV (g:=fun c=>decide (0≤c∧c<(n:Int)+m)) (fun c hc=>by
  simp only[zP]at hc;rw[SS (by omega)]
  congr 3;omega) e (Ex.J3 e hwf)
 rw[hsub]at f3
 have hr:rwP ws 6 (aY 4 e x y)=some (proj (aS m n++aS 0 m) (aY 4 (e.rR (nH n m)) y x)):=by
  simp[rwP,aY,Pn.ex0,Pn.gJ,Pn.mR,Pn.kind,Pn.exprs,Pn.kids,hn,hm]
 unfold SRw;rw[hr,aD rfl Tryz.func102 rfl rfl];generalize e.rR (nH n m)=z at *
 have ht:∀ (a:Int) (k:Nat),(aS a k).take k=aS a k:=fun a k=>zW (by simp)
 have ht2:(Ex.aB (aS m n)++Ex.aB (aS 0 m)).take (n+m)=Ex.aB (aS m n)++Ex.aB (aS 0 m):=zW (by simp);have hl1:(n+m)*56≤140737488355328:=by omega
 simp only[Option.getD,Option.isSome,gT,pair_cells,Ex.aA e,Ex.aA z,Pn.aA x,Pn.aA y,Ex.iM]at c1 c2 f3 ⊢;simp[c1,c2,f1,f2,f3,ht,ht2,hl1]
theorem ABY {ws:List Int} {a:Pn}:SRw ws 9 (.mk 7 0 [] [] [a]):=by
 have hc:(Pn.mk 7 0 [] [] [a]).cells=[.int 7, .int 0, .isl [], .isl [], .isl [a.cells]]:=by simp[Pn.cells,Ex.aB,aF,Pn.aB]
 unfold SRw;rw[aD rfl Tryz.func102 rfl rfl];by_cases h:a.kind=7∨a.kind=8
 ·have hr:rwP ws 9 (.mk 7 0 [] [] [a])=some a:=by simp[rwP,Pn.gJ,Pn.kids,h]
  rw[hr];simp only[Option.getD,Option.isSome,hc,Pn.aA a]
  rcases h with h|h<;>simp[h]
 ·have hr:rwP ws 9 (.mk 7 0 [] [] [a])=none:=by simp[rwP,Pn.gJ,Pn.kids,h]
  rw[hr];simp only[Option.getD,Option.isSome,hc,Pn.aA a];have h7:¬ a.kind=7:=by omega
  have h8:¬ a.kind=8:=by omega
  simp[h7,h8]
theorem J8 {ws:List Int} {fs:List Ex} {a:Pn} (h:a.kind≠3):SRw ws 11 (proj fs a):=by
 have hr:rwP ws 11 (proj fs a)=none:=by simp[rwP,Pn.gJ,Pn.kids,proj,h]
 unfold SRw;rw[hr,aD rfl Tryz.func102 rfl rfl];simp only[Option.getD,Option.isSome,gT,Pn.aA a];simp[h]
def SRX (fs es:List Ex) (x:Pn) (ws:List Int) (zs:List Ex) (i:Nat):AS :=
 { env:=[(0, .i (.agg [.int 3, .int 0, .isl (Ex.aB fs), .isl [], .isl [[.int 3, .int 0, .isl (Ex.aB es), .isl [], .isl [[.int x.kind, .int x.table, .isl (Ex.aB x.exprs), .isl (aF x.cols), .isl (Pn.aB x.kids)]]]]])),(1, .int 11),(2, .i (.isl (aF ws))),(3, .own 0 0),(6, .own 1 0),(7, .bool false),(8, .junk),(9, .junk),(10, .junk),(11, .junk),(12, .osl 2 5 0 i),(13, .int i),(14, .bool false),(24, .bool false),(71, .bool false),(99, .bool true),(120,jk i (.bool true))],
   st:=[some (.box [.i (.int 3), .i (.int 0), .i (.isl (Ex.aB fs)), .i (.isl []), .i (.isl [[.int 3, .int 0, .isl (Ex.aB es), .isl [], .isl [[.int x.kind, .int x.table, .isl (Ex.aB x.exprs), .isl (aF x.cols), .isl (Pn.aB x.kids)]]]])]),some (.box [.int 0, .int 0, .nils, .nils, .nils]),some (.arr 5 (Ex.aB (zs.take i)))] }
theorem U7 {ws:List Int} {fs es:List Ex} {x:Pn} (hp:(proj fs (proj es x)).wd ws 8≠0):SRw ws 11 (proj fs (proj es x)):=by
 obtain⟨h1,h2,h3,h4⟩:=UL hp;obtain⟨g1,g2,g3,g4⟩:=UL h1;rw[g4]at h3;have f3:=fun f (hf:f∈fs)=>jW es (fun b hb=>Ex.eO _ (by have:=Ex.gG (zR.1 g3 b hb);omega)) f (Ex.eO _ (by have:=Ex.gG (zR.1 h3 f hf);omega)) (Ex.AL f (Ex.AC (zR.1 h3 f hf)).1)
 have hr:rwP ws 11 (proj fs (proj es x))=some (proj (fs.map (Ex.sub es)) x):=by
  simp[rwP,proj,Pn.ex0,Pn.gJ,Pn.mR,Pn.kind,Pn.exprs,Pn.kids]
 unfold SRw;rw[hr,aD rfl Tryz.func102 rfl rfl];have hlen:fs.length≤6:=by unfold bI at h2;simp at h2;omega
 have hz:∀ (i:Nat) (f:Ex),fs[i]?=some f→(fs.map (Ex.sub es))[i]?=some (f.sub es):=fun i f h=>by simp[h]
 have hzl:(fs.map (Ex.sub es)).length=fs.length:=by simp
 generalize fs.map (Ex.sub es)=zs at *
 simp only[Option.getD,Option.isSome,gT,Pn.aA x];simp;rw[aO (SRX fs es x ws zs) fs.length (by simp[SRX,Ex.aB])]
 ·rw[aG];have ht:zs.take fs.length=zs:=zW (by omega);simp[SRX,ht,hzl]
 ·intro i hi;have q1:=zY hi;have hm:=zV q1;have r1:=Ex.aJ q1;generalize fs[i]=f at q1 hm r1;have q2:=hz i f q1;have c5:=f3 f hm;generalize f.sub es=z at q2 c5;have htk:=aM q2;have w2:IntKind.i64.wrap ((i:Int)+1)=i+1:=wrO;have hl1:(i+1)*56≤140737488355328:=by omega
  have hl2:i≤min i zs.length:=by omega
  simp only[Ex.aA f,Ex.aA z]at c5 r1;simp[SRX,hi,r1,c5,w2,htk,Ex.aU,Ex.aA z,hl1,hl2,zK]
theorem AK9 {ws:List Int} (hw:jI ws=true) {p:Pn} (hp:p.wd ws 8≠0) (r:Int):SRw ws r p:=by
 have hk:=kG hp;by_cases k2:p.kind=2
 ·obtain⟨e,a,rfl⟩:=nA hk k2;exact ABZ hw hp r
 by_cases k4:r=6∧p.kind=4
 ·obtain⟨rfl,k4⟩:=k4;obtain⟨e,x,y,hx⟩:=gQ hk (.inl k4);rw[k4]at hx;subst hx;exact AGB hw hp
 by_cases k7:r=9∧p.kind=7
 ·obtain⟨rfl,k7⟩:=k7;obtain⟨a,rfl⟩:=AAS hk k7;exact ABY
 by_cases k3:r=11∧p.kind=3
 ·obtain⟨rfl,k3⟩:=k3;obtain⟨fs,a,rfl⟩:=lW hk k3;by_cases k33:a.kind=3
  ·obtain⟨V,hV,_⟩:=sP hk;obtain⟨es,x,rfl⟩:=lW hV k33;exact U7 hp
  ·exact J8 k33
 exact AK8 k2 k4 k7 k3
end Go.Proofs.YtjdfjgmebalaaaaGreat.P
namespace Go.Av
theorem AIC {path:List Int} {p a:Pn} {x:Int} (h:Pn.at path p=some a):Pn.at (path++[x]) p=if 0≤x then a.kids[x.toNat]? else none:=by
 rw[uO path p a [x] h];unfold Pn.at;split
 ·cases a.kids[x.toNat]?<;>simp[Pn.at]
 ·rfl
theorem AID {path r:List Int} {p:Pn} (h:Pn.at path p=none):Pn.at (path++r) p=none:=by
 induction path generalizing p with
 | nil=>simp[Pn.at]at h
 | cons i path ih =>
  simp only[yD,Pn.at]at h ⊢;split
  ·rename_i h0;rw[if_pos h0]at h
   cases hk:p.kids[i.toNat]? with
   | none=>rfl
   | some b=>rw[hk]at h;exact ih h
  ·rfl
theorem AAI (path:List Int) (p:Pn):∃ j:Nat,(∀ i,i<j→∃ (x:Int) (a b:Pn),path[i]?=some x∧Pn.at (path.take i) p=some a∧0≤x∧a.kids[x.toNat]?=some b∧Pn.at (path.take (i+1)) p=some b)∧((∃ a,j=path.length∧Pn.at path p=some a)∨(∃ (x:Int) (a:Pn),path[j]?=some x∧Pn.at (path.take j) p=some a∧(0≤x→a.kids[x.toNat]?=none)∧Pn.at path p=none)):=by
 generalize hn:path.length=n
 induction n generalizing path with
 | zero =>
  obtain rfl:=zX.1 hn;exact⟨0,fun i hi=>by omega, .inl ⟨p,rfl,rfl⟩⟩
 | succ n ih =>
  obtain⟨l,x,rfl⟩:∃ l x,path=l++[x]:=by
   rcases xG path with h|⟨l,x,h⟩
   ·rw[h]at hn;simp at hn
   ·exact⟨l,x,by simpa using h⟩
  have hln:l.length=n:=by simpa using hn
  subst hln;obtain⟨j,h1,h2⟩:=ih l rfl
  have hlt:∀ i,i<j→i<l.length:=fun i hi=>by
   obtain⟨y,_,_,h,_⟩:=h1 i hi;exact(zZ.1 h).1
  have h1':∀ i,i<j→∃ (x':Int) (a b:Pn),(l++[x])[i]?=some x'∧Pn.at ((l++[x]).take i) p=some a∧0≤x'∧a.kids[x'.toNat]?=some b∧Pn.at ((l++[x]).take (i+1)) p=some b:=fun i hi=>by
   obtain⟨y,a,b,q1,q2,q3,q4,q5⟩:=h1 i hi;have hl:=hlt i hi;refine⟨y,a,b,by rw[zJ hl];exact q1,by rw[y9 (by omega)];exact q2,q3,q4,by rw[y9 (by omega)];exact q5⟩
  rcases h2 with ⟨a,rfl,ha⟩|⟨y,a,q1,q2,q3,q4⟩
  ·have hs:=AIC (x:=x) ha;by_cases hx:0≤x
   ·rw[if_pos hx]at hs
    cases hk:a.kids[x.toNat]? with
    | none=>exact⟨l.length,h1', .inr ⟨x,a,by simp,by simpa using ha,fun _=>hk,by rw[hs,hk]⟩⟩
    | some b =>
     refine⟨l.length+1,fun i hi=>?_, .inl ⟨b,by simp,by rw[hs,hk]⟩⟩;by_cases hi':i<l.length
     ·exact h1' i hi'
     ·obtain rfl:i=l.length:=by omega
      exact⟨x,a,b,by simp,by simpa using ha,hx,hk,by rw[zW (by simp),hs,hk]⟩
   ·rw[if_neg hx]at hs;exact⟨l.length,h1', .inr ⟨x,a,by simp,by simpa using ha,fun h=>absurd h hx,hs⟩⟩
  ·have hl:=(zZ.1 q1).1;exact⟨j,h1', .inr ⟨y,a,by rw[zJ hl];exact q1,by rw[y9 (by omega)];exact q2,q3,AID q4⟩⟩
theorem QH:∀ (path:List Int) (p a:Pn),p.thin→Pn.at path p=some a→a.thin
 | [],p,a,h,e=>by simp[Pn.at]at e;subst e;exact h
 | i::r,p,a,h,e=>by
  obtain⟨n,rfl,b,hb,hr⟩:=Pn.oD e;exact QH r b a (((Pn.bC p).1 h).2.2.2.2 b (zV hb)) hr
theorem Pn.qN (l:List Pn) (n:Nat) (x:Pn):(Pn.aB l).set n x.cells=Pn.aB (l.set n x):=by
 induction l generalizing n with
 | nil=>simp[Pn.aB]
 | cons a l ih=>cases n with
  | zero=>simp[Pn.aB]
  | succ n=>simp[Pn.aB,ih n]
end Go.Av
namespace Go.Proofs.YtjdfjgmebalaaaaGreat.P
open Go Go.Av
set_option maxRecDepth 4000
set_option maxHeartbeats 4000000
def KO (a:Pn):Option Blk:=some (.box [.i (.int a.kind), .i (.int a.table), .i (.isl (Ex.aB a.exprs)), .i (.isl (aF a.cols)), .i (.isl (Pn.aB a.kids))])
def PAX (p:Pn) (path:List Int) (a:Pn) (i:Nat):AS :=
 { env:=[(0, .i (.agg [.int p.kind, .int p.table, .isl (Ex.aB p.exprs), .isl (aF p.cols), .isl (Pn.aB p.kids)])),(1, .i (.isl (aF path))),(2, .own 0 0),(4, .own 1 0),(5, .bool false),(6, .int i),(10,jk i (.bool true)),(22,jk i (.bool false))],
   st:=[KO a,some (.box [.int 0, .int 0, .nils, .nils, .nils])] }
theorem YC {p:Pn} (hp:p.thin) {path:List Int} (hl:path.length<1000000):aI C0 101 [.i (.agg p.cells), .i (.isl (aF path))] []=some (.tup [.i (.agg ((Pn.at path p).getD Pn.zero).cells), .bool (Pn.at path p).isSome],[]):=by
 obtain⟨j,h1,h2⟩:=AAI path p;rw[aD rfl Tryz.func101 rfl rfl];simp only[Pn.aA p];simp;rw[aO (fun i=>PAX p path ((Pn.at (path.take i) p).getD Pn.zero) i) j (by simp[PAX,Pn.at,KO])]
 ·rw[aG]
  rcases h2 with ⟨a,rfl,ha⟩|⟨x,a,q1,q2,q3,q4⟩
  ·simp[PAX,KO,ha,Pn.aA a]
  ·have r1:=aW q1;have hj:=(zZ.1 q1).1;have ha:=QH _ _ _ hp q2;have hka:=((Pn.bC a).1 ha).2.2.2.1;have w1:IntKind.i64.wrap ((a.kids.length:Int)-1)=a.kids.length-1:=wrO
   have hin:(decide (0≤x∧x≤(a.kids.length:Int)-1))=false:=by
    rw[decide_eq_false_iff_not];rintro⟨g1,g2⟩;have:=xU.1 (q3 g1);omega
   have hir:=HZ x 0 ((a.kids.length:Int)-1);rw[hin]at hir;simp[PAX,KO,q2,q4,hj,r1,w1,hir,aR]
 ·intro i hi;obtain⟨x,a,b,q1,q2,q3,q4,q5⟩:=h1 i hi;have r1:=aW q1;have hj:=(zZ.1 q1).1;have ha:=QH _ _ _ hp q2;have hka:=((Pn.bC a).1 ha).2.2.2.1;have hxl:=(zZ.1 q4).1;have r4:=Pn.aJ q4;have w1:IntKind.i64.wrap ((a.kids.length:Int)-1)=a.kids.length-1:=wrO;have w2:IntKind.i64.wrap ((i:Int)+1)=i+1:=wrO;have hin:(decide (0≤x∧x≤(a.kids.length:Int)-1))=true:=by rw[zP];omega
  have hir:=HZ x 0 ((a.kids.length:Int)-1);rw[hin]at hir;rw[Pn.aA b]at r4;simp[PAX,KO,q2,q5,hj,r1,w1,w2,hir,q3,show x<a.kids.length by omega,r4]
end Go.Proofs.YtjdfjgmebalaaaaGreat.P
namespace Go.Av
theorem iJ {e:Ex} {a:Pn} (he:e.thin) (ha:a.thin):(filt e a).thin:=by simp[filt,Pn.thin,Pn.nG,he,ha]
theorem CG {es:List Ex} {a:Pn} (hl:es.length<1000000000) (he:∀ e∈es,e.thin) (ha:a.thin):(proj es a).thin:=by simp[proj,Pn.thin,Pn.nG,hl,ha];exact he
theorem p9 {kd:Int} {e:Ex} {a b:Pn} (he:e.thin) (ha:a.thin) (hb:b.thin):(aY kd e a b).thin:=by simp[aY,Pn.thin,Pn.nG,he,ha,hb]
theorem TT {a b:Pn} (ha:a.thin) (hb:b.thin):(bY a b).thin:=by simp[bY,Pn.thin,Pn.nG,ha,hb]
theorem O9 {a b:Ex} (ha:a.thin) (hb:b.thin):(TC a b).thin:=by simp[TC,Ex.thin,Ex.nG,ha,hb]
theorem nX:Ex.zero.thin:=by simp[Ex.zero,Ex.thin,Ex.nG]
theorem Pn.pG {p:Pn} (h:p.thin):p.gJ.thin:=by
 unfold Pn.gJ
 cases hk:p.kids[0]? with
 | none=>exact Pn.KR
 | some a=>exact((Pn.bC p).1 h).2.2.2.2 a (zV hk)
theorem Pn.uF {p:Pn} (h:p.thin):p.mR.thin:=by
 unfold Pn.mR
 cases hk:p.kids[1]? with
 | none=>exact Pn.KR
 | some a=>exact((Pn.bC p).1 h).2.2.2.2 a (zV hk)
theorem Pn.SC {p:Pn} (h:p.thin):p.ex0.thin:=by
 unfold Pn.ex0
 cases hk:p.exprs[0]? with
 | none=>exact nX
 | some a=>exact((Pn.bC p).1 h).2.1 a (zV hk)
theorem Ex.pG {e:Ex} (h:e.thin):e.gJ.thin:=by
 unfold Ex.gJ
 cases hk:e.kids[0]? with
 | none=>exact nX
 | some a=>exact((Ex.bC e).1 h).2 a (zV hk)
theorem Ex.uF {e:Ex} (h:e.thin):e.mR.thin:=by
 unfold Ex.mR
 cases hk:e.kids[1]? with
 | none=>exact nX
 | some a=>exact((Ex.bC e).1 h).2 a (zV hk)
theorem Ex.QU {l:List Ex} (hl:∀ b∈l,b.thin):∀ e:Ex,e.thin→(e.sub l).thin:=by
 intro e
 induction e using Ex.ind with
 | h k c v ks ih =>
  intro ht;have h:=(Ex.bC _).1 ht;by_cases hk:k=1
  ·unfold Ex.sub;rw[if_pos hk]
   cases hx:l[c.toNat]? with
   | none=>exact nX
   | some b=>exact hl b (zV hx)
  ·rw[Ex.rH l (e:=.mk k c v ks) hk,Ex.bC];refine⟨by simpa [Ex.kids]using h.1,fun x hx=>?_⟩;simp only[Ex.kids,yB]at hx;obtain⟨y,hy,rfl⟩:=hx;exact ih y hy (h.2 y hy)
theorem Ex.MP {f:Int→Int}:∀ e:Ex,e.thin→(e.rR f).thin:=by
 intro e
 induction e using Ex.ind with
 | h k c v ks ih =>
  intro ht;have h:=(Ex.bC _).1 ht;by_cases hk:k=1
  ·rw[Ex.AX f (e:=.mk k c v ks) hk];exact NT _
  ·rw[Ex.AU f (e:=.mk k c v ks) hk,Ex.bC];refine⟨by simpa [Ex.kids]using h.1,fun x hx=>?_⟩;simp only[Ex.kids,yB]at hx;obtain⟨y,hy,rfl⟩:=hx;exact ih y hy (h.2 y hy)
theorem AC7 {ws:List Int} {r:Int} {e:Ex} {k q:Pn} (he:e.thin) (hk:k.thin) (h:rwF ws r e k=some q):q.thin:=by
 have k0:=Pn.pG hk;have k1:=Pn.uF hk;have x0:=Pn.SC hk;have hx:=((Pn.bC k).1 hk).2.1;have hl:=((Pn.bC k).1 hk).1;unfold rwF at h
 repeat' split at h
 all_goals first
  | (cases h;done)
  | (injection h with h;subst h
     first
      | exact iJ (O9 x0 he) k0
      | exact iJ (Ex.uF he) (iJ (Ex.pG he) hk)
      | exact p9 x0 (iJ he k0) k1
      | exact p9 x0 k0 (iJ (Ex.MP _ he) k1)
      | exact p9 (O9 x0 he) k0 k1
      | exact iJ he (p9 x0 k0 k1)
      | exact TT (iJ he k0) (iJ he k1)
      | exact CG hl hx (iJ (Ex.QU hx _ he) k0))
theorem AC4 {ws:List Int} (hw:∀ w∈ws,0≤w∧w≤6) {r:Int} {p q:Pn} (hp:p.thin) (h:rwP ws r p=some q):q.thin:=by
 have k0:=Pn.pG hp;have k1:=Pn.uF hp;have x0:=Pn.SC hp;have hx:=((Pn.bC p).1 hp).2.1;have hl:=((Pn.bC p).1 hp).1;have hx0:=((Pn.bC _).1 k0).2.1;have r0:=Pn.qF hw p.gJ 8;have r1:=Pn.qF hw p.mR 8;unfold rwP at h;split at h
 ·exact AC7 x0 k0 h
 split at h
 ·injection h with h;subst h;refine CG (by simp;omega) (fun e he=>?_) (p9 (Ex.MP _ x0) k1 k0)
  rcases zT.1 he with h|h<;>exact o5 _ _ e h
 split at h
 ·injection h with h;subst h;exact k0
 split at h
 ·injection h with h;subst h;refine CG (by simpa using hl) (fun e he=>?_) (Pn.pG k0);obtain⟨y,hy,rfl⟩:=yB.1 he;exact Ex.QU hx0 y (hx y hy)
 ·cases h
theorem RF {q:Pn} (hq:q.thin):∀ (path:List Int) (p a:Pn),p.thin→Pn.at path p=some a→(Pn.put path p q).thin
 | [],p,a,_,_=>by simpa [Pn.put]using hq
 | x::r,p,a,hp,ha=>by
  obtain⟨n,rfl,b,hb,hr⟩:=Pn.oD ha;have h:=(Pn.bC p).1 hp;have ih:=RF hq r b a (h.2.2.2.2 b (zV hb)) hr;rw[Pn.AP q hb,Pn.bC];refine⟨h.1,h.2.1,h.2.2.1,by simpa [Pn.kids]using h.2.2.2.1,fun c hc=>?_⟩;simp only[Pn.kids]at hc
  rcases xW hc with h1|h1
  ·exact h.2.2.2.2 c h1
  ·rw[h1];exact ih
end Go.Av
namespace Go.Proofs.YtjdfjgmebalaaaaGreat.P
open Go Go.Av
set_option maxRecDepth 4000
set_option maxHeartbeats 4000000
theorem JD {p q:Pn} (hq:q.thin):aI C0 103 [.i (.agg p.cells), .i (.isl []), .i (.agg q.cells)] []=some (.i (.agg q.cells),[]):=by
 have h:=sG q hq;rw[aD rfl Tryz.func103 rfl rfl];rw[Pn.aA p,Pn.aA q]at *
 by_cases he:q.exprs=[]
 ·by_cases hk:q.kids=[]
  ·simp[pcX,pcS,hk,he,Pn.aB,Ex.aB]at h;simp[h,hk,he,Pn.aB,Ex.aB]
  ·have hkl:q.kids.length≠0:=fun h=>hk (zX.1 h)
   simp[pcX,pcS,hk,he,aN hkl,aL hkl,Ex.aB]at h;simp[h,he,Ex.aB]
 ·have hel:q.exprs.length≠0:=fun h=>he (zX.1 h)
  by_cases hk:q.kids=[]
  ·simp[pcX,pcS,hk,he,aN hel,aL hel,Pn.aB]at h;simp[h,hk,Pn.aB]
  ·have hkl:q.kids.length≠0:=fun h=>hk (zX.1 h)
   simp[pcX,pcS,hk,he,aN hel,aL hel,aN hkl,aL hkl]at h;simp[h]
theorem wJ {q:Pn} (hq:q.thin):∀ (path:List Int) (p a:Pn),p.thin→path.length<1000000→Pn.at path p=some a→aI C0 103 [.i (.agg p.cells), .i (.isl (aF path)), .i (.agg q.cells)] []=some (.i (.agg (Pn.put path p q).cells),[])
 | [],p,a,hp,hl,ha=>by simpa [aF,Pn.put]using JD (p:=p) hq
 | x::r,p,a,hp,hl,ha=>by
  obtain⟨n,rfl,b,hb,hr⟩:=Pn.oD ha;have hrl:r.length<1000000:=by simp at hl;omega
  have ih:=wJ hq r b a (((Pn.bC p).1 hp).2.2.2.2 b (zV hb)) hrl hr;have h:=sG p hp;have hk:p.kids≠[]:=fun h=>by rw[h]at hb;simp at hb
  have hkl:p.kids.length≠0:=fun h=>hk (zX.1 h)
  have hn:=(zZ.1 hb).1;have r4:=Pn.aJ hb;rw[Pn.AP q hb,aD rfl Tryz.func103 rfl rfl];generalize Pn.put r b q=z at *
  have hs:=Pn.qN p.kids n z;have hsl:(p.kids.set n z).length=p.kids.length:=by simp
  have hsn:p.kids.set n z≠[]:=fun h=>by rw[h]at hsl;simp at hsl;exact hkl hsl.symm
  have ht:(Pn.aB (p.kids.set n z)).take p.kids.length=Pn.aB (p.kids.set n z):=zW (by simp);have hlen1:(r.length:Int)+1≠0:=by omega
  have hone:(1:Int)≤(r.length:Int)+1:=by omega
  rw[Pn.aA p,Pn.aA q]at *
  rw[Pn.aA b,Pn.aA z]at *
  have htr:List.take r.length (aF r)=aF r:=zW (by simp);by_cases he:p.exprs=[]
  ·simp[pcX,pcS,hk,he,aN hkl,aL hkl,Ex.aB]at h;simp[h,he,Ex.aB,aF,Pn.cells,hn,hlen1,hone,r4,ih,hs,ht,htr]
  ·have hel:p.exprs.length≠0:=fun h=>he (zX.1 h)
   simp[pcX,pcS,hk,he,aN hel,aL hel,aN hkl,aL hkl]at h;simp[h,aF,Pn.cells,hn,hlen1,hone,r4,ih,hs,ht,htr]
theorem O5 {ws:List Int} (hw:jI ws=true) {p:Pn} (hp:p.wd ws 8≠0) (r:Int) {path:List Int} (hl:path.length<1000000):aI C0 65 [.i (.agg p.cells), .i (.isl (aF ws)), .i (.agg [.int r, .isl (aF path)])] []=some (.tup [.i (.agg (V4 (apS ws r path p)).cells), .bool (apS ws r path p).isSome],[]):=by
 have ht:=cB p 8 hp;have c1:=YC ht hl;unfold apS
 cases ha:Pn.at path p with
 | none =>
  rw[ha]at c1;rw[aD rfl Tryz.func65 rfl rfl];simp only[Option.getD,Option.isSome,Option.bind,V4,aR,Pn.aA p]at c1 ⊢;simp[c1]
 | some a =>
  rw[ha]at c1
  have ha8:a.wd ws 8≠0:=by
   obtain⟨h1,h2⟩:=O3 path p 8 a hp ha;rw[Pn.gN a _ 8 h2 (by omega)];exact h2
  have hat:=cB a 8 ha8;have c2:=AK9 hw ha8 r;unfold SRw at c2
  cases hq:rwP ws r a with
  | none =>
   rw[hq]at c2;rw[aD rfl Tryz.func65 rfl rfl];simp only[hq,Option.getD,Option.isSome,Option.bind,V4,aR,Pn.aA p,Pn.aA a]at c1 c2 ⊢;simp[c1,c2]
  | some q =>
   rw[hq]at c2;have hqt:=AC4 (iR hw) hat hq;have c3:=wJ hqt path p a ht hl ha;have hzt:=RF hqt path p a ht ha;have c4:=BS hw hzt;have hv:((some a).bind fun a=>(rwP ws r a).bind fun q=>if(Pn.put path p q).wd ws 8≠0 then some (Pn.put path p q)else none)=if(Pn.put path p q).wd ws 8≠0 then some (Pn.put path p q)else none:=by simp[hq]
   rw[hv];generalize Pn.put path p q=z at *
   rw[aD rfl Tryz.func65 rfl rfl];by_cases hz:z.wd ws 8=0
   ·rw[hz]at c4;simp only[hq,hz,ne_eq,not_true_eq_false,if_false,Option.getD,Option.isSome,Option.bind,V4,aR,Pn.aA p,Pn.aA a,Pn.aA q,Pn.aA z]at c1 c2 c3 c4 ⊢;simp[c1,c2,c3,c4]
   ·simp only[hq,hz,ne_eq,not_false_eq_true,if_true,Option.getD,Option.isSome,Option.bind,V4,Pn.aA p,Pn.aA a,Pn.aA q,Pn.aA z]at c1 c2 c3 c4 ⊢;simp[c1,c2,c3,c4,hz]
end Go.Proofs.YtjdfjgmebalaaaaGreat.P
namespace Go.Av
def atV:Option Pn→AV
 | some a=>.i (.iref a.cells)
 | none=>.i (.lit (.pointer none))
def atI (path:List Int) (p:Pn):Option Pn:=if path.length≤8 then Pn.at path p else none
end Go.Av
namespace Go.Proofs.YtjdfjgmebalaaaaGreat.P
open Go Go.Av
set_option maxRecDepth 4000
set_option maxHeartbeats 4000000
def AIX (p:Pn) (path:List Int) (i:Nat):AS :=
 { env:=[(0, .i (.iref ((Pn.at (path.take i) p).getD Pn.zero).cells)),(1, .i (.isl (aF path))),(4, .i (.lit (.pointer none))),(6,jk i (.int ((path[i-1]?).getD 0))),(9, .bool false),(10, .i (.isl (aF path))),(11, .int path.length),(12, .int i),(13,jk i (.bool true)),(26,jk i (.bool false))],st:=[] }
theorem AF8 (p:Pn) (path:List Int):aI C0 69 [.i (.iref p.cells), .i (.isl (aF path))] []=some (atV (atI path p),[]):=by
 rw[aD rfl Tryz.func69 rfl rfl];by_cases hl:path.length≤8
 ·have hl':¬ (8:Int)<path.length:=by omega
  obtain⟨j,h1,h2⟩:=AAI path p;simp[hl',atI,hl];rw[aO (AIX p path) j (by simp[AIX,Pn.at])]
  ·rw[aG]
   rcases h2 with ⟨a,rfl,ha⟩|⟨x,a,q1,q2,q3,q4⟩
   ·simp[AIX,ha,atV]
   ·have hj:=(zZ.1 q1).1;have r1:=aW q1
    have hx:x<0∨(0≤x∧(a.kids.length:Int)≤x):=by
     by_cases h:x<0
     ·exact .inl h
     ·have:=q3 (by omega);simp at this;exact .inr ⟨by omega,by omega⟩
    simp only[AIX,q2,yO,q4,atV];rw[Pn.aA a]
    rcases hx with h|⟨h,h'⟩
    ·simp[hj,r1,h]
    ·have hn:¬ x<0:=by omega
     simp[hj,r1,hn,h']
  ·intro i hi;obtain⟨x,a,b,q1,q2,q3,q4,q5⟩:=h1 i hi;obtain⟨hj,qx⟩:=zZ.1 q1;have r1:=aW q1;have hk:=(zZ.1 q4).1;have r2:=Pn.aJ q4;obtain⟨n,rfl⟩:=zB q3;simp only[Int.ofNat_eq_natCast,Int.toNat_natCast]at *
   have w2:IntKind.i64.wrap ((i:Int)+1)=i+1:=wrO;have n1:¬ (n:Int)<0:=by omega
   have n2:¬ a.kids.length≤n:=by omega
   simp only[AIX,q2,q5,yO];rw[Pn.aA a,Pn.aA b]at *
   simp[hj,r1,n1,n2,hk,r2,w2,q1,qx]
 ·have hl':(8:Int)<path.length:=by omega
  simp[hl',atI,hl,atV]
theorem VW {p:Pn} {ws:List Int} {r:Int} {path:List Int} (h:p.width ws=0∨apI ws r path p=none):aI C0 26 [.i (.agg p.cells), .i (.isl (aF ws)), .i (.agg [.int r, .isl (aF path)])] []=some (.tup [.i (.agg Pn.zero.cells), .bool false],[]):=by
 have c1:=lN p ws;have c2:=AF8 p path;rw[aD rfl Tryz.func26 rfl rfl];by_cases h0:p.width ws=0
 ·rw[Pn.aA p]at c1 ⊢;simp[c1,h0,Pn.zero,Pn.cells,Ex.aB,aF,Pn.aB]
 ·obtain⟨hw,hp8,hv⟩:=uU h0;have hn:=h.resolve_left h0;unfold apI at hn
  cases ha:atI path p with
  | none =>
   rw[ha]at c2;rw[Pn.aA p]at c1 c2 ⊢;simp[atV]at c2;simp[c1,h0,c2,Pn.zero,Pn.cells,Ex.aB,aF,Pn.aB]
  | some a =>
   rw[ha]at c2;unfold atI at ha;split at ha
   ·rename_i hl;rw[if_pos hl,ha]at hn;simp only[yU]at hn;obtain⟨-,hav⟩:=O3 path p 8 a hp8 ha;have ha8:a.wd ws 8≠0:=by rw[Pn.gN a _ 8 hav (by omega)];exact hav
    have c3:=wH hw ha8 r (lv:=8-path.length) (by omega)
    have hr:rwL ws r (8-path.length) a=none:=by
     cases hq:rwL ws r (8-path.length) a with
     | none=>rfl
     | some q=>rw[hq]at hn;cases hn
    rw[hr]at c3;have w1:IntKind.i64.wrap (8-(path.length:Int))=((8-path.length:Nat):Int):=by rw[wrO];omega
    simp only[atV]at c2;rw[Pn.aA p]at c1 c2 ⊢;rw[Pn.aA a]at c2 c3;simp[V4,Pn.zero,Pn.cells,Ex.aB,aF,Pn.aB]at c3;simp[c1,h0,c2,w1,c3,Pn.zero,Pn.cells,Ex.aB,aF,Pn.aB]
   ·cases ha
end Go.Proofs.YtjdfjgmebalaaaaGreat.P
namespace Go.Proofs.YtjdfjgmebalaaaaGreat
open Go Go.Av
theorem ME {g:FuncId} {q:List AV→StL→Option (AV×StL)} (h:C0.prim g=some q):(g=92∧q=EM)∨(g=59∧q=NK):=by
 have h:AGR g=some q:=h;unfold AGR at h;split at h
 ·injection h with h;exact .inl ⟨rfl,h.symm⟩
 ·injection h with h;exact .inr ⟨rfl,h.symm⟩
 ·cases h
theorem AOI:PrimOk C0:=by
 constructor
 ·intro g args st p h;unfold bM at h
  cases hq:C0.prim g with
  | none=>rw[hq]at h;cases h
  | some q =>
   rcases ME hq with ⟨rfl,rfl⟩|⟨rfl,rfl⟩
   ·exact⟨Tryz.f92,Tryz.func92,by decide,rfl⟩
   ·exact⟨Tryz.f59,Tryz.func59,by decide,rfl⟩
 ·intro g args stl r stl' h w m φ vs hi hr h0;unfold bM at h
  cases hq:C0.prim g with
  | none=>rw[hq]at h;cases h
  | some q =>
   rcases ME hq with ⟨rfl,rfl⟩|⟨rfl,rfl⟩
   ·rw[hq]at h;obtain⟨e,he,hres,hor⟩:=IG h;injection hres with h1 h2;subst h1;subst h2
    rcases hor with ⟨rfl,rfl⟩|⟨j,es,rfl,rfl,hes⟩
    ·exact wX he hi hr h0
    ·exact IJ he hes hi hr h0
   ·rw[hq]at h;obtain⟨p,⟨k1,k2,k3⟩,rfl,rfl,hres⟩:=VF h;injection hres with h1 h2;subst h1;subst h2;exact G.K3 k1 k2 k3 hi hr h0
theorem fG:SoundOk C0:=lH (C:=C0) ft nt eqS mo AOI
end Go.Proofs.YtjdfjgmebalaaaaGreat
namespace Go.Av
section
variable {wi:World} {mi:Mem} {nt:Nat}
theorem GR.AHP {ok:Nat→Prop} {env:Nat→AV} {st:Store} {a:Act} {w:World} {d:Nat} {m1:Mem} {φ:Pl} {p:Pn} (hd:d<nt) (hi:Inv w m1 φ st) (henv:∀ t,Rep m1 φ (env t) (a.tmps.getD t undef)) (hadv:Adv wi mi (fun _=>none) w m1 φ) (hok:∀ id,φ id≠none→ok id) (hsz:nt≤a.tmps.size) (hdf:a.defers=[])
 {e:Ending} {w':World} (h:KH w m1 p e w'):∃ y,e=.returned y∧∃ v0 v1 v2 v3 v4 F,GR wi mi nt ok (CPY w p F v0 v1 v2 v3 v4) (upd env d (.i (.agg [.lit v0, .lit v1, .lit v2, .lit v3, .lit v4]))) st (a.put (some d) y) w':=by
 obtain⟨v0,v1,v2,v3,v4,F,m2,rfl,hone,hm2,ha,hc⟩:=h;obtain⟨i2,a2⟩:=hi.ALR ha hm2;refine⟨_,rfl,v0,v1,v2,v3,v4,F,⟨m2,φ,i2,uB (dst:=some d) (fun t=>(henv t).mono a2.mle a2.ple) hsz (by simpa [VD]using hd) (.i (.agg ?_)),hadv.trans a2,hok,?_⟩,by rw[uA];exact hsz,by rw[kS];exact hdf⟩
 ·exact .cons (.lit _) (hone _ (by simp)) (.cons (.lit _) (hone _ (by simp)) (.cons (.lit _) (hone _ (by simp)) (.cons (.lit _) (hone _ (by simp)) (.cons (.lit _) (hone _ (by simp)) .nil))))
 ·refine⟨hc.th,hc.cells,hc.nd,fun f hf=>?_⟩;obtain⟨k1,k2,k3,k4,k5⟩:=hc.all f hf;refine⟨k1,k2,fun id b n e ho=>?_,k4,k5⟩;have:=hi.low id b n f e ho;omega
theorem GR.AD5 {ok:Nat→Prop} {env:Nat→AV} {st:Store} {a:Act} {w:World} {d:Nat} {m:Mem} {φ:Pl} {p y:Pn} {root:Nat} {F:List Nat} {path:List Int} (hd:d<nt) (hi:Inv w m φ st) (henv:∀ t,Rep m φ (env t) (a.tmps.getD t undef)) (hadv:Adv wi mi (fun _=>none) w m φ) (hok:∀ id,φ id≠none→ok id) (hsz:nt≤a.tmps.size) (hdf:a.defers=[]) (hr:RAW wi root p F [] w m φ)
 {e:Ending} {w':World} (h:∃ bq oq Fa Fy Fz m',e=.returned (.pointer (some ⟨bq,oq,none⟩))∧AtP w m p root 0 F path y bq oq Fa Fy Fz∧lD w' m'∧Adv w (dA w) (fun _=>none) w' m' (fun _=>none)) :
 ∃ v,e=.returned v∧∃ bq oq Fa Fy Fz,GR wi mi nt ok (RAT wi root p F path y bq oq Fa Fy Fz) (upd env d (.i (.lit (.pointer (some ⟨bq,oq,none⟩))))) st (a.put (some d) v) w':=by
 obtain⟨bq,oq,Fa,Fy,Fz,m',rfl,hat,hm,ha⟩:=h;have hsame:∀ f,f<w.heap.size→w'.heap[f]?=w.heap[f]?:=fun f hf=>ha.block f hf fun id b n e=>by cases e
 have i2:=hi.later ha.size hsame
 have a2:Adv w m φ w' m φ:=⟨ha.size,ha.os,ha.tape,ha.output,fun b hb' _=>hsame b hb', .refl _,fun _ _ _ _=>rfl, .refl _,fun _ _ _ _ e ho=>.inr (jN.not e ho)⟩
 exact⟨_,rfl,bq,oq,Fa,Fy,Fz,⟨m,φ,i2,uB (dst:=some d) henv hsz (by simpa [VD]using hd) (.i (.lit _)),hadv.trans a2,hok,RAT.KN _ _ _ _ _ _ _ _ _ _ _ _ _ _ _ _ _ a2 ⟨hr,hat⟩⟩,by rw[uA];exact hsz,by rw[kS];exact hdf⟩
end
end Go.Av
namespace Go.Proofs.YtjdfjgmebalaaaaGreat.P
open Go Go.Av G
theorem AVT:Tryz.f59.name≠ "runtime.NumGoroutine":=by decide
theorem AVV:Tryz.f59.body.isSome=true:=rfl
theorem hb48:Tryz.f69.body.isSome=true:=rfl
theorem AVU:Tryz.f69.name≠ "runtime.NumGoroutine":=by decide
set_option maxRecDepth 4000
set_option maxHeartbeats 8000000
theorem AMZ {α:Type} (f:Nat→α) (a:Nat) (x y:α):upd (upd f a x) a y=upd f a y:=by funext i;simp only[upd];split<;>rfl
def TEV (p:Pn) (ws:List Int) (r:Int) (path:List Int) (v3 v5 v6 v7 v8 v9 v10 v11 v15 v21 v36:AV):List (Nat×AV):=[(0, .i (.agg p.cells)),(1, .i (.isl (aF ws))),(2, .i (.agg [.int r, .isl (aF path)])),(3,v3),(5,v5),(6,v6),(7,v7),(8,v8),(9,v9),(10,v10),(11,v11),(15,v15),(21,v21),(36,v36)]
def bxP (p:Pn):Option Blk:=some (.box (jR p.cells))
def bxS (r:Int) (path:List Int):Option Blk:=some (.box [.i (.int r), .i (.isl (aF path))])
theorem VV {p:Pn} {ws:List Int} {r:Int} {path:List Int} {q:Pn} (h0:p.width ws≠0) (hq:apI ws r path p=some q) {wi:World} {mi:Mem} {vs:List Value} (hi:Inv wi mi (fun _=>none) (bD [])) (hr:RepL mi (fun _=>none) [.i (.agg p.cells), .i (.isl (aF ws)), .i (.agg [.int r, .isl (aF path)])] vs) :
 Calls Tryz.prog 26 vs.toArray wi (bR wi mi (fun _=>none) (.tup [.i (.agg q.cells), .bool true]) []):=by
 obtain⟨hw,hp8,hv⟩:=uU h0;have hws:=iR hw;unfold apI at hq;split at hq
 rotate_left
 ·cases hq
 rename_i hl
 cases ha:Pn.at path p with
 | none=>rw[ha]at hq;cases hq
 | some a =>
 rw[ha]at hq;simp only[yU]at hq;obtain⟨-,hav⟩:=O3 path p 8 a hp8 ha;have ha8:a.wd ws 8≠0:=by rw[Pn.gN a _ 8 hav (by omega)];exact hav
 cases hx:rwL ws r (8-path.length) a with
 | none=>rw[hx]at hq;cases hq
 | some x =>
 rw[hx]at hq;simp only[xD,Option.some.injEq]at hq;subst hq
 have hxw:x.wd ws (8-path.length)≠0:=by
  unfold rwL at hx
  cases hy:rwP ws r a with
  | none=>rw[hy]at hx;cases hx
  | some y =>
   rw[hy]at hx;simp only[yU]at hx;split at hx
   ·injection hx with hx;subst hx;assumption
   ·cases hx
 have hx8:x.wd ws 8≠0:=by rw[Pn.gN x _ 8 hxw (by omega)];exact hxw
 have hxs:x.small:=⟨by have:=(Pn.KY x 8 hx8).2;omega,cB x 8 hx8,(Pn.KY x 8 hx8).1⟩
 have hps:p.small:=⟨by have:=(Pn.KY p 8 hp8).2;omega,cB p 8 hp8,(Pn.KY p 8 hp8).1⟩
 have c1:=lN p ws;have c2:=AF8 p path;simp only[atI,hl,if_true,ha,atV]at c2;have c3:=wH hw ha8 r (lv:=8-path.length) (by omega);rw[hx]at c3;simp only[V4,yO,Option.isSome_some]at c3
 have c4:aI C0 59 [.i (.iref x.cells)] []=some (.i (.agg x.cells),[]):=by
  rw[bH (p:=NK) rfl];exact SK hxs
 have w1:IntKind.i64.wrap (8-(path.length:Int))=((8-path.length:Nat):Int):=by rw[wrO];omega
 refine calls_of_wp (fn:=Tryz.f26) Tryz.func26 rfl ?_;have hv1:vs.length=3:=by simpa using hr.length.symm
 have g0:GR wi mi 45 (fun id=>id<({ env:=[(0, .i (.agg p.cells)),(1, .i (.isl (aF ws))),(2, .i (.agg [.int r, .isl (aF path)]))],st:=[] }:AS).st.length) (fun _ _ _=>True) (aT [(0, .i (.agg p.cells)),(1, .i (.isl (aF ws))),(2, .i (.agg [.int r, .isl (aF path)]))]) (bD []) { tmps:=vs.toArray++Array.replicate (45-vs.toArray.size) undef,defers:=[] } wi:=by
  refine⟨⟨mi,fun _=>none,hi,?_, .refl _ _ _,fun id h=>absurd rfl h,trivial⟩,by simp;omega,rfl⟩;intro t;have:=kZ (m:=mi) (φ:=fun _=>none) (45-vs.toArray.size) hr t
  rcases t with _|_|_|t
  ·simpa [aT,qW]using this
  ·simpa [aT,qW]using this
  ·simpa [aT,qW]using this
  ·simp only[aT];simp;exact .junk _
 refine wp_seq (wp_mono (GR.fC fG (G:=GS 26) (S:={ env:=[(0, .i (.agg p.cells)),(1, .i (.isl (aF ws))),(2, .i (.agg [.int r, .isl (aF path)]))],st:=[] }) (e:=.normal) (S':={ env:=TEV p ws r path (.own 0 0) (.own 1 0) (.own 2 0) (.bool false) .junk .junk .junk .junk .junk .junk .junk,st:=[bxP p,bxS r path,some (.box zp)] }) kP (by kernel_rfl) (by
  rw[Pn.aA p]at *
  simp[TEV,bxP,bxS,zp,Pn.aA p]) g0) ?_)
 rintro _ a1 w1' ⟨rfl,g1⟩
 refine wp_seq (wp_mono (GR.fC fG (G:=GS 26) (S:={ env:=TEV p ws r path (.own 0 0) (.own 1 0) (.own 2 0) (.bool false) .junk .junk .junk .junk .junk .junk .junk,st:=[bxP p,bxS r path,some (.box zp)] }) (e:=.normal) (S':={ env:=TEV p ws r path (.own 0 0) (.own 1 0) (.own 2 0) (.bool false) .junk .junk .junk .junk (.bool false) .junk .junk,st:=[bxP p,bxS r path,some (.box zp)] }) kP (by kernel_rfl) (by
  simp only[TEV,bxP,bxS];rw[Pn.aA p]at *
  simp[zp,c1,h0]) g1) ?_)
 rintro _ a2 w2' ⟨rfl,g2⟩
 refine wp_seq (wp_mono (GR.fC fG (G:=GS 26) (S:={ env:=TEV p ws r path (.own 0 0) (.own 1 0) (.own 2 0) (.bool false) .junk .junk .junk .junk (.bool false) .junk .junk,st:=[bxP p,bxS r path,some (.box zp)] }) (e:=.normal) (S':={ env:=TEV p ws r path (.own 0 0) (.own 1 0) (.own 2 0) (.bool false) (.i (.iref a.cells)) .junk .junk .junk (.bool false) .junk .junk,st:=[some (.fbox p.cells),bxS r path,some (.box zp)] }) kP (by kernel_rfl) (by
  simp only[TEV,bxP,bxS];rw[Pn.aA p,Pn.aA a]at *
  simp[zp,c2]) g2) ?_)
 rintro _ a3 w3' ⟨rfl,g3⟩
 refine wp_seq (wp_mono (GR.fC fG (G:=GS 26) (S:={ env:=TEV p ws r path (.own 0 0) (.own 1 0) (.own 2 0) (.bool false) (.i (.iref a.cells)) .junk .junk .junk (.bool false) .junk .junk,st:=[some (.fbox p.cells),bxS r path,some (.box zp)] }) (e:=.normal) (S':={ env:=TEV p ws r path (.own 0 0) (.own 1 0) (.own 2 0) (.bool false) (.i (.iref a.cells)) .junk .junk .junk (.bool false) (.bool false) .junk,st:=[some (.fbox p.cells),bxS r path,some (.box zp)] }) kP (by kernel_rfl) (by
  simp only[TEV,bxP,bxS]
  simp[zp]) g3) ?_)
 rintro _ a4 w4' ⟨rfl,g4⟩
 refine wp_seq (wp_mono (GR.fC fG (G:=GS 26) (S:={ env:=TEV p ws r path (.own 0 0) (.own 1 0) (.own 2 0) (.bool false) (.i (.iref a.cells)) .junk .junk .junk (.bool false) (.bool false) .junk,st:=[some (.fbox p.cells),bxS r path,some (.box zp)] }) (e:=.normal) (S':={ env:=TEV p ws r path (.own 0 0) (.own 1 0) (.own 2 0) (.bool false) (.i (.iref a.cells)) (.own 3 0) (.bool true) .junk (.bool false) (.bool false) .junk,st:=[some (.fbox p.cells),bxS r path,some (.box zp),bxP x] }) kP (by kernel_rfl) (by
  simp only[TEV,bxP,bxS];rw[Pn.aA a,Pn.aA x]at *
  simp[zp,w1,c3]) g4) ?_)
 rintro _ a5 w5' ⟨rfl,g5⟩
 refine wp_seq (wp_mono (GR.fC fG (G:=GS 26) (S:={ env:=TEV p ws r path (.own 0 0) (.own 1 0) (.own 2 0) (.bool false) (.i (.iref a.cells)) (.own 3 0) (.bool true) .junk (.bool false) (.bool false) .junk,st:=[some (.fbox p.cells),bxS r path,some (.box zp),bxP x] }) (e:=.normal) (S':={ env:=TEV p ws r path (.own 0 0) (.own 1 0) (.own 2 0) (.bool false) (.i (.iref a.cells)) (.own 3 0) (.bool true) .junk (.bool false) (.bool false) (.bool false),st:=[some (.fbox p.cells),bxS r path,some (.box zp),bxP x] }) kP (by kernel_rfl) (by
  simp only[TEV,bxP,bxS]
  simp[zp,Pn.aA x]) g5) ?_)
 rintro _ a6 w6 ⟨rfl,g6⟩;clear g0 g1 g2 g3 g4 g5;have hst6:(6:Nat)<45:=by omega
 refine wp_seq (qE ?_);show wpOpsIn (FR none) 0 Tryz.prog _ _ (List.range 3) a6 w6;rw[show List.range 3=0::(List.range' 1 2++[])from rfl,wpOpsIn_cons];obtain⟨⟨m6,φ6,i6,henv6,adv6,ok6,-⟩,sz6,df6⟩:=g6;obtain⟨m7,rp7,i7,adv7⟩:=qB i6 (henv6 3) (show gD (bD [some (.fbox p.cells),bxS r path,some (.box zp),bxP x]) (.own 0 0)=some (.i (.iref p.cells),bD [some (.fbox p.cells),bxS r path,some (.box zp),bxP x])by simp[gD,oL,frz,rX,wV,bD,bnd,tst,gB]);have rp7':RepL m7 (fun _=>none) [.i (.iref p.cells)] [a6.tmps.getD 3 undef]:=.cons (by cases rp7 with|i k=>exact .i k) .nil
 have i7':Inv w6 m7 (fun _=>none) (bD []):=⟨i7.mem,fun id blk e=>by simp[bD]at e,fun _ _ _ _ _ _ _ _ _ e=>by simp[bD]at e,fun _ _ _ _ e=>by cases e⟩
 refine FO (P:=Tryz.prog) (fn:=Tryz.f59) (d:=38) (g:=59) (args:=#[.tmp 3]) rfl rfl rfl rfl Tryz.func59 AVT AVV (vs:=[a6.tmps.getD 3 undef]) rfl ((pU hps.1 hps.2.1 hps.2.2 i7' rp7').mono fun e w7 hraw=>?_);obtain⟨y,rfl,v0,v1,v2,v3,v4,F,g7⟩:=GR.AHP (nt:=45) (d:=38) (by omega) i7 (fun t=>(henv6 t).mono adv7.mle adv7.ple) (adv6.trans adv7) ok6 sz6 df6 hraw;refine⟨y,rfl,?_⟩;have hsz6:wi.heap.size≤w6.heap.size:=adv6.size;generalize hE8:TEV p ws r path (.own 0 0) (.own 1 0) (.own 2 0) (.bool false) (.i (.iref a.cells)) (.own 3 0) (.bool true) .junk (.bool false) (.bool false) (.bool false)=E8 at g7;refine GR.AN7 fG (CPY.KN _ _ _ _ _ _ _ _) 1 2 rfl ?_ (base:=4) (R0:={ env:=upd (aT E8) 38 (.i (.agg [.lit v0, .lit v1, .lit v2, .lit v3, .lit v4])),st:=bD [some (.fbox p.cells),bxS r path,some (.box zp),bxP x],log:=[] }) (R1:={ env:=upd (upd (aT E8) 38 (.i (.agg [.lit v0, .lit v1, .lit v2, .lit v3, .lit v4]))) 11 (.own 12 0),st:=upd (bD [some (.fbox p.cells),bxS r path,some (.box zp),bxP x]) 12 (some (.box (bX [v0,v1,v2,v3,v4]))),log:=[] }) ?_ (g7.ok' fun id h=>.inl (by simpa using h)) fun a8 w8 g8=>?_
 ·kernel_rfl
 ·simp[bX,zp,AMZ]
 obtain⟨b3,g9⟩:=g8.AR2 (u:=11) (id:=12) (st':=bD [some (.fbox p.cells),bxS r path,some (.box zp),bxP x]) hsz6 rfl rfl (by
  intro i blk h
  rcases i with _|_|_|_|i
  ·simp[bD]at h;subst h;simp[upd,bD,iZ]
  ·simp[bD,bxS]at h;subst h;simp[upd,bD,iZ,bxS]
  ·simp[bD]at h;subst h;simp[upd,bD,iZ,zp]
  ·simp[bD,bxP]at h;subst h;simp[upd,bD,iZ,bxP,Pn.aA x,jR]
  ·simp[bD]at h)
 have g9:=(g9 (aT [(5, .own 1 0),(6, .own 2 0),(9, .own 3 0),(11, .i (.lit (.pointer (some ⟨b3,0,none⟩))))]) (by
  subst hE8;intro t;simp only[aT];by_cases h5:t=5
  ·subst h5;exact .inr (.inr ⟨by simp[upd,TEV,aT],by simp[upd,TEV,aT,lX,bD,bxS]⟩)
  by_cases h6:t=6
  ·subst h6;exact .inr (.inr ⟨by simp[upd,TEV,aT],by simp[upd,TEV,aT,lX,bD]⟩)
  by_cases h9:t=9
  ·subst h9;exact .inr (.inr ⟨by simp[upd,TEV,aT],by simp[upd,TEV,aT,lX,bD,bxP]⟩)
  by_cases h11:t=11
  ·subst h11;exact .inr (.inl ⟨rfl,rfl⟩)
  simp[h5,h6,h9,h11])).ok' (ok':=fun id=>F6 4 (fun j=>j<0) id) (by
  intro i h;refine .inl ?_
  rcases i with _|_|_|_|i
  all_goals first|omega|(simp[bD]at h))
 clear g7 g8;refine wp_seq (qE ?_);show wpOpsIn (FR none) 0 Tryz.prog _ _ (List.range 6) a8 w8;rw[show List.range 6=List.range' 0 2++(2::(List.range' 3 2++(List.range' 5 1++[])))from rfl];generalize hE9:aT [(5, .own 1 0),(6, .own 2 0),(9, .own 3 0),(11, .i (.lit (.pointer (some ⟨b3,0,none⟩))))]=E9 at g9;refine GR.AN7 fG (RAW.KN _ _ _ _ _) 0 2 rfl ?_ (base:=4) (R0:={ env:=E9,st:=bD [some (.fbox p.cells),bxS r path,some (.box zp),bxP x],log:=[] }) (R1:={ env:=upd (upd E9 39 (.own 1 1)) 40 (.i (.isl (aF path))),st:=bD [some (.fbox p.cells),bxS r path,some (.box zp),bxP x],log:=[] }) ?_ g9 fun a9 w9 g10=>?_
 ·kernel_rfl
 ·subst hE9;simp[zp,bxS,AMZ]
 clear g9;rw[wpOpsIn_cons];obtain⟨⟨m10,φ10,i10,henv10,adv10,ok10,r10⟩,APS,df10⟩:=g10;have hv11:=henv10 11;have hv40:=henv10 40;simp only[show upd (upd E9 39 (.own 1 1)) 40 (.i (.isl (aF path))) 11=.i (.lit (.pointer (some ⟨b3,0,none⟩)))from by subst hE9;rfl]at hv11;simp only[show upd (upd E9 39 (.own 1 1)) 40 (.i (.isl (aF path))) 40=.i (.isl (aF path))from rfl]at hv40;have hmm:MLe m10 (dA w9):=i10.mem;refine FO (P:=Tryz.prog) (fn:=Tryz.f69) (d:=41) (g:=69) (args:=#[.tmp 11, .tmp 40]) rfl rfl rfl rfl Tryz.func69 AVU hb48 (vs:=[a9.tmps.getD 11 undef,a9.tmps.getD 40 undef]) rfl ((AE1 r10.th r10.nr r10.nd ha hl (vs:=[a9.tmps.getD 11 undef,a9.tmps.getD 40 undef]) (.cons (by cases hv11 with|i k=>exact .i (k.mono hmm)) (.cons (by cases hv40 with|i k=>exact .i (k.mono hmm)) .nil))).mono fun e w10 hplace=>?_);obtain⟨y2,rfl,bq,oq,Fa,Fy,Fz,g11⟩:=GR.AD5 (nt:=45) (d:=41) (by omega) i10 henv10 adv10 ok10 APS df10 r10 hplace;refine⟨y2,rfl,?_⟩;refine GR.AN7 fG (RAT.KN _ _ _ _ _ _ _ _ _ _ _) 3 2 rfl ?_ (base:=4) (R0:={ env:=upd (upd (upd E9 39 (.own 1 1)) 40 (.i (.isl (aF path)))) 41 (.i (.lit (.pointer (some ⟨bq,oq,none⟩)))),st:=bD [some (.fbox p.cells),bxS r path,some (.box zp),bxP x],log:=[] }) (R1:={ env:=upd (upd (upd (upd (upd E9 39 (.own 1 1)) 40 (.i (.isl (aF path)))) 41 (.i (.lit (.pointer (some ⟨bq,oq,none⟩))))) 42 (.i (.agg x.cells))) 43 (.i (.lit (.pointer (some ⟨bq,oq,none⟩)))),st:=upd (bD [some (.fbox p.cells),bxS r path,some (.box zp),bxP x]) 3 (some (.fbox x.cells)),log:=[] }) ?_ (g11.ok' fun id h=>mO (fun j hj=>by omega) h) fun a10 w11 g12=>?_
 ·kernel_rfl
 ·subst hE9;rw[Pn.aA x]at c4;simp[zp,bxS,bxP,Pn.aA x,c4,AMZ]
 clear g11
 obtain⟨pre,row,post,ma,hrl,hpl,g13⟩:=g12.AML (u:=43) (k:=1) (st':=upd (fun _=>none) 2 (some (.box zp))) rfl (by
  intro i blk h;by_cases h2:i=2
  ·subst h2;simp[upd]at h;subst h;simp[upd,bD,iZ,zp]
  ·simp[upd,h2]at h) (by simp[upd])
 have g13:=(g13 (aT [(6, .own 2 0),(11, .i (.lit (.pointer (some ⟨b3,0,none⟩)))),(42, .i (.agg x.cells)),(43, .own 1 oq)]) (by
  subst hE9;intro t;simp only[aT];by_cases h6:t=6
  ·subst h6;exact .inr (.inr ⟨by simp[upd,aT],by simp[upd,aT,lX]⟩)
  by_cases h11:t=11
  ·subst h11;exact .inr (.inr ⟨by simp[upd,aT],by simp[upd,aT,lX]⟩)
  by_cases h42:t=42
  ·subst h42;exact .inr (.inr ⟨by simp[upd,aT],by simp[upd,aT,lX]⟩)
  by_cases h43:t=43
  ·subst h43;exact .inr (.inl ⟨rfl,rfl⟩)
  simp[h6,h11,h42,h43])).ok' (ok':=fun id=>F6 4 (fun j=>j<5) id) (by
  intro i h;refine .inl ?_
  rcases h with h|h
  ·by_cases h2:i=2
   ·omega
   ·simp[upd,h2]at h
  ·omega)
 clear g12;refine GR.AN7 fG (fun w m φ w' m' φ' ha h=>⟨ADK.KN _ _ _ _ _ _ _ _ _ _ _ _ _ _ _ _ _ _ _ _ ha h.1,h.2⟩) 5 1 rfl ?_ (base:=4) (R0:={ env:=aT [(6, .own 2 0),(11, .i (.lit (.pointer (some ⟨b3,0,none⟩)))),(42, .i (.agg x.cells)),(43, .own 1 oq)],st:=upd (upd (fun _=>none) 2 (some (.box zp))) 1 (some (.box (jD pre (bX row) post))),log:=[] }) (R1:={ env:=aT [(6, .own 2 0),(11, .i (.lit (.pointer (some ⟨b3,0,none⟩)))),(42, .i (.agg x.cells)),(43, .own 1 oq)],st:=upd (upd (upd (fun _=>none) 2 (some (.box zp))) 1 (some (.box (jD pre (bX row) post)))) 1 (some (.box (jD pre (jR x.cells) post))),log:=[] }) ?_ g13 fun a11 w12 g14=>?_
 ·kernel_rfl
 ·subst hpl
  have hsp:splice (jD pre (bX row) post) pre.length (jR x.cells)=some (jD pre (jR x.cells) post):=by
   have:=nI pre post (bX row) 0 (jR x.cells);rw[xQ]at this;rw[this]
   match row,hrl with
   | [r0,r1,r2,r3,r4],_=>rw[Pn.aA];simp[bX,jR,jD,splice,bnd]
  rw[Pn.aA x]at *
  simp at hsp;simp[hsp,AMZ]
 clear g13
 have g15:=g14.AOY (q:=x) hrl hpl rfl (st':=upd (fun _=>none) 2 (some (.box zp))) (env':=aT [(6, .own 2 0),(11, .i (.lit (.pointer (some ⟨b3,0,none⟩))))]) (by
  intro i blk h;by_cases h2:i=2
  ·subst h2;simp[upd]at h;subst h;simp[upd,iZ,zp]
  ·simp[upd,h2]at h) (by
  intro t;simp only[aT];by_cases h6:t=6
  ·subst h6;exact .inr ⟨by simp,by simp[lX,upd]⟩
  by_cases h11:t=11
  ·subst h11;exact .inr ⟨by simp,by simp[lX]⟩
  simp[h6,h11])
 clear g14
 have g16:=g15.AYC (u:=11) rfl (env':=aT [(6, .own 2 0),(11, .i (.iref (Pn.put path p x).cells))]) (by
  intro t;simp only[aT];by_cases h6:t=6
  ·subst h6;exact .inr (.inr (by simp))
  by_cases h11:t=11
  ·subst h11;exact .inr (.inl ⟨rfl,by simp⟩)
  simp[h6,h11])
 clear g15;generalize Pn.put path p x=q at *
 have g17:=g16.settle (fun _ _ _ _ h=>h) [6,11];have hset:Av.settle [6,11] 0 (aT [(6, .own 2 0),(11, .i (.iref q.cells))]) (upd (fun _=>none) 2 (some (.box zp)))={ env:=[(6, .own 0 0),(11, .i (.iref q.cells))],st:=[some (.box zp)] }:=by simp[zp,upd]
 rw[hset]at g17;clear g16
 refine wp_mono (GR.fC fG (G:=GS 26) (S:={ env:=[(6, .own 0 0),(11, .i (.iref q.cells))],st:=[some (.box zp)] }) (e:=.ret) (S':={ env:=[(0, .junk),(1, .junk),(2, .junk),(3, .junk),(5, .junk),(6, .own 0 0),(7, .bool true),(8, .junk),(9, .junk),(10, .junk),(11, .i (.iref q.cells)),(15, .junk),(21, .junk),(36, .junk)],st:=[bxP q] }) kP (by kernel_rfl) (by
  simp only[bxP];rw[Pn.aA q]
  simp[zp]) g17) ?_
 rintro _ a12 w13 ⟨rfl,g18⟩;obtain⟨⟨m,φ,q1,q2,q3,q4,q5⟩,q6,q7⟩:=g18
 obtain⟨v,k1,k2⟩:=fJ (C:=C0) (fn:=Tryz.f26) (keep:=false) (na:=0) (S:={ env:=[(0, .junk),(1, .junk),(2, .junk),(3, .junk),(5, .junk),(6, .own 0 0),(7, .bool true),(8, .junk),(9, .junk),(10, .junk),(11, .i (.iref q.cells)),(15, .junk),(21, .junk),(36, .junk)],st:=[bxP q] }) (r:=.tup [.i (.agg q.cells), .bool true]) (stl':=[]) (fun id h=>absurd rfl h) ⟨⟨⟨m,φ,q1,q2,q3,q4, .nil _ _ _⟩,q6,q7⟩,xJ _⟩ (by
  show finish C0 false [ResultVar.cell 6 34,ResultVar.tmp 7] 0 _=_;simp only[bxP];rw[Pn.aA q]
  simp)
 exact⟨q7,v,k1,k2⟩
end Go.Proofs.YtjdfjgmebalaaaaGreat.P
namespace Go.Proofs.YtjdfjgmebalaaaaGreat.P
open Go Go.Av
set_option maxRecDepth 4000
set_option maxHeartbeats 4000000
end Go.Proofs.YtjdfjgmebalaaaaGreat.P
namespace Go.Proofs.YtjdfjgmebalaaaaGreat
open Go Go.Av
set_option maxRecDepth 4000
noncomputable def YA:FuncId→Option (List AV→StL→Option (AV×StL))
 | 1000000007=>none
 | 182=>none
 | 159=>none
 | 104=>some (ACR (aI C0) 104)
 | 62=>some (AHR (aI C0) 62)
 | g=>some (aI C0 g)
def AB3:FuncId→Bool
 | 104=>true
 | g=>bU g
@[simp] theorem AOL (g:FuncId):AB3 g=if g=104 then true else bU g:=by
  unfold AB3;split
  ·rfl
  ·rename_i h;rw[if_neg h]
noncomputable def CP:Ctx:={ P:=Tryz.prog,G:=GS,ownArgs:=AB3,keepRes:=keepR,eqT:=JW,prim:=YA }
@[simp] theorem Ae5:CP.P=Tryz.prog:=(rfl)
@[simp] theorem Ae6 (f):CP.G f=GS f:=(rfl)
@[simp] theorem Ae2 (f):CP.ownArgs f=AB3 f:=(rfl)
@[simp] theorem Ae3 (f):CP.keepRes f=keepR f:=(rfl)
@[simp] theorem Ae4 (f):CP.eqT f=JW f:=(rfl)
@[simp] theorem Ae1:CP.tree=false:=(rfl)
theorem MF:PrimOk CP:=by
 have h0:=bF fG
 have key:∀ g q,CP.prim g=some q→g≠uS∧(q=aI C0 g∨q=ACR (aI C0) g∨q=AOZ (aI C0) g∨q=AHR (aI C0) g):=by
  intro g q h;have h:YA g=some q:=h;unfold YA at h;split at h
  all_goals first
   | (cases h;done)
   | (injection h with h;subst h;exact⟨by decide, .inr (.inl rfl)⟩)
   | (injection h with h;subst h;exact⟨by decide, .inr (.inr (.inl rfl))⟩)
   | (injection h with h;subst h;exact⟨by decide, .inr (.inr (.inr rfl))⟩)
   | (injection h with h;subst h;exact⟨by assumption, .inl rfl⟩)
 constructor
 ·intro g args st p h;unfold bM at h
  cases hq:CP.prim g with
  | none=>rw[hq]at h;cases h
  | some q =>
   rw[hq]at h;obtain⟨hy,hor⟩:=key g q hq
   rcases hor with rfl|rfl|rfl|rfl
   ·exact h0.name _ _ _ _ hy h
   ·exact(GN h0 (r:=p.1) (stl':=p.2) h hy).1
   ·exact(I6 h0 (r:=p.1) (stl':=p.2) h hy).1
   ·exact(I4 h0 (r:=p.1) (stl':=p.2) h hy).1
 ·intro g args st r st' h w m φ vs hi hr hb;unfold bM at h
  cases hq:CP.prim g with
  | none=>rw[hq]at h;cases h
  | some q =>
   rw[hq]at h;obtain⟨hy,hor⟩:=key g q hq
   rcases hor with rfl|rfl|rfl|rfl
   ·exact h0.calls _ _ _ _ _ hy h w m φ vs hi hr hb
   ·exact(GN h0 h hy).2 w m φ vs hi hr hb
   ·exact(I6 h0 h hy).2 w m φ vs hi hr hb
   ·exact(I4 h0 h hy).2 w m φ vs hi hr hb
theorem AKI:SoundOk CP:=lH (C:=CP) ft nt eqS mo MF
end Go.Proofs.YtjdfjgmebalaaaaGreat
namespace Go.Av
end Go.Av
namespace Go.Proofs.YtjdfjgmebalaaaaGreat.P
open Go Go.Av
set_option maxRecDepth 4000
set_option maxHeartbeats 4000000
theorem Q6 (p:Pn) (hp:p.thin):aI CP 62 [.i (.agg p.cells)] []=some (.i (.agg p.cells),[]):=by
 have h:=sG p hp;rw[bH (p:=AHR (aI C0) 62) rfl];unfold AHR;by_cases he:p.exprs=[]
 ·by_cases hk:p.kids=[]
  ·simp[pcX,pcS,hk,he,Pn.aB,Ex.aB]at h;simp[h];rw[Pn.aA];simp[hk,he,Pn.aB,Ex.aB]
  ·have hkl:p.kids.length≠0:=fun h=>hk (zX.1 h)
   simp[pcX,pcS,hk,he,aN hkl,aL hkl,Ex.aB]at h;simp[h];rw[Pn.aA];simp[hk,he,Ex.aB]
 ·have hel:p.exprs.length≠0:=fun h=>he (zX.1 h)
  by_cases hk:p.kids=[]
  ·simp[pcX,pcS,hk,he,aN hel,aL hel,Pn.aB]at h;simp[h];rw[Pn.aA];simp[hk,he,Pn.aB]
  ·have hkl:p.kids.length≠0:=fun h=>hk (zX.1 h)
   simp[pcX,pcS,hk,he,aN hel,aL hel,aN hkl,aL hkl]at h;simp[h];rw[Pn.aA]
noncomputable def Y9:FuncId→Option (List AV→StL→Option (AV×StL))
 | 182=>some (aI CP 182)
 | 167=>some (AA7 C0 true 167)
 | g=>YA g
noncomputable def CQ:Ctx:={ P:=Tryz.prog,G:=GS,ownArgs:=AB3,keepRes:=keepR,eqT:=JW,prim:=Y9 }
@[simp] theorem AdZ:CQ.P=Tryz.prog:=(rfl)
@[simp] theorem Ae0 (f):CQ.G f=GS f:=(rfl)
@[simp] theorem AdW (f):CQ.ownArgs f=AB3 f:=(rfl)
@[simp] theorem AdX (f):CQ.keepRes f=keepR f:=(rfl)
@[simp] theorem AdY (f):CQ.eqT f=JW f:=(rfl)
@[simp] theorem AdV:CQ.tree=false:=(rfl)
theorem AL3:PrimOk CQ:=by
 have hP:=bF AKI;constructor
 ·intro g args st p h;unfold bM at h
  cases hq:CQ.prim g with
  | none=>rw[hq]at h;cases h
  | some q =>
   rw[hq]at h;have hq:Y9 g=some q:=hq;unfold Y9 at hq;split at hq
   ·injection hq with hq;subst hq;exact hP.name _ _ _ _ (by decide) h
   ·injection hq with hq;subst hq;exact(iY fG (r:=p.1) (stl':=p.2) h).1
   ·exact MF.name g args st p (by unfold bM;rw[show CP.prim g=some q from hq];exact h)
 ·intro g args st r st' h w m φ vs hi hr hb;unfold bM at h
  cases hq:CQ.prim g with
  | none=>rw[hq]at h;cases h
  | some q =>
   rw[hq]at h;have hq:Y9 g=some q:=hq;unfold Y9 at hq;split at hq
   ·injection hq with hq;subst hq;exact hP.calls _ _ _ _ _ (by decide) h w m φ vs hi hr hb
   ·injection hq with hq;subst hq;exact(iY fG h).2 w m φ vs hi hr hb
   ·exact MF.calls g args st r st' (by unfold bM;rw[show CP.prim g=some q from hq];exact h) w m φ vs hi hr hb
theorem AEX:SoundOk CQ:=lH (C:=CQ) ft nt eqS mo AL3
noncomputable def UM:FuncId→Option (List AV→StL→Option (AV×StL))
 | 1000000007=>none
 | 89=>none
 | 126=>none
 | 159=>none
 | 182=>some (AA7 CQ true 182)
 | 167=>some (AA7 C0 true 167)
 | 104=>some (AGY (aI C0) 104)
 | g=>YA g
def AH4 (g:FuncId):Bool:=keepR g || decide (g=159)
noncomputable def CR:Ctx:={ P:=Tryz.prog,G:=GS,ownArgs:=AB3,keepRes:=AH4,eqT:=JW,prim:=UM }
@[simp] theorem AdT:CR.P=Tryz.prog:=(rfl)
@[simp] theorem AdU (f):CR.G f=GS f:=(rfl)
@[simp] theorem AdQ (f):CR.ownArgs f=AB3 f:=(rfl)
@[simp] theorem AdR (f):CR.keepRes f=(keepR f || decide (f=159)):=(rfl)
@[simp] theorem AdS (f):CR.eqT f=JW f:=(rfl)
@[simp] theorem AdP:CR.tree=false:=(rfl)
theorem Y8:PrimOk CR:=by
 constructor
 ·intro g args st p h;unfold bM at h
  cases hq:CR.prim g with
  | none=>rw[hq]at h;cases h
  | some q =>
   rw[hq]at h;have hq:UM g=some q:=hq;unfold UM at hq;split at hq
   all_goals first
    | (cases hq;done)
    | (injection hq with hq;subst hq;exact(iY AEX (r:=p.1) (stl':=p.2) h).1)
    | (injection hq with hq;subst hq;exact(iY fG (r:=p.1) (stl':=p.2) h).1)
    | (injection hq with hq;subst hq;exact(CZ (bF fG) (r:=p.1) (stl':=p.2) h (by decide)).1)
    | exact MF.name g args st p (by unfold bM;rw[show CP.prim g=some q from hq];exact h)
 ·intro g args st r st' h w m φ vs hi hr hb;unfold bM at h
  cases hq:CR.prim g with
  | none=>rw[hq]at h;cases h
  | some q =>
   rw[hq]at h;have hq:UM g=some q:=hq;unfold UM at hq;split at hq
   all_goals first
    | (cases hq;done)
    | (injection hq with hq;subst hq;exact(iY AEX h).2 w m φ vs hi hr hb)
    | (injection hq with hq;subst hq;exact(iY fG h).2 w m φ vs hi hr hb)
    | (injection hq with hq;subst hq;exact(CZ (bF fG) h (by decide)).2 w m φ vs hi hr hb)
    | exact MF.calls g args st r st' (by unfold bM;rw[show CP.prim g=some q from hq];exact h) w m φ vs hi hr hb
theorem AEW:SoundOk CR:=lH (C:=CR) ft nt eqS mo Y8
end Go.Proofs.YtjdfjgmebalaaaaGreat.P
namespace Go.Av
def Val.cmp (a b:Val):Int:=if a.null=true then(if b.null=true then 0 else -1)else if b.null=true then 1 else if a.n<b.n then -1 else if b.n<a.n then 1 else 0
def R5:List Val→List Val→Int
 | [],[]=>0
 | [],_::_=>-1
 | _::_,[]=>1
 | a::l,b::m=>if Val.cmp a b=0 then R5 l m else Val.cmp a b
def AGH (a b:List Val):Bool:=decide (R5 a b≤0)
def AVS (l:List (List Val)) (r:List Val):List (List Val):=l.takeWhile (fun x=>AGH x r)++r::l.dropWhile (fun x=>AGH x r)
def AO2 (l:List (List Val)):List (List Val):=l.foldl AVS []
def AOC (l:List (List Val)):List (List IV):=l.map fun r=>[.isl (rG r)]
structure Tbl where
 w:Int
 rows:List (List Val)
def Tbl.cells (t:Tbl):List IV:=[.int t.w, .isl (AOC t.rows)]
def tab (w:Int) (rows:List (List Val)):Tbl:=if 400<rows.length then⟨w,[]⟩else⟨w,AO2 rows⟩
def chainB:List (List Val)→Bool
 | a::b::l=>AGH a b && chainB (b::l)
 | _=>true
def rowOk (w:Int) (r:List Val):Bool:=decide ((r.length:Int)=w) && r.all Val.ok
def Tbl.ok (t:Tbl):Bool:=bI t.w && (decide (t.rows.length≤400) && (t.rows.all (rowOk t.w) && chainB t.rows))
def isT (e:Ex) (r:List Val):Bool:=decide ((e.ev r).tr=2)
def AL7 (n:Int):List Val:=List.replicate n.toNat ⟨true,0⟩
def ALM (e:Ex) (rs:List (List Val)) (r:List Val):List (List Val):=(rs.map (r ++ ·)).filter (isT e)
def joinL (e:Ex) (outer:Bool) (w:Int) (rs:List (List Val)) (r:List Val):List (List Val) :=
 if(outer && (ALM e rs r).isEmpty)=true then [r++AL7 w]else ALM e rs r
def ALK (e:Ex) (outer:Bool) (a b:Tbl):List (List Val):=a.rows.flatMap (joinL e outer b.w b.rows)
def dd:List Val→List (List Val)→List (List Val)
 | _,[]=>[]
 | p,a::l=>if R5 p a=0 then dd a l else a::dd a l
def ALZ:List (List Val)→List (List Val)
 | []=>[]
 | a::l=>a::dd a l
def AOJ (cs:List Int) (r:List Val):List Val:=cs.map fun c=>(r[c.toNat]?).getD Val.zero
def bump (key:List Val):List (List Val×Nat)→List (List Val×Nat)
 | []=>[(key,1)]
 | g::l=>if R5 g.1 key=0 then(g.1,g.2+1)::l else g::bump key l
def groups (cs:List Int) (rows:List (List Val)):List (List Val×Nat):=rows.foldl (fun acc r=>bump (AOJ cs r) acc) []
def AL6 (g:List Val×Nat):List Val:=g.1++[⟨false,(g.2:Int)⟩]
def NC (cs:List Int) (rows:List (List Val)):List (List Val):=(groups cs rows).map AL6
def AG0:Tbl:=⟨0,[]⟩
def exO (es:List Ex):Ex:=(es[0]?).getD (.mk 0 0 Val.zero [])
def evK (db:List Tbl) (k t:Int) (es:List Ex) (cs:List Int) (a b:Tbl):Tbl :=
 if k=1 then tab ((db[t.toNat]?).getD AG0).w ((db[t.toNat]?).getD AG0).rows
 else if k=2 then tab a.w (a.rows.filter (isT (exO es)))
 else if k=3 then tab es.length (a.rows.map fun r=>es.map (Ex.ev r))
 else if k=4∨k=5 then tab (a.w+b.w) (ALK (exO es) (decide (k=5)) a b)
 else if k=6 then tab a.w (a.rows++b.rows)
 else if k=7 then tab a.w (ALZ a.rows)
 else tab ((cs.length:Int)+1) (NC cs a.rows)
mutual
def Pn.evP (db:List Tbl):Pn→Tbl
 | .mk k t es cs ks=>evK db k t es cs (((Pn.APD db ks)[0]?).getD AG0) (((Pn.APD db ks)[1]?).getD AG0)
def Pn.APD (db:List Tbl):List Pn→List Tbl
 | []=>[]
 | p::ps=>Pn.evP db p::Pn.APD db ps
end
section
variable {rows:List (List Val)} {w:Int} (hr:∀ r∈rows,rowOk w r=true) (hw:bI w=true)
include hr hw
end
def rbK (cnt:List Int) (k t:Int) (cs:List Int) (a b:Int):Int :=
 if k=1 then(cnt[t.toNat]?).getD 0 else min (if k=4 then a*b else if k=5 then a*max 1 b else if k=6 then a+b else if k=8∧cs=[]then min a 1 else a) 1000000000
mutual
def Pn.rb (cnt:List Int):Pn→Int
 | .mk k t es cs ks=>rbK cnt k t cs (((Pn.rbL cnt ks)[0]?).getD 0) (((Pn.rbL cnt ks)[1]?).getD 0)
def Pn.rbL (cnt:List Int):List Pn→List Int
 | []=>[]
 | p::ps=>Pn.rb cnt p::Pn.rbL cnt ps
end
def AR0 (db:List Tbl) (k t:Int) (es:List Ex) (cs:List Int) (a b:Tbl):List (List Val) :=
 if k=1 then((db[t.toNat]?).getD AG0).rows
 else if k=2 then a.rows.filter (isT (exO es))
 else if k=3 then a.rows.map fun r=>es.map (Ex.ev r)
 else if k=4∨k=5 then ALK (exO es) (decide (k=5)) a b
 else if k=6 then a.rows++b.rows
 else if k=7 then ALZ a.rows
 else NC cs a.rows
def Pn.raw (db:List Tbl) (p:Pn):List (List Val):=AR0 db p.kind p.table p.exprs p.cols ((p.kids[0]?.map (Pn.evP db)).getD AG0) ((p.kids[1]?.map (Pn.evP db)).getD AG0)
mutual
def Pn.bd (n:Nat):Pn→Nat
 | .mk _ _ es _ ks=>bdK n es (Pn.bdL n ks)
def Pn.bdL (n:Nat):List Pn→List Nat
 | []=>[]
 | p::ps=>Pn.bd n p::Pn.bdL n ps
def bdK (n:Nat) (es:List Ex):List Nat→Nat
 | []=>n
 | [a]=>a
 | a::b::_=>if es=[]then a+b else a*b
end
theorem AIB (n:Nat) (t:Int):(Pn.scan t).bd n=n:=by simp[Pn.scan,Pn.bd,Pn.bdL,bdK]
theorem AAH (n:Nat) (k t:Int) (es:List Ex) (cs:List Int) (a:Pn):(Pn.mk k t es cs [a]).bd n=a.bd n:=by simp[Pn.bd,Pn.bdL,bdK]
def Th (P:Pn) (j j':Nat) (u u':Int):Prop:=P.thin∧(j'≤j∧u'≤u∧∀ n:Nat,1≤n→P.bd n≤2 ^ (u-u').toNat*n ^ (j-j'+1))∧(P.exprs=[]→P.kids.length=2→P.kind=6)
theorem Th.scan {t:Int} (h:(Pn.scan t).thin) (j:Nat) (u:Int):Th (.scan t) j j u u:=by
 refine⟨h,⟨Nat.le_refl _,Int.le_refl _,fun n _=>?_⟩,by simp[Pn.scan]⟩;rw[AIB];simp
theorem Th.one {k t:Int} {es:List Ex} {cs:List Int} {K:Pn} {j j1:Nat} {u u1:Int} (hth:(Pn.mk k t es cs [K]).thin) (h:Th K j j1 u u1):Th (.mk k t es cs [K]) j j1 u u1:=by
 refine⟨hth,⟨h.2.1.1,h.2.1.2.1,fun n hn=>?_⟩,by simp⟩;rw[AAH];exact h.2.1.2.2 n hn
theorem Th.skip {k t:Int} {es:List Ex} {cs:List Int} {K:Pn} {j j1 j2:Nat} {u u1 u2:Int} (hth:(Pn.mk k t es cs [K]).thin) (h:Th K j j1 u u1) (h2:j2≤j1) (h3:u2≤u1):Th (.mk k t es cs [K]) j j2 u u2:=by
 obtain⟨-,⟨g1,g2,g3⟩,-⟩:=h;refine⟨hth,⟨by omega,by omega,fun n hn=>?_⟩,by simp⟩;rw[AAH];refine Nat.le_trans (g3 n hn) (Nat.mul_le_mul (Nat.pow_le_pow_right (by omega) (by omega)) (Nat.pow_le_pow_right hn (by omega)))
def BdV (P:Pn):Prop:=∀ (ws:List Int) (lv n:Nat),1≤n→P.wd ws lv≠0→P.bd n≤2*n ^ 2
def Rt (P:Pn):Prop:=P.thin∧(∀ n:Nat,1≤n→P.bd n≤2*n ^ 2)∧(P.exprs=[]→P.kids.length=2→P.kind=6)
theorem Rt.one {k t:Int} {es:List Ex} {cs:List Int} {P:Pn} (hth:(Pn.mk k t es cs [P]).thin) (h:Rt P):Rt (.mk k t es cs [P]):=⟨hth,fun n hn=>by rw[AAH];exact h.2.1 n hn,by simp⟩
theorem Rt.all {P:Pn} (h:Rt P):BdV P:=fun ws lv n hn _=>h.2.1 n hn
end Go.Av
namespace Go.Proofs.YtjdfjgmebalaaaaGreat.P
open Go Go.Av
set_option maxRecDepth 4000
set_option maxHeartbeats 8000000
def PSt (l:List UInt8) (ws:List Int) (k:Nat) (j u p:Int):StL:=[some (.box [.own 1 0, .osl 2 1 0 k, .int j, .int u]),Rd l p,some (.arr 1 (aF ws))]
structure PlH (l:List UInt8) (ws:List Int) (k d j c2:Nat) (p u t v W kk p1 u1:Int) (j1:Nat) (K:Pn):Prop where
 hd:d<100
 h1:p1+400+c2<300000000
 hp1:0≤p1
 hu0:0≤u1
 hu1:u1≤1
 hW0:0≤W
 hW6:W≤6
 hKB:Th K j j1 u u1
 ht:aI C0 127 [.own 0 0, .int k] [Rd l p]=some (.int t,[Rd l (p+1)])
 hv:aI C0 127 [.own 0 0, .int 6] [Rd l (p+1)]=some (.int v,[Rd l (p+1+1)])
 v0:¬ v=0
 hkid:aI CP 182 [.own 0 0, .int d] (PSt l ws k j u (p+1+1))=some (.i (.agg K.cells),PSt l ws k j1 u1 p1)
 hW:aI CP 104 [.i (.agg K.cells), .osl 0 1 0 k, .int 8] [some (.arr 1 (aF ws))]=some (.int W,[some (.arr 1 (aF ws))])
 hkk:aI C0 127 [.own 0 0, .int 10] [Rd l p1]=some (.int kk,[Rd l (p1+1)])
def bl (n:Nat):Nat:=if n=0 then 0 else 1
end Go.Proofs.YtjdfjgmebalaaaaGreat.P
namespace Go.Av
end Go.Av
namespace Go.Proofs.YtjdfjgmebalaaaaGreat.P
open Go Go.Av
set_option maxRecDepth 4000
set_option maxHeartbeats 4000000
def OG (ws:List Int) (p:Pn) (P:List (List Int)) (i:Nat):List Stp:=(P.take i).flatMap (atS ws p)
end Go.Proofs.YtjdfjgmebalaaaaGreat.P
namespace Go.Av
theorem ACI {ws:List Int} (h:jI ws=true):∀ w∈ws,0≤w∧w≤6:=by
 intro w hw;unfold jI at h;simp only[zU]at h;have:=zR.1 h.2 w hw;unfold bI at this;simp at this;omega
end Go.Av
namespace Go.Proofs.YtjdfjgmebalaaaaGreat.P
open Go Go.Av
set_option maxRecDepth 4000
set_option maxHeartbeats 8000000
set_option maxHeartbeats 4000000
end Go.Proofs.YtjdfjgmebalaaaaGreat.P
namespace Go.Av
def AFP (st:Store):AV→Option IV
 | .own id 0=>match st id with
  | some (.box cs)=>bnd (FU st cs) fun l=>some (.iref l)
  | _=>none
 | v=>ABK st v
def LB (st:Store):List AV→Option (List AV)
 | []=>some []
 | c::r=>bnd (AFP st c) fun v=>bnd (LB st r) fun l=>some (.i v::l)
theorem OJ {w:World} {m:Mem} {φ:Pl} {st:Store} {c:AV} {x:Value} {iv:IV} (hi:Inv w m φ st) (hr:Rep m φ c x) (h:AFP st c=some iv):IRep (dA w) iv x:=by
 unfold AFP at h;split at h
 ·rename_i id;split at h
  ·rename_i cs hs;obtain⟨l,h1,h2⟩:=aH.1 h;injection h2 with h2;subst h2
   cases hr with
   | @own _ _ b n e =>
    obtain⟨hb,hok⟩:=dF hi e hs
    cases hok with
    | @box T _ vs hh hl hrc hm =>
     refine .iref (IAt.mk 0 (oO hi hrc h1) fun j v hj=>?_);show w.cell? ⟨b,0+j,none⟩=some v;rw[bG hh,zD];exact hj
  ·cases h
 ·exact BI hi hr h
theorem wC {w:World} {m:Mem} {φ:Pl} {st:Store} (hi:Inv w m φ st):∀ {cs us:List AV} {xs:List Value},RepL m φ cs xs→LB st cs=some us→RepL (dA w) (fun _=>none) us xs
 | [],us,_, .nil,h=>by simp[LB]at h;subst h;exact .nil
 | c::cs,us,_, .cons a b,h=>by
  simp only[LB]at h;obtain⟨v,h1,h2⟩:=aH.1 h;obtain⟨l',h3,h4⟩:=aH.1 h2;injection h4 with h4;subst h4;exact .cons (.i (OJ hi a h1)) (wC hi b h3)
def kvK (stl:StL):AV→Option IV
 | .i (.lit v)=>some (.lit v)
 | .nils=>some (.isl [])
 | .osl id k off len=>match bD stl id with
  | some (.frz k' es)=>tst (decide (k'=k∧off=0∧len≤es.length∧0<len)) (tst (es.all AJ) (some (.isl (es.take len))))
  | _=>none
 | _=>none
def ALC (stl:StL):List AV→Option (List IV)
 | []=>some []
 | c::r=>bnd (kvK stl c) fun v=>bnd (ALC stl r) fun l=>some (v::l)
def kvA (stl:StL):AV→Option IV
 | .agg cs=>bnd (ALC stl cs) fun l=>some (.agg l)
 | v=>kvK stl v
def ALD (stl:StL):List AV→Option (List AV)
 | []=>some []
 | c::r=>bnd (kvA stl c) fun v=>bnd (ALD stl r) fun l=>some (.i v::l)
def kvT (stl:StL):AV→Option AV
 | .tup cs=>bnd (ALD stl cs) fun l=>some (.tup l)
 | v=>bnd (kvA stl v) fun l=>some (.i l)
section
variable {w w':World} {m m':Mem} {φ':Pl} {stl:StL}
def OE (w:World) (m m':Mem):Mem:=fun b o=>if b<w.heap.size then m b o else m' b o
theorem RJ {b:Nat} (h:w.heap.size≤b) (o:Nat):OE w m m' b o=m' b o:=by unfold OE;rw[if_neg (by omega)]
theorem JN {b:Nat} (h:b<w.heap.size) (o:Nat):OE w m m' b o=m b o:=by unfold OE;rw[if_pos h]
theorem AAJ {b:Nat} (hb:∀ o,OE w m m' b o=m' b o):∀ {cs:List IV} {o:Nat},AJ cs=true→IAt m' b o cs→IAt (OE w m m') b o cs
 | [],o,_,_=>.nil b o
 | c::cs,o,hl, .cons e a q r=>by
  simp only[AJ,zU]at hl;refine .cons ((hb o).trans e) ?_ q (AAJ hb hl.2 r)
  cases c with
  | lit v=>rw[kU a];exact .lit _
  | isl es=>simp[AB5]at hl
  | agg cs=>simp[AB5]at hl
  | iref cs=>simp[AB5]at hl
theorem IB {b:Nat} (hb:∀ o,OE w m m' b o=m' b o) {k:Nat}:∀ {es:List (List IV)} {o:Nat},es.all AJ=true→IElems m' b o k es→IElems (OE w m m') b o k es
 | [],o,_,_=>.nil b o k
 | e::es,o,hl, .cons a hk r=>by
  simp only[List.all_cons,zU]at hl;exact .cons (AAJ hb hl.1 a) hk (IB hb hl.2 r)
theorem MU (hi:Inv w' m' φ' (bD stl)) (hadv:Adv w (dA w) (fun _=>none) w' m' φ') {c:AV} {x:Value} {iv:IV} (hr:Rep m' φ' c x) (h:kvK stl c=some iv):IRep (OE w m m') iv x:=by
 unfold kvK at h;split at h
 ·injection h with h;subst h;rw[hr.bP];exact .lit _
 ·injection h with h;subst h
  cases hr;exact .isl0 _ _ fun _=>rfl
 ·rename_i id k off len;split at h
  ·rename_i k' es hs;obtain⟨h1,h2⟩:=aP.1 h;obtain⟨h3,h4⟩:=aP.1 h2;simp only[zP]at h1;obtain⟨rfl,rfl,hle,hpos⟩:=h1;injection h4 with h4;subst h4
   cases hr with
   | @osl _ _ _ _ cap b n ao e hlc hkl hao hao2 =>
    obtain⟨hb,hok⟩:=dF hi e hs
    cases hok with
    | frz hk0 he =>
     have hnew:w.heap.size≤b:=by
      rcases hadv.pnew id b n b e hb.1 with h|h
      ·exact h
      ·exact absurd (fun _ _ _ e=>by cases e) h
     have hcap:cap≠0:=by omega
     have:=hao hcap;subst this;have he2:=IB (m:=m) (fun o=>RJ hnew o) h3 he;have hlen:(es.take len).length=len:=by simp;omega
     have hne:es.take len≠[]:=fun h=>by rw[h]at hlen;simp at hlen;omega
     have he3:=qM len he2;have:=IRep.isl (cap:=cap) hne he3 (by omega);rw[hlen]at this;simpa using this
  ·cases h
 ·cases h
theorem GU (hi:Inv w' m' φ' (bD stl)) (hadv:Adv w (dA w) (fun _=>none) w' m' φ'):∀ {cs:List AV} {xs:List Value} {l:List IV},RepC m' φ' cs xs→ALC stl cs=some l→ICells (OE w m m') l xs
 | [],_,l, .nil,h=>by simp[ALC]at h;subst h;exact .nil
 | c::cs,_,l, .cons a o b,h=>by
  simp only[ALC]at h;obtain⟨v,h1,h2⟩:=aH.1 h;obtain⟨l',h3,h4⟩:=aH.1 h2;injection h4 with h4;subst h4;exact .cons (MU hi hadv a h1) o (GU hi hadv b h3)
theorem MV (hi:Inv w' m' φ' (bD stl)) (hadv:Adv w (dA w) (fun _=>none) w' m' φ') {c:AV} {x:Value} {iv:IV} (hr:Rep m' φ' c x) (h:kvA stl c=some iv):IRep (OE w m m') iv x:=by
 unfold kvA at h;split at h
 ·obtain⟨l,h1,h2⟩:=aH.1 h;injection h2 with h2;subst h2
  cases hr with|agg r=>exact .agg (GU hi hadv r h1)
 ·exact MU hi hadv hr h
theorem GV {φ:Pl} (hi:Inv w' m' φ' (bD stl)) (hadv:Adv w (dA w) (fun _=>none) w' m' φ'):∀ {cs us:List AV} {xs:List Value},RepL m' φ' cs xs→ALD stl cs=some us→RepL (OE w m m') φ us xs
 | [],us,_, .nil,h=>by simp[ALD]at h;subst h;exact .nil
 | c::cs,us,_, .cons a b,h=>by
  simp only[ALD]at h;obtain⟨v,h1,h2⟩:=aH.1 h;obtain⟨l',h3,h4⟩:=aH.1 h2;injection h4 with h4;subst h4;exact .cons (.i (MV hi hadv a h1)) (GV hi hadv b h3)
theorem Z4 {φ:Pl} (hi:Inv w' m' φ' (bD stl)) (hadv:Adv w (dA w) (fun _=>none) w' m' φ') {c r:AV} {x:Value} (hr:Rep m' φ' c x) (h:kvT stl c=some r):Rep (OE w m m') φ r x:=by
 unfold kvT at h;split at h
 ·obtain⟨l,h1,h2⟩:=aH.1 h;injection h2 with h2;subst h2
  cases hr with|tup r=>exact .tup (GV hi hadv r h1)
 ·obtain⟨l,h1,h2⟩:=aH.1 h;injection h2 with h2;subst h2;exact .i (MV hi hadv hr h1)
end
def AGZ (f:List AV→StL→Option (AV×StL)) (args:List AV) (st:StL):Option (AV×StL) :=
 bnd (LB (bD st) args) fun us=>match f us []with
  | some (r,stl)=>bnd (kvT stl r) fun v=>some (v,st)
  | none=>none
theorem D5 {C:Ctx} {g:FuncId} {f:List AV→StL→Option (AV×StL)} (hf:∀ args stl r stl',f args stl=some (r,stl')→(∃ fn,C.P.funcs[g]?=some fn∧fn.name≠ "runtime.NumGoroutine"∧fn.body.isSome=true)∧∀ (w:World) (m:Mem) (φ:Pl) (vs:List Value),Inv w m φ (bD stl)→RepL m φ args vs→(∀ id,φ id≠none→id<stl.length)→Calls C.P g vs.toArray w (bR w m φ r stl'))
 {args:List AV} {stl stl':StL} {r:AV} (h:AGZ f args stl=some (r,stl')) :
 (∃ fn,C.P.funcs[g]?=some fn∧fn.name≠ "runtime.NumGoroutine"∧fn.body.isSome=true)∧∀ (w:World) (m:Mem) (φ:Pl) (vs:List Value),Inv w m φ (bD stl)→RepL m φ args vs→(∀ id,φ id≠none→id<stl.length) →
  Calls C.P g vs.toArray w (bR w m φ r stl'):=by
 unfold AGZ at h;obtain⟨us,h1,h2⟩:=aH.1 h;split at h2
 ·rename_i r0 stl0 h3;obtain⟨v0,h4,h5⟩:=aH.1 h2;injection h5 with h5;injection h5 with h5 h6;subst h5;subst h6;obtain⟨q1,q2⟩:=hf _ _ _ _ h3;refine⟨q1,fun w m φ vs hi hr h0=>?_⟩;refine(q2 w (dA w) (fun _=>none) vs (inv0 w) (wC hi hr h1) (fun id h=>absurd rfl h)).mono ?_;rintro e w' ⟨v,m',φ',rfl,j1,j2,j3,j4⟩;have hlt:∀ b o u,m b o=some u→b<w.heap.size:=fun b o u e=>hi.mem.lt e
  have hsame:∀ f,f<w.heap.size→w'.heap[f]?=w.heap[f]?:=fun f hf=>j3.block f hf fun id b n e=>by cases e
  have hle:MLe m (OE w m m'):=fun b o u e=>by rw[JN (hlt b o u e)];exact e
  have hmem:lD w' (OE w m m'):=fun b o u e=>by
   by_cases hb:b<w.heap.size
   ·rw[JN hb]at e;rw[cell_of_heap (hsame b hb)];exact hi.mem b o u e
   ·rw[RJ (by omega)]at e;exact j2.mem b o u e
  have ha:Adv w m (fun _=>none) w' (OE w m m') (fun _=>none):=⟨j3.size,j3.os,j3.tape,j3.output,fun b hb _=>hsame b hb,hle,fun b hb _ o=>JN hb o, .refl _,fun _ _ _ _ e=>by cases e⟩
  obtain⟨i2,a2⟩:=hi.ALR ha hmem;exact⟨v,_,φ,rfl,Z4 j2 j3 j1 h4,i2,a2,h0⟩
 ·cases h2
noncomputable def AI7 (C:Ctx) (g:FuncId) (args:List AV) (st:StL):Option (AV×StL) :=
 match C.P.funcs[g]? with
 | none=>none
 | some fn =>
  match fn.body with
  | none=>none
  | some c=>WN { C with tree:=true } true fn.results.toList st.length (eT C (C.G g) st.length c (enter (C.G g) args st))
theorem EO {C:Ctx} (hS:SoundOk C) {g:FuncId} {args:List AV} {stl stl':StL} {r:AV} (h:AI7 C g args stl=some (r,stl')) :
 (∃ fn,C.P.funcs[g]?=some fn∧fn.name≠ "runtime.NumGoroutine"∧fn.body.isSome=true)∧∀ (w:World) (m:Mem) (φ:Pl) (vs:List Value),Inv w m φ (bD stl)→RepL m φ args vs→(∀ id,φ id≠none→id<stl.length) →
  Calls C.P g vs.toArray w (bR w m φ r stl'):=by
 unfold AI7 at h;split at h
 ·cases h
 rename_i fn hf;split at h
 ·cases h
 rename_i c hb;have hst:=(hS.fns g fn c hf hb).2;refine⟨⟨fn,hf,(hS.fns g fn c hf hb).1,by rw[hb];rfl⟩,fun w m φ vs hi hargs hid=>?_⟩;have ih:=bF hS
 have hrel:IY [] w m φ fn.ntmps stl.length (enter (C.G g) args stl) { tmps:=vs.toArray++Array.replicate (fn.ntmps-vs.toArray.size) undef,defers:=[] } w:=by
  refine⟨⟨⟨m,φ,hi,?_, .refl _ _ _,hid, .nil _ _ _⟩,by simp;omega,rfl⟩,zN _⟩;intro t;unfold enter;simp only;generalize C.G g=G
  induction G with
  | nil=>exact .junk _
  | cons u G ihG =>
   simp only[EH,aT];by_cases e:t=u
   ·subst e;simp only[if_true];exact kZ _ hargs t
   ·simp only[e,if_false];exact ihG
 refine callsIn_wide.1 (callsIn_of_wp_marks (n:=0) hf hb trivial ?_)
 have done:∀ S e,eT C (C.G g) stl.length c (enter (C.G g) args stl)=some (e,S)→finish { C with tree:=true } true fn.results.toList stl.length S=some (r,stl')→(e=.normal∨e=.ret) →
  c.wpIn Fence.wide 0 C.P (bodyPostM Fence.wide 0 C.P fn (bR w m φ r stl')) { tmps:=vs.toArray++Array.replicate (fn.ntmps-vs.toArray.size) undef,defers:=[] } w:=by
  intro S e hS' hfin he;obtain⟨n,hS'⟩:=(dC _).1 hS';refine wpIn_mono (bQ (ρ:=none) hS.ctx ih (hS.draw _ ih) hid n c _ S e [] _ w hst (.inl rfl) hS' hrel) ?_;rintro e' a' w' ⟨rfl,ds,k,_⟩
  have hl:LeavesInM Fence.wide 0 C.P fn a'.tmps (bR w m φ r stl') a'.defers .returning w':=by
   rw[k.1.defers];refine nV k fun a2 w2 _ k2=>?_
   obtain⟨v,k3,k4⟩:=fJ (C:={ C with tree:=true }) hid k2 hfin;exact⟨v,k3,k4⟩
  rcases he with rfl|rfl
  ·exact hl
  ·exact hl
 unfold WN at h;split at h
 ·rename_i S hS';exact done S .normal hS' h (.inl rfl)
 ·rename_i S hS';exact done S .ret hS' h (.inr rfl)
 ·cases h
 ·cases h
def ANJ (r:Int):Bool:=decide (r≠2∧r≠5∧r≠6)
def NS0 (R:Rng) (cs:List AV):StL:=[some (.loop R cs .ready),some (.box [.int 0, .nils]),some (.box [.bool false])]
def NS1 (R:Rng) (cs:List AV) (s:Stp):StL:=some (.loop R cs (.over .ret))::some (.box [.int s.1,if s.2=[]then .nils else .osl 3 1 0 s.2.length])::some (.box [.bool true])::(if s.2=[]then []else [some (.frz 1 (aF s.2))])
end Go.Av
namespace Go.Proofs.YtjdfjgmebalaaaaGreat.P
open Go Go.Av
set_option maxRecDepth 4000
set_option maxHeartbeats 8000000
structure Yn (R:Rng) (cs:List AV):Prop where
 ids:cs=[.own 1 0, .own 2 0, .junk, .junk, .junk]
 n0:∀ r:Int,ANJ r=false→aI C0 uS [.fn (.yield 0) [.own 0 0], .agg [.int r, .nils]] (NS0 R cs)=some (.bool true,NS0 R cs)
 n1:∀ (r:Int) (path:List Int),path≠[]→ANJ r=false→aI C0 uS [.fn (.yield 0) [.own 0 0], .agg [.int r, .osl 3 1 0 path.length]] (NS0 R cs++[some (.arr 1 (aF path))])=some (.bool true,NS0 R cs++[some (.frz 1 (aF path))])
 y0:∀ r:Int,ANJ r=true→aI C0 uS [.fn (.yield 0) [.own 0 0], .agg [.int r, .nils]] (NS0 R cs)=some (.bool false,NS1 R cs (r,[]))
 y1:∀ (r:Int) (path:List Int),path≠[]→ANJ r=true→aI C0 uS [.fn (.yield 0) [.own 0 0], .agg [.int r, .osl 3 1 0 path.length]] (NS0 R cs++[some (.arr 1 (aF path))])=some (.bool false,NS1 R cs (r,path))
set_option maxHeartbeats 4000000
theorem QK {args:List AV} {st:StL} {q:AV×StL} (h:A8 args st=some q):∃ fn,Tryz.prog.funcs[26]?=some fn∧fn.name≠ "runtime.NumGoroutine"∧fn.body.isSome=true:=⟨Tryz.f26,Tryz.func26,by decide,rfl⟩
theorem O6 {args:List AV} {st st':StL} {r:AV} (h:A8 args st=some (r,st')):∀ (w:World) (m:Mem) (φ:Pl) (vs:List Value),Inv w m φ (bD st)→RepL m φ args vs→(∀ id,φ id≠none→id<st.length)→Calls Tryz.prog 26 vs.toArray w (bR w m φ r st'):=by
 intro w m φ vs hi hr h0;obtain⟨p,ws,k,path,rfl,rfl,hq⟩:=QJ h
 cases ho:apO p ws k path with
 | none =>
  rw[ho]at hq;injection hq with h1 h2;subst h1;subst h2
  have hn:p.width ws=0∨apI ws k path p=none:=by
   unfold apO at ho;by_cases hw:p.width ws=0
   ·exact .inl hw
   ·rw[if_neg hw]at ho;exact .inr ho
  exact(bF fG).calls _ _ _ _ _ (by decide) (VW hn) w m φ vs hi hr h0
 | some q =>
  rw[ho]at hq;injection hq with h1 h2;subst h1;subst h2;unfold apO at ho;by_cases hw:p.width ws=0
  ·rw[if_pos hw]at ho;cases ho
  ·rw[if_neg hw]at ho
   obtain rfl:φ=fun _=>none:=by
    funext id
    cases h:φ id with
    | none=>rfl
    | some p=>exact absurd (h0 id (by rw[h];simp)) (xZ _)
   exact VV hw ho hi hr
def AIZ:FuncId→Bool
 | 78=>true
 | g=>AB3 g
@[simp] theorem AOK (g:FuncId):AIZ g=if g=78 then true else AB3 g:=by
  unfold AIZ;split
  ·rfl
  ·rename_i h;rw[if_neg h]
noncomputable def UN:FuncId→Option (List AV→StL→Option (AV×StL))
 | 40=>none
 | 16=>none
 | 42=>none
 | 39=>none
 | 12=>none
 | 41=>none
 | 26=>some A8
 | 78=>some (AGZ (AI7 C0 78))
 | 89=>some (aI CR 89)
 | g=>UM g
noncomputable def CA:Ctx:={ P:=Tryz.prog,G:=GS,ownArgs:=AIZ,keepRes:=AH4,eqT:=JW,prim:=UN }
@[simp] theorem AeB:CA.P=Tryz.prog:=(rfl)
@[simp] theorem AeC (f):CA.G f=GS f:=(rfl)
@[simp] theorem Ae8 (f):CA.ownArgs f=AIZ f:=(rfl)
@[simp] theorem Ae9 (f):CA.keepRes f=(keepR f || decide (f=159)):=(rfl)
@[simp] theorem AeA (f):CA.eqT f=JW f:=(rfl)
@[simp] theorem Ae7:CA.tree=false:=(rfl)
theorem YB:PrimOk CA:=by
 constructor
 ·intro g args st p h;unfold bM at h
  cases hq:CA.prim g with
  | none=>rw[hq]at h;cases h
  | some q =>
   rw[hq]at h;have hq:UN g=some q:=hq;unfold UN at hq;split at hq
   all_goals first
    | (cases hq;done)
    | (injection hq with hq;subst hq;exact QK h)
    | (injection hq with hq;subst hq;exact(D5 (C:=CA) (fun args stl r stl' h=>EO fG h) (r:=p.1) (stl':=p.2) h).1)
    | (injection hq with hq;subst hq;exact(bF AEW).name _ _ _ _ (by decide) h)
    | exact Y8.name g args st p (by unfold bM;rw[show CR.prim g=some q from hq];exact h)
 ·intro g args st r st' h w m φ vs hi hr hb;unfold bM at h
  cases hq:CA.prim g with
  | none=>rw[hq]at h;cases h
  | some q =>
   rw[hq]at h;have hq:UN g=some q:=hq;unfold UN at hq;split at hq
   all_goals first
    | (cases hq;done)
    | (injection hq with hq;subst hq;exact O6 h w m φ vs hi hr hb)
    | (injection hq with hq;subst hq;exact(D5 (C:=CA) (fun args stl r stl' h=>EO fG h) h).2 w m φ vs hi hr hb)
    | (injection hq with hq;subst hq;exact(bF AEW).calls _ _ _ _ _ (by decide) h w m φ vs hi hr hb)
    | exact Y8.calls g args st r st' (by unfold bM;rw[show CR.prim g=some q from hq];exact h) w m φ vs hi hr hb
theorem XG:SoundOk CA:=lH (C:=CA) ft nt eqS mo YB
theorem NW (p:Pn) (ws:List Int) (r:Int) (path:List Int):aI CA 26 [.i (.agg p.cells), .i (.isl (aF ws)), .i (.agg [.int r, .isl (aF path)])] []=some (apR (apO p ws r path)):=by rw[bH (p:=A8) rfl];exact AAL p ws r path
@[simp] theorem ADR (a:List AV) (st:StL):aI CA 34 a st=aI C0 34 a st:=by rw[bH (p:=aI C0 34) rfl]
@[simp] theorem AFH (a:List AV) (st:StL):aI CA 68 a st=aI C0 68 a st:=by rw[bH (p:=aI C0 68) rfl]
theorem tV (p:Pn) (hp:p.thin) (ws:List Int) (hl:ws.length<1000000000) (r:Int) (path:List Int) (hpl:path.length<1000000000):aI C0 34 [.i (.agg p.cells), .i (.isl (aF ws)), .i (.agg [.int r, .isl (aF path)])] []=some (apR (apO p ws r path)):=by
 have c1:=FP p (Pn.J6 p hp) ws (by omega);rw[aD rfl Tryz.func34 rfl rfl];unfold apO;by_cases h0:p.width ws=0
 ·simp only[Pn.aA p]at c1 ⊢;simp[c1,h0,apR,Pn.zero,Pn.cells,Ex.aB,aF,Pn.aB]
 ·obtain⟨hw,hp8,hv⟩:=uU h0;by_cases h8:path.length≤8
  ·have c2:=O5 hw hp8 r (path:=path) (by omega);rw[← AIG (ACI hw) hp8]at c2;have n8:¬ (8:Int)<path.length:=by omega
   cases hq:apI ws r path p with
   | none =>
    rw[hq]at c2;simp only[Pn.aA p]at c1 c2 ⊢;simp[V4,Pn.zero,Pn.cells,Ex.aB,aF,Pn.aB]at c2;simp[c1,h0,c2,n8,apR,Pn.zero,Pn.cells,Ex.aB,aF,Pn.aB]
   | some q =>
    rw[hq]at c2;simp only[Pn.aA p,Pn.aA q,V4,yO]at c1 c2 ⊢;simp at c2;simp[c1,h0,c2,n8,apR,Pn.aA q]
  ·have n8:(8:Int)<path.length:=by omega
   have hq:apI ws r path p=none:=by unfold apI;rw[if_neg h8]
   simp only[Pn.aA p]at c1 ⊢;simp[c1,h0,n8,hq,apR,Pn.zero,Pn.cells,Ex.aB,aF,Pn.aB]
end Go.Proofs.YtjdfjgmebalaaaaGreat.P
namespace Go.Av
theorem uY {ws:List Int} {lv:Nat} {p:Pn} (h:Shape ws lv p):(p.kind=2→∃ e a,p=filt e a)∧(p.kind=3→∃ es a,p=proj es a)∧(∀ k,k=4∨k=5→p.kind=k→∃ e a b,p=aY k e a b)∧(p.kind=6→∃ a b,p=bY a b)∧(p.kind=7→∃ a,p=.mk 7 0 [] [] [a]):=by
 cases h with
 | scan t=>exact⟨fun h=>by simp[Pn.scan,Pn.kind]at h,fun h=>by simp[Pn.scan,Pn.kind]at h,fun k h1 h=>by simp[Pn.scan,Pn.kind]at h;omega,fun h=>by simp[Pn.scan,Pn.kind]at h,fun h=>by simp[Pn.scan,Pn.kind]at h⟩
 | filt m e a=>exact⟨fun _=>⟨e,a,rfl⟩,fun h=>by simp[filt,Pn.kind]at h,fun k h1 h=>by simp[filt,Pn.kind]at h;omega,fun h=>by simp[filt,Pn.kind]at h,fun h=>by simp[filt,Pn.kind]at h⟩
 | proj m es a=>exact⟨fun h=>by simp[proj,Pn.kind]at h,fun _=>⟨es,a,rfl⟩,fun k h1 h=>by simp[proj,Pn.kind]at h;omega,fun h=>by simp[proj,Pn.kind]at h,fun h=>by simp[proj,Pn.kind]at h⟩
 | pair m k e a b hm hk=>exact⟨fun h=>by simp[aY,Pn.kind]at h;omega,fun h=>by simp[aY,Pn.kind]at h;omega,fun k' h1 h=>⟨e,a,b,by simp[aY,Pn.kind]at h;rw[h]⟩,fun h=>by simp[aY,Pn.kind]at h;omega,fun h=>by simp[aY,Pn.kind]at h;omega⟩
 | union m a b=>exact⟨fun h=>by simp[bY,Pn.kind]at h,fun h=>by simp[bY,Pn.kind]at h,fun k h1 h=>by simp[bY,Pn.kind]at h;omega,fun _=>⟨a,b,rfl⟩,fun h=>by simp[bY,Pn.kind]at h⟩
 | dist m a=>exact⟨fun h=>by simp[Pn.kind]at h,fun h=>by simp[Pn.kind]at h,fun k h1 h=>by simp[Pn.kind]at h;omega,fun h=>by simp[Pn.kind]at h,fun _=>⟨a,rfl⟩⟩
 | group m cs a=>exact⟨fun h=>by simp[Pn.kind]at h,fun h=>by simp[Pn.kind]at h,fun k h1 h=>by simp[Pn.kind]at h;omega,fun h=>by simp[Pn.kind]at h,fun h=>by simp[Pn.kind]at h⟩
@[simp] theorem XJ (t:Int) (e:Ex) (a:Pn):scP t (filt e a)=scP t a:=by simp[filt,scP,AB1,Pn.hit,Pn.kind]
@[simp] theorem JA (t:Int) (es:List Ex) (a:Pn):scP t (proj es a)=scP t a:=by simp[proj,scP,AB1,Pn.hit,Pn.kind]
theorem lZ (t k:Int) (hk:k=4∨k=5) (e:Ex) (a b:Pn):scP t (aY k e a b)=(scP t a || scP t b):=by
 have:k≠1:=by omega
 simp[aY,scP,AB1,Pn.hit,Pn.kind,this]
@[simp] theorem AN3 (t:Int) (a b:Pn):scP t (bY a b)=(scP t a || scP t b):=by simp[bY,scP,AB1,Pn.hit,Pn.kind]
@[simp] theorem AGF (t:Int) (a:Pn):scP t (.mk 7 0 [] [] [a])=scP t a:=by simp[scP,AB1,Pn.hit,Pn.kind]
theorem AKL {ws:List Int} {r:Int} {e:Ex} {k q:Pn} {m:Nat} (hk:k.wd ws m≠0) (h:rwF ws r e k=some q) (t:Int):scP t q=scP t k:=by
 obtain⟨s2,s3,s45,s6,s7⟩:=uY (sZ hk);unfold rwF at h;split at h
 ·rename_i hc;obtain⟨e2,a,rfl⟩:=s2 hc.2;injection h with h;subst h;simp[filt,Pn.gJ,Pn.kids];simp[scP,AB1,Pn.hit,Pn.kind]
 split at h
 ·injection h with h;subst h;simp
 split at h
 ·rename_i hc;obtain⟨e2,a,b,hk2⟩:=s45 _ hc.2.1 rfl;have hkd:=hc.2.1;generalize k.kind=kd at *
  subst hk2;injection h with h;subst h;rw[lZ t kd hkd,lZ t kd hkd];simp[aY,Pn.gJ,Pn.mR,Pn.kids]
 split at h
 ·rename_i hc;obtain⟨e2,a,b,rfl⟩:=s45 4 (.inl rfl) hc.2.1;injection h with h;subst h;rw[lZ t 4 (.inl rfl),lZ t 4 (.inl rfl)];simp[aY,Pn.gJ,Pn.mR,Pn.kids]
 split at h
 ·rename_i hc;obtain⟨e2,a,b,rfl⟩:=s45 4 (.inl rfl) hc.2;injection h with h;subst h;rw[lZ t 4 (.inl rfl),lZ t 4 (.inl rfl)];simp[aY,Pn.gJ,Pn.mR,Pn.kids]
 split at h
 ·rename_i hc;obtain⟨e2,a,b,rfl⟩:=s45 5 (.inr rfl) hc.2.1;injection h with h;subst h;rw[XJ,lZ t 4 (.inl rfl),lZ t 5 (.inr rfl)];simp[aY,Pn.gJ,Pn.mR,Pn.kids]
 split at h
 ·rename_i hc;obtain⟨a,b,rfl⟩:=s6 hc.2;injection h with h;subst h;simp;simp[bY,Pn.gJ,Pn.mR,Pn.kids]
 split at h
 ·rename_i hc;obtain⟨es,a,rfl⟩:=s3 hc.2;injection h with h;subst h;simp;simp[proj,Pn.gJ,Pn.kids]
 ·cases h
theorem AKK {ws:List Int} {r:Int} {p q:Pn} {m:Nat} (hp:p.wd ws m≠0) (h:rwP ws r p=some q) (t:Int):scP t q=scP t p:=by
 have hs:=sZ hp;obtain⟨s2,s3,s45,s6,s7⟩:=uY hs;unfold rwP at h;split at h
 ·rename_i hc;obtain⟨e,k,rfl⟩:=s2 hc;rw[XJ]
  cases hs with
  | filt m' _ _ _ hk _=>exact AKL hk h t
 split at h
 ·rename_i hc;obtain⟨e,a,b,rfl⟩:=s45 4 (.inl rfl) hc.2;injection h with h;subst h;rw[JA,lZ t 4 (.inl rfl),lZ t 4 (.inl rfl),Bool.or_comm];simp[aY,Pn.gJ,Pn.mR,Pn.kids]
 split at h
 ·rename_i hc;obtain⟨a,rfl⟩:=s7 hc.2.1;injection h with h;subst h;rw[AGF];rfl
 split at h
 ·rename_i hc;obtain⟨es,a,rfl⟩:=s3 hc.2.1;injection h with h;subst h;rw[JA,JA]
  cases hs with
  | proj m' _ _ _ ha _ _ =>
   obtain⟨es2,b,rfl⟩:=(uY (sZ ha)).2.1 hc.2.2;rw[JA];rfl
 ·cases h
theorem R3 (t:Int):∀ l:List Pn,AB1 t l=l.any (scP t)
 | []=>rfl
 | p::l=>by simp[AB1,R3 t l]
theorem AAM {α:Type} (f:α→Bool):∀ (l:List α) (i:Nat) (a b:α),l[i]?=some a→f b=f a→(l.set i b).any f=l.any f
 | [],i,a,b,h,_=>by simp at h
 | x::l,0,a,b,h,hf=>by simp at h;subst h;simp[hf]
 | x::l,i+1,a,b,h,hf=>by simp[AAM f l i a b (by simpa using h) hf]
theorem AEY {t:Int} {q:Pn}:∀ (path:List Int) (p a:Pn),Pn.at path p=some a→scP t q=scP t a→scP t (Pn.put path p q)=scP t p
 | [],p,a,h,hq=>by simp only[Pn.at,Option.some.injEq]at h;subst h;simpa [Pn.put]using hq
 | i::r,p,a,h,hq=>by
  obtain⟨n,rfl,b,hb,hr⟩:=Pn.oD h;have:=AEY r b a hr hq;obtain⟨k,tb,es,cs,ks⟩:=p;have hb:ks[n]?=some b:=hb;have e:Pn.put ((n:Int)::r) (Pn.mk k tb es cs ks) q=.mk k tb es cs (ks.set n (Pn.put r b q)):=by simp[Pn.put,Pn.kind,Pn.table,Pn.exprs,Pn.cols,Pn.kids,hb]
  rw[e];simp only[scP,R3,AAM (scP t) _ _ _ _ hb this];rfl
theorem AMJ {p q:Pn} {ws:List Int} {r:Int} {path:List Int} (h:apO p ws r path=some q) (t:Int):scP t q=scP t p:=by
 unfold apO at h;split at h
 ·cases h
 rename_i h0;obtain⟨hw,hp8⟩:=oN h0;unfold apI at h;split at h
 ·rename_i hl
  cases ha:Pn.at path p with
  | none=>simp[ha]at h
  | some a =>
   obtain⟨-,hv⟩:=O3 path p 8 a hp8 ha;simp only[ha,yU,rwL]at h
   cases hr:rwP ws r a with
   | none=>simp[hr]at h
   | some x =>
    simp only[hr,yU]at h;by_cases hx:x.wd ws (8-path.length)=0
    ·simp[hx]at h
    ·simp[hx]at h;subst h;exact AEY path p a ha (AKK hv hr t)
 ·cases h
def aps (ws:List Int):List (Int×List Int)→Pn→Option Pn
 | [],p=>some p
 | s::l,p=>(apO p ws s.1 s.2).bind (aps ws l)
theorem IR (ws:List Int):∀ (a b:List (Int×List Int)) (p:Pn),aps ws (a++b) p=(aps ws a p).bind (aps ws b)
 | [],b,p=>rfl
 | s::a,b,p=>by
  simp only[yD,aps]
  cases apO p ws s.1 s.2 with
  | none=>rfl
  | some q=>exact IR ws a b q
theorem uQ (ws:List Int) (l:List (Int×List Int)) (s:Int×List Int) (p:Pn):aps ws (l++[s]) p=(aps ws l p).bind fun x=>apO x ws s.1 s.2:=by
 rw[IR];congr 1;funext x;simp only[aps]
 cases apO x ws s.1 s.2<;>rfl
theorem TB (ws:List Int) (p:Pn) (l:List (Int×List Int)):∃ j x,j≤l.length∧(∀ i,i≤j→∃ y,aps ws (l.take i) p=some y)∧aps ws (l.take j) p=some x∧((j=l.length∧aps ws l p=some x)∨∃ s,l[j]?=some s∧apO x ws s.1 s.2=none∧aps ws l p=none):=by
 generalize hn:l.length=n
 induction n generalizing l with
 | zero =>
  obtain rfl:=zX.1 hn;exact⟨0,p,by omega,fun i hi=>⟨p,by simp[aps]⟩,rfl, .inl ⟨rfl,rfl⟩⟩
 | succ n ih =>
  obtain⟨m,s,rfl⟩:∃ m s,l=m++[s]:=by
   rcases xG l with h|⟨m,s,h⟩
   ·rw[h]at hn;simp at hn
   ·exact⟨m,s,by simpa using h⟩
  have hm:m.length=n:=by simpa using hn
  obtain⟨j,x,h1,h2,h3,h4⟩:=ih m hm;have tk:∀ i,i≤j→(m++[s]).take i=m.take i:=fun i hi=>y9 (by omega)
  rcases h4 with ⟨hjm,h4⟩|⟨u,q1,q2,q3⟩
  ·cases hx:apO x ws s.1 s.2 with
   | none =>
    refine⟨j,x,by omega,fun i hi=>by rw[tk i (by omega)];exact h2 i (by omega),by rw[tk _ (by omega)];exact h3, .inr ⟨s,by rw[zM (by omega),show j-m.length=0 by omega];rfl,hx,?_⟩⟩;rw[uQ,h4];exact hx
   | some y =>
    have he:aps ws (m++[s]) p=some y:=by rw[uQ,h4];exact hx
    have ht:(m++[s]).take (n+1)=m++[s]:=zW (by simp;omega);refine⟨n+1,y,by omega,fun i hi=>?_,by rw[ht];exact he, .inl ⟨by omega,he⟩⟩;by_cases hi2:i≤m.length
    ·rw[tk i (by omega)];exact h2 i (by omega)
    ·obtain rfl:i=n+1:=by omega
     exact⟨y,by rw[ht];exact he⟩
  ·have hj:=(zZ.1 q1).1;refine⟨j,x,by omega,fun i hi=>by rw[tk i hi];exact h2 i hi,by rw[tk j (by omega)];exact h3, .inr ⟨u,by rw[zJ hj];exact q1,q2,?_⟩⟩;rw[uQ,q3];rfl
theorem EU {ws:List Int}:∀ (l:List (Int×List Int)) (p q:Pn),aps ws l p=some q→q.width ws=p.width ws∧(∀ t,scP t q=scP t p)∧(p.width ws≠0→q.wd ws 8≠0)
 | [],p,q,h=>by
  simp only[aps,Option.some.injEq]at h;subst h;exact⟨rfl,fun _=>rfl,fun h=>(oN h).2⟩
 | s::l,p,q,h=>by
  simp only[aps]at h
  cases hx:apO p ws s.1 s.2 with
  | none=>rw[hx]at h;cases h
  | some x =>
   rw[hx]at h;obtain⟨h1,h2,h3⟩:=EU l x q h
   have hw:x.width ws=p.width ws:=by
    have hx':=hx;unfold apO at hx';split at hx'
    ·cases hx'
    ·rename_i h0;obtain⟨hw,hp8⟩:=oN h0
     have hr:∀ w∈ws,0≤w∧w≤6:=fun w hm=>by
      unfold jI at hw;simp only[zU]at hw;have:=zR.1 hw.2 w hm;unfold bI at this;simp at this;omega
     rw[AIG hr hp8]at hx';have:=AMI hr hp8 hx';unfold Pn.width;rw[if_pos hw,if_pos hw];exact this
   exact⟨h1.trans hw,fun t=>(h2 t).trans (AMJ hx t),fun h=>h3 (by rw[hw];exact h)⟩
def KE (p:Pn) (ws:List Int) (l:List (Int×List Int)):Option Pn:=if p.width ws=0∨40<l.length then none else aps ws l p
def jkL (i:Nat) (l:StL):StL:=if i=0 then []else l
@[simp] theorem AVR (l:StL):jkL 0 l=[]:=(rfl)
@[simp] theorem ANL (i:Nat) (l:StL):jkL (i+1) l=l:=(rfl)
theorem vM {i:Nat} (h:i≠0) (l:StL):jkL i l=l:=by unfold jkL;rw[if_neg h]
def jA (i:Nat) (v:AV):AV:=if i=0 then .junk else v
@[simp] theorem Ac0 (v:AV):jA 0 v=.junk:=(rfl)
@[simp] theorem AOW (i:Nat) (v:AV):jA (i+1) v=v:=(rfl)
theorem H9 {i:Nat} (h:i≠0) (v:AV):jA i v=v:=by unfold jA;rw[if_neg h]
theorem QP {ws:List Int} {p:Pn} (h:p.wd ws 8≠0):p.tiny∧p.size<512:=by
 have:=Pn.KY p 8 h;exact⟨this.1,by omega⟩
end Go.Av
namespace Go.Proofs.YtjdfjgmebalaaaaGreat.P
open Go Go.Av
set_option maxRecDepth 4000
set_option maxHeartbeats 1000000
@[simp] theorem AM9 (a:List AV) (st:StL):aI CA 59 a st=aI C0 59 a st:=by rw[bH (p:=aI C0 59) rfl]
@[simp] theorem ANV (a:List AV) (st:StL):aI CA 54 a st=aI C0 54 a st:=by rw[bH (p:=aI C0 54) rfl]
@[simp] theorem AM8 (a:List AV) (st:StL):aI CA 51 a st=aI C0 51 a st:=by rw[bH (p:=aI C0 51) rfl]
@[simp] theorem AJG (a:List AV) (st:StL):aI CA 71 a st=aI C0 71 a st:=by rw[bH (p:=aI C0 71) rfl]
theorem QF {p:Pn} (hp:p.thin):aI CA 62 [.i (.agg p.cells)] []=some (.i (.agg p.cells),[]):=by
 have:=Q6 p hp;rw[bH (p:=AHR (aI C0) 62) rfl]at this ⊢;exact this
theorem NL {p:Pn} {ws:List Int} (h:p.wd ws 8≠0):aI C0 59 [.i (.iref p.cells)] []=some (.i (.agg p.cells),[]):=by
 rw[bH (p:=NK) rfl];exact SK ⟨by have:=(QP h).2;omega,cB p 8 h,(QP h).1⟩
def zpB:Option Blk:=some (.box [.int 0, .int 0, .nils, .nils, .nils])
def stB (s:Int×List Int):Option Blk:=some (.box [.i (.int s.1), .i (.isl (aF s.2))])
def ASX (p:Pn) (ws:List Int) (l:List Stp) (i:Nat):AS :=
 { env:=[(0, .i (.agg p.cells)),(1, .i (.isl (aF ws))),(2, .i (.isl (dQ l))),(3, .own 0 0),(6, .own 1 0),(7, .bool false),(8, .own 2 0),(10,jA i (.own 3 0)),(11,jA i (.own 4 0)),(12,jk i (.bool true)),(21, .bool false),(24, .i (.isl (dQ l))),(25, .int l.length),(26, .int i),(27,jk i (.bool true)),(38,jk i (.bool false))],
   st:=[some (.fbox p.cells),zpB,KO ((aps ws (l.take i) p).getD Pn.zero)]++jkL i [stB ((l[i-1]?).getD (0,[])),KO ((aps ws (l.take i) p).getD Pn.zero)] }
theorem KM (p:Pn) (ws:List Int) (l:List Stp):aI CA 40 [.i (.agg p.cells), .i (.isl (aF ws)), .i (.isl (dQ l))] []=some (apR (KE p ws l)):=by
 have c1:=lN p ws;have ea:=fun q r path=>NW q ws r path
 rw[aD rfl Tryz.func40 rfl rfl];by_cases h0:p.width ws=0
 ·have hn:KE p ws l=none:=by simp[KE,h0]
  rw[Pn.aA p]at c1 ⊢;simp[c1,h0,hn,apR,Pn.zero,Pn.cells,Ex.aB,aF,Pn.aB]
 obtain⟨hw,hp8⟩:=oN h0;by_cases h4:(40:Int)<l.length
 ·have hn:KE p ws l=none:=by
   unfold KE;rw[if_pos (.inr (by omega))]
  rw[Pn.aA p]at c1 ⊢;simp[c1,h0,h4,hn,apR,Pn.zero,Pn.cells,Ex.aB,aF,Pn.aB]
 have c2:=NL hp8;obtain⟨j,x,hj,h1,h2,h3⟩:=TB ws p l;have hne:KE p ws l=aps ws l p:=by unfold KE;rw[if_neg (by omega)]
 rw[hne];rw[Pn.aA p]at c1 c2;rw[Pn.aA p];simp[c1,h0,h4,c2];rw[aO (ASX p ws l) j (by simp[ASX,zpB,KO,aps,Pn.aA p])]
 ·rw[aG]
  rcases h3 with ⟨rfl,h3⟩|⟨s,q1,q2,q3⟩
  ·rw[h3];simp only[ASX,h2,yO,zpB,KO,stB];by_cases hi0:l.length=0
   ·simp[hi0,apR,Pn.aA p,Pn.aA x]
   ·simp[hi0,bZ hi0,vM hi0,H9 hi0,apR,Pn.aA p,Pn.aA x]
  ·have hjl:=(zZ.1 q1).1;have r1:=kN q1;have e5:=ea x s.1 s.2;rw[q2]at e5;rw[q3];simp only[OM]at r1;simp only[ASX,h2,yO,zpB,KO,stB];rw[Pn.aA x]at e5;simp[apR,Pn.zero,Pn.cells,Ex.aB,aF,Pn.aB]at e5;by_cases hi0:j=0
   ·subst hi0;simp[hjl,r1,e5,apR,Pn.aA p,Pn.aA x,Pn.zero,Pn.cells,Ex.aB,aF,Pn.aB]
   ·simp[hi0,bZ hi0,vM hi0,H9 hi0,hjl,r1,e5,apR,Pn.aA p,Pn.aA x,Pn.zero,Pn.cells,Ex.aB,aF,Pn.aB]
 ·intro i hi;obtain⟨y,hy⟩:=h1 i (by omega);obtain⟨y',hy'⟩:=h1 (i+1) (by omega);have hil:i<l.length:=by omega
  have q1:=zY hil;have q2:l[i+1-1]?=some l[i]:=by simp[q1]
  generalize l[i]=s at q1 q2;have r1:=kN q1;simp only[OM]at r1
  have hs:apO y ws s.1 s.2=some y':=by
   rw[zA1,q1]at hy';simp only[Option.toList_some]at hy';rw[uQ,hy]at hy';exact hy'
  have e5:=ea y s.1 s.2;rw[hs]at e5;have w2:IntKind.i64.wrap ((i:Int)+1)=i+1:=wrO;simp only[ASX,hy,hy',yO,zpB,KO,stB,q2];rw[Pn.aA y]at e5;simp[apR,Pn.aA y']at e5;by_cases hi0:i=0
  ·subst hi0;simp[hil,r1,e5,w2,Pn.aA p]
  ·simp[hi0,bZ hi0,vM hi0,H9 hi0,hil,r1,e5,w2,Pn.aA p]
def AMQ (p:Pn) (ws:List Int) (l:List Stp) (i:Nat):AS :=
 { env:=[(0, .i (.agg p.cells)),(1, .i (.isl (aF ws))),(2, .i (.isl (dQ l))),(3, .own 0 0),(6, .own 1 0),(7, .bool false),(8, .own 2 0),(9, .int i),(10,jA i (.own 3 0)),(11,jk i (.bool true)),(20, .bool false),(27,jk i (.bool true)),(41,jk i (.bool false))],
   st:=[KO p,zpB,KO ((aps ws (l.take i) p).getD Pn.zero)]++jkL i [KO ((aps ws (l.take i) p).getD Pn.zero)] }
theorem FC (p:Pn) (hp:p.thin) (ws:List Int) (hl:ws.length<1000000000) (l:List Stp) (hpl:∀ s∈l,s.2.length<1000000000):aI CA 39 [.i (.agg p.cells), .i (.isl (aF ws)), .i (.isl (dQ l))] []=some (apR (KE p ws l)):=by
 have c1:=FP p (Pn.J6 p hp) ws (by omega);rw[aD rfl Tryz.func39 rfl rfl];by_cases h0:p.width ws=0
 ·have hn:KE p ws l=none:=by simp[KE,h0]
  rw[Pn.aA p]at c1 ⊢;simp[c1,h0,hn,apR,Pn.zero,Pn.cells,Ex.aB,aF,Pn.aB]
 obtain⟨hw,hp8⟩:=oN h0;by_cases h4:(40:Int)<l.length
 ·have hn:KE p ws l=none:=by
   unfold KE;rw[if_pos (.inr (by omega))]
  rw[Pn.aA p]at c1 ⊢;simp[c1,h0,h4,hn,apR,Pn.zero,Pn.cells,Ex.aB,aF,Pn.aB]
 have c2:=QF hp;obtain⟨j,x,hj,h1,h2,h3⟩:=TB ws p l;have hne:KE p ws l=aps ws l p:=by unfold KE;rw[if_neg (by omega)]
 have hth:∀ i y,aps ws (l.take i) p=some y→y.thin:=fun i y h=>cB y 8 ((EU _ _ _ h).2.2 h0)
 rw[hne];rw[Pn.aA p]at c1 c2;rw[Pn.aA p];simp[c1,h0,h4,c2];rw[aO (AMQ p ws l) j (by simp[AMQ,zpB,KO,aps,Pn.aA p])]
 ·rw[aG]
  rcases h3 with ⟨rfl,h3⟩|⟨s,q1,q2,q3⟩
  ·rw[h3];simp only[AMQ,h2,yO,zpB,KO];by_cases hi0:l.length=0
   ·simp[hi0,apR,Pn.aA p,Pn.aA x]
   ·simp[hi0,bZ hi0,vM hi0,H9 hi0,apR,Pn.aA p,Pn.aA x]
  ·have hjl:=(zZ.1 q1).1;have r1:=kN q1;have e5:=tV x (hth j x h2) ws (by omega) s.1 s.2 (hpl s (zV q1));rw[q2]at e5;rw[q3];simp only[OM]at r1;simp only[AMQ,h2,yO,zpB,KO];rw[Pn.aA x]at e5;simp[apR,Pn.zero,Pn.cells,Ex.aB,aF,Pn.aB]at e5;by_cases hi0:j=0
   ·subst hi0;simp[hjl,r1,e5,apR,Pn.aA p,Pn.aA x,Pn.zero,Pn.cells,Ex.aB,aF,Pn.aB]
   ·simp[hi0,bZ hi0,vM hi0,H9 hi0,hjl,r1,e5,apR,Pn.aA p,Pn.aA x,Pn.zero,Pn.cells,Ex.aB,aF,Pn.aB]
 ·intro i hi;obtain⟨y,hy⟩:=h1 i (by omega);obtain⟨y',hy'⟩:=h1 (i+1) (by omega);have hil:i<l.length:=by omega
  have q1:=zY hil;generalize l[i]=s at q1;have r1:=kN q1;simp only[OM]at r1
  have hs:apO y ws s.1 s.2=some y':=by
   rw[zA1,q1]at hy';simp only[Option.toList_some]at hy';rw[uQ,hy]at hy';exact hy'
  have e5:=tV y (hth i y hy) ws (by omega) s.1 s.2 (hpl s (zV q1));rw[hs]at e5;have w2:IntKind.i64.wrap ((i:Int)+1)=i+1:=wrO;simp only[AMQ,hy,hy',yO,zpB,KO];rw[Pn.aA y]at e5;simp[apR,Pn.aA y']at e5;by_cases hi0:i=0
  ·subst hi0;simp[hil,r1,e5,w2,Pn.aA p]
  ·simp[hi0,bZ hi0,vM hi0,H9 hi0,hil,r1,e5,w2,Pn.aA p]
def ckO (p q:Pn) (ws:List Int) (l:List Stp):Bool:=match KE p ws l with
 | some x=>x.eqb q
 | none=>false
theorem O4 {p x:Pn} {ws:List Int} {l:List Stp} (h:KE p ws l=some x):x.thin∧p.width ws≠0∧x.width ws=p.width ws∧l.length≤40∧aps ws l p=some x:=by
 unfold KE at h;split at h
 ·cases h
 rename_i hn;have hn1:p.width ws≠0:=fun h=>hn (.inl h)
 obtain⟨h1,h2,h3⟩:=EU _ _ _ h;exact⟨cB x 8 (h3 hn1),hn1,h1,by omega,h⟩
theorem F5 (p q:Pn) (ws:List Int) (l:List Stp):aI CA 16 [.i (.agg p.cells), .i (.agg q.cells), .i (.isl (aF ws)), .i (.isl (dQ l))] []=some (.bool (ckO p q ws l),[]):=by
 have c1:=KM p ws l;rw[aD rfl Tryz.func16 rfl rfl];unfold ckO
 cases h:KE p ws l with
 | none =>
  rw[h]at c1;rw[Pn.aA p,Pn.aA q]at *
  simp[apR,Pn.zero,Pn.cells,Ex.aB,aF,Pn.aB]at c1;simp[c1]
 | some x =>
  rw[h]at c1;have c2:=ZR x (O4 h).1 q;rw[Pn.aA p]at c1 ⊢;rw[Pn.aA q,Pn.aA x]at c2;rw[Pn.aA q];simp[apR,Pn.aA x]at c1;simp[c1,c2]
theorem AB (p:Pn) (hp:p.thin) (q:Pn) (ws:List Int) (hl:ws.length<1000000000) (l:List Stp) (hpl:∀ s∈l,s.2.length<1000000000):aI CA 12 [.i (.agg p.cells), .i (.agg q.cells), .i (.isl (aF ws)), .i (.isl (dQ l))] []=some (.bool (ckO p q ws l),[]):=by
 have c1:=FC p hp ws hl l hpl;rw[aD rfl Tryz.func12 rfl rfl];unfold ckO
 cases h:KE p ws l with
 | none =>
  rw[h]at c1;rw[Pn.aA p,Pn.aA q]at *
  simp[apR,Pn.zero,Pn.cells,Ex.aB,aF,Pn.aB]at c1;simp[c1]
 | some x =>
  rw[h]at c1;have c2:=UH x (O4 h).1 q;rw[Pn.aA p]at c1 ⊢;rw[Pn.aA q,Pn.aA x]at c2;rw[Pn.aA q];simp[apR,Pn.aA x]at c1;simp[c1,c2]
end Go.Proofs.YtjdfjgmebalaaaaGreat.P
namespace Go.Proofs.YtjdfjgmebalaaaaGreat
open Go Go.Av
end Go.Proofs.YtjdfjgmebalaaaaGreat
namespace Go.Av
theorem uI (P:Nat→Prop) [DecidablePred P]:∀ n:Nat,(∀ i,i<n→P i)∨∃ j,j<n∧(∀ i,i<j→P i)∧¬ P j
 | 0=>.inl fun i hi=>by omega
 | n+1=>by
  rcases uI P n with h|⟨j,h1,h2,h3⟩
  ·by_cases hn:P n
   ·exact .inl fun i hi=>by
     by_cases e:i=n
     ·subst e;exact hn
     ·exact h i (by omega)
   ·exact .inr ⟨n,by omega,h,hn⟩
  ·exact .inr ⟨j,by omega,h2,h3⟩
def bN (left:Int) (n:Nat):Int:=if(n:Int)≤left then left-n else -1
theorem OW (l:List Ex) {i:Nat} {a:Ex} (h:l[i]?=some a):Ex.aZ (l.take (i+1))=Ex.aZ (l.take i)+a.size:=by
 induction l generalizing i with
 | nil=>simp at h
 | cons b l ih =>
  cases i with
  | zero=>simp at h;subst h;simp[Ex.aZ]
  | succ i=>have:=ih (i:=i) (by simpa using h);simp only[yX,Ex.aZ]at this ⊢;omega
theorem UG (l:List Ex) (i:Nat):Ex.aZ (l.take i)≤Ex.aZ l:=by
 induction l generalizing i with
 | nil=>simp[Ex.aZ]
 | cons b l ih =>
  cases i with
  | zero=>simp[Ex.aZ]
  | succ i=>simp only[yX,Ex.aZ];have:=ih i;omega
theorem rC:∀ (l:List Ex) (i:Nat),i≤l.length→i≤Ex.aZ (l.take i)
 | [],i,h=>by simp at h;subst h;simp
 | a::l,0,_=>by simp
 | a::l,i+1,h=>by
  have:=rC l i (by simpa using h);have:=Ex.qH a;simp only[yX,Ex.aZ];omega
end Go.Av
namespace Go.Proofs.YtjdfjgmebalaaaaGreat
open Go Go.Av
set_option maxRecDepth 4000
set_option maxHeartbeats 1000000
theorem AK3 {e:Ex} {left:Int} (h:aI C0 48 [.i (.isl (Ex.aB e.kids)), .int left] []=some (.int (bN left (Ex.aZ e.kids)),[])) :
 aI C0 82 [.i (.agg e.cells), .int left] []=some (.int (bN left (Ex.aZ e.kids)),[]):=by
 rw[aD rfl Tryz.func82 rfl rfl,Ex.aA];simp[h];by_cases h0:bN left (Ex.aZ e.kids)<0
 ·have:bN left (Ex.aZ e.kids)=-1:=by unfold bN at h0 ⊢;split<;>rename_i hc<;>simp[hc]at h0 ⊢;omega
  simp[h0,this]
 ·simp[h0]
def szI (l:List Ex) (left:Int) (i:Nat):Int:=left-l.length-(Ex.aZ (l.take i)-i)
def SZ (l:List Ex) (left:Int) (i:Nat):AS :=
 { env:=[(0, .i (.isl (Ex.aB l))),(1, .int (szI l left i)),(4, .int 0),(5, .int i),(11, .bool false),(15,jk i (.bool true)),(25,jk i (.bool false))],st:=[] }
theorem QS {l:List Ex} {left:Int} (h0:0≤left) (h1:left<1000000000) (hl:l.length<9223372036854775808)
 (ih:∀ a∈l,∀ left:Int,0≤left→left<1000000000→aI C0 82 [.i (.agg a.cells), .int left] []=some (.int (bN left (Ex.aZ a.kids)),[])) :
 aI C0 48 [.i (.isl (Ex.aB l)), .int left] []=some (.int (bN left (Ex.aZ l)),[]):=by
 rw[aD rfl Tryz.func48 rfl rfl];have w1:IntKind.i64.wrap (left-l.length)=left-l.length:=wrO;have hsl:=Ex.bK l;by_cases hc:left-l.length<0
 ·have:¬ ((Ex.aZ l:Nat):Int)≤left:=by omega
  simp[w1,hc,bN,this]
 simp[w1,hc]
 have hpre:∀ i,i<l.length→∃ a,l[i]?=some a∧a∈l∧Ex.aZ (l.take (i+1))=Ex.aZ (l.take i)+(1+Ex.aZ a.kids)∧fI (Ex.aB l) i=some a.cells:=by
  intro i hi;have h3:=zY hi;refine⟨_,h3,zV h3,?_,Ex.aJ h3⟩;rw[OW l h3,Ex.size_eq]
 have hround:∀ i,i<l.length→0≤szI l left i→∃ a:Ex,fI (Ex.aB l) i=some a.cells∧aI C0 82 [.i (.agg a.cells), .int (szI l left i)] []=some (.int (if 0≤szI l left (i+1)then szI l left (i+1)else -1),[]):=by
  intro i hi hs;obtain⟨a,h3,hm,hz,hn⟩:=hpre i hi;have hti:=rC l i (by omega);refine⟨a,hn,?_⟩;rw[ih a hm _ hs (by unfold szI;omega)];congr 2;unfold bN;congr 1;by_cases hle:((Ex.aZ a.kids:Nat):Int)≤szI l left i
  ·rw[if_pos hle,if_pos (by unfold szI at hle ⊢;omega)];unfold szI;omega
  ·rw[if_neg hle,if_neg (by unfold szI at hle ⊢;omega)]
 rcases uI (fun i=>0≤szI l left (i+1)) l.length with hall|⟨j,hj,hlt,hbad⟩
 ·rw[aO (SZ l left) l.length (by simp[SZ,szI,Ex.aZ])]
  ·rw[aG]
   have hfin:bN left (Ex.aZ l)=szI l left l.length:=by
    have hT:l.take l.length=l:=zW (by simp)
    have hge:0≤szI l left l.length:=by
     cases hn:l.length with
     | zero=>unfold szI;rw[hn];simp[Ex.aZ];omega
     | succ n=>exact hn ▸ hall n (by omega)
    unfold bN;unfold szI at hge ⊢;rw[hT]at hge ⊢;rw[if_pos (by omega)];omega
   rw[hfin];simp[SZ]
  ·intro i hi
   have hs:0≤szI l left i:=by
    cases i with
    | zero=>unfold szI;simp[Ex.aZ];omega
    | succ i=>exact hall i (by omega)
   obtain⟨a,hn,hc⟩:=hround i hi hs;have hs1:=hall i hi;have hs1:0≤szI l left (i+1):=hs1;rw[if_pos hs1]at hc;have w2:IntKind.i64.wrap ((i:Int)+1)=i+1:=wrO;rw[Ex.aA]at hn hc;simp[SZ,hi,hn,hc,w2,show ¬ szI l left (i+1)<0 by omega]
 ·have hsl2:bN left (Ex.aZ l)=-1:=by
   have hm:=UG l (j+1);have hbad:¬ 0≤szI l left (j+1):=hbad;obtain⟨a,h3,_,_,_⟩:=hpre j hj
   have hrest:Ex.aZ (l.take (j+1))+(l.length-(j+1))≤Ex.aZ l:=by
    have e1:Ex.aZ l=Ex.aZ (l.take (j+1))+Ex.aZ (l.drop (j+1)):=by
     have key:∀ (n:Nat) (l:List Ex),Ex.aZ l=Ex.aZ (l.take n)+Ex.aZ (l.drop n):=by
      intro n
      induction n with
      | zero=>intro l;simp[Ex.aZ]
      | succ n ih=>intro l;cases l with
       | nil=>simp[Ex.aZ]
       | cons b l=>simp only[yX,xP,Ex.aZ];have:=ih l;omega
     exact key _ _
    have e2:=Ex.bK (l.drop (j+1));simp at e2;omega
   unfold bN;unfold szI at hbad;rw[if_neg (by omega)]
  rw[hsl2,aO (SZ l left) j (by simp[SZ,szI,Ex.aZ])]
  ·rw[aG]
   have hs:0≤szI l left j:=by
    cases j with
    | zero=>unfold szI;simp[Ex.aZ];omega
    | succ j=>exact hlt j (by omega)
   obtain⟨a,hn,hc⟩:=hround j hj hs;have hbad:¬ 0≤szI l left (j+1):=hbad;rw[if_neg hbad]at hc;rw[Ex.aA]at hn hc;simp[SZ,hj,hn,hc]
  ·intro i hi
   have hs:0≤szI l left i:=by
    cases i with
    | zero=>unfold szI;simp[Ex.aZ];omega
    | succ i=>exact hlt i (by omega)
   obtain⟨a,hn,hc⟩:=hround i (by omega) hs;have hs1:0≤szI l left (i+1):=hlt i hi;rw[if_pos hs1]at hc;have w2:IntKind.i64.wrap ((i:Int)+1)=i+1:=wrO;rw[Ex.aA]at hn hc;simp[SZ,show i<l.length by omega,hn,hc,w2,show ¬ szI l left (i+1)<0 by omega]
end Go.Proofs.YtjdfjgmebalaaaaGreat
namespace Go.Av
mutual
def Ex.fat:Ex→Prop
 | .mk _ _ _ ks=>ks.length<9223372036854775808∧Ex.ZN ks
def Ex.ZN:List Ex→Prop
 | []=>True
 | e::es=>e.fat∧Ex.ZN es
end
theorem Ex.uJ:∀ (l:List Ex),Ex.ZN l↔∀ k∈l,k.fat
 | []=>by simp[Ex.ZN]
 | e::es=>by simp[Ex.ZN,Ex.uJ es]
theorem Ex.rZ (e:Ex):e.fat↔e.kids.length<9223372036854775808∧∀ k∈e.kids,k.fat:=by
 cases e;simp[Ex.fat,Ex.kids,Ex.uJ]
end Go.Av
namespace Go.Proofs.YtjdfjgmebalaaaaGreat
open Go Go.Av
set_option maxRecDepth 4000
set_option maxHeartbeats 2000000
theorem AO1:∀ (e:Ex),e.fat→∀ left:Int,0≤left→left<1000000000→aI C0 82 [.i (.agg e.cells), .int left] []=some (.int (bN left (Ex.aZ e.kids)),[]):=by
 intro e
 induction e using Ex.ind with
 | h k c v ks ih =>
  intro hf left h0 h1;have hf':=(Ex.rZ _).1 hf;exact AK3 (QS h0 h1 hf'.1 fun a ha=>ih a ha (hf'.2 a ha))
theorem AK1 (l:List Ex) (hl:l.length<9223372036854775808) (hf:∀ a∈l,a.fat) (left:Int) (h0:0≤left) (h1:left<1000000000):aI C0 48 [.i (.isl (Ex.aB l)), .int left] []=some (.int (bN left (Ex.aZ l)),[]) :=
 QS h0 h1 hl fun a ha=>AO1 a (hf a ha)
theorem ADE (v:Val):aI C0 124 [.i (.agg [.bool v.null, .int v.n]), .i (.agg [.bool v.null, .int v.n])] []=some (.bool true,[]):=by
 rw[aD rfl Tryz.func124 rfl rfl];simp
theorem ALX {e:Ex} (h:aI C0 55 [.i (.isl (Ex.aB e.kids)), .i (.isl (Ex.aB e.kids))] []=some (.bool true,[])):aI C0 87 [.i (.agg e.cells), .i (.agg e.cells)] []=some (.bool true,[]):=by
 rw[aD rfl Tryz.func87 rfl rfl,Ex.aA];have hv:=ADE e.val;simp[hv,h]
def EQ (l:List Ex) (i:Nat):AS :=
 { env:=[(0, .i (.isl (Ex.aB l))),(1, .i (.isl (Ex.aB l))),(4, .bool false),(5, .int i),(10, .bool false),(14,jk i (.bool true)),(26,jk i (.bool false))],st:=[] }
theorem AFB {l:List Ex} (hl:l.length<9223372036854775808) (ih:∀ a∈l,aI C0 87 [.i (.agg a.cells), .i (.agg a.cells)] []=some (.bool true,[])):aI C0 55 [.i (.isl (Ex.aB l)), .i (.isl (Ex.aB l))] []=some (.bool true,[]):=by
 rw[aD rfl Tryz.func55 rfl rfl];simp;rw[aO (EQ l) l.length (by simp[EQ])]
 ·rw[aG];simp[EQ]
 ·intro i hi;have h3:=zY hi;have hc:=ih _ (zV h3);have r2:=Ex.aJ h3;generalize l[i]=a at h3 hc r2;have w2:IntKind.i64.wrap ((i:Int)+1)=i+1:=wrO;rw[Ex.aA]at hc r2;simp[EQ,hi,r2,hc,w2]
theorem ADG:∀ (e:Ex),e.fat→aI C0 87 [.i (.agg e.cells), .i (.agg e.cells)] []=some (.bool true,[]):=by
 intro e
 induction e using Ex.ind with
 | h k c v ks ih =>
  intro hf;have hf':=(Ex.rZ _).1 hf;exact ALX (AFB hf'.1 fun a ha=>ih a ha (hf'.2 a ha))
theorem ADF (l:List Ex) (hl:l.length<9223372036854775808) (hf:∀ a∈l,a.fat):aI C0 55 [.i (.isl (Ex.aB l)), .i (.isl (Ex.aB l))] []=some (.bool true,[]):=AFB hl fun a ha=>ADG a (hf a ha)
end Go.Proofs.YtjdfjgmebalaaaaGreat
namespace Go.Av
mutual
def Pn.fat:Pn→Prop
 | .mk _ _ es cs ks=>es.length<9223372036854775808∧(∀ e∈es,e.fat)∧cs.length<9223372036854775808∧ks.length<9223372036854775808∧Pn.ZN ks
def Pn.ZN:List Pn→Prop
 | []=>True
 | p::ps=>p.fat∧Pn.ZN ps
end
theorem Pn.uJ:∀ (l:List Pn),Pn.ZN l↔∀ p∈l,p.fat
 | []=>by simp[Pn.ZN]
 | p::ps=>by simp[Pn.ZN,Pn.uJ ps]
theorem Pn.rZ (p:Pn):p.fat↔p.exprs.length<9223372036854775808∧(∀ e∈p.exprs,e.fat)∧p.cols.length<9223372036854775808∧p.kids.length<9223372036854775808∧∀ a∈p.kids,a.fat:=by
 cases p;simp[Pn.fat,Pn.uJ]
end Go.Av
namespace Go.Proofs.YtjdfjgmebalaaaaGreat.P
open Go Go.Av
set_option maxRecDepth 4000
set_option maxHeartbeats 4000000
def TIX (l:List Int) (i:Nat):AS :=
 { env:=[(0, .i (.isl (aF l))),(2, .nils),(3, .osl 0 1 0 l.length),(4, .int i),(11,jk i (.bool true))],st:=[some (.arr 1 (aF (l.take i)++List.replicate (l.length-i) [.int 0]))] }
theorem BM (l:List Int) (hl:l.length<1000000000):aI C0 14 [.i (.isl (aF l))] []=some (.i (.isl (aF l)),[]):=by
 rw[aD rfl Tryz.func14 rfl rfl];have hb:8*(l.length:Int)≤281474976710656:=by omega
 simp[hb];rw[aO (TIX l) l.length (by simp[TIX,aF])]
 ·rw[aG];simp[TIX]
 ·intro i hi;have h3:=zY hi;have r2:=aW h3;generalize l[i]=a at h3 r2;have w2:IntKind.i64.wrap ((i:Int)+1)=i+1:=wrO;have hD:(aF (l.take i)).length=i:=by simp;omega
  have g1:=lU (n:=l.length) (z:=[IV.int 0]) hD hi;have g2:=lT (n:=l.length) (z:=[IV.int 0]) (x:=[IV.int a]) hD hi;have hS:aF (l.take i)++[[IV.int a]]=aF (l.take (i+1)):=by rw[aM h3,mU]
  rw[hS]at g2;simp[TIX,hi,r2,w2,g1,g2]
def EIX (l:List Int) (i:Nat):AS :=
 { env:=[(0, .i (.isl (aF l))),(1, .i (.isl (aF l))),(4, .bool false),(5, .int i),(10, .bool false),(14,jk i (.bool true)),(25,jk i (.bool false))],st:=[] }
theorem sD (l:List Int) (hl:l.length<9223372036854775808):aI C0 18 [.i (.isl (aF l)), .i (.isl (aF l))] []=some (.bool true,[]):=by
 rw[aD rfl Tryz.func18 rfl rfl];simp;rw[aO (EIX l) l.length (by simp[EIX])]
 ·rw[aG];simp[EIX]
 ·intro i hi;have h3:=zY hi;have r2:=aW h3;generalize l[i]=a at h3 r2;have w2:IntKind.i64.wrap ((i:Int)+1)=i+1:=wrO;simp[EIX,hi,r2,w2]
theorem ZT {p:Pn} (h1:aI C0 55 [.i (.isl (Ex.aB p.exprs)), .i (.isl (Ex.aB p.exprs))] []=some (.bool true,[])) (h2:aI C0 18 [.i (.isl (aF p.cols)), .i (.isl (aF p.cols))] []=some (.bool true,[])) (h3:aI C0 56 [.i (.isl (Pn.aB p.kids)), .i (.isl (Pn.aB p.kids))] []=some (.bool true,[])) :
 aI C0 17 [.i (.agg p.cells), .i (.agg p.cells)] []=some (.bool true,[]):=by
 rw[aD rfl Tryz.func17 rfl rfl,Pn.aA];simp[h1,h2,h3]
def EPS (l:List Pn) (i:Nat):AS :=
 { env:=[(0, .i (.isl (Pn.aB l))),(1, .i (.isl (Pn.aB l))),(4, .bool false),(5, .int i),(10, .bool false),(14,jk i (.bool true)),(26,jk i (.bool false))],st:=[] }
theorem VC {l:List Pn} (hl:l.length<9223372036854775808) (ih:∀ a∈l,aI C0 17 [.i (.agg a.cells), .i (.agg a.cells)] []=some (.bool true,[])):aI C0 56 [.i (.isl (Pn.aB l)), .i (.isl (Pn.aB l))] []=some (.bool true,[]):=by
 rw[aD rfl Tryz.func56 rfl rfl];simp;rw[aO (EPS l) l.length (by simp[EPS])]
 ·rw[aG];simp[EPS]
 ·intro i hi;have h3:=zY hi;have hc:=ih _ (zV h3);have r2:=Pn.aJ h3;generalize l[i]=a at h3 hc r2;have w2:IntKind.i64.wrap ((i:Int)+1)=i+1:=wrO;rw[Pn.aA]at hc r2;simp[EPS,hi,r2,hc,w2]
theorem EG:∀ (p:Pn),p.fat→aI C0 17 [.i (.agg p.cells), .i (.agg p.cells)] []=some (.bool true,[]):=by
 intro p
 induction p using Pn.ind with
 | h k t es cs ks ih =>
  intro hf;obtain⟨h1,h2,h3,h4,h5⟩:=(Pn.rZ _).1 hf;exact ZT (ADF es h1 h2) (sD cs h3) (VC h4 fun a ha=>ih a ha (h5 a ha))
theorem AJX {e:Ex} (h:aI C0 52 [.i (.isl (Ex.aB e.kids))] []=some (.i (.isl (Ex.aB e.kids)),[])):aI C0 84 [.i (.agg e.cells)] []=some (.i (.agg e.cells),[]):=by
 have hv:aI C0 123 [.i (.agg [.bool e.val.null, .int e.val.n])] []=some (.i (.agg [.bool e.val.null, .int e.val.n]),[]):=by
  rw[aD rfl Tryz.func123 rfl rfl];simp
 rw[aD rfl Tryz.func84 rfl rfl,Ex.aA];simp[h,hv]
def TES (l:List Ex) (i:Nat):AS :=
 { env:=[(0, .i (.isl (Ex.aB l))),(2, .nils),(3, .osl 0 5 0 l.length),(4, .int i),(11,jk i (.bool true))],st:=[some (.arr 5 (Ex.aB (l.take i)++List.replicate (l.length-i) WB))] }
theorem X6 {l:List Ex} (hl:l.length<1000000000) (ih:∀ a∈l,aI C0 84 [.i (.agg a.cells)] []=some (.i (.agg a.cells),[])):aI C0 52 [.i (.isl (Ex.aB l))] []=some (.i (.isl (Ex.aB l)),[]):=by
 rw[aD rfl Tryz.func52 rfl rfl];have hb:56*(l.length:Int)≤281474976710656:=by omega
 simp[hb];rw[aO (TES l) l.length (by simp[TES,Ex.aB,WB])]
 ·rw[aG];simp[TES]
 ·intro i hi;have h3:=zY hi;have hc:=ih _ (zV h3);have r2:=Ex.aJ h3;generalize l[i]=a at h3 r2 hc;have w2:IntKind.i64.wrap ((i:Int)+1)=i+1:=wrO;have hD:(Ex.aB (l.take i)).length=i:=by simp;omega
  have g1:=lU (n:=l.length) (z:=WB) hD hi;have g2:=lT (n:=l.length) (z:=WB) (x:=a.cells) hD hi;have g3:splice WB 0 a.cells=some a.cells:=iP (by simp[WB]);have hS:Ex.aB (l.take i)++[a.cells]=Ex.aB (l.take (i+1)):=by rw[aM h3,Ex.aU]
  rw[hS]at g2;rw[Ex.aA]at hc r2 g2 g3;simp[TES,hi,r2,w2,g1,g2,g3,hc]
theorem X5:∀ (e:Ex),e.thin→aI C0 84 [.i (.agg e.cells)] []=some (.i (.agg e.cells),[]):=by
 intro e
 induction e using Ex.ind with
 | h k c v ks ih =>
  intro ht;have h:=(Ex.bC _).1 ht;exact AJX (X6 h.1 fun a ha=>ih a ha (h.2 a ha))
theorem AJW {p:Pn} (h1:aI C0 52 [.i (.isl (Ex.aB p.exprs))] []=some (.i (.isl (Ex.aB p.exprs)),[])) (h2:aI C0 14 [.i (.isl (aF p.cols))] []=some (.i (.isl (aF p.cols)),[])) (h3:aI C0 53 [.i (.isl (Pn.aB p.kids))] []=some (.i (.isl (Pn.aB p.kids)),[])) :
 aI C0 13 [.i (.agg p.cells)] []=some (.i (.agg p.cells),[]):=by
 rw[aD rfl Tryz.func13 rfl rfl,Pn.aA];simp[h1,h2,h3]
def zpw:List IV:=[.int 0, .int 0, .isl [], .isl [], .isl []]
def TPS (l:List Pn) (i:Nat):AS :=
 { env:=[(0, .i (.isl (Pn.aB l))),(2, .nils),(3, .osl 0 5 0 l.length),(4, .int i),(11,jk i (.bool true))],st:=[some (.arr 5 (Pn.aB (l.take i)++List.replicate (l.length-i) zpw))] }
theorem AFZ {l:List Pn} (hl:l.length<1000000000) (ih:∀ a∈l,aI C0 13 [.i (.agg a.cells)] []=some (.i (.agg a.cells),[])):aI C0 53 [.i (.isl (Pn.aB l))] []=some (.i (.isl (Pn.aB l)),[]):=by
 rw[aD rfl Tryz.func53 rfl rfl];have hb:88*(l.length:Int)≤281474976710656:=by omega
 simp[hb];rw[aO (TPS l) l.length (by simp[TPS,Pn.aB,zpw])]
 ·rw[aG];simp[TPS]
 ·intro i hi;have h3:=zY hi;have hc:=ih _ (zV h3);have r2:=Pn.aJ h3;generalize l[i]=a at h3 r2 hc;have w2:IntKind.i64.wrap ((i:Int)+1)=i+1:=wrO;have hD:(Pn.aB (l.take i)).length=i:=by simp;omega
  have g1:=lU (n:=l.length) (z:=zpw) hD hi;have g2:=lT (n:=l.length) (z:=zpw) (x:=a.cells) hD hi;have g3:splice zpw 0 a.cells=some a.cells:=iP (by simp[zpw]);have hS:Pn.aB (l.take i)++[a.cells]=Pn.aB (l.take (i+1)):=by rw[aM h3,Pn.aU]
  rw[hS]at g2;rw[Pn.aA]at hc r2 g2 g3;simp[TPS,hi,r2,w2,g1,g2,g3,hc]
theorem LH:∀ (p:Pn),p.thin→aI C0 13 [.i (.agg p.cells)] []=some (.i (.agg p.cells),[]):=by
 intro p
 induction p using Pn.ind with
 | h k t es cs ks ih =>
  intro ht;obtain⟨h1,h2,h3,h4,h5⟩:=(Pn.bC _).1 ht;exact AJW (X6 h1 fun a ha=>X5 a (h2 a ha)) (BM cs h3) (AFZ h4 fun a ha=>ih a ha (h5 a ha))
end Go.Proofs.YtjdfjgmebalaaaaGreat.P
namespace Go.Av
mutual
def Pn.ms:Pn→Nat
 | .mk _ _ es cs ks=>1+(Ex.aZ es+(cs.length+Pn.msL ks))
def Pn.msL:List Pn→Nat
 | []=>0
 | p::l=>p.ms+Pn.msL l
end
def Pn.meas (p:Pn):Nat:=Ex.aZ p.exprs+(p.cols.length+Pn.msL p.kids)
theorem Pn.AGU (p:Pn):p.ms=1+p.meas:=by cases p;simp[Pn.ms,Pn.meas,Pn.exprs,Pn.cols,Pn.kids]
theorem Pn.AF1 (p:Pn):1≤p.ms:=by rw[Pn.AGU];omega
theorem Pn.qJ:∀ (l:List Pn),l.length≤Pn.msL l
 | []=>by simp
 | p::l=>by have:=Pn.qJ l;have:=Pn.AF1 p;simp only[zO,Pn.msL];omega
theorem Pn.YM:∀ {l:List Pn} {p:Pn},p∈l→p.ms≤Pn.msL l
 | a::l,p,h=>by
  simp only[Pn.msL]
  rcases zQ.1 h with rfl|h
  ·omega
  ·have:=Pn.YM h;omega
theorem YL (l:List Pn) {i:Nat} {a:Pn} (h:l[i]?=some a):Pn.msL (l.take (i+1))=Pn.msL (l.take i)+a.ms:=by
 induction l generalizing i with
 | nil=>simp at h
 | cons b l ih =>
  cases i with
  | zero=>simp at h;subst h;simp[Pn.msL]
  | succ i=>have:=ih (i:=i) (by simpa using h);simp only[yX,Pn.msL]at this ⊢;omega
theorem ACN (l:List Pn) (i:Nat):Pn.msL (l.take i)≤Pn.msL l:=by
 induction l generalizing i with
 | nil=>simp[Pn.msL]
 | cons b l ih =>
  cases i with
  | zero=>simp[Pn.msL]
  | succ i=>simp only[yX,Pn.msL];have:=ih i;omega
theorem wO:∀ (l:List Pn) (i:Nat),i≤l.length→i≤Pn.msL (l.take i)
 | [],i,h=>by simp at h;subst h;simp
 | a::l,0,_=>by simp
 | a::l,i+1,h=>by
  have:=wO l i (by simpa using h);have:=Pn.AF1 a;simp only[yX,Pn.msL];omega
theorem Pn.FW:∀ (p:Pn),p.meas<100000000→p.thin:=by
 intro p
 induction p using Pn.ind with
 | h k t es cs ks ih =>
  intro h;simp only[Pn.meas,Pn.exprs,Pn.cols,Pn.kids]at h;have h1:=Ex.bK es;have h2:=Pn.qJ ks;refine(Pn.bC _).2 ⟨by simp only[Pn.exprs];omega,fun e he=>Ex.eO e (by have:=Ex.gI (show e∈es from he);omega),by simp only[Pn.cols];omega,by simp only[Pn.kids];omega,fun a ha=>ih a ha ?_⟩;have h3:=Pn.YM (show a∈ks from ha);rw[Pn.AGU]at h3;omega
theorem MS {left:Int} {a b:Nat} (h:0≤bN left a):bN (bN left a) b=bN left (a+b):=by
 unfold bN at h ⊢;by_cases ha:(a:Int)≤left
 ·rw[if_pos ha]at h ⊢;by_cases hb:(b:Int)≤left-a
  ·rw[if_pos hb,if_pos (by omega)];omega
  ·rw[if_neg hb,if_neg (by omega)]
 ·rw[if_neg ha]at h;omega
theorem uE {left:Int} {a:Nat} (h:bN left a<0) (b:Nat):bN left a=-1∧bN left (a+b)=-1:=by
 unfold bN at h ⊢;by_cases ha:(a:Int)≤left
 ·rw[if_pos ha]at h;omega
 ·rw[if_neg ha,if_neg (by omega)];exact⟨rfl,rfl⟩
theorem AZ {left:Int} {a:Nat} (h:0≤left):bN left a≤left:=by
 unfold bN;split<;>omega
end Go.Av
namespace Go.Proofs.YtjdfjgmebalaaaaGreat.P
open Go Go.Av
set_option maxRecDepth 4000
set_option maxHeartbeats 2000000
theorem QT (l:List Int) (hl:l.length<9223372036854775808) (left:Int) (h0:0≤left) (h1:left<1000000000):aI C0 49 [.i (.isl (aF l)), .int left] []=some (.int (bN left l.length),[]):=by
 rw[aD rfl Tryz.func49 rfl rfl];have w1:IntKind.i64.wrap (left-l.length)=left-l.length:=wrO;by_cases hc:left-l.length<0
 ·have:¬ ((l.length:Nat):Int)≤left:=by omega
  simp[w1,hc,bN,this]
 ·have:((l.length:Nat):Int)≤left:=by omega
  simp[w1,hc,bN,this]
theorem AK2 {p:Pn} {left:Int} (h1:aI C0 48 [.i (.isl (Ex.aB p.exprs)), .int left] []=some (.int (bN left (Ex.aZ p.exprs)),[]))
 (h2:0≤bN left (Ex.aZ p.exprs)→aI C0 49 [.i (.isl (aF p.cols)), .int (bN left (Ex.aZ p.exprs))] []=some (.int (bN left (Ex.aZ p.exprs+p.cols.length)),[]))
 (h3:0≤bN left (Ex.aZ p.exprs+p.cols.length)→aI C0 50 [.i (.isl (Pn.aB p.kids)), .int (bN left (Ex.aZ p.exprs+p.cols.length))] []=some (.int (bN left (Ex.aZ p.exprs+p.cols.length+Pn.msL p.kids)),[])) :
 aI C0 10 [.i (.agg p.cells), .int left] []=some (.int (bN left p.meas),[]):=by
 rw[aD rfl Tryz.func10 rfl rfl,Pn.aA];have hm:p.meas=Ex.aZ p.exprs+p.cols.length+Pn.msL p.kids:=by unfold Pn.meas;omega
 rw[hm];by_cases c1:bN left (Ex.aZ p.exprs)<0
 ·obtain⟨e1,e2⟩:=uE c1 (p.cols.length+Pn.msL p.kids);rw[← Nat.add_assoc]at e2;simp[h1,c1,e2]
 ·have h2:=h2 (by omega);by_cases c2:bN left (Ex.aZ p.exprs+p.cols.length)<0
  ·obtain⟨e1,e2⟩:=uE c2 (Pn.msL p.kids);simp[h1,c1,h2,c2,e2]
  ·have h3:=h3 (by omega);by_cases c3:bN left (Ex.aZ p.exprs+p.cols.length+Pn.msL p.kids)<0
   ·obtain⟨e1,e2⟩:=uE c3 0;simp[h1,c1,h2,c2,h3,c3,e1]
   ·simp[h1,c1,h2,c2,h3,c3]
def szJ (l:List Pn) (left:Int) (i:Nat):Int:=left-l.length-(Pn.msL (l.take i)-i)
def SZP (l:List Pn) (left:Int) (i:Nat):AS :=
 { env:=[(0, .i (.isl (Pn.aB l))),(1, .int (szJ l left i)),(4, .int 0),(5, .int i),(11, .bool false),(15,jk i (.bool true)),(25,jk i (.bool false))],st:=[] }
theorem X8 {l:List Pn} {left:Int} (h0:0≤left) (h1:left<1000000000) (hl:l.length<9223372036854775808)
 (ih:∀ a∈l,∀ left:Int,0≤left→left<1000000000→aI C0 10 [.i (.agg a.cells), .int left] []=some (.int (bN left (a.meas)),[])) :
 aI C0 50 [.i (.isl (Pn.aB l)), .int left] []=some (.int (bN left (Pn.msL l)),[]):=by
 rw[aD rfl Tryz.func50 rfl rfl];have w1:IntKind.i64.wrap (left-l.length)=left-l.length:=wrO;have hsl:=Pn.qJ l;by_cases hc:left-l.length<0
 ·have:¬ ((Pn.msL l:Nat):Int)≤left:=by omega
  simp[w1,hc,bN,this]
 simp[w1,hc]
 have hpre:∀ i,i<l.length→∃ a,l[i]?=some a∧a∈l∧Pn.msL (l.take (i+1))=Pn.msL (l.take i)+(1+a.meas)∧fI (Pn.aB l) i=some a.cells:=by
  intro i hi;have h3:=zY hi;refine⟨_,h3,zV h3,?_,Pn.aJ h3⟩;rw[YL l h3,Pn.AGU]
 have hround:∀ i,i<l.length→0≤szJ l left i→∃ a:Pn,fI (Pn.aB l) i=some a.cells∧aI C0 10 [.i (.agg a.cells), .int (szJ l left i)] []=some (.int (if 0≤szJ l left (i+1)then szJ l left (i+1)else -1),[]):=by
  intro i hi hs;obtain⟨a,h3,hm,hz,hn⟩:=hpre i hi;have hti:=wO l i (by omega);refine⟨a,hn,?_⟩;rw[ih a hm _ hs (by unfold szJ;omega)];congr 2;unfold bN;congr 1;by_cases hle:((a.meas:Nat):Int)≤szJ l left i
  ·rw[if_pos hle,if_pos (by unfold szJ at hle ⊢;omega)];unfold szJ;omega
  ·rw[if_neg hle,if_neg (by unfold szJ at hle ⊢;omega)]
 rcases uI (fun i=>0≤szJ l left (i+1)) l.length with hall|⟨j,hj,hlt,hbad⟩
 ·rw[aO (SZP l left) l.length (by simp[SZP,szJ,Pn.msL])]
  ·rw[aG]
   have hfin:bN left (Pn.msL l)=szJ l left l.length:=by
    have hT:l.take l.length=l:=zW (by simp)
    have hge:0≤szJ l left l.length:=by
     cases hn:l.length with
     | zero=>unfold szJ;rw[hn];simp[Pn.msL];omega
     | succ n=>exact hn ▸ hall n (by omega)
    unfold bN;unfold szJ at hge ⊢;rw[hT]at hge ⊢;rw[if_pos (by omega)];omega
   rw[hfin];simp[SZP]
  ·intro i hi
   have hs:0≤szJ l left i:=by
    cases i with
    | zero=>unfold szJ;simp[Pn.msL];omega
    | succ i=>exact hall i (by omega)
   obtain⟨a,hn,hc⟩:=hround i hi hs;have hs1:=hall i hi;have hs1:0≤szJ l left (i+1):=hs1;rw[if_pos hs1]at hc;have w2:IntKind.i64.wrap ((i:Int)+1)=i+1:=wrO;rw[Pn.aA]at hn hc;simp[SZP,hi,hn,hc,w2,show ¬ szJ l left (i+1)<0 by omega]
 ·have hsl2:bN left (Pn.msL l)=-1:=by
   have hm:=ACN l (j+1);have hbad:¬ 0≤szJ l left (j+1):=hbad;obtain⟨a,h3,_,_,_⟩:=hpre j hj
   have hrest:Pn.msL (l.take (j+1))+(l.length-(j+1))≤Pn.msL l:=by
    have e1:Pn.msL l=Pn.msL (l.take (j+1))+Pn.msL (l.drop (j+1)):=by
     have key:∀ (n:Nat) (l:List Pn),Pn.msL l=Pn.msL (l.take n)+Pn.msL (l.drop n):=by
      intro n
      induction n with
      | zero=>intro l;simp[Pn.msL]
      | succ n ih=>intro l;cases l with
       | nil=>simp[Pn.msL]
       | cons b l=>simp only[yX,xP,Pn.msL];have:=ih l;omega
     exact key _ _
    have e2:=Pn.qJ (l.drop (j+1));simp at e2;omega
   unfold bN;unfold szJ at hbad;rw[if_neg (by omega)]
  rw[hsl2,aO (SZP l left) j (by simp[SZP,szJ,Pn.msL])]
  ·rw[aG]
   have hs:0≤szJ l left j:=by
    cases j with
    | zero=>unfold szJ;simp[Pn.msL];omega
    | succ j=>exact hlt j (by omega)
   obtain⟨a,hn,hc⟩:=hround j hj hs;have hbad:¬ 0≤szJ l left (j+1):=hbad;rw[if_neg hbad]at hc;rw[Pn.aA]at hn hc;simp[SZP,hj,hn,hc]
  ·intro i hi
   have hs:0≤szJ l left i:=by
    cases i with
    | zero=>unfold szJ;simp[Pn.msL];omega
    | succ i=>exact hlt i (by omega)
   obtain⟨a,hn,hc⟩:=hround i (by omega) hs;have hs1:0≤szJ l left (i+1):=hlt i hi;rw[if_pos hs1]at hc;have w2:IntKind.i64.wrap ((i:Int)+1)=i+1:=wrO;rw[Pn.aA]at hn hc;simp[SZP,show i<l.length by omega,hn,hc,w2,show ¬ szJ l left (i+1)<0 by omega]
theorem LM:∀ (p:Pn),p.fat→∀ left:Int,0≤left→left<1000000000→aI C0 10 [.i (.agg p.cells), .int left] []=some (.int (bN left p.meas),[]):=by
 intro p
 induction p using Pn.ind with
 | h k t es cs ks ih =>
  intro hf left h0 h1;obtain⟨f1,f2,f3,f4,f5⟩:=(Pn.rZ _).1 hf;refine AK2 (AK1 _ f1 f2 left h0 h1) (fun h=>?_) fun h=>?_
  ·rw[QT _ f3 _ h (by have:=AZ (a:=Ex.aZ es) h0;simp only[Pn.exprs];omega),MS h]
  ·rw[X8 h (by have:=AZ (a:=Ex.aZ es+cs.length) h0;simp only[Pn.exprs,Pn.cols];omega) f4 fun a ha left h0 h1=>ih a ha (f5 a ha) left h0 h1,MS h]
end Go.Proofs.YtjdfjgmebalaaaaGreat.P
namespace Go.Av
theorem AAQ {w:World} {a:Addr} {v:Value} (h:w.cell? (a.add 0)=some v):∃ b off,a=⟨b,off,none⟩:=by
 obtain⟨b,off,spot⟩:=a;simp only[Addr.add,if_true,World.cell?]at h
 cases spot with
 | none=>exact⟨b,off,rfl⟩
 | some s=>split at h<;>simp at h
theorem AK0 {cs:List Value} (h:cs.length=5):∃ c0 c1 c2 c3 c4,cs=[c0,c1,c2,c3,c4]:=by
 match cs,h with
 | [c0,c1,c2,c3,c4],_=>exact⟨c0,c1,c2,c3,c4,rfl⟩
end Go.Av
namespace Go.Proofs.YtjdfjgmebalaaaaGreat.P
open Go Go.Av
set_option maxRecDepth 4000
variable {H:Type} {enc:TypeId×Value→H} {w:World} {sp:Nat→Bool}
theorem ce3:Tryz.prog.cellsOf 3=1:=by kernel_rfl
theorem ce4:Tryz.prog.cellsOf 4=1:=by kernel_rfl
theorem AQK:Tryz.prog.cellsOf 109=2:=by kernel_rfl
theorem AQJ:Tryz.prog.cellsOf 22=1:=by kernel_rfl
theorem APM:Tryz.prog.cellsOf 111=5:=by kernel_rfl
theorem ALN {fuel:Nat} {cs:List Value} {r:DataW H×List MemPlace} (h:DataW.trod enc Tryz.prog w 0 sp true fuel 109 cs=some r):∃ v:Val,cs=[.bool v.null, .int .i64 v.n]:=by
 obtain⟨xs,n,rfl,_,hl,hx,hf⟩:=DataW.trod_struct Tryz.underlying109 h;rw[AQK]at hl;have h0:DataW.trod enc Tryz.prog w 0 sp true n 4 ((cs.drop 0).take (Tryz.prog.cellsOf 4))=xs[0]?:=hf 0 _ rfl;have h1:DataW.trod enc Tryz.prog w 0 sp true n 3 ((cs.drop 1).take (Tryz.prog.cellsOf 3))=xs[1]?:=hf 1 _ rfl;rw[ce4]at h0;rw[ce3]at h1;have hx:xs.length=2:=hx;rw[zY (by omega)]at h0 h1;obtain⟨b,hb,_⟩:=DataW.trod_bool Tryz.underlying4 h0;obtain⟨k,hk,_⟩:=DataW.trod_int Tryz.underlying3 h1
 match cs,hl with
 | [c0,c1],_ =>
  simp at hb hk;exact⟨⟨b,k⟩,by rw[hb,hk]⟩
theorem RU {b:Nat} {P:List Value→List IV→Prop} {k:Nat} (hk:∀ cs l,P cs l→l.length=k∧ICells (dA w) l cs):∀ (n off:Nat),(∀ i,i<n→∃ cs l,P cs l∧∀ j v,cs[j]?=some v→w.cell? ⟨b,off+k*i+j,none⟩=some v) →
 ∃ es:List (List IV),es.length=n∧IElems (dA w) b off k es∧∀ e∈es,∃ cs,P cs e
 | 0,off,_=>⟨[],rfl, .nil _ _ _,by simp⟩
 | n+1,off,h=>by
  obtain⟨cs,l,h1,h2⟩:=h 0 (by omega);obtain⟨k1,k2⟩:=hk cs l h1
  obtain⟨es,e1,e2,e3⟩:=RU hk n (off+k) (fun i hi=>by
   obtain⟨cs,l,h3,h4⟩:=h (i+1) (by omega)
   exact⟨cs,l,h3,fun j v hj=>by rw[← h4 j v hj];congr 2;rw[zA];omega⟩)
  refine⟨l::es,by simp[e1], .cons (IAt.mk off k2 fun j v hj=>?_) k1 e2,?_⟩
  ·have:=h2 j v hj;show w.cell? ⟨b,off+j,none⟩=some v;simpa using this
  ·intro e he
   rcases zQ.1 he with rfl|he
   ·exact⟨cs,h1⟩
   ·exact e3 e he
theorem uG {fuel:Nat} {t e:TypeId} {c:Value} {r:DataW H×List MemPlace} {k:Nat} {P:List Value→List IV→Prop} (ht:Tryz.prog.underlying t=some (.slice e)) (hce:Tryz.prog.cellsOf e=k) (hk0:0<k) (hk:∀ cs l,P cs l→l.length=k∧ICells (dA w) l cs)
 (ih:∀ n,n<fuel→∀ cs x,DataW.trod enc Tryz.prog w 0 sp true n e cs=some x→∃ l,P cs l) (h:DataW.trod enc Tryz.prog w 0 sp true fuel t [c]=some r) :
 ∃ es:List (List IV),IRep (dA w) (.isl es) c∧es.length<9223372036854775808∧∀ x∈es,∃ cs,P cs x:=by
 rcases DataW.trod_slice ht h with ⟨h1,_⟩|⟨a,len,cap,elems,rest,n,rfl,h1,_,_,hlc,hcm,hel,hat,_,_⟩
 ·injection h1 with h1;subst h1;exact⟨[], .isl0 _ _ fun _=>rfl,by simp,by simp⟩
 ·injection h1 with h1;subst h1;by_cases h0:len=0
  ·subst h0;exact⟨[], .isl0 _ _ (by simp),by simp,by simp⟩
  ·rw[hce]at hat
   have get:∀ i,i<len→∃ cs l,P cs l∧cs.length=k∧∀ j,j<k→w.cell? ((a.add (i*k)).add j)=cs[j]?:=by
    intro i hi;have h2:=hat i hi;rw[zY (by omega)]at h2;obtain⟨cs,h3,h4⟩:=Option.bind_eq_some_iff.1 h2;obtain⟨_,h5,h6⟩:=World.cells?_some h3;obtain⟨l,h7⟩:=ih n (by omega) cs _ h4;exact⟨cs,l,h7,h5,h6⟩
   obtain⟨b,off,rfl⟩:∃ b off,a=⟨b,off,none⟩:=by
    obtain⟨cs,l,_,h5,h6⟩:=get 0 (by omega);have h7:=h6 0 hk0;rw[zY (by omega)]at h7;refine AAQ (v:=cs[0]'(by omega)) (w:=w) ?_;rw[← h7,Nat.zero_mul];congr 1
   obtain⟨es,e1,e2,e3⟩:=RU (b:=b) hk len off (fun i hi=>by
    obtain⟨cs,l,h4,h5,h6⟩:=get i hi;refine⟨cs,l,h4,fun j v hj=>?_⟩;have hjl:=(zZ.1 hj).1;have:=h6 j (by omega);rw[hj,Addr.dH,Addr.dH]at this
    rw[← this,zG k i])
   refine⟨es,?_,by rw[e1];unfold maxLen at hcm;omega,e3⟩;have hne:es≠[]:=fun h=>by rw[h]at e1;simp at e1;omega
   have:=IRep.isl (m:=dA w) (cap:=cap) hne e2 (by omega)
   rwa [e1]at this
theorem ALO:∀ (fuel:Nat) (cs:List Value) (r:DataW H×List MemPlace),DataW.trod enc Tryz.prog w 0 sp true fuel 111 cs=some r→∃ e:Ex,e.fat∧ICells (dA w) e.cells cs:=by
 intro fuel
 induction fuel using Nat.strongRecOn with
 | _ fuel ih =>
  intro cs r h;obtain⟨xs,n,rfl,_,hl,hx,hf⟩:=DataW.trod_struct Tryz.underlying111 h;rw[APM]at hl;have h0:DataW.trod enc Tryz.prog w 0 sp true n 3 ((cs.drop 0).take (Tryz.prog.cellsOf 3))=xs[0]?:=hf 0 _ rfl;have h1:DataW.trod enc Tryz.prog w 0 sp true n 3 ((cs.drop 1).take (Tryz.prog.cellsOf 3))=xs[1]?:=hf 1 _ rfl;have h2:DataW.trod enc Tryz.prog w 0 sp true n 109 ((cs.drop 2).take (Tryz.prog.cellsOf 109))=xs[2]?:=hf 2 _ rfl;have h3:DataW.trod enc Tryz.prog w 0 sp true n 22 ((cs.drop 4).take (Tryz.prog.cellsOf 22))=xs[3]?:=hf 3 _ rfl;rw[ce3]at h0 h1;rw[AQK]at h2;rw[AQJ]at h3;have hx:xs.length=4:=hx;rw[zY (by omega)]at h0 h1 h2 h3;obtain⟨c0,c1,c2,c3,c4,rfl⟩:=AK0 hl;obtain⟨k0,hk0,_⟩:=DataW.trod_int Tryz.underlying3 h0;obtain⟨k1,hk1,_⟩:=DataW.trod_int Tryz.underlying3 h1;obtain⟨v,hv⟩:=ALN h2;simp at hk0 hk1 hv;obtain⟨rfl,rfl⟩:=hv;subst hk0;subst hk1;simp at h3
  obtain⟨es,e1,e2,e3⟩:=uG (P:=fun cs l=>∃ e:Ex,e.fat∧l=e.cells∧ICells (dA w) l cs) Tryz.underlying22 APM (by omega) (fun cs l ⟨e,_,h5,h6⟩=>⟨by rw[h5,Ex.aA];rfl,h6⟩)
   (fun m hm cs x hx=>by
    obtain⟨e,h5,h6⟩:=ih m (by omega) cs x hx
    exact⟨e.cells,e,h5,rfl,h6⟩) h3
  have hl:∃ l:List Ex,Ex.aB l=es∧∀ a∈l,a.fat:=by
   have key:∀ es:List (List IV),(∀ x∈es,∃ cs,∃ e:Ex,e.fat∧x=e.cells∧ICells (dA w) x cs)→∃ l:List Ex,Ex.aB l=es∧∀ a∈l,a.fat:=by
    intro es
    induction es with
    | nil=>intro _;exact⟨[],rfl,by simp⟩
    | cons x es ihe =>
     intro h;obtain⟨_,e,h5,h6,_⟩:=h x (by simp);obtain⟨l,h7,h8⟩:=ihe fun y hy=>h y (by simp[hy])
     exact⟨e::l,by simp[Ex.aB,h6,h7],fun a ha=>by
      rcases zQ.1 ha with rfl|ha
      ·exact h5
      ·exact h8 a ha⟩
   exact key es e3
  obtain⟨l,rfl,hfat⟩:=hl;refine⟨.mk k0 k1 v l,(Ex.rZ _).2 ⟨by simpa [Ex.kids]using e2,hfat⟩,?_⟩;rw[show(Ex.mk k0 k1 v l).cells=[.int k0, .int k1, .bool v.null, .int v.n, .isl (Ex.aB l)]by simp[Ex.cells]];exact .cons (.lit _) rfl (.cons (.lit _) rfl (.cons (.lit _) rfl (.cons (.lit _) rfl (.cons e1 (rU e1) .nil))))
theorem ceI:Tryz.prog.cellsOf 3=1:=by kernel_rfl
theorem AYR:Tryz.prog.cellsOf 24=1:=by kernel_rfl
theorem AQI:Tryz.prog.cellsOf 23=1:=by kernel_rfl
theorem ceP:Tryz.prog.cellsOf 26=5:=by kernel_rfl
theorem PR {fuel:Nat} {c:Value} {r:DataW H×List MemPlace} (h:DataW.trod enc Tryz.prog w 0 sp true fuel 23 [c]=some r):∃ l:List Int,l.length<9223372036854775808∧IRep (dA w) (.isl (aF l)) c:=by
 obtain⟨es,e1,e2,e3⟩:=uG (P:=fun cs l=>∃ n:Int,l=[.int n]∧cs=[.int .i64 n]) Tryz.underlying23 ceI (by omega) (fun cs l ⟨v,h5,h6⟩=>⟨by rw[h5];rfl,by rw[h5,h6];exact .cons (.lit _) rfl .nil⟩)
  (fun m hm cs x hx=>by
   obtain⟨k,hk,_⟩:=DataW.trod_int Tryz.underlying3 hx
   exact⟨[.int k],k,rfl,hk⟩) h
 have key:∀ es:List (List IV),(∀ x∈es,∃ cs:List Value,∃ n:Int,x=[.int n]∧cs=[.int .i64 n])→∃ l:List Int,aF l=es:=by
  intro es
  induction es with
  | nil=>intro _;exact⟨[],rfl⟩
  | cons x es ihe =>
   intro h;obtain⟨_,v,h5,_⟩:=h x (by simp);obtain⟨l,h7⟩:=ihe fun y hy=>h y (by simp[hy])
   exact⟨v::l,by simp[aF,h5,h7]⟩
 obtain⟨l,rfl⟩:=key es e3;exact⟨l,by simpa using e2,e1⟩
theorem AHO {fuel:Nat} {c:Value} {r:DataW H×List MemPlace} (h:DataW.trod enc Tryz.prog w 0 sp true fuel 22 [c]=some r):∃ l:List Ex,l.length<9223372036854775808∧(∀ a∈l,a.fat)∧IRep (dA w) (.isl (Ex.aB l)) c:=by
 obtain⟨es,e1,e2,e3⟩:=uG (P:=fun cs l=>∃ e:Ex,e.fat∧l=e.cells∧ICells (dA w) l cs) Tryz.underlying22 APM (by omega) (fun cs l ⟨e,_,h5,h6⟩=>⟨by rw[h5,Ex.aA];rfl,h6⟩)
  (fun m hm cs x hx=>by
   obtain⟨e,h5,h6⟩:=ALO m cs x hx
   exact⟨e.cells,e,h5,rfl,h6⟩) h
 have key:∀ es:List (List IV),(∀ x∈es,∃ cs,∃ e:Ex,e.fat∧x=e.cells∧ICells (dA w) x cs)→∃ l:List Ex,Ex.aB l=es∧∀ a∈l,a.fat:=by
  intro es
  induction es with
  | nil=>intro _;exact⟨[],rfl,by simp⟩
  | cons x es ihe =>
   intro h;obtain⟨_,e,h5,h6,_⟩:=h x (by simp);obtain⟨l,h7,h8⟩:=ihe fun y hy=>h y (by simp[hy])
   exact⟨e::l,by simp[Ex.aB,h6,h7],fun a ha=>by
    rcases zQ.1 ha with rfl|ha
    ·exact h5
    ·exact h8 a ha⟩
 obtain⟨l,rfl,hfat⟩:=key es e3;exact⟨l,by simpa using e2,hfat,e1⟩
theorem Z9:∀ (fuel:Nat) (cs:List Value) (r:DataW H×List MemPlace),DataW.trod enc Tryz.prog w 0 sp true fuel 26 cs=some r→∃ p:Pn,p.fat∧ICells (dA w) p.cells cs:=by
 intro fuel
 induction fuel using Nat.strongRecOn with
 | _ fuel ih =>
  intro cs r h;obtain⟨xs,n,rfl,_,hl,hx,hf⟩:=DataW.trod_struct Tryz.underlying26 h;rw[ceP]at hl;have h0:DataW.trod enc Tryz.prog w 0 sp true n 3 ((cs.drop 0).take (Tryz.prog.cellsOf 3))=xs[0]?:=hf 0 _ rfl;have h1:DataW.trod enc Tryz.prog w 0 sp true n 3 ((cs.drop 1).take (Tryz.prog.cellsOf 3))=xs[1]?:=hf 1 _ rfl;have h2:DataW.trod enc Tryz.prog w 0 sp true n 22 ((cs.drop 2).take (Tryz.prog.cellsOf 22))=xs[2]?:=hf 2 _ rfl;have h3:DataW.trod enc Tryz.prog w 0 sp true n 23 ((cs.drop 3).take (Tryz.prog.cellsOf 23))=xs[3]?:=hf 3 _ rfl;have h4:DataW.trod enc Tryz.prog w 0 sp true n 24 ((cs.drop 4).take (Tryz.prog.cellsOf 24))=xs[4]?:=hf 4 _ rfl;rw[ceI]at h0 h1;rw[AQJ]at h2;rw[AQI]at h3;rw[AYR]at h4;have hx:xs.length=5:=hx;rw[zY (by omega)]at h0 h1 h2 h3 h4;obtain⟨c0,c1,c2,c3,c4,rfl⟩:=AK0 hl;obtain⟨k0,hk0,_⟩:=DataW.trod_int Tryz.underlying3 h0;obtain⟨k1,hk1,_⟩:=DataW.trod_int Tryz.underlying3 h1;simp at hk0 hk1;subst hk0;subst hk1;simp at h2 h3 h4;obtain⟨es,le,fe,re⟩:=AHO h2;obtain⟨is,li,ri⟩:=PR h3
  obtain⟨ps,e1,e2,e3⟩:=uG (P:=fun cs l=>∃ e:Pn,e.fat∧l=e.cells∧ICells (dA w) l cs) Tryz.underlying24 ceP (by omega) (fun cs l ⟨e,_,h5,h6⟩=>⟨by rw[h5,Pn.aA];rfl,h6⟩)
   (fun m hm cs x hx=>by
    obtain⟨e,h5,h6⟩:=ih m (by omega) cs x hx
    exact⟨e.cells,e,h5,rfl,h6⟩) h4
  have key:∀ es:List (List IV),(∀ x∈es,∃ cs,∃ e:Pn,e.fat∧x=e.cells∧ICells (dA w) x cs)→∃ l:List Pn,Pn.aB l=es∧∀ a∈l,a.fat:=by
   intro es
   induction es with
   | nil=>intro _;exact⟨[],rfl,by simp⟩
   | cons x es ihe =>
    intro h;obtain⟨_,e,h5,h6,_⟩:=h x (by simp);obtain⟨l,h7,h8⟩:=ihe fun y hy=>h y (by simp[hy])
    exact⟨e::l,by simp[Pn.aB,h6,h7],fun a ha=>by
     rcases zQ.1 ha with rfl|ha
     ·exact h5
     ·exact h8 a ha⟩
  obtain⟨l,rfl,hfat⟩:=key ps e3;refine⟨.mk k0 k1 es is l,(Pn.rZ _).2 ⟨le,fe,li,by simpa using e2,hfat⟩,?_⟩;rw[Pn.dP];exact .cons (.lit _) rfl (.cons (.lit _) rfl (.cons re (rU re) (.cons ri (rU ri) (.cons e1 (rU e1) .nil))))
end Go.Proofs.YtjdfjgmebalaaaaGreat.P
namespace Go.Av
def sQ:List Stp→Nat
 | []=>0
 | s::l=>1+s.2.length+sQ l
theorem qG:∀ (l:List Stp),l.length≤sQ l
 | []=>by simp
 | s::l=>by have:=qG l;simp only[zO,sQ];omega
theorem XF:∀ {l:List Stp} {s:Stp},s∈l→s.2.length≤sQ l
 | a::l,p,h=>by
  simp only[sQ]
  rcases zQ.1 h with rfl|h
  ·omega
  ·have:=XF h;omega
theorem QZ:∀ (l:List Stp) {i:Nat} {a:Stp},l[i]?=some a→sQ (l.take (i+1))=sQ (l.take i)+(1+a.2.length)
 | [],i,a,h=>by simp at h
 | b::l,0,a,h=>by simp at h;subst h;simp[sQ]
 | b::l,i+1,a,h=>by have:=QZ l (i:=i) (a:=a) (by simpa using h);simp only[yX,sQ]at this ⊢;omega
theorem LW:∀ (n:Nat) (l:List Stp),sQ l=sQ (l.take n)+sQ (l.drop n)
 | 0,l=>by simp[sQ]
 | n+1,[]=>by simp[sQ]
 | n+1,b::l=>by simp only[yX,xP,sQ];have:=LW n l;omega
theorem OQ:∀ (l:List Stp) (i:Nat),i≤l.length→i≤sQ (l.take i)
 | [],i,h=>by simp at h;subst h;simp
 | a::l,0,_=>by simp
 | a::l,i+1,h=>by
  have:=OQ l i (by simpa using h);simp only[yX,sQ];omega
end Go.Av
namespace Go.Proofs.YtjdfjgmebalaaaaGreat.P
open Go Go.Av
set_option maxRecDepth 4000
set_option maxHeartbeats 1000000
theorem X7 (s:Stp) (hl:s.2.length<9223372036854775808) (left:Int) (h0:0≤left) (h1:left<1000000000):aI C0 33 [.i (.agg [.int s.1, .isl (aF s.2)]), .int left] []=some (.int (bN left s.2.length),[]):=by
 rw[aD rfl Tryz.func33 rfl rfl];have e:=QT s.2 hl left h0 h1;by_cases hc:bN left s.2.length<0
 ·have:=(uE hc 0).1;simp[e,hc,this]
 ·simp[e,hc]
def szT (l:List Stp) (left:Int) (i:Nat):Int:=left-l.length-(sQ (l.take i)-i)
def SZT (l:List Stp) (left:Int) (i:Nat):AS :=
 { env:=[(0, .i (.isl (dQ l))),(1, .int (szT l left i)),(4, .int 0),(5, .int i),(11, .bool false),(15,jk i (.bool true)),(25,jk i (.bool false))],st:=[] }
theorem TY {l:List Stp} {left:Int} (h0:0≤left) (h1:left<1000000000) (hl:l.length<9223372036854775808) (hs:∀ s∈l,s.2.length<9223372036854775808) :
 aI C0 11 [.i (.isl (dQ l)), .int left] []=some (.int (bN left (sQ l)),[]):=by
 rw[aD rfl Tryz.func11 rfl rfl];have w1:IntKind.i64.wrap (left-l.length)=left-l.length:=wrO;have hsl:=qG l;have hlen:(dQ l).length=l.length:=by simp[dQ]
 by_cases hc:left-l.length<0
 ·have:¬ ((sQ l:Nat):Int)≤left:=by omega
  simp[hlen,w1,hc,bN,this]
 simp[hlen,w1,hc]
 have hround:∀ i,i<l.length→0≤szT l left i→∃ a:Stp,fI (dQ l) i=some [.int a.1, .isl (aF a.2)]∧aI C0 33 [.i (.agg [.int a.1, .isl (aF a.2)]), .int (szT l left i)] []=some (.int (if 0≤szT l left (i+1)then szT l left (i+1)else -1),[]):=by
  intro i hi hq;have h3:=zY hi;have hm:=zV h3;generalize l[i]=a at h3 hm;have hz:=QZ l h3;have hn:=kN h3;simp only[OM]at hn;have hti:=OQ l i (by omega);refine⟨a,hn,?_⟩;rw[X7 a (hs a hm) _ hq (by unfold szT;omega)];congr 2;unfold bN;congr 1;by_cases hle:((a.2.length:Nat):Int)≤szT l left i
  ·rw[if_pos hle,if_pos (by unfold szT at hle ⊢;omega)];unfold szT;omega
  ·rw[if_neg hle,if_neg (by unfold szT at hle ⊢;omega)]
 rcases uI (fun i=>0≤szT l left (i+1)) l.length with hall|⟨j,hj,hlt,hbad⟩
 ·rw[aO (SZT l left) l.length (by simp[SZT,szT,sQ])]
  ·rw[aG]
   have hfin:bN left (sQ l)=szT l left l.length:=by
    have hT:l.take l.length=l:=zW (by simp)
    have hge:0≤szT l left l.length:=by
     cases hn:l.length with
     | zero=>unfold szT;rw[hn];simp[sQ];omega
     | succ n=>exact hn ▸ hall n (by omega)
    unfold bN;unfold szT at hge ⊢;rw[hT]at hge ⊢;rw[if_pos (by omega)];omega
   rw[hfin];simp[SZT,hlen]
  ·intro i hi
   have hq:0≤szT l left i:=by
    cases i with
    | zero=>unfold szT;simp[sQ];omega
    | succ i=>exact hall i (by omega)
   obtain⟨a,hn,hc⟩:=hround i hi hq;have hs1:=hall i hi;have hs1:0≤szT l left (i+1):=hs1;rw[if_pos hs1]at hc;have w2:IntKind.i64.wrap ((i:Int)+1)=i+1:=wrO;simp[SZT,hlen,hi,hn,hc,w2,show ¬ szT l left (i+1)<0 by omega]
 ·have hsl2:bN left (sQ l)=-1:=by
   have hbad:¬ 0≤szT l left (j+1):=hbad;have e1:=LW (j+1) l;have e2:=qG (l.drop (j+1));have e3:=OQ l (j+1) (by omega);simp at e2;unfold bN;unfold szT at hbad;rw[if_neg (by omega)]
  rw[hsl2,aO (SZT l left) j (by simp[SZT,szT,sQ])]
  ·rw[aG]
   have hq:0≤szT l left j:=by
    cases j with
    | zero=>unfold szT;simp[sQ];omega
    | succ j=>exact hlt j (by omega)
   obtain⟨a,hn,hc⟩:=hround j hj hq;have hbad:¬ 0≤szT l left (j+1):=hbad;rw[if_neg hbad]at hc;simp[SZT,hlen,hj,hn,hc]
  ·intro i hi
   have hq:0≤szT l left i:=by
    cases i with
    | zero=>unfold szT;simp[sQ];omega
    | succ i=>exact hlt i (by omega)
   obtain⟨a,hn,hc⟩:=hround i (by omega) hq;have hs1:0≤szT l left (i+1):=hlt i hi;rw[if_pos hs1]at hc;have w2:IntKind.i64.wrap ((i:Int)+1)=i+1:=wrO;simp[SZT,hlen,show i<l.length by omega,hn,hc,w2,show ¬ szT l left (i+1)<0 by omega]
theorem X4 (s:Stp) (hl:s.2.length<1000000000):aI C0 35 [.i (.agg [.int s.1, .isl (aF s.2)])] []=some (.i (.agg [.int s.1, .isl (aF s.2)]),[]):=by
 have h2:=BM s.2 hl;rw[aD rfl Tryz.func35 rfl rfl];simp[h2]
def zsw:List IV:=[.int 0, .isl []]
def TTS (l:List Stp) (i:Nat):AS :=
 { env:=[(0, .i (.isl (dQ l))),(2, .nils),(3, .osl 0 2 0 l.length),(4, .int i),(11,jk i (.bool true))],st:=[some (.arr 2 (dQ (l.take i)++List.replicate (l.length-i) zsw))] }
theorem TU (l:List Stp) (hl:l.length<1000000000) (hs:∀ s∈l,s.2.length<1000000000):aI C0 15 [.i (.isl (dQ l))] []=some (.i (.isl (dQ l)),[]):=by
 rw[aD rfl Tryz.func15 rfl rfl];have hlen:(dQ l).length=l.length:=by simp[dQ]
 have hb:32*(l.length:Int)≤281474976710656:=by omega
 simp[hlen,hb];rw[aO (TTS l) l.length (by simp[TTS,dQ,zsw])]
 ·rw[aG];simp[TTS,hlen]
 ·intro i hi;have h3:=zY hi;have hm:=zV h3;have r2:=kN h3;generalize l[i]=a at h3 r2 hm;have hc:=X4 a (hs a hm);have w2:IntKind.i64.wrap ((i:Int)+1)=i+1:=wrO;have hD:(dQ (l.take i)).length=i:=by simp[dQ];omega
  have g1:=lU (n:=l.length) (z:=zsw) hD hi;have g2:=lT (n:=l.length) (z:=zsw) (x:=OM a) hD hi;have g3:splice zsw 0 (OM a)=some (OM a):=iP (by simp[zsw,OM]);have hS:dQ (l.take i)++[OM a]=dQ (l.take (i+1)):=by rw[aM h3];simp[dQ]
  rw[hS]at g2;simp only[OM]at r2 g2 g3;simp[TTS,hlen,hi,r2,w2,g1,g2,g3,hc]
theorem Q4 (s:Stp) (hl:s.2.length<9223372036854775808):aI C0 36 [.i (.agg [.int s.1, .isl (aF s.2)]), .i (.agg [.int s.1, .isl (aF s.2)])] []=some (.bool true,[]):=by
 have h:=sD s.2 hl;rw[aD rfl Tryz.func36 rfl rfl];simp[h]
def ETS (l:List Stp) (i:Nat):AS :=
 { env:=[(0, .i (.isl (dQ l))),(1, .i (.isl (dQ l))),(4, .bool false),(5, .int i),(10, .bool false),(14,jk i (.bool true)),(26,jk i (.bool false))],st:=[] }
theorem NI (l:List Stp) (hl:l.length<9223372036854775808) (hs:∀ s∈l,s.2.length<9223372036854775808):aI C0 19 [.i (.isl (dQ l)), .i (.isl (dQ l))] []=some (.bool true,[]):=by
 rw[aD rfl Tryz.func19 rfl rfl];have hlen:(dQ l).length=l.length:=by simp[dQ]
 simp[hlen];rw[aO (ETS l) l.length (by simp[ETS])]
 ·rw[aG];simp[ETS,hlen]
 ·intro i hi;have h3:=zY hi;have hm:=zV h3;have r2:=kN h3;generalize l[i]=a at h3 r2 hm;have hc:=Q4 a (hs a hm);have w2:IntKind.i64.wrap ((i:Int)+1)=i+1:=wrO;simp only[OM]at r2;simp[ETS,hlen,hi,r2,hc,w2]
noncomputable def Y7:FuncId→Option (List AV→StL→Option (AV×StL))
 | 3=>none
 | 10=>some (aI C0 10)
 | 11=>some (aI C0 11)
 | 13=>some (aI C0 13)
 | 14=>some (aI C0 14)
 | 15=>some (aI C0 15)
 | 17=>some (aI C0 17)
 | 18=>some (aI C0 18)
 | 19=>some (aI C0 19)
 | 16=>some (aI CA 16)
 | 12=>some (aI CA 12)
 | g=>UN g
noncomputable def CXk:Ctx:={ P:=Tryz.prog,G:=GS,ownArgs:=AIZ,keepRes:=AH4,eqT:=JW,prim:=Y7 }
@[simp] theorem AZ1:CXk.P=Tryz.prog:=(rfl)
@[simp] theorem AZ2 (f):CXk.G f=GS f:=(rfl)
@[simp] theorem AYY (f):CXk.ownArgs f=AIZ f:=(rfl)
@[simp] theorem AYZ (f):CXk.keepRes f=(keepR f || decide (f=159)):=(rfl)
@[simp] theorem AZ0 (f):CXk.eqT f=JW f:=(rfl)
@[simp] theorem AYX:CXk.tree=false:=(rfl)
theorem AL2:PrimOk CXk:=by
 constructor
 ·intro g args st p h;unfold bM at h
  cases hq:CXk.prim g with
  | none=>rw[hq]at h;cases h
  | some q =>
   rw[hq]at h;have hq:Y7 g=some q:=hq;unfold Y7 at hq;split at hq
   all_goals first
    | (cases hq;done)
    | (injection hq with hq;subst hq;exact(bF fG).name _ _ _ _ (by decide) h)
    | (injection hq with hq;subst hq;exact(bF XG).name _ _ _ _ (by decide) h)
    | exact YB.name g args st p (by unfold bM;rw[show CA.prim g=some q from hq];exact h)
 ·intro g args st r st' h w m φ vs hi hr hb;unfold bM at h
  cases hq:CXk.prim g with
  | none=>rw[hq]at h;cases h
  | some q =>
   rw[hq]at h;have hq:Y7 g=some q:=hq;unfold Y7 at hq;split at hq
   all_goals first
    | (cases hq;done)
    | (injection hq with hq;subst hq;exact(bF fG).calls _ _ _ _ _ (by decide) h w m φ vs hi hr hb)
    | (injection hq with hq;subst hq;exact(bF XG).calls _ _ _ _ _ (by decide) h w m φ vs hi hr hb)
    | exact YB.calls g args st r st' (by unfold bM;rw[show CA.prim g=some q from hq];exact h) w m φ vs hi hr hb
theorem AKH:SoundOk CXk:=lH (C:=CXk) ft nt eqS mo AL2
@[simp] theorem AM2 (a:List AV) (st:StL):aI CXk 10 a st=aI C0 10 a st:=by rw[bH (p:=aI C0 10) rfl]
@[simp] theorem AJB (a:List AV) (st:StL):aI CXk 11 a st=aI C0 11 a st:=by rw[bH (p:=aI C0 11) rfl]
@[simp] theorem AM0 (a:List AV) (st:StL):aI CXk 13 a st=aI C0 13 a st:=by rw[bH (p:=aI C0 13) rfl]
@[simp] theorem AM1 (a:List AV) (st:StL):aI CXk 14 a st=aI C0 14 a st:=by rw[bH (p:=aI C0 14) rfl]
@[simp] theorem AJA (a:List AV) (st:StL):aI CXk 15 a st=aI C0 15 a st:=by rw[bH (p:=aI C0 15) rfl]
@[simp] theorem AM3 (a:List AV) (st:StL):aI CXk 17 a st=aI C0 17 a st:=by rw[bH (p:=aI C0 17) rfl]
@[simp] theorem AM4 (a:List AV) (st:StL):aI CXk 18 a st=aI C0 18 a st:=by rw[bH (p:=aI C0 18) rfl]
@[simp] theorem AJC (a:List AV) (st:StL):aI CXk 19 a st=aI C0 19 a st:=by rw[bH (p:=aI C0 19) rfl]
@[simp] theorem ZW (a:List AV) (st:StL):aI CXk 16 a st=aI CA 16 a st:=by rw[bH (p:=aI CA 16) rfl]
@[simp] theorem WO (a:List AV) (st:StL):aI CXk 12 a st=aI CA 12 a st:=by rw[bH (p:=aI CA 12) rfl]
theorem pF {p q:Pn} {ws:List Int} {L:List Stp} (hp:p.fat) (hq:q.fat) (hw:ws.length<9223372036854775808) (hL:L.length<9223372036854775808) (hS:∀ s∈L,s.2.length<9223372036854775808):aI CXk 3 [.i (.agg p.cells), .i (.agg q.cells), .i (.isl (aF ws)), .i (.isl (dQ L))] []=some (.bool true,[]):=by
 rw[aD rfl Tryz.func3 rfl rfl];by_cases hl:(1048576:Int)<ws.length
 ·rw[Pn.aA p,Pn.aA q];simp[hl]
 have s1:=LM p hp 1048576 (by omega) (by omega);by_cases c1:bN 1048576 p.meas<0
 ·rw[Pn.aA p,Pn.aA q]at *
  simp[hl,s1,c1]
 have l1:=AZ (left:=1048576) (a:=p.meas) (by omega);have s2:=LM q hq (bN 1048576 p.meas) (by omega) (by omega);by_cases c2:bN (bN 1048576 p.meas) q.meas<0
 ·rw[Pn.aA p,Pn.aA q]at *
  simp[hl,s1,c1,s2,c2]
 have l2:=AZ (left:=bN 1048576 p.meas) (a:=q.meas) (by omega);have s3:=TY (l:=L) (left:=bN (bN 1048576 p.meas) q.meas) (by omega) (by omega) hL hS;by_cases c3:bN (bN (bN 1048576 p.meas) q.meas) (sQ L)<0
 ·rw[Pn.aA p,Pn.aA q]at *
  simp[hl,s1,c1,s2,c2,s3,c3]
 have m1:p.meas≤1048576:=by
  unfold bN at c1;split at c1<;>omega
 have m2:q.meas≤1048576:=by
  rw[bN]at c2;split at c2<;>omega
 have m3:sQ L≤1048576:=by
  rw[bN]at c3;split at c3<;>omega
 have tp:=Pn.FW p (by omega);have tq:=Pn.FW q (by omega);have sL:∀ s∈L,s.2.length<1000000000:=fun s hs=>by have:=XF hs;omega
 have lL:=qG L;have e1:=LH p tp;have e2:=LH q tq;have e3:=BM ws (by omega);have e4:=TU L (by omega) sL;have e5:=AB p tp q ws (by omega) L sL;have e6:=F5 p q ws L;have e7:=EG p hp;have e8:=EG q hq;have e9:=sD ws (by omega);have e10:=NI L (by omega) hS;rw[Pn.aA p,Pn.aA q]at *
 simp[hl,s1,c1,s2,c2,s3,c3,e1,e2,e3,e4,e5,e6,e7,e8,e9,e10]
section
variable {H:Type} {enc:TypeId×Value→H} {w:World} {sp:Nat→Bool}
theorem ceT:Tryz.prog.cellsOf 62=2:=by kernel_rfl
theorem AHN {fuel:Nat} {cs:List Value} {r:DataW H×List MemPlace} (h:DataW.trod enc Tryz.prog w 0 sp true fuel 62 cs=some r):∃ s:Stp,s.2.length<9223372036854775808∧ICells (dA w) [.int s.1, .isl (aF s.2)] cs:=by
 obtain⟨xs,n,rfl,_,hl,hx,hf⟩:=DataW.trod_struct Tryz.underlying62 h;rw[ceT]at hl;have h0:DataW.trod enc Tryz.prog w 0 sp true n 3 ((cs.drop 0).take (Tryz.prog.cellsOf 3))=xs[0]?:=hf 0 _ rfl;have h1:DataW.trod enc Tryz.prog w 0 sp true n 23 ((cs.drop 1).take (Tryz.prog.cellsOf 23))=xs[1]?:=hf 1 _ rfl;rw[ceI]at h0;rw[AQI]at h1;have hx:xs.length=2:=hx;rw[zY (by omega)]at h0 h1;obtain⟨k0,hk0,_⟩:=DataW.trod_int Tryz.underlying3 h0
 match cs,hl with
 | [c0,c1],_ =>
  simp at hk0 h1;subst hk0;obtain⟨is,li,ri⟩:=PR h1;exact⟨(k0,is),li, .cons (.lit _) rfl (.cons ri (rU ri) .nil)⟩
theorem AD3 {fuel:Nat} {c:Value} {r:DataW H×List MemPlace} (h:DataW.trod enc Tryz.prog w 0 sp true fuel 27 [c]=some r):∃ l:List Stp,l.length<9223372036854775808∧(∀ s∈l,s.2.length<9223372036854775808)∧IRep (dA w) (.isl (dQ l)) c:=by
 obtain⟨es,e1,e2,e3⟩:=uG (P:=fun cs l=>∃ s:Stp,s.2.length<9223372036854775808∧l=[.int s.1, .isl (aF s.2)]∧ICells (dA w) l cs) Tryz.underlying27 ceT (by omega) (fun cs l ⟨e,_,h5,h6⟩=>⟨by rw[h5];rfl,h6⟩)
  (fun m hm cs x hx=>by
   obtain⟨e,h5,h6⟩:=AHN hx
   exact⟨_,e,h5,rfl,h6⟩) h
 have key:∀ es:List (List IV),(∀ x∈es,∃ cs,∃ s:Stp,s.2.length<9223372036854775808∧x=[.int s.1, .isl (aF s.2)]∧ICells (dA w) x cs)→∃ l:List Stp,dQ l=es∧∀ a∈l,a.2.length<9223372036854775808:=by
  intro es
  induction es with
  | nil=>intro _;exact⟨[],rfl,by simp⟩
  | cons x es ihe =>
   intro h;obtain⟨_,e,h5,h6,_⟩:=h x (by simp);obtain⟨l,h7,h8⟩:=ihe fun y hy=>h y (by simp[hy])
   exact⟨e::l,by rw[h6,← h7];simp[dQ,OM],fun a ha=>by
    rcases zQ.1 ha with rfl|ha
    ·exact h5
    ·exact h8 a ha⟩
 obtain⟨l,rfl,hfat⟩:=key es e3;exact⟨l,by simpa [dQ]using e2,hfat,e1⟩
end
theorem kV {w:World} {p q:Pn} {v v':Value} {ws:List Int} {L:List Stp} {c d:Value} (hp:p.fat) (hq:q.fat) (rp:IRep (dA w) (.agg p.cells) v) (rq:IRep (dA w) (.agg q.cells) v') (hl:ws.length<9223372036854775808) (hw:IRep (dA w) (.isl (aF ws)) c) (hL:L.length<9223372036854775808) (hS:∀ s∈L,s.2.length<9223372036854775808) (hd:IRep (dA w) (.isl (dQ L)) d) :
 Calls Tryz.prog 3 #[v,v',c,d] w fun e w'=>e=.returned (.bool true)∧RowKit.Below w.heap.size w w':=by
 exact VK AKH (.cons (.i rp) (.cons (.i rq) (.cons (.i hw) (.cons (.i hd) .nil)))) (pF hp hq hl hL hS)
end Go.Proofs.YtjdfjgmebalaaaaGreat.P

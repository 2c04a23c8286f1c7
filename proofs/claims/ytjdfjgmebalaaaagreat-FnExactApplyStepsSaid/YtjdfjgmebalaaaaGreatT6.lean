/- Part 6 of what the proof rests on: the executor and what it is worth, and the program's functions as it runs them. No condition. -/
import Derived.Test.YtjdfjgmebalaaaaGreatT5
set_option linter.unusedVariables false
set_option linter.unusedSimpArgs false
namespace Go.Av
theorem dH {ws:List Int}:∀ (p:Pn) (lv:Nat),p.wd ws lv≠0→p.thin:=by
 intro p
 induction p using Pn.ind with
 | h k t es cs ks ih =>
  intro lv h
  have hk:∀ a∈ks,a.thin:=fun a ha=>by
   have h2:=(ACW (p:=.mk k t es cs ks) h (by intro e;simp only[Pn.kids]at e;rw[e]at ha;simp at ha)).2.2 a ha;exact ih a ha _ h2
  have hs:=qD h;rw[Pn.bO];generalize hp:Pn.mk k t es cs ks=p at *
  have hks:ks=p.kids:=by rw[← hp];rfl
  subst hks;have ok1:∀ {w:Int} {e:Ex},e.ok w=true→e.thin:=fun h=>Ex.fO _ (by have:=Ex.fU h;omega)
  cases hs with
  | scan=>simp[Pn.scan,Pn.exprs,Pn.cols,Pn.kids]
  | filt m e a _ _ he=>exact⟨by simp[filt,Pn.exprs],fun x hx=>by simp[filt,Pn.exprs]at hx;subst hx;exact ok1 he,by simp[filt,Pn.cols],by simp[filt,Pn.kids],hk⟩
  | proj m es a _ _ hl he=>exact⟨by simp[proj,Pn.exprs];unfold bN at hl;simp at hl;omega,fun x hx=>ok1 (he x hx),by simp[proj,Pn.cols],by simp[proj,Pn.kids],hk⟩
  | pair m kd e a b _ _ _ _ _ he=>exact⟨by simp[bB,Pn.exprs],fun x hx=>by simp[bB,Pn.exprs]at hx;subst hx;exact ok1 he,by simp[bB,Pn.cols],by simp[bB,Pn.kids],hk⟩
  | union m a b=>exact⟨by simp[dA,Pn.exprs],by simp[dA,Pn.exprs],by simp[dA,Pn.cols],by simp[dA,Pn.kids],hk⟩
  | dist m a=>exact⟨by simp[Pn.exprs],by simp[Pn.exprs],by simp[Pn.cols],by simp[Pn.kids],hk⟩
  | group m cs a _ _ hc=>exact⟨by simp[Pn.exprs],by simp[Pn.exprs],by simp only[Pn.cols];omega,by simp[Pn.kids],hk⟩
theorem TS (c:Int):(YW c).thin:=by simp[YW,Ex.thin,Ex.qH]
theorem rM (a:Int) (n:Nat):∀ b∈aW a n,b.thin:=by
 intro b hb;simp only[aW,yH]at hb;obtain⟨i,_,rfl⟩:=hb;exact TS _
theorem X6 {ws:List Int} {p:Pn} (h:p.wd ws 8≠0) (hk:p.kids≠[]):∀ a∈p.kids,a.wd ws 8≠0:=fun a ha=>by
 have h2:=(ACW h hk).2.2 a ha;rw[Pn.gP a 7 8 h2 (by omega)];exact h2
end Go.Av
namespace Go.Proofs.YtjdfjgmebalaaaaGreat.P
open Go Go.Av
set_option maxRecDepth 4000
set_option maxHeartbeats 4000000
theorem IU {ws:List Int} (hw:lL ws=true) {p:Pn} (hp:p.thin):aI C0 104 [.i (.agg p.cells), .i (.isl (aF ws)), .int 8] []=some (.int (p.wd ws 8),[]):=by
 refine BC (jQ hw) ?_ p (Pn.O7 p hp) 8 (by omega);unfold lL at hw;simp at hw;omega
theorem eY (e:Ex) (p:Pn):aI C0 167 [.i (.agg e.cells), .i (.agg p.cells)] []=some (.i (.agg (filt e p).cells),[]):=by
 rw[aD rfl Tryz.func167 rfl rfl,aT,Ex.aA,Pn.aA];simp
def CFX (a:Int) (n i:Nat):AS :=
 { env:=[(0, .int a),(1, .int n),(4, .nils),(5, .osl 0 5 0 i),(6, .int i),(10,jk i (.bool true))],st:=[some (.arr 5 (Ex.aB (aW a i)))] }
theorem o6 (a:Int) (ha:0≤a∧a≤100) (n:Nat) (hn:n<1000):aI C0 137 [.int a, .int n] []=some (.osl 0 5 0 n,[some (.arr 5 (Ex.aB (aW a n)))]):=by
 rw[aD rfl Tryz.func137 rfl rfl];simp;rw[aV (CFX a n) n (by simp[CFX,aW,Ex.aB])]
 ·rw[aH];have h8:(aW a n).take n=aW a n:=zY (by simp);simp[CFX,h8]
 ·intro i hi;have w2:IntKind.i64.wrap ((i:Int)+1)=i+1:=wrO;have w3:IntKind.i64.wrap (a+(i:Int))=a+i:=wrO;have h8:(aW a i).take i=aW a i:=zY (by simp);simp[CFX,hi,w2,w3,h8,PM,Ex.aY,kZ,show(i+1)*56≤140737488355328 by omega]
def nW (ws:List Int) (r:Int) (e:Ex) (k:Pn):Prop:=aI C0 136 [.i (.agg (filt e k).cells), .int r, .i (.isl (aF ws))] []=some (.tup [.i (.agg ((rwF ws r e k).getD (filt e k)).cells), .bool (rwF ws r e k).isSome],[])
theorem UY {ws:List Int} (hw:lL ws=true) {e:Ex} {k:Pn} (hp:(filt e k).wd ws 8≠0) {r:Int} (hr:r≠1∧r≠2∧r≠3∧r≠4∧r≠5∧r≠7∧r≠8∧r≠10):nW ws r e k:=by
 obtain⟨h1,h2,h3⟩:=vG hp;have c1:=IU hw (dH k 8 h1);unfold nW;obtain⟨r1,r2,r3,r4,r5,r7,r8,r10⟩:=hr;have hn:rwF ws r e k=none:=by simp[rwF,r1,r2,r3,r4,r5,r7,r8,r10]
 rw[hn,aD rfl Tryz.func136 rfl rfl]
 cases hk:k.kids with
 | nil =>
  simp only[Option.getD,aT,Ex.aA e,Pn.aA k,hk,Pn.aB]at c1 ⊢;simp[c1,r1,r2,r3,r4,r5,r7,r8,r10]
 | cons x xs =>
  have c2:=IU hw (dH x 8 (X6 h1 (by simp[hk]) x (by simp[hk])));simp only[Option.getD,aT,Ex.aA e,Pn.aA k,hk,Pn.aB,Pn.aA x]at c1 c2 ⊢;simp[c1,c2,r1,r2,r3,r4,r5,r7,r8,r10]
theorem nZ {ws:List Int} (hw:lL ws=true) {e:Ex} {k:Pn} (hp:(filt e k).wd ws 8≠0) {r:Int} (hr:(r=1∧k.kind≠2)∨(r=2∧e.kind≠8)∨(r=3∧¬ (k.kind=4∨k.kind=5))∨(r=4∧k.kind≠4)∨(r=5∧k.kind≠4)∨(r=7∧k.kind≠5)∨(r=8∧k.kind≠6)∨(r=10∧k.kind≠3)):nW ws r e k:=by
 obtain⟨h1,h2,h3⟩:=vG hp;have c1:=IU hw (dH k 8 h1);unfold nW
 have hn:rwF ws r e k=none:=by
  rcases hr with ⟨rfl,q⟩|⟨rfl,q⟩|⟨rfl,q⟩|⟨rfl,q⟩|⟨rfl,q⟩|⟨rfl,q⟩|⟨rfl,q⟩|⟨rfl,q⟩<;>simp[rwF,q]
 have hr':(r=1∧k.kind≠2)∨(r=2∧e.kind≠8)∨(r=3∧(k.kind≠4∧k.kind≠5))∨(r=4∧k.kind≠4)∨(r=5∧k.kind≠4)∨(r=7∧k.kind≠5)∨(r=8∧k.kind≠6)∨(r=10∧k.kind≠3):=by omega
 rw[hn,aD rfl Tryz.func136 rfl rfl]
 cases hk:k.kids with
 | nil =>
  simp only[Option.getD,aT,Ex.aA e,Pn.aA k,hk,Pn.aB]at c1 ⊢
  rcases hr' with ⟨rfl,q⟩|⟨rfl,q⟩|⟨rfl,q⟩|⟨rfl,q⟩|⟨rfl,q⟩|⟨rfl,q⟩|⟨rfl,q⟩|⟨rfl,q⟩<;>simp[c1,q]
 | cons x xs =>
  have c2:=IU hw (dH x 8 (X6 h1 (by simp[hk]) x (by simp[hk])));simp only[Option.getD,aT,Ex.aA e,Pn.aA k,hk,Pn.aB,Pn.aA x]at c1 c2 ⊢
  rcases hr' with ⟨rfl,q⟩|⟨rfl,q⟩|⟨rfl,q⟩|⟨rfl,q⟩|⟨rfl,q⟩|⟨rfl,q⟩|⟨rfl,q⟩|⟨rfl,q⟩<;>simp[c1,c2,q]
theorem ASV {ws:List Int} (hw:lL ws=true) {e e2:Ex} {a:Pn} (hp:(filt e (filt e2 a)).wd ws 8≠0):nW ws 1 e (filt e2 a):=by
 obtain⟨h1,h2,h3⟩:=vG hp;have c1:=IU hw (dH _ 8 h1);have c2:=IU hw (dH _ 8 (vG h1).1);have c3:=eY (Z8 e2 e) a;have hr:rwF ws 1 e (filt e2 a)=some (filt (Z8 e2 e) a):=by simp[rwF,filt,Pn.ex0,Pn.iZ,Pn.kind,Pn.exprs,Pn.kids]
 unfold nW;rw[hr,aD rfl Tryz.func136 rfl rfl];generalize (filt e2 a).wd ws 8=W at *
 generalize a.wd ws 8=V at *
 simp only[Option.getD,Option.isSome,aT,pX,Ex.aA e,Ex.aA e2,Pn.aA a]at c1 c2 c3 ⊢;simp[c1,c2,c3]
theorem ASU {ws:List Int} (hw:lL ws=true) {e x y:Ex} {k:Pn} (hp:(filt e k).wd ws 8≠0) (he:e.kind=8) (hk2:e.kids=[x,y]):nW ws 2 e k:=by
 obtain⟨h1,h2,h3⟩:=vG hp;have c1:=IU hw (dH k 8 h1);have c3:=eY x k;have c4:=eY y (filt x k);have hr:rwF ws 2 e k=some (filt y (filt x k)):=by simp[rwF,he,Ex.iZ,Ex.pM,hk2]
 unfold nW;rw[hr,aD rfl Tryz.func136 rfl rfl]
 cases hk:k.kids with
 | nil =>
  simp only[Option.getD,Option.isSome,aT,Ex.aA e,hk2,Ex.aB,Ex.aA x,Ex.aA y,Pn.aA k,hk,Pn.aB]at c1 c3 c4 ⊢;simp[c1,c3,c4,he]
 | cons z zs =>
  have c2:=IU hw (dH z 8 (X6 h1 (by simp[hk]) z (by simp[hk])));simp only[Option.getD,Option.isSome,aT,Ex.aA e,hk2,Ex.aB,Ex.aA x,Ex.aA y,Pn.aA k,hk,Pn.aB,Pn.aA z]at c1 c2 c3 c4 ⊢;simp[c1,c2,c3,c4,he]
theorem ASS {ws:List Int} (hw:lL ws=true) {e e2:Ex} {x y:Pn} {kd:Int} (hkd:kd=4∨kd=5) (hp:(filt e (bB kd e2 x y)).wd ws 8≠0):nW ws 3 e (bB kd e2 x y):=by
 obtain⟨h1,h2,h3⟩:=vG hp;obtain⟨g1,g2,g3,g4,g5⟩:=OJ hkd h1;have c1:=IU hw (dH _ 8 h1);have c2:=IU hw (dH _ 8 g1);obtain⟨n,hn,n1,n2⟩:=AP hw g1;rw[hn]at c2;have c3:=eY e x;have c4:=QC e (Ex.GJ h2).1 (by have:=Ex.fU h2;omega) 0 n (by omega);have w1:IntKind.i64.wrap ((n:Int)-1)=n-1:=wrO
 have hr:rwF ws 3 e (bB kd e2 x y)=if e.cin 0 n=true then some (bB kd e2 (filt e x) y)else none:=by
  simp[rwF,bB,Pn.ex0,Pn.iZ,Pn.pM,Pn.kind,Pn.exprs,Pn.kids,hkd,hn]
 unfold nW;rw[hr,aD rfl Tryz.func136 rfl rfl];generalize (bB kd e2 x y).wd ws 8=W at *
 cases hb:e.cin 0 n with
 | true =>
  rw[hb]at c4;simp only[if_true,Option.getD,Option.isSome,aT,pair_cells,Ex.aA e,Ex.aA e2,Pn.aA x,Pn.aA y]at c1 c2 c3 c4 ⊢
  rcases hkd with rfl|rfl<;>simp[c1,c2,c3,c4,w1]
 | false =>
  rw[hb]at c4;simp only[yM,if_false,Option.getD,Option.isSome,aT,pair_cells,Ex.aA e,Ex.aA e2,Pn.aA x,Pn.aA y]at c1 c2 c3 c4 ⊢
  rcases hkd with rfl|rfl<;>simp[c1,c2,c4,w1]
theorem ASR {ws:List Int} (hw:lL ws=true) {e e2:Ex} {x y:Pn} (hp:(filt e (bB 4 e2 x y)).wd ws 8≠0):nW ws 4 e (bB 4 e2 x y):=by
 obtain⟨h1,h2,h3⟩:=vG hp;obtain⟨g1,g2,g3,g4,g5⟩:=OJ (.inl rfl) h1;have c1:=IU hw (dH _ 8 h1);have c2:=IU hw (dH _ 8 g1);obtain⟨n,hn,n1,n2⟩:=AP hw g1;obtain⟨m,hm,m1,m2⟩:=AP hw g2;have hwf:=(Ex.GJ h2).1;rw[g5,hn,hm,← Int.natCast_add]at hwf;have g5':=g5;rw[hn,hm,← Int.natCast_add]at g5';rw[g5']at c1;rw[hn]at c2;have c4:=QC e hwf (by have:=Ex.fU h2;omega) n (n+m:Nat) (by omega);have w1:IntKind.i64.wrap ((n:Int)+m-1)=n+m-1:=wrO;have w2:IntKind.i64.wrap ((n:Int)+m-n)=m:=by rw[wrO];omega
 have hr:rwF ws 4 e (bB 4 e2 x y)=if e.cin n (n+m:Nat)=true then some (bB 4 e2 x (filt (e.wJ (·-n)) y))else none:=by
  have:=g5';unfold bB at this;simp[rwF,bB,Pn.ex0,Pn.iZ,Pn.pM,Pn.kind,Pn.exprs,Pn.kids,hn,this]
 have f1:=o6 0 (by omega) n (by omega);have f2:=o6 0 (by omega) m (by omega);have hlen:(aW 0 n++aW 0 m).length=n+m:=by simp
 have f3:=mJ (aW 0 n++aW 0 m) (fun b hb=>by
  rcases zV.1 hb with h|h<;>exact rM _ _ b h) e (Ex.fO _ (by have:=Ex.fU h2;omega)) (by rw[hlen];exact Ex.GN e hwf)
 unfold nW;rw[hr,aD rfl Tryz.func136 rfl rfl]
 cases hb:e.cin n (n+m:Nat)with
 | true =>
  have hsub:e.sub (aW 0 n++aW 0 m)=e.wJ (·-n):=Ex.XB (g:=fun c=>decide ((n:Int)≤c∧c<(n+m:Nat))) (fun c hc=>by
   simp only[zN]at hc;rw[zK (by simp;omega),tZ,tY (by omega)]
   congr 2;omega) e hb
  rw[hsub]at f3;have c3:=eY (e.wJ (·-n)) y;generalize e.wJ (·-(n:Int))=z at *
  rw[hb]at c4;have ht:∀ k:Nat,(aW 0 k).take k=aW 0 k:=fun k=>zY (by simp)
  have ht2:(Ex.aB (aW 0 n)++Ex.aB (aW 0 m)).take (n+m)=Ex.aB (aW 0 n)++Ex.aB (aW 0 m):=zY (by simp);have hl1:(n+m)*56≤140737488355328:=by omega
  simp only[yD]at c1 c4;simp only[if_true,Option.getD,Option.isSome,aT,pair_cells,Ex.aA e,Ex.aA e2,Ex.aA z,Pn.aA x,Pn.aA y,Ex.kK]at c1 c2 c3 c4 f3 ⊢;simp[c1,c2,c3,c4,w1,w2,f1,f2,f3,ht,ht2,hl1]
 | false =>
  rw[hb]at c4;simp only[yD]at c1 c4;simp only[yM,if_false,Option.getD,Option.isSome,aT,pair_cells,Ex.aA e,Ex.aA e2,Pn.aA x,Pn.aA y]at c1 c2 c4 ⊢;simp[c1,c2,c4,w1]
theorem ASQ {ws:List Int} (hw:lL ws=true) {e e2:Ex} {x y:Pn} (hp:(filt e (bB 4 e2 x y)).wd ws 8≠0):nW ws 5 e (bB 4 e2 x y):=by
 obtain⟨h1,h2,h3⟩:=vG hp;obtain⟨g1,g2,g3,g4,g5⟩:=OJ (.inl rfl) h1;have c1:=IU hw (dH _ 8 h1);have c2:=IU hw (dH _ 8 g1)
 have hr:rwF ws 5 e (bB 4 e2 x y)=some (bB 4 (Z8 e2 e) x y):=by
  simp[rwF,bB,Pn.ex0,Pn.iZ,Pn.pM,Pn.kind,Pn.exprs,Pn.kids]
 unfold nW;rw[hr,aD rfl Tryz.func136 rfl rfl];generalize (bB 4 e2 x y).wd ws 8=W at *
 generalize x.wd ws 8=V at *
 simp only[Option.getD,Option.isSome,aT,pair_cells,pX,Ex.aA e,Ex.aA e2,Pn.aA x,Pn.aA y]at c1 c2 ⊢;simp[c1,c2]
theorem ASP {ws:List Int} (hw:lL ws=true) {e e2:Ex} {x y:Pn} (hp:(filt e (bB 5 e2 x y)).wd ws 8≠0):nW ws 7 e (bB 5 e2 x y):=by
 obtain⟨h1,h2,h3⟩:=vG hp;obtain⟨g1,g2,g3,g4,g5⟩:=OJ (.inr rfl) h1;have c1:=IU hw (dH _ 8 h1);have c2:=IU hw (dH _ 8 g1);obtain⟨n,hn,n1,n2⟩:=AP hw g1;obtain⟨m,hm,m1,m2⟩:=AP hw g2;have hwf:=(Ex.GJ h2).1;rw[g5,hn,hm,← Int.natCast_add]at hwf;have g5':=g5;rw[hn,hm,← Int.natCast_add]at g5';rw[g5']at c1;rw[hn]at c2;have c3:=eY e (bB 4 e2 x y);have f1:=PK (n:=n+m) (p:=n) (m:=m) rfl (by omega);have f2:=UZ e (n:=n+m) (p:=n) (m:=m) rfl (by omega) hwf
 have hr:rwF ws 7 e (bB 5 e2 x y)=if AE7 e (n+m:Nat) n=true then some (filt e (bB 4 e2 x y))else none:=by
  have:=g5';unfold bB at this;simp[rwF,bB,Pn.ex0,Pn.iZ,Pn.pM,Pn.kind,Pn.exprs,Pn.kids,hn,this]
 unfold nW;rw[hr,aD rfl Tryz.func136 rfl rfl];simp only[yD]at c1 f1 f2
 cases hb:AE7 e (n+m:Nat) n with
 | true =>
  rw[show AE7 e ((n:Int)+m) n=true by rw[← Int.natCast_add];exact hb]at f2;simp only[if_true,Option.getD,Option.isSome,aT,pair_cells,Ex.aA e,Ex.aA e2,Pn.aA x,Pn.aA y]at c1 c2 c3 f2 ⊢;simp[c1,c2,c3,f1,f2]
 | false =>
  rw[show AE7 e ((n:Int)+m) n=false by rw[← Int.natCast_add];exact hb]at f2;simp only[yM,if_false,Option.getD,Option.isSome,aT,pair_cells,Ex.aA e,Ex.aA e2,Pn.aA x,Pn.aA y]at c1 c2 f2 ⊢;simp[c1,c2,f1,f2]
theorem ASO {ws:List Int} (hw:lL ws=true) {e:Ex} {x y:Pn} (hp:(filt e (dA x y)).wd ws 8≠0):nW ws 8 e (dA x y):=by
 obtain⟨h1,h2,h3⟩:=vG hp;have c1:=IU hw (dH _ 8 h1);have c2:=IU hw (dH x 8 (X6 h1 (by simp[dA,Pn.kids]) x (by simp[dA,Pn.kids])));have c3:=eY e x;have c4:=eY e y
 have hr:rwF ws 8 e (dA x y)=some (dA (filt e x) (filt e y)):=by
  simp[rwF,dA,Pn.ex0,Pn.iZ,Pn.pM,Pn.kind,Pn.exprs,Pn.kids]
 unfold nW;rw[hr,aD rfl Tryz.func136 rfl rfl];generalize (dA x y).wd ws 8=W at *
 generalize x.wd ws 8=V at *
 simp only[Option.getD,Option.isSome,aT,IJ,Ex.aA e,Pn.aA x,Pn.aA y]at c1 c2 c3 c4 ⊢;simp[c1,c2,c3,c4]
theorem ANQ {ws:List Int} (hw:lL ws=true) {e:Ex} {es:List Ex} {x:Pn} (hp:(filt e (proj es x)).wd ws 8≠0):nW ws 10 e (proj es x):=by
 obtain⟨h1,h2,h3⟩:=vG hp;obtain⟨g1,g2,g3,g4⟩:=AAF h1;have c1:=IU hw (dH _ 8 h1);have c2:=IU hw (dH _ 8 g1);rw[g4]at h2;have c3:=eY (e.sub es) x;have f3:=mJ es (fun b hb=>Ex.fO _ (by have:=Ex.fU (zQ.1 g3 b hb);omega)) e (Ex.fO _ (by have:=Ex.fU h2;omega)) (Ex.GN e (Ex.GJ h2).1)
 have hr:rwF ws 10 e (proj es x)=some (proj es (filt (e.sub es) x)):=by
  simp[rwF,proj,Pn.ex0,Pn.iZ,Pn.pM,Pn.kind,Pn.exprs,Pn.kids]
 unfold nW;rw[hr,aD rfl Tryz.func136 rfl rfl];generalize (proj es x).wd ws 8=W at *
 generalize x.wd ws 8=V at *
 generalize e.sub es=z at *
 simp only[Option.getD,Option.isSome,aT,jN,Ex.aA e,Ex.aA z,Pn.aA x]at c1 c2 c3 f3 ⊢;simp[c1,c2,c3,f3]
theorem AIM {ws:List Int} (hw:lL ws=true) {e:Ex} {k:Pn} (hp:(filt e k).wd ws 8≠0) (r:Int):nW ws r e k:=by
 obtain⟨h1,h2,h3⟩:=vG hp;by_cases hr:r≠1∧r≠2∧r≠3∧r≠4∧r≠5∧r≠7∧r≠8∧r≠10
 ·exact UY hw hp hr
 have hk:=mV h1;have hr':r=1∨r=2∨r=3∨r=4∨r=5∨r=7∨r=8∨r=10:=by omega
 rcases hr' with rfl|rfl|rfl|rfl|rfl|rfl|rfl|rfl
 ·by_cases q:k.kind=2
  ·obtain⟨e2,a,rfl⟩:=qA hk q;exact ASV hw hp
  ·exact nZ hw hp (.inl ⟨rfl,q⟩)
 ·by_cases q:e.kind=8
  ·rcases Ex.AL (Ex.GJ h2).1 with ⟨h,_⟩|⟨h,_⟩|⟨h,_⟩|⟨_,x,y,h,_⟩
   ·omega
   ·omega
   ·omega
   ·exact ASU hw hp q h
  ·exact nZ hw hp (.inr (.inl ⟨rfl,q⟩))
 ·by_cases q:k.kind=4∨k.kind=5
  ·obtain⟨e2,x,y,hx⟩:=jI hk q;generalize k.kind=kd at *
   subst hx;exact ASS hw q hp
  ·exact nZ hw hp (.inr (.inr (.inl ⟨rfl,q⟩)))
 ·by_cases q:k.kind=4
  ·obtain⟨e2,x,y,hx⟩:=jI hk (.inl q);rw[q]at hx;subst hx;exact ASR hw hp
  ·exact nZ hw hp (.inr (.inr (.inr (.inl ⟨rfl,q⟩))))
 ·by_cases q:k.kind=4
  ·obtain⟨e2,x,y,hx⟩:=jI hk (.inl q);rw[q]at hx;subst hx;exact ASQ hw hp
  ·exact nZ hw hp (.inr (.inr (.inr (.inr (.inl ⟨rfl,q⟩)))))
 ·by_cases q:k.kind=5
  ·obtain⟨e2,x,y,hx⟩:=jI hk (.inr q);rw[q]at hx;subst hx;exact ASP hw hp
  ·exact nZ hw hp (.inr (.inr (.inr (.inr (.inr (.inl ⟨rfl,q⟩))))))
 ·by_cases q:k.kind=6
  ·obtain⟨x,y,rfl⟩:=AH4 hk q;exact ASO hw hp
  ·exact nZ hw hp (.inr (.inr (.inr (.inr (.inr (.inr (.inl ⟨rfl,q⟩)))))))
 ·by_cases q:k.kind=3
  ·obtain⟨es,x,rfl⟩:=oH hk q;exact ANQ hw hp
  ·exact nZ hw hp (.inr (.inr (.inr (.inr (.inr (.inr (.inr ⟨rfl,q⟩)))))))
def SRw (ws:List Int) (r:Int) (p:Pn):Prop:=aI C0 102 [.i (.agg p.cells), .int r, .i (.isl (aF ws))] []=some (.tup [.i (.agg ((rwP ws r p).getD p).cells), .bool (rwP ws r p).isSome],[])
theorem AIL {ws:List Int} (hw:lL ws=true) {e:Ex} {k:Pn} (hp:(filt e k).wd ws 8≠0) (r:Int):SRw ws r (filt e k):=by
 have h:=AIM hw hp r;unfold nW at h;unfold SRw;rw[eZ];generalize (rwF ws r e k).getD (filt e k)=q at *
 generalize (rwF ws r e k).isSome=b at *
 rw[aD rfl Tryz.func102 rfl rfl];simp only[aT,Pn.aA q]at h ⊢;simp[h]
theorem ASM {ws:List Int} {p:Pn} {r:Int} (h2:p.kind≠2) (h4:¬ (r=6∧p.kind=4)) (h7:¬ (r=9∧p.kind=7)) (h3:¬ (r=11∧p.kind=3)):SRw ws r p:=by
 have hn:rwP ws r p=none:=by
  unfold rwP;rw[if_neg h2,if_neg h4,if_neg (fun h=>h7 ⟨h.1,h.2.1⟩),if_neg (fun h=>h3 ⟨h.1,h.2.1⟩)]
 unfold SRw;rw[hn,aD rfl Tryz.func102 rfl rfl];simp only[Option.getD,Option.isSome,Pn.aA p];by_cases r6:r=6
 ·have k4:¬ p.kind=4:=fun h=>h4 ⟨r6,h⟩
  simp[h2,r6,k4]
 ·by_cases r9:r=9
  ·have k7:¬ p.kind=7:=fun h=>h7 ⟨r9,h⟩
   simp[h2,r9,k7]
  ·by_cases r11:r=11
   ·have k3:¬ p.kind=3:=fun h=>h3 ⟨r11,h⟩
    simp[h2,r11,k3]
   ·simp[h2,r6,r9,r11]
theorem ANP {ws:List Int} (hw:lL ws=true) {e:Ex} {x y:Pn} (hp:(bB 4 e x y).wd ws 8≠0):SRw ws 6 (bB 4 e x y):=by
 obtain⟨g1,g2,g3,g4,g5⟩:=OJ (.inl rfl) hp;have c1:=IU hw (dH _ 8 g1);have c2:=IU hw (dH _ 8 g2);obtain⟨n,hn,n1,n2⟩:=AP hw g1;obtain⟨m,hm,m1,m2⟩:=AP hw g2;have hwf:=(Ex.GJ g4).1;rw[hn]at c1 hwf;rw[hm]at c2 hwf;have f1:=o6 m (by omega) n (by omega);have f2:=o6 0 (by omega) m (by omega);have hlen:(aW (m:Int) n++aW 0 m).length=n+m:=by simp
 have f3:=mJ (aW (m:Int) n++aW 0 m) (fun b hb=>by
  rcases zV.1 hb with h|h<;>exact rM _ _ b h) e (Ex.fO _ (by have:=Ex.fU g4;omega)) (by rw[hlen,yD];exact Ex.GN e hwf)
 have hsub:e.sub (aW (m:Int) n++aW 0 m)=e.wJ (qI n m):=Ex.XB (g:=fun c=>decide (0≤c∧c<(n:Int)+m)) (fun c hc=>by
  simp only[zN]at hc;rw[YU (by omega)]
  congr 3;omega) e (Ex.O3 e hwf)
 rw[hsub]at f3
 have hr:rwP ws 6 (bB 4 e x y)=some (proj (aW m n++aW 0 m) (bB 4 (e.wJ (qI n m)) y x)):=by
  simp[rwP,bB,Pn.ex0,Pn.iZ,Pn.pM,Pn.kind,Pn.exprs,Pn.kids,hn,hm]
 unfold SRw;rw[hr,aD rfl Tryz.func102 rfl rfl];generalize e.wJ (qI n m)=z at *
 have ht:∀ (a:Int) (k:Nat),(aW a k).take k=aW a k:=fun a k=>zY (by simp)
 have ht2:(Ex.aB (aW m n)++Ex.aB (aW 0 m)).take (n+m)=Ex.aB (aW m n)++Ex.aB (aW 0 m):=zY (by simp);have hl1:(n+m)*56≤140737488355328:=by omega
 simp only[Option.getD,Option.isSome,jN,pair_cells,Ex.aA e,Ex.aA z,Pn.aA x,Pn.aA y,Ex.kK]at c1 c2 f3 ⊢;simp[c1,c2,f1,f2,f3,ht,ht2,hl1]
theorem AIK {ws:List Int} {a:Pn}:SRw ws 9 (.mk 7 0 [] [] [a]):=by
 have hc:(Pn.mk 7 0 [] [] [a]).cells=[.int 7, .int 0, .isl [], .isl [], .isl [a.cells]]:=by simp[Pn.cells,Ex.aB,aF,Pn.aB]
 unfold SRw;rw[aD rfl Tryz.func102 rfl rfl];by_cases h:a.kind=7∨a.kind=8
 ·have hr:rwP ws 9 (.mk 7 0 [] [] [a])=some a:=by simp[rwP,Pn.iZ,Pn.kids,h]
  rw[hr];simp only[Option.getD,Option.isSome,hc,Pn.aA a]
  rcases h with h|h<;>simp[h]
 ·have hr:rwP ws 9 (.mk 7 0 [] [] [a])=none:=by simp[rwP,Pn.iZ,Pn.kids,h]
  rw[hr];simp only[Option.getD,Option.isSome,hc,Pn.aA a];have h7:¬ a.kind=7:=by omega
  have h8:¬ a.kind=8:=by omega
  simp[h7,h8]
theorem O9 {ws:List Int} {fs:List Ex} {a:Pn} (h:a.kind≠3):SRw ws 11 (proj fs a):=by
 have hr:rwP ws 11 (proj fs a)=none:=by simp[rwP,Pn.iZ,Pn.kids,proj,h]
 unfold SRw;rw[hr,aD rfl Tryz.func102 rfl rfl];simp only[Option.getD,Option.isSome,jN,Pn.aA a];simp[h]
def SRX (fs es:List Ex) (x:Pn) (ws:List Int) (zs:List Ex) (i:Nat):AS :=
 { env:=[(0, .i (.agg [.int 3, .int 0, .isl (Ex.aB fs), .isl [], .isl [[.int 3, .int 0, .isl (Ex.aB es), .isl [], .isl [[.int x.kind, .int x.table, .isl (Ex.aB x.exprs), .isl (aF x.cols), .isl (Pn.aB x.kids)]]]]])),(1, .int 11),(2, .i (.isl (aF ws))),(3, .own 0 0),(6, .own 1 0),(7, .bool false),(8, .junk),(9, .junk),(10, .junk),(11, .junk),(12, .osl 2 5 0 i),(13, .int i),(14, .bool false),(24, .bool false),(71, .bool false),(99, .bool true),(120,jk i (.bool true))],
   st:=[some (.box [.i (.int 3), .i (.int 0), .i (.isl (Ex.aB fs)), .i (.isl []), .i (.isl [[.int 3, .int 0, .isl (Ex.aB es), .isl [], .isl [[.int x.kind, .int x.table, .isl (Ex.aB x.exprs), .isl (aF x.cols), .isl (Pn.aB x.kids)]]]])]),some (.box [.int 0, .int 0, .nils, .nils, .nils]),some (.arr 5 (Ex.aB (zs.take i)))] }
theorem AA3 {ws:List Int} {fs es:List Ex} {x:Pn} (hp:(proj fs (proj es x)).wd ws 8≠0):SRw ws 11 (proj fs (proj es x)):=by
 obtain⟨h1,h2,h3,h4⟩:=AAF hp;obtain⟨g1,g2,g3,g4⟩:=AAF h1;rw[g4]at h3;have f3:=fun f (hf:f∈fs)=>mJ es (fun b hb=>Ex.fO _ (by have:=Ex.fU (zQ.1 g3 b hb);omega)) f (Ex.fO _ (by have:=Ex.fU (zQ.1 h3 f hf);omega)) (Ex.GN f (Ex.GJ (zQ.1 h3 f hf)).1)
 have hr:rwP ws 11 (proj fs (proj es x))=some (proj (fs.map (Ex.sub es)) x):=by
  simp[rwP,proj,Pn.ex0,Pn.iZ,Pn.pM,Pn.kind,Pn.exprs,Pn.kids]
 unfold SRw;rw[hr,aD rfl Tryz.func102 rfl rfl];have hlen:fs.length≤6:=by unfold bN at h2;simp at h2;omega
 have hz:∀ (i:Nat) (f:Ex),fs[i]?=some f→(fs.map (Ex.sub es))[i]?=some (f.sub es):=fun i f h=>by simp[h]
 have hzl:(fs.map (Ex.sub es)).length=fs.length:=by simp
 generalize fs.map (Ex.sub es)=zs at *
 simp only[Option.getD,Option.isSome,jN,Pn.aA x];simp;rw[aV (SRX fs es x ws zs) fs.length (by simp[SRX,Ex.aB])]
 ·rw[aH];have ht:zs.take fs.length=zs:=zY (by omega);simp[SRX,ht,hzl]
 ·intro i hi;have q1:=zX hi;have hm:=zU q1;have r1:=Ex.aQ q1;generalize fs[i]=f at q1 hm r1;have q2:=hz i f q1;have c5:=f3 f hm;generalize f.sub es=z at q2 c5;have htk:=aN q2;have w2:IntKind.i64.wrap ((i:Int)+1)=i+1:=wrO;have hl1:(i+1)*56≤140737488355328:=by omega
  have hl2:i≤min i zs.length:=by omega
  simp only[Ex.aA f,Ex.aA z]at c5 r1;simp[SRX,hi,r1,c5,w2,htk,Ex.aY,Ex.aA z,hl1,hl2,zG]
theorem ASN {ws:List Int} (hw:lL ws=true) {p:Pn} (hp:p.wd ws 8≠0) (r:Int):SRw ws r p:=by
 have hk:=mV hp;by_cases k2:p.kind=2
 ·obtain⟨e,a,rfl⟩:=qA hk k2;exact AIL hw hp r
 by_cases k4:r=6∧p.kind=4
 ·obtain⟨rfl,k4⟩:=k4;obtain⟨e,x,y,hx⟩:=jI hk (.inl k4);rw[k4]at hx;subst hx;exact ANP hw hp
 by_cases k7:r=9∧p.kind=7
 ·obtain⟨rfl,k7⟩:=k7;obtain⟨a,rfl⟩:=AH5 hk k7;exact AIK
 by_cases k3:r=11∧p.kind=3
 ·obtain⟨rfl,k3⟩:=k3;obtain⟨fs,a,rfl⟩:=oH hk k3;by_cases k33:a.kind=3
  ·obtain⟨V,hV,_⟩:=A9 hk;obtain⟨es,x,rfl⟩:=oH hV k33;exact AA3 hp
  ·exact O9 k33
 exact ASM k2 k4 k7 k3
end Go.Proofs.YtjdfjgmebalaaaaGreat.P
namespace Go.Av
theorem AQE {path:List Int} {p a:Pn} {x:Int} (h:Pn.at path p=some a):Pn.at (path++[x]) p=if 0≤x then a.kids[x.toNat]? else none:=by
 rw[CK path p a [x] h];unfold Pn.at;split
 ·cases a.kids[x.toNat]?<;>simp[Pn.at]
 ·rfl
theorem AQF {path r:List Int} {p:Pn} (h:Pn.at path p=none):Pn.at (path++r) p=none:=by
 induction path generalizing p with
 | nil=>simp[Pn.at]at h
 | cons i path ih =>
  simp only[yR,Pn.at]at h ⊢;split
  ·rename_i h0;rw[if_pos h0]at h
   cases hk:p.kids[i.toNat]? with
   | none=>rfl
   | some b=>rw[hk]at h;exact ih h
  ·rfl
theorem AGU (path:List Int) (p:Pn):∃ j:Nat,(∀ i,i<j→∃ (x:Int) (a b:Pn),path[i]?=some x∧Pn.at (path.take i) p=some a∧0≤x∧a.kids[x.toNat]?=some b∧Pn.at (path.take (i+1)) p=some b)∧((∃ a,j=path.length∧Pn.at path p=some a)∨(∃ (x:Int) (a:Pn),path[j]?=some x∧Pn.at (path.take j) p=some a∧(0≤x→a.kids[x.toNat]?=none)∧Pn.at path p=none)):=by
 generalize hn:path.length=n
 induction n generalizing path with
 | zero =>
  obtain rfl:=zW.1 hn;exact⟨0,fun i hi=>by omega, .inl ⟨p,rfl,rfl⟩⟩
 | succ n ih =>
  obtain⟨l,x,rfl⟩:∃ l x,path=l++[x]:=by
   rcases zA2 path with h|⟨l,x,h⟩
   ·rw[h]at hn;simp at hn
   ·exact⟨l,x,by simpa using h⟩
  have hln:l.length=n:=by simpa using hn
  subst hln;obtain⟨j,h1,h2⟩:=ih l rfl
  have hlt:∀ i,i<j→i<l.length:=fun i hi=>by
   obtain⟨y,_,_,h,_⟩:=h1 i hi;exact(zZ.1 h).1
  have h1':∀ i,i<j→∃ (x':Int) (a b:Pn),(l++[x])[i]?=some x'∧Pn.at ((l++[x]).take i) p=some a∧0≤x'∧a.kids[x'.toNat]?=some b∧Pn.at ((l++[x]).take (i+1)) p=some b:=fun i hi=>by
   obtain⟨y,a,b,q1,q2,q3,q4,q5⟩:=h1 i hi;have hl:=hlt i hi;refine⟨y,a,b,by rw[zM hl];exact q1,by rw[xQ (by omega)];exact q2,q3,q4,by rw[xQ (by omega)];exact q5⟩
  rcases h2 with ⟨a,rfl,ha⟩|⟨y,a,q1,q2,q3,q4⟩
  ·have hs:=AQE (x:=x) ha;by_cases hx:0≤x
   ·rw[if_pos hx]at hs
    cases hk:a.kids[x.toNat]? with
    | none=>exact⟨l.length,h1', .inr ⟨x,a,by simp,by simpa using ha,fun _=>hk,by rw[hs,hk]⟩⟩
    | some b =>
     refine⟨l.length+1,fun i hi=>?_, .inl ⟨b,by simp,by rw[hs,hk]⟩⟩;by_cases hi':i<l.length
     ·exact h1' i hi'
     ·obtain rfl:i=l.length:=by omega
      exact⟨x,a,b,by simp,by simpa using ha,hx,hk,by rw[zY (by simp),hs,hk]⟩
   ·rw[if_neg hx]at hs;exact⟨l.length,h1', .inr ⟨x,a,by simp,by simpa using ha,fun h=>absurd h hx,hs⟩⟩
  ·have hl:=(zZ.1 q1).1;exact⟨j,h1', .inr ⟨y,a,by rw[zM hl];exact q1,by rw[xQ (by omega)];exact q2,q3,AQF q4⟩⟩
theorem WR:∀ (path:List Int) (p a:Pn),p.thin→Pn.at path p=some a→a.thin
 | [],p,a,h,e=>by simp[Pn.at]at e;subst e;exact h
 | i::r,p,a,h,e=>by
  obtain⟨n,rfl,b,hb,hr⟩:=Pn.rT e;exact WR r b a (((Pn.bO p).1 h).2.2.2.2 b (zU hb)) hr
theorem Pn.ABK (l:List Pn) (n:Nat) (x:Pn):(Pn.aB l).set n x.cells=Pn.aB (l.set n x):=by
 induction l generalizing n with
 | nil=>simp[Pn.aB]
 | cons a l ih=>cases n with
  | zero=>simp[Pn.aB]
  | succ n=>simp[Pn.aB,ih n]
end Go.Av
namespace Go.Proofs.YtjdfjgmebalaaaaGreat.P
open Go Go.Av
set_option maxRecDepth 4000
set_option maxHeartbeats 4000000
def ACI (a:Pn):Option Blk:=some (.box [.i (.int a.kind), .i (.int a.table), .i (.isl (Ex.aB a.exprs)), .i (.isl (aF a.cols)), .i (.isl (Pn.aB a.kids))])
def PAX (p:Pn) (path:List Int) (a:Pn) (i:Nat):AS :=
 { env:=[(0, .i (.agg [.int p.kind, .int p.table, .isl (Ex.aB p.exprs), .isl (aF p.cols), .isl (Pn.aB p.kids)])),(1, .i (.isl (aF path))),(2, .own 0 0),(4, .own 1 0),(5, .bool false),(6, .int i),(10,jk i (.bool true)),(22,jk i (.bool false))],
   st:=[ACI a,some (.box [.int 0, .int 0, .nils, .nils, .nils])] }
theorem AEH {p:Pn} (hp:p.thin) {path:List Int} (hl:path.length<1000000):aI C0 101 [.i (.agg p.cells), .i (.isl (aF path))] []=some (.tup [.i (.agg ((Pn.at path p).getD Pn.zero).cells), .bool (Pn.at path p).isSome],[]):=by
 obtain⟨j,h1,h2⟩:=AGU path p;rw[aD rfl Tryz.func101 rfl rfl];simp only[Pn.aA p];simp;rw[aV (fun i=>PAX p path ((Pn.at (path.take i) p).getD Pn.zero) i) j (by simp[PAX,Pn.at,ACI])]
 ·rw[aH]
  rcases h2 with ⟨a,rfl,ha⟩|⟨x,a,q1,q2,q3,q4⟩
  ·simp[PAX,ACI,ha,Pn.aA a]
  ·have r1:=bJ q1;have hj:=(zZ.1 q1).1;have ha:=WR _ _ _ hp q2;have hka:=((Pn.bO a).1 ha).2.2.2.1;have w1:IntKind.i64.wrap ((a.kids.length:Int)-1)=a.kids.length-1:=wrO
   have hin:(decide (0≤x∧x≤(a.kids.length:Int)-1))=false:=by
    rw[decide_eq_false_iff_not];rintro⟨g1,g2⟩;have:=zA8.1 (q3 g1);omega
   have hir:=NB x 0 ((a.kids.length:Int)-1);rw[hin]at hir;simp[PAX,ACI,q2,q4,hj,r1,w1,hir,aU]
 ·intro i hi;obtain⟨x,a,b,q1,q2,q3,q4,q5⟩:=h1 i hi;have r1:=bJ q1;have hj:=(zZ.1 q1).1;have ha:=WR _ _ _ hp q2;have hka:=((Pn.bO a).1 ha).2.2.2.1;have hxl:=(zZ.1 q4).1;have r4:=Pn.aQ q4;have w1:IntKind.i64.wrap ((a.kids.length:Int)-1)=a.kids.length-1:=wrO;have w2:IntKind.i64.wrap ((i:Int)+1)=i+1:=wrO;have hin:(decide (0≤x∧x≤(a.kids.length:Int)-1))=true:=by rw[zN];omega
  have hir:=NB x 0 ((a.kids.length:Int)-1);rw[hin]at hir;rw[Pn.aA b]at r4;simp[PAX,ACI,q2,q5,hj,r1,w1,w2,hir,q3,show x<a.kids.length by omega,r4]
end Go.Proofs.YtjdfjgmebalaaaaGreat.P
namespace Go.Av
theorem kI {e:Ex} {a:Pn} (he:e.thin) (ha:a.thin):(filt e a).thin:=by simp[filt,Pn.thin,Pn.qH,he,ha]
theorem JC {es:List Ex} {a:Pn} (hl:es.length<1000000000) (he:∀ e∈es,e.thin) (ha:a.thin):(proj es a).thin:=by simp[proj,Pn.thin,Pn.qH,hl,ha];exact he
theorem tF {kd:Int} {e:Ex} {a b:Pn} (he:e.thin) (ha:a.thin) (hb:b.thin):(bB kd e a b).thin:=by simp[bB,Pn.thin,Pn.qH,he,ha,hb]
theorem ZO {a b:Pn} (ha:a.thin) (hb:b.thin):(dA a b).thin:=by simp[dA,Pn.thin,Pn.qH,ha,hb]
theorem U6 {a b:Ex} (ha:a.thin) (hb:b.thin):(Z8 a b).thin:=by simp[Z8,Ex.thin,Ex.qH,ha,hb]
theorem rG:Ex.zero.thin:=by simp[Ex.zero,Ex.thin,Ex.qH]
theorem Pn.tL {p:Pn} (h:p.thin):p.iZ.thin:=by
 unfold Pn.iZ
 cases hk:p.kids[0]? with
 | none=>exact Pn.I4
 | some a=>exact((Pn.bO p).1 h).2.2.2.2 a (zU hk)
theorem Pn.BR {p:Pn} (h:p.thin):p.pM.thin:=by
 unfold Pn.pM
 cases hk:p.kids[1]? with
 | none=>exact Pn.I4
 | some a=>exact((Pn.bO p).1 h).2.2.2.2 a (zU hk)
theorem Pn.YK {p:Pn} (h:p.thin):p.ex0.thin:=by
 unfold Pn.ex0
 cases hk:p.exprs[0]? with
 | none=>exact rG
 | some a=>exact((Pn.bO p).1 h).2.1 a (zU hk)
theorem Ex.tL {e:Ex} (h:e.thin):e.iZ.thin:=by
 unfold Ex.iZ
 cases hk:e.kids[0]? with
 | none=>exact rG
 | some a=>exact((Ex.bO e).1 h).2 a (zU hk)
theorem Ex.BR {e:Ex} (h:e.thin):e.pM.thin:=by
 unfold Ex.pM
 cases hk:e.kids[1]? with
 | none=>exact rG
 | some a=>exact((Ex.bO e).1 h).2 a (zU hk)
theorem Ex.XA {l:List Ex} (hl:∀ b∈l,b.thin):∀ e:Ex,e.thin→(e.sub l).thin:=by
 intro e
 induction e using Ex.ind with
 | h k c v ks ih =>
  intro ht;have h:=(Ex.bO _).1 ht;by_cases hk:k=1
  ·unfold Ex.sub;rw[if_pos hk]
   cases hx:l[c.toNat]? with
   | none=>exact rG
   | some b=>exact hl b (zU hx)
  ·rw[Ex.vZ l (e:=.mk k c v ks) hk,Ex.bO];refine⟨by simpa [Ex.kids]using h.1,fun x hx=>?_⟩;simp only[Ex.kids,yH]at hx;obtain⟨y,hy,rfl⟩:=hx;exact ih y hy (h.2 y hy)
theorem Ex.SE {f:Int→Int}:∀ e:Ex,e.thin→(e.wJ f).thin:=by
 intro e
 induction e using Ex.ind with
 | h k c v ks ih =>
  intro ht;have h:=(Ex.bO _).1 ht;by_cases hk:k=1
  ·rw[Ex.H7 f (e:=.mk k c v ks) hk];exact TS _
  ·rw[Ex.H6 f (e:=.mk k c v ks) hk,Ex.bO];refine⟨by simpa [Ex.kids]using h.1,fun x hx=>?_⟩;simp only[Ex.kids,yH]at hx;obtain⟨y,hy,rfl⟩:=hx;exact ih y hy (h.2 y hy)
theorem AIU {ws:List Int} {r:Int} {e:Ex} {k q:Pn} (he:e.thin) (hk:k.thin) (h:rwF ws r e k=some q):q.thin:=by
 have k0:=Pn.tL hk;have k1:=Pn.BR hk;have x0:=Pn.YK hk;have hx:=((Pn.bO k).1 hk).2.1;have hl:=((Pn.bO k).1 hk).1;unfold rwF at h
 repeat' split at h
 all_goals first
  | (cases h;done)
  | (injection h with h;subst h
     first
      | exact kI (U6 x0 he) k0
      | exact kI (Ex.BR he) (kI (Ex.tL he) hk)
      | exact tF x0 (kI he k0) k1
      | exact tF x0 k0 (kI (Ex.SE _ he) k1)
      | exact tF (U6 x0 he) k0 k1
      | exact kI he (tF x0 k0 k1)
      | exact ZO (kI he k0) (kI he k1)
      | exact JC hl hx (kI (Ex.XA hx _ he) k0))
theorem AIR {ws:List Int} (hw:∀ w∈ws,0≤w∧w≤6) {r:Int} {p q:Pn} (hp:p.thin) (h:rwP ws r p=some q):q.thin:=by
 have k0:=Pn.tL hp;have k1:=Pn.BR hp;have x0:=Pn.YK hp;have hx:=((Pn.bO p).1 hp).2.1;have hl:=((Pn.bO p).1 hp).1;have hx0:=((Pn.bO _).1 k0).2.1;have r0:=Pn.uF hw p.iZ 8;have r1:=Pn.uF hw p.pM 8;unfold rwP at h;split at h
 ·exact AIU x0 k0 h
 split at h
 ·injection h with h;subst h;refine JC (by simp;omega) (fun e he=>?_) (tF (Ex.SE _ x0) k1 k0)
  rcases zV.1 he with h|h<;>exact rM _ _ e h
 split at h
 ·injection h with h;subst h;exact k0
 split at h
 ·injection h with h;subst h;refine JC (by simpa using hl) (fun e he=>?_) (Pn.tL k0);obtain⟨y,hy,rfl⟩:=yH.1 he;exact Ex.XA hx0 y (hx y hy)
 ·cases h
theorem XQ {q:Pn} (hq:q.thin):∀ (path:List Int) (p a:Pn),p.thin→Pn.at path p=some a→(Pn.put path p q).thin
 | [],p,a,_,_=>by simpa [Pn.put]using hq
 | x::r,p,a,hp,ha=>by
  obtain⟨n,rfl,b,hb,hr⟩:=Pn.rT ha;have h:=(Pn.bO p).1 hp;have ih:=XQ hq r b a (h.2.2.2.2 b (zU hb)) hr;rw[Pn.GY q hb,Pn.bO];refine⟨h.1,h.2.1,h.2.2.1,by simpa [Pn.kids]using h.2.2.2.1,fun c hc=>?_⟩;simp only[Pn.kids]at hc
  rcases zA4 hc with h1|h1
  ·exact h.2.2.2.2 c h1
  ·rw[h1];exact ih
end Go.Av
namespace Go.Proofs.YtjdfjgmebalaaaaGreat.P
open Go Go.Av
set_option maxRecDepth 4000
set_option maxHeartbeats 4000000
theorem OC {p q:Pn} (hq:q.thin):aI C0 103 [.i (.agg p.cells), .i (.isl []), .i (.agg q.cells)] []=some (.i (.agg q.cells),[]):=by
 have h:=wT q hq;rw[aD rfl Tryz.func103 rfl rfl];rw[Pn.aA p,Pn.aA q]at *
 by_cases he:q.exprs=[]
 ·by_cases hk:q.kids=[]
  ·simp[pcX,pcS,hk,he,Pn.aB,Ex.aB]at h;simp[h,hk,he,Pn.aB,Ex.aB]
  ·have hkl:q.kids.length≠0:=fun h=>hk (zW.1 h)
   simp[pcX,pcS,hk,he,aP hkl,aJ hkl,Ex.aB]at h;simp[h,he,Ex.aB]
 ·have hel:q.exprs.length≠0:=fun h=>he (zW.1 h)
  by_cases hk:q.kids=[]
  ·simp[pcX,pcS,hk,he,aP hel,aJ hel,Pn.aB]at h;simp[h,hk,Pn.aB]
  ·have hkl:q.kids.length≠0:=fun h=>hk (zW.1 h)
   simp[pcX,pcS,hk,he,aP hel,aJ hel,aP hkl,aJ hkl]at h;simp[h]
theorem FH {q:Pn} (hq:q.thin):∀ (path:List Int) (p a:Pn),p.thin→path.length<1000000→Pn.at path p=some a→aI C0 103 [.i (.agg p.cells), .i (.isl (aF path)), .i (.agg q.cells)] []=some (.i (.agg (Pn.put path p q).cells),[])
 | [],p,a,hp,hl,ha=>by simpa [aF,Pn.put]using OC (p:=p) hq
 | x::r,p,a,hp,hl,ha=>by
  obtain⟨n,rfl,b,hb,hr⟩:=Pn.rT ha;have hrl:r.length<1000000:=by simp at hl;omega
  have ih:=FH hq r b a (((Pn.bO p).1 hp).2.2.2.2 b (zU hb)) hrl hr;have h:=wT p hp;have hk:p.kids≠[]:=fun h=>by rw[h]at hb;simp at hb
  have hkl:p.kids.length≠0:=fun h=>hk (zW.1 h)
  have hn:=(zZ.1 hb).1;have r4:=Pn.aQ hb;rw[Pn.GY q hb,aD rfl Tryz.func103 rfl rfl];generalize Pn.put r b q=z at *
  have hs:=Pn.ABK p.kids n z;have hsl:(p.kids.set n z).length=p.kids.length:=by simp
  have hsn:p.kids.set n z≠[]:=fun h=>by rw[h]at hsl;simp at hsl;exact hkl hsl.symm
  have ht:(Pn.aB (p.kids.set n z)).take p.kids.length=Pn.aB (p.kids.set n z):=zY (by simp);have hlen1:(r.length:Int)+1≠0:=by omega
  have hone:(1:Int)≤(r.length:Int)+1:=by omega
  rw[Pn.aA p,Pn.aA q]at *
  rw[Pn.aA b,Pn.aA z]at *
  have htr:List.take r.length (aF r)=aF r:=zY (by simp);by_cases he:p.exprs=[]
  ·simp[pcX,pcS,hk,he,aP hkl,aJ hkl,Ex.aB]at h;simp[h,he,Ex.aB,aF,Pn.cells,hn,hlen1,hone,r4,ih,hs,ht,htr]
  ·have hel:p.exprs.length≠0:=fun h=>he (zW.1 h)
   simp[pcX,pcS,hk,he,aP hel,aJ hel,aP hkl,aJ hkl]at h;simp[h,aF,Pn.cells,hn,hlen1,hone,r4,ih,hs,ht,htr]
theorem TZ {ws:List Int} (hw:lL ws=true) {p:Pn} (hp:p.wd ws 8≠0) (r:Int) {path:List Int} (hl:path.length<1000000):aI C0 65 [.i (.agg p.cells), .i (.isl (aF ws)), .i (.agg [.int r, .isl (aF path)])] []=some (.tup [.i (.agg (BV (apS ws r path p)).cells), .bool (apS ws r path p).isSome],[]):=by
 have ht:=dH p 8 hp;have c1:=AEH ht hl;unfold apS
 cases ha:Pn.at path p with
 | none =>
  rw[ha]at c1;rw[aD rfl Tryz.func65 rfl rfl];simp only[Option.getD,Option.isSome,Option.bind,BV,aU,Pn.aA p]at c1 ⊢;simp[c1]
 | some a =>
  rw[ha]at c1
  have ha8:a.wd ws 8≠0:=by
   obtain⟨h1,h2⟩:=LZ path p 8 a hp ha;rw[Pn.gP a _ 8 h2 (by omega)];exact h2
  have hat:=dH a 8 ha8;have c2:=ASN hw ha8 r;unfold SRw at c2
  cases hq:rwP ws r a with
  | none =>
   rw[hq]at c2;rw[aD rfl Tryz.func65 rfl rfl];simp only[hq,Option.getD,Option.isSome,Option.bind,BV,aU,Pn.aA p,Pn.aA a]at c1 c2 ⊢;simp[c1,c2]
  | some q =>
   rw[hq]at c2;have hqt:=AIR (jQ hw) hat hq;have c3:=FH hqt path p a ht hl ha;have hzt:=XQ hqt path p a ht ha;have c4:=IU hw hzt;have hv:((some a).bind fun a=>(rwP ws r a).bind fun q=>if(Pn.put path p q).wd ws 8≠0 then some (Pn.put path p q)else none)=if(Pn.put path p q).wd ws 8≠0 then some (Pn.put path p q)else none:=by simp[hq]
   rw[hv];generalize Pn.put path p q=z at *
   rw[aD rfl Tryz.func65 rfl rfl];by_cases hz:z.wd ws 8=0
   ·rw[hz]at c4;simp only[hq,hz,ne_eq,not_true_eq_false,if_false,Option.getD,Option.isSome,Option.bind,BV,aU,Pn.aA p,Pn.aA a,Pn.aA q,Pn.aA z]at c1 c2 c3 c4 ⊢;simp[c1,c2,c3,c4]
   ·simp only[hq,hz,ne_eq,not_false_eq_true,if_true,Option.getD,Option.isSome,Option.bind,BV,Pn.aA p,Pn.aA a,Pn.aA q,Pn.aA z]at c1 c2 c3 c4 ⊢;simp[c1,c2,c3,c4,hz]
end Go.Proofs.YtjdfjgmebalaaaaGreat.P
namespace Go.Av
def atV:Option Pn→AV
 | some a=>.i (.iref a.cells)
 | none=>.i (.lit (.pointer none))
def atI (path:List Int) (p:Pn):Option Pn:=if path.length≤8 then Pn.at path p else none
end Go.Av
namespace Go.Proofs.YtjdfjgmebalaaaaGreat.P
open Go Go.Av
set_option maxRecDepth 4000
set_option maxHeartbeats 4000000
def AIX (p:Pn) (path:List Int) (i:Nat):AS :=
 { env:=[(0, .i (.iref ((Pn.at (path.take i) p).getD Pn.zero).cells)),(1, .i (.isl (aF path))),(4, .i (.lit (.pointer none))),(6,jk i (.int ((path[i-1]?).getD 0))),(9, .bool false),(10, .i (.isl (aF path))),(11, .int path.length),(12, .int i),(13,jk i (.bool true)),(26,jk i (.bool false))],st:=[] }
theorem YC (p:Pn) (path:List Int):aI C0 69 [.i (.iref p.cells), .i (.isl (aF path))] []=some (atV (atI path p),[]):=by
 rw[aD rfl Tryz.func69 rfl rfl];by_cases hl:path.length≤8
 ·have hl':¬ (8:Int)<path.length:=by omega
  obtain⟨j,h1,h2⟩:=AGU path p;simp[hl',atI,hl];rw[aV (AIX p path) j (by simp[AIX,Pn.at])]
  ·rw[aH]
   rcases h2 with ⟨a,rfl,ha⟩|⟨x,a,q1,q2,q3,q4⟩
   ·simp[AIX,ha,atV]
   ·have hj:=(zZ.1 q1).1;have r1:=bJ q1
    have hx:x<0∨(0≤x∧(a.kids.length:Int)≤x):=by
     by_cases h:x<0
     ·exact .inl h
     ·have:=q3 (by omega);simp at this;exact .inr ⟨by omega,by omega⟩
    simp only[AIX,q2,yC,q4,atV];rw[Pn.aA a]
    rcases hx with h|⟨h,h'⟩
    ·simp[hj,r1,h]
    ·have hn:¬ x<0:=by omega
     simp[hj,r1,hn,h']
  ·intro i hi;obtain⟨x,a,b,q1,q2,q3,q4,q5⟩:=h1 i hi;obtain⟨hj,qx⟩:=zZ.1 q1;have r1:=bJ q1;have hk:=(zZ.1 q4).1;have r2:=Pn.aQ q4;obtain⟨n,rfl⟩:=yQ q3;simp only[Int.ofNat_eq_natCast,Int.toNat_natCast]at *
   have w2:IntKind.i64.wrap ((i:Int)+1)=i+1:=wrO;have n1:¬ (n:Int)<0:=by omega
   have n2:¬ a.kids.length≤n:=by omega
   simp only[AIX,q2,q5,yC];rw[Pn.aA a,Pn.aA b]at *
   simp[hj,r1,n1,n2,hk,r2,w2,q1,qx]
 ·have hl':(8:Int)<path.length:=by omega
  simp[hl',atI,hl,atV]
theorem AC0 {p:Pn} {ws:List Int} {r:Int} {path:List Int} (h:p.width ws=0∨apI ws r path p=none):aI C0 26 [.i (.agg p.cells), .i (.isl (aF ws)), .i (.agg [.int r, .isl (aF path)])] []=some (.tup [.i (.agg Pn.zero.cells), .bool false],[]):=by
 have c1:=jP p ws;have c2:=YC p path;rw[aD rfl Tryz.func26 rfl rfl];by_cases h0:p.width ws=0
 ·rw[Pn.aA p]at c1 ⊢;simp[c1,h0,Pn.zero,Pn.cells,Ex.aB,aF,Pn.aB]
 ·obtain⟨hw,hp8,hv⟩:=mW h0;have hn:=h.resolve_left h0;unfold apI at hn
  cases ha:atI path p with
  | none =>
   rw[ha]at c2;rw[Pn.aA p]at c1 c2 ⊢;simp[atV]at c2;simp[c1,h0,c2,Pn.zero,Pn.cells,Ex.aB,aF,Pn.aB]
  | some a =>
   rw[ha]at c2;unfold atI at ha;split at ha
   ·rename_i hl;rw[if_pos hl,ha]at hn;simp only[yP]at hn;obtain⟨-,hav⟩:=LZ path p 8 a hp8 ha;have ha8:a.wd ws 8≠0:=by rw[Pn.gP a _ 8 hav (by omega)];exact hav
    have c3:=o7 hw ha8 r (lv:=8-path.length) (by omega)
    have hr:rwL ws r (8-path.length) a=none:=by
     cases hq:rwL ws r (8-path.length) a with
     | none=>rfl
     | some q=>rw[hq]at hn;cases hn
    rw[hr]at c3;have w1:IntKind.i64.wrap (8-(path.length:Int))=((8-path.length:Nat):Int):=by rw[wrO];omega
    simp only[atV]at c2;rw[Pn.aA p]at c1 c2 ⊢;rw[Pn.aA a]at c2 c3;simp[BV,Pn.zero,Pn.cells,Ex.aB,aF,Pn.aB]at c3;simp[c1,h0,c2,w1,c3,Pn.zero,Pn.cells,Ex.aB,aF,Pn.aB]
   ·cases ha
end Go.Proofs.YtjdfjgmebalaaaaGreat.P
namespace Go.Proofs.YtjdfjgmebalaaaaGreat
open Go Go.Av
theorem RJ {g:FuncId} {q:List AV→StL→Option (AV×StL)} (h:C0.prim g=some q):(g=92∧q=WH)∨(g=59∧q=WG):=by
 have h:AOE g=some q:=h;unfold AOE at h;split at h
 ·injection h with h;exact .inl ⟨rfl,h.symm⟩
 ·injection h with h;exact .inr ⟨rfl,h.symm⟩
 ·cases h
theorem AXB:PrimOk C0:=by
 constructor
 ·intro g args st p h;unfold bE at h
  cases hq:C0.prim g with
  | none=>rw[hq]at h;cases h
  | some q =>
   rcases RJ hq with ⟨rfl,rfl⟩|⟨rfl,rfl⟩
   ·exact⟨Tryz.f92,Tryz.func92,by decide,rfl⟩
   ·exact⟨Tryz.f59,Tryz.func59,by decide,rfl⟩
 ·intro g args stl r stl' h w m φ vs hi hr h0;unfold bE at h
  cases hq:C0.prim g with
  | none=>rw[hq]at h;cases h
  | some q =>
   rcases RJ hq with ⟨rfl,rfl⟩|⟨rfl,rfl⟩
   ·rw[hq]at h;obtain⟨e,he,hres,hor⟩:=ABD h;injection hres with h1 h2;subst h1;subst h2
    rcases hor with ⟨rfl,rfl⟩|⟨j,es,rfl,rfl,hes⟩
    ·exact G6 he hi hr h0
    ·exact ABF he hes hi hr h0
   ·rw[hq]at h;obtain⟨p,⟨k1,k2,k3⟩,rfl,rfl,hres⟩:=ABC h;injection hres with h1 h2;subst h1;subst h2;exact G.PI k1 k2 k3 hi hr h0
theorem bH:SoundOk C0:=fQ (C:=C0) ft nt eqS mo AXB
end Go.Proofs.YtjdfjgmebalaaaaGreat
namespace Go.Av
section
variable {wi:World} {mi:Mem} {nt:Nat}
theorem GR.AFU {ok:Nat→Prop} {env:Nat→AV} {st:Store} {a:Act} {w:World} {d:Nat} {m1:Mem} {φ:Pl} {p:Pn} (hd:d<nt) (hi:Inv w m1 φ st) (henv:∀ t,Rep m1 φ (env t) (a.tmps.getD t undef)) (hadv:Adv wi mi (fun _=>none) w m1 φ) (hok:∀ id,φ id≠none→ok id) (hsz:nt≤a.tmps.size) (hdf:a.defers=[])
 {e:Ending} {w':World} (h:uD w m1 p e w'):∃ y,e=.returned y∧∃ v0 v1 v2 v3 v4 F,GR wi mi nt ok (CPY w p F v0 v1 v2 v3 v4) (upd env d (.i (.agg [.lit v0, .lit v1, .lit v2, .lit v3, .lit v4]))) st (a.put (some d) y) w':=by
 obtain⟨v0,v1,v2,v3,v4,F,m2,rfl,hone,hm2,ha,hc⟩:=h;obtain⟨i2,a2⟩:=hi.APT ha hm2;refine⟨_,rfl,v0,v1,v2,v3,v4,F,⟨m2,φ,i2,uM (dst:=some d) (fun t=>(henv t).mono a2.mle a2.ple) hsz (by simpa [WB]using hd) (.i (.agg ?_)),hadv.trans a2,hok,?_⟩,by rw[mM];exact hsz,by rw[iF];exact hdf⟩
 ·exact .cons (.lit _) (hone _ (by simp)) (.cons (.lit _) (hone _ (by simp)) (.cons (.lit _) (hone _ (by simp)) (.cons (.lit _) (hone _ (by simp)) (.cons (.lit _) (hone _ (by simp)) .nil))))
 ·refine⟨hc.th,hc.cells,hc.nd,fun f hf=>?_,hc.kc⟩;obtain⟨k1,k2,k3,k4,k5⟩:=hc.all f hf;refine⟨k1,k2,fun id b n e ho=>?_,k4,k5⟩;have:=hi.low id b n f e ho;omega
theorem GR.YG {ok:Nat→Prop} {env:Nat→AV} {st:Store} {a:Act} {w:World} {d:Nat} {m:Mem} {φ:Pl} {p y:Pn} {root:Nat} {F:List Nat} {path:List Int} (hd:d<nt) (hi:Inv w m φ st) (henv:∀ t,Rep m φ (env t) (a.tmps.getD t undef)) (hadv:Adv wi mi (fun _=>none) w m φ) (hok:∀ id,φ id≠none→ok id) (hsz:nt≤a.tmps.size) (hdf:a.defers=[]) (hr:RAW wi root p F [] w m φ)
 {e:Ending} {w':World} (h:∃ bq oq Fa Fy Fz m',e=.returned (.pointer (some ⟨bq,oq,none⟩))∧AtP w m p root 0 F path y bq oq Fa Fy Fz∧jV w' m'∧Adv w (bZ w) (fun _=>none) w' m' (fun _=>none)) :
 ∃ v,e=.returned v∧∃ bq oq Fa Fy Fz,GR wi mi nt ok (RAT wi root p F path y bq oq Fa Fy Fz) (upd env d (.i (.lit (.pointer (some ⟨bq,oq,none⟩))))) st (a.put (some d) v) w':=by
 obtain⟨bq,oq,Fa,Fy,Fz,m',rfl,hat,hm,ha⟩:=h;have hsame:∀ f,f<w.heap.size→w'.heap[f]?=w.heap[f]?:=fun f hf=>ha.block f hf fun id b n e=>by cases e
 have i2:=hi.later ha.size hsame
 have a2:Adv w m φ w' m φ:=⟨ha.size,ha.os,ha.tape,ha.output,fun b hb' _=>hsame b hb', .refl _,fun _ _ _ _=>rfl, .refl _,fun _ _ _ _ e ho=>.inr (gD.not e ho)⟩
 exact⟨_,rfl,bq,oq,Fa,Fy,Fz,⟨m,φ,i2,uM (dst:=some d) henv hsz (by simpa [WB]using hd) (.i (.lit _)),hadv.trans a2,hok,RAT.DL _ _ _ _ _ _ _ _ _ _ _ _ _ _ _ _ _ a2 ⟨hr,hat⟩⟩,by rw[mM];exact hsz,by rw[iF];exact hdf⟩
end
end Go.Av
namespace Go.Proofs.YtjdfjgmebalaaaaGreat.P
open Go Go.Av G
theorem AXW:Tryz.f59.name≠ "runtime.NumGoroutine":=by decide
theorem AXX:Tryz.f59.body.isSome=true:=rfl
theorem hb48:Tryz.f69.body.isSome=true:=rfl
theorem AZ8:Tryz.f69.name≠ "runtime.NumGoroutine":=by decide
set_option maxRecDepth 4000
set_option maxHeartbeats 8000000
theorem ALG {α:Type} (f:Nat→α) (a:Nat) (x y:α):upd (upd f a x) a y=upd f a y:=by funext i;simp only[upd];split<;>rfl
def TEV (p:Pn) (ws:List Int) (r:Int) (path:List Int) (v3 v5 v6 v7 v8 v9 v10 v11 v15 v21 v36:AV):List (Nat×AV):=[(0, .i (.agg p.cells)),(1, .i (.isl (aF ws))),(2, .i (.agg [.int r, .isl (aF path)])),(3,v3),(5,v5),(6,v6),(7,v7),(8,v8),(9,v9),(10,v10),(11,v11),(15,v15),(21,v21),(36,v36)]
def bxP (p:Pn):Option Blk:=some (.box (jW p.cells))
def bxS (r:Int) (path:List Int):Option Blk:=some (.box [.i (.int r), .i (.isl (aF path))])
theorem ABZ {p:Pn} {ws:List Int} {r:Int} {path:List Int} {q:Pn} (h0:p.width ws≠0) (hq:apI ws r path p=some q) {wi:World} {mi:Mem} {vs:List Value} (hi:Inv wi mi (fun _=>none) (aS [])) (hr:RepL mi (fun _=>none) [.i (.agg p.cells), .i (.isl (aF ws)), .i (.agg [.int r, .isl (aF path)])] vs) :
 Calls Tryz.prog 26 vs.toArray wi (bF wi mi (fun _=>none) (.tup [.i (.agg q.cells), .bool true]) []):=by
 obtain⟨hw,hp8,hv⟩:=mW h0;have hws:=jQ hw;unfold apI at hq;split at hq
 rotate_left
 ·cases hq
 rename_i hl
 cases ha:Pn.at path p with
 | none=>rw[ha]at hq;cases hq
 | some a =>
 rw[ha]at hq;simp only[yP]at hq;obtain⟨-,hav⟩:=LZ path p 8 a hp8 ha;have ha8:a.wd ws 8≠0:=by rw[Pn.gP a _ 8 hav (by omega)];exact hav
 cases hx:rwL ws r (8-path.length) a with
 | none=>rw[hx]at hq;cases hq
 | some x =>
 rw[hx]at hq;simp only[xA,Option.some.injEq]at hq;subst hq
 have hxw:x.wd ws (8-path.length)≠0:=by
  unfold rwL at hx
  cases hy:rwP ws r a with
  | none=>rw[hy]at hx;cases hx
  | some y =>
   rw[hy]at hx;simp only[yP]at hx;split at hx
   ·injection hx with hx;subst hx;assumption
   ·cases hx
 have hx8:x.wd ws 8≠0:=by rw[Pn.gP x _ 8 hxw (by omega)];exact hxw
 have hxs:x.small:=⟨by have:=(Pn.vM x 8 hx8).2;omega,dH x 8 hx8,(Pn.vM x 8 hx8).1⟩
 have hps:p.small:=⟨by have:=(Pn.vM p 8 hp8).2;omega,dH p 8 hp8,(Pn.vM p 8 hp8).1⟩
 have c1:=jP p ws;have c2:=YC p path;simp only[atI,hl,if_true,ha,atV]at c2;have c3:=o7 hw ha8 r (lv:=8-path.length) (by omega);rw[hx]at c3;simp only[BV,yC,Option.isSome_some]at c3
 have c4:aI C0 59 [.i (.iref x.cells)] []=some (.i (.agg x.cells),[]):=by
  rw[bA (p:=WG) rfl];exact AKG hxs
 have w1:IntKind.i64.wrap (8-(path.length:Int))=((8-path.length:Nat):Int):=by rw[wrO];omega
 refine calls_of_wp (fn:=Tryz.f26) Tryz.func26 rfl ?_;have hv1:vs.length=3:=by simpa using hr.length.symm
 have g0:GR wi mi 45 (fun id=>id<({ env:=[(0, .i (.agg p.cells)),(1, .i (.isl (aF ws))),(2, .i (.agg [.int r, .isl (aF path)]))],st:=[] }:AS).st.length) (fun _ _ _=>True) (aL [(0, .i (.agg p.cells)),(1, .i (.isl (aF ws))),(2, .i (.agg [.int r, .isl (aF path)]))]) (aS []) { tmps:=vs.toArray++Array.replicate (45-vs.toArray.size) undef,defers:=[] } wi:=by
  refine⟨⟨mi,fun _=>none,hi,?_, .refl _ _ _,fun id h=>absurd rfl h,trivial⟩,by simp;omega,rfl⟩;intro t;have:=kJ (m:=mi) (φ:=fun _=>none) (45-vs.toArray.size) hr t
  rcases t with _|_|_|t
  ·simpa [aL,pV]using this
  ·simpa [aL,pV]using this
  ·simpa [aL,pV]using this
  ·simp only[aL];simp;exact .junk _
 refine wp_seq (wp_mono (GR.dS bH (G:=GS 26) (S:={ env:=[(0, .i (.agg p.cells)),(1, .i (.isl (aF ws))),(2, .i (.agg [.int r, .isl (aF path)]))],st:=[] }) (e:=.normal) (S':={ env:=TEV p ws r path (.own 0 0) (.own 1 0) (.own 2 0) (.bool false) .junk .junk .junk .junk .junk .junk .junk,st:=[bxP p,bxS r path,some (.box zp)] }) iX (by kernel_rfl) (by
  rw[Pn.aA p]at *
  simp[TEV,bxP,bxS,zp,Pn.aA p]) g0) ?_)
 rintro _ a1 w1' ⟨rfl,g1⟩
 refine wp_seq (wp_mono (GR.dS bH (G:=GS 26) (S:={ env:=TEV p ws r path (.own 0 0) (.own 1 0) (.own 2 0) (.bool false) .junk .junk .junk .junk .junk .junk .junk,st:=[bxP p,bxS r path,some (.box zp)] }) (e:=.normal) (S':={ env:=TEV p ws r path (.own 0 0) (.own 1 0) (.own 2 0) (.bool false) .junk .junk .junk .junk (.bool false) .junk .junk,st:=[bxP p,bxS r path,some (.box zp)] }) iX (by kernel_rfl) (by
  simp only[TEV,bxP,bxS];rw[Pn.aA p]at *
  simp[zp,c1,h0]) g1) ?_)
 rintro _ a2 w2' ⟨rfl,g2⟩
 refine wp_seq (wp_mono (GR.dS bH (G:=GS 26) (S:={ env:=TEV p ws r path (.own 0 0) (.own 1 0) (.own 2 0) (.bool false) .junk .junk .junk .junk (.bool false) .junk .junk,st:=[bxP p,bxS r path,some (.box zp)] }) (e:=.normal) (S':={ env:=TEV p ws r path (.own 0 0) (.own 1 0) (.own 2 0) (.bool false) (.i (.iref a.cells)) .junk .junk .junk (.bool false) .junk .junk,st:=[some (.fbox p.cells),bxS r path,some (.box zp)] }) iX (by kernel_rfl) (by
  simp only[TEV,bxP,bxS];rw[Pn.aA p,Pn.aA a]at *
  simp[zp,c2]) g2) ?_)
 rintro _ a3 w3' ⟨rfl,g3⟩
 refine wp_seq (wp_mono (GR.dS bH (G:=GS 26) (S:={ env:=TEV p ws r path (.own 0 0) (.own 1 0) (.own 2 0) (.bool false) (.i (.iref a.cells)) .junk .junk .junk (.bool false) .junk .junk,st:=[some (.fbox p.cells),bxS r path,some (.box zp)] }) (e:=.normal) (S':={ env:=TEV p ws r path (.own 0 0) (.own 1 0) (.own 2 0) (.bool false) (.i (.iref a.cells)) .junk .junk .junk (.bool false) (.bool false) .junk,st:=[some (.fbox p.cells),bxS r path,some (.box zp)] }) iX (by kernel_rfl) (by
  simp only[TEV,bxP,bxS]
  simp[zp]) g3) ?_)
 rintro _ a4 w4' ⟨rfl,g4⟩
 refine wp_seq (wp_mono (GR.dS bH (G:=GS 26) (S:={ env:=TEV p ws r path (.own 0 0) (.own 1 0) (.own 2 0) (.bool false) (.i (.iref a.cells)) .junk .junk .junk (.bool false) (.bool false) .junk,st:=[some (.fbox p.cells),bxS r path,some (.box zp)] }) (e:=.normal) (S':={ env:=TEV p ws r path (.own 0 0) (.own 1 0) (.own 2 0) (.bool false) (.i (.iref a.cells)) (.own 3 0) (.bool true) .junk (.bool false) (.bool false) .junk,st:=[some (.fbox p.cells),bxS r path,some (.box zp),bxP x] }) iX (by kernel_rfl) (by
  simp only[TEV,bxP,bxS];rw[Pn.aA a,Pn.aA x]at *
  simp[zp,w1,c3]) g4) ?_)
 rintro _ a5 w5' ⟨rfl,g5⟩
 refine wp_seq (wp_mono (GR.dS bH (G:=GS 26) (S:={ env:=TEV p ws r path (.own 0 0) (.own 1 0) (.own 2 0) (.bool false) (.i (.iref a.cells)) (.own 3 0) (.bool true) .junk (.bool false) (.bool false) .junk,st:=[some (.fbox p.cells),bxS r path,some (.box zp),bxP x] }) (e:=.normal) (S':={ env:=TEV p ws r path (.own 0 0) (.own 1 0) (.own 2 0) (.bool false) (.i (.iref a.cells)) (.own 3 0) (.bool true) .junk (.bool false) (.bool false) (.bool false),st:=[some (.fbox p.cells),bxS r path,some (.box zp),bxP x] }) iX (by kernel_rfl) (by
  simp only[TEV,bxP,bxS]
  simp[zp,Pn.aA x]) g5) ?_)
 rintro _ a6 w6 ⟨rfl,g6⟩;clear g0 g1 g2 g3 g4 g5;have hst6:(6:Nat)<45:=by omega
 refine wp_seq (jJ ?_);show wpOpsIn (FR none) 0 Tryz.prog _ _ (List.range 3) a6 w6;rw[show List.range 3=0::(List.range' 1 2++[])from rfl,wpOpsIn_cons];obtain⟨⟨m6,φ6,i6,henv6,adv6,ok6,-⟩,sz6,df6⟩:=g6;obtain⟨m7,rp7,i7,adv7⟩:=lT i6 (henv6 3) (show gJ (aS [some (.fbox p.cells),bxS r path,some (.box zp),bxP x]) (.own 0 0)=some (.i (.iref p.cells),aS [some (.fbox p.cells),bxS r path,some (.box zp),bxP x])by simp[gJ,qC,frz,vD,BX,aS,bnd,tst,gX]);have rp7':RepL m7 (fun _=>none) [.i (.iref p.cells)] [a6.tmps.getD 3 undef]:=.cons (by cases rp7 with|i k=>exact .i k) .nil
 have i7':Inv w6 m7 (fun _=>none) (aS []):=⟨i7.mem,fun id blk e=>by simp[aS]at e,fun _ _ _ _ _ _ _ _ _ e=>by simp[aS]at e,fun _ _ _ _ e=>by cases e⟩
 refine oQ (P:=Tryz.prog) (fn:=Tryz.f59) (d:=38) (g:=59) (args:=#[.tmp 3]) rfl rfl rfl rfl Tryz.func59 AXW AXX (vs:=[a6.tmps.getD 3 undef]) rfl ((iM hps.1 hps.2.1 hps.2.2 i7' rp7').mono fun e w7 hraw=>?_);obtain⟨y,rfl,v0,v1,v2,v3,v4,F,g7⟩:=GR.AFU (nt:=45) (d:=38) (by omega) i7 (fun t=>(henv6 t).mono adv7.mle adv7.ple) (adv6.trans adv7) ok6 sz6 df6 hraw;refine⟨y,rfl,?_⟩;have hsz6:wi.heap.size≤w6.heap.size:=adv6.size;generalize hE8:TEV p ws r path (.own 0 0) (.own 1 0) (.own 2 0) (.bool false) (.i (.iref a.cells)) (.own 3 0) (.bool true) .junk (.bool false) (.bool false) (.bool false)=E8 at g7;refine GR.AM6 bH (CPY.DL _ _ _ _ _ _ _ _) 1 2 rfl ?_ (base:=4) (R0:={ env:=upd (aL E8) 38 (.i (.agg [.lit v0, .lit v1, .lit v2, .lit v3, .lit v4])),st:=aS [some (.fbox p.cells),bxS r path,some (.box zp),bxP x],log:=[] }) (R1:={ env:=upd (upd (aL E8) 38 (.i (.agg [.lit v0, .lit v1, .lit v2, .lit v3, .lit v4]))) 11 (.own 12 0),st:=upd (aS [some (.fbox p.cells),bxS r path,some (.box zp),bxP x]) 12 (some (.box (bI [v0,v1,v2,v3,v4]))),log:=[] }) ?_ (g7.ok' fun id h=>.inl (by simpa using h)) fun a8 w8 g8=>?_
 ·kernel_rfl
 ·simp[bI,zp,ALG]
 obtain⟨b3,g9⟩:=g8.AZ2 (u:=11) (id:=12) (st':=aS [some (.fbox p.cells),bxS r path,some (.box zp),bxP x]) hsz6 rfl rfl (by
  intro i blk h
  rcases i with _|_|_|_|i
  ·simp[aS]at h;subst h;simp[upd,aS,eX]
  ·simp[aS,bxS]at h;subst h;simp[upd,aS,eX,bxS]
  ·simp[aS]at h;subst h;simp[upd,aS,eX,zp]
  ·simp[aS,bxP]at h;subst h;simp[upd,aS,eX,bxP,Pn.aA x,jW]
  ·simp[aS]at h)
 have g9:=(g9 (aL [(5, .own 1 0),(6, .own 2 0),(9, .own 3 0),(11, .i (.lit (.pointer (some ⟨b3,0,none⟩))))]) (by
  subst hE8;intro t;simp only[aL];by_cases h5:t=5
  ·subst h5;exact .inr (.inr ⟨by simp[upd,TEV,aL],by simp[upd,TEV,aL,gZ,aS,bxS]⟩)
  by_cases h6:t=6
  ·subst h6;exact .inr (.inr ⟨by simp[upd,TEV,aL],by simp[upd,TEV,aL,gZ,aS]⟩)
  by_cases h9:t=9
  ·subst h9;exact .inr (.inr ⟨by simp[upd,TEV,aL],by simp[upd,TEV,aL,gZ,aS,bxP]⟩)
  by_cases h11:t=11
  ·subst h11;exact .inr (.inl ⟨rfl,rfl⟩)
  simp[h5,h6,h9,h11])).ok' (ok':=fun id=>FL 4 (fun j=>j<0) id) (by
  intro i h;refine .inl ?_
  rcases i with _|_|_|_|i
  all_goals first|omega|(simp[aS]at h))
 clear g7 g8;refine wp_seq (jJ ?_);show wpOpsIn (FR none) 0 Tryz.prog _ _ (List.range 6) a8 w8;rw[show List.range 6=List.range' 0 2++(2::(List.range' 3 2++(List.range' 5 1++[])))from rfl];generalize hE9:aL [(5, .own 1 0),(6, .own 2 0),(9, .own 3 0),(11, .i (.lit (.pointer (some ⟨b3,0,none⟩))))]=E9 at g9;refine GR.AM6 bH (RAW.DL _ _ _ _ _) 0 2 rfl ?_ (base:=4) (R0:={ env:=E9,st:=aS [some (.fbox p.cells),bxS r path,some (.box zp),bxP x],log:=[] }) (R1:={ env:=upd (upd E9 39 (.own 1 1)) 40 (.i (.isl (aF path))),st:=aS [some (.fbox p.cells),bxS r path,some (.box zp),bxP x],log:=[] }) ?_ g9 fun a9 w9 g10=>?_
 ·kernel_rfl
 ·subst hE9;simp[zp,bxS,ALG]
 clear g9;rw[wpOpsIn_cons];obtain⟨⟨m10,φ10,i10,henv10,adv10,ok10,r10⟩,AVQ,df10⟩:=g10;have hv11:=henv10 11;have hv40:=henv10 40;simp only[show upd (upd E9 39 (.own 1 1)) 40 (.i (.isl (aF path))) 11=.i (.lit (.pointer (some ⟨b3,0,none⟩)))from by subst hE9;rfl]at hv11;simp only[show upd (upd E9 39 (.own 1 1)) 40 (.i (.isl (aF path))) 40=.i (.isl (aF path))from rfl]at hv40;have hmm:MLe m10 (bZ w9):=i10.mem;refine oQ (P:=Tryz.prog) (fn:=Tryz.f69) (d:=41) (g:=69) (args:=#[.tmp 11, .tmp 40]) rfl rfl rfl rfl Tryz.func69 AZ8 hb48 (vs:=[a9.tmps.getD 11 undef,a9.tmps.getD 40 undef]) rfl ((Z5 r10.th r10.nr r10.nd ha hl (vs:=[a9.tmps.getD 11 undef,a9.tmps.getD 40 undef]) (.cons (by cases hv11 with|i k=>exact .i (k.mono hmm)) (.cons (by cases hv40 with|i k=>exact .i (k.mono hmm)) .nil))).mono fun e w10 hplace=>?_);obtain⟨y2,rfl,bq,oq,Fa,Fy,Fz,g11⟩:=GR.YG (nt:=45) (d:=41) (by omega) i10 henv10 adv10 ok10 AVQ df10 r10 hplace;refine⟨y2,rfl,?_⟩;refine GR.AM6 bH (RAT.DL _ _ _ _ _ _ _ _ _ _ _) 3 2 rfl ?_ (base:=4) (R0:={ env:=upd (upd (upd E9 39 (.own 1 1)) 40 (.i (.isl (aF path)))) 41 (.i (.lit (.pointer (some ⟨bq,oq,none⟩)))),st:=aS [some (.fbox p.cells),bxS r path,some (.box zp),bxP x],log:=[] }) (R1:={ env:=upd (upd (upd (upd (upd E9 39 (.own 1 1)) 40 (.i (.isl (aF path)))) 41 (.i (.lit (.pointer (some ⟨bq,oq,none⟩))))) 42 (.i (.agg x.cells))) 43 (.i (.lit (.pointer (some ⟨bq,oq,none⟩)))),st:=upd (aS [some (.fbox p.cells),bxS r path,some (.box zp),bxP x]) 3 (some (.fbox x.cells)),log:=[] }) ?_ (g11.ok' fun id h=>nJ (fun j hj=>by omega) h) fun a10 w11 g12=>?_
 ·kernel_rfl
 ·subst hE9;rw[Pn.aA x]at c4;simp[zp,bxS,bxP,Pn.aA x,c4,ALG]
 clear g11
 obtain⟨pre,row,post,ma,hrl,hpl,g13⟩:=g12.AVB (u:=43) (k:=1) (st':=upd (fun _=>none) 2 (some (.box zp))) rfl (by
  intro i blk h;by_cases h2:i=2
  ·subst h2;simp[upd]at h;subst h;simp[upd,aS,eX,zp]
  ·simp[upd,h2]at h) (by simp[upd])
 have g13:=(g13 (aL [(6, .own 2 0),(11, .i (.lit (.pointer (some ⟨b3,0,none⟩)))),(42, .i (.agg x.cells)),(43, .own 1 oq)]) (by
  subst hE9;intro t;simp only[aL];by_cases h6:t=6
  ·subst h6;exact .inr (.inr ⟨by simp[upd,aL],by simp[upd,aL,gZ]⟩)
  by_cases h11:t=11
  ·subst h11;exact .inr (.inr ⟨by simp[upd,aL],by simp[upd,aL,gZ]⟩)
  by_cases h42:t=42
  ·subst h42;exact .inr (.inr ⟨by simp[upd,aL],by simp[upd,aL,gZ]⟩)
  by_cases h43:t=43
  ·subst h43;exact .inr (.inl ⟨rfl,rfl⟩)
  simp[h6,h11,h42,h43])).ok' (ok':=fun id=>FL 4 (fun j=>j<5) id) (by
  intro i h;refine .inl ?_
  rcases h with h|h
  ·by_cases h2:i=2
   ·omega
   ·simp[upd,h2]at h
  ·omega)
 clear g12;refine GR.AM6 bH (fun w m φ w' m' φ' ha h=>⟨ADK.DL _ _ _ _ _ _ _ _ _ _ _ _ _ _ _ _ _ _ _ _ ha h.1,h.2⟩) 5 1 rfl ?_ (base:=4) (R0:={ env:=aL [(6, .own 2 0),(11, .i (.lit (.pointer (some ⟨b3,0,none⟩)))),(42, .i (.agg x.cells)),(43, .own 1 oq)],st:=upd (upd (fun _=>none) 2 (some (.box zp))) 1 (some (.box (jD pre (bI row) post))),log:=[] }) (R1:={ env:=aL [(6, .own 2 0),(11, .i (.lit (.pointer (some ⟨b3,0,none⟩)))),(42, .i (.agg x.cells)),(43, .own 1 oq)],st:=upd (upd (upd (fun _=>none) 2 (some (.box zp))) 1 (some (.box (jD pre (bI row) post)))) 1 (some (.box (jD pre (jW x.cells) post))),log:=[] }) ?_ g13 fun a11 w12 g14=>?_
 ·kernel_rfl
 ·subst hpl
  have hsp:splice (jD pre (bI row) post) pre.length (jW x.cells)=some (jD pre (jW x.cells) post):=by
   have:=nH pre post (bI row) 0 (jW x.cells);rw[xU]at this;rw[this]
   match row,hrl with
   | [r0,r1,r2,r3,r4],_=>rw[Pn.aA];simp[bI,jW,jD,splice,bnd]
  rw[Pn.aA x]at *
  simp at hsp;simp[hsp,ALG]
 clear g13
 have g15:=g14.AXZ (q:=x) hrl hpl rfl (st':=upd (fun _=>none) 2 (some (.box zp))) (env':=aL [(6, .own 2 0),(11, .i (.lit (.pointer (some ⟨b3,0,none⟩))))]) (by
  intro i blk h;by_cases h2:i=2
  ·subst h2;simp[upd]at h;subst h;simp[upd,eX,zp]
  ·simp[upd,h2]at h) (by
  intro t;simp only[aL];by_cases h6:t=6
  ·subst h6;exact .inr ⟨by simp,by simp[gZ,upd]⟩
  by_cases h11:t=11
  ·subst h11;exact .inr ⟨by simp,by simp[gZ]⟩
  simp[h6,h11])
 clear g14
 have g16:=g15.AhI (u:=11) rfl (env':=aL [(6, .own 2 0),(11, .i (.iref (Pn.put path p x).cells))]) (by
  intro t;simp only[aL];by_cases h6:t=6
  ·subst h6;exact .inr (.inr (by simp))
  by_cases h11:t=11
  ·subst h11;exact .inr (.inl ⟨rfl,by simp⟩)
  simp[h6,h11])
 clear g15;generalize Pn.put path p x=q at *
 have g17:=g16.settle (fun _ _ _ _ h=>h) [6,11];have hset:Av.settle [6,11] 0 (aL [(6, .own 2 0),(11, .i (.iref q.cells))]) (upd (fun _=>none) 2 (some (.box zp)))={ env:=[(6, .own 0 0),(11, .i (.iref q.cells))],st:=[some (.box zp)] }:=by simp[zp,upd]
 rw[hset]at g17;clear g16
 refine wp_mono (GR.dS bH (G:=GS 26) (S:={ env:=[(6, .own 0 0),(11, .i (.iref q.cells))],st:=[some (.box zp)] }) (e:=.ret) (S':={ env:=[(0, .junk),(1, .junk),(2, .junk),(3, .junk),(5, .junk),(6, .own 0 0),(7, .bool true),(8, .junk),(9, .junk),(10, .junk),(11, .i (.iref q.cells)),(15, .junk),(21, .junk),(36, .junk)],st:=[bxP q] }) iX (by kernel_rfl) (by
  simp only[bxP];rw[Pn.aA q]
  simp[zp]) g17) ?_
 rintro _ a12 w13 ⟨rfl,g18⟩;obtain⟨⟨m,φ,q1,q2,q3,q4,q5⟩,q6,q7⟩:=g18
 obtain⟨v,k1,k2⟩:=eO (C:=C0) (fn:=Tryz.f26) (keep:=false) (na:=0) (S:={ env:=[(0, .junk),(1, .junk),(2, .junk),(3, .junk),(5, .junk),(6, .own 0 0),(7, .bool true),(8, .junk),(9, .junk),(10, .junk),(11, .i (.iref q.cells)),(15, .junk),(21, .junk),(36, .junk)],st:=[bxP q] }) (r:=.tup [.i (.agg q.cells), .bool true]) (stl':=[]) (fun id h=>absurd rfl h) ⟨⟨⟨m,φ,q1,q2,q3,q4, .nil _ _ _⟩,q6,q7⟩,zA9 _⟩ (by
  show finish C0 false [ResultVar.cell 6 34,ResultVar.tmp 7] 0 _=_;simp only[bxP];rw[Pn.aA q]
  simp)
 exact⟨q7,v,k1,k2⟩
end Go.Proofs.YtjdfjgmebalaaaaGreat.P
namespace Go.Av
def rqA (q:Pn) (j:Nat):AV :=
 .agg [.int q.kind, .int q.table,if q.exprs=[]then .nils else .osl j 5 0 q.exprs.length,if q.cols=[]then .nils else .osl (if q.exprs=[]then j else j+1) 1 0 q.cols.length,if q.kids=[]then .nils else .osl (if q.exprs=[]then(if q.cols=[]then j else j+1)else(if q.cols=[]then j+1 else j+2)) 5 0 q.kids.length]
def rqB (q:Pn):StL:=(if q.exprs=[]then []else [some (.tre 5 (Ex.aB q.exprs))])++((if q.cols=[]then []else [some (.arr 1 (aF q.cols))])++(if q.kids=[]then []else [some (.tre 5 (Pn.aB q.kids))]))
section
variable {w:World} {m:Mem}
theorem AOM {φ:Pl} {st:StL} (hi:Inv w m φ (aS st)) (hb:∀ id,φ id≠none→id<st.length) {b len:Nat} {F:List Nat} {blk:Blk} (hbF:b∈F) (hlt:∀ f∈F,f<w.heap.size) (hfr:∀ f∈F,gD φ f) (hblk:∀ φ':Pl,BlkOk w m φ' b ⟨len,fun f=>f∈F⟩ blk) :
 Inv w m (upd φ st.length (some (b,⟨len,fun f=>f∈F⟩))) (aS (st++[some blk]))∧∀ id,upd φ st.length (some (b,⟨len,fun f=>f∈F⟩)) id≠none→id<st.length+1:=by
 have hp:PLe φ (upd φ st.length (some (b,⟨len,fun f=>f∈F⟩))):=fun i r n e=>by
  refine⟨n,?_,rfl,fun _ h=>h⟩;have:i≠st.length:=fun h=>by have:=hb i (by rw[e];simp);omega
  simp[upd,this,e]
 have hst:∀ i blk1,aS (st++[some blk]) i=some blk1→(i≠st.length∧aS st i=some blk1)∨(i=st.length∧blk1=blk):=by
  intro i blk1 h;rw[qJ]at h;by_cases h1:i<st.length
  ·rw[zM h1]at h;exact .inl ⟨by omega,by rw[qJ];exact h⟩
  ·rw[zK (by omega)]at h
   cases h2:i-st.length with
   | zero=>rw[h2]at h;simp at h;exact .inr ⟨by omega,h.symm⟩
   | succ j=>rw[h2]at h;simp at h
 refine⟨⟨hi.mem,?_,?_,?_⟩,?_⟩
 ·intro i blk1 h
  rcases hst i blk1 h with ⟨h1,h2⟩|⟨rfl,rfl⟩
  ·obtain⟨r,n,q1,q2,q3⟩:=hi.live i blk1 h2;exact⟨r,n,by simp[upd,h1,q1],q2,q3.mono q2.1 (fun _ _=>rfl) (.refl _) hp fun _ _ _=>rfl⟩
  ·exact⟨b,⟨len,fun f=>f∈F⟩,by simp[upd],⟨hbF,hlt⟩,hblk _⟩
 ·intro i j r r' n n' b1 b2 f e1 e2 p1 p2 o1 o2
  rcases hst i b1 e1 with ⟨h1,h2⟩|⟨rfl,rfl⟩<;>rcases hst j b2 e2 with ⟨h3,h4⟩|⟨rfl,rfl⟩
  ·simp[upd,h1]at p1;simp[upd,h3]at p2;exact hi.inj i j r r' n n' b1 b2 f h2 h4 p1 p2 o1 o2
  ·simp[upd,h1]at p1;simp[upd]at p2;obtain⟨rfl,rfl⟩:=p2;exact absurd o1 (hfr f o2 i r n p1)
  ·simp[upd,h3]at p2;simp[upd]at p1;obtain⟨rfl,rfl⟩:=p1;exact absurd o2 (hfr f o1 j r' n' p2)
  ·rfl
 ·intro i r n f e ho;by_cases h:i=st.length
  ·simp[upd,h]at e;obtain⟨rfl,rfl⟩:=e;exact hlt f ho
  ·simp[upd,h]at e;exact hi.low i r n f e ho
 ·intro id h;by_cases h1:id=st.length
  ·omega
  ·simp[upd,h1]at h;have:=hb id h;omega
theorem AGT:∀ {cs:List IV} {vs:List Value} {F:List Nat},TCells w cs vs F→lS cs=true→F=[]
 | _,_,_, .nil,_=>rfl
 | _,_,_, .lit _ r,h=>AGT r (by simp only[lS,zT]at h;exact h.2)
 | _,_,_, .isl0 _ r,h=>AGT r (by simp only[lS,zT]at h;exact h.2)
 | _,_,_, .isl (es:=es) hn _ _ _ _ _ _ _,h=>by
  cases es with
  | nil=>exact absurd rfl hn
  | cons=>simp[lS,kR]at h
theorem VB {φ:Pl} {st:StL} (hi:Inv w m φ (aS st)) (hb:∀ id,φ id≠none→id<st.length) {es:List (List IV)} {k:Nat} {v:Value} {F:List Nat} (hk0:0<k) (hk:∀ e∈es,e.length=k) (ht:TCells w [.isl es] [v] F) (hn:F.Nodup) (hm:∀ f∈F,∀ o,m f o=none) (hlt:∀ f∈F,f<w.heap.size) (hfr:∀ f∈F,gD φ f)
 (hnil:es=[]→v=.slice none 0 0) {blk:Blk} (hmk:blk=.tre k es∨(blk=.arr k es∧fH es=true)) (c:Prop) [Decidable c] (hc:c↔es=[]) :
 ∃ φ',Inv w m φ' (aS (st++if c then []else [some blk]))∧(∀ id,φ' id≠none→id<(st++if c then []else [some blk]).length)∧PLe φ φ'∧Rep m φ' (if c then .nils else .osl st.length k 0 es.length) v∧(∀ f,gD φ f→f ∉ F→gD φ' f)∧∀ id b n f,φ' id=some (b,n)→n.own f→f∈F∨φ id=some (b,n):=by
 by_cases h:c
 ·have he:=hc.1 h;simp only[h,if_true,yY];exact⟨φ,hi,hb, .refl _,by rw[hnil he];exact .nils,fun f h1 _=>h1,fun id b n f h1 _=>.inr h1⟩
 ·have he:es≠[]:=fun e=>h (hc.2 e)
  simp only[h,if_false]
  cases ht with
  | isl0=>exact absurd rfl he
  | @isl b kk cap _ us G _ _ F1 t1 t2 t3 t4 t5 t6 t7 t8 =>
   cases t8
   obtain rfl:kk=k:=by
    cases es with
    | nil=>exact absurd rfl he
    | cons a l=>rw[← t4 a (by simp),hk a (by simp)]
   obtain⟨T,t2,t9⟩:=t2;simp only[yY]at hn hm hlt hfr ⊢
   have hblk:∀ φ':Pl,BlkOk w m φ' b ⟨us.length,fun f=>f∈b::G⟩ blk:=by
    intro φ';have hfit:kk*es.length≤us.length:=xJ (zC kk t6) t5
    rcases hmk with rfl|⟨rfl,hbr⟩
    ·exact .tre (T:=T) t2 rfl hk0 t4 t7.toU hfit hn (fun f hf=>zA6 _ hf) (fun f hf o=>hm f hf o) t9
    ·have hGe:G=[]:=AGT t7 (gN hbr);subst hGe;exact .arr (T:=T) t2 rfl hk0 t4 (Z0 (gN hbr) t7.toI) hfit (hm b (by simp)) (fun f hf=>by simpa using hf) t9
   obtain⟨i1,i2⟩:=AOM hi hb (b:=b) (len:=us.length) (F:=b::G) (by simp) hlt hfr hblk;refine⟨_,i1,by simpa using i2,fun i r n e=>⟨n,?_,rfl,fun _ h=>h⟩,?_,?_,?_⟩
   ·have:i≠st.length:=fun h=>by have:=hb i (by rw[e];simp);omega
    simp[upd,this,e]
   ·exact .osl (b:=b) (n:=⟨us.length,fun f=>f∈b::G⟩) (by simp[upd]) t6 (by simpa using t5) (fun _=>by simp) (fun h=>by cases h)
   ·intro f h1 h2 id r n e ho;by_cases hid:id=st.length
    ·simp[upd,hid]at e;obtain⟨rfl,rfl⟩:=e;exact h2 (zS.2 ho)
    ·simp[upd,hid]at e;exact h1 id r n e ho
   ·intro id r n f e ho;by_cases hid:id=st.length
    ·simp[upd,hid]at e;obtain⟨rfl,rfl⟩:=e;exact .inl (zS.2 ho)
    ·simp[upd,hid]at e;exact .inr e
end
theorem NT {l:List Ex}:l=[]↔Ex.aB l=[]:=by cases l<;>simp[Ex.aB]
theorem NR {l:List Pn}:l=[]↔Pn.aB l=[]:=by cases l<;>simp[Pn.aB]
theorem NS {l:List Int}:l=[]↔aF l=[]:=by cases l<;>simp[aF]
theorem AYW:∀ (l:List Ex),∀ r∈Ex.aB l,r.length=5
 | [],r,h=>by simp[Ex.aB]at h
 | a::l,r,h=>by
  simp only[Ex.aB,zS]at h
  rcases h with rfl|h
  ·rw[Ex.aA];rfl
  ·exact AYW l r h
theorem AYU:∀ (l:List Pn),∀ r∈Pn.aB l,r.length=5
 | [],r,h=>by simp[Pn.aB]at h
 | a::l,r,h=>by
  simp only[Pn.aB,zS]at h
  rcases h with rfl|h
  ·exact Pn.cB _
  ·exact AYU l r h
theorem AYV:∀ (l:List Int),∀ r∈aF l,r.length=1
 | [],r,h=>by simp[aF]at h
 | a::l,r,h=>by
  simp only[aF,yU,zS]at h
  rcases h with rfl|h
  ·rfl
  ·exact AYV l r (by simpa [aF]using h)
theorem uD.own {wi:World} {mi:Mem} {p:Pn} {e:Ending} {w:World} (h:uD wi mi p e w):bF wi mi (fun _=>none) (rqA p 0) (rqB p) e w:=by
 obtain⟨v0,v1,v2,v3,v4,F,m,rfl,hone,hm,ha,hc⟩:=h;have ht:=hc.kc.1.toT (fun f hf=>(hc.all f hf).2.2.2.2);obtain⟨nE,nC,nK⟩:=hc.kc.2;have hnd:=hc.nd;have hall:=hc.all;clear hc;rw[Pn.aA]at ht
 cases ht with
 | lit o0 ht =>
 cases ht with
 | lit o1 ht =>
 obtain⟨FE,G,hF,tE,ht2⟩:=ht.split 1;obtain⟨FC,FK,hG,tC,tK⟩:=ht2.split 1;simp at tE tC tK;subst hG;subst hF;have n1:=zI.1 hnd;have n2:=zI.1 n1.2.1
 have i0:Inv w m (fun _=>none) (aS []):=⟨hm,fun id blk e=>by simp[aS]at e,fun id id' b b' n n' blk blk' f e=>by simp[aS]at e,fun _ _ _ _ e=>by cases e⟩
 obtain⟨φ1,i1,b1,p1,r1,f1,q1⟩:=VB (st:=[]) i0 (fun id h=>absurd rfl h) (k:=5) (by omega) (AYW p.exprs) tE n1.1 (fun f hf=>(hall f (by simp[hf])).2.2.2.1) (fun f hf=>(hall f (by simp[hf])).2.1) (fun f hf=>(hall f (by simp[hf])).2.2.1) (fun h=>nE (NT.2 h)) (blk:=.tre 5 (Ex.aB p.exprs)) (.inl rfl) (p.exprs=[]) NT;have fr1:∀ f∈FC++FK,gD φ1 f:=fun f hf=>f1 f (hall f (by simp at hf ⊢;exact .inr hf)).2.2.1 fun h=>n1.2.2 f h f hf rfl
 obtain⟨φ2,i2,b2,p2,r2,f2,q2⟩:=VB i1 b1 (k:=1) (by omega) (AYV p.cols) tC n2.1 (fun f hf=>(hall f (by simp[hf])).2.2.2.1) (fun f hf=>(hall f (by simp[hf])).2.1) (fun f hf=>fr1 f (by simp[hf])) (fun h=>nC (NS.2 h)) (blk:=.arr 1 (aF p.cols)) (.inr ⟨rfl,ED _⟩) (p.cols=[]) NS;obtain⟨φ3,i3,b3,p3,r3,f3,q3⟩:=VB i2 b2 (k:=5) (by omega) (AYU p.kids) tK n2.2.1 (fun f hf=>(hall f (by simp[hf])).2.2.2.1) (fun f hf=>(hall f (by simp[hf])).2.1) (fun f hf=>f2 f (fr1 f (by simp[hf])) fun h=>n2.2.2 f h f hf rfl) (fun h=>nK (NR.2 h)) (blk:=.tre 5 (Pn.aB p.kids)) (.inl rfl) (p.kids=[]) NR;have r1:=r1.mono (.refl m) (p2.trans p3);have r2:=r2.mono (.refl m) p3;refine⟨_,m,φ3,rfl,?_,by simpa [rqB]using i3,⟨ha.size,ha.os,ha.tape,ha.output,ha.block,ha.mle,ha.mnew,(fun _ _ _ h=>by cases h),fun id b n f e1 e2=>?_⟩,by simpa [rqB]using b3⟩
 ·have ho:∀ v∈[v2,v3,v4],v.oneCell'=true:=fun v hv=>hone v (by simp at hv ⊢;rcases hv with h|h|h<;>simp[h])
  refine .agg (.cons (.i (.lit _)) rfl (.cons (.i (.lit _)) rfl (.cons ?_ (ho _ (by simp)) (.cons ?_ (ho _ (by simp)) (.cons ?_ (ho _ (by simp)) .nil)))))
  ·by_cases c1:p.exprs=[]<;>simpa [c1]using r1
  ·by_cases c1:p.exprs=[]<;>by_cases c2:p.cols=[]<;>simpa [c1,c2]using r2
  ·by_cases c1:p.exprs=[]<;>by_cases c2:p.cols=[]<;>by_cases c3:p.kids=[]<;>simpa [c1,c2,c3]using r3
 ·rcases q3 id b n f e1 e2 with h|h
  ·exact .inl (hall f (by simp[h])).1
  ·rcases q2 id b n f h e2 with h|h
   ·exact .inl (hall f (by simp[h])).1
   ·rcases q1 id b n f h e2 with h|h
    ·exact .inl (hall f (by simp[h])).1
    ·cases h
section
variable {C:Ctx} {wi:World} {mi:Mem} {nt:Nat}
theorem GR.AVA {X:World→Mem→Pl→Prop} {ok:Nat→Prop} {root:Nat} {p:Pn} {F:List Nat} {path:List Int} {y:Pn} {bq oq:Nat} {Fa Fy Fz:List Nat} {env:Nat→AV} {st st':Store} {a:Act} {w:World} {u k:Nat} (h:GR wi mi nt ok (fun w m φ=>RAT wi root p F path y bq oq Fa Fy Fz w m φ∧X w m φ) env st a w) (hu:env u=.i (.lit (.pointer (some ⟨bq,oq,none⟩))))
 (hst:∀ i blk,st' i=some blk→st i=some blk∧eX blk) (hk:st' k=none) (hX:∀ m φ n,X w m φ→X w m (upd (oF st' φ) k (some (bq,one bq n)))) :
 ∃ pre row post ma,row.length=5∧pre.length=oq∧∀ env',(∀ t,env' t=.junk∨(t=u∧env' t=.own k oq)∨(env' t=env t∧gZ st' (env t))) →
   GR wi mi nt (fun id=>st' id≠none∨id=k) (fun w' m' φ'=>(ADK wi root p F path y bq oq Fa Fy Fz k w ma w' m' φ'∧(∃ T,w.heap[bq]?=some (.cells (pre++(row++post)).toArray T (0,0))))∧X w' m' φ') env' (upd st' k (some (.box (jD pre (bI row) post)))) a w:=by
 obtain⟨⟨m,φ,hi,henv,hadv,hok,hr,hx⟩,h6,h7⟩:=h;have hinF:=hr.pos.mem;obtain⟨k1,k2,k3,k4,us,T,k5,k6⟩:=hr.raw.all bq hinF;obtain⟨v0,v1,v2,v3,v4,h5,_,_,_,_⟩:=hr.pos.th.cells;have gc:∀ {o:Nat} {v:Value},w.cell? ⟨bq,o,none⟩=some v→us[o]?=some v:=fun h=>by rwa [aX k5]at h
 have hrow:=GV (gc h5.c0) (gc h5.c1) (gc h5.c2) (gc h5.c3) (gc h5.c4);have hl4:=(zZ.1 (gc h5.c4)).1;have hi2:=hi.AUV hst;have hφk:oF st' φ k=none:=by unfold oF;rw[hk]
 have hfr:gD (oF st' φ) bq:=k3.cut;refine⟨us.take oq,[v0,v1,v2,v3,v4],us.drop (oq+5),m,rfl,by rw[yG];omega,fun env' he=>?_⟩
 have hrep:RepC m (upd (oF st' φ) k (some (bq,one bq us.length))) (jD (us.take oq) (bI [v0,v1,v2,v3,v4]) (us.drop (oq+5))) us:=by
  have h1:=nM (m:=m) (φ:=upd (oF st' φ) k (some (bq,one bq us.length))) (vs:=us) k6
  have:bI us=jD (us.take oq) (bI [v0,v1,v2,v3,v4]) (us.drop (oq+5)):=by
   conv=>lhs;rw[hrow]
   simp[jD,bI]
  rwa [this]at h1
 have hp:PLe (oF st' φ) (upd (oF st' φ) k (some (bq,one bq us.length))):=fun i r n e=>by
  refine⟨n,?_,rfl,fun _ h=>h⟩;have:i≠k:=fun h=>by rw[h,hφk]at e;cases e
  simp[upd,this,e]
 refine⟨⟨m,upd (oF st' φ) k (some (bq,one bq us.length)),hi2.adopt hk hφk hfr k4 k5 hrep,fun t=>?_,(Adv.cut hadv).adopt k1,fun id hid=>?_,⟨?_,?_⟩,hX m φ _ hx⟩,h6,h7⟩
 ·rcases he t with e|⟨rfl,e⟩|⟨e,e'⟩
  ·rw[e];exact .junk _
  ·have:=henv t;rw[hu]at this;rw[e,this.bU];exact .own (n:=one bq us.length) (by simp[upd])
  ·rw[e];exact(e'.rep (fun i hi'=>mF hi') (henv t)).mono (.refl _) hp
 ·by_cases e:id=k
  ·exact .inr e
  ·simp[upd,e]at hid
   cases hx:oF st' φ id with
   | none=>exact absurd hx hid
   | some q=>exact .inl (cZ hx).2
 ·refine⟨hr.pos, .refl _,⟨one bq us.length,by simp[upd]⟩,k1,fun f hf hne=>?_⟩;obtain⟨q1,q2,q3,q4,q5⟩:=hr.raw.all f hf;refine⟨q1,q2,fun i r n e ho=>?_,q4,rfl,q5⟩;by_cases e2:i=k
  ·subst e2;simp[upd]at e;obtain⟨rfl,rfl⟩:=e;exact hne ho
  ·simp[upd,e2]at e;exact q3 i r n (cZ e).1 ho
 ·exact⟨T,by rw[← hrow];exact k5⟩
theorem GR.AXY {ok:Nat→Prop} {root:Nat} {p q:Pn} {F:List Nat} {path:List Int} {y:Pn} {bq oq:Nat} {Fa Fy Fz:List Nat} {env env':Nat→AV} {st st':Store} {a:Act} {w wa:World} {ma:Mem} {k:Nat} {pre row post:List Value} {wx:World} {Fx:List Nat} {v0 v1 v2 v3 v4:Value}
 (h:GR wi mi nt ok (fun w' m' φ'=>(ADK wi root p F path y bq oq Fa Fy Fz k wa ma w' m' φ'∧(∃ T,wa.heap[bq]?=some (.cells (pre++(row++post)).toArray T (0,0))))∧CPY wx q Fx v0 v1 v2 v3 v4 w' m' φ') env st a w) (hwx:wi.heap.size≤wx.heap.size) (hlt:∀ f∈root::F,f<wx.heap.size) (hrl:row.length=5) (hpl:pre.length=oq) (hbox:st k=some (.box (jD pre (bI [v0,v1,v2,v3,v4]) post)))
 (hst:∀ i blk,st' i=some blk→i≠k∧st i=some blk∧eX blk) (he:∀ t,env' t=.junk∨(env' t=env t∧gZ st' (env t))) :
 GR wi mi nt (fun id=>st' id≠none) (RAW wi root (Pn.put path p q) (Fa++(Fx++Fz)) []) env' st' a w:=by
 obtain⟨⟨m,φ,hi,henv,hadv,hk,⟨hr,T0,hrow0⟩,hc⟩,h6,h7⟩:=h;obtain⟨n2,e2⟩:=hr.own;obtain⟨hb2,hok2⟩:=bY hi e2 hbox;have hst2:∀ i blk,st' i=some blk→st i=some blk∧eX blk:=fun i blk hb=>(hst i blk hb).2
 cases hok2 with
 | @box T _ vs hh hl hrc hm =>
  have hone:=hrc.one;obtain⟨vp,x,rfl,r1,r2⟩:=jG hrc;obtain⟨vr,vq,rfl,r3,r4⟩:=jG r2;obtain rfl:=(l9 r1).symm;obtain rfl:=(l9 r4).symm;obtain rfl:=(l9 r3).symm;have hcell:∀ f∈root::F,f≠bq→∀ j,w.cell? ⟨f,j,none⟩=wa.cell? ⟨f,j,none⟩:=fun f hf hne j=>gM (hr.oth f hf hne).2.2.2.2.1 j
  have sub:∀ f∈root::(Fa++(Fx++Fz)),f∈Fx∨f∈root::F:=fun f hf=>by
   rw[hr.pos.eq]
   rcases zS.1 hf with e|e
   ·exact .inr (by simp[e])
   ·rcases zV.1 e with e|e
    ·exact .inr (by simp[e])
    ·rcases zV.1 e with e|e
     ·exact .inl e
     ·exact .inr (by simp[e])
  have g:∀ (i:Nat),i<5→(pre++([v0,v1,v2,v3,v4]++post))[oq+i]?=[v0,v1,v2,v3,v4][i]?:=fun i hi=>by
   rw[zK (by omega),zM (by simp;omega),hpl,yA]
  have far:∀ (r:List Value),r.length=5→∀ j,oq+5≤j→(pre++(r++post))[j]?=post[j-oq-5]?:=fun r hr j hj=>by
   rw[zK (by omega),zK (by omega),hr,hpl]
  have hth:TH w m (Pn.put path p q) root 0 (Fa++(Fx++Fz)) []:=by
   refine hr.pos.fill hr.le (fun f hf j hj=>?_) (hc.th (.refl _) (fun _ _ _=>rfl) ⟨?_,?_,?_,?_,?_⟩)
   ·by_cases hne:f=bq
    ·subst hne;rw[aX hh,aX hrow0]
     rcases hj with hj|hj|hj
     ·exact absurd rfl hj
     ·rw[zM (by omega),zM (by omega)]
     ·rw[far _ rfl j hj,far _ hrl j hj]
    ·refine hcell f ?_ hne j;rw[hr.pos.eq]
     rcases zS.1 hf with e|e
     ·simp[e]
     ·rcases zV.1 e with e|e<;>simp[e]
   ·rw[aX hh];exact g 0 (by omega)
   ·rw[aX hh];exact g 1 (by omega)
   ·rw[aX hh];exact g 2 (by omega)
   ·rw[aX hh];exact g 3 (by omega)
   ·rw[aX hh];exact g 4 (by omega)
  refine⟨⟨m,oF st' φ,hi.AUV hst2,fun x=>?_,hadv.cut,fun id hid=>?_,?_⟩,h6,h7⟩
  ·rcases he x with e|⟨e,e'⟩
   ·rw[e];exact .junk _
   ·rw[e];exact e'.rep (fun i hi'=>mF hi') (henv x)
  ·cases hx:oF st' φ id with
   | none=>exact absurd hx hid
   | some q=>exact(cZ hx).2
  ·have hnd:=hr.pos.nd;rw[hr.pos.eq]at hnd;refine⟨hth,fun hm'=>?_,?_,fun f hf=>?_⟩
   ·rcases zV.1 hm' with e|e
    ·exact hr.pos.nr (by rw[hr.pos.eq];simp[e])
    ·rcases zV.1 e with e|e
     ·have:=(hc.all root e).1;have:=hlt root (by simp);omega
     ·exact hr.pos.nr (by rw[hr.pos.eq];simp[e])
   ·rw[zI]at hnd ⊢;have hz:=zI.1 hnd.2.1;have hltF:∀ f∈Fa++(Fy++Fz),f<wx.heap.size:=fun f hf=>hlt f (by rw[hr.pos.eq];exact zA6 _ hf)
    refine⟨hnd.1,zI.2 ⟨hc.nd,hz.2.1,fun x hx z hz' e=>?_⟩,fun x hx z hz' e=>?_⟩
    ·have:=(hc.all x hx).1;have:=hltF z (by simp[hz']);omega
    ·rcases zV.1 hz' with h|h
     ·have:=(hc.all z h).1;have:=hltF x (by simp[hx]);omega
     ·exact hnd.2.2 x hx z (by simp[h]) e
   ·rcases sub f hf with hf'|hf'
    ·obtain⟨z1,z2,z3,z4,z5⟩:=hc.all f hf';exact⟨Nat.le_trans hwx z1,z2,z3.cut,z4,z5⟩
    by_cases hne:f=bq
    ·subst hne;refine⟨hr.bqn,(zL.1 hh).1,?_,hm,_,T,hh,hone⟩;refine rC hi (fun i blk h=>(hst2 i blk h).1) hbox ?_ e2 hb2.1
     cases hx:st' k with
     | none=>rfl
     | some blk=>exact absurd rfl (hst k blk hx).1
    ·obtain⟨q1,q2,q3,q4,q5,vs',T',q6,q7⟩:=hr.oth f hf' hne;exact⟨q1,q2,q3.cut,q4,vs',T',by rw[q5];exact q6,q7⟩
theorem CPY.other {wx:World} {x:Pn} {Fx:List Nat} {v0 v1 v2 v3 v4:Value} {w:World} {st':Store} {k bq:Nat} (hb:bq<wx.heap.size):∀ m φ n,CPY wx x Fx v0 v1 v2 v3 v4 w m φ→CPY wx x Fx v0 v1 v2 v3 v4 w m (upd (oF st' φ) k (some (bq,one bq n))):=by
 intro m φ n h;refine⟨h.th,h.cells,h.nd,fun f hf=>?_,h.kc⟩;obtain⟨z1,z2,z3,z4,z5⟩:=h.all f hf;refine⟨z1,z2,fun i r n' e ho=>?_,z4,z5⟩;by_cases e2:i=k
 ·subst e2;simp[upd]at e;obtain⟨rfl,rfl⟩:=e;have:f=bq:=ho;omega
 ·simp[upd,e2]at e;exact z3 i r n' (cZ e).1 ho
theorem GR.AK3 {X:World→Mem→Pl→Prop} (hX:ACK X) {ok:Nat→Prop} {env:Nat→AV} {st:Store} {a:Act} {w:World} {d:Nat} {m1:Mem} {φ:Pl} {p:Pn} (hd:d<nt) (hi:Inv w m1 φ st) (henv:∀ t,Rep m1 φ (env t) (a.tmps.getD t undef)) (hadv:Adv wi mi (fun _=>none) w m1 φ) (hok:∀ id,φ id≠none→ok id) (hsz:nt≤a.tmps.size) (hdf:a.defers=[]) (hx:X w m1 φ)
 {e:Ending} {w':World} (h:uD w m1 p e w'):∃ y,e=.returned y∧∃ v0 v1 v2 v3 v4 F,GR wi mi nt ok (fun w' m' φ'=>X w' m' φ'∧CPY w p F v0 v1 v2 v3 v4 w' m' φ') (upd env d (.i (.agg [.lit v0, .lit v1, .lit v2, .lit v3, .lit v4]))) st (a.put (some d) y) w':=by
 obtain⟨v0,v1,v2,v3,v4,F,m2,rfl,hone,hm2,ha,hc⟩:=h;obtain⟨i2,a2⟩:=hi.APT ha hm2;refine⟨_,rfl,v0,v1,v2,v3,v4,F,⟨m2,φ,i2,uM (dst:=some d) (fun t=>(henv t).mono a2.mle a2.ple) hsz (by simpa [WB]using hd) (.i (.agg ?_)),hadv.trans a2,hok,hX _ _ _ _ _ _ a2 hx,?_⟩,by rw[mM];exact hsz,by rw[iF];exact hdf⟩
 ·exact .cons (.lit _) (hone _ (by simp)) (.cons (.lit _) (hone _ (by simp)) (.cons (.lit _) (hone _ (by simp)) (.cons (.lit _) (hone _ (by simp)) (.cons (.lit _) (hone _ (by simp)) .nil))))
 ·refine⟨hc.th,hc.cells,hc.nd,fun f hf=>?_,hc.kc⟩;obtain⟨k1,k2,k3,k4,k5⟩:=hc.all f hf;refine⟨k1,k2,fun id b n e ho=>?_,k4,k5⟩;have:=hi.low id b n f e ho;omega
def Q0 (wi:World) (mi:Mem) (p:Pn) (e:Ending) (w:World):Prop :=
 ∃ v0 v1 v2 v3 v4,e=.returned (.tuple #[.agg #[v0,v1,v2,v3,v4], .bool true])∧uD wi mi p (.returned (.agg #[v0,v1,v2,v3,v4])) w
theorem Q0.own {wi:World} {mi:Mem} {p:Pn} {e:Ending} {w:World} (h:Q0 wi mi p e w):bF wi mi (fun _=>none) (.tup [rqA p 0, .bool true]) (rqB p) e w:=by
 obtain⟨v0,v1,v2,v3,v4,rfl,h⟩:=h;obtain⟨v,m,φ,e,r,i,a,b⟩:=h.own;injection e with e;subst e;exact⟨_,m,φ,rfl, .tup (.cons r (.cons (.i (.lit _)) .nil)),i,a,b⟩
end
def ACJ (o:Option Pn):AV×StL:=(.tup [rqA (o.getD Pn.zero) 0, .bool o.isSome],rqB (o.getD Pn.zero))
noncomputable def uB:List AV→StL→Option (AV×StL)
 | args,[]=>open Classical in if h:∃ x,ApA args x then some (ACJ (apO h.choose.1 h.choose.2.1 h.choose.2.2.1 h.choose.2.2.2))else none
 | _,_=>none
theorem AC1 (p:Pn) (ws:List Int) (r:Int) (path:List Int):uB [.i (.agg p.cells), .i (.isl (aF ws)), .i (.agg [.int r, .isl (aF path)])] []=some (ACJ (apO p ws r path)):=by
 have h:∃ x,ApA [.i (.agg p.cells), .i (.isl (aF ws)), .i (.agg [.int r, .isl (aF path)])] x:=⟨(p,ws,r,path),rfl⟩
 unfold uB;simp only;rw[dif_pos h];have:=h.choose_spec.inj (y:=(p,ws,r,path)) rfl;rw[this]
theorem U1 {args:List AV} {st:StL} {q:AV×StL} (h:uB args st=some q):∃ p ws r path,args=[.i (.agg (Pn.cells p)), .i (.isl (aF ws)), .i (.agg [.int r, .isl (aF path)])]∧st=[]∧q=ACJ (apO p ws r path):=by
 unfold uB at h;split at h
 ·split at h
  ·rename_i hx;injection h with h;exact⟨_,_,_,_,hx.choose_spec,rfl,h.symm⟩
  ·cases h
 ·cases h
end Go.Av
namespace Go.Proofs.YtjdfjgmebalaaaaGreat.P
open Go Go.Av G
set_option maxRecDepth 4000
set_option maxHeartbeats 8000000
theorem Aa6 (A B C D X:Option Blk):upd (aS [A,B,C,D]) 3 X=aS [A,B,C,X]:=by
 funext i
 rcases i with _|_|_|_|i
 all_goals simp[upd,aS]
theorem WS {p:Pn} {ws:List Int} {r:Int} {path:List Int} {q:Pn} (h0:p.width ws≠0) (hq:apI ws r path p=some q) {wi:World} {mi:Mem} {vs:List Value} (hi:Inv wi mi (fun _=>none) (aS [])) (hr:RepL mi (fun _=>none) [.i (.agg p.cells), .i (.isl (aF ws)), .i (.agg [.int r, .isl (aF path)])] vs) :
 Calls Tryz.prog 26 vs.toArray wi (bF wi mi (fun _=>none) (.tup [rqA q 0, .bool true]) (rqB q)):=by
 obtain⟨hw,hp8,hv⟩:=mW h0;have hws:=jQ hw;unfold apI at hq;split at hq
 rotate_left
 ·cases hq
 rename_i hl
 cases ha:Pn.at path p with
 | none=>rw[ha]at hq;cases hq
 | some a =>
 rw[ha]at hq;simp only[yP]at hq;obtain⟨-,hav⟩:=LZ path p 8 a hp8 ha;have ha8:a.wd ws 8≠0:=by rw[Pn.gP a _ 8 hav (by omega)];exact hav
 cases hx:rwL ws r (8-path.length) a with
 | none=>rw[hx]at hq;cases hq
 | some x =>
 rw[hx]at hq;simp only[xA,Option.some.injEq]at hq;subst hq
 have hxw:x.wd ws (8-path.length)≠0:=by
  unfold rwL at hx
  cases hy:rwP ws r a with
  | none=>rw[hy]at hx;cases hx
  | some y =>
   rw[hy]at hx;simp only[yP]at hx;split at hx
   ·injection hx with hx;subst hx;assumption
   ·cases hx
 have hx8:x.wd ws 8≠0:=by rw[Pn.gP x _ 8 hxw (by omega)];exact hxw
 have hxs:x.small:=⟨by have:=(Pn.vM x 8 hx8).2;omega,dH x 8 hx8,(Pn.vM x 8 hx8).1⟩
 have hps:p.small:=⟨by have:=(Pn.vM p 8 hp8).2;omega,dH p 8 hp8,(Pn.vM p 8 hp8).1⟩
 have c1:=jP p ws;have c2:=YC p path;simp only[atI,hl,if_true,ha,atV]at c2;have c3:=o7 hw ha8 r (lv:=8-path.length) (by omega);rw[hx]at c3;simp only[BV,yC,Option.isSome_some]at c3;have w1:IntKind.i64.wrap (8-(path.length:Int))=((8-path.length:Nat):Int):=by rw[wrO];omega
 refine calls_of_wp (fn:=Tryz.f26) Tryz.func26 rfl ?_;have hv1:vs.length=3:=by simpa using hr.length.symm
 have g0:GR wi mi 45 (fun id=>id<({ env:=[(0, .i (.agg p.cells)),(1, .i (.isl (aF ws))),(2, .i (.agg [.int r, .isl (aF path)]))],st:=[] }:AS).st.length) (fun _ _ _=>True) (aL [(0, .i (.agg p.cells)),(1, .i (.isl (aF ws))),(2, .i (.agg [.int r, .isl (aF path)]))]) (aS []) { tmps:=vs.toArray++Array.replicate (45-vs.toArray.size) undef,defers:=[] } wi:=by
  refine⟨⟨mi,fun _=>none,hi,?_, .refl _ _ _,fun id h=>absurd rfl h,trivial⟩,by simp;omega,rfl⟩;intro t;have:=kJ (m:=mi) (φ:=fun _=>none) (45-vs.toArray.size) hr t
  rcases t with _|_|_|t
  ·simpa [aL,pV]using this
  ·simpa [aL,pV]using this
  ·simpa [aL,pV]using this
  ·simp only[aL];simp;exact .junk _
 refine wp_seq (wp_mono (GR.dS bH (G:=GS 26) (S:={ env:=[(0, .i (.agg p.cells)),(1, .i (.isl (aF ws))),(2, .i (.agg [.int r, .isl (aF path)]))],st:=[] }) (e:=.normal) (S':={ env:=TEV p ws r path (.own 0 0) (.own 1 0) (.own 2 0) (.bool false) .junk .junk .junk .junk .junk .junk .junk,st:=[bxP p,bxS r path,some (.box zp)] }) iX (by kernel_rfl) (by
  rw[Pn.aA p]at *
  simp[TEV,bxP,bxS,zp,Pn.aA p]) g0) ?_)
 rintro _ a1 w1' ⟨rfl,g1⟩
 refine wp_seq (wp_mono (GR.dS bH (G:=GS 26) (S:={ env:=TEV p ws r path (.own 0 0) (.own 1 0) (.own 2 0) (.bool false) .junk .junk .junk .junk .junk .junk .junk,st:=[bxP p,bxS r path,some (.box zp)] }) (e:=.normal) (S':={ env:=TEV p ws r path (.own 0 0) (.own 1 0) (.own 2 0) (.bool false) .junk .junk .junk .junk (.bool false) .junk .junk,st:=[bxP p,bxS r path,some (.box zp)] }) iX (by kernel_rfl) (by
  simp only[TEV,bxP,bxS];rw[Pn.aA p]at *
  simp[zp,c1,h0]) g1) ?_)
 rintro _ a2 w2' ⟨rfl,g2⟩
 refine wp_seq (wp_mono (GR.dS bH (G:=GS 26) (S:={ env:=TEV p ws r path (.own 0 0) (.own 1 0) (.own 2 0) (.bool false) .junk .junk .junk .junk (.bool false) .junk .junk,st:=[bxP p,bxS r path,some (.box zp)] }) (e:=.normal) (S':={ env:=TEV p ws r path (.own 0 0) (.own 1 0) (.own 2 0) (.bool false) (.i (.iref a.cells)) .junk .junk .junk (.bool false) .junk .junk,st:=[some (.fbox p.cells),bxS r path,some (.box zp)] }) iX (by kernel_rfl) (by
  simp only[TEV,bxP,bxS];rw[Pn.aA p,Pn.aA a]at *
  simp[zp,c2]) g2) ?_)
 rintro _ a3 w3' ⟨rfl,g3⟩
 refine wp_seq (wp_mono (GR.dS bH (G:=GS 26) (S:={ env:=TEV p ws r path (.own 0 0) (.own 1 0) (.own 2 0) (.bool false) (.i (.iref a.cells)) .junk .junk .junk (.bool false) .junk .junk,st:=[some (.fbox p.cells),bxS r path,some (.box zp)] }) (e:=.normal) (S':={ env:=TEV p ws r path (.own 0 0) (.own 1 0) (.own 2 0) (.bool false) (.i (.iref a.cells)) .junk .junk .junk (.bool false) (.bool false) .junk,st:=[some (.fbox p.cells),bxS r path,some (.box zp)] }) iX (by kernel_rfl) (by
  simp only[TEV,bxP,bxS]
  simp[zp]) g3) ?_)
 rintro _ a4 w4' ⟨rfl,g4⟩
 refine wp_seq (wp_mono (GR.dS bH (G:=GS 26) (S:={ env:=TEV p ws r path (.own 0 0) (.own 1 0) (.own 2 0) (.bool false) (.i (.iref a.cells)) .junk .junk .junk (.bool false) (.bool false) .junk,st:=[some (.fbox p.cells),bxS r path,some (.box zp)] }) (e:=.normal) (S':={ env:=TEV p ws r path (.own 0 0) (.own 1 0) (.own 2 0) (.bool false) (.i (.iref a.cells)) (.own 3 0) (.bool true) .junk (.bool false) (.bool false) .junk,st:=[some (.fbox p.cells),bxS r path,some (.box zp),bxP x] }) iX (by kernel_rfl) (by
  simp only[TEV,bxP,bxS];rw[Pn.aA a,Pn.aA x]at *
  simp[zp,w1,c3]) g4) ?_)
 rintro _ a5 w5' ⟨rfl,g5⟩
 refine wp_seq (wp_mono (GR.dS bH (G:=GS 26) (S:={ env:=TEV p ws r path (.own 0 0) (.own 1 0) (.own 2 0) (.bool false) (.i (.iref a.cells)) (.own 3 0) (.bool true) .junk (.bool false) (.bool false) .junk,st:=[some (.fbox p.cells),bxS r path,some (.box zp),bxP x] }) (e:=.normal) (S':={ env:=TEV p ws r path (.own 0 0) (.own 1 0) (.own 2 0) (.bool false) (.i (.iref a.cells)) (.own 3 0) (.bool true) .junk (.bool false) (.bool false) (.bool false),st:=[some (.fbox p.cells),bxS r path,some (.box zp),bxP x] }) iX (by kernel_rfl) (by
  simp only[TEV,bxP,bxS]
  simp[zp,Pn.aA x]) g5) ?_)
 rintro _ a6 w6 ⟨rfl,g6⟩;clear g0 g1 g2 g3 g4 g5;have hst6:(6:Nat)<45:=by omega
 refine wp_seq (jJ ?_);show wpOpsIn (FR none) 0 Tryz.prog _ _ (List.range 3) a6 w6;rw[show List.range 3=0::(List.range' 1 2++[])from rfl,wpOpsIn_cons];obtain⟨⟨m6,φ6,i6,henv6,adv6,ok6,-⟩,sz6,df6⟩:=g6;obtain⟨m7,rp7,i7,adv7⟩:=lT i6 (henv6 3) (show gJ (aS [some (.fbox p.cells),bxS r path,some (.box zp),bxP x]) (.own 0 0)=some (.i (.iref p.cells),aS [some (.fbox p.cells),bxS r path,some (.box zp),bxP x])by simp[gJ,qC,frz,vD,BX,aS,bnd,tst,gX]);have rp7':RepL m7 (fun _=>none) [.i (.iref p.cells)] [a6.tmps.getD 3 undef]:=.cons (by cases rp7 with|i k=>exact .i k) .nil
 have i7':Inv w6 m7 (fun _=>none) (aS []):=⟨i7.mem,fun id blk e=>by simp[aS]at e,fun _ _ _ _ _ _ _ _ _ e=>by simp[aS]at e,fun _ _ _ _ e=>by cases e⟩
 refine oQ (P:=Tryz.prog) (fn:=Tryz.f59) (d:=38) (g:=59) (args:=#[.tmp 3]) rfl rfl rfl rfl Tryz.func59 AXW AXX (vs:=[a6.tmps.getD 3 undef]) rfl ((iM hps.1 hps.2.1 hps.2.2 i7' rp7').mono fun e w7 hraw=>?_);obtain⟨y,rfl,v0,v1,v2,v3,v4,F,g7⟩:=GR.AFU (nt:=45) (d:=38) (by omega) i7 (fun t=>(henv6 t).mono adv7.mle adv7.ple) (adv6.trans adv7) ok6 sz6 df6 hraw;refine⟨y,rfl,?_⟩;have hsz6:wi.heap.size≤w6.heap.size:=adv6.size;generalize hE8:TEV p ws r path (.own 0 0) (.own 1 0) (.own 2 0) (.bool false) (.i (.iref a.cells)) (.own 3 0) (.bool true) .junk (.bool false) (.bool false) (.bool false)=E8 at g7;refine GR.AM6 bH (CPY.DL _ _ _ _ _ _ _ _) 1 2 rfl ?_ (base:=4) (R0:={ env:=upd (aL E8) 38 (.i (.agg [.lit v0, .lit v1, .lit v2, .lit v3, .lit v4])),st:=aS [some (.fbox p.cells),bxS r path,some (.box zp),bxP x],log:=[] }) (R1:={ env:=upd (upd (aL E8) 38 (.i (.agg [.lit v0, .lit v1, .lit v2, .lit v3, .lit v4]))) 11 (.own 12 0),st:=upd (aS [some (.fbox p.cells),bxS r path,some (.box zp),bxP x]) 12 (some (.box (bI [v0,v1,v2,v3,v4]))),log:=[] }) ?_ (g7.ok' fun id h=>.inl (by simpa using h)) fun a8 w8 g8=>?_
 ·kernel_rfl
 ·simp[bI,zp,ALG]
 obtain⟨b3,g9⟩:=g8.AZ2 (u:=11) (id:=12) (st':=aS [some (.fbox p.cells),bxS r path,some (.box zp),bxP x]) hsz6 rfl rfl (by
  intro i blk h
  rcases i with _|_|_|_|i
  ·simp[aS]at h;subst h;simp[upd,aS,eX]
  ·simp[aS,bxS]at h;subst h;simp[upd,aS,eX,bxS]
  ·simp[aS]at h;subst h;simp[upd,aS,eX,zp]
  ·simp[aS,bxP]at h;subst h;simp[upd,aS,eX,bxP,Pn.aA x,jW]
  ·simp[aS]at h)
 have g9:=(g9 (aL [(5, .own 1 0),(6, .own 2 0),(9, .own 3 0),(11, .i (.lit (.pointer (some ⟨b3,0,none⟩))))]) (by
  subst hE8;intro t;simp only[aL];by_cases h5:t=5
  ·subst h5;exact .inr (.inr ⟨by simp[upd,TEV,aL],by simp[upd,TEV,aL,gZ,aS,bxS]⟩)
  by_cases h6:t=6
  ·subst h6;exact .inr (.inr ⟨by simp[upd,TEV,aL],by simp[upd,TEV,aL,gZ,aS]⟩)
  by_cases h9:t=9
  ·subst h9;exact .inr (.inr ⟨by simp[upd,TEV,aL],by simp[upd,TEV,aL,gZ,aS,bxP]⟩)
  by_cases h11:t=11
  ·subst h11;exact .inr (.inl ⟨rfl,rfl⟩)
  simp[h5,h6,h9,h11])).ok' (ok':=fun id=>FL 4 (fun j=>j<0) id) (by
  intro i h;refine .inl ?_
  rcases i with _|_|_|_|i
  all_goals first|omega|(simp[aS]at h))
 clear g7 g8;refine wp_seq (jJ ?_);show wpOpsIn (FR none) 0 Tryz.prog _ _ (List.range 6) a8 w8;rw[show List.range 6=List.range' 0 2++(2::3::(List.range' 4 1++(List.range' 5 1++[])))from rfl];generalize hE9:aL [(5, .own 1 0),(6, .own 2 0),(9, .own 3 0),(11, .i (.lit (.pointer (some ⟨b3,0,none⟩))))]=E9 at g9;refine GR.AM6 bH (RAW.DL _ _ _ _ _) 0 2 rfl ?_ (base:=4) (R0:={ env:=E9,st:=aS [some (.fbox p.cells),bxS r path,some (.box zp),bxP x],log:=[] }) (R1:={ env:=upd (upd E9 39 (.own 1 1)) 40 (.i (.isl (aF path))),st:=aS [some (.fbox p.cells),bxS r path,some (.box zp),bxP x],log:=[] }) ?_ g9 fun a9 w9 g10=>?_
 ·kernel_rfl
 ·subst hE9;simp[zp,bxS,ALG]
 clear g9;rw[wpOpsIn_cons];obtain⟨⟨m10,φ10,i10,henv10,adv10,ok10,r10⟩,AVQ,df10⟩:=g10;have hv11:=henv10 11;have hv40:=henv10 40;simp only[show upd (upd E9 39 (.own 1 1)) 40 (.i (.isl (aF path))) 11=.i (.lit (.pointer (some ⟨b3,0,none⟩)))from by subst hE9;rfl]at hv11;simp only[show upd (upd E9 39 (.own 1 1)) 40 (.i (.isl (aF path))) 40=.i (.isl (aF path))from rfl]at hv40;have hmm:MLe m10 (bZ w9):=i10.mem;refine oQ (P:=Tryz.prog) (fn:=Tryz.f69) (d:=41) (g:=69) (args:=#[.tmp 11, .tmp 40]) rfl rfl rfl rfl Tryz.func69 AZ8 hb48 (vs:=[a9.tmps.getD 11 undef,a9.tmps.getD 40 undef]) rfl ((Z5 r10.th r10.nr r10.nd ha hl (vs:=[a9.tmps.getD 11 undef,a9.tmps.getD 40 undef]) (.cons (by cases hv11 with|i k=>exact .i (k.mono hmm)) (.cons (by cases hv40 with|i k=>exact .i (k.mono hmm)) .nil))).mono fun e w10 hplace=>?_);obtain⟨y2,rfl,bq,oq,Fa,Fy,Fz,g11⟩:=GR.YG (nt:=45) (d:=41) (by omega) i10 henv10 adv10 ok10 AVQ df10 r10 hplace;refine⟨y2,rfl,?_⟩;rw[wpOpsIn_cons];obtain⟨⟨m11,φ11,i11,henv11,adv11,ok11,r11⟩,AYY,df11⟩:=g11;generalize hE11:upd (upd (upd E9 39 (.own 1 1)) 40 (.i (.isl (aF path)))) 41 (.i (.lit (.pointer (some ⟨bq,oq,none⟩))))=E11 at henv11;have h9:E11 9=.own 3 0:=by subst hE11;subst hE9;rfl
 have hr9:=henv11 9;rw[h9]at hr9
 obtain⟨m12,rp12,i12,adv12⟩:=lT i11 hr9 (show gJ (aS [some (.fbox p.cells),bxS r path,some (.box zp),bxP x]) (.own 3 0)=some (.i (.iref x.cells),aS [some (.fbox p.cells),bxS r path,some (.box zp),some (.fbox x.cells)])by
  have hu:=Aa6 (some (.fbox p.cells)) (bxS r path) (some (.box zp)) (bxP x) (some (.fbox x.cells));rw[Pn.aA x]at hu ⊢;simp[bxP,Pn.aA x]at hu ⊢
  exact hu)
 have rp12':RepL m12 (fun _=>none) [.i (.iref x.cells)] [(a9.put (some 41) y2).tmps.getD 9 undef]:=.cons (by cases rp12 with|i k=>exact .i k) .nil
 have i12':Inv w10 m12 (fun _=>none) (aS []):=⟨i12.mem,fun id blk e=>by simp[aS]at e,fun _ _ _ _ _ _ _ _ _ e=>by simp[aS]at e,fun _ _ _ _ e=>by cases e⟩
 have hwx:wi.heap.size≤w10.heap.size:=adv11.size;have hlt:∀ f∈b3::F,f<w10.heap.size:=fun f hf=>(r11.raw.all f hf).2.1
 have hbq:bq<w10.heap.size:=hlt bq r11.pos.mem;have r12:=RAT.DL _ _ _ _ _ _ _ _ _ _ _ _ _ _ _ _ _ adv12 r11;refine oQ (P:=Tryz.prog) (fn:=Tryz.f59) (d:=42) (g:=59) (args:=#[.tmp 9]) rfl rfl rfl rfl Tryz.func59 AXW AXX (vs:=[(a9.put (some 41) y2).tmps.getD 9 undef]) rfl ((iM hxs.1 hxs.2.1 hxs.2.2 i12' rp12').mono fun e w11 hraw=>?_);obtain⟨y3,rfl,u0,u1,u2,u3,u4,Fx,g12⟩:=GR.AK3 (nt:=45) (d:=42) (RAT.DL wi b3 p F path a bq oq Fa Fy Fz) (by omega) i12 (fun t=>(henv11 t).mono adv12.mle adv12.ple) (adv11.trans adv12) ok11 AYY df11 r12 hraw;refine⟨y3,rfl,?_⟩
 have hst12:ACK (fun w m φ=>RAT wi b3 p F path a bq oq Fa Fy Fz w m φ∧CPY w10 x Fx u0 u1 u2 u3 u4 w m φ):=fun w m φ w' m' φ' ha h=>⟨RAT.DL _ _ _ _ _ _ _ _ _ _ _ _ _ _ _ _ _ ha h.1,CPY.DL _ _ _ _ _ _ _ _ _ _ _ _ _ _ ha h.2⟩
 refine GR.AM6 bH hst12 4 1 rfl ?_ (base:=4) (R0:={ env:=upd E11 42 (.i (.agg [.lit u0, .lit u1, .lit u2, .lit u3, .lit u4])),st:=aS [some (.fbox p.cells),bxS r path,some (.box zp),some (.fbox x.cells)],log:=[] }) (R1:={ env:=upd (upd E11 42 (.i (.agg [.lit u0, .lit u1, .lit u2, .lit u3, .lit u4]))) 43 (.i (.lit (.pointer (some ⟨bq,oq,none⟩)))),st:=aS [some (.fbox p.cells),bxS r path,some (.box zp),some (.fbox x.cells)],log:=[] }) ?_ (g12.ok' fun id h=>nJ (fun j hj=>by omega) h) fun a10 w12 g13=>?_
 ·kernel_rfl
 ·subst hE11;subst hE9;simp[zp,bxS,ALG]
 clear g12
 obtain⟨pre,row,post,ma,hrl,hpl,g14⟩:=g13.AVA (u:=43) (k:=1) (st':=upd (fun _=>none) 2 (some (.box zp))) (by subst hE11;rfl) (by
  intro i blk h;by_cases h2:i=2
  ·subst h2;simp[upd]at h;subst h;simp[aS,eX,zp]
  ·simp[upd,h2]at h) (by simp[upd]) (CPY.other hbq)
 have g14:=(g14 (aL [(6, .own 2 0),(11, .i (.lit (.pointer (some ⟨b3,0,none⟩)))),(42, .i (.agg [.lit u0, .lit u1, .lit u2, .lit u3, .lit u4])),(43, .own 1 oq)]) (by
  subst hE11;subst hE9;intro t;simp only[aL];by_cases h6:t=6
  ·subst h6;exact .inr (.inr ⟨by simp[upd,aL],by simp[upd,aL,gZ]⟩)
  by_cases h11:t=11
  ·subst h11;exact .inr (.inr ⟨by simp[upd,aL],by simp[upd,aL,gZ]⟩)
  by_cases h42:t=42
  ·subst h42;exact .inr (.inr ⟨by simp[upd,aL],by simp[upd,aL,gZ]⟩)
  by_cases h43:t=43
  ·subst h43;exact .inr (.inl ⟨rfl,rfl⟩)
  simp[h6,h11,h42,h43])).ok' (ok':=fun id=>FL 4 (fun j=>j<5) id) (by
  intro i h;refine .inl ?_
  rcases h with h|h
  ·by_cases h2:i=2
   ·omega
   ·simp[upd,h2]at h
  ·omega)
 clear g13;refine GR.AM6 bH (fun w m φ w' m' φ' ha h=>⟨⟨ADK.DL _ _ _ _ _ _ _ _ _ _ _ _ _ _ _ _ _ _ _ _ ha h.1.1,h.1.2⟩,CPY.DL _ _ _ _ _ _ _ _ _ _ _ _ _ _ ha h.2⟩) 5 1 rfl ?_ (base:=4) (R0:={ env:=aL [(6, .own 2 0),(11, .i (.lit (.pointer (some ⟨b3,0,none⟩)))),(42, .i (.agg [.lit u0, .lit u1, .lit u2, .lit u3, .lit u4])),(43, .own 1 oq)],st:=upd (upd (fun _=>none) 2 (some (.box zp))) 1 (some (.box (jD pre (bI row) post))),log:=[] }) (R1:={ env:=aL [(6, .own 2 0),(11, .i (.lit (.pointer (some ⟨b3,0,none⟩)))),(42, .i (.agg [.lit u0, .lit u1, .lit u2, .lit u3, .lit u4])),(43, .own 1 oq)],st:=upd (upd (upd (fun _=>none) 2 (some (.box zp))) 1 (some (.box (jD pre (bI row) post)))) 1 (some (.box (jD pre (bI [u0,u1,u2,u3,u4]) post))),log:=[] }) ?_ g14 fun a11 w13 g15=>?_
 ·kernel_rfl
 ·subst hpl
  have hsp:splice (jD pre (bI row) post) pre.length (bI [u0,u1,u2,u3,u4])=some (jD pre (bI [u0,u1,u2,u3,u4]) post):=by
   have:=nH pre post (bI row) 0 (bI [u0,u1,u2,u3,u4]);rw[xU]at this;rw[this]
   match row,hrl with
   | [r0,r1,r2,r3,r4],_=>simp[bI,jD,splice,bnd]
  have hz:bI [u0,u1,u2,u3,u4]=[.i (.lit u0), .i (.lit u1), .i (.lit u2), .i (.lit u3), .i (.lit u4)]:=rfl;rw[hz]at hsp ⊢;simp[hsp,ALG]
 clear g14
 have g16:=g15.AXY (q:=x) hwx hlt hrl hpl rfl (st':=upd (fun _=>none) 2 (some (.box zp))) (env':=aL [(6, .own 2 0),(11, .i (.lit (.pointer (some ⟨b3,0,none⟩))))]) (by
  intro i blk h;by_cases h2:i=2
  ·subst h2;simp[upd]at h;subst h;simp[upd,eX,zp]
  ·simp[upd,h2]at h) (by
  intro t;simp only[aL];by_cases h6:t=6
  ·subst h6;exact .inr ⟨by simp,by simp[gZ,upd]⟩
  by_cases h11:t=11
  ·subst h11;exact .inr ⟨by simp,by simp[gZ]⟩
  simp[h6,h11])
 clear g15;generalize Pn.put path p x=q at *
 have g17:=g16.settle (fun w m φ ids h=>RAW.keep ids h) [6,11];have hset:Av.settle [6,11] 0 (aL [(6, .own 2 0),(11, .i (.lit (.pointer (some ⟨b3,0,none⟩))))]) (upd (fun _=>none) 2 (some (.box zp)))={ env:=[(6, .own 0 0),(11, .i (.lit (.pointer (some ⟨b3,0,none⟩))))],st:=[some (.box zp)] }:=by simp[zp,upd]
 rw[hset]at g17;clear g16;obtain⟨v0',v1',v2',v3',v4',post',hone',g18⟩:=g17.AMV (u:=11) (k:=1) rfl rfl (by simp)
 have g18:=(g18 (aL [(6, .own 0 0),(11, .own 1 0)]) (by
  intro t;simp only[aL];by_cases h6:t=6
  ·subst h6;exact .inr (.inr (by simp[aL]))
  ·by_cases h11:t=11
   ·subst h11;exact .inr (.inl ⟨rfl,rfl⟩)
   ·simp[h6,h11])).ok' (ok':=fun id=>id<({ env:=[(6, .own 0 0),(11, .own 1 0)],st:=[some (.box zp),some (.box (bI [v0',v1',v2',v3',v4']++bI post'))] }:AS).st.length) (by
  intro i h
  simp at h ⊢;omega)
 have hst1:upd (aS [some (.box zp)]) 1 (some (.box (bI [v0',v1',v2',v3',v4']++bI post')))=aS [some (.box zp),some (.box (bI [v0',v1',v2',v3',v4']++bI post'))]:=by
  funext i
  rcases i with _|_|i
  ·rfl
  ·rfl
  ·simp[upd,aS]
 rw[hst1]at g18;clear g17
 refine wp_mono (GR.dS bH (G:=GS 26) (S:={ env:=[(6, .own 0 0),(11, .own 1 0)],st:=[some (.box zp),some (.box (bI [v0',v1',v2',v3',v4']++bI post'))] }) (e:=.ret) (S':={ env:=[(0, .junk),(1, .junk),(2, .junk),(3, .junk),(5, .junk),(6, .own 0 0),(7, .bool true),(8, .junk),(9, .junk),(10, .junk),(11, .own 1 0),(15, .junk),(21, .junk),(36, .junk)],st:=[some (.box (bI [v0',v1',v2',v3',v4'])),some (.box (bI [v0',v1',v2',v3',v4']++bI post'))] }) (CPY.DL _ _ _ _ _ _ _ _) (by kernel_rfl) (by
  have hz:bI [v0',v1',v2',v3',v4']=[.i (.lit v0'), .i (.lit v1'), .i (.lit v2'), .i (.lit v3'), .i (.lit v4')]:=rfl;rw[hz]
  simp[zp,wN,DU]) g18) ?_
 rintro _ a12 w14 ⟨rfl,g19⟩;obtain⟨⟨m,φ,q1,q2,q3,q4,q5⟩,q6,q7⟩:=g19
 obtain⟨v,k1,k2⟩:=eO (C:=C0) (fn:=Tryz.f26) (keep:=false) (na:=0) (S:={ env:=[(0, .junk),(1, .junk),(2, .junk),(3, .junk),(5, .junk),(6, .own 0 0),(7, .bool true),(8, .junk),(9, .junk),(10, .junk),(11, .own 1 0),(15, .junk),(21, .junk),(36, .junk)],st:=[some (.box (bI [v0',v1',v2',v3',v4'])),some (.box (bI [v0',v1',v2',v3',v4']++bI post'))] }) (r:=.tup [.i (.agg [.lit v0', .lit v1', .lit v2', .lit v3', .lit v4']), .bool true]) (stl':=[]) (fun id h=>absurd rfl h) ⟨⟨⟨m,φ,q1,q2,q3,q4, .nil _ _ _⟩,q6,q7⟩,zA9 _⟩ (by
  show finish C0 false [ResultVar.cell 6 34,ResultVar.tmp 7] 0 _=_;have hz:bI [v0',v1',v2',v3',v4']=[.i (.lit v0'), .i (.lit v1'), .i (.lit v2'), .i (.lit v3'), .i (.lit v4')]:=rfl;rw[hz]
  simp)
 have hv':v=.tuple #[.agg #[v0',v1',v2',v3',v4'], .bool true]:=by
  obtain⟨_,_,_,e,r,_⟩:=k2;injection e with e;subst e
  cases r with
  | tup r =>
   cases r with|cons b0 r=>cases r with|cons b1 r =>
   cases r
   cases b0 with
   | i r0=>cases r0 with
    | agg r =>
     cases r with|cons a0 _ r=>cases r with|cons a1 _ r=>cases r with|cons a2 _ r=>cases r with|cons a3 _ r=>cases r with|cons a4 _ r =>
     cases r
     cases b1 with
     | i b1=>rw[gT a0,gT a1,gT a2,gT a3,gT a4,gT b1]
 subst hv';refine⟨q7,_,k1,?_⟩;refine Q0.own ⟨v0',v1',v2',v3',v4',rfl,v0',v1',v2',v3',v4',_,m,rfl,hone',q1.mem,⟨q3.size,q3.os,q3.tape,q3.output,q3.block,q3.mle,q3.mnew, .refl _,fun _ _ _ _ e=>by cases e⟩,q5.th,q5.cells,q5.nd,fun f hf=>?_,q5.kc⟩;obtain⟨z1,z2,z3,z4,z5⟩:=q5.all f hf;exact⟨z1,z2,(by intro _ _ _ e;cases e),z4,z5⟩
end Go.Proofs.YtjdfjgmebalaaaaGreat.P
namespace Go.Av
def AN1 (st:Store):AV→Option IV
 | .own id 0=>match st id with
  | some (.box cs)=>bnd (MB st cs) fun l=>some (.iref l)
  | _=>none
 | v=>AI0 st v
def QM (st:Store):List AV→Option (List AV)
 | []=>some []
 | c::r=>bnd (AN1 st c) fun v=>bnd (QM st r) fun l=>some (.i v::l)
theorem UR {w:World} {m:Mem} {φ:Pl} {st:Store} {c:AV} {x:Value} {iv:IV} (hi:Inv w m φ st) (hr:Rep m φ c x) (h:AN1 st c=some iv):IRep (bZ w) iv x:=by
 unfold AN1 at h;split at h
 ·rename_i id;split at h
  ·rename_i cs hs;obtain⟨l,h1,h2⟩:=aG.1 h;injection h2 with h2;subst h2
   cases hr with
   | @own _ _ b n e =>
    obtain⟨hb,hok⟩:=bY hi e hs
    cases hok with
    | @box T _ vs hh hl hrc hm =>
     refine .iref (IAt.mk 0 (sM hi hrc h1) fun j v hj=>?_);show w.cell? ⟨b,0+j,none⟩=some v;rw[aX hh,zF];exact hj
  ·cases h
 ·exact IA hi hr h
theorem EZ {w:World} {m:Mem} {φ:Pl} {st:Store} (hi:Inv w m φ st):∀ {cs us:List AV} {xs:List Value},RepL m φ cs xs→QM st cs=some us→RepL (bZ w) (fun _=>none) us xs
 | [],us,_, .nil,h=>by simp[QM]at h;subst h;exact .nil
 | c::cs,us,_, .cons a b,h=>by
  simp only[QM]at h;obtain⟨v,h1,h2⟩:=aG.1 h;obtain⟨l',h3,h4⟩:=aG.1 h2;injection h4 with h4;subst h4;exact .cons (.i (UR hi a h1)) (EZ hi b h3)
def kvK (stl:StL):AV→Option IV
 | .i (.lit v)=>some (.lit v)
 | .nils=>some (.isl [])
 | .osl id k off len=>match aS stl id with
  | some (.frz k' es)=>tst (decide (k'=k∧off=0∧len≤es.length∧0<len)) (tst (es.all sH) (some (.isl (es.take len))))
  | _=>none
 | _=>none
def AU6 (stl:StL):List AV→Option (List IV)
 | []=>some []
 | c::r=>bnd (kvK stl c) fun v=>bnd (AU6 stl r) fun l=>some (v::l)
def kvA (stl:StL):AV→Option IV
 | .agg cs=>bnd (AU6 stl cs) fun l=>some (.agg l)
 | v=>kvK stl v
def AU7 (stl:StL):List AV→Option (List AV)
 | []=>some []
 | c::r=>bnd (kvA stl c) fun v=>bnd (AU7 stl r) fun l=>some (.i v::l)
def kvT (stl:StL):AV→Option AV
 | .tup cs=>bnd (AU7 stl cs) fun l=>some (.tup l)
 | v=>bnd (kvA stl v) fun l=>some (.i l)
section
variable {w w':World} {m m':Mem} {φ':Pl} {stl:StL}
def UF (w:World) (m m':Mem):Mem:=fun b o=>if b<w.heap.size then m b o else m' b o
theorem Y1 {b:Nat} (h:w.heap.size≤b) (o:Nat):UF w m m' b o=m' b o:=by unfold UF;rw[if_neg (by omega)]
theorem OU {b:Nat} (h:b<w.heap.size) (o:Nat):UF w m m' b o=m b o:=by unfold UF;rw[if_pos h]
theorem AGV {b:Nat} (hb:∀ o,UF w m m' b o=m' b o):∀ {cs:List IV} {o:Nat},sH cs=true→IAt m' b o cs→IAt (UF w m m') b o cs
 | [],o,_,_=>.nil b o
 | c::cs,o,hl, .cons e a q r=>by
  simp only[sH,zT]at hl;refine .cons ((hb o).trans e) ?_ q (AGV hb hl.2 r)
  cases c with
  | lit v=>rw[gT a];exact .lit _
  | isl es=>simp[Y4]at hl
  | agg cs=>simp[Y4]at hl
  | iref cs=>simp[Y4]at hl
theorem NJ {b:Nat} (hb:∀ o,UF w m m' b o=m' b o) {k:Nat}:∀ {es:List (List IV)} {o:Nat},es.all sH=true→IElems m' b o k es→IElems (UF w m m') b o k es
 | [],o,_,_=>.nil b o k
 | e::es,o,hl, .cons a hk r=>by
  simp only[List.all_cons,zT]at hl;exact .cons (AGV hb hl.1 a) hk (NJ hb hl.2 r)
theorem SI (hi:Inv w' m' φ' (aS stl)) (hadv:Adv w (bZ w) (fun _=>none) w' m' φ') {c:AV} {x:Value} {iv:IV} (hr:Rep m' φ' c x) (h:kvK stl c=some iv):IRep (UF w m m') iv x:=by
 unfold kvK at h;split at h
 ·injection h with h;subst h;rw[hr.bU];exact .lit _
 ·injection h with h;subst h
  cases hr;exact .isl0 _ _ fun _=>rfl
 ·rename_i id k off len;split at h
  ·rename_i k' es hs;obtain⟨h1,h2⟩:=aO.1 h;obtain⟨h3,h4⟩:=aO.1 h2;simp only[zN]at h1;obtain⟨rfl,rfl,hle,hpos⟩:=h1;injection h4 with h4;subst h4
   cases hr with
   | @osl _ _ _ _ cap b n ao e hlc hkl hao hao2 =>
    obtain⟨hb,hok⟩:=bY hi e hs
    cases hok with
    | frz hk0 he =>
     have hnew:w.heap.size≤b:=by
      rcases hadv.pnew id b n b e hb.1 with h|h
      ·exact h
      ·exact absurd (fun _ _ _ e=>by cases e) h
     have hcap:cap≠0:=by omega
     have:=hao hcap;subst this;have he2:=NJ (m:=m) (fun o=>Y1 hnew o) h3 he;have hlen:(es.take len).length=len:=by simp;omega
     have hne:es.take len≠[]:=fun h=>by rw[h]at hlen;simp at hlen;omega
     have he3:=uU len he2;have:=IRep.isl (cap:=cap) hne he3 (by omega);rw[hlen]at this;simpa using this
  ·cases h
 ·cases h
theorem MX (hi:Inv w' m' φ' (aS stl)) (hadv:Adv w (bZ w) (fun _=>none) w' m' φ'):∀ {cs:List AV} {xs:List Value} {l:List IV},RepC m' φ' cs xs→AU6 stl cs=some l→ICells (UF w m m') l xs
 | [],_,l, .nil,h=>by simp[AU6]at h;subst h;exact .nil
 | c::cs,_,l, .cons a o b,h=>by
  simp only[AU6]at h;obtain⟨v,h1,h2⟩:=aG.1 h;obtain⟨l',h3,h4⟩:=aG.1 h2;injection h4 with h4;subst h4;exact .cons (SI hi hadv a h1) o (MX hi hadv b h3)
theorem SK (hi:Inv w' m' φ' (aS stl)) (hadv:Adv w (bZ w) (fun _=>none) w' m' φ') {c:AV} {x:Value} {iv:IV} (hr:Rep m' φ' c x) (h:kvA stl c=some iv):IRep (UF w m m') iv x:=by
 unfold kvA at h;split at h
 ·obtain⟨l,h1,h2⟩:=aG.1 h;injection h2 with h2;subst h2
  cases hr with|agg r=>exact .agg (MX hi hadv r h1)
 ·exact SI hi hadv hr h
theorem MZ {φ:Pl} (hi:Inv w' m' φ' (aS stl)) (hadv:Adv w (bZ w) (fun _=>none) w' m' φ'):∀ {cs us:List AV} {xs:List Value},RepL m' φ' cs xs→AU7 stl cs=some us→RepL (UF w m m') φ us xs
 | [],us,_, .nil,h=>by simp[AU7]at h;subst h;exact .nil
 | c::cs,us,_, .cons a b,h=>by
  simp only[AU7]at h;obtain⟨v,h1,h2⟩:=aG.1 h;obtain⟨l',h3,h4⟩:=aG.1 h2;injection h4 with h4;subst h4;exact .cons (.i (SK hi hadv a h1)) (MZ hi hadv b h3)
theorem AFH {φ:Pl} (hi:Inv w' m' φ' (aS stl)) (hadv:Adv w (bZ w) (fun _=>none) w' m' φ') {c r:AV} {x:Value} (hr:Rep m' φ' c x) (h:kvT stl c=some r):Rep (UF w m m') φ r x:=by
 unfold kvT at h;split at h
 ·obtain⟨l,h1,h2⟩:=aG.1 h;injection h2 with h2;subst h2
  cases hr with|tup r=>exact .tup (MZ hi hadv r h1)
 ·obtain⟨l,h1,h2⟩:=aG.1 h;injection h2 with h2;subst h2;exact .i (SK hi hadv hr h1)
end
def AOY (f:List AV→StL→Option (AV×StL)) (args:List AV) (st:StL):Option (AV×StL) :=
 bnd (QM (aS st) args) fun us=>match f us []with
  | some (r,stl)=>bnd (kvT stl r) fun v=>some (v,st)
  | none=>none
theorem JQ {C:Ctx} {g:FuncId} {f:List AV→StL→Option (AV×StL)} (hf:∀ args stl r stl',f args stl=some (r,stl')→(∃ fn,C.P.funcs[g]?=some fn∧fn.name≠ "runtime.NumGoroutine"∧fn.body.isSome=true)∧∀ (w:World) (m:Mem) (φ:Pl) (vs:List Value),Inv w m φ (aS stl)→RepL m φ args vs→(∀ id,φ id≠none→id<stl.length)→Calls C.P g vs.toArray w (bF w m φ r stl'))
 {args:List AV} {stl stl':StL} {r:AV} (h:AOY f args stl=some (r,stl')) :
 (∃ fn,C.P.funcs[g]?=some fn∧fn.name≠ "runtime.NumGoroutine"∧fn.body.isSome=true)∧∀ (w:World) (m:Mem) (φ:Pl) (vs:List Value),Inv w m φ (aS stl)→RepL m φ args vs→(∀ id,φ id≠none→id<stl.length) →
  Calls C.P g vs.toArray w (bF w m φ r stl'):=by
 unfold AOY at h;obtain⟨us,h1,h2⟩:=aG.1 h;split at h2
 ·rename_i r0 stl0 h3;obtain⟨v0,h4,h5⟩:=aG.1 h2;injection h5 with h5;injection h5 with h5 h6;subst h5;subst h6;obtain⟨q1,q2⟩:=hf _ _ _ _ h3;refine⟨q1,fun w m φ vs hi hr h0=>?_⟩;refine(q2 w (bZ w) (fun _=>none) vs (inv0 w) (EZ hi hr h1) (fun id h=>absurd rfl h)).mono ?_;rintro e w' ⟨v,m',φ',rfl,j1,j2,j3,j4⟩;have hlt:∀ b o u,m b o=some u→b<w.heap.size:=fun b o u e=>hi.mem.lt e
  have hsame:∀ f,f<w.heap.size→w'.heap[f]?=w.heap[f]?:=fun f hf=>j3.block f hf fun id b n e=>by cases e
  have hle:MLe m (UF w m m'):=fun b o u e=>by rw[OU (hlt b o u e)];exact e
  have hmem:jV w' (UF w m m'):=fun b o u e=>by
   by_cases hb:b<w.heap.size
   ·rw[OU hb]at e;rw[cell_of_heap (hsame b hb)];exact hi.mem b o u e
   ·rw[Y1 (by omega)]at e;exact j2.mem b o u e
  have ha:Adv w m (fun _=>none) w' (UF w m m') (fun _=>none):=⟨j3.size,j3.os,j3.tape,j3.output,fun b hb _=>hsame b hb,hle,fun b hb _ o=>OU hb o, .refl _,fun _ _ _ _ e=>by cases e⟩
  obtain⟨i2,a2⟩:=hi.APT ha hmem;exact⟨v,_,φ,rfl,AFH j2 j3 j1 h4,i2,a2,h0⟩
 ·cases h2
noncomputable def ABN (C:Ctx) (g:FuncId) (args:List AV) (st:StL):Option (AV×StL) :=
 match C.P.funcs[g]? with
 | none=>none
 | some fn =>
  match fn.body with
  | none=>none
  | some c=>AB9 { C with tree:=true } true fn.results.toList st.length (dY C (C.G g) st.length c (enter (C.G g) args st))
theorem AKR {C:Ctx} {f:FuncId} {fn:Func} {c:Code} {rs:List ResultVar} (hf:C.P.funcs[f]?=some fn) (hb:fn.body=some c) (hr:fn.results.toList=rs) (args:List AV) (st:StL) :
 ABN C f args st=AB9 { C with tree:=true } true rs st.length (dY C (C.G f) st.length c (enter (C.G f) args st)):=by
 subst hr;unfold ABN;rw[hf];simp only[hb]
theorem A7 {C:Ctx} (hS:SoundOk C) {g:FuncId} {args:List AV} {stl stl':StL} {r:AV} (h:ABN C g args stl=some (r,stl')) :
 (∃ fn,C.P.funcs[g]?=some fn∧fn.name≠ "runtime.NumGoroutine"∧fn.body.isSome=true)∧∀ (w:World) (m:Mem) (φ:Pl) (vs:List Value),Inv w m φ (aS stl)→RepL m φ args vs→(∀ id,φ id≠none→id<stl.length) →
  Calls C.P g vs.toArray w (bF w m φ r stl'):=by
 unfold ABN at h;split at h
 ·cases h
 rename_i fn hf;split at h
 ·cases h
 rename_i c hb;have hst:=(hS.fns g fn c hf hb).2;refine⟨⟨fn,hf,(hS.fns g fn c hf hb).1,by rw[hb];rfl⟩,fun w m φ vs hi hargs hid=>?_⟩;have ih:=aR hS
 have hrel:I1 [] w m φ fn.ntmps stl.length (enter (C.G g) args stl) { tmps:=vs.toArray++Array.replicate (fn.ntmps-vs.toArray.size) undef,defers:=[] } w:=by
  refine⟨⟨⟨m,φ,hi,?_, .refl _ _ _,hid, .nil _ _ _⟩,by simp;omega,rfl⟩,zO _⟩;intro t;unfold enter;simp only;generalize C.G g=G
  induction G with
  | nil=>exact .junk _
  | cons u G ihG =>
   simp only[KR,aL];by_cases e:t=u
   ·subst e;simp only[if_true];exact kJ _ hargs t
   ·simp only[e,if_false];exact ihG
 refine callsIn_wide.1 (callsIn_of_wp_marks (n:=0) hf hb trivial ?_)
 have done:∀ S e,dY C (C.G g) stl.length c (enter (C.G g) args stl)=some (e,S)→finish { C with tree:=true } true fn.results.toList stl.length S=some (r,stl')→(e=.normal∨e=.ret) →
  c.wpIn Fence.wide 0 C.P (bodyPostM Fence.wide 0 C.P fn (bF w m φ r stl')) { tmps:=vs.toArray++Array.replicate (fn.ntmps-vs.toArray.size) undef,defers:=[] } w:=by
  intro S e hS' hfin he;obtain⟨n,hS'⟩:=(dJ _).1 hS';refine wpIn_mono (bW (ρ:=none) hS.ctx ih (hS.draw _ ih) hid n c _ S e [] _ w hst (.inl rfl) hS' hrel) ?_;rintro e' a' w' ⟨rfl,ds,k,_⟩
  have hl:LeavesInM Fence.wide 0 C.P fn a'.tmps (bF w m φ r stl') a'.defers .returning w':=by
   rw[k.1.defers];refine qX k fun a2 w2 _ k2=>?_
   obtain⟨v,k3,k4⟩:=eO (C:={ C with tree:=true }) hid k2 hfin;exact⟨v,k3,k4⟩
  rcases he with rfl|rfl
  ·exact hl
  ·exact hl
 unfold AB9 at h;split at h
 ·rename_i S hS';exact done S .normal hS' h (.inl rfl)
 ·rename_i S hS';exact done S .ret hS' h (.inr rfl)
 ·cases h
 ·cases h
end Go.Av
namespace Go.Proofs.YtjdfjgmebalaaaaGreat.P
open Go Go.Av
set_option maxRecDepth 4000
set_option maxHeartbeats 4000000
theorem WT {p:Pn} {ws:List Int} {r:Int} {path:List Int} (h:p.width ws=0∨apI ws r path p=none):ABN C0 26 [.i (.agg p.cells), .i (.isl (aF ws)), .i (.agg [.int r, .isl (aF path)])] []=some (.tup [rqA Pn.zero 0, .bool false],[]):=by
 have c1:=jP p ws;have c2:=YC p path;rw[AKR Tryz.func26 rfl rfl];by_cases h0:p.width ws=0
 ·rw[Pn.aA p]at c1 ⊢;simp[c1,h0,Pn.zero,Pn.cells,Ex.aB,aF,Pn.aB,rqA]
 ·obtain⟨hw,hp8,hv⟩:=mW h0;have hn:=h.resolve_left h0;unfold apI at hn
  cases ha:atI path p with
  | none =>
   rw[ha]at c2;rw[Pn.aA p]at c1 c2 ⊢;simp[atV]at c2;simp[c1,h0,c2,Pn.zero,Pn.cells,Ex.aB,aF,Pn.aB,rqA]
  | some a =>
   rw[ha]at c2;unfold atI at ha;split at ha
   ·rename_i hl;rw[if_pos hl,ha]at hn;simp only[yP]at hn;obtain⟨-,hav⟩:=LZ path p 8 a hp8 ha;have ha8:a.wd ws 8≠0:=by rw[Pn.gP a _ 8 hav (by omega)];exact hav
    have c3:=o7 hw ha8 r (lv:=8-path.length) (by omega)
    have hr:rwL ws r (8-path.length) a=none:=by
     cases hq:rwL ws r (8-path.length) a with
     | none=>rfl
     | some q=>rw[hq]at hn;cases hn
    rw[hr]at c3;have w1:IntKind.i64.wrap (8-(path.length:Int))=((8-path.length:Nat):Int):=by rw[wrO];omega
    simp only[atV]at c2;rw[Pn.aA p]at c1 c2 ⊢;rw[Pn.aA a]at c2 c3;simp[BV,Pn.zero,Pn.cells,Ex.aB,aF,Pn.aB]at c3;simp[c1,h0,c2,w1,c3,Pn.zero,Pn.cells,Ex.aB,aF,Pn.aB,rqA]
   ·cases ha
theorem PW {args:List AV} {st st':StL} {r:AV} (h:uB args st=some (r,st')):∀ (w:World) (m:Mem) (φ:Pl) (vs:List Value),Inv w m φ (aS st)→RepL m φ args vs→(∀ id,φ id≠none→id<st.length)→Calls Tryz.prog 26 vs.toArray w (bF w m φ r st'):=by
 intro w m φ vs hi hr h0;obtain⟨p,ws,k,path,rfl,rfl,hq⟩:=U1 h
 cases ho:apO p ws k path with
 | none =>
  rw[ho]at hq;injection hq with h1 h2;subst h1;subst h2
  have hn:p.width ws=0∨apI ws k path p=none:=by
   unfold apO at ho;by_cases hw:p.width ws=0
   ·exact .inl hw
   ·rw[if_neg hw]at ho;exact .inr ho
  exact(A7 bH (WT hn)).2 w m φ vs hi hr h0
 | some q =>
  rw[ho]at hq;injection hq with h1 h2;subst h1;subst h2;unfold apO at ho;by_cases hw:p.width ws=0
  ·rw[if_pos hw]at ho;cases ho
  ·rw[if_neg hw]at ho
   obtain rfl:φ=fun _=>none:=by
    funext id
    cases h:φ id with
    | none=>rfl
    | some p=>exact absurd (h0 id (by rw[h];simp)) (xX _)
   exact WS hw ho hi hr
noncomputable def AOI:FuncId→Option (List AV→StL→Option (AV×StL))
 | 26=>some uB
 | _=>none
noncomputable def C5:Ctx:={ P:=Tryz.prog,G:=GS,ownArgs:=dB,keepRes:=keepR,eqT:=vV,prim:=AOI,tree:=true }
theorem AJ4:PrimOk C5:=by
 have key:∀ g q,C5.prim g=some q→g=26∧q=uB:=by
  intro g q h;have h:AOI g=some q:=h;unfold AOI at h;split at h
  ·injection h with h;exact⟨rfl,h.symm⟩
  ·cases h
 constructor
 ·intro g args st p h;unfold bE at h
  cases hq:C5.prim g with
  | none=>rw[hq]at h;cases h
  | some q =>
   obtain⟨rfl,rfl⟩:=key g q hq;exact⟨Tryz.f26,Tryz.func26,by decide,rfl⟩
 ·intro g args st r st' h w m φ vs hi hr hb;unfold bE at h
  cases hq:C5.prim g with
  | none=>rw[hq]at h;cases h
  | some q =>
   obtain⟨rfl,rfl⟩:=key g q hq;rw[hq]at h;exact PW h w m φ vs hi hr hb
theorem ADQ:SoundOk C5:=fQ (C:=C5) ft nt eqS mo AJ4
theorem AKP (p:Pn) (ws:List Int) (r:Int) (path:List Int):aI C5 26 [.i (.agg p.cells), .i (.isl (aF ws)), .i (.agg [.int r, .isl (aF path)])] []=some (ACJ (apO p ws r path)):=by
 rw[bA (C:=C5) (p:=uB) rfl];exact AC1 p ws r path
end Go.Proofs.YtjdfjgmebalaaaaGreat.P
namespace Go.Av
def AZB (k:Nat) (es:List (List IV)):Nat→StL
 | 0=>[]
 | _+1=>[some (.tre k es)]
@[simp] theorem AZA (k:Nat) (es:List (List IV)):AZB k es 0=[]:=(rfl)
@[simp] theorem AZ9 (k i:Nat) (es:List (List IV)):AZB k es (i+1)=[some (.tre k es)]:=(rfl)
theorem ADB (l:List Ex):(Ex.aB l).take l.length=Ex.aB l:=zY (by simp)
theorem ADA (l:List Int):(aF l).take l.length=aF l:=zY (by simp)
theorem AD9 (l:List Pn):(Pn.aB l).take l.length=Pn.aB l:=zY (by simp)
end Go.Av
namespace Go.Av
open Go.Av.Mk
theorem Z4 (l:List Int):fH (aF l)=true:=by
 rw[nN]
 induction l with
 | nil=>rfl
 | cons n l ih=>simp only[yU,fH,ih,zD3];rfl
def rqL (q:Pn) (j:Nat):List AV :=
 [.int q.kind, .int q.table,if q.exprs=[]then .nils else .osl j 5 0 q.exprs.length,if q.cols=[]then .nils else .osl (if q.exprs=[]then j else j+1) 1 0 q.cols.length,if q.kids=[]then .nils else .osl (if q.exprs=[]then(if q.cols=[]then j else j+1)else(if q.cols=[]then j+1 else j+2)) 5 0 q.kids.length]
theorem AI3 (q:Pn):oU (aS (rqB q)) (rqA q 0)=some (.agg q.cells):=by
 rw[Pn.aA];have b1:=ADB q.exprs;have b2:=ADA q.cols;have b3:=AD9 q.kids;have b4:=Z4 q.cols
 by_cases q1:q.exprs=[]<;>by_cases q2:q.cols=[]<;>by_cases q3:q.kids=[] <;>
  simp[rqA,rqB,q1,q2,q3,oU,sO,GI,aS,AB,bnd,tst,b4,Ex.aB,Pn.aB,aF]<;>simp_all [aF]
theorem AXR (q:Pn):mfR (rqA q 0)=true:=by
 by_cases q1:q.exprs=[]<;>by_cases q2:q.cols=[]<;>by_cases q3:q.kids=[] <;>
  simp[rqA,q1,q2,q3,mfR,AOS,mfC,kR]
theorem AOQ (q:Pn):AHI (rqB q)=true:=by
 have b4:=Z4 q.cols
 by_cases q1:q.exprs=[]<;>by_cases q2:q.cols=[]<;>by_cases q3:q.kids=[] <;>
  simp[rqB,q1,q2,q3,AHI,mfB,b4]
theorem ATB (q:Pn) (n:Nat):ren (fun j=>some (j+n)) (rqA q 0)=rqA q n:=by
 by_cases q1:q.exprs=[]<;>by_cases q2:q.cols=[]<;>by_cases q3:q.kids=[] <;>
  simp[rqA,q1,q2,q3,ren,CV,AQY,zD6]
theorem AIP (q:Pn) (n:Nat):kF n (rqB q)=rqB q:=by
 by_cases q1:q.exprs=[]<;>by_cases q2:q.cols=[]<;>by_cases q3:q.kids=[] <;>
  simp[rqB,q1,q2,q3,kF,CW]
theorem AP2 {call:dD} {g:FuncId} {q x:Pn} {a b:IV} {o:Bool} (h:call g [.i (.agg q.cells), .i a, .i b] []=some (.tup [rqA x 0, .bool o],rqB x)):qW call g [rqA q 0, .i a, .i b] (rqB q)=some (.tup [rqA x (rqB q).length, .bool o],rqB q++rqB x):=by
 unfold qW;simp only[sP,AI3,bnd];have ha:oU (aS (rqB q)) (.i a)=some a:=rfl;have hb:oU (aS (rqB q)) (.i b)=some b:=rfl;simp only[ha,hb,h,mfA,AOR,AXR,AOQ,AIP,ren,CV,ATB];rfl
def Shp (q:Pn):Prop:=(q.exprs=[]∧q.cols=[]∧q.kids=[])∨(q.exprs≠[]∧q.cols=[]∧q.kids≠[])∨(q.exprs=[]∧q.cols=[]∧q.kids≠[])∨(q.exprs=[]∧q.cols≠[]∧q.kids≠[])
theorem ALD {ws:List Int} {lv:Nat} {p:Pn} (h:p.wd ws lv≠0):Shp p:=by
 cases qD h with
 | scan t W h0 h1 hW=>exact .inl ⟨rfl,rfl,rfl⟩
 | filt m e a h1 ha he=>exact .inr (.inl ⟨by simp[filt],rfl,by simp[filt]⟩)
 | proj m es a h1 ha hl he =>
  refine .inr (.inl ⟨fun e=>?_,rfl,by simp[proj]⟩);have:es=[]:=e;subst this;simp[bN]at hl
 | pair m k e a b h1 hk ha hb hl he=>exact .inr (.inl ⟨by simp[bB],rfl,by simp[bB]⟩)
 | union m a b h1 ha hb=>exact .inr (.inr (.inl ⟨rfl,rfl,by simp[dA]⟩))
 | dist m a h1 ha=>exact .inr (.inr (.inl ⟨rfl,rfl,by simp⟩))
 | group m cs a h1 ha hc ho =>
  by_cases hcs:cs=[]
  ·exact .inr (.inr (.inl ⟨rfl,hcs,by simp⟩))
  ·exact .inr (.inr (.inr ⟨rfl,hcs,by simp⟩))
end Go.Av
namespace Go.Av
noncomputable def KV:List AV→StL→Option (AV×StL)
 | [.i (.iref cs)],[]=>@dite _ (∃ p:Pn,p.small∧p.cells=cs) (Classical.propDecidable _) (fun h=>some (rqA h.choose 0,rqB h.choose)) fun _=>none
 | _,_=>none
theorem AG7 {p:Pn} (h:p.small):KV [.i (.iref p.cells)] []=some (rqA p 0,rqB p):=by
 have hh:∃ x:Pn,x.small∧x.cells=p.cells:=⟨p,h,rfl⟩
 unfold KV;simp only;rw[dif_pos hh,Pn.KW _ _ hh.choose_spec.2]
theorem WF {args:List AV} {st:StL} {r:AV×StL} (h:KV args st=some r):∃ p:Pn,p.small∧args=[.i (.iref p.cells)]∧st=[]∧r=(rqA p 0,rqB p):=by
 unfold KV at h;split at h
 ·rename_i cs;by_cases hc:∃ p:Pn,p.small∧p.cells=cs
  ·rw[dif_pos hc]at h;injection h with h;exact⟨hc.choose,hc.choose_spec.1,by rw[hc.choose_spec.2],rfl,h.symm⟩
  ·rw[dif_neg hc]at h;cases h
 ·cases h
end Go.Av
namespace Go.Proofs.YtjdfjgmebalaaaaGreat.P
open Go Go.Av
set_option maxRecDepth 4000
set_option maxHeartbeats 4000000
noncomputable def AOJ:FuncId→Option (List AV→StL→Option (AV×StL))
 | 59=>some KV
 | _=>none
noncomputable def C4:Ctx:={ P:=Tryz.prog,G:=GS,ownArgs:=dB,keepRes:=keepR,eqT:=vV,prim:=AOJ,tree:=true }
theorem AJ5:PrimOk C4:=by
 have key:∀ g q,C4.prim g=some q→g=59∧q=KV:=by
  intro g q h;have h:AOJ g=some q:=h;unfold AOJ at h;split at h
  ·injection h with h;exact⟨rfl,h.symm⟩
  ·cases h
 constructor
 ·intro g args st p h;unfold bE at h
  cases hq:C4.prim g with
  | none=>rw[hq]at h;cases h
  | some q =>
   obtain⟨rfl,rfl⟩:=key g q hq;exact⟨Tryz.f59,Tryz.func59,by decide,rfl⟩
 ·intro g args stl r stl' h w m φ vs hi hr h0;unfold bE at h
  cases hq:C4.prim g with
  | none=>rw[hq]at h;cases h
  | some q =>
   obtain⟨rfl,rfl⟩:=key g q hq;rw[hq]at h;obtain⟨p,⟨k1,k2,k3⟩,rfl,rfl,hres⟩:=WF h;injection hres with h1 h2;subst h1;subst h2
   obtain rfl:φ=fun _=>none:=by
    funext id
    cases h:φ id with
    | none=>rfl
    | some p=>exact absurd (h0 id (by rw[h];simp)) (xX _)
   exact(G.iM k1 k2 k3 hi hr).mono fun _ _ h=>h.own
theorem AM3:SoundOk C4:=fQ (C:=C4) ft nt eqS mo AJ5
theorem AGF {p:Pn} (h:p.small):aI C4 59 [.i (.iref p.cells)] []=some (rqA p 0,rqB p):=by
 rw[bA (C:=C4) (p:=KV) rfl];exact AG7 h
end Go.Proofs.YtjdfjgmebalaaaaGreat.P
namespace Go.Proofs.YtjdfjgmebalaaaaGreat
open Go Go.Av
set_option maxRecDepth 4000
noncomputable def AEG:FuncId→Option (List AV→StL→Option (AV×StL))
 | 1000000007=>none
 | 182=>none
 | 159=>none
 | 104=>some (AJN (aI C0) 104)
 | 62=>some (APV (aI C0) 62)
 | g=>some (aI C0 g)
def AHG:FuncId→Bool
 | 104=>true
 | g=>dB g
@[simp] theorem AXF (g:FuncId):AHG g=if g=104 then true else dB g:=by
  unfold AHG;split
  ·rfl
  ·rename_i h;rw[if_neg h]
noncomputable def CP:Ctx:={ P:=Tryz.prog,G:=GS,ownArgs:=AHG,keepRes:=keepR,eqT:=vV,prim:=AEG }
@[simp] theorem AnA:CP.P=Tryz.prog:=(rfl)
@[simp] theorem AnB (f):CP.G f=GS f:=(rfl)
@[simp] theorem An7 (f):CP.ownArgs f=AHG f:=(rfl)
@[simp] theorem An8 (f):CP.keepRes f=keepR f:=(rfl)
@[simp] theorem An9 (f):CP.eqT f=vV f:=(rfl)
@[simp] theorem An6:CP.tree=false:=(rfl)
theorem RN:PrimOk CP:=by
 have h0:=aR bH
 have key:∀ g q,CP.prim g=some q→g≠lW∧(q=aI C0 g∨q=AJN (aI C0) g∨q=AY0 (aI C0) g∨q=APV (aI C0) g):=by
  intro g q h;have h:AEG g=some q:=h;unfold AEG at h;split at h
  all_goals first
   | (cases h;done)
   | (injection h with h;subst h;exact⟨by decide, .inr (.inl rfl)⟩)
   | (injection h with h;subst h;exact⟨by decide, .inr (.inr (.inl rfl))⟩)
   | (injection h with h;subst h;exact⟨by decide, .inr (.inr (.inr rfl))⟩)
   | (injection h with h;subst h;exact⟨by assumption, .inl rfl⟩)
 constructor
 ·intro g args st p h;unfold bE at h
  cases hq:CP.prim g with
  | none=>rw[hq]at h;cases h
  | some q =>
   rw[hq]at h;obtain⟨hy,hor⟩:=key g q hq
   rcases hor with rfl|rfl|rfl|rfl
   ·exact h0.name _ _ _ _ hy h
   ·exact(MV h0 (r:=p.1) (stl':=p.2) h hy).1
   ·exact(NE h0 (r:=p.1) (stl':=p.2) h hy).1
   ·exact(ND h0 (r:=p.1) (stl':=p.2) h hy).1
 ·intro g args st r st' h w m φ vs hi hr hb;unfold bE at h
  cases hq:CP.prim g with
  | none=>rw[hq]at h;cases h
  | some q =>
   rw[hq]at h;obtain⟨hy,hor⟩:=key g q hq
   rcases hor with rfl|rfl|rfl|rfl
   ·exact h0.calls _ _ _ _ _ hy h w m φ vs hi hr hb
   ·exact(MV h0 h hy).2 w m φ vs hi hr hb
   ·exact(NE h0 h hy).2 w m φ vs hi hr hb
   ·exact(ND h0 h hy).2 w m φ vs hi hr hb
theorem ASY:SoundOk CP:=fQ (C:=CP) ft nt eqS mo RN
end Go.Proofs.YtjdfjgmebalaaaaGreat
namespace Go.Av
end Go.Av
namespace Go.Proofs.YtjdfjgmebalaaaaGreat.P
open Go Go.Av
set_option maxRecDepth 4000
set_option maxHeartbeats 4000000
theorem WC (p:Pn) (hp:p.thin):aI CP 62 [.i (.agg p.cells)] []=some (.i (.agg p.cells),[]):=by
 have h:=wT p hp;rw[bA (p:=APV (aI C0) 62) rfl];unfold APV;by_cases he:p.exprs=[]
 ·by_cases hk:p.kids=[]
  ·simp[pcX,pcS,hk,he,Pn.aB,Ex.aB]at h;simp[h];rw[Pn.aA];simp[hk,he,Pn.aB,Ex.aB]
  ·have hkl:p.kids.length≠0:=fun h=>hk (zW.1 h)
   simp[pcX,pcS,hk,he,aP hkl,aJ hkl,Ex.aB]at h;simp[h];rw[Pn.aA];simp[hk,he,Ex.aB]
 ·have hel:p.exprs.length≠0:=fun h=>he (zW.1 h)
  by_cases hk:p.kids=[]
  ·simp[pcX,pcS,hk,he,aP hel,aJ hel,Pn.aB]at h;simp[h];rw[Pn.aA];simp[hk,he,Pn.aB]
  ·have hkl:p.kids.length≠0:=fun h=>hk (zW.1 h)
   simp[pcX,pcS,hk,he,aP hel,aJ hel,aP hkl,aJ hkl]at h;simp[h];rw[Pn.aA]
@[simp] theorem iN:∀ l:List Int,fH (aF l)=true
  | []=>by simp[aF,fH]
  | x::l=>by simp[aF,fH,lS,kR,iN l]
noncomputable def AEF:FuncId→Option (List AV→StL→Option (AV×StL))
 | 182=>some (aI CP 182)
 | 167=>some (AGI C0 true 167)
 | g=>AEG g
noncomputable def CQ:Ctx:={ P:=Tryz.prog,G:=GS,ownArgs:=AHG,keepRes:=keepR,eqT:=vV,prim:=AEF }
@[simp] theorem An4:CQ.P=Tryz.prog:=(rfl)
@[simp] theorem An5 (f):CQ.G f=GS f:=(rfl)
@[simp] theorem An1 (f):CQ.ownArgs f=AHG f:=(rfl)
@[simp] theorem An2 (f):CQ.keepRes f=keepR f:=(rfl)
@[simp] theorem An3 (f):CQ.eqT f=vV f:=(rfl)
@[simp] theorem An0:CQ.tree=false:=(rfl)
theorem ATQ:PrimOk CQ:=by
 have hP:=aR ASY;constructor
 ·intro g args st p h;unfold bE at h
  cases hq:CQ.prim g with
  | none=>rw[hq]at h;cases h
  | some q =>
   rw[hq]at h;have hq:AEF g=some q:=hq;unfold AEF at hq;split at hq
   ·injection hq with hq;subst hq;exact hP.name _ _ _ _ (by decide) h
   ·injection hq with hq;subst hq;exact(l7 bH (r:=p.1) (stl':=p.2) h).1
   ·exact RN.name g args st p (by unfold bE;rw[show CP.prim g=some q from hq];exact h)
 ·intro g args st r st' h w m φ vs hi hr hb;unfold bE at h
  cases hq:CQ.prim g with
  | none=>rw[hq]at h;cases h
  | some q =>
   rw[hq]at h;have hq:AEF g=some q:=hq;unfold AEF at hq;split at hq
   ·injection hq with hq;subst hq;exact hP.calls _ _ _ _ _ (by decide) h w m φ vs hi hr hb
   ·injection hq with hq;subst hq;exact(l7 bH h).2 w m φ vs hi hr hb
   ·exact RN.calls g args st r st' (by unfold bE;rw[show CP.prim g=some q from hq];exact h) w m φ vs hi hr hb
theorem AM2:SoundOk CQ:=fQ (C:=CQ) ft nt eqS mo ATQ
noncomputable def AAG:FuncId→Option (List AV→StL→Option (AV×StL))
 | 1000000007=>none
 | 89=>none
 | 126=>none
 | 159=>none
 | 182=>some (AGI CQ true 182)
 | 167=>some (AGI C0 true 167)
 | 104=>some (AOX (aI C0) 104)
 | g=>AEG g
def AP3 (g:FuncId):Bool:=keepR g || decide (g=159)
noncomputable def CR:Ctx:={ P:=Tryz.prog,G:=GS,ownArgs:=AHG,keepRes:=AP3,eqT:=vV,prim:=AAG }
@[simp] theorem AmY:CR.P=Tryz.prog:=(rfl)
@[simp] theorem AmZ (f):CR.G f=GS f:=(rfl)
@[simp] theorem AmV (f):CR.ownArgs f=AHG f:=(rfl)
@[simp] theorem AmW (f):CR.keepRes f=(keepR f || decide (f=159)):=(rfl)
@[simp] theorem AmX (f):CR.eqT f=vV f:=(rfl)
@[simp] theorem AmU:CR.tree=false:=(rfl)
theorem AEE:PrimOk CR:=by
 constructor
 ·intro g args st p h;unfold bE at h
  cases hq:CR.prim g with
  | none=>rw[hq]at h;cases h
  | some q =>
   rw[hq]at h;have hq:AAG g=some q:=hq;unfold AAG at hq;split at hq
   all_goals first
    | (cases hq;done)
    | (injection hq with hq;subst hq;exact(l7 AM2 (r:=p.1) (stl':=p.2) h).1)
    | (injection hq with hq;subst hq;exact(l7 bH (r:=p.1) (stl':=p.2) h).1)
    | (injection hq with hq;subst hq;exact(JP (aR bH) (r:=p.1) (stl':=p.2) h (by decide)).1)
    | exact RN.name g args st p (by unfold bE;rw[show CP.prim g=some q from hq];exact h)
 ·intro g args st r st' h w m φ vs hi hr hb;unfold bE at h
  cases hq:CR.prim g with
  | none=>rw[hq]at h;cases h
  | some q =>
   rw[hq]at h;have hq:AAG g=some q:=hq;unfold AAG at hq;split at hq
   all_goals first
    | (cases hq;done)
    | (injection hq with hq;subst hq;exact(l7 AM2 h).2 w m φ vs hi hr hb)
    | (injection hq with hq;subst hq;exact(l7 bH h).2 w m φ vs hi hr hb)
    | (injection hq with hq;subst hq;exact(JP (aR bH) h (by decide)).2 w m φ vs hi hr hb)
    | exact RN.calls g args st r st' (by unfold bE;rw[show CP.prim g=some q from hq];exact h) w m φ vs hi hr hb
theorem AM1:SoundOk CR:=fQ (C:=CR) ft nt eqS mo AEE
end Go.Proofs.YtjdfjgmebalaaaaGreat.P
namespace Go.Av
def Val.cmp (a b:Val):Int:=if a.null=true then(if b.null=true then 0 else -1)else if b.null=true then 1 else if a.n<b.n then -1 else if b.n<a.n then 1 else 0
def XH:List Val→List Val→Int
 | [],[]=>0
 | [],_::_=>-1
 | _::_,[]=>1
 | a::l,b::m=>if Val.cmp a b=0 then XH l m else Val.cmp a b
def AO2 (a b:List Val):Bool:=decide (XH a b≤0)
def Af5 (l:List (List Val)) (r:List Val):List (List Val):=l.takeWhile (fun x=>AO2 x r)++r::l.dropWhile (fun x=>AO2 x r)
def AWU (l:List (List Val)):List (List Val):=l.foldl Af5 []
def AX4 (l:List (List Val)):List (List IV):=l.map fun r=>[.isl (vY r)]
structure Tbl where
 w:Int
 rows:List (List Val)
def Tbl.cells (t:Tbl):List IV:=[.int t.w, .isl (AX4 t.rows)]
def tab (w:Int) (rows:List (List Val)):Tbl:=if 400<rows.length then⟨w,[]⟩else⟨w,AWU rows⟩
def chainB:List (List Val)→Bool
 | a::b::l=>AO2 a b && chainB (b::l)
 | _=>true
def rowOk (w:Int) (r:List Val):Bool:=decide ((r.length:Int)=w) && r.all Val.ok
def Tbl.ok (t:Tbl):Bool:=bN t.w && (decide (t.rows.length≤400) && (t.rows.all (rowOk t.w) && chainB t.rows))
def isT (e:Ex) (r:List Val):Bool:=decide ((e.ev r).tr=2)
def ATZ (n:Int):List Val:=List.replicate n.toNat ⟨true,0⟩
def AUF (e:Ex) (rs:List (List Val)) (r:List Val):List (List Val):=(rs.map (r ++ ·)).filter (isT e)
def joinL (e:Ex) (outer:Bool) (w:Int) (rs:List (List Val)) (r:List Val):List (List Val) :=
 if(outer && (AUF e rs r).isEmpty)=true then [r++ATZ w]else AUF e rs r
def AUE (e:Ex) (outer:Bool) (a b:Tbl):List (List Val):=a.rows.flatMap (joinL e outer b.w b.rows)
def dd:List Val→List (List Val)→List (List Val)
 | _,[]=>[]
 | p,a::l=>if XH p a=0 then dd a l else a::dd a l
def AUU:List (List Val)→List (List Val)
 | []=>[]
 | a::l=>a::dd a l
def AXD (cs:List Int) (r:List Val):List Val:=cs.map fun c=>(r[c.toNat]?).getD Val.zero
def bump (key:List Val):List (List Val×Nat)→List (List Val×Nat)
 | []=>[(key,1)]
 | g::l=>if XH g.1 key=0 then(g.1,g.2+1)::l else g::bump key l
def groups (cs:List Int) (rows:List (List Val)):List (List Val×Nat):=rows.foldl (fun acc r=>bump (AXD cs r) acc) []
def ATY (g:List Val×Nat):List Val:=g.1++[⟨false,(g.2:Int)⟩]
def TC (cs:List Int) (rows:List (List Val)):List (List Val):=(groups cs rows).map ATY
def ANE:Tbl:=⟨0,[]⟩
def exO (es:List Ex):Ex:=(es[0]?).getD (.mk 0 0 Val.zero [])
def evK (db:List Tbl) (k t:Int) (es:List Ex) (cs:List Int) (a b:Tbl):Tbl :=
 if k=1 then tab ((db[t.toNat]?).getD ANE).w ((db[t.toNat]?).getD ANE).rows
 else if k=2 then tab a.w (a.rows.filter (isT (exO es)))
 else if k=3 then tab es.length (a.rows.map fun r=>es.map (Ex.ev r))
 else if k=4∨k=5 then tab (a.w+b.w) (AUE (exO es) (decide (k=5)) a b)
 else if k=6 then tab a.w (a.rows++b.rows)
 else if k=7 then tab a.w (AUU a.rows)
 else tab ((cs.length:Int)+1) (TC cs a.rows)
mutual
def Pn.evP (db:List Tbl):Pn→Tbl
 | .mk k t es cs ks=>evK db k t es cs (((Pn.AYF db ks)[0]?).getD ANE) (((Pn.AYF db ks)[1]?).getD ANE)
def Pn.AYF (db:List Tbl):List Pn→List Tbl
 | []=>[]
 | p::ps=>Pn.evP db p::Pn.AYF db ps
end
section
variable {rows:List (List Val)} {w:Int} (hr:∀ r∈rows,rowOk w r=true) (hw:bN w=true)
include hr hw
end
def rbK (cnt:List Int) (k t:Int) (cs:List Int) (a b:Int):Int :=
 if k=1 then(cnt[t.toNat]?).getD 0 else min (if k=4 then a*b else if k=5 then a*max 1 b else if k=6 then a+b else if k=8∧cs=[]then min a 1 else a) 1000000000
mutual
def Pn.rb (cnt:List Int):Pn→Int
 | .mk k t es cs ks=>rbK cnt k t cs (((Pn.rbL cnt ks)[0]?).getD 0) (((Pn.rbL cnt ks)[1]?).getD 0)
def Pn.rbL (cnt:List Int):List Pn→List Int
 | []=>[]
 | p::ps=>Pn.rb cnt p::Pn.rbL cnt ps
end
def ASH (fl:List Bool):List Int:=fl.map fun b=>if b=true then 7 else 3
def AU0 (e:Ex) (fl:List Bool):List Bool:=(List.range fl.length).map fun i=>(fl[i]?).getD false && jT (JE ((ASH fl).set i 4) e) 2
def nlK (flags:List (List Bool)) (k t:Int) (es:List Ex) (cs:List Int) (a b:List Bool):List Bool :=
 if k=1 then(flags[t.toNat]?).getD []
 else if k=2 then AU0 (exO es) a
 else if k=3 then es.map fun e=>jT (JE (ASH a) e) 4
 else if k=4 then a++b
 else if k=5 then a++b.map fun _=>true
 else if k=6 then List.zipWith (· || ·) a b
 else if k=8 then(cs.map fun c=>(a[c.toNat]?).getD false)++[false]
 else a
mutual
def Pn.nl (flags:List (List Bool)):Pn→List Bool
 | .mk k t es cs ks=>nlK flags k t es cs (((Pn.nlL flags ks)[0]?).getD []) (((Pn.nlL flags ks)[1]?).getD [])
def Pn.nlL (flags:List (List Bool)):List Pn→List (List Bool)
 | []=>[]
 | p::ps=>Pn.nl flags p::Pn.nlL flags ps
end
def AaI (db:List Tbl) (k t:Int) (es:List Ex) (cs:List Int) (a b:Tbl):List (List Val) :=
 if k=1 then((db[t.toNat]?).getD ANE).rows
 else if k=2 then a.rows.filter (isT (exO es))
 else if k=3 then a.rows.map fun r=>es.map (Ex.ev r)
 else if k=4∨k=5 then AUE (exO es) (decide (k=5)) a b
 else if k=6 then a.rows++b.rows
 else if k=7 then AUU a.rows
 else TC cs a.rows
def Pn.raw (db:List Tbl) (p:Pn):List (List Val):=AaI db p.kind p.table p.exprs p.cols ((p.kids[0]?.map (Pn.evP db)).getD ANE) ((p.kids[1]?.map (Pn.evP db)).getD ANE)
mutual
def Pn.fit (db:List Tbl):Pn→Bool
 | .mk k t es cs ks=>decide ((Pn.raw db (.mk k t es cs ks)).length≤400) && Pn.AZF db ks
def Pn.AZF (db:List Tbl):List Pn→Bool
 | []=>true
 | p::ps=>Pn.fit db p && Pn.AZF db ps
end
mutual
def Pn.bd (n:Nat):Pn→Nat
 | .mk _ _ es _ ks=>bdK n es (Pn.bdL n ks)
def Pn.bdL (n:Nat):List Pn→List Nat
 | []=>[]
 | p::ps=>Pn.bd n p::Pn.bdL n ps
def bdK (n:Nat) (es:List Ex):List Nat→Nat
 | []=>n
 | [a]=>a
 | a::b::_=>if es=[]then a+b else a*b
end
theorem AQD (n:Nat) (t:Int):(Pn.scan t).bd n=n:=by simp[Pn.scan,Pn.bd,Pn.bdL,bdK]
theorem AGS (n:Nat) (k t:Int) (es:List Ex) (cs:List Int) (a:Pn):(Pn.mk k t es cs [a]).bd n=a.bd n:=by simp[Pn.bd,Pn.bdL,bdK]
def Th (P:Pn) (j j':Nat) (u u':Int):Prop:=P.thin∧(j'≤j∧u'≤u∧∀ n:Nat,1≤n→P.bd n≤2 ^ (u-u').toNat*n ^ (j-j'+1))∧(P.exprs=[]→P.kids.length=2→P.kind=6)
theorem Th.scan {t:Int} (h:(Pn.scan t).thin) (j:Nat) (u:Int):Th (.scan t) j j u u:=by
 refine⟨h,⟨Nat.le_refl _,Int.le_refl _,fun n _=>?_⟩,by simp[Pn.scan]⟩;rw[AQD];simp
theorem Th.one {k t:Int} {es:List Ex} {cs:List Int} {K:Pn} {j j1:Nat} {u u1:Int} (hth:(Pn.mk k t es cs [K]).thin) (h:Th K j j1 u u1):Th (.mk k t es cs [K]) j j1 u u1:=by
 refine⟨hth,⟨h.2.1.1,h.2.1.2.1,fun n hn=>?_⟩,by simp⟩;rw[AGS];exact h.2.1.2.2 n hn
theorem Th.skip {k t:Int} {es:List Ex} {cs:List Int} {K:Pn} {j j1 j2:Nat} {u u1 u2:Int} (hth:(Pn.mk k t es cs [K]).thin) (h:Th K j j1 u u1) (h2:j2≤j1) (h3:u2≤u1):Th (.mk k t es cs [K]) j j2 u u2:=by
 obtain⟨-,⟨g1,g2,g3⟩,-⟩:=h;refine⟨hth,⟨by omega,by omega,fun n hn=>?_⟩,by simp⟩;rw[AGS];refine xJ (g3 n hn) (Nat.mul_le_mul (Nat.pow_le_pow_right (by omega) (by omega)) (Nat.pow_le_pow_right hn (by omega)))
def BdV (P:Pn):Prop:=∀ (ws:List Int) (lv n:Nat),1≤n→P.wd ws lv≠0→P.bd n≤2*n ^ 2
def Rt (P:Pn):Prop:=P.thin∧(∀ n:Nat,1≤n→P.bd n≤2*n ^ 2)∧(P.exprs=[]→P.kids.length=2→P.kind=6)
theorem Rt.one {k t:Int} {es:List Ex} {cs:List Int} {P:Pn} (hth:(Pn.mk k t es cs [P]).thin) (h:Rt P):Rt (.mk k t es cs [P]):=⟨hth,fun n hn=>by rw[AGS];exact h.2.1 n hn,by simp⟩
theorem Rt.all {P:Pn} (h:Rt P):BdV P:=fun ws lv n hn _=>h.2.1 n hn
end Go.Av
namespace Go.Proofs.YtjdfjgmebalaaaaGreat.P
open Go Go.Av
set_option maxRecDepth 4000
set_option maxHeartbeats 8000000
def PSt (l:List UInt8) (ws:List Int) (k:Nat) (j u p:Int):StL:=[some (.box [.own 1 0, .osl 2 1 0 k, .int j, .int u]),Rd l p,some (.arr 1 (aF ws))]
structure PlH (l:List UInt8) (ws:List Int) (k d j c2:Nat) (p u t v W kk p1 u1:Int) (j1:Nat) (K:Pn):Prop where
 hd:d<100
 h1:p1+400+c2<300000000
 hp1:0≤p1
 hu0:0≤u1
 hu1:u1≤1
 hW0:0≤W
 hW6:W≤6
 hKB:Th K j j1 u u1
 ht:aI C0 127 [.own 0 0, .int k] [Rd l p]=some (.int t,[Rd l (p+1)])
 hv:aI C0 127 [.own 0 0, .int 6] [Rd l (p+1)]=some (.int v,[Rd l (p+1+1)])
 v0:¬ v=0
 hkid:aI CP 182 [.own 0 0, .int d] (PSt l ws k j u (p+1+1))=some (.i (.agg K.cells),PSt l ws k j1 u1 p1)
 hW:aI CP 104 [.i (.agg K.cells), .osl 0 1 0 k, .int 8] [some (.arr 1 (aF ws))]=some (.int W,[some (.arr 1 (aF ws))])
 hkk:aI C0 127 [.own 0 0, .int 10] [Rd l p1]=some (.int kk,[Rd l (p1+1)])
def bl (n:Nat):Nat:=if n=0 then 0 else 1
end Go.Proofs.YtjdfjgmebalaaaaGreat.P
namespace Go.Av
end Go.Av
namespace Go.Proofs.YtjdfjgmebalaaaaGreat.P
open Go Go.Av
set_option maxRecDepth 4000
set_option maxHeartbeats 4000000
def UH (ws:List Int) (p:Pn) (P:List (List Int)) (i:Nat):List Stp:=(P.take i).flatMap (atS ws p)
end Go.Proofs.YtjdfjgmebalaaaaGreat.P
namespace Go.Av
theorem AJA {ws:List Int} (h:lL ws=true):∀ w∈ws,0≤w∧w≤6:=by
 intro w hw;unfold lL at h;simp only[zT]at h;have:=zQ.1 h.2 w hw;unfold bN at this;simp at this;omega
end Go.Av
namespace Go.Proofs.YtjdfjgmebalaaaaGreat.P
open Go Go.Av
set_option maxRecDepth 4000
set_option maxHeartbeats 8000000
set_option maxHeartbeats 4000000
end Go.Proofs.YtjdfjgmebalaaaaGreat.P
namespace Go.Av
def AMD (r:Int):Bool:=decide (r≠2∧r≠5∧r≠6)
def NS0 (R:Rng) (cs:List AV):StL:=[some (.loop R cs .ready),some (.box [.int 0, .nils]),some (.box [.bool false])]
def NS1 (R:Rng) (cs:List AV) (s:Stp):StL:=some (.loop R cs (.over .ret))::some (.box [.int s.1,if s.2=[]then .nils else .osl 3 1 0 s.2.length])::some (.box [.bool true])::(if s.2=[]then []else [some (.frz 1 (aF s.2))])
end Go.Av
namespace Go.Proofs.YtjdfjgmebalaaaaGreat.P
open Go Go.Av
set_option maxRecDepth 4000
set_option maxHeartbeats 8000000
structure Yn (R:Rng) (cs:List AV):Prop where
 ids:cs=[.own 1 0, .own 2 0, .junk, .junk, .junk]
 n0:∀ r:Int,AMD r=false→aI C0 lW [.fn (.yield 0) [.own 0 0], .agg [.int r, .nils]] (NS0 R cs)=some (.bool true,NS0 R cs)
 n1:∀ (r:Int) (path:List Int),path≠[]→AMD r=false→aI C0 lW [.fn (.yield 0) [.own 0 0], .agg [.int r, .osl 3 1 0 path.length]] (NS0 R cs++[some (.arr 1 (aF path))])=some (.bool true,NS0 R cs++[some (.frz 1 (aF path))])
 y0:∀ r:Int,AMD r=true→aI C0 lW [.fn (.yield 0) [.own 0 0], .agg [.int r, .nils]] (NS0 R cs)=some (.bool false,NS1 R cs (r,[]))
 y1:∀ (r:Int) (path:List Int),path≠[]→AMD r=true→aI C0 lW [.fn (.yield 0) [.own 0 0], .agg [.int r, .osl 3 1 0 path.length]] (NS0 R cs++[some (.arr 1 (aF path))])=some (.bool false,NS1 R cs (r,path))
set_option maxHeartbeats 4000000
theorem WW {args:List AV} {st:StL} {q:AV×StL} (h:U2 args st=some q):∃ fn,Tryz.prog.funcs[26]?=some fn∧fn.name≠ "runtime.NumGoroutine"∧fn.body.isSome=true:=⟨Tryz.f26,Tryz.func26,by decide,rfl⟩
theorem U0 {args:List AV} {st st':StL} {r:AV} (h:U2 args st=some (r,st')):∀ (w:World) (m:Mem) (φ:Pl) (vs:List Value),Inv w m φ (aS st)→RepL m φ args vs→(∀ id,φ id≠none→id<st.length)→Calls Tryz.prog 26 vs.toArray w (bF w m φ r st'):=by
 intro w m φ vs hi hr h0;obtain⟨p,ws,k,path,rfl,rfl,hq⟩:=WV h
 cases ho:apO p ws k path with
 | none =>
  rw[ho]at hq;injection hq with h1 h2;subst h1;subst h2
  have hn:p.width ws=0∨apI ws k path p=none:=by
   unfold apO at ho;by_cases hw:p.width ws=0
   ·exact .inl hw
   ·rw[if_neg hw]at ho;exact .inr ho
  exact(aR bH).calls _ _ _ _ _ (by decide) (AC0 hn) w m φ vs hi hr h0
 | some q =>
  rw[ho]at hq;injection hq with h1 h2;subst h1;subst h2;unfold apO at ho;by_cases hw:p.width ws=0
  ·rw[if_pos hw]at ho;cases ho
  ·rw[if_neg hw]at ho
   obtain rfl:φ=fun _=>none:=by
    funext id
    cases h:φ id with
    | none=>rfl
    | some p=>exact absurd (h0 id (by rw[h];simp)) (xX _)
   exact ABZ hw ho hi hr
def AR0:FuncId→Bool
 | 78=>true
 | g=>AHG g
@[simp] theorem AXE (g:FuncId):AR0 g=if g=78 then true else AHG g:=by
  unfold AR0;split
  ·rfl
  ·rename_i h;rw[if_neg h]
noncomputable def AAH:FuncId→Option (List AV→StL→Option (AV×StL))
 | 40=>none
 | 16=>none
 | 42=>none
 | 39=>none
 | 12=>none
 | 41=>none
 | 26=>some U2
 | 78=>some (AOY (ABN C0 78))
 | 89=>some (aI CR 89)
 | g=>AAG g
noncomputable def CA:Ctx:={ P:=Tryz.prog,G:=GS,ownArgs:=AR0,keepRes:=AP3,eqT:=vV,prim:=AAH }
@[simp] theorem AnG:CA.P=Tryz.prog:=(rfl)
@[simp] theorem AnH (f):CA.G f=GS f:=(rfl)
@[simp] theorem AnD (f):CA.ownArgs f=AR0 f:=(rfl)
@[simp] theorem AnE (f):CA.keepRes f=(keepR f || decide (f=159)):=(rfl)
@[simp] theorem AnF (f):CA.eqT f=vV f:=(rfl)
@[simp] theorem AnC:CA.tree=false:=(rfl)
theorem ATR:PrimOk CA:=by
 constructor
 ·intro g args st p h;unfold bE at h
  cases hq:CA.prim g with
  | none=>rw[hq]at h;cases h
  | some q =>
   rw[hq]at h;have hq:AAH g=some q:=hq;unfold AAH at hq;split at hq
   all_goals first
    | (cases hq;done)
    | (injection hq with hq;subst hq;exact WW h)
    | (injection hq with hq;subst hq;exact(JQ (C:=CA) (fun args stl r stl' h=>A7 bH h) (r:=p.1) (stl':=p.2) h).1)
    | (injection hq with hq;subst hq;exact(aR AM1).name _ _ _ _ (by decide) h)
    | exact AEE.name g args st p (by unfold bE;rw[show CR.prim g=some q from hq];exact h)
 ·intro g args st r st' h w m φ vs hi hr hb;unfold bE at h
  cases hq:CA.prim g with
  | none=>rw[hq]at h;cases h
  | some q =>
   rw[hq]at h;have hq:AAH g=some q:=hq;unfold AAH at hq;split at hq
   all_goals first
    | (cases hq;done)
    | (injection hq with hq;subst hq;exact U0 h w m φ vs hi hr hb)
    | (injection hq with hq;subst hq;exact(JQ (C:=CA) (fun args stl r stl' h=>A7 bH h) h).2 w m φ vs hi hr hb)
    | (injection hq with hq;subst hq;exact(aR AM1).calls _ _ _ _ _ (by decide) h w m φ vs hi hr hb)
    | exact AEE.calls g args st r st' (by unfold bE;rw[show CR.prim g=some q from hq];exact h) w m φ vs hi hr hb
theorem ANU:SoundOk CA:=fQ (C:=CA) ft nt eqS mo ATR
@[simp] theorem AKO (a:List AV) (st:StL):aI CA 34 a st=aI C0 34 a st:=by rw[bA (p:=aI C0 34) rfl]
theorem BD (p:Pn) (hp:p.thin) (ws:List Int) (hl:ws.length<1000000000) (r:Int) (path:List Int) (hpl:path.length<1000000000):aI C0 34 [.i (.agg p.cells), .i (.isl (aF ws)), .i (.agg [.int r, .isl (aF path)])] []=some (apR (apO p ws r path)):=by
 have c1:=M6 p (Pn.O7 p hp) ws (by omega);rw[aD rfl Tryz.func34 rfl rfl];unfold apO;by_cases h0:p.width ws=0
 ·simp only[Pn.aA p]at c1 ⊢;simp[c1,h0,apR,Pn.zero,Pn.cells,Ex.aB,aF,Pn.aB]
 ·obtain⟨hw,hp8,hv⟩:=mW h0;by_cases h8:path.length≤8
  ·have c2:=TZ hw hp8 r (path:=path) (by omega);rw[← AQI (AJA hw) hp8]at c2;have n8:¬ (8:Int)<path.length:=by omega
   cases hq:apI ws r path p with
   | none =>
    rw[hq]at c2;simp only[Pn.aA p]at c1 c2 ⊢;simp[BV,Pn.zero,Pn.cells,Ex.aB,aF,Pn.aB]at c2;simp[c1,h0,c2,n8,apR,Pn.zero,Pn.cells,Ex.aB,aF,Pn.aB]
   | some q =>
    rw[hq]at c2;simp only[Pn.aA p,Pn.aA q,BV,yC]at c1 c2 ⊢;simp at c2;simp[c1,h0,c2,n8,apR,Pn.aA q]
  ·have n8:(8:Int)<path.length:=by omega
   have hq:apI ws r path p=none:=by unfold apI;rw[if_neg h8]
   simp only[Pn.aA p]at c1 ⊢;simp[c1,h0,n8,hq,apR,Pn.zero,Pn.cells,Ex.aB,aF,Pn.aB]
end Go.Proofs.YtjdfjgmebalaaaaGreat.P
namespace Go.Av
theorem DR {ws:List Int} {lv:Nat} {p:Pn} (h:Shape ws lv p):(p.kind=2→∃ e a,p=filt e a)∧(p.kind=3→∃ es a,p=proj es a)∧(∀ k,k=4∨k=5→p.kind=k→∃ e a b,p=bB k e a b)∧(p.kind=6→∃ a b,p=dA a b)∧(p.kind=7→∃ a,p=.mk 7 0 [] [] [a]):=by
 cases h with
 | scan t=>exact⟨fun h=>by simp[Pn.scan,Pn.kind]at h,fun h=>by simp[Pn.scan,Pn.kind]at h,fun k h1 h=>by simp[Pn.scan,Pn.kind]at h;omega,fun h=>by simp[Pn.scan,Pn.kind]at h,fun h=>by simp[Pn.scan,Pn.kind]at h⟩
 | filt m e a=>exact⟨fun _=>⟨e,a,rfl⟩,fun h=>by simp[filt,Pn.kind]at h,fun k h1 h=>by simp[filt,Pn.kind]at h;omega,fun h=>by simp[filt,Pn.kind]at h,fun h=>by simp[filt,Pn.kind]at h⟩
 | proj m es a=>exact⟨fun h=>by simp[proj,Pn.kind]at h,fun _=>⟨es,a,rfl⟩,fun k h1 h=>by simp[proj,Pn.kind]at h;omega,fun h=>by simp[proj,Pn.kind]at h,fun h=>by simp[proj,Pn.kind]at h⟩
 | pair m k e a b hm hk=>exact⟨fun h=>by simp[bB,Pn.kind]at h;omega,fun h=>by simp[bB,Pn.kind]at h;omega,fun k' h1 h=>⟨e,a,b,by simp[bB,Pn.kind]at h;rw[h]⟩,fun h=>by simp[bB,Pn.kind]at h;omega,fun h=>by simp[bB,Pn.kind]at h;omega⟩
 | union m a b=>exact⟨fun h=>by simp[dA,Pn.kind]at h,fun h=>by simp[dA,Pn.kind]at h,fun k h1 h=>by simp[dA,Pn.kind]at h;omega,fun _=>⟨a,b,rfl⟩,fun h=>by simp[dA,Pn.kind]at h⟩
 | dist m a=>exact⟨fun h=>by simp[Pn.kind]at h,fun h=>by simp[Pn.kind]at h,fun k h1 h=>by simp[Pn.kind]at h;omega,fun h=>by simp[Pn.kind]at h,fun _=>⟨a,rfl⟩⟩
 | group m cs a=>exact⟨fun h=>by simp[Pn.kind]at h,fun h=>by simp[Pn.kind]at h,fun k h1 h=>by simp[Pn.kind]at h;omega,fun h=>by simp[Pn.kind]at h,fun h=>by simp[Pn.kind]at h⟩
@[simp] theorem ADS (t:Int) (e:Ex) (a:Pn):scP t (filt e a)=scP t a:=by simp[filt,scP,AHE,Pn.hit,Pn.kind]
@[simp] theorem OA (t:Int) (es:List Ex) (a:Pn):scP t (proj es a)=scP t a:=by simp[proj,scP,AHE,Pn.hit,Pn.kind]
theorem oJ (t k:Int) (hk:k=4∨k=5) (e:Ex) (a b:Pn):scP t (bB k e a b)=(scP t a || scP t b):=by
 have:k≠1:=by omega
 simp[bB,scP,AHE,Pn.hit,Pn.kind,this]
@[simp] theorem AVS (t:Int) (a b:Pn):scP t (dA a b)=(scP t a || scP t b):=by simp[dA,scP,AHE,Pn.hit,Pn.kind]
@[simp] theorem ANZ (t:Int) (a:Pn):scP t (.mk 7 0 [] [] [a])=scP t a:=by simp[scP,AHE,Pn.hit,Pn.kind]
theorem AT3 {ws:List Int} {r:Int} {e:Ex} {k q:Pn} {m:Nat} (hk:k.wd ws m≠0) (h:rwF ws r e k=some q) (t:Int):scP t q=scP t k:=by
 obtain⟨s2,s3,s45,s6,s7⟩:=DR (qD hk);unfold rwF at h;split at h
 ·rename_i hc;obtain⟨e2,a,rfl⟩:=s2 hc.2;injection h with h;subst h;simp[filt,Pn.iZ,Pn.kids];simp[scP,AHE,Pn.hit,Pn.kind]
 split at h
 ·injection h with h;subst h;simp
 split at h
 ·rename_i hc;obtain⟨e2,a,b,hk2⟩:=s45 _ hc.2.1 rfl;have hkd:=hc.2.1;generalize k.kind=kd at *
  subst hk2;injection h with h;subst h;rw[oJ t kd hkd,oJ t kd hkd];simp[bB,Pn.iZ,Pn.pM,Pn.kids]
 split at h
 ·rename_i hc;obtain⟨e2,a,b,rfl⟩:=s45 4 (.inl rfl) hc.2.1;injection h with h;subst h;rw[oJ t 4 (.inl rfl),oJ t 4 (.inl rfl)];simp[bB,Pn.iZ,Pn.pM,Pn.kids]
 split at h
 ·rename_i hc;obtain⟨e2,a,b,rfl⟩:=s45 4 (.inl rfl) hc.2;injection h with h;subst h;rw[oJ t 4 (.inl rfl),oJ t 4 (.inl rfl)];simp[bB,Pn.iZ,Pn.pM,Pn.kids]
 split at h
 ·rename_i hc;obtain⟨e2,a,b,rfl⟩:=s45 5 (.inr rfl) hc.2.1;injection h with h;subst h;rw[ADS,oJ t 4 (.inl rfl),oJ t 5 (.inr rfl)];simp[bB,Pn.iZ,Pn.pM,Pn.kids]
 split at h
 ·rename_i hc;obtain⟨a,b,rfl⟩:=s6 hc.2;injection h with h;subst h;simp;simp[dA,Pn.iZ,Pn.pM,Pn.kids]
 split at h
 ·rename_i hc;obtain⟨es,a,rfl⟩:=s3 hc.2;injection h with h;subst h;simp;simp[proj,Pn.iZ,Pn.kids]
 ·cases h
theorem AT2 {ws:List Int} {r:Int} {p q:Pn} {m:Nat} (hp:p.wd ws m≠0) (h:rwP ws r p=some q) (t:Int):scP t q=scP t p:=by
 have hs:=qD hp;obtain⟨s2,s3,s45,s6,s7⟩:=DR hs;unfold rwP at h;split at h
 ·rename_i hc;obtain⟨e,k,rfl⟩:=s2 hc;rw[ADS]
  cases hs with
  | filt m' _ _ _ hk _=>exact AT3 hk h t
 split at h
 ·rename_i hc;obtain⟨e,a,b,rfl⟩:=s45 4 (.inl rfl) hc.2;injection h with h;subst h;rw[OA,oJ t 4 (.inl rfl),oJ t 4 (.inl rfl),Bool.or_comm];simp[bB,Pn.iZ,Pn.pM,Pn.kids]
 split at h
 ·rename_i hc;obtain⟨a,rfl⟩:=s7 hc.2.1;injection h with h;subst h;rw[ANZ];rfl
 split at h
 ·rename_i hc;obtain⟨es,a,rfl⟩:=s3 hc.2.1;injection h with h;subst h;rw[OA,OA]
  cases hs with
  | proj m' _ _ _ ha _ _ =>
   obtain⟨es2,b,rfl⟩:=(DR (qD ha)).2.1 hc.2.2;rw[OA];rfl
 ·cases h
theorem XF (t:Int):∀ l:List Pn,AHE t l=l.any (scP t)
 | []=>rfl
 | p::l=>by simp[AHE,XF t l]
theorem AGZ {α:Type} (f:α→Bool):∀ (l:List α) (i:Nat) (a b:α),l[i]?=some a→f b=f a→(l.set i b).any f=l.any f
 | [],i,a,b,h,_=>by simp at h
 | x::l,0,a,b,h,hf=>by simp at h;subst h;simp[hf]
 | x::l,i+1,a,b,h,hf=>by simp[AGZ f l i a b (by simpa using h) hf]
theorem AM4 {t:Int} {q:Pn}:∀ (path:List Int) (p a:Pn),Pn.at path p=some a→scP t q=scP t a→scP t (Pn.put path p q)=scP t p
 | [],p,a,h,hq=>by simp only[Pn.at,Option.some.injEq]at h;subst h;simpa [Pn.put]using hq
 | i::r,p,a,h,hq=>by
  obtain⟨n,rfl,b,hb,hr⟩:=Pn.rT h;have:=AM4 r b a hr hq;obtain⟨k,tb,es,cs,ks⟩:=p;have hb:ks[n]?=some b:=hb;have e:Pn.put ((n:Int)::r) (Pn.mk k tb es cs ks) q=.mk k tb es cs (ks.set n (Pn.put r b q)):=by simp[Pn.put,Pn.kind,Pn.table,Pn.exprs,Pn.cols,Pn.kids,hb]
  rw[e];simp only[scP,XF,AGZ (scP t) _ _ _ _ hb this];rfl
theorem AV8 {p q:Pn} {ws:List Int} {r:Int} {path:List Int} (h:apO p ws r path=some q) (t:Int):scP t q=scP t p:=by
 unfold apO at h;split at h
 ·cases h
 rename_i h0;obtain⟨hw,hp8⟩:=sK h0;unfold apI at h;split at h
 ·rename_i hl
  cases ha:Pn.at path p with
  | none=>simp[ha]at h
  | some a =>
   obtain⟨-,hv⟩:=LZ path p 8 a hp8 ha;simp only[ha,yP,rwL]at h
   cases hr:rwP ws r a with
   | none=>simp[hr]at h
   | some x =>
    simp only[hr,yP]at h;by_cases hx:x.wd ws (8-path.length)=0
    ·simp[hx]at h
    ·simp[hx]at h;subst h;exact AM4 path p a ha (AT2 hv hr t)
 ·cases h
def aps (ws:List Int):List (Int×List Int)→Pn→Option Pn
 | [],p=>some p
 | s::l,p=>(apO p ws s.1 s.2).bind (aps ws l)
theorem NV (ws:List Int):∀ (a b:List (Int×List Int)) (p:Pn),aps ws (a++b) p=(aps ws a p).bind (aps ws b)
 | [],b,p=>rfl
 | s::a,b,p=>by
  simp only[yR,aps]
  cases apO p ws s.1 s.2 with
  | none=>rfl
  | some q=>exact NV ws a b q
theorem CS (ws:List Int) (l:List (Int×List Int)) (s:Int×List Int) (p:Pn):aps ws (l++[s]) p=(aps ws l p).bind fun x=>apO x ws s.1 s.2:=by
 rw[NV];congr 1;funext x;simp only[aps]
 cases apO x ws s.1 s.2<;>rfl
theorem Z6 (ws:List Int) (p:Pn) (l:List (Int×List Int)):∃ j x,j≤l.length∧(∀ i,i≤j→∃ y,aps ws (l.take i) p=some y)∧aps ws (l.take j) p=some x∧((j=l.length∧aps ws l p=some x)∨∃ s,l[j]?=some s∧apO x ws s.1 s.2=none∧aps ws l p=none):=by
 generalize hn:l.length=n
 induction n generalizing l with
 | zero =>
  obtain rfl:=zW.1 hn;exact⟨0,p,by omega,fun i hi=>⟨p,by simp[aps]⟩,rfl, .inl ⟨rfl,rfl⟩⟩
 | succ n ih =>
  obtain⟨m,s,rfl⟩:∃ m s,l=m++[s]:=by
   rcases zA2 l with h|⟨m,s,h⟩
   ·rw[h]at hn;simp at hn
   ·exact⟨m,s,by simpa using h⟩
  have hm:m.length=n:=by simpa using hn
  obtain⟨j,x,h1,h2,h3,h4⟩:=ih m hm;have tk:∀ i,i≤j→(m++[s]).take i=m.take i:=fun i hi=>xQ (by omega)
  rcases h4 with ⟨hjm,h4⟩|⟨u,q1,q2,q3⟩
  ·cases hx:apO x ws s.1 s.2 with
   | none =>
    refine⟨j,x,by omega,fun i hi=>by rw[tk i (by omega)];exact h2 i (by omega),by rw[tk _ (by omega)];exact h3, .inr ⟨s,by rw[zK (by omega),show j-m.length=0 by omega];rfl,hx,?_⟩⟩;rw[CS,h4];exact hx
   | some y =>
    have he:aps ws (m++[s]) p=some y:=by rw[CS,h4];exact hx
    have ht:(m++[s]).take (n+1)=m++[s]:=zY (by simp;omega);refine⟨n+1,y,by omega,fun i hi=>?_,by rw[ht];exact he, .inl ⟨by omega,he⟩⟩;by_cases hi2:i≤m.length
    ·rw[tk i (by omega)];exact h2 i (by omega)
    ·obtain rfl:i=n+1:=by omega
     exact⟨y,by rw[ht];exact he⟩
  ·have hj:=(zZ.1 q1).1;refine⟨j,x,by omega,fun i hi=>by rw[tk i hi];exact h2 i hi,by rw[tk j (by omega)];exact h3, .inr ⟨u,by rw[zM hj];exact q1,q2,?_⟩⟩;rw[CS,q3];rfl
theorem CO {ws:List Int}:∀ (l:List (Int×List Int)) (p q:Pn),aps ws l p=some q→q.width ws=p.width ws∧(∀ t,scP t q=scP t p)∧(p.width ws≠0→q.wd ws 8≠0)
 | [],p,q,h=>by
  simp only[aps,Option.some.injEq]at h;subst h;exact⟨rfl,fun _=>rfl,fun h=>(sK h).2⟩
 | s::l,p,q,h=>by
  simp only[aps]at h
  cases hx:apO p ws s.1 s.2 with
  | none=>rw[hx]at h;cases h
  | some x =>
   rw[hx]at h;obtain⟨h1,h2,h3⟩:=CO l x q h
   have hw:x.width ws=p.width ws:=by
    have hx':=hx;unfold apO at hx';split at hx'
    ·cases hx'
    ·rename_i h0;obtain⟨hw,hp8⟩:=sK h0
     have hr:∀ w∈ws,0≤w∧w≤6:=fun w hm=>by
      unfold lL at hw;simp only[zT]at hw;have:=zQ.1 hw.2 w hm;unfold bN at this;simp at this;omega
     rw[AQI hr hp8]at hx';have:=AV7 hr hp8 hx';unfold Pn.width;rw[if_pos hw,if_pos hw];exact this
   exact⟨h1.trans hw,fun t=>(h2 t).trans (AV8 hx t),fun h=>h3 (by rw[hw];exact h)⟩
def sI (p:Pn) (ws:List Int) (l:List (Int×List Int)):Option Pn:=if p.width ws=0∨40<l.length then none else aps ws l p
def jkL (i:Nat) (l:StL):StL:=if i=0 then []else l
@[simp] theorem Af4 (l:StL):jkL 0 l=[]:=(rfl)
@[simp] theorem AWD (i:Nat) (l:StL):jkL (i+1) l=l:=(rfl)
theorem EC {i:Nat} (h:i≠0) (l:StL):jkL i l=l:=by unfold jkL;rw[if_neg h]
def jA (i:Nat) (v:AV):AV:=if i=0 then .junk else v
@[simp] theorem AkR (v:AV):jA 0 v=.junk:=(rfl)
@[simp] theorem AXU (i:Nat) (v:AV):jA (i+1) v=v:=(rfl)
theorem N9 {i:Nat} (h:i≠0) (v:AV):jA i v=v:=by unfold jA;rw[if_neg h]
theorem X5 {ws:List Int} {p:Pn} (h:p.wd ws 8≠0):p.tiny∧p.size<512:=by
 have:=Pn.vM p 8 h;exact⟨this.1,by omega⟩
end Go.Av
namespace Go.Proofs.YtjdfjgmebalaaaaGreat.P
open Go Go.Av
set_option maxRecDepth 4000
set_option maxHeartbeats 1000000
@[simp] theorem ARJ (a:List AV) (st:StL):aI CA 71 a st=aI C0 71 a st:=by rw[bA (p:=aI C0 71) rfl]
theorem WP {p:Pn} (hp:p.thin):aI CA 62 [.i (.agg p.cells)] []=some (.i (.agg p.cells),[]):=by
 have:=WC p hp;rw[bA (p:=APV (aI C0) 62) rfl]at this ⊢;exact this
def zpB:Option Blk:=some (.box [.int 0, .int 0, .nils, .nils, .nils])
def stB (s:Int×List Int):Option Blk:=some (.box [.i (.int s.1), .i (.isl (aF s.2))])
def AVF (p:Pn) (ws:List Int) (l:List Stp) (i:Nat):AS :=
 { env:=[(0, .i (.agg p.cells)),(1, .i (.isl (aF ws))),(2, .i (.isl (gH l))),(3, .own 0 0),(6, .own 1 0),(7, .bool false),(8, .own 2 0),(9, .int i),(10,jA i (.own 3 0)),(11,jk i (.bool true)),(20, .bool false),(27,jk i (.bool true)),(41,jk i (.bool false))],
   st:=[ACI p,zpB,ACI ((aps ws (l.take i) p).getD Pn.zero)]++jkL i [ACI ((aps ws (l.take i) p).getD Pn.zero)] }
theorem LK (p:Pn) (hp:p.thin) (ws:List Int) (hl:ws.length<1000000000) (l:List Stp) (hpl:∀ s∈l,s.2.length<1000000000):aI CA 39 [.i (.agg p.cells), .i (.isl (aF ws)), .i (.isl (gH l))] []=some (apR (sI p ws l)):=by
 have c1:=M6 p (Pn.O7 p hp) ws (by omega);rw[aD rfl Tryz.func39 rfl rfl];by_cases h0:p.width ws=0
 ·have hn:sI p ws l=none:=by simp[sI,h0]
  rw[Pn.aA p]at c1 ⊢;simp[c1,h0,hn,apR,Pn.zero,Pn.cells,Ex.aB,aF,Pn.aB]
 obtain⟨hw,hp8⟩:=sK h0;by_cases h4:(40:Int)<l.length
 ·have hn:sI p ws l=none:=by
   unfold sI;rw[if_pos (.inr (by omega))]
  rw[Pn.aA p]at c1 ⊢;simp[c1,h0,h4,hn,apR,Pn.zero,Pn.cells,Ex.aB,aF,Pn.aB]
 have c2:=WP hp;obtain⟨j,x,hj,h1,h2,h3⟩:=Z6 ws p l;have hne:sI p ws l=aps ws l p:=by unfold sI;rw[if_neg (by omega)]
 have hth:∀ i y,aps ws (l.take i) p=some y→y.thin:=fun i y h=>dH y 8 ((CO _ _ _ h).2.2 h0)
 rw[hne];rw[Pn.aA p]at c1 c2;rw[Pn.aA p];simp[c1,h0,h4,c2];rw[aV (AVF p ws l) j (by simp[AVF,zpB,ACI,aps,Pn.aA p])]
 ·rw[aH]
  rcases h3 with ⟨rfl,h3⟩|⟨s,q1,q2,q3⟩
  ·rw[h3];simp only[AVF,h2,yC,zpB,ACI];by_cases hi0:l.length=0
   ·simp[hi0,apR,Pn.aA p,Pn.aA x]
   ·simp[hi0,dG hi0,EC hi0,N9 hi0,apR,Pn.aA p,Pn.aA x]
  ·have hjl:=(zZ.1 q1).1;have r1:=nG q1;have e5:=BD x (hth j x h2) ws (by omega) s.1 s.2 (hpl s (zU q1));rw[q2]at e5;rw[q3];simp only[rY]at r1;simp only[AVF,h2,yC,zpB,ACI];rw[Pn.aA x]at e5;simp[apR,Pn.zero,Pn.cells,Ex.aB,aF,Pn.aB]at e5;by_cases hi0:j=0
   ·subst hi0;simp[hjl,r1,e5,apR,Pn.aA p,Pn.aA x,Pn.zero,Pn.cells,Ex.aB,aF,Pn.aB]
   ·simp[hi0,dG hi0,EC hi0,N9 hi0,hjl,r1,e5,apR,Pn.aA p,Pn.aA x,Pn.zero,Pn.cells,Ex.aB,aF,Pn.aB]
 ·intro i hi;obtain⟨y,hy⟩:=h1 i (by omega);obtain⟨y',hy'⟩:=h1 (i+1) (by omega);have hil:i<l.length:=by omega
  have q1:=zX hil;generalize l[i]=s at q1;have r1:=nG q1;simp only[rY]at r1
  have hs:apO y ws s.1 s.2=some y':=by
   rw[zC6,q1]at hy';simp only[Option.toList_some]at hy';rw[CS,hy]at hy';exact hy'
  have e5:=BD y (hth i y hy) ws (by omega) s.1 s.2 (hpl s (zU q1));rw[hs]at e5;have w2:IntKind.i64.wrap ((i:Int)+1)=i+1:=wrO;simp only[AVF,hy,hy',yC,zpB,ACI];rw[Pn.aA y]at e5;simp[apR,Pn.aA y']at e5;by_cases hi0:i=0
  ·subst hi0;simp[hil,r1,e5,w2,Pn.aA p]
  ·simp[hi0,dG hi0,EC hi0,N9 hi0,hil,r1,e5,w2,Pn.aA p]
end Go.Proofs.YtjdfjgmebalaaaaGreat.P
namespace Go.Av
end Go.Av
namespace Go.Proofs.YtjdfjgmebalaaaaGreat.P
open Go Go.Av Go.Av.Mk
set_option maxRecDepth 4000
set_option maxHeartbeats 8000000
noncomputable def AOH:FuncId→Option (List AV→StL→Option (AV×StL))
 | 40=>none
 | 59=>some (aI C4 59)
 | 26=>some (qW (aI C5) 26)
 | g=>if g=lW then none else some (aI C0 g)
def AP5:FuncId→Bool
 | 40=>true
 | g=>keepR g
def AVW:FuncId→Bool
 | 26=>true
 | g=>dB g
@[simp] theorem AXG (g:FuncId):AVW g=if g=26 then true else dB g:=by
  unfold AVW;split
  ·rfl
  ·rename_i h;rw[if_neg h]
noncomputable def C6:Ctx:={ P:=Tryz.prog,G:=GS,ownArgs:=AVW,keepRes:=AP5,eqT:=vV,prim:=AOH,tree:=true }
@[simp] theorem AnY:C6.P=Tryz.prog:=(rfl)
@[simp] theorem AnZ (f):C6.G f=GS f:=(rfl)
@[simp] theorem AnV (f):C6.ownArgs f=AVW f:=(rfl)
@[simp] theorem AnW (f):C6.keepRes f=AP5 f:=(rfl)
@[simp] theorem AnX (f):C6.eqT f=vV f:=(rfl)
@[simp] theorem AnU:C6.tree=true:=(rfl)
@[simp] theorem k61:AP5 40=true:=(rfl)
theorem ATU:PrimOk C6:=by
 have h0:=aR bH;have h4:=aR AM3;have h5:=aR ADQ
 have key:∀ g q,C6.prim g=some q→(g=59∧q=aI C4 g)∨(g=26∧q=qW (aI C5) g)∨(g≠lW∧q=aI C0 g):=by
  intro g q h;have h:AOH g=some q:=h;unfold AOH at h;split at h
  all_goals first
   | (cases h;done)
   | (injection h with h;subst h;simp;done)
   | (split at h
      ·cases h
      ·rename_i hy;injection h with h;exact .inr (.inr ⟨hy,h.symm⟩))
 constructor
 ·intro g args st p h;unfold bE at h
  cases hq:C6.prim g with
  | none=>rw[hq]at h;cases h
  | some q =>
   rw[hq]at h
   rcases key g q hq with ⟨rfl,rfl⟩|⟨rfl,rfl⟩|⟨hy,rfl⟩
   ·exact h4.name _ args st p (by decide) h
   ·exact(bT h5 (r:=p.1) (stl':=p.2) h).1
   ·exact h0.name g args st p hy h
 ·intro g args st r st' h w m φ vs hi hr hb;unfold bE at h
  cases hq:C6.prim g with
  | none=>rw[hq]at h;cases h
  | some q =>
   rw[hq]at h
   rcases key g q hq with ⟨rfl,rfl⟩|⟨rfl,rfl⟩|⟨hy,rfl⟩
   ·exact h4.calls _ args st r st' (by decide) h w m φ vs hi hr hb
   ·exact(bT h5 h).2 w m φ vs hi hr hb
   ·exact h0.calls g args st r st' hy h w m φ vs hi hr hb
theorem ANT:SoundOk C6:=fQ (C:=C6) ft nt eqS mo ATU
@[simp] theorem AWN (a:List AV) (st:StL):aI C6 68 a st=aI C0 68 a st:=bA (C:=C6) rfl a st
theorem AGE {p:Pn} (h:p.small):aI C6 59 [.i (.iref p.cells)] []=some (rqA p 0,rqB p):=by
 rw[bA (C:=C6) (p:=aI C4 59) rfl];exact AGF h
theorem YY (q:Pn) (ws:List Int) (r:Int) (path:List Int):aI C6 26 [rqA q 0, .i (.isl (aF ws)), .i (.agg [.int r, .isl (aF path)])] (rqB q)=some (.tup [rqA (BV (apO q ws r path)) (rqB q).length, .bool (apO q ws r path).isSome],rqB q++rqB (BV (apO q ws r path))):=by
 rw[bA (C:=C6) (p:=qW (aI C5) 26) rfl];exact AP2 (AKP q ws r path)
def KE:Code→Option Code
 | .loop b=>some b
 | .seq a b=>match KE a with
  | some x=>some x
  | none=>KE b
 | .block _ c=>KE c
 | _=>none
def AST (p:Pn) (ws:List Int) (l:List Stp) (q:Pn) (i:Nat):AS :=
 { env:=[(0, .i (.agg [.int p.kind, .int p.table, .isl (Ex.aB p.exprs), .isl (aF p.cols), .isl (Pn.aB p.kids)])),(1, .i (.isl (aF ws))),(2, .i (.isl (gH l))),(3, .own 0 0),(6, .own 1 0),(7, .bool false),(8, .own 2 0),(10,jA i (.own (3+(rqB q).length) 0)),(11,jA i (.own (4+(rqB q).length) 0)),(12,jk i (.bool true)),(21, .bool false),(24, .i (.isl (gH l))),(25, .int l.length),(26, .int i),(27,jk i (.bool true)),(38,jk i (.bool false))],
   st:=some (.fbox [.int p.kind, .int p.table, .isl (Ex.aB p.exprs), .isl (aF p.cols), .isl (Pn.aB p.kids)])::zpB::some (.box (rqL q 3))::(rqB q++jkL i [stB ((l[i-1]?).getD (0,[])),some (.box (rqL q 3))]) }
theorem AGX {p:Pn} {ws:List Int} {l:List Stp} {B:Code} (hB:(Tryz.f40.body.bind KE)=some B) {i:Nat} {y y':Pn} {s:Stp} (hl:l.length<1000) (q1:l[i]?=some s) (hy:Shp y) (hy':Shp y') (hs:apO y ws s.1 s.2=some y'):dY C6 (GS 40) 0 B (AST p ws l y i)=some (.normal,AST p ws l y' (i+1)):=by
 obtain rfl:=Option.some.inj (show some _=some B from hB);obtain⟨hil,hsi⟩:=zZ.1 q1;have q2:l[i+1-1]?=some s:=by simpa using q1
 have r1:=nG q1;simp only[rY]at r1;have e5:=YY y ws s.1 s.2;rw[hs]at e5;simp only[BV,yC,Option.isSome_some]at e5;have w2:IntKind.i64.wrap ((i:Int)+1)=i+1:=wrO;by_cases hi0:i=0
 ·subst hi0
  rcases hy with ⟨a1,a2,a3⟩|⟨a1,a2,a3⟩|⟨a1,a2,a3⟩|⟨a1,a2,a3⟩<;>rcases hy' with ⟨b1,b2,b3⟩|⟨b1,b2,b3⟩|⟨b1,b2,b3⟩|⟨b1,b2,b3⟩ <;>
   (simp only[rqA,rqB,a1,a2,a3,b1,b2,b3,if_true,if_false,yL,yY,yR,zP,yN]at e5
    try simp at e5
    simp[AST,zpB,stB,q2,hsi,rqL,rqB,a1,a2,a3,b1,b2,b3,hil,r1,e5,w2,dK])
 ·rcases hy with ⟨a1,a2,a3⟩|⟨a1,a2,a3⟩|⟨a1,a2,a3⟩|⟨a1,a2,a3⟩<;>rcases hy' with ⟨b1,b2,b3⟩|⟨b1,b2,b3⟩|⟨b1,b2,b3⟩|⟨b1,b2,b3⟩ <;>
   (simp only[rqA,rqB,a1,a2,a3,b1,b2,b3,if_true,if_false,yL,yY,yR,zP,yN]at e5
    try simp at e5
    simp[AST,zpB,stB,q2,hsi,rqL,rqB,a1,a2,a3,b1,b2,b3,hi0,dG hi0,EC hi0,N9 hi0,hil,r1,e5,w2])
theorem M0 (p:Pn) (ws:List Int) (l:List Stp):aI C6 40 [.i (.agg p.cells), .i (.isl (aF ws)), .i (.isl (gH l))] []=some (ACJ (sI p ws l)):=by
 have c1:=jP p ws;have ea:=fun q r path=>YY q ws r path
 rw[aD rfl Tryz.func40 rfl rfl];by_cases h0:p.width ws=0
 ·have hn:sI p ws l=none:=by simp[sI,h0]
  rw[Pn.aA p]at c1 ⊢;simp[c1,h0,hn,ACJ,rqA,rqB,Pn.zero]
 obtain⟨hw,hp8⟩:=sK h0;by_cases h4:(40:Int)<l.length
 ·have hn:sI p ws l=none:=by
   unfold sI;rw[if_pos (.inr (by omega))]
  rw[Pn.aA p]at c1 ⊢;simp[c1,h0,h4,hn,ACJ,rqA,rqB,Pn.zero]
 obtain⟨p',hp'⟩:∃ x,x=p:=⟨p,rfl⟩
 have c2:aI C6 59 [.i (.iref p.cells)] []=some (rqA p' 0,rqB p'):=by
  rw[hp'];exact AGE ⟨by have:=(X5 hp8).2;omega,dH p 8 hp8,(X5 hp8).1⟩
 obtain⟨j,x,hj,h1,h2,h3⟩:=Z6 ws p l;have hne:sI p ws l=aps ws l p:=by unfold sI;rw[if_neg (by omega)]
 have hshp:∀ i y,aps ws (l.take i) p=some y→Shp y:=fun i y h=>ALD ((CO _ _ _ h).2.2 h0)
 have hx:=hshp j x h2
 have hrounds:∀ B,(Tryz.f40.body.bind KE)=some B→∀ i,i<j→dY C6 [0,1,2,3,6,7,8,10,11,12,21,24,25,26,27,38] 0 B (AST p ws l ((aps ws (l.take i) p).getD Pn.zero) i)=some (.normal,AST p ws l ((aps ws (l.take (i+1)) p).getD Pn.zero) (i+1)):=by
  intro B hB i hi;obtain⟨y,hy⟩:=h1 i (by omega);obtain⟨y',hy'⟩:=h1 (i+1) (by omega);have hil:i<l.length:=by omega
  have q1:=zX hil;generalize l[i]=s at q1
  have hs:apO y ws s.1 s.2=some y':=by
   have hy2:=hy';rw[zC6,q1]at hy2;simp only[Option.toList_some]at hy2;rw[CS,hy]at hy2;exact hy2
  rw[hy,hy'];exact AGX hB (by omega) q1 (hshp i y hy) (hshp (i+1) y' hy') hs
 have hbad:∀ s,l[j]?=some s→apO x ws s.1 s.2=none→aI C6 26 [rqA x 0, .i (.isl (aF ws)), .i (.agg [.int s.1, .isl (aF s.2)])] (rqB x)=some (.tup [rqA Pn.zero (rqB x).length, .bool false],rqB x++rqB Pn.zero):=by
  intro s _ hs;have e5:=ea x s.1 s.2;rw[hs]at e5;exact e5
 clear ea;rw[hne];rw[Pn.aA p]at c1 c2;rw[Pn.aA p];have hp:=ALD hp8;rw[← hp']at hp
 rcases hp with ⟨a1,a2,a3⟩|⟨a1,a2,a3⟩|⟨a1,a2,a3⟩|⟨a1,a2,a3⟩
 all_goals
  simp only[rqA,rqB,a1,a2,a3,if_true,if_false,yL,yY,yR]at c2
  try simp at c2
  simp[c1,h0,h4,c2];rw[aV (fun i=>AST p ws l ((aps ws (l.take i) p).getD Pn.zero) i) j (by simp[AST,zpB,aps,← hp',rqL,rqB,a1,a2,a3]) (hrounds _ rfl)];rw[aH];simp only[h2,yC];clear hrounds
  rcases h3 with ⟨rfl,h3⟩|⟨s,q1,q2,q3⟩
  ·rw[h3];clear hbad
   rcases hx with ⟨b1,b2,b3⟩|⟨b1,b2,b3⟩|⟨b1,b2,b3⟩|⟨b1,b2,b3⟩
   all_goals
    by_cases hi0:l.length=0
    ·simp[AST,zpB,stB,hi0,ACJ,rqA,rqL,rqB,b1,b2,b3]
    ·simp[AST,zpB,stB,hi0,dG hi0,EC hi0,N9 hi0,ACJ,rqA,rqL,rqB,b1,b2,b3]
  ·have hjl:=(zZ.1 q1).1;have r1:=nG q1;have e5:=hbad s q1 q2;rw[q3];simp only[rY]at r1
   rcases hx with ⟨b1,b2,b3⟩|⟨b1,b2,b3⟩|⟨b1,b2,b3⟩|⟨b1,b2,b3⟩
   all_goals
    simp only[rqA,rqB,Pn.zero,Pn.dX,Pn.gU,Pn.bV,Pn.dZ,Pn.fV,b1,b2,b3,if_true,if_false,yL,yY,yR,zP,yN]at e5
    try simp at e5
    by_cases hi0:j=0
    ·subst hi0;simp[AST,zpB,stB,hjl,r1,e5,ACJ,rqA,rqL,rqB,b1,b2,b3,Pn.zero]
    ·simp[AST,zpB,stB,hi0,dG hi0,EC hi0,N9 hi0,hjl,r1,e5,ACJ,rqA,rqL,rqB,b1,b2,b3,Pn.zero]
end Go.Proofs.YtjdfjgmebalaaaaGreat.P
namespace Go.Proofs.YtjdfjgmebalaaaaGreat
open Go Go.Av
end Go.Proofs.YtjdfjgmebalaaaaGreat
namespace Go.Av
theorem BZ (P:Nat→Prop) [DecidablePred P]:∀ n:Nat,(∀ i,i<n→P i)∨∃ j,j<n∧(∀ i,i<j→P i)∧¬ P j
 | 0=>.inl fun i hi=>by omega
 | n+1=>by
  rcases BZ P n with h|⟨j,h1,h2,h3⟩
  ·by_cases hn:P n
   ·exact .inl fun i hi=>by
     by_cases e:i=n
     ·subst e;exact hn
     ·exact h i (by omega)
   ·exact .inr ⟨n,by omega,h,hn⟩
  ·exact .inr ⟨j,by omega,h2,h3⟩
def dC (left:Int) (n:Nat):Int:=if(n:Int)≤left then left-n else -1
theorem IY (l:List Ex) {i:Nat} {a:Ex} (h:l[i]?=some a):Ex.aM (l.take (i+1))=Ex.aM (l.take i)+a.size:=by
 induction l generalizing i with
 | nil=>simp at h
 | cons b l ih =>
  cases i with
  | zero=>simp at h;subst h;simp[Ex.aM]
  | succ i=>have:=ih (i:=i) (by simpa using h);simp only[yS,Ex.aM]at this ⊢;omega
theorem MI (l:List Ex) (i:Nat):Ex.aM (l.take i)≤Ex.aM l:=by
 induction l generalizing i with
 | nil=>simp[Ex.aM]
 | cons b l ih =>
  cases i with
  | zero=>simp[Ex.aM]
  | succ i=>simp only[yS,Ex.aM];have:=ih i;omega
theorem vP:∀ (l:List Ex) (i:Nat),i≤l.length→i≤Ex.aM (l.take i)
 | [],i,h=>by simp at h;subst h;simp
 | a::l,0,_=>by simp
 | a::l,i+1,h=>by
  have:=vP l i (by simpa using h);have:=Ex.mK a;simp only[yS,Ex.aM];omega
end Go.Av
namespace Go.Proofs.YtjdfjgmebalaaaaGreat
open Go Go.Av
set_option maxRecDepth 4000
set_option maxHeartbeats 1000000
theorem ASE {e:Ex} {left:Int} (h:aI C0 48 [.i (.isl (Ex.aB e.kids)), .int left] []=some (.int (dC left (Ex.aM e.kids)),[])) :
 aI C0 82 [.i (.agg e.cells), .int left] []=some (.int (dC left (Ex.aM e.kids)),[]):=by
 rw[aD rfl Tryz.func82 rfl rfl,Ex.aA];simp[h];by_cases h0:dC left (Ex.aM e.kids)<0
 ·have:dC left (Ex.aM e.kids)=-1:=by unfold dC at h0 ⊢;split<;>rename_i hc<;>simp[hc]at h0 ⊢;omega
  simp[h0,this]
 ·simp[h0]
def szI (l:List Ex) (left:Int) (i:Nat):Int:=left-l.length-(Ex.aM (l.take i)-i)
def SZ (l:List Ex) (left:Int) (i:Nat):AS :=
 { env:=[(0, .i (.isl (Ex.aB l))),(1, .int (szI l left i)),(4, .int 0),(5, .int i),(11, .bool false),(15,jk i (.bool true)),(25,jk i (.bool false))],st:=[] }
theorem X8 {l:List Ex} {left:Int} (h0:0≤left) (h1:left<1000000000) (hl:l.length<9223372036854775808)
 (ih:∀ a∈l,∀ left:Int,0≤left→left<1000000000→aI C0 82 [.i (.agg a.cells), .int left] []=some (.int (dC left (Ex.aM a.kids)),[])) :
 aI C0 48 [.i (.isl (Ex.aB l)), .int left] []=some (.int (dC left (Ex.aM l)),[]):=by
 rw[aD rfl Tryz.func48 rfl rfl];have w1:IntKind.i64.wrap (left-l.length)=left-l.length:=wrO;have hsl:=Ex.bR l;by_cases hc:left-l.length<0
 ·have:¬ ((Ex.aM l:Nat):Int)≤left:=by omega
  simp[w1,hc,dC,this]
 simp[w1,hc]
 have hpre:∀ i,i<l.length→∃ a,l[i]?=some a∧a∈l∧Ex.aM (l.take (i+1))=Ex.aM (l.take i)+(1+Ex.aM a.kids)∧fK (Ex.aB l) i=some a.cells:=by
  intro i hi;have h3:=zX hi;refine⟨_,h3,zU h3,?_,Ex.aQ h3⟩;rw[IY l h3,Ex.size_eq]
 have hround:∀ i,i<l.length→0≤szI l left i→∃ a:Ex,fK (Ex.aB l) i=some a.cells∧aI C0 82 [.i (.agg a.cells), .int (szI l left i)] []=some (.int (if 0≤szI l left (i+1)then szI l left (i+1)else -1),[]):=by
  intro i hi hs;obtain⟨a,h3,hm,hz,hn⟩:=hpre i hi;have hti:=vP l i (by omega);refine⟨a,hn,?_⟩;rw[ih a hm _ hs (by unfold szI;omega)];congr 2;unfold dC;congr 1;by_cases hle:((Ex.aM a.kids:Nat):Int)≤szI l left i
  ·rw[if_pos hle,if_pos (by unfold szI at hle ⊢;omega)];unfold szI;omega
  ·rw[if_neg hle,if_neg (by unfold szI at hle ⊢;omega)]
 rcases BZ (fun i=>0≤szI l left (i+1)) l.length with hall|⟨j,hj,hlt,hbad⟩
 ·rw[aV (SZ l left) l.length (by simp[SZ,szI,Ex.aM])]
  ·rw[aH]
   have hfin:dC left (Ex.aM l)=szI l left l.length:=by
    have hT:l.take l.length=l:=zY (by simp)
    have hge:0≤szI l left l.length:=by
     cases hn:l.length with
     | zero=>unfold szI;rw[hn];simp[Ex.aM];omega
     | succ n=>exact hn ▸ hall n (by omega)
    unfold dC;unfold szI at hge ⊢;rw[hT]at hge ⊢;rw[if_pos (by omega)];omega
   rw[hfin];simp[SZ]
  ·intro i hi
   have hs:0≤szI l left i:=by
    cases i with
    | zero=>unfold szI;simp[Ex.aM];omega
    | succ i=>exact hall i (by omega)
   obtain⟨a,hn,hc⟩:=hround i hi hs;have hs1:=hall i hi;have hs1:0≤szI l left (i+1):=hs1;rw[if_pos hs1]at hc;have w2:IntKind.i64.wrap ((i:Int)+1)=i+1:=wrO;rw[Ex.aA]at hn hc;simp[SZ,hi,hn,hc,w2,show ¬ szI l left (i+1)<0 by omega]
 ·have hsl2:dC left (Ex.aM l)=-1:=by
   have hm:=MI l (j+1);have hbad:¬ 0≤szI l left (j+1):=hbad;obtain⟨a,h3,_,_,_⟩:=hpre j hj
   have hrest:Ex.aM (l.take (j+1))+(l.length-(j+1))≤Ex.aM l:=by
    have e1:Ex.aM l=Ex.aM (l.take (j+1))+Ex.aM (l.drop (j+1)):=by
     have key:∀ (n:Nat) (l:List Ex),Ex.aM l=Ex.aM (l.take n)+Ex.aM (l.drop n):=by
      intro n
      induction n with
      | zero=>intro l;simp[Ex.aM]
      | succ n ih=>intro l;cases l with
       | nil=>simp[Ex.aM]
       | cons b l=>simp only[yS,zB1,Ex.aM];have:=ih l;omega
     exact key _ _
    have e2:=Ex.bR (l.drop (j+1));simp at e2;omega
   unfold dC;unfold szI at hbad;rw[if_neg (by omega)]
  rw[hsl2,aV (SZ l left) j (by simp[SZ,szI,Ex.aM])]
  ·rw[aH]
   have hs:0≤szI l left j:=by
    cases j with
    | zero=>unfold szI;simp[Ex.aM];omega
    | succ j=>exact hlt j (by omega)
   obtain⟨a,hn,hc⟩:=hround j hj hs;have hbad:¬ 0≤szI l left (j+1):=hbad;rw[if_neg hbad]at hc;rw[Ex.aA]at hn hc;simp[SZ,hj,hn,hc]
  ·intro i hi
   have hs:0≤szI l left i:=by
    cases i with
    | zero=>unfold szI;simp[Ex.aM];omega
    | succ i=>exact hlt i (by omega)
   obtain⟨a,hn,hc⟩:=hround i (by omega) hs;have hs1:0≤szI l left (i+1):=hlt i hi;rw[if_pos hs1]at hc;have w2:IntKind.i64.wrap ((i:Int)+1)=i+1:=wrO;rw[Ex.aA]at hn hc;simp[SZ,show i<l.length by omega,hn,hc,w2,show ¬ szI l left (i+1)<0 by omega]
set_option maxHeartbeats 2000000
theorem AWS:∀ (e:Ex),e.fat→∀ left:Int,0≤left→left<1000000000→aI C0 82 [.i (.agg e.cells), .int left] []=some (.int (dC left (Ex.aM e.kids)),[]):=by
 intro e
 induction e using Ex.ind with
 | h k c v ks ih =>
  intro hf left h0 h1;have hf':=(Ex.rF _).1 hf;exact ASE (X8 h0 h1 hf'.1 fun a ha=>ih a ha (hf'.2 a ha))
theorem ASC (l:List Ex) (hl:l.length<9223372036854775808) (hf:∀ a∈l,a.fat) (left:Int) (h0:0≤left) (h1:left<1000000000):aI C0 48 [.i (.isl (Ex.aB l)), .int left] []=some (.int (dC left (Ex.aM l)),[]) :=
 X8 h0 h1 hl fun a ha=>AWS a (hf a ha)
theorem AKC (v:Val):aI C0 124 [.i (.agg [.bool v.null, .int v.n]), .i (.agg [.bool v.null, .int v.n])] []=some (.bool true,[]):=by
 rw[aD rfl Tryz.func124 rfl rfl];simp
theorem AUS {e:Ex} (h:aI C0 55 [.i (.isl (Ex.aB e.kids)), .i (.isl (Ex.aB e.kids))] []=some (.bool true,[])):aI C0 87 [.i (.agg e.cells), .i (.agg e.cells)] []=some (.bool true,[]):=by
 rw[aD rfl Tryz.func87 rfl rfl,Ex.aA];have hv:=AKC e.val;simp[hv,h]
def EQ (l:List Ex) (i:Nat):AS :=
 { env:=[(0, .i (.isl (Ex.aB l))),(1, .i (.isl (Ex.aB l))),(4, .bool false),(5, .int i),(10, .bool false),(14,jk i (.bool true)),(26,jk i (.bool false))],st:=[] }
theorem AMO {l:List Ex} (hl:l.length<9223372036854775808) (ih:∀ a∈l,aI C0 87 [.i (.agg a.cells), .i (.agg a.cells)] []=some (.bool true,[])):aI C0 55 [.i (.isl (Ex.aB l)), .i (.isl (Ex.aB l))] []=some (.bool true,[]):=by
 rw[aD rfl Tryz.func55 rfl rfl];simp;rw[aV (EQ l) l.length (by simp[EQ])]
 ·rw[aH];simp[EQ]
 ·intro i hi;have h3:=zX hi;have hc:=ih _ (zU h3);have r2:=Ex.aQ h3;generalize l[i]=a at h3 hc r2;have w2:IntKind.i64.wrap ((i:Int)+1)=i+1:=wrO;rw[Ex.aA]at hc r2;simp[EQ,hi,r2,hc,w2]
theorem AKE:∀ (e:Ex),e.fat→aI C0 87 [.i (.agg e.cells), .i (.agg e.cells)] []=some (.bool true,[]):=by
 intro e
 induction e using Ex.ind with
 | h k c v ks ih =>
  intro hf;have hf':=(Ex.rF _).1 hf;exact AUS (AMO hf'.1 fun a ha=>ih a ha (hf'.2 a ha))
theorem AKD (l:List Ex) (hl:l.length<9223372036854775808) (hf:∀ a∈l,a.fat):aI C0 55 [.i (.isl (Ex.aB l)), .i (.isl (Ex.aB l))] []=some (.bool true,[]):=AMO hl fun a ha=>AKE a (hf a ha)
def HD (l:List Ex) (k:Int) (i:Nat):AS :=
 { env:=[(0, .i (.isl (Ex.aB (Ex.kW k l)))),(1, .int (k+4*(Ex.aM (l.take i):Nat))),(4, .int 0),(5, .int i),(9,jk i (.bool true)),(18,jk i (.bool false)),(27,jk i (.bool false)),(39,jk i (.bool false)),(49,jk i (.bool false)),(60,jk i (.bool false))],st:=[] }
theorem AAY {l:List Ex} {k:Int} (hk:0≤k) (hb:k+4*(Ex.aM l:Nat)<1000000000000) (ih:∀ a∈l,∀ k:Int,0≤k→k+4*(Ex.aM a.kids:Nat)<1000000000000→aI C0 75 [.i (.isl (Ex.aB (Ex.kW k a.kids))), .int k] []=some (.int (k+4*(Ex.aM a.kids:Nat)),[])) :
 aI C0 75 [.i (.isl (Ex.aB (Ex.kW k l))), .int k] []=some (.int (k+4*(Ex.aM l:Nat)),[]):=by
 rw[aD rfl Tryz.func75 rfl rfl];have hlen:=Ex.FQ l k;have hsl:=Ex.bR l;simp;rw[aV (HD l k) l.length (by simp[HD,Ex.aM])]
 ·rw[aH];have hT:l.take l.length=l:=zY (by simp);simp[HD,hlen,hT]
 ·intro i hi;have h3:=zX hi;have r2:=Ex.aQ (Ex.SC l k h3);have hz:=IY l h3;have hmono:=MI l (i+1);have hm:=zU h3;rw[Ex.size_eq]at hz;generalize hq:k+4*((Ex.aM (l.take i):Nat):Int)=q at r2;have hc:=ih _ hm (q+1+1+1+1) (by omega) (by omega);generalize l[i]=a at h3 r2 hc hz;rw[Ex.JO]at r2;have w2:IntKind.i64.wrap ((i:Int)+1)=i+1:=wrO;have w3:IntKind.i64.wrap (q+1)=q+1:=wrO;have w4:IntKind.i64.wrap (q+1+1)=q+1+1:=wrO;have w5:IntKind.i64.wrap (q+1+1+1)=q+1+1+1:=wrO;have w6:IntKind.i64.wrap (q+1+1+1+1)=q+1+1+1+1:=wrO;have hn:k+4*((Ex.aM (l.take (i+1)):Nat):Int)=q+1+1+1+1+4*(Ex.aM a.kids:Nat):=by rw[hz];push_cast;omega
  have hneg:¬ q+1+1+1+1+4*((Ex.aM a.kids:Nat):Int)<0:=by omega
  simp[HD,hlen,hi,r2,hc,hq,hn,w2,w3,w4,w5,w6,hneg]
theorem AK1:∀ (e:Ex) (k:Int),0≤k→k+4*(Ex.aM e.kids:Nat)<1000000000000→aI C0 75 [.i (.isl (Ex.aB (Ex.kW k e.kids))), .int k] []=some (.int (k+4*(Ex.aM e.kids:Nat)),[]):=by
 intro e
 induction e using Ex.ind with
 | h k c v ks ih =>
  intro k hk hb;exact AAY hk hb ih
end Go.Proofs.YtjdfjgmebalaaaaGreat
namespace Go.Av
mutual
def Pn.fat:Pn→Prop
 | .mk _ _ es cs ks=>es.length<9223372036854775808∧(∀ e∈es,e.fat)∧cs.length<9223372036854775808∧ks.length<9223372036854775808∧Pn.AFZ ks
def Pn.AFZ:List Pn→Prop
 | []=>True
 | p::ps=>p.fat∧Pn.AFZ ps
end
theorem Pn.C9:∀ (l:List Pn),Pn.AFZ l↔∀ p∈l,p.fat
 | []=>by simp[Pn.AFZ]
 | p::ps=>by simp[Pn.AFZ,Pn.C9 ps]
theorem Pn.rF (p:Pn):p.fat↔p.exprs.length<9223372036854775808∧(∀ e∈p.exprs,e.fat)∧p.cols.length<9223372036854775808∧p.kids.length<9223372036854775808∧∀ a∈p.kids,a.fat:=by
 cases p;simp[Pn.fat,Pn.C9]
end Go.Av
namespace Go.Proofs.YtjdfjgmebalaaaaGreat.P
open Go Go.Av
set_option maxRecDepth 4000
set_option maxHeartbeats 4000000
def TIX (l:List Int) (i:Nat):AS :=
 { env:=[(0, .i (.isl (aF l))),(2, .nils),(3, .osl 0 1 0 l.length),(4, .int i),(11,jk i (.bool true))],st:=[some (.arr 1 (aF (l.take i)++List.replicate (l.length-i) [.int 0]))] }
def EIX (l:List Int) (i:Nat):AS :=
 { env:=[(0, .i (.isl (aF l))),(1, .i (.isl (aF l))),(4, .bool false),(5, .int i),(10, .bool false),(14,jk i (.bool true)),(25,jk i (.bool false))],st:=[] }
theorem wR (l:List Int) (hl:l.length<9223372036854775808):aI C0 18 [.i (.isl (aF l)), .i (.isl (aF l))] []=some (.bool true,[]):=by
 rw[aD rfl Tryz.func18 rfl rfl];simp;rw[aV (EIX l) l.length (by simp[EIX])]
 ·rw[aH];simp[EIX]
 ·intro i hi;have h3:=zX hi;have r2:=bJ h3;generalize l[i]=a at h3 r2;have w2:IntKind.i64.wrap ((i:Int)+1)=i+1:=wrO;simp[EIX,hi,r2,w2]
theorem AG3 {p:Pn} (h1:aI C0 55 [.i (.isl (Ex.aB p.exprs)), .i (.isl (Ex.aB p.exprs))] []=some (.bool true,[])) (h2:aI C0 18 [.i (.isl (aF p.cols)), .i (.isl (aF p.cols))] []=some (.bool true,[])) (h3:aI C0 56 [.i (.isl (Pn.aB p.kids)), .i (.isl (Pn.aB p.kids))] []=some (.bool true,[])) :
 aI C0 17 [.i (.agg p.cells), .i (.agg p.cells)] []=some (.bool true,[]):=by
 rw[aD rfl Tryz.func17 rfl rfl,Pn.aA];simp[h1,h2,h3]
def EPS (l:List Pn) (i:Nat):AS :=
 { env:=[(0, .i (.isl (Pn.aB l))),(1, .i (.isl (Pn.aB l))),(4, .bool false),(5, .int i),(10, .bool false),(14,jk i (.bool true)),(26,jk i (.bool false))],st:=[] }
theorem AB8 {l:List Pn} (hl:l.length<9223372036854775808) (ih:∀ a∈l,aI C0 17 [.i (.agg a.cells), .i (.agg a.cells)] []=some (.bool true,[])):aI C0 56 [.i (.isl (Pn.aB l)), .i (.isl (Pn.aB l))] []=some (.bool true,[]):=by
 rw[aD rfl Tryz.func56 rfl rfl];simp;rw[aV (EPS l) l.length (by simp[EPS])]
 ·rw[aH];simp[EPS]
 ·intro i hi;have h3:=zX hi;have hc:=ih _ (zU h3);have r2:=Pn.aQ h3;generalize l[i]=a at h3 hc r2;have w2:IntKind.i64.wrap ((i:Int)+1)=i+1:=wrO;rw[Pn.aA]at hc r2;simp[EPS,hi,r2,hc,w2]
theorem KQ:∀ (p:Pn),p.fat→aI C0 17 [.i (.agg p.cells), .i (.agg p.cells)] []=some (.bool true,[]):=by
 intro p
 induction p using Pn.ind with
 | h k t es cs ks ih =>
  intro hf;obtain⟨h1,h2,h3,h4,h5⟩:=(Pn.rF _).1 hf;exact AG3 (AKD es h1 h2) (wR cs h3) (AB8 h4 fun a ha=>ih a ha (h5 a ha))
def zpw:List IV:=[.int 0, .int 0, .isl [], .isl [], .isl []]
end Go.Proofs.YtjdfjgmebalaaaaGreat.P

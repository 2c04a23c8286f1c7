/- Part 6 of what the proof rests on: the executor and what it is worth, and the program's functions as it runs them. No condition. -/
import Derived.Test.YtjdfjgmebalaaaaGreatT5
import Derived.ChangeOld
import Derived.OpenShut
set_option linter.unusedVariables false
set_option linter.unusedSimpArgs false
namespace Go.Proofs.YtjdfjgmebalaaaaGreat.P
open Go Go.Av
set_option maxRecDepth 4000
set_option maxHeartbeats 4000000
theorem nA {ws:List Int} (hw:lH ws=true) {e:Ex} {k:Pn} (hp:(filt e k).wd ws 8≠0) {r:Int} (hr:(r=1∧k.kind≠2)∨(r=2∧e.kind≠8)∨(r=3∧¬ (k.kind=4∨k.kind=5))∨(r=4∧k.kind≠4)∨(r=5∧k.kind≠4)∨(r=7∧k.kind≠5)∨(r=8∧k.kind≠6)∨(r=10∧k.kind≠3)):mW ws r e k:=by
 obtain⟨h1,h2,h3⟩:=tV hp;have c1:=GH hw (dI k 8 h1);unfold mW
 have hn:rwF ws r e k=none:=by
  rcases hr with ⟨rfl,q⟩|⟨rfl,q⟩|⟨rfl,q⟩|⟨rfl,q⟩|⟨rfl,q⟩|⟨rfl,q⟩|⟨rfl,q⟩|⟨rfl,q⟩<;>simp[rwF,q]
 have hr':(r=1∧k.kind≠2)∨(r=2∧e.kind≠8)∨(r=3∧(k.kind≠4∧k.kind≠5))∨(r=4∧k.kind≠4)∨(r=5∧k.kind≠4)∨(r=7∧k.kind≠5)∨(r=8∧k.kind≠6)∨(r=10∧k.kind≠3):=by omega
 rw[hn,aD rfl Tryz.func136 rfl rfl]
 cases hk:k.kids with
 | nil =>
  simp only[Option.getD,aR,Ex.aB e,Pn.aB k,hk,Pn.aA]at c1 ⊢
  rcases hr' with ⟨rfl,q⟩|⟨rfl,q⟩|⟨rfl,q⟩|⟨rfl,q⟩|⟨rfl,q⟩|⟨rfl,q⟩|⟨rfl,q⟩|⟨rfl,q⟩<;>simp[c1,q]
 | cons x xs =>
  have c2:=GH hw (dI x 8 (UO h1 (by simp[hk]) x (by simp[hk])));simp only[Option.getD,aR,Ex.aB e,Pn.aB k,hk,Pn.aA,Pn.aB x]at c1 c2 ⊢
  rcases hr' with ⟨rfl,q⟩|⟨rfl,q⟩|⟨rfl,q⟩|⟨rfl,q⟩|⟨rfl,q⟩|⟨rfl,q⟩|⟨rfl,q⟩|⟨rfl,q⟩<;>simp[c1,c2,q]
theorem AP3 {ws:List Int} (hw:lH ws=true) {e e2:Ex} {a:Pn} (hp:(filt e (filt e2 a)).wd ws 8≠0):mW ws 1 e (filt e2 a):=by
 obtain⟨h1,h2,h3⟩:=tV hp;have c1:=GH hw (dI _ 8 h1);have c2:=GH hw (dI _ 8 (tV h1).1);have c3:=eT (WS e2 e) a;have hr:rwF ws 1 e (filt e2 a)=some (filt (WS e2 e) a):=by simp[rwF,filt,Pn.ex0,Pn.jT,Pn.kind,Pn.exprs,Pn.kids]
 unfold mW;rw[hr,aD rfl Tryz.func136 rfl rfl];generalize (filt e2 a).wd ws 8=W at *
 generalize a.wd ws 8=V at *
 simp only[Option.getD,Option.isSome,aR,oO,Ex.aB e,Ex.aB e2,Pn.aB a]at c1 c2 c3 ⊢;simp[c1,c2,c3]
theorem AP2 {ws:List Int} (hw:lH ws=true) {e x y:Ex} {k:Pn} (hp:(filt e k).wd ws 8≠0) (he:e.kind=8) (hk2:e.kids=[x,y]):mW ws 2 e k:=by
 obtain⟨h1,h2,h3⟩:=tV hp;have c1:=GH hw (dI k 8 h1);have c3:=eT x k;have c4:=eT y (filt x k);have hr:rwF ws 2 e k=some (filt y (filt x k)):=by simp[rwF,he,Ex.jT,Ex.rM,hk2]
 unfold mW;rw[hr,aD rfl Tryz.func136 rfl rfl]
 cases hk:k.kids with
 | nil =>
  simp only[Option.getD,Option.isSome,aR,Ex.aB e,hk2,Ex.aA,Ex.aB x,Ex.aB y,Pn.aB k,hk,Pn.aA]at c1 c3 c4 ⊢;simp[c1,c3,c4,he]
 | cons z zs =>
  have c2:=GH hw (dI z 8 (UO h1 (by simp[hk]) z (by simp[hk])));simp only[Option.getD,Option.isSome,aR,Ex.aB e,hk2,Ex.aA,Ex.aB x,Ex.aB y,Pn.aB k,hk,Pn.aA,Pn.aB z]at c1 c2 c3 c4 ⊢;simp[c1,c2,c3,c4,he]
theorem AP1 {ws:List Int} (hw:lH ws=true) {e e2:Ex} {x y:Pn} {kd:Int} (hkd:kd=4∨kd=5) (hp:(filt e (bC kd e2 x y)).wd ws 8≠0):mW ws 3 e (bC kd e2 x y):=by
 obtain⟨h1,h2,h3⟩:=tV hp;obtain⟨g1,g2,g3,g4,g5⟩:=MM hkd h1;have c1:=GH hw (dI _ 8 h1);have c2:=GH hw (dI _ 8 g1);obtain⟨n,hn,n1,n2⟩:=vZ hw g1;rw[hn]at c2;have c3:=eT e x;have c4:=O9 e (Ex.EL h2).1 (by have:=Ex.fJ h2;omega) 0 n (by omega);have w1:IntKind.i64.wrap ((n:Int)-1)=n-1:=wrO
 have hr:rwF ws 3 e (bC kd e2 x y)=if e.cin 0 n=true then some (bC kd e2 (filt e x) y)else none:=by
  simp[rwF,bC,Pn.ex0,Pn.jT,Pn.rM,Pn.kind,Pn.exprs,Pn.kids,hkd,hn]
 unfold mW;rw[hr,aD rfl Tryz.func136 rfl rfl];generalize (bC kd e2 x y).wd ws 8=W at *
 cases hb:e.cin 0 n with
 | true =>
  rw[hb]at c4;simp only[if_true,Option.getD,Option.isSome,aR,pair_cells,Ex.aB e,Ex.aB e2,Pn.aB x,Pn.aB y]at c1 c2 c3 c4 ⊢
  rcases hkd with rfl|rfl<;>simp[c1,c2,c3,c4,w1]
 | false =>
  rw[hb]at c4;simp only[yR,if_false,Option.getD,Option.isSome,aR,pair_cells,Ex.aB e,Ex.aB e2,Pn.aB x,Pn.aB y]at c1 c2 c3 c4 ⊢
  rcases hkd with rfl|rfl<;>simp[c1,c2,c4,w1]
theorem AP0 {ws:List Int} (hw:lH ws=true) {e e2:Ex} {x y:Pn} (hp:(filt e (bC 4 e2 x y)).wd ws 8≠0):mW ws 4 e (bC 4 e2 x y):=by
 obtain⟨h1,h2,h3⟩:=tV hp;obtain⟨g1,g2,g3,g4,g5⟩:=MM (.inl rfl) h1;have c1:=GH hw (dI _ 8 h1);have c2:=GH hw (dI _ 8 g1);obtain⟨n,hn,n1,n2⟩:=vZ hw g1;obtain⟨m,hm,m1,m2⟩:=vZ hw g2;have hwf:=(Ex.EL h2).1;rw[g5,hn,hm,← Int.natCast_add]at hwf;have g5':=g5;rw[hn,hm,← Int.natCast_add]at g5';rw[g5']at c1;rw[hn]at c2;have c4:=O9 e hwf (by have:=Ex.fJ h2;omega) n (n+m:Nat) (by omega);have w1:IntKind.i64.wrap ((n:Int)+m-1)=n+m-1:=wrO;have w2:IntKind.i64.wrap ((n:Int)+m-n)=m:=by rw[wrO];omega
 have hr:rwF ws 4 e (bC 4 e2 x y)=if e.cin n (n+m:Nat)=true then some (bC 4 e2 x (filt (e.uX (·-n)) y))else none:=by
  have:=g5';unfold bC at this;simp[rwF,bC,Pn.ex0,Pn.jT,Pn.rM,Pn.kind,Pn.exprs,Pn.kids,hn,this]
 have f1:=nG 0 (by omega) n (by omega);have f2:=nG 0 (by omega) m (by omega);have hlen:(aT 0 n++aT 0 m).length=n+m:=by simp
 have f3:=lL (aT 0 n++aT 0 m) (fun b hb=>by
  rcases zV.1 hb with h|h<;>exact qG _ _ b h) e (Ex.fD _ (by have:=Ex.fJ h2;omega)) (by rw[hlen];exact Ex.ER e hwf)
 unfold mW;rw[hr,aD rfl Tryz.func136 rfl rfl]
 cases hb:e.cin n (n+m:Nat)with
 | true =>
  have hsub:e.sub (aT 0 n++aT 0 m)=e.uX (·-n):=Ex.UW (g:=fun c=>decide ((n:Int)≤c∧c<(n+m:Nat))) (fun c hc=>by
   simp only[zN]at hc;rw[zB (by simp;omega),rX,rW (by omega)]
   congr 2;omega) e hb
  rw[hsub]at f3;have c3:=eT (e.uX (·-n)) y;generalize e.uX (·-(n:Int))=z at *
  rw[hb]at c4;have ht:∀ k:Nat,(aT 0 k).take k=aT 0 k:=fun k=>zY (by simp)
  have ht2:(Ex.aA (aT 0 n)++Ex.aA (aT 0 m)).take (n+m)=Ex.aA (aT 0 n)++Ex.aA (aT 0 m):=zY (by simp);have hl1:(n+m)*56≤140737488355328:=by omega
  simp only[yF]at c1 c4;simp only[if_true,Option.getD,Option.isSome,aR,pair_cells,Ex.aB e,Ex.aB e2,Ex.aB z,Pn.aB x,Pn.aB y,Ex.jP]at c1 c2 c3 c4 f3 ⊢;simp[c1,c2,c3,c4,w1,w2,f1,f2,f3,ht,ht2,hl1]
 | false =>
  rw[hb]at c4;simp only[yF]at c1 c4;simp only[yR,if_false,Option.getD,Option.isSome,aR,pair_cells,Ex.aB e,Ex.aB e2,Pn.aB x,Pn.aB y]at c1 c2 c4 ⊢;simp[c1,c2,c4,w1]
theorem AOZ {ws:List Int} (hw:lH ws=true) {e e2:Ex} {x y:Pn} (hp:(filt e (bC 4 e2 x y)).wd ws 8≠0):mW ws 5 e (bC 4 e2 x y):=by
 obtain⟨h1,h2,h3⟩:=tV hp;obtain⟨g1,g2,g3,g4,g5⟩:=MM (.inl rfl) h1;have c1:=GH hw (dI _ 8 h1);have c2:=GH hw (dI _ 8 g1)
 have hr:rwF ws 5 e (bC 4 e2 x y)=some (bC 4 (WS e2 e) x y):=by
  simp[rwF,bC,Pn.ex0,Pn.jT,Pn.rM,Pn.kind,Pn.exprs,Pn.kids]
 unfold mW;rw[hr,aD rfl Tryz.func136 rfl rfl];generalize (bC 4 e2 x y).wd ws 8=W at *
 generalize x.wd ws 8=V at *
 simp only[Option.getD,Option.isSome,aR,pair_cells,oO,Ex.aB e,Ex.aB e2,Pn.aB x,Pn.aB y]at c1 c2 ⊢;simp[c1,c2]
theorem AOY {ws:List Int} (hw:lH ws=true) {e e2:Ex} {x y:Pn} (hp:(filt e (bC 5 e2 x y)).wd ws 8≠0):mW ws 7 e (bC 5 e2 x y):=by
 obtain⟨h1,h2,h3⟩:=tV hp;obtain⟨g1,g2,g3,g4,g5⟩:=MM (.inr rfl) h1;have c1:=GH hw (dI _ 8 h1);have c2:=GH hw (dI _ 8 g1);obtain⟨n,hn,n1,n2⟩:=vZ hw g1;obtain⟨m,hm,m1,m2⟩:=vZ hw g2;have hwf:=(Ex.EL h2).1;rw[g5,hn,hm,← Int.natCast_add]at hwf;have g5':=g5;rw[hn,hm,← Int.natCast_add]at g5';rw[g5']at c1;rw[hn]at c2;have c3:=eT e (bC 4 e2 x y);have f1:=NI (n:=n+m) (p:=n) (m:=m) rfl (by omega);have f2:=SF e (n:=n+m) (p:=n) (m:=m) rfl (by omega) hwf
 have hr:rwF ws 7 e (bC 5 e2 x y)=if ABC e (n+m:Nat) n=true then some (filt e (bC 4 e2 x y))else none:=by
  have:=g5';unfold bC at this;simp[rwF,bC,Pn.ex0,Pn.jT,Pn.rM,Pn.kind,Pn.exprs,Pn.kids,hn,this]
 unfold mW;rw[hr,aD rfl Tryz.func136 rfl rfl];simp only[yF]at c1 f1 f2
 cases hb:ABC e (n+m:Nat) n with
 | true =>
  rw[show ABC e ((n:Int)+m) n=true by rw[← Int.natCast_add];exact hb]at f2;simp only[if_true,Option.getD,Option.isSome,aR,pair_cells,Ex.aB e,Ex.aB e2,Pn.aB x,Pn.aB y]at c1 c2 c3 f2 ⊢;simp[c1,c2,c3,f1,f2]
 | false =>
  rw[show ABC e ((n:Int)+m) n=false by rw[← Int.natCast_add];exact hb]at f2;simp only[yR,if_false,Option.getD,Option.isSome,aR,pair_cells,Ex.aB e,Ex.aB e2,Pn.aB x,Pn.aB y]at c1 c2 f2 ⊢;simp[c1,c2,f1,f2]
theorem AOX {ws:List Int} (hw:lH ws=true) {e:Ex} {x y:Pn} (hp:(filt e (dP x y)).wd ws 8≠0):mW ws 8 e (dP x y):=by
 obtain⟨h1,h2,h3⟩:=tV hp;have c1:=GH hw (dI _ 8 h1);have c2:=GH hw (dI x 8 (UO h1 (by simp[dP,Pn.kids]) x (by simp[dP,Pn.kids])));have c3:=eT e x;have c4:=eT e y
 have hr:rwF ws 8 e (dP x y)=some (dP (filt e x) (filt e y)):=by
  simp[rwF,dP,Pn.ex0,Pn.jT,Pn.rM,Pn.kind,Pn.exprs,Pn.kids]
 unfold mW;rw[hr,aD rfl Tryz.func136 rfl rfl];generalize (dP x y).wd ws 8=W at *
 generalize x.wd ws 8=V at *
 simp only[Option.getD,Option.isSome,aR,FZ,Ex.aB e,Pn.aB x,Pn.aB y]at c1 c2 c3 c4 ⊢;simp[c1,c2,c3,c4]
theorem AKD {ws:List Int} (hw:lH ws=true) {e:Ex} {es:List Ex} {x:Pn} (hp:(filt e (proj es x)).wd ws 8≠0):mW ws 10 e (proj es x):=by
 obtain⟨h1,h2,h3⟩:=tV hp;obtain⟨g1,g2,g3,g4⟩:=Y2 h1;have c1:=GH hw (dI _ 8 h1);have c2:=GH hw (dI _ 8 g1);rw[g4]at h2;have c3:=eT (e.sub es) x;have f3:=lL es (fun b hb=>Ex.fD _ (by have:=Ex.fJ (zQ.1 g3 b hb);omega)) e (Ex.fD _ (by have:=Ex.fJ h2;omega)) (Ex.ER e (Ex.EL h2).1)
 have hr:rwF ws 10 e (proj es x)=some (proj es (filt (e.sub es) x)):=by
  simp[rwF,proj,Pn.ex0,Pn.jT,Pn.rM,Pn.kind,Pn.exprs,Pn.kids]
 unfold mW;rw[hr,aD rfl Tryz.func136 rfl rfl];generalize (proj es x).wd ws 8=W at *
 generalize x.wd ws 8=V at *
 generalize e.sub es=z at *
 simp only[Option.getD,Option.isSome,aR,jB,Ex.aB e,Ex.aB z,Pn.aB x]at c1 c2 c3 f3 ⊢;simp[c1,c2,c3,f3]
theorem AFI {ws:List Int} (hw:lH ws=true) {e:Ex} {k:Pn} (hp:(filt e k).wd ws 8≠0) (r:Int):mW ws r e k:=by
 obtain⟨h1,h2,h3⟩:=tV hp;by_cases hr:r≠1∧r≠2∧r≠3∧r≠4∧r≠5∧r≠7∧r≠8∧r≠10
 ·exact SE hw hp hr
 have hk:=lW h1;have hr':r=1∨r=2∨r=3∨r=4∨r=5∨r=7∨r=8∨r=10:=by omega
 rcases hr' with rfl|rfl|rfl|rfl|rfl|rfl|rfl|rfl
 ·by_cases q:k.kind=2
  ·obtain⟨e2,a,rfl⟩:=oQ hk q;exact AP3 hw hp
  ·exact nA hw hp (.inl ⟨rfl,q⟩)
 ·by_cases q:e.kind=8
  ·rcases Ex.vX (Ex.EL h2).1 with ⟨h,_⟩|⟨h,_⟩|⟨h,_⟩|⟨_,x,y,h,_⟩
   ·omega
   ·omega
   ·omega
   ·exact AP2 hw hp q h
  ·exact nA hw hp (.inr (.inl ⟨rfl,q⟩))
 ·by_cases q:k.kind=4∨k.kind=5
  ·obtain⟨e2,x,y,hx⟩:=iX hk q;generalize k.kind=kd at *
   subst hx;exact AP1 hw q hp
  ·exact nA hw hp (.inr (.inr (.inl ⟨rfl,q⟩)))
 ·by_cases q:k.kind=4
  ·obtain⟨e2,x,y,hx⟩:=iX hk (.inl q);rw[q]at hx;subst hx;exact AP0 hw hp
  ·exact nA hw hp (.inr (.inr (.inr (.inl ⟨rfl,q⟩))))
 ·by_cases q:k.kind=4
  ·obtain⟨e2,x,y,hx⟩:=iX hk (.inl q);rw[q]at hx;subst hx;exact AOZ hw hp
  ·exact nA hw hp (.inr (.inr (.inr (.inr (.inl ⟨rfl,q⟩)))))
 ·by_cases q:k.kind=5
  ·obtain⟨e2,x,y,hx⟩:=iX hk (.inr q);rw[q]at hx;subst hx;exact AOY hw hp
  ·exact nA hw hp (.inr (.inr (.inr (.inr (.inr (.inl ⟨rfl,q⟩))))))
 ·by_cases q:k.kind=6
  ·obtain⟨x,y,rfl⟩:=AE3 hk q;exact AOX hw hp
  ·exact nA hw hp (.inr (.inr (.inr (.inr (.inr (.inr (.inl ⟨rfl,q⟩)))))))
 ·by_cases q:k.kind=3
  ·obtain⟨es,x,rfl⟩:=nN hk q;exact AKD hw hp
  ·exact nA hw hp (.inr (.inr (.inr (.inr (.inr (.inr (.inr ⟨rfl,q⟩)))))))
def SRw (ws:List Int) (r:Int) (p:Pn):Prop:=aI C0 102 [.i (.agg p.cells), .int r, .i (.isl (aF ws))] []=some (.tup [.i (.agg ((rwP ws r p).getD p).cells), .bool (rwP ws r p).isSome],[])
theorem AFH {ws:List Int} (hw:lH ws=true) {e:Ex} {k:Pn} (hp:(filt e k).wd ws 8≠0) (r:Int):SRw ws r (filt e k):=by
 have h:=AFI hw hp r;unfold mW at h;unfold SRw;rw[eU];generalize (rwF ws r e k).getD (filt e k)=q at *
 generalize (rwF ws r e k).isSome=b at *
 rw[aD rfl Tryz.func102 rfl rfl];simp only[aR,Pn.aB q]at h ⊢;simp[h]
theorem AOV {ws:List Int} {p:Pn} {r:Int} (h2:p.kind≠2) (h4:¬ (r=6∧p.kind=4)) (h7:¬ (r=9∧p.kind=7)) (h3:¬ (r=11∧p.kind=3)):SRw ws r p:=by
 have hn:rwP ws r p=none:=by
  unfold rwP;rw[if_neg h2,if_neg h4,if_neg (fun h=>h7 ⟨h.1,h.2.1⟩),if_neg (fun h=>h3 ⟨h.1,h.2.1⟩)]
 unfold SRw;rw[hn,aD rfl Tryz.func102 rfl rfl];simp only[Option.getD,Option.isSome,Pn.aB p];by_cases r6:r=6
 ·have k4:¬ p.kind=4:=fun h=>h4 ⟨r6,h⟩
  simp[h2,r6,k4]
 ·by_cases r9:r=9
  ·have k7:¬ p.kind=7:=fun h=>h7 ⟨r9,h⟩
   simp[h2,r9,k7]
  ·by_cases r11:r=11
   ·have k3:¬ p.kind=3:=fun h=>h3 ⟨r11,h⟩
    simp[h2,r11,k3]
   ·simp[h2,r6,r9,r11]
theorem AKC {ws:List Int} (hw:lH ws=true) {e:Ex} {x y:Pn} (hp:(bC 4 e x y).wd ws 8≠0):SRw ws 6 (bC 4 e x y):=by
 obtain⟨g1,g2,g3,g4,g5⟩:=MM (.inl rfl) hp;have c1:=GH hw (dI _ 8 g1);have c2:=GH hw (dI _ 8 g2);obtain⟨n,hn,n1,n2⟩:=vZ hw g1;obtain⟨m,hm,m1,m2⟩:=vZ hw g2;have hwf:=(Ex.EL g4).1;rw[hn]at c1 hwf;rw[hm]at c2 hwf;have f1:=nG m (by omega) n (by omega);have f2:=nG 0 (by omega) m (by omega);have hlen:(aT (m:Int) n++aT 0 m).length=n+m:=by simp
 have f3:=lL (aT (m:Int) n++aT 0 m) (fun b hb=>by
  rcases zV.1 hb with h|h<;>exact qG _ _ b h) e (Ex.fD _ (by have:=Ex.fJ g4;omega)) (by rw[hlen,yF];exact Ex.ER e hwf)
 have hsub:e.sub (aT (m:Int) n++aT 0 m)=e.uX (p9 n m):=Ex.UW (g:=fun c=>decide (0≤c∧c<(n:Int)+m)) (fun c hc=>by
  simp only[zN]at hc;rw[WK (by omega)]
  congr 3;omega) e (Ex.M0 e hwf)
 rw[hsub]at f3
 have hr:rwP ws 6 (bC 4 e x y)=some (proj (aT m n++aT 0 m) (bC 4 (e.uX (p9 n m)) y x)):=by
  simp[rwP,bC,Pn.ex0,Pn.jT,Pn.rM,Pn.kind,Pn.exprs,Pn.kids,hn,hm]
 unfold SRw;rw[hr,aD rfl Tryz.func102 rfl rfl];generalize e.uX (p9 n m)=z at *
 have ht:∀ (a:Int) (k:Nat),(aT a k).take k=aT a k:=fun a k=>zY (by simp)
 have ht2:(Ex.aA (aT m n)++Ex.aA (aT 0 m)).take (n+m)=Ex.aA (aT m n)++Ex.aA (aT 0 m):=zY (by simp);have hl1:(n+m)*56≤140737488355328:=by omega
 simp only[Option.getD,Option.isSome,jB,pair_cells,Ex.aB e,Ex.aB z,Pn.aB x,Pn.aB y,Ex.jP]at c1 c2 f3 ⊢;simp[c1,c2,f1,f2,f3,ht,ht2,hl1]
theorem AFG {ws:List Int} {a:Pn}:SRw ws 9 (.mk 7 0 [] [] [a]):=by
 have hc:(Pn.mk 7 0 [] [] [a]).cells=[.int 7, .int 0, .isl [], .isl [], .isl [a.cells]]:=by simp[Pn.cells,Ex.aA,aF,Pn.aA]
 unfold SRw;rw[aD rfl Tryz.func102 rfl rfl];by_cases h:a.kind=7∨a.kind=8
 ·have hr:rwP ws 9 (.mk 7 0 [] [] [a])=some a:=by simp[rwP,Pn.jT,Pn.kids,h]
  rw[hr];simp only[Option.getD,Option.isSome,hc,Pn.aB a]
  rcases h with h|h<;>simp[h]
 ·have hr:rwP ws 9 (.mk 7 0 [] [] [a])=none:=by simp[rwP,Pn.jT,Pn.kids,h]
  rw[hr];simp only[Option.getD,Option.isSome,hc,Pn.aB a];have h7:¬ a.kind=7:=by omega
  have h8:¬ a.kind=8:=by omega
  simp[h7,h8]
theorem M9 {ws:List Int} {fs:List Ex} {a:Pn} (h:a.kind≠3):SRw ws 11 (proj fs a):=by
 have hr:rwP ws 11 (proj fs a)=none:=by simp[rwP,Pn.jT,Pn.kids,proj,h]
 unfold SRw;rw[hr,aD rfl Tryz.func102 rfl rfl];simp only[Option.getD,Option.isSome,jB,Pn.aB a];simp[h]
def SRX (fs es:List Ex) (x:Pn) (ws:List Int) (zs:List Ex) (i:Nat):AS :=
 { env:=[(0, .i (.agg [.int 3, .int 0, .isl (Ex.aA fs), .isl [], .isl [[.int 3, .int 0, .isl (Ex.aA es), .isl [], .isl [[.int x.kind, .int x.table, .isl (Ex.aA x.exprs), .isl (aF x.cols), .isl (Pn.aA x.kids)]]]]])),(1, .int 11),(2, .i (.isl (aF ws))),(3, .own 0 0),(6, .own 1 0),(7, .bool false),(8, .junk),(9, .junk),(10, .junk),(11, .junk),(12, .osl 2 5 0 i),(13, .int i),(14, .bool false),(24, .bool false),(71, .bool false),(99, .bool true),(120,jk i (.bool true))],
   st:=[some (.box [.i (.int 3), .i (.int 0), .i (.isl (Ex.aA fs)), .i (.isl []), .i (.isl [[.int 3, .int 0, .isl (Ex.aA es), .isl [], .isl [[.int x.kind, .int x.table, .isl (Ex.aA x.exprs), .isl (aF x.cols), .isl (Pn.aA x.kids)]]]])]),some (.box [.int 0, .int 0, .nils, .nils, .nils]),some (.arr 5 (Ex.aA (zs.take i)))] }
theorem XO {ws:List Int} {fs es:List Ex} {x:Pn} (hp:(proj fs (proj es x)).wd ws 8≠0):SRw ws 11 (proj fs (proj es x)):=by
 obtain⟨h1,h2,h3,h4⟩:=Y2 hp;obtain⟨g1,g2,g3,g4⟩:=Y2 h1;rw[g4]at h3;have f3:=fun f (hf:f∈fs)=>lL es (fun b hb=>Ex.fD _ (by have:=Ex.fJ (zQ.1 g3 b hb);omega)) f (Ex.fD _ (by have:=Ex.fJ (zQ.1 h3 f hf);omega)) (Ex.ER f (Ex.EL (zQ.1 h3 f hf)).1)
 have hr:rwP ws 11 (proj fs (proj es x))=some (proj (fs.map (Ex.sub es)) x):=by
  simp[rwP,proj,Pn.ex0,Pn.jT,Pn.rM,Pn.kind,Pn.exprs,Pn.kids]
 unfold SRw;rw[hr,aD rfl Tryz.func102 rfl rfl];have hlen:fs.length≤6:=by unfold bL at h2;simp at h2;omega
 have hz:∀ (i:Nat) (f:Ex),fs[i]?=some f→(fs.map (Ex.sub es))[i]?=some (f.sub es):=fun i f h=>by simp[h]
 have hzl:(fs.map (Ex.sub es)).length=fs.length:=by simp
 generalize fs.map (Ex.sub es)=zs at *
 simp only[Option.getD,Option.isSome,jB,Pn.aB x];simp;rw[aU (SRX fs es x ws zs) fs.length (by simp[SRX,Ex.aA])]
 ·rw[aH];have ht:zs.take fs.length=zs:=zY (by omega);simp[SRX,ht,hzl]
 ·intro i hi;have q1:=zX hi;have hm:=zU q1;have r1:=Ex.aN q1;generalize fs[i]=f at q1 hm r1;have q2:=hz i f q1;have c5:=f3 f hm;generalize f.sub es=z at q2 c5;have htk:=aM q2;have w2:IntKind.i64.wrap ((i:Int)+1)=i+1:=wrO;have hl1:(i+1)*56≤140737488355328:=by omega
  have hl2:i≤min i zs.length:=by omega
  simp only[Ex.aB f,Ex.aB z]at c5 r1;simp[SRX,hi,r1,c5,w2,htk,Ex.aW,Ex.aB z,hl1,hl2,zJ]
theorem AOW {ws:List Int} (hw:lH ws=true) {p:Pn} (hp:p.wd ws 8≠0) (r:Int):SRw ws r p:=by
 have hk:=lW hp;by_cases k2:p.kind=2
 ·obtain⟨e,a,rfl⟩:=oQ hk k2;exact AFH hw hp r
 by_cases k4:r=6∧p.kind=4
 ·obtain⟨rfl,k4⟩:=k4;obtain⟨e,x,y,hx⟩:=iX hk (.inl k4);rw[k4]at hx;subst hx;exact AKC hw hp
 by_cases k7:r=9∧p.kind=7
 ·obtain⟨rfl,k7⟩:=k7;obtain⟨a,rfl⟩:=AE4 hk k7;exact AFG
 by_cases k3:r=11∧p.kind=3
 ·obtain⟨rfl,k3⟩:=k3;obtain⟨fs,a,rfl⟩:=nN hk k3;by_cases k33:a.kind=3
  ·obtain⟨V,hV,_⟩:=vT hk;obtain⟨es,x,rfl⟩:=nN hV k33;exact XO hp
  ·exact M9 k33
 exact AOV k2 k4 k7 k3
end Go.Proofs.YtjdfjgmebalaaaaGreat.P
namespace Go.Av
theorem AMM {path:List Int} {p a:Pn} {x:Int} (h:Pn.at path p=some a):Pn.at (path++[x]) p=if 0≤x then a.kids[x.toNat]? else none:=by
 rw[AP path p a [x] h];unfold Pn.at;split
 ·cases a.kids[x.toNat]?<;>simp[Pn.at]
 ·rfl
theorem AMN {path r:List Int} {p:Pn} (h:Pn.at path p=none):Pn.at (path++r) p=none:=by
 induction path generalizing p with
 | nil=>simp[Pn.at]at h
 | cons i path ih =>
  simp only[yO,Pn.at]at h ⊢;split
  ·rename_i h0;rw[if_pos h0]at h
   cases hk:p.kids[i.toNat]? with
   | none=>rfl
   | some b=>rw[hk]at h;exact ih h
  ·rfl
theorem ADW (path:List Int) (p:Pn):∃ j:Nat,(∀ i,i<j→∃ (x:Int) (a b:Pn),path[i]?=some x∧Pn.at (path.take i) p=some a∧0≤x∧a.kids[x.toNat]?=some b∧Pn.at (path.take (i+1)) p=some b)∧((∃ a,j=path.length∧Pn.at path p=some a)∨(∃ (x:Int) (a:Pn),path[j]?=some x∧Pn.at (path.take j) p=some a∧(0≤x→a.kids[x.toNat]?=none)∧Pn.at path p=none)):=by
 generalize hn:path.length=n
 induction n generalizing path with
 | zero =>
  obtain rfl:=zW.1 hn;exact⟨0,fun i hi=>by omega, .inl ⟨p,rfl,rfl⟩⟩
 | succ n ih =>
  obtain⟨l,x,rfl⟩:∃ l x,path=l++[x]:=by
   rcases zB8 path with h|⟨l,x,h⟩
   ·rw[h]at hn;simp at hn
   ·exact⟨l,x,by simpa using h⟩
  have hln:l.length=n:=by simpa using hn
  subst hln;obtain⟨j,h1,h2⟩:=ih l rfl
  have hlt:∀ i,i<j→i<l.length:=fun i hi=>by
   obtain⟨y,_,_,h,_⟩:=h1 i hi;exact(zZ.1 h).1
  have h1':∀ i,i<j→∃ (x':Int) (a b:Pn),(l++[x])[i]?=some x'∧Pn.at ((l++[x]).take i) p=some a∧0≤x'∧a.kids[x'.toNat]?=some b∧Pn.at ((l++[x]).take (i+1)) p=some b:=fun i hi=>by
   obtain⟨y,a,b,q1,q2,q3,q4,q5⟩:=h1 i hi;have hl:=hlt i hi;refine⟨y,a,b,by rw[zH hl];exact q1,by rw[xJ (by omega)];exact q2,q3,q4,by rw[xJ (by omega)];exact q5⟩
  rcases h2 with ⟨a,rfl,ha⟩|⟨y,a,q1,q2,q3,q4⟩
  ·have hs:=AMM (x:=x) ha;by_cases hx:0≤x
   ·rw[if_pos hx]at hs
    cases hk:a.kids[x.toNat]? with
    | none=>exact⟨l.length,h1', .inr ⟨x,a,by simp,by simpa using ha,fun _=>hk,by rw[hs,hk]⟩⟩
    | some b =>
     refine⟨l.length+1,fun i hi=>?_, .inl ⟨b,by simp,by rw[hs,hk]⟩⟩;by_cases hi':i<l.length
     ·exact h1' i hi'
     ·obtain rfl:i=l.length:=by omega
      exact⟨x,a,b,by simp,by simpa using ha,hx,hk,by rw[zY (by simp),hs,hk]⟩
   ·rw[if_neg hx]at hs;exact⟨l.length,h1', .inr ⟨x,a,by simp,by simpa using ha,fun h=>absurd h hx,hs⟩⟩
  ·have hl:=(zZ.1 q1).1;exact⟨j,h1', .inr ⟨y,a,by rw[zH hl];exact q1,by rw[xJ (by omega)];exact q2,q3,AMN q4⟩⟩
theorem UE:∀ (path:List Int) (p a:Pn),p.thin→Pn.at path p=some a→a.thin
 | [],p,a,h,e=>by simp[Pn.at]at e;subst e;exact h
 | i::r,p,a,h,e=>by
  obtain⟨n,rfl,b,hb,hr⟩:=Pn.rY e;exact UE r b a (((Pn.bI p).1 h).2.2.2.2 b (zU hb)) hr
theorem Pn.Z6 (l:List Pn) (n:Nat) (x:Pn):(Pn.aA l).set n x.cells=Pn.aA (l.set n x):=by
 induction l generalizing n with
 | nil=>simp[Pn.aA]
 | cons a l ih=>cases n with
  | zero=>simp[Pn.aA]
  | succ n=>simp[Pn.aA,ih n]
end Go.Av
namespace Go.Proofs.YtjdfjgmebalaaaaGreat.P
open Go Go.Av
set_option maxRecDepth 4000
set_option maxHeartbeats 4000000
def AR2 (a:Pn):Option Blk:=some (.box [.i (.int a.kind), .i (.int a.table), .i (.isl (Ex.aA a.exprs)), .i (.isl (aF a.cols)), .i (.isl (Pn.aA a.kids))])
def PAX (p:Pn) (path:List Int) (a:Pn) (i:Nat):AS :=
 { env:=[(0, .i (.agg [.int p.kind, .int p.table, .isl (Ex.aA p.exprs), .isl (aF p.cols), .isl (Pn.aA p.kids)])),(1, .i (.isl (aF path))),(2, .own 0 0),(4, .own 1 0),(5, .bool false),(6, .int i),(10,jk i (.bool true)),(22,jk i (.bool false))],
   st:=[AR2 a,some (.box [.int 0, .int 0, .nils, .nils, .nils])] }
theorem ABK {p:Pn} (hp:p.thin) {path:List Int} (hl:path.length<1000000):aI C0 101 [.i (.agg p.cells), .i (.isl (aF path))] []=some (.tup [.i (.agg ((Pn.at path p).getD Pn.zero).cells), .bool (Pn.at path p).isSome],[]):=by
 obtain⟨j,h1,h2⟩:=ADW path p;rw[aD rfl Tryz.func101 rfl rfl];simp only[Pn.aB p];simp;rw[aU (fun i=>PAX p path ((Pn.at (path.take i) p).getD Pn.zero) i) j (by simp[PAX,Pn.at,AR2])]
 ·rw[aH]
  rcases h2 with ⟨a,rfl,ha⟩|⟨x,a,q1,q2,q3,q4⟩
  ·simp[PAX,AR2,ha,Pn.aB a]
  ·have r1:=bD q1;have hj:=(zZ.1 q1).1;have ha:=UE _ _ _ hp q2;have hka:=((Pn.bI a).1 ha).2.2.2.1;have w1:IntKind.i64.wrap ((a.kids.length:Int)-1)=a.kids.length-1:=wrO
   have hin:(decide (0≤x∧x≤(a.kids.length:Int)-1))=false:=by
    rw[decide_eq_false_iff_not];rintro⟨g1,g2⟩;have:=zA4.1 (q3 g1);omega
   have hir:=KZ x 0 ((a.kids.length:Int)-1);rw[hin]at hir;simp[PAX,AR2,q2,q4,hj,r1,w1,hir,aS]
 ·intro i hi;obtain⟨x,a,b,q1,q2,q3,q4,q5⟩:=h1 i hi;have r1:=bD q1;have hj:=(zZ.1 q1).1;have ha:=UE _ _ _ hp q2;have hka:=((Pn.bI a).1 ha).2.2.2.1;have hxl:=(zZ.1 q4).1;have r4:=Pn.aN q4;have w1:IntKind.i64.wrap ((a.kids.length:Int)-1)=a.kids.length-1:=wrO;have w2:IntKind.i64.wrap ((i:Int)+1)=i+1:=wrO;have hin:(decide (0≤x∧x≤(a.kids.length:Int)-1))=true:=by rw[zN];omega
  have hir:=KZ x 0 ((a.kids.length:Int)-1);rw[hin]at hir;rw[Pn.aB b]at r4;simp[PAX,AR2,q2,q5,hj,r1,w1,w2,hir,q3,show x<a.kids.length by omega,r4]
end Go.Proofs.YtjdfjgmebalaaaaGreat.P
namespace Go.Av
theorem jO {e:Ex} {a:Pn} (he:e.thin) (ha:a.thin):(filt e a).thin:=by simp[filt,Pn.thin,Pn.p8,he,ha]
theorem H5 {es:List Ex} {a:Pn} (hl:es.length<1000000000) (he:∀ e∈es,e.thin) (ha:a.thin):(proj es a).thin:=by simp[proj,Pn.thin,Pn.p8,hl,ha];exact he
theorem rG {kd:Int} {e:Ex} {a b:Pn} (he:e.thin) (ha:a.thin) (hb:b.thin):(bC kd e a b).thin:=by simp[bC,Pn.thin,Pn.p8,he,ha,hb]
theorem XC {a b:Pn} (ha:a.thin) (hb:b.thin):(dP a b).thin:=by simp[dP,Pn.thin,Pn.p8,ha,hb]
theorem R9 {a b:Ex} (ha:a.thin) (hb:b.thin):(WS a b).thin:=by simp[WS,Ex.thin,Ex.p8,ha,hb]
theorem qD:Ex.zero.thin:=by simp[Ex.zero,Ex.thin,Ex.p8]
theorem Pn.rO {p:Pn} (h:p.thin):p.jT.thin:=by
 unfold Pn.jT
 cases hk:p.kids[0]? with
 | none=>exact Pn.FL
 | some a=>exact((Pn.bI p).1 h).2.2.2.2 a (zU hk)
theorem Pn.A7 {p:Pn} (h:p.thin):p.rM.thin:=by
 unfold Pn.rM
 cases hk:p.kids[1]? with
 | none=>exact Pn.FL
 | some a=>exact((Pn.bI p).1 h).2.2.2.2 a (zU hk)
theorem Pn.WB {p:Pn} (h:p.thin):p.ex0.thin:=by
 unfold Pn.ex0
 cases hk:p.exprs[0]? with
 | none=>exact qD
 | some a=>exact((Pn.bI p).1 h).2.1 a (zU hk)
theorem Ex.rO {e:Ex} (h:e.thin):e.jT.thin:=by
 unfold Ex.jT
 cases hk:e.kids[0]? with
 | none=>exact qD
 | some a=>exact((Ex.bI e).1 h).2 a (zU hk)
theorem Ex.A7 {e:Ex} (h:e.thin):e.rM.thin:=by
 unfold Ex.rM
 cases hk:e.kids[1]? with
 | none=>exact qD
 | some a=>exact((Ex.bI e).1 h).2 a (zU hk)
theorem Ex.UV {l:List Ex} (hl:∀ b∈l,b.thin):∀ e:Ex,e.thin→(e.sub l).thin:=by
 intro e
 induction e using Ex.ind with
 | h k c v ks ih =>
  intro ht;have h:=(Ex.bI _).1 ht;by_cases hk:k=1
  ·unfold Ex.sub;rw[if_pos hk]
   cases hx:l[c.toNat]? with
   | none=>exact qD
   | some b=>exact hl b (zU hx)
  ·rw[Ex.uN l (e:=.mk k c v ks) hk,Ex.bI];refine⟨by simpa [Ex.kids]using h.1,fun x hx=>?_⟩;simp only[Ex.kids,yJ]at hx;obtain⟨y,hy,rfl⟩:=hx;exact ih y hy (h.2 y hy)
theorem Ex.Q0 {f:Int→Int}:∀ e:Ex,e.thin→(e.uX f).thin:=by
 intro e
 induction e using Ex.ind with
 | h k c v ks ih =>
  intro ht;have h:=(Ex.bI _).1 ht;by_cases hk:k=1
  ·rw[Ex.F6 f (e:=.mk k c v ks) hk];exact QT _
  ·rw[Ex.F5 f (e:=.mk k c v ks) hk,Ex.bI];refine⟨by simpa [Ex.kids]using h.1,fun x hx=>?_⟩;simp only[Ex.kids,yJ]at hx;obtain⟨y,hy,rfl⟩:=hx;exact ih y hy (h.2 y hy)
theorem AFP {ws:List Int} {r:Int} {e:Ex} {k q:Pn} (he:e.thin) (hk:k.thin) (h:rwF ws r e k=some q):q.thin:=by
 have k0:=Pn.rO hk;have k1:=Pn.A7 hk;have x0:=Pn.WB hk;have hx:=((Pn.bI k).1 hk).2.1;have hl:=((Pn.bI k).1 hk).1;unfold rwF at h
 repeat' split at h
 all_goals first
  | (cases h;done)
  | (injection h with h;subst h
     first
      | exact jO (R9 x0 he) k0
      | exact jO (Ex.A7 he) (jO (Ex.rO he) hk)
      | exact rG x0 (jO he k0) k1
      | exact rG x0 k0 (jO (Ex.Q0 _ he) k1)
      | exact rG (R9 x0 he) k0 k1
      | exact jO he (rG x0 k0 k1)
      | exact XC (jO he k0) (jO he k1)
      | exact H5 hl hx (jO (Ex.UV hx _ he) k0))
theorem AFM {ws:List Int} (hw:∀ w∈ws,0≤w∧w≤6) {r:Int} {p q:Pn} (hp:p.thin) (h:rwP ws r p=some q):q.thin:=by
 have k0:=Pn.rO hp;have k1:=Pn.A7 hp;have x0:=Pn.WB hp;have hx:=((Pn.bI p).1 hp).2.1;have hl:=((Pn.bI p).1 hp).1;have hx0:=((Pn.bI _).1 k0).2.1;have r0:=Pn.sK hw p.jT 8;have r1:=Pn.sK hw p.rM 8;unfold rwP at h;split at h
 ·exact AFP x0 k0 h
 split at h
 ·injection h with h;subst h;refine H5 (by simp;omega) (fun e he=>?_) (rG (Ex.Q0 _ x0) k1 k0)
  rcases zV.1 he with h|h<;>exact qG _ _ e h
 split at h
 ·injection h with h;subst h;exact k0
 split at h
 ·injection h with h;subst h;refine H5 (by simpa using hl) (fun e he=>?_) (Pn.rO k0);obtain⟨y,hy,rfl⟩:=yJ.1 he;exact Ex.UV hx0 y (hx y hy)
 ·cases h
theorem VC {q:Pn} (hq:q.thin):∀ (path:List Int) (p a:Pn),p.thin→Pn.at path p=some a→(Pn.put path p q).thin
 | [],p,a,_,_=>by simpa [Pn.put]using hq
 | x::r,p,a,hp,ha=>by
  obtain⟨n,rfl,b,hb,hr⟩:=Pn.rY ha;have h:=(Pn.bI p).1 hp;have ih:=VC hq r b a (h.2.2.2.2 b (zU hb)) hr;rw[Pn.EU q hb,Pn.bI];refine⟨h.1,h.2.1,h.2.2.1,by simpa [Pn.kids]using h.2.2.2.1,fun c hc=>?_⟩;simp only[Pn.kids]at hc
  rcases zA0 hc with h1|h1
  ·exact h.2.2.2.2 c h1
  ·rw[h1];exact ih
end Go.Av
namespace Go.Proofs.YtjdfjgmebalaaaaGreat.P
open Go Go.Av
set_option maxRecDepth 4000
set_option maxHeartbeats 4000000
theorem MF {p q:Pn} (hq:q.thin):aI C0 103 [.i (.agg p.cells), .i (.isl []), .i (.agg q.cells)] []=some (.i (.agg q.cells),[]):=by
 have h:=JE q hq;rw[aD rfl Tryz.func103 rfl rfl];rw[Pn.aB p,Pn.aB q]at *
 by_cases he:q.exprs=[]
 ·by_cases hk:q.kids=[]
  ·simp[pcX,pcS,hk,he,Pn.aA,Ex.aA]at h;simp[h,hk,he,Pn.aA,Ex.aA]
  ·have hkl:q.kids.length≠0:=fun h=>hk (zW.1 h)
   simp[pcX,pcS,hk,he,aP hkl,aJ hkl,Ex.aA]at h;simp[h,he,Ex.aA]
 ·have hel:q.exprs.length≠0:=fun h=>he (zW.1 h)
  by_cases hk:q.kids=[]
  ·simp[pcX,pcS,hk,he,aP hel,aJ hel,Pn.aA]at h;simp[h,hk,Pn.aA]
  ·have hkl:q.kids.length≠0:=fun h=>hk (zW.1 h)
   simp[pcX,pcS,hk,he,aP hel,aJ hel,aP hkl,aJ hkl]at h;simp[h]
theorem DJ {q:Pn} (hq:q.thin):∀ (path:List Int) (p a:Pn),p.thin→path.length<1000000→Pn.at path p=some a→aI C0 103 [.i (.agg p.cells), .i (.isl (aF path)), .i (.agg q.cells)] []=some (.i (.agg (Pn.put path p q).cells),[])
 | [],p,a,hp,hl,ha=>by simpa [aF,Pn.put]using MF (p:=p) hq
 | x::r,p,a,hp,hl,ha=>by
  obtain⟨n,rfl,b,hb,hr⟩:=Pn.rY ha;have hrl:r.length<1000000:=by simp at hl;omega
  have ih:=DJ hq r b a (((Pn.bI p).1 hp).2.2.2.2 b (zU hb)) hrl hr;have h:=JE p hp;have hk:p.kids≠[]:=fun h=>by rw[h]at hb;simp at hb
  have hkl:p.kids.length≠0:=fun h=>hk (zW.1 h)
  have hn:=(zZ.1 hb).1;have r4:=Pn.aN hb;rw[Pn.EU q hb,aD rfl Tryz.func103 rfl rfl];generalize Pn.put r b q=z at *
  have hs:=Pn.Z6 p.kids n z;have hsl:(p.kids.set n z).length=p.kids.length:=by simp
  have hsn:p.kids.set n z≠[]:=fun h=>by rw[h]at hsl;simp at hsl;exact hkl hsl.symm
  have ht:(Pn.aA (p.kids.set n z)).take p.kids.length=Pn.aA (p.kids.set n z):=zY (by simp);have hlen1:(r.length:Int)+1≠0:=by omega
  have hone:(1:Int)≤(r.length:Int)+1:=by omega
  rw[Pn.aB p,Pn.aB q]at *
  rw[Pn.aB b,Pn.aB z]at *
  have htr:List.take r.length (aF r)=aF r:=zY (by simp);by_cases he:p.exprs=[]
  ·simp[pcX,pcS,hk,he,aP hkl,aJ hkl,Ex.aA]at h;simp[h,he,Ex.aA,aF,Pn.cells,hn,hlen1,hone,r4,ih,hs,ht,htr]
  ·have hel:p.exprs.length≠0:=fun h=>he (zW.1 h)
   simp[pcX,pcS,hk,he,aP hel,aJ hel,aP hkl,aJ hkl]at h;simp[h,aF,Pn.cells,hn,hlen1,hone,r4,ih,hs,ht,htr]
theorem R4 {ws:List Int} (hw:lH ws=true) {p:Pn} (hp:p.wd ws 8≠0) (r:Int) {path:List Int} (hl:path.length<1000000):aI C0 65 [.i (.agg p.cells), .i (.isl (aF ws)), .i (.agg [.int r, .isl (aF path)])] []=some (.tup [.i (.agg (FB (apS ws r path p)).cells), .bool (apS ws r path p).isSome],[]):=by
 have ht:=dI p 8 hp;have c1:=ABK ht hl;unfold apS
 cases ha:Pn.at path p with
 | none =>
  rw[ha]at c1;rw[aD rfl Tryz.func65 rfl rfl];simp only[Option.getD,Option.isSome,Option.bind,FB,aS,Pn.aB p]at c1 ⊢;simp[c1]
 | some a =>
  rw[ha]at c1
  have ha8:a.wd ws 8≠0:=by
   obtain⟨h1,h2⟩:=UD path p 8 a hp ha;rw[Pn.iT a _ 8 h2 (by omega)];exact h2
  have hat:=dI a 8 ha8;have c2:=AOW hw ha8 r;unfold SRw at c2
  cases hq:rwP ws r a with
  | none =>
   rw[hq]at c2;rw[aD rfl Tryz.func65 rfl rfl];simp only[hq,Option.getD,Option.isSome,Option.bind,FB,aS,Pn.aB p,Pn.aB a]at c1 c2 ⊢;simp[c1,c2]
  | some q =>
   rw[hq]at c2;have hqt:=AFM (jY hw) hat hq;have c3:=DJ hqt path p a ht hl ha;have hzt:=VC hqt path p a ht ha;have c4:=GH hw hzt;have hv:((some a).bind fun a=>(rwP ws r a).bind fun q=>if(Pn.put path p q).wd ws 8≠0 then some (Pn.put path p q)else none)=if(Pn.put path p q).wd ws 8≠0 then some (Pn.put path p q)else none:=by simp[hq]
   rw[hv];generalize Pn.put path p q=z at *
   rw[aD rfl Tryz.func65 rfl rfl];by_cases hz:z.wd ws 8=0
   ·rw[hz]at c4;simp only[hq,hz,ne_eq,not_true_eq_false,if_false,Option.getD,Option.isSome,Option.bind,FB,aS,Pn.aB p,Pn.aB a,Pn.aB q,Pn.aB z]at c1 c2 c3 c4 ⊢;simp[c1,c2,c3,c4]
   ·simp only[hq,hz,ne_eq,not_false_eq_true,if_true,Option.getD,Option.isSome,Option.bind,FB,Pn.aB p,Pn.aB a,Pn.aB q,Pn.aB z]at c1 c2 c3 c4 ⊢;simp[c1,c2,c3,c4,hz]
end Go.Proofs.YtjdfjgmebalaaaaGreat.P
namespace Go.Av
def atV:Option Pn→AV
 | some a=>.i (.iref a.cells)
 | none=>.i (.lit (.pointer none))
def atI (path:List Int) (p:Pn):Option Pn:=if path.length≤8 then Pn.at path p else none
end Go.Av
namespace Go.Proofs.YtjdfjgmebalaaaaGreat.P
open Go Go.Av
set_option maxRecDepth 4000
set_option maxHeartbeats 4000000
def AIX (p:Pn) (path:List Int) (i:Nat):AS :=
 { env:=[(0, .i (.iref ((Pn.at (path.take i) p).getD Pn.zero).cells)),(1, .i (.isl (aF path))),(4, .i (.lit (.pointer none))),(6,jk i (.int ((path[i-1]?).getD 0))),(9, .bool false),(10, .i (.isl (aF path))),(11, .int path.length),(12, .int i),(13,jk i (.bool true)),(26,jk i (.bool false))],st:=[] }
theorem AJ8 (p:Pn) (path:List Int):aI C0 69 [.i (.iref p.cells), .i (.isl (aF path))] []=some (atV (atI path p),[]):=by
 rw[aD rfl Tryz.func69 rfl rfl];by_cases hl:path.length≤8
 ·have hl':¬ (8:Int)<path.length:=by omega
  obtain⟨j,h1,h2⟩:=ADW path p;simp[hl',atI,hl];rw[aU (AIX p path) j (by simp[AIX,Pn.at])]
  ·rw[aH]
   rcases h2 with ⟨a,rfl,ha⟩|⟨x,a,q1,q2,q3,q4⟩
   ·simp[AIX,ha,atV]
   ·have hj:=(zZ.1 q1).1;have r1:=bD q1
    have hx:x<0∨(0≤x∧(a.kids.length:Int)≤x):=by
     by_cases h:x<0
     ·exact .inl h
     ·have:=q3 (by omega);simp at this;exact .inr ⟨by omega,by omega⟩
    simp only[AIX,q2,zA6,q4,atV];rw[Pn.aB a]
    rcases hx with h|⟨h,h'⟩
    ·simp[hj,r1,h]
    ·have hn:¬ x<0:=by omega
     simp[hj,r1,hn,h']
  ·intro i hi;obtain⟨x,a,b,q1,q2,q3,q4,q5⟩:=h1 i hi;obtain⟨hj,qx⟩:=zZ.1 q1;have r1:=bD q1;have hk:=(zZ.1 q4).1;have r2:=Pn.aN q4;obtain⟨n,rfl⟩:=yS q3;simp only[Int.ofNat_eq_natCast,Int.toNat_natCast]at *
   have w2:IntKind.i64.wrap ((i:Int)+1)=i+1:=wrO;have n1:¬ (n:Int)<0:=by omega
   have n2:¬ a.kids.length≤n:=by omega
   simp only[AIX,q2,q5,zA6];rw[Pn.aB a,Pn.aB b]at *
   simp[hj,r1,n1,n2,hk,r2,w2,q1,qx]
 ·have hl':(8:Int)<path.length:=by omega
  simp[hl',atI,hl,atV]
end Go.Proofs.YtjdfjgmebalaaaaGreat.P
namespace Go.Proofs.YtjdfjgmebalaaaaGreat
open Go Go.Av
theorem PN {g:FuncId} {q:List AV→StL→Option (AV×StL)} (h:C0.prim g=some q):(g=92∧q=U4)∨(g=59∧q=AH6):=by
 have h:AKV g=some q:=h;unfold AKV at h;split at h
 ·injection h with h;exact .inl ⟨rfl,h.symm⟩
 ·injection h with h;exact .inr ⟨rfl,h.symm⟩
 ·cases h
theorem ATA:PrimOk C0:=by
 constructor
 ·intro g args st p h;unfold eH at h
  cases hq:C0.prim g with
  | none=>rw[hq]at h;cases h
  | some q =>
   rcases PN hq with ⟨rfl,rfl⟩|⟨rfl,rfl⟩
   ·exact⟨Tryz.f92,Tryz.func92,by decide,rfl⟩
   ·exact⟨Tryz.f59,Tryz.func59,by decide,rfl⟩
 ·intro g args stl r stl' h w m φ vs hi hr h0;unfold eH at h
  cases hq:C0.prim g with
  | none=>rw[hq]at h;cases h
  | some q =>
   rcases PN hq with ⟨rfl,rfl⟩|⟨rfl,rfl⟩
   ·rw[hq]at h;obtain⟨e,he,hres,hor⟩:=YX h;injection hres with h1 h2;subst h1;subst h2
    rcases hor with ⟨rfl,rfl⟩|⟨j,es,rfl,rfl,hes⟩
    ·exact ED he hi hr h0
    ·exact YZ he hes hi hr h0
   ·rw[hq]at h;obtain⟨p,⟨k1,k2,k3⟩,rfl,rfl,hres⟩:=YW h;injection hres with h1 h2;subst h1;subst h2;exact G.NH k1 k2 k3 hi hr h0
theorem dK:SoundOk C0:=pG (C:=C0) ft nt eqS mo ATA
end Go.Proofs.YtjdfjgmebalaaaaGreat
namespace Go.Av
section
variable {wi:World} {mi:Mem} {nt:Nat}
theorem GR.AM1 {ok:Nat→Prop} {env:Nat→AV} {st:Store} {a:Act} {w:World} {d:Nat} {m1:Mem} {φ:Pl} {p:Pn} (hd:d<nt) (hi:Inv w m1 φ st) (henv:∀ t,Rep m1 φ (env t) (a.tmps.getD t undef)) (hadv:Adv wi mi (fun _=>none) w m1 φ) (hok:∀ id,φ id≠none→ok id) (hsz:nt≤a.tmps.size) (hdf:a.defers=[])
 {e:Ending} {w':World} (h:sI w m1 p e w'):∃ y,e=.returned y∧∃ v0 v1 v2 v3 v4 F,GR wi mi nt ok (CPY w p F v0 v1 v2 v3 v4) (upd env d (.i (.agg [.lit v0, .lit v1, .lit v2, .lit v3, .lit v4]))) st (a.put (some d) y) w':=by
 obtain⟨v0,v1,v2,v3,v4,F,m2,rfl,hone,hm2,ha,hc⟩:=h;obtain⟨i2,a2⟩:=hi.AQO ha hm2;refine⟨_,rfl,v0,v1,v2,v3,v4,F,⟨m2,φ,i2,sS (dst:=some d) (fun t=>(henv t).mono a2.mle a2.ple) hsz (by simpa [U2]using hd) (.i (.agg ?_)),hadv.trans a2,hok,?_⟩,by rw[lN];exact hsz,by rw[gQ];exact hdf⟩
 ·exact .cons (.lit _) (hone _ (by simp)) (.cons (.lit _) (hone _ (by simp)) (.cons (.lit _) (hone _ (by simp)) (.cons (.lit _) (hone _ (by simp)) (.cons (.lit _) (hone _ (by simp)) .nil))))
 ·refine⟨hc.th,hc.cells,hc.nd,fun f hf=>?_,hc.kc⟩;obtain⟨k1,k2,k3,k4,k5⟩:=hc.all f hf;refine⟨k1,k2,fun id b n e ho=>?_,k4,k5⟩;have:=hi.low id b n f e ho;omega
theorem GR.AGS {ok:Nat→Prop} {env:Nat→AV} {st:Store} {a:Act} {w:World} {d:Nat} {m:Mem} {φ:Pl} {p y:Pn} {root:Nat} {F:List Nat} {path:List Int} (hd:d<nt) (hi:Inv w m φ st) (henv:∀ t,Rep m φ (env t) (a.tmps.getD t undef)) (hadv:Adv wi mi (fun _=>none) w m φ) (hok:∀ id,φ id≠none→ok id) (hsz:nt≤a.tmps.size) (hdf:a.defers=[]) (hr:RAW wi root p F [] w m φ)
 {e:Ending} {w':World} (h:∃ bq oq Fa Fy Fz m',e=.returned (.pointer (some ⟨bq,oq,none⟩))∧AtP w m p root 0 F path y bq oq Fa Fy Fz∧jU w' m'∧Adv w (dS w) (fun _=>none) w' m' (fun _=>none)) :
 ∃ v,e=.returned v∧∃ bq oq Fa Fy Fz,GR wi mi nt ok (RAT wi root p F path y bq oq Fa Fy Fz) (upd env d (.i (.lit (.pointer (some ⟨bq,oq,none⟩))))) st (a.put (some d) v) w':=by
 obtain⟨bq,oq,Fa,Fy,Fz,m',rfl,hat,hm,ha⟩:=h;have hsame:∀ f,f<w.heap.size→w'.heap[f]?=w.heap[f]?:=fun f hf=>ha.block f hf fun id b n e=>by cases e
 have i2:=hi.later ha.size hsame
 have a2:Adv w m φ w' m φ:=⟨ha.size,ha.os,ha.tape,ha.output,fun b hb' _=>hsame b hb', .refl _,fun _ _ _ _=>rfl, .refl _,fun _ _ _ _ e ho=>.inr (gF.not e ho)⟩
 exact⟨_,rfl,bq,oq,Fa,Fy,Fz,⟨m,φ,i2,sS (dst:=some d) henv hsz (by simpa [U2]using hd) (.i (.lit _)),hadv.trans a2,hok,RAT.G9 _ _ _ _ _ _ _ _ _ _ _ _ _ _ _ _ _ a2 ⟨hr,hat⟩⟩,by rw[lN];exact hsz,by rw[gQ];exact hdf⟩
end
end Go.Av
namespace Go.Proofs.YtjdfjgmebalaaaaGreat.P
open Go Go.Av G
theorem AV1:Tryz.f59.name≠ "runtime.NumGoroutine":=by decide
theorem AV2:Tryz.f59.body.isSome=true:=rfl
theorem hb48:Tryz.f69.body.isSome=true:=rfl
theorem Ab6:Tryz.f69.name≠ "runtime.NumGoroutine":=by decide
set_option maxRecDepth 4000
set_option maxHeartbeats 8000000
theorem ARR {α:Type} (f:Nat→α) (a:Nat) (x y:α):upd (upd f a x) a y=upd f a y:=by funext i;simp only[upd];split<;>rfl
def TEV (p:Pn) (ws:List Int) (r:Int) (path:List Int) (v3 v5 v6 v7 v8 v9 v10 v11 v15 v21 v36:AV):List (Nat×AV):=[(0, .i (.agg p.cells)),(1, .i (.isl (aF ws))),(2, .i (.agg [.int r, .isl (aF path)])),(3,v3),(5,v5),(6,v6),(7,v7),(8,v8),(9,v9),(10,v10),(11,v11),(15,v15),(21,v21),(36,v36)]
def bxP (p:Pn):Option Blk:=some (.box (kV p.cells))
def bxS (r:Int) (path:List Int):Option Blk:=some (.box [.i (.int r), .i (.isl (aF path))])
end Go.Proofs.YtjdfjgmebalaaaaGreat.P
namespace Go.Av
def rqA (q:Pn) (j:Nat):AV :=
 .agg [.int q.kind, .int q.table,if q.exprs=[]then .nils else .osl j 5 0 q.exprs.length,if q.cols=[]then .nils else .osl (if q.exprs=[]then j else j+1) 1 0 q.cols.length,if q.kids=[]then .nils else .osl (if q.exprs=[]then(if q.cols=[]then j else j+1)else(if q.cols=[]then j+1 else j+2)) 5 0 q.kids.length]
def rqB (q:Pn):StL:=(if q.exprs=[]then []else [some (.tre 5 (Ex.aA q.exprs))])++((if q.cols=[]then []else [some (.arr 1 (aF q.cols))])++(if q.kids=[]then []else [some (.tre 5 (Pn.aA q.kids))]))
section
variable {w:World} {m:Mem}
theorem AKZ {φ:Pl} {st:StL} (hi:Inv w m φ (aV st)) (hb:∀ id,φ id≠none→id<st.length) {b len:Nat} {F:List Nat} {blk:Blk} (hbF:b∈F) (hlt:∀ f∈F,f<w.heap.size) (hfr:∀ f∈F,gF φ f) (hblk:∀ φ':Pl,BlkOk w m φ' b ⟨len,fun f=>f∈F⟩ blk) :
 Inv w m (upd φ st.length (some (b,⟨len,fun f=>f∈F⟩))) (aV (st++[some blk]))∧∀ id,upd φ st.length (some (b,⟨len,fun f=>f∈F⟩)) id≠none→id<st.length+1:=by
 have hp:PLe φ (upd φ st.length (some (b,⟨len,fun f=>f∈F⟩))):=fun i r n e=>by
  refine⟨n,?_,rfl,fun _ h=>h⟩;have:i≠st.length:=fun h=>by have:=hb i (by rw[e];simp);omega
  simp[upd,this,e]
 have hst:∀ i blk1,aV (st++[some blk]) i=some blk1→(i≠st.length∧aV st i=some blk1)∨(i=st.length∧blk1=blk):=by
  intro i blk1 h;rw[pE]at h;by_cases h1:i<st.length
  ·rw[zH h1]at h;exact .inl ⟨by omega,by rw[pE];exact h⟩
  ·rw[zB (by omega)]at h
   cases h2:i-st.length with
   | zero=>rw[h2]at h;simp at h;exact .inr ⟨by omega,h.symm⟩
   | succ j=>rw[h2]at h;simp at h
 refine⟨⟨hi.mem,?_,?_,?_⟩,?_⟩
 ·intro i blk1 h
  rcases hst i blk1 h with ⟨h1,h2⟩|⟨rfl,rfl⟩
  ·obtain⟨r,n,q1,q2,q3⟩:=hi.live i blk1 h2;exact⟨r,n,by simp[upd,h1,q1],q2,q3.mono q2.1 (fun _ _=>rfl) (.refl _) hp fun _ _ _=>rfl⟩
  ·exact⟨b,⟨len,fun f=>f∈F⟩,by simp[upd],⟨hbF,hlt⟩,hblk _⟩
 ·intro i j r r' n n' b1 b2 f e1 e2 p1 p2 o1 o2
  rcases hst i b1 e1 with ⟨h1,h2⟩|⟨rfl,rfl⟩<;>rcases hst j b2 e2 with ⟨h3,h4⟩|⟨rfl,rfl⟩
  ·simp[upd,h1]at p1;simp[upd,h3]at p2;exact hi.inj i j r r' n n' b1 b2 f h2 h4 p1 p2 o1 o2
  ·simp[upd,h1]at p1;simp[upd]at p2;obtain⟨rfl,rfl⟩:=p2;exact absurd o1 (hfr f o2 i r n p1)
  ·simp[upd,h3]at p2;simp[upd]at p1;obtain⟨rfl,rfl⟩:=p1;exact absurd o2 (hfr f o1 j r' n' p2)
  ·rfl
 ·intro i r n f e ho;by_cases h:i=st.length
  ·simp[upd,h]at e;obtain⟨rfl,rfl⟩:=e;exact hlt f ho
  ·simp[upd,h]at e;exact hi.low i r n f e ho
 ·intro id h;by_cases h1:id=st.length
  ·omega
  ·simp[upd,h1]at h;have:=hb id h;omega
theorem ADV:∀ {cs:List IV} {vs:List Value} {F:List Nat},TCells w cs vs F→kX cs=true→F=[]
 | _,_,_, .nil,_=>rfl
 | _,_,_, .lit _ r,h=>ADV r (by simp only[kX,zT]at h;exact h.2)
 | _,_,_, .isl0 _ r,h=>ADV r (by simp only[kX,zT]at h;exact h.2)
 | _,_,_, .isl (es:=es) hn _ _ _ _ _ _ _,h=>by
  cases es with
  | nil=>exact absurd rfl hn
  | cons=>simp[kX,kI]at h
theorem SY {φ:Pl} {st:StL} (hi:Inv w m φ (aV st)) (hb:∀ id,φ id≠none→id<st.length) {es:List (List IV)} {k:Nat} {v:Value} {F:List Nat} (hk0:0<k) (hk:∀ e∈es,e.length=k) (ht:TCells w [.isl es] [v] F) (hn:F.Nodup) (hm:∀ f∈F,∀ o,m f o=none) (hlt:∀ f∈F,f<w.heap.size) (hfr:∀ f∈F,gF φ f)
 (hnil:es=[]→v=.slice none 0 0) {blk:Blk} (hmk:blk=.tre k es∨(blk=.arr k es∧fG es=true)) (c:Prop) [Decidable c] (hc:c↔es=[]) :
 ∃ φ',Inv w m φ' (aV (st++if c then []else [some blk]))∧(∀ id,φ' id≠none→id<(st++if c then []else [some blk]).length)∧PLe φ φ'∧Rep m φ' (if c then .nils else .osl st.length k 0 es.length) v∧(∀ f,gF φ f→f ∉ F→gF φ' f)∧∀ id b n f,φ' id=some (b,n)→n.own f→f∈F∨φ id=some (b,n):=by
 by_cases h:c
 ·have he:=hc.1 h;simp only[h,if_true,yU];exact⟨φ,hi,hb, .refl _,by rw[hnil he];exact .nils,fun f h1 _=>h1,fun id b n f h1 _=>.inr h1⟩
 ·have he:es≠[]:=fun e=>h (hc.2 e)
  simp only[h,if_false]
  cases ht with
  | isl0=>exact absurd rfl he
  | @isl b kk cap _ us G _ _ F1 t1 t2 t3 t4 t5 t6 t7 t8 =>
   cases t8
   obtain rfl:kk=k:=by
    cases es with
    | nil=>exact absurd rfl he
    | cons a l=>rw[← t4 a (by simp),hk a (by simp)]
   obtain⟨T,t2,t9⟩:=t2;simp only[yU]at hn hm hlt hfr ⊢
   have hblk:∀ φ':Pl,BlkOk w m φ' b ⟨us.length,fun f=>f∈b::G⟩ blk:=by
    intro φ';have hfit:kk*es.length≤us.length:=xM (zD kk t6) t5
    rcases hmk with rfl|⟨rfl,hbr⟩
    ·exact .tre (T:=T) t2 rfl hk0 t4 t7.toU hfit hn (fun f hf=>zA2 _ hf) (fun f hf o=>hm f hf o) t9
    ·have hGe:G=[]:=ADV t7 (gD hbr);subst hGe;exact .arr (T:=T) t2 rfl hk0 t4 (WQ (gD hbr) t7.toI) hfit (hm b (by simp)) (fun f hf=>by simpa using hf) t9
   obtain⟨i1,i2⟩:=AKZ hi hb (b:=b) (len:=us.length) (F:=b::G) (by simp) hlt hfr hblk;refine⟨_,i1,by simpa using i2,fun i r n e=>⟨n,?_,rfl,fun _ h=>h⟩,?_,?_,?_⟩
   ·have:i≠st.length:=fun h=>by have:=hb i (by rw[e];simp);omega
    simp[upd,this,e]
   ·exact .osl (b:=b) (n:=⟨us.length,fun f=>f∈b::G⟩) (by simp[upd]) t6 (by simpa using t5) (fun _=>by simp) (fun h=>by cases h)
   ·intro f h1 h2 id r n e ho;by_cases hid:id=st.length
    ·simp[upd,hid]at e;obtain⟨rfl,rfl⟩:=e;exact h2 (zS.2 ho)
    ·simp[upd,hid]at e;exact h1 id r n e ho
   ·intro id r n f e ho;by_cases hid:id=st.length
    ·simp[upd,hid]at e;obtain⟨rfl,rfl⟩:=e;exact .inl (zS.2 ho)
    ·simp[upd,hid]at e;exact .inr e
end
theorem LV {l:List Ex}:l=[]↔Ex.aA l=[]:=by cases l<;>simp[Ex.aA]
theorem LQ {l:List Pn}:l=[]↔Pn.aA l=[]:=by cases l<;>simp[Pn.aA]
theorem LU {l:List Int}:l=[]↔aF l=[]:=by cases l<;>simp[aF]
theorem AUQ:∀ (l:List Ex),∀ r∈Ex.aA l,r.length=5
 | [],r,h=>by simp[Ex.aA]at h
 | a::l,r,h=>by
  simp only[Ex.aA,zS]at h
  rcases h with rfl|h
  ·rw[Ex.aB];rfl
  ·exact AUQ l r h
theorem AUO:∀ (l:List Pn),∀ r∈Pn.aA l,r.length=5
 | [],r,h=>by simp[Pn.aA]at h
 | a::l,r,h=>by
  simp only[Pn.aA,zS]at h
  rcases h with rfl|h
  ·exact Pn.bY _
  ·exact AUO l r h
theorem AUP:∀ (l:List Int),∀ r∈aF l,r.length=1
 | [],r,h=>by simp[aF]at h
 | a::l,r,h=>by
  simp only[aF,yT,zS]at h
  rcases h with rfl|h
  ·rfl
  ·exact AUP l r (by simpa [aF]using h)
theorem sI.own {wi:World} {mi:Mem} {p:Pn} {e:Ending} {w:World} (h:sI wi mi p e w):bV wi mi (fun _=>none) (rqA p 0) (rqB p) e w:=by
 obtain⟨v0,v1,v2,v3,v4,F,m,rfl,hone,hm,ha,hc⟩:=h;have ht:=hc.kc.1.toT (fun f hf=>(hc.all f hf).2.2.2.2);obtain⟨nE,nC,nK⟩:=hc.kc.2;have hnd:=hc.nd;have hall:=hc.all;clear hc;rw[Pn.aB]at ht
 cases ht with
 | lit o0 ht =>
 cases ht with
 | lit o1 ht =>
 obtain⟨FE,G,hF,tE,ht2⟩:=ht.split 1;obtain⟨FC,FK,hG,tC,tK⟩:=ht2.split 1;simp at tE tC tK;subst hG;subst hF;have n1:=zI.1 hnd;have n2:=zI.1 n1.2.1
 have i0:Inv w m (fun _=>none) (aV []):=⟨hm,fun id blk e=>by simp[aV]at e,fun id id' b b' n n' blk blk' f e=>by simp[aV]at e,fun _ _ _ _ e=>by cases e⟩
 obtain⟨φ1,i1,b1,p1,r1,f1,q1⟩:=SY (st:=[]) i0 (fun id h=>absurd rfl h) (k:=5) (by omega) (AUQ p.exprs) tE n1.1 (fun f hf=>(hall f (by simp[hf])).2.2.2.1) (fun f hf=>(hall f (by simp[hf])).2.1) (fun f hf=>(hall f (by simp[hf])).2.2.1) (fun h=>nE (LV.2 h)) (blk:=.tre 5 (Ex.aA p.exprs)) (.inl rfl) (p.exprs=[]) LV;have fr1:∀ f∈FC++FK,gF φ1 f:=fun f hf=>f1 f (hall f (by simp at hf ⊢;exact .inr hf)).2.2.1 fun h=>n1.2.2 f h f hf rfl
 obtain⟨φ2,i2,b2,p2,r2,f2,q2⟩:=SY i1 b1 (k:=1) (by omega) (AUP p.cols) tC n2.1 (fun f hf=>(hall f (by simp[hf])).2.2.2.1) (fun f hf=>(hall f (by simp[hf])).2.1) (fun f hf=>fr1 f (by simp[hf])) (fun h=>nC (LU.2 h)) (blk:=.arr 1 (aF p.cols)) (.inr ⟨rfl,BX _⟩) (p.cols=[]) LU;obtain⟨φ3,i3,b3,p3,r3,f3,q3⟩:=SY i2 b2 (k:=5) (by omega) (AUO p.kids) tK n2.2.1 (fun f hf=>(hall f (by simp[hf])).2.2.2.1) (fun f hf=>(hall f (by simp[hf])).2.1) (fun f hf=>f2 f (fr1 f (by simp[hf])) fun h=>n2.2.2 f h f hf rfl) (fun h=>nK (LQ.2 h)) (blk:=.tre 5 (Pn.aA p.kids)) (.inl rfl) (p.kids=[]) LQ;have r1:=r1.mono (.refl m) (p2.trans p3);have r2:=r2.mono (.refl m) p3;refine⟨_,m,φ3,rfl,?_,by simpa [rqB]using i3,⟨ha.size,ha.os,ha.tape,ha.output,ha.block,ha.mle,ha.mnew,(fun _ _ _ h=>by cases h),fun id b n f e1 e2=>?_⟩,by simpa [rqB]using b3⟩
 ·have ho:∀ v∈[v2,v3,v4],v.oneCell'=true:=fun v hv=>hone v (by simp at hv ⊢;rcases hv with h|h|h<;>simp[h])
  refine .agg (.cons (.i (.lit _)) rfl (.cons (.i (.lit _)) rfl (.cons ?_ (ho _ (by simp)) (.cons ?_ (ho _ (by simp)) (.cons ?_ (ho _ (by simp)) .nil)))))
  ·by_cases c1:p.exprs=[]<;>simpa [c1]using r1
  ·by_cases c1:p.exprs=[]<;>by_cases c2:p.cols=[]<;>simpa [c1,c2]using r2
  ·by_cases c1:p.exprs=[]<;>by_cases c2:p.cols=[]<;>by_cases c3:p.kids=[]<;>simpa [c1,c2,c3]using r3
 ·rcases q3 id b n f e1 e2 with h|h
  ·exact .inl (hall f (by simp[h])).1
  ·rcases q2 id b n f h e2 with h|h
   ·exact .inl (hall f (by simp[h])).1
   ·rcases q1 id b n f h e2 with h|h
    ·exact .inl (hall f (by simp[h])).1
    ·cases h
section
variable {C:Ctx} {wi:World} {mi:Mem} {nt:Nat}
theorem GR.ARD {X:World→Mem→Pl→Prop} {ok:Nat→Prop} {root:Nat} {p:Pn} {F:List Nat} {path:List Int} {y:Pn} {bq oq:Nat} {Fa Fy Fz:List Nat} {env:Nat→AV} {st st':Store} {a:Act} {w:World} {u k:Nat} (h:GR wi mi nt ok (fun w m φ=>RAT wi root p F path y bq oq Fa Fy Fz w m φ∧X w m φ) env st a w) (hu:env u=.i (.lit (.pointer (some ⟨bq,oq,none⟩))))
 (hst:∀ i blk,st' i=some blk→st i=some blk∧kJ blk) (hk:st' k=none) (hX:∀ m φ n,X w m φ→X w m (upd (tX st' φ) k (some (bq,one bq n)))) :
 ∃ pre row post ma,row.length=5∧pre.length=oq∧∀ env',(∀ t,env' t=.junk∨(t=u∧env' t=.own k oq)∨(env' t=env t∧nO st' (env t))) →
   GR wi mi nt (fun id=>st' id≠none∨id=k) (fun w' m' φ'=>(ADK wi root p F path y bq oq Fa Fy Fz k w ma w' m' φ'∧(∃ T,w.heap[bq]?=some (.cells (pre++(row++post)).toArray T (0,0))))∧X w' m' φ') env' (upd st' k (some (.box (kP pre (bN row) post)))) a w:=by
 obtain⟨⟨m,φ,hi,henv,hadv,hok,hr,hx⟩,h6,h7⟩:=h;have hinF:=hr.pos.mem;obtain⟨k1,k2,k3,k4,us,T,k5,k6⟩:=hr.raw.all bq hinF;obtain⟨v0,v1,v2,v3,v4,h5,_,_,_,_⟩:=hr.pos.th.cells;have gc:∀ {o:Nat} {v:Value},w.cell? ⟨bq,o,none⟩=some v→us[o]?=some v:=fun h=>by rwa [bA k5]at h
 have hrow:=MC (gc h5.c0) (gc h5.c1) (gc h5.c2) (gc h5.c3) (gc h5.c4);have hl4:=(zZ.1 (gc h5.c4)).1;have hi2:=hi.AUC hst;have hφk:tX st' φ k=none:=by unfold tX;rw[hk]
 have hfr:gF (tX st' φ) bq:=k3.cut;refine⟨us.take oq,[v0,v1,v2,v3,v4],us.drop (oq+5),m,rfl,by rw[yC];omega,fun env' he=>?_⟩
 have hrep:RepC m (upd (tX st' φ) k (some (bq,one bq us.length))) (kP (us.take oq) (bN [v0,v1,v2,v3,v4]) (us.drop (oq+5))) us:=by
  have h1:=o8 (m:=m) (φ:=upd (tX st' φ) k (some (bq,one bq us.length))) (vs:=us) k6
  have:bN us=kP (us.take oq) (bN [v0,v1,v2,v3,v4]) (us.drop (oq+5)):=by
   conv=>lhs;rw[hrow]
   simp[kP,bN]
  rwa [this]at h1
 have hp:PLe (tX st' φ) (upd (tX st' φ) k (some (bq,one bq us.length))):=fun i r n e=>by
  refine⟨n,?_,rfl,fun _ h=>h⟩;have:i≠k:=fun h=>by rw[h,hφk]at e;cases e
  simp[upd,this,e]
 refine⟨⟨m,upd (tX st' φ) k (some (bq,one bq us.length)),hi2.adopt hk hφk hfr k4 k5 hrep,fun t=>?_,(Adv.cut hadv).adopt k1,fun id hid=>?_,⟨?_,?_⟩,hX m φ _ hx⟩,h6,h7⟩
 ·rcases he t with e|⟨rfl,e⟩|⟨e,e'⟩
  ·rw[e];exact .junk _
  ·have:=henv t;rw[hu]at this;rw[e,this.bQ];exact .own (n:=one bq us.length) (by simp[upd])
  ·rw[e];exact(e'.rep (fun i hi'=>nT hi') (henv t)).mono (.refl _) hp
 ·by_cases e:id=k
  ·exact .inr e
  ·simp[upd,e]at hid
   cases hx:tX st' φ id with
   | none=>exact absurd hx hid
   | some q=>exact .inl (dD hx).2
 ·refine⟨hr.pos, .refl _,⟨one bq us.length,by simp[upd]⟩,k1,fun f hf hne=>?_⟩;obtain⟨q1,q2,q3,q4,q5⟩:=hr.raw.all f hf;refine⟨q1,q2,fun i r n e ho=>?_,q4,rfl,q5⟩;by_cases e2:i=k
  ·subst e2;simp[upd]at e;obtain⟨rfl,rfl⟩:=e;exact hne ho
  ·simp[upd,e2]at e;exact q3 i r n (dD e).1 ho
 ·exact⟨T,by rw[← hrow];exact k5⟩
theorem GR.ATT {ok:Nat→Prop} {root:Nat} {p q:Pn} {F:List Nat} {path:List Int} {y:Pn} {bq oq:Nat} {Fa Fy Fz:List Nat} {env env':Nat→AV} {st st':Store} {a:Act} {w wa:World} {ma:Mem} {k:Nat} {pre row post:List Value} {wx:World} {Fx:List Nat} {v0 v1 v2 v3 v4:Value}
 (h:GR wi mi nt ok (fun w' m' φ'=>(ADK wi root p F path y bq oq Fa Fy Fz k wa ma w' m' φ'∧(∃ T,wa.heap[bq]?=some (.cells (pre++(row++post)).toArray T (0,0))))∧CPY wx q Fx v0 v1 v2 v3 v4 w' m' φ') env st a w) (hwx:wi.heap.size≤wx.heap.size) (hlt:∀ f∈root::F,f<wx.heap.size) (hrl:row.length=5) (hpl:pre.length=oq) (hbox:st k=some (.box (kP pre (bN [v0,v1,v2,v3,v4]) post)))
 (hst:∀ i blk,st' i=some blk→i≠k∧st i=some blk∧kJ blk) (he:∀ t,env' t=.junk∨(env' t=env t∧nO st' (env t))) :
 GR wi mi nt (fun id=>st' id≠none) (RAW wi root (Pn.put path p q) (Fa++(Fx++Fz)) []) env' st' a w:=by
 obtain⟨⟨m,φ,hi,henv,hadv,hk,⟨hr,T0,hrow0⟩,hc⟩,h6,h7⟩:=h;obtain⟨n2,e2⟩:=hr.own;obtain⟨hb2,hok2⟩:=cK hi e2 hbox;have hst2:∀ i blk,st' i=some blk→st i=some blk∧kJ blk:=fun i blk hb=>(hst i blk hb).2
 cases hok2 with
 | @box T _ vs hh hl hrc hm =>
  have hone:=hrc.one;obtain⟨vp,x,rfl,r1,r2⟩:=mG hrc;obtain⟨vr,vq,rfl,r3,r4⟩:=mG r2;obtain rfl:=(nJ r1).symm;obtain rfl:=(nJ r4).symm;obtain rfl:=(nJ r3).symm;have hcell:∀ f∈root::F,f≠bq→∀ j,w.cell? ⟨f,j,none⟩=wa.cell? ⟨f,j,none⟩:=fun f hf hne j=>iL (hr.oth f hf hne).2.2.2.2.1 j
  have sub:∀ f∈root::(Fa++(Fx++Fz)),f∈Fx∨f∈root::F:=fun f hf=>by
   rw[hr.pos.eq]
   rcases zS.1 hf with e|e
   ·exact .inr (by simp[e])
   ·rcases zV.1 e with e|e
    ·exact .inr (by simp[e])
    ·rcases zV.1 e with e|e
     ·exact .inl e
     ·exact .inr (by simp[e])
  have g:∀ (i:Nat),i<5→(pre++([v0,v1,v2,v3,v4]++post))[oq+i]?=[v0,v1,v2,v3,v4][i]?:=fun i hi=>by
   rw[zB (by omega),zH (by simp;omega),hpl,xY]
  have far:∀ (r:List Value),r.length=5→∀ j,oq+5≤j→(pre++(r++post))[j]?=post[j-oq-5]?:=fun r hr j hj=>by
   rw[zB (by omega),zB (by omega),hr,hpl]
  have hth:TH w m (Pn.put path p q) root 0 (Fa++(Fx++Fz)) []:=by
   refine hr.pos.fill hr.le (fun f hf j hj=>?_) (hc.th (.refl _) (fun _ _ _=>rfl) ⟨?_,?_,?_,?_,?_⟩)
   ·by_cases hne:f=bq
    ·subst hne;rw[bA hh,bA hrow0]
     rcases hj with hj|hj|hj
     ·exact absurd rfl hj
     ·rw[zH (by omega),zH (by omega)]
     ·rw[far _ rfl j hj,far _ hrl j hj]
    ·refine hcell f ?_ hne j;rw[hr.pos.eq]
     rcases zS.1 hf with e|e
     ·simp[e]
     ·rcases zV.1 e with e|e<;>simp[e]
   ·rw[bA hh];exact g 0 (by omega)
   ·rw[bA hh];exact g 1 (by omega)
   ·rw[bA hh];exact g 2 (by omega)
   ·rw[bA hh];exact g 3 (by omega)
   ·rw[bA hh];exact g 4 (by omega)
  refine⟨⟨m,tX st' φ,hi.AUC hst2,fun x=>?_,hadv.cut,fun id hid=>?_,?_⟩,h6,h7⟩
  ·rcases he x with e|⟨e,e'⟩
   ·rw[e];exact .junk _
   ·rw[e];exact e'.rep (fun i hi'=>nT hi') (henv x)
  ·cases hx:tX st' φ id with
   | none=>exact absurd hx hid
   | some q=>exact(dD hx).2
  ·have hnd:=hr.pos.nd;rw[hr.pos.eq]at hnd;refine⟨hth,fun hm'=>?_,?_,fun f hf=>?_⟩
   ·rcases zV.1 hm' with e|e
    ·exact hr.pos.nr (by rw[hr.pos.eq];simp[e])
    ·rcases zV.1 e with e|e
     ·have:=(hc.all root e).1;have:=hlt root (by simp);omega
     ·exact hr.pos.nr (by rw[hr.pos.eq];simp[e])
   ·rw[zI]at hnd ⊢;have hz:=zI.1 hnd.2.1;have hltF:∀ f∈Fa++(Fy++Fz),f<wx.heap.size:=fun f hf=>hlt f (by rw[hr.pos.eq];exact zA2 _ hf)
    refine⟨hnd.1,zI.2 ⟨hc.nd,hz.2.1,fun x hx z hz' e=>?_⟩,fun x hx z hz' e=>?_⟩
    ·have:=(hc.all x hx).1;have:=hltF z (by simp[hz']);omega
    ·rcases zV.1 hz' with h|h
     ·have:=(hc.all z h).1;have:=hltF x (by simp[hx]);omega
     ·exact hnd.2.2 x hx z (by simp[h]) e
   ·rcases sub f hf with hf'|hf'
    ·obtain⟨z1,z2,z3,z4,z5⟩:=hc.all f hf';exact⟨Nat.le_trans hwx z1,z2,z3.cut,z4,z5⟩
    by_cases hne:f=bq
    ·subst hne;refine⟨hr.bqn,(zM.1 hh).1,?_,hm,_,T,hh,hone⟩;refine AA hi (fun i blk h=>(hst2 i blk h).1) hbox ?_ e2 hb2.1
     cases hx:st' k with
     | none=>rfl
     | some blk=>exact absurd rfl (hst k blk hx).1
    ·obtain⟨q1,q2,q3,q4,q5,vs',T',q6,q7⟩:=hr.oth f hf' hne;exact⟨q1,q2,q3.cut,q4,vs',T',by rw[q5];exact q6,q7⟩
theorem CPY.other {wx:World} {x:Pn} {Fx:List Nat} {v0 v1 v2 v3 v4:Value} {w:World} {st':Store} {k bq:Nat} (hb:bq<wx.heap.size):∀ m φ n,CPY wx x Fx v0 v1 v2 v3 v4 w m φ→CPY wx x Fx v0 v1 v2 v3 v4 w m (upd (tX st' φ) k (some (bq,one bq n))):=by
 intro m φ n h;refine⟨h.th,h.cells,h.nd,fun f hf=>?_,h.kc⟩;obtain⟨z1,z2,z3,z4,z5⟩:=h.all f hf;refine⟨z1,z2,fun i r n' e ho=>?_,z4,z5⟩;by_cases e2:i=k
 ·subst e2;simp[upd]at e;obtain⟨rfl,rfl⟩:=e;have:f=bq:=ho;omega
 ·simp[upd,e2]at e;exact z3 i r n' (dD e).1 ho
theorem GR.AGT {X:World→Mem→Pl→Prop} (hX:AA4 X) {ok:Nat→Prop} {env:Nat→AV} {st:Store} {a:Act} {w:World} {d:Nat} {m1:Mem} {φ:Pl} {p:Pn} (hd:d<nt) (hi:Inv w m1 φ st) (henv:∀ t,Rep m1 φ (env t) (a.tmps.getD t undef)) (hadv:Adv wi mi (fun _=>none) w m1 φ) (hok:∀ id,φ id≠none→ok id) (hsz:nt≤a.tmps.size) (hdf:a.defers=[]) (hx:X w m1 φ)
 {e:Ending} {w':World} (h:sI w m1 p e w'):∃ y,e=.returned y∧∃ v0 v1 v2 v3 v4 F,GR wi mi nt ok (fun w' m' φ'=>X w' m' φ'∧CPY w p F v0 v1 v2 v3 v4 w' m' φ') (upd env d (.i (.agg [.lit v0, .lit v1, .lit v2, .lit v3, .lit v4]))) st (a.put (some d) y) w':=by
 obtain⟨v0,v1,v2,v3,v4,F,m2,rfl,hone,hm2,ha,hc⟩:=h;obtain⟨i2,a2⟩:=hi.AQO ha hm2;refine⟨_,rfl,v0,v1,v2,v3,v4,F,⟨m2,φ,i2,sS (dst:=some d) (fun t=>(henv t).mono a2.mle a2.ple) hsz (by simpa [U2]using hd) (.i (.agg ?_)),hadv.trans a2,hok,hX _ _ _ _ _ _ a2 hx,?_⟩,by rw[lN];exact hsz,by rw[gQ];exact hdf⟩
 ·exact .cons (.lit _) (hone _ (by simp)) (.cons (.lit _) (hone _ (by simp)) (.cons (.lit _) (hone _ (by simp)) (.cons (.lit _) (hone _ (by simp)) (.cons (.lit _) (hone _ (by simp)) .nil))))
 ·refine⟨hc.th,hc.cells,hc.nd,fun f hf=>?_,hc.kc⟩;obtain⟨k1,k2,k3,k4,k5⟩:=hc.all f hf;refine⟨k1,k2,fun id b n e ho=>?_,k4,k5⟩;have:=hi.low id b n f e ho;omega
def NY (wi:World) (mi:Mem) (p:Pn) (e:Ending) (w:World):Prop :=
 ∃ v0 v1 v2 v3 v4,e=.returned (.tuple #[.agg #[v0,v1,v2,v3,v4], .bool true])∧sI wi mi p (.returned (.agg #[v0,v1,v2,v3,v4])) w
theorem NY.own {wi:World} {mi:Mem} {p:Pn} {e:Ending} {w:World} (h:NY wi mi p e w):bV wi mi (fun _=>none) (.tup [rqA p 0, .bool true]) (rqB p) e w:=by
 obtain⟨v0,v1,v2,v3,v4,rfl,h⟩:=h;obtain⟨v,m,φ,e,r,i,a,b⟩:=h.own;injection e with e;subst e;exact⟨_,m,φ,rfl, .tup (.cons r (.cons (.i (.lit _)) .nil)),i,a,b⟩
end
def ARB (o:Option Pn):AV×StL:=(.tup [rqA (o.getD Pn.zero) 0, .bool o.isSome],rqB (o.getD Pn.zero))
noncomputable def sG:List AV→StL→Option (AV×StL)
 | args,[]=>open Classical in if h:∃ x,ApA args x then some (ARB (apO h.choose.1 h.choose.2.1 h.choose.2.2.1 h.choose.2.2.2))else none
 | _,_=>none
theorem ZK (p:Pn) (ws:List Int) (r:Int) (path:List Int):sG [.i (.agg p.cells), .i (.isl (aF ws)), .i (.agg [.int r, .isl (aF path)])] []=some (ARB (apO p ws r path)):=by
 have h:∃ x,ApA [.i (.agg p.cells), .i (.isl (aF ws)), .i (.agg [.int r, .isl (aF path)])] x:=⟨(p,ws,r,path),rfl⟩
 unfold sG;simp only;rw[dif_pos h];have:=h.choose_spec.inj (y:=(p,ws,r,path)) rfl;rw[this]
theorem R5 {args:List AV} {st:StL} {q:AV×StL} (h:sG args st=some q):∃ p ws r path,args=[.i (.agg (Pn.cells p)), .i (.isl (aF ws)), .i (.agg [.int r, .isl (aF path)])]∧st=[]∧q=ARB (apO p ws r path):=by
 unfold sG at h;split at h
 ·split at h
  ·rename_i hx;injection h with h;exact⟨_,_,_,_,hx.choose_spec,rfl,h.symm⟩
  ·cases h
 ·cases h
end Go.Av
namespace Go.Proofs.YtjdfjgmebalaaaaGreat.P
open Go Go.Av G
set_option maxRecDepth 4000
set_option maxHeartbeats 8000000
theorem AVZ (A B C D X:Option Blk):upd (aV [A,B,C,D]) 3 X=aV [A,B,C,X]:=by
 funext i
 rcases i with _|_|_|_|i
 all_goals simp[upd,aV]
theorem UF {p:Pn} {ws:List Int} {r:Int} {path:List Int} {q:Pn} (h0:p.width ws≠0) (hq:apI ws r path p=some q) {wi:World} {mi:Mem} {vs:List Value} (hi:Inv wi mi (fun _=>none) (aV [])) (hr:RepL mi (fun _=>none) [.i (.agg p.cells), .i (.isl (aF ws)), .i (.agg [.int r, .isl (aF path)])] vs) :
 Calls Tryz.prog 26 vs.toArray wi (bV wi mi (fun _=>none) (.tup [rqA q 0, .bool true]) (rqB q)):=by
 obtain⟨hw,hp8,hv⟩:=nX h0;have hws:=jY hw;unfold apI at hq;split at hq
 rotate_left
 ·cases hq
 rename_i hl
 cases ha:Pn.at path p with
 | none=>rw[ha]at hq;cases hq
 | some a =>
 rw[ha]at hq;simp only[yI]at hq;obtain⟨-,hav⟩:=UD path p 8 a hp8 ha;have ha8:a.wd ws 8≠0:=by rw[Pn.iT a _ 8 hav (by omega)];exact hav
 cases hx:rwL ws r (8-path.length) a with
 | none=>rw[hx]at hq;cases hq
 | some x =>
 rw[hx]at hq;simp only[zA9,Option.some.injEq]at hq;subst hq
 have hxw:x.wd ws (8-path.length)≠0:=by
  unfold rwL at hx
  cases hy:rwP ws r a with
  | none=>rw[hy]at hx;cases hx
  | some y =>
   rw[hy]at hx;simp only[yI]at hx;split at hx
   ·injection hx with hx;subst hx;assumption
   ·cases hx
 have hx8:x.wd ws 8≠0:=by rw[Pn.iT x _ 8 hxw (by omega)];exact hxw
 have hxs:x.small:=⟨by have:=(Pn.OE x 8 hx8).2;omega,dI x 8 hx8,(Pn.OE x 8 hx8).1⟩
 have hps:p.small:=⟨by have:=(Pn.OE p 8 hp8).2;omega,dI p 8 hp8,(Pn.OE p 8 hp8).1⟩
 have c1:=rD p ws;have c2:=AJ8 p path;simp only[atI,hl,if_true,ha,atV]at c2;have c3:=DF hw ha8 r (lv:=8-path.length) (by omega);rw[hx]at c3;simp only[FB,zA6,Option.isSome_some]at c3;have w1:IntKind.i64.wrap (8-(path.length:Int))=((8-path.length:Nat):Int):=by rw[wrO];omega
 refine calls_of_wp (fn:=Tryz.f26) Tryz.func26 rfl ?_;have hv1:vs.length=3:=by simpa using hr.length.symm
 have g0:GR wi mi 45 (fun id=>id<({ env:=[(0, .i (.agg p.cells)),(1, .i (.isl (aF ws))),(2, .i (.agg [.int r, .isl (aF path)]))],st:=[] }:AS).st.length) (fun _ _ _=>True) (aQ [(0, .i (.agg p.cells)),(1, .i (.isl (aF ws))),(2, .i (.agg [.int r, .isl (aF path)]))]) (aV []) { tmps:=vs.toArray++Array.replicate (45-vs.toArray.size) undef,defers:=[] } wi:=by
  refine⟨⟨mi,fun _=>none,hi,?_, .refl _ _ _,fun id h=>absurd rfl h,trivial⟩,by simp;omega,rfl⟩;intro t;have:=mM (m:=mi) (φ:=fun _=>none) (45-vs.toArray.size) hr t
  rcases t with _|_|_|t
  ·simpa [aQ,sF]using this
  ·simpa [aQ,sF]using this
  ·simpa [aQ,sF]using this
  ·simp only[aQ];simp;exact .junk _
 refine wp_seq (wp_mono (GR.eG dK (G:=GS 26) (S:={ env:=[(0, .i (.agg p.cells)),(1, .i (.isl (aF ws))),(2, .i (.agg [.int r, .isl (aF path)]))],st:=[] }) (e:=.normal) (S':={ env:=TEV p ws r path (.own 0 0) (.own 1 0) (.own 2 0) (.bool false) .junk .junk .junk .junk .junk .junk .junk,st:=[bxP p,bxS r path,some (.box zp)] }) mZ (by kernel_rfl) (by
  rw[Pn.aB p]at *
  simp[TEV,bxP,bxS,zp,Pn.aB p]) g0) ?_)
 rintro _ a1 w1' ⟨rfl,g1⟩
 refine wp_seq (wp_mono (GR.eG dK (G:=GS 26) (S:={ env:=TEV p ws r path (.own 0 0) (.own 1 0) (.own 2 0) (.bool false) .junk .junk .junk .junk .junk .junk .junk,st:=[bxP p,bxS r path,some (.box zp)] }) (e:=.normal) (S':={ env:=TEV p ws r path (.own 0 0) (.own 1 0) (.own 2 0) (.bool false) .junk .junk .junk .junk (.bool false) .junk .junk,st:=[bxP p,bxS r path,some (.box zp)] }) mZ (by kernel_rfl) (by
  simp only[TEV,bxP,bxS];rw[Pn.aB p]at *
  simp[zp,c1,h0]) g1) ?_)
 rintro _ a2 w2' ⟨rfl,g2⟩
 refine wp_seq (wp_mono (GR.eG dK (G:=GS 26) (S:={ env:=TEV p ws r path (.own 0 0) (.own 1 0) (.own 2 0) (.bool false) .junk .junk .junk .junk (.bool false) .junk .junk,st:=[bxP p,bxS r path,some (.box zp)] }) (e:=.normal) (S':={ env:=TEV p ws r path (.own 0 0) (.own 1 0) (.own 2 0) (.bool false) (.i (.iref a.cells)) .junk .junk .junk (.bool false) .junk .junk,st:=[some (.fbox p.cells),bxS r path,some (.box zp)] }) mZ (by kernel_rfl) (by
  simp only[TEV,bxP,bxS];rw[Pn.aB p,Pn.aB a]at *
  simp[zp,c2]) g2) ?_)
 rintro _ a3 w3' ⟨rfl,g3⟩
 refine wp_seq (wp_mono (GR.eG dK (G:=GS 26) (S:={ env:=TEV p ws r path (.own 0 0) (.own 1 0) (.own 2 0) (.bool false) (.i (.iref a.cells)) .junk .junk .junk (.bool false) .junk .junk,st:=[some (.fbox p.cells),bxS r path,some (.box zp)] }) (e:=.normal) (S':={ env:=TEV p ws r path (.own 0 0) (.own 1 0) (.own 2 0) (.bool false) (.i (.iref a.cells)) .junk .junk .junk (.bool false) (.bool false) .junk,st:=[some (.fbox p.cells),bxS r path,some (.box zp)] }) mZ (by kernel_rfl) (by
  simp only[TEV,bxP,bxS]
  simp[zp]) g3) ?_)
 rintro _ a4 w4' ⟨rfl,g4⟩
 refine wp_seq (wp_mono (GR.eG dK (G:=GS 26) (S:={ env:=TEV p ws r path (.own 0 0) (.own 1 0) (.own 2 0) (.bool false) (.i (.iref a.cells)) .junk .junk .junk (.bool false) (.bool false) .junk,st:=[some (.fbox p.cells),bxS r path,some (.box zp)] }) (e:=.normal) (S':={ env:=TEV p ws r path (.own 0 0) (.own 1 0) (.own 2 0) (.bool false) (.i (.iref a.cells)) (.own 3 0) (.bool true) .junk (.bool false) (.bool false) .junk,st:=[some (.fbox p.cells),bxS r path,some (.box zp),bxP x] }) mZ (by kernel_rfl) (by
  simp only[TEV,bxP,bxS];rw[Pn.aB a,Pn.aB x]at *
  simp[zp,w1,c3]) g4) ?_)
 rintro _ a5 w5' ⟨rfl,g5⟩
 refine wp_seq (wp_mono (GR.eG dK (G:=GS 26) (S:={ env:=TEV p ws r path (.own 0 0) (.own 1 0) (.own 2 0) (.bool false) (.i (.iref a.cells)) (.own 3 0) (.bool true) .junk (.bool false) (.bool false) .junk,st:=[some (.fbox p.cells),bxS r path,some (.box zp),bxP x] }) (e:=.normal) (S':={ env:=TEV p ws r path (.own 0 0) (.own 1 0) (.own 2 0) (.bool false) (.i (.iref a.cells)) (.own 3 0) (.bool true) .junk (.bool false) (.bool false) (.bool false),st:=[some (.fbox p.cells),bxS r path,some (.box zp),bxP x] }) mZ (by kernel_rfl) (by
  simp only[TEV,bxP,bxS]
  simp[zp,Pn.aB x]) g5) ?_)
 rintro _ a6 w6 ⟨rfl,g6⟩;clear g0 g1 g2 g3 g4 g5;have hst6:(6:Nat)<45:=by omega
 refine wp_seq (lX ?_);show wpOpsIn (FR none) 0 Tryz.prog _ _ (List.range 3) a6 w6;rw[show List.range 3=0::(List.range' 1 2++[])from rfl,wpOpsIn_cons];obtain⟨⟨m6,φ6,i6,henv6,adv6,ok6,-⟩,sz6,df6⟩:=g6;obtain⟨m7,rp7,i7,adv7⟩:=sD i6 (henv6 3) (show iP (aV [some (.fbox p.cells),bxS r path,some (.box zp),bxP x]) (.own 0 0)=some (.i (.iref p.cells),aV [some (.fbox p.cells),bxS r path,some (.box zp),bxP x])by simp[iP,qQ,frz,vH,AY,aV,bnd,tst,gX]);have rp7':RepL m7 (fun _=>none) [.i (.iref p.cells)] [a6.tmps.getD 3 undef]:=.cons (by cases rp7 with|i k=>exact .i k) .nil
 have i7':Inv w6 m7 (fun _=>none) (aV []):=⟨i7.mem,fun id blk e=>by simp[aV]at e,fun _ _ _ _ _ _ _ _ _ e=>by simp[aV]at e,fun _ _ _ _ e=>by cases e⟩
 refine BC (P:=Tryz.prog) (fn:=Tryz.f59) (d:=38) (g:=59) (args:=#[.tmp 3]) rfl rfl rfl rfl Tryz.func59 AV1 AV2 (vs:=[a6.tmps.getD 3 undef]) rfl ((mQ hps.1 hps.2.1 hps.2.2 i7' rp7').mono fun e w7 hraw=>?_);obtain⟨y,rfl,v0,v1,v2,v3,v4,F,g7⟩:=GR.AM1 (nt:=45) (d:=38) (by omega) i7 (fun t=>(henv6 t).mono adv7.mle adv7.ple) (adv6.trans adv7) ok6 sz6 df6 hraw;refine⟨y,rfl,?_⟩;have hsz6:wi.heap.size≤w6.heap.size:=adv6.size;generalize hE8:TEV p ws r path (.own 0 0) (.own 1 0) (.own 2 0) (.bool false) (.i (.iref a.cells)) (.own 3 0) (.bool true) .junk (.bool false) (.bool false) (.bool false)=E8 at g7;refine GR.ARZ dK (CPY.G9 _ _ _ _ _ _ _ _) 1 2 rfl ?_ (base:=4) (R0:={ env:=upd (aQ E8) 38 (.i (.agg [.lit v0, .lit v1, .lit v2, .lit v3, .lit v4])),st:=aV [some (.fbox p.cells),bxS r path,some (.box zp),bxP x],log:=[] }) (R1:={ env:=upd (upd (aQ E8) 38 (.i (.agg [.lit v0, .lit v1, .lit v2, .lit v3, .lit v4]))) 11 (.own 12 0),st:=upd (aV [some (.fbox p.cells),bxS r path,some (.box zp),bxP x]) 12 (some (.box (bN [v0,v1,v2,v3,v4]))),log:=[] }) ?_ (g7.ok' fun id h=>.inl (by simpa using h)) fun a8 w8 g8=>?_
 ·kernel_rfl
 ·simp[bN,zp,ARR]
 obtain⟨b3,g9⟩:=g8.AWI (u:=11) (id:=12) (st':=aV [some (.fbox p.cells),bxS r path,some (.box zp),bxP x]) hsz6 rfl rfl (by
  intro i blk h
  rcases i with _|_|_|_|i
  ·simp[aV]at h;subst h;simp[upd,aV,kJ]
  ·simp[aV,bxS]at h;subst h;simp[upd,aV,kJ,bxS]
  ·simp[aV]at h;subst h;simp[upd,aV,kJ,zp]
  ·simp[aV,bxP]at h;subst h;simp[upd,aV,kJ,bxP,Pn.aB x,kV]
  ·simp[aV]at h)
 have g9:=(g9 (aQ [(5, .own 1 0),(6, .own 2 0),(9, .own 3 0),(11, .i (.lit (.pointer (some ⟨b3,0,none⟩))))]) (by
  subst hE8;intro t;simp only[aQ];by_cases h5:t=5
  ·subst h5;exact .inr (.inr ⟨by simp[upd,TEV,aQ],by simp[upd,TEV,aQ,nO,aV,bxS]⟩)
  by_cases h6:t=6
  ·subst h6;exact .inr (.inr ⟨by simp[upd,TEV,aQ],by simp[upd,TEV,aQ,nO,aV]⟩)
  by_cases h9:t=9
  ·subst h9;exact .inr (.inr ⟨by simp[upd,TEV,aQ],by simp[upd,TEV,aQ,nO,aV,bxP]⟩)
  by_cases h11:t=11
  ·subst h11;exact .inr (.inl ⟨rfl,rfl⟩)
  simp[h5,h6,h9,h11])).ok' (ok':=fun id=>EW 4 (fun j=>j<0) id) (by
  intro i h;refine .inl ?_
  rcases i with _|_|_|_|i
  all_goals first|omega|(simp[aV]at h))
 clear g7 g8;refine wp_seq (lX ?_);show wpOpsIn (FR none) 0 Tryz.prog _ _ (List.range 6) a8 w8;rw[show List.range 6=List.range' 0 2++(2::3::(List.range' 4 1++(List.range' 5 1++[])))from rfl];generalize hE9:aQ [(5, .own 1 0),(6, .own 2 0),(9, .own 3 0),(11, .i (.lit (.pointer (some ⟨b3,0,none⟩))))]=E9 at g9;refine GR.ARZ dK (RAW.G9 _ _ _ _ _) 0 2 rfl ?_ (base:=4) (R0:={ env:=E9,st:=aV [some (.fbox p.cells),bxS r path,some (.box zp),bxP x],log:=[] }) (R1:={ env:=upd (upd E9 39 (.own 1 1)) 40 (.i (.isl (aF path))),st:=aV [some (.fbox p.cells),bxS r path,some (.box zp),bxP x],log:=[] }) ?_ g9 fun a9 w9 g10=>?_
 ·kernel_rfl
 ·subst hE9;simp[zp,bxS,ARR]
 clear g9;rw[wpOpsIn_cons];obtain⟨⟨m10,φ10,i10,henv10,adv10,ok10,r10⟩,AUT,df10⟩:=g10;have hv11:=henv10 11;have hv40:=henv10 40;simp only[show upd (upd E9 39 (.own 1 1)) 40 (.i (.isl (aF path))) 11=.i (.lit (.pointer (some ⟨b3,0,none⟩)))from by subst hE9;rfl]at hv11;simp only[show upd (upd E9 39 (.own 1 1)) 40 (.i (.isl (aF path))) 40=.i (.isl (aF path))from rfl]at hv40;have hmm:MLe m10 (dS w9):=i10.mem;refine BC (P:=Tryz.prog) (fn:=Tryz.f69) (d:=41) (g:=69) (args:=#[.tmp 11, .tmp 40]) rfl rfl rfl rfl Tryz.func69 Ab6 hb48 (vs:=[a9.tmps.getD 11 undef,a9.tmps.getD 40 undef]) rfl ((AHP r10.th r10.nr r10.nd ha hl (vs:=[a9.tmps.getD 11 undef,a9.tmps.getD 40 undef]) (.cons (by cases hv11 with|i k=>exact .i (k.mono hmm)) (.cons (by cases hv40 with|i k=>exact .i (k.mono hmm)) .nil))).mono fun e w10 hplace=>?_);obtain⟨y2,rfl,bq,oq,Fa,Fy,Fz,g11⟩:=GR.AGS (nt:=45) (d:=41) (by omega) i10 henv10 adv10 ok10 AUT df10 r10 hplace;refine⟨y2,rfl,?_⟩;rw[wpOpsIn_cons];obtain⟨⟨m11,φ11,i11,henv11,adv11,ok11,r11⟩,AUS,df11⟩:=g11;generalize hE11:upd (upd (upd E9 39 (.own 1 1)) 40 (.i (.isl (aF path)))) 41 (.i (.lit (.pointer (some ⟨bq,oq,none⟩))))=E11 at henv11;have h9:E11 9=.own 3 0:=by subst hE11;subst hE9;rfl
 have hr9:=henv11 9;rw[h9]at hr9
 obtain⟨m12,rp12,i12,adv12⟩:=sD i11 hr9 (show iP (aV [some (.fbox p.cells),bxS r path,some (.box zp),bxP x]) (.own 3 0)=some (.i (.iref x.cells),aV [some (.fbox p.cells),bxS r path,some (.box zp),some (.fbox x.cells)])by
  have hu:=AVZ (some (.fbox p.cells)) (bxS r path) (some (.box zp)) (bxP x) (some (.fbox x.cells));rw[Pn.aB x]at hu ⊢;simp[bxP,Pn.aB x]at hu ⊢
  exact hu)
 have rp12':RepL m12 (fun _=>none) [.i (.iref x.cells)] [(a9.put (some 41) y2).tmps.getD 9 undef]:=.cons (by cases rp12 with|i k=>exact .i k) .nil
 have i12':Inv w10 m12 (fun _=>none) (aV []):=⟨i12.mem,fun id blk e=>by simp[aV]at e,fun _ _ _ _ _ _ _ _ _ e=>by simp[aV]at e,fun _ _ _ _ e=>by cases e⟩
 have hwx:wi.heap.size≤w10.heap.size:=adv11.size;have hlt:∀ f∈b3::F,f<w10.heap.size:=fun f hf=>(r11.raw.all f hf).2.1
 have hbq:bq<w10.heap.size:=hlt bq r11.pos.mem;have r12:=RAT.G9 _ _ _ _ _ _ _ _ _ _ _ _ _ _ _ _ _ adv12 r11;refine BC (P:=Tryz.prog) (fn:=Tryz.f59) (d:=42) (g:=59) (args:=#[.tmp 9]) rfl rfl rfl rfl Tryz.func59 AV1 AV2 (vs:=[(a9.put (some 41) y2).tmps.getD 9 undef]) rfl ((mQ hxs.1 hxs.2.1 hxs.2.2 i12' rp12').mono fun e w11 hraw=>?_);obtain⟨y3,rfl,u0,u1,u2,u3,u4,Fx,g12⟩:=GR.AGT (nt:=45) (d:=42) (RAT.G9 wi b3 p F path a bq oq Fa Fy Fz) (by omega) i12 (fun t=>(henv11 t).mono adv12.mle adv12.ple) (adv11.trans adv12) ok11 AUS df11 r12 hraw;refine⟨y3,rfl,?_⟩
 have hst12:AA4 (fun w m φ=>RAT wi b3 p F path a bq oq Fa Fy Fz w m φ∧CPY w10 x Fx u0 u1 u2 u3 u4 w m φ):=fun w m φ w' m' φ' ha h=>⟨RAT.G9 _ _ _ _ _ _ _ _ _ _ _ _ _ _ _ _ _ ha h.1,CPY.G9 _ _ _ _ _ _ _ _ _ _ _ _ _ _ ha h.2⟩
 refine GR.ARZ dK hst12 4 1 rfl ?_ (base:=4) (R0:={ env:=upd E11 42 (.i (.agg [.lit u0, .lit u1, .lit u2, .lit u3, .lit u4])),st:=aV [some (.fbox p.cells),bxS r path,some (.box zp),some (.fbox x.cells)],log:=[] }) (R1:={ env:=upd (upd E11 42 (.i (.agg [.lit u0, .lit u1, .lit u2, .lit u3, .lit u4]))) 43 (.i (.lit (.pointer (some ⟨bq,oq,none⟩)))),st:=aV [some (.fbox p.cells),bxS r path,some (.box zp),some (.fbox x.cells)],log:=[] }) ?_ (g12.ok' fun id h=>o6 (fun j hj=>by omega) h) fun a10 w12 g13=>?_
 ·kernel_rfl
 ·subst hE11;subst hE9;simp[zp,bxS,ARR]
 clear g12
 obtain⟨pre,row,post,ma,hrl,hpl,g14⟩:=g13.ARD (u:=43) (k:=1) (st':=upd (fun _=>none) 2 (some (.box zp))) (by subst hE11;rfl) (by
  intro i blk h;by_cases h2:i=2
  ·subst h2;simp[upd]at h;subst h;simp[aV,kJ,zp]
  ·simp[upd,h2]at h) (by simp[upd]) (CPY.other hbq)
 have g14:=(g14 (aQ [(6, .own 2 0),(11, .i (.lit (.pointer (some ⟨b3,0,none⟩)))),(42, .i (.agg [.lit u0, .lit u1, .lit u2, .lit u3, .lit u4])),(43, .own 1 oq)]) (by
  subst hE11;subst hE9;intro t;simp only[aQ];by_cases h6:t=6
  ·subst h6;exact .inr (.inr ⟨by simp[upd,aQ],by simp[upd,aQ,nO]⟩)
  by_cases h11:t=11
  ·subst h11;exact .inr (.inr ⟨by simp[upd,aQ],by simp[upd,aQ,nO]⟩)
  by_cases h42:t=42
  ·subst h42;exact .inr (.inr ⟨by simp[upd,aQ],by simp[upd,aQ,nO]⟩)
  by_cases h43:t=43
  ·subst h43;exact .inr (.inl ⟨rfl,rfl⟩)
  simp[h6,h11,h42,h43])).ok' (ok':=fun id=>EW 4 (fun j=>j<5) id) (by
  intro i h;refine .inl ?_
  rcases h with h|h
  ·by_cases h2:i=2
   ·omega
   ·simp[upd,h2]at h
  ·omega)
 clear g13;refine GR.ARZ dK (fun w m φ w' m' φ' ha h=>⟨⟨ADK.G9 _ _ _ _ _ _ _ _ _ _ _ _ _ _ _ _ _ _ _ _ ha h.1.1,h.1.2⟩,CPY.G9 _ _ _ _ _ _ _ _ _ _ _ _ _ _ ha h.2⟩) 5 1 rfl ?_ (base:=4) (R0:={ env:=aQ [(6, .own 2 0),(11, .i (.lit (.pointer (some ⟨b3,0,none⟩)))),(42, .i (.agg [.lit u0, .lit u1, .lit u2, .lit u3, .lit u4])),(43, .own 1 oq)],st:=upd (upd (fun _=>none) 2 (some (.box zp))) 1 (some (.box (kP pre (bN row) post))),log:=[] }) (R1:={ env:=aQ [(6, .own 2 0),(11, .i (.lit (.pointer (some ⟨b3,0,none⟩)))),(42, .i (.agg [.lit u0, .lit u1, .lit u2, .lit u3, .lit u4])),(43, .own 1 oq)],st:=upd (upd (upd (fun _=>none) 2 (some (.box zp))) 1 (some (.box (kP pre (bN row) post)))) 1 (some (.box (kP pre (bN [u0,u1,u2,u3,u4]) post))),log:=[] }) ?_ g14 fun a11 w13 g15=>?_
 ·kernel_rfl
 ·subst hpl
  have hsp:splice (kP pre (bN row) post) pre.length (bN [u0,u1,u2,u3,u4])=some (kP pre (bN [u0,u1,u2,u3,u4]) post):=by
   have:=pF pre post (bN row) 0 (bN [u0,u1,u2,u3,u4]);rw[xS]at this;rw[this]
   match row,hrl with
   | [r0,r1,r2,r3,r4],_=>simp[bN,kP,splice,bnd]
  have hz:bN [u0,u1,u2,u3,u4]=[.i (.lit u0), .i (.lit u1), .i (.lit u2), .i (.lit u3), .i (.lit u4)]:=rfl;rw[hz]at hsp ⊢;simp[hsp,ARR]
 clear g14
 have g16:=g15.ATT (q:=x) hwx hlt hrl hpl rfl (st':=upd (fun _=>none) 2 (some (.box zp))) (env':=aQ [(6, .own 2 0),(11, .i (.lit (.pointer (some ⟨b3,0,none⟩))))]) (by
  intro i blk h;by_cases h2:i=2
  ·subst h2;simp[upd]at h;subst h;simp[upd,kJ,zp]
  ·simp[upd,h2]at h) (by
  intro t;simp only[aQ];by_cases h6:t=6
  ·subst h6;exact .inr ⟨by simp,by simp[nO,upd]⟩
  by_cases h11:t=11
  ·subst h11;exact .inr ⟨by simp,by simp[nO]⟩
  simp[h6,h11])
 clear g15;generalize Pn.put path p x=q at *
 have g17:=g16.settle (fun w m φ ids h=>RAW.keep ids h) [6,11];have hset:Av.settle [6,11] 0 (aQ [(6, .own 2 0),(11, .i (.lit (.pointer (some ⟨b3,0,none⟩))))]) (upd (fun _=>none) 2 (some (.box zp)))={ env:=[(6, .own 0 0),(11, .i (.lit (.pointer (some ⟨b3,0,none⟩))))],st:=[some (.box zp)] }:=by simp[zp,upd]
 rw[hset]at g17;clear g16;obtain⟨v0',v1',v2',v3',v4',post',hone',g18⟩:=g17.AJK (u:=11) (k:=1) rfl rfl (by simp)
 have g18:=(g18 (aQ [(6, .own 0 0),(11, .own 1 0)]) (by
  intro t;simp only[aQ];by_cases h6:t=6
  ·subst h6;exact .inr (.inr (by simp[aQ]))
  ·by_cases h11:t=11
   ·subst h11;exact .inr (.inl ⟨rfl,rfl⟩)
   ·simp[h6,h11])).ok' (ok':=fun id=>id<({ env:=[(6, .own 0 0),(11, .own 1 0)],st:=[some (.box zp),some (.box (bN [v0',v1',v2',v3',v4']++bN post'))] }:AS).st.length) (by
  intro i h
  simp at h ⊢;omega)
 have hst1:upd (aV [some (.box zp)]) 1 (some (.box (bN [v0',v1',v2',v3',v4']++bN post')))=aV [some (.box zp),some (.box (bN [v0',v1',v2',v3',v4']++bN post'))]:=by
  funext i
  rcases i with _|_|i
  ·rfl
  ·rfl
  ·simp[upd,aV]
 rw[hst1]at g18;clear g17
 refine wp_mono (GR.eG dK (G:=GS 26) (S:={ env:=[(6, .own 0 0),(11, .own 1 0)],st:=[some (.box zp),some (.box (bN [v0',v1',v2',v3',v4']++bN post'))] }) (e:=.ret) (S':={ env:=[(0, .junk),(1, .junk),(2, .junk),(3, .junk),(5, .junk),(6, .own 0 0),(7, .bool true),(8, .junk),(9, .junk),(10, .junk),(11, .own 1 0),(15, .junk),(21, .junk),(36, .junk)],st:=[some (.box (bN [v0',v1',v2',v3',v4'])),some (.box (bN [v0',v1',v2',v3',v4']++bN post'))] }) (CPY.G9 _ _ _ _ _ _ _ _) (by kernel_rfl) (by
  have hz:bN [v0',v1',v2',v3',v4']=[.i (.lit v0'), .i (.lit v1'), .i (.lit v2'), .i (.lit v3'), .i (.lit v4')]:=rfl;rw[hz]
  simp[zp,vD,BK]) g18) ?_
 rintro _ a12 w14 ⟨rfl,g19⟩;obtain⟨⟨m,φ,q1,q2,q3,q4,q5⟩,q6,q7⟩:=g19
 obtain⟨v,k1,k2⟩:=fF (C:=C0) (fn:=Tryz.f26) (keep:=false) (na:=0) (S:={ env:=[(0, .junk),(1, .junk),(2, .junk),(3, .junk),(5, .junk),(6, .own 0 0),(7, .bool true),(8, .junk),(9, .junk),(10, .junk),(11, .own 1 0),(15, .junk),(21, .junk),(36, .junk)],st:=[some (.box (bN [v0',v1',v2',v3',v4'])),some (.box (bN [v0',v1',v2',v3',v4']++bN post'))] }) (r:=.tup [.i (.agg [.lit v0', .lit v1', .lit v2', .lit v3', .lit v4']), .bool true]) (stl':=[]) (fun id h=>absurd rfl h) ⟨⟨⟨m,φ,q1,q2,q3,q4, .nil _ _ _⟩,q6,q7⟩,zB5 _⟩ (by
  show finish C0 false [ResultVar.cell 6 34,ResultVar.tmp 7] 0 _=_;have hz:bN [v0',v1',v2',v3',v4']=[.i (.lit v0'), .i (.lit v1'), .i (.lit v2'), .i (.lit v3'), .i (.lit v4')]:=rfl;rw[hz]
  simp)
 have hv':v=.tuple #[.agg #[v0',v1',v2',v3',v4'], .bool true]:=by
  obtain⟨_,_,_,e,r,_⟩:=k2;injection e with e;subst e
  cases r with
  | tup r =>
   cases r with|cons b0 r=>cases r with|cons b1 r =>
   cases r
   cases b0 with
   | i r0=>cases r0 with
    | agg r =>
     cases r with|cons a0 _ r=>cases r with|cons a1 _ r=>cases r with|cons a2 _ r=>cases r with|cons a3 _ r=>cases r with|cons a4 _ r =>
     cases r
     cases b1 with
     | i b1=>rw[gU a0,gU a1,gU a2,gU a3,gU a4,gU b1]
 subst hv';refine⟨q7,_,k1,?_⟩;refine NY.own ⟨v0',v1',v2',v3',v4',rfl,v0',v1',v2',v3',v4',_,m,rfl,hone',q1.mem,⟨q3.size,q3.os,q3.tape,q3.output,q3.block,q3.mle,q3.mnew, .refl _,fun _ _ _ _ e=>by cases e⟩,q5.th,q5.cells,q5.nd,fun f hf=>?_,q5.kc⟩;obtain⟨z1,z2,z3,z4,z5⟩:=q5.all f hf;exact⟨z1,z2,(by intro _ _ _ e;cases e),z4,z5⟩
end Go.Proofs.YtjdfjgmebalaaaaGreat.P
namespace Go.Av
def ASQ (st:Store):AV→Option IV
 | .own id 0=>match st id with
  | some (.box cs)=>bnd (AAD st cs) fun l=>some (.iref l)
  | _=>none
 | v=>AO4 st v
def AI6 (st:Store):List AV→Option (List AV)
 | []=>some []
 | c::r=>bnd (ASQ st c) fun v=>bnd (AI6 st r) fun l=>some (.i v::l)
def kvK (stl:StL):AV→Option IV
 | .i (.lit v)=>some (.lit v)
 | .nils=>some (.isl [])
 | .osl id k off len=>match aV stl id with
  | some (.frz k' es)=>tst (decide (k'=k∧off=0∧len≤es.length∧0<len)) (tst (es.all wX) (some (.isl (es.take len))))
  | _=>none
 | _=>none
def AUZ (stl:StL):List AV→Option (List IV)
 | []=>some []
 | c::r=>bnd (kvK stl c) fun v=>bnd (AUZ stl r) fun l=>some (v::l)
def kvA (stl:StL):AV→Option IV
 | .agg cs=>bnd (AUZ stl cs) fun l=>some (.agg l)
 | v=>kvK stl v
def AV0 (stl:StL):List AV→Option (List AV)
 | []=>some []
 | c::r=>bnd (kvA stl c) fun v=>bnd (AV0 stl r) fun l=>some (.i v::l)
def kvT (stl:StL):AV→Option AV
 | .tup cs=>bnd (AV0 stl cs) fun l=>some (.tup l)
 | v=>bnd (kvA stl v) fun l=>some (.i l)
section
variable {w w':World} {m m':Mem} {φ':Pl} {stl:StL}
end
def ATO (f:List AV→StL→Option (AV×StL)) (args:List AV) (st:StL):Option (AV×StL) :=
 bnd (AI6 (aV st) args) fun us=>match f us []with
  | some (r,stl)=>bnd (kvT stl r) fun v=>some (v,st)
  | none=>none
noncomputable def Z8 (C:Ctx) (g:FuncId) (args:List AV) (st:StL):Option (AV×StL) :=
 match C.P.funcs[g]? with
 | none=>none
 | some fn =>
  match fn.body with
  | none=>none
  | some c=>AA1 { C with tree:=true } true fn.results.toList st.length (eD C (C.G g) st.length c (enter (C.G g) args st))
theorem AHG {C:Ctx} {f:FuncId} {fn:Func} {c:Code} {rs:List ResultVar} (hf:C.P.funcs[f]?=some fn) (hb:fn.body=some c) (hr:fn.results.toList=rs) (args:List AV) (st:StL) :
 Z8 C f args st=AA1 { C with tree:=true } true rs st.length (eD C (C.G f) st.length c (enter (C.G f) args st)):=by
 subst hr;unfold Z8;rw[hf];simp only[hb]
theorem UB {C:Ctx} (hS:SoundOk C) {g:FuncId} {args:List AV} {stl stl':StL} {r:AV} (h:Z8 C g args stl=some (r,stl')) :
 (∃ fn,C.P.funcs[g]?=some fn∧fn.name≠ "runtime.NumGoroutine"∧fn.body.isSome=true)∧∀ (w:World) (m:Mem) (φ:Pl) (vs:List Value),Inv w m φ (aV stl)→RepL m φ args vs→(∀ id,φ id≠none→id<stl.length) →
  Calls C.P g vs.toArray w (bV w m φ r stl'):=by
 unfold Z8 at h;split at h
 ·cases h
 rename_i fn hf;split at h
 ·cases h
 rename_i c hb;have hst:=(hS.fns g fn c hf hb).2;refine⟨⟨fn,hf,(hS.fns g fn c hf hb).1,by rw[hb];rfl⟩,fun w m φ vs hi hargs hid=>?_⟩;have ih:=bH hS
 have hrel:JN [] w m φ fn.ntmps stl.length (enter (C.G g) args stl) { tmps:=vs.toArray++Array.replicate (fn.ntmps-vs.toArray.size) undef,defers:=[] } w:=by
  refine⟨⟨⟨m,φ,hi,?_, .refl _ _ _,hid, .nil _ _ _⟩,by simp;omega,rfl⟩,zP _⟩;intro t;unfold enter;simp only;generalize C.G g=G
  induction G with
  | nil=>exact .junk _
  | cons u G ihG =>
   simp only[LB,aQ];by_cases e:t=u
   ·subst e;simp only[if_true];exact mM _ hargs t
   ·simp only[e,if_false];exact ihG
 refine callsIn_wide.1 (callsIn_of_wp_marks (n:=0) hf hb trivial ?_)
 have done:∀ S e,eD C (C.G g) stl.length c (enter (C.G g) args stl)=some (e,S)→finish { C with tree:=true } true fn.results.toList stl.length S=some (r,stl')→(e=.normal∨e=.ret) →
  c.wpIn Fence.wide 0 C.P (bodyPostM Fence.wide 0 C.P fn (bV w m φ r stl')) { tmps:=vs.toArray++Array.replicate (fn.ntmps-vs.toArray.size) undef,defers:=[] } w:=by
  intro S e hS' hfin he;obtain⟨n,hS'⟩:=(dC _).1 hS';refine wpIn_mono (bS (ρ:=none) hS.ctx ih (hS.draw _ ih) hid n c _ S e [] _ w hst (.inl rfl) hS' hrel) ?_;rintro e' a' w' ⟨rfl,ds,k,_⟩
  have hl:LeavesInM Fence.wide 0 C.P fn a'.tmps (bV w m φ r stl') a'.defers .returning w':=by
   rw[k.1.defers];refine uZ k fun a2 w2 _ k2=>?_
   obtain⟨v,k3,k4⟩:=fF (C:={ C with tree:=true }) hid k2 hfin;exact⟨v,k3,k4⟩
  rcases he with rfl|rfl
  ·exact hl
  ·exact hl
 unfold AA1 at h;split at h
 ·rename_i S hS';exact done S .normal hS' h (.inl rfl)
 ·rename_i S hS';exact done S .ret hS' h (.inr rfl)
 ·cases h
 ·cases h
end Go.Av
namespace Go.Proofs.YtjdfjgmebalaaaaGreat.P
open Go Go.Av
set_option maxRecDepth 4000
set_option maxHeartbeats 4000000
theorem UG {p:Pn} {ws:List Int} {r:Int} {path:List Int} (h:p.width ws=0∨apI ws r path p=none):Z8 C0 26 [.i (.agg p.cells), .i (.isl (aF ws)), .i (.agg [.int r, .isl (aF path)])] []=some (.tup [rqA Pn.zero 0, .bool false],[]):=by
 have c1:=rD p ws;have c2:=AJ8 p path;rw[AHG Tryz.func26 rfl rfl];by_cases h0:p.width ws=0
 ·rw[Pn.aB p]at c1 ⊢;simp[c1,h0,Pn.zero,Pn.cells,Ex.aA,aF,Pn.aA,rqA]
 ·obtain⟨hw,hp8,hv⟩:=nX h0;have hn:=h.resolve_left h0;unfold apI at hn
  cases ha:atI path p with
  | none =>
   rw[ha]at c2;rw[Pn.aB p]at c1 c2 ⊢;simp[atV]at c2;simp[c1,h0,c2,Pn.zero,Pn.cells,Ex.aA,aF,Pn.aA,rqA]
  | some a =>
   rw[ha]at c2;unfold atI at ha;split at ha
   ·rename_i hl;rw[if_pos hl,ha]at hn;simp only[yI]at hn;obtain⟨-,hav⟩:=UD path p 8 a hp8 ha;have ha8:a.wd ws 8≠0:=by rw[Pn.iT a _ 8 hav (by omega)];exact hav
    have c3:=DF hw ha8 r (lv:=8-path.length) (by omega)
    have hr:rwL ws r (8-path.length) a=none:=by
     cases hq:rwL ws r (8-path.length) a with
     | none=>rfl
     | some q=>rw[hq]at hn;cases hn
    rw[hr]at c3;have w1:IntKind.i64.wrap (8-(path.length:Int))=((8-path.length:Nat):Int):=by rw[wrO];omega
    simp only[atV]at c2;rw[Pn.aB p]at c1 c2 ⊢;rw[Pn.aB a]at c2 c3;simp[FB,Pn.zero,Pn.cells,Ex.aA,aF,Pn.aA]at c3;simp[c1,h0,c2,w1,c3,Pn.zero,Pn.cells,Ex.aA,aF,Pn.aA,rqA]
   ·cases ha
theorem NT {args:List AV} {st st':StL} {r:AV} (h:sG args st=some (r,st')):∀ (w:World) (m:Mem) (φ:Pl) (vs:List Value),Inv w m φ (aV st)→RepL m φ args vs→(∀ id,φ id≠none→id<st.length)→Calls Tryz.prog 26 vs.toArray w (bV w m φ r st'):=by
 intro w m φ vs hi hr h0;obtain⟨p,ws,k,path,rfl,rfl,hq⟩:=R5 h
 cases ho:apO p ws k path with
 | none =>
  rw[ho]at hq;injection hq with h1 h2;subst h1;subst h2
  have hn:p.width ws=0∨apI ws k path p=none:=by
   unfold apO at ho;by_cases hw:p.width ws=0
   ·exact .inl hw
   ·rw[if_neg hw]at ho;exact .inr ho
  exact(UB dK (UG hn)).2 w m φ vs hi hr h0
 | some q =>
  rw[ho]at hq;injection hq with h1 h2;subst h1;subst h2;unfold apO at ho;by_cases hw:p.width ws=0
  ·rw[if_pos hw]at ho;cases ho
  ·rw[if_neg hw]at ho
   obtain rfl:φ=fun _=>none:=by
    funext id
    cases h:φ id with
    | none=>rfl
    | some p=>exact absurd (h0 id (by rw[h];simp)) (xL _)
   exact UF hw ho hi hr
noncomputable def AKW:FuncId→Option (List AV→StL→Option (AV×StL))
 | 26=>some sG
 | _=>none
noncomputable def C5:Ctx:={ P:=Tryz.prog,G:=GS,ownArgs:=cZ,keepRes:=keepR,eqT:=EN,prim:=AKW,tree:=true }
theorem AFY:PrimOk C5:=by
 have key:∀ g q,C5.prim g=some q→g=26∧q=sG:=by
  intro g q h;have h:AKW g=some q:=h;unfold AKW at h;split at h
  ·injection h with h;exact⟨rfl,h.symm⟩
  ·cases h
 constructor
 ·intro g args st p h;unfold eH at h
  cases hq:C5.prim g with
  | none=>rw[hq]at h;cases h
  | some q =>
   obtain⟨rfl,rfl⟩:=key g q hq;exact⟨Tryz.f26,Tryz.func26,by decide,rfl⟩
 ·intro g args st r st' h w m φ vs hi hr hb;unfold eH at h
  cases hq:C5.prim g with
  | none=>rw[hq]at h;cases h
  | some q =>
   obtain⟨rfl,rfl⟩:=key g q hq;rw[hq]at h;exact NT h w m φ vs hi hr hb
theorem AP6:SoundOk C5:=pG (C:=C5) ft nt eqS mo AFY
theorem AHE (p:Pn) (ws:List Int) (r:Int) (path:List Int):aI C5 26 [.i (.agg p.cells), .i (.isl (aF ws)), .i (.agg [.int r, .isl (aF path)])] []=some (ARB (apO p ws r path)):=by
 rw[bP (C:=C5) (p:=sG) rfl];exact ZK p ws r path
end Go.Proofs.YtjdfjgmebalaaaaGreat.P
namespace Go.Proofs.YtjdfjgmebalaaaaGreat
open Go Go.Av
set_option maxRecDepth 4000
noncomputable def AKU:FuncId→Option (List AV→StL→Option (AV×StL))
 | 1000000007=>none
 | 182=>none
 | 159=>none
 | 104=>some (ATP (aI C0) 104)
 | 62=>some (AdJ (aI C0) 62)
 | g=>some (aI C0 g)
def AL0:FuncId→Bool
 | 104=>true
 | g=>cZ g
noncomputable def CP:Ctx:={ P:=Tryz.prog,G:=GS,ownArgs:=AL0,keepRes:=keepR,eqT:=EN,prim:=AKU }
@[simp] theorem AiS:CP.P=Tryz.prog:=(rfl)
@[simp] theorem AiT (f):CP.G f=GS f:=(rfl)
@[simp] theorem AiP (f):CP.ownArgs f=AL0 f:=(rfl)
@[simp] theorem AiQ (f):CP.keepRes f=keepR f:=(rfl)
@[simp] theorem AiR (f):CP.eqT f=EN f:=(rfl)
@[simp] theorem AiO:CP.tree=false:=(rfl)
end Go.Proofs.YtjdfjgmebalaaaaGreat
namespace Go.Av
end Go.Av
namespace Go.Proofs.YtjdfjgmebalaaaaGreat.P
open Go Go.Av
set_option maxRecDepth 4000
set_option maxHeartbeats 4000000
@[simp] theorem fK:∀ l:List Int,fG (aF l)=true
  | []=>by simp[aF,fG]
  | x::l=>by simp[aF,fG,kX,kI,fK l]
noncomputable def AT9:FuncId→Option (List AV→StL→Option (AV×StL))
 | 182=>some (aI CP 182)
 | 167=>some (AMH C0 true 167)
 | g=>AKU g
noncomputable def CQ:Ctx:={ P:=Tryz.prog,G:=GS,ownArgs:=AL0,keepRes:=keepR,eqT:=EN,prim:=AT9 }
@[simp] theorem AiM:CQ.P=Tryz.prog:=(rfl)
@[simp] theorem AiN (f):CQ.G f=GS f:=(rfl)
@[simp] theorem AiJ (f):CQ.ownArgs f=AL0 f:=(rfl)
@[simp] theorem AiK (f):CQ.keepRes f=keepR f:=(rfl)
@[simp] theorem AiL (f):CQ.eqT f=EN f:=(rfl)
@[simp] theorem AiI:CQ.tree=false:=(rfl)
noncomputable def APV:FuncId→Option (List AV→StL→Option (AV×StL))
 | 1000000007=>none
 | 89=>none
 | 126=>none
 | 159=>none
 | 182=>some (AMH CQ true 182)
 | 167=>some (AMH C0 true 167)
 | 104=>some (ATN (aI C0) 104)
 | g=>AKU g
def ALC (g:FuncId):Bool:=keepR g || decide (g=159)
noncomputable def CR:Ctx:={ P:=Tryz.prog,G:=GS,ownArgs:=AL0,keepRes:=ALC,eqT:=EN,prim:=APV }
@[simp] theorem AiG:CR.P=Tryz.prog:=(rfl)
@[simp] theorem AiH (f):CR.G f=GS f:=(rfl)
@[simp] theorem AiD (f):CR.ownArgs f=AL0 f:=(rfl)
@[simp] theorem AiE (f):CR.keepRes f=(keepR f || decide (f=159)):=(rfl)
@[simp] theorem AiF (f):CR.eqT f=EN f:=(rfl)
@[simp] theorem AiC:CR.tree=false:=(rfl)
end Go.Proofs.YtjdfjgmebalaaaaGreat.P
namespace Go.Av
def Val.cmp (a b:Val):Int:=if a.null=true then(if b.null=true then 0 else -1)else if b.null=true then 1 else if a.n<b.n then -1 else if b.n<a.n then 1 else 0
def V3:List Val→List Val→Int
 | [],[]=>0
 | [],_::_=>-1
 | _::_,[]=>1
 | a::l,b::m=>if Val.cmp a b=0 then V3 l m else Val.cmp a b
def AKI (a b:List Val):Bool:=decide (V3 a b≤0)
def Ab4 (l:List (List Val)) (r:List Val):List (List Val):=l.takeWhile (fun x=>AKI x r)++r::l.dropWhile (fun x=>AKI x r)
def ASS (l:List (List Val)):List (List Val):=l.foldl Ab4 []
def AT2 (l:List (List Val)):List (List IV):=l.map fun r=>[.isl (uM r)]
structure Tbl where
 w:Int
 rows:List (List Val)
def Tbl.cells (t:Tbl):List IV:=[.int t.w, .isl (AT2 t.rows)]
def tab (w:Int) (rows:List (List Val)):Tbl:=if 400<rows.length then⟨w,[]⟩else⟨w,ASS rows⟩
def chainB:List (List Val)→Bool
 | a::b::l=>AKI a b && chainB (b::l)
 | _=>true
def rowOk (w:Int) (r:List Val):Bool:=decide ((r.length:Int)=w) && r.all Val.ok
def Tbl.ok (t:Tbl):Bool:=bL t.w && (decide (t.rows.length≤400) && (t.rows.all (rowOk t.w) && chainB t.rows))
def isT (e:Ex) (r:List Val):Bool:=decide ((e.ev r).tr=2)
def AQ2 (n:Int):List Val:=List.replicate n.toNat ⟨true,0⟩
def AQG (e:Ex) (rs:List (List Val)) (r:List Val):List (List Val):=(rs.map (r ++ ·)).filter (isT e)
def joinL (e:Ex) (outer:Bool) (w:Int) (rs:List (List Val)) (r:List Val):List (List Val) :=
 if(outer && (AQG e rs r).isEmpty)=true then [r++AQ2 w]else AQG e rs r
def AQF (e:Ex) (outer:Bool) (a b:Tbl):List (List Val):=a.rows.flatMap (joinL e outer b.w b.rows)
def dd:List Val→List (List Val)→List (List Val)
 | _,[]=>[]
 | p,a::l=>if V3 p a=0 then dd a l else a::dd a l
def AQW:List (List Val)→List (List Val)
 | []=>[]
 | a::l=>a::dd a l
def ATC (cs:List Int) (r:List Val):List Val:=cs.map fun c=>(r[c.toNat]?).getD Val.zero
def bump (key:List Val):List (List Val×Nat)→List (List Val×Nat)
 | []=>[(key,1)]
 | g::l=>if V3 g.1 key=0 then(g.1,g.2+1)::l else g::bump key l
def groups (cs:List Int) (rows:List (List Val)):List (List Val×Nat):=rows.foldl (fun acc r=>bump (ATC cs r) acc) []
def AQ0 (g:List Val×Nat):List Val:=g.1++[⟨false,(g.2:Int)⟩]
def QH (cs:List Int) (rows:List (List Val)):List (List Val):=(groups cs rows).map AQ0
def AK1:Tbl:=⟨0,[]⟩
def exO (es:List Ex):Ex:=(es[0]?).getD (.mk 0 0 Val.zero [])
def evK (db:List Tbl) (k t:Int) (es:List Ex) (cs:List Int) (a b:Tbl):Tbl :=
 if k=1 then tab ((db[t.toNat]?).getD AK1).w ((db[t.toNat]?).getD AK1).rows
 else if k=2 then tab a.w (a.rows.filter (isT (exO es)))
 else if k=3 then tab es.length (a.rows.map fun r=>es.map (Ex.ev r))
 else if k=4∨k=5 then tab (a.w+b.w) (AQF (exO es) (decide (k=5)) a b)
 else if k=6 then tab a.w (a.rows++b.rows)
 else if k=7 then tab a.w (AQW a.rows)
 else tab ((cs.length:Int)+1) (QH cs a.rows)
mutual
def Pn.evP (db:List Tbl):Pn→Tbl
 | .mk k t es cs ks=>evK db k t es cs (((Pn.AU8 db ks)[0]?).getD AK1) (((Pn.AU8 db ks)[1]?).getD AK1)
def Pn.AU8 (db:List Tbl):List Pn→List Tbl
 | []=>[]
 | p::ps=>Pn.evP db p::Pn.AU8 db ps
end
section
variable {rows:List (List Val)} {w:Int} (hr:∀ r∈rows,rowOk w r=true) (hw:bL w=true)
include hr hw
end
def rbK (cnt:List Int) (k t:Int) (cs:List Int) (a b:Int):Int :=
 if k=1 then(cnt[t.toNat]?).getD 0 else min (if k=4 then a*b else if k=5 then a*max 1 b else if k=6 then a+b else if k=8∧cs=[]then min a 1 else a) 1000000000
mutual
def Pn.rb (cnt:List Int):Pn→Int
 | .mk k t es cs ks=>rbK cnt k t cs (((Pn.rbL cnt ks)[0]?).getD 0) (((Pn.rbL cnt ks)[1]?).getD 0)
def Pn.rbL (cnt:List Int):List Pn→List Int
 | []=>[]
 | p::ps=>Pn.rb cnt p::Pn.rbL cnt ps
end
def AOR (fl:List Bool):List Int:=fl.map fun b=>if b=true then 7 else 3
def AQ3 (e:Ex) (fl:List Bool):List Bool:=(List.range fl.length).map fun i=>(fl[i]?).getD false && jG (H7 ((AOR fl).set i 4) e) 2
def nlK (flags:List (List Bool)) (k t:Int) (es:List Ex) (cs:List Int) (a b:List Bool):List Bool :=
 if k=1 then(flags[t.toNat]?).getD []
 else if k=2 then AQ3 (exO es) a
 else if k=3 then es.map fun e=>jG (H7 (AOR a) e) 4
 else if k=4 then a++b
 else if k=5 then a++b.map fun _=>true
 else if k=6 then List.zipWith (· || ·) a b
 else if k=8 then(cs.map fun c=>(a[c.toNat]?).getD false)++[false]
 else a
mutual
def Pn.nl (flags:List (List Bool)):Pn→List Bool
 | .mk k t es cs ks=>nlK flags k t es cs (((Pn.nlL flags ks)[0]?).getD []) (((Pn.nlL flags ks)[1]?).getD [])
def Pn.nlL (flags:List (List Bool)):List Pn→List (List Bool)
 | []=>[]
 | p::ps=>Pn.nl flags p::Pn.nlL flags ps
end
def AWG (db:List Tbl) (k t:Int) (es:List Ex) (cs:List Int) (a b:Tbl):List (List Val) :=
 if k=1 then((db[t.toNat]?).getD AK1).rows
 else if k=2 then a.rows.filter (isT (exO es))
 else if k=3 then a.rows.map fun r=>es.map (Ex.ev r)
 else if k=4∨k=5 then AQF (exO es) (decide (k=5)) a b
 else if k=6 then a.rows++b.rows
 else if k=7 then AQW a.rows
 else QH cs a.rows
def Pn.raw (db:List Tbl) (p:Pn):List (List Val):=AWG db p.kind p.table p.exprs p.cols ((p.kids[0]?.map (Pn.evP db)).getD AK1) ((p.kids[1]?.map (Pn.evP db)).getD AK1)
mutual
def Pn.fit (db:List Tbl):Pn→Bool
 | .mk k t es cs ks=>decide ((Pn.raw db (.mk k t es cs ks)).length≤400) && Pn.AV9 db ks
def Pn.AV9 (db:List Tbl):List Pn→Bool
 | []=>true
 | p::ps=>Pn.fit db p && Pn.AV9 db ps
end
mutual
def Pn.bd (n:Nat):Pn→Nat
 | .mk _ _ es _ ks=>bdK n es (Pn.bdL n ks)
def Pn.bdL (n:Nat):List Pn→List Nat
 | []=>[]
 | p::ps=>Pn.bd n p::Pn.bdL n ps
def bdK (n:Nat) (es:List Ex):List Nat→Nat
 | []=>n
 | [a]=>a
 | a::b::_=>if es=[]then a+b else a*b
end
theorem AML (n:Nat) (t:Int):(Pn.scan t).bd n=n:=by simp[Pn.scan,Pn.bd,Pn.bdL,bdK]
theorem ADU (n:Nat) (k t:Int) (es:List Ex) (cs:List Int) (a:Pn):(Pn.mk k t es cs [a]).bd n=a.bd n:=by simp[Pn.bd,Pn.bdL,bdK]
def Th (P:Pn) (j j':Nat) (u u':Int):Prop:=P.thin∧(j'≤j∧u'≤u∧∀ n:Nat,1≤n→P.bd n≤2 ^ (u-u').toNat*n ^ (j-j'+1))∧(P.exprs=[]→P.kids.length=2→P.kind=6)
theorem Th.scan {t:Int} (h:(Pn.scan t).thin) (j:Nat) (u:Int):Th (.scan t) j j u u:=by
 refine⟨h,⟨Nat.le_refl _,Int.le_refl _,fun n _=>?_⟩,by simp[Pn.scan]⟩;rw[AML];simp
theorem Th.one {k t:Int} {es:List Ex} {cs:List Int} {K:Pn} {j j1:Nat} {u u1:Int} (hth:(Pn.mk k t es cs [K]).thin) (h:Th K j j1 u u1):Th (.mk k t es cs [K]) j j1 u u1:=by
 refine⟨hth,⟨h.2.1.1,h.2.1.2.1,fun n hn=>?_⟩,by simp⟩;rw[ADU];exact h.2.1.2.2 n hn
theorem Th.skip {k t:Int} {es:List Ex} {cs:List Int} {K:Pn} {j j1 j2:Nat} {u u1 u2:Int} (hth:(Pn.mk k t es cs [K]).thin) (h:Th K j j1 u u1) (h2:j2≤j1) (h3:u2≤u1):Th (.mk k t es cs [K]) j j2 u u2:=by
 obtain⟨-,⟨g1,g2,g3⟩,-⟩:=h;refine⟨hth,⟨by omega,by omega,fun n hn=>?_⟩,by simp⟩;rw[ADU];refine xM (g3 n hn) (Nat.mul_le_mul (Nat.pow_le_pow_right (by omega) (by omega)) (Nat.pow_le_pow_right hn (by omega)))
def BdV (P:Pn):Prop:=∀ (ws:List Int) (lv n:Nat),1≤n→P.wd ws lv≠0→P.bd n≤2*n ^ 2
def Rt (P:Pn):Prop:=P.thin∧(∀ n:Nat,1≤n→P.bd n≤2*n ^ 2)∧(P.exprs=[]→P.kids.length=2→P.kind=6)
theorem Rt.one {k t:Int} {es:List Ex} {cs:List Int} {P:Pn} (hth:(Pn.mk k t es cs [P]).thin) (h:Rt P):Rt (.mk k t es cs [P]):=⟨hth,fun n hn=>by rw[ADU];exact h.2.1 n hn,by simp⟩
theorem Rt.all {P:Pn} (h:Rt P):BdV P:=fun ws lv n hn _=>h.2.1 n hn
end Go.Av
namespace Go.Proofs.YtjdfjgmebalaaaaGreat.P
open Go Go.Av
set_option maxRecDepth 4000
set_option maxHeartbeats 8000000
def PSt (l:List UInt8) (ws:List Int) (k:Nat) (j u p:Int):StL:=[some (.box [.own 1 0, .osl 2 1 0 k, .int j, .int u]),Rd l p,some (.arr 1 (aF ws))]
structure PlH (l:List UInt8) (ws:List Int) (k d j c2:Nat) (p u t v W kk p1 u1:Int) (j1:Nat) (K:Pn):Prop where
 hd:d<100
 h1:p1+400+c2<300000000
 hp1:0≤p1
 hu0:0≤u1
 hu1:u1≤1
 hW0:0≤W
 hW6:W≤6
 hKB:Th K j j1 u u1
 ht:aI C0 127 [.own 0 0, .int k] [Rd l p]=some (.int t,[Rd l (p+1)])
 hv:aI C0 127 [.own 0 0, .int 6] [Rd l (p+1)]=some (.int v,[Rd l (p+1+1)])
 v0:¬ v=0
 hkid:aI CP 182 [.own 0 0, .int d] (PSt l ws k j u (p+1+1))=some (.i (.agg K.cells),PSt l ws k j1 u1 p1)
 hW:aI CP 104 [.i (.agg K.cells), .osl 0 1 0 k, .int 8] [some (.arr 1 (aF ws))]=some (.int W,[some (.arr 1 (aF ws))])
 hkk:aI C0 127 [.own 0 0, .int 10] [Rd l p1]=some (.int kk,[Rd l (p1+1)])
def bl (n:Nat):Nat:=if n=0 then 0 else 1
end Go.Proofs.YtjdfjgmebalaaaaGreat.P
namespace Go.Av
end Go.Av
namespace Go.Proofs.YtjdfjgmebalaaaaGreat.P
open Go Go.Av
set_option maxRecDepth 4000
set_option maxHeartbeats 4000000
def RN (ws:List Int) (p:Pn) (P:List (List Int)) (i:Nat):List Stp:=(P.take i).flatMap (atS ws p)
end Go.Proofs.YtjdfjgmebalaaaaGreat.P
namespace Go.Av
theorem MQ {ws:List Int} (h:lH ws=true):∀ w∈ws,0≤w∧w≤6:=by
 intro w hw;unfold lH at h;simp only[zT]at h;have:=zQ.1 h.2 w hw;unfold bL at this;simp at this;omega
end Go.Av
namespace Go.Proofs.YtjdfjgmebalaaaaGreat.P
open Go Go.Av
set_option maxRecDepth 4000
set_option maxHeartbeats 8000000
set_option maxHeartbeats 4000000
end Go.Proofs.YtjdfjgmebalaaaaGreat.P
namespace Go.Av
def ASB (r:Int):Bool:=decide (r≠2∧r≠5∧r≠6)
def NS0 (R:Rng) (cs:List AV):StL:=[some (.loop R cs .ready),some (.box [.int 0, .nils]),some (.box [.bool false])]
def NS1 (R:Rng) (cs:List AV) (s:Stp):StL:=some (.loop R cs (.over .ret))::some (.box [.int s.1,if s.2=[]then .nils else .osl 3 1 0 s.2.length])::some (.box [.bool true])::(if s.2=[]then []else [some (.frz 1 (aF s.2))])
end Go.Av
namespace Go.Proofs.YtjdfjgmebalaaaaGreat.P
open Go Go.Av
set_option maxRecDepth 4000
set_option maxHeartbeats 8000000
structure Yn (R:Rng) (cs:List AV):Prop where
 ids:cs=[.own 1 0, .own 2 0, .junk, .junk, .junk]
 n0:∀ r:Int,ASB r=false→aI C0 tN [.fn (.yield 0) [.own 0 0], .agg [.int r, .nils]] (NS0 R cs)=some (.bool true,NS0 R cs)
 n1:∀ (r:Int) (path:List Int),path≠[]→ASB r=false→aI C0 tN [.fn (.yield 0) [.own 0 0], .agg [.int r, .osl 3 1 0 path.length]] (NS0 R cs++[some (.arr 1 (aF path))])=some (.bool true,NS0 R cs++[some (.frz 1 (aF path))])
 y0:∀ r:Int,ASB r=true→aI C0 tN [.fn (.yield 0) [.own 0 0], .agg [.int r, .nils]] (NS0 R cs)=some (.bool false,NS1 R cs (r,[]))
 y1:∀ (r:Int) (path:List Int),path≠[]→ASB r=true→aI C0 tN [.fn (.yield 0) [.own 0 0], .agg [.int r, .osl 3 1 0 path.length]] (NS0 R cs++[some (.arr 1 (aF path))])=some (.bool false,NS1 R cs (r,path))
set_option maxHeartbeats 4000000
def ARY:FuncId→Bool
 | 78=>true
 | g=>AL0 g
noncomputable def APW:FuncId→Option (List AV→StL→Option (AV×StL))
 | 40=>none
 | 16=>none
 | 42=>none
 | 39=>none
 | 12=>none
 | 41=>none
 | 26=>some AR9
 | 78=>some (ATO (Z8 C0 78))
 | 89=>some (aI CR 89)
 | g=>APV g
noncomputable def CA:Ctx:={ P:=Tryz.prog,G:=GS,ownArgs:=ARY,keepRes:=ALC,eqT:=EN,prim:=APW }
@[simp] theorem AiY:CA.P=Tryz.prog:=(rfl)
@[simp] theorem AiZ (f):CA.G f=GS f:=(rfl)
@[simp] theorem AiV (f):CA.ownArgs f=ARY f:=(rfl)
@[simp] theorem AiW (f):CA.keepRes f=(keepR f || decide (f=159)):=(rfl)
@[simp] theorem AiX (f):CA.eqT f=EN f:=(rfl)
@[simp] theorem AiU:CA.tree=false:=(rfl)
theorem AHT {p q:Pn} {ws:List Int} {r:Int} {path:List Int} (h:apO p ws r path=some q):q.thin∧p.width ws≠0∧q.width ws=p.width ws:=by
 unfold apO at h;by_cases h0:p.width ws=0
 ·rw[if_pos h0]at h;cases h
 ·rw[if_neg h0]at h;obtain⟨hw,hp8,hv⟩:=nX h0;rw[AMQ (MQ hw) hp8]at h;have:=ARA (MQ hw) hp8 h;exact⟨dI q 8 (by rw[this];exact hp8),h0,by unfold Pn.width;rw[if_pos hw,if_pos hw];exact this⟩
theorem MB (p:Pn) (hp:p.thin) (ws:List Int) (hl:ws.length<1000000000) (r:Int) (path:List Int) (hpl:path.length<1000000000):aI C0 34 [.i (.agg p.cells), .i (.isl (aF ws)), .i (.agg [.int r, .isl (aF path)])] []=some (apR (apO p ws r path)):=by
 have c1:=X7 p (Pn.UQ p hp) ws (by omega);rw[aD rfl Tryz.func34 rfl rfl];unfold apO;by_cases h0:p.width ws=0
 ·simp only[Pn.aB p]at c1 ⊢;simp[c1,h0,apR,Pn.zero,Pn.cells,Ex.aA,aF,Pn.aA]
 ·obtain⟨hw,hp8,hv⟩:=nX h0;by_cases h8:path.length≤8
  ·have c2:=R4 hw hp8 r (path:=path) (by omega);rw[← AMQ (MQ hw) hp8]at c2;have n8:¬ (8:Int)<path.length:=by omega
   cases hq:apI ws r path p with
   | none =>
    rw[hq]at c2;simp only[Pn.aB p]at c1 c2 ⊢;simp[FB,Pn.zero,Pn.cells,Ex.aA,aF,Pn.aA]at c2;simp[c1,h0,c2,n8,apR,Pn.zero,Pn.cells,Ex.aA,aF,Pn.aA]
   | some q =>
    rw[hq]at c2;simp only[Pn.aB p,Pn.aB q,FB,zA6]at c1 c2 ⊢;simp at c2;simp[c1,h0,c2,n8,apR,Pn.aB q]
  ·have n8:(8:Int)<path.length:=by omega
   have hq:apI ws r path p=none:=by unfold apI;rw[if_neg h8]
   simp only[Pn.aB p]at c1 ⊢;simp[c1,h0,n8,hq,apR,Pn.zero,Pn.cells,Ex.aA,aF,Pn.aA]
end Go.Proofs.YtjdfjgmebalaaaaGreat.P
namespace Go.Av
def jkL (i:Nat) (l:StL):StL:=if i=0 then []else l
@[simp] theorem Ab3 (l:StL):jkL 0 l=[]:=(rfl)
@[simp] theorem ASD (i:Nat) (l:StL):jkL (i+1) l=l:=(rfl)
def jA (i:Nat) (v:AV):AV:=if i=0 then .junk else v
@[simp] theorem AgH (v:AV):jA 0 v=.junk:=(rfl)
@[simp] theorem ATR (i:Nat) (v:AV):jA (i+1) v=v:=(rfl)
end Go.Av
namespace Go.Proofs.YtjdfjgmebalaaaaGreat.P
open Go Go.Av
set_option maxRecDepth 4000
set_option maxHeartbeats 1000000
end Go.Proofs.YtjdfjgmebalaaaaGreat.P
namespace Go.Proofs.YtjdfjgmebalaaaaGreat
open Go Go.Av
end Go.Proofs.YtjdfjgmebalaaaaGreat
namespace Go.Av
theorem J5 (P:Nat→Prop) [DecidablePred P]:∀ n:Nat,(∀ i,i<n→P i)∨∃ j,j<n∧(∀ i,i<j→P i)∧¬ P j
 | 0=>.inl fun i hi=>by omega
 | n+1=>by
  rcases J5 P n with h|⟨j,h1,h2,h3⟩
  ·by_cases hn:P n
   ·exact .inl fun i hi=>by
     by_cases e:i=n
     ·subst e;exact hn
     ·exact h i (by omega)
   ·exact .inr ⟨n,by omega,h,hn⟩
  ·exact .inr ⟨j,by omega,h2,h3⟩
def dA (left:Int) (n:Nat):Int:=if(n:Int)≤left then left-n else -1
theorem GI (l:List Ex) {i:Nat} {a:Ex} (h:l[i]?=some a):Ex.aL (l.take (i+1))=Ex.aL (l.take i)+a.size:=by
 induction l generalizing i with
 | nil=>simp at h
 | cons b l ih =>
  cases i with
  | zero=>simp at h;subst h;simp[Ex.aL]
  | succ i=>have:=ih (i:=i) (by simpa using h);simp only[yP,Ex.aL]at this ⊢;omega
theorem KG (l:List Ex) (i:Nat):Ex.aL (l.take i)≤Ex.aL l:=by
 induction l generalizing i with
 | nil=>simp[Ex.aL]
 | cons b l ih =>
  cases i with
  | zero=>simp[Ex.aL]
  | succ i=>simp only[yP,Ex.aL];have:=ih i;omega
theorem uE:∀ (l:List Ex) (i:Nat),i≤l.length→i≤Ex.aL (l.take i)
 | [],i,h=>by simp at h;subst h;simp
 | a::l,0,_=>by simp
 | a::l,i+1,h=>by
  have:=uE l i (by simpa using h);have:=Ex.lM a;simp only[yP,Ex.aL];omega
end Go.Av
namespace Go.Proofs.YtjdfjgmebalaaaaGreat
open Go Go.Av
set_option maxRecDepth 4000
set_option maxHeartbeats 1000000
theorem AOP {e:Ex} {left:Int} (h:aI C0 48 [.i (.isl (Ex.aA e.kids)), .int left] []=some (.int (dA left (Ex.aL e.kids)),[])) :
 aI C0 82 [.i (.agg e.cells), .int left] []=some (.int (dA left (Ex.aL e.kids)),[]):=by
 rw[aD rfl Tryz.func82 rfl rfl,Ex.aB];simp[h];by_cases h0:dA left (Ex.aL e.kids)<0
 ·have:dA left (Ex.aL e.kids)=-1:=by unfold dA at h0 ⊢;split<;>rename_i hc<;>simp[hc]at h0 ⊢;omega
  simp[h0,this]
 ·simp[h0]
def szI (l:List Ex) (left:Int) (i:Nat):Int:=left-l.length-(Ex.aL (l.take i)-i)
def SZ (l:List Ex) (left:Int) (i:Nat):AS :=
 { env:=[(0, .i (.isl (Ex.aA l))),(1, .int (szI l left i)),(4, .int 0),(5, .int i),(11, .bool false),(15,jk i (.bool true)),(25,jk i (.bool false))],st:=[] }
theorem UT {l:List Ex} {left:Int} (h0:0≤left) (h1:left<1000000000) (hl:l.length<9223372036854775808)
 (ih:∀ a∈l,∀ left:Int,0≤left→left<1000000000→aI C0 82 [.i (.agg a.cells), .int left] []=some (.int (dA left (Ex.aL a.kids)),[])) :
 aI C0 48 [.i (.isl (Ex.aA l)), .int left] []=some (.int (dA left (Ex.aL l)),[]):=by
 rw[aD rfl Tryz.func48 rfl rfl];have w1:IntKind.i64.wrap (left-l.length)=left-l.length:=wrO;have hsl:=Ex.bM l;by_cases hc:left-l.length<0
 ·have:¬ ((Ex.aL l:Nat):Int)≤left:=by omega
  simp[w1,hc,dA,this]
 simp[w1,hc]
 have hpre:∀ i,i<l.length→∃ a,l[i]?=some a∧a∈l∧Ex.aL (l.take (i+1))=Ex.aL (l.take i)+(1+Ex.aL a.kids)∧fO (Ex.aA l) i=some a.cells:=by
  intro i hi;have h3:=zX hi;refine⟨_,h3,zU h3,?_,Ex.aN h3⟩;rw[GI l h3,Ex.size_eq]
 have hround:∀ i,i<l.length→0≤szI l left i→∃ a:Ex,fO (Ex.aA l) i=some a.cells∧aI C0 82 [.i (.agg a.cells), .int (szI l left i)] []=some (.int (if 0≤szI l left (i+1)then szI l left (i+1)else -1),[]):=by
  intro i hi hs;obtain⟨a,h3,hm,hz,hn⟩:=hpre i hi;have hti:=uE l i (by omega);refine⟨a,hn,?_⟩;rw[ih a hm _ hs (by unfold szI;omega)];congr 2;unfold dA;congr 1;by_cases hle:((Ex.aL a.kids:Nat):Int)≤szI l left i
  ·rw[if_pos hle,if_pos (by unfold szI at hle ⊢;omega)];unfold szI;omega
  ·rw[if_neg hle,if_neg (by unfold szI at hle ⊢;omega)]
 rcases J5 (fun i=>0≤szI l left (i+1)) l.length with hall|⟨j,hj,hlt,hbad⟩
 ·rw[aU (SZ l left) l.length (by simp[SZ,szI,Ex.aL])]
  ·rw[aH]
   have hfin:dA left (Ex.aL l)=szI l left l.length:=by
    have hT:l.take l.length=l:=zY (by simp)
    have hge:0≤szI l left l.length:=by
     cases hn:l.length with
     | zero=>unfold szI;rw[hn];simp[Ex.aL];omega
     | succ n=>exact hn ▸ hall n (by omega)
    unfold dA;unfold szI at hge ⊢;rw[hT]at hge ⊢;rw[if_pos (by omega)];omega
   rw[hfin];simp[SZ]
  ·intro i hi
   have hs:0≤szI l left i:=by
    cases i with
    | zero=>unfold szI;simp[Ex.aL];omega
    | succ i=>exact hall i (by omega)
   obtain⟨a,hn,hc⟩:=hround i hi hs;have hs1:=hall i hi;have hs1:0≤szI l left (i+1):=hs1;rw[if_pos hs1]at hc;have w2:IntKind.i64.wrap ((i:Int)+1)=i+1:=wrO;rw[Ex.aB]at hn hc;simp[SZ,hi,hn,hc,w2,show ¬ szI l left (i+1)<0 by omega]
 ·have hsl2:dA left (Ex.aL l)=-1:=by
   have hm:=KG l (j+1);have hbad:¬ 0≤szI l left (j+1):=hbad;obtain⟨a,h3,_,_,_⟩:=hpre j hj
   have hrest:Ex.aL (l.take (j+1))+(l.length-(j+1))≤Ex.aL l:=by
    have e1:Ex.aL l=Ex.aL (l.take (j+1))+Ex.aL (l.drop (j+1)):=by
     have key:∀ (n:Nat) (l:List Ex),Ex.aL l=Ex.aL (l.take n)+Ex.aL (l.drop n):=by
      intro n
      induction n with
      | zero=>intro l;simp[Ex.aL]
      | succ n ih=>intro l;cases l with
       | nil=>simp[Ex.aL]
       | cons b l=>simp only[yP,zC1,Ex.aL];have:=ih l;omega
     exact key _ _
    have e2:=Ex.bM (l.drop (j+1));simp at e2;omega
   unfold dA;unfold szI at hbad;rw[if_neg (by omega)]
  rw[hsl2,aU (SZ l left) j (by simp[SZ,szI,Ex.aL])]
  ·rw[aH]
   have hs:0≤szI l left j:=by
    cases j with
    | zero=>unfold szI;simp[Ex.aL];omega
    | succ j=>exact hlt j (by omega)
   obtain⟨a,hn,hc⟩:=hround j hj hs;have hbad:¬ 0≤szI l left (j+1):=hbad;rw[if_neg hbad]at hc;rw[Ex.aB]at hn hc;simp[SZ,hj,hn,hc]
  ·intro i hi
   have hs:0≤szI l left i:=by
    cases i with
    | zero=>unfold szI;simp[Ex.aL];omega
    | succ i=>exact hlt i (by omega)
   obtain⟨a,hn,hc⟩:=hround i (by omega) hs;have hs1:0≤szI l left (i+1):=hlt i hi;rw[if_pos hs1]at hc;have w2:IntKind.i64.wrap ((i:Int)+1)=i+1:=wrO;rw[Ex.aB]at hn hc;simp[SZ,show i<l.length by omega,hn,hc,w2,show ¬ szI l left (i+1)<0 by omega]
set_option maxHeartbeats 2000000
theorem ASR:∀ (e:Ex),e.fat→∀ left:Int,0≤left→left<1000000000→aI C0 82 [.i (.agg e.cells), .int left] []=some (.int (dA left (Ex.aL e.kids)),[]):=by
 intro e
 induction e using Ex.ind with
 | h k c v ks ih =>
  intro hf left h0 h1;have hf':=(Ex.qC _).1 hf;exact AOP (UT h0 h1 hf'.1 fun a ha=>ih a ha (hf'.2 a ha))
theorem AON (l:List Ex) (hl:l.length<9223372036854775808) (hf:∀ a∈l,a.fat) (left:Int) (h0:0≤left) (h1:left<1000000000):aI C0 48 [.i (.isl (Ex.aA l)), .int left] []=some (.int (dA left (Ex.aL l)),[]) :=
 UT h0 h1 hl fun a ha=>ASR a (hf a ha)
theorem AH2 (v:Val):aI C0 124 [.i (.agg [.bool v.null, .int v.n]), .i (.agg [.bool v.null, .int v.n])] []=some (.bool true,[]):=by
 rw[aD rfl Tryz.func124 rfl rfl];simp
theorem AQU {e:Ex} (h:aI C0 55 [.i (.isl (Ex.aA e.kids)), .i (.isl (Ex.aA e.kids))] []=some (.bool true,[])):aI C0 87 [.i (.agg e.cells), .i (.agg e.cells)] []=some (.bool true,[]):=by
 rw[aD rfl Tryz.func87 rfl rfl,Ex.aB];have hv:=AH2 e.val;simp[hv,h]
def EQ (l:List Ex) (i:Nat):AS :=
 { env:=[(0, .i (.isl (Ex.aA l))),(1, .i (.isl (Ex.aA l))),(4, .bool false),(5, .int i),(10, .bool false),(14,jk i (.bool true)),(26,jk i (.bool false))],st:=[] }
theorem AJD {l:List Ex} (hl:l.length<9223372036854775808) (ih:∀ a∈l,aI C0 87 [.i (.agg a.cells), .i (.agg a.cells)] []=some (.bool true,[])):aI C0 55 [.i (.isl (Ex.aA l)), .i (.isl (Ex.aA l))] []=some (.bool true,[]):=by
 rw[aD rfl Tryz.func55 rfl rfl];simp;rw[aU (EQ l) l.length (by simp[EQ])]
 ·rw[aH];simp[EQ]
 ·intro i hi;have h3:=zX hi;have hc:=ih _ (zU h3);have r2:=Ex.aN h3;generalize l[i]=a at h3 hc r2;have w2:IntKind.i64.wrap ((i:Int)+1)=i+1:=wrO;rw[Ex.aB]at hc r2;simp[EQ,hi,r2,hc,w2]
theorem AH4:∀ (e:Ex),e.fat→aI C0 87 [.i (.agg e.cells), .i (.agg e.cells)] []=some (.bool true,[]):=by
 intro e
 induction e using Ex.ind with
 | h k c v ks ih =>
  intro hf;have hf':=(Ex.qC _).1 hf;exact AQU (AJD hf'.1 fun a ha=>ih a ha (hf'.2 a ha))
theorem AH3 (l:List Ex) (hl:l.length<9223372036854775808) (hf:∀ a∈l,a.fat):aI C0 55 [.i (.isl (Ex.aA l)), .i (.isl (Ex.aA l))] []=some (.bool true,[]):=AJD hl fun a ha=>AH4 a (hf a ha)
def HD (l:List Ex) (k:Int) (i:Nat):AS :=
 { env:=[(0, .i (.isl (Ex.aA (Ex.kD k l)))),(1, .int (k+4*(Ex.aL (l.take i):Nat))),(4, .int 0),(5, .int i),(9,jk i (.bool true)),(18,jk i (.bool false)),(27,jk i (.bool false)),(39,jk i (.bool false)),(49,jk i (.bool false)),(60,jk i (.bool false))],st:=[] }
theorem YH {l:List Ex} {k:Int} (hk:0≤k) (hb:k+4*(Ex.aL l:Nat)<1000000000000) (ih:∀ a∈l,∀ k:Int,0≤k→k+4*(Ex.aL a.kids:Nat)<1000000000000→aI C0 75 [.i (.isl (Ex.aA (Ex.kD k a.kids))), .int k] []=some (.int (k+4*(Ex.aL a.kids:Nat)),[])) :
 aI C0 75 [.i (.isl (Ex.aA (Ex.kD k l))), .int k] []=some (.int (k+4*(Ex.aL l:Nat)),[]):=by
 rw[aD rfl Tryz.func75 rfl rfl];have hlen:=Ex.DW l k;have hsl:=Ex.bM l;simp;rw[aU (HD l k) l.length (by simp[HD,Ex.aL])]
 ·rw[aH];have hT:l.take l.length=l:=zY (by simp);simp[HD,hlen,hT]
 ·intro i hi;have h3:=zX hi;have r2:=Ex.aN (Ex.PZ l k h3);have hz:=GI l h3;have hmono:=KG l (i+1);have hm:=zU h3;rw[Ex.size_eq]at hz;generalize hq:k+4*((Ex.aL (l.take i):Nat):Int)=q at r2;have hc:=ih _ hm (q+1+1+1+1) (by omega) (by omega);generalize l[i]=a at h3 r2 hc hz;rw[Ex.I7]at r2;have w2:IntKind.i64.wrap ((i:Int)+1)=i+1:=wrO;have w3:IntKind.i64.wrap (q+1)=q+1:=wrO;have w4:IntKind.i64.wrap (q+1+1)=q+1+1:=wrO;have w5:IntKind.i64.wrap (q+1+1+1)=q+1+1+1:=wrO;have w6:IntKind.i64.wrap (q+1+1+1+1)=q+1+1+1+1:=wrO;have hn:k+4*((Ex.aL (l.take (i+1)):Nat):Int)=q+1+1+1+1+4*(Ex.aL a.kids:Nat):=by rw[hz];push_cast;omega
  have hneg:¬ q+1+1+1+1+4*((Ex.aL a.kids:Nat):Int)<0:=by omega
  simp[HD,hlen,hi,r2,hc,hq,hn,w2,w3,w4,w5,w6,hneg]
theorem AGQ:∀ (e:Ex) (k:Int),0≤k→k+4*(Ex.aL e.kids:Nat)<1000000000000→aI C0 75 [.i (.isl (Ex.aA (Ex.kD k e.kids))), .int k] []=some (.int (k+4*(Ex.aL e.kids:Nat)),[]):=by
 intro e
 induction e using Ex.ind with
 | h k c v ks ih =>
  intro k hk hb;exact YH hk hb ih
end Go.Proofs.YtjdfjgmebalaaaaGreat
namespace Go.Av
mutual
def Pn.fat:Pn→Prop
 | .mk _ _ es cs ks=>es.length<9223372036854775808∧(∀ e∈es,e.fat)∧cs.length<9223372036854775808∧ks.length<9223372036854775808∧Pn.AD2 ks
def Pn.AD2:List Pn→Prop
 | []=>True
 | p::ps=>p.fat∧Pn.AD2 ps
end
theorem Pn.AB:∀ (l:List Pn),Pn.AD2 l↔∀ p∈l,p.fat
 | []=>by simp[Pn.AD2]
 | p::ps=>by simp[Pn.AD2,Pn.AB ps]
theorem Pn.qC (p:Pn):p.fat↔p.exprs.length<9223372036854775808∧(∀ e∈p.exprs,e.fat)∧p.cols.length<9223372036854775808∧p.kids.length<9223372036854775808∧∀ a∈p.kids,a.fat:=by
 cases p;simp[Pn.fat,Pn.AB]
end Go.Av
namespace Go.Proofs.YtjdfjgmebalaaaaGreat.P
open Go Go.Av
set_option maxRecDepth 4000
set_option maxHeartbeats 4000000
def TIX (l:List Int) (i:Nat):AS :=
 { env:=[(0, .i (.isl (aF l))),(2, .nils),(3, .osl 0 1 0 l.length),(4, .int i),(11,jk i (.bool true))],st:=[some (.arr 1 (aF (l.take i)++List.replicate (l.length-i) [.int 0]))] }
def EIX (l:List Int) (i:Nat):AS :=
 { env:=[(0, .i (.isl (aF l))),(1, .i (.isl (aF l))),(4, .bool false),(5, .int i),(10, .bool false),(14,jk i (.bool true)),(25,jk i (.bool false))],st:=[] }
theorem vJ (l:List Int) (hl:l.length<9223372036854775808):aI C0 18 [.i (.isl (aF l)), .i (.isl (aF l))] []=some (.bool true,[]):=by
 rw[aD rfl Tryz.func18 rfl rfl];simp;rw[aU (EIX l) l.length (by simp[EIX])]
 ·rw[aH];simp[EIX]
 ·intro i hi;have h3:=zX hi;have r2:=bD h3;generalize l[i]=a at h3 r2;have w2:IntKind.i64.wrap ((i:Int)+1)=i+1:=wrO;simp[EIX,hi,r2,w2]
theorem AD6 {p:Pn} (h1:aI C0 55 [.i (.isl (Ex.aA p.exprs)), .i (.isl (Ex.aA p.exprs))] []=some (.bool true,[])) (h2:aI C0 18 [.i (.isl (aF p.cols)), .i (.isl (aF p.cols))] []=some (.bool true,[])) (h3:aI C0 56 [.i (.isl (Pn.aA p.kids)), .i (.isl (Pn.aA p.kids))] []=some (.bool true,[])) :
 aI C0 17 [.i (.agg p.cells), .i (.agg p.cells)] []=some (.bool true,[]):=by
 rw[aD rfl Tryz.func17 rfl rfl,Pn.aB];simp[h1,h2,h3]
def EPS (l:List Pn) (i:Nat):AS :=
 { env:=[(0, .i (.isl (Pn.aA l))),(1, .i (.isl (Pn.aA l))),(4, .bool false),(5, .int i),(10, .bool false),(14,jk i (.bool true)),(26,jk i (.bool false))],st:=[] }
theorem YT {l:List Pn} (hl:l.length<9223372036854775808) (ih:∀ a∈l,aI C0 17 [.i (.agg a.cells), .i (.agg a.cells)] []=some (.bool true,[])):aI C0 56 [.i (.isl (Pn.aA l)), .i (.isl (Pn.aA l))] []=some (.bool true,[]):=by
 rw[aD rfl Tryz.func56 rfl rfl];simp;rw[aU (EPS l) l.length (by simp[EPS])]
 ·rw[aH];simp[EPS]
 ·intro i hi;have h3:=zX hi;have hc:=ih _ (zU h3);have r2:=Pn.aN h3;generalize l[i]=a at h3 hc r2;have w2:IntKind.i64.wrap ((i:Int)+1)=i+1:=wrO;rw[Pn.aB]at hc r2;simp[EPS,hi,r2,hc,w2]
theorem JA:∀ (p:Pn),p.fat→aI C0 17 [.i (.agg p.cells), .i (.agg p.cells)] []=some (.bool true,[]):=by
 intro p
 induction p using Pn.ind with
 | h k t es cs ks ih =>
  intro hf;obtain⟨h1,h2,h3,h4,h5⟩:=(Pn.qC _).1 hf;exact AD6 (AH3 es h1 h2) (vJ cs h3) (YT h4 fun a ha=>ih a ha (h5 a ha))
def zpw:List IV:=[.int 0, .int 0, .isl [], .isl [], .isl []]
end Go.Proofs.YtjdfjgmebalaaaaGreat.P
namespace Go.Av
mutual
def Pn.ms:Pn→Nat
 | .mk _ _ es cs ks=>1+(Ex.aL es+(cs.length+Pn.msL ks))
def Pn.msL:List Pn→Nat
 | []=>0
 | p::l=>p.ms+Pn.msL l
end
def Pn.meas (p:Pn):Nat:=Ex.aL p.exprs+(p.cols.length+Pn.msL p.kids)
theorem Pn.AG6 (p:Pn):p.ms=1+p.meas:=by cases p;simp[Pn.ms,Pn.meas,Pn.exprs,Pn.cols,Pn.kids]
theorem Pn.AIY (p:Pn):1≤p.ms:=by rw[Pn.AG6];omega
theorem Pn.sV:∀ (l:List Pn),l.length≤Pn.msL l
 | []=>by simp
 | p::l=>by have:=Pn.sV l;have:=Pn.AIY p;simp only[zO,Pn.msL];omega
theorem Pn.ABY:∀ {l:List Pn} {p:Pn},p∈l→p.ms≤Pn.msL l
 | a::l,p,h=>by
  simp only[Pn.msL]
  rcases zS.1 h with rfl|h
  ·omega
  ·have:=Pn.ABY h;omega
theorem ABX (l:List Pn) {i:Nat} {a:Pn} (h:l[i]?=some a):Pn.msL (l.take (i+1))=Pn.msL (l.take i)+a.ms:=by
 induction l generalizing i with
 | nil=>simp at h
 | cons b l ih =>
  cases i with
  | zero=>simp at h;subst h;simp[Pn.msL]
  | succ i=>have:=ih (i:=i) (by simpa using h);simp only[yP,Pn.msL]at this ⊢;omega
theorem AG7 (l:List Pn) (i:Nat):Pn.msL (l.take i)≤Pn.msL l:=by
 induction l generalizing i with
 | nil=>simp[Pn.msL]
 | cons b l ih =>
  cases i with
  | zero=>simp[Pn.msL]
  | succ i=>simp only[yP,Pn.msL];have:=ih i;omega
theorem DU:∀ (l:List Pn) (i:Nat),i≤l.length→i≤Pn.msL (l.take i)
 | [],i,h=>by simp at h;subst h;simp
 | a::l,0,_=>by simp
 | a::l,i+1,h=>by
  have:=DU l i (by simpa using h);have:=Pn.AIY a;simp only[yP,Pn.msL];omega
theorem Pn.XF:∀ (p:Pn),p.meas<100000000→p.thin:=by
 intro p
 induction p using Pn.ind with
 | h k t es cs ks ih =>
  intro h;simp only[Pn.meas,Pn.exprs,Pn.cols,Pn.kids]at h;have h1:=Ex.bM es;have h2:=Pn.sV ks;refine(Pn.bI _).2 ⟨by simp only[Pn.exprs];omega,fun e he=>Ex.fD e (by have:=Ex.iN (show e∈es from he);omega),by simp only[Pn.cols];omega,by simp only[Pn.kids];omega,fun a ha=>ih a ha ?_⟩;have h3:=Pn.ABY (show a∈ks from ha);rw[Pn.AG6]at h3;omega
theorem Q5 {left:Int} {a b:Nat} (h:0≤dA left a):dA (dA left a) b=dA left (a+b):=by
 unfold dA at h ⊢;by_cases ha:(a:Int)≤left
 ·rw[if_pos ha]at h ⊢;by_cases hb:(b:Int)≤left-a
  ·rw[if_pos hb,if_pos (by omega)];omega
  ·rw[if_neg hb,if_neg (by omega)]
 ·rw[if_neg ha]at h;omega
theorem wY {left:Int} {a:Nat} (h:dA left a<0) (b:Nat):dA left a=-1∧dA left (a+b)=-1:=by
 unfold dA at h ⊢;by_cases ha:(a:Int)≤left
 ·rw[if_pos ha]at h;omega
 ·rw[if_neg ha,if_neg (by omega)];exact⟨rfl,rfl⟩
theorem MZ {left:Int} {a:Nat} (h:0≤left):dA left a≤left:=by
 unfold dA;split<;>omega
end Go.Av
namespace Go.Proofs.YtjdfjgmebalaaaaGreat.P
open Go Go.Av
set_option maxRecDepth 4000
set_option maxHeartbeats 2000000
theorem UU (l:List Int) (hl:l.length<9223372036854775808) (left:Int) (h0:0≤left) (h1:left<1000000000):aI C0 49 [.i (.isl (aF l)), .int left] []=some (.int (dA left l.length),[]):=by
 rw[aD rfl Tryz.func49 rfl rfl];have w1:IntKind.i64.wrap (left-l.length)=left-l.length:=wrO;by_cases hc:left-l.length<0
 ·have:¬ ((l.length:Nat):Int)≤left:=by omega
  simp[w1,hc,dA,this]
 ·have:((l.length:Nat):Int)≤left:=by omega
  simp[w1,hc,dA,this]
theorem AOO {p:Pn} {left:Int} (h1:aI C0 48 [.i (.isl (Ex.aA p.exprs)), .int left] []=some (.int (dA left (Ex.aL p.exprs)),[]))
 (h2:0≤dA left (Ex.aL p.exprs)→aI C0 49 [.i (.isl (aF p.cols)), .int (dA left (Ex.aL p.exprs))] []=some (.int (dA left (Ex.aL p.exprs+p.cols.length)),[]))
 (h3:0≤dA left (Ex.aL p.exprs+p.cols.length)→aI C0 50 [.i (.isl (Pn.aA p.kids)), .int (dA left (Ex.aL p.exprs+p.cols.length))] []=some (.int (dA left (Ex.aL p.exprs+p.cols.length+Pn.msL p.kids)),[])) :
 aI C0 10 [.i (.agg p.cells), .int left] []=some (.int (dA left p.meas),[]):=by
 rw[aD rfl Tryz.func10 rfl rfl,Pn.aB];have hm:p.meas=Ex.aL p.exprs+p.cols.length+Pn.msL p.kids:=by unfold Pn.meas;omega
 rw[hm];by_cases c1:dA left (Ex.aL p.exprs)<0
 ·obtain⟨e1,e2⟩:=wY c1 (p.cols.length+Pn.msL p.kids);rw[← Nat.add_assoc]at e2;simp[h1,c1,e2]
 ·have h2:=h2 (by omega);by_cases c2:dA left (Ex.aL p.exprs+p.cols.length)<0
  ·obtain⟨e1,e2⟩:=wY c2 (Pn.msL p.kids);simp[h1,c1,h2,c2,e2]
  ·have h3:=h3 (by omega);by_cases c3:dA left (Ex.aL p.exprs+p.cols.length+Pn.msL p.kids)<0
   ·obtain⟨e1,e2⟩:=wY c3 0;simp[h1,c1,h2,c2,h3,c3,e1]
   ·simp[h1,c1,h2,c2,h3,c3]
def szJ (l:List Pn) (left:Int) (i:Nat):Int:=left-l.length-(Pn.msL (l.take i)-i)
def SZP (l:List Pn) (left:Int) (i:Nat):AS :=
 { env:=[(0, .i (.isl (Pn.aA l))),(1, .int (szJ l left i)),(4, .int 0),(5, .int i),(11, .bool false),(15,jk i (.bool true)),(25,jk i (.bool false))],st:=[] }
theorem AAQ {l:List Pn} {left:Int} (h0:0≤left) (h1:left<1000000000) (hl:l.length<9223372036854775808)
 (ih:∀ a∈l,∀ left:Int,0≤left→left<1000000000→aI C0 10 [.i (.agg a.cells), .int left] []=some (.int (dA left (a.meas)),[])) :
 aI C0 50 [.i (.isl (Pn.aA l)), .int left] []=some (.int (dA left (Pn.msL l)),[]):=by
 rw[aD rfl Tryz.func50 rfl rfl];have w1:IntKind.i64.wrap (left-l.length)=left-l.length:=wrO;have hsl:=Pn.sV l;by_cases hc:left-l.length<0
 ·have:¬ ((Pn.msL l:Nat):Int)≤left:=by omega
  simp[w1,hc,dA,this]
 simp[w1,hc]
 have hpre:∀ i,i<l.length→∃ a,l[i]?=some a∧a∈l∧Pn.msL (l.take (i+1))=Pn.msL (l.take i)+(1+a.meas)∧fO (Pn.aA l) i=some a.cells:=by
  intro i hi;have h3:=zX hi;refine⟨_,h3,zU h3,?_,Pn.aN h3⟩;rw[ABX l h3,Pn.AG6]
 have hround:∀ i,i<l.length→0≤szJ l left i→∃ a:Pn,fO (Pn.aA l) i=some a.cells∧aI C0 10 [.i (.agg a.cells), .int (szJ l left i)] []=some (.int (if 0≤szJ l left (i+1)then szJ l left (i+1)else -1),[]):=by
  intro i hi hs;obtain⟨a,h3,hm,hz,hn⟩:=hpre i hi;have hti:=DU l i (by omega);refine⟨a,hn,?_⟩;rw[ih a hm _ hs (by unfold szJ;omega)];congr 2;unfold dA;congr 1;by_cases hle:((a.meas:Nat):Int)≤szJ l left i
  ·rw[if_pos hle,if_pos (by unfold szJ at hle ⊢;omega)];unfold szJ;omega
  ·rw[if_neg hle,if_neg (by unfold szJ at hle ⊢;omega)]
 rcases J5 (fun i=>0≤szJ l left (i+1)) l.length with hall|⟨j,hj,hlt,hbad⟩
 ·rw[aU (SZP l left) l.length (by simp[SZP,szJ,Pn.msL])]
  ·rw[aH]
   have hfin:dA left (Pn.msL l)=szJ l left l.length:=by
    have hT:l.take l.length=l:=zY (by simp)
    have hge:0≤szJ l left l.length:=by
     cases hn:l.length with
     | zero=>unfold szJ;rw[hn];simp[Pn.msL];omega
     | succ n=>exact hn ▸ hall n (by omega)
    unfold dA;unfold szJ at hge ⊢;rw[hT]at hge ⊢;rw[if_pos (by omega)];omega
   rw[hfin];simp[SZP]
  ·intro i hi
   have hs:0≤szJ l left i:=by
    cases i with
    | zero=>unfold szJ;simp[Pn.msL];omega
    | succ i=>exact hall i (by omega)
   obtain⟨a,hn,hc⟩:=hround i hi hs;have hs1:=hall i hi;have hs1:0≤szJ l left (i+1):=hs1;rw[if_pos hs1]at hc;have w2:IntKind.i64.wrap ((i:Int)+1)=i+1:=wrO;rw[Pn.aB]at hn hc;simp[SZP,hi,hn,hc,w2,show ¬ szJ l left (i+1)<0 by omega]
 ·have hsl2:dA left (Pn.msL l)=-1:=by
   have hm:=AG7 l (j+1);have hbad:¬ 0≤szJ l left (j+1):=hbad;obtain⟨a,h3,_,_,_⟩:=hpre j hj
   have hrest:Pn.msL (l.take (j+1))+(l.length-(j+1))≤Pn.msL l:=by
    have e1:Pn.msL l=Pn.msL (l.take (j+1))+Pn.msL (l.drop (j+1)):=by
     have key:∀ (n:Nat) (l:List Pn),Pn.msL l=Pn.msL (l.take n)+Pn.msL (l.drop n):=by
      intro n
      induction n with
      | zero=>intro l;simp[Pn.msL]
      | succ n ih=>intro l;cases l with
       | nil=>simp[Pn.msL]
       | cons b l=>simp only[yP,zC1,Pn.msL];have:=ih l;omega
     exact key _ _
    have e2:=Pn.sV (l.drop (j+1));simp at e2;omega
   unfold dA;unfold szJ at hbad;rw[if_neg (by omega)]
  rw[hsl2,aU (SZP l left) j (by simp[SZP,szJ,Pn.msL])]
  ·rw[aH]
   have hs:0≤szJ l left j:=by
    cases j with
    | zero=>unfold szJ;simp[Pn.msL];omega
    | succ j=>exact hlt j (by omega)
   obtain⟨a,hn,hc⟩:=hround j hj hs;have hbad:¬ 0≤szJ l left (j+1):=hbad;rw[if_neg hbad]at hc;rw[Pn.aB]at hn hc;simp[SZP,hj,hn,hc]
  ·intro i hi
   have hs:0≤szJ l left i:=by
    cases i with
    | zero=>unfold szJ;simp[Pn.msL];omega
    | succ i=>exact hlt i (by omega)
   obtain⟨a,hn,hc⟩:=hround i (by omega) hs;have hs1:0≤szJ l left (i+1):=hlt i hi;rw[if_pos hs1]at hc;have w2:IntKind.i64.wrap ((i:Int)+1)=i+1:=wrO;rw[Pn.aB]at hn hc;simp[SZP,show i<l.length by omega,hn,hc,w2,show ¬ szJ l left (i+1)<0 by omega]
theorem AAP:∀ (p:Pn),p.fat→∀ left:Int,0≤left→left<1000000000→aI C0 10 [.i (.agg p.cells), .int left] []=some (.int (dA left p.meas),[]):=by
 intro p
 induction p using Pn.ind with
 | h k t es cs ks ih =>
  intro hf left h0 h1;obtain⟨f1,f2,f3,f4,f5⟩:=(Pn.qC _).1 hf;refine AOO (AON _ f1 f2 left h0 h1) (fun h=>?_) fun h=>?_
  ·rw[UU _ f3 _ h (by have:=MZ (a:=Ex.aL es) h0;simp only[Pn.exprs];omega),Q5 h]
  ·rw[AAQ h (by have:=MZ (a:=Ex.aL es+cs.length) h0;simp only[Pn.exprs,Pn.cols];omega) f4 fun a ha left h0 h1=>ih a ha (f5 a ha) left h0 h1,Q5 h]
end Go.Proofs.YtjdfjgmebalaaaaGreat.P
namespace Go.Av
theorem AE2 {w:World} {a:Addr} {v:Value} (h:w.cell? (a.add 0)=some v):∃ b off,a=⟨b,off,none⟩:=by
 obtain⟨b,off,spot⟩:=a;simp only[Addr.add,if_true,World.cell?]at h
 cases spot with
 | none=>exact⟨b,off,rfl⟩
 | some s=>split at h<;>simp at h
theorem AOM {cs:List Value} (h:cs.length=5):∃ c0 c1 c2 c3 c4,cs=[c0,c1,c2,c3,c4]:=by
 match cs,h with
 | [c0,c1,c2,c3,c4],_=>exact⟨c0,c1,c2,c3,c4,rfl⟩
end Go.Av
namespace Go.Proofs.YtjdfjgmebalaaaaGreat.P
open Go Go.Av
set_option maxRecDepth 4000
variable {H:Type} {enc:TypeId×Value→H} {w:World} {sp:Nat→Bool}
theorem ce3:Tryz.prog.cellsOf 3=1:=by kernel_rfl
theorem ce4:Tryz.prog.cellsOf 4=1:=by kernel_rfl
theorem AVS:Tryz.prog.cellsOf 109=2:=by kernel_rfl
theorem AVR:Tryz.prog.cellsOf 22=1:=by kernel_rfl
theorem AUI:Tryz.prog.cellsOf 111=5:=by kernel_rfl
theorem AQK {fuel:Nat} {cs:List Value} {r:DataW H×List MemPlace} (h:DataW.trod enc Tryz.prog w 0 sp true fuel 109 cs=some r):∃ v:Val,cs=[.bool v.null, .int .i64 v.n]:=by
 obtain⟨xs,n,rfl,_,hl,hx,hf⟩:=DataW.trod_struct Tryz.underlying109 h;rw[AVS]at hl;have h0:DataW.trod enc Tryz.prog w 0 sp true n 4 ((cs.drop 0).take (Tryz.prog.cellsOf 4))=xs[0]?:=hf 0 _ rfl;have h1:DataW.trod enc Tryz.prog w 0 sp true n 3 ((cs.drop 1).take (Tryz.prog.cellsOf 3))=xs[1]?:=hf 1 _ rfl;rw[ce4]at h0;rw[ce3]at h1;have hx:xs.length=2:=hx;rw[zX (by omega)]at h0 h1;obtain⟨b,hb,_⟩:=DataW.trod_bool Tryz.underlying4 h0;obtain⟨k,hk,_⟩:=DataW.trod_int Tryz.underlying3 h1
 match cs,hl with
 | [c0,c1],_ =>
  simp at hb hk;exact⟨⟨b,k⟩,by rw[hb,hk]⟩
theorem VT {b:Nat} {P:List Value→List IV→Prop} {k:Nat} (hk:∀ cs l,P cs l→l.length=k∧ICells (dS w) l cs):∀ (n off:Nat),(∀ i,i<n→∃ cs l,P cs l∧∀ j v,cs[j]?=some v→w.cell? ⟨b,off+k*i+j,none⟩=some v) →
 ∃ es:List (List IV),es.length=n∧IElems (dS w) b off k es∧∀ e∈es,∃ cs,P cs e
 | 0,off,_=>⟨[],rfl, .nil _ _ _,by simp⟩
 | n+1,off,h=>by
  obtain⟨cs,l,h1,h2⟩:=h 0 (by omega);obtain⟨k1,k2⟩:=hk cs l h1
  obtain⟨es,e1,e2,e3⟩:=VT hk n (off+k) (fun i hi=>by
   obtain⟨cs,l,h3,h4⟩:=h (i+1) (by omega)
   exact⟨cs,l,h3,fun j v hj=>by rw[← h4 j v hj];congr 2;rw[zC];omega⟩)
  refine⟨l::es,by simp[e1], .cons (IAt.mk off k2 fun j v hj=>?_) k1 e2,?_⟩
  ·have:=h2 j v hj;show w.cell? ⟨b,off+j,none⟩=some v;simpa using this
  ·intro e he
   rcases zS.1 he with rfl|he
   ·exact⟨cs,h1⟩
   ·exact e3 e he
theorem F9 {fuel:Nat} {t e:TypeId} {c:Value} {r:DataW H×List MemPlace} {k:Nat} {P:List Value→List IV→Prop} (ht:Tryz.prog.underlying t=some (.slice e)) (hce:Tryz.prog.cellsOf e=k) (hk0:0<k) (hk:∀ cs l,P cs l→l.length=k∧ICells (dS w) l cs)
 (ih:∀ n,n<fuel→∀ cs x,DataW.trod enc Tryz.prog w 0 sp true n e cs=some x→∃ l,P cs l) (h:DataW.trod enc Tryz.prog w 0 sp true fuel t [c]=some r) :
 ∃ es:List (List IV),IRep (dS w) (.isl es) c∧es.length<9223372036854775808∧∀ x∈es,∃ cs,P cs x:=by
 rcases DataW.trod_slice ht h with ⟨h1,_⟩|⟨a,len,cap,elems,rest,n,rfl,h1,_,_,hlc,hcm,hel,hat,_,_⟩
 ·injection h1 with h1;subst h1;exact⟨[], .isl0 _ _ fun _=>rfl,by simp,by simp⟩
 ·injection h1 with h1;subst h1;by_cases h0:len=0
  ·subst h0;exact⟨[], .isl0 _ _ (by simp),by simp,by simp⟩
  ·rw[hce]at hat
   have get:∀ i,i<len→∃ cs l,P cs l∧cs.length=k∧∀ j,j<k→w.cell? ((a.add (i*k)).add j)=cs[j]?:=by
    intro i hi;have h2:=hat i hi;rw[zX (by omega)]at h2;obtain⟨cs,h3,h4⟩:=Option.bind_eq_some_iff.1 h2;obtain⟨_,h5,h6⟩:=World.cells?_some h3;obtain⟨l,h7⟩:=ih n (by omega) cs _ h4;exact⟨cs,l,h7,h5,h6⟩
   obtain⟨b,off,rfl⟩:∃ b off,a=⟨b,off,none⟩:=by
    obtain⟨cs,l,_,h5,h6⟩:=get 0 (by omega);have h7:=h6 0 hk0;rw[zX (by omega)]at h7;refine AE2 (v:=cs[0]'(by omega)) (w:=w) ?_;rw[← h7,Nat.zero_mul];congr 1
   obtain⟨es,e1,e2,e3⟩:=VT (b:=b) hk len off (fun i hi=>by
    obtain⟨cs,l,h4,h5,h6⟩:=get i hi;refine⟨cs,l,h4,fun j v hj=>?_⟩;have hjl:=(zZ.1 hj).1;have:=h6 j (by omega);rw[hj,Addr.dF,Addr.dF]at this
    rw[← this,yZ k i])
   refine⟨es,?_,by rw[e1];unfold maxLen at hcm;omega,e3⟩;have hne:es≠[]:=fun h=>by rw[h]at e1;simp at e1;omega
   have:=IRep.isl (m:=dS w) (cap:=cap) hne e2 (by omega)
   rwa [e1]at this
theorem AQL:∀ (fuel:Nat) (cs:List Value) (r:DataW H×List MemPlace),DataW.trod enc Tryz.prog w 0 sp true fuel 111 cs=some r→∃ e:Ex,e.fat∧ICells (dS w) e.cells cs:=by
 intro fuel
 induction fuel using Nat.strongRecOn with
 | _ fuel ih =>
  intro cs r h;obtain⟨xs,n,rfl,_,hl,hx,hf⟩:=DataW.trod_struct Tryz.underlying111 h;rw[AUI]at hl;have h0:DataW.trod enc Tryz.prog w 0 sp true n 3 ((cs.drop 0).take (Tryz.prog.cellsOf 3))=xs[0]?:=hf 0 _ rfl;have h1:DataW.trod enc Tryz.prog w 0 sp true n 3 ((cs.drop 1).take (Tryz.prog.cellsOf 3))=xs[1]?:=hf 1 _ rfl;have h2:DataW.trod enc Tryz.prog w 0 sp true n 109 ((cs.drop 2).take (Tryz.prog.cellsOf 109))=xs[2]?:=hf 2 _ rfl;have h3:DataW.trod enc Tryz.prog w 0 sp true n 22 ((cs.drop 4).take (Tryz.prog.cellsOf 22))=xs[3]?:=hf 3 _ rfl;rw[ce3]at h0 h1;rw[AVS]at h2;rw[AVR]at h3;have hx:xs.length=4:=hx;rw[zX (by omega)]at h0 h1 h2 h3;obtain⟨c0,c1,c2,c3,c4,rfl⟩:=AOM hl;obtain⟨k0,hk0,_⟩:=DataW.trod_int Tryz.underlying3 h0;obtain⟨k1,hk1,_⟩:=DataW.trod_int Tryz.underlying3 h1;obtain⟨v,hv⟩:=AQK h2;simp at hk0 hk1 hv;obtain⟨rfl,rfl⟩:=hv;subst hk0;subst hk1;simp at h3
  obtain⟨es,e1,e2,e3⟩:=F9 (P:=fun cs l=>∃ e:Ex,e.fat∧l=e.cells∧ICells (dS w) l cs) Tryz.underlying22 AUI (by omega) (fun cs l ⟨e,_,h5,h6⟩=>⟨by rw[h5,Ex.aB];rfl,h6⟩)
   (fun m hm cs x hx=>by
    obtain⟨e,h5,h6⟩:=ih m (by omega) cs x hx
    exact⟨e.cells,e,h5,rfl,h6⟩) h3
  have hl:∃ l:List Ex,Ex.aA l=es∧∀ a∈l,a.fat:=by
   have key:∀ es:List (List IV),(∀ x∈es,∃ cs,∃ e:Ex,e.fat∧x=e.cells∧ICells (dS w) x cs)→∃ l:List Ex,Ex.aA l=es∧∀ a∈l,a.fat:=by
    intro es
    induction es with
    | nil=>intro _;exact⟨[],rfl,by simp⟩
    | cons x es ihe =>
     intro h;obtain⟨_,e,h5,h6,_⟩:=h x (by simp);obtain⟨l,h7,h8⟩:=ihe fun y hy=>h y (by simp[hy])
     exact⟨e::l,by simp[Ex.aA,h6,h7],fun a ha=>by
      rcases zS.1 ha with rfl|ha
      ·exact h5
      ·exact h8 a ha⟩
   exact key es e3
  obtain⟨l,rfl,hfat⟩:=hl;refine⟨.mk k0 k1 v l,(Ex.qC _).2 ⟨by simpa [Ex.kids]using e2,hfat⟩,?_⟩;rw[show(Ex.mk k0 k1 v l).cells=[.int k0, .int k1, .bool v.null, .int v.n, .isl (Ex.aA l)]by simp[Ex.cells]];exact .cons (.lit _) rfl (.cons (.lit _) rfl (.cons (.lit _) rfl (.cons (.lit _) rfl (.cons e1 (pY e1) .nil))))
theorem ceI:Tryz.prog.cellsOf 3=1:=by kernel_rfl
theorem AdY:Tryz.prog.cellsOf 24=1:=by kernel_rfl
theorem AVQ:Tryz.prog.cellsOf 23=1:=by kernel_rfl
theorem ceP:Tryz.prog.cellsOf 26=5:=by kernel_rfl
theorem TP {fuel:Nat} {c:Value} {r:DataW H×List MemPlace} (h:DataW.trod enc Tryz.prog w 0 sp true fuel 23 [c]=some r):∃ l:List Int,l.length<9223372036854775808∧IRep (dS w) (.isl (aF l)) c:=by
 obtain⟨es,e1,e2,e3⟩:=F9 (P:=fun cs l=>∃ n:Int,l=[.int n]∧cs=[.int .i64 n]) Tryz.underlying23 ceI (by omega) (fun cs l ⟨v,h5,h6⟩=>⟨by rw[h5];rfl,by rw[h5,h6];exact .cons (.lit _) rfl .nil⟩)
  (fun m hm cs x hx=>by
   obtain⟨k,hk,_⟩:=DataW.trod_int Tryz.underlying3 hx
   exact⟨[.int k],k,rfl,hk⟩) h
 have key:∀ es:List (List IV),(∀ x∈es,∃ cs:List Value,∃ n:Int,x=[.int n]∧cs=[.int .i64 n])→∃ l:List Int,aF l=es:=by
  intro es
  induction es with
  | nil=>intro _;exact⟨[],rfl⟩
  | cons x es ihe =>
   intro h;obtain⟨_,v,h5,_⟩:=h x (by simp);obtain⟨l,h7⟩:=ihe fun y hy=>h y (by simp[hy])
   exact⟨v::l,by simp[aF,h5,h7]⟩
 obtain⟨l,rfl⟩:=key es e3;exact⟨l,by simpa using e2,e1⟩
theorem ALY {fuel:Nat} {c:Value} {r:DataW H×List MemPlace} (h:DataW.trod enc Tryz.prog w 0 sp true fuel 22 [c]=some r):∃ l:List Ex,l.length<9223372036854775808∧(∀ a∈l,a.fat)∧IRep (dS w) (.isl (Ex.aA l)) c:=by
 obtain⟨es,e1,e2,e3⟩:=F9 (P:=fun cs l=>∃ e:Ex,e.fat∧l=e.cells∧ICells (dS w) l cs) Tryz.underlying22 AUI (by omega) (fun cs l ⟨e,_,h5,h6⟩=>⟨by rw[h5,Ex.aB];rfl,h6⟩)
  (fun m hm cs x hx=>by
   obtain⟨e,h5,h6⟩:=AQL m cs x hx
   exact⟨e.cells,e,h5,rfl,h6⟩) h
 have key:∀ es:List (List IV),(∀ x∈es,∃ cs,∃ e:Ex,e.fat∧x=e.cells∧ICells (dS w) x cs)→∃ l:List Ex,Ex.aA l=es∧∀ a∈l,a.fat:=by
  intro es
  induction es with
  | nil=>intro _;exact⟨[],rfl,by simp⟩
  | cons x es ihe =>
   intro h;obtain⟨_,e,h5,h6,_⟩:=h x (by simp);obtain⟨l,h7,h8⟩:=ihe fun y hy=>h y (by simp[hy])
   exact⟨e::l,by simp[Ex.aA,h6,h7],fun a ha=>by
    rcases zS.1 ha with rfl|ha
    ·exact h5
    ·exact h8 a ha⟩
 obtain⟨l,rfl,hfat⟩:=key es e3;exact⟨l,by simpa using e2,hfat,e1⟩
theorem ALX:∀ (fuel:Nat) (cs:List Value) (r:DataW H×List MemPlace),DataW.trod enc Tryz.prog w 0 sp true fuel 26 cs=some r→∃ p:Pn,p.fat∧ICells (dS w) p.cells cs:=by
 intro fuel
 induction fuel using Nat.strongRecOn with
 | _ fuel ih =>
  intro cs r h;obtain⟨xs,n,rfl,_,hl,hx,hf⟩:=DataW.trod_struct Tryz.underlying26 h;rw[ceP]at hl;have h0:DataW.trod enc Tryz.prog w 0 sp true n 3 ((cs.drop 0).take (Tryz.prog.cellsOf 3))=xs[0]?:=hf 0 _ rfl;have h1:DataW.trod enc Tryz.prog w 0 sp true n 3 ((cs.drop 1).take (Tryz.prog.cellsOf 3))=xs[1]?:=hf 1 _ rfl;have h2:DataW.trod enc Tryz.prog w 0 sp true n 22 ((cs.drop 2).take (Tryz.prog.cellsOf 22))=xs[2]?:=hf 2 _ rfl;have h3:DataW.trod enc Tryz.prog w 0 sp true n 23 ((cs.drop 3).take (Tryz.prog.cellsOf 23))=xs[3]?:=hf 3 _ rfl;have h4:DataW.trod enc Tryz.prog w 0 sp true n 24 ((cs.drop 4).take (Tryz.prog.cellsOf 24))=xs[4]?:=hf 4 _ rfl;rw[ceI]at h0 h1;rw[AVR]at h2;rw[AVQ]at h3;rw[AdY]at h4;have hx:xs.length=5:=hx;rw[zX (by omega)]at h0 h1 h2 h3 h4;obtain⟨c0,c1,c2,c3,c4,rfl⟩:=AOM hl;obtain⟨k0,hk0,_⟩:=DataW.trod_int Tryz.underlying3 h0;obtain⟨k1,hk1,_⟩:=DataW.trod_int Tryz.underlying3 h1;simp at hk0 hk1;subst hk0;subst hk1;simp at h2 h3 h4;obtain⟨es,le,fe,re⟩:=ALY h2;obtain⟨is,li,ri⟩:=TP h3
  obtain⟨ps,e1,e2,e3⟩:=F9 (P:=fun cs l=>∃ e:Pn,e.fat∧l=e.cells∧ICells (dS w) l cs) Tryz.underlying24 ceP (by omega) (fun cs l ⟨e,_,h5,h6⟩=>⟨by rw[h5,Pn.aB];rfl,h6⟩)
   (fun m hm cs x hx=>by
    obtain⟨e,h5,h6⟩:=ih m (by omega) cs x hx
    exact⟨e.cells,e,h5,rfl,h6⟩) h4
  have key:∀ es:List (List IV),(∀ x∈es,∃ cs,∃ e:Pn,e.fat∧x=e.cells∧ICells (dS w) x cs)→∃ l:List Pn,Pn.aA l=es∧∀ a∈l,a.fat:=by
   intro es
   induction es with
   | nil=>intro _;exact⟨[],rfl,by simp⟩
   | cons x es ihe =>
    intro h;obtain⟨_,e,h5,h6,_⟩:=h x (by simp);obtain⟨l,h7,h8⟩:=ihe fun y hy=>h y (by simp[hy])
    exact⟨e::l,by simp[Pn.aA,h6,h7],fun a ha=>by
     rcases zS.1 ha with rfl|ha
     ·exact h5
     ·exact h8 a ha⟩
  obtain⟨l,rfl,hfat⟩:=key ps e3;refine⟨.mk k0 k1 es is l,(Pn.qC _).2 ⟨le,fe,li,by simpa using e2,hfat⟩,?_⟩;rw[Pn.dO];exact .cons (.lit _) rfl (.cons (.lit _) rfl (.cons re (pY re) (.cons ri (pY ri) (.cons e1 (pY e1) .nil))))
end Go.Proofs.YtjdfjgmebalaaaaGreat.P
namespace Go.Av
end Go.Av
namespace Go.Proofs.YtjdfjgmebalaaaaGreat.P
open Go Go.Av
set_option maxRecDepth 4000
set_option maxHeartbeats 1000000
theorem AAO (s:Stp) (hl:s.2.length<9223372036854775808) (left:Int) (h0:0≤left) (h1:left<1000000000):aI C0 33 [.i (.agg [.int s.1, .isl (aF s.2)]), .int left] []=some (.int (dA left s.2.length),[]):=by
 rw[aD rfl Tryz.func33 rfl rfl];have e:=UU s.2 hl left h0 h1;by_cases hc:dA left s.2.length<0
 ·have:=(wY hc 0).1;simp[e,hc,this]
 ·simp[e,hc]
theorem U0 (s:Stp) (hl:s.2.length<9223372036854775808):aI C0 36 [.i (.agg [.int s.1, .isl (aF s.2)]), .i (.agg [.int s.1, .isl (aF s.2)])] []=some (.bool true,[]):=by
 have h:=vJ s.2 hl;rw[aD rfl Tryz.func36 rfl rfl];simp[h]
end Go.Proofs.YtjdfjgmebalaaaaGreat.P
namespace Go.Av
def AV5 (k:Nat) (es:List (List IV)):Nat→StL
 | 0=>[]
 | _+1=>[some (.tre k es)]
@[simp] theorem AV4 (k:Nat) (es:List (List IV)):AV5 k es 0=[]:=(rfl)
@[simp] theorem AV3 (k i:Nat) (es:List (List IV)):AV5 k es (i+1)=[some (.tre k es)]:=(rfl)
theorem AIK (l:List Ex):(Ex.aA l).take l.length=Ex.aA l:=zY (by simp)
theorem AIJ (l:List Int):(aF l).take l.length=aF l:=zY (by simp)
theorem AII (l:List Pn):(Pn.aA l).take l.length=Pn.aA l:=zY (by simp)
end Go.Av
namespace Go.Av.Mk
open Go Go.Av
theorem M7 {W n i:Nat} {us V:List Value} (hi:i<n) (hu:W*n≤us.length) (hV:V.length=W):(us.take (W*i)++V++us.drop (W*(i+1))).take (W*n)=us.take (W*i)++V++(us.take (W*n)).drop (W*(i+1)):=by
 have m1:W*(i+1)=W*i+W:=by rw[zC];omega
 have m2:W*(i+1)≤W*n:=zD W (by omega);have hl:(us.take (W*i)++V).length=W*(i+1):=by simp;omega
 rw[xU,hl,zY (by rw[hl];omega),xX]
end Go.Av.Mk
namespace Go.Proofs.YtjdfjgmebalaaaaGreat.P
open Go Go.Av Go.Av.Mk
set_option maxRecDepth 4000
set_option maxHeartbeats 1000000
theorem ABR:∃ c0 c1 cc body c3 cend,MLoop C0 30 1 19 (GS 30) Tryz.f30 c0 c1 cc body c3 cend∧∀ n:Int,UK C0 AQ1 AN8 AIW 1 19 body n:=by
 refine⟨_,_,_,_,_,_,{ func:=Tryz.func30,code:=rfl,ntmps:=rfl,big:=by omega,results:=rfl,ok0:=⟨by kernel_rfl,rfl⟩,ok1:=⟨by kernel_rfl,rfl⟩,okc:=⟨by kernel_rfl,rfl⟩,ok3:=⟨by kernel_rfl,rfl⟩,oke:=⟨by kernel_rfl,rfl⟩,x0:=?_,x1:=?_,xc:=?_,xo:=?_,x3:=?_,xe:=?_,xf:=?_,nil:=?_ },?_⟩
 ·intro n R q;simp[MS]
 ·intro n R q;simp[MS]
 ·intro n i R q hi;simp[MS,hi]
 ·intro n R q;simp[MS]
 ·intro n i R q hi;have w6:IntKind.i64.wrap ((i:Int)+1)=i+1:=wrO;simp[MS,w6]
 ·intro n R q;simp[MS]
 ·intro n R q;simp[MS]
 ·intro k;rw[aD rfl Tryz.func30 rfl rfl];simp;rw[aH];simp
 ·intro x b N n i us vs q F a w hin g hvs hT hnd hbF h0 h1;have hlen:=g.len;have hfit:=g.fit;have h1:q+1<1000000000000:=h1
  cases hT with
  | @lit v _ vs' _ ho hT =>
   cases hT
   have hR:=lY 1 n us i hin;rw[hvs]at hR;have hset:=sP 1 n us [.int .i64 q] i hin (by omega) rfl;simp only[yT,zD6]at hR hset;have w2:IntKind.i64.wrap (q+1)=q+1:=wrO;generalize hRR:rowsOf 1 n us=R at hR hset;refine wp_mono (AH1 dK (G:=GS 30) (R':=R.set i [.int q]) (q':=q+1) (j9:=.junk) g hRR (by kernel_rfl) rfl (by simp[MS,hin,hR,w2]) hset) ?_;rintro e a' w' ⟨rfl,us',g',e',f'⟩;refine⟨rfl,us',[.int .i64 q],g',?_, .lit rfl .nil,f'⟩;rw[e'];exact M7 hin (by omega) rfl
theorem AL1:AX C0 AQ1 AN8 AIW 30:=by
 obtain⟨c0,c1,cc,body,c3,cend,L,hR⟩:=ABR;exact AX.of dK (by decide) L (fun _=>rfl) (by omega) (fun _=>zP _) hR
theorem AU7 {w:World} {a:Ex} {vs:List Value} {F:List Nat} (h:TCells w a.cells vs F) :
 ∃ u,vs=[.int .i64 a.kind, .int .i64 a.col, .bool a.val.null, .int .i64 a.val.n,u]∧TCells w [.isl (Ex.aA a.kids)] [u] F:=by
 rw[Ex.aB]at h
 cases h with
 | @lit _ _ v1 _ o1 h1 =>
  cases h1 with
  | @lit _ _ v2 _ o2 h2 =>
   cases h2 with
   | @lit _ _ v3 _ o3 h3 =>
    cases h3 with
    | @lit _ _ v4 _ o4 h4 =>
     have hl:=h4.length
     cases v4 with
     | nil=>simp at hl
     | cons u r =>
      cases r with
      | cons=>simp at hl
      | nil=>exact⟨u,rfl,h4⟩
theorem AGZ:∃ c0 c1 cc body c3 cend,MLoop C0 72 5 52 (GS 72) Tryz.f72 c0 c1 cc body c3 cend∧∀ x:Ex,UK C0 Ex.cells Ex.tQ exZ 5 52 body x:=by
 have hl:∃ c0 c1 cc body c3 cend,MLoop C0 72 5 52 (GS 72) Tryz.f72 c0 c1 cc body c3 cend∧((∀ x:Ex,(∀ (w:World) (v:Value) (F:List Nat) (k:Int),TCells w [.isl (Ex.aA x.kids)] [v] F→F.Nodup→0≤k→k+(bT exZ x.kids:Nat)<1000000000000→Calls Tryz.prog 72 #[v, .int .i64 k] w (AI2 Ex.cells Ex.tQ exZ w v F k x.kids))→UK C0 Ex.cells Ex.tQ exZ 5 52 body x)):=by
  refine⟨_,_,_,_,_,_,{ func:=Tryz.func72,code:=rfl,ntmps:=rfl,big:=by omega,results:=rfl,ok0:=⟨by kernel_rfl,rfl⟩,ok1:=⟨by kernel_rfl,rfl⟩,okc:=⟨by kernel_rfl,rfl⟩,ok3:=⟨by kernel_rfl,rfl⟩,oke:=⟨by kernel_rfl,rfl⟩,x0:=?_,x1:=?_,xc:=?_,xo:=?_,x3:=?_,xe:=?_,xf:=?_,nil:=?_ },?_⟩
  ·intro n R q;simp[MS]
  ·intro n R q;simp[MS]
  ·intro n i R q hi;simp[MS,hi]
  ·intro n R q;simp[MS]
  ·intro n i R q hi;have w6:IntKind.i64.wrap ((i:Int)+1)=i+1:=wrO;simp[MS,w6]
  ·intro n R q;simp[MS]
  ·intro n R q;simp[MS]
  ·intro k;rw[aD rfl Tryz.func72 rfl rfl];simp;rw[aH];simp
  ·intro x ih b N n i us vs q F a w hin g hvs hT hnd hbF h0 h1;have hlen:=g.len;have hfit:=g.fit;have hsz:exZ x=4+bT exZ x.kids:=by rw[sO];unfold exZ;rw[Ex.size_eq];omega
   rw[hsz]at h1;obtain⟨u,rfl,hu⟩:=AU7 hT;have hR:=lY 5 n us i hin;rw[hvs]at hR;have hset:=sP 5 n us [.int .i64 q, .int .i64 (q+1), .bool ((q+1+1).tmod 3 == 0), .int .i64 (q+1+1+1),u] i hin (by omega) rfl;simp only[yT,zD6]at hR hset;have w2:IntKind.i64.wrap (q+1)=q+1:=wrO;have w3:IntKind.i64.wrap (q+1+1)=q+1+1:=wrO;have w4:IntKind.i64.wrap (q+1+1+1)=q+1+1+1:=wrO;have w5:IntKind.i64.wrap (q+1+1+1+1)=q+1+1+1+1:=wrO;have rr:=g.to;generalize hRR:rowsOf 5 n us=R at hR hset rr;have hRl:R.length=n:=by rw[← hRR,fH]
   have hRs:∀ r:List IV,fO (R.set i r) i=some r:=fun r=>by rw[gG,List.getElem?_set_self (by omega)]
   refine wp_seq (wp_mono (oJ dK (nU b N) (G:=GS 72) (S':=MS 5 n (R.set i [.int q, .int x.col, .bool x.val.null, .int x.val.n, .lit u]) q .junk (.int i) .junk) (e:=.normal) (by kernel_rfl) (by simp[MS,hin,hR,hRs,w2,w3,w4,w5]) rr) ?_);rintro _ x1 y1 ⟨rfl,r1⟩;refine wp_seq (wp_mono (oJ dK (nU b N) (G:=GS 72) (S':=MS 5 n (R.set i [.int q, .int x.col, .bool x.val.null, .int x.val.n, .lit u]) (q+1) .junk (.int i) .junk) (e:=.normal) (by kernel_rfl) (by simp[MS,hin,hR,hRs,w2,w3,w4,w5]) r1) ?_);rintro _ x2 y2 ⟨rfl,r2⟩;refine wp_seq (wp_mono (oJ dK (nU b N) (G:=GS 72) (S':=MS 5 n (R.set i [.int q, .int (q+1), .bool x.val.null, .int x.val.n, .lit u]) (q+1) .junk (.int i) .junk) (e:=.normal) (by kernel_rfl) (by simp[MS,hin,hR,hRs,w2,w3,w4,w5]) r2) ?_);rintro _ x3 y3 ⟨rfl,r3⟩;refine wp_seq (wp_mono (oJ dK (nU b N) (G:=GS 72) (S':=MS 5 n (R.set i [.int q, .int (q+1), .bool x.val.null, .int x.val.n, .lit u]) (q+1+1) .junk (.int i) .junk) (e:=.normal) (by kernel_rfl) (by simp[MS,hin,hR,hRs,w2,w3,w4,w5]) r3) ?_);rintro _ x4 y4 ⟨rfl,r4⟩;refine wp_seq (wp_mono (oJ dK (nU b N) (G:=GS 72) (S':=MS 5 n (R.set i [.int q, .int (q+1), .bool ((q+1+1).tmod 3 == 0), .int x.val.n, .lit u]) (q+1+1) .junk (.int i) .junk) (e:=.normal) (by kernel_rfl) (by simp[MS,hin,hR,hRs,w2,w3,w4,w5]) r4) ?_);rintro _ x5 y5 ⟨rfl,r5⟩;refine wp_seq (wp_mono (oJ dK (nU b N) (G:=GS 72) (S':=MS 5 n (R.set i [.int q, .int (q+1), .bool ((q+1+1).tmod 3 == 0), .int x.val.n, .lit u]) (q+1+1+1) .junk (.int i) .junk) (e:=.normal) (by kernel_rfl) (by simp[MS,hin,hR,hRs,w2,w3,w4,w5]) r5) ?_);rintro _ x6 y6 ⟨rfl,r6⟩;refine wp_seq (wp_mono (oJ dK (nU b N) (G:=GS 72) (S':=MS 5 n (R.set i [.int q, .int (q+1), .bool ((q+1+1).tmod 3 == 0), .int (q+1+1+1), .lit u]) (q+1+1+1) .junk (.int i) .junk) (e:=.normal) (by kernel_rfl) (by simp[MS,hin,hR,hRs,w2,w3,w4,w5]) r6) ?_);rintro _ x7 y7 ⟨rfl,r7⟩;refine wp_seq (wp_mono (oJ dK (nU b N) (G:=GS 72) (S':=MS 5 n (R.set i [.int q, .int (q+1), .bool ((q+1+1).tmod 3 == 0), .int (q+1+1+1), .lit u]) (q+1+1+1+1) .junk (.int i) .junk) (e:=.normal) (by kernel_rfl) (by simp[MS,hin,hR,hRs,w2,w3,w4,w5]) r7) ?_);rintro _ x8 y8 ⟨rfl,r8⟩;obtain⟨us8,g8,e8,f8⟩:=g.of (vs:=us.take (5*i)++[.int .i64 q, .int .i64 (q+1), .bool ((q+1+1).tmod 3 == 0), .int .i64 (q+1+1+1),u]++us.drop (5*(i+1))) (q':=q+1+1+1+1) (i':=i) r8.1 rfl rfl rfl (by rw[← hset];rfl);rw[M7 (W:=5) (us:=us) (V:=[.int .i64 q, .int .i64 (q+1), .bool ((q+1+1).tmod 3 == 0), .int .i64 (q+1+1+1),u]) hin (by omega) rfl]at e8;have hR8:=lY 5 n us8 i hin
   have hrow8:(us8.drop (5*i)).take 5=[.int .i64 q, .int .i64 (q+1), .bool ((q+1+1).tmod 3 == 0), .int .i64 (q+1+1+1),u]:=by
    have:(us8.drop (5*i)).take 5=((us8.take (5*n)).drop (5*i)).take 5:=by rw[xX,zJ,yQ (by omega)]
    rw[this,e8,yX,zB4 (by simp;omega)];rfl
   rw[hrow8]at hR8;simp only[yT,zD6]at hR8
   refine wp_mono (FH dK (s:=bT exZ x.kids) (K:=fun _ w2=>TCells w2 [.isl ((fB Ex.tQ exZ (q+1+1+1+1) x.kids).map Ex.cells)] [u] F) (u:=u) (Fu:=F) g8 (os1:=[_,_,_,_,_,_]) rfl (by kernel_rfl) (zP 1)
    (R1:=⟨upd (upd (upd (upd (upd (upd (aQ (MS 5 n (rowsOf 5 n us8) (q+1+1+1+1) .junk (.int i) .junk).env) 44 (.osl 0 5 0 n)) 45 (.int i)) 46 (.ownE 0 5 i 0)) 47 (.ownE 0 5 i 4)) 48 (.i (.lit u))) 49 (.int (q+1+1+1+1)),aV (MS 5 n (rowsOf 5 n us8) (q+1+1+1+1) .junk (.int i) .junk).st,[]⟩)
    (by simp[MS,hin,hR8]) rfl rfl rfl rfl rfl rfl (by decide) (by decide) (by decide) (by decide) (by decide) Tryz.func72 (by decide) (by intro h;cases h) ?_ hbF) ?_
   ·intro w1 f1
    have hu1:TCells w1 [.isl (Ex.aA x.kids)] [u] F:=hu.mono fun f hf=>by
     have hlt:=tlt hu f hf;rw[f1.same f (zL hlt f8.size) (by simp;intro e;subst e;exact hbF hf),f8.same f hlt (by simp;intro e;subst e;exact hbF hf)]
    refine(ih w1 u F _ hu1 hnd (by omega) (by push_cast at h1 ⊢;omega)).mono ?_;rintro en w2 ⟨p1,p2,p3,_⟩;exact⟨p1,p2,p3⟩
   ·rintro e a' w' ⟨rfl,us',g',e',w1,f1,f2,hK⟩;have hq:q+1+1+1+1+(bT exZ x.kids:Nat)=q+(exZ x:Nat):=by rw[hsz];push_cast;omega
    rw[hq]at g';refine⟨rfl,us',_,g',by rw[e',e8],?_,(f8.sub (by simp)).trans ((f1.sub (by simp)).trans (f2.sub fun f hf=>by simp[hf]))⟩;rw[Ex.I7,wW,Ex.bJ];exact .lit rfl (.lit rfl (.lit rfl (.lit rfl hK)))
 obtain⟨c0,c1,cc,body,c3,cend,L,hR⟩:=hl;refine⟨c0,c1,cc,body,c3,cend,L,fun x=>?_⟩
 induction x using Ex.ind with
 | h kd cl vl l ih =>
  refine hR _ fun w v F k hT hnd hk0 hk1=>?_
  simp only[Ex.kids]at hT hk1 ⊢;rw[Ex.bJ]at hT;exact MW dK (by decide) L (fun e=>by rw[Ex.aB];rfl) (by omega) ih hT hnd hk0 hk1 (by have:=qZ (sz:=exZ) (fun e=>by unfold exZ;have:=Ex.lM e;omega) l;omega)
theorem AJB:AX C0 Ex.cells Ex.tQ exZ 72:=by
 obtain⟨c0,c1,cc,body,c3,cend,L,hR⟩:=AGZ;exact AX.of dK (by decide) L (fun e=>by rw[Ex.aB];rfl) (by omega) (fun e=>by unfold exZ;have:=Ex.lM e;omega) hR
theorem one_cell {w:World} {c:IV} {cs:List IV} {vs:List Value} {F:List Nat} (h:TCells w (c::cs) vs F):∃ v r F1 F2,vs=v::r∧F=F1++F2∧TCells w [c] [v] F1∧TCells w cs r F2:=by
 have hl:=h.length
 cases vs with
 | nil=>simp at hl
 | cons v r =>
  obtain⟨F1,F2,hF,h1,h2⟩:=h.split 1;exact⟨v,r,F1,F2,rfl,hF,by simpa using h1,by simpa using h2⟩
theorem ATB {w:World} {p:Pn} {vs:List Value} {F:List Nat} (h:TCells w p.cells vs F) :
 ∃ u1 u2 u3 F1 F2 F3,vs=[.int .i64 p.kind, .int .i64 p.table,u1,u2,u3]∧F=F1++(F2++F3)∧TCells w [.isl (Ex.aA p.exprs)] [u1] F1∧TCells w [.isl (aF p.cols)] [u2] F2∧TCells w [.isl (Pn.aA p.kids)] [u3] F3:=by
 rw[Pn.aB]at h
 cases h with
 | @lit _ _ v1 _ o1 h1 =>
  cases h1 with
  | @lit _ _ v2 _ o2 h2 =>
   obtain⟨u1,r1,F1,G1,rfl,rfl,k1,h3⟩:=one_cell h2;obtain⟨u2,r2,F2,G2,rfl,rfl,k2,h4⟩:=one_cell h3;obtain⟨u3,r3,F3,G3,rfl,rfl,k3,h5⟩:=one_cell h4
   cases h5
   exact⟨u1,u2,u3,F1,F2,F3,rfl,by simp,k1,k2,k3⟩
theorem AG1:∃ c0 c1 cc body c3 cend,MLoop C0 73 5 48 (GS 73) Tryz.f73 c0 c1 cc body c3 cend∧∀ x:Pn,UK C0 Pn.cells Pn.qU Pn.mz 5 48 body x:=by
 have hl:∃ c0 c1 cc body c3 cend,MLoop C0 73 5 48 (GS 73) Tryz.f73 c0 c1 cc body c3 cend∧((∀ x:Pn,(∀ (w:World) (v:Value) (F:List Nat) (k:Int),TCells w [.isl (Pn.aA x.kids)] [v] F→F.Nodup→0≤k→k+(bT Pn.mz x.kids:Nat)<1000000000000→Calls Tryz.prog 73 #[v, .int .i64 k] w (AI2 Pn.cells Pn.qU Pn.mz w v F k x.kids))→UK C0 Pn.cells Pn.qU Pn.mz 5 48 body x)):=by
  refine⟨_,_,_,_,_,_,{ func:=Tryz.func73,code:=rfl,ntmps:=rfl,big:=by omega,results:=rfl,ok0:=⟨by kernel_rfl,rfl⟩,ok1:=⟨by kernel_rfl,rfl⟩,okc:=⟨by kernel_rfl,rfl⟩,ok3:=⟨by kernel_rfl,rfl⟩,oke:=⟨by kernel_rfl,rfl⟩,x0:=?_,x1:=?_,xc:=?_,xo:=?_,x3:=?_,xe:=?_,xf:=?_,nil:=?_ },?_⟩
  ·intro n R q;simp[MS]
  ·intro n R q;simp[MS]
  ·intro n i R q hi;simp[MS,hi]
  ·intro n R q;simp[MS]
  ·intro n i R q hi;have w6:IntKind.i64.wrap ((i:Int)+1)=i+1:=wrO;simp[MS,w6]
  ·intro n R q;simp[MS]
  ·intro n R q;simp[MS]
  ·intro k;rw[aD rfl Tryz.func73 rfl rfl];simp;rw[aH];simp
  ·intro x ih b N n i us vs q F a w hin g hvs hT hnd hbF h0 h1;have hlen:=g.len;have hfit:=g.fit;have hsz:x.mz=2+(bT exZ x.exprs+(x.cols.length+bT Pn.mz x.kids)):=by rw[sO,sN];exact Pn.ABV x
   rw[hsz]at h1;obtain⟨u1,u2,u3,F1,F2,F3,rfl,rfl,t1,t2,t3⟩:=ATB hT;have nd1:=zI.1 hnd;have nd2:=zI.1 nd1.2.1;have b1:b ∉ F1:=fun h=>hbF (by simp[h])
   have b2:b ∉ F2:=fun h=>hbF (by simp[h])
   have b3:b ∉ F3:=fun h=>hbF (by simp[h])
   have d12:∀ f∈F1,f ∉ F2:=fun f h h'=>nd1.2.2 f h f (by simp[h']) rfl
   have d13:∀ f∈F1,f ∉ F3:=fun f h h'=>nd1.2.2 f h f (by simp[h']) rfl
   have d23:∀ f∈F2,f ∉ F3:=fun f h h'=>nd2.2.2 f h f h' rfl
   have hR:=lY 5 n us i hin;rw[hvs]at hR;have hset:=sP 5 n us [.int .i64 q, .int .i64 (q+1),u1,u2,u3] i hin (by omega) rfl;simp only[yT,zD6]at hR hset;have w2:IntKind.i64.wrap (q+1)=q+1:=wrO;have w3:IntKind.i64.wrap (q+1+1)=q+1+1:=wrO;have rr:=g.to;generalize hRR:rowsOf 5 n us=R at hR hset rr;have hRl:R.length=n:=by rw[← hRR,fH]
   have hRs:∀ r:List IV,fO (R.set i r) i=some r:=fun r=>by rw[gG,List.getElem?_set_self (by omega)]
   refine wp_seq (wp_mono (oJ dK (nU b N) (G:=GS 73) (S':=MS 5 n (R.set i [.int q, .int x.table, .lit u1, .lit u2, .lit u3]) q .junk (.int i) .junk) (e:=.normal) (by kernel_rfl) (by simp[MS,hin,hR,hRs,w2,w3]) rr) ?_);rintro _ x1 y1 ⟨rfl,r1⟩;refine wp_seq (wp_mono (oJ dK (nU b N) (G:=GS 73) (S':=MS 5 n (R.set i [.int q, .int x.table, .lit u1, .lit u2, .lit u3]) (q+1) .junk (.int i) .junk) (e:=.normal) (by kernel_rfl) (by simp[MS,hin,hR,hRs,w2,w3]) r1) ?_);rintro _ x2 y2 ⟨rfl,r2⟩;refine wp_seq (wp_mono (oJ dK (nU b N) (G:=GS 73) (S':=MS 5 n (R.set i [.int q, .int (q+1), .lit u1, .lit u2, .lit u3]) (q+1) .junk (.int i) .junk) (e:=.normal) (by kernel_rfl) (by simp[MS,hin,hR,hRs,w2,w3]) r2) ?_);rintro _ x3 y3 ⟨rfl,r3⟩;refine wp_seq (wp_mono (oJ dK (nU b N) (G:=GS 73) (S':=MS 5 n (R.set i [.int q, .int (q+1), .lit u1, .lit u2, .lit u3]) (q+1+1) .junk (.int i) .junk) (e:=.normal) (by kernel_rfl) (by simp[MS,hin,hR,hRs,w2,w3]) r3) ?_);rintro _ x4 y4 ⟨rfl,r4⟩;obtain⟨us8,g8,e8,f8⟩:=g.of (vs:=us.take (5*i)++[.int .i64 q, .int .i64 (q+1),u1,u2,u3]++us.drop (5*(i+1))) (q':=q+1+1) (i':=i) r4.1 rfl rfl rfl (by rw[← hset];rfl);rw[M7 (W:=5) (us:=us) (V:=[.int .i64 q, .int .i64 (q+1),u1,u2,u3]) hin (by omega) rfl]at e8
   have rowU:∀ us9:List Value,us9.take (5*n)=us8.take (5*n)→fO (rowsOf 5 n us9) i=some [.int q, .int (q+1), .lit u1, .lit u2, .lit u3]:=by
    intro us9 e9;have hR8:=lY 5 n us9 i hin
    have hrow8:(us9.drop (5*i)).take 5=[.int .i64 q, .int .i64 (q+1),u1,u2,u3]:=by
     have:(us9.drop (5*i)).take 5=((us9.take (5*n)).drop (5*i)).take 5:=by rw[xX,zJ,yQ (by omega)]
     rw[this,e9,e8,yX,zB4 (by simp;omega)];rfl
    rw[hrow8]at hR8;exact hR8
   have keep:∀ {w1 w2:World} {cs:List IV} {vs:List Value} {A B:List Nat},Fr w1 w2 B→TCells w1 cs vs A→(∀ f∈A,f ∉ B)→TCells w2 cs vs A:=fun fr h hd=>h.mono fun f hf=>fr.same f (tlt h f hf) (hd f hf)
   have nb:∀ {A:List Nat},b ∉ A→∀ f∈A,f ∉ [b]:=fun h f hf hh=>h (by simp at hh;exact hh ▸ hf)
   have hR8:=rowU us8 rfl
   refine wp_seq (wp_mono (FH dK (s:=bT exZ x.exprs) (K:=fun _ w2=>TCells w2 [.isl ((fB Ex.tQ exZ (q+1+1) x.exprs).map Ex.cells)] [u1] F1) (u:=u1) (Fu:=F1) g8 (os1:=[_,_,_,_,_,_]) rfl (by kernel_rfl) (zP 1)
    (R1:=⟨upd (upd (upd (upd (upd (upd (aQ (MS 5 n (rowsOf 5 n us8) (q+1+1) .junk (.int i) .junk).env) 26 (.osl 0 5 0 n)) 27 (.int i)) 28 (.ownE 0 5 i 0)) 29 (.ownE 0 5 i 2)) 30 (.i (.lit u1))) 31 (.int (q+1+1)),aV (MS 5 n (rowsOf 5 n us8) (q+1+1) .junk (.int i) .junk).st,[]⟩)
    (by simp[MS,hin,hR8]) rfl rfl rfl rfl rfl rfl (by decide) (by decide) (by decide) (by decide) (by decide) Tryz.func72 (by decide) (by intro h;cases h) ?_ b1) ?_)
   ·intro w1 f1;have hu1:=keep f1 (keep f8 t1 (nb b1)) (nb b1);rw[Ex.bJ]at hu1;refine(AJB x.exprs w1 u1 F1 _ hu1 nd1.1 (by omega) (by push_cast at h1 ⊢;omega)).mono ?_;rintro en w2 ⟨p1,p2,p3,_⟩;exact⟨p1,p2,p3⟩
   rintro e a9 y9 ⟨rfl,us9,g9,e9,wa,fa,fb,hK1⟩;have hR9:=rowU us9 e9;have t2a:=keep fb (keep fa (keep f8 t2 (nb b2)) (nb b2)) (fun f h h'=>d12 f h' h);have t3a:=keep fb (keep fa (keep f8 t3 (nb b3)) (nb b3)) (fun f h h'=>d13 f h' h)
   refine wp_seq (wp_mono (FH dK (s:=x.cols.length) (K:=fun _ w2=>TCells w2 [.isl ((BN (q+1+1+(bT exZ x.exprs:Nat)) x.cols).map AQ1)] [u2] F2) (u:=u2) (Fu:=F2) g9 (os1:=[_,_,_,_,_,_]) rfl (by kernel_rfl) (zP 1)
    (R1:=⟨upd (upd (upd (upd (upd (upd (aQ (MS 5 n (rowsOf 5 n us9) (q+1+1+(bT exZ x.exprs:Nat)) .junk (.int i) .junk).env) 33 (.osl 0 5 0 n)) 34 (.int i)) 35 (.ownE 0 5 i 0)) 36 (.ownE 0 5 i 3)) 37 (.i (.lit u2))) 38 (.int (q+1+1+(bT exZ x.exprs:Nat))),aV (MS 5 n (rowsOf 5 n us9) (q+1+1+(bT exZ x.exprs:Nat)) .junk (.int i) .junk).st,[]⟩)
    (by simp[MS,hin,hR9]) rfl rfl rfl rfl rfl rfl (by decide) (by decide) (by decide) (by decide) (by decide) Tryz.func30 (by decide) (by intro h;cases h) ?_ b2) ?_)
   ·intro w1 f1;have hu1:=keep f1 t2a (nb b2);rw[A8]at hu1;refine(AL1 x.cols w1 u2 F2 _ hu1 nd2.1 (by omega) (by rw[wK];push_cast at h1 ⊢;omega)).mono ?_;rintro en w2 ⟨p1,p2,p3,_⟩;rw[wK]at p1;exact⟨p1,p2,p3⟩
   rintro e a10 y10 ⟨rfl,us10,g10,e10,wc,fc,fd,hK2⟩;have hR10:=rowU us10 (e10.trans e9);have k1a:=keep fd (keep fc hK1 (nb b1)) (fun f h h'=>d12 f h h');have t3b:=keep fd (keep fc t3a (nb b3)) (fun f h h'=>d23 f h' h)
   refine wp_mono (FH dK (s:=bT Pn.mz x.kids) (K:=fun _ w2=>TCells w2 [.isl ((fB Pn.qU Pn.mz (q+1+1+(bT exZ x.exprs:Nat)+(x.cols.length:Nat)) x.kids).map Pn.cells)] [u3] F3) (u:=u3) (Fu:=F3) g10 (os1:=[_,_,_,_,_,_]) rfl (by kernel_rfl) (zP 1)
    (R1:=⟨upd (upd (upd (upd (upd (upd (aQ (MS 5 n (rowsOf 5 n us10) (q+1+1+(bT exZ x.exprs:Nat)+(x.cols.length:Nat)) .junk (.int i) .junk).env) 40 (.osl 0 5 0 n)) 41 (.int i)) 42 (.ownE 0 5 i 0)) 43 (.ownE 0 5 i 4)) 44 (.i (.lit u3))) 45 (.int (q+1+1+(bT exZ x.exprs:Nat)+(x.cols.length:Nat))),aV (MS 5 n (rowsOf 5 n us10) (q+1+1+(bT exZ x.exprs:Nat)+(x.cols.length:Nat)) .junk (.int i) .junk).st,[]⟩)
    (by simp[MS,hin,hR10]) rfl rfl rfl rfl rfl rfl (by decide) (by decide) (by decide) (by decide) (by decide) Tryz.func73 (by decide) (by intro h;cases h) ?_ b3) ?_
   ·intro w1 f1;have hu1:=keep f1 t3b (nb b3);refine(ih w1 u3 F3 _ hu1 nd2.2.1 (by omega) (by push_cast at h1 ⊢;omega)).mono ?_;rintro en w2 ⟨p1,p2,p3,_⟩;exact⟨p1,p2,p3⟩
   rintro e a' w' ⟨rfl,us',g',e',w1,f1,f2,hK3⟩;have hq:q+1+1+(bT exZ x.exprs:Nat)+(x.cols.length:Nat)+(bT Pn.mz x.kids:Nat)=q+(x.mz:Nat):=by rw[hsz];push_cast;omega
   rw[hq]at g';have k1b:=keep f2 (keep f1 k1a (nb b1)) (fun f h h'=>d13 f h h');have k2b:=keep f2 (keep f1 hK2 (nb b2)) (fun f h h'=>d23 f h h');refine⟨rfl,us',_,g',by rw[e',e10,e9,e8],?_,(f8.sub (by simp)).trans ((fa.sub (by simp)).trans ((fb.sub fun f hf=>by simp[hf]).trans ((fc.sub (by simp)).trans ((fd.sub fun f hf=>by simp[hf]).trans ((f1.sub (by simp)).trans (f2.sub fun f hf=>by simp[hf]))))))⟩;rw[Pn.I5,wW,Ex.bJ,A8,rJ,Pn.bJ,← sO];exact .lit rfl (.lit rfl (k1b.append (k2b.append hK3)))
 obtain⟨c0,c1,cc,body,c3,cend,L,hR⟩:=hl;refine⟨c0,c1,cc,body,c3,cend,L,fun x=>?_⟩
 induction x using Pn.ind with
 | h k t es cs ks ih =>
  refine hR _ fun w v F k hT hnd hk0 hk1=>?_
  simp only[Pn.kids]at hT hk1 ⊢;rw[Pn.bJ]at hT;exact MW dK (by decide) L (fun e=>by rw[Pn.aB];rfl) (by omega) ih hT hnd hk0 hk1 (by have:=qZ (sz:=Pn.mz) (fun e=>by have:=Pn.ABV e;omega) ks;omega)
theorem APX:AX C0 Pn.cells Pn.qU Pn.mz 73:=by
 obtain⟨c0,c1,cc,body,c3,cend,L,hR⟩:=AG1;exact AX.of dK (by decide) L (fun e=>by rw[Pn.aB];rfl) (by omega) (fun e=>by have:=Pn.ABV e;omega) hR
noncomputable def AKT:FuncId→Option (List AV→StL→Option (AV×StL))
 | 84=>none
 | 52=>none
 | 14=>none
 | 13=>none
 | 53=>none
 | 35=>none
 | 15=>none
 | g=>if g=tN then none else some (aI C0 g)
def N7:FuncId→Bool
 | 84=>true
 | 52=>true
 | 14=>true
 | 13=>true
 | 53=>true
 | 35=>true
 | 15=>true
 | g=>keepR g
noncomputable def CT:Ctx:={ P:=Tryz.prog,G:=GS,ownArgs:=cZ,keepRes:=N7,eqT:=EN,prim:=AKT,tree:=true }
@[simp] theorem AiA:CT.P=Tryz.prog:=(rfl)
@[simp] theorem AiB (f):CT.G f=GS f:=(rfl)
@[simp] theorem Ai7 (f):CT.ownArgs f=cZ f:=(rfl)
@[simp] theorem Ai8 (f):CT.keepRes f=N7 f:=(rfl)
@[simp] theorem Ai9 (f):CT.eqT f=EN f:=(rfl)
@[simp] theorem Ai6:CT.tree=true:=(rfl)
@[simp] theorem kT1:N7 84=true:=(rfl)
@[simp] theorem kT2:N7 52=true:=(rfl)
@[simp] theorem kT3:N7 14=true:=(rfl)
@[simp] theorem kT4:N7 13=true:=(rfl)
@[simp] theorem kT5:N7 53=true:=(rfl)
@[simp] theorem kT6:N7 35=true:=(rfl)
@[simp] theorem kT7:N7 15=true:=(rfl)
theorem APU:PrimOk CT:=by
 have h0:=bH dK
 have key:∀ g q,CT.prim g=some q→g≠tN∧q=aI C0 g:=by
  intro g q h;have h:AKT g=some q:=h;unfold AKT at h;split at h<;>first|(cases h;done)|(split at h<;>first|(cases h;done)|(rename_i hy;injection h with h;exact⟨hy,h.symm⟩))
 constructor
 ·intro g args st p h;unfold eH at h
  cases hq:CT.prim g with
  | none=>rw[hq]at h;cases h
  | some q=>rw[hq]at h;obtain⟨hy,rfl⟩:=key g q hq;exact h0.name g args st p hy h
 ·intro g args st r st' h;unfold eH at h
  cases hq:CT.prim g with
  | none=>rw[hq]at h;cases h
  | some q=>rw[hq]at h;obtain⟨hy,rfl⟩:=key g q hq;exact h0.calls g args st r st' hy h
theorem AP5:SoundOk CT:=pG (C:=CT) ft nt eqS mo APU
@[simp] theorem ct1 (args:List AV) (st:StL):aI CT 123 args st=aI C0 123 args st:=bP (C:=CT) rfl args st
theorem AOJ (v:Val):aI C0 123 [.i (.agg [.bool v.null, .int v.n])] []=some (.i (.agg [.bool v.null, .int v.n]),[]):=by
 rw[aD rfl Tryz.func123 rfl rfl];simp
theorem AOD {e:Ex} (h:aI CT 52 [.i (.isl (Ex.aA e.kids))] []=some (.osl 0 5 0 e.kids.length,[some (mU Ex.cells 5 e.kids)])):aI CT 84 [.i (.agg e.cells)] []=some (tE e 0,[some (mU Ex.cells 5 e.kids)]):=by
 rw[aD rfl Tryz.func84 rfl rfl,Ex.aB];have hv:=AOJ e.val;simp[hv,h,tE]
def TTE (l:List Ex) (i:Nat):AS :=
 { env:=[(0, .i (.isl (Ex.aA l))),(2, .nils),(3, .osl 0 5 0 l.length),(4, .int i),(11,jk i (.bool true))],st:=[some (A9 Ex.cells 5 AA5 l l.length i)] }
theorem AI9 {l:List Ex} (hl:l.length<1000000000) (ih:∀ a∈l,aI CT 84 [.i (.agg a.cells)] []=some (tE a 0,[some (mU Ex.cells 5 a.kids)])):aI CT 52 [.i (.isl (Ex.aA l))] []=some (.osl 0 5 0 l.length,[some (mU Ex.cells 5 l)]):=by
 rw[aD rfl Tryz.func52 rfl rfl];have hb:56*(l.length:Int)≤281474976710656:=by omega
 simp[hb];rw[aU (TTE l) l.length (by simp[TTE,A9,AA5])]
 ·rw[aH];simp[TTE,QG]
 ·intro i hi;have h3:=zX hi;have hc:=ih _ (zU h3);have r2:=Ex.aN h3;have hput:=QF (cells:=Ex.cells) (W:=5) (z:=AA5) (n:=l.length) h3 hi (by simp[AA5]) (by rw[Ex.aB];simp[AA5]) (by rw[Ex.aB];simp[wX,AEG]);generalize l[i]=a at h3 hc r2 hput;have w2:IntKind.i64.wrap ((i:Int)+1)=i+1:=wrO;rw[Ex.aB]at hc r2;simp only[Ex.aB,Ex.bJ]at hput;simp[TTE,hi,r2,hc,tE,w2,hput]
theorem AOE:∀ (e:Ex),e.thin→aI CT 84 [.i (.agg e.cells)] []=some (tE e 0,[some (mU Ex.cells 5 e.kids)]):=by
 intro e
 induction e using Ex.ind with
 | h k c v ks ih =>
  intro ht;have ht':=(Ex.bI _).1 ht;exact AOD (AI9 ht'.1 fun a ha=>ih a ha (ht'.2 a ha))
theorem AOA (l:List Ex) (hl:l.length<1000000000) (ht:∀ a∈l,a.thin):aI CT 52 [.i (.isl (Ex.aA l))] []=some (.osl 0 5 0 l.length,[some (mU Ex.cells 5 l)]):=AI9 hl fun a ha=>AOE a (ht a ha)
theorem AAK (l:List Int) (hl:l.length<1000000000):aI CT 14 [.i (.isl (aF l))] []=some (.osl 0 1 0 l.length,[some (.arr 1 (aF l))]):=by
 rw[aD rfl Tryz.func14 rfl rfl];have hb:8*(l.length:Int)≤281474976710656:=by omega
 simp[hb];rw[aU (TIX l) l.length (by simp[TIX,aF])]
 ·rw[aH];have hT:l.take l.length=l:=zY (by simp);simp[TIX,hT]
 ·intro i hi;have h3:=zX hi;have r2:=bD h3;generalize l[i]=a at h3 r2;have w2:IntKind.i64.wrap ((i:Int)+1)=i+1:=wrO;have hD:(aF (l.take i)).length=i:=by simp;omega
  have g1:=tF (n:=l.length) (z:=[IV.int 0]) hD hi;have g2:=sZ (n:=l.length) (z:=[IV.int 0]) (x:=[IV.int a]) hD hi;have hS:aF (l.take i)++[[IV.int a]]=aF (l.take (i+1)):=by rw[aM h3,oI]
  rw[hS]at g2;simp[TIX,hi,r2,w2,g1,g2]
theorem AOB {p:Pn} (h1:aI CT 52 [.i (.isl (Ex.aA p.exprs))] []=some (.osl 0 5 0 p.exprs.length,[some (mU Ex.cells 5 p.exprs)])) (h2:aI CT 14 [.i (.isl (aF p.cols))] []=some (.osl 0 1 0 p.cols.length,[some (.arr 1 (aF p.cols))])) (h3:aI CT 53 [.i (.isl (Pn.aA p.kids))] []=some (.osl 0 5 0 p.kids.length,[some (mU Pn.cells 5 p.kids)])) :
 aI CT 13 [.i (.agg p.cells)] []=some (tP p 0,tPB p):=by
 rw[aD rfl Tryz.func13 rfl rfl,Pn.aB];simp[h1,h2,h3,tP,tPB]
def TTP (l:List Pn) (i:Nat):AS :=
 { env:=[(0, .i (.isl (Pn.aA l))),(2, .nils),(3, .osl 0 5 0 l.length),(4, .int i),(11,jk i (.bool true))],st:=[some (A9 Pn.cells 5 zpw l l.length i)] }
theorem iQ (l:List Int):AR 1 0 l.length (some (.arr 1 (aF l)))=some (aF l):=by
 have:fG (aF l)=true:=by
  rw[A8]
  induction l with
  | nil=>rfl
  | cons n l ih=>simp only[yT,fG,ih,Bool.and_true];rfl
 simp[AR,this]
theorem AJV {l:List Pn} (hl:l.length<1000000000) (ih:∀ a∈l,aI CT 13 [.i (.agg a.cells)] []=some (tP a 0,tPB a)):aI CT 53 [.i (.isl (Pn.aA l))] []=some (.osl 0 5 0 l.length,[some (mU Pn.cells 5 l)]):=by
 rw[aD rfl Tryz.func53 rfl rfl];have hb:88*(l.length:Int)≤281474976710656:=by omega
 simp[hb];rw[aU (TTP l) l.length (by simp[TTP,A9,zpw])]
 ·rw[aH];simp[TTP,QG]
 ·intro i hi;have h3:=zX hi;have hc:=ih _ (zU h3);have r2:=Pn.aN h3;have hput:=QF (cells:=Pn.cells) (W:=5) (z:=zpw) (n:=l.length) h3 hi (by simp[zpw]) (by rw[Pn.aB];simp[zpw]) (by rw[Pn.aB];simp[wX,AEG]);generalize l[i]=a at h3 hc r2 hput;have w2:IntKind.i64.wrap ((i:Int)+1)=i+1:=wrO;have ha:=iQ a.cols;rw[Pn.aB]at hc r2;simp only[Pn.aB,Ex.bJ,Pn.bJ]at hput;simp[TTP,hi,r2,hc,tP,tPB,w2,ha,hput]
theorem AOC:∀ (p:Pn),p.thin→aI CT 13 [.i (.agg p.cells)] []=some (tP p 0,tPB p):=by
 intro p
 induction p using Pn.ind with
 | h k t es cs ks ih =>
  intro ht;obtain⟨h1,h2,h3,h4,h5⟩:=(Pn.bI _).1 ht;exact AOB (AOA es h1 h2) (AAK cs h3) (AJV h4 fun a ha=>ih a ha (h5 a ha))
end Go.Proofs.YtjdfjgmebalaaaaGreat.P
namespace Go.Av
open Go.Av.Mk
theorem fK:∀ l:List Int,fG (aF l)=true
 | []=>rfl
 | n::l=>by simp only[aF,fG,fK l,Bool.and_true];rfl
mutual
theorem Pn.ATM:∀ p:Pn,p.mz≤4*p.ms
 | .mk k t es cs ks=>by have:=Pn.ABW ks;simp only[Pn.mz,Pn.ms];omega
theorem Pn.ABW:∀ l:List Pn,Pn.mzL l≤4*Pn.msL l
 | []=>by simp[Pn.mzL]
 | p::l=>by have:=Pn.ATM p;have:=Pn.ABW l;simp only[Pn.mzL,Pn.msL];omega
end
def Pn.mk4 (p:Pn):Nat:=4*Ex.aL p.exprs+(p.cols.length+Pn.mzL p.kids)
theorem Pn.AIZ (p:Pn):p.mk4≤4*p.meas:=by
 have:=Pn.ABW p.kids;unfold Pn.mk4 Pn.meas;omega
end Go.Av
namespace Go.Proofs.YtjdfjgmebalaaaaGreat.P
open Go Go.Av Go.Av.Mk
set_option maxRecDepth 4000
set_option maxHeartbeats 1000000
theorem VF (l:List Int) (k:Int) {i:Nat} (h:i<l.length):(BN k l)[i]?=some (k+i):=by
 have h3:=zX h;have:=wV AN8 AIW l k h3;rw[wK,yC,yQ (by omega)]at this;exact this
def HIX (l:List Int) (k:Int) (i:Nat):AS :=
 { env:=[(0, .i (.isl (aF (BN k l)))),(1, .int (k+i)),(4, .int 0),(5, .int i),(9,jk i (.bool true)),(17,jk i (.bool false))],st:=[] }
theorem VY (l:List Int) (k:Int) (h0:0≤k) (h1:k+(l.length:Nat)<1000000000000):aI C0 74 [.i (.isl (aF (BN k l))), .int k] []=some (.int (k+(l.length:Nat)),[]):=by
 rw[aD rfl Tryz.func74 rfl rfl];have hlen:=dQ AN8 AIW l k;simp;rw[aU (HIX l k) l.length (by simp[HIX])]
 ·rw[aH];simp[HIX,hlen]
 ·intro i hi;have r2:=bD (VF l k hi);have w2:IntKind.i64.wrap ((i:Int)+1)=i+1:=wrO;have w3:IntKind.i64.wrap (k+i+1)=k+(i+1):=by rw[wrO];omega
  simp[HIX,hlen,hi,r2,w2,w3]
theorem AJA (l:List Ex) (k:Int) (h0:0≤k) (h1:k+4*(Ex.aL l:Nat)<1000000000000):aI C0 75 [.i (.isl (Ex.aA (Ex.kD k l))), .int k] []=some (.int (k+4*(Ex.aL l:Nat)),[]):=by
 have:=AGQ (.mk 0 0 Val.zero l) k h0 (by simpa [Ex.kids]using h1);simpa [Ex.kids]using this
def HPX (l:List Pn) (k:Int) (i:Nat):AS :=
 { env:=[(0, .i (.isl (Pn.aA (fB Pn.qU Pn.mz k l)))),(1, .int (k+(bT Pn.mz (l.take i):Nat))),(4, .int 0),(5, .int i),(9,jk i (.bool true)),(18,jk i (.bool false)),(27,jk i (.bool false)),(38,jk i (.bool false)),(47,jk i (.bool false)),(56,jk i (.bool false))],st:=[] }
theorem AGR {l:List Pn} {k:Int} (h0:0≤k) (h1:k+(bT Pn.mz l:Nat)<1000000000000) (ih:∀ p∈l,∀ q:Int,0≤q→q+(Pn.mzL p.kids:Nat)<1000000000000→aI C0 76 [.i (.isl (Pn.aA (Pn.lI q p.kids))), .int q] []=some (.int (q+(Pn.mzL p.kids:Nat)),[])) :
 aI C0 76 [.i (.isl (Pn.aA (fB Pn.qU Pn.mz k l))), .int k] []=some (.int (k+(bT Pn.mz l:Nat)),[]):=by
 rw[aD rfl Tryz.func76 rfl rfl];have hlen:=dQ Pn.qU Pn.mz l k;have hle:=qZ (sz:=Pn.mz) (fun e=>by have:=Pn.ABV e;omega) l;simp;rw[aU (HPX l k) l.length (by simp[HPX,bT])]
 ·rw[aH];have hT:l.take l.length=l:=zY (by simp);simp[HPX,hlen,hT]
 ·intro i hi;have h3:=zX hi;have hm:=zU h3;generalize l[i]=a at h3 hm;have r2:=Pn.aN (wV Pn.qU Pn.mz l k h3);have hz:=uP Pn.mz l h3;have hmono:=BI Pn.mz l (i+1);have hza:=Pn.ABV a;have w2:IntKind.i64.wrap ((i:Int)+1)=i+1:=wrO;have hzz:k+((bT Pn.mz (l.take (i+1)):Nat):Int)=k+(bT Pn.mz (l.take i):Nat)+1+1+4*(Ex.aL a.exprs:Nat)+(a.cols.length:Nat)+(Pn.mzL a.kids:Nat):=by rw[hz,hza];push_cast;omega
  generalize hq:k+((bT Pn.mz (l.take i):Nat):Int)=q at r2 hzz;have hq0:0≤q:=by omega
  have hlim:q+1+1+4*(Ex.aL a.exprs:Nat)+(a.cols.length:Nat)+(Pn.mzL a.kids:Nat)<1000000000000:=by omega
  have w3:IntKind.i64.wrap (q+1)=q+1:=wrO;have w4:IntKind.i64.wrap (q+1+1)=q+1+1:=wrO;have c1:=AJA a.exprs (q+1+1) (by omega) (by omega);have c2:=VY a.cols (q+1+1+4*(Ex.aL a.exprs:Nat)) (by omega) (by omega);have c3:=ih a hm (q+1+1+4*(Ex.aL a.exprs:Nat)+(a.cols.length:Nat)) (by omega) (by omega);have n1:¬ q+1+1+4*(Ex.aL a.exprs:Int)<0:=by omega
  have n2:¬ q+1+1+4*(Ex.aL a.exprs:Int)+(a.cols.length:Int)<0:=by omega
  have n3:¬ q+1+1+4*(Ex.aL a.exprs:Int)+(a.cols.length:Int)+(Pn.mzL a.kids:Int)<0:=by omega
  rw[Pn.I5]at r2;push_cast at r2 c1 c2 c3 hzz;simp[HPX,hlen,hi,r2,hq,hzz,c1,c2,c3,n1,n2,n3,w2,w3,w4]
theorem YI:∀ (p:Pn) (k:Int),0≤k→k+(Pn.mzL p.kids:Nat)<1000000000000→aI C0 76 [.i (.isl (Pn.aA (Pn.lI k p.kids))), .int k] []=some (.int (k+(Pn.mzL p.kids:Nat)),[]):=by
 intro p
 induction p using Pn.ind with
 | h k t es cs ks ih =>
  intro q h0 h1;simp only[Pn.kids]at h1 ⊢;rw[rJ,← sN];rw[← sN]at h1;exact AGR h0 h1 ih
end Go.Proofs.YtjdfjgmebalaaaaGreat.P

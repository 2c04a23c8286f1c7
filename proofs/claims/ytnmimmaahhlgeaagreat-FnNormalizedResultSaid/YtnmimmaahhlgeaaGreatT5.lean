/- Part 5 of what the proof rests on: the executor and what it is worth, and the program's functions as it runs them. No condition. -/
import Derived.Test.YtnmimmaahhlgeaaGreatT4
set_option linter.unusedVariables false
set_option linter.unusedSimpArgs false
namespace Go.Proofs.YtnmimmaahhlgeaaGreat.P
open Go Go.Av
set_option maxRecDepth 4000
set_option maxHeartbeats 4000000
def kL (g:FuncId) (ws:List Int) (r:Int) (p:Pn):Prop:=∃ (q:Pn) (b:Bool),aG C0 g [.i (.iref p.cells), .i (.isl (aH ws))] []=some (.tup [.i (.agg q.cells), .bool b],[])∧(b=true→rwP ws r p=some q)∧(b=false→∀ q',rwP ws r p=some q'→∀ lv,q'.wd ws lv=0)
@[simp] theorem AZH (e:Ex) (k:Pn):(filt e k).kind=2:=rfl
@[simp] theorem AYM (es:List Ex) (k:Pn):(proj es k).kind=3:=rfl
@[simp] theorem AYS (kd:Int) (e:Ex) (a b:Pn):(aX kd e a b).kind=kd:=rfl
@[simp] theorem AWC (a b:Pn):(bU a b).kind=6:=rfl
theorem iF (ws:List Int) (r:Int) (e:Ex) (k:Pn):rwP ws r (filt e k)=rwF ws r e k:=by simp[rwP,filt,Pn.ex0,Pn.kid0,Pn.kind,Pn.exprs,Pn.kids]
theorem kL.no {g:FuncId} {ws:List Int} {r:Int} {p:Pn} (h:aG C0 g [.i (.iref p.cells), .i (.isl (aH ws))] []=some (.tup [.i (.agg Pn.zero.cells), .bool false],[])) (hr:rwP ws r p=none):kL g ws r p:=⟨.zero,false,h,by simp,by simp[hr]⟩
theorem kL.yes {g:FuncId} {ws:List Int} {r:Int} {p q:Pn} (h:aG C0 g [.i (.iref p.cells), .i (.isl (aH ws))] []=some (.tup [.i (.agg q.cells), .bool true],[])) (hr:rwP ws r p=some q):kL g ws r p:=⟨q,true,h,fun _=>hr,by simp⟩
theorem Ac0 {ws:List Int} {p:Pn} {W:Int} (hp:Wd ws p W):kL 49 ws 1 p:=by
 by_cases hk:p.kind=2
 ·obtain⟨e,a,rfl⟩:=pI hp hk;by_cases hk2:a.kind=2
  ·obtain⟨e2,a2,rfl⟩:=pI (iA hp).1 hk2;refine .yes (q:=filt (ABB e2 e) a2) ?_ (by rw[iF];simp[rwF,filt,Pn.ex0,Pn.kid0,Pn.kind,Pn.exprs,Pn.kids]);have h1:=gZ (e:=e) (k:=filt e2 a2) (kd:=2) rfl;have h2:=ALV e2 e;have h3:=gB (ABB e2 e) a2;rw[aD rfl Tryz.func49 rfl rfl];simp only[bT,FW,Ex.aA e,Ex.aA e2,Pn.aA a2]at h1 h2 h3 ⊢;simp[h1,h2,h3]
  ·refine .no ?_ (by rw[iF];simp[rwF,hk2]);have h1:=fA (e:=e) (k:=a) (kd:=2) hk2;rw[aD rfl Tryz.func49 rfl rfl];simp only[bT,bA]at h1 ⊢;simp[h1]
 ·refine .no ?_ (by simp[rwP,hk]);have h1:=gW (p:=p) (kd:=2) hk;rw[aD rfl Tryz.func49 rfl rfl];simp only[bA,Pn.aA p]at h1 ⊢;simp[h1]
theorem AbW {ws:List Int} {p:Pn} {W:Int} (hp:Wd ws p W):kL 53 ws 5 p:=by
 by_cases hk:p.kind=2
 ·obtain⟨e,a,rfl⟩:=pI hp hk;by_cases hk2:a.kind=4
  ·obtain⟨e2,x,y,hx⟩:=jM (iA hp).1 (.inl hk2);rw[hk2]at hx;subst hx;refine .yes (q:=aX 4 (ABB e2 e) x y) ?_ (by rw[iF];simp[rwF,aX,Pn.ex0,Pn.kid0,Pn.DY,Pn.kind,Pn.exprs,Pn.kids]);have h1:=gZ (e:=e) (k:=aX 4 e2 x y) (kd:=4) rfl;have h2:=ALV e2 e;have h3:=oO 4 (ABB e2 e) x y;rw[aD rfl Tryz.func53 rfl rfl];simp only[bT,pair_cells,FW,Ex.aA e,Ex.aA e2,Pn.aA x,Pn.aA y]at h1 h2 h3 ⊢;simp[h1,h2,h3]
  ·refine .no ?_ (by rw[iF];simp[rwF,hk2]);have h1:=fA (e:=e) (k:=a) (kd:=4) hk2;rw[aD rfl Tryz.func53 rfl rfl];simp only[bT,bA]at h1 ⊢;simp[h1]
 ·refine .no ?_ (by simp[rwP,hk]);have h1:=gW (p:=p) (kd:=4) hk;rw[aD rfl Tryz.func53 rfl rfl];simp only[bA,Pn.aA p]at h1 ⊢;simp[h1]
theorem AbT {ws:List Int} {p:Pn} {W:Int} (hp:Wd ws p W):kL 56 ws 8 p:=by
 by_cases hk:p.kind=2
 ·obtain⟨e,a,rfl⟩:=pI hp hk;by_cases hk2:a.kind=6
  ·obtain⟨x,y,rfl⟩:=AMF (iA hp).1 hk2;refine .yes (q:=bU (filt e x) (filt e y)) ?_ (by rw[iF];simp[rwF,bU,Pn.ex0,Pn.kid0,Pn.DY,Pn.kind,Pn.exprs,Pn.kids]);have h1:=gZ (e:=e) (k:=bU x y) (kd:=6) rfl;have h2:=gB e x;have h3:=gB e y;rw[aD rfl Tryz.func56 rfl rfl];simp only[bT,Z8,Ex.aA e,Pn.aA x,Pn.aA y]at h1 h2 h3 ⊢;simp[h1,h2,h3]
  ·refine .no ?_ (by rw[iF];simp[rwF,hk2]);have h1:=fA (e:=e) (k:=a) (kd:=6) hk2;rw[aD rfl Tryz.func56 rfl rfl];simp only[bT,bA]at h1 ⊢;simp[h1]
 ·refine .no ?_ (by simp[rwP,hk]);have h1:=gW (p:=p) (kd:=6) hk;rw[aD rfl Tryz.func56 rfl rfl];simp only[bA,Pn.aA p]at h1 ⊢;simp[h1]
theorem AbS {ws:List Int} {p:Pn} {W:Int} (hp:Wd ws p W):kL 57 ws 9 p:=by
 by_cases hk:p.kind=7
 ·obtain⟨a,rfl⟩:=AMG hp hk;have hc:(Pn.mk 7 0 [] [] [a]).cells=[.int 7, .int 0, .isl [], .isl [], .isl [a.cells]]:=by simp[Pn.cells,Ex.aB,aH,Pn.aB]
  by_cases hk2:a.kind=7∨a.kind=8
  ·refine .yes (q:=a) ?_ (by simp[rwP,Pn.kid0,Pn.kids,hk2]);rw[aD rfl Tryz.func57 rfl rfl];simp only[hc,Pn.aA a]
   rcases hk2 with hk2|hk2<;>simp[hk2]
  ·refine .no ?_ (by simp[rwP,Pn.kid0,Pn.kids,hk2]);rw[aD rfl Tryz.func57 rfl rfl];simp only[hc,bA,Pn.aA a];have h7:¬ a.kind=7:=by omega
   have h8:¬ a.kind=8:=by omega
   simp[h7,h8]
 ·refine .no ?_ ?_
  ·rw[aD rfl Tryz.func57 rfl rfl];simp only[bA,Pn.aA p];simp[hk]
  ·unfold rwP;split
   ·unfold rwF;simp
   ·simp[hk]
theorem AbZ {ws:List Int} {p:Pn} {W:Int} (hp:Wd ws p W):kL 50 ws 2 p:=by
 by_cases hk:p.kind=2
 ·obtain⟨e,a,rfl⟩:=pI hp hk;by_cases hk2:e.kind=8
  ·have hw:=(Ex.vF (iA hp).2).1
   obtain⟨x,y,hxy⟩:∃ x y,e.kids=[x,y]:=by
    rcases Ex.QW hw with ⟨h,_⟩|⟨h,_⟩|⟨h,_⟩|⟨_,x,y,h,_⟩
    ·omega
    ·omega
    ·omega
    ·exact⟨x,y,h⟩
   refine .yes (q:=filt y (filt x a)) ?_ (by rw[iF];simp[rwF,hk2,Ex.kid0,Ex.DY,hxy]);have h2:=gB x a;have h3:=gB y (filt x a);rw[aD rfl Tryz.func50 rfl rfl];simp only[bT,Ex.aA e,hxy,Ex.aB,Ex.aA x,Ex.aA y,Pn.aA a]at h2 h3 ⊢;simp[hk2,h2,h3]
  ·refine .no ?_ (by rw[iF];simp[rwF,hk2]);rw[aD rfl Tryz.func50 rfl rfl];simp only[bT,bA,Ex.aA e];simp[hk2]
 ·refine .no ?_ (by simp[rwP,hk]);rw[aD rfl Tryz.func50 rfl rfl];simp only[bA,Pn.aA p];simp[hk]
end Go.Proofs.YtnmimmaahhlgeaaGreat.P
namespace Go.Av
theorem APD {ws:List Int} {e:Ex} {a:Pn} (h:(filt e a).wd ws 8≠0):a.wd ws 8≠0∧e.ok (a.wd ws 8)=true∧(filt e a).wd ws 8=a.wd ws 8:=by
 have h1:=h;rw[uI]at h1;obtain⟨h2,h3⟩:=fJ h1;have hm:=Pn.gF a 7 8 h3 (by omega);rw[hm];exact⟨h3,h2.2,by rw[uI,if_pos h2]⟩
theorem AOA {ws:List Int} {kd:Int} {e:Ex} {a b:Pn} (hk:kd=4∨kd=5) (h:(aX kd e a b).wd ws 8≠0):a.wd ws 8≠0∧b.wd ws 8≠0∧a.wd ws 8+b.wd ws 8≤6∧e.ok (a.wd ws 8+b.wd ws 8)=true∧(aX kd e a b).wd ws 8=a.wd ws 8+b.wd ws 8:=by
 have h1:=h;rw[qN hk]at h1;obtain⟨h2,h3⟩:=fJ h1;rw[Pn.gF a 7 8 h2.1 (by omega),Pn.gF b 7 8 h2.2.1 (by omega)];exact⟨h2.1,h2.2.1,h2.2.2.1,h2.2.2.2,by rw[qN hk,if_pos h2]⟩
theorem ATU {ws:List Int} {es:List Ex} {a:Pn} (h:(proj es a).wd ws 8≠0):a.wd ws 8≠0∧bH es.length=true∧es.all (Ex.ok (a.wd ws 8))=true∧(proj es a).wd ws 8=es.length:=by
 have h1:=h;rw[BD]at h1;obtain⟨h2,h3⟩:=fJ h1;rw[Pn.gF a 7 8 h2.1 (by omega)];exact⟨h2.1,h2.2.1,h2.2.2,by rw[BD,if_pos h2]⟩
theorem APU {e:Ex} {n:Nat} (h:e.BC (fun c=>decide (0≤c))=true):(e.bits / 2 ^ n=0)=(e.cin 0 n=true):=by
 rw[eq_iff_iff,AVR h n];unfold Ex.cin;constructor
 ·intro h1;exact Ex.rY (by simp) e (Ex.ADH e h h1)
 ·intro h1;exact Ex.rY (fun c hc=>by simp at hc ⊢;exact hc.2) e h1
theorem APT {e:Ex} {n W:Nat} (h:e.BC (fun c=>decide (0≤c∧c<(W:Int)))=true):(e.bits &&& (2 ^ n-1)=0)=(e.cin n W=true):=by
 have h0:e.BC (fun c=>decide (0≤c))=true:=Ex.rY (fun c hc=>by simp at hc ⊢;exact hc.1) e h;rw[eq_iff_iff,AVQ h0 n];unfold Ex.cin;constructor
 ·intro h1;exact Ex.rY (fun c hc=>by simp at hc ⊢;omega) e (Ex.ADH e h h1)
 ·intro h1;exact Ex.rY (fun c hc=>by simp at hc ⊢;exact hc.1) e h1
end Go.Av
namespace Go.Proofs.YtnmimmaahhlgeaaGreat.P
open Go Go.Av
set_option maxRecDepth 4000
set_option maxHeartbeats 4000000
theorem FZ {ws:List Int} (hw:pO ws=true) (p:Pn):aG C0 26 [.i (.agg p.cells), .i (.isl (aH ws))] []=some (.int (p.wd ws 8),[]):=by
 rw[mV];unfold Pn.width;rw[if_pos hw]
theorem Z0 {ws:List Int} (hw:pO ws=true) {p:Pn} (h:p.wd ws 8≠0):∃ n:Nat,p.wd ws 8=n∧1≤n∧n≤6:=by
 have:=Pn.mH (rM hw) p 8;exact⟨(p.wd ws 8).toNat,by omega,by omega,by omega⟩
theorem APE (a b:Nat):Int.fdiv (a:Int) (b:Int)=((a / b:Nat):Int):=by
 rw[Int.fdiv_eq_ediv_of_nonneg _ (Int.natCast_nonneg b)];rfl
theorem AdQ {n:Nat} (hn:n≤6):(IntKind.i64.wrap (IntKind.i64.wrap (2 ^ min n IntKind.i64.bits)-1) % 18446744073709551616).toNat=2 ^ n-1:=by
 have:n=0∨n=1∨n=2∨n=3∨n=4∨n=5∨n=6:=by omega
 rcases this with rfl|rfl|rfl|rfl|rfl|rfl|rfl<;>decide
theorem AO2 {ws:List Int} (hw:pO ws=true) {e e2:Ex} {x y:Pn} {kd:Int} (hkd:kd=4∨kd=5) (hp:(filt e (aX kd e2 x y)).wd ws 8≠0):kL 51 ws 3 (filt e (aX kd e2 x y)):=by
 obtain⟨h1,h2,h3⟩:=APD hp;obtain⟨g1,g2,g3,g4,g5⟩:=AOA hkd h1;rw[g5]at h2;obtain⟨n,hn,n1,n2⟩:=Z0 hw g1;have hwf:=Ex.AJH h2;have hcol:=Ex.ABE hwf;have hb:=Ex.TQ e hcol;have c1:=QL e (by have:=Ex.vG h2;omega) hcol;have c2:=FZ hw x;have c3:=gB e x;have c4:=oO kd e2 (filt e x) y;have q:=APU (n:=n) (Ex.AN6 hwf);rw[hn]at c2;have o1:aG C0 105 [.i (.iref (filt e (aX kd e2 x y)).cells), .int kd] []=_:=gZ (e:=e) (k:=aX kd e2 x y) (kd:=kd) rfl;have o2:kd=5→aG C0 105 [.i (.iref (filt e (aX kd e2 x y)).cells), .int 4] []=_:=fun h=>fA (e:=e) (k:=aX kd e2 x y) (kd:=4) (by simp[h])
 have hsh:shI .shr .i64 (e.bits:Int) (n:Int)=some (.lit (.int .i64 ((e.bits / 2 ^ n:Nat):Int))):=by
  have h1:min (n:Int).toNat IntKind.i64.bits=n:=by simp[IntKind.bits];omega
  have h2:(0:Int)≤n:=by omega
  simp only[shI,h1,h2,zF7,tst];rw[show(2:Int) ^ n=((2 ^ n:Nat):Int)by simp,APE]
 have hr:rwP ws 3 (filt e (aX kd e2 x y))=if e.cin 0 n=true then some (aX kd e2 (filt e x) y)else none:=by
  rw[iF];simp[rwF,aX,Pn.ex0,Pn.kid0,Pn.DY,Pn.kind,Pn.exprs,Pn.kids,hkd,hn]
 generalize hd:e.bits / 2 ^ n=d at *
 by_cases hc:e.cin 0 n=true
 ·rw[if_pos hc]at hr;have hd0:d=0:=by rw[q];exact hc
  subst hd0;refine .yes ?_ hr;rw[aD rfl Tryz.func51 rfl rfl]
  rcases hkd with rfl|rfl
  ·simp only[bT,pair_cells,Ex.aA e,Ex.aA e2,Pn.aA x,Pn.aA y]at o1 c1 c2 c3 c4 ⊢;simp[o1,c1,c2,c3,c4,hsh]
  ·have o2:=o2 rfl;simp only[bT,pair_cells,Ex.aA e,Ex.aA e2,Pn.aA x,Pn.aA y]at o1 o2 c1 c2 c3 c4 ⊢;simp[o1,o2,c1,c2,c3,c4,hsh]
 ·rw[if_neg hc]at hr;have hd0:¬ d=0:=by rw[q];exact hc
  refine .no ?_ hr;rw[aD rfl Tryz.func51 rfl rfl]
  rcases hkd with rfl|rfl
  ·simp only[bT,pair_cells,bA,Ex.aA e,Ex.aA e2,Pn.aA x,Pn.aA y]at o1 c1 c2 ⊢;simp[o1,c1,c2,hsh,hd0]
  ·have o2:=o2 rfl;simp only[bT,pair_cells,bA,Ex.aA e,Ex.aA e2,Pn.aA x,Pn.aA y]at o1 o2 c1 c2 ⊢;simp[o1,o2,c1,c2,hsh,hd0]
theorem AbY {ws:List Int} (hw:pO ws=true) {p:Pn} (hp:p.wd ws 8≠0):kL 51 ws 3 p:=by
 by_cases hk:p.kind=2
 ·obtain⟨e,a,rfl⟩:=pI (mE hp) hk;by_cases hk2:a.kind=4∨a.kind=5
  ·obtain⟨e2,x,y,hx⟩:=jM (iA (mE hp)).1 hk2;generalize a.kind=kd at *
   subst hx;exact AO2 hw hk2 hp
  ·have h1:=fA (e:=e) (k:=a) (kd:=4) (by omega);have h2:=fA (e:=e) (k:=a) (kd:=5) (by omega);refine .no ?_ (by rw[iF];simp[rwF,hk2]);rw[aD rfl Tryz.func51 rfl rfl];simp only[bT,bA]at h1 h2 ⊢;simp[h1,h2]
 ·have h1:=gW (p:=p) (kd:=4) hk;have h2:=gW (p:=p) (kd:=5) hk;refine .no ?_ (by simp[rwP,hk]);rw[aD rfl Tryz.func51 rfl rfl];simp only[bA,Pn.aA p]at h1 h2 ⊢;simp[h1,h2]
theorem AQ5 {b n:Nat} (hb:b<64):IntKind.i64.wrap ((b:Int) % 18446744073709551616 % 2 ^ n)=((b &&& (2 ^ n-1):Nat):Int):=by
 rw[Nat.and_two_pow_sub_one_eq_mod];have h1:(b:Int) % 18446744073709551616=b:=by omega
 have h2:(b:Int) % 2 ^ n=((b % 2 ^ n:Nat):Int):=by simp
 rw[h1,h2];have:=Nat.mod_le b (2 ^ n);exact wrO
theorem AO1 {ws:List Int} (hw:pO ws=true) {e e2:Ex} {x y:Pn} (hp:(filt e (aX 4 e2 x y)).wd ws 8≠0):kL 52 ws 4 (filt e (aX 4 e2 x y)):=by
 obtain⟨h1,h2,h3⟩:=APD hp;obtain⟨g1,g2,g3,g4,g5⟩:=AOA (.inl rfl) h1;rw[g5]at h2;obtain⟨n,hn,n1,n2⟩:=Z0 hw g1;obtain⟨m,hm,m1,m2⟩:=Z0 hw g2;have hwf:=Ex.AJH h2;have hcol:=Ex.ABE hwf;have hcolW:=Ex.QY e (Ex.vF h2).1;have hb:=Ex.TQ e hcol;have hsz:e.size<1000000000:=by have:=Ex.vG h2;omega
 have c1:=QL e hsz hcol;have c2:=FZ hw x;have c5:=ZO (w:=n) (by omega) e hwf hsz;have c3:=gB (e.wK (·-n)) y;have c4:=oO 4 e2 x (filt (e.wK (·-n)) y);rw[hn,hm,← zG9]at hcolW;have q:=APT (n:=n) hcolW;rw[hn]at c2;have o1:=gZ (e:=e) (k:=aX 4 e2 x y) (kd:=4) rfl
 have hr:rwP ws 4 (filt e (aX 4 e2 x y))=if e.cin n (n+m:Nat)=true then some (aX 4 e2 x (filt (e.wK (·-n)) y))else none:=by
  rw[iF]
  have:∀ k:Pn,(Pn.mk 4 0 [e2] [] [x,y]).wd ws 8=((n+m:Nat):Int):=fun _=>by
   have:=g5;unfold aX at this;rw[this,hn,hm];simp
  simp[rwF,aX,Pn.ex0,Pn.kid0,Pn.DY,Pn.kind,Pn.exprs,Pn.kids,hn,this x]
 have haw:=AQ5 (b:=e.bits) (n:=n) (by omega);by_cases hc:e.cin n (n+m:Nat)=true
 ·rw[if_pos hc]at hr;have hd0:e.bits &&& (2 ^ n-1)=0:=by rw[q];exact hc
  rw[hd0]at haw;refine .yes ?_ hr;generalize e.wK (·-(n:Int))=z at *
  rw[aD rfl Tryz.func52 rfl rfl];simp only[bT,pair_cells,Ex.aA e,Ex.aA e2,Ex.aA z,Pn.aA x,Pn.aA y]at o1 c1 c2 c3 c4 c5 ⊢;simp[o1,c1,c2,c3,c4,c5,AdQ n2,haw]
 ·rw[if_neg hc]at hr;have hd0:¬ (e.bits &&& (2 ^ n-1)=0):=by rw[q];exact hc
  refine .no ?_ hr;generalize e.bits &&& (2 ^ n-1)=d at *
  rw[aD rfl Tryz.func52 rfl rfl];simp only[bT,pair_cells,bA,Ex.aA e,Ex.aA e2,Pn.aA x,Pn.aA y]at o1 c1 c2 ⊢;simp[o1,c1,c2,hd0,AdQ n2,haw]
theorem AbX {ws:List Int} (hw:pO ws=true) {p:Pn} (hp:p.wd ws 8≠0):kL 52 ws 4 p:=by
 by_cases hk:p.kind=2
 ·obtain⟨e,a,rfl⟩:=pI (mE hp) hk;by_cases hk2:a.kind=4
  ·obtain⟨e2,x,y,hx⟩:=jM (iA (mE hp)).1 (.inl hk2);rw[hk2]at hx;subst hx;exact AO1 hw hp
  ·have h1:=fA (e:=e) (k:=a) (kd:=4) hk2;refine .no ?_ (by rw[iF];simp[rwF,hk2]);rw[aD rfl Tryz.func52 rfl rfl];simp only[bT,bA]at h1 ⊢;simp[h1]
 ·have h1:=gW (p:=p) (kd:=4) hk;refine .no ?_ (by simp[rwP,hk]);rw[aD rfl Tryz.func52 rfl rfl];simp only[bA,Pn.aA p]at h1 ⊢;simp[h1]
theorem AID {ws:List Int} (hw:pO ws=true) {e:Ex} {es:List Ex} {x:Pn} (hp:(filt e (proj es x)).wd ws 8≠0):kL 58 ws 10 (filt e (proj es x)):=by
 obtain⟨h1,h2,h3⟩:=APD hp;obtain⟨g1,g2,g3,g4⟩:=ATU h1;rw[g4]at h2;have c2:=FZ hw x;have c5:=AKF e es (x.wd ws 8);have o1:=gZ (e:=e) (k:=proj es x) (kd:=3) rfl
 have hr:rwP ws 10 (filt e (proj es x))=some (proj es (filt (e.sub es) x)):=by
  rw[iF];simp[rwF,proj,Pn.ex0,Pn.kid0,Pn.DY,Pn.kind,Pn.exprs,Pn.kids]
 have c3:=gB (AP6 (e.subst es (x.wd ws 8))) x;refine⟨proj es (filt (AP6 (e.subst es (x.wd ws 8))) x),(e.subst es (x.wd ws 8)).isSome,?_,?_,?_⟩
 ·generalize (e.subst es (x.wd ws 8)).isSome=b at *
  generalize AP6 (e.subst es (x.wd ws 8))=z at *
  rw[aD rfl Tryz.func58 rfl rfl];simp only[bT,wI,Ex.aA e,Ex.aA z,Pn.aA x]at o1 c2 c3 c5 ⊢;simp[o1,c2,c3,c5]
 ·intro hb;rw[hr];unfold Ex.subst at hb ⊢;split at hb
  ·rename_i hcc;rw[if_pos hcc];rfl
  ·simp at hb
 ·intro hb q' hq lv;rw[hr]at hq;injection hq with hq;subst hq
  cases lv with
  | zero=>rw[Pn.ADS];simp[proj,Pn.kids]
  | succ lv =>
   rw[BD];refine if_neg fun hc=>?_
   have hc1:=hc.1
   cases lv with
   | zero=>exact hc1 (by rw[Pn.ADS];simp[filt,Pn.kids])
   | succ lv =>
    rw[uI]at hc1;obtain⟨⟨hx,hok⟩,_⟩:=fJ hc1;have e8:=YO (mE g1) hx;rw[e8]at hok;unfold Ex.subst at hb;rw[if_pos (by simp only[zU];exact⟨h2,g3,hok⟩)]at hb;simp at hb
theorem AYB {ws:List Int} (hw:pO ws=true) {p:Pn} (hp:p.wd ws 8≠0):kL 58 ws 10 p:=by
 by_cases hk:p.kind=2
 ·obtain⟨e,a,rfl⟩:=pI (mE hp) hk;by_cases hk2:a.kind=3
  ·obtain⟨es,x,rfl⟩:=qL (iA (mE hp)).1 hk2;exact AID hw hp
  ·have h1:=fA (e:=e) (k:=a) (kd:=3) hk2;refine .no ?_ (by rw[iF];simp[rwF,hk2]);rw[aD rfl Tryz.func58 rfl rfl];simp only[bT,bA]at h1 ⊢;simp[h1]
 ·have h1:=gW (p:=p) (kd:=3) hk;refine .no ?_ (by simp[rwP,hk]);rw[aD rfl Tryz.func58 rfl rfl];simp only[bA,Pn.aA p]at h1 ⊢;simp[h1]
def OIX (e e2:Ex) (x y:Pn) (ws:List Int) (n m i:Nat):AS :=
 { env:=[(0, .i (.iref [.int 2, .int 0, .isl [[.int e.kind, .int e.col, .bool e.val.null, .int e.val.n, .isl (Ex.aB e.kids)]], .isl [], .isl [[.int 5, .int 0, .isl [[.int e2.kind, .int e2.col, .bool e2.val.null, .int e2.val.n, .isl (Ex.aB e2.kids)]], .isl [], .isl [[.int x.kind, .int x.table, .isl (Ex.aB x.exprs), .isl (aH x.cols), .isl (Pn.aB x.kids)],[.int y.kind, .int y.table, .isl (Ex.aB y.exprs), .isl (aH y.cols), .isl (Pn.aB y.kids)]]]]])),(1, .i (.isl (aH ws))),(4, .own 0 0),(5, .bool false),(6, .i (.iref [.int e.kind, .int e.col, .bool e.val.null, .int e.val.n, .isl (Ex.aB e.kids)])),
    (7, .i (.iref [.int 5, .int 0, .isl [[.int e2.kind, .int e2.col, .bool e2.val.null, .int e2.val.n, .isl (Ex.aB e2.kids)]], .isl [], .isl [[.int x.kind, .int x.table, .isl (Ex.aB x.exprs), .isl (aH x.cols), .isl (Pn.aB x.kids)],[.int y.kind, .int y.table, .isl (Ex.aB y.exprs), .isl (aH y.cols), .isl (Pn.aB y.kids)]]])),(8, .bool true),(9, .int ((n:Int)+m)),(10,gro 1 1 i),(11, .int ((n:Int)+i)),(19, .bool false),(36,jk i (.bool true)),(49, .junk)],
   st:=some (.box [.int 0, .int 0, .nils, .nils, .nils])::vN 1 (aH (BX n i)) i }
theorem ANZ {ws:List Int} (hw:pO ws=true) {e e2:Ex} {x y:Pn} (hp:(filt e (aX 5 e2 x y)).wd ws 8≠0):kL 55 ws 7 (filt e (aX 5 e2 x y)):=by
 obtain⟨h1,h2,h3⟩:=APD hp;obtain⟨g1,g2,g3,g4,g5⟩:=AOA (.inr rfl) h1;have c1:=FZ hw (aX 5 e2 x y);rw[g5]at h2 c1;obtain⟨n,hn,n1,n2⟩:=Z0 hw g1;obtain⟨m,hm,m1,m2⟩:=Z0 hw g2;have c2:=FZ hw x;rw[hn,hm,← zG9]at h2 c1;rw[hn]at c2;have c3:=oO 4 e2 x y;have c4:=gB e (aX 4 e2 x y);have c5:=AA7 e (n:=n+m) (p:=n) (m:=m) rfl h2;have o1:=gZ (e:=e) (k:=aX 5 e2 x y) (kd:=5) rfl
 have hr:rwP ws 7 (filt e (aX 5 e2 x y))=if AR7 e (n+m:Nat) n=true then some (filt e (aX 4 e2 x y))else none:=by
  rw[iF]
  have:(Pn.mk 5 0 [e2] [] [x,y]).wd ws 8=((n+m:Nat):Int):=by
   have:=g5;unfold aX at this;rw[this,hn,hm];simp
  simp[rwF,aX,Pn.ex0,Pn.kid0,Pn.DY,Pn.kind,Pn.exprs,Pn.kids,hn,this]
 generalize AR7 e (n+m:Nat) n=b at *
 have key:aG C0 55 [.i (.iref (filt e (aX 5 e2 x y)).cells), .i (.isl (aH ws))] []=some (.tup [.i (.agg (if b=true then filt e (aX 4 e2 x y)else Pn.zero).cells), .bool b],[]):=by
  rw[aD rfl Tryz.func55 rfl rfl];simp only[bT,pair_cells,bA,Ex.aA e,Ex.aA e2,Pn.aA x,Pn.aA y]at o1 c1 c2 c3 c4 c5 ⊢;have ht:∀ k,(BX n k).take k=BX n k:=fun k=>zZ (by simp)
  simp only[zG9]at c5;simp[o1,c1,c2];rw[aS (OIX e e2 x y ws n m) m (by simp[OIX])]
  ·rw[aF];simp[OIX,aM (show m≠0 by omega),aI (show m≠0 by omega),dR (show m≠0 by omega)]
   cases b with
   | true=>simp[c3,c4,c5,ht,bT,pair_cells,Ex.aA e,Ex.aA e2,Pn.aA x,Pn.aA y]
   | false=>simp[c5,ht,bA]
  ·intro i hi;have w2:IntKind.i64.wrap ((n:Int)+i+1)=n+(i+1):=by rw[wrO];omega
   have hs:=AGC n i;have hlt:(n:Int)+i<n+m:=by omega
   by_cases h0:i=0
   ·subst h0;have hlt0:(n:Int)<n+m:=by omega
    have w3:IntKind.i64.wrap ((n:Int)+1)=n+1:=by rw[wrO]
    simp[OIX,w3,hlt0,hs,iI,aH,BX]
   ·have hl1:(i+1)*8≤140737488355328:=by omega
    simp[OIX,w2,hlt,hs,aM h0,aI h0,dR h0,iI,aH,hl1,ht]
 cases b with
 | true=>exact .yes key (by rw[hr];rfl)
 | false=>exact .no key (by rw[hr];rfl)
theorem AbU {ws:List Int} (hw:pO ws=true) {p:Pn} (hp:p.wd ws 8≠0):kL 55 ws 7 p:=by
 by_cases hk:p.kind=2
 ·obtain⟨e,a,rfl⟩:=pI (mE hp) hk;by_cases hk2:a.kind=5
  ·obtain⟨e2,x,y,hx⟩:=jM (iA (mE hp)).1 (.inr hk2);rw[hk2]at hx;subst hx;exact ANZ hw hp
  ·have h1:=fA (e:=e) (k:=a) (kd:=5) hk2;refine .no ?_ (by rw[iF];simp[rwF,hk2]);rw[aD rfl Tryz.func55 rfl rfl];simp only[bT,bA]at h1 ⊢;simp[h1]
 ·have h1:=gW (p:=p) (kd:=5) hk;refine .no ?_ (by simp[rwP,hk]);rw[aD rfl Tryz.func55 rfl rfl];simp only[bA,Pn.aA p]at h1 ⊢;simp[h1]
theorem APK {n m i:Nat} (h:i<n+m):(bX (m:Int) n++bX 0 m)[i]?=some (AGD (pK n m i)):=by
 by_cases hi:i<n
 ·rw[zM (by simpa using hi),vX hi];unfold pK;rw[if_pos (by omega),Int.add_comm]
 ·rw[zN (by simp;omega),pE,vX (by omega)];unfold pK;rw[if_neg (by omega)];congr 2;omega
def MPX (fs es:List Ex) (x:Pn) (ws:List Int) (W:Int) (zs:List Ex) (i:Nat):AS :=
 { env:=[(0, .i (.iref [.int 3, .int 0, .isl (Ex.aB fs), .isl [], .isl [[.int 3, .int 0, .isl (Ex.aB es), .isl [], .isl [[.int x.kind, .int x.table, .isl (Ex.aB x.exprs), .isl (aH x.cols), .isl (Pn.aB x.kids)]]]]])),(1, .i (.isl (aH ws))),(4, .own 0 0),(5, .bool false),(6, .i (.iref [.int 3, .int 0, .isl (Ex.aB es), .isl [], .isl [[.int x.kind, .int x.table, .isl (Ex.aB x.exprs), .isl (aH x.cols), .isl (Pn.aB x.kids)]]])),(7, .int W),(8, .own 1 0),(9,jk i (.int (i-1))),(10,if i=0 then .junk else .own 3 0),(11,jk i (.bool true)),(26, .bool false),(50, .int fs.length),(51, .int i),(52,jk i (.bool true)),(71,jk i (.bool false))],
   st:=some (.box [.int 0, .int 0, .nils, .nils, .nils])::some (.box [.int 3, .int 0,gro 2 5 i, .nils, .i (.isl [[.int x.kind, .int x.table, .isl (Ex.aB x.exprs), .isl (aH x.cols), .isl (Pn.aB x.kids)]])])::(if i=0 then []else [some (.arr 5 (Ex.aB (zs.take i))),some (.box (lZ ((zs[i-1]?).getD Ex.zero).cells))]) }
def CJX (e:Ex) (x y:Pn) (ws:List Int) (n m i:Nat):AS :=
 { env:=[(0, .i (.iref [.int 4, .int 0, .isl [[.int e.kind, .int e.col, .bool e.val.null, .int e.val.n, .isl (Ex.aB e.kids)]], .isl [], .isl [[.int x.kind, .int x.table, .isl (Ex.aB x.exprs), .isl (aH x.cols), .isl (Pn.aB x.kids)],[.int y.kind, .int y.table, .isl (Ex.aB y.exprs), .isl (aH y.cols), .isl (Pn.aB y.kids)]]])),(1, .i (.isl (aH ws))),(4, .own 0 0),(5, .bool false),(6, .own 1 0),(7, .own 2 0),(8, .fn (.func 112) [.own 1 0, .own 2 0]),(9, .own 3 0),(10,jk i (.int (i-1))),(15, .bool false),(37, .int ((n:Int)+m)),(38, .int i),(39,jk i (.bool true))],
   st:=some (.box [.int 0, .int 0, .nils, .nils, .nils])::some (.box [.int n])::some (.box [.int m])::some (.box [.int 3, .int 0,gro 4 5 i, .nils, .nils])::vN 5 (Ex.aB ((bX (m:Int) n++bX 0 m).take i)) i }
theorem AO0 {ws:List Int} (hw:pO ws=true) {e:Ex} {x y:Pn} (hp:(aX 4 e x y).wd ws 8≠0):kL 54 ws 6 (aX 4 e x y):=by
 obtain⟨g1,g2,g3,g4,g5⟩:=AOA (.inl rfl) hp;obtain⟨n,hn,n1,n2⟩:=Z0 hw g1;obtain⟨m,hm,m1,m2⟩:=Z0 hw g2;have c1:=FZ hw x;have c2:=FZ hw y;have hwf:=Ex.AJH g4;have hsz:e.size<1000000000:=by have:=Ex.vG g4;omega
 have c5:=ZN (a:=n) (b:=m) (by omega) (by omega) e hwf hsz;have c4:=oO 4 (e.wK (pK n m)) y x
 have hr:rwP ws 6 (aX 4 e x y)=some (proj (bX m n++bX 0 m) (aX 4 (e.wK (pK n m)) y x)):=by
  simp[rwP,aX,Pn.ex0,Pn.kid0,Pn.DY,Pn.kind,Pn.exprs,Pn.kids,hn,hm]
 rw[hn]at c1;rw[hm]at c2;refine .yes ?_ hr;generalize e.wK (pK n m)=z at *
 rw[aD rfl Tryz.func54 rfl rfl];simp only[wI,pair_cells,bA,Ex.aA e,Ex.aA z,Pn.aA x,Pn.aA y]at c1 c2 c4 c5 ⊢;have w0:IntKind.i64.wrap ((n:Int)+m)=n+m:=wrO;have hlen:(bX (m:Int) n++bX 0 m).length=n+m:=by simp
 simp[c1,c2,w0];rw[aS (CJX e x y ws n m) (n+m) (by simp[CJX])]
 ·rw[aF];have htk:(bX (m:Int) n++bX 0 m).take (n+m)=bX (m:Int) n++bX 0 m:=zZ (by omega);simp[CJX,aM (show n+m≠0 by omega),aI (show n+m≠0 by omega),dR (show n+m≠0 by omega),htk,c4,c5]
 ·intro i hi;have hnth:=APK hi;have htk:=aP hnth;have hpl:=PD i n m (by omega) (by omega) (by omega);have hco:=FI (pK n m i);generalize pK n m i=c at *
  rw[oG]at hco;have hlt:(i:Int)<n+m:=by omega
  have w2:IntKind.i64.wrap ((i:Int)+1)=i+1:=wrO;by_cases h0:i=0
  ·subst h0;have hlt0:(0:Int)<n+m:=by omega
   simp at hpl;simp[CJX,hlt0,hpl,hco,bD,htk,Ex.aB,oG]
  ·have hl1:(i+1)*56≤140737488355328:=by omega
   have hl2:i≤min i (n+m):=by omega
   simp[CJX,w2,hlt,hpl,hco,aM h0,aI h0,dR h0,htk,Ex.bN,oG,hl1,hl2,zF]
theorem AIC {ws:List Int} (hw:pO ws=true) {fs es:List Ex} {x:Pn} (hp:(proj fs (proj es x)).wd ws 8≠0):kL 59 ws 11 (proj fs (proj es x)):=by
 obtain⟨h1,h2,h3,h4⟩:=ATU hp;obtain⟨g1,g2,g3,g4⟩:=ATU h1;rw[g4]at h3;have c2:=FZ hw x;have c5:=fun e=>AKF e es (x.wd ws 8)
 have hr:rwP ws 11 (proj fs (proj es x))=some (proj (fs.map (Ex.sub es)) x):=by
  simp[rwP,proj,Pn.ex0,Pn.kid0,Pn.DY,Pn.kind,Pn.exprs,Pn.kids]
 generalize hW:x.wd ws 8=W at *
 have hin:∀ (i:Nat) (a:Ex),fs[i]?=some a→(a.subst es W).isSome=true→(fs.map (Ex.sub es))[i]?=some (a.sub es)∧a.subst es W=some (a.sub es):=by
  intro i a ha hs;refine⟨by simp[ha],?_⟩;unfold Ex.subst at hs ⊢;split at hs
  ·rename_i hc;rw[if_pos hc]
  ·simp at hs
 have hlen:fs.length≤6:=by unfold bH at h2;simp at h2;omega
 obtain⟨j,k1,k2⟩:=gJ (fun e=>(e.subst es W).isSome) fs
 have hround:∀ i,i<j→i<fs.length∧∃ f z,fs[i]?=some f∧fO (Ex.aB fs) i=some f.cells∧(fs.map (Ex.sub es))[i]?=some z∧f.subst es W=some z:=by
  intro i hi;obtain⟨f,q1,q2,q3⟩:=k1 i hi;obtain⟨q4,q5⟩:=hin i f q1 q3;exact⟨(zY.1 q1).1,f,_,q1,Ex.aV q1,q4,q5⟩
 have hfl:fs.length≠0:=by intro h;rw[h]at h2;simp[bH]at h2
 have hzl:(fs.map (Ex.sub es)).length=fs.length:=by simp
 have hq:∀ lv,(proj (fs.map (Ex.sub es)) x).wd ws lv≠0→∀ f∈fs,(f.sub es).ok W=true:=by
  intro lv hne f hf
  cases lv with
  | zero=>exact absurd (by rw[Pn.ADS];simp[proj,Pn.kids]) hne
  | succ lv =>
   rw[BD]at hne;obtain⟨⟨q1,q2,q3⟩,_⟩:=fJ hne;have e8:=YO (mE (p:=x) (lv:=8) (by rw[hW];exact g1)) q1;rw[e8,hW]at q3;exact zS.1 q3 _ (List.mem_map_of_mem hf)
 generalize fs.map (Ex.sub es)=zs at *
 have main:∀ r,aG C0 59 [.i (.iref (proj fs (proj es x)).cells), .i (.isl (aH ws))] []=r→r=if j=fs.length then some (.tup [.i (.agg (proj zs x).cells), .bool true],[])else some (.tup [.i (.agg Pn.zero.cells), .bool false],[]):=by
  intro r hr';subst hr';rw[aD rfl Tryz.func59 rfl rfl];simp only[wI,Pn.aA x]at c2 ⊢;simp[c2];rw[aS (MPX fs es x ws W zs) j (by simp[MPX])]
  ·rw[aF]
   rcases k2 with ⟨hj,ha⟩|⟨f,q1,q2,q3,ha⟩
   ·have htk:zs.take fs.length=zs:=zZ (by omega);simp[MPX,hj,hfl,aM hfl,htk,hzl]
   ·have hj:j<fs.length:=(zY.1 q1).1;have hne:¬ j=fs.length:=by omega
    have r1:=Ex.aV q1;have hn:f.subst es W=none:=by cases h:f.subst es W with|none=>rfl|some _=>rw[h]at q3;simp at q3
    have c6:=c5 f;rw[hn]at c6;simp only[AP6,Option.getD,Option.isSome,Ex.aA f,bA]at c6 r1;by_cases h0:j=0
    ·subst h0;simp[MPX,hj,hne,r1,c6,bA]
    ·simp[MPX,hj,hne,r1,c6,h0,aM h0,dR h0,bA]
  ·intro i hi;obtain⟨hil,f,z,q1,r1,q4,q5⟩:=hround i hi;have c6:=c5 f;rw[q5]at c6;have htk:=aP q4;have w2:IntKind.i64.wrap ((i:Int)+1)=i+1:=wrO;simp only[AP6,Option.getD,Option.isSome,Ex.aA f,Ex.aA z]at c6 r1;by_cases h0:i=0
   ·subst h0;simp[MPX,hil,r1,c6,bD,htk,q4,Ex.aB,Ex.aA z]
   ·have hl1:(i+1)*56≤140737488355328:=by omega
    have hl2:i≤min i zs.length:=by omega
    simp[MPX,hil,r1,c6,w2,htk,q4,h0,aM h0,dR h0,Ex.bN,Ex.aA z,hl1,hl2,zF]
 have hm:=main _ rfl
 rcases k2 with ⟨hj,ha⟩|⟨f,q1,q2,q3,ha⟩
 ·rw[if_pos hj]at hm;exact .yes hm hr
 ·have hj:j<fs.length:=(zY.1 q1).1;rw[if_neg (by omega)]at hm;refine⟨.zero,false,hm,by simp,fun _ q' hq' lv=>?_⟩;rw[hr]at hq';injection hq' with hq';subst hq';by_cases hne:(proj zs x).wd ws lv=0
  ·exact hne
  ·have hok:=hq lv hne f q2;unfold Ex.subst at q3;rw[if_pos (by simp only[zU];exact⟨List.all_eq_true.1 h3 f q2,g3,hok⟩)]at q3;simp at q3
theorem AbV {ws:List Int} (hw:pO ws=true) {p:Pn} (hp:p.wd ws 8≠0):kL 54 ws 6 p:=by
 by_cases hk:p.kind=4
 ·obtain⟨e,x,y,hx⟩:=jM (mE hp) (.inl hk);rw[hk]at hx;subst hx;exact AO0 hw hp
 ·refine .no ?_ ?_
  ·rw[aD rfl Tryz.func54 rfl rfl];simp only[bA,Pn.aA p];simp[hk]
  ·unfold rwP;split
   ·unfold rwF;simp
   ·simp[hk]
theorem AYA {ws:List Int} (hw:pO ws=true) {p:Pn} (hp:p.wd ws 8≠0):kL 59 ws 11 p:=by
 by_cases hk:p.kind=3
 ·obtain⟨fs,a,rfl⟩:=qL (mE hp) hk;by_cases hk2:a.kind=3
  ·obtain⟨V,hV,_⟩:=tY (mE hp);obtain⟨es,x,rfl⟩:=qL hV hk2;exact AIC hw hp
  ·refine .no ?_ (by simp[rwP,Pn.kid0,proj,hk2]);rw[aD rfl Tryz.func59 rfl rfl];simp only[wI,bA,Pn.aA a];simp[hk2]
 ·refine .no ?_ ?_
  ·rw[aD rfl Tryz.func59 rfl rfl];simp only[bA,Pn.aA p];simp[hk]
  ·unfold rwP;split
   ·unfold rwF;simp
   ·simp[hk]
end Go.Proofs.YtnmimmaahhlgeaaGreat.P
namespace Go.Av
theorem ABS {ws:List Int} {r:Int} {lv:Nat} {p:Pn} (h:∀ q',rwP ws r p=some q'→∀ lv,q'.wd ws lv=0):rwL ws r lv p=none:=by
 unfold rwL
 cases hq:rwP ws r p with
 | none=>rfl
 | some q=>simp[h q hq lv]
theorem ANW {ws:List Int} {r:Int} {lv:Nat} {p q:Pn} (h:rwP ws r p=some q):rwL ws r lv p=if q.wd ws lv=0 then none else some q:=by
 unfold rwL;rw[h];by_cases hq:q.wd ws lv=0<;>simp[hq]
def AP5 (o:Option Pn):Pn:=o.getD Pn.zero
end Go.Av
namespace Go.Proofs.YtnmimmaahhlgeaaGreat.P
open Go Go.Av
set_option maxRecDepth 4000
set_option maxHeartbeats 4000000
theorem RH {ws:List Int} {p:Pn} {r:Int} {lv:Nat} (h:r<1∨11<r):aG C0 28 [.i (.iref p.cells), .i (.isl (aH ws)), .int r, .int lv] []=some (.tup [.i (.agg Pn.zero.cells), .bool false],[]):=by
 rw[aD rfl Tryz.func28 rfl rfl,bA]
 rcases h with h|h
 ·simp[h]
 ·simp[show ¬ r<1 by omega,show 12≤r by omega]
theorem uV {ws:List Int} (hw:pO ws=true) {p:Pn} (hp:p.wd ws 8≠0) (r:Int) {lv:Nat} (hl:lv≤8):aG C0 28 [.i (.iref p.cells), .i (.isl (aH ws)), .int r, .int lv] []=some (.tup [.i (.agg (AP5 (rwL ws r lv p)).cells), .bool (rwL ws r lv p).isSome],[]):=by
 have hr:(r<1∨11<r)∨(r=1∧kL 49 ws 1 p)∨(r=2∧kL 50 ws 2 p)∨(r=3∧kL 51 ws 3 p)∨(r=4∧kL 52 ws 4 p)∨(r=5∧kL 53 ws 5 p)∨(r=6∧kL 54 ws 6 p)∨(r=7∧kL 55 ws 7 p)∨(r=8∧kL 56 ws 8 p)∨(r=9∧kL 57 ws 9 p)∨(r=10∧kL 58 ws 10 p)∨(r=11∧kL 59 ws 11 p):=by
  by_cases h:r<1∨11<r
  ·exact .inl h
  ·refine .inr ?_;have:r=1∨r=2∨r=3∨r=4∨r=5∨r=6∨r=7∨r=8∨r=9∨r=10∨r=11:=by omega
   rcases this with rfl|rfl|rfl|rfl|rfl|rfl|rfl|rfl|rfl|rfl|rfl
   ·exact(.inl ⟨rfl,Ac0 (mE hp)⟩)
   ·exact(.inr (.inl ⟨rfl,AbZ (mE hp)⟩))
   ·exact(.inr (.inr (.inl ⟨rfl,AbY hw hp⟩)))
   ·exact(.inr (.inr (.inr (.inl ⟨rfl,AbX hw hp⟩))))
   ·exact(.inr (.inr (.inr (.inr (.inl ⟨rfl,AbW (mE hp)⟩)))))
   ·exact(.inr (.inr (.inr (.inr (.inr (.inl ⟨rfl,AbV hw hp⟩))))))
   ·exact(.inr (.inr (.inr (.inr (.inr (.inr (.inl ⟨rfl,AbU hw hp⟩)))))))
   ·exact(.inr (.inr (.inr (.inr (.inr (.inr (.inr (.inl ⟨rfl,AbT (mE hp)⟩))))))))
   ·exact(.inr (.inr (.inr (.inr (.inr (.inr (.inr (.inr (.inl ⟨rfl,AbS (mE hp)⟩)))))))))
   ·exact(.inr (.inr (.inr (.inr (.inr (.inr (.inr (.inr (.inr (.inl ⟨rfl,AYB hw hp⟩))))))))))
   ·exact(.inr (.inr (.inr (.inr (.inr (.inr (.inr (.inr (.inr (.inr (⟨rfl,AYA hw hp⟩)))))))))))
 rcases hr with h|⟨rfl,q,b,h1,h2,h3⟩|⟨rfl,q,b,h1,h2,h3⟩|⟨rfl,q,b,h1,h2,h3⟩|⟨rfl,q,b,h1,h2,h3⟩|⟨rfl,q,b,h1,h2,h3⟩|⟨rfl,q,b,h1,h2,h3⟩|⟨rfl,q,b,h1,h2,h3⟩|⟨rfl,q,b,h1,h2,h3⟩|⟨rfl,q,b,h1,h2,h3⟩|⟨rfl,q,b,h1,h2,h3⟩|⟨rfl,q,b,h1,h2,h3⟩
 ·rw[RH h]
  have:rwL ws r lv p=none:=ABS fun q' hq=>by
   have:=ABR hq;simp[rules]at this;omega
  rw[this];rfl
 all_goals
  have h4:=CS (rM hw) q lv hl;rw[aD rfl Tryz.func28 rfl rfl]
  cases b with
  | false =>
   rw[ABS (h3 rfl)];simp only[AP5,Option.getD,Option.isSome,bA,Pn.aA p,Pn.aA q]at h1 h4 ⊢;simp[h1]
  | true =>
   rw[ANW (h2 rfl)];by_cases hq:q.wd ws lv=0
   ·rw[hq]at h4;rw[if_pos hq];simp only[AP5,Option.getD,Option.isSome,bA,Pn.aA p,Pn.aA q]at h1 h4 ⊢;simp[h1,h4]
   ·rw[if_neg hq];simp only[AP5,Option.getD,Option.isSome,Pn.aA p,Pn.aA q]at h1 h4 ⊢;simp[h1,h4,hq]
end Go.Proofs.YtnmimmaahhlgeaaGreat.P
namespace Go.Av
def AeS (s:Stp):List IV:=[.int s.1, .isl (aH s.2)]
def oJ (l:List Stp):List (List IV):=l.map AeS
@[simp] theorem AQQ (l:List Stp):(oJ l).length=l.length:=by simp[oJ]
theorem UL (a b:List Stp):oJ (a++b)=oJ a++oJ b:=by simp[oJ]
theorem AHF {ws:List Int} {p:Pn} {lv:Nat} (h:p.wd ws lv≠0) (hk:p.kids≠[]):p.kids.length≤2∧lv≠0∧∀ a∈p.kids,a.wd ws (lv-1)≠0:=by
 rw[Pn.uJ]at h;obtain⟨h1,h2⟩:=fJ h;refine⟨Pn.BN h1.1,h1.2.resolve_left hk,?_⟩;split at h2
 ·rename_i hk1;exact absurd (Pn.tF h1.1 hk1) hk
 ·obtain⟨h3,_⟩:=fJ h2;exact fun a ha=>by simpa using zS.1 h3 a ha
theorem BF (ws:List Int) (path:List Int):∀ (l m:List Pn) (i:Nat),NF ws path i (l++m)=NF ws path i l++NF ws path (i+l.length) m
 | [],m,i=>by simp[NF]
 | a::l,m,i=>by simp only[yO,NF,BF ws path l m (i+1),zK,zI];congr 3;omega
theorem UR (ws:List Int) (path:List Int) {l:List Pn} {i:Nat} {a:Pn} (h:l[i]?=some a):NF ws path 0 (l.take (i+1))=NF ws path 0 (l.take i)++stI ws (path++[(i:Int)]) a:=by
 have hl:(l.take i).length=i:=by have:=(zY.1 h).1;simp;omega
 rw[aP h,BF,hl];simp[NF]
def QS (ws path:List Int) (p:Pn) (i:Nat):List Stp:=((rules.take i).filter fun r=>(rwL ws r (8-path.length) p).isSome).map fun r=>(r,path)
theorem EJ {ws path:List Int} {p:Pn} {i:Nat} (h:i<11):QS ws path p (i+1)=QS ws path p i++if(rwL ws ((i:Int)+1) (8-path.length) p).isSome=true then [((i:Int)+1,path)]else []:=by
 have h1:rules[i]?=some ((i:Int)+1):=by
  have:i=0∨i=1∨i=2∨i=3∨i=4∨i=5∨i=6∨i=7∨i=8∨i=9∨i=10:=by omega
  rcases this with rfl|rfl|rfl|rfl|rfl|rfl|rfl|rfl|rfl|rfl|rfl<;>rfl
 unfold QS;rw[aP h1,xS,yI];congr 1;simp only[List.filter];split<;>rename_i h2<;>simp[h2]
theorem AI2 (ws path:List Int) (p:Pn):stI ws path p=QS ws path p 11++NF ws path 0 p.kids:=by
 rw[AR0];rfl
end Go.Av
namespace Go.Proofs.YtnmimmaahhlgeaaGreat.P
open Go Go.Av
set_option maxRecDepth 4000
set_option maxHeartbeats 4000000
structure Yl (R:Rng) (cs:List AV):Prop where
 ids:cs=[.own 1 0, .junk, .junk]
 y00:∀ r:Int,aG C0 sF [.fn (.yield 0) [.own 0 0], .agg [.int r, .nils]] [some (.loop R cs .ready),some (.box [.nils])]=some (.bool true,[some (.loop R cs .ready),some (.box [.osl 2 2 0 1]),some (.arr 2 [[.int r, .isl []]])])
 y01:∀ (r:Int) (path:List Int),path≠[]→aG C0 sF [.fn (.yield 0) [.own 0 0], .agg [.int r, .osl 2 1 0 path.length]] [some (.loop R cs .ready),some (.box [.nils]),some (.arr 1 (aH path))]=some (.bool true,[some (.loop R cs .ready),some (.box [.osl 3 2 0 1]),some (.frz 1 (aH path)),some (.arr 2 [[.int r, .isl (aH path)]])])
 y10:∀ (r:Int) (n:Nat) (l:List Stp),l.length=n→n≠0→n<1000000→aG C0 sF [.fn (.yield 0) [.own 0 0], .agg [.int r, .nils]] [some (.loop R cs .ready),some (.box [.osl 2 2 0 n]),some (.arr 2 (oJ l))]=some (.bool true,[some (.loop R cs .ready),some (.box [.osl 3 2 0 (n+1)]),none,some (.arr 2 (oJ l++[[.int r, .isl []]]))])
 y11:∀ (r:Int) (n:Nat) (l:List Stp) (path:List Int),path≠[]→l.length=n→n≠0→n<1000000→aG C0 sF [.fn (.yield 0) [.own 0 0], .agg [.int r, .osl 3 1 0 path.length]] [some (.loop R cs .ready),some (.box [.osl 2 2 0 n]),some (.arr 2 (oJ l)),some (.arr 1 (aH path))]=some (.bool true,[some (.loop R cs .ready),some (.box [.osl 4 2 0 (n+1)]),none,some (.frz 1 (aH path)),some (.arr 2 (oJ l++[[.int r, .isl (aH path)]]))])
theorem ANM (p:Pn) (ws:List Int):aG C0 72 [.i (.iref p.cells), .i (.isl (aH ws))] []=some (.fn (.func 122) [.own 0 0, .own 1 0],[some (.box [.i (.iref p.cells)]),some (.box [.i (.isl (aH ws))])]):=by
 rw[aD rfl Tryz.func72 rfl rfl];simp
set_option maxHeartbeats 8000000
theorem AG8 (path:List Int):path=[]∨path≠[]:=by cases path<;>simp
end Go.Proofs.YtnmimmaahhlgeaaGreat.P
namespace Go.Av
theorem EN {p:Pn} {ws:List Int} (h:p.width ws≠0):pO ws=true∧p.wd ws 8≠0∧p.width ws=p.wd ws 8:=by
 unfold Pn.width at h ⊢;split at h
 ·rename_i hw;exact⟨hw,h,if_pos hw⟩
 ·exact absurd rfl h
def ABL (p:Pn) (ws:List Int):List Stp:=if p.width ws=0 then []else stI ws [] p
theorem AQ6 {ws path:List Int} {p:Pn} {i:Nat} {s:Stp} (h:s∈QS ws path p i):s.2=path:=by
 unfold QS at h;obtain⟨r,_,rfl⟩:=zG.1 h;rfl
mutual
theorem AI1 (ws:List Int):∀ (p:Pn) (path:List Int),∀ s∈stI ws path p,∃ r,s.2=path++r
 | .mk k t es cs ks,path,s,h=>by
  rw[AI2]at h
  rcases zT.1 h with h|h
  ·exact⟨[],by rw[AQ6 h];simp⟩
  ·obtain⟨j,r,_,hr⟩:=ABO ws ks path 0 s h;exact⟨_,hr⟩
theorem ABO (ws:List Int):∀ (l:List Pn) (path:List Int) (i:Nat),∀ s∈NF ws path i l,∃ (j:Nat) (r:List Int),i≤j∧s.2=path++((j:Int)::r)
 | [],_,_,s,h=>by simp[NF]at h
 | a::l,path,i,s,h=>by
  simp only[NF,zT]at h
  rcases h with h|h
  ·obtain⟨r,hr⟩:=AI1 ws a (path++[(i:Int)]) s h;exact⟨i,r,zL _,by rw[hr];simp⟩
  ·obtain⟨j,r,hj,hr⟩:=ABO ws l path (i+1) s h;exact⟨j,r,by omega,hr⟩
end
end Go.Av
namespace Go.Proofs.YtnmimmaahhlgeaaGreat.P
open Go Go.Av
set_option maxRecDepth 4000
set_option maxHeartbeats 8000000
end Go.Proofs.YtnmimmaahhlgeaaGreat.P
namespace Go.Av
theorem YZ {ws:List Int}:∀ (p:Pn) (lv:Nat),p.wd ws lv≠0→p.thin:=by
 intro p
 induction p using Pn.ind with
 | h k t es cs ks ih =>
  intro lv h
  have hk:∀ a∈ks,a.thin:=fun a ha=>by
   have h2:=(AHF (p:=.mk k t es cs ks) h (by intro e;simp only[Pn.kids]at e;rw[e]at ha;simp at ha)).2.2 a ha;exact ih a ha _ h2
  have hs:=kM h;rw[Pn.kN];generalize hp:Pn.mk k t es cs ks=p at *
  have hks:ks=p.kids:=by rw[← hp];rfl
  subst hks;have ok1:∀ {w:Int} {e:Ex},e.ok w=true→e.thin:=fun h=>Ex.dJ _ (by have:=Ex.vG h;omega)
  cases hs with
  | scan=>simp[Pn.scan,Pn.exprs,Pn.cols,Pn.kids]
  | filt m e a _ _ he=>exact⟨by simp[filt,Pn.exprs],fun x hx=>by simp[filt,Pn.exprs]at hx;subst hx;exact ok1 he,by simp[filt,Pn.cols],by simp[filt,Pn.kids],hk⟩
  | proj m es a _ _ hl he=>exact⟨by simp[proj,Pn.exprs];unfold bH at hl;simp at hl;omega,fun x hx=>ok1 (he x hx),by simp[proj,Pn.cols],by simp[proj,Pn.kids],hk⟩
  | pair m kd e a b _ _ _ _ _ he=>exact⟨by simp[aX,Pn.exprs],fun x hx=>by simp[aX,Pn.exprs]at hx;subst hx;exact ok1 he,by simp[aX,Pn.cols],by simp[aX,Pn.kids],hk⟩
  | union m a b=>exact⟨by simp[bU,Pn.exprs],by simp[bU,Pn.exprs],by simp[bU,Pn.cols],by simp[bU,Pn.kids],hk⟩
  | dist m a=>exact⟨by simp[Pn.exprs],by simp[Pn.exprs],by simp[Pn.cols],by simp[Pn.kids],hk⟩
  | group m cs a _ _ hc=>exact⟨by simp[Pn.exprs],by simp[Pn.exprs],by simp only[Pn.cols];omega,by simp[Pn.kids],hk⟩
end Go.Av
namespace Go.Proofs.YtnmimmaahhlgeaaGreat.P
open Go Go.Av
set_option maxRecDepth 4000
set_option maxHeartbeats 4000000
def CFX (a:Int) (n i:Nat):AS :=
 { env:=[(0, .int a),(1, .int n),(4, .nils),(5, .osl 0 5 0 i),(6, .int i),(10,jk i (.bool true))],st:=[some (.arr 5 (Ex.aB (bX a i)))] }
def SRX (fs es:List Ex) (x:Pn) (ws:List Int) (zs:List Ex) (i:Nat):AS :=
 { env:=[(0, .i (.agg [.int 3, .int 0, .isl (Ex.aB fs), .isl [], .isl [[.int 3, .int 0, .isl (Ex.aB es), .isl [], .isl [[.int x.kind, .int x.table, .isl (Ex.aB x.exprs), .isl (aH x.cols), .isl (Pn.aB x.kids)]]]]])),(1, .int 11),(2, .i (.isl (aH ws))),(3, .own 0 0),(6, .own 1 0),(7, .bool false),(8, .junk),(9, .junk),(10, .junk),(11, .junk),(12, .osl 2 5 0 i),(13, .int i),(14, .bool false),(24, .bool false),(71, .bool false),(99, .bool true),(120,jk i (.bool true))],
   st:=[some (.box [.i (.int 3), .i (.int 0), .i (.isl (Ex.aB fs)), .i (.isl []), .i (.isl [[.int 3, .int 0, .isl (Ex.aB es), .isl [], .isl [[.int x.kind, .int x.table, .isl (Ex.aB x.exprs), .isl (aH x.cols), .isl (Pn.aB x.kids)]]]])]),some (.box [.int 0, .int 0, .nils, .nils, .nils]),some (.arr 5 (Ex.aB (zs.take i)))] }
end Go.Proofs.YtnmimmaahhlgeaaGreat.P
namespace Go.Av
theorem AVV {path:List Int} {p a:Pn} {x:Int} (h:Pn.at path p=some a):Pn.at (path++[x]) p=if 0≤x then a.kids[x.toNat]? else none:=by
 rw[wB path p a [x] h];unfold Pn.at;split
 ·cases a.kids[x.toNat]?<;>simp[Pn.at]
 ·rfl
theorem AVW {path r:List Int} {p:Pn} (h:Pn.at path p=none):Pn.at (path++r) p=none:=by
 induction path generalizing p with
 | nil=>simp[Pn.at]at h
 | cons i path ih =>
  simp only[yO,Pn.at]at h ⊢;split
  ·rename_i h0;rw[if_pos h0]at h
   cases hk:p.kids[i.toNat]? with
   | none=>rfl
   | some b=>rw[hk]at h;exact ih h
  ·rfl
theorem AVU (path:List Int) (p:Pn):∃ j:Nat,(∀ i,i<j→∃ (x:Int) (a b:Pn),path[i]?=some x∧Pn.at (path.take i) p=some a∧0≤x∧a.kids[x.toNat]?=some b∧Pn.at (path.take (i+1)) p=some b)∧((∃ a,j=path.length∧Pn.at path p=some a)∨(∃ (x:Int) (a:Pn),path[j]?=some x∧Pn.at (path.take j) p=some a∧(0≤x→a.kids[x.toNat]?=none)∧Pn.at path p=none)):=by
 generalize hn:path.length=n
 induction n generalizing path with
 | zero =>
  obtain rfl:=zW.1 hn;exact⟨0,fun i hi=>by omega, .inl ⟨p,rfl,rfl⟩⟩
 | succ n ih =>
  obtain⟨l,x,rfl⟩:∃ l x,path=l++[x]:=by
   rcases zB8 path with h|⟨l,x,h⟩
   ·rw[h]at hn;simp at hn
   ·exact⟨l,x,by simpa using h⟩
  have hln:l.length=n:=by simpa using hn
  subst hln;obtain⟨j,h1,h2⟩:=ih l rfl
  have hlt:∀ i,i<j→i<l.length:=fun i hi=>by
   obtain⟨y,_,_,h,_⟩:=h1 i hi;exact(zY.1 h).1
  have h1':∀ i,i<j→∃ (x':Int) (a b:Pn),(l++[x])[i]?=some x'∧Pn.at ((l++[x]).take i) p=some a∧0≤x'∧a.kids[x'.toNat]?=some b∧Pn.at ((l++[x]).take (i+1)) p=some b:=fun i hi=>by
   obtain⟨y,a,b,q1,q2,q3,q4,q5⟩:=h1 i hi;have hl:=hlt i hi;refine⟨y,a,b,by rw[zM hl];exact q1,by rw[zA8 (by omega)];exact q2,q3,q4,by rw[zA8 (by omega)];exact q5⟩
  rcases h2 with ⟨a,rfl,ha⟩|⟨y,a,q1,q2,q3,q4⟩
  ·have hs:=AVV (x:=x) ha;by_cases hx:0≤x
   ·rw[if_pos hx]at hs
    cases hk:a.kids[x.toNat]? with
    | none=>exact⟨l.length,h1', .inr ⟨x,a,by simp,by simpa using ha,fun _=>hk,by rw[hs,hk]⟩⟩
    | some b =>
     refine⟨l.length+1,fun i hi=>?_, .inl ⟨b,by simp,by rw[hs,hk]⟩⟩;by_cases hi':i<l.length
     ·exact h1' i hi'
     ·obtain rfl:i=l.length:=by omega
      exact⟨x,a,b,by simp,by simpa using ha,hx,hk,by rw[zZ (by simp),hs,hk]⟩
   ·rw[if_neg hx]at hs;exact⟨l.length,h1', .inr ⟨x,a,by simp,by simpa using ha,fun h=>absurd h hx,hs⟩⟩
  ·have hl:=(zY.1 q1).1;exact⟨j,h1', .inr ⟨y,a,by rw[zM hl];exact q1,by rw[zA8 (by omega)];exact q2,q3,AVW q4⟩⟩
theorem Pn.FQ (l:List Pn) (n:Nat) (x:Pn):(Pn.aB l).set n x.cells=Pn.aB (l.set n x):=by
 induction l generalizing n with
 | nil=>simp[Pn.aB]
 | cons a l ih=>cases n with
  | zero=>simp[Pn.aB]
  | succ n=>simp[Pn.aB,ih n]
end Go.Av
namespace Go.Proofs.YtnmimmaahhlgeaaGreat.P
open Go Go.Av
set_option maxRecDepth 4000
set_option maxHeartbeats 4000000
def AGI (a:Pn):Option Blk:=some (.box [.i (.int a.kind), .i (.int a.table), .i (.isl (Ex.aB a.exprs)), .i (.isl (aH a.cols)), .i (.isl (Pn.aB a.kids))])
end Go.Proofs.YtnmimmaahhlgeaaGreat.P
namespace Go.Av
end Go.Av
namespace Go.Proofs.YtnmimmaahhlgeaaGreat.P
open Go Go.Av
set_option maxRecDepth 4000
set_option maxHeartbeats 4000000
end Go.Proofs.YtnmimmaahhlgeaaGreat.P
namespace Go.Av
def atV:Option Pn→AV
 | some a=>.i (.iref a.cells)
 | none=>.i (.lit (.pointer none))
def atI (path:List Int) (p:Pn):Option Pn:=if path.length≤8 then Pn.at path p else none
end Go.Av
namespace Go.Proofs.YtnmimmaahhlgeaaGreat.P
open Go Go.Av
set_option maxRecDepth 4000
set_option maxHeartbeats 4000000
def AIX (p:Pn) (path:List Int) (i:Nat):AS :=
 { env:=[(0, .i (.iref ((Pn.at (path.take i) p).getD Pn.zero).cells)),(1, .i (.isl (aH path))),(4, .i (.lit (.pointer none))),(6,jk i (.int ((path[i-1]?).getD 0))),(9, .bool false),(10, .i (.isl (aH path))),(11, .int path.length),(12, .int i),(13,jk i (.bool true)),(26,jk i (.bool false))],st:=[] }
theorem ARO (p:Pn) (path:List Int):aG C0 27 [.i (.iref p.cells), .i (.isl (aH path))] []=some (atV (atI path p),[]):=by
 rw[aD rfl Tryz.func27 rfl rfl];by_cases hl:path.length≤8
 ·have hl':¬ (8:Int)<path.length:=by omega
  obtain⟨j,h1,h2⟩:=AVU path p;simp[hl',atI,hl];rw[aS (AIX p path) j (by simp[AIX,Pn.at])]
  ·rw[aF]
   rcases h2 with ⟨a,rfl,ha⟩|⟨x,a,q1,q2,q3,q4⟩
   ·simp[AIX,ha,atV]
   ·have hj:=(zY.1 q1).1;have r1:=dH q1
    have hx:x<0∨(0≤x∧(a.kids.length:Int)≤x):=by
     by_cases h:x<0
     ·exact .inl h
     ·have:=q3 (by omega);simp at this;exact .inr ⟨by omega,by omega⟩
    simp only[AIX,q2,zC,q4,atV];rw[Pn.aA a]
    rcases hx with h|⟨h,h'⟩
    ·simp[hj,r1,h]
    ·have hn:¬ x<0:=by omega
     simp[hj,r1,hn,h']
  ·intro i hi;obtain⟨x,a,b,q1,q2,q3,q4,q5⟩:=h1 i hi;obtain⟨hj,qx⟩:=zY.1 q1;have r1:=dH q1;have hk:=(zY.1 q4).1;have r2:=Pn.aV q4;obtain⟨n,rfl⟩:=yH q3;simp only[Int.ofNat_eq_natCast,zD4]at *
   have w2:IntKind.i64.wrap ((i:Int)+1)=i+1:=wrO;have n1:¬ (n:Int)<0:=by omega
   have n2:¬ a.kids.length≤n:=by omega
   simp only[AIX,q2,q5,zC];rw[Pn.aA a,Pn.aA b]at *
   simp[hj,r1,n1,n2,hk,r2,w2,q1,qx]
 ·have hl':(8:Int)<path.length:=by omega
  simp[hl',atI,hl,atV]
theorem AGV {p:Pn} {ws:List Int} {r:Int} {path:List Int} (h:p.width ws=0∨apI ws r path p=none):aG C0 9 [.i (.agg p.cells), .i (.isl (aH ws)), .i (.agg [.int r, .isl (aH path)])] []=some (.tup [.i (.agg Pn.zero.cells), .bool false],[]):=by
 have c1:=mV p ws;have c2:=ARO p path;rw[aD rfl Tryz.func9 rfl rfl];by_cases h0:p.width ws=0
 ·rw[Pn.aA p]at c1 ⊢;simp[c1,h0,Pn.zero,Pn.cells,Ex.aB,aH,Pn.aB]
 ·obtain⟨hw,hp8,hv⟩:=EN h0;have hn:=h.resolve_left h0;unfold apI at hn
  cases ha:atI path p with
  | none =>
   rw[ha]at c2;rw[Pn.aA p]at c1 c2 ⊢;simp[atV]at c2;simp[c1,h0,c2,Pn.zero,Pn.cells,Ex.aB,aH,Pn.aB]
  | some a =>
   rw[ha]at c2;unfold atI at ha;split at ha
   ·rename_i hl;rw[if_pos hl,ha]at hn;simp only[yT]at hn;obtain⟨-,hav⟩:=TT path p 8 a hp8 ha;have ha8:a.wd ws 8≠0:=by rw[Pn.gF a _ 8 hav (by omega)];exact hav
    have c3:=uV hw ha8 r (lv:=8-path.length) (by omega)
    have hr:rwL ws r (8-path.length) a=none:=by
     cases hq:rwL ws r (8-path.length) a with
     | none=>rfl
     | some q=>rw[hq]at hn;cases hn
    rw[hr]at c3;have w1:IntKind.i64.wrap (8-(path.length:Int))=((8-path.length:Nat):Int):=by rw[wrO];omega
    simp only[atV]at c2;rw[Pn.aA p]at c1 c2 ⊢;rw[Pn.aA a]at c2 c3;simp[AP5,Pn.zero,Pn.cells,Ex.aB,aH,Pn.aB]at c3;simp[c1,h0,c2,w1,c3,Pn.zero,Pn.cells,Ex.aB,aH,Pn.aB]
   ·cases ha
end Go.Proofs.YtnmimmaahhlgeaaGreat.P
namespace Go.Proofs.YtnmimmaahhlgeaaGreat
open Go Go.Av
theorem VP {g:FuncId} {q:List AV→StL→Option (AV×StL)} (h:C0.prim g=some q):(g=61∧q=MP)∨(g=29∧q=XY):=by
 have h:ATV g=some q:=h;unfold ATV at h;split at h
 ·injection h with h;exact .inl ⟨rfl,h.symm⟩
 ·injection h with h;exact .inr ⟨rfl,h.symm⟩
 ·cases h
theorem Ac4:PrimOk C0:=by
 constructor
 ·intro g args st p h;unfold dE at h
  cases hq:C0.prim g with
  | none=>rw[hq]at h;cases h
  | some q =>
   rcases VP hq with ⟨rfl,rfl⟩|⟨rfl,rfl⟩
   ·exact⟨Tryz.f61,Tryz.func61,by decide,rfl⟩
   ·exact⟨Tryz.f29,Tryz.func29,by decide,rfl⟩
 ·intro g args stl r stl' h w m φ vs hi hr h0;unfold dE at h
  cases hq:C0.prim g with
  | none=>rw[hq]at h;cases h
  | some q =>
   rcases VP hq with ⟨rfl,rfl⟩|⟨rfl,rfl⟩
   ·rw[hq]at h;obtain⟨e,he,hres,hor⟩:=QI h;injection hres with h1 h2;subst h1;subst h2
    rcases hor with ⟨rfl,rfl⟩|⟨j,es,rfl,rfl,hes⟩
    ·exact IG he hi hr h0
    ·exact QK he hes hi hr h0
   ·rw[hq]at h;obtain⟨p,⟨k1,k2,k3⟩,rfl,rfl,hres⟩:=AG7 h;injection hres with h1 h2;subst h1;subst h2;exact G.TE k1 k2 k3 hi hr h0
theorem dB:SoundOk C0:=mI (C:=C0) ft nt eqS mo Ac4
end Go.Proofs.YtnmimmaahhlgeaaGreat
namespace Go.Av
section
variable {wi:World} {mi:Mem} {nt:Nat}
theorem GR.AUW {ok:Nat→Prop} {env:Nat→AV} {st:Store} {a:Act} {w:World} {d:Nat} {m1:Mem} {φ:Pl} {p:Pn} (hd:d<nt) (hi:Inv w m1 φ st) (henv:∀ t,Rep m1 φ (env t) (a.tmps.getD t undef)) (hadv:Adv wi mi (fun _=>none) w m1 φ) (hok:∀ id,φ id≠none→ok id) (hsz:nt≤a.tmps.size) (hdf:a.defers=[])
 {e:Ending} {w':World} (h:TV w m1 p e w'):∃ y,e=.returned y∧∃ v0 v1 v2 v3 v4 F,GR wi mi nt ok (CPY w p F v0 v1 v2 v3 v4) (upd env d (.i (.agg [.lit v0, .lit v1, .lit v2, .lit v3, .lit v4]))) st (a.put (some d) y) w':=by
 obtain⟨v0,v1,v2,v3,v4,F,m2,rfl,hone,hm2,ha,hc⟩:=h;obtain⟨i2,a2⟩:=hi.AZA ha hm2;refine⟨_,rfl,v0,v1,v2,v3,v4,F,⟨m2,φ,i2,nV (dst:=some d) (fun t=>(henv t).mono a2.mle a2.ple) hsz (by simpa [O5]using hd) (.i (.agg ?_)),hadv.trans a2,hok,?_⟩,by rw[nT];exact hsz,by rw[iM];exact hdf⟩
 ·exact .cons (.lit _) (hone _ (by simp)) (.cons (.lit _) (hone _ (by simp)) (.cons (.lit _) (hone _ (by simp)) (.cons (.lit _) (hone _ (by simp)) (.cons (.lit _) (hone _ (by simp)) .nil))))
 ·refine⟨hc.th,hc.cells,hc.nd,fun f hf=>?_⟩;obtain⟨k1,k2,k3,k4,k5⟩:=hc.all f hf;refine⟨k1,k2,fun id b n e ho=>?_,k4,k5⟩;have:=hi.low id b n f e ho;omega
theorem GR.AP4 {ok:Nat→Prop} {env:Nat→AV} {st:Store} {a:Act} {w:World} {d:Nat} {m:Mem} {φ:Pl} {p y:Pn} {root:Nat} {F:List Nat} {path:List Int} (hd:d<nt) (hi:Inv w m φ st) (henv:∀ t,Rep m φ (env t) (a.tmps.getD t undef)) (hadv:Adv wi mi (fun _=>none) w m φ) (hok:∀ id,φ id≠none→ok id) (hsz:nt≤a.tmps.size) (hdf:a.defers=[]) (hr:RAW wi root p F [] w m φ)
 {e:Ending} {w':World} (h:∃ bq oq Fa Fy Fz m',e=.returned (.pointer (some ⟨bq,oq,none⟩))∧AtP w m p root 0 F path y bq oq Fa Fy Fz∧o8 w' m'∧Adv w (jQ w) (fun _=>none) w' m' (fun _=>none)) :
 ∃ v,e=.returned v∧∃ bq oq Fa Fy Fz,GR wi mi nt ok (RAT wi root p F path y bq oq Fa Fy Fz) (upd env d (.i (.lit (.pointer (some ⟨bq,oq,none⟩))))) st (a.put (some d) v) w':=by
 obtain⟨bq,oq,Fa,Fy,Fz,m',rfl,hat,hm,ha⟩:=h;have hsame:∀ f,f<w.heap.size→w'.heap[f]?=w.heap[f]?:=fun f hf=>ha.block f hf fun id b n e=>by cases e
 have i2:=hi.later ha.size hsame
 have a2:Adv w m φ w' m φ:=⟨ha.size,ha.os,ha.tape,ha.output,fun b hb' _=>hsame b hb', .refl _,fun _ _ _ _=>rfl, .refl _,fun _ _ _ _ e ho=>.inr (lV.not e ho)⟩
 exact⟨_,rfl,bq,oq,Fa,Fy,Fz,⟨m,φ,i2,nV (dst:=some d) henv hsz (by simpa [O5]using hd) (.i (.lit _)),hadv.trans a2,hok,RAT.pM _ _ _ _ _ _ _ _ _ _ _ _ _ _ _ _ _ a2 ⟨hr,hat⟩⟩,by rw[nT];exact hsz,by rw[iM];exact hdf⟩
end
end Go.Av
namespace Go.Proofs.YtnmimmaahhlgeaaGreat.P
open Go Go.Av G
theorem AjU:Tryz.f29.name≠ "runtime.NumGoroutine":=by decide
theorem AjW:Tryz.f29.body.isSome=true:=rfl
theorem hb48:Tryz.f27.body.isSome=true:=rfl
theorem AjV:Tryz.f27.name≠ "runtime.NumGoroutine":=by decide
set_option maxRecDepth 4000
set_option maxHeartbeats 8000000
theorem AaP {α:Type} (f:Nat→α) (a:Nat) (x y:α):upd (upd f a x) a y=upd f a y:=by funext i;simp only[upd];split<;>rfl
def TEV (p:Pn) (ws:List Int) (r:Int) (path:List Int) (v3 v5 v6 v7 v8 v9 v10 v11 v15 v21 v36:AV):List (Nat×AV):=[(0, .i (.agg p.cells)),(1, .i (.isl (aH ws))),(2, .i (.agg [.int r, .isl (aH path)])),(3,v3),(5,v5),(6,v6),(7,v7),(8,v8),(9,v9),(10,v10),(11,v11),(15,v15),(21,v21),(36,v36)]
def bxP (p:Pn):Option Blk:=some (.box (lZ p.cells))
def bxS (r:Int) (path:List Int):Option Blk:=some (.box [.i (.int r), .i (.isl (aH path))])
theorem AGU {p:Pn} {ws:List Int} {r:Int} {path:List Int} {q:Pn} (h0:p.width ws≠0) (hq:apI ws r path p=some q) {wi:World} {mi:Mem} {vs:List Value} (hi:Inv wi mi (fun _=>none) (bJ [])) (hr:RepL mi (fun _=>none) [.i (.agg p.cells), .i (.isl (aH ws)), .i (.agg [.int r, .isl (aH path)])] vs) :
 Calls Tryz.prog 9 vs.toArray wi (bY wi mi (fun _=>none) (.tup [.i (.agg q.cells), .bool true]) []):=by
 obtain⟨hw,hp8,hv⟩:=EN h0;have hws:=rM hw;unfold apI at hq;split at hq
 rotate_left
 ·cases hq
 rename_i hl
 cases ha:Pn.at path p with
 | none=>rw[ha]at hq;cases hq
 | some a =>
 rw[ha]at hq;simp only[yT]at hq;obtain⟨-,hav⟩:=TT path p 8 a hp8 ha;have ha8:a.wd ws 8≠0:=by rw[Pn.gF a _ 8 hav (by omega)];exact hav
 cases hx:rwL ws r (8-path.length) a with
 | none=>rw[hx]at hq;cases hq
 | some x =>
 rw[hx]at hq;simp only[yM,Option.some.injEq]at hq;subst hq
 have hxw:x.wd ws (8-path.length)≠0:=by
  unfold rwL at hx
  cases hy:rwP ws r a with
  | none=>rw[hy]at hx;cases hx
  | some y =>
   rw[hy]at hx;simp only[yT]at hx;split at hx
   ·injection hx with hx;subst hx;assumption
   ·cases hx
 have hx8:x.wd ws 8≠0:=by rw[Pn.gF x _ 8 hxw (by omega)];exact hxw
 have hxs:x.small:=⟨by have:=(Pn.JF x 8 hx8).2;omega,YZ x 8 hx8,(Pn.JF x 8 hx8).1⟩
 have hps:p.small:=⟨by have:=(Pn.JF p 8 hp8).2;omega,YZ p 8 hp8,(Pn.JF p 8 hp8).1⟩
 have c1:=mV p ws;have c2:=ARO p path;simp only[atI,hl,if_true,ha,atV]at c2;have c3:=uV hw ha8 r (lv:=8-path.length) (by omega);rw[hx]at c3;simp only[AP5,zC,Option.isSome_some]at c3
 have c4:aG C0 29 [.i (.iref x.cells)] []=some (.i (.agg x.cells),[]):=by
  rw[aN (p:=XY) rfl];exact AD3 hxs
 have w1:IntKind.i64.wrap (8-(path.length:Int))=((8-path.length:Nat):Int):=by rw[wrO];omega
 refine calls_of_wp (fn:=Tryz.f9) Tryz.func9 rfl ?_;have hv1:vs.length=3:=by simpa using hr.length.symm
 have g0:GR wi mi 45 (fun id=>id<({ env:=[(0, .i (.agg p.cells)),(1, .i (.isl (aH ws))),(2, .i (.agg [.int r, .isl (aH path)]))],st:=[] }:AS).st.length) (fun _ _ _=>True) (aW [(0, .i (.agg p.cells)),(1, .i (.isl (aH ws))),(2, .i (.agg [.int r, .isl (aH path)]))]) (bJ []) { tmps:=vs.toArray++Array.replicate (45-vs.toArray.size) undef,defers:=[] } wi:=by
  refine⟨⟨mi,fun _=>none,hi,?_, .refl _ _ _,fun id h=>absurd rfl h,trivial⟩,by simp;omega,rfl⟩;intro t;have:=nA (m:=mi) (φ:=fun _=>none) (45-vs.toArray.size) hr t
  rcases t with _|_|_|t
  ·simpa [aW,uF]using this
  ·simpa [aW,uF]using this
  ·simpa [aW,uF]using this
  ·simp only[aW];simp;exact .junk _
 refine wp_seq (wp_mono (GR.fM dB (G:=GS 9) (S:={ env:=[(0, .i (.agg p.cells)),(1, .i (.isl (aH ws))),(2, .i (.agg [.int r, .isl (aH path)]))],st:=[] }) (e:=.normal) (S':={ env:=TEV p ws r path (.own 0 0) (.own 1 0) (.own 2 0) (.bool false) .junk .junk .junk .junk .junk .junk .junk,st:=[bxP p,bxS r path,some (.box zp)] }) nM (by kernel_rfl) (by
  rw[Pn.aA p]at *
  simp[TEV,bxP,bxS,zp,Pn.aA p]) g0) ?_)
 rintro _ a1 w1' ⟨rfl,g1⟩
 refine wp_seq (wp_mono (GR.fM dB (G:=GS 9) (S:={ env:=TEV p ws r path (.own 0 0) (.own 1 0) (.own 2 0) (.bool false) .junk .junk .junk .junk .junk .junk .junk,st:=[bxP p,bxS r path,some (.box zp)] }) (e:=.normal) (S':={ env:=TEV p ws r path (.own 0 0) (.own 1 0) (.own 2 0) (.bool false) .junk .junk .junk .junk (.bool false) .junk .junk,st:=[bxP p,bxS r path,some (.box zp)] }) nM (by kernel_rfl) (by
  simp only[TEV,bxP,bxS];rw[Pn.aA p]at *
  simp[zp,c1,h0]) g1) ?_)
 rintro _ a2 w2' ⟨rfl,g2⟩
 refine wp_seq (wp_mono (GR.fM dB (G:=GS 9) (S:={ env:=TEV p ws r path (.own 0 0) (.own 1 0) (.own 2 0) (.bool false) .junk .junk .junk .junk (.bool false) .junk .junk,st:=[bxP p,bxS r path,some (.box zp)] }) (e:=.normal) (S':={ env:=TEV p ws r path (.own 0 0) (.own 1 0) (.own 2 0) (.bool false) (.i (.iref a.cells)) .junk .junk .junk (.bool false) .junk .junk,st:=[some (.fbox p.cells),bxS r path,some (.box zp)] }) nM (by kernel_rfl) (by
  simp only[TEV,bxP,bxS];rw[Pn.aA p,Pn.aA a]at *
  simp[zp,c2]) g2) ?_)
 rintro _ a3 w3' ⟨rfl,g3⟩
 refine wp_seq (wp_mono (GR.fM dB (G:=GS 9) (S:={ env:=TEV p ws r path (.own 0 0) (.own 1 0) (.own 2 0) (.bool false) (.i (.iref a.cells)) .junk .junk .junk (.bool false) .junk .junk,st:=[some (.fbox p.cells),bxS r path,some (.box zp)] }) (e:=.normal) (S':={ env:=TEV p ws r path (.own 0 0) (.own 1 0) (.own 2 0) (.bool false) (.i (.iref a.cells)) .junk .junk .junk (.bool false) (.bool false) .junk,st:=[some (.fbox p.cells),bxS r path,some (.box zp)] }) nM (by kernel_rfl) (by
  simp only[TEV,bxP,bxS]
  simp[zp]) g3) ?_)
 rintro _ a4 w4' ⟨rfl,g4⟩
 refine wp_seq (wp_mono (GR.fM dB (G:=GS 9) (S:={ env:=TEV p ws r path (.own 0 0) (.own 1 0) (.own 2 0) (.bool false) (.i (.iref a.cells)) .junk .junk .junk (.bool false) (.bool false) .junk,st:=[some (.fbox p.cells),bxS r path,some (.box zp)] }) (e:=.normal) (S':={ env:=TEV p ws r path (.own 0 0) (.own 1 0) (.own 2 0) (.bool false) (.i (.iref a.cells)) (.own 3 0) (.bool true) .junk (.bool false) (.bool false) .junk,st:=[some (.fbox p.cells),bxS r path,some (.box zp),bxP x] }) nM (by kernel_rfl) (by
  simp only[TEV,bxP,bxS];rw[Pn.aA a,Pn.aA x]at *
  simp[zp,w1,c3]) g4) ?_)
 rintro _ a5 w5' ⟨rfl,g5⟩
 refine wp_seq (wp_mono (GR.fM dB (G:=GS 9) (S:={ env:=TEV p ws r path (.own 0 0) (.own 1 0) (.own 2 0) (.bool false) (.i (.iref a.cells)) (.own 3 0) (.bool true) .junk (.bool false) (.bool false) .junk,st:=[some (.fbox p.cells),bxS r path,some (.box zp),bxP x] }) (e:=.normal) (S':={ env:=TEV p ws r path (.own 0 0) (.own 1 0) (.own 2 0) (.bool false) (.i (.iref a.cells)) (.own 3 0) (.bool true) .junk (.bool false) (.bool false) (.bool false),st:=[some (.fbox p.cells),bxS r path,some (.box zp),bxP x] }) nM (by kernel_rfl) (by
  simp only[TEV,bxP,bxS]
  simp[zp,Pn.aA x]) g5) ?_)
 rintro _ a6 w6 ⟨rfl,g6⟩;clear g0 g1 g2 g3 g4 g5;have hst6:(6:Nat)<45:=by omega
 refine wp_seq (lW ?_);show wpOpsIn (FR none) 0 Tryz.prog _ _ (List.range 3) a6 w6;rw[show List.range 3=0::(List.range' 1 2++[])from rfl,wpOpsIn_cons];obtain⟨⟨m6,φ6,i6,henv6,adv6,ok6,-⟩,sz6,df6⟩:=g6;obtain⟨m7,rp7,i7,adv7⟩:=wD i6 (henv6 3) (show jY (bJ [some (.fbox p.cells),bxS r path,some (.box zp),bxP x]) (.own 0 0)=some (.i (.iref p.cells),bJ [some (.fbox p.cells),bxS r path,some (.box zp),bxP x])by simp[jY,tJ,frz,BO,I9,bJ,bnd,tst,jX]);have rp7':RepL m7 (fun _=>none) [.i (.iref p.cells)] [a6.tmps.getD 3 undef]:=.cons (by cases rp7 with|i k=>exact .i k) .nil
 have i7':Inv w6 m7 (fun _=>none) (bJ []):=⟨i7.mem,fun id blk e=>by simp[bJ]at e,fun _ _ _ _ _ _ _ _ _ e=>by simp[bJ]at e,fun _ _ _ _ e=>by cases e⟩
 refine OA (P:=Tryz.prog) (fn:=Tryz.f29) (d:=38) (g:=29) (args:=#[.tmp 3]) rfl rfl rfl rfl Tryz.func29 AjU AjW (vs:=[a6.tmps.getD 3 undef]) rfl ((vW hps.1 hps.2.1 hps.2.2 i7' rp7').mono fun e w7 hraw=>?_);obtain⟨y,rfl,v0,v1,v2,v3,v4,F,g7⟩:=GR.AUW (nt:=45) (d:=38) (by omega) i7 (fun t=>(henv6 t).mono adv7.mle adv7.ple) (adv6.trans adv7) ok6 sz6 df6 hraw;refine⟨y,rfl,?_⟩;have hsz6:wi.heap.size≤w6.heap.size:=adv6.size;generalize hE8:TEV p ws r path (.own 0 0) (.own 1 0) (.own 2 0) (.bool false) (.i (.iref a.cells)) (.own 3 0) (.bool true) .junk (.bool false) (.bool false) (.bool false)=E8 at g7;refine GR.AMR dB (CPY.pM _ _ _ _ _ _ _ _) 1 2 rfl ?_ (base:=4) (R0:={ env:=upd (aW E8) 38 (.i (.agg [.lit v0, .lit v1, .lit v2, .lit v3, .lit v4])),st:=bJ [some (.fbox p.cells),bxS r path,some (.box zp),bxP x],log:=[] }) (R1:={ env:=upd (upd (aW E8) 38 (.i (.agg [.lit v0, .lit v1, .lit v2, .lit v3, .lit v4]))) 11 (.own 12 0),st:=upd (bJ [some (.fbox p.cells),bxS r path,some (.box zp),bxP x]) 12 (some (.box (dW [v0,v1,v2,v3,v4]))),log:=[] }) ?_ (g7.ok' fun id h=>.inl (by simpa using h)) fun a8 w8 g8=>?_
 ·kernel_rfl
 ·simp[dW,zp,AaP]
 obtain⟨b3,g9⟩:=g8.AeW (u:=11) (id:=12) (st':=bJ [some (.fbox p.cells),bxS r path,some (.box zp),bxP x]) hsz6 rfl rfl (by
  intro i blk h
  rcases i with _|_|_|_|i
  ·simp[bJ]at h;subst h;simp[upd,bJ,mG]
  ·simp[bJ,bxS]at h;subst h;simp[upd,bJ,mG,bxS]
  ·simp[bJ]at h;subst h;simp[upd,bJ,mG,zp]
  ·simp[bJ,bxP]at h;subst h;simp[upd,bJ,mG,bxP,Pn.aA x,lZ]
  ·simp[bJ]at h)
 have g9:=(g9 (aW [(5, .own 1 0),(6, .own 2 0),(9, .own 3 0),(11, .i (.lit (.pointer (some ⟨b3,0,none⟩))))]) (by
  subst hE8;intro t;simp only[aW];by_cases h5:t=5
  ·subst h5;exact .inr (.inr ⟨by simp[upd,TEV,aW],by simp[upd,TEV,aW,qM,bJ,bxS]⟩)
  by_cases h6:t=6
  ·subst h6;exact .inr (.inr ⟨by simp[upd,TEV,aW],by simp[upd,TEV,aW,qM,bJ]⟩)
  by_cases h9:t=9
  ·subst h9;exact .inr (.inr ⟨by simp[upd,TEV,aW],by simp[upd,TEV,aW,qM,bJ,bxP]⟩)
  by_cases h11:t=11
  ·subst h11;exact .inr (.inl ⟨rfl,rfl⟩)
  simp[h5,h6,h9,h11])).ok' (ok':=fun id=>J6 4 (fun j=>j<0) id) (by
  intro i h;refine .inl ?_
  rcases i with _|_|_|_|i
  all_goals first|omega|(simp[bJ]at h))
 clear g7 g8;refine wp_seq (lW ?_);show wpOpsIn (FR none) 0 Tryz.prog _ _ (List.range 6) a8 w8;rw[show List.range 6=List.range' 0 2++(2::(List.range' 3 2++(List.range' 5 1++[])))from rfl];generalize hE9:aW [(5, .own 1 0),(6, .own 2 0),(9, .own 3 0),(11, .i (.lit (.pointer (some ⟨b3,0,none⟩))))]=E9 at g9;refine GR.AMR dB (RAW.pM _ _ _ _ _) 0 2 rfl ?_ (base:=4) (R0:={ env:=E9,st:=bJ [some (.fbox p.cells),bxS r path,some (.box zp),bxP x],log:=[] }) (R1:={ env:=upd (upd E9 39 (.own 1 1)) 40 (.i (.isl (aH path))),st:=bJ [some (.fbox p.cells),bxS r path,some (.box zp),bxP x],log:=[] }) ?_ g9 fun a9 w9 g10=>?_
 ·kernel_rfl
 ·subst hE9;simp[zp,bxS,AaP]
 clear g9;rw[wpOpsIn_cons];obtain⟨⟨m10,φ10,i10,henv10,adv10,ok10,r10⟩,AdP,df10⟩:=g10;have hv11:=henv10 11;have hv40:=henv10 40;simp only[show upd (upd E9 39 (.own 1 1)) 40 (.i (.isl (aH path))) 11=.i (.lit (.pointer (some ⟨b3,0,none⟩)))from by subst hE9;rfl]at hv11;simp only[show upd (upd E9 39 (.own 1 1)) 40 (.i (.isl (aH path))) 40=.i (.isl (aH path))from rfl]at hv40;have hmm:MLe m10 (jQ w9):=i10.mem;refine OA (P:=Tryz.prog) (fn:=Tryz.f27) (d:=41) (g:=27) (args:=#[.tmp 11, .tmp 40]) rfl rfl rfl rfl Tryz.func27 AjV hb48 (vs:=[a9.tmps.getD 11 undef,a9.tmps.getD 40 undef]) rfl ((AQ2 r10.th r10.nr r10.nd ha hl (vs:=[a9.tmps.getD 11 undef,a9.tmps.getD 40 undef]) (.cons (by cases hv11 with|i k=>exact .i (k.mono hmm)) (.cons (by cases hv40 with|i k=>exact .i (k.mono hmm)) .nil))).mono fun e w10 hplace=>?_);obtain⟨y2,rfl,bq,oq,Fa,Fy,Fz,g11⟩:=GR.AP4 (nt:=45) (d:=41) (by omega) i10 henv10 adv10 ok10 AdP df10 r10 hplace;refine⟨y2,rfl,?_⟩;refine GR.AMR dB (RAT.pM _ _ _ _ _ _ _ _ _ _ _) 3 2 rfl ?_ (base:=4) (R0:={ env:=upd (upd (upd E9 39 (.own 1 1)) 40 (.i (.isl (aH path)))) 41 (.i (.lit (.pointer (some ⟨bq,oq,none⟩)))),st:=bJ [some (.fbox p.cells),bxS r path,some (.box zp),bxP x],log:=[] }) (R1:={ env:=upd (upd (upd (upd (upd E9 39 (.own 1 1)) 40 (.i (.isl (aH path)))) 41 (.i (.lit (.pointer (some ⟨bq,oq,none⟩))))) 42 (.i (.agg x.cells))) 43 (.i (.lit (.pointer (some ⟨bq,oq,none⟩)))),st:=upd (bJ [some (.fbox p.cells),bxS r path,some (.box zp),bxP x]) 3 (some (.fbox x.cells)),log:=[] }) ?_ (g11.ok' fun id h=>kH (fun j hj=>by omega) h) fun a10 w11 g12=>?_
 ·kernel_rfl
 ·subst hE9;rw[Pn.aA x]at c4;simp[zp,bxS,bxP,Pn.aA x,c4,AaP]
 clear g11
 obtain⟨pre,row,post,ma,hrl,hpl,g13⟩:=g12.AaA (u:=43) (k:=1) (st':=upd (fun _=>none) 2 (some (.box zp))) rfl (by
  intro i blk h;by_cases h2:i=2
  ·subst h2;simp[upd]at h;subst h;simp[upd,bJ,mG,zp]
  ·simp[upd,h2]at h) (by simp[upd])
 have g13:=(g13 (aW [(6, .own 2 0),(11, .i (.lit (.pointer (some ⟨b3,0,none⟩)))),(42, .i (.agg x.cells)),(43, .own 1 oq)]) (by
  subst hE9;intro t;simp only[aW];by_cases h6:t=6
  ·subst h6;exact .inr (.inr ⟨by simp[upd,aW],by simp[upd,aW,qM]⟩)
  by_cases h11:t=11
  ·subst h11;exact .inr (.inr ⟨by simp[upd,aW],by simp[upd,aW,qM]⟩)
  by_cases h42:t=42
  ·subst h42;exact .inr (.inr ⟨by simp[upd,aW],by simp[upd,aW,qM]⟩)
  by_cases h43:t=43
  ·subst h43;exact .inr (.inl ⟨rfl,rfl⟩)
  simp[h6,h11,h42,h43])).ok' (ok':=fun id=>J6 4 (fun j=>j<5) id) (by
  intro i h;refine .inl ?_
  rcases h with h|h
  ·by_cases h2:i=2
   ·omega
   ·simp[upd,h2]at h
  ·omega)
 clear g12;refine GR.AMR dB (fun w m φ w' m' φ' ha h=>⟨ADK.pM _ _ _ _ _ _ _ _ _ _ _ _ _ _ _ _ _ _ _ _ ha h.1,h.2⟩) 5 1 rfl ?_ (base:=4) (R0:={ env:=aW [(6, .own 2 0),(11, .i (.lit (.pointer (some ⟨b3,0,none⟩)))),(42, .i (.agg x.cells)),(43, .own 1 oq)],st:=upd (upd (fun _=>none) 2 (some (.box zp))) 1 (some (.box (mO pre (dW row) post))),log:=[] }) (R1:={ env:=aW [(6, .own 2 0),(11, .i (.lit (.pointer (some ⟨b3,0,none⟩)))),(42, .i (.agg x.cells)),(43, .own 1 oq)],st:=upd (upd (upd (fun _=>none) 2 (some (.box zp))) 1 (some (.box (mO pre (dW row) post)))) 1 (some (.box (mO pre (lZ x.cells) post))),log:=[] }) ?_ g13 fun a11 w12 g14=>?_
 ·kernel_rfl
 ·subst hpl
  have hsp:splice (mO pre (dW row) post) pre.length (lZ x.cells)=some (mO pre (lZ x.cells) post):=by
   have:=sJ pre post (dW row) 0 (lZ x.cells);rw[xH]at this;rw[this]
   match row,hrl with
   | [r0,r1,r2,r3,r4],_=>rw[Pn.aA];simp[dW,lZ,mO,splice,bnd]
  rw[Pn.aA x]at *
  simp at hsp;simp[hsp,AaP]
 clear g13
 have g15:=g14.AcO (q:=x) hrl hpl rfl (st':=upd (fun _=>none) 2 (some (.box zp))) (env':=aW [(6, .own 2 0),(11, .i (.lit (.pointer (some ⟨b3,0,none⟩))))]) (by
  intro i blk h;by_cases h2:i=2
  ·subst h2;simp[upd]at h;subst h;simp[upd,mG,zp]
  ·simp[upd,h2]at h) (by
  intro t;simp only[aW];by_cases h6:t=6
  ·subst h6;exact .inr ⟨by simp,by simp[qM,upd]⟩
  by_cases h11:t=11
  ·subst h11;exact .inr ⟨by simp,by simp[qM]⟩
  simp[h6,h11])
 clear g14
 have g16:=g15.AmG (u:=11) rfl (env':=aW [(6, .own 2 0),(11, .i (.iref (Pn.put path p x).cells))]) (by
  intro t;simp only[aW];by_cases h6:t=6
  ·subst h6;exact .inr (.inr (by simp))
  by_cases h11:t=11
  ·subst h11;exact .inr (.inl ⟨rfl,by simp⟩)
  simp[h6,h11])
 clear g15;generalize Pn.put path p x=q at *
 have g17:=g16.settle (fun _ _ _ _ h=>h) [6,11];have hset:Av.settle [6,11] 0 (aW [(6, .own 2 0),(11, .i (.iref q.cells))]) (upd (fun _=>none) 2 (some (.box zp)))={ env:=[(6, .own 0 0),(11, .i (.iref q.cells))],st:=[some (.box zp)] }:=by simp[zp,upd]
 rw[hset]at g17;clear g16
 refine wp_mono (GR.fM dB (G:=GS 9) (S:={ env:=[(6, .own 0 0),(11, .i (.iref q.cells))],st:=[some (.box zp)] }) (e:=.ret) (S':={ env:=[(0, .junk),(1, .junk),(2, .junk),(3, .junk),(5, .junk),(6, .own 0 0),(7, .bool true),(8, .junk),(9, .junk),(10, .junk),(11, .i (.iref q.cells)),(15, .junk),(21, .junk),(36, .junk)],st:=[bxP q] }) nM (by kernel_rfl) (by
  simp only[bxP];rw[Pn.aA q]
  simp[zp]) g17) ?_
 rintro _ a12 w13 ⟨rfl,g18⟩;obtain⟨⟨m,φ,q1,q2,q3,q4,q5⟩,q6,q7⟩:=g18
 obtain⟨v,k1,k2⟩:=iJ (C:=C0) (fn:=Tryz.f9) (keep:=false) (na:=0) (S:={ env:=[(0, .junk),(1, .junk),(2, .junk),(3, .junk),(5, .junk),(6, .own 0 0),(7, .bool true),(8, .junk),(9, .junk),(10, .junk),(11, .i (.iref q.cells)),(15, .junk),(21, .junk),(36, .junk)],st:=[bxP q] }) (r:=.tup [.i (.agg q.cells), .bool true]) (stl':=[]) (fun id h=>absurd rfl h) ⟨⟨⟨m,φ,q1,q2,q3,q4, .nil _ _ _⟩,q6,q7⟩,xG _⟩ (by
  show finish C0 false [ResultVar.cell 6 27,ResultVar.tmp 7] 0 _=_;simp only[bxP];rw[Pn.aA q]
  simp)
 exact⟨q7,v,k1,k2⟩
end Go.Proofs.YtnmimmaahhlgeaaGreat.P
namespace Go.Proofs.YtnmimmaahhlgeaaGreat.P
open Go Go.Av
set_option maxRecDepth 4000
set_option maxHeartbeats 4000000
end Go.Proofs.YtnmimmaahhlgeaaGreat.P
namespace Go.Proofs.YtnmimmaahhlgeaaGreat
open Go Go.Av
set_option maxRecDepth 4000
noncomputable def AJA:FuncId→Option (List AV→StL→Option (AV×StL))
 | 1000000007=>none
 | 129=>none
 | 80=>none
 | 45=>some (WR (aG C0) 45)
 | 128=>some (ARR (aG C0) 128)
 | g=>some (aG C0 g)
def AH8:FuncId→Bool
 | 45=>true
 | g=>bV g
@[simp] theorem Ac6 (g:FuncId):AH8 g=if g=45 then true else bV g:=by
  unfold AH8;split
  ·rfl
  ·rename_i h;rw[if_neg h]
noncomputable def CP:Ctx:={ P:=Tryz.prog,G:=GS,ownArgs:=AH8,keepRes:=keepR,eqT:=MJ,prim:=AJA }
@[simp] theorem AvR:CP.P=Tryz.prog:=(rfl)
@[simp] theorem AvS (f):CP.G f=GS f:=(rfl)
@[simp] theorem AvO (f):CP.ownArgs f=AH8 f:=(rfl)
@[simp] theorem AvP (f):CP.keepRes f=keepR f:=(rfl)
@[simp] theorem AvQ (f):CP.eqT f=MJ f:=(rfl)
@[simp] theorem AvN:CP.tree=false:=(rfl)
theorem VQ:PrimOk CP:=by
 have h0:=bI dB
 have key:∀ g q,CP.prim g=some q→g≠sF∧(q=aG C0 g∨q=WR (aG C0) g∨q=AcP (aG C0) g∨q=ARR (aG C0) g):=by
  intro g q h;have h:AJA g=some q:=h;unfold AJA at h;split at h
  all_goals first
   | (cases h;done)
   | (injection h with h;subst h;exact⟨by decide, .inr (.inl rfl)⟩)
   | (injection h with h;subst h;exact⟨by decide, .inr (.inr (.inl rfl))⟩)
   | (injection h with h;subst h;exact⟨by decide, .inr (.inr (.inr rfl))⟩)
   | (injection h with h;subst h;exact⟨by assumption, .inl rfl⟩)
 constructor
 ·intro g args st p h;unfold dE at h
  cases hq:CP.prim g with
  | none=>rw[hq]at h;cases h
  | some q =>
   rw[hq]at h;obtain⟨hy,hor⟩:=key g q hq
   rcases hor with rfl|rfl|rfl|rfl
   ·exact h0.name _ _ _ _ hy h
   ·exact(PM h0 (r:=p.1) (stl':=p.2) h hy).1
   ·exact(Q7 h0 (r:=p.1) (stl':=p.2) h hy).1
   ·exact(Q5 h0 (r:=p.1) (stl':=p.2) h hy).1
 ·intro g args st r st' h w m φ vs hi hr hb;unfold dE at h
  cases hq:CP.prim g with
  | none=>rw[hq]at h;cases h
  | some q =>
   rw[hq]at h;obtain⟨hy,hor⟩:=key g q hq
   rcases hor with rfl|rfl|rfl|rfl
   ·exact h0.calls _ _ _ _ _ hy h w m φ vs hi hr hb
   ·exact(PM h0 h hy).2 w m φ vs hi hr hb
   ·exact(Q7 h0 h hy).2 w m φ vs hi hr hb
   ·exact(Q5 h0 h hy).2 w m φ vs hi hr hb
theorem AR3:SoundOk CP:=mI (C:=CP) ft nt eqS mo VQ
end Go.Proofs.YtnmimmaahhlgeaaGreat
namespace Go.Av
end Go.Av
namespace Go.Proofs.YtnmimmaahhlgeaaGreat.P
open Go Go.Av
set_option maxRecDepth 4000
set_option maxHeartbeats 4000000
@[simp] theorem AdB (a:List AV) (st:StL):aG CP 40 a st=aG C0 40 a st:=by rw[aN (p:=aG C0 40) rfl]
@[simp] theorem AeG (a:List AV) (st:StL):aG CP 81 a st=aG C0 81 a st:=by rw[aN (p:=aG C0 81) rfl]
@[simp] theorem AdD (a:List AV) (st:StL):aG CP 131 a st=aG C0 131 a st:=by rw[aN (p:=aG C0 131) rfl]
@[simp] theorem AdC (a:List AV) (st:StL):aG CP 132 a st=aG C0 132 a st:=by rw[aN (p:=aG C0 132) rfl]
@[simp] theorem AVD (a:List AV) (st:StL):aG CP 130 a st=aG C0 130 a st:=by rw[aN (p:=aG C0 130) rfl]
theorem MN (p:Pn) (hp:p.thin):aG CP 128 [.i (.agg p.cells)] []=some (.i (.agg p.cells),[]):=by
 have h:=AAW p hp;rw[aN (p:=ARR (aG C0) 128) rfl];unfold ARR;by_cases he:p.exprs=[]
 ·by_cases hk:p.kids=[]
  ·simp[pcX,pcS,hk,he,Pn.aB,Ex.aB]at h;simp[h];rw[Pn.aA];simp[hk,he,Pn.aB,Ex.aB]
  ·have hkl:p.kids.length≠0:=fun h=>hk (zW.1 h)
   simp[pcX,pcS,hk,he,aM hkl,aI hkl,Ex.aB]at h;simp[h];rw[Pn.aA];simp[hk,he,Ex.aB]
 ·have hel:p.exprs.length≠0:=fun h=>he (zW.1 h)
  by_cases hk:p.kids=[]
  ·simp[pcX,pcS,hk,he,aM hel,aI hel,Pn.aB]at h;simp[h];rw[Pn.aA];simp[hk,he,Pn.aB]
  ·have hkl:p.kids.length≠0:=fun h=>hk (zW.1 h)
   simp[pcX,pcS,hk,he,aM hel,aI hel,aM hkl,aI hkl]at h;simp[h];rw[Pn.aA]
theorem iR {ws:List Int} (hw:∀ w∈ws,0≤w∧w≤6) (hwl:ws.length<1000000) {k:Nat} (hk0:0<k) (hk:k≤ws.length) (p:Pn) (hp:p.thin):aG CP 45 [.i (.agg p.cells), .osl 0 1 0 k, .int 8] [some (.arr 1 (aH ws))]=some (.int (p.wd (ws.take k) 8),[some (.arr 1 (aH ws))]):=by
 have h:=sK (ws:=ws.take k) (fun w hm=>hw w (zH hm)) (by simp;omega) p (Pn.J3 p hp) 8 (by omega);rw[aN (p:=WR (aG C0) 45) rfl];unfold WR;simp at h;simp[OE,R3,h,hk,hk0,pF]
def bZ (e:Ex) (p:Pn):Pn:=.mk 2 0 [e] [] [p]
theorem bQ (e:Ex) (p:Pn):(bZ e p).cells=[.int 2, .int 0, .isl [e.cells], .isl [], .isl [p.cells]]:=by simp[bZ,Pn.cells,Ex.aB,aH,Pn.aB]
theorem gH (e:Ex) (p:Pn):aG C0 130 [.i (.agg e.cells), .i (.agg p.cells)] []=some (.i (.agg (bZ e p).cells),[]):=by
 rw[aD rfl Tryz.func130 rfl rfl,bQ,Ex.aA,Pn.aA];simp
theorem d9 {e:Ex} {p:Pn} (he:e.size<1000000) (hp:p.thin):(bZ e p).thin:=by
 have:=Ex.dJ e (by omega);simp[bZ,Pn.thin,Pn.kC,this,hp]
noncomputable def AJ9:FuncId→Option (List AV→StL→Option (AV×StL))
 | 129=>some (aG CP 129)
 | 130=>some (pU C0 true 130)
 | g=>AJA g
noncomputable def CQ:Ctx:={ P:=Tryz.prog,G:=GS,ownArgs:=AH8,keepRes:=keepR,eqT:=MJ,prim:=AJ9 }
@[simp] theorem AvL:CQ.P=Tryz.prog:=(rfl)
@[simp] theorem AvM (f):CQ.G f=GS f:=(rfl)
@[simp] theorem AvI (f):CQ.ownArgs f=AH8 f:=(rfl)
@[simp] theorem AvJ (f):CQ.keepRes f=keepR f:=(rfl)
@[simp] theorem AvK (f):CQ.eqT f=MJ f:=(rfl)
@[simp] theorem AvH:CQ.tree=false:=(rfl)
theorem AYP:PrimOk CQ:=by
 have hP:=bI AR3;constructor
 ·intro g args st p h;unfold dE at h
  cases hq:CQ.prim g with
  | none=>rw[hq]at h;cases h
  | some q =>
   rw[hq]at h;have hq:AJ9 g=some q:=hq;unfold AJ9 at hq;split at hq
   ·injection hq with hq;subst hq;exact hP.name _ _ _ _ (by decide) h
   ·injection hq with hq;subst hq;exact(jK dB (r:=p.1) (stl':=p.2) h).1
   ·exact VQ.name g args st p (by unfold dE;rw[show CP.prim g=some q from hq];exact h)
 ·intro g args st r st' h w m φ vs hi hr hb;unfold dE at h
  cases hq:CQ.prim g with
  | none=>rw[hq]at h;cases h
  | some q =>
   rw[hq]at h;have hq:AJ9 g=some q:=hq;unfold AJ9 at hq;split at hq
   ·injection hq with hq;subst hq;exact hP.calls _ _ _ _ _ (by decide) h w m φ vs hi hr hb
   ·injection hq with hq;subst hq;exact(jK dB h).2 w m φ vs hi hr hb
   ·exact VQ.calls g args st r st' (by unfold dE;rw[show CP.prim g=some q from hq];exact h) w m φ vs hi hr hb
theorem AR2:SoundOk CQ:=mI (C:=CQ) ft nt eqS mo AYP
noncomputable def AEY:FuncId→Option (List AV→StL→Option (AV×StL))
 | 1000000007=>none
 | 38=>none
 | 80=>none
 | 33=>none
 | 75=>none
 | 129=>some (pU CQ true 129)
 | 130=>some (pU C0 true 130)
 | 45=>some (AFF (aG C0) 45)
 | g=>AJA g
def AOT (g:FuncId):Bool:=keepR g || decide (g=80)
noncomputable def CR:Ctx:={ P:=Tryz.prog,G:=GS,ownArgs:=AH8,keepRes:=AOT,eqT:=MJ,prim:=AEY }
@[simp] theorem AvF:CR.P=Tryz.prog:=(rfl)
@[simp] theorem AvG (f):CR.G f=GS f:=(rfl)
@[simp] theorem AvC (f):CR.ownArgs f=AH8 f:=(rfl)
@[simp] theorem AvD (f):CR.keepRes f=(keepR f || decide (f=80)):=(rfl)
@[simp] theorem AvE (f):CR.eqT f=MJ f:=(rfl)
@[simp] theorem AvB:CR.tree=false:=(rfl)
theorem AJ8:PrimOk CR:=by
 constructor
 ·intro g args st p h;unfold dE at h
  cases hq:CR.prim g with
  | none=>rw[hq]at h;cases h
  | some q =>
   rw[hq]at h;have hq:AEY g=some q:=hq;unfold AEY at hq;split at hq
   all_goals first
    | (cases hq;done)
    | (injection hq with hq;subst hq;exact(jK AR2 (r:=p.1) (stl':=p.2) h).1)
    | (injection hq with hq;subst hq;exact(jK dB (r:=p.1) (stl':=p.2) h).1)
    | (injection hq with hq;subst hq;exact(L8 (bI dB) (r:=p.1) (stl':=p.2) h (by decide)).1)
    | exact VQ.name g args st p (by unfold dE;rw[show CP.prim g=some q from hq];exact h)
 ·intro g args st r st' h w m φ vs hi hr hb;unfold dE at h
  cases hq:CR.prim g with
  | none=>rw[hq]at h;cases h
  | some q =>
   rw[hq]at h;have hq:AEY g=some q:=hq;unfold AEY at hq;split at hq
   all_goals first
    | (cases hq;done)
    | (injection hq with hq;subst hq;exact(jK AR2 h).2 w m φ vs hi hr hb)
    | (injection hq with hq;subst hq;exact(jK dB h).2 w m φ vs hi hr hb)
    | (injection hq with hq;subst hq;exact(L8 (bI dB) h (by decide)).2 w m φ vs hi hr hb)
    | exact VQ.calls g args st r st' (by unfold dE;rw[show CP.prim g=some q from hq];exact h) w m φ vs hi hr hb
theorem AI3:SoundOk CR:=mI (C:=CR) ft nt eqS mo AJ8
end Go.Proofs.YtnmimmaahhlgeaaGreat.P
namespace Go.Av
def Val.cmp (a b:Val):Int:=if a.null=true then(if b.null=true then 0 else -1)else if b.null=true then 1 else if a.n<b.n then -1 else if b.n<a.n then 1 else 0
theorem Val.APM (a:Val):Val.cmp a a=0:=by unfold Val.cmp;split<;>simp
theorem Val.AVG (a b:Val):Val.cmp b a=- Val.cmp a b:=by
 unfold Val.cmp
 cases a.null<;>cases b.null<;>simp
 split<;>split<;>(try split)<;>omega
theorem MR (a b:Val):(Val.cmp a b=-1∧((a.null=true∧b.null=false)∨(a.null=false∧b.null=false∧a.n<b.n)))∨(Val.cmp a b=0∧((a.null=true∧b.null=true)∨(a.null=false∧b.null=false∧a.n=b.n)))∨(Val.cmp a b=1∧((a.null=false∧b.null=true)∨(a.null=false∧b.null=false∧b.n<a.n))):=by
 unfold Val.cmp;by_cases h1:a.n<b.n<;>by_cases h2:b.n<a.n<;>cases a.null<;>cases b.null<;>simp[h1,h2]<;>omega
theorem Val.ALJ {a b c:Val} (h1:Val.cmp a b≤0) (h2:Val.cmp b c≤0):Val.cmp a c≤0∧(Val.cmp a c=0→Val.cmp a b=0∧Val.cmp b c=0):=by
 rcases MR a b with ⟨e1,q1⟩|⟨e1,q1⟩|⟨e1,q1⟩<;>rcases MR b c with ⟨e2,q2⟩|⟨e2,q2⟩|⟨e2,q2⟩<;>rcases MR a c with ⟨e3,q3⟩|⟨e3,q3⟩|⟨e3,q3⟩<;>(try omega) <;>
  (rcases q1 with ⟨x1,x2⟩|⟨x1,x2,x3⟩<;>rcases q2 with ⟨y1,y2⟩|⟨y1,y2,y3⟩<;>rcases q3 with ⟨z1,z2⟩|⟨z1,z2,z3⟩<;>simp_all<;>omega)
theorem Val.APL {a b:Val} (ha:a.ok=true) (hb:b.ok=true) (h:Val.cmp a b=0):a=b:=by
 obtain⟨x,n⟩:=a;obtain⟨y,k⟩:=b;unfold Val.cmp at h
 cases x<;>cases y<;>simp[Val.ok]at *<;>(try omega)
 repeat' split at h
 all_goals omega
def bL:List Val→List Val→Int
 | [],[]=>0
 | [],_::_=>-1
 | _::_,[]=>1
 | a::l,b::m=>if Val.cmp a b=0 then bL l m else Val.cmp a b
theorem jG:∀ l:List Val,bL l l=0
 | []=>rfl
 | a::l=>by simp[bL,Val.APM,jG l]
theorem iT:∀ a b:List Val,bL b a=- bL a b
 | [],[]=>rfl
 | [],_::_=>rfl
 | _::_,[]=>rfl
 | a::l,b::m=>by
  simp only[bL,Val.AVG a b,iT l m];split<;>split<;>omega
theorem qC:∀ {a b c:List Val},bL a b≤0→bL b c≤0→bL a c≤0
 | [],_,[],_,_=>by simp[bL]
 | [],_,_::_,_,_=>by simp[bL]
 | _::_,[],_,h,_=>by simp[bL]at h
 | _::_,_::_,[],_,h=>by simp[bL]at h
 | a::l,b::m,c::n,h1,h2=>by
  simp only[bL]at *
  have k1:Val.cmp a b≤0:=by split at h1<;>omega
  have k2:Val.cmp b c≤0:=by split at h2<;>omega
  obtain⟨k3,k4⟩:=Val.ALJ k1 k2;split
  ·rename_i h0;obtain⟨k5,k6⟩:=k4 h0;rw[if_pos k5]at h1;rw[if_pos k6]at h2;exact qC h1 h2
  ·exact k3
theorem kT:∀ {a b:List Val},a.all Val.ok=true→b.all Val.ok=true→bL a b=0→a=b
 | [],[],_,_,_=>rfl
 | [],_::_,_,_,h=>by simp[bL]at h
 | _::_,[],_,_,h=>by simp[bL]at h
 | a::l,b::m,h1,h2,h=>by
  simp only[zF9,zU]at h1 h2;simp only[bL]at h;split at h
  ·rename_i h0;rw[Val.APL h1.1 h2.1 h0,kT h1.2 h2.2 h]
  ·rename_i h0;exact absurd h h0
def fG (a b:List Val):Bool:=decide (bL a b≤0)
theorem ZK (a b:List Val):fG a b=true∨fG b a=true:=by
 unfold fG;have:=iT a b;simp;omega
theorem o9 (a:List Val):fG a a=true:=by simp[fG,jG]
theorem oM {a b c:List Val} (h1:fG a b=true) (h2:fG b c=true):fG a c=true:=by
 unfold fG at *
 simp only[zR]at *
 exact qC h1 h2
theorem EY {a b:List Val} (ha:a.all Val.ok=true) (hb:b.all Val.ok=true) (h1:fG a b=true) (h2:fG b a=true):a=b:=by
 unfold fG at *
 simp only[zR]at *
 have:=iT a b;exact kT ha hb (by omega)
theorem AIG {a b:List Val} (h:fG a b=false):fG b a=true:=(ZK a b).resolve_left (by simp[h])
abbrev Srt (l:List (List Val)):Prop:=l.Pairwise fun a b=>fG a b=true
abbrev oks (l:List (List Val)):Prop:=∀ r∈l,r.all Val.ok=true
def AHB (l:List (List Val)) (r:List Val):List (List Val):=l.takeWhile (fun x=>fG x r)++r::l.dropWhile (fun x=>fG x r)
theorem AKK (l:List (List Val)) (r:List Val):(AHB l r).Perm (r::l):=by
 unfold AHB;have:=List.takeWhile_append_dropWhile (p:=fun x=>fG x r) (l:=l);refine xB.trans ?_;rw[this]
theorem rP {α:Type} {p:α→Bool}:∀ {l:List α} {x:α},x∈l.takeWhile p→p x=true∧x∈l
 | [],x,h=>by simp at h
 | a::l,x,h=>by
  rw[List.takeWhile_cons]at h;split at h
  ·rename_i ha
   rcases zP.1 h with rfl|h
   ·exact⟨ha,by simp⟩
   ·obtain⟨h1,h2⟩:=rP h;exact⟨h1,zA4 _ h2⟩
  ·simp at h
theorem R6 {α:Type} (p:α→Bool) (l:List α):(l.takeWhile p).Sublist l:=List.takeWhile_sublist p
theorem vV {r:List Val}:∀ {l:List (List Val)},Srt l→∀ x∈l.dropWhile (fun x=>fG x r),fG r x=true
 | [],_,x,h=>by simp at h
 | a::l,hs,x,h=>by
  rw[List.dropWhile_cons]at h;have hs:=xX.1 hs;split at h
  ·exact vV hs.2 x h
  ·rename_i ha;have hra:=AIG (Bool.eq_false_iff.2 ha)
   rcases zP.1 h with rfl|h
   ·exact hra
   ·exact oM hra (hs.1 x h)
theorem AOZ {l:List (List Val)} {r:List Val} (h:Srt l):Srt (AHB l r):=by
 unfold AHB;rw[Srt,yB,xX];refine⟨h.sublist (R6 _ _),⟨fun x hx=>vV h x hx,h.sublist (List.dropWhile_sublist _)⟩,fun a ha b hb=>?_⟩;have h1:=(rP ha).1
 rcases zP.1 hb with rfl|hb
 ·exact h1
 ·exact oM h1 (vV h b hb)
def dC (l:List (List Val)):List (List Val):=l.foldl AHB []
theorem FL:∀ (l acc:List (List Val)),Srt acc→Srt (l.foldl AHB acc)∧(l.foldl AHB acc).Perm (l++acc)
 | [],acc,h=>⟨h, .refl _⟩
 | r::l,acc,h=>by
  obtain⟨h1,h2⟩:=FL l (AHB acc r) (AOZ h);refine⟨h1,h2.trans ?_⟩;refine(xV l (AKK acc r)).trans ?_;exact xB
theorem rG (l:List (List Val)):Srt (dC l):=(FL l [] .nil).1
theorem jO (l:List (List Val)):(dC l).Perm l:=by have:=(FL l [] .nil).2;rwa [y9]at this
theorem aY (l:List (List Val)):(dC l).length=l.length:=(jO l).length_eq
theorem ABP:∀ {l m:List (List Val)},l.Perm m→Srt l→Srt m→oks l→l=m
 | [],m,hp,_,_,_=>by simpa using hp.symm.eq_nil.symm
 | a::l,[],hp,_,_,_=>by simpa using hp.eq_nil
 | a::l,b::m,hp,h1,h2,ho=>by
  have h1':=xX.1 h1;have h2':=xX.1 h2;have hb:b∈a::l:=hp.mem_iff.2 (by simp);have ha:a∈b::m:=hp.mem_iff.1 (by simp)
  have k1:fG a b=true:=by
   rcases zP.1 hb with rfl|hb
   ·exact o9 _
   ·exact h1'.1 b hb
  have k2:fG b a=true:=by
   rcases zP.1 ha with rfl|ha
   ·exact o9 _
   ·exact h2'.1 a ha
  have e:=EY (ho a (by simp)) (ho b hb) k1 k2;subst e;rw[ABP (List.Perm.cons_inv hp) h1'.2 h2'.2 fun r hr=>ho r (zA4 _ hr)]
theorem DU {l m:List (List Val)} (hp:l.Perm m) (h:oks l):oks m:=fun r hr=>h r (hp.mem_iff.2 hr)
theorem RB {l m:List (List Val)} (hp:m.Perm l) (hs:Srt m) (ho:oks l):m=dC l :=
 ABP (hp.trans (jO l).symm) hs (rG l) (DU hp.symm ho)
theorem RA {l:List (List Val)} (hs:Srt l) (ho:oks l):dC l=l:=(RB (.refl l) hs ho).symm
theorem JY {l m:List (List Val)} (hp:l.Perm m) (ho:oks l):dC l=dC m :=
 RB ((jO l).trans hp) (rG l) (DU hp ho)
theorem AI4 {l:List (List Val)} (ho:oks l):oks (dC l):=DU (jO l).symm ho
theorem iG {l:List (List Val)} {r:List Val}:r∈dC l↔r∈l:=(jO l).mem_iff
def aJ (l:List (List Val)):List (List IV):=l.map fun r=>[.isl (aO r)]
@[simp] theorem qB (l:List (List Val)):(aJ l).length=l.length:=by simp[aJ]
theorem aR:aJ []=[]:=rfl
theorem bB (r:List Val) (l:List (List Val)):aJ (r::l)=[.isl (aO r)]::aJ l:=rfl
theorem bG:∀ {l:List (List Val)} {i:Nat} {r:List Val},l[i]?=some r→fO (aJ l) i=some [.isl (aO r)]
 | [],_,_,h=>by simp at h
 | a::l,0,r,h=>by simp at h;subst h;simp[aJ,fO]
 | a::l,i+1,r,h=>by simp only[aJ,yR,fO];exact bG (l:=l) (by simpa using h)
@[simp] theorem AR5 (l:List (List Val)):iB 1 (aJ l)=true:=by simp[aJ,iB]
theorem bC (a b:List (List Val)):aJ (a++b)=aJ a++aJ b:=by simp[aJ]
@[simp] theorem AWO (n:Nat) (l:List (List Val)):(aJ l).take n=aJ (l.take n):=by simp[aJ,zG0]
@[simp] theorem AWP (n:Nat) (l:List (List Val)):(aJ l).drop n=aJ (l.drop n):=by simp[aJ,List.map_drop]
structure Tbl where
 w:Int
 rows:List (List Val)
def Tbl.cells (t:Tbl):List IV:=[.int t.w, .isl (aJ t.rows)]
def gY (l:List Tbl):List (List IV):=l.map Tbl.cells
@[simp] theorem AQO (l:List Tbl):(gY l).length=l.length:=by simp[gY]
theorem mP:∀ {l:List Tbl} {i:Nat} {t:Tbl},l[i]?=some t→fO (gY l) i=some [.int t.w, .isl (aJ t.rows)]
 | [],_,_,h=>by simp at h
 | a::l,0,r,h=>by simp at h;subst h;simp[gY,fO,Tbl.cells]
 | a::l,i+1,r,h=>by simp only[gY,yR,fO];exact mP (l:=l) (by simpa using h)
theorem UI (a b:List Tbl):gY (a++b)=gY a++gY b:=by simp[gY]
def tab (w:Int) (rows:List (List Val)):Tbl:=if 400<rows.length then⟨w,[]⟩else⟨w,dC rows⟩
def chainB:List (List Val)→Bool
 | a::b::l=>fG a b && chainB (b::l)
 | _=>true
theorem FO:∀ {l:List (List Val)},chainB l=true↔Srt l
 | []=>by simp[chainB]
 | [a]=>by simp[chainB]
 | a::b::l=>by
  rw[chainB,zU,FO,Srt,Srt,xX (a:=a)];constructor
  ·rintro⟨h1,h2⟩;refine⟨fun x hx=>?_,h2⟩
   rcases zP.1 hx with rfl|hx
   ·exact h1
   ·exact oM h1 ((xX.1 h2).1 x hx)
  ·rintro⟨h1,h2⟩;exact⟨h1 b (by simp),h2⟩
def rowOk (w:Int) (r:List Val):Bool:=decide ((r.length:Int)=w) && r.all Val.ok
def Tbl.ok (t:Tbl):Bool:=bH t.w && (decide (t.rows.length≤400) && (t.rows.all (rowOk t.w) && chainB t.rows))
def isT (e:Ex) (r:List Val):Bool:=decide ((e.ev r).tr=2)
def gM (n:Int):List Val:=List.replicate n.toNat ⟨true,0⟩
def dY (e:Ex) (rs:List (List Val)) (r:List Val):List (List Val):=(rs.map (r ++ ·)).filter (isT e)
def joinL (e:Ex) (outer:Bool) (w:Int) (rs:List (List Val)) (r:List Val):List (List Val) :=
 if(outer && (dY e rs r).isEmpty)=true then [r++gM w]else dY e rs r
def dX (e:Ex) (outer:Bool) (a b:Tbl):List (List Val):=a.rows.flatMap (joinL e outer b.w b.rows)
def dd:List Val→List (List Val)→List (List Val)
 | _,[]=>[]
 | p,a::l=>if bL p a=0 then dd a l else a::dd a l
def eX:List (List Val)→List (List Val)
 | []=>[]
 | a::l=>a::dd a l
def aU (cs:List Int) (r:List Val):List Val:=cs.map fun c=>(r[c.toNat]?).getD Val.zero
def bump (key:List Val):List (List Val×Nat)→List (List Val×Nat)
 | []=>[(key,1)]
 | g::l=>if bL g.1 key=0 then(g.1,g.2+1)::l else g::bump key l
def groups (cs:List Int) (rows:List (List Val)):List (List Val×Nat):=rows.foldl (fun acc r=>bump (aU cs r) acc) []
def fC (g:List Val×Nat):List Val:=g.1++[⟨false,(g.2:Int)⟩]
def fP (cs:List Int) (rows:List (List Val)):List (List Val):=(groups cs rows).map fC
def ABH:Tbl:=⟨0,[]⟩
def exO (es:List Ex):Ex:=(es[0]?).getD (.mk 0 0 Val.zero [])
def evK (db:List Tbl) (k t:Int) (es:List Ex) (cs:List Int) (a b:Tbl):Tbl :=
 if k=1 then tab ((db[t.toNat]?).getD ABH).w ((db[t.toNat]?).getD ABH).rows
 else if k=2 then tab a.w (a.rows.filter (isT (exO es)))
 else if k=3 then tab es.length (a.rows.map fun r=>es.map (Ex.ev r))
 else if k=4∨k=5 then tab (a.w+b.w) (dX (exO es) (decide (k=5)) a b)
 else if k=6 then tab a.w (a.rows++b.rows)
 else if k=7 then tab a.w (eX a.rows)
 else tab ((cs.length:Int)+1) (fP cs a.rows)
mutual
def Pn.evP (db:List Tbl):Pn→Tbl
 | .mk k t es cs ks=>evK db k t es cs (((Pn.AX3 db ks)[0]?).getD ABH) (((Pn.AX3 db ks)[1]?).getD ABH)
def Pn.AX3 (db:List Tbl):List Pn→List Tbl
 | []=>[]
 | p::ps=>Pn.evP db p::Pn.AX3 db ps
end
theorem Pn.ACT (db:List Tbl):∀ l:List Pn,Pn.AX3 db l=l.map (Pn.evP db)
 | []=>by simp[Pn.AX3]
 | p::l=>by simp[Pn.AX3,Pn.ACT db l]
theorem Pn.AZ (db:List Tbl) (p:Pn):p.evP db=evK db p.kind p.table p.exprs p.cols ((p.kids[0]?.map (Pn.evP db)).getD ABH) ((p.kids[1]?.map (Pn.evP db)).getD ABH):=by
 cases p;simp[Pn.evP,Pn.ACT,Pn.kind,Pn.table,Pn.exprs,Pn.cols,Pn.kids]
theorem wP (db:List Tbl) (t:Int):(Pn.scan t).evP db=tab ((db[t.toNat]?).getD ABH).w ((db[t.toNat]?).getD ABH).rows:=by
 rw[Pn.AZ];rfl
theorem mJ (db:List Tbl) (e:Ex) (a:Pn):(filt e a).evP db=tab (a.evP db).w ((a.evP db).rows.filter (isT e)):=by
 rw[Pn.AZ];rfl
theorem jT (db:List Tbl) (es:List Ex) (a:Pn):(proj es a).evP db=tab es.length ((a.evP db).rows.map fun r=>es.map (Ex.ev r)):=by
 rw[Pn.AZ];rfl
theorem jU (db:List Tbl) {k:Int} (hk:k=4∨k=5) (e:Ex) (a b:Pn):(aX k e a b).evP db=tab ((a.evP db).w+(b.evP db).w) (dX e (decide (k=5)) (a.evP db) (b.evP db)):=by
 rw[Pn.AZ];rcases hk with rfl|rfl<;>rfl
theorem mZ (db:List Tbl) (a b:Pn):(bU a b).evP db=tab (a.evP db).w ((a.evP db).rows++(b.evP db).rows):=by
 rw[Pn.AZ];rfl
theorem qH (db:List Tbl) (a:Pn):(Pn.mk 7 0 [] [] [a]).evP db=tab (a.evP db).w (eX (a.evP db).rows):=by
 rw[Pn.AZ];rfl
theorem oV (db:List Tbl) (cs:List Int) (a:Pn):(Pn.mk 8 0 [] cs [a]).evP db=tab ((cs.length:Int)+1) (fP cs (a.evP db).rows):=by
 rw[Pn.AZ];rfl
mutual
def Pn.cost (db:List Tbl):Pn→Nat
 | .mk k t es cs ks=>Pn.uD db ks+((Pn.mk k t es cs ks).evP db).rows.length
def Pn.uD (db:List Tbl):List Pn→Nat
 | []=>0
 | p::ps=>Pn.cost db p+Pn.uD db ps
end
theorem Pn.oZ (db:List Tbl) (p:Pn):p.cost db=Pn.uD db p.kids+(p.evP db).rows.length:=by
 cases p;simp[Pn.cost,Pn.kids]
theorem nQ (w:Int) (rows:List (List Val)):(tab w rows).w=w:=by unfold tab;split<;>rfl
theorem eB {w:Int} {rows:List (List Val)} (h:rows.length≤400):(tab w rows).rows=dC rows:=by unfold tab;rw[if_neg (by omega)]
theorem sI (w:Int) (rows:List (List Val)):(tab w rows).rows.length≤400∧(tab w rows).rows.length≤rows.length:=by
 unfold tab;split
 ·simp
 ·simp only[aY];omega
theorem ASW {w:Int} {rows:List (List Val)} {r:List Val} (h:r∈(tab w rows).rows):r∈rows:=by
 unfold tab at h;split at h
 ·simp at h
 ·exact iG.1 h
theorem Tbl.dI (t:Tbl):t.ok=true↔bH t.w=true∧t.rows.length≤400∧(∀ r∈t.rows,rowOk t.w r=true)∧Srt t.rows:=by
 unfold Tbl.ok;simp only[zU,zR,zS,FO]
theorem OP {w:Int} {rows:List (List Val)} (hw:bH w=true) (h:∀ r∈rows,rowOk w r=true):(tab w rows).ok=true:=by
 rw[Tbl.dI,nQ];refine⟨hw,(sI _ _).1,fun r hr=>h r (ASW hr),?_⟩;unfold tab;split
 ·exact .nil
 ·exact rG _
theorem iL {w:Int} {r:List Val} (h:rowOk w r=true):r.all Val.ok=true:=by unfold rowOk at h;simp only[zU]at h;exact h.2
theorem gU {w:Int} {r:List Val} (h:rowOk w r=true):(r.length:Int)=w:=by unfold rowOk at h;simp only[zU,zR]at h;exact h.1
theorem Tbl.WG {t:Tbl} (h:t.ok=true):oks t.rows:=fun r hr=>iL ((Tbl.dI t).1 h |>.2.2.1 r hr)
theorem AXT {t:Tbl} (h:t.ok=true):tab t.w t.rows=t:=by
 obtain⟨h1,h2,h3,h4⟩:=(Tbl.dI t).1 h;unfold tab;rw[if_neg (by omega),RA h4 (Tbl.WG h)]
theorem JM {w:Int} {l m:List (List Val)} (hp:l.Perm m) (ho:oks l):tab w l=tab w m:=by
 unfold tab;rw[hp.length_eq,JY hp ho]
theorem AL1 {e:Ex} {w:Int} {r:List Val} (hr:rowOk w r=true) (he:e.ok w=true):(e.ev r).ok=true:=by
 have hl:=gU hr;exact AG3 r hl.symm (iL hr) e (by simp[Ex.ok,Ex.NJ]at he;exact he.2.1)
theorem AL8:∀ (p:List Val) (l:List (List Val)),(dd p l).Sublist l
 | _,[]=>.slnil
 | p,a::l=>by
  simp only[dd];split
  ·exact(AL8 a l).cons a
  ·exact(AL8 a l).cons_cons a
theorem kJ:∀ l:List (List Val),(eX l).Sublist l
 | []=>.slnil
 | a::l=>(AL8 a l).cons_cons a
theorem ADC (key:List Val):∀ l:List (List Val×Nat),(bump key l).length≤l.length+1
 | []=>by simp[bump]
 | g::l=>by simp only[bump];split<;>simp[ADC key l]
theorem vZ (key:List Val) (q:List Val→Prop) (hk:q key):∀ l:List (List Val×Nat),(∀ g∈l,q g.1)→∀ g∈bump key l,q g.1
 | [],_,g,h=>by simp[bump]at h;subst h;exact hk
 | a::l,hl,g,h=>by
  simp only[bump]at h;split at h
  ·rcases zP.1 h with rfl|h
   ·exact hl a (by simp)
   ·exact hl g (by simp[h])
  ·rcases zP.1 h with rfl|h
   ·exact hl g (by simp)
   ·exact vZ key q hk l (fun x hx=>hl x (by simp[hx])) g h
theorem AD9 (key:List Val):∀ l:List (List Val×Nat),((bump key l).map (·.2)).sum=(l.map (·.2)).sum+1
 | []=>by simp[bump]
 | a::l=>by
  simp only[bump];split
  ·simp;omega
  ·simp only[yR,List.sum_cons,AD9 key l];omega
theorem Q8 (cs:List Int) (q:List Val→Prop):∀ (rows:List (List Val)) (acc:List (List Val×Nat)),(∀ r∈rows,q (aU cs r))→(∀ g∈acc,q g.1) →
 (∀ g∈rows.foldl (fun acc r=>bump (aU cs r) acc) acc,q g.1)∧(rows.foldl (fun acc r=>bump (aU cs r) acc) acc).length≤rows.length+acc.length∧((rows.foldl (fun acc r=>bump (aU cs r) acc) acc).map (·.2)).sum=rows.length+(acc.map (·.2)).sum
 | [],acc,_,h=>⟨h,by simp,by simp⟩
 | r::rows,acc,hr,h=>by
  obtain⟨h1,h2,h3⟩:=Q8 cs q rows (bump (aU cs r) acc) (fun x hx=>hr x (by simp[hx])) (vZ _ q (hr r (by simp)) acc h);have:=ADC (aU cs r) acc;have:=AD9 (aU cs r) acc;refine⟨h1,by simp only[zA1,zI];omega,by simp only[zA1,zI];omega⟩
theorem kY (cs:List Int) (q:List Val→Prop) (rows:List (List Val)) (h:∀ r∈rows,q (aU cs r)):(∀ g∈groups cs rows,q g.1)∧(groups cs rows).length≤rows.length∧((groups cs rows).map (·.2)).sum=rows.length:=by
 have:=Q8 cs q rows [] h (by simp);simpa [groups]using this
theorem AFC {l:List Nat} {n:Nat} (h:n∈l):n≤l.sum:=by
 induction l with
 | nil=>simp at h
 | cons a l ih=>rcases zP.1 h with rfl|h<;>simp<;>(try have:=ih h)<;>omega
theorem Q4 (cs:List Int) {rows:List (List Val)} {g:List Val×Nat} (h:g∈groups cs rows):g.2≤rows.length:=by
 have h1:=(kY cs (fun _=>True) rows (fun _ _=>trivial)).2.2;have h2:g.2∈(groups cs rows).map (·.2):=zG.2 ⟨g,h,rfl⟩;have:=AFC h2;omega
theorem wJ {cs:List Int} {w:Int} {r:List Val} (hr:rowOk w r=true) (hc:∀ c∈cs,0≤c∧c<w):rowOk cs.length (aU cs r)=true:=by
 unfold rowOk;simp only[zU,zR,aU,xZ,zS,zG,true_and];rintro v ⟨c,hc1,rfl⟩;have hl:=gU hr;obtain⟨h0,h1⟩:=hc c hc1;have hi:c.toNat<r.length:=by omega
 rw[zX hi];exact zS.1 (iL hr) _ (xQ hi)
theorem QM {w:Int}:∀ {cs:List Int} (m:Int),((cs.zip (m::cs)).all fun x=>decide (x.2<x.1∧x.1<w))=true→(∀ c∈cs,m<c∧c<w)
 | [],m,_,c,hc=>by simp at hc
 | a::cs,m,h,c,hc=>by
  simp only[List.zip_cons_cons,zF9,zU,zR]at h
  rcases zP.1 hc with rfl|hc
  ·exact h.1
  ·have:=QM (w:=w) a h.2 c hc;omega
theorem wU {w:Int} {cs:List Int} (h:rT w cs=true):∀ c∈cs,0≤c∧c<w:=by
 intro c hc;have:=QM (w:=w) (-1) h c hc;omega
theorem uT {v w:Int} {r s:List Val} (h1:rowOk v r=true) (h2:rowOk w s=true):rowOk (v+w) (r++s)=true:=by
 unfold rowOk at *
 simp only[zU,zR,zQ,zE7]at *
 refine⟨by omega,h1.2,h2.2⟩
theorem AJL {w:Int} (h:0≤w):rowOk w (gM w)=true:=by
 unfold rowOk gM;simp only[zU,zR,zB3,zS];refine⟨by omega,fun v hv=>?_⟩;rw[(List.mem_replicate.1 hv).2];rfl
theorem X6 {e:Ex} {rs:List (List Val)} {r x:List Val} (h:x∈dY e rs r):∃ s∈rs,x=r++s∧isT e x=true:=by
 unfold dY at h;obtain⟨h1,h2⟩:=zA5.1 h;obtain⟨s,hs,rfl⟩:=zG.1 h1;exact⟨s,hs,rfl,h2⟩
theorem SF {e:Ex} {o:Bool} {a b:Tbl} (ha:a.ok=true) (hb:b.ok=true):∀ r∈dX e o a b,rowOk (a.w+b.w) r=true:=by
 intro r hr;obtain⟨x,hx,hr⟩:=zG4.1 hr;have h1:=((Tbl.dI a).1 ha).2.2.1 x hx;unfold joinL at hr;split at hr
 ·simp at hr;subst hr;have:0≤b.w:=by have:=((Tbl.dI b).1 hb).1;unfold bH at this;simp at this;omega
  exact uT h1 (AJL this)
 ·obtain⟨s,hs,rfl,_⟩:=X6 hr;exact uT h1 (((Tbl.dI b).1 hb).2.2.1 s hs)
theorem bW (n:Int):bH n=true↔1≤n∧n≤6:=by unfold bH;simp
theorem eD {ws:List Int} {db:List Tbl} (hws:ws=db.map Tbl.w) (hdb:∀ t∈db,t.ok=true):∀ (p:Pn) (lv:Nat),p.wd ws lv≠0→(p.evP db).ok=true∧(p.evP db).w=p.wd ws lv:=by
 intro p
 induction p using Pn.ind with
 | h k t es cs ks ih =>
  intro lv h;have hs:=kM h;generalize hp:Pn.mk k t es cs ks=p at hs h;have hk:ks=p.kids:=by rw[← hp];rfl
  subst hk
  cases hs with
  | scan t W h0 h1 hW =>
   rw[hws,zJ]at h1;obtain⟨s,hs,rfl⟩:=xE.1 h1;have hok:=hdb s (zV hs);rw[wP,hs];simp only[zC];rw[AXT hok];refine⟨hok,?_⟩;rw[Pn.uJ];simp[Pn.scan,Pn.headOk,kF,fH,h0,hws,hs]
  | filt m e a h1 ha he =>
   subst h1;obtain⟨k1,k2⟩:=ih a (by simp[filt]) m ha;have hw:(filt e a).wd ws (m+1)=a.wd ws m:=by rw[uI,if_pos ⟨ha,he⟩]
   rw[mJ,hw,nQ];obtain⟨g1,g2,g3,g4⟩:=(Tbl.dI _).1 k1;exact⟨OP g1 fun r hr=>g3 r (zA5.1 hr).1,k2⟩
  | proj m es a h1 ha hl he =>
   subst h1;obtain⟨k1,k2⟩:=ih a (by simp[proj]) m ha;have hw:(proj es a).wd ws (m+1)=es.length:=by rw[BD,if_pos ⟨ha,hl,zS.2 he⟩]
   rw[jT,hw,nQ];obtain⟨g1,g2,g3,g4⟩:=(Tbl.dI _).1 k1;refine⟨OP hl fun r hr=>?_,rfl⟩;obtain⟨x,hx,rfl⟩:=zG.1 hr;have:=g3 x hx;unfold rowOk;simp only[xZ,zU,zR,true_and,zS,zG];rintro v ⟨e,hem,rfl⟩;exact AL1 this (by rw[k2];exact he e hem)
  | pair m k e a b h1 hk ha hb hl he =>
   subst h1;obtain⟨k1,k2⟩:=ih a (by simp[aX]) m ha;obtain⟨k3,k4⟩:=ih b (by simp[aX]) m hb;have hw:(aX k e a b).wd ws (m+1)=a.wd ws m+b.wd ws m:=by rw[qN hk,if_pos ⟨ha,hb,hl,he⟩]
   rw[jU db hk,hw,nQ,k2,k4];have g1:=(bW _).1 ((Tbl.dI _).1 k1).1;have g2:=(bW _).1 ((Tbl.dI _).1 k3).1;refine⟨OP ((bW _).2 (by omega)) fun r hr=>?_,rfl⟩;have:=SF k1 k3 r hr
   rwa [k2,k4]at this
  | union m a b h1 ha hb =>
   subst h1;obtain⟨k1,k2⟩:=ih a (by simp[bU]) m ha;obtain⟨k3,k4⟩:=ih b (by simp[bU]) m (by rw[hb];exact ha);have hw:(bU a b).wd ws (m+1)=a.wd ws m:=by rw[QZ,if_pos ⟨ha,hb.symm⟩]
   rw[mZ,hw,nQ];obtain⟨g1,g2,g3,g4⟩:=(Tbl.dI _).1 k1;obtain⟨e1,e2,e3,e4⟩:=(Tbl.dI _).1 k3;refine⟨OP g1 fun r hr=>?_,k2⟩
   rcases zT.1 hr with hr|hr
   ·exact g3 r hr
   ·have:=e3 r hr;rwa [k4,hb,← k2]at this
  | dist m a h1 ha =>
   subst h1;obtain⟨k1,k2⟩:=ih a (by simp) m ha;have hw:(Pn.mk 7 0 [] [] [a]).wd ws (m+1)=a.wd ws m:=by rw[G5 (by omega),if_pos ⟨by simp[Pn.headOk,kF,fH],ha⟩];simp[dK]
   rw[qH,hw,nQ];obtain⟨g1,g2,g3,g4⟩:=(Tbl.dI _).1 k1;exact⟨OP g1 fun r hr=>g3 r ((kJ _).subset hr),k2⟩
  | group m cs a h1 ha hc ho =>
   subst h1;obtain⟨k1,k2⟩:=ih a (by simp) m ha;have hw:(Pn.mk 8 0 [] cs [a]).wd ws (m+1)=(cs.length:Int)+1:=by rw[G5 (by omega),if_pos ⟨by simp[Pn.headOk,kF,fH],ha⟩];simp[dK,hc,ho]
   rw[oV,hw,nQ];obtain⟨g1,g2,g3,g4⟩:=(Tbl.dI _).1 k1;refine⟨OP ((bW _).2 (by omega)) fun r hr=>?_,rfl⟩;obtain⟨g,hg,rfl⟩:=zG.1 hr;have h2:=(kY cs (fun r=>rowOk cs.length r=true) (a.evP db).rows (fun r hr=>wJ (g3 r hr) (by rw[k2];exact wU ho))).1 g hg;have h3:=Q4 cs hg;refine uT h2 ?_;unfold rowOk;simp[Val.ok];omega
theorem DT {α:Type} [DecidableEq α] {l m:List α} (hl:l.Nodup) (hm:m.Nodup) (h:∀ a,a∈l↔a∈m):l.Perm m:=by
 rw[List.perm_iff_count];intro a;by_cases ha:a∈l
 ·rw[hl.count,hm.count,if_pos ha,if_pos ((h a).1 ha)]
 ·rw[hl.count,hm.count,if_neg ha,if_neg (fun h'=>ha ((h a).2 h'))]
theorem ADZ {t:Tbl} (h:t.ok=true) (f:List Val→Bool):tab t.w (t.rows.filter f)=⟨t.w,t.rows.filter f⟩:=by
 obtain⟨h1,h2,h3,h4⟩:=(Tbl.dI t).1 h;have hl:=yG f t.rows;unfold tab;rw[if_neg (by omega),RA (h4.sublist List.filter_sublist) fun r hr=>iL (h3 r (zA5.1 hr).1)]
theorem AL3 {ws:List Int} {db:List Tbl} (hws:ws=db.map Tbl.w) (hdb:∀ t∈db,t.ok=true) {p:Pn} {lv:Nat} (hp:p.wd ws lv≠0) (e:Ex):(filt e p).evP db=⟨(p.evP db).w,(p.evP db).rows.filter (isT e)⟩:=by
 rw[mJ,ADZ (eD hws hdb p lv hp).1]
theorem ARU:∀ (p:List Val) (l:List (List Val)),Srt (p::l)→oks (p::l)→(p::dd p l).Nodup∧∀ x,x∈p::dd p l↔x∈p::l
 | p,[],_,_=>by simp[dd]
 | p,a::l,hs,ho=>by
  have hs':=xX.1 hs;have hs2:=xX.1 hs'.2;obtain⟨h1,h2⟩:=ARU a l hs'.2 fun r hr=>ho r (zA4 _ hr)
  simp only[dd];split
  ·rename_i h0;have:=kT (ho p (by simp)) (ho a (by simp)) h0;subst this;refine⟨h1,fun x=>?_⟩;rw[h2];simp
  ·rename_i h0;refine⟨List.nodup_cons.2 ⟨fun hm=>?_,h1⟩,fun x=>?_⟩
   ·rw[h2]at hm;have hpa:=hs'.1 a (by simp)
    have hap:fG a p=true:=by
     rcases zP.1 hm with rfl|hm
     ·exact o9 _
     ·exact hs2.1 p hm
    have:=EY (ho p (by simp)) (ho a (by simp)) hpa hap;subst this;exact h0 (jG _)
   ·rw[zP,h2,zP (b:=p)]
theorem XW {l:List (List Val)} (hs:Srt l) (ho:oks l):(eX l).Nodup∧∀ x,x∈eX l↔x∈l:=by
 cases l with
 | nil=>simp[eX]
 | cons a l=>exact ARU a l hs ho
theorem UJ {t:Tbl} (h:t.ok=true):tab t.w (eX t.rows)=⟨t.w,eX t.rows⟩:=by
 obtain⟨h1,h2,h3,h4⟩:=(Tbl.dI t).1 h;have hl:=(kJ t.rows).length_le;unfold tab;rw[if_neg (by omega),RA (h4.sublist (kJ _)) fun r hr=>iL (h3 r ((kJ _).subset hr))]
theorem AVF {r:List Val} {i:Nat} {v:Val} (h:r[i]?=some v):(AGD i).ev r=v:=by
 rw[Ex.IZ];simp[AGD,evN,Ex.kind,Ex.col,h]
theorem wF (v:Val):v.tr=0∨v.tr=1∨v.tr=2:=by
 unfold Val.tr;split
 ·simp
 ·split<;>simp
theorem AQG {t:Int} (h:t=0∨t=1∨t=2):(trV t).tr=t:=by
 rcases h with rfl|rfl|rfl<;>rfl
theorem ADB {key:List Val} (hk:key.all Val.ok=true):∀ {l:List (List Val×Nat)},(∀ g∈l,g.1.all Val.ok=true)→(l.map (·.1)).Nodup→∀ g,g∈bump key l↔((g.1≠key∧g∈l)∨(g.1=key∧((∃ n,(key,n)∈l∧g.2=n+1)∨(key ∉ l.map (·.1)∧g.2=1))))
 | [],_,_,g=>by
  simp only[bump,yA,zE0,and_false,false_or,zH0,zA6,true_and,false_and,exists_false];constructor
  ·rintro rfl;exact⟨rfl,rfl⟩
  ·rintro⟨h1,h2⟩;rw[← h1,← h2]
 | a::l,ho,hn,g=>by
  simp only[yR,yX]at hn;simp only[bump];split
  ·rename_i h0;have:=kT (ho a (by simp)) hk h0;subst this;constructor
   ·intro h
    rcases zP.1 h with h|h
    ·subst h;exact .inr ⟨rfl, .inl ⟨a.2,List.mem_cons_self ..,rfl⟩⟩
    ·refine .inl ⟨fun e=>hn.1 ?_,zA4 _ h⟩;rw[← e];exact zG.2 ⟨g,h,rfl⟩
   ·rintro(⟨h1,h2⟩|⟨h1,⟨n,h2,h3⟩|⟨h2,h3⟩⟩)
    ·rcases zP.1 h2 with h2|h2
     ·subst h2;exact absurd rfl h1
     ·exact zA4 _ h2
    ·rcases zP.1 h2 with h2|h2
     ·have h4:n=a.2:=by rw[← h2]
      rw[zP];left;exact Prod.ext h1 (by rw[h3,h4])
     ·exact absurd (zG.2 ⟨_,h2,rfl⟩) hn.1
    ·exact absurd (by simp) h2
  ·rename_i h0;have hne:a.1≠key:=fun e=>h0 (by rw[e];exact jG _)
   have ih:=ADB hk (l:=l) (fun g hg=>ho g (by simp[hg])) hn.2 g;simp only[zP,ih,yR];constructor
   ·rintro(rfl|⟨h1,h2⟩|⟨h1,⟨n,h2,h3⟩|⟨h2,h3⟩⟩)
    ·exact .inl ⟨hne, .inl rfl⟩
    ·exact .inl ⟨h1, .inr h2⟩
    ·exact .inr ⟨h1, .inl ⟨n, .inr h2,h3⟩⟩
    ·exact .inr ⟨h1, .inr ⟨by simp[h2,Ne.symm hne],h3⟩⟩
   ·rintro(⟨h1,rfl|h2⟩|⟨h1,⟨n,h2|h2,h3⟩|⟨h2,h3⟩⟩)
    ·exact .inl rfl
    ·exact .inr (.inl ⟨h1,h2⟩)
    ·exact absurd (by rw[← h2]) hne
    ·exact .inr (.inr ⟨h1, .inl ⟨n,h2,h3⟩⟩)
    ·exact .inr (.inr ⟨h1, .inr ⟨fun h=>h2 (.inr h),h3⟩⟩)
theorem QP {key:List Val} (hk:key.all Val.ok=true):∀ {l:List (List Val×Nat)},(∀ g∈l,g.1.all Val.ok=true)→(l.map (·.1)).Nodup→((bump key l).map (·.1)).Nodup
 | [],_,_=>by simp[bump]
 | a::l,ho,hn=>by
  simp only[bump];split
  ·simpa using hn
  ·rename_i h0;simp only[yR,yX]at hn ⊢;refine⟨fun hm=>?_,QP hk (fun g hg=>ho g (by simp[hg])) hn.2⟩;obtain⟨g,hg,he⟩:=zG.1 hm;have h2:=vZ key (fun x=>x=key∨x∈l.map (·.1)) (.inl rfl) l (fun g hg=>.inr (zG.2 ⟨g,hg,rfl⟩)) g hg;rw[he]at h2
   rcases h2 with h2|h2
   ·exact h0 (by rw[h2];exact jG _)
   ·exact hn.1 h2
theorem AY (cs:List Int):∀ (rows:List (List Val)) (acc:List (List Val×Nat)),(∀ r∈rows,(aU cs r).all Val.ok=true)→(∀ g∈acc,g.1.all Val.ok=true)→(acc.map (·.1)).Nodup→(∀ g∈acc,1≤g.2) →
 ((rows.foldl (fun acc r=>bump (aU cs r) acc) acc).map (·.1)).Nodup∧∀ g,g∈rows.foldl (fun acc r=>bump (aU cs r) acc) acc ↔
   1≤g.2∧((∃ n,(g.1,n)∈acc∧g.2=n+(rows.map (aU cs)).count g.1)∨(g.1 ∉ acc.map (·.1)∧g.2=(rows.map (aU cs)).count g.1))
 | [],acc,_,_,hn,hp=>by
  refine⟨hn,fun g=>?_⟩;simp only[List.foldl_nil,zH0,List.count_nil,xH];constructor
  ·intro h;exact⟨hp g h, .inl ⟨g.2,h,rfl⟩⟩
  ·rintro⟨h0,⟨n,h1,h2⟩|⟨h1,h2⟩⟩
   ·rw[← h2]at h1;exact h1
   ·omega
 | r::rows,acc,hr,ho,hn,hp=>by
  have hk:=hr r (by simp);have hb:=ADB hk ho hn
  have hpos:∀ g∈bump (aU cs r) acc,1≤g.2:=by
   intro g hg
   rcases(hb g).1 hg with ⟨_,h⟩|⟨_,⟨n,_,h⟩|⟨_,h⟩⟩
   ·exact hp g h
   ·omega
   ·omega
  obtain⟨h1,h2⟩:=AY cs rows (bump (aU cs r) acc) (fun x hx=>hr x (by simp[hx])) (vZ _ (fun x=>x.all Val.ok=true) hk acc ho) (QP hk ho hn) hpos;refine⟨h1,fun g=>?_⟩;simp only[zA1,yR,h2]
  have hkey:g.1∈(bump (aU cs r) acc).map (·.1)↔g.1=aU cs r∨g.1∈acc.map (·.1):=by
   constructor
   ·intro h;obtain⟨x,hx,he⟩:=zG.1 h;have:=vZ (aU cs r) (fun y=>y=aU cs r∨y∈acc.map (·.1)) (.inl rfl) acc (fun g hg=>.inr (zG.2 ⟨g,hg,rfl⟩)) x hx
    rwa [he]at this
   ·rintro(h|h)
    ·by_cases hm:aU cs r∈acc.map (·.1)
     ·obtain⟨x,hx,he⟩:=zG.1 hm;exact zG.2 ⟨(aU cs r,x.2+1),(hb _).2 (.inr ⟨rfl, .inl ⟨x.2,by rw[← he];exact hx,rfl⟩⟩),h.symm⟩
     ·exact zG.2 ⟨(aU cs r,1),(hb _).2 (.inr ⟨rfl, .inr ⟨hm,rfl⟩⟩),h.symm⟩
    ·obtain⟨x,hx,he⟩:=zG.1 h;by_cases hq:x.1=aU cs r
     ·exact zG.2 ⟨(aU cs r,x.2+1),(hb _).2 (.inr ⟨rfl, .inl ⟨x.2,by rw[← hq];exact hx,rfl⟩⟩),by rw[← he,hq]⟩
     ·exact zG.2 ⟨x,(hb _).2 (.inl ⟨hq,hx⟩),he⟩
  have hcnt:((aU cs r)::rows.map (aU cs)).count g.1=(rows.map (aU cs)).count g.1+if g.1=aU cs r then 1 else 0:=by
   rw[List.count_cons];by_cases h:g.1=aU cs r
   ·simp[h]
   ·simp[h,Ne.symm h]
  rw[hcnt];by_cases hq:g.1=aU cs r
  ·have hbk:∀ n,(g.1,n)∈bump (aU cs r) acc↔((∃ k,(g.1,k)∈acc∧n=k+1)∨(g.1 ∉ acc.map (·.1)∧n=1)):=fun n=>by
    rw[hq];have:=hb (aU cs r,n);simpa using this
   rw[if_pos hq];constructor
   ·rintro⟨h0,⟨n,h3,h4⟩|⟨h3,h4⟩⟩
    ·refine⟨h0,?_⟩
     rcases(hbk n).1 h3 with ⟨k,h5,h6⟩|⟨h5,h6⟩
     ·exact .inl ⟨k,h5,by omega⟩
     ·exact .inr ⟨h5,by omega⟩
    ·exact absurd (hkey.2 (.inl hq)) h3
   ·rintro⟨h0,⟨n,h3,h4⟩|⟨h3,h4⟩⟩
    ·exact⟨h0, .inl ⟨n+1,(hbk _).2 (.inl ⟨n,h3,rfl⟩),by omega⟩⟩
    ·exact⟨h0, .inl ⟨1,(hbk _).2 (.inr ⟨h3,rfl⟩),by omega⟩⟩
  ·have e1:∀ n,(g.1,n)∈bump (aU cs r) acc↔(g.1,n)∈acc:=by
    intro n;have:=hb (g.1,n);rw[this];constructor
    ·rintro(⟨_,h⟩|⟨h,_⟩)
     ·exact h
     ·exact absurd h hq
    ·exact fun h=>.inl ⟨hq,h⟩
   have e2:g.1∈(bump (aU cs r) acc).map (·.1)↔g.1∈acc.map (·.1):=by
    rw[hkey];exact⟨fun h=>h.resolve_left hq, .inr⟩
   rw[if_neg hq,xH,e2];simp only[e1]
theorem wM {cs:List Int} {rows:List (List Val)} (h:∀ r∈rows,(aU cs r).all Val.ok=true):((groups cs rows).map (·.1)).Nodup∧∀ g,g∈groups cs rows↔1≤g.2∧g.2=(rows.map (aU cs)).count g.1:=by
 obtain⟨h1,h2⟩:=AY cs rows [] h (by simp) (by simp) (by simp);exact⟨h1,fun g=>by rw[groups,h2];simp⟩
def stepG (cs:List Int) (st:List (List (List Val))×Option (List Val)) (x:List Val):List (List (List Val))×Option (List Val) :=
 match st.2 with
 | none=>(st.1++[[x]],some x)
 | some p=>if bL (aU cs p) (aU cs x)=0 then(st.1.dropLast++[(st.1.getLast?).getD []++[x]],some x)else(st.1++[[x]],some x)
def runs (cs:List Int) (l:List (List Val)):List (List (List Val)):=(l.foldl (stepG cs) ([],none)).1
theorem OV (cs:List Int):∀ (l:List (List Val)) (st:List (List (List Val))×Option (List Val)),(l.foldl (stepG cs) st).2=(match l.getLast? with|some x=>some x|none=>st.2)
 | [],st=>rfl
 | [x],st=>by
  simp only[zA1,List.foldl_nil,List.getLast?_singleton,stepG];split
  ·rfl
  ·split<;>rfl
 | x::y::l,st=>by
  rw[zA1,OV cs (y::l)];rw[List.getLast?_cons_cons]
  cases h:(y::l).getLast? with
  | none=>simp at h
  | some z=>rfl
theorem uS (cs:List Int) (l:List (List Val)) (x:List Val):runs cs (l++[x])=match l.getLast? with
 | none=>runs cs l++[[x]]
 | some p=>if bL (aU cs p) (aU cs x)=0 then(runs cs l).dropLast++[((runs cs l).getLast?).getD []++[x]]else runs cs l++[[x]]:=by
 unfold runs;rw[zD3,zA1,List.foldl_nil];have h:=OV cs l ([],none);generalize l.foldl (stepG cs) ([],none)=st at h;unfold stepG
 cases hl:l.getLast? with
 | none=>rw[hl]at h;rw[h]
 | some p =>
  rw[hl]at h;rw[h];simp only;split<;>rfl
def lJ (cs:List Int) (g:List (List Val)):List Val×Nat:=(aU cs (g.headD []),g.length)
theorem ADA {key:List Val}:∀ {P:List (List Val×Nat)},(∀ g∈P,bL g.1 key≠0)→bump key P=P++[(key,1)]
 | [],_=>rfl
 | g::P,h=>by
  simp only[bump];rw[if_neg (h g (by simp)),ADA fun x hx=>h x (by simp[hx])];rfl
theorem YC {key:List Val} {n:Nat}:∀ {P:List (List Val×Nat)},(∀ g∈P,bL g.1 key≠0)→bump key (P++[(key,n)])=P++[(key,n+1)]
 | [],_=>by simp[bump,jG]
 | g::P,h=>by
  simp only[yO,bump];rw[if_neg (h g (by simp)),YC fun x hx=>h x (by simp[hx])]
theorem M5 (cs:List Int) (l:List (List Val)) (x:List Val):groups cs (l++[x])=bump (aU cs x) (groups cs l):=by
 unfold groups;rw[zD3];rfl
theorem K7 (cs:List Int):∀ (n:Nat) (l:List (List Val)),l.length=n→(∀ r∈l,(aU cs r).all Val.ok=true)→(l.map (aU cs)).Pairwise (fun a b=>fG a b=true) →
 (runs cs l).map (lJ cs)=groups cs l∧(∀ g∈runs cs l,g≠[])∧(∀ p,l.getLast?=some p→∃ G g,runs cs l=G++[g]∧(lJ cs g).1=aU cs p)
 | 0,l,h,_,_=>by
  have:l=[]:=zW.1 h;subst this;refine⟨rfl,by simp[runs],by simp⟩
 | n+1,l,h,ho,hs=>by
  have hne:l≠[]:=fun e=>by subst e;simp at h
  obtain⟨l',x,rfl⟩:∃ l' x,l=l'++[x]:=⟨l.dropLast,l.getLast hne,(yF hne).symm⟩
  have hl':l'.length=n:=by simpa using h
  rw[yI,yB]at hs;obtain⟨s1,-,s3⟩:=hs;have hox:=ho x (by simp);have ho':∀ r∈l',(aU cs r).all Val.ok=true:=fun r hr=>ho r (by simp[hr])
  obtain⟨i1,i2,i3⟩:=K7 cs n l' hl' ho' s1;have hk:=wM ho';rw[M5,uS]
  cases hp:l'.getLast? with
  | none =>
   have:l'=[]:=by simpa using hp
   subst this;refine⟨by simp[runs,groups,lJ,bump],by simp[runs],fun p hp=>?_⟩;simp at hp;subst hp;exact⟨[],[x],by simp[runs],rfl⟩
  | some p =>
   obtain⟨G,g,hG,hg⟩:=i3 p hp;have hpm:p∈l':=List.mem_of_getLast? hp;have hpx:fG (aU cs p) (aU cs x)=true:=s3 _ (zG.2 ⟨p,hpm,rfl⟩) _ (by simp)
   have hmem:∀ q∈groups cs l',∃ r∈l',q.1=aU cs r:=by
    intro q hq;have h1:=(hk.2 q).1 hq;have h2:0<(l'.map (aU cs)).count q.1:=by omega
    obtain⟨r,hr,he⟩:=zG.1 (List.count_pos_iff.1 h2);exact⟨r,hr,he.symm⟩
   have hlast:∀ r∈l',fG (aU cs r) (aU cs p)=true:=by
    intro r hr
    have hd:l'=l'.dropLast++[p]:=by
     have:=yF (show l'≠[]from fun e=>by subst e;simp at hp);rw[zA9 (fun e=>by subst e;simp at hp)]at hp;injection hp with hp;rw[hp]at this;exact this.symm
    rw[hd]at hr s1;rw[yI,yB]at s1
    rcases zT.1 hr with hr|hr
    ·exact s1.2.2 _ (zG.2 ⟨r,hr,rfl⟩) _ (by simp)
    ·simp at hr;subst hr;exact o9 _
   rw[hG]at i1 i2;rw[yI,zF0]at i1;have hgne:g≠[]:=i2 g (by simp);dsimp only;split
   ·rename_i h0;have he:=kT (ho' p hpm) hox h0;rw[hG,List.dropLast_concat];simp only[List.getLast?_append,List.getLast?_singleton,Option.some_or,zC]
    have hpg:lJ cs (g++[x])=(aU cs x,(lJ cs g).2+1):=by
     unfold lJ at hg ⊢
     cases g with
     | nil=>exact absurd rfl hgne
     | cons a g=>simp at hg ⊢;rw[← he];exact hg
    refine⟨?_,?_,?_⟩
    ·rw[yI,zF0,← i1,hpg];have hpr:lJ cs g=(aU cs x,(lJ cs g).2):=Prod.ext (by rw[hg,he]) rfl;rw[hpr];refine(YC fun q hq=>?_).symm;intro h1;have hn:=hk.1;rw[← i1,yI,yS]at hn;have hqm:q∈groups cs l':=by rw[← i1];exact yD _ hq
     obtain⟨r,hr,hqr⟩:=hmem q hqm;have hq1:q.1=aU cs x:=kT (by rw[hqr];exact ho' r hr) hox h1;exact hn.2.2 q.1 (zG.2 ⟨q,hq,rfl⟩) (lJ cs g).1 (by simp) (by rw[hq1,hg,he])
    ·intro y hy
     rcases zT.1 hy with hy|hy
     ·exact i2 y (yD _ hy)
     ·simp at hy;subst hy;simp
    ·intro p' hp';simp at hp';subst hp';exact⟨G,g++[x],rfl,by rw[hpg]⟩
   ·rename_i h0;refine⟨?_,?_,?_⟩
    ·rw[hG,yI,yI,zF0,zF0,← i1];refine(ADA fun q hq=>?_).symm;intro h1;have hqm:q∈groups cs l':=by rw[← i1];exact hq
     obtain⟨r,hr,hqr⟩:=hmem q hqm;have hq1:q.1=aU cs x:=kT (by rw[hqr];exact ho' r hr) hox h1;have h2:=hlast r hr;rw[← hqr,hq1]at h2;have:=EY (ho' p hpm) hox hpx h2;exact h0 (by rw[this];exact jG _)
    ·intro y hy
     rcases zT.1 hy with hy|hy
     ·rw[hG]at hy;exact i2 y hy
     ·simp at hy;subst hy;simp
    ·intro p' hp';simp at hp';subst hp';exact⟨_,[x],rfl,rfl⟩
theorem AAH {cs:List Int} {l m:List (List Val)} (hp:l.Perm m) (ho:∀ r∈l,(aU cs r).all Val.ok=true):(groups cs l).Perm (groups cs m):=by
 have h1:=wM ho;have h2:=wM (rows:=m) fun r hr=>ho r (hp.mem_iff.2 hr)
 refine DT ?_ ?_ fun g=>?_
 ·exact List.Pairwise.of_map (·.1) (fun a b h e=>h (by rw[e])) h1.1
 ·exact List.Pairwise.of_map (·.1) (fun a b h e=>h (by rw[e])) h2.1
 ·rw[h1.2,h2.2,(hp.map (aU cs)).count_eq]
theorem AIB {cs:List Int} {l m:List (List Val)} (hp:m.Perm l) (ho:∀ r∈l,(aU cs r).all Val.ok=true) (hs:(m.map (aU cs)).Pairwise (fun a b=>fG a b=true)) :
 ((runs cs m).map fun g=>fC (lJ cs g)).Perm (fP cs l):=by
 have ho':∀ r∈m,(aU cs r).all Val.ok=true:=fun r hr=>ho r (hp.mem_iff.1 hr)
 have h:=(K7 cs m.length m rfl ho' hs).1;unfold fP;have e:(runs cs m).map (fun g=>fC (lJ cs g))=((runs cs m).map (lJ cs)).map fC:=by rw[zC5];rfl
 rw[e,h];exact(AAH hp ho').map fC
theorem AFB {a b:List Val×Nat} (h:fC a=fC b):a=b:=by
 unfold fC at h;have h1:=List.append_inj' h rfl;have h2:=h1.2;simp at h2;exact Prod.ext h1.1 (by omega)
theorem KU {α β:Type} {f:α→β} (hf:∀ a b,f a=f b→a=b):∀ {l:List α},l.Nodup→(l.map f).Nodup
 | [],_=>by simp
 | a::l,h=>by
  rw[yX]at h;rw[yR,yX];refine⟨fun hm=>?_,KU hf h.2⟩;obtain⟨b,hb,e⟩:=zG.1 hm;rw[hf _ _ e]at hb;exact h.1 hb
theorem WJ {α β:Type} {f:α→β} {l:List α} (h:(l.map f).Nodup):l.Nodup:=List.Pairwise.of_map f (fun a b h e=>h (by rw[e])) h
section
variable {rows:List (List Val)} {w:Int} (hr:∀ r∈rows,rowOk w r=true) (hw:bH w=true)
include hr hw
end
def AQ (a b:Tbl):List (List Val):=a.rows.flatMap fun r=>b.rows.map (r ++ ·)
theorem lY (e:Ex) (a b:Tbl):dX e false a b=(AQ a b).filter (isT e):=by
 unfold dX AQ;rw[List.filter_flatMap];congr 1
theorem D6 {α:Type} (n:Nat):∀ l:List α,(l.map fun _=>n).sum=l.length*n
 | []=>by simp
 | a::l=>by simp[D6 n l,Nat.succ_mul];omega
theorem OQ {α:Type} {f g:α→Nat}:∀ {l:List α},(∀ x∈l,f x≤g x)→(l.map f).sum≤(l.map g).sum
 | [],_=>by simp
 | a::l,h=>by have:=h a (by simp);have:=OQ (l:=l) fun x hx=>h x (by simp[hx]);simp;omega
theorem LP (e:Ex) (rs:List (List Val)) (r:List Val):(dY e rs r).length≤rs.length:=by
 unfold dY;have:=yG (isT e) (rs.map (r ++ ·));rwa [xZ]at this
theorem AKD (e:Ex) (o:Bool) (w:Int) (rs:List (List Val)) (r:List Val):(joinL e o w rs r).length≤if o=true then max 1 rs.length else rs.length:=by
 have:=LP e rs r;unfold joinL
 cases o
 ·simpa using this
 ·simp only[zB9,if_true];split
  ·simp;omega
  ·omega
theorem LK (e:Ex) (o:Bool) (a b:Tbl):(dX e o a b).length≤a.rows.length*(if o=true then max 1 b.rows.length else b.rows.length):=by
 unfold dX;rw[List.length_flatMap,← D6];exact OQ fun x _=>AKD _ _ _ _ _
theorem DZ {e:Ex} {o:Bool} {w:Int} {rs:List (List Val)} {r x:List Val} (h:x∈joinL e o w rs r):∃ s,x=r++s:=by
 unfold joinL at h;split at h
 ·simp at h;exact⟨_,h⟩
 ·obtain⟨s,_,h,_⟩:=X6 h;exact⟨s,h⟩
theorem AOU (e:Ex) (a b:Tbl):(dX e false a b).Sublist (dX e true a b):=by
 unfold dX;generalize a.rows=l
 induction l with
 | nil=>simp
 | cons r l ih =>
  simp only[yC];refine List.Sublist.append ?_ ih;unfold joinL;simp only[Bool.false_and,zB9,yY,if_false];split
  ·rename_i h;rw[zD8.1 h];exact List.nil_sublist _
  ·exact .refl _
def rbK (cnt:List Int) (k t:Int) (cs:List Int) (a b:Int):Int :=
 if k=1 then(cnt[t.toNat]?).getD 0 else min (if k=4 then a*b else if k=5 then a*max 1 b else if k=6 then a+b else if k=8∧cs=[]then min a 1 else a) 1000000000
mutual
def Pn.rb (cnt:List Int):Pn→Int
 | .mk k t es cs ks=>rbK cnt k t cs (((Pn.rbL cnt ks)[0]?).getD 0) (((Pn.rbL cnt ks)[1]?).getD 0)
def Pn.rbL (cnt:List Int):List Pn→List Int
 | []=>[]
 | p::ps=>Pn.rb cnt p::Pn.rbL cnt ps
end
def ACD (es:List Ex) (w:Nat):Bool:=(List.range w).all fun c=>es.any fun e=>decide (e.kind=1) && decide (e.col=(c:Int))
mutual
def Pn.APG (ws:List Int) (sets:List Bool):Pn→Bool
 | .mk k t es cs ks=>if k=1 then(sets[t.toNat]?).getD false else if k=6 then false else if k=7∨k=8 then true else Pn.AL6 ws sets ks && (if k=3 then ACD es (((ks[0]?).map (Pn.wd ws 8)).getD 0).toNat else true)
def Pn.AL6 (ws:List Int) (sets:List Bool):List Pn→Bool
 | []=>true
 | p::ps=>Pn.APG ws sets p && Pn.AL6 ws sets ps
end
theorem Pn.XQ (ws:List Int) (sets:List Bool):∀ l:List Pn,Pn.AL6 ws sets l=l.all (Pn.APG ws sets)
 | []=>by simp[Pn.AL6]
 | p::l=>by simp[Pn.AL6,Pn.XQ ws sets l]
theorem Pn.AL5 (ws:List Int) (sets:List Bool) (p:Pn):p.APG ws sets=if p.kind=1 then(sets[p.table.toNat]?).getD false else if p.kind=6 then false else if p.kind=7∨p.kind=8 then true else p.kids.all (Pn.APG ws sets) && (if p.kind=3 then ACD p.exprs (((p.kids[0]?).map (Pn.wd ws 8)).getD 0).toNat else true):=by
 cases p;simp only[Pn.APG,Pn.XQ,Pn.kind,Pn.table,Pn.exprs,Pn.kids];rfl
theorem H5 {α:Type} {l:List α} (h:l.Nodup) (f:α→Bool):(l.filter f).Nodup:=h.sublist List.filter_sublist
theorem rD {w:Int} {rows:List (List Val)} (h:rows.Nodup):(tab w rows).rows.Nodup:=by
 unfold tab;split
 ·simp
 ·exact(jO _).nodup_iff.2 h
theorem GZ {α β:Type} {f:α→β}:∀ {l:List α},(∀ a∈l,∀ b∈l,f a=f b→a=b)→l.Nodup→(l.map f).Nodup
 | [],_,_=>by simp
 | a::l,hf,h=>by
  rw[yX]at h;rw[yR,yX];refine⟨fun hm=>?_,GZ (fun x hx y hy=>hf x (by simp[hx]) y (by simp[hy])) h.2⟩;obtain⟨b,hb,e⟩:=zG.1 hm;rw[hf b (by simp[hb]) a (by simp) e]at hb;exact h.1 hb
theorem AKA {es:List Ex} {w:Nat} (h:ACD es w=true) {r s:List Val} (hr:r.length=w) (hs:s.length=w) (he:es.map (Ex.ev r)=es.map (Ex.ev s)):r=s:=by
 apply zF4;intro i;by_cases hi:i<w
 ·have h1:=zS.1 h i (List.mem_range.2 hi);obtain⟨e,hem,h2⟩:=zG3.1 h1;simp only[zU,zR]at h2;have h3:=List.map_inj_left.1 he e hem;rw[Ex.IZ,Ex.IZ]at h3;simp only[evN,h2.1,if_true,h2.2,zD4]at h3;have e1:=zX (show i<r.length by omega);have e2:=zX (show i<s.length by omega);rw[e1,e2]at h3 ⊢;simpa using h3
 ·rw[zD6 (by omega),zD6 (by omega)]
theorem DV {α β:Type} {f:α→List β}:∀ {l:List α},l.Nodup→(∀ a∈l,(f a).Nodup)→(∀ a∈l,∀ b∈l,∀ x,x∈f a→x∈f b→a=b)→(l.flatMap f).Nodup
 | [],_,_,_=>by simp
 | a::l,h,h1,h2=>by
  rw[yX]at h;rw[yC,yS];refine⟨h1 a (by simp),DV h.2 (fun b hb=>h1 b (by simp[hb])) (fun b hb c hc=>h2 b (by simp[hb]) c (by simp[hc])),fun x hx y hy e=>?_⟩;subst e;obtain⟨b,hb,hxb⟩:=zG4.1 hy;have:=h2 a (by simp) b (by simp[hb]) x hx hxb;subst this;exact h.1 hb
theorem AA5 {e:Ex} {o:Bool} {a b:Tbl} (ha:a.ok=true) (hda:a.rows.Nodup) (hdb:b.rows.Nodup):(dX e o a b).Nodup:=by
 have h3:=((Tbl.dI a).1 ha).2.2.1;refine DV hda (fun r _=>?_) fun r hr s hs x hx hy=>?_
 ·unfold joinL;split
  ·simp
  ·exact H5 (KU (fun _ _ h=>List.append_cancel_left h) hdb) _
 ·obtain⟨u,rfl⟩:=DZ hx;obtain⟨v,hv⟩:=DZ hy;have:=gU (h3 r hr);have:=gU (h3 s hs);exact(List.append_inj hv (by omega)).1
theorem AZK {ws:List Int} {db:List Tbl} (hws:ws=db.map Tbl.w) (hdb:∀ t∈db,t.ok=true) {sets:List Bool} (hsets:∀ (i:Nat) (t:Tbl),db[i]?=some t→(sets[i]?).getD false=true→t.rows.Nodup) (hw6:∀ w∈ws,0≤w∧w≤6):∀ (p:Pn) (lv:Nat),lv≤8→p.wd ws lv≠0→p.APG ws sets=true→(p.evP db).rows.Nodup:=by
 intro p
 induction p using Pn.ind with
 | h k t es cs ks ih =>
  intro lv hlv h hd;have hsh:=kM h;generalize hp:Pn.mk k t es cs ks=p at hsh h hd;have hk:ks=p.kids:=by rw[← hp];rfl
  subst hk;rw[Pn.AL5]at hd
  cases hsh with
  | scan t W h0 h1 hW =>
   rw[hws,zJ]at h1;obtain⟨s,hs,rfl⟩:=xE.1 h1;rw[wP,hs];exact rD (hsets _ s hs (by simpa [Pn.scan]using hd))
  | filt m e a h1 ha he =>
   rw[mJ];exact rD (H5 (ih a (by simp[filt]) m (by omega) ha (by simpa [filt]using hd)) _)
  | proj m es a h1 ha hl he =>
   have hd':a.APG ws sets=true∧ACD es (a.wd ws 8).toNat=true:=by simpa [proj]using hd
   have hg:=eD hws hdb a m ha;have h3:=((Tbl.dI _).1 hg.1).2.2.1;have hw8:=Pn.gF a m 8 ha (by omega);rw[jT];refine rD (GZ (fun r hr s hs he=>?_) (ih a (by simp[proj]) m (by omega) ha hd'.1));have h4:=gU (h3 r hr);have h5:=gU (h3 s hs);refine AKA hd'.2 ?_ ?_ he
   ·rw[hw8,← hg.2];omega
   ·rw[hw8,← hg.2];omega
  | pair m k e a b h1 hk ha hb hl he =>
   have hg:=eD hws hdb a m ha;have hd':a.APG ws sets=true∧b.APG ws sets=true:=by rcases hk with rfl|rfl<;>simpa [aX]using hd
   rw[jU db hk];exact rD (AA5 hg.1 (ih a (by simp[aX]) m (by omega) ha hd'.1) (ih b (by simp[aX]) m (by omega) hb hd'.2))
  | union m a b h1 ha hb=>simp[bU]at hd
  | dist m a h1 ha =>
   have hg:=eD hws hdb a m ha;rw[qH];exact rD (XW ((Tbl.dI _).1 hg.1).2.2.2 (Tbl.WG hg.1)).1
  | group m cs a h1 ha hc ho =>
   have hg:=eD hws hdb a m ha;have h3:=((Tbl.dI _).1 hg.1).2.2.1;rw[oV];refine rD (KU (fun _ _ h=>AFB h) (WJ (wM (cs:=cs) fun r hr=>?_).1));exact iL (wJ (h3 r hr) (by rw[hg.2];exact wU ho))
theorem TB {t:Tbl} (h:t.ok=true):(eX t.rows).length=t.rows.length↔t.rows.Nodup:=by
 have hd:=XW ((Tbl.dI _).1 h).2.2.2 (Tbl.WG h);constructor
 ·intro hl;have:=(kJ t.rows).eq_of_length hl;rw[← this];exact hd.1
 ·intro hn;exact(DT hd.1 hn hd.2).length_eq
def sT (t:Int):Int:=if t=1 then 4 else if t=0 then 1 else 2
theorem ABM (v:Val):stV v=sT v.tr:=by
 unfold stV sT Val.tr
 cases v.null<;>simp
 split<;>simp
theorem ZB {t:Int} (h:t=0∨t=1∨t=2):stV (trV t)=sT t:=by rw[ABM,AQG h]
theorem APP:∀ a b:Fin 8,∀ s t:Fin 3,kI a.val (sT s.val)=true→kI b.val (sT t.val)=true →
 kI (lU 8 a.val b.val) (sT (if(t.val:Int)<s.val then t.val else s.val))=true∧kI (lU 9 a.val b.val) (sT (if(t.val:Int) > s.val then t.val else s.val))=true:=by decide +kernel
theorem ALM:∀ a b:Fin 8,(kI a.val 4=true∨kI b.val 4=true→kI (lU 3 a.val b.val) 4=true∧kI (lU 6 a.val b.val) 4=true) ∧
 ((kI a.val 1=true∨kI a.val 2=true)→(kI b.val 1=true∨kI b.val 2=true)→lU 3 a.val b.val=7∧kI (lU 6 a.val b.val) 1=true∧kI (lU 6 a.val b.val) 2=true):=by decide +kernel
theorem F7 {a:Int} (h:okS a):∃ n:Fin 8,a=(n.val:Int):=⟨⟨a.toNat,by have:=h.1;have:=h.2;omega⟩,by have:=h.1;simp;omega⟩
theorem AHM (v:Val):∃ n:Fin 3,v.tr=(n.val:Int):=by
 rcases wF v with h|h|h
 ·exact⟨0,h⟩
 ·exact⟨1,h⟩
 ·exact⟨2,h⟩
theorem ALK {k a b:Int} {v w:Val} (ha:okS a) (hb:okS b) (h1:kI a (stV v)=true) (h2:kI b (stV w)=true):kI (lU k a b) (stV (Val.cmb k v w))=true:=by
 obtain⟨x,rfl⟩:=F7 ha;obtain⟨y,rfl⟩:=F7 hb;by_cases h8:k=8∨k=9
 ·rw[ABM]at h1 h2;have hv:=wF v;have hw:=wF w;obtain⟨s,hs⟩:=AHM v;obtain⟨t,ht⟩:=AHM w;rw[hs]at h1 hv;rw[ht]at h2 hw;have h:=APP x y s t h1 h2
  rcases h8 with rfl|rfl
  ·have e:Val.cmb 8 v w=trV (if w.tr<v.tr then w.tr else v.tr):=by simp[Val.cmb]
   rw[e,hs,ht,ZB (by split<;>assumption)];exact h.1
  ·have e:Val.cmb 9 v w=trV (if w.tr > v.tr then w.tr else v.tr):=by simp[Val.cmb]
   rw[e,hs,ht,ZB (by split<;>assumption)];exact h.2
 ·have hk8:k≠8:=fun e=>h8 (.inl e)
  have hk9:k≠9:=fun e=>h8 (.inr e)
  have h:=ALM x y
  have e3:lU k x.val y.val=if k<6 then lU 3 x.val y.val else lU 6 x.val y.val:=by
   by_cases h6:k<6<;>simp[lU,hk8,hk9,h6]
  by_cases hn:v.null=true∨w.null=true
  ·have e:Val.cmb k v w=⟨true,0⟩:=by simp[Val.cmb,hk8,hk9,hn]
   have h4:kI x.val 4=true∨kI y.val 4=true:=by
    rcases hn with hn|hn
    ·left;simpa [stV,hn]using h1
    ·right;simpa [stV,hn]using h2
   have:=h.1 h4;rw[e,e3];simp only[stV,if_true];split
   ·exact this.1
   ·exact this.2
  ·have hv:v.null=false:=by simpa using fun e=>hn (.inl e)
   have hw:w.null=false:=by simpa using fun e=>hn (.inr e)
   have p1:kI x.val 1=true∨kI x.val 2=true:=by
    simp only[stV,hv]at h1;by_cases e:v.n=0
    ·left;simpa [e]using h1
    ·right;simpa [e]using h1
   have p2:kI y.val 1=true∨kI y.val 2=true:=by
    simp only[stV,hw]at h2;by_cases e:w.n=0
    ·left;simpa [e]using h2
    ·right;simpa [e]using h2
   have:=h.2 p1 p2;rw[e3];by_cases h6:k<6
   ·rw[if_pos h6,this.1];have hs:=AHZ (Val.cmb k v w);unfold stV;split
    ·decide
    ·split<;>decide
   ·rw[if_neg h6]
    have e:∃ b,Val.cmb k v w=FM b:=by
     unfold Val.cmb;rw[if_neg hk8,if_neg hk9,if_neg hn,if_neg (by omega),if_neg (by omega),if_neg (by omega)];split<;>exact⟨_,rfl⟩
    obtain⟨b,e⟩:=e;rw[e]
    cases b
    ·exact this.2.1
    ·exact this.2.2
theorem AU0:∀ a:Fin 8,∀ s:Fin 3,kI a.val (sT s.val)=true→kI (AYX a.val) (sT (2-(s.val:Int)))=true:=by decide +kernel
theorem AJM:∀ a:Fin 8,(kI a.val 4=true→kI (AWR a.val) 2=true)∧(kI a.val 1=true∨kI a.val 2=true→kI (AWR a.val) 1=true):=by decide +kernel
theorem SE {k:Int} {n:Nat} (h:(n:Int)=dA k) (h1:k≠1) (h2:k≠2) (h10:k≠10) (h11:k≠11):n=2:=by
 unfold dA at h;by_cases c1:k=1∨k=2
 ·omega
 ·by_cases c2:k=10∨k=11
  ·omega
  ·rw[if_neg c1,if_neg c2]at h;split at h<;>omega
theorem AOB {W:Int} (st:List Int) (hl:(st.length:Int)=W) (hs:∀ a∈st,okS a):∀ e:Ex,e.wf W=true→okS (NV st e):=by
 intro e
 induction e using Ex.ind with
 | h k c v ks ih =>
  intro h;have h':=h;rw[Ex.EO]at h';simp only[zU,zR,Ex.kids,Ex.kind]at h';rw[RU];simp only[Ex.kind,Ex.col,Ex.val,Ex.kids];have hkid:∀ (i:Nat) (a:Ex),ks[i]?=some a→okS (NV st a):=fun i a hi=>ih a (zV hi) (Ex.iU h (zV hi))
  by_cases hk1:k=1
  ·simp only[hk1,if_true];obtain⟨h0,h1,_⟩:=Ex.pV h hk1;simp only[Ex.col]at h0 h1;rw[zX (show c.toNat<st.length by omega)];exact hs _ (xQ _)
  by_cases hk2:k=2
  ·simp only[hk1,hk2,if_false,if_true,show ¬ (2:Int)=1 by omega];exact AHZ _
  simp only[hk1,hk2,if_false];by_cases hk10:k=10
  ·simp only[hk10,if_true];have h0:0<ks.length:=by have:=h'.1;rw[hk10]at this;simp[dA]at this;omega
   have e1:=zX h0;have g2:=hkid 0 _ e1;simp only[e1,yM,zC];obtain⟨n,hn⟩:=F7 g2;have hn0:n.val≠0:=by have:=g2.1;omega
   rw[hn];exact(RY n hn0).1
  by_cases hk11:k=11
  ·simp only[hk11,if_true,if_false,show ¬ (11:Int)=10 by omega];have h0:0<ks.length:=by have:=h'.1;rw[hk11]at this;simp[dA]at this;omega
   have e1:=zX h0;have g2:=hkid 0 _ e1;simp only[e1,yM,zC];obtain⟨n,hn⟩:=F7 g2;have hn0:n.val≠0:=by have:=g2.1;omega
   rw[hn];exact(RY n hn0).2
  simp only[hk10,hk11,if_false];have h2:=SE (zO h'.1) hk1 hk2 hk10 hk11;have e0:=zX (show 0<ks.length by omega);have e1:=zX (show 1<ks.length by omega);simp only[e0,e1,yM,zC];exact ALN (hkid 0 _ e0) (hkid 1 _ e1)
theorem AFA {W:Int} (st:List Int) (row:List Val) (hl:(st.length:Int)=W) (hr:row.length=st.length) (hs:∀ a∈st,okS a) (hst:∀ (i:Nat) (a:Int) (v:Val),st[i]?=some a→row[i]?=some v→kI a (stV v)=true):∀ e:Ex,e.wf W=true→kI (NV st e) (stV (e.ev row))=true:=by
 intro e
 induction e using Ex.ind with
 | h k c v ks ih =>
  intro h;have h':=h;rw[Ex.EO]at h';simp only[zU,zR,Ex.kids,Ex.kind]at h';rw[RU,Ex.IZ];simp only[Ex.kind,Ex.col,Ex.val,Ex.kids,evN]
  have hkid:∀ (i:Nat) (a:Ex),ks[i]?=some a→kI (NV st a) (stV (a.ev row))=true∧okS (NV st a):=fun i a hi=>⟨ih a (zV hi) (Ex.iU h (zV hi)),AOB st hl hs a (Ex.iU h (zV hi))⟩
  by_cases hk1:k=1
  ·simp only[hk1,if_true];obtain⟨h0,h1,_⟩:=Ex.pV h hk1;simp only[Ex.col]at h0 h1;have e1:=zX (show c.toNat<st.length by omega);have e2:=zX (show c.toNat<row.length by omega);have:=hst _ _ _ e1 e2;rw[e1,e2];exact this
  by_cases hk2:k=2
  ·simp only[hk1,hk2,if_false,if_true,show ¬ (2:Int)=1 by omega];unfold stV;split
   ·decide
   ·split<;>decide
  simp only[hk1,hk2,if_false];by_cases hk10:k=10
  ·simp only[hk10,if_true];have h0:0<ks.length:=by have:=h'.1;rw[hk10]at this;simp[dA]at this;omega
   have e1:=zX h0;obtain⟨g1,g2⟩:=hkid 0 _ e1;simp only[zJ,e1,yM,zC];obtain⟨n,hn⟩:=F7 g2;obtain⟨s,hs'⟩:=AHM (ks[0].ev row);have ht:=wF (ks[0].ev row);rw[ABM,hs',hn]at g1;rw[hn,hs',ZB (by rw[hs']at ht;omega)];exact AU0 n s g1
  by_cases hk11:k=11
  ·simp only[hk11,if_true,if_false,show ¬ (11:Int)=10 by omega];have h0:0<ks.length:=by have:=h'.1;rw[hk11]at this;simp[dA]at this;omega
   have e1:=zX h0;obtain⟨g1,g2⟩:=hkid 0 _ e1;simp only[zJ,e1,yM,zC];obtain⟨n,hn⟩:=F7 g2;rw[hn]at g1 ⊢
   cases hnl:(ks[0].ev row).null with
   | true =>
    simp only[stV,hnl,if_true]at g1;exact(AJM n).1 g1
   | false =>
    have:kI n.val 1=true∨kI n.val 2=true:=by
     simp only[stV,hnl]at g1;by_cases e:(ks[0].ev row).n=0
     ·left;simpa [e]using g1
     ·right;simpa [e]using g1
    exact(AJM n).2 this
  simp only[hk10,hk11,if_false];have h2:=SE (zO h'.1) hk1 hk2 hk10 hk11;have e0:=zX (show 0<ks.length by omega);have e1:=zX (show 1<ks.length by omega);simp only[zJ,e0,e1,yM,zC];exact ALK (hkid 0 _ e0).2 (hkid 1 _ e1).2 (hkid 0 _ e0).1 (hkid 1 _ e1).1
theorem AcM {e:Ex} {row:List Val} (h:isT e row=true):stV (e.ev row)=2:=by
 unfold isT at h;rw[ABM,zO h];rfl
theorem vF {w:Int} {e:Ex} (h:e.ok w=true):e.wf w=true:=by simp[Ex.ok,Ex.NJ]at h;exact h.2.1
def AeU (db:List Tbl) (k t:Int) (es:List Ex) (cs:List Int) (a b:Tbl):List (List Val) :=
 if k=1 then((db[t.toNat]?).getD ABH).rows
 else if k=2 then a.rows.filter (isT (exO es))
 else if k=3 then a.rows.map fun r=>es.map (Ex.ev r)
 else if k=4∨k=5 then dX (exO es) (decide (k=5)) a b
 else if k=6 then a.rows++b.rows
 else if k=7 then eX a.rows
 else fP cs a.rows
def Pn.raw (db:List Tbl) (p:Pn):List (List Val):=AeU db p.kind p.table p.exprs p.cols ((p.kids[0]?.map (Pn.evP db)).getD ABH) ((p.kids[1]?.map (Pn.evP db)).getD ABH)
mutual
def Pn.fit (db:List Tbl):Pn→Bool
 | .mk k t es cs ks=>decide ((Pn.raw db (.mk k t es cs ks)).length≤400) && Pn.AZG db ks
def Pn.AZG (db:List Tbl):List Pn→Bool
 | []=>true
 | p::ps=>Pn.fit db p && Pn.AZG db ps
end
theorem Pn.ACQ (db:List Tbl):∀ l:List Pn,Pn.AZG db l=l.all (Pn.fit db)
 | []=>by simp[Pn.AZG]
 | p::l=>by simp[Pn.AZG,Pn.ACQ db l]
theorem Pn.qV (db:List Tbl) (p:Pn):p.fit db=true↔(p.raw db).length≤400∧∀ a∈p.kids,a.fit db=true:=by
 cases p;simp[Pn.fit,Pn.ACQ,Pn.kids]
theorem AO6 (db:List Tbl) (t:Int):(Pn.scan t).raw db=((db[t.toNat]?).getD ABH).rows:=rfl
theorem ABZ (db:List Tbl) (e:Ex) (a:Pn):(filt e a).raw db=(a.evP db).rows.filter (isT e):=rfl
theorem ABY (db:List Tbl) (es:List Ex) (a:Pn):(proj es a).raw db=(a.evP db).rows.map fun r=>es.map (Ex.ev r):=rfl
theorem RJ (db:List Tbl) {k:Int} (hk:k=4∨k=5) (e:Ex) (a b:Pn):(aX k e a b).raw db=dX e (decide (k=5)) (a.evP db) (b.evP db):=by rcases hk with rfl|rfl<;>rfl
theorem VH (db:List Tbl) (a b:Pn):(bU a b).raw db=(a.evP db).rows++(b.evP db).rows:=rfl
theorem AO7 (db:List Tbl) (a:Pn):(Pn.mk 7 0 [] [] [a]).raw db=eX (a.evP db).rows:=rfl
theorem AIW (db:List Tbl) (cs:List Int) (a:Pn):(Pn.mk 8 0 [] cs [a]).raw db=fP cs (a.evP db).rows:=rfl
mutual
def Pn.bd (n:Nat):Pn→Nat
 | .mk _ _ es _ ks=>bdK n es (Pn.bdL n ks)
def Pn.bdL (n:Nat):List Pn→List Nat
 | []=>[]
 | p::ps=>Pn.bd n p::Pn.bdL n ps
def bdK (n:Nat) (es:List Ex):List Nat→Nat
 | []=>n
 | [a]=>a
 | a::b::_=>if es=[]then a+b else a*b
end
theorem AB7 (n:Nat) (t:Int):(Pn.scan t).bd n=n:=by simp[Pn.scan,Pn.bd,Pn.bdL,bdK]
theorem qJ (n:Nat) (k t:Int) (es:List Ex) (cs:List Int) (a:Pn):(Pn.mk k t es cs [a]).bd n=a.bd n:=by simp[Pn.bd,Pn.bdL,bdK]
theorem QR (n:Nat) (k t:Int) (es:List Ex) (cs:List Int) (a b:Pn):(Pn.mk k t es cs [a,b]).bd n=if es=[]then a.bd n+b.bd n else a.bd n*b.bd n:=by simp[Pn.bd,Pn.bdL,bdK]
theorem ASC {n:Nat} (hn:1≤n):∀ p:Pn,1≤p.bd n:=by
 intro p
 induction p using Pn.ind with
 | h k t es cs ks ih =>
  match ks,ih with
  | [],_=>simp[Pn.bd,Pn.bdL,bdK];exact hn
  | [a],ih=>rw[qJ];exact ih a (by simp)
  | a::b::l,ih =>
   have h1:=ih a (by simp);have h2:=ih b (by simp);simp only[Pn.bd,Pn.bdL,bdK];split
   ·omega
   ·exact Nat.mul_pos h1 h2
theorem Aa4 {ws:List Int} {db:List Tbl} {n:Nat} (hn:1≤n) (hws:ws=db.map Tbl.w) (hdb:∀ t∈db,t.ok=true∧t.rows.length≤n):∀ (p:Pn) (lv:Nat),p.wd ws lv≠0→p.bd n≤400→p.fit db=true∧(p.evP db).rows.length≤p.bd n:=by
 intro p
 induction p using Pn.ind with
 | h k t es cs ks ih =>
  intro lv h hb;have hsh:=kM h;generalize hp:Pn.mk k t es cs ks=p at hsh h hb;have hk:ks=p.kids:=by rw[← hp];rfl
  subst hk;rw[Pn.qV]
  cases hsh with
  | scan t W h0 h1 hW =>
   rw[hws,zJ]at h1;obtain⟨s,hs,rfl⟩:=xE.1 h1;have:=hdb s (zV hs);rw[AO6,wP,AB7,hs];rw[AB7]at hb;simp only[zC];have h3:=(sI s.w s.rows).2;exact⟨⟨by omega,by simp[Pn.scan]⟩,by omega⟩
  | filt m e a h1 ha he =>
   unfold filt at hb;rw[qJ]at hb;obtain⟨i1,i2⟩:=ih a (by simp[filt]) m ha hb;rw[ABZ,mJ];have h3:=yG (isT e) (a.evP db).rows;have h4:=(sI (a.evP db).w ((a.evP db).rows.filter (isT e))).2;refine⟨⟨by omega,by simp[filt,i1]⟩,?_⟩;unfold filt;rw[qJ];omega
  | proj m es a h1 ha hl he =>
   unfold proj at hb;rw[qJ]at hb;obtain⟨i1,i2⟩:=ih a (by simp[proj]) m ha hb;rw[ABY,jT];have h4:=(sI es.length ((a.evP db).rows.map fun r=>es.map (Ex.ev r))).2;rw[xZ]at h4 ⊢;refine⟨⟨by omega,by simp[proj,i1]⟩,?_⟩;unfold proj;rw[qJ];omega
  | pair m k e a b h1 hk ha hb' hl he =>
   unfold aX at hb;rw[QR,if_neg (by simp)]at hb;have pa:=ASC hn a;have pb:=ASC hn b;have la:a.bd n≤a.bd n*b.bd n:=Nat.le_mul_of_pos_right _ pb;have lb:b.bd n≤a.bd n*b.bd n:=Nat.le_mul_of_pos_left _ pa;obtain⟨i1,i2⟩:=ih a (by simp[aX]) m ha (by omega);obtain⟨i3,i4⟩:=ih b (by simp[aX]) m hb' (by omega);rw[RJ db hk,jU db hk];have h3:=LK e (decide (k=5)) (a.evP db) (b.evP db);have h4:=(sI ((a.evP db).w+(b.evP db).w) (dX e (decide (k=5)) (a.evP db) (b.evP db))).2;have h5:(a.evP db).rows.length*(if decide (k=5)=true then max 1 (b.evP db).rows.length else(b.evP db).rows.length)≤a.bd n*b.bd n:=zC2 i2 (by split<;>omega);refine⟨⟨by omega,by simp[aX,i1,i3]⟩,?_⟩;unfold aX;rw[QR,if_neg (by simp)];omega
  | union m a b h1 ha hb' =>
   unfold bU at hb;rw[QR,if_pos rfl]at hb;obtain⟨i1,i2⟩:=ih a (by simp[bU]) m ha (by omega);obtain⟨i3,i4⟩:=ih b (by simp[bU]) m (by rw[hb'];exact ha) (by omega);rw[VH,mZ];have h4:=(sI (a.evP db).w ((a.evP db).rows++(b.evP db).rows)).2;rw[zQ]at h4 ⊢;refine⟨⟨by omega,by simp[bU,i1,i3]⟩,?_⟩;unfold bU;rw[QR,if_pos rfl];omega
  | dist m a h1 ha =>
   rw[qJ]at hb;obtain⟨i1,i2⟩:=ih a (by simp) m ha hb;rw[AO7,qH,qJ];have h3:=(kJ (a.evP db).rows).length_le;have h4:=(sI (a.evP db).w (eX (a.evP db).rows)).2;exact⟨⟨by omega,by simp[i1]⟩,by omega⟩
  | group m cs a h1 ha hc ho =>
   rw[qJ]at hb;obtain⟨i1,i2⟩:=ih a (by simp) m ha hb;rw[AIW,oV,qJ];have h3:=(kY cs (fun _=>True) (a.evP db).rows (fun _ _=>trivial)).2.1;have h5:(fP cs (a.evP db).rows).length=(groups cs (a.evP db).rows).length:=by simp[fP]
   have h4:=(sI ((cs.length:Int)+1) (fP cs (a.evP db).rows)).2;exact⟨⟨by omega,by simp[i1]⟩,by omega⟩
def Th (P:Pn) (j j':Nat) (u u':Int):Prop:=P.thin∧(j'≤j∧u'≤u∧∀ n:Nat,1≤n→P.bd n≤2 ^ (u-u').toNat*n ^ (j-j'+1))∧(P.exprs=[]→P.kids.length=2→P.kind=6)
theorem Th.scan {t:Int} (h:(Pn.scan t).thin) (j:Nat) (u:Int):Th (.scan t) j j u u:=by
 refine⟨h,⟨Nat.le_refl _,Int.le_refl _,fun n _=>?_⟩,by simp[Pn.scan]⟩;rw[AB7];simp
theorem Th.one {k t:Int} {es:List Ex} {cs:List Int} {K:Pn} {j j1:Nat} {u u1:Int} (hth:(Pn.mk k t es cs [K]).thin) (h:Th K j j1 u u1):Th (.mk k t es cs [K]) j j1 u u1:=by
 refine⟨hth,⟨h.2.1.1,h.2.1.2.1,fun n hn=>?_⟩,by simp⟩;rw[qJ];exact h.2.1.2.2 n hn
theorem Th.skip {k t:Int} {es:List Ex} {cs:List Int} {K:Pn} {j j1 j2:Nat} {u u1 u2:Int} (hth:(Pn.mk k t es cs [K]).thin) (h:Th K j j1 u u1) (h2:j2≤j1) (h3:u2≤u1):Th (.mk k t es cs [K]) j j2 u u2:=by
 obtain⟨-,⟨g1,g2,g3⟩,-⟩:=h;refine⟨hth,⟨by omega,by omega,fun n hn=>?_⟩,by simp⟩;rw[qJ];refine xW (g3 n hn) (zC2 (zE2 (by omega) (by omega)) (zE2 hn (by omega)))
theorem Th.un {e:Ex} {K:Pn} {j j1:Nat} {u u1:Int} (hth:(Pn.mk 6 0 [] [] [K, .mk 2 0 [e] [] [K]]).thin) (h:Th K j j1 u u1):Th (.mk 6 0 [] [] [K, .mk 2 0 [e] [] [K]]) j j1 u (u1-1):=by
 obtain⟨-,⟨g1,g2,g3⟩,-⟩:=h;refine⟨hth,⟨g1,by omega,fun n hn=>?_⟩,by simp⟩;rw[QR,if_pos rfl,qJ];have:=g3 n hn;rw[show(u-(u1-1)).toNat=(u-u1).toNat+1 by omega,zE8,yU (2 ^ (u-u1).toNat) 2,Nat.mul_assoc];omega
theorem Th.jn {z:Int} {e:Ex} {K O:Pn} {j j1 j2:Nat} {u u1 u2:Int} (hth:(Pn.mk z 0 [e] [] [K,O]).thin) (hj:j1≠0) (h:Th K j j1 u u1) (h2:Th O (j1-1) j2 u1 u2):Th (.mk z 0 [e] [] [K,O]) j j2 u u2:=by
 obtain⟨-,⟨g1,g2,g3⟩,-⟩:=h;obtain⟨-,⟨k1,k2,k3⟩,-⟩:=h2;refine⟨hth,⟨by omega,by omega,fun n hn=>?_⟩,by simp⟩;rw[QR,if_neg (by simp)];have:=zC2 (g3 n hn) (k3 n hn);refine xW this (Nat.le_of_eq ?_);have e1:2 ^ (u-u2).toNat=2 ^ (u-u1).toNat*2 ^ (u1-u2).toNat:=by rw[← Nat.pow_add];congr 1;omega
 have e2:n ^ (j-j2+1)=n ^ (j-j1+1)*n ^ (j1-1-j2+1):=by rw[← Nat.pow_add];congr 1;omega
 rw[e1,e2];exact Nat.mul_mul_mul_comm _ _ _ _
def BdV (P:Pn):Prop:=∀ (ws:List Int) (lv n:Nat),1≤n→P.wd ws lv≠0→P.bd n≤2*n ^ 2
theorem Th.bdV {P:Pn} {j':Nat} {u':Int} (h:Th P 1 j' 1 u') (hu:0≤u'):∀ n:Nat,1≤n→P.bd n≤2*n ^ 2:=by
 intro n hn;have:=h.2.1.2.2 n hn;refine xW this (zC2 (zE2 (by omega) (show(1-u').toNat≤1 by omega)) (zE2 hn (by omega)))
theorem AVT (n:Nat) (P:Pn) (k t:Int) (cs:List Int):(Pn.mk k t P.exprs cs P.kids).bd n=P.bd n:=by
 obtain⟨k',t',es,cs',ks⟩:=P;simp[Pn.bd,Pn.exprs,Pn.kids]
theorem AQ1 {P:Pn} {e:Ex} (h:∀ n:Nat,1≤n→P.bd n≤2*n ^ 2) (h6:P.exprs=[]→P.kids.length=2→P.kind=6):BdV (.mk P.kind P.table (P.exprs++[e]) P.cols P.kids):=by
 intro ws lv n hn hw;have h0:=h n hn;obtain⟨k,t,es,cs,ks⟩:=P;simp only[Pn.dL,Pn.fK,Pn.gG,Pn.kP,Pn.gT]at *
 match ks,h0,h6,hw with
 | [],h0,_,_=>simpa [Pn.bd,Pn.bdL,bdK]using h0
 | [a],h0,_,_=>rw[qJ]at h0 ⊢;exact h0
 | a::b::l,h0,h6,hw =>
  by_cases he:es=[]
  ·subst he;have hsh:=kM hw;generalize hp:Pn.mk k t ([]++[e]) cs (a::b::l)=p at hsh
   cases hsh<;>simp only[Pn.scan,filt,proj,aX,bU,Pn.mk.injEq,xU,reduceCtorEq,and_false,List.cons.injEq,false_and,and_true]at hp
   rename_i hk _ _ _ _;obtain⟨rfl,_,_,_,_,_,rfl⟩:=hp;have:=h6 rfl rfl;omega
  ·have e1:(Pn.mk k t (es++[e]) cs (a::b::l)).bd n=(Pn.mk k t es cs (a::b::l)).bd n:=by
    simp only[Pn.bd,Pn.bdL,bdK];rw[if_neg (by simp),if_neg he]
   rw[e1];exact h0
def Rt (P:Pn):Prop:=P.thin∧(∀ n:Nat,1≤n→P.bd n≤2*n ^ 2)∧(P.exprs=[]→P.kids.length=2→P.kind=6)
theorem Th.rt {P:Pn} {j':Nat} {u':Int} (h:Th P 1 j' 1 u') (hu:0≤u'):Rt P:=⟨h.1,h.bdV hu,h.2.2⟩
theorem Rt.one {k t:Int} {es:List Ex} {cs:List Int} {P:Pn} (hth:(Pn.mk k t es cs [P]).thin) (h:Rt P):Rt (.mk k t es cs [P]):=⟨hth,fun n hn=>by rw[qJ];exact h.2.1 n hn,by simp⟩
theorem Rt.head {P:Pn} {k t:Int} {cs:List Int} (h:Rt P):BdV (.mk k t P.exprs cs P.kids):=fun ws lv n hn _=>by rw[AVT];exact h.2.1 n hn
theorem Rt.all {P:Pn} (h:Rt P):BdV P:=fun ws lv n hn _=>h.2.1 n hn
end Go.Av
namespace Go.Proofs.YtnmimmaahhlgeaaGreat.P
open Go Go.Av
set_option maxRecDepth 4000
set_option maxHeartbeats 8000000
def PSt (l:List UInt8) (ws:List Int) (k:Nat) (j u p:Int):StL:=[some (.box [.own 1 0, .osl 2 1 0 k, .int j, .int u]),Rd l p,some (.arr 1 (aH ws))]
def pJ (l:List UInt8) (ws:List Int) (k d j c:Nat):Prop:=∀ p u:Int,0≤p→p+c<300000000→0≤u→u≤1→∃ (P:Pn) (p' u':Int) (j':Nat),
    aG CP 129 [.own 0 0, .int d] (PSt l ws k j u p)=some (.i (.agg P.cells),PSt l ws k j' u' p')∧Th P j j' u u'∧p≤p'∧p'≤p+c∧j'≤j∧0≤u'∧u'≤1
theorem P6 (t:Int):(Pn.scan t).cells=[.int 1, .int t, .isl [], .isl [], .isl []]:=by simp[Pn.scan,Pn.cells,Ex.aB,aH,Pn.aB]
theorem VS {l:List UInt8} (hl:l.length≤2000) {ws:List Int} {k:Nat} (j:Nat):pJ l ws k 0 j 1:=by
 intro p u h0 h1 hu0 hu1;obtain⟨t,ht,-,-⟩:=bK l p k h0 (by omega) hl;refine⟨.scan t,p+1,u,j,?_,Th.scan (Pn.K6 t) _ _,by omega,by omega,by omega,by omega,by omega⟩;rw[aD rfl Tryz.func129 rfl rfl];simp[PSt,ht,P6]
structure PlH (l:List UInt8) (ws:List Int) (k d j c2:Nat) (p u t v W kk p1 u1:Int) (j1:Nat) (K:Pn):Prop where
 hd:d<100
 h1:p1+400+c2<300000000
 hp1:0≤p1
 hu0:0≤u1
 hu1:u1≤1
 hW0:0≤W
 hW6:W≤6
 hKB:Th K j j1 u u1
 ht:aG C0 40 [.own 0 0, .int k] [Rd l p]=some (.int t,[Rd l (p+1)])
 hv:aG C0 40 [.own 0 0, .int 6] [Rd l (p+1)]=some (.int v,[Rd l (p+1+1)])
 v0:¬ v=0
 hkid:aG CP 129 [.own 0 0, .int d] (PSt l ws k j u (p+1+1))=some (.i (.agg K.cells),PSt l ws k j1 u1 p1)
 hW:aG CP 45 [.i (.agg K.cells), .osl 0 1 0 k, .int 8] [some (.arr 1 (aH ws))]=some (.int W,[some (.arr 1 (aH ws))])
 hkk:aG C0 40 [.own 0 0, .int 10] [Rd l p1]=some (.int kk,[Rd l (p1+1)])
abbrev PlC (l:List UInt8) (ws:List Int) (k d j c2:Nat) (p u p1:Int) (j1:Nat):Prop:=∃ (P:Pn) (p' u':Int) (j':Nat),aG CP 129 [.own 0 0, .int ((d+1:Nat):Int)] (PSt l ws k j u p)=some (.i (.agg P.cells),PSt l ws k j' u' p')∧Th P j j' u u'∧p1≤p'∧p'≤p1+400+c2∧j'≤j1∧0≤u'∧u'≤1
theorem W9 {l:List UInt8} (hl:l.length≤2000) {ws:List Int} {k:Nat} {d j c2:Nat} {p u t v W kk p1 u1:Int} {j1:Nat} {K:Pn} (H:PlH l ws k d j c2 p u t v W kk p1 u1 j1 K) (hq:kk=0):PlC l ws k d j c2 p u p1 j1:=by
 obtain⟨hd,h1,hp1,hu0,hu1,hW0,hW6,hKB,ht,hv,v0,hkid,hW,hkk⟩:=H;have we:IntKind.i64.wrap (d:Int)=d:=wrO;have hK:=hKB.1;have wn:¬ ((d:Int)+1=0):=by omega
 simp only[PSt]at hkid;rw[Pn.aA K]at hkid hW;obtain⟨e,p2,he,a1,a2,a3⟩:=aQ l hl W (p1+1) (by omega) (by omega);have hf:=gH e K;rw[bQ,Pn.aA K,Ex.aA e]at hf;rw[Ex.aA e]at he;refine⟨bZ e K,p2,u1,j1,?_,Th.one (d9 (by omega) hK) hKB,by omega,by omega,by omega,by omega,by omega⟩;rw[aD rfl Tryz.func129 rfl rfl];simp[PSt,ht,hv,v0,we,hkid,hW,hkk,wn,hq,he,hf,bQ,Pn.aA K,Ex.aA e]
theorem VZ {l:List UInt8} (hl:l.length≤2000) {ws:List Int} {k:Nat} {d j c2:Nat} {p u t v W kk p1 u1:Int} {j1:Nat} {K:Pn} (H:PlH l ws k d j c2 p u t v W kk p1 u1 j1 K) (hq:kk=1):PlC l ws k d j c2 p u p1 j1:=by
 obtain⟨hd,h1,hp1,hu0,hu1,hW0,hW6,hKB,ht,hv,v0,hkid,hW,hkk⟩:=H;have we:IntKind.i64.wrap (d:Int)=d:=wrO;have hK:=hKB.1;have wn:¬ ((d:Int)+1=0):=by omega
 simp only[PSt]at hkid;rw[Pn.aA K]at hkid hW;obtain⟨e,p2,he,a1,a2,a3⟩:=aQ l hl W (p1+1) (by omega) (by omega);have hf:=gH e K;rw[bQ,Pn.aA K,Ex.aA e]at hf;rw[Ex.aA e]at he;refine⟨bZ e K,p2,u1,j1,?_,Th.one (d9 (by omega) hK) hKB,by omega,by omega,by omega,by omega,by omega⟩;rw[aD rfl Tryz.func129 rfl rfl];simp[PSt,ht,hv,v0,we,hkid,hW,hkk,wn,hq,he,hf,bQ,Pn.aA K,Ex.aA e]
theorem VY {l:List UInt8} (hl:l.length≤2000) {ws:List Int} {k:Nat} {d j c2:Nat} {p u t v W kk p1 u1:Int} {j1:Nat} {K:Pn} (H:PlH l ws k d j c2 p u t v W kk p1 u1 j1 K) (hq:kk=2):PlC l ws k d j c2 p u p1 j1:=by
 obtain⟨hd,h1,hp1,hu0,hu1,hW0,hW6,hKB,ht,hv,v0,hkid,hW,hkk⟩:=H;have we:IntKind.i64.wrap (d:Int)=d:=wrO;have hK:=hKB.1;have wn:¬ ((d:Int)+1=0):=by omega
 simp only[PSt]at hkid;rw[Pn.aA K]at hkid hW;obtain⟨e,p2,he,a1,a2,a3⟩:=aQ l hl W (p1+1) (by omega) (by omega);have hf:=gH e K;rw[bQ,Pn.aA K,Ex.aA e]at hf;rw[Ex.aA e]at he;refine⟨bZ e K,p2,u1,j1,?_,Th.one (d9 (by omega) hK) hKB,by omega,by omega,by omega,by omega,by omega⟩;rw[aD rfl Tryz.func129 rfl rfl];simp[PSt,ht,hv,v0,we,hkid,hW,hkk,wn,hq,he,hf,bQ,Pn.aA K,Ex.aA e]
theorem RP {l:List UInt8} (hl:l.length≤2000) {ws:List Int} {k:Nat} {d j c2:Nat} {p u t v W kk p1 u1:Int} {j1:Nat} {K:Pn} (H:PlH l ws k d j c2 p u t v W kk p1 u1 j1 K) (hq:kk=8):PlC l ws k d j c2 p u p1 j1:=by
 obtain⟨hd,h1,hp1,hu0,hu1,hW0,hW6,hKB,ht,hv,v0,hkid,hW,hkk⟩:=H;have we:IntKind.i64.wrap (d:Int)=d:=wrO;have hK:=hKB.1;have wn:¬ ((d:Int)+1=0):=by omega
 simp only[PSt]at hkid;rw[Pn.aA K]at hkid hW;refine⟨.mk 7 0 [] [] [K],p1+1,u1,j1,?_,Th.one (by simp[Pn.thin,Pn.kC,hK]) hKB,by omega,by omega,by omega,by omega,by omega⟩;rw[aD rfl Tryz.func129 rfl rfl];simp[PSt,ht,hv,v0,we,hkid,hW,hkk,wn,hq,Pn.cells,Ex.aB,aH,Pn.aB,Pn.aA K]
theorem VW {l:List UInt8} (hl:l.length≤2000) {ws:List Int} {k:Nat} {d j c2:Nat} {p u t v W kk p1 u1:Int} {j1:Nat} {K:Pn} (H:PlH l ws k d j c2 p u t v W kk p1 u1 j1 K) (hj:j1=0) (hq:kk=5):PlC l ws k d j c2 p u p1 j1:=by
 obtain⟨hd,h1,hp1,hu0,hu1,hW0,hW6,hKB,ht,hv,v0,hkid,hW,hkk⟩:=H;have we:IntKind.i64.wrap (d:Int)=d:=wrO;have hK:=hKB.1;have wn:¬ ((d:Int)+1=0):=by omega
 simp only[PSt]at hkid;rw[Pn.aA K]at hkid hW;obtain⟨e,p2,he,a1,a2,a3⟩:=aQ l hl W (p1+1) (by omega) (by omega);have hf:=gH e K;rw[bQ,Pn.aA K,Ex.aA e]at hf;rw[Ex.aA e]at he;refine⟨bZ e K,p2,u1,j1,?_,Th.one (d9 (by omega) hK) hKB,by omega,by omega,by omega,by omega,by omega⟩;rw[aD rfl Tryz.func129 rfl rfl];simp[PSt,ht,hv,v0,we,hkid,hW,hkk,wn,hq,he,hf,bQ,Pn.aA K,Ex.aA e,hj]
theorem AF1 {l:List UInt8} (hl:l.length≤2000) {ws:List Int} {k:Nat} {d j c2:Nat} {p u t v W kk p1 u1:Int} {j1:Nat} {K:Pn} (H:PlH l ws k d j c2 p u t v W kk p1 u1 j1 K) (hj:j1≠0) (hw4:¬ W≤4) (hq:kk=5):PlC l ws k d j c2 p u p1 j1:=by
 obtain⟨hd,h1,hp1,hu0,hu1,hW0,hW6,hKB,ht,hv,v0,hkid,hW,hkk⟩:=H;have we:IntKind.i64.wrap (d:Int)=d:=wrO;have hK:=hKB.1;have wn:¬ ((d:Int)+1=0):=by omega
 simp only[PSt]at hkid;rw[Pn.aA K]at hkid hW;have hj':0<j1:=by omega
 obtain⟨e,p2,he,a1,a2,a3⟩:=aQ l hl W (p1+1) (by omega) (by omega);have hf:=gH e K;rw[bQ,Pn.aA K,Ex.aA e]at hf;rw[Ex.aA e]at he;refine⟨bZ e K,p2,u1,j1,?_,Th.one (d9 (by omega) hK) hKB,by omega,by omega,by omega,by omega,by omega⟩;rw[aD rfl Tryz.func129 rfl rfl];simp[PSt,ht,hv,v0,we,hkid,hW,hkk,wn,hq,he,hf,bQ,Pn.aA K,Ex.aA e,hj',hj,hw4]
theorem VV {l:List UInt8} (hl:l.length≤2000) {ws:List Int} {k:Nat} {d j c2:Nat} {p u t v W kk p1 u1:Int} {j1:Nat} {K:Pn} (H:PlH l ws k d j c2 p u t v W kk p1 u1 j1 K) (hj:j1=0) (hq:kk=6):PlC l ws k d j c2 p u p1 j1:=by
 obtain⟨hd,h1,hp1,hu0,hu1,hW0,hW6,hKB,ht,hv,v0,hkid,hW,hkk⟩:=H;have we:IntKind.i64.wrap (d:Int)=d:=wrO;have hK:=hKB.1;have wn:¬ ((d:Int)+1=0):=by omega
 simp only[PSt]at hkid;rw[Pn.aA K]at hkid hW;obtain⟨e,p2,he,a1,a2,a3⟩:=aQ l hl W (p1+1) (by omega) (by omega);have hf:=gH e K;rw[bQ,Pn.aA K,Ex.aA e]at hf;rw[Ex.aA e]at he;refine⟨bZ e K,p2,u1,j1,?_,Th.one (d9 (by omega) hK) hKB,by omega,by omega,by omega,by omega,by omega⟩;rw[aD rfl Tryz.func129 rfl rfl];simp[PSt,ht,hv,v0,we,hkid,hW,hkk,wn,hq,he,hf,bQ,Pn.aA K,Ex.aA e,hj]
theorem AF0 {l:List UInt8} (hl:l.length≤2000) {ws:List Int} {k:Nat} {d j c2:Nat} {p u t v W kk p1 u1:Int} {j1:Nat} {K:Pn} (H:PlH l ws k d j c2 p u t v W kk p1 u1 j1 K) (hj:j1≠0) (hw4:¬ W≤4) (hq:kk=6):PlC l ws k d j c2 p u p1 j1:=by
 obtain⟨hd,h1,hp1,hu0,hu1,hW0,hW6,hKB,ht,hv,v0,hkid,hW,hkk⟩:=H;have we:IntKind.i64.wrap (d:Int)=d:=wrO;have hK:=hKB.1;have wn:¬ ((d:Int)+1=0):=by omega
 simp only[PSt]at hkid;rw[Pn.aA K]at hkid hW;have hj':0<j1:=by omega
 obtain⟨e,p2,he,a1,a2,a3⟩:=aQ l hl W (p1+1) (by omega) (by omega);have hf:=gH e K;rw[bQ,Pn.aA K,Ex.aA e]at hf;rw[Ex.aA e]at he;refine⟨bZ e K,p2,u1,j1,?_,Th.one (d9 (by omega) hK) hKB,by omega,by omega,by omega,by omega,by omega⟩;rw[aD rfl Tryz.func129 rfl rfl];simp[PSt,ht,hv,v0,we,hkid,hW,hkk,wn,hq,he,hf,bQ,Pn.aA K,Ex.aA e,hj',hj,hw4]
theorem VU {l:List UInt8} (hl:l.length≤2000) {ws:List Int} {k:Nat} {d j c2:Nat} {p u t v W kk p1 u1:Int} {j1:Nat} {K:Pn} (H:PlH l ws k d j c2 p u t v W kk p1 u1 j1 K) (hu:¬ 0<u1) (hq:kk=7):PlC l ws k d j c2 p u p1 j1:=by
 obtain⟨hd,h1,hp1,hu0,hu1,hW0,hW6,hKB,ht,hv,v0,hkid,hW,hkk⟩:=H;have we:IntKind.i64.wrap (d:Int)=d:=wrO;have hK:=hKB.1;have wn:¬ ((d:Int)+1=0):=by omega
 simp only[PSt]at hkid;rw[Pn.aA K]at hkid hW;obtain⟨e,p2,he,a1,a2,a3⟩:=aQ l hl W (p1+1) (by omega) (by omega);have hf:=gH e K;rw[bQ,Pn.aA K,Ex.aA e]at hf;rw[Ex.aA e]at he;refine⟨bZ e K,p2,u1,j1,?_,Th.one (d9 (by omega) hK) hKB,by omega,by omega,by omega,by omega,by omega⟩;rw[aD rfl Tryz.func129 rfl rfl];simp[PSt,ht,hv,v0,we,hkid,hW,hkk,wn,hq,he,hf,bQ,Pn.aA K,Ex.aA e,hu]
theorem AF2 {l:List UInt8} (hl:l.length≤2000) {ws:List Int} {k:Nat} {d j c2:Nat} {p u t v W kk p1 u1:Int} {j1:Nat} {K:Pn} (H:PlH l ws k d j c2 p u t v W kk p1 u1 j1 K) (hu:0<u1) (hq:kk=7):PlC l ws k d j c2 p u p1 j1:=by
 obtain⟨hd,h1,hp1,hu0,hu1,hW0,hW6,hKB,ht,hv,v0,hkid,hW,hkk⟩:=H;have we:IntKind.i64.wrap (d:Int)=d:=wrO;have hK:=hKB.1;have wn:¬ ((d:Int)+1=0):=by omega
 simp only[PSt]at hkid;rw[Pn.aA K]at hkid hW;obtain⟨e,p2,he,a1,a2,a3⟩:=aQ l hl W (p1+1) (by omega) (by omega);have hf:=gH e K;have hc:=MN K hK;have wu:IntKind.i64.wrap (u1-1)=u1-1:=wrO;rw[bQ,Pn.aA K,Ex.aA e]at hf;rw[Pn.aA K]at hc;rw[Ex.aA e]at he;refine⟨.mk 6 0 [] [] [K,bZ e K],p2,u1-1,j1,?_,Th.un (by have:=d9 (e:=e) (by omega) hK;unfold bZ at this;simp[Pn.thin,Pn.kC,hK]at this ⊢;exact this) hKB,by omega,by omega,by omega,by omega,by omega⟩;rw[aD rfl Tryz.func129 rfl rfl];simp[PSt,ht,hv,v0,we,hkid,hW,hkk,wn,hq,he,hf,bQ,Pn.aA K,Ex.aA e,hu,hc,wu,Pn.aZ,Ex.aB,aH,Pn.aB]
theorem ZU {l:List UInt8} (hl:l.length≤2000) {ws:List Int} {k:Nat} {d j c2:Nat} {p u t v W kk p1 u1:Int} {j1:Nat} {K:Pn} (H:PlH l ws k d j c2 p u t v W kk p1 u1 j1 K) (hw1:¬ 1<W) (hq:kk=9):PlC l ws k d j c2 p u p1 j1:=by
 obtain⟨hd,h1,hp1,hu0,hu1,hW0,hW6,hKB,ht,hv,v0,hkid,hW,hkk⟩:=H;have we:IntKind.i64.wrap (d:Int)=d:=wrO;have hK:=hKB.1;have wn:¬ ((d:Int)+1=0):=by omega
 simp only[PSt]at hkid;rw[Pn.aA K]at hkid hW;refine⟨.mk 8 0 [] [] [K],p1+1,u1,j1,?_,Th.one (by simp[Pn.thin,Pn.kC,hK]) hKB,by omega,by omega,by omega,by omega,by omega⟩;rw[aD rfl Tryz.func129 rfl rfl];simp[PSt,ht,hv,v0,we,hkid,hW,hkk,wn,hq,hw1,Pn.aZ,Ex.aB,aH,Pn.aB,Pn.aA K]
theorem ZT {l:List UInt8} (hl:l.length≤2000) {ws:List Int} {k:Nat} {d j c2:Nat} {p u t v W kk p1 u1:Int} {j1:Nat} {K:Pn} (H:PlH l ws k d j c2 p u t v W kk p1 u1 j1 K) (hw1:1<W) (hq:kk=9):PlC l ws k d j c2 p u p1 j1:=by
 obtain⟨hd,h1,hp1,hu0,hu1,hW0,hW6,hKB,ht,hv,v0,hkid,hW,hkk⟩:=H;have we:IntKind.i64.wrap (d:Int)=d:=wrO;have hK:=hKB.1;have wn:¬ ((d:Int)+1=0):=by omega
 simp only[PSt]at hkid;rw[Pn.aA K]at hkid hW;obtain⟨g,hg,-,-⟩:=bK l (p1+1) W (by omega) (by omega) hl;refine⟨.mk 8 0 [] [g] [K],p1+1+1,u1,j1,?_,Th.one (by simp[Pn.thin,Pn.kC,hK]) hKB,by omega,by omega,by omega,by omega,by omega⟩;rw[aD rfl Tryz.func129 rfl rfl];simp[PSt,ht,hv,v0,we,hkid,hW,hkk,wn,hq,hg,hw1,Pn.aZ,Ex.aB,aH,Pn.aB,Pn.aA K]
theorem AF6 {l:List UInt8} (hl:l.length≤2000) {ws:List Int} (hw:∀ w∈ws,0≤w∧w≤6) (hwl:ws.length<1000000) {k:Nat} (hk0:0<k) (hkl:k≤ws.length) {d j c2:Nat} {p u t v W kk p1 u1:Int} {j1:Nat} {K:Pn} (H:PlH l ws k d j c2 p u t v W kk p1 u1 j1 K) (hj:j1≠0) (hjb:j1<1000) (hw4:W≤4) (hoth:∀ y:Nat,y≤1→pJ l ws k y (j1-1) c2) (hq:kk=5):PlC l ws k d j c2 p u p1 j1:=by
 obtain⟨hd,h1,hp1,hu0,hu1,hW0,hW6,hKB,ht,hv,v0,hkid,hW,hkk⟩:=H;have we:IntKind.i64.wrap (d:Int)=d:=wrO;have hK:=hKB.1;have wn:¬ ((d:Int)+1=0):=by omega
 simp only[PSt]at hkid;rw[Pn.aA K]at hkid hW;have hj':0<j1:=by omega
 have wj:IntKind.i64.wrap ((j1:Int)-1)=((j1-1:Nat):Int):=by rw[wrO];omega
 obtain⟨x,hx,hx1,-⟩:=bK l (p1+1) 2 (by omega) (by omega) hl;obtain⟨x0,x1⟩:=hx1 (by omega)
 obtain⟨y,rfl⟩:∃ y:Nat,x=y:=⟨x.toNat,by omega⟩
 obtain⟨O,p2,u2,j2,hO,hOt,b1,b2,b3,b4,b5⟩:=hoth y (by omega) (p1+1+1) u1 (by omega) (by omega) hu0 hu1;have hV:=iR hw hwl hk0 hkl O hOt.1;have hVr:=Pn.mH (ws:=ws.take k) (fun w hm=>hw w (zH hm)) O 8;generalize O.wd (ws.take k) 8=V at hV hVr;have wv:IntKind.i64.wrap (W+V)=W+V:=wrO;simp only[PSt]at hO;rw[Pn.aA O]at hO hV;by_cases hs:W+V≤6
 ·have h1:=rJ l p2 (by omega) (by omega) hl [[.int 4],[.int 5]] (by simp) (by simp) (by simp);obtain⟨z,hz,hzm⟩:=h1;obtain⟨e,p3,he,a1,a2,a3⟩:=aQ l hl (W+V) (p2+1) (by omega) (by omega);rw[Ex.aA e]at he;simp only[zI,yJ,zB,Nat.reduceAdd]at hz;have het:=Ex.dJ e (by omega);refine⟨.mk z 0 [e] [] [K,O],p3,u2,j2,?_,Th.jn (by simp[Pn.thin,Pn.kC,hK,hOt.1,het]) hj hKB hOt,by omega,by omega,by omega,by omega,by omega⟩;rw[aD rfl Tryz.func129 rfl rfl];simp[PSt,ht,hv,v0,we,hkid,hW,hkk,wn,hq,hj',hj,hw4,wj,hx,hO,hV,wv,hs,hz,he,Pn.aZ,Ex.aB,aH,Pn.aB,Pn.aA K,Pn.aA O,Ex.aA e]
 ·obtain⟨e,p3,he,a1,a2,a3⟩:=aQ l hl W p2 (by omega) (by omega);have hf:=gH e K;rw[bQ,Pn.aA K,Ex.aA e]at hf;rw[Ex.aA e]at he;refine⟨bZ e K,p3,u2,j2,?_,Th.skip (d9 (by omega) hK) hKB (by omega) hOt.2.1.2.1,by omega,by omega,by omega,by omega,by omega⟩;rw[aD rfl Tryz.func129 rfl rfl];simp[PSt,ht,hv,v0,we,hkid,hW,hkk,wn,hq,hj',hj,hw4,wj,hx,hO,hV,wv,hs,he,hf,bQ,Pn.aA K,Ex.aA e]
theorem AF5 {l:List UInt8} (hl:l.length≤2000) {ws:List Int} (hw:∀ w∈ws,0≤w∧w≤6) (hwl:ws.length<1000000) {k:Nat} (hk0:0<k) (hkl:k≤ws.length) {d j c2:Nat} {p u t v W kk p1 u1:Int} {j1:Nat} {K:Pn} (H:PlH l ws k d j c2 p u t v W kk p1 u1 j1 K) (hj:j1≠0) (hjb:j1<1000) (hw4:W≤4) (hoth:∀ y:Nat,y≤1→pJ l ws k y (j1-1) c2) (hq:kk=6):PlC l ws k d j c2 p u p1 j1:=by
 obtain⟨hd,h1,hp1,hu0,hu1,hW0,hW6,hKB,ht,hv,v0,hkid,hW,hkk⟩:=H;have we:IntKind.i64.wrap (d:Int)=d:=wrO;have hK:=hKB.1;have wn:¬ ((d:Int)+1=0):=by omega
 simp only[PSt]at hkid;rw[Pn.aA K]at hkid hW;have hj':0<j1:=by omega
 have wj:IntKind.i64.wrap ((j1:Int)-1)=((j1-1:Nat):Int):=by rw[wrO];omega
 obtain⟨x,hx,hx1,-⟩:=bK l (p1+1) 2 (by omega) (by omega) hl;obtain⟨x0,x1⟩:=hx1 (by omega)
 obtain⟨y,rfl⟩:∃ y:Nat,x=y:=⟨x.toNat,by omega⟩
 obtain⟨O,p2,u2,j2,hO,hOt,b1,b2,b3,b4,b5⟩:=hoth y (by omega) (p1+1+1) u1 (by omega) (by omega) hu0 hu1;have hV:=iR hw hwl hk0 hkl O hOt.1;have hVr:=Pn.mH (ws:=ws.take k) (fun w hm=>hw w (zH hm)) O 8;generalize O.wd (ws.take k) 8=V at hV hVr;have wv:IntKind.i64.wrap (W+V)=W+V:=wrO;simp only[PSt]at hO;rw[Pn.aA O]at hO hV;by_cases hs:W+V≤6
 ·have h1:=rJ l p2 (by omega) (by omega) hl [[.int 4],[.int 5]] (by simp) (by simp) (by simp);obtain⟨z,hz,hzm⟩:=h1;obtain⟨e,p3,he,a1,a2,a3⟩:=aQ l hl (W+V) (p2+1) (by omega) (by omega);rw[Ex.aA e]at he;simp only[zI,yJ,zB,Nat.reduceAdd]at hz;have het:=Ex.dJ e (by omega);refine⟨.mk z 0 [e] [] [K,O],p3,u2,j2,?_,Th.jn (by simp[Pn.thin,Pn.kC,hK,hOt.1,het]) hj hKB hOt,by omega,by omega,by omega,by omega,by omega⟩;rw[aD rfl Tryz.func129 rfl rfl];simp[PSt,ht,hv,v0,we,hkid,hW,hkk,wn,hq,hj',hj,hw4,wj,hx,hO,hV,wv,hs,hz,he,Pn.aZ,Ex.aB,aH,Pn.aB,Pn.aA K,Pn.aA O,Ex.aA e]
 ·obtain⟨e,p3,he,a1,a2,a3⟩:=aQ l hl W p2 (by omega) (by omega);have hf:=gH e K;rw[bQ,Pn.aA K,Ex.aA e]at hf;rw[Ex.aA e]at he;refine⟨bZ e K,p3,u2,j2,?_,Th.skip (d9 (by omega) hK) hKB (by omega) hOt.2.1.2.1,by omega,by omega,by omega,by omega,by omega⟩;rw[aD rfl Tryz.func129 rfl rfl];simp[PSt,ht,hv,v0,we,hkid,hW,hkk,wn,hq,hj',hj,hw4,wj,hx,hO,hV,wv,hs,he,hf,bQ,Pn.aA K,Ex.aA e]
theorem AF4 {l:List UInt8} (hl:l.length≤2000) {ws:List Int} {k:Nat} {d j c2:Nat} {p u t v W kk p1 u1:Int} {j1:Nat} {K:Pn} (H:PlH l ws k d j c2 p u t v W kk p1 u1 j1 K) (hq:kk=3):PlC l ws k d j c2 p u p1 j1:=by
 obtain⟨hd,h1,hp1,hu0,hu1,hW0,hW6,hKB,ht,hv,v0,hkid,hW,hkk⟩:=H;have we:IntKind.i64.wrap (d:Int)=d:=wrO;have hK:=hKB.1;have wn:¬ ((d:Int)+1=0):=by omega
 simp only[PSt]at hkid;rw[Pn.aA K]at hkid hW;obtain⟨m,hm,hm1,-⟩:=bK l (p1+1) 2 (by omega) (by omega) hl;obtain⟨m0,m1⟩:=hm1 (by omega);have w2:IntKind.i64.wrap (2:Int)=2:=wrO;have w1:=bD;have w0:IntKind.i64.wrap (0:Int)=0:=wrO;obtain⟨x1,hx1,hy1,-⟩:=bK l (p1+1+1) 2 (by omega) (by omega) hl;obtain⟨x1a,x1b⟩:=hy1 (by omega)
 obtain⟨y1,rfl⟩:∃ y:Nat,x1=y:=⟨x1.toNat,by omega⟩
 have hc1:lF y1≤9:=by rcases(show y1=0∨y1=1 by omega)with h|h<;>simp[h,lF]
 obtain⟨e1,q1,he1,c1a,c1b,c1c⟩:=rE l hl W y1 (by omega) (by omega) ((p1+1+1)+1) (by omega) (by omega);rw[Ex.aA e1]at he1;have t1:=Ex.dJ e1 (by omega)
 rcases(show m=0∨m=1 by omega)with rfl|rfl
 ·refine⟨.mk 3 0 [e1] [] [K],q1,u1,j1,?_,Th.one (by simp[Pn.thin,Pn.kC,hK,t1]) hKB,by omega,by omega,by omega,by omega,by omega⟩;rw[aD rfl Tryz.func129 rfl rfl];simp[PSt,ht,hv,v0,we,hkid,hW,hkk,wn,hq,hm,w1];rw[aF];simp[hx1,he1,w0];rw[aF];simp[Pn.aZ,Ex.aB,aH,Pn.aB,Pn.aA K,Ex.aA e1,PSt]
 ·obtain⟨x2,hx2,hy2,-⟩:=bK l q1 2 (by omega) (by omega) hl;obtain⟨x2a,x2b⟩:=hy2 (by omega)
  obtain⟨y2,rfl⟩:∃ y:Nat,x2=y:=⟨x2.toNat,by omega⟩
  have hc2:lF y2≤9:=by rcases(show y2=0∨y2=1 by omega)with h|h<;>simp[h,lF]
  obtain⟨e2,q2,he2,c2a,c2b,c2c⟩:=rE l hl W y2 (by omega) (by omega) (q1+1) (by omega) (by omega);rw[Ex.aA e2]at he2;have t2:=Ex.dJ e2 (by omega);refine⟨.mk 3 0 [e1,e2] [] [K],q2,u1,j1,?_,Th.one (by simp[Pn.thin,Pn.kC,hK,t1,t2]) hKB,by omega,by omega,by omega,by omega,by omega⟩;rw[aD rfl Tryz.func129 rfl rfl];simp[PSt,ht,hv,v0,we,hkid,hW,hkk,wn,hq,hm,w2];rw[aF];simp[hx1,he1,w1];rw[aF];simp[hx2,he2,w0];rw[aF];simp[Pn.aZ,Ex.aB,aH,Pn.aB,Pn.aA K,Ex.aA e1,Ex.aA e2,PSt]
theorem AF3 {l:List UInt8} (hl:l.length≤2000) {ws:List Int} {k:Nat} {d j c2:Nat} {p u t v W kk p1 u1:Int} {j1:Nat} {K:Pn} (H:PlH l ws k d j c2 p u t v W kk p1 u1 j1 K) (hq:kk=4):PlC l ws k d j c2 p u p1 j1:=by
 obtain⟨hd,h1,hp1,hu0,hu1,hW0,hW6,hKB,ht,hv,v0,hkid,hW,hkk⟩:=H;have we:IntKind.i64.wrap (d:Int)=d:=wrO;have hK:=hKB.1;have wn:¬ ((d:Int)+1=0):=by omega
 simp only[PSt]at hkid;rw[Pn.aA K]at hkid hW;obtain⟨m,hm,hm1,-⟩:=bK l (p1+1) 2 (by omega) (by omega) hl;obtain⟨m0,m1⟩:=hm1 (by omega);have w2:IntKind.i64.wrap (2:Int)=2:=wrO;have w1:=bD;have w0:IntKind.i64.wrap (0:Int)=0:=wrO;obtain⟨x1,hx1,hy1,-⟩:=bK l (p1+1+1) 2 (by omega) (by omega) hl;obtain⟨x1a,x1b⟩:=hy1 (by omega)
 obtain⟨y1,rfl⟩:∃ y:Nat,x1=y:=⟨x1.toNat,by omega⟩
 have hc1:lF y1≤9:=by rcases(show y1=0∨y1=1 by omega)with h|h<;>simp[h,lF]
 obtain⟨e1,q1,he1,c1a,c1b,c1c⟩:=rE l hl W y1 (by omega) (by omega) ((p1+1+1)+1) (by omega) (by omega);rw[Ex.aA e1]at he1;have t1:=Ex.dJ e1 (by omega)
 rcases(show m=0∨m=1 by omega)with rfl|rfl
 ·refine⟨.mk 3 0 [e1] [] [K],q1,u1,j1,?_,Th.one (by simp[Pn.thin,Pn.kC,hK,t1]) hKB,by omega,by omega,by omega,by omega,by omega⟩;rw[aD rfl Tryz.func129 rfl rfl];simp[PSt,ht,hv,v0,we,hkid,hW,hkk,wn,hq,hm,w1];rw[aF];simp[hx1,he1,w0];rw[aF];simp[Pn.aZ,Ex.aB,aH,Pn.aB,Pn.aA K,Ex.aA e1,PSt]
 ·obtain⟨x2,hx2,hy2,-⟩:=bK l q1 2 (by omega) (by omega) hl;obtain⟨x2a,x2b⟩:=hy2 (by omega)
  obtain⟨y2,rfl⟩:∃ y:Nat,x2=y:=⟨x2.toNat,by omega⟩
  have hc2:lF y2≤9:=by rcases(show y2=0∨y2=1 by omega)with h|h<;>simp[h,lF]
  obtain⟨e2,q2,he2,c2a,c2b,c2c⟩:=rE l hl W y2 (by omega) (by omega) (q1+1) (by omega) (by omega);rw[Ex.aA e2]at he2;have t2:=Ex.dJ e2 (by omega);refine⟨.mk 3 0 [e1,e2] [] [K],q2,u1,j1,?_,Th.one (by simp[Pn.thin,Pn.kC,hK,t1,t2]) hKB,by omega,by omega,by omega,by omega,by omega⟩;rw[aD rfl Tryz.func129 rfl rfl];simp[PSt,ht,hv,v0,we,hkid,hW,hkk,wn,hq,hm,w2];rw[aF];simp[hx1,he1,w1];rw[aF];simp[hx2,he2,w0];rw[aF];simp[Pn.aZ,Ex.aB,aH,Pn.aB,Pn.aA K,Ex.aA e1,Ex.aA e2,PSt]
theorem AJD {l:List UInt8} {ws:List Int} {k:Nat} {d j:Nat} {p u t:Int} (hd:d<100) (ht:aG C0 40 [.own 0 0, .int k] [Rd l p]=some (.int t,[Rd l (p+1)])) (hv:aG C0 40 [.own 0 0, .int 6] [Rd l (p+1)]=some (.int 0,[Rd l (p+1+1)])) :
 aG CP 129 [.own 0 0, .int ((d+1:Nat):Int)] (PSt l ws k j u p)=some (.i (.agg (Pn.scan t).cells),PSt l ws k j u (p+1+1)):=by
 have wn:¬ ((d:Int)+1=0):=by omega
 rw[aD rfl Tryz.func129 rfl rfl];simp[PSt,ht,hv,P6,wn]
theorem VT {l:List UInt8} (hl:l.length≤2000) {ws:List Int} (hw:∀ w∈ws,0≤w∧w≤6) (hwl:ws.length<1000000) {k:Nat} (hk0:0<k) (hkl:k≤ws.length) {d j c c2:Nat} (hd:d<100) (hjb:j<1000) (ih:pJ l ws k d j c) (hoth:∀ i:Nat,i<j→∀ y:Nat,y≤1→pJ l ws k y i c2):pJ l ws k (d+1) j (c+c2+500):=by
 intro p u h0 h1 hu0 hu1;obtain⟨t,ht,-,-⟩:=bK l p k h0 (by omega) hl;obtain⟨v,hv,-,-⟩:=bK l (p+1) 6 (by omega) (by omega) hl;by_cases v0:v=0
 ·subst v0;exact⟨.scan t,p+1+1,u,j,AJD hd ht hv,Th.scan (Pn.K6 t) _ _,by omega,by omega,by omega,by omega,by omega⟩
 obtain⟨K,p1,u1,j1,hkid,hK,a1,a2,a3,a4,a5⟩:=ih (p+1+1) u (by omega) (by omega) hu0 hu1;have hW:=iR hw hwl hk0 hkl K hK.1;have hWr:=Pn.mH (ws:=ws.take k) (fun w hm=>hw w (zH hm)) K 8;generalize K.wd (ws.take k) 8=W at hW hWr;obtain⟨kk,hkk,hkk1,-⟩:=bK l p1 10 (by omega) (by omega) hl;obtain⟨kk0,kk9⟩:=hkk1 (by omega)
 suffices H:∃ (P:Pn) (p' u':Int) (j':Nat),aG CP 129 [.own 0 0, .int ((d+1:Nat):Int)] (PSt l ws k j u p)=some (.i (.agg P.cells),PSt l ws k j' u' p')∧Th P j j' u u'∧p1≤p'∧p'≤p1+400+c2∧j'≤j1∧0≤u'∧u'≤1 by
  obtain⟨P,p',u',j',b1,b2,b3,b4,b5,b6,b7⟩:=H;exact⟨P,p',u',j',b1,b2,by omega,by omega,by omega,b6,b7⟩
 have hb:p1+400+c2<300000000:=by omega
 have hp1:0≤p1:=by omega
 have H:PlH _ _ _ _ _ _ _ _ _ _ _ _ _ _ _ _:=⟨hd,hb,hp1,a4,a5,hWr.1,hWr.2,hK,ht,hv,v0,hkid,hW,hkk⟩
 by_cases q0:kk=0
 ·exact W9 hl H q0
 by_cases q1:kk=1
 ·exact VZ hl H q1
 by_cases q2:kk=2
 ·exact VY hl H q2
 by_cases q3:kk=3
 ·exact AF4 hl H q3
 by_cases q4:kk=4
 ·exact AF3 hl H q4
 by_cases q5:kk=5
 ·by_cases hj:j1=0
  ·exact VW hl H hj q5
  by_cases hw4:W≤4
  ·exact AF6 hl hw hwl hk0 hkl H hj (by omega) hw4 (fun y hy=>hoth (j1-1) (by omega) y hy) q5
  ·exact AF1 hl H hj hw4 q5
 by_cases q6:kk=6
 ·by_cases hj:j1=0
  ·exact VV hl H hj q6
  by_cases hw4:W≤4
  ·exact AF5 hl hw hwl hk0 hkl H hj (by omega) hw4 (fun y hy=>hoth (j1-1) (by omega) y hy) q6
  ·exact AF0 hl H hj hw4 q6
 by_cases q7:kk=7
 ·by_cases hu:0<u1
  ·exact AF2 hl H hu q7
  ·exact VU hl H hu q7
 by_cases q8:kk=8
 ·exact RP hl H q8
 have q9:kk=9:=by omega
 by_cases hw1:1<W
 ·exact ZT hl H hw1 q9
 ·exact ZU hl H hw1 q9
theorem pJ.le {l:List UInt8} {ws:List Int} {k:Nat} {d j c c':Nat} (h:pJ l ws k d j c) (hc:c≤c'):pJ l ws k d j c':=by
 intro p u h0 h1 hu0 hu1;obtain⟨P,p',u',j',b1,b2,b3,b4,b5,b6,b7⟩:=h p u h0 (by omega) hu0 hu1;exact⟨P,p',u',j',b1,b2,b3,by omega,b5,b6,b7⟩
theorem KM {l:List UInt8} (hl:l.length≤2000) {ws:List Int} (hw:∀ w∈ws,0≤w∧w≤6) (hwl:ws.length<1000000) {k:Nat} (hk0:0<k) (hkl:k≤ws.length):∀ d:Nat,d<50→pJ l ws k d 0 (500*d+1)
 | 0,_=>(VS hl 0).le (by omega)
 | d+1,h=>(VT hl hw hwl hk0 hkl (c2:=0) (by omega) (by omega) (KM hl hw hwl hk0 hkl d (by omega)) (fun i hi=>by omega)).le (by omega)
theorem AC0 {l:List UInt8} (hl:l.length≤2000) {ws:List Int} (hw:∀ w∈ws,0≤w∧w≤6) (hwl:ws.length<1000000) {k:Nat} (hk0:0<k) (hkl:k≤ws.length):∀ d:Nat,d<50→pJ l ws k d 1 (2000*d+1)
 | 0,_=>(VS hl 1).le (by omega)
 | d + 1,h=>(VT hl hw hwl hk0 hkl (c2:=501) (by omega) (by omega) (AC0 hl hw hwl hk0 hkl d (by omega)) (fun i hi y hy=>by
     obtain rfl:i=0:=by omega
     exact(KM hl hw hwl hk0 hkl y (by omega)).le (by omega))).le (by omega)
theorem AKW {e:Ex} {p:Pn} (he:e.size≤120) (hp:p.thin):(bZ e p).thin:=d9 (by omega) hp
end Go.Proofs.YtnmimmaahhlgeaaGreat.P

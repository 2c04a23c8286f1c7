/- Part 5 of what the proof rests on: the executor and what it is worth, and the program's functions as it runs them. No condition. -/
import Derived.Test.YtjdfjgmebalaaaaGreatT4
set_option linter.unusedVariables false
set_option linter.unusedSimpArgs false
namespace Go.Av
def AhW (i:Nat):Ex:=.mk 1 i Val.zero []
def AYN (n:Nat):List Ex:=(List.range n).map AhW
def AK4 (o:Option Ex):Ex:=o.getD Ex.zero
theorem AO7 (o:Option Ex):AO8 o=.tup [.i (.agg (AK4 o).cells), .bool o.isSome]:=by cases o<;>rfl
end Go.Av
namespace Go.Proofs.YtjdfjgmebalaaaaGreat
open Go Go.Av
set_option maxRecDepth 4000
set_option maxHeartbeats 1000000
theorem AFI (e:Ex) (l:List Ex) (w:Int):aI C0 158 [.i (.agg e.cells), .i (.isl (Ex.aB l)), .int w] []=some (.tup [.i (.agg (AK4 (e.subst l w)).cells), .bool (e.subst l w).isSome],[]):=by
 rw[← AO7]
 cases h:e.ok l.length with
 | true=>exact AP8 h
 | false=>exact AP7 h
def WX (code:List UInt8) (e:Ex) (l:List Ex) (w:Int) (i:Nat):AS :=
 { env:=[(0, .i (.isl (pR code))),(2, .bool false),(3, .own 0 0),(4, .i (.isl (Ex.aB l))),(5, .int w),(6, .own 1 0),(7, .bool (e.subst l w).isSome),(8, .own 2 0),(9, .bool (e.subst l w).isSome),(10, .osl 3 5 0 i),(11, .int i),(12, .junk),(13, .junk),(16, .bool false),(52, .bool false),(65,jk i (.bool true))],
   st:=[some (.box (jW e.cells)),some (.box (jW (AK4 (e.subst l w)).cells)),some (.box (jW (AK4 (e.subst l w)).cells)),some (.arr 5 (Ex.aB (AYN i)))] }
@[simp] theorem AQP (b:Bool) (n:Int):aI C0 194 [.i (.agg [.bool b, .int n])] []=some (.int (Val.tr ⟨b,n⟩),[]):=by
  rw[aD rfl Tryz.func194 rfl rfl]
  cases b
  ·by_cases h:n=0<;>simp[Val.tr,h]
  ·simp[Val.tr]
@[simp] theorem AXH:aI C0 212 [] []=some (.i (.agg [.bool true, .int 0]),[]):=by
  rw[aD rfl Tryz.func212 rfl rfl];simp
@[simp] theorem number_eq (n:Int):aI C0 211 [.int n] []=some (.i (.agg [.bool false, .int n]),[]):=by
  rw[aD rfl Tryz.func211 rfl rfl];simp
@[simp] theorem AEP (n:Int):aI C0 214 [.int n] []=some (.i (.agg [.bool (AR1 n).null, .int (AR1 n).n]),[]):=by
  rw[aD rfl Tryz.func214 rfl rfl];by_cases h:-9999≤n∧n≤9999<;>simp[AR1,Val.ok,h]
@[simp] theorem AY1 (b:Bool):aI C0 215 [.bool b] []=some (.i (.agg [.bool (VW b).null, .int (VW b).n]),[]):=by
  rw[aD rfl Tryz.func215 rfl rfl]
  cases b<;>simp[VW]
@[simp] theorem ARY (t:Int):aI C0 213 [.int t] []=some (.i (.agg [.bool (trV t).null, .int (trV t).n]),[]):=by
  rw[aD rfl Tryz.func213 rfl rfl];by_cases h:t=1
  ·simp[trV,h]
  ·by_cases h2:t=2<;>simp[trV,VW,h,h2]
theorem rJ (k:Int) (a b:Val) (ha:a.ok=true) (hb:b.ok=true):aI C0 208 [.int k, .i (.agg [.bool a.null, .int a.n]), .i (.agg [.bool b.null, .int b.n])] []=some (.i (.agg [.bool (Val.cmb k a b).null, .int (Val.cmb k a b).n]),[]):=by
 rw[aD rfl Tryz.func208 rfl rfl];obtain⟨an,a⟩:=a;obtain⟨bn,b⟩:=b;have ba:-9999≤a∧a≤9999:=by cases an<;>simp[Val.ok]at ha<;>omega
 have bb:-9999≤b∧b≤9999:=by cases bn<;>simp[Val.ok]at hb<;>omega
 have w1:IntKind.i64.wrap (a+b)=a+b:=wrO;have w2:IntKind.i64.wrap (a-b)=a-b:=wrO
 have w3:IntKind.i64.wrap (a*b)=a*b:=by
  have h1:a*b≤9999*9999:=by
   have:=Int.mul_le_mul_of_natAbs_le (x:=a) (y:=b) (s:=9999) (t:=9999) (by omega) (by omega);omega
  have h2:-(9999*9999)≤a*b:=by
   have:=Int.mul_le_mul_of_natAbs_le (x:=-a) (y:=b) (s:=9999) (t:=9999) (by omega) (by omega);rw[Int.neg_mul]at this;omega
  exact wrO
 by_cases k8:k=8
 ·by_cases hm:Val.tr ⟨bn,b⟩<Val.tr ⟨an,a⟩<;>simp[Val.cmb,k8,hm]
 by_cases k9:k=9
 ·by_cases hm:Val.tr ⟨an,a⟩<Val.tr ⟨bn,b⟩<;>simp[Val.cmb,k9,hm]
 cases an
 ·cases bn
  ·by_cases k3:k=3
   ·simp[Val.cmb,k3,w1]
   by_cases k4:k=4
   ·simp[Val.cmb,k4,w2]
   by_cases k5:k=5
   ·simp[Val.cmb,k5,w3]
   by_cases k6:k=6
   ·simp[Val.cmb,k6]
   ·simp[Val.cmb,k8,k9,k3,k4,k5,k6]
  ·simp[Val.cmb,k8,k9]
 ·simp[Val.cmb,k8,k9]
end Go.Proofs.YtjdfjgmebalaaaaGreat
namespace Go.Av
end Go.Av
namespace Go.Proofs.YtjdfjgmebalaaaaGreat
open Go Go.Av
set_option maxRecDepth 4000
set_option maxHeartbeats 1000000
end Go.Proofs.YtjdfjgmebalaaaaGreat
namespace Go.Av
end Go.Av
namespace Go.Proofs.YtjdfjgmebalaaaaGreat
open Go Go.Av
set_option maxRecDepth 4000
set_option maxHeartbeats 1000000
end Go.Proofs.YtjdfjgmebalaaaaGreat
namespace Go.Av
mutual
def Ex.ext (w:Int) (vs:List Val):Ex→Ex×List Val
 | .mk k c v ks=>if k=2 then(.mk 1 (w+vs.length) Val.zero [],vs++[v])else((.mk k c Val.zero (Ex.AWI w vs ks).1),(Ex.AWI w vs ks).2)
def Ex.AWI (w:Int) (vs:List Val):List Ex→List Ex×List Val
 | []=>([],vs)
 | e::es=>(((Ex.ext w vs e).1::(Ex.AWI w (Ex.ext w vs e).2 es).1),(Ex.AWI w (Ex.ext w vs e).2 es).2)
end
end Go.Av
namespace Go.Proofs.YtjdfjgmebalaaaaGreat
open Go Go.Av
set_option maxRecDepth 4000
set_option maxHeartbeats 2000000
def xv (a b:Nat):AV:=if b=a then .osl 0 2 0 a else .osl 1 2 0 b
def wi (n:Nat):Nat:=if n=0 then 1 else 2
end Go.Proofs.YtjdfjgmebalaaaaGreat
namespace Go.Av
end Go.Av
namespace Go.Proofs.YtjdfjgmebalaaaaGreat
open Go Go.Av
set_option maxRecDepth 4000
set_option maxHeartbeats 2000000
end Go.Proofs.YtjdfjgmebalaaaaGreat
namespace Go.Av
end Go.Av
namespace Go.Proofs.YtjdfjgmebalaaaaGreat
open Go Go.Av
set_option maxRecDepth 4000
set_option maxHeartbeats 2000000
set_option maxHeartbeats 4000000
end Go.Proofs.YtjdfjgmebalaaaaGreat
namespace Go.Av
end Go.Av
namespace Go.Proofs.YtjdfjgmebalaaaaGreat
open Go Go.Av
set_option maxRecDepth 4000
set_option maxHeartbeats 2000000
end Go.Proofs.YtjdfjgmebalaaaaGreat
namespace Go.Proofs.YtjdfjgmebalaaaaGreat.P
open Go Go.Av
set_option maxRecDepth 4000
theorem sZ (n:Int):n=1∨n=2∨n=3∨n=4∨n=5∨n=6∨n=7∨n=8∨(n≠1∧n≠2∧n≠3∧n≠4∧n≠5∧n≠6∧n≠7∧n≠8):=by omega
@[simp] theorem AHF (n:Int):aI C0 146 [.int n] []=some (.tup [.int (eQ n), .int (jS n)],[]):=by
  rw[aD rfl Tryz.func146 rfl rfl]
  rcases sZ n with rfl|rfl|rfl|rfl|rfl|rfl|rfl|rfl|⟨h1,h2,h3,h4,h5,h6,h7,h8⟩
  all_goals first
   | (simp[eQ,jS];done)
   | (have e1:eQ n=0:=by unfold eQ;rw[if_neg (by omega)]
      have e2:jS n=-1:=by unfold jS;rw[if_neg (by omega),if_neg (by omega),if_neg (by omega)]
      simp[e1,e2,h1,h2,h3,h4,h5,h6,h7,h8])
def pv (cs:List Int) (i:Nat):Int:=((-1)::cs)[i]?.getD 0
theorem AE9 {cs:List Int} {i:Nat} {c:Int} (h:cs[i]?=some c):pv cs (i+1)=c:=by simp[pv,h]
theorem CG {cs:List Int} {i:Nat} {x:Int×Int} (h:(cs.zip (-1::cs))[i]?=some x):cs[i]?=some x.1∧pv cs i=x.2:=by
 rw[List.getElem?_zip_eq_some]at h;exact⟨h.1,by simp[pv,h.2]⟩
theorem YV (cs:List Int):(cs.zip (-1::cs)).length=cs.length:=by simp
def GX (cs:List Int) (w:Int) (i:Nat):AS :=
 { env:=[(0, .i (.isl (aF cs))),(1, .int w),(4, .bool false),(5, .int (pv cs i)),(7,jk i (.int (pv cs i))),(10, .bool false),(11, .i (.isl (aF cs))),(12, .int cs.length),(13, .int i),(14,jk i (.bool true)),(24,jk i (.bool false))],st:=[] }
theorem uX (cs:List Int) (w:Int):aI C0 174 [.i (.isl (aF cs)), .int w] []=some (.bool (decide (cs.length<6) && sD w cs),[]):=by
 rw[aD rfl Tryz.func174 rfl rfl];by_cases h6:cs.length<6
 case neg=>simp[h6,show(6:Int)≤cs.length by omega]
 simp[h6,show ¬ (6:Int)≤cs.length by omega];obtain⟨j,h1,h2⟩:=iQ (fun x:Int×Int=>decide (x.2<x.1∧x.1<w)) (cs.zip (-1::cs));rw[aV (GX cs w) j (by simp[GX,pv])]
 ·rw[aH]
  rcases h2 with ⟨hj,ha⟩|⟨x,h3,_,h4,ha⟩
  ·rw[YV]at hj;have ha:sD w cs=true:=ha;simp[GX,hj,ha]
  ·obtain⟨c1,c2⟩:=CG h3;have r1:=(zZ.1 c1).1;have r2:=bJ c1;have hb:¬ (x.2<x.1∧x.1<w):=by simpa using h4
   have ha:sD w cs=false:=ha;by_cases hx:x.1≤x.2
   ·simp[GX,r1,r2,c2,hx,ha]
   ·simp[GX,r1,r2,c2,hx,ha,show w≤x.1 by omega]
 ·intro i hi;obtain⟨x,h3,_,h4⟩:=h1 i hi;obtain⟨c1,c2⟩:=CG h3;have r1:=(zZ.1 c1).1;have r2:=bJ c1;have c3:=AE9 c1;have hb:x.2<x.1∧x.1<w:=by simpa using h4
  have w2:IntKind.i64.wrap ((i:Int)+1)=i+1:=wrO;simp[GX,r1,r2,c2,c3,w2,show ¬ x.1≤x.2 by omega,show ¬ w≤x.1 by omega]
def WX (p:Pn) (a b y:Int) (x14:Bool) (n21 n22:Nat) (x22:Bool) (n26 n27:Nat) (x27:Bool) (i:Nat):AS :=
 { env:=[(0, .i (.iref [.int p.kind, .int p.table, .isl (Ex.aB p.exprs), .isl (aF p.cols), .isl (Pn.aB p.kids)])),(1, .int a),(2, .int b),(6, .int 0),(7, .int y),(8,jk i (.int (i-1))),(13, .int p.kind),(14, .bool x14),(21,jk n21 (.bool false)),(22,jk n22 (.bool x22)),(26,jk n26 (.bool false)),(27,jk n27 (.bool x27)),(35, .junk),(46, .int p.exprs.length),(47, .int i),(48,jk i (.bool true)),(59,jk i (.bool false)),(65, .junk)],st:=[] }
theorem iB (p:Pn) (a b:Int) (ha:0≤a∧a≤6) (hb:0≤b∧b≤6) (hd:p.headOk=true):aI C0 147 [.i (.iref p.cells), .int a, .int b] []=some (.int (d9 p.kind p.exprs p.cols a b),[]):=by
 rw[aD rfl Tryz.func147 rfl rfl];have he:=Pn.tN hd;rw[Pn.aA];have hg:=uX p.cols a;have w1:IntKind.i64.wrap (a+b)=a+b:=wrO;by_cases h6:p.kind=6
 ·have h8:p.kind≠8:=by omega
  have h4:p.kind≠5:=by omega
  have hz:p.exprs=[]:=by
   simp only[Pn.headOk,zT,zN,h6]at hd;have:=hd.2.1;simp[eQ]at this;exact this
  by_cases hab:a=b
  ·subst hab;simp[h6];rw[aH];simp[hz,h6,d9]
  ·simp[h6,hab,d9]
 by_cases h8:p.kind=8
 ·by_cases h9:p.cols.length<6
  ·have w3:IntKind.i64.wrap ((p.cols.length:Int)+1)=p.cols.length+1:=wrO
   cases hc:sD a p.cols<;>simp[h8,hg,h9,hc,d9,w3]
  ·simp[h8,hg,h9,d9]
 by_cases h45:p.kind=4∨p.kind=5
 ·by_cases hs:a+b≤6
  case neg=>rcases h45 with h4|h4<;>simp[h4,w1,show 6<a+b by omega,d9,hs]
  have h4:True:=trivial
  rcases h45 with h45|h45
  ·simp[h45,w1,show ¬ 6<a+b by omega];obtain⟨j,h1,h2⟩:=iQ (Ex.ok (a+b)) p.exprs;rw[aV (WX p a b (a+b) true 1 0 false 0 0 false) j (by simp[WX,h45])]
   ·rw[aH]
    rcases h2 with ⟨hj,hall⟩|⟨x,h3,_,h5,hall⟩
    ·simp[WX,hj,hall,d9,h45,hs]
    ·have r1:=(zZ.1 h3).1;have r2:=Ex.aQ h3;have r3:=ok_eq (a+b) x;rw[h5]at r3;rw[Ex.aA]at r2 r3;simp[WX,r1,r2,r3,hall,d9,h45,hs]
   ·intro i hi;obtain⟨x,h3,_,h5⟩:=h1 i hi;have r1:=(zZ.1 h3).1;have r2:=Ex.aQ h3;have r3:=ok_eq (a+b) x;rw[h5]at r3;rw[Ex.aA]at r2 r3;have w2:IntKind.i64.wrap ((i:Int)+1)=i+1:=wrO;simp[WX,r1,r2,r3,w2,h45]
  ·simp[h45,w1,show ¬ 6<a+b by omega];obtain⟨j,h1,h2⟩:=iQ (Ex.ok (a+b)) p.exprs;rw[aV (WX p a b (a+b) true 1 0 false 0 0 false) j (by simp[WX,h45])]
   ·rw[aH]
    rcases h2 with ⟨hj,hall⟩|⟨x,h3,_,h5,hall⟩
    ·simp[WX,hj,hall,d9,h45,hs]
    ·have r1:=(zZ.1 h3).1;have r2:=Ex.aQ h3;have r3:=ok_eq (a+b) x;rw[h5]at r3;rw[Ex.aA]at r2 r3;simp[WX,r1,r2,r3,hall,d9,h45,hs]
   ·intro i hi;obtain⟨x,h3,_,h5⟩:=h1 i hi;have r1:=(zZ.1 h3).1;have r2:=Ex.aQ h3;have r3:=ok_eq (a+b) x;rw[h5]at r3;rw[Ex.aA]at r2 r3;have w2:IntKind.i64.wrap ((i:Int)+1)=i+1:=wrO;simp[WX,r1,r2,r3,w2,h45]
 have h4:p.kind≠4:=by omega
 have h5':p.kind≠5:=by omega
 simp[h6,h8,h4,h5'];obtain⟨j,h1,h2⟩:=iQ (Ex.ok (a)) p.exprs;rw[aV (WX p a b a false 0 1 false 0 1 false) j (by simp[WX,h6,h8,h5'])]
 ·rw[aH]
  rcases h2 with ⟨hj,hall⟩|⟨x,h3,_,h5,hall⟩
  ·by_cases h3':p.kind=3
   ·simp[WX,hj,hall,d9,h3']
   ·simp[WX,hj,hall,d9,h6,h8,h4,h5',h3']
  ·have r1:=(zZ.1 h3).1;have r2:=Ex.aQ h3;have r3:=ok_eq (a) x;rw[h5]at r3;rw[Ex.aA]at r2 r3;by_cases h3':p.kind=3
   ·simp[WX,r1,r2,r3,hall,d9,h3']
   ·simp[WX,r1,r2,r3,hall,d9,h6,h8,h4,h5',h3']
 ·intro i hi;obtain⟨x,h3,_,h5⟩:=h1 i hi;have r1:=(zZ.1 h3).1;have r2:=Ex.aQ h3;have r3:=ok_eq (a) x;rw[h5]at r3;rw[Ex.aA]at r2 r3;have w2:IntKind.i64.wrap ((i:Int)+1)=i+1:=wrO;simp[WX,r1,r2,r3,w2]
set_option maxHeartbeats 2000000
@[simp] theorem AXP:jS 1=0:=by decide
@[simp] theorem AWA:eQ 1=0:=by decide
@[simp] theorem AXO:jS 2=1:=by decide
@[simp] theorem AW9:eQ 2=1:=by decide
@[simp] theorem AXN:jS 3=1:=by decide
@[simp] theorem AW8:eQ 3=1:=by decide
@[simp] theorem AXM:jS 4=2:=by decide
@[simp] theorem AW7:eQ 4=1:=by decide
@[simp] theorem AXL:jS 5=2:=by decide
@[simp] theorem AW6:eQ 5=1:=by decide
@[simp] theorem AXK:jS 6=2:=by decide
@[simp] theorem AW5:eQ 6=0:=by decide
@[simp] theorem AXJ:jS 7=1:=by decide
@[simp] theorem AW4:eQ 7=0:=by decide
@[simp] theorem AXI:jS 8=1:=by decide
@[simp] theorem AVZ:eQ 8=0:=by decide
theorem XW {k:Int} (h:k≠1∧k≠2∧k≠3∧k≠4∧k≠5∧k≠6∧k≠7∧k≠8):jS k=-1:=by
 unfold jS;rw[if_neg (by omega),if_neg (by omega),if_neg (by omega)]
theorem WQ {ws:List Int} {t:Int} {es:List Ex} {cs:List Int} {ks:List Pn} {lv:Nat} {k:Int} (h:k≠1∧k≠2∧k≠3∧k≠4∧k≠5∧k≠6∧k≠7∧k≠8):aI C0 109 [.i (.iref [.int k, .int t, .isl (Ex.aB es), .isl (aF cs), .isl (Pn.aB ks)]), .i (.isl (aF ws)), .int lv] []=some (.int 0,[]):=by
 rw[aD rfl Tryz.func109 rfl rfl];have c1:¬ (ks.length:Int)=-1:=by omega
 have hn:=XW h;simp[h.2.2.1,hn,c1]
theorem AGR {ws:List Int} {t:Int} {es:List Ex} {cs:List Int} {ks:List Pn} {lv:Nat} (h:¬ ((ks.length:Int)=0∧(es.length:Int)=0∧True∧cs=[])):aI C0 109 [.i (.iref [.int 1, .int t, .isl (Ex.aB es), .isl (aF cs), .isl (Pn.aB ks)]), .i (.isl (aF ws)), .int lv] []=some (.int 0,[]):=by
 rw[aD rfl Tryz.func109 rfl rfl];by_cases c1:(ks.length:Int)=0
 case neg=>simp at c1;simp[c1]
 by_cases c2:(es.length:Int)=0
 case neg=>simp at c2;simp[c1,c2]
 by_cases c5:cs=[]
 case neg=>simp[c1,c2,c5]
 exact absurd (by simp[c1,c2,c5]) h
theorem AGQ {ws:List Int} {t:Int} {es:List Ex} {cs:List Int} {ks:List Pn} {lv:Nat} (h:¬ ((ks.length:Int)=1∧(es.length:Int)=1∧lv≠0∧t=0∧cs=[])):aI C0 109 [.i (.iref [.int 2, .int t, .isl (Ex.aB es), .isl (aF cs), .isl (Pn.aB ks)]), .i (.isl (aF ws)), .int lv] []=some (.int 0,[]):=by
 rw[aD rfl Tryz.func109 rfl rfl];by_cases c1:(ks.length:Int)=1
 case neg=>simp[c1]
 by_cases c2:(es.length:Int)=1
 case neg=>simp[c1,c2]
 by_cases c3:lv=0
 case pos=>subst c3;simp[c1,c2]
 have c3':¬ (lv:Int)=0:=by omega
 by_cases c4:t=0
 case neg=>simp[c1,c2,c3,c3',c4]
 by_cases c5:cs=[]
 case neg=>simp[c1,c2,c3,c3',c4,c5]
 exact absurd (by simp[c1,c2,c3,c3',c4,c5]) h
theorem AGP {ws:List Int} {t:Int} {es:List Ex} {cs:List Int} {ks:List Pn} {lv:Nat} (h:¬ ((ks.length:Int)=1∧(es.length:Int)=(if bN es.length=true then(es.length:Int)else 1)∧lv≠0∧t=0∧cs=[])):aI C0 109 [.i (.iref [.int 3, .int t, .isl (Ex.aB es), .isl (aF cs), .isl (Pn.aB ks)]), .i (.isl (aF ws)), .int lv] []=some (.int 0,[]):=by
 rw[aD rfl Tryz.func109 rfl rfl]
 cases hv:bN es.length
 ·have hq:(es.length:Int)≠1:=fun hq=>by rw[hq]at hv;simp[bN]at hv
  by_cases c1:(ks.length:Int)=1
  case neg=>simp[hv,c1]
  simp[hv,c1,hq]
 by_cases c1:(ks.length:Int)=1
 case neg=>simp[hv,c1]
 by_cases c3:lv=0
 case pos=>subst c3;simp[hv,c1]
 have c3':¬ (lv:Int)=0:=by omega
 by_cases c4:t=0
 case neg=>simp[hv,c1,c3,c3',c4]
 by_cases c5:cs=[]
 case neg=>simp[hv,c1,c3,c3',c4,c5]
 exact absurd (by simp[hv,c1,c3,c4,c5]) h
theorem AGO {ws:List Int} {t:Int} {es:List Ex} {cs:List Int} {ks:List Pn} {lv:Nat} (h:¬ ((ks.length:Int)=2∧(es.length:Int)=1∧lv≠0∧t=0∧cs=[])):aI C0 109 [.i (.iref [.int 4, .int t, .isl (Ex.aB es), .isl (aF cs), .isl (Pn.aB ks)]), .i (.isl (aF ws)), .int lv] []=some (.int 0,[]):=by
 rw[aD rfl Tryz.func109 rfl rfl];by_cases c1:(ks.length:Int)=2
 case neg=>simp[c1]
 by_cases c2:(es.length:Int)=1
 case neg=>simp[c1,c2]
 by_cases c3:lv=0
 case pos=>subst c3;simp[c1,c2]
 have c3':¬ (lv:Int)=0:=by omega
 by_cases c4:t=0
 case neg=>simp[c1,c2,c3,c3',c4]
 by_cases c5:cs=[]
 case neg=>simp[c1,c2,c3,c3',c4,c5]
 exact absurd (by simp[c1,c2,c3,c3',c4,c5]) h
theorem AGN {ws:List Int} {t:Int} {es:List Ex} {cs:List Int} {ks:List Pn} {lv:Nat} (h:¬ ((ks.length:Int)=2∧(es.length:Int)=1∧lv≠0∧t=0∧cs=[])):aI C0 109 [.i (.iref [.int 5, .int t, .isl (Ex.aB es), .isl (aF cs), .isl (Pn.aB ks)]), .i (.isl (aF ws)), .int lv] []=some (.int 0,[]):=by
 rw[aD rfl Tryz.func109 rfl rfl];by_cases c1:(ks.length:Int)=2
 case neg=>simp[c1]
 by_cases c2:(es.length:Int)=1
 case neg=>simp[c1,c2]
 by_cases c3:lv=0
 case pos=>subst c3;simp[c1,c2]
 have c3':¬ (lv:Int)=0:=by omega
 by_cases c4:t=0
 case neg=>simp[c1,c2,c3,c3',c4]
 by_cases c5:cs=[]
 case neg=>simp[c1,c2,c3,c3',c4,c5]
 exact absurd (by simp[c1,c2,c3,c3',c4,c5]) h
theorem AGM {ws:List Int} {t:Int} {es:List Ex} {cs:List Int} {ks:List Pn} {lv:Nat} (h:¬ ((ks.length:Int)=2∧(es.length:Int)=0∧lv≠0∧t=0∧cs=[])):aI C0 109 [.i (.iref [.int 6, .int t, .isl (Ex.aB es), .isl (aF cs), .isl (Pn.aB ks)]), .i (.isl (aF ws)), .int lv] []=some (.int 0,[]):=by
 rw[aD rfl Tryz.func109 rfl rfl];by_cases c1:(ks.length:Int)=2
 case neg=>simp[c1]
 by_cases c2:(es.length:Int)=0
 case neg=>simp at c2;simp[c1,c2]
 by_cases c3:lv=0
 case pos=>subst c3;simp[c1,c2]
 have c3':¬ (lv:Int)=0:=by omega
 by_cases c4:t=0
 case neg=>simp[c1,c2,c3,c3',c4]
 by_cases c5:cs=[]
 case neg=>simp[c1,c2,c3,c3',c4,c5]
 exact absurd (by simp[c1,c2,c3,c3',c4,c5]) h
theorem AGL {ws:List Int} {t:Int} {es:List Ex} {cs:List Int} {ks:List Pn} {lv:Nat} (h:¬ ((ks.length:Int)=1∧(es.length:Int)=0∧lv≠0∧t=0∧cs=[])):aI C0 109 [.i (.iref [.int 7, .int t, .isl (Ex.aB es), .isl (aF cs), .isl (Pn.aB ks)]), .i (.isl (aF ws)), .int lv] []=some (.int 0,[]):=by
 rw[aD rfl Tryz.func109 rfl rfl];by_cases c1:(ks.length:Int)=1
 case neg=>simp[c1]
 by_cases c2:(es.length:Int)=0
 case neg=>simp at c2;simp[c1,c2]
 by_cases c3:lv=0
 case pos=>subst c3;simp[c1,c2]
 have c3':¬ (lv:Int)=0:=by omega
 by_cases c4:t=0
 case neg=>simp[c1,c2,c3,c3',c4]
 by_cases c5:cs=[]
 case neg=>simp[c1,c2,c3,c3',c4,c5]
 exact absurd (by simp[c1,c2,c3,c3',c4,c5]) h
theorem AGK {ws:List Int} {t:Int} {es:List Ex} {cs:List Int} {ks:List Pn} {lv:Nat} (h:¬ ((ks.length:Int)=1∧(es.length:Int)=0∧lv≠0∧t=0)):aI C0 109 [.i (.iref [.int 8, .int t, .isl (Ex.aB es), .isl (aF cs), .isl (Pn.aB ks)]), .i (.isl (aF ws)), .int lv] []=some (.int 0,[]):=by
 rw[aD rfl Tryz.func109 rfl rfl];by_cases c1:(ks.length:Int)=1
 case neg=>simp[c1]
 by_cases c2:(es.length:Int)=0
 case neg=>simp at c2;simp[c1,c2]
 by_cases c3:lv=0
 case pos=>subst c3;simp[c1,c2]
 have c3':¬ (lv:Int)=0:=by omega
 by_cases c4:t=0
 case neg=>simp[c1,c2,c3,c3',c4]
 exact absurd (by simp[c1,c2,c3,c3',c4]) h
theorem ABV {ws:List Int} {t:Int} {lv:Nat}:aI C0 109 [.i (.iref [.int 1, .int t, .isl (Ex.aB []), .isl (aF []), .isl (Pn.aB [])]), .i (.isl (aF ws)), .int lv] []=some (.int (if 0≤t then(ws[t.toNat]?).getD 0 else 0),[]):=by
 rw[aD rfl Tryz.func109 rfl rfl];by_cases h0:0≤t
 case neg=>simp[Ex.aB,Pn.aB,aF,h0,show t<0 by omega]
 cases hx:ws[t.toNat]? with
 | none =>
  have:=zA8.1 hx;simp[Ex.aB,Pn.aB,aF,h0,show ¬ t<0 by omega,show(ws.length:Int)≤t by omega]
 | some x =>
  have r1:=(zZ.1 hx).1;have r2:=bJ hx;simp[Ex.aB,Pn.aB,aF,h0,show ¬ t<0 by omega,show ¬ (ws.length:Int)≤t by omega,r2,show t<ws.length by omega]
theorem ABU {ws:List Int} {es:List Ex} {a:Pn} {lv:Nat} {va:Int} (hl:lv≠0) (hl8:lv≤8) (hd:Pn.headOk (Pn.mk 2 0 es [] [a])=true) (ha:aI C0 109 [.i (.iref a.cells), .i (.isl (aF ws)), .int (lv-1:Nat)] []=some (.int va,[])) (ra:0≤va∧va≤6):aI C0 109 [.i (.iref [.int 2, .int 0, .isl (Ex.aB es), .isl (aF []), .isl (Pn.aB [a])]), .i (.isl (aF ws)), .int lv] []=some (.int (if va=0 then 0 else d9 2 es [] va 0),[]):=by
 rw[aD rfl Tryz.func109 rfl rfl];have c3':¬ (lv:Int)=0:=by omega
 have w1:IntKind.i64.wrap ((lv:Int)-1)=(lv-1:Nat):=by rw[wrO];omega
 have r0:fK [a.cells] 0=some a.cells:=rfl;have hov:=iB (Pn.mk 2 0 es [] [a]) va 0 ra (by omega) hd;rw[Pn.dU]at hov;simp only[Pn.dX,Pn.bV,Pn.dZ,Pn.aB,aF,Ex.aB]at hov;rw[Pn.aA a]at ha hov r0
 have c2:(es.length:Int)=1:=by
  simp only[Pn.headOk,zT,zN,Pn.bV,Pn.dX]at hd;simpa using hd.2.1
 simp[c2,hl,c3',Pn.aB,aF,Ex.aB];rw[Pn.aA a];rw[aH];by_cases z1:va=0
 case pos=>simp[w1,ha,r0,z1]
 simp[w1,ha,r0,z1,dK];rw[aH];simp[hov,z1]
theorem ABT {ws:List Int} {es:List Ex} {a:Pn} {lv:Nat} {va:Int} (hl:lv≠0) (hl8:lv≤8) (hd:Pn.headOk (Pn.mk 3 0 es [] [a])=true) (ha:aI C0 109 [.i (.iref a.cells), .i (.isl (aF ws)), .int (lv-1:Nat)] []=some (.int va,[])) (ra:0≤va∧va≤6):aI C0 109 [.i (.iref [.int 3, .int 0, .isl (Ex.aB es), .isl (aF []), .isl (Pn.aB [a])]), .i (.isl (aF ws)), .int lv] []=some (.int (if va=0 then 0 else d9 3 es [] va 0),[]):=by
 rw[aD rfl Tryz.func109 rfl rfl];have c3':¬ (lv:Int)=0:=by omega
 have w1:IntKind.i64.wrap ((lv:Int)-1)=(lv-1:Nat):=by rw[wrO];omega
 have r0:fK [a.cells] 0=some a.cells:=rfl;have hov:=iB (Pn.mk 3 0 es [] [a]) va 0 ra (by omega) hd;rw[Pn.dU]at hov;simp only[Pn.dX,Pn.bV,Pn.dZ,Pn.aB,aF,Ex.aB]at hov;rw[Pn.aA a]at ha hov r0
 have hv:bN es.length=true∨(es.length:Int)=1:=by
  simp only[Pn.headOk,zT,zN,Pn.bV,Pn.dX]at hd;have:=hd.2.1;split at this
  ·rename_i h;exact .inl h.2
  ·exact .inr (by simpa using this)
 have hv:bN es.length=true:=by
  rcases hv with h|h
  ·exact h
  ·rw[h];decide
 simp[hv,hl,c3',Pn.aB,aF,Ex.aB];rw[Pn.aA a];rw[aH];by_cases z1:va=0
 case pos=>simp[w1,ha,r0,z1]
 simp[w1,ha,r0,z1,dK];rw[aH];simp[hov,z1]
theorem ABS {ws:List Int} {es:List Ex} {a b:Pn} {lv:Nat} {va vb:Int} (hl:lv≠0) (hl8:lv≤8) (hd:Pn.headOk (Pn.mk 4 0 es [] [a,b])=true) (ha:aI C0 109 [.i (.iref a.cells), .i (.isl (aF ws)), .int (lv-1:Nat)] []=some (.int va,[])) (ra:0≤va∧va≤6) (hb:aI C0 109 [.i (.iref b.cells), .i (.isl (aF ws)), .int (lv-1:Nat)] []=some (.int vb,[])) (rb:0≤vb∧vb≤6):aI C0 109 [.i (.iref [.int 4, .int 0, .isl (Ex.aB es), .isl (aF []), .isl (Pn.aB [a,b])]), .i (.isl (aF ws)), .int lv] []=some (.int (if va=0∨vb=0 then 0 else d9 4 es [] va vb),[]):=by
 rw[aD rfl Tryz.func109 rfl rfl];have c3':¬ (lv:Int)=0:=by omega
 have w1:IntKind.i64.wrap ((lv:Int)-1)=(lv-1:Nat):=by rw[wrO];omega
 have r0:fK [a.cells,b.cells] 0=some a.cells:=rfl;have r1:fK [a.cells,b.cells] 1=some b.cells:=rfl;have hov:=iB (Pn.mk 4 0 es [] [a,b]) va vb ra rb hd;rw[Pn.dU]at hov;simp only[Pn.dX,Pn.bV,Pn.dZ,Pn.aB,aF,Ex.aB]at hov;rw[Pn.aA a]at ha hov r0 r1;rw[Pn.aA b]at hb hov r0 r1
 have c2:(es.length:Int)=1:=by
  simp only[Pn.headOk,zT,zN,Pn.bV,Pn.dX]at hd;simpa using hd.2.1
 simp[c2,hl,c3',Pn.aB,aF,Ex.aB];rw[Pn.aA a,Pn.aA b];rw[aH];by_cases z1:va=0
 case pos=>simp[w1,ha,r0,z1]
 simp[w1,ha,r0,z1,dK];rw[aH];by_cases z2:vb=0
 case pos=>simp[w1,hb,r1,z2]
 simp[w1,hb,r1,z1,z2,wrap64 (x:=2) (by omega) (by omega)];rw[aH];simp[hov,z1,z2]
theorem ABR {ws:List Int} {es:List Ex} {a b:Pn} {lv:Nat} {va vb:Int} (hl:lv≠0) (hl8:lv≤8) (hd:Pn.headOk (Pn.mk 5 0 es [] [a,b])=true) (ha:aI C0 109 [.i (.iref a.cells), .i (.isl (aF ws)), .int (lv-1:Nat)] []=some (.int va,[])) (ra:0≤va∧va≤6) (hb:aI C0 109 [.i (.iref b.cells), .i (.isl (aF ws)), .int (lv-1:Nat)] []=some (.int vb,[])) (rb:0≤vb∧vb≤6):aI C0 109 [.i (.iref [.int 5, .int 0, .isl (Ex.aB es), .isl (aF []), .isl (Pn.aB [a,b])]), .i (.isl (aF ws)), .int lv] []=some (.int (if va=0∨vb=0 then 0 else d9 5 es [] va vb),[]):=by
 rw[aD rfl Tryz.func109 rfl rfl];have c3':¬ (lv:Int)=0:=by omega
 have w1:IntKind.i64.wrap ((lv:Int)-1)=(lv-1:Nat):=by rw[wrO];omega
 have r0:fK [a.cells,b.cells] 0=some a.cells:=rfl;have r1:fK [a.cells,b.cells] 1=some b.cells:=rfl;have hov:=iB (Pn.mk 5 0 es [] [a,b]) va vb ra rb hd;rw[Pn.dU]at hov;simp only[Pn.dX,Pn.bV,Pn.dZ,Pn.aB,aF,Ex.aB]at hov;rw[Pn.aA a]at ha hov r0 r1;rw[Pn.aA b]at hb hov r0 r1
 have c2:(es.length:Int)=1:=by
  simp only[Pn.headOk,zT,zN,Pn.bV,Pn.dX]at hd;simpa using hd.2.1
 simp[c2,hl,c3',Pn.aB,aF,Ex.aB];rw[Pn.aA a,Pn.aA b];rw[aH];by_cases z1:va=0
 case pos=>simp[w1,ha,r0,z1]
 simp[w1,ha,r0,z1,dK];rw[aH];by_cases z2:vb=0
 case pos=>simp[w1,hb,r1,z2]
 simp[w1,hb,r1,z1,z2,wrap64 (x:=2) (by omega) (by omega)];rw[aH];simp[hov,z1,z2]
theorem ABQ {ws:List Int} {a b:Pn} {lv:Nat} {va vb:Int} (hl:lv≠0) (hl8:lv≤8) (hd:Pn.headOk (Pn.mk 6 0 [] [] [a,b])=true) (ha:aI C0 109 [.i (.iref a.cells), .i (.isl (aF ws)), .int (lv-1:Nat)] []=some (.int va,[])) (ra:0≤va∧va≤6) (hb:aI C0 109 [.i (.iref b.cells), .i (.isl (aF ws)), .int (lv-1:Nat)] []=some (.int vb,[])) (rb:0≤vb∧vb≤6):aI C0 109 [.i (.iref [.int 6, .int 0, .isl (Ex.aB []), .isl (aF []), .isl (Pn.aB [a,b])]), .i (.isl (aF ws)), .int lv] []=some (.int (if va=0∨vb=0 then 0 else d9 6 [] [] va vb),[]):=by
 rw[aD rfl Tryz.func109 rfl rfl];have c3':¬ (lv:Int)=0:=by omega
 have w1:IntKind.i64.wrap ((lv:Int)-1)=(lv-1:Nat):=by rw[wrO];omega
 have r0:fK [a.cells,b.cells] 0=some a.cells:=rfl;have r1:fK [a.cells,b.cells] 1=some b.cells:=rfl;have hov:=iB (Pn.mk 6 0 [] [] [a,b]) va vb ra rb hd;rw[Pn.dU]at hov;simp only[Pn.dX,Pn.bV,Pn.dZ,Pn.aB,aF,Ex.aB]at hov;rw[Pn.aA a]at ha hov r0 r1;rw[Pn.aA b]at hb hov r0 r1;simp[hl,c3',Pn.aB,aF,Ex.aB];rw[Pn.aA a,Pn.aA b];rw[aH];by_cases z1:va=0
 case pos=>simp[w1,ha,r0,z1]
 simp[w1,ha,r0,z1,dK];rw[aH];by_cases z2:vb=0
 case pos=>simp[w1,hb,r1,z2]
 simp[w1,hb,r1,z1,z2,wrap64 (x:=2) (by omega) (by omega)];rw[aH];simp[hov,z1,z2]
theorem ABP {ws:List Int} {a:Pn} {lv:Nat} {va:Int} (hl:lv≠0) (hl8:lv≤8) (hd:Pn.headOk (Pn.mk 7 0 [] [] [a])=true) (ha:aI C0 109 [.i (.iref a.cells), .i (.isl (aF ws)), .int (lv-1:Nat)] []=some (.int va,[])) (ra:0≤va∧va≤6):aI C0 109 [.i (.iref [.int 7, .int 0, .isl (Ex.aB []), .isl (aF []), .isl (Pn.aB [a])]), .i (.isl (aF ws)), .int lv] []=some (.int (if va=0 then 0 else d9 7 [] [] va 0),[]):=by
 rw[aD rfl Tryz.func109 rfl rfl];have c3':¬ (lv:Int)=0:=by omega
 have w1:IntKind.i64.wrap ((lv:Int)-1)=(lv-1:Nat):=by rw[wrO];omega
 have r0:fK [a.cells] 0=some a.cells:=rfl;have hov:=iB (Pn.mk 7 0 [] [] [a]) va 0 ra (by omega) hd;rw[Pn.dU]at hov;simp only[Pn.dX,Pn.bV,Pn.dZ,Pn.aB,aF,Ex.aB]at hov;rw[Pn.aA a]at ha hov r0;simp[hl,c3',Pn.aB,aF,Ex.aB];rw[Pn.aA a];rw[aH];by_cases z1:va=0
 case pos=>simp[w1,ha,r0,z1]
 simp[w1,ha,r0,z1,dK];rw[aH];simp[hov,z1]
theorem ABO {ws:List Int} {cs:List Int} {a:Pn} {lv:Nat} {va:Int} (hl:lv≠0) (hl8:lv≤8) (hd:Pn.headOk (Pn.mk 8 0 [] cs [a])=true) (ha:aI C0 109 [.i (.iref a.cells), .i (.isl (aF ws)), .int (lv-1:Nat)] []=some (.int va,[])) (ra:0≤va∧va≤6):aI C0 109 [.i (.iref [.int 8, .int 0, .isl (Ex.aB []), .isl (aF cs), .isl (Pn.aB [a])]), .i (.isl (aF ws)), .int lv] []=some (.int (if va=0 then 0 else d9 8 [] cs va 0),[]):=by
 rw[aD rfl Tryz.func109 rfl rfl];have c3':¬ (lv:Int)=0:=by omega
 have w1:IntKind.i64.wrap ((lv:Int)-1)=(lv-1:Nat):=by rw[wrO];omega
 have r0:fK [a.cells] 0=some a.cells:=rfl;have hov:=iB (Pn.mk 8 0 [] cs [a]) va 0 ra (by omega) hd;rw[Pn.dU]at hov;simp only[Pn.dX,Pn.bV,Pn.dZ,Pn.aB,aF,Ex.aB]at hov;rw[Pn.aA a]at ha hov r0;simp[hl,c3',Pn.aB,aF,Ex.aB];rw[Pn.aA a];rw[aH];by_cases z1:va=0
 case pos=>simp[w1,ha,r0,z1]
 simp[w1,ha,r0,z1,dK];rw[aH];simp[hov,z1]
theorem mY (k t:Int) (es:List Ex) (cs:List Int) (ks:List Pn):Pn.headOk (.mk k t es cs ks)=true↔((ks.length:Int)=jS k∧(es.length:Int)=(if k=3∧bN es.length=true then(es.length:Int)else eQ k)∧(k=1∨t=0)∧(k=8∨cs=[])):=by
 unfold Pn.headOk;simp only[zT,zD8,zN];exact Iff.rfl
theorem mD {α:Type} {l:List α} (h:(l.length:Int)=1):∃ a,l=[a]:=List.length_eq_one_iff.1 (by omega)
theorem EA {α:Type} {l:List α} (h:(l.length:Int)=2):∃ a b,l=[a,b]:=by
 match l,h with
 | [a,b],_=>exact⟨a,b,rfl⟩
 | [],h=>simp at h
 | [_],h=>simp at h
 | _::_::_::_,h=>simp at h;omega
theorem gW {α:Type} {l:List α} (h:(l.length:Int)=0):l=[]:=zW.1 (by omega)
theorem AJ {ws:List Int} (hw:∀ w∈ws,0≤w∧w≤6):∀ (p:Pn) (lv:Nat),lv≤8→aI C0 109 [.i (.iref p.cells), .i (.isl (aF ws)), .int lv] []=some (.int (p.wd ws lv),[]):=by
 intro p
 induction p using Pn.ind with
 | h k t es cs ks ih =>
  intro lv hlv;rw[Pn.dU];by_cases hh:Pn.headOk (.mk k t es cs ks)=true∧(ks=[]∨lv≠0)
  case neg =>
   rw[Pn.ZK hh];rw[mY]at hh
   rcases sZ k with rfl|rfl|rfl|rfl|rfl|rfl|rfl|rfl|h
   ·refine AGR fun h=>hh ?_
    have:=gW h.1;simp[h.2.1,h.2.2.2,this]
   ·exact AGQ fun h=>hh (by simp[h.1,h.2.1,h.2.2.1,h.2.2.2.1,h.2.2.2.2])
   ·exact AGP fun h=>hh (by refine⟨⟨by simp[h.1],by simpa using h.2.1,by simp[h.2.2.2.1],by simp[h.2.2.2.2]⟩, .inr h.2.2.1⟩)
   ·exact AGO fun h=>hh (by simp[h.1,h.2.1,h.2.2.1,h.2.2.2.1,h.2.2.2.2])
   ·exact AGN fun h=>hh (by simp[h.1,h.2.1,h.2.2.1,h.2.2.2.1,h.2.2.2.2])
   ·exact AGM fun h=>hh (by simp[h.1,gW h.2.1,h.2.2.1,h.2.2.2.1,h.2.2.2.2])
   ·exact AGL fun h=>hh (by simp[h.1,gW h.2.1,h.2.2.1,h.2.2.2.1,h.2.2.2.2])
   ·exact AGK fun h=>hh (by simp[h.1,gW h.2.1,h.2.2.1,h.2.2.2])
   ·exact WQ h
  have hd:=hh.1;have hx:=Pn.AO ws lv (.mk k t es cs ks);rw[if_pos (by simpa using hh)]at hx;simp only[Pn.dX,Pn.gU,Pn.bV,Pn.dZ,Pn.fV]at hx;rw[hx];rw[mY]at hh;obtain⟨⟨h1,h2,h3,h4⟩,h5⟩:=hh;have hr:=fun a=>Pn.uF hw a (lv-1)
  rcases sZ k with rfl|rfl|rfl|rfl|rfl|rfl|rfl|rfl|h
  ·obtain rfl:=gW (by simpa using h1);obtain rfl:es=[]:=gW (by simpa using h2);obtain rfl:cs=[]:=by simpa using h4
   exact ABV
  ·obtain⟨a,rfl⟩:=mD (by simpa using h1);obtain rfl:cs=[]:=by simpa using h4
   obtain rfl:t=0:=by simpa using h3
   have hl:lv≠0:=by simpa using h5
   rw[ABU hl hlv hd (ih a (by simp) (lv-1) (by omega)) (hr a)];by_cases z:a.wd ws (lv-1)=0<;>simp[z]
  ·obtain⟨a,rfl⟩:=mD (by simpa using h1);obtain rfl:cs=[]:=by simpa using h4
   obtain rfl:t=0:=by simpa using h3
   have hl:lv≠0:=by simpa using h5
   rw[ABT hl hlv hd (ih a (by simp) (lv-1) (by omega)) (hr a)];by_cases z:a.wd ws (lv-1)=0<;>simp[z]
  ·obtain⟨a,b,rfl⟩:=EA (by simpa using h1);obtain rfl:cs=[]:=by simpa using h4
   obtain rfl:t=0:=by simpa using h3
   have hl:lv≠0:=by simpa using h5
   rw[ABS hl hlv hd (ih a (by simp) (lv-1) (by omega)) (hr a) (ih b (by simp) (lv-1) (by omega)) (hr b)];by_cases z:a.wd ws (lv-1)=0<;>by_cases z2:b.wd ws (lv-1)=0<;>simp[z,z2]
  ·obtain⟨a,b,rfl⟩:=EA (by simpa using h1);obtain rfl:cs=[]:=by simpa using h4
   obtain rfl:t=0:=by simpa using h3
   have hl:lv≠0:=by simpa using h5
   rw[ABR hl hlv hd (ih a (by simp) (lv-1) (by omega)) (hr a) (ih b (by simp) (lv-1) (by omega)) (hr b)];by_cases z:a.wd ws (lv-1)=0<;>by_cases z2:b.wd ws (lv-1)=0<;>simp[z,z2]
  ·obtain⟨a,b,rfl⟩:=EA (by simpa using h1);obtain rfl:es=[]:=gW (by simpa using h2);obtain rfl:cs=[]:=by simpa using h4
   obtain rfl:t=0:=by simpa using h3
   have hl:lv≠0:=by simpa using h5
   rw[ABQ hl hlv hd (ih a (by simp) (lv-1) (by omega)) (hr a) (ih b (by simp) (lv-1) (by omega)) (hr b)];by_cases z:a.wd ws (lv-1)=0<;>by_cases z2:b.wd ws (lv-1)=0<;>simp[z,z2]
  ·obtain⟨a,rfl⟩:=mD (by simpa using h1);obtain rfl:es=[]:=gW (by simpa using h2);obtain rfl:cs=[]:=by simpa using h4
   obtain rfl:t=0:=by simpa using h3
   have hl:lv≠0:=by simpa using h5
   rw[ABP hl hlv hd (ih a (by simp) (lv-1) (by omega)) (hr a)];by_cases z:a.wd ws (lv-1)=0<;>simp[z]
  ·obtain⟨a,rfl⟩:=mD (by simpa using h1);obtain rfl:es=[]:=gW (by simpa using h2);obtain rfl:t=0:=by simpa using h3
   have hl:lv≠0:=by simpa using h5
   rw[ABO hl hlv hd (ih a (by simp) (lv-1) (by omega)) (hr a)];by_cases z:a.wd ws (lv-1)=0<;>simp[z]
  ·exact absurd h1 (by rw[XW h];omega)
def VX (ws:List Int) (i:Nat):AS :=
 { env:=[(0, .i (.isl (aF ws))),(2, .bool false),(4,jk i (.int (ws[i-1]?.getD 0))),(12, .bool false),(13, .i (.isl (aF ws))),(14, .int ws.length),(15, .int i),(16,jk i (.bool true)),(21,jk i (.bool false))],st:=[] }
theorem LF (ws:List Int):aI C0 108 [.i (.isl (aF ws))] []=some (.bool (lL ws),[]):=by
 rw[aD rfl Tryz.func108 rfl rfl];by_cases h1:ws.length=0
 ·have:=zW.1 h1;subst this;simp[aF,lL]
 by_cases h4:ws.length≤4
 case neg=>simp[lL,h4,show ¬ (ws.length:Int)<1 by omega,show 4<(ws.length:Int)by omega]
 simp[show ¬ (ws.length:Int)<1 by omega,show ¬ 4<(ws.length:Int)by omega];obtain⟨j,h1',h2⟩:=iQ bN ws;rw[aV (VX ws) j (by simp[VX])]
 ·rw[aH]
  rcases h2 with ⟨hj,ha⟩|⟨x,h3,_,h5,ha⟩
  ·simp[VX,hj,lL,h4,ha,show 1≤ws.length by omega]
  ·have r1:=(zZ.1 h3).1;have r2:=bJ h3;simp[VX,r1,r2,h5,lL,ha]
 ·intro i hi;obtain⟨x,h3,_,h5⟩:=h1' i hi;have r1:=(zZ.1 h3).1;have r2:=bJ h3;have w2:IntKind.i64.wrap ((i:Int)+1)=i+1:=wrO;have h3':ws[i]=x:=(zZ.1 h3).2;simp[VX,r1,r2,h5,w2,h3']
theorem jQ {ws:List Int} (h:lL ws=true):∀ w∈ws,0≤w∧w≤6:=by
 intro w hw;simp only[lL,zT]at h;have:=zQ.1 h.2 w hw;simp[bN]at this;omega
theorem jP (p:Pn) (ws:List Int):aI C0 68 [.i (.agg p.cells), .i (.isl (aF ws))] []=some (.int (p.width ws),[]):=by
 rw[aD rfl Tryz.func68 rfl rfl];have hv:=LF ws
 cases h:lL ws with
 | false=>rw[h]at hv;rw[Pn.aA];simp[hv,Pn.width,h]
 | true =>
  rw[h]at hv;have hb:=AJ (jQ h) p 8 (by omega);rw[show((8:Nat):Int)=8 from rfl]at hb;rw[Pn.aA]at hb ⊢;simp[hv,Pn.width,h,hb]
def only (k t:Int) (es:List Ex) (cs:List Int) (ks:List Pn):Bool:=decide (1≤k∧k≤8) && (decide ((ks.length:Int)=jS k) && (decide ((es.length:Int)=if k=3 then(es.length:Int)else eQ k) && ((decide (t=0) || decide (k=1)) && (decide (cs=[]) || decide (k=8)))))
theorem eD (k t:Int) (es:List Ex) (cs:List Int) (ks:List Pn):aI C0 139 [.i (.agg [.int k, .int t, .isl (Ex.aB es), .isl (aF cs), .isl (Pn.aB ks)])] []=some (.bool (only k t es cs ks),[]):=by
 rw[aD rfl Tryz.func139 rfl rfl]
 rcases sZ k with rfl|rfl|rfl|rfl|rfl|rfl|rfl|rfl|h
 case inr.inr.inr.inr.inr.inr.inr.inr =>
  have h1:¬ (1≤k∧k≤8):=by omega
  simp[h.1,h.2.1,h.2.2.1,h.2.2.2.1,h.2.2.2.2.1,h.2.2.2.2.2.1,h1,only]
 case inr.inr.inl =>
  by_cases c1:(ks.length:Int)=1
  case neg=>simp[c1,only]
  by_cases c3:t=0
  case neg=>simp[c1,c3,only]
  by_cases c5:cs=[]<;>simp[c1,c3,c5,only,aF]
 case inl =>
  by_cases c1:ks=[]
  case neg=>simp[c1,only]
  by_cases c2:es=[]
  case neg=>simp[c1,c2,only]
  by_cases c3:t=0<;>by_cases c5:cs=[]<;>simp[c1,c2,c3,c5,only,aF,Ex.aB,Pn.aB]
 case inr.inl =>
  by_cases c1:(ks.length:Int)=1
  case neg=>simp[c1,only]
  by_cases c2:(es.length:Int)=1
  case neg=>simp[c1,c2,only]
  by_cases c3:t=0
  case neg=>simp[c1,c2,c3,only]
  by_cases c5:cs=[]<;>simp[c1,c2,c3,c5,only,aF]
 case inr.inr.inr.inl =>
  by_cases c1:(ks.length:Int)=2
  case neg=>simp[c1,only]
  by_cases c2:(es.length:Int)=1
  case neg=>simp[c1,c2,only]
  by_cases c3:t=0
  case neg=>simp[c1,c2,c3,only]
  by_cases c5:cs=[]<;>simp[c1,c2,c3,c5,only,aF]
 case inr.inr.inr.inr.inl =>
  by_cases c1:(ks.length:Int)=2
  case neg=>simp[c1,only]
  by_cases c2:(es.length:Int)=1
  case neg=>simp[c1,c2,only]
  by_cases c3:t=0
  case neg=>simp[c1,c2,c3,only]
  by_cases c5:cs=[]<;>simp[c1,c2,c3,c5,only,aF]
 case inr.inr.inr.inr.inr.inl =>
  by_cases c1:(ks.length:Int)=2
  case neg=>simp[c1,only]
  by_cases c2:es=[]
  case neg=>simp[c1,c2,only]
  by_cases c3:t=0
  case neg=>simp[c1,c2,c3,only]
  by_cases c5:cs=[]<;>simp[c1,c2,c3,c5,only,aF,Ex.aB]
 case inr.inr.inr.inr.inr.inr.inl =>
  by_cases c1:(ks.length:Int)=1
  case neg=>simp[c1,only]
  by_cases c2:es=[]
  case neg=>simp[c1,c2,only]
  by_cases c3:t=0
  case neg=>simp[c1,c2,c3,only]
  by_cases c5:cs=[]<;>simp[c1,c2,c3,c5,only,aF,Ex.aB]
 case inr.inr.inr.inr.inr.inr.inr.inl =>
  by_cases c1:(ks.length:Int)=1
  case neg=>simp[c1,only]
  by_cases c2:es=[]
  case neg=>simp[c1,c2,only]
  by_cases c3:t=0
  case neg=>simp[c1,c2,c3,only]
  by_cases c5:cs=[]<;>simp[c1,c2,c3,c5,only,aF,Ex.aB]
theorem AOB {cs:List Int} {w:Int}:∀ {i:Nat},(∀ k,k<i→∃ x,(cs.zip (-1::cs))[k]?=some x∧x∈cs.zip (-1::cs)∧decide (x.2<x.1∧x.1<w)=true)→-1≤pv cs i∧(i≠0→0≤pv cs i)
 | 0,_=>by simp[pv]
 | i+1,h=>by
  obtain⟨x,h3,_,h4⟩:=h i (by omega);obtain⟨c1,c2⟩:=CG h3;rw[AE9 c1];have hb:x.2<x.1∧x.1<w:=by simpa using h4
  have:=AOB (i:=i) fun k hk=>h k (by omega)
  omega
def CX (cs:List Int) (w:Int) (i:Nat):AS :=
 { env:=[(0, .i (.isl (aF cs))),(1, .int w),(4, .bool false),(5, .int i),(9,jk i (.bool true)),(35,jk i (.bool false))],st:=[] }
theorem QP (cs:List Int) (w:Int) (hl:cs.length<9223372036854775808) (hw:0≤w∧w≤6):aI C0 142 [.i (.isl (aF cs)), .int w] []=some (.bool (sD w cs),[]):=by
 rw[aD rfl Tryz.func142 rfl rfl];have w1:IntKind.i64.wrap (w-1)=w-1:=wrO;simp;obtain⟨j,h1,h2⟩:=iQ (fun x:Int×Int=>decide (x.2<x.1∧x.1<w)) (cs.zip (-1::cs));rw[aV (CX cs w) j (by simp[CX])]
 ·rw[aH]
  rcases h2 with ⟨hj,ha⟩|⟨x,h3,_,h4,ha⟩
  ·rw[YV]at hj;have ha:sD w cs=true:=ha;simp[CX,hj,ha]
  ·obtain⟨c1,c2⟩:=CG h3;have r1:=(zZ.1 c1).1;have r2:=bJ c1;have hb:¬ (x.2<x.1∧x.1<w):=by simpa using h4
   have ha:sD w cs=false:=ha;have hp:=AOB (i:=j) h1;by_cases hin:0≤x.1∧x.1≤w-1
   ·have hj:j≠0:=fun h=>by subst h;simp[pv]at c2;omega
    obtain⟨j,rfl⟩:∃ i,j=i+1:=⟨j-1,by omega⟩
    have q1:cs[j]?=some x.2:=by
     have:pv cs (j+1)=x.2:=c2;simp only[pv,xH]at this;rw[zX (by omega)]at this ⊢;simpa using this
    have q2:=bJ q1;have w4:IntKind.i64.wrap ((j:Int)+1-1)=j:=by rw[wrO];omega
    have w5:IntKind.i64.wrap ((j:Int))=j:=by rw[wrO]
    simp[CX,r1,r2,w1,hin,ha,q2,w4,w5,show(0:Int)<j+1 by omega,show x.1≤x.2 by omega,show(0:Int)≤(j:Int)+1 by omega,show j<cs.length by omega,show((j:Int)+1<cs.length)by omega]
   ·simp[CX,r1,r2,w1,hin,ha]
 ·intro i hi;obtain⟨x,h3,_,h4⟩:=h1 i hi;obtain⟨c1,c2⟩:=CG h3;have r1:=(zZ.1 c1).1;have r2:=bJ c1;have hb:x.2<x.1∧x.1<w:=by simpa using h4
  have hp:=AOB (i:=i) fun k hk=>h1 k (by omega)
  have hin:0≤x.1∧x.1≤w-1:=by omega
  have w2:IntKind.i64.wrap ((i:Int)+1)=i+1:=wrO;by_cases h0:i=0
  ·subst h0;simp[CX,r1,r2,w1,hin,dK]
  ·obtain⟨i,rfl⟩:∃ j,i=j+1:=⟨i-1,by omega⟩
   have q1:cs[i]?=some x.2:=by
    have:pv cs (i+1)=x.2:=c2;simp only[pv,xH]at this;rw[zX (by omega)]at this ⊢;simpa using this
   have q2:=bJ q1;have w5:IntKind.i64.wrap ((i:Int))=i:=by rw[wrO]
   have w2':IntKind.i64.wrap ((i:Int)+1+1)=i+1+1:=wrO;simp[CX,r1,r2,w1,hin,q2,w5,w2',show(0:Int)<i+1 by omega,show ¬ x.1≤x.2 by omega,show(0:Int)≤(i:Int)+1 by omega,show i<cs.length by omega,show((i:Int)+1<cs.length)by omega]
def pW (es:List Ex) (w:Int):Int:=if es.all (Ex.ok w)=true∧es.length≤6 then(es.length:Int)else 0
def QX (es:List Ex) (w:Int) (i:Nat):AS :=
 { env:=[(0, .i (.isl (Ex.aB es))),(1, .int w),(4, .int 0),(5, .int i),(9,jk i (.bool true)),(18,jk i (.bool false)),(21, .junk)],st:=[] }
theorem JB (es:List Ex) (w:Int) (hl:es.length<9223372036854775808):aI C0 141 [.i (.isl (Ex.aB es)), .int w] []=some (.int (pW es w),[]):=by
 rw[aD rfl Tryz.func141 rfl rfl];simp;obtain⟨j,h1,h2⟩:=iQ (Ex.ok w) es;rw[aV (QX es w) j (by simp[QX])]
 ·rw[aH]
  rcases h2 with ⟨hj,hall⟩|⟨x,h3,_,h5,hall⟩
  ·by_cases h6:es.length≤6
   ·have hq:pW es w=es.length:=if_pos ⟨hall,h6⟩;simp[QX,hj,hq,show ¬ (6:Int)<es.length by omega]
   ·have hq:pW es w=0:=if_neg fun h=>h6 h.2
    simp[QX,hj,hq,show(6:Int)<es.length by omega]
  ·have r1:=(zZ.1 h3).1;have r2:=Ex.aQ h3;have r3:=R7 w x;rw[h5]at r3;rw[Ex.aA]at r2 r3;have hq:pW es w=0:=if_neg fun h=>by rw[hall]at h;simp at h
   simp[QX,r1,r2,r3,hq]
 ·intro i hi;obtain⟨x,h3,_,h5⟩:=h1 i hi;have r1:=(zZ.1 h3).1;have r2:=Ex.aQ h3;have r3:=R7 w x;rw[h5]at r3;rw[Ex.aA]at r2 r3;have w2:IntKind.i64.wrap ((i:Int)+1)=i+1:=wrO;simp[QX,r1,r2,r3,w2]
def UX (ws:List Int) (i:Nat):AS :=
 { env:=[(0, .i (.isl (aF ws))),(2, .bool false),(3, .int i),(7,jk i (.bool true)),(15,jk i (.bool false))],st:=[] }
theorem IL (ws:List Int) (hl:ws.length<9223372036854775808):aI C0 121 [.i (.isl (aF ws))] []=some (.bool (lL ws),[]):=by
 rw[aD rfl Tryz.func121 rfl rfl];simp;obtain⟨j,h1',h2⟩:=iQ bN ws;rw[aV (UX ws) j (by simp[UX])]
 ·rw[aH]
  rcases h2 with ⟨hj,ha⟩|⟨x,h3,_,h5,ha⟩
  ·by_cases h4:1≤ws.length∧ws.length≤4
   ·simp[UX,hj,lL,h4,ha,show(1:Int)≤ws.length∧(ws.length:Int)≤4 by omega]
   ·simp[UX,hj,lL,h4,ha,show ¬ ((1:Int)≤ws.length∧(ws.length:Int)≤4)by omega]
  ·have r1:=(zZ.1 h3).1;have r2:=bJ h3;have h5:¬ (1≤x∧x≤6):=by simpa [bN]using h5
   simp[UX,r1,r2,h5,lL,ha]
 ·intro i hi;obtain⟨x,h3,_,h5⟩:=h1' i hi;have r1:=(zZ.1 h3).1;have r2:=bJ h3;have h5:1≤x∧x≤6:=by simpa [bN]using h5
  have w2:IntKind.i64.wrap ((i:Int)+1)=i+1:=wrO;simp[UX,r1,r2,h5,w2]
theorem AIN {ws:List Int} {k t:Int} {es:List Ex} {cs:List Int} {ks:List Pn} {lv:Nat} (h:¬ (only k t es cs ks=true∧(ks=[]∨lv≠0))):aI C0 104 [.i (.agg [.int k, .int t, .isl (Ex.aB es), .isl (aF cs), .isl (Pn.aB ks)]), .i (.isl (aF ws)), .int lv] []=some (.int 0,[]):=by
 rw[aD rfl Tryz.func104 rfl rfl];have ho:=eD k t es cs ks
 cases hq:only k t es cs ks with
 | false=>rw[hq]at ho;simp[ho]
 | true =>
  rw[hq]at ho;by_cases hk:ks=[]
  ·exact absurd ⟨hq, .inl hk⟩ h
  by_cases hl:lv=0
  ·have:0<ks.length:=xM.2 hk;subst hl;simp[ho,hk,this]
  ·exact absurd ⟨hq, .inr hl⟩ h
theorem AAA {ws:List Int} {lv:Nat} {t:Int} (ho:only 1 t [] [] []=true) (hw:ws.length<1000000000):aI C0 104 [.i (.agg [.int 1, .int t, .isl (Ex.aB []), .isl (aF []), .isl (Pn.aB [])]), .i (.isl (aF ws)), .int lv] []=some (.int (if 0≤t then(ws[t.toNat]?).getD 0 else 0),[]):=by
 rw[aD rfl Tryz.func104 rfl rfl];have hf:=eD 1 t [] [] [];rw[ho]at hf;have w1:IntKind.i64.wrap ((ws.length:Int)-1)=ws.length-1:=wrO;simp only[Ex.aB,Pn.aB,aF]at hf ⊢;simp[hf,w1];rw[aH];by_cases h0:0≤t
 case neg=>simp[h0,w1]
 cases hx:ws[t.toNat]? with
 | none =>
  have:=zA8.1 hx;simp[h0,w1,show ¬ t≤ws.length-1 by omega]
 | some x =>
  have r1:=(zZ.1 hx).1;have r2:=bJ hx;simp[h0,w1,show t≤ws.length-1 by omega,show t<ws.length by omega,r2]
theorem AA9 {ws:List Int} {lv:Nat} {a:Pn} {va:Int} {e:Ex} (ho:only 2 0 [e] [] [a]=true) (hl:lv≠0) (hl8:lv≤8) (ha:aI C0 104 [.i (.agg a.cells), .i (.isl (aF ws)), .int (lv-1:Nat)] []=some (.int va,[])) (ra:0≤va∧va≤6):aI C0 104 [.i (.agg [.int 2, .int 0, .isl (Ex.aB [e]), .isl (aF []), .isl (Pn.aB [a])]), .i (.isl (aF ws)), .int lv] []=some (.int (if va=0 then 0 else if e.ok va=true then va else 0),[]):=by
 rw[aD rfl Tryz.func104 rfl rfl];have hf:=eD 2 0 [e] [] [a];rw[ho]at hf;have c3':¬ (lv:Int)=0:=by omega
 have w1:IntKind.i64.wrap ((lv:Int)-1)=(lv-1:Nat):=by rw[wrO];omega
 have w2:IntKind.i64.wrap (1:Int)=1:=dK;have w3:IntKind.i64.wrap (2:Int)=2:=wrO;have r0:fK [a.cells] 0=some a.cells:=rfl;simp only[Pn.aB,aF,Ex.aB]at hf ⊢;have q0:fK [e.cells] 0=some e.cells:=rfl;have qe:=R7 (va) e;rw[Ex.aA e]at q0 qe hf ⊢;rw[Pn.aA a]at ha r0 hf ⊢;simp[hf,hl,c3'];rw[aH];by_cases z1:va=0
 case pos=>simp[w1,ha,r0,z1]
 simp[w1,w2,ha,r0,z1];rw[aH]
 cases hv:e.ok va<;>rw[hv]at qe<;>simp[z1,q0,qe]
theorem MH {ws:List Int} {lv:Nat} {a:Pn} {va:Int} {es:List Ex} (ho:only 3 0 es [] [a]=true) (hl:lv≠0) (hl8:lv≤8) (ha:aI C0 104 [.i (.agg a.cells), .i (.isl (aF ws)), .int (lv-1:Nat)] []=some (.int va,[])) (ra:0≤va∧va≤6) (he:es.length<9223372036854775808):aI C0 104 [.i (.agg [.int 3, .int 0, .isl (Ex.aB es), .isl (aF []), .isl (Pn.aB [a])]), .i (.isl (aF ws)), .int lv] []=some (.int (if va=0 then 0 else pW es va),[]):=by
 rw[aD rfl Tryz.func104 rfl rfl];have hf:=eD 3 0 es [] [a];rw[ho]at hf;have c3':¬ (lv:Int)=0:=by omega
 have w1:IntKind.i64.wrap ((lv:Int)-1)=(lv-1:Nat):=by rw[wrO];omega
 have w2:IntKind.i64.wrap (1:Int)=1:=dK;have w3:IntKind.i64.wrap (2:Int)=2:=wrO;have r0:fK [a.cells] 0=some a.cells:=rfl;simp only[Pn.aB,aF,Ex.aB]at hf ⊢;rw[Pn.aA a]at ha r0 hf ⊢;simp[hf,hl,c3'];rw[aH];by_cases z1:va=0
 case pos=>simp[w1,ha,r0,z1]
 simp[w1,w2,ha,r0,z1];rw[aH];have hp:=JB es va he;simp[z1,hp]
theorem AA8 {ws:List Int} {lv:Nat} {a:Pn} {va:Int} {b:Pn} {vb:Int} {e:Ex} (ho:only 4 0 [e] [] [a,b]=true) (hl:lv≠0) (hl8:lv≤8) (ha:aI C0 104 [.i (.agg a.cells), .i (.isl (aF ws)), .int (lv-1:Nat)] []=some (.int va,[])) (ra:0≤va∧va≤6) (hb:aI C0 104 [.i (.agg b.cells), .i (.isl (aF ws)), .int (lv-1:Nat)] []=some (.int vb,[])) (rb:0≤vb∧vb≤6):aI C0 104 [.i (.agg [.int 4, .int 0, .isl (Ex.aB [e]), .isl (aF []), .isl (Pn.aB [a,b])]), .i (.isl (aF ws)), .int lv] []=some (.int (if va=0∨vb=0 then 0 else if va+vb≤6∧e.ok (va+vb)=true then va+vb else 0),[]):=by
 rw[aD rfl Tryz.func104 rfl rfl];have hf:=eD 4 0 [e] [] [a,b];rw[ho]at hf;have c3':¬ (lv:Int)=0:=by omega
 have w1:IntKind.i64.wrap ((lv:Int)-1)=(lv-1:Nat):=by rw[wrO];omega
 have w2:IntKind.i64.wrap (1:Int)=1:=dK;have w3:IntKind.i64.wrap (2:Int)=2:=wrO;have r0:fK [a.cells,b.cells] 0=some a.cells:=rfl;have r1:fK [a.cells,b.cells] 1=some b.cells:=rfl;simp only[Pn.aB,aF,Ex.aB]at hf ⊢;have q0:fK [e.cells] 0=some e.cells:=rfl;have qe:=R7 (va+vb) e;rw[Ex.aA e]at q0 qe hf ⊢;rw[Pn.aA a]at ha r0 hf ⊢;rw[Pn.aA a]at r1;rw[Pn.aA b]at hb r0 r1 hf ⊢;simp[hf,hl,c3'];rw[aH];by_cases z1:va=0
 case pos=>simp[w1,ha,r0,z1]
 simp[w1,w2,ha,r0,z1];rw[aH];by_cases z2:vb=0
 case pos=>simp[w1,hb,r1,z2]
 simp[w1,hb,r1,z1,z2,w2,w3];rw[aH];have w4:IntKind.i64.wrap (va+vb)=va+vb:=wrO;by_cases h6:va+vb≤6
 ·cases hv:e.ok (va+vb)<;>rw[hv]at qe<;>simp[z1,z2,q0,qe,w4,h6]
 ·simp[z1,z2,w4,h6]
theorem AA7 {ws:List Int} {lv:Nat} {a:Pn} {va:Int} {b:Pn} {vb:Int} {e:Ex} (ho:only 5 0 [e] [] [a,b]=true) (hl:lv≠0) (hl8:lv≤8) (ha:aI C0 104 [.i (.agg a.cells), .i (.isl (aF ws)), .int (lv-1:Nat)] []=some (.int va,[])) (ra:0≤va∧va≤6) (hb:aI C0 104 [.i (.agg b.cells), .i (.isl (aF ws)), .int (lv-1:Nat)] []=some (.int vb,[])) (rb:0≤vb∧vb≤6):aI C0 104 [.i (.agg [.int 5, .int 0, .isl (Ex.aB [e]), .isl (aF []), .isl (Pn.aB [a,b])]), .i (.isl (aF ws)), .int lv] []=some (.int (if va=0∨vb=0 then 0 else if va+vb≤6∧e.ok (va+vb)=true then va+vb else 0),[]):=by
 rw[aD rfl Tryz.func104 rfl rfl];have hf:=eD 5 0 [e] [] [a,b];rw[ho]at hf;have c3':¬ (lv:Int)=0:=by omega
 have w1:IntKind.i64.wrap ((lv:Int)-1)=(lv-1:Nat):=by rw[wrO];omega
 have w2:IntKind.i64.wrap (1:Int)=1:=dK;have w3:IntKind.i64.wrap (2:Int)=2:=wrO;have r0:fK [a.cells,b.cells] 0=some a.cells:=rfl;have r1:fK [a.cells,b.cells] 1=some b.cells:=rfl;simp only[Pn.aB,aF,Ex.aB]at hf ⊢;have q0:fK [e.cells] 0=some e.cells:=rfl;have qe:=R7 (va+vb) e;rw[Ex.aA e]at q0 qe hf ⊢;rw[Pn.aA a]at ha r0 hf ⊢;rw[Pn.aA a]at r1;rw[Pn.aA b]at hb r0 r1 hf ⊢;simp[hf,hl,c3'];rw[aH];by_cases z1:va=0
 case pos=>simp[w1,ha,r0,z1]
 simp[w1,w2,ha,r0,z1];rw[aH];by_cases z2:vb=0
 case pos=>simp[w1,hb,r1,z2]
 simp[w1,hb,r1,z1,z2,w2,w3];rw[aH];have w4:IntKind.i64.wrap (va+vb)=va+vb:=wrO;by_cases h6:va+vb≤6
 ·cases hv:e.ok (va+vb)<;>rw[hv]at qe<;>simp[z1,z2,q0,qe,w4,h6]
 ·simp[z1,z2,w4,h6]
theorem AA6 {ws:List Int} {lv:Nat} {a:Pn} {va:Int} {b:Pn} {vb:Int} (ho:only 6 0 [] [] [a,b]=true) (hl:lv≠0) (hl8:lv≤8) (ha:aI C0 104 [.i (.agg a.cells), .i (.isl (aF ws)), .int (lv-1:Nat)] []=some (.int va,[])) (ra:0≤va∧va≤6) (hb:aI C0 104 [.i (.agg b.cells), .i (.isl (aF ws)), .int (lv-1:Nat)] []=some (.int vb,[])) (rb:0≤vb∧vb≤6):aI C0 104 [.i (.agg [.int 6, .int 0, .isl (Ex.aB []), .isl (aF []), .isl (Pn.aB [a,b])]), .i (.isl (aF ws)), .int lv] []=some (.int (if va=0∨vb=0 then 0 else if va=vb then va else 0),[]):=by
 rw[aD rfl Tryz.func104 rfl rfl];have hf:=eD 6 0 [] [] [a,b];rw[ho]at hf;have c3':¬ (lv:Int)=0:=by omega
 have w1:IntKind.i64.wrap ((lv:Int)-1)=(lv-1:Nat):=by rw[wrO];omega
 have w2:IntKind.i64.wrap (1:Int)=1:=dK;have w3:IntKind.i64.wrap (2:Int)=2:=wrO;have r0:fK [a.cells,b.cells] 0=some a.cells:=rfl;have r1:fK [a.cells,b.cells] 1=some b.cells:=rfl;simp only[Pn.aB,aF,Ex.aB]at hf ⊢;rw[Pn.aA a]at ha r0 hf ⊢;rw[Pn.aA a]at r1;rw[Pn.aA b]at hb r0 r1 hf ⊢;simp[hf,hl,c3'];rw[aH];by_cases z1:va=0
 case pos=>simp[w1,ha,r0,z1]
 simp[w1,w2,ha,r0,z1];rw[aH];by_cases z2:vb=0
 case pos=>simp[w1,hb,r1,z2]
 simp[w1,hb,r1,z1,z2,w2,w3];rw[aH];by_cases h6:va=vb<;>simp[z1,z2,h6]
theorem AA5 {ws:List Int} {lv:Nat} {a:Pn} {va:Int} (ho:only 7 0 [] [] [a]=true) (hl:lv≠0) (hl8:lv≤8) (ha:aI C0 104 [.i (.agg a.cells), .i (.isl (aF ws)), .int (lv-1:Nat)] []=some (.int va,[])) (ra:0≤va∧va≤6):aI C0 104 [.i (.agg [.int 7, .int 0, .isl (Ex.aB []), .isl (aF []), .isl (Pn.aB [a])]), .i (.isl (aF ws)), .int lv] []=some (.int (if va=0 then 0 else va),[]):=by
 rw[aD rfl Tryz.func104 rfl rfl];have hf:=eD 7 0 [] [] [a];rw[ho]at hf;have c3':¬ (lv:Int)=0:=by omega
 have w1:IntKind.i64.wrap ((lv:Int)-1)=(lv-1:Nat):=by rw[wrO];omega
 have w2:IntKind.i64.wrap (1:Int)=1:=dK;have w3:IntKind.i64.wrap (2:Int)=2:=wrO;have r0:fK [a.cells] 0=some a.cells:=rfl;simp only[Pn.aB,aF,Ex.aB]at hf ⊢;rw[Pn.aA a]at ha r0 hf ⊢;simp[hf,hl,c3'];rw[aH];by_cases z1:va=0
 case pos=>simp[w1,ha,r0,z1]
 simp[w1,w2,ha,r0,z1];rw[aH];simp[z1]
theorem AA4 {ws:List Int} {lv:Nat} {a:Pn} {va:Int} {cs:List Int} (ho:only 8 0 [] cs [a]=true) (hl:lv≠0) (hl8:lv≤8) (ha:aI C0 104 [.i (.agg a.cells), .i (.isl (aF ws)), .int (lv-1:Nat)] []=some (.int va,[])) (ra:0≤va∧va≤6) (hc:cs.length<9223372036854775808):aI C0 104 [.i (.agg [.int 8, .int 0, .isl (Ex.aB []), .isl (aF cs), .isl (Pn.aB [a])]), .i (.isl (aF ws)), .int lv] []=some (.int (if va=0 then 0 else if cs.length<6∧sD va cs=true then(cs.length:Int)+1 else 0),[]):=by
 rw[aD rfl Tryz.func104 rfl rfl];have hf:=eD 8 0 [] cs [a];rw[ho]at hf;have c3':¬ (lv:Int)=0:=by omega
 have w1:IntKind.i64.wrap ((lv:Int)-1)=(lv-1:Nat):=by rw[wrO];omega
 have w2:IntKind.i64.wrap (1:Int)=1:=dK;have w3:IntKind.i64.wrap (2:Int)=2:=wrO;have r0:fK [a.cells] 0=some a.cells:=rfl;simp only[Pn.aB,aF,Ex.aB]at hf ⊢;rw[Pn.aA a]at ha r0 hf ⊢;simp[hf,hl,c3'];rw[aH];by_cases z1:va=0
 case pos=>simp[w1,ha,r0,z1]
 simp[w1,w2,ha,r0,z1];rw[aH];have hp:=QP cs va hc ra;by_cases h6:cs.length<6
 ·have w5:IntKind.i64.wrap ((cs.length:Int)+1)=cs.length+1:=wrO
  cases hv:sD va cs<;>rw[hv]at hp<;>simp[z1,hp,h6,show(cs.length:Int)<6 by omega,w5]
 ·cases hv:sD va cs<;>rw[hv]at hp<;>simp[z1,hp,h6,show ¬ (cs.length:Int)<6 by omega]
theorem XU (k t:Int) (es:List Ex) (cs:List Int) (ks:List Pn):only k t es cs ks=true↔((1≤k∧k≤8)∧(ks.length:Int)=jS k∧((es.length:Int)=if k=3 then(es.length:Int)else eQ k)∧(t=0∨k=1)∧(cs=[]∨k=8)):=by
 unfold only;simp only[zT,zD8,zN]
theorem BC {ws:List Int} (hw:∀ w∈ws,0≤w∧w≤6) (hwl:ws.length<1000000000):∀ (p:Pn),p.lim→∀ (lv:Nat),lv≤8→aI C0 104 [.i (.agg p.cells), .i (.isl (aF ws)), .int lv] []=some (.int (p.wd ws lv),[]):=by
 intro p
 induction p using Pn.ind with
 | h k t es cs ks ih =>
  intro hp lv hlv;have hp:=(Pn.JV _).1 hp;simp only[Pn.bV,Pn.dZ,Pn.fV]at hp;obtain⟨he,hc,-,hks⟩:=hp;rw[Pn.dU];have hr:=fun a=>Pn.uF hw a (lv-1)
  by_cases ho:only k t es cs ks=true∧(ks=[]∨lv≠0)
  case neg =>
   rw[AIN ho,Pn.ZK];intro hh;apply ho;refine⟨?_,hh.2⟩;have h:=(mY k t es cs ks).1 hh.1;rw[XU];refine⟨?_,h.1,?_,h.2.2.1.symm,h.2.2.2.symm⟩
   ·rcases JI k with h1|h1|h1|h1<;>omega
   ·by_cases h3:k=3
    ·rw[if_pos h3]
    ·have:=h.2.1;rw[if_neg fun h=>h3 h.1]at this;rw[if_neg h3];exact this
  have hoo:=ho.1;have hq:=(XU k t es cs ks).1 ho.1;obtain⟨h0,h1,h2,h3,h4⟩:=hq;have h5:=ho.2;by_cases hd:Pn.headOk (.mk k t es cs ks)=true
  case neg =>
   rw[Pn.ZK fun h=>hd h.1]
   have hk3:k=3∧¬ bN es.length=true∧(es.length:Int)≠1:=by
    by_cases hk:k=3
    ·refine⟨hk,?_,?_⟩
     ·intro hv;exact hd ((mY k t es cs ks).2 ⟨h1,by rw[if_pos ⟨hk,hv⟩],h3.symm,h4.symm⟩)
     ·intro hv;have:bN es.length=true:=by rw[hv];decide
      exact hd ((mY k t es cs ks).2 ⟨h1,by rw[if_pos ⟨hk,this⟩],h3.symm,h4.symm⟩)
    ·exact absurd ((mY k t es cs ks).2 ⟨h1,by rw[if_neg fun h=>hk h.1];rwa [if_neg hk]at h2,h3.symm,h4.symm⟩) hd
   obtain⟨rfl,hv,hv1⟩:=hk3;obtain⟨a,rfl⟩:=mD (by simpa using h1);obtain rfl:cs=[]:=by simpa using h4
   obtain rfl:t=0:=by simpa using h3
   have hl:lv≠0:=by simpa using h5
   rw[MH hoo hl hlv (ih a (by simp) (hks a (by simp)) (lv-1) (by omega)) (hr a) he]
   have:pW es (a.wd ws (lv-1))=0:=by
    unfold pW;split
    ·rename_i h;have:¬ (1≤(es.length:Int)∧(es.length:Int)≤6):=by simpa [bN]using hv
     omega
    ·rfl
   simp[this]
  have hx:=Pn.AO ws lv (.mk k t es cs ks);rw[if_pos (by simpa using (⟨hd,h5⟩:_∧_))]at hx;simp only[Pn.dX,Pn.gU,Pn.bV,Pn.dZ,Pn.fV]at hx;rw[hx]
  rcases sZ k with rfl|rfl|rfl|rfl|rfl|rfl|rfl|rfl|h
  ·obtain rfl:=gW (by simpa using h1);obtain rfl:es=[]:=gW (by simpa using h2);obtain rfl:cs=[]:=by simpa using h4
   exact AAA hoo hwl
  ·obtain⟨a,rfl⟩:=mD (by simpa using h1);obtain⟨e,rfl⟩:=mD (by simpa using h2);obtain rfl:cs=[]:=by simpa using h4
   obtain rfl:t=0:=by simpa using h3
   have hl:lv≠0:=by simpa using h5
   rw[AA9 hoo hl hlv (ih a (by simp) (hks a (by simp)) (lv-1) (by omega)) (hr a)];by_cases z:a.wd ws (lv-1)=0<;>simp[z,d9]
  ·obtain⟨a,rfl⟩:=mD (by simpa using h1);obtain rfl:cs=[]:=by simpa using h4
   obtain rfl:t=0:=by simpa using h3
   have hl:lv≠0:=by simpa using h5
   rw[MH hoo hl hlv (ih a (by simp) (hks a (by simp)) (lv-1) (by omega)) (hr a) he];have h6:=Pn.tN hd;simp only[Pn.bV]at h6;by_cases z:a.wd ws (lv-1)=0<;>simp[z,d9,pW,h6]
  ·obtain⟨a,b,rfl⟩:=EA (by simpa using h1);obtain⟨e,rfl⟩:=mD (by simpa using h2);obtain rfl:cs=[]:=by simpa using h4
   obtain rfl:t=0:=by simpa using h3
   have hl:lv≠0:=by simpa using h5
   rw[AA8 hoo hl hlv (ih a (by simp) (hks a (by simp)) (lv-1) (by omega)) (hr a) (ih b (by simp) (hks b (by simp)) (lv-1) (by omega)) (hr b)];by_cases z:a.wd ws (lv-1)=0<;>by_cases z2:b.wd ws (lv-1)=0<;>simp[z,z2,d9]
  ·obtain⟨a,b,rfl⟩:=EA (by simpa using h1);obtain⟨e,rfl⟩:=mD (by simpa using h2);obtain rfl:cs=[]:=by simpa using h4
   obtain rfl:t=0:=by simpa using h3
   have hl:lv≠0:=by simpa using h5
   rw[AA7 hoo hl hlv (ih a (by simp) (hks a (by simp)) (lv-1) (by omega)) (hr a) (ih b (by simp) (hks b (by simp)) (lv-1) (by omega)) (hr b)];by_cases z:a.wd ws (lv-1)=0<;>by_cases z2:b.wd ws (lv-1)=0<;>simp[z,z2,d9]
  ·obtain⟨a,b,rfl⟩:=EA (by simpa using h1);obtain rfl:es=[]:=gW (by simpa using h2);obtain rfl:cs=[]:=by simpa using h4
   obtain rfl:t=0:=by simpa using h3
   have hl:lv≠0:=by simpa using h5
   rw[AA6 hoo hl hlv (ih a (by simp) (hks a (by simp)) (lv-1) (by omega)) (hr a) (ih b (by simp) (hks b (by simp)) (lv-1) (by omega)) (hr b)];by_cases z:a.wd ws (lv-1)=0<;>by_cases z2:b.wd ws (lv-1)=0<;>simp[z,z2,d9]
  ·obtain⟨a,rfl⟩:=mD (by simpa using h1);obtain rfl:es=[]:=gW (by simpa using h2);obtain rfl:cs=[]:=by simpa using h4
   obtain rfl:t=0:=by simpa using h3
   have hl:lv≠0:=by simpa using h5
   rw[AA5 hoo hl hlv (ih a (by simp) (hks a (by simp)) (lv-1) (by omega)) (hr a)];by_cases z:a.wd ws (lv-1)=0<;>simp[z,d9]
  ·obtain⟨a,rfl⟩:=mD (by simpa using h1);obtain rfl:es=[]:=gW (by simpa using h2);obtain rfl:t=0:=by simpa using h3
   have hl:lv≠0:=by simpa using h5
   rw[AA4 hoo hl hlv (ih a (by simp) (hks a (by simp)) (lv-1) (by omega)) (hr a) hc];by_cases z:a.wd ws (lv-1)=0<;>simp[z,d9]
  ·omega
theorem M6 (p:Pn) (hp:p.lim) (ws:List Int) (hl:ws.length<9223372036854775808):aI C0 71 [.i (.agg p.cells), .i (.isl (aF ws))] []=some (.int (p.width ws),[]):=by
 rw[aD rfl Tryz.func71 rfl rfl];have hv:=IL ws hl
 cases h:lL ws with
 | false=>rw[h]at hv;rw[Pn.aA];simp[hv,Pn.width,h]
 | true =>
  rw[h]at hv;have h4:ws.length≤4:=by simp[lL]at h;omega
  have hb:=BC (jQ h) (by omega) p hp 8 (by omega);rw[show((8:Nat):Int)=8 from rfl]at hb;rw[Pn.aA]at hb ⊢;simp[hv,Pn.width,h,hb]
def IX (l m:List Int) (i:Nat):AS :=
 { env:=[(0, .i (.isl (aF l))),(1, .i (.isl (aF m))),(4, .bool false),(5, .int i),(10, .bool false),(14,jk i (.bool true)),(25,jk i (.bool false))],st:=[] }
def SX (l m:List Int) (i:Nat):AS :=
 { env:=[(0, .i (.isl (aF l))),(1, .i (.isl (aF m))),(4, .bool false),(5,jk i (.int (i-1))),(10, .bool false),(12, .int l.length),(13, .int i),(14,jk i (.bool true)),(24,jk i (.bool false))],st:=[] }
def EX (a b:Ex) (i:Nat):AS :=
 { env:=[(0, .i (.iref [.int a.kind, .int a.col, .bool a.val.null, .int a.val.n, .isl (Ex.aB a.kids)])),(1, .i (.iref [.int b.kind, .int b.col, .bool b.val.null, .int b.val.n, .isl (Ex.aB b.kids)])),(4, .bool false),(5,jk i (.int (i-1))),(49, .bool false),(54, .int a.kids.length),(55, .int i),(56,jk i (.bool true)),(71,jk i (.bool false))],st:=[] }
def FX (a b:Ex) (i:Nat):AS :=
 { env:=[(0, .i (.agg [.int a.kind, .int a.col, .bool a.val.null, .int a.val.n, .isl (Ex.aB a.kids)])),(1, .i (.agg [.int b.kind, .int b.col, .bool b.val.null, .int b.val.n, .isl (Ex.aB b.kids)])),(2, .own 0 0),(3, .own 1 0),(4, .bool false),(5, .int i),(33, .bool false),(38,jk i (.bool true)),(52,jk i (.bool false))],
   st:=[some (.box [.int a.kind, .int a.col, .bool a.val.null, .int a.val.n, .i (.isl (Ex.aB a.kids))]),some (.box [.int b.kind, .int b.col, .bool b.val.null, .int b.val.n, .i (.isl (Ex.aB b.kids))])] }
def HX (p q:Pn) (n m:Nat) (i j k:AV) (x51 x65 x70 x83 x88 x102:AV):AS :=
 { env:=[(0, .i (.agg [.int p.kind, .int p.table, .isl (Ex.aB p.exprs), .isl (aF p.cols), .isl (Pn.aB p.kids)])),(1, .i (.agg [.int q.kind, .int q.table, .isl (Ex.aB q.exprs), .isl (aF q.cols), .isl (Pn.aB q.kids)])),(2, .own 0 0),(3, .own 1 0),(4, .bool false),(5,i),(6,j),(7,k),(46, .bool false),(51,x51),(65,x65),(70,x70),(83,x83),(88,x88),(102,x102)],
   st:=[some (.box [.int p.kind, .int p.table, .i (.isl (Ex.aB p.exprs)), .i (.isl (aF p.cols)), .i (.isl (Pn.aB p.kids))]),some (.box [.int q.kind, .int q.table, .i (.isl (Ex.aB q.exprs)), .i (.isl (aF q.cols)), .i (.isl (Pn.aB q.kids))])] }
def H1 (p q:Pn) (i:Nat):AS:=HX p q 0 0 (.int i) .junk .junk (jk i (.bool true)) (jk i (.bool false)) .junk .junk .junk .junk
def H2 (p q:Pn) (i:Nat):AS:=HX p q 0 0 (.int p.exprs.length) (.int i) .junk (.bool false) (jk p.exprs.length (.bool false)) (jk i (.bool true)) (jk i (.bool false)) .junk .junk
def KX (p:Pn) (i:Nat):AS :=
 { env:=[(0, .i (.agg [.int p.kind, .int p.table, .isl (Ex.aB p.exprs), .isl (aF p.cols), .isl (Pn.aB p.kids)])),(1, .own 0 0),(2, .own 1 0),(3, .own 2 0),(4, .int i),(5, .junk),(19,jk i (.bool true)),(37, .junk)],
   st:=some (.box [.int p.kind, .int p.table, .i (.isl (Ex.aB p.exprs)), .i (.isl (aF p.cols)), .i (.isl (Pn.aB p.kids))])::some (.box [.int 0, .int 0, .nils, .nils, .nils]) ::
    some (.box [.int p.kind, .int p.table,gro 3 5 i, .osl (if i=0 then 3 else 4) 1 0 p.cols.length, .nils])::(ACG 5 (Ex.aB (p.exprs.take i)) i++[some (.arr 1 (aF p.cols))]) }
def K2 (p:Pn) (i:Nat):AS :=
 { env:=[(0, .i (.agg [.int p.kind, .int p.table, .isl (Ex.aB p.exprs), .isl (aF p.cols), .isl (Pn.aB p.kids)])),(1, .own 0 0),(2, .own 1 0),(3, .own 2 0),(4, .int p.exprs.length),(5, .int i),(19, .bool false),(37,jk i (.bool true))],
   st:=some (.box [.int p.kind, .int p.table, .i (.isl (Ex.aB p.exprs)), .i (.isl (aF p.cols)), .i (.isl (Pn.aB p.kids))])::some (.box [.int 0, .int 0, .nils, .nils, .nils]) ::
    some (.box [.int p.kind, .int p.table,gro 3 5 p.exprs.length, .osl (if p.exprs.length=0 then 3 else 4) 1 0 p.cols.length,gro (if p.exprs.length=0 then 4 else 5) 5 i])::(ACG 5 (Ex.aB p.exprs) p.exprs.length++some (.arr 1 (aF p.cols))::ACG 5 (Pn.aB (p.kids.take i)) i) }
def pcX (p:Pn):AV:=.agg [.int p.kind, .int p.table,gro 0 5 p.exprs.length, .osl (if p.exprs.length=0 then 0 else 1) 1 0 p.cols.length,gro (if p.exprs.length=0 then 1 else 2) 5 p.kids.length]
def pcS (p:Pn):StL:=ACG 5 (Ex.aB p.exprs) p.exprs.length++some (.arr 1 (aF p.cols))::ACG 5 (Pn.aB p.kids) p.kids.length
theorem PH {p:Pn} (hp:p.thin) (ih:∀ a∈p.kids,aI C0 62 [.i (.agg a.cells)] []=some (pcX a,pcS a)) :
 aI C0 62 [.i (.agg p.cells)] []=some (pcX p,pcS p):=by
 have ht:=(Pn.bO _).1 hp;obtain⟨t1,t2,t3,t4,-⟩:=ht;rw[aD rfl Tryz.func62 rfl rfl,Pn.aA];by_cases hc:p.cols=[]
 ·simp[hc,aF];rw[aV (KX p) p.exprs.length (by simp[KX,hc,aF])]
  ·rw[aH]
   cases hn:p.exprs.length with
   | zero =>
    have he:p.exprs=[]:=zW.1 hn;simp[KX,he,hc,aF,Ex.aB];rw[aV (K2 p) p.kids.length (by simp[K2,he,hc,aF,Ex.aB])]
    ·rw[aH]
     cases hm:p.kids.length with
     | zero =>
      have hk:p.kids=[]:=zW.1 hm;simp[K2,he,hc,aF,hk,Ex.aB,Pn.aB,pcX,pcS]
     | succ m =>
      have hk:p.kids.take (m+1)=p.kids:=zY (by omega);simp[K2,he,hc,aF,hm,hk,Ex.aB,pcX,pcS]
    ·intro i hi;have h3:=zX hi;have hc':=ih _ (zU h3);have r2:=Pn.aQ h3;generalize p.kids[i]=a at h3 hc' r2;have w2:IntKind.i64.wrap ((i:Int)+1)=i+1:=wrO;rw[Pn.aA]at r2 hc';simp only[pcX,pcS]at hc';have hl1:(i+1)*88≤140737488355328:=by omega
     have hl2:min i p.kids.length=i:=by omega
     by_cases a1:a.exprs=[]
     ·by_cases a2:a.kids=[]
      ·simp[a1,a2,Ex.aB,Pn.aB]at hc' r2;by_cases h0:i=0
       ·subst h0;simp[K2,he,hc,aF,hi,r2,hc',dK,aN h3,Ex.aB,Pn.aB,Pn.aA a,a1,a2]
       ·simp[K2,he,hc,aF,aP h0,aJ h0,dG h0,hi,r2,hc',w2,aN h3,Ex.aB,Pn.aB,Pn.aY,hl1,hl2,zG,Pn.aA a,h0,a1,a2]
      ·have a2':a.kids.length≠0:=fun h=>a2 (zW.1 h)
       simp[a1,aP a2',aJ a2',a2,Ex.aB,Pn.aB]at hc' r2;by_cases h0:i=0
       ·subst h0;simp[K2,he,hc,aF,hi,r2,hc',dK,aN h3,Ex.aB,Pn.aB,Pn.aA a,a1,aP a2',aJ a2',a2]
       ·simp[K2,he,hc,aF,aP h0,aJ h0,dG h0,hi,r2,hc',w2,aN h3,Ex.aB,Pn.aB,Pn.aY,hl1,hl2,zG,Pn.aA a,h0,a1,aP a2',aJ a2',a2]
     ·by_cases a2:a.kids=[]
      ·have a1':a.exprs.length≠0:=fun h=>a1 (zW.1 h)
       simp[aP a1',aJ a1',a1,a2,Ex.aB,Pn.aB]at hc' r2;by_cases h0:i=0
       ·subst h0;simp[K2,he,hc,aF,hi,r2,hc',dK,aN h3,Ex.aB,Pn.aB,Pn.aA a,aP a1',aJ a1',a1,a2]
       ·simp[K2,he,hc,aF,aP h0,aJ h0,dG h0,hi,r2,hc',w2,aN h3,Ex.aB,Pn.aB,Pn.aY,hl1,hl2,zG,Pn.aA a,h0,aP a1',aJ a1',a1,a2]
      ·have a1':a.exprs.length≠0:=fun h=>a1 (zW.1 h)
       have a2':a.kids.length≠0:=fun h=>a2 (zW.1 h)
       simp[aP a1',aJ a1',a1,aP a2',aJ a2',a2,Ex.aB,Pn.aB]at hc' r2;by_cases h0:i=0
       ·subst h0;simp[K2,he,hc,aF,hi,r2,hc',dK,aN h3,Ex.aB,Pn.aB,Pn.aA a,aP a1',aJ a1',a1,aP a2',aJ a2',a2]
       ·simp[K2,he,hc,aF,aP h0,aJ h0,dG h0,hi,r2,hc',w2,aN h3,Ex.aB,Pn.aB,Pn.aY,hl1,hl2,zG,Pn.aA a,h0,aP a1',aJ a1',a1,aP a2',aJ a2',a2]
   | succ n =>
    have he:p.exprs.take (n+1)=p.exprs:=zY (by omega);simp[KX,hn,he,hc,aF];rw[aV (K2 p) p.kids.length (by simp[K2,hn,hc,aF,Ex.aB])]
    ·rw[aH]
     cases hm:p.kids.length with
     | zero =>
      have hk:p.kids=[]:=zW.1 hm;simp[K2,hn,hc,aF,hk,Ex.aB,Pn.aB,pcX,pcS]
     | succ m =>
      have hk:p.kids.take (m+1)=p.kids:=zY (by omega);simp[K2,hn,hc,aF,hm,hk,Ex.aB,pcX,pcS]
    ·intro i hi;have h3:=zX hi;have hc':=ih _ (zU h3);have r2:=Pn.aQ h3;generalize p.kids[i]=a at h3 hc' r2;have w2:IntKind.i64.wrap ((i:Int)+1)=i+1:=wrO;rw[Pn.aA]at r2 hc';simp only[pcX,pcS]at hc';have hl1:(i+1)*88≤140737488355328:=by omega
     have hl2:min i p.kids.length=i:=by omega
     by_cases a1:a.exprs=[]
     ·by_cases a2:a.kids=[]
      ·simp[a1,a2,Ex.aB,Pn.aB]at hc' r2;by_cases h0:i=0
       ·subst h0;simp[K2,hn,hc,aF,hi,r2,hc',dK,aN h3,Ex.aB,Pn.aB,Pn.aA a,a1,a2]
       ·simp[K2,hn,hc,aF,aP h0,aJ h0,dG h0,hi,r2,hc',w2,aN h3,Ex.aB,Pn.aB,Pn.aY,hl1,hl2,zG,Pn.aA a,h0,a1,a2]
      ·have a2':a.kids.length≠0:=fun h=>a2 (zW.1 h)
       simp[a1,aP a2',aJ a2',a2,Ex.aB,Pn.aB]at hc' r2;by_cases h0:i=0
       ·subst h0;simp[K2,hn,hc,aF,hi,r2,hc',dK,aN h3,Ex.aB,Pn.aB,Pn.aA a,a1,aP a2',aJ a2',a2]
       ·simp[K2,hn,hc,aF,aP h0,aJ h0,dG h0,hi,r2,hc',w2,aN h3,Ex.aB,Pn.aB,Pn.aY,hl1,hl2,zG,Pn.aA a,h0,a1,aP a2',aJ a2',a2]
     ·by_cases a2:a.kids=[]
      ·have a1':a.exprs.length≠0:=fun h=>a1 (zW.1 h)
       simp[aP a1',aJ a1',a1,a2,Ex.aB,Pn.aB]at hc' r2;by_cases h0:i=0
       ·subst h0;simp[K2,hn,hc,aF,hi,r2,hc',dK,aN h3,Ex.aB,Pn.aB,Pn.aA a,aP a1',aJ a1',a1,a2]
       ·simp[K2,hn,hc,aF,aP h0,aJ h0,dG h0,hi,r2,hc',w2,aN h3,Ex.aB,Pn.aB,Pn.aY,hl1,hl2,zG,Pn.aA a,h0,aP a1',aJ a1',a1,a2]
      ·have a1':a.exprs.length≠0:=fun h=>a1 (zW.1 h)
       have a2':a.kids.length≠0:=fun h=>a2 (zW.1 h)
       simp[aP a1',aJ a1',a1,aP a2',aJ a2',a2,Ex.aB,Pn.aB]at hc' r2;by_cases h0:i=0
       ·subst h0;simp[K2,hn,hc,aF,hi,r2,hc',dK,aN h3,Ex.aB,Pn.aB,Pn.aA a,aP a1',aJ a1',a1,aP a2',aJ a2',a2]
       ·simp[K2,hn,hc,aF,aP h0,aJ h0,dG h0,hi,r2,hc',w2,aN h3,Ex.aB,Pn.aB,Pn.aY,hl1,hl2,zG,Pn.aA a,h0,aP a1',aJ a1',a1,aP a2',aJ a2',a2]
  ·intro i hi;have h3:=zX hi;have hc':=wU _ (t2 _ (zU h3));have r2:=Ex.aQ h3;generalize p.exprs[i]=a at h3 hc' r2;have w2:IntKind.i64.wrap ((i:Int)+1)=i+1:=wrO;rw[Ex.aA]at r2 hc';by_cases h0:i=0
   ·subst h0;simp[KX,hc,aF,hi,r2,hc',dK,aN h3,Ex.aB,Ex.aA a]
   ·simp[KX,hc,aF,aP h0,aJ h0,dG h0,hi,r2,hc',w2,aN h3,Ex.aY,show min i p.exprs.length=i by omega,show(i+1)*56≤140737488355328 by omega,zG,Ex.aA a,h0]
 simp[hc,show p.cols.length*8≤140737488355328 by omega];rw[aV (KX p) p.exprs.length (by simp[KX,hc])]
 ·rw[aH]
  cases hn:p.exprs.length with
  | zero =>
   have he:p.exprs=[]:=zW.1 hn;simp[KX,he,hc,Ex.aB];rw[aV (K2 p) p.kids.length (by simp[K2,he,hc,Ex.aB])]
   ·rw[aH]
    cases hm:p.kids.length with
    | zero =>
     have hk:p.kids=[]:=zW.1 hm;simp[K2,he,hc,hk,Ex.aB,Pn.aB,pcX,pcS]
    | succ m =>
     have hk:p.kids.take (m+1)=p.kids:=zY (by omega);simp[K2,he,hc,hm,hk,Ex.aB,pcX,pcS]
   ·intro i hi;have h3:=zX hi;have hc':=ih _ (zU h3);have r2:=Pn.aQ h3;generalize p.kids[i]=a at h3 hc' r2;have w2:IntKind.i64.wrap ((i:Int)+1)=i+1:=wrO;rw[Pn.aA]at r2 hc';simp only[pcX,pcS]at hc';have hl1:(i+1)*88≤140737488355328:=by omega
    have hl2:min i p.kids.length=i:=by omega
    by_cases a1:a.exprs=[]
    ·by_cases a2:a.kids=[]
     ·simp[a1,a2,Ex.aB,Pn.aB]at hc' r2;by_cases h0:i=0
      ·subst h0;simp[K2,he,hc,hi,r2,hc',dK,aN h3,Ex.aB,Pn.aB,Pn.aA a,a1,a2]
      ·simp[K2,he,hc,aP h0,aJ h0,dG h0,hi,r2,hc',w2,aN h3,Ex.aB,Pn.aB,Pn.aY,hl1,hl2,zG,Pn.aA a,h0,a1,a2]
     ·have a2':a.kids.length≠0:=fun h=>a2 (zW.1 h)
      simp[a1,aP a2',aJ a2',a2,Ex.aB,Pn.aB]at hc' r2;by_cases h0:i=0
      ·subst h0;simp[K2,he,hc,hi,r2,hc',dK,aN h3,Ex.aB,Pn.aB,Pn.aA a,a1,aP a2',aJ a2',a2]
      ·simp[K2,he,hc,aP h0,aJ h0,dG h0,hi,r2,hc',w2,aN h3,Ex.aB,Pn.aB,Pn.aY,hl1,hl2,zG,Pn.aA a,h0,a1,aP a2',aJ a2',a2]
    ·by_cases a2:a.kids=[]
     ·have a1':a.exprs.length≠0:=fun h=>a1 (zW.1 h)
      simp[aP a1',aJ a1',a1,a2,Ex.aB,Pn.aB]at hc' r2;by_cases h0:i=0
      ·subst h0;simp[K2,he,hc,hi,r2,hc',dK,aN h3,Ex.aB,Pn.aB,Pn.aA a,aP a1',aJ a1',a1,a2]
      ·simp[K2,he,hc,aP h0,aJ h0,dG h0,hi,r2,hc',w2,aN h3,Ex.aB,Pn.aB,Pn.aY,hl1,hl2,zG,Pn.aA a,h0,aP a1',aJ a1',a1,a2]
     ·have a1':a.exprs.length≠0:=fun h=>a1 (zW.1 h)
      have a2':a.kids.length≠0:=fun h=>a2 (zW.1 h)
      simp[aP a1',aJ a1',a1,aP a2',aJ a2',a2,Ex.aB,Pn.aB]at hc' r2;by_cases h0:i=0
      ·subst h0;simp[K2,he,hc,hi,r2,hc',dK,aN h3,Ex.aB,Pn.aB,Pn.aA a,aP a1',aJ a1',a1,aP a2',aJ a2',a2]
      ·simp[K2,he,hc,aP h0,aJ h0,dG h0,hi,r2,hc',w2,aN h3,Ex.aB,Pn.aB,Pn.aY,hl1,hl2,zG,Pn.aA a,h0,aP a1',aJ a1',a1,aP a2',aJ a2',a2]
  | succ n =>
   have he:p.exprs.take (n+1)=p.exprs:=zY (by omega);simp[KX,hn,he,hc];rw[aV (K2 p) p.kids.length (by simp[K2,hn,hc,Ex.aB])]
   ·rw[aH]
    cases hm:p.kids.length with
    | zero =>
     have hk:p.kids=[]:=zW.1 hm;simp[K2,hn,hc,hk,Ex.aB,Pn.aB,pcX,pcS]
    | succ m =>
     have hk:p.kids.take (m+1)=p.kids:=zY (by omega);simp[K2,hn,hc,hm,hk,Ex.aB,pcX,pcS]
   ·intro i hi;have h3:=zX hi;have hc':=ih _ (zU h3);have r2:=Pn.aQ h3;generalize p.kids[i]=a at h3 hc' r2;have w2:IntKind.i64.wrap ((i:Int)+1)=i+1:=wrO;rw[Pn.aA]at r2 hc';simp only[pcX,pcS]at hc';have hl1:(i+1)*88≤140737488355328:=by omega
    have hl2:min i p.kids.length=i:=by omega
    by_cases a1:a.exprs=[]
    ·by_cases a2:a.kids=[]
     ·simp[a1,a2,Ex.aB,Pn.aB]at hc' r2;by_cases h0:i=0
      ·subst h0;simp[K2,hn,hc,hi,r2,hc',dK,aN h3,Ex.aB,Pn.aB,Pn.aA a,a1,a2]
      ·simp[K2,hn,hc,aP h0,aJ h0,dG h0,hi,r2,hc',w2,aN h3,Ex.aB,Pn.aB,Pn.aY,hl1,hl2,zG,Pn.aA a,h0,a1,a2]
     ·have a2':a.kids.length≠0:=fun h=>a2 (zW.1 h)
      simp[a1,aP a2',aJ a2',a2,Ex.aB,Pn.aB]at hc' r2;by_cases h0:i=0
      ·subst h0;simp[K2,hn,hc,hi,r2,hc',dK,aN h3,Ex.aB,Pn.aB,Pn.aA a,a1,aP a2',aJ a2',a2]
      ·simp[K2,hn,hc,aP h0,aJ h0,dG h0,hi,r2,hc',w2,aN h3,Ex.aB,Pn.aB,Pn.aY,hl1,hl2,zG,Pn.aA a,h0,a1,aP a2',aJ a2',a2]
    ·by_cases a2:a.kids=[]
     ·have a1':a.exprs.length≠0:=fun h=>a1 (zW.1 h)
      simp[aP a1',aJ a1',a1,a2,Ex.aB,Pn.aB]at hc' r2;by_cases h0:i=0
      ·subst h0;simp[K2,hn,hc,hi,r2,hc',dK,aN h3,Ex.aB,Pn.aB,Pn.aA a,aP a1',aJ a1',a1,a2]
      ·simp[K2,hn,hc,aP h0,aJ h0,dG h0,hi,r2,hc',w2,aN h3,Ex.aB,Pn.aB,Pn.aY,hl1,hl2,zG,Pn.aA a,h0,aP a1',aJ a1',a1,a2]
     ·have a1':a.exprs.length≠0:=fun h=>a1 (zW.1 h)
      have a2':a.kids.length≠0:=fun h=>a2 (zW.1 h)
      simp[aP a1',aJ a1',a1,aP a2',aJ a2',a2,Ex.aB,Pn.aB]at hc' r2;by_cases h0:i=0
      ·subst h0;simp[K2,hn,hc,hi,r2,hc',dK,aN h3,Ex.aB,Pn.aB,Pn.aA a,aP a1',aJ a1',a1,aP a2',aJ a2',a2]
      ·simp[K2,hn,hc,aP h0,aJ h0,dG h0,hi,r2,hc',w2,aN h3,Ex.aB,Pn.aB,Pn.aY,hl1,hl2,zG,Pn.aA a,h0,aP a1',aJ a1',a1,aP a2',aJ a2',a2]
 ·intro i hi;have h3:=zX hi;have hc':=wU _ (t2 _ (zU h3));have r2:=Ex.aQ h3;generalize p.exprs[i]=a at h3 hc' r2;have w2:IntKind.i64.wrap ((i:Int)+1)=i+1:=wrO;rw[Ex.aA]at r2 hc';by_cases h0:i=0
  ·subst h0;simp[KX,hc,hi,r2,hc',dK,aN h3,Ex.aB,Ex.aA a]
  ·simp[KX,hc,aP h0,aJ h0,dG h0,hi,r2,hc',w2,aN h3,Ex.aY,show min i p.exprs.length=i by omega,show(i+1)*56≤140737488355328 by omega,zG,Ex.aA a,h0]
theorem wT:∀ (p:Pn),p.thin→aI C0 62 [.i (.agg p.cells)] []=some (pcX p,pcS p):=by
 intro p
 induction p using Pn.ind with
 | h k t es cs ks ih =>
  intro ht;exact PH ht fun a ha=>ih a ha (((Pn.bO _).1 ht).2.2.2.2 a ha)
def vB (x:Bool) (v:Pn):Option Blk:=if x=true then some (.fbox v.cells)else some (.box (jW v.cells))
end Go.Proofs.YtjdfjgmebalaaaaGreat.P
namespace Go.Av
def VM (l:List Int) (n:Int):List Int:=if l[l.findIdx fun x=>!decide (x<n)]?=some n then l else l.take (l.findIdx fun x=>!decide (x<n))++n::l.drop (l.findIdx fun x=>!decide (x<n))
mutual
def PY:List Int→Ex→List Int
 | l, .mk k c _ ks=>mU (if k=1 then VM l c else l) ks
def mU:List Int→List Ex→List Int
 | l,[]=>l
 | l,e::es=>mU (PY l e) es
end
theorem WY (l:List Int) (e:Ex):PY l e=mU (if e.kind=1 then VM l e.col else l) e.kids:=by
 cases e;simp only[PY,Ex.kind,Ex.col,Ex.kids];congr
theorem EO:∀ (ks:List Ex) (l:List Int) (e:Ex),mU l (ks++[e])=PY (mU l ks) e
 | [],l,e=>by simp[mU]
 | a::ks,l,e=>by simp[mU,EO ks]
theorem AJX {l:List Int} {n x:Int}:x∈VM l n↔x∈l∨x=n:=by
 unfold VM;split
 ·rename_i h;constructor
  ·exact .inl
  ·rintro(h1|rfl)
   ·exact h1
   ·exact zU h
 ·have e:l.take (l.findIdx fun x=>!decide (x<n))++l.drop (l.findIdx fun x=>!decide (x<n))=l:=xR _ _;generalize l.findIdx (fun x=>!decide (x<n))=k at *
  constructor
  ·intro h
   rcases zV.1 h with h|h
   ·exact .inl (zA h)
   ·rcases zS.1 h with h|h
    ·exact .inr h
    ·exact .inl (yI h)
  ·rintro(h|rfl)
   ·rw[← e]at h
    rcases zV.1 h with h|h
    ·exact zV.2 (.inl h)
    ·exact zV.2 (.inr (zS.2 (.inr h)))
   ·exact zV.2 (.inr (zS.2 (.inl rfl)))
def Asc (l:List Int):Prop:=l.Pairwise (· < ·)
theorem AJY {l:List Int} {n:Int} (h:Asc l):Asc (VM l n):=by
 unfold VM;split
 ·exact h
 ·rename_i hne;have e:l.take (l.findIdx fun x=>!decide (x<n))++l.drop (l.findIdx fun x=>!decide (x<n))=l:=xR _ _
  have hlt:∀ x∈l.take (l.findIdx fun x=>!decide (x<n)),x<n:=by
   intro x hx;obtain⟨i,hi⟩:=List.mem_iff_getElem?.1 hx;rw[zD]at hi;split at hi
   ·rename_i hk;have:=List.not_of_lt_findIdx hk;rw[zX (by have:=zD1 (xs:=l) (p:=fun x=>!decide (x<n));omega)]at hi;injection hi with hi;rw[hi]at this;simpa using this
   ·cases hi
  have hge:∀ x∈l.drop (l.findIdx fun x=>!decide (x<n)),n<x:=by
   intro x hx
   rcases zD7 (l.findIdx fun x=>!decide (x<n)) l.length with hk|hk
   ·have h1:=List.findIdx_getElem (w:=hk);have hd:=yF hk;have hn:l[l.findIdx fun x=>!decide (x<n)]≠n:=fun e=>hne (by rw[zX hk,e])
    rw[hd]at hx;have hs:Asc (l.drop (l.findIdx fun x=>!decide (x<n))):=List.Pairwise.sublist (List.drop_sublist _ _) h;rw[hd]at hs;have hs:=List.pairwise_cons.1 hs;simp at h1
    rcases zS.1 hx with rfl|hx
    ·omega
    ·have:=hs.1 x hx;omega
   ·rw[List.drop_eq_nil_of_le hk]at hx;cases hx
  generalize l.findIdx (fun x=>!decide (x<n))=k at *
  rw[← e]at h;unfold Asc at *
  rw[List.pairwise_append]at h ⊢;refine⟨h.1,List.pairwise_cons.2 ⟨hge,h.2.1⟩,?_⟩;intro a ha b hb
  rcases zS.1 hb with rfl|hb
  ·exact hlt a ha
  ·exact h.2.2 a ha b hb
theorem AL4:∀ (e:Ex) (l:List Int),Asc l→Asc (PY l e):=by
 intro e
 induction e using Ex.ind with
 | h k c v ks ih =>
  intro l hl;rw[WY]
  have:∀ (xs:List Ex) (l:List Int),(∀ e∈xs,∀ l,Asc l→Asc (PY l e))→Asc l→Asc (mU l xs):=by
   intro xs
   induction xs with
   | nil=>intro l _ h;simpa [mU]using h
   | cons a xs ihx=>intro l h1 h2;exact ihx _ (fun e he=>h1 e (by simp[he])) (h1 a (by simp) l h2)
  refine this _ _ (fun e he=>ih e (by simpa [Ex.kids]using he)) ?_;split
  ·exact AJY hl
  ·exact hl
theorem AL5 {m:Int} (P:Int→Bool):∀ (e:Ex) (l:List Int),e.wf m=true→((∀ x∈PY l e,P x=true)↔(∀ x∈l,P x=true)∧e.vH P=true):=by
 intro e
 induction e using Ex.ind with
 | h k c v ks ih =>
  intro l hw;rw[WY,Ex.mG]
  have:∀ (xs:List Ex) (l:List Int),(∀ e∈xs,e∈ks)→((∀ x∈mU l xs,P x=true)↔(∀ x∈l,P x=true)∧xs.all (Ex.vH P)=true):=by
   intro xs
   induction xs with
   | nil=>intro l _;simp[mU]
   | cons a xs ihx =>
    intro l h1;have ha:=h1 a (by simp);simp only[mU,List.all_cons,zT];rw[ihx _ fun e he=>h1 e (by simp[he]),ih a ha l (Ex.oI hw (by simpa [Ex.kids]using ha))];exact and_assoc
  simp only[Ex.kind,Ex.col,Ex.kids];rw[this ks _ fun e he=>he];by_cases h1:k=1
  ·have hk:=(Ex.vL hw (by simpa [Ex.kind]using h1)).2.2;simp only[Ex.kids]at hk;subst hk;simp only[h1,if_true,AJX];simp;constructor
   ·intro h;exact⟨fun x hx=>h x (.inl hx),h c (.inr rfl)⟩
   ·rintro⟨h2,h3⟩ x (hx|rfl)
    ·exact h2 x hx
    ·exact h3
  ·simp only[h1,if_false]
theorem AGW {l:List Int} (h:Asc l) (lo hi:Int):(∀ x∈l,lo≤x∧x≤hi)↔(l=[]∨(∃ a,l[0]?=some a∧lo≤a)∧(∃ b,l[l.length-1]?=some b∧b≤hi)):=by
 constructor
 ·intro hall
  cases hl:l with
  | nil=>exact .inl rfl
  | cons a r =>
   right;rw[← hl];have h0:l[0]?=some a:=by rw[hl];rfl
   have hk:l.length-1<l.length:=by rw[hl];simp
   exact⟨⟨a,h0,(hall a (zU h0)).1⟩,⟨l[l.length-1],zX hk,(hall _ (xE hk)).2⟩⟩
 ·rintro(rfl|⟨⟨a,h0,h1⟩,b,h2,h3⟩) x hx
  ·cases hx
  ·obtain⟨i,hi⟩:=List.mem_iff_getElem?.1 hx
   have hil:=(zZ.1 hi)
   have h0l:=(zZ.1 h0)
   have h2l:=(zZ.1 h2)
   obtain⟨p1,rfl⟩:=hil;obtain⟨p2,rfl⟩:=h0l;obtain⟨p3,rfl⟩:=h2l;have hp:=List.pairwise_iff_getElem.1 h;constructor
   ·by_cases hz:i=0
    ·subst hz;exact h1
    ·have:=hp 0 i p2 p1 (by omega);omega
   ·by_cases hz:i=l.length-1
    ·subst hz;exact h3
    ·have:=hp i (l.length-1) p1 p3 (by omega);omega
end Go.Av
namespace Go.Proofs.YtjdfjgmebalaaaaGreat.P
open Go Go.Av
set_option maxRecDepth 4000
set_option maxHeartbeats 2000000
theorem AEX {a:Nat} (ha:a<64):a % 2 ^ IntKind.i64.bits=a:=by
 show a % 18446744073709551616=a;exact Nat.mod_eq_of_lt (by omega)
theorem AOP {a:Nat} (ha:a<64):(a:Int) % 2 ^ IntKind.i64.bits=a:=by
 show(a:Int) % 18446744073709551616=a;omega
theorem AJ9 {a b:Nat} (ha:a<64) (hb:b<64):IntKind.i64.wrap ((a ||| b:Nat):Int)=((a ||| b:Nat):Int):=by
 have h3:a ||| b<2 ^ 6:=zA3 (by omega) (by omega)
 exact wrO
theorem AHW {a:Nat} (ha:a<64):IntKind.i64.wrap (a:Int)=a:=wrO
def KBX (e:Ex) (i:Nat):AS :=
 { env:=[(0, .i (.iref [.int e.kind, .int e.col, .bool e.val.null, .int e.val.n, .isl (Ex.aB e.kids)])),(2, .int 0),(3, .int (Ex.rQ (e.kids.take i):Nat)),(4,jk i (.int (i-1))),(9, .bool false),(19, .int e.kids.length),(20, .int i),(21,jk i (.bool true))],st:=[] }
theorem NN:∀ e:Ex,e.size<1000000000→e.vH (fun c=>decide (0≤c∧c<6))=true→aI C0 151 [.i (.iref e.cells)] []=some (.int (e.bits:Nat),[]):=by
 intro e
 induction e using Ex.ind with
 | h k c v ks ih =>
  intro hs ha;generalize he:Ex.mk k c v ks=e at *
  have hk1:k=e.kind:=by rw[← he];rfl
  have hks:ks=e.kids:=by rw[← he];rfl
  subst hks;have hsz:=Ex.size_eq e;have hln:=Ex.bR e.kids;rw[aD rfl Tryz.func151 rfl rfl,Ex.aA];rw[Ex.mG]at ha;by_cases h1:e.kind=1
  ·simp only[h1,if_true]at ha;have ha:=zR ha;rw[Ex.PT h1];have hc:e.col=0∨e.col=1∨e.col=2∨e.col=3∨e.col=4∨e.col=5:=by omega
   rcases hc with hc|hc|hc|hc|hc|hc<;>(simp[h1,hc];decide)
  ·simp only[h1,if_false,zQ]at ha;rw[Ex.PR h1];simp[h1];rw[aV (KBX e) e.kids.length (by simp[KBX,Ex.rQ,h1])]
   ·rw[aH];simp[KBX]
   ·intro i hi;have h3:=zX hi;have hm:=zU h3;have r2:=Ex.aQ h3;have htk:=aN h3;generalize e.kids[i]=a at h3 hm r2 htk;have hk:=ih a hm (by have:=Ex.iY hm;omega) (ha a hm);have w2:IntKind.i64.wrap ((i:Int)+1)=i+1:=wrO;have hb:a.bits<2 ^ 6:=Ex.PS a (ha a hm);have hbl:Ex.rQ (e.kids.take i)<2 ^ 6:=Ex.PU fun x hx=>Ex.PS x (ha x (zA hx))
    have hor:=AJ9 (a:=Ex.rQ (e.kids.take i)) (b:=a.bits) (by omega) (by omega);rw[Ex.aA a]at r2 hk;by_cases h0:i=0
    ·subst h0;simp[KBX,hi,r2,hk,dK,htk,Ex.EL,Ex.rQ,AOP (show a.bits<64 by omega),AHW (show a.bits<64 by omega)]
    ·simp[KBX,dG h0,hi,r2,hk,w2,htk,Ex.EL,hor,AEX (show a.bits<64 by omega),AEX (show Ex.rQ (e.kids.take i)<64 by omega)]
def ANX (l:List Int) (n:Int) (i:Nat):AS :=
 { env:=[(0, .i (.isl (aF l))),(1, .int n),(4, .nils),(5, .int i),(6, .junk),(18,jk i (.bool true)),(32, .junk)],st:=[] }
theorem U8 (l:List Int) (n:Int) (hl:l.length<1000000):aI C0 202 [.i (.isl (aF l)), .int n] []=some (.i (.isl (aF (VM l n))),[]):=by
 rw[aD rfl Tryz.func202 rfl rfl]
 have hlt:∀ i,i<l.findIdx (fun x=>!decide (x<n))→∃ x,l[i]?=some x∧x<n:=by
  intro i hi;have hle:=zD1 (xs:=l) (p:=fun x=>!decide (x<n));have:=List.not_of_lt_findIdx hi;exact⟨l[i]'(by omega),zX (by omega),by simpa using this⟩
 have hat:∀ x,l[l.findIdx fun x=>!decide (x<n)]?=some x→¬ x<n:=by
  intro x hx;obtain⟨h1,rfl⟩:=zZ.1 hx;have:=List.findIdx_getElem (w:=h1);simpa using this
 have hle:=zD1 (xs:=l) (p:=fun x=>!decide (x<n));unfold VM;generalize l.findIdx (fun x=>!decide (x<n))=j at *
 simp;rw[aV (ANX l n) j (by simp[ANX])]
 ·rw[aH]
  cases hj:l[j]? with
  | none =>
   have hjl:j=l.length:=by have:=zA8.1 hj;omega
   subst hjl;have hb:((l.length:Int)+1)*8≤140737488355328:=by omega
   have hb1:(l.length+1)*8≤140737488355328:=by omega
   have hb2:l.length*8≤140737488355328:=by omega
   have ht:List.take (l.length+1) (aF l++[[IV.lit (Value.int IntKind.i64 n)]])=aF l++[[IV.lit (Value.int IntKind.i64 n)]]:=zY (by simp);simp[ANX,hb1,hb2,fP,aF,ht]
  | some x =>
   have hx:=hat x hj;have hjl:=(zZ.1 hj).1;have r2:=bJ hj;by_cases hxn:x=n
   ·subst hxn;simp[ANX,hjl,r2]
   ·have hb1:(j+1)*8≤140737488355328:=by omega
    have hb2:j*8≤140737488355328:=by omega
    have hb3:(j+1+(l.length-j))*8≤140737488355328:=by omega
    have t1:(l.take j).length=j:=by simp;omega
    have t2:(aF (l.take j)++[[IV.lit (Value.int IntKind.i64 n)]]).take (j+1)=aF (l.take j)++[[IV.lit (Value.int IntKind.i64 n)]]:=zY (by simp;omega);have t3:(l.drop j).take (l.length-j)=l.drop j:=zY (by simp);have t4:(aF (l.take j)++[[IV.lit (Value.int IntKind.i64 n)]]++aF (l.drop j)).take (j+1+(l.length-j))=aF (l.take j)++[[IV.lit (Value.int IntKind.i64 n)]]++aF (l.drop j):=zY (by simp;omega);have t5:(l.take j).take j=l.take j:=zY (by omega);simp[ANX,hjl,hle,r2,hx,hxn,hb1,hb2,hb3,fP,aF];rw[t5,t2,t3,t4];simp
 ·intro i hi;obtain⟨x,h3,hx⟩:=hlt i hi;have r2:=bJ h3;have hil:=(zZ.1 h3).1;have w2:IntKind.i64.wrap ((i:Int)+1)=i+1:=wrO;simp[ANX,hil,r2,hx,w2]
end Go.Proofs.YtjdfjgmebalaaaaGreat.P
namespace Go.Av
theorem Ex.AMZ {w w':Int} (h:w≤w'):∀ e:Ex,e.wf w=true→e.wf w'=true:=by
 intro e
 induction e using Ex.ind with
 | h k c v ks ih =>
  intro hw;rw[Ex.QE]at hw ⊢;simp only[zT]at hw ⊢;refine⟨hw.1,?_,?_⟩
  ·have h2:=hw.2.1;unfold Ex.headOk at h2 ⊢;split at h2
   ·rename_i h1;rw[if_pos h1];simp only[zT,zN]at h2 ⊢;exact⟨h2.1,by omega,h2.2.2⟩
   ·rename_i h1;rw[if_neg h1];exact h2
  ·rw[zQ]at *
   exact fun x hx=>ih x hx (hw.2.2 x hx)
theorem Ex.GJ {w:Int} {e:Ex} (h:e.ok w=true):e.wf w=true∧1≤w∧w≤6:=by
 unfold Ex.ok bN at h;rw[Ex.QQ]at h;simp only[zT,zN]at h;exact⟨h.2.1,h.1.1,h.1.2⟩
theorem Ex.AEL {w:Int} {e:Ex} (h:e.ok w=true):e.wf 6=true:=Ex.AMZ (Ex.GJ h).2.2 e (Ex.GJ h).1
theorem Ex.X3 {e:Ex} (h:e.wf 6=true):e.vH (fun c=>decide (0≤c∧c<6))=true:=Ex.O3 e h
theorem Ex.AHX {w:Int} {e:Ex} (h:e.wf w=true):e.vH (fun c=>decide (0≤c))=true:=Ex.pY (fun c hc=>by simp only[zN]at hc ⊢;exact hc.1) e (Ex.O3 e h)
theorem Ex.ZA {f g:Int→Bool}:∀ e:Ex,e.vH f=true→e.vH g=true→e.vH (fun c=>f c && g c)=true:=by
 intro e
 induction e using Ex.ind with
 | h k c v ks ih =>
  intro h1 h2;rw[Ex.mG]at *
  by_cases hk:k=1
  ·subst hk;simp only[Ex.kind,Ex.col,if_true]at h1 h2 ⊢;simp[h1,h2]
  ·simp only[Ex.kind,Ex.kids,hk,if_false,zQ]at h1 h2 ⊢;exact fun x hx=>ih x hx (h1 x hx) (h2 x hx)
theorem AKK {e:Ex} {m:Int} (h:e.wf m=true) (lo hi:Int):(PY [] e=[]∨(∃ a,(PY [] e)[0]?=some a∧lo≤a)∧(∃ b,(PY [] e)[(PY [] e).length-1]?=some b∧b≤hi-1))↔e.cin lo hi=true:=by
 rw[← AGW (AL4 e [] List.Pairwise.nil)];have:=AL5 (fun x=>decide (lo≤x∧x<hi)) e [] h;unfold Ex.cin;constructor
 ·intro h1;exact(this.1 fun x hx=>by have:=h1 x hx;simp only[zN];omega).2
 ·intro h1 x hx;have:=this.2 ⟨by simp,h1⟩ x hx;simp only[zN]at this;omega
theorem U9:∀ (e:Ex) (l:List Int),(PY l e).length≤l.length+e.size:=by
 intro e
 induction e using Ex.ind with
 | h k c v ks ih =>
  intro l;have hm:PY l (.mk k c v ks)=mU (if k=1 then VM l c else l) ks:=by simp[PY]
  have hz:(Ex.mk k c v ks).size=1+Ex.aM ks:=by simp[Ex.size]
  rw[hm,hz]
  have:∀ (xs:List Ex) (l:List Int),(∀ x∈xs,x∈ks)→(mU l xs).length≤l.length+Ex.aM xs:=by
   intro xs
   induction xs with
   | nil=>intro l _;simp[mU]
   | cons a xs ihx =>
    intro l h;have h1:=ihx (PY l a) fun x hx=>h x (by simp[hx])
    have h2:=ih a (h a (by simp)) l;simp only[mU,Ex.aM];omega
  have h2:(VM l c).length≤l.length+1:=by
   unfold VM;split
   ·omega
   ·simp only[zH,yG,zP,xG];omega
  by_cases h1:k=1
  ·rw[if_pos h1];have:=this ks (VM l c) fun x hx=>hx
   omega
  ·rw[if_neg h1];have:=this ks l fun x hx=>hx
   omega
def okS (a:Int):Prop:=1≤a∧a≤7
theorem AKI:∀ a b:Fin 8,a.val≠0→b.val≠0→(1≤mI 8 a.val b.val∧mI 8 a.val b.val≤7)∧(1≤mI 9 a.val b.val∧mI 9 a.val b.val≤7)∧(1≤mI 3 a.val b.val∧mI 3 a.val b.val≤7)∧(1≤mI 6 a.val b.val∧mI 6 a.val b.val≤7):=by decide
theorem AQ2 {k a b:Int} (ha:okS a) (hb:okS b):okS (mI k a b):=by
 obtain⟨a,rfl⟩:=yQ (show 0≤a by have:=ha.1;omega);obtain⟨b,rfl⟩:=yQ (show 0≤b by have:=hb.1;omega);have h:=AKI ⟨a,by have:=ha.2;omega⟩ ⟨b,by have:=hb.2;omega⟩ (by have:=ha.1;simp;omega) (by have:=hb.1;simp;omega);unfold okS;by_cases h8:k=8
 ·subst h8;exact h.1
 ·by_cases h9:k=9
  ·subst h9;exact h.2.1
  ·by_cases h6:k<6
   ·have e:mI k a b=mI 3 a b:=by simp[mI,h8,h9,h6]
    rw[e];exact h.2.2.1
   ·have e:mI k a b=mI 6 a b:=by simp[mI,h8,h9,h6]
    rw[e];exact h.2.2.2
theorem AJB:∀ a:Fin 8,a.val≠0→(1≤AVY a.val∧AVY a.val≤7)∧(1≤AVX a.val∧AVX a.val≤7):=by decide
theorem ASL (v:Val):okS (stV v):=by
 unfold stV okS;split
 ·omega
 ·split<;>omega
theorem VC (st:List Int) (e:Ex):JE st e=if e.kind=1 then(st[e.col.toNat]?).getD 0 else if e.kind=2 then stV e.val else if e.kind=10 then AVY ((e.kids[0]?.map (JE st)).getD 0)else if e.kind=11 then AVX ((e.kids[0]?.map (JE st)).getD 0)else mI e.kind ((e.kids[0]?.map (JE st)).getD 0) ((e.kids[1]?.map (JE st)).getD 0):=by
 cases e
 simp only[JE,RQ,Ex.kind,Ex.col,Ex.val,Ex.kids,zB8];congr
end Go.Av
namespace Go.Proofs.YtjdfjgmebalaaaaGreat.P
open Go Go.Av
set_option maxRecDepth 4000
set_option maxHeartbeats 4000000
@[simp] theorem wr0:IntKind.i64.wrap 0=0:=by decide
@[simp] theorem wr1:IntKind.i64.wrap 1=1:=by decide
@[simp] theorem wr2:IntKind.i64.wrap 2=2:=by decide
@[simp] theorem wr3:IntKind.i64.wrap 3=3:=by decide
@[simp] theorem wr4:IntKind.i64.wrap 4=4:=by decide
@[simp] theorem wr7:IntKind.i64.wrap 7=7:=by decide
@[simp] theorem AiN:(2:Nat) ^ IntKind.i64.bits=18446744073709551616:=rfl
@[simp] theorem AiO:(2:Int) ^ IntKind.i64.bits=18446744073709551616:=rfl
def ACX (e:Ex) (l:List Int) (i:Nat):AS :=
 { env:=[(0, .i (.isl (aF (mU l (e.kids.take i))))),(1, .i (.agg [.int e.kind, .int e.col, .bool e.val.null, .int e.val.n, .isl (Ex.aB e.kids)])),(3, .own 0 0),(4, .nils),(5, .int i),(8, .bool (e.kind == 1)),(17,jk i (.bool true))],
   st:=[some (.box [.int e.kind, .int e.col, .bool e.val.null, .int e.val.n, .i (.isl (Ex.aB e.kids))])] }
theorem PX:∀ e:Ex,∀ l:List Int,l.length+e.size<1000000→aI C0 189 [.i (.isl (aF l)), .i (.agg e.cells)] []=some (.i (.isl (aF (PY l e))),[]):=by
 intro e
 induction e using Ex.ind with
 | h k c v ks ih =>
  intro l hs;generalize he:Ex.mk k c v ks=e at *
  have hks:ks=e.kids:=by rw[← he];rfl
  subst hks;have hsz:=Ex.size_eq e;have hln:=Ex.bR e.kids
  have hrd:∀ l':List Int,l'.length≤l.length+1→∀ i,i<e.kids.length→∃ a,e.kids[i]?=some a∧e.kids.take (i+1)=e.kids.take i++[a]∧fK (Ex.aB e.kids) i=some a.cells∧aI C0 189 [.i (.isl (aF (mU l' (e.kids.take i)))), .i (.agg a.cells)] []=some (.i (.isl (aF (PY (mU l' (e.kids.take i)) a))),[]):=by
   intro l' hl' i hi;have h3:=zX hi;have hm:=zU h3;have htk:=aN h3;refine⟨e.kids[i],h3,htk,Ex.aQ h3,ih _ hm _ ?_⟩
   have hadd:∀ (xs:List Ex) (l:List Int),(mU l xs).length≤l.length+Ex.aM xs:=by
    intro xs
    induction xs with
    | nil=>intro l;simp[mU]
    | cons a xs ihx=>intro l;have h1:=ihx (PY l a);have h2:=U9 a l;simp only[mU,Ex.aM];omega
   have h1:=hadd (e.kids.take i) l'
   have hsum:∀ (xs ys:List Ex),Ex.aM (xs++ys)=Ex.aM xs+Ex.aM ys:=by
    intro xs
    induction xs with
    | nil=>intro ys;simp[Ex.aM]
    | cons a xs ihx=>intro ys;simp[Ex.aM,ihx,yE]
   have h2:=hsum (e.kids.take (i+1)) (e.kids.drop (i+1));rw[xR,htk,hsum]at h2;simp only[Ex.aM]at h2;omega
  rw[aD rfl Tryz.func189 rfl rfl,Ex.aA,WY];by_cases h1:e.kind=1
  ·have hn:=U8 l e.col (by omega)
   have hil:(VM l e.col).length≤l.length+1:=by
    unfold VM;split
    ·omega
    ·simp only[zH,yG,zP,xG];omega
   simp[h1,hn];rw[aV (ACX e (VM l e.col)) e.kids.length (by simp[ACX,mU,h1])]
   ·rw[aH];simp[ACX]
   ·intro i hi;obtain⟨a,h3,htk,r2,hk⟩:=hrd _ hil i hi;have w2:IntKind.i64.wrap ((i:Int)+1)=i+1:=wrO;rw[Ex.aA a]at r2 hk;simp[ACX,hi,r2,hk,w2,htk,EO]
  ·simp[h1];rw[aV (ACX e l) e.kids.length (by simp[ACX,mU,h1])]
   ·rw[aH];simp[ACX]
   ·intro i hi;obtain⟨a,h3,htk,r2,hk⟩:=hrd l (by omega) i hi;have w2:IntKind.i64.wrap ((i:Int)+1)=i+1:=wrO;rw[Ex.aA a]at r2 hk;simp[ACX,hi,r2,hk,w2,htk,EO]
theorem QC (e:Ex) {m:Int} (hw:e.wf m=true) (hs:e.size<100000) (lo hi:Int) (hh:-100≤hi∧hi≤100):aI C0 168 [.i (.agg e.cells), .int lo, .int (hi-1)] []=some (.bool (e.cin lo hi),[]):=by
 have ha:=PX e [] (by simp;omega);have hc:=AKK hw lo hi;have hsz:=U9 e [];rw[aD rfl Tryz.func168 rfl rfl];generalize PY [] e=l at *
 rw[Ex.aA]at *
 simp only[aF]at ha
 cases hl:l with
 | nil =>
  have:e.cin lo hi=true:=hc.1 (.inl hl);rw[hl]at ha;simp[ha,this,aF]
 | cons a r =>
  have h0:l[0]?=some a:=by rw[hl];rfl
  have hlen:0<l.length:=by rw[hl];simp
  have hk:l.length-1<l.length:=by omega
  have h2:=zX hk;generalize l[l.length-1]=b at h2;have r0:=bJ h0;have r2:=bJ h2;have w1:IntKind.i64.wrap ((l.length:Int)-1)=((l.length-1:Nat):Int):=by rw[wrap64 (by simp at hsz;omega) (by simp at hsz;omega)];omega
  have hne:¬ l=[]:=by rw[hl];simp
  have hiff:e.cin lo hi=(decide (lo≤a) && decide (b≤hi-1)):=by
   rw[zB7,← hc];simp only[zT,zN];constructor
   ·rintro(h|⟨⟨x,hx,h3⟩,y,hy,h4⟩)
    ·exact absurd h hne
    ·rw[h0]at hx;rw[h2]at hy;injection hx with hx;injection hy with hy;subst hx;subst hy;exact⟨h3,h4⟩
   ·rintro⟨h3,h4⟩;exact .inr ⟨⟨a,h0,h3⟩,b,h2,h4⟩
  rw[hiff];by_cases q:lo≤a
  ·have q2:a ≥ lo:=q;simp[ha,hne,r0,r2,w1,hlen,hk,q]
  ·simp[ha,hne,r0,hlen,q]
theorem lN (b:Bool) (n:Int):aI C0 196 [.i (.agg [.bool b, .int n])] []=some (.int (stV ⟨b,n⟩),[]):=by
 rw[aD rfl Tryz.func196 rfl rfl]
 cases b
 ·by_cases h:n=0<;>simp[stV,h]
 ·simp[stV]
theorem R4 (b:Bool) (n:Int):aI C0 203 [.i (.agg [.bool b, .int n])] []=some (.int (stV ⟨b,n⟩),[]):=by
 rw[aD rfl Tryz.func203 rfl rfl]
 cases b
 ·by_cases h:n=0<;>simp[stV,h]
 ·simp[stV]
theorem ZN (x:Int):aI C0 210 [.int x] []=some (.i (.agg [.bool (decide (x=4)), .int (if x=2 then 1 else 0)]),[]):=by
 rw[aD rfl Tryz.func210 rfl rfl];by_cases h:x=4
 ·subst h;simp
 ·by_cases h2:x=2
  ·subst h2;simp
  ·simp[h,h2]
theorem eight {a:Int} (h:0≤a∧a≤7):a=0∨a=1∨a=2∨a=3∨a=4∨a=5∨a=6∨a=7:=by omega
theorem KP {a:Int} (h:0≤a∧a≤7):aI C0 207 [.int a] []=some (.i (.isl (vY (exS a))),[]):=by
 rw[aD rfl Tryz.func207 rfl rfl];have s0:=lN false 0;have s1:=lN false 1;have s2:=lN true 0;simp only[stV,yM,if_false,if_true,Int.reduceEq]at s0 s1 s2
 rcases eight h with rfl|rfl|rfl|rfl|rfl|rfl|rfl|rfl
 all_goals
  simp;rw[aH];simp[s0,s1,s2];rw[aH];simp[s0,s1,s2];rw[aH];simp[s0,s1,s2];rw[aH];simp[exS,jT,vY]
theorem aT (e:Ex) (k:Pn):(filt e k).cells=[.int 2, .int 0, .isl [e.cells], .isl [], .isl [k.cells]]:=by simp[filt,Pn.cells,Ex.aB,aF,Pn.aB]
theorem jN (es:List Ex) (k:Pn):(proj es k).cells=[.int 3, .int 0, .isl (Ex.aB es), .isl [], .isl [k.cells]]:=by simp[proj,Pn.cells,aF,Pn.aB]
theorem pair_cells (kd:Int) (e:Ex) (a b:Pn):(bB kd e a b).cells=[.int kd, .int 0, .isl [e.cells], .isl [], .isl [a.cells,b.cells]]:=by simp[bB,Pn.cells,Ex.aB,aF,Pn.aB]
theorem IJ (a b:Pn):(dA a b).cells=[.int 6, .int 0, .isl [], .isl [], .isl [a.cells,b.cells]]:=by simp[dA,Pn.cells,Ex.aB,aF,Pn.aB]
theorem pX (a b:Ex):(Z8 a b).cells=[.int 8, .int 0, .bool false, .int 0, .isl [a.cells,b.cells]]:=by simp[Z8,Ex.cells,Ex.aB,Val.zero]
theorem kZ (c:Int):(YW c).cells=[.int 1, .int c, .bool false, .int 0, .isl []]:=by simp[YW,Ex.cells,Ex.aB,Val.zero]
theorem aU:Pn.zero.cells=[.int 0, .int 0, .isl [], .isl [], .isl []]:=by simp[Pn.zero,Pn.cells,Ex.aB,aF,Pn.aB]
theorem eH (e:Ex) (k:Pn):aI C0 149 [.i (.agg e.cells), .i (.agg k.cells)] []=some (.i (.agg (filt e k).cells),[]):=by
 rw[aD rfl Tryz.func149 rfl rfl,aT,Ex.aA,Pn.aA];simp
theorem nI (kd:Int) (e:Ex) (a b:Pn):aI C0 152 [.int kd, .i (.agg e.cells), .i (.agg a.cells), .i (.agg b.cells)] []=some (.i (.agg (bB kd e a b).cells),[]):=by
 rw[aD rfl Tryz.func152 rfl rfl,pair_cells,Ex.aA,Pn.aA a,Pn.aA b];simp
theorem AGH (a b:Ex):aI C0 150 [.i (.agg a.cells), .i (.agg b.cells)] []=some (.i (.agg (Z8 a b).cells),[]):=by
 rw[aD rfl Tryz.func150 rfl rfl,pX,Ex.aA a,Ex.aA b];simp
theorem EE (c:Int):aI C0 156 [.int c] []=some (.i (.agg (YW c).cells),[]):=by
 rw[aD rfl Tryz.func156 rfl rfl,kZ];simp
theorem fC {p:Pn} {kd:Int} (h:p.kind≠2):aI C0 148 [.i (.iref p.cells), .int kd] []=some (.tup [.i (.lit (.pointer none)), .i (.lit (.pointer none)), .bool false],[]):=by
 rw[aD rfl Tryz.func148 rfl rfl,Pn.aA];simp[h]
theorem dR {e:Ex} {k:Pn} {kd:Int} (h:k.kind≠kd):aI C0 148 [.i (.iref (filt e k).cells), .int kd] []=some (.tup [.i (.lit (.pointer none)), .i (.lit (.pointer none)), .bool false],[]):=by
 rw[aD rfl Tryz.func148 rfl rfl,aT,Pn.aA k];simp[h]
theorem fE {e:Ex} {k:Pn} {kd:Int} (h:k.kind=kd):aI C0 148 [.i (.iref (filt e k).cells), .int kd] []=some (.tup [.i (.iref e.cells), .i (.iref k.cells), .bool true],[]):=by
 rw[aD rfl Tryz.func148 rfl rfl,aT,Pn.aA k,Ex.aA e];simp[h]
theorem VA (c w:Int) (h0:0≤c∧c≤6) (hw:0≤w∧w≤6):aI C0 154 [.int c, .own 0 0] [some (.box [.int w])]=some (.int (c-w),[some (.box [.int w])]):=by
 rw[aD rfl Tryz.func154 rfl rfl];have w1:IntKind.i64.wrap (c-w)=c-w:=wrO;simp[w1]
theorem MQ (c a b:Int) (h0:0≤c∧c≤12) (ha:0≤a∧a≤6) (hb:0≤b∧b≤6):aI C0 155 [.int c, .own 0 0, .own 1 0] [some (.box [.int a]),some (.box [.int b])]=some (.int (qI a b c),[some (.box [.int a]),some (.box [.int b])]):=by
 rw[aD rfl Tryz.func155 rfl rfl];have w1:IntKind.i64.wrap (c-a)=c-a:=wrO;have w2:IntKind.i64.wrap (c+b)=c+b:=wrO;unfold qI;by_cases h:c<a
 ·simp[h,w2]
 ·simp[h,w1]
def zrw:List IV:=[.int 0, .int 0, .bool false, .int 0, .isl []]
@[simp] theorem AG9 {e:Ex} (h:e.size<1000000000):aI C0 92 [.i (.iref e.cells)] []=some (.i (.agg e.cells),[]):=by
  rw[bA (p:=WH) rfl];exact YT h
theorem AE6 {e:Ex} {w:Int} (hw:0≤w∧w≤6) (hk:e.kind=1) (hc:0≤e.col∧e.col<6) :
 aI C0 177 [.i (.iref e.cells), .own 0 0] [some (.box [.fn (.func 154) [.own 1 0]]),some (.box [.int w])]=some (.i (.agg (YW (e.col-w)).cells),[some (.box [.fn (.func 154) [.own 1 0]]),some (.box [.int w])]):=by
 have hp:=VA e.col w (by omega) hw;have h2:=EE (e.col-w);rw[aD rfl Tryz.func177 rfl rfl,Ex.aA e];rw[kZ]at *
 simp[hk,hp,h2]
theorem AE4 {e:Ex} {w:Int} (hk:e.kind≠1) (hs:e.size<1000000000) :
 aI C0 177 [.i (.iref e.cells), .own 0 0] [some (.box [.fn (.func 154) [.own 1 0]]),some (.box [.int w])]=some (.i (.agg e.cells),[some (.box [.fn (.func 154) [.own 1 0]]),some (.box [.int w])]):=by
 have hc:=AG9 hs;rw[aD rfl Tryz.func177 rfl rfl];rw[Ex.aA e]at *
 simp[hk,hc]
def RNR (e:Ex) (w:Int) (f:Ex→Ex) (i:Nat):AS :=
 { env:=[(0, .i (.iref [.int e.kind, .int e.col, .bool e.val.null, .int e.val.n, .isl (Ex.aB e.kids)])),(1, .fn (.func 177) [.own 0 0]),(4, .own 2 0),(5, .own 3 0),(6,jk i (.int (i-1))),(12, .bool ((e.kids.length:Int) == 0)),(39, .int e.kids.length),(40, .int i),(41,jk i (.bool true))],
   st:=[some (.box [.fn (.func 154) [.own 1 0]]),some (.box [.int w]),some (.box [.int 0, .int 0, .bool false, .int 0, .nils]),some (.box [.int e.kind, .int e.col, .bool e.val.null, .int e.val.n, .osl 4 5 0 e.kids.length]),some (.arr 5 (Ex.aB ((e.kids.map f).take i)++List.replicate (e.kids.length-i) zrw))] }
theorem AX7 {e:Ex} {w:Int} {f:Ex→Ex} (hk:e.kids≠[]) (hl:e.kids.length<1000000000) (ih:∀ x∈e.kids,aI C0 176 [.i (.iref x.cells), .fn (.func 177) [.own 0 0]] [some (.box [.fn (.func 154) [.own 1 0]]),some (.box [.int w])]=some (.i (.agg (f x).cells),[some (.box [.fn (.func 154) [.own 1 0]]),some (.box [.int w])])) :
 aI C0 176 [.i (.iref e.cells), .fn (.func 177) [.own 0 0]] [some (.box [.fn (.func 154) [.own 1 0]]),some (.box [.int w])]=some (.i (.agg (Ex.mk e.kind e.col e.val (e.kids.map f)).cells),[some (.box [.fn (.func 154) [.own 1 0]]),some (.box [.int w])]):=by
 rw[aD rfl Tryz.func176 rfl rfl,Ex.aA];have hb:56*(e.kids.length:Int)≤281474976710656:=by omega
 simp[hk,hb];rw[aV (RNR e w f) e.kids.length (by simp[RNR,Ex.aB,zrw])]
 ·rw[aH];have ht:(e.kids.map f).take e.kids.length=e.kids.map f:=zY (by simp);simp[RNR,Ex.cells,ht]
 ·intro i hi;have h3:=zX hi;have hm:=zU h3;have hc:=ih _ hm;have r2:=Ex.aQ h3;generalize e.kids[i]=x at h3 hc r2;have w2:IntKind.i64.wrap ((i:Int)+1)=i+1:=wrO;rw[Ex.aA]at hc r2;have hD:(Ex.aB ((e.kids.map f).take i)).length=i:=by simp;omega
  have hS:Ex.aB ((e.kids.map f).take i)++[(f x).cells]=Ex.aB ((e.kids.map f).take (i+1)):=by rw[aN (a:=f x) (by simp[h3]),Ex.aY]
  have g1:=uS (n:=e.kids.length) (z:=zrw) hD hi;have g2:=uR (n:=e.kids.length) (z:=zrw) (x:=(f x).cells) hD hi;have g3:splice zrw 0 (f x).cells=some (f x).cells:=jL (by simp[zrw]);rw[hS]at g2;simp[RNR,hi,r2,hc,w2,g1,g2,g3]
theorem ATF {e x:Ex} {w:Int} (hk:e.kids=[]) (h:aI C0 177 [.i (.iref e.cells), .own 0 0] [some (.box [.fn (.func 154) [.own 1 0]]),some (.box [.int w])]=some (.i (.agg x.cells),[some (.box [.fn (.func 154) [.own 1 0]]),some (.box [.int w])])) :
 aI C0 176 [.i (.iref e.cells), .fn (.func 177) [.own 0 0]] [some (.box [.fn (.func 154) [.own 1 0]]),some (.box [.int w])]=some (.i (.agg x.cells),[some (.box [.fn (.func 154) [.own 1 0]]),some (.box [.int w])]):=by
 rw[aD rfl Tryz.func176 rfl rfl];rw[Ex.aA e]at h ⊢;rw[Ex.aA x]at h ⊢;simp[hk,Ex.aB]at h ⊢;simp[h]
theorem ADY {w:Int} (hw:0≤w∧w≤6):∀ (e:Ex),e.wf 6=true→e.size<1000000000→aI C0 176 [.i (.iref e.cells), .fn (.func 177) [.own 0 0]] [some (.box [.fn (.func 154) [.own 1 0]]),some (.box [.int w])]=some (.i (.agg (e.wJ (·-w)).cells),[some (.box [.fn (.func 154) [.own 1 0]]),some (.box [.int w])]):=by
 intro e
 induction e using Ex.ind with
 | h k c v ks ih =>
  intro hx6 hs;have hsz:=Ex.size_eq (.mk k c v ks);have hln:=Ex.bR ks;simp only[Ex.kids]at hsz;by_cases h1:k=1
  ·have hc:=Ex.vL hx6 (by simpa [Ex.kind]using h1);rw[Ex.H7 _ (by simpa [Ex.kind]using h1)];exact ATF hc.2.2 (AE6 hw (by simpa [Ex.kind]using h1) ⟨hc.1,hc.2.1⟩)
  ·rw[Ex.H6 _ (by simpa [Ex.kind]using h1)];by_cases hk:ks=[]
   ·subst hk;exact ATF rfl (AE4 (by simpa [Ex.kind]using h1) hs)
   ·exact AX7 hk (by simp only[Ex.kids];omega) fun x hx=>ih x hx (Ex.oI hx6 hx) (by have:=Ex.iY (l:=ks) hx;omega)
theorem V7 {w:Int} (hw:0≤w∧w≤6) (e:Ex) (hx6:e.wf 6=true) (hs:e.size<1000000000):aI C0 153 [.i (.iref e.cells), .fn (.func 154) [.own 0 0]] [some (.box [.int w])]=some (.i (.agg (e.wJ (·-w)).cells),[some (.box [.int w])]):=by
 have h:=ADY hw e hx6 hs;rw[aD rfl Tryz.func153 rfl rfl];generalize e.wJ (·-w)=x at *
 rw[Ex.aA e,Ex.aA x]at *
 simp[h]
theorem AE5 {e:Ex} {a b:Int} (ha:0≤a∧a≤6) (hb:0≤b∧b≤6) (hk:e.kind=1) (hc:0≤e.col∧e.col<6) :
 aI C0 177 [.i (.iref e.cells), .own 0 0] [some (.box [.fn (.func 155) [.own 1 0, .own 2 0]]),some (.box [.int a]),some (.box [.int b])]=some (.i (.agg (YW (qI a b e.col)).cells),[some (.box [.fn (.func 155) [.own 1 0, .own 2 0]]),some (.box [.int a]),some (.box [.int b])]):=by
 have hp:=MQ e.col a b (by omega) ha hb;have h2:=EE (qI a b e.col);rw[aD rfl Tryz.func177 rfl rfl,Ex.aA e];rw[kZ]at *
 simp[hk,hp,h2]
theorem AE3 {e:Ex} {a b:Int} (hk:e.kind≠1) (hs:e.size<1000000000) :
 aI C0 177 [.i (.iref e.cells), .own 0 0] [some (.box [.fn (.func 155) [.own 1 0, .own 2 0]]),some (.box [.int a]),some (.box [.int b])]=some (.i (.agg e.cells),[some (.box [.fn (.func 155) [.own 1 0, .own 2 0]]),some (.box [.int a]),some (.box [.int b])]):=by
 have hc:=AG9 hs;rw[aD rfl Tryz.func177 rfl rfl];rw[Ex.aA e]at *
 simp[hk,hc]
def RNS (e:Ex) (a b:Int) (f:Ex→Ex) (i:Nat):AS :=
 { env:=[(0, .i (.iref [.int e.kind, .int e.col, .bool e.val.null, .int e.val.n, .isl (Ex.aB e.kids)])),(1, .fn (.func 177) [.own 0 0]),(4, .own 3 0),(5, .own 4 0),(6,jk i (.int (i-1))),(12, .bool ((e.kids.length:Int) == 0)),(39, .int e.kids.length),(40, .int i),(41,jk i (.bool true))],
   st:=[some (.box [.fn (.func 155) [.own 1 0, .own 2 0]]),some (.box [.int a]),some (.box [.int b]),some (.box [.int 0, .int 0, .bool false, .int 0, .nils]),some (.box [.int e.kind, .int e.col, .bool e.val.null, .int e.val.n, .osl 5 5 0 e.kids.length]),some (.arr 5 (Ex.aB ((e.kids.map f).take i)++List.replicate (e.kids.length-i) zrw))] }
theorem AX6 {e:Ex} {a b:Int} {f:Ex→Ex} (hk:e.kids≠[]) (hl:e.kids.length<1000000000) (ih:∀ x∈e.kids,aI C0 176 [.i (.iref x.cells), .fn (.func 177) [.own 0 0]] [some (.box [.fn (.func 155) [.own 1 0, .own 2 0]]),some (.box [.int a]),some (.box [.int b])]=some (.i (.agg (f x).cells),[some (.box [.fn (.func 155) [.own 1 0, .own 2 0]]),some (.box [.int a]),some (.box [.int b])])) :
 aI C0 176 [.i (.iref e.cells), .fn (.func 177) [.own 0 0]] [some (.box [.fn (.func 155) [.own 1 0, .own 2 0]]),some (.box [.int a]),some (.box [.int b])]=some (.i (.agg (Ex.mk e.kind e.col e.val (e.kids.map f)).cells),[some (.box [.fn (.func 155) [.own 1 0, .own 2 0]]),some (.box [.int a]),some (.box [.int b])]):=by
 rw[aD rfl Tryz.func176 rfl rfl,Ex.aA];have hb:56*(e.kids.length:Int)≤281474976710656:=by omega
 simp[hk,hb];rw[aV (RNS e a b f) e.kids.length (by simp[RNS,Ex.aB,zrw])]
 ·rw[aH];have ht:(e.kids.map f).take e.kids.length=e.kids.map f:=zY (by simp);simp[RNS,Ex.cells,ht]
 ·intro i hi;have h3:=zX hi;have hm:=zU h3;have hc:=ih _ hm;have r2:=Ex.aQ h3;generalize e.kids[i]=x at h3 hc r2;have w2:IntKind.i64.wrap ((i:Int)+1)=i+1:=wrO;rw[Ex.aA]at hc r2;have hD:(Ex.aB ((e.kids.map f).take i)).length=i:=by simp;omega
  have hS:Ex.aB ((e.kids.map f).take i)++[(f x).cells]=Ex.aB ((e.kids.map f).take (i+1)):=by rw[aN (a:=f x) (by simp[h3]),Ex.aY]
  have g1:=uS (n:=e.kids.length) (z:=zrw) hD hi;have g2:=uR (n:=e.kids.length) (z:=zrw) (x:=(f x).cells) hD hi;have g3:splice zrw 0 (f x).cells=some (f x).cells:=jL (by simp[zrw]);rw[hS]at g2;simp[RNS,hi,r2,hc,w2,g1,g2,g3]
theorem ATE {e x:Ex} {a b:Int} (hk:e.kids=[]) (h:aI C0 177 [.i (.iref e.cells), .own 0 0] [some (.box [.fn (.func 155) [.own 1 0, .own 2 0]]),some (.box [.int a]),some (.box [.int b])]=some (.i (.agg x.cells),[some (.box [.fn (.func 155) [.own 1 0, .own 2 0]]),some (.box [.int a]),some (.box [.int b])])) :
 aI C0 176 [.i (.iref e.cells), .fn (.func 177) [.own 0 0]] [some (.box [.fn (.func 155) [.own 1 0, .own 2 0]]),some (.box [.int a]),some (.box [.int b])]=some (.i (.agg x.cells),[some (.box [.fn (.func 155) [.own 1 0, .own 2 0]]),some (.box [.int a]),some (.box [.int b])]):=by
 rw[aD rfl Tryz.func176 rfl rfl];rw[Ex.aA e]at h ⊢;rw[Ex.aA x]at h ⊢;simp[hk,Ex.aB]at h ⊢;simp[h]
theorem ADX {a b:Int} (ha:0≤a∧a≤6) (hb:0≤b∧b≤6):∀ (e:Ex),e.wf 6=true→e.size<1000000000→aI C0 176 [.i (.iref e.cells), .fn (.func 177) [.own 0 0]] [some (.box [.fn (.func 155) [.own 1 0, .own 2 0]]),some (.box [.int a]),some (.box [.int b])]=some (.i (.agg (e.wJ (qI a b)).cells),[some (.box [.fn (.func 155) [.own 1 0, .own 2 0]]),some (.box [.int a]),some (.box [.int b])]):=by
 intro e
 induction e using Ex.ind with
 | h k c v ks ih =>
  intro hx6 hs;have hsz:=Ex.size_eq (.mk k c v ks);have hln:=Ex.bR ks;simp only[Ex.kids]at hsz;by_cases h1:k=1
  ·have hc:=Ex.vL hx6 (by simpa [Ex.kind]using h1);rw[Ex.H7 _ (by simpa [Ex.kind]using h1)];exact ATE hc.2.2 (AE5 ha hb (by simpa [Ex.kind]using h1) ⟨hc.1,hc.2.1⟩)
  ·rw[Ex.H6 _ (by simpa [Ex.kind]using h1)];by_cases hk:ks=[]
   ·subst hk;exact ATE rfl (AE3 (by simpa [Ex.kind]using h1) hs)
   ·exact AX6 hk (by simp only[Ex.kids];omega) fun x hx=>ih x hx (Ex.oI hx6 hx) (by have:=Ex.iY (l:=ks) hx;omega)
theorem V6 {a b:Int} (ha:0≤a∧a≤6) (hb:0≤b∧b≤6) (e:Ex) (hx6:e.wf 6=true) (hs:e.size<1000000000):aI C0 153 [.i (.iref e.cells), .fn (.func 155) [.own 0 0, .own 1 0]] [some (.box [.int a]),some (.box [.int b])]=some (.i (.agg (e.wJ (qI a b)).cells),[some (.box [.int a]),some (.box [.int b])]):=by
 have h:=ADX ha hb e hx6 hs;rw[aD rfl Tryz.func153 rfl rfl];generalize e.wJ (qI a b)=x at *
 rw[Ex.aA e,Ex.aA x]at *
 simp[h]
end Go.Proofs.YtjdfjgmebalaaaaGreat.P
namespace Go.Av
theorem OM (a b:Nat):orS a b=((a ||| b:Nat):Int):=by simp[orS]
def Q6 (k:Int) (v:Val) (l:List Val) (s:Int) (j:Nat):Int:=(l.take j).foldl (fun s w=>orS s (stV (Val.cmb k v w))) s
def UH (k:Int) (l r:List Val) (i:Nat):Int:=(l.take i).foldl (fun s v=>r.foldl (fun s w=>orS s (stV (Val.cmb k v w))) s) 0
theorem UA {k:Int} {v w:Val} {l:List Val} {s:Int} {j:Nat} (h:l[j]?=some w):Q6 k v l s (j+1)=orS (Q6 k v l s j) (stV (Val.cmb k v w)):=by
 unfold Q6;rw[aN h,zC7];rfl
theorem LC {k:Int} {v:Val} {l r:List Val} {i:Nat} (h:l[i]?=some v):UH k l r (i+1)=Q6 k v r (UH k l r i) r.length:=by
 unfold UH Q6;rw[aN h,zC7,List.take_length];rfl
def ACE (s:Int):Prop:=∃ n:Nat,s=n∧n<8
theorem IQ (v:Val):ACE (stV v):=by
 unfold stV;split
 ·exact⟨4,rfl,by omega⟩
 ·split
  ·exact⟨1,rfl,by omega⟩
  ·exact⟨2,rfl,by omega⟩
theorem AEK {a b:Int} (ha:ACE a) (hb:ACE b):ACE (orS a b):=by
 obtain⟨m,rfl,hm⟩:=ha;obtain⟨n,rfl,hn⟩:=hb;exact⟨m ||| n,OM m n,zA3 (n:=3) hm hn⟩
theorem HZ {k:Int} {v:Val}:∀ (l:List Val) {s:Int} (j:Nat),ACE s→ACE (Q6 k v l s j)
 | [],s,j,h=>by simpa [Q6]using h
 | a::l,s,0,h=>by simpa [Q6]using h
 | a::l,s,j+1,h=>by
  have:=HZ (k:=k) (v:=v) l (s:=orS s (stV (Val.cmb k v a))) j (AEK h (IQ _));simpa [Q6]using this
theorem ZB {k:Int} {r:List Val} (l:List Val) (i:Nat) (hi:i≤l.length):ACE (UH k l r i):=by
 induction i with
 | zero=>exact⟨0,by simp[UH],by omega⟩
 | succ i ih =>
  rw[LC (zX (show i<l.length by omega))];exact HZ r _ (ih (by omega))
theorem AKJ {k a b:Int} (h:k=8∨k=9):mI k a b=UH k (exS a) (exS b) (exS a).length:=by
 unfold mI UH;rw[if_pos h,List.take_length]
theorem AMN {a:Int} {v:Val} (h:v∈exS a):v.ok=true:=by
 unfold exS at h;simp only[zV]at h
 rcases h with h|h|h
 ·split at h
  ·simp at h;subst h;rfl
  ·cases h
 ·split at h
  ·simp at h;subst h;rfl
  ·cases h
 ·split at h
  ·simp at h;subst h;rfl
  ·cases h
theorem AUQ {b:Int} (h:okS b):exS b≠[]:=by
 obtain⟨h1,h2⟩:=h;have:b=1∨b=2∨b=3∨b=4∨b=5∨b=6∨b=7:=by omega
 rcases this with rfl|rfl|rfl|rfl|rfl|rfl|rfl<;>decide
theorem AG2 (a:Int):(exS a).length≤3:=by
 unfold exS;simp only[zH]
 repeat' split
 all_goals simp
end Go.Av
namespace Go.Proofs.YtjdfjgmebalaaaaGreat.P
open Go Go.Av
set_option maxRecDepth 4000
set_option maxHeartbeats 4000000
theorem FP {n:Nat} (h:n<8):n % 18446744073709551616=n:=Nat.mod_eq_of_lt (by omega)
theorem or8 {m n:Nat} (hm:m<8) (hn:n<8):IntKind.i64.wrap ((m ||| n:Nat):Int)=((m ||| n:Nat):Int):=by
 have:=zA3 (n:=3) hm hn;exact wrO
def vBx (v:Val):Option Blk:=some (.box [.bool v.null, .int v.n])
def vAt (l:List Val) (i:Nat):Val:=(l[i]?).getD Val.zero
def jz (i:Nat) (v:AV):AV:=if i=0 then .junk else v
@[simp] theorem AkN (v:AV):jz 0 v=.junk:=rfl
@[simp] theorem AkM (i:Nat) (v:AV):jz (i+1) v=v:=rfl
theorem FY {i:Nat} (h:i≠0) (v:AV):jz i v=v:=if_neg h
def CSX (k a b:Int) (A B:List Val) (i:Nat):AS :=
 { env:=[(0, .int k),(1, .int a),(2, .int b),(6, .int 0),(7, .int (UH k A B i)),(9,jz i (.own 0 0)),(11,jz i (.own 1 0)),(17, .bool true),(19, .i (.isl (vY A))),(20, .int A.length),(21, .int i),(22,jz i (.bool true)),(26,jz i (.i (.isl (vY B)))),(27,jz i (.int B.length)),(28,jz i (.int B.length)),(29,jz i (.bool false)),(46, .junk),(54, .junk),(66, .junk)],
   st:=if i=0 then []else [vBx (vAt A (i-1)),vBx (vAt B (B.length-1))] }
def CSI (k a b:Int) (A B:List Val) (i:Nat) (j:Nat):AS :=
 { env:=[(0, .int k),(1, .int a),(2, .int b),(6, .int 0),(7, .int (Q6 k (vAt A i) B (UH k A B i) j)),(9, .own 0 0),(11,if j=0 then jz i (.own 1 0)else .own 1 0),(17, .bool true),(19, .i (.isl (vY A))),(20, .int A.length),(21, .int i),(22, .bool true),(26, .i (.isl (vY B))),(27, .int B.length),(28, .int j),(29,if j=0 then jz i (.bool false)else .bool true),(46, .junk),(54, .junk),(66, .junk)],
   st:=vBx (vAt A i)::(if j=0 then(if i=0 then []else [vBx (vAt B (B.length-1))])else [vBx (vAt B (j-1))]) }
theorem CF {k a b:Int} (hk:k=8∨k=9) (ha:okS a) (hb:okS b):aI C0 197 [.int k, .int a, .int b] []=some (.int (mI k a b),[]):=by
 have hea:=KP (a:=a) ⟨by have:=ha.1;omega,ha.2⟩;have heb:=KP (a:=b) ⟨by have:=hb.1;omega,hb.2⟩;have hbn:=AUQ hb;have hbl:(exS b).length≠0:=fun h=>hbn (zW.1 h)
 have la:=AG2 a;have lb:=AG2 b;have oka:∀ v∈exS a,v.ok=true:=fun v hv=>AMN hv
 have okb:∀ v∈exS b,v.ok=true:=fun v hv=>AMN hv
 rw[aD rfl Tryz.func197 rfl rfl,AKJ hk];generalize exS a=A at *
 generalize exS b=B at *
 rcases hk with rfl|rfl
 ·simp[hea];rw[aV (CSX 8 a b A B) A.length (by simp[CSX,UH])]
  ·rw[aH];simp[CSX]
  ·intro i hi;have h3:=zX hi;have hm:=zU h3;generalize A[i]=v at h3 hm;have rA:=sQ h3;have hv:vAt A i=v:=by simp[vAt,h3]
   have w2:IntKind.i64.wrap ((i:Int)+1)=i+1:=wrO;have hlow0:=ZB (k:=8) (r:=B) A i (by omega);have hsc:=LC (k:=8) (r:=B) h3
   have inner:∀ j,j<B.length→∃ w,B[j]?=some w∧w∈B∧fK (vY B) j=some [.bool w.null, .int w.n]∧vAt B j=w∧∃ m n:Nat,Q6 8 v B (UH 8 A B i) j=m∧stV (Val.cmb 8 v w)=n∧m<8∧n<8∧Q6 8 v B (UH 8 A B i) (j+1)=((m ||| n:Nat):Int)∧IntKind.i64.wrap ((m ||| n:Nat):Int)=((m ||| n:Nat):Int):=by
    intro j hj;have q3:=zX hj;obtain⟨m,hm1,hm2⟩:=HZ (k:=8) (v:=v) B j hlow0;obtain⟨n,hn1,hn2⟩:=IQ (Val.cmb 8 v B[j]);refine⟨B[j],q3,xE hj,sQ q3,by simp[vAt,q3],m,n,hm1,hn1,hm2,hn2,?_,or8 hm2 hn2⟩;rw[UA q3,hm1,hn1,OM]
   by_cases h0:i=0
   ·subst h0;simp[CSX,hi,rA,heb];rw[aV (CSI 8 a b A B 0) B.length (by simp[CSI,Q6,hv,vBx])]
    ·rw[aH];simp[CSI,hbl,w2,hv,hsc,CSX,vBx]
    ·intro j hj;obtain⟨w,q3,qm,q4,q5,m,n,m1,n1,m2,n2,hn,hwr⟩:=inner j hj;have hcm:=rJ 8 v w (oka v hm) (okb w qm);have hst:=lN (Val.cmb 8 v w).null (Val.cmb 8 v w).n;have w3:IntKind.i64.wrap ((j:Int)+1)=j+1:=wrO;rw[show stV ⟨(Val.cmb 8 v w).null,(Val.cmb 8 v w).n⟩=stV (Val.cmb 8 v w)from rfl,n1]at hst;by_cases j0:j=0
     ·subst j0;simp[CSI,hj,hv,q4,q5,vBx,m1,hcm,hst,FP m2,FP n2,hwr,hn]
     ·simp[CSI,hj,hv,q4,q5,vBx,m1,hcm,hst,FP m2,FP n2,hwr,hn,j0,w3]
   ·simp[CSX,hi,rA,heb,h0,FY h0,vBx];rw[aV (CSI 8 a b A B i) B.length (by simp[CSI,Q6,hv,vBx,FY h0,h0])]
    ·rw[aH];simp[CSI,hbl,w2,hv,hsc,CSX,vBx]
    ·intro j hj;obtain⟨w,q3,qm,q4,q5,m,n,m1,n1,m2,n2,hn,hwr⟩:=inner j hj;have hcm:=rJ 8 v w (oka v hm) (okb w qm);have hst:=lN (Val.cmb 8 v w).null (Val.cmb 8 v w).n;have w3:IntKind.i64.wrap ((j:Int)+1)=j+1:=wrO;rw[show stV ⟨(Val.cmb 8 v w).null,(Val.cmb 8 v w).n⟩=stV (Val.cmb 8 v w)from rfl,n1]at hst;by_cases j0:j=0
     ·subst j0;simp[CSI,hj,hv,q4,q5,vBx,m1,hcm,hst,FP m2,FP n2,hwr,hn,FY h0,h0]
     ·simp[CSI,hj,hv,q4,q5,vBx,m1,hcm,hst,FP m2,FP n2,hwr,hn,j0,w3,FY h0,h0]
 ·simp[hea];rw[aV (CSX 9 a b A B) A.length (by simp[CSX,UH])]
  ·rw[aH];simp[CSX]
  ·intro i hi;have h3:=zX hi;have hm:=zU h3;generalize A[i]=v at h3 hm;have rA:=sQ h3;have hv:vAt A i=v:=by simp[vAt,h3]
   have w2:IntKind.i64.wrap ((i:Int)+1)=i+1:=wrO;have hlow0:=ZB (k:=9) (r:=B) A i (by omega);have hsc:=LC (k:=9) (r:=B) h3
   have inner:∀ j,j<B.length→∃ w,B[j]?=some w∧w∈B∧fK (vY B) j=some [.bool w.null, .int w.n]∧vAt B j=w∧∃ m n:Nat,Q6 9 v B (UH 9 A B i) j=m∧stV (Val.cmb 9 v w)=n∧m<8∧n<8∧Q6 9 v B (UH 9 A B i) (j+1)=((m ||| n:Nat):Int)∧IntKind.i64.wrap ((m ||| n:Nat):Int)=((m ||| n:Nat):Int):=by
    intro j hj;have q3:=zX hj;obtain⟨m,hm1,hm2⟩:=HZ (k:=9) (v:=v) B j hlow0;obtain⟨n,hn1,hn2⟩:=IQ (Val.cmb 9 v B[j]);refine⟨B[j],q3,xE hj,sQ q3,by simp[vAt,q3],m,n,hm1,hn1,hm2,hn2,?_,or8 hm2 hn2⟩;rw[UA q3,hm1,hn1,OM]
   by_cases h0:i=0
   ·subst h0;simp[CSX,hi,rA,heb];rw[aV (CSI 9 a b A B 0) B.length (by simp[CSI,Q6,hv,vBx])]
    ·rw[aH];simp[CSI,hbl,w2,hv,hsc,CSX,vBx]
    ·intro j hj;obtain⟨w,q3,qm,q4,q5,m,n,m1,n1,m2,n2,hn,hwr⟩:=inner j hj;have hcm:=rJ 9 v w (oka v hm) (okb w qm);have hst:=lN (Val.cmb 9 v w).null (Val.cmb 9 v w).n;have w3:IntKind.i64.wrap ((j:Int)+1)=j+1:=wrO;rw[show stV ⟨(Val.cmb 9 v w).null,(Val.cmb 9 v w).n⟩=stV (Val.cmb 9 v w)from rfl,n1]at hst;by_cases j0:j=0
     ·subst j0;simp[CSI,hj,hv,q4,q5,vBx,m1,hcm,hst,FP m2,FP n2,hwr,hn]
     ·simp[CSI,hj,hv,q4,q5,vBx,m1,hcm,hst,FP m2,FP n2,hwr,hn,j0,w3]
   ·simp[CSX,hi,rA,heb,h0,FY h0,vBx];rw[aV (CSI 9 a b A B i) B.length (by simp[CSI,Q6,hv,vBx,FY h0,h0])]
    ·rw[aH];simp[CSI,hbl,w2,hv,hsc,CSX,vBx]
    ·intro j hj;obtain⟨w,q3,qm,q4,q5,m,n,m1,n1,m2,n2,hn,hwr⟩:=inner j hj;have hcm:=rJ 9 v w (oka v hm) (okb w qm);have hst:=lN (Val.cmb 9 v w).null (Val.cmb 9 v w).n;have w3:IntKind.i64.wrap ((j:Int)+1)=j+1:=wrO;rw[show stV ⟨(Val.cmb 9 v w).null,(Val.cmb 9 v w).n⟩=stV (Val.cmb 9 v w)from rfl,n1]at hst;by_cases j0:j=0
     ·subst j0;simp[CSI,hj,hv,q4,q5,vBx,m1,hcm,hst,FP m2,FP n2,hwr,hn,FY h0,h0]
     ·simp[CSI,hj,hv,q4,q5,vBx,m1,hcm,hst,FP m2,FP n2,hwr,hn,j0,w3,FY h0,h0]
set_option maxHeartbeats 8000000
theorem ATX:∀ m n:Fin 8,((m.val ||| n.val) &&& 4=0∧jT (orS m.val n.val) 4=false)∨((m.val ||| n.val) &&& 4=4∧jT (orS m.val n.val) 4=true):=by decide
theorem JF {m n:Nat} (hm:m<8) (hn:n<8):((m ||| n) &&& 4=0∧jT (orS m n) 4=false)∨((m ||| n) &&& 4=4∧jT (orS m n) 4=true):=ATX ⟨m,hm⟩ ⟨n,hn⟩
theorem AOW:∀ m:Fin 8,(m.val &&& 18446744073709551611=0∧(jT m.val 1 || jT m.val 2)=false)∨((m.val &&& 18446744073709551611=1∨m.val &&& 18446744073709551611=2∨m.val &&& 18446744073709551611=3)∧(jT m.val 1 || jT m.val 2)=true):=by decide
theorem AFA {m:Nat} (hm:m<8):∃ v:Nat,m &&& 18446744073709551611=v∧IntKind.i64.wrap (v:Int)=v∧((v=0∧(jT m 1 || jT m 2)=false)∨(¬ v=0∧(jT m 1 || jT m 2)=true)):=by
 rcases AOW ⟨m,hm⟩with ⟨h,q⟩|⟨h|h|h,q⟩
 ·exact⟨0,h,by decide, .inl ⟨rfl,q⟩⟩
 ·exact⟨1,h,by decide, .inr ⟨by omega,q⟩⟩
 ·exact⟨2,h,by decide, .inr ⟨by omega,q⟩⟩
 ·exact⟨3,h,by decide, .inr ⟨by omega,q⟩⟩
theorem wV {k:Int} (hk:3≤k∧k≠8∧k≠9) {m n:Nat} (hm:m<8) (hn:n<8):aI C0 197 [.int k, .int m, .int n] []=some (.int (mI k m n),[]):=by
 rw[aD rfl Tryz.func197 rfl rfl];have h1:=FP hm;have h2:=FP hn;have h3:=or8 hm hn;have h4:(m ||| n) % 18446744073709551616=m ||| n:=FP (zA3 (n:=3) hm hn)
 obtain⟨x,x1,x2,x3⟩:=AFA hm;obtain⟨y,y1,y2,y3⟩:=AFA hn;have k8:¬ k=8:=hk.2.1;have k9:¬ k=9:=hk.2.2;have e7:orS 0 7=7:=by decide
 have e3:orS 0 3=3:=by decide
 have e47:orS 4 7=7:=by decide
 have e43:orS 4 3=7:=by decide
 have e40:orS 4 0=4:=by decide
 have e00:orS 0 0=0:=by decide
 by_cases k6:k<6
 ·have hk3:k=3∨k=4∨k=5:=by omega
  rcases hk3 with rfl|rfl|rfl
  ·rcases JF hm hn with ⟨p,q⟩|⟨p,q⟩
   ·rcases x3 with ⟨x3,x4⟩|⟨x3,x4⟩
    ·simp[h1,h2,h3,h4,p,x1,x2,x3,mI,q,x4,e00]
    ·rcases y3 with ⟨y3,y4⟩|⟨y3,y4⟩
     ·simp[h1,h2,h3,h4,p,x1,x2,x3,y1,y2,y3,mI,q,x4,y4,e00]
     ·simp[h1,h2,h3,h4,p,x1,x2,x3,y1,y2,y3,mI,q,x4,y4,e7,e3]
   ·rcases x3 with ⟨x3,x4⟩|⟨x3,x4⟩
    ·simp[h1,h2,h3,h4,p,x1,x2,x3,mI,q,x4,e40]
    ·rcases y3 with ⟨y3,y4⟩|⟨y3,y4⟩
     ·simp[h1,h2,h3,h4,p,x1,x2,x3,y1,y2,y3,mI,q,x4,y4,e40]
     ·simp[h1,h2,h3,h4,p,x1,x2,x3,y1,y2,y3,mI,q,x4,y4,e47,e43]
  ·rcases JF hm hn with ⟨p,q⟩|⟨p,q⟩
   ·rcases x3 with ⟨x3,x4⟩|⟨x3,x4⟩
    ·simp[h1,h2,h3,h4,p,x1,x2,x3,mI,q,x4,e00]
    ·rcases y3 with ⟨y3,y4⟩|⟨y3,y4⟩
     ·simp[h1,h2,h3,h4,p,x1,x2,x3,y1,y2,y3,mI,q,x4,y4,e00]
     ·simp[h1,h2,h3,h4,p,x1,x2,x3,y1,y2,y3,mI,q,x4,y4,e7,e3]
   ·rcases x3 with ⟨x3,x4⟩|⟨x3,x4⟩
    ·simp[h1,h2,h3,h4,p,x1,x2,x3,mI,q,x4,e40]
    ·rcases y3 with ⟨y3,y4⟩|⟨y3,y4⟩
     ·simp[h1,h2,h3,h4,p,x1,x2,x3,y1,y2,y3,mI,q,x4,y4,e40]
     ·simp[h1,h2,h3,h4,p,x1,x2,x3,y1,y2,y3,mI,q,x4,y4,e47,e43]
  ·rcases JF hm hn with ⟨p,q⟩|⟨p,q⟩
   ·rcases x3 with ⟨x3,x4⟩|⟨x3,x4⟩
    ·simp[h1,h2,h3,h4,p,x1,x2,x3,mI,q,x4,e00]
    ·rcases y3 with ⟨y3,y4⟩|⟨y3,y4⟩
     ·simp[h1,h2,h3,h4,p,x1,x2,x3,y1,y2,y3,mI,q,x4,y4,e00]
     ·simp[h1,h2,h3,h4,p,x1,x2,x3,y1,y2,y3,mI,q,x4,y4,e7,e3]
   ·rcases x3 with ⟨x3,x4⟩|⟨x3,x4⟩
    ·simp[h1,h2,h3,h4,p,x1,x2,x3,mI,q,x4,e40]
    ·rcases y3 with ⟨y3,y4⟩|⟨y3,y4⟩
     ·simp[h1,h2,h3,h4,p,x1,x2,x3,y1,y2,y3,mI,q,x4,y4,e40]
     ·simp[h1,h2,h3,h4,p,x1,x2,x3,y1,y2,y3,mI,q,x4,y4,e47,e43]
 ·have k3:¬ k=3:=by omega
  have k4:¬ k=4:=by omega
  have k5:¬ k=5:=by omega
  rcases JF hm hn with ⟨p,q⟩|⟨p,q⟩
  ·rcases x3 with ⟨x3,x4⟩|⟨x3,x4⟩
   ·simp[h1,h2,h3,h4,p,x1,x2,x3,mI,q,x4,e00,k3,k4,k5,k6,k8,k9]
   ·rcases y3 with ⟨y3,y4⟩|⟨y3,y4⟩
    ·simp[h1,h2,h3,h4,p,x1,x2,x3,y1,y2,y3,mI,q,x4,y4,e00,k3,k4,k5,k6,k8,k9]
    ·simp[h1,h2,h3,h4,p,x1,x2,x3,y1,y2,y3,mI,q,x4,y4,e7,e3,k3,k4,k5,k6,k8,k9]
  ·rcases x3 with ⟨x3,x4⟩|⟨x3,x4⟩
   ·simp[h1,h2,h3,h4,p,x1,x2,x3,mI,q,x4,e40,k3,k4,k5,k6,k8,k9]
   ·rcases y3 with ⟨y3,y4⟩|⟨y3,y4⟩
    ·simp[h1,h2,h3,h4,p,x1,x2,x3,y1,y2,y3,mI,q,x4,y4,e40,k3,k4,k5,k6,k8,k9]
    ·simp[h1,h2,h3,h4,p,x1,x2,x3,y1,y2,y3,mI,q,x4,y4,e47,e43,k3,k4,k5,k6,k8,k9]
end Go.Proofs.YtjdfjgmebalaaaaGreat.P
namespace Go.Av
theorem Ex.AL {w:Int} {e:Ex} (h:e.wf w=true):(e.kind=1∧0≤e.col∧e.col<w∧e.kids=[])∨(e.kind=2∧e.kids=[])∨((e.kind=10∨e.kind=11)∧∃ x,e.kids=[x]∧x.wf w=true)∨((3≤e.kind∧e.kind≤9)∧∃ x y,e.kids=[x,y]∧x.wf w=true∧y.wf w=true):=by
 have hk:∀ x∈e.kids,x.wf w=true:=fun x hx=>Ex.oI h hx
 by_cases h1:e.kind=1
 ·have:=Ex.vL h h1;exact .inl ⟨h1,this.1,this.2.1,this.2.2⟩
 rw[Ex.QE]at h;simp only[zT,zN]at h;have hl:=h.1;unfold cK at hl;split at hl
 ·rename_i hc;exact .inr (.inl ⟨by omega,zW.1 (by omega)⟩)
 ·split at hl
  ·rename_i hc;obtain⟨x,hx⟩:=H8 (show e.kids.length=1 by omega);exact .inr (.inr (.inl ⟨hc,x,hx,hk x (by simp[hx])⟩))
  ·split at hl
   ·rename_i hc;obtain⟨x,y,hx⟩:=Y5 (show e.kids.length=2 by omega);exact .inr (.inr (.inr ⟨hc,x,y,hx,hk x (by simp[hx]),hk y (by simp[hx])⟩))
   ·omega
theorem OL {W:Int} (st:List Int) (hl:(st.length:Int)=W) (hs:∀ a∈st,okS a):∀ e:Ex,e.wf W=true→okS (JE st e):=by
 intro e
 induction e using Ex.ind with
 | h k c v ks ih =>
  intro hw;rw[VC]
  rcases Ex.AL hw with ⟨h1,h2,h3,h4⟩|⟨h1,h2⟩|⟨h1,x,h2,h3⟩|⟨h1,x,y,h2,h3,h4⟩
  ·rw[if_pos h1];generalize Ex.col (.mk k c v ks)=cc at *
   have hlt:cc.toNat<st.length:=by omega
   rw[zX hlt];exact hs _ (xE hlt)
  ·rw[if_neg (by omega),if_pos h1];exact ASL _
  ·have hx:=ih x (by simp only[Ex.kids]at h2;simp[h2]) h3;obtain⟨n,hn⟩:=yQ (show 0≤JE st x by have:=hx.1;omega);have ht:=AJB ⟨n,by have:=hx.2;omega⟩ (by have:=hx.1;simp;omega);rw[if_neg (by omega),if_neg (by omega),h2];simp only[List.getElem?_cons_zero,xA,yC,hn]
   rcases h1 with h1|h1
   ·rw[if_pos h1];exact ht.1
   ·rw[if_neg (by omega),if_pos h1];exact ht.2
  ·have hx:=ih x (by simp only[Ex.kids]at h2;simp[h2]) h3;have hy:=ih y (by simp only[Ex.kids]at h2;simp[h2]) h4;rw[if_neg (by omega),if_neg (by omega),if_neg (by omega),if_neg (by omega),h2];exact AQ2 hx hy
end Go.Av
namespace Go.Proofs.YtjdfjgmebalaaaaGreat.P
open Go Go.Av
set_option maxRecDepth 4000
set_option maxHeartbeats 8000000
theorem seven {a:Int} (h:okS a):a=1∨a=2∨a=3∨a=4∨a=5∨a=6∨a=7:=by have:=h.1;have:=h.2;omega
theorem AFM {k a b:Int} (hk:3≤k) (ha:okS a) (hb:okS b):aI C0 197 [.int k, .int a, .int b] []=some (.int (mI k a b),[]):=by
 by_cases h:k=8∨k=9
 ·exact CF h ha hb
 ·obtain⟨m,rfl⟩:=yQ (show 0≤a by have:=ha.1;omega);obtain⟨n,rfl⟩:=yQ (show 0≤b by have:=hb.1;omega);exact wV ⟨hk,by omega,by omega⟩ (by have:=ha.2;omega) (by have:=hb.2;omega)
theorem T9 {W:Int} (st:List Int) (hl:(st.length:Int)=W) (hs:∀ a∈st,okS a):∀ e:Ex,e.wf W=true→aI C0 178 [.i (.iref e.cells), .i (.isl (aF st))] []=some (.int (JE st e),[]):=by
 intro e
 induction e using Ex.ind with
 | h k c v ks ih =>
  intro hw;have hall:=OL st hl hs;rw[aD rfl Tryz.func178 rfl rfl,Ex.aA,VC]
  rcases Ex.AL hw with ⟨h1,h2,h3,h4⟩|⟨h1,h2⟩|⟨h1,x,h2,h3⟩|⟨h1,x,y,h2,h3,h4⟩
  ·generalize Ex.mk k c v ks=e at *
   have hlt:e.col.toNat<st.length:=by omega
   have h5:=zX hlt;generalize st[e.col.toNat]=s at h5;have r2:=bJ h5;obtain⟨_,h6⟩:=zZ.1 h5;simp[h1,h2,r2,h6,show e.col<st.length by omega]
  ·generalize Ex.mk k c v ks=e at *
   have hst:=lN e.val.null e.val.n;simp[h1,hst]
  ·have hx:=ih x (by simp only[Ex.kids]at h2;simp[h2]) h3;have ho:=hall x h3;generalize Ex.mk k c v ks=e at *
   generalize hso:JE st x=s at hx ho;rw[Ex.aA]at hx
   rcases h1 with h1|h1
   ·rcases seven ho with rfl|rfl|rfl|rfl|rfl|rfl|rfl<;>(simp[h1,h2,Ex.aB,Ex.aA x,hx,hso];try decide)
   ·rcases seven ho with rfl|rfl|rfl|rfl|rfl|rfl|rfl<;>(simp[h1,h2,Ex.aB,Ex.aA x,hx,hso];try decide)
  ·have hx:=ih x (by simp only[Ex.kids]at h2;simp[h2]) h3;have hy:=ih y (by simp only[Ex.kids]at h2;simp[h2]) h4;have ho:=hall x h3;have hp:=hall y h4;generalize Ex.mk k c v ks=e at *
   have hc:=AFM (k:=e.kind) h1.1 ho hp;generalize hso:JE st x=s at hx ho hc;generalize hto:JE st y=t at hy hp hc;rw[Ex.aA]at hx hy;have q1:¬ e.kind=1:=by omega
   have q2:¬ e.kind=2:=by omega
   have q3:¬ e.kind=10:=by omega
   have q4:¬ e.kind=11:=by omega
   simp[q1,q2,q3,q4,h2,Ex.aB,Ex.aA x,Ex.aA y,hx,hy,hc,hso,hto]
end Go.Proofs.YtjdfjgmebalaaaaGreat.P
namespace Go.Av
theorem AFL (n:Nat) (x:Int):aF (List.replicate n x)=List.replicate n [.int x]:=by
 induction n with
 | zero=>rfl
 | succ n ih=>simp[xS,aF,ih]
def st1 (n i:Nat):List Int:=List.replicate i 7++List.replicate (n-i) 0
def st2 (p m i:Nat):List Int:=List.replicate p 7++(List.replicate i 4++List.replicate (m-i) 7)
theorem AE1 {a b:Int} {n i:Nat} (h:i<n):(List.replicate i a++List.replicate (n-i) b)[i]?=some b:=by
 rw[zK (by simp)];have:0<n-i:=by omega
 simp[List.getElem?_replicate,this]
theorem AE0 {a b:Int} {n i:Nat} (h:i<n):(List.replicate i a++List.replicate (n-i) b).set i a=List.replicate (i+1) a++List.replicate (n-(i+1)) b:=by
 rw[zA0 _ _ (by simp)];rw[show n-i=(n-(i+1))+1 by omega,xS,List.replicate_succ'];simp
theorem ANN {n i:Nat} (h:i<n):(st1 n i)[i]?=some 0:=AE1 h
theorem ANM {n i:Nat} (h:i<n):(st1 n i).set i 7=st1 n (i+1):=AE0 h
theorem ANK {p m i:Nat} (h:i<m):(st2 p m i)[p+i]?=some 7:=by
 unfold st2;rw[zK (by simp)];simpa using AE1 (a:=4) (b:=7) h
theorem ANJ {p m i:Nat} (h:i<m):(st2 p m i).set (p+i) 4=st2 p m (i+1):=by
 unfold st2;rw[zA0 _ _ (by simp)];simp only[zB9,yA];rw[AE0 h]
theorem ANO {p m:Nat}:st1 (p+m) (p+m)=st2 p m 0:=by
 simp[st1,st2,List.replicate_append_replicate]
theorem ANL (p m:Nat):st2 p m m=kV ((p+m:Nat):Int) p:=by
 unfold st2 kV;apply List.ext_getElem?;intro i;simp only[zD5,List.replicate_zero,yY,Int.toNat_natCast,zB8];by_cases h:i<p
 ·rw[zM (by simpa using h)];simp[h,show i<p+m by omega]
 ·rw[zK (by simp;omega)];by_cases h2:i<p+m
  ·simp[h2,show i-p<m by omega,show p≤i by omega]
  ·simp[h2,show ¬ i-p<m by omega]
@[simp] theorem AA2 {p m i:Nat} (h:i≤m):(st2 p m i).length=p+m:=by simp[st2];omega
def lQ (p m:Nat):List Int:=(List.range m).map fun(i:Nat)=>((p+i:Nat):Int)
@[simp] theorem AMP (p m:Nat):(lQ p m).length=m:=by simp[lQ]
theorem TP {p m i:Nat} (h:i<m):(lQ p m)[i]?=some ((p+i:Nat):Int):=by simp[lQ,h]
theorem NP (p m:Nat):lQ p (m+1)=lQ p m++[((p+m:Nat):Int)]:=by simp[lQ,zB6]
theorem GZ (W left:Int):∀ a∈kV W left,okS a:=by
 intro a ha;unfold kV at ha;obtain⟨i,-,rfl⟩:=yH.1 ha;unfold okS;split<;>omega
theorem o9 (W left:Int):(kV W left).length=W.toNat:=by simp[kV]
theorem AN5:∀ a:Fin 8,(a.val &&& 2=0∧jT a.val 2=false)∨(a.val &&& 2=2∧jT a.val 2=true):=by decide
end Go.Av
namespace Go.Proofs.YtjdfjgmebalaaaaGreat.P
open Go Go.Av
set_option maxRecDepth 4000
set_option maxHeartbeats 8000000
def RJ1 (e:Ex) (l:List Int) (n:Nat) (i:Nat):AS :=
 { env:=[(0, .i (.agg [.int e.kind, .int e.col, .bool e.val.null, .int e.val.n, .isl (Ex.aB e.kids)])),(1, .int n),(2, .i (.isl (aF l))),(3, .own 0 0),(6, .bool false),(7, .osl 1 1 0 n),(8,jk i (.int (i-1))),(10, .junk),(14, .bool false),(18, .int n),(19, .int i),(20,jk i (.bool true)),(26, .junk),(27, .junk),(28, .junk),(29, .junk),(38, .junk)],
   st:=[some (.box [.int e.kind, .int e.col, .bool e.val.null, .int e.val.n, .i (.isl (Ex.aB e.kids))]),some (.arr 1 (aF (st1 n i)))] }
def RJ2 (e:Ex) (n p m:Nat) (i:Nat):AS :=
 { env:=[(0, .i (.agg [.int e.kind, .int e.col, .bool e.val.null, .int e.val.n, .isl (Ex.aB e.kids)])),(1, .int n),(2, .i (.isl (aF (lQ p m)))),(3, .own 0 0),(6, .bool false),(7, .osl 1 1 0 n),(8, .int (n-1)),(10,jk i (.int ((p:Int)+i-1))),(14, .bool false),(18, .int n),(19, .int n),(20, .bool false),(26, .i (.isl (aF (lQ p m)))),(27, .int m),(28, .int i),(29,jk i (.bool true)),(38,jk i (.bool true))],
   st:=[some (.box [.int e.kind, .int e.col, .bool e.val.null, .int e.val.n, .i (.isl (Ex.aB e.kids))]),some (.arr 1 (aF (st2 p m i)))] }
theorem VL (e:Ex) {n p m:Nat} (hn:n=p+m) (h:e.ok n=true):aI C0 157 [.i (.agg e.cells), .int n, .i (.isl (aF (lQ p m)))] []=some (.bool (AE7 e n p),[]):=by
 have hok:=ok_eq n e;rw[h]at hok;obtain⟨hw,g1,g2⟩:=Ex.GJ h;have hlen:((kV n p).length:Int)=(n:Int):=by rw[o9];omega
 have ho:=T9 (kV n p) hlen (GZ _ _) e hw;have hs:=OL (kV n p) hlen (GZ _ _) e hw;rw[aD rfl Tryz.func157 rfl rfl];unfold AE7;generalize JE (kV n p) e=s at ho hs;obtain⟨s,rfl⟩:=yQ (show 0≤s by have:=hs.1;omega);have hs8:s<8:=by have:=hs.2;omega
 have hall:=ANL p m;rw[← hn]at hall;rw[← hall]at ho;rw[Ex.aA]at *
 have hb:8*(n:Int)≤281474976710656:=by omega
 have hz:=AFL n 0;have hz1:st1 n 0=List.replicate n 0:=by simp[st1]
 have hs1:st1 n n=st2 p m 0:=by rw[hn];exact ANO
 have hl2:∀ i,i≤m→(st2 p m i).length=n:=fun i hi=>by rw[AA2 hi,hn]
 have hl3:(st2 p m m).take n=st2 p m m:=zY (by rw[hl2 m (zO m)];exact zO n);simp[hok,hb];rw[aV (RJ1 e (lQ p m) n) n (by simp[RJ1,hz1,hz])]
 ·rw[aH];simp[RJ1];rw[aV (RJ2 e n p m) m (by simp[RJ2,hs1,dG (show n≠0 by omega)])]
  ·rw[aH];have h2:=AN5 ⟨s,hs8⟩
   rcases h2 with ⟨h2,h3⟩|⟨h2,h3⟩
   ·simp at h2 h3;simp[RJ2,ho,FP hs8,h2,h3,hl2,hl3]
   ·simp at h2 h3;simp[RJ2,ho,FP hs8,h2,h3,hl2,hl3]
  ·intro i hi;have h3:=TP (p:=p) hi;have r2:=bJ h3;have r3:=bJ (ANK (p:=p) hi);have hset:=ANJ (p:=p) hi;have hin:((p:Int)+i)<n:=by omega
   have hl:=hl2 i (by omega);have hin2:p+i<n:=by omega
   have hin0:0≤(p:Int)+i:=by omega
   have w2:IntKind.i64.wrap ((i:Int)+1)=i+1:=wrO;simp[RJ2,hi,r2,r3,w2,JY,hset,hin,hin0,hl,show((p:Int)+i).toNat=p+i by omega];omega
 ·intro i hi;have r3:=bJ (ANN hi);have hset:=ANM hi;have w2:IntKind.i64.wrap ((i:Int)+1)=i+1:=wrO;simp[RJ1,hi,r3,w2,JY,hset]
end Go.Proofs.YtjdfjgmebalaaaaGreat.P
namespace Go.Av
theorem AEQ {n p i:Nat} (h:i<n):(kV n p)[i]?=some (if p≤i then 4 else 7):=by
 have:i<(kV (n:Int) p).length:=by rw[o9];simpa using h
 unfold kV;simp[h]
end Go.Av
namespace Go.Proofs.YtjdfjgmebalaaaaGreat.P
open Go Go.Av
set_option maxRecDepth 4000
set_option maxHeartbeats 8000000
def CLX (n p:Nat) (i:Nat):AS :=
 { env:=[(0, .int p),(1, .int n),(4, .nils),(5, .osl 0 1 0 i),(6, .int ((p:Int)+i)),(11,jk i (.bool true))],st:=[some (.arr 1 (aF (lQ p i)))] }
theorem PK {n p m:Nat} (hn:n=p+m) (hb:n<1000):aI C0 170 [.int p, .int n] []=some (.i (.isl (aF (lQ p m))),[]):=by
 rw[aD rfl Tryz.func170 rfl rfl];simp;rw[aV (CLX n p) m (by simp[CLX,lQ,aF])]
 ·rw[aH];have h1:¬ ((p:Int)+m<n):=by omega
  have h2:(lQ p m).take m=lQ p m:=zY (by simp);simp[CLX,h1,h2]
 ·intro i hi;have h1:((p:Int)+i<n):=by omega
  have w2:IntKind.i64.wrap ((p:Int)+i+1)=(p:Int)+(i+1):=by rw[wrO];omega
  have hl:(i+1)*8≤140737488355328:=by omega
  have h2:(lQ p i).take i=lQ p i:=zY (by simp);simp[CLX,h1,w2,hl,h2,NP,pO]
def nsS (p i k:Nat):Int:=if p≤i∧i<p+k then 4 else 7
def nsB (p m i:Nat):AV:=if m=0 then .junk else jk i (.bool (decide ((p:Int)+(m-1)=i-1)))
@[simp] theorem AUL (p m i:Nat):dI (nsB p m i)=[]:=by unfold nsB;split<;>simp
@[simp] theorem AX5 (r:Nat→Option Nat) (p m i:Nat):ren r (nsB p m i)=nsB p m i:=by unfold nsB;split<;>simp
def NSO (n p m:Nat) (i:Nat):AS :=
 { env:=[(0, .int n),(1, .i (.isl (aF (lQ p m)))),(4, .nils),(5, .osl 0 1 0 i),(6, .int i),(7,jk i (.int (nsS p (i-1) m))),(8,jk i (.int m)),(12,jk i (.bool true)),(18,jk i (.bool false)),(26,nsB p m i)],st:=[some (.arr 1 (aF ((kV n p).take i)))] }
def NSI (n p m:Nat) (i k:Nat):AS :=
 { env:=[(0, .int n),(1, .i (.isl (aF (lQ p m)))),(4, .nils),(5, .osl 0 1 0 i),(6, .int i),(7, .int (nsS p i k)),(8, .int k),(12, .bool true),(18,if k=0 then jk i (.bool false)else .bool true),(26,if k=0 then nsB p m i else .bool (decide ((p:Int)+(k-1)=i)))],st:=[some (.arr 1 (aF ((kV n p).take i)))] }
theorem OQ {n p m:Nat} (hn:n=p+m) (hb:n<1000):aI C0 191 [.int n, .i (.isl (aF (lQ p m)))] []=some (.i (.isl (aF (kV n p))),[]):=by
 rw[aD rfl Tryz.func191 rfl rfl];have hnl:(kV (n:Int) p).length=n:=by rw[o9];omega
 simp;rw[aV (NSO n p m) n (by simp[NSO,aF,nsB])]
 ·rw[aH];have h2:(kV (n:Int) p).take n=kV n p:=zY (by omega);simp[NSO,h2,hnl]
 ·intro i hi;have w2:IntKind.i64.wrap ((i:Int)+1)=i+1:=wrO;have h3:=AEQ (p:=p) hi;have htk:=aN h3;have hl:(i+1)*8≤140737488355328:=by omega
  have hsm:nsS p i m=if p≤i then 4 else 7:=by unfold nsS;by_cases h:p≤i<;>simp[h];omega
  have hlt:((kV (n:Int) p).take i).length=i:=by simp[hnl];omega
  have htt:((kV (n:Int) p).take i).take i=(kV (n:Int) p).take i:=zY (by omega);simp only[← hsm]at htk;simp[NSO,hi];rw[aV (NSI n p m i) m (by simp[NSI,nsS];try omega)]
  ·rw[aH];by_cases hm:m=0
   ·subst hm;simp[NSI,NSO,w2,hl,htk,pO,hlt,htt,nsB]
   ·by_cases h0:i=0
    ·subst h0;simp[NSI,NSO,hl,htk,pO,nsB,hm,aF]
    ·simp[NSI,NSO,w2,hl,htk,pO,hlt,htt,nsB,hm]
  ·intro k hk;have h5:=TP (p:=p) hk;have r2:=bJ h5;have w3:IntKind.i64.wrap ((k:Int)+1)=k+1:=wrO;have e1:∀ x:AV,(if(k+1=0)then x else(AV.bool (decide ((p:Int)+((k+1:Nat)-1)=i))))=AV.bool (decide ((p:Int)+k=i)):=by intro x;simp
   by_cases he:(p:Int)+k=i
   ·have hs:nsS p i (k+1)=4:=by unfold nsS;rw[if_pos (by omega)]
    by_cases k0:k=0
    ·subst k0;simp at he;simp[NSI,hk,r2,hs,he]
    ·simp[NSI,hk,r2,w3,hs,he,k0]
   ·have hs:nsS p i (k+1)=nsS p i k:=by
     unfold nsS;by_cases hp:p≤i∧i<p+k
     ·rw[if_pos hp,if_pos (by omega)]
     ·rw[if_neg hp,if_neg (by omega)]
    by_cases k0:k=0
    ·subst k0;simp at he;simp[NSI,hk,r2,hs,he]
    ·simp[NSI,hk,r2,w3,hs,he,k0]
end Go.Proofs.YtjdfjgmebalaaaaGreat.P
namespace Go.Av
def DF (x:Int):Val:=⟨decide (x=4),if x=2 then 1 else 0⟩
def tsI (k a b x s:Int) (j:Nat):Int:=(([1,2,4]:List Int).take j).foldl (fun s y=>if(jT a x && jT b y)=true then orS s (stV (Val.cmb k (DF x) (DF y)))else s) s
def tsO (k a b:Int) (i:Nat):Int:=(([1,2,4]:List Int).take i).foldl (fun s x=>tsI k a b x s 3) 0
theorem AD6 {k a b x s:Int} (hs:ACE s) (j:Nat):ACE (tsI k a b x s j):=by
 unfold tsI;generalize (([1,2,4]:List Int).take j)=l
 induction l generalizing s with
 | nil=>simpa using hs
 | cons y l ih =>
  simp only[List.foldl_cons];apply ih;split
  ·exact AEK hs (IQ _)
  ·exact hs
theorem AN8 {k a b:Int} (i:Nat):ACE (tsO k a b i):=by
 unfold tsO
 have:∀ (l:List Int) (s:Int),ACE s→ACE (l.foldl (fun s x=>tsI k a b x s 3) s):=by
  intro l
  induction l with
  | nil=>intro s hs;simpa using hs
  | cons y l ih=>intro s hs;exact ih _ (AD6 hs 3)
 exact this _ _ ⟨0,rfl,by omega⟩
theorem AS6:∀ a b:Fin 8,tsO 8 a.val b.val 3=mI 8 a.val b.val∧tsO 9 a.val b.val 3=mI 9 a.val b.val:=by decide
end Go.Av
namespace Go.Proofs.YtjdfjgmebalaaaaGreat.P
open Go Go.Av
set_option maxRecDepth 4000
set_option maxHeartbeats 8000000
theorem ADG (b:Bool) (n:Int):aI C0 165 [.i (.agg [.bool b, .int n])] []=some (.int (if b=true then 2 else if n=0 then 0 else 1),[]):=by
 rw[aD rfl Tryz.func165 rfl rfl]
 cases b
 ·by_cases h:n=0<;>simp[h]
 ·simp
theorem ANV (t:Int) (h:0≤t∧t≤2):aI C0 218 [.int t] []=some (.int (if t=2 then 2 else 1-t),[]):=by
 rw[aD rfl Tryz.func218 rfl rfl];have:t=0∨t=1∨t=2:=by omega
 rcases this with rfl|rfl|rfl<;>simp
theorem AO0 (s t:Int):aI C0 217 [.int s, .int t] []=some (.int (if s=0∨t=0 then 0 else if s=1∧t=1 then 1 else 2),[]):=by
 rw[aD rfl Tryz.func217 rfl rfl];by_cases h1:s=0
 ·simp[h1]
 ·by_cases h2:t=0
  ·simp[h1,h2]
  ·by_cases h3:s=1
   ·by_cases h4:t=1
    ·simp[h3,h4]
    ·simp[h3,h4,h2]
   ·simp[h1,h2,h3]
theorem AT1 (t:Int):aI C0 216 [.int t] []=some (.i (.agg [.bool (decide (t=2)), .int (if t=2 then 0 else t)]),[]):=by
 rw[aD rfl Tryz.func216 rfl rfl];by_cases h:t=2
 ·subst h;simp
 ·simp[h]
theorem AIQ {k x y:Int} (hk:k=8∨k=9) (hx:x=1∨x=2∨x=4) (hy:y=1∨y=2∨y=4):aI C0 209 [.int k, .i (.agg [.bool (DF x).null, .int (DF x).n]), .i (.agg [.bool (DF y).null, .int (DF y).n])] []=some (.i (.agg [.bool (Val.cmb k (DF x) (DF y)).null, .int (Val.cmb k (DF x) (DF y)).n]),[]):=by
 rw[aD rfl Tryz.func209 rfl rfl]
 rcases hk with rfl|rfl<;>rcases hx with rfl|rfl|rfl<;>rcases hy with rfl|rfl|rfl<;>(simp[DF,ADG,ANV,AO0,AT1];try decide)
def pw (i:Nat):Int:=if i=0 then 1 else if i=1 then 2 else if i=2 then 4 else 8
def TSO (k:Int) (a b:Nat) (i:Nat):AS :=
 { env:=[(0, .int k),(1, .int a),(2, .int b),(6, .int 0),(7, .int (tsO k a b i)),(8, .int (pw i)),(9,jk i (.int 8)),(11,jk i (.bool true)),(15,jk i (.bool false)),(29,jk i (.bool (jT a (pw (i-1)) && jT b 4)))],st:=[] }
def TSI (k:Int) (a b:Nat) (i:Nat) (j:Nat):AS :=
 { env:=[(0, .int k),(1, .int a),(2, .int b),(6, .int 0),(7, .int (tsI k a b (pw i) (tsO k a b i) j)),(8, .int (pw i)),(9, .int (pw j)),(11, .bool true),(15,jk (i+j) (.bool (decide (j≠0)))),(29,jk (i+j) (.bool (if j=0 then jT a (pw (i-1)) && jT b 4 else jT a (pw i) && jT b (pw (j-1)))))],st:=[] }
theorem AFT {a:Nat} (ha:a<8) {x:Int} (hx:0<x) (hx8:x<8):IntKind.i64.wrap ((a:Int) / x)=(a:Int) / x∧(jT a x=decide (((a:Int) / x).tmod 2=1)):=by
 have h2:0≤(a:Int) / x:=Int.ediv_nonneg (by omega) (by omega);have h3:(a:Int) / x≤a:=Int.ediv_le_self _ (by omega);refine⟨wrO,?_⟩;unfold jT;rw[Int.tmod_eq_emod_of_nonneg h2]
theorem AD0 (x:Int):aI C0 210 [.int x] []=some (.i (.agg [.bool (DF x).null, .int (DF x).n]),[]):=ZN x
theorem AIB {k a b x s:Int} {j:Nat} {y:Int} (h:(([1,2,4]:List Int))[j]?=some y):tsI k a b x s (j+1)=if(jT a x && jT b y)=true then orS (tsI k a b x s j) (stV (Val.cmb k (DF x) (DF y)))else tsI k a b x s j:=by
 unfold tsI;rw[aN h,zC7];rfl
theorem AIA {k a b:Int} {i:Nat} {x:Int} (h:(([1,2,4]:List Int))[i]?=some x):tsO k a b (i+1)=tsI k a b x (tsO k a b i) 3:=by
 unfold tsO;rw[aN h,zC7];rfl
theorem XP (i:Nat) (hi:i<3):(pw i=1∨pw i=2∨pw i=4)∧IntKind.i64.wrap (2*pw i)=pw (i+1)∧(([1,2,4]:List Int))[i]?=some (pw i):=by
 have h:i=0∨i=1∨i=2:=by omega
 rcases h with rfl|rfl|rfl<;>decide
theorem AY {k:Int} (hk:k=8∨k=9) {a b:Nat} (ha:a<8) (hb:b<8):aI C0 204 [.int k, .int a, .int b] []=some (.int (tsO k a b 3),[]):=by
 have p0:pw 0=1:=rfl;have p2:pw 2=4:=rfl;have p3:pw 3=8:=rfl;rw[aD rfl Tryz.func204 rfl rfl];simp;rw[aV (TSO k a b) 3 (by simp[TSO,tsO,p0])]
 ·rw[aH];simp[TSO,p3]
 ·intro i hi;obtain⟨x1,x2,x3⟩:=XP i hi;have hsc:=AIA (k:=k) (a:=a) (b:=b) x3;have hlo:=AN8 (k:=k) (a:=a) (b:=b) i;have xl:pw i≤4:=by omega
  have xz:(pw i != 0)=true:=by simp;omega
  obtain⟨ax,bx⟩:=AFT ha (x:=pw i) (by omega) (by omega);simp[TSO,xl];rw[aV (TSI k a b i) 3 (by simp[TSI,tsI,p0])]
  ·rw[aH];simp[TSI,TSO,p2,p3,hsc,x2]
  ·intro j hj;obtain⟨y1,y2,y3⟩:=XP j hj;have yl:pw j≤4:=by omega
   have yz:(pw j != 0)=true:=by simp;omega
   have hs:=AIB (k:=k) (a:=a) (b:=b) (x:=pw i) (s:=tsO k a b i) y3;obtain⟨m,m1,m2⟩:=AD6 (k:=k) (a:=a) (b:=b) (x:=pw i) hlo j;obtain⟨n,n1,n2⟩:=IQ (Val.cmb k (DF (pw i)) (DF (pw j)));have hcm:=AIQ hk x1 y1;have hst:=R4 (Val.cmb k (DF (pw i)) (DF (pw j))).null (Val.cmb k (DF (pw i)) (DF (pw j))).n;rw[show stV ⟨(Val.cmb k (DF (pw i)) (DF (pw j))).null,(Val.cmb k (DF (pw i)) (DF (pw j))).n⟩=stV (Val.cmb k (DF (pw i)) (DF (pw j)))from rfl,n1]at hst;rw[m1,n1,OM]at hs;obtain⟨cx,dx⟩:=AFT hb (x:=pw j) (by omega) (by omega);have hjk:=dG (show i+(j+1)≠0 by omega);by_cases p:jT a (pw i)=true
   ·have p':=p;rw[bx,zN]at p';by_cases q:jT b (pw j)=true
    ·have q':=q;rw[dx,zN]at q';rw[p,q]at hs;simp only[Bool.and_self,if_true]at hs;simp[TSI,yl,xz,yz,y2,hjk,ax,cx,p',q',p,q,AD0,hcm,hst,m1,FP m2,FP n2,or8 m2 n2,hs]
    ·have q2:jT b (pw j)=false:=by simpa using q
     have q':=q;rw[dx,zN]at q';rw[p,q2]at hs;simp only[Bool.and_false,yM,if_false]at hs;simp[TSI,yl,xz,yz,y2,hjk,ax,cx,p',q',p,q2,m1,hs]
   ·have p2':jT a (pw i)=false:=by simpa using p
    have p':=p;rw[bx,zN]at p';rw[p2']at hs;simp only[Bool.false_and,yM,if_false]at hs;simp[TSI,yl,xz,yz,y2,hjk,ax,p',p2',m1,hs]
theorem AII {k a b:Int} (hk:k=8∨k=9) (ha:okS a) (hb:okS b):aI C0 204 [.int k, .int a, .int b] []=some (.int (mI k a b),[]):=by
 obtain⟨m,rfl⟩:=yQ (show 0≤a by have:=ha.1;omega);obtain⟨n,rfl⟩:=yQ (show 0≤b by have:=hb.1;omega);have hm:m<8:=by have:=ha.2;omega
 have hn:n<8:=by have:=hb.2;omega
 have ht:=AS6 ⟨m,hm⟩ ⟨n,hn⟩
 rcases hk with rfl|rfl
 ·rw[AY (.inl rfl) hm hn];simp only at ht;rw[ht.1]
 ·rw[AY (.inr rfl) hm hn];simp only at ht;rw[ht.2]
theorem AJM:∀ m:Fin 8,(m.val &&& 3=0∧(jT m.val 1 || jT m.val 2)=false)∨((m.val &&& 3=1∨m.val &&& 3=2∨m.val &&& 3=3)∧(jT m.val 1 || jT m.val 2)=true):=by decide
theorem AZ6 {m:Nat} (hm:m<8):∃ v:Nat,m &&& 3=v∧IntKind.i64.wrap (v:Int)=v∧((v=0∧(jT m 1 || jT m 2)=false)∨(¬ v=0∧(jT m 1 || jT m 2)=true)):=by
 rcases AJM ⟨m,hm⟩with ⟨h,q⟩|⟨h|h|h,q⟩
 ·exact⟨0,h,by decide, .inl ⟨rfl,q⟩⟩
 ·exact⟨1,h,by decide, .inr ⟨by omega,q⟩⟩
 ·exact⟨2,h,by decide, .inr ⟨by omega,q⟩⟩
 ·exact⟨3,h,by decide, .inr ⟨by omega,q⟩⟩
theorem R6 {W:Int} (st:List Int) (hl:(st.length:Int)=W) (hs:∀ a∈st,okS a):∀ e:Ex,e.wf W=true→aI C0 190 [.i (.agg e.cells), .i (.isl (aF st))] []=some (.int (JE st e),[]):=by
 intro e
 induction e using Ex.ind with
 | h k c v ks ih =>
  intro hw;have hall:=OL st hl hs;rw[aD rfl Tryz.func190 rfl rfl,Ex.aA,VC]
  rcases Ex.AL hw with ⟨h1,h2,h3,h4⟩|⟨h1,h2⟩|⟨h1,x,h2,h3⟩|⟨h1,x,y,h2,h3,h4⟩
  ·generalize Ex.mk k c v ks=e at *
   have hlt:e.col.toNat<st.length:=by omega
   have h5:=zX hlt;generalize st[e.col.toNat]=s at h5;have r2:=bJ h5;obtain⟨_,h6⟩:=zZ.1 h5;simp[h1,h2,r2,h6,show e.col<st.length by omega]
  ·generalize Ex.mk k c v ks=e at *
   have hst:=R4 e.val.null e.val.n;simp[h1,hst]
  ·have hx:=ih x (by simp only[Ex.kids]at h2;simp[h2]) h3;have ho:=hall x h3;generalize Ex.mk k c v ks=e at *
   generalize hso:JE st x=s at hx ho;rw[Ex.aA]at hx
   rcases h1 with h1|h1
   ·rcases seven ho with rfl|rfl|rfl|rfl|rfl|rfl|rfl<;>(simp[h1,h2,Ex.aB,Ex.aA x,hx,hso];try decide)
   ·rcases seven ho with rfl|rfl|rfl|rfl|rfl|rfl|rfl<;>(simp[h1,h2,Ex.aB,Ex.aA x,hx,hso];try decide)
  ·have hx:=ih x (by simp only[Ex.kids]at h2;simp[h2]) h3;have hy:=ih y (by simp only[Ex.kids]at h2;simp[h2]) h4;have ho:=hall x h3;have hp:=hall y h4;generalize Ex.mk k c v ks=e at *
   generalize hso:JE st x=s at hx ho;generalize hto:JE st y=t at hy hp;rw[Ex.aA]at hx hy;have q1:¬ e.kind=1:=by omega
   have q2:¬ e.kind=2:=by omega
   have q3:¬ e.kind=10:=by omega
   have q4:¬ e.kind=11:=by omega
   by_cases hk:e.kind=8∨e.kind=9
   ·have hc:=AII (k:=e.kind) hk ho hp
    rcases hk with hk|hk<;>(rw[hk]at hc;simp[hk,h2,Ex.aB,Ex.aA x,Ex.aA y,hx,hy,hc,hso,hto])
   ·have q5:¬ e.kind=8:=by omega
    have q6:¬ e.kind=9:=by omega
    have hcs:mI e.kind s t=orS (if jT (orS s t) 4=true then 4 else 0) (if(jT s 1 || jT s 2)=true∧(jT t 1 || jT t 2)=true then(if e.kind<6 then 7 else 3)else 0):=if_neg hk;obtain⟨m,rfl⟩:=yQ (show 0≤s by have:=ho.1;omega);obtain⟨n,rfl⟩:=yQ (show 0≤t by have:=hp.1;omega);have hm:m<8:=by have:=ho.2;omega
    have hn:n<8:=by have:=hp.2;omega
    have h1:=FP hm;have h2':=FP hn;have h3':=or8 hm hn;have h4':(m ||| n) % 18446744073709551616=m ||| n:=FP (zA3 (n:=3) hm hn)
    obtain⟨x',x1,x2,x3⟩:=AZ6 hm;obtain⟨y',y1,y2,y3⟩:=AZ6 hn;have e7:orS 0 7=7:=by decide
    have e3:orS 0 3=3:=by decide
    have e47:orS 4 7=7:=by decide
    have e43:orS 4 3=7:=by decide
    have e40:orS 4 0=4:=by decide
    have e00:orS 0 0=0:=by decide
    rcases JF hm hn with ⟨p,q⟩|⟨p,q⟩<;>rcases x3 with ⟨x3,x4⟩|⟨x3,x4⟩<;>rcases y3 with ⟨y3,y4⟩|⟨y3,y4⟩<;>by_cases q7:e.kind<6 <;>
     simp[q1,q2,q3,q4,q5,q6,q7,h2,Ex.aB,Ex.aA x,Ex.aA y,hx,hy,hso,hto,hcs,h1,h2',h3',h4',p,q,x1,x2,x3,x4,y1,y2,y3,y4,e7,e3,e47,e43,e40,e00]
theorem UZ (e:Ex) {n p m:Nat} (hn:n=p+m) (hb:n<1000) (h:e.wf n=true):aI C0 169 [.i (.agg e.cells), .int n, .i (.isl (aF (lQ p m)))] []=some (.bool (AE7 e n p),[]):=by
 have hlen:((kV n p).length:Int)=(n:Int):=by rw[o9];omega
 have ho:=R6 (kV n p) hlen (GZ _ _) e h;have hs:=OL (kV n p) hlen (GZ _ _) e h;have hns:=OQ hn hb;rw[aD rfl Tryz.func169 rfl rfl];unfold AE7;generalize JE (kV n p) e=s at ho hs;rw[Ex.aA]at *
 rcases seven hs with rfl|rfl|rfl|rfl|rfl|rfl|rfl<;>(simp[hns,ho];try decide)
set_option maxHeartbeats 4000000
def jE (g:FuncId) (ws:List Int) (r:Int) (p:Pn):Prop:=∃ (q:Pn) (b:Bool),aI C0 g [.i (.iref p.cells), .i (.isl (aF ws))] []=some (.tup [.i (.agg q.cells), .bool b],[])∧(b=true→rwP ws r p=some q)∧(b=false→∀ q',rwP ws r p=some q'→∀ lv,q'.wd ws lv=0)
@[simp] theorem AUP (e:Ex) (k:Pn):(filt e k).kind=2:=rfl
@[simp] theorem ATN (es:List Ex) (k:Pn):(proj es k).kind=3:=rfl
@[simp] theorem ATW (kd:Int) (e:Ex) (a b:Pn):(bB kd e a b).kind=kd:=rfl
@[simp] theorem AQO (a b:Pn):(dA a b).kind=6:=rfl
theorem eZ (ws:List Int) (r:Int) (e:Ex) (k:Pn):rwP ws r (filt e k)=rwF ws r e k:=by simp[rwP,filt,Pn.ex0,Pn.iZ,Pn.kind,Pn.exprs,Pn.kids]
theorem jE.no {g:FuncId} {ws:List Int} {r:Int} {p:Pn} (h:aI C0 g [.i (.iref p.cells), .i (.isl (aF ws))] []=some (.tup [.i (.agg Pn.zero.cells), .bool false],[])) (hr:rwP ws r p=none):jE g ws r p:=⟨.zero,false,h,by simp,by simp[hr]⟩
theorem jE.yes {g:FuncId} {ws:List Int} {r:Int} {p q:Pn} (h:aI C0 g [.i (.iref p.cells), .i (.isl (aF ws))] []=some (.tup [.i (.agg q.cells), .bool true],[])) (hr:rwP ws r p=some q):jE g ws r p:=⟨q,true,h,fun _=>hr,by simp⟩
theorem AX3 {ws:List Int} {p:Pn} {W:Int} (hp:Wd ws p W):jE 110 ws 1 p:=by
 by_cases hk:p.kind=2
 ·obtain⟨e,a,rfl⟩:=qA hp hk;by_cases hk2:a.kind=2
  ·obtain⟨e2,a2,rfl⟩:=qA (iP hp).1 hk2;refine .yes (q:=filt (Z8 e2 e) a2) ?_ (by rw[eZ];simp[rwF,filt,Pn.ex0,Pn.iZ,Pn.kind,Pn.exprs,Pn.kids]);have h1:=fE (e:=e) (k:=filt e2 a2) (kd:=2) rfl;have h2:=AGH e2 e;have h3:=eH (Z8 e2 e) a2;rw[aD rfl Tryz.func110 rfl rfl];simp only[aT,pX,Ex.aA e,Ex.aA e2,Pn.aA a2]at h1 h2 h3 ⊢;simp[h1,h2,h3]
  ·refine .no ?_ (by rw[eZ];simp[rwF,hk2]);have h1:=dR (e:=e) (k:=a) (kd:=2) hk2;rw[aD rfl Tryz.func110 rfl rfl];simp only[aT,aU]at h1 ⊢;simp[h1]
 ·refine .no ?_ (by simp[rwP,hk]);have h1:=fC (p:=p) (kd:=2) hk;rw[aD rfl Tryz.func110 rfl rfl];simp only[aU,Pn.aA p]at h1 ⊢;simp[h1]
theorem AWZ {ws:List Int} {p:Pn} {W:Int} (hp:Wd ws p W):jE 114 ws 5 p:=by
 by_cases hk:p.kind=2
 ·obtain⟨e,a,rfl⟩:=qA hp hk;by_cases hk2:a.kind=4
  ·obtain⟨e2,x,y,hx⟩:=jI (iP hp).1 (.inl hk2);rw[hk2]at hx;subst hx;refine .yes (q:=bB 4 (Z8 e2 e) x y) ?_ (by rw[eZ];simp[rwF,bB,Pn.ex0,Pn.iZ,Pn.pM,Pn.kind,Pn.exprs,Pn.kids]);have h1:=fE (e:=e) (k:=bB 4 e2 x y) (kd:=4) rfl;have h2:=AGH e2 e;have h3:=nI 4 (Z8 e2 e) x y;rw[aD rfl Tryz.func114 rfl rfl];simp only[aT,pair_cells,pX,Ex.aA e,Ex.aA e2,Pn.aA x,Pn.aA y]at h1 h2 h3 ⊢;simp[h1,h2,h3]
  ·refine .no ?_ (by rw[eZ];simp[rwF,hk2]);have h1:=dR (e:=e) (k:=a) (kd:=4) hk2;rw[aD rfl Tryz.func114 rfl rfl];simp only[aT,aU]at h1 ⊢;simp[h1]
 ·refine .no ?_ (by simp[rwP,hk]);have h1:=fC (p:=p) (kd:=4) hk;rw[aD rfl Tryz.func114 rfl rfl];simp only[aU,Pn.aA p]at h1 ⊢;simp[h1]
theorem AWW {ws:List Int} {p:Pn} {W:Int} (hp:Wd ws p W):jE 117 ws 8 p:=by
 by_cases hk:p.kind=2
 ·obtain⟨e,a,rfl⟩:=qA hp hk;by_cases hk2:a.kind=6
  ·obtain⟨x,y,rfl⟩:=AH4 (iP hp).1 hk2;refine .yes (q:=dA (filt e x) (filt e y)) ?_ (by rw[eZ];simp[rwF,dA,Pn.ex0,Pn.iZ,Pn.pM,Pn.kind,Pn.exprs,Pn.kids]);have h1:=fE (e:=e) (k:=dA x y) (kd:=6) rfl;have h2:=eH e x;have h3:=eH e y;rw[aD rfl Tryz.func117 rfl rfl];simp only[aT,IJ,Ex.aA e,Pn.aA x,Pn.aA y]at h1 h2 h3 ⊢;simp[h1,h2,h3]
  ·refine .no ?_ (by rw[eZ];simp[rwF,hk2]);have h1:=dR (e:=e) (k:=a) (kd:=6) hk2;rw[aD rfl Tryz.func117 rfl rfl];simp only[aT,aU]at h1 ⊢;simp[h1]
 ·refine .no ?_ (by simp[rwP,hk]);have h1:=fC (p:=p) (kd:=6) hk;rw[aD rfl Tryz.func117 rfl rfl];simp only[aU,Pn.aA p]at h1 ⊢;simp[h1]
theorem AWV {ws:List Int} {p:Pn} {W:Int} (hp:Wd ws p W):jE 118 ws 9 p:=by
 by_cases hk:p.kind=7
 ·obtain⟨a,rfl⟩:=AH5 hp hk;have hc:(Pn.mk 7 0 [] [] [a]).cells=[.int 7, .int 0, .isl [], .isl [], .isl [a.cells]]:=by simp[Pn.cells,Ex.aB,aF,Pn.aB]
  by_cases hk2:a.kind=7∨a.kind=8
  ·refine .yes (q:=a) ?_ (by simp[rwP,Pn.iZ,Pn.kids,hk2]);rw[aD rfl Tryz.func118 rfl rfl];simp only[hc,Pn.aA a]
   rcases hk2 with hk2|hk2<;>simp[hk2]
  ·refine .no ?_ (by simp[rwP,Pn.iZ,Pn.kids,hk2]);rw[aD rfl Tryz.func118 rfl rfl];simp only[hc,aU,Pn.aA a];have h7:¬ a.kind=7:=by omega
   have h8:¬ a.kind=8:=by omega
   simp[h7,h8]
 ·refine .no ?_ ?_
  ·rw[aD rfl Tryz.func118 rfl rfl];simp only[aU,Pn.aA p];simp[hk]
  ·unfold rwP;split
   ·unfold rwF;simp
   ·simp[hk]
theorem AX2 {ws:List Int} {p:Pn} {W:Int} (hp:Wd ws p W):jE 111 ws 2 p:=by
 by_cases hk:p.kind=2
 ·obtain⟨e,a,rfl⟩:=qA hp hk;by_cases hk2:e.kind=8
  ·have hw:=(Ex.GJ (iP hp).2).1
   obtain⟨x,y,hxy⟩:∃ x y,e.kids=[x,y]:=by
    rcases Ex.AL hw with ⟨h,_⟩|⟨h,_⟩|⟨h,_⟩|⟨_,x,y,h,_⟩
    ·omega
    ·omega
    ·omega
    ·exact⟨x,y,h⟩
   refine .yes (q:=filt y (filt x a)) ?_ (by rw[eZ];simp[rwF,hk2,Ex.iZ,Ex.pM,hxy]);have h2:=eH x a;have h3:=eH y (filt x a);rw[aD rfl Tryz.func111 rfl rfl];simp only[aT,Ex.aA e,hxy,Ex.aB,Ex.aA x,Ex.aA y,Pn.aA a]at h2 h3 ⊢;simp[hk2,h2,h3]
  ·refine .no ?_ (by rw[eZ];simp[rwF,hk2]);rw[aD rfl Tryz.func111 rfl rfl];simp only[aT,aU,Ex.aA e];simp[hk2]
 ·refine .no ?_ (by simp[rwP,hk]);rw[aD rfl Tryz.func111 rfl rfl];simp only[aU,Pn.aA p];simp[hk]
end Go.Proofs.YtjdfjgmebalaaaaGreat.P
namespace Go.Av
theorem vG {ws:List Int} {e:Ex} {a:Pn} (h:(filt e a).wd ws 8≠0):a.wd ws 8≠0∧e.ok (a.wd ws 8)=true∧(filt e a).wd ws 8=a.wd ws 8:=by
 have h1:=h;rw[I9]at h1;obtain⟨h2,h3⟩:=gI h1;have hm:=Pn.gP a 7 8 h3 (by omega);rw[hm];exact⟨h3,h2.2,by rw[I9,if_pos h2]⟩
theorem OJ {ws:List Int} {kd:Int} {e:Ex} {a b:Pn} (hk:kd=4∨kd=5) (h:(bB kd e a b).wd ws 8≠0):a.wd ws 8≠0∧b.wd ws 8≠0∧a.wd ws 8+b.wd ws 8≤6∧e.ok (a.wd ws 8+b.wd ws 8)=true∧(bB kd e a b).wd ws 8=a.wd ws 8+b.wd ws 8:=by
 have h1:=h;rw[I8 hk]at h1;obtain⟨h2,h3⟩:=gI h1;rw[Pn.gP a 7 8 h2.1 (by omega),Pn.gP b 7 8 h2.2.1 (by omega)];exact⟨h2.1,h2.2.1,h2.2.2.1,h2.2.2.2,by rw[I8 hk,if_pos h2]⟩
theorem AAF {ws:List Int} {es:List Ex} {a:Pn} (h:(proj es a).wd ws 8≠0):a.wd ws 8≠0∧bN es.length=true∧es.all (Ex.ok (a.wd ws 8))=true∧(proj es a).wd ws 8=es.length:=by
 have h1:=h;rw[D9]at h1;obtain⟨h2,h3⟩:=gI h1;rw[Pn.gP a 7 8 h2.1 (by omega)];exact⟨h2.1,h2.2.1,h2.2.2,by rw[D9,if_pos h2]⟩
theorem AKT {e:Ex} {n:Nat} (h:e.vH (fun c=>decide (0≤c))=true):(e.bits / 2 ^ n=0)=(e.cin 0 n=true):=by
 rw[eq_iff_iff,AQB h n];unfold Ex.cin;constructor
 ·intro h1;exact Ex.pY (by simp) e (Ex.ZA e h h1)
 ·intro h1;exact Ex.pY (fun c hc=>by simp at hc ⊢;exact hc.2) e h1
theorem AKS {e:Ex} {n W:Nat} (h:e.vH (fun c=>decide (0≤c∧c<(W:Int)))=true):(e.bits &&& (2 ^ n-1)=0)=(e.cin n W=true):=by
 have h0:e.vH (fun c=>decide (0≤c))=true:=Ex.pY (fun c hc=>by simp at hc ⊢;exact hc.1) e h;rw[eq_iff_iff,AQA h0 n];unfold Ex.cin;constructor
 ·intro h1;exact Ex.pY (fun c hc=>by simp at hc ⊢;omega) e (Ex.ZA e h h1)
 ·intro h1;exact Ex.pY (fun c hc=>by simp at hc ⊢;exact hc.1) e h1
end Go.Av
namespace Go.Proofs.YtjdfjgmebalaaaaGreat.P
open Go Go.Av
set_option maxRecDepth 4000
set_option maxHeartbeats 4000000
theorem ET {ws:List Int} (hw:lL ws=true) (p:Pn):aI C0 68 [.i (.agg p.cells), .i (.isl (aF ws))] []=some (.int (p.wd ws 8),[]):=by
 rw[jP];unfold Pn.width;rw[if_pos hw]
theorem AP {ws:List Int} (hw:lL ws=true) {p:Pn} (h:p.wd ws 8≠0):∃ n:Nat,p.wd ws 8=n∧1≤n∧n≤6:=by
 have:=Pn.uF (jQ hw) p 8;exact⟨(p.wd ws 8).toNat,by omega,by omega,by omega⟩
theorem AK8 (a b:Nat):Int.fdiv (a:Int) (b:Int)=((a / b:Nat):Int):=by
 rw[Int.fdiv_eq_ediv_of_nonneg _ (Int.natCast_nonneg b)];rfl
theorem AYZ {n:Nat} (hn:n≤6):(IntKind.i64.wrap (IntKind.i64.wrap (2 ^ min n IntKind.i64.bits)-1) % 18446744073709551616).toNat=2 ^ n-1:=by
 have:n=0∨n=1∨n=2∨n=3∨n=4∨n=5∨n=6:=by omega
 rcases this with rfl|rfl|rfl|rfl|rfl|rfl|rfl<;>decide
theorem AJ0 {ws:List Int} (hw:lL ws=true) {e e2:Ex} {x y:Pn} {kd:Int} (hkd:kd=4∨kd=5) (hp:(filt e (bB kd e2 x y)).wd ws 8≠0):jE 112 ws 3 (filt e (bB kd e2 x y)):=by
 obtain⟨h1,h2,h3⟩:=vG hp;obtain⟨g1,g2,g3,g4,g5⟩:=OJ hkd h1;rw[g5]at h2;obtain⟨n,hn,n1,n2⟩:=AP hw g1;have hwf:=Ex.AEL h2;have hcol:=Ex.X3 hwf;have hb:=Ex.PS e hcol;have c1:=NN e (by have:=Ex.fU h2;omega) hcol;have c2:=ET hw x;have c3:=eH e x;have c4:=nI kd e2 (filt e x) y;have q:=AKT (n:=n) (Ex.AHX hwf);rw[hn]at c2;have o1:aI C0 148 [.i (.iref (filt e (bB kd e2 x y)).cells), .int kd] []=_:=fE (e:=e) (k:=bB kd e2 x y) (kd:=kd) rfl;have o2:kd=5→aI C0 148 [.i (.iref (filt e (bB kd e2 x y)).cells), .int 4] []=_:=fun h=>dR (e:=e) (k:=bB kd e2 x y) (kd:=4) (by simp[h])
 have hsh:shI .shr .i64 (e.bits:Int) (n:Int)=some (.lit (.int .i64 ((e.bits / 2 ^ n:Nat):Int))):=by
  have h1:min (n:Int).toNat IntKind.i64.bits=n:=by simp[IntKind.bits];omega
  have h2:(0:Int)≤n:=by omega
  simp only[shI,h1,h2,decide_true,tst];rw[show(2:Int) ^ n=((2 ^ n:Nat):Int)by simp,AK8]
 have hr:rwP ws 3 (filt e (bB kd e2 x y))=if e.cin 0 n=true then some (bB kd e2 (filt e x) y)else none:=by
  rw[eZ];simp[rwF,bB,Pn.ex0,Pn.iZ,Pn.pM,Pn.kind,Pn.exprs,Pn.kids,hkd,hn]
 generalize hd:e.bits / 2 ^ n=d at *
 by_cases hc:e.cin 0 n=true
 ·rw[if_pos hc]at hr;have hd0:d=0:=by rw[q];exact hc
  subst hd0;refine .yes ?_ hr;rw[aD rfl Tryz.func112 rfl rfl]
  rcases hkd with rfl|rfl
  ·simp only[aT,pair_cells,Ex.aA e,Ex.aA e2,Pn.aA x,Pn.aA y]at o1 c1 c2 c3 c4 ⊢;simp[o1,c1,c2,c3,c4,hsh]
  ·have o2:=o2 rfl;simp only[aT,pair_cells,Ex.aA e,Ex.aA e2,Pn.aA x,Pn.aA y]at o1 o2 c1 c2 c3 c4 ⊢;simp[o1,o2,c1,c2,c3,c4,hsh]
 ·rw[if_neg hc]at hr;have hd0:¬ d=0:=by rw[q];exact hc
  refine .no ?_ hr;rw[aD rfl Tryz.func112 rfl rfl]
  rcases hkd with rfl|rfl
  ·simp only[aT,pair_cells,aU,Ex.aA e,Ex.aA e2,Pn.aA x,Pn.aA y]at o1 c1 c2 ⊢;simp[o1,c1,c2,hsh,hd0]
  ·have o2:=o2 rfl;simp only[aT,pair_cells,aU,Ex.aA e,Ex.aA e2,Pn.aA x,Pn.aA y]at o1 o2 c1 c2 ⊢;simp[o1,o2,c1,c2,hsh,hd0]
theorem AX1 {ws:List Int} (hw:lL ws=true) {p:Pn} (hp:p.wd ws 8≠0):jE 112 ws 3 p:=by
 by_cases hk:p.kind=2
 ·obtain⟨e,a,rfl⟩:=qA (mV hp) hk;by_cases hk2:a.kind=4∨a.kind=5
  ·obtain⟨e2,x,y,hx⟩:=jI (iP (mV hp)).1 hk2;generalize a.kind=kd at *
   subst hx;exact AJ0 hw hk2 hp
  ·have h1:=dR (e:=e) (k:=a) (kd:=4) (by omega);have h2:=dR (e:=e) (k:=a) (kd:=5) (by omega);refine .no ?_ (by rw[eZ];simp[rwF,hk2]);rw[aD rfl Tryz.func112 rfl rfl];simp only[aT,aU]at h1 h2 ⊢;simp[h1,h2]
 ·have h1:=fC (p:=p) (kd:=4) hk;have h2:=fC (p:=p) (kd:=5) hk;refine .no ?_ (by simp[rwP,hk]);rw[aD rfl Tryz.func112 rfl rfl];simp only[aU,Pn.aA p]at h1 h2 ⊢;simp[h1,h2]
theorem AL3 {b n:Nat} (hb:b<64):IntKind.i64.wrap ((b:Int) % 18446744073709551616 % 2 ^ n)=((b &&& (2 ^ n-1):Nat):Int):=by
 rw[Nat.and_two_pow_sub_one_eq_mod];have h1:(b:Int) % 18446744073709551616=b:=by omega
 have h2:(b:Int) % 2 ^ n=((b % 2 ^ n:Nat):Int):=by simp
 rw[h1,h2];have:=Nat.mod_le b (2 ^ n);exact wrO
theorem AIZ {ws:List Int} (hw:lL ws=true) {e e2:Ex} {x y:Pn} (hp:(filt e (bB 4 e2 x y)).wd ws 8≠0):jE 113 ws 4 (filt e (bB 4 e2 x y)):=by
 obtain⟨h1,h2,h3⟩:=vG hp;obtain⟨g1,g2,g3,g4,g5⟩:=OJ (.inl rfl) h1;rw[g5]at h2;obtain⟨n,hn,n1,n2⟩:=AP hw g1;obtain⟨m,hm,m1,m2⟩:=AP hw g2;have hwf:=Ex.AEL h2;have hcol:=Ex.X3 hwf;have hcolW:=Ex.O3 e (Ex.GJ h2).1;have hb:=Ex.PS e hcol;have hsz:e.size<1000000000:=by have:=Ex.fU h2;omega
 have c1:=NN e hsz hcol;have c2:=ET hw x;have c5:=V7 (w:=n) (by omega) e hwf hsz;have c3:=eH (e.wJ (·-n)) y;have c4:=nI 4 e2 x (filt (e.wJ (·-n)) y);rw[hn,hm,← Int.natCast_add]at hcolW;have q:=AKS (n:=n) hcolW;rw[hn]at c2;have o1:=fE (e:=e) (k:=bB 4 e2 x y) (kd:=4) rfl
 have hr:rwP ws 4 (filt e (bB 4 e2 x y))=if e.cin n (n+m:Nat)=true then some (bB 4 e2 x (filt (e.wJ (·-n)) y))else none:=by
  rw[eZ]
  have:∀ k:Pn,(Pn.mk 4 0 [e2] [] [x,y]).wd ws 8=((n+m:Nat):Int):=fun _=>by
   have:=g5;unfold bB at this;rw[this,hn,hm];simp
  simp[rwF,bB,Pn.ex0,Pn.iZ,Pn.pM,Pn.kind,Pn.exprs,Pn.kids,hn,this x]
 have haw:=AL3 (b:=e.bits) (n:=n) (by omega);by_cases hc:e.cin n (n+m:Nat)=true
 ·rw[if_pos hc]at hr;have hd0:e.bits &&& (2 ^ n-1)=0:=by rw[q];exact hc
  rw[hd0]at haw;refine .yes ?_ hr;generalize e.wJ (·-(n:Int))=z at *
  rw[aD rfl Tryz.func113 rfl rfl];simp only[aT,pair_cells,Ex.aA e,Ex.aA e2,Ex.aA z,Pn.aA x,Pn.aA y]at o1 c1 c2 c3 c4 c5 ⊢;simp[o1,c1,c2,c3,c4,c5,AYZ n2,haw]
 ·rw[if_neg hc]at hr;have hd0:¬ (e.bits &&& (2 ^ n-1)=0):=by rw[q];exact hc
  refine .no ?_ hr;generalize e.bits &&& (2 ^ n-1)=d at *
  rw[aD rfl Tryz.func113 rfl rfl];simp only[aT,pair_cells,aU,Ex.aA e,Ex.aA e2,Pn.aA x,Pn.aA y]at o1 c1 c2 ⊢;simp[o1,c1,c2,hd0,AYZ n2,haw]
theorem AX0 {ws:List Int} (hw:lL ws=true) {p:Pn} (hp:p.wd ws 8≠0):jE 113 ws 4 p:=by
 by_cases hk:p.kind=2
 ·obtain⟨e,a,rfl⟩:=qA (mV hp) hk;by_cases hk2:a.kind=4
  ·obtain⟨e2,x,y,hx⟩:=jI (iP (mV hp)).1 (.inl hk2);rw[hk2]at hx;subst hx;exact AIZ hw hp
  ·have h1:=dR (e:=e) (k:=a) (kd:=4) hk2;refine .no ?_ (by rw[eZ];simp[rwF,hk2]);rw[aD rfl Tryz.func113 rfl rfl];simp only[aT,aU]at h1 ⊢;simp[h1]
 ·have h1:=fC (p:=p) (kd:=4) hk;refine .no ?_ (by simp[rwP,hk]);rw[aD rfl Tryz.func113 rfl rfl];simp only[aU,Pn.aA p]at h1 ⊢;simp[h1]
theorem ADV {ws:List Int} (hw:lL ws=true) {e:Ex} {es:List Ex} {x:Pn} (hp:(filt e (proj es x)).wd ws 8≠0):jE 119 ws 10 (filt e (proj es x)):=by
 obtain⟨h1,h2,h3⟩:=vG hp;obtain⟨g1,g2,g3,g4⟩:=AAF h1;rw[g4]at h2;have c2:=ET hw x;have c5:=AFI e es (x.wd ws 8);have o1:=fE (e:=e) (k:=proj es x) (kd:=3) rfl
 have hr:rwP ws 10 (filt e (proj es x))=some (proj es (filt (e.sub es) x)):=by
  rw[eZ];simp[rwF,proj,Pn.ex0,Pn.iZ,Pn.pM,Pn.kind,Pn.exprs,Pn.kids]
 have c3:=eH (AK4 (e.subst es (x.wd ws 8))) x;refine⟨proj es (filt (AK4 (e.subst es (x.wd ws 8))) x),(e.subst es (x.wd ws 8)).isSome,?_,?_,?_⟩
 ·generalize (e.subst es (x.wd ws 8)).isSome=b at *
  generalize AK4 (e.subst es (x.wd ws 8))=z at *
  rw[aD rfl Tryz.func119 rfl rfl];simp only[aT,jN,Ex.aA e,Ex.aA z,Pn.aA x]at o1 c2 c3 c5 ⊢;simp[o1,c2,c3,c5]
 ·intro hb;rw[hr];unfold Ex.subst at hb ⊢;split at hb
  ·rename_i hcc;rw[if_pos hcc];rfl
  ·simp at hb
 ·intro hb q' hq lv;rw[hr]at hq;injection hq with hq;subst hq
  cases lv with
  | zero=>rw[Pn.ZK];simp[proj,Pn.kids]
  | succ lv =>
   rw[D9];refine if_neg fun hc=>?_
   have hc1:=hc.1
   cases lv with
   | zero=>exact hc1 (by rw[Pn.ZK];simp[filt,Pn.kids])
   | succ lv =>
    rw[I9]at hc1;obtain⟨⟨hx,hok⟩,_⟩:=gI hc1;have e8:=AL8 (mV g1) hx;rw[e8]at hok;unfold Ex.subst at hb;rw[if_pos (by simp only[zT];exact⟨h2,g3,hok⟩)]at hb;simp at hb
theorem AT9 {ws:List Int} (hw:lL ws=true) {p:Pn} (hp:p.wd ws 8≠0):jE 119 ws 10 p:=by
 by_cases hk:p.kind=2
 ·obtain⟨e,a,rfl⟩:=qA (mV hp) hk;by_cases hk2:a.kind=3
  ·obtain⟨es,x,rfl⟩:=oH (iP (mV hp)).1 hk2;exact ADV hw hp
  ·have h1:=dR (e:=e) (k:=a) (kd:=3) hk2;refine .no ?_ (by rw[eZ];simp[rwF,hk2]);rw[aD rfl Tryz.func119 rfl rfl];simp only[aT,aU]at h1 ⊢;simp[h1]
 ·have h1:=fC (p:=p) (kd:=3) hk;refine .no ?_ (by simp[rwP,hk]);rw[aD rfl Tryz.func119 rfl rfl];simp only[aU,Pn.aA p]at h1 ⊢;simp[h1]
def OIX (e e2:Ex) (x y:Pn) (ws:List Int) (n m i:Nat):AS :=
 { env:=[(0, .i (.iref [.int 2, .int 0, .isl [[.int e.kind, .int e.col, .bool e.val.null, .int e.val.n, .isl (Ex.aB e.kids)]], .isl [], .isl [[.int 5, .int 0, .isl [[.int e2.kind, .int e2.col, .bool e2.val.null, .int e2.val.n, .isl (Ex.aB e2.kids)]], .isl [], .isl [[.int x.kind, .int x.table, .isl (Ex.aB x.exprs), .isl (aF x.cols), .isl (Pn.aB x.kids)],[.int y.kind, .int y.table, .isl (Ex.aB y.exprs), .isl (aF y.cols), .isl (Pn.aB y.kids)]]]]])),(1, .i (.isl (aF ws))),(4, .own 0 0),(5, .bool false),(6, .i (.iref [.int e.kind, .int e.col, .bool e.val.null, .int e.val.n, .isl (Ex.aB e.kids)])),
    (7, .i (.iref [.int 5, .int 0, .isl [[.int e2.kind, .int e2.col, .bool e2.val.null, .int e2.val.n, .isl (Ex.aB e2.kids)]], .isl [], .isl [[.int x.kind, .int x.table, .isl (Ex.aB x.exprs), .isl (aF x.cols), .isl (Pn.aB x.kids)],[.int y.kind, .int y.table, .isl (Ex.aB y.exprs), .isl (aF y.cols), .isl (Pn.aB y.kids)]]])),(8, .bool true),(9, .int ((n:Int)+m)),(10,gro 1 1 i),(11, .int ((n:Int)+i)),(19, .bool false),(36,jk i (.bool true)),(49, .junk)],
   st:=some (.box [.int 0, .int 0, .nils, .nils, .nils])::ACG 1 (aF (lQ n i)) i }
theorem AIW {ws:List Int} (hw:lL ws=true) {e e2:Ex} {x y:Pn} (hp:(filt e (bB 5 e2 x y)).wd ws 8≠0):jE 116 ws 7 (filt e (bB 5 e2 x y)):=by
 obtain⟨h1,h2,h3⟩:=vG hp;obtain⟨g1,g2,g3,g4,g5⟩:=OJ (.inr rfl) h1;have c1:=ET hw (bB 5 e2 x y);rw[g5]at h2 c1;obtain⟨n,hn,n1,n2⟩:=AP hw g1;obtain⟨m,hm,m1,m2⟩:=AP hw g2;have c2:=ET hw x;rw[hn,hm,← Int.natCast_add]at h2 c1;rw[hn]at c2;have c3:=nI 4 e2 x y;have c4:=eH e (bB 4 e2 x y);have c5:=VL e (n:=n+m) (p:=n) (m:=m) rfl h2;have o1:=fE (e:=e) (k:=bB 5 e2 x y) (kd:=5) rfl
 have hr:rwP ws 7 (filt e (bB 5 e2 x y))=if AE7 e (n+m:Nat) n=true then some (filt e (bB 4 e2 x y))else none:=by
  rw[eZ]
  have:(Pn.mk 5 0 [e2] [] [x,y]).wd ws 8=((n+m:Nat):Int):=by
   have:=g5;unfold bB at this;rw[this,hn,hm];simp
  simp[rwF,bB,Pn.ex0,Pn.iZ,Pn.pM,Pn.kind,Pn.exprs,Pn.kids,hn,this]
 generalize AE7 e (n+m:Nat) n=b at *
 have key:aI C0 116 [.i (.iref (filt e (bB 5 e2 x y)).cells), .i (.isl (aF ws))] []=some (.tup [.i (.agg (if b=true then filt e (bB 4 e2 x y)else Pn.zero).cells), .bool b],[]):=by
  rw[aD rfl Tryz.func116 rfl rfl];simp only[aT,pair_cells,aU,Ex.aA e,Ex.aA e2,Pn.aA x,Pn.aA y]at o1 c1 c2 c3 c4 c5 ⊢;have ht:∀ k,(lQ n k).take k=lQ n k:=fun k=>zY (by simp)
  simp only[yD]at c5;simp[o1,c1,c2];rw[aV (OIX e e2 x y ws n m) m (by simp[OIX])]
  ·rw[aH];simp[OIX,aP (show m≠0 by omega),aJ (show m≠0 by omega),dG (show m≠0 by omega)]
   cases b with
   | true=>simp[c3,c4,c5,ht,aT,pair_cells,Ex.aA e,Ex.aA e2,Pn.aA x,Pn.aA y]
   | false=>simp[c5,ht,aU]
  ·intro i hi;have w2:IntKind.i64.wrap ((n:Int)+i+1)=n+(i+1):=by rw[wrO];omega
   have hs:=NP n i;have hlt:(n:Int)+i<n+m:=by omega
   by_cases h0:i=0
   ·subst h0;have hlt0:(n:Int)<n+m:=by omega
    have w3:IntKind.i64.wrap ((n:Int)+1)=n+1:=by rw[wrO]
    simp[OIX,w3,hlt0,hs,fP,aF,lQ]
   ·have hl1:(i+1)*8≤140737488355328:=by omega
    simp[OIX,w2,hlt,hs,aP h0,aJ h0,dG h0,fP,aF,hl1,ht]
 cases b with
 | true=>exact .yes key (by rw[hr];rfl)
 | false=>exact .no key (by rw[hr];rfl)
theorem AWX {ws:List Int} (hw:lL ws=true) {p:Pn} (hp:p.wd ws 8≠0):jE 116 ws 7 p:=by
 by_cases hk:p.kind=2
 ·obtain⟨e,a,rfl⟩:=qA (mV hp) hk;by_cases hk2:a.kind=5
  ·obtain⟨e2,x,y,hx⟩:=jI (iP (mV hp)).1 (.inr hk2);rw[hk2]at hx;subst hx;exact AIW hw hp
  ·have h1:=dR (e:=e) (k:=a) (kd:=5) hk2;refine .no ?_ (by rw[eZ];simp[rwF,hk2]);rw[aD rfl Tryz.func116 rfl rfl];simp only[aT,aU]at h1 ⊢;simp[h1]
 ·have h1:=fC (p:=p) (kd:=5) hk;refine .no ?_ (by simp[rwP,hk]);rw[aD rfl Tryz.func116 rfl rfl];simp only[aU,Pn.aA p]at h1 ⊢;simp[h1]
theorem YU {n m i:Nat} (h:i<n+m):(aW (m:Int) n++aW 0 m)[i]?=some (YW (qI n m i)):=by
 by_cases hi:i<n
 ·rw[zM (by simpa using hi),tY hi];unfold qI;rw[if_pos (by omega),Int.add_comm]
 ·rw[zK (by simp;omega),tZ,tY (by omega)];unfold qI;rw[if_neg (by omega)];congr 2;omega
def MPX (fs es:List Ex) (x:Pn) (ws:List Int) (W:Int) (zs:List Ex) (i:Nat):AS :=
 { env:=[(0, .i (.iref [.int 3, .int 0, .isl (Ex.aB fs), .isl [], .isl [[.int 3, .int 0, .isl (Ex.aB es), .isl [], .isl [[.int x.kind, .int x.table, .isl (Ex.aB x.exprs), .isl (aF x.cols), .isl (Pn.aB x.kids)]]]]])),(1, .i (.isl (aF ws))),(4, .own 0 0),(5, .bool false),(6, .i (.iref [.int 3, .int 0, .isl (Ex.aB es), .isl [], .isl [[.int x.kind, .int x.table, .isl (Ex.aB x.exprs), .isl (aF x.cols), .isl (Pn.aB x.kids)]]])),(7, .int W),(8, .own 1 0),(9,jk i (.int (i-1))),(10,if i=0 then .junk else .own 3 0),(11,jk i (.bool true)),(26, .bool false),(50, .int fs.length),(51, .int i),(52,jk i (.bool true)),(71,jk i (.bool false))],
   st:=some (.box [.int 0, .int 0, .nils, .nils, .nils])::some (.box [.int 3, .int 0,gro 2 5 i, .nils, .i (.isl [[.int x.kind, .int x.table, .isl (Ex.aB x.exprs), .isl (aF x.cols), .isl (Pn.aB x.kids)]])])::(if i=0 then []else [some (.arr 5 (Ex.aB (zs.take i))),some (.box (jW ((zs[i-1]?).getD Ex.zero).cells))]) }
def CJX (e:Ex) (x y:Pn) (ws:List Int) (n m i:Nat):AS :=
 { env:=[(0, .i (.iref [.int 4, .int 0, .isl [[.int e.kind, .int e.col, .bool e.val.null, .int e.val.n, .isl (Ex.aB e.kids)]], .isl [], .isl [[.int x.kind, .int x.table, .isl (Ex.aB x.exprs), .isl (aF x.cols), .isl (Pn.aB x.kids)],[.int y.kind, .int y.table, .isl (Ex.aB y.exprs), .isl (aF y.cols), .isl (Pn.aB y.kids)]]])),(1, .i (.isl (aF ws))),(4, .own 0 0),(5, .bool false),(6, .own 1 0),(7, .own 2 0),(8, .fn (.func 155) [.own 1 0, .own 2 0]),(9, .own 3 0),(10,jk i (.int (i-1))),(15, .bool false),(37, .int ((n:Int)+m)),(38, .int i),(39,jk i (.bool true))],
   st:=some (.box [.int 0, .int 0, .nils, .nils, .nils])::some (.box [.int n])::some (.box [.int m])::some (.box [.int 3, .int 0,gro 4 5 i, .nils, .nils])::ACG 5 (Ex.aB ((aW (m:Int) n++aW 0 m).take i)) i }
theorem AIY {ws:List Int} (hw:lL ws=true) {e:Ex} {x y:Pn} (hp:(bB 4 e x y).wd ws 8≠0):jE 115 ws 6 (bB 4 e x y):=by
 obtain⟨g1,g2,g3,g4,g5⟩:=OJ (.inl rfl) hp;obtain⟨n,hn,n1,n2⟩:=AP hw g1;obtain⟨m,hm,m1,m2⟩:=AP hw g2;have c1:=ET hw x;have c2:=ET hw y;have hwf:=Ex.AEL g4;have hsz:e.size<1000000000:=by have:=Ex.fU g4;omega
 have c5:=V6 (a:=n) (b:=m) (by omega) (by omega) e hwf hsz;have c4:=nI 4 (e.wJ (qI n m)) y x
 have hr:rwP ws 6 (bB 4 e x y)=some (proj (aW m n++aW 0 m) (bB 4 (e.wJ (qI n m)) y x)):=by
  simp[rwP,bB,Pn.ex0,Pn.iZ,Pn.pM,Pn.kind,Pn.exprs,Pn.kids,hn,hm]
 rw[hn]at c1;rw[hm]at c2;refine .yes ?_ hr;generalize e.wJ (qI n m)=z at *
 rw[aD rfl Tryz.func115 rfl rfl];simp only[jN,pair_cells,aU,Ex.aA e,Ex.aA z,Pn.aA x,Pn.aA y]at c1 c2 c4 c5 ⊢;have w0:IntKind.i64.wrap ((n:Int)+m)=n+m:=wrO;have hlen:(aW (m:Int) n++aW 0 m).length=n+m:=by simp
 simp[c1,c2,w0];rw[aV (CJX e x y ws n m) (n+m) (by simp[CJX])]
 ·rw[aH];have htk:(aW (m:Int) n++aW 0 m).take (n+m)=aW (m:Int) n++aW 0 m:=zY (by omega);simp[CJX,aP (show n+m≠0 by omega),aJ (show n+m≠0 by omega),dG (show n+m≠0 by omega),htk,c4,c5]
 ·intro i hi;have hnth:=YU hi;have htk:=aN hnth;have hpl:=MQ i n m (by omega) (by omega) (by omega);have hco:=EE (qI n m i);generalize qI n m i=c at *
  rw[kZ]at hco;have hlt:(i:Int)<n+m:=by omega
  have w2:IntKind.i64.wrap ((i:Int)+1)=i+1:=wrO;by_cases h0:i=0
  ·subst h0;have hlt0:(0:Int)<n+m:=by omega
   simp at hpl;simp[CJX,hlt0,hpl,hco,dK,htk,Ex.aB,kZ]
  ·have hl1:(i+1)*56≤140737488355328:=by omega
   have hl2:i≤min i (n+m):=by omega
   simp[CJX,w2,hlt,hpl,hco,aP h0,aJ h0,dG h0,htk,Ex.aY,kZ,hl1,hl2,zG]
theorem ADU {ws:List Int} (hw:lL ws=true) {fs es:List Ex} {x:Pn} (hp:(proj fs (proj es x)).wd ws 8≠0):jE 120 ws 11 (proj fs (proj es x)):=by
 obtain⟨h1,h2,h3,h4⟩:=AAF hp;obtain⟨g1,g2,g3,g4⟩:=AAF h1;rw[g4]at h3;have c2:=ET hw x;have c5:=fun e=>AFI e es (x.wd ws 8)
 have hr:rwP ws 11 (proj fs (proj es x))=some (proj (fs.map (Ex.sub es)) x):=by
  simp[rwP,proj,Pn.ex0,Pn.iZ,Pn.pM,Pn.kind,Pn.exprs,Pn.kids]
 generalize hW:x.wd ws 8=W at *
 have hin:∀ (i:Nat) (a:Ex),fs[i]?=some a→(a.subst es W).isSome=true→(fs.map (Ex.sub es))[i]?=some (a.sub es)∧a.subst es W=some (a.sub es):=by
  intro i a ha hs;refine⟨by simp[ha],?_⟩;unfold Ex.subst at hs ⊢;split at hs
  ·rename_i hc;rw[if_pos hc]
  ·simp at hs
 have hlen:fs.length≤6:=by unfold bN at h2;simp at h2;omega
 obtain⟨j,k1,k2⟩:=iQ (fun e=>(e.subst es W).isSome) fs
 have hround:∀ i,i<j→i<fs.length∧∃ f z,fs[i]?=some f∧fK (Ex.aB fs) i=some f.cells∧(fs.map (Ex.sub es))[i]?=some z∧f.subst es W=some z:=by
  intro i hi;obtain⟨f,q1,q2,q3⟩:=k1 i hi;obtain⟨q4,q5⟩:=hin i f q1 q3;exact⟨(zZ.1 q1).1,f,_,q1,Ex.aQ q1,q4,q5⟩
 have hfl:fs.length≠0:=by intro h;rw[h]at h2;simp[bN]at h2
 have hzl:(fs.map (Ex.sub es)).length=fs.length:=by simp
 have hq:∀ lv,(proj (fs.map (Ex.sub es)) x).wd ws lv≠0→∀ f∈fs,(f.sub es).ok W=true:=by
  intro lv hne f hf
  cases lv with
  | zero=>exact absurd (by rw[Pn.ZK];simp[proj,Pn.kids]) hne
  | succ lv =>
   rw[D9]at hne;obtain⟨⟨q1,q2,q3⟩,_⟩:=gI hne;have e8:=AL8 (mV (p:=x) (lv:=8) (by rw[hW];exact g1)) q1;rw[e8,hW]at q3;exact zQ.1 q3 _ (List.mem_map_of_mem hf)
 generalize fs.map (Ex.sub es)=zs at *
 have main:∀ r,aI C0 120 [.i (.iref (proj fs (proj es x)).cells), .i (.isl (aF ws))] []=r→r=if j=fs.length then some (.tup [.i (.agg (proj zs x).cells), .bool true],[])else some (.tup [.i (.agg Pn.zero.cells), .bool false],[]):=by
  intro r hr';subst hr';rw[aD rfl Tryz.func120 rfl rfl];simp only[jN,Pn.aA x]at c2 ⊢;simp[c2];rw[aV (MPX fs es x ws W zs) j (by simp[MPX])]
  ·rw[aH]
   rcases k2 with ⟨hj,ha⟩|⟨f,q1,q2,q3,ha⟩
   ·have htk:zs.take fs.length=zs:=zY (by omega);simp[MPX,hj,hfl,aP hfl,htk,hzl]
   ·have hj:j<fs.length:=(zZ.1 q1).1;have hne:¬ j=fs.length:=by omega
    have r1:=Ex.aQ q1;have hn:f.subst es W=none:=by cases h:f.subst es W with|none=>rfl|some _=>rw[h]at q3;simp at q3
    have c6:=c5 f;rw[hn]at c6;simp only[AK4,Option.getD,Option.isSome,Ex.aA f,aU]at c6 r1;by_cases h0:j=0
    ·subst h0;simp[MPX,hj,hne,r1,c6,aU]
    ·simp[MPX,hj,hne,r1,c6,h0,aP h0,dG h0,aU]
  ·intro i hi;obtain⟨hil,f,z,q1,r1,q4,q5⟩:=hround i hi;have c6:=c5 f;rw[q5]at c6;have htk:=aN q4;have w2:IntKind.i64.wrap ((i:Int)+1)=i+1:=wrO;simp only[AK4,Option.getD,Option.isSome,Ex.aA f,Ex.aA z]at c6 r1;by_cases h0:i=0
   ·subst h0;simp[MPX,hil,r1,c6,dK,htk,q4,Ex.aB,Ex.aA z]
   ·have hl1:(i+1)*56≤140737488355328:=by omega
    have hl2:i≤min i zs.length:=by omega
    simp[MPX,hil,r1,c6,w2,htk,q4,h0,aP h0,dG h0,Ex.aY,Ex.aA z,hl1,hl2,zG]
 have hm:=main _ rfl
 rcases k2 with ⟨hj,ha⟩|⟨f,q1,q2,q3,ha⟩
 ·rw[if_pos hj]at hm;exact .yes hm hr
 ·have hj:j<fs.length:=(zZ.1 q1).1;rw[if_neg (by omega)]at hm;refine⟨.zero,false,hm,by simp,fun _ q' hq' lv=>?_⟩;rw[hr]at hq';injection hq' with hq';subst hq';by_cases hne:(proj zs x).wd ws lv=0
  ·exact hne
  ·have hok:=hq lv hne f q2;unfold Ex.subst at q3;rw[if_pos (by simp only[zT];exact⟨List.all_eq_true.1 h3 f q2,g3,hok⟩)]at q3;simp at q3
theorem AWY {ws:List Int} (hw:lL ws=true) {p:Pn} (hp:p.wd ws 8≠0):jE 115 ws 6 p:=by
 by_cases hk:p.kind=4
 ·obtain⟨e,x,y,hx⟩:=jI (mV hp) (.inl hk);rw[hk]at hx;subst hx;exact AIY hw hp
 ·refine .no ?_ ?_
  ·rw[aD rfl Tryz.func115 rfl rfl];simp only[aU,Pn.aA p];simp[hk]
  ·unfold rwP;split
   ·unfold rwF;simp
   ·simp[hk]
theorem AT8 {ws:List Int} (hw:lL ws=true) {p:Pn} (hp:p.wd ws 8≠0):jE 120 ws 11 p:=by
 by_cases hk:p.kind=3
 ·obtain⟨fs,a,rfl⟩:=oH (mV hp) hk;by_cases hk2:a.kind=3
  ·obtain⟨V,hV,_⟩:=A9 (mV hp);obtain⟨es,x,rfl⟩:=oH hV hk2;exact ADU hw hp
  ·refine .no ?_ (by simp[rwP,Pn.iZ,proj,hk2]);rw[aD rfl Tryz.func120 rfl rfl];simp only[jN,aU,Pn.aA a];simp[hk2]
 ·refine .no ?_ ?_
  ·rw[aD rfl Tryz.func120 rfl rfl];simp only[aU,Pn.aA p];simp[hk]
  ·unfold rwP;split
   ·unfold rwF;simp
   ·simp[hk]
end Go.Proofs.YtjdfjgmebalaaaaGreat.P
namespace Go.Av
theorem XG {ws:List Int} {r:Int} {lv:Nat} {p:Pn} (h:∀ q',rwP ws r p=some q'→∀ lv,q'.wd ws lv=0):rwL ws r lv p=none:=by
 unfold rwL
 cases hq:rwP ws r p with
 | none=>rfl
 | some q=>simp[h q hq lv]
theorem AIT {ws:List Int} {r:Int} {lv:Nat} {p q:Pn} (h:rwP ws r p=some q):rwL ws r lv p=if q.wd ws lv=0 then none else some q:=by
 unfold rwL;rw[h];by_cases hq:q.wd ws lv=0<;>simp[hq]
def BV (o:Option Pn):Pn:=o.getD Pn.zero
end Go.Av
namespace Go.Proofs.YtjdfjgmebalaaaaGreat.P
open Go Go.Av
set_option maxRecDepth 4000
set_option maxHeartbeats 4000000
theorem OB {ws:List Int} {p:Pn} {r:Int} {lv:Nat} (h:r<1∨11<r):aI C0 70 [.i (.iref p.cells), .i (.isl (aF ws)), .int r, .int lv] []=some (.tup [.i (.agg Pn.zero.cells), .bool false],[]):=by
 rw[aD rfl Tryz.func70 rfl rfl,aU]
 rcases h with h|h
 ·simp[h]
 ·simp[show ¬ r<1 by omega,show 12≤r by omega]
theorem o7 {ws:List Int} (hw:lL ws=true) {p:Pn} (hp:p.wd ws 8≠0) (r:Int) {lv:Nat} (hl:lv≤8):aI C0 70 [.i (.iref p.cells), .i (.isl (aF ws)), .int r, .int lv] []=some (.tup [.i (.agg (BV (rwL ws r lv p)).cells), .bool (rwL ws r lv p).isSome],[]):=by
 have hr:(r<1∨11<r)∨(r=1∧jE 110 ws 1 p)∨(r=2∧jE 111 ws 2 p)∨(r=3∧jE 112 ws 3 p)∨(r=4∧jE 113 ws 4 p)∨(r=5∧jE 114 ws 5 p)∨(r=6∧jE 115 ws 6 p)∨(r=7∧jE 116 ws 7 p)∨(r=8∧jE 117 ws 8 p)∨(r=9∧jE 118 ws 9 p)∨(r=10∧jE 119 ws 10 p)∨(r=11∧jE 120 ws 11 p):=by
  by_cases h:r<1∨11<r
  ·exact .inl h
  ·refine .inr ?_;have:r=1∨r=2∨r=3∨r=4∨r=5∨r=6∨r=7∨r=8∨r=9∨r=10∨r=11:=by omega
   rcases this with rfl|rfl|rfl|rfl|rfl|rfl|rfl|rfl|rfl|rfl|rfl
   ·exact(.inl ⟨rfl,AX3 (mV hp)⟩)
   ·exact(.inr (.inl ⟨rfl,AX2 (mV hp)⟩))
   ·exact(.inr (.inr (.inl ⟨rfl,AX1 hw hp⟩)))
   ·exact(.inr (.inr (.inr (.inl ⟨rfl,AX0 hw hp⟩))))
   ·exact(.inr (.inr (.inr (.inr (.inl ⟨rfl,AWZ (mV hp)⟩)))))
   ·exact(.inr (.inr (.inr (.inr (.inr (.inl ⟨rfl,AWY hw hp⟩))))))
   ·exact(.inr (.inr (.inr (.inr (.inr (.inr (.inl ⟨rfl,AWX hw hp⟩)))))))
   ·exact(.inr (.inr (.inr (.inr (.inr (.inr (.inr (.inl ⟨rfl,AWW (mV hp)⟩))))))))
   ·exact(.inr (.inr (.inr (.inr (.inr (.inr (.inr (.inr (.inl ⟨rfl,AWV (mV hp)⟩)))))))))
   ·exact(.inr (.inr (.inr (.inr (.inr (.inr (.inr (.inr (.inr (.inl ⟨rfl,AT9 hw hp⟩))))))))))
   ·exact(.inr (.inr (.inr (.inr (.inr (.inr (.inr (.inr (.inr (.inr (⟨rfl,AT8 hw hp⟩)))))))))))
 rcases hr with h|⟨rfl,q,b,h1,h2,h3⟩|⟨rfl,q,b,h1,h2,h3⟩|⟨rfl,q,b,h1,h2,h3⟩|⟨rfl,q,b,h1,h2,h3⟩|⟨rfl,q,b,h1,h2,h3⟩|⟨rfl,q,b,h1,h2,h3⟩|⟨rfl,q,b,h1,h2,h3⟩|⟨rfl,q,b,h1,h2,h3⟩|⟨rfl,q,b,h1,h2,h3⟩|⟨rfl,q,b,h1,h2,h3⟩|⟨rfl,q,b,h1,h2,h3⟩
 ·rw[OB h]
  have:rwL ws r lv p=none:=XG fun q' hq=>by
   have:=AIS hq;simp[rules]at this;omega
  rw[this];rfl
 all_goals
  have h4:=AJ (jQ hw) q lv hl;rw[aD rfl Tryz.func70 rfl rfl]
  cases b with
  | false =>
   rw[XG (h3 rfl)];simp only[BV,Option.getD,Option.isSome,aU,Pn.aA p,Pn.aA q]at h1 h4 ⊢;simp[h1]
  | true =>
   rw[AIT (h2 rfl)];by_cases hq:q.wd ws lv=0
   ·rw[hq]at h4;rw[if_pos hq];simp only[BV,Option.getD,Option.isSome,aU,Pn.aA p,Pn.aA q]at h1 h4 ⊢;simp[h1,h4]
   ·rw[if_neg hq];simp only[BV,Option.getD,Option.isSome,Pn.aA p,Pn.aA q]at h1 h4 ⊢;simp[h1,h4,hq]
end Go.Proofs.YtjdfjgmebalaaaaGreat.P
namespace Go.Av
def rY (s:Stp):List IV:=[.int s.1, .isl (aF s.2)]
def gH (l:List Stp):List (List IV):=l.map rY
@[simp] theorem ALR (l:List Stp):(gH l).length=l.length:=by simp[gH]
theorem nG {l:List Stp} {i:Nat} {s:Stp} (h:l[i]?=some s):fK (gH l) i=some (rY s):=by
 rw[fI];simp[gH,h]
theorem ACW {ws:List Int} {p:Pn} {lv:Nat} (h:p.wd ws lv≠0) (hk:p.kids≠[]):p.kids.length≤2∧lv≠0∧∀ a∈p.kids,a.wd ws (lv-1)≠0:=by
 rw[Pn.AO]at h;obtain⟨h1,h2⟩:=gI h;refine⟨Pn.K6 h1.1,h1.2.resolve_left hk,?_⟩;split at h2
 ·rename_i hk1;exact absurd (Pn.wP h1.1 hk1) hk
 ·obtain⟨h3,_⟩:=gI h2;exact fun a ha=>by simpa using zQ.1 h3 a ha
end Go.Av
namespace Go.Proofs.YtjdfjgmebalaaaaGreat.P
open Go Go.Av
set_option maxRecDepth 4000
set_option maxHeartbeats 4000000
structure Yl (R:Rng) (cs:List AV):Prop where
 ids:cs=[.own 1 0, .junk, .junk]
 y00:∀ r:Int,aI C0 lW [.fn (.yield 0) [.own 0 0], .agg [.int r, .nils]] [some (.loop R cs .ready),some (.box [.nils])]=some (.bool true,[some (.loop R cs .ready),some (.box [.osl 2 2 0 1]),some (.arr 2 [[.int r, .isl []]])])
 y01:∀ (r:Int) (path:List Int),path≠[]→aI C0 lW [.fn (.yield 0) [.own 0 0], .agg [.int r, .osl 2 1 0 path.length]] [some (.loop R cs .ready),some (.box [.nils]),some (.arr 1 (aF path))]=some (.bool true,[some (.loop R cs .ready),some (.box [.osl 3 2 0 1]),some (.frz 1 (aF path)),some (.arr 2 [[.int r, .isl (aF path)]])])
 y10:∀ (r:Int) (n:Nat) (l:List Stp),l.length=n→n≠0→n<1000000→aI C0 lW [.fn (.yield 0) [.own 0 0], .agg [.int r, .nils]] [some (.loop R cs .ready),some (.box [.osl 2 2 0 n]),some (.arr 2 (gH l))]=some (.bool true,[some (.loop R cs .ready),some (.box [.osl 3 2 0 (n+1)]),none,some (.arr 2 (gH l++[[.int r, .isl []]]))])
 y11:∀ (r:Int) (n:Nat) (l:List Stp) (path:List Int),path≠[]→l.length=n→n≠0→n<1000000→aI C0 lW [.fn (.yield 0) [.own 0 0], .agg [.int r, .osl 3 1 0 path.length]] [some (.loop R cs .ready),some (.box [.osl 2 2 0 n]),some (.arr 2 (gH l)),some (.arr 1 (aF path))]=some (.bool true,[some (.loop R cs .ready),some (.box [.osl 4 2 0 (n+1)]),none,some (.frz 1 (aF path)),some (.arr 2 (gH l++[[.int r, .isl (aF path)]]))])
set_option maxHeartbeats 8000000
end Go.Proofs.YtjdfjgmebalaaaaGreat.P
namespace Go.Av
theorem mW {p:Pn} {ws:List Int} (h:p.width ws≠0):lL ws=true∧p.wd ws 8≠0∧p.width ws=p.wd ws 8:=by
 unfold Pn.width at h ⊢;split at h
 ·rename_i hw;exact⟨hw,h,if_pos hw⟩
 ·exact absurd rfl h
end Go.Av
namespace Go.Proofs.YtjdfjgmebalaaaaGreat.P
open Go Go.Av
set_option maxRecDepth 4000
set_option maxHeartbeats 8000000
end Go.Proofs.YtjdfjgmebalaaaaGreat.P

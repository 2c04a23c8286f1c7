/- Part 5 of what the proof rests on: the executor and what it is worth, and the program's functions as it runs them. No condition. -/
import Derived.Test.YtjdfjgmebalaaaaGreatT4
set_option linter.unusedVariables false
set_option linter.unusedSimpArgs false
namespace Go.Proofs.YtjdfjgmebalaaaaGreat
open Go Go.Av
set_option maxRecDepth 4000
@[simp] theorem VA {e:Ex} (h:e.size<1000000000):aI C0 92 [.i (.iref e.cells)] []=some (.i (.agg e.cells),[]):=by
  rw[aU (p:=YC) rfl];exact AAO h
theorem AKQ {e b:Ex} {l:List Ex} (hk:e.kind=1) (h0:0≤e.col) (hb:l[e.col.toNat]?=some b) (hs:b.size<1000000000) :
 aI C0 181 [.i (.iref e.cells), .own 0 0] [some (.box [.i (.isl (Ex.aB l))])]=some (.i (.agg b.cells),[some (.box [.i (.isl (Ex.aB l))])]):=by
 rw[aF rfl Tryz.func181 rfl rfl];have hc:=VA hs;have r2:=Ex.aP hb;have r1:=(zY.1 hb).1;rw[Ex.aA]at hc r2 ⊢;rw[Ex.aA];simp[hk,h0,r2,hc,show e.col<l.length by omega]
theorem AKP {e:Ex} {l:List Ex} (hk:e.kind≠1) (hs:e.size<1000000000) :
 aI C0 181 [.i (.iref e.cells), .own 0 0] [some (.box [.i (.isl (Ex.aB l))])]=some (.i (.agg e.cells),[some (.box [.i (.isl (Ex.aB l))])]):=by
 rw[aF rfl Tryz.func181 rfl rfl];have hc:=VA hs;rw[Ex.aA]at hc ⊢;simp[hk,hc]
def AEQ:List IV:=[.int 0, .int 0, .bool false, .int 0, .isl []]
def RX (e:Ex) (l:List Ex) (f:Ex→Ex) (i:Nat):AS :=
 { env:=[(0, .i (.iref [.int e.kind, .int e.col, .bool e.val.null, .int e.val.n, .isl (Ex.aB e.kids)])),(1, .fn (.func 181) [.own 0 0]),(4, .own 1 0),(5, .own 2 0),(6,jk i (.int (i-1))),(12, .bool ((e.kids.length:Int) == 0)),(39, .int e.kids.length),(40, .int i),(41,jk i (.bool true))],
   st:=[some (.box [.i (.isl (Ex.aB l))]),some (.box [.int 0, .int 0, .bool false, .int 0, .nils]),some (.box [.int e.kind, .int e.col, .bool e.val.null, .int e.val.n, .osl 3 5 0 e.kids.length]),some (.arr 5 (Ex.aB ((e.kids.map f).take i)++List.replicate (e.kids.length-i) AEQ))] }
theorem ALA {e:Ex} {l:List Ex} {f:Ex→Ex} (hk:e.kids≠[]) (hl:e.kids.length<1000000000) (ih:∀ a∈e.kids,aI C0 176 [.i (.iref a.cells), .fn (.func 181) [.own 0 0]] [some (.box [.i (.isl (Ex.aB l))])]=some (.i (.agg (f a).cells),[some (.box [.i (.isl (Ex.aB l))])])) :
 aI C0 176 [.i (.iref e.cells), .fn (.func 181) [.own 0 0]] [some (.box [.i (.isl (Ex.aB l))])]=some (.i (.agg (Ex.mk e.kind e.col e.val (e.kids.map f)).cells),[some (.box [.i (.isl (Ex.aB l))])]):=by
 rw[aF rfl Tryz.func176 rfl rfl,Ex.aA];have hb:56*(e.kids.length:Int)≤281474976710656:=by omega
 simp[hk,hb];rw[aT (RX e l f) e.kids.length (by simp[RX,Ex.aB,AEQ])]
 ·rw[aG];have ht:(e.kids.map f).take e.kids.length=e.kids.map f:=zZ (by simp);simp[RX,Ex.cells,ht]
 ·intro i hi;have h3:=zX hi;have hm:=zU h3;have hc:=ih _ hm;have r2:=Ex.aP h3;generalize e.kids[i]=a at h3 hc r2;have w2:IntKind.i64.wrap ((i:Int)+1)=i+1:=wrO;rw[Ex.aA]at hc r2;have hD:(Ex.aB ((e.kids.map f).take i)).length=i:=by simp;omega
  have hS:Ex.aB ((e.kids.map f).take i)++[(f a).cells]=Ex.aB ((e.kids.map f).take (i+1)):=by rw[aL (a:=f a) (by simp[h3]),Ex.aZ]
  have g1:=vS (n:=e.kids.length) (z:=AEQ) hD hi;have g2:=vR (n:=e.kids.length) (z:=AEQ) (x:=(f a).cells) hD hi;have g3:splice AEQ 0 (f a).cells=some (f a).cells:=jQ (by simp[AEQ]);rw[hS]at g2;simp[RX,hi,r2,hc,w2,g1,g2,g3]
theorem ZL {e x:Ex} {l:List Ex} (hk:e.kids=[]) (h:aI C0 181 [.i (.iref e.cells), .own 0 0] [some (.box [.i (.isl (Ex.aB l))])]=some (.i (.agg x.cells),[some (.box [.i (.isl (Ex.aB l))])])) :
 aI C0 176 [.i (.iref e.cells), .fn (.func 181) [.own 0 0]] [some (.box [.i (.isl (Ex.aB l))])]=some (.i (.agg x.cells),[some (.box [.i (.isl (Ex.aB l))])]):=by
 rw[aF rfl Tryz.func176 rfl rfl];rw[Ex.aA e]at h ⊢;rw[Ex.aA x]at h ⊢;simp[hk,Ex.aB]at h ⊢;simp[h]
theorem TU {m:Int} (l:List Ex) (hm:m=l.length) (hl:∀ b∈l,b.size<1000000000):∀ (e:Ex),e.wf m=true→e.size<1000000000 →
 aI C0 176 [.i (.iref e.cells), .fn (.func 181) [.own 0 0]] [some (.box [.i (.isl (Ex.aB l))])]=some (.i (.agg (e.sub l).cells),[some (.box [.i (.isl (Ex.aB l))])]):=by
 intro e
 induction e using Ex.ind with
 | h k c v ks ih =>
  intro hw hs;have hsz:=hs;rw[Ex.size_eq]at hsz;have hkl:=Ex.bP ks;by_cases hk:k=1
  ·obtain⟨c0,c1,ck⟩:=Ex.wI hw hk;have hi:c.toNat<l.length:=by simp[Ex.col]at c0 c1;omega
   have hb:=zX hi;rw[Ex.wW l (e:=.mk k c v ks) hk hb];exact ZL ck (AKQ (e:=.mk k c v ks) hk c0 hb (hl _ (xJ hi)))
  ·cases ks with
   | nil =>
    have hn:=AKP (e:=.mk k c v []) (l:=l) hk hs;rw[Ex.wV l (e:=.mk k c v []) hk];exact ZL (e:=.mk k c v []) rfl hn
   | cons a ks =>
    rw[Ex.wV l (e:=.mk k c v (a::ks)) hk];refine ALA (e:=.mk k c v (a::ks)) (by simp[Ex.kids]) (by simp only[Ex.kids]at hsz ⊢;omega) fun x hx=>ih x hx (Ex.pM hw hx) ?_
    have:=Ex.jF hx;omega
end Go.Proofs.YtjdfjgmebalaaaaGreat
namespace Go.Av
def Ex.subst (e:Ex) (l:List Ex) (w:Int):Option Ex:=if e.ok l.length && (l.all (Ex.ok w) && (e.sub l).ok w)then some (e.sub l)else none
def AQM:Option Ex→AV
 | some e=>.tup [.i (.agg e.cells), .bool true]
 | none=>.tup [.i (.agg Ex.zero.cells), .bool false]
theorem aW:Ex.zero.cells=[.int 0, .int 0, .bool false, .int 0, .isl []]:=by simp[Ex.zero,Ex.cells,Ex.aB,Val.zero]
end Go.Av
namespace Go.Proofs.YtjdfjgmebalaaaaGreat
open Go Go.Av
set_option maxRecDepth 4000
theorem ARJ {e:Ex} {l:List Ex} {w:Int} (h:e.ok l.length=false):aI C0 158 [.i (.agg e.cells), .i (.isl (Ex.aB l)), .int w] []=some (AQM (e.subst l w),[]):=by
 rw[aF rfl Tryz.func158 rfl rfl];have hc:=ok_eq l.length e;rw[h]at hc;rw[Ex.aA e]at hc ⊢;simp[hc,Ex.subst,h,AQM,aW]
theorem NY:∀ (hs:List Nat) (h:Nat),qH hs++[[.int h]]=qH (hs++[h])
 | [],_=>rfl
 | _::hs,h=>by simp[qH,NY hs h]
def IX (e:Ex) (l:List Ex) (w:Int) (i:Nat):AS :=
 { env:=[(0, .i (.agg [.int e.kind, .int e.col, .bool e.val.null, .int e.val.n, .isl (Ex.aB e.kids)])),(1, .i (.isl (Ex.aB l))),(2, .int w),(3, .own 0 0),(4, .own 1 0),(6, .own 2 0),(7, .bool false),(8, .osl 3 1 0 l.length),(9,jk i (.int (i-1))),(14, .bool false),(20, .int l.length),(21, .int i),(22,jk i (.bool true)),(30,jk i (.bool false)),(42, .junk)],
   st:=[some (.box [.int e.kind, .int e.col, .bool e.val.null, .int e.val.n, .i (.isl (Ex.aB e.kids))]),some (.box [.i (.isl (Ex.aB l))]),some (.box [.int 0, .int 0, .bool false, .int 0, .nils]),some (.arr 1 (qH ((l.map Ex.ht).take i)++List.replicate (l.length-i) [.int 0]))] }
theorem ARK {e:Ex} {l:List Ex} {w:Int} (h:e.ok l.length=true):aI C0 158 [.i (.agg e.cells), .i (.isl (Ex.aB l)), .int w] []=some (AQM (e.subst l w),[]):=by
 rw[aF rfl Tryz.func158 rfl rfl];have hc:=ok_eq l.length e;rw[h]at hc;have hw:1≤(l.length:Int)∧(l.length:Int)≤6:=by simp[Ex.ok,bQ]at h;omega
 have hwf:e.wf l.length=true:=by simp[Ex.ok,Ex.SQ]at h;exact h.2.1
 have hsz:=Ex.gH h;rw[Ex.aA e]at hc ⊢;have hb:8*(l.length:Int)≤281474976710656:=by omega
 simp[hc,hb];obtain⟨j,h1,h2⟩:=iV (Ex.ok w) l;rw[aT (IX e l w) j (by simp[IX,qH])]
 ·rw[aG]
  rcases h2 with ⟨hj,ha⟩|⟨k,h3,h4,h5,ha⟩
  ·have ht:(l.map Ex.ht).take l.length=l.map Ex.ht:=zZ (by simp);have ht2:(qH (l.map Ex.ht)).take l.length=qH (l.map Ex.ht):=zZ (by simp);have hf:=AS9 (m:=l.length) (hs:=l.map Ex.ht) (by simp) e hwf (by omega) 8 (by omega);have hr:=TU (m:=l.length) l rfl (fun b hb=>by have:=Ex.gH (zO.1 ha b hb);omega) e hwf (by omega)
   have hwl:∀ b∈l,b.wf w=true:=fun b hb=>by
    have:=zO.1 ha b hb;simp[Ex.ok,Ex.SQ]at this;exact this.2.1
   have hww:bQ w=true:=by
    cases l with
    | nil=>simp at hw
    | cons b l=>simp[Ex.ok]at ha;exact ha.1.1
   have hq:(e.sub l).ok w=decide ((e.htS (l.map Ex.ht):Int)≤8):=by
    simp only[Ex.ok,Ex.SQ,Ex.AU6 (m:=l.length) l rfl hwl e hwf,Ex.AX0 (w:=l.length) l rfl e hwf,hww,Bool.true_and];rw[zB8];simp;omega
   rw[Ex.aA e]at hf hr;rw[← hq]at hf
   cases hq':(e.sub l).ok w with
   | true=>rw[hq']at hf;simp[IX,hj,ht,ht2,hf,hr,Ex.subst,h,ha,hq',AQM]
   | false=>rw[hq']at hf;simp[IX,hj,ht,ht2,hf,Ex.subst,h,ha,hq',AQM,aW]
  ·have r1:=(zY.1 h3).1;have r2:=Ex.aP h3;have r3:=ok_eq w k;rw[h5]at r3;simp[IX,r1,r2,r3,Ex.subst,h,ha,AQM,aW]
 ·intro i hi;obtain⟨k,h3,h4,h5⟩:=h1 i hi;have r1:=(zY.1 h3).1;have r2:=Ex.aP h3;have r3:=ok_eq w k;have w2:IntKind.i64.wrap ((i:Int)+1)=i+1:=wrO;have hh:=AHU k (by have:=Ex.gH h5;omega);rw[h5]at r3;have hD:(qH ((l.map Ex.ht).take i)).length=i:=by simp;omega
  have g1:=vS (n:=l.length) (z:=[IV.int 0]) hD r1;have g2:=vR (n:=l.length) (z:=[IV.int 0]) (x:=[IV.int k.ht]) hD r1;rw[NY,← aL (a:=k.ht) (by simp[h3])]at g2;simp[IX,r1,r2,r3,w2,hh,g1,g2]
end Go.Proofs.YtjdfjgmebalaaaaGreat
namespace Go.Av
end Go.Av
namespace Go.Proofs.YtjdfjgmebalaaaaGreat
open Go Go.Av
set_option maxRecDepth 4000
set_option maxHeartbeats 1000000
end Go.Proofs.YtjdfjgmebalaaaaGreat
namespace Go.Av
end Go.Av
namespace Go.Proofs.YtjdfjgmebalaaaaGreat
open Go Go.Av
set_option maxRecDepth 4000
set_option maxHeartbeats 1000000
end Go.Proofs.YtjdfjgmebalaaaaGreat
namespace Go.Av
def AkD (i:Nat):Ex:=.mk 1 i Val.zero []
def Ab3 (n:Nat):List Ex:=(List.range n).map AkD
def AMH (o:Option Ex):Ex:=o.getD Ex.zero
theorem AQL (o:Option Ex):AQM o=.tup [.i (.agg (AMH o).cells), .bool o.isSome]:=by cases o<;>rfl
end Go.Av
namespace Go.Proofs.YtjdfjgmebalaaaaGreat
open Go Go.Av
set_option maxRecDepth 4000
set_option maxHeartbeats 1000000
theorem AHJ (e:Ex) (l:List Ex) (w:Int):aI C0 158 [.i (.agg e.cells), .i (.isl (Ex.aB l)), .int w] []=some (.tup [.i (.agg (AMH (e.subst l w)).cells), .bool (e.subst l w).isSome],[]):=by
 rw[← AQL]
 cases h:e.ok l.length with
 | true=>exact ARK h
 | false=>exact ARJ h
def WX (code:List UInt8) (e:Ex) (l:List Ex) (w:Int) (i:Nat):AS :=
 { env:=[(0, .i (.isl (qQ code))),(2, .bool false),(3, .own 0 0),(4, .i (.isl (Ex.aB l))),(5, .int w),(6, .own 1 0),(7, .bool (e.subst l w).isSome),(8, .own 2 0),(9, .bool (e.subst l w).isSome),(10, .osl 3 5 0 i),(11, .int i),(12, .junk),(13, .junk),(16, .bool false),(52, .bool false),(65,jk i (.bool true))],
   st:=[some (.box (jW e.cells)),some (.box (jW (AMH (e.subst l w)).cells)),some (.box (jW (AMH (e.subst l w)).cells)),some (.arr 5 (Ex.aB (Ab3 i)))] }
@[simp] theorem AT3 (b:Bool) (n:Int):aI C0 194 [.i (.agg [.bool b, .int n])] []=some (.int (Val.tr ⟨b,n⟩),[]):=by
  rw[aF rfl Tryz.func194 rfl rfl]
  cases b
  ·by_cases h:n=0<;>simp[Val.tr,h]
  ·simp[Val.tr]
@[simp] theorem AZX:aI C0 212 [] []=some (.i (.agg [.bool true, .int 0]),[]):=by
  rw[aF rfl Tryz.func212 rfl rfl];simp
@[simp] theorem number_eq (n:Int):aI C0 211 [.int n] []=some (.i (.agg [.bool false, .int n]),[]):=by
  rw[aF rfl Tryz.func211 rfl rfl];simp
@[simp] theorem AGM (n:Int):aI C0 214 [.int n] []=some (.i (.agg [.bool (ATF n).null, .int (ATF n).n]),[]):=by
  rw[aF rfl Tryz.func214 rfl rfl];by_cases h:-9999≤n∧n≤9999<;>simp[ATF,Val.ok,h]
@[simp] theorem AaH (b:Bool):aI C0 215 [.bool b] []=some (.i (.agg [.bool (Y2 b).null, .int (Y2 b).n]),[]):=by
  rw[aF rfl Tryz.func215 rfl rfl]
  cases b<;>simp[Y2]
@[simp] theorem AUA (t:Int):aI C0 213 [.int t] []=some (.i (.agg [.bool (trV t).null, .int (trV t).n]),[]):=by
  rw[aF rfl Tryz.func213 rfl rfl];by_cases h:t=1
  ·simp[trV,h]
  ·by_cases h2:t=2<;>simp[trV,Y2,h,h2]
theorem sM (k:Int) (a b:Val) (ha:a.ok=true) (hb:b.ok=true):aI C0 208 [.int k, .i (.agg [.bool a.null, .int a.n]), .i (.agg [.bool b.null, .int b.n])] []=some (.i (.agg [.bool (Val.cmb k a b).null, .int (Val.cmb k a b).n]),[]):=by
 rw[aF rfl Tryz.func208 rfl rfl];obtain⟨an,a⟩:=a;obtain⟨bn,b⟩:=b;have ba:-9999≤a∧a≤9999:=by cases an<;>simp[Val.ok]at ha<;>omega
 have bb:-9999≤b∧b≤9999:=by cases bn<;>simp[Val.ok]at hb<;>omega
 have w1:IntKind.i64.wrap (a+b)=a+b:=wrO;have w2:IntKind.i64.wrap (a-b)=a-b:=wrO
 have w3:IntKind.i64.wrap (a*b)=a*b:=by
  have h1:a*b≤9999*9999:=by
   have:=Int.mul_le_mul_of_natAbs_le (x:=a) (y:=b) (s:=9999) (t:=9999) (by omega) (by omega);omega
  have h2:-(9999*9999)≤a*b:=by
   have:=Int.mul_le_mul_of_natAbs_le (x:=-a) (y:=b) (s:=9999) (t:=9999) (by omega) (by omega);rw[Int.neg_mul]at this;omega
  exact wrO
 by_cases k8:k=8
 ·by_cases hm:Val.tr ⟨bn,b⟩<Val.tr ⟨an,a⟩<;>simp[Val.cmb,k8,hm]
 by_cases k9:k=9
 ·by_cases hm:Val.tr ⟨an,a⟩<Val.tr ⟨bn,b⟩<;>simp[Val.cmb,k9,hm]
 cases an
 ·cases bn
  ·by_cases k3:k=3
   ·simp[Val.cmb,k3,w1]
   by_cases k4:k=4
   ·simp[Val.cmb,k4,w2]
   by_cases k5:k=5
   ·simp[Val.cmb,k5,w3]
   by_cases k6:k=6
   ·simp[Val.cmb,k6]
   ·simp[Val.cmb,k8,k9,k3,k4,k5,k6]
  ·simp[Val.cmb,k8,k9]
 ·simp[Val.cmb,k8,k9]
end Go.Proofs.YtjdfjgmebalaaaaGreat
namespace Go.Av
end Go.Av
namespace Go.Proofs.YtjdfjgmebalaaaaGreat
open Go Go.Av
set_option maxRecDepth 4000
set_option maxHeartbeats 1000000
end Go.Proofs.YtjdfjgmebalaaaaGreat
namespace Go.Av
end Go.Av
namespace Go.Proofs.YtjdfjgmebalaaaaGreat
open Go Go.Av
set_option maxRecDepth 4000
set_option maxHeartbeats 1000000
def SB (e:Ex) (w:Int) (vs:List Val) (i:Nat):AS :=
 { env:=[(0, .i (.agg [.int e.kind, .int e.col, .bool e.val.null, .int e.val.n, .isl (Ex.aB e.kids)])),(1, .int w),(2, .i (.isl (vY vs))),(3, .own 0 0),(6, .own 1 0),(7, .bool false),(8, .int i),(9, .junk),(10, .junk),(14,jk i (.bool true)),(22,jk i (.bool false)),(34, .junk),(41, .junk)],
   st:=[some (.box [.int e.kind, .int e.col, .bool e.val.null, .int e.val.n, .i (.isl (Ex.aB e.kids))]),some (.box [.int 0, .int 0, .bool false, .int 0, .nils])] }
end Go.Proofs.YtjdfjgmebalaaaaGreat
namespace Go.Av
mutual
def Ex.ext (w:Int) (vs:List Val):Ex→Ex×List Val
 | .mk k c v ks=>if k=2 then(.mk 1 (w+vs.length) Val.zero [],vs++[v])else((.mk k c Val.zero (Ex.AYW w vs ks).1),(Ex.AYW w vs ks).2)
def Ex.AYW (w:Int) (vs:List Val):List Ex→List Ex×List Val
 | []=>([],vs)
 | e::es=>(((Ex.ext w vs e).1::(Ex.AYW w (Ex.ext w vs e).2 es).1),(Ex.AYW w (Ex.ext w vs e).2 es).2)
end
end Go.Av
namespace Go.Proofs.YtjdfjgmebalaaaaGreat
open Go Go.Av
set_option maxRecDepth 4000
set_option maxHeartbeats 2000000
def xv (a b:Nat):AV:=if b=a then .osl 0 2 0 a else .osl 1 2 0 b
def wi (n:Nat):Nat:=if n=0 then 1 else 2
end Go.Proofs.YtjdfjgmebalaaaaGreat
namespace Go.Av
end Go.Av
namespace Go.Proofs.YtjdfjgmebalaaaaGreat
open Go Go.Av
set_option maxRecDepth 4000
set_option maxHeartbeats 2000000
end Go.Proofs.YtjdfjgmebalaaaaGreat
namespace Go.Av
end Go.Av
namespace Go.Proofs.YtjdfjgmebalaaaaGreat
open Go Go.Av
set_option maxRecDepth 4000
set_option maxHeartbeats 2000000
set_option maxHeartbeats 4000000
end Go.Proofs.YtjdfjgmebalaaaaGreat
namespace Go.Av
end Go.Av
namespace Go.Proofs.YtjdfjgmebalaaaaGreat
open Go Go.Av
set_option maxRecDepth 4000
set_option maxHeartbeats 2000000
end Go.Proofs.YtjdfjgmebalaaaaGreat
namespace Go.Proofs.YtjdfjgmebalaaaaGreat.P
open Go Go.Av
set_option maxRecDepth 4000
theorem uD (n:Int):n=1∨n=2∨n=3∨n=4∨n=5∨n=6∨n=7∨n=8∨(n≠1∧n≠2∧n≠3∧n≠4∧n≠5∧n≠6∧n≠7∧n≠8):=by omega
@[simp] theorem AJP (n:Int):aI C0 146 [.int n] []=some (.tup [.int (eY n), .int (jY n)],[]):=by
  rw[aF rfl Tryz.func146 rfl rfl]
  rcases uD n with rfl|rfl|rfl|rfl|rfl|rfl|rfl|rfl|⟨h1,h2,h3,h4,h5,h6,h7,h8⟩
  all_goals first
   | (simp[eY,jY];done)
   | (have e1:eY n=0:=by unfold eY;rw[if_neg (by omega)]
      have e2:jY n=-1:=by unfold jY;rw[if_neg (by omega),if_neg (by omega),if_neg (by omega)]
      simp[e1,e2,h1,h2,h3,h4,h5,h6,h7,h8])
def pv (cs:List Int) (i:Nat):Int:=((-1)::cs)[i]?.getD 0
theorem AG6 {cs:List Int} {i:Nat} {c:Int} (h:cs[i]?=some c):pv cs (i+1)=c:=by simp[pv,h]
theorem DT {cs:List Int} {i:Nat} {x:Int×Int} (h:(cs.zip (-1::cs))[i]?=some x):cs[i]?=some x.1∧pv cs i=x.2:=by
 rw[List.getElem?_zip_eq_some]at h;exact⟨h.1,by simp[pv,h.2]⟩
theorem AAQ (cs:List Int):(cs.zip (-1::cs)).length=cs.length:=by simp
def GX (cs:List Int) (w:Int) (i:Nat):AS :=
 { env:=[(0, .i (.isl (aD cs))),(1, .int w),(4, .bool false),(5, .int (pv cs i)),(7,jk i (.int (pv cs i))),(10, .bool false),(11, .i (.isl (aD cs))),(12, .int cs.length),(13, .int i),(14,jk i (.bool true)),(24,jk i (.bool false))],st:=[] }
theorem vZ (cs:List Int) (w:Int):aI C0 174 [.i (.isl (aD cs)), .int w] []=some (.bool (decide (cs.length<6) && tN w cs),[]):=by
 rw[aF rfl Tryz.func174 rfl rfl];by_cases h6:cs.length<6
 case neg=>simp[h6,show(6:Int)≤cs.length by omega]
 simp[h6,show ¬ (6:Int)≤cs.length by omega];obtain⟨j,h1,h2⟩:=iV (fun x:Int×Int=>decide (x.2<x.1∧x.1<w)) (cs.zip (-1::cs));rw[aT (GX cs w) j (by simp[GX,pv])]
 ·rw[aG]
  rcases h2 with ⟨hj,ha⟩|⟨x,h3,_,h4,ha⟩
  ·rw[AAQ]at hj;have ha:tN w cs=true:=ha;simp[GX,hj,ha]
  ·obtain⟨c1,c2⟩:=DT h3;have r1:=(zY.1 c1).1;have r2:=bK c1;have hb:¬ (x.2<x.1∧x.1<w):=by simpa using h4
   have ha:tN w cs=false:=ha;by_cases hx:x.1≤x.2
   ·simp[GX,r1,r2,c2,hx,ha]
   ·simp[GX,r1,r2,c2,hx,ha,show w≤x.1 by omega]
 ·intro i hi;obtain⟨x,h3,_,h4⟩:=h1 i hi;obtain⟨c1,c2⟩:=DT h3;have r1:=(zY.1 c1).1;have r2:=bK c1;have c3:=AG6 c1;have hb:x.2<x.1∧x.1<w:=by simpa using h4
  have w2:IntKind.i64.wrap ((i:Int)+1)=i+1:=wrO;simp[GX,r1,r2,c2,c3,w2,show ¬ x.1≤x.2 by omega,show ¬ w≤x.1 by omega]
def WX (p:Pn) (a b y:Int) (x14:Bool) (n21 n22:Nat) (x22:Bool) (n26 n27:Nat) (x27:Bool) (i:Nat):AS :=
 { env:=[(0, .i (.iref [.int p.kind, .int p.table, .isl (Ex.aB p.exprs), .isl (aD p.cols), .isl (Pn.aB p.kids)])),(1, .int a),(2, .int b),(6, .int 0),(7, .int y),(8,jk i (.int (i-1))),(13, .int p.kind),(14, .bool x14),(21,jk n21 (.bool false)),(22,jk n22 (.bool x22)),(26,jk n26 (.bool false)),(27,jk n27 (.bool x27)),(35, .junk),(46, .int p.exprs.length),(47, .int i),(48,jk i (.bool true)),(59,jk i (.bool false)),(65, .junk)],st:=[] }
theorem iI (p:Pn) (a b:Int) (ha:0≤a∧a≤6) (hb:0≤b∧b≤6) (hd:p.headOk=true):aI C0 147 [.i (.iref p.cells), .int a, .int b] []=some (.int (dE p.kind p.exprs p.cols a b),[]):=by
 rw[aF rfl Tryz.func147 rfl rfl];have he:=Pn.uL hd;rw[Pn.aA];have hg:=vZ p.cols a;have w1:IntKind.i64.wrap (a+b)=a+b:=wrO;by_cases h6:p.kind=6
 ·have h8:p.kind≠8:=by omega
  have h4:p.kind≠5:=by omega
  have hz:p.exprs=[]:=by
   simp only[Pn.headOk,zT,zM,h6]at hd;have:=hd.2.1;simp[eY]at this;exact this
  by_cases hab:a=b
  ·subst hab;simp[h6];rw[aG];simp[hz,h6,dE]
  ·simp[h6,hab,dE]
 by_cases h8:p.kind=8
 ·by_cases h9:p.cols.length<6
  ·have w3:IntKind.i64.wrap ((p.cols.length:Int)+1)=p.cols.length+1:=wrO
   cases hc:tN a p.cols<;>simp[h8,hg,h9,hc,dE,w3]
  ·simp[h8,hg,h9,dE]
 by_cases h45:p.kind=4∨p.kind=5
 ·by_cases hs:a+b≤6
  case neg=>rcases h45 with h4|h4<;>simp[h4,w1,show 6<a+b by omega,dE,hs]
  have h4:True:=trivial
  rcases h45 with h45|h45
  ·simp[h45,w1,show ¬ 6<a+b by omega];obtain⟨j,h1,h2⟩:=iV (Ex.ok (a+b)) p.exprs;rw[aT (WX p a b (a+b) true 1 0 false 0 0 false) j (by simp[WX,h45])]
   ·rw[aG]
    rcases h2 with ⟨hj,hall⟩|⟨x,h3,_,h5,hall⟩
    ·simp[WX,hj,hall,dE,h45,hs]
    ·have r1:=(zY.1 h3).1;have r2:=Ex.aP h3;have r3:=ok_eq (a+b) x;rw[h5]at r3;rw[Ex.aA]at r2 r3;simp[WX,r1,r2,r3,hall,dE,h45,hs]
   ·intro i hi;obtain⟨x,h3,_,h5⟩:=h1 i hi;have r1:=(zY.1 h3).1;have r2:=Ex.aP h3;have r3:=ok_eq (a+b) x;rw[h5]at r3;rw[Ex.aA]at r2 r3;have w2:IntKind.i64.wrap ((i:Int)+1)=i+1:=wrO;simp[WX,r1,r2,r3,w2,h45]
  ·simp[h45,w1,show ¬ 6<a+b by omega];obtain⟨j,h1,h2⟩:=iV (Ex.ok (a+b)) p.exprs;rw[aT (WX p a b (a+b) true 1 0 false 0 0 false) j (by simp[WX,h45])]
   ·rw[aG]
    rcases h2 with ⟨hj,hall⟩|⟨x,h3,_,h5,hall⟩
    ·simp[WX,hj,hall,dE,h45,hs]
    ·have r1:=(zY.1 h3).1;have r2:=Ex.aP h3;have r3:=ok_eq (a+b) x;rw[h5]at r3;rw[Ex.aA]at r2 r3;simp[WX,r1,r2,r3,hall,dE,h45,hs]
   ·intro i hi;obtain⟨x,h3,_,h5⟩:=h1 i hi;have r1:=(zY.1 h3).1;have r2:=Ex.aP h3;have r3:=ok_eq (a+b) x;rw[h5]at r3;rw[Ex.aA]at r2 r3;have w2:IntKind.i64.wrap ((i:Int)+1)=i+1:=wrO;simp[WX,r1,r2,r3,w2,h45]
 have h4:p.kind≠4:=by omega
 have h5':p.kind≠5:=by omega
 simp[h6,h8,h4,h5'];obtain⟨j,h1,h2⟩:=iV (Ex.ok (a)) p.exprs;rw[aT (WX p a b a false 0 1 false 0 1 false) j (by simp[WX,h6,h8,h5'])]
 ·rw[aG]
  rcases h2 with ⟨hj,hall⟩|⟨x,h3,_,h5,hall⟩
  ·by_cases h3':p.kind=3
   ·simp[WX,hj,hall,dE,h3']
   ·simp[WX,hj,hall,dE,h6,h8,h4,h5',h3']
  ·have r1:=(zY.1 h3).1;have r2:=Ex.aP h3;have r3:=ok_eq (a) x;rw[h5]at r3;rw[Ex.aA]at r2 r3;by_cases h3':p.kind=3
   ·simp[WX,r1,r2,r3,hall,dE,h3']
   ·simp[WX,r1,r2,r3,hall,dE,h6,h8,h4,h5',h3']
 ·intro i hi;obtain⟨x,h3,_,h5⟩:=h1 i hi;have r1:=(zY.1 h3).1;have r2:=Ex.aP h3;have r3:=ok_eq (a) x;rw[h5]at r3;rw[Ex.aA]at r2 r3;have w2:IntKind.i64.wrap ((i:Int)+1)=i+1:=wrO;simp[WX,r1,r2,r3,w2]
set_option maxHeartbeats 2000000
@[simp] theorem Aa6:jY 1=0:=by decide
@[simp] theorem AYO:eY 1=0:=by decide
@[simp] theorem Aa5:jY 2=1:=by decide
@[simp] theorem AYN:eY 2=1:=by decide
@[simp] theorem Aa4:jY 3=1:=by decide
@[simp] theorem AYM:eY 3=1:=by decide
@[simp] theorem Aa3:jY 4=2:=by decide
@[simp] theorem AYL:eY 4=1:=by decide
@[simp] theorem Aa2:jY 5=2:=by decide
@[simp] theorem AYK:eY 5=1:=by decide
@[simp] theorem Aa1:jY 6=2:=by decide
@[simp] theorem AYJ:eY 6=0:=by decide
@[simp] theorem Aa0:jY 7=1:=by decide
@[simp] theorem AYI:eY 7=0:=by decide
@[simp] theorem AZZ:jY 8=1:=by decide
@[simp] theorem AYH:eY 8=0:=by decide
theorem ZT {k:Int} (h:k≠1∧k≠2∧k≠3∧k≠4∧k≠5∧k≠6∧k≠7∧k≠8):jY k=-1:=by
 unfold jY;rw[if_neg (by omega),if_neg (by omega),if_neg (by omega)]
theorem YK {ws:List Int} {t:Int} {es:List Ex} {cs:List Int} {ks:List Pn} {lv:Nat} {k:Int} (h:k≠1∧k≠2∧k≠3∧k≠4∧k≠5∧k≠6∧k≠7∧k≠8):aI C0 109 [.i (.iref [.int k, .int t, .isl (Ex.aB es), .isl (aD cs), .isl (Pn.aB ks)]), .i (.isl (aD ws)), .int lv] []=some (.int 0,[]):=by
 rw[aF rfl Tryz.func109 rfl rfl];have c1:¬ (ks.length:Int)=-1:=by omega
 have hn:=ZT h;simp[h.2.2.1,hn,c1]
theorem AIZ {ws:List Int} {t:Int} {es:List Ex} {cs:List Int} {ks:List Pn} {lv:Nat} (h:¬ ((ks.length:Int)=0∧(es.length:Int)=0∧True∧cs=[])):aI C0 109 [.i (.iref [.int 1, .int t, .isl (Ex.aB es), .isl (aD cs), .isl (Pn.aB ks)]), .i (.isl (aD ws)), .int lv] []=some (.int 0,[]):=by
 rw[aF rfl Tryz.func109 rfl rfl];by_cases c1:(ks.length:Int)=0
 case neg=>simp at c1;simp[c1]
 by_cases c2:(es.length:Int)=0
 case neg=>simp at c2;simp[c1,c2]
 by_cases c5:cs=[]
 case neg=>simp[c1,c2,c5]
 exact absurd (by simp[c1,c2,c5]) h
theorem AIY {ws:List Int} {t:Int} {es:List Ex} {cs:List Int} {ks:List Pn} {lv:Nat} (h:¬ ((ks.length:Int)=1∧(es.length:Int)=1∧lv≠0∧t=0∧cs=[])):aI C0 109 [.i (.iref [.int 2, .int t, .isl (Ex.aB es), .isl (aD cs), .isl (Pn.aB ks)]), .i (.isl (aD ws)), .int lv] []=some (.int 0,[]):=by
 rw[aF rfl Tryz.func109 rfl rfl];by_cases c1:(ks.length:Int)=1
 case neg=>simp[c1]
 by_cases c2:(es.length:Int)=1
 case neg=>simp[c1,c2]
 by_cases c3:lv=0
 case pos=>subst c3;simp[c1,c2]
 have c3':¬ (lv:Int)=0:=by omega
 by_cases c4:t=0
 case neg=>simp[c1,c2,c3,c3',c4]
 by_cases c5:cs=[]
 case neg=>simp[c1,c2,c3,c3',c4,c5]
 exact absurd (by simp[c1,c2,c3,c3',c4,c5]) h
theorem AIW {ws:List Int} {t:Int} {es:List Ex} {cs:List Int} {ks:List Pn} {lv:Nat} (h:¬ ((ks.length:Int)=1∧(es.length:Int)=(if bQ es.length=true then(es.length:Int)else 1)∧lv≠0∧t=0∧cs=[])):aI C0 109 [.i (.iref [.int 3, .int t, .isl (Ex.aB es), .isl (aD cs), .isl (Pn.aB ks)]), .i (.isl (aD ws)), .int lv] []=some (.int 0,[]):=by
 rw[aF rfl Tryz.func109 rfl rfl]
 cases hv:bQ es.length
 ·have hq:(es.length:Int)≠1:=fun hq=>by rw[hq]at hv;simp[bQ]at hv
  by_cases c1:(ks.length:Int)=1
  case neg=>simp[hv,c1]
  simp[hv,c1,hq]
 by_cases c1:(ks.length:Int)=1
 case neg=>simp[hv,c1]
 by_cases c3:lv=0
 case pos=>subst c3;simp[hv,c1]
 have c3':¬ (lv:Int)=0:=by omega
 by_cases c4:t=0
 case neg=>simp[hv,c1,c3,c3',c4]
 by_cases c5:cs=[]
 case neg=>simp[hv,c1,c3,c3',c4,c5]
 exact absurd (by simp[hv,c1,c3,c4,c5]) h
theorem AIV {ws:List Int} {t:Int} {es:List Ex} {cs:List Int} {ks:List Pn} {lv:Nat} (h:¬ ((ks.length:Int)=2∧(es.length:Int)=1∧lv≠0∧t=0∧cs=[])):aI C0 109 [.i (.iref [.int 4, .int t, .isl (Ex.aB es), .isl (aD cs), .isl (Pn.aB ks)]), .i (.isl (aD ws)), .int lv] []=some (.int 0,[]):=by
 rw[aF rfl Tryz.func109 rfl rfl];by_cases c1:(ks.length:Int)=2
 case neg=>simp[c1]
 by_cases c2:(es.length:Int)=1
 case neg=>simp[c1,c2]
 by_cases c3:lv=0
 case pos=>subst c3;simp[c1,c2]
 have c3':¬ (lv:Int)=0:=by omega
 by_cases c4:t=0
 case neg=>simp[c1,c2,c3,c3',c4]
 by_cases c5:cs=[]
 case neg=>simp[c1,c2,c3,c3',c4,c5]
 exact absurd (by simp[c1,c2,c3,c3',c4,c5]) h
theorem AIU {ws:List Int} {t:Int} {es:List Ex} {cs:List Int} {ks:List Pn} {lv:Nat} (h:¬ ((ks.length:Int)=2∧(es.length:Int)=1∧lv≠0∧t=0∧cs=[])):aI C0 109 [.i (.iref [.int 5, .int t, .isl (Ex.aB es), .isl (aD cs), .isl (Pn.aB ks)]), .i (.isl (aD ws)), .int lv] []=some (.int 0,[]):=by
 rw[aF rfl Tryz.func109 rfl rfl];by_cases c1:(ks.length:Int)=2
 case neg=>simp[c1]
 by_cases c2:(es.length:Int)=1
 case neg=>simp[c1,c2]
 by_cases c3:lv=0
 case pos=>subst c3;simp[c1,c2]
 have c3':¬ (lv:Int)=0:=by omega
 by_cases c4:t=0
 case neg=>simp[c1,c2,c3,c3',c4]
 by_cases c5:cs=[]
 case neg=>simp[c1,c2,c3,c3',c4,c5]
 exact absurd (by simp[c1,c2,c3,c3',c4,c5]) h
theorem AIT {ws:List Int} {t:Int} {es:List Ex} {cs:List Int} {ks:List Pn} {lv:Nat} (h:¬ ((ks.length:Int)=2∧(es.length:Int)=0∧lv≠0∧t=0∧cs=[])):aI C0 109 [.i (.iref [.int 6, .int t, .isl (Ex.aB es), .isl (aD cs), .isl (Pn.aB ks)]), .i (.isl (aD ws)), .int lv] []=some (.int 0,[]):=by
 rw[aF rfl Tryz.func109 rfl rfl];by_cases c1:(ks.length:Int)=2
 case neg=>simp[c1]
 by_cases c2:(es.length:Int)=0
 case neg=>simp at c2;simp[c1,c2]
 by_cases c3:lv=0
 case pos=>subst c3;simp[c1,c2]
 have c3':¬ (lv:Int)=0:=by omega
 by_cases c4:t=0
 case neg=>simp[c1,c2,c3,c3',c4]
 by_cases c5:cs=[]
 case neg=>simp[c1,c2,c3,c3',c4,c5]
 exact absurd (by simp[c1,c2,c3,c3',c4,c5]) h
theorem AIS {ws:List Int} {t:Int} {es:List Ex} {cs:List Int} {ks:List Pn} {lv:Nat} (h:¬ ((ks.length:Int)=1∧(es.length:Int)=0∧lv≠0∧t=0∧cs=[])):aI C0 109 [.i (.iref [.int 7, .int t, .isl (Ex.aB es), .isl (aD cs), .isl (Pn.aB ks)]), .i (.isl (aD ws)), .int lv] []=some (.int 0,[]):=by
 rw[aF rfl Tryz.func109 rfl rfl];by_cases c1:(ks.length:Int)=1
 case neg=>simp[c1]
 by_cases c2:(es.length:Int)=0
 case neg=>simp at c2;simp[c1,c2]
 by_cases c3:lv=0
 case pos=>subst c3;simp[c1,c2]
 have c3':¬ (lv:Int)=0:=by omega
 by_cases c4:t=0
 case neg=>simp[c1,c2,c3,c3',c4]
 by_cases c5:cs=[]
 case neg=>simp[c1,c2,c3,c3',c4,c5]
 exact absurd (by simp[c1,c2,c3,c3',c4,c5]) h
theorem AIR {ws:List Int} {t:Int} {es:List Ex} {cs:List Int} {ks:List Pn} {lv:Nat} (h:¬ ((ks.length:Int)=1∧(es.length:Int)=0∧lv≠0∧t=0)):aI C0 109 [.i (.iref [.int 8, .int t, .isl (Ex.aB es), .isl (aD cs), .isl (Pn.aB ks)]), .i (.isl (aD ws)), .int lv] []=some (.int 0,[]):=by
 rw[aF rfl Tryz.func109 rfl rfl];by_cases c1:(ks.length:Int)=1
 case neg=>simp[c1]
 by_cases c2:(es.length:Int)=0
 case neg=>simp at c2;simp[c1,c2]
 by_cases c3:lv=0
 case pos=>subst c3;simp[c1,c2]
 have c3':¬ (lv:Int)=0:=by omega
 by_cases c4:t=0
 case neg=>simp[c1,c2,c3,c3',c4]
 exact absurd (by simp[c1,c2,c3,c3',c4]) h
theorem AE2 {ws:List Int} {t:Int} {lv:Nat}:aI C0 109 [.i (.iref [.int 1, .int t, .isl (Ex.aB []), .isl (aD []), .isl (Pn.aB [])]), .i (.isl (aD ws)), .int lv] []=some (.int (if 0≤t then(ws[t.toNat]?).getD 0 else 0),[]):=by
 rw[aF rfl Tryz.func109 rfl rfl];by_cases h0:0≤t
 case neg=>simp[Ex.aB,Pn.aB,aD,h0,show t<0 by omega]
 cases hx:ws[t.toNat]? with
 | none =>
  have:=zA9.1 hx;simp[Ex.aB,Pn.aB,aD,h0,show ¬ t<0 by omega,show(ws.length:Int)≤t by omega]
 | some x =>
  have r1:=(zY.1 hx).1;have r2:=bK hx;simp[Ex.aB,Pn.aB,aD,h0,show ¬ t<0 by omega,show ¬ (ws.length:Int)≤t by omega,r2,show t<ws.length by omega]
theorem AE1 {ws:List Int} {es:List Ex} {a:Pn} {lv:Nat} {va:Int} (hl:lv≠0) (hl8:lv≤8) (hd:Pn.headOk (Pn.mk 2 0 es [] [a])=true) (ha:aI C0 109 [.i (.iref a.cells), .i (.isl (aD ws)), .int (lv-1:Nat)] []=some (.int va,[])) (ra:0≤va∧va≤6):aI C0 109 [.i (.iref [.int 2, .int 0, .isl (Ex.aB es), .isl (aD []), .isl (Pn.aB [a])]), .i (.isl (aD ws)), .int lv] []=some (.int (if va=0 then 0 else dE 2 es [] va 0),[]):=by
 rw[aF rfl Tryz.func109 rfl rfl];have c3':¬ (lv:Int)=0:=by omega
 have w1:IntKind.i64.wrap ((lv:Int)-1)=(lv-1:Nat):=by rw[wrO];omega
 have r0:fU [a.cells] 0=some a.cells:=rfl;have hov:=iI (Pn.mk 2 0 es [] [a]) va 0 ra (by omega) hd;rw[Pn.dX]at hov;simp only[Pn.eO,Pn.cB,Pn.eT,Pn.aB,aD,Ex.aB]at hov;rw[Pn.aA a]at ha hov r0
 have c2:(es.length:Int)=1:=by
  simp only[Pn.headOk,zT,zM,Pn.cB,Pn.eO]at hd;simpa using hd.2.1
 simp[c2,hl,c3',Pn.aB,aD,Ex.aB];rw[Pn.aA a];rw[aG];by_cases z1:va=0
 case pos=>simp[w1,ha,r0,z1]
 simp[w1,ha,r0,z1,dP];rw[aG];simp[hov,z1]
theorem AE0 {ws:List Int} {es:List Ex} {a:Pn} {lv:Nat} {va:Int} (hl:lv≠0) (hl8:lv≤8) (hd:Pn.headOk (Pn.mk 3 0 es [] [a])=true) (ha:aI C0 109 [.i (.iref a.cells), .i (.isl (aD ws)), .int (lv-1:Nat)] []=some (.int va,[])) (ra:0≤va∧va≤6):aI C0 109 [.i (.iref [.int 3, .int 0, .isl (Ex.aB es), .isl (aD []), .isl (Pn.aB [a])]), .i (.isl (aD ws)), .int lv] []=some (.int (if va=0 then 0 else dE 3 es [] va 0),[]):=by
 rw[aF rfl Tryz.func109 rfl rfl];have c3':¬ (lv:Int)=0:=by omega
 have w1:IntKind.i64.wrap ((lv:Int)-1)=(lv-1:Nat):=by rw[wrO];omega
 have r0:fU [a.cells] 0=some a.cells:=rfl;have hov:=iI (Pn.mk 3 0 es [] [a]) va 0 ra (by omega) hd;rw[Pn.dX]at hov;simp only[Pn.eO,Pn.cB,Pn.eT,Pn.aB,aD,Ex.aB]at hov;rw[Pn.aA a]at ha hov r0
 have hv:bQ es.length=true∨(es.length:Int)=1:=by
  simp only[Pn.headOk,zT,zM,Pn.cB,Pn.eO]at hd;have:=hd.2.1;split at this
  ·rename_i h;exact .inl h.2
  ·exact .inr (by simpa using this)
 have hv:bQ es.length=true:=by
  rcases hv with h|h
  ·exact h
  ·rw[h];decide
 simp[hv,hl,c3',Pn.aB,aD,Ex.aB];rw[Pn.aA a];rw[aG];by_cases z1:va=0
 case pos=>simp[w1,ha,r0,z1]
 simp[w1,ha,r0,z1,dP];rw[aG];simp[hov,z1]
theorem ADZ {ws:List Int} {es:List Ex} {a b:Pn} {lv:Nat} {va vb:Int} (hl:lv≠0) (hl8:lv≤8) (hd:Pn.headOk (Pn.mk 4 0 es [] [a,b])=true) (ha:aI C0 109 [.i (.iref a.cells), .i (.isl (aD ws)), .int (lv-1:Nat)] []=some (.int va,[])) (ra:0≤va∧va≤6) (hb:aI C0 109 [.i (.iref b.cells), .i (.isl (aD ws)), .int (lv-1:Nat)] []=some (.int vb,[])) (rb:0≤vb∧vb≤6):aI C0 109 [.i (.iref [.int 4, .int 0, .isl (Ex.aB es), .isl (aD []), .isl (Pn.aB [a,b])]), .i (.isl (aD ws)), .int lv] []=some (.int (if va=0∨vb=0 then 0 else dE 4 es [] va vb),[]):=by
 rw[aF rfl Tryz.func109 rfl rfl];have c3':¬ (lv:Int)=0:=by omega
 have w1:IntKind.i64.wrap ((lv:Int)-1)=(lv-1:Nat):=by rw[wrO];omega
 have r0:fU [a.cells,b.cells] 0=some a.cells:=rfl;have r1:fU [a.cells,b.cells] 1=some b.cells:=rfl;have hov:=iI (Pn.mk 4 0 es [] [a,b]) va vb ra rb hd;rw[Pn.dX]at hov;simp only[Pn.eO,Pn.cB,Pn.eT,Pn.aB,aD,Ex.aB]at hov;rw[Pn.aA a]at ha hov r0 r1;rw[Pn.aA b]at hb hov r0 r1
 have c2:(es.length:Int)=1:=by
  simp only[Pn.headOk,zT,zM,Pn.cB,Pn.eO]at hd;simpa using hd.2.1
 simp[c2,hl,c3',Pn.aB,aD,Ex.aB];rw[Pn.aA a,Pn.aA b];rw[aG];by_cases z1:va=0
 case pos=>simp[w1,ha,r0,z1]
 simp[w1,ha,r0,z1,dP];rw[aG];by_cases z2:vb=0
 case pos=>simp[w1,hb,r1,z2]
 simp[w1,hb,r1,z1,z2,wrap64 (x:=2) (by omega) (by omega)];rw[aG];simp[hov,z1,z2]
theorem ADY {ws:List Int} {es:List Ex} {a b:Pn} {lv:Nat} {va vb:Int} (hl:lv≠0) (hl8:lv≤8) (hd:Pn.headOk (Pn.mk 5 0 es [] [a,b])=true) (ha:aI C0 109 [.i (.iref a.cells), .i (.isl (aD ws)), .int (lv-1:Nat)] []=some (.int va,[])) (ra:0≤va∧va≤6) (hb:aI C0 109 [.i (.iref b.cells), .i (.isl (aD ws)), .int (lv-1:Nat)] []=some (.int vb,[])) (rb:0≤vb∧vb≤6):aI C0 109 [.i (.iref [.int 5, .int 0, .isl (Ex.aB es), .isl (aD []), .isl (Pn.aB [a,b])]), .i (.isl (aD ws)), .int lv] []=some (.int (if va=0∨vb=0 then 0 else dE 5 es [] va vb),[]):=by
 rw[aF rfl Tryz.func109 rfl rfl];have c3':¬ (lv:Int)=0:=by omega
 have w1:IntKind.i64.wrap ((lv:Int)-1)=(lv-1:Nat):=by rw[wrO];omega
 have r0:fU [a.cells,b.cells] 0=some a.cells:=rfl;have r1:fU [a.cells,b.cells] 1=some b.cells:=rfl;have hov:=iI (Pn.mk 5 0 es [] [a,b]) va vb ra rb hd;rw[Pn.dX]at hov;simp only[Pn.eO,Pn.cB,Pn.eT,Pn.aB,aD,Ex.aB]at hov;rw[Pn.aA a]at ha hov r0 r1;rw[Pn.aA b]at hb hov r0 r1
 have c2:(es.length:Int)=1:=by
  simp only[Pn.headOk,zT,zM,Pn.cB,Pn.eO]at hd;simpa using hd.2.1
 simp[c2,hl,c3',Pn.aB,aD,Ex.aB];rw[Pn.aA a,Pn.aA b];rw[aG];by_cases z1:va=0
 case pos=>simp[w1,ha,r0,z1]
 simp[w1,ha,r0,z1,dP];rw[aG];by_cases z2:vb=0
 case pos=>simp[w1,hb,r1,z2]
 simp[w1,hb,r1,z1,z2,wrap64 (x:=2) (by omega) (by omega)];rw[aG];simp[hov,z1,z2]
theorem ADW {ws:List Int} {a b:Pn} {lv:Nat} {va vb:Int} (hl:lv≠0) (hl8:lv≤8) (hd:Pn.headOk (Pn.mk 6 0 [] [] [a,b])=true) (ha:aI C0 109 [.i (.iref a.cells), .i (.isl (aD ws)), .int (lv-1:Nat)] []=some (.int va,[])) (ra:0≤va∧va≤6) (hb:aI C0 109 [.i (.iref b.cells), .i (.isl (aD ws)), .int (lv-1:Nat)] []=some (.int vb,[])) (rb:0≤vb∧vb≤6):aI C0 109 [.i (.iref [.int 6, .int 0, .isl (Ex.aB []), .isl (aD []), .isl (Pn.aB [a,b])]), .i (.isl (aD ws)), .int lv] []=some (.int (if va=0∨vb=0 then 0 else dE 6 [] [] va vb),[]):=by
 rw[aF rfl Tryz.func109 rfl rfl];have c3':¬ (lv:Int)=0:=by omega
 have w1:IntKind.i64.wrap ((lv:Int)-1)=(lv-1:Nat):=by rw[wrO];omega
 have r0:fU [a.cells,b.cells] 0=some a.cells:=rfl;have r1:fU [a.cells,b.cells] 1=some b.cells:=rfl;have hov:=iI (Pn.mk 6 0 [] [] [a,b]) va vb ra rb hd;rw[Pn.dX]at hov;simp only[Pn.eO,Pn.cB,Pn.eT,Pn.aB,aD,Ex.aB]at hov;rw[Pn.aA a]at ha hov r0 r1;rw[Pn.aA b]at hb hov r0 r1;simp[hl,c3',Pn.aB,aD,Ex.aB];rw[Pn.aA a,Pn.aA b];rw[aG];by_cases z1:va=0
 case pos=>simp[w1,ha,r0,z1]
 simp[w1,ha,r0,z1,dP];rw[aG];by_cases z2:vb=0
 case pos=>simp[w1,hb,r1,z2]
 simp[w1,hb,r1,z1,z2,wrap64 (x:=2) (by omega) (by omega)];rw[aG];simp[hov,z1,z2]
theorem ADV {ws:List Int} {a:Pn} {lv:Nat} {va:Int} (hl:lv≠0) (hl8:lv≤8) (hd:Pn.headOk (Pn.mk 7 0 [] [] [a])=true) (ha:aI C0 109 [.i (.iref a.cells), .i (.isl (aD ws)), .int (lv-1:Nat)] []=some (.int va,[])) (ra:0≤va∧va≤6):aI C0 109 [.i (.iref [.int 7, .int 0, .isl (Ex.aB []), .isl (aD []), .isl (Pn.aB [a])]), .i (.isl (aD ws)), .int lv] []=some (.int (if va=0 then 0 else dE 7 [] [] va 0),[]):=by
 rw[aF rfl Tryz.func109 rfl rfl];have c3':¬ (lv:Int)=0:=by omega
 have w1:IntKind.i64.wrap ((lv:Int)-1)=(lv-1:Nat):=by rw[wrO];omega
 have r0:fU [a.cells] 0=some a.cells:=rfl;have hov:=iI (Pn.mk 7 0 [] [] [a]) va 0 ra (by omega) hd;rw[Pn.dX]at hov;simp only[Pn.eO,Pn.cB,Pn.eT,Pn.aB,aD,Ex.aB]at hov;rw[Pn.aA a]at ha hov r0;simp[hl,c3',Pn.aB,aD,Ex.aB];rw[Pn.aA a];rw[aG];by_cases z1:va=0
 case pos=>simp[w1,ha,r0,z1]
 simp[w1,ha,r0,z1,dP];rw[aG];simp[hov,z1]
theorem ADU {ws:List Int} {cs:List Int} {a:Pn} {lv:Nat} {va:Int} (hl:lv≠0) (hl8:lv≤8) (hd:Pn.headOk (Pn.mk 8 0 [] cs [a])=true) (ha:aI C0 109 [.i (.iref a.cells), .i (.isl (aD ws)), .int (lv-1:Nat)] []=some (.int va,[])) (ra:0≤va∧va≤6):aI C0 109 [.i (.iref [.int 8, .int 0, .isl (Ex.aB []), .isl (aD cs), .isl (Pn.aB [a])]), .i (.isl (aD ws)), .int lv] []=some (.int (if va=0 then 0 else dE 8 [] cs va 0),[]):=by
 rw[aF rfl Tryz.func109 rfl rfl];have c3':¬ (lv:Int)=0:=by omega
 have w1:IntKind.i64.wrap ((lv:Int)-1)=(lv-1:Nat):=by rw[wrO];omega
 have r0:fU [a.cells] 0=some a.cells:=rfl;have hov:=iI (Pn.mk 8 0 [] cs [a]) va 0 ra (by omega) hd;rw[Pn.dX]at hov;simp only[Pn.eO,Pn.cB,Pn.eT,Pn.aB,aD,Ex.aB]at hov;rw[Pn.aA a]at ha hov r0;simp[hl,c3',Pn.aB,aD,Ex.aB];rw[Pn.aA a];rw[aG];by_cases z1:va=0
 case pos=>simp[w1,ha,r0,z1]
 simp[w1,ha,r0,z1,dP];rw[aG];simp[hov,z1]
theorem nS (k t:Int) (es:List Ex) (cs:List Int) (ks:List Pn):Pn.headOk (.mk k t es cs ks)=true↔((ks.length:Int)=jY k∧(es.length:Int)=(if k=3∧bQ es.length=true then(es.length:Int)else eY k)∧(k=1∨t=0)∧(k=8∨cs=[])):=by
 unfold Pn.headOk;simp only[zT,zE2,zM];exact Iff.rfl
theorem mO {α:Type} {l:List α} (h:(l.length:Int)=1):∃ a,l=[a]:=List.length_eq_one_iff.1 (by omega)
theorem EZ {α:Type} {l:List α} (h:(l.length:Int)=2):∃ a b,l=[a,b]:=by
 match l,h with
 | [a,b],_=>exact⟨a,b,rfl⟩
 | [],h=>simp at h
 | [_],h=>simp at h
 | _::_::_::_,h=>simp at h;omega
theorem iB {α:Type} {l:List α} (h:(l.length:Int)=0):l=[]:=zW.1 (by omega)
theorem BN {ws:List Int} (hw:∀ w∈ws,0≤w∧w≤6):∀ (p:Pn) (lv:Nat),lv≤8→aI C0 109 [.i (.iref p.cells), .i (.isl (aD ws)), .int lv] []=some (.int (p.wd ws lv),[]):=by
 intro p
 induction p using Pn.ind with
 | h k t es cs ks ih =>
  intro lv hlv;rw[Pn.dX];by_cases hh:Pn.headOk (.mk k t es cs ks)=true∧(ks=[]∨lv≠0)
  case neg =>
   rw[Pn.ABJ hh];rw[nS]at hh
   rcases uD k with rfl|rfl|rfl|rfl|rfl|rfl|rfl|rfl|h
   ·refine AIZ fun h=>hh ?_
    have:=iB h.1;simp[h.2.1,h.2.2.2,this]
   ·exact AIY fun h=>hh (by simp[h.1,h.2.1,h.2.2.1,h.2.2.2.1,h.2.2.2.2])
   ·exact AIW fun h=>hh (by refine⟨⟨by simp[h.1],by simpa using h.2.1,by simp[h.2.2.2.1],by simp[h.2.2.2.2]⟩, .inr h.2.2.1⟩)
   ·exact AIV fun h=>hh (by simp[h.1,h.2.1,h.2.2.1,h.2.2.2.1,h.2.2.2.2])
   ·exact AIU fun h=>hh (by simp[h.1,h.2.1,h.2.2.1,h.2.2.2.1,h.2.2.2.2])
   ·exact AIT fun h=>hh (by simp[h.1,iB h.2.1,h.2.2.1,h.2.2.2.1,h.2.2.2.2])
   ·exact AIS fun h=>hh (by simp[h.1,iB h.2.1,h.2.2.1,h.2.2.2.1,h.2.2.2.2])
   ·exact AIR fun h=>hh (by simp[h.1,iB h.2.1,h.2.2.1,h.2.2.2])
   ·exact YK h
  have hd:=hh.1;have hx:=Pn.BP ws lv (.mk k t es cs ks);rw[if_pos (by simpa using hh)]at hx;simp only[Pn.eO,Pn.iW,Pn.cB,Pn.eT,Pn.fQ]at hx;rw[hx];rw[nS]at hh;obtain⟨⟨h1,h2,h3,h4⟩,h5⟩:=hh;have hr:=fun a=>Pn.vF hw a (lv-1)
  rcases uD k with rfl|rfl|rfl|rfl|rfl|rfl|rfl|rfl|h
  ·obtain rfl:=iB (by simpa using h1);obtain rfl:es=[]:=iB (by simpa using h2);obtain rfl:cs=[]:=by simpa using h4
   exact AE2
  ·obtain⟨a,rfl⟩:=mO (by simpa using h1);obtain rfl:cs=[]:=by simpa using h4
   obtain rfl:t=0:=by simpa using h3
   have hl:lv≠0:=by simpa using h5
   rw[AE1 hl hlv hd (ih a (by simp) (lv-1) (by omega)) (hr a)];by_cases z:a.wd ws (lv-1)=0<;>simp[z]
  ·obtain⟨a,rfl⟩:=mO (by simpa using h1);obtain rfl:cs=[]:=by simpa using h4
   obtain rfl:t=0:=by simpa using h3
   have hl:lv≠0:=by simpa using h5
   rw[AE0 hl hlv hd (ih a (by simp) (lv-1) (by omega)) (hr a)];by_cases z:a.wd ws (lv-1)=0<;>simp[z]
  ·obtain⟨a,b,rfl⟩:=EZ (by simpa using h1);obtain rfl:cs=[]:=by simpa using h4
   obtain rfl:t=0:=by simpa using h3
   have hl:lv≠0:=by simpa using h5
   rw[ADZ hl hlv hd (ih a (by simp) (lv-1) (by omega)) (hr a) (ih b (by simp) (lv-1) (by omega)) (hr b)];by_cases z:a.wd ws (lv-1)=0<;>by_cases z2:b.wd ws (lv-1)=0<;>simp[z,z2]
  ·obtain⟨a,b,rfl⟩:=EZ (by simpa using h1);obtain rfl:cs=[]:=by simpa using h4
   obtain rfl:t=0:=by simpa using h3
   have hl:lv≠0:=by simpa using h5
   rw[ADY hl hlv hd (ih a (by simp) (lv-1) (by omega)) (hr a) (ih b (by simp) (lv-1) (by omega)) (hr b)];by_cases z:a.wd ws (lv-1)=0<;>by_cases z2:b.wd ws (lv-1)=0<;>simp[z,z2]
  ·obtain⟨a,b,rfl⟩:=EZ (by simpa using h1);obtain rfl:es=[]:=iB (by simpa using h2);obtain rfl:cs=[]:=by simpa using h4
   obtain rfl:t=0:=by simpa using h3
   have hl:lv≠0:=by simpa using h5
   rw[ADW hl hlv hd (ih a (by simp) (lv-1) (by omega)) (hr a) (ih b (by simp) (lv-1) (by omega)) (hr b)];by_cases z:a.wd ws (lv-1)=0<;>by_cases z2:b.wd ws (lv-1)=0<;>simp[z,z2]
  ·obtain⟨a,rfl⟩:=mO (by simpa using h1);obtain rfl:es=[]:=iB (by simpa using h2);obtain rfl:cs=[]:=by simpa using h4
   obtain rfl:t=0:=by simpa using h3
   have hl:lv≠0:=by simpa using h5
   rw[ADV hl hlv hd (ih a (by simp) (lv-1) (by omega)) (hr a)];by_cases z:a.wd ws (lv-1)=0<;>simp[z]
  ·obtain⟨a,rfl⟩:=mO (by simpa using h1);obtain rfl:es=[]:=iB (by simpa using h2);obtain rfl:t=0:=by simpa using h3
   have hl:lv≠0:=by simpa using h5
   rw[ADU hl hlv hd (ih a (by simp) (lv-1) (by omega)) (hr a)];by_cases z:a.wd ws (lv-1)=0<;>simp[z]
  ·exact absurd h1 (by rw[ZT h];omega)
def VX (ws:List Int) (i:Nat):AS :=
 { env:=[(0, .i (.isl (aD ws))),(2, .bool false),(4,jk i (.int (ws[i-1]?.getD 0))),(12, .bool false),(13, .i (.isl (aD ws))),(14, .int ws.length),(15, .int i),(16,jk i (.bool true)),(21,jk i (.bool false))],st:=[] }
theorem MN (ws:List Int):aI C0 108 [.i (.isl (aD ws))] []=some (.bool (kM ws),[]):=by
 rw[aF rfl Tryz.func108 rfl rfl];by_cases h1:ws.length=0
 ·have:=zW.1 h1;subst this;simp[aD,kM]
 by_cases h4:ws.length≤4
 case neg=>simp[kM,h4,show ¬ (ws.length:Int)<1 by omega,show 4<(ws.length:Int)by omega]
 simp[show ¬ (ws.length:Int)<1 by omega,show ¬ 4<(ws.length:Int)by omega];obtain⟨j,h1',h2⟩:=iV bQ ws;rw[aT (VX ws) j (by simp[VX])]
 ·rw[aG]
  rcases h2 with ⟨hj,ha⟩|⟨x,h3,_,h5,ha⟩
  ·simp[VX,hj,kM,h4,ha,show 1≤ws.length by omega]
  ·have r1:=(zY.1 h3).1;have r2:=bK h3;simp[VX,r1,r2,h5,kM,ha]
 ·intro i hi;obtain⟨x,h3,_,h5⟩:=h1' i hi;have r1:=(zY.1 h3).1;have r2:=bK h3;have w2:IntKind.i64.wrap ((i:Int)+1)=i+1:=wrO;have h3':ws[i]=x:=(zY.1 h3).2;simp[VX,r1,r2,h5,w2,h3']
theorem jV {ws:List Int} (h:kM ws=true):∀ w∈ws,0≤w∧w≤6:=by
 intro w hw;simp only[kM,zT]at h;have:=zO.1 h.2 w hw;simp[bQ]at this;omega
theorem jU (p:Pn) (ws:List Int):aI C0 68 [.i (.agg p.cells), .i (.isl (aD ws))] []=some (.int (p.width ws),[]):=by
 rw[aF rfl Tryz.func68 rfl rfl];have hv:=MN ws
 cases h:kM ws with
 | false=>rw[h]at hv;rw[Pn.aA];simp[hv,Pn.width,h]
 | true =>
  rw[h]at hv;have hb:=BN (jV h) p 8 (by omega);rw[show((8:Nat):Int)=8 from rfl]at hb;rw[Pn.aA]at hb ⊢;simp[hv,Pn.width,h,hb]
def only (k t:Int) (es:List Ex) (cs:List Int) (ks:List Pn):Bool:=decide (1≤k∧k≤8) && (decide ((ks.length:Int)=jY k) && (decide ((es.length:Int)=if k=3 then(es.length:Int)else eY k) && ((decide (t=0) || decide (k=1)) && (decide (cs=[]) || decide (k=8)))))
theorem eG (k t:Int) (es:List Ex) (cs:List Int) (ks:List Pn):aI C0 139 [.i (.agg [.int k, .int t, .isl (Ex.aB es), .isl (aD cs), .isl (Pn.aB ks)])] []=some (.bool (only k t es cs ks),[]):=by
 rw[aF rfl Tryz.func139 rfl rfl]
 rcases uD k with rfl|rfl|rfl|rfl|rfl|rfl|rfl|rfl|h
 case inr.inr.inr.inr.inr.inr.inr.inr =>
  have h1:¬ (1≤k∧k≤8):=by omega
  simp[h.1,h.2.1,h.2.2.1,h.2.2.2.1,h.2.2.2.2.1,h.2.2.2.2.2.1,h1,only]
 case inr.inr.inl =>
  by_cases c1:(ks.length:Int)=1
  case neg=>simp[c1,only]
  by_cases c3:t=0
  case neg=>simp[c1,c3,only]
  by_cases c5:cs=[]<;>simp[c1,c3,c5,only,aD]
 case inl =>
  by_cases c1:ks=[]
  case neg=>simp[c1,only]
  by_cases c2:es=[]
  case neg=>simp[c1,c2,only]
  by_cases c3:t=0<;>by_cases c5:cs=[]<;>simp[c1,c2,c3,c5,only,aD,Ex.aB,Pn.aB]
 case inr.inl =>
  by_cases c1:(ks.length:Int)=1
  case neg=>simp[c1,only]
  by_cases c2:(es.length:Int)=1
  case neg=>simp[c1,c2,only]
  by_cases c3:t=0
  case neg=>simp[c1,c2,c3,only]
  by_cases c5:cs=[]<;>simp[c1,c2,c3,c5,only,aD]
 case inr.inr.inr.inl =>
  by_cases c1:(ks.length:Int)=2
  case neg=>simp[c1,only]
  by_cases c2:(es.length:Int)=1
  case neg=>simp[c1,c2,only]
  by_cases c3:t=0
  case neg=>simp[c1,c2,c3,only]
  by_cases c5:cs=[]<;>simp[c1,c2,c3,c5,only,aD]
 case inr.inr.inr.inr.inl =>
  by_cases c1:(ks.length:Int)=2
  case neg=>simp[c1,only]
  by_cases c2:(es.length:Int)=1
  case neg=>simp[c1,c2,only]
  by_cases c3:t=0
  case neg=>simp[c1,c2,c3,only]
  by_cases c5:cs=[]<;>simp[c1,c2,c3,c5,only,aD]
 case inr.inr.inr.inr.inr.inl =>
  by_cases c1:(ks.length:Int)=2
  case neg=>simp[c1,only]
  by_cases c2:es=[]
  case neg=>simp[c1,c2,only]
  by_cases c3:t=0
  case neg=>simp[c1,c2,c3,only]
  by_cases c5:cs=[]<;>simp[c1,c2,c3,c5,only,aD,Ex.aB]
 case inr.inr.inr.inr.inr.inr.inl =>
  by_cases c1:(ks.length:Int)=1
  case neg=>simp[c1,only]
  by_cases c2:es=[]
  case neg=>simp[c1,c2,only]
  by_cases c3:t=0
  case neg=>simp[c1,c2,c3,only]
  by_cases c5:cs=[]<;>simp[c1,c2,c3,c5,only,aD,Ex.aB]
 case inr.inr.inr.inr.inr.inr.inr.inl =>
  by_cases c1:(ks.length:Int)=1
  case neg=>simp[c1,only]
  by_cases c2:es=[]
  case neg=>simp[c1,c2,only]
  by_cases c3:t=0
  case neg=>simp[c1,c2,c3,only]
  by_cases c5:cs=[]<;>simp[c1,c2,c3,c5,only,aD,Ex.aB]
theorem AQP {cs:List Int} {w:Int}:∀ {i:Nat},(∀ k,k<i→∃ x,(cs.zip (-1::cs))[k]?=some x∧x∈cs.zip (-1::cs)∧decide (x.2<x.1∧x.1<w)=true)→-1≤pv cs i∧(i≠0→0≤pv cs i)
 | 0,_=>by simp[pv]
 | i+1,h=>by
  obtain⟨x,h3,_,h4⟩:=h i (by omega);obtain⟨c1,c2⟩:=DT h3;rw[AG6 c1];have hb:x.2<x.1∧x.1<w:=by simpa using h4
  have:=AQP (i:=i) fun k hk=>h k (by omega)
  omega
def CX (cs:List Int) (w:Int) (i:Nat):AS :=
 { env:=[(0, .i (.isl (aD cs))),(1, .int w),(4, .bool false),(5, .int i),(9,jk i (.bool true)),(35,jk i (.bool false))],st:=[] }
theorem SN (cs:List Int) (w:Int) (hl:cs.length<9223372036854775808) (hw:0≤w∧w≤6):aI C0 142 [.i (.isl (aD cs)), .int w] []=some (.bool (tN w cs),[]):=by
 rw[aF rfl Tryz.func142 rfl rfl];have w1:IntKind.i64.wrap (w-1)=w-1:=wrO;simp;obtain⟨j,h1,h2⟩:=iV (fun x:Int×Int=>decide (x.2<x.1∧x.1<w)) (cs.zip (-1::cs));rw[aT (CX cs w) j (by simp[CX])]
 ·rw[aG]
  rcases h2 with ⟨hj,ha⟩|⟨x,h3,_,h4,ha⟩
  ·rw[AAQ]at hj;have ha:tN w cs=true:=ha;simp[CX,hj,ha]
  ·obtain⟨c1,c2⟩:=DT h3;have r1:=(zY.1 c1).1;have r2:=bK c1;have hb:¬ (x.2<x.1∧x.1<w):=by simpa using h4
   have ha:tN w cs=false:=ha;have hp:=AQP (i:=j) h1;by_cases hin:0≤x.1∧x.1≤w-1
   ·have hj:j≠0:=fun h=>by subst h;simp[pv]at c2;omega
    obtain⟨j,rfl⟩:∃ i,j=i+1:=⟨j-1,by omega⟩
    have q1:cs[j]?=some x.2:=by
     have:pv cs (j+1)=x.2:=c2;simp only[pv,xE]at this;rw[zX (by omega)]at this ⊢;simpa using this
    have q2:=bK q1;have w4:IntKind.i64.wrap ((j:Int)+1-1)=j:=by rw[wrO];omega
    have w5:IntKind.i64.wrap ((j:Int))=j:=by rw[wrO]
    simp[CX,r1,r2,w1,hin,ha,q2,w4,w5,show(0:Int)<j+1 by omega,show x.1≤x.2 by omega,show(0:Int)≤(j:Int)+1 by omega,show j<cs.length by omega,show((j:Int)+1<cs.length)by omega]
   ·simp[CX,r1,r2,w1,hin,ha]
 ·intro i hi;obtain⟨x,h3,_,h4⟩:=h1 i hi;obtain⟨c1,c2⟩:=DT h3;have r1:=(zY.1 c1).1;have r2:=bK c1;have hb:x.2<x.1∧x.1<w:=by simpa using h4
  have hp:=AQP (i:=i) fun k hk=>h1 k (by omega)
  have hin:0≤x.1∧x.1≤w-1:=by omega
  have w2:IntKind.i64.wrap ((i:Int)+1)=i+1:=wrO;by_cases h0:i=0
  ·subst h0;simp[CX,r1,r2,w1,hin,dP]
  ·obtain⟨i,rfl⟩:∃ j,i=j+1:=⟨i-1,by omega⟩
   have q1:cs[i]?=some x.2:=by
    have:pv cs (i+1)=x.2:=c2;simp only[pv,xE]at this;rw[zX (by omega)]at this ⊢;simpa using this
   have q2:=bK q1;have w5:IntKind.i64.wrap ((i:Int))=i:=by rw[wrO]
   have w2':IntKind.i64.wrap ((i:Int)+1+1)=i+1+1:=wrO;simp[CX,r1,r2,w1,hin,q2,w5,w2',show(0:Int)<i+1 by omega,show ¬ x.1≤x.2 by omega,show(0:Int)≤(i:Int)+1 by omega,show i<cs.length by omega,show((i:Int)+1<cs.length)by omega]
def pW (es:List Ex) (w:Int):Int:=if es.all (Ex.ok w)=true∧es.length≤6 then(es.length:Int)else 0
def QX (es:List Ex) (w:Int) (i:Nat):AS :=
 { env:=[(0, .i (.isl (Ex.aB es))),(1, .int w),(4, .int 0),(5, .int i),(9,jk i (.bool true)),(18,jk i (.bool false)),(21, .junk)],st:=[] }
theorem K7 (es:List Ex) (w:Int) (hl:es.length<9223372036854775808):aI C0 141 [.i (.isl (Ex.aB es)), .int w] []=some (.int (pW es w),[]):=by
 rw[aF rfl Tryz.func141 rfl rfl];simp;obtain⟨j,h1,h2⟩:=iV (Ex.ok w) es;rw[aT (QX es w) j (by simp[QX])]
 ·rw[aG]
  rcases h2 with ⟨hj,hall⟩|⟨x,h3,_,h5,hall⟩
  ·by_cases h6:es.length≤6
   ·have hq:pW es w=es.length:=if_pos ⟨hall,h6⟩;simp[QX,hj,hq,show ¬ (6:Int)<es.length by omega]
   ·have hq:pW es w=0:=if_neg fun h=>h6 h.2
    simp[QX,hj,hq,show(6:Int)<es.length by omega]
  ·have r1:=(zY.1 h3).1;have r2:=Ex.aP h3;have r3:=TN w x;rw[h5]at r3;rw[Ex.aA]at r2 r3;have hq:pW es w=0:=if_neg fun h=>by rw[hall]at h;simp at h
   simp[QX,r1,r2,r3,hq]
 ·intro i hi;obtain⟨x,h3,_,h5⟩:=h1 i hi;have r1:=(zY.1 h3).1;have r2:=Ex.aP h3;have r3:=TN w x;rw[h5]at r3;rw[Ex.aA]at r2 r3;have w2:IntKind.i64.wrap ((i:Int)+1)=i+1:=wrO;simp[QX,r1,r2,r3,w2]
def UX (ws:List Int) (i:Nat):AS :=
 { env:=[(0, .i (.isl (aD ws))),(2, .bool false),(3, .int i),(7,jk i (.bool true)),(15,jk i (.bool false))],st:=[] }
theorem JJ (ws:List Int) (hl:ws.length<9223372036854775808):aI C0 121 [.i (.isl (aD ws))] []=some (.bool (kM ws),[]):=by
 rw[aF rfl Tryz.func121 rfl rfl];simp;obtain⟨j,h1',h2⟩:=iV bQ ws;rw[aT (UX ws) j (by simp[UX])]
 ·rw[aG]
  rcases h2 with ⟨hj,ha⟩|⟨x,h3,_,h5,ha⟩
  ·by_cases h4:1≤ws.length∧ws.length≤4
   ·simp[UX,hj,kM,h4,ha,show(1:Int)≤ws.length∧(ws.length:Int)≤4 by omega]
   ·simp[UX,hj,kM,h4,ha,show ¬ ((1:Int)≤ws.length∧(ws.length:Int)≤4)by omega]
  ·have r1:=(zY.1 h3).1;have r2:=bK h3;have h5:¬ (1≤x∧x≤6):=by simpa [bQ]using h5
   simp[UX,r1,r2,h5,kM,ha]
 ·intro i hi;obtain⟨x,h3,_,h5⟩:=h1' i hi;have r1:=(zY.1 h3).1;have r2:=bK h3;have h5:1≤x∧x≤6:=by simpa [bQ]using h5
  have w2:IntKind.i64.wrap ((i:Int)+1)=i+1:=wrO;simp[UX,r1,r2,h5,w2]
theorem AKZ {ws:List Int} {k t:Int} {es:List Ex} {cs:List Int} {ks:List Pn} {lv:Nat} (h:¬ (only k t es cs ks=true∧(ks=[]∨lv≠0))):aI C0 104 [.i (.agg [.int k, .int t, .isl (Ex.aB es), .isl (aD cs), .isl (Pn.aB ks)]), .i (.isl (aD ws)), .int lv] []=some (.int 0,[]):=by
 rw[aF rfl Tryz.func104 rfl rfl];have ho:=eG k t es cs ks
 cases hq:only k t es cs ks with
 | false=>rw[hq]at ho;simp[ho]
 | true =>
  rw[hq]at ho;by_cases hk:ks=[]
  ·exact absurd ⟨hq, .inl hk⟩ h
  by_cases hl:lv=0
  ·have:0<ks.length:=xK.2 hk;subst hl;simp[ho,hk,this]
  ·exact absurd ⟨hq, .inr hl⟩ h
theorem ACC {ws:List Int} {lv:Nat} {t:Int} (ho:only 1 t [] [] []=true) (hw:ws.length<1000000000):aI C0 104 [.i (.agg [.int 1, .int t, .isl (Ex.aB []), .isl (aD []), .isl (Pn.aB [])]), .i (.isl (aD ws)), .int lv] []=some (.int (if 0≤t then(ws[t.toNat]?).getD 0 else 0),[]):=by
 rw[aF rfl Tryz.func104 rfl rfl];have hf:=eG 1 t [] [] [];rw[ho]at hf;have w1:IntKind.i64.wrap ((ws.length:Int)-1)=ws.length-1:=wrO;simp only[Ex.aB,Pn.aB,aD]at hf ⊢;simp[hf,w1];rw[aG];by_cases h0:0≤t
 case neg=>simp[h0,w1]
 cases hx:ws[t.toNat]? with
 | none =>
  have:=zA9.1 hx;simp[h0,w1,show ¬ t≤ws.length-1 by omega]
 | some x =>
  have r1:=(zY.1 hx).1;have r2:=bK hx;simp[h0,w1,show t≤ws.length-1 by omega,show t<ws.length by omega,r2]
theorem ACB {ws:List Int} {lv:Nat} {a:Pn} {va:Int} {e:Ex} (ho:only 2 0 [e] [] [a]=true) (hl:lv≠0) (hl8:lv≤8) (ha:aI C0 104 [.i (.agg a.cells), .i (.isl (aD ws)), .int (lv-1:Nat)] []=some (.int va,[])) (ra:0≤va∧va≤6):aI C0 104 [.i (.agg [.int 2, .int 0, .isl (Ex.aB [e]), .isl (aD []), .isl (Pn.aB [a])]), .i (.isl (aD ws)), .int lv] []=some (.int (if va=0 then 0 else if e.ok va=true then va else 0),[]):=by
 rw[aF rfl Tryz.func104 rfl rfl];have hf:=eG 2 0 [e] [] [a];rw[ho]at hf;have c3':¬ (lv:Int)=0:=by omega
 have w1:IntKind.i64.wrap ((lv:Int)-1)=(lv-1:Nat):=by rw[wrO];omega
 have w2:IntKind.i64.wrap (1:Int)=1:=dP;have w3:IntKind.i64.wrap (2:Int)=2:=wrO;have r0:fU [a.cells] 0=some a.cells:=rfl;simp only[Pn.aB,aD,Ex.aB]at hf ⊢;have q0:fU [e.cells] 0=some e.cells:=rfl;have qe:=TN (va) e;rw[Ex.aA e]at q0 qe hf ⊢;rw[Pn.aA a]at ha r0 hf ⊢;simp[hf,hl,c3'];rw[aG];by_cases z1:va=0
 case pos=>simp[w1,ha,r0,z1]
 simp[w1,w2,ha,r0,z1];rw[aG]
 cases hv:e.ok va<;>rw[hv]at qe<;>simp[z1,q0,qe]
theorem NL {ws:List Int} {lv:Nat} {a:Pn} {va:Int} {es:List Ex} (ho:only 3 0 es [] [a]=true) (hl:lv≠0) (hl8:lv≤8) (ha:aI C0 104 [.i (.agg a.cells), .i (.isl (aD ws)), .int (lv-1:Nat)] []=some (.int va,[])) (ra:0≤va∧va≤6) (he:es.length<9223372036854775808):aI C0 104 [.i (.agg [.int 3, .int 0, .isl (Ex.aB es), .isl (aD []), .isl (Pn.aB [a])]), .i (.isl (aD ws)), .int lv] []=some (.int (if va=0 then 0 else pW es va),[]):=by
 rw[aF rfl Tryz.func104 rfl rfl];have hf:=eG 3 0 es [] [a];rw[ho]at hf;have c3':¬ (lv:Int)=0:=by omega
 have w1:IntKind.i64.wrap ((lv:Int)-1)=(lv-1:Nat):=by rw[wrO];omega
 have w2:IntKind.i64.wrap (1:Int)=1:=dP;have w3:IntKind.i64.wrap (2:Int)=2:=wrO;have r0:fU [a.cells] 0=some a.cells:=rfl;simp only[Pn.aB,aD,Ex.aB]at hf ⊢;rw[Pn.aA a]at ha r0 hf ⊢;simp[hf,hl,c3'];rw[aG];by_cases z1:va=0
 case pos=>simp[w1,ha,r0,z1]
 simp[w1,w2,ha,r0,z1];rw[aG];have hp:=K7 es va he;simp[z1,hp]
theorem ACA {ws:List Int} {lv:Nat} {a:Pn} {va:Int} {b:Pn} {vb:Int} {e:Ex} (ho:only 4 0 [e] [] [a,b]=true) (hl:lv≠0) (hl8:lv≤8) (ha:aI C0 104 [.i (.agg a.cells), .i (.isl (aD ws)), .int (lv-1:Nat)] []=some (.int va,[])) (ra:0≤va∧va≤6) (hb:aI C0 104 [.i (.agg b.cells), .i (.isl (aD ws)), .int (lv-1:Nat)] []=some (.int vb,[])) (rb:0≤vb∧vb≤6):aI C0 104 [.i (.agg [.int 4, .int 0, .isl (Ex.aB [e]), .isl (aD []), .isl (Pn.aB [a,b])]), .i (.isl (aD ws)), .int lv] []=some (.int (if va=0∨vb=0 then 0 else if va+vb≤6∧e.ok (va+vb)=true then va+vb else 0),[]):=by
 rw[aF rfl Tryz.func104 rfl rfl];have hf:=eG 4 0 [e] [] [a,b];rw[ho]at hf;have c3':¬ (lv:Int)=0:=by omega
 have w1:IntKind.i64.wrap ((lv:Int)-1)=(lv-1:Nat):=by rw[wrO];omega
 have w2:IntKind.i64.wrap (1:Int)=1:=dP;have w3:IntKind.i64.wrap (2:Int)=2:=wrO;have r0:fU [a.cells,b.cells] 0=some a.cells:=rfl;have r1:fU [a.cells,b.cells] 1=some b.cells:=rfl;simp only[Pn.aB,aD,Ex.aB]at hf ⊢;have q0:fU [e.cells] 0=some e.cells:=rfl;have qe:=TN (va+vb) e;rw[Ex.aA e]at q0 qe hf ⊢;rw[Pn.aA a]at ha r0 hf ⊢;rw[Pn.aA a]at r1;rw[Pn.aA b]at hb r0 r1 hf ⊢;simp[hf,hl,c3'];rw[aG];by_cases z1:va=0
 case pos=>simp[w1,ha,r0,z1]
 simp[w1,w2,ha,r0,z1];rw[aG];by_cases z2:vb=0
 case pos=>simp[w1,hb,r1,z2]
 simp[w1,hb,r1,z1,z2,w2,w3];rw[aG];have w4:IntKind.i64.wrap (va+vb)=va+vb:=wrO;by_cases h6:va+vb≤6
 ·cases hv:e.ok (va+vb)<;>rw[hv]at qe<;>simp[z1,z2,q0,qe,w4,h6]
 ·simp[z1,z2,w4,h6]
theorem AC9 {ws:List Int} {lv:Nat} {a:Pn} {va:Int} {b:Pn} {vb:Int} {e:Ex} (ho:only 5 0 [e] [] [a,b]=true) (hl:lv≠0) (hl8:lv≤8) (ha:aI C0 104 [.i (.agg a.cells), .i (.isl (aD ws)), .int (lv-1:Nat)] []=some (.int va,[])) (ra:0≤va∧va≤6) (hb:aI C0 104 [.i (.agg b.cells), .i (.isl (aD ws)), .int (lv-1:Nat)] []=some (.int vb,[])) (rb:0≤vb∧vb≤6):aI C0 104 [.i (.agg [.int 5, .int 0, .isl (Ex.aB [e]), .isl (aD []), .isl (Pn.aB [a,b])]), .i (.isl (aD ws)), .int lv] []=some (.int (if va=0∨vb=0 then 0 else if va+vb≤6∧e.ok (va+vb)=true then va+vb else 0),[]):=by
 rw[aF rfl Tryz.func104 rfl rfl];have hf:=eG 5 0 [e] [] [a,b];rw[ho]at hf;have c3':¬ (lv:Int)=0:=by omega
 have w1:IntKind.i64.wrap ((lv:Int)-1)=(lv-1:Nat):=by rw[wrO];omega
 have w2:IntKind.i64.wrap (1:Int)=1:=dP;have w3:IntKind.i64.wrap (2:Int)=2:=wrO;have r0:fU [a.cells,b.cells] 0=some a.cells:=rfl;have r1:fU [a.cells,b.cells] 1=some b.cells:=rfl;simp only[Pn.aB,aD,Ex.aB]at hf ⊢;have q0:fU [e.cells] 0=some e.cells:=rfl;have qe:=TN (va+vb) e;rw[Ex.aA e]at q0 qe hf ⊢;rw[Pn.aA a]at ha r0 hf ⊢;rw[Pn.aA a]at r1;rw[Pn.aA b]at hb r0 r1 hf ⊢;simp[hf,hl,c3'];rw[aG];by_cases z1:va=0
 case pos=>simp[w1,ha,r0,z1]
 simp[w1,w2,ha,r0,z1];rw[aG];by_cases z2:vb=0
 case pos=>simp[w1,hb,r1,z2]
 simp[w1,hb,r1,z1,z2,w2,w3];rw[aG];have w4:IntKind.i64.wrap (va+vb)=va+vb:=wrO;by_cases h6:va+vb≤6
 ·cases hv:e.ok (va+vb)<;>rw[hv]at qe<;>simp[z1,z2,q0,qe,w4,h6]
 ·simp[z1,z2,w4,h6]
theorem AC8 {ws:List Int} {lv:Nat} {a:Pn} {va:Int} {b:Pn} {vb:Int} (ho:only 6 0 [] [] [a,b]=true) (hl:lv≠0) (hl8:lv≤8) (ha:aI C0 104 [.i (.agg a.cells), .i (.isl (aD ws)), .int (lv-1:Nat)] []=some (.int va,[])) (ra:0≤va∧va≤6) (hb:aI C0 104 [.i (.agg b.cells), .i (.isl (aD ws)), .int (lv-1:Nat)] []=some (.int vb,[])) (rb:0≤vb∧vb≤6):aI C0 104 [.i (.agg [.int 6, .int 0, .isl (Ex.aB []), .isl (aD []), .isl (Pn.aB [a,b])]), .i (.isl (aD ws)), .int lv] []=some (.int (if va=0∨vb=0 then 0 else if va=vb then va else 0),[]):=by
 rw[aF rfl Tryz.func104 rfl rfl];have hf:=eG 6 0 [] [] [a,b];rw[ho]at hf;have c3':¬ (lv:Int)=0:=by omega
 have w1:IntKind.i64.wrap ((lv:Int)-1)=(lv-1:Nat):=by rw[wrO];omega
 have w2:IntKind.i64.wrap (1:Int)=1:=dP;have w3:IntKind.i64.wrap (2:Int)=2:=wrO;have r0:fU [a.cells,b.cells] 0=some a.cells:=rfl;have r1:fU [a.cells,b.cells] 1=some b.cells:=rfl;simp only[Pn.aB,aD,Ex.aB]at hf ⊢;rw[Pn.aA a]at ha r0 hf ⊢;rw[Pn.aA a]at r1;rw[Pn.aA b]at hb r0 r1 hf ⊢;simp[hf,hl,c3'];rw[aG];by_cases z1:va=0
 case pos=>simp[w1,ha,r0,z1]
 simp[w1,w2,ha,r0,z1];rw[aG];by_cases z2:vb=0
 case pos=>simp[w1,hb,r1,z2]
 simp[w1,hb,r1,z1,z2,w2,w3];rw[aG];by_cases h6:va=vb<;>simp[z1,z2,h6]
theorem AC7 {ws:List Int} {lv:Nat} {a:Pn} {va:Int} (ho:only 7 0 [] [] [a]=true) (hl:lv≠0) (hl8:lv≤8) (ha:aI C0 104 [.i (.agg a.cells), .i (.isl (aD ws)), .int (lv-1:Nat)] []=some (.int va,[])) (ra:0≤va∧va≤6):aI C0 104 [.i (.agg [.int 7, .int 0, .isl (Ex.aB []), .isl (aD []), .isl (Pn.aB [a])]), .i (.isl (aD ws)), .int lv] []=some (.int (if va=0 then 0 else va),[]):=by
 rw[aF rfl Tryz.func104 rfl rfl];have hf:=eG 7 0 [] [] [a];rw[ho]at hf;have c3':¬ (lv:Int)=0:=by omega
 have w1:IntKind.i64.wrap ((lv:Int)-1)=(lv-1:Nat):=by rw[wrO];omega
 have w2:IntKind.i64.wrap (1:Int)=1:=dP;have w3:IntKind.i64.wrap (2:Int)=2:=wrO;have r0:fU [a.cells] 0=some a.cells:=rfl;simp only[Pn.aB,aD,Ex.aB]at hf ⊢;rw[Pn.aA a]at ha r0 hf ⊢;simp[hf,hl,c3'];rw[aG];by_cases z1:va=0
 case pos=>simp[w1,ha,r0,z1]
 simp[w1,w2,ha,r0,z1];rw[aG];simp[z1]
theorem AC6 {ws:List Int} {lv:Nat} {a:Pn} {va:Int} {cs:List Int} (ho:only 8 0 [] cs [a]=true) (hl:lv≠0) (hl8:lv≤8) (ha:aI C0 104 [.i (.agg a.cells), .i (.isl (aD ws)), .int (lv-1:Nat)] []=some (.int va,[])) (ra:0≤va∧va≤6) (hc:cs.length<9223372036854775808):aI C0 104 [.i (.agg [.int 8, .int 0, .isl (Ex.aB []), .isl (aD cs), .isl (Pn.aB [a])]), .i (.isl (aD ws)), .int lv] []=some (.int (if va=0 then 0 else if cs.length<6∧tN va cs=true then(cs.length:Int)+1 else 0),[]):=by
 rw[aF rfl Tryz.func104 rfl rfl];have hf:=eG 8 0 [] cs [a];rw[ho]at hf;have c3':¬ (lv:Int)=0:=by omega
 have w1:IntKind.i64.wrap ((lv:Int)-1)=(lv-1:Nat):=by rw[wrO];omega
 have w2:IntKind.i64.wrap (1:Int)=1:=dP;have w3:IntKind.i64.wrap (2:Int)=2:=wrO;have r0:fU [a.cells] 0=some a.cells:=rfl;simp only[Pn.aB,aD,Ex.aB]at hf ⊢;rw[Pn.aA a]at ha r0 hf ⊢;simp[hf,hl,c3'];rw[aG];by_cases z1:va=0
 case pos=>simp[w1,ha,r0,z1]
 simp[w1,w2,ha,r0,z1];rw[aG];have hp:=SN cs va hc ra;by_cases h6:cs.length<6
 ·have w5:IntKind.i64.wrap ((cs.length:Int)+1)=cs.length+1:=wrO
  cases hv:tN va cs<;>rw[hv]at hp<;>simp[z1,hp,h6,show(cs.length:Int)<6 by omega,w5]
 ·cases hv:tN va cs<;>rw[hv]at hp<;>simp[z1,hp,h6,show ¬ (cs.length:Int)<6 by omega]
theorem ZP (k t:Int) (es:List Ex) (cs:List Int) (ks:List Pn):only k t es cs ks=true↔((1≤k∧k≤8)∧(ks.length:Int)=jY k∧((es.length:Int)=if k=3 then(es.length:Int)else eY k)∧(t=0∨k=1)∧(cs=[]∨k=8)):=by
 unfold only;simp only[zT,zE2,zM]
theorem CE {ws:List Int} (hw:∀ w∈ws,0≤w∧w≤6) (hwl:ws.length<1000000000):∀ (p:Pn),p.lim→∀ (lv:Nat),lv≤8→aI C0 104 [.i (.agg p.cells), .i (.isl (aD ws)), .int lv] []=some (.int (p.wd ws lv),[]):=by
 intro p
 induction p using Pn.ind with
 | h k t es cs ks ih =>
  intro hp lv hlv;have hp:=(Pn.KW _).1 hp;simp only[Pn.cB,Pn.eT,Pn.fQ]at hp;obtain⟨he,hc,-,hks⟩:=hp;rw[Pn.dX];have hr:=fun a=>Pn.vF hw a (lv-1)
  by_cases ho:only k t es cs ks=true∧(ks=[]∨lv≠0)
  case neg =>
   rw[AKZ ho,Pn.ABJ];intro hh;apply ho;refine⟨?_,hh.2⟩;have h:=(nS k t es cs ks).1 hh.1;rw[ZP];refine⟨?_,h.1,?_,h.2.2.1.symm,h.2.2.2.symm⟩
   ·rcases KH k with h1|h1|h1|h1<;>omega
   ·by_cases h3:k=3
    ·rw[if_pos h3]
    ·have:=h.2.1;rw[if_neg fun h=>h3 h.1]at this;rw[if_neg h3];exact this
  have hoo:=ho.1;have hq:=(ZP k t es cs ks).1 ho.1;obtain⟨h0,h1,h2,h3,h4⟩:=hq;have h5:=ho.2;by_cases hd:Pn.headOk (.mk k t es cs ks)=true
  case neg =>
   rw[Pn.ABJ fun h=>hd h.1]
   have hk3:k=3∧¬ bQ es.length=true∧(es.length:Int)≠1:=by
    by_cases hk:k=3
    ·refine⟨hk,?_,?_⟩
     ·intro hv;exact hd ((nS k t es cs ks).2 ⟨h1,by rw[if_pos ⟨hk,hv⟩],h3.symm,h4.symm⟩)
     ·intro hv;have:bQ es.length=true:=by rw[hv];decide
      exact hd ((nS k t es cs ks).2 ⟨h1,by rw[if_pos ⟨hk,this⟩],h3.symm,h4.symm⟩)
    ·exact absurd ((nS k t es cs ks).2 ⟨h1,by rw[if_neg fun h=>hk h.1];rwa [if_neg hk]at h2,h3.symm,h4.symm⟩) hd
   obtain⟨rfl,hv,hv1⟩:=hk3;obtain⟨a,rfl⟩:=mO (by simpa using h1);obtain rfl:cs=[]:=by simpa using h4
   obtain rfl:t=0:=by simpa using h3
   have hl:lv≠0:=by simpa using h5
   rw[NL hoo hl hlv (ih a (by simp) (hks a (by simp)) (lv-1) (by omega)) (hr a) he]
   have:pW es (a.wd ws (lv-1))=0:=by
    unfold pW;split
    ·rename_i h;have:¬ (1≤(es.length:Int)∧(es.length:Int)≤6):=by simpa [bQ]using hv
     omega
    ·rfl
   simp[this]
  have hx:=Pn.BP ws lv (.mk k t es cs ks);rw[if_pos (by simpa using (⟨hd,h5⟩:_∧_))]at hx;simp only[Pn.eO,Pn.iW,Pn.cB,Pn.eT,Pn.fQ]at hx;rw[hx]
  rcases uD k with rfl|rfl|rfl|rfl|rfl|rfl|rfl|rfl|h
  ·obtain rfl:=iB (by simpa using h1);obtain rfl:es=[]:=iB (by simpa using h2);obtain rfl:cs=[]:=by simpa using h4
   exact ACC hoo hwl
  ·obtain⟨a,rfl⟩:=mO (by simpa using h1);obtain⟨e,rfl⟩:=mO (by simpa using h2);obtain rfl:cs=[]:=by simpa using h4
   obtain rfl:t=0:=by simpa using h3
   have hl:lv≠0:=by simpa using h5
   rw[ACB hoo hl hlv (ih a (by simp) (hks a (by simp)) (lv-1) (by omega)) (hr a)];by_cases z:a.wd ws (lv-1)=0<;>simp[z,dE]
  ·obtain⟨a,rfl⟩:=mO (by simpa using h1);obtain rfl:cs=[]:=by simpa using h4
   obtain rfl:t=0:=by simpa using h3
   have hl:lv≠0:=by simpa using h5
   rw[NL hoo hl hlv (ih a (by simp) (hks a (by simp)) (lv-1) (by omega)) (hr a) he];have h6:=Pn.uL hd;simp only[Pn.cB]at h6;by_cases z:a.wd ws (lv-1)=0<;>simp[z,dE,pW,h6]
  ·obtain⟨a,b,rfl⟩:=EZ (by simpa using h1);obtain⟨e,rfl⟩:=mO (by simpa using h2);obtain rfl:cs=[]:=by simpa using h4
   obtain rfl:t=0:=by simpa using h3
   have hl:lv≠0:=by simpa using h5
   rw[ACA hoo hl hlv (ih a (by simp) (hks a (by simp)) (lv-1) (by omega)) (hr a) (ih b (by simp) (hks b (by simp)) (lv-1) (by omega)) (hr b)];by_cases z:a.wd ws (lv-1)=0<;>by_cases z2:b.wd ws (lv-1)=0<;>simp[z,z2,dE]
  ·obtain⟨a,b,rfl⟩:=EZ (by simpa using h1);obtain⟨e,rfl⟩:=mO (by simpa using h2);obtain rfl:cs=[]:=by simpa using h4
   obtain rfl:t=0:=by simpa using h3
   have hl:lv≠0:=by simpa using h5
   rw[AC9 hoo hl hlv (ih a (by simp) (hks a (by simp)) (lv-1) (by omega)) (hr a) (ih b (by simp) (hks b (by simp)) (lv-1) (by omega)) (hr b)];by_cases z:a.wd ws (lv-1)=0<;>by_cases z2:b.wd ws (lv-1)=0<;>simp[z,z2,dE]
  ·obtain⟨a,b,rfl⟩:=EZ (by simpa using h1);obtain rfl:es=[]:=iB (by simpa using h2);obtain rfl:cs=[]:=by simpa using h4
   obtain rfl:t=0:=by simpa using h3
   have hl:lv≠0:=by simpa using h5
   rw[AC8 hoo hl hlv (ih a (by simp) (hks a (by simp)) (lv-1) (by omega)) (hr a) (ih b (by simp) (hks b (by simp)) (lv-1) (by omega)) (hr b)];by_cases z:a.wd ws (lv-1)=0<;>by_cases z2:b.wd ws (lv-1)=0<;>simp[z,z2,dE]
  ·obtain⟨a,rfl⟩:=mO (by simpa using h1);obtain rfl:es=[]:=iB (by simpa using h2);obtain rfl:cs=[]:=by simpa using h4
   obtain rfl:t=0:=by simpa using h3
   have hl:lv≠0:=by simpa using h5
   rw[AC7 hoo hl hlv (ih a (by simp) (hks a (by simp)) (lv-1) (by omega)) (hr a)];by_cases z:a.wd ws (lv-1)=0<;>simp[z,dE]
  ·obtain⟨a,rfl⟩:=mO (by simpa using h1);obtain rfl:es=[]:=iB (by simpa using h2);obtain rfl:t=0:=by simpa using h3
   have hl:lv≠0:=by simpa using h5
   rw[AC6 hoo hl hlv (ih a (by simp) (hks a (by simp)) (lv-1) (by omega)) (hr a) hc];by_cases z:a.wd ws (lv-1)=0<;>simp[z,dE]
  ·omega
theorem ABH (p:Pn) (hp:p.lim) (ws:List Int) (hl:ws.length<9223372036854775808):aI C0 71 [.i (.agg p.cells), .i (.isl (aD ws))] []=some (.int (p.width ws),[]):=by
 rw[aF rfl Tryz.func71 rfl rfl];have hv:=JJ ws hl
 cases h:kM ws with
 | false=>rw[h]at hv;rw[Pn.aA];simp[hv,Pn.width,h]
 | true =>
  rw[h]at hv;have h4:ws.length≤4:=by simp[kM]at h;omega
  have hb:=CE (jV h) (by omega) p hp 8 (by omega);rw[show((8:Nat):Int)=8 from rfl]at hb;rw[Pn.aA]at hb ⊢;simp[hv,Pn.width,h,hb]
def IX (l m:List Int) (i:Nat):AS :=
 { env:=[(0, .i (.isl (aD l))),(1, .i (.isl (aD m))),(4, .bool false),(5, .int i),(10, .bool false),(14,jk i (.bool true)),(25,jk i (.bool false))],st:=[] }
def SX (l m:List Int) (i:Nat):AS :=
 { env:=[(0, .i (.isl (aD l))),(1, .i (.isl (aD m))),(4, .bool false),(5,jk i (.int (i-1))),(10, .bool false),(12, .int l.length),(13, .int i),(14,jk i (.bool true)),(24,jk i (.bool false))],st:=[] }
def EX (a b:Ex) (i:Nat):AS :=
 { env:=[(0, .i (.iref [.int a.kind, .int a.col, .bool a.val.null, .int a.val.n, .isl (Ex.aB a.kids)])),(1, .i (.iref [.int b.kind, .int b.col, .bool b.val.null, .int b.val.n, .isl (Ex.aB b.kids)])),(4, .bool false),(5,jk i (.int (i-1))),(49, .bool false),(54, .int a.kids.length),(55, .int i),(56,jk i (.bool true)),(71,jk i (.bool false))],st:=[] }
def FX (a b:Ex) (i:Nat):AS :=
 { env:=[(0, .i (.agg [.int a.kind, .int a.col, .bool a.val.null, .int a.val.n, .isl (Ex.aB a.kids)])),(1, .i (.agg [.int b.kind, .int b.col, .bool b.val.null, .int b.val.n, .isl (Ex.aB b.kids)])),(2, .own 0 0),(3, .own 1 0),(4, .bool false),(5, .int i),(33, .bool false),(38,jk i (.bool true)),(52,jk i (.bool false))],
   st:=[some (.box [.int a.kind, .int a.col, .bool a.val.null, .int a.val.n, .i (.isl (Ex.aB a.kids))]),some (.box [.int b.kind, .int b.col, .bool b.val.null, .int b.val.n, .i (.isl (Ex.aB b.kids))])] }
def HX (p q:Pn) (n m:Nat) (i j k:AV) (x51 x65 x70 x83 x88 x102:AV):AS :=
 { env:=[(0, .i (.agg [.int p.kind, .int p.table, .isl (Ex.aB p.exprs), .isl (aD p.cols), .isl (Pn.aB p.kids)])),(1, .i (.agg [.int q.kind, .int q.table, .isl (Ex.aB q.exprs), .isl (aD q.cols), .isl (Pn.aB q.kids)])),(2, .own 0 0),(3, .own 1 0),(4, .bool false),(5,i),(6,j),(7,k),(46, .bool false),(51,x51),(65,x65),(70,x70),(83,x83),(88,x88),(102,x102)],
   st:=[some (.box [.int p.kind, .int p.table, .i (.isl (Ex.aB p.exprs)), .i (.isl (aD p.cols)), .i (.isl (Pn.aB p.kids))]),some (.box [.int q.kind, .int q.table, .i (.isl (Ex.aB q.exprs)), .i (.isl (aD q.cols)), .i (.isl (Pn.aB q.kids))])] }
def H1 (p q:Pn) (i:Nat):AS:=HX p q 0 0 (.int i) .junk .junk (jk i (.bool true)) (jk i (.bool false)) .junk .junk .junk .junk
def H2 (p q:Pn) (i:Nat):AS:=HX p q 0 0 (.int p.exprs.length) (.int i) .junk (.bool false) (jk p.exprs.length (.bool false)) (jk i (.bool true)) (jk i (.bool false)) .junk .junk
def KX (p:Pn) (i:Nat):AS :=
 { env:=[(0, .i (.agg [.int p.kind, .int p.table, .isl (Ex.aB p.exprs), .isl (aD p.cols), .isl (Pn.aB p.kids)])),(1, .own 0 0),(2, .own 1 0),(3, .own 2 0),(4, .int i),(5, .junk),(19,jk i (.bool true)),(37, .junk)],
   st:=some (.box [.int p.kind, .int p.table, .i (.isl (Ex.aB p.exprs)), .i (.isl (aD p.cols)), .i (.isl (Pn.aB p.kids))])::some (.box [.int 0, .int 0, .nils, .nils, .nils]) ::
    some (.box [.int p.kind, .int p.table,gro 3 5 i, .osl (if i=0 then 3 else 4) 1 0 p.cols.length, .nils])::(AEM 5 (Ex.aB (p.exprs.take i)) i++[some (.arr 1 (aD p.cols))]) }
def K2 (p:Pn) (i:Nat):AS :=
 { env:=[(0, .i (.agg [.int p.kind, .int p.table, .isl (Ex.aB p.exprs), .isl (aD p.cols), .isl (Pn.aB p.kids)])),(1, .own 0 0),(2, .own 1 0),(3, .own 2 0),(4, .int p.exprs.length),(5, .int i),(19, .bool false),(37,jk i (.bool true))],
   st:=some (.box [.int p.kind, .int p.table, .i (.isl (Ex.aB p.exprs)), .i (.isl (aD p.cols)), .i (.isl (Pn.aB p.kids))])::some (.box [.int 0, .int 0, .nils, .nils, .nils]) ::
    some (.box [.int p.kind, .int p.table,gro 3 5 p.exprs.length, .osl (if p.exprs.length=0 then 3 else 4) 1 0 p.cols.length,gro (if p.exprs.length=0 then 4 else 5) 5 i])::(AEM 5 (Ex.aB p.exprs) p.exprs.length++some (.arr 1 (aD p.cols))::AEM 5 (Pn.aB (p.kids.take i)) i) }
def pcX (p:Pn):AV:=.agg [.int p.kind, .int p.table,gro 0 5 p.exprs.length, .osl (if p.exprs.length=0 then 0 else 1) 1 0 p.cols.length,gro (if p.exprs.length=0 then 1 else 2) 5 p.kids.length]
def pcS (p:Pn):StL:=AEM 5 (Ex.aB p.exprs) p.exprs.length++some (.arr 1 (aD p.cols))::AEM 5 (Pn.aB p.kids) p.kids.length
theorem QK {p:Pn} (hp:p.thin) (ih:∀ a∈p.kids,aI C0 62 [.i (.agg a.cells)] []=some (pcX a,pcS a)) :
 aI C0 62 [.i (.agg p.cells)] []=some (pcX p,pcS p):=by
 have ht:=(Pn.bO _).1 hp;obtain⟨t1,t2,t3,t4,-⟩:=ht;rw[aF rfl Tryz.func62 rfl rfl,Pn.aA];by_cases hc:p.cols=[]
 ·simp[hc,aD];rw[aT (KX p) p.exprs.length (by simp[KX,hc,aD])]
  ·rw[aG]
   cases hn:p.exprs.length with
   | zero =>
    have he:p.exprs=[]:=zW.1 hn;simp[KX,he,hc,aD,Ex.aB];rw[aT (K2 p) p.kids.length (by simp[K2,he,hc,aD,Ex.aB])]
    ·rw[aG]
     cases hm:p.kids.length with
     | zero =>
      have hk:p.kids=[]:=zW.1 hm;simp[K2,he,hc,aD,hk,Ex.aB,Pn.aB,pcX,pcS]
     | succ m =>
      have hk:p.kids.take (m+1)=p.kids:=zZ (by omega);simp[K2,he,hc,aD,hm,hk,Ex.aB,pcX,pcS]
    ·intro i hi;have h3:=zX hi;have hc':=ih _ (zU h3);have r2:=Pn.aP h3;generalize p.kids[i]=a at h3 hc' r2;have w2:IntKind.i64.wrap ((i:Int)+1)=i+1:=wrO;rw[Pn.aA]at r2 hc';simp only[pcX,pcS]at hc';have hl1:(i+1)*88≤140737488355328:=by omega
     have hl2:min i p.kids.length=i:=by omega
     by_cases a1:a.exprs=[]
     ·by_cases a2:a.kids=[]
      ·simp[a1,a2,Ex.aB,Pn.aB]at hc' r2;by_cases h0:i=0
       ·subst h0;simp[K2,he,hc,aD,hi,r2,hc',dP,aL h3,Ex.aB,Pn.aB,Pn.aA a,a1,a2]
       ·simp[K2,he,hc,aD,aQ h0,aJ h0,bU h0,hi,r2,hc',w2,aL h3,Ex.aB,Pn.aB,Pn.aZ,hl1,hl2,zG,Pn.aA a,h0,a1,a2]
      ·have a2':a.kids.length≠0:=fun h=>a2 (zW.1 h)
       simp[a1,aQ a2',aJ a2',a2,Ex.aB,Pn.aB]at hc' r2;by_cases h0:i=0
       ·subst h0;simp[K2,he,hc,aD,hi,r2,hc',dP,aL h3,Ex.aB,Pn.aB,Pn.aA a,a1,aQ a2',aJ a2',a2]
       ·simp[K2,he,hc,aD,aQ h0,aJ h0,bU h0,hi,r2,hc',w2,aL h3,Ex.aB,Pn.aB,Pn.aZ,hl1,hl2,zG,Pn.aA a,h0,a1,aQ a2',aJ a2',a2]
     ·by_cases a2:a.kids=[]
      ·have a1':a.exprs.length≠0:=fun h=>a1 (zW.1 h)
       simp[aQ a1',aJ a1',a1,a2,Ex.aB,Pn.aB]at hc' r2;by_cases h0:i=0
       ·subst h0;simp[K2,he,hc,aD,hi,r2,hc',dP,aL h3,Ex.aB,Pn.aB,Pn.aA a,aQ a1',aJ a1',a1,a2]
       ·simp[K2,he,hc,aD,aQ h0,aJ h0,bU h0,hi,r2,hc',w2,aL h3,Ex.aB,Pn.aB,Pn.aZ,hl1,hl2,zG,Pn.aA a,h0,aQ a1',aJ a1',a1,a2]
      ·have a1':a.exprs.length≠0:=fun h=>a1 (zW.1 h)
       have a2':a.kids.length≠0:=fun h=>a2 (zW.1 h)
       simp[aQ a1',aJ a1',a1,aQ a2',aJ a2',a2,Ex.aB,Pn.aB]at hc' r2;by_cases h0:i=0
       ·subst h0;simp[K2,he,hc,aD,hi,r2,hc',dP,aL h3,Ex.aB,Pn.aB,Pn.aA a,aQ a1',aJ a1',a1,aQ a2',aJ a2',a2]
       ·simp[K2,he,hc,aD,aQ h0,aJ h0,bU h0,hi,r2,hc',w2,aL h3,Ex.aB,Pn.aB,Pn.aZ,hl1,hl2,zG,Pn.aA a,h0,aQ a1',aJ a1',a1,aQ a2',aJ a2',a2]
   | succ n =>
    have he:p.exprs.take (n+1)=p.exprs:=zZ (by omega);simp[KX,hn,he,hc,aD];rw[aT (K2 p) p.kids.length (by simp[K2,hn,hc,aD,Ex.aB])]
    ·rw[aG]
     cases hm:p.kids.length with
     | zero =>
      have hk:p.kids=[]:=zW.1 hm;simp[K2,hn,hc,aD,hk,Ex.aB,Pn.aB,pcX,pcS]
     | succ m =>
      have hk:p.kids.take (m+1)=p.kids:=zZ (by omega);simp[K2,hn,hc,aD,hm,hk,Ex.aB,pcX,pcS]
    ·intro i hi;have h3:=zX hi;have hc':=ih _ (zU h3);have r2:=Pn.aP h3;generalize p.kids[i]=a at h3 hc' r2;have w2:IntKind.i64.wrap ((i:Int)+1)=i+1:=wrO;rw[Pn.aA]at r2 hc';simp only[pcX,pcS]at hc';have hl1:(i+1)*88≤140737488355328:=by omega
     have hl2:min i p.kids.length=i:=by omega
     by_cases a1:a.exprs=[]
     ·by_cases a2:a.kids=[]
      ·simp[a1,a2,Ex.aB,Pn.aB]at hc' r2;by_cases h0:i=0
       ·subst h0;simp[K2,hn,hc,aD,hi,r2,hc',dP,aL h3,Ex.aB,Pn.aB,Pn.aA a,a1,a2]
       ·simp[K2,hn,hc,aD,aQ h0,aJ h0,bU h0,hi,r2,hc',w2,aL h3,Ex.aB,Pn.aB,Pn.aZ,hl1,hl2,zG,Pn.aA a,h0,a1,a2]
      ·have a2':a.kids.length≠0:=fun h=>a2 (zW.1 h)
       simp[a1,aQ a2',aJ a2',a2,Ex.aB,Pn.aB]at hc' r2;by_cases h0:i=0
       ·subst h0;simp[K2,hn,hc,aD,hi,r2,hc',dP,aL h3,Ex.aB,Pn.aB,Pn.aA a,a1,aQ a2',aJ a2',a2]
       ·simp[K2,hn,hc,aD,aQ h0,aJ h0,bU h0,hi,r2,hc',w2,aL h3,Ex.aB,Pn.aB,Pn.aZ,hl1,hl2,zG,Pn.aA a,h0,a1,aQ a2',aJ a2',a2]
     ·by_cases a2:a.kids=[]
      ·have a1':a.exprs.length≠0:=fun h=>a1 (zW.1 h)
       simp[aQ a1',aJ a1',a1,a2,Ex.aB,Pn.aB]at hc' r2;by_cases h0:i=0
       ·subst h0;simp[K2,hn,hc,aD,hi,r2,hc',dP,aL h3,Ex.aB,Pn.aB,Pn.aA a,aQ a1',aJ a1',a1,a2]
       ·simp[K2,hn,hc,aD,aQ h0,aJ h0,bU h0,hi,r2,hc',w2,aL h3,Ex.aB,Pn.aB,Pn.aZ,hl1,hl2,zG,Pn.aA a,h0,aQ a1',aJ a1',a1,a2]
      ·have a1':a.exprs.length≠0:=fun h=>a1 (zW.1 h)
       have a2':a.kids.length≠0:=fun h=>a2 (zW.1 h)
       simp[aQ a1',aJ a1',a1,aQ a2',aJ a2',a2,Ex.aB,Pn.aB]at hc' r2;by_cases h0:i=0
       ·subst h0;simp[K2,hn,hc,aD,hi,r2,hc',dP,aL h3,Ex.aB,Pn.aB,Pn.aA a,aQ a1',aJ a1',a1,aQ a2',aJ a2',a2]
       ·simp[K2,hn,hc,aD,aQ h0,aJ h0,bU h0,hi,r2,hc',w2,aL h3,Ex.aB,Pn.aB,Pn.aZ,hl1,hl2,zG,Pn.aA a,h0,aQ a1',aJ a1',a1,aQ a2',aJ a2',a2]
  ·intro i hi;have h3:=zX hi;have hc':=BB _ (t2 _ (zU h3));have r2:=Ex.aP h3;generalize p.exprs[i]=a at h3 hc' r2;have w2:IntKind.i64.wrap ((i:Int)+1)=i+1:=wrO;rw[Ex.aA]at r2 hc';by_cases h0:i=0
   ·subst h0;simp[KX,hc,aD,hi,r2,hc',dP,aL h3,Ex.aB,Ex.aA a]
   ·simp[KX,hc,aD,aQ h0,aJ h0,bU h0,hi,r2,hc',w2,aL h3,Ex.aZ,show min i p.exprs.length=i by omega,show(i+1)*56≤140737488355328 by omega,zG,Ex.aA a,h0]
 simp[hc,show p.cols.length*8≤140737488355328 by omega];rw[aT (KX p) p.exprs.length (by simp[KX,hc])]
 ·rw[aG]
  cases hn:p.exprs.length with
  | zero =>
   have he:p.exprs=[]:=zW.1 hn;simp[KX,he,hc,Ex.aB];rw[aT (K2 p) p.kids.length (by simp[K2,he,hc,Ex.aB])]
   ·rw[aG]
    cases hm:p.kids.length with
    | zero =>
     have hk:p.kids=[]:=zW.1 hm;simp[K2,he,hc,hk,Ex.aB,Pn.aB,pcX,pcS]
    | succ m =>
     have hk:p.kids.take (m+1)=p.kids:=zZ (by omega);simp[K2,he,hc,hm,hk,Ex.aB,pcX,pcS]
   ·intro i hi;have h3:=zX hi;have hc':=ih _ (zU h3);have r2:=Pn.aP h3;generalize p.kids[i]=a at h3 hc' r2;have w2:IntKind.i64.wrap ((i:Int)+1)=i+1:=wrO;rw[Pn.aA]at r2 hc';simp only[pcX,pcS]at hc';have hl1:(i+1)*88≤140737488355328:=by omega
    have hl2:min i p.kids.length=i:=by omega
    by_cases a1:a.exprs=[]
    ·by_cases a2:a.kids=[]
     ·simp[a1,a2,Ex.aB,Pn.aB]at hc' r2;by_cases h0:i=0
      ·subst h0;simp[K2,he,hc,hi,r2,hc',dP,aL h3,Ex.aB,Pn.aB,Pn.aA a,a1,a2]
      ·simp[K2,he,hc,aQ h0,aJ h0,bU h0,hi,r2,hc',w2,aL h3,Ex.aB,Pn.aB,Pn.aZ,hl1,hl2,zG,Pn.aA a,h0,a1,a2]
     ·have a2':a.kids.length≠0:=fun h=>a2 (zW.1 h)
      simp[a1,aQ a2',aJ a2',a2,Ex.aB,Pn.aB]at hc' r2;by_cases h0:i=0
      ·subst h0;simp[K2,he,hc,hi,r2,hc',dP,aL h3,Ex.aB,Pn.aB,Pn.aA a,a1,aQ a2',aJ a2',a2]
      ·simp[K2,he,hc,aQ h0,aJ h0,bU h0,hi,r2,hc',w2,aL h3,Ex.aB,Pn.aB,Pn.aZ,hl1,hl2,zG,Pn.aA a,h0,a1,aQ a2',aJ a2',a2]
    ·by_cases a2:a.kids=[]
     ·have a1':a.exprs.length≠0:=fun h=>a1 (zW.1 h)
      simp[aQ a1',aJ a1',a1,a2,Ex.aB,Pn.aB]at hc' r2;by_cases h0:i=0
      ·subst h0;simp[K2,he,hc,hi,r2,hc',dP,aL h3,Ex.aB,Pn.aB,Pn.aA a,aQ a1',aJ a1',a1,a2]
      ·simp[K2,he,hc,aQ h0,aJ h0,bU h0,hi,r2,hc',w2,aL h3,Ex.aB,Pn.aB,Pn.aZ,hl1,hl2,zG,Pn.aA a,h0,aQ a1',aJ a1',a1,a2]
     ·have a1':a.exprs.length≠0:=fun h=>a1 (zW.1 h)
      have a2':a.kids.length≠0:=fun h=>a2 (zW.1 h)
      simp[aQ a1',aJ a1',a1,aQ a2',aJ a2',a2,Ex.aB,Pn.aB]at hc' r2;by_cases h0:i=0
      ·subst h0;simp[K2,he,hc,hi,r2,hc',dP,aL h3,Ex.aB,Pn.aB,Pn.aA a,aQ a1',aJ a1',a1,aQ a2',aJ a2',a2]
      ·simp[K2,he,hc,aQ h0,aJ h0,bU h0,hi,r2,hc',w2,aL h3,Ex.aB,Pn.aB,Pn.aZ,hl1,hl2,zG,Pn.aA a,h0,aQ a1',aJ a1',a1,aQ a2',aJ a2',a2]
  | succ n =>
   have he:p.exprs.take (n+1)=p.exprs:=zZ (by omega);simp[KX,hn,he,hc];rw[aT (K2 p) p.kids.length (by simp[K2,hn,hc,Ex.aB])]
   ·rw[aG]
    cases hm:p.kids.length with
    | zero =>
     have hk:p.kids=[]:=zW.1 hm;simp[K2,hn,hc,hk,Ex.aB,Pn.aB,pcX,pcS]
    | succ m =>
     have hk:p.kids.take (m+1)=p.kids:=zZ (by omega);simp[K2,hn,hc,hm,hk,Ex.aB,pcX,pcS]
   ·intro i hi;have h3:=zX hi;have hc':=ih _ (zU h3);have r2:=Pn.aP h3;generalize p.kids[i]=a at h3 hc' r2;have w2:IntKind.i64.wrap ((i:Int)+1)=i+1:=wrO;rw[Pn.aA]at r2 hc';simp only[pcX,pcS]at hc';have hl1:(i+1)*88≤140737488355328:=by omega
    have hl2:min i p.kids.length=i:=by omega
    by_cases a1:a.exprs=[]
    ·by_cases a2:a.kids=[]
     ·simp[a1,a2,Ex.aB,Pn.aB]at hc' r2;by_cases h0:i=0
      ·subst h0;simp[K2,hn,hc,hi,r2,hc',dP,aL h3,Ex.aB,Pn.aB,Pn.aA a,a1,a2]
      ·simp[K2,hn,hc,aQ h0,aJ h0,bU h0,hi,r2,hc',w2,aL h3,Ex.aB,Pn.aB,Pn.aZ,hl1,hl2,zG,Pn.aA a,h0,a1,a2]
     ·have a2':a.kids.length≠0:=fun h=>a2 (zW.1 h)
      simp[a1,aQ a2',aJ a2',a2,Ex.aB,Pn.aB]at hc' r2;by_cases h0:i=0
      ·subst h0;simp[K2,hn,hc,hi,r2,hc',dP,aL h3,Ex.aB,Pn.aB,Pn.aA a,a1,aQ a2',aJ a2',a2]
      ·simp[K2,hn,hc,aQ h0,aJ h0,bU h0,hi,r2,hc',w2,aL h3,Ex.aB,Pn.aB,Pn.aZ,hl1,hl2,zG,Pn.aA a,h0,a1,aQ a2',aJ a2',a2]
    ·by_cases a2:a.kids=[]
     ·have a1':a.exprs.length≠0:=fun h=>a1 (zW.1 h)
      simp[aQ a1',aJ a1',a1,a2,Ex.aB,Pn.aB]at hc' r2;by_cases h0:i=0
      ·subst h0;simp[K2,hn,hc,hi,r2,hc',dP,aL h3,Ex.aB,Pn.aB,Pn.aA a,aQ a1',aJ a1',a1,a2]
      ·simp[K2,hn,hc,aQ h0,aJ h0,bU h0,hi,r2,hc',w2,aL h3,Ex.aB,Pn.aB,Pn.aZ,hl1,hl2,zG,Pn.aA a,h0,aQ a1',aJ a1',a1,a2]
     ·have a1':a.exprs.length≠0:=fun h=>a1 (zW.1 h)
      have a2':a.kids.length≠0:=fun h=>a2 (zW.1 h)
      simp[aQ a1',aJ a1',a1,aQ a2',aJ a2',a2,Ex.aB,Pn.aB]at hc' r2;by_cases h0:i=0
      ·subst h0;simp[K2,hn,hc,hi,r2,hc',dP,aL h3,Ex.aB,Pn.aB,Pn.aA a,aQ a1',aJ a1',a1,aQ a2',aJ a2',a2]
      ·simp[K2,hn,hc,aQ h0,aJ h0,bU h0,hi,r2,hc',w2,aL h3,Ex.aB,Pn.aB,Pn.aZ,hl1,hl2,zG,Pn.aA a,h0,aQ a1',aJ a1',a1,aQ a2',aJ a2',a2]
 ·intro i hi;have h3:=zX hi;have hc':=BB _ (t2 _ (zU h3));have r2:=Ex.aP h3;generalize p.exprs[i]=a at h3 hc' r2;have w2:IntKind.i64.wrap ((i:Int)+1)=i+1:=wrO;rw[Ex.aA]at r2 hc';by_cases h0:i=0
  ·subst h0;simp[KX,hc,hi,r2,hc',dP,aL h3,Ex.aB,Ex.aA a]
  ·simp[KX,hc,aQ h0,aJ h0,bU h0,hi,r2,hc',w2,aL h3,Ex.aZ,show min i p.exprs.length=i by omega,show(i+1)*56≤140737488355328 by omega,zG,Ex.aA a,h0]
theorem BA:∀ (p:Pn),p.thin→aI C0 62 [.i (.agg p.cells)] []=some (pcX p,pcS p):=by
 intro p
 induction p using Pn.ind with
 | h k t es cs ks ih =>
  intro ht;exact QK ht fun a ha=>ih a ha (((Pn.bO _).1 ht).2.2.2.2 a ha)
def vB (x:Bool) (v:Pn):Option Blk:=if x=true then some (.fbox v.cells)else some (.box (jW v.cells))
theorem pI:aI C0 93 [.i (.isl [])] []=some (.nils,[]):=by
 rw[aF rfl Tryz.func93 rfl rfl];simp
theorem sK {l:List Int} (h:l≠[]) (hl:l.length<1000000000):aI C0 93 [.i (.isl (aD l))] []=some (.osl 0 1 0 l.length,[some (.arr 1 (aD l))]):=by
 rw[aF rfl Tryz.func93 rfl rfl];have h1:8*(l.length:Int)≤281474976710656:=by omega
 simp[h,h1];unfold over;simp
end Go.Proofs.YtjdfjgmebalaaaaGreat.P
namespace Go.Av
def XQ (l:List Int) (n:Int):List Int:=if l[l.findIdx fun x=>!decide (x<n)]?=some n then l else l.take (l.findIdx fun x=>!decide (x<n))++n::l.drop (l.findIdx fun x=>!decide (x<n))
mutual
def QZ:List Int→Ex→List Int
 | l, .mk k c _ ks=>nM (if k=1 then XQ l c else l) ks
def nM:List Int→List Ex→List Int
 | l,[]=>l
 | l,e::es=>nM (QZ l e) es
end
theorem YU (l:List Int) (e:Ex):QZ l e=nM (if e.kind=1 then XQ l e.col else l) e.kids:=by
 cases e;simp only[QZ,Ex.kind,Ex.col,Ex.kids];congr
theorem FP:∀ (ks:List Ex) (l:List Int) (e:Ex),nM l (ks++[e])=QZ (nM l ks) e
 | [],l,e=>by simp[nM]
 | a::ks,l,e=>by simp[nM,FP ks]
theorem AMB {l:List Int} {n x:Int}:x∈XQ l n↔x∈l∨x=n:=by
 unfold XQ;split
 ·rename_i h;constructor
  ·exact .inl
  ·rintro(h1|rfl)
   ·exact h1
   ·exact zU h
 ·have e:l.take (l.findIdx fun x=>!decide (x<n))++l.drop (l.findIdx fun x=>!decide (x<n))=l:=yA _ _;generalize l.findIdx (fun x=>!decide (x<n))=k at *
  constructor
  ·intro h
   rcases zV.1 h with h|h
   ·exact .inl (z8 h)
   ·rcases zS.1 h with h|h
    ·exact .inr h
    ·exact .inl (yG h)
  ·rintro(h|rfl)
   ·rw[← e]at h
    rcases zV.1 h with h|h
    ·exact zV.2 (.inl h)
    ·exact zV.2 (.inr (zS.2 (.inr h)))
   ·exact zV.2 (.inr (zS.2 (.inl rfl)))
def Asc (l:List Int):Prop:=l.Pairwise (· < ·)
theorem AMC {l:List Int} {n:Int} (h:Asc l):Asc (XQ l n):=by
 unfold XQ;split
 ·exact h
 ·rename_i hne;have e:l.take (l.findIdx fun x=>!decide (x<n))++l.drop (l.findIdx fun x=>!decide (x<n))=l:=yA _ _
  have hlt:∀ x∈l.take (l.findIdx fun x=>!decide (x<n)),x<n:=by
   intro x hx;obtain⟨i,hi⟩:=List.mem_iff_getElem?.1 hx;rw[zD]at hi;split at hi
   ·rename_i hk;have:=List.not_of_lt_findIdx hk;rw[zX (by have:=zD4 (xs:=l) (p:=fun x=>!decide (x<n));omega)]at hi;injection hi with hi;rw[hi]at this;simpa using this
   ·cases hi
  have hge:∀ x∈l.drop (l.findIdx fun x=>!decide (x<n)),n<x:=by
   intro x hx
   rcases zE1 (l.findIdx fun x=>!decide (x<n)) l.length with hk|hk
   ·have h1:=List.findIdx_getElem (w:=hk);have hd:=yE hk;have hn:l[l.findIdx fun x=>!decide (x<n)]≠n:=fun e=>hne (by rw[zX hk,e])
    rw[hd]at hx;have hs:Asc (l.drop (l.findIdx fun x=>!decide (x<n))):=List.Pairwise.sublist (List.drop_sublist _ _) h;rw[hd]at hs;have hs:=List.pairwise_cons.1 hs;simp at h1
    rcases zS.1 hx with rfl|hx
    ·omega
    ·have:=hs.1 x hx;omega
   ·rw[List.drop_eq_nil_of_le hk]at hx;cases hx
  generalize l.findIdx (fun x=>!decide (x<n))=k at *
  rw[← e]at h;unfold Asc at *
  rw[List.pairwise_append]at h ⊢;refine⟨h.1,List.pairwise_cons.2 ⟨hge,h.2.1⟩,?_⟩;intro a ha b hb
  rcases zS.1 hb with rfl|hb
  ·exact hlt a ha
  ·exact h.2.2 a ha b hb
theorem ANB:∀ (e:Ex) (l:List Int),Asc l→Asc (QZ l e):=by
 intro e
 induction e using Ex.ind with
 | h k c v ks ih =>
  intro l hl;rw[YU]
  have:∀ (xs:List Ex) (l:List Int),(∀ e∈xs,∀ l,Asc l→Asc (QZ l e))→Asc l→Asc (nM l xs):=by
   intro xs
   induction xs with
   | nil=>intro l _ h;simpa [nM]using h
   | cons a xs ihx=>intro l h1 h2;exact ihx _ (fun e he=>h1 e (by simp[he])) (h1 a (by simp) l h2)
  refine this _ _ (fun e he=>ih e (by simpa [Ex.kids]using he)) ?_;split
  ·exact AMC hl
  ·exact hl
theorem ANC {m:Int} (P:Int→Bool):∀ (e:Ex) (l:List Int),e.wf m=true→((∀ x∈QZ l e,P x=true)↔(∀ x∈l,P x=true)∧e.wF P=true):=by
 intro e
 induction e using Ex.ind with
 | h k c v ks ih =>
  intro l hw;rw[YU,Ex.mV]
  have:∀ (xs:List Ex) (l:List Int),(∀ e∈xs,e∈ks)→((∀ x∈nM l xs,P x=true)↔(∀ x∈l,P x=true)∧xs.all (Ex.wF P)=true):=by
   intro xs
   induction xs with
   | nil=>intro l _;simp[nM]
   | cons a xs ihx =>
    intro l h1;have ha:=h1 a (by simp);simp only[nM,List.all_cons,zT];rw[ihx _ fun e he=>h1 e (by simp[he]),ih a ha l (Ex.pM hw (by simpa [Ex.kids]using ha))];exact and_assoc
  simp only[Ex.kind,Ex.col,Ex.kids];rw[this ks _ fun e he=>he];by_cases h1:k=1
  ·have hk:=(Ex.wI hw (by simpa [Ex.kind]using h1)).2.2;simp only[Ex.kids]at hk;subst hk;simp only[h1,if_true,AMB];simp;constructor
   ·intro h;exact⟨fun x hx=>h x (.inl hx),h c (.inr rfl)⟩
   ·rintro⟨h2,h3⟩ x (hx|rfl)
    ·exact h2 x hx
    ·exact h3
  ·simp only[h1,if_false]
theorem AJ5 {l:List Int} (h:Asc l) (lo hi:Int):(∀ x∈l,lo≤x∧x≤hi)↔(l=[]∨(∃ a,l[0]?=some a∧lo≤a)∧(∃ b,l[l.length-1]?=some b∧b≤hi)):=by
 constructor
 ·intro hall
  cases hl:l with
  | nil=>exact .inl rfl
  | cons a r =>
   right;rw[← hl];have h0:l[0]?=some a:=by rw[hl];rfl
   have hk:l.length-1<l.length:=by rw[hl];simp
   exact⟨⟨a,h0,(hall a (zU h0)).1⟩,⟨l[l.length-1],zX hk,(hall _ (xJ hk)).2⟩⟩
 ·rintro(rfl|⟨⟨a,h0,h1⟩,b,h2,h3⟩) x hx
  ·cases hx
  ·obtain⟨i,hi⟩:=List.mem_iff_getElem?.1 hx
   have hil:=(zY.1 hi)
   have h0l:=(zY.1 h0)
   have h2l:=(zY.1 h2)
   obtain⟨p1,rfl⟩:=hil;obtain⟨p2,rfl⟩:=h0l;obtain⟨p3,rfl⟩:=h2l;have hp:=List.pairwise_iff_getElem.1 h;constructor
   ·by_cases hz:i=0
    ·subst hz;exact h1
    ·have:=hp 0 i p2 p1 (by omega);omega
   ·by_cases hz:i=l.length-1
    ·subst hz;exact h3
    ·have:=hp i (l.length-1) p1 p3 (by omega);omega
end Go.Av
namespace Go.Proofs.YtjdfjgmebalaaaaGreat.P
open Go Go.Av
set_option maxRecDepth 4000
set_option maxHeartbeats 2000000
theorem AGW {a:Nat} (ha:a<64):a % 2 ^ IntKind.i64.bits=a:=by
 show a % 18446744073709551616=a;exact Nat.mod_eq_of_lt (by omega)
theorem AR4 {a:Nat} (ha:a<64):(a:Int) % 2 ^ IntKind.i64.bits=a:=by
 show(a:Int) % 18446744073709551616=a;omega
theorem ALK {a b:Nat} (ha:a<64) (hb:b<64):IntKind.i64.wrap ((a ||| b:Nat):Int)=((a ||| b:Nat):Int):=by
 have h3:a ||| b<2 ^ 6:=zA4 (by omega) (by omega)
 exact wrO
theorem AK6 {a:Nat} (ha:a<64):IntKind.i64.wrap (a:Int)=a:=wrO
def KBX (e:Ex) (i:Nat):AS :=
 { env:=[(0, .i (.iref [.int e.kind, .int e.col, .bool e.val.null, .int e.val.n, .isl (Ex.aB e.kids)])),(2, .int 0),(3, .int (Ex.sQ (e.kids.take i):Nat)),(4,jk i (.int (i-1))),(9, .bool false),(19, .int e.kids.length),(20, .int i),(21,jk i (.bool true))],st:=[] }
theorem OO:∀ e:Ex,e.size<1000000000→e.wF (fun c=>decide (0≤c∧c<6))=true→aI C0 151 [.i (.iref e.cells)] []=some (.int (e.bits:Nat),[]):=by
 intro e
 induction e using Ex.ind with
 | h k c v ks ih =>
  intro hs ha;generalize he:Ex.mk k c v ks=e at *
  have hk1:k=e.kind:=by rw[← he];rfl
  have hks:ks=e.kids:=by rw[← he];rfl
  subst hks;have hsz:=Ex.size_eq e;have hln:=Ex.bP e.kids;rw[aF rfl Tryz.func151 rfl rfl,Ex.aA];rw[Ex.mV]at ha;by_cases h1:e.kind=1
  ·simp only[h1,if_true]at ha;have ha:=zR ha;rw[Ex.QU h1];have hc:e.col=0∨e.col=1∨e.col=2∨e.col=3∨e.col=4∨e.col=5:=by omega
   rcases hc with hc|hc|hc|hc|hc|hc<;>(simp[h1,hc];decide)
  ·simp only[h1,if_false,zO]at ha;rw[Ex.QS h1];simp[h1];rw[aT (KBX e) e.kids.length (by simp[KBX,Ex.sQ,h1])]
   ·rw[aG];simp[KBX]
   ·intro i hi;have h3:=zX hi;have hm:=zU h3;have r2:=Ex.aP h3;have htk:=aL h3;generalize e.kids[i]=a at h3 hm r2 htk;have hk:=ih a hm (by have:=Ex.jF hm;omega) (ha a hm);have w2:IntKind.i64.wrap ((i:Int)+1)=i+1:=wrO;have hb:a.bits<2 ^ 6:=Ex.QT a (ha a hm);have hbl:Ex.sQ (e.kids.take i)<2 ^ 6:=Ex.QV fun x hx=>Ex.QT x (ha x (z8 hx))
    have hor:=ALK (a:=Ex.sQ (e.kids.take i)) (b:=a.bits) (by omega) (by omega);rw[Ex.aA a]at r2 hk;by_cases h0:i=0
    ·subst h0;simp[KBX,hi,r2,hk,dP,htk,Ex.FJ,Ex.sQ,AR4 (show a.bits<64 by omega),AK6 (show a.bits<64 by omega)]
    ·simp[KBX,bU h0,hi,r2,hk,w2,htk,Ex.FJ,hor,AGW (show a.bits<64 by omega),AGW (show Ex.sQ (e.kids.take i)<64 by omega)]
def ANX (l:List Int) (n:Int) (i:Nat):AS :=
 { env:=[(0, .i (.isl (aD l))),(1, .int n),(4, .nils),(5, .int i),(6, .junk),(18,jk i (.bool true)),(32, .junk)],st:=[] }
theorem VV (l:List Int) (n:Int) (hl:l.length<1000000):aI C0 202 [.i (.isl (aD l)), .int n] []=some (.i (.isl (aD (XQ l n))),[]):=by
 rw[aF rfl Tryz.func202 rfl rfl]
 have hlt:∀ i,i<l.findIdx (fun x=>!decide (x<n))→∃ x,l[i]?=some x∧x<n:=by
  intro i hi;have hle:=zD4 (xs:=l) (p:=fun x=>!decide (x<n));have:=List.not_of_lt_findIdx hi;exact⟨l[i]'(by omega),zX (by omega),by simpa using this⟩
 have hat:∀ x,l[l.findIdx fun x=>!decide (x<n)]?=some x→¬ x<n:=by
  intro x hx;obtain⟨h1,rfl⟩:=zY.1 hx;have:=List.findIdx_getElem (w:=h1);simpa using this
 have hle:=zD4 (xs:=l) (p:=fun x=>!decide (x<n));unfold XQ;generalize l.findIdx (fun x=>!decide (x<n))=j at *
 simp;rw[aT (ANX l n) j (by simp[ANX])]
 ·rw[aG]
  cases hj:l[j]? with
  | none =>
   have hjl:j=l.length:=by have:=zA9.1 hj;omega
   subst hjl;have hb:((l.length:Int)+1)*8≤140737488355328:=by omega
   have hb1:(l.length+1)*8≤140737488355328:=by omega
   have hb2:l.length*8≤140737488355328:=by omega
   have ht:List.take (l.length+1) (aD l++[[IV.lit (Value.int IntKind.i64 n)]])=aD l++[[IV.lit (Value.int IntKind.i64 n)]]:=zZ (by simp);simp[ANX,hb1,hb2,gB,aD,ht]
  | some x =>
   have hx:=hat x hj;have hjl:=(zY.1 hj).1;have r2:=bK hj;by_cases hxn:x=n
   ·subst hxn;simp[ANX,hjl,r2]
   ·have hb1:(j+1)*8≤140737488355328:=by omega
    have hb2:j*8≤140737488355328:=by omega
    have hb3:(j+1+(l.length-j))*8≤140737488355328:=by omega
    have t1:(l.take j).length=j:=by simp;omega
    have t2:(aD (l.take j)++[[IV.lit (Value.int IntKind.i64 n)]]).take (j+1)=aD (l.take j)++[[IV.lit (Value.int IntKind.i64 n)]]:=zZ (by simp;omega);have t3:(l.drop j).take (l.length-j)=l.drop j:=zZ (by simp);have t4:(aD (l.take j)++[[IV.lit (Value.int IntKind.i64 n)]]++aD (l.drop j)).take (j+1+(l.length-j))=aD (l.take j)++[[IV.lit (Value.int IntKind.i64 n)]]++aD (l.drop j):=zZ (by simp;omega);have t5:(l.take j).take j=l.take j:=zZ (by omega);simp[ANX,hjl,hle,r2,hx,hxn,hb1,hb2,hb3,gB,aD];rw[t5,t2,t3,t4];simp
 ·intro i hi;obtain⟨x,h3,hx⟩:=hlt i hi;have r2:=bK h3;have hil:=(zY.1 h3).1;have w2:IntKind.i64.wrap ((i:Int)+1)=i+1:=wrO;simp[ANX,hil,r2,hx,w2]
end Go.Proofs.YtjdfjgmebalaaaaGreat.P
namespace Go.Av
theorem Ex.APF {w w':Int} (h:w≤w'):∀ e:Ex,e.wf w=true→e.wf w'=true:=by
 intro e
 induction e using Ex.ind with
 | h k c v ks ih =>
  intro hw;rw[Ex.RQ]at hw ⊢;simp only[zT]at hw ⊢;refine⟨hw.1,?_,?_⟩
  ·have h2:=hw.2.1;unfold Ex.headOk at h2 ⊢;split at h2
   ·rename_i h1;rw[if_pos h1];simp only[zT,zM]at h2 ⊢;exact⟨h2.1,by omega,h2.2.2⟩
   ·rename_i h1;rw[if_neg h1];exact h2
  ·rw[zO]at *
   exact fun x hx=>ih x hx (hw.2.2 x hx)
theorem Ex.I9 {w:Int} {e:Ex} (h:e.ok w=true):e.wf w=true∧1≤w∧w≤6:=by
 unfold Ex.ok bQ at h;rw[Ex.SQ]at h;simp only[zT,zM]at h;exact⟨h.2.1,h.1.1,h.1.2⟩
theorem Ex.AGI {w:Int} {e:Ex} (h:e.ok w=true):e.wf 6=true:=Ex.APF (Ex.I9 h).2.2 e (Ex.I9 h).1
theorem Ex.YX {e:Ex} (h:e.wf 6=true):e.wF (fun c=>decide (0≤c∧c<6))=true:=Ex.P6 e h
theorem Ex.AK7 {w:Int} {e:Ex} (h:e.wf w=true):e.wF (fun c=>decide (0≤c))=true:=Ex.qW (fun c hc=>by simp only[zM]at hc ⊢;exact hc.1) e (Ex.P6 e h)
theorem Ex.AB5 {f g:Int→Bool}:∀ e:Ex,e.wF f=true→e.wF g=true→e.wF (fun c=>f c && g c)=true:=by
 intro e
 induction e using Ex.ind with
 | h k c v ks ih =>
  intro h1 h2;rw[Ex.mV]at *
  by_cases hk:k=1
  ·subst hk;simp only[Ex.kind,Ex.col,if_true]at h1 h2 ⊢;simp[h1,h2]
  ·simp only[Ex.kind,Ex.kids,hk,if_false,zO]at h1 h2 ⊢;exact fun x hx=>ih x hx (h1 x hx) (h2 x hx)
theorem AMX {e:Ex} {m:Int} (h:e.wf m=true) (lo hi:Int):(QZ [] e=[]∨(∃ a,(QZ [] e)[0]?=some a∧lo≤a)∧(∃ b,(QZ [] e)[(QZ [] e).length-1]?=some b∧b≤hi-1))↔e.cin lo hi=true:=by
 rw[← AJ5 (ANB e [] List.Pairwise.nil)];have:=ANC (fun x=>decide (lo≤x∧x<hi)) e [] h;unfold Ex.cin;constructor
 ·intro h1;exact(this.1 fun x hx=>by have:=h1 x hx;simp only[zM];omega).2
 ·intro h1 x hx;have:=this.2 ⟨by simp,h1⟩ x hx;simp only[zM]at this;omega
theorem VW:∀ (e:Ex) (l:List Int),(QZ l e).length≤l.length+e.size:=by
 intro e
 induction e using Ex.ind with
 | h k c v ks ih =>
  intro l;have hm:QZ l (.mk k c v ks)=nM (if k=1 then XQ l c else l) ks:=by simp[QZ]
  have hz:(Ex.mk k c v ks).size=1+Ex.aM ks:=by simp[Ex.size]
  rw[hm,hz]
  have:∀ (xs:List Ex) (l:List Int),(∀ x∈xs,x∈ks)→(nM l xs).length≤l.length+Ex.aM xs:=by
   intro xs
   induction xs with
   | nil=>intro l _;simp[nM]
   | cons a xs ihx =>
    intro l h;have h1:=ihx (QZ l a) fun x hx=>h x (by simp[hx])
    have h2:=ih a (h a (by simp)) l;simp only[nM,Ex.aM];omega
  have h2:(XQ l c).length≤l.length+1:=by
   unfold XQ;split
   ·omega
   ·simp only[zN,yF,zQ,xD];omega
  by_cases h1:k=1
  ·rw[if_pos h1];have:=this ks (XQ l c) fun x hx=>hx
   omega
  ·rw[if_neg h1];have:=this ks l fun x hx=>hx
   omega
def okS (a:Int):Prop:=1≤a∧a≤7
theorem AMV:∀ a b:Fin 8,a.val≠0→b.val≠0→(1≤mX 8 a.val b.val∧mX 8 a.val b.val≤7)∧(1≤mX 9 a.val b.val∧mX 9 a.val b.val≤7)∧(1≤mX 3 a.val b.val∧mX 3 a.val b.val≤7)∧(1≤mX 6 a.val b.val∧mX 6 a.val b.val≤7):=by decide
theorem ASF {k a b:Int} (ha:okS a) (hb:okS b):okS (mX k a b):=by
 obtain⟨a,rfl⟩:=yO (show 0≤a by have:=ha.1;omega);obtain⟨b,rfl⟩:=yO (show 0≤b by have:=hb.1;omega);have h:=AMV ⟨a,by have:=ha.2;omega⟩ ⟨b,by have:=hb.2;omega⟩ (by have:=ha.1;simp;omega) (by have:=hb.1;simp;omega);unfold okS;by_cases h8:k=8
 ·subst h8;exact h.1
 ·by_cases h9:k=9
  ·subst h9;exact h.2.1
  ·by_cases h6:k<6
   ·have e:mX k a b=mX 3 a b:=by simp[mX,h8,h9,h6]
    rw[e];exact h.2.2.1
   ·have e:mX k a b=mX 6 a b:=by simp[mX,h8,h9,h6]
    rw[e];exact h.2.2.2
theorem ALM:∀ a:Fin 8,a.val≠0→(1≤AYG a.val∧AYG a.val≤7)∧(1≤AYE a.val∧AYE a.val≤7):=by decide
theorem AUV (v:Val):okS (stV v):=by
 unfold stV okS;split
 ·omega
 ·split<;>omega
theorem XE (st:List Int) (e:Ex):KC st e=if e.kind=1 then(st[e.col.toNat]?).getD 0 else if e.kind=2 then stV e.val else if e.kind=10 then AYG ((e.kids[0]?.map (KC st)).getD 0)else if e.kind=11 then AYE ((e.kids[0]?.map (KC st)).getD 0)else mX e.kind ((e.kids[0]?.map (KC st)).getD 0) ((e.kids[1]?.map (KC st)).getD 0):=by
 cases e
 simp only[KC,U5,Ex.kind,Ex.col,Ex.val,Ex.kids,zB9];congr
end Go.Av
namespace Go.Proofs.YtjdfjgmebalaaaaGreat.P
open Go Go.Av
set_option maxRecDepth 4000
set_option maxHeartbeats 4000000
@[simp] theorem wr0:IntKind.i64.wrap 0=0:=by decide
@[simp] theorem wr1:IntKind.i64.wrap 1=1:=by decide
@[simp] theorem wr2:IntKind.i64.wrap 2=2:=by decide
@[simp] theorem wr3:IntKind.i64.wrap 3=3:=by decide
@[simp] theorem wr4:IntKind.i64.wrap 4=4:=by decide
@[simp] theorem wr7:IntKind.i64.wrap 7=7:=by decide
@[simp] theorem Al5:(2:Nat) ^ IntKind.i64.bits=18446744073709551616:=rfl
@[simp] theorem Al6:(2:Int) ^ IntKind.i64.bits=18446744073709551616:=rfl
def ACX (e:Ex) (l:List Int) (i:Nat):AS :=
 { env:=[(0, .i (.isl (aD (nM l (e.kids.take i))))),(1, .i (.agg [.int e.kind, .int e.col, .bool e.val.null, .int e.val.n, .isl (Ex.aB e.kids)])),(3, .own 0 0),(4, .nils),(5, .int i),(8, .bool (e.kind == 1)),(17,jk i (.bool true))],
   st:=[some (.box [.int e.kind, .int e.col, .bool e.val.null, .int e.val.n, .i (.isl (Ex.aB e.kids))])] }
theorem QY:∀ e:Ex,∀ l:List Int,l.length+e.size<1000000→aI C0 189 [.i (.isl (aD l)), .i (.agg e.cells)] []=some (.i (.isl (aD (QZ l e))),[]):=by
 intro e
 induction e using Ex.ind with
 | h k c v ks ih =>
  intro l hs;generalize he:Ex.mk k c v ks=e at *
  have hks:ks=e.kids:=by rw[← he];rfl
  subst hks;have hsz:=Ex.size_eq e;have hln:=Ex.bP e.kids
  have hrd:∀ l':List Int,l'.length≤l.length+1→∀ i,i<e.kids.length→∃ a,e.kids[i]?=some a∧e.kids.take (i+1)=e.kids.take i++[a]∧fU (Ex.aB e.kids) i=some a.cells∧aI C0 189 [.i (.isl (aD (nM l' (e.kids.take i)))), .i (.agg a.cells)] []=some (.i (.isl (aD (QZ (nM l' (e.kids.take i)) a))),[]):=by
   intro l' hl' i hi;have h3:=zX hi;have hm:=zU h3;have htk:=aL h3;refine⟨e.kids[i],h3,htk,Ex.aP h3,ih _ hm _ ?_⟩
   have hadd:∀ (xs:List Ex) (l:List Int),(nM l xs).length≤l.length+Ex.aM xs:=by
    intro xs
    induction xs with
    | nil=>intro l;simp[nM]
    | cons a xs ihx=>intro l;have h1:=ihx (QZ l a);have h2:=VW a l;simp only[nM,Ex.aM];omega
   have h1:=hadd (e.kids.take i) l'
   have hsum:∀ (xs ys:List Ex),Ex.aM (xs++ys)=Ex.aM xs+Ex.aM ys:=by
    intro xs
    induction xs with
    | nil=>intro ys;simp[Ex.aM]
    | cons a xs ihx=>intro ys;simp[Ex.aM,ihx,yH]
   have h2:=hsum (e.kids.take (i+1)) (e.kids.drop (i+1));rw[yA,htk,hsum]at h2;simp only[Ex.aM]at h2;omega
  rw[aF rfl Tryz.func189 rfl rfl,Ex.aA,YU];by_cases h1:e.kind=1
  ·have hn:=VV l e.col (by omega)
   have hil:(XQ l e.col).length≤l.length+1:=by
    unfold XQ;split
    ·omega
    ·simp only[zN,yF,zQ,xD];omega
   simp[h1,hn];rw[aT (ACX e (XQ l e.col)) e.kids.length (by simp[ACX,nM,h1])]
   ·rw[aG];simp[ACX]
   ·intro i hi;obtain⟨a,h3,htk,r2,hk⟩:=hrd _ hil i hi;have w2:IntKind.i64.wrap ((i:Int)+1)=i+1:=wrO;rw[Ex.aA a]at r2 hk;simp[ACX,hi,r2,hk,w2,htk,FP]
  ·simp[h1];rw[aT (ACX e l) e.kids.length (by simp[ACX,nM,h1])]
   ·rw[aG];simp[ACX]
   ·intro i hi;obtain⟨a,h3,htk,r2,hk⟩:=hrd l (by omega) i hi;have w2:IntKind.i64.wrap ((i:Int)+1)=i+1:=wrO;rw[Ex.aA a]at r2 hk;simp[ACX,hi,r2,hk,w2,htk,FP]
theorem RO (e:Ex) {m:Int} (hw:e.wf m=true) (hs:e.size<100000) (lo hi:Int) (hh:-100≤hi∧hi≤100):aI C0 168 [.i (.agg e.cells), .int lo, .int (hi-1)] []=some (.bool (e.cin lo hi),[]):=by
 have ha:=QY e [] (by simp;omega);have hc:=AMX hw lo hi;have hsz:=VW e [];rw[aF rfl Tryz.func168 rfl rfl];generalize QZ [] e=l at *
 rw[Ex.aA]at *
 simp only[aD]at ha
 cases hl:l with
 | nil =>
  have:e.cin lo hi=true:=hc.1 (.inl hl);rw[hl]at ha;simp[ha,this,aD]
 | cons a r =>
  have h0:l[0]?=some a:=by rw[hl];rfl
  have hlen:0<l.length:=by rw[hl];simp
  have hk:l.length-1<l.length:=by omega
  have h2:=zX hk;generalize l[l.length-1]=b at h2;have r0:=bK h0;have r2:=bK h2;have w1:IntKind.i64.wrap ((l.length:Int)-1)=((l.length-1:Nat):Int):=by rw[wrap64 (by simp at hsz;omega) (by simp at hsz;omega)];omega
  have hne:¬ l=[]:=by rw[hl];simp
  have hiff:e.cin lo hi=(decide (lo≤a) && decide (b≤hi-1)):=by
   rw[zB8,← hc];simp only[zT,zM];constructor
   ·rintro(h|⟨⟨x,hx,h3⟩,y,hy,h4⟩)
    ·exact absurd h hne
    ·rw[h0]at hx;rw[h2]at hy;injection hx with hx;injection hy with hy;subst hx;subst hy;exact⟨h3,h4⟩
   ·rintro⟨h3,h4⟩;exact .inr ⟨⟨a,h0,h3⟩,b,h2,h4⟩
  rw[hiff];by_cases q:lo≤a
  ·have q2:a ≥ lo:=q;simp[ha,hne,r0,r2,w1,hlen,hk,q]
  ·simp[ha,hne,r0,hlen,q]
theorem mD (b:Bool) (n:Int):aI C0 196 [.i (.agg [.bool b, .int n])] []=some (.int (stV ⟨b,n⟩),[]):=by
 rw[aF rfl Tryz.func196 rfl rfl]
 cases b
 ·by_cases h:n=0<;>simp[stV,h]
 ·simp[stV]
theorem TJ (b:Bool) (n:Int):aI C0 203 [.i (.agg [.bool b, .int n])] []=some (.int (stV ⟨b,n⟩),[]):=by
 rw[aF rfl Tryz.func203 rfl rfl]
 cases b
 ·by_cases h:n=0<;>simp[stV,h]
 ·simp[stV]
theorem ABM (x:Int):aI C0 210 [.int x] []=some (.i (.agg [.bool (decide (x=4)), .int (if x=2 then 1 else 0)]),[]):=by
 rw[aF rfl Tryz.func210 rfl rfl];by_cases h:x=4
 ·subst h;simp
 ·by_cases h2:x=2
  ·subst h2;simp
  ·simp[h,h2]
theorem eight {a:Int} (h:0≤a∧a≤7):a=0∨a=1∨a=2∨a=3∨a=4∨a=5∨a=6∨a=7:=by omega
theorem M0 {a:Int} (h:0≤a∧a≤7):aI C0 207 [.int a] []=some (.i (.isl (vY (exS a))),[]):=by
 rw[aF rfl Tryz.func207 rfl rfl];have s0:=mD false 0;have s1:=mD false 1;have s2:=mD true 0;simp only[stV,yM,if_false,if_true,Int.reduceEq]at s0 s1 s2
 rcases eight h with rfl|rfl|rfl|rfl|rfl|rfl|rfl|rfl
 all_goals
  simp;rw[aG];simp[s0,s1,s2];rw[aG];simp[s0,s1,s2];rw[aG];simp[s0,s1,s2];rw[aG];simp[exS,jZ,vY]
theorem aV (e:Ex) (k:Pn):(filt e k).cells=[.int 2, .int 0, .isl [e.cells], .isl [], .isl [k.cells]]:=by simp[filt,Pn.cells,Ex.aB,aD,Pn.aB]
theorem jS (es:List Ex) (k:Pn):(proj es k).cells=[.int 3, .int 0, .isl (Ex.aB es), .isl [], .isl [k.cells]]:=by simp[proj,Pn.cells,aD,Pn.aB]
theorem pair_cells (kd:Int) (e:Ex) (a b:Pn):(bB kd e a b).cells=[.int kd, .int 0, .isl [e.cells], .isl [], .isl [a.cells,b.cells]]:=by simp[bB,Pn.cells,Ex.aB,aD,Pn.aB]
theorem JH (a b:Pn):(dF a b).cells=[.int 6, .int 0, .isl [], .isl [], .isl [a.cells,b.cells]]:=by simp[dF,Pn.cells,Ex.aB,aD,Pn.aB]
theorem qV (a b:Ex):(AB3 a b).cells=[.int 8, .int 0, .bool false, .int 0, .isl [a.cells,b.cells]]:=by simp[AB3,Ex.cells,Ex.aB,Val.zero]
theorem lL (c:Int):(AAR c).cells=[.int 1, .int c, .bool false, .int 0, .isl []]:=by simp[AAR,Ex.cells,Ex.aB,Val.zero]
theorem aW:Pn.zero.cells=[.int 0, .int 0, .isl [], .isl [], .isl []]:=by simp[Pn.zero,Pn.cells,Ex.aB,aD,Pn.aB]
theorem eQ (e:Ex) (k:Pn):aI C0 149 [.i (.agg e.cells), .i (.agg k.cells)] []=some (.i (.agg (filt e k).cells),[]):=by
 rw[aF rfl Tryz.func149 rfl rfl,aV,Ex.aA,Pn.aA];simp
theorem nZ (kd:Int) (e:Ex) (a b:Pn):aI C0 152 [.int kd, .i (.agg e.cells), .i (.agg a.cells), .i (.agg b.cells)] []=some (.i (.agg (bB kd e a b).cells),[]):=by
 rw[aF rfl Tryz.func152 rfl rfl,pair_cells,Ex.aA,Pn.aA a,Pn.aA b];simp
theorem AIN (a b:Ex):aI C0 150 [.i (.agg a.cells), .i (.agg b.cells)] []=some (.i (.agg (AB3 a b).cells),[]):=by
 rw[aF rfl Tryz.func150 rfl rfl,qV,Ex.aA a,Ex.aA b];simp
theorem F7 (c:Int):aI C0 156 [.int c] []=some (.i (.agg (AAR c).cells),[]):=by
 rw[aF rfl Tryz.func156 rfl rfl,lL];simp
theorem fG {p:Pn} {kd:Int} (h:p.kind≠2):aI C0 148 [.i (.iref p.cells), .int kd] []=some (.tup [.i (.lit (.pointer none)), .i (.lit (.pointer none)), .bool false],[]):=by
 rw[aF rfl Tryz.func148 rfl rfl,Pn.aA];simp[h]
theorem dV {e:Ex} {k:Pn} {kd:Int} (h:k.kind≠kd):aI C0 148 [.i (.iref (filt e k).cells), .int kd] []=some (.tup [.i (.lit (.pointer none)), .i (.lit (.pointer none)), .bool false],[]):=by
 rw[aF rfl Tryz.func148 rfl rfl,aV,Pn.aA k];simp[h]
theorem fJ {e:Ex} {k:Pn} {kd:Int} (h:k.kind=kd):aI C0 148 [.i (.iref (filt e k).cells), .int kd] []=some (.tup [.i (.iref e.cells), .i (.iref k.cells), .bool true],[]):=by
 rw[aF rfl Tryz.func148 rfl rfl,aV,Pn.aA k,Ex.aA e];simp[h]
theorem XC (c w:Int) (h0:0≤c∧c≤6) (hw:0≤w∧w≤6):aI C0 154 [.int c, .own 0 0] [some (.box [.int w])]=some (.int (c-w),[some (.box [.int w])]):=by
 rw[aF rfl Tryz.func154 rfl rfl];have w1:IntKind.i64.wrap (c-w)=c-w:=wrO;simp[w1]
theorem NU (c a b:Int) (h0:0≤c∧c≤12) (ha:0≤a∧a≤6) (hb:0≤b∧b≤6):aI C0 155 [.int c, .own 0 0, .own 1 0] [some (.box [.int a]),some (.box [.int b])]=some (.int (rJ a b c),[some (.box [.int a]),some (.box [.int b])]):=by
 rw[aF rfl Tryz.func155 rfl rfl];have w1:IntKind.i64.wrap (c-a)=c-a:=wrO;have w2:IntKind.i64.wrap (c+b)=c+b:=wrO;unfold rJ;by_cases h:c<a
 ·simp[h,w2]
 ·simp[h,w1]
def zrw:List IV:=[.int 0, .int 0, .bool false, .int 0, .isl []]
@[simp] theorem AIC {e:Ex} (h:e.size<1000000000):aI C0 92 [.i (.iref e.cells)] []=some (.i (.agg e.cells),[]):=by
  rw[aU (p:=YC) rfl];exact AAO h
theorem AG3 {e:Ex} {w:Int} (hw:0≤w∧w≤6) (hk:e.kind=1) (hc:0≤e.col∧e.col<6) :
 aI C0 177 [.i (.iref e.cells), .own 0 0] [some (.box [.fn (.func 154) [.own 1 0]]),some (.box [.int w])]=some (.i (.agg (AAR (e.col-w)).cells),[some (.box [.fn (.func 154) [.own 1 0]]),some (.box [.int w])]):=by
 have hp:=XC e.col w (by omega) hw;have h2:=F7 (e.col-w);rw[aF rfl Tryz.func177 rfl rfl,Ex.aA e];rw[lL]at *
 simp[hk,hp,h2]
theorem AG1 {e:Ex} {w:Int} (hk:e.kind≠1) (hs:e.size<1000000000) :
 aI C0 177 [.i (.iref e.cells), .own 0 0] [some (.box [.fn (.func 154) [.own 1 0]]),some (.box [.int w])]=some (.i (.agg e.cells),[some (.box [.fn (.func 154) [.own 1 0]]),some (.box [.int w])]):=by
 have hc:=AIC hs;rw[aF rfl Tryz.func177 rfl rfl];rw[Ex.aA e]at *
 simp[hk,hc]
def RNR (e:Ex) (w:Int) (f:Ex→Ex) (i:Nat):AS :=
 { env:=[(0, .i (.iref [.int e.kind, .int e.col, .bool e.val.null, .int e.val.n, .isl (Ex.aB e.kids)])),(1, .fn (.func 177) [.own 0 0]),(4, .own 2 0),(5, .own 3 0),(6,jk i (.int (i-1))),(12, .bool ((e.kids.length:Int) == 0)),(39, .int e.kids.length),(40, .int i),(41,jk i (.bool true))],
   st:=[some (.box [.fn (.func 154) [.own 1 0]]),some (.box [.int w]),some (.box [.int 0, .int 0, .bool false, .int 0, .nils]),some (.box [.int e.kind, .int e.col, .bool e.val.null, .int e.val.n, .osl 4 5 0 e.kids.length]),some (.arr 5 (Ex.aB ((e.kids.map f).take i)++List.replicate (e.kids.length-i) zrw))] }
theorem AZM {e:Ex} {w:Int} {f:Ex→Ex} (hk:e.kids≠[]) (hl:e.kids.length<1000000000) (ih:∀ x∈e.kids,aI C0 176 [.i (.iref x.cells), .fn (.func 177) [.own 0 0]] [some (.box [.fn (.func 154) [.own 1 0]]),some (.box [.int w])]=some (.i (.agg (f x).cells),[some (.box [.fn (.func 154) [.own 1 0]]),some (.box [.int w])])) :
 aI C0 176 [.i (.iref e.cells), .fn (.func 177) [.own 0 0]] [some (.box [.fn (.func 154) [.own 1 0]]),some (.box [.int w])]=some (.i (.agg (Ex.mk e.kind e.col e.val (e.kids.map f)).cells),[some (.box [.fn (.func 154) [.own 1 0]]),some (.box [.int w])]):=by
 rw[aF rfl Tryz.func176 rfl rfl,Ex.aA];have hb:56*(e.kids.length:Int)≤281474976710656:=by omega
 simp[hk,hb];rw[aT (RNR e w f) e.kids.length (by simp[RNR,Ex.aB,zrw])]
 ·rw[aG];have ht:(e.kids.map f).take e.kids.length=e.kids.map f:=zZ (by simp);simp[RNR,Ex.cells,ht]
 ·intro i hi;have h3:=zX hi;have hm:=zU h3;have hc:=ih _ hm;have r2:=Ex.aP h3;generalize e.kids[i]=x at h3 hc r2;have w2:IntKind.i64.wrap ((i:Int)+1)=i+1:=wrO;rw[Ex.aA]at hc r2;have hD:(Ex.aB ((e.kids.map f).take i)).length=i:=by simp;omega
  have hS:Ex.aB ((e.kids.map f).take i)++[(f x).cells]=Ex.aB ((e.kids.map f).take (i+1)):=by rw[aL (a:=f x) (by simp[h3]),Ex.aZ]
  have g1:=vS (n:=e.kids.length) (z:=zrw) hD hi;have g2:=vR (n:=e.kids.length) (z:=zrw) (x:=(f x).cells) hD hi;have g3:splice zrw 0 (f x).cells=some (f x).cells:=jQ (by simp[zrw]);rw[hS]at g2;simp[RNR,hi,r2,hc,w2,g1,g2,g3]
theorem AVN {e x:Ex} {w:Int} (hk:e.kids=[]) (h:aI C0 177 [.i (.iref e.cells), .own 0 0] [some (.box [.fn (.func 154) [.own 1 0]]),some (.box [.int w])]=some (.i (.agg x.cells),[some (.box [.fn (.func 154) [.own 1 0]]),some (.box [.int w])])) :
 aI C0 176 [.i (.iref e.cells), .fn (.func 177) [.own 0 0]] [some (.box [.fn (.func 154) [.own 1 0]]),some (.box [.int w])]=some (.i (.agg x.cells),[some (.box [.fn (.func 154) [.own 1 0]]),some (.box [.int w])]):=by
 rw[aF rfl Tryz.func176 rfl rfl];rw[Ex.aA e]at h ⊢;rw[Ex.aA x]at h ⊢;simp[hk,Ex.aB]at h ⊢;simp[h]
theorem AFV {w:Int} (hw:0≤w∧w≤6):∀ (e:Ex),e.wf 6=true→e.size<1000000000→aI C0 176 [.i (.iref e.cells), .fn (.func 177) [.own 0 0]] [some (.box [.fn (.func 154) [.own 1 0]]),some (.box [.int w])]=some (.i (.agg (e.AL (·-w)).cells),[some (.box [.fn (.func 154) [.own 1 0]]),some (.box [.int w])]):=by
 intro e
 induction e using Ex.ind with
 | h k c v ks ih =>
  intro hx6 hs;have hsz:=Ex.size_eq (.mk k c v ks);have hln:=Ex.bP ks;simp only[Ex.kids]at hsz;by_cases h1:k=1
  ·have hc:=Ex.wI hx6 (by simpa [Ex.kind]using h1);rw[Ex.IR _ (by simpa [Ex.kind]using h1)];exact AVN hc.2.2 (AG3 hw (by simpa [Ex.kind]using h1) ⟨hc.1,hc.2.1⟩)
  ·rw[Ex.IQ _ (by simpa [Ex.kind]using h1)];by_cases hk:ks=[]
   ·subst hk;exact AVN rfl (AG1 (by simpa [Ex.kind]using h1) hs)
   ·exact AZM hk (by simp only[Ex.kids];omega) fun x hx=>ih x hx (Ex.pM hx6 hx) (by have:=Ex.jF (l:=ks) hx;omega)
theorem X8 {w:Int} (hw:0≤w∧w≤6) (e:Ex) (hx6:e.wf 6=true) (hs:e.size<1000000000):aI C0 153 [.i (.iref e.cells), .fn (.func 154) [.own 0 0]] [some (.box [.int w])]=some (.i (.agg (e.AL (·-w)).cells),[some (.box [.int w])]):=by
 have h:=AFV hw e hx6 hs;rw[aF rfl Tryz.func153 rfl rfl];generalize e.AL (·-w)=x at *
 rw[Ex.aA e,Ex.aA x]at *
 simp[h]
theorem AG2 {e:Ex} {a b:Int} (ha:0≤a∧a≤6) (hb:0≤b∧b≤6) (hk:e.kind=1) (hc:0≤e.col∧e.col<6) :
 aI C0 177 [.i (.iref e.cells), .own 0 0] [some (.box [.fn (.func 155) [.own 1 0, .own 2 0]]),some (.box [.int a]),some (.box [.int b])]=some (.i (.agg (AAR (rJ a b e.col)).cells),[some (.box [.fn (.func 155) [.own 1 0, .own 2 0]]),some (.box [.int a]),some (.box [.int b])]):=by
 have hp:=NU e.col a b (by omega) ha hb;have h2:=F7 (rJ a b e.col);rw[aF rfl Tryz.func177 rfl rfl,Ex.aA e];rw[lL]at *
 simp[hk,hp,h2]
theorem AG0 {e:Ex} {a b:Int} (hk:e.kind≠1) (hs:e.size<1000000000) :
 aI C0 177 [.i (.iref e.cells), .own 0 0] [some (.box [.fn (.func 155) [.own 1 0, .own 2 0]]),some (.box [.int a]),some (.box [.int b])]=some (.i (.agg e.cells),[some (.box [.fn (.func 155) [.own 1 0, .own 2 0]]),some (.box [.int a]),some (.box [.int b])]):=by
 have hc:=AIC hs;rw[aF rfl Tryz.func177 rfl rfl];rw[Ex.aA e]at *
 simp[hk,hc]
def RNS (e:Ex) (a b:Int) (f:Ex→Ex) (i:Nat):AS :=
 { env:=[(0, .i (.iref [.int e.kind, .int e.col, .bool e.val.null, .int e.val.n, .isl (Ex.aB e.kids)])),(1, .fn (.func 177) [.own 0 0]),(4, .own 3 0),(5, .own 4 0),(6,jk i (.int (i-1))),(12, .bool ((e.kids.length:Int) == 0)),(39, .int e.kids.length),(40, .int i),(41,jk i (.bool true))],
   st:=[some (.box [.fn (.func 155) [.own 1 0, .own 2 0]]),some (.box [.int a]),some (.box [.int b]),some (.box [.int 0, .int 0, .bool false, .int 0, .nils]),some (.box [.int e.kind, .int e.col, .bool e.val.null, .int e.val.n, .osl 5 5 0 e.kids.length]),some (.arr 5 (Ex.aB ((e.kids.map f).take i)++List.replicate (e.kids.length-i) zrw))] }
theorem AZL {e:Ex} {a b:Int} {f:Ex→Ex} (hk:e.kids≠[]) (hl:e.kids.length<1000000000) (ih:∀ x∈e.kids,aI C0 176 [.i (.iref x.cells), .fn (.func 177) [.own 0 0]] [some (.box [.fn (.func 155) [.own 1 0, .own 2 0]]),some (.box [.int a]),some (.box [.int b])]=some (.i (.agg (f x).cells),[some (.box [.fn (.func 155) [.own 1 0, .own 2 0]]),some (.box [.int a]),some (.box [.int b])])) :
 aI C0 176 [.i (.iref e.cells), .fn (.func 177) [.own 0 0]] [some (.box [.fn (.func 155) [.own 1 0, .own 2 0]]),some (.box [.int a]),some (.box [.int b])]=some (.i (.agg (Ex.mk e.kind e.col e.val (e.kids.map f)).cells),[some (.box [.fn (.func 155) [.own 1 0, .own 2 0]]),some (.box [.int a]),some (.box [.int b])]):=by
 rw[aF rfl Tryz.func176 rfl rfl,Ex.aA];have hb:56*(e.kids.length:Int)≤281474976710656:=by omega
 simp[hk,hb];rw[aT (RNS e a b f) e.kids.length (by simp[RNS,Ex.aB,zrw])]
 ·rw[aG];have ht:(e.kids.map f).take e.kids.length=e.kids.map f:=zZ (by simp);simp[RNS,Ex.cells,ht]
 ·intro i hi;have h3:=zX hi;have hm:=zU h3;have hc:=ih _ hm;have r2:=Ex.aP h3;generalize e.kids[i]=x at h3 hc r2;have w2:IntKind.i64.wrap ((i:Int)+1)=i+1:=wrO;rw[Ex.aA]at hc r2;have hD:(Ex.aB ((e.kids.map f).take i)).length=i:=by simp;omega
  have hS:Ex.aB ((e.kids.map f).take i)++[(f x).cells]=Ex.aB ((e.kids.map f).take (i+1)):=by rw[aL (a:=f x) (by simp[h3]),Ex.aZ]
  have g1:=vS (n:=e.kids.length) (z:=zrw) hD hi;have g2:=vR (n:=e.kids.length) (z:=zrw) (x:=(f x).cells) hD hi;have g3:splice zrw 0 (f x).cells=some (f x).cells:=jQ (by simp[zrw]);rw[hS]at g2;simp[RNS,hi,r2,hc,w2,g1,g2,g3]
theorem AVM {e x:Ex} {a b:Int} (hk:e.kids=[]) (h:aI C0 177 [.i (.iref e.cells), .own 0 0] [some (.box [.fn (.func 155) [.own 1 0, .own 2 0]]),some (.box [.int a]),some (.box [.int b])]=some (.i (.agg x.cells),[some (.box [.fn (.func 155) [.own 1 0, .own 2 0]]),some (.box [.int a]),some (.box [.int b])])) :
 aI C0 176 [.i (.iref e.cells), .fn (.func 177) [.own 0 0]] [some (.box [.fn (.func 155) [.own 1 0, .own 2 0]]),some (.box [.int a]),some (.box [.int b])]=some (.i (.agg x.cells),[some (.box [.fn (.func 155) [.own 1 0, .own 2 0]]),some (.box [.int a]),some (.box [.int b])]):=by
 rw[aF rfl Tryz.func176 rfl rfl];rw[Ex.aA e]at h ⊢;rw[Ex.aA x]at h ⊢;simp[hk,Ex.aB]at h ⊢;simp[h]
theorem AFU {a b:Int} (ha:0≤a∧a≤6) (hb:0≤b∧b≤6):∀ (e:Ex),e.wf 6=true→e.size<1000000000→aI C0 176 [.i (.iref e.cells), .fn (.func 177) [.own 0 0]] [some (.box [.fn (.func 155) [.own 1 0, .own 2 0]]),some (.box [.int a]),some (.box [.int b])]=some (.i (.agg (e.AL (rJ a b)).cells),[some (.box [.fn (.func 155) [.own 1 0, .own 2 0]]),some (.box [.int a]),some (.box [.int b])]):=by
 intro e
 induction e using Ex.ind with
 | h k c v ks ih =>
  intro hx6 hs;have hsz:=Ex.size_eq (.mk k c v ks);have hln:=Ex.bP ks;simp only[Ex.kids]at hsz;by_cases h1:k=1
  ·have hc:=Ex.wI hx6 (by simpa [Ex.kind]using h1);rw[Ex.IR _ (by simpa [Ex.kind]using h1)];exact AVM hc.2.2 (AG2 ha hb (by simpa [Ex.kind]using h1) ⟨hc.1,hc.2.1⟩)
  ·rw[Ex.IQ _ (by simpa [Ex.kind]using h1)];by_cases hk:ks=[]
   ·subst hk;exact AVM rfl (AG0 (by simpa [Ex.kind]using h1) hs)
   ·exact AZL hk (by simp only[Ex.kids];omega) fun x hx=>ih x hx (Ex.pM hx6 hx) (by have:=Ex.jF (l:=ks) hx;omega)
theorem X7 {a b:Int} (ha:0≤a∧a≤6) (hb:0≤b∧b≤6) (e:Ex) (hx6:e.wf 6=true) (hs:e.size<1000000000):aI C0 153 [.i (.iref e.cells), .fn (.func 155) [.own 0 0, .own 1 0]] [some (.box [.int a]),some (.box [.int b])]=some (.i (.agg (e.AL (rJ a b)).cells),[some (.box [.int a]),some (.box [.int b])]):=by
 have h:=AFU ha hb e hx6 hs;rw[aF rfl Tryz.func153 rfl rfl];generalize e.AL (rJ a b)=x at *
 rw[Ex.aA e,Ex.aA x]at *
 simp[h]
end Go.Proofs.YtjdfjgmebalaaaaGreat.P
namespace Go.Av
theorem PX (a b:Nat):orS a b=((a ||| b:Nat):Int):=by simp[orS]
def RA (k:Int) (v:Val) (l:List Val) (s:Int) (j:Nat):Int:=(l.take j).foldl (fun s w=>orS s (stV (Val.cmb k v w))) s
def sZ (k:Int) (l r:List Val) (i:Nat):Int:=(l.take i).foldl (fun s v=>r.foldl (fun s w=>orS s (stV (Val.cmb k v w))) s) 0
theorem W9 {k:Int} {v w:Val} {l:List Val} {s:Int} {j:Nat} (h:l[j]?=some w):RA k v l s (j+1)=orS (RA k v l s j) (stV (Val.cmb k v w)):=by
 unfold RA;rw[aL h,zD0];rfl
theorem ML {k:Int} {v:Val} {l r:List Val} {i:Nat} (h:l[i]?=some v):sZ k l r (i+1)=RA k v r (sZ k l r i) r.length:=by
 unfold sZ RA;rw[aL h,zD0,zD9];rfl
def AEK (s:Int):Prop:=∃ n:Nat,s=n∧n<8
theorem JN (v:Val):AEK (stV v):=by
 unfold stV;split
 ·exact⟨4,rfl,by omega⟩
 ·split
  ·exact⟨1,rfl,by omega⟩
  ·exact⟨2,rfl,by omega⟩
theorem AGH {a b:Int} (ha:AEK a) (hb:AEK b):AEK (orS a b):=by
 obtain⟨m,rfl,hm⟩:=ha;obtain⟨n,rfl,hn⟩:=hb;exact⟨m ||| n,PX m n,zA4 (n:=3) hm hn⟩
theorem J4 {k:Int} {v:Val}:∀ (l:List Val) {s:Int} (j:Nat),AEK s→AEK (RA k v l s j)
 | [],s,j,h=>by simpa [RA]using h
 | a::l,s,0,h=>by simpa [RA]using h
 | a::l,s,j+1,h=>by
  have:=J4 (k:=k) (v:=v) l (s:=orS s (stV (Val.cmb k v a))) j (AGH h (JN _));simpa [RA]using this
theorem AB6 {k:Int} {r:List Val} (l:List Val) (i:Nat) (hi:i≤l.length):AEK (sZ k l r i):=by
 induction i with
 | zero=>exact⟨0,by simp[sZ],by omega⟩
 | succ i ih =>
  rw[ML (zX (show i<l.length by omega))];exact J4 r _ (ih (by omega))
theorem AMW {k a b:Int} (h:k=8∨k=9):mX k a b=sZ k (exS a) (exS b) (exS a).length:=by
 unfold mX sZ;rw[if_pos h,zD9]
theorem AOZ {a:Int} {v:Val} (h:v∈exS a):v.ok=true:=by
 unfold exS at h;simp only[zV]at h
 rcases h with h|h|h
 ·split at h
  ·simp at h;subst h;rfl
  ·cases h
 ·split at h
  ·simp at h;subst h;rfl
  ·cases h
 ·split at h
  ·simp at h;subst h;rfl
  ·cases h
theorem AX4 {b:Int} (h:okS b):exS b≠[]:=by
 obtain⟨h1,h2⟩:=h;have:b=1∨b=2∨b=3∨b=4∨b=5∨b=6∨b=7:=by omega
 rcases this with rfl|rfl|rfl|rfl|rfl|rfl|rfl<;>decide
theorem AI5 (a:Int):(exS a).length≤3:=by
 unfold exS;simp only[zN]
 repeat' split
 all_goals simp
end Go.Av
namespace Go.Proofs.YtjdfjgmebalaaaaGreat.P
open Go Go.Av
set_option maxRecDepth 4000
set_option maxHeartbeats 4000000
theorem GQ {n:Nat} (h:n<8):n % 18446744073709551616=n:=Nat.mod_eq_of_lt (by omega)
theorem or8 {m n:Nat} (hm:m<8) (hn:n<8):IntKind.i64.wrap ((m ||| n:Nat):Int)=((m ||| n:Nat):Int):=by
 have:=zA4 (n:=3) hm hn;exact wrO
def vBx (v:Val):Option Blk:=some (.box [.bool v.null, .int v.n])
def vAt (l:List Val) (i:Nat):Val:=(l[i]?).getD Val.zero
def jz (i:Nat) (v:AV):AV:=if i=0 then .junk else v
@[simp] theorem An9 (v:AV):jz 0 v=.junk:=rfl
@[simp] theorem An8 (i:Nat) (v:AV):jz (i+1) v=v:=rfl
theorem H6 {i:Nat} (h:i≠0) (v:AV):jz i v=v:=if_neg h
def CSX (k a b:Int) (A B:List Val) (i:Nat):AS :=
 { env:=[(0, .int k),(1, .int a),(2, .int b),(6, .int 0),(7, .int (sZ k A B i)),(9,jz i (.own 0 0)),(11,jz i (.own 1 0)),(17, .bool true),(19, .i (.isl (vY A))),(20, .int A.length),(21, .int i),(22,jz i (.bool true)),(26,jz i (.i (.isl (vY B)))),(27,jz i (.int B.length)),(28,jz i (.int B.length)),(29,jz i (.bool false)),(46, .junk),(54, .junk),(66, .junk)],
   st:=if i=0 then []else [vBx (vAt A (i-1)),vBx (vAt B (B.length-1))] }
def CSI (k a b:Int) (A B:List Val) (i:Nat) (j:Nat):AS :=
 { env:=[(0, .int k),(1, .int a),(2, .int b),(6, .int 0),(7, .int (RA k (vAt A i) B (sZ k A B i) j)),(9, .own 0 0),(11,if j=0 then jz i (.own 1 0)else .own 1 0),(17, .bool true),(19, .i (.isl (vY A))),(20, .int A.length),(21, .int i),(22, .bool true),(26, .i (.isl (vY B))),(27, .int B.length),(28, .int j),(29,if j=0 then jz i (.bool false)else .bool true),(46, .junk),(54, .junk),(66, .junk)],
   st:=vBx (vAt A i)::(if j=0 then(if i=0 then []else [vBx (vAt B (B.length-1))])else [vBx (vAt B (j-1))]) }
theorem DR {k a b:Int} (hk:k=8∨k=9) (ha:okS a) (hb:okS b):aI C0 197 [.int k, .int a, .int b] []=some (.int (mX k a b),[]):=by
 have hea:=M0 (a:=a) ⟨by have:=ha.1;omega,ha.2⟩;have heb:=M0 (a:=b) ⟨by have:=hb.1;omega,hb.2⟩;have hbn:=AX4 hb;have hbl:(exS b).length≠0:=fun h=>hbn (zW.1 h)
 have la:=AI5 a;have lb:=AI5 b;have oka:∀ v∈exS a,v.ok=true:=fun v hv=>AOZ hv
 have okb:∀ v∈exS b,v.ok=true:=fun v hv=>AOZ hv
 rw[aF rfl Tryz.func197 rfl rfl,AMW hk];generalize exS a=A at *
 generalize exS b=B at *
 rcases hk with rfl|rfl
 ·simp[hea];rw[aT (CSX 8 a b A B) A.length (by simp[CSX,sZ])]
  ·rw[aG];simp[CSX]
  ·intro i hi;have h3:=zX hi;have hm:=zU h3;generalize A[i]=v at h3 hm;have rA:=tZ h3;have hv:vAt A i=v:=by simp[vAt,h3]
   have w2:IntKind.i64.wrap ((i:Int)+1)=i+1:=wrO;have hlow0:=AB6 (k:=8) (r:=B) A i (by omega);have hsc:=ML (k:=8) (r:=B) h3
   have inner:∀ j,j<B.length→∃ w,B[j]?=some w∧w∈B∧fU (vY B) j=some [.bool w.null, .int w.n]∧vAt B j=w∧∃ m n:Nat,RA 8 v B (sZ 8 A B i) j=m∧stV (Val.cmb 8 v w)=n∧m<8∧n<8∧RA 8 v B (sZ 8 A B i) (j+1)=((m ||| n:Nat):Int)∧IntKind.i64.wrap ((m ||| n:Nat):Int)=((m ||| n:Nat):Int):=by
    intro j hj;have q3:=zX hj;obtain⟨m,hm1,hm2⟩:=J4 (k:=8) (v:=v) B j hlow0;obtain⟨n,hn1,hn2⟩:=JN (Val.cmb 8 v B[j]);refine⟨B[j],q3,xJ hj,tZ q3,by simp[vAt,q3],m,n,hm1,hn1,hm2,hn2,?_,or8 hm2 hn2⟩;rw[W9 q3,hm1,hn1,PX]
   by_cases h0:i=0
   ·subst h0;simp[CSX,hi,rA,heb];rw[aT (CSI 8 a b A B 0) B.length (by simp[CSI,RA,hv,vBx])]
    ·rw[aG];simp[CSI,hbl,w2,hv,hsc,CSX,vBx]
    ·intro j hj;obtain⟨w,q3,qm,q4,q5,m,n,m1,n1,m2,n2,hn,hwr⟩:=inner j hj;have hcm:=sM 8 v w (oka v hm) (okb w qm);have hst:=mD (Val.cmb 8 v w).null (Val.cmb 8 v w).n;have w3:IntKind.i64.wrap ((j:Int)+1)=j+1:=wrO;rw[show stV ⟨(Val.cmb 8 v w).null,(Val.cmb 8 v w).n⟩=stV (Val.cmb 8 v w)from rfl,n1]at hst;by_cases j0:j=0
     ·subst j0;simp[CSI,hj,hv,q4,q5,vBx,m1,hcm,hst,GQ m2,GQ n2,hwr,hn]
     ·simp[CSI,hj,hv,q4,q5,vBx,m1,hcm,hst,GQ m2,GQ n2,hwr,hn,j0,w3]
   ·simp[CSX,hi,rA,heb,h0,H6 h0,vBx];rw[aT (CSI 8 a b A B i) B.length (by simp[CSI,RA,hv,vBx,H6 h0,h0])]
    ·rw[aG];simp[CSI,hbl,w2,hv,hsc,CSX,vBx]
    ·intro j hj;obtain⟨w,q3,qm,q4,q5,m,n,m1,n1,m2,n2,hn,hwr⟩:=inner j hj;have hcm:=sM 8 v w (oka v hm) (okb w qm);have hst:=mD (Val.cmb 8 v w).null (Val.cmb 8 v w).n;have w3:IntKind.i64.wrap ((j:Int)+1)=j+1:=wrO;rw[show stV ⟨(Val.cmb 8 v w).null,(Val.cmb 8 v w).n⟩=stV (Val.cmb 8 v w)from rfl,n1]at hst;by_cases j0:j=0
     ·subst j0;simp[CSI,hj,hv,q4,q5,vBx,m1,hcm,hst,GQ m2,GQ n2,hwr,hn,H6 h0,h0]
     ·simp[CSI,hj,hv,q4,q5,vBx,m1,hcm,hst,GQ m2,GQ n2,hwr,hn,j0,w3,H6 h0,h0]
 ·simp[hea];rw[aT (CSX 9 a b A B) A.length (by simp[CSX,sZ])]
  ·rw[aG];simp[CSX]
  ·intro i hi;have h3:=zX hi;have hm:=zU h3;generalize A[i]=v at h3 hm;have rA:=tZ h3;have hv:vAt A i=v:=by simp[vAt,h3]
   have w2:IntKind.i64.wrap ((i:Int)+1)=i+1:=wrO;have hlow0:=AB6 (k:=9) (r:=B) A i (by omega);have hsc:=ML (k:=9) (r:=B) h3
   have inner:∀ j,j<B.length→∃ w,B[j]?=some w∧w∈B∧fU (vY B) j=some [.bool w.null, .int w.n]∧vAt B j=w∧∃ m n:Nat,RA 9 v B (sZ 9 A B i) j=m∧stV (Val.cmb 9 v w)=n∧m<8∧n<8∧RA 9 v B (sZ 9 A B i) (j+1)=((m ||| n:Nat):Int)∧IntKind.i64.wrap ((m ||| n:Nat):Int)=((m ||| n:Nat):Int):=by
    intro j hj;have q3:=zX hj;obtain⟨m,hm1,hm2⟩:=J4 (k:=9) (v:=v) B j hlow0;obtain⟨n,hn1,hn2⟩:=JN (Val.cmb 9 v B[j]);refine⟨B[j],q3,xJ hj,tZ q3,by simp[vAt,q3],m,n,hm1,hn1,hm2,hn2,?_,or8 hm2 hn2⟩;rw[W9 q3,hm1,hn1,PX]
   by_cases h0:i=0
   ·subst h0;simp[CSX,hi,rA,heb];rw[aT (CSI 9 a b A B 0) B.length (by simp[CSI,RA,hv,vBx])]
    ·rw[aG];simp[CSI,hbl,w2,hv,hsc,CSX,vBx]
    ·intro j hj;obtain⟨w,q3,qm,q4,q5,m,n,m1,n1,m2,n2,hn,hwr⟩:=inner j hj;have hcm:=sM 9 v w (oka v hm) (okb w qm);have hst:=mD (Val.cmb 9 v w).null (Val.cmb 9 v w).n;have w3:IntKind.i64.wrap ((j:Int)+1)=j+1:=wrO;rw[show stV ⟨(Val.cmb 9 v w).null,(Val.cmb 9 v w).n⟩=stV (Val.cmb 9 v w)from rfl,n1]at hst;by_cases j0:j=0
     ·subst j0;simp[CSI,hj,hv,q4,q5,vBx,m1,hcm,hst,GQ m2,GQ n2,hwr,hn]
     ·simp[CSI,hj,hv,q4,q5,vBx,m1,hcm,hst,GQ m2,GQ n2,hwr,hn,j0,w3]
   ·simp[CSX,hi,rA,heb,h0,H6 h0,vBx];rw[aT (CSI 9 a b A B i) B.length (by simp[CSI,RA,hv,vBx,H6 h0,h0])]
    ·rw[aG];simp[CSI,hbl,w2,hv,hsc,CSX,vBx]
    ·intro j hj;obtain⟨w,q3,qm,q4,q5,m,n,m1,n1,m2,n2,hn,hwr⟩:=inner j hj;have hcm:=sM 9 v w (oka v hm) (okb w qm);have hst:=mD (Val.cmb 9 v w).null (Val.cmb 9 v w).n;have w3:IntKind.i64.wrap ((j:Int)+1)=j+1:=wrO;rw[show stV ⟨(Val.cmb 9 v w).null,(Val.cmb 9 v w).n⟩=stV (Val.cmb 9 v w)from rfl,n1]at hst;by_cases j0:j=0
     ·subst j0;simp[CSI,hj,hv,q4,q5,vBx,m1,hcm,hst,GQ m2,GQ n2,hwr,hn,H6 h0,h0]
     ·simp[CSI,hj,hv,q4,q5,vBx,m1,hcm,hst,GQ m2,GQ n2,hwr,hn,j0,w3,H6 h0,h0]
set_option maxHeartbeats 8000000
theorem AW9:∀ m n:Fin 8,((m.val ||| n.val) &&& 4=0∧jZ (orS m.val n.val) 4=false)∨((m.val ||| n.val) &&& 4=4∧jZ (orS m.val n.val) 4=true):=by decide
theorem KD {m n:Nat} (hm:m<8) (hn:n<8):((m ||| n) &&& 4=0∧jZ (orS m n) 4=false)∨((m ||| n) &&& 4=4∧jZ (orS m n) 4=true):=AW9 ⟨m,hm⟩ ⟨n,hn⟩
theorem AR8:∀ m:Fin 8,(m.val &&& 18446744073709551611=0∧(jZ m.val 1 || jZ m.val 2)=false)∨((m.val &&& 18446744073709551611=1∨m.val &&& 18446744073709551611=2∨m.val &&& 18446744073709551611=3)∧(jZ m.val 1 || jZ m.val 2)=true):=by decide
theorem AHB {m:Nat} (hm:m<8):∃ v:Nat,m &&& 18446744073709551611=v∧IntKind.i64.wrap (v:Int)=v∧((v=0∧(jZ m 1 || jZ m 2)=false)∨(¬ v=0∧(jZ m 1 || jZ m 2)=true)):=by
 rcases AR8 ⟨m,hm⟩with ⟨h,q⟩|⟨h|h|h,q⟩
 ·exact⟨0,h,by decide, .inl ⟨rfl,q⟩⟩
 ·exact⟨1,h,by decide, .inr ⟨by omega,q⟩⟩
 ·exact⟨2,h,by decide, .inr ⟨by omega,q⟩⟩
 ·exact⟨3,h,by decide, .inr ⟨by omega,q⟩⟩
theorem BC {k:Int} (hk:3≤k∧k≠8∧k≠9) {m n:Nat} (hm:m<8) (hn:n<8):aI C0 197 [.int k, .int m, .int n] []=some (.int (mX k m n),[]):=by
 rw[aF rfl Tryz.func197 rfl rfl];have h1:=GQ hm;have h2:=GQ hn;have h3:=or8 hm hn;have h4:(m ||| n) % 18446744073709551616=m ||| n:=GQ (zA4 (n:=3) hm hn)
 obtain⟨x,x1,x2,x3⟩:=AHB hm;obtain⟨y,y1,y2,y3⟩:=AHB hn;have k8:¬ k=8:=hk.2.1;have k9:¬ k=9:=hk.2.2;have e7:orS 0 7=7:=by decide
 have e3:orS 0 3=3:=by decide
 have e47:orS 4 7=7:=by decide
 have e43:orS 4 3=7:=by decide
 have e40:orS 4 0=4:=by decide
 have e00:orS 0 0=0:=by decide
 by_cases k6:k<6
 ·have hk3:k=3∨k=4∨k=5:=by omega
  rcases hk3 with rfl|rfl|rfl
  ·rcases KD hm hn with ⟨p,q⟩|⟨p,q⟩
   ·rcases x3 with ⟨x3,x4⟩|⟨x3,x4⟩
    ·simp[h1,h2,h3,h4,p,x1,x2,x3,mX,q,x4,e00]
    ·rcases y3 with ⟨y3,y4⟩|⟨y3,y4⟩
     ·simp[h1,h2,h3,h4,p,x1,x2,x3,y1,y2,y3,mX,q,x4,y4,e00]
     ·simp[h1,h2,h3,h4,p,x1,x2,x3,y1,y2,y3,mX,q,x4,y4,e7,e3]
   ·rcases x3 with ⟨x3,x4⟩|⟨x3,x4⟩
    ·simp[h1,h2,h3,h4,p,x1,x2,x3,mX,q,x4,e40]
    ·rcases y3 with ⟨y3,y4⟩|⟨y3,y4⟩
     ·simp[h1,h2,h3,h4,p,x1,x2,x3,y1,y2,y3,mX,q,x4,y4,e40]
     ·simp[h1,h2,h3,h4,p,x1,x2,x3,y1,y2,y3,mX,q,x4,y4,e47,e43]
  ·rcases KD hm hn with ⟨p,q⟩|⟨p,q⟩
   ·rcases x3 with ⟨x3,x4⟩|⟨x3,x4⟩
    ·simp[h1,h2,h3,h4,p,x1,x2,x3,mX,q,x4,e00]
    ·rcases y3 with ⟨y3,y4⟩|⟨y3,y4⟩
     ·simp[h1,h2,h3,h4,p,x1,x2,x3,y1,y2,y3,mX,q,x4,y4,e00]
     ·simp[h1,h2,h3,h4,p,x1,x2,x3,y1,y2,y3,mX,q,x4,y4,e7,e3]
   ·rcases x3 with ⟨x3,x4⟩|⟨x3,x4⟩
    ·simp[h1,h2,h3,h4,p,x1,x2,x3,mX,q,x4,e40]
    ·rcases y3 with ⟨y3,y4⟩|⟨y3,y4⟩
     ·simp[h1,h2,h3,h4,p,x1,x2,x3,y1,y2,y3,mX,q,x4,y4,e40]
     ·simp[h1,h2,h3,h4,p,x1,x2,x3,y1,y2,y3,mX,q,x4,y4,e47,e43]
  ·rcases KD hm hn with ⟨p,q⟩|⟨p,q⟩
   ·rcases x3 with ⟨x3,x4⟩|⟨x3,x4⟩
    ·simp[h1,h2,h3,h4,p,x1,x2,x3,mX,q,x4,e00]
    ·rcases y3 with ⟨y3,y4⟩|⟨y3,y4⟩
     ·simp[h1,h2,h3,h4,p,x1,x2,x3,y1,y2,y3,mX,q,x4,y4,e00]
     ·simp[h1,h2,h3,h4,p,x1,x2,x3,y1,y2,y3,mX,q,x4,y4,e7,e3]
   ·rcases x3 with ⟨x3,x4⟩|⟨x3,x4⟩
    ·simp[h1,h2,h3,h4,p,x1,x2,x3,mX,q,x4,e40]
    ·rcases y3 with ⟨y3,y4⟩|⟨y3,y4⟩
     ·simp[h1,h2,h3,h4,p,x1,x2,x3,y1,y2,y3,mX,q,x4,y4,e40]
     ·simp[h1,h2,h3,h4,p,x1,x2,x3,y1,y2,y3,mX,q,x4,y4,e47,e43]
 ·have k3:¬ k=3:=by omega
  have k4:¬ k=4:=by omega
  have k5:¬ k=5:=by omega
  rcases KD hm hn with ⟨p,q⟩|⟨p,q⟩
  ·rcases x3 with ⟨x3,x4⟩|⟨x3,x4⟩
   ·simp[h1,h2,h3,h4,p,x1,x2,x3,mX,q,x4,e00,k3,k4,k5,k6,k8,k9]
   ·rcases y3 with ⟨y3,y4⟩|⟨y3,y4⟩
    ·simp[h1,h2,h3,h4,p,x1,x2,x3,y1,y2,y3,mX,q,x4,y4,e00,k3,k4,k5,k6,k8,k9]
    ·simp[h1,h2,h3,h4,p,x1,x2,x3,y1,y2,y3,mX,q,x4,y4,e7,e3,k3,k4,k5,k6,k8,k9]
  ·rcases x3 with ⟨x3,x4⟩|⟨x3,x4⟩
   ·simp[h1,h2,h3,h4,p,x1,x2,x3,mX,q,x4,e40,k3,k4,k5,k6,k8,k9]
   ·rcases y3 with ⟨y3,y4⟩|⟨y3,y4⟩
    ·simp[h1,h2,h3,h4,p,x1,x2,x3,y1,y2,y3,mX,q,x4,y4,e40,k3,k4,k5,k6,k8,k9]
    ·simp[h1,h2,h3,h4,p,x1,x2,x3,y1,y2,y3,mX,q,x4,y4,e47,e43,k3,k4,k5,k6,k8,k9]
end Go.Proofs.YtjdfjgmebalaaaaGreat.P
namespace Go.Av
theorem Ex.BO {w:Int} {e:Ex} (h:e.wf w=true):(e.kind=1∧0≤e.col∧e.col<w∧e.kids=[])∨(e.kind=2∧e.kids=[])∨((e.kind=10∨e.kind=11)∧∃ x,e.kids=[x]∧x.wf w=true)∨((3≤e.kind∧e.kind≤9)∧∃ x y,e.kids=[x,y]∧x.wf w=true∧y.wf w=true):=by
 have hk:∀ x∈e.kids,x.wf w=true:=fun x hx=>Ex.pM h hx
 by_cases h1:e.kind=1
 ·have:=Ex.wI h h1;exact .inl ⟨h1,this.1,this.2.1,this.2.2⟩
 rw[Ex.RQ]at h;simp only[zT,zM]at h;have hl:=h.1;unfold cO at hl;split at hl
 ·rename_i hc;exact .inr (.inl ⟨by omega,zW.1 (by omega)⟩)
 ·split at hl
  ·rename_i hc;obtain⟨x,hx⟩:=IU (show e.kids.length=1 by omega);exact .inr (.inr (.inl ⟨hc,x,hx,hk x (by simp[hx])⟩))
  ·split at hl
   ·rename_i hc;obtain⟨x,y,hx⟩:=AA1 (show e.kids.length=2 by omega);exact .inr (.inr (.inr ⟨hc,x,y,hx,hk x (by simp[hx]),hk y (by simp[hx])⟩))
   ·omega
theorem PW {W:Int} (st:List Int) (hl:(st.length:Int)=W) (hs:∀ a∈st,okS a):∀ e:Ex,e.wf W=true→okS (KC st e):=by
 intro e
 induction e using Ex.ind with
 | h k c v ks ih =>
  intro hw;rw[XE]
  rcases Ex.BO hw with ⟨h1,h2,h3,h4⟩|⟨h1,h2⟩|⟨h1,x,h2,h3⟩|⟨h1,x,y,h2,h3,h4⟩
  ·rw[if_pos h1];generalize Ex.col (.mk k c v ks)=cc at *
   have hlt:cc.toNat<st.length:=by omega
   rw[zX hlt];exact hs _ (xJ hlt)
  ·rw[if_neg (by omega),if_pos h1];exact AUV _
  ·have hx:=ih x (by simp only[Ex.kids]at h2;simp[h2]) h3;obtain⟨n,hn⟩:=yO (show 0≤KC st x by have:=hx.1;omega);have ht:=ALM ⟨n,by have:=hx.2;omega⟩ (by have:=hx.1;simp;omega);rw[if_neg (by omega),if_neg (by omega),h2];simp only[List.getElem?_cons_zero,zA0,xS,hn]
   rcases h1 with h1|h1
   ·rw[if_pos h1];exact ht.1
   ·rw[if_neg (by omega),if_pos h1];exact ht.2
  ·have hx:=ih x (by simp only[Ex.kids]at h2;simp[h2]) h3;have hy:=ih y (by simp only[Ex.kids]at h2;simp[h2]) h4;rw[if_neg (by omega),if_neg (by omega),if_neg (by omega),if_neg (by omega),h2];exact ASF hx hy
end Go.Av
namespace Go.Proofs.YtjdfjgmebalaaaaGreat.P
open Go Go.Av
set_option maxRecDepth 4000
set_option maxHeartbeats 8000000
theorem seven {a:Int} (h:okS a):a=1∨a=2∨a=3∨a=4∨a=5∨a=6∨a=7:=by have:=h.1;have:=h.2;omega
theorem AHO {k a b:Int} (hk:3≤k) (ha:okS a) (hb:okS b):aI C0 197 [.int k, .int a, .int b] []=some (.int (mX k a b),[]):=by
 by_cases h:k=8∨k=9
 ·exact DR h ha hb
 ·obtain⟨m,rfl⟩:=yO (show 0≤a by have:=ha.1;omega);obtain⟨n,rfl⟩:=yO (show 0≤b by have:=hb.1;omega);exact BC ⟨hk,by omega,by omega⟩ (by have:=ha.2;omega) (by have:=hb.2;omega)
theorem UT {W:Int} (st:List Int) (hl:(st.length:Int)=W) (hs:∀ a∈st,okS a):∀ e:Ex,e.wf W=true→aI C0 178 [.i (.iref e.cells), .i (.isl (aD st))] []=some (.int (KC st e),[]):=by
 intro e
 induction e using Ex.ind with
 | h k c v ks ih =>
  intro hw;have hall:=PW st hl hs;rw[aF rfl Tryz.func178 rfl rfl,Ex.aA,XE]
  rcases Ex.BO hw with ⟨h1,h2,h3,h4⟩|⟨h1,h2⟩|⟨h1,x,h2,h3⟩|⟨h1,x,y,h2,h3,h4⟩
  ·generalize Ex.mk k c v ks=e at *
   have hlt:e.col.toNat<st.length:=by omega
   have h5:=zX hlt;generalize st[e.col.toNat]=s at h5;have r2:=bK h5;obtain⟨_,h6⟩:=zY.1 h5;simp[h1,h2,r2,h6,show e.col<st.length by omega]
  ·generalize Ex.mk k c v ks=e at *
   have hst:=mD e.val.null e.val.n;simp[h1,hst]
  ·have hx:=ih x (by simp only[Ex.kids]at h2;simp[h2]) h3;have ho:=hall x h3;generalize Ex.mk k c v ks=e at *
   generalize hso:KC st x=s at hx ho;rw[Ex.aA]at hx
   rcases h1 with h1|h1
   ·rcases seven ho with rfl|rfl|rfl|rfl|rfl|rfl|rfl<;>(simp[h1,h2,Ex.aB,Ex.aA x,hx,hso];try decide)
   ·rcases seven ho with rfl|rfl|rfl|rfl|rfl|rfl|rfl<;>(simp[h1,h2,Ex.aB,Ex.aA x,hx,hso];try decide)
  ·have hx:=ih x (by simp only[Ex.kids]at h2;simp[h2]) h3;have hy:=ih y (by simp only[Ex.kids]at h2;simp[h2]) h4;have ho:=hall x h3;have hp:=hall y h4;generalize Ex.mk k c v ks=e at *
   have hc:=AHO (k:=e.kind) h1.1 ho hp;generalize hso:KC st x=s at hx ho hc;generalize hto:KC st y=t at hy hp hc;rw[Ex.aA]at hx hy;have q1:¬ e.kind=1:=by omega
   have q2:¬ e.kind=2:=by omega
   have q3:¬ e.kind=10:=by omega
   have q4:¬ e.kind=11:=by omega
   simp[q1,q2,q3,q4,h2,Ex.aB,Ex.aA x,Ex.aA y,hx,hy,hc,hso,hto]
end Go.Proofs.YtjdfjgmebalaaaaGreat.P
namespace Go.Av
theorem AHM (n:Nat) (x:Int):aD (List.replicate n x)=List.replicate n [.int x]:=by
 induction n with
 | zero=>rfl
 | succ n ih=>simp[xP,aD,ih]
def st1 (n i:Nat):List Int:=List.replicate i 7++List.replicate (n-i) 0
def st2 (p m i:Nat):List Int:=List.replicate p 7++(List.replicate i 4++List.replicate (m-i) 7)
theorem AFY {a b:Int} {n i:Nat} (h:i<n):(List.replicate i a++List.replicate (n-i) b)[i]?=some b:=by
 rw[zI (by simp)];have:0<n-i:=by omega
 simp[List.getElem?_replicate,this]
theorem AFX {a b:Int} {n i:Nat} (h:i<n):(List.replicate i a++List.replicate (n-i) b).set i a=List.replicate (i+1) a++List.replicate (n-(i+1)) b:=by
 rw[zA1 _ _ (by simp)];rw[show n-i=(n-(i+1))+1 by omega,xP,List.replicate_succ'];simp
theorem AQ4 {n i:Nat} (h:i<n):(st1 n i)[i]?=some 0:=AFY h
theorem AQ3 {n i:Nat} (h:i<n):(st1 n i).set i 7=st1 n (i+1):=AFX h
theorem AQ1 {p m i:Nat} (h:i<m):(st2 p m i)[p+i]?=some 7:=by
 unfold st2;rw[zI (by simp)];simpa using AFY (a:=4) (b:=7) h
theorem AQ0 {p m i:Nat} (h:i<m):(st2 p m i).set (p+i) 4=st2 p m (i+1):=by
 unfold st2;rw[zA1 _ _ (by simp)];simp only[zC0,xZ];rw[AFX h]
theorem AQ5 {p m:Nat}:st1 (p+m) (p+m)=st2 p m 0:=by
 simp[st1,st2,List.replicate_append_replicate]
theorem AQ2 (p m:Nat):st2 p m m=lD ((p+m:Nat):Int) p:=by
 unfold st2 lD;apply List.ext_getElem?;intro i;simp only[zE0,List.replicate_zero,zA,Int.toNat_natCast,zB9];by_cases h:i<p
 ·rw[zK (by simpa using h)];simp[h,show i<p+m by omega]
 ·rw[zI (by simp;omega)];by_cases h2:i<p+m
  ·simp[h2,show i-p<m by omega,show p≤i by omega]
  ·simp[h2,show ¬ i-p<m by omega]
@[simp] theorem AC4 {p m i:Nat} (h:i≤m):(st2 p m i).length=p+m:=by simp[st2];omega
def mE (p m:Nat):List Int:=(List.range m).map fun(i:Nat)=>((p+i:Nat):Int)
@[simp] theorem AP1 (p m:Nat):(mE p m).length=m:=by simp[mE]
theorem VD {p m i:Nat} (h:i<m):(mE p m)[i]?=some ((p+i:Nat):Int):=by simp[mE,h]
theorem OP (p m:Nat):mE p (m+1)=mE p m++[((p+m:Nat):Int)]:=by simp[mE,zB7]
theorem IM (W left:Int):∀ a∈lD W left,okS a:=by
 intro a ha;unfold lD at ha;obtain⟨i,-,rfl⟩:=yK.1 ha;unfold okS;split<;>omega
theorem pE (W left:Int):(lD W left).length=W.toNat:=by simp[lD]
theorem APL:∀ a:Fin 8,(a.val &&& 2=0∧jZ a.val 2=false)∨(a.val &&& 2=2∧jZ a.val 2=true):=by decide
end Go.Av
namespace Go.Proofs.YtjdfjgmebalaaaaGreat.P
open Go Go.Av
set_option maxRecDepth 4000
set_option maxHeartbeats 8000000
def RJ1 (e:Ex) (l:List Int) (n:Nat) (i:Nat):AS :=
 { env:=[(0, .i (.agg [.int e.kind, .int e.col, .bool e.val.null, .int e.val.n, .isl (Ex.aB e.kids)])),(1, .int n),(2, .i (.isl (aD l))),(3, .own 0 0),(6, .bool false),(7, .osl 1 1 0 n),(8,jk i (.int (i-1))),(10, .junk),(14, .bool false),(18, .int n),(19, .int i),(20,jk i (.bool true)),(26, .junk),(27, .junk),(28, .junk),(29, .junk),(38, .junk)],
   st:=[some (.box [.int e.kind, .int e.col, .bool e.val.null, .int e.val.n, .i (.isl (Ex.aB e.kids))]),some (.arr 1 (aD (st1 n i)))] }
def RJ2 (e:Ex) (n p m:Nat) (i:Nat):AS :=
 { env:=[(0, .i (.agg [.int e.kind, .int e.col, .bool e.val.null, .int e.val.n, .isl (Ex.aB e.kids)])),(1, .int n),(2, .i (.isl (aD (mE p m)))),(3, .own 0 0),(6, .bool false),(7, .osl 1 1 0 n),(8, .int (n-1)),(10,jk i (.int ((p:Int)+i-1))),(14, .bool false),(18, .int n),(19, .int n),(20, .bool false),(26, .i (.isl (aD (mE p m)))),(27, .int m),(28, .int i),(29,jk i (.bool true)),(38,jk i (.bool true))],
   st:=[some (.box [.int e.kind, .int e.col, .bool e.val.null, .int e.val.n, .i (.isl (Ex.aB e.kids))]),some (.arr 1 (aD (st2 p m i)))] }
theorem XP (e:Ex) {n p m:Nat} (hn:n=p+m) (h:e.ok n=true):aI C0 157 [.i (.agg e.cells), .int n, .i (.isl (aD (mE p m)))] []=some (.bool (AG4 e n p),[]):=by
 have hok:=ok_eq n e;rw[h]at hok;obtain⟨hw,g1,g2⟩:=Ex.I9 h;have hlen:((lD n p).length:Int)=(n:Int):=by rw[pE];omega
 have ho:=UT (lD n p) hlen (IM _ _) e hw;have hs:=PW (lD n p) hlen (IM _ _) e hw;rw[aF rfl Tryz.func157 rfl rfl];unfold AG4;generalize KC (lD n p) e=s at ho hs;obtain⟨s,rfl⟩:=yO (show 0≤s by have:=hs.1;omega);have hs8:s<8:=by have:=hs.2;omega
 have hall:=AQ2 p m;rw[← hn]at hall;rw[← hall]at ho;rw[Ex.aA]at *
 have hb:8*(n:Int)≤281474976710656:=by omega
 have hz:=AHM n 0;have hz1:st1 n 0=List.replicate n 0:=by simp[st1]
 have hs1:st1 n n=st2 p m 0:=by rw[hn];exact AQ5
 have hl2:∀ i,i≤m→(st2 p m i).length=n:=fun i hi=>by rw[AC4 hi,hn]
 have hl3:(st2 p m m).take n=st2 p m m:=zZ (by rw[hl2 m (zP m)];exact zP n);simp[hok,hb];rw[aT (RJ1 e (mE p m) n) n (by simp[RJ1,hz1,hz])]
 ·rw[aG];simp[RJ1];rw[aT (RJ2 e n p m) m (by simp[RJ2,hs1,bU (show n≠0 by omega)])]
  ·rw[aG];have h2:=APL ⟨s,hs8⟩
   rcases h2 with ⟨h2,h3⟩|⟨h2,h3⟩
   ·simp at h2 h3;simp[RJ2,ho,GQ hs8,h2,h3,hl2,hl3]
   ·simp at h2 h3;simp[RJ2,ho,GQ hs8,h2,h3,hl2,hl3]
  ·intro i hi;have h3:=VD (p:=p) hi;have r2:=bK h3;have r3:=bK (AQ1 (p:=p) hi);have hset:=AQ0 (p:=p) hi;have hin:((p:Int)+i)<n:=by omega
   have hl:=hl2 i (by omega);have hin2:p+i<n:=by omega
   have hin0:0≤(p:Int)+i:=by omega
   have w2:IntKind.i64.wrap ((i:Int)+1)=i+1:=wrO;simp[RJ2,hi,r2,r3,w2,L8,hset,hin,hin0,hl,show((p:Int)+i).toNat=p+i by omega];omega
 ·intro i hi;have r3:=bK (AQ4 hi);have hset:=AQ3 hi;have w2:IntKind.i64.wrap ((i:Int)+1)=i+1:=wrO;simp[RJ1,hi,r3,w2,L8,hset]
end Go.Proofs.YtjdfjgmebalaaaaGreat.P
namespace Go.Av
theorem AGN {n p i:Nat} (h:i<n):(lD n p)[i]?=some (if p≤i then 4 else 7):=by
 have:i<(lD (n:Int) p).length:=by rw[pE];simpa using h
 unfold lD;simp[h]
end Go.Av
namespace Go.Proofs.YtjdfjgmebalaaaaGreat.P
open Go Go.Av
set_option maxRecDepth 4000
set_option maxHeartbeats 8000000
def CLX (n p:Nat) (i:Nat):AS :=
 { env:=[(0, .int p),(1, .int n),(4, .nils),(5, .osl 0 1 0 i),(6, .int ((p:Int)+i)),(11,jk i (.bool true))],st:=[some (.arr 1 (aD (mE p i)))] }
theorem QM {n p m:Nat} (hn:n=p+m) (hb:n<1000):aI C0 170 [.int p, .int n] []=some (.i (.isl (aD (mE p m))),[]):=by
 rw[aF rfl Tryz.func170 rfl rfl];simp;rw[aT (CLX n p) m (by simp[CLX,mE,aD])]
 ·rw[aG];have h1:¬ ((p:Int)+m<n):=by omega
  have h2:(mE p m).take m=mE p m:=zZ (by simp);simp[CLX,h1,h2]
 ·intro i hi;have h1:((p:Int)+i<n):=by omega
  have w2:IntKind.i64.wrap ((p:Int)+i+1)=(p:Int)+(i+1):=by rw[wrO];omega
  have hl:(i+1)*8≤140737488355328:=by omega
  have h2:(mE p i).take i=mE p i:=zZ (by simp);simp[CLX,h1,w2,hl,h2,OP,lH]
def nsS (p i k:Nat):Int:=if p≤i∧i<p+k then 4 else 7
def nsB (p m i:Nat):AV:=if m=0 then .junk else jk i (.bool (decide ((p:Int)+(m-1)=i-1)))
@[simp] theorem AWZ (p m i:Nat):dK (nsB p m i)=[]:=by unfold nsB;split<;>simp
@[simp] theorem AZK (r:Nat→Option Nat) (p m i:Nat):ren r (nsB p m i)=nsB p m i:=by unfold nsB;split<;>simp
def NSO (n p m:Nat) (i:Nat):AS :=
 { env:=[(0, .int n),(1, .i (.isl (aD (mE p m)))),(4, .nils),(5, .osl 0 1 0 i),(6, .int i),(7,jk i (.int (nsS p (i-1) m))),(8,jk i (.int m)),(12,jk i (.bool true)),(18,jk i (.bool false)),(26,nsB p m i)],st:=[some (.arr 1 (aD ((lD n p).take i)))] }
def NSI (n p m:Nat) (i k:Nat):AS :=
 { env:=[(0, .int n),(1, .i (.isl (aD (mE p m)))),(4, .nils),(5, .osl 0 1 0 i),(6, .int i),(7, .int (nsS p i k)),(8, .int k),(12, .bool true),(18,if k=0 then jk i (.bool false)else .bool true),(26,if k=0 then nsB p m i else .bool (decide ((p:Int)+(k-1)=i)))],st:=[some (.arr 1 (aD ((lD n p).take i)))] }
theorem Q0 {n p m:Nat} (hn:n=p+m) (hb:n<1000):aI C0 191 [.int n, .i (.isl (aD (mE p m)))] []=some (.i (.isl (aD (lD n p))),[]):=by
 rw[aF rfl Tryz.func191 rfl rfl];have hnl:(lD (n:Int) p).length=n:=by rw[pE];omega
 simp;rw[aT (NSO n p m) n (by simp[NSO,aD,nsB])]
 ·rw[aG];have h2:(lD (n:Int) p).take n=lD n p:=zZ (by omega);simp[NSO,h2,hnl]
 ·intro i hi;have w2:IntKind.i64.wrap ((i:Int)+1)=i+1:=wrO;have h3:=AGN (p:=p) hi;have htk:=aL h3;have hl:(i+1)*8≤140737488355328:=by omega
  have hsm:nsS p i m=if p≤i then 4 else 7:=by unfold nsS;by_cases h:p≤i<;>simp[h];omega
  have hlt:((lD (n:Int) p).take i).length=i:=by simp[hnl];omega
  have htt:((lD (n:Int) p).take i).take i=(lD (n:Int) p).take i:=zZ (by omega);simp only[← hsm]at htk;simp[NSO,hi];rw[aT (NSI n p m i) m (by simp[NSI,nsS];try omega)]
  ·rw[aG];by_cases hm:m=0
   ·subst hm;simp[NSI,NSO,w2,hl,htk,lH,hlt,htt,nsB]
   ·by_cases h0:i=0
    ·subst h0;simp[NSI,NSO,hl,htk,lH,nsB,hm,aD]
    ·simp[NSI,NSO,w2,hl,htk,lH,hlt,htt,nsB,hm]
  ·intro k hk;have h5:=VD (p:=p) hk;have r2:=bK h5;have w3:IntKind.i64.wrap ((k:Int)+1)=k+1:=wrO;have e1:∀ x:AV,(if(k+1=0)then x else(AV.bool (decide ((p:Int)+((k+1:Nat)-1)=i))))=AV.bool (decide ((p:Int)+k=i)):=by intro x;simp
   by_cases he:(p:Int)+k=i
   ·have hs:nsS p i (k+1)=4:=by unfold nsS;rw[if_pos (by omega)]
    by_cases k0:k=0
    ·subst k0;simp at he;simp[NSI,hk,r2,hs,he]
    ·simp[NSI,hk,r2,w3,hs,he,k0]
   ·have hs:nsS p i (k+1)=nsS p i k:=by
     unfold nsS;by_cases hp:p≤i∧i<p+k
     ·rw[if_pos hp,if_pos (by omega)]
     ·rw[if_neg hp,if_neg (by omega)]
    by_cases k0:k=0
    ·subst k0;simp at he;simp[NSI,hk,r2,hs,he]
    ·simp[NSI,hk,r2,w3,hs,he,k0]
end Go.Proofs.YtjdfjgmebalaaaaGreat.P
namespace Go.Av
def EG (x:Int):Val:=⟨decide (x=4),if x=2 then 1 else 0⟩
def tsI (k a b x s:Int) (j:Nat):Int:=(([1,2,4]:List Int).take j).foldl (fun s y=>if(jZ a x && jZ b y)=true then orS s (stV (Val.cmb k (EG x) (EG y)))else s) s
def tsO (k a b:Int) (i:Nat):Int:=(([1,2,4]:List Int).take i).foldl (fun s x=>tsI k a b x s 3) 0
theorem AF6 {k a b x s:Int} (hs:AEK s) (j:Nat):AEK (tsI k a b x s j):=by
 unfold tsI;generalize (([1,2,4]:List Int).take j)=l
 induction l generalizing s with
 | nil=>simpa using hs
 | cons y l ih =>
  simp only[List.foldl_cons];apply ih;split
  ·exact AGH hs (JN _)
  ·exact hs
theorem APN {k a b:Int} (i:Nat):AEK (tsO k a b i):=by
 unfold tsO
 have:∀ (l:List Int) (s:Int),AEK s→AEK (l.foldl (fun s x=>tsI k a b x s 3) s):=by
  intro l
  induction l with
  | nil=>intro s hs;simpa using hs
  | cons y l ih=>intro s hs;exact ih _ (AF6 hs 3)
 exact this _ _ ⟨0,rfl,by omega⟩
theorem AUI:∀ a b:Fin 8,tsO 8 a.val b.val 3=mX 8 a.val b.val∧tsO 9 a.val b.val 3=mX 9 a.val b.val:=by decide
end Go.Av
namespace Go.Proofs.YtjdfjgmebalaaaaGreat.P
open Go Go.Av
set_option maxRecDepth 4000
set_option maxHeartbeats 8000000
theorem AFC (b:Bool) (n:Int):aI C0 165 [.i (.agg [.bool b, .int n])] []=some (.int (if b=true then 2 else if n=0 then 0 else 1),[]):=by
 rw[aF rfl Tryz.func165 rfl rfl]
 cases b
 ·by_cases h:n=0<;>simp[h]
 ·simp
theorem AQB (t:Int) (h:0≤t∧t≤2):aI C0 218 [.int t] []=some (.int (if t=2 then 2 else 1-t),[]):=by
 rw[aF rfl Tryz.func218 rfl rfl];have:t=0∨t=1∨t=2:=by omega
 rcases this with rfl|rfl|rfl<;>simp
theorem AQE (s t:Int):aI C0 217 [.int s, .int t] []=some (.int (if s=0∨t=0 then 0 else if s=1∧t=1 then 1 else 2),[]):=by
 rw[aF rfl Tryz.func217 rfl rfl];by_cases h1:s=0
 ·simp[h1]
 ·by_cases h2:t=0
  ·simp[h1,h2]
  ·by_cases h3:s=1
   ·by_cases h4:t=1
    ·simp[h3,h4]
    ·simp[h3,h4,h2]
   ·simp[h1,h2,h3]
theorem AVA (t:Int):aI C0 216 [.int t] []=some (.i (.agg [.bool (decide (t=2)), .int (if t=2 then 0 else t)]),[]):=by
 rw[aF rfl Tryz.func216 rfl rfl];by_cases h:t=2
 ·subst h;simp
 ·simp[h]
theorem AL1 {k x y:Int} (hk:k=8∨k=9) (hx:x=1∨x=2∨x=4) (hy:y=1∨y=2∨y=4):aI C0 209 [.int k, .i (.agg [.bool (EG x).null, .int (EG x).n]), .i (.agg [.bool (EG y).null, .int (EG y).n])] []=some (.i (.agg [.bool (Val.cmb k (EG x) (EG y)).null, .int (Val.cmb k (EG x) (EG y)).n]),[]):=by
 rw[aF rfl Tryz.func209 rfl rfl]
 rcases hk with rfl|rfl<;>rcases hx with rfl|rfl|rfl<;>rcases hy with rfl|rfl|rfl<;>(simp[EG,AFC,AQB,AQE,AVA];try decide)
@[simp] theorem wr8:IntKind.i64.wrap 8=8:=by decide
def pw (i:Nat):Int:=if i=0 then 1 else if i=1 then 2 else if i=2 then 4 else 8
def TSO (k:Int) (a b:Nat) (i:Nat):AS :=
 { env:=[(0, .int k),(1, .int a),(2, .int b),(6, .int 0),(7, .int (tsO k a b i)),(8, .int (pw i)),(9,jk i (.int 8)),(11,jk i (.bool true)),(15,jk i (.bool false)),(29,jk i (.bool (jZ a (pw (i-1)) && jZ b 4)))],st:=[] }
def TSI (k:Int) (a b:Nat) (i:Nat) (j:Nat):AS :=
 { env:=[(0, .int k),(1, .int a),(2, .int b),(6, .int 0),(7, .int (tsI k a b (pw i) (tsO k a b i) j)),(8, .int (pw i)),(9, .int (pw j)),(11, .bool true),(15,jk (i+j) (.bool (decide (j≠0)))),(29,jk (i+j) (.bool (if j=0 then jZ a (pw (i-1)) && jZ b 4 else jZ a (pw i) && jZ b (pw (j-1)))))],st:=[] }
theorem AHV {a:Nat} (ha:a<8) {x:Int} (hx:0<x) (hx8:x<8):IntKind.i64.wrap ((a:Int) / x)=(a:Int) / x∧(jZ a x=decide (((a:Int) / x).tmod 2=1)):=by
 have h2:0≤(a:Int) / x:=Int.ediv_nonneg (by omega) (by omega);have h3:(a:Int) / x≤a:=Int.ediv_le_self _ (by omega);refine⟨wrO,?_⟩;unfold jZ;rw[Int.tmod_eq_emod_of_nonneg h2]
theorem AF1 (x:Int):aI C0 210 [.int x] []=some (.i (.agg [.bool (EG x).null, .int (EG x).n]),[]):=ABM x
theorem AKK {k a b x s:Int} {j:Nat} {y:Int} (h:(([1,2,4]:List Int))[j]?=some y):tsI k a b x s (j+1)=if(jZ a x && jZ b y)=true then orS (tsI k a b x s j) (stV (Val.cmb k (EG x) (EG y)))else tsI k a b x s j:=by
 unfold tsI;rw[aL h,zD0];rfl
theorem AKJ {k a b:Int} {i:Nat} {x:Int} (h:(([1,2,4]:List Int))[i]?=some x):tsO k a b (i+1)=tsI k a b x (tsO k a b i) 3:=by
 unfold tsO;rw[aL h,zD0];rfl
theorem ZM (i:Nat) (hi:i<3):(pw i=1∨pw i=2∨pw i=4)∧IntKind.i64.wrap (2*pw i)=pw (i+1)∧(([1,2,4]:List Int))[i]?=some (pw i):=by
 have h:i=0∨i=1∨i=2:=by omega
 rcases h with rfl|rfl|rfl<;>decide
theorem BX {k:Int} (hk:k=8∨k=9) {a b:Nat} (ha:a<8) (hb:b<8):aI C0 204 [.int k, .int a, .int b] []=some (.int (tsO k a b 3),[]):=by
 have p0:pw 0=1:=rfl;have p2:pw 2=4:=rfl;have p3:pw 3=8:=rfl;rw[aF rfl Tryz.func204 rfl rfl];simp;rw[aT (TSO k a b) 3 (by simp[TSO,tsO,p0])]
 ·rw[aG];simp[TSO,p3]
 ·intro i hi;obtain⟨x1,x2,x3⟩:=ZM i hi;have hsc:=AKJ (k:=k) (a:=a) (b:=b) x3;have hlo:=APN (k:=k) (a:=a) (b:=b) i;have xl:pw i≤4:=by omega
  have xz:(pw i != 0)=true:=by simp;omega
  obtain⟨ax,bx⟩:=AHV ha (x:=pw i) (by omega) (by omega);simp[TSO,xl];rw[aT (TSI k a b i) 3 (by simp[TSI,tsI,p0])]
  ·rw[aG];simp[TSI,TSO,p2,p3,hsc,x2]
  ·intro j hj;obtain⟨y1,y2,y3⟩:=ZM j hj;have yl:pw j≤4:=by omega
   have yz:(pw j != 0)=true:=by simp;omega
   have hs:=AKK (k:=k) (a:=a) (b:=b) (x:=pw i) (s:=tsO k a b i) y3;obtain⟨m,m1,m2⟩:=AF6 (k:=k) (a:=a) (b:=b) (x:=pw i) hlo j;obtain⟨n,n1,n2⟩:=JN (Val.cmb k (EG (pw i)) (EG (pw j)));have hcm:=AL1 hk x1 y1;have hst:=TJ (Val.cmb k (EG (pw i)) (EG (pw j))).null (Val.cmb k (EG (pw i)) (EG (pw j))).n;rw[show stV ⟨(Val.cmb k (EG (pw i)) (EG (pw j))).null,(Val.cmb k (EG (pw i)) (EG (pw j))).n⟩=stV (Val.cmb k (EG (pw i)) (EG (pw j)))from rfl,n1]at hst;rw[m1,n1,PX]at hs;obtain⟨cx,dx⟩:=AHV hb (x:=pw j) (by omega) (by omega);have hjk:=bU (show i+(j+1)≠0 by omega);by_cases p:jZ a (pw i)=true
   ·have p':=p;rw[bx,zM]at p';by_cases q:jZ b (pw j)=true
    ·have q':=q;rw[dx,zM]at q';rw[p,q]at hs;simp only[zD6,if_true]at hs;simp[TSI,yl,xz,yz,y2,hjk,ax,cx,p',q',p,q,AF1,hcm,hst,m1,GQ m2,GQ n2,or8 m2 n2,hs]
    ·have q2:jZ b (pw j)=false:=by simpa using q
     have q':=q;rw[dx,zM]at q';rw[p,q2]at hs;simp only[Bool.and_false,yM,if_false]at hs;simp[TSI,yl,xz,yz,y2,hjk,ax,cx,p',q',p,q2,m1,hs]
   ·have p2':jZ a (pw i)=false:=by simpa using p
    have p':=p;rw[bx,zM]at p';rw[p2']at hs;simp only[Bool.false_and,yM,if_false]at hs;simp[TSI,yl,xz,yz,y2,hjk,ax,p',p2',m1,hs]
theorem AKS {k a b:Int} (hk:k=8∨k=9) (ha:okS a) (hb:okS b):aI C0 204 [.int k, .int a, .int b] []=some (.int (mX k a b),[]):=by
 obtain⟨m,rfl⟩:=yO (show 0≤a by have:=ha.1;omega);obtain⟨n,rfl⟩:=yO (show 0≤b by have:=hb.1;omega);have hm:m<8:=by have:=ha.2;omega
 have hn:n<8:=by have:=hb.2;omega
 have ht:=AUI ⟨m,hm⟩ ⟨n,hn⟩
 rcases hk with rfl|rfl
 ·rw[BX (.inl rfl) hm hn];simp only at ht;rw[ht.1]
 ·rw[BX (.inr rfl) hm hn];simp only at ht;rw[ht.2]
theorem ALY:∀ m:Fin 8,(m.val &&& 3=0∧(jZ m.val 1 || jZ m.val 2)=false)∨((m.val &&& 3=1∨m.val &&& 3=2∨m.val &&& 3=3)∧(jZ m.val 1 || jZ m.val 2)=true):=by decide
theorem AbL {m:Nat} (hm:m<8):∃ v:Nat,m &&& 3=v∧IntKind.i64.wrap (v:Int)=v∧((v=0∧(jZ m 1 || jZ m 2)=false)∨(¬ v=0∧(jZ m 1 || jZ m 2)=true)):=by
 rcases ALY ⟨m,hm⟩with ⟨h,q⟩|⟨h|h|h,q⟩
 ·exact⟨0,h,by decide, .inl ⟨rfl,q⟩⟩
 ·exact⟨1,h,by decide, .inr ⟨by omega,q⟩⟩
 ·exact⟨2,h,by decide, .inr ⟨by omega,q⟩⟩
 ·exact⟨3,h,by decide, .inr ⟨by omega,q⟩⟩
theorem TM {W:Int} (st:List Int) (hl:(st.length:Int)=W) (hs:∀ a∈st,okS a):∀ e:Ex,e.wf W=true→aI C0 190 [.i (.agg e.cells), .i (.isl (aD st))] []=some (.int (KC st e),[]):=by
 intro e
 induction e using Ex.ind with
 | h k c v ks ih =>
  intro hw;have hall:=PW st hl hs;rw[aF rfl Tryz.func190 rfl rfl,Ex.aA,XE]
  rcases Ex.BO hw with ⟨h1,h2,h3,h4⟩|⟨h1,h2⟩|⟨h1,x,h2,h3⟩|⟨h1,x,y,h2,h3,h4⟩
  ·generalize Ex.mk k c v ks=e at *
   have hlt:e.col.toNat<st.length:=by omega
   have h5:=zX hlt;generalize st[e.col.toNat]=s at h5;have r2:=bK h5;obtain⟨_,h6⟩:=zY.1 h5;simp[h1,h2,r2,h6,show e.col<st.length by omega]
  ·generalize Ex.mk k c v ks=e at *
   have hst:=TJ e.val.null e.val.n;simp[h1,hst]
  ·have hx:=ih x (by simp only[Ex.kids]at h2;simp[h2]) h3;have ho:=hall x h3;generalize Ex.mk k c v ks=e at *
   generalize hso:KC st x=s at hx ho;rw[Ex.aA]at hx
   rcases h1 with h1|h1
   ·rcases seven ho with rfl|rfl|rfl|rfl|rfl|rfl|rfl<;>(simp[h1,h2,Ex.aB,Ex.aA x,hx,hso];try decide)
   ·rcases seven ho with rfl|rfl|rfl|rfl|rfl|rfl|rfl<;>(simp[h1,h2,Ex.aB,Ex.aA x,hx,hso];try decide)
  ·have hx:=ih x (by simp only[Ex.kids]at h2;simp[h2]) h3;have hy:=ih y (by simp only[Ex.kids]at h2;simp[h2]) h4;have ho:=hall x h3;have hp:=hall y h4;generalize Ex.mk k c v ks=e at *
   generalize hso:KC st x=s at hx ho;generalize hto:KC st y=t at hy hp;rw[Ex.aA]at hx hy;have q1:¬ e.kind=1:=by omega
   have q2:¬ e.kind=2:=by omega
   have q3:¬ e.kind=10:=by omega
   have q4:¬ e.kind=11:=by omega
   by_cases hk:e.kind=8∨e.kind=9
   ·have hc:=AKS (k:=e.kind) hk ho hp
    rcases hk with hk|hk<;>(rw[hk]at hc;simp[hk,h2,Ex.aB,Ex.aA x,Ex.aA y,hx,hy,hc,hso,hto])
   ·have q5:¬ e.kind=8:=by omega
    have q6:¬ e.kind=9:=by omega
    have hcs:mX e.kind s t=orS (if jZ (orS s t) 4=true then 4 else 0) (if(jZ s 1 || jZ s 2)=true∧(jZ t 1 || jZ t 2)=true then(if e.kind<6 then 7 else 3)else 0):=if_neg hk;obtain⟨m,rfl⟩:=yO (show 0≤s by have:=ho.1;omega);obtain⟨n,rfl⟩:=yO (show 0≤t by have:=hp.1;omega);have hm:m<8:=by have:=ho.2;omega
    have hn:n<8:=by have:=hp.2;omega
    have h1:=GQ hm;have h2':=GQ hn;have h3':=or8 hm hn;have h4':(m ||| n) % 18446744073709551616=m ||| n:=GQ (zA4 (n:=3) hm hn)
    obtain⟨x',x1,x2,x3⟩:=AbL hm;obtain⟨y',y1,y2,y3⟩:=AbL hn;have e7:orS 0 7=7:=by decide
    have e3:orS 0 3=3:=by decide
    have e47:orS 4 7=7:=by decide
    have e43:orS 4 3=7:=by decide
    have e40:orS 4 0=4:=by decide
    have e00:orS 0 0=0:=by decide
    rcases KD hm hn with ⟨p,q⟩|⟨p,q⟩<;>rcases x3 with ⟨x3,x4⟩|⟨x3,x4⟩<;>rcases y3 with ⟨y3,y4⟩|⟨y3,y4⟩<;>by_cases q7:e.kind<6 <;>
     simp[q1,q2,q3,q4,q5,q6,q7,h2,Ex.aB,Ex.aA x,Ex.aA y,hx,hy,hso,hto,hcs,h1,h2',h3',h4',p,q,x1,x2,x3,x4,y1,y2,y3,y4,e7,e3,e47,e43,e40,e00]
theorem X4 (e:Ex) {n p m:Nat} (hn:n=p+m) (hb:n<1000) (h:e.wf n=true):aI C0 169 [.i (.agg e.cells), .int n, .i (.isl (aD (mE p m)))] []=some (.bool (AG4 e n p),[]):=by
 have hlen:((lD n p).length:Int)=(n:Int):=by rw[pE];omega
 have ho:=TM (lD n p) hlen (IM _ _) e h;have hs:=PW (lD n p) hlen (IM _ _) e h;have hns:=Q0 hn hb;rw[aF rfl Tryz.func169 rfl rfl];unfold AG4;generalize KC (lD n p) e=s at ho hs;rw[Ex.aA]at *
 rcases seven hs with rfl|rfl|rfl|rfl|rfl|rfl|rfl<;>(simp[hns,ho];try decide)
set_option maxHeartbeats 4000000
def jJ (g:FuncId) (ws:List Int) (r:Int) (p:Pn):Prop:=∃ (q:Pn) (b:Bool),aI C0 g [.i (.iref p.cells), .i (.isl (aD ws))] []=some (.tup [.i (.agg q.cells), .bool b],[])∧(b=true→rwP ws r p=some q)∧(b=false→∀ q',rwP ws r p=some q'→∀ lv,q'.wd ws lv=0)
@[simp] theorem AX3 (e:Ex) (k:Pn):(filt e k).kind=2:=rfl
@[simp] theorem AVV (es:List Ex) (k:Pn):(proj es k).kind=3:=rfl
@[simp] theorem AW8 (kd:Int) (e:Ex) (a b:Pn):(bB kd e a b).kind=kd:=rfl
@[simp] theorem AT2 (a b:Pn):(dF a b).kind=6:=rfl
theorem fD (ws:List Int) (r:Int) (e:Ex) (k:Pn):rwP ws r (filt e k)=rwF ws r e k:=by simp[rwP,filt,Pn.ex0,Pn.jG,Pn.kind,Pn.exprs,Pn.kids]
theorem jJ.no {g:FuncId} {ws:List Int} {r:Int} {p:Pn} (h:aI C0 g [.i (.iref p.cells), .i (.isl (aD ws))] []=some (.tup [.i (.agg Pn.zero.cells), .bool false],[])) (hr:rwP ws r p=none):jJ g ws r p:=⟨.zero,false,h,by simp,by simp[hr]⟩
theorem jJ.yes {g:FuncId} {ws:List Int} {r:Int} {p q:Pn} (h:aI C0 g [.i (.iref p.cells), .i (.isl (aD ws))] []=some (.tup [.i (.agg q.cells), .bool true],[])) (hr:rwP ws r p=some q):jJ g ws r p:=⟨q,true,h,fun _=>hr,by simp⟩
theorem AZI {ws:List Int} {p:Pn} {W:Int} (hp:Wd ws p W):jJ 110 ws 1 p:=by
 by_cases hk:p.kind=2
 ·obtain⟨e,a,rfl⟩:=qX hp hk;by_cases hk2:a.kind=2
  ·obtain⟨e2,a2,rfl⟩:=qX (iU hp).1 hk2;refine .yes (q:=filt (AB3 e2 e) a2) ?_ (by rw[fD];simp[rwF,filt,Pn.ex0,Pn.jG,Pn.kind,Pn.exprs,Pn.kids]);have h1:=fJ (e:=e) (k:=filt e2 a2) (kd:=2) rfl;have h2:=AIN e2 e;have h3:=eQ (AB3 e2 e) a2;rw[aF rfl Tryz.func110 rfl rfl];simp only[aV,qV,Ex.aA e,Ex.aA e2,Pn.aA a2]at h1 h2 h3 ⊢;simp[h1,h2,h3]
  ·refine .no ?_ (by rw[fD];simp[rwF,hk2]);have h1:=dV (e:=e) (k:=a) (kd:=2) hk2;rw[aF rfl Tryz.func110 rfl rfl];simp only[aV,aW]at h1 ⊢;simp[h1]
 ·refine .no ?_ (by simp[rwP,hk]);have h1:=fG (p:=p) (kd:=2) hk;rw[aF rfl Tryz.func110 rfl rfl];simp only[aW,Pn.aA p]at h1 ⊢;simp[h1]
theorem AZE {ws:List Int} {p:Pn} {W:Int} (hp:Wd ws p W):jJ 114 ws 5 p:=by
 by_cases hk:p.kind=2
 ·obtain⟨e,a,rfl⟩:=qX hp hk;by_cases hk2:a.kind=4
  ·obtain⟨e2,x,y,hx⟩:=jN (iU hp).1 (.inl hk2);rw[hk2]at hx;subst hx;refine .yes (q:=bB 4 (AB3 e2 e) x y) ?_ (by rw[fD];simp[rwF,bB,Pn.ex0,Pn.jG,Pn.qP,Pn.kind,Pn.exprs,Pn.kids]);have h1:=fJ (e:=e) (k:=bB 4 e2 x y) (kd:=4) rfl;have h2:=AIN e2 e;have h3:=nZ 4 (AB3 e2 e) x y;rw[aF rfl Tryz.func114 rfl rfl];simp only[aV,pair_cells,qV,Ex.aA e,Ex.aA e2,Pn.aA x,Pn.aA y]at h1 h2 h3 ⊢;simp[h1,h2,h3]
  ·refine .no ?_ (by rw[fD];simp[rwF,hk2]);have h1:=dV (e:=e) (k:=a) (kd:=4) hk2;rw[aF rfl Tryz.func114 rfl rfl];simp only[aV,aW]at h1 ⊢;simp[h1]
 ·refine .no ?_ (by simp[rwP,hk]);have h1:=fG (p:=p) (kd:=4) hk;rw[aF rfl Tryz.func114 rfl rfl];simp only[aW,Pn.aA p]at h1 ⊢;simp[h1]
theorem AZB {ws:List Int} {p:Pn} {W:Int} (hp:Wd ws p W):jJ 117 ws 8 p:=by
 by_cases hk:p.kind=2
 ·obtain⟨e,a,rfl⟩:=qX hp hk;by_cases hk2:a.kind=6
  ·obtain⟨x,y,rfl⟩:=AJE (iU hp).1 hk2;refine .yes (q:=dF (filt e x) (filt e y)) ?_ (by rw[fD];simp[rwF,dF,Pn.ex0,Pn.jG,Pn.qP,Pn.kind,Pn.exprs,Pn.kids]);have h1:=fJ (e:=e) (k:=dF x y) (kd:=6) rfl;have h2:=eQ e x;have h3:=eQ e y;rw[aF rfl Tryz.func117 rfl rfl];simp only[aV,JH,Ex.aA e,Pn.aA x,Pn.aA y]at h1 h2 h3 ⊢;simp[h1,h2,h3]
  ·refine .no ?_ (by rw[fD];simp[rwF,hk2]);have h1:=dV (e:=e) (k:=a) (kd:=6) hk2;rw[aF rfl Tryz.func117 rfl rfl];simp only[aV,aW]at h1 ⊢;simp[h1]
 ·refine .no ?_ (by simp[rwP,hk]);have h1:=fG (p:=p) (kd:=6) hk;rw[aF rfl Tryz.func117 rfl rfl];simp only[aW,Pn.aA p]at h1 ⊢;simp[h1]
theorem AZA {ws:List Int} {p:Pn} {W:Int} (hp:Wd ws p W):jJ 118 ws 9 p:=by
 by_cases hk:p.kind=7
 ·obtain⟨a,rfl⟩:=AJF hp hk;have hc:(Pn.mk 7 0 [] [] [a]).cells=[.int 7, .int 0, .isl [], .isl [], .isl [a.cells]]:=by simp[Pn.cells,Ex.aB,aD,Pn.aB]
  by_cases hk2:a.kind=7∨a.kind=8
  ·refine .yes (q:=a) ?_ (by simp[rwP,Pn.jG,Pn.kids,hk2]);rw[aF rfl Tryz.func118 rfl rfl];simp only[hc,Pn.aA a]
   rcases hk2 with hk2|hk2<;>simp[hk2]
  ·refine .no ?_ (by simp[rwP,Pn.jG,Pn.kids,hk2]);rw[aF rfl Tryz.func118 rfl rfl];simp only[hc,aW,Pn.aA a];have h7:¬ a.kind=7:=by omega
   have h8:¬ a.kind=8:=by omega
   simp[h7,h8]
 ·refine .no ?_ ?_
  ·rw[aF rfl Tryz.func118 rfl rfl];simp only[aW,Pn.aA p];simp[hk]
  ·unfold rwP;split
   ·unfold rwF;simp
   ·simp[hk]
theorem AZH {ws:List Int} {p:Pn} {W:Int} (hp:Wd ws p W):jJ 111 ws 2 p:=by
 by_cases hk:p.kind=2
 ·obtain⟨e,a,rfl⟩:=qX hp hk;by_cases hk2:e.kind=8
  ·have hw:=(Ex.I9 (iU hp).2).1
   obtain⟨x,y,hxy⟩:∃ x y,e.kids=[x,y]:=by
    rcases Ex.BO hw with ⟨h,_⟩|⟨h,_⟩|⟨h,_⟩|⟨_,x,y,h,_⟩
    ·omega
    ·omega
    ·omega
    ·exact⟨x,y,h⟩
   refine .yes (q:=filt y (filt x a)) ?_ (by rw[fD];simp[rwF,hk2,Ex.jG,Ex.qP,hxy]);have h2:=eQ x a;have h3:=eQ y (filt x a);rw[aF rfl Tryz.func111 rfl rfl];simp only[aV,Ex.aA e,hxy,Ex.aB,Ex.aA x,Ex.aA y,Pn.aA a]at h2 h3 ⊢;simp[hk2,h2,h3]
  ·refine .no ?_ (by rw[fD];simp[rwF,hk2]);rw[aF rfl Tryz.func111 rfl rfl];simp only[aV,aW,Ex.aA e];simp[hk2]
 ·refine .no ?_ (by simp[rwP,hk]);rw[aF rfl Tryz.func111 rfl rfl];simp only[aW,Pn.aA p];simp[hk]
end Go.Proofs.YtjdfjgmebalaaaaGreat.P
namespace Go.Av
theorem wE {ws:List Int} {e:Ex} {a:Pn} (h:(filt e a).wd ws 8≠0):a.wd ws 8≠0∧e.ok (a.wd ws 8)=true∧(filt e a).wd ws 8=a.wd ws 8:=by
 have h1:=h;rw[JB]at h1;obtain⟨h2,h3⟩:=gP h1;have hm:=Pn.gD a 7 8 h3 (by omega);rw[hm];exact⟨h3,h2.2,by rw[JB,if_pos h2]⟩
theorem PV {ws:List Int} {kd:Int} {e:Ex} {a b:Pn} (hk:kd=4∨kd=5) (h:(bB kd e a b).wd ws 8≠0):a.wd ws 8≠0∧b.wd ws 8≠0∧a.wd ws 8+b.wd ws 8≤6∧e.ok (a.wd ws 8+b.wd ws 8)=true∧(bB kd e a b).wd ws 8=a.wd ws 8+b.wd ws 8:=by
 have h1:=h;rw[JA hk]at h1;obtain⟨h2,h3⟩:=gP h1;rw[Pn.gD a 7 8 h2.1 (by omega),Pn.gD b 7 8 h2.2.1 (by omega)];exact⟨h2.1,h2.2.1,h2.2.2.1,h2.2.2.2,by rw[JA hk,if_pos h2]⟩
theorem ACH {ws:List Int} {es:List Ex} {a:Pn} (h:(proj es a).wd ws 8≠0):a.wd ws 8≠0∧bQ es.length=true∧es.all (Ex.ok (a.wd ws 8))=true∧(proj es a).wd ws 8=es.length:=by
 have h1:=h;rw[ED]at h1;obtain⟨h2,h3⟩:=gP h1;rw[Pn.gD a 7 8 h2.1 (by omega)];exact⟨h2.1,h2.2.1,h2.2.2,by rw[ED,if_pos h2]⟩
theorem AN1 {e:Ex} {n:Nat} (h:e.wF (fun c=>decide (0≤c))=true):(e.bits / 2 ^ n=0)=(e.cin 0 n=true):=by
 rw[eq_iff_iff,ASQ h n];unfold Ex.cin;constructor
 ·intro h1;exact Ex.qW (by simp) e (Ex.AB5 e h h1)
 ·intro h1;exact Ex.qW (fun c hc=>by simp at hc ⊢;exact hc.2) e h1
theorem AN0 {e:Ex} {n W:Nat} (h:e.wF (fun c=>decide (0≤c∧c<(W:Int)))=true):(e.bits &&& (2 ^ n-1)=0)=(e.cin n W=true):=by
 have h0:e.wF (fun c=>decide (0≤c))=true:=Ex.qW (fun c hc=>by simp at hc ⊢;exact hc.1) e h;rw[eq_iff_iff,ASP h0 n];unfold Ex.cin;constructor
 ·intro h1;exact Ex.qW (fun c hc=>by simp at hc ⊢;omega) e (Ex.AB5 e h h1)
 ·intro h1;exact Ex.qW (fun c hc=>by simp at hc ⊢;exact hc.1) e h1
end Go.Av
namespace Go.Proofs.YtjdfjgmebalaaaaGreat.P
open Go Go.Av
set_option maxRecDepth 4000
set_option maxHeartbeats 4000000
theorem FU {ws:List Int} (hw:kM ws=true) (p:Pn):aI C0 68 [.i (.agg p.cells), .i (.isl (aD ws))] []=some (.int (p.wd ws 8),[]):=by
 rw[jU];unfold Pn.width;rw[if_pos hw]
theorem BQ {ws:List Int} (hw:kM ws=true) {p:Pn} (h:p.wd ws 8≠0):∃ n:Nat,p.wd ws 8=n∧1≤n∧n≤6:=by
 have:=Pn.vF (jV hw) p 8;exact⟨(p.wd ws 8).toNat,by omega,by omega,by omega⟩
theorem AMM (a b:Nat):Int.fdiv (a:Int) (b:Int)=((a / b:Nat):Int):=by
 rw[Int.fdiv_eq_ediv_of_nonneg _ (Int.natCast_nonneg b)];rfl
theorem AbF {n:Nat} (hn:n≤6):(IntKind.i64.wrap (IntKind.i64.wrap (2 ^ min n IntKind.i64.bits)-1) % 18446744073709551616).toNat=2 ^ n-1:=by
 have:n=0∨n=1∨n=2∨n=3∨n=4∨n=5∨n=6:=by omega
 rcases this with rfl|rfl|rfl|rfl|rfl|rfl|rfl<;>decide
theorem AL9 {ws:List Int} (hw:kM ws=true) {e e2:Ex} {x y:Pn} {kd:Int} (hkd:kd=4∨kd=5) (hp:(filt e (bB kd e2 x y)).wd ws 8≠0):jJ 112 ws 3 (filt e (bB kd e2 x y)):=by
 obtain⟨h1,h2,h3⟩:=wE hp;obtain⟨g1,g2,g3,g4,g5⟩:=PV hkd h1;rw[g5]at h2;obtain⟨n,hn,n1,n2⟩:=BQ hw g1;have hwf:=Ex.AGI h2;have hcol:=Ex.YX hwf;have hb:=Ex.QT e hcol;have c1:=OO e (by have:=Ex.gH h2;omega) hcol;have c2:=FU hw x;have c3:=eQ e x;have c4:=nZ kd e2 (filt e x) y;have q:=AN1 (n:=n) (Ex.AK7 hwf);rw[hn]at c2;have o1:aI C0 148 [.i (.iref (filt e (bB kd e2 x y)).cells), .int kd] []=_:=fJ (e:=e) (k:=bB kd e2 x y) (kd:=kd) rfl;have o2:kd=5→aI C0 148 [.i (.iref (filt e (bB kd e2 x y)).cells), .int 4] []=_:=fun h=>dV (e:=e) (k:=bB kd e2 x y) (kd:=4) (by simp[h])
 have hsh:shI .shr .i64 (e.bits:Int) (n:Int)=some (.lit (.int .i64 ((e.bits / 2 ^ n:Nat):Int))):=by
  have h1:min (n:Int).toNat IntKind.i64.bits=n:=by simp[IntKind.bits];omega
  have h2:(0:Int)≤n:=by omega
  simp only[shI,h1,h2,decide_true,tst];rw[show(2:Int) ^ n=((2 ^ n:Nat):Int)by simp,AMM]
 have hr:rwP ws 3 (filt e (bB kd e2 x y))=if e.cin 0 n=true then some (bB kd e2 (filt e x) y)else none:=by
  rw[fD];simp[rwF,bB,Pn.ex0,Pn.jG,Pn.qP,Pn.kind,Pn.exprs,Pn.kids,hkd,hn]
 generalize hd:e.bits / 2 ^ n=d at *
 by_cases hc:e.cin 0 n=true
 ·rw[if_pos hc]at hr;have hd0:d=0:=by rw[q];exact hc
  subst hd0;refine .yes ?_ hr;rw[aF rfl Tryz.func112 rfl rfl]
  rcases hkd with rfl|rfl
  ·simp only[aV,pair_cells,Ex.aA e,Ex.aA e2,Pn.aA x,Pn.aA y]at o1 c1 c2 c3 c4 ⊢;simp[o1,c1,c2,c3,c4,hsh]
  ·have o2:=o2 rfl;simp only[aV,pair_cells,Ex.aA e,Ex.aA e2,Pn.aA x,Pn.aA y]at o1 o2 c1 c2 c3 c4 ⊢;simp[o1,o2,c1,c2,c3,c4,hsh]
 ·rw[if_neg hc]at hr;have hd0:¬ d=0:=by rw[q];exact hc
  refine .no ?_ hr;rw[aF rfl Tryz.func112 rfl rfl]
  rcases hkd with rfl|rfl
  ·simp only[aV,pair_cells,aW,Ex.aA e,Ex.aA e2,Pn.aA x,Pn.aA y]at o1 c1 c2 ⊢;simp[o1,c1,c2,hsh,hd0]
  ·have o2:=o2 rfl;simp only[aV,pair_cells,aW,Ex.aA e,Ex.aA e2,Pn.aA x,Pn.aA y]at o1 o2 c1 c2 ⊢;simp[o1,o2,c1,c2,hsh,hd0]
theorem AZG {ws:List Int} (hw:kM ws=true) {p:Pn} (hp:p.wd ws 8≠0):jJ 112 ws 3 p:=by
 by_cases hk:p.kind=2
 ·obtain⟨e,a,rfl⟩:=qX (nN hp) hk;by_cases hk2:a.kind=4∨a.kind=5
  ·obtain⟨e2,x,y,hx⟩:=jN (iU (nN hp)).1 hk2;generalize a.kind=kd at *
   subst hx;exact AL9 hw hk2 hp
  ·have h1:=dV (e:=e) (k:=a) (kd:=4) (by omega);have h2:=dV (e:=e) (k:=a) (kd:=5) (by omega);refine .no ?_ (by rw[fD];simp[rwF,hk2]);rw[aF rfl Tryz.func112 rfl rfl];simp only[aV,aW]at h1 h2 ⊢;simp[h1,h2]
 ·have h1:=fG (p:=p) (kd:=4) hk;have h2:=fG (p:=p) (kd:=5) hk;refine .no ?_ (by simp[rwP,hk]);rw[aF rfl Tryz.func112 rfl rfl];simp only[aW,Pn.aA p]at h1 h2 ⊢;simp[h1,h2]
theorem ANA {b n:Nat} (hb:b<64):IntKind.i64.wrap ((b:Int) % 18446744073709551616 % 2 ^ n)=((b &&& (2 ^ n-1):Nat):Int):=by
 rw[Nat.and_two_pow_sub_one_eq_mod];have h1:(b:Int) % 18446744073709551616=b:=by omega
 have h2:(b:Int) % 2 ^ n=((b % 2 ^ n:Nat):Int):=by simp
 rw[h1,h2];have:=Nat.mod_le b (2 ^ n);exact wrO
theorem AL8 {ws:List Int} (hw:kM ws=true) {e e2:Ex} {x y:Pn} (hp:(filt e (bB 4 e2 x y)).wd ws 8≠0):jJ 113 ws 4 (filt e (bB 4 e2 x y)):=by
 obtain⟨h1,h2,h3⟩:=wE hp;obtain⟨g1,g2,g3,g4,g5⟩:=PV (.inl rfl) h1;rw[g5]at h2;obtain⟨n,hn,n1,n2⟩:=BQ hw g1;obtain⟨m,hm,m1,m2⟩:=BQ hw g2;have hwf:=Ex.AGI h2;have hcol:=Ex.YX hwf;have hcolW:=Ex.P6 e (Ex.I9 h2).1;have hb:=Ex.QT e hcol;have hsz:e.size<1000000000:=by have:=Ex.gH h2;omega
 have c1:=OO e hsz hcol;have c2:=FU hw x;have c5:=X8 (w:=n) (by omega) e hwf hsz;have c3:=eQ (e.AL (·-n)) y;have c4:=nZ 4 e2 x (filt (e.AL (·-n)) y);rw[hn,hm,← Int.natCast_add]at hcolW;have q:=AN0 (n:=n) hcolW;rw[hn]at c2;have o1:=fJ (e:=e) (k:=bB 4 e2 x y) (kd:=4) rfl
 have hr:rwP ws 4 (filt e (bB 4 e2 x y))=if e.cin n (n+m:Nat)=true then some (bB 4 e2 x (filt (e.AL (·-n)) y))else none:=by
  rw[fD]
  have:∀ k:Pn,(Pn.mk 4 0 [e2] [] [x,y]).wd ws 8=((n+m:Nat):Int):=fun _=>by
   have:=g5;unfold bB at this;rw[this,hn,hm];simp
  simp[rwF,bB,Pn.ex0,Pn.jG,Pn.qP,Pn.kind,Pn.exprs,Pn.kids,hn,this x]
 have haw:=ANA (b:=e.bits) (n:=n) (by omega);by_cases hc:e.cin n (n+m:Nat)=true
 ·rw[if_pos hc]at hr;have hd0:e.bits &&& (2 ^ n-1)=0:=by rw[q];exact hc
  rw[hd0]at haw;refine .yes ?_ hr;generalize e.AL (·-(n:Int))=z at *
  rw[aF rfl Tryz.func113 rfl rfl];simp only[aV,pair_cells,Ex.aA e,Ex.aA e2,Ex.aA z,Pn.aA x,Pn.aA y]at o1 c1 c2 c3 c4 c5 ⊢;simp[o1,c1,c2,c3,c4,c5,AbF n2,haw]
 ·rw[if_neg hc]at hr;have hd0:¬ (e.bits &&& (2 ^ n-1)=0):=by rw[q];exact hc
  refine .no ?_ hr;generalize e.bits &&& (2 ^ n-1)=d at *
  rw[aF rfl Tryz.func113 rfl rfl];simp only[aV,pair_cells,aW,Ex.aA e,Ex.aA e2,Pn.aA x,Pn.aA y]at o1 c1 c2 ⊢;simp[o1,c1,c2,hd0,AbF n2,haw]
theorem AZF {ws:List Int} (hw:kM ws=true) {p:Pn} (hp:p.wd ws 8≠0):jJ 113 ws 4 p:=by
 by_cases hk:p.kind=2
 ·obtain⟨e,a,rfl⟩:=qX (nN hp) hk;by_cases hk2:a.kind=4
  ·obtain⟨e2,x,y,hx⟩:=jN (iU (nN hp)).1 (.inl hk2);rw[hk2]at hx;subst hx;exact AL8 hw hp
  ·have h1:=dV (e:=e) (k:=a) (kd:=4) hk2;refine .no ?_ (by rw[fD];simp[rwF,hk2]);rw[aF rfl Tryz.func113 rfl rfl];simp only[aV,aW]at h1 ⊢;simp[h1]
 ·have h1:=fG (p:=p) (kd:=4) hk;refine .no ?_ (by simp[rwP,hk]);rw[aF rfl Tryz.func113 rfl rfl];simp only[aW,Pn.aA p]at h1 ⊢;simp[h1]
theorem AFS {ws:List Int} (hw:kM ws=true) {e:Ex} {es:List Ex} {x:Pn} (hp:(filt e (proj es x)).wd ws 8≠0):jJ 119 ws 10 (filt e (proj es x)):=by
 obtain⟨h1,h2,h3⟩:=wE hp;obtain⟨g1,g2,g3,g4⟩:=ACH h1;rw[g4]at h2;have c2:=FU hw x;have c5:=AHJ e es (x.wd ws 8);have o1:=fJ (e:=e) (k:=proj es x) (kd:=3) rfl
 have hr:rwP ws 10 (filt e (proj es x))=some (proj es (filt (e.sub es) x)):=by
  rw[fD];simp[rwF,proj,Pn.ex0,Pn.jG,Pn.qP,Pn.kind,Pn.exprs,Pn.kids]
 have c3:=eQ (AMH (e.subst es (x.wd ws 8))) x;refine⟨proj es (filt (AMH (e.subst es (x.wd ws 8))) x),(e.subst es (x.wd ws 8)).isSome,?_,?_,?_⟩
 ·generalize (e.subst es (x.wd ws 8)).isSome=b at *
  generalize AMH (e.subst es (x.wd ws 8))=z at *
  rw[aF rfl Tryz.func119 rfl rfl];simp only[aV,jS,Ex.aA e,Ex.aA z,Pn.aA x]at o1 c2 c3 c5 ⊢;simp[o1,c2,c3,c5]
 ·intro hb;rw[hr];unfold Ex.subst at hb ⊢;split at hb
  ·rename_i hcc;rw[if_pos hcc];rfl
  ·simp at hb
 ·intro hb q' hq lv;rw[hr]at hq;injection hq with hq;subst hq
  cases lv with
  | zero=>rw[Pn.ABJ];simp[proj,Pn.kids]
  | succ lv =>
   rw[ED];refine if_neg fun hc=>?_
   have hc1:=hc.1
   cases lv with
   | zero=>exact hc1 (by rw[Pn.ABJ];simp[filt,Pn.kids])
   | succ lv =>
    rw[JB]at hc1;obtain⟨⟨hx,hok⟩,_⟩:=gP hc1;have e8:=ANI (nN g1) hx;rw[e8]at hok;unfold Ex.subst at hb;rw[if_pos (by simp only[zT];exact⟨h2,g3,hok⟩)]at hb;simp at hb
theorem AVI {ws:List Int} (hw:kM ws=true) {p:Pn} (hp:p.wd ws 8≠0):jJ 119 ws 10 p:=by
 by_cases hk:p.kind=2
 ·obtain⟨e,a,rfl⟩:=qX (nN hp) hk;by_cases hk2:a.kind=3
  ·obtain⟨es,x,rfl⟩:=pK (iU (nN hp)).1 hk2;exact AFS hw hp
  ·have h1:=dV (e:=e) (k:=a) (kd:=3) hk2;refine .no ?_ (by rw[fD];simp[rwF,hk2]);rw[aF rfl Tryz.func119 rfl rfl];simp only[aV,aW]at h1 ⊢;simp[h1]
 ·have h1:=fG (p:=p) (kd:=3) hk;refine .no ?_ (by simp[rwP,hk]);rw[aF rfl Tryz.func119 rfl rfl];simp only[aW,Pn.aA p]at h1 ⊢;simp[h1]
end Go.Proofs.YtjdfjgmebalaaaaGreat.P

/- Part 5 of what the proof rests on: the executor and what it is worth, and the program's functions as it runs them. No condition. -/
import Derived.Test.YtmcjmafajkeecaaGreatDoorT4
import Derived.WalkKit
import Derived.Defers
import Derived.Recover
set_option linter.unusedVariables false
set_option linter.unusedSimpArgs false
namespace Go.Av
def sE (e:Ex) (i:Nat):List UInt8:=40::(nmE e.kind++gB (e.kids.take i))
def sP1 (p:Pn):List UInt8:=(40::nmP p.kind)++(if p.kind=1 then 32::dgI p.table else [])
def sPC (p:Pn) (i:Nat):List UInt8:=sP1 p++txC (p.cols.take i)
def sPX (p:Pn) (i:Nat):List UInt8:=sPC p p.cols.length++gB (p.exprs.take i)
def sPK (p:Pn) (i:Nat):List UInt8:=sPX p p.exprs.length++qU (p.kids.take i)
theorem ACY (p:Pn):txP p=sPK p p.kids.length++[41]:=by
 rw[lM];simp[sPK,sPX,sPC,sP1]
@[simp] theorem bsz (l:List UInt8):(ByteArray.mk l.toArray).size=l.length:=by simp[ByteArray.size]
@[simp] theorem AdM (c:UInt8):(ByteArray.mk #[c]).size=1:=rfl
@[simp] theorem AdL (c d:UInt8):(ByteArray.mk #[c,d]).size=2:=rfl
theorem JS (c:UInt8) (l:List UInt8):(ByteArray.mk #[c])++(ByteArray.mk l.toArray)=ByteArray.mk (c::l).toArray:=lQ [c] l
theorem kZ (c:UInt8) (l:List UInt8):(ByteArray.mk l.toArray)++(ByteArray.mk #[c])=ByteArray.mk (l++[c]).toArray:=lQ l [c]
theorem MC (c d:UInt8) (l:List UInt8):(ByteArray.mk l.toArray)++(ByteArray.mk #[c,d])=ByteArray.mk (l++[c,d]).toArray:=lQ l [c,d]
end Go.Av
namespace Go.Proofs.YtmcjmafajkeecaaGreatDoor.P
open Go Go.Av
set_option maxRecDepth 4000
set_option maxHeartbeats 4000000
theorem nN {n:Nat} (h:n<10):aH C0 50 [.int n] []=some (.i (.lit (.string ⟨(dgI n).toArray⟩)),[]):=by
 have hd:=mD (n:=n) (by omega) (by omega);have hn:n=0∨n=1∨n=2∨n=3∨n=4∨n=5∨n=6∨n=7∨n=8∨n=9:=by omega
 rw[aF rfl Tryz.func50 rfl rfl,hd]
 rcases hn with rfl|rfl|rfl|rfl|rfl|rfl|rfl|rfl|rfl|rfl<;>simp<;>rfl
theorem AM7:aH C0 83 [.i (.agg [.bool false, .int 0])] []=some (.i (.lit (.string ⟨[48].toArray⟩)),[]):=by
 have h:=nN (n:=0) (by omega);have hd:dgI (0:Nat)=[48]:=by rw[mD (by omega) (by omega)];rfl
 rw[hd]at h;rw[aF rfl Tryz.func83 rfl rfl];simp at h;simp[h]
def AMZ:List (List IV):=[[.lit (.string ⟨#[]⟩)],[.lit (.string ⟨#[99,111,108]⟩)],[.lit (.string ⟨#[118,97,108]⟩)],[.lit (.string ⟨(nmE 3).toArray⟩)],[.lit (.string ⟨(nmE 4).toArray⟩)],[.lit (.string ⟨(nmE 5).toArray⟩)],[.lit (.string ⟨(nmE 6).toArray⟩)],[.lit (.string ⟨(nmE 7).toArray⟩)],[.lit (.string ⟨(nmE 8).toArray⟩)],[.lit (.string ⟨(nmE 9).toArray⟩)],[.lit (.string ⟨(nmE 10).toArray⟩)],[.lit (.string ⟨(nmE 11).toArray⟩)]]
def AMY:List (List IV):=[[.lit (.string ⟨#[]⟩)],[.lit (.string ⟨(nmP 1).toArray⟩)],[.lit (.string ⟨(nmP 2).toArray⟩)],[.lit (.string ⟨(nmP 3).toArray⟩)],[.lit (.string ⟨(nmP 4).toArray⟩)],[.lit (.string ⟨(nmP 5).toArray⟩)],[.lit (.string ⟨(nmP 6).toArray⟩)],[.lit (.string ⟨(nmP 7).toArray⟩)],[.lit (.string ⟨(nmP 8).toArray⟩)]]
theorem OG:aH C0 84 [] []=some (.i (.isl AMZ),[]):=by
 rw[aF rfl Tryz.func84 rfl rfl];simp[AMZ,nmE]
theorem NM:aH C0 49 [] []=some (.i (.isl AMY),[]):=by
 rw[aF rfl Tryz.func49 rfl rfl];simp[AMY,nmP]
theorem ADY {k:Int} (h0:3≤k) (h1:k≤11):iP AMZ k.toNat=some [.lit (.string ⟨(nmE k).toArray⟩)]:=by
 have hk:k=3∨k=4∨k=5∨k=6∨k=7∨k=8∨k=9∨k=10∨k=11:=by omega
 rcases hk with rfl|rfl|rfl|rfl|rfl|rfl|rfl|rfl|rfl<;>rfl
theorem ADX {k:Int} (h0:1≤k) (h1:k≤8):iP AMY k.toNat=some [.lit (.string ⟨(nmP k).toArray⟩)]:=by
 have hk:k=1∨k=2∨k=3∨k=4∨k=5∨k=6∨k=7∨k=8:=by omega
 rcases hk with rfl|rfl|rfl|rfl|rfl|rfl|rfl|rfl<;>rfl
def STE (e:Ex) (i:Nat):AS :=
 { env:=[(0, .i (.agg [.int e.kind, .int e.col, .bool e.val.null, .int e.val.n, .isl (Ex.aA e.kids)])),(1, .own 0 0),(2, .i (.lit (.string ⟨#[]⟩))),(3, .i (.lit (.string ⟨(sE e i).toArray⟩))),(4, .int i),(6, .int e.kind),(7, .bool false),(13, .bool false),(28,jk i (.bool true))],
   st:=[some (.box [.int e.kind, .int e.col, .bool e.val.null, .int e.val.n, .i (.isl (Ex.aA e.kids))])] }
theorem SE:∀ e:Ex,e.tx→(txE e).length<10000000→aH C0 51 [.i (.agg e.cells)] []=some (.i (.lit (.string ⟨(txE e).toArray⟩)),[]):=by
 intro e
 induction e using Ex.ind with
 | h k c v ks ih =>
  intro ht hl;generalize he:Ex.mk k c v ks=e at *
  have hks:ks=e.kids:=by rw[← he];rfl
  subst hks;rw[aF rfl Tryz.func51 rfl rfl,Ex.aB];have hte:=pR e
  rcases(Ex.gJ e).1 ht with ⟨h1,h2,h3⟩|⟨h1,h2⟩|⟨h1,h2,h3⟩
  ·rw[if_pos h1]at hte;rw[hte];obtain⟨n,hn⟩:=yP h2;have hc:=nN (n:=n) (by omega);have hs:=JS 35 (dgI n);rw[hte]at hl;simp only[zS]at hl;rw[hn]at hl ⊢;have hb:1+(dgI n).length≤9223372036854775807:=by omega
   generalize dgI n=m at *
   simp[h1,hc,hs,hb]
  ·rw[if_neg (by omega),if_pos h1]at hte;have hv:txV e.val=[48]:=by rw[h2];simp[txV];rw[mD (by omega) (by omega)];rfl
   rw[hv]at hte;rw[hte];have hc:=AM7;simp[h1,h2,hc]
  ·rw[if_neg (by omega),if_neg (by omega)]at hte;have hfin:txE e=sE e e.kids.length++[41]:=by rw[hte];simp[sE]
   rw[hfin];have hnm:=ADY h1 h2;have hns:=OG;have hnl:AMZ.length=12:=rfl;have k1:¬ e.kind=1:=by omega
   have k2:¬ e.kind=2:=by omega
   have k3:0≤e.kind:=by omega
   have k4:e.kind<12:=by omega
   have hs0:=JS 40 (nmE e.kind)
   have hlen:∀ i,(sE e i).length<10000000:=by
    intro i;have h9:=vO e.kids i;rw[hte]at hl;simp only[sE,zR,zS,zI]at hl ⊢;omega
   have hb0:1+(nmE e.kind).length≤9223372036854775807:=by have:=hlen 0;simp[sE]at this;omega
   generalize AMZ=nms at *
   simp[k1,k2,k3,k4,hns,hnl,hnm,hs0,hb0];rw[aW (STE e) e.kids.length (by simp[STE,sE,gB,k1,k2])]
   ·rw[aD];have hs1:=kZ 41 (sE e e.kids.length);have hb1:(sE e e.kids.length).length+1≤9223372036854775807:=by have:=hlen e.kids.length;omega
    simp only[STE];generalize sE e e.kids.length=m at *
    simp[hs1,hb1]
   ·intro i hi;have h4:=zT hi;have hm:=zU h4;have r2:=Ex.aS h4;have hsn:=aL h4;generalize e.kids[i]=a at h4 hm r2 hsn;have hnext:sE e (i+1)=(sE e i++[32])++txE a:=by unfold sE;rw[hsn,iO];simp
    have hcnt:=qV e.kids;have hkl:e.kids.length<10000000:=by rw[hte]at hl;simp only[zR,zS,zI]at hl;omega
    have hla:(txE a).length<10000000:=by
     have h9:=vO e.kids (i+1);rw[hsn,iO]at h9;rw[hte]at hl;simp only[zR,zS,zI]at hl h9;omega
    have hk:=ih a hm (h3 a hm) hla;have hs1:=kZ 32 (sE e i);have hs2:=lQ (sE e i++[32]) (txE a);rw[← hnext]at hs2;have w2:IntKind.i64.wrap ((i:Int)+1)=i+1:=wrO;have hb1:(sE e i).length+1≤9223372036854775807:=by have:=hlen i;omega
    have hb2:(sE e i++[32]).length+(txE a).length≤9223372036854775807:=by have:=hlen i;simp only[zR,zS,zI];omega
    simp only[STE];generalize sE e (i+1)=m2 at *
    generalize sE e i++[32]=m3 at *
    generalize sE e i=m1 at *
    generalize txE a=m4 at *
    rw[Ex.aB a]at r2 hk;simp[hi,r2,hk,w2,hs1,hs2,hb1,hb2]
def SPC (p:Pn) (i:Nat):AS :=
 { env:=[(0, .i (.agg [.int p.kind, .int p.table, .isl (Ex.aA p.exprs), .isl (aI p.cols), .isl (Pn.aA p.kids)])),(1, .own 0 0),(2, .i (.lit (.string ⟨#[]⟩))),(3, .i (.lit (.string ⟨(sPC p i).toArray⟩))),(4, .int i),(5, .junk),(6, .junk),(15, .bool (p.kind == 1)),(26,jk i (.bool true)),(42, .junk),(58, .junk)],
   st:=[bxQ p] }
def SPX (p:Pn) (i:Nat):AS :=
 { env:=[(0, .i (.agg [.int p.kind, .int p.table, .isl (Ex.aA p.exprs), .isl (aI p.cols), .isl (Pn.aA p.kids)])),(1, .own 0 0),(2, .i (.lit (.string ⟨#[]⟩))),(3, .i (.lit (.string ⟨(sPX p i).toArray⟩))),(4, .int p.cols.length),(5, .int i),(6, .junk),(15, .bool (p.kind == 1)),(26, .bool false),(42,jk i (.bool true)),(58, .junk)],
   st:=[bxQ p] }
def SPK (p:Pn) (i:Nat):AS :=
 { env:=[(0, .i (.agg [.int p.kind, .int p.table, .isl (Ex.aA p.exprs), .isl (aI p.cols), .isl (Pn.aA p.kids)])),(1, .own 0 0),(2, .i (.lit (.string ⟨#[]⟩))),(3, .i (.lit (.string ⟨(sPK p i).toArray⟩))),(4, .int p.cols.length),(5, .int p.exprs.length),(6, .int i),(15, .bool (p.kind == 1)),(26, .bool false),(42, .bool false),(58,jk i (.bool true))],
   st:=[bxQ p] }
theorem VE {p:Pn} (ht:p.tx) (hl:(txP p).length<9000000)
 (ih:∀ a∈p.kids,(txP a).length<9000000→aH C0 26 [.i (.agg a.cells)] []=some (.i (.lit (.string ⟨(txP a).toArray⟩)),[])) :
 aH C0 26 [.i (.agg p.cells)] []=some (.i (.lit (.string ⟨(txP p).toArray⟩)),[]):=by
 obtain⟨⟨k1,k2⟩,k3,k4,k5,k6⟩:=(Pn.gJ p).1 ht;have hfin:=ACY p
 have hlp:(sPK p p.kids.length).length+1=(txP p).length:=by
  have:=congrArg List.length hfin;simp at this;omega
 have lX:(sPX p p.exprs.length).length≤(sPK p p.kids.length).length:=by simp[sPK]
 have lC:(sPC p p.cols.length).length≤(sPX p p.exprs.length).length:=by simp[sPX]
 have l1:(sP1 p).length≤(sPC p p.cols.length).length:=by simp[sPC]
 have l0:1+(nmP p.kind).length≤(sP1 p).length:=by simp[sP1];omega
 have hC:∀ i,(sPC p i).length≤(sPC p p.cols.length).length:=fun i=>by have:=SA p.cols i;simp[sPC];exact this
 have hX:∀ i,(sPX p i).length≤(sPX p p.exprs.length).length:=fun i=>by have:=vO p.exprs i;simp[sPX];exact this
 have hK:∀ i,(sPK p i).length≤(sPK p p.kids.length).length:=fun i=>by have:=JN p.kids i;simp[sPK];exact this
 have nC:p.cols.length≤(sPC p p.cols.length).length:=by have:=JO p.cols;simp[sPC];omega
 have nX:p.exprs.length≤(sPX p p.exprs.length).length:=by have:=qV p.exprs;simp[sPX];omega
 have nK:p.kids.length≤(sPK p p.kids.length).length:=by have:=BN p.kids;simp[sPK];omega
 have hnm:=ADX k1 k2;have hns:=NM;have hnl:AMY.length=9:=rfl;have q3:0≤p.kind:=by omega
 have q4:p.kind<9:=by omega
 have hs0:=JS 40 (nmP p.kind);have hb0:1+(nmP p.kind).length≤9223372036854775807:=by omega
 have hC0:sPC p 0=sP1 p:=by simp[sPC,txC]
 have hX0:sPX p 0=sPC p p.cols.length:=by simp[sPX,gB]
 have hK0:sPK p 0=sPX p p.exprs.length:=by simp[sPK,qU]
 rw[hfin,aF rfl Tryz.func26 rfl rfl,Pn.aB];generalize AMY=nms at *
 by_cases h1:p.kind=1
 ·obtain⟨k7,k8⟩:=k3 h1;obtain⟨t,htt⟩:=yP k7;have hai:=nN (n:=t) (by omega);have hs1:=kZ 32 (40::nmP p.kind);have hs2:=lQ ((40::nmP p.kind)++[32]) (dgI t);have hm1:sP1 p=(40::nmP p.kind++[32])++dgI t:=by simp[sP1,h1,htt]
  rw[← hm1]at hs2;have hb1:(40::nmP p.kind).length+1≤9223372036854775807:=by rw[zS];omega
  have hb2:(40::nmP p.kind++[32]).length+(dgI t).length≤9223372036854775807:=by rw[← List.length_append,← hm1];omega
  generalize 40::nmP p.kind++[32]=m3 at *
  generalize 40::nmP p.kind=m2 at *
  generalize nmP p.kind=m4 at *
  generalize dgI t=m5 at *
  generalize sP1 p=m1 at *
  simp[bxQ,h1,htt,hnm,hns,hnl,hs0,hb0,hs1,hs2,hb1,hb2,hai];rw[h1]at hnm;simp at hnm;simp[bxQ,h1,htt,hnm,hns,hnl,hs0,hb0,hs1,hs2,hb1,hb2,hai];rw[aW (SPC p) p.cols.length (by simp[SPC,bxQ,hC0,h1,htt])]
  ·rw[aD];simp only[SPC,bxQ];generalize sPC p p.cols.length=mc at *
   simp;rw[aW (SPX p) p.exprs.length (by simp[SPX,bxQ,hX0])]
   ·rw[aD];simp only[SPX,bxQ];generalize sPX p p.exprs.length=mx at *
    simp;rw[aW (SPK p) p.kids.length (by simp[SPK,bxQ,hK0])]
    ·rw[aD];have hs9:=kZ 41 (sPK p p.kids.length);have hb9:(sPK p p.kids.length).length+1≤9223372036854775807:=by omega
     simp only[SPK,bxQ];generalize sPK p p.kids.length=mk at *
     simp[hb9,hs9]
    ·intro i hi;have h4:=zT hi;have hm:=zU h4;have r2:=Pn.aS h4;have hsn:=aL h4;generalize p.kids[i]=a at h4 hm r2 hsn;have hnext:sPK p (i+1)=(sPK p i++[32])++txP a:=by unfold sPK;rw[hsn,lN];simp
     have hl1:=hK i;have hl2:=hK (i+1);rw[hnext]at hl2;simp at hl2;have hk:=ih a hm (by omega);have hs1:=kZ 32 (sPK p i);have hs2:=lQ (sPK p i++[32]) (txP a);rw[← hnext]at hs2;have w2:IntKind.i64.wrap ((i:Int)+1)=i+1:=wrO;have hb1:(sPK p i).length+1≤9223372036854775807:=by omega
     have hb2:(sPK p i++[32]).length+(txP a).length≤9223372036854775807:=by simp only[zR,zS,zI];omega
     simp only[SPK,bxQ];generalize sPK p (i+1)=m2 at hs2 ⊢;generalize sPK p i++[32]=m3 at hs1 hs2 hb2 ⊢;generalize sPK p i=m1 at hs1 hb1 ⊢;generalize txP a=m4 at hk hs2 hb2 ⊢;rw[Pn.aB a]at r2 hk;simp[hi,r2,hk,w2,hs1,hs2,hb1,hb2]
   ·intro i hi;have h4:=zT hi;have hm:=zU h4;have r2:=Ex.aS h4;have hsn:=aL h4;generalize p.exprs[i]=a at h4 hm r2 hsn;have hnext:sPX p (i+1)=(sPX p i++[32])++txE a:=by unfold sPX;rw[hsn,iO];simp
    have hl1:=hX i;have hl2:=hX (i+1);rw[hnext]at hl2;simp at hl2;have hk:=SE a (k5 a hm) (by omega);have hs1:=kZ 32 (sPX p i);have hs2:=lQ (sPX p i++[32]) (txE a);rw[← hnext]at hs2;have w2:IntKind.i64.wrap ((i:Int)+1)=i+1:=wrO;have hb1:(sPX p i).length+1≤9223372036854775807:=by omega
    have hb2:(sPX p i++[32]).length+(txE a).length≤9223372036854775807:=by simp only[zR,zS,zI];omega
    simp only[SPX,bxQ];generalize sPX p (i+1)=m2 at hs2 ⊢;generalize sPX p i++[32]=m3 at hs1 hs2 hb2 ⊢;generalize sPX p i=m1 at hs1 hb1 ⊢;generalize txE a=m4 at hk hs2 hb2 ⊢;rw[Ex.aB a]at r2 hk;simp[hi,r2,hk,w2,hs1,hs2,hb1,hb2]
  ·intro i hi;have h4:=zT hi;have hm:=zU h4;have r2:=dL h4;have hsn:=aL h4;generalize p.cols[i]=a at h4 hm r2 hsn;obtain⟨a0,a1⟩:=k4 a hm;obtain⟨c,rfl⟩:=yP a0;have hnext:sPC p (i+1)=(sPC p i++[32,35])++dgI c:=by unfold sPC;rw[hsn,o8];simp
   have hl1:=hC i;have hl2:=hC (i+1);rw[hnext]at hl2;simp at hl2;have hk:=nN (n:=c) (by omega);have hs1:=MC 32 35 (sPC p i);have hs2:=lQ (sPC p i++[32,35]) (dgI c);rw[← hnext]at hs2;have w2:IntKind.i64.wrap ((i:Int)+1)=i+1:=wrO;have hb1:(sPC p i).length+2≤9223372036854775807:=by omega
   have hb2:(sPC p i++[32,35]).length+(dgI c).length≤9223372036854775807:=by simp only[zR,zS,zI];omega
   simp only[SPC,bxQ];generalize sPC p (i+1)=m2 at hs2 ⊢;generalize sPC p i++[32,35]=m3 at hs1 hs2 hb2 ⊢;generalize sPC p i=m1 at hs1 hb1 ⊢;generalize dgI (c:Int)=m4 at hk hs2 hb2 ⊢;simp[hi,r2,hk,w2,hs1,hs2,hb1,hb2]
 ·have hm1:sP1 p=40::nmP p.kind:=by simp[sP1,h1]
  rw[← hm1]at hs0;generalize nmP p.kind=m4 at *
  simp[bxQ,h1,q3,q4,hnm,hns,hnl,hs0,hb0];rw[aW (SPC p) p.cols.length (by simp[SPC,bxQ,hC0,h1])]
  ·rw[aD];simp only[SPC,bxQ];generalize sPC p p.cols.length=mc at *
   simp;rw[aW (SPX p) p.exprs.length (by simp[SPX,bxQ,hX0])]
   ·rw[aD];simp only[SPX,bxQ];generalize sPX p p.exprs.length=mx at *
    simp;rw[aW (SPK p) p.kids.length (by simp[SPK,bxQ,hK0])]
    ·rw[aD];have hs9:=kZ 41 (sPK p p.kids.length);have hb9:(sPK p p.kids.length).length+1≤9223372036854775807:=by omega
     simp only[SPK,bxQ];generalize sPK p p.kids.length=mk at *
     simp[hb9,hs9]
    ·intro i hi;have h4:=zT hi;have hm:=zU h4;have r2:=Pn.aS h4;have hsn:=aL h4;generalize p.kids[i]=a at h4 hm r2 hsn;have hnext:sPK p (i+1)=(sPK p i++[32])++txP a:=by unfold sPK;rw[hsn,lN];simp
     have hl1:=hK i;have hl2:=hK (i+1);rw[hnext]at hl2;simp at hl2;have hk:=ih a hm (by omega);have hs1:=kZ 32 (sPK p i);have hs2:=lQ (sPK p i++[32]) (txP a);rw[← hnext]at hs2;have w2:IntKind.i64.wrap ((i:Int)+1)=i+1:=wrO;have hb1:(sPK p i).length+1≤9223372036854775807:=by omega
     have hb2:(sPK p i++[32]).length+(txP a).length≤9223372036854775807:=by simp only[zR,zS,zI];omega
     simp only[SPK,bxQ];generalize sPK p (i+1)=m2 at hs2 ⊢;generalize sPK p i++[32]=m3 at hs1 hs2 hb2 ⊢;generalize sPK p i=m1 at hs1 hb1 ⊢;generalize txP a=m4 at hk hs2 hb2 ⊢;rw[Pn.aB a]at r2 hk;simp[hi,r2,hk,w2,hs1,hs2,hb1,hb2]
   ·intro i hi;have h4:=zT hi;have hm:=zU h4;have r2:=Ex.aS h4;have hsn:=aL h4;generalize p.exprs[i]=a at h4 hm r2 hsn;have hnext:sPX p (i+1)=(sPX p i++[32])++txE a:=by unfold sPX;rw[hsn,iO];simp
    have hl1:=hX i;have hl2:=hX (i+1);rw[hnext]at hl2;simp at hl2;have hk:=SE a (k5 a hm) (by omega);have hs1:=kZ 32 (sPX p i);have hs2:=lQ (sPX p i++[32]) (txE a);rw[← hnext]at hs2;have w2:IntKind.i64.wrap ((i:Int)+1)=i+1:=wrO;have hb1:(sPX p i).length+1≤9223372036854775807:=by omega
    have hb2:(sPX p i++[32]).length+(txE a).length≤9223372036854775807:=by simp only[zR,zS,zI];omega
    simp only[SPX,bxQ];generalize sPX p (i+1)=m2 at hs2 ⊢;generalize sPX p i++[32]=m3 at hs1 hs2 hb2 ⊢;generalize sPX p i=m1 at hs1 hb1 ⊢;generalize txE a=m4 at hk hs2 hb2 ⊢;rw[Ex.aB a]at r2 hk;simp[hi,r2,hk,w2,hs1,hs2,hb1,hb2]
  ·intro i hi;have h4:=zT hi;have hm:=zU h4;have r2:=dL h4;have hsn:=aL h4;generalize p.cols[i]=a at h4 hm r2 hsn;obtain⟨a0,a1⟩:=k4 a hm;obtain⟨c,rfl⟩:=yP a0;have hnext:sPC p (i+1)=(sPC p i++[32,35])++dgI c:=by unfold sPC;rw[hsn,o8];simp
   have hl1:=hC i;have hl2:=hC (i+1);rw[hnext]at hl2;simp at hl2;have hk:=nN (n:=c) (by omega);have hs1:=MC 32 35 (sPC p i);have hs2:=lQ (sPC p i++[32,35]) (dgI c);rw[← hnext]at hs2;have w2:IntKind.i64.wrap ((i:Int)+1)=i+1:=wrO;have hb1:(sPC p i).length+2≤9223372036854775807:=by omega
   have hb2:(sPC p i++[32,35]).length+(dgI c).length≤9223372036854775807:=by simp only[zR,zS,zI];omega
   simp only[SPC,bxQ];generalize sPC p (i+1)=m2 at hs2 ⊢;generalize sPC p i++[32,35]=m3 at hs1 hs2 hb2 ⊢;generalize sPC p i=m1 at hs1 hb1 ⊢;generalize dgI (c:Int)=m4 at hk hs2 hb2 ⊢;simp[hi,r2,hk,w2,hs1,hs2,hb1,hb2]
theorem ADH:∀ p:Pn,p.tx→(txP p).length<9000000→aH C0 26 [.i (.agg p.cells)] []=some (.i (.lit (.string ⟨(txP p).toArray⟩)),[]):=by
 intro p
 induction p using Pn.ind with
 | h k t es cs ks ih =>
  intro ht hl;exact VE ht hl fun a ha=>ih a ha (((Pn.gJ _).1 ht).2.2.2.2 a ha)
noncomputable def AI7:FuncId→Option (List AV→StL→Option (AV×StL))
 | 1000000007=>none
 | 106=>some AJ2
 | 88=>some P5
 | 55=>none
 | 60=>none
 | 87=>none
 | 59=>none
 | 56=>none
 | 62=>none
 | 30=>none
 | 61=>none
 | 91=>none
 | 29=>none
 | g=>some (aH C0 g)
noncomputable def CD:Ctx:={ P:=Tryz.prog,G:=GS,ownArgs:=dU,keepRes:=keepR,eqT:=vI,prim:=AI7 }
@[simp] theorem Ae9:CD.P=Tryz.prog:=(rfl)
@[simp] theorem AeA (f):CD.G f=GS f:=(rfl)
@[simp] theorem Ae6 (f):CD.ownArgs f=dU f:=(rfl)
@[simp] theorem Ae7 (f):CD.keepRes f=keepR f:=(rfl)
@[simp] theorem Ae8 (f):CD.eqT f=vI f:=(rfl)
@[simp] theorem Ae5:CD.tree=false:=(rfl)
theorem ADI:(Tryz.prog.info? (Tryz.IW.t 116)).map (fun i=>(i.zero,i.size))=some (some (.agg (Array.replicate 256 (.bool false))),256):=by kernel_rfl
theorem AMR:PrimOk CD:=by
 have hz:=ADI;have h0:=aX pJ
 have key:∀ g q,CD.prim g=some q→(g≠uB∧q=aH C0 g)∨(g=106∧q=AJ2)∨(g=88∧q=P5):=by
  intro g q h;have h:AI7 g=some q:=h;unfold AI7 at h;split at h
  all_goals first
   | (cases h;done)
   | (injection h with h;subst h;exact .inr (.inl ⟨rfl,rfl⟩))
   | (injection h with h;subst h;exact .inr (.inr ⟨rfl,rfl⟩))
   | (injection h with h;subst h;exact .inl ⟨by assumption,rfl⟩)
 constructor
 ·intro g args st p h;unfold bM at h
  cases hq:CD.prim g with
  | none=>rw[hq]at h;cases h
  | some q =>
   rw[hq]at h
   rcases key g q hq with ⟨hy,rfl⟩|⟨rfl,rfl⟩|⟨rfl,rfl⟩
   ·exact h0.name _ _ _ _ hy h
   ·exact⟨_,Tryz.func106,by decide,rfl⟩
   ·exact⟨_,Tryz.func88,by decide,rfl⟩
 ·intro g args st r st' h w m φ vs hi hr hb;unfold bM at h
  cases hq:CD.prim g with
  | none=>rw[hq]at h;cases h
  | some q =>
   rw[hq]at h
   rcases key g q hq with ⟨hy,rfl⟩|⟨rfl,rfl⟩|⟨rfl,rfl⟩
   ·exact h0.calls _ _ _ _ _ hy h w m φ vs hi hr hb
   ·exact WN (fun s c w h2 h8 ha=>Go.Proofs.Any.strings_IndexAny_short Tryz.AGJ s c w h2 h8 ha) (fun s c w h2 h8 hs hc ha=>Go.Proofs.Any.strings_IndexAny_long Tryz.AGJ (zero_of_info hz).1 (zero_of_info hz).2 s c w h2 h8 hs hc ha) h w m φ vs hi hr hb
   ·exact RN (fun s v w hs hv=>Go.Proofs.Any.strconv_Atoi_ok Tryz.AK7 s hs v hv w) h w m φ vs hi hr hb
theorem AM4:SoundOk CD:=iF (C:=CD) ft nt eqS mo AMR
@[simp] theorem AT6 (a:List AV) (st:StL):aH CD 106 a st=AJ2 a st:=by rw[aN (p:=AJ2) rfl]
@[simp] theorem ARU (a:List AV) (st:StL):aH CD 88 a st=P5 a st:=by rw[aN (p:=P5) rfl]
@[simp] theorem AT7 (a:List AV) (st:StL):aH CD 89 a st=aH C0 89 a st:=by rw[aN (p:=aH C0 89) rfl]
abbrev H8 (l:List UInt8):AV:=.i (.lit (.string ⟨l.toArray⟩))
abbrev sB (l:List UInt8):Option Blk:=some (.box [H8 l])
theorem AAU (l p:List UInt8) (hl:l.length<1000000000) (hp:p.length<1000000000):aH C0 127 [H8 l,H8 p] []=some (.bool (GJ p l),[]):=by
 have hq:=sM;rw[aF rfl Tryz.func127 rfl rfl];unfold GJ;by_cases h:p.length≤l.length
 ·have h1:(p.length:Int)≤l.length:=by omega
  simp[h,h1,QZ,hq]
 ·have h1:¬ (p.length:Int)≤l.length:=by omega
  simp[h,h1]
theorem AJJ (l p:List UInt8) (hl:l.length<1000000000) (hp:p.length<1000000000):aH C0 109 [H8 l,H8 p] []=some (.tup [H8 (if GJ p l then l.drop p.length else l), .bool (GJ p l)],[]):=by
 have c1:=AAU l p hl hp;rw[aF rfl Tryz.func109 rfl rfl];by_cases h:GJ p l=true
 ·rw[h]at c1;have h1:p.length≤l.length:=by simp[GJ]at h;exact h.1
  have h2:(p.length:Int)≤l.length:=by omega
  simp[c1,h,h1,h2,QY]
 ·have h0:GJ p l=false:=by simpa using h
  rw[h0]at c1;simp[c1,h0]
theorem uX (l p:List UInt8) (hl:l.length<1000000000) (hp:p.length<1000000000):aH C0 89 [H8 l,H8 p] []=some (.tup [H8 (if GJ p l then l.drop p.length else l), .bool (GJ p l)],[]):=by
 have c1:=AJJ l p hl hp;rw[aF rfl Tryz.func89 rfl rfl];generalize (if GJ p l then l.drop p.length else l)=m at *
 simp[c1]
theorem fK (l p:List UInt8) (hl:l.length<1000000000) (hp:p.length<1000000000):aH CD 60 [.own 0 0,H8 p] [sB l]=some (.bool (GJ p l),[sB (if GJ p l then l.drop p.length else l)]):=by
 have c1:=uX l p hl hp;rw[aF rfl Tryz.func60 rfl rfl];generalize (if GJ p l then l.drop p.length else l)=m at *
 simp[c1]
theorem d9 (p t:List UInt8) (hl:(p++t).length<1000000000):aH CD 55 [.own 0 0,H8 p] [sB (p++t)]=some (.tup [],[sB t]):=by
 have c1:=fK (p++t) p hl (by simp at hl;omega);rw[BU]at c1;simp at c1;rw[aF rfl Tryz.func55 rfl rfl];simp[c1]
theorem vN (u t:List UInt8) (hu:u.all rY=true) (ht:sN t=true) (ha:ascii (u++t)=true) (hl:(u++t).length<1000000000):aH CD 87 [.own 0 0] [sB (u++t)]=some (H8 u,[sB t]):=by
 have hi:=AP u t hu ht
 have hok:AAT ⟨(u++t).toArray⟩ ⟨#[32,40,41]⟩=true:=by
  have h3:(ByteArray.mk #[32,40,41]).size=3:=rfl;have h4:ascii (ByteArray.mk #[32,40,41]).data.toList=true:=rfl;unfold AAT;rw[h3,h4];simp only[bsz];have:ascii (ByteArray.mk (u++t).toArray).data.toList=true:=ha;rw[this];simp;simp at hl;omega
 have hx:AJ2 [H8 (u++t), .i (.lit (.string ⟨#[32,40,41]⟩))] []=some (.int (if t=[]then -1 else(u.length:Int)),[]):=by
  show tst (AAT ⟨(u++t).toArray⟩ ⟨#[32,40,41]⟩) (some (AV.int (Lib.indexAny (u++t) [32,40,41]),[]))=_;rw[hok,hi];rfl
 rw[aF rfl Tryz.func87 rfl rfl];by_cases h0:t=[]
 ·subst h0;simp only[z8,if_true]at *
  have e1:(ByteArray.mk u.toArray).extract 0 u.length=⟨u.toArray⟩:=by rw[QZ];simp
  have e2:(ByteArray.mk u.toArray).extract u.length u.length=⟨#[]⟩:=by rw[QY];simp
  simp[hx,e1,e2];rfl
 ·rw[if_neg h0]at hx;generalize hm:u++t=m at *
  have hml:u.length≤m.length:=by rw[← hm];simp
  have hml':(u.length:Int)≤m.length:=by omega
  have e1:(ByteArray.mk m.toArray).extract 0 u.length=⟨u.toArray⟩:=by rw[QZ,← hm];simp
  have e2:(ByteArray.mk m.toArray).extract u.length m.length=⟨t.toArray⟩:=by rw[QY,← hm];simp
  have h5:¬ (u.length:Int)<0:=by omega
  simp[hx,e1,e2,h5,hml']
theorem KN (u t:List UInt8) {n:Int} (hn:Lib.atoiAll u=.ok n) (hu:u.all rY=true) (ht:sN t=true) (ha:ascii (u++t)=true) (hl:(u++t).length<1000000000):aH CD 59 [.own 0 0] [sB (u++t)]=some (.int n,[sB t]):=by
 have c1:=vN u t hu ht ha hl
 have c2:P5 [H8 u] []=some (.tup [.int n, .i (.lit .nilIface)],[]):=by
  show tst (decide ((ByteArray.mk u.toArray).size≤281474976710656)) (AFC [] (Lib.atoiAll u))=_;have:u.length≤281474976710656:=by simp at hl;omega
  rw[hn];simp only[bsz,this,decide_true];rfl
 rw[aF rfl Tryz.func59 rfl rfl];simp[c1,c2]
end Go.Proofs.YtmcjmafajkeecaaGreatDoor.P
namespace Go.Av
theorem AN1 {a b:Int} (ha:3≤a) (ha':a≤11) (hb:3≤b) (hb':b≤11) (h:a≠b):(nmE a == nmE b)=false:=by
 have h1:a=3∨a=4∨a=5∨a=6∨a=7∨a=8∨a=9∨a=10∨a=11:=by omega
 have h2:b=3∨b=4∨b=5∨b=6∨b=7∨b=8∨b=9∨b=10∨b=11:=by omega
 rcases h1 with rfl|rfl|rfl|rfl|rfl|rfl|rfl|rfl|rfl<;>rcases h2 with rfl|rfl|rfl|rfl|rfl|rfl|rfl|rfl|rfl<;>first|rfl|exact absurd rfl h
theorem AGB {a b:Int} (ha:1≤a) (ha':a≤8) (hb:1≤b) (hb':b≤8) (h:a≠b):(nmP a == nmP b)=false:=by
 have h1:a=1∨a=2∨a=3∨a=4∨a=5∨a=6∨a=7∨a=8:=by omega
 have h2:b=1∨b=2∨b=3∨b=4∨b=5∨b=6∨b=7∨b=8:=by omega
 rcases h1 with rfl|rfl|rfl|rfl|rfl|rfl|rfl|rfl<;>rcases h2 with rfl|rfl|rfl|rfl|rfl|rfl|rfl|rfl<;>first|rfl|exact absurd rfl h
theorem DV {a:Int} (ha:3≤a) (ha':a≤11):(nmE a).all rY=true∧ascii (nmE a)=true∧∃ c r,nmE a=c::r∧c≠35∧c≠40:=by
 have h1:a=3∨a=4∨a=5∨a=6∨a=7∨a=8∨a=9∨a=10∨a=11:=by omega
 rcases h1 with rfl|rfl|rfl|rfl|rfl|rfl|rfl|rfl|rfl<;>exact⟨rfl,rfl,_,_,rfl,by decide,by decide⟩
theorem DU {a:Int} (ha:1≤a) (ha':a≤8):(nmP a).all rY=true∧ascii (nmP a)=true:=by
 have h1:a=1∨a=2∨a=3∨a=4∨a=5∨a=6∨a=7∨a=8:=by omega
 rcases h1 with rfl|rfl|rfl|rfl|rfl|rfl|rfl|rfl<;>exact⟨rfl,rfl⟩
theorem aU (a b:List UInt8):ascii (a++b)=(ascii a && ascii b):=by simp[ascii]
theorem mY {n:Int} (h0:0≤n) (h:n<10):(dgI n).all rY=true∧ascii (dgI n)=true∧Lib.atoiAll (dgI n)=.ok n∧∃ c,dgI n=[c]∧c≠35∧c≠40:=by
 have h1:n=0∨n=1∨n=2∨n=3∨n=4∨n=5∨n=6∨n=7∨n=8∨n=9:=by omega
 rw[mD h0 h]
 rcases h1 with rfl|rfl|rfl|rfl|rfl|rfl|rfl|rfl|rfl|rfl<;>exact⟨by decide,by decide,by decide,_,rfl,by decide,by decide⟩
end Go.Av
namespace Go.Proofs.YtmcjmafajkeecaaGreatDoor.P
open Go Go.Av
set_option maxRecDepth 4000
set_option maxHeartbeats 4000000
@[simp] theorem AK0 (a:List AV) (st:StL):aH CD 92 a st=aH C0 92 a st:=by rw[aN (p:=aH C0 92) rfl]
@[simp] theorem AJZ (a:List AV) (st:StL):aH CD 57 a st=aH C0 57 a st:=by rw[aN (p:=aH C0 57) rfl]
def KDX (f:FuncId) (a b:Int) (w t:List UInt8) (i:Nat):AS :=
 { env:=[(0, .own 0 0),(1, .int a),(2, .int b),(3, .fn (.func f) []),(8, .int 0),(9,H8 w),(10, .int (a+i)),(16,jk i (.bool true)),(23,jk i (.bool false))],st:=[sB t] }
theorem AEG {k:Int} (h0:3≤k) (h1:k≤11) (t:List UInt8) (ht:sN t=true) (ha:ascii t=true) (hl:(nmE k++t).length<1000000000):aH CD 56 [.own 0 0, .int 3, .int 11, .fn (.func 92) []] [sB (nmE k++t)]=some (.int k,[sB t]):=by
 obtain⟨p1,p2,_⟩:=DV h0 h1;have c1:=vN (nmE k) t p1 ht (by rw[aU,p2,ha];rfl) hl;have hq:=sM;rw[aF rfl Tryz.func56 rfl rfl];simp[c1];rw[aW (KDX 92 3 11 (nmE k) t) (k-3).toNat (by simp[KDX])]
 ·have e3:(3:Int)+(((k-3).toNat:Nat):Int)=k:=by omega
  have hnm:=tT h0 h1;rw[aD];simp only[KDX,e3];simp[h1,hnm,hq]
 ·intro i hi;have hi1:(3:Int)+i≤11:=by omega
  have hnm:=tT (k:=3+i) (by omega) hi1;have hne:=AN1 (a:=3+i) (b:=k) (by omega) hi1 h0 h1 (by omega);have w2:IntKind.i64.wrap ((3:Int)+(i:Int)+1)=3+i+1:=wrO;have e4:(3:Int)+((i:Int)+1)=3+i+1:=by omega
  simp only[KDX];simp[hi1,hnm,hq,hne,w2,e4]
theorem mX {k:Int} (h0:1≤k) (h1:k≤8) (t:List UInt8) (ht:sN t=true) (ha:ascii t=true) (hl:(nmP k++t).length<1000000000):aH CD 56 [.own 0 0, .int 1, .int 8, .fn (.func 57) []] [sB (nmP k++t)]=some (.int k,[sB t]):=by
 obtain⟨p1,p2⟩:=DU h0 h1;have c1:=vN (nmP k) t p1 ht (by rw[aU,p2,ha];rfl) hl;have hq:=sM;rw[aF rfl Tryz.func56 rfl rfl];simp[c1];rw[aW (KDX 57 1 8 (nmP k) t) (k-1).toNat (by simp[KDX])]
 ·have e3:(1:Int)+(((k-1).toNat:Nat):Int)=k:=by omega
  have hnm:=iV h0 h1;rw[aD];simp only[KDX,e3];simp[h1,hnm,hq]
 ·intro i hi;have hi1:(1:Int)+i≤8:=by omega
  have hnm:=iV (k:=1+i) (by omega) hi1;have hne:=AGB (a:=1+i) (b:=k) (by omega) hi1 h0 h1 (by omega);have w2:IntKind.i64.wrap ((1:Int)+(i:Int)+1)=1+i+1:=wrO;have e4:(1:Int)+((i:Int)+1)=1+i+1:=by omega
  simp only[KDX];simp[hi1,hnm,hq,hne,w2,e4]
@[simp] theorem AO3 (a:List AV) (st:StL):aH CD 23 a st=aH C0 23 a st:=by rw[aN (p:=aH C0 23) rfl]
@[simp] theorem ART (a:List AV) (st:StL):aH CD 97 a st=aH C0 97 a st:=by rw[aN (p:=aH C0 97) rfl]
theorem AJE (n:Int):aH C0 23 [.int n] []=some (.i (.agg [.bool false, .int n]),[]):=by
 rw[aF rfl Tryz.func23 rfl rfl];simp
theorem AER:aH CD 91 [H8 [48]] []=some (.tup [.i (.agg [.bool false, .int 0]), .bool true],[]):=by
 have hq:=sM;have hq2:=ZA
 have c1:P5 [H8 [48]] []=some (.tup [.int 0, .i (.lit .nilIface)],[]):=by
  show tst (decide ((ByteArray.mk [(48:UInt8)].toArray).size≤281474976710656)) (AFC [] (Lib.atoiAll [48]))=_;have:Lib.atoiAll [48]=.ok 0:=by decide
  rw[this];rfl
 have c2:=AJE 0;have c3:=ANT;have z1:=hq [48] [110,117,108,108];have z2:=hq2 [48] [48];simp at c1 c3 z1 z2;rw[aF rfl Tryz.func91 rfl rfl];simp[c1,c2,c3,z1,z2]
@[simp] theorem AO5 (a:List AV) (st:StL):aH CD 90 a st=aH C0 90 a st:=by rw[aN (p:=aH C0 90) rfl]
@[simp] theorem AK1 (a:List AV) (st:StL):aH CD 22 a st=aH C0 22 a st:=by rw[aN (p:=aH C0 22) rfl]
@[simp] theorem AO4 (a:List AV) (st:StL):aH CD 93 a st=aH C0 93 a st:=by rw[aN (p:=aH C0 93) rfl]
@[simp] theorem APN (a:List AV) (st:StL):aH CD 58 a st=aH C0 58 a st:=by rw[aN (p:=aH C0 58) rfl]
theorem AJH (n:Int):aH C0 90 [.int n] []=some (.i (.agg [.int 1, .int n, .bool false, .int 0, .isl []]),[]):=by
 rw[aF rfl Tryz.func90 rfl rfl];simp
theorem AES (b:Bool) (n:Int):aH C0 22 [.i (.agg [.bool b, .int n])] []=some (.i (.agg [.int 2, .int 0, .bool b, .int n, .isl []]),[]):=by
 rw[aF rfl Tryz.func22 rfl rfl];simp
set_option maxHeartbeats 2000000
def only (k t:Int) (es:List Ex) (cs:List Int) (ks:List Pn):Bool:=decide (1≤k∧k≤8) && (decide ((ks.length:Int)=eX k) && (decide ((es.length:Int)=if k=3 then(es.length:Int)else bU k) && ((decide (t=0) || decide (k=1)) && (decide (cs=[]) || decide (k=8)))))
theorem dZ (k t:Int) (es:List Ex) (cs:List Int) (ks:List Pn):aH C0 79 [.i (.agg [.int k, .int t, .isl (Ex.aA es), .isl (aI cs), .isl (Pn.aA ks)])] []=some (.bool (only k t es cs ks),[]):=by
 rw[aF rfl Tryz.func79 rfl rfl]
 rcases pX k with rfl|rfl|rfl|rfl|rfl|rfl|rfl|rfl|h
 case inr.inr.inr.inr.inr.inr.inr.inr =>
  have h1:¬ (1≤k∧k≤8):=by omega
  simp[h.1,h.2.1,h.2.2.1,h.2.2.2.1,h.2.2.2.2.1,h.2.2.2.2.2.1,h1,only]
 case inr.inr.inl =>
  by_cases c1:(ks.length:Int)=1
  case neg=>simp[c1,only]
  by_cases c3:t=0
  case neg=>simp[c1,c3,only]
  by_cases c5:cs=[]<;>simp[c1,c3,c5,only,aI]
 case inl =>
  by_cases c1:ks=[]
  case neg=>simp[c1,only]
  by_cases c2:es=[]
  case neg=>simp[c1,c2,only]
  by_cases c3:t=0<;>by_cases c5:cs=[]<;>simp[c1,c2,c3,c5,only,aI,Ex.aA,Pn.aA]
 case inr.inl =>
  by_cases c1:(ks.length:Int)=1
  case neg=>simp[c1,only]
  by_cases c2:(es.length:Int)=1
  case neg=>simp[c1,c2,only]
  by_cases c3:t=0
  case neg=>simp[c1,c2,c3,only]
  by_cases c5:cs=[]<;>simp[c1,c2,c3,c5,only,aI]
 case inr.inr.inr.inl =>
  by_cases c1:(ks.length:Int)=2
  case neg=>simp[c1,only]
  by_cases c2:(es.length:Int)=1
  case neg=>simp[c1,c2,only]
  by_cases c3:t=0
  case neg=>simp[c1,c2,c3,only]
  by_cases c5:cs=[]<;>simp[c1,c2,c3,c5,only,aI]
 case inr.inr.inr.inr.inl =>
  by_cases c1:(ks.length:Int)=2
  case neg=>simp[c1,only]
  by_cases c2:(es.length:Int)=1
  case neg=>simp[c1,c2,only]
  by_cases c3:t=0
  case neg=>simp[c1,c2,c3,only]
  by_cases c5:cs=[]<;>simp[c1,c2,c3,c5,only,aI]
 case inr.inr.inr.inr.inr.inl =>
  by_cases c1:(ks.length:Int)=2
  case neg=>simp[c1,only]
  by_cases c2:es=[]
  case neg=>simp[c1,c2,only]
  by_cases c3:t=0
  case neg=>simp[c1,c2,c3,only]
  by_cases c5:cs=[]<;>simp[c1,c2,c3,c5,only,aI,Ex.aA]
 case inr.inr.inr.inr.inr.inr.inl =>
  by_cases c1:(ks.length:Int)=1
  case neg=>simp[c1,only]
  by_cases c2:es=[]
  case neg=>simp[c1,c2,only]
  by_cases c3:t=0
  case neg=>simp[c1,c2,c3,only]
  by_cases c5:cs=[]<;>simp[c1,c2,c3,c5,only,aI,Ex.aA]
 case inr.inr.inr.inr.inr.inr.inr.inl =>
  by_cases c1:(ks.length:Int)=1
  case neg=>simp[c1,only]
  by_cases c2:es=[]
  case neg=>simp[c1,c2,only]
  by_cases c3:t=0
  case neg=>simp[c1,c2,c3,only]
  by_cases c5:cs=[]<;>simp[c1,c2,c3,c5,only,aI,Ex.aA]
theorem AI1 {cs:List Int} {w:Int}:∀ {i:Nat},(∀ k,k<i→∃ x,(cs.zip (-1::cs))[k]?=some x∧x∈cs.zip (-1::cs)∧decide (x.2<x.1∧x.1<w)=true)→-1≤pv cs i∧(i≠0→0≤pv cs i)
 | 0,_=>by simp[pv]
 | i+1,h=>by
  obtain⟨x,h3,_,h4⟩:=h i (by omega);obtain⟨c1,c2⟩:=uY h3;rw[ZT c1];have hb:x.2<x.1∧x.1<w:=by simpa using h4
  have:=AI1 (i:=i) fun k hk=>h k (by omega)
  omega
def CX (cs:List Int) (w:Int) (i:Nat):AS :=
 { env:=[(0, .i (.isl (aI cs))),(1, .int w),(4, .bool false),(5, .int i),(9,jk i (.bool true)),(35,jk i (.bool false))],st:=[] }
theorem M4 (cs:List Int) (w:Int) (hl:cs.length<9223372036854775808) (hw:0≤w∧w≤6):aH C0 82 [.i (.isl (aI cs)), .int w] []=some (.bool (nV w cs),[]):=by
 rw[aF rfl Tryz.func82 rfl rfl];have w1:IntKind.i64.wrap (w-1)=w-1:=wrO;simp;obtain⟨j,h1,h2⟩:=kD (fun x:Int×Int=>decide (x.2<x.1∧x.1<w)) (cs.zip (-1::cs));rw[aW (CX cs w) j (by simp[CX])]
 ·rw[aD]
  rcases h2 with ⟨hj,ha⟩|⟨x,h3,_,h4,ha⟩
  ·rw[U6]at hj;have ha:nV w cs=true:=ha;simp[CX,hj,ha]
  ·obtain⟨c1,c2⟩:=uY h3;have r1:=(zX.1 c1).1;have r2:=dL c1;have hb:¬ (x.2<x.1∧x.1<w):=by simpa using h4
   have ha:nV w cs=false:=ha;have hp:=AI1 (i:=j) h1;by_cases hin:0≤x.1∧x.1≤w-1
   ·have hj:j≠0:=fun h=>by subst h;simp[pv]at c2;omega
    obtain⟨j,rfl⟩:∃ i,j=i+1:=⟨j-1,by omega⟩
    have q1:cs[j]?=some x.2:=by
     have:pv cs (j+1)=x.2:=c2;simp only[pv,zA7]at this;rw[zT (by omega)]at this ⊢;simpa using this
    have q2:=dL q1;have w4:IntKind.i64.wrap ((j:Int)+1-1)=j:=by rw[wrO];omega
    have w5:IntKind.i64.wrap ((j:Int))=j:=by rw[wrO]
    simp[CX,r1,r2,w1,hin,ha,q2,w4,w5,show(0:Int)<j+1 by omega,show x.1≤x.2 by omega,show(0:Int)≤(j:Int)+1 by omega,show j<cs.length by omega,show((j:Int)+1<cs.length)by omega]
   ·simp[CX,r1,r2,w1,hin,ha]
 ·intro i hi;obtain⟨x,h3,_,h4⟩:=h1 i hi;obtain⟨c1,c2⟩:=uY h3;have r1:=(zX.1 c1).1;have r2:=dL c1;have hb:x.2<x.1∧x.1<w:=by simpa using h4
  have hp:=AI1 (i:=i) fun k hk=>h1 k (by omega)
  have hin:0≤x.1∧x.1≤w-1:=by omega
  have w2:IntKind.i64.wrap ((i:Int)+1)=i+1:=wrO;by_cases h0:i=0
  ·subst h0;simp[CX,r1,r2,w1,hin,bL]
  ·obtain⟨i,rfl⟩:∃ j,i=j+1:=⟨i-1,by omega⟩
   have q1:cs[i]?=some x.2:=by
    have:pv cs (i+1)=x.2:=c2;simp only[pv,zA7]at this;rw[zT (by omega)]at this ⊢;simpa using this
   have q2:=dL q1;have w5:IntKind.i64.wrap ((i:Int))=i:=by rw[wrO]
   have w2':IntKind.i64.wrap ((i:Int)+1+1)=i+1+1:=wrO;simp[CX,r1,r2,w1,hin,q2,w5,w2',show(0:Int)<i+1 by omega,show ¬ x.1≤x.2 by omega,show(0:Int)≤(i:Int)+1 by omega,show i<cs.length by omega,show((i:Int)+1<cs.length)by omega]
def pW (es:List Ex) (w:Int):Int:=if es.all (Ex.ok w)=true∧es.length≤6 then(es.length:Int)else 0
def QX (es:List Ex) (w:Int) (i:Nat):AS :=
 { env:=[(0, .i (.isl (Ex.aA es))),(1, .int w),(4, .int 0),(5, .int i),(9,jk i (.bool true)),(18,jk i (.bool false)),(21, .junk)],st:=[] }
theorem DL (es:List Ex) (w:Int) (hl:es.length<9223372036854775808):aH C0 81 [.i (.isl (Ex.aA es)), .int w] []=some (.int (pW es w),[]):=by
 rw[aF rfl Tryz.func81 rfl rfl];simp;obtain⟨j,h1,h2⟩:=kD (Ex.ok w) es;rw[aW (QX es w) j (by simp[QX])]
 ·rw[aD]
  rcases h2 with ⟨hj,hall⟩|⟨x,h3,_,h5,hall⟩
  ·by_cases h6:es.length≤6
   ·have hq:pW es w=es.length:=if_pos ⟨hall,h6⟩;simp[QX,hj,hq,show ¬ (6:Int)<es.length by omega]
   ·have hq:pW es w=0:=if_neg fun h=>h6 h.2
    simp[QX,hj,hq,show(6:Int)<es.length by omega]
  ·have r1:=(zX.1 h3).1;have r2:=Ex.aS h3;have r3:=ML w x;rw[h5]at r3;rw[Ex.aB]at r2 r3;have hq:pW es w=0:=if_neg fun h=>by rw[hall]at h;simp at h
   simp[QX,r1,r2,r3,hq]
 ·intro i hi;obtain⟨x,h3,_,h5⟩:=h1 i hi;have r1:=(zX.1 h3).1;have r2:=Ex.aS h3;have r3:=ML w x;rw[h5]at r3;rw[Ex.aB]at r2 r3;have w2:IntKind.i64.wrap ((i:Int)+1)=i+1:=wrO;simp[QX,r1,r2,r3,w2]
def UX (ws:List Int) (i:Nat):AS :=
 { env:=[(0, .i (.isl (aI ws))),(2, .bool false),(3, .int i),(7,jk i (.bool true)),(15,jk i (.bool false))],st:=[] }
theorem CK (ws:List Int) (hl:ws.length<9223372036854775808):aH C0 47 [.i (.isl (aI ws))] []=some (.bool (LK ws),[]):=by
 rw[aF rfl Tryz.func47 rfl rfl];simp;obtain⟨j,h1',h2⟩:=kD cK ws;rw[aW (UX ws) j (by simp[UX])]
 ·rw[aD]
  rcases h2 with ⟨hj,ha⟩|⟨x,h3,_,h5,ha⟩
  ·by_cases h4:1≤ws.length∧ws.length≤4
   ·simp[UX,hj,LK,h4,ha,show(1:Int)≤ws.length∧(ws.length:Int)≤4 by omega]
   ·simp[UX,hj,LK,h4,ha,show ¬ ((1:Int)≤ws.length∧(ws.length:Int)≤4)by omega]
  ·have r1:=(zX.1 h3).1;have r2:=dL h3;have h5:¬ (1≤x∧x≤6):=by simpa [cK]using h5
   simp[UX,r1,r2,h5,LK,ha]
 ·intro i hi;obtain⟨x,h3,_,h5⟩:=h1' i hi;have r1:=(zX.1 h3).1;have r2:=dL h3;have h5:1≤x∧x≤6:=by simpa [cK]using h5
  have w2:IntKind.i64.wrap ((i:Int)+1)=i+1:=wrO;simp[UX,r1,r2,h5,w2]
theorem AD3 {ws:List Int} {k t:Int} {es:List Ex} {cs:List Int} {ks:List Pn} {lv:Nat} (h:¬ (only k t es cs ks=true∧(ks=[]∨lv≠0))):aH C0 48 [.i (.agg [.int k, .int t, .isl (Ex.aA es), .isl (aI cs), .isl (Pn.aA ks)]), .i (.isl (aI ws)), .int lv] []=some (.int 0,[]):=by
 rw[aF rfl Tryz.func48 rfl rfl];have ho:=dZ k t es cs ks
 cases hq:only k t es cs ks with
 | false=>rw[hq]at ho;simp[ho]
 | true =>
  rw[hq]at ho;by_cases hk:ks=[]
  ·exact absurd ⟨hq, .inl hk⟩ h
  by_cases hl:lv=0
  ·have:0<ks.length:=y9.2 hk;subst hl;simp[ho,hk,this]
  ·exact absurd ⟨hq, .inr hl⟩ h
theorem VD {ws:List Int} {lv:Nat} {t:Int} (ho:only 1 t [] [] []=true) (hw:ws.length<1000000000):aH C0 48 [.i (.agg [.int 1, .int t, .isl (Ex.aA []), .isl (aI []), .isl (Pn.aA [])]), .i (.isl (aI ws)), .int lv] []=some (.int (if 0≤t then(ws[t.toNat]?).getD 0 else 0),[]):=by
 rw[aF rfl Tryz.func48 rfl rfl];have hf:=dZ 1 t [] [] [];rw[ho]at hf;have w1:IntKind.i64.wrap ((ws.length:Int)-1)=ws.length-1:=wrO;simp only[Ex.aA,Pn.aA,aI]at hf ⊢;simp[hf,w1];rw[aD];by_cases h0:0≤t
 case neg=>simp[h0,w1]
 cases hx:ws[t.toNat]? with
 | none =>
  have:=List.getElem?_eq_none_iff.1 hx;simp[h0,w1,show ¬ t≤ws.length-1 by omega]
 | some x =>
  have r1:=(zX.1 hx).1;have r2:=dL hx;simp[h0,w1,show t≤ws.length-1 by omega,show t<ws.length by omega,r2]
theorem VC {ws:List Int} {lv:Nat} {a:Pn} {va:Int} {e:Ex} (ho:only 2 0 [e] [] [a]=true) (hl:lv≠0) (hl8:lv≤8) (ha:aH C0 48 [.i (.agg a.cells), .i (.isl (aI ws)), .int (lv-1:Nat)] []=some (.int va,[])) (ra:0≤va∧va≤6):aH C0 48 [.i (.agg [.int 2, .int 0, .isl (Ex.aA [e]), .isl (aI []), .isl (Pn.aA [a])]), .i (.isl (aI ws)), .int lv] []=some (.int (if va=0 then 0 else if e.ok va=true then va else 0),[]):=by
 rw[aF rfl Tryz.func48 rfl rfl];have hf:=dZ 2 0 [e] [] [a];rw[ho]at hf;have c3':¬ (lv:Int)=0:=by omega
 have w1:IntKind.i64.wrap ((lv:Int)-1)=(lv-1:Nat):=by rw[wrO];omega
 have w2:IntKind.i64.wrap (1:Int)=1:=bL;have w3:IntKind.i64.wrap (2:Int)=2:=wrO;have r0:iP [a.cells] 0=some a.cells:=rfl;simp only[Pn.aA,aI,Ex.aA]at hf ⊢;have q0:iP [e.cells] 0=some e.cells:=rfl;have qe:=ML (va) e;rw[Ex.aB e]at q0 qe hf ⊢;rw[Pn.aB a]at ha r0 hf ⊢;simp[hf,hl,c3'];rw[aD];by_cases z1:va=0
 case pos=>simp[w1,ha,r0,z1]
 simp[w1,w2,ha,r0,z1];rw[aD]
 cases hv:e.ok va<;>rw[hv]at qe<;>simp[z1,q0,qe]
theorem HZ {ws:List Int} {lv:Nat} {a:Pn} {va:Int} {es:List Ex} (ho:only 3 0 es [] [a]=true) (hl:lv≠0) (hl8:lv≤8) (ha:aH C0 48 [.i (.agg a.cells), .i (.isl (aI ws)), .int (lv-1:Nat)] []=some (.int va,[])) (ra:0≤va∧va≤6) (he:es.length<9223372036854775808):aH C0 48 [.i (.agg [.int 3, .int 0, .isl (Ex.aA es), .isl (aI []), .isl (Pn.aA [a])]), .i (.isl (aI ws)), .int lv] []=some (.int (if va=0 then 0 else pW es va),[]):=by
 rw[aF rfl Tryz.func48 rfl rfl];have hf:=dZ 3 0 es [] [a];rw[ho]at hf;have c3':¬ (lv:Int)=0:=by omega
 have w1:IntKind.i64.wrap ((lv:Int)-1)=(lv-1:Nat):=by rw[wrO];omega
 have w2:IntKind.i64.wrap (1:Int)=1:=bL;have w3:IntKind.i64.wrap (2:Int)=2:=wrO;have r0:iP [a.cells] 0=some a.cells:=rfl;simp only[Pn.aA,aI,Ex.aA]at hf ⊢;rw[Pn.aB a]at ha r0 hf ⊢;simp[hf,hl,c3'];rw[aD];by_cases z1:va=0
 case pos=>simp[w1,ha,r0,z1]
 simp[w1,w2,ha,r0,z1];rw[aD];have hp:=DL es va he;simp[z1,hp]
theorem VB {ws:List Int} {lv:Nat} {a:Pn} {va:Int} {b:Pn} {vb:Int} {e:Ex} (ho:only 4 0 [e] [] [a,b]=true) (hl:lv≠0) (hl8:lv≤8) (ha:aH C0 48 [.i (.agg a.cells), .i (.isl (aI ws)), .int (lv-1:Nat)] []=some (.int va,[])) (ra:0≤va∧va≤6) (hb:aH C0 48 [.i (.agg b.cells), .i (.isl (aI ws)), .int (lv-1:Nat)] []=some (.int vb,[])) (rb:0≤vb∧vb≤6):aH C0 48 [.i (.agg [.int 4, .int 0, .isl (Ex.aA [e]), .isl (aI []), .isl (Pn.aA [a,b])]), .i (.isl (aI ws)), .int lv] []=some (.int (if va=0∨vb=0 then 0 else if va+vb≤6∧e.ok (va+vb)=true then va+vb else 0),[]):=by
 rw[aF rfl Tryz.func48 rfl rfl];have hf:=dZ 4 0 [e] [] [a,b];rw[ho]at hf;have c3':¬ (lv:Int)=0:=by omega
 have w1:IntKind.i64.wrap ((lv:Int)-1)=(lv-1:Nat):=by rw[wrO];omega
 have w2:IntKind.i64.wrap (1:Int)=1:=bL;have w3:IntKind.i64.wrap (2:Int)=2:=wrO;have r0:iP [a.cells,b.cells] 0=some a.cells:=rfl;have r1:iP [a.cells,b.cells] 1=some b.cells:=rfl;simp only[Pn.aA,aI,Ex.aA]at hf ⊢;have q0:iP [e.cells] 0=some e.cells:=rfl;have qe:=ML (va+vb) e;rw[Ex.aB e]at q0 qe hf ⊢;rw[Pn.aB a]at ha r0 hf ⊢;rw[Pn.aB a]at r1;rw[Pn.aB b]at hb r0 r1 hf ⊢;simp[hf,hl,c3'];rw[aD];by_cases z1:va=0
 case pos=>simp[w1,ha,r0,z1]
 simp[w1,w2,ha,r0,z1];rw[aD];by_cases z2:vb=0
 case pos=>simp[w1,hb,r1,z2]
 simp[w1,hb,r1,z1,z2,w2,w3];rw[aD];have w4:IntKind.i64.wrap (va+vb)=va+vb:=wrO;by_cases h6:va+vb≤6
 ·cases hv:e.ok (va+vb)<;>rw[hv]at qe<;>simp[z1,z2,q0,qe,w4,h6]
 ·simp[z1,z2,w4,h6]
theorem VA {ws:List Int} {lv:Nat} {a:Pn} {va:Int} {b:Pn} {vb:Int} {e:Ex} (ho:only 5 0 [e] [] [a,b]=true) (hl:lv≠0) (hl8:lv≤8) (ha:aH C0 48 [.i (.agg a.cells), .i (.isl (aI ws)), .int (lv-1:Nat)] []=some (.int va,[])) (ra:0≤va∧va≤6) (hb:aH C0 48 [.i (.agg b.cells), .i (.isl (aI ws)), .int (lv-1:Nat)] []=some (.int vb,[])) (rb:0≤vb∧vb≤6):aH C0 48 [.i (.agg [.int 5, .int 0, .isl (Ex.aA [e]), .isl (aI []), .isl (Pn.aA [a,b])]), .i (.isl (aI ws)), .int lv] []=some (.int (if va=0∨vb=0 then 0 else if va+vb≤6∧e.ok (va+vb)=true then va+vb else 0),[]):=by
 rw[aF rfl Tryz.func48 rfl rfl];have hf:=dZ 5 0 [e] [] [a,b];rw[ho]at hf;have c3':¬ (lv:Int)=0:=by omega
 have w1:IntKind.i64.wrap ((lv:Int)-1)=(lv-1:Nat):=by rw[wrO];omega
 have w2:IntKind.i64.wrap (1:Int)=1:=bL;have w3:IntKind.i64.wrap (2:Int)=2:=wrO;have r0:iP [a.cells,b.cells] 0=some a.cells:=rfl;have r1:iP [a.cells,b.cells] 1=some b.cells:=rfl;simp only[Pn.aA,aI,Ex.aA]at hf ⊢;have q0:iP [e.cells] 0=some e.cells:=rfl;have qe:=ML (va+vb) e;rw[Ex.aB e]at q0 qe hf ⊢;rw[Pn.aB a]at ha r0 hf ⊢;rw[Pn.aB a]at r1;rw[Pn.aB b]at hb r0 r1 hf ⊢;simp[hf,hl,c3'];rw[aD];by_cases z1:va=0
 case pos=>simp[w1,ha,r0,z1]
 simp[w1,w2,ha,r0,z1];rw[aD];by_cases z2:vb=0
 case pos=>simp[w1,hb,r1,z2]
 simp[w1,hb,r1,z1,z2,w2,w3];rw[aD];have w4:IntKind.i64.wrap (va+vb)=va+vb:=wrO;by_cases h6:va+vb≤6
 ·cases hv:e.ok (va+vb)<;>rw[hv]at qe<;>simp[z1,z2,q0,qe,w4,h6]
 ·simp[z1,z2,w4,h6]
theorem V9 {ws:List Int} {lv:Nat} {a:Pn} {va:Int} {b:Pn} {vb:Int} (ho:only 6 0 [] [] [a,b]=true) (hl:lv≠0) (hl8:lv≤8) (ha:aH C0 48 [.i (.agg a.cells), .i (.isl (aI ws)), .int (lv-1:Nat)] []=some (.int va,[])) (ra:0≤va∧va≤6) (hb:aH C0 48 [.i (.agg b.cells), .i (.isl (aI ws)), .int (lv-1:Nat)] []=some (.int vb,[])) (rb:0≤vb∧vb≤6):aH C0 48 [.i (.agg [.int 6, .int 0, .isl (Ex.aA []), .isl (aI []), .isl (Pn.aA [a,b])]), .i (.isl (aI ws)), .int lv] []=some (.int (if va=0∨vb=0 then 0 else if va=vb then va else 0),[]):=by
 rw[aF rfl Tryz.func48 rfl rfl];have hf:=dZ 6 0 [] [] [a,b];rw[ho]at hf;have c3':¬ (lv:Int)=0:=by omega
 have w1:IntKind.i64.wrap ((lv:Int)-1)=(lv-1:Nat):=by rw[wrO];omega
 have w2:IntKind.i64.wrap (1:Int)=1:=bL;have w3:IntKind.i64.wrap (2:Int)=2:=wrO;have r0:iP [a.cells,b.cells] 0=some a.cells:=rfl;have r1:iP [a.cells,b.cells] 1=some b.cells:=rfl;simp only[Pn.aA,aI,Ex.aA]at hf ⊢;rw[Pn.aB a]at ha r0 hf ⊢;rw[Pn.aB a]at r1;rw[Pn.aB b]at hb r0 r1 hf ⊢;simp[hf,hl,c3'];rw[aD];by_cases z1:va=0
 case pos=>simp[w1,ha,r0,z1]
 simp[w1,w2,ha,r0,z1];rw[aD];by_cases z2:vb=0
 case pos=>simp[w1,hb,r1,z2]
 simp[w1,hb,r1,z1,z2,w2,w3];rw[aD];by_cases h6:va=vb<;>simp[z1,z2,h6]
theorem V8 {ws:List Int} {lv:Nat} {a:Pn} {va:Int} (ho:only 7 0 [] [] [a]=true) (hl:lv≠0) (hl8:lv≤8) (ha:aH C0 48 [.i (.agg a.cells), .i (.isl (aI ws)), .int (lv-1:Nat)] []=some (.int va,[])) (ra:0≤va∧va≤6):aH C0 48 [.i (.agg [.int 7, .int 0, .isl (Ex.aA []), .isl (aI []), .isl (Pn.aA [a])]), .i (.isl (aI ws)), .int lv] []=some (.int (if va=0 then 0 else va),[]):=by
 rw[aF rfl Tryz.func48 rfl rfl];have hf:=dZ 7 0 [] [] [a];rw[ho]at hf;have c3':¬ (lv:Int)=0:=by omega
 have w1:IntKind.i64.wrap ((lv:Int)-1)=(lv-1:Nat):=by rw[wrO];omega
 have w2:IntKind.i64.wrap (1:Int)=1:=bL;have w3:IntKind.i64.wrap (2:Int)=2:=wrO;have r0:iP [a.cells] 0=some a.cells:=rfl;simp only[Pn.aA,aI,Ex.aA]at hf ⊢;rw[Pn.aB a]at ha r0 hf ⊢;simp[hf,hl,c3'];rw[aD];by_cases z1:va=0
 case pos=>simp[w1,ha,r0,z1]
 simp[w1,w2,ha,r0,z1];rw[aD];simp[z1]
theorem V7 {ws:List Int} {lv:Nat} {a:Pn} {va:Int} {cs:List Int} (ho:only 8 0 [] cs [a]=true) (hl:lv≠0) (hl8:lv≤8) (ha:aH C0 48 [.i (.agg a.cells), .i (.isl (aI ws)), .int (lv-1:Nat)] []=some (.int va,[])) (ra:0≤va∧va≤6) (hc:cs.length<9223372036854775808):aH C0 48 [.i (.agg [.int 8, .int 0, .isl (Ex.aA []), .isl (aI cs), .isl (Pn.aA [a])]), .i (.isl (aI ws)), .int lv] []=some (.int (if va=0 then 0 else if cs.length<6∧nV va cs=true then(cs.length:Int)+1 else 0),[]):=by
 rw[aF rfl Tryz.func48 rfl rfl];have hf:=dZ 8 0 [] cs [a];rw[ho]at hf;have c3':¬ (lv:Int)=0:=by omega
 have w1:IntKind.i64.wrap ((lv:Int)-1)=(lv-1:Nat):=by rw[wrO];omega
 have w2:IntKind.i64.wrap (1:Int)=1:=bL;have w3:IntKind.i64.wrap (2:Int)=2:=wrO;have r0:iP [a.cells] 0=some a.cells:=rfl;simp only[Pn.aA,aI,Ex.aA]at hf ⊢;rw[Pn.aB a]at ha r0 hf ⊢;simp[hf,hl,c3'];rw[aD];by_cases z1:va=0
 case pos=>simp[w1,ha,r0,z1]
 simp[w1,w2,ha,r0,z1];rw[aD];have hp:=M4 cs va hc ra;by_cases h6:cs.length<6
 ·have w5:IntKind.i64.wrap ((cs.length:Int)+1)=cs.length+1:=wrO
  cases hv:nV va cs<;>rw[hv]at hp<;>simp[z1,hp,h6,show(cs.length:Int)<6 by omega,w5]
 ·cases hv:nV va cs<;>rw[hv]at hp<;>simp[z1,hp,h6,show ¬ (cs.length:Int)<6 by omega]
theorem TA (k t:Int) (es:List Ex) (cs:List Int) (ks:List Pn):only k t es cs ks=true↔((1≤k∧k≤8)∧(ks.length:Int)=eX k∧((es.length:Int)=if k=3 then(es.length:Int)else bU k)∧(t=0∨k=1)∧(cs=[]∨k=8)):=by
 unfold only;simp only[zW,yB,zN]
theorem o9 {ws:List Int} (hw:∀ w∈ws,0≤w∧w≤6) (hwl:ws.length<1000000000):∀ (p:Pn),p.lim→∀ (lv:Nat),lv≤8→aH C0 48 [.i (.agg p.cells), .i (.isl (aI ws)), .int lv] []=some (.int (p.wd ws lv),[]):=by
 intro p
 induction p using Pn.ind with
 | h k t es cs ks ih =>
  intro hp lv hlv;have hp:=(Pn.EC _).1 hp;simp only[Pn.bZ,Pn.eT,Pn.gW]at hp;obtain⟨he,hc,-,hks⟩:=hp;rw[Pn.bD];have hr:=fun a=>Pn.kY hw a (lv-1)
  by_cases ho:only k t es cs ks=true∧(ks=[]∨lv≠0)
  case neg =>
   rw[AD3 ho,Pn.AH3];intro hh;apply ho;refine⟨?_,hh.2⟩;have h:=(lI k t es cs ks).1 hh.1;rw[TA];refine⟨?_,h.1,?_,h.2.2.1.symm,h.2.2.2.symm⟩
   ·rcases DX k with h1|h1|h1|h1<;>omega
   ·by_cases h3:k=3
    ·rw[if_pos h3]
    ·have:=h.2.1;rw[if_neg fun h=>h3 h.1]at this;rw[if_neg h3];exact this
  have hoo:=ho.1;have hq:=(TA k t es cs ks).1 ho.1;obtain⟨h0,h1,h2,h3,h4⟩:=hq;have h5:=ho.2;by_cases hd:Pn.headOk (.mk k t es cs ks)=true
  case neg =>
   rw[Pn.AH3 fun h=>hd h.1]
   have hk3:k=3∧¬ cK es.length=true∧(es.length:Int)≠1:=by
    by_cases hk:k=3
    ·refine⟨hk,?_,?_⟩
     ·intro hv;exact hd ((lI k t es cs ks).2 ⟨h1,by rw[if_pos ⟨hk,hv⟩],h3.symm,h4.symm⟩)
     ·intro hv;have:cK es.length=true:=by rw[hv];decide
      exact hd ((lI k t es cs ks).2 ⟨h1,by rw[if_pos ⟨hk,this⟩],h3.symm,h4.symm⟩)
    ·exact absurd ((lI k t es cs ks).2 ⟨h1,by rw[if_neg fun h=>hk h.1];rwa [if_neg hk]at h2,h3.symm,h4.symm⟩) hd
   obtain⟨rfl,hv,hv1⟩:=hk3;obtain⟨a,rfl⟩:=kU (by simpa using h1);obtain rfl:cs=[]:=by simpa using h4
   obtain rfl:t=0:=by simpa using h3
   have hl:lv≠0:=by simpa using h5
   rw[HZ hoo hl hlv (ih a (by simp) (hks a (by simp)) (lv-1) (by omega)) (hr a) he]
   have:pW es (a.wd ws (lv-1))=0:=by
    unfold pW;split
    ·rename_i h;have:¬ (1≤(es.length:Int)∧(es.length:Int)≤6):=by simpa [cK]using hv
     omega
    ·rfl
   simp[this]
  have hx:=Pn.sI ws lv (.mk k t es cs ks);rw[if_pos (by simpa using (⟨hd,h5⟩:_∧_))]at hx;simp only[Pn.eO,Pn.iR,Pn.bZ,Pn.eT,Pn.gW]at hx;rw[hx]
  rcases pX k with rfl|rfl|rfl|rfl|rfl|rfl|rfl|rfl|h
  ·obtain rfl:=gL (by simpa using h1);obtain rfl:es=[]:=gL (by simpa using h2);obtain rfl:cs=[]:=by simpa using h4
   exact VD hoo hwl
  ·obtain⟨a,rfl⟩:=kU (by simpa using h1);obtain⟨e,rfl⟩:=kU (by simpa using h2);obtain rfl:cs=[]:=by simpa using h4
   obtain rfl:t=0:=by simpa using h3
   have hl:lv≠0:=by simpa using h5
   rw[VC hoo hl hlv (ih a (by simp) (hks a (by simp)) (lv-1) (by omega)) (hr a)];by_cases z:a.wd ws (lv-1)=0<;>simp[z,bR]
  ·obtain⟨a,rfl⟩:=kU (by simpa using h1);obtain rfl:cs=[]:=by simpa using h4
   obtain rfl:t=0:=by simpa using h3
   have hl:lv≠0:=by simpa using h5
   rw[HZ hoo hl hlv (ih a (by simp) (hks a (by simp)) (lv-1) (by omega)) (hr a) he];have h6:=Pn.kP hd;simp only[Pn.bZ]at h6;by_cases z:a.wd ws (lv-1)=0<;>simp[z,bR,pW,h6]
  ·obtain⟨a,b,rfl⟩:=vY (by simpa using h1);obtain⟨e,rfl⟩:=kU (by simpa using h2);obtain rfl:cs=[]:=by simpa using h4
   obtain rfl:t=0:=by simpa using h3
   have hl:lv≠0:=by simpa using h5
   rw[VB hoo hl hlv (ih a (by simp) (hks a (by simp)) (lv-1) (by omega)) (hr a) (ih b (by simp) (hks b (by simp)) (lv-1) (by omega)) (hr b)];by_cases z:a.wd ws (lv-1)=0<;>by_cases z2:b.wd ws (lv-1)=0<;>simp[z,z2,bR]
  ·obtain⟨a,b,rfl⟩:=vY (by simpa using h1);obtain⟨e,rfl⟩:=kU (by simpa using h2);obtain rfl:cs=[]:=by simpa using h4
   obtain rfl:t=0:=by simpa using h3
   have hl:lv≠0:=by simpa using h5
   rw[VA hoo hl hlv (ih a (by simp) (hks a (by simp)) (lv-1) (by omega)) (hr a) (ih b (by simp) (hks b (by simp)) (lv-1) (by omega)) (hr b)];by_cases z:a.wd ws (lv-1)=0<;>by_cases z2:b.wd ws (lv-1)=0<;>simp[z,z2,bR]
  ·obtain⟨a,b,rfl⟩:=vY (by simpa using h1);obtain rfl:es=[]:=gL (by simpa using h2);obtain rfl:cs=[]:=by simpa using h4
   obtain rfl:t=0:=by simpa using h3
   have hl:lv≠0:=by simpa using h5
   rw[V9 hoo hl hlv (ih a (by simp) (hks a (by simp)) (lv-1) (by omega)) (hr a) (ih b (by simp) (hks b (by simp)) (lv-1) (by omega)) (hr b)];by_cases z:a.wd ws (lv-1)=0<;>by_cases z2:b.wd ws (lv-1)=0<;>simp[z,z2,bR]
  ·obtain⟨a,rfl⟩:=kU (by simpa using h1);obtain rfl:es=[]:=gL (by simpa using h2);obtain rfl:cs=[]:=by simpa using h4
   obtain rfl:t=0:=by simpa using h3
   have hl:lv≠0:=by simpa using h5
   rw[V8 hoo hl hlv (ih a (by simp) (hks a (by simp)) (lv-1) (by omega)) (hr a)];by_cases z:a.wd ws (lv-1)=0<;>simp[z,bR]
  ·obtain⟨a,rfl⟩:=kU (by simpa using h1);obtain rfl:es=[]:=gL (by simpa using h2);obtain rfl:t=0:=by simpa using h3
   have hl:lv≠0:=by simpa using h5
   rw[V7 hoo hl hlv (ih a (by simp) (hks a (by simp)) (lv-1) (by omega)) (hr a) hc];by_cases z:a.wd ws (lv-1)=0<;>simp[z,bR]
  ·omega
theorem UI (p:Pn) (hp:p.lim) (ws:List Int) (hl:ws.length<9223372036854775808):aH C0 25 [.i (.agg p.cells), .i (.isl (aI ws))] []=some (.int (p.width ws),[]):=by
 rw[aF rfl Tryz.func25 rfl rfl];have hv:=CK ws hl
 cases h:LK ws with
 | false=>rw[h]at hv;rw[Pn.aB];simp[hv,Pn.width,h]
 | true =>
  rw[h]at hv;have h4:ws.length≤4:=by simp[LK]at h;omega
  have hb:=o9 (IG h) (by omega) p hp 8 (by omega);rw[show((8:Nat):Int)=8 from rfl]at hb;rw[Pn.aB]at hb ⊢;simp[hv,Pn.width,h,hb]
def EX (a b:Ex) (i:Nat):AS :=
 { env:=[(0, .i (.iref [.int a.kind, .int a.col, .bool a.val.null, .int a.val.n, .isl (Ex.aA a.kids)])),(1, .i (.iref [.int b.kind, .int b.col, .bool b.val.null, .int b.val.n, .isl (Ex.aA b.kids)])),(4, .bool false),(5,jk i (.int (i-1))),(49, .bool false),(54, .int a.kids.length),(55, .int i),(56,jk i (.bool true)),(71,jk i (.bool false))],st:=[] }
def HX (p q:Pn) (n m:Nat) (i j k:AV) (x51 x65 x70 x83 x88 x102:AV):AS :=
 { env:=[(0, .i (.agg [.int p.kind, .int p.table, .isl (Ex.aA p.exprs), .isl (aI p.cols), .isl (Pn.aA p.kids)])),(1, .i (.agg [.int q.kind, .int q.table, .isl (Ex.aA q.exprs), .isl (aI q.cols), .isl (Pn.aA q.kids)])),(2, .own 0 0),(3, .own 1 0),(4, .bool false),(5,i),(6,j),(7,k),(46, .bool false),(51,x51),(65,x65),(70,x70),(83,x83),(88,x88),(102,x102)],
   st:=[some (.box [.int p.kind, .int p.table, .i (.isl (Ex.aA p.exprs)), .i (.isl (aI p.cols)), .i (.isl (Pn.aA p.kids))]),some (.box [.int q.kind, .int q.table, .i (.isl (Ex.aA q.exprs)), .i (.isl (aI q.cols)), .i (.isl (Pn.aA q.kids))])] }
def H1 (p q:Pn) (i:Nat):AS:=HX p q 0 0 (.int i) .junk .junk (jk i (.bool true)) (jk i (.bool false)) .junk .junk .junk .junk
def H2 (p q:Pn) (i:Nat):AS:=HX p q 0 0 (.int p.exprs.length) (.int i) .junk (.bool false) (jk p.exprs.length (.bool false)) (jk i (.bool true)) (jk i (.bool false)) .junk .junk
def KX (p:Pn) (i:Nat):AS :=
 { env:=[(0, .i (.agg [.int p.kind, .int p.table, .isl (Ex.aA p.exprs), .isl (aI p.cols), .isl (Pn.aA p.kids)])),(1, .own 0 0),(2, .own 1 0),(3, .own 2 0),(4, .int i),(5, .junk),(19,jk i (.bool true)),(37, .junk)],
   st:=some (.box [.int p.kind, .int p.table, .i (.isl (Ex.aA p.exprs)), .i (.isl (aI p.cols)), .i (.isl (Pn.aA p.kids))])::some (.box [.int 0, .int 0, .nils, .nils, .nils]) ::
    some (.box [.int p.kind, .int p.table,gro 3 5 i, .osl (if i=0 then 3 else 4) 1 0 p.cols.length, .nils])::(PQ 5 (Ex.aA (p.exprs.take i)) i++[some (.arr 1 (aI p.cols))]) }
def K2 (p:Pn) (i:Nat):AS :=
 { env:=[(0, .i (.agg [.int p.kind, .int p.table, .isl (Ex.aA p.exprs), .isl (aI p.cols), .isl (Pn.aA p.kids)])),(1, .own 0 0),(2, .own 1 0),(3, .own 2 0),(4, .int p.exprs.length),(5, .int i),(19, .bool false),(37,jk i (.bool true))],
   st:=some (.box [.int p.kind, .int p.table, .i (.isl (Ex.aA p.exprs)), .i (.isl (aI p.cols)), .i (.isl (Pn.aA p.kids))])::some (.box [.int 0, .int 0, .nils, .nils, .nils]) ::
    some (.box [.int p.kind, .int p.table,gro 3 5 p.exprs.length, .osl (if p.exprs.length=0 then 3 else 4) 1 0 p.cols.length,gro (if p.exprs.length=0 then 4 else 5) 5 i])::(PQ 5 (Ex.aA p.exprs) p.exprs.length++some (.arr 1 (aI p.cols))::PQ 5 (Pn.aA (p.kids.take i)) i) }
def pcX (p:Pn):AV:=.agg [.int p.kind, .int p.table,gro 0 5 p.exprs.length, .osl (if p.exprs.length=0 then 0 else 1) 1 0 p.cols.length,gro (if p.exprs.length=0 then 1 else 2) 5 p.kids.length]
def pcS (p:Pn):StL:=PQ 5 (Ex.aA p.exprs) p.exprs.length++some (.arr 1 (aI p.cols))::PQ 5 (Pn.aA p.kids) p.kids.length
theorem KY {p:Pn} (hp:p.thin) (ih:∀ a∈p.kids,aH C0 52 [.i (.agg a.cells)] []=some (pcX a,pcS a)) :
 aH C0 52 [.i (.agg p.cells)] []=some (pcX p,pcS p):=by
 have ht:=(Pn.dY _).1 hp;obtain⟨t1,t2,t3,t4,-⟩:=ht;rw[aF rfl Tryz.func52 rfl rfl,Pn.aB];by_cases hc:p.cols=[]
 ·simp[hc,aI];rw[aW (KX p) p.exprs.length (by simp[KX,hc,aI])]
  ·rw[aD]
   cases hn:p.exprs.length with
   | zero =>
    have he:p.exprs=[]:=zZ.1 hn;simp[KX,he,hc,aI,Ex.aA];rw[aW (K2 p) p.kids.length (by simp[K2,he,hc,aI,Ex.aA])]
    ·rw[aD]
     cases hm:p.kids.length with
     | zero =>
      have hk:p.kids=[]:=zZ.1 hm;simp[K2,he,hc,aI,hk,Ex.aA,Pn.aA,pcX,pcS]
     | succ m =>
      have hk:p.kids.take (m+1)=p.kids:=zY (by omega);simp[K2,he,hc,aI,hm,hk,Ex.aA,pcX,pcS]
    ·intro i hi;have h3:=zT hi;have hc':=ih _ (zU h3);have r2:=Pn.aS h3;generalize p.kids[i]=a at h3 hc' r2;have w2:IntKind.i64.wrap ((i:Int)+1)=i+1:=wrO;rw[Pn.aB]at r2 hc';simp only[pcX,pcS]at hc';have hl1:(i+1)*88≤140737488355328:=by omega
     have hl2:min i p.kids.length=i:=by omega
     by_cases a1:a.exprs=[]
     ·by_cases a2:a.kids=[]
      ·simp[a1,a2,Ex.aA,Pn.aA]at hc' r2;by_cases h0:i=0
       ·subst h0;simp[K2,he,hc,aI,hi,r2,hc',bL,aL h3,Ex.aA,Pn.aA,Pn.aB a,a1,a2]
       ·simp[K2,he,hc,aI,aQ h0,aJ h0,eP h0,hi,r2,hc',w2,aL h3,Ex.aA,Pn.aA,Pn.bB,hl1,hl2,zF,Pn.aB a,h0,a1,a2]
      ·have a2':a.kids.length≠0:=fun h=>a2 (zZ.1 h)
       simp[a1,aQ a2',aJ a2',a2,Ex.aA,Pn.aA]at hc' r2;by_cases h0:i=0
       ·subst h0;simp[K2,he,hc,aI,hi,r2,hc',bL,aL h3,Ex.aA,Pn.aA,Pn.aB a,a1,aQ a2',aJ a2',a2]
       ·simp[K2,he,hc,aI,aQ h0,aJ h0,eP h0,hi,r2,hc',w2,aL h3,Ex.aA,Pn.aA,Pn.bB,hl1,hl2,zF,Pn.aB a,h0,a1,aQ a2',aJ a2',a2]
     ·by_cases a2:a.kids=[]
      ·have a1':a.exprs.length≠0:=fun h=>a1 (zZ.1 h)
       simp[aQ a1',aJ a1',a1,a2,Ex.aA,Pn.aA]at hc' r2;by_cases h0:i=0
       ·subst h0;simp[K2,he,hc,aI,hi,r2,hc',bL,aL h3,Ex.aA,Pn.aA,Pn.aB a,aQ a1',aJ a1',a1,a2]
       ·simp[K2,he,hc,aI,aQ h0,aJ h0,eP h0,hi,r2,hc',w2,aL h3,Ex.aA,Pn.aA,Pn.bB,hl1,hl2,zF,Pn.aB a,h0,aQ a1',aJ a1',a1,a2]
      ·have a1':a.exprs.length≠0:=fun h=>a1 (zZ.1 h)
       have a2':a.kids.length≠0:=fun h=>a2 (zZ.1 h)
       simp[aQ a1',aJ a1',a1,aQ a2',aJ a2',a2,Ex.aA,Pn.aA]at hc' r2;by_cases h0:i=0
       ·subst h0;simp[K2,he,hc,aI,hi,r2,hc',bL,aL h3,Ex.aA,Pn.aA,Pn.aB a,aQ a1',aJ a1',a1,aQ a2',aJ a2',a2]
       ·simp[K2,he,hc,aI,aQ h0,aJ h0,eP h0,hi,r2,hc',w2,aL h3,Ex.aA,Pn.aA,Pn.bB,hl1,hl2,zF,Pn.aB a,h0,aQ a1',aJ a1',a1,aQ a2',aJ a2',a2]
   | succ n =>
    have he:p.exprs.take (n+1)=p.exprs:=zY (by omega);simp[KX,hn,he,hc,aI];rw[aW (K2 p) p.kids.length (by simp[K2,hn,hc,aI,Ex.aA])]
    ·rw[aD]
     cases hm:p.kids.length with
     | zero =>
      have hk:p.kids=[]:=zZ.1 hm;simp[K2,hn,hc,aI,hk,Ex.aA,Pn.aA,pcX,pcS]
     | succ m =>
      have hk:p.kids.take (m+1)=p.kids:=zY (by omega);simp[K2,hn,hc,aI,hm,hk,Ex.aA,pcX,pcS]
    ·intro i hi;have h3:=zT hi;have hc':=ih _ (zU h3);have r2:=Pn.aS h3;generalize p.kids[i]=a at h3 hc' r2;have w2:IntKind.i64.wrap ((i:Int)+1)=i+1:=wrO;rw[Pn.aB]at r2 hc';simp only[pcX,pcS]at hc';have hl1:(i+1)*88≤140737488355328:=by omega
     have hl2:min i p.kids.length=i:=by omega
     by_cases a1:a.exprs=[]
     ·by_cases a2:a.kids=[]
      ·simp[a1,a2,Ex.aA,Pn.aA]at hc' r2;by_cases h0:i=0
       ·subst h0;simp[K2,hn,hc,aI,hi,r2,hc',bL,aL h3,Ex.aA,Pn.aA,Pn.aB a,a1,a2]
       ·simp[K2,hn,hc,aI,aQ h0,aJ h0,eP h0,hi,r2,hc',w2,aL h3,Ex.aA,Pn.aA,Pn.bB,hl1,hl2,zF,Pn.aB a,h0,a1,a2]
      ·have a2':a.kids.length≠0:=fun h=>a2 (zZ.1 h)
       simp[a1,aQ a2',aJ a2',a2,Ex.aA,Pn.aA]at hc' r2;by_cases h0:i=0
       ·subst h0;simp[K2,hn,hc,aI,hi,r2,hc',bL,aL h3,Ex.aA,Pn.aA,Pn.aB a,a1,aQ a2',aJ a2',a2]
       ·simp[K2,hn,hc,aI,aQ h0,aJ h0,eP h0,hi,r2,hc',w2,aL h3,Ex.aA,Pn.aA,Pn.bB,hl1,hl2,zF,Pn.aB a,h0,a1,aQ a2',aJ a2',a2]
     ·by_cases a2:a.kids=[]
      ·have a1':a.exprs.length≠0:=fun h=>a1 (zZ.1 h)
       simp[aQ a1',aJ a1',a1,a2,Ex.aA,Pn.aA]at hc' r2;by_cases h0:i=0
       ·subst h0;simp[K2,hn,hc,aI,hi,r2,hc',bL,aL h3,Ex.aA,Pn.aA,Pn.aB a,aQ a1',aJ a1',a1,a2]
       ·simp[K2,hn,hc,aI,aQ h0,aJ h0,eP h0,hi,r2,hc',w2,aL h3,Ex.aA,Pn.aA,Pn.bB,hl1,hl2,zF,Pn.aB a,h0,aQ a1',aJ a1',a1,a2]
      ·have a1':a.exprs.length≠0:=fun h=>a1 (zZ.1 h)
       have a2':a.kids.length≠0:=fun h=>a2 (zZ.1 h)
       simp[aQ a1',aJ a1',a1,aQ a2',aJ a2',a2,Ex.aA,Pn.aA]at hc' r2;by_cases h0:i=0
       ·subst h0;simp[K2,hn,hc,aI,hi,r2,hc',bL,aL h3,Ex.aA,Pn.aA,Pn.aB a,aQ a1',aJ a1',a1,aQ a2',aJ a2',a2]
       ·simp[K2,hn,hc,aI,aQ h0,aJ h0,eP h0,hi,r2,hc',w2,aL h3,Ex.aA,Pn.aA,Pn.bB,hl1,hl2,zF,Pn.aB a,h0,aQ a1',aJ a1',a1,aQ a2',aJ a2',a2]
  ·intro i hi;have h3:=zT hi;have hc':=F7 _ (t2 _ (zU h3));have r2:=Ex.aS h3;generalize p.exprs[i]=a at h3 hc' r2;have w2:IntKind.i64.wrap ((i:Int)+1)=i+1:=wrO;rw[Ex.aB]at r2 hc';by_cases h0:i=0
   ·subst h0;simp[KX,hc,aI,hi,r2,hc',bL,aL h3,Ex.aA,Ex.aB a]
   ·simp[KX,hc,aI,aQ h0,aJ h0,eP h0,hi,r2,hc',w2,aL h3,Ex.bB,show min i p.exprs.length=i by omega,show(i+1)*56≤140737488355328 by omega,zF,Ex.aB a,h0]
 simp[hc,show p.cols.length*8≤140737488355328 by omega];rw[aW (KX p) p.exprs.length (by simp[KX,hc])]
 ·rw[aD]
  cases hn:p.exprs.length with
  | zero =>
   have he:p.exprs=[]:=zZ.1 hn;simp[KX,he,hc,Ex.aA];rw[aW (K2 p) p.kids.length (by simp[K2,he,hc,Ex.aA])]
   ·rw[aD]
    cases hm:p.kids.length with
    | zero =>
     have hk:p.kids=[]:=zZ.1 hm;simp[K2,he,hc,hk,Ex.aA,Pn.aA,pcX,pcS]
    | succ m =>
     have hk:p.kids.take (m+1)=p.kids:=zY (by omega);simp[K2,he,hc,hm,hk,Ex.aA,pcX,pcS]
   ·intro i hi;have h3:=zT hi;have hc':=ih _ (zU h3);have r2:=Pn.aS h3;generalize p.kids[i]=a at h3 hc' r2;have w2:IntKind.i64.wrap ((i:Int)+1)=i+1:=wrO;rw[Pn.aB]at r2 hc';simp only[pcX,pcS]at hc';have hl1:(i+1)*88≤140737488355328:=by omega
    have hl2:min i p.kids.length=i:=by omega
    by_cases a1:a.exprs=[]
    ·by_cases a2:a.kids=[]
     ·simp[a1,a2,Ex.aA,Pn.aA]at hc' r2;by_cases h0:i=0
      ·subst h0;simp[K2,he,hc,hi,r2,hc',bL,aL h3,Ex.aA,Pn.aA,Pn.aB a,a1,a2]
      ·simp[K2,he,hc,aQ h0,aJ h0,eP h0,hi,r2,hc',w2,aL h3,Ex.aA,Pn.aA,Pn.bB,hl1,hl2,zF,Pn.aB a,h0,a1,a2]
     ·have a2':a.kids.length≠0:=fun h=>a2 (zZ.1 h)
      simp[a1,aQ a2',aJ a2',a2,Ex.aA,Pn.aA]at hc' r2;by_cases h0:i=0
      ·subst h0;simp[K2,he,hc,hi,r2,hc',bL,aL h3,Ex.aA,Pn.aA,Pn.aB a,a1,aQ a2',aJ a2',a2]
      ·simp[K2,he,hc,aQ h0,aJ h0,eP h0,hi,r2,hc',w2,aL h3,Ex.aA,Pn.aA,Pn.bB,hl1,hl2,zF,Pn.aB a,h0,a1,aQ a2',aJ a2',a2]
    ·by_cases a2:a.kids=[]
     ·have a1':a.exprs.length≠0:=fun h=>a1 (zZ.1 h)
      simp[aQ a1',aJ a1',a1,a2,Ex.aA,Pn.aA]at hc' r2;by_cases h0:i=0
      ·subst h0;simp[K2,he,hc,hi,r2,hc',bL,aL h3,Ex.aA,Pn.aA,Pn.aB a,aQ a1',aJ a1',a1,a2]
      ·simp[K2,he,hc,aQ h0,aJ h0,eP h0,hi,r2,hc',w2,aL h3,Ex.aA,Pn.aA,Pn.bB,hl1,hl2,zF,Pn.aB a,h0,aQ a1',aJ a1',a1,a2]
     ·have a1':a.exprs.length≠0:=fun h=>a1 (zZ.1 h)
      have a2':a.kids.length≠0:=fun h=>a2 (zZ.1 h)
      simp[aQ a1',aJ a1',a1,aQ a2',aJ a2',a2,Ex.aA,Pn.aA]at hc' r2;by_cases h0:i=0
      ·subst h0;simp[K2,he,hc,hi,r2,hc',bL,aL h3,Ex.aA,Pn.aA,Pn.aB a,aQ a1',aJ a1',a1,aQ a2',aJ a2',a2]
      ·simp[K2,he,hc,aQ h0,aJ h0,eP h0,hi,r2,hc',w2,aL h3,Ex.aA,Pn.aA,Pn.bB,hl1,hl2,zF,Pn.aB a,h0,aQ a1',aJ a1',a1,aQ a2',aJ a2',a2]
  | succ n =>
   have he:p.exprs.take (n+1)=p.exprs:=zY (by omega);simp[KX,hn,he,hc];rw[aW (K2 p) p.kids.length (by simp[K2,hn,hc,Ex.aA])]
   ·rw[aD]
    cases hm:p.kids.length with
    | zero =>
     have hk:p.kids=[]:=zZ.1 hm;simp[K2,hn,hc,hk,Ex.aA,Pn.aA,pcX,pcS]
    | succ m =>
     have hk:p.kids.take (m+1)=p.kids:=zY (by omega);simp[K2,hn,hc,hm,hk,Ex.aA,pcX,pcS]
   ·intro i hi;have h3:=zT hi;have hc':=ih _ (zU h3);have r2:=Pn.aS h3;generalize p.kids[i]=a at h3 hc' r2;have w2:IntKind.i64.wrap ((i:Int)+1)=i+1:=wrO;rw[Pn.aB]at r2 hc';simp only[pcX,pcS]at hc';have hl1:(i+1)*88≤140737488355328:=by omega
    have hl2:min i p.kids.length=i:=by omega
    by_cases a1:a.exprs=[]
    ·by_cases a2:a.kids=[]
     ·simp[a1,a2,Ex.aA,Pn.aA]at hc' r2;by_cases h0:i=0
      ·subst h0;simp[K2,hn,hc,hi,r2,hc',bL,aL h3,Ex.aA,Pn.aA,Pn.aB a,a1,a2]
      ·simp[K2,hn,hc,aQ h0,aJ h0,eP h0,hi,r2,hc',w2,aL h3,Ex.aA,Pn.aA,Pn.bB,hl1,hl2,zF,Pn.aB a,h0,a1,a2]
     ·have a2':a.kids.length≠0:=fun h=>a2 (zZ.1 h)
      simp[a1,aQ a2',aJ a2',a2,Ex.aA,Pn.aA]at hc' r2;by_cases h0:i=0
      ·subst h0;simp[K2,hn,hc,hi,r2,hc',bL,aL h3,Ex.aA,Pn.aA,Pn.aB a,a1,aQ a2',aJ a2',a2]
      ·simp[K2,hn,hc,aQ h0,aJ h0,eP h0,hi,r2,hc',w2,aL h3,Ex.aA,Pn.aA,Pn.bB,hl1,hl2,zF,Pn.aB a,h0,a1,aQ a2',aJ a2',a2]
    ·by_cases a2:a.kids=[]
     ·have a1':a.exprs.length≠0:=fun h=>a1 (zZ.1 h)
      simp[aQ a1',aJ a1',a1,a2,Ex.aA,Pn.aA]at hc' r2;by_cases h0:i=0
      ·subst h0;simp[K2,hn,hc,hi,r2,hc',bL,aL h3,Ex.aA,Pn.aA,Pn.aB a,aQ a1',aJ a1',a1,a2]
      ·simp[K2,hn,hc,aQ h0,aJ h0,eP h0,hi,r2,hc',w2,aL h3,Ex.aA,Pn.aA,Pn.bB,hl1,hl2,zF,Pn.aB a,h0,aQ a1',aJ a1',a1,a2]
     ·have a1':a.exprs.length≠0:=fun h=>a1 (zZ.1 h)
      have a2':a.kids.length≠0:=fun h=>a2 (zZ.1 h)
      simp[aQ a1',aJ a1',a1,aQ a2',aJ a2',a2,Ex.aA,Pn.aA]at hc' r2;by_cases h0:i=0
      ·subst h0;simp[K2,hn,hc,hi,r2,hc',bL,aL h3,Ex.aA,Pn.aA,Pn.aB a,aQ a1',aJ a1',a1,aQ a2',aJ a2',a2]
      ·simp[K2,hn,hc,aQ h0,aJ h0,eP h0,hi,r2,hc',w2,aL h3,Ex.aA,Pn.aA,Pn.bB,hl1,hl2,zF,Pn.aB a,h0,aQ a1',aJ a1',a1,aQ a2',aJ a2',a2]
 ·intro i hi;have h3:=zT hi;have hc':=F7 _ (t2 _ (zU h3));have r2:=Ex.aS h3;generalize p.exprs[i]=a at h3 hc' r2;have w2:IntKind.i64.wrap ((i:Int)+1)=i+1:=wrO;rw[Ex.aB]at r2 hc';by_cases h0:i=0
  ·subst h0;simp[KX,hc,hi,r2,hc',bL,aL h3,Ex.aA,Ex.aB a]
  ·simp[KX,hc,aQ h0,aJ h0,eP h0,hi,r2,hc',w2,aL h3,Ex.bB,show min i p.exprs.length=i by omega,show(i+1)*56≤140737488355328 by omega,zF,Ex.aB a,h0]
theorem mF:∀ (p:Pn),p.thin→aH C0 52 [.i (.agg p.cells)] []=some (pcX p,pcS p):=by
 intro p
 induction p using Pn.ind with
 | h k t es cs ks ih =>
  intro ht;exact KY ht fun a ha=>ih a ha (((Pn.dY _).1 ht).2.2.2.2 a ha)
def vB (x:Bool) (v:Pn):Option Blk:=if x=true then some (.fbox v.cells)else some (.box (kW v.cells))
set_option maxHeartbeats 4000000
theorem TT {α:Type} {D R:List α} {y x:α} {i:Nat} (hD:D.length=i):(D++y::R).set i x=D++x::R:=by
 subst hD;simp
theorem nU {α:Type} {l:List α} {i:Nat} {a:α} (h:l[i]?=some a):l.drop i=a::l.drop (i+1):=by
 obtain⟨hl,rfl⟩:=zX.1 h;exact yL hl
end Go.Proofs.YtmcjmafajkeecaaGreatDoor.P
namespace Go.Av
theorem Ex.fI:∀ l:List Ex,Ex.PM l=l.map Ex.shp
 | []=>rfl
 | a::l=>by simp[Ex.PM,Ex.fI l]
theorem Pn.fI:∀ l:List Pn,Pn.PM l=l.map Pn.shp
 | []=>rfl
 | a::l=>by simp[Pn.PM,Pn.fI l]
theorem Ex.dS (e:Ex):e.shp=if e.kind=2 then .mk 2 0 ⟨false,0⟩ []else .mk e.kind e.col ⟨false,0⟩ (e.kids.map Ex.shp):=by
 obtain⟨k,c,v,ks⟩:=e;simp only[Ex.shp,Ex.kind,Ex.col,Ex.kids,Ex.fI];by_cases h:k=2<;>simp[h]
theorem Pn.dS (p:Pn):p.shp=.mk p.kind p.table (p.exprs.map Ex.shp) p.cols (p.kids.map Pn.shp):=by
 obtain⟨k,t,es,cs,ks⟩:=p;simp only[Pn.shp,Pn.kind,Pn.table,Pn.exprs,Pn.cols,Pn.kids,Ex.fI,Pn.fI]
@[simp] theorem Ex.ADG (l:List Ex):(Ex.PM l).length=l.length:=by simp[Ex.fI]
@[simp] theorem Pn.ADG (l:List Pn):(Pn.PM l).length=l.length:=by simp[Pn.fI]
def FU (l:List Ex) (i:Nat):List (List IV):=Ex.aA ((l.take i).map Ex.shp++l.drop i)
def LM (l:List Pn) (i:Nat):List (List IV):=Pn.aA ((l.take i).map Pn.shp++l.drop i)
end Go.Av
namespace Go.Proofs.YtmcjmafajkeecaaGreatDoor.P
open Go Go.Av
set_option maxRecDepth 4000
set_option maxHeartbeats 4000000
theorem qC (l:List Ex):FU l 0=Ex.aA l:=by simp[FU]
theorem iH (l:List Ex):FU l l.length=Ex.aA (l.map Ex.shp):=by simp[FU]
@[simp] theorem AE5 (l:List Ex) (i:Nat):(FU l i).length=l.length:=by simp[FU];omega
theorem KF {l:List Ex} {i:Nat} {a:Ex} (h:l[i]?=some a):(FU l i).set i a.shp.cells=FU l (i+1):=by
 have hl:=(zX.1 h).1;unfold FU;rw[nU h,aL h,yG,Ex.fC,yR,Ex.fC];simp only[Ex.aA,yQ,List.map_nil,yT,yS];exact TT (by simp;omega)
theorem KG {l:List Ex} {i:Nat} {a:Ex} (h:l[i]?=some a):iP (FU l i) i=some a.cells:=by
 have hl:=(zX.1 h).1;unfold FU;apply Ex.aS;rw[zB (by simp;omega),nU h];simp;rw[show i-min i l.length=0 by omega];rfl
theorem qB (l:List Pn):LM l 0=Pn.aA l:=by simp[LM]
theorem uS (l:List Pn):LM l l.length=Pn.aA (l.map Pn.shp):=by simp[LM]
@[simp] theorem AE3 (l:List Pn) (i:Nat):(LM l i).length=l.length:=by simp[LM];omega
theorem KE {l:List Pn} {i:Nat} {a:Pn} (h:l[i]?=some a):(LM l i).set i a.shp.cells=LM l (i+1):=by
 have hl:=(zX.1 h).1;unfold LM;rw[nU h,aL h,yG,Pn.fC,yR,Pn.fC];simp only[Pn.aA,yQ,List.map_nil,yT,yS];exact TT (by simp;omega)
theorem TC {l:List Pn} {i:Nat} {a:Pn} (h:l[i]?=some a):iP (LM l i) i=some a.cells:=by
 have hl:=(zX.1 h).1;unfold LM;apply Pn.aS;rw[zB (by simp;omega),nU h];simp;rw[show i-min i l.length=0 by omega];rfl
def SHX (e:Ex) (i:Nat):AS :=
 { env:=[(0, .i (.agg [.int e.kind, .int e.col, .bool e.val.null, .int e.val.n, .isl (Ex.aA e.kids)])),(1, .own 0 0),(2, .own 1 0),(3, .own 2 0),(4, .int i),(7, .bool false),(19,jk i (.bool true))],
   st:=some (.box [.int e.kind, .int e.col, .bool e.val.null, .int e.val.n, .i (.isl (Ex.aA e.kids))])::some (.box [.int 0, .int 0, .bool false, .int 0, .nils]) ::
    some (.box [.int e.kind, .int e.col, .bool false, .int 0,gro 3 5 i])::PQ 5 (Ex.aA ((e.kids.take i).map Ex.shp)) i }
theorem PX {e:Ex} (hl:e.kids.length<1000000000) (ih:∀ a∈e.kids,aH C0 53 [.i (.agg a.cells)] []=some (.i (.agg a.shp.cells),[])) :
 aH C0 53 [.i (.agg e.cells)] []=some (.i (.agg e.shp.cells),[]):=by
 rw[aF rfl Tryz.func53 rfl rfl,Ex.aB e,Ex.dS e];by_cases h1:e.kind=2
 ·have hc:aH C0 86 [.i (.agg [.bool false, .int 0])] []=some (.i (.agg (Ex.mk 2 0 ⟨false,0⟩ []).cells),[]):=by
   rw[aF rfl Tryz.func86 rfl rfl];simp[Ex.cells,Ex.aA]
  simp[Ex.cells,Ex.aA]at hc;simp[h1,hc,Ex.cells,Ex.aA]
 ·simp[h1];rw[aW (SHX e) e.kids.length (by simp[SHX,h1])]
  ·rw[aD]
   cases hn:e.kids.length with
   | zero =>
    have:e.kids=[]:=zZ.1 hn;simp[SHX,this,Ex.aA,Ex.cells]
   | succ n =>
    have:e.kids.take (n+1)=e.kids:=zY (by omega);simp[SHX,hn,this,Ex.cells,← List.map_take]
  ·intro i hi;have h3:=zT hi;have hc:=ih _ (zU h3);have r2:=Ex.aS h3;generalize e.kids[i]=a at h3 hc r2;have w2:IntKind.i64.wrap ((i:Int)+1)=i+1:=wrO;have hx:∀ l:List (List IV),Ex.aA [a.shp]=[a.shp.cells]:=fun _=>rfl
   by_cases h0:i=0
   ·subst h0;simp[SHX,hi,r2,hc,bL,aL h3,Ex.aA]
   ·simp[SHX,aQ h0,aJ h0,eP h0,hi,r2,hc,w2,aL h3,Ex.bB,show min i e.kids.length=i by omega,show(i+1)*56≤140737488355328 by omega,← List.map_take,zF]
theorem MJ:∀ e:Ex,e.thin→aH C0 53 [.i (.agg e.cells)] []=some (.i (.agg e.shp.cells),[]):=by
 intro e
 induction e using Ex.ind with
 | h k c v ks ih =>
  intro ht;have ht':=(Ex.dY _).1 ht;exact PX ht'.1 fun a ha=>ih a ha (ht'.2 a ha)
def APW (p:Pn) (i:Nat):AS :=
 { env:=[(0, .i (.agg [.int p.kind, .int p.table, .isl (Ex.aA p.exprs), .isl (aI p.cols), .isl (Pn.aA p.kids)])),(1, .own 0 0),(2, .own 1 0),(3, .own 2 0),(4, .int i),(5, .junk),(12,jk i (.bool true)),(29, .junk)],
   st:=[some (.box [.int p.kind, .int p.table, .i (.isl (Ex.aA p.exprs)), .i (.isl (aI p.cols)), .i (.isl (Pn.aA p.kids))]),some (.box [.int 0, .int 0, .nils, .nils, .nils]),some (.box [.int p.kind, .int p.table, .osl 3 5 0 p.exprs.length, .osl 4 1 0 p.cols.length, .osl 5 5 0 p.kids.length]),some (.arr 5 (FU p.exprs i)),some (.arr 1 (aI p.cols)),some (.arr 5 (Pn.aA p.kids))] }
def APY (p:Pn) (i:Nat):AS :=
 { env:=[(0, .i (.agg [.int p.kind, .int p.table, .isl (Ex.aA p.exprs), .isl (aI p.cols), .isl (Pn.aA p.kids)])),(1, .own 0 0),(2, .own 1 0),(3, .own 2 0),(4, .int p.exprs.length),(5, .int i),(12, .bool false),(29,jk i (.bool true))],
   st:=[some (.box [.int p.kind, .int p.table, .i (.isl (Ex.aA p.exprs)), .i (.isl (aI p.cols)), .i (.isl (Pn.aA p.kids))]),some (.box [.int 0, .int 0, .nils, .nils, .nils]),some (.box [.int p.kind, .int p.table, .osl 3 5 0 p.exprs.length, .osl 4 1 0 p.cols.length, .osl 5 5 0 p.kids.length]),some (.arr 5 (FU p.exprs p.exprs.length)),some (.arr 1 (aI p.cols)),some (.arr 5 (LM p.kids i))] }
theorem V3 {p:Pn} (hp:p.thin) (he:p.exprs≠[]) (hk:p.kids≠[])
 (ih:∀ a∈p.kids,aH C0 27 [.i (.agg a.cells)] []=some (.i (.agg a.shp.cells),[])) :
 aH C0 27 [.i (.agg p.cells)] []=some (.i (.agg p.shp.cells),[]):=by
 have hc:=mF p hp;obtain⟨t1,t2,t3,t4,-⟩:=(Pn.dY _).1 hp;have hel:p.exprs.length≠0:=fun h=>he (zZ.1 h)
 have hkl:p.kids.length≠0:=fun h=>hk (zZ.1 h)
 simp[pcX,pcS,aQ hel,aJ hel,aQ hkl,aJ hkl,he,hk]at hc;rw[aF rfl Tryz.func27 rfl rfl,Pn.dS p];rw[Pn.aB p]at hc ⊢;simp only[Pn.cells];simp[hc];rw[aW (APW p) p.exprs.length (by simp[APW,qC])]
 ·rw[aD];simp only[APW,iH];simp;rw[aW (APY p) p.kids.length (by simp[APY,qB,iH])]
  ·rw[aD];simp only[APY,uS,iH];have z1:(Ex.aA (p.exprs.map Ex.shp)).take p.exprs.length=Ex.aA (p.exprs.map Ex.shp):=zY (by simp);have z2:(Pn.aA (p.kids.map Pn.shp)).take p.kids.length=Pn.aA (p.kids.map Pn.shp):=zY (by simp);have z3:(aI p.cols).take p.cols.length=aI p.cols:=zY (by simp);simp[← Ex.fI,← Pn.fI]at z1 z2 ⊢;simp[z1,z2,z3,he,hk]
  ·intro i hi;have h3:=zT hi;have hm:=zU h3;have hset:=KE h3;have hnt:=TC h3;generalize p.kids[i]=a at h3 hm hset hnt;have hkk:=ih a hm;have w2:IntKind.i64.wrap ((i:Int)+1)=i+1:=wrO;rw[Pn.aB a]at hkk hnt;rw[Pn.aB a.shp]at hkk hset;simp[APY,hi,hkk,w2,hset,hnt]
 ·intro i hi;have h3:=zT hi;have hm:=zU h3;have hset:=KF h3;have hnt:=KG h3;generalize p.exprs[i]=a at h3 hm hset hnt;have hkk:=MJ a (t2 a hm);have w2:IntKind.i64.wrap ((i:Int)+1)=i+1:=wrO;rw[Ex.aB a]at hkk hnt;rw[Ex.aB a.shp]at hkk hset;simp[APW,hi,hkk,w2,hset,hnt]
def APX (p:Pn) (i:Nat):AS :=
 { env:=[(0, .i (.agg [.int p.kind, .int p.table, .isl (Ex.aA p.exprs), .isl (aI p.cols), .isl (Pn.aA p.kids)])),(1, .own 0 0),(2, .own 1 0),(3, .own 2 0),(4, .int i),(5, .junk),(12,jk i (.bool true)),(29, .junk)],
   st:=[some (.box [.int p.kind, .int p.table, .i (.isl (Ex.aA p.exprs)), .i (.isl (aI p.cols)), .i (.isl (Pn.aA p.kids))]),some (.box [.int 0, .int 0, .nils, .nils, .nils]),some (.box [.int p.kind, .int p.table, .osl 3 5 0 p.exprs.length, .osl 4 1 0 p.cols.length, .nils]),some (.arr 5 (FU p.exprs i)),some (.arr 1 (aI p.cols))] }
def AS2 (p:Pn) (i:Nat):AS :=
 { env:=[(0, .i (.agg [.int p.kind, .int p.table, .isl (Ex.aA p.exprs), .isl (aI p.cols), .isl (Pn.aA p.kids)])),(1, .own 0 0),(2, .own 1 0),(3, .own 2 0),(4, .int p.exprs.length),(5, .int i),(12, .bool false),(29,jk i (.bool true))],
   st:=[some (.box [.int p.kind, .int p.table, .i (.isl (Ex.aA p.exprs)), .i (.isl (aI p.cols)), .i (.isl (Pn.aA p.kids))]),some (.box [.int 0, .int 0, .nils, .nils, .nils]),some (.box [.int p.kind, .int p.table, .osl 3 5 0 p.exprs.length, .osl 4 1 0 p.cols.length, .nils]),some (.arr 5 (FU p.exprs p.exprs.length)),some (.arr 1 (aI p.cols))] }
theorem V4 {p:Pn} (hp:p.thin) (he:p.exprs≠[]) (hk:p.kids=[])
 (ih:∀ a∈p.kids,aH C0 27 [.i (.agg a.cells)] []=some (.i (.agg a.shp.cells),[])) :
 aH C0 27 [.i (.agg p.cells)] []=some (.i (.agg p.shp.cells),[]):=by
 have hc:=mF p hp;obtain⟨t1,t2,t3,t4,-⟩:=(Pn.dY _).1 hp;have hel:p.exprs.length≠0:=fun h=>he (zZ.1 h)
 simp[pcX,pcS,aQ hel,aJ hel,he,hk,Pn.aA]at hc;rw[aF rfl Tryz.func27 rfl rfl,Pn.dS p];rw[Pn.aB p]at hc ⊢;simp only[Pn.cells];simp only[hk,Pn.aA]at hc ⊢;simp[hc];rw[aW (APX p) p.exprs.length (by simp[APX,qC,hk,Pn.aA])]
 ·rw[aD];simp only[APX,iH];simp[hk,Pn.aA];rw[aW (AS2 p) p.kids.length (by simp[AS2,qB,iH,hk,Pn.aA])]
  ·rw[aD];simp only[AS2,uS,iH];have z1:(Ex.aA (p.exprs.map Ex.shp)).take p.exprs.length=Ex.aA (p.exprs.map Ex.shp):=zY (by simp);have z2:(Pn.aA (p.kids.map Pn.shp)).take p.kids.length=Pn.aA (p.kids.map Pn.shp):=zY (by simp);have z3:(aI p.cols).take p.cols.length=aI p.cols:=zY (by simp);simp[← Ex.fI,← Pn.fI]at z1 z2 ⊢;simp[z1,z2,z3,he,hk,Pn.aA,Pn.PM]
  ·intro i hi;rw[hk]at hi;simp at hi
 ·intro i hi;have h3:=zT hi;have hm:=zU h3;have hset:=KF h3;have hnt:=KG h3;generalize p.exprs[i]=a at h3 hm hset hnt;have hkk:=MJ a (t2 a hm);have w2:IntKind.i64.wrap ((i:Int)+1)=i+1:=wrO;rw[Ex.aB a]at hkk hnt;rw[Ex.aB a.shp]at hkk hset;simp[APX,hi,hkk,w2,hset,hnt]
def AS0 (p:Pn) (i:Nat):AS :=
 { env:=[(0, .i (.agg [.int p.kind, .int p.table, .isl (Ex.aA p.exprs), .isl (aI p.cols), .isl (Pn.aA p.kids)])),(1, .own 0 0),(2, .own 1 0),(3, .own 2 0),(4, .int i),(5, .junk),(12,jk i (.bool true)),(29, .junk)],
   st:=[some (.box [.int p.kind, .int p.table, .i (.isl (Ex.aA p.exprs)), .i (.isl (aI p.cols)), .i (.isl (Pn.aA p.kids))]),some (.box [.int 0, .int 0, .nils, .nils, .nils]),some (.box [.int p.kind, .int p.table, .nils, .osl 3 1 0 p.cols.length, .osl 4 5 0 p.kids.length]),some (.arr 1 (aI p.cols)),some (.arr 5 (Pn.aA p.kids))] }
def APZ (p:Pn) (i:Nat):AS :=
 { env:=[(0, .i (.agg [.int p.kind, .int p.table, .isl (Ex.aA p.exprs), .isl (aI p.cols), .isl (Pn.aA p.kids)])),(1, .own 0 0),(2, .own 1 0),(3, .own 2 0),(4, .int p.exprs.length),(5, .int i),(12, .bool false),(29,jk i (.bool true))],
   st:=[some (.box [.int p.kind, .int p.table, .i (.isl (Ex.aA p.exprs)), .i (.isl (aI p.cols)), .i (.isl (Pn.aA p.kids))]),some (.box [.int 0, .int 0, .nils, .nils, .nils]),some (.box [.int p.kind, .int p.table, .nils, .osl 3 1 0 p.cols.length, .osl 4 5 0 p.kids.length]),some (.arr 1 (aI p.cols)),some (.arr 5 (LM p.kids i))] }
theorem V5 {p:Pn} (hp:p.thin) (he:p.exprs=[]) (hk:p.kids≠[])
 (ih:∀ a∈p.kids,aH C0 27 [.i (.agg a.cells)] []=some (.i (.agg a.shp.cells),[])) :
 aH C0 27 [.i (.agg p.cells)] []=some (.i (.agg p.shp.cells),[]):=by
 have hc:=mF p hp;obtain⟨t1,t2,t3,t4,-⟩:=(Pn.dY _).1 hp;have hkl:p.kids.length≠0:=fun h=>hk (zZ.1 h)
 simp[pcX,pcS,aQ hkl,aJ hkl,he,Ex.aA,hk]at hc;rw[aF rfl Tryz.func27 rfl rfl,Pn.dS p];rw[Pn.aB p]at hc ⊢;simp only[Pn.cells];simp only[he,Ex.aA]at hc ⊢;simp[hc];rw[aW (AS0 p) p.exprs.length (by simp[AS0,qC,he,Ex.aA])]
 ·rw[aD];simp only[AS0,iH];simp[he,Ex.aA];rw[aW (APZ p) p.kids.length (by simp[APZ,qB,iH,he,Ex.aA])]
  ·rw[aD];simp only[APZ,uS,iH];have z1:(Ex.aA (p.exprs.map Ex.shp)).take p.exprs.length=Ex.aA (p.exprs.map Ex.shp):=zY (by simp);have z2:(Pn.aA (p.kids.map Pn.shp)).take p.kids.length=Pn.aA (p.kids.map Pn.shp):=zY (by simp);have z3:(aI p.cols).take p.cols.length=aI p.cols:=zY (by simp);simp[← Ex.fI,← Pn.fI]at z1 z2 ⊢;simp[z1,z2,z3,he,hk,Ex.aA,Ex.PM]
  ·intro i hi;have h3:=zT hi;have hm:=zU h3;have hset:=KE h3;have hnt:=TC h3;generalize p.kids[i]=a at h3 hm hset hnt;have hkk:=ih a hm;have w2:IntKind.i64.wrap ((i:Int)+1)=i+1:=wrO;rw[Pn.aB a]at hkk hnt;rw[Pn.aB a.shp]at hkk hset;simp[APZ,hi,hkk,w2,hset,hnt]
 ·intro i hi;rw[he]at hi;simp at hi
def AS1 (p:Pn) (i:Nat):AS :=
 { env:=[(0, .i (.agg [.int p.kind, .int p.table, .isl (Ex.aA p.exprs), .isl (aI p.cols), .isl (Pn.aA p.kids)])),(1, .own 0 0),(2, .own 1 0),(3, .own 2 0),(4, .int i),(5, .junk),(12,jk i (.bool true)),(29, .junk)],
   st:=[some (.box [.int p.kind, .int p.table, .i (.isl (Ex.aA p.exprs)), .i (.isl (aI p.cols)), .i (.isl (Pn.aA p.kids))]),some (.box [.int 0, .int 0, .nils, .nils, .nils]),some (.box [.int p.kind, .int p.table, .nils, .osl 3 1 0 p.cols.length, .nils]),some (.arr 1 (aI p.cols))] }
def AS3 (p:Pn) (i:Nat):AS :=
 { env:=[(0, .i (.agg [.int p.kind, .int p.table, .isl (Ex.aA p.exprs), .isl (aI p.cols), .isl (Pn.aA p.kids)])),(1, .own 0 0),(2, .own 1 0),(3, .own 2 0),(4, .int p.exprs.length),(5, .int i),(12, .bool false),(29,jk i (.bool true))],
   st:=[some (.box [.int p.kind, .int p.table, .i (.isl (Ex.aA p.exprs)), .i (.isl (aI p.cols)), .i (.isl (Pn.aA p.kids))]),some (.box [.int 0, .int 0, .nils, .nils, .nils]),some (.box [.int p.kind, .int p.table, .nils, .osl 3 1 0 p.cols.length, .nils]),some (.arr 1 (aI p.cols))] }
theorem V6 {p:Pn} (hp:p.thin) (he:p.exprs=[]) (hk:p.kids=[])
 (ih:∀ a∈p.kids,aH C0 27 [.i (.agg a.cells)] []=some (.i (.agg a.shp.cells),[])) :
 aH C0 27 [.i (.agg p.cells)] []=some (.i (.agg p.shp.cells),[]):=by
 have hc:=mF p hp;obtain⟨t1,t2,t3,t4,-⟩:=(Pn.dY _).1 hp;simp[pcX,pcS,he,Ex.aA,hk,Pn.aA]at hc;rw[aF rfl Tryz.func27 rfl rfl,Pn.dS p];rw[Pn.aB p]at hc ⊢;simp only[Pn.cells];simp only[he,Ex.aA]at hc ⊢;simp only[hk,Pn.aA]at hc ⊢;simp[hc];rw[aW (AS1 p) p.exprs.length (by simp[AS1,qC,he,hk,Ex.aA,Pn.aA])]
 ·rw[aD];simp only[AS1,iH];simp[he,hk,Ex.aA,Pn.aA];rw[aW (AS3 p) p.kids.length (by simp[AS3,qB,iH,he,hk,Ex.aA,Pn.aA])]
  ·rw[aD];simp only[AS3,uS,iH];have z1:(Ex.aA (p.exprs.map Ex.shp)).take p.exprs.length=Ex.aA (p.exprs.map Ex.shp):=zY (by simp);have z2:(Pn.aA (p.kids.map Pn.shp)).take p.kids.length=Pn.aA (p.kids.map Pn.shp):=zY (by simp);have z3:(aI p.cols).take p.cols.length=aI p.cols:=zY (by simp);simp[← Ex.fI,← Pn.fI]at z1 z2 ⊢;simp[z1,z2,z3,he,hk,Ex.aA,Ex.PM,Pn.aA,Pn.PM]
  ·intro i hi;rw[hk]at hi;simp at hi
 ·intro i hi;rw[he]at hi;simp at hi
theorem UZ:∀ p:Pn,p.thin→aH C0 27 [.i (.agg p.cells)] []=some (.i (.agg p.shp.cells),[]):=by
 intro p
 induction p using Pn.ind with
 | h k t es cs ks ih =>
  intro ht;have ih2:∀ a∈(Pn.mk k t es cs ks).kids,aH C0 27 [.i (.agg a.cells)] []=some (.i (.agg a.shp.cells),[]):=fun a ha=>ih a ha (((Pn.dY _).1 ht).2.2.2.2 a ha)
  by_cases he:(Pn.mk k t es cs ks).exprs=[]
  ·by_cases hk:(Pn.mk k t es cs ks).kids=[]
   ·exact V6 ht he hk ih2
   ·exact V5 ht he hk ih2
  ·by_cases hk:(Pn.mk k t es cs ks).kids=[]
   ·exact V4 ht he hk ih2
   ·exact V3 ht he hk ih2
end Go.Proofs.YtmcjmafajkeecaaGreatDoor.P
namespace Go.Av
def Val.cmp (a b:Val):Int:=if a.null=true then(if b.null=true then 0 else -1)else if b.null=true then 1 else if a.n<b.n then -1 else if b.n<a.n then 1 else 0
def SH:List Val→List Val→Int
 | [],[]=>0
 | [],_::_=>-1
 | _::_,[]=>1
 | a::l,b::m=>if Val.cmp a b=0 then SH l m else Val.cmp a b
def AHS (a b:List Val):Bool:=decide (SH a b≤0)
def AUT (l:List (List Val)) (r:List Val):List (List Val):=l.takeWhile (fun x=>AHS x r)++r::l.dropWhile (fun x=>AHS x r)
def AQ5 (l:List (List Val)):List (List Val):=l.foldl AUT []
def AQ6 (l:List (List Val)):List (List IV):=l.map fun r=>[.isl (ALR r)]
structure Tbl where
 w:Int
 rows:List (List Val)
def Tbl.cells (t:Tbl):List IV:=[.int t.w, .isl (AQ6 t.rows)]
def tab (w:Int) (rows:List (List Val)):Tbl:=if 400<rows.length then⟨w,[]⟩else⟨w,AQ5 rows⟩
def chainB:List (List Val)→Bool
 | a::b::l=>AHS a b && chainB (b::l)
 | _=>true
def rowOk (w:Int) (r:List Val):Bool:=decide ((r.length:Int)=w) && r.all Val.ok
def Tbl.ok (t:Tbl):Bool:=cK t.w && (decide (t.rows.length≤400) && (t.rows.all (rowOk t.w) && chainB t.rows))
def isT (e:Ex) (r:List Val):Bool:=decide ((e.ev r).tr=2)
def AMX (n:Int):List Val:=List.replicate n.toNat ⟨true,0⟩
def ANL (e:Ex) (rs:List (List Val)) (r:List Val):List (List Val):=(rs.map (r ++ ·)).filter (isT e)
def joinL (e:Ex) (outer:Bool) (w:Int) (rs:List (List Val)) (r:List Val):List (List Val) :=
 if(outer && (ANL e rs r).isEmpty)=true then [r++AMX w]else ANL e rs r
def ANK (e:Ex) (outer:Bool) (a b:Tbl):List (List Val):=a.rows.flatMap (joinL e outer b.w b.rows)
def dd:List Val→List (List Val)→List (List Val)
 | _,[]=>[]
 | p,a::l=>if SH p a=0 then dd a l else a::dd a l
def ANU:List (List Val)→List (List Val)
 | []=>[]
 | a::l=>a::dd a l
def AQB (cs:List Int) (r:List Val):List Val:=cs.map fun c=>(r[c.toNat]?).getD Val.zero
def bump (key:List Val):List (List Val×Nat)→List (List Val×Nat)
 | []=>[(key,1)]
 | g::l=>if SH g.1 key=0 then(g.1,g.2+1)::l else g::bump key l
def groups (cs:List Int) (rows:List (List Val)):List (List Val×Nat):=rows.foldl (fun acc r=>bump (AQB cs r) acc) []
def AMW (g:List Val×Nat):List Val:=g.1++[⟨false,(g.2:Int)⟩]
def OA (cs:List Int) (rows:List (List Val)):List (List Val):=(groups cs rows).map AMW
def AHE:Tbl:=⟨0,[]⟩
def exO (es:List Ex):Ex:=(es[0]?).getD (.mk 0 0 Val.zero [])
def evK (db:List Tbl) (k t:Int) (es:List Ex) (cs:List Int) (a b:Tbl):Tbl :=
 if k=1 then tab ((db[t.toNat]?).getD AHE).w ((db[t.toNat]?).getD AHE).rows
 else if k=2 then tab a.w (a.rows.filter (isT (exO es)))
 else if k=3 then tab es.length (a.rows.map fun r=>es.map (Ex.ev r))
 else if k=4∨k=5 then tab (a.w+b.w) (ANK (exO es) (decide (k=5)) a b)
 else if k=6 then tab a.w (a.rows++b.rows)
 else if k=7 then tab a.w (ANU a.rows)
 else tab ((cs.length:Int)+1) (OA cs a.rows)
mutual
def Pn.evP (db:List Tbl):Pn→Tbl
 | .mk k t es cs ks=>evK db k t es cs (((Pn.AR6 db ks)[0]?).getD AHE) (((Pn.AR6 db ks)[1]?).getD AHE)
def Pn.AR6 (db:List Tbl):List Pn→List Tbl
 | []=>[]
 | p::ps=>Pn.evP db p::Pn.AR6 db ps
end
theorem JC {w:Int}:∀ {cs:List Int} (m:Int),((cs.zip (m::cs)).all fun x=>decide (x.2<x.1∧x.1<w))=true→(∀ c∈cs,m<c∧c<w)
 | [],m,_,c,hc=>by simp at hc
 | a::cs,m,h,c,hc=>by
  simp only[List.zip_cons_cons,List.all_cons,zW,zN]at h
  rcases zQ.1 hc with rfl|hc
  ·exact h.1
  ·have:=JC (w:=w) a h.2 c hc;omega
theorem XD {w:Int} {cs:List Int} (h:nV w cs=true):∀ c∈cs,0≤c∧c<w:=by
 intro c hc;have:=JC (w:=w) (-1) h c hc;omega
@[simp] theorem Ex.TM (k c:Int) (v:Val) (l:List Ex):(Ex.mk k c v l).kind=k:=rfl
@[simp] theorem Ex.AO0 (k c:Int) (v:Val) (l:List Ex):(Ex.mk k c v l).col=c:=rfl
@[simp] theorem Ex.ALS (k c:Int) (v:Val) (l:List Ex):(Ex.mk k c v l).val=v:=rfl
@[simp] theorem Ex.NZ (k c:Int) (v:Val) (l:List Ex):(Ex.mk k c v l).kids=l:=rfl
theorem rF {n:Int} (h0:0≤n) (h:n<10):(dgI n).length=1:=by rw[mD h0 h];rfl
theorem AN2 (k:Int):(nmE k).length≤4:=by
 unfold nmE;repeat' split
 all_goals simp
theorem AN0 (k:Int):(nmP k).length≤8:=by
 unfold nmP;repeat' split
 all_goals simp
theorem Ex.AQ2 {w:Int} (hw:w≤6):∀ (n:Nat) (e:Ex),e.vB w n=true→e.shp.tx∧(txE e.shp).length+8≤10*2 ^ n:=by
 intro n
 induction n with
 | zero =>
  intro e h;simp only[Ex.vB,zW,zN]at h;obtain⟨h1,h2,h3⟩:=h
  rcases Ex.jY w e with hf|⟨-,hc|hc|hc⟩
  ·rw[hf]at h3;cases h3
  ·obtain⟨c1,c2,c3,c4,c5,c6⟩:=hc;have hk:e.kids=[]:=zZ.1 (by omega);rw[Ex.dS,if_neg (by omega),hk];refine⟨(Ex.gJ _).2 (.inl ⟨by simpa using c1,by simpa using c2,by simp;omega⟩),?_⟩;rw[pR,if_pos (by simpa using c1)];have:=rF (n:=e.col) c2 (by omega);simp[this]
  ·obtain⟨c1,-⟩:=hc;rw[Ex.dS,if_pos c1];refine⟨(Ex.gJ _).2 (.inr (.inl ⟨rfl,rfl⟩)),?_⟩;rw[pR,if_neg (by simp),if_pos (by simp)];have:=rF (n:=0) (by omega) (by omega);simp[txV,this]
  ·exfalso;obtain⟨c1,c2,-⟩:=hc;unfold bT at h1 h2;rw[if_neg (by omega)]at h1 h2;split at h2
   ·omega
   ·split at h2
    ·omega
    ·rename_i q1 q2;rw[if_neg q1,if_neg q2]at h1;omega
 | succ n ih =>
  intro e h;have hp:1≤2 ^ n:=xU;simp only[Ex.vB,zW,zN]at h;obtain⟨h1,h3,h4⟩:=h
  rcases Ex.jY w e with hf|⟨-,hc|hc|hc⟩
  ·rw[hf]at h3;cases h3
  ·obtain⟨c1,c2,c3,c4,c5,c6⟩:=hc;have hk:e.kids=[]:=zZ.1 (by omega);rw[Ex.dS,if_neg (by omega),hk];refine⟨(Ex.gJ _).2 (.inl ⟨by simpa using c1,by simpa using c2,by simp;omega⟩),?_⟩;rw[pR,if_pos (by simpa using c1)];have:=rF (n:=e.col) c2 (by omega);simp[this];omega
  ·obtain⟨c1,-⟩:=hc;rw[Ex.dS,if_pos c1];refine⟨(Ex.gJ _).2 (.inr (.inl ⟨rfl,rfl⟩)),?_⟩;rw[pR,if_neg (by simp),if_pos (by simp)];have:=rF (n:=0) (by omega) (by omega);simp[txV,this];omega
  ·obtain⟨c1,c2,-⟩:=hc
   have hk:3≤e.kind∧e.kind≤11∧e.kids.length≤2:=by
    unfold bT at h1;rw[if_neg (by omega)]at h1;split at h1
    ·omega
    ·split at h1<;>omega
   have hall:∀ a∈e.kids,a.shp.tx∧(txE a.shp).length+8≤10*2 ^ n:=fun a ha=>ih a (zM.1 h4 a ha)
   rw[Ex.dS,if_neg (by omega)];refine⟨(Ex.gJ _).2 (.inr (.inr ⟨by simpa using hk.1,by simpa using hk.2.1,?_⟩)),?_⟩
   ·intro a ha;simp at ha;obtain⟨b,hb,rfl⟩:=ha;exact(hall b hb).1
   ·rw[pR,if_neg (by simpa using c1),if_neg (by simpa using c2)];have hn:=AN2 e.kind
    have hL:∀ l:List Ex,(∀ a∈l,(txE a.shp).length+8≤10*2 ^ n)→(gB (l.map Ex.shp)).length+7*l.length≤l.length*(10*2 ^ n):=by
     intro l
     induction l with
     | nil=>intro _;simp[gB]
     | cons a l ihl =>
      intro ha;have q1:=ha a (by simp);have q2:=ihl fun b hb=>ha b (by simp[hb])
      simp only[yQ,gB,zS,zR,Nat.add_mul];omega
    have hq:=hL e.kids fun a ha=>(hall a ha).2
    simp only[Ex.TM,Ex.NZ,zS,zR,zI];rw[x9];have hkl:e.kids.length=0∨e.kids.length=1∨e.kids.length=2:=by omega
    rcases hkl with h0|h0|h0<;>rw[h0]at hq<;>omega
theorem Ex.AQ3 {w:Int} {e:Ex} (h:e.ok w=true):e.shp.tx∧(txE e.shp).length≤2552:=by
 unfold Ex.ok at h;simp only[zW]at h;have hw:w≤6:=by have:=h.1;simp[cK]at this;omega
 obtain⟨h1,h2⟩:=Ex.AQ2 hw 8 e h.2;exact⟨h1,by omega⟩
theorem LY {p:Pn} {a b:Int} (hd:p.headOk=true) (ha:a≤6) (h:bR p.kind p.exprs p.cols a b≠0):(∀ e∈p.exprs,e.shp.tx∧(txE e.shp).length≤2552)∧p.cols.length≤5∧∀ c∈p.cols,0≤c∧c<10:=by
 unfold Pn.headOk at hd;simp only[zW,yB,zN]at hd;obtain⟨d1,d2,d3,d4⟩:=hd;have hno:p.exprs.length=0→∀ e∈p.exprs,e.shp.tx∧(txE e.shp).length≤2552:=fun h0 e he=>by rw[zZ.1 h0]at he;cases he
 have hcn:p.kind≠8→p.cols.length≤5∧∀ c∈p.cols,0≤c∧c<10:=fun h8=>by
  rcases d4 with d|d
  ·exact absurd d h8
  ·rw[d];simp
 have hal:∀ w:Int,p.exprs.all (Ex.ok w)=true→∀ e∈p.exprs,e.shp.tx∧(txE e.shp).length≤2552:=fun w hw e he=>Ex.AQ3 (zM.1 hw e he)
 unfold bR at h;split at h
 ·split at h
  ·rename_i h1 h2;exact⟨hal _ h2.2,hcn (by omega)⟩
  ·exact absurd rfl h
 ·split at h
  ·rename_i h1 h2;refine⟨hno ?_,hcn (by omega)⟩;rw[if_neg (by omega)]at d2;unfold bU at d2;rw[if_neg (by omega)]at d2;omega
  ·split at h
   ·rename_i h1 h2 h3;split at h
    ·rename_i h4;refine⟨hno ?_,by omega,fun c hc=>?_⟩
     ·rw[if_neg (by omega)]at d2;unfold bU at d2;rw[if_neg (by omega)]at d2;omega
     ·have:=XD h4.2 c hc;omega
    ·exact absurd rfl h
   ·rename_i h8;split at h
    ·split at h
     ·rename_i h9;exact⟨hal _ h9,hcn (by omega)⟩
     ·exact absurd rfl h
    ·split at h
     ·rename_i h9;exact⟨hal _ h9,hcn (by omega)⟩
     ·exact absurd rfl h
theorem AFL:∀ l:List Int,(∀ c∈l,0≤c∧c<10)→(txC l).length=3*l.length
 | [],_=>rfl
 | c::l,h=>by
  have h1:=rF (h c (by simp)).1 (h c (by simp)).2;have h2:=AFL l fun a ha=>h a (by simp[ha])
  simp only[txC,zS,zR];omega
theorem Z0:∀ l:List Ex,(∀ e∈l,(txE e.shp).length≤2552)→(gB (l.map Ex.shp)).length≤2553*l.length
 | [],_=>by simp[gB]
 | a::l,h=>by
  have h1:=h a (by simp);have h2:=Z0 l fun b hb=>h b (by simp[hb])
  simp only[yQ,gB,zS,zR];omega
theorem YZ {B:Nat}:∀ l:List Pn,(∀ a∈l,(txP a.shp).length≤B)→(qU (l.map Pn.shp)).length≤l.length*(B+1)
 | [],_=>by simp[qU]
 | a::l,h=>by
  have h1:=h a (by simp);have h2:=YZ l fun b hb=>h b (by simp[hb])
  have e1:(l.length+1)*(B+1)=l.length*(B+1)+(B+1):=Nat.succ_mul _ _;simp only[yQ,qU,zS,zR];rw[e1];omega
theorem Pn.AQ1 {ws:List Int} (hw:LK ws=true) (hr:∀ w∈ws,0≤w∧w≤6):∀ (p:Pn) (n:Nat),p.wd ws n≠0→p.shp.tx∧(txP p.shp).length+15400≤15500*2 ^ n:=by
 intro p
 induction p using Pn.ind with
 | h k t es cs ks ih =>
  intro n h;have hp:1≤2 ^ n:=xU;generalize hpp:Pn.mk k t es cs ks=p at *
  have hks:ks=p.kids:=by rw[← hpp];rfl
  subst hks;rw[Pn.sI]at h;split at h
  case isFalse=>exact absurd rfl h
  rename_i hc;obtain⟨hd,hk0⟩:=hc;have he6:=Pn.kP hd;have hk2:=Pn.tO hd;have hd':=hd;unfold Pn.headOk at hd';simp only[zW,yB,zN]at hd';obtain⟨d1,d2,d3,d4⟩:=hd';have hnp:=AN0 p.kind;rw[Pn.dS];by_cases h1:p.kind=1
  ·rw[if_pos h1]at h;split at h
   case isFalse=>exact absurd rfl h
   rename_i h0
   have hex:p.exprs=[]:=by
    rw[h1,if_neg (by omega)]at d2;exact zZ.1 (by unfold bU at d2;rw[if_neg (by omega)]at d2;omega)
   have hkd:p.kids=[]:=by
    rw[h1]at d1;exact zZ.1 (by unfold eX at d1;rw[if_pos rfl]at d1;omega)
   have hcl:p.cols=[]:=by
    rcases d4 with d|d
    ·omega
    ·exact d
   have hlt:p.table<10:=by
    have hl4:ws.length≤4:=by simp[LK]at hw;omega
    rcases zB7 p.table.toNat ws.length with hq|hq
    ·omega
    ·rw[List.getElem?_eq_none hq]at h;exact absurd rfl h
   rw[hex,hkd,hcl];refine⟨(Pn.gJ _).2 ⟨by simp;omega,by simp;intro _;exact⟨h0,hlt⟩,by simp,by simp,by simp⟩,?_⟩;rw[lM];have:=rF h0 hlt;simp[h1,this,txC,gB,qU];simp[nmP];omega
  ·rw[if_neg h1]at h;split at h
   case isFalse=>exact absurd rfl h
   rename_i hall;rw[zM]at hall
   have hkk:p.kids≠[]:=by
    intro hn;rw[hn]at d1;unfold eX at d1;rw[if_neg h1]at d1;split at d1
    ·simp at d1
    ·split at d1
     ·simp at d1
     ·simp at d1
   obtain⟨m,rfl⟩:∃ m,n=m+1:=by
    rcases hk0 with hk0|hk0
    ·exact absurd hk0 hkk
    ·exact⟨n-1,by omega⟩
   have hIH:∀ a∈p.kids,a.shp.tx∧(txP a.shp).length+15400≤15500*2 ^ m:=fun a ha=>by
    have:=hall a ha;simp only[zN,Nat.add_sub_cancel]at this;exact ih a ha m this
   have ha6:((p.kids[0]?.map (Pn.wd ws (m+1-1))).getD 0)≤6:=by
    cases hz:p.kids[0]? with
    | none=>simp
    | some a=>simp only[zA5,Option.getD_some];exact(Pn.kY hr a _).2
   obtain⟨w1,w2,w3⟩:=LY hd ha6 h
   have hkk1:1≤p.kind∧p.kind≤8:=by
    unfold eX at d1;rw[if_neg h1]at d1;split at d1
    ·omega
    ·split at d1<;>omega
   refine⟨(Pn.gJ _).2 ⟨by simpa using hkk1,fun hq=>absurd (by simpa using hq) h1,by simpa using w3,?_,?_⟩,?_⟩
   ·intro e he;simp at he;obtain⟨b,hb,rfl⟩:=he;exact(w1 b hb).1
   ·intro a ha;simp at ha;obtain⟨b,hb,rfl⟩:=ha;exact(hIH b hb).1
   ·rw[lM,if_neg (show ¬ Pn.kind (Pn.mk p.kind p.table (p.exprs.map Ex.shp) p.cols (p.kids.map Pn.shp))=1 from h1)];have q1:=AFL p.cols w3;have q2:=Z0 p.exprs fun e he=>(w1 e he).2
    have hq:=YZ p.kids (B:=15500*2 ^ m-15400) fun a ha=>by have:=(hIH a ha).2;omega
    have hp2:1≤2 ^ m:=xU
    have hkl:p.kids.length=1∨p.kids.length=2:=by
     have:p.kids.length≠0:=fun h=>hkk (zZ.1 h)
     omega
    simp only[Pn.eO,Pn.iR,Pn.bZ,Pn.eT,Pn.gW,zS,zR,zI];rw[x9]
    rcases hkl with h0|h0<;>rw[h0]at hq<;>omega
theorem Pn.JM {ws:List Int} {p:Pn} (h:p.width ws≠0):p.shp.tx∧(txP p.shp).length<9000000:=by
 unfold Pn.width at h;split at h
 ·rename_i hw
  have hr:∀ w∈ws,0≤w∧w≤6:=by
   intro w hm;have h':=hw;simp only[LK,zW]at h';have:=zM.1 h'.2 w hm;simp[cK]at this;omega
  obtain⟨h1,h2⟩:=Pn.AQ1 hw hr p 8 h;exact⟨h1,by omega⟩
 ·exact absurd rfl h
theorem uH:∀ e:Ex,e.tx→ascii (txE e)=true:=by
 intro e
 induction e using Ex.ind with
 | h k c v ks ih =>
  intro ht;generalize he:Ex.mk k c v ks=e at *
  have hks:ks=e.kids:=by rw[← he];rfl
  subst hks;rw[pR]
  rcases(Ex.gJ e).1 ht with ⟨h1,h2,h3⟩|⟨h1,h2⟩|⟨h1,h2,h3⟩
  ·rw[if_pos h1];have:=(mY h2 h3).2.1;simp only[ascii,List.all_cons]at this ⊢;rw[this];rfl
  ·rw[if_neg (by omega),if_pos h1,h2];exact(mY (n:=0) (by omega) (by omega)).2.1
  ·rw[if_neg (by omega),if_neg (by omega)];have p2:=(DV h1 h2).2.1
   have hL:∀ l:List Ex,(∀ a∈l,ascii (txE a)=true)→ascii (gB l)=true:=by
    intro l
    induction l with
    | nil=>intro _;rfl
    | cons a l ihl =>
     intro ha;have q1:=ha a (by simp);have q2:=ihl fun b hb=>ha b (by simp[hb])
     simp only[gB];show(ascii [32] && ascii (txE a++gB l))=true;rw[aU,q1,q2];rfl
   have q:=hL e.kids fun a ha=>ih a ha (h3 a ha)
   show(ascii [40] && ascii (nmE e.kind++(gB e.kids++[41])))=true;rw[aU,aU,p2,q];rfl
theorem vP {l:List Ex} (h:∀ a∈l,a.tx):ascii (gB l)=true:=by
 induction l with
 | nil=>rfl
 | cons a l ihl =>
  have q1:=uH a (h a (by simp));have q2:=ihl fun b hb=>h b (by simp[hb])
  simp only[gB];show(ascii [32] && ascii (txE a++gB l))=true;rw[aU,q1,q2];rfl
def rE2 (l:List Ex) (t:List UInt8):List UInt8:=gB l++41::t
theorem JZ (l:List Ex) (t:List UInt8):sN (rE2 l t)=true:=by
 cases l<;>rfl
theorem ADS {l:List Ex} {i:Nat} {a:Ex} (h:l[i]?=some a) (t:List UInt8):rE2 (l.drop i) t=[32]++(txE a++rE2 (l.drop (i+1)) t):=by
 have hi:=(zX.1 h).1
 have:l.drop i=a::l.drop (i+1):=by
  rw[yL hi];congr 1;exact(zX.1 h).2
 rw[this];simp[rE2,gB]
theorem wI {l:List Ex} (h:∀ a∈l,a.tx) {t:List UInt8} (ht:ascii t=true) (i:Nat):ascii (rE2 (l.drop i) t)=true:=by
 unfold rE2;have q:=vP (l:=l.drop i) fun a ha=>h a (yO ha)
 show ascii (gB (l.drop i)++([41]++t))=true;rw[aU,aU,q,ht];rfl
theorem ZR (l:List Ex) (t:List UInt8) (i:Nat):(rE2 (l.drop i) t).length≤(rE2 l t).length:=by
 have:∀ (l:List Ex) (i:Nat),(gB (l.drop i)).length≤(gB l).length:=by
  intro l
  induction l with
  | nil=>intro i;simp
  | cons a l ih =>
   intro i
   cases i with
   | zero=>simp
   | succ i=>have:=ih i;simp only[xM,gB,zS,zR];omega
 have:=this l i;unfold rE2;simp only[zR];omega
end Go.Av
namespace Go.Proofs.YtmcjmafajkeecaaGreatDoor.P
open Go Go.Av
set_option maxRecDepth 4000
set_option maxHeartbeats 4000000
def EDX (e:Ex) (n:Int) (t:List UInt8) (i:Nat):AS :=
 { env:=[(0, .own 0 0),(1, .int n),(4, .own 1 0),(5, .junk),(6, .junk),(7, .own 2 0),(9, .bool false),(15, .bool false),(23, .junk),(29, .bool false),(37, .int e.kids.length),(38, .int i),(39,jk i (.bool true))],
   st:=sB (rE2 (e.kids.drop i) t)::some (.box [.int 0, .int 0, .bool false, .int 0, .nils])::some (.box [.int e.kind, .int 0, .bool false, .int 0,gro 3 5 i])::PQ 5 (Ex.aA (e.kids.take i)) i }
theorem AAO {w:Int} {e:Ex} (n:Int) (hd:e.headOk w=true) (hk:e.kids=[]) (ht:e.tx) (hkk:e.kind=1∨e.kind=2) (t:List UInt8) (hs:sN t=true) (ha:ascii t=true) (hl:(txE e++t).length<100000000) :
 aH CD 62 [.own 0 0, .int n] [sB (txE e++t)]=some (.i (.agg e.cells),[sB t]):=by
 rw[aF rfl Tryz.func62 rfl rfl,Ex.aB];have hte:=pR e
 rcases Ex.jY w e with hf|⟨-,hc|hc|hc⟩
 ·rw[hf]at hd;cases hd
 ·obtain⟨c1,c2,c3,c4,c5,c6⟩:=hc;rw[if_pos c1]at hte;rw[hte]at hl ⊢
  have hcl:e.col<10:=by
   rcases(Ex.gJ e).1 ht with ⟨_,_,h⟩|⟨h,_⟩|⟨h,_,_⟩<;>omega
  obtain⟨d1,d2,d3,-⟩:=mY c2 hcl;have k1:=fK (35::dgI e.col++t) [35] (by omega) (by simp);simp[LB]at k1;have k2:=KN (dgI e.col) t d3 d1 hs (by rw[aU,d2,ha];rfl) (by simp at hl ⊢;omega);have k3:=AJH e.col;simp[k1,k2,k3,c1,c4,c5,hk,Ex.aA]
 ·obtain⟨c1,c2,c3,-,-,c6⟩:=hc
  have hv:e.val=⟨false,0⟩:=by
   rcases(Ex.gJ e).1 ht with ⟨h,_,_⟩|⟨_,h⟩|⟨h,_,_⟩
   ·omega
   ·exact h
   ·omega
  rw[if_neg (by omega),if_pos c1,hv]at hte;have hv0:txV ⟨false,0⟩=[48]:=by simp[txV];rw[mD (by omega) (by omega)];rfl
  rw[hv0]at hte;rw[hte]at hl ⊢;have k1:=fK ([48]++t) [35] (by simp at hl ⊢;omega) (by simp);have k2:=fK ([48]++t) [40] (by simp at hl ⊢;omega) (by simp);simp[LB]at k1 k2;have k3:=vN [48] t (by decide) hs (by rw[aU,ha];decide) (by simp at hl ⊢;omega);have k4:=AER;have k5:=AES false 0;simp at k3 k4;simp[k1,k2,k3,k4,k5,c1,c2,hv,hk,Ex.aA]
 ·omega
theorem KT {w:Int}:∀ (n:Nat) (e:Ex),n<100→e.vB w n=true→e.tx→∀ t:List UInt8,sN t=true→ascii t=true→(txE e++t).length<100000000 →
 aH CD 62 [.own 0 0, .int n] [sB (txE e++t)]=some (.i (.agg e.cells),[sB t]):=by
 intro n
 induction n with
 | zero =>
  intro e hn hv ht t hs ha hl;simp only[Ex.vB,zW,zN]at hv;obtain⟨h1,h2,h3⟩:=hv;have hk:e.kids=[]:=zZ.1 (by omega);refine AAO _ h3 hk ht ?_ t hs ha hl;unfold bT at h1 h2;rw[hk]at h1;by_cases q:e.kind=1∨e.kind=2
  ·exact q
  ·rw[if_neg q]at h1;simp at h1;split at h1<;>omega
 | succ n ih =>
  intro e hn hv ht t hs ha hl;simp only[Ex.vB,zW,zN]at hv;obtain⟨h1,h3,h4⟩:=hv;by_cases q:e.kind=1∨e.kind=2
  ·refine AAO _ h3 (zZ.1 ?_) ht q t hs ha hl;unfold bT at h1;rw[if_pos q]at h1;omega
  obtain⟨q1,q2,q3⟩:3≤e.kind∧e.kind≤11∧∀ a∈e.kids,a.tx:=by
   rcases(Ex.gJ e).1 ht with ⟨h,_⟩|⟨h,_⟩|h
   ·omega
   ·omega
   ·exact h
  have hc:e.col=0∧e.val.null=false∧e.val.n=0:=by
   rcases Ex.jY w e with hf|⟨-,hc|hc|hc⟩
   ·rw[hf]at h3;cases h3
   ·omega
   ·omega
   ·exact⟨hc.2.2.1,hc.2.2.2.1,hc.2.2.2.2.1⟩
  obtain⟨c3,c4,c5⟩:=hc
  have hkl:e.kids.length≤2:=by
   unfold bT at h1;split at h1
   ·omega
   ·split at h1
    ·omega
    ·split at h1<;>omega
  have hte:=pR e;rw[if_neg (by omega),if_neg (by omega)]at hte;have hte2:txE e++t=[40]++(nmE e.kind++rE2 e.kids t):=by rw[hte];simp[rE2]
  have hte3:(rE2 e.kids t).length+1+(nmE e.kind).length<100000000:=by rw[hte2]at hl;simp at hl;omega
  rw[hte2];have k1:=fK ([40]++(nmE e.kind++rE2 e.kids t)) [35] (by simp;omega) (by simp);have k2:=fK ([40]++(nmE e.kind++rE2 e.kids t)) [40] (by simp;omega) (by simp);simp[LB]at k1 k2;have k3:=AEG q1 q2 (rE2 e.kids t) (JZ _ _) (wI q3 ha 0) (by simp;omega);have k4:=KJ e.kind;rw[← h1]at k4;have hn0:¬ ((n:Int)+1=0):=by omega
  have hnb:((n:Int)+1 == 0)=false:=by simpa using hn0
  have w1:IntKind.i64.wrap (n:Int)=n:=wrO;rw[aF rfl Tryz.func62 rfl rfl,Ex.aB];simp[k1,k2,k3,k4,hn0,hnb];rw[aW (EDX e (n+1) t) e.kids.length (by simp[EDX])]
  ·rw[aD];have k5:=d9 [41] t (by simp;unfold rE2 at hte3;simp at hte3;omega);simp at k5;have hd:rE2 (e.kids.drop e.kids.length) t=41::t:=by simp[rE2,gB]
   simp only[EDX,hd]
   cases hz:e.kids.length with
   | zero =>
    have:e.kids=[]:=zZ.1 hz;simp[this,Ex.aA,k5,c3,c4,c5]
   | succ m =>
    have:e.kids.take (m+1)=e.kids:=zY (by omega);simp[this,hz,k5,c3,c4,c5]
  ·intro i hi;have r1:=zT hi;have hm:=zU r1;have hr:=ADS r1 t;have hlen:=ZR e.kids t i;have hlen1:=ZR e.kids t (i+1);generalize e.kids[i]=a at r1 hm hr;have k5:=d9 [32] (txE a++rE2 (e.kids.drop (i+1)) t) (by rw[← hr];omega);have k6:=ih a (by omega) (zM.1 h4 a hm) (q3 a hm) (rE2 (e.kids.drop (i+1)) t) (JZ _ _) (wI q3 ha _) (by rw[hr]at hlen;simp at hlen ⊢;omega);have w2:IntKind.i64.wrap ((i:Int)+1)=i+1:=wrO;rw[Ex.aB a]at k6;simp only[EDX,hr];generalize rE2 (e.kids.drop (i+1)) t=rest at k5 k6 ⊢;generalize txE a++rest=full at k5 k6 ⊢;simp at k5;by_cases h0:i=0
   ·subst h0;simp[hi,k5,k6,w1,bL,aL r1,Ex.aA,Ex.aB a]
   ·simp[zF,aQ h0,aJ h0,eP h0,hi,k5,k6,w1,w2,aL r1,Ex.bB,Ex.aB a,show min i e.kids.length=i by omega,show(i+1)*56≤140737488355328 by omega]
end Go.Proofs.YtmcjmafajkeecaaGreatDoor.P
namespace Go.Av
theorem AIC {a b:Int} (ha:1≤a) (ha':a≤8) (hb:3≤b) (hb':b≤11):(nmP a == nmE b)=false:=by
 have h1:a=1∨a=2∨a=3∨a=4∨a=5∨a=6∨a=7∨a=8:=by omega
 have h2:b=3∨b=4∨b=5∨b=6∨b=7∨b=8∨b=9∨b=10∨b=11:=by omega
 rcases h1 with rfl|rfl|rfl|rfl|rfl|rfl|rfl|rfl<;>rcases h2 with rfl|rfl|rfl|rfl|rfl|rfl|rfl|rfl|rfl<;>rfl
end Go.Av
namespace Go.Proofs.YtmcjmafajkeecaaGreatDoor.P
open Go Go.Av
set_option maxRecDepth 4000
set_option maxHeartbeats 4000000
def AYX (w l r:List UInt8) (i:Nat):AS :=
 { env:=[(0, .own 0 0),(2, .bool false),(3, .own 1 0),(4,H8 w),(5, .int ((1:Int)+i)),(12, .bool false),(15,jk i (.bool true)),(21,jk i (.bool false))],st:=[sB l,sB r] }
theorem XP {k:Int} (h0:1≤k) (h1:k≤8) (r:List UInt8) (hr:sN r=true) (ha:ascii r=true) (hl:(nmP k++r).length<100000000) :
 aH CD 61 [.own 0 0] [sB ([32,40]++(nmP k++r))]=some (.bool true,[sB ([32,40]++(nmP k++r))]):=by
 obtain⟨p1,p2⟩:=DU h0 h1;have k1:=fK ([32,40]++(nmP k++r)) [32,40] (by simp at hl ⊢;omega) (by simp);rw[BU]at k1;have c1:=vN (nmP k) r p1 hr (by rw[aU,p2,ha];rfl) (by omega);have hq:=sM;simp at k1;rw[aF rfl Tryz.func61 rfl rfl];simp[k1,c1];rw[aW (AYX (nmP k) (32::40::(nmP k++r)) r) (k-1).toNat (by simp[AYX])]
 ·have e3:(1:Int)+(((k-1).toNat:Nat):Int)=k:=by omega
  have hnm:=iV h0 h1;rw[aD];simp only[AYX,e3];simp[h1,hnm,hq]
 ·intro i hi;have hi1:(1:Int)+i≤8:=by omega
  have hnm:=iV (k:=1+i) (by omega) hi1;have hne:=AGB (a:=1+i) (b:=k) (by omega) hi1 h0 h1 (by omega);have w2:IntKind.i64.wrap ((1:Int)+(i:Int)+1)=1+i+1:=wrO;have e4:(1:Int)+((i:Int)+1)=1+i+1:=by omega
  simp only[AYX];simp[hi1,hnm,hq,hne,w2,e4]
theorem ABX {k:Int} (h0:3≤k) (h1:k≤11) (r:List UInt8) (hr:sN r=true) (ha:ascii r=true) (hl:(nmE k++r).length<100000000) :
 aH CD 61 [.own 0 0] [sB ([32,40]++(nmE k++r))]=some (.bool false,[sB ([32,40]++(nmE k++r))]):=by
 obtain⟨p1,p2,-⟩:=DV h0 h1;have k1:=fK ([32,40]++(nmE k++r)) [32,40] (by simp at hl ⊢;omega) (by simp);rw[BU]at k1;have c1:=vN (nmE k) r p1 hr (by rw[aU,p2,ha];rfl) (by omega);have hq:=sM;simp at k1;rw[aF rfl Tryz.func61 rfl rfl];simp[k1,c1];rw[aW (AYX (nmE k) (32::40::(nmE k++r)) r) 8 (by simp[AYX])]
 ·rw[aD];simp[AYX]
 ·intro i hi;have hi1:(1:Int)+i≤8:=by omega
  have hnm:=iV (k:=1+i) (by omega) hi1;have hne:=AIC (a:=1+i) (b:=k) (by omega) hi1 h0 h1;have w2:IntKind.i64.wrap ((1:Int)+(i:Int)+1)=1+i+1:=wrO;have e4:(1:Int)+((i:Int)+1)=1+i+1:=by omega
  simp only[AYX];simp[hi1,hnm,hq,hne,w2,e4]
theorem FJ (c:UInt8) (r:List UInt8) (hc:c≠40) (hl:(c::r).length<100000000) :
 aH CD 61 [.own 0 0] [sB (32::c::r)]=some (.bool false,[sB (32::c::r)]):=by
 have k1:=fK (32::c::r) [32,40] (by simp at hl ⊢;omega) (by simp);have hb:GJ [32,40] (32::c::r)=false:=by rw[U9];simp[hc]
 rw[hb]at k1;simp at k1;rw[aF rfl Tryz.func61 rfl rfl];simp[k1]
theorem ABY {e:Ex} (ht:e.tx) (r:List UInt8) (ha:ascii r=true) (hl:(txE e++r).length<99999999) :
 aH CD 61 [.own 0 0] [sB ([32]++(txE e++r))]=some (.bool false,[sB ([32]++(txE e++r))]):=by
 have hte:=pR e
 rcases(Ex.gJ e).1 ht with ⟨h1,h2,h3⟩|⟨h1,h2⟩|⟨h1,h2,h3⟩
 ·rw[if_pos h1]at hte;rw[hte]at hl ⊢;exact FJ 35 (dgI e.col++r) (by decide) (by simp at hl ⊢;omega)
 ·have hv0:txV ⟨false,0⟩=[48]:=by simp[txV];rw[mD (by omega) (by omega)];rfl
  rw[if_neg (by omega),if_pos h1,h2,hv0]at hte;rw[hte]at hl ⊢;exact FJ 48 r (by decide) (by simp at hl ⊢;omega)
 ·rw[if_neg (by omega),if_neg (by omega)]at hte;have hs:txE e++r=[40]++(nmE e.kind++rE2 e.kids r):=by rw[hte];simp[rE2]
  rw[hs]at hl ⊢;exact ABX h1 h2 (rE2 e.kids r) (JZ _ _) (wI h3 ha 0) (by simp at hl ⊢;omega)
end Go.Proofs.YtmcjmafajkeecaaGreatDoor.P
namespace Go.Av
def YE (p:Pn) (ws:List Int):List UInt8:=if p.width ws=0 then []else txP p.shp
end Go.Av
namespace Go.Proofs.YtmcjmafajkeecaaGreatDoor.P
open Go Go.Av
set_option maxRecDepth 4000
set_option maxHeartbeats 4000000
theorem MO {p:Pn} {ws:List Int} (hp:p.thin) (hl:ws.length<9223372036854775808):aH C0 7 [.i (.agg p.cells), .i (.isl (aI ws))] []=some (.i (.lit (.string ⟨(YE p ws).toArray⟩)),[]):=by
 have c1:=UI p (Pn.JR p hp) ws hl;have c2:=UZ p hp;rw[aF rfl Tryz.func7 rfl rfl];by_cases h:p.width ws=0
 ·rw[Pn.aB p]at *
  simp[c1,h,YE]
 ·obtain⟨t1,t2⟩:=Pn.JM h;have c3:=ADH p.shp t1 t2;rw[Pn.aB p]at *
  rw[Pn.aB p.shp]at *
  simp[c1,h,c2,c3,YE]
end Go.Proofs.YtmcjmafajkeecaaGreatDoor.P
namespace Go.Av
structure PI (ws:List Int) (n:Nat) (p:Pn):Prop where
 kind:1≤p.kind∧p.kind≤8
 scan:p.kind=1→p.exprs=[]∧p.cols=[]∧p.kids=[]∧0≤p.table∧p.table<10
 other:p.kind≠1→p.table=0∧∃ m,n=m+1∧∀ a∈p.kids,a.wd ws m≠0∧a.tx
 one:(p.kind=2∨p.kind=3∨p.kind=7∨p.kind=8)→∃ a,p.kids=[a]
 two:(p.kind=4∨p.kind=5∨p.kind=6)→∃ a b,p.kids=[a,b]
 ex1:(p.kind=2∨p.kind=4∨p.kind=5)→∃ e,p.exprs=[e]
 ex3:p.kind=3→1≤p.exprs.length∧p.exprs.length≤6
 ex0:p.kind≠2→p.kind≠3→p.kind≠4→p.kind≠5→p.exprs=[]
 exs:∀ e∈p.exprs,e.tx∧∃ w:Int,e.vB w 8=true
 cols:p.kind≠8→p.cols=[]
 cs:∀ c∈p.cols,0≤c∧c<10
 cl:p.cols.length≤5
theorem Ex.AQI {w:Int} {e:Ex} (h:e.ok w=true):e.vB w 8=true:=by
 unfold Ex.ok at h;simp only[zW]at h;exact h.2
theorem PI.of {ws:List Int} {n:Nat} {p:Pn} (ht:p.tx) (h:p.wd ws n≠0):PI ws n p:=by
 obtain⟨t1,t2,t3,t4,t5⟩:=(Pn.gJ p).1 ht;rw[Pn.sI]at h;split at h
 case isFalse=>exact absurd rfl h
 rename_i hc;obtain⟨hd,hk0⟩:=hc;unfold Pn.headOk at hd;simp only[zW,yB,zN]at hd;obtain⟨d1,d2,d3,d4⟩:=hd
 have hne:p.kind≠1→p.kids≠[]:=by
  intro h1 hn;rw[hn]at d1;unfold eX at d1;rw[if_neg h1]at d1;split at d1
  ·simp at d1
  ·split at d1
   ·simp at d1
   ·simp at d1
 have hall:p.kind≠1→p.kids.all (fun x=>decide (x.wd ws (n-1)≠0))=true∧bR p.kind p.exprs p.cols ((p.kids[0]?.map (Pn.wd ws (n-1))).getD 0) ((p.kids[1]?.map (Pn.wd ws (n-1))).getD 0)≠0:=by
  intro h1;rw[if_neg h1]at h;split at h
  ·rename_i hq;exact⟨hq,h⟩
  ·exact absurd rfl h
 have hex:∀ w:Int,p.exprs.all (Ex.ok w)=true→∀ e∈p.exprs,e.tx∧∃ w:Int,e.vB w 8=true:=fun w hw e he=>⟨t4 e he,w,Ex.AQI (zM.1 hw e he)⟩
 constructor
 ·exact t1
 ·intro h1;rw[h1]at d1 d2;obtain⟨t2a,t2b⟩:=t2 h1;refine⟨?_,by rcases d4 with d|d;omega;exact d,?_,t2a,t2b⟩
  ·exact zZ.1 (by rw[if_neg (by omega)]at d2;unfold bU at d2;rw[if_neg (by omega)]at d2;omega)
  ·exact zZ.1 (by unfold eX at d1;rw[if_pos rfl]at d1;omega)
 ·intro h1;refine⟨by rcases d3 with d|d;exact absurd d h1;exact d,?_⟩
  have hn:n≠0:=by
   rcases hk0 with hk0|hk0
   ·exact absurd hk0 (hne h1)
   ·exact hk0
  refine⟨n-1,by omega,fun a ha=>⟨?_,t5 a ha⟩⟩;have:=zM.1 (hall h1).1 a ha;simpa using this
 ·intro hk
  have:p.kids.length=1:=by
   unfold eX at d1;rw[if_neg (by omega),if_pos hk]at d1;omega
  exact zB3.1 this
 ·intro hk
  have:p.kids.length=2:=by
   unfold eX at d1;rw[if_neg (by omega),if_neg (by omega),if_pos hk]at d1;omega
  cases hl:p.kids with
  | nil=>rw[hl]at this;simp at this
  | cons a l =>
   cases hl2:l with
   | nil=>rw[hl,hl2]at this;simp at this
   | cons b l2 =>
    cases hl3:l2 with
    | nil=>exact⟨a,b,rfl⟩
    | cons c l3=>rw[hl,hl2,hl3]at this;simp at this
 ·intro hk
  have:p.exprs.length=1:=by
   rw[if_neg (by omega)]at d2;unfold bU at d2;rw[if_pos (by omega)]at d2;omega
  exact zB3.1 this
 ·intro hk;split at d2
  ·rename_i hq;have:=hq.2;simp[cK]at this;omega
  ·unfold bU at d2;rw[if_pos (by omega)]at d2;omega
 ·intro h2 h3 h4 h5;refine zZ.1 ?_;rw[if_neg (by omega)]at d2;unfold bU at d2;rw[if_neg (by omega)]at d2;omega
 ·by_cases h1:p.kind=1
  ·intro e he;have:p.exprs=[]:=zZ.1 (by rw[if_neg (by omega)]at d2;unfold bU at d2;rw[if_neg (by omega)]at d2;omega);rw[this]at he;cases he
  ·obtain⟨-,hw⟩:=hall h1;unfold bR at hw;split at hw
   ·split at hw
    ·rename_i hq;exact hex _ hq.2
    ·exact absurd rfl hw
   ·split at hw
    ·intro e he;have:p.exprs=[]:=zZ.1 (by rw[if_neg (by omega)]at d2;unfold bU at d2;rw[if_neg (by omega)]at d2;omega);rw[this]at he;cases he
    ·split at hw
     ·intro e he;have:p.exprs=[]:=zZ.1 (by rw[if_neg (by omega)]at d2;unfold bU at d2;rw[if_neg (by omega)]at d2;omega);rw[this]at he;cases he
     ·split at hw
      ·split at hw
       ·rename_i hq;exact hex _ hq
       ·exact absurd rfl hw
      ·split at hw
       ·rename_i hq;exact hex _ hq
       ·exact absurd rfl hw
 ·intro h8
  rcases d4 with d|d
  ·exact absurd d h8
  ·exact d
 ·exact t3
 ·rcases d4 with d|d
  ·obtain⟨-,hw⟩:=hall (by omega);unfold bR at hw;rw[if_neg (by omega),if_neg (by omega),if_pos d]at hw;split at hw
   ·rename_i hq;omega
   ·exact absurd rfl hw
  ·rw[d];simp
theorem iN:∀ p:Pn,p.tx→ascii (txP p)=true:=by
 intro p
 induction p using Pn.ind with
 | h k t es cs ks ih =>
  intro ht;generalize hpp:Pn.mk k t es cs ks=p at *
  have hks:ks=p.kids:=by rw[← hpp];rfl
  subst hks;obtain⟨t1,t2,t3,t4,t5⟩:=(Pn.gJ p).1 ht;rw[lM];have p2:=(DU t1.1 t1.2).2
  have q1:ascii (if p.kind=1 then 32::dgI p.table else [])=true:=by
   split
   ·rename_i h1;have:=(mY (t2 h1).1 (t2 h1).2).2.1;show(ascii [32] && ascii (dgI p.table))=true;rw[this];rfl
   ·rfl
  have q2:ascii (txC p.cols)=true:=by
   have:∀ l:List Int,(∀ c∈l,0≤c∧c<10)→ascii (txC l)=true:=by
    intro l
    induction l with
    | nil=>intro _;rfl
    | cons c l ih =>
     intro h;have a1:=(mY (h c (by simp)).1 (h c (by simp)).2).2.1;have a2:=ih fun x hx=>h x (by simp[hx])
     show ascii ([32,35]++(dgI c++txC l))=true;rw[aU,aU,a1,a2];rfl
   exact this _ t3
  have q3:=vP t4
  have q4:ascii (qU p.kids)=true:=by
   have:∀ l:List Pn,(∀ a∈l,ascii (txP a)=true)→ascii (qU l)=true:=by
    intro l
    induction l with
    | nil=>intro _;rfl
    | cons a l ih =>
     intro h;have a1:=h a (by simp);have a2:=ih fun x hx=>h x (by simp[hx])
     show ascii ([32]++(txP a++qU l))=true;rw[aU,aU,a1,a2];rfl
   exact this _ fun a ha=>ih a ha (t5 a ha)
  show ascii ([40]++(nmP p.kind++((if p.kind=1 then 32::dgI p.table else [])++(txC p.cols++(gB p.exprs++(qU p.kids++[41]))))))=true;rw[aU,aU,aU,aU,aU,aU,p2,q1,q2,q3,q4];rfl
end Go.Av
namespace Go.Proofs.YtmcjmafajkeecaaGreatDoor.P
open Go Go.Av
set_option maxRecDepth 4000
set_option maxHeartbeats 4000000
def qR (m:Nat) (a:Pn):Prop:=∀ t:List UInt8,ascii t=true→(txP a++t).length<50000000→aH CD 30 [.own 0 0, .int m] [sB (txP a++t)]=some (.i (.agg a.cells),[sB t])
theorem dP {c:UInt8} {l:List UInt8} (hc:c.toNat<128) (h:ascii l=true):ascii (c::l)=true:=by
 simp only[ascii,List.all_cons]at h ⊢;rw[h];simp[hc]
theorem I1 {ws:List Int} {n:Nat} {p:Pn} (hn:n<100) (hp:PI ws n p) (hk:p.kind=1):qR n p:=by
 intro t ha hl;obtain⟨e1,e2,e3,e4,e5⟩:=hp.scan hk;obtain⟨d1,d2,d3,-⟩:=mY e4 e5;have hte:txP p++t=[40]++(nmP 1++([32]++(dgI p.table++([41]++t)))):=by rw[lM,hk,e1,e2,e3];simp[txC,gB,qU]
 rw[hte]at hl ⊢;have a1:ascii ([41]++t)=true:=dP (by decide) ha;have a2:ascii (dgI p.table++([41]++t))=true:=by rw[aU,d2,a1];rfl
 have k1:=d9 [40] (nmP 1++([32]++(dgI p.table++([41]++t)))) (by omega);have k2:=mX (k:=1) (by omega) (by omega) ([32]++(dgI p.table++([41]++t))) rfl (dP (by decide) a2) (by simp at hl ⊢;omega);have k3:=eF 1;have k4:=d9 [32] (dgI p.table++([41]++t)) (by simp at hl ⊢;omega);have k5:=KN (dgI p.table) ([41]++t) d3 d1 rfl a2 (by simp at hl ⊢;omega);have k6:=d9 [41] t (by simp at hl ⊢;omega);generalize dgI p.table++([41]++t)=r1 at *
 simp at k1 k4 k5 k6 k2;rw[aF rfl Tryz.func30 rfl rfl,Pn.aB];simp[k1,k2,k3,eX,bU,k4,k5];rw[aD];simp;rw[aD];simp;rw[aD];simp[k6,hk,e1,e2,e3,Ex.aA,Pn.aA,aI]
theorem RY:IntKind.i64.wrap 2=2:=wrO
theorem AD5 {ws:List Int} {m:Nat} {p:Pn} (hm:m<99) (hp:PI ws (m+1) p) (hk:p.kind=7) (ih:∀ a∈p.kids,qR m a):qR (m+1) p:=by
 intro t ha hl;have e0:=(hp.other (by omega)).1;obtain⟨a,e3⟩:=hp.one (by omega);have e1:=hp.ex0 (by omega) (by omega) (by omega) (by omega);have e2:=hp.cols (by omega);obtain⟨e5,m',em,hall⟩:=hp.other (by omega);have ta:=(hall a (by simp[e3])).2;have ia:=ih a (by simp[e3]);have hte:txP p++t=[40]++(nmP 7++([32]++(txP a++([41]++t)))):=by rw[lM,hk,e1,e2,e3];simp[txC,gB,qU]
 rw[hte]at hl ⊢;have b0:ascii ([41]++t)=true:=dP (by decide) ha;have ca:ascii (txP a++([41]++t))=true:=by rw[aU,iN a ta,b0];rfl
 have ba:ascii ([32]++(txP a++([41]++t)))=true:=dP (by decide) ca;have k1:=d9 [40] (nmP 7++([32]++(txP a++([41]++t)))) (by omega);have k2:=mX (k:=7) (by omega) (by omega) ([32]++(txP a++([41]++t))) rfl ba (by simp at hl ⊢;omega);have k3:=eF 7;have sa:=d9 [32] (txP a++([41]++t)) (by simp at hl ⊢;omega);have ja:=ia ([41]++t) b0 (by simp at hl ⊢;omega);have k6:=d9 [41] t (by simp at hl ⊢;omega);have w1:IntKind.i64.wrap (m:Int)=m:=wrO;have hn0:¬ ((m:Int)+1=0):=by omega
 have hnb:((m:Int)+1 == 0)=false:=by simpa using hn0
 rw[Pn.aB a]at *
 simp at k1 k2 k6 sa ja;rw[aF rfl Tryz.func30 rfl rfl,Pn.aB];simp[k1,k2,k3,eX,bU,hn0,hnb];rw[aD];simp;rw[aD];simp;rw[aD];simp[sa,ja,w1,bL];rw[aD];simp[k6,hk,e0,e1,e2,e3,Ex.aA,Pn.aA,aI,Pn.aB a]
theorem AD6 {ws:List Int} {m:Nat} {p:Pn} (hm:m<99) (hp:PI ws (m+1) p) (hk:p.kind=6) (ih:∀ a∈p.kids,qR m a):qR (m+1) p:=by
 intro t ha hl;have e0:=(hp.other (by omega)).1;obtain⟨a,b,e3⟩:=hp.two (by omega);have e1:=hp.ex0 (by omega) (by omega) (by omega) (by omega);have e2:=hp.cols (by omega);obtain⟨e5,m',em,hall⟩:=hp.other (by omega);have ta:=(hall a (by simp[e3])).2;have tb:=(hall b (by simp[e3])).2;have ia:=ih a (by simp[e3]);have ib:=ih b (by simp[e3]);have hte:txP p++t=[40]++(nmP 6++([32]++(txP a++([32]++(txP b++([41]++t)))))):=by rw[lM,hk,e1,e2,e3];simp[txC,gB,qU]
 rw[hte]at hl ⊢;have b0:ascii ([41]++t)=true:=dP (by decide) ha;have cb:ascii (txP b++([41]++t))=true:=by rw[aU,iN b tb,b0];rfl
 have bb:ascii ([32]++(txP b++([41]++t)))=true:=dP (by decide) cb;have ca:ascii (txP a++([32]++(txP b++([41]++t))))=true:=by rw[aU,iN a ta,bb];rfl
 have ba:ascii ([32]++(txP a++([32]++(txP b++([41]++t)))))=true:=dP (by decide) ca;have k1:=d9 [40] (nmP 6++([32]++(txP a++([32]++(txP b++([41]++t)))))) (by omega);have k2:=mX (k:=6) (by omega) (by omega) ([32]++(txP a++([32]++(txP b++([41]++t))))) rfl ba (by simp at hl ⊢;omega);have k3:=eF 6;have sb:=d9 [32] (txP b++([41]++t)) (by simp at hl ⊢;omega);have jb:=ib ([41]++t) b0 (by simp at hl ⊢;omega);have sa:=d9 [32] (txP a++([32]++(txP b++([41]++t)))) (by simp at hl ⊢;omega);have ja:=ia ([32]++(txP b++([41]++t))) bb (by simp at hl ⊢;omega);have k6:=d9 [41] t (by simp at hl ⊢;omega);have w1:IntKind.i64.wrap (m:Int)=m:=wrO;have hn0:¬ ((m:Int)+1=0):=by omega
 have hnb:((m:Int)+1 == 0)=false:=by simpa using hn0
 rw[Pn.aB a,Pn.aB b]at *
 simp at k1 k2 k6 sb jb sa ja;rw[aF rfl Tryz.func30 rfl rfl,Pn.aB];simp[k1,k2,k3,eX,bU,hn0,hnb];rw[aD];simp;rw[aD];simp;rw[aD];simp[sa,ja,w1,bL];rw[aD];simp[sb,jb,w1,bL,RY];rw[aD];simp[k6,hk,e0,e1,e2,e3,Ex.aA,Pn.aA,aI,Pn.aB a,Pn.aB b]
theorem ADA {ws:List Int} {m:Nat} {p:Pn} (hm:m<99) (hp:PI ws (m+1) p) (hk:p.kind=2) (ih:∀ a∈p.kids,qR m a):qR (m+1) p:=by
 intro t ha hl;have e0:=(hp.other (by omega)).1;obtain⟨a,e3⟩:=hp.one (by omega);obtain⟨e,e1⟩:=hp.ex1 (by omega);obtain⟨et,wd,ev⟩:=hp.exs e (by simp[e1]);have e2:=hp.cols (by omega);obtain⟨e5,m',em,hall⟩:=hp.other (by omega);have ta:=(hall a (by simp[e3])).2;have ia:=ih a (by simp[e3]);have hte:txP p++t=[40]++(nmP 2++([32]++(txE e++([32]++(txP a++([41]++t)))))):=by rw[lM,hk,e1,e2,e3];simp[txC,gB,qU]
 rw[hte]at hl ⊢;have b0:ascii ([41]++t)=true:=dP (by decide) ha;have ca:ascii (txP a++([41]++t))=true:=by rw[aU,iN a ta,b0];rfl
 have ba:ascii ([32]++(txP a++([41]++t)))=true:=dP (by decide) ca;have ce:ascii (txE e++([32]++(txP a++([41]++t))))=true:=by rw[aU,uH e et,ba];rfl
 have be:ascii ([32]++(txE e++([32]++(txP a++([41]++t)))))=true:=dP (by decide) ce;have k1:=d9 [40] (nmP 2++([32]++(txE e++([32]++(txP a++([41]++t)))))) (by omega);have k2:=mX (k:=2) (by omega) (by omega) ([32]++(txE e++([32]++(txP a++([41]++t))))) rfl be (by simp at hl ⊢;omega);have k3:=eF 2;have sa:=d9 [32] (txP a++([41]++t)) (by simp at hl ⊢;omega);have ja:=ia ([41]++t) b0 (by simp at hl ⊢;omega);have se:=d9 [32] (txE e++([32]++(txP a++([41]++t)))) (by simp at hl ⊢;omega);have je:=KT 8 e (by omega) ev et ([32]++(txP a++([41]++t))) rfl ba (by simp at hl ⊢;omega);have k6:=d9 [41] t (by simp at hl ⊢;omega);have w1:IntKind.i64.wrap (m:Int)=m:=wrO;have hn0:¬ ((m:Int)+1=0):=by omega
 have hnb:((m:Int)+1 == 0)=false:=by simpa using hn0
 rw[Pn.aB a,Ex.aB e]at *
 simp at k1 k2 k6 sa ja se je;rw[aF rfl Tryz.func30 rfl rfl,Pn.aB];simp[k1,k2,k3,eX,bU,hn0,hnb];rw[aD];simp;rw[aD];simp[se,je,bL];rw[aD];simp;rw[aD];simp[sa,ja,w1,bL];rw[aD];simp[k6,hk,e0,e1,e2,e3,Ex.aA,Pn.aA,aI,Pn.aB a,Ex.aB e]
theorem AD8 {ws:List Int} {m:Nat} {p:Pn} (hm:m<99) (hp:PI ws (m+1) p) (hk:p.kind=4) (ih:∀ a∈p.kids,qR m a):qR (m+1) p:=by
 intro t ha hl;have e0:=(hp.other (by omega)).1;obtain⟨a,b,e3⟩:=hp.two (by omega);obtain⟨e,e1⟩:=hp.ex1 (by omega);obtain⟨et,wd,ev⟩:=hp.exs e (by simp[e1]);have e2:=hp.cols (by omega);obtain⟨e5,m',em,hall⟩:=hp.other (by omega);have ta:=(hall a (by simp[e3])).2;have tb:=(hall b (by simp[e3])).2;have ia:=ih a (by simp[e3]);have ib:=ih b (by simp[e3]);have hte:txP p++t=[40]++(nmP 4++([32]++(txE e++([32]++(txP a++([32]++(txP b++([41]++t)))))))):=by rw[lM,hk,e1,e2,e3];simp[txC,gB,qU]
 rw[hte]at hl ⊢;have b0:ascii ([41]++t)=true:=dP (by decide) ha;have cb:ascii (txP b++([41]++t))=true:=by rw[aU,iN b tb,b0];rfl
 have bb:ascii ([32]++(txP b++([41]++t)))=true:=dP (by decide) cb;have ca:ascii (txP a++([32]++(txP b++([41]++t))))=true:=by rw[aU,iN a ta,bb];rfl
 have ba:ascii ([32]++(txP a++([32]++(txP b++([41]++t)))))=true:=dP (by decide) ca;have ce:ascii (txE e++([32]++(txP a++([32]++(txP b++([41]++t))))))=true:=by rw[aU,uH e et,ba];rfl
 have be:ascii ([32]++(txE e++([32]++(txP a++([32]++(txP b++([41]++t)))))))=true:=dP (by decide) ce;have k1:=d9 [40] (nmP 4++([32]++(txE e++([32]++(txP a++([32]++(txP b++([41]++t)))))))) (by omega);have k2:=mX (k:=4) (by omega) (by omega) ([32]++(txE e++([32]++(txP a++([32]++(txP b++([41]++t))))))) rfl be (by simp at hl ⊢;omega);have k3:=eF 4;have sb:=d9 [32] (txP b++([41]++t)) (by simp at hl ⊢;omega);have jb:=ib ([41]++t) b0 (by simp at hl ⊢;omega);have sa:=d9 [32] (txP a++([32]++(txP b++([41]++t)))) (by simp at hl ⊢;omega);have ja:=ia ([32]++(txP b++([41]++t))) bb (by simp at hl ⊢;omega);have se:=d9 [32] (txE e++([32]++(txP a++([32]++(txP b++([41]++t)))))) (by simp at hl ⊢;omega);have je:=KT 8 e (by omega) ev et ([32]++(txP a++([32]++(txP b++([41]++t))))) rfl ba (by simp at hl ⊢;omega);have k6:=d9 [41] t (by simp at hl ⊢;omega);have w1:IntKind.i64.wrap (m:Int)=m:=wrO;have hn0:¬ ((m:Int)+1=0):=by omega
 have hnb:((m:Int)+1 == 0)=false:=by simpa using hn0
 rw[Pn.aB a,Pn.aB b,Ex.aB e]at *
 simp at k1 k2 k6 sb jb sa ja se je;rw[aF rfl Tryz.func30 rfl rfl,Pn.aB];simp[k1,k2,k3,eX,bU,hn0,hnb];rw[aD];simp;rw[aD];simp[se,je,bL];rw[aD];simp;rw[aD];simp[sa,ja,w1,bL];rw[aD];simp[sb,jb,w1,bL,RY];rw[aD];simp[k6,hk,e0,e1,e2,e3,Ex.aA,Pn.aA,aI,Pn.aB a,Pn.aB b,Ex.aB e]
theorem AD7 {ws:List Int} {m:Nat} {p:Pn} (hm:m<99) (hp:PI ws (m+1) p) (hk:p.kind=5) (ih:∀ a∈p.kids,qR m a):qR (m+1) p:=by
 intro t ha hl;have e0:=(hp.other (by omega)).1;obtain⟨a,b,e3⟩:=hp.two (by omega);obtain⟨e,e1⟩:=hp.ex1 (by omega);obtain⟨et,wd,ev⟩:=hp.exs e (by simp[e1]);have e2:=hp.cols (by omega);obtain⟨e5,m',em,hall⟩:=hp.other (by omega);have ta:=(hall a (by simp[e3])).2;have tb:=(hall b (by simp[e3])).2;have ia:=ih a (by simp[e3]);have ib:=ih b (by simp[e3]);have hte:txP p++t=[40]++(nmP 5++([32]++(txE e++([32]++(txP a++([32]++(txP b++([41]++t)))))))):=by rw[lM,hk,e1,e2,e3];simp[txC,gB,qU]
 rw[hte]at hl ⊢;have b0:ascii ([41]++t)=true:=dP (by decide) ha;have cb:ascii (txP b++([41]++t))=true:=by rw[aU,iN b tb,b0];rfl
 have bb:ascii ([32]++(txP b++([41]++t)))=true:=dP (by decide) cb;have ca:ascii (txP a++([32]++(txP b++([41]++t))))=true:=by rw[aU,iN a ta,bb];rfl
 have ba:ascii ([32]++(txP a++([32]++(txP b++([41]++t)))))=true:=dP (by decide) ca;have ce:ascii (txE e++([32]++(txP a++([32]++(txP b++([41]++t))))))=true:=by rw[aU,uH e et,ba];rfl
 have be:ascii ([32]++(txE e++([32]++(txP a++([32]++(txP b++([41]++t)))))))=true:=dP (by decide) ce;have k1:=d9 [40] (nmP 5++([32]++(txE e++([32]++(txP a++([32]++(txP b++([41]++t)))))))) (by omega);have k2:=mX (k:=5) (by omega) (by omega) ([32]++(txE e++([32]++(txP a++([32]++(txP b++([41]++t))))))) rfl be (by simp at hl ⊢;omega);have k3:=eF 5;have sb:=d9 [32] (txP b++([41]++t)) (by simp at hl ⊢;omega);have jb:=ib ([41]++t) b0 (by simp at hl ⊢;omega);have sa:=d9 [32] (txP a++([32]++(txP b++([41]++t)))) (by simp at hl ⊢;omega);have ja:=ia ([32]++(txP b++([41]++t))) bb (by simp at hl ⊢;omega);have se:=d9 [32] (txE e++([32]++(txP a++([32]++(txP b++([41]++t)))))) (by simp at hl ⊢;omega);have je:=KT 8 e (by omega) ev et ([32]++(txP a++([32]++(txP b++([41]++t))))) rfl ba (by simp at hl ⊢;omega);have k6:=d9 [41] t (by simp at hl ⊢;omega);have w1:IntKind.i64.wrap (m:Int)=m:=wrO;have hn0:¬ ((m:Int)+1=0):=by omega
 have hnb:((m:Int)+1 == 0)=false:=by simpa using hn0
 rw[Pn.aB a,Pn.aB b,Ex.aB e]at *
 simp at k1 k2 k6 sb jb sa ja se je;rw[aF rfl Tryz.func30 rfl rfl,Pn.aB];simp[k1,k2,k3,eX,bU,hn0,hnb];rw[aD];simp;rw[aD];simp[se,je,bL];rw[aD];simp;rw[aD];simp[sa,ja,w1,bL];rw[aD];simp[sb,jb,w1,bL,RY];rw[aD];simp[k6,hk,e0,e1,e2,e3,Ex.aA,Pn.aA,aI,Pn.aB a,Pn.aB b,Ex.aB e]
end Go.Proofs.YtmcjmafajkeecaaGreatDoor.P
namespace Go.Av
theorem S9 (a:Pn):∃ R,txP a=40::(nmP a.kind++R)∧∀ x,sN (R++x)=true:=by
 refine⟨_,lM a,fun x=>?_⟩;by_cases h:a.kind=1
 ·simp[h,sN,rY]
 ·simp only[h,if_false,yS]
  cases a.cols with
  | cons c l=>rfl
  | nil =>
   cases a.exprs with
   | cons c l=>rfl
   | nil =>
    cases a.kids with
    | cons c l=>rfl
    | nil=>rfl
theorem drop_at {α:Type} {l:List α} {i:Nat} {a:α} (h:l[i]?=some a):l.drop i=a::l.drop (i+1):=by
 have hi:=(zX.1 h).1;rw[yL hi];congr 1;exact(zX.1 h).2
theorem Z4 (l:List Ex) (i:Nat):(gB (l.drop i)).length≤(gB l).length:=by
 induction l generalizing i with
 | nil=>simp
 | cons a l ih =>
  cases i with
  | zero=>simp
  | succ i=>have:=ih i;simp only[xM,gB,zS,zR];omega
theorem ACZ (l:List Int) (i:Nat):(txC (l.drop i)).length≤(txC l).length:=by
 induction l generalizing i with
 | nil=>simp
 | cons a l ih =>
  cases i with
  | zero=>simp
  | succ i=>have:=ih i;simp only[xM,txC,zS,zR];omega
theorem Z5 {l:List Int} (h:∀ c∈l,0≤c∧c<10):ascii (txC l)=true:=by
 induction l with
 | nil=>rfl
 | cons c l ih =>
  have a1:=(mY (h c (by simp)).1 (h c (by simp)).2).2.1;have a2:=ih fun x hx=>h x (by simp[hx])
  show ascii ([32,35]++(dgI c++txC l))=true;rw[aU,aU,a1,a2];rfl
end Go.Av
namespace Go.Proofs.YtmcjmafajkeecaaGreatDoor.P
open Go Go.Av
set_option maxRecDepth 4000
set_option maxHeartbeats 4000000
def PEX (es:List Ex) (K:List UInt8) (n:Int) (i:Nat):AS :=
 { env:=[(0, .own 0 0),(1, .int n),(4, .own 1 0),(5, .own 2 0),(6, .int 1),(7, .int 1),(24, .bool false),(29, .bool false),(41, .bool false),(63,jk i (.bool true)),(73, .junk),(74, .junk),(75, .junk)],
   st:=sB (gB (es.drop i)++K)::some (.box [.int 0, .int 0, .nils, .nils, .nils])::some (.box [.int 3, .int 0,gro 3 5 i, .nils, .nils])::PQ 5 (Ex.aA (es.take i)) i }
theorem AD9 {ws:List Int} {m:Nat} {p:Pn} (hm:m<99) (hp:PI ws (m+1) p) (hk:p.kind=3) (ih:∀ a∈p.kids,qR m a):qR (m+1) p:=by
 intro t ha hl;have e0:=(hp.other (by omega)).1;obtain⟨a,e3⟩:=hp.one (by omega);have e2:=hp.cols (by omega);obtain⟨m1,m6⟩:=hp.ex3 hk;obtain⟨e5,m',em,hall⟩:=hp.other (by omega);have ta:=(hall a (by simp[e3])).2;have ia:=ih a (by simp[e3]);have hexs:=hp.exs;obtain⟨R,hR,hRs⟩:=S9 a;have hak:=((Pn.gJ a).1 ta).1;have hte:txP p++t=[40]++(nmP 3++(gB p.exprs++([32]++(txP a++([41]++t))))):=by rw[lM,hk,e2,e3];simp[txC,qU]
 rw[hte]at hl ⊢;have b0:ascii ([41]++t)=true:=dP (by decide) ha;have ca:ascii (txP a++([41]++t))=true:=by rw[aU,iN a ta,b0];rfl
 have ba:ascii ([32]++(txP a++([41]++t)))=true:=dP (by decide) ca
 have be:∀ i,ascii (gB (p.exprs.drop i)++([32]++(txP a++([41]++t))))=true:=fun i=>by
  rw[aU,vP fun x hx=>(hexs x (yO hx)).1,ba];rfl
 have hst:∀ i,sN (gB (p.exprs.drop i)++([32]++(txP a++([41]++t))))=true:=fun i=>by cases p.exprs.drop i<;>rfl
 have hlen:∀ i,(gB (p.exprs.drop i)++([32]++(txP a++([41]++t)))).length<50000000:=fun i=>by
  have:=Z4 p.exprs i;simp at hl ⊢;omega
 have k1:=d9 [40] (nmP 3++(gB p.exprs++([32]++(txP a++([41]++t))))) (by omega);have k2:=mX (k:=3) (by omega) (by omega) (gB p.exprs++([32]++(txP a++([41]++t)))) (hst 0) (be 0) (by simp at hl ⊢;omega);have k3:=eF 3;have sa:=d9 [32] (txP a++([41]++t)) (by simp at hl ⊢;omega);have ja:=ia ([41]++t) b0 (by simp at hl ⊢;omega);have k6:=d9 [41] t (by simp at hl ⊢;omega)
 have hyes:=XP hak.1 hak.2 (R++([41]++t)) (hRs _) (by
  have h:=ca;rw[hR]at h;have h':ascii ([40]++(nmP a.kind++(R++([41]++t))))=true:=by simpa using h
  rw[aU,aU]at h';simp only[zW]at h'
  exact h'.2.2) (by rw[hR]at hl;simp at hl ⊢;omega)
 have hK:[32,40]++(nmP a.kind++(R++([41]++t)))=[32]++(txP a++([41]++t)):=by rw[hR];simp
 rw[hK]at hyes;have w1:IntKind.i64.wrap (m:Int)=m:=wrO;have hn0:¬ ((m:Int)+1=0):=by omega
 have hnb:((m:Int)+1 == 0)=false:=by simpa using hn0
 have hx0:=hst;generalize hKK:([32]++(txP a++([41]++t)))=K at *
 rw[Pn.aB a]at ja;generalize txP a++([41]++t)=r1 at *
 simp at sa ja k6 k2 k1;rw[aF rfl Tryz.func30 rfl rfl,Pn.aB];simp[k1,k2,k3,eX,bU,hn0,hnb];rw[aD];simp;rw[aW (PEX p.exprs K (m+1) ) p.exprs.length (by simp[PEX])]
 ·rw[aD]
  obtain⟨j,hj⟩:∃ j,p.exprs.length=j+1:=⟨p.exprs.length-1,by omega⟩
  have htk:p.exprs.take (j+1)=p.exprs:=zY (by omega);have hnl:¬ ((j:Int)+1<1):=by omega
  have hdr:gB (p.exprs.drop (j+1))++K=K:=by rw[List.drop_eq_nil_of_le (by omega)];rfl
  rw[hj];simp only[PEX,hdr];simp[hnl,hyes,htk,hj];subst hKK;simp only[xV]at sa;rw[aD];simp[sa,ja,w1,bL,hj];rw[aD];simp[k6,hk,e0,e2,e3,Pn.aA,aI,Pn.aB a,hj,htk]
 ·intro i hi;have r1':=zT hi;have hmm:=zU r1';have hd:=drop_at r1';generalize p.exprs[i]=x at r1' hmm hd;obtain⟨xt,wd,xv⟩:=hexs x hmm;have hr:gB (p.exprs.drop i)++K=[32]++(txE x++(gB (p.exprs.drop (i+1))++K)):=by rw[hd];simp[gB]
  have hl1:=hlen i;rw[hr]at hl1;have k7:=d9 [32] (txE x++(gB (p.exprs.drop (i+1))++K)) (by simp at hl1 ⊢;omega);have k8:=KT 8 x (by omega) xv xt (gB (p.exprs.drop (i+1))++K) (hst _) (be _) (by simp at hl1 ⊢;omega);have k9:=ABY xt (gB (p.exprs.drop (i+1))++K) (be _) (by simp at hl1 ⊢;omega);have w2:IntKind.i64.wrap ((i:Int)+1)=i+1:=wrO;rw[Ex.aB x]at k8;simp only[PEX,hr];generalize gB (p.exprs.drop (i+1))++K=rest at k7 k8 k9 ⊢;generalize txE x++rest=full at k7 k8 k9 ⊢;simp at k7 k8 k9;by_cases h0:i=0
  ·subst h0;simp[k7,k8,aL r1',Ex.aA,Ex.aB x]
  ·have hnl:¬ ((i:Int)<1):=by omega
   simp[zF,hnl,aQ h0,aJ h0,eP h0,k7,k8,k9,w2,aL r1',Ex.bB,Ex.aB x,show min i p.exprs.length=i by omega,show(i+1)*56≤140737488355328 by omega]
def PCX (cs:List Int) (K:List UInt8) (n:Int) (i:Nat):AS :=
 { env:=[(0, .own 0 0),(1, .int n),(4, .own 1 0),(5, .own 2 0),(6, .int 0),(7, .int 1),(24, .bool false),(29, .bool false),(41,jk i (.bool true)),(63, .junk),(73, .junk),(74, .junk),(75, .junk)],
   st:=sB (txC (cs.drop i)++K)::some (.box [.int 0, .int 0, .nils, .nils, .nils])::some (.box [.int 8, .int 0, .nils,gro 3 1 i, .nils])::PQ 1 (aI (cs.take i)) i }
theorem IR (c:Int) (l:List Int):aI (l++[c])=aI l++[[.int c]]:=by
 induction l with
 | nil=>rfl
 | cons a l ih=>simp[aI,ih]
theorem AD4 {ws:List Int} {m:Nat} {p:Pn} (hm:m<99) (hp:PI ws (m+1) p) (hk:p.kind=8) (ih:∀ a∈p.kids,qR m a):qR (m+1) p:=by
 intro t ha hl;have e0:=(hp.other (by omega)).1;obtain⟨a,e3⟩:=hp.one (by omega);have e1:=hp.ex0 (by omega) (by omega) (by omega) (by omega);obtain⟨e5,m',em,hall⟩:=hp.other (by omega);have ta:=(hall a (by simp[e3])).2;have ia:=ih a (by simp[e3]);have hcs:=hp.cs;have hcl:=hp.cl;obtain⟨R,hR,hRs⟩:=S9 a;have hte:txP p++t=[40]++(nmP 8++(txC p.cols++([32]++(txP a++([41]++t))))):=by rw[lM,hk,e1,e3];simp[gB,qU]
 rw[hte]at hl ⊢;have b0:ascii ([41]++t)=true:=dP (by decide) ha;have ca:ascii (txP a++([41]++t))=true:=by rw[aU,iN a ta,b0];rfl
 have ba:ascii ([32]++(txP a++([41]++t)))=true:=dP (by decide) ca
 have be:∀ i,ascii (txC (p.cols.drop i)++([32]++(txP a++([41]++t))))=true:=fun i=>by
  rw[aU,Z5 fun x hx=>hcs x (yO hx),ba];rfl
 have hst:∀ i,sN (txC (p.cols.drop i)++([32]++(txP a++([41]++t))))=true:=fun i=>by cases p.cols.drop i<;>rfl
 have hlen:∀ i,(txC (p.cols.drop i)++([32]++(txP a++([41]++t)))).length<50000000:=fun i=>by
  have:=ACZ p.cols i;simp at hl ⊢;omega
 have k1:=d9 [40] (nmP 8++(txC p.cols++([32]++(txP a++([41]++t))))) (by omega);have k2:=mX (k:=8) (by omega) (by omega) (txC p.cols++([32]++(txP a++([41]++t)))) (hst 0) (be 0) (by simp at hl ⊢;omega);have k3:=eF 8;have sa:=d9 [32] (txP a++([41]++t)) (by simp at hl ⊢;omega);have ja:=ia ([41]++t) b0 (by simp at hl ⊢;omega);have k6:=d9 [41] t (by simp at hl ⊢;omega);have k7:=fK ([32]++(txP a++([41]++t))) [32,35] (by simp at hl ⊢;omega) (by simp);have hb:GJ [32,35] ([32]++(txP a++([41]++t)))=false:=by rw[hR];simp[U9]
 rw[hb]at k7;have w1:IntKind.i64.wrap (m:Int)=m:=wrO;have hn0:¬ ((m:Int)+1=0):=by omega
 have hnb:((m:Int)+1 == 0)=false:=by simpa using hn0
 clear hb;generalize hKK:([32]++(txP a++([41]++t)))=K at *
 rw[Pn.aB a]at ja;generalize txP a++([41]++t)=r1 at *
 simp at sa ja k6 k2 k1 k7;rw[aF rfl Tryz.func30 rfl rfl,Pn.aB];simp[k1,k2,k3,eX,bU,hn0,hnb];rw[aW (PCX p.cols K (m+1)) p.cols.length (by simp[PCX])]
 ·rw[aD];have hdr:txC (p.cols.drop p.cols.length)++K=K:=by simp[txC]
  have htk:p.cols.take p.cols.length=p.cols:=zY (by omega);simp only[PCX,hdr,htk]
  cases hj:p.cols.length with
  | zero =>
   have hc0:p.cols=[]:=zZ.1 hj;simp[k7,hc0];rw[aD];simp;subst hKK;simp only[xV]at sa;rw[aD];simp[sa,ja,w1,bL];rw[aD];simp[k6,hk,e0,e1,e3,hc0,Pn.aA,Ex.aA,aI,Pn.aB a]
  | succ j =>
   have htk2:p.cols.take (j+1)=p.cols:=by rw[← hj];exact htk
   simp[k7,hj];rw[aD];simp[hj];subst hKK;simp only[xV]at sa;rw[aD];simp[sa,ja,w1,bL,hj];rw[aD];simp[k6,hk,e0,e1,e3,hj,htk2,Pn.aA,Ex.aA,Pn.aB a]
 ·intro i hi;have r1':=zT hi;have hmm:=zU r1';have hd:=drop_at r1';generalize p.cols[i]=x at r1' hmm hd;obtain⟨x0,x1⟩:=hcs x hmm;obtain⟨d1,d2,d3,-⟩:=mY x0 x1;have hr:txC (p.cols.drop i)++K=[32,35]++(dgI x++(txC (p.cols.drop (i+1))++K)):=by rw[hd];simp[txC]
  have hl1:=hlen i;rw[hr]at hl1;have q1:=fK ([32,35]++(dgI x++(txC (p.cols.drop (i+1))++K))) [32,35] (by simp at hl1 ⊢;omega) (by simp);rw[BU]at q1;have q2:=KN (dgI x) (txC (p.cols.drop (i+1))++K) d3 d1 (hst _) (by rw[aU,d2,be];rfl) (by simp at hl1 ⊢;omega);have w2:IntKind.i64.wrap ((i:Int)+1)=i+1:=wrO;simp only[PCX,hr];generalize txC (p.cols.drop (i+1))++K=rest at q1 q2 ⊢;generalize dgI x++rest=full at q1 q2 ⊢;simp at q1;by_cases h0:i=0
  ·subst h0;simp[q1,q2,aL r1',aI]
  ·simp[zF,aQ h0,aJ h0,eP h0,q1,q2,w2,aL r1',IR,show min i p.cols.length=i by omega,show(i+1)*8≤140737488355328 by omega]
theorem ADB {ws:List Int}:∀ (n:Nat) (p:Pn),n<100→p.tx→p.wd ws n≠0→qR n p:=by
 intro n
 induction n with
 | zero =>
  intro p hn ht hw;have hp:=PI.of ht hw;by_cases h1:p.kind=1
  ·exact I1 hn hp h1
  ·obtain⟨m,hm,_⟩:=(hp.other h1).2;omega
 | succ m ih =>
  intro p hn ht hw;have hp:=PI.of ht hw;by_cases h1:p.kind=1
  ·exact I1 hn hp h1
  obtain⟨m',hm',hk⟩:=(hp.other h1).2;obtain rfl:m'=m:=by omega
  have ih':∀ a∈p.kids,qR m' a:=fun a ha=>ih a (by omega) (hk a ha).2 (hk a ha).1
  have hkk:=hp.kind;have:p.kind=2∨p.kind=3∨p.kind=4∨p.kind=5∨p.kind=6∨p.kind=7∨p.kind=8:=by omega
  rcases this with h|h|h|h|h|h|h
  ·exact ADA (by omega) hp h ih'
  ·exact AD9 (by omega) hp h ih'
  ·exact AD8 (by omega) hp h ih'
  ·exact AD7 (by omega) hp h ih'
  ·exact AD6 (by omega) hp h ih'
  ·exact AD5 (by omega) hp h ih'
  ·exact AD4 (by omega) hp h ih'
end Go.Proofs.YtmcjmafajkeecaaGreatDoor.P
namespace Go.Av
open Go.RowKit
def IE:AV→Bool
 | .i _=>true
 | .nils=>true
 | _=>false
theorem W9 {cs:List AV} (h:cs.all IE=true):∀ c∈cs,(∃ v,c=.i v)∨c=.nils:=by
 intro c hc;have:=zM.1 h c hc
 cases c<;>simp[IE]at this
 ·exact .inr rfl
 ·exact .inl ⟨_,rfl⟩
theorem AQ4 (a b:Option Blk):upd (aT [a]) 1 b=aT [a,b]:=by
 funext i
 rcases i with _|_|i
 all_goals simp[upd,aT]
section
variable {w w3:World} {m m':Mem} {φ φ3:Pl} {cs cs':List AV} {s t:ByteArray} {T U:TypeId}
abbrev w2S (w:World) (U T:TypeId) (s:ByteArray):World:=(w.alloc (.cells #[.bool false] U)).alloc (.cells #[.string s] T)
abbrev p2S (w:World) (φ:Pl):Pl:=jI φ 1 (w.heap.size+1,one (w.heap.size+1) 1)
theorem scanInner0 (hi:Inv w m φ (aT [some (.box cs)])) (hb:∀ id,φ id≠none→id<1) :
 Inv (w2S w U T s) m (p2S w φ) (aT [some (.box cs),some (.box [.i (.lit (.string s))])])∧Adv w m φ (w2S w U T s) m (p2S w φ)∧fH (p2S w φ) w.heap.size∧∀ id,p2S w φ id≠none→id<2:=by
 obtain⟨i1,a1⟩:=hi.more (.cells #[.bool false] U)
 have h1:φ 1=none:=by
  cases h:φ 1 with
  | none=>rfl
  | some p=>exact absurd (hb 1 (by rw[h];simp)) (by omega)
 have hsz:(w.alloc (.cells #[.bool false] U)).heap.size=w.heap.size+1:=by simp
 have hp:=i1.push (id:=1) h1 (.cells #[.string s] T) (n:=1) (blk:=.box [.i (.lit (.string s))]) (by
  rw[hsz];refine .box (T:=T) (vs:=[.string s]) ?_ rfl (.cons (.i (.lit _)) rfl .nil) fun o=>?_
  ·have:=dF (w.alloc (.cells #[.bool false] U)) (.cells #[.string s] T);rw[hsz]at this;exact this
  ·cases e:m (w.heap.size+1) o with
   | none=>rfl
   | some v=>have:=hi.mem.lt e;omega)
 rw[hsz,AQ4]at hp;refine⟨hp.1,a1.trans hp.2,?_,?_⟩
 ·intro id b n e ho;unfold p2S jI at e;split at e
  ·injection e with e;injection e with e1 e2;subst e2;have ho:w.heap.size=w.heap.size+1:=ho;omega
  ·have:=hi.low id b n _ e ho;omega
 ·intro id h;unfold p2S jI at h;split at h
  ·omega
  ·have:=hb id h;omega
theorem SF (a2:Adv (w2S w U T s) m (p2S w φ) w3 m' φ3) (i3:Inv w3 m' φ3 (aT [some (.box cs'),some (.box [.i (.lit (.string t))])])) (hf:fH (p2S w φ) w.heap.size) :
 w3.cell? ⟨w.heap.size+1,0,none⟩=some (.string t)∧w3.heap[w.heap.size]?=some (.cells #[.bool false] U (0,0)):=by
 constructor
 ·obtain⟨b,n,q1,q2,q3⟩:=i3.live 1 (.box [.i (.lit (.string t))]) rfl;obtain⟨n',e',_,_⟩:=a2.ple 1 (w.heap.size+1) (one (w.heap.size+1) 1) (bI _ _ _);rw[q1]at e';injection e' with e';injection e' with e1 e2
  subst e1
  cases q3 with
  | box h1 h2 h3 h4 =>
   cases h3 with
   | cons x o r =>
    cases r
    have:=x.lit_eq;subst this;simp[World.cell?,h1]
 ·rw[a2.block w.heap.size (by simp;omega) hf];have h1:=dF w (.cells #[.bool false] U);rw[dE _ _ (by simp)];exact h1
theorem ADJ (hi:Inv w m φ (aT [some (.box cs)])) (hb:∀ id,φ id≠none→id<1) (a1:Adv w m φ (w2S w U T s) m (p2S w φ)) (a2:Adv (w2S w U T s) m (p2S w φ) w3 m' φ3) (i3:Inv w3 m' φ3 (aT [some (.box cs'),some (.box [.i (.lit (.string t))])]))
 (hf:fH (p2S w φ) w.heap.size) (hp:cs'.all IE=true) (v:Bool) :
 bK w m φ (.bool v) [some (.box cs')] (.returned (.bool v)) (w3.setCell ⟨w.heap.size,0,none⟩ (.bool v)):=by
 have hlt:w.heap.size<(w2S w U T s).heap.size:=by simp;omega
 have hm0:∀ o,m w.heap.size o=none:=fun o=>by
  cases e:m w.heap.size o with
  | none=>rfl
  | some v=>have:=hi.mem.lt e;omega
 have hm:∀ o,m' w.heap.size o=none:=fun o=>by rw[a2.mnew _ hlt hf,hm0]
 have hf3:fH φ3 w.heap.size:=a2.range hlt hf;have hz:(w3.setCell ⟨w.heap.size,0,none⟩ (.bool v)).heap.size=w3.heap.size:=by simp[World.setCell]
 have hoth:∀ x,x≠w.heap.size→(w3.setCell ⟨w.heap.size,0,none⟩ (.bool v)).heap[x]?=w3.heap[x]?:=fun x hx=>Below.heap_setCell _ _ _ _ hx
 have i4:=i3.aside hz hoth hm hf3
 have i5:=i4.AVL (st':=aT [some (.box cs')]) (by
  intro i blk h
  rcases i with _|i
  ·simp[aT]at h;subst h;exact⟨rfl,W9 hp⟩
  ·simp[aT]at h)
 have a3:=a1.trans a2
 have hc0:∀ id,JA (aT [some (.box cs')]) φ3 id≠none→id<1:=by
  intro id h
  rcases id with _|id
  ·omega
  ·exact absurd (by simp[JA,aT]) h
 refine⟨_,m',JA (aT [some (.box cs')]) φ3,rfl, .i (.lit _),i5,⟨?_,?_,?_,?_,?_,a3.mle,a3.mnew,?_,?_⟩,by simpa using hc0⟩
 ·rw[hz];exact a3.size
 ·exact a3.os
 ·exact⟨a3.tape.tape,a3.tape.fwd⟩
 ·exact a3.output
 ·intro b hb1 hb2;rw[hoth b (by omega)];exact a3.block b hb1 hb2
 ·intro id b n e;have h1:=hb id (by rw[e];simp);obtain rfl:id=0:=by omega
  obtain⟨n',e',l1,o1⟩:=a3.ple _ _ _ e;exact⟨n',by rw[qL (by simp[aT])];exact e',l1,o1⟩
 ·intro id b n f e ho;exact a3.pnew id b n f (fB e).1 ho
end
end Go.Av
namespace Go.Proofs.YtmcjmafajkeecaaGreatDoor.P
open Go Go.Av Go.RowKit
set_option maxRecDepth 4000
set_option maxHeartbeats 4000000
theorem ZJ (p:Addr) (w:World) :
 CallsD Tryz.prog 54 #[.pointer (some p)] .returning w fun e u' w'=>e=.returned (.tuple #[])∧u'=.returning∧w'=w:=by
 refine callsD_of_wpS Tryz.func54 rfl fun c₀ cs hu=>?_
 apply wpS_seq;apply wpS_region;simp[wpOpsS,go_sem,recoverD,hu,Tryz.ntmps54,Exit.thenS];apply wpS_seq;apply wpS_region;simp[wpOpsS,go_sem,Exit.thenS];refine wpS_cond (t:=false) (by simp[Act.eval,Array.replicate]) ?_;simp only[yK,if_false];refine wpS_of_wp (wp_skip ?_)
 cases c₀
 simp_all [bodyPostS,results,Tryz.results54]
theorem MN (s:ByteArray) (g:FuncId) (pv:Value) (w:World) (S:World→Prop) (he:∀ args w,(callFunc g args).run Tryz.prog w=.ok (.enter g args) w)
 (hc:Calls Tryz.prog g #[.pointer (some ⟨w.heap.size+1,0,none⟩),pv] ((w.alloc (.cells #[.bool false] 4)).alloc (.cells #[.string s] 90)) fun e w3=>e=.returned (.tuple #[])∧S w3)
 (hs:∀ w3,S w3→(∃ t:ByteArray,w3.cell? ⟨w.heap.size+1,0,none⟩=some (.string t))∧(∃ b,w3.cell? ⟨w.heap.size,0,none⟩=some (.bool b))∧w3.frozen? ⟨w.heap.size,0,none⟩=false) :
 Calls Tryz.prog 28 #[.string s, .func (.func g) #[] #[pv]] w fun e w'=>∃ w3 t,S w3∧w3.cell? ⟨w.heap.size+1,0,none⟩=some (.string t)∧e=.returned (.bool (t.toList == []))∧w'=w3.setCell ⟨w.heap.size,0,none⟩ (.bool (t.toList == [])):=by
 have hmf:∀ (fn:Fn) (first cap:Array Value) (w:World),(Instr.makeFunc fn first cap).run Tryz.prog w=.ok (.func fn first cap) w:=fun _ _ _ _=>rfl
 go_enter_defers Tryz.func28,Tryz.ntmps28
 go_wp2
 refine hc.mono ?_;rintro e w3 ⟨rfl,h3⟩;obtain⟨⟨t,ht⟩,⟨b,hb⟩,hf⟩:=hs w3 h3
 go_wp2
 refine leaves_cons (f:=54) (args:=#[.pointer (some ⟨w.heap.size,0,none⟩)]) (by simp) (by simp[go_sem]) ?_;refine(ZJ ⟨w.heap.size,0,none⟩ _).mono ?_;rintro e u' w'' ⟨rfl,rfl,rfl⟩;have hset:(w3.setCell ⟨w.heap.size,0,none⟩ (.bool t.toList.isEmpty)).cell? ⟨w.heap.size,0,none⟩=some (.bool t.toList.isEmpty):=World.cell?_setCell_same _ _ _ hb;simp[Leaves,settle,results,Tryz.results28,go_sem,hset];exact⟨w3,h3,t,ht,rfl,rfl⟩
def AHP:AV×StL→Option (AV×StL)
 | (.tup [],[some (.box cs),some (.box [.i (.lit (.string t))])])=>tst (cs.all IE) (some (.bool t.toList.isEmpty,[some (.box cs)]))
 | _=>none
noncomputable def ADL (g:FuncId) (s:ByteArray) (cs:List AV):Option (AV×StL):=if g=29 then bnd (aH CD 29 [.own 1 0, .own 0 0] [some (.box cs),some (.box [.i (.lit (.string s))])]) AHP else none
noncomputable def Q4:List AV→StL→Option (AV×StL)
 | [.i (.lit (.string s)), .fn (.func g) [.own 0 0]],[some (.box cs)]=>ADL g s cs
 | _,_=>none
theorem VG {p q:AV×StL} (h:AHP p=some q):∃ cs t,p=(.tup [],[some (.box cs),some (.box [.i (.lit (.string t))])])∧cs.all IE=true∧q=(.bool t.toList.isEmpty,[some (.box cs)]):=by
 unfold AHP at h;split at h
 ·obtain⟨h1,h2⟩:=aR.1 h;injection h2 with h2;exact⟨_,_,rfl,h1,h2.symm⟩
 ·cases h
theorem QB:∀ args w,(callFunc 29 args).run Tryz.prog w=.ok (.enter 29 args) w:=Go.Proofs.enters_of Tryz.func29 (by kernel_rfl) rfl
theorem Q3 {args:List AV} {st st':StL} {r:AV} (h:Q4 args st=some (r,st')) (w:World) (m:Mem) (φ:Pl) (vs:List Value) (hi:Inv w m φ (aT st)) (hr:RepL m φ args vs) (hb:∀ id,φ id≠none→id<st.length):Calls Tryz.prog 28 vs.toArray w (bK w m φ r st'):=by
 unfold Q4 at h;split at h
 rotate_left
 ·cases h
 rename_i s g cs;unfold ADL at h;split at h
 rotate_left
 ·cases h
 rename_i hg;subst hg;obtain⟨p,h1,h2⟩:=aG.1 h;obtain⟨cs',t,rfl,hp,hq⟩:=VG h2;injection hq with q1 q2;subst q1;subst q2;have hb1:∀ id,φ id≠none→id<1:=by simpa using hb
 obtain⟨x,y,rfl,e1,e2⟩:=XQ hr;rw[e1.lit_eq]
 obtain⟨pv,rfl,e3⟩:∃ pv,y=.func (.func 29) #[] #[pv]∧Rep m φ (.own 0 0) pv:=by
  cases e2 with
  | fn hc =>
   obtain⟨pv,rfl,e3⟩:=P7 hc;exact⟨pv,rfl,e3⟩
 obtain⟨i2,a1,hf,hb2⟩:=scanInner0 (U:=4) (T:=90) (s:=s) hi hb1;have hsz:(w.alloc (.cells #[.bool false] 4)).heap.size=w.heap.size+1:=by simp
 have hread:=(aX AM4).calls 29 [.own 1 0, .own 0 0] _ _ _ (by decide) h1 _ m _ [.pointer (some ⟨w.heap.size+1,0,none⟩),pv] i2
  (.cons (.own (bI _ _ _)) (.cons (e3.mono (.refl _) a1.ple) .nil)) hb2
 refine(MN s 29 pv w (fun w3=>∃ m' φ3,Inv w3 m' φ3 (aT [some (.box cs'),some (.box [.i (.lit (.string t))])])∧Adv (w2S w 4 90 s) m (p2S w φ) w3 m' φ3) QB (hread.mono ?_) ?_).mono ?_
 ·rintro e w3 ⟨v,m',φ3,rfl,hv,i3,a3,_⟩;refine⟨?_,m',φ3,i3,a3⟩
  cases hv with
  | tup hl=>cases hl;rfl
 ·rintro w3 ⟨m',φ3,i3,a3⟩;obtain⟨k1,k2⟩:=SF a3 i3 hf;exact⟨⟨t,k1⟩,⟨false,by simp[World.cell?,k2]⟩,by simp[World.frozen?,k2]⟩
 ·rintro e w' ⟨w3,t',⟨m',φ3,i3,a3⟩,ht,rfl,rfl⟩;obtain⟨k1,k2⟩:=SF a3 i3 hf;rw[k1]at ht;injection ht with ht;injection ht with ht;subst ht;have:(t.toList == [])=t.toList.isEmpty:=by cases t.toList<;>rfl
  rw[this];exact ADJ hi hb1 a1 a3 i3 hf hp _
end Go.Proofs.YtmcjmafajkeecaaGreatDoor.P
namespace Go.Av
theorem Ex.ADF {e:Ex} (hk:e.kids=[]) (h2:e.kind≠2) (hv:e.val=⟨false,0⟩):e.shp=e:=by
 obtain⟨k,c,v,ks⟩:=e;simp only[Ex.TM,Ex.ALS,Ex.NZ]at hk h2 hv;rw[Ex.dS];simp[h2,hv,hk]
theorem Ex.ZI {e:Ex} (h2:e.kind≠2) (hv:e.val=⟨false,0⟩):e.shp=.mk e.kind e.col e.val (e.kids.map Ex.shp):=by
 rw[Ex.dS,if_neg h2,hv]
end Go.Av
namespace Go.Proofs.YtmcjmafajkeecaaGreatDoor.P
open Go Go.Av
set_option maxRecDepth 4000
set_option maxHeartbeats 4000000
theorem AEJ:aH C0 23 [.int 0] []=some (.i (.agg [.bool false, .int 0]),[]):=by
 rw[aF rfl Tryz.func23 rfl rfl];simp
theorem ABE {e:Ex} (h:e.kind=2):aH C0 21 [.i (.iref e.cells)] []=some (.i (.agg (Ex.mk 2 0 ⟨false,0⟩ []).cells),[]):=by
 rw[aF rfl Tryz.func21 rfl rfl];have hc:=O9 ⟨false,0⟩;have hn:=AEJ;rw[Ex.aB e];simp at hc;simp[h,hc,hn]
theorem AJS {e:Ex} (h:e.kind≠2) (hs:e.size<1000000000):aH C0 21 [.i (.iref e.cells)] []=some (.i (.agg e.cells),[]):=by
 rw[aF rfl Tryz.func21 rfl rfl];have hc:=ABA hs;rw[Ex.aB]at hc ⊢;simp[h,hc]
end Go.Proofs.YtmcjmafajkeecaaGreatDoor.P
namespace Go.Av
def rqA (q:Pn) (j:Nat):AV :=
 .agg [.int q.kind, .int q.table,if q.exprs=[]then .nils else .osl j 5 0 q.exprs.length,if q.cols=[]then .nils else .osl (if q.exprs=[]then j else j+1) 1 0 q.cols.length,if q.kids=[]then .nils else .osl (if q.exprs=[]then(if q.cols=[]then j else j+1)else(if q.cols=[]then j+1 else j+2)) 5 0 q.kids.length]
def rqB (q:Pn):StL:=(if q.exprs=[]then []else [some (.tre 5 (Ex.aA q.exprs))])++((if q.cols=[]then []else [some (.arr 1 (aI q.cols))])++(if q.kids=[]then []else [some (.tre 5 (Pn.aA q.kids))]))
section
variable {w:World} {m:Mem}
theorem AA7 {φ:Pl} {st:StL} (hi:Inv w m φ (aT st)) (hb:∀ id,φ id≠none→id<st.length) {b len:Nat} {F:List Nat} {blk:Blk} (hbF:b∈F) (hlt:∀ f∈F,f<w.heap.size) (hfr:∀ f∈F,fH φ f) (hblk:∀ φ':Pl,BlkOk w m φ' b ⟨len,fun f=>f∈F⟩ blk) :
 Inv w m (upd φ st.length (some (b,⟨len,fun f=>f∈F⟩))) (aT (st++[some blk]))∧∀ id,upd φ st.length (some (b,⟨len,fun f=>f∈F⟩)) id≠none→id<st.length+1:=by
 have hp:PLe φ (upd φ st.length (some (b,⟨len,fun f=>f∈F⟩))):=fun i r n e=>by
  refine⟨n,?_,rfl,fun _ h=>h⟩;have:i≠st.length:=fun h=>by have:=hb i (by rw[e];simp);omega
  simp[upd,this,e]
 have hst:∀ i blk1,aT (st++[some blk]) i=some blk1→(i≠st.length∧aT st i=some blk1)∨(i=st.length∧blk1=blk):=by
  intro i blk1 h;rw[l7]at h;by_cases h1:i<st.length
  ·rw[yV h1]at h;exact .inl ⟨by omega,by rw[l7];exact h⟩
  ·rw[zB (by omega)]at h
   cases h2:i-st.length with
   | zero=>rw[h2]at h;simp at h;exact .inr ⟨by omega,h.symm⟩
   | succ j=>rw[h2]at h;simp at h
 refine⟨⟨hi.mem,?_,?_,?_⟩,?_⟩
 ·intro i blk1 h
  rcases hst i blk1 h with ⟨h1,h2⟩|⟨rfl,rfl⟩
  ·obtain⟨r,n,q1,q2,q3⟩:=hi.live i blk1 h2;exact⟨r,n,by simp[upd,h1,q1],q2,q3.mono q2.1 (fun _ _=>rfl) (.refl _) hp fun _ _ _=>rfl⟩
  ·exact⟨b,⟨len,fun f=>f∈F⟩,by simp[upd],⟨hbF,hlt⟩,hblk _⟩
 ·intro i j r r' n n' b1 b2 f e1 e2 p1 p2 o1 o2
  rcases hst i b1 e1 with ⟨h1,h2⟩|⟨rfl,rfl⟩<;>rcases hst j b2 e2 with ⟨h3,h4⟩|⟨rfl,rfl⟩
  ·simp[upd,h1]at p1;simp[upd,h3]at p2;exact hi.inj i j r r' n n' b1 b2 f h2 h4 p1 p2 o1 o2
  ·simp[upd,h1]at p1;simp[upd]at p2;obtain⟨rfl,rfl⟩:=p2;exact absurd o1 (hfr f o2 i r n p1)
  ·simp[upd,h3]at p2;simp[upd]at p1;obtain⟨rfl,rfl⟩:=p1;exact absurd o2 (hfr f o1 j r' n' p2)
  ·rfl
 ·intro i r n f e ho;by_cases h:i=st.length
  ·simp[upd,h]at e;obtain⟨rfl,rfl⟩:=e;exact hlt f ho
  ·simp[upd,h]at e;exact hi.low i r n f e ho
 ·intro id h;by_cases h1:id=st.length
  ·omega
  ·simp[upd,h1]at h;have:=hb id h;omega
theorem ABW:∀ {cs:List IV} {vs:List Value} {F:List Nat},TCells w cs vs F→kX cs=true→F=[]
 | _,_,_, .nil,_=>rfl
 | _,_,_, .lit _ r,h=>ABW r (by simp only[kX,zW]at h;exact h.2)
 | _,_,_, .isl0 _ r,h=>ABW r (by simp only[kX,zW]at h;exact h.2)
 | _,_,_, .isl (es:=es) hn _ _ _ _ _ _ _,h=>by
  cases es with
  | nil=>exact absurd rfl hn
  | cons=>simp[kX,jR]at h
theorem KA {φ:Pl} {st:StL} (hi:Inv w m φ (aT st)) (hb:∀ id,φ id≠none→id<st.length) {es:List (List IV)} {k:Nat} {v:Value} {F:List Nat} (hk0:0<k) (hk:∀ e∈es,e.length=k) (ht:TCells w [.isl es] [v] F) (hn:F.Nodup) (hm:∀ f∈F,∀ o,m f o=none) (hlt:∀ f∈F,f<w.heap.size) (hfr:∀ f∈F,fH φ f)
 (hnil:es=[]→v=.slice none 0 0) {blk:Blk} (hmk:blk=.tre k es∨(blk=.arr k es∧fP es=true)) (c:Prop) [Decidable c] (hc:c↔es=[]) :
 ∃ φ',Inv w m φ' (aT (st++if c then []else [some blk]))∧(∀ id,φ' id≠none→id<(st++if c then []else [some blk]).length)∧PLe φ φ'∧Rep m φ' (if c then .nils else .osl st.length k 0 es.length) v∧(∀ f,fH φ f→f ∉ F→fH φ' f)∧∀ id b n f,φ' id=some (b,n)→n.own f→f∈F∨φ id=some (b,n):=by
 by_cases h:c
 ·have he:=hc.1 h;simp only[h,if_true,z8];exact⟨φ,hi,hb, .refl _,by rw[hnil he];exact .nils,fun f h1 _=>h1,fun id b n f h1 _=>.inr h1⟩
 ·have he:es≠[]:=fun e=>h (hc.2 e)
  simp only[h,if_false]
  cases ht with
  | isl0=>exact absurd rfl he
  | @isl b kk cap _ us G _ _ F1 t1 t2 t3 t4 t5 t6 t7 t8 =>
   cases t8
   obtain rfl:kk=k:=by
    cases es with
    | nil=>exact absurd rfl he
    | cons a l=>rw[← t4 a (by simp),hk a (by simp)]
   obtain⟨T,t2,t9⟩:=t2;simp only[z8]at hn hm hlt hfr ⊢
   have hblk:∀ φ':Pl,BlkOk w m φ' b ⟨us.length,fun f=>f∈b::G⟩ blk:=by
    intro φ';have hfit:kk*es.length≤us.length:=y7 (zC kk t6) t5
    rcases hmk with rfl|⟨rfl,hbr⟩
    ·exact .tre (T:=T) t2 rfl hk0 t4 t7.toU hfit hn (fun f hf=>zA2 _ hf) (fun f hf o=>hm f hf o) t9
    ·have hGe:G=[]:=ABW t7 (fF hbr);subst hGe;exact .arr (T:=T) t2 rfl hk0 t4 (UA (fF hbr) t7.toI) hfit (hm b (by simp)) (fun f hf=>by simpa using hf) t9
   obtain⟨i1,i2⟩:=AA7 hi hb (b:=b) (len:=us.length) (F:=b::G) (by simp) hlt hfr hblk;refine⟨_,i1,by simpa using i2,fun i r n e=>⟨n,?_,rfl,fun _ h=>h⟩,?_,?_,?_⟩
   ·have:i≠st.length:=fun h=>by have:=hb i (by rw[e];simp);omega
    simp[upd,this,e]
   ·exact .osl (b:=b) (n:=⟨us.length,fun f=>f∈b::G⟩) (by simp[upd]) t6 (by simpa using t5) (fun _=>by simp) (fun h=>by cases h)
   ·intro f h1 h2 id r n e ho;by_cases hid:id=st.length
    ·simp[upd,hid]at e;obtain⟨rfl,rfl⟩:=e;exact h2 (zQ.2 ho)
    ·simp[upd,hid]at e;exact h1 id r n e ho
   ·intro id r n f e ho;by_cases hid:id=st.length
    ·simp[upd,hid]at e;obtain⟨rfl,rfl⟩:=e;exact .inl (zQ.2 ho)
    ·simp[upd,hid]at e;exact .inr e
end
theorem rJ {l:List Ex}:l=[]↔Ex.aA l=[]:=by cases l<;>simp[Ex.aA]
theorem rG {l:List Pn}:l=[]↔Pn.aA l=[]:=by cases l<;>simp[Pn.aA]
theorem rH {l:List Int}:l=[]↔aI l=[]:=by cases l<;>simp[aI]
theorem AOQ:∀ (l:List Ex),∀ r∈Ex.aA l,r.length=5
 | [],r,h=>by simp[Ex.aA]at h
 | a::l,r,h=>by
  simp only[Ex.aA,zQ]at h
  rcases h with rfl|h
  ·rw[Ex.aB];rfl
  ·exact AOQ l r h
theorem AOO:∀ (l:List Pn),∀ r∈Pn.aA l,r.length=5
 | [],r,h=>by simp[Pn.aA]at h
 | a::l,r,h=>by
  simp only[Pn.aA,zQ]at h
  rcases h with rfl|h
  ·exact Pn.dB _
  ·exact AOO l r h
theorem AOP:∀ (l:List Int),∀ r∈aI l,r.length=1
 | [],r,h=>by simp[aI]at h
 | a::l,r,h=>by
  simp only[aI,yQ,zQ]at h
  rcases h with rfl|h
  ·rfl
  ·exact AOP l r (by simpa [aI]using h)
theorem wM.own {wi:World} {mi:Mem} {p:Pn} {e:Ending} {w:World} (h:wM wi mi p e w):bK wi mi (fun _=>none) (rqA p 0) (rqB p) e w:=by
 obtain⟨v0,v1,v2,v3,v4,F,m,rfl,hone,hm,ha,hc⟩:=h;have ht:=hc.kc.1.toT (fun f hf=>(hc.all f hf).2.2.2.2);obtain⟨nE,nC,nK⟩:=hc.kc.2;have hnd:=hc.nd;have hall:=hc.all;clear hc;rw[Pn.aB]at ht
 cases ht with
 | lit o0 ht =>
 cases ht with
 | lit o1 ht =>
 obtain⟨FE,G,hF,tE,ht2⟩:=ht.split 1;obtain⟨FC,FK,hG,tC,tK⟩:=ht2.split 1;simp at tE tC tK;subst hG;subst hF;have n1:=zL.1 hnd;have n2:=zL.1 n1.2.1
 have i0:Inv w m (fun _=>none) (aT []):=⟨hm,fun id blk e=>by simp[aT]at e,fun id id' b b' n n' blk blk' f e=>by simp[aT]at e,fun _ _ _ _ e=>by cases e⟩
 obtain⟨φ1,i1,b1,p1,r1,f1,q1⟩:=KA (st:=[]) i0 (fun id h=>absurd rfl h) (k:=5) (by omega) (AOQ p.exprs) tE n1.1 (fun f hf=>(hall f (by simp[hf])).2.2.2.1) (fun f hf=>(hall f (by simp[hf])).2.1) (fun f hf=>(hall f (by simp[hf])).2.2.1) (fun h=>nE (rJ.2 h)) (blk:=.tre 5 (Ex.aA p.exprs)) (.inl rfl) (p.exprs=[]) rJ;have fr1:∀ f∈FC++FK,fH φ1 f:=fun f hf=>f1 f (hall f (by simp at hf ⊢;exact .inr hf)).2.2.1 fun h=>n1.2.2 f h f hf rfl
 obtain⟨φ2,i2,b2,p2,r2,f2,q2⟩:=KA i1 b1 (k:=1) (by omega) (AOP p.cols) tC n2.1 (fun f hf=>(hall f (by simp[hf])).2.2.2.1) (fun f hf=>(hall f (by simp[hf])).2.1) (fun f hf=>fr1 f (by simp[hf])) (fun h=>nC (rH.2 h)) (blk:=.arr 1 (aI p.cols)) (.inr ⟨rfl,lG _⟩) (p.cols=[]) rH;obtain⟨φ3,i3,b3,p3,r3,f3,q3⟩:=KA i2 b2 (k:=5) (by omega) (AOO p.kids) tK n2.2.1 (fun f hf=>(hall f (by simp[hf])).2.2.2.1) (fun f hf=>(hall f (by simp[hf])).2.1) (fun f hf=>f2 f (fr1 f (by simp[hf])) fun h=>n2.2.2 f h f hf rfl) (fun h=>nK (rG.2 h)) (blk:=.tre 5 (Pn.aA p.kids)) (.inl rfl) (p.kids=[]) rG;have r1:=r1.mono (.refl m) (p2.trans p3);have r2:=r2.mono (.refl m) p3;refine⟨_,m,φ3,rfl,?_,by simpa [rqB]using i3,⟨ha.size,ha.os,ha.tape,ha.output,ha.block,ha.mle,ha.mnew,(fun _ _ _ h=>by cases h),fun id b n f e1 e2=>?_⟩,by simpa [rqB]using b3⟩
 ·have ho:∀ v∈[v2,v3,v4],v.oneCell'=true:=fun v hv=>hone v (by simp at hv ⊢;rcases hv with h|h|h<;>simp[h])
  refine .agg (.cons (.i (.lit _)) rfl (.cons (.i (.lit _)) rfl (.cons ?_ (ho _ (by simp)) (.cons ?_ (ho _ (by simp)) (.cons ?_ (ho _ (by simp)) .nil)))))
  ·by_cases c1:p.exprs=[]<;>simpa [c1]using r1
  ·by_cases c1:p.exprs=[]<;>by_cases c2:p.cols=[]<;>simpa [c1,c2]using r2
  ·by_cases c1:p.exprs=[]<;>by_cases c2:p.cols=[]<;>by_cases c3:p.kids=[]<;>simpa [c1,c2,c3]using r3
 ·rcases q3 id b n f e1 e2 with h|h
  ·exact .inl (hall f (by simp[h])).1
  ·rcases q2 id b n f h e2 with h|h
   ·exact .inl (hall f (by simp[h])).1
   ·rcases q1 id b n f h e2 with h|h
    ·exact .inl (hall f (by simp[h])).1
    ·cases h
def rqZ (q:Pn) (j:Nat):List AV :=
 [.int q.kind, .int q.table,if q.exprs=[]then .i (.isl [])else .osl j 5 0 q.exprs.length,if q.cols=[]then .i (.isl [])else .osl (if q.exprs=[]then j else j+1) 1 0 q.cols.length,if q.kids=[]then .i (.isl [])else .osl (if q.exprs=[]then(if q.cols=[]then j else j+1)else(if q.cols=[]then j+1 else j+2)) 5 0 q.kids.length]
section
variable {w:World} {m:Mem}
theorem K9 {φ:Pl} {st:StL} (hi:Inv w m φ (aT st)) (hb:∀ id,φ id≠none→id<st.length) {es:List (List IV)} {k:Nat} {v:Value} {F:List Nat} (hk0:0<k) (hk:∀ e∈es,e.length=k) (ht:TCells w [.isl es] [v] F) (hn:F.Nodup) (hm:∀ f∈F,∀ o,m f o=none) (hlt:∀ f∈F,f<w.heap.size) (hfr:∀ f∈F,fH φ f)
 {blk:Blk} (hmk:blk=.tre k es∨(blk=.arr k es∧fP es=true)) (c:Prop) [Decidable c] (hc:c↔es=[]) :
 ∃ φ',Inv w m φ' (aT (st++if c then []else [some blk]))∧(∀ id,φ' id≠none→id<(st++if c then []else [some blk]).length)∧PLe φ φ'∧Rep m φ' (if c then .i (.isl [])else .osl st.length k 0 es.length) v∧(∀ f,fH φ f→f ∉ F→fH φ' f)∧∀ id b n f,φ' id=some (b,n)→n.own f→f∈F∨φ id=some (b,n):=by
 by_cases h:c
 ·have he:=hc.1 h;simp only[h,if_true,z8];refine⟨φ,hi,hb, .refl _,?_,fun f h1 _=>h1,fun id b n f h1 _=>.inr h1⟩
  cases ht with
  | isl0 hcap _=>exact .i (.isl0 _ _ hcap)
  | isl hne=>exact absurd he hne
 ·have he:es≠[]:=fun e=>h (hc.2 e)
  obtain⟨φ',h1⟩:=KA hi hb hk0 hk ht hn hm hlt hfr (fun e=>absurd e he) hmk c hc;simp only[h,if_false]at h1 ⊢;exact⟨φ',h1⟩
theorem Inv.AQ8 {φ:Pl} {l:StL} {cs cs':List AV} {b:Nat} {n:Ext} {T:TypeId} {vs:List Value} (hi:Inv w m φ (aT (some (.box cs)::l))) (e:φ 0=some (b,n)) (hh:w.heap[b]?=some (.cells vs.toArray T (0,0))) (hl:vs.length=n.len) (hr:RepC m φ cs' vs) (hm:∀ o,m b o=none):Inv w m φ (aT (some (.box cs')::l)):=by
 have hst:∀ id blk,aT (some (.box cs')::l) id=some blk→∃ blk',aT (some (.box cs)::l) id=some blk'∧((id=0∧blk=.box cs')∨(id≠0∧blk'=blk)):=by
  intro id blk h
  cases id with
  | zero=>simp[aT]at h;exact⟨_,rfl, .inl ⟨rfl,h.symm⟩⟩
  | succ id=>exact⟨blk,h, .inr ⟨by omega,rfl⟩⟩
 refine⟨hi.mem,fun id blk h=>?_,fun id id' b1 b2 n1 n2 k1 k2 f h1 h2=>?_,hi.low⟩
 ·obtain⟨blk',h1,h2⟩:=hst id blk h;obtain⟨b1,n1,q1,q2,q3⟩:=hi.live id blk' h1
  rcases h2 with ⟨rfl,rfl⟩|⟨h2,rfl⟩
  ·rw[e]at q1;injection q1 with q1;injection q1 with e1 e2;subst e1;subst e2
   exact⟨_,_,e,q2, .box hh hl hr hm⟩
  ·exact⟨b1,n1,q1,q2,q3⟩
 ·obtain⟨k1',g1,_⟩:=hst id k1 h1;obtain⟨k2',g2,_⟩:=hst id' k2 h2;exact hi.inj id id' b1 b2 n1 n2 k1' k2' f g1 g2
theorem J3 {es:List (List IV)} (hw:∀ r∈es,r.length=5):∀ i,es.flatten.take (5*i)=(es.take i).flatten∧es.flatten.drop (5*i)=(es.drop i).flatten:=by
 induction es with
 | nil=>intro i;simp
 | cons a l ih =>
  intro i;have ha:=hw a (by simp)
  cases i with
  | zero=>simp
  | succ i =>
   obtain⟨h1,h2⟩:=ih (fun r hr=>hw r (by simp[hr])) i;have e1:5*(i+1)=a.length+5*i:=by omega
   simp only[zD,yA,xM];rw[e1,List.take_length_add_append,List.drop_length_add_append,h1,h2];exact⟨rfl,rfl⟩
structure DIn (w:World) (m:Mem) (b:Nat) (n:Ext) (es:List (List IV)) (i:Nat) (pre row post:List Value) (F1 F2 F3:List Nat):Prop where
 heap:∃ T:TypeId,w.heap[b]?=some (.cells (pre++(row++post)).toArray T (0,0))
 len:(pre++(row++post)).length=n.len
 lp:pre.length=5*i
 lr:row.length=5
 fit:5*es.length≤n.len
 one:∀ v∈pre++(row++post),v.oneCell'=true
 u1:UCells w m (es.take i).flatten pre F1
 u3:UCells w m (es.drop (i+1)).flatten (post.take (5*(es.length-(i+1)))) F3
 nd:(b::(F1++(F2++F3))).Nodup
 own:∀ f∈b::(F1++(F2++F3)),n.own f
 unk:∀ f,n.own f→∀ o,m f o=none
 lt:∀ f,n.own f→f<w.heap.size
 wid:∀ r∈es,r.length=5
theorem AJG {φ:Pl} {es:List (List IV)} {i:Nat} {q:Pn} (hi:Inv w m φ (aT [some (.tre 5 es)])) {b:Nat} {n:Ext} (e:φ 0=some (b,n)) (hq:es[i]?=some q.cells) :
 ∃ pre row post F1 F2 F3 φ',DIn w m b n es i pre row post F1 F2 F3∧Inv w m φ' (aT (some (.box (gI pre (rqZ q 1) post))::rqB q))∧φ' 0=some (b,⟨n.len,fun f=>f∈[b]⟩)∧(∀ id,φ' id≠none→id<(some (Blk.box (gI pre (rqZ q 1) post))::rqB q).length)∧∀ id b' n' f,φ' id=some (b',n')→n'.own f→f∈b::F2:=by
 obtain⟨⟨hob,hlt⟩,hok⟩:=bW hi e rfl
 cases hok with
 | @tre T k _ vs F hh hlen hk hw hu hfit hnd hF hm hone =>
  have hil:=(zX.1 hq).1;obtain⟨f1,f2⟩:=J3 hw i;obtain⟨F1,Fr,rfl,u1,ur⟩:=hu.split (5*i);obtain⟨F2,F3,rfl,u2,u3⟩:=ur.split 5;rw[f1]at u1;rw[f2]at u2 u3
  have hdr:es.drop i=q.cells::es.drop (i+1):=by
   obtain⟨h,h'⟩:=zX.1 hq;rw[← h'];exact yL h
  have hq5:q.cells.length=5:=hw _ (zU hq);rw[hdr,zD]at u2 u3;rw[← hq5,xX]at u2;rw[← hq5,List.drop_left]at u3;rw[hq5]at u2 u3;have e1:(vs.take (5*es.length)).take (5*i)=vs.take (5*i):=by rw[zF];congr 1;omega
  have e2:((vs.take (5*es.length)).drop (5*i)).take 5=(vs.drop (5*i)).take 5:=by
   rw[xJ,zF];congr 1;omega
  have e3:((vs.take (5*es.length)).drop (5*i)).drop 5=(vs.drop (5*i+5)).take (5*(es.length-(i+1))):=by
   rw[xI,xJ];congr 1;omega
  rw[e1]at u1;rw[e2]at u2;rw[e3]at u3;have t2:=u2.pure (Pn.JD q)
  have hvs:vs=vs.take (5*i)++((vs.drop (5*i)).take 5++vs.drop (5*i+5)):=by
   rw[← List.drop_drop,xW,xW]
  have hl5:((vs.drop (5*i)).take 5).length=5:=by simp;omega
  generalize hpre:vs.take (5*i)=pre at *
  generalize hrow:(vs.drop (5*i)).take 5=row at *
  generalize hpost:vs.drop (5*i+5)=post at *
  have hpl:pre.length=5*i:=by rw[← hpre];simp;omega
  subst hvs
  have hown:∀ f∈b::(F1++(F2++F3)),n.own f:=fun f hf=>by
   rcases zQ.1 hf with rfl|hf
   ·exact hob
   ·exact hF f hf
  have hdin:DIn w m b n es i pre row post F1 F2 F3:=⟨⟨T,hh⟩,hlen,hpl,hl5,hfit,hone,u1,u3,hnd,hown,hm,hlt,hw⟩
  refine⟨pre,row,post,F1,F2,F3,?_⟩
  have hnd2:F2.Nodup∧b ∉ F2:=by
   have h1:=zA.1 hnd;exact⟨(zL.1 (zL.1 h1.2).2.1).1,fun h=>h1.1 (by simp[h])⟩
  rw[Pn.aB]at t2
  obtain⟨v0,v1,v2,v3,v4,rfl⟩:∃ v0 v1 v2 v3 v4,row=[v0,v1,v2,v3,v4]:=by
   match row,hl5 with
   | [a,b,c,d,e],_=>exact⟨a,b,c,d,e,rfl⟩
  cases t2 with
  | lit o0 t2 =>
  cases t2 with
  | lit o1 t2 =>
  obtain⟨FE,G,hF2,tE,ht2⟩:=t2.split 1;obtain⟨FC,FK,hG,tC,tK⟩:=ht2.split 1;simp at tE tC tK;subst hG;subst hF2;have n1:=zL.1 hnd2.1;have n2:=zL.1 n1.2.1
  have hall:∀ f∈FE++(FC++FK),(∀ o,m f o=none)∧f<w.heap.size∧f≠b:=fun f hf=>by
   have ho:n.own f:=hown f (by simp at hf ⊢;rcases hf with h|h|h<;>simp[h]);exact⟨hm f ho,hlt f ho,fun h=>hnd2.2 (h ▸ hf)⟩
  have i0:Inv w m (fun _=>none) (aT []):=⟨hi.mem,fun id blk e=>by simp[aT]at e,fun id id' b b' n n' blk blk' f e=>by simp[aT]at e,fun _ _ _ _ e=>by cases e⟩
  have hbox:∀ φ':Pl,BlkOk w m φ' b ⟨n.len,fun f=>f∈[b]⟩ (.box (dR (pre++([.int .i64 q.kind, .int .i64 q.table,v2,v3,v4]++post)))):=fun φ'=>.box hh hlen (kM hone) (hm b hob)
  obtain⟨i1,b1⟩:=AA7 (st:=[]) i0 (fun id h=>absurd rfl h) (b:=b) (len:=n.len) (F:=[b]) (by simp) (fun f hf=>by simp at hf;subst hf;exact hlt _ hob) (fun f hf id r n' e=>by cases e) hbox
  have fr0:∀ f∈FE++(FC++FK),fH (upd (fun _=>none) ([]:StL).length (some (b,(⟨n.len,fun f=>f∈[b]⟩:Ext)))) f:=fun f hf id r n' e ho=>by
   by_cases hid:id=([]:StL).length
   ·simp[upd,hid]at e;obtain⟨rfl,rfl⟩:=e;exact(hall f hf).2.2 (by simpa using ho)
   ·simp only[upd,if_neg hid]at e
    cases e
  obtain⟨φ1,i1,b1,p1,r1,f1,q1⟩:=K9 i1 b1 (k:=5) (by omega) (AOQ q.exprs) tE n1.1 (fun f hf=>(hall f (by simp[hf])).1) (fun f hf=>(hall f (by simp[hf])).2.1) (fun f hf=>fr0 f (by simp[hf])) (blk:=.tre 5 (Ex.aA q.exprs)) (.inl rfl) (q.exprs=[]) rJ;have fr1:∀ f∈FC++FK,fH φ1 f:=fun f hf=>f1 f (fr0 f (by simp at hf ⊢;exact .inr hf)) fun h=>n1.2.2 f h f hf rfl
  obtain⟨φ2,i2,b2,p2,r2,f2,q2⟩:=K9 i1 b1 (k:=1) (by omega) (AOP q.cols) tC n2.1 (fun f hf=>(hall f (by simp[hf])).1) (fun f hf=>(hall f (by simp[hf])).2.1) (fun f hf=>fr1 f (by simp[hf])) (blk:=.arr 1 (aI q.cols)) (.inr ⟨rfl,lG _⟩) (q.cols=[]) rH;obtain⟨φ3,i3,b3,p3,r3,f3,q3⟩:=K9 i2 b2 (k:=5) (by omega) (AOO q.kids) tK n2.2.1 (fun f hf=>(hall f (by simp[hf])).1) (fun f hf=>(hall f (by simp[hf])).2.1) (fun f hf=>f2 f (fr1 f (by simp[hf])) fun h=>n2.2.2 f h f hf rfl) (blk:=.tre 5 (Pn.aA q.kids)) (.inl rfl) (q.kids=[]) rG;have r1:=r1.mono (.refl m) (p2.trans p3);have r2:=r2.mono (.refl m) p3;have hbn:b ∉ FE++(FC++FK):=hnd2.2
  have hz:φ3 0=some (b,(⟨n.len,fun f=>f∈[b]⟩:Ext)):=by
   obtain⟨n',e',_,ho⟩:=(p1.trans (p2.trans p3)) 0 b ⟨n.len,fun f=>f∈[b]⟩ (by simp[upd]);have hob':=ho b (by simp)
   rcases q3 0 b n' b e' hob' with h|h
   ·exact absurd (by simp[h]) hbn
   ·rcases q2 0 b n' b h hob' with h|h
    ·exact absurd (by simp[h]) hbn
    ·rcases q1 0 b n' b h hob' with h|h
     ·exact absurd (by simp[h]) hbn
     ·rw[e',← h];simp[upd]
  have hst:(([]++[some (Blk.box (dR (pre++([.int .i64 q.kind, .int .i64 q.table,v2,v3,v4]++post))))]++if q.exprs=[]then []else [some (Blk.tre 5 (Ex.aA q.exprs))])++if q.cols=[]then []else [some (Blk.arr 1 (aI q.cols))])++(if q.kids=[]then []else [some (Blk.tre 5 (Pn.aA q.kids))])=some (Blk.box (dR (pre++([.int .i64 q.kind, .int .i64 q.table,v2,v3,v4]++post))))::rqB q:=by
   simp[rqB]
  rw[hst]at i3 b3;refine⟨φ3,hdin,i3.AQ8 hz hh hlen ?_ (hm b hob),hz,by simpa using b3,fun id b' n' f e1 e2=>?_⟩
  ·have ho:∀ v∈[v2,v3,v4],v.oneCell'=true:=fun v hv=>hone v (by simp at hv ⊢;rcases hv with h|h|h<;>simp[h])
   have hrow:RepC m φ3 (rqZ q 1) [.int .i64 q.kind, .int .i64 q.table,v2,v3,v4]:=by
    refine .cons (.i (.lit _)) rfl (.cons (.i (.lit _)) rfl (.cons ?_ (ho _ (by simp)) (.cons ?_ (ho _ (by simp)) (.cons ?_ (ho _ (by simp)) .nil))))
    ·by_cases c1:q.exprs=[]<;>simpa [c1]using r1
    ·by_cases c1:q.exprs=[]<;>by_cases c2:q.cols=[]<;>simpa [c1,c2]using r2
    ·by_cases c1:q.exprs=[]<;>by_cases c2:q.cols=[]<;>by_cases c3:q.kids=[]<;>simpa [c1,c2,c3]using r3
   exact(kM fun v hv=>hone v (by simp[hv])).append (hrow.append (kM fun v hv=>hone v (by simp[hv])))
  ·rcases q3 id b' n' f e1 e2 with h|h
   ·simp[h]
   ·rcases q2 id b' n' f h e2 with h|h
    ·simp[h]
    ·rcases q1 id b' n' f h e2 with h|h
     ·simp[h]
     ·by_cases hid:id=([]:StL).length
      ·simp[upd,hid]at h;obtain⟨rfl,rfl⟩:=h;simp at e2;simp[e2]
      ·simp only[upd,if_neg hid]at h
       cases h
theorem AFB {φ:Pl} {st:Store} (hi:Inv w m φ st) {j k:Nat} {es:List (List IV)} {v:Value} {blk:Blk} (hk:0<k) (hw:∀ e∈es,e.length=k) (hne:es≠[]) (hr:Rep m φ (.osl j k 0 es.length) v) (hs:st j=some blk) (hmk:(blk=.tre k es∧jA es=true)∨(blk=.arr k es∧fP es=true)) :
 ∃ F b n,φ j=some (b,n)∧TCells w [.isl es] [v] F∧F.Nodup∧∀ f∈F,n.own f:=by
 have hl0:0<es.length:=y9.2 hne
 cases hr with
 | @osl _ _ _ _ cap b n ao e hlc hcap ha1 ha2 =>
  have hao:=ha1 (by omega);subst hao;obtain⟨⟨hob,hlt⟩,hok⟩:=bW hi e hs
  rcases hmk with ⟨rfl,hp⟩|⟨rfl,hp⟩
  ·cases hok with
   | @tre T _ _ us F hh hlen hpos hw1 hcu hfit hnd hF hm hone =>
    have hc:=hcu.pure (kF hp);have:=TCells.isl (w:=w) (b:=b) (k:=k) (cap:=cap) (us:=us) (G:=F) hne ⟨T,hh,hone⟩ hpos hw1 (by rw[hlen];simpa using hcap) hlc hc .nil;rw[z8]at this;refine⟨b::F,b,n,e,by simpa using this,hnd,fun f hf=>?_⟩
    rcases zQ.1 hf with rfl|hf
    ·exact hob
    ·exact hF f hf
  ·cases hok with
   | @arr T _ _ us hh hlen hpos hw1 hcu hfit hm hown hone =>
    have hc:=OZ (w:=w) (fF hp) hcu;have:=TCells.isl (w:=w) (b:=b) (k:=k) (cap:=cap) (us:=us) (G:=[]) hne ⟨T,hh,hone⟩ hpos hw1 (by rw[hlen];simpa using hcap) hlc hc .nil;rw[z8]at this;refine⟨[b],b,n,e,by simpa using this,by simp,fun f hf=>by simp at hf;subst hf;exact hob⟩
theorem LC {φ:Pl} {st:Store} (hi:Inv w m φ st) {j k:Nat} {es:List (List IV)} {v:Value} {blk:Blk} (hk:0<k) (hw:∀ e∈es,e.length=k) (c:Prop) [Decidable c] (hc:c↔es=[]) (hr:Rep m φ (if c then .i (.isl [])else .osl j k 0 es.length) v) (hs:¬ c→st j=some blk) (hmk:(blk=.tre k es∧jA es=true)∨(blk=.arr k es∧fP es=true)) :
 ∃ F,TCells w [.isl es] [v] F∧F.Nodup∧∀ f∈F,¬ c∧∃ b n,φ j=some (b,n)∧n.own f:=by
 by_cases h:c
 ·have he:=hc.1 h;simp only[h,if_true]at hr;subst he
  cases hr with
  | i hr =>
   cases hr with
   | isl0 ao cap hcap=>exact⟨[], .isl0 hcap .nil,by simp,by simp⟩
   | isl hne=>exact absurd rfl hne
 ·have he:es≠[]:=fun e=>h (hc.2 e)
  simp only[h,if_false]at hr;obtain⟨F,b,n,h1,h2,h3,h4⟩:=AFB hi hk hw he hr (hs h) hmk;exact⟨F,h2,h3,fun f hf=>⟨h,b,n,h1,h4 f hf⟩⟩
theorem ZK {q:Pn} {j:Nat} {x:Option Blk} (h:(rqB q)[j]?=some x):∃ k es,(x=some (.tre k es)∧jA es=true)∨(x=some (.arr k es)∧fP es=true):=by
 have hm:=zU h;unfold rqB at hm
 rcases zV.1 hm with hm|hm
 ·split at hm
  ·cases hm
  ·simp at hm;exact⟨5,_, .inl ⟨hm,Ex.iY _⟩⟩
 ·rcases zV.1 hm with hm|hm
  ·split at hm
   ·cases hm
   ·simp at hm;exact⟨1,_, .inr ⟨hm,lG _⟩⟩
  ·split at hm
   ·cases hm
   ·simp at hm;exact⟨5,_, .inl ⟨hm,Pn.iY _⟩⟩
theorem ADN {φ:Pl} {X:Option Blk} {q:Pn} {row:List Value} (hi:Inv w m φ (aT (X::rqB q))) (hr:RepC m φ (rqZ q 1) row) :
 ∃ F,TCells w q.cells row F∧F.Nodup∧∀ f∈F,∃ id b n,id≠0∧id<(X::rqB q).length∧φ id=some (b,n)∧n.own f:=by
 unfold rqZ at hr
 cases hr with
 | cons a0 o0 hr =>
 cases hr with
 | cons a1 o1 hr =>
 cases hr with
 | cons a2 o2 hr =>
 cases hr with
 | cons a3 o3 hr =>
 cases hr with
 | cons a4 o4 hr =>
 cases hr
 have z0:=a0.lit_eq;have z1:=a1.lit_eq;subst z0;subst z1;rw[← Ex.aV q.exprs]at a2;rw[← AL q.cols]at a3;rw[← Pn.aV q.kids]at a4;obtain⟨FE,tE,nE,oE⟩:=LC hi (k:=5) (by omega) (AOQ q.exprs) (q.exprs=[]) rJ a2 (blk:=.tre 5 (Ex.aA q.exprs)) (fun h=>by simp[rqB,h,aT]) (.inl ⟨rfl,Ex.iY _⟩);obtain⟨FC,tC,nC,oC⟩:=LC hi (k:=1) (by omega) (AOP q.cols) (q.cols=[]) rH a3 (blk:=.arr 1 (aI q.cols)) (fun h=>by by_cases h1:q.exprs=[]<;>simp[rqB,h,h1,aT]) (.inr ⟨rfl,lG _⟩);obtain⟨FK,tK,nK,oK⟩:=LC hi (k:=5) (by omega) (AOO q.kids) (q.kids=[]) rG a4 (blk:=.tre 5 (Pn.aA q.kids)) (fun h=>by by_cases h1:q.exprs=[]<;>by_cases h2:q.cols=[]<;>simp[rqB,h,h1,h2,aT]) (.inl ⟨rfl,Pn.iY _⟩)
 have hdis:∀ (i j:Nat) (f:Nat),i≠j→(∃ b n,φ i=some (b,n)∧n.own f)→(∃ b n,φ j=some (b,n)∧n.own f)→(∃ x,aT (X::rqB q) i=some x)→(∃ x,aT (X::rqB q) j=some x)→False:=by
  rintro i j f hne ⟨b,n,e,ho⟩ ⟨b',n',e',ho'⟩ ⟨x,hx⟩ ⟨y,hy⟩;exact hne (hi.inj i j b b' n n' x y f hx hy e e' ho ho')
 have sE:¬ q.exprs=[]→aT (X::rqB q) 1=some (.tre 5 (Ex.aA q.exprs)):=fun h=>by simp[rqB,h,aT]
 have sC:¬ q.cols=[]→aT (X::rqB q) (if q.exprs=[]then 1 else 1+1)=some (.arr 1 (aI q.cols)):=fun h=>by by_cases h1:q.exprs=[]<;>simp[rqB,h,h1,aT]
 have sK:¬ q.kids=[]→aT (X::rqB q) (if q.exprs=[]then(if q.cols=[]then 1 else 1+1)else(if q.cols=[]then 1+1 else 1+2))=some (.tre 5 (Pn.aA q.kids)):=fun h=>by by_cases h1:q.exprs=[]<;>by_cases h2:q.cols=[]<;>simp[rqB,h,h1,h2,aT]
 refine⟨FE++(FC++FK),?_,?_,?_⟩
 ·rw[Pn.aB];have:=tE.append (tC.append tK);exact .lit o0 (.lit o1 (by simpa using this))
 ·refine zL.2 ⟨nE,zL.2 ⟨nC,nK,fun x hx y hy e=>?_⟩,fun x hx y hy e=>?_⟩
  ·subst e;obtain⟨c1,h1⟩:=oC x hx;obtain⟨c2,h2⟩:=oK x hy;exact hdis _ _ x (by by_cases g1:q.exprs=[]<;>simp[g1,c1]) h1 h2 ⟨_,sC c1⟩ ⟨_,sK c2⟩
  ·subst e;obtain⟨c1,h1⟩:=oE x hx
   rcases zV.1 hy with hy|hy
   ·obtain⟨c2,h2⟩:=oC x hy;exact hdis _ _ x (by simp[c1]) h1 h2 ⟨_,sE c1⟩ ⟨_,sC c2⟩
   ·obtain⟨c2,h2⟩:=oK x hy;exact hdis _ _ x (by by_cases g1:q.cols=[]<;>simp[g1,c1]) h1 h2 ⟨_,sE c1⟩ ⟨_,sK c2⟩
 ·intro f hf
  rcases zV.1 hf with hf|hf
  ·obtain⟨c,b,n,h1,h2⟩:=oE f hf;exact⟨1,b,n,by omega,by simp[rqB,c],h1,h2⟩
  ·rcases zV.1 hf with hf|hf
   ·obtain⟨c,b,n,h1,h2⟩:=oC f hf;exact⟨_,b,n,by split<;>omega,by by_cases g1:q.exprs=[]<;>simp[rqB,c,g1],h1,h2⟩
   ·obtain⟨c,b,n,h1,h2⟩:=oK f hf;exact⟨_,b,n,by split<;>split<;>omega,by by_cases g1:q.exprs=[]<;>by_cases g2:q.cols=[]<;>simp[rqB,c,g1,g2],h1,h2⟩
theorem AEP {φ φ':Pl} {es:List (List IV)} {i:Nat} {q q':Pn} {b:Nat} {n:Ext} {pre row post:List Value} {F1 F2 F3:List Nat} (hi:Inv w m φ (aT [some (.tre 5 es)])) (e:φ 0=some (b,n)) (hb1:∀ id,φ id≠none→id<1) (hil:i<es.length) (hd:DIn w m b n es i pre row post F1 F2 F3)
 (e':φ' 0=some (b,⟨n.len,fun f=>f∈[b]⟩)) (hb':∀ id,φ' id≠none→id<1+(rqB q).length) (ho':∀ id b' n' f,φ' id=some (b',n')→n'.own f→f∈b::F2) (hlen:(rqB q').length=(rqB q).length)
 {w2:World} {m2:Mem} {φ2:Pl} (i2:Inv w2 m2 φ2 (aT (some (.box (gI pre (rqZ q' 1) post))::rqB q'))) (a2:Adv w m φ' w2 m2 φ2) :
 ∃ φ3,Inv w2 m2 φ3 (aT [some (.tre 5 (es.set i q'.cells))])∧Adv w m φ w2 m2 φ3∧∀ id,φ3 id≠none→id<1:=by
 obtain⟨n2,e2,hl2,-⟩:=a2.ple 0 b _ e';obtain⟨⟨hob2,hlt2⟩,hok⟩:=bW i2 e2 rfl
 cases hok with
 | @box T _ vs2 hh hvl hrc hm2 =>
  have hone2:=hrc.one;obtain⟨p2,x,rfl,r1,r2⟩:=lS hrc;obtain⟨row2,q2,rfl,r3,r4⟩:=lS r2;obtain rfl:=(r9 r1).symm;obtain rfl:=(r9 r4).symm;obtain⟨G,tG,nG,oG⟩:=ADN i2 r3;have hrl:row2.length=5:=by rw[← tG.length,Pn.aB];rfl
  have hfree:∀ f,f ∉ b::F2→fH φ' f:=fun f hf id b1 n1 e1 ho=>hf (ho' id b1 n1 f e1 ho)
  have hsame:∀ f,n.own f→f ∉ b::F2→w2.heap[f]?=w.heap[f]?:=fun f h1 h2=>a2.block f (hd.lt f h1) (hfree f h2)
  have hnd:=hd.nd;have nb:=zA.1 hnd;have n1:=zL.1 nb.2;have n2':=zL.1 n1.2.1
  have in1:∀ f∈F1,n.own f∧f ∉ b::F2:=fun f hf=>⟨hd.own f (by simp[hf]),fun h=>by
   rcases zQ.1 h with h|h
   ·exact nb.1 (by simp[← h,hf])
   ·exact n1.2.2 f hf f (by simp[h]) rfl⟩
  have in3:∀ f∈F3,n.own f∧f ∉ b::F2:=fun f hf=>⟨hd.own f (by simp[hf]),fun h=>by
   rcases zQ.1 h with h|h
   ·exact nb.1 (by simp[← h,hf])
   ·exact n2'.2.2 f h f hf rfl⟩
  have hG:∀ f∈G,f≠b∧(w.heap.size≤f∨f∈F2)∧f<w2.heap.size∧∀ o,m2 f o=none:=by
   intro f hf;obtain⟨id,b1,k1,h0,hlt,h1,h2⟩:=oG f hf
   obtain⟨j,rfl⟩:∃ j,id=j+1:=⟨id-1,by omega⟩
   have hget:∃ x,(rqB q')[j]?=some x:=⟨_,zT (by simpa using hlt)⟩
   obtain⟨x,hx⟩:=hget;obtain⟨k,es1,hk⟩:=ZK hx
   have hst:aT (some (Blk.box (gI pre (rqZ q' 1) post))::rqB q') (j+1)=x:=by
    rw[l7];simp[hx]
   have hne:f≠b:=by
    rintro rfl
    rcases hk with ⟨rfl,_⟩|⟨rfl,_⟩
    ·have:=i2.inj (j+1) 0 _ _ _ _ _ _ f hst rfl h1 e2 h2 hob2;omega
    ·have:=i2.inj (j+1) 0 _ _ _ _ _ _ f hst rfl h1 e2 h2 hob2;omega
   refine⟨hne,?_,i2.low _ _ _ f h1 h2,?_⟩
   ·rcases a2.pnew _ _ _ f h1 h2 with h|h
    ·exact .inl h
    ·have:f∈b::F2:=Classical.byContradiction fun hc=>h (hfree f hc)
     rcases zQ.1 this with h|h
     ·exact absurd h hne
     ·exact .inr h
   ·rcases hk with ⟨rfl,_⟩|⟨rfl,_⟩
    ·obtain⟨_,hok⟩:=bW i2 h1 hst
     cases hok with
     | tre _ _ _ _ _ _ _ _ hu _=>exact hu f h2
    ·obtain⟨_,hok⟩:=bW i2 h1 hst
     cases hok with
     | arr _ _ _ _ _ _ hu hw' _=>rw[hw' f h2];exact hu
  have hlive:∀ f,n.own f→∀ o,m2 f o=none:=by
   intro f hf o;by_cases hfr:fH φ' f
   ·rw[a2.mnew f (hd.lt f hf) hfr o];exact hd.unk f hf o
   ·obtain⟨id,b1,k1,h1,h2⟩:∃ id b1 k1,φ' id=some (b1,k1)∧k1.own f:=Classical.byContradiction fun hc=>hfr fun id b1 k1 h1 h2=>hc ⟨id,b1,k1,h1,h2⟩
    have hid:=hb' id (by rw[h1];simp);obtain⟨k2,h3,_,h4⟩:=a2.ple id b1 k1 h1
    cases id with
    | zero =>
     rw[e']at h1;injection h1 with h1;injection h1 with g1 g2;subst g1;subst g2;have:f=b:=by simpa using h2
     subst this;exact hm2 o
    | succ j =>
     obtain⟨x,hx⟩:∃ x,(rqB q')[j]?=some x:=⟨_,zT (by omega)⟩
     obtain⟨k,es1,hk⟩:=ZK hx
     have hst:aT (some (Blk.box (gI pre (rqZ q' 1) post))::rqB q') (j+1)=x:=by
      rw[l7];simp[hx]
     rcases hk with ⟨rfl,_⟩|⟨rfl,_⟩
     ·obtain⟨_,hok⟩:=bW i2 h3 hst
      cases hok with
      | tre _ _ _ _ _ _ _ _ hu _=>exact hu f (h4 f h2) o
     ·obtain⟨_,hok⟩:=bW i2 h3 hst
      cases hok with
      | arr _ _ _ _ _ _ hu hw' _=>rw[hw' f (h4 f h2)];exact hu o
  have hset:es.set i q'.cells=es.take i++q'.cells::es.drop (i+1):=by rw[xB,if_pos hil]
  have hq5:q'.cells.length=5:=by rw[Pn.aB];rfl
  have u1:=hd.u1.mono a2.mle fun f hf=>hsame f (in1 f hf).1 (in1 f hf).2
  have u3:=hd.u3.mono a2.mle fun f hf=>hsame f (in3 f hf).1 (in3 f hf).2
  have uu:=u1.append (tG.toU.append u3);have hfl:(es.set i q'.cells).flatten=(es.take i).flatten++(q'.cells++(es.drop (i+1)).flatten):=by rw[hset];simp
  have hlv:(pre++(row2++post)).take (5*(es.set i q'.cells).length)=pre++(row2++post.take (5*(es.length-(i+1)))):=by
   rw[xQ,yI,yI,zY (by rw[hd.lp];omega),zY (by rw[hd.lp,hrl];omega),hd.lp,hrl];congr 3;omega
  rw[← hfl,← hlv]at uu;have hlen2:(pre++(row2++post)).length=n.len:=by rw[hvl,hl2]
  have hblk:∀ φ3:Pl,BlkOk w2 m2 φ3 b ⟨n.len,fun f=>n.own f∨f∈G⟩ (.tre 5 (es.set i q'.cells)):=by
   intro φ3;refine .tre (T:=T) hh hlen2 (by omega) ?_ uu (by rw[xQ];exact hd.fit) ?_ ?_ ?_ hone2
   ·intro r hr
    rcases xC hr with h|h
    ·exact hd.wid r h
    ·rw[h];exact hq5
   ·refine zA.2 ⟨fun h=>?_,zL.2 ⟨n1.1,zL.2 ⟨nG,n2'.2.1,fun x hx y hy e=>?_⟩,fun x hx y hy e=>?_⟩⟩
    ·rcases zV.1 h with h|h
     ·exact nb.1 (by simp[h])
     ·rcases zV.1 h with h|h
      ·exact(hG b h).1 rfl
      ·exact nb.1 (by simp[h])
    ·subst e
     rcases(hG x hx).2.1 with h|h
     ·have:=hd.lt x (in3 x hy).1;omega
     ·exact(in3 x hy).2 (by simp[h])
    ·subst e
     rcases zV.1 hy with hy|hy
     ·rcases(hG x hy).2.1 with h|h
      ·have:=hd.lt x (in1 x hx).1;omega
      ·exact(in1 x hx).2 (by simp[h])
     ·exact n1.2.2 x hx x (by simp[hy]) rfl
   ·intro f hf
    rcases zV.1 hf with hf|hf
    ·exact .inl (in1 f hf).1
    ·rcases zV.1 hf with hf|hf
     ·exact .inr hf
     ·exact .inl (in3 f hf).1
   ·intro f hf
    rcases hf with hf|hf
    ·exact hlive f hf
    ·exact(hG f hf).2.2.2
  have hobn:n.own b:=hd.own b (by simp)
  have hown3:∀ f,(n.own f∨f∈G)→f<w2.heap.size:=fun f hf=>by
   rcases hf with hf|hf
   ·exact yY (hd.lt f hf) a2.size
   ·exact(hG f hf).2.2.1
  have hfr:∀ f,fH φ f→fH φ' f:=fun f hf id b1 n1 h1 h2=>by
   have:=ho' id b1 n1 f h1 h2;refine hf 0 b n e ?_
   rcases zQ.1 this with h|h
   ·rw[h];exact hobn
   ·exact hd.own f (by simp[h])
  refine⟨upd (fun _=>none) 0 (some (b,⟨n.len,fun f=>n.own f∨f∈G⟩)),⟨i2.mem,?_,?_,?_⟩,⟨a2.size,a2.os,a2.tape,a2.output,fun f h1 h2=>a2.block f h1 (hfr f h2),a2.mle,fun f h1 h2=>a2.mnew f h1 (hfr f h2),?_,?_⟩,?_⟩
  ·intro id blk h
   cases id with
   | zero =>
    simp[aT]at h;subst h;exact⟨b,⟨n.len,fun f=>n.own f∨f∈G⟩,by simp[upd],⟨Or.inl hobn,hown3⟩,hblk _⟩
   | succ id=>simp[aT]at h
  ·intro id id' b1 b2 k1 k2 x y f h1 h2
   cases id with
   | zero =>
    cases id' with
    | zero=>intros;rfl
    | succ id'=>simp[aT]at h2
   | succ id=>simp[aT]at h1
  ·intro id b1 n1 f h1 h2;by_cases hid:id=0
   ·simp[upd,hid]at h1;obtain⟨rfl,rfl⟩:=h1;exact hown3 f h2
   ·simp[upd,hid]at h1
  ·intro id b1 n1 h1;have hid:id=0:=by have:=hb1 id (by rw[h1];simp);omega
   subst hid;rw[e]at h1;injection h1 with h1;injection h1 with g1 g2;subst g1;subst g2;exact⟨⟨n.len,fun f=>n.own f∨f∈G⟩,by simp[upd],rfl,fun f hf=>Or.inl hf⟩
  ·intro id b1 n1 f h1 h2;by_cases hid:id=0
   ·simp[upd,hid]at h1;obtain⟨rfl,rfl⟩:=h1
    rcases h2 with h2|h2
    ·exact .inr (fH.not e h2)
    ·rcases(hG f h2).2.1 with h|h
     ·exact .inl h
     ·exact .inr (fH.not e (hd.own f (by simp[h])))
   ·simp[upd,hid]at h1
  ·intro id h1;by_cases hid:id=0
   ·omega
   ·simp[upd,hid]at h1
end
end Go.Av

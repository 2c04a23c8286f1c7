/- Part 4 of what the proof rests on: the executor and what it is worth, and the program's functions as it runs them. No condition. -/
import Derived.Test.YtjdfjgmebalaaaaGreatT3
set_option linter.unusedVariables false
set_option linter.unusedSimpArgs false
namespace Go.Proofs.YtjdfjgmebalaaaaGreat.P
open Go Go.Av
set_option maxRecDepth 4000
theorem p8 (n:Int):n=1∨n=2∨n=3∨n=4∨n=5∨n=6∨n=7∨n=8∨(n≠1∧n≠2∧n≠3∧n≠4∧n≠5∧n≠6∧n≠7∧n≠8):=by omega
@[simp] theorem AB2 (n:Int):aI C0 146 [.int n] []=some (.tup [.int (dR n), .int (iB n)],[]):=by
  rw[aD rfl Tryz.func146 rfl rfl]
  rcases p8 n with rfl|rfl|rfl|rfl|rfl|rfl|rfl|rfl|⟨h1,h2,h3,h4,h5,h6,h7,h8⟩
  all_goals first
   | (simp[dR,iB];done)
   | (have e1:dR n=0:=by unfold dR;rw[if_neg (by omega)]
      have e2:iB n=-1:=by unfold iB;rw[if_neg (by omega),if_neg (by omega),if_neg (by omega)]
      simp[e1,e2,h1,h2,h3,h4,h5,h6,h7,h8])
def pv (cs:List Int) (i:Nat):Int:=((-1)::cs)[i]?.getD 0
theorem Y1 {cs:List Int} {i:Nat} {c:Int} (h:cs[i]?=some c):pv cs (i+1)=c:=by simp[pv,h]
theorem uN {cs:List Int} {i:Nat} {x:Int×Int} (h:(cs.zip (-1::cs))[i]?=some x):cs[i]?=some x.1∧pv cs i=x.2:=by
 rw[List.getElem?_zip_eq_some]at h;exact⟨h.1,by simp[pv,h.2]⟩
theorem SV (cs:List Int):(cs.zip (-1::cs)).length=cs.length:=by simp
def GX (cs:List Int) (w:Int) (i:Nat):AS :=
 { env:=[(0, .i (.isl (aF cs))),(1, .int w),(4, .bool false),(5, .int (pv cs i)),(7,jk i (.int (pv cs i))),(10, .bool false),(11, .i (.isl (aF cs))),(12, .int cs.length),(13, .int i),(14,jk i (.bool true)),(24,jk i (.bool false))],st:=[] }
theorem qQ (cs:List Int) (w:Int):aI C0 174 [.i (.isl (aF cs)), .int w] []=some (.bool (decide (cs.length<6) && oM w cs),[]):=by
 rw[aD rfl Tryz.func174 rfl rfl];by_cases h6:cs.length<6
 case neg=>simp[h6,show(6:Int)≤cs.length by omega]
 simp[h6,show ¬ (6:Int)≤cs.length by omega];obtain⟨j,h1,h2⟩:=fP (fun x:Int×Int=>decide (x.2<x.1∧x.1<w)) (cs.zip (-1::cs));rw[aO (GX cs w) j (by simp[GX,pv])]
 ·rw[aG]
  rcases h2 with ⟨hj,ha⟩|⟨x,h3,_,h4,ha⟩
  ·rw[SV]at hj;have ha:oM w cs=true:=ha;simp[GX,hj,ha]
  ·obtain⟨c1,c2⟩:=uN h3;have r1:=(zZ.1 c1).1;have r2:=aW c1;have hb:¬ (x.2<x.1∧x.1<w):=by simpa using h4
   have ha:oM w cs=false:=ha;by_cases hx:x.1≤x.2
   ·simp[GX,r1,r2,c2,hx,ha]
   ·simp[GX,r1,r2,c2,hx,ha,show w≤x.1 by omega]
 ·intro i hi;obtain⟨x,h3,_,h4⟩:=h1 i hi;obtain⟨c1,c2⟩:=uN h3;have r1:=(zZ.1 c1).1;have r2:=aW c1;have c3:=Y1 c1;have hb:x.2<x.1∧x.1<w:=by simpa using h4
  have w2:IntKind.i64.wrap ((i:Int)+1)=i+1:=wrO;simp[GX,r1,r2,c2,c3,w2,show ¬ x.1≤x.2 by omega,show ¬ w≤x.1 by omega]
def WX (p:Pn) (a b y:Int) (x14:Bool) (n21 n22:Nat) (x22:Bool) (n26 n27:Nat) (x27:Bool) (i:Nat):AS :=
 { env:=[(0, .i (.iref [.int p.kind, .int p.table, .isl (Ex.aB p.exprs), .isl (aF p.cols), .isl (Pn.aB p.kids)])),(1, .int a),(2, .int b),(6, .int 0),(7, .int y),(8,jk i (.int (i-1))),(13, .int p.kind),(14, .bool x14),(21,jk n21 (.bool false)),(22,jk n22 (.bool x22)),(26,jk n26 (.bool false)),(27,jk n27 (.bool x27)),(35, .junk),(46, .int p.exprs.length),(47, .int i),(48,jk i (.bool true)),(59,jk i (.bool false)),(65, .junk)],st:=[] }
theorem fD (p:Pn) (a b:Int) (ha:0≤a∧a≤6) (hb:0≤b∧b≤6) (hd:p.headOk=true):aI C0 147 [.i (.iref p.cells), .int a, .int b] []=some (.int (bT p.kind p.exprs p.cols a b),[]):=by
 rw[aD rfl Tryz.func147 rfl rfl];have he:=Pn.pI hd;rw[Pn.aA];have hg:=qQ p.cols a;have w1:IntKind.i64.wrap (a+b)=a+b:=wrO;by_cases h6:p.kind=6
 ·have h8:p.kind≠8:=by omega
  have h4:p.kind≠5:=by omega
  have hz:p.exprs=[]:=by
   simp only[Pn.headOk,zU,zP,h6]at hd;have:=hd.2.1;simp[dR]at this;exact this
  by_cases hab:a=b
  ·subst hab;simp[h6];rw[aG];simp[hz,h6,bT]
  ·simp[h6,hab,bT]
 by_cases h8:p.kind=8
 ·by_cases h9:p.cols.length<6
  ·have w3:IntKind.i64.wrap ((p.cols.length:Int)+1)=p.cols.length+1:=wrO
   cases hc:oM a p.cols<;>simp[h8,hg,h9,hc,bT,w3]
  ·simp[h8,hg,h9,bT]
 by_cases h45:p.kind=4∨p.kind=5
 ·by_cases hs:a+b≤6
  case neg=>rcases h45 with h4|h4<;>simp[h4,w1,show 6<a+b by omega,bT,hs]
  have h4:True:=trivial
  rcases h45 with h45|h45
  ·simp[h45,w1,show ¬ 6<a+b by omega];obtain⟨j,h1,h2⟩:=fP (Ex.ok (a+b)) p.exprs;rw[aO (WX p a b (a+b) true 1 0 false 0 0 false) j (by simp[WX,h45])]
   ·rw[aG]
    rcases h2 with ⟨hj,hall⟩|⟨x,h3,_,h5,hall⟩
    ·simp[WX,hj,hall,bT,h45,hs]
    ·have r1:=(zZ.1 h3).1;have r2:=Ex.aJ h3;have r3:=ok_eq (a+b) x;rw[h5]at r3;rw[Ex.aA]at r2 r3;simp[WX,r1,r2,r3,hall,bT,h45,hs]
   ·intro i hi;obtain⟨x,h3,_,h5⟩:=h1 i hi;have r1:=(zZ.1 h3).1;have r2:=Ex.aJ h3;have r3:=ok_eq (a+b) x;rw[h5]at r3;rw[Ex.aA]at r2 r3;have w2:IntKind.i64.wrap ((i:Int)+1)=i+1:=wrO;simp[WX,r1,r2,r3,w2,h45]
  ·simp[h45,w1,show ¬ 6<a+b by omega];obtain⟨j,h1,h2⟩:=fP (Ex.ok (a+b)) p.exprs;rw[aO (WX p a b (a+b) true 1 0 false 0 0 false) j (by simp[WX,h45])]
   ·rw[aG]
    rcases h2 with ⟨hj,hall⟩|⟨x,h3,_,h5,hall⟩
    ·simp[WX,hj,hall,bT,h45,hs]
    ·have r1:=(zZ.1 h3).1;have r2:=Ex.aJ h3;have r3:=ok_eq (a+b) x;rw[h5]at r3;rw[Ex.aA]at r2 r3;simp[WX,r1,r2,r3,hall,bT,h45,hs]
   ·intro i hi;obtain⟨x,h3,_,h5⟩:=h1 i hi;have r1:=(zZ.1 h3).1;have r2:=Ex.aJ h3;have r3:=ok_eq (a+b) x;rw[h5]at r3;rw[Ex.aA]at r2 r3;have w2:IntKind.i64.wrap ((i:Int)+1)=i+1:=wrO;simp[WX,r1,r2,r3,w2,h45]
 have h4:p.kind≠4:=by omega
 have h5':p.kind≠5:=by omega
 simp[h6,h8,h4,h5'];obtain⟨j,h1,h2⟩:=fP (Ex.ok (a)) p.exprs;rw[aO (WX p a b a false 0 1 false 0 1 false) j (by simp[WX,h6,h8,h5'])]
 ·rw[aG]
  rcases h2 with ⟨hj,hall⟩|⟨x,h3,_,h5,hall⟩
  ·by_cases h3':p.kind=3
   ·simp[WX,hj,hall,bT,h3']
   ·simp[WX,hj,hall,bT,h6,h8,h4,h5',h3']
  ·have r1:=(zZ.1 h3).1;have r2:=Ex.aJ h3;have r3:=ok_eq (a) x;rw[h5]at r3;rw[Ex.aA]at r2 r3;by_cases h3':p.kind=3
   ·simp[WX,r1,r2,r3,hall,bT,h3']
   ·simp[WX,r1,r2,r3,hall,bT,h6,h8,h4,h5',h3']
 ·intro i hi;obtain⟨x,h3,_,h5⟩:=h1 i hi;have r1:=(zZ.1 h3).1;have r2:=Ex.aJ h3;have r3:=ok_eq (a) x;rw[h5]at r3;rw[Ex.aA]at r2 r3;have w2:IntKind.i64.wrap ((i:Int)+1)=i+1:=wrO;simp[WX,r1,r2,r3,w2]
set_option maxHeartbeats 2000000
@[simp] theorem AOU:iB 1=0:=by decide
@[simp] theorem ANI:dR 1=0:=by decide
@[simp] theorem AOT:iB 2=1:=by decide
@[simp] theorem ANH:dR 2=1:=by decide
@[simp] theorem AOS:iB 3=1:=by decide
@[simp] theorem ANG:dR 3=1:=by decide
@[simp] theorem AOR:iB 4=2:=by decide
@[simp] theorem ANF:dR 4=1:=by decide
@[simp] theorem AOQ:iB 5=2:=by decide
@[simp] theorem ANE:dR 5=1:=by decide
@[simp] theorem AOP:iB 6=2:=by decide
@[simp] theorem ANC:dR 6=0:=by decide
@[simp] theorem AOO:iB 7=1:=by decide
@[simp] theorem ANB:dR 7=0:=by decide
@[simp] theorem AON:iB 8=1:=by decide
@[simp] theorem ANA:dR 8=0:=by decide
theorem RI {k:Int} (h:k≠1∧k≠2∧k≠3∧k≠4∧k≠5∧k≠6∧k≠7∧k≠8):iB k=-1:=by
 unfold iB;rw[if_neg (by omega),if_neg (by omega),if_neg (by omega)]
theorem QG {ws:List Int} {t:Int} {es:List Ex} {cs:List Int} {ks:List Pn} {lv:Nat} {k:Int} (h:k≠1∧k≠2∧k≠3∧k≠4∧k≠5∧k≠6∧k≠7∧k≠8):aI C0 109 [.i (.iref [.int k, .int t, .isl (Ex.aB es), .isl (aF cs), .isl (Pn.aB ks)]), .i (.isl (aF ws)), .int lv] []=some (.int 0,[]):=by
 rw[aD rfl Tryz.func109 rfl rfl];have c1:¬ (ks.length:Int)=-1:=by omega
 have hn:=RI h;simp[h.2.2.1,hn,c1]
theorem AAG {ws:List Int} {t:Int} {es:List Ex} {cs:List Int} {ks:List Pn} {lv:Nat} (h:¬ ((ks.length:Int)=0∧(es.length:Int)=0∧True∧cs=[])):aI C0 109 [.i (.iref [.int 1, .int t, .isl (Ex.aB es), .isl (aF cs), .isl (Pn.aB ks)]), .i (.isl (aF ws)), .int lv] []=some (.int 0,[]):=by
 rw[aD rfl Tryz.func109 rfl rfl];by_cases c1:(ks.length:Int)=0
 case neg=>simp at c1;simp[c1]
 by_cases c2:(es.length:Int)=0
 case neg=>simp at c2;simp[c1,c2]
 by_cases c5:cs=[]
 case neg=>simp[c1,c2,c5]
 exact absurd (by simp[c1,c2,c5]) h
theorem AAF {ws:List Int} {t:Int} {es:List Ex} {cs:List Int} {ks:List Pn} {lv:Nat} (h:¬ ((ks.length:Int)=1∧(es.length:Int)=1∧lv≠0∧t=0∧cs=[])):aI C0 109 [.i (.iref [.int 2, .int t, .isl (Ex.aB es), .isl (aF cs), .isl (Pn.aB ks)]), .i (.isl (aF ws)), .int lv] []=some (.int 0,[]):=by
 rw[aD rfl Tryz.func109 rfl rfl];by_cases c1:(ks.length:Int)=1
 case neg=>simp[c1]
 by_cases c2:(es.length:Int)=1
 case neg=>simp[c1,c2]
 by_cases c3:lv=0
 case pos=>subst c3;simp[c1,c2]
 have c3':¬ (lv:Int)=0:=by omega
 by_cases c4:t=0
 case neg=>simp[c1,c2,c3,c3',c4]
 by_cases c5:cs=[]
 case neg=>simp[c1,c2,c3,c3',c4,c5]
 exact absurd (by simp[c1,c2,c3,c3',c4,c5]) h
theorem AAE {ws:List Int} {t:Int} {es:List Ex} {cs:List Int} {ks:List Pn} {lv:Nat} (h:¬ ((ks.length:Int)=1∧(es.length:Int)=(if bI es.length=true then(es.length:Int)else 1)∧lv≠0∧t=0∧cs=[])):aI C0 109 [.i (.iref [.int 3, .int t, .isl (Ex.aB es), .isl (aF cs), .isl (Pn.aB ks)]), .i (.isl (aF ws)), .int lv] []=some (.int 0,[]):=by
 rw[aD rfl Tryz.func109 rfl rfl]
 cases hv:bI es.length
 ·have hq:(es.length:Int)≠1:=fun hq=>by rw[hq]at hv;simp[bI]at hv
  by_cases c1:(ks.length:Int)=1
  case neg=>simp[hv,c1]
  simp[hv,c1,hq]
 by_cases c1:(ks.length:Int)=1
 case neg=>simp[hv,c1]
 by_cases c3:lv=0
 case pos=>subst c3;simp[hv,c1]
 have c3':¬ (lv:Int)=0:=by omega
 by_cases c4:t=0
 case neg=>simp[hv,c1,c3,c3',c4]
 by_cases c5:cs=[]
 case neg=>simp[hv,c1,c3,c3',c4,c5]
 exact absurd (by simp[hv,c1,c3,c4,c5]) h
theorem AAD {ws:List Int} {t:Int} {es:List Ex} {cs:List Int} {ks:List Pn} {lv:Nat} (h:¬ ((ks.length:Int)=2∧(es.length:Int)=1∧lv≠0∧t=0∧cs=[])):aI C0 109 [.i (.iref [.int 4, .int t, .isl (Ex.aB es), .isl (aF cs), .isl (Pn.aB ks)]), .i (.isl (aF ws)), .int lv] []=some (.int 0,[]):=by
 rw[aD rfl Tryz.func109 rfl rfl];by_cases c1:(ks.length:Int)=2
 case neg=>simp[c1]
 by_cases c2:(es.length:Int)=1
 case neg=>simp[c1,c2]
 by_cases c3:lv=0
 case pos=>subst c3;simp[c1,c2]
 have c3':¬ (lv:Int)=0:=by omega
 by_cases c4:t=0
 case neg=>simp[c1,c2,c3,c3',c4]
 by_cases c5:cs=[]
 case neg=>simp[c1,c2,c3,c3',c4,c5]
 exact absurd (by simp[c1,c2,c3,c3',c4,c5]) h
theorem AAC {ws:List Int} {t:Int} {es:List Ex} {cs:List Int} {ks:List Pn} {lv:Nat} (h:¬ ((ks.length:Int)=2∧(es.length:Int)=1∧lv≠0∧t=0∧cs=[])):aI C0 109 [.i (.iref [.int 5, .int t, .isl (Ex.aB es), .isl (aF cs), .isl (Pn.aB ks)]), .i (.isl (aF ws)), .int lv] []=some (.int 0,[]):=by
 rw[aD rfl Tryz.func109 rfl rfl];by_cases c1:(ks.length:Int)=2
 case neg=>simp[c1]
 by_cases c2:(es.length:Int)=1
 case neg=>simp[c1,c2]
 by_cases c3:lv=0
 case pos=>subst c3;simp[c1,c2]
 have c3':¬ (lv:Int)=0:=by omega
 by_cases c4:t=0
 case neg=>simp[c1,c2,c3,c3',c4]
 by_cases c5:cs=[]
 case neg=>simp[c1,c2,c3,c3',c4,c5]
 exact absurd (by simp[c1,c2,c3,c3',c4,c5]) h
theorem AAB {ws:List Int} {t:Int} {es:List Ex} {cs:List Int} {ks:List Pn} {lv:Nat} (h:¬ ((ks.length:Int)=2∧(es.length:Int)=0∧lv≠0∧t=0∧cs=[])):aI C0 109 [.i (.iref [.int 6, .int t, .isl (Ex.aB es), .isl (aF cs), .isl (Pn.aB ks)]), .i (.isl (aF ws)), .int lv] []=some (.int 0,[]):=by
 rw[aD rfl Tryz.func109 rfl rfl];by_cases c1:(ks.length:Int)=2
 case neg=>simp[c1]
 by_cases c2:(es.length:Int)=0
 case neg=>simp at c2;simp[c1,c2]
 by_cases c3:lv=0
 case pos=>subst c3;simp[c1,c2]
 have c3':¬ (lv:Int)=0:=by omega
 by_cases c4:t=0
 case neg=>simp[c1,c2,c3,c3',c4]
 by_cases c5:cs=[]
 case neg=>simp[c1,c2,c3,c3',c4,c5]
 exact absurd (by simp[c1,c2,c3,c3',c4,c5]) h
theorem AAA {ws:List Int} {t:Int} {es:List Ex} {cs:List Int} {ks:List Pn} {lv:Nat} (h:¬ ((ks.length:Int)=1∧(es.length:Int)=0∧lv≠0∧t=0∧cs=[])):aI C0 109 [.i (.iref [.int 7, .int t, .isl (Ex.aB es), .isl (aF cs), .isl (Pn.aB ks)]), .i (.isl (aF ws)), .int lv] []=some (.int 0,[]):=by
 rw[aD rfl Tryz.func109 rfl rfl];by_cases c1:(ks.length:Int)=1
 case neg=>simp[c1]
 by_cases c2:(es.length:Int)=0
 case neg=>simp at c2;simp[c1,c2]
 by_cases c3:lv=0
 case pos=>subst c3;simp[c1,c2]
 have c3':¬ (lv:Int)=0:=by omega
 by_cases c4:t=0
 case neg=>simp[c1,c2,c3,c3',c4]
 by_cases c5:cs=[]
 case neg=>simp[c1,c2,c3,c3',c4,c5]
 exact absurd (by simp[c1,c2,c3,c3',c4,c5]) h
theorem AA9 {ws:List Int} {t:Int} {es:List Ex} {cs:List Int} {ks:List Pn} {lv:Nat} (h:¬ ((ks.length:Int)=1∧(es.length:Int)=0∧lv≠0∧t=0)):aI C0 109 [.i (.iref [.int 8, .int t, .isl (Ex.aB es), .isl (aF cs), .isl (Pn.aB ks)]), .i (.isl (aF ws)), .int lv] []=some (.int 0,[]):=by
 rw[aD rfl Tryz.func109 rfl rfl];by_cases c1:(ks.length:Int)=1
 case neg=>simp[c1]
 by_cases c2:(es.length:Int)=0
 case neg=>simp at c2;simp[c1,c2]
 by_cases c3:lv=0
 case pos=>subst c3;simp[c1,c2]
 have c3':¬ (lv:Int)=0:=by omega
 by_cases c4:t=0
 case neg=>simp[c1,c2,c3,c3',c4]
 exact absurd (by simp[c1,c2,c3,c3',c4]) h
theorem VS {ws:List Int} {t:Int} {lv:Nat}:aI C0 109 [.i (.iref [.int 1, .int t, .isl (Ex.aB []), .isl (aF []), .isl (Pn.aB [])]), .i (.isl (aF ws)), .int lv] []=some (.int (if 0≤t then(ws[t.toNat]?).getD 0 else 0),[]):=by
 rw[aD rfl Tryz.func109 rfl rfl];by_cases h0:0≤t
 case neg=>simp[Ex.aB,Pn.aB,aF,h0,show t<0 by omega]
 cases hx:ws[t.toNat]? with
 | none =>
  have:=xU.1 hx;simp[Ex.aB,Pn.aB,aF,h0,show ¬ t<0 by omega,show(ws.length:Int)≤t by omega]
 | some x =>
  have r1:=(zZ.1 hx).1;have r2:=aW hx;simp[Ex.aB,Pn.aB,aF,h0,show ¬ t<0 by omega,show ¬ (ws.length:Int)≤t by omega,r2,show t<ws.length by omega]
theorem VR {ws:List Int} {es:List Ex} {a:Pn} {lv:Nat} {va:Int} (hl:lv≠0) (hl8:lv≤8) (hd:Pn.headOk (Pn.mk 2 0 es [] [a])=true) (ha:aI C0 109 [.i (.iref a.cells), .i (.isl (aF ws)), .int (lv-1:Nat)] []=some (.int va,[])) (ra:0≤va∧va≤6):aI C0 109 [.i (.iref [.int 2, .int 0, .isl (Ex.aB es), .isl (aF []), .isl (Pn.aB [a])]), .i (.isl (aF ws)), .int lv] []=some (.int (if va=0 then 0 else bT 2 es [] va 0),[]):=by
 rw[aD rfl Tryz.func109 rfl rfl];have c3':¬ (lv:Int)=0:=by omega
 have w1:IntKind.i64.wrap ((lv:Int)-1)=(lv-1:Nat):=by rw[wrO];omega
 have r0:fI [a.cells] 0=some a.cells:=rfl;have hov:=fD (Pn.mk 2 0 es [] [a]) va 0 ra (by omega) hd;rw[Pn.dP]at hov;simp only[Pn.eH,Pn.bW,Pn.eU,Pn.aB,aF,Ex.aB]at hov;rw[Pn.aA a]at ha hov r0
 have c2:(es.length:Int)=1:=by
  simp only[Pn.headOk,zU,zP,Pn.bW,Pn.eH]at hd;simpa using hd.2.1
 simp[c2,hl,c3',Pn.aB,aF,Ex.aB];rw[Pn.aA a];rw[aG];by_cases z1:va=0
 case pos=>simp[w1,ha,r0,z1]
 simp[w1,ha,r0,z1,cO];rw[aG];simp[hov,z1]
theorem VQ {ws:List Int} {es:List Ex} {a:Pn} {lv:Nat} {va:Int} (hl:lv≠0) (hl8:lv≤8) (hd:Pn.headOk (Pn.mk 3 0 es [] [a])=true) (ha:aI C0 109 [.i (.iref a.cells), .i (.isl (aF ws)), .int (lv-1:Nat)] []=some (.int va,[])) (ra:0≤va∧va≤6):aI C0 109 [.i (.iref [.int 3, .int 0, .isl (Ex.aB es), .isl (aF []), .isl (Pn.aB [a])]), .i (.isl (aF ws)), .int lv] []=some (.int (if va=0 then 0 else bT 3 es [] va 0),[]):=by
 rw[aD rfl Tryz.func109 rfl rfl];have c3':¬ (lv:Int)=0:=by omega
 have w1:IntKind.i64.wrap ((lv:Int)-1)=(lv-1:Nat):=by rw[wrO];omega
 have r0:fI [a.cells] 0=some a.cells:=rfl;have hov:=fD (Pn.mk 3 0 es [] [a]) va 0 ra (by omega) hd;rw[Pn.dP]at hov;simp only[Pn.eH,Pn.bW,Pn.eU,Pn.aB,aF,Ex.aB]at hov;rw[Pn.aA a]at ha hov r0
 have hv:bI es.length=true∨(es.length:Int)=1:=by
  simp only[Pn.headOk,zU,zP,Pn.bW,Pn.eH]at hd;have:=hd.2.1;split at this
  ·rename_i h;exact .inl h.2
  ·exact .inr (by simpa using this)
 have hv:bI es.length=true:=by
  rcases hv with h|h
  ·exact h
  ·rw[h];decide
 simp[hv,hl,c3',Pn.aB,aF,Ex.aB];rw[Pn.aA a];rw[aG];by_cases z1:va=0
 case pos=>simp[w1,ha,r0,z1]
 simp[w1,ha,r0,z1,cO];rw[aG];simp[hov,z1]
theorem VP {ws:List Int} {es:List Ex} {a b:Pn} {lv:Nat} {va vb:Int} (hl:lv≠0) (hl8:lv≤8) (hd:Pn.headOk (Pn.mk 4 0 es [] [a,b])=true) (ha:aI C0 109 [.i (.iref a.cells), .i (.isl (aF ws)), .int (lv-1:Nat)] []=some (.int va,[])) (ra:0≤va∧va≤6) (hb:aI C0 109 [.i (.iref b.cells), .i (.isl (aF ws)), .int (lv-1:Nat)] []=some (.int vb,[])) (rb:0≤vb∧vb≤6):aI C0 109 [.i (.iref [.int 4, .int 0, .isl (Ex.aB es), .isl (aF []), .isl (Pn.aB [a,b])]), .i (.isl (aF ws)), .int lv] []=some (.int (if va=0∨vb=0 then 0 else bT 4 es [] va vb),[]):=by
 rw[aD rfl Tryz.func109 rfl rfl];have c3':¬ (lv:Int)=0:=by omega
 have w1:IntKind.i64.wrap ((lv:Int)-1)=(lv-1:Nat):=by rw[wrO];omega
 have r0:fI [a.cells,b.cells] 0=some a.cells:=rfl;have r1:fI [a.cells,b.cells] 1=some b.cells:=rfl;have hov:=fD (Pn.mk 4 0 es [] [a,b]) va vb ra rb hd;rw[Pn.dP]at hov;simp only[Pn.eH,Pn.bW,Pn.eU,Pn.aB,aF,Ex.aB]at hov;rw[Pn.aA a]at ha hov r0 r1;rw[Pn.aA b]at hb hov r0 r1
 have c2:(es.length:Int)=1:=by
  simp only[Pn.headOk,zU,zP,Pn.bW,Pn.eH]at hd;simpa using hd.2.1
 simp[c2,hl,c3',Pn.aB,aF,Ex.aB];rw[Pn.aA a,Pn.aA b];rw[aG];by_cases z1:va=0
 case pos=>simp[w1,ha,r0,z1]
 simp[w1,ha,r0,z1,cO];rw[aG];by_cases z2:vb=0
 case pos=>simp[w1,hb,r1,z2]
 simp[w1,hb,r1,z1,z2,wrap64 (x:=2) (by omega) (by omega)];rw[aG];simp[hov,z1,z2]
theorem VO {ws:List Int} {es:List Ex} {a b:Pn} {lv:Nat} {va vb:Int} (hl:lv≠0) (hl8:lv≤8) (hd:Pn.headOk (Pn.mk 5 0 es [] [a,b])=true) (ha:aI C0 109 [.i (.iref a.cells), .i (.isl (aF ws)), .int (lv-1:Nat)] []=some (.int va,[])) (ra:0≤va∧va≤6) (hb:aI C0 109 [.i (.iref b.cells), .i (.isl (aF ws)), .int (lv-1:Nat)] []=some (.int vb,[])) (rb:0≤vb∧vb≤6):aI C0 109 [.i (.iref [.int 5, .int 0, .isl (Ex.aB es), .isl (aF []), .isl (Pn.aB [a,b])]), .i (.isl (aF ws)), .int lv] []=some (.int (if va=0∨vb=0 then 0 else bT 5 es [] va vb),[]):=by
 rw[aD rfl Tryz.func109 rfl rfl];have c3':¬ (lv:Int)=0:=by omega
 have w1:IntKind.i64.wrap ((lv:Int)-1)=(lv-1:Nat):=by rw[wrO];omega
 have r0:fI [a.cells,b.cells] 0=some a.cells:=rfl;have r1:fI [a.cells,b.cells] 1=some b.cells:=rfl;have hov:=fD (Pn.mk 5 0 es [] [a,b]) va vb ra rb hd;rw[Pn.dP]at hov;simp only[Pn.eH,Pn.bW,Pn.eU,Pn.aB,aF,Ex.aB]at hov;rw[Pn.aA a]at ha hov r0 r1;rw[Pn.aA b]at hb hov r0 r1
 have c2:(es.length:Int)=1:=by
  simp only[Pn.headOk,zU,zP,Pn.bW,Pn.eH]at hd;simpa using hd.2.1
 simp[c2,hl,c3',Pn.aB,aF,Ex.aB];rw[Pn.aA a,Pn.aA b];rw[aG];by_cases z1:va=0
 case pos=>simp[w1,ha,r0,z1]
 simp[w1,ha,r0,z1,cO];rw[aG];by_cases z2:vb=0
 case pos=>simp[w1,hb,r1,z2]
 simp[w1,hb,r1,z1,z2,wrap64 (x:=2) (by omega) (by omega)];rw[aG];simp[hov,z1,z2]
theorem VN {ws:List Int} {a b:Pn} {lv:Nat} {va vb:Int} (hl:lv≠0) (hl8:lv≤8) (hd:Pn.headOk (Pn.mk 6 0 [] [] [a,b])=true) (ha:aI C0 109 [.i (.iref a.cells), .i (.isl (aF ws)), .int (lv-1:Nat)] []=some (.int va,[])) (ra:0≤va∧va≤6) (hb:aI C0 109 [.i (.iref b.cells), .i (.isl (aF ws)), .int (lv-1:Nat)] []=some (.int vb,[])) (rb:0≤vb∧vb≤6):aI C0 109 [.i (.iref [.int 6, .int 0, .isl (Ex.aB []), .isl (aF []), .isl (Pn.aB [a,b])]), .i (.isl (aF ws)), .int lv] []=some (.int (if va=0∨vb=0 then 0 else bT 6 [] [] va vb),[]):=by
 rw[aD rfl Tryz.func109 rfl rfl];have c3':¬ (lv:Int)=0:=by omega
 have w1:IntKind.i64.wrap ((lv:Int)-1)=(lv-1:Nat):=by rw[wrO];omega
 have r0:fI [a.cells,b.cells] 0=some a.cells:=rfl;have r1:fI [a.cells,b.cells] 1=some b.cells:=rfl;have hov:=fD (Pn.mk 6 0 [] [] [a,b]) va vb ra rb hd;rw[Pn.dP]at hov;simp only[Pn.eH,Pn.bW,Pn.eU,Pn.aB,aF,Ex.aB]at hov;rw[Pn.aA a]at ha hov r0 r1;rw[Pn.aA b]at hb hov r0 r1;simp[hl,c3',Pn.aB,aF,Ex.aB];rw[Pn.aA a,Pn.aA b];rw[aG];by_cases z1:va=0
 case pos=>simp[w1,ha,r0,z1]
 simp[w1,ha,r0,z1,cO];rw[aG];by_cases z2:vb=0
 case pos=>simp[w1,hb,r1,z2]
 simp[w1,hb,r1,z1,z2,wrap64 (x:=2) (by omega) (by omega)];rw[aG];simp[hov,z1,z2]
theorem VM {ws:List Int} {a:Pn} {lv:Nat} {va:Int} (hl:lv≠0) (hl8:lv≤8) (hd:Pn.headOk (Pn.mk 7 0 [] [] [a])=true) (ha:aI C0 109 [.i (.iref a.cells), .i (.isl (aF ws)), .int (lv-1:Nat)] []=some (.int va,[])) (ra:0≤va∧va≤6):aI C0 109 [.i (.iref [.int 7, .int 0, .isl (Ex.aB []), .isl (aF []), .isl (Pn.aB [a])]), .i (.isl (aF ws)), .int lv] []=some (.int (if va=0 then 0 else bT 7 [] [] va 0),[]):=by
 rw[aD rfl Tryz.func109 rfl rfl];have c3':¬ (lv:Int)=0:=by omega
 have w1:IntKind.i64.wrap ((lv:Int)-1)=(lv-1:Nat):=by rw[wrO];omega
 have r0:fI [a.cells] 0=some a.cells:=rfl;have hov:=fD (Pn.mk 7 0 [] [] [a]) va 0 ra (by omega) hd;rw[Pn.dP]at hov;simp only[Pn.eH,Pn.bW,Pn.eU,Pn.aB,aF,Ex.aB]at hov;rw[Pn.aA a]at ha hov r0;simp[hl,c3',Pn.aB,aF,Ex.aB];rw[Pn.aA a];rw[aG];by_cases z1:va=0
 case pos=>simp[w1,ha,r0,z1]
 simp[w1,ha,r0,z1,cO];rw[aG];simp[hov,z1]
theorem VL {ws:List Int} {cs:List Int} {a:Pn} {lv:Nat} {va:Int} (hl:lv≠0) (hl8:lv≤8) (hd:Pn.headOk (Pn.mk 8 0 [] cs [a])=true) (ha:aI C0 109 [.i (.iref a.cells), .i (.isl (aF ws)), .int (lv-1:Nat)] []=some (.int va,[])) (ra:0≤va∧va≤6):aI C0 109 [.i (.iref [.int 8, .int 0, .isl (Ex.aB []), .isl (aF cs), .isl (Pn.aB [a])]), .i (.isl (aF ws)), .int lv] []=some (.int (if va=0 then 0 else bT 8 [] cs va 0),[]):=by
 rw[aD rfl Tryz.func109 rfl rfl];have c3':¬ (lv:Int)=0:=by omega
 have w1:IntKind.i64.wrap ((lv:Int)-1)=(lv-1:Nat):=by rw[wrO];omega
 have r0:fI [a.cells] 0=some a.cells:=rfl;have hov:=fD (Pn.mk 8 0 [] cs [a]) va 0 ra (by omega) hd;rw[Pn.dP]at hov;simp only[Pn.eH,Pn.bW,Pn.eU,Pn.aB,aF,Ex.aB]at hov;rw[Pn.aA a]at ha hov r0;simp[hl,c3',Pn.aB,aF,Ex.aB];rw[Pn.aA a];rw[aG];by_cases z1:va=0
 case pos=>simp[w1,ha,r0,z1]
 simp[w1,ha,r0,z1,cO];rw[aG];simp[hov,z1]
theorem kK (k t:Int) (es:List Ex) (cs:List Int) (ks:List Pn):Pn.headOk (.mk k t es cs ks)=true↔((ks.length:Int)=iB k∧(es.length:Int)=(if k=3∧bI es.length=true then(es.length:Int)else dR k)∧(k=1∨t=0)∧(k=8∨cs=[])):=by
 unfold Pn.headOk;simp only[zU,zA7,zP];exact Iff.rfl
theorem jQ {α:Type} {l:List α} (h:(l.length:Int)=1):∃ a,l=[a]:=List.length_eq_one_iff.1 (by omega)
theorem vJ {α:Type} {l:List α} (h:(l.length:Int)=2):∃ a b,l=[a,b]:=by
 match l,h with
 | [a,b],_=>exact⟨a,b,rfl⟩
 | [],h=>simp at h
 | [_],h=>simp at h
 | _::_::_::_,h=>simp at h;omega
theorem fB {α:Type} {l:List α} (h:(l.length:Int)=0):l=[]:=zX.1 (by omega)
theorem sV {ws:List Int} (hw:∀ w∈ws,0≤w∧w≤6):∀ (p:Pn) (lv:Nat),lv≤8→aI C0 109 [.i (.iref p.cells), .i (.isl (aF ws)), .int lv] []=some (.int (p.wd ws lv),[]):=by
 intro p
 induction p using Pn.ind with
 | h k t es cs ks ih =>
  intro lv hlv;rw[Pn.dP];by_cases hh:Pn.headOk (.mk k t es cs ks)=true∧(ks=[]∨lv≠0)
  case neg =>
   rw[Pn.TQ hh];rw[kK]at hh
   rcases p8 k with rfl|rfl|rfl|rfl|rfl|rfl|rfl|rfl|h
   ·refine AAG fun h=>hh ?_
    have:=fB h.1;simp[h.2.1,h.2.2.2,this]
   ·exact AAF fun h=>hh (by simp[h.1,h.2.1,h.2.2.1,h.2.2.2.1,h.2.2.2.2])
   ·exact AAE fun h=>hh (by refine⟨⟨by simp[h.1],by simpa using h.2.1,by simp[h.2.2.2.1],by simp[h.2.2.2.2]⟩, .inr h.2.2.1⟩)
   ·exact AAD fun h=>hh (by simp[h.1,h.2.1,h.2.2.1,h.2.2.2.1,h.2.2.2.2])
   ·exact AAC fun h=>hh (by simp[h.1,h.2.1,h.2.2.1,h.2.2.2.1,h.2.2.2.2])
   ·exact AAB fun h=>hh (by simp[h.1,fB h.2.1,h.2.2.1,h.2.2.2.1,h.2.2.2.2])
   ·exact AAA fun h=>hh (by simp[h.1,fB h.2.1,h.2.2.1,h.2.2.2.1,h.2.2.2.2])
   ·exact AA9 fun h=>hh (by simp[h.1,fB h.2.1,h.2.2.1,h.2.2.2])
   ·exact QG h
  have hd:=hh.1;have hx:=Pn.tC ws lv (.mk k t es cs ks);rw[if_pos (by simpa using hh)]at hx;simp only[Pn.eH,Pn.jV,Pn.bW,Pn.eU,Pn.iV]at hx;rw[hx];rw[kK]at hh;obtain⟨⟨h1,h2,h3,h4⟩,h5⟩:=hh;have hr:=fun a=>Pn.qF hw a (lv-1)
  rcases p8 k with rfl|rfl|rfl|rfl|rfl|rfl|rfl|rfl|h
  ·obtain rfl:=fB (by simpa using h1);obtain rfl:es=[]:=fB (by simpa using h2);obtain rfl:cs=[]:=by simpa using h4
   exact VS
  ·obtain⟨a,rfl⟩:=jQ (by simpa using h1);obtain rfl:cs=[]:=by simpa using h4
   obtain rfl:t=0:=by simpa using h3
   have hl:lv≠0:=by simpa using h5
   rw[VR hl hlv hd (ih a (by simp) (lv-1) (by omega)) (hr a)];by_cases z:a.wd ws (lv-1)=0<;>simp[z]
  ·obtain⟨a,rfl⟩:=jQ (by simpa using h1);obtain rfl:cs=[]:=by simpa using h4
   obtain rfl:t=0:=by simpa using h3
   have hl:lv≠0:=by simpa using h5
   rw[VQ hl hlv hd (ih a (by simp) (lv-1) (by omega)) (hr a)];by_cases z:a.wd ws (lv-1)=0<;>simp[z]
  ·obtain⟨a,b,rfl⟩:=vJ (by simpa using h1);obtain rfl:cs=[]:=by simpa using h4
   obtain rfl:t=0:=by simpa using h3
   have hl:lv≠0:=by simpa using h5
   rw[VP hl hlv hd (ih a (by simp) (lv-1) (by omega)) (hr a) (ih b (by simp) (lv-1) (by omega)) (hr b)];by_cases z:a.wd ws (lv-1)=0<;>by_cases z2:b.wd ws (lv-1)=0<;>simp[z,z2]
  ·obtain⟨a,b,rfl⟩:=vJ (by simpa using h1);obtain rfl:cs=[]:=by simpa using h4
   obtain rfl:t=0:=by simpa using h3
   have hl:lv≠0:=by simpa using h5
   rw[VO hl hlv hd (ih a (by simp) (lv-1) (by omega)) (hr a) (ih b (by simp) (lv-1) (by omega)) (hr b)];by_cases z:a.wd ws (lv-1)=0<;>by_cases z2:b.wd ws (lv-1)=0<;>simp[z,z2]
  ·obtain⟨a,b,rfl⟩:=vJ (by simpa using h1);obtain rfl:es=[]:=fB (by simpa using h2);obtain rfl:cs=[]:=by simpa using h4
   obtain rfl:t=0:=by simpa using h3
   have hl:lv≠0:=by simpa using h5
   rw[VN hl hlv hd (ih a (by simp) (lv-1) (by omega)) (hr a) (ih b (by simp) (lv-1) (by omega)) (hr b)];by_cases z:a.wd ws (lv-1)=0<;>by_cases z2:b.wd ws (lv-1)=0<;>simp[z,z2]
  ·obtain⟨a,rfl⟩:=jQ (by simpa using h1);obtain rfl:es=[]:=fB (by simpa using h2);obtain rfl:cs=[]:=by simpa using h4
   obtain rfl:t=0:=by simpa using h3
   have hl:lv≠0:=by simpa using h5
   rw[VM hl hlv hd (ih a (by simp) (lv-1) (by omega)) (hr a)];by_cases z:a.wd ws (lv-1)=0<;>simp[z]
  ·obtain⟨a,rfl⟩:=jQ (by simpa using h1);obtain rfl:es=[]:=fB (by simpa using h2);obtain rfl:t=0:=by simpa using h3
   have hl:lv≠0:=by simpa using h5
   rw[VL hl hlv hd (ih a (by simp) (lv-1) (by omega)) (hr a)];by_cases z:a.wd ws (lv-1)=0<;>simp[z]
  ·exact absurd h1 (by rw[RI h];omega)
def VX (ws:List Int) (i:Nat):AS :=
 { env:=[(0, .i (.isl (aF ws))),(2, .bool false),(4,jk i (.int (ws[i-1]?.getD 0))),(12, .bool false),(13, .i (.isl (aF ws))),(14, .int ws.length),(15, .int i),(16,jk i (.bool true)),(21,jk i (.bool false))],st:=[] }
theorem F7 (ws:List Int):aI C0 108 [.i (.isl (aF ws))] []=some (.bool (jI ws),[]):=by
 rw[aD rfl Tryz.func108 rfl rfl];by_cases h1:ws.length=0
 ·have:=zX.1 h1;subst this;simp[aF,jI]
 by_cases h4:ws.length≤4
 case neg=>simp[jI,h4,show ¬ (ws.length:Int)<1 by omega,show 4<(ws.length:Int)by omega]
 simp[show ¬ (ws.length:Int)<1 by omega,show ¬ 4<(ws.length:Int)by omega];obtain⟨j,h1',h2⟩:=fP bI ws;rw[aO (VX ws) j (by simp[VX])]
 ·rw[aG]
  rcases h2 with ⟨hj,ha⟩|⟨x,h3,_,h5,ha⟩
  ·simp[VX,hj,jI,h4,ha,show 1≤ws.length by omega]
  ·have r1:=(zZ.1 h3).1;have r2:=aW h3;simp[VX,r1,r2,h5,jI,ha]
 ·intro i hi;obtain⟨x,h3,_,h5⟩:=h1' i hi;have r1:=(zZ.1 h3).1;have r2:=aW h3;have w2:IntKind.i64.wrap ((i:Int)+1)=i+1:=wrO;have h3':ws[i]=x:=(zZ.1 h3).2;simp[VX,r1,r2,h5,w2,h3']
theorem iR {ws:List Int} (h:jI ws=true):∀ w∈ws,0≤w∧w≤6:=by
 intro w hw;simp only[jI,zU]at h;have:=zR.1 h.2 w hw;simp[bI]at this;omega
theorem lN (p:Pn) (ws:List Int):aI C0 68 [.i (.agg p.cells), .i (.isl (aF ws))] []=some (.int (p.width ws),[]):=by
 rw[aD rfl Tryz.func68 rfl rfl];have hv:=F7 ws
 cases h:jI ws with
 | false=>rw[h]at hv;rw[Pn.aA];simp[hv,Pn.width,h]
 | true =>
  rw[h]at hv;have hb:=sV (iR h) p 8 (by omega);rw[show((8:Nat):Int)=8 from rfl]at hb;rw[Pn.aA]at hb ⊢;simp[hv,Pn.width,h,hb]
def only (k t:Int) (es:List Ex) (cs:List Int) (ks:List Pn):Bool:=decide (1≤k∧k≤8) && (decide ((ks.length:Int)=iB k) && (decide ((es.length:Int)=if k=3 then(es.length:Int)else dR k) && ((decide (t=0) || decide (k=1)) && (decide (cs=[]) || decide (k=8)))))
theorem dL (k t:Int) (es:List Ex) (cs:List Int) (ks:List Pn):aI C0 139 [.i (.agg [.int k, .int t, .isl (Ex.aB es), .isl (aF cs), .isl (Pn.aB ks)])] []=some (.bool (only k t es cs ks),[]):=by
 rw[aD rfl Tryz.func139 rfl rfl]
 rcases p8 k with rfl|rfl|rfl|rfl|rfl|rfl|rfl|rfl|h
 case inr.inr.inr.inr.inr.inr.inr.inr =>
  have h1:¬ (1≤k∧k≤8):=by omega
  simp[h.1,h.2.1,h.2.2.1,h.2.2.2.1,h.2.2.2.2.1,h.2.2.2.2.2.1,h1,only]
 case inr.inr.inl =>
  by_cases c1:(ks.length:Int)=1
  case neg=>simp[c1,only]
  by_cases c3:t=0
  case neg=>simp[c1,c3,only]
  by_cases c5:cs=[]<;>simp[c1,c3,c5,only,aF]
 case inl =>
  by_cases c1:ks=[]
  case neg=>simp[c1,only]
  by_cases c2:es=[]
  case neg=>simp[c1,c2,only]
  by_cases c3:t=0<;>by_cases c5:cs=[]<;>simp[c1,c2,c3,c5,only,aF,Ex.aB,Pn.aB]
 case inr.inl =>
  by_cases c1:(ks.length:Int)=1
  case neg=>simp[c1,only]
  by_cases c2:(es.length:Int)=1
  case neg=>simp[c1,c2,only]
  by_cases c3:t=0
  case neg=>simp[c1,c2,c3,only]
  by_cases c5:cs=[]<;>simp[c1,c2,c3,c5,only,aF]
 case inr.inr.inr.inl =>
  by_cases c1:(ks.length:Int)=2
  case neg=>simp[c1,only]
  by_cases c2:(es.length:Int)=1
  case neg=>simp[c1,c2,only]
  by_cases c3:t=0
  case neg=>simp[c1,c2,c3,only]
  by_cases c5:cs=[]<;>simp[c1,c2,c3,c5,only,aF]
 case inr.inr.inr.inr.inl =>
  by_cases c1:(ks.length:Int)=2
  case neg=>simp[c1,only]
  by_cases c2:(es.length:Int)=1
  case neg=>simp[c1,c2,only]
  by_cases c3:t=0
  case neg=>simp[c1,c2,c3,only]
  by_cases c5:cs=[]<;>simp[c1,c2,c3,c5,only,aF]
 case inr.inr.inr.inr.inr.inl =>
  by_cases c1:(ks.length:Int)=2
  case neg=>simp[c1,only]
  by_cases c2:es=[]
  case neg=>simp[c1,c2,only]
  by_cases c3:t=0
  case neg=>simp[c1,c2,c3,only]
  by_cases c5:cs=[]<;>simp[c1,c2,c3,c5,only,aF,Ex.aB]
 case inr.inr.inr.inr.inr.inr.inl =>
  by_cases c1:(ks.length:Int)=1
  case neg=>simp[c1,only]
  by_cases c2:es=[]
  case neg=>simp[c1,c2,only]
  by_cases c3:t=0
  case neg=>simp[c1,c2,c3,only]
  by_cases c5:cs=[]<;>simp[c1,c2,c3,c5,only,aF,Ex.aB]
 case inr.inr.inr.inr.inr.inr.inr.inl =>
  by_cases c1:(ks.length:Int)=1
  case neg=>simp[c1,only]
  by_cases c2:es=[]
  case neg=>simp[c1,c2,only]
  by_cases c3:t=0
  case neg=>simp[c1,c2,c3,only]
  by_cases c5:cs=[]<;>simp[c1,c2,c3,c5,only,aF,Ex.aB]
theorem AGQ {cs:List Int} {w:Int}:∀ {i:Nat},(∀ k,k<i→∃ x,(cs.zip (-1::cs))[k]?=some x∧x∈cs.zip (-1::cs)∧decide (x.2<x.1∧x.1<w)=true)→-1≤pv cs i∧(i≠0→0≤pv cs i)
 | 0,_=>by simp[pv]
 | i+1,h=>by
  obtain⟨x,h3,_,h4⟩:=h i (by omega);obtain⟨c1,c2⟩:=uN h3;rw[Y1 c1];have hb:x.2<x.1∧x.1<w:=by simpa using h4
  have:=AGQ (i:=i) fun k hk=>h k (by omega)
  omega
def CX (cs:List Int) (w:Int) (i:Nat):AS :=
 { env:=[(0, .i (.isl (aF cs))),(1, .int w),(4, .bool false),(5, .int i),(9,jk i (.bool true)),(35,jk i (.bool false))],st:=[] }
theorem LD (cs:List Int) (w:Int) (hl:cs.length<9223372036854775808) (hw:0≤w∧w≤6):aI C0 142 [.i (.isl (aF cs)), .int w] []=some (.bool (oM w cs),[]):=by
 rw[aD rfl Tryz.func142 rfl rfl];have w1:IntKind.i64.wrap (w-1)=w-1:=wrO;simp;obtain⟨j,h1,h2⟩:=fP (fun x:Int×Int=>decide (x.2<x.1∧x.1<w)) (cs.zip (-1::cs));rw[aO (CX cs w) j (by simp[CX])]
 ·rw[aG]
  rcases h2 with ⟨hj,ha⟩|⟨x,h3,_,h4,ha⟩
  ·rw[SV]at hj;have ha:oM w cs=true:=ha;simp[CX,hj,ha]
  ·obtain⟨c1,c2⟩:=uN h3;have r1:=(zZ.1 c1).1;have r2:=aW c1;have hb:¬ (x.2<x.1∧x.1<w):=by simpa using h4
   have ha:oM w cs=false:=ha;have hp:=AGQ (i:=j) h1;by_cases hin:0≤x.1∧x.1≤w-1
   ·have hj:j≠0:=fun h=>by subst h;simp[pv]at c2;omega
    obtain⟨j,rfl⟩:∃ i,j=i+1:=⟨j-1,by omega⟩
    have q1:cs[j]?=some x.2:=by
     have:pv cs (j+1)=x.2:=c2;simp only[pv,List.getElem?_cons_succ]at this;rw[zY (by omega)]at this ⊢;simpa using this
    have q2:=aW q1;have w4:IntKind.i64.wrap ((j:Int)+1-1)=j:=by rw[wrO];omega
    have w5:IntKind.i64.wrap ((j:Int))=j:=by rw[wrO]
    simp[CX,r1,r2,w1,hin,ha,q2,w4,w5,show(0:Int)<j+1 by omega,show x.1≤x.2 by omega,show(0:Int)≤(j:Int)+1 by omega,show j<cs.length by omega,show((j:Int)+1<cs.length)by omega]
   ·simp[CX,r1,r2,w1,hin,ha]
 ·intro i hi;obtain⟨x,h3,_,h4⟩:=h1 i hi;obtain⟨c1,c2⟩:=uN h3;have r1:=(zZ.1 c1).1;have r2:=aW c1;have hb:x.2<x.1∧x.1<w:=by simpa using h4
  have hp:=AGQ (i:=i) fun k hk=>h1 k (by omega)
  have hin:0≤x.1∧x.1≤w-1:=by omega
  have w2:IntKind.i64.wrap ((i:Int)+1)=i+1:=wrO;by_cases h0:i=0
  ·subst h0;simp[CX,r1,r2,w1,hin,cO]
  ·obtain⟨i,rfl⟩:∃ j,i=j+1:=⟨i-1,by omega⟩
   have q1:cs[i]?=some x.2:=by
    have:pv cs (i+1)=x.2:=c2;simp only[pv,List.getElem?_cons_succ]at this;rw[zY (by omega)]at this ⊢;simpa using this
   have q2:=aW q1;have w5:IntKind.i64.wrap ((i:Int))=i:=by rw[wrO]
   have w2':IntKind.i64.wrap ((i:Int)+1+1)=i+1+1:=wrO;simp[CX,r1,r2,w1,hin,q2,w5,w2',show(0:Int)<i+1 by omega,show ¬ x.1≤x.2 by omega,show(0:Int)≤(i:Int)+1 by omega,show i<cs.length by omega,show((i:Int)+1<cs.length)by omega]
def pW (es:List Ex) (w:Int):Int:=if es.all (Ex.ok w)=true∧es.length≤6 then(es.length:Int)else 0
def QX (es:List Ex) (w:Int) (i:Nat):AS :=
 { env:=[(0, .i (.isl (Ex.aB es))),(1, .int w),(4, .int 0),(5, .int i),(9,jk i (.bool true)),(18,jk i (.bool false)),(21, .junk)],st:=[] }
theorem CF (es:List Ex) (w:Int) (hl:es.length<9223372036854775808):aI C0 141 [.i (.isl (Ex.aB es)), .int w] []=some (.int (pW es w),[]):=by
 rw[aD rfl Tryz.func141 rfl rfl];simp;obtain⟨j,h1,h2⟩:=fP (Ex.ok w) es;rw[aO (QX es w) j (by simp[QX])]
 ·rw[aG]
  rcases h2 with ⟨hj,hall⟩|⟨x,h3,_,h5,hall⟩
  ·by_cases h6:es.length≤6
   ·have hq:pW es w=es.length:=if_pos ⟨hall,h6⟩;simp[QX,hj,hq,show ¬ (6:Int)<es.length by omega]
   ·have hq:pW es w=0:=if_neg fun h=>h6 h.2
    simp[QX,hj,hq,show(6:Int)<es.length by omega]
  ·have r1:=(zZ.1 h3).1;have r2:=Ex.aJ h3;have r3:=M0 w x;rw[h5]at r3;rw[Ex.aA]at r2 r3;have hq:pW es w=0:=if_neg fun h=>by rw[hall]at h;simp at h
   simp[QX,r1,r2,r3,hq]
 ·intro i hi;obtain⟨x,h3,_,h5⟩:=h1 i hi;have r1:=(zZ.1 h3).1;have r2:=Ex.aJ h3;have r3:=M0 w x;rw[h5]at r3;rw[Ex.aA]at r2 r3;have w2:IntKind.i64.wrap ((i:Int)+1)=i+1:=wrO;simp[QX,r1,r2,r3,w2]
def UX (ws:List Int) (i:Nat):AS :=
 { env:=[(0, .i (.isl (aF ws))),(2, .bool false),(3, .int i),(7,jk i (.bool true)),(15,jk i (.bool false))],st:=[] }
theorem BN (ws:List Int) (hl:ws.length<9223372036854775808):aI C0 121 [.i (.isl (aF ws))] []=some (.bool (jI ws),[]):=by
 rw[aD rfl Tryz.func121 rfl rfl];simp;obtain⟨j,h1',h2⟩:=fP bI ws;rw[aO (UX ws) j (by simp[UX])]
 ·rw[aG]
  rcases h2 with ⟨hj,ha⟩|⟨x,h3,_,h5,ha⟩
  ·by_cases h4:1≤ws.length∧ws.length≤4
   ·simp[UX,hj,jI,h4,ha,show(1:Int)≤ws.length∧(ws.length:Int)≤4 by omega]
   ·simp[UX,hj,jI,h4,ha,show ¬ ((1:Int)≤ws.length∧(ws.length:Int)≤4)by omega]
  ·have r1:=(zZ.1 h3).1;have r2:=aW h3;have h5:¬ (1≤x∧x≤6):=by simpa [bI]using h5
   simp[UX,r1,r2,h5,jI,ha]
 ·intro i hi;obtain⟨x,h3,_,h5⟩:=h1' i hi;have r1:=(zZ.1 h3).1;have r2:=aW h3;have h5:1≤x∧x≤6:=by simpa [bI]using h5
  have w2:IntKind.i64.wrap ((i:Int)+1)=i+1:=wrO;simp[UX,r1,r2,h5,w2]
theorem AC1 {ws:List Int} {k t:Int} {es:List Ex} {cs:List Int} {ks:List Pn} {lv:Nat} (h:¬ (only k t es cs ks=true∧(ks=[]∨lv≠0))):aI C0 104 [.i (.agg [.int k, .int t, .isl (Ex.aB es), .isl (aF cs), .isl (Pn.aB ks)]), .i (.isl (aF ws)), .int lv] []=some (.int 0,[]):=by
 rw[aD rfl Tryz.func104 rfl rfl];have ho:=dL k t es cs ks
 cases hq:only k t es cs ks with
 | false=>rw[hq]at ho;simp[ho]
 | true =>
  rw[hq]at ho;by_cases hk:ks=[]
  ·exact absurd ⟨hq, .inl hk⟩ h
  by_cases hl:lv=0
  ·have:0<ks.length:=List.length_pos_iff.2 hk;subst hl;simp[ho,hk,this]
  ·exact absurd ⟨hq, .inr hl⟩ h
theorem UE {ws:List Int} {lv:Nat} {t:Int} (ho:only 1 t [] [] []=true) (hw:ws.length<1000000000):aI C0 104 [.i (.agg [.int 1, .int t, .isl (Ex.aB []), .isl (aF []), .isl (Pn.aB [])]), .i (.isl (aF ws)), .int lv] []=some (.int (if 0≤t then(ws[t.toNat]?).getD 0 else 0),[]):=by
 rw[aD rfl Tryz.func104 rfl rfl];have hf:=dL 1 t [] [] [];rw[ho]at hf;have w1:IntKind.i64.wrap ((ws.length:Int)-1)=ws.length-1:=wrO;simp only[Ex.aB,Pn.aB,aF]at hf ⊢;simp[hf,w1];rw[aG];by_cases h0:0≤t
 case neg=>simp[h0,w1]
 cases hx:ws[t.toNat]? with
 | none =>
  have:=xU.1 hx;simp[h0,w1,show ¬ t≤ws.length-1 by omega]
 | some x =>
  have r1:=(zZ.1 hx).1;have r2:=aW hx;simp[h0,w1,show t≤ws.length-1 by omega,show t<ws.length by omega,r2]
theorem UD {ws:List Int} {lv:Nat} {a:Pn} {va:Int} {e:Ex} (ho:only 2 0 [e] [] [a]=true) (hl:lv≠0) (hl8:lv≤8) (ha:aI C0 104 [.i (.agg a.cells), .i (.isl (aF ws)), .int (lv-1:Nat)] []=some (.int va,[])) (ra:0≤va∧va≤6):aI C0 104 [.i (.agg [.int 2, .int 0, .isl (Ex.aB [e]), .isl (aF []), .isl (Pn.aB [a])]), .i (.isl (aF ws)), .int lv] []=some (.int (if va=0 then 0 else if e.ok va=true then va else 0),[]):=by
 rw[aD rfl Tryz.func104 rfl rfl];have hf:=dL 2 0 [e] [] [a];rw[ho]at hf;have c3':¬ (lv:Int)=0:=by omega
 have w1:IntKind.i64.wrap ((lv:Int)-1)=(lv-1:Nat):=by rw[wrO];omega
 have w2:IntKind.i64.wrap (1:Int)=1:=cO;have w3:IntKind.i64.wrap (2:Int)=2:=wrO;have r0:fI [a.cells] 0=some a.cells:=rfl;simp only[Pn.aB,aF,Ex.aB]at hf ⊢;have q0:fI [e.cells] 0=some e.cells:=rfl;have qe:=M0 (va) e;rw[Ex.aA e]at q0 qe hf ⊢;rw[Pn.aA a]at ha r0 hf ⊢;simp[hf,hl,c3'];rw[aG];by_cases z1:va=0
 case pos=>simp[w1,ha,r0,z1]
 simp[w1,w2,ha,r0,z1];rw[aG]
 cases hv:e.ok va<;>rw[hv]at qe<;>simp[z1,q0,qe]
theorem G6 {ws:List Int} {lv:Nat} {a:Pn} {va:Int} {es:List Ex} (ho:only 3 0 es [] [a]=true) (hl:lv≠0) (hl8:lv≤8) (ha:aI C0 104 [.i (.agg a.cells), .i (.isl (aF ws)), .int (lv-1:Nat)] []=some (.int va,[])) (ra:0≤va∧va≤6) (he:es.length<9223372036854775808):aI C0 104 [.i (.agg [.int 3, .int 0, .isl (Ex.aB es), .isl (aF []), .isl (Pn.aB [a])]), .i (.isl (aF ws)), .int lv] []=some (.int (if va=0 then 0 else pW es va),[]):=by
 rw[aD rfl Tryz.func104 rfl rfl];have hf:=dL 3 0 es [] [a];rw[ho]at hf;have c3':¬ (lv:Int)=0:=by omega
 have w1:IntKind.i64.wrap ((lv:Int)-1)=(lv-1:Nat):=by rw[wrO];omega
 have w2:IntKind.i64.wrap (1:Int)=1:=cO;have w3:IntKind.i64.wrap (2:Int)=2:=wrO;have r0:fI [a.cells] 0=some a.cells:=rfl;simp only[Pn.aB,aF,Ex.aB]at hf ⊢;rw[Pn.aA a]at ha r0 hf ⊢;simp[hf,hl,c3'];rw[aG];by_cases z1:va=0
 case pos=>simp[w1,ha,r0,z1]
 simp[w1,w2,ha,r0,z1];rw[aG];have hp:=CF es va he;simp[z1,hp]
theorem UC {ws:List Int} {lv:Nat} {a:Pn} {va:Int} {b:Pn} {vb:Int} {e:Ex} (ho:only 4 0 [e] [] [a,b]=true) (hl:lv≠0) (hl8:lv≤8) (ha:aI C0 104 [.i (.agg a.cells), .i (.isl (aF ws)), .int (lv-1:Nat)] []=some (.int va,[])) (ra:0≤va∧va≤6) (hb:aI C0 104 [.i (.agg b.cells), .i (.isl (aF ws)), .int (lv-1:Nat)] []=some (.int vb,[])) (rb:0≤vb∧vb≤6):aI C0 104 [.i (.agg [.int 4, .int 0, .isl (Ex.aB [e]), .isl (aF []), .isl (Pn.aB [a,b])]), .i (.isl (aF ws)), .int lv] []=some (.int (if va=0∨vb=0 then 0 else if va+vb≤6∧e.ok (va+vb)=true then va+vb else 0),[]):=by
 rw[aD rfl Tryz.func104 rfl rfl];have hf:=dL 4 0 [e] [] [a,b];rw[ho]at hf;have c3':¬ (lv:Int)=0:=by omega
 have w1:IntKind.i64.wrap ((lv:Int)-1)=(lv-1:Nat):=by rw[wrO];omega
 have w2:IntKind.i64.wrap (1:Int)=1:=cO;have w3:IntKind.i64.wrap (2:Int)=2:=wrO;have r0:fI [a.cells,b.cells] 0=some a.cells:=rfl;have r1:fI [a.cells,b.cells] 1=some b.cells:=rfl;simp only[Pn.aB,aF,Ex.aB]at hf ⊢;have q0:fI [e.cells] 0=some e.cells:=rfl;have qe:=M0 (va+vb) e;rw[Ex.aA e]at q0 qe hf ⊢;rw[Pn.aA a]at ha r0 hf ⊢;rw[Pn.aA a]at r1;rw[Pn.aA b]at hb r0 r1 hf ⊢;simp[hf,hl,c3'];rw[aG];by_cases z1:va=0
 case pos=>simp[w1,ha,r0,z1]
 simp[w1,w2,ha,r0,z1];rw[aG];by_cases z2:vb=0
 case pos=>simp[w1,hb,r1,z2]
 simp[w1,hb,r1,z1,z2,w2,w3];rw[aG];have w4:IntKind.i64.wrap (va+vb)=va+vb:=wrO;by_cases h6:va+vb≤6
 ·cases hv:e.ok (va+vb)<;>rw[hv]at qe<;>simp[z1,z2,q0,qe,w4,h6]
 ·simp[z1,z2,w4,h6]
theorem UB {ws:List Int} {lv:Nat} {a:Pn} {va:Int} {b:Pn} {vb:Int} {e:Ex} (ho:only 5 0 [e] [] [a,b]=true) (hl:lv≠0) (hl8:lv≤8) (ha:aI C0 104 [.i (.agg a.cells), .i (.isl (aF ws)), .int (lv-1:Nat)] []=some (.int va,[])) (ra:0≤va∧va≤6) (hb:aI C0 104 [.i (.agg b.cells), .i (.isl (aF ws)), .int (lv-1:Nat)] []=some (.int vb,[])) (rb:0≤vb∧vb≤6):aI C0 104 [.i (.agg [.int 5, .int 0, .isl (Ex.aB [e]), .isl (aF []), .isl (Pn.aB [a,b])]), .i (.isl (aF ws)), .int lv] []=some (.int (if va=0∨vb=0 then 0 else if va+vb≤6∧e.ok (va+vb)=true then va+vb else 0),[]):=by
 rw[aD rfl Tryz.func104 rfl rfl];have hf:=dL 5 0 [e] [] [a,b];rw[ho]at hf;have c3':¬ (lv:Int)=0:=by omega
 have w1:IntKind.i64.wrap ((lv:Int)-1)=(lv-1:Nat):=by rw[wrO];omega
 have w2:IntKind.i64.wrap (1:Int)=1:=cO;have w3:IntKind.i64.wrap (2:Int)=2:=wrO;have r0:fI [a.cells,b.cells] 0=some a.cells:=rfl;have r1:fI [a.cells,b.cells] 1=some b.cells:=rfl;simp only[Pn.aB,aF,Ex.aB]at hf ⊢;have q0:fI [e.cells] 0=some e.cells:=rfl;have qe:=M0 (va+vb) e;rw[Ex.aA e]at q0 qe hf ⊢;rw[Pn.aA a]at ha r0 hf ⊢;rw[Pn.aA a]at r1;rw[Pn.aA b]at hb r0 r1 hf ⊢;simp[hf,hl,c3'];rw[aG];by_cases z1:va=0
 case pos=>simp[w1,ha,r0,z1]
 simp[w1,w2,ha,r0,z1];rw[aG];by_cases z2:vb=0
 case pos=>simp[w1,hb,r1,z2]
 simp[w1,hb,r1,z1,z2,w2,w3];rw[aG];have w4:IntKind.i64.wrap (va+vb)=va+vb:=wrO;by_cases h6:va+vb≤6
 ·cases hv:e.ok (va+vb)<;>rw[hv]at qe<;>simp[z1,z2,q0,qe,w4,h6]
 ·simp[z1,z2,w4,h6]
theorem UA {ws:List Int} {lv:Nat} {a:Pn} {va:Int} {b:Pn} {vb:Int} (ho:only 6 0 [] [] [a,b]=true) (hl:lv≠0) (hl8:lv≤8) (ha:aI C0 104 [.i (.agg a.cells), .i (.isl (aF ws)), .int (lv-1:Nat)] []=some (.int va,[])) (ra:0≤va∧va≤6) (hb:aI C0 104 [.i (.agg b.cells), .i (.isl (aF ws)), .int (lv-1:Nat)] []=some (.int vb,[])) (rb:0≤vb∧vb≤6):aI C0 104 [.i (.agg [.int 6, .int 0, .isl (Ex.aB []), .isl (aF []), .isl (Pn.aB [a,b])]), .i (.isl (aF ws)), .int lv] []=some (.int (if va=0∨vb=0 then 0 else if va=vb then va else 0),[]):=by
 rw[aD rfl Tryz.func104 rfl rfl];have hf:=dL 6 0 [] [] [a,b];rw[ho]at hf;have c3':¬ (lv:Int)=0:=by omega
 have w1:IntKind.i64.wrap ((lv:Int)-1)=(lv-1:Nat):=by rw[wrO];omega
 have w2:IntKind.i64.wrap (1:Int)=1:=cO;have w3:IntKind.i64.wrap (2:Int)=2:=wrO;have r0:fI [a.cells,b.cells] 0=some a.cells:=rfl;have r1:fI [a.cells,b.cells] 1=some b.cells:=rfl;simp only[Pn.aB,aF,Ex.aB]at hf ⊢;rw[Pn.aA a]at ha r0 hf ⊢;rw[Pn.aA a]at r1;rw[Pn.aA b]at hb r0 r1 hf ⊢;simp[hf,hl,c3'];rw[aG];by_cases z1:va=0
 case pos=>simp[w1,ha,r0,z1]
 simp[w1,w2,ha,r0,z1];rw[aG];by_cases z2:vb=0
 case pos=>simp[w1,hb,r1,z2]
 simp[w1,hb,r1,z1,z2,w2,w3];rw[aG];by_cases h6:va=vb<;>simp[z1,z2,h6]
theorem U9 {ws:List Int} {lv:Nat} {a:Pn} {va:Int} (ho:only 7 0 [] [] [a]=true) (hl:lv≠0) (hl8:lv≤8) (ha:aI C0 104 [.i (.agg a.cells), .i (.isl (aF ws)), .int (lv-1:Nat)] []=some (.int va,[])) (ra:0≤va∧va≤6):aI C0 104 [.i (.agg [.int 7, .int 0, .isl (Ex.aB []), .isl (aF []), .isl (Pn.aB [a])]), .i (.isl (aF ws)), .int lv] []=some (.int (if va=0 then 0 else va),[]):=by
 rw[aD rfl Tryz.func104 rfl rfl];have hf:=dL 7 0 [] [] [a];rw[ho]at hf;have c3':¬ (lv:Int)=0:=by omega
 have w1:IntKind.i64.wrap ((lv:Int)-1)=(lv-1:Nat):=by rw[wrO];omega
 have w2:IntKind.i64.wrap (1:Int)=1:=cO;have w3:IntKind.i64.wrap (2:Int)=2:=wrO;have r0:fI [a.cells] 0=some a.cells:=rfl;simp only[Pn.aB,aF,Ex.aB]at hf ⊢;rw[Pn.aA a]at ha r0 hf ⊢;simp[hf,hl,c3'];rw[aG];by_cases z1:va=0
 case pos=>simp[w1,ha,r0,z1]
 simp[w1,w2,ha,r0,z1];rw[aG];simp[z1]
theorem U8 {ws:List Int} {lv:Nat} {a:Pn} {va:Int} {cs:List Int} (ho:only 8 0 [] cs [a]=true) (hl:lv≠0) (hl8:lv≤8) (ha:aI C0 104 [.i (.agg a.cells), .i (.isl (aF ws)), .int (lv-1:Nat)] []=some (.int va,[])) (ra:0≤va∧va≤6) (hc:cs.length<9223372036854775808):aI C0 104 [.i (.agg [.int 8, .int 0, .isl (Ex.aB []), .isl (aF cs), .isl (Pn.aB [a])]), .i (.isl (aF ws)), .int lv] []=some (.int (if va=0 then 0 else if cs.length<6∧oM va cs=true then(cs.length:Int)+1 else 0),[]):=by
 rw[aD rfl Tryz.func104 rfl rfl];have hf:=dL 8 0 [] cs [a];rw[ho]at hf;have c3':¬ (lv:Int)=0:=by omega
 have w1:IntKind.i64.wrap ((lv:Int)-1)=(lv-1:Nat):=by rw[wrO];omega
 have w2:IntKind.i64.wrap (1:Int)=1:=cO;have w3:IntKind.i64.wrap (2:Int)=2:=wrO;have r0:fI [a.cells] 0=some a.cells:=rfl;simp only[Pn.aB,aF,Ex.aB]at hf ⊢;rw[Pn.aA a]at ha r0 hf ⊢;simp[hf,hl,c3'];rw[aG];by_cases z1:va=0
 case pos=>simp[w1,ha,r0,z1]
 simp[w1,w2,ha,r0,z1];rw[aG];have hp:=LD cs va hc ra;by_cases h6:cs.length<6
 ·have w5:IntKind.i64.wrap ((cs.length:Int)+1)=cs.length+1:=wrO
  cases hv:oM va cs<;>rw[hv]at hp<;>simp[z1,hp,h6,show(cs.length:Int)<6 by omega,w5]
 ·cases hv:oM va cs<;>rw[hv]at hp<;>simp[z1,hp,h6,show ¬ (cs.length:Int)<6 by omega]
theorem RH (k t:Int) (es:List Ex) (cs:List Int) (ks:List Pn):only k t es cs ks=true↔((1≤k∧k≤8)∧(ks.length:Int)=iB k∧((es.length:Int)=if k=3 then(es.length:Int)else dR k)∧(t=0∨k=1)∧(cs=[]∨k=8)):=by
 unfold only;simp only[zU,zA7,zP]
theorem tT {ws:List Int} (hw:∀ w∈ws,0≤w∧w≤6) (hwl:ws.length<1000000000):∀ (p:Pn),p.lim→∀ (lv:Nat),lv≤8→aI C0 104 [.i (.agg p.cells), .i (.isl (aF ws)), .int lv] []=some (.int (p.wd ws lv),[]):=by
 intro p
 induction p using Pn.ind with
 | h k t es cs ks ih =>
  intro hp lv hlv;have hp:=(Pn.D9 _).1 hp;simp only[Pn.bW,Pn.eU,Pn.iV]at hp;obtain⟨he,hc,-,hks⟩:=hp;rw[Pn.dP];have hr:=fun a=>Pn.qF hw a (lv-1)
  by_cases ho:only k t es cs ks=true∧(ks=[]∨lv≠0)
  case neg =>
   rw[AC1 ho,Pn.TQ];intro hh;apply ho;refine⟨?_,hh.2⟩;have h:=(kK k t es cs ks).1 hh.1;rw[RH];refine⟨?_,h.1,?_,h.2.2.1.symm,h.2.2.2.symm⟩
   ·rcases CV k with h1|h1|h1|h1<;>omega
   ·by_cases h3:k=3
    ·rw[if_pos h3]
    ·have:=h.2.1;rw[if_neg fun h=>h3 h.1]at this;rw[if_neg h3];exact this
  have hoo:=ho.1;have hq:=(RH k t es cs ks).1 ho.1;obtain⟨h0,h1,h2,h3,h4⟩:=hq;have h5:=ho.2;by_cases hd:Pn.headOk (.mk k t es cs ks)=true
  case neg =>
   rw[Pn.TQ fun h=>hd h.1]
   have hk3:k=3∧¬ bI es.length=true∧(es.length:Int)≠1:=by
    by_cases hk:k=3
    ·refine⟨hk,?_,?_⟩
     ·intro hv;exact hd ((kK k t es cs ks).2 ⟨h1,by rw[if_pos ⟨hk,hv⟩],h3.symm,h4.symm⟩)
     ·intro hv;have:bI es.length=true:=by rw[hv];decide
      exact hd ((kK k t es cs ks).2 ⟨h1,by rw[if_pos ⟨hk,this⟩],h3.symm,h4.symm⟩)
    ·exact absurd ((kK k t es cs ks).2 ⟨h1,by rw[if_neg fun h=>hk h.1];rwa [if_neg hk]at h2,h3.symm,h4.symm⟩) hd
   obtain⟨rfl,hv,hv1⟩:=hk3;obtain⟨a,rfl⟩:=jQ (by simpa using h1);obtain rfl:cs=[]:=by simpa using h4
   obtain rfl:t=0:=by simpa using h3
   have hl:lv≠0:=by simpa using h5
   rw[G6 hoo hl hlv (ih a (by simp) (hks a (by simp)) (lv-1) (by omega)) (hr a) he]
   have:pW es (a.wd ws (lv-1))=0:=by
    unfold pW;split
    ·rename_i h;have:¬ (1≤(es.length:Int)∧(es.length:Int)≤6):=by simpa [bI]using hv
     omega
    ·rfl
   simp[this]
  have hx:=Pn.tC ws lv (.mk k t es cs ks);rw[if_pos (by simpa using (⟨hd,h5⟩:_∧_))]at hx;simp only[Pn.eH,Pn.jV,Pn.bW,Pn.eU,Pn.iV]at hx;rw[hx]
  rcases p8 k with rfl|rfl|rfl|rfl|rfl|rfl|rfl|rfl|h
  ·obtain rfl:=fB (by simpa using h1);obtain rfl:es=[]:=fB (by simpa using h2);obtain rfl:cs=[]:=by simpa using h4
   exact UE hoo hwl
  ·obtain⟨a,rfl⟩:=jQ (by simpa using h1);obtain⟨e,rfl⟩:=jQ (by simpa using h2);obtain rfl:cs=[]:=by simpa using h4
   obtain rfl:t=0:=by simpa using h3
   have hl:lv≠0:=by simpa using h5
   rw[UD hoo hl hlv (ih a (by simp) (hks a (by simp)) (lv-1) (by omega)) (hr a)];by_cases z:a.wd ws (lv-1)=0<;>simp[z,bT]
  ·obtain⟨a,rfl⟩:=jQ (by simpa using h1);obtain rfl:cs=[]:=by simpa using h4
   obtain rfl:t=0:=by simpa using h3
   have hl:lv≠0:=by simpa using h5
   rw[G6 hoo hl hlv (ih a (by simp) (hks a (by simp)) (lv-1) (by omega)) (hr a) he];have h6:=Pn.pI hd;simp only[Pn.bW]at h6;by_cases z:a.wd ws (lv-1)=0<;>simp[z,bT,pW,h6]
  ·obtain⟨a,b,rfl⟩:=vJ (by simpa using h1);obtain⟨e,rfl⟩:=jQ (by simpa using h2);obtain rfl:cs=[]:=by simpa using h4
   obtain rfl:t=0:=by simpa using h3
   have hl:lv≠0:=by simpa using h5
   rw[UC hoo hl hlv (ih a (by simp) (hks a (by simp)) (lv-1) (by omega)) (hr a) (ih b (by simp) (hks b (by simp)) (lv-1) (by omega)) (hr b)];by_cases z:a.wd ws (lv-1)=0<;>by_cases z2:b.wd ws (lv-1)=0<;>simp[z,z2,bT]
  ·obtain⟨a,b,rfl⟩:=vJ (by simpa using h1);obtain⟨e,rfl⟩:=jQ (by simpa using h2);obtain rfl:cs=[]:=by simpa using h4
   obtain rfl:t=0:=by simpa using h3
   have hl:lv≠0:=by simpa using h5
   rw[UB hoo hl hlv (ih a (by simp) (hks a (by simp)) (lv-1) (by omega)) (hr a) (ih b (by simp) (hks b (by simp)) (lv-1) (by omega)) (hr b)];by_cases z:a.wd ws (lv-1)=0<;>by_cases z2:b.wd ws (lv-1)=0<;>simp[z,z2,bT]
  ·obtain⟨a,b,rfl⟩:=vJ (by simpa using h1);obtain rfl:es=[]:=fB (by simpa using h2);obtain rfl:cs=[]:=by simpa using h4
   obtain rfl:t=0:=by simpa using h3
   have hl:lv≠0:=by simpa using h5
   rw[UA hoo hl hlv (ih a (by simp) (hks a (by simp)) (lv-1) (by omega)) (hr a) (ih b (by simp) (hks b (by simp)) (lv-1) (by omega)) (hr b)];by_cases z:a.wd ws (lv-1)=0<;>by_cases z2:b.wd ws (lv-1)=0<;>simp[z,z2,bT]
  ·obtain⟨a,rfl⟩:=jQ (by simpa using h1);obtain rfl:es=[]:=fB (by simpa using h2);obtain rfl:cs=[]:=by simpa using h4
   obtain rfl:t=0:=by simpa using h3
   have hl:lv≠0:=by simpa using h5
   rw[U9 hoo hl hlv (ih a (by simp) (hks a (by simp)) (lv-1) (by omega)) (hr a)];by_cases z:a.wd ws (lv-1)=0<;>simp[z,bT]
  ·obtain⟨a,rfl⟩:=jQ (by simpa using h1);obtain rfl:es=[]:=fB (by simpa using h2);obtain rfl:t=0:=by simpa using h3
   have hl:lv≠0:=by simpa using h5
   rw[U8 hoo hl hlv (ih a (by simp) (hks a (by simp)) (lv-1) (by omega)) (hr a) hc];by_cases z:a.wd ws (lv-1)=0<;>simp[z,bT]
  ·omega
theorem FP (p:Pn) (hp:p.lim) (ws:List Int) (hl:ws.length<9223372036854775808):aI C0 71 [.i (.agg p.cells), .i (.isl (aF ws))] []=some (.int (p.width ws),[]):=by
 rw[aD rfl Tryz.func71 rfl rfl];have hv:=BN ws hl
 cases h:jI ws with
 | false=>rw[h]at hv;rw[Pn.aA];simp[hv,Pn.width,h]
 | true =>
  rw[h]at hv;have h4:ws.length≤4:=by simp[jI]at h;omega
  have hb:=tT (iR h) (by omega) p hp 8 (by omega);rw[show((8:Nat):Int)=8 from rfl]at hb;rw[Pn.aA]at hb ⊢;simp[hv,Pn.width,h,hb]
def IX (l m:List Int) (i:Nat):AS :=
 { env:=[(0, .i (.isl (aF l))),(1, .i (.isl (aF m))),(4, .bool false),(5, .int i),(10, .bool false),(14,jk i (.bool true)),(25,jk i (.bool false))],st:=[] }
def SX (l m:List Int) (i:Nat):AS :=
 { env:=[(0, .i (.isl (aF l))),(1, .i (.isl (aF m))),(4, .bool false),(5,jk i (.int (i-1))),(10, .bool false),(12, .int l.length),(13, .int i),(14,jk i (.bool true)),(24,jk i (.bool false))],st:=[] }
theorem J9 {l m:List Int} (hl:l.length<9223372036854775808):aI C0 85 [.i (.isl (aF l)), .i (.isl (aF m))] []=some (.bool (l == m),[]):=by
 rw[aD rfl Tryz.func85 rfl rfl];by_cases hlm:l.length=m.length
 case neg =>
  have:(l == m)=false:=by simp;intro h;rw[h]at hlm;exact hlm rfl
  simp[show ¬ (l.length:Int)=m.length by omega,this]
 obtain⟨j,h1,h2⟩:=DD l m hlm;simp[hlm];rw[aO (SX l m) j (by simp[SX,hlm])]
 ·rw[aG]
  rcases h2 with ⟨hj,ha⟩|⟨a,b,k1,k2,k3,ha⟩
  ·simp[SX,hj,hlm];exact(beq_iff_eq.1 ha)
  ·have r1:=(zZ.1 k1).1;have s1:=aW k1;have s2:=aW k2;have ha:=beq_eq_false_iff_ne.1 ha;have r3:=(zZ.1 k2).1;simp[SX,r1,r3,s1,s2,k3,ha]
 ·intro i hi;obtain⟨a,k1,k2⟩:=h1 i hi;have r1:=(zZ.1 k1).1;have s1:=aW k1;have s2:=aW k2;have w2:IntKind.i64.wrap ((i:Int)+1)=i+1:=wrO;have r3:=(zZ.1 k2).1;simp[SX,r1,r3,s1,s2,w2]
def EX (a b:Ex) (i:Nat):AS :=
 { env:=[(0, .i (.iref [.int a.kind, .int a.col, .bool a.val.null, .int a.val.n, .isl (Ex.aB a.kids)])),(1, .i (.iref [.int b.kind, .int b.col, .bool b.val.null, .int b.val.n, .isl (Ex.aB b.kids)])),(4, .bool false),(5,jk i (.int (i-1))),(49, .bool false),(54, .int a.kids.length),(55, .int i),(56,jk i (.bool true)),(71,jk i (.bool false))],st:=[] }
theorem Q3 {a b:Ex} (hl:a.kids.length<1000000000) (ih:∀ x∈a.kids,∀ y,aI C0 86 [.i (.iref x.cells), .i (.iref y.cells)] []=some (.bool (x.eqb y),[])) :
 aI C0 86 [.i (.iref a.cells), .i (.iref b.cells)] []=some (.bool (a.eqb b),[]):=by
 rw[aD rfl Tryz.func86 rfl rfl,Ex.aA,Ex.aA,Ex.EF];by_cases h1:a.kind=b.kind
 case neg=>simp[h1]
 by_cases h2:a.col=b.col
 case neg=>simp[h1,h2]
 cases h3:(a.val.null == b.val.null && a.val.n == b.val.n)with
 | false=>simp[h1,h2,h3]
 | true =>
 by_cases h5:a.kids.length=b.kids.length
 case neg=>simp[h1,h2,h3,show ¬ (a.kids.length:Int)=b.kids.length by omega,Ex.kE _ _ h5]
 obtain⟨j,u1,u2⟩:=Ex.iL _ _ h5;simp[h1,h2,h3,h5];rw[aO (EX a b) j (by simp[EX,h1,h2,h5])]
 ·rw[aG]
  rcases u2 with ⟨hj,ha⟩|⟨x,y,k1,k2,k3,k4,ha⟩
  ·simp[EX,hj,h5,ha]
  ·have r1:=(zZ.1 k1).1;have r3:=(zZ.1 k2).1;have s1:=Ex.aJ k1;have s2:=Ex.aJ k2;have hc:=ih x k3 y;rw[Ex.aA]at s1 s2;rw[Ex.aA,Ex.aA]at hc;simp[EX,r1,r3,s1,s2,ha,hc,k4]
 ·intro i hi;obtain⟨x,y,k1,k2,k3,k4⟩:=u1 i hi;have r1:=(zZ.1 k1).1;have r3:=(zZ.1 k2).1;have s1:=Ex.aJ k1;have s2:=Ex.aJ k2;have hc:=ih x k3 y;have w2:IntKind.i64.wrap ((i:Int)+1)=i+1:=wrO;rw[Ex.aA]at s1 s2;rw[Ex.aA,Ex.aA]at hc;simp[EX,r1,r3,s1,s2,hc,k4,w2]
theorem NH:∀ (a:Ex),a.thin→∀ b:Ex,aI C0 86 [.i (.iref a.cells), .i (.iref b.cells)] []=some (.bool (a.eqb b),[]):=by
 intro a
 induction a using Ex.ind with
 | h k c v ks ih =>
  intro ht b;have ht':=(Ex.bC _).1 ht;exact Q3 ht'.1 fun x hx y=>ih x hx (ht'.2 x hx) y
def OX (p q:Pn) (i:Nat):AS :=
 { env:=[(0, .i (.iref [.int p.kind, .int p.table, .isl (Ex.aB p.exprs), .isl (aF p.cols), .isl (Pn.aB p.kids)])),(1, .i (.iref [.int q.kind, .int q.table, .isl (Ex.aB q.exprs), .isl (aF q.cols), .isl (Pn.aB q.kids)])),(4, .bool false),(5,jk i (.int (i-1))),(6, .junk),(38, .bool false),(62, .bool false),(67, .int p.exprs.length),(68, .int i),(69,jk i (.bool true)),(84,jk i (.bool false)),(90, .junk),(91, .junk),(92, .junk),(107, .junk)],st:=[] }
def OY (p q:Pn) (i:Nat):AS :=
 { env:=[(0, .i (.iref [.int p.kind, .int p.table, .isl (Ex.aB p.exprs), .isl (aF p.cols), .isl (Pn.aB p.kids)])),(1, .i (.iref [.int q.kind, .int q.table, .isl (Ex.aB q.exprs), .isl (aF q.cols), .isl (Pn.aB q.kids)])),(4, .bool false),(5,jk p.exprs.length (.int (p.exprs.length-1))),(6,jk i (.int (i-1))),(38, .bool false),(62, .bool false),(67, .int p.exprs.length),(68, .int p.exprs.length),(69, .bool false),(84,jk p.exprs.length (.bool false)),(90, .int p.kids.length),(91, .int i),(92,jk i (.bool true)),(107,jk i (.bool false))],st:=[] }
theorem Q0 {p q:Pn} (hp:p.thin) (ih:∀ a∈p.kids,∀ b,aI C0 54 [.i (.iref a.cells), .i (.iref b.cells)] []=some (.bool (a.eqb b),[])) :
 aI C0 54 [.i (.iref p.cells), .i (.iref q.cells)] []=some (.bool (p.eqb q),[]):=by
 have ht:=(Pn.bC _).1 hp;obtain⟨t1,t2,t3,t4,-⟩:=ht;have q2:=J9 (l:=p.cols) (m:=q.cols) (by omega);rw[aD rfl Tryz.func54 rfl rfl,Pn.aA,Pn.aA,Pn.EF];by_cases h1:p.kind=q.kind
 case neg=>simp[h1]
 by_cases h2:p.table=q.table
 case neg=>simp[h1,h2]
 by_cases h4:p.cols=q.cols
 case neg =>
  have hb:(p.cols == q.cols)=false:=by simpa using h4
  rw[hb]at q2;simp[h1,h2,q2,h4]
 have hb:(p.cols == q.cols)=true:=by simpa using h4
 rw[hb,h4]at q2;by_cases h6:p.exprs.length=q.exprs.length
 case neg=>simp[h1,h2,q2,h4,show ¬ (p.exprs.length:Int)=q.exprs.length by omega,Ex.kE _ _ h6]
 by_cases h5:p.kids.length=q.kids.length
 case neg=>simp[h1,h2,q2,h4,h6,show ¬ (p.kids.length:Int)=q.kids.length by omega,Pn.kE _ _ h5]
 simp[h1,h2,h4,q2,h6,h5];obtain⟨j,v1,v2⟩:=Ex.iL _ _ h6;rw[aO (OX p q) j (by simp[OX,h1,h2,h4,h6])]
 ·rw[aG]
  rcases v2 with ⟨hj,ha⟩|⟨a,b,k1,k2,k3,k4,ha⟩
  ·simp[OX,hj,h6];rw[← h6];obtain⟨j,u1,u2⟩:=Pn.iL _ _ h5;rw[aO (OY p q) j (by simp[OY,h6,h5])]
   ·rw[aG]
    rcases u2 with ⟨hj,hb⟩|⟨a,b,k1,k2,k3,k4,hb⟩
    ·simp[OY,hj,h5,ha,hb]
    ·have r1:=(zZ.1 k1).1;have r3:=(zZ.1 k2).1;have s1:=Pn.aJ k1;have s2:=Pn.aJ k2;have hc:=ih a k3 b;rw[Pn.aA]at s1 s2;rw[Pn.aA,Pn.aA]at hc;simp[OY,r1,r3,s1,s2,ha,hb,hc,k4]
   ·intro i hi;obtain⟨a,b,k1,k2,k3,k4⟩:=u1 i hi;have r1:=(zZ.1 k1).1;have r3:=(zZ.1 k2).1;have s1:=Pn.aJ k1;have s2:=Pn.aJ k2;have hc:=ih a k3 b;have w2:IntKind.i64.wrap ((i:Int)+1)=i+1:=wrO;rw[Pn.aA]at s1 s2;rw[Pn.aA,Pn.aA]at hc;simp[OY,r1,r3,s1,s2,hc,k4,w2]
  ·have r1:=(zZ.1 k1).1;have r3:=(zZ.1 k2).1;have s1:=Ex.aJ k1;have s2:=Ex.aJ k2;have hc:=NH a (t2 a k3) b;rw[Ex.aA]at s1 s2;rw[Ex.aA,Ex.aA]at hc;simp[OX,r1,r3,s1,s2,ha,hc,k4]
 ·intro i hi;obtain⟨a,b,k1,k2,k3,k4⟩:=v1 i hi;have r1:=(zZ.1 k1).1;have r3:=(zZ.1 k2).1;have s1:=Ex.aJ k1;have s2:=Ex.aJ k2;have hc:=NH a (t2 a k3) b;have w2:IntKind.i64.wrap ((i:Int)+1)=i+1:=wrO;rw[Ex.aA]at s1 s2;rw[Ex.aA,Ex.aA]at hc;simp[OX,r1,r3,s1,s2,hc,k4,w2]
theorem ZR:∀ (p:Pn),p.thin→∀ q:Pn,aI C0 54 [.i (.iref p.cells), .i (.iref q.cells)] []=some (.bool (p.eqb q),[]):=by
 intro p
 induction p using Pn.ind with
 | h k t es cs ks ih =>
  intro ht q;exact Q0 ht fun a ha b=>ih a ha (((Pn.bC _).1 ht).2.2.2.2 a ha) b
def FX (a b:Ex) (i:Nat):AS :=
 { env:=[(0, .i (.agg [.int a.kind, .int a.col, .bool a.val.null, .int a.val.n, .isl (Ex.aB a.kids)])),(1, .i (.agg [.int b.kind, .int b.col, .bool b.val.null, .int b.val.n, .isl (Ex.aB b.kids)])),(2, .own 0 0),(3, .own 1 0),(4, .bool false),(5, .int i),(33, .bool false),(38,jk i (.bool true)),(52,jk i (.bool false))],
   st:=[some (.box [.int a.kind, .int a.col, .bool a.val.null, .int a.val.n, .i (.isl (Ex.aB a.kids))]),some (.box [.int b.kind, .int b.col, .bool b.val.null, .int b.val.n, .i (.isl (Ex.aB b.kids))])] }
theorem M4 {a b:Ex} (hl:a.kids.length<1000000000) (ih:∀ x∈a.kids,∀ y,aI C0 83 [.i (.agg x.cells), .i (.agg y.cells)] []=some (.bool (x.eqb y),[])) :
 aI C0 83 [.i (.agg a.cells), .i (.agg b.cells)] []=some (.bool (a.eqb b),[]):=by
 rw[aD rfl Tryz.func83 rfl rfl,Ex.aA,Ex.aA,Ex.EF];by_cases h1:a.kind=b.kind
 case neg=>simp[h1]
 by_cases h2:a.col=b.col
 case neg=>simp[h1,h2]
 cases h3:(a.val.null == b.val.null && a.val.n == b.val.n)with
 | false=>simp[h1,h2,h3]
 | true =>
 by_cases h5:a.kids.length=b.kids.length
 case neg=>simp[h1,h2,h3,show ¬ (a.kids.length:Int)=b.kids.length by omega,Ex.kE _ _ h5]
 obtain⟨j,u1,u2⟩:=Ex.iL _ _ h5;simp[h1,h2,h3,h5];rw[aO (FX a b) j (by simp[FX,h1,h2])]
 ·rw[aG]
  rcases u2 with ⟨hj,ha⟩|⟨x,y,k1,k2,k3,k4,ha⟩
  ·simp[FX,hj,h5,ha]
  ·have r1:=(zZ.1 k1).1;have r3:=(zZ.1 k2).1;have s1:=Ex.aJ k1;have s2:=Ex.aJ k2;have hc:=ih x k3 y;rw[Ex.aA]at s1 s2;rw[Ex.aA,Ex.aA]at hc;simp[FX,r1,r3,s1,s2,ha,hc,k4]
 ·intro i hi;obtain⟨x,y,k1,k2,k3,k4⟩:=u1 i hi;have r1:=(zZ.1 k1).1;have r3:=(zZ.1 k2).1;have s1:=Ex.aJ k1;have s2:=Ex.aJ k2;have hc:=ih x k3 y;have w2:IntKind.i64.wrap ((i:Int)+1)=i+1:=wrO;rw[Ex.aA]at s1 s2;rw[Ex.aA,Ex.aA]at hc;simp[FX,r1,r3,s1,s2,hc,k4,w2]
theorem GA:∀ (a:Ex),a.thin→∀ b:Ex,aI C0 83 [.i (.agg a.cells), .i (.agg b.cells)] []=some (.bool (a.eqb b),[]):=by
 intro a
 induction a using Ex.ind with
 | h k c v ks ih =>
  intro ht b;have ht':=(Ex.bC _).1 ht;exact M4 ht'.1 fun x hx y=>ih x hx (ht'.2 x hx) y
def HX (p q:Pn) (n m:Nat) (i j k:AV) (x51 x65 x70 x83 x88 x102:AV):AS :=
 { env:=[(0, .i (.agg [.int p.kind, .int p.table, .isl (Ex.aB p.exprs), .isl (aF p.cols), .isl (Pn.aB p.kids)])),(1, .i (.agg [.int q.kind, .int q.table, .isl (Ex.aB q.exprs), .isl (aF q.cols), .isl (Pn.aB q.kids)])),(2, .own 0 0),(3, .own 1 0),(4, .bool false),(5,i),(6,j),(7,k),(46, .bool false),(51,x51),(65,x65),(70,x70),(83,x83),(88,x88),(102,x102)],
   st:=[some (.box [.int p.kind, .int p.table, .i (.isl (Ex.aB p.exprs)), .i (.isl (aF p.cols)), .i (.isl (Pn.aB p.kids))]),some (.box [.int q.kind, .int q.table, .i (.isl (Ex.aB q.exprs)), .i (.isl (aF q.cols)), .i (.isl (Pn.aB q.kids))])] }
def H1 (p q:Pn) (i:Nat):AS:=HX p q 0 0 (.int i) .junk .junk (jk i (.bool true)) (jk i (.bool false)) .junk .junk .junk .junk
def H2 (p q:Pn) (i:Nat):AS:=HX p q 0 0 (.int p.exprs.length) (.int i) .junk (.bool false) (jk p.exprs.length (.bool false)) (jk i (.bool true)) (jk i (.bool false)) .junk .junk
def H3 (p q:Pn) (i:Nat):AS:=HX p q 0 0 (.int p.exprs.length) (.int p.cols.length) (.int i) (.bool false) (jk p.exprs.length (.bool false)) (.bool false) (jk p.cols.length (.bool false)) (jk i (.bool true)) (jk i (.bool false))
theorem M3 {p q:Pn} (hp:p.thin) (ih:∀ a∈p.kids,∀ b,aI C0 51 [.i (.agg a.cells), .i (.agg b.cells)] []=some (.bool (a.eqb b),[])) :
 aI C0 51 [.i (.agg p.cells), .i (.agg q.cells)] []=some (.bool (p.eqb q),[]):=by
 have ht:=(Pn.bC _).1 hp;obtain⟨t1,t2,t3,t4,-⟩:=ht;rw[aD rfl Tryz.func51 rfl rfl,Pn.aA,Pn.aA,Pn.EF];by_cases h1:p.kind=q.kind
 case neg=>simp[h1]
 by_cases h2:p.table=q.table
 case neg=>simp[h1,h2]
 by_cases h6:p.exprs.length=q.exprs.length
 case neg=>simp[h1,h2,show ¬ (p.exprs.length:Int)=q.exprs.length by omega,Ex.kE _ _ h6]
 by_cases h7:p.cols.length=q.cols.length
 case neg =>
  have hb:p.cols≠q.cols:=fun h=>h7 (by rw[h])
  simp[h1,h2,h6,show ¬ (p.cols.length:Int)=q.cols.length by omega,hb]
 by_cases h5:p.kids.length=q.kids.length
 case neg=>simp[h1,h2,h6,h7,show ¬ (p.kids.length:Int)=q.kids.length by omega,Pn.kE _ _ h5]
 simp[h1,h2,h6,h7,h5];obtain⟨j,v1,v2⟩:=Ex.iL _ _ h6;rw[aO (H1 p q) j (by simp[H1,HX,h1,h2])]
 ·rw[aG]
  rcases v2 with ⟨hj,hae⟩|⟨a,b,k1,k2,k3,k4,ha⟩
  ·simp[H1,HX,hj];obtain⟨j,g1,g2⟩:=DD _ _ h7;rw[aO (H2 p q) j (by simp[H2,HX])]
   ·rw[aG]
    rcases g2 with ⟨hj,hac⟩|⟨a,b,k1,k2,k3,hac⟩
    ·simp[H2,HX,hj];obtain⟨j,u1,u2⟩:=Pn.iL _ _ h5;have hac:=beq_iff_eq.1 hac;rw[aO (H3 p q) j (by simp[H3,HX])]
     ·rw[aG]
      rcases u2 with ⟨hj,hb⟩|⟨a,b,k1,k2,k3,k4,hb⟩
      ·simp[H3,HX,hj,hae,hac,hb]
      ·have r1:=(zZ.1 k1).1;have r3:=(zZ.1 k2).1;have s1:=Pn.aJ k1;have s2:=Pn.aJ k2;have hc:=ih a k3 b;rw[Pn.aA]at s1 s2;rw[Pn.aA,Pn.aA]at hc;simp[H3,HX,r1,r3,s1,s2,hb,hc,k4]
     ·intro i hi;obtain⟨a,b,k1,k2,k3,k4⟩:=u1 i hi;have r1:=(zZ.1 k1).1;have r3:=(zZ.1 k2).1;have s1:=Pn.aJ k1;have s2:=Pn.aJ k2;have hc:=ih a k3 b;have w2:IntKind.i64.wrap ((i:Int)+1)=i+1:=wrO;rw[Pn.aA]at s1 s2;rw[Pn.aA,Pn.aA]at hc;simp[H3,HX,r1,r3,s1,s2,hc,k4,w2]
    ·have r1:=(zZ.1 k1).1;have r3:=(zZ.1 k2).1;have s1:=aW k1;have s2:=aW k2;have hac:=beq_eq_false_iff_ne.1 hac;simp[H2,HX,r1,r3,s1,s2,k3,hac]
   ·intro i hi;obtain⟨a,k1,k2⟩:=g1 i hi;have r1:=(zZ.1 k1).1;have r3:=(zZ.1 k2).1;have s1:=aW k1;have s2:=aW k2;have w2:IntKind.i64.wrap ((i:Int)+1)=i+1:=wrO;simp[H2,HX,r1,r3,s1,s2,w2]
  ·have r1:=(zZ.1 k1).1;have r3:=(zZ.1 k2).1;have s1:=Ex.aJ k1;have s2:=Ex.aJ k2;have hc:=GA a (t2 a k3) b;rw[Ex.aA]at s1 s2;rw[Ex.aA,Ex.aA]at hc;simp[H1,HX,r1,r3,s1,s2,ha,hc,k4]
 ·intro i hi;obtain⟨a,b,k1,k2,k3,k4⟩:=v1 i hi;have r1:=(zZ.1 k1).1;have r3:=(zZ.1 k2).1;have s1:=Ex.aJ k1;have s2:=Ex.aJ k2;have hc:=GA a (t2 a k3) b;have w2:IntKind.i64.wrap ((i:Int)+1)=i+1:=wrO;rw[Ex.aA]at s1 s2;rw[Ex.aA,Ex.aA]at hc;simp[H1,HX,r1,r3,s1,s2,hc,k4,w2]
theorem UH:∀ (p:Pn),p.thin→∀ q:Pn,aI C0 51 [.i (.agg p.cells), .i (.agg q.cells)] []=some (.bool (p.eqb q),[]):=by
 intro p
 induction p using Pn.ind with
 | h k t es cs ks ih =>
  intro ht q;exact M3 ht fun a ha b=>ih a ha (((Pn.bC _).1 ht).2.2.2.2 a ha) b
def KX (p:Pn) (i:Nat):AS :=
 { env:=[(0, .i (.agg [.int p.kind, .int p.table, .isl (Ex.aB p.exprs), .isl (aF p.cols), .isl (Pn.aB p.kids)])),(1, .own 0 0),(2, .own 1 0),(3, .own 2 0),(4, .int i),(5, .junk),(19,jk i (.bool true)),(37, .junk)],
   st:=some (.box [.int p.kind, .int p.table, .i (.isl (Ex.aB p.exprs)), .i (.isl (aF p.cols)), .i (.isl (Pn.aB p.kids))])::some (.box [.int 0, .int 0, .nils, .nils, .nils]) ::
    some (.box [.int p.kind, .int p.table,gro 3 5 i, .osl (if i=0 then 3 else 4) 1 0 p.cols.length, .nils])::(WM 5 (Ex.aB (p.exprs.take i)) i++[some (.arr 1 (aF p.cols))]) }
def K2 (p:Pn) (i:Nat):AS :=
 { env:=[(0, .i (.agg [.int p.kind, .int p.table, .isl (Ex.aB p.exprs), .isl (aF p.cols), .isl (Pn.aB p.kids)])),(1, .own 0 0),(2, .own 1 0),(3, .own 2 0),(4, .int p.exprs.length),(5, .int i),(19, .bool false),(37,jk i (.bool true))],
   st:=some (.box [.int p.kind, .int p.table, .i (.isl (Ex.aB p.exprs)), .i (.isl (aF p.cols)), .i (.isl (Pn.aB p.kids))])::some (.box [.int 0, .int 0, .nils, .nils, .nils]) ::
    some (.box [.int p.kind, .int p.table,gro 3 5 p.exprs.length, .osl (if p.exprs.length=0 then 3 else 4) 1 0 p.cols.length,gro (if p.exprs.length=0 then 4 else 5) 5 i])::(WM 5 (Ex.aB p.exprs) p.exprs.length++some (.arr 1 (aF p.cols))::WM 5 (Pn.aB (p.kids.take i)) i) }
def pcX (p:Pn):AV:=.agg [.int p.kind, .int p.table,gro 0 5 p.exprs.length, .osl (if p.exprs.length=0 then 0 else 1) 1 0 p.cols.length,gro (if p.exprs.length=0 then 1 else 2) 5 p.kids.length]
def pcS (p:Pn):StL:=WM 5 (Ex.aB p.exprs) p.exprs.length++some (.arr 1 (aF p.cols))::WM 5 (Pn.aB p.kids) p.kids.length
theorem JZ {p:Pn} (hp:p.thin) (ih:∀ a∈p.kids,aI C0 62 [.i (.agg a.cells)] []=some (pcX a,pcS a)) :
 aI C0 62 [.i (.agg p.cells)] []=some (pcX p,pcS p):=by
 have ht:=(Pn.bC _).1 hp;obtain⟨t1,t2,t3,t4,-⟩:=ht;rw[aD rfl Tryz.func62 rfl rfl,Pn.aA];by_cases hc:p.cols=[]
 ·simp[hc,aF];rw[aO (KX p) p.exprs.length (by simp[KX,hc,aF])]
  ·rw[aG]
   cases hn:p.exprs.length with
   | zero =>
    have he:p.exprs=[]:=zX.1 hn;simp[KX,he,hc,aF,Ex.aB];rw[aO (K2 p) p.kids.length (by simp[K2,he,hc,aF,Ex.aB])]
    ·rw[aG]
     cases hm:p.kids.length with
     | zero =>
      have hk:p.kids=[]:=zX.1 hm;simp[K2,he,hc,aF,hk,Ex.aB,Pn.aB,pcX,pcS]
     | succ m =>
      have hk:p.kids.take (m+1)=p.kids:=zW (by omega);simp[K2,he,hc,aF,hm,hk,Ex.aB,pcX,pcS]
    ·intro i hi;have h3:=zY hi;have hc':=ih _ (zV h3);have r2:=Pn.aJ h3;generalize p.kids[i]=a at h3 hc' r2;have w2:IntKind.i64.wrap ((i:Int)+1)=i+1:=wrO;rw[Pn.aA]at r2 hc';simp only[pcX,pcS]at hc';have hl1:(i+1)*88≤140737488355328:=by omega
     have hl2:min i p.kids.length=i:=by omega
     by_cases a1:a.exprs=[]
     ·by_cases a2:a.kids=[]
      ·simp[a1,a2,Ex.aB,Pn.aB]at hc' r2;by_cases h0:i=0
       ·subst h0;simp[K2,he,hc,aF,hi,r2,hc',cO,aM h3,Ex.aB,Pn.aB,Pn.aA a,a1,a2]
       ·simp[K2,he,hc,aF,aN h0,aL h0,bZ h0,hi,r2,hc',w2,aM h3,Ex.aB,Pn.aB,Pn.aU,hl1,hl2,zK,Pn.aA a,h0,a1,a2]
      ·have a2':a.kids.length≠0:=fun h=>a2 (zX.1 h)
       simp[a1,aN a2',aL a2',a2,Ex.aB,Pn.aB]at hc' r2;by_cases h0:i=0
       ·subst h0;simp[K2,he,hc,aF,hi,r2,hc',cO,aM h3,Ex.aB,Pn.aB,Pn.aA a,a1,aN a2',aL a2',a2]
       ·simp[K2,he,hc,aF,aN h0,aL h0,bZ h0,hi,r2,hc',w2,aM h3,Ex.aB,Pn.aB,Pn.aU,hl1,hl2,zK,Pn.aA a,h0,a1,aN a2',aL a2',a2]
     ·by_cases a2:a.kids=[]
      ·have a1':a.exprs.length≠0:=fun h=>a1 (zX.1 h)
       simp[aN a1',aL a1',a1,a2,Ex.aB,Pn.aB]at hc' r2;by_cases h0:i=0
       ·subst h0;simp[K2,he,hc,aF,hi,r2,hc',cO,aM h3,Ex.aB,Pn.aB,Pn.aA a,aN a1',aL a1',a1,a2]
       ·simp[K2,he,hc,aF,aN h0,aL h0,bZ h0,hi,r2,hc',w2,aM h3,Ex.aB,Pn.aB,Pn.aU,hl1,hl2,zK,Pn.aA a,h0,aN a1',aL a1',a1,a2]
      ·have a1':a.exprs.length≠0:=fun h=>a1 (zX.1 h)
       have a2':a.kids.length≠0:=fun h=>a2 (zX.1 h)
       simp[aN a1',aL a1',a1,aN a2',aL a2',a2,Ex.aB,Pn.aB]at hc' r2;by_cases h0:i=0
       ·subst h0;simp[K2,he,hc,aF,hi,r2,hc',cO,aM h3,Ex.aB,Pn.aB,Pn.aA a,aN a1',aL a1',a1,aN a2',aL a2',a2]
       ·simp[K2,he,hc,aF,aN h0,aL h0,bZ h0,hi,r2,hc',w2,aM h3,Ex.aB,Pn.aB,Pn.aU,hl1,hl2,zK,Pn.aA a,h0,aN a1',aL a1',a1,aN a2',aL a2',a2]
   | succ n =>
    have he:p.exprs.take (n+1)=p.exprs:=zW (by omega);simp[KX,hn,he,hc,aF];rw[aO (K2 p) p.kids.length (by simp[K2,hn,hc,aF,Ex.aB])]
    ·rw[aG]
     cases hm:p.kids.length with
     | zero =>
      have hk:p.kids=[]:=zX.1 hm;simp[K2,hn,hc,aF,hk,Ex.aB,Pn.aB,pcX,pcS]
     | succ m =>
      have hk:p.kids.take (m+1)=p.kids:=zW (by omega);simp[K2,hn,hc,aF,hm,hk,Ex.aB,pcX,pcS]
    ·intro i hi;have h3:=zY hi;have hc':=ih _ (zV h3);have r2:=Pn.aJ h3;generalize p.kids[i]=a at h3 hc' r2;have w2:IntKind.i64.wrap ((i:Int)+1)=i+1:=wrO;rw[Pn.aA]at r2 hc';simp only[pcX,pcS]at hc';have hl1:(i+1)*88≤140737488355328:=by omega
     have hl2:min i p.kids.length=i:=by omega
     by_cases a1:a.exprs=[]
     ·by_cases a2:a.kids=[]
      ·simp[a1,a2,Ex.aB,Pn.aB]at hc' r2;by_cases h0:i=0
       ·subst h0;simp[K2,hn,hc,aF,hi,r2,hc',cO,aM h3,Ex.aB,Pn.aB,Pn.aA a,a1,a2]
       ·simp[K2,hn,hc,aF,aN h0,aL h0,bZ h0,hi,r2,hc',w2,aM h3,Ex.aB,Pn.aB,Pn.aU,hl1,hl2,zK,Pn.aA a,h0,a1,a2]
      ·have a2':a.kids.length≠0:=fun h=>a2 (zX.1 h)
       simp[a1,aN a2',aL a2',a2,Ex.aB,Pn.aB]at hc' r2;by_cases h0:i=0
       ·subst h0;simp[K2,hn,hc,aF,hi,r2,hc',cO,aM h3,Ex.aB,Pn.aB,Pn.aA a,a1,aN a2',aL a2',a2]
       ·simp[K2,hn,hc,aF,aN h0,aL h0,bZ h0,hi,r2,hc',w2,aM h3,Ex.aB,Pn.aB,Pn.aU,hl1,hl2,zK,Pn.aA a,h0,a1,aN a2',aL a2',a2]
     ·by_cases a2:a.kids=[]
      ·have a1':a.exprs.length≠0:=fun h=>a1 (zX.1 h)
       simp[aN a1',aL a1',a1,a2,Ex.aB,Pn.aB]at hc' r2;by_cases h0:i=0
       ·subst h0;simp[K2,hn,hc,aF,hi,r2,hc',cO,aM h3,Ex.aB,Pn.aB,Pn.aA a,aN a1',aL a1',a1,a2]
       ·simp[K2,hn,hc,aF,aN h0,aL h0,bZ h0,hi,r2,hc',w2,aM h3,Ex.aB,Pn.aB,Pn.aU,hl1,hl2,zK,Pn.aA a,h0,aN a1',aL a1',a1,a2]
      ·have a1':a.exprs.length≠0:=fun h=>a1 (zX.1 h)
       have a2':a.kids.length≠0:=fun h=>a2 (zX.1 h)
       simp[aN a1',aL a1',a1,aN a2',aL a2',a2,Ex.aB,Pn.aB]at hc' r2;by_cases h0:i=0
       ·subst h0;simp[K2,hn,hc,aF,hi,r2,hc',cO,aM h3,Ex.aB,Pn.aB,Pn.aA a,aN a1',aL a1',a1,aN a2',aL a2',a2]
       ·simp[K2,hn,hc,aF,aN h0,aL h0,bZ h0,hi,r2,hc',w2,aM h3,Ex.aB,Pn.aB,Pn.aU,hl1,hl2,zK,Pn.aA a,h0,aN a1',aL a1',a1,aN a2',aL a2',a2]
  ·intro i hi;have h3:=zY hi;have hc':=sH _ (t2 _ (zV h3));have r2:=Ex.aJ h3;generalize p.exprs[i]=a at h3 hc' r2;have w2:IntKind.i64.wrap ((i:Int)+1)=i+1:=wrO;rw[Ex.aA]at r2 hc';by_cases h0:i=0
   ·subst h0;simp[KX,hc,aF,hi,r2,hc',cO,aM h3,Ex.aB,Ex.aA a]
   ·simp[KX,hc,aF,aN h0,aL h0,bZ h0,hi,r2,hc',w2,aM h3,Ex.aU,show min i p.exprs.length=i by omega,show(i+1)*56≤140737488355328 by omega,zK,Ex.aA a,h0]
 simp[hc,show p.cols.length*8≤140737488355328 by omega];rw[aO (KX p) p.exprs.length (by simp[KX,hc])]
 ·rw[aG]
  cases hn:p.exprs.length with
  | zero =>
   have he:p.exprs=[]:=zX.1 hn;simp[KX,he,hc,Ex.aB];rw[aO (K2 p) p.kids.length (by simp[K2,he,hc,Ex.aB])]
   ·rw[aG]
    cases hm:p.kids.length with
    | zero =>
     have hk:p.kids=[]:=zX.1 hm;simp[K2,he,hc,hk,Ex.aB,Pn.aB,pcX,pcS]
    | succ m =>
     have hk:p.kids.take (m+1)=p.kids:=zW (by omega);simp[K2,he,hc,hm,hk,Ex.aB,pcX,pcS]
   ·intro i hi;have h3:=zY hi;have hc':=ih _ (zV h3);have r2:=Pn.aJ h3;generalize p.kids[i]=a at h3 hc' r2;have w2:IntKind.i64.wrap ((i:Int)+1)=i+1:=wrO;rw[Pn.aA]at r2 hc';simp only[pcX,pcS]at hc';have hl1:(i+1)*88≤140737488355328:=by omega
    have hl2:min i p.kids.length=i:=by omega
    by_cases a1:a.exprs=[]
    ·by_cases a2:a.kids=[]
     ·simp[a1,a2,Ex.aB,Pn.aB]at hc' r2;by_cases h0:i=0
      ·subst h0;simp[K2,he,hc,hi,r2,hc',cO,aM h3,Ex.aB,Pn.aB,Pn.aA a,a1,a2]
      ·simp[K2,he,hc,aN h0,aL h0,bZ h0,hi,r2,hc',w2,aM h3,Ex.aB,Pn.aB,Pn.aU,hl1,hl2,zK,Pn.aA a,h0,a1,a2]
     ·have a2':a.kids.length≠0:=fun h=>a2 (zX.1 h)
      simp[a1,aN a2',aL a2',a2,Ex.aB,Pn.aB]at hc' r2;by_cases h0:i=0
      ·subst h0;simp[K2,he,hc,hi,r2,hc',cO,aM h3,Ex.aB,Pn.aB,Pn.aA a,a1,aN a2',aL a2',a2]
      ·simp[K2,he,hc,aN h0,aL h0,bZ h0,hi,r2,hc',w2,aM h3,Ex.aB,Pn.aB,Pn.aU,hl1,hl2,zK,Pn.aA a,h0,a1,aN a2',aL a2',a2]
    ·by_cases a2:a.kids=[]
     ·have a1':a.exprs.length≠0:=fun h=>a1 (zX.1 h)
      simp[aN a1',aL a1',a1,a2,Ex.aB,Pn.aB]at hc' r2;by_cases h0:i=0
      ·subst h0;simp[K2,he,hc,hi,r2,hc',cO,aM h3,Ex.aB,Pn.aB,Pn.aA a,aN a1',aL a1',a1,a2]
      ·simp[K2,he,hc,aN h0,aL h0,bZ h0,hi,r2,hc',w2,aM h3,Ex.aB,Pn.aB,Pn.aU,hl1,hl2,zK,Pn.aA a,h0,aN a1',aL a1',a1,a2]
     ·have a1':a.exprs.length≠0:=fun h=>a1 (zX.1 h)
      have a2':a.kids.length≠0:=fun h=>a2 (zX.1 h)
      simp[aN a1',aL a1',a1,aN a2',aL a2',a2,Ex.aB,Pn.aB]at hc' r2;by_cases h0:i=0
      ·subst h0;simp[K2,he,hc,hi,r2,hc',cO,aM h3,Ex.aB,Pn.aB,Pn.aA a,aN a1',aL a1',a1,aN a2',aL a2',a2]
      ·simp[K2,he,hc,aN h0,aL h0,bZ h0,hi,r2,hc',w2,aM h3,Ex.aB,Pn.aB,Pn.aU,hl1,hl2,zK,Pn.aA a,h0,aN a1',aL a1',a1,aN a2',aL a2',a2]
  | succ n =>
   have he:p.exprs.take (n+1)=p.exprs:=zW (by omega);simp[KX,hn,he,hc];rw[aO (K2 p) p.kids.length (by simp[K2,hn,hc,Ex.aB])]
   ·rw[aG]
    cases hm:p.kids.length with
    | zero =>
     have hk:p.kids=[]:=zX.1 hm;simp[K2,hn,hc,hk,Ex.aB,Pn.aB,pcX,pcS]
    | succ m =>
     have hk:p.kids.take (m+1)=p.kids:=zW (by omega);simp[K2,hn,hc,hm,hk,Ex.aB,pcX,pcS]
   ·intro i hi;have h3:=zY hi;have hc':=ih _ (zV h3);have r2:=Pn.aJ h3;generalize p.kids[i]=a at h3 hc' r2;have w2:IntKind.i64.wrap ((i:Int)+1)=i+1:=wrO;rw[Pn.aA]at r2 hc';simp only[pcX,pcS]at hc';have hl1:(i+1)*88≤140737488355328:=by omega
    have hl2:min i p.kids.length=i:=by omega
    by_cases a1:a.exprs=[]
    ·by_cases a2:a.kids=[]
     ·simp[a1,a2,Ex.aB,Pn.aB]at hc' r2;by_cases h0:i=0
      ·subst h0;simp[K2,hn,hc,hi,r2,hc',cO,aM h3,Ex.aB,Pn.aB,Pn.aA a,a1,a2]
      ·simp[K2,hn,hc,aN h0,aL h0,bZ h0,hi,r2,hc',w2,aM h3,Ex.aB,Pn.aB,Pn.aU,hl1,hl2,zK,Pn.aA a,h0,a1,a2]
     ·have a2':a.kids.length≠0:=fun h=>a2 (zX.1 h)
      simp[a1,aN a2',aL a2',a2,Ex.aB,Pn.aB]at hc' r2;by_cases h0:i=0
      ·subst h0;simp[K2,hn,hc,hi,r2,hc',cO,aM h3,Ex.aB,Pn.aB,Pn.aA a,a1,aN a2',aL a2',a2]
      ·simp[K2,hn,hc,aN h0,aL h0,bZ h0,hi,r2,hc',w2,aM h3,Ex.aB,Pn.aB,Pn.aU,hl1,hl2,zK,Pn.aA a,h0,a1,aN a2',aL a2',a2]
    ·by_cases a2:a.kids=[]
     ·have a1':a.exprs.length≠0:=fun h=>a1 (zX.1 h)
      simp[aN a1',aL a1',a1,a2,Ex.aB,Pn.aB]at hc' r2;by_cases h0:i=0
      ·subst h0;simp[K2,hn,hc,hi,r2,hc',cO,aM h3,Ex.aB,Pn.aB,Pn.aA a,aN a1',aL a1',a1,a2]
      ·simp[K2,hn,hc,aN h0,aL h0,bZ h0,hi,r2,hc',w2,aM h3,Ex.aB,Pn.aB,Pn.aU,hl1,hl2,zK,Pn.aA a,h0,aN a1',aL a1',a1,a2]
     ·have a1':a.exprs.length≠0:=fun h=>a1 (zX.1 h)
      have a2':a.kids.length≠0:=fun h=>a2 (zX.1 h)
      simp[aN a1',aL a1',a1,aN a2',aL a2',a2,Ex.aB,Pn.aB]at hc' r2;by_cases h0:i=0
      ·subst h0;simp[K2,hn,hc,hi,r2,hc',cO,aM h3,Ex.aB,Pn.aB,Pn.aA a,aN a1',aL a1',a1,aN a2',aL a2',a2]
      ·simp[K2,hn,hc,aN h0,aL h0,bZ h0,hi,r2,hc',w2,aM h3,Ex.aB,Pn.aB,Pn.aU,hl1,hl2,zK,Pn.aA a,h0,aN a1',aL a1',a1,aN a2',aL a2',a2]
 ·intro i hi;have h3:=zY hi;have hc':=sH _ (t2 _ (zV h3));have r2:=Ex.aJ h3;generalize p.exprs[i]=a at h3 hc' r2;have w2:IntKind.i64.wrap ((i:Int)+1)=i+1:=wrO;rw[Ex.aA]at r2 hc';by_cases h0:i=0
  ·subst h0;simp[KX,hc,hi,r2,hc',cO,aM h3,Ex.aB,Ex.aA a]
  ·simp[KX,hc,aN h0,aL h0,bZ h0,hi,r2,hc',w2,aM h3,Ex.aU,show min i p.exprs.length=i by omega,show(i+1)*56≤140737488355328 by omega,zK,Ex.aA a,h0]
theorem sG:∀ (p:Pn),p.thin→aI C0 62 [.i (.agg p.cells)] []=some (pcX p,pcS p):=by
 intro p
 induction p using Pn.ind with
 | h k t es cs ks ih =>
  intro ht;exact JZ ht fun a ha=>ih a ha (((Pn.bC _).1 ht).2.2.2.2 a ha)
def vB (x:Bool) (v:Pn):Option Blk:=if x=true then some (.fbox v.cells)else some (.box (jR v.cells))
end Go.Proofs.YtjdfjgmebalaaaaGreat.P
namespace Go.Av
def PN (l:List Int) (n:Int):List Int:=if l[l.findIdx fun x=>!decide (x<n)]?=some n then l else l.take (l.findIdx fun x=>!decide (x<n))++n::l.drop (l.findIdx fun x=>!decide (x<n))
mutual
def KG:List Int→Ex→List Int
 | l, .mk k c _ ks=>kF (if k=1 then PN l c else l) ks
def kF:List Int→List Ex→List Int
 | l,[]=>l
 | l,e::es=>kF (KG l e) es
end
theorem QL (l:List Int) (e:Ex):KG l e=kF (if e.kind=1 then PN l e.col else l) e.kids:=by
 cases e;simp only[KG,Ex.kind,Ex.col,Ex.kids];congr
theorem vX:∀ (ks:List Ex) (l:List Int) (e:Ex),kF l (ks++[e])=KG (kF l ks) e
 | [],l,e=>by simp[kF]
 | a::ks,l,e=>by simp[kF,vX ks]
theorem AD1 {l:List Int} {n x:Int}:x∈PN l n↔x∈l∨x=n:=by
 unfold PN;split
 ·rename_i h;constructor
  ·exact .inl
  ·rintro(h1|rfl)
   ·exact h1
   ·exact zV h
 ·have e:l.take (l.findIdx fun x=>!decide (x<n))++l.drop (l.findIdx fun x=>!decide (x<n))=l:=yK _ _;generalize l.findIdx (fun x=>!decide (x<n))=k at *
  constructor
  ·intro h
   rcases zT.1 h with h|h
   ·exact .inl (zC h)
   ·rcases zQ.1 h with h|h
    ·exact .inr h
    ·exact .inl (yQ h)
  ·rintro(h|rfl)
   ·rw[← e]at h
    rcases zT.1 h with h|h
    ·exact zT.2 (.inl h)
    ·exact zT.2 (.inr (zQ.2 (.inr h)))
   ·exact zT.2 (.inr (zQ.2 (.inl rfl)))
def Asc (l:List Int):Prop:=l.Pairwise (· < ·)
theorem AD2 {l:List Int} {n:Int} (h:Asc l):Asc (PN l n):=by
 unfold PN;split
 ·exact h
 ·rename_i hne;have e:l.take (l.findIdx fun x=>!decide (x<n))++l.drop (l.findIdx fun x=>!decide (x<n))=l:=yK _ _
  have hlt:∀ x∈l.take (l.findIdx fun x=>!decide (x<n)),x<n:=by
   intro x hx;obtain⟨i,hi⟩:=List.mem_iff_getElem?.1 hx;rw[zL]at hi;split at hi
   ·rename_i hk;have:=List.not_of_lt_findIdx hk;rw[zY (by have:=zA4 (xs:=l) (p:=fun x=>!decide (x<n));omega)]at hi;injection hi with hi;rw[hi]at this;simpa using this
   ·cases hi
  have hge:∀ x∈l.drop (l.findIdx fun x=>!decide (x<n)),n<x:=by
   intro x hx
   rcases zA6 (l.findIdx fun x=>!decide (x<n)) l.length with hk|hk
   ·have h1:=List.findIdx_getElem (w:=hk);have hd:=xA hk;have hn:l[l.findIdx fun x=>!decide (x<n)]≠n:=fun e=>hne (by rw[zY hk,e])
    rw[hd]at hx;have hs:Asc (l.drop (l.findIdx fun x=>!decide (x<n))):=List.Pairwise.sublist (List.drop_sublist _ _) h;rw[hd]at hs;have hs:=List.pairwise_cons.1 hs;simp at h1
    rcases zQ.1 hx with rfl|hx
    ·omega
    ·have:=hs.1 x hx;omega
   ·rw[List.drop_eq_nil_of_le hk]at hx;cases hx
  generalize l.findIdx (fun x=>!decide (x<n))=k at *
  rw[← e]at h;unfold Asc at *
  rw[List.pairwise_append]at h ⊢;refine⟨h.1,List.pairwise_cons.2 ⟨hge,h.2.1⟩,?_⟩;intro a ha b hb
  rcases zQ.1 hb with rfl|hb
  ·exact hlt a ha
  ·exact h.2.2 a ha b hb
theorem AE6:∀ (e:Ex) (l:List Int),Asc l→Asc (KG l e):=by
 intro e
 induction e using Ex.ind with
 | h k c v ks ih =>
  intro l hl;rw[QL]
  have:∀ (xs:List Ex) (l:List Int),(∀ e∈xs,∀ l,Asc l→Asc (KG l e))→Asc l→Asc (kF l xs):=by
   intro xs
   induction xs with
   | nil=>intro l _ h;simpa [kF]using h
   | cons a xs ihx=>intro l h1 h2;exact ihx _ (fun e he=>h1 e (by simp[he])) (h1 a (by simp) l h2)
  refine this _ _ (fun e he=>ih e (by simpa [Ex.kids]using he)) ?_;split
  ·exact AD2 hl
  ·exact hl
theorem AE7 {m:Int} (P:Int→Bool):∀ (e:Ex) (l:List Int),e.wf m=true→((∀ x∈KG l e,P x=true)↔(∀ x∈l,P x=true)∧e.qX P=true):=by
 intro e
 induction e using Ex.ind with
 | h k c v ks ih =>
  intro l hw;rw[QL,Ex.jS]
  have:∀ (xs:List Ex) (l:List Int),(∀ e∈xs,e∈ks)→((∀ x∈kF l xs,P x=true)↔(∀ x∈l,P x=true)∧xs.all (Ex.qX P)=true):=by
   intro xs
   induction xs with
   | nil=>intro l _;simp[kF]
   | cons a xs ihx =>
    intro l h1;have ha:=h1 a (by simp);simp only[kF,List.all_cons,zU];rw[ihx _ fun e he=>h1 e (by simp[he]),ih a ha l (Ex.lY hw (by simpa [Ex.kids]using ha))];exact and_assoc
  simp only[Ex.kind,Ex.col,Ex.kids];rw[this ks _ fun e he=>he];by_cases h1:k=1
  ·have hk:=(Ex.qY hw (by simpa [Ex.kind]using h1)).2.2;simp only[Ex.kids]at hk;subst hk;simp only[h1,if_true,AD1];simp;constructor
   ·intro h;exact⟨fun x hx=>h x (.inl hx),h c (.inr rfl)⟩
   ·rintro⟨h2,h3⟩ x (hx|rfl)
    ·exact h2 x hx
    ·exact h3
  ·simp only[h1,if_false]
theorem AAK {l:List Int} (h:Asc l) (lo hi:Int):(∀ x∈l,lo≤x∧x≤hi)↔(l=[]∨(∃ a,l[0]?=some a∧lo≤a)∧(∃ b,l[l.length-1]?=some b∧b≤hi)):=by
 constructor
 ·intro hall
  cases hl:l with
  | nil=>exact .inl rfl
  | cons a r =>
   right;rw[← hl];have h0:l[0]?=some a:=by rw[hl];rfl
   have hk:l.length-1<l.length:=by rw[hl];simp
   exact⟨⟨a,h0,(hall a (zV h0)).1⟩,⟨l[l.length-1],zY hk,(hall _ (y8 hk)).2⟩⟩
 ·rintro(rfl|⟨⟨a,h0,h1⟩,b,h2,h3⟩) x hx
  ·cases hx
  ·obtain⟨i,hi⟩:=List.mem_iff_getElem?.1 hx
   have hil:=(zZ.1 hi)
   have h0l:=(zZ.1 h0)
   have h2l:=(zZ.1 h2)
   obtain⟨p1,rfl⟩:=hil;obtain⟨p2,rfl⟩:=h0l;obtain⟨p3,rfl⟩:=h2l;have hp:=List.pairwise_iff_getElem.1 h;constructor
   ·by_cases hz:i=0
    ·subst hz;exact h1
    ·have:=hp 0 i p2 p1 (by omega);omega
   ·by_cases hz:i=l.length-1
    ·subst hz;exact h3
    ·have:=hp i (l.length-1) p1 p3 (by omega);omega
end Go.Av
namespace Go.Proofs.YtjdfjgmebalaaaaGreat.P
open Go Go.Av
set_option maxRecDepth 4000
set_option maxHeartbeats 2000000
theorem YN {a:Nat} (ha:a<64):a % 2 ^ IntKind.i64.bits=a:=by
 show a % 18446744073709551616=a;exact Nat.mod_eq_of_lt (by omega)
theorem AGV {a:Nat} (ha:a<64):(a:Int) % 2 ^ IntKind.i64.bits=a:=by
 show(a:Int) % 18446744073709551616=a;omega
theorem ACH {a b:Nat} (ha:a<64) (hb:b<64):IntKind.i64.wrap ((a ||| b:Nat):Int)=((a ||| b:Nat):Int):=by
 have h3:a ||| b<2 ^ 6:=xX (by omega) (by omega)
 exact wrO
theorem ABG {a:Nat} (ha:a<64):IntKind.i64.wrap (a:Int)=a:=wrO
def KBX (e:Ex) (i:Nat):AS :=
 { env:=[(0, .i (.iref [.int e.kind, .int e.col, .bool e.val.null, .int e.val.n, .isl (Ex.aB e.kids)])),(2, .int 0),(3, .int (Ex.o8 (e.kids.take i):Nat)),(4,jk i (.int (i-1))),(9, .bool false),(19, .int e.kids.length),(20, .int i),(21,jk i (.bool true))],st:=[] }
theorem IK:∀ e:Ex,e.size<1000000000→e.qX (fun c=>decide (0≤c∧c<6))=true→aI C0 151 [.i (.iref e.cells)] []=some (.int (e.bits:Nat),[]):=by
 intro e
 induction e using Ex.ind with
 | h k c v ks ih =>
  intro hs ha;generalize he:Ex.mk k c v ks=e at *
  have hk1:k=e.kind:=by rw[← he];rfl
  have hks:ks=e.kids:=by rw[← he];rfl
  subst hks;have hsz:=Ex.size_eq e;have hln:=Ex.bK e.kids;rw[aD rfl Tryz.func151 rfl rfl,Ex.aA];rw[Ex.jS]at ha;by_cases h1:e.kind=1
  ·simp only[h1,if_true]at ha;have ha:=zS ha;rw[Ex.KA h1];have hc:e.col=0∨e.col=1∨e.col=2∨e.col=3∨e.col=4∨e.col=5:=by omega
   rcases hc with hc|hc|hc|hc|hc|hc<;>(simp[h1,hc];decide)
  ·simp only[h1,if_false,zR]at ha;rw[Ex.K8 h1];simp[h1];rw[aO (KBX e) e.kids.length (by simp[KBX,Ex.o8,h1])]
   ·rw[aG];simp[KBX]
   ·intro i hi;have h3:=zY hi;have hm:=zV h3;have r2:=Ex.aJ h3;have htk:=aM h3;generalize e.kids[i]=a at h3 hm r2 htk;have hk:=ih a hm (by have:=Ex.gI hm;omega) (ha a hm);have w2:IntKind.i64.wrap ((i:Int)+1)=i+1:=wrO;have hb:a.bits<2 ^ 6:=Ex.K9 a (ha a hm);have hbl:Ex.o8 (e.kids.take i)<2 ^ 6:=Ex.KC fun x hx=>Ex.K9 x (ha x (zC hx))
    have hor:=ACH (a:=Ex.o8 (e.kids.take i)) (b:=a.bits) (by omega) (by omega);rw[Ex.aA a]at r2 hk;by_cases h0:i=0
    ·subst h0;simp[KBX,hi,r2,hk,cO,htk,Ex.vT,Ex.o8,AGV (show a.bits<64 by omega),ABG (show a.bits<64 by omega)]
    ·simp[KBX,bZ h0,hi,r2,hk,w2,htk,Ex.vT,hor,YN (show a.bits<64 by omega),YN (show Ex.o8 (e.kids.take i)<64 by omega)]
def ANX (l:List Int) (n:Int) (i:Nat):AS :=
 { env:=[(0, .i (.isl (aF l))),(1, .int n),(4, .nils),(5, .int i),(6, .junk),(18,jk i (.bool true)),(32, .junk)],st:=[] }
theorem OB (l:List Int) (n:Int) (hl:l.length<1000000):aI C0 202 [.i (.isl (aF l)), .int n] []=some (.i (.isl (aF (PN l n))),[]):=by
 rw[aD rfl Tryz.func202 rfl rfl]
 have hlt:∀ i,i<l.findIdx (fun x=>!decide (x<n))→∃ x,l[i]?=some x∧x<n:=by
  intro i hi;have hle:=zA4 (xs:=l) (p:=fun x=>!decide (x<n));have:=List.not_of_lt_findIdx hi;exact⟨l[i]'(by omega),zY (by omega),by simpa using this⟩
 have hat:∀ x,l[l.findIdx fun x=>!decide (x<n)]?=some x→¬ x<n:=by
  intro x hx;obtain⟨h1,rfl⟩:=zZ.1 hx;have:=List.findIdx_getElem (w:=h1);simpa using this
 have hle:=zA4 (xs:=l) (p:=fun x=>!decide (x<n));unfold PN;generalize l.findIdx (fun x=>!decide (x<n))=j at *
 simp;rw[aO (ANX l n) j (by simp[ANX])]
 ·rw[aG]
  cases hj:l[j]? with
  | none =>
   have hjl:j=l.length:=by have:=xU.1 hj;omega
   subst hjl;have hb:((l.length:Int)+1)*8≤140737488355328:=by omega
   have hb1:(l.length+1)*8≤140737488355328:=by omega
   have hb2:l.length*8≤140737488355328:=by omega
   have ht:List.take (l.length+1) (aF l++[[IV.lit (Value.int IntKind.i64 n)]])=aF l++[[IV.lit (Value.int IntKind.i64 n)]]:=zW (by simp);simp[ANX,hb1,hb2,jK,aF,ht]
  | some x =>
   have hx:=hat x hj;have hjl:=(zZ.1 hj).1;have r2:=aW hj;by_cases hxn:x=n
   ·subst hxn;simp[ANX,hjl,r2]
   ·have hb1:(j+1)*8≤140737488355328:=by omega
    have hb2:j*8≤140737488355328:=by omega
    have hb3:(j+1+(l.length-j))*8≤140737488355328:=by omega
    have t1:(l.take j).length=j:=by simp;omega
    have t2:(aF (l.take j)++[[IV.lit (Value.int IntKind.i64 n)]]).take (j+1)=aF (l.take j)++[[IV.lit (Value.int IntKind.i64 n)]]:=zW (by simp;omega);have t3:(l.drop j).take (l.length-j)=l.drop j:=zW (by simp);have t4:(aF (l.take j)++[[IV.lit (Value.int IntKind.i64 n)]]++aF (l.drop j)).take (j+1+(l.length-j))=aF (l.take j)++[[IV.lit (Value.int IntKind.i64 n)]]++aF (l.drop j):=zW (by simp;omega);have t5:(l.take j).take j=l.take j:=zW (by omega);simp[ANX,hjl,hle,r2,hx,hxn,hb1,hb2,hb3,jK,aF];rw[t5,t2,t3,t4];simp
 ·intro i hi;obtain⟨x,h3,hx⟩:=hlt i hi;have r2:=aW h3;have hil:=(zZ.1 h3).1;have w2:IntKind.i64.wrap ((i:Int)+1)=i+1:=wrO;simp[ANX,hil,r2,hx,w2]
end Go.Proofs.YtjdfjgmebalaaaaGreat.P
namespace Go.Av
theorem Ex.AFO {w w':Int} (h:w≤w'):∀ e:Ex,e.wf w=true→e.wf w'=true:=by
 intro e
 induction e using Ex.ind with
 | h k c v ks ih =>
  intro hw;rw[Ex.KU]at hw ⊢;simp only[zU]at hw ⊢;refine⟨hw.1,?_,?_⟩
  ·have h2:=hw.2.1;unfold Ex.headOk at h2 ⊢;split at h2
   ·rename_i h1;rw[if_pos h1];simp only[zU,zP]at h2 ⊢;exact⟨h2.1,by omega,h2.2.2⟩
   ·rename_i h1;rw[if_neg h1];exact h2
  ·rw[zR]at *
   exact fun x hx=>ih x hx (hw.2.2 x hx)
theorem Ex.AC {w:Int} {e:Ex} (h:e.ok w=true):e.wf w=true∧1≤w∧w≤6:=by
 unfold Ex.ok bI at h;rw[Ex.LF]at h;simp only[zU,zP]at h;exact⟨h.2.1,h.1.1,h.1.2⟩
theorem Ex.YG {w:Int} {e:Ex} (h:e.ok w=true):e.wf 6=true:=Ex.AFO (Ex.AC h).2.2 e (Ex.AC h).1
theorem Ex.QN {e:Ex} (h:e.wf 6=true):e.qX (fun c=>decide (0≤c∧c<6))=true:=Ex.J3 e h
theorem Ex.ABH {w:Int} {e:Ex} (h:e.wf w=true):e.qX (fun c=>decide (0≤c))=true:=Ex.mZ (fun c hc=>by simp only[zP]at hc ⊢;exact hc.1) e (Ex.J3 e h)
theorem Ex.TE {f g:Int→Bool}:∀ e:Ex,e.qX f=true→e.qX g=true→e.qX (fun c=>f c && g c)=true:=by
 intro e
 induction e using Ex.ind with
 | h k c v ks ih =>
  intro h1 h2;rw[Ex.jS]at *
  by_cases hk:k=1
  ·subst hk;simp only[Ex.kind,Ex.col,if_true]at h1 h2 ⊢;simp[h1,h2]
  ·simp only[Ex.kind,Ex.kids,hk,if_false,zR]at h1 h2 ⊢;exact fun x hx=>ih x hx (h1 x hx) (h2 x hx)
theorem ADM {e:Ex} {m:Int} (h:e.wf m=true) (lo hi:Int):(KG [] e=[]∨(∃ a,(KG [] e)[0]?=some a∧lo≤a)∧(∃ b,(KG [] e)[(KG [] e).length-1]?=some b∧b≤hi-1))↔e.cin lo hi=true:=by
 rw[← AAK (AE6 e [] List.Pairwise.nil)];have:=AE7 (fun x=>decide (lo≤x∧x<hi)) e [] h;unfold Ex.cin;constructor
 ·intro h1;exact(this.1 fun x hx=>by have:=h1 x hx;simp only[zP];omega).2
 ·intro h1 x hx;have:=this.2 ⟨by simp,h1⟩ x hx;simp only[zP]at this;omega
theorem OC:∀ (e:Ex) (l:List Int),(KG l e).length≤l.length+e.size:=by
 intro e
 induction e using Ex.ind with
 | h k c v ks ih =>
  intro l;have hm:KG l (.mk k c v ks)=kF (if k=1 then PN l c else l) ks:=by simp[KG]
  have hz:(Ex.mk k c v ks).size=1+Ex.aZ ks:=by simp[Ex.size]
  rw[hm,hz]
  have:∀ (xs:List Ex) (l:List Int),(∀ x∈xs,x∈ks)→(kF l xs).length≤l.length+Ex.aZ xs:=by
   intro xs
   induction xs with
   | nil=>intro l _;simp[kF]
   | cons a xs ihx =>
    intro l h;have h1:=ihx (KG l a) fun x hx=>h x (by simp[hx])
    have h2:=ih a (h a (by simp)) l;simp only[kF,Ex.aZ];omega
  have h2:(PN l c).length≤l.length+1:=by
   unfold PN;split
   ·omega
   ·simp only[zF,yM,zO,xS];omega
  by_cases h1:k=1
  ·rw[if_pos h1];have:=this ks (PN l c) fun x hx=>hx
   omega
  ·rw[if_neg h1];have:=this ks l fun x hx=>hx
   omega
def okS (a:Int):Prop:=1≤a∧a≤7
theorem ADJ:∀ a b:Fin 8,a.val≠0→b.val≠0→(1≤jT 8 a.val b.val∧jT 8 a.val b.val≤7)∧(1≤jT 9 a.val b.val∧jT 9 a.val b.val≤7)∧(1≤jT 3 a.val b.val∧jT 3 a.val b.val≤7)∧(1≤jT 6 a.val b.val∧jT 6 a.val b.val≤7):=by decide
theorem AHZ {k a b:Int} (ha:okS a) (hb:okS b):okS (jT k a b):=by
 obtain⟨a,rfl⟩:=zB (show 0≤a by have:=ha.1;omega);obtain⟨b,rfl⟩:=zB (show 0≤b by have:=hb.1;omega);have h:=ADJ ⟨a,by have:=ha.2;omega⟩ ⟨b,by have:=hb.2;omega⟩ (by have:=ha.1;simp;omega) (by have:=hb.1;simp;omega);unfold okS;by_cases h8:k=8
 ·subst h8;exact h.1
 ·by_cases h9:k=9
  ·subst h9;exact h.2.1
  ·by_cases h6:k<6
   ·have e:jT k a b=jT 3 a b:=by simp[jT,h8,h9,h6]
    rw[e];exact h.2.2.1
   ·have e:jT k a b=jT 6 a b:=by simp[jT,h8,h9,h6]
    rw[e];exact h.2.2.2
theorem ACJ:∀ a:Fin 8,a.val≠0→(1≤AN9 a.val∧AN9 a.val≤7)∧(1≤AN8 a.val∧AN8 a.val≤7):=by decide
theorem AK7 (v:Val):okS (stV v):=by
 unfold stV okS;split
 ·omega
 ·split<;>omega
theorem PD (st:List Int) (e:Ex):FI st e=if e.kind=1 then(st[e.col.toNat]?).getD 0 else if e.kind=2 then stV e.val else if e.kind=10 then AN9 ((e.kids[0]?.map (FI st)).getD 0)else if e.kind=11 then AN8 ((e.kids[0]?.map (FI st)).getD 0)else jT e.kind ((e.kids[0]?.map (FI st)).getD 0) ((e.kids[1]?.map (FI st)).getD 0):=by
 cases e
 simp only[FI,MI,Ex.kind,Ex.col,Ex.val,Ex.kids,zA0];congr
end Go.Av
namespace Go.Proofs.YtjdfjgmebalaaaaGreat.P
open Go Go.Av
set_option maxRecDepth 4000
set_option maxHeartbeats 4000000
@[simp] theorem wr0:IntKind.i64.wrap 0=0:=by decide
@[simp] theorem wr1:IntKind.i64.wrap 1=1:=by decide
@[simp] theorem wr2:IntKind.i64.wrap 2=2:=by decide
@[simp] theorem wr3:IntKind.i64.wrap 3=3:=by decide
@[simp] theorem wr4:IntKind.i64.wrap 4=4:=by decide
@[simp] theorem wr7:IntKind.i64.wrap 7=7:=by decide
@[simp] theorem AZG:(2:Nat) ^ IntKind.i64.bits=18446744073709551616:=rfl
@[simp] theorem AZH:(2:Int) ^ IntKind.i64.bits=18446744073709551616:=rfl
def ACX (e:Ex) (l:List Int) (i:Nat):AS :=
 { env:=[(0, .i (.isl (aF (kF l (e.kids.take i))))),(1, .i (.agg [.int e.kind, .int e.col, .bool e.val.null, .int e.val.n, .isl (Ex.aB e.kids)])),(3, .own 0 0),(4, .nils),(5, .int i),(8, .bool (e.kind == 1)),(17,jk i (.bool true))],
   st:=[some (.box [.int e.kind, .int e.col, .bool e.val.null, .int e.val.n, .i (.isl (Ex.aB e.kids))])] }
theorem KF:∀ e:Ex,∀ l:List Int,l.length+e.size<1000000→aI C0 189 [.i (.isl (aF l)), .i (.agg e.cells)] []=some (.i (.isl (aF (KG l e))),[]):=by
 intro e
 induction e using Ex.ind with
 | h k c v ks ih =>
  intro l hs;generalize he:Ex.mk k c v ks=e at *
  have hks:ks=e.kids:=by rw[← he];rfl
  subst hks;have hsz:=Ex.size_eq e;have hln:=Ex.bK e.kids
  have hrd:∀ l':List Int,l'.length≤l.length+1→∀ i,i<e.kids.length→∃ a,e.kids[i]?=some a∧e.kids.take (i+1)=e.kids.take i++[a]∧fI (Ex.aB e.kids) i=some a.cells∧aI C0 189 [.i (.isl (aF (kF l' (e.kids.take i)))), .i (.agg a.cells)] []=some (.i (.isl (aF (KG (kF l' (e.kids.take i)) a))),[]):=by
   intro l' hl' i hi;have h3:=zY hi;have hm:=zV h3;have htk:=aM h3;refine⟨e.kids[i],h3,htk,Ex.aJ h3,ih _ hm _ ?_⟩
   have hadd:∀ (xs:List Ex) (l:List Int),(kF l xs).length≤l.length+Ex.aZ xs:=by
    intro xs
    induction xs with
    | nil=>intro l;simp[kF]
    | cons a xs ihx=>intro l;have h1:=ihx (KG l a);have h2:=OC a l;simp only[kF,Ex.aZ];omega
   have h1:=hadd (e.kids.take i) l'
   have hsum:∀ (xs ys:List Ex),Ex.aZ (xs++ys)=Ex.aZ xs+Ex.aZ ys:=by
    intro xs
    induction xs with
    | nil=>intro ys;simp[Ex.aZ]
    | cons a xs ihx=>intro ys;simp[Ex.aZ,ihx,yN]
   have h2:=hsum (e.kids.take (i+1)) (e.kids.drop (i+1));rw[yK,htk,hsum]at h2;simp only[Ex.aZ]at h2;omega
  rw[aD rfl Tryz.func189 rfl rfl,Ex.aA,QL];by_cases h1:e.kind=1
  ·have hn:=OB l e.col (by omega)
   have hil:(PN l e.col).length≤l.length+1:=by
    unfold PN;split
    ·omega
    ·simp only[zF,yM,zO,xS];omega
   simp[h1,hn];rw[aO (ACX e (PN l e.col)) e.kids.length (by simp[ACX,kF,h1])]
   ·rw[aG];simp[ACX]
   ·intro i hi;obtain⟨a,h3,htk,r2,hk⟩:=hrd _ hil i hi;have w2:IntKind.i64.wrap ((i:Int)+1)=i+1:=wrO;rw[Ex.aA a]at r2 hk;simp[ACX,hi,r2,hk,w2,htk,vX]
  ·simp[h1];rw[aO (ACX e l) e.kids.length (by simp[ACX,kF,h1])]
   ·rw[aG];simp[ACX]
   ·intro i hi;obtain⟨a,h3,htk,r2,hk⟩:=hrd l (by omega) i hi;have w2:IntKind.i64.wrap ((i:Int)+1)=i+1:=wrO;rw[Ex.aA a]at r2 hk;simp[ACX,hi,r2,hk,w2,htk,vX]
theorem KS (e:Ex) {m:Int} (hw:e.wf m=true) (hs:e.size<100000) (lo hi:Int) (hh:-100≤hi∧hi≤100):aI C0 168 [.i (.agg e.cells), .int lo, .int (hi-1)] []=some (.bool (e.cin lo hi),[]):=by
 have ha:=KF e [] (by simp;omega);have hc:=ADM hw lo hi;have hsz:=OC e [];rw[aD rfl Tryz.func168 rfl rfl];generalize KG [] e=l at *
 rw[Ex.aA]at *
 simp only[aF]at ha
 cases hl:l with
 | nil =>
  have:e.cin lo hi=true:=hc.1 (.inl hl);rw[hl]at ha;simp[ha,this,aF]
 | cons a r =>
  have h0:l[0]?=some a:=by rw[hl];rfl
  have hlen:0<l.length:=by rw[hl];simp
  have hk:l.length-1<l.length:=by omega
  have h2:=zY hk;generalize l[l.length-1]=b at h2;have r0:=aW h0;have r2:=aW h2;have w1:IntKind.i64.wrap ((l.length:Int)-1)=((l.length-1:Nat):Int):=by rw[wrap64 (by simp at hsz;omega) (by simp at hsz;omega)];omega
  have hne:¬ l=[]:=by rw[hl];simp
  have hiff:e.cin lo hi=(decide (lo≤a) && decide (b≤hi-1)):=by
   rw[xK,← hc];simp only[zU,zP];constructor
   ·rintro(h|⟨⟨x,hx,h3⟩,y,hy,h4⟩)
    ·exact absurd h hne
    ·rw[h0]at hx;rw[h2]at hy;injection hx with hx;injection hy with hy;subst hx;subst hy;exact⟨h3,h4⟩
   ·rintro⟨h3,h4⟩;exact .inr ⟨⟨a,h0,h3⟩,b,h2,h4⟩
  rw[hiff];by_cases q:lo≤a
  ·have q2:a ≥ lo:=q;simp[ha,hne,r0,r2,w1,hlen,hk,q]
  ·simp[ha,hne,r0,hlen,q]
theorem jJ (b:Bool) (n:Int):aI C0 196 [.i (.agg [.bool b, .int n])] []=some (.int (stV ⟨b,n⟩),[]):=by
 rw[aD rfl Tryz.func196 rfl rfl]
 cases b
 ·by_cases h:n=0<;>simp[stV,h]
 ·simp[stV]
theorem LX (b:Bool) (n:Int):aI C0 203 [.i (.agg [.bool b, .int n])] []=some (.int (stV ⟨b,n⟩),[]):=by
 rw[aD rfl Tryz.func203 rfl rfl]
 cases b
 ·by_cases h:n=0<;>simp[stV,h]
 ·simp[stV]
theorem TS (x:Int):aI C0 210 [.int x] []=some (.i (.agg [.bool (decide (x=4)), .int (if x=2 then 1 else 0)]),[]):=by
 rw[aD rfl Tryz.func210 rfl rfl];by_cases h:x=4
 ·subst h;simp
 ·by_cases h2:x=2
  ·subst h2;simp
  ·simp[h,h2]
theorem eight {a:Int} (h:0≤a∧a≤7):a=0∨a=1∨a=2∨a=3∨a=4∨a=5∨a=6∨a=7:=by omega
theorem EE {a:Int} (h:0≤a∧a≤7):aI C0 207 [.int a] []=some (.i (.isl (rG (exS a))),[]):=by
 rw[aD rfl Tryz.func207 rfl rfl];have s0:=jJ false 0;have s1:=jJ false 1;have s2:=jJ true 0;simp only[stV,yZ,if_false,if_true,Int.reduceEq]at s0 s1 s2
 rcases eight h with rfl|rfl|rfl|rfl|rfl|rfl|rfl|rfl
 all_goals
  simp;rw[aG];simp[s0,s1,s2];rw[aG];simp[s0,s1,s2];rw[aG];simp[s0,s1,s2];rw[aG];simp[exS,iI,rG]
theorem aQ (e:Ex) (k:Pn):(filt e k).cells=[.int 2, .int 0, .isl [e.cells], .isl [], .isl [k.cells]]:=by simp[filt,Pn.cells,Ex.aB,aF,Pn.aB]
theorem gT (es:List Ex) (k:Pn):(proj es k).cells=[.int 3, .int 0, .isl (Ex.aB es), .isl [], .isl [k.cells]]:=by simp[proj,Pn.cells,aF,Pn.aB]
theorem pair_cells (kd:Int) (e:Ex) (a b:Pn):(aY kd e a b).cells=[.int kd, .int 0, .isl [e.cells], .isl [], .isl [a.cells,b.cells]]:=by simp[aY,Pn.cells,Ex.aB,aF,Pn.aB]
theorem BL (a b:Pn):(bY a b).cells=[.int 6, .int 0, .isl [], .isl [], .isl [a.cells,b.cells]]:=by simp[bY,Pn.cells,Ex.aB,aF,Pn.aB]
theorem mY (a b:Ex):(TC a b).cells=[.int 8, .int 0, .bool false, .int 0, .isl [a.cells,b.cells]]:=by simp[TC,Ex.cells,Ex.aB,Val.zero]
theorem iX (c:Int):(SY c).cells=[.int 1, .int c, .bool false, .int 0, .isl []]:=by simp[SY,Ex.cells,Ex.aB,Val.zero]
theorem aR:Pn.zero.cells=[.int 0, .int 0, .isl [], .isl [], .isl []]:=by simp[Pn.zero,Pn.cells,Ex.aB,aF,Pn.aB]
theorem dO (e:Ex) (k:Pn):aI C0 149 [.i (.agg e.cells), .i (.agg k.cells)] []=some (.i (.agg (filt e k).cells),[]):=by
 rw[aD rfl Tryz.func149 rfl rfl,aQ,Ex.aA,Pn.aA];simp
theorem kT (kd:Int) (e:Ex) (a b:Pn):aI C0 152 [.int kd, .i (.agg e.cells), .i (.agg a.cells), .i (.agg b.cells)] []=some (.i (.agg (aY kd e a b).cells),[]):=by
 rw[aD rfl Tryz.func152 rfl rfl,pair_cells,Ex.aA,Pn.aA a,Pn.aA b];simp
theorem AA6 (a b:Ex):aI C0 150 [.i (.agg a.cells), .i (.agg b.cells)] []=some (.i (.agg (TC a b).cells),[]):=by
 rw[aD rfl Tryz.func150 rfl rfl,mY,Ex.aA a,Ex.aA b];simp
theorem vO (c:Int):aI C0 156 [.int c] []=some (.i (.agg (SY c).cells),[]):=by
 rw[aD rfl Tryz.func156 rfl rfl,iX];simp
theorem dY {p:Pn} {kd:Int} (h:p.kind≠2):aI C0 148 [.i (.iref p.cells), .int kd] []=some (.tup [.i (.lit (.pointer none)), .i (.lit (.pointer none)), .bool false],[]):=by
 rw[aD rfl Tryz.func148 rfl rfl,Pn.aA];simp[h]
theorem dG {e:Ex} {k:Pn} {kd:Int} (h:k.kind≠kd):aI C0 148 [.i (.iref (filt e k).cells), .int kd] []=some (.tup [.i (.lit (.pointer none)), .i (.lit (.pointer none)), .bool false],[]):=by
 rw[aD rfl Tryz.func148 rfl rfl,aQ,Pn.aA k];simp[h]
theorem eF {e:Ex} {k:Pn} {kd:Int} (h:k.kind=kd):aI C0 148 [.i (.iref (filt e k).cells), .int kd] []=some (.tup [.i (.iref e.cells), .i (.iref k.cells), .bool true],[]):=by
 rw[aD rfl Tryz.func148 rfl rfl,aQ,Pn.aA k,Ex.aA e];simp[h]
theorem P9 (c w:Int) (h0:0≤c∧c≤6) (hw:0≤w∧w≤6):aI C0 154 [.int c, .own 0 0] [some (.box [.int w])]=some (.int (c-w),[some (.box [.int w])]):=by
 rw[aD rfl Tryz.func154 rfl rfl];have w1:IntKind.i64.wrap (c-w)=c-w:=wrO;simp[w1]
theorem GK (c a b:Int) (h0:0≤c∧c≤12) (ha:0≤a∧a≤6) (hb:0≤b∧b≤6):aI C0 155 [.int c, .own 0 0, .own 1 0] [some (.box [.int a]),some (.box [.int b])]=some (.int (nH a b c),[some (.box [.int a]),some (.box [.int b])]):=by
 rw[aD rfl Tryz.func155 rfl rfl];have w1:IntKind.i64.wrap (c-a)=c-a:=wrO;have w2:IntKind.i64.wrap (c+b)=c+b:=wrO;unfold nH;by_cases h:c<a
 ·simp[h,w2]
 ·simp[h,w1]
def zrw:List IV:=[.int 0, .int 0, .bool false, .int 0, .isl []]
@[simp] theorem ZZ {e:Ex} (h:e.size<1000000000):aI C0 92 [.i (.iref e.cells)] []=some (.i (.agg e.cells),[]):=by
  rw[bH (p:=EM) rfl];exact SN h
theorem XY {e:Ex} {w:Int} (hw:0≤w∧w≤6) (hk:e.kind=1) (hc:0≤e.col∧e.col<6) :
 aI C0 177 [.i (.iref e.cells), .own 0 0] [some (.box [.fn (.func 154) [.own 1 0]]),some (.box [.int w])]=some (.i (.agg (SY (e.col-w)).cells),[some (.box [.fn (.func 154) [.own 1 0]]),some (.box [.int w])]):=by
 have hp:=P9 e.col w (by omega) hw;have h2:=vO (e.col-w);rw[aD rfl Tryz.func177 rfl rfl,Ex.aA e];rw[iX]at *
 simp[hk,hp,h2]
theorem XW {e:Ex} {w:Int} (hk:e.kind≠1) (hs:e.size<1000000000) :
 aI C0 177 [.i (.iref e.cells), .own 0 0] [some (.box [.fn (.func 154) [.own 1 0]]),some (.box [.int w])]=some (.i (.agg e.cells),[some (.box [.fn (.func 154) [.own 1 0]]),some (.box [.int w])]):=by
 have hc:=ZZ hs;rw[aD rfl Tryz.func177 rfl rfl];rw[Ex.aA e]at *
 simp[hk,hc]
def RNR (e:Ex) (w:Int) (f:Ex→Ex) (i:Nat):AS :=
 { env:=[(0, .i (.iref [.int e.kind, .int e.col, .bool e.val.null, .int e.val.n, .isl (Ex.aB e.kids)])),(1, .fn (.func 177) [.own 0 0]),(4, .own 2 0),(5, .own 3 0),(6,jk i (.int (i-1))),(12, .bool ((e.kids.length:Int) == 0)),(39, .int e.kids.length),(40, .int i),(41,jk i (.bool true))],
   st:=[some (.box [.fn (.func 154) [.own 1 0]]),some (.box [.int w]),some (.box [.int 0, .int 0, .bool false, .int 0, .nils]),some (.box [.int e.kind, .int e.col, .bool e.val.null, .int e.val.n, .osl 4 5 0 e.kids.length]),some (.arr 5 (Ex.aB ((e.kids.map f).take i)++List.replicate (e.kids.length-i) zrw))] }
theorem AOF {e:Ex} {w:Int} {f:Ex→Ex} (hk:e.kids≠[]) (hl:e.kids.length<1000000000) (ih:∀ x∈e.kids,aI C0 176 [.i (.iref x.cells), .fn (.func 177) [.own 0 0]] [some (.box [.fn (.func 154) [.own 1 0]]),some (.box [.int w])]=some (.i (.agg (f x).cells),[some (.box [.fn (.func 154) [.own 1 0]]),some (.box [.int w])])) :
 aI C0 176 [.i (.iref e.cells), .fn (.func 177) [.own 0 0]] [some (.box [.fn (.func 154) [.own 1 0]]),some (.box [.int w])]=some (.i (.agg (Ex.mk e.kind e.col e.val (e.kids.map f)).cells),[some (.box [.fn (.func 154) [.own 1 0]]),some (.box [.int w])]):=by
 rw[aD rfl Tryz.func176 rfl rfl,Ex.aA];have hb:56*(e.kids.length:Int)≤281474976710656:=by omega
 simp[hk,hb];rw[aO (RNR e w f) e.kids.length (by simp[RNR,Ex.aB,zrw])]
 ·rw[aG];have ht:(e.kids.map f).take e.kids.length=e.kids.map f:=zW (by simp);simp[RNR,Ex.cells,ht]
 ·intro i hi;have h3:=zY hi;have hm:=zV h3;have hc:=ih _ hm;have r2:=Ex.aJ h3;generalize e.kids[i]=x at h3 hc r2;have w2:IntKind.i64.wrap ((i:Int)+1)=i+1:=wrO;rw[Ex.aA]at hc r2;have hD:(Ex.aB ((e.kids.map f).take i)).length=i:=by simp;omega
  have hS:Ex.aB ((e.kids.map f).take i)++[(f x).cells]=Ex.aB ((e.kids.map f).take (i+1)):=by rw[aM (a:=f x) (by simp[h3]),Ex.aU]
  have g1:=lU (n:=e.kids.length) (z:=zrw) hD hi;have g2:=lT (n:=e.kids.length) (z:=zrw) (x:=(f x).cells) hD hi;have g3:splice zrw 0 (f x).cells=some (f x).cells:=iP (by simp[zrw]);rw[hS]at g2;simp[RNR,hi,r2,hc,w2,g1,g2,g3]
theorem AKX {e x:Ex} {w:Int} (hk:e.kids=[]) (h:aI C0 177 [.i (.iref e.cells), .own 0 0] [some (.box [.fn (.func 154) [.own 1 0]]),some (.box [.int w])]=some (.i (.agg x.cells),[some (.box [.fn (.func 154) [.own 1 0]]),some (.box [.int w])])) :
 aI C0 176 [.i (.iref e.cells), .fn (.func 177) [.own 0 0]] [some (.box [.fn (.func 154) [.own 1 0]]),some (.box [.int w])]=some (.i (.agg x.cells),[some (.box [.fn (.func 154) [.own 1 0]]),some (.box [.int w])]):=by
 rw[aD rfl Tryz.func176 rfl rfl];rw[Ex.aA e]at h ⊢;rw[Ex.aA x]at h ⊢;simp[hk,Ex.aB]at h ⊢;simp[h]
theorem XO {w:Int} (hw:0≤w∧w≤6):∀ (e:Ex),e.wf 6=true→e.size<1000000000→aI C0 176 [.i (.iref e.cells), .fn (.func 177) [.own 0 0]] [some (.box [.fn (.func 154) [.own 1 0]]),some (.box [.int w])]=some (.i (.agg (e.rR (·-w)).cells),[some (.box [.fn (.func 154) [.own 1 0]]),some (.box [.int w])]):=by
 intro e
 induction e using Ex.ind with
 | h k c v ks ih =>
  intro hx6 hs;have hsz:=Ex.size_eq (.mk k c v ks);have hln:=Ex.bK ks;simp only[Ex.kids]at hsz;by_cases h1:k=1
  ·have hc:=Ex.qY hx6 (by simpa [Ex.kind]using h1);rw[Ex.AX _ (by simpa [Ex.kind]using h1)];exact AKX hc.2.2 (XY hw (by simpa [Ex.kind]using h1) ⟨hc.1,hc.2.1⟩)
  ·rw[Ex.AU _ (by simpa [Ex.kind]using h1)];by_cases hk:ks=[]
   ·subst hk;exact AKX rfl (XW (by simpa [Ex.kind]using h1) hs)
   ·exact AOF hk (by simp only[Ex.kids];omega) fun x hx=>ih x hx (Ex.lY hx6 hx) (by have:=Ex.gI (l:=ks) hx;omega)
theorem P6 {w:Int} (hw:0≤w∧w≤6) (e:Ex) (hx6:e.wf 6=true) (hs:e.size<1000000000):aI C0 153 [.i (.iref e.cells), .fn (.func 154) [.own 0 0]] [some (.box [.int w])]=some (.i (.agg (e.rR (·-w)).cells),[some (.box [.int w])]):=by
 have h:=XO hw e hx6 hs;rw[aD rfl Tryz.func153 rfl rfl];generalize e.rR (·-w)=x at *
 rw[Ex.aA e,Ex.aA x]at *
 simp[h]
theorem XX {e:Ex} {a b:Int} (ha:0≤a∧a≤6) (hb:0≤b∧b≤6) (hk:e.kind=1) (hc:0≤e.col∧e.col<6) :
 aI C0 177 [.i (.iref e.cells), .own 0 0] [some (.box [.fn (.func 155) [.own 1 0, .own 2 0]]),some (.box [.int a]),some (.box [.int b])]=some (.i (.agg (SY (nH a b e.col)).cells),[some (.box [.fn (.func 155) [.own 1 0, .own 2 0]]),some (.box [.int a]),some (.box [.int b])]):=by
 have hp:=GK e.col a b (by omega) ha hb;have h2:=vO (nH a b e.col);rw[aD rfl Tryz.func177 rfl rfl,Ex.aA e];rw[iX]at *
 simp[hk,hp,h2]
theorem XV {e:Ex} {a b:Int} (hk:e.kind≠1) (hs:e.size<1000000000) :
 aI C0 177 [.i (.iref e.cells), .own 0 0] [some (.box [.fn (.func 155) [.own 1 0, .own 2 0]]),some (.box [.int a]),some (.box [.int b])]=some (.i (.agg e.cells),[some (.box [.fn (.func 155) [.own 1 0, .own 2 0]]),some (.box [.int a]),some (.box [.int b])]):=by
 have hc:=ZZ hs;rw[aD rfl Tryz.func177 rfl rfl];rw[Ex.aA e]at *
 simp[hk,hc]
def RNS (e:Ex) (a b:Int) (f:Ex→Ex) (i:Nat):AS :=
 { env:=[(0, .i (.iref [.int e.kind, .int e.col, .bool e.val.null, .int e.val.n, .isl (Ex.aB e.kids)])),(1, .fn (.func 177) [.own 0 0]),(4, .own 3 0),(5, .own 4 0),(6,jk i (.int (i-1))),(12, .bool ((e.kids.length:Int) == 0)),(39, .int e.kids.length),(40, .int i),(41,jk i (.bool true))],
   st:=[some (.box [.fn (.func 155) [.own 1 0, .own 2 0]]),some (.box [.int a]),some (.box [.int b]),some (.box [.int 0, .int 0, .bool false, .int 0, .nils]),some (.box [.int e.kind, .int e.col, .bool e.val.null, .int e.val.n, .osl 5 5 0 e.kids.length]),some (.arr 5 (Ex.aB ((e.kids.map f).take i)++List.replicate (e.kids.length-i) zrw))] }
theorem AOE {e:Ex} {a b:Int} {f:Ex→Ex} (hk:e.kids≠[]) (hl:e.kids.length<1000000000) (ih:∀ x∈e.kids,aI C0 176 [.i (.iref x.cells), .fn (.func 177) [.own 0 0]] [some (.box [.fn (.func 155) [.own 1 0, .own 2 0]]),some (.box [.int a]),some (.box [.int b])]=some (.i (.agg (f x).cells),[some (.box [.fn (.func 155) [.own 1 0, .own 2 0]]),some (.box [.int a]),some (.box [.int b])])) :
 aI C0 176 [.i (.iref e.cells), .fn (.func 177) [.own 0 0]] [some (.box [.fn (.func 155) [.own 1 0, .own 2 0]]),some (.box [.int a]),some (.box [.int b])]=some (.i (.agg (Ex.mk e.kind e.col e.val (e.kids.map f)).cells),[some (.box [.fn (.func 155) [.own 1 0, .own 2 0]]),some (.box [.int a]),some (.box [.int b])]):=by
 rw[aD rfl Tryz.func176 rfl rfl,Ex.aA];have hb:56*(e.kids.length:Int)≤281474976710656:=by omega
 simp[hk,hb];rw[aO (RNS e a b f) e.kids.length (by simp[RNS,Ex.aB,zrw])]
 ·rw[aG];have ht:(e.kids.map f).take e.kids.length=e.kids.map f:=zW (by simp);simp[RNS,Ex.cells,ht]
 ·intro i hi;have h3:=zY hi;have hm:=zV h3;have hc:=ih _ hm;have r2:=Ex.aJ h3;generalize e.kids[i]=x at h3 hc r2;have w2:IntKind.i64.wrap ((i:Int)+1)=i+1:=wrO;rw[Ex.aA]at hc r2;have hD:(Ex.aB ((e.kids.map f).take i)).length=i:=by simp;omega
  have hS:Ex.aB ((e.kids.map f).take i)++[(f x).cells]=Ex.aB ((e.kids.map f).take (i+1)):=by rw[aM (a:=f x) (by simp[h3]),Ex.aU]
  have g1:=lU (n:=e.kids.length) (z:=zrw) hD hi;have g2:=lT (n:=e.kids.length) (z:=zrw) (x:=(f x).cells) hD hi;have g3:splice zrw 0 (f x).cells=some (f x).cells:=iP (by simp[zrw]);rw[hS]at g2;simp[RNS,hi,r2,hc,w2,g1,g2,g3]
theorem AKW {e x:Ex} {a b:Int} (hk:e.kids=[]) (h:aI C0 177 [.i (.iref e.cells), .own 0 0] [some (.box [.fn (.func 155) [.own 1 0, .own 2 0]]),some (.box [.int a]),some (.box [.int b])]=some (.i (.agg x.cells),[some (.box [.fn (.func 155) [.own 1 0, .own 2 0]]),some (.box [.int a]),some (.box [.int b])])) :
 aI C0 176 [.i (.iref e.cells), .fn (.func 177) [.own 0 0]] [some (.box [.fn (.func 155) [.own 1 0, .own 2 0]]),some (.box [.int a]),some (.box [.int b])]=some (.i (.agg x.cells),[some (.box [.fn (.func 155) [.own 1 0, .own 2 0]]),some (.box [.int a]),some (.box [.int b])]):=by
 rw[aD rfl Tryz.func176 rfl rfl];rw[Ex.aA e]at h ⊢;rw[Ex.aA x]at h ⊢;simp[hk,Ex.aB]at h ⊢;simp[h]
theorem XN {a b:Int} (ha:0≤a∧a≤6) (hb:0≤b∧b≤6):∀ (e:Ex),e.wf 6=true→e.size<1000000000→aI C0 176 [.i (.iref e.cells), .fn (.func 177) [.own 0 0]] [some (.box [.fn (.func 155) [.own 1 0, .own 2 0]]),some (.box [.int a]),some (.box [.int b])]=some (.i (.agg (e.rR (nH a b)).cells),[some (.box [.fn (.func 155) [.own 1 0, .own 2 0]]),some (.box [.int a]),some (.box [.int b])]):=by
 intro e
 induction e using Ex.ind with
 | h k c v ks ih =>
  intro hx6 hs;have hsz:=Ex.size_eq (.mk k c v ks);have hln:=Ex.bK ks;simp only[Ex.kids]at hsz;by_cases h1:k=1
  ·have hc:=Ex.qY hx6 (by simpa [Ex.kind]using h1);rw[Ex.AX _ (by simpa [Ex.kind]using h1)];exact AKW hc.2.2 (XX ha hb (by simpa [Ex.kind]using h1) ⟨hc.1,hc.2.1⟩)
  ·rw[Ex.AU _ (by simpa [Ex.kind]using h1)];by_cases hk:ks=[]
   ·subst hk;exact AKW rfl (XV (by simpa [Ex.kind]using h1) hs)
   ·exact AOE hk (by simp only[Ex.kids];omega) fun x hx=>ih x hx (Ex.lY hx6 hx) (by have:=Ex.gI (l:=ks) hx;omega)
theorem P5 {a b:Int} (ha:0≤a∧a≤6) (hb:0≤b∧b≤6) (e:Ex) (hx6:e.wf 6=true) (hs:e.size<1000000000):aI C0 153 [.i (.iref e.cells), .fn (.func 155) [.own 0 0, .own 1 0]] [some (.box [.int a]),some (.box [.int b])]=some (.i (.agg (e.rR (nH a b)).cells),[some (.box [.int a]),some (.box [.int b])]):=by
 have h:=XN ha hb e hx6 hs;rw[aD rfl Tryz.func153 rfl rfl];generalize e.rR (nH a b)=x at *
 rw[Ex.aA e,Ex.aA x]at *
 simp[h]
end Go.Proofs.YtjdfjgmebalaaaaGreat.P
namespace Go.Av
theorem JK (a b:Nat):orS a b=((a ||| b:Nat):Int):=by simp[orS]
def KQ (k:Int) (v:Val) (l:List Val) (s:Int) (j:Nat):Int:=(l.take j).foldl (fun s w=>orS s (stV (Val.cmb k v w))) s
def OG (k:Int) (l r:List Val) (i:Nat):Int:=(l.take i).foldl (fun s v=>r.foldl (fun s w=>orS s (stV (Val.cmb k v w))) s) 0
theorem OD {k:Int} {v w:Val} {l:List Val} {s:Int} {j:Nat} (h:l[j]?=some w):KQ k v l s (j+1)=orS (KQ k v l s j) (stV (Val.cmb k v w)):=by
 unfold KQ;rw[aM h,zA2];rfl
theorem EZ {k:Int} {v:Val} {l r:List Val} {i:Nat} (h:l[i]?=some v):OG k l r (i+1)=KQ k v r (OG k l r i) r.length:=by
 unfold OG KQ;rw[aM h,zA2,List.take_length];rfl
def WK (s:Int):Prop:=∃ n:Nat,s=n∧n<8
theorem BQ (v:Val):WK (stV v):=by
 unfold stV;split
 ·exact⟨4,rfl,by omega⟩
 ·split
  ·exact⟨1,rfl,by omega⟩
  ·exact⟨2,rfl,by omega⟩
theorem YF {a b:Int} (ha:WK a) (hb:WK b):WK (orS a b):=by
 obtain⟨m,rfl,hm⟩:=ha;obtain⟨n,rfl,hn⟩:=hb;exact⟨m ||| n,JK m n,xX (n:=3) hm hn⟩
theorem BB {k:Int} {v:Val}:∀ (l:List Val) {s:Int} (j:Nat),WK s→WK (KQ k v l s j)
 | [],s,j,h=>by simpa [KQ]using h
 | a::l,s,0,h=>by simpa [KQ]using h
 | a::l,s,j+1,h=>by
  have:=BB (k:=k) (v:=v) l (s:=orS s (stV (Val.cmb k v a))) j (YF h (BQ _));simpa [KQ]using this
theorem TF {k:Int} {r:List Val} (l:List Val) (i:Nat) (hi:i≤l.length):WK (OG k l r i):=by
 induction i with
 | zero=>exact⟨0,by simp[OG],by omega⟩
 | succ i ih =>
  rw[EZ (zY (show i<l.length by omega))];exact BB r _ (ih (by omega))
theorem ADL {k a b:Int} (h:k=8∨k=9):jT k a b=OG k (exS a) (exS b) (exS a).length:=by
 unfold jT OG;rw[if_pos h,List.take_length]
theorem AFA {a:Int} {v:Val} (h:v∈exS a):v.ok=true:=by
 unfold exS at h;simp only[zT]at h
 rcases h with h|h|h
 ·split at h
  ·simp at h;subst h;rfl
  ·cases h
 ·split at h
  ·simp at h;subst h;rfl
  ·cases h
 ·split at h
  ·simp at h;subst h;rfl
  ·cases h
theorem ALV {b:Int} (h:okS b):exS b≠[]:=by
 obtain⟨h1,h2⟩:=h;have:b=1∨b=2∨b=3∨b=4∨b=5∨b=6∨b=7:=by omega
 rcases this with rfl|rfl|rfl|rfl|rfl|rfl|rfl<;>decide
theorem ZQ (a:Int):(exS a).length≤3:=by
 unfold exS;simp only[zF]
 repeat' split
 all_goals simp
end Go.Av
namespace Go.Proofs.YtjdfjgmebalaaaaGreat.P
open Go Go.Av
set_option maxRecDepth 4000
set_option maxHeartbeats 4000000
theorem wP {n:Nat} (h:n<8):n % 18446744073709551616=n:=Nat.mod_eq_of_lt (by omega)
theorem or8 {m n:Nat} (hm:m<8) (hn:n<8):IntKind.i64.wrap ((m ||| n:Nat):Int)=((m ||| n:Nat):Int):=by
 have:=xX (n:=3) hm hn;exact wrO
def vBx (v:Val):Option Blk:=some (.box [.bool v.null, .int v.n])
def vAt (l:List Val) (i:Nat):Val:=(l[i]?).getD Val.zero
def jz (i:Nat) (v:AV):AV:=if i=0 then .junk else v
@[simp] theorem AbX (v:AV):jz 0 v=.junk:=rfl
@[simp] theorem AbW (i:Nat) (v:AV):jz (i+1) v=v:=rfl
theorem wT {i:Nat} (h:i≠0) (v:AV):jz i v=v:=if_neg h
def CSX (k a b:Int) (A B:List Val) (i:Nat):AS :=
 { env:=[(0, .int k),(1, .int a),(2, .int b),(6, .int 0),(7, .int (OG k A B i)),(9,jz i (.own 0 0)),(11,jz i (.own 1 0)),(17, .bool true),(19, .i (.isl (rG A))),(20, .int A.length),(21, .int i),(22,jz i (.bool true)),(26,jz i (.i (.isl (rG B)))),(27,jz i (.int B.length)),(28,jz i (.int B.length)),(29,jz i (.bool false)),(46, .junk),(54, .junk),(66, .junk)],
   st:=if i=0 then []else [vBx (vAt A (i-1)),vBx (vAt B (B.length-1))] }
def CSI (k a b:Int) (A B:List Val) (i:Nat) (j:Nat):AS :=
 { env:=[(0, .int k),(1, .int a),(2, .int b),(6, .int 0),(7, .int (KQ k (vAt A i) B (OG k A B i) j)),(9, .own 0 0),(11,if j=0 then jz i (.own 1 0)else .own 1 0),(17, .bool true),(19, .i (.isl (rG A))),(20, .int A.length),(21, .int i),(22, .bool true),(26, .i (.isl (rG B))),(27, .int B.length),(28, .int j),(29,if j=0 then jz i (.bool false)else .bool true),(46, .junk),(54, .junk),(66, .junk)],
   st:=vBx (vAt A i)::(if j=0 then(if i=0 then []else [vBx (vAt B (B.length-1))])else [vBx (vAt B (j-1))]) }
theorem uM {k a b:Int} (hk:k=8∨k=9) (ha:okS a) (hb:okS b):aI C0 197 [.int k, .int a, .int b] []=some (.int (jT k a b),[]):=by
 have hea:=EE (a:=a) ⟨by have:=ha.1;omega,ha.2⟩;have heb:=EE (a:=b) ⟨by have:=hb.1;omega,hb.2⟩;have hbn:=ALV hb;have hbl:(exS b).length≠0:=fun h=>hbn (zX.1 h)
 have la:=ZQ a;have lb:=ZQ b;have oka:∀ v∈exS a,v.ok=true:=fun v hv=>AFA hv
 have okb:∀ v∈exS b,v.ok=true:=fun v hv=>AFA hv
 rw[aD rfl Tryz.func197 rfl rfl,ADL hk];generalize exS a=A at *
 generalize exS b=B at *
 rcases hk with rfl|rfl
 ·simp[hea];rw[aO (CSX 8 a b A B) A.length (by simp[CSX,OG])]
  ·rw[aG];simp[CSX]
  ·intro i hi;have h3:=zY hi;have hm:=zV h3;generalize A[i]=v at h3 hm;have rA:=oP h3;have hv:vAt A i=v:=by simp[vAt,h3]
   have w2:IntKind.i64.wrap ((i:Int)+1)=i+1:=wrO;have hlow0:=TF (k:=8) (r:=B) A i (by omega);have hsc:=EZ (k:=8) (r:=B) h3
   have inner:∀ j,j<B.length→∃ w,B[j]?=some w∧w∈B∧fI (rG B) j=some [.bool w.null, .int w.n]∧vAt B j=w∧∃ m n:Nat,KQ 8 v B (OG 8 A B i) j=m∧stV (Val.cmb 8 v w)=n∧m<8∧n<8∧KQ 8 v B (OG 8 A B i) (j+1)=((m ||| n:Nat):Int)∧IntKind.i64.wrap ((m ||| n:Nat):Int)=((m ||| n:Nat):Int):=by
    intro j hj;have q3:=zY hj;obtain⟨m,hm1,hm2⟩:=BB (k:=8) (v:=v) B j hlow0;obtain⟨n,hn1,hn2⟩:=BQ (Val.cmb 8 v B[j]);refine⟨B[j],q3,y8 hj,oP q3,by simp[vAt,q3],m,n,hm1,hn1,hm2,hn2,?_,or8 hm2 hn2⟩;rw[OD q3,hm1,hn1,JK]
   by_cases h0:i=0
   ·subst h0;simp[CSX,hi,rA,heb];rw[aO (CSI 8 a b A B 0) B.length (by simp[CSI,KQ,hv,vBx])]
    ·rw[aG];simp[CSI,hbl,w2,hv,hsc,CSX,vBx]
    ·intro j hj;obtain⟨w,q3,qm,q4,q5,m,n,m1,n1,m2,n2,hn,hwr⟩:=inner j hj;have hcm:=nZ 8 v w (oka v hm) (okb w qm);have hst:=jJ (Val.cmb 8 v w).null (Val.cmb 8 v w).n;have w3:IntKind.i64.wrap ((j:Int)+1)=j+1:=wrO;rw[show stV ⟨(Val.cmb 8 v w).null,(Val.cmb 8 v w).n⟩=stV (Val.cmb 8 v w)from rfl,n1]at hst;by_cases j0:j=0
     ·subst j0;simp[CSI,hj,hv,q4,q5,vBx,m1,hcm,hst,wP m2,wP n2,hwr,hn]
     ·simp[CSI,hj,hv,q4,q5,vBx,m1,hcm,hst,wP m2,wP n2,hwr,hn,j0,w3]
   ·simp[CSX,hi,rA,heb,h0,wT h0,vBx];rw[aO (CSI 8 a b A B i) B.length (by simp[CSI,KQ,hv,vBx,wT h0,h0])]
    ·rw[aG];simp[CSI,hbl,w2,hv,hsc,CSX,vBx]
    ·intro j hj;obtain⟨w,q3,qm,q4,q5,m,n,m1,n1,m2,n2,hn,hwr⟩:=inner j hj;have hcm:=nZ 8 v w (oka v hm) (okb w qm);have hst:=jJ (Val.cmb 8 v w).null (Val.cmb 8 v w).n;have w3:IntKind.i64.wrap ((j:Int)+1)=j+1:=wrO;rw[show stV ⟨(Val.cmb 8 v w).null,(Val.cmb 8 v w).n⟩=stV (Val.cmb 8 v w)from rfl,n1]at hst;by_cases j0:j=0
     ·subst j0;simp[CSI,hj,hv,q4,q5,vBx,m1,hcm,hst,wP m2,wP n2,hwr,hn,wT h0,h0]
     ·simp[CSI,hj,hv,q4,q5,vBx,m1,hcm,hst,wP m2,wP n2,hwr,hn,j0,w3,wT h0,h0]
 ·simp[hea];rw[aO (CSX 9 a b A B) A.length (by simp[CSX,OG])]
  ·rw[aG];simp[CSX]
  ·intro i hi;have h3:=zY hi;have hm:=zV h3;generalize A[i]=v at h3 hm;have rA:=oP h3;have hv:vAt A i=v:=by simp[vAt,h3]
   have w2:IntKind.i64.wrap ((i:Int)+1)=i+1:=wrO;have hlow0:=TF (k:=9) (r:=B) A i (by omega);have hsc:=EZ (k:=9) (r:=B) h3
   have inner:∀ j,j<B.length→∃ w,B[j]?=some w∧w∈B∧fI (rG B) j=some [.bool w.null, .int w.n]∧vAt B j=w∧∃ m n:Nat,KQ 9 v B (OG 9 A B i) j=m∧stV (Val.cmb 9 v w)=n∧m<8∧n<8∧KQ 9 v B (OG 9 A B i) (j+1)=((m ||| n:Nat):Int)∧IntKind.i64.wrap ((m ||| n:Nat):Int)=((m ||| n:Nat):Int):=by
    intro j hj;have q3:=zY hj;obtain⟨m,hm1,hm2⟩:=BB (k:=9) (v:=v) B j hlow0;obtain⟨n,hn1,hn2⟩:=BQ (Val.cmb 9 v B[j]);refine⟨B[j],q3,y8 hj,oP q3,by simp[vAt,q3],m,n,hm1,hn1,hm2,hn2,?_,or8 hm2 hn2⟩;rw[OD q3,hm1,hn1,JK]
   by_cases h0:i=0
   ·subst h0;simp[CSX,hi,rA,heb];rw[aO (CSI 9 a b A B 0) B.length (by simp[CSI,KQ,hv,vBx])]
    ·rw[aG];simp[CSI,hbl,w2,hv,hsc,CSX,vBx]
    ·intro j hj;obtain⟨w,q3,qm,q4,q5,m,n,m1,n1,m2,n2,hn,hwr⟩:=inner j hj;have hcm:=nZ 9 v w (oka v hm) (okb w qm);have hst:=jJ (Val.cmb 9 v w).null (Val.cmb 9 v w).n;have w3:IntKind.i64.wrap ((j:Int)+1)=j+1:=wrO;rw[show stV ⟨(Val.cmb 9 v w).null,(Val.cmb 9 v w).n⟩=stV (Val.cmb 9 v w)from rfl,n1]at hst;by_cases j0:j=0
     ·subst j0;simp[CSI,hj,hv,q4,q5,vBx,m1,hcm,hst,wP m2,wP n2,hwr,hn]
     ·simp[CSI,hj,hv,q4,q5,vBx,m1,hcm,hst,wP m2,wP n2,hwr,hn,j0,w3]
   ·simp[CSX,hi,rA,heb,h0,wT h0,vBx];rw[aO (CSI 9 a b A B i) B.length (by simp[CSI,KQ,hv,vBx,wT h0,h0])]
    ·rw[aG];simp[CSI,hbl,w2,hv,hsc,CSX,vBx]
    ·intro j hj;obtain⟨w,q3,qm,q4,q5,m,n,m1,n1,m2,n2,hn,hwr⟩:=inner j hj;have hcm:=nZ 9 v w (oka v hm) (okb w qm);have hst:=jJ (Val.cmb 9 v w).null (Val.cmb 9 v w).n;have w3:IntKind.i64.wrap ((j:Int)+1)=j+1:=wrO;rw[show stV ⟨(Val.cmb 9 v w).null,(Val.cmb 9 v w).n⟩=stV (Val.cmb 9 v w)from rfl,n1]at hst;by_cases j0:j=0
     ·subst j0;simp[CSI,hj,hv,q4,q5,vBx,m1,hcm,hst,wP m2,wP n2,hwr,hn,wT h0,h0]
     ·simp[CSI,hj,hv,q4,q5,vBx,m1,hcm,hst,wP m2,wP n2,hwr,hn,j0,w3,wT h0,h0]
set_option maxHeartbeats 8000000
theorem AL5:∀ m n:Fin 8,((m.val ||| n.val) &&& 4=0∧iI (orS m.val n.val) 4=false)∨((m.val ||| n.val) &&& 4=4∧iI (orS m.val n.val) 4=true):=by decide
theorem CL {m n:Nat} (hm:m<8) (hn:n<8):((m ||| n) &&& 4=0∧iI (orS m n) 4=false)∨((m ||| n) &&& 4=4∧iI (orS m n) 4=true):=AL5 ⟨m,hm⟩ ⟨n,hn⟩
theorem AGX:∀ m:Fin 8,(m.val &&& 18446744073709551611=0∧(iI m.val 1 || iI m.val 2)=false)∨((m.val &&& 18446744073709551611=1∨m.val &&& 18446744073709551611=2∨m.val &&& 18446744073709551611=3)∧(iI m.val 1 || iI m.val 2)=true):=by decide
theorem YV {m:Nat} (hm:m<8):∃ v:Nat,m &&& 18446744073709551611=v∧IntKind.i64.wrap (v:Int)=v∧((v=0∧(iI m 1 || iI m 2)=false)∨(¬ v=0∧(iI m 1 || iI m 2)=true)):=by
 rcases AGX ⟨m,hm⟩with ⟨h,q⟩|⟨h|h|h,q⟩
 ·exact⟨0,h,by decide, .inl ⟨rfl,q⟩⟩
 ·exact⟨1,h,by decide, .inr ⟨by omega,q⟩⟩
 ·exact⟨2,h,by decide, .inr ⟨by omega,q⟩⟩
 ·exact⟨3,h,by decide, .inr ⟨by omega,q⟩⟩
theorem sI {k:Int} (hk:3≤k∧k≠8∧k≠9) {m n:Nat} (hm:m<8) (hn:n<8):aI C0 197 [.int k, .int m, .int n] []=some (.int (jT k m n),[]):=by
 rw[aD rfl Tryz.func197 rfl rfl];have h1:=wP hm;have h2:=wP hn;have h3:=or8 hm hn;have h4:(m ||| n) % 18446744073709551616=m ||| n:=wP (xX (n:=3) hm hn)
 obtain⟨x,x1,x2,x3⟩:=YV hm;obtain⟨y,y1,y2,y3⟩:=YV hn;have k8:¬ k=8:=hk.2.1;have k9:¬ k=9:=hk.2.2;have e7:orS 0 7=7:=by decide
 have e3:orS 0 3=3:=by decide
 have e47:orS 4 7=7:=by decide
 have e43:orS 4 3=7:=by decide
 have e40:orS 4 0=4:=by decide
 have e00:orS 0 0=0:=by decide
 by_cases k6:k<6
 ·have hk3:k=3∨k=4∨k=5:=by omega
  rcases hk3 with rfl|rfl|rfl
  ·rcases CL hm hn with ⟨p,q⟩|⟨p,q⟩
   ·rcases x3 with ⟨x3,x4⟩|⟨x3,x4⟩
    ·simp[h1,h2,h3,h4,p,x1,x2,x3,jT,q,x4,e00]
    ·rcases y3 with ⟨y3,y4⟩|⟨y3,y4⟩
     ·simp[h1,h2,h3,h4,p,x1,x2,x3,y1,y2,y3,jT,q,x4,y4,e00]
     ·simp[h1,h2,h3,h4,p,x1,x2,x3,y1,y2,y3,jT,q,x4,y4,e7,e3]
   ·rcases x3 with ⟨x3,x4⟩|⟨x3,x4⟩
    ·simp[h1,h2,h3,h4,p,x1,x2,x3,jT,q,x4,e40]
    ·rcases y3 with ⟨y3,y4⟩|⟨y3,y4⟩
     ·simp[h1,h2,h3,h4,p,x1,x2,x3,y1,y2,y3,jT,q,x4,y4,e40]
     ·simp[h1,h2,h3,h4,p,x1,x2,x3,y1,y2,y3,jT,q,x4,y4,e47,e43]
  ·rcases CL hm hn with ⟨p,q⟩|⟨p,q⟩
   ·rcases x3 with ⟨x3,x4⟩|⟨x3,x4⟩
    ·simp[h1,h2,h3,h4,p,x1,x2,x3,jT,q,x4,e00]
    ·rcases y3 with ⟨y3,y4⟩|⟨y3,y4⟩
     ·simp[h1,h2,h3,h4,p,x1,x2,x3,y1,y2,y3,jT,q,x4,y4,e00]
     ·simp[h1,h2,h3,h4,p,x1,x2,x3,y1,y2,y3,jT,q,x4,y4,e7,e3]
   ·rcases x3 with ⟨x3,x4⟩|⟨x3,x4⟩
    ·simp[h1,h2,h3,h4,p,x1,x2,x3,jT,q,x4,e40]
    ·rcases y3 with ⟨y3,y4⟩|⟨y3,y4⟩
     ·simp[h1,h2,h3,h4,p,x1,x2,x3,y1,y2,y3,jT,q,x4,y4,e40]
     ·simp[h1,h2,h3,h4,p,x1,x2,x3,y1,y2,y3,jT,q,x4,y4,e47,e43]
  ·rcases CL hm hn with ⟨p,q⟩|⟨p,q⟩
   ·rcases x3 with ⟨x3,x4⟩|⟨x3,x4⟩
    ·simp[h1,h2,h3,h4,p,x1,x2,x3,jT,q,x4,e00]
    ·rcases y3 with ⟨y3,y4⟩|⟨y3,y4⟩
     ·simp[h1,h2,h3,h4,p,x1,x2,x3,y1,y2,y3,jT,q,x4,y4,e00]
     ·simp[h1,h2,h3,h4,p,x1,x2,x3,y1,y2,y3,jT,q,x4,y4,e7,e3]
   ·rcases x3 with ⟨x3,x4⟩|⟨x3,x4⟩
    ·simp[h1,h2,h3,h4,p,x1,x2,x3,jT,q,x4,e40]
    ·rcases y3 with ⟨y3,y4⟩|⟨y3,y4⟩
     ·simp[h1,h2,h3,h4,p,x1,x2,x3,y1,y2,y3,jT,q,x4,y4,e40]
     ·simp[h1,h2,h3,h4,p,x1,x2,x3,y1,y2,y3,jT,q,x4,y4,e47,e43]
 ·have k3:¬ k=3:=by omega
  have k4:¬ k=4:=by omega
  have k5:¬ k=5:=by omega
  rcases CL hm hn with ⟨p,q⟩|⟨p,q⟩
  ·rcases x3 with ⟨x3,x4⟩|⟨x3,x4⟩
   ·simp[h1,h2,h3,h4,p,x1,x2,x3,jT,q,x4,e00,k3,k4,k5,k6,k8,k9]
   ·rcases y3 with ⟨y3,y4⟩|⟨y3,y4⟩
    ·simp[h1,h2,h3,h4,p,x1,x2,x3,y1,y2,y3,jT,q,x4,y4,e00,k3,k4,k5,k6,k8,k9]
    ·simp[h1,h2,h3,h4,p,x1,x2,x3,y1,y2,y3,jT,q,x4,y4,e7,e3,k3,k4,k5,k6,k8,k9]
  ·rcases x3 with ⟨x3,x4⟩|⟨x3,x4⟩
   ·simp[h1,h2,h3,h4,p,x1,x2,x3,jT,q,x4,e40,k3,k4,k5,k6,k8,k9]
   ·rcases y3 with ⟨y3,y4⟩|⟨y3,y4⟩
    ·simp[h1,h2,h3,h4,p,x1,x2,x3,y1,y2,y3,jT,q,x4,y4,e40,k3,k4,k5,k6,k8,k9]
    ·simp[h1,h2,h3,h4,p,x1,x2,x3,y1,y2,y3,jT,q,x4,y4,e47,e43,k3,k4,k5,k6,k8,k9]
end Go.Proofs.YtjdfjgmebalaaaaGreat.P
namespace Go.Av
theorem Ex.sW {w:Int} {e:Ex} (h:e.wf w=true):(e.kind=1∧0≤e.col∧e.col<w∧e.kids=[])∨(e.kind=2∧e.kids=[])∨((e.kind=10∨e.kind=11)∧∃ x,e.kids=[x]∧x.wf w=true)∨((3≤e.kind∧e.kind≤9)∧∃ x y,e.kids=[x,y]∧x.wf w=true∧y.wf w=true):=by
 have hk:∀ x∈e.kids,x.wf w=true:=fun x hx=>Ex.lY h hx
 by_cases h1:e.kind=1
 ·have:=Ex.qY h h1;exact .inl ⟨h1,this.1,this.2.1,this.2.2⟩
 rw[Ex.KU]at h;simp only[zU,zP]at h;have hl:=h.1;unfold bO at hl;split at hl
 ·rename_i hc;exact .inr (.inl ⟨by omega,zX.1 (by omega)⟩)
 ·split at hl
  ·rename_i hc;obtain⟨x,hx⟩:=AY (show e.kids.length=1 by omega);exact .inr (.inr (.inl ⟨hc,x,hx,hk x (by simp[hx])⟩))
  ·split at hl
   ·rename_i hc;obtain⟨x,y,hx⟩:=RN (show e.kids.length=2 by omega);exact .inr (.inr (.inr ⟨hc,x,y,hx,hk x (by simp[hx]),hk y (by simp[hx])⟩))
   ·omega
theorem JJ {W:Int} (st:List Int) (hl:(st.length:Int)=W) (hs:∀ a∈st,okS a):∀ e:Ex,e.wf W=true→okS (FI st e):=by
 intro e
 induction e using Ex.ind with
 | h k c v ks ih =>
  intro hw;rw[PD]
  rcases Ex.sW hw with ⟨h1,h2,h3,h4⟩|⟨h1,h2⟩|⟨h1,x,h2,h3⟩|⟨h1,x,y,h2,h3,h4⟩
  ·rw[if_pos h1];generalize Ex.col (.mk k c v ks)=cc at *
   have hlt:cc.toNat<st.length:=by omega
   rw[zY hlt];exact hs _ (y8 hlt)
  ·rw[if_neg (by omega),if_pos h1];exact AK7 _
  ·have hx:=ih x (by simp only[Ex.kids]at h2;simp[h2]) h3;obtain⟨n,hn⟩:=zB (show 0≤FI st x by have:=hx.1;omega);have ht:=ACJ ⟨n,by have:=hx.2;omega⟩ (by have:=hx.1;simp;omega);rw[if_neg (by omega),if_neg (by omega),h2];simp only[List.getElem?_cons_zero,xD,yO,hn]
   rcases h1 with h1|h1
   ·rw[if_pos h1];exact ht.1
   ·rw[if_neg (by omega),if_pos h1];exact ht.2
  ·have hx:=ih x (by simp only[Ex.kids]at h2;simp[h2]) h3;have hy:=ih y (by simp only[Ex.kids]at h2;simp[h2]) h4;rw[if_neg (by omega),if_neg (by omega),if_neg (by omega),if_neg (by omega),h2];exact AHZ hx hy
end Go.Av
namespace Go.Proofs.YtjdfjgmebalaaaaGreat.P
open Go Go.Av
set_option maxRecDepth 4000
set_option maxHeartbeats 8000000
theorem seven {a:Int} (h:okS a):a=1∨a=2∨a=3∨a=4∨a=5∨a=6∨a=7:=by have:=h.1;have:=h.2;omega
theorem ZA {k a b:Int} (hk:3≤k) (ha:okS a) (hb:okS b):aI C0 197 [.int k, .int a, .int b] []=some (.int (jT k a b),[]):=by
 by_cases h:k=8∨k=9
 ·exact uM h ha hb
 ·obtain⟨m,rfl⟩:=zB (show 0≤a by have:=ha.1;omega);obtain⟨n,rfl⟩:=zB (show 0≤b by have:=hb.1;omega);exact sI ⟨hk,by omega,by omega⟩ (by have:=ha.2;omega) (by have:=hb.2;omega)
theorem N9 {W:Int} (st:List Int) (hl:(st.length:Int)=W) (hs:∀ a∈st,okS a):∀ e:Ex,e.wf W=true→aI C0 178 [.i (.iref e.cells), .i (.isl (aF st))] []=some (.int (FI st e),[]):=by
 intro e
 induction e using Ex.ind with
 | h k c v ks ih =>
  intro hw;have hall:=JJ st hl hs;rw[aD rfl Tryz.func178 rfl rfl,Ex.aA,PD]
  rcases Ex.sW hw with ⟨h1,h2,h3,h4⟩|⟨h1,h2⟩|⟨h1,x,h2,h3⟩|⟨h1,x,y,h2,h3,h4⟩
  ·generalize Ex.mk k c v ks=e at *
   have hlt:e.col.toNat<st.length:=by omega
   have h5:=zY hlt;generalize st[e.col.toNat]=s at h5;have r2:=aW h5;obtain⟨_,h6⟩:=zZ.1 h5;simp[h1,h2,r2,h6,show e.col<st.length by omega]
  ·generalize Ex.mk k c v ks=e at *
   have hst:=jJ e.val.null e.val.n;simp[h1,hst]
  ·have hx:=ih x (by simp only[Ex.kids]at h2;simp[h2]) h3;have ho:=hall x h3;generalize Ex.mk k c v ks=e at *
   generalize hso:FI st x=s at hx ho;rw[Ex.aA]at hx
   rcases h1 with h1|h1
   ·rcases seven ho with rfl|rfl|rfl|rfl|rfl|rfl|rfl<;>(simp[h1,h2,Ex.aB,Ex.aA x,hx,hso];try decide)
   ·rcases seven ho with rfl|rfl|rfl|rfl|rfl|rfl|rfl<;>(simp[h1,h2,Ex.aB,Ex.aA x,hx,hso];try decide)
  ·have hx:=ih x (by simp only[Ex.kids]at h2;simp[h2]) h3;have hy:=ih y (by simp only[Ex.kids]at h2;simp[h2]) h4;have ho:=hall x h3;have hp:=hall y h4;generalize Ex.mk k c v ks=e at *
   have hc:=ZA (k:=e.kind) h1.1 ho hp;generalize hso:FI st x=s at hx ho hc;generalize hto:FI st y=t at hy hp hc;rw[Ex.aA]at hx hy;have q1:¬ e.kind=1:=by omega
   have q2:¬ e.kind=2:=by omega
   have q3:¬ e.kind=10:=by omega
   have q4:¬ e.kind=11:=by omega
   simp[q1,q2,q3,q4,h2,Ex.aB,Ex.aA x,Ex.aA y,hx,hy,hc,hso,hto]
end Go.Proofs.YtjdfjgmebalaaaaGreat.P
namespace Go.Av
theorem Z8 (n:Nat) (x:Int):aF (List.replicate n x)=List.replicate n [.int x]:=by
 induction n with
 | zero=>rfl
 | succ n ih=>simp[yF,aF,ih]
def st1 (n i:Nat):List Int:=List.replicate i 7++List.replicate (n-i) 0
def st2 (p m i:Nat):List Int:=List.replicate p 7++(List.replicate i 4++List.replicate (m-i) 7)
theorem XT {a b:Int} {n i:Nat} (h:i<n):(List.replicate i a++List.replicate (n-i) b)[i]?=some b:=by
 rw[zM (by simp)];have:0<n-i:=by omega
 simp[List.getElem?_replicate,this]
theorem XQ {a b:Int} {n i:Nat} (h:i<n):(List.replicate i a++List.replicate (n-i) b).set i a=List.replicate (i+1) a++List.replicate (n-(i+1)) b:=by
 rw[List.set_append_right _ _ (by simp)];rw[show n-i=(n-(i+1))+1 by omega,yF,List.replicate_succ'];simp
theorem AG9 {n i:Nat} (h:i<n):(st1 n i)[i]?=some 0:=XT h
theorem AG8 {n i:Nat} (h:i<n):(st1 n i).set i 7=st1 n (i+1):=XQ h
theorem AG6 {p m i:Nat} (h:i<m):(st2 p m i)[p+i]?=some 7:=by
 unfold st2;rw[zM (by simp)];simpa using XT (a:=4) (b:=7) h
theorem AG5 {p m i:Nat} (h:i<m):(st2 p m i).set (p+i) 4=st2 p m (i+1):=by
 unfold st2;rw[List.set_append_right _ _ (by simp)];simp only[xI,yI];rw[XQ h]
theorem AGA {p m:Nat}:st1 (p+m) (p+m)=st2 p m 0:=by
 simp[st1,st2,List.replicate_append_replicate]
theorem AG7 (p m:Nat):st2 p m m=iT ((p+m:Nat):Int) p:=by
 unfold st2 iT;apply List.ext_getElem?;intro i;simp only[Nat.sub_self,List.replicate_zero,xB,Int.toNat_natCast,zA0];by_cases h:i<p
 ·rw[zJ (by simpa using h)];simp[h,show i<p+m by omega]
 ·rw[zM (by simp;omega)];by_cases h2:i<p+m
  ·simp[h2,show i-p<m by omega,show p≤i by omega]
  ·simp[h2,show ¬ i-p<m by omega]
@[simp] theorem U6 {p m i:Nat} (h:i≤m):(st2 p m i).length=p+m:=by simp[st2];omega
def jL (p m:Nat):List Int:=(List.range m).map fun(i:Nat)=>((p+i:Nat):Int)
@[simp] theorem AFC (p m:Nat):(jL p m).length=m:=by simp[jL]
theorem NQ {p m i:Nat} (h:i<m):(jL p m)[i]?=some ((p+i:Nat):Int):=by simp[jL,h]
theorem IL (p m:Nat):jL p (m+1)=jL p m++[((p+m:Nat):Int)]:=by simp[jL,xC]
theorem AQ (W left:Int):∀ a∈iT W left,okS a:=by
 intro a ha;unfold iT at ha;obtain⟨i,-,rfl⟩:=yB.1 ha;unfold okS;split<;>omega
theorem lQ (W left:Int):(iT W left).length=W.toNat:=by simp[iT]
theorem AFT:∀ a:Fin 8,(a.val &&& 2=0∧iI a.val 2=false)∨(a.val &&& 2=2∧iI a.val 2=true):=by decide
end Go.Av
namespace Go.Proofs.YtjdfjgmebalaaaaGreat.P
open Go Go.Av
set_option maxRecDepth 4000
set_option maxHeartbeats 8000000
def RJ1 (e:Ex) (l:List Int) (n:Nat) (i:Nat):AS :=
 { env:=[(0, .i (.agg [.int e.kind, .int e.col, .bool e.val.null, .int e.val.n, .isl (Ex.aB e.kids)])),(1, .int n),(2, .i (.isl (aF l))),(3, .own 0 0),(6, .bool false),(7, .osl 1 1 0 n),(8,jk i (.int (i-1))),(10, .junk),(14, .bool false),(18, .int n),(19, .int i),(20,jk i (.bool true)),(26, .junk),(27, .junk),(28, .junk),(29, .junk),(38, .junk)],
   st:=[some (.box [.int e.kind, .int e.col, .bool e.val.null, .int e.val.n, .i (.isl (Ex.aB e.kids))]),some (.arr 1 (aF (st1 n i)))] }
def RJ2 (e:Ex) (n p m:Nat) (i:Nat):AS :=
 { env:=[(0, .i (.agg [.int e.kind, .int e.col, .bool e.val.null, .int e.val.n, .isl (Ex.aB e.kids)])),(1, .int n),(2, .i (.isl (aF (jL p m)))),(3, .own 0 0),(6, .bool false),(7, .osl 1 1 0 n),(8, .int (n-1)),(10,jk i (.int ((p:Int)+i-1))),(14, .bool false),(18, .int n),(19, .int n),(20, .bool false),(26, .i (.isl (aF (jL p m)))),(27, .int m),(28, .int i),(29,jk i (.bool true)),(38,jk i (.bool true))],
   st:=[some (.box [.int e.kind, .int e.col, .bool e.val.null, .int e.val.n, .i (.isl (Ex.aB e.kids))]),some (.arr 1 (aF (st2 p m i)))] }
theorem PM (e:Ex) {n p m:Nat} (hn:n=p+m) (h:e.ok n=true):aI C0 157 [.i (.agg e.cells), .int n, .i (.isl (aF (jL p m)))] []=some (.bool (XZ e n p),[]):=by
 have hok:=ok_eq n e;rw[h]at hok;obtain⟨hw,g1,g2⟩:=Ex.AC h;have hlen:((iT n p).length:Int)=(n:Int):=by rw[lQ];omega
 have ho:=N9 (iT n p) hlen (AQ _ _) e hw;have hs:=JJ (iT n p) hlen (AQ _ _) e hw;rw[aD rfl Tryz.func157 rfl rfl];unfold XZ;generalize FI (iT n p) e=s at ho hs;obtain⟨s,rfl⟩:=zB (show 0≤s by have:=hs.1;omega);have hs8:s<8:=by have:=hs.2;omega
 have hall:=AG7 p m;rw[← hn]at hall;rw[← hall]at ho;rw[Ex.aA]at *
 have hb:8*(n:Int)≤281474976710656:=by omega
 have hz:=Z8 n 0;have hz1:st1 n 0=List.replicate n 0:=by simp[st1]
 have hs1:st1 n n=st2 p m 0:=by rw[hn];exact AGA
 have hl2:∀ i,i≤m→(st2 p m i).length=n:=fun i hi=>by rw[U6 hi,hn]
 have hl3:(st2 p m m).take n=st2 p m m:=zW (by rw[hl2 m (zN m)];exact zN n);simp[hok,hb];rw[aO (RJ1 e (jL p m) n) n (by simp[RJ1,hz1,hz])]
 ·rw[aG];simp[RJ1];rw[aO (RJ2 e n p m) m (by simp[RJ2,hs1,bZ (show n≠0 by omega)])]
  ·rw[aG];have h2:=AFT ⟨s,hs8⟩
   rcases h2 with ⟨h2,h3⟩|⟨h2,h3⟩
   ·simp at h2 h3;simp[RJ2,ho,wP hs8,h2,h3,hl2,hl3]
   ·simp at h2 h3;simp[RJ2,ho,wP hs8,h2,h3,hl2,hl3]
  ·intro i hi;have h3:=NQ (p:=p) hi;have r2:=aW h3;have r3:=aW (AG6 (p:=p) hi);have hset:=AG5 (p:=p) hi;have hin:((p:Int)+i)<n:=by omega
   have hl:=hl2 i (by omega);have hin2:p+i<n:=by omega
   have hin0:0≤(p:Int)+i:=by omega
   have w2:IntKind.i64.wrap ((i:Int)+1)=i+1:=wrO;simp[RJ2,hi,r2,r3,w2,DF,hset,hin,hin0,hl,show((p:Int)+i).toNat=p+i by omega];omega
 ·intro i hi;have r3:=aW (AG9 hi);have hset:=AG8 hi;have w2:IntKind.i64.wrap ((i:Int)+1)=i+1:=wrO;simp[RJ1,hi,r3,w2,DF,hset]
end Go.Proofs.YtjdfjgmebalaaaaGreat.P
namespace Go.Av
theorem YJ {n p i:Nat} (h:i<n):(iT n p)[i]?=some (if p≤i then 4 else 7):=by
 have:i<(iT (n:Int) p).length:=by rw[lQ];simpa using h
 unfold iT;simp[h]
end Go.Av
namespace Go.Proofs.YtjdfjgmebalaaaaGreat.P
open Go Go.Av
set_option maxRecDepth 4000
set_option maxHeartbeats 8000000
def CLX (n p:Nat) (i:Nat):AS :=
 { env:=[(0, .int p),(1, .int n),(4, .nils),(5, .osl 0 1 0 i),(6, .int ((p:Int)+i)),(11,jk i (.bool true))],st:=[some (.arr 1 (aF (jL p i)))] }
theorem K4 {n p m:Nat} (hn:n=p+m) (hb:n<1000):aI C0 170 [.int p, .int n] []=some (.i (.isl (aF (jL p m))),[]):=by
 rw[aD rfl Tryz.func170 rfl rfl];simp;rw[aO (CLX n p) m (by simp[CLX,jL,aF])]
 ·rw[aG];have h1:¬ ((p:Int)+m<n):=by omega
  have h2:(jL p m).take m=jL p m:=zW (by simp);simp[CLX,h1,h2]
 ·intro i hi;have h1:((p:Int)+i<n):=by omega
  have w2:IntKind.i64.wrap ((p:Int)+i+1)=(p:Int)+(i+1):=by rw[wrO];omega
  have hl:(i+1)*8≤140737488355328:=by omega
  have h2:(jL p i).take i=jL p i:=zW (by simp);simp[CLX,h1,w2,hl,h2,IL,mU]
def nsS (p i k:Nat):Int:=if p≤i∧i<p+k then 4 else 7
def nsB (p m i:Nat):AV:=if m=0 then .junk else jk i (.bool (decide ((p:Int)+(m-1)=i-1)))
@[simp] theorem ALP (p m i:Nat):dD (nsB p m i)=[]:=by unfold nsB;split<;>simp
@[simp] theorem AOD (r:Nat→Option Nat) (p m i:Nat):ren r (nsB p m i)=nsB p m i:=by unfold nsB;split<;>simp
def NSO (n p m:Nat) (i:Nat):AS :=
 { env:=[(0, .int n),(1, .i (.isl (aF (jL p m)))),(4, .nils),(5, .osl 0 1 0 i),(6, .int i),(7,jk i (.int (nsS p (i-1) m))),(8,jk i (.int m)),(12,jk i (.bool true)),(18,jk i (.bool false)),(26,nsB p m i)],st:=[some (.arr 1 (aF ((iT n p).take i)))] }
def NSI (n p m:Nat) (i k:Nat):AS :=
 { env:=[(0, .int n),(1, .i (.isl (aF (jL p m)))),(4, .nils),(5, .osl 0 1 0 i),(6, .int i),(7, .int (nsS p i k)),(8, .int k),(12, .bool true),(18,if k=0 then jk i (.bool false)else .bool true),(26,if k=0 then nsB p m i else .bool (decide ((p:Int)+(k-1)=i)))],st:=[some (.arr 1 (aF ((iT n p).take i)))] }
theorem JM {n p m:Nat} (hn:n=p+m) (hb:n<1000):aI C0 191 [.int n, .i (.isl (aF (jL p m)))] []=some (.i (.isl (aF (iT n p))),[]):=by
 rw[aD rfl Tryz.func191 rfl rfl];have hnl:(iT (n:Int) p).length=n:=by rw[lQ];omega
 simp;rw[aO (NSO n p m) n (by simp[NSO,aF,nsB])]
 ·rw[aG];have h2:(iT (n:Int) p).take n=iT n p:=zW (by omega);simp[NSO,h2,hnl]
 ·intro i hi;have w2:IntKind.i64.wrap ((i:Int)+1)=i+1:=wrO;have h3:=YJ (p:=p) hi;have htk:=aM h3;have hl:(i+1)*8≤140737488355328:=by omega
  have hsm:nsS p i m=if p≤i then 4 else 7:=by unfold nsS;by_cases h:p≤i<;>simp[h];omega
  have hlt:((iT (n:Int) p).take i).length=i:=by simp[hnl];omega
  have htt:((iT (n:Int) p).take i).take i=(iT (n:Int) p).take i:=zW (by omega);simp only[← hsm]at htk;simp[NSO,hi];rw[aO (NSI n p m i) m (by simp[NSI,nsS];try omega)]
  ·rw[aG];by_cases hm:m=0
   ·subst hm;simp[NSI,NSO,w2,hl,htk,mU,hlt,htt,nsB]
   ·by_cases h0:i=0
    ·subst h0;simp[NSI,NSO,hl,htk,mU,nsB,hm,aF]
    ·simp[NSI,NSO,w2,hl,htk,mU,hlt,htt,nsB,hm]
  ·intro k hk;have h5:=NQ (p:=p) hk;have r2:=aW h5;have w3:IntKind.i64.wrap ((k:Int)+1)=k+1:=wrO;have e1:∀ x:AV,(if(k+1=0)then x else(AV.bool (decide ((p:Int)+((k+1:Nat)-1)=i))))=AV.bool (decide ((p:Int)+k=i)):=by intro x;simp
   by_cases he:(p:Int)+k=i
   ·have hs:nsS p i (k+1)=4:=by unfold nsS;rw[if_pos (by omega)]
    by_cases k0:k=0
    ·subst k0;simp at he;simp[NSI,hk,r2,hs,he]
    ·simp[NSI,hk,r2,w3,hs,he,k0]
   ·have hs:nsS p i (k+1)=nsS p i k:=by
     unfold nsS;by_cases hp:p≤i∧i<p+k
     ·rw[if_pos hp,if_pos (by omega)]
     ·rw[if_neg hp,if_neg (by omega)]
    by_cases k0:k=0
    ·subst k0;simp at he;simp[NSI,hk,r2,hs,he]
    ·simp[NSI,hk,r2,w3,hs,he,k0]
end Go.Proofs.YtjdfjgmebalaaaaGreat.P
namespace Go.Av
def uW (x:Int):Val:=⟨decide (x=4),if x=2 then 1 else 0⟩
def tsI (k a b x s:Int) (j:Nat):Int:=(([1,2,4]:List Int).take j).foldl (fun s y=>if(iI a x && iI b y)=true then orS s (stV (Val.cmb k (uW x) (uW y)))else s) s
def tsO (k a b:Int) (i:Nat):Int:=(([1,2,4]:List Int).take i).foldl (fun s x=>tsI k a b x s 3) 0
theorem WZ {k a b x s:Int} (hs:WK s) (j:Nat):WK (tsI k a b x s j):=by
 unfold tsI;generalize (([1,2,4]:List Int).take j)=l
 induction l generalizing s with
 | nil=>simpa using hs
 | cons y l ih =>
  simp only[List.foldl_cons];apply ih;split
  ·exact YF hs (BQ _)
  ·exact hs
theorem AFV {k a b:Int} (i:Nat):WK (tsO k a b i):=by
 unfold tsO
 have:∀ (l:List Int) (s:Int),WK s→WK (l.foldl (fun s x=>tsI k a b x s 3) s):=by
  intro l
  induction l with
  | nil=>intro s hs;simpa using hs
  | cons y l ih=>intro s hs;exact ih _ (WZ hs 3)
 exact this _ _ ⟨0,rfl,by omega⟩
theorem AJV:∀ a b:Fin 8,tsO 8 a.val b.val 3=jT 8 a.val b.val∧tsO 9 a.val b.val 3=jT 9 a.val b.val:=by decide
end Go.Av
namespace Go.Proofs.YtjdfjgmebalaaaaGreat.P
open Go Go.Av
set_option maxRecDepth 4000
set_option maxHeartbeats 8000000
theorem X9 (b:Bool) (n:Int):aI C0 165 [.i (.agg [.bool b, .int n])] []=some (.int (if b=true then 2 else if n=0 then 0 else 1),[]):=by
 rw[aD rfl Tryz.func165 rfl rfl]
 cases b
 ·by_cases h:n=0<;>simp[h]
 ·simp
theorem AGD (t:Int) (h:0≤t∧t≤2):aI C0 218 [.int t] []=some (.int (if t=2 then 2 else 1-t),[]):=by
 rw[aD rfl Tryz.func218 rfl rfl];have:t=0∨t=1∨t=2:=by omega
 rcases this with rfl|rfl|rfl<;>simp
theorem AGG (s t:Int):aI C0 217 [.int s, .int t] []=some (.int (if s=0∨t=0 then 0 else if s=1∧t=1 then 1 else 2),[]):=by
 rw[aD rfl Tryz.func217 rfl rfl];by_cases h1:s=0
 ·simp[h1]
 ·by_cases h2:t=0
  ·simp[h1,h2]
  ·by_cases h3:s=1
   ·by_cases h4:t=1
    ·simp[h3,h4]
    ·simp[h3,h4,h2]
   ·simp[h1,h2,h3]
theorem AKJ (t:Int):aI C0 216 [.int t] []=some (.i (.agg [.bool (decide (t=2)), .int (if t=2 then 0 else t)]),[]):=by
 rw[aD rfl Tryz.func216 rfl rfl];by_cases h:t=2
 ·subst h;simp
 ·simp[h]
theorem AC3 {k x y:Int} (hk:k=8∨k=9) (hx:x=1∨x=2∨x=4) (hy:y=1∨y=2∨y=4):aI C0 209 [.int k, .i (.agg [.bool (uW x).null, .int (uW x).n]), .i (.agg [.bool (uW y).null, .int (uW y).n])] []=some (.i (.agg [.bool (Val.cmb k (uW x) (uW y)).null, .int (Val.cmb k (uW x) (uW y)).n]),[]):=by
 rw[aD rfl Tryz.func209 rfl rfl]
 rcases hk with rfl|rfl<;>rcases hx with rfl|rfl|rfl<;>rcases hy with rfl|rfl|rfl<;>(simp[uW,X9,AGD,AGG,AKJ];try decide)
def pw (i:Nat):Int:=if i=0 then 1 else if i=1 then 2 else if i=2 then 4 else 8
def TSO (k:Int) (a b:Nat) (i:Nat):AS :=
 { env:=[(0, .int k),(1, .int a),(2, .int b),(6, .int 0),(7, .int (tsO k a b i)),(8, .int (pw i)),(9,jk i (.int 8)),(11,jk i (.bool true)),(15,jk i (.bool false)),(29,jk i (.bool (iI a (pw (i-1)) && iI b 4)))],st:=[] }
def TSI (k:Int) (a b:Nat) (i:Nat) (j:Nat):AS :=
 { env:=[(0, .int k),(1, .int a),(2, .int b),(6, .int 0),(7, .int (tsI k a b (pw i) (tsO k a b i) j)),(8, .int (pw i)),(9, .int (pw j)),(11, .bool true),(15,jk (i+j) (.bool (decide (j≠0)))),(29,jk (i+j) (.bool (if j=0 then iI a (pw (i-1)) && iI b 4 else iI a (pw i) && iI b (pw (j-1)))))],st:=[] }
theorem ZI {a:Nat} (ha:a<8) {x:Int} (hx:0<x) (hx8:x<8):IntKind.i64.wrap ((a:Int) / x)=(a:Int) / x∧(iI a x=decide (((a:Int) / x).tmod 2=1)):=by
 have h2:0≤(a:Int) / x:=Int.ediv_nonneg (by omega) (by omega);have h3:(a:Int) / x≤a:=Int.ediv_le_self _ (by omega);refine⟨wrO,?_⟩;unfold iI;rw[Int.tmod_eq_emod_of_nonneg h2]
theorem WV (x:Int):aI C0 210 [.int x] []=some (.i (.agg [.bool (uW x).null, .int (uW x).n]),[]):=TS x
theorem ABR {k a b x s:Int} {j:Nat} {y:Int} (h:(([1,2,4]:List Int))[j]?=some y):tsI k a b x s (j+1)=if(iI a x && iI b y)=true then orS (tsI k a b x s j) (stV (Val.cmb k (uW x) (uW y)))else tsI k a b x s j:=by
 unfold tsI;rw[aM h,zA2];rfl
theorem ABQ {k a b:Int} {i:Nat} {x:Int} (h:(([1,2,4]:List Int))[i]?=some x):tsO k a b (i+1)=tsI k a b x (tsO k a b i) 3:=by
 unfold tsO;rw[aM h,zA2];rfl
theorem RD (i:Nat) (hi:i<3):(pw i=1∨pw i=2∨pw i=4)∧IntKind.i64.wrap (2*pw i)=pw (i+1)∧(([1,2,4]:List Int))[i]?=some (pw i):=by
 have h:i=0∨i=1∨i=2:=by omega
 rcases h with rfl|rfl|rfl<;>decide
theorem tL {k:Int} (hk:k=8∨k=9) {a b:Nat} (ha:a<8) (hb:b<8):aI C0 204 [.int k, .int a, .int b] []=some (.int (tsO k a b 3),[]):=by
 have p0:pw 0=1:=rfl;have p2:pw 2=4:=rfl;have p3:pw 3=8:=rfl;rw[aD rfl Tryz.func204 rfl rfl];simp;rw[aO (TSO k a b) 3 (by simp[TSO,tsO,p0])]
 ·rw[aG];simp[TSO,p3]
 ·intro i hi;obtain⟨x1,x2,x3⟩:=RD i hi;have hsc:=ABQ (k:=k) (a:=a) (b:=b) x3;have hlo:=AFV (k:=k) (a:=a) (b:=b) i;have xl:pw i≤4:=by omega
  have xz:(pw i != 0)=true:=by simp;omega
  obtain⟨ax,bx⟩:=ZI ha (x:=pw i) (by omega) (by omega);simp[TSO,xl];rw[aO (TSI k a b i) 3 (by simp[TSI,tsI,p0])]
  ·rw[aG];simp[TSI,TSO,p2,p3,hsc,x2]
  ·intro j hj;obtain⟨y1,y2,y3⟩:=RD j hj;have yl:pw j≤4:=by omega
   have yz:(pw j != 0)=true:=by simp;omega
   have hs:=ABR (k:=k) (a:=a) (b:=b) (x:=pw i) (s:=tsO k a b i) y3;obtain⟨m,m1,m2⟩:=WZ (k:=k) (a:=a) (b:=b) (x:=pw i) hlo j;obtain⟨n,n1,n2⟩:=BQ (Val.cmb k (uW (pw i)) (uW (pw j)));have hcm:=AC3 hk x1 y1;have hst:=LX (Val.cmb k (uW (pw i)) (uW (pw j))).null (Val.cmb k (uW (pw i)) (uW (pw j))).n;rw[show stV ⟨(Val.cmb k (uW (pw i)) (uW (pw j))).null,(Val.cmb k (uW (pw i)) (uW (pw j))).n⟩=stV (Val.cmb k (uW (pw i)) (uW (pw j)))from rfl,n1]at hst;rw[m1,n1,JK]at hs;obtain⟨cx,dx⟩:=ZI hb (x:=pw j) (by omega) (by omega);have hjk:=bZ (show i+(j+1)≠0 by omega);by_cases p:iI a (pw i)=true
   ·have p':=p;rw[bx,zP]at p';by_cases q:iI b (pw j)=true
    ·have q':=q;rw[dx,zP]at q';rw[p,q]at hs;simp only[Bool.and_self,if_true]at hs;simp[TSI,yl,xz,yz,y2,hjk,ax,cx,p',q',p,q,WV,hcm,hst,m1,wP m2,wP n2,or8 m2 n2,hs]
    ·have q2:iI b (pw j)=false:=by simpa using q
     have q':=q;rw[dx,zP]at q';rw[p,q2]at hs;simp only[Bool.and_false,yZ,if_false]at hs;simp[TSI,yl,xz,yz,y2,hjk,ax,cx,p',q',p,q2,m1,hs]
   ·have p2':iI a (pw i)=false:=by simpa using p
    have p':=p;rw[bx,zP]at p';rw[p2']at hs;simp only[Bool.false_and,yZ,if_false]at hs;simp[TSI,yl,xz,yz,y2,hjk,ax,p',p2',m1,hs]
theorem ABW {k a b:Int} (hk:k=8∨k=9) (ha:okS a) (hb:okS b):aI C0 204 [.int k, .int a, .int b] []=some (.int (jT k a b),[]):=by
 obtain⟨m,rfl⟩:=zB (show 0≤a by have:=ha.1;omega);obtain⟨n,rfl⟩:=zB (show 0≤b by have:=hb.1;omega);have hm:m<8:=by have:=ha.2;omega
 have hn:n<8:=by have:=hb.2;omega
 have ht:=AJV ⟨m,hm⟩ ⟨n,hn⟩
 rcases hk with rfl|rfl
 ·rw[tL (.inl rfl) hm hn];simp only at ht;rw[ht.1]
 ·rw[tL (.inr rfl) hm hn];simp only at ht;rw[ht.2]
theorem ACQ:∀ m:Fin 8,(m.val &&& 3=0∧(iI m.val 1 || iI m.val 2)=false)∨((m.val &&& 3=1∨m.val &&& 3=2∨m.val &&& 3=3)∧(iI m.val 1 || iI m.val 2)=true):=by decide
theorem APX {m:Nat} (hm:m<8):∃ v:Nat,m &&& 3=v∧IntKind.i64.wrap (v:Int)=v∧((v=0∧(iI m 1 || iI m 2)=false)∨(¬ v=0∧(iI m 1 || iI m 2)=true)):=by
 rcases ACQ ⟨m,hm⟩with ⟨h,q⟩|⟨h|h|h,q⟩
 ·exact⟨0,h,by decide, .inl ⟨rfl,q⟩⟩
 ·exact⟨1,h,by decide, .inr ⟨by omega,q⟩⟩
 ·exact⟨2,h,by decide, .inr ⟨by omega,q⟩⟩
 ·exact⟨3,h,by decide, .inr ⟨by omega,q⟩⟩
theorem LZ {W:Int} (st:List Int) (hl:(st.length:Int)=W) (hs:∀ a∈st,okS a):∀ e:Ex,e.wf W=true→aI C0 190 [.i (.agg e.cells), .i (.isl (aF st))] []=some (.int (FI st e),[]):=by
 intro e
 induction e using Ex.ind with
 | h k c v ks ih =>
  intro hw;have hall:=JJ st hl hs;rw[aD rfl Tryz.func190 rfl rfl,Ex.aA,PD]
  rcases Ex.sW hw with ⟨h1,h2,h3,h4⟩|⟨h1,h2⟩|⟨h1,x,h2,h3⟩|⟨h1,x,y,h2,h3,h4⟩
  ·generalize Ex.mk k c v ks=e at *
   have hlt:e.col.toNat<st.length:=by omega
   have h5:=zY hlt;generalize st[e.col.toNat]=s at h5;have r2:=aW h5;obtain⟨_,h6⟩:=zZ.1 h5;simp[h1,h2,r2,h6,show e.col<st.length by omega]
  ·generalize Ex.mk k c v ks=e at *
   have hst:=LX e.val.null e.val.n;simp[h1,hst]
  ·have hx:=ih x (by simp only[Ex.kids]at h2;simp[h2]) h3;have ho:=hall x h3;generalize Ex.mk k c v ks=e at *
   generalize hso:FI st x=s at hx ho;rw[Ex.aA]at hx
   rcases h1 with h1|h1
   ·rcases seven ho with rfl|rfl|rfl|rfl|rfl|rfl|rfl<;>(simp[h1,h2,Ex.aB,Ex.aA x,hx,hso];try decide)
   ·rcases seven ho with rfl|rfl|rfl|rfl|rfl|rfl|rfl<;>(simp[h1,h2,Ex.aB,Ex.aA x,hx,hso];try decide)
  ·have hx:=ih x (by simp only[Ex.kids]at h2;simp[h2]) h3;have hy:=ih y (by simp only[Ex.kids]at h2;simp[h2]) h4;have ho:=hall x h3;have hp:=hall y h4;generalize Ex.mk k c v ks=e at *
   generalize hso:FI st x=s at hx ho;generalize hto:FI st y=t at hy hp;rw[Ex.aA]at hx hy;have q1:¬ e.kind=1:=by omega
   have q2:¬ e.kind=2:=by omega
   have q3:¬ e.kind=10:=by omega
   have q4:¬ e.kind=11:=by omega
   by_cases hk:e.kind=8∨e.kind=9
   ·have hc:=ABW (k:=e.kind) hk ho hp
    rcases hk with hk|hk<;>(rw[hk]at hc;simp[hk,h2,Ex.aB,Ex.aA x,Ex.aA y,hx,hy,hc,hso,hto])
   ·have q5:¬ e.kind=8:=by omega
    have q6:¬ e.kind=9:=by omega
    have hcs:jT e.kind s t=orS (if iI (orS s t) 4=true then 4 else 0) (if(iI s 1 || iI s 2)=true∧(iI t 1 || iI t 2)=true then(if e.kind<6 then 7 else 3)else 0):=if_neg hk;obtain⟨m,rfl⟩:=zB (show 0≤s by have:=ho.1;omega);obtain⟨n,rfl⟩:=zB (show 0≤t by have:=hp.1;omega);have hm:m<8:=by have:=ho.2;omega
    have hn:n<8:=by have:=hp.2;omega
    have h1:=wP hm;have h2':=wP hn;have h3':=or8 hm hn;have h4':(m ||| n) % 18446744073709551616=m ||| n:=wP (xX (n:=3) hm hn)
    obtain⟨x',x1,x2,x3⟩:=APX hm;obtain⟨y',y1,y2,y3⟩:=APX hn;have e7:orS 0 7=7:=by decide
    have e3:orS 0 3=3:=by decide
    have e47:orS 4 7=7:=by decide
    have e43:orS 4 3=7:=by decide
    have e40:orS 4 0=4:=by decide
    have e00:orS 0 0=0:=by decide
    rcases CL hm hn with ⟨p,q⟩|⟨p,q⟩<;>rcases x3 with ⟨x3,x4⟩|⟨x3,x4⟩<;>rcases y3 with ⟨y3,y4⟩|⟨y3,y4⟩<;>by_cases q7:e.kind<6 <;>
     simp[q1,q2,q3,q4,q5,q6,q7,h2,Ex.aB,Ex.aA x,Ex.aA y,hx,hy,hso,hto,hcs,h1,h2',h3',h4',p,q,x1,x2,x3,x4,y1,y2,y3,y4,e7,e3,e47,e43,e40,e00]
theorem OU (e:Ex) {n p m:Nat} (hn:n=p+m) (hb:n<1000) (h:e.wf n=true):aI C0 169 [.i (.agg e.cells), .int n, .i (.isl (aF (jL p m)))] []=some (.bool (XZ e n p),[]):=by
 have hlen:((iT n p).length:Int)=(n:Int):=by rw[lQ];omega
 have ho:=LZ (iT n p) hlen (AQ _ _) e h;have hs:=JJ (iT n p) hlen (AQ _ _) e h;have hns:=JM hn hb;rw[aD rfl Tryz.func169 rfl rfl];unfold XZ;generalize FI (iT n p) e=s at ho hs;rw[Ex.aA]at *
 rcases seven hs with rfl|rfl|rfl|rfl|rfl|rfl|rfl<;>(simp[hns,ho];try decide)
set_option maxHeartbeats 4000000
def gL (g:FuncId) (ws:List Int) (r:Int) (p:Pn):Prop:=∃ (q:Pn) (b:Bool),aI C0 g [.i (.iref p.cells), .i (.isl (aF ws))] []=some (.tup [.i (.agg q.cells), .bool b],[])∧(b=true→rwP ws r p=some q)∧(b=false→∀ q',rwP ws r p=some q'→∀ lv,q'.wd ws lv=0)
@[simp] theorem ALU (e:Ex) (k:Pn):(filt e k).kind=2:=rfl
@[simp] theorem AL1 (es:List Ex) (k:Pn):(proj es k).kind=3:=rfl
@[simp] theorem AL4 (kd:Int) (e:Ex) (a b:Pn):(aY kd e a b).kind=kd:=rfl
@[simp] theorem AIM (a b:Pn):(bY a b).kind=6:=rfl
theorem dW (ws:List Int) (r:Int) (e:Ex) (k:Pn):rwP ws r (filt e k)=rwF ws r e k:=by simp[rwP,filt,Pn.ex0,Pn.gJ,Pn.kind,Pn.exprs,Pn.kids]
theorem gL.no {g:FuncId} {ws:List Int} {r:Int} {p:Pn} (h:aI C0 g [.i (.iref p.cells), .i (.isl (aF ws))] []=some (.tup [.i (.agg Pn.zero.cells), .bool false],[])) (hr:rwP ws r p=none):gL g ws r p:=⟨.zero,false,h,by simp,by simp[hr]⟩
theorem gL.yes {g:FuncId} {ws:List Int} {r:Int} {p q:Pn} (h:aI C0 g [.i (.iref p.cells), .i (.isl (aF ws))] []=some (.tup [.i (.agg q.cells), .bool true],[])) (hr:rwP ws r p=some q):gL g ws r p:=⟨q,true,h,fun _=>hr,by simp⟩
theorem AOB {ws:List Int} {p:Pn} {W:Int} (hp:Wd ws p W):gL 110 ws 1 p:=by
 by_cases hk:p.kind=2
 ·obtain⟨e,a,rfl⟩:=nA hp hk;by_cases hk2:a.kind=2
  ·obtain⟨e2,a2,rfl⟩:=nA (fO hp).1 hk2;refine .yes (q:=filt (TC e2 e) a2) ?_ (by rw[dW];simp[rwF,filt,Pn.ex0,Pn.gJ,Pn.kind,Pn.exprs,Pn.kids]);have h1:=eF (e:=e) (k:=filt e2 a2) (kd:=2) rfl;have h2:=AA6 e2 e;have h3:=dO (TC e2 e) a2;rw[aD rfl Tryz.func110 rfl rfl];simp only[aQ,mY,Ex.aA e,Ex.aA e2,Pn.aA a2]at h1 h2 h3 ⊢;simp[h1,h2,h3]
  ·refine .no ?_ (by rw[dW];simp[rwF,hk2]);have h1:=dG (e:=e) (k:=a) (kd:=2) hk2;rw[aD rfl Tryz.func110 rfl rfl];simp only[aQ,aR]at h1 ⊢;simp[h1]
 ·refine .no ?_ (by simp[rwP,hk]);have h1:=dY (p:=p) (kd:=2) hk;rw[aD rfl Tryz.func110 rfl rfl];simp only[aR,Pn.aA p]at h1 ⊢;simp[h1]
theorem AO7 {ws:List Int} {p:Pn} {W:Int} (hp:Wd ws p W):gL 114 ws 5 p:=by
 by_cases hk:p.kind=2
 ·obtain⟨e,a,rfl⟩:=nA hp hk;by_cases hk2:a.kind=4
  ·obtain⟨e2,x,y,hx⟩:=gQ (fO hp).1 (.inl hk2);rw[hk2]at hx;subst hx;refine .yes (q:=aY 4 (TC e2 e) x y) ?_ (by rw[dW];simp[rwF,aY,Pn.ex0,Pn.gJ,Pn.mR,Pn.kind,Pn.exprs,Pn.kids]);have h1:=eF (e:=e) (k:=aY 4 e2 x y) (kd:=4) rfl;have h2:=AA6 e2 e;have h3:=kT 4 (TC e2 e) x y;rw[aD rfl Tryz.func114 rfl rfl];simp only[aQ,pair_cells,mY,Ex.aA e,Ex.aA e2,Pn.aA x,Pn.aA y]at h1 h2 h3 ⊢;simp[h1,h2,h3]
  ·refine .no ?_ (by rw[dW];simp[rwF,hk2]);have h1:=dG (e:=e) (k:=a) (kd:=4) hk2;rw[aD rfl Tryz.func114 rfl rfl];simp only[aQ,aR]at h1 ⊢;simp[h1]
 ·refine .no ?_ (by simp[rwP,hk]);have h1:=dY (p:=p) (kd:=4) hk;rw[aD rfl Tryz.func114 rfl rfl];simp only[aR,Pn.aA p]at h1 ⊢;simp[h1]
theorem AO4 {ws:List Int} {p:Pn} {W:Int} (hp:Wd ws p W):gL 117 ws 8 p:=by
 by_cases hk:p.kind=2
 ·obtain⟨e,a,rfl⟩:=nA hp hk;by_cases hk2:a.kind=6
  ·obtain⟨x,y,rfl⟩:=AAR (fO hp).1 hk2;refine .yes (q:=bY (filt e x) (filt e y)) ?_ (by rw[dW];simp[rwF,bY,Pn.ex0,Pn.gJ,Pn.mR,Pn.kind,Pn.exprs,Pn.kids]);have h1:=eF (e:=e) (k:=bY x y) (kd:=6) rfl;have h2:=dO e x;have h3:=dO e y;rw[aD rfl Tryz.func117 rfl rfl];simp only[aQ,BL,Ex.aA e,Pn.aA x,Pn.aA y]at h1 h2 h3 ⊢;simp[h1,h2,h3]
  ·refine .no ?_ (by rw[dW];simp[rwF,hk2]);have h1:=dG (e:=e) (k:=a) (kd:=6) hk2;rw[aD rfl Tryz.func117 rfl rfl];simp only[aQ,aR]at h1 ⊢;simp[h1]
 ·refine .no ?_ (by simp[rwP,hk]);have h1:=dY (p:=p) (kd:=6) hk;rw[aD rfl Tryz.func117 rfl rfl];simp only[aR,Pn.aA p]at h1 ⊢;simp[h1]
theorem AO3 {ws:List Int} {p:Pn} {W:Int} (hp:Wd ws p W):gL 118 ws 9 p:=by
 by_cases hk:p.kind=7
 ·obtain⟨a,rfl⟩:=AAS hp hk;have hc:(Pn.mk 7 0 [] [] [a]).cells=[.int 7, .int 0, .isl [], .isl [], .isl [a.cells]]:=by simp[Pn.cells,Ex.aB,aF,Pn.aB]
  by_cases hk2:a.kind=7∨a.kind=8
  ·refine .yes (q:=a) ?_ (by simp[rwP,Pn.gJ,Pn.kids,hk2]);rw[aD rfl Tryz.func118 rfl rfl];simp only[hc,Pn.aA a]
   rcases hk2 with hk2|hk2<;>simp[hk2]
  ·refine .no ?_ (by simp[rwP,Pn.gJ,Pn.kids,hk2]);rw[aD rfl Tryz.func118 rfl rfl];simp only[hc,aR,Pn.aA a];have h7:¬ a.kind=7:=by omega
   have h8:¬ a.kind=8:=by omega
   simp[h7,h8]
 ·refine .no ?_ ?_
  ·rw[aD rfl Tryz.func118 rfl rfl];simp only[aR,Pn.aA p];simp[hk]
  ·unfold rwP;split
   ·unfold rwF;simp
   ·simp[hk]
theorem AOA {ws:List Int} {p:Pn} {W:Int} (hp:Wd ws p W):gL 111 ws 2 p:=by
 by_cases hk:p.kind=2
 ·obtain⟨e,a,rfl⟩:=nA hp hk;by_cases hk2:e.kind=8
  ·have hw:=(Ex.AC (fO hp).2).1
   obtain⟨x,y,hxy⟩:∃ x y,e.kids=[x,y]:=by
    rcases Ex.sW hw with ⟨h,_⟩|⟨h,_⟩|⟨h,_⟩|⟨_,x,y,h,_⟩
    ·omega
    ·omega
    ·omega
    ·exact⟨x,y,h⟩
   refine .yes (q:=filt y (filt x a)) ?_ (by rw[dW];simp[rwF,hk2,Ex.gJ,Ex.mR,hxy]);have h2:=dO x a;have h3:=dO y (filt x a);rw[aD rfl Tryz.func111 rfl rfl];simp only[aQ,Ex.aA e,hxy,Ex.aB,Ex.aA x,Ex.aA y,Pn.aA a]at h2 h3 ⊢;simp[hk2,h2,h3]
  ·refine .no ?_ (by rw[dW];simp[rwF,hk2]);rw[aD rfl Tryz.func111 rfl rfl];simp only[aQ,aR,Ex.aA e];simp[hk2]
 ·refine .no ?_ (by simp[rwP,hk]);rw[aD rfl Tryz.func111 rfl rfl];simp only[aR,Pn.aA p];simp[hk]
end Go.Proofs.YtjdfjgmebalaaaaGreat.P
namespace Go.Av
theorem qU {ws:List Int} {e:Ex} {a:Pn} (h:(filt e a).wd ws 8≠0):a.wd ws 8≠0∧e.ok (a.wd ws 8)=true∧(filt e a).wd ws 8=a.wd ws 8:=by
 have h1:=h;rw[BH]at h1;obtain⟨h2,h3⟩:=fA h1;have hm:=Pn.gN a 7 8 h3 (by omega);rw[hm];exact⟨h3,h2.2,by rw[BH,if_pos h2]⟩
theorem JI {ws:List Int} {kd:Int} {e:Ex} {a b:Pn} (hk:kd=4∨kd=5) (h:(aY kd e a b).wd ws 8≠0):a.wd ws 8≠0∧b.wd ws 8≠0∧a.wd ws 8+b.wd ws 8≤6∧e.ok (a.wd ws 8+b.wd ws 8)=true∧(aY kd e a b).wd ws 8=a.wd ws 8+b.wd ws 8:=by
 have h1:=h;rw[BG hk]at h1;obtain⟨h2,h3⟩:=fA h1;rw[Pn.gN a 7 8 h2.1 (by omega),Pn.gN b 7 8 h2.2.1 (by omega)];exact⟨h2.1,h2.2.1,h2.2.2.1,h2.2.2.2,by rw[BG hk,if_pos h2]⟩
theorem UL {ws:List Int} {es:List Ex} {a:Pn} (h:(proj es a).wd ws 8≠0):a.wd ws 8≠0∧bI es.length=true∧es.all (Ex.ok (a.wd ws 8))=true∧(proj es a).wd ws 8=es.length:=by
 have h1:=h;rw[uV]at h1;obtain⟨h2,h3⟩:=fA h1;rw[Pn.gN a 7 8 h2.1 (by omega)];exact⟨h2.1,h2.2.1,h2.2.2,by rw[uV,if_pos h2]⟩
theorem ADU {e:Ex} {n:Nat} (h:e.qX (fun c=>decide (0≤c))=true):(e.bits / 2 ^ n=0)=(e.cin 0 n=true):=by
 rw[eq_iff_iff,AI9 h n];unfold Ex.cin;constructor
 ·intro h1;exact Ex.mZ (by simp) e (Ex.TE e h h1)
 ·intro h1;exact Ex.mZ (fun c hc=>by simp at hc ⊢;exact hc.2) e h1
theorem ADT {e:Ex} {n W:Nat} (h:e.qX (fun c=>decide (0≤c∧c<(W:Int)))=true):(e.bits &&& (2 ^ n-1)=0)=(e.cin n W=true):=by
 have h0:e.qX (fun c=>decide (0≤c))=true:=Ex.mZ (fun c hc=>by simp at hc ⊢;exact hc.1) e h;rw[eq_iff_iff,AI8 h0 n];unfold Ex.cin;constructor
 ·intro h1;exact Ex.mZ (fun c hc=>by simp at hc ⊢;omega) e (Ex.TE e h h1)
 ·intro h1;exact Ex.mZ (fun c hc=>by simp at hc ⊢;exact hc.1) e h1
end Go.Av
namespace Go.Proofs.YtjdfjgmebalaaaaGreat.P
open Go Go.Av
set_option maxRecDepth 4000
set_option maxHeartbeats 4000000
theorem vY {ws:List Int} (hw:jI ws=true) (p:Pn):aI C0 68 [.i (.agg p.cells), .i (.isl (aF ws))] []=some (.int (p.wd ws 8),[]):=by
 rw[lN];unfold Pn.width;rw[if_pos hw]
theorem tF {ws:List Int} (hw:jI ws=true) {p:Pn} (h:p.wd ws 8≠0):∃ n:Nat,p.wd ws 8=n∧1≤n∧n≤6:=by
 have:=Pn.qF (iR hw) p 8;exact⟨(p.wd ws 8).toNat,by omega,by omega,by omega⟩
theorem ADB (a b:Nat):Int.fdiv (a:Int) (b:Int)=((a / b:Nat):Int):=by
 rw[Int.fdiv_eq_ediv_of_nonneg _ (Int.natCast_nonneg b)];rfl
theorem APT {n:Nat} (hn:n≤6):(IntKind.i64.wrap (IntKind.i64.wrap (2 ^ min n IntKind.i64.bits)-1) % 18446744073709551616).toNat=2 ^ n-1:=by
 have:n=0∨n=1∨n=2∨n=3∨n=4∨n=5∨n=6:=by omega
 rcases this with rfl|rfl|rfl|rfl|rfl|rfl|rfl<;>decide
theorem ACC {ws:List Int} (hw:jI ws=true) {e e2:Ex} {x y:Pn} {kd:Int} (hkd:kd=4∨kd=5) (hp:(filt e (aY kd e2 x y)).wd ws 8≠0):gL 112 ws 3 (filt e (aY kd e2 x y)):=by
 obtain⟨h1,h2,h3⟩:=qU hp;obtain⟨g1,g2,g3,g4,g5⟩:=JI hkd h1;rw[g5]at h2;obtain⟨n,hn,n1,n2⟩:=tF hw g1;have hwf:=Ex.YG h2;have hcol:=Ex.QN hwf;have hb:=Ex.K9 e hcol;have c1:=IK e (by have:=Ex.gG h2;omega) hcol;have c2:=vY hw x;have c3:=dO e x;have c4:=kT kd e2 (filt e x) y;have q:=ADU (n:=n) (Ex.ABH hwf);rw[hn]at c2;have o1:aI C0 148 [.i (.iref (filt e (aY kd e2 x y)).cells), .int kd] []=_:=eF (e:=e) (k:=aY kd e2 x y) (kd:=kd) rfl;have o2:kd=5→aI C0 148 [.i (.iref (filt e (aY kd e2 x y)).cells), .int 4] []=_:=fun h=>dG (e:=e) (k:=aY kd e2 x y) (kd:=4) (by simp[h])
 have hsh:shI .shr .i64 (e.bits:Int) (n:Int)=some (.lit (.int .i64 ((e.bits / 2 ^ n:Nat):Int))):=by
  have h1:min (n:Int).toNat IntKind.i64.bits=n:=by simp[IntKind.bits];omega
  have h2:(0:Int)≤n:=by omega
  simp only[shI,h1,h2,decide_true,tst];rw[show(2:Int) ^ n=((2 ^ n:Nat):Int)by simp,ADB]
 have hr:rwP ws 3 (filt e (aY kd e2 x y))=if e.cin 0 n=true then some (aY kd e2 (filt e x) y)else none:=by
  rw[dW];simp[rwF,aY,Pn.ex0,Pn.gJ,Pn.mR,Pn.kind,Pn.exprs,Pn.kids,hkd,hn]
 generalize hd:e.bits / 2 ^ n=d at *
 by_cases hc:e.cin 0 n=true
 ·rw[if_pos hc]at hr;have hd0:d=0:=by rw[q];exact hc
  subst hd0;refine .yes ?_ hr;rw[aD rfl Tryz.func112 rfl rfl]
  rcases hkd with rfl|rfl
  ·simp only[aQ,pair_cells,Ex.aA e,Ex.aA e2,Pn.aA x,Pn.aA y]at o1 c1 c2 c3 c4 ⊢;simp[o1,c1,c2,c3,c4,hsh]
  ·have o2:=o2 rfl;simp only[aQ,pair_cells,Ex.aA e,Ex.aA e2,Pn.aA x,Pn.aA y]at o1 o2 c1 c2 c3 c4 ⊢;simp[o1,o2,c1,c2,c3,c4,hsh]
 ·rw[if_neg hc]at hr;have hd0:¬ d=0:=by rw[q];exact hc
  refine .no ?_ hr;rw[aD rfl Tryz.func112 rfl rfl]
  rcases hkd with rfl|rfl
  ·simp only[aQ,pair_cells,aR,Ex.aA e,Ex.aA e2,Pn.aA x,Pn.aA y]at o1 c1 c2 ⊢;simp[o1,c1,c2,hsh,hd0]
  ·have o2:=o2 rfl;simp only[aQ,pair_cells,aR,Ex.aA e,Ex.aA e2,Pn.aA x,Pn.aA y]at o1 o2 c1 c2 ⊢;simp[o1,o2,c1,c2,hsh,hd0]
theorem AO9 {ws:List Int} (hw:jI ws=true) {p:Pn} (hp:p.wd ws 8≠0):gL 112 ws 3 p:=by
 by_cases hk:p.kind=2
 ·obtain⟨e,a,rfl⟩:=nA (kG hp) hk;by_cases hk2:a.kind=4∨a.kind=5
  ·obtain⟨e2,x,y,hx⟩:=gQ (fO (kG hp)).1 hk2;generalize a.kind=kd at *
   subst hx;exact ACC hw hk2 hp
  ·have h1:=dG (e:=e) (k:=a) (kd:=4) (by omega);have h2:=dG (e:=e) (k:=a) (kd:=5) (by omega);refine .no ?_ (by rw[dW];simp[rwF,hk2]);rw[aD rfl Tryz.func112 rfl rfl];simp only[aQ,aR]at h1 h2 ⊢;simp[h1,h2]
 ·have h1:=dY (p:=p) (kd:=4) hk;have h2:=dY (p:=p) (kd:=5) hk;refine .no ?_ (by simp[rwP,hk]);rw[aD rfl Tryz.func112 rfl rfl];simp only[aR,Pn.aA p]at h1 h2 ⊢;simp[h1,h2]
theorem AE5 {b n:Nat} (hb:b<64):IntKind.i64.wrap ((b:Int) % 18446744073709551616 % 2 ^ n)=((b &&& (2 ^ n-1):Nat):Int):=by
 rw[Nat.and_two_pow_sub_one_eq_mod];have h1:(b:Int) % 18446744073709551616=b:=by omega
 have h2:(b:Int) % 2 ^ n=((b % 2 ^ n:Nat):Int):=by simp
 rw[h1,h2];have:=Nat.mod_le b (2 ^ n);exact wrO
theorem ACB {ws:List Int} (hw:jI ws=true) {e e2:Ex} {x y:Pn} (hp:(filt e (aY 4 e2 x y)).wd ws 8≠0):gL 113 ws 4 (filt e (aY 4 e2 x y)):=by
 obtain⟨h1,h2,h3⟩:=qU hp;obtain⟨g1,g2,g3,g4,g5⟩:=JI (.inl rfl) h1;rw[g5]at h2;obtain⟨n,hn,n1,n2⟩:=tF hw g1;obtain⟨m,hm,m1,m2⟩:=tF hw g2;have hwf:=Ex.YG h2;have hcol:=Ex.QN hwf;have hcolW:=Ex.J3 e (Ex.AC h2).1;have hb:=Ex.K9 e hcol;have hsz:e.size<1000000000:=by have:=Ex.gG h2;omega
 have c1:=IK e hsz hcol;have c2:=vY hw x;have c5:=P6 (w:=n) (by omega) e hwf hsz;have c3:=dO (e.rR (·-n)) y;have c4:=kT 4 e2 x (filt (e.rR (·-n)) y);rw[hn,hm,← Int.natCast_add]at hcolW;have q:=ADT (n:=n) hcolW;rw[hn]at c2;have o1:=eF (e:=e) (k:=aY 4 e2 x y) (kd:=4) rfl
 have hr:rwP ws 4 (filt e (aY 4 e2 x y))=if e.cin n (n+m:Nat)=true then some (aY 4 e2 x (filt (e.rR (·-n)) y))else none:=by
  rw[dW]
  have:∀ k:Pn,(Pn.mk 4 0 [e2] [] [x,y]).wd ws 8=((n+m:Nat):Int):=fun _=>by
   have:=g5;unfold aY at this;rw[this,hn,hm];simp
  simp[rwF,aY,Pn.ex0,Pn.gJ,Pn.mR,Pn.kind,Pn.exprs,Pn.kids,hn,this x]
 have haw:=AE5 (b:=e.bits) (n:=n) (by omega);by_cases hc:e.cin n (n+m:Nat)=true
 ·rw[if_pos hc]at hr;have hd0:e.bits &&& (2 ^ n-1)=0:=by rw[q];exact hc
  rw[hd0]at haw;refine .yes ?_ hr;generalize e.rR (·-(n:Int))=z at *
  rw[aD rfl Tryz.func113 rfl rfl];simp only[aQ,pair_cells,Ex.aA e,Ex.aA e2,Ex.aA z,Pn.aA x,Pn.aA y]at o1 c1 c2 c3 c4 c5 ⊢;simp[o1,c1,c2,c3,c4,c5,APT n2,haw]
 ·rw[if_neg hc]at hr;have hd0:¬ (e.bits &&& (2 ^ n-1)=0):=by rw[q];exact hc
  refine .no ?_ hr;generalize e.bits &&& (2 ^ n-1)=d at *
  rw[aD rfl Tryz.func113 rfl rfl];simp only[aQ,pair_cells,aR,Ex.aA e,Ex.aA e2,Pn.aA x,Pn.aA y]at o1 c1 c2 ⊢;simp[o1,c1,c2,hd0,APT n2,haw]
theorem AO8 {ws:List Int} (hw:jI ws=true) {p:Pn} (hp:p.wd ws 8≠0):gL 113 ws 4 p:=by
 by_cases hk:p.kind=2
 ·obtain⟨e,a,rfl⟩:=nA (kG hp) hk;by_cases hk2:a.kind=4
  ·obtain⟨e2,x,y,hx⟩:=gQ (fO (kG hp)).1 (.inl hk2);rw[hk2]at hx;subst hx;exact ACB hw hp
  ·have h1:=dG (e:=e) (k:=a) (kd:=4) hk2;refine .no ?_ (by rw[dW];simp[rwF,hk2]);rw[aD rfl Tryz.func113 rfl rfl];simp only[aQ,aR]at h1 ⊢;simp[h1]
 ·have h1:=dY (p:=p) (kd:=4) hk;refine .no ?_ (by simp[rwP,hk]);rw[aD rfl Tryz.func113 rfl rfl];simp only[aR,Pn.aA p]at h1 ⊢;simp[h1]
theorem XM {ws:List Int} (hw:jI ws=true) {e:Ex} {es:List Ex} {x:Pn} (hp:(filt e (proj es x)).wd ws 8≠0):gL 119 ws 10 (filt e (proj es x)):=by
 obtain⟨h1,h2,h3⟩:=qU hp;obtain⟨g1,g2,g3,g4⟩:=UL h1;rw[g4]at h2;have c2:=vY hw x;have c5:=Z5 e es (x.wd ws 8);have o1:=eF (e:=e) (k:=proj es x) (kd:=3) rfl
 have hr:rwP ws 10 (filt e (proj es x))=some (proj es (filt (e.sub es) x)):=by
  rw[dW];simp[rwF,proj,Pn.ex0,Pn.gJ,Pn.mR,Pn.kind,Pn.exprs,Pn.kids]
 have c3:=dO (AD6 (e.subst es (x.wd ws 8))) x;refine⟨proj es (filt (AD6 (e.subst es (x.wd ws 8))) x),(e.subst es (x.wd ws 8)).isSome,?_,?_,?_⟩
 ·generalize (e.subst es (x.wd ws 8)).isSome=b at *
  generalize AD6 (e.subst es (x.wd ws 8))=z at *
  rw[aD rfl Tryz.func119 rfl rfl];simp only[aQ,gT,Ex.aA e,Ex.aA z,Pn.aA x]at o1 c2 c3 c5 ⊢;simp[o1,c2,c3,c5]
 ·intro hb;rw[hr];unfold Ex.subst at hb ⊢;split at hb
  ·rename_i hcc;rw[if_pos hcc];rfl
  ·simp at hb
 ·intro hb q' hq lv;rw[hr]at hq;injection hq with hq;subst hq
  cases lv with
  | zero=>rw[Pn.TQ];simp[proj,Pn.kids]
  | succ lv =>
   rw[uV];refine if_neg fun hc=>?_
   have hc1:=hc.1
   cases lv with
   | zero=>exact hc1 (by rw[Pn.TQ];simp[filt,Pn.kids])
   | succ lv =>
    rw[BH]at hc1;obtain⟨⟨hx,hok⟩,_⟩:=fA hc1;have e8:=AEA (kG g1) hx;rw[e8]at hok;unfold Ex.subst at hb;rw[if_pos (by simp only[zU];exact⟨h2,g3,hok⟩)]at hb;simp at hb
theorem AKR {ws:List Int} (hw:jI ws=true) {p:Pn} (hp:p.wd ws 8≠0):gL 119 ws 10 p:=by
 by_cases hk:p.kind=2
 ·obtain⟨e,a,rfl⟩:=nA (kG hp) hk;by_cases hk2:a.kind=3
  ·obtain⟨es,x,rfl⟩:=lW (fO (kG hp)).1 hk2;exact XM hw hp
  ·have h1:=dG (e:=e) (k:=a) (kd:=3) hk2;refine .no ?_ (by rw[dW];simp[rwF,hk2]);rw[aD rfl Tryz.func119 rfl rfl];simp only[aQ,aR]at h1 ⊢;simp[h1]
 ·have h1:=dY (p:=p) (kd:=3) hk;refine .no ?_ (by simp[rwP,hk]);rw[aD rfl Tryz.func119 rfl rfl];simp only[aR,Pn.aA p]at h1 ⊢;simp[h1]
def OIX (e e2:Ex) (x y:Pn) (ws:List Int) (n m i:Nat):AS :=
 { env:=[(0, .i (.iref [.int 2, .int 0, .isl [[.int e.kind, .int e.col, .bool e.val.null, .int e.val.n, .isl (Ex.aB e.kids)]], .isl [], .isl [[.int 5, .int 0, .isl [[.int e2.kind, .int e2.col, .bool e2.val.null, .int e2.val.n, .isl (Ex.aB e2.kids)]], .isl [], .isl [[.int x.kind, .int x.table, .isl (Ex.aB x.exprs), .isl (aF x.cols), .isl (Pn.aB x.kids)],[.int y.kind, .int y.table, .isl (Ex.aB y.exprs), .isl (aF y.cols), .isl (Pn.aB y.kids)]]]]])),(1, .i (.isl (aF ws))),(4, .own 0 0),(5, .bool false),(6, .i (.iref [.int e.kind, .int e.col, .bool e.val.null, .int e.val.n, .isl (Ex.aB e.kids)])),
    (7, .i (.iref [.int 5, .int 0, .isl [[.int e2.kind, .int e2.col, .bool e2.val.null, .int e2.val.n, .isl (Ex.aB e2.kids)]], .isl [], .isl [[.int x.kind, .int x.table, .isl (Ex.aB x.exprs), .isl (aF x.cols), .isl (Pn.aB x.kids)],[.int y.kind, .int y.table, .isl (Ex.aB y.exprs), .isl (aF y.cols), .isl (Pn.aB y.kids)]]])),(8, .bool true),(9, .int ((n:Int)+m)),(10,gro 1 1 i),(11, .int ((n:Int)+i)),(19, .bool false),(36,jk i (.bool true)),(49, .junk)],
   st:=some (.box [.int 0, .int 0, .nils, .nils, .nils])::WM 1 (aF (jL n i)) i }
theorem AC9 {ws:List Int} (hw:jI ws=true) {e e2:Ex} {x y:Pn} (hp:(filt e (aY 5 e2 x y)).wd ws 8≠0):gL 116 ws 7 (filt e (aY 5 e2 x y)):=by
 obtain⟨h1,h2,h3⟩:=qU hp;obtain⟨g1,g2,g3,g4,g5⟩:=JI (.inr rfl) h1;have c1:=vY hw (aY 5 e2 x y);rw[g5]at h2 c1;obtain⟨n,hn,n1,n2⟩:=tF hw g1;obtain⟨m,hm,m1,m2⟩:=tF hw g2;have c2:=vY hw x;rw[hn,hm,← Int.natCast_add]at h2 c1;rw[hn]at c2;have c3:=kT 4 e2 x y;have c4:=dO e (aY 4 e2 x y);have c5:=PM e (n:=n+m) (p:=n) (m:=m) rfl h2;have o1:=eF (e:=e) (k:=aY 5 e2 x y) (kd:=5) rfl
 have hr:rwP ws 7 (filt e (aY 5 e2 x y))=if XZ e (n+m:Nat) n=true then some (filt e (aY 4 e2 x y))else none:=by
  rw[dW]
  have:(Pn.mk 5 0 [e2] [] [x,y]).wd ws 8=((n+m:Nat):Int):=by
   have:=g5;unfold aY at this;rw[this,hn,hm];simp
  simp[rwF,aY,Pn.ex0,Pn.gJ,Pn.mR,Pn.kind,Pn.exprs,Pn.kids,hn,this]
 generalize XZ e (n+m:Nat) n=b at *
 have key:aI C0 116 [.i (.iref (filt e (aY 5 e2 x y)).cells), .i (.isl (aF ws))] []=some (.tup [.i (.agg (if b=true then filt e (aY 4 e2 x y)else Pn.zero).cells), .bool b],[]):=by
  rw[aD rfl Tryz.func116 rfl rfl];simp only[aQ,pair_cells,aR,Ex.aA e,Ex.aA e2,Pn.aA x,Pn.aA y]at o1 c1 c2 c3 c4 c5 ⊢;have ht:∀ k,(jL n k).take k=jL n k:=fun k=>zW (by simp)
  simp only[yP]at c5;simp[o1,c1,c2];rw[aO (OIX e e2 x y ws n m) m (by simp[OIX])]
  ·rw[aG];simp[OIX,aN (show m≠0 by omega),aL (show m≠0 by omega),bZ (show m≠0 by omega)]
   cases b with
   | true=>simp[c3,c4,c5,ht,aQ,pair_cells,Ex.aA e,Ex.aA e2,Pn.aA x,Pn.aA y]
   | false=>simp[c5,ht,aR]
  ·intro i hi;have w2:IntKind.i64.wrap ((n:Int)+i+1)=n+(i+1):=by rw[wrO];omega
   have hs:=IL n i;have hlt:(n:Int)+i<n+m:=by omega
   by_cases h0:i=0
   ·subst h0;have hlt0:(n:Int)<n+m:=by omega
    have w3:IntKind.i64.wrap ((n:Int)+1)=n+1:=by rw[wrO]
    simp[OIX,w3,hlt0,hs,jK,aF,jL]
   ·have hl1:(i+1)*8≤140737488355328:=by omega
    simp[OIX,w2,hlt,hs,aN h0,aL h0,bZ h0,jK,aF,hl1,ht]
 cases b with
 | true=>exact .yes key (by rw[hr];rfl)
 | false=>exact .no key (by rw[hr];rfl)
theorem AO5 {ws:List Int} (hw:jI ws=true) {p:Pn} (hp:p.wd ws 8≠0):gL 116 ws 7 p:=by
 by_cases hk:p.kind=2
 ·obtain⟨e,a,rfl⟩:=nA (kG hp) hk;by_cases hk2:a.kind=5
  ·obtain⟨e2,x,y,hx⟩:=gQ (fO (kG hp)).1 (.inr hk2);rw[hk2]at hx;subst hx;exact AC9 hw hp
  ·have h1:=dG (e:=e) (k:=a) (kd:=5) hk2;refine .no ?_ (by rw[dW];simp[rwF,hk2]);rw[aD rfl Tryz.func116 rfl rfl];simp only[aQ,aR]at h1 ⊢;simp[h1]
 ·have h1:=dY (p:=p) (kd:=5) hk;refine .no ?_ (by simp[rwP,hk]);rw[aD rfl Tryz.func116 rfl rfl];simp only[aR,Pn.aA p]at h1 ⊢;simp[h1]
theorem SS {n m i:Nat} (h:i<n+m):(aS (m:Int) n++aS 0 m)[i]?=some (SY (nH n m i)):=by
 by_cases hi:i<n
 ·rw[zJ (by simpa using hi),pV hi];unfold nH;rw[if_pos (by omega),Int.add_comm]
 ·rw[zM (by simp;omega),pX,pV (by omega)];unfold nH;rw[if_neg (by omega)];congr 2;omega
def MPX (fs es:List Ex) (x:Pn) (ws:List Int) (W:Int) (zs:List Ex) (i:Nat):AS :=
 { env:=[(0, .i (.iref [.int 3, .int 0, .isl (Ex.aB fs), .isl [], .isl [[.int 3, .int 0, .isl (Ex.aB es), .isl [], .isl [[.int x.kind, .int x.table, .isl (Ex.aB x.exprs), .isl (aF x.cols), .isl (Pn.aB x.kids)]]]]])),(1, .i (.isl (aF ws))),(4, .own 0 0),(5, .bool false),(6, .i (.iref [.int 3, .int 0, .isl (Ex.aB es), .isl [], .isl [[.int x.kind, .int x.table, .isl (Ex.aB x.exprs), .isl (aF x.cols), .isl (Pn.aB x.kids)]]])),(7, .int W),(8, .own 1 0),(9,jk i (.int (i-1))),(10,if i=0 then .junk else .own 3 0),(11,jk i (.bool true)),(26, .bool false),(50, .int fs.length),(51, .int i),(52,jk i (.bool true)),(71,jk i (.bool false))],
   st:=some (.box [.int 0, .int 0, .nils, .nils, .nils])::some (.box [.int 3, .int 0,gro 2 5 i, .nils, .i (.isl [[.int x.kind, .int x.table, .isl (Ex.aB x.exprs), .isl (aF x.cols), .isl (Pn.aB x.kids)]])])::(if i=0 then []else [some (.arr 5 (Ex.aB (zs.take i))),some (.box (jR ((zs[i-1]?).getD Ex.zero).cells))]) }
def CJX (e:Ex) (x y:Pn) (ws:List Int) (n m i:Nat):AS :=
 { env:=[(0, .i (.iref [.int 4, .int 0, .isl [[.int e.kind, .int e.col, .bool e.val.null, .int e.val.n, .isl (Ex.aB e.kids)]], .isl [], .isl [[.int x.kind, .int x.table, .isl (Ex.aB x.exprs), .isl (aF x.cols), .isl (Pn.aB x.kids)],[.int y.kind, .int y.table, .isl (Ex.aB y.exprs), .isl (aF y.cols), .isl (Pn.aB y.kids)]]])),(1, .i (.isl (aF ws))),(4, .own 0 0),(5, .bool false),(6, .own 1 0),(7, .own 2 0),(8, .fn (.func 155) [.own 1 0, .own 2 0]),(9, .own 3 0),(10,jk i (.int (i-1))),(15, .bool false),(37, .int ((n:Int)+m)),(38, .int i),(39,jk i (.bool true))],
   st:=some (.box [.int 0, .int 0, .nils, .nils, .nils])::some (.box [.int n])::some (.box [.int m])::some (.box [.int 3, .int 0,gro 4 5 i, .nils, .nils])::WM 5 (Ex.aB ((aS (m:Int) n++aS 0 m).take i)) i }
theorem ACA {ws:List Int} (hw:jI ws=true) {e:Ex} {x y:Pn} (hp:(aY 4 e x y).wd ws 8≠0):gL 115 ws 6 (aY 4 e x y):=by
 obtain⟨g1,g2,g3,g4,g5⟩:=JI (.inl rfl) hp;obtain⟨n,hn,n1,n2⟩:=tF hw g1;obtain⟨m,hm,m1,m2⟩:=tF hw g2;have c1:=vY hw x;have c2:=vY hw y;have hwf:=Ex.YG g4;have hsz:e.size<1000000000:=by have:=Ex.gG g4;omega
 have c5:=P5 (a:=n) (b:=m) (by omega) (by omega) e hwf hsz;have c4:=kT 4 (e.rR (nH n m)) y x
 have hr:rwP ws 6 (aY 4 e x y)=some (proj (aS m n++aS 0 m) (aY 4 (e.rR (nH n m)) y x)):=by
  simp[rwP,aY,Pn.ex0,Pn.gJ,Pn.mR,Pn.kind,Pn.exprs,Pn.kids,hn,hm]
 rw[hn]at c1;rw[hm]at c2;refine .yes ?_ hr;generalize e.rR (nH n m)=z at *
 rw[aD rfl Tryz.func115 rfl rfl];simp only[gT,pair_cells,aR,Ex.aA e,Ex.aA z,Pn.aA x,Pn.aA y]at c1 c2 c4 c5 ⊢;have w0:IntKind.i64.wrap ((n:Int)+m)=n+m:=wrO;have hlen:(aS (m:Int) n++aS 0 m).length=n+m:=by simp
 simp[c1,c2,w0];rw[aO (CJX e x y ws n m) (n+m) (by simp[CJX])]
 ·rw[aG];have htk:(aS (m:Int) n++aS 0 m).take (n+m)=aS (m:Int) n++aS 0 m:=zW (by omega);simp[CJX,aN (show n+m≠0 by omega),aL (show n+m≠0 by omega),bZ (show n+m≠0 by omega),htk,c4,c5]
 ·intro i hi;have hnth:=SS hi;have htk:=aM hnth;have hpl:=GK i n m (by omega) (by omega) (by omega);have hco:=vO (nH n m i);generalize nH n m i=c at *
  rw[iX]at hco;have hlt:(i:Int)<n+m:=by omega
  have w2:IntKind.i64.wrap ((i:Int)+1)=i+1:=wrO;by_cases h0:i=0
  ·subst h0;have hlt0:(0:Int)<n+m:=by omega
   simp at hpl;simp[CJX,hlt0,hpl,hco,cO,htk,Ex.aB,iX]
  ·have hl1:(i+1)*56≤140737488355328:=by omega
   have hl2:i≤min i (n+m):=by omega
   simp[CJX,w2,hlt,hpl,hco,aN h0,aL h0,bZ h0,htk,Ex.aU,iX,hl1,hl2,zK]
theorem XL {ws:List Int} (hw:jI ws=true) {fs es:List Ex} {x:Pn} (hp:(proj fs (proj es x)).wd ws 8≠0):gL 120 ws 11 (proj fs (proj es x)):=by
 obtain⟨h1,h2,h3,h4⟩:=UL hp;obtain⟨g1,g2,g3,g4⟩:=UL h1;rw[g4]at h3;have c2:=vY hw x;have c5:=fun e=>Z5 e es (x.wd ws 8)
 have hr:rwP ws 11 (proj fs (proj es x))=some (proj (fs.map (Ex.sub es)) x):=by
  simp[rwP,proj,Pn.ex0,Pn.gJ,Pn.mR,Pn.kind,Pn.exprs,Pn.kids]
 generalize hW:x.wd ws 8=W at *
 have hin:∀ (i:Nat) (a:Ex),fs[i]?=some a→(a.subst es W).isSome=true→(fs.map (Ex.sub es))[i]?=some (a.sub es)∧a.subst es W=some (a.sub es):=by
  intro i a ha hs;refine⟨by simp[ha],?_⟩;unfold Ex.subst at hs ⊢;split at hs
  ·rename_i hc;rw[if_pos hc]
  ·simp at hs
 have hlen:fs.length≤6:=by unfold bI at h2;simp at h2;omega
 obtain⟨j,k1,k2⟩:=fP (fun e=>(e.subst es W).isSome) fs
 have hround:∀ i,i<j→i<fs.length∧∃ f z,fs[i]?=some f∧fI (Ex.aB fs) i=some f.cells∧(fs.map (Ex.sub es))[i]?=some z∧f.subst es W=some z:=by
  intro i hi;obtain⟨f,q1,q2,q3⟩:=k1 i hi;obtain⟨q4,q5⟩:=hin i f q1 q3;exact⟨(zZ.1 q1).1,f,_,q1,Ex.aJ q1,q4,q5⟩
 have hfl:fs.length≠0:=by intro h;rw[h]at h2;simp[bI]at h2
 have hzl:(fs.map (Ex.sub es)).length=fs.length:=by simp
 have hq:∀ lv,(proj (fs.map (Ex.sub es)) x).wd ws lv≠0→∀ f∈fs,(f.sub es).ok W=true:=by
  intro lv hne f hf
  cases lv with
  | zero=>exact absurd (by rw[Pn.TQ];simp[proj,Pn.kids]) hne
  | succ lv =>
   rw[uV]at hne;obtain⟨⟨q1,q2,q3⟩,_⟩:=fA hne;have e8:=AEA (kG (p:=x) (lv:=8) (by rw[hW];exact g1)) q1;rw[e8,hW]at q3;exact zR.1 q3 _ (List.mem_map_of_mem hf)
 generalize fs.map (Ex.sub es)=zs at *
 have main:∀ r,aI C0 120 [.i (.iref (proj fs (proj es x)).cells), .i (.isl (aF ws))] []=r→r=if j=fs.length then some (.tup [.i (.agg (proj zs x).cells), .bool true],[])else some (.tup [.i (.agg Pn.zero.cells), .bool false],[]):=by
  intro r hr';subst hr';rw[aD rfl Tryz.func120 rfl rfl];simp only[gT,Pn.aA x]at c2 ⊢;simp[c2];rw[aO (MPX fs es x ws W zs) j (by simp[MPX])]
  ·rw[aG]
   rcases k2 with ⟨hj,ha⟩|⟨f,q1,q2,q3,ha⟩
   ·have htk:zs.take fs.length=zs:=zW (by omega);simp[MPX,hj,hfl,aN hfl,htk,hzl]
   ·have hj:j<fs.length:=(zZ.1 q1).1;have hne:¬ j=fs.length:=by omega
    have r1:=Ex.aJ q1;have hn:f.subst es W=none:=by cases h:f.subst es W with|none=>rfl|some _=>rw[h]at q3;simp at q3
    have c6:=c5 f;rw[hn]at c6;simp only[AD6,Option.getD,Option.isSome,Ex.aA f,aR]at c6 r1;by_cases h0:j=0
    ·subst h0;simp[MPX,hj,hne,r1,c6,aR]
    ·simp[MPX,hj,hne,r1,c6,h0,aN h0,bZ h0,aR]
  ·intro i hi;obtain⟨hil,f,z,q1,r1,q4,q5⟩:=hround i hi;have c6:=c5 f;rw[q5]at c6;have htk:=aM q4;have w2:IntKind.i64.wrap ((i:Int)+1)=i+1:=wrO;simp only[AD6,Option.getD,Option.isSome,Ex.aA f,Ex.aA z]at c6 r1;by_cases h0:i=0
   ·subst h0;simp[MPX,hil,r1,c6,cO,htk,q4,Ex.aB,Ex.aA z]
   ·have hl1:(i+1)*56≤140737488355328:=by omega
    have hl2:i≤min i zs.length:=by omega
    simp[MPX,hil,r1,c6,w2,htk,q4,h0,aN h0,bZ h0,Ex.aU,Ex.aA z,hl1,hl2,zK]
 have hm:=main _ rfl
 rcases k2 with ⟨hj,ha⟩|⟨f,q1,q2,q3,ha⟩
 ·rw[if_pos hj]at hm;exact .yes hm hr
 ·have hj:j<fs.length:=(zZ.1 q1).1;rw[if_neg (by omega)]at hm;refine⟨.zero,false,hm,by simp,fun _ q' hq' lv=>?_⟩;rw[hr]at hq';injection hq' with hq';subst hq';by_cases hne:(proj zs x).wd ws lv=0
  ·exact hne
  ·have hok:=hq lv hne f q2;unfold Ex.subst at q3;rw[if_pos (by simp only[zU];exact⟨List.all_eq_true.1 h3 f q2,g3,hok⟩)]at q3;simp at q3
theorem AO6 {ws:List Int} (hw:jI ws=true) {p:Pn} (hp:p.wd ws 8≠0):gL 115 ws 6 p:=by
 by_cases hk:p.kind=4
 ·obtain⟨e,x,y,hx⟩:=gQ (kG hp) (.inl hk);rw[hk]at hx;subst hx;exact ACA hw hp
 ·refine .no ?_ ?_
  ·rw[aD rfl Tryz.func115 rfl rfl];simp only[aR,Pn.aA p];simp[hk]
  ·unfold rwP;split
   ·unfold rwF;simp
   ·simp[hk]
theorem AKQ {ws:List Int} (hw:jI ws=true) {p:Pn} (hp:p.wd ws 8≠0):gL 120 ws 11 p:=by
 by_cases hk:p.kind=3
 ·obtain⟨fs,a,rfl⟩:=lW (kG hp) hk;by_cases hk2:a.kind=3
  ·obtain⟨V,hV,_⟩:=sP (kG hp);obtain⟨es,x,rfl⟩:=lW hV hk2;exact XL hw hp
  ·refine .no ?_ (by simp[rwP,Pn.gJ,proj,hk2]);rw[aD rfl Tryz.func120 rfl rfl];simp only[gT,aR,Pn.aA a];simp[hk2]
 ·refine .no ?_ ?_
  ·rw[aD rfl Tryz.func120 rfl rfl];simp only[aR,Pn.aA p];simp[hk]
  ·unfold rwP;split
   ·unfold rwF;simp
   ·simp[hk]
end Go.Proofs.YtjdfjgmebalaaaaGreat.P

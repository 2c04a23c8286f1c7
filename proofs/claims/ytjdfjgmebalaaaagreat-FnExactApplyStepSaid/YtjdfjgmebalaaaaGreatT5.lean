/- Part 5 of what the proof rests on: the executor and what it is worth, and the program's functions as it runs them. No condition. -/
import Derived.Test.YtjdfjgmebalaaaaGreatT4
set_option linter.unusedVariables false
set_option linter.unusedSimpArgs false
namespace Go.Proofs.YtjdfjgmebalaaaaGreat.P
open Go Go.Av
set_option maxRecDepth 4000
theorem rF (n:Int):n=1∨n=2∨n=3∨n=4∨n=5∨n=6∨n=7∨n=8∨(n≠1∧n≠2∧n≠3∧n≠4∧n≠5∧n≠6∧n≠7∧n≠8):=by omega
@[simp] theorem AED (n:Int):aI C0 146 [.int n] []=some (.tup [.int (eF n), .int (jF n)],[]):=by
  rw[aD rfl Tryz.func146 rfl rfl]
  rcases rF n with rfl|rfl|rfl|rfl|rfl|rfl|rfl|rfl|⟨h1,h2,h3,h4,h5,h6,h7,h8⟩
  all_goals first
   | (simp[eF,jF];done)
   | (have e1:eF n=0:=by unfold eF;rw[if_neg (by omega)]
      have e2:jF n=-1:=by unfold jF;rw[if_neg (by omega),if_neg (by omega),if_neg (by omega)]
      simp[e1,e2,h1,h2,h3,h4,h5,h6,h7,h8])
def pv (cs:List Int) (i:Nat):Int:=((-1)::cs)[i]?.getD 0
theorem ABE {cs:List Int} {i:Nat} {c:Int} (h:cs[i]?=some c):pv cs (i+1)=c:=by simp[pv,h]
theorem AO {cs:List Int} {i:Nat} {x:Int×Int} (h:(cs.zip (-1::cs))[i]?=some x):cs[i]?=some x.1∧pv cs i=x.2:=by
 rw[List.getElem?_zip_eq_some]at h;exact⟨h.1,by simp[pv,h.2]⟩
theorem WM (cs:List Int):(cs.zip (-1::cs)).length=cs.length:=by simp
def GX (cs:List Int) (w:Int) (i:Nat):AS :=
 { env:=[(0, .i (.isl (aF cs))),(1, .int w),(4, .bool false),(5, .int (pv cs i)),(7,jk i (.int (pv cs i))),(10, .bool false),(11, .i (.isl (aF cs))),(12, .int cs.length),(13, .int i),(14,jk i (.bool true)),(24,jk i (.bool false))],st:=[] }
theorem tO (cs:List Int) (w:Int):aI C0 174 [.i (.isl (aF cs)), .int w] []=some (.bool (decide (cs.length<6) && qR w cs),[]):=by
 rw[aD rfl Tryz.func174 rfl rfl];by_cases h6:cs.length<6
 case neg=>simp[h6,show(6:Int)≤cs.length by omega]
 simp[h6,show ¬ (6:Int)≤cs.length by omega];obtain⟨j,h1,h2⟩:=iB (fun x:Int×Int=>decide (x.2<x.1∧x.1<w)) (cs.zip (-1::cs));rw[aU (GX cs w) j (by simp[GX,pv])]
 ·rw[aH]
  rcases h2 with ⟨hj,ha⟩|⟨x,h3,_,h4,ha⟩
  ·rw[WM]at hj;have ha:qR w cs=true:=ha;simp[GX,hj,ha]
  ·obtain⟨c1,c2⟩:=AO h3;have r1:=(zZ.1 c1).1;have r2:=bD c1;have hb:¬ (x.2<x.1∧x.1<w):=by simpa using h4
   have ha:qR w cs=false:=ha;by_cases hx:x.1≤x.2
   ·simp[GX,r1,r2,c2,hx,ha]
   ·simp[GX,r1,r2,c2,hx,ha,show w≤x.1 by omega]
 ·intro i hi;obtain⟨x,h3,_,h4⟩:=h1 i hi;obtain⟨c1,c2⟩:=AO h3;have r1:=(zZ.1 c1).1;have r2:=bD c1;have c3:=ABE c1;have hb:x.2<x.1∧x.1<w:=by simpa using h4
  have w2:IntKind.i64.wrap ((i:Int)+1)=i+1:=wrO;simp[GX,r1,r2,c2,c3,w2,show ¬ x.1≤x.2 by omega,show ¬ w≤x.1 by omega]
def WX (p:Pn) (a b y:Int) (x14:Bool) (n21 n22:Nat) (x22:Bool) (n26 n27:Nat) (x27:Bool) (i:Nat):AS :=
 { env:=[(0, .i (.iref [.int p.kind, .int p.table, .isl (Ex.aA p.exprs), .isl (aF p.cols), .isl (Pn.aA p.kids)])),(1, .int a),(2, .int b),(6, .int 0),(7, .int y),(8,jk i (.int (i-1))),(13, .int p.kind),(14, .bool x14),(21,jk n21 (.bool false)),(22,jk n22 (.bool x22)),(26,jk n26 (.bool false)),(27,jk n27 (.bool x27)),(35, .junk),(46, .int p.exprs.length),(47, .int i),(48,jk i (.bool true)),(59,jk i (.bool false)),(65, .junk)],st:=[] }
theorem gN (p:Pn) (a b:Int) (ha:0≤a∧a≤6) (hb:0≤b∧b≤6) (hd:p.headOk=true):aI C0 147 [.i (.iref p.cells), .int a, .int b] []=some (.int (bX p.kind p.exprs p.cols a b),[]):=by
 rw[aD rfl Tryz.func147 rfl rfl];have he:=Pn.rP hd;rw[Pn.aB];have hg:=tO p.cols a;have w1:IntKind.i64.wrap (a+b)=a+b:=wrO;by_cases h6:p.kind=6
 ·have h8:p.kind≠8:=by omega
  have h4:p.kind≠5:=by omega
  have hz:p.exprs=[]:=by
   simp only[Pn.headOk,zT,zN,h6]at hd;have:=hd.2.1;simp[eF]at this;exact this
  by_cases hab:a=b
  ·subst hab;simp[h6];rw[aH];simp[hz,h6,bX]
  ·simp[h6,hab,bX]
 by_cases h8:p.kind=8
 ·by_cases h9:p.cols.length<6
  ·have w3:IntKind.i64.wrap ((p.cols.length:Int)+1)=p.cols.length+1:=wrO
   cases hc:qR a p.cols<;>simp[h8,hg,h9,hc,bX,w3]
  ·simp[h8,hg,h9,bX]
 by_cases h45:p.kind=4∨p.kind=5
 ·by_cases hs:a+b≤6
  case neg=>rcases h45 with h4|h4<;>simp[h4,w1,show 6<a+b by omega,bX,hs]
  have h4:True:=trivial
  rcases h45 with h45|h45
  ·simp[h45,w1,show ¬ 6<a+b by omega];obtain⟨j,h1,h2⟩:=iB (Ex.ok (a+b)) p.exprs;rw[aU (WX p a b (a+b) true 1 0 false 0 0 false) j (by simp[WX,h45])]
   ·rw[aH]
    rcases h2 with ⟨hj,hall⟩|⟨x,h3,_,h5,hall⟩
    ·simp[WX,hj,hall,bX,h45,hs]
    ·have r1:=(zZ.1 h3).1;have r2:=Ex.aN h3;have r3:=ok_eq (a+b) x;rw[h5]at r3;rw[Ex.aB]at r2 r3;simp[WX,r1,r2,r3,hall,bX,h45,hs]
   ·intro i hi;obtain⟨x,h3,_,h5⟩:=h1 i hi;have r1:=(zZ.1 h3).1;have r2:=Ex.aN h3;have r3:=ok_eq (a+b) x;rw[h5]at r3;rw[Ex.aB]at r2 r3;have w2:IntKind.i64.wrap ((i:Int)+1)=i+1:=wrO;simp[WX,r1,r2,r3,w2,h45]
  ·simp[h45,w1,show ¬ 6<a+b by omega];obtain⟨j,h1,h2⟩:=iB (Ex.ok (a+b)) p.exprs;rw[aU (WX p a b (a+b) true 1 0 false 0 0 false) j (by simp[WX,h45])]
   ·rw[aH]
    rcases h2 with ⟨hj,hall⟩|⟨x,h3,_,h5,hall⟩
    ·simp[WX,hj,hall,bX,h45,hs]
    ·have r1:=(zZ.1 h3).1;have r2:=Ex.aN h3;have r3:=ok_eq (a+b) x;rw[h5]at r3;rw[Ex.aB]at r2 r3;simp[WX,r1,r2,r3,hall,bX,h45,hs]
   ·intro i hi;obtain⟨x,h3,_,h5⟩:=h1 i hi;have r1:=(zZ.1 h3).1;have r2:=Ex.aN h3;have r3:=ok_eq (a+b) x;rw[h5]at r3;rw[Ex.aB]at r2 r3;have w2:IntKind.i64.wrap ((i:Int)+1)=i+1:=wrO;simp[WX,r1,r2,r3,w2,h45]
 have h4:p.kind≠4:=by omega
 have h5':p.kind≠5:=by omega
 simp[h6,h8,h4,h5'];obtain⟨j,h1,h2⟩:=iB (Ex.ok (a)) p.exprs;rw[aU (WX p a b a false 0 1 false 0 1 false) j (by simp[WX,h6,h8,h5'])]
 ·rw[aH]
  rcases h2 with ⟨hj,hall⟩|⟨x,h3,_,h5,hall⟩
  ·by_cases h3':p.kind=3
   ·simp[WX,hj,hall,bX,h3']
   ·simp[WX,hj,hall,bX,h6,h8,h4,h5',h3']
  ·have r1:=(zZ.1 h3).1;have r2:=Ex.aN h3;have r3:=ok_eq (a) x;rw[h5]at r3;rw[Ex.aB]at r2 r3;by_cases h3':p.kind=3
   ·simp[WX,r1,r2,r3,hall,bX,h3']
   ·simp[WX,r1,r2,r3,hall,bX,h6,h8,h4,h5',h3']
 ·intro i hi;obtain⟨x,h3,_,h5⟩:=h1 i hi;have r1:=(zZ.1 h3).1;have r2:=Ex.aN h3;have r3:=ok_eq (a) x;rw[h5]at r3;rw[Ex.aB]at r2 r3;have w2:IntKind.i64.wrap ((i:Int)+1)=i+1:=wrO;simp[WX,r1,r2,r3,w2]
set_option maxHeartbeats 2000000
@[simp] theorem ATL:jF 1=0:=by decide
@[simp] theorem AS9:eF 1=0:=by decide
@[simp] theorem ATK:jF 2=1:=by decide
@[simp] theorem AS8:eF 2=1:=by decide
@[simp] theorem ATJ:jF 3=1:=by decide
@[simp] theorem AS7:eF 3=1:=by decide
@[simp] theorem ATI:jF 4=2:=by decide
@[simp] theorem AS6:eF 4=1:=by decide
@[simp] theorem ATH:jF 5=2:=by decide
@[simp] theorem AS5:eF 5=1:=by decide
@[simp] theorem ATG:jF 6=2:=by decide
@[simp] theorem AS4:eF 6=0:=by decide
@[simp] theorem ATF:jF 7=1:=by decide
@[simp] theorem AS3:eF 7=0:=by decide
@[simp] theorem ATE:jF 8=1:=by decide
@[simp] theorem AS2:eF 8=0:=by decide
theorem VG {k:Int} (h:k≠1∧k≠2∧k≠3∧k≠4∧k≠5∧k≠6∧k≠7∧k≠8):jF k=-1:=by
 unfold jF;rw[if_neg (by omega),if_neg (by omega),if_neg (by omega)]
theorem UC {ws:List Int} {t:Int} {es:List Ex} {cs:List Int} {ks:List Pn} {lv:Nat} {k:Int} (h:k≠1∧k≠2∧k≠3∧k≠4∧k≠5∧k≠6∧k≠7∧k≠8):aI C0 109 [.i (.iref [.int k, .int t, .isl (Ex.aA es), .isl (aF cs), .isl (Pn.aA ks)]), .i (.isl (aF ws)), .int lv] []=some (.int 0,[]):=by
 rw[aD rfl Tryz.func109 rfl rfl];have c1:¬ (ks.length:Int)=-1:=by omega
 have hn:=VG h;simp[h.2.2.1,hn,c1]
theorem ADT {ws:List Int} {t:Int} {es:List Ex} {cs:List Int} {ks:List Pn} {lv:Nat} (h:¬ ((ks.length:Int)=0∧(es.length:Int)=0∧True∧cs=[])):aI C0 109 [.i (.iref [.int 1, .int t, .isl (Ex.aA es), .isl (aF cs), .isl (Pn.aA ks)]), .i (.isl (aF ws)), .int lv] []=some (.int 0,[]):=by
 rw[aD rfl Tryz.func109 rfl rfl];by_cases c1:(ks.length:Int)=0
 case neg=>simp at c1;simp[c1]
 by_cases c2:(es.length:Int)=0
 case neg=>simp at c2;simp[c1,c2]
 by_cases c5:cs=[]
 case neg=>simp[c1,c2,c5]
 exact absurd (by simp[c1,c2,c5]) h
theorem ADS {ws:List Int} {t:Int} {es:List Ex} {cs:List Int} {ks:List Pn} {lv:Nat} (h:¬ ((ks.length:Int)=1∧(es.length:Int)=1∧lv≠0∧t=0∧cs=[])):aI C0 109 [.i (.iref [.int 2, .int t, .isl (Ex.aA es), .isl (aF cs), .isl (Pn.aA ks)]), .i (.isl (aF ws)), .int lv] []=some (.int 0,[]):=by
 rw[aD rfl Tryz.func109 rfl rfl];by_cases c1:(ks.length:Int)=1
 case neg=>simp[c1]
 by_cases c2:(es.length:Int)=1
 case neg=>simp[c1,c2]
 by_cases c3:lv=0
 case pos=>subst c3;simp[c1,c2]
 have c3':¬ (lv:Int)=0:=by omega
 by_cases c4:t=0
 case neg=>simp[c1,c2,c3,c3',c4]
 by_cases c5:cs=[]
 case neg=>simp[c1,c2,c3,c3',c4,c5]
 exact absurd (by simp[c1,c2,c3,c3',c4,c5]) h
theorem ADR {ws:List Int} {t:Int} {es:List Ex} {cs:List Int} {ks:List Pn} {lv:Nat} (h:¬ ((ks.length:Int)=1∧(es.length:Int)=(if bL es.length=true then(es.length:Int)else 1)∧lv≠0∧t=0∧cs=[])):aI C0 109 [.i (.iref [.int 3, .int t, .isl (Ex.aA es), .isl (aF cs), .isl (Pn.aA ks)]), .i (.isl (aF ws)), .int lv] []=some (.int 0,[]):=by
 rw[aD rfl Tryz.func109 rfl rfl]
 cases hv:bL es.length
 ·have hq:(es.length:Int)≠1:=fun hq=>by rw[hq]at hv;simp[bL]at hv
  by_cases c1:(ks.length:Int)=1
  case neg=>simp[hv,c1]
  simp[hv,c1,hq]
 by_cases c1:(ks.length:Int)=1
 case neg=>simp[hv,c1]
 by_cases c3:lv=0
 case pos=>subst c3;simp[hv,c1]
 have c3':¬ (lv:Int)=0:=by omega
 by_cases c4:t=0
 case neg=>simp[hv,c1,c3,c3',c4]
 by_cases c5:cs=[]
 case neg=>simp[hv,c1,c3,c3',c4,c5]
 exact absurd (by simp[hv,c1,c3,c4,c5]) h
theorem ADQ {ws:List Int} {t:Int} {es:List Ex} {cs:List Int} {ks:List Pn} {lv:Nat} (h:¬ ((ks.length:Int)=2∧(es.length:Int)=1∧lv≠0∧t=0∧cs=[])):aI C0 109 [.i (.iref [.int 4, .int t, .isl (Ex.aA es), .isl (aF cs), .isl (Pn.aA ks)]), .i (.isl (aF ws)), .int lv] []=some (.int 0,[]):=by
 rw[aD rfl Tryz.func109 rfl rfl];by_cases c1:(ks.length:Int)=2
 case neg=>simp[c1]
 by_cases c2:(es.length:Int)=1
 case neg=>simp[c1,c2]
 by_cases c3:lv=0
 case pos=>subst c3;simp[c1,c2]
 have c3':¬ (lv:Int)=0:=by omega
 by_cases c4:t=0
 case neg=>simp[c1,c2,c3,c3',c4]
 by_cases c5:cs=[]
 case neg=>simp[c1,c2,c3,c3',c4,c5]
 exact absurd (by simp[c1,c2,c3,c3',c4,c5]) h
theorem ADO {ws:List Int} {t:Int} {es:List Ex} {cs:List Int} {ks:List Pn} {lv:Nat} (h:¬ ((ks.length:Int)=2∧(es.length:Int)=1∧lv≠0∧t=0∧cs=[])):aI C0 109 [.i (.iref [.int 5, .int t, .isl (Ex.aA es), .isl (aF cs), .isl (Pn.aA ks)]), .i (.isl (aF ws)), .int lv] []=some (.int 0,[]):=by
 rw[aD rfl Tryz.func109 rfl rfl];by_cases c1:(ks.length:Int)=2
 case neg=>simp[c1]
 by_cases c2:(es.length:Int)=1
 case neg=>simp[c1,c2]
 by_cases c3:lv=0
 case pos=>subst c3;simp[c1,c2]
 have c3':¬ (lv:Int)=0:=by omega
 by_cases c4:t=0
 case neg=>simp[c1,c2,c3,c3',c4]
 by_cases c5:cs=[]
 case neg=>simp[c1,c2,c3,c3',c4,c5]
 exact absurd (by simp[c1,c2,c3,c3',c4,c5]) h
theorem ADN {ws:List Int} {t:Int} {es:List Ex} {cs:List Int} {ks:List Pn} {lv:Nat} (h:¬ ((ks.length:Int)=2∧(es.length:Int)=0∧lv≠0∧t=0∧cs=[])):aI C0 109 [.i (.iref [.int 6, .int t, .isl (Ex.aA es), .isl (aF cs), .isl (Pn.aA ks)]), .i (.isl (aF ws)), .int lv] []=some (.int 0,[]):=by
 rw[aD rfl Tryz.func109 rfl rfl];by_cases c1:(ks.length:Int)=2
 case neg=>simp[c1]
 by_cases c2:(es.length:Int)=0
 case neg=>simp at c2;simp[c1,c2]
 by_cases c3:lv=0
 case pos=>subst c3;simp[c1,c2]
 have c3':¬ (lv:Int)=0:=by omega
 by_cases c4:t=0
 case neg=>simp[c1,c2,c3,c3',c4]
 by_cases c5:cs=[]
 case neg=>simp[c1,c2,c3,c3',c4,c5]
 exact absurd (by simp[c1,c2,c3,c3',c4,c5]) h
theorem ADM {ws:List Int} {t:Int} {es:List Ex} {cs:List Int} {ks:List Pn} {lv:Nat} (h:¬ ((ks.length:Int)=1∧(es.length:Int)=0∧lv≠0∧t=0∧cs=[])):aI C0 109 [.i (.iref [.int 7, .int t, .isl (Ex.aA es), .isl (aF cs), .isl (Pn.aA ks)]), .i (.isl (aF ws)), .int lv] []=some (.int 0,[]):=by
 rw[aD rfl Tryz.func109 rfl rfl];by_cases c1:(ks.length:Int)=1
 case neg=>simp[c1]
 by_cases c2:(es.length:Int)=0
 case neg=>simp at c2;simp[c1,c2]
 by_cases c3:lv=0
 case pos=>subst c3;simp[c1,c2]
 have c3':¬ (lv:Int)=0:=by omega
 by_cases c4:t=0
 case neg=>simp[c1,c2,c3,c3',c4]
 by_cases c5:cs=[]
 case neg=>simp[c1,c2,c3,c3',c4,c5]
 exact absurd (by simp[c1,c2,c3,c3',c4,c5]) h
theorem ADL {ws:List Int} {t:Int} {es:List Ex} {cs:List Int} {ks:List Pn} {lv:Nat} (h:¬ ((ks.length:Int)=1∧(es.length:Int)=0∧lv≠0∧t=0)):aI C0 109 [.i (.iref [.int 8, .int t, .isl (Ex.aA es), .isl (aF cs), .isl (Pn.aA ks)]), .i (.isl (aF ws)), .int lv] []=some (.int 0,[]):=by
 rw[aD rfl Tryz.func109 rfl rfl];by_cases c1:(ks.length:Int)=1
 case neg=>simp[c1]
 by_cases c2:(es.length:Int)=0
 case neg=>simp at c2;simp[c1,c2]
 by_cases c3:lv=0
 case pos=>subst c3;simp[c1,c2]
 have c3':¬ (lv:Int)=0:=by omega
 by_cases c4:t=0
 case neg=>simp[c1,c2,c3,c3',c4]
 exact absurd (by simp[c1,c2,c3,c3',c4]) h
theorem ZH {ws:List Int} {t:Int} {lv:Nat}:aI C0 109 [.i (.iref [.int 1, .int t, .isl (Ex.aA []), .isl (aF []), .isl (Pn.aA [])]), .i (.isl (aF ws)), .int lv] []=some (.int (if 0≤t then(ws[t.toNat]?).getD 0 else 0),[]):=by
 rw[aD rfl Tryz.func109 rfl rfl];by_cases h0:0≤t
 case neg=>simp[Ex.aA,Pn.aA,aF,h0,show t<0 by omega]
 cases hx:ws[t.toNat]? with
 | none =>
  have:=zA4.1 hx;simp[Ex.aA,Pn.aA,aF,h0,show ¬ t<0 by omega,show(ws.length:Int)≤t by omega]
 | some x =>
  have r1:=(zZ.1 hx).1;have r2:=bD hx;simp[Ex.aA,Pn.aA,aF,h0,show ¬ t<0 by omega,show ¬ (ws.length:Int)≤t by omega,r2,show t<ws.length by omega]
theorem ZG {ws:List Int} {es:List Ex} {a:Pn} {lv:Nat} {va:Int} (hl:lv≠0) (hl8:lv≤8) (hd:Pn.headOk (Pn.mk 2 0 es [] [a])=true) (ha:aI C0 109 [.i (.iref a.cells), .i (.isl (aF ws)), .int (lv-1:Nat)] []=some (.int va,[])) (ra:0≤va∧va≤6):aI C0 109 [.i (.iref [.int 2, .int 0, .isl (Ex.aA es), .isl (aF []), .isl (Pn.aA [a])]), .i (.isl (aF ws)), .int lv] []=some (.int (if va=0 then 0 else bX 2 es [] va 0),[]):=by
 rw[aD rfl Tryz.func109 rfl rfl];have c3':¬ (lv:Int)=0:=by omega
 have w1:IntKind.i64.wrap ((lv:Int)-1)=(lv-1:Nat):=by rw[wrO];omega
 have r0:fO [a.cells] 0=some a.cells:=rfl;have hov:=gN (Pn.mk 2 0 es [] [a]) va 0 ra (by omega) hd;rw[Pn.dO]at hov;simp only[Pn.dX,Pn.bR,Pn.eB,Pn.aA,aF,Ex.aA]at hov;rw[Pn.aB a]at ha hov r0
 have c2:(es.length:Int)=1:=by
  simp only[Pn.headOk,zT,zN,Pn.bR,Pn.dX]at hd;simpa using hd.2.1
 simp[c2,hl,c3',Pn.aA,aF,Ex.aA];rw[Pn.aB a];rw[aH];by_cases z1:va=0
 case pos=>simp[w1,ha,r0,z1]
 simp[w1,ha,r0,z1,dH];rw[aH];simp[hov,z1]
theorem ZF {ws:List Int} {es:List Ex} {a:Pn} {lv:Nat} {va:Int} (hl:lv≠0) (hl8:lv≤8) (hd:Pn.headOk (Pn.mk 3 0 es [] [a])=true) (ha:aI C0 109 [.i (.iref a.cells), .i (.isl (aF ws)), .int (lv-1:Nat)] []=some (.int va,[])) (ra:0≤va∧va≤6):aI C0 109 [.i (.iref [.int 3, .int 0, .isl (Ex.aA es), .isl (aF []), .isl (Pn.aA [a])]), .i (.isl (aF ws)), .int lv] []=some (.int (if va=0 then 0 else bX 3 es [] va 0),[]):=by
 rw[aD rfl Tryz.func109 rfl rfl];have c3':¬ (lv:Int)=0:=by omega
 have w1:IntKind.i64.wrap ((lv:Int)-1)=(lv-1:Nat):=by rw[wrO];omega
 have r0:fO [a.cells] 0=some a.cells:=rfl;have hov:=gN (Pn.mk 3 0 es [] [a]) va 0 ra (by omega) hd;rw[Pn.dO]at hov;simp only[Pn.dX,Pn.bR,Pn.eB,Pn.aA,aF,Ex.aA]at hov;rw[Pn.aB a]at ha hov r0
 have hv:bL es.length=true∨(es.length:Int)=1:=by
  simp only[Pn.headOk,zT,zN,Pn.bR,Pn.dX]at hd;have:=hd.2.1;split at this
  ·rename_i h;exact .inl h.2
  ·exact .inr (by simpa using this)
 have hv:bL es.length=true:=by
  rcases hv with h|h
  ·exact h
  ·rw[h];decide
 simp[hv,hl,c3',Pn.aA,aF,Ex.aA];rw[Pn.aB a];rw[aH];by_cases z1:va=0
 case pos=>simp[w1,ha,r0,z1]
 simp[w1,ha,r0,z1,dH];rw[aH];simp[hov,z1]
theorem ZE {ws:List Int} {es:List Ex} {a b:Pn} {lv:Nat} {va vb:Int} (hl:lv≠0) (hl8:lv≤8) (hd:Pn.headOk (Pn.mk 4 0 es [] [a,b])=true) (ha:aI C0 109 [.i (.iref a.cells), .i (.isl (aF ws)), .int (lv-1:Nat)] []=some (.int va,[])) (ra:0≤va∧va≤6) (hb:aI C0 109 [.i (.iref b.cells), .i (.isl (aF ws)), .int (lv-1:Nat)] []=some (.int vb,[])) (rb:0≤vb∧vb≤6):aI C0 109 [.i (.iref [.int 4, .int 0, .isl (Ex.aA es), .isl (aF []), .isl (Pn.aA [a,b])]), .i (.isl (aF ws)), .int lv] []=some (.int (if va=0∨vb=0 then 0 else bX 4 es [] va vb),[]):=by
 rw[aD rfl Tryz.func109 rfl rfl];have c3':¬ (lv:Int)=0:=by omega
 have w1:IntKind.i64.wrap ((lv:Int)-1)=(lv-1:Nat):=by rw[wrO];omega
 have r0:fO [a.cells,b.cells] 0=some a.cells:=rfl;have r1:fO [a.cells,b.cells] 1=some b.cells:=rfl;have hov:=gN (Pn.mk 4 0 es [] [a,b]) va vb ra rb hd;rw[Pn.dO]at hov;simp only[Pn.dX,Pn.bR,Pn.eB,Pn.aA,aF,Ex.aA]at hov;rw[Pn.aB a]at ha hov r0 r1;rw[Pn.aB b]at hb hov r0 r1
 have c2:(es.length:Int)=1:=by
  simp only[Pn.headOk,zT,zN,Pn.bR,Pn.dX]at hd;simpa using hd.2.1
 simp[c2,hl,c3',Pn.aA,aF,Ex.aA];rw[Pn.aB a,Pn.aB b];rw[aH];by_cases z1:va=0
 case pos=>simp[w1,ha,r0,z1]
 simp[w1,ha,r0,z1,dH];rw[aH];by_cases z2:vb=0
 case pos=>simp[w1,hb,r1,z2]
 simp[w1,hb,r1,z1,z2,wrap64 (x:=2) (by omega) (by omega)];rw[aH];simp[hov,z1,z2]
theorem ZC {ws:List Int} {es:List Ex} {a b:Pn} {lv:Nat} {va vb:Int} (hl:lv≠0) (hl8:lv≤8) (hd:Pn.headOk (Pn.mk 5 0 es [] [a,b])=true) (ha:aI C0 109 [.i (.iref a.cells), .i (.isl (aF ws)), .int (lv-1:Nat)] []=some (.int va,[])) (ra:0≤va∧va≤6) (hb:aI C0 109 [.i (.iref b.cells), .i (.isl (aF ws)), .int (lv-1:Nat)] []=some (.int vb,[])) (rb:0≤vb∧vb≤6):aI C0 109 [.i (.iref [.int 5, .int 0, .isl (Ex.aA es), .isl (aF []), .isl (Pn.aA [a,b])]), .i (.isl (aF ws)), .int lv] []=some (.int (if va=0∨vb=0 then 0 else bX 5 es [] va vb),[]):=by
 rw[aD rfl Tryz.func109 rfl rfl];have c3':¬ (lv:Int)=0:=by omega
 have w1:IntKind.i64.wrap ((lv:Int)-1)=(lv-1:Nat):=by rw[wrO];omega
 have r0:fO [a.cells,b.cells] 0=some a.cells:=rfl;have r1:fO [a.cells,b.cells] 1=some b.cells:=rfl;have hov:=gN (Pn.mk 5 0 es [] [a,b]) va vb ra rb hd;rw[Pn.dO]at hov;simp only[Pn.dX,Pn.bR,Pn.eB,Pn.aA,aF,Ex.aA]at hov;rw[Pn.aB a]at ha hov r0 r1;rw[Pn.aB b]at hb hov r0 r1
 have c2:(es.length:Int)=1:=by
  simp only[Pn.headOk,zT,zN,Pn.bR,Pn.dX]at hd;simpa using hd.2.1
 simp[c2,hl,c3',Pn.aA,aF,Ex.aA];rw[Pn.aB a,Pn.aB b];rw[aH];by_cases z1:va=0
 case pos=>simp[w1,ha,r0,z1]
 simp[w1,ha,r0,z1,dH];rw[aH];by_cases z2:vb=0
 case pos=>simp[w1,hb,r1,z2]
 simp[w1,hb,r1,z1,z2,wrap64 (x:=2) (by omega) (by omega)];rw[aH];simp[hov,z1,z2]
theorem ZB {ws:List Int} {a b:Pn} {lv:Nat} {va vb:Int} (hl:lv≠0) (hl8:lv≤8) (hd:Pn.headOk (Pn.mk 6 0 [] [] [a,b])=true) (ha:aI C0 109 [.i (.iref a.cells), .i (.isl (aF ws)), .int (lv-1:Nat)] []=some (.int va,[])) (ra:0≤va∧va≤6) (hb:aI C0 109 [.i (.iref b.cells), .i (.isl (aF ws)), .int (lv-1:Nat)] []=some (.int vb,[])) (rb:0≤vb∧vb≤6):aI C0 109 [.i (.iref [.int 6, .int 0, .isl (Ex.aA []), .isl (aF []), .isl (Pn.aA [a,b])]), .i (.isl (aF ws)), .int lv] []=some (.int (if va=0∨vb=0 then 0 else bX 6 [] [] va vb),[]):=by
 rw[aD rfl Tryz.func109 rfl rfl];have c3':¬ (lv:Int)=0:=by omega
 have w1:IntKind.i64.wrap ((lv:Int)-1)=(lv-1:Nat):=by rw[wrO];omega
 have r0:fO [a.cells,b.cells] 0=some a.cells:=rfl;have r1:fO [a.cells,b.cells] 1=some b.cells:=rfl;have hov:=gN (Pn.mk 6 0 [] [] [a,b]) va vb ra rb hd;rw[Pn.dO]at hov;simp only[Pn.dX,Pn.bR,Pn.eB,Pn.aA,aF,Ex.aA]at hov;rw[Pn.aB a]at ha hov r0 r1;rw[Pn.aB b]at hb hov r0 r1;simp[hl,c3',Pn.aA,aF,Ex.aA];rw[Pn.aB a,Pn.aB b];rw[aH];by_cases z1:va=0
 case pos=>simp[w1,ha,r0,z1]
 simp[w1,ha,r0,z1,dH];rw[aH];by_cases z2:vb=0
 case pos=>simp[w1,hb,r1,z2]
 simp[w1,hb,r1,z1,z2,wrap64 (x:=2) (by omega) (by omega)];rw[aH];simp[hov,z1,z2]
theorem ZA {ws:List Int} {a:Pn} {lv:Nat} {va:Int} (hl:lv≠0) (hl8:lv≤8) (hd:Pn.headOk (Pn.mk 7 0 [] [] [a])=true) (ha:aI C0 109 [.i (.iref a.cells), .i (.isl (aF ws)), .int (lv-1:Nat)] []=some (.int va,[])) (ra:0≤va∧va≤6):aI C0 109 [.i (.iref [.int 7, .int 0, .isl (Ex.aA []), .isl (aF []), .isl (Pn.aA [a])]), .i (.isl (aF ws)), .int lv] []=some (.int (if va=0 then 0 else bX 7 [] [] va 0),[]):=by
 rw[aD rfl Tryz.func109 rfl rfl];have c3':¬ (lv:Int)=0:=by omega
 have w1:IntKind.i64.wrap ((lv:Int)-1)=(lv-1:Nat):=by rw[wrO];omega
 have r0:fO [a.cells] 0=some a.cells:=rfl;have hov:=gN (Pn.mk 7 0 [] [] [a]) va 0 ra (by omega) hd;rw[Pn.dO]at hov;simp only[Pn.dX,Pn.bR,Pn.eB,Pn.aA,aF,Ex.aA]at hov;rw[Pn.aB a]at ha hov r0;simp[hl,c3',Pn.aA,aF,Ex.aA];rw[Pn.aB a];rw[aH];by_cases z1:va=0
 case pos=>simp[w1,ha,r0,z1]
 simp[w1,ha,r0,z1,dH];rw[aH];simp[hov,z1]
theorem Z9 {ws:List Int} {cs:List Int} {a:Pn} {lv:Nat} {va:Int} (hl:lv≠0) (hl8:lv≤8) (hd:Pn.headOk (Pn.mk 8 0 [] cs [a])=true) (ha:aI C0 109 [.i (.iref a.cells), .i (.isl (aF ws)), .int (lv-1:Nat)] []=some (.int va,[])) (ra:0≤va∧va≤6):aI C0 109 [.i (.iref [.int 8, .int 0, .isl (Ex.aA []), .isl (aF cs), .isl (Pn.aA [a])]), .i (.isl (aF ws)), .int lv] []=some (.int (if va=0 then 0 else bX 8 [] cs va 0),[]):=by
 rw[aD rfl Tryz.func109 rfl rfl];have c3':¬ (lv:Int)=0:=by omega
 have w1:IntKind.i64.wrap ((lv:Int)-1)=(lv-1:Nat):=by rw[wrO];omega
 have r0:fO [a.cells] 0=some a.cells:=rfl;have hov:=gN (Pn.mk 8 0 [] cs [a]) va 0 ra (by omega) hd;rw[Pn.dO]at hov;simp only[Pn.dX,Pn.bR,Pn.eB,Pn.aA,aF,Ex.aA]at hov;rw[Pn.aB a]at ha hov r0;simp[hl,c3',Pn.aA,aF,Ex.aA];rw[Pn.aB a];rw[aH];by_cases z1:va=0
 case pos=>simp[w1,ha,r0,z1]
 simp[w1,ha,r0,z1,dH];rw[aH];simp[hov,z1]
theorem mD (k t:Int) (es:List Ex) (cs:List Int) (ks:List Pn):Pn.headOk (.mk k t es cs ks)=true↔((ks.length:Int)=jF k∧(es.length:Int)=(if k=3∧bL es.length=true then(es.length:Int)else eF k)∧(k=1∨t=0)∧(k=8∨cs=[])):=by
 unfold Pn.headOk;simp only[zT,zD3,zN];exact Iff.rfl
theorem lD {α:Type} {l:List α} (h:(l.length:Int)=1):∃ a,l=[a]:=List.length_eq_one_iff.1 (by omega)
theorem BS {α:Type} {l:List α} (h:(l.length:Int)=2):∃ a b,l=[a,b]:=by
 match l,h with
 | [a,b],_=>exact⟨a,b,rfl⟩
 | [],h=>simp at h
 | [_],h=>simp at h
 | _::_::_::_,h=>simp at h;omega
theorem gK {α:Type} {l:List α} (h:(l.length:Int)=0):l=[]:=zW.1 (by omega)
theorem vW {ws:List Int} (hw:∀ w∈ws,0≤w∧w≤6):∀ (p:Pn) (lv:Nat),lv≤8→aI C0 109 [.i (.iref p.cells), .i (.isl (aF ws)), .int lv] []=some (.int (p.wd ws lv),[]):=by
 intro p
 induction p using Pn.ind with
 | h k t es cs ks ih =>
  intro lv hlv;rw[Pn.dO];by_cases hh:Pn.headOk (.mk k t es cs ks)=true∧(ks=[]∨lv≠0)
  case neg =>
   rw[Pn.X8 hh];rw[mD]at hh
   rcases rF k with rfl|rfl|rfl|rfl|rfl|rfl|rfl|rfl|h
   ·refine ADT fun h=>hh ?_
    have:=gK h.1;simp[h.2.1,h.2.2.2,this]
   ·exact ADS fun h=>hh (by simp[h.1,h.2.1,h.2.2.1,h.2.2.2.1,h.2.2.2.2])
   ·exact ADR fun h=>hh (by refine⟨⟨by simp[h.1],by simpa using h.2.1,by simp[h.2.2.2.1],by simp[h.2.2.2.2]⟩, .inr h.2.2.1⟩)
   ·exact ADQ fun h=>hh (by simp[h.1,h.2.1,h.2.2.1,h.2.2.2.1,h.2.2.2.2])
   ·exact ADO fun h=>hh (by simp[h.1,h.2.1,h.2.2.1,h.2.2.2.1,h.2.2.2.2])
   ·exact ADN fun h=>hh (by simp[h.1,gK h.2.1,h.2.2.1,h.2.2.2.1,h.2.2.2.2])
   ·exact ADM fun h=>hh (by simp[h.1,gK h.2.1,h.2.2.1,h.2.2.2.1,h.2.2.2.2])
   ·exact ADL fun h=>hh (by simp[h.1,gK h.2.1,h.2.2.1,h.2.2.2])
   ·exact UC h
  have hd:=hh.1;have hx:=Pn.vY ws lv (.mk k t es cs ks);rw[if_pos (by simpa using hh)]at hx;simp only[Pn.dX,Pn.iF,Pn.bR,Pn.eB,Pn.gI]at hx;rw[hx];rw[mD]at hh;obtain⟨⟨h1,h2,h3,h4⟩,h5⟩:=hh;have hr:=fun a=>Pn.sK hw a (lv-1)
  rcases rF k with rfl|rfl|rfl|rfl|rfl|rfl|rfl|rfl|h
  ·obtain rfl:=gK (by simpa using h1);obtain rfl:es=[]:=gK (by simpa using h2);obtain rfl:cs=[]:=by simpa using h4
   exact ZH
  ·obtain⟨a,rfl⟩:=lD (by simpa using h1);obtain rfl:cs=[]:=by simpa using h4
   obtain rfl:t=0:=by simpa using h3
   have hl:lv≠0:=by simpa using h5
   rw[ZG hl hlv hd (ih a (by simp) (lv-1) (by omega)) (hr a)];by_cases z:a.wd ws (lv-1)=0<;>simp[z]
  ·obtain⟨a,rfl⟩:=lD (by simpa using h1);obtain rfl:cs=[]:=by simpa using h4
   obtain rfl:t=0:=by simpa using h3
   have hl:lv≠0:=by simpa using h5
   rw[ZF hl hlv hd (ih a (by simp) (lv-1) (by omega)) (hr a)];by_cases z:a.wd ws (lv-1)=0<;>simp[z]
  ·obtain⟨a,b,rfl⟩:=BS (by simpa using h1);obtain rfl:cs=[]:=by simpa using h4
   obtain rfl:t=0:=by simpa using h3
   have hl:lv≠0:=by simpa using h5
   rw[ZE hl hlv hd (ih a (by simp) (lv-1) (by omega)) (hr a) (ih b (by simp) (lv-1) (by omega)) (hr b)];by_cases z:a.wd ws (lv-1)=0<;>by_cases z2:b.wd ws (lv-1)=0<;>simp[z,z2]
  ·obtain⟨a,b,rfl⟩:=BS (by simpa using h1);obtain rfl:cs=[]:=by simpa using h4
   obtain rfl:t=0:=by simpa using h3
   have hl:lv≠0:=by simpa using h5
   rw[ZC hl hlv hd (ih a (by simp) (lv-1) (by omega)) (hr a) (ih b (by simp) (lv-1) (by omega)) (hr b)];by_cases z:a.wd ws (lv-1)=0<;>by_cases z2:b.wd ws (lv-1)=0<;>simp[z,z2]
  ·obtain⟨a,b,rfl⟩:=BS (by simpa using h1);obtain rfl:es=[]:=gK (by simpa using h2);obtain rfl:cs=[]:=by simpa using h4
   obtain rfl:t=0:=by simpa using h3
   have hl:lv≠0:=by simpa using h5
   rw[ZB hl hlv hd (ih a (by simp) (lv-1) (by omega)) (hr a) (ih b (by simp) (lv-1) (by omega)) (hr b)];by_cases z:a.wd ws (lv-1)=0<;>by_cases z2:b.wd ws (lv-1)=0<;>simp[z,z2]
  ·obtain⟨a,rfl⟩:=lD (by simpa using h1);obtain rfl:es=[]:=gK (by simpa using h2);obtain rfl:cs=[]:=by simpa using h4
   obtain rfl:t=0:=by simpa using h3
   have hl:lv≠0:=by simpa using h5
   rw[ZA hl hlv hd (ih a (by simp) (lv-1) (by omega)) (hr a)];by_cases z:a.wd ws (lv-1)=0<;>simp[z]
  ·obtain⟨a,rfl⟩:=lD (by simpa using h1);obtain rfl:es=[]:=gK (by simpa using h2);obtain rfl:t=0:=by simpa using h3
   have hl:lv≠0:=by simpa using h5
   rw[Z9 hl hlv hd (ih a (by simp) (lv-1) (by omega)) (hr a)];by_cases z:a.wd ws (lv-1)=0<;>simp[z]
  ·exact absurd h1 (by rw[VG h];omega)
def VX (ws:List Int) (i:Nat):AS :=
 { env:=[(0, .i (.isl (aF ws))),(2, .bool false),(4,jk i (.int (ws[i-1]?.getD 0))),(12, .bool false),(13, .i (.isl (aF ws))),(14, .int ws.length),(15, .int i),(16,jk i (.bool true)),(21,jk i (.bool false))],st:=[] }
theorem JP (ws:List Int):aI C0 108 [.i (.isl (aF ws))] []=some (.bool (lH ws),[]):=by
 rw[aD rfl Tryz.func108 rfl rfl];by_cases h1:ws.length=0
 ·have:=zW.1 h1;subst this;simp[aF,lH]
 by_cases h4:ws.length≤4
 case neg=>simp[lH,h4,show ¬ (ws.length:Int)<1 by omega,show 4<(ws.length:Int)by omega]
 simp[show ¬ (ws.length:Int)<1 by omega,show ¬ 4<(ws.length:Int)by omega];obtain⟨j,h1',h2⟩:=iB bL ws;rw[aU (VX ws) j (by simp[VX])]
 ·rw[aH]
  rcases h2 with ⟨hj,ha⟩|⟨x,h3,_,h5,ha⟩
  ·simp[VX,hj,lH,h4,ha,show 1≤ws.length by omega]
  ·have r1:=(zZ.1 h3).1;have r2:=bD h3;simp[VX,r1,r2,h5,lH,ha]
 ·intro i hi;obtain⟨x,h3,_,h5⟩:=h1' i hi;have r1:=(zZ.1 h3).1;have r2:=bD h3;have w2:IntKind.i64.wrap ((i:Int)+1)=i+1:=wrO;have h3':ws[i]=x:=(zZ.1 h3).2;simp[VX,r1,r2,h5,w2,h3']
theorem jY {ws:List Int} (h:lH ws=true):∀ w∈ws,0≤w∧w≤6:=by
 intro w hw;simp only[lH,zT]at h;have:=zQ.1 h.2 w hw;simp[bL]at this;omega
theorem rD (p:Pn) (ws:List Int):aI C0 68 [.i (.agg p.cells), .i (.isl (aF ws))] []=some (.int (p.width ws),[]):=by
 rw[aD rfl Tryz.func68 rfl rfl];have hv:=JP ws
 cases h:lH ws with
 | false=>rw[h]at hv;rw[Pn.aB];simp[hv,Pn.width,h]
 | true =>
  rw[h]at hv;have hb:=vW (jY h) p 8 (by omega);rw[show((8:Nat):Int)=8 from rfl]at hb;rw[Pn.aB]at hb ⊢;simp[hv,Pn.width,h,hb]
def only (k t:Int) (es:List Ex) (cs:List Int) (ks:List Pn):Bool:=decide (1≤k∧k≤8) && (decide ((ks.length:Int)=jF k) && (decide ((es.length:Int)=if k=3 then(es.length:Int)else eF k) && ((decide (t=0) || decide (k=1)) && (decide (cs=[]) || decide (k=8)))))
theorem dV (k t:Int) (es:List Ex) (cs:List Int) (ks:List Pn):aI C0 139 [.i (.agg [.int k, .int t, .isl (Ex.aA es), .isl (aF cs), .isl (Pn.aA ks)])] []=some (.bool (only k t es cs ks),[]):=by
 rw[aD rfl Tryz.func139 rfl rfl]
 rcases rF k with rfl|rfl|rfl|rfl|rfl|rfl|rfl|rfl|h
 case inr.inr.inr.inr.inr.inr.inr.inr =>
  have h1:¬ (1≤k∧k≤8):=by omega
  simp[h.1,h.2.1,h.2.2.1,h.2.2.2.1,h.2.2.2.2.1,h.2.2.2.2.2.1,h1,only]
 case inr.inr.inl =>
  by_cases c1:(ks.length:Int)=1
  case neg=>simp[c1,only]
  by_cases c3:t=0
  case neg=>simp[c1,c3,only]
  by_cases c5:cs=[]<;>simp[c1,c3,c5,only,aF]
 case inl =>
  by_cases c1:ks=[]
  case neg=>simp[c1,only]
  by_cases c2:es=[]
  case neg=>simp[c1,c2,only]
  by_cases c3:t=0<;>by_cases c5:cs=[]<;>simp[c1,c2,c3,c5,only,aF,Ex.aA,Pn.aA]
 case inr.inl =>
  by_cases c1:(ks.length:Int)=1
  case neg=>simp[c1,only]
  by_cases c2:(es.length:Int)=1
  case neg=>simp[c1,c2,only]
  by_cases c3:t=0
  case neg=>simp[c1,c2,c3,only]
  by_cases c5:cs=[]<;>simp[c1,c2,c3,c5,only,aF]
 case inr.inr.inr.inl =>
  by_cases c1:(ks.length:Int)=2
  case neg=>simp[c1,only]
  by_cases c2:(es.length:Int)=1
  case neg=>simp[c1,c2,only]
  by_cases c3:t=0
  case neg=>simp[c1,c2,c3,only]
  by_cases c5:cs=[]<;>simp[c1,c2,c3,c5,only,aF]
 case inr.inr.inr.inr.inl =>
  by_cases c1:(ks.length:Int)=2
  case neg=>simp[c1,only]
  by_cases c2:(es.length:Int)=1
  case neg=>simp[c1,c2,only]
  by_cases c3:t=0
  case neg=>simp[c1,c2,c3,only]
  by_cases c5:cs=[]<;>simp[c1,c2,c3,c5,only,aF]
 case inr.inr.inr.inr.inr.inl =>
  by_cases c1:(ks.length:Int)=2
  case neg=>simp[c1,only]
  by_cases c2:es=[]
  case neg=>simp[c1,c2,only]
  by_cases c3:t=0
  case neg=>simp[c1,c2,c3,only]
  by_cases c5:cs=[]<;>simp[c1,c2,c3,c5,only,aF,Ex.aA]
 case inr.inr.inr.inr.inr.inr.inl =>
  by_cases c1:(ks.length:Int)=1
  case neg=>simp[c1,only]
  by_cases c2:es=[]
  case neg=>simp[c1,c2,only]
  by_cases c3:t=0
  case neg=>simp[c1,c2,c3,only]
  by_cases c5:cs=[]<;>simp[c1,c2,c3,c5,only,aF,Ex.aA]
 case inr.inr.inr.inr.inr.inr.inr.inl =>
  by_cases c1:(ks.length:Int)=1
  case neg=>simp[c1,only]
  by_cases c2:es=[]
  case neg=>simp[c1,c2,only]
  by_cases c3:t=0
  case neg=>simp[c1,c2,c3,only]
  by_cases c5:cs=[]<;>simp[c1,c2,c3,c5,only,aF,Ex.aA]
theorem AKR {cs:List Int} {w:Int}:∀ {i:Nat},(∀ k,k<i→∃ x,(cs.zip (-1::cs))[k]?=some x∧x∈cs.zip (-1::cs)∧decide (x.2<x.1∧x.1<w)=true)→-1≤pv cs i∧(i≠0→0≤pv cs i)
 | 0,_=>by simp[pv]
 | i+1,h=>by
  obtain⟨x,h3,_,h4⟩:=h i (by omega);obtain⟨c1,c2⟩:=AO h3;rw[ABE c1];have hb:x.2<x.1∧x.1<w:=by simpa using h4
  have:=AKR (i:=i) fun k hk=>h k (by omega)
  omega
def CX (cs:List Int) (w:Int) (i:Nat):AS :=
 { env:=[(0, .i (.isl (aF cs))),(1, .int w),(4, .bool false),(5, .int i),(9,jk i (.bool true)),(35,jk i (.bool false))],st:=[] }
theorem OL (cs:List Int) (w:Int) (hl:cs.length<9223372036854775808) (hw:0≤w∧w≤6):aI C0 142 [.i (.isl (aF cs)), .int w] []=some (.bool (qR w cs),[]):=by
 rw[aD rfl Tryz.func142 rfl rfl];have w1:IntKind.i64.wrap (w-1)=w-1:=wrO;simp;obtain⟨j,h1,h2⟩:=iB (fun x:Int×Int=>decide (x.2<x.1∧x.1<w)) (cs.zip (-1::cs));rw[aU (CX cs w) j (by simp[CX])]
 ·rw[aH]
  rcases h2 with ⟨hj,ha⟩|⟨x,h3,_,h4,ha⟩
  ·rw[WM]at hj;have ha:qR w cs=true:=ha;simp[CX,hj,ha]
  ·obtain⟨c1,c2⟩:=AO h3;have r1:=(zZ.1 c1).1;have r2:=bD c1;have hb:¬ (x.2<x.1∧x.1<w):=by simpa using h4
   have ha:qR w cs=false:=ha;have hp:=AKR (i:=j) h1;by_cases hin:0≤x.1∧x.1≤w-1
   ·have hj:j≠0:=fun h=>by subst h;simp[pv]at c2;omega
    obtain⟨j,rfl⟩:∃ i,j=i+1:=⟨j-1,by omega⟩
    have q1:cs[j]?=some x.2:=by
     have:pv cs (j+1)=x.2:=c2;simp only[pv,xI]at this;rw[zX (by omega)]at this ⊢;simpa using this
    have q2:=bD q1;have w4:IntKind.i64.wrap ((j:Int)+1-1)=j:=by rw[wrO];omega
    have w5:IntKind.i64.wrap ((j:Int))=j:=by rw[wrO]
    simp[CX,r1,r2,w1,hin,ha,q2,w4,w5,show(0:Int)<j+1 by omega,show x.1≤x.2 by omega,show(0:Int)≤(j:Int)+1 by omega,show j<cs.length by omega,show((j:Int)+1<cs.length)by omega]
   ·simp[CX,r1,r2,w1,hin,ha]
 ·intro i hi;obtain⟨x,h3,_,h4⟩:=h1 i hi;obtain⟨c1,c2⟩:=AO h3;have r1:=(zZ.1 c1).1;have r2:=bD c1;have hb:x.2<x.1∧x.1<w:=by simpa using h4
  have hp:=AKR (i:=i) fun k hk=>h1 k (by omega)
  have hin:0≤x.1∧x.1≤w-1:=by omega
  have w2:IntKind.i64.wrap ((i:Int)+1)=i+1:=wrO;by_cases h0:i=0
  ·subst h0;simp[CX,r1,r2,w1,hin,dH]
  ·obtain⟨i,rfl⟩:∃ j,i=j+1:=⟨i-1,by omega⟩
   have q1:cs[i]?=some x.2:=by
    have:pv cs (i+1)=x.2:=c2;simp only[pv,xI]at this;rw[zX (by omega)]at this ⊢;simpa using this
   have q2:=bD q1;have w5:IntKind.i64.wrap ((i:Int))=i:=by rw[wrO]
   have w2':IntKind.i64.wrap ((i:Int)+1+1)=i+1+1:=wrO;simp[CX,r1,r2,w1,hin,q2,w5,w2',show(0:Int)<i+1 by omega,show ¬ x.1≤x.2 by omega,show(0:Int)≤(i:Int)+1 by omega,show i<cs.length by omega,show((i:Int)+1<cs.length)by omega]
def pW (es:List Ex) (w:Int):Int:=if es.all (Ex.ok w)=true∧es.length≤6 then(es.length:Int)else 0
def QX (es:List Ex) (w:Int) (i:Nat):AS :=
 { env:=[(0, .i (.isl (Ex.aA es))),(1, .int w),(4, .int 0),(5, .int i),(9,jk i (.bool true)),(18,jk i (.bool false)),(21, .junk)],st:=[] }
theorem GZ (es:List Ex) (w:Int) (hl:es.length<9223372036854775808):aI C0 141 [.i (.isl (Ex.aA es)), .int w] []=some (.int (pW es w),[]):=by
 rw[aD rfl Tryz.func141 rfl rfl];simp;obtain⟨j,h1,h2⟩:=iB (Ex.ok w) es;rw[aU (QX es w) j (by simp[QX])]
 ·rw[aH]
  rcases h2 with ⟨hj,hall⟩|⟨x,h3,_,h5,hall⟩
  ·by_cases h6:es.length≤6
   ·have hq:pW es w=es.length:=if_pos ⟨hall,h6⟩;simp[QX,hj,hq,show ¬ (6:Int)<es.length by omega]
   ·have hq:pW es w=0:=if_neg fun h=>h6 h.2
    simp[QX,hj,hq,show(6:Int)<es.length by omega]
  ·have r1:=(zZ.1 h3).1;have r2:=Ex.aN h3;have r3:=P6 w x;rw[h5]at r3;rw[Ex.aB]at r2 r3;have hq:pW es w=0:=if_neg fun h=>by rw[hall]at h;simp at h
   simp[QX,r1,r2,r3,hq]
 ·intro i hi;obtain⟨x,h3,_,h5⟩:=h1 i hi;have r1:=(zZ.1 h3).1;have r2:=Ex.aN h3;have r3:=P6 w x;rw[h5]at r3;rw[Ex.aB]at r2 r3;have w2:IntKind.i64.wrap ((i:Int)+1)=i+1:=wrO;simp[QX,r1,r2,r3,w2]
def UX (ws:List Int) (i:Nat):AS :=
 { env:=[(0, .i (.isl (aF ws))),(2, .bool false),(3, .int i),(7,jk i (.bool true)),(15,jk i (.bool false))],st:=[] }
theorem G6 (ws:List Int) (hl:ws.length<9223372036854775808):aI C0 121 [.i (.isl (aF ws))] []=some (.bool (lH ws),[]):=by
 rw[aD rfl Tryz.func121 rfl rfl];simp;obtain⟨j,h1',h2⟩:=iB bL ws;rw[aU (UX ws) j (by simp[UX])]
 ·rw[aH]
  rcases h2 with ⟨hj,ha⟩|⟨x,h3,_,h5,ha⟩
  ·by_cases h4:1≤ws.length∧ws.length≤4
   ·simp[UX,hj,lH,h4,ha,show(1:Int)≤ws.length∧(ws.length:Int)≤4 by omega]
   ·simp[UX,hj,lH,h4,ha,show ¬ ((1:Int)≤ws.length∧(ws.length:Int)≤4)by omega]
  ·have r1:=(zZ.1 h3).1;have r2:=bD h3;have h5:¬ (1≤x∧x≤6):=by simpa [bL]using h5
   simp[UX,r1,r2,h5,lH,ha]
 ·intro i hi;obtain⟨x,h3,_,h5⟩:=h1' i hi;have r1:=(zZ.1 h3).1;have r2:=bD h3;have h5:1≤x∧x≤6:=by simpa [bL]using h5
  have w2:IntKind.i64.wrap ((i:Int)+1)=i+1:=wrO;simp[UX,r1,r2,h5,w2]
theorem AFJ {ws:List Int} {k t:Int} {es:List Ex} {cs:List Int} {ks:List Pn} {lv:Nat} (h:¬ (only k t es cs ks=true∧(ks=[]∨lv≠0))):aI C0 104 [.i (.agg [.int k, .int t, .isl (Ex.aA es), .isl (aF cs), .isl (Pn.aA ks)]), .i (.isl (aF ws)), .int lv] []=some (.int 0,[]):=by
 rw[aD rfl Tryz.func104 rfl rfl];have ho:=dV k t es cs ks
 cases hq:only k t es cs ks with
 | false=>rw[hq]at ho;simp[ho]
 | true =>
  rw[hq]at ho;by_cases hk:ks=[]
  ·exact absurd ⟨hq, .inl hk⟩ h
  by_cases hl:lv=0
  ·have:0<ks.length:=xP.2 hk;subst hl;simp[ho,hk,this]
  ·exact absurd ⟨hq, .inr hl⟩ h
theorem XX {ws:List Int} {lv:Nat} {t:Int} (ho:only 1 t [] [] []=true) (hw:ws.length<1000000000):aI C0 104 [.i (.agg [.int 1, .int t, .isl (Ex.aA []), .isl (aF []), .isl (Pn.aA [])]), .i (.isl (aF ws)), .int lv] []=some (.int (if 0≤t then(ws[t.toNat]?).getD 0 else 0),[]):=by
 rw[aD rfl Tryz.func104 rfl rfl];have hf:=dV 1 t [] [] [];rw[ho]at hf;have w1:IntKind.i64.wrap ((ws.length:Int)-1)=ws.length-1:=wrO;simp only[Ex.aA,Pn.aA,aF]at hf ⊢;simp[hf,w1];rw[aH];by_cases h0:0≤t
 case neg=>simp[h0,w1]
 cases hx:ws[t.toNat]? with
 | none =>
  have:=zA4.1 hx;simp[h0,w1,show ¬ t≤ws.length-1 by omega]
 | some x =>
  have r1:=(zZ.1 hx).1;have r2:=bD hx;simp[h0,w1,show t≤ws.length-1 by omega,show t<ws.length by omega,r2]
theorem XW {ws:List Int} {lv:Nat} {a:Pn} {va:Int} {e:Ex} (ho:only 2 0 [e] [] [a]=true) (hl:lv≠0) (hl8:lv≤8) (ha:aI C0 104 [.i (.agg a.cells), .i (.isl (aF ws)), .int (lv-1:Nat)] []=some (.int va,[])) (ra:0≤va∧va≤6):aI C0 104 [.i (.agg [.int 2, .int 0, .isl (Ex.aA [e]), .isl (aF []), .isl (Pn.aA [a])]), .i (.isl (aF ws)), .int lv] []=some (.int (if va=0 then 0 else if e.ok va=true then va else 0),[]):=by
 rw[aD rfl Tryz.func104 rfl rfl];have hf:=dV 2 0 [e] [] [a];rw[ho]at hf;have c3':¬ (lv:Int)=0:=by omega
 have w1:IntKind.i64.wrap ((lv:Int)-1)=(lv-1:Nat):=by rw[wrO];omega
 have w2:IntKind.i64.wrap (1:Int)=1:=dH;have w3:IntKind.i64.wrap (2:Int)=2:=wrO;have r0:fO [a.cells] 0=some a.cells:=rfl;simp only[Pn.aA,aF,Ex.aA]at hf ⊢;have q0:fO [e.cells] 0=some e.cells:=rfl;have qe:=P6 (va) e;rw[Ex.aB e]at q0 qe hf ⊢;rw[Pn.aB a]at ha r0 hf ⊢;simp[hf,hl,c3'];rw[aH];by_cases z1:va=0
 case pos=>simp[w1,ha,r0,z1]
 simp[w1,w2,ha,r0,z1];rw[aH]
 cases hv:e.ok va<;>rw[hv]at qe<;>simp[z1,q0,qe]
theorem KF {ws:List Int} {lv:Nat} {a:Pn} {va:Int} {es:List Ex} (ho:only 3 0 es [] [a]=true) (hl:lv≠0) (hl8:lv≤8) (ha:aI C0 104 [.i (.agg a.cells), .i (.isl (aF ws)), .int (lv-1:Nat)] []=some (.int va,[])) (ra:0≤va∧va≤6) (he:es.length<9223372036854775808):aI C0 104 [.i (.agg [.int 3, .int 0, .isl (Ex.aA es), .isl (aF []), .isl (Pn.aA [a])]), .i (.isl (aF ws)), .int lv] []=some (.int (if va=0 then 0 else pW es va),[]):=by
 rw[aD rfl Tryz.func104 rfl rfl];have hf:=dV 3 0 es [] [a];rw[ho]at hf;have c3':¬ (lv:Int)=0:=by omega
 have w1:IntKind.i64.wrap ((lv:Int)-1)=(lv-1:Nat):=by rw[wrO];omega
 have w2:IntKind.i64.wrap (1:Int)=1:=dH;have w3:IntKind.i64.wrap (2:Int)=2:=wrO;have r0:fO [a.cells] 0=some a.cells:=rfl;simp only[Pn.aA,aF,Ex.aA]at hf ⊢;rw[Pn.aB a]at ha r0 hf ⊢;simp[hf,hl,c3'];rw[aH];by_cases z1:va=0
 case pos=>simp[w1,ha,r0,z1]
 simp[w1,w2,ha,r0,z1];rw[aH];have hp:=GZ es va he;simp[z1,hp]
theorem XV {ws:List Int} {lv:Nat} {a:Pn} {va:Int} {b:Pn} {vb:Int} {e:Ex} (ho:only 4 0 [e] [] [a,b]=true) (hl:lv≠0) (hl8:lv≤8) (ha:aI C0 104 [.i (.agg a.cells), .i (.isl (aF ws)), .int (lv-1:Nat)] []=some (.int va,[])) (ra:0≤va∧va≤6) (hb:aI C0 104 [.i (.agg b.cells), .i (.isl (aF ws)), .int (lv-1:Nat)] []=some (.int vb,[])) (rb:0≤vb∧vb≤6):aI C0 104 [.i (.agg [.int 4, .int 0, .isl (Ex.aA [e]), .isl (aF []), .isl (Pn.aA [a,b])]), .i (.isl (aF ws)), .int lv] []=some (.int (if va=0∨vb=0 then 0 else if va+vb≤6∧e.ok (va+vb)=true then va+vb else 0),[]):=by
 rw[aD rfl Tryz.func104 rfl rfl];have hf:=dV 4 0 [e] [] [a,b];rw[ho]at hf;have c3':¬ (lv:Int)=0:=by omega
 have w1:IntKind.i64.wrap ((lv:Int)-1)=(lv-1:Nat):=by rw[wrO];omega
 have w2:IntKind.i64.wrap (1:Int)=1:=dH;have w3:IntKind.i64.wrap (2:Int)=2:=wrO;have r0:fO [a.cells,b.cells] 0=some a.cells:=rfl;have r1:fO [a.cells,b.cells] 1=some b.cells:=rfl;simp only[Pn.aA,aF,Ex.aA]at hf ⊢;have q0:fO [e.cells] 0=some e.cells:=rfl;have qe:=P6 (va+vb) e;rw[Ex.aB e]at q0 qe hf ⊢;rw[Pn.aB a]at ha r0 hf ⊢;rw[Pn.aB a]at r1;rw[Pn.aB b]at hb r0 r1 hf ⊢;simp[hf,hl,c3'];rw[aH];by_cases z1:va=0
 case pos=>simp[w1,ha,r0,z1]
 simp[w1,w2,ha,r0,z1];rw[aH];by_cases z2:vb=0
 case pos=>simp[w1,hb,r1,z2]
 simp[w1,hb,r1,z1,z2,w2,w3];rw[aH];have w4:IntKind.i64.wrap (va+vb)=va+vb:=wrO;by_cases h6:va+vb≤6
 ·cases hv:e.ok (va+vb)<;>rw[hv]at qe<;>simp[z1,z2,q0,qe,w4,h6]
 ·simp[z1,z2,w4,h6]
theorem XU {ws:List Int} {lv:Nat} {a:Pn} {va:Int} {b:Pn} {vb:Int} {e:Ex} (ho:only 5 0 [e] [] [a,b]=true) (hl:lv≠0) (hl8:lv≤8) (ha:aI C0 104 [.i (.agg a.cells), .i (.isl (aF ws)), .int (lv-1:Nat)] []=some (.int va,[])) (ra:0≤va∧va≤6) (hb:aI C0 104 [.i (.agg b.cells), .i (.isl (aF ws)), .int (lv-1:Nat)] []=some (.int vb,[])) (rb:0≤vb∧vb≤6):aI C0 104 [.i (.agg [.int 5, .int 0, .isl (Ex.aA [e]), .isl (aF []), .isl (Pn.aA [a,b])]), .i (.isl (aF ws)), .int lv] []=some (.int (if va=0∨vb=0 then 0 else if va+vb≤6∧e.ok (va+vb)=true then va+vb else 0),[]):=by
 rw[aD rfl Tryz.func104 rfl rfl];have hf:=dV 5 0 [e] [] [a,b];rw[ho]at hf;have c3':¬ (lv:Int)=0:=by omega
 have w1:IntKind.i64.wrap ((lv:Int)-1)=(lv-1:Nat):=by rw[wrO];omega
 have w2:IntKind.i64.wrap (1:Int)=1:=dH;have w3:IntKind.i64.wrap (2:Int)=2:=wrO;have r0:fO [a.cells,b.cells] 0=some a.cells:=rfl;have r1:fO [a.cells,b.cells] 1=some b.cells:=rfl;simp only[Pn.aA,aF,Ex.aA]at hf ⊢;have q0:fO [e.cells] 0=some e.cells:=rfl;have qe:=P6 (va+vb) e;rw[Ex.aB e]at q0 qe hf ⊢;rw[Pn.aB a]at ha r0 hf ⊢;rw[Pn.aB a]at r1;rw[Pn.aB b]at hb r0 r1 hf ⊢;simp[hf,hl,c3'];rw[aH];by_cases z1:va=0
 case pos=>simp[w1,ha,r0,z1]
 simp[w1,w2,ha,r0,z1];rw[aH];by_cases z2:vb=0
 case pos=>simp[w1,hb,r1,z2]
 simp[w1,hb,r1,z1,z2,w2,w3];rw[aH];have w4:IntKind.i64.wrap (va+vb)=va+vb:=wrO;by_cases h6:va+vb≤6
 ·cases hv:e.ok (va+vb)<;>rw[hv]at qe<;>simp[z1,z2,q0,qe,w4,h6]
 ·simp[z1,z2,w4,h6]
theorem XT {ws:List Int} {lv:Nat} {a:Pn} {va:Int} {b:Pn} {vb:Int} (ho:only 6 0 [] [] [a,b]=true) (hl:lv≠0) (hl8:lv≤8) (ha:aI C0 104 [.i (.agg a.cells), .i (.isl (aF ws)), .int (lv-1:Nat)] []=some (.int va,[])) (ra:0≤va∧va≤6) (hb:aI C0 104 [.i (.agg b.cells), .i (.isl (aF ws)), .int (lv-1:Nat)] []=some (.int vb,[])) (rb:0≤vb∧vb≤6):aI C0 104 [.i (.agg [.int 6, .int 0, .isl (Ex.aA []), .isl (aF []), .isl (Pn.aA [a,b])]), .i (.isl (aF ws)), .int lv] []=some (.int (if va=0∨vb=0 then 0 else if va=vb then va else 0),[]):=by
 rw[aD rfl Tryz.func104 rfl rfl];have hf:=dV 6 0 [] [] [a,b];rw[ho]at hf;have c3':¬ (lv:Int)=0:=by omega
 have w1:IntKind.i64.wrap ((lv:Int)-1)=(lv-1:Nat):=by rw[wrO];omega
 have w2:IntKind.i64.wrap (1:Int)=1:=dH;have w3:IntKind.i64.wrap (2:Int)=2:=wrO;have r0:fO [a.cells,b.cells] 0=some a.cells:=rfl;have r1:fO [a.cells,b.cells] 1=some b.cells:=rfl;simp only[Pn.aA,aF,Ex.aA]at hf ⊢;rw[Pn.aB a]at ha r0 hf ⊢;rw[Pn.aB a]at r1;rw[Pn.aB b]at hb r0 r1 hf ⊢;simp[hf,hl,c3'];rw[aH];by_cases z1:va=0
 case pos=>simp[w1,ha,r0,z1]
 simp[w1,w2,ha,r0,z1];rw[aH];by_cases z2:vb=0
 case pos=>simp[w1,hb,r1,z2]
 simp[w1,hb,r1,z1,z2,w2,w3];rw[aH];by_cases h6:va=vb<;>simp[z1,z2,h6]
theorem XQ {ws:List Int} {lv:Nat} {a:Pn} {va:Int} (ho:only 7 0 [] [] [a]=true) (hl:lv≠0) (hl8:lv≤8) (ha:aI C0 104 [.i (.agg a.cells), .i (.isl (aF ws)), .int (lv-1:Nat)] []=some (.int va,[])) (ra:0≤va∧va≤6):aI C0 104 [.i (.agg [.int 7, .int 0, .isl (Ex.aA []), .isl (aF []), .isl (Pn.aA [a])]), .i (.isl (aF ws)), .int lv] []=some (.int (if va=0 then 0 else va),[]):=by
 rw[aD rfl Tryz.func104 rfl rfl];have hf:=dV 7 0 [] [] [a];rw[ho]at hf;have c3':¬ (lv:Int)=0:=by omega
 have w1:IntKind.i64.wrap ((lv:Int)-1)=(lv-1:Nat):=by rw[wrO];omega
 have w2:IntKind.i64.wrap (1:Int)=1:=dH;have w3:IntKind.i64.wrap (2:Int)=2:=wrO;have r0:fO [a.cells] 0=some a.cells:=rfl;simp only[Pn.aA,aF,Ex.aA]at hf ⊢;rw[Pn.aB a]at ha r0 hf ⊢;simp[hf,hl,c3'];rw[aH];by_cases z1:va=0
 case pos=>simp[w1,ha,r0,z1]
 simp[w1,w2,ha,r0,z1];rw[aH];simp[z1]
theorem XP {ws:List Int} {lv:Nat} {a:Pn} {va:Int} {cs:List Int} (ho:only 8 0 [] cs [a]=true) (hl:lv≠0) (hl8:lv≤8) (ha:aI C0 104 [.i (.agg a.cells), .i (.isl (aF ws)), .int (lv-1:Nat)] []=some (.int va,[])) (ra:0≤va∧va≤6) (hc:cs.length<9223372036854775808):aI C0 104 [.i (.agg [.int 8, .int 0, .isl (Ex.aA []), .isl (aF cs), .isl (Pn.aA [a])]), .i (.isl (aF ws)), .int lv] []=some (.int (if va=0 then 0 else if cs.length<6∧qR va cs=true then(cs.length:Int)+1 else 0),[]):=by
 rw[aD rfl Tryz.func104 rfl rfl];have hf:=dV 8 0 [] cs [a];rw[ho]at hf;have c3':¬ (lv:Int)=0:=by omega
 have w1:IntKind.i64.wrap ((lv:Int)-1)=(lv-1:Nat):=by rw[wrO];omega
 have w2:IntKind.i64.wrap (1:Int)=1:=dH;have w3:IntKind.i64.wrap (2:Int)=2:=wrO;have r0:fO [a.cells] 0=some a.cells:=rfl;simp only[Pn.aA,aF,Ex.aA]at hf ⊢;rw[Pn.aB a]at ha r0 hf ⊢;simp[hf,hl,c3'];rw[aH];by_cases z1:va=0
 case pos=>simp[w1,ha,r0,z1]
 simp[w1,w2,ha,r0,z1];rw[aH];have hp:=OL cs va hc ra;by_cases h6:cs.length<6
 ·have w5:IntKind.i64.wrap ((cs.length:Int)+1)=cs.length+1:=wrO
  cases hv:qR va cs<;>rw[hv]at hp<;>simp[z1,hp,h6,show(cs.length:Int)<6 by omega,w5]
 ·cases hv:qR va cs<;>rw[hv]at hp<;>simp[z1,hp,h6,show ¬ (cs.length:Int)<6 by omega]
theorem VE (k t:Int) (es:List Ex) (cs:List Int) (ks:List Pn):only k t es cs ks=true↔((1≤k∧k≤8)∧(ks.length:Int)=jF k∧((es.length:Int)=if k=3 then(es.length:Int)else eF k)∧(t=0∨k=1)∧(cs=[]∨k=8)):=by
 unfold only;simp only[zT,zD3,zN]
theorem wJ {ws:List Int} (hw:∀ w∈ws,0≤w∧w≤6) (hwl:ws.length<1000000000):∀ (p:Pn),p.lim→∀ (lv:Nat),lv≤8→aI C0 104 [.i (.agg p.cells), .i (.isl (aF ws)), .int lv] []=some (.int (p.wd ws lv),[]):=by
 intro p
 induction p using Pn.ind with
 | h k t es cs ks ih =>
  intro hp lv hlv;have hp:=(Pn.IB _).1 hp;simp only[Pn.bR,Pn.eB,Pn.gI]at hp;obtain⟨he,hc,-,hks⟩:=hp;rw[Pn.dO];have hr:=fun a=>Pn.sK hw a (lv-1)
  by_cases ho:only k t es cs ks=true∧(ks=[]∨lv≠0)
  case neg =>
   rw[AFJ ho,Pn.X8];intro hh;apply ho;refine⟨?_,hh.2⟩;have h:=(mD k t es cs ks).1 hh.1;rw[VE];refine⟨?_,h.1,?_,h.2.2.1.symm,h.2.2.2.symm⟩
   ·rcases HZ k with h1|h1|h1|h1<;>omega
   ·by_cases h3:k=3
    ·rw[if_pos h3]
    ·have:=h.2.1;rw[if_neg fun h=>h3 h.1]at this;rw[if_neg h3];exact this
  have hoo:=ho.1;have hq:=(VE k t es cs ks).1 ho.1;obtain⟨h0,h1,h2,h3,h4⟩:=hq;have h5:=ho.2;by_cases hd:Pn.headOk (.mk k t es cs ks)=true
  case neg =>
   rw[Pn.X8 fun h=>hd h.1]
   have hk3:k=3∧¬ bL es.length=true∧(es.length:Int)≠1:=by
    by_cases hk:k=3
    ·refine⟨hk,?_,?_⟩
     ·intro hv;exact hd ((mD k t es cs ks).2 ⟨h1,by rw[if_pos ⟨hk,hv⟩],h3.symm,h4.symm⟩)
     ·intro hv;have:bL es.length=true:=by rw[hv];decide
      exact hd ((mD k t es cs ks).2 ⟨h1,by rw[if_pos ⟨hk,this⟩],h3.symm,h4.symm⟩)
    ·exact absurd ((mD k t es cs ks).2 ⟨h1,by rw[if_neg fun h=>hk h.1];rwa [if_neg hk]at h2,h3.symm,h4.symm⟩) hd
   obtain⟨rfl,hv,hv1⟩:=hk3;obtain⟨a,rfl⟩:=lD (by simpa using h1);obtain rfl:cs=[]:=by simpa using h4
   obtain rfl:t=0:=by simpa using h3
   have hl:lv≠0:=by simpa using h5
   rw[KF hoo hl hlv (ih a (by simp) (hks a (by simp)) (lv-1) (by omega)) (hr a) he]
   have:pW es (a.wd ws (lv-1))=0:=by
    unfold pW;split
    ·rename_i h;have:¬ (1≤(es.length:Int)∧(es.length:Int)≤6):=by simpa [bL]using hv
     omega
    ·rfl
   simp[this]
  have hx:=Pn.vY ws lv (.mk k t es cs ks);rw[if_pos (by simpa using (⟨hd,h5⟩:_∧_))]at hx;simp only[Pn.dX,Pn.iF,Pn.bR,Pn.eB,Pn.gI]at hx;rw[hx]
  rcases rF k with rfl|rfl|rfl|rfl|rfl|rfl|rfl|rfl|h
  ·obtain rfl:=gK (by simpa using h1);obtain rfl:es=[]:=gK (by simpa using h2);obtain rfl:cs=[]:=by simpa using h4
   exact XX hoo hwl
  ·obtain⟨a,rfl⟩:=lD (by simpa using h1);obtain⟨e,rfl⟩:=lD (by simpa using h2);obtain rfl:cs=[]:=by simpa using h4
   obtain rfl:t=0:=by simpa using h3
   have hl:lv≠0:=by simpa using h5
   rw[XW hoo hl hlv (ih a (by simp) (hks a (by simp)) (lv-1) (by omega)) (hr a)];by_cases z:a.wd ws (lv-1)=0<;>simp[z,bX]
  ·obtain⟨a,rfl⟩:=lD (by simpa using h1);obtain rfl:cs=[]:=by simpa using h4
   obtain rfl:t=0:=by simpa using h3
   have hl:lv≠0:=by simpa using h5
   rw[KF hoo hl hlv (ih a (by simp) (hks a (by simp)) (lv-1) (by omega)) (hr a) he];have h6:=Pn.rP hd;simp only[Pn.bR]at h6;by_cases z:a.wd ws (lv-1)=0<;>simp[z,bX,pW,h6]
  ·obtain⟨a,b,rfl⟩:=BS (by simpa using h1);obtain⟨e,rfl⟩:=lD (by simpa using h2);obtain rfl:cs=[]:=by simpa using h4
   obtain rfl:t=0:=by simpa using h3
   have hl:lv≠0:=by simpa using h5
   rw[XV hoo hl hlv (ih a (by simp) (hks a (by simp)) (lv-1) (by omega)) (hr a) (ih b (by simp) (hks b (by simp)) (lv-1) (by omega)) (hr b)];by_cases z:a.wd ws (lv-1)=0<;>by_cases z2:b.wd ws (lv-1)=0<;>simp[z,z2,bX]
  ·obtain⟨a,b,rfl⟩:=BS (by simpa using h1);obtain⟨e,rfl⟩:=lD (by simpa using h2);obtain rfl:cs=[]:=by simpa using h4
   obtain rfl:t=0:=by simpa using h3
   have hl:lv≠0:=by simpa using h5
   rw[XU hoo hl hlv (ih a (by simp) (hks a (by simp)) (lv-1) (by omega)) (hr a) (ih b (by simp) (hks b (by simp)) (lv-1) (by omega)) (hr b)];by_cases z:a.wd ws (lv-1)=0<;>by_cases z2:b.wd ws (lv-1)=0<;>simp[z,z2,bX]
  ·obtain⟨a,b,rfl⟩:=BS (by simpa using h1);obtain rfl:es=[]:=gK (by simpa using h2);obtain rfl:cs=[]:=by simpa using h4
   obtain rfl:t=0:=by simpa using h3
   have hl:lv≠0:=by simpa using h5
   rw[XT hoo hl hlv (ih a (by simp) (hks a (by simp)) (lv-1) (by omega)) (hr a) (ih b (by simp) (hks b (by simp)) (lv-1) (by omega)) (hr b)];by_cases z:a.wd ws (lv-1)=0<;>by_cases z2:b.wd ws (lv-1)=0<;>simp[z,z2,bX]
  ·obtain⟨a,rfl⟩:=lD (by simpa using h1);obtain rfl:es=[]:=gK (by simpa using h2);obtain rfl:cs=[]:=by simpa using h4
   obtain rfl:t=0:=by simpa using h3
   have hl:lv≠0:=by simpa using h5
   rw[XQ hoo hl hlv (ih a (by simp) (hks a (by simp)) (lv-1) (by omega)) (hr a)];by_cases z:a.wd ws (lv-1)=0<;>simp[z,bX]
  ·obtain⟨a,rfl⟩:=lD (by simpa using h1);obtain rfl:es=[]:=gK (by simpa using h2);obtain rfl:t=0:=by simpa using h3
   have hl:lv≠0:=by simpa using h5
   rw[XP hoo hl hlv (ih a (by simp) (hks a (by simp)) (lv-1) (by omega)) (hr a) hc];by_cases z:a.wd ws (lv-1)=0<;>simp[z,bX]
  ·omega
theorem X7 (p:Pn) (hp:p.lim) (ws:List Int) (hl:ws.length<9223372036854775808):aI C0 71 [.i (.agg p.cells), .i (.isl (aF ws))] []=some (.int (p.width ws),[]):=by
 rw[aD rfl Tryz.func71 rfl rfl];have hv:=G6 ws hl
 cases h:lH ws with
 | false=>rw[h]at hv;rw[Pn.aB];simp[hv,Pn.width,h]
 | true =>
  rw[h]at hv;have h4:ws.length≤4:=by simp[lH]at h;omega
  have hb:=wJ (jY h) (by omega) p hp 8 (by omega);rw[show((8:Nat):Int)=8 from rfl]at hb;rw[Pn.aB]at hb ⊢;simp[hv,Pn.width,h,hb]
def IX (l m:List Int) (i:Nat):AS :=
 { env:=[(0, .i (.isl (aF l))),(1, .i (.isl (aF m))),(4, .bool false),(5, .int i),(10, .bool false),(14,jk i (.bool true)),(25,jk i (.bool false))],st:=[] }
def SX (l m:List Int) (i:Nat):AS :=
 { env:=[(0, .i (.isl (aF l))),(1, .i (.isl (aF m))),(4, .bool false),(5,jk i (.int (i-1))),(10, .bool false),(12, .int l.length),(13, .int i),(14,jk i (.bool true)),(24,jk i (.bool false))],st:=[] }
def EX (a b:Ex) (i:Nat):AS :=
 { env:=[(0, .i (.iref [.int a.kind, .int a.col, .bool a.val.null, .int a.val.n, .isl (Ex.aA a.kids)])),(1, .i (.iref [.int b.kind, .int b.col, .bool b.val.null, .int b.val.n, .isl (Ex.aA b.kids)])),(4, .bool false),(5,jk i (.int (i-1))),(49, .bool false),(54, .int a.kids.length),(55, .int i),(56,jk i (.bool true)),(71,jk i (.bool false))],st:=[] }
def FX (a b:Ex) (i:Nat):AS :=
 { env:=[(0, .i (.agg [.int a.kind, .int a.col, .bool a.val.null, .int a.val.n, .isl (Ex.aA a.kids)])),(1, .i (.agg [.int b.kind, .int b.col, .bool b.val.null, .int b.val.n, .isl (Ex.aA b.kids)])),(2, .own 0 0),(3, .own 1 0),(4, .bool false),(5, .int i),(33, .bool false),(38,jk i (.bool true)),(52,jk i (.bool false))],
   st:=[some (.box [.int a.kind, .int a.col, .bool a.val.null, .int a.val.n, .i (.isl (Ex.aA a.kids))]),some (.box [.int b.kind, .int b.col, .bool b.val.null, .int b.val.n, .i (.isl (Ex.aA b.kids))])] }
def HX (p q:Pn) (n m:Nat) (i j k:AV) (x51 x65 x70 x83 x88 x102:AV):AS :=
 { env:=[(0, .i (.agg [.int p.kind, .int p.table, .isl (Ex.aA p.exprs), .isl (aF p.cols), .isl (Pn.aA p.kids)])),(1, .i (.agg [.int q.kind, .int q.table, .isl (Ex.aA q.exprs), .isl (aF q.cols), .isl (Pn.aA q.kids)])),(2, .own 0 0),(3, .own 1 0),(4, .bool false),(5,i),(6,j),(7,k),(46, .bool false),(51,x51),(65,x65),(70,x70),(83,x83),(88,x88),(102,x102)],
   st:=[some (.box [.int p.kind, .int p.table, .i (.isl (Ex.aA p.exprs)), .i (.isl (aF p.cols)), .i (.isl (Pn.aA p.kids))]),some (.box [.int q.kind, .int q.table, .i (.isl (Ex.aA q.exprs)), .i (.isl (aF q.cols)), .i (.isl (Pn.aA q.kids))])] }
def H1 (p q:Pn) (i:Nat):AS:=HX p q 0 0 (.int i) .junk .junk (jk i (.bool true)) (jk i (.bool false)) .junk .junk .junk .junk
def H2 (p q:Pn) (i:Nat):AS:=HX p q 0 0 (.int p.exprs.length) (.int i) .junk (.bool false) (jk p.exprs.length (.bool false)) (jk i (.bool true)) (jk i (.bool false)) .junk .junk
def KX (p:Pn) (i:Nat):AS :=
 { env:=[(0, .i (.agg [.int p.kind, .int p.table, .isl (Ex.aA p.exprs), .isl (aF p.cols), .isl (Pn.aA p.kids)])),(1, .own 0 0),(2, .own 1 0),(3, .own 2 0),(4, .int i),(5, .junk),(19,jk i (.bool true)),(37, .junk)],
   st:=some (.box [.int p.kind, .int p.table, .i (.isl (Ex.aA p.exprs)), .i (.isl (aF p.cols)), .i (.isl (Pn.aA p.kids))])::some (.box [.int 0, .int 0, .nils, .nils, .nils]) ::
    some (.box [.int p.kind, .int p.table,gro 3 5 i, .osl (if i=0 then 3 else 4) 1 0 p.cols.length, .nils])::(AA0 5 (Ex.aA (p.exprs.take i)) i++[some (.arr 1 (aF p.cols))]) }
def K2 (p:Pn) (i:Nat):AS :=
 { env:=[(0, .i (.agg [.int p.kind, .int p.table, .isl (Ex.aA p.exprs), .isl (aF p.cols), .isl (Pn.aA p.kids)])),(1, .own 0 0),(2, .own 1 0),(3, .own 2 0),(4, .int p.exprs.length),(5, .int i),(19, .bool false),(37,jk i (.bool true))],
   st:=some (.box [.int p.kind, .int p.table, .i (.isl (Ex.aA p.exprs)), .i (.isl (aF p.cols)), .i (.isl (Pn.aA p.kids))])::some (.box [.int 0, .int 0, .nils, .nils, .nils]) ::
    some (.box [.int p.kind, .int p.table,gro 3 5 p.exprs.length, .osl (if p.exprs.length=0 then 3 else 4) 1 0 p.cols.length,gro (if p.exprs.length=0 then 4 else 5) 5 i])::(AA0 5 (Ex.aA p.exprs) p.exprs.length++some (.arr 1 (aF p.cols))::AA0 5 (Pn.aA (p.kids.take i)) i) }
def pcX (p:Pn):AV:=.agg [.int p.kind, .int p.table,gro 0 5 p.exprs.length, .osl (if p.exprs.length=0 then 0 else 1) 1 0 p.cols.length,gro (if p.exprs.length=0 then 1 else 2) 5 p.kids.length]
def pcS (p:Pn):StL:=AA0 5 (Ex.aA p.exprs) p.exprs.length++some (.arr 1 (aF p.cols))::AA0 5 (Pn.aA p.kids) p.kids.length
theorem NG {p:Pn} (hp:p.thin) (ih:∀ a∈p.kids,aI C0 62 [.i (.agg a.cells)] []=some (pcX a,pcS a)) :
 aI C0 62 [.i (.agg p.cells)] []=some (pcX p,pcS p):=by
 have ht:=(Pn.bI _).1 hp;obtain⟨t1,t2,t3,t4,-⟩:=ht;rw[aD rfl Tryz.func62 rfl rfl,Pn.aB];by_cases hc:p.cols=[]
 ·simp[hc,aF];rw[aU (KX p) p.exprs.length (by simp[KX,hc,aF])]
  ·rw[aH]
   cases hn:p.exprs.length with
   | zero =>
    have he:p.exprs=[]:=zW.1 hn;simp[KX,he,hc,aF,Ex.aA];rw[aU (K2 p) p.kids.length (by simp[K2,he,hc,aF,Ex.aA])]
    ·rw[aH]
     cases hm:p.kids.length with
     | zero =>
      have hk:p.kids=[]:=zW.1 hm;simp[K2,he,hc,aF,hk,Ex.aA,Pn.aA,pcX,pcS]
     | succ m =>
      have hk:p.kids.take (m+1)=p.kids:=zY (by omega);simp[K2,he,hc,aF,hm,hk,Ex.aA,pcX,pcS]
    ·intro i hi;have h3:=zX hi;have hc':=ih _ (zU h3);have r2:=Pn.aN h3;generalize p.kids[i]=a at h3 hc' r2;have w2:IntKind.i64.wrap ((i:Int)+1)=i+1:=wrO;rw[Pn.aB]at r2 hc';simp only[pcX,pcS]at hc';have hl1:(i+1)*88≤140737488355328:=by omega
     have hl2:min i p.kids.length=i:=by omega
     by_cases a1:a.exprs=[]
     ·by_cases a2:a.kids=[]
      ·simp[a1,a2,Ex.aA,Pn.aA]at hc' r2;by_cases h0:i=0
       ·subst h0;simp[K2,he,hc,aF,hi,r2,hc',dH,aM h3,Ex.aA,Pn.aA,Pn.aB a,a1,a2]
       ·simp[K2,he,hc,aF,aP h0,aJ h0,dL h0,hi,r2,hc',w2,aM h3,Ex.aA,Pn.aA,Pn.aW,hl1,hl2,zJ,Pn.aB a,h0,a1,a2]
      ·have a2':a.kids.length≠0:=fun h=>a2 (zW.1 h)
       simp[a1,aP a2',aJ a2',a2,Ex.aA,Pn.aA]at hc' r2;by_cases h0:i=0
       ·subst h0;simp[K2,he,hc,aF,hi,r2,hc',dH,aM h3,Ex.aA,Pn.aA,Pn.aB a,a1,aP a2',aJ a2',a2]
       ·simp[K2,he,hc,aF,aP h0,aJ h0,dL h0,hi,r2,hc',w2,aM h3,Ex.aA,Pn.aA,Pn.aW,hl1,hl2,zJ,Pn.aB a,h0,a1,aP a2',aJ a2',a2]
     ·by_cases a2:a.kids=[]
      ·have a1':a.exprs.length≠0:=fun h=>a1 (zW.1 h)
       simp[aP a1',aJ a1',a1,a2,Ex.aA,Pn.aA]at hc' r2;by_cases h0:i=0
       ·subst h0;simp[K2,he,hc,aF,hi,r2,hc',dH,aM h3,Ex.aA,Pn.aA,Pn.aB a,aP a1',aJ a1',a1,a2]
       ·simp[K2,he,hc,aF,aP h0,aJ h0,dL h0,hi,r2,hc',w2,aM h3,Ex.aA,Pn.aA,Pn.aW,hl1,hl2,zJ,Pn.aB a,h0,aP a1',aJ a1',a1,a2]
      ·have a1':a.exprs.length≠0:=fun h=>a1 (zW.1 h)
       have a2':a.kids.length≠0:=fun h=>a2 (zW.1 h)
       simp[aP a1',aJ a1',a1,aP a2',aJ a2',a2,Ex.aA,Pn.aA]at hc' r2;by_cases h0:i=0
       ·subst h0;simp[K2,he,hc,aF,hi,r2,hc',dH,aM h3,Ex.aA,Pn.aA,Pn.aB a,aP a1',aJ a1',a1,aP a2',aJ a2',a2]
       ·simp[K2,he,hc,aF,aP h0,aJ h0,dL h0,hi,r2,hc',w2,aM h3,Ex.aA,Pn.aA,Pn.aW,hl1,hl2,zJ,Pn.aB a,h0,aP a1',aJ a1',a1,aP a2',aJ a2',a2]
   | succ n =>
    have he:p.exprs.take (n+1)=p.exprs:=zY (by omega);simp[KX,hn,he,hc,aF];rw[aU (K2 p) p.kids.length (by simp[K2,hn,hc,aF,Ex.aA])]
    ·rw[aH]
     cases hm:p.kids.length with
     | zero =>
      have hk:p.kids=[]:=zW.1 hm;simp[K2,hn,hc,aF,hk,Ex.aA,Pn.aA,pcX,pcS]
     | succ m =>
      have hk:p.kids.take (m+1)=p.kids:=zY (by omega);simp[K2,hn,hc,aF,hm,hk,Ex.aA,pcX,pcS]
    ·intro i hi;have h3:=zX hi;have hc':=ih _ (zU h3);have r2:=Pn.aN h3;generalize p.kids[i]=a at h3 hc' r2;have w2:IntKind.i64.wrap ((i:Int)+1)=i+1:=wrO;rw[Pn.aB]at r2 hc';simp only[pcX,pcS]at hc';have hl1:(i+1)*88≤140737488355328:=by omega
     have hl2:min i p.kids.length=i:=by omega
     by_cases a1:a.exprs=[]
     ·by_cases a2:a.kids=[]
      ·simp[a1,a2,Ex.aA,Pn.aA]at hc' r2;by_cases h0:i=0
       ·subst h0;simp[K2,hn,hc,aF,hi,r2,hc',dH,aM h3,Ex.aA,Pn.aA,Pn.aB a,a1,a2]
       ·simp[K2,hn,hc,aF,aP h0,aJ h0,dL h0,hi,r2,hc',w2,aM h3,Ex.aA,Pn.aA,Pn.aW,hl1,hl2,zJ,Pn.aB a,h0,a1,a2]
      ·have a2':a.kids.length≠0:=fun h=>a2 (zW.1 h)
       simp[a1,aP a2',aJ a2',a2,Ex.aA,Pn.aA]at hc' r2;by_cases h0:i=0
       ·subst h0;simp[K2,hn,hc,aF,hi,r2,hc',dH,aM h3,Ex.aA,Pn.aA,Pn.aB a,a1,aP a2',aJ a2',a2]
       ·simp[K2,hn,hc,aF,aP h0,aJ h0,dL h0,hi,r2,hc',w2,aM h3,Ex.aA,Pn.aA,Pn.aW,hl1,hl2,zJ,Pn.aB a,h0,a1,aP a2',aJ a2',a2]
     ·by_cases a2:a.kids=[]
      ·have a1':a.exprs.length≠0:=fun h=>a1 (zW.1 h)
       simp[aP a1',aJ a1',a1,a2,Ex.aA,Pn.aA]at hc' r2;by_cases h0:i=0
       ·subst h0;simp[K2,hn,hc,aF,hi,r2,hc',dH,aM h3,Ex.aA,Pn.aA,Pn.aB a,aP a1',aJ a1',a1,a2]
       ·simp[K2,hn,hc,aF,aP h0,aJ h0,dL h0,hi,r2,hc',w2,aM h3,Ex.aA,Pn.aA,Pn.aW,hl1,hl2,zJ,Pn.aB a,h0,aP a1',aJ a1',a1,a2]
      ·have a1':a.exprs.length≠0:=fun h=>a1 (zW.1 h)
       have a2':a.kids.length≠0:=fun h=>a2 (zW.1 h)
       simp[aP a1',aJ a1',a1,aP a2',aJ a2',a2,Ex.aA,Pn.aA]at hc' r2;by_cases h0:i=0
       ·subst h0;simp[K2,hn,hc,aF,hi,r2,hc',dH,aM h3,Ex.aA,Pn.aA,Pn.aB a,aP a1',aJ a1',a1,aP a2',aJ a2',a2]
       ·simp[K2,hn,hc,aF,aP h0,aJ h0,dL h0,hi,r2,hc',w2,aM h3,Ex.aA,Pn.aA,Pn.aW,hl1,hl2,zJ,Pn.aB a,h0,aP a1',aJ a1',a1,aP a2',aJ a2',a2]
  ·intro i hi;have h3:=zX hi;have hc':=vM _ (t2 _ (zU h3));have r2:=Ex.aN h3;generalize p.exprs[i]=a at h3 hc' r2;have w2:IntKind.i64.wrap ((i:Int)+1)=i+1:=wrO;rw[Ex.aB]at r2 hc';by_cases h0:i=0
   ·subst h0;simp[KX,hc,aF,hi,r2,hc',dH,aM h3,Ex.aA,Ex.aB a]
   ·simp[KX,hc,aF,aP h0,aJ h0,dL h0,hi,r2,hc',w2,aM h3,Ex.aW,show min i p.exprs.length=i by omega,show(i+1)*56≤140737488355328 by omega,zJ,Ex.aB a,h0]
 simp[hc,show p.cols.length*8≤140737488355328 by omega];rw[aU (KX p) p.exprs.length (by simp[KX,hc])]
 ·rw[aH]
  cases hn:p.exprs.length with
  | zero =>
   have he:p.exprs=[]:=zW.1 hn;simp[KX,he,hc,Ex.aA];rw[aU (K2 p) p.kids.length (by simp[K2,he,hc,Ex.aA])]
   ·rw[aH]
    cases hm:p.kids.length with
    | zero =>
     have hk:p.kids=[]:=zW.1 hm;simp[K2,he,hc,hk,Ex.aA,Pn.aA,pcX,pcS]
    | succ m =>
     have hk:p.kids.take (m+1)=p.kids:=zY (by omega);simp[K2,he,hc,hm,hk,Ex.aA,pcX,pcS]
   ·intro i hi;have h3:=zX hi;have hc':=ih _ (zU h3);have r2:=Pn.aN h3;generalize p.kids[i]=a at h3 hc' r2;have w2:IntKind.i64.wrap ((i:Int)+1)=i+1:=wrO;rw[Pn.aB]at r2 hc';simp only[pcX,pcS]at hc';have hl1:(i+1)*88≤140737488355328:=by omega
    have hl2:min i p.kids.length=i:=by omega
    by_cases a1:a.exprs=[]
    ·by_cases a2:a.kids=[]
     ·simp[a1,a2,Ex.aA,Pn.aA]at hc' r2;by_cases h0:i=0
      ·subst h0;simp[K2,he,hc,hi,r2,hc',dH,aM h3,Ex.aA,Pn.aA,Pn.aB a,a1,a2]
      ·simp[K2,he,hc,aP h0,aJ h0,dL h0,hi,r2,hc',w2,aM h3,Ex.aA,Pn.aA,Pn.aW,hl1,hl2,zJ,Pn.aB a,h0,a1,a2]
     ·have a2':a.kids.length≠0:=fun h=>a2 (zW.1 h)
      simp[a1,aP a2',aJ a2',a2,Ex.aA,Pn.aA]at hc' r2;by_cases h0:i=0
      ·subst h0;simp[K2,he,hc,hi,r2,hc',dH,aM h3,Ex.aA,Pn.aA,Pn.aB a,a1,aP a2',aJ a2',a2]
      ·simp[K2,he,hc,aP h0,aJ h0,dL h0,hi,r2,hc',w2,aM h3,Ex.aA,Pn.aA,Pn.aW,hl1,hl2,zJ,Pn.aB a,h0,a1,aP a2',aJ a2',a2]
    ·by_cases a2:a.kids=[]
     ·have a1':a.exprs.length≠0:=fun h=>a1 (zW.1 h)
      simp[aP a1',aJ a1',a1,a2,Ex.aA,Pn.aA]at hc' r2;by_cases h0:i=0
      ·subst h0;simp[K2,he,hc,hi,r2,hc',dH,aM h3,Ex.aA,Pn.aA,Pn.aB a,aP a1',aJ a1',a1,a2]
      ·simp[K2,he,hc,aP h0,aJ h0,dL h0,hi,r2,hc',w2,aM h3,Ex.aA,Pn.aA,Pn.aW,hl1,hl2,zJ,Pn.aB a,h0,aP a1',aJ a1',a1,a2]
     ·have a1':a.exprs.length≠0:=fun h=>a1 (zW.1 h)
      have a2':a.kids.length≠0:=fun h=>a2 (zW.1 h)
      simp[aP a1',aJ a1',a1,aP a2',aJ a2',a2,Ex.aA,Pn.aA]at hc' r2;by_cases h0:i=0
      ·subst h0;simp[K2,he,hc,hi,r2,hc',dH,aM h3,Ex.aA,Pn.aA,Pn.aB a,aP a1',aJ a1',a1,aP a2',aJ a2',a2]
      ·simp[K2,he,hc,aP h0,aJ h0,dL h0,hi,r2,hc',w2,aM h3,Ex.aA,Pn.aA,Pn.aW,hl1,hl2,zJ,Pn.aB a,h0,aP a1',aJ a1',a1,aP a2',aJ a2',a2]
  | succ n =>
   have he:p.exprs.take (n+1)=p.exprs:=zY (by omega);simp[KX,hn,he,hc];rw[aU (K2 p) p.kids.length (by simp[K2,hn,hc,Ex.aA])]
   ·rw[aH]
    cases hm:p.kids.length with
    | zero =>
     have hk:p.kids=[]:=zW.1 hm;simp[K2,hn,hc,hk,Ex.aA,Pn.aA,pcX,pcS]
    | succ m =>
     have hk:p.kids.take (m+1)=p.kids:=zY (by omega);simp[K2,hn,hc,hm,hk,Ex.aA,pcX,pcS]
   ·intro i hi;have h3:=zX hi;have hc':=ih _ (zU h3);have r2:=Pn.aN h3;generalize p.kids[i]=a at h3 hc' r2;have w2:IntKind.i64.wrap ((i:Int)+1)=i+1:=wrO;rw[Pn.aB]at r2 hc';simp only[pcX,pcS]at hc';have hl1:(i+1)*88≤140737488355328:=by omega
    have hl2:min i p.kids.length=i:=by omega
    by_cases a1:a.exprs=[]
    ·by_cases a2:a.kids=[]
     ·simp[a1,a2,Ex.aA,Pn.aA]at hc' r2;by_cases h0:i=0
      ·subst h0;simp[K2,hn,hc,hi,r2,hc',dH,aM h3,Ex.aA,Pn.aA,Pn.aB a,a1,a2]
      ·simp[K2,hn,hc,aP h0,aJ h0,dL h0,hi,r2,hc',w2,aM h3,Ex.aA,Pn.aA,Pn.aW,hl1,hl2,zJ,Pn.aB a,h0,a1,a2]
     ·have a2':a.kids.length≠0:=fun h=>a2 (zW.1 h)
      simp[a1,aP a2',aJ a2',a2,Ex.aA,Pn.aA]at hc' r2;by_cases h0:i=0
      ·subst h0;simp[K2,hn,hc,hi,r2,hc',dH,aM h3,Ex.aA,Pn.aA,Pn.aB a,a1,aP a2',aJ a2',a2]
      ·simp[K2,hn,hc,aP h0,aJ h0,dL h0,hi,r2,hc',w2,aM h3,Ex.aA,Pn.aA,Pn.aW,hl1,hl2,zJ,Pn.aB a,h0,a1,aP a2',aJ a2',a2]
    ·by_cases a2:a.kids=[]
     ·have a1':a.exprs.length≠0:=fun h=>a1 (zW.1 h)
      simp[aP a1',aJ a1',a1,a2,Ex.aA,Pn.aA]at hc' r2;by_cases h0:i=0
      ·subst h0;simp[K2,hn,hc,hi,r2,hc',dH,aM h3,Ex.aA,Pn.aA,Pn.aB a,aP a1',aJ a1',a1,a2]
      ·simp[K2,hn,hc,aP h0,aJ h0,dL h0,hi,r2,hc',w2,aM h3,Ex.aA,Pn.aA,Pn.aW,hl1,hl2,zJ,Pn.aB a,h0,aP a1',aJ a1',a1,a2]
     ·have a1':a.exprs.length≠0:=fun h=>a1 (zW.1 h)
      have a2':a.kids.length≠0:=fun h=>a2 (zW.1 h)
      simp[aP a1',aJ a1',a1,aP a2',aJ a2',a2,Ex.aA,Pn.aA]at hc' r2;by_cases h0:i=0
      ·subst h0;simp[K2,hn,hc,hi,r2,hc',dH,aM h3,Ex.aA,Pn.aA,Pn.aB a,aP a1',aJ a1',a1,aP a2',aJ a2',a2]
      ·simp[K2,hn,hc,aP h0,aJ h0,dL h0,hi,r2,hc',w2,aM h3,Ex.aA,Pn.aA,Pn.aW,hl1,hl2,zJ,Pn.aB a,h0,aP a1',aJ a1',a1,aP a2',aJ a2',a2]
 ·intro i hi;have h3:=zX hi;have hc':=vM _ (t2 _ (zU h3));have r2:=Ex.aN h3;generalize p.exprs[i]=a at h3 hc' r2;have w2:IntKind.i64.wrap ((i:Int)+1)=i+1:=wrO;rw[Ex.aB]at r2 hc';by_cases h0:i=0
  ·subst h0;simp[KX,hc,hi,r2,hc',dH,aM h3,Ex.aA,Ex.aB a]
  ·simp[KX,hc,aP h0,aJ h0,dL h0,hi,r2,hc',w2,aM h3,Ex.aW,show min i p.exprs.length=i by omega,show(i+1)*56≤140737488355328 by omega,zJ,Ex.aB a,h0]
theorem JE:∀ (p:Pn),p.thin→aI C0 62 [.i (.agg p.cells)] []=some (pcX p,pcS p):=by
 intro p
 induction p using Pn.ind with
 | h k t es cs ks ih =>
  intro ht;exact NG ht fun a ha=>ih a ha (((Pn.bI _).1 ht).2.2.2.2 a ha)
def vB (x:Bool) (v:Pn):Option Blk:=if x=true then some (.fbox v.cells)else some (.box (kV v.cells))
end Go.Proofs.YtjdfjgmebalaaaaGreat.P
namespace Go.Av
def TL (l:List Int) (n:Int):List Int:=if l[l.findIdx fun x=>!decide (x<n)]?=some n then l else l.take (l.findIdx fun x=>!decide (x<n))++n::l.drop (l.findIdx fun x=>!decide (x<n))
mutual
def NV:List Int→Ex→List Int
 | l, .mk k c _ ks=>lV (if k=1 then TL l c else l) ks
def lV:List Int→List Ex→List Int
 | l,[]=>l
 | l,e::es=>lV (NV l e) es
end
theorem UI (l:List Int) (e:Ex):NV l e=lV (if e.kind=1 then TL l e.col else l) e.kids:=by
 cases e;simp only[NV,Ex.kind,Ex.col,Ex.kids];congr
theorem CO:∀ (ks:List Ex) (l:List Int) (e:Ex),lV l (ks++[e])=NV (lV l ks) e
 | [],l,e=>by simp[lV]
 | a::ks,l,e=>by simp[lV,CO ks]
theorem AGN {l:List Int} {n x:Int}:x∈TL l n↔x∈l∨x=n:=by
 unfold TL;split
 ·rename_i h;constructor
  ·exact .inl
  ·rintro(h1|rfl)
   ·exact h1
   ·exact zU h
 ·have e:l.take (l.findIdx fun x=>!decide (x<n))++l.drop (l.findIdx fun x=>!decide (x<n))=l:=xV _ _;generalize l.findIdx (fun x=>!decide (x<n))=k at *
  constructor
  ·intro h
   rcases zV.1 h with h|h
   ·exact .inl (zA h)
   ·rcases zS.1 h with h|h
    ·exact .inr h
    ·exact .inl (yK h)
  ·rintro(h|rfl)
   ·rw[← e]at h
    rcases zV.1 h with h|h
    ·exact zV.2 (.inl h)
    ·exact zV.2 (.inr (zS.2 (.inr h)))
   ·exact zV.2 (.inr (zS.2 (.inl rfl)))
def Asc (l:List Int):Prop:=l.Pairwise (· < ·)
theorem AGO {l:List Int} {n:Int} (h:Asc l):Asc (TL l n):=by
 unfold TL;split
 ·exact h
 ·rename_i hne;have e:l.take (l.findIdx fun x=>!decide (x<n))++l.drop (l.findIdx fun x=>!decide (x<n))=l:=xV _ _
  have hlt:∀ x∈l.take (l.findIdx fun x=>!decide (x<n)),x<n:=by
   intro x hx;obtain⟨i,hi⟩:=List.mem_iff_getElem?.1 hx;rw[zG]at hi;split at hi
   ·rename_i hk;have:=List.not_of_lt_findIdx hk;rw[zX (by have:=zC9 (xs:=l) (p:=fun x=>!decide (x<n));omega)]at hi;injection hi with hi;rw[hi]at this;simpa using this
   ·cases hi
  have hge:∀ x∈l.drop (l.findIdx fun x=>!decide (x<n)),n<x:=by
   intro x hx
   rcases zD2 (l.findIdx fun x=>!decide (x<n)) l.length with hk|hk
   ·have h1:=List.findIdx_getElem (w:=hk);have hd:=yH hk;have hn:l[l.findIdx fun x=>!decide (x<n)]≠n:=fun e=>hne (by rw[zX hk,e])
    rw[hd]at hx;have hs:Asc (l.drop (l.findIdx fun x=>!decide (x<n))):=List.Pairwise.sublist (List.drop_sublist _ _) h;rw[hd]at hs;have hs:=List.pairwise_cons.1 hs;simp at h1
    rcases zS.1 hx with rfl|hx
    ·omega
    ·have:=hs.1 x hx;omega
   ·rw[List.drop_eq_nil_of_le hk]at hx;cases hx
  generalize l.findIdx (fun x=>!decide (x<n))=k at *
  rw[← e]at h;unfold Asc at *
  rw[List.pairwise_append]at h ⊢;refine⟨h.1,List.pairwise_cons.2 ⟨hge,h.2.1⟩,?_⟩;intro a ha b hb
  rcases zS.1 hb with rfl|hb
  ·exact hlt a ha
  ·exact h.2.2 a ha b hb
theorem AHV:∀ (e:Ex) (l:List Int),Asc l→Asc (NV l e):=by
 intro e
 induction e using Ex.ind with
 | h k c v ks ih =>
  intro l hl;rw[UI]
  have:∀ (xs:List Ex) (l:List Int),(∀ e∈xs,∀ l,Asc l→Asc (NV l e))→Asc l→Asc (lV l xs):=by
   intro xs
   induction xs with
   | nil=>intro l _ h;simpa [lV]using h
   | cons a xs ihx=>intro l h1 h2;exact ihx _ (fun e he=>h1 e (by simp[he])) (h1 a (by simp) l h2)
  refine this _ _ (fun e he=>ih e (by simpa [Ex.kids]using he)) ?_;split
  ·exact AGO hl
  ·exact hl
theorem AHW {m:Int} (P:Int→Bool):∀ (e:Ex) (l:List Int),e.wf m=true→((∀ x∈NV l e,P x=true)↔(∀ x∈l,P x=true)∧e.tY P=true):=by
 intro e
 induction e using Ex.ind with
 | h k c v ks ih =>
  intro l hw;rw[UI,Ex.lG]
  have:∀ (xs:List Ex) (l:List Int),(∀ e∈xs,e∈ks)→((∀ x∈lV l xs,P x=true)↔(∀ x∈l,P x=true)∧xs.all (Ex.tY P)=true):=by
   intro xs
   induction xs with
   | nil=>intro l _;simp[lV]
   | cons a xs ihx =>
    intro l h1;have ha:=h1 a (by simp);simp only[lV,List.all_cons,zT];rw[ihx _ fun e he=>h1 e (by simp[he]),ih a ha l (Ex.nP hw (by simpa [Ex.kids]using ha))];exact and_assoc
  simp only[Ex.kind,Ex.col,Ex.kids];rw[this ks _ fun e he=>he];by_cases h1:k=1
  ·have hk:=(Ex.uA hw (by simpa [Ex.kind]using h1)).2.2;simp only[Ex.kids]at hk;subst hk;simp only[h1,if_true,AGN];simp;constructor
   ·intro h;exact⟨fun x hx=>h x (.inl hx),h c (.inr rfl)⟩
   ·rintro⟨h2,h3⟩ x (hx|rfl)
    ·exact h2 x hx
    ·exact h3
  ·simp only[h1,if_false]
theorem ADX {l:List Int} (h:Asc l) (lo hi:Int):(∀ x∈l,lo≤x∧x≤hi)↔(l=[]∨(∃ a,l[0]?=some a∧lo≤a)∧(∃ b,l[l.length-1]?=some b∧b≤hi)):=by
 constructor
 ·intro hall
  cases hl:l with
  | nil=>exact .inl rfl
  | cons a r =>
   right;rw[← hl];have h0:l[0]?=some a:=by rw[hl];rfl
   have hk:l.length-1<l.length:=by rw[hl];simp
   exact⟨⟨a,h0,(hall a (zU h0)).1⟩,⟨l[l.length-1],zX hk,(hall _ (xG hk)).2⟩⟩
 ·rintro(rfl|⟨⟨a,h0,h1⟩,b,h2,h3⟩) x hx
  ·cases hx
  ·obtain⟨i,hi⟩:=List.mem_iff_getElem?.1 hx
   have hil:=(zZ.1 hi)
   have h0l:=(zZ.1 h0)
   have h2l:=(zZ.1 h2)
   obtain⟨p1,rfl⟩:=hil;obtain⟨p2,rfl⟩:=h0l;obtain⟨p3,rfl⟩:=h2l;have hp:=List.pairwise_iff_getElem.1 h;constructor
   ·by_cases hz:i=0
    ·subst hz;exact h1
    ·have:=hp 0 i p2 p1 (by omega);omega
   ·by_cases hz:i=l.length-1
    ·subst hz;exact h3
    ·have:=hp i (l.length-1) p1 p3 (by omega);omega
end Go.Av
namespace Go.Proofs.YtjdfjgmebalaaaaGreat.P
open Go Go.Av
set_option maxRecDepth 4000
set_option maxHeartbeats 2000000
theorem ABZ {a:Nat} (ha:a<64):a % 2 ^ IntKind.i64.bits=a:=by
 show a % 18446744073709551616=a;exact Nat.mod_eq_of_lt (by omega)
theorem AL4 {a:Nat} (ha:a<64):(a:Int) % 2 ^ IntKind.i64.bits=a:=by
 show(a:Int) % 18446744073709551616=a;omega
theorem AG2 {a b:Nat} (ha:a<64) (hb:b<64):IntKind.i64.wrap ((a ||| b:Nat):Int)=((a ||| b:Nat):Int):=by
 have h3:a ||| b<2 ^ 6:=xA (by omega) (by omega)
 exact wrO
theorem AEX {a:Nat} (ha:a<64):IntKind.i64.wrap (a:Int)=a:=wrO
def KBX (e:Ex) (i:Nat):AS :=
 { env:=[(0, .i (.iref [.int e.kind, .int e.col, .bool e.val.null, .int e.val.n, .isl (Ex.aA e.kids)])),(2, .int 0),(3, .int (Ex.qJ (e.kids.take i):Nat)),(4,jk i (.int (i-1))),(9, .bool false),(19, .int e.kids.length),(20, .int i),(21,jk i (.bool true))],st:=[] }
theorem LK:∀ e:Ex,e.size<1000000000→e.tY (fun c=>decide (0≤c∧c<6))=true→aI C0 151 [.i (.iref e.cells)] []=some (.int (e.bits:Nat),[]):=by
 intro e
 induction e using Ex.ind with
 | h k c v ks ih =>
  intro hs ha;generalize he:Ex.mk k c v ks=e at *
  have hk1:k=e.kind:=by rw[← he];rfl
  have hks:ks=e.kids:=by rw[← he];rfl
  subst hks;have hsz:=Ex.size_eq e;have hln:=Ex.bM e.kids;rw[aD rfl Tryz.func151 rfl rfl,Ex.aB];rw[Ex.lG]at ha;by_cases h1:e.kind=1
  ·simp only[h1,if_true]at ha;have ha:=zR ha;rw[Ex.NQ h1];have hc:e.col=0∨e.col=1∨e.col=2∨e.col=3∨e.col=4∨e.col=5:=by omega
   rcases hc with hc|hc|hc|hc|hc|hc<;>(simp[h1,hc];decide)
  ·simp only[h1,if_false,zQ]at ha;rw[Ex.NN h1];simp[h1];rw[aU (KBX e) e.kids.length (by simp[KBX,Ex.qJ,h1])]
   ·rw[aH];simp[KBX]
   ·intro i hi;have h3:=zX hi;have hm:=zU h3;have r2:=Ex.aN h3;have htk:=aM h3;generalize e.kids[i]=a at h3 hm r2 htk;have hk:=ih a hm (by have:=Ex.iN hm;omega) (ha a hm);have w2:IntKind.i64.wrap ((i:Int)+1)=i+1:=wrO;have hb:a.bits<2 ^ 6:=Ex.NP a (ha a hm);have hbl:Ex.qJ (e.kids.take i)<2 ^ 6:=Ex.NR fun x hx=>Ex.NP x (ha x (zA hx))
    have hor:=AG2 (a:=Ex.qJ (e.kids.take i)) (b:=a.bits) (by omega) (by omega);rw[Ex.aB a]at r2 hk;by_cases h0:i=0
    ·subst h0;simp[KBX,hi,r2,hk,dH,htk,Ex.CJ,Ex.qJ,AL4 (show a.bits<64 by omega),AEX (show a.bits<64 by omega)]
    ·simp[KBX,dL h0,hi,r2,hk,w2,htk,Ex.CJ,hor,ABZ (show a.bits<64 by omega),ABZ (show Ex.qJ (e.kids.take i)<64 by omega)]
def ANX (l:List Int) (n:Int) (i:Nat):AS :=
 { env:=[(0, .i (.isl (aF l))),(1, .int n),(4, .nils),(5, .int i),(6, .junk),(18,jk i (.bool true)),(32, .junk)],st:=[] }
theorem RB (l:List Int) (n:Int) (hl:l.length<1000000):aI C0 202 [.i (.isl (aF l)), .int n] []=some (.i (.isl (aF (TL l n))),[]):=by
 rw[aD rfl Tryz.func202 rfl rfl]
 have hlt:∀ i,i<l.findIdx (fun x=>!decide (x<n))→∃ x,l[i]?=some x∧x<n:=by
  intro i hi;have hle:=zC9 (xs:=l) (p:=fun x=>!decide (x<n));have:=List.not_of_lt_findIdx hi;exact⟨l[i]'(by omega),zX (by omega),by simpa using this⟩
 have hat:∀ x,l[l.findIdx fun x=>!decide (x<n)]?=some x→¬ x<n:=by
  intro x hx;obtain⟨h1,rfl⟩:=zZ.1 hx;have:=List.findIdx_getElem (w:=h1);simpa using this
 have hle:=zC9 (xs:=l) (p:=fun x=>!decide (x<n));unfold TL;generalize l.findIdx (fun x=>!decide (x<n))=j at *
 simp;rw[aU (ANX l n) j (by simp[ANX])]
 ·rw[aH]
  cases hj:l[j]? with
  | none =>
   have hjl:j=l.length:=by have:=zA4.1 hj;omega
   subst hjl;have hb:((l.length:Int)+1)*8≤140737488355328:=by omega
   have hb1:(l.length+1)*8≤140737488355328:=by omega
   have hb2:l.length*8≤140737488355328:=by omega
   have ht:List.take (l.length+1) (aF l++[[IV.lit (Value.int IntKind.i64 n)]])=aF l++[[IV.lit (Value.int IntKind.i64 n)]]:=zY (by simp);simp[ANX,hb1,hb2,fE,aF,ht]
  | some x =>
   have hx:=hat x hj;have hjl:=(zZ.1 hj).1;have r2:=bD hj;by_cases hxn:x=n
   ·subst hxn;simp[ANX,hjl,r2]
   ·have hb1:(j+1)*8≤140737488355328:=by omega
    have hb2:j*8≤140737488355328:=by omega
    have hb3:(j+1+(l.length-j))*8≤140737488355328:=by omega
    have t1:(l.take j).length=j:=by simp;omega
    have t2:(aF (l.take j)++[[IV.lit (Value.int IntKind.i64 n)]]).take (j+1)=aF (l.take j)++[[IV.lit (Value.int IntKind.i64 n)]]:=zY (by simp;omega);have t3:(l.drop j).take (l.length-j)=l.drop j:=zY (by simp);have t4:(aF (l.take j)++[[IV.lit (Value.int IntKind.i64 n)]]++aF (l.drop j)).take (j+1+(l.length-j))=aF (l.take j)++[[IV.lit (Value.int IntKind.i64 n)]]++aF (l.drop j):=zY (by simp;omega);have t5:(l.take j).take j=l.take j:=zY (by omega);simp[ANX,hjl,hle,r2,hx,hxn,hb1,hb2,hb3,fE,aF];rw[t5,t2,t3,t4];simp
 ·intro i hi;obtain⟨x,h3,hx⟩:=hlt i hi;have r2:=bD h3;have hil:=(zZ.1 h3).1;have w2:IntKind.i64.wrap ((i:Int)+1)=i+1:=wrO;simp[ANX,hil,r2,hx,w2]
end Go.Proofs.YtjdfjgmebalaaaaGreat.P
namespace Go.Av
theorem Ex.AJO {w w':Int} (h:w≤w'):∀ e:Ex,e.wf w=true→e.wf w'=true:=by
 intro e
 induction e using Ex.ind with
 | h k c v ks ih =>
  intro hw;rw[Ex.OB]at hw ⊢;simp only[zT]at hw ⊢;refine⟨hw.1,?_,?_⟩
  ·have h2:=hw.2.1;unfold Ex.headOk at h2 ⊢;split at h2
   ·rename_i h1;rw[if_pos h1];simp only[zT,zN]at h2 ⊢;exact⟨h2.1,by omega,h2.2.2⟩
   ·rename_i h1;rw[if_neg h1];exact h2
  ·rw[zQ]at *
   exact fun x hx=>ih x hx (hw.2.2 x hx)
theorem Ex.EL {w:Int} {e:Ex} (h:e.ok w=true):e.wf w=true∧1≤w∧w≤6:=by
 unfold Ex.ok bL at h;rw[Ex.OM]at h;simp only[zT,zN]at h;exact⟨h.2.1,h.1.1,h.1.2⟩
theorem Ex.ABP {w:Int} {e:Ex} (h:e.ok w=true):e.wf 6=true:=Ex.AJO (Ex.EL h).2.2 e (Ex.EL h).1
theorem Ex.UM {e:Ex} (h:e.wf 6=true):e.tY (fun c=>decide (0≤c∧c<6))=true:=Ex.M0 e h
theorem Ex.AEY {w:Int} {e:Ex} (h:e.wf w=true):e.tY (fun c=>decide (0≤c))=true:=Ex.oP (fun c hc=>by simp only[zN]at hc ⊢;exact hc.1) e (Ex.M0 e h)
theorem Ex.WU {f g:Int→Bool}:∀ e:Ex,e.tY f=true→e.tY g=true→e.tY (fun c=>f c && g c)=true:=by
 intro e
 induction e using Ex.ind with
 | h k c v ks ih =>
  intro h1 h2;rw[Ex.lG]at *
  by_cases hk:k=1
  ·subst hk;simp only[Ex.kind,Ex.col,if_true]at h1 h2 ⊢;simp[h1,h2]
  ·simp only[Ex.kind,Ex.kids,hk,if_false,zQ]at h1 h2 ⊢;exact fun x hx=>ih x hx (h1 x hx) (h2 x hx)
theorem AHA {e:Ex} {m:Int} (h:e.wf m=true) (lo hi:Int):(NV [] e=[]∨(∃ a,(NV [] e)[0]?=some a∧lo≤a)∧(∃ b,(NV [] e)[(NV [] e).length-1]?=some b∧b≤hi-1))↔e.cin lo hi=true:=by
 rw[← ADX (AHV e [] List.Pairwise.nil)];have:=AHW (fun x=>decide (lo≤x∧x<hi)) e [] h;unfold Ex.cin;constructor
 ·intro h1;exact(this.1 fun x hx=>by have:=h1 x hx;simp only[zN];omega).2
 ·intro h1 x hx;have:=this.2 ⟨by simp,h1⟩ x hx;simp only[zN]at this;omega
theorem RD:∀ (e:Ex) (l:List Int),(NV l e).length≤l.length+e.size:=by
 intro e
 induction e using Ex.ind with
 | h k c v ks ih =>
  intro l;have hm:NV l (.mk k c v ks)=lV (if k=1 then TL l c else l) ks:=by simp[NV]
  have hz:(Ex.mk k c v ks).size=1+Ex.aL ks:=by simp[Ex.size]
  rw[hm,hz]
  have:∀ (xs:List Ex) (l:List Int),(∀ x∈xs,x∈ks)→(lV l xs).length≤l.length+Ex.aL xs:=by
   intro xs
   induction xs with
   | nil=>intro l _;simp[lV]
   | cons a xs ihx =>
    intro l h;have h1:=ihx (NV l a) fun x hx=>h x (by simp[hx])
    have h2:=ih a (h a (by simp)) l;simp only[lV,Ex.aL];omega
  have h2:(TL l c).length≤l.length+1:=by
   unfold TL;split
   ·omega
   ·simp only[zK,yC,zO,xH];omega
  by_cases h1:k=1
  ·rw[if_pos h1];have:=this ks (TL l c) fun x hx=>hx
   omega
  ·rw[if_neg h1];have:=this ks l fun x hx=>hx
   omega
def okS (a:Int):Prop:=1≤a∧a≤7
theorem AH8:∀ a b:Fin 8,a.val≠0→b.val≠0→(1≤lJ 8 a.val b.val∧lJ 8 a.val b.val≤7)∧(1≤lJ 9 a.val b.val∧lJ 9 a.val b.val≤7)∧(1≤lJ 3 a.val b.val∧lJ 3 a.val b.val≤7)∧(1≤lJ 6 a.val b.val∧lJ 6 a.val b.val≤7):=by decide
theorem AM9 {k a b:Int} (ha:okS a) (hb:okS b):okS (lJ k a b):=by
 obtain⟨a,rfl⟩:=yS (show 0≤a by have:=ha.1;omega);obtain⟨b,rfl⟩:=yS (show 0≤b by have:=hb.1;omega);have h:=AH8 ⟨a,by have:=ha.2;omega⟩ ⟨b,by have:=hb.2;omega⟩ (by have:=ha.1;simp;omega) (by have:=hb.1;simp;omega);unfold okS;by_cases h8:k=8
 ·subst h8;exact h.1
 ·by_cases h9:k=9
  ·subst h9;exact h.2.1
  ·by_cases h6:k<6
   ·have e:lJ k a b=lJ 3 a b:=by simp[lJ,h8,h9,h6]
    rw[e];exact h.2.2.1
   ·have e:lJ k a b=lJ 6 a b:=by simp[lJ,h8,h9,h6]
    rw[e];exact h.2.2.2
theorem AG3:∀ a:Fin 8,a.val≠0→(1≤AS1 a.val∧AS1 a.val≤7)∧(1≤AS0 a.val∧AS0 a.val≤7):=by decide
theorem AOU (v:Val):okS (stV v):=by
 unfold stV okS;split
 ·omega
 ·split<;>omega
theorem T9 (st:List Int) (e:Ex):H7 st e=if e.kind=1 then(st[e.col.toNat]?).getD 0 else if e.kind=2 then stV e.val else if e.kind=10 then AS1 ((e.kids[0]?.map (H7 st)).getD 0)else if e.kind=11 then AS0 ((e.kids[0]?.map (H7 st)).getD 0)else lJ e.kind ((e.kids[0]?.map (H7 st)).getD 0) ((e.kids[1]?.map (H7 st)).getD 0):=by
 cases e
 simp only[H7,PR,Ex.kind,Ex.col,Ex.val,Ex.kids,zB6];congr
end Go.Av
namespace Go.Proofs.YtjdfjgmebalaaaaGreat.P
open Go Go.Av
set_option maxRecDepth 4000
set_option maxHeartbeats 4000000
@[simp] theorem wr0:IntKind.i64.wrap 0=0:=by decide
@[simp] theorem wr1:IntKind.i64.wrap 1=1:=by decide
@[simp] theorem wr2:IntKind.i64.wrap 2=2:=by decide
@[simp] theorem wr3:IntKind.i64.wrap 3=3:=by decide
@[simp] theorem wr4:IntKind.i64.wrap 4=4:=by decide
@[simp] theorem wr7:IntKind.i64.wrap 7=7:=by decide
@[simp] theorem AeO:(2:Nat) ^ IntKind.i64.bits=18446744073709551616:=rfl
@[simp] theorem AeP:(2:Int) ^ IntKind.i64.bits=18446744073709551616:=rfl
def ACX (e:Ex) (l:List Int) (i:Nat):AS :=
 { env:=[(0, .i (.isl (aF (lV l (e.kids.take i))))),(1, .i (.agg [.int e.kind, .int e.col, .bool e.val.null, .int e.val.n, .isl (Ex.aA e.kids)])),(3, .own 0 0),(4, .nils),(5, .int i),(8, .bool (e.kind == 1)),(17,jk i (.bool true))],
   st:=[some (.box [.int e.kind, .int e.col, .bool e.val.null, .int e.val.n, .i (.isl (Ex.aA e.kids))])] }
theorem NU:∀ e:Ex,∀ l:List Int,l.length+e.size<1000000→aI C0 189 [.i (.isl (aF l)), .i (.agg e.cells)] []=some (.i (.isl (aF (NV l e))),[]):=by
 intro e
 induction e using Ex.ind with
 | h k c v ks ih =>
  intro l hs;generalize he:Ex.mk k c v ks=e at *
  have hks:ks=e.kids:=by rw[← he];rfl
  subst hks;have hsz:=Ex.size_eq e;have hln:=Ex.bM e.kids
  have hrd:∀ l':List Int,l'.length≤l.length+1→∀ i,i<e.kids.length→∃ a,e.kids[i]?=some a∧e.kids.take (i+1)=e.kids.take i++[a]∧fO (Ex.aA e.kids) i=some a.cells∧aI C0 189 [.i (.isl (aF (lV l' (e.kids.take i)))), .i (.agg a.cells)] []=some (.i (.isl (aF (NV (lV l' (e.kids.take i)) a))),[]):=by
   intro l' hl' i hi;have h3:=zX hi;have hm:=zU h3;have htk:=aM h3;refine⟨e.kids[i],h3,htk,Ex.aN h3,ih _ hm _ ?_⟩
   have hadd:∀ (xs:List Ex) (l:List Int),(lV l xs).length≤l.length+Ex.aL xs:=by
    intro xs
    induction xs with
    | nil=>intro l;simp[lV]
    | cons a xs ihx=>intro l;have h1:=ihx (NV l a);have h2:=RD a l;simp only[lV,Ex.aL];omega
   have h1:=hadd (e.kids.take i) l'
   have hsum:∀ (xs ys:List Ex),Ex.aL (xs++ys)=Ex.aL xs+Ex.aL ys:=by
    intro xs
    induction xs with
    | nil=>intro ys;simp[Ex.aL]
    | cons a xs ihx=>intro ys;simp[Ex.aL,ihx,yG]
   have h2:=hsum (e.kids.take (i+1)) (e.kids.drop (i+1));rw[xV,htk,hsum]at h2;simp only[Ex.aL]at h2;omega
  rw[aD rfl Tryz.func189 rfl rfl,Ex.aB,UI];by_cases h1:e.kind=1
  ·have hn:=RB l e.col (by omega)
   have hil:(TL l e.col).length≤l.length+1:=by
    unfold TL;split
    ·omega
    ·simp only[zK,yC,zO,xH];omega
   simp[h1,hn];rw[aU (ACX e (TL l e.col)) e.kids.length (by simp[ACX,lV,h1])]
   ·rw[aH];simp[ACX]
   ·intro i hi;obtain⟨a,h3,htk,r2,hk⟩:=hrd _ hil i hi;have w2:IntKind.i64.wrap ((i:Int)+1)=i+1:=wrO;rw[Ex.aB a]at r2 hk;simp[ACX,hi,r2,hk,w2,htk,CO]
  ·simp[h1];rw[aU (ACX e l) e.kids.length (by simp[ACX,lV,h1])]
   ·rw[aH];simp[ACX]
   ·intro i hi;obtain⟨a,h3,htk,r2,hk⟩:=hrd l (by omega) i hi;have w2:IntKind.i64.wrap ((i:Int)+1)=i+1:=wrO;rw[Ex.aB a]at r2 hk;simp[ACX,hi,r2,hk,w2,htk,CO]
theorem O9 (e:Ex) {m:Int} (hw:e.wf m=true) (hs:e.size<100000) (lo hi:Int) (hh:-100≤hi∧hi≤100):aI C0 168 [.i (.agg e.cells), .int lo, .int (hi-1)] []=some (.bool (e.cin lo hi),[]):=by
 have ha:=NU e [] (by simp;omega);have hc:=AHA hw lo hi;have hsz:=RD e [];rw[aD rfl Tryz.func168 rfl rfl];generalize NV [] e=l at *
 rw[Ex.aB]at *
 simp only[aF]at ha
 cases hl:l with
 | nil =>
  have:e.cin lo hi=true:=hc.1 (.inl hl);rw[hl]at ha;simp[ha,this,aF]
 | cons a r =>
  have h0:l[0]?=some a:=by rw[hl];rfl
  have hlen:0<l.length:=by rw[hl];simp
  have hk:l.length-1<l.length:=by omega
  have h2:=zX hk;generalize l[l.length-1]=b at h2;have r0:=bD h0;have r2:=bD h2;have w1:IntKind.i64.wrap ((l.length:Int)-1)=((l.length-1:Nat):Int):=by rw[wrap64 (by simp at hsz;omega) (by simp at hsz;omega)];omega
  have hne:¬ l=[]:=by rw[hl];simp
  have hiff:e.cin lo hi=(decide (lo≤a) && decide (b≤hi-1)):=by
   rw[zB3,← hc];simp only[zT,zN];constructor
   ·rintro(h|⟨⟨x,hx,h3⟩,y,hy,h4⟩)
    ·exact absurd h hne
    ·rw[h0]at hx;rw[h2]at hy;injection hx with hx;injection hy with hy;subst hx;subst hy;exact⟨h3,h4⟩
   ·rintro⟨h3,h4⟩;exact .inr ⟨⟨a,h0,h3⟩,b,h2,h4⟩
  rw[hiff];by_cases q:lo≤a
  ·have q2:a ≥ lo:=q;simp[ha,hne,r0,r2,w1,hlen,hk,q]
  ·simp[ha,hne,r0,hlen,q]
theorem kU (b:Bool) (n:Int):aI C0 196 [.i (.agg [.bool b, .int n])] []=some (.int (stV ⟨b,n⟩),[]):=by
 rw[aD rfl Tryz.func196 rfl rfl]
 cases b
 ·by_cases h:n=0<;>simp[stV,h]
 ·simp[stV]
theorem OY (b:Bool) (n:Int):aI C0 203 [.i (.agg [.bool b, .int n])] []=some (.int (stV ⟨b,n⟩),[]):=by
 rw[aD rfl Tryz.func203 rfl rfl]
 cases b
 ·by_cases h:n=0<;>simp[stV,h]
 ·simp[stV]
theorem XB (x:Int):aI C0 210 [.int x] []=some (.i (.agg [.bool (decide (x=4)), .int (if x=2 then 1 else 0)]),[]):=by
 rw[aD rfl Tryz.func210 rfl rfl];by_cases h:x=4
 ·subst h;simp
 ·by_cases h2:x=2
  ·subst h2;simp
  ·simp[h,h2]
theorem eight {a:Int} (h:0≤a∧a≤7):a=0∨a=1∨a=2∨a=3∨a=4∨a=5∨a=6∨a=7:=by omega
theorem J9 {a:Int} (h:0≤a∧a≤7):aI C0 207 [.int a] []=some (.i (.isl (uM (exS a))),[]):=by
 rw[aD rfl Tryz.func207 rfl rfl];have s0:=kU false 0;have s1:=kU false 1;have s2:=kU true 0;simp only[stV,yR,if_false,if_true,Int.reduceEq]at s0 s1 s2
 rcases eight h with rfl|rfl|rfl|rfl|rfl|rfl|rfl|rfl
 all_goals
  simp;rw[aH];simp[s0,s1,s2];rw[aH];simp[s0,s1,s2];rw[aH];simp[s0,s1,s2];rw[aH];simp[exS,jG,uM]
theorem aR (e:Ex) (k:Pn):(filt e k).cells=[.int 2, .int 0, .isl [e.cells], .isl [], .isl [k.cells]]:=by simp[filt,Pn.cells,Ex.aA,aF,Pn.aA]
theorem jB (es:List Ex) (k:Pn):(proj es k).cells=[.int 3, .int 0, .isl (Ex.aA es), .isl [], .isl [k.cells]]:=by simp[proj,Pn.cells,aF,Pn.aA]
theorem pair_cells (kd:Int) (e:Ex) (a b:Pn):(bC kd e a b).cells=[.int kd, .int 0, .isl [e.cells], .isl [], .isl [a.cells,b.cells]]:=by simp[bC,Pn.cells,Ex.aA,aF,Pn.aA]
theorem FZ (a b:Pn):(dP a b).cells=[.int 6, .int 0, .isl [], .isl [], .isl [a.cells,b.cells]]:=by simp[dP,Pn.cells,Ex.aA,aF,Pn.aA]
theorem oO (a b:Ex):(WS a b).cells=[.int 8, .int 0, .bool false, .int 0, .isl [a.cells,b.cells]]:=by simp[WS,Ex.cells,Ex.aA,Val.zero]
theorem kH (c:Int):(WN c).cells=[.int 1, .int c, .bool false, .int 0, .isl []]:=by simp[WN,Ex.cells,Ex.aA,Val.zero]
theorem aS:Pn.zero.cells=[.int 0, .int 0, .isl [], .isl [], .isl []]:=by simp[Pn.zero,Pn.cells,Ex.aA,aF,Pn.aA]
theorem dZ (e:Ex) (k:Pn):aI C0 149 [.i (.agg e.cells), .i (.agg k.cells)] []=some (.i (.agg (filt e k).cells),[]):=by
 rw[aD rfl Tryz.func149 rfl rfl,aR,Ex.aB,Pn.aB];simp
theorem mH (kd:Int) (e:Ex) (a b:Pn):aI C0 152 [.int kd, .i (.agg e.cells), .i (.agg a.cells), .i (.agg b.cells)] []=some (.i (.agg (bC kd e a b).cells),[]):=by
 rw[aD rfl Tryz.func152 rfl rfl,pair_cells,Ex.aB,Pn.aB a,Pn.aB b];simp
theorem ADI (a b:Ex):aI C0 150 [.i (.agg a.cells), .i (.agg b.cells)] []=some (.i (.agg (WS a b).cells),[]):=by
 rw[aD rfl Tryz.func150 rfl rfl,oO,Ex.aB a,Ex.aB b];simp
theorem BZ (c:Int):aI C0 156 [.int c] []=some (.i (.agg (WN c).cells),[]):=by
 rw[aD rfl Tryz.func156 rfl rfl,kH];simp
theorem eY {p:Pn} {kd:Int} (h:p.kind≠2):aI C0 148 [.i (.iref p.cells), .int kd] []=some (.tup [.i (.lit (.pointer none)), .i (.lit (.pointer none)), .bool false],[]):=by
 rw[aD rfl Tryz.func148 rfl rfl,Pn.aB];simp[h]
theorem dN {e:Ex} {k:Pn} {kd:Int} (h:k.kind≠kd):aI C0 148 [.i (.iref (filt e k).cells), .int kd] []=some (.tup [.i (.lit (.pointer none)), .i (.lit (.pointer none)), .bool false],[]):=by
 rw[aD rfl Tryz.func148 rfl rfl,aR,Pn.aB k];simp[h]
theorem fA {e:Ex} {k:Pn} {kd:Int} (h:k.kind=kd):aI C0 148 [.i (.iref (filt e k).cells), .int kd] []=some (.tup [.i (.iref e.cells), .i (.iref k.cells), .bool true],[]):=by
 rw[aD rfl Tryz.func148 rfl rfl,aR,Pn.aB k,Ex.aB e];simp[h]
theorem SV (c w:Int) (h0:0≤c∧c≤6) (hw:0≤w∧w≤6):aI C0 154 [.int c, .own 0 0] [some (.box [.int w])]=some (.int (c-w),[some (.box [.int w])]):=by
 rw[aD rfl Tryz.func154 rfl rfl];have w1:IntKind.i64.wrap (c-w)=c-w:=wrO;simp[w1]
theorem KQ (c a b:Int) (h0:0≤c∧c≤12) (ha:0≤a∧a≤6) (hb:0≤b∧b≤6):aI C0 155 [.int c, .own 0 0, .own 1 0] [some (.box [.int a]),some (.box [.int b])]=some (.int (p9 a b c),[some (.box [.int a]),some (.box [.int b])]):=by
 rw[aD rfl Tryz.func155 rfl rfl];have w1:IntKind.i64.wrap (c-a)=c-a:=wrO;have w2:IntKind.i64.wrap (c+b)=c+b:=wrO;unfold p9;by_cases h:c<a
 ·simp[h,w2]
 ·simp[h,w1]
def zrw:List IV:=[.int 0, .int 0, .bool false, .int 0, .isl []]
@[simp] theorem ADB {e:Ex} (h:e.size<1000000000):aI C0 92 [.i (.iref e.cells)] []=some (.i (.agg e.cells),[]):=by
  rw[bP (p:=U4) rfl];exact WJ h
theorem ABB {e:Ex} {w:Int} (hw:0≤w∧w≤6) (hk:e.kind=1) (hc:0≤e.col∧e.col<6) :
 aI C0 177 [.i (.iref e.cells), .own 0 0] [some (.box [.fn (.func 154) [.own 1 0]]),some (.box [.int w])]=some (.i (.agg (WN (e.col-w)).cells),[some (.box [.fn (.func 154) [.own 1 0]]),some (.box [.int w])]):=by
 have hp:=SV e.col w (by omega) hw;have h2:=BZ (e.col-w);rw[aD rfl Tryz.func177 rfl rfl,Ex.aB e];rw[kH]at *
 simp[hk,hp,h2]
theorem AB9 {e:Ex} {w:Int} (hk:e.kind≠1) (hs:e.size<1000000000) :
 aI C0 177 [.i (.iref e.cells), .own 0 0] [some (.box [.fn (.func 154) [.own 1 0]]),some (.box [.int w])]=some (.i (.agg e.cells),[some (.box [.fn (.func 154) [.own 1 0]]),some (.box [.int w])]):=by
 have hc:=ADB hs;rw[aD rfl Tryz.func177 rfl rfl];rw[Ex.aB e]at *
 simp[hk,hc]
def RNR (e:Ex) (w:Int) (f:Ex→Ex) (i:Nat):AS :=
 { env:=[(0, .i (.iref [.int e.kind, .int e.col, .bool e.val.null, .int e.val.n, .isl (Ex.aA e.kids)])),(1, .fn (.func 177) [.own 0 0]),(4, .own 2 0),(5, .own 3 0),(6,jk i (.int (i-1))),(12, .bool ((e.kids.length:Int) == 0)),(39, .int e.kids.length),(40, .int i),(41,jk i (.bool true))],
   st:=[some (.box [.fn (.func 154) [.own 1 0]]),some (.box [.int w]),some (.box [.int 0, .int 0, .bool false, .int 0, .nils]),some (.box [.int e.kind, .int e.col, .bool e.val.null, .int e.val.n, .osl 4 5 0 e.kids.length]),some (.arr 5 (Ex.aA ((e.kids.map f).take i)++List.replicate (e.kids.length-i) zrw))] }
theorem AT5 {e:Ex} {w:Int} {f:Ex→Ex} (hk:e.kids≠[]) (hl:e.kids.length<1000000000) (ih:∀ x∈e.kids,aI C0 176 [.i (.iref x.cells), .fn (.func 177) [.own 0 0]] [some (.box [.fn (.func 154) [.own 1 0]]),some (.box [.int w])]=some (.i (.agg (f x).cells),[some (.box [.fn (.func 154) [.own 1 0]]),some (.box [.int w])])) :
 aI C0 176 [.i (.iref e.cells), .fn (.func 177) [.own 0 0]] [some (.box [.fn (.func 154) [.own 1 0]]),some (.box [.int w])]=some (.i (.agg (Ex.mk e.kind e.col e.val (e.kids.map f)).cells),[some (.box [.fn (.func 154) [.own 1 0]]),some (.box [.int w])]):=by
 rw[aD rfl Tryz.func176 rfl rfl,Ex.aB];have hb:56*(e.kids.length:Int)≤281474976710656:=by omega
 simp[hk,hb];rw[aU (RNR e w f) e.kids.length (by simp[RNR,Ex.aA,zrw])]
 ·rw[aH];have ht:(e.kids.map f).take e.kids.length=e.kids.map f:=zY (by simp);simp[RNR,Ex.cells,ht]
 ·intro i hi;have h3:=zX hi;have hm:=zU h3;have hc:=ih _ hm;have r2:=Ex.aN h3;generalize e.kids[i]=x at h3 hc r2;have w2:IntKind.i64.wrap ((i:Int)+1)=i+1:=wrO;rw[Ex.aB]at hc r2;have hD:(Ex.aA ((e.kids.map f).take i)).length=i:=by simp;omega
  have hS:Ex.aA ((e.kids.map f).take i)++[(f x).cells]=Ex.aA ((e.kids.map f).take (i+1)):=by rw[aM (a:=f x) (by simp[h3]),Ex.aW]
  have g1:=tF (n:=e.kids.length) (z:=zrw) hD hi;have g2:=sZ (n:=e.kids.length) (z:=zrw) (x:=(f x).cells) hD hi;have g3:splice zrw 0 (f x).cells=some (f x).cells:=iZ (by simp[zrw]);rw[hS]at g2;simp[RNR,hi,r2,hc,w2,g1,g2,g3]
theorem APK {e x:Ex} {w:Int} (hk:e.kids=[]) (h:aI C0 177 [.i (.iref e.cells), .own 0 0] [some (.box [.fn (.func 154) [.own 1 0]]),some (.box [.int w])]=some (.i (.agg x.cells),[some (.box [.fn (.func 154) [.own 1 0]]),some (.box [.int w])])) :
 aI C0 176 [.i (.iref e.cells), .fn (.func 177) [.own 0 0]] [some (.box [.fn (.func 154) [.own 1 0]]),some (.box [.int w])]=some (.i (.agg x.cells),[some (.box [.fn (.func 154) [.own 1 0]]),some (.box [.int w])]):=by
 rw[aD rfl Tryz.func176 rfl rfl];rw[Ex.aB e]at h ⊢;rw[Ex.aB x]at h ⊢;simp[hk,Ex.aA]at h ⊢;simp[h]
theorem AB3 {w:Int} (hw:0≤w∧w≤6):∀ (e:Ex),e.wf 6=true→e.size<1000000000→aI C0 176 [.i (.iref e.cells), .fn (.func 177) [.own 0 0]] [some (.box [.fn (.func 154) [.own 1 0]]),some (.box [.int w])]=some (.i (.agg (e.uX (·-w)).cells),[some (.box [.fn (.func 154) [.own 1 0]]),some (.box [.int w])]):=by
 intro e
 induction e using Ex.ind with
 | h k c v ks ih =>
  intro hx6 hs;have hsz:=Ex.size_eq (.mk k c v ks);have hln:=Ex.bM ks;simp only[Ex.kids]at hsz;by_cases h1:k=1
  ·have hc:=Ex.uA hx6 (by simpa [Ex.kind]using h1);rw[Ex.F6 _ (by simpa [Ex.kind]using h1)];exact APK hc.2.2 (ABB hw (by simpa [Ex.kind]using h1) ⟨hc.1,hc.2.1⟩)
  ·rw[Ex.F5 _ (by simpa [Ex.kind]using h1)];by_cases hk:ks=[]
   ·subst hk;exact APK rfl (AB9 (by simpa [Ex.kind]using h1) hs)
   ·exact AT5 hk (by simp only[Ex.kids];omega) fun x hx=>ih x hx (Ex.nP hx6 hx) (by have:=Ex.iN (l:=ks) hx;omega)
theorem SN {w:Int} (hw:0≤w∧w≤6) (e:Ex) (hx6:e.wf 6=true) (hs:e.size<1000000000):aI C0 153 [.i (.iref e.cells), .fn (.func 154) [.own 0 0]] [some (.box [.int w])]=some (.i (.agg (e.uX (·-w)).cells),[some (.box [.int w])]):=by
 have h:=AB3 hw e hx6 hs;rw[aD rfl Tryz.func153 rfl rfl];generalize e.uX (·-w)=x at *
 rw[Ex.aB e,Ex.aB x]at *
 simp[h]
theorem ABA {e:Ex} {a b:Int} (ha:0≤a∧a≤6) (hb:0≤b∧b≤6) (hk:e.kind=1) (hc:0≤e.col∧e.col<6) :
 aI C0 177 [.i (.iref e.cells), .own 0 0] [some (.box [.fn (.func 155) [.own 1 0, .own 2 0]]),some (.box [.int a]),some (.box [.int b])]=some (.i (.agg (WN (p9 a b e.col)).cells),[some (.box [.fn (.func 155) [.own 1 0, .own 2 0]]),some (.box [.int a]),some (.box [.int b])]):=by
 have hp:=KQ e.col a b (by omega) ha hb;have h2:=BZ (p9 a b e.col);rw[aD rfl Tryz.func177 rfl rfl,Ex.aB e];rw[kH]at *
 simp[hk,hp,h2]
theorem AB8 {e:Ex} {a b:Int} (hk:e.kind≠1) (hs:e.size<1000000000) :
 aI C0 177 [.i (.iref e.cells), .own 0 0] [some (.box [.fn (.func 155) [.own 1 0, .own 2 0]]),some (.box [.int a]),some (.box [.int b])]=some (.i (.agg e.cells),[some (.box [.fn (.func 155) [.own 1 0, .own 2 0]]),some (.box [.int a]),some (.box [.int b])]):=by
 have hc:=ADB hs;rw[aD rfl Tryz.func177 rfl rfl];rw[Ex.aB e]at *
 simp[hk,hc]
def RNS (e:Ex) (a b:Int) (f:Ex→Ex) (i:Nat):AS :=
 { env:=[(0, .i (.iref [.int e.kind, .int e.col, .bool e.val.null, .int e.val.n, .isl (Ex.aA e.kids)])),(1, .fn (.func 177) [.own 0 0]),(4, .own 3 0),(5, .own 4 0),(6,jk i (.int (i-1))),(12, .bool ((e.kids.length:Int) == 0)),(39, .int e.kids.length),(40, .int i),(41,jk i (.bool true))],
   st:=[some (.box [.fn (.func 155) [.own 1 0, .own 2 0]]),some (.box [.int a]),some (.box [.int b]),some (.box [.int 0, .int 0, .bool false, .int 0, .nils]),some (.box [.int e.kind, .int e.col, .bool e.val.null, .int e.val.n, .osl 5 5 0 e.kids.length]),some (.arr 5 (Ex.aA ((e.kids.map f).take i)++List.replicate (e.kids.length-i) zrw))] }
theorem AT4 {e:Ex} {a b:Int} {f:Ex→Ex} (hk:e.kids≠[]) (hl:e.kids.length<1000000000) (ih:∀ x∈e.kids,aI C0 176 [.i (.iref x.cells), .fn (.func 177) [.own 0 0]] [some (.box [.fn (.func 155) [.own 1 0, .own 2 0]]),some (.box [.int a]),some (.box [.int b])]=some (.i (.agg (f x).cells),[some (.box [.fn (.func 155) [.own 1 0, .own 2 0]]),some (.box [.int a]),some (.box [.int b])])) :
 aI C0 176 [.i (.iref e.cells), .fn (.func 177) [.own 0 0]] [some (.box [.fn (.func 155) [.own 1 0, .own 2 0]]),some (.box [.int a]),some (.box [.int b])]=some (.i (.agg (Ex.mk e.kind e.col e.val (e.kids.map f)).cells),[some (.box [.fn (.func 155) [.own 1 0, .own 2 0]]),some (.box [.int a]),some (.box [.int b])]):=by
 rw[aD rfl Tryz.func176 rfl rfl,Ex.aB];have hb:56*(e.kids.length:Int)≤281474976710656:=by omega
 simp[hk,hb];rw[aU (RNS e a b f) e.kids.length (by simp[RNS,Ex.aA,zrw])]
 ·rw[aH];have ht:(e.kids.map f).take e.kids.length=e.kids.map f:=zY (by simp);simp[RNS,Ex.cells,ht]
 ·intro i hi;have h3:=zX hi;have hm:=zU h3;have hc:=ih _ hm;have r2:=Ex.aN h3;generalize e.kids[i]=x at h3 hc r2;have w2:IntKind.i64.wrap ((i:Int)+1)=i+1:=wrO;rw[Ex.aB]at hc r2;have hD:(Ex.aA ((e.kids.map f).take i)).length=i:=by simp;omega
  have hS:Ex.aA ((e.kids.map f).take i)++[(f x).cells]=Ex.aA ((e.kids.map f).take (i+1)):=by rw[aM (a:=f x) (by simp[h3]),Ex.aW]
  have g1:=tF (n:=e.kids.length) (z:=zrw) hD hi;have g2:=sZ (n:=e.kids.length) (z:=zrw) (x:=(f x).cells) hD hi;have g3:splice zrw 0 (f x).cells=some (f x).cells:=iZ (by simp[zrw]);rw[hS]at g2;simp[RNS,hi,r2,hc,w2,g1,g2,g3]
theorem APJ {e x:Ex} {a b:Int} (hk:e.kids=[]) (h:aI C0 177 [.i (.iref e.cells), .own 0 0] [some (.box [.fn (.func 155) [.own 1 0, .own 2 0]]),some (.box [.int a]),some (.box [.int b])]=some (.i (.agg x.cells),[some (.box [.fn (.func 155) [.own 1 0, .own 2 0]]),some (.box [.int a]),some (.box [.int b])])) :
 aI C0 176 [.i (.iref e.cells), .fn (.func 177) [.own 0 0]] [some (.box [.fn (.func 155) [.own 1 0, .own 2 0]]),some (.box [.int a]),some (.box [.int b])]=some (.i (.agg x.cells),[some (.box [.fn (.func 155) [.own 1 0, .own 2 0]]),some (.box [.int a]),some (.box [.int b])]):=by
 rw[aD rfl Tryz.func176 rfl rfl];rw[Ex.aB e]at h ⊢;rw[Ex.aB x]at h ⊢;simp[hk,Ex.aA]at h ⊢;simp[h]
theorem AB2 {a b:Int} (ha:0≤a∧a≤6) (hb:0≤b∧b≤6):∀ (e:Ex),e.wf 6=true→e.size<1000000000→aI C0 176 [.i (.iref e.cells), .fn (.func 177) [.own 0 0]] [some (.box [.fn (.func 155) [.own 1 0, .own 2 0]]),some (.box [.int a]),some (.box [.int b])]=some (.i (.agg (e.uX (p9 a b)).cells),[some (.box [.fn (.func 155) [.own 1 0, .own 2 0]]),some (.box [.int a]),some (.box [.int b])]):=by
 intro e
 induction e using Ex.ind with
 | h k c v ks ih =>
  intro hx6 hs;have hsz:=Ex.size_eq (.mk k c v ks);have hln:=Ex.bM ks;simp only[Ex.kids]at hsz;by_cases h1:k=1
  ·have hc:=Ex.uA hx6 (by simpa [Ex.kind]using h1);rw[Ex.F6 _ (by simpa [Ex.kind]using h1)];exact APJ hc.2.2 (ABA ha hb (by simpa [Ex.kind]using h1) ⟨hc.1,hc.2.1⟩)
  ·rw[Ex.F5 _ (by simpa [Ex.kind]using h1)];by_cases hk:ks=[]
   ·subst hk;exact APJ rfl (AB8 (by simpa [Ex.kind]using h1) hs)
   ·exact AT4 hk (by simp only[Ex.kids];omega) fun x hx=>ih x hx (Ex.nP hx6 hx) (by have:=Ex.iN (l:=ks) hx;omega)
theorem SK {a b:Int} (ha:0≤a∧a≤6) (hb:0≤b∧b≤6) (e:Ex) (hx6:e.wf 6=true) (hs:e.size<1000000000):aI C0 153 [.i (.iref e.cells), .fn (.func 155) [.own 0 0, .own 1 0]] [some (.box [.int a]),some (.box [.int b])]=some (.i (.agg (e.uX (p9 a b)).cells),[some (.box [.int a]),some (.box [.int b])]):=by
 have h:=AB2 ha hb e hx6 hs;rw[aD rfl Tryz.func153 rfl rfl];generalize e.uX (p9 a b)=x at *
 rw[Ex.aB e,Ex.aB x]at *
 simp[h]
end Go.Proofs.YtjdfjgmebalaaaaGreat.P
namespace Go.Av
theorem MO (a b:Nat):orS a b=((a ||| b:Nat):Int):=by simp[orS]
def O4 (k:Int) (v:Val) (l:List Val) (s:Int) (j:Nat):Int:=(l.take j).foldl (fun s w=>orS s (stV (Val.cmb k v w))) s
def RN (k:Int) (l r:List Val) (i:Nat):Int:=(l.take i).foldl (fun s v=>r.foldl (fun s w=>orS s (stV (Val.cmb k v w))) s) 0
theorem RF {k:Int} {v w:Val} {l:List Val} {s:Int} {j:Nat} (h:l[j]?=some w):O4 k v l s (j+1)=orS (O4 k v l s j) (stV (Val.cmb k v w)):=by
 unfold O4;rw[aM h,zC5];rfl
theorem JM {k:Int} {v:Val} {l r:List Val} {i:Nat} (h:l[i]?=some v):RN k l r (i+1)=O4 k v r (RN k l r i) r.length:=by
 unfold RN O4;rw[aM h,zC5,List.take_length];rfl
def ZY (s:Int):Prop:=∃ n:Nat,s=n∧n<8
theorem GA (v:Val):ZY (stV v):=by
 unfold stV;split
 ·exact⟨4,rfl,by omega⟩
 ·split
  ·exact⟨1,rfl,by omega⟩
  ·exact⟨2,rfl,by omega⟩
theorem ABO {a b:Int} (ha:ZY a) (hb:ZY b):ZY (orS a b):=by
 obtain⟨m,rfl,hm⟩:=ha;obtain⟨n,rfl,hn⟩:=hb;exact⟨m ||| n,MO m n,xA (n:=3) hm hn⟩
theorem FJ {k:Int} {v:Val}:∀ (l:List Val) {s:Int} (j:Nat),ZY s→ZY (O4 k v l s j)
 | [],s,j,h=>by simpa [O4]using h
 | a::l,s,0,h=>by simpa [O4]using h
 | a::l,s,j+1,h=>by
  have:=FJ (k:=k) (v:=v) l (s:=orS s (stV (Val.cmb k v a))) j (ABO h (GA _));simpa [O4]using this
theorem WV {k:Int} {r:List Val} (l:List Val) (i:Nat) (hi:i≤l.length):ZY (RN k l r i):=by
 induction i with
 | zero=>exact⟨0,by simp[RN],by omega⟩
 | succ i ih =>
  rw[JM (zX (show i<l.length by omega))];exact FJ r _ (ih (by omega))
theorem AH9 {k a b:Int} (h:k=8∨k=9):lJ k a b=RN k (exS a) (exS b) (exS a).length:=by
 unfold lJ RN;rw[if_pos h,List.take_length]
theorem AJC {a:Int} {v:Val} (h:v∈exS a):v.ok=true:=by
 unfold exS at h;simp only[zV]at h
 rcases h with h|h|h
 ·split at h
  ·simp at h;subst h;rfl
  ·cases h
 ·split at h
  ·simp at h;subst h;rfl
  ·cases h
 ·split at h
  ·simp at h;subst h;rfl
  ·cases h
theorem AQS {b:Int} (h:okS b):exS b≠[]:=by
 obtain⟨h1,h2⟩:=h;have:b=1∨b=2∨b=3∨b=4∨b=5∨b=6∨b=7:=by omega
 rcases this with rfl|rfl|rfl|rfl|rfl|rfl|rfl<;>decide
theorem AD5 (a:Int):(exS a).length≤3:=by
 unfold exS;simp only[zK]
 repeat' split
 all_goals simp
end Go.Av
namespace Go.Proofs.YtjdfjgmebalaaaaGreat.P
open Go Go.Av
set_option maxRecDepth 4000
set_option maxHeartbeats 4000000
theorem DV {n:Nat} (h:n<8):n % 18446744073709551616=n:=Nat.mod_eq_of_lt (by omega)
theorem or8 {m n:Nat} (hm:m<8) (hn:n<8):IntKind.i64.wrap ((m ||| n:Nat):Int)=((m ||| n:Nat):Int):=by
 have:=xA (n:=3) hm hn;exact wrO
def vBx (v:Val):Option Blk:=some (.box [.bool v.null, .int v.n])
def vAt (l:List Val) (i:Nat):Val:=(l[i]?).getD Val.zero
def jz (i:Nat) (v:AV):AV:=if i=0 then .junk else v
@[simp] theorem AgE (v:AV):jz 0 v=.junk:=rfl
@[simp] theorem AgD (i:Nat) (v:AV):jz (i+1) v=v:=rfl
theorem EA {i:Nat} (h:i≠0) (v:AV):jz i v=v:=if_neg h
def CSX (k a b:Int) (A B:List Val) (i:Nat):AS :=
 { env:=[(0, .int k),(1, .int a),(2, .int b),(6, .int 0),(7, .int (RN k A B i)),(9,jz i (.own 0 0)),(11,jz i (.own 1 0)),(17, .bool true),(19, .i (.isl (uM A))),(20, .int A.length),(21, .int i),(22,jz i (.bool true)),(26,jz i (.i (.isl (uM B)))),(27,jz i (.int B.length)),(28,jz i (.int B.length)),(29,jz i (.bool false)),(46, .junk),(54, .junk),(66, .junk)],
   st:=if i=0 then []else [vBx (vAt A (i-1)),vBx (vAt B (B.length-1))] }
def CSI (k a b:Int) (A B:List Val) (i:Nat) (j:Nat):AS :=
 { env:=[(0, .int k),(1, .int a),(2, .int b),(6, .int 0),(7, .int (O4 k (vAt A i) B (RN k A B i) j)),(9, .own 0 0),(11,if j=0 then jz i (.own 1 0)else .own 1 0),(17, .bool true),(19, .i (.isl (uM A))),(20, .int A.length),(21, .int i),(22, .bool true),(26, .i (.isl (uM B))),(27, .int B.length),(28, .int j),(29,if j=0 then jz i (.bool false)else .bool true),(46, .junk),(54, .junk),(66, .junk)],
   st:=vBx (vAt A i)::(if j=0 then(if i=0 then []else [vBx (vAt B (B.length-1))])else [vBx (vAt B (j-1))]) }
theorem AL {k a b:Int} (hk:k=8∨k=9) (ha:okS a) (hb:okS b):aI C0 197 [.int k, .int a, .int b] []=some (.int (lJ k a b),[]):=by
 have hea:=J9 (a:=a) ⟨by have:=ha.1;omega,ha.2⟩;have heb:=J9 (a:=b) ⟨by have:=hb.1;omega,hb.2⟩;have hbn:=AQS hb;have hbl:(exS b).length≠0:=fun h=>hbn (zW.1 h)
 have la:=AD5 a;have lb:=AD5 b;have oka:∀ v∈exS a,v.ok=true:=fun v hv=>AJC hv
 have okb:∀ v∈exS b,v.ok=true:=fun v hv=>AJC hv
 rw[aD rfl Tryz.func197 rfl rfl,AH9 hk];generalize exS a=A at *
 generalize exS b=B at *
 rcases hk with rfl|rfl
 ·simp[hea];rw[aU (CSX 8 a b A B) A.length (by simp[CSX,RN])]
  ·rw[aH];simp[CSX]
  ·intro i hi;have h3:=zX hi;have hm:=zU h3;generalize A[i]=v at h3 hm;have rA:=qW h3;have hv:vAt A i=v:=by simp[vAt,h3]
   have w2:IntKind.i64.wrap ((i:Int)+1)=i+1:=wrO;have hlow0:=WV (k:=8) (r:=B) A i (by omega);have hsc:=JM (k:=8) (r:=B) h3
   have inner:∀ j,j<B.length→∃ w,B[j]?=some w∧w∈B∧fO (uM B) j=some [.bool w.null, .int w.n]∧vAt B j=w∧∃ m n:Nat,O4 8 v B (RN 8 A B i) j=m∧stV (Val.cmb 8 v w)=n∧m<8∧n<8∧O4 8 v B (RN 8 A B i) (j+1)=((m ||| n:Nat):Int)∧IntKind.i64.wrap ((m ||| n:Nat):Int)=((m ||| n:Nat):Int):=by
    intro j hj;have q3:=zX hj;obtain⟨m,hm1,hm2⟩:=FJ (k:=8) (v:=v) B j hlow0;obtain⟨n,hn1,hn2⟩:=GA (Val.cmb 8 v B[j]);refine⟨B[j],q3,xG hj,qW q3,by simp[vAt,q3],m,n,hm1,hn1,hm2,hn2,?_,or8 hm2 hn2⟩;rw[RF q3,hm1,hn1,MO]
   by_cases h0:i=0
   ·subst h0;simp[CSX,hi,rA,heb];rw[aU (CSI 8 a b A B 0) B.length (by simp[CSI,O4,hv,vBx])]
    ·rw[aH];simp[CSI,hbl,w2,hv,hsc,CSX,vBx]
    ·intro j hj;obtain⟨w,q3,qm,q4,q5,m,n,m1,n1,m2,n2,hn,hwr⟩:=inner j hj;have hcm:=qF 8 v w (oka v hm) (okb w qm);have hst:=kU (Val.cmb 8 v w).null (Val.cmb 8 v w).n;have w3:IntKind.i64.wrap ((j:Int)+1)=j+1:=wrO;rw[show stV ⟨(Val.cmb 8 v w).null,(Val.cmb 8 v w).n⟩=stV (Val.cmb 8 v w)from rfl,n1]at hst;by_cases j0:j=0
     ·subst j0;simp[CSI,hj,hv,q4,q5,vBx,m1,hcm,hst,DV m2,DV n2,hwr,hn]
     ·simp[CSI,hj,hv,q4,q5,vBx,m1,hcm,hst,DV m2,DV n2,hwr,hn,j0,w3]
   ·simp[CSX,hi,rA,heb,h0,EA h0,vBx];rw[aU (CSI 8 a b A B i) B.length (by simp[CSI,O4,hv,vBx,EA h0,h0])]
    ·rw[aH];simp[CSI,hbl,w2,hv,hsc,CSX,vBx]
    ·intro j hj;obtain⟨w,q3,qm,q4,q5,m,n,m1,n1,m2,n2,hn,hwr⟩:=inner j hj;have hcm:=qF 8 v w (oka v hm) (okb w qm);have hst:=kU (Val.cmb 8 v w).null (Val.cmb 8 v w).n;have w3:IntKind.i64.wrap ((j:Int)+1)=j+1:=wrO;rw[show stV ⟨(Val.cmb 8 v w).null,(Val.cmb 8 v w).n⟩=stV (Val.cmb 8 v w)from rfl,n1]at hst;by_cases j0:j=0
     ·subst j0;simp[CSI,hj,hv,q4,q5,vBx,m1,hcm,hst,DV m2,DV n2,hwr,hn,EA h0,h0]
     ·simp[CSI,hj,hv,q4,q5,vBx,m1,hcm,hst,DV m2,DV n2,hwr,hn,j0,w3,EA h0,h0]
 ·simp[hea];rw[aU (CSX 9 a b A B) A.length (by simp[CSX,RN])]
  ·rw[aH];simp[CSX]
  ·intro i hi;have h3:=zX hi;have hm:=zU h3;generalize A[i]=v at h3 hm;have rA:=qW h3;have hv:vAt A i=v:=by simp[vAt,h3]
   have w2:IntKind.i64.wrap ((i:Int)+1)=i+1:=wrO;have hlow0:=WV (k:=9) (r:=B) A i (by omega);have hsc:=JM (k:=9) (r:=B) h3
   have inner:∀ j,j<B.length→∃ w,B[j]?=some w∧w∈B∧fO (uM B) j=some [.bool w.null, .int w.n]∧vAt B j=w∧∃ m n:Nat,O4 9 v B (RN 9 A B i) j=m∧stV (Val.cmb 9 v w)=n∧m<8∧n<8∧O4 9 v B (RN 9 A B i) (j+1)=((m ||| n:Nat):Int)∧IntKind.i64.wrap ((m ||| n:Nat):Int)=((m ||| n:Nat):Int):=by
    intro j hj;have q3:=zX hj;obtain⟨m,hm1,hm2⟩:=FJ (k:=9) (v:=v) B j hlow0;obtain⟨n,hn1,hn2⟩:=GA (Val.cmb 9 v B[j]);refine⟨B[j],q3,xG hj,qW q3,by simp[vAt,q3],m,n,hm1,hn1,hm2,hn2,?_,or8 hm2 hn2⟩;rw[RF q3,hm1,hn1,MO]
   by_cases h0:i=0
   ·subst h0;simp[CSX,hi,rA,heb];rw[aU (CSI 9 a b A B 0) B.length (by simp[CSI,O4,hv,vBx])]
    ·rw[aH];simp[CSI,hbl,w2,hv,hsc,CSX,vBx]
    ·intro j hj;obtain⟨w,q3,qm,q4,q5,m,n,m1,n1,m2,n2,hn,hwr⟩:=inner j hj;have hcm:=qF 9 v w (oka v hm) (okb w qm);have hst:=kU (Val.cmb 9 v w).null (Val.cmb 9 v w).n;have w3:IntKind.i64.wrap ((j:Int)+1)=j+1:=wrO;rw[show stV ⟨(Val.cmb 9 v w).null,(Val.cmb 9 v w).n⟩=stV (Val.cmb 9 v w)from rfl,n1]at hst;by_cases j0:j=0
     ·subst j0;simp[CSI,hj,hv,q4,q5,vBx,m1,hcm,hst,DV m2,DV n2,hwr,hn]
     ·simp[CSI,hj,hv,q4,q5,vBx,m1,hcm,hst,DV m2,DV n2,hwr,hn,j0,w3]
   ·simp[CSX,hi,rA,heb,h0,EA h0,vBx];rw[aU (CSI 9 a b A B i) B.length (by simp[CSI,O4,hv,vBx,EA h0,h0])]
    ·rw[aH];simp[CSI,hbl,w2,hv,hsc,CSX,vBx]
    ·intro j hj;obtain⟨w,q3,qm,q4,q5,m,n,m1,n1,m2,n2,hn,hwr⟩:=inner j hj;have hcm:=qF 9 v w (oka v hm) (okb w qm);have hst:=kU (Val.cmb 9 v w).null (Val.cmb 9 v w).n;have w3:IntKind.i64.wrap ((j:Int)+1)=j+1:=wrO;rw[show stV ⟨(Val.cmb 9 v w).null,(Val.cmb 9 v w).n⟩=stV (Val.cmb 9 v w)from rfl,n1]at hst;by_cases j0:j=0
     ·subst j0;simp[CSI,hj,hv,q4,q5,vBx,m1,hcm,hst,DV m2,DV n2,hwr,hn,EA h0,h0]
     ·simp[CSI,hj,hv,q4,q5,vBx,m1,hcm,hst,DV m2,DV n2,hwr,hn,j0,w3,EA h0,h0]
set_option maxHeartbeats 8000000
theorem APZ:∀ m n:Fin 8,((m.val ||| n.val) &&& 4=0∧jG (orS m.val n.val) 4=false)∨((m.val ||| n.val) &&& 4=4∧jG (orS m.val n.val) 4=true):=by decide
theorem H8 {m n:Nat} (hm:m<8) (hn:n<8):((m ||| n) &&& 4=0∧jG (orS m n) 4=false)∨((m ||| n) &&& 4=4∧jG (orS m n) 4=true):=APZ ⟨m,hm⟩ ⟨n,hn⟩
theorem AL8:∀ m:Fin 8,(m.val &&& 18446744073709551611=0∧(jG m.val 1 || jG m.val 2)=false)∨((m.val &&& 18446744073709551611=1∨m.val &&& 18446744073709551611=2∨m.val &&& 18446744073709551611=3)∧(jG m.val 1 || jG m.val 2)=true):=by decide
theorem ACC {m:Nat} (hm:m<8):∃ v:Nat,m &&& 18446744073709551611=v∧IntKind.i64.wrap (v:Int)=v∧((v=0∧(jG m 1 || jG m 2)=false)∨(¬ v=0∧(jG m 1 || jG m 2)=true)):=by
 rcases AL8 ⟨m,hm⟩with ⟨h,q⟩|⟨h|h|h,q⟩
 ·exact⟨0,h,by decide, .inl ⟨rfl,q⟩⟩
 ·exact⟨1,h,by decide, .inr ⟨by omega,q⟩⟩
 ·exact⟨2,h,by decide, .inr ⟨by omega,q⟩⟩
 ·exact⟨3,h,by decide, .inr ⟨by omega,q⟩⟩
theorem vN {k:Int} (hk:3≤k∧k≠8∧k≠9) {m n:Nat} (hm:m<8) (hn:n<8):aI C0 197 [.int k, .int m, .int n] []=some (.int (lJ k m n),[]):=by
 rw[aD rfl Tryz.func197 rfl rfl];have h1:=DV hm;have h2:=DV hn;have h3:=or8 hm hn;have h4:(m ||| n) % 18446744073709551616=m ||| n:=DV (xA (n:=3) hm hn)
 obtain⟨x,x1,x2,x3⟩:=ACC hm;obtain⟨y,y1,y2,y3⟩:=ACC hn;have k8:¬ k=8:=hk.2.1;have k9:¬ k=9:=hk.2.2;have e7:orS 0 7=7:=by decide
 have e3:orS 0 3=3:=by decide
 have e47:orS 4 7=7:=by decide
 have e43:orS 4 3=7:=by decide
 have e40:orS 4 0=4:=by decide
 have e00:orS 0 0=0:=by decide
 by_cases k6:k<6
 ·have hk3:k=3∨k=4∨k=5:=by omega
  rcases hk3 with rfl|rfl|rfl
  ·rcases H8 hm hn with ⟨p,q⟩|⟨p,q⟩
   ·rcases x3 with ⟨x3,x4⟩|⟨x3,x4⟩
    ·simp[h1,h2,h3,h4,p,x1,x2,x3,lJ,q,x4,e00]
    ·rcases y3 with ⟨y3,y4⟩|⟨y3,y4⟩
     ·simp[h1,h2,h3,h4,p,x1,x2,x3,y1,y2,y3,lJ,q,x4,y4,e00]
     ·simp[h1,h2,h3,h4,p,x1,x2,x3,y1,y2,y3,lJ,q,x4,y4,e7,e3]
   ·rcases x3 with ⟨x3,x4⟩|⟨x3,x4⟩
    ·simp[h1,h2,h3,h4,p,x1,x2,x3,lJ,q,x4,e40]
    ·rcases y3 with ⟨y3,y4⟩|⟨y3,y4⟩
     ·simp[h1,h2,h3,h4,p,x1,x2,x3,y1,y2,y3,lJ,q,x4,y4,e40]
     ·simp[h1,h2,h3,h4,p,x1,x2,x3,y1,y2,y3,lJ,q,x4,y4,e47,e43]
  ·rcases H8 hm hn with ⟨p,q⟩|⟨p,q⟩
   ·rcases x3 with ⟨x3,x4⟩|⟨x3,x4⟩
    ·simp[h1,h2,h3,h4,p,x1,x2,x3,lJ,q,x4,e00]
    ·rcases y3 with ⟨y3,y4⟩|⟨y3,y4⟩
     ·simp[h1,h2,h3,h4,p,x1,x2,x3,y1,y2,y3,lJ,q,x4,y4,e00]
     ·simp[h1,h2,h3,h4,p,x1,x2,x3,y1,y2,y3,lJ,q,x4,y4,e7,e3]
   ·rcases x3 with ⟨x3,x4⟩|⟨x3,x4⟩
    ·simp[h1,h2,h3,h4,p,x1,x2,x3,lJ,q,x4,e40]
    ·rcases y3 with ⟨y3,y4⟩|⟨y3,y4⟩
     ·simp[h1,h2,h3,h4,p,x1,x2,x3,y1,y2,y3,lJ,q,x4,y4,e40]
     ·simp[h1,h2,h3,h4,p,x1,x2,x3,y1,y2,y3,lJ,q,x4,y4,e47,e43]
  ·rcases H8 hm hn with ⟨p,q⟩|⟨p,q⟩
   ·rcases x3 with ⟨x3,x4⟩|⟨x3,x4⟩
    ·simp[h1,h2,h3,h4,p,x1,x2,x3,lJ,q,x4,e00]
    ·rcases y3 with ⟨y3,y4⟩|⟨y3,y4⟩
     ·simp[h1,h2,h3,h4,p,x1,x2,x3,y1,y2,y3,lJ,q,x4,y4,e00]
     ·simp[h1,h2,h3,h4,p,x1,x2,x3,y1,y2,y3,lJ,q,x4,y4,e7,e3]
   ·rcases x3 with ⟨x3,x4⟩|⟨x3,x4⟩
    ·simp[h1,h2,h3,h4,p,x1,x2,x3,lJ,q,x4,e40]
    ·rcases y3 with ⟨y3,y4⟩|⟨y3,y4⟩
     ·simp[h1,h2,h3,h4,p,x1,x2,x3,y1,y2,y3,lJ,q,x4,y4,e40]
     ·simp[h1,h2,h3,h4,p,x1,x2,x3,y1,y2,y3,lJ,q,x4,y4,e47,e43]
 ·have k3:¬ k=3:=by omega
  have k4:¬ k=4:=by omega
  have k5:¬ k=5:=by omega
  rcases H8 hm hn with ⟨p,q⟩|⟨p,q⟩
  ·rcases x3 with ⟨x3,x4⟩|⟨x3,x4⟩
   ·simp[h1,h2,h3,h4,p,x1,x2,x3,lJ,q,x4,e00,k3,k4,k5,k6,k8,k9]
   ·rcases y3 with ⟨y3,y4⟩|⟨y3,y4⟩
    ·simp[h1,h2,h3,h4,p,x1,x2,x3,y1,y2,y3,lJ,q,x4,y4,e00,k3,k4,k5,k6,k8,k9]
    ·simp[h1,h2,h3,h4,p,x1,x2,x3,y1,y2,y3,lJ,q,x4,y4,e7,e3,k3,k4,k5,k6,k8,k9]
  ·rcases x3 with ⟨x3,x4⟩|⟨x3,x4⟩
   ·simp[h1,h2,h3,h4,p,x1,x2,x3,lJ,q,x4,e40,k3,k4,k5,k6,k8,k9]
   ·rcases y3 with ⟨y3,y4⟩|⟨y3,y4⟩
    ·simp[h1,h2,h3,h4,p,x1,x2,x3,y1,y2,y3,lJ,q,x4,y4,e40,k3,k4,k5,k6,k8,k9]
    ·simp[h1,h2,h3,h4,p,x1,x2,x3,y1,y2,y3,lJ,q,x4,y4,e47,e43,k3,k4,k5,k6,k8,k9]
end Go.Proofs.YtjdfjgmebalaaaaGreat.P
namespace Go.Av
theorem Ex.vX {w:Int} {e:Ex} (h:e.wf w=true):(e.kind=1∧0≤e.col∧e.col<w∧e.kids=[])∨(e.kind=2∧e.kids=[])∨((e.kind=10∨e.kind=11)∧∃ x,e.kids=[x]∧x.wf w=true)∨((3≤e.kind∧e.kind≤9)∧∃ x y,e.kids=[x,y]∧x.wf w=true∧y.wf w=true):=by
 have hk:∀ x∈e.kids,x.wf w=true:=fun x hx=>Ex.nP h hx
 by_cases h1:e.kind=1
 ·have:=Ex.uA h h1;exact .inl ⟨h1,this.1,this.2.1,this.2.2⟩
 rw[Ex.OB]at h;simp only[zT,zN]at h;have hl:=h.1;unfold bU at hl;split at hl
 ·rename_i hc;exact .inr (.inl ⟨by omega,zW.1 (by omega)⟩)
 ·split at hl
  ·rename_i hc;obtain⟨x,hx⟩:=F7 (show e.kids.length=1 by omega);exact .inr (.inr (.inl ⟨hc,x,hx,hk x (by simp[hx])⟩))
  ·split at hl
   ·rename_i hc;obtain⟨x,y,hx⟩:=VO (show e.kids.length=2 by omega);exact .inr (.inr (.inr ⟨hc,x,y,hx,hk x (by simp[hx]),hk y (by simp[hx])⟩))
   ·omega
theorem MN {W:Int} (st:List Int) (hl:(st.length:Int)=W) (hs:∀ a∈st,okS a):∀ e:Ex,e.wf W=true→okS (H7 st e):=by
 intro e
 induction e using Ex.ind with
 | h k c v ks ih =>
  intro hw;rw[T9]
  rcases Ex.vX hw with ⟨h1,h2,h3,h4⟩|⟨h1,h2⟩|⟨h1,x,h2,h3⟩|⟨h1,x,y,h2,h3,h4⟩
  ·rw[if_pos h1];generalize Ex.col (.mk k c v ks)=cc at *
   have hlt:cc.toNat<st.length:=by omega
   rw[zX hlt];exact hs _ (xG hlt)
  ·rw[if_neg (by omega),if_pos h1];exact AOU _
  ·have hx:=ih x (by simp only[Ex.kids]at h2;simp[h2]) h3;obtain⟨n,hn⟩:=yS (show 0≤H7 st x by have:=hx.1;omega);have ht:=AG3 ⟨n,by have:=hx.2;omega⟩ (by have:=hx.1;simp;omega);rw[if_neg (by omega),if_neg (by omega),h2];simp only[List.getElem?_cons_zero,zA9,zA6,hn]
   rcases h1 with h1|h1
   ·rw[if_pos h1];exact ht.1
   ·rw[if_neg (by omega),if_pos h1];exact ht.2
  ·have hx:=ih x (by simp only[Ex.kids]at h2;simp[h2]) h3;have hy:=ih y (by simp only[Ex.kids]at h2;simp[h2]) h4;rw[if_neg (by omega),if_neg (by omega),if_neg (by omega),if_neg (by omega),h2];exact AM9 hx hy
end Go.Av
namespace Go.Proofs.YtjdfjgmebalaaaaGreat.P
open Go Go.Av
set_option maxRecDepth 4000
set_option maxHeartbeats 8000000
theorem seven {a:Int} (h:okS a):a=1∨a=2∨a=3∨a=4∨a=5∨a=6∨a=7:=by have:=h.1;have:=h.2;omega
theorem ACP {k a b:Int} (hk:3≤k) (ha:okS a) (hb:okS b):aI C0 197 [.int k, .int a, .int b] []=some (.int (lJ k a b),[]):=by
 by_cases h:k=8∨k=9
 ·exact AL h ha hb
 ·obtain⟨m,rfl⟩:=yS (show 0≤a by have:=ha.1;omega);obtain⟨n,rfl⟩:=yS (show 0≤b by have:=hb.1;omega);exact vN ⟨hk,by omega,by omega⟩ (by have:=ha.2;omega) (by have:=hb.2;omega)
theorem QC {W:Int} (st:List Int) (hl:(st.length:Int)=W) (hs:∀ a∈st,okS a):∀ e:Ex,e.wf W=true→aI C0 178 [.i (.iref e.cells), .i (.isl (aF st))] []=some (.int (H7 st e),[]):=by
 intro e
 induction e using Ex.ind with
 | h k c v ks ih =>
  intro hw;have hall:=MN st hl hs;rw[aD rfl Tryz.func178 rfl rfl,Ex.aB,T9]
  rcases Ex.vX hw with ⟨h1,h2,h3,h4⟩|⟨h1,h2⟩|⟨h1,x,h2,h3⟩|⟨h1,x,y,h2,h3,h4⟩
  ·generalize Ex.mk k c v ks=e at *
   have hlt:e.col.toNat<st.length:=by omega
   have h5:=zX hlt;generalize st[e.col.toNat]=s at h5;have r2:=bD h5;obtain⟨_,h6⟩:=zZ.1 h5;simp[h1,h2,r2,h6,show e.col<st.length by omega]
  ·generalize Ex.mk k c v ks=e at *
   have hst:=kU e.val.null e.val.n;simp[h1,hst]
  ·have hx:=ih x (by simp only[Ex.kids]at h2;simp[h2]) h3;have ho:=hall x h3;generalize Ex.mk k c v ks=e at *
   generalize hso:H7 st x=s at hx ho;rw[Ex.aB]at hx
   rcases h1 with h1|h1
   ·rcases seven ho with rfl|rfl|rfl|rfl|rfl|rfl|rfl<;>(simp[h1,h2,Ex.aA,Ex.aB x,hx,hso];try decide)
   ·rcases seven ho with rfl|rfl|rfl|rfl|rfl|rfl|rfl<;>(simp[h1,h2,Ex.aA,Ex.aB x,hx,hso];try decide)
  ·have hx:=ih x (by simp only[Ex.kids]at h2;simp[h2]) h3;have hy:=ih y (by simp only[Ex.kids]at h2;simp[h2]) h4;have ho:=hall x h3;have hp:=hall y h4;generalize Ex.mk k c v ks=e at *
   have hc:=ACP (k:=e.kind) h1.1 ho hp;generalize hso:H7 st x=s at hx ho hc;generalize hto:H7 st y=t at hy hp hc;rw[Ex.aB]at hx hy;have q1:¬ e.kind=1:=by omega
   have q2:¬ e.kind=2:=by omega
   have q3:¬ e.kind=10:=by omega
   have q4:¬ e.kind=11:=by omega
   simp[q1,q2,q3,q4,h2,Ex.aA,Ex.aB x,Ex.aB y,hx,hy,hc,hso,hto]
end Go.Proofs.YtjdfjgmebalaaaaGreat.P
namespace Go.Av
theorem ACO (n:Nat) (x:Int):aF (List.replicate n x)=List.replicate n [.int x]:=by
 induction n with
 | zero=>rfl
 | succ n ih=>simp[xW,aF,ih]
def st1 (n i:Nat):List Int:=List.replicate i 7++List.replicate (n-i) 0
def st2 (p m i:Nat):List Int:=List.replicate p 7++(List.replicate i 4++List.replicate (m-i) 7)
theorem AB6 {a b:Int} {n i:Nat} (h:i<n):(List.replicate i a++List.replicate (n-i) b)[i]?=some b:=by
 rw[zB (by simp)];have:0<n-i:=by omega
 simp[List.getElem?_replicate,this]
theorem AB5 {a b:Int} {n i:Nat} (h:i<n):(List.replicate i a++List.replicate (n-i) b).set i a=List.replicate (i+1) a++List.replicate (n-(i+1)) b:=by
 rw[xB _ _ (by simp)];rw[show n-i=(n-(i+1))+1 by omega,xW,List.replicate_succ'];simp
theorem AKA {n i:Nat} (h:i<n):(st1 n i)[i]?=some 0:=AB6 h
theorem AK9 {n i:Nat} (h:i<n):(st1 n i).set i 7=st1 n (i+1):=AB5 h
theorem AK7 {p m i:Nat} (h:i<m):(st2 p m i)[p+i]?=some 7:=by
 unfold st2;rw[zB (by simp)];simpa using AB6 (a:=4) (b:=7) h
theorem AK6 {p m i:Nat} (h:i<m):(st2 p m i).set (p+i) 4=st2 p m (i+1):=by
 unfold st2;rw[xB _ _ (by simp)];simp only[zB7,xY];rw[AB5 h]
theorem AKB {p m:Nat}:st1 (p+m) (p+m)=st2 p m 0:=by
 simp[st1,st2,List.replicate_append_replicate]
theorem AK8 (p m:Nat):st2 p m m=jZ ((p+m:Nat):Int) p:=by
 unfold st2 jZ;apply List.ext_getElem?;intro i;simp only[zD1,List.replicate_zero,yU,Int.toNat_natCast,zB6];by_cases h:i<p
 ·rw[zH (by simpa using h)];simp[h,show i<p+m by omega]
 ·rw[zB (by simp;omega)];by_cases h2:i<p+m
  ·simp[h2,show i-p<m by omega,show p≤i by omega]
  ·simp[h2,show ¬ i-p<m by omega]
@[simp] theorem XN {p m i:Nat} (h:i≤m):(st2 p m i).length=p+m:=by simp[st2];omega
def kW (p m:Nat):List Int:=(List.range m).map fun(i:Nat)=>((p+i:Nat):Int)
@[simp] theorem AJE (p m:Nat):(kW p m).length=m:=by simp[kW]
theorem QQ {p m i:Nat} (h:i<m):(kW p m)[i]?=some ((p+i:Nat):Int):=by simp[kW,h]
theorem LM (p m:Nat):kW p (m+1)=kW p m++[((p+m:Nat):Int)]:=by simp[kW,zB2]
theorem EY (W left:Int):∀ a∈jZ W left,okS a:=by
 intro a ha;unfold jZ at ha;obtain⟨i,-,rfl⟩:=yJ.1 ha;unfold okS;split<;>omega
theorem nI (W left:Int):(jZ W left).length=W.toNat:=by simp[jZ]
theorem AJT:∀ a:Fin 8,(a.val &&& 2=0∧jG a.val 2=false)∨(a.val &&& 2=2∧jG a.val 2=true):=by decide
end Go.Av
namespace Go.Proofs.YtjdfjgmebalaaaaGreat.P
open Go Go.Av
set_option maxRecDepth 4000
set_option maxHeartbeats 8000000
def RJ1 (e:Ex) (l:List Int) (n:Nat) (i:Nat):AS :=
 { env:=[(0, .i (.agg [.int e.kind, .int e.col, .bool e.val.null, .int e.val.n, .isl (Ex.aA e.kids)])),(1, .int n),(2, .i (.isl (aF l))),(3, .own 0 0),(6, .bool false),(7, .osl 1 1 0 n),(8,jk i (.int (i-1))),(10, .junk),(14, .bool false),(18, .int n),(19, .int i),(20,jk i (.bool true)),(26, .junk),(27, .junk),(28, .junk),(29, .junk),(38, .junk)],
   st:=[some (.box [.int e.kind, .int e.col, .bool e.val.null, .int e.val.n, .i (.isl (Ex.aA e.kids))]),some (.arr 1 (aF (st1 n i)))] }
def RJ2 (e:Ex) (n p m:Nat) (i:Nat):AS :=
 { env:=[(0, .i (.agg [.int e.kind, .int e.col, .bool e.val.null, .int e.val.n, .isl (Ex.aA e.kids)])),(1, .int n),(2, .i (.isl (aF (kW p m)))),(3, .own 0 0),(6, .bool false),(7, .osl 1 1 0 n),(8, .int (n-1)),(10,jk i (.int ((p:Int)+i-1))),(14, .bool false),(18, .int n),(19, .int n),(20, .bool false),(26, .i (.isl (aF (kW p m)))),(27, .int m),(28, .int i),(29,jk i (.bool true)),(38,jk i (.bool true))],
   st:=[some (.box [.int e.kind, .int e.col, .bool e.val.null, .int e.val.n, .i (.isl (Ex.aA e.kids))]),some (.arr 1 (aF (st2 p m i)))] }
theorem TJ (e:Ex) {n p m:Nat} (hn:n=p+m) (h:e.ok n=true):aI C0 157 [.i (.agg e.cells), .int n, .i (.isl (aF (kW p m)))] []=some (.bool (ABC e n p),[]):=by
 have hok:=ok_eq n e;rw[h]at hok;obtain⟨hw,g1,g2⟩:=Ex.EL h;have hlen:((jZ n p).length:Int)=(n:Int):=by rw[nI];omega
 have ho:=QC (jZ n p) hlen (EY _ _) e hw;have hs:=MN (jZ n p) hlen (EY _ _) e hw;rw[aD rfl Tryz.func157 rfl rfl];unfold ABC;generalize H7 (jZ n p) e=s at ho hs;obtain⟨s,rfl⟩:=yS (show 0≤s by have:=hs.1;omega);have hs8:s<8:=by have:=hs.2;omega
 have hall:=AK8 p m;rw[← hn]at hall;rw[← hall]at ho;rw[Ex.aB]at *
 have hb:8*(n:Int)≤281474976710656:=by omega
 have hz:=ACO n 0;have hz1:st1 n 0=List.replicate n 0:=by simp[st1]
 have hs1:st1 n n=st2 p m 0:=by rw[hn];exact AKB
 have hl2:∀ i,i≤m→(st2 p m i).length=n:=fun i hi=>by rw[XN hi,hn]
 have hl3:(st2 p m m).take n=st2 p m m:=zY (by rw[hl2 m (zP m)];exact zP n);simp[hok,hb];rw[aU (RJ1 e (kW p m) n) n (by simp[RJ1,hz1,hz])]
 ·rw[aH];simp[RJ1];rw[aU (RJ2 e n p m) m (by simp[RJ2,hs1,dL (show n≠0 by omega)])]
  ·rw[aH];have h2:=AJT ⟨s,hs8⟩
   rcases h2 with ⟨h2,h3⟩|⟨h2,h3⟩
   ·simp at h2 h3;simp[RJ2,ho,DV hs8,h2,h3,hl2,hl3]
   ·simp at h2 h3;simp[RJ2,ho,DV hs8,h2,h3,hl2,hl3]
  ·intro i hi;have h3:=QQ (p:=p) hi;have r2:=bD h3;have r3:=bD (AK7 (p:=p) hi);have hset:=AK6 (p:=p) hi;have hin:((p:Int)+i)<n:=by omega
   have hl:=hl2 i (by omega);have hin2:p+i<n:=by omega
   have hin0:0≤(p:Int)+i:=by omega
   have w2:IntKind.i64.wrap ((i:Int)+1)=i+1:=wrO;simp[RJ2,hi,r2,r3,w2,IG,hset,hin,hin0,hl,show((p:Int)+i).toNat=p+i by omega];omega
 ·intro i hi;have r3:=bD (AKA hi);have hset:=AK9 hi;have w2:IntKind.i64.wrap ((i:Int)+1)=i+1:=wrO;simp[RJ1,hi,r3,w2,IG,hset]
end Go.Proofs.YtjdfjgmebalaaaaGreat.P
namespace Go.Av
theorem ABT {n p i:Nat} (h:i<n):(jZ n p)[i]?=some (if p≤i then 4 else 7):=by
 have:i<(jZ (n:Int) p).length:=by rw[nI];simpa using h
 unfold jZ;simp[h]
end Go.Av
namespace Go.Proofs.YtjdfjgmebalaaaaGreat.P
open Go Go.Av
set_option maxRecDepth 4000
set_option maxHeartbeats 8000000
def CLX (n p:Nat) (i:Nat):AS :=
 { env:=[(0, .int p),(1, .int n),(4, .nils),(5, .osl 0 1 0 i),(6, .int ((p:Int)+i)),(11,jk i (.bool true))],st:=[some (.arr 1 (aF (kW p i)))] }
theorem NI {n p m:Nat} (hn:n=p+m) (hb:n<1000):aI C0 170 [.int p, .int n] []=some (.i (.isl (aF (kW p m))),[]):=by
 rw[aD rfl Tryz.func170 rfl rfl];simp;rw[aU (CLX n p) m (by simp[CLX,kW,aF])]
 ·rw[aH];have h1:¬ ((p:Int)+m<n):=by omega
  have h2:(kW p m).take m=kW p m:=zY (by simp);simp[CLX,h1,h2]
 ·intro i hi;have h1:((p:Int)+i<n):=by omega
  have w2:IntKind.i64.wrap ((p:Int)+i+1)=(p:Int)+(i+1):=by rw[wrO];omega
  have hl:(i+1)*8≤140737488355328:=by omega
  have h2:(kW p i).take i=kW p i:=zY (by simp);simp[CLX,h1,w2,hl,h2,LM,oI]
def nsS (p i k:Nat):Int:=if p≤i∧i<p+k then 4 else 7
def nsB (p m i:Nat):AV:=if m=0 then .junk else jk i (.bool (decide ((p:Int)+(m-1)=i-1)))
@[simp] theorem AQM (p m i:Nat):cO (nsB p m i)=[]:=by unfold nsB;split<;>simp
@[simp] theorem AT3 (r:Nat→Option Nat) (p m i:Nat):ren r (nsB p m i)=nsB p m i:=by unfold nsB;split<;>simp
def NSO (n p m:Nat) (i:Nat):AS :=
 { env:=[(0, .int n),(1, .i (.isl (aF (kW p m)))),(4, .nils),(5, .osl 0 1 0 i),(6, .int i),(7,jk i (.int (nsS p (i-1) m))),(8,jk i (.int m)),(12,jk i (.bool true)),(18,jk i (.bool false)),(26,nsB p m i)],st:=[some (.arr 1 (aF ((jZ n p).take i)))] }
def NSI (n p m:Nat) (i k:Nat):AS :=
 { env:=[(0, .int n),(1, .i (.isl (aF (kW p m)))),(4, .nils),(5, .osl 0 1 0 i),(6, .int i),(7, .int (nsS p i k)),(8, .int k),(12, .bool true),(18,if k=0 then jk i (.bool false)else .bool true),(26,if k=0 then nsB p m i else .bool (decide ((p:Int)+(k-1)=i)))],st:=[some (.arr 1 (aF ((jZ n p).take i)))] }
theorem MU {n p m:Nat} (hn:n=p+m) (hb:n<1000):aI C0 191 [.int n, .i (.isl (aF (kW p m)))] []=some (.i (.isl (aF (jZ n p))),[]):=by
 rw[aD rfl Tryz.func191 rfl rfl];have hnl:(jZ (n:Int) p).length=n:=by rw[nI];omega
 simp;rw[aU (NSO n p m) n (by simp[NSO,aF,nsB])]
 ·rw[aH];have h2:(jZ (n:Int) p).take n=jZ n p:=zY (by omega);simp[NSO,h2,hnl]
 ·intro i hi;have w2:IntKind.i64.wrap ((i:Int)+1)=i+1:=wrO;have h3:=ABT (p:=p) hi;have htk:=aM h3;have hl:(i+1)*8≤140737488355328:=by omega
  have hsm:nsS p i m=if p≤i then 4 else 7:=by unfold nsS;by_cases h:p≤i<;>simp[h];omega
  have hlt:((jZ (n:Int) p).take i).length=i:=by simp[hnl];omega
  have htt:((jZ (n:Int) p).take i).take i=(jZ (n:Int) p).take i:=zY (by omega);simp only[← hsm]at htk;simp[NSO,hi];rw[aU (NSI n p m i) m (by simp[NSI,nsS];try omega)]
  ·rw[aH];by_cases hm:m=0
   ·subst hm;simp[NSI,NSO,w2,hl,htk,oI,hlt,htt,nsB]
   ·by_cases h0:i=0
    ·subst h0;simp[NSI,NSO,hl,htk,oI,nsB,hm,aF]
    ·simp[NSI,NSO,w2,hl,htk,oI,hlt,htt,nsB,hm]
  ·intro k hk;have h5:=QQ (p:=p) hk;have r2:=bD h5;have w3:IntKind.i64.wrap ((k:Int)+1)=k+1:=wrO;have e1:∀ x:AV,(if(k+1=0)then x else(AV.bool (decide ((p:Int)+((k+1:Nat)-1)=i))))=AV.bool (decide ((p:Int)+k=i)):=by intro x;simp
   by_cases he:(p:Int)+k=i
   ·have hs:nsS p i (k+1)=4:=by unfold nsS;rw[if_pos (by omega)]
    by_cases k0:k=0
    ·subst k0;simp at he;simp[NSI,hk,r2,hs,he]
    ·simp[NSI,hk,r2,w3,hs,he,k0]
   ·have hs:nsS p i (k+1)=nsS p i k:=by
     unfold nsS;by_cases hp:p≤i∧i<p+k
     ·rw[if_pos hp,if_pos (by omega)]
     ·rw[if_neg hp,if_neg (by omega)]
    by_cases k0:k=0
    ·subst k0;simp at he;simp[NSI,hk,r2,hs,he]
    ·simp[NSI,hk,r2,w3,hs,he,k0]
end Go.Proofs.YtjdfjgmebalaaaaGreat.P
namespace Go.Av
def BG (x:Int):Val:=⟨decide (x=4),if x=2 then 1 else 0⟩
def tsI (k a b x s:Int) (j:Nat):Int:=(([1,2,4]:List Int).take j).foldl (fun s y=>if(jG a x && jG b y)=true then orS s (stV (Val.cmb k (BG x) (BG y)))else s) s
def tsO (k a b:Int) (i:Nat):Int:=(([1,2,4]:List Int).take i).foldl (fun s x=>tsI k a b x s 3) 0
theorem AAL {k a b x s:Int} (hs:ZY s) (j:Nat):ZY (tsI k a b x s j):=by
 unfold tsI;generalize (([1,2,4]:List Int).take j)=l
 induction l generalizing s with
 | nil=>simpa using hs
 | cons y l ih =>
  simp only[List.foldl_cons];apply ih;split
  ·exact ABO hs (GA _)
  ·exact hs
theorem AJW {k a b:Int} (i:Nat):ZY (tsO k a b i):=by
 unfold tsO
 have:∀ (l:List Int) (s:Int),ZY s→ZY (l.foldl (fun s x=>tsI k a b x s 3) s):=by
  intro l
  induction l with
  | nil=>intro s hs;simpa using hs
  | cons y l ih=>intro s hs;exact ih _ (AAL hs 3)
 exact this _ _ ⟨0,rfl,by omega⟩
theorem AOH:∀ a b:Fin 8,tsO 8 a.val b.val 3=lJ 8 a.val b.val∧tsO 9 a.val b.val 3=lJ 9 a.val b.val:=by decide
end Go.Av
namespace Go.Proofs.YtjdfjgmebalaaaaGreat.P
open Go Go.Av
set_option maxRecDepth 4000
set_option maxHeartbeats 8000000
theorem AAR (b:Bool) (n:Int):aI C0 165 [.i (.agg [.bool b, .int n])] []=some (.int (if b=true then 2 else if n=0 then 0 else 1),[]):=by
 rw[aD rfl Tryz.func165 rfl rfl]
 cases b
 ·by_cases h:n=0<;>simp[h]
 ·simp
theorem AKE (t:Int) (h:0≤t∧t≤2):aI C0 218 [.int t] []=some (.int (if t=2 then 2 else 1-t),[]):=by
 rw[aD rfl Tryz.func218 rfl rfl];have:t=0∨t=1∨t=2:=by omega
 rcases this with rfl|rfl|rfl<;>simp
theorem AKG (s t:Int):aI C0 217 [.int s, .int t] []=some (.int (if s=0∨t=0 then 0 else if s=1∧t=1 then 1 else 2),[]):=by
 rw[aD rfl Tryz.func217 rfl rfl];by_cases h1:s=0
 ·simp[h1]
 ·by_cases h2:t=0
  ·simp[h1,h2]
  ·by_cases h3:s=1
   ·by_cases h4:t=1
    ·simp[h3,h4]
    ·simp[h3,h4,h2]
   ·simp[h1,h2,h3]
theorem AP8 (t:Int):aI C0 216 [.int t] []=some (.i (.agg [.bool (decide (t=2)), .int (if t=2 then 0 else t)]),[]):=by
 rw[aD rfl Tryz.func216 rfl rfl];by_cases h:t=2
 ·subst h;simp
 ·simp[h]
theorem AFL {k x y:Int} (hk:k=8∨k=9) (hx:x=1∨x=2∨x=4) (hy:y=1∨y=2∨y=4):aI C0 209 [.int k, .i (.agg [.bool (BG x).null, .int (BG x).n]), .i (.agg [.bool (BG y).null, .int (BG y).n])] []=some (.i (.agg [.bool (Val.cmb k (BG x) (BG y)).null, .int (Val.cmb k (BG x) (BG y)).n]),[]):=by
 rw[aD rfl Tryz.func209 rfl rfl]
 rcases hk with rfl|rfl<;>rcases hx with rfl|rfl|rfl<;>rcases hy with rfl|rfl|rfl<;>(simp[BG,AAR,AKE,AKG,AP8];try decide)
def pw (i:Nat):Int:=if i=0 then 1 else if i=1 then 2 else if i=2 then 4 else 8
def TSO (k:Int) (a b:Nat) (i:Nat):AS :=
 { env:=[(0, .int k),(1, .int a),(2, .int b),(6, .int 0),(7, .int (tsO k a b i)),(8, .int (pw i)),(9,jk i (.int 8)),(11,jk i (.bool true)),(15,jk i (.bool false)),(29,jk i (.bool (jG a (pw (i-1)) && jG b 4)))],st:=[] }
def TSI (k:Int) (a b:Nat) (i:Nat) (j:Nat):AS :=
 { env:=[(0, .int k),(1, .int a),(2, .int b),(6, .int 0),(7, .int (tsI k a b (pw i) (tsO k a b i) j)),(8, .int (pw i)),(9, .int (pw j)),(11, .bool true),(15,jk (i+j) (.bool (decide (j≠0)))),(29,jk (i+j) (.bool (if j=0 then jG a (pw (i-1)) && jG b 4 else jG a (pw i) && jG b (pw (j-1)))))],st:=[] }
theorem ACW {a:Nat} (ha:a<8) {x:Int} (hx:0<x) (hx8:x<8):IntKind.i64.wrap ((a:Int) / x)=(a:Int) / x∧(jG a x=decide (((a:Int) / x).tmod 2=1)):=by
 have h2:0≤(a:Int) / x:=Int.ediv_nonneg (by omega) (by omega);have h3:(a:Int) / x≤a:=Int.ediv_le_self _ (by omega);refine⟨wrO,?_⟩;unfold jG;rw[Int.tmod_eq_emod_of_nonneg h2]
theorem AAF (x:Int):aI C0 210 [.int x] []=some (.i (.agg [.bool (BG x).null, .int (BG x).n]),[]):=XB x
theorem AF7 {k a b x s:Int} {j:Nat} {y:Int} (h:(([1,2,4]:List Int))[j]?=some y):tsI k a b x s (j+1)=if(jG a x && jG b y)=true then orS (tsI k a b x s j) (stV (Val.cmb k (BG x) (BG y)))else tsI k a b x s j:=by
 unfold tsI;rw[aM h,zC5];rfl
theorem AF6 {k a b:Int} {i:Nat} {x:Int} (h:(([1,2,4]:List Int))[i]?=some x):tsO k a b (i+1)=tsI k a b x (tsO k a b i) 3:=by
 unfold tsO;rw[aM h,zC5];rfl
theorem VB (i:Nat) (hi:i<3):(pw i=1∨pw i=2∨pw i=4)∧IntKind.i64.wrap (2*pw i)=pw (i+1)∧(([1,2,4]:List Int))[i]?=some (pw i):=by
 have h:i=0∨i=1∨i=2:=by omega
 rcases h with rfl|rfl|rfl<;>decide
theorem wF {k:Int} (hk:k=8∨k=9) {a b:Nat} (ha:a<8) (hb:b<8):aI C0 204 [.int k, .int a, .int b] []=some (.int (tsO k a b 3),[]):=by
 have p0:pw 0=1:=rfl;have p2:pw 2=4:=rfl;have p3:pw 3=8:=rfl;rw[aD rfl Tryz.func204 rfl rfl];simp;rw[aU (TSO k a b) 3 (by simp[TSO,tsO,p0])]
 ·rw[aH];simp[TSO,p3]
 ·intro i hi;obtain⟨x1,x2,x3⟩:=VB i hi;have hsc:=AF6 (k:=k) (a:=a) (b:=b) x3;have hlo:=AJW (k:=k) (a:=a) (b:=b) i;have xl:pw i≤4:=by omega
  have xz:(pw i != 0)=true:=by simp;omega
  obtain⟨ax,bx⟩:=ACW ha (x:=pw i) (by omega) (by omega);simp[TSO,xl];rw[aU (TSI k a b i) 3 (by simp[TSI,tsI,p0])]
  ·rw[aH];simp[TSI,TSO,p2,p3,hsc,x2]
  ·intro j hj;obtain⟨y1,y2,y3⟩:=VB j hj;have yl:pw j≤4:=by omega
   have yz:(pw j != 0)=true:=by simp;omega
   have hs:=AF7 (k:=k) (a:=a) (b:=b) (x:=pw i) (s:=tsO k a b i) y3;obtain⟨m,m1,m2⟩:=AAL (k:=k) (a:=a) (b:=b) (x:=pw i) hlo j;obtain⟨n,n1,n2⟩:=GA (Val.cmb k (BG (pw i)) (BG (pw j)));have hcm:=AFL hk x1 y1;have hst:=OY (Val.cmb k (BG (pw i)) (BG (pw j))).null (Val.cmb k (BG (pw i)) (BG (pw j))).n;rw[show stV ⟨(Val.cmb k (BG (pw i)) (BG (pw j))).null,(Val.cmb k (BG (pw i)) (BG (pw j))).n⟩=stV (Val.cmb k (BG (pw i)) (BG (pw j)))from rfl,n1]at hst;rw[m1,n1,MO]at hs;obtain⟨cx,dx⟩:=ACW hb (x:=pw j) (by omega) (by omega);have hjk:=dL (show i+(j+1)≠0 by omega);by_cases p:jG a (pw i)=true
   ·have p':=p;rw[bx,zN]at p';by_cases q:jG b (pw j)=true
    ·have q':=q;rw[dx,zN]at q';rw[p,q]at hs;simp only[Bool.and_self,if_true]at hs;simp[TSI,yl,xz,yz,y2,hjk,ax,cx,p',q',p,q,AAF,hcm,hst,m1,DV m2,DV n2,or8 m2 n2,hs]
    ·have q2:jG b (pw j)=false:=by simpa using q
     have q':=q;rw[dx,zN]at q';rw[p,q2]at hs;simp only[Bool.and_false,yR,if_false]at hs;simp[TSI,yl,xz,yz,y2,hjk,ax,cx,p',q',p,q2,m1,hs]
   ·have p2':jG a (pw i)=false:=by simpa using p
    have p':=p;rw[bx,zN]at p';rw[p2']at hs;simp only[Bool.false_and,yR,if_false]at hs;simp[TSI,yl,xz,yz,y2,hjk,ax,p',p2',m1,hs]
theorem AFD {k a b:Int} (hk:k=8∨k=9) (ha:okS a) (hb:okS b):aI C0 204 [.int k, .int a, .int b] []=some (.int (lJ k a b),[]):=by
 obtain⟨m,rfl⟩:=yS (show 0≤a by have:=ha.1;omega);obtain⟨n,rfl⟩:=yS (show 0≤b by have:=hb.1;omega);have hm:m<8:=by have:=ha.2;omega
 have hn:n<8:=by have:=hb.2;omega
 have ht:=AOH ⟨m,hm⟩ ⟨n,hn⟩
 rcases hk with rfl|rfl
 ·rw[wF (.inl rfl) hm hn];simp only at ht;rw[ht.1]
 ·rw[wF (.inr rfl) hm hn];simp only at ht;rw[ht.2]
theorem AGE:∀ m:Fin 8,(m.val &&& 3=0∧(jG m.val 1 || jG m.val 2)=false)∨((m.val &&& 3=1∨m.val &&& 3=2∨m.val &&& 3=3)∧(jG m.val 1 || jG m.val 2)=true):=by decide
theorem AUY {m:Nat} (hm:m<8):∃ v:Nat,m &&& 3=v∧IntKind.i64.wrap (v:Int)=v∧((v=0∧(jG m 1 || jG m 2)=false)∨(¬ v=0∧(jG m 1 || jG m 2)=true)):=by
 rcases AGE ⟨m,hm⟩with ⟨h,q⟩|⟨h|h|h,q⟩
 ·exact⟨0,h,by decide, .inl ⟨rfl,q⟩⟩
 ·exact⟨1,h,by decide, .inr ⟨by omega,q⟩⟩
 ·exact⟨2,h,by decide, .inr ⟨by omega,q⟩⟩
 ·exact⟨3,h,by decide, .inr ⟨by omega,q⟩⟩
theorem P5 {W:Int} (st:List Int) (hl:(st.length:Int)=W) (hs:∀ a∈st,okS a):∀ e:Ex,e.wf W=true→aI C0 190 [.i (.agg e.cells), .i (.isl (aF st))] []=some (.int (H7 st e),[]):=by
 intro e
 induction e using Ex.ind with
 | h k c v ks ih =>
  intro hw;have hall:=MN st hl hs;rw[aD rfl Tryz.func190 rfl rfl,Ex.aB,T9]
  rcases Ex.vX hw with ⟨h1,h2,h3,h4⟩|⟨h1,h2⟩|⟨h1,x,h2,h3⟩|⟨h1,x,y,h2,h3,h4⟩
  ·generalize Ex.mk k c v ks=e at *
   have hlt:e.col.toNat<st.length:=by omega
   have h5:=zX hlt;generalize st[e.col.toNat]=s at h5;have r2:=bD h5;obtain⟨_,h6⟩:=zZ.1 h5;simp[h1,h2,r2,h6,show e.col<st.length by omega]
  ·generalize Ex.mk k c v ks=e at *
   have hst:=OY e.val.null e.val.n;simp[h1,hst]
  ·have hx:=ih x (by simp only[Ex.kids]at h2;simp[h2]) h3;have ho:=hall x h3;generalize Ex.mk k c v ks=e at *
   generalize hso:H7 st x=s at hx ho;rw[Ex.aB]at hx
   rcases h1 with h1|h1
   ·rcases seven ho with rfl|rfl|rfl|rfl|rfl|rfl|rfl<;>(simp[h1,h2,Ex.aA,Ex.aB x,hx,hso];try decide)
   ·rcases seven ho with rfl|rfl|rfl|rfl|rfl|rfl|rfl<;>(simp[h1,h2,Ex.aA,Ex.aB x,hx,hso];try decide)
  ·have hx:=ih x (by simp only[Ex.kids]at h2;simp[h2]) h3;have hy:=ih y (by simp only[Ex.kids]at h2;simp[h2]) h4;have ho:=hall x h3;have hp:=hall y h4;generalize Ex.mk k c v ks=e at *
   generalize hso:H7 st x=s at hx ho;generalize hto:H7 st y=t at hy hp;rw[Ex.aB]at hx hy;have q1:¬ e.kind=1:=by omega
   have q2:¬ e.kind=2:=by omega
   have q3:¬ e.kind=10:=by omega
   have q4:¬ e.kind=11:=by omega
   by_cases hk:e.kind=8∨e.kind=9
   ·have hc:=AFD (k:=e.kind) hk ho hp
    rcases hk with hk|hk<;>(rw[hk]at hc;simp[hk,h2,Ex.aA,Ex.aB x,Ex.aB y,hx,hy,hc,hso,hto])
   ·have q5:¬ e.kind=8:=by omega
    have q6:¬ e.kind=9:=by omega
    have hcs:lJ e.kind s t=orS (if jG (orS s t) 4=true then 4 else 0) (if(jG s 1 || jG s 2)=true∧(jG t 1 || jG t 2)=true then(if e.kind<6 then 7 else 3)else 0):=if_neg hk;obtain⟨m,rfl⟩:=yS (show 0≤s by have:=ho.1;omega);obtain⟨n,rfl⟩:=yS (show 0≤t by have:=hp.1;omega);have hm:m<8:=by have:=ho.2;omega
    have hn:n<8:=by have:=hp.2;omega
    have h1:=DV hm;have h2':=DV hn;have h3':=or8 hm hn;have h4':(m ||| n) % 18446744073709551616=m ||| n:=DV (xA (n:=3) hm hn)
    obtain⟨x',x1,x2,x3⟩:=AUY hm;obtain⟨y',y1,y2,y3⟩:=AUY hn;have e7:orS 0 7=7:=by decide
    have e3:orS 0 3=3:=by decide
    have e47:orS 4 7=7:=by decide
    have e43:orS 4 3=7:=by decide
    have e40:orS 4 0=4:=by decide
    have e00:orS 0 0=0:=by decide
    rcases H8 hm hn with ⟨p,q⟩|⟨p,q⟩<;>rcases x3 with ⟨x3,x4⟩|⟨x3,x4⟩<;>rcases y3 with ⟨y3,y4⟩|⟨y3,y4⟩<;>by_cases q7:e.kind<6 <;>
     simp[q1,q2,q3,q4,q5,q6,q7,h2,Ex.aA,Ex.aB x,Ex.aB y,hx,hy,hso,hto,hcs,h1,h2',h3',h4',p,q,x1,x2,x3,x4,y1,y2,y3,y4,e7,e3,e47,e43,e40,e00]
theorem SF (e:Ex) {n p m:Nat} (hn:n=p+m) (hb:n<1000) (h:e.wf n=true):aI C0 169 [.i (.agg e.cells), .int n, .i (.isl (aF (kW p m)))] []=some (.bool (ABC e n p),[]):=by
 have hlen:((jZ n p).length:Int)=(n:Int):=by rw[nI];omega
 have ho:=P5 (jZ n p) hlen (EY _ _) e h;have hs:=MN (jZ n p) hlen (EY _ _) e h;have hns:=MU hn hb;rw[aD rfl Tryz.func169 rfl rfl];unfold ABC;generalize H7 (jZ n p) e=s at ho hs;rw[Ex.aB]at *
 rcases seven hs with rfl|rfl|rfl|rfl|rfl|rfl|rfl<;>(simp[hns,ho];try decide)
set_option maxHeartbeats 4000000
def iR (g:FuncId) (ws:List Int) (r:Int) (p:Pn):Prop:=∃ (q:Pn) (b:Bool),aI C0 g [.i (.iref p.cells), .i (.isl (aF ws))] []=some (.tup [.i (.agg q.cells), .bool b],[])∧(b=true→rwP ws r p=some q)∧(b=false→∀ q',rwP ws r p=some q'→∀ lv,q'.wd ws lv=0)
@[simp] theorem AQR (e:Ex) (k:Pn):(filt e k).kind=2:=rfl
@[simp] theorem APS (es:List Ex) (k:Pn):(proj es k).kind=3:=rfl
@[simp] theorem APY (kd:Int) (e:Ex) (a b:Pn):(bC kd e a b).kind=kd:=rfl
@[simp] theorem AMW (a b:Pn):(dP a b).kind=6:=rfl
theorem eU (ws:List Int) (r:Int) (e:Ex) (k:Pn):rwP ws r (filt e k)=rwF ws r e k:=by simp[rwP,filt,Pn.ex0,Pn.jT,Pn.kind,Pn.exprs,Pn.kids]
theorem iR.no {g:FuncId} {ws:List Int} {r:Int} {p:Pn} (h:aI C0 g [.i (.iref p.cells), .i (.isl (aF ws))] []=some (.tup [.i (.agg Pn.zero.cells), .bool false],[])) (hr:rwP ws r p=none):iR g ws r p:=⟨.zero,false,h,by simp,by simp[hr]⟩
theorem iR.yes {g:FuncId} {ws:List Int} {r:Int} {p q:Pn} (h:aI C0 g [.i (.iref p.cells), .i (.isl (aF ws))] []=some (.tup [.i (.agg q.cells), .bool true],[])) (hr:rwP ws r p=some q):iR g ws r p:=⟨q,true,h,fun _=>hr,by simp⟩
theorem AT1 {ws:List Int} {p:Pn} {W:Int} (hp:Wd ws p W):iR 110 ws 1 p:=by
 by_cases hk:p.kind=2
 ·obtain⟨e,a,rfl⟩:=oQ hp hk;by_cases hk2:a.kind=2
  ·obtain⟨e2,a2,rfl⟩:=oQ (iA hp).1 hk2;refine .yes (q:=filt (WS e2 e) a2) ?_ (by rw[eU];simp[rwF,filt,Pn.ex0,Pn.jT,Pn.kind,Pn.exprs,Pn.kids]);have h1:=fA (e:=e) (k:=filt e2 a2) (kd:=2) rfl;have h2:=ADI e2 e;have h3:=dZ (WS e2 e) a2;rw[aD rfl Tryz.func110 rfl rfl];simp only[aR,oO,Ex.aB e,Ex.aB e2,Pn.aB a2]at h1 h2 h3 ⊢;simp[h1,h2,h3]
  ·refine .no ?_ (by rw[eU];simp[rwF,hk2]);have h1:=dN (e:=e) (k:=a) (kd:=2) hk2;rw[aD rfl Tryz.func110 rfl rfl];simp only[aR,aS]at h1 ⊢;simp[h1]
 ·refine .no ?_ (by simp[rwP,hk]);have h1:=eY (p:=p) (kd:=2) hk;rw[aD rfl Tryz.func110 rfl rfl];simp only[aS,Pn.aB p]at h1 ⊢;simp[h1]
theorem ASX {ws:List Int} {p:Pn} {W:Int} (hp:Wd ws p W):iR 114 ws 5 p:=by
 by_cases hk:p.kind=2
 ·obtain⟨e,a,rfl⟩:=oQ hp hk;by_cases hk2:a.kind=4
  ·obtain⟨e2,x,y,hx⟩:=iX (iA hp).1 (.inl hk2);rw[hk2]at hx;subst hx;refine .yes (q:=bC 4 (WS e2 e) x y) ?_ (by rw[eU];simp[rwF,bC,Pn.ex0,Pn.jT,Pn.rM,Pn.kind,Pn.exprs,Pn.kids]);have h1:=fA (e:=e) (k:=bC 4 e2 x y) (kd:=4) rfl;have h2:=ADI e2 e;have h3:=mH 4 (WS e2 e) x y;rw[aD rfl Tryz.func114 rfl rfl];simp only[aR,pair_cells,oO,Ex.aB e,Ex.aB e2,Pn.aB x,Pn.aB y]at h1 h2 h3 ⊢;simp[h1,h2,h3]
  ·refine .no ?_ (by rw[eU];simp[rwF,hk2]);have h1:=dN (e:=e) (k:=a) (kd:=4) hk2;rw[aD rfl Tryz.func114 rfl rfl];simp only[aR,aS]at h1 ⊢;simp[h1]
 ·refine .no ?_ (by simp[rwP,hk]);have h1:=eY (p:=p) (kd:=4) hk;rw[aD rfl Tryz.func114 rfl rfl];simp only[aS,Pn.aB p]at h1 ⊢;simp[h1]
theorem ASU {ws:List Int} {p:Pn} {W:Int} (hp:Wd ws p W):iR 117 ws 8 p:=by
 by_cases hk:p.kind=2
 ·obtain⟨e,a,rfl⟩:=oQ hp hk;by_cases hk2:a.kind=6
  ·obtain⟨x,y,rfl⟩:=AE3 (iA hp).1 hk2;refine .yes (q:=dP (filt e x) (filt e y)) ?_ (by rw[eU];simp[rwF,dP,Pn.ex0,Pn.jT,Pn.rM,Pn.kind,Pn.exprs,Pn.kids]);have h1:=fA (e:=e) (k:=dP x y) (kd:=6) rfl;have h2:=dZ e x;have h3:=dZ e y;rw[aD rfl Tryz.func117 rfl rfl];simp only[aR,FZ,Ex.aB e,Pn.aB x,Pn.aB y]at h1 h2 h3 ⊢;simp[h1,h2,h3]
  ·refine .no ?_ (by rw[eU];simp[rwF,hk2]);have h1:=dN (e:=e) (k:=a) (kd:=6) hk2;rw[aD rfl Tryz.func117 rfl rfl];simp only[aR,aS]at h1 ⊢;simp[h1]
 ·refine .no ?_ (by simp[rwP,hk]);have h1:=eY (p:=p) (kd:=6) hk;rw[aD rfl Tryz.func117 rfl rfl];simp only[aS,Pn.aB p]at h1 ⊢;simp[h1]
theorem AST {ws:List Int} {p:Pn} {W:Int} (hp:Wd ws p W):iR 118 ws 9 p:=by
 by_cases hk:p.kind=7
 ·obtain⟨a,rfl⟩:=AE4 hp hk;have hc:(Pn.mk 7 0 [] [] [a]).cells=[.int 7, .int 0, .isl [], .isl [], .isl [a.cells]]:=by simp[Pn.cells,Ex.aA,aF,Pn.aA]
  by_cases hk2:a.kind=7∨a.kind=8
  ·refine .yes (q:=a) ?_ (by simp[rwP,Pn.jT,Pn.kids,hk2]);rw[aD rfl Tryz.func118 rfl rfl];simp only[hc,Pn.aB a]
   rcases hk2 with hk2|hk2<;>simp[hk2]
  ·refine .no ?_ (by simp[rwP,Pn.jT,Pn.kids,hk2]);rw[aD rfl Tryz.func118 rfl rfl];simp only[hc,aS,Pn.aB a];have h7:¬ a.kind=7:=by omega
   have h8:¬ a.kind=8:=by omega
   simp[h7,h8]
 ·refine .no ?_ ?_
  ·rw[aD rfl Tryz.func118 rfl rfl];simp only[aS,Pn.aB p];simp[hk]
  ·unfold rwP;split
   ·unfold rwF;simp
   ·simp[hk]
theorem AT0 {ws:List Int} {p:Pn} {W:Int} (hp:Wd ws p W):iR 111 ws 2 p:=by
 by_cases hk:p.kind=2
 ·obtain⟨e,a,rfl⟩:=oQ hp hk;by_cases hk2:e.kind=8
  ·have hw:=(Ex.EL (iA hp).2).1
   obtain⟨x,y,hxy⟩:∃ x y,e.kids=[x,y]:=by
    rcases Ex.vX hw with ⟨h,_⟩|⟨h,_⟩|⟨h,_⟩|⟨_,x,y,h,_⟩
    ·omega
    ·omega
    ·omega
    ·exact⟨x,y,h⟩
   refine .yes (q:=filt y (filt x a)) ?_ (by rw[eU];simp[rwF,hk2,Ex.jT,Ex.rM,hxy]);have h2:=dZ x a;have h3:=dZ y (filt x a);rw[aD rfl Tryz.func111 rfl rfl];simp only[aR,Ex.aB e,hxy,Ex.aA,Ex.aB x,Ex.aB y,Pn.aB a]at h2 h3 ⊢;simp[hk2,h2,h3]
  ·refine .no ?_ (by rw[eU];simp[rwF,hk2]);rw[aD rfl Tryz.func111 rfl rfl];simp only[aR,aS,Ex.aB e];simp[hk2]
 ·refine .no ?_ (by simp[rwP,hk]);rw[aD rfl Tryz.func111 rfl rfl];simp only[aS,Pn.aB p];simp[hk]
end Go.Proofs.YtjdfjgmebalaaaaGreat.P
namespace Go.Av
theorem tV {ws:List Int} {e:Ex} {a:Pn} (h:(filt e a).wd ws 8≠0):a.wd ws 8≠0∧e.ok (a.wd ws 8)=true∧(filt e a).wd ws 8=a.wd ws 8:=by
 have h1:=h;rw[FT]at h1;obtain⟨h2,h3⟩:=fT h1;have hm:=Pn.iT a 7 8 h3 (by omega);rw[hm];exact⟨h3,h2.2,by rw[FT,if_pos h2]⟩
theorem MM {ws:List Int} {kd:Int} {e:Ex} {a b:Pn} (hk:kd=4∨kd=5) (h:(bC kd e a b).wd ws 8≠0):a.wd ws 8≠0∧b.wd ws 8≠0∧a.wd ws 8+b.wd ws 8≤6∧e.ok (a.wd ws 8+b.wd ws 8)=true∧(bC kd e a b).wd ws 8=a.wd ws 8+b.wd ws 8:=by
 have h1:=h;rw[FQ hk]at h1;obtain⟨h2,h3⟩:=fT h1;rw[Pn.iT a 7 8 h2.1 (by omega),Pn.iT b 7 8 h2.2.1 (by omega)];exact⟨h2.1,h2.2.1,h2.2.2.1,h2.2.2.2,by rw[FQ hk,if_pos h2]⟩
theorem Y2 {ws:List Int} {es:List Ex} {a:Pn} (h:(proj es a).wd ws 8≠0):a.wd ws 8≠0∧bL es.length=true∧es.all (Ex.ok (a.wd ws 8))=true∧(proj es a).wd ws 8=es.length:=by
 have h1:=h;rw[BD]at h1;obtain⟨h2,h3⟩:=fT h1;rw[Pn.iT a 7 8 h2.1 (by omega)];exact⟨h2.1,h2.2.1,h2.2.2,by rw[BD,if_pos h2]⟩
theorem AHI {e:Ex} {n:Nat} (h:e.tY (fun c=>decide (0≤c))=true):(e.bits / 2 ^ n=0)=(e.cin 0 n=true):=by
 rw[eq_iff_iff,AMJ h n];unfold Ex.cin;constructor
 ·intro h1;exact Ex.oP (by simp) e (Ex.WU e h h1)
 ·intro h1;exact Ex.oP (fun c hc=>by simp at hc ⊢;exact hc.2) e h1
theorem AHH {e:Ex} {n W:Nat} (h:e.tY (fun c=>decide (0≤c∧c<(W:Int)))=true):(e.bits &&& (2 ^ n-1)=0)=(e.cin n W=true):=by
 have h0:e.tY (fun c=>decide (0≤c))=true:=Ex.oP (fun c hc=>by simp at hc ⊢;exact hc.1) e h;rw[eq_iff_iff,AMI h0 n];unfold Ex.cin;constructor
 ·intro h1;exact Ex.oP (fun c hc=>by simp at hc ⊢;omega) e (Ex.WU e h h1)
 ·intro h1;exact Ex.oP (fun c hc=>by simp at hc ⊢;exact hc.1) e h1
end Go.Av
namespace Go.Proofs.YtjdfjgmebalaaaaGreat.P
open Go Go.Av
set_option maxRecDepth 4000
set_option maxHeartbeats 4000000
theorem CV {ws:List Int} (hw:lH ws=true) (p:Pn):aI C0 68 [.i (.agg p.cells), .i (.isl (aF ws))] []=some (.int (p.wd ws 8),[]):=by
 rw[rD];unfold Pn.width;rw[if_pos hw]
theorem vZ {ws:List Int} (hw:lH ws=true) {p:Pn} (h:p.wd ws 8≠0):∃ n:Nat,p.wd ws 8=n∧1≤n∧n≤6:=by
 have:=Pn.sK (jY hw) p 8;exact⟨(p.wd ws 8).toNat,by omega,by omega,by omega⟩
theorem AGY (a b:Nat):Int.fdiv (a:Int) (b:Int)=((a / b:Nat):Int):=by
 rw[Int.fdiv_eq_ediv_of_nonneg _ (Int.natCast_nonneg b)];rfl
theorem AUU {n:Nat} (hn:n≤6):(IntKind.i64.wrap (IntKind.i64.wrap (2 ^ min n IntKind.i64.bits)-1) % 18446744073709551616).toNat=2 ^ n-1:=by
 have:n=0∨n=1∨n=2∨n=3∨n=4∨n=5∨n=6:=by omega
 rcases this with rfl|rfl|rfl|rfl|rfl|rfl|rfl<;>decide
theorem AFU {ws:List Int} (hw:lH ws=true) {e e2:Ex} {x y:Pn} {kd:Int} (hkd:kd=4∨kd=5) (hp:(filt e (bC kd e2 x y)).wd ws 8≠0):iR 112 ws 3 (filt e (bC kd e2 x y)):=by
 obtain⟨h1,h2,h3⟩:=tV hp;obtain⟨g1,g2,g3,g4,g5⟩:=MM hkd h1;rw[g5]at h2;obtain⟨n,hn,n1,n2⟩:=vZ hw g1;have hwf:=Ex.ABP h2;have hcol:=Ex.UM hwf;have hb:=Ex.NP e hcol;have c1:=LK e (by have:=Ex.fJ h2;omega) hcol;have c2:=CV hw x;have c3:=dZ e x;have c4:=mH kd e2 (filt e x) y;have q:=AHI (n:=n) (Ex.AEY hwf);rw[hn]at c2;have o1:aI C0 148 [.i (.iref (filt e (bC kd e2 x y)).cells), .int kd] []=_:=fA (e:=e) (k:=bC kd e2 x y) (kd:=kd) rfl;have o2:kd=5→aI C0 148 [.i (.iref (filt e (bC kd e2 x y)).cells), .int 4] []=_:=fun h=>dN (e:=e) (k:=bC kd e2 x y) (kd:=4) (by simp[h])
 have hsh:shI .shr .i64 (e.bits:Int) (n:Int)=some (.lit (.int .i64 ((e.bits / 2 ^ n:Nat):Int))):=by
  have h1:min (n:Int).toNat IntKind.i64.bits=n:=by simp[IntKind.bits];omega
  have h2:(0:Int)≤n:=by omega
  simp only[shI,h1,h2,decide_true,tst];rw[show(2:Int) ^ n=((2 ^ n:Nat):Int)by simp,AGY]
 have hr:rwP ws 3 (filt e (bC kd e2 x y))=if e.cin 0 n=true then some (bC kd e2 (filt e x) y)else none:=by
  rw[eU];simp[rwF,bC,Pn.ex0,Pn.jT,Pn.rM,Pn.kind,Pn.exprs,Pn.kids,hkd,hn]
 generalize hd:e.bits / 2 ^ n=d at *
 by_cases hc:e.cin 0 n=true
 ·rw[if_pos hc]at hr;have hd0:d=0:=by rw[q];exact hc
  subst hd0;refine .yes ?_ hr;rw[aD rfl Tryz.func112 rfl rfl]
  rcases hkd with rfl|rfl
  ·simp only[aR,pair_cells,Ex.aB e,Ex.aB e2,Pn.aB x,Pn.aB y]at o1 c1 c2 c3 c4 ⊢;simp[o1,c1,c2,c3,c4,hsh]
  ·have o2:=o2 rfl;simp only[aR,pair_cells,Ex.aB e,Ex.aB e2,Pn.aB x,Pn.aB y]at o1 o2 c1 c2 c3 c4 ⊢;simp[o1,o2,c1,c2,c3,c4,hsh]
 ·rw[if_neg hc]at hr;have hd0:¬ d=0:=by rw[q];exact hc
  refine .no ?_ hr;rw[aD rfl Tryz.func112 rfl rfl]
  rcases hkd with rfl|rfl
  ·simp only[aR,pair_cells,aS,Ex.aB e,Ex.aB e2,Pn.aB x,Pn.aB y]at o1 c1 c2 ⊢;simp[o1,c1,c2,hsh,hd0]
  ·have o2:=o2 rfl;simp only[aR,pair_cells,aS,Ex.aB e,Ex.aB e2,Pn.aB x,Pn.aB y]at o1 o2 c1 c2 ⊢;simp[o1,o2,c1,c2,hsh,hd0]
theorem ASZ {ws:List Int} (hw:lH ws=true) {p:Pn} (hp:p.wd ws 8≠0):iR 112 ws 3 p:=by
 by_cases hk:p.kind=2
 ·obtain⟨e,a,rfl⟩:=oQ (lW hp) hk;by_cases hk2:a.kind=4∨a.kind=5
  ·obtain⟨e2,x,y,hx⟩:=iX (iA (lW hp)).1 hk2;generalize a.kind=kd at *
   subst hx;exact AFU hw hk2 hp
  ·have h1:=dN (e:=e) (k:=a) (kd:=4) (by omega);have h2:=dN (e:=e) (k:=a) (kd:=5) (by omega);refine .no ?_ (by rw[eU];simp[rwF,hk2]);rw[aD rfl Tryz.func112 rfl rfl];simp only[aR,aS]at h1 h2 ⊢;simp[h1,h2]
 ·have h1:=eY (p:=p) (kd:=4) hk;have h2:=eY (p:=p) (kd:=5) hk;refine .no ?_ (by simp[rwP,hk]);rw[aD rfl Tryz.func112 rfl rfl];simp only[aS,Pn.aB p]at h1 h2 ⊢;simp[h1,h2]
theorem AHU {b n:Nat} (hb:b<64):IntKind.i64.wrap ((b:Int) % 18446744073709551616 % 2 ^ n)=((b &&& (2 ^ n-1):Nat):Int):=by
 rw[Nat.and_two_pow_sub_one_eq_mod];have h1:(b:Int) % 18446744073709551616=b:=by omega
 have h2:(b:Int) % 2 ^ n=((b % 2 ^ n:Nat):Int):=by simp
 rw[h1,h2];have:=Nat.mod_le b (2 ^ n);exact wrO
theorem AFT {ws:List Int} (hw:lH ws=true) {e e2:Ex} {x y:Pn} (hp:(filt e (bC 4 e2 x y)).wd ws 8≠0):iR 113 ws 4 (filt e (bC 4 e2 x y)):=by
 obtain⟨h1,h2,h3⟩:=tV hp;obtain⟨g1,g2,g3,g4,g5⟩:=MM (.inl rfl) h1;rw[g5]at h2;obtain⟨n,hn,n1,n2⟩:=vZ hw g1;obtain⟨m,hm,m1,m2⟩:=vZ hw g2;have hwf:=Ex.ABP h2;have hcol:=Ex.UM hwf;have hcolW:=Ex.M0 e (Ex.EL h2).1;have hb:=Ex.NP e hcol;have hsz:e.size<1000000000:=by have:=Ex.fJ h2;omega
 have c1:=LK e hsz hcol;have c2:=CV hw x;have c5:=SN (w:=n) (by omega) e hwf hsz;have c3:=dZ (e.uX (·-n)) y;have c4:=mH 4 e2 x (filt (e.uX (·-n)) y);rw[hn,hm,← Int.natCast_add]at hcolW;have q:=AHH (n:=n) hcolW;rw[hn]at c2;have o1:=fA (e:=e) (k:=bC 4 e2 x y) (kd:=4) rfl
 have hr:rwP ws 4 (filt e (bC 4 e2 x y))=if e.cin n (n+m:Nat)=true then some (bC 4 e2 x (filt (e.uX (·-n)) y))else none:=by
  rw[eU]
  have:∀ k:Pn,(Pn.mk 4 0 [e2] [] [x,y]).wd ws 8=((n+m:Nat):Int):=fun _=>by
   have:=g5;unfold bC at this;rw[this,hn,hm];simp
  simp[rwF,bC,Pn.ex0,Pn.jT,Pn.rM,Pn.kind,Pn.exprs,Pn.kids,hn,this x]
 have haw:=AHU (b:=e.bits) (n:=n) (by omega);by_cases hc:e.cin n (n+m:Nat)=true
 ·rw[if_pos hc]at hr;have hd0:e.bits &&& (2 ^ n-1)=0:=by rw[q];exact hc
  rw[hd0]at haw;refine .yes ?_ hr;generalize e.uX (·-(n:Int))=z at *
  rw[aD rfl Tryz.func113 rfl rfl];simp only[aR,pair_cells,Ex.aB e,Ex.aB e2,Ex.aB z,Pn.aB x,Pn.aB y]at o1 c1 c2 c3 c4 c5 ⊢;simp[o1,c1,c2,c3,c4,c5,AUU n2,haw]
 ·rw[if_neg hc]at hr;have hd0:¬ (e.bits &&& (2 ^ n-1)=0):=by rw[q];exact hc
  refine .no ?_ hr;generalize e.bits &&& (2 ^ n-1)=d at *
  rw[aD rfl Tryz.func113 rfl rfl];simp only[aR,pair_cells,aS,Ex.aB e,Ex.aB e2,Pn.aB x,Pn.aB y]at o1 c1 c2 ⊢;simp[o1,c1,c2,hd0,AUU n2,haw]
theorem ASY {ws:List Int} (hw:lH ws=true) {p:Pn} (hp:p.wd ws 8≠0):iR 113 ws 4 p:=by
 by_cases hk:p.kind=2
 ·obtain⟨e,a,rfl⟩:=oQ (lW hp) hk;by_cases hk2:a.kind=4
  ·obtain⟨e2,x,y,hx⟩:=iX (iA (lW hp)).1 (.inl hk2);rw[hk2]at hx;subst hx;exact AFT hw hp
  ·have h1:=dN (e:=e) (k:=a) (kd:=4) hk2;refine .no ?_ (by rw[eU];simp[rwF,hk2]);rw[aD rfl Tryz.func113 rfl rfl];simp only[aR,aS]at h1 ⊢;simp[h1]
 ·have h1:=eY (p:=p) (kd:=4) hk;refine .no ?_ (by simp[rwP,hk]);rw[aD rfl Tryz.func113 rfl rfl];simp only[aS,Pn.aB p]at h1 ⊢;simp[h1]
theorem AB0 {ws:List Int} (hw:lH ws=true) {e:Ex} {es:List Ex} {x:Pn} (hp:(filt e (proj es x)).wd ws 8≠0):iR 119 ws 10 (filt e (proj es x)):=by
 obtain⟨h1,h2,h3⟩:=tV hp;obtain⟨g1,g2,g3,g4⟩:=Y2 h1;rw[g4]at h2;have c2:=CV hw x;have c5:=ACK e es (x.wd ws 8);have o1:=fA (e:=e) (k:=proj es x) (kd:=3) rfl
 have hr:rwP ws 10 (filt e (proj es x))=some (proj es (filt (e.sub es) x)):=by
  rw[eU];simp[rwF,proj,Pn.ex0,Pn.jT,Pn.rM,Pn.kind,Pn.exprs,Pn.kids]
 have c3:=dZ (AGU (e.subst es (x.wd ws 8))) x;refine⟨proj es (filt (AGU (e.subst es (x.wd ws 8))) x),(e.subst es (x.wd ws 8)).isSome,?_,?_,?_⟩
 ·generalize (e.subst es (x.wd ws 8)).isSome=b at *
  generalize AGU (e.subst es (x.wd ws 8))=z at *
  rw[aD rfl Tryz.func119 rfl rfl];simp only[aR,jB,Ex.aB e,Ex.aB z,Pn.aB x]at o1 c2 c3 c5 ⊢;simp[o1,c2,c3,c5]
 ·intro hb;rw[hr];unfold Ex.subst at hb ⊢;split at hb
  ·rename_i hcc;rw[if_pos hcc];rfl
  ·simp at hb
 ·intro hb q' hq lv;rw[hr]at hq;injection hq with hq;subst hq
  cases lv with
  | zero=>rw[Pn.X8];simp[proj,Pn.kids]
  | succ lv =>
   rw[BD];refine if_neg fun hc=>?_
   have hc1:=hc.1
   cases lv with
   | zero=>exact hc1 (by rw[Pn.X8];simp[filt,Pn.kids])
   | succ lv =>
    rw[FT]at hc1;obtain⟨⟨hx,hok⟩,_⟩:=fT hc1;have e8:=AHZ (lW g1) hx;rw[e8]at hok;unfold Ex.subst at hb;rw[if_pos (by simp only[zT];exact⟨h2,g3,hok⟩)]at hb;simp at hb
theorem APE {ws:List Int} (hw:lH ws=true) {p:Pn} (hp:p.wd ws 8≠0):iR 119 ws 10 p:=by
 by_cases hk:p.kind=2
 ·obtain⟨e,a,rfl⟩:=oQ (lW hp) hk;by_cases hk2:a.kind=3
  ·obtain⟨es,x,rfl⟩:=nN (iA (lW hp)).1 hk2;exact AB0 hw hp
  ·have h1:=dN (e:=e) (k:=a) (kd:=3) hk2;refine .no ?_ (by rw[eU];simp[rwF,hk2]);rw[aD rfl Tryz.func119 rfl rfl];simp only[aR,aS]at h1 ⊢;simp[h1]
 ·have h1:=eY (p:=p) (kd:=3) hk;refine .no ?_ (by simp[rwP,hk]);rw[aD rfl Tryz.func119 rfl rfl];simp only[aS,Pn.aB p]at h1 ⊢;simp[h1]
def OIX (e e2:Ex) (x y:Pn) (ws:List Int) (n m i:Nat):AS :=
 { env:=[(0, .i (.iref [.int 2, .int 0, .isl [[.int e.kind, .int e.col, .bool e.val.null, .int e.val.n, .isl (Ex.aA e.kids)]], .isl [], .isl [[.int 5, .int 0, .isl [[.int e2.kind, .int e2.col, .bool e2.val.null, .int e2.val.n, .isl (Ex.aA e2.kids)]], .isl [], .isl [[.int x.kind, .int x.table, .isl (Ex.aA x.exprs), .isl (aF x.cols), .isl (Pn.aA x.kids)],[.int y.kind, .int y.table, .isl (Ex.aA y.exprs), .isl (aF y.cols), .isl (Pn.aA y.kids)]]]]])),(1, .i (.isl (aF ws))),(4, .own 0 0),(5, .bool false),(6, .i (.iref [.int e.kind, .int e.col, .bool e.val.null, .int e.val.n, .isl (Ex.aA e.kids)])),
    (7, .i (.iref [.int 5, .int 0, .isl [[.int e2.kind, .int e2.col, .bool e2.val.null, .int e2.val.n, .isl (Ex.aA e2.kids)]], .isl [], .isl [[.int x.kind, .int x.table, .isl (Ex.aA x.exprs), .isl (aF x.cols), .isl (Pn.aA x.kids)],[.int y.kind, .int y.table, .isl (Ex.aA y.exprs), .isl (aF y.cols), .isl (Pn.aA y.kids)]]])),(8, .bool true),(9, .int ((n:Int)+m)),(10,gro 1 1 i),(11, .int ((n:Int)+i)),(19, .bool false),(36,jk i (.bool true)),(49, .junk)],
   st:=some (.box [.int 0, .int 0, .nils, .nils, .nils])::AA0 1 (aF (kW n i)) i }
theorem AFR {ws:List Int} (hw:lH ws=true) {e e2:Ex} {x y:Pn} (hp:(filt e (bC 5 e2 x y)).wd ws 8≠0):iR 116 ws 7 (filt e (bC 5 e2 x y)):=by
 obtain⟨h1,h2,h3⟩:=tV hp;obtain⟨g1,g2,g3,g4,g5⟩:=MM (.inr rfl) h1;have c1:=CV hw (bC 5 e2 x y);rw[g5]at h2 c1;obtain⟨n,hn,n1,n2⟩:=vZ hw g1;obtain⟨m,hm,m1,m2⟩:=vZ hw g2;have c2:=CV hw x;rw[hn,hm,← Int.natCast_add]at h2 c1;rw[hn]at c2;have c3:=mH 4 e2 x y;have c4:=dZ e (bC 4 e2 x y);have c5:=TJ e (n:=n+m) (p:=n) (m:=m) rfl h2;have o1:=fA (e:=e) (k:=bC 5 e2 x y) (kd:=5) rfl
 have hr:rwP ws 7 (filt e (bC 5 e2 x y))=if ABC e (n+m:Nat) n=true then some (filt e (bC 4 e2 x y))else none:=by
  rw[eU]
  have:(Pn.mk 5 0 [e2] [] [x,y]).wd ws 8=((n+m:Nat):Int):=by
   have:=g5;unfold bC at this;rw[this,hn,hm];simp
  simp[rwF,bC,Pn.ex0,Pn.jT,Pn.rM,Pn.kind,Pn.exprs,Pn.kids,hn,this]
 generalize ABC e (n+m:Nat) n=b at *
 have key:aI C0 116 [.i (.iref (filt e (bC 5 e2 x y)).cells), .i (.isl (aF ws))] []=some (.tup [.i (.agg (if b=true then filt e (bC 4 e2 x y)else Pn.zero).cells), .bool b],[]):=by
  rw[aD rfl Tryz.func116 rfl rfl];simp only[aR,pair_cells,aS,Ex.aB e,Ex.aB e2,Pn.aB x,Pn.aB y]at o1 c1 c2 c3 c4 c5 ⊢;have ht:∀ k,(kW n k).take k=kW n k:=fun k=>zY (by simp)
  simp only[yF]at c5;simp[o1,c1,c2];rw[aU (OIX e e2 x y ws n m) m (by simp[OIX])]
  ·rw[aH];simp[OIX,aP (show m≠0 by omega),aJ (show m≠0 by omega),dL (show m≠0 by omega)]
   cases b with
   | true=>simp[c3,c4,c5,ht,aR,pair_cells,Ex.aB e,Ex.aB e2,Pn.aB x,Pn.aB y]
   | false=>simp[c5,ht,aS]
  ·intro i hi;have w2:IntKind.i64.wrap ((n:Int)+i+1)=n+(i+1):=by rw[wrO];omega
   have hs:=LM n i;have hlt:(n:Int)+i<n+m:=by omega
   by_cases h0:i=0
   ·subst h0;have hlt0:(n:Int)<n+m:=by omega
    have w3:IntKind.i64.wrap ((n:Int)+1)=n+1:=by rw[wrO]
    simp[OIX,w3,hlt0,hs,fE,aF,kW]
   ·have hl1:(i+1)*8≤140737488355328:=by omega
    simp[OIX,w2,hlt,hs,aP h0,aJ h0,dL h0,fE,aF,hl1,ht]
 cases b with
 | true=>exact .yes key (by rw[hr];rfl)
 | false=>exact .no key (by rw[hr];rfl)
theorem ASV {ws:List Int} (hw:lH ws=true) {p:Pn} (hp:p.wd ws 8≠0):iR 116 ws 7 p:=by
 by_cases hk:p.kind=2
 ·obtain⟨e,a,rfl⟩:=oQ (lW hp) hk;by_cases hk2:a.kind=5
  ·obtain⟨e2,x,y,hx⟩:=iX (iA (lW hp)).1 (.inr hk2);rw[hk2]at hx;subst hx;exact AFR hw hp
  ·have h1:=dN (e:=e) (k:=a) (kd:=5) hk2;refine .no ?_ (by rw[eU];simp[rwF,hk2]);rw[aD rfl Tryz.func116 rfl rfl];simp only[aR,aS]at h1 ⊢;simp[h1]
 ·have h1:=eY (p:=p) (kd:=5) hk;refine .no ?_ (by simp[rwP,hk]);rw[aD rfl Tryz.func116 rfl rfl];simp only[aS,Pn.aB p]at h1 ⊢;simp[h1]
theorem WK {n m i:Nat} (h:i<n+m):(aT (m:Int) n++aT 0 m)[i]?=some (WN (p9 n m i)):=by
 by_cases hi:i<n
 ·rw[zH (by simpa using hi),rW hi];unfold p9;rw[if_pos (by omega),Int.add_comm]
 ·rw[zB (by simp;omega),rX,rW (by omega)];unfold p9;rw[if_neg (by omega)];congr 2;omega
def MPX (fs es:List Ex) (x:Pn) (ws:List Int) (W:Int) (zs:List Ex) (i:Nat):AS :=
 { env:=[(0, .i (.iref [.int 3, .int 0, .isl (Ex.aA fs), .isl [], .isl [[.int 3, .int 0, .isl (Ex.aA es), .isl [], .isl [[.int x.kind, .int x.table, .isl (Ex.aA x.exprs), .isl (aF x.cols), .isl (Pn.aA x.kids)]]]]])),(1, .i (.isl (aF ws))),(4, .own 0 0),(5, .bool false),(6, .i (.iref [.int 3, .int 0, .isl (Ex.aA es), .isl [], .isl [[.int x.kind, .int x.table, .isl (Ex.aA x.exprs), .isl (aF x.cols), .isl (Pn.aA x.kids)]]])),(7, .int W),(8, .own 1 0),(9,jk i (.int (i-1))),(10,if i=0 then .junk else .own 3 0),(11,jk i (.bool true)),(26, .bool false),(50, .int fs.length),(51, .int i),(52,jk i (.bool true)),(71,jk i (.bool false))],
   st:=some (.box [.int 0, .int 0, .nils, .nils, .nils])::some (.box [.int 3, .int 0,gro 2 5 i, .nils, .i (.isl [[.int x.kind, .int x.table, .isl (Ex.aA x.exprs), .isl (aF x.cols), .isl (Pn.aA x.kids)]])])::(if i=0 then []else [some (.arr 5 (Ex.aA (zs.take i))),some (.box (kV ((zs[i-1]?).getD Ex.zero).cells))]) }
def CJX (e:Ex) (x y:Pn) (ws:List Int) (n m i:Nat):AS :=
 { env:=[(0, .i (.iref [.int 4, .int 0, .isl [[.int e.kind, .int e.col, .bool e.val.null, .int e.val.n, .isl (Ex.aA e.kids)]], .isl [], .isl [[.int x.kind, .int x.table, .isl (Ex.aA x.exprs), .isl (aF x.cols), .isl (Pn.aA x.kids)],[.int y.kind, .int y.table, .isl (Ex.aA y.exprs), .isl (aF y.cols), .isl (Pn.aA y.kids)]]])),(1, .i (.isl (aF ws))),(4, .own 0 0),(5, .bool false),(6, .own 1 0),(7, .own 2 0),(8, .fn (.func 155) [.own 1 0, .own 2 0]),(9, .own 3 0),(10,jk i (.int (i-1))),(15, .bool false),(37, .int ((n:Int)+m)),(38, .int i),(39,jk i (.bool true))],
   st:=some (.box [.int 0, .int 0, .nils, .nils, .nils])::some (.box [.int n])::some (.box [.int m])::some (.box [.int 3, .int 0,gro 4 5 i, .nils, .nils])::AA0 5 (Ex.aA ((aT (m:Int) n++aT 0 m).take i)) i }
theorem AFS {ws:List Int} (hw:lH ws=true) {e:Ex} {x y:Pn} (hp:(bC 4 e x y).wd ws 8≠0):iR 115 ws 6 (bC 4 e x y):=by
 obtain⟨g1,g2,g3,g4,g5⟩:=MM (.inl rfl) hp;obtain⟨n,hn,n1,n2⟩:=vZ hw g1;obtain⟨m,hm,m1,m2⟩:=vZ hw g2;have c1:=CV hw x;have c2:=CV hw y;have hwf:=Ex.ABP g4;have hsz:e.size<1000000000:=by have:=Ex.fJ g4;omega
 have c5:=SK (a:=n) (b:=m) (by omega) (by omega) e hwf hsz;have c4:=mH 4 (e.uX (p9 n m)) y x
 have hr:rwP ws 6 (bC 4 e x y)=some (proj (aT m n++aT 0 m) (bC 4 (e.uX (p9 n m)) y x)):=by
  simp[rwP,bC,Pn.ex0,Pn.jT,Pn.rM,Pn.kind,Pn.exprs,Pn.kids,hn,hm]
 rw[hn]at c1;rw[hm]at c2;refine .yes ?_ hr;generalize e.uX (p9 n m)=z at *
 rw[aD rfl Tryz.func115 rfl rfl];simp only[jB,pair_cells,aS,Ex.aB e,Ex.aB z,Pn.aB x,Pn.aB y]at c1 c2 c4 c5 ⊢;have w0:IntKind.i64.wrap ((n:Int)+m)=n+m:=wrO;have hlen:(aT (m:Int) n++aT 0 m).length=n+m:=by simp
 simp[c1,c2,w0];rw[aU (CJX e x y ws n m) (n+m) (by simp[CJX])]
 ·rw[aH];have htk:(aT (m:Int) n++aT 0 m).take (n+m)=aT (m:Int) n++aT 0 m:=zY (by omega);simp[CJX,aP (show n+m≠0 by omega),aJ (show n+m≠0 by omega),dL (show n+m≠0 by omega),htk,c4,c5]
 ·intro i hi;have hnth:=WK hi;have htk:=aM hnth;have hpl:=KQ i n m (by omega) (by omega) (by omega);have hco:=BZ (p9 n m i);generalize p9 n m i=c at *
  rw[kH]at hco;have hlt:(i:Int)<n+m:=by omega
  have w2:IntKind.i64.wrap ((i:Int)+1)=i+1:=wrO;by_cases h0:i=0
  ·subst h0;have hlt0:(0:Int)<n+m:=by omega
   simp at hpl;simp[CJX,hlt0,hpl,hco,dH,htk,Ex.aA,kH]
  ·have hl1:(i+1)*56≤140737488355328:=by omega
   have hl2:i≤min i (n+m):=by omega
   simp[CJX,w2,hlt,hpl,hco,aP h0,aJ h0,dL h0,htk,Ex.aW,kH,hl1,hl2,zJ]
theorem AAZ {ws:List Int} (hw:lH ws=true) {fs es:List Ex} {x:Pn} (hp:(proj fs (proj es x)).wd ws 8≠0):iR 120 ws 11 (proj fs (proj es x)):=by
 obtain⟨h1,h2,h3,h4⟩:=Y2 hp;obtain⟨g1,g2,g3,g4⟩:=Y2 h1;rw[g4]at h3;have c2:=CV hw x;have c5:=fun e=>ACK e es (x.wd ws 8)
 have hr:rwP ws 11 (proj fs (proj es x))=some (proj (fs.map (Ex.sub es)) x):=by
  simp[rwP,proj,Pn.ex0,Pn.jT,Pn.rM,Pn.kind,Pn.exprs,Pn.kids]
 generalize hW:x.wd ws 8=W at *
 have hin:∀ (i:Nat) (a:Ex),fs[i]?=some a→(a.subst es W).isSome=true→(fs.map (Ex.sub es))[i]?=some (a.sub es)∧a.subst es W=some (a.sub es):=by
  intro i a ha hs;refine⟨by simp[ha],?_⟩;unfold Ex.subst at hs ⊢;split at hs
  ·rename_i hc;rw[if_pos hc]
  ·simp at hs
 have hlen:fs.length≤6:=by unfold bL at h2;simp at h2;omega
 obtain⟨j,k1,k2⟩:=iB (fun e=>(e.subst es W).isSome) fs
 have hround:∀ i,i<j→i<fs.length∧∃ f z,fs[i]?=some f∧fO (Ex.aA fs) i=some f.cells∧(fs.map (Ex.sub es))[i]?=some z∧f.subst es W=some z:=by
  intro i hi;obtain⟨f,q1,q2,q3⟩:=k1 i hi;obtain⟨q4,q5⟩:=hin i f q1 q3;exact⟨(zZ.1 q1).1,f,_,q1,Ex.aN q1,q4,q5⟩
 have hfl:fs.length≠0:=by intro h;rw[h]at h2;simp[bL]at h2
 have hzl:(fs.map (Ex.sub es)).length=fs.length:=by simp
 have hq:∀ lv,(proj (fs.map (Ex.sub es)) x).wd ws lv≠0→∀ f∈fs,(f.sub es).ok W=true:=by
  intro lv hne f hf
  cases lv with
  | zero=>exact absurd (by rw[Pn.X8];simp[proj,Pn.kids]) hne
  | succ lv =>
   rw[BD]at hne;obtain⟨⟨q1,q2,q3⟩,_⟩:=fT hne;have e8:=AHZ (lW (p:=x) (lv:=8) (by rw[hW];exact g1)) q1;rw[e8,hW]at q3;exact zQ.1 q3 _ (List.mem_map_of_mem hf)
 generalize fs.map (Ex.sub es)=zs at *
 have main:∀ r,aI C0 120 [.i (.iref (proj fs (proj es x)).cells), .i (.isl (aF ws))] []=r→r=if j=fs.length then some (.tup [.i (.agg (proj zs x).cells), .bool true],[])else some (.tup [.i (.agg Pn.zero.cells), .bool false],[]):=by
  intro r hr';subst hr';rw[aD rfl Tryz.func120 rfl rfl];simp only[jB,Pn.aB x]at c2 ⊢;simp[c2];rw[aU (MPX fs es x ws W zs) j (by simp[MPX])]
  ·rw[aH]
   rcases k2 with ⟨hj,ha⟩|⟨f,q1,q2,q3,ha⟩
   ·have htk:zs.take fs.length=zs:=zY (by omega);simp[MPX,hj,hfl,aP hfl,htk,hzl]
   ·have hj:j<fs.length:=(zZ.1 q1).1;have hne:¬ j=fs.length:=by omega
    have r1:=Ex.aN q1;have hn:f.subst es W=none:=by cases h:f.subst es W with|none=>rfl|some _=>rw[h]at q3;simp at q3
    have c6:=c5 f;rw[hn]at c6;simp only[AGU,Option.getD,Option.isSome,Ex.aB f,aS]at c6 r1;by_cases h0:j=0
    ·subst h0;simp[MPX,hj,hne,r1,c6,aS]
    ·simp[MPX,hj,hne,r1,c6,h0,aP h0,dL h0,aS]
  ·intro i hi;obtain⟨hil,f,z,q1,r1,q4,q5⟩:=hround i hi;have c6:=c5 f;rw[q5]at c6;have htk:=aM q4;have w2:IntKind.i64.wrap ((i:Int)+1)=i+1:=wrO;simp only[AGU,Option.getD,Option.isSome,Ex.aB f,Ex.aB z]at c6 r1;by_cases h0:i=0
   ·subst h0;simp[MPX,hil,r1,c6,dH,htk,q4,Ex.aA,Ex.aB z]
   ·have hl1:(i+1)*56≤140737488355328:=by omega
    have hl2:i≤min i zs.length:=by omega
    simp[MPX,hil,r1,c6,w2,htk,q4,h0,aP h0,dL h0,Ex.aW,Ex.aB z,hl1,hl2,zJ]
 have hm:=main _ rfl
 rcases k2 with ⟨hj,ha⟩|⟨f,q1,q2,q3,ha⟩
 ·rw[if_pos hj]at hm;exact .yes hm hr
 ·have hj:j<fs.length:=(zZ.1 q1).1;rw[if_neg (by omega)]at hm;refine⟨.zero,false,hm,by simp,fun _ q' hq' lv=>?_⟩;rw[hr]at hq';injection hq' with hq';subst hq';by_cases hne:(proj zs x).wd ws lv=0
  ·exact hne
  ·have hok:=hq lv hne f q2;unfold Ex.subst at q3;rw[if_pos (by simp only[zT];exact⟨List.all_eq_true.1 h3 f q2,g3,hok⟩)]at q3;simp at q3
theorem ASW {ws:List Int} (hw:lH ws=true) {p:Pn} (hp:p.wd ws 8≠0):iR 115 ws 6 p:=by
 by_cases hk:p.kind=4
 ·obtain⟨e,x,y,hx⟩:=iX (lW hp) (.inl hk);rw[hk]at hx;subst hx;exact AFS hw hp
 ·refine .no ?_ ?_
  ·rw[aD rfl Tryz.func115 rfl rfl];simp only[aS,Pn.aB p];simp[hk]
  ·unfold rwP;split
   ·unfold rwF;simp
   ·simp[hk]
theorem APD {ws:List Int} (hw:lH ws=true) {p:Pn} (hp:p.wd ws 8≠0):iR 120 ws 11 p:=by
 by_cases hk:p.kind=3
 ·obtain⟨fs,a,rfl⟩:=nN (lW hp) hk;by_cases hk2:a.kind=3
  ·obtain⟨V,hV,_⟩:=vT (lW hp);obtain⟨es,x,rfl⟩:=nN hV hk2;exact AAZ hw hp
  ·refine .no ?_ (by simp[rwP,Pn.jT,proj,hk2]);rw[aD rfl Tryz.func120 rfl rfl];simp only[jB,aS,Pn.aB a];simp[hk2]
 ·refine .no ?_ ?_
  ·rw[aD rfl Tryz.func120 rfl rfl];simp only[aS,Pn.aB p];simp[hk]
  ·unfold rwP;split
   ·unfold rwF;simp
   ·simp[hk]
end Go.Proofs.YtjdfjgmebalaaaaGreat.P
namespace Go.Av
theorem UZ {ws:List Int} {r:Int} {lv:Nat} {p:Pn} (h:∀ q',rwP ws r p=some q'→∀ lv,q'.wd ws lv=0):rwL ws r lv p=none:=by
 unfold rwL
 cases hq:rwP ws r p with
 | none=>rfl
 | some q=>simp[h q hq lv]
theorem AFO {ws:List Int} {r:Int} {lv:Nat} {p q:Pn} (h:rwP ws r p=some q):rwL ws r lv p=if q.wd ws lv=0 then none else some q:=by
 unfold rwL;rw[h];by_cases hq:q.wd ws lv=0<;>simp[hq]
def FB (o:Option Pn):Pn:=o.getD Pn.zero
end Go.Av
namespace Go.Proofs.YtjdfjgmebalaaaaGreat.P
open Go Go.Av
set_option maxRecDepth 4000
set_option maxHeartbeats 4000000
theorem ME {ws:List Int} {p:Pn} {r:Int} {lv:Nat} (h:r<1∨11<r):aI C0 70 [.i (.iref p.cells), .i (.isl (aF ws)), .int r, .int lv] []=some (.tup [.i (.agg Pn.zero.cells), .bool false],[]):=by
 rw[aD rfl Tryz.func70 rfl rfl,aS]
 rcases h with h|h
 ·simp[h]
 ·simp[show ¬ r<1 by omega,show 12≤r by omega]
theorem DF {ws:List Int} (hw:lH ws=true) {p:Pn} (hp:p.wd ws 8≠0) (r:Int) {lv:Nat} (hl:lv≤8):aI C0 70 [.i (.iref p.cells), .i (.isl (aF ws)), .int r, .int lv] []=some (.tup [.i (.agg (FB (rwL ws r lv p)).cells), .bool (rwL ws r lv p).isSome],[]):=by
 have hr:(r<1∨11<r)∨(r=1∧iR 110 ws 1 p)∨(r=2∧iR 111 ws 2 p)∨(r=3∧iR 112 ws 3 p)∨(r=4∧iR 113 ws 4 p)∨(r=5∧iR 114 ws 5 p)∨(r=6∧iR 115 ws 6 p)∨(r=7∧iR 116 ws 7 p)∨(r=8∧iR 117 ws 8 p)∨(r=9∧iR 118 ws 9 p)∨(r=10∧iR 119 ws 10 p)∨(r=11∧iR 120 ws 11 p):=by
  by_cases h:r<1∨11<r
  ·exact .inl h
  ·refine .inr ?_;have:r=1∨r=2∨r=3∨r=4∨r=5∨r=6∨r=7∨r=8∨r=9∨r=10∨r=11:=by omega
   rcases this with rfl|rfl|rfl|rfl|rfl|rfl|rfl|rfl|rfl|rfl|rfl
   ·exact(.inl ⟨rfl,AT1 (lW hp)⟩)
   ·exact(.inr (.inl ⟨rfl,AT0 (lW hp)⟩))
   ·exact(.inr (.inr (.inl ⟨rfl,ASZ hw hp⟩)))
   ·exact(.inr (.inr (.inr (.inl ⟨rfl,ASY hw hp⟩))))
   ·exact(.inr (.inr (.inr (.inr (.inl ⟨rfl,ASX (lW hp)⟩)))))
   ·exact(.inr (.inr (.inr (.inr (.inr (.inl ⟨rfl,ASW hw hp⟩))))))
   ·exact(.inr (.inr (.inr (.inr (.inr (.inr (.inl ⟨rfl,ASV hw hp⟩)))))))
   ·exact(.inr (.inr (.inr (.inr (.inr (.inr (.inr (.inl ⟨rfl,ASU (lW hp)⟩))))))))
   ·exact(.inr (.inr (.inr (.inr (.inr (.inr (.inr (.inr (.inl ⟨rfl,AST (lW hp)⟩)))))))))
   ·exact(.inr (.inr (.inr (.inr (.inr (.inr (.inr (.inr (.inr (.inl ⟨rfl,APE hw hp⟩))))))))))
   ·exact(.inr (.inr (.inr (.inr (.inr (.inr (.inr (.inr (.inr (.inr (⟨rfl,APD hw hp⟩)))))))))))
 rcases hr with h|⟨rfl,q,b,h1,h2,h3⟩|⟨rfl,q,b,h1,h2,h3⟩|⟨rfl,q,b,h1,h2,h3⟩|⟨rfl,q,b,h1,h2,h3⟩|⟨rfl,q,b,h1,h2,h3⟩|⟨rfl,q,b,h1,h2,h3⟩|⟨rfl,q,b,h1,h2,h3⟩|⟨rfl,q,b,h1,h2,h3⟩|⟨rfl,q,b,h1,h2,h3⟩|⟨rfl,q,b,h1,h2,h3⟩|⟨rfl,q,b,h1,h2,h3⟩
 ·rw[ME h]
  have:rwL ws r lv p=none:=UZ fun q' hq=>by
   have:=AFN hq;simp[rules]at this;omega
  rw[this];rfl
 all_goals
  have h4:=vW (jY hw) q lv hl;rw[aD rfl Tryz.func70 rfl rfl]
  cases b with
  | false =>
   rw[UZ (h3 rfl)];simp only[FB,Option.getD,Option.isSome,aS,Pn.aB p,Pn.aB q]at h1 h4 ⊢;simp[h1]
  | true =>
   rw[AFO (h2 rfl)];by_cases hq:q.wd ws lv=0
   ·rw[hq]at h4;rw[if_pos hq];simp only[FB,Option.getD,Option.isSome,aS,Pn.aB p,Pn.aB q]at h1 h4 ⊢;simp[h1,h4]
   ·rw[if_neg hq];simp only[FB,Option.getD,Option.isSome,Pn.aB p,Pn.aB q]at h1 h4 ⊢;simp[h1,h4,hq]
end Go.Proofs.YtjdfjgmebalaaaaGreat.P
namespace Go.Av
def AWC (s:Stp):List IV:=[.int s.1, .isl (aF s.2)]
def AFE (l:List Stp):List (List IV):=l.map AWC
theorem AAC {ws:List Int} {p:Pn} {lv:Nat} (h:p.wd ws lv≠0) (hk:p.kids≠[]):p.kids.length≤2∧lv≠0∧∀ a∈p.kids,a.wd ws (lv-1)≠0:=by
 rw[Pn.vY]at h;obtain⟨h1,h2⟩:=fT h;refine⟨Pn.IP h1.1,h1.2.resolve_left hk,?_⟩;split at h2
 ·rename_i hk1;exact absurd (Pn.vG h1.1 hk1) hk
 ·obtain⟨h3,_⟩:=fT h2;exact fun a ha=>by simpa using zQ.1 h3 a ha
end Go.Av
namespace Go.Proofs.YtjdfjgmebalaaaaGreat.P
open Go Go.Av
set_option maxRecDepth 4000
set_option maxHeartbeats 4000000
structure Yl (R:Rng) (cs:List AV):Prop where
 ids:cs=[.own 1 0, .junk, .junk]
 y00:∀ r:Int,aI C0 tN [.fn (.yield 0) [.own 0 0], .agg [.int r, .nils]] [some (.loop R cs .ready),some (.box [.nils])]=some (.bool true,[some (.loop R cs .ready),some (.box [.osl 2 2 0 1]),some (.arr 2 [[.int r, .isl []]])])
 y01:∀ (r:Int) (path:List Int),path≠[]→aI C0 tN [.fn (.yield 0) [.own 0 0], .agg [.int r, .osl 2 1 0 path.length]] [some (.loop R cs .ready),some (.box [.nils]),some (.arr 1 (aF path))]=some (.bool true,[some (.loop R cs .ready),some (.box [.osl 3 2 0 1]),some (.frz 1 (aF path)),some (.arr 2 [[.int r, .isl (aF path)]])])
 y10:∀ (r:Int) (n:Nat) (l:List Stp),l.length=n→n≠0→n<1000000→aI C0 tN [.fn (.yield 0) [.own 0 0], .agg [.int r, .nils]] [some (.loop R cs .ready),some (.box [.osl 2 2 0 n]),some (.arr 2 (AFE l))]=some (.bool true,[some (.loop R cs .ready),some (.box [.osl 3 2 0 (n+1)]),none,some (.arr 2 (AFE l++[[.int r, .isl []]]))])
 y11:∀ (r:Int) (n:Nat) (l:List Stp) (path:List Int),path≠[]→l.length=n→n≠0→n<1000000→aI C0 tN [.fn (.yield 0) [.own 0 0], .agg [.int r, .osl 3 1 0 path.length]] [some (.loop R cs .ready),some (.box [.osl 2 2 0 n]),some (.arr 2 (AFE l)),some (.arr 1 (aF path))]=some (.bool true,[some (.loop R cs .ready),some (.box [.osl 4 2 0 (n+1)]),none,some (.frz 1 (aF path)),some (.arr 2 (AFE l++[[.int r, .isl (aF path)]]))])
set_option maxHeartbeats 8000000
end Go.Proofs.YtjdfjgmebalaaaaGreat.P
namespace Go.Av
theorem nX {p:Pn} {ws:List Int} (h:p.width ws≠0):lH ws=true∧p.wd ws 8≠0∧p.width ws=p.wd ws 8:=by
 unfold Pn.width at h ⊢;split at h
 ·rename_i hw;exact⟨hw,h,if_pos hw⟩
 ·exact absurd rfl h
end Go.Av
namespace Go.Proofs.YtjdfjgmebalaaaaGreat.P
open Go Go.Av
set_option maxRecDepth 4000
set_option maxHeartbeats 8000000
end Go.Proofs.YtjdfjgmebalaaaaGreat.P
namespace Go.Av
theorem dI {ws:List Int}:∀ (p:Pn) (lv:Nat),p.wd ws lv≠0→p.thin:=by
 intro p
 induction p using Pn.ind with
 | h k t es cs ks ih =>
  intro lv h
  have hk:∀ a∈ks,a.thin:=fun a ha=>by
   have h2:=(AAC (p:=.mk k t es cs ks) h (by intro e;simp only[Pn.kids]at e;rw[e]at ha;simp at ha)).2.2 a ha;exact ih a ha _ h2
  have hs:=M3 h;rw[Pn.bI];generalize hp:Pn.mk k t es cs ks=p at *
  have hks:ks=p.kids:=by rw[← hp];rfl
  subst hks;have ok1:∀ {w:Int} {e:Ex},e.ok w=true→e.thin:=fun h=>Ex.fD _ (by have:=Ex.fJ h;omega)
  cases hs with
  | scan=>simp[Pn.scan,Pn.exprs,Pn.cols,Pn.kids]
  | filt m e a _ _ he=>exact⟨by simp[filt,Pn.exprs],fun x hx=>by simp[filt,Pn.exprs]at hx;subst hx;exact ok1 he,by simp[filt,Pn.cols],by simp[filt,Pn.kids],hk⟩
  | proj m es a _ _ hl he=>exact⟨by simp[proj,Pn.exprs];unfold bL at hl;simp at hl;omega,fun x hx=>ok1 (he x hx),by simp[proj,Pn.cols],by simp[proj,Pn.kids],hk⟩
  | pair m kd e a b _ _ _ _ _ he=>exact⟨by simp[bC,Pn.exprs],fun x hx=>by simp[bC,Pn.exprs]at hx;subst hx;exact ok1 he,by simp[bC,Pn.cols],by simp[bC,Pn.kids],hk⟩
  | union m a b=>exact⟨by simp[dP,Pn.exprs],by simp[dP,Pn.exprs],by simp[dP,Pn.cols],by simp[dP,Pn.kids],hk⟩
  | dist m a=>exact⟨by simp[Pn.exprs],by simp[Pn.exprs],by simp[Pn.cols],by simp[Pn.kids],hk⟩
  | group m cs a _ _ hc=>exact⟨by simp[Pn.exprs],by simp[Pn.exprs],by simp only[Pn.cols];omega,by simp[Pn.kids],hk⟩
theorem QT (c:Int):(WN c).thin:=by simp[WN,Ex.thin,Ex.p8]
theorem qG (a:Int) (n:Nat):∀ b∈aT a n,b.thin:=by
 intro b hb;simp only[aT,yJ]at hb;obtain⟨i,_,rfl⟩:=hb;exact QT _
theorem UO {ws:List Int} {p:Pn} (h:p.wd ws 8≠0) (hk:p.kids≠[]):∀ a∈p.kids,a.wd ws 8≠0:=fun a ha=>by
 have h2:=(AAC h hk).2.2 a ha;rw[Pn.iT a 7 8 h2 (by omega)];exact h2
end Go.Av
namespace Go.Proofs.YtjdfjgmebalaaaaGreat.P
open Go Go.Av
set_option maxRecDepth 4000
set_option maxHeartbeats 4000000
theorem GH {ws:List Int} (hw:lH ws=true) {p:Pn} (hp:p.thin):aI C0 104 [.i (.agg p.cells), .i (.isl (aF ws)), .int 8] []=some (.int (p.wd ws 8),[]):=by
 refine wJ (jY hw) ?_ p (Pn.UQ p hp) 8 (by omega);unfold lH at hw;simp at hw;omega
theorem eT (e:Ex) (p:Pn):aI C0 167 [.i (.agg e.cells), .i (.agg p.cells)] []=some (.i (.agg (filt e p).cells),[]):=by
 rw[aD rfl Tryz.func167 rfl rfl,aR,Ex.aB,Pn.aB];simp
def CFX (a:Int) (n i:Nat):AS :=
 { env:=[(0, .int a),(1, .int n),(4, .nils),(5, .osl 0 5 0 i),(6, .int i),(10,jk i (.bool true))],st:=[some (.arr 5 (Ex.aA (aT a i)))] }
theorem nG (a:Int) (ha:0≤a∧a≤100) (n:Nat) (hn:n<1000):aI C0 137 [.int a, .int n] []=some (.osl 0 5 0 n,[some (.arr 5 (Ex.aA (aT a n)))]):=by
 rw[aD rfl Tryz.func137 rfl rfl];simp;rw[aU (CFX a n) n (by simp[CFX,aT,Ex.aA])]
 ·rw[aH];have h8:(aT a n).take n=aT a n:=zY (by simp);simp[CFX,h8]
 ·intro i hi;have w2:IntKind.i64.wrap ((i:Int)+1)=i+1:=wrO;have w3:IntKind.i64.wrap (a+(i:Int))=a+i:=wrO;have h8:(aT a i).take i=aT a i:=zY (by simp);simp[CFX,hi,w2,w3,h8,NJ,Ex.aW,kH,show(i+1)*56≤140737488355328 by omega]
def mW (ws:List Int) (r:Int) (e:Ex) (k:Pn):Prop:=aI C0 136 [.i (.agg (filt e k).cells), .int r, .i (.isl (aF ws))] []=some (.tup [.i (.agg ((rwF ws r e k).getD (filt e k)).cells), .bool (rwF ws r e k).isSome],[])
theorem SE {ws:List Int} (hw:lH ws=true) {e:Ex} {k:Pn} (hp:(filt e k).wd ws 8≠0) {r:Int} (hr:r≠1∧r≠2∧r≠3∧r≠4∧r≠5∧r≠7∧r≠8∧r≠10):mW ws r e k:=by
 obtain⟨h1,h2,h3⟩:=tV hp;have c1:=GH hw (dI k 8 h1);unfold mW;obtain⟨r1,r2,r3,r4,r5,r7,r8,r10⟩:=hr;have hn:rwF ws r e k=none:=by simp[rwF,r1,r2,r3,r4,r5,r7,r8,r10]
 rw[hn,aD rfl Tryz.func136 rfl rfl]
 cases hk:k.kids with
 | nil =>
  simp only[Option.getD,aR,Ex.aB e,Pn.aB k,hk,Pn.aA]at c1 ⊢;simp[c1,r1,r2,r3,r4,r5,r7,r8,r10]
 | cons x xs =>
  have c2:=GH hw (dI x 8 (UO h1 (by simp[hk]) x (by simp[hk])));simp only[Option.getD,aR,Ex.aB e,Pn.aB k,hk,Pn.aA,Pn.aB x]at c1 c2 ⊢;simp[c1,c2,r1,r2,r3,r4,r5,r7,r8,r10]
end Go.Proofs.YtjdfjgmebalaaaaGreat.P

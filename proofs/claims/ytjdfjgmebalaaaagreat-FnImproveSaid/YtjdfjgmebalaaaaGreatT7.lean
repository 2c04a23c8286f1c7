/- Part 7 of what the proof rests on: the executor and what it is worth, and the program's functions as it runs them. No condition. -/
import Derived.Test.YtjdfjgmebalaaaaGreatT6
set_option linter.unusedVariables false
set_option linter.unusedSimpArgs false
namespace Go.Av
theorem IG {l:List (List Val)} {i:Nat} {r:List Val} (h:l[i]?=some r):lS (l.take (i+1))=ACO (lS (l.take i)) r:=by
 rw[aL h];unfold lS;rw[yN];rfl
end Go.Av
namespace Go.Proofs.YtjdfjgmebalaaaaGreat
open Go Go.Av
set_option maxRecDepth 4000
set_option maxHeartbeats 4000000
def TOX (w:Int) (l:List (List Val)) (i:Nat):AS :=
 { env:=[(0, .int w),(1, .i (.isl (dV l))),(4, .own 0 0),(5, .own 1 0),(6, .int i),(11, .bool false),(16,jk i (.bool true))],st:=[some (.box [.int 0, .nils]),some (.box [.int w,gro 2 1 i])]++TG 1 (dV (lS (l.take i))) i }
theorem V4 (w:Int) (l:List (List Val)) (n:Nat) (hn:n<1000000) (hn0:n≠0) (hl0:l.length<1000000) (hl:∀ x∈l,x.all Val.ok=true∧x.length=n):aH C0 163 [.int w, .i (.isl (dV l))] []=some (.i (.agg [.int w, .isl (dV (tab w l).rows)]),[]):=by
 rw[aD rfl Tryz.func163 rfl rfl];by_cases h:(400:Int)<l.length
 ·have:400<l.length:=by omega
  simp[h,tab,this,dV]
 ·have h':¬ 400<l.length:=by omega
  simp[h,tab,h'];rw[aQ (TOX w l) l.length (by simp[TOX])]
  ·rw[aF];by_cases h0:l.length=0
   ·have:l=[]:=zW.1 h0;subst this;simp[TOX,lS,dV]
   ·have hT:(lS l).length=l.length:=rV l;have e1:List.take l.length (lS l)=lS l:=zY (by omega);simp[TOX,aM h0,aJ h0,hT,e1]
  ·intro i hi;have h3:=zX hi;have hm:=zV h3;have hsn:=IG h3;generalize l[i]=x at h3 hm hsn;have r1:=rZ h3;have w2:IntKind.i64.wrap ((i:Int)+1)=i+1:=wrO;have hlen:(lS (l.take i)).length=i:=by rw[rV];simp;omega
   have e1:List.take i (lS (l.take i))=lS (l.take i):=zY (by omega);have hx0:x≠[]:=fun e=>by have:=(hl x hm).2;subst e;simp at this;omega
   have hc:=TE (lS (l.take i)) x (by omega) (hl x hm).1 (by rw[(hl x hm).2];exact hn) hx0 (fun y hy=>by
    have:=hl y (zL (QJ.1 hy));exact⟨this.1,by rw[this.2,(hl x hm).2]⟩) (ADI _)
   rw[hlen]at hc;by_cases h0:i=0
   ·subst h0;have hs0:lS ([]:List (List Val))=[]:=rfl;simp[hs0,dA]at hc hsn;simp[TOX,hi,r1,hc,hsn,bN]
   ·simp[TOX,aM h0,aJ h0,hi,r1,hc,hsn,w2,hlen,e1]
end Go.Proofs.YtjdfjgmebalaaaaGreat
namespace Go.Av
end Go.Av
namespace Go.Proofs.YtjdfjgmebalaaaaGreat
open Go Go.Av
set_option maxRecDepth 4000
set_option maxHeartbeats 4000000
end Go.Proofs.YtjdfjgmebalaaaaGreat
namespace Go.Av
theorem AMK {C:Ctx} {G:List Nat} {na:Nat} {b:Code} {S:AS} {d:Nat} {I:Nat→AS→Prop} (P:AS→Prop) (h:∃ S1,dI C G na b S=some (.normal,S1)∧P S1) (hP:∀ S1,P S1→∃ k',k'<d∧I k' S1):∃ S1 k',dI C G na b S=some (.normal,S1)∧k'<d∧I k' S1:=by
 obtain⟨S1,h1,h2⟩:=h;obtain⟨k',h3,h4⟩:=hP S1 h2;exact⟨S1,k',h1,h3,h4⟩
end Go.Av
namespace Go.Proofs.YtjdfjgmebalaaaaGreat
open Go Go.Av
set_option maxRecDepth 4000
set_option maxHeartbeats 8000000
end Go.Proofs.YtjdfjgmebalaaaaGreat
namespace Go.Av
end Go.Av
namespace Go.Proofs.YtjdfjgmebalaaaaGreat
open Go Go.Av
set_option maxRecDepth 4000
set_option maxHeartbeats 8000000
end Go.Proofs.YtjdfjgmebalaaaaGreat
namespace Go.Av
def Tbl.small (t:Tbl):Prop:=t.rows.length<1000000∧∀ r∈t.rows,r.length<1000000
end Go.Av
namespace Go.Proofs.YtjdfjgmebalaaaaGreat
open Go Go.Av
set_option maxRecDepth 4000
set_option maxHeartbeats 8000000
def SWX (db:List Tbl) (i:Nat):AS :=
 { env:=[(0, .i (.isl (AHW db))),(2, .nils),(3, .osl 0 1 0 i),(4, .int i),(9,jk i (.bool true)),(17,jk i (.bool false))],st:=[some (.arr 1 (aG ((db.take i).map Tbl.w)))] }
def LWX (db:List Tbl) (i:Nat):AS :=
 { env:=[(0, .i (.isl (AHW db))),(2, .nils),(3, .osl 0 1 0 i),(4, .int i),(9,jk i (.bool true))],st:=[some (.arr 1 (aG ((db.take i).map Tbl.w)))] }
def IWX (db:List Tbl) (i:Nat):AS :=
 { env:=[(0, .i (.isl (AHW db))),(2, .nils),(3, .bool false),(4,gro 0 1 i),(6,if i=0 then .junk else .own 1 0),(14, .bool false),(15, .i (.isl (AHW db))),(16, .int db.length),(17, .int i),(18,jk i (.bool true)),(23,jk i (.bool false))],
   st:=if i=0 then []else [some (.arr 1 (aG ((db.take i).map Tbl.w))),some (.box [.i (.int ((db[i-1]?).getD AHX).w), .i (.isl (dV ((db[i-1]?).getD AHX).rows))])] }
theorem JR (l:List UInt8) (p:Int) (h0:0≤p) (h1:p<900000000) (hl:l.length≤2000) :
 ∃ (v:Val) (p':Int),aH C0 187 [.own 0 0] [Rd l p]=some (.i (.agg [.bool v.null, .int v.n]),[Rd l p'])∧p≤p'∧p'≤p+2∧v.ok=true:=by
 obtain⟨v,hv,hv1,hv2⟩:=bC l p 5 h0 (by omega) hl;by_cases h:v=0
 ·refine⟨⟨true,0⟩,p+1,?_,by omega,by omega,rfl⟩;rw[aD rfl Tryz.func187 rfl rfl];simp[hv,h]
 ·obtain⟨x,hx,hm⟩:=nV l (p+1) (by omega) (by omega) hl [[.int 0],[.int 1],[.int 2],[.int 3],[.int (-1)]] (by simp) (by simp) (by simp);refine⟨⟨false,x⟩,p+1+1,?_,by omega,by omega,?_⟩
  ·rw[aD rfl Tryz.func187 rfl rfl];simp at hx;simp[hv,h,hx]
  ·simp at hm
   rcases hm with rfl|rfl|rfl|rfl|rfl<;>rfl
theorem YQ (l:List UInt8) (hl:l.length≤2000):∀ (n:Nat) (p:Int),0≤p→p+2*n<800000000→∃ (vs:List Val) (ps:Nat→Int),vs.length=n∧vs.all Val.ok=true∧ps 0=p∧(∀ i,i≤n→p≤ps i∧ps i≤p+2*i)∧∀ i v,vs[i]?=some v→aH C0 187 [.own 0 0] [Rd l (ps i)]=some (.i (.agg [.bool v.null, .int v.n]),[Rd l (ps (i+1))])
 | 0,p,h0,h1=>⟨[],fun _=>p,rfl,rfl,rfl,fun i hi=>by show p≤p∧p≤p+2*(i:Int);omega,fun i v h=>by simp at h⟩
 | n+1,p,h0,h1=>by
  obtain⟨v,p1,hv,q1,q2,q3⟩:=JR l p h0 (by omega) hl;obtain⟨vs,ps,a1,a5,a2,a3,a4⟩:=YQ l hl n p1 (by omega) (by omega);refine⟨v::vs,fun i=>match i with|0=>p|i+1=>ps i,by simp[a1],by simp[q3];simpa using a5,rfl,?_,?_⟩
  ·intro i hi
   cases i with
   | zero=>simp
   | succ i=>have:=a3 i (by omega);simp;omega
  ·intro i u hu
   cases i with
   | zero=>simp at hu;subst hu;simp only;rw[a2];exact hv
   | succ i=>exact a4 i u (by simpa using hu)
def RWX (l:List UInt8) (vs:List Val) (ps:Nat→Int) (n:Nat) (i:Nat):AS :=
 { env:=[(0, .own 0 0),(1, .int n),(4, .nils),(5, .osl 1 2 0 i),(6, .int i),(10,jk i (.bool true))],st:=[Rd l (ps i),some (.arr 2 (eB (vs.take i)))] }
theorem R6 (l:List UInt8) (hl:l.length≤2000) (n:Nat) (hn:n≤10) (p:Int) (h0:0≤p) (h1:p<700000000):∃ (x:List Val) (p':Int),aH C0 162 [.own 0 0, .int n] [Rd l p]=some (.osl 1 2 0 x.length,[Rd l p',some (.arr 2 (eB x))])∧x.length=n∧x.all Val.ok=true∧p≤p'∧p'≤p+20:=by
 obtain⟨vs,ps,a1,a5,a2,a3,a4⟩:=YQ l hl n p h0 (by omega);have b1:=a3 n (by omega);refine⟨vs,ps n,?_,a1,a5,by omega,by omega⟩;rw[aD rfl Tryz.func162 rfl rfl];simp;rw[aQ (RWX l vs ps n) n (by simp[RWX,a2,eB])]
 ·rw[aF];have e1:vs.take n=vs:=zY (by omega);simp[RWX,e1,a1]
 ·intro i hi
  obtain⟨v,hv⟩:∃ v,vs[i]?=some v:=⟨_,zX (by omega)⟩
  have hd:=a4 i v hv;have hT:=aL hv;have w3:IntKind.i64.wrap ((i:Int)+1)=i+1:=wrO;have hb:(i+1)*16≤140737488355328:=by omega
  have e1:List.take i (List.take i vs)=List.take i vs:=by rw[zN,xA]
  have hmin:min i vs.length=i:=by omega
  simp[RWX,hi,hd,hT,w3,hb,e1,hmin,PZ,eB]
theorem rows_ok (l:List UInt8) (hl:l.length≤2000) (w:Nat) (hw:w≤10):∀ (n:Nat) (p:Int),0≤p→p+20*n<600000000→∃ (rs:List (List Val)) (ps:Nat→Int),rs.length=n∧(∀ r∈rs,r.all Val.ok=true∧r.length=w)∧ps 0=p∧(∀ i,i≤n→p≤ps i∧ps i≤p+20*i)∧∀ i x,rs[i]?=some x→aH C0 162 [.own 0 0, .int w] [Rd l (ps i)]=some (.osl 1 2 0 x.length,[Rd l (ps (i+1)),some (.arr 2 (eB x))])
 | 0,p,h0,h1=>⟨[],fun _=>p,rfl,by simp,rfl,fun i hi=>by show p≤p∧p≤p+20*(i:Int);omega,fun i v h=>by simp at h⟩
 | n+1,p,h0,h1=>by
  obtain⟨x,p1,hv,q3,q4,q1,q2⟩:=R6 l hl w hw p h0 (by omega);obtain⟨rs,ps,a1,a5,a2,a3,a4⟩:=rows_ok l hl w hw n p1 (by omega) (by omega);refine⟨x::rs,fun i=>match i with|0=>p|i+1=>ps i,by simp[a1],?_,rfl,?_,?_⟩
  ·intro r hr
   rcases zO.1 hr with rfl|hr
   ·exact⟨q4,q3⟩
   ·exact a5 r hr
  ·intro i hi
   cases i with
   | zero=>simp
   | succ i=>have:=a3 i (by omega);simp;omega
  ·intro i u hu
   cases i with
   | zero=>simp at hu;subst hu;simp only;rw[a2];exact hv
   | succ i=>exact a4 i u (by simpa using hu)
def AUW (l:List UInt8) (w:Nat) (m:Int) (rs:List (List Val)) (ps:Nat→Int) (n:Nat) (i:Nat):AS :=
 { env:=[(0, .own 0 0),(1, .int w),(2, .int m),(6, .own 1 0),(7, .osl 2 1 0 i),(8, .int ((n:Int)-i)),(15,jk i (.bool true))],st:=[Rd l (ps i),some (.box [.int 0, .nils]),some (.arr 1 (dV (rs.take i)))] }
theorem JS (l:List UInt8) (hl:l.length≤2000) (w:Nat) (hw0:w≠0) (hw:w≤10) (m:Nat) (hm:m≤20) (p:Int) (h0:0≤p) (h1:p<500000000):∃ (rs:List (List Val)) (p':Int),aH C0 130 [.own 0 0, .int w, .int m] [Rd l p]=some (.i (.agg [.int w, .isl (dV (lS rs))]),[Rd l p'])∧rs.length≤m∧(∀ r∈rs,r.all Val.ok=true∧r.length=w)∧p≤p'∧p'≤p+500:=by
 have wm:IntKind.i64.wrap ((m:Int)+1)=((m+1:Nat):Int):=by rw[wrO];omega
 obtain⟨k,hk,hk1,-⟩:=bC l p ((m+1:Nat):Int) h0 (by omega) hl;obtain⟨k0,k1⟩:=hk1 (by omega)
 obtain⟨n,rfl⟩:∃ n:Nat,k=n:=⟨k.toNat,by omega⟩
 obtain⟨rs,ps,a1,a5,a2,a3,a4⟩:=rows_ok l hl w hw n (p+1) (by omega) (by omega);have b1:=a3 n (by omega);have hc:=V4 w rs w (by omega) hw0 (by omega) a5;rw[AHY (by omega)]at hc;refine⟨rs,ps n,?_,by omega,a5,by omega,by omega⟩;rw[aD rfl Tryz.func130 rfl rfl];simp[wm];simp at hk;simp[hk];rw[aQ (AUW l w m rs ps n) n (by simp[AUW,a2,dA])]
 ·rw[aF];have e1:rs.take n=rs:=zY (by omega);simp[AUW,e1,a1,hc]
 ·intro i hi
  obtain⟨x,hx⟩:∃ x,rs[i]?=some x:=⟨_,zX (by omega)⟩
  have hd:=a4 i x hx;have hT:=aL hx;have hpos:(0:Int)<(n:Int)-i:=by omega
  have w3:IntKind.i64.wrap ((n:Int)-i-1)=(n:Int)-(i+1):=by rw[wrO];omega
  have hb:(i+1)*24≤140737488355328:=by omega
  have e1:List.take i (List.take i rs)=List.take i rs:=by rw[zN,xA]
  have e2:x.take x.length=x:=zY (by simp);have hmin:min i rs.length=i:=by omega
  have hlt:(i:Int)<n:=by omega
  simp[AUW,hpos,hlt,hi,hd,hT,w3,hb,e1,e2,hmin,sD,oU,dA]
end Go.Proofs.YtjdfjgmebalaaaaGreat
namespace Go.Proofs.YtjdfjgmebalaaaaGreat.P
open Go Go.Av
set_option maxRecDepth 4000
set_option maxHeartbeats 8000000
def vC1 (v:Val):List (List IV):=[[.bool v.null, .int v.n]]
def CRX (S:List (List Val)) (v:Val) (i:Nat) (k:Int) (b:Bool):AS :=
 { env:=[(0, .osl 0 1 0 S.length),(1, .osl 1 2 0 1),(4, .int 0),(5, .int k),(6, .int i),(10,jk i (.bool true)),(19,jk i (.bool b))],
   st:=[some (.arr 1 (dV S)),some (if i=0 then .arr 2 (vC1 v)else .frz 2 (vC1 v))] }
theorem J4 (S:List (List Val)) (hS:∀ r∈S,r.length=1∧r.all Val.ok=true) (hl:S.length≤1000) (v:Val) (hv:v.ok=true) :
 ∃ k:Int,aH C0 161 [.osl 0 1 0 S.length, .osl 1 2 0 1] [some (.arr 1 (dV S)),some (.arr 2 (vC1 v))]=some (.int k,[some (.arr 1 (dV S)),some (if S.length=0 then .arr 2 (vC1 v)else .frz 2 (vC1 v))]):=by
 rw[aD rfl Tryz.func161 rfl rfl];simp;generalize hX:dI C0 _ _ (Code.loop _) _=X
 have key:∃ rr,X=some rr∧∃ (k:Int) (b:Bool),rr=(.exit 0,{ (CRX S v S.length k b)with env:=[(0, .osl 0 1 0 S.length),(1, .osl 1 2 0 1),(4, .int 0),(5, .int k),(6, .int S.length),(10, .bool false),(19,jk S.length (.bool b))] }):=by
  rw[← hX];refine GU (fun d St=>∃ (i:Nat) (k:Int) (b:Bool),St=CRX S v i k b∧i≤S.length∧0≤k∧k≤i∧d=S.length-i) ?_ _ _ ⟨0,0,false,by simp[CRX],by omega,by omega,by omega,rfl⟩;rintro d St ⟨i,k,b,rfl,h1,h2,h3,hd⟩;by_cases hi:i<S.length
  ·left
   obtain⟨x,hx⟩:∃ x,S[i]?=some x:=⟨_,zX hi⟩
   obtain⟨x1,x2⟩:=hS x (zV hx);have r1:=rZ hx;have hc:=rY x [v] (by simp[x1]) (by omega) x2 (by simp[hv]);simp only[eB]at hc;have w3:IntKind.i64.wrap ((i:Int)+1)=i+1:=wrO;have w4:IntKind.i64.wrap (k+1)=k+1:=wrO;by_cases hk:fZ x [v]=0
   ·refine⟨CRX S v (i+1) (k+1) true,S.length-(i+1),?_,by omega,i+1,k+1,true,rfl,by omega,by omega,by omega,rfl⟩;by_cases h0:i=0
    ·subst h0;simp[CRX,vC1,hi,r1,hc,hk,w4,bN]
    ·simp[CRX,vC1,hi,r1,hc,hk,w3,w4,h0]
   ·refine⟨CRX S v (i+1) k false,S.length-(i+1),?_,by omega,i+1,k,false,rfl,by omega,by omega,by omega,rfl⟩;by_cases h0:i=0
    ·subst h0;simp[CRX,vC1,hi,r1,hc,hk,bN]
    ·simp[CRX,vC1,hi,r1,hc,hk,w3,h0]
  ·right;obtain rfl:i=S.length:=by omega
   refine⟨.exit 0,_,?_,by simp,k,b,rfl⟩;by_cases h0:S.length=0
   ·simp[CRX,vC1,h0]
   ·simp[CRX,vC1,h0]
 obtain⟨rr,rfl,k,b,rfl⟩:=key;refine⟨k,?_⟩;by_cases h0:S.length=0
 ·have h1:S=[]:=zW.1 h0;subst h1;simp[CRX,vC1]
 ·have h1:S≠[]:=fun e=>h0 (by rw[e];rfl)
  simp[CRX,vC1,h0,h1]
def tbB (w:Nat) (rows:List (List Val)):Option Blk:=some (.box [.int w, .i (.isl (dV rows))])
def zsB:Option Blk:=some (.box [.int 0, .nils, .nils])
def OX0 (w:Nat) (rows:List (List Val)) (c:Nat) (D N:List Int):AS :=
 { env:=[(0, .i (.agg [.int w, .isl (dV rows)])),(1, .own 0 0),(2, .own 1 0),(3, .own 2 0),(4, .int c),(5,if c=0 then .junk else .osl 5 1 0 0),(6,jk c (.int 0)),(7,jk c (.int 0)),(8, .junk),(16,jk c (.bool true)),(24,jk c (.bool false)),(36, .junk),(43, .junk)],
   st:=if c=0 then [tbB w rows,zsB,some (.box [.int rows.length, .nils, .nils])]else [tbB w rows,zsB,some (.box [.int rows.length, .osl 3 1 0 c, .osl 4 1 0 c]),some (.arr 1 (aG D)),some (.arr 1 (aG N)),some (.arr 1 [])] }
theorem UZ (w:Nat) (hw0:w≠0) (hw:w≤10):∃ D N,aH C0 129 [.i (.agg [.int w, .isl []])] []=some (.agg [.int 0, .osl 0 1 0 w, .osl 1 1 0 w],[some (.arr 1 (aG D)),some (.arr 1 (aG N))])∧D.length=w∧N.length=w:=by
 refine⟨List.replicate w 0,List.replicate w 0,?_,by simp,by simp⟩;rw[aD rfl Tryz.func129 rfl rfl];simp;rw[aQ (fun i=>OX0 w [] i (List.replicate i 0) (List.replicate i 0)) w (by simp[OX0,tbB,zsB,dA])]
 ·rw[aF];simp[OX0,tbB,zsB,hw0,bH hw0,dA]
 ·intro i hi;have w3:IntKind.i64.wrap ((i:Int)+1)=i+1:=wrO;have hb:(i+1)*8≤140737488355328:=by omega
  have hr:∀ n:Nat,aG (List.replicate (n+1) 0)=aG (List.replicate n 0)++[[.int 0]]:=fun n=>by rw[List.replicate_succ',bZ];rfl
  have ht:∀ n:Nat,(aG (List.replicate n (0:Int))).take n=aG (List.replicate n 0):=fun n=>zY (by simp)
  by_cases h0:i=0
  ·subst h0;simp[OX0,tbB,zsB,hi,dA];rw[aF];simp[bN,aG]
  ·simp[OX0,tbB,zsB,hi,h0,bH h0,dA];rw[aF];simp[w3,hb,hr,ht,h0]
def OX1 (w:Nat) (rows:List (List Val)) (c:Nat) (D N:List Int) (S:List (List Val)) (n:Int) (v:Val) (b36:Bool) (k43:Nat) (b43:Bool):AS :=
 { env:=[(0, .i (.agg [.int w, .isl (dV rows)])),(1, .own 0 0),(2, .own 1 0),(3, .own 2 0),(4, .int c),(5,if c=0 then .junk else .osl 5 1 0 S.length),(6,jk c (.int n)),(7,jk c (.int rows.length)),(8,if c=0 then .junk else .own 6 0),(16,jk c (.bool true)),(24,jk c (.bool false)),(36,jk c (.bool b36)),(43,jk k43 (.bool b43))],
   st:=if c=0 then [tbB w rows,zsB,some (.box [.int rows.length, .nils, .nils])]else [tbB w rows,zsB,some (.box [.int rows.length, .osl 3 1 0 c, .osl 4 1 0 c]),some (.arr 1 (aG D)),some (.arr 1 (aG N)),some (.arr 1 (dV S)),some (.box [.bool v.null, .int v.n])] }
def IX0 (w:Nat) (rows:List (List Val)) (S:List (List Val)) (n:Int) (j:Nat) (v:Val) (b36:Bool) (k43:Nat) (b43:Bool):AS :=
 { env:=[(0, .i (.agg [.int w, .isl (dV rows)])),(1, .own 0 0),(2, .own 1 0),(3, .own 2 0),(4, .int 0),(5, .osl 3 1 0 S.length),(6, .int n),(7, .int j),(8,if j=0 then .junk else .own 4 0),(16, .bool true),(24,jk j (.bool true)),(36,jk j (.bool b36)),(43,jk k43 (.bool b43))],
   st:=[tbB w rows,zsB,some (.box [.int rows.length, .nils, .nils]),some (.arr 1 (dV S))]++jkL j [some (.box [.bool v.null, .int v.n])] }
def IX1 (w:Nat) (rows:List (List Val)) (c:Nat) (D N:List Int) (S:List (List Val)) (n:Int) (j:Nat) (v:Val) (b24 b36:Bool) (k43:Nat) (b43:Bool):AS :=
 { env:=[(0, .i (.agg [.int w, .isl (dV rows)])),(1, .own 0 0),(2, .own 1 0),(3, .own 2 0),(4, .int c),(5, .osl 5 1 0 S.length),(6, .int n),(7, .int j),(8, .own 6 0),(16, .bool true),(24, .bool b24),(36, .bool b36),(43,jk k43 (.bool b43))],
   st:=[tbB w rows,zsB,some (.box [.int rows.length, .osl 3 1 0 c, .osl 4 1 0 c]),some (.arr 1 (aG D)),some (.arr 1 (aG N)),some (.arr 1 (dV S)),some (.box [.bool v.null, .int v.n])] }
theorem UY (w:Nat) (hw0:w≠0) (hw:w≤10) (rows:List (List Val)) (h0:rows≠[]) (hl:rows.length≤400) (hr:∀ r∈rows,r.all Val.ok=true∧r.length=w) :
 ∃ D N,aH C0 129 [.i (.agg [.int w, .isl (dV rows)])] []=some (.agg [.int rows.length, .osl 0 1 0 w, .osl 1 1 0 w],[some (.arr 1 (aG D)),some (.arr 1 (aG N))])∧D.length=w∧N.length=w:=by
 have hrl:rows.length≠0:=fun e=>h0 (zW.1 e)
 rw[aD rfl Tryz.func129 rfl rfl];simp;generalize hX:dI C0 _ _ (Code.loop _) _=X
 have key:∃ rr,X=some rr∧∃ (D N:List Int) (S:List (List Val)) (n:Int) (v:Val) (b36:Bool) (k43:Nat) (b43:Bool),rr=(.exit 0,{ (OX1 w rows w D N S n v b36 k43 b43)with env:=[(0, .i (.agg [.int w, .isl (dV rows)])),(1, .own 0 0),(2, .own 1 0),(3, .own 2 0),(4, .int w),(5, .osl 5 1 0 S.length),(6, .int n),(7, .int rows.length),(8, .own 6 0),(16, .bool false),(24, .bool false),(36, .bool b36),(43,jk k43 (.bool b43))] })∧D.length=w∧N.length=w:=by
  rw[← hX];refine GU (fun d St=>∃ (c:Nat) (D N:List Int) (S:List (List Val)) (n:Int) (v:Val) (b36:Bool) (k43:Nat) (b43:Bool),St=OX1 w rows c D N S n v b36 (if c=0 then 0 else k43) b43∧c≤w∧D.length=c∧N.length=c∧d=w-c) ?_ _ _ ⟨0,[],[],[],0,Val.zero,false,0,false,by simp[OX1,tbB,zsB],by omega,rfl,rfl,rfl⟩;rintro d St ⟨c,D,N,S,n,v,b36,k43,b43,rfl,hc,hD,hN,hd⟩;by_cases hcw:c<w
  ·left;have w3:IntKind.i64.wrap ((c:Int)+1)=c+1:=wrO;have hb:(c+1)*8≤140737488355328:=by omega
   obtain⟨Q0,hQ⟩:∃ Q0:AS→Prop,∀ S1,Q0 S1↔∃ (D' N':List Int) (S':List (List Val)) (n':Int) (v':Val) (b36':Bool) (k43':Nat) (b43':Bool),S1=OX1 w rows (c+1) D' N' S' n' v' b36' k43' b43'∧D'.length=c+1∧N'.length=c+1:=⟨fun S1=>_,fun S1=>Iff.rfl⟩
   refine AMK Q0 ?_ (fun S1 hS1=>by
    obtain⟨D',N',S',n',v',b36',k43',b43',rfl,e1,e2⟩:=(hQ S1).1 hS1
    exact⟨w-(c+1),by omega,c+1,D',N',S',n',v',b36',k43',b43',by simp,by omega,e1,e2,rfl⟩)
   have row:∀ j,j<rows.length→∃ x v,gF (dV rows) j=some [.isl (eB x)]∧x.length=w∧gF (eB x) c=some [.bool (Val.null v), .int (Val.n v)]∧Val.ok v=true:=by
    intro j hj;have hx:=zX hj;obtain⟨x1,x2⟩:=hr _ (zV hx);have hv:=zX (show c<(rows[j]).length by omega);exact⟨_,_,rZ hx,x2,iZ hv,zS.1 x1 _ (zV hv)⟩
   have app:∀ (S:List (List Val)) (v:Val),dV (S++[[v]])=dV S++[[.isl (vC1 v)]]:=fun S v=>by rw[sD];rfl
   have hS1:∀ (S:List (List Val)) (v:Val),(∀ r∈S,r.length=1∧r.all Val.ok=true)→v.ok=true→∀ r∈S++[[v]],r.length=1∧r.all Val.ok=true:=fun S v h hv r hr=>by
    rcases zT.1 hr with hr|hr
    ·exact h r hr
    ·simp at hr;subst hr;exact⟨rfl,by simp[hv]⟩
   have htk:∀ S:List (List Val),(dV S).take S.length=dV S:=fun S=>zY (by simp)
   by_cases hc0:c=0
   ·subst hc0;simp only[OX1,if_true];simp[tbB,zsB,hcw,Nat.pos_of_ne_zero hw0];generalize hY:dI C0 _ _ (Code.loop _) _=Y
    have ky:∃ rr,Y=some rr∧∃ (S:List (List Val)) (n:Int) (v:Val) (b36:Bool) (k43:Nat) (b43:Bool),rr=(.exit 2,{ (IX0 w rows S n rows.length v b36 k43 b43)with env:=[(0, .i (.agg [.int w, .isl (dV rows)])),(1, .own 0 0),(2, .own 1 0),(3, .own 2 0),(4, .int 0),(5, .osl 3 1 0 S.length),(6, .int n),(7, .int rows.length),(8, .own 4 0),(16, .bool true),(24, .bool false),(36, .bool b36),(43,jk k43 (.bool b43))] }):=by
     rw[← hY];refine GU (fun d St=>∃ (j:Nat) (S:List (List Val)) (n:Int) (v:Val) (b36:Bool) (k43:Nat) (b43:Bool),St=IX0 w rows S n j v b36 k43 b43∧j≤rows.length∧(∀ r∈S,r.length=1∧r.all Val.ok=true)∧S.length≤j∧0≤n∧n≤j∧d=rows.length-j) ?_ _ _ ⟨0,[],0,Val.zero,false,0,false,by simp[IX0,tbB,zsB,dA],by omega,by simp,by simp,by omega,by omega,rfl⟩;rintro d2 St2 ⟨j,S,n,v,b36,k43,b43,rfl,hj,hS,hSl,hn0,hn1,hd2⟩;by_cases hjl:j<rows.length
     ·left;obtain⟨x,u,q1,q2,q3,q4⟩:=row j hjl;have w4:IntKind.i64.wrap ((j:Int)+1)=j+1:=wrO;have w5:IntKind.i64.wrap (n+1)=n+1:=wrO;have hb5:(S.length+1)*24≤140737488355328:=by omega
      have hx0:0<x.length:=by omega
      cases hu:u.null with
      | true =>
       refine⟨IX0 w rows S (n+1) (j+1) u true k43 b43,_,?_,?_,j+1,S,n+1,u,true,k43,b43,rfl,by omega,hS,by omega,by omega,by omega,rfl⟩
       ·rw[hu]at q3;by_cases hj0:j=0
        ·subst hj0;simp[IX0,tbB,zsB,hjl,q1,q3,hx0,hu,w5,bN]
        ·simp[IX0,tbB,zsB,hjl,q1,q3,hx0,hu,w4,w5,hj0,bH hj0,kL hj0]
       ·omega
      | false =>
       rw[hu]at q3;obtain⟨k,hk⟩:=J4 S hS (by omega) u q4;simp only[vC1,hu]at hk;by_cases hk0:k=0
       ·refine⟨IX0 w rows (S++[[u]]) n (j+1) u false (j+1) true,_,?_,?_,j+1,S++[[u]],n,u,false,j+1,true,rfl,by omega,hS1 S u hS q4,by simp;omega,by omega,by omega,rfl⟩
        ·by_cases hj0:j=0
         ·subst hj0;obtain rfl:S=[]:=zW.1 (by omega);simp[dA]at hk;simp[IX0,tbB,zsB,hjl,q1,q3,hx0,hu,hk,hk0,bN,dA,oU,eB]
         ·by_cases hs0:S.length=0
          ·obtain rfl:S=[]:=zW.1 hs0;simp[dA]at hk;simp[IX0,tbB,zsB,hjl,q1,q3,hx0,hu,hk,hk0,w4,hj0,bH hj0,kL hj0,dA,oU,eB]
          ·have hs1:S≠[]:=fun e=>hs0 (by rw[e];rfl)
           simp[hs0,hs1]at hk;simp[IX0,tbB,zsB,hjl,q1,q3,hx0,hu,hk,hk0,w4,hj0,bH hj0,kL hj0,app,htk,hb5,vC1]
        ·omega
       ·refine⟨IX0 w rows S n (j+1) u false (j+1) false,_,?_,?_,j+1,S,n,u,false,j+1,false,rfl,by omega,hS,by omega,by omega,by omega,rfl⟩
        ·by_cases hj0:j=0
         ·subst hj0;obtain rfl:S=[]:=zW.1 (by omega);simp[dA]at hk;simp[IX0,tbB,zsB,hjl,q1,q3,hx0,hu,hk,hk0,bN,dA]
         ·by_cases hs0:S.length=0
          ·obtain rfl:S=[]:=zW.1 hs0;simp[dA]at hk;simp[IX0,tbB,zsB,hjl,q1,q3,hx0,hu,hk,hk0,w4,hj0,bH hj0,kL hj0,dA]
          ·have hs1:S≠[]:=fun e=>hs0 (by rw[e];rfl)
           simp[hs0,hs1]at hk;simp[IX0,tbB,zsB,hjl,q1,q3,hx0,hu,hk,hk0,w4,hj0,bH hj0,kL hj0]
        ·omega
     ·right;obtain rfl:j=rows.length:=by omega
      refine⟨.exit 2,_,?_,by simp,S,n,v,b36,k43,b43,rfl⟩;simp[IX0,tbB,zsB,hrl,bH hrl,kL hrl]
    obtain⟨rr,rfl,S,n,v,b36,k43,b43,rfl⟩:=ky;refine⟨_,?_,(hQ _).2 ⟨[(S.length:Int)],[n],S,n,v,b36,k43,b43,rfl,rfl,rfl⟩⟩;simp[IX0,OX1,tbB,zsB,hrl,kL hrl,bN,aG]
   ·simp only[OX1,if_neg hc0,bH hc0];simp[tbB,zsB,hcw];generalize hY:dI C0 _ _ (Code.loop _) _=Y
    have ky:∃ rr,Y=some rr∧∃ (S:List (List Val)) (n:Int) (v:Val) (b36:Bool) (k43:Nat) (b43:Bool),rr=(.exit 2,IX1 w rows c D N S n rows.length v false b36 k43 b43):=by
     rw[← hY];refine GU (fun d St=>∃ (j:Nat) (S:List (List Val)) (n:Int) (v:Val) (b24 b36:Bool) (k43:Nat) (b43:Bool),St=IX1 w rows c D N S n j v b24 b36 k43 b43∧j≤rows.length∧(∀ r∈S,r.length=1∧r.all Val.ok=true)∧S.length≤j∧0≤n∧n≤j∧d=rows.length-j) ?_ _ _ ⟨0,[],0,v,false,b36,k43,b43,by simp[IX1,tbB,zsB,dA],by omega,by simp,by simp,by omega,by omega,rfl⟩;rintro d2 St2 ⟨j,S,n,v,b24,b36,k43,b43,rfl,hj,hS,hSl,hn0,hn1,hd2⟩;by_cases hjl:j<rows.length
     ·left;obtain⟨x,u,q1,q2,q3,q4⟩:=row j hjl;have w4:IntKind.i64.wrap ((j:Int)+1)=j+1:=wrO;have w5:IntKind.i64.wrap (n+1)=n+1:=wrO;have hb5:(S.length+1)*24≤140737488355328:=by omega
      have hcx:c<x.length:=by omega
      cases hu:u.null with
      | true =>
       refine⟨IX1 w rows c D N S (n+1) (j+1) u true true k43 b43,_,?_,?_,j+1,S,n+1,u,true,true,k43,b43,rfl,by omega,hS,by omega,by omega,by omega,rfl⟩
       ·rw[hu]at q3;simp[IX1,tbB,zsB,hjl,q1,q3,hcx,hu,w4,w5]
       ·omega
      | false =>
       rw[hu]at q3;obtain⟨k,hk⟩:=J4 S hS (by omega) u q4;simp only[vC1,hu]at hk;by_cases hk0:k=0
       ·refine⟨IX1 w rows c D N (S++[[u]]) n (j+1) u true false (j+1) true,_,?_,?_,j+1,S++[[u]],n,u,true,false,j+1,true,rfl,by omega,hS1 S u hS q4,by simp;omega,by omega,by omega,rfl⟩
        ·by_cases hs0:S.length=0
         ·obtain rfl:S=[]:=zW.1 hs0;simp[dA]at hk;simp[IX1,tbB,zsB,hjl,q1,q3,hcx,hu,hk,hk0,w4,dA,oU,eB]
         ·have hs1:S≠[]:=fun e=>hs0 (by rw[e];rfl)
          simp[hs0,hs1]at hk;simp[IX1,tbB,zsB,hjl,q1,q3,hcx,hu,hk,hk0,w4,app,htk,hb5,vC1]
        ·omega
       ·refine⟨IX1 w rows c D N S n (j+1) u true false (j+1) false,_,?_,?_,j+1,S,n,u,true,false,j+1,false,rfl,by omega,hS,by omega,by omega,by omega,rfl⟩
        ·by_cases hs0:S.length=0
         ·obtain rfl:S=[]:=zW.1 hs0;simp[dA]at hk;simp[IX1,tbB,zsB,hjl,q1,q3,hcx,hu,hk,hk0,w4,dA]
         ·have hs1:S≠[]:=fun e=>hs0 (by rw[e];rfl)
          simp[hs0,hs1]at hk;simp[IX1,tbB,zsB,hjl,q1,q3,hcx,hu,hk,hk0,w4]
        ·omega
     ·right;obtain rfl:j=rows.length:=by omega
      refine⟨.exit 2,_,?_,by simp,S,n,v,b36,k43,b43,rfl⟩;simp[IX1,tbB,zsB]
    obtain⟨rr,rfl,S,n,v,b36,k43,b43,rfl⟩:=ky;have e1:(aG D).take c=aG D:=zY (by simp;omega);have e2:(aG N).take c=aG N:=zY (by simp;omega);have e3:D.take c=D:=zY (by omega);have e4:N.take c=N:=zY (by omega);refine⟨_,?_,(hQ _).2 ⟨D++[(S.length:Int)],N++[n],S,n,v,b36,k43,b43,rfl,by simp;omega,by simp;omega⟩⟩;simp[IX1,OX1,tbB,zsB,w3,hb,hD,hN,e1,e2,e3,e4,bZ,aG]
  ·right;obtain rfl:c=w:=by omega
   refine⟨.exit 0,_,?_,by simp,D,N,S,n,v,b36,if c=0 then 0 else k43,b43,rfl,hD,hN⟩;simp[OX1,tbB,zsB,hw0,bH hw0]
 obtain⟨rr,rfl,D,N,S,n,v,b36,k43,b43,rfl,hD,hN⟩:=key;refine⟨D,N,?_,hD,hN⟩;simp[OX1,tbB,zsB,hw0]
theorem EB {l:List UInt8} (hl:l.length≤2000):∃ (P:Pn) (ws:List Int) (p':Int),aH CR 89 [.own 0 0] [Rd l 0]=some (.tup [.i (.agg P.cells), .i (.isl (aG ws))],[Rd l p'])∧P.thin∧ws≠[]∧ws.length≤3∧0≤p'∧p'≤40000:=by
 obtain⟨a,b,r,p1,hr,r1,r2,r3,r4,r5,r6,r7,r8⟩:=EA l hl 0 (by omega) (by omega)
 have hw:∀ w∈a::b::r,0≤w∧w≤6:=by
  intro w hm;simp only[zO]at hm
  rcases hm with rfl|rfl|hm
  ·omega
  ·omega
  ·have:=r8 w hm;omega
 have hr0:(0:Int)<(r.length:Int)+2:=by omega
 obtain⟨P,p2,hP,hPt,c1,c2⟩:=UC hl (ws:=a::b::r) hw (by simp;omega) (by simp) p1 (by omega) (by omega);obtain⟨k,hk,-,-⟩:=bC l p2 18 (by omega) (by omega) hl;have te:P.exprs.take P.exprs.length=P.exprs:=zY (by simp);have tc:P.cols.take P.cols.length=P.cols:=zY (by simp);have tk:P.kids.take P.kids.length=P.kids:=zY (by simp);by_cases k0:k=0
 ·obtain⟨x,hx,-⟩:=nV l (p2+1) (by omega) (by omega) hl [[.int 0],[.int 7],[.int 1]] (by simp) (by simp) (by simp);simp only[zQ,yQ,zI,Nat.reduceAdd]at hx;refine⟨P,x::b::r,p2+1+1,?_,hPt.1,by simp,by simp;omega,by omega,by omega⟩;rw[aD rfl Tryz.func89 rfl rfl]
  rcases cK P.exprs with ce|⟨ce,ce',ce''⟩<;>rcases cK P.cols with cc|⟨cc,cc',cc''⟩<;>rcases cK P.kids with ck|⟨ck,ck',ck''⟩ <;>
   (simp[rX,rS,bl,ce,cc,ck,aM,aJ,aG]at hP
    simp[hr,hP,hk,k0,hx,hr0,ce,cc,ck,aG,te,tc,tk,Pn.aA P,Ex.aB,Pn.aB])
 ·refine⟨P,a::b::r,p2+1,?_,hPt.1,by simp,by simp;omega,by omega,by omega⟩;rw[aD rfl Tryz.func89 rfl rfl]
  rcases cK P.exprs with ce|⟨ce,ce',ce''⟩<;>rcases cK P.cols with cc|⟨cc,cc',cc''⟩<;>rcases cK P.kids with ck|⟨ck,ck',ck''⟩ <;>
   (simp[rX,rS,bl,ce,cc,ck,aM,aJ,aG]at hP
    simp[hr,hP,hk,k0,ce,cc,ck,aG,te,tc,tk,Pn.aA P,Ex.aB,Pn.aB])
def mW (w:Int):Nat:=if w<1 then 1 else if 6<w then 6 else w.toNat
theorem AL9 (w:Int):mW w≠0∧mW w≤6:=by unfold mW;split;omega;split<;>omega
theorem NY (w:Int):(w<1∧(mW w:Int)=1)∨(¬ w<1∧¬ 6<w∧(mW w:Int)=w)∨(¬ w<1∧6<w∧(mW w:Int)=6):=by
 unfold mW;by_cases h1:w<1
 ·exact .inl ⟨h1,by rw[if_pos h1];rfl⟩
 ·by_cases h2:6<w
  ·exact .inr (.inr ⟨h1,h2,by rw[if_neg h1,if_pos h2];rfl⟩)
  ·exact .inr (.inl ⟨h1,h2,by rw[if_neg h1,if_neg h2];omega⟩)
def stA (s:Sts):AV:=.agg [.int s.rows, .osl 0 1 0 s.d.length, .osl 1 1 0 s.n.length]
def AMP (s:Sts):StL:=[some (.arr 1 (aG s.d)),some (.arr 1 (aG s.n))]
theorem XF (l:List UInt8) (hl:l.length≤2000) (w:Nat) (hw0:w≠0) (hw:w≤6) (p:Int) (h0:0≤p) (h1:p<400000000):∃ (T:IV) (s:Sts) (p':Int),aH C0 130 [.own 0 0, .int w, .int 8] [Rd l p]=some (.i T,[Rd l p'])∧aH C0 129 [.i T] []=some (stA s,AMP s)∧s.d.length=w∧s.n.length=w∧0≤s.rows∧s.rows≤8∧p≤p'∧p'≤p+500:=by
 obtain⟨rs,p',hT,q1,q2,q3,q4⟩:=JS l hl w hw0 (by omega) 8 (by omega) p h0 (by omega);have hsl:(lS rs).length=rs.length:=rV rs;by_cases hz:lS rs=[]
 ·obtain⟨D,N,e1,e2,e3⟩:=UZ w hw0 (by omega);refine⟨_,⟨0,D,N⟩,p',hT,?_,e2,e3,by simp,by simp,q3,q4⟩;rw[hz,dA];simp only[stA,AMP,e2,e3];exact e1
 ·obtain⟨D,N,e1,e2,e3⟩:=UY w hw0 (by omega) (lS rs) hz (by omega) (fun r hr=>q2 r (QJ.1 hr));refine⟨_,⟨(lS rs).length,D,N⟩,p',hT,?_,e2,e3,by simp,by simp only;omega,q3,q4⟩;simp only[stA,AMP,e2,e3];exact e1
theorem XJ (l:List UInt8) (hl:l.length≤2000):∀ (ws:List Int) (p:Int),0≤p→p+500*ws.length<300000000→∃ (Ts:List IV) (ss:List Sts) (ps:Nat→Int),Ts.length=ws.length∧ss.length=ws.length∧(∀ s∈ss,s.d.length≤6∧s.n.length≤6)∧ps 0=p∧(∀ i,i≤ws.length→p≤ps i∧ps i≤p+500*i)∧∀ i w T s,ws[i]?=some w→Ts[i]?=some T→ss[i]?=some s→aH C0 130 [.own 0 0, .int (mW w), .int 8] [Rd l (ps i)]=some (.i T,[Rd l (ps (i+1))])∧aH C0 129 [.i T] []=some (stA s,AMP s)∧s.d.length=mW w∧s.n.length=mW w
 | [],p,h0,h1=>⟨[],[],fun _=>p,rfl,rfl,by simp,rfl,fun i hi=>by show p≤p∧p≤p+500*(i:Int);omega,fun i w T s h=>by simp at h⟩
 | w::ws,p,h0,h1=>by
  obtain⟨m0,m6⟩:=AL9 w;simp only[zQ]at h1;obtain⟨T,s,p1,hT,hS,d1,d2,d3,d4,q1,q2⟩:=XF l hl (mW w) m0 m6 p h0 (by omega);obtain⟨Ts,ss,ps,a1,a2,a3,a4,a5,a6⟩:=XJ l hl ws p1 (by omega) (by omega);refine⟨T::Ts,s::ss,fun i=>match i with|0=>p|i+1=>ps i,by simp[a1],by simp[a2],?_,rfl,?_,?_⟩
  ·intro x hx
   rcases zO.1 hx with rfl|hx
   ·omega
   ·exact a3 x hx
  ·intro i hi
   cases i with
   | zero=>simp
   | succ i=>have:=a5 i (by simpa using hi);simp;omega
  ·intro i w' T' s' hw hT' hs'
   cases i with
   | zero =>
    simp at hw hT' hs';subst hw;subst hT';subst hs';simp only;rw[a4];exact⟨hT,hS,d1,d2⟩
   | succ i=>exact a6 i w' T' s' (by simpa using hw) (by simpa using hT') (by simpa using hs')
theorem X5 (l:List UInt8) (hl:l.length≤2000) (w:Nat) (hw0:w≠0) (hw:w≤6) (p:Int) (h0:0≤p) (h1:p<300000000):∃ (s:Sts) (p':Int),aH C0 131 [.own 0 0, .int w] [Rd l p]=some (.i (.agg [.int s.rows, .isl (aG s.d), .isl (aG s.n)]),[Rd l p'])∧s.d.length≤7∧s.n.length≤6:=by
 obtain⟨T,s,p1,hT,hS,d1,d2,d3,d4,q1,q2⟩:=XF l hl w hw0 hw p h0 (by omega);obtain⟨k,hk,-,-⟩:=bC l p1 2 (by omega) (by omega) hl;obtain⟨k2,hk2,-,-⟩:=bC l (p1+1) 16 (by omega) (by omega) hl;obtain⟨x,hx,-⟩:=nV l (p1+1+1) (by omega) (by omega) hl [[.int (-1)],[.int 401]] (by simp) (by simp) (by simp);simp only[zQ,yQ,zI,Nat.reduceAdd]at hx;have w1:IntKind.i64.wrap (s.rows+100)=s.rows+100:=wrO;have w2:IntKind.i64.wrap (s.rows+1)=s.rows+1:=wrO;have w3:IntKind.i64.wrap (s.rows+100+1)=s.rows+100+1:=wrO;have td:s.d.take w=s.d:=zY (by omega);have tn:s.n.take w=s.n:=zY (by omega);have hb:(w+1)*8≤140737488355328:=by omega
 obtain⟨n0,nr,hn⟩:∃ n0 nr,s.n=n0::nr:=by
  cases hs:s.n with
  | nil=>rw[hs]at d2;simp at d2;omega
  | cons a b=>exact⟨a,b,rfl⟩
 have hnl:nr.length+1=w:=by rw[hn]at d2;simpa using d2
 have tn2:nr.take (w-1)=nr:=zY (by omega);simp only[stA,AMP,d1,d2]at hS;rw[aD rfl Tryz.func131 rfl rfl];have fin:∀ (r:Int),0≤r→r≤108→IntKind.i64.wrap (r+1)=r+1:=fun r a b=>wrO
 by_cases e0:k2=0
 ·refine⟨⟨x,s.d,s.n⟩,p1+1+1+1,?_,by simp only;omega,by simp only;omega⟩;by_cases c0:k=0<;>simp[hT,hS,hk,hk2,hx,c0,e0,td,tn,d1,d2,w1]
 by_cases e1:k2=1
 ·by_cases c0:k=0
  ·refine⟨⟨s.rows+100,s.d,(s.rows+101)::nr⟩,p1+1+1,?_,by simp only;omega,by simp only[zQ];omega⟩;have w3':IntKind.i64.wrap (s.rows+100+1)=s.rows+101:=by rw[w3];omega
   rw[hn]at hS;simp[hT,hS,hk,hk2,c0,e0,e1,td,hnl,d1,w1,w3',aG,Nat.pos_of_ne_zero hw0];exact zY (by simp;omega)
  ·refine⟨⟨s.rows,s.d,(s.rows+1)::nr⟩,p1+1+1,?_,by simp only;omega,by simp only[zQ];omega⟩;rw[hn]at hS;simp[hT,hS,hk,hk2,c0,e0,e1,td,hnl,d1,w2,aG,Nat.pos_of_ne_zero hw0];exact zY (by simp;omega)
 by_cases e2:k2=2
 ·by_cases c0:k=0
  ·refine⟨⟨s.rows+100,s.d++[0],s.n⟩,p1+1+1,?_,by simp only[zJ];simp;omega,by simp only;omega⟩;simp[hT,hS,hk,hk2,c0,e0,e1,e2,td,tn,d1,d2,w1,hb,bZ,aG];exact zY (by simp;omega)
  ·refine⟨⟨s.rows,s.d++[0],s.n⟩,p1+1+1,?_,by simp only[zJ];simp;omega,by simp only;omega⟩;simp[hT,hS,hk,hk2,c0,e0,e1,e2,td,tn,d1,d2,hb,bZ,aG];exact zY (by simp;omega)
 ·by_cases c0:k=0
  ·refine⟨⟨s.rows+100,s.d,s.n⟩,p1+1+1,?_,by simp only;omega,by simp only;omega⟩;simp[hT,hS,hk,hk2,c0,e0,e1,e2,td,tn,d1,d2,w1]
  ·refine⟨⟨s.rows,s.d,s.n⟩,p1+1+1,?_,by simp only;omega,by simp only;omega⟩;simp[hT,hS,hk,hk2,c0,e0,e1,e2,td,tn,d1,d2]
def SFX (l:List UInt8) (ws:List Int) (ss:List Sts) (ps:Nat→Int) (i:Nat):AS :=
 { env:=[(0, .own 0 0),(1, .i (.isl (aG ws))),(4, .nils),(5, .osl 1 3 0 i),(6, .int i),(11,jk i (.bool true)),(28, .junk)],st:=[Rd l (ps i),some (.arr 3 (oN (ss.take i)))] }
theorem V3 (l:List UInt8) (hl:l.length≤2000) (ws:List Int) (hne:ws≠[]) (hn:ws.length≤10) (p:Int) (h0:0≤p) (h1:p<200000000):∃ (ss:List Sts) (p':Int),aH C0 90 [.own 0 0, .i (.isl (aG ws))] [Rd l p]=some (.i (.isl (oN ss)),[Rd l p'])∧ss.length≤10∧∀ s∈ss,s.d.length≤7∧s.n.length≤6:=by
 obtain⟨Ts,ss,ps,a1,a2,a3,a4,a5,a6⟩:=XJ l hl ws p h0 (by omega);have b1:=a5 ws.length (by omega);obtain⟨k,hk,-,-⟩:=bC l (ps ws.length) 16 (by omega) (by omega) hl
 obtain⟨w0,wr,hw⟩:∃ w0 wr,ws=w0::wr:=by
  cases hws:ws with
  | nil=>exact absurd hws hne
  | cons a b=>exact⟨a,b,rfl⟩
 obtain⟨s0,sr,hss⟩:∃ s0 sr,ss=s0::sr:=by
  cases hs:ss with
  | nil=>rw[hs,hw]at a2;simp at a2
  | cons a b=>exact⟨a,b,rfl⟩
 have hsr:sr.length+1=ws.length:=by rw[hss]at a2;simpa using a2
 obtain⟨m0,m6⟩:=AL9 w0;obtain⟨s1,p2,hA,c1,c2⟩:=X5 l hl (mW w0) m0 m6 (ps ws.length+1) (by omega) (by omega);have hwl:ws.length≠0:=fun e=>hne (zW.1 e)
 have e1:ss.take ws.length=ss:=zY (by omega);have hfin:∀ (X:AS→Prop),True:=fun _=>trivial
 by_cases k0:k=0
 ·refine⟨s1::sr,p2,?_,by simp;omega,fun x hx=>?_⟩
  ·rw[aD rfl Tryz.func90 rfl rfl];simp;rw[aQ (SFX l ws ss ps) ws.length (by simp[SFX,a4,nM])]
   ·rw[aF];have hq:gF (aG ws) 0=some [.int w0]:=aT (by rw[hw];rfl);have htk:List.take ws.length ([.int s1.rows, .isl (aG s1.d), .isl (aG s1.n)]::oN sr)=[.int s1.rows, .isl (aG s1.d), .isl (aG s1.n)]::oN sr:=zY (by simp;omega);have htk2:(s1::sr).take ws.length=s1::sr:=zY (by simp;omega);have hle:ws.length≤sr.length+1:=by omega
    have hpos:0<ws.length:=by omega
    simp only[SFX,e1];rw[hss,jB]
    rcases NY w0 with ⟨g1,g2⟩|⟨g1,g2,g3⟩|⟨g1,g2,g3⟩
    ·rw[g2]at hA;simp[hk,k0,hq,hpos,g1,hA,hwl,bH hwl,Sts.cells,jB,hle,htk]
    ·rw[g3]at hA;simp[hk,k0,hq,hpos,g1,g2,hA,hwl,bH hwl,Sts.cells,jB,hle,htk]
    ·rw[g3]at hA;simp[hk,k0,hq,hpos,g1,g2,hA,hwl,bH hwl,Sts.cells,jB,hle,htk]
   ·intro i hi
    obtain⟨w,hwi⟩:∃ w,ws[i]?=some w:=⟨_,zX hi⟩
    obtain⟨T,hTi⟩:∃ T,Ts[i]?=some T:=⟨_,zX (by omega)⟩
    obtain⟨s,hsi⟩:∃ s,ss[i]?=some s:=⟨_,zX (by omega)⟩
    obtain⟨f1,f2,f3,f4⟩:=a6 i w T s hwi hTi hsi;have q:=aT hwi;have hT:=aL hsi;have w3:IntKind.i64.wrap ((i:Int)+1)=i+1:=wrO;have hb:(i+1)*56≤140737488355328:=by omega
    have ht1:(oN (ss.take i)).take i=oN (ss.take i):=zY (by simp;omega);have ht2:(ss.take i).take i=ss.take i:=zY (by simp;omega);have hmin:min i ss.length=i:=by omega
    have td:s.d.take s.d.length=s.d:=zY (by omega);have tn:s.n.take s.n.length=s.n:=zY (by omega);simp only[stA,AMP]at f2
    rcases NY w with ⟨g1,g2⟩|⟨g1,g2,g3⟩|⟨g1,g2,g3⟩
    ·rw[g2]at f1;simp[SFX,hi,q,g1,f1,f2,hT,w3,hb,ht1,ht2,hmin,td,tn,kH,jB,nM,Sts.cells]
    ·rw[g3]at f1;simp[SFX,hi,q,g1,g2,f1,f2,hT,w3,hb,ht1,ht2,hmin,td,tn,kH,jB,nM,Sts.cells]
    ·rw[g3]at f1;simp[SFX,hi,q,g1,g2,f1,f2,hT,w3,hb,ht1,ht2,hmin,td,tn,kH,jB,nM,Sts.cells]
  ·rcases zO.1 hx with rfl|hx
   ·exact⟨c1,c2⟩
   ·have:=a3 x (by rw[hss];simp[hx]);omega
 ·refine⟨ss,ps ws.length+1,?_,by omega,fun x hx=>by have:=a3 x hx;omega⟩;rw[aD rfl Tryz.func90 rfl rfl];simp;rw[aQ (SFX l ws ss ps) ws.length (by simp[SFX,a4,nM])]
  ·rw[aF];have htk:(oN ss).take ws.length=oN ss:=zY (by simp;omega);simp[SFX,e1,hk,k0,htk,a2]
  ·intro i hi
   obtain⟨w,hwi⟩:∃ w,ws[i]?=some w:=⟨_,zX hi⟩
   obtain⟨T,hTi⟩:∃ T,Ts[i]?=some T:=⟨_,zX (by omega)⟩
   obtain⟨s,hsi⟩:∃ s,ss[i]?=some s:=⟨_,zX (by omega)⟩
   obtain⟨f1,f2,f3,f4⟩:=a6 i w T s hwi hTi hsi;have q:=aT hwi;have hT:=aL hsi;have w3:IntKind.i64.wrap ((i:Int)+1)=i+1:=wrO;have hb:(i+1)*56≤140737488355328:=by omega
   have ht1:(oN (ss.take i)).take i=oN (ss.take i):=zY (by simp;omega);have ht2:(ss.take i).take i=ss.take i:=zY (by simp;omega);have hmin:min i ss.length=i:=by omega
   have td:s.d.take s.d.length=s.d:=zY (by omega);have tn:s.n.take s.n.length=s.n:=zY (by omega);simp only[stA,AMP]at f2
   rcases NY w with ⟨g1,g2⟩|⟨g1,g2,g3⟩|⟨g1,g2,g3⟩
   ·rw[g2]at f1;simp[SFX,hi,q,g1,f1,f2,hT,w3,hb,ht1,ht2,hmin,td,tn,kH,jB,nM,Sts.cells]
   ·rw[g3]at f1;simp[SFX,hi,q,g1,g2,f1,f2,hT,w3,hb,ht1,ht2,hmin,td,tn,kH,jB,nM,Sts.cells]
   ·rw[g3]at f1;simp[SFX,hi,q,g1,g2,f1,f2,hT,w3,hb,ht1,ht2,hmin,td,tn,kH,jB,nM,Sts.cells]
end Go.Proofs.YtjdfjgmebalaaaaGreat.P
namespace Go.Av
theorem AGW {ws path:List Int} {p:Pn} {i:Nat} {s:Stp} (h:s∈AR ws path p i):s.1≠0:=by
 unfold AR at h;obtain⟨r,hr,rfl⟩:=yF.1 h;have:=zL (List.mem_filter.1 hr).1;simp[rules]at this;simp only;omega
mutual
theorem XL (ws:List Int):∀ (p:Pn) (path:List Int),∀ s∈stI ws path p,s.1≠0
 | .mk k t es cs ks,path,s,h=>by
  rw[V5]at h
  rcases zT.1 h with h|h
  ·exact AGW h
  ·exact QD ws ks path 0 s h
theorem QD (ws:List Int):∀ (l:List Pn) (path:List Int) (i:Nat),∀ s∈oP ws path i l,s.1≠0
 | [],_,_,s,h=>by simp[oP]at h
 | a::l,path,i,s,h=>by
  simp only[oP,zT]at h
  rcases h with h|h
  ·exact XL ws a _ s h
  ·exact QD ws l path (i+1) s h
end
theorem AB8 {sts:List Sts} {p:Pn} (ws:List Int) (hws:ws=stW sts):(AFF sts p (stI ws [] p)=⟨p,(0,[]),p.cst sts⟩)∨∃ b,AFF sts p (stI ws [] p)=b∧b.s.1≠0∧b.s.2.length≤8∧apO p (stW sts) b.s.1 b.s.2=some b.p∧b.p.cst sts<p.cst sts∨¬ (∀ s∈stI ws [] p,s.2.length≤8):=by
 by_cases h8:∀ s∈stI ws [] p,s.2.length≤8
 case neg=>exact .inr ⟨⟨p,(0,[]),0⟩, .inr h8⟩
 unfold AFF;rw[← AB sts (stW sts) p _ _ false];have hok:=AOH sts p (stI ws [] p);unfold AFF at hok;rw[← AB sts (stW sts) p _ _ false]at hok
 rcases jD sts (stW sts) p (stI ws [] p) ⟨p,(0,[]),p.cst sts⟩ (P:=fun s=>s.1≠0∧s.2.length≤8) (fun s hs=>⟨XL ws p [] s hs,h8 s hs⟩)with h|⟨b',h,h1,h2⟩
 ·rw[h];exact .inl rfl
 ·rw[h]at hok ⊢;refine .inr ⟨b', .inl ⟨rfl,h1,h2,?_⟩⟩
  rcases hok with ⟨_,k2,_⟩|⟨k1,k2,k3⟩
  ·simp only at k2;rw[k2]at h1;exact absurd rfl h1
  ·simp only at k1 k2 k3;exact⟨k1,by omega⟩
end Go.Av
namespace Go.Proofs.YtjdfjgmebalaaaaGreat.P
open Go Go.Av
set_option maxRecDepth 4000
set_option maxHeartbeats 16000000
@[simp] theorem ALR (a:List AV) (st:StL):aH CI 88 a st=aH C0 88 a st:=by rw[aP (p:=aH C0 88) rfl]
@[simp] theorem ACQ (a:List AV) (st:StL):aH CI 89 a st=aH CR 89 a st:=by rw[aP (p:=aH CR 89) rfl]
@[simp] theorem AP0 (a:List AV) (st:StL):aH CI 90 a st=aH C0 90 a st:=by rw[aP (p:=aH C0 90) rfl]
@[simp] theorem AJT (a:List AV) (st:StL):aH CI 24 a st=aH C0 24 a st:=by rw[aP (p:=aH C0 24) rfl]
@[simp] theorem ALS (a:List AV) (st:StL):aH CI 25 a st=aH C0 25 a st:=by rw[aP (p:=aH C0 25) rfl]
theorem K3 (code:List UInt8):∃ (P:Pn) (ss:List Sts),aH CI 20 [.i (.isl (dY code))] []=some (.tup [.i (.agg P.cells), .i (.isl (oN ss))],[])∧P.thin∧ss.length≤10∧∀ s∈ss,s.d.length≤7∧s.n.length≤6:=by
 obtain⟨c,hc,hr⟩:=RU code;obtain⟨P,ws,p',h,h1,h2,h3,h4,h5⟩:=EB hc;obtain⟨ss,p2,hs,s1,s2⟩:=V3 c hc ws h2 (by omega) p' h4 (by omega)
 have hd:aH CI 57 [.i (.isl (dY code))] []=some (.tup [.i (.agg P.cells), .i (.isl (oN ss))],[]):=by
  rw[aD rfl Tryz.func57 rfl rfl];rw[Pn.aA P]at *
  simp[hr,h,hs]
 refine⟨P,ss,?_,h1,s1,s2⟩;rw[aD rfl Tryz.func20 rfl rfl];rw[Pn.aA P]at *
 simp[hd]
def LWX (code:List UInt8) (p q:Pn) (sts:List Sts) (r:Int) (path:List Int) (n:Int) (i:Nat):AS :=
 { env:=[(0, .i (.isl (dY code))),(2, .bool false),(3, .own 0 0),(4, .i (.isl (oN sts))),(5, .own 1 0),(6, .own 2 0),(7, .own 3 0),(8, .own 4 0),(9, .int n),(10, .osl 5 1 0 i),(11, .int i),(12, .junk),(13, .junk),(16, .bool false),(59, .bool false),(81,jk i (.bool true)),(95, .junk)],
   st:=[rM p,rM q,some (.box [.i (.int r), .i (.isl (aG path))]),rM q,some (.box [.i (.int r), .i (.isl (aG path))]),some (.arr 1 (aG ((stW sts).take i)))] }
theorem VR (code:List UInt8):aH CI 4 [.i (.isl (dY code))] []=some (.bool true,[]):=by
 rw[aD rfl Tryz.func4 rfl rfl];by_cases hl:(1048576:Int)<code.length
 ·simp[eQ,hl]
 obtain⟨p,sts,hd,hp,hsl,hsd⟩:=K3 code;have hd9:∀ s∈sts,s.d.length<1000000000∧s.n.length<1000000000:=fun s hs=>by have:=hsd s hs;omega
 have e1:=ACD p sts (by omega) hd9;have e2:=V9 p hp sts (by omega) hd9;have e3:=kD p sts (by omega) hd9;unfold imR at e1 e2;unfold AOQ at e3
 cases hq:KH sts p with
 | false =>
  rw[hq]at e1 e2 e3;have e5:=qK Pn.zero Pn.ET Pn.zero;rw[Pn.OE]at e5;have e6:=nY (l:=[]) (m:=[]) (by simp);simp only[Pn.aA p]at *
  simp[Pn.zero,Pn.cells,Ex.aB,aG,Pn.aB]at e1 e2 e3 e5 e6;simp[eQ,hl,hd,e1,e2,e3,e5,e6]
 | true =>
  rw[hq]at e1 e2 e3;obtain⟨hs,hw0⟩:=pQ.1 hq;obtain⟨hws,hp8,hpw⟩:=jH hw0;have hc0:=kE hs p 8 hp8;have hn0:¬ p.cst sts<0:=by omega
  have h8:∀ s∈stI (stW sts) [] p,s.2.length≤8:=fun s hs=>(ADH hws hp8 hw0 hs).choose_spec.2.2
  have hz:sts.length≠0:=by
   intro h;have hs0:sts=[]:=zW.1 h;subst hs0;simp[stW,jS]at hws
  have e0:(stW sts).take sts.length=stW sts:=zY (by rw[gN];omega);have hle:sts.length≤(stW sts).length:=by rw[gN];omega
  have round:∀ i,i<sts.length→∃ s,gF (oN sts) i=some [.int (Sts.rows s), .isl (aG s.d), .isl (aG s.n)]∧(stW sts).take (i+1)=(stW sts).take i++[(s.d.length:Int)]:=fun i hi=>by
   obtain⟨s,hsx⟩:∃ s,sts[i]?=some s:=⟨_,zX hi⟩
   exact⟨s,iG hsx,aL (by simp[stW,hsx])⟩
  rcases AB8 (sts:=sts) (p:=p) _ rfl with hB|⟨b,⟨hB,b1,b2,b3,b4⟩|hB⟩
  ·rw[hB]at e1 e2;have e5:=qK p hp p;rw[Pn.OE]at e5;have e6:=nY (l:=[]) (m:=[]) (by simp);simp only[Pn.aA p]at *
   simp[aG]at e1 e2 e3 e5 e6;simp[eQ,hl,hd,e1,e2,e3,e5,e6,hn0];rw[aQ (LWX code p p sts 0 [] (p.cst sts)) sts.length (by simp[LWX,rM,Pn.aA p,aG])]
   ·rw[aF];simp[LWX,rM,Pn.aA p,aG,hz,bH hz,e5]
   ·intro i hi;obtain⟨s,q,hT⟩:=round i hi;have w3:IntKind.i64.wrap ((i:Int)+1)=i+1:=wrO;have hb:(i+1)*8≤140737488355328:=by omega
    have f1:((stW sts).take i).take i=(stW sts).take i:=by rw[zN,xA]
    have hmin:min i (stW sts).length=i:=by rw[gN];omega
    simp[LWX,rM,Pn.aA p,hi,q,hT,w3,hb,f1,hmin,bZ,aG]
  ·rw[hB]at e1 e2;obtain⟨q,⟨r,path⟩,c⟩:=b;simp only at b1 b2 b3 b4 e1 e2;obtain⟨t1,t2,t3⟩:=P6 b3;have e5:=qK q t1 q;rw[Pn.OE]at e5;have e6:=nY (l:=path) (m:=path) (by omega);rw[beq_self_eq_true]at e6;have e7:=DU p (stW sts) r path;rw[b3]at e7;have e8:=kD q sts (by omega) hd9;rw[BU hs b3]at e8;simp only[Pn.aA p,Pn.aA q]at *
   simp[apR,Pn.aA q]at e1 e2 e3 e5 e6 e7 e8;simp[eQ,hl,hd,e1,e2,e3,e5,e6,hn0];rw[aQ (LWX code p q sts r path (p.cst sts)) sts.length (by simp[LWX,rM,Pn.aA p,Pn.aA q,aG])]
   ·rw[aF];simp[LWX,rM,Pn.aA p,Pn.aA q,hz,bH hz,e0,hle,b1,e5,e7,e8,b4]
   ·intro i hi;obtain⟨s,q',hT⟩:=round i hi;have w3:IntKind.i64.wrap ((i:Int)+1)=i+1:=wrO;have hb:(i+1)*8≤140737488355328:=by omega
    have f1:((stW sts).take i).take i=(stW sts).take i:=by rw[zN,xA]
    have hmin:min i (stW sts).length=i:=by rw[gN];omega
    simp[LWX,rM,Pn.aA p,Pn.aA q,hi,q',hT,w3,hb,f1,hmin,bZ,aG]
  ·exact absurd h8 hB
theorem BM (a:Option Addr) (len cap:Nat) (zs:List Int) (w:World)
 (h:(a=none∧len=0∧cap=0∧zs=[])∨∃ x,a=some x∧len≤cap∧cap≤maxLen∧zs.length=cap∧(∀ i,i<zs.length→w.cell? (x.add i)=some (.int .u8 (zs.getD i 0)))∧∀ n∈zs,(Lit.int .u8 n).wf=true) :
 Calls Tryz.prog 4 #[.slice a len cap] w fun e w'=>e=.returned (.bool true)∧RowKit.Below w.heap.size w w':=by
 obtain⟨code,hc⟩:=AGB h;exact ABV ARD (.cons (.i hc) .nil) (VR code)
end Go.Proofs.YtjdfjgmebalaaaaGreat.P

/- Part 5 of what the proof rests on: the executor and what it is worth, and the program's functions as it runs them. No condition. -/
import Derived.Test.YtnmimmaahhlgeaaGreatT4
set_option linter.unusedVariables false
set_option linter.unusedSimpArgs false
namespace Go.Av
theorem SI (a b:Nat):orS a b=((a ||| b:Nat):Int):=by simp[orS]
def UL (k:Int) (v:Val) (l:List Val) (s:Int) (j:Nat):Int:=(l.take j).foldl (fun s w=>orS s (stV (Val.cmb k v w))) s
def uE (k:Int) (l r:List Val) (i:Nat):Int:=(l.take i).foldl (fun s v=>r.foldl (fun s w=>orS s (stV (Val.cmb k v w))) s) 0
theorem Z9 {k:Int} {v w:Val} {l:List Val} {s:Int} {j:Nat} (h:l[j]?=some w):UL k v l s (j+1)=orS (UL k v l s j) (stV (Val.cmb k v w)):=by
 unfold UL;rw[aO h,zA4];rfl
theorem NM {k:Int} {v:Val} {l r:List Val} {i:Nat} (h:l[i]?=some v):uE k l r (i+1)=UL k v r (uE k l r i) r.length:=by
 unfold uE UL;rw[aO h,zA4,zG4];rfl
def AHN (s:Int):Prop:=∃ n:Nat,s=n∧n<8
theorem K4 (v:Val):AHN (stV v):=by
 unfold stV;split
 ·exact⟨4,rfl,by omega⟩
 ·split
  ·exact⟨1,rfl,by omega⟩
  ·exact⟨2,rfl,by omega⟩
theorem AJZ {a b:Int} (ha:AHN a) (hb:AHN b):AHN (orS a b):=by
 obtain⟨m,rfl,hm⟩:=ha;obtain⟨n,rfl,hn⟩:=hb;exact⟨m ||| n,SI m n,zC1 (n:=3) hm hn⟩
theorem JF {k:Int} {v:Val}:∀ (l:List Val) {s:Int} (j:Nat),AHN s→AHN (UL k v l s j)
 | [],s,j,h=>by simpa [UL]using h
 | a::l,s,0,h=>by simpa [UL]using h
 | a::l,s,j+1,h=>by
  have:=JF (k:=k) (v:=v) l (s:=orS s (stV (Val.cmb k v a))) j (AJZ h (K4 _));simpa [UL]using this
theorem AE3 {k:Int} {r:List Val} (l:List Val) (i:Nat) (hi:i≤l.length):AHN (uE k l r i):=by
 induction i with
 | zero=>exact⟨0,by simp[uE],by omega⟩
 | succ i ih =>
  rw[NM (zX (show i<l.length by omega))];exact JF r _ (ih (by omega))
theorem AQB {k a b:Int} (h:k=8∨k=9):kY k a b=uE k (exS a) (exS b) (exS a).length:=by
 unfold kY uE;rw[if_pos h,zG4]
theorem AS8 {a:Int} {v:Val} (h:v∈exS a):v.ok=true:=by
 unfold exS at h;simp only[zT]at h
 rcases h with h|h|h
 ·split at h
  ·simp at h;subst h;rfl
  ·cases h
 ·split at h
  ·simp at h;subst h;rfl
  ·cases h
 ·split at h
  ·simp at h;subst h;rfl
  ·cases h
theorem Aa7 {b:Int} (h:okS b):exS b≠[]:=by
 obtain⟨h1,h2⟩:=h;have:b=1∨b=2∨b=3∨b=4∨b=5∨b=6∨b=7:=by omega
 rcases this with rfl|rfl|rfl|rfl|rfl|rfl|rfl<;>decide
theorem ALG (a:Int):(exS a).length≤3:=by
 unfold exS;simp only[zQ]
 repeat' split
 all_goals simp
end Go.Av
namespace Go.Proofs.YtnmimmaahhlgeaaGreat.P
open Go Go.Av
set_option maxRecDepth 4000
set_option maxHeartbeats 4000000
theorem I4 {n:Nat} (h:n<8):n % 18446744073709551616=n:=Nat.mod_eq_of_lt (by omega)
theorem or8 {m n:Nat} (hm:m<8) (hn:n<8):IntKind.i64.wrap ((m ||| n:Nat):Int)=((m ||| n:Nat):Int):=by
 have:=zC1 (n:=3) hm hn;exact wrO
def vBx (v:Val):Option Blk:=some (.box [.bool v.null, .int v.n])
def vAt (l:List Val) (i:Nat):Val:=(l[i]?).getD Val.zero
def jz (i:Nat) (v:AV):AV:=if i=0 then .junk else v
@[simp] theorem AsX (v:AV):jz 0 v=.junk:=rfl
@[simp] theorem AsW (i:Nat) (v:AV):jz (i+1) v=v:=rfl
theorem IB {i:Nat} (h:i≠0) (v:AV):jz i v=v:=if_neg h
def CSX (k a b:Int) (A B:List Val) (i:Nat):AS :=
 { env:=[(0, .int k),(1, .int a),(2, .int b),(6, .int 0),(7, .int (uE k A B i)),(9,jz i (.own 0 0)),(11,jz i (.own 1 0)),(17, .bool true),(19, .i (.isl (aP A))),(20, .int A.length),(21, .int i),(22,jz i (.bool true)),(26,jz i (.i (.isl (aP B)))),(27,jz i (.int B.length)),(28,jz i (.int B.length)),(29,jz i (.bool false)),(46, .junk),(54, .junk),(66, .junk)],
   st:=if i=0 then []else [vBx (vAt A (i-1)),vBx (vAt B (B.length-1))] }
def CSI (k a b:Int) (A B:List Val) (i:Nat) (j:Nat):AS :=
 { env:=[(0, .int k),(1, .int a),(2, .int b),(6, .int 0),(7, .int (UL k (vAt A i) B (uE k A B i) j)),(9, .own 0 0),(11,if j=0 then jz i (.own 1 0)else .own 1 0),(17, .bool true),(19, .i (.isl (aP A))),(20, .int A.length),(21, .int i),(22, .bool true),(26, .i (.isl (aP B))),(27, .int B.length),(28, .int j),(29,if j=0 then jz i (.bool false)else .bool true),(46, .junk),(54, .junk),(66, .junk)],
   st:=vBx (vAt A i)::(if j=0 then(if i=0 then []else [vBx (vAt B (B.length-1))])else [vBx (vAt B (j-1))]) }
theorem EN {k a b:Int} (hk:k=8∨k=9) (ha:okS a) (hb:okS b):aH C0 190 [.int k, .int a, .int b] []=some (.int (kY k a b),[]):=by
 have hea:=MR (a:=a) ⟨by have:=ha.1;omega,ha.2⟩;have heb:=MR (a:=b) ⟨by have:=hb.1;omega,hb.2⟩;have hbn:=Aa7 hb;have hbl:(exS b).length≠0:=fun h=>hbn (zW.1 h)
 have la:=ALG a;have lb:=ALG b;have oka:∀ v∈exS a,v.ok=true:=fun v hv=>AS8 hv
 have okb:∀ v∈exS b,v.ok=true:=fun v hv=>AS8 hv
 rw[aD rfl Tryz.func190 rfl rfl,AQB hk];generalize exS a=A at *
 generalize exS b=B at *
 rcases hk with rfl|rfl
 ·simp[hea];rw[aT (CSX 8 a b A B) A.length (by simp[CSX,uE])]
  ·rw[aF];simp[CSX]
  ·intro i hi;have h3:=zX hi;have hm:=zV h3;generalize A[i]=v at h3 hm;have rA:=bZ h3;have hv:vAt A i=v:=by simp[vAt,h3]
   have w2:IntKind.i64.wrap ((i:Int)+1)=i+1:=wrO;have hlow0:=AE3 (k:=8) (r:=B) A i (by omega);have hsc:=NM (k:=8) (r:=B) h3
   have inner:∀ j,j<B.length→∃ w,B[j]?=some w∧w∈B∧fH (aP B) j=some [.bool w.null, .int w.n]∧vAt B j=w∧∃ m n:Nat,UL 8 v B (uE 8 A B i) j=m∧stV (Val.cmb 8 v w)=n∧m<8∧n<8∧UL 8 v B (uE 8 A B i) (j+1)=((m ||| n:Nat):Int)∧IntKind.i64.wrap ((m ||| n:Nat):Int)=((m ||| n:Nat):Int):=by
    intro j hj;have q3:=zX hj;obtain⟨m,hm1,hm2⟩:=JF (k:=8) (v:=v) B j hlow0;obtain⟨n,hn1,hn2⟩:=K4 (Val.cmb 8 v B[j]);refine⟨B[j],q3,xY hj,bZ q3,by simp[vAt,q3],m,n,hm1,hn1,hm2,hn2,?_,or8 hm2 hn2⟩;rw[Z9 q3,hm1,hn1,SI]
   by_cases h0:i=0
   ·subst h0;simp[CSX,hi,rA,heb];rw[aT (CSI 8 a b A B 0) B.length (by simp[CSI,UL,hv,vBx])]
    ·rw[aF];simp[CSI,hbl,w2,hv,hsc,CSX,vBx]
    ·intro j hj;obtain⟨w,q3,qm,q4,q5,m,n,m1,n1,m2,n2,hn,hwr⟩:=inner j hj;have hcm:=pM 8 v w (oka v hm) (okb w qm);have hst:=nD (Val.cmb 8 v w).null (Val.cmb 8 v w).n;have w3:IntKind.i64.wrap ((j:Int)+1)=j+1:=wrO;rw[show stV ⟨(Val.cmb 8 v w).null,(Val.cmb 8 v w).n⟩=stV (Val.cmb 8 v w)from rfl,n1]at hst;by_cases j0:j=0
     ·subst j0;simp[CSI,hj,hv,q4,q5,vBx,m1,hcm,hst,I4 m2,I4 n2,hwr,hn]
     ·simp[CSI,hj,hv,q4,q5,vBx,m1,hcm,hst,I4 m2,I4 n2,hwr,hn,j0,w3]
   ·simp[CSX,hi,rA,heb,h0,IB h0,vBx];rw[aT (CSI 8 a b A B i) B.length (by simp[CSI,UL,hv,vBx,IB h0,h0])]
    ·rw[aF];simp[CSI,hbl,w2,hv,hsc,CSX,vBx]
    ·intro j hj;obtain⟨w,q3,qm,q4,q5,m,n,m1,n1,m2,n2,hn,hwr⟩:=inner j hj;have hcm:=pM 8 v w (oka v hm) (okb w qm);have hst:=nD (Val.cmb 8 v w).null (Val.cmb 8 v w).n;have w3:IntKind.i64.wrap ((j:Int)+1)=j+1:=wrO;rw[show stV ⟨(Val.cmb 8 v w).null,(Val.cmb 8 v w).n⟩=stV (Val.cmb 8 v w)from rfl,n1]at hst;by_cases j0:j=0
     ·subst j0;simp[CSI,hj,hv,q4,q5,vBx,m1,hcm,hst,I4 m2,I4 n2,hwr,hn,IB h0,h0]
     ·simp[CSI,hj,hv,q4,q5,vBx,m1,hcm,hst,I4 m2,I4 n2,hwr,hn,j0,w3,IB h0,h0]
 ·simp[hea];rw[aT (CSX 9 a b A B) A.length (by simp[CSX,uE])]
  ·rw[aF];simp[CSX]
  ·intro i hi;have h3:=zX hi;have hm:=zV h3;generalize A[i]=v at h3 hm;have rA:=bZ h3;have hv:vAt A i=v:=by simp[vAt,h3]
   have w2:IntKind.i64.wrap ((i:Int)+1)=i+1:=wrO;have hlow0:=AE3 (k:=9) (r:=B) A i (by omega);have hsc:=NM (k:=9) (r:=B) h3
   have inner:∀ j,j<B.length→∃ w,B[j]?=some w∧w∈B∧fH (aP B) j=some [.bool w.null, .int w.n]∧vAt B j=w∧∃ m n:Nat,UL 9 v B (uE 9 A B i) j=m∧stV (Val.cmb 9 v w)=n∧m<8∧n<8∧UL 9 v B (uE 9 A B i) (j+1)=((m ||| n:Nat):Int)∧IntKind.i64.wrap ((m ||| n:Nat):Int)=((m ||| n:Nat):Int):=by
    intro j hj;have q3:=zX hj;obtain⟨m,hm1,hm2⟩:=JF (k:=9) (v:=v) B j hlow0;obtain⟨n,hn1,hn2⟩:=K4 (Val.cmb 9 v B[j]);refine⟨B[j],q3,xY hj,bZ q3,by simp[vAt,q3],m,n,hm1,hn1,hm2,hn2,?_,or8 hm2 hn2⟩;rw[Z9 q3,hm1,hn1,SI]
   by_cases h0:i=0
   ·subst h0;simp[CSX,hi,rA,heb];rw[aT (CSI 9 a b A B 0) B.length (by simp[CSI,UL,hv,vBx])]
    ·rw[aF];simp[CSI,hbl,w2,hv,hsc,CSX,vBx]
    ·intro j hj;obtain⟨w,q3,qm,q4,q5,m,n,m1,n1,m2,n2,hn,hwr⟩:=inner j hj;have hcm:=pM 9 v w (oka v hm) (okb w qm);have hst:=nD (Val.cmb 9 v w).null (Val.cmb 9 v w).n;have w3:IntKind.i64.wrap ((j:Int)+1)=j+1:=wrO;rw[show stV ⟨(Val.cmb 9 v w).null,(Val.cmb 9 v w).n⟩=stV (Val.cmb 9 v w)from rfl,n1]at hst;by_cases j0:j=0
     ·subst j0;simp[CSI,hj,hv,q4,q5,vBx,m1,hcm,hst,I4 m2,I4 n2,hwr,hn]
     ·simp[CSI,hj,hv,q4,q5,vBx,m1,hcm,hst,I4 m2,I4 n2,hwr,hn,j0,w3]
   ·simp[CSX,hi,rA,heb,h0,IB h0,vBx];rw[aT (CSI 9 a b A B i) B.length (by simp[CSI,UL,hv,vBx,IB h0,h0])]
    ·rw[aF];simp[CSI,hbl,w2,hv,hsc,CSX,vBx]
    ·intro j hj;obtain⟨w,q3,qm,q4,q5,m,n,m1,n1,m2,n2,hn,hwr⟩:=inner j hj;have hcm:=pM 9 v w (oka v hm) (okb w qm);have hst:=nD (Val.cmb 9 v w).null (Val.cmb 9 v w).n;have w3:IntKind.i64.wrap ((j:Int)+1)=j+1:=wrO;rw[show stV ⟨(Val.cmb 9 v w).null,(Val.cmb 9 v w).n⟩=stV (Val.cmb 9 v w)from rfl,n1]at hst;by_cases j0:j=0
     ·subst j0;simp[CSI,hj,hv,q4,q5,vBx,m1,hcm,hst,I4 m2,I4 n2,hwr,hn,IB h0,h0]
     ·simp[CSI,hj,hv,q4,q5,vBx,m1,hcm,hst,I4 m2,I4 n2,hwr,hn,j0,w3,IB h0,h0]
set_option maxHeartbeats 8000000
theorem AZH:∀ m n:Fin 8,((m.val ||| n.val) &&& 4=0∧gB (orS m.val n.val) 4=false)∨((m.val ||| n.val) &&& 4=4∧gB (orS m.val n.val) 4=true):=by decide
theorem L8 {m n:Nat} (hm:m<8) (hn:n<8):((m ||| n) &&& 4=0∧gB (orS m n) 4=false)∨((m ||| n) &&& 4=4∧gB (orS m n) 4=true):=AZH ⟨m,hm⟩ ⟨n,hn⟩
theorem AUP:∀ m:Fin 8,(m.val &&& 18446744073709551611=0∧(gB m.val 1 || gB m.val 2)=false)∨((m.val &&& 18446744073709551611=1∨m.val &&& 18446744073709551611=2∨m.val &&& 18446744073709551611=3)∧(gB m.val 1 || gB m.val 2)=true):=by decide
theorem AKD {m:Nat} (hm:m<8):∃ v:Nat,m &&& 18446744073709551611=v∧IntKind.i64.wrap (v:Int)=v∧((v=0∧(gB m 1 || gB m 2)=false)∨(¬ v=0∧(gB m 1 || gB m 2)=true)):=by
 rcases AUP ⟨m,hm⟩with ⟨h,q⟩|⟨h|h|h,q⟩
 ·exact⟨0,h,by decide, .inl ⟨rfl,q⟩⟩
 ·exact⟨1,h,by decide, .inr ⟨by omega,q⟩⟩
 ·exact⟨2,h,by decide, .inr ⟨by omega,q⟩⟩
 ·exact⟨3,h,by decide, .inr ⟨by omega,q⟩⟩
theorem BV {k:Int} (hk:3≤k∧k≠8∧k≠9) {m n:Nat} (hm:m<8) (hn:n<8):aH C0 190 [.int k, .int m, .int n] []=some (.int (kY k m n),[]):=by
 rw[aD rfl Tryz.func190 rfl rfl];have h1:=I4 hm;have h2:=I4 hn;have h3:=or8 hm hn;have h4:(m ||| n) % 18446744073709551616=m ||| n:=I4 (zC1 (n:=3) hm hn)
 obtain⟨x,x1,x2,x3⟩:=AKD hm;obtain⟨y,y1,y2,y3⟩:=AKD hn;have k8:¬ k=8:=hk.2.1;have k9:¬ k=9:=hk.2.2;have e7:orS 0 7=7:=by decide
 have e3:orS 0 3=3:=by decide
 have e47:orS 4 7=7:=by decide
 have e43:orS 4 3=7:=by decide
 have e40:orS 4 0=4:=by decide
 have e00:orS 0 0=0:=by decide
 by_cases k6:k<6
 ·have hk3:k=3∨k=4∨k=5:=by omega
  rcases hk3 with rfl|rfl|rfl
  ·rcases L8 hm hn with ⟨p,q⟩|⟨p,q⟩
   ·rcases x3 with ⟨x3,x4⟩|⟨x3,x4⟩
    ·simp[h1,h2,h3,h4,p,x1,x2,x3,kY,q,x4,e00]
    ·rcases y3 with ⟨y3,y4⟩|⟨y3,y4⟩
     ·simp[h1,h2,h3,h4,p,x1,x2,x3,y1,y2,y3,kY,q,x4,y4,e00]
     ·simp[h1,h2,h3,h4,p,x1,x2,x3,y1,y2,y3,kY,q,x4,y4,e7,e3]
   ·rcases x3 with ⟨x3,x4⟩|⟨x3,x4⟩
    ·simp[h1,h2,h3,h4,p,x1,x2,x3,kY,q,x4,e40]
    ·rcases y3 with ⟨y3,y4⟩|⟨y3,y4⟩
     ·simp[h1,h2,h3,h4,p,x1,x2,x3,y1,y2,y3,kY,q,x4,y4,e40]
     ·simp[h1,h2,h3,h4,p,x1,x2,x3,y1,y2,y3,kY,q,x4,y4,e47,e43]
  ·rcases L8 hm hn with ⟨p,q⟩|⟨p,q⟩
   ·rcases x3 with ⟨x3,x4⟩|⟨x3,x4⟩
    ·simp[h1,h2,h3,h4,p,x1,x2,x3,kY,q,x4,e00]
    ·rcases y3 with ⟨y3,y4⟩|⟨y3,y4⟩
     ·simp[h1,h2,h3,h4,p,x1,x2,x3,y1,y2,y3,kY,q,x4,y4,e00]
     ·simp[h1,h2,h3,h4,p,x1,x2,x3,y1,y2,y3,kY,q,x4,y4,e7,e3]
   ·rcases x3 with ⟨x3,x4⟩|⟨x3,x4⟩
    ·simp[h1,h2,h3,h4,p,x1,x2,x3,kY,q,x4,e40]
    ·rcases y3 with ⟨y3,y4⟩|⟨y3,y4⟩
     ·simp[h1,h2,h3,h4,p,x1,x2,x3,y1,y2,y3,kY,q,x4,y4,e40]
     ·simp[h1,h2,h3,h4,p,x1,x2,x3,y1,y2,y3,kY,q,x4,y4,e47,e43]
  ·rcases L8 hm hn with ⟨p,q⟩|⟨p,q⟩
   ·rcases x3 with ⟨x3,x4⟩|⟨x3,x4⟩
    ·simp[h1,h2,h3,h4,p,x1,x2,x3,kY,q,x4,e00]
    ·rcases y3 with ⟨y3,y4⟩|⟨y3,y4⟩
     ·simp[h1,h2,h3,h4,p,x1,x2,x3,y1,y2,y3,kY,q,x4,y4,e00]
     ·simp[h1,h2,h3,h4,p,x1,x2,x3,y1,y2,y3,kY,q,x4,y4,e7,e3]
   ·rcases x3 with ⟨x3,x4⟩|⟨x3,x4⟩
    ·simp[h1,h2,h3,h4,p,x1,x2,x3,kY,q,x4,e40]
    ·rcases y3 with ⟨y3,y4⟩|⟨y3,y4⟩
     ·simp[h1,h2,h3,h4,p,x1,x2,x3,y1,y2,y3,kY,q,x4,y4,e40]
     ·simp[h1,h2,h3,h4,p,x1,x2,x3,y1,y2,y3,kY,q,x4,y4,e47,e43]
 ·have k3:¬ k=3:=by omega
  have k4:¬ k=4:=by omega
  have k5:¬ k=5:=by omega
  rcases L8 hm hn with ⟨p,q⟩|⟨p,q⟩
  ·rcases x3 with ⟨x3,x4⟩|⟨x3,x4⟩
   ·simp[h1,h2,h3,h4,p,x1,x2,x3,kY,q,x4,e00,k3,k4,k5,k6,k8,k9]
   ·rcases y3 with ⟨y3,y4⟩|⟨y3,y4⟩
    ·simp[h1,h2,h3,h4,p,x1,x2,x3,y1,y2,y3,kY,q,x4,y4,e00,k3,k4,k5,k6,k8,k9]
    ·simp[h1,h2,h3,h4,p,x1,x2,x3,y1,y2,y3,kY,q,x4,y4,e7,e3,k3,k4,k5,k6,k8,k9]
  ·rcases x3 with ⟨x3,x4⟩|⟨x3,x4⟩
   ·simp[h1,h2,h3,h4,p,x1,x2,x3,kY,q,x4,e40,k3,k4,k5,k6,k8,k9]
   ·rcases y3 with ⟨y3,y4⟩|⟨y3,y4⟩
    ·simp[h1,h2,h3,h4,p,x1,x2,x3,y1,y2,y3,kY,q,x4,y4,e40,k3,k4,k5,k6,k8,k9]
    ·simp[h1,h2,h3,h4,p,x1,x2,x3,y1,y2,y3,kY,q,x4,y4,e47,e43,k3,k4,k5,k6,k8,k9]
end Go.Proofs.YtnmimmaahhlgeaaGreat.P
namespace Go.Av
theorem Ex.CU {w:Int} {e:Ex} (h:e.wf w=true):(e.kind=1∧0≤e.col∧e.col<w∧e.kids=[])∨(e.kind=2∧e.kids=[])∨((e.kind=10∨e.kind=11)∧∃ x,e.kids=[x]∧x.wf w=true)∨((3≤e.kind∧e.kind≤9)∧∃ x y,e.kids=[x,y]∧x.wf w=true∧y.wf w=true):=by
 have hk:∀ x∈e.kids,x.wf w=true:=fun x hx=>Ex.iZ h hx
 by_cases h1:e.kind=1
 ·have:=Ex.oP h h1;exact .inl ⟨h1,this.1,this.2.1,this.2.2⟩
 rw[Ex.EZ]at h;simp only[zU,zS]at h;have hl:=h.1;unfold dB at hl;split at hl
 ·rename_i hc;exact .inr (.inl ⟨by omega,zW.1 (by omega)⟩)
 ·split at hl
  ·rename_i hc;obtain⟨x,hx⟩:=JB (show e.kids.length=1 by omega);exact .inr (.inr (.inl ⟨hc,x,hx,hk x (by simp[hx])⟩))
  ·split at hl
   ·rename_i hc;obtain⟨x,y,hx⟩:=SV (show e.kids.length=2 by omega);exact .inr (.inr (.inr ⟨hc,x,y,hx,hk x (by simp[hx]),hk y (by simp[hx])⟩))
   ·omega
theorem SH {W:Int} (st:List Int) (hl:(st.length:Int)=W) (hs:∀ a∈st,okS a):∀ e:Ex,e.wf W=true→okS (H9 st e):=by
 intro e
 induction e using Ex.ind with
 | h k c v ks ih =>
  intro hw;rw[L6]
  rcases Ex.CU hw with ⟨h1,h2,h3,h4⟩|⟨h1,h2⟩|⟨h1,x,h2,h3⟩|⟨h1,x,y,h2,h3,h4⟩
  ·rw[if_pos h1];generalize Ex.col (.mk k c v ks)=cc at *
   have hlt:cc.toNat<st.length:=by omega
   rw[zX hlt];exact hs _ (xY hlt)
  ·rw[if_neg (by omega),if_pos h1];exact AIL _
  ·have hx:=ih x (by simp only[Ex.kids]at h2;simp[h2]) h3;obtain⟨n,hn⟩:=yZ (show 0≤H9 st x by have:=hx.1;omega);have ht:=SN ⟨n,by have:=hx.2;omega⟩ (by have:=hx.1;simp;omega);rw[if_neg (by omega),if_neg (by omega),h2];simp only[List.getElem?_cons_zero,yI,zA,hn]
   rcases h1 with h1|h1
   ·rw[if_pos h1];exact ht.1
   ·rw[if_neg (by omega),if_pos h1];exact ht.2
  ·have hx:=ih x (by simp only[Ex.kids]at h2;simp[h2]) h3;have hy:=ih y (by simp only[Ex.kids]at h2;simp[h2]) h4;rw[if_neg (by omega),if_neg (by omega),if_neg (by omega),if_neg (by omega),h2];exact AM1 hx hy
end Go.Av
namespace Go.Proofs.YtnmimmaahhlgeaaGreat.P
open Go Go.Av
set_option maxRecDepth 4000
set_option maxHeartbeats 8000000
theorem seven {a:Int} (h:okS a):a=1∨a=2∨a=3∨a=4∨a=5∨a=6∨a=7:=by have:=h.1;have:=h.2;omega
theorem AL0 {k a b:Int} (hk:3≤k) (ha:okS a) (hb:okS b):aH C0 190 [.int k, .int a, .int b] []=some (.int (kY k a b),[]):=by
 by_cases h:k=8∨k=9
 ·exact EN h ha hb
 ·obtain⟨m,rfl⟩:=yZ (show 0≤a by have:=ha.1;omega);obtain⟨n,rfl⟩:=yZ (show 0≤b by have:=hb.1;omega);exact BV ⟨hk,by omega,by omega⟩ (by have:=ha.2;omega) (by have:=hb.2;omega)
theorem XO {W:Int} (st:List Int) (hl:(st.length:Int)=W) (hs:∀ a∈st,okS a):∀ e:Ex,e.wf W=true→aH C0 159 [.i (.iref e.cells), .i (.isl (aG st))] []=some (.int (H9 st e),[]):=by
 intro e
 induction e using Ex.ind with
 | h k c v ks ih =>
  intro hw;have hall:=SH st hl hs;rw[aD rfl Tryz.func159 rfl rfl,Ex.aA,L6]
  rcases Ex.CU hw with ⟨h1,h2,h3,h4⟩|⟨h1,h2⟩|⟨h1,x,h2,h3⟩|⟨h1,x,y,h2,h3,h4⟩
  ·generalize Ex.mk k c v ks=e at *
   have hlt:e.col.toNat<st.length:=by omega
   have h5:=zX hlt;generalize st[e.col.toNat]=s at h5;have r2:=bL h5;obtain⟨_,h6⟩:=zY.1 h5;simp[h1,h2,r2,h6,show e.col<st.length by omega]
  ·generalize Ex.mk k c v ks=e at *
   have hst:=nD e.val.null e.val.n;simp[h1,hst]
  ·have hx:=ih x (by simp only[Ex.kids]at h2;simp[h2]) h3;have ho:=hall x h3;generalize Ex.mk k c v ks=e at *
   generalize hso:H9 st x=s at hx ho;rw[Ex.aA]at hx
   rcases h1 with h1|h1
   ·rcases seven ho with rfl|rfl|rfl|rfl|rfl|rfl|rfl<;>(simp[h1,h2,Ex.aB,Ex.aA x,hx,hso];try decide)
   ·rcases seven ho with rfl|rfl|rfl|rfl|rfl|rfl|rfl<;>(simp[h1,h2,Ex.aB,Ex.aA x,hx,hso];try decide)
  ·have hx:=ih x (by simp only[Ex.kids]at h2;simp[h2]) h3;have hy:=ih y (by simp only[Ex.kids]at h2;simp[h2]) h4;have ho:=hall x h3;have hp:=hall y h4;generalize Ex.mk k c v ks=e at *
   have hc:=AL0 (k:=e.kind) h1.1 ho hp;generalize hso:H9 st x=s at hx ho hc;generalize hto:H9 st y=t at hy hp hc;rw[Ex.aA]at hx hy;have q1:¬ e.kind=1:=by omega
   have q2:¬ e.kind=2:=by omega
   have q3:¬ e.kind=10:=by omega
   have q4:¬ e.kind=11:=by omega
   simp[q1,q2,q3,q4,h2,Ex.aB,Ex.aA x,Ex.aA y,hx,hy,hc,hso,hto]
end Go.Proofs.YtnmimmaahhlgeaaGreat.P
namespace Go.Av
theorem AKY (n:Nat) (x:Int):aG (List.replicate n x)=List.replicate n [.int x]:=by
 induction n with
 | zero=>rfl
 | succ n ih=>simp[xP,aG,ih]
def st1 (n i:Nat):List Int:=List.replicate i 7++List.replicate (n-i) 0
def st2 (p m i:Nat):List Int:=List.replicate p 7++(List.replicate i 4++List.replicate (m-i) 7)
theorem AJ8 {a b:Int} {n i:Nat} (h:i<n):(List.replicate i a++List.replicate (n-i) b)[i]?=some b:=by
 rw[zN (by simp)];have:0<n-i:=by omega
 simp[List.getElem?_replicate,this]
theorem AJ7 {a b:Int} {n i:Nat} (h:i<n):(List.replicate i a++List.replicate (n-i) b).set i a=List.replicate (i+1) a++List.replicate (n-(i+1)) b:=by
 rw[zD6 _ _ (by simp)];rw[show n-i=(n-(i+1))+1 by omega,xP,List.replicate_succ'];simp
theorem ATQ {n i:Nat} (h:i<n):(st1 n i)[i]?=some 0:=AJ8 h
theorem ATP {n i:Nat} (h:i<n):(st1 n i).set i 7=st1 n (i+1):=AJ7 h
theorem ATN {p m i:Nat} (h:i<m):(st2 p m i)[p+i]?=some 7:=by
 unfold st2;rw[zN (by simp)];simpa using AJ8 (a:=4) (b:=7) h
theorem ATM {p m i:Nat} (h:i<m):(st2 p m i).set (p+i) 4=st2 p m (i+1):=by
 unfold st2;rw[zD6 _ _ (by simp)];simp only[zB3,xM];rw[AJ7 h]
theorem ATR {p m:Nat}:st1 (p+m) (p+m)=st2 p m 0:=by
 simp[st1,st2,List.replicate_append_replicate]
theorem ATO (p m:Nat):st2 p m m=kG ((p+m:Nat):Int) p:=by
 unfold st2 kG;apply zF4;intro i;simp only[zG6,List.replicate_zero,xZ,zD4,zH];by_cases h:i<p
 ·rw[zL (by simpa using h)];simp[h,show i<p+m by omega]
 ·rw[zN (by simp;omega)];by_cases h2:i<p+m
  ·simp[h2,show i-p<m by omega,show p≤i by omega]
  ·simp[h2,show ¬ i-p<m by omega]
@[simp] theorem AEW {p m i:Nat} (h:i≤m):(st2 p m i).length=p+m:=by simp[st2];omega
def nI (p m:Nat):List Int:=(List.range m).map fun(i:Nat)=>((p+i:Nat):Int)
@[simp] theorem ASJ (p m:Nat):(nI p m).length=m:=by simp[nI]
theorem YI {p m i:Nat} (h:i<m):(nI p m)[i]?=some ((p+i:Nat):Int):=by simp[nI,h]
theorem QV (p m:Nat):nI p (m+1)=nI p m++[((p+m:Nat):Int)]:=by simp[nI,zE5]
theorem J9 (W left:Int):∀ a∈kG W left,okS a:=by
 intro a ha;unfold kG at ha;obtain⟨i,-,rfl⟩:=zG.1 ha;unfold okS;split<;>omega
theorem qN (W left:Int):(kG W left).length=W.toNat:=by simp[kG]
theorem AT5:∀ a:Fin 8,(a.val &&& 2=0∧gB a.val 2=false)∨(a.val &&& 2=2∧gB a.val 2=true):=by decide
end Go.Av
namespace Go.Proofs.YtnmimmaahhlgeaaGreat.P
open Go Go.Av
set_option maxRecDepth 4000
set_option maxHeartbeats 8000000
def RJ1 (e:Ex) (l:List Int) (n:Nat) (i:Nat):AS :=
 { env:=[(0, .i (.agg [.int e.kind, .int e.col, .bool e.val.null, .int e.val.n, .isl (Ex.aB e.kids)])),(1, .int n),(2, .i (.isl (aG l))),(3, .own 0 0),(6, .bool false),(7, .osl 1 1 0 n),(8,jk i (.int (i-1))),(10, .junk),(14, .bool false),(18, .int n),(19, .int i),(20,jk i (.bool true)),(26, .junk),(27, .junk),(28, .junk),(29, .junk),(38, .junk)],
   st:=[some (.box [.int e.kind, .int e.col, .bool e.val.null, .int e.val.n, .i (.isl (Ex.aB e.kids))]),some (.arr 1 (aG (st1 n i)))] }
def RJ2 (e:Ex) (n p m:Nat) (i:Nat):AS :=
 { env:=[(0, .i (.agg [.int e.kind, .int e.col, .bool e.val.null, .int e.val.n, .isl (Ex.aB e.kids)])),(1, .int n),(2, .i (.isl (aG (nI p m)))),(3, .own 0 0),(6, .bool false),(7, .osl 1 1 0 n),(8, .int (n-1)),(10,jk i (.int ((p:Int)+i-1))),(14, .bool false),(18, .int n),(19, .int n),(20, .bool false),(26, .i (.isl (aG (nI p m)))),(27, .int m),(28, .int i),(29,jk i (.bool true)),(38,jk i (.bool true))],
   st:=[some (.box [.int e.kind, .int e.col, .bool e.val.null, .int e.val.n, .i (.isl (Ex.aB e.kids))]),some (.arr 1 (aG (st2 p m i)))] }
theorem AAM (e:Ex) {n p m:Nat} (hn:n=p+m) (h:e.ok n=true):aH C0 114 [.i (.agg e.cells), .int n, .i (.isl (aG (nI p m)))] []=some (.bool (ACC e n p),[]):=by
 have hok:=ok_eq n e;rw[h]at hok;obtain⟨hw,g1,g2⟩:=Ex.qY h;have hlen:((kG n p).length:Int)=(n:Int):=by rw[qN];omega
 have ho:=XO (kG n p) hlen (J9 _ _) e hw;have hs:=SH (kG n p) hlen (J9 _ _) e hw;rw[aD rfl Tryz.func114 rfl rfl];unfold ACC;generalize H9 (kG n p) e=s at ho hs;obtain⟨s,rfl⟩:=yZ (show 0≤s by have:=hs.1;omega);have hs8:s<8:=by have:=hs.2;omega
 have hall:=ATO p m;rw[← hn]at hall;rw[← hall]at ho;rw[Ex.aA]at *
 have hb:8*(n:Int)≤281474976710656:=by omega
 have hz:=AKY n 0;have hz1:st1 n 0=List.replicate n 0:=by simp[st1]
 have hs1:st1 n n=st2 p m 0:=by rw[hn];exact ATR
 have hl2:∀ i,i≤m→(st2 p m i).length=n:=fun i hi=>by rw[AEW hi,hn]
 have hl3:(st2 p m m).take n=st2 p m m:=zZ (by rw[hl2 m (zJ m)];exact zJ n);simp[hok,hb];rw[aT (RJ1 e (nI p m) n) n (by simp[RJ1,hz1,hz])]
 ·rw[aF];simp[RJ1];rw[aT (RJ2 e n p m) m (by simp[RJ2,hs1,dK (show n≠0 by omega)])]
  ·rw[aF];have h2:=AT5 ⟨s,hs8⟩
   rcases h2 with ⟨h2,h3⟩|⟨h2,h3⟩
   ·simp at h2 h3;simp[RJ2,ho,I4 hs8,h2,h3,hl2,hl3]
   ·simp at h2 h3;simp[RJ2,ho,I4 hs8,h2,h3,hl2,hl3]
  ·intro i hi;have h3:=YI (p:=p) hi;have r2:=bL h3;have r3:=bL (ATN (p:=p) hi);have hset:=ATM (p:=p) hi;have hin:((p:Int)+i)<n:=by omega
   have hl:=hl2 i (by omega);have hin2:p+i<n:=by omega
   have hin0:0≤(p:Int)+i:=by omega
   have w2:IntKind.i64.wrap ((i:Int)+1)=i+1:=wrO;simp[RJ2,hi,r2,r3,w2,M5,hset,hin,hin0,hl,show((p:Int)+i).toNat=p+i by omega];omega
 ·intro i hi;have r3:=bL (ATQ hi);have hset:=ATP hi;have w2:IntKind.i64.wrap ((i:Int)+1)=i+1:=wrO;simp[RJ1,hi,r3,w2,M5,hset]
end Go.Proofs.YtnmimmaahhlgeaaGreat.P
namespace Go.Av
theorem AK4 {n p i:Nat} (h:i<n):(kG n p)[i]?=some (if p≤i then 4 else 7):=by
 have:i<(kG (n:Int) p).length:=by rw[qN];simpa using h
 unfold kG;simp[h]
end Go.Av
namespace Go.Proofs.YtnmimmaahhlgeaaGreat.P
open Go Go.Av
set_option maxRecDepth 4000
set_option maxHeartbeats 8000000
def CLX (n p:Nat) (i:Nat):AS :=
 { env:=[(0, .int p),(1, .int n),(4, .nils),(5, .osl 0 1 0 i),(6, .int ((p:Int)+i)),(11,jk i (.bool true))],st:=[some (.arr 1 (aG (nI p i)))] }
theorem TZ {n p m:Nat} (hn:n=p+m) (hb:n<1000):aH C0 171 [.int p, .int n] []=some (.i (.isl (aG (nI p m))),[]):=by
 rw[aD rfl Tryz.func171 rfl rfl];simp;rw[aT (CLX n p) m (by simp[CLX,nI,aG])]
 ·rw[aF];have h1:¬ ((p:Int)+m<n):=by omega
  have h2:(nI p m).take m=nI p m:=zZ (by simp);simp[CLX,h1,h2]
 ·intro i hi;have h1:((p:Int)+i<n):=by omega
  have w2:IntKind.i64.wrap ((p:Int)+i+1)=(p:Int)+(i+1):=by rw[wrO];omega
  have hl:(i+1)*8≤140737488355328:=by omega
  have h2:(nI p i).take i=nI p i:=zZ (by simp);simp[CLX,h1,w2,hl,h2,QV,sF]
def nsS (p i k:Nat):Int:=if p≤i∧i<p+k then 4 else 7
def nsB (p m i:Nat):AV:=if m=0 then .junk else jk i (.bool (decide ((p:Int)+(m-1)=i-1)))
@[simp] theorem AZX (p m i:Nat):eT (nsB p m i)=[]:=by unfold nsB;split<;>simp
@[simp] theorem AcL (r:Nat→Option Nat) (p m i:Nat):ren r (nsB p m i)=nsB p m i:=by unfold nsB;split<;>simp
def NSO (n p m:Nat) (i:Nat):AS :=
 { env:=[(0, .int n),(1, .i (.isl (aG (nI p m)))),(4, .nils),(5, .osl 0 1 0 i),(6, .int i),(7,jk i (.int (nsS p (i-1) m))),(8,jk i (.int m)),(12,jk i (.bool true)),(18,jk i (.bool false)),(26,nsB p m i)],st:=[some (.arr 1 (aG ((kG n p).take i)))] }
def NSI (n p m:Nat) (i k:Nat):AS :=
 { env:=[(0, .int n),(1, .i (.isl (aG (nI p m)))),(4, .nils),(5, .osl 0 1 0 i),(6, .int i),(7, .int (nsS p i k)),(8, .int k),(12, .bool true),(18,if k=0 then jk i (.bool false)else .bool true),(26,if k=0 then nsB p m i else .bool (decide ((p:Int)+(k-1)=i)))],st:=[some (.arr 1 (aG ((kG n p).take i)))] }
theorem SK {n p m:Nat} (hn:n=p+m) (hb:n<1000):aH C0 195 [.int n, .i (.isl (aG (nI p m)))] []=some (.i (.isl (aG (kG n p))),[]):=by
 rw[aD rfl Tryz.func195 rfl rfl];have hnl:(kG (n:Int) p).length=n:=by rw[qN];omega
 simp;rw[aT (NSO n p m) n (by simp[NSO,aG,nsB])]
 ·rw[aF];have h2:(kG (n:Int) p).take n=kG n p:=zZ (by omega);simp[NSO,h2,hnl]
 ·intro i hi;have w2:IntKind.i64.wrap ((i:Int)+1)=i+1:=wrO;have h3:=AK4 (p:=p) hi;have htk:=aO h3;have hl:(i+1)*8≤140737488355328:=by omega
  have hsm:nsS p i m=if p≤i then 4 else 7:=by unfold nsS;by_cases h:p≤i<;>simp[h];omega
  have hlt:((kG (n:Int) p).take i).length=i:=by simp[hnl];omega
  have htt:((kG (n:Int) p).take i).take i=(kG (n:Int) p).take i:=zZ (by omega);simp only[← hsm]at htk;simp[NSO,hi];rw[aT (NSI n p m i) m (by simp[NSI,nsS];try omega)]
  ·rw[aF];by_cases hm:m=0
   ·subst hm;simp[NSI,NSO,w2,hl,htk,sF,hlt,htt,nsB]
   ·by_cases h0:i=0
    ·subst h0;simp[NSI,NSO,hl,htk,sF,nsB,hm,aG]
    ·simp[NSI,NSO,w2,hl,htk,sF,hlt,htt,nsB,hm]
  ·intro k hk;have h5:=YI (p:=p) hk;have r2:=bL h5;have w3:IntKind.i64.wrap ((k:Int)+1)=k+1:=wrO;have e1:∀ x:AV,(if(k+1=0)then x else(AV.bool (decide ((p:Int)+((k+1:Nat)-1)=i))))=AV.bool (decide ((p:Int)+k=i)):=by intro x;simp
   by_cases he:(p:Int)+k=i
   ·have hs:nsS p i (k+1)=4:=by unfold nsS;rw[if_pos (by omega)]
    by_cases k0:k=0
    ·subst k0;simp at he;simp[NSI,hk,r2,hs,he]
    ·simp[NSI,hk,r2,w3,hs,he,k0]
   ·have hs:nsS p i (k+1)=nsS p i k:=by
     unfold nsS;by_cases hp:p≤i∧i<p+k
     ·rw[if_pos hp,if_pos (by omega)]
     ·rw[if_neg hp,if_neg (by omega)]
    by_cases k0:k=0
    ·subst k0;simp at he;simp[NSI,hk,r2,hs,he]
    ·simp[NSI,hk,r2,w3,hs,he,k0]
end Go.Proofs.YtnmimmaahhlgeaaGreat.P
namespace Go.Av
def F5 (x:Int):Val:=⟨decide (x=4),if x=2 then 1 else 0⟩
def tsI (k a b x s:Int) (j:Nat):Int:=(([1,2,4]:List Int).take j).foldl (fun s y=>if(gB a x && gB b y)=true then orS s (stV (Val.cmb k (F5 x) (F5 y)))else s) s
def tsO (k a b:Int) (i:Nat):Int:=(([1,2,4]:List Int).take i).foldl (fun s x=>tsI k a b x s 3) 0
theorem AI3 {k a b x s:Int} (hs:AHN s) (j:Nat):AHN (tsI k a b x s j):=by
 unfold tsI;generalize (([1,2,4]:List Int).take j)=l
 induction l generalizing s with
 | nil=>simpa using hs
 | cons y l ih =>
  simp only[xI];apply ih;split
  ·exact AJZ hs (K4 _)
  ·exact hs
theorem AT7 {k a b:Int} (i:Nat):AHN (tsO k a b i):=by
 unfold tsO
 have:∀ (l:List Int) (s:Int),AHN s→AHN (l.foldl (fun s x=>tsI k a b x s 3) s):=by
  intro l
  induction l with
  | nil=>intro s hs;simpa using hs
  | cons y l ih=>intro s hs;exact ih _ (AI3 hs 3)
 exact this _ _ ⟨0,rfl,by omega⟩
theorem AY7:∀ a b:Fin 8,tsO 8 a.val b.val 3=kY 8 a.val b.val∧tsO 9 a.val b.val 3=kY 9 a.val b.val:=by decide
end Go.Av
namespace Go.Proofs.YtnmimmaahhlgeaaGreat.P
open Go Go.Av
set_option maxRecDepth 4000
set_option maxHeartbeats 8000000
theorem AIE (b:Bool) (n:Int):aH C0 163 [.i (.agg [.bool b, .int n])] []=some (.int (if b=true then 2 else if n=0 then 0 else 1),[]):=by
 rw[aD rfl Tryz.func163 rfl rfl]
 cases b
 ·by_cases h:n=0<;>simp[h]
 ·simp
theorem ATW (t:Int) (h:0≤t∧t≤2):aH C0 165 [.int t] []=some (.int (if t=2 then 2 else 1-t),[]):=by
 rw[aD rfl Tryz.func165 rfl rfl];have:t=0∨t=1∨t=2:=by omega
 rcases this with rfl|rfl|rfl<;>simp
theorem AU1 (s t:Int):aH C0 191 [.int s, .int t] []=some (.int (if s=0∨t=0 then 0 else if s=1∧t=1 then 1 else 2),[]):=by
 rw[aD rfl Tryz.func191 rfl rfl];by_cases h1:s=0
 ·simp[h1]
 ·by_cases h2:t=0
  ·simp[h1,h2]
  ·by_cases h3:s=1
   ·by_cases h4:t=1
    ·simp[h3,h4]
    ·simp[h3,h4,h2]
   ·simp[h1,h2,h3]
theorem AYR (t:Int):aH C0 164 [.int t] []=some (.i (.agg [.bool (decide (t=2)), .int (if t=2 then 0 else t)]),[]):=by
 rw[aD rfl Tryz.func164 rfl rfl];by_cases h:t=2
 ·subst h;simp
 ·simp[h]
theorem AOC {k x y:Int} (hk:k=8∨k=9) (hx:x=1∨x=2∨x=4) (hy:y=1∨y=2∨y=4):aH C0 167 [.int k, .i (.agg [.bool (F5 x).null, .int (F5 x).n]), .i (.agg [.bool (F5 y).null, .int (F5 y).n])] []=some (.i (.agg [.bool (Val.cmb k (F5 x) (F5 y)).null, .int (Val.cmb k (F5 x) (F5 y)).n]),[]):=by
 rw[aD rfl Tryz.func167 rfl rfl]
 rcases hk with rfl|rfl<;>rcases hx with rfl|rfl|rfl<;>rcases hy with rfl|rfl|rfl<;>(simp[F5,AIE,ATW,AU1,AYR];try decide)
def pw (i:Nat):Int:=if i=0 then 1 else if i=1 then 2 else if i=2 then 4 else 8
def TSO (k:Int) (a b:Nat) (i:Nat):AS :=
 { env:=[(0, .int k),(1, .int a),(2, .int b),(6, .int 0),(7, .int (tsO k a b i)),(8, .int (pw i)),(9,jk i (.int 8)),(11,jk i (.bool true)),(15,jk i (.bool false)),(29,jk i (.bool (gB a (pw (i-1)) && gB b 4)))],st:=[] }
def TSI (k:Int) (a b:Nat) (i:Nat) (j:Nat):AS :=
 { env:=[(0, .int k),(1, .int a),(2, .int b),(6, .int 0),(7, .int (tsI k a b (pw i) (tsO k a b i) j)),(8, .int (pw i)),(9, .int (pw j)),(11, .bool true),(15,jk (i+j) (.bool (decide (j≠0)))),(29,jk (i+j) (.bool (if j=0 then gB a (pw (i-1)) && gB b 4 else gB a (pw i) && gB b (pw (j-1)))))],st:=[] }
theorem AL7 {a:Nat} (ha:a<8) {x:Int} (hx:0<x) (hx8:x<8):IntKind.i64.wrap ((a:Int) / x)=(a:Int) / x∧(gB a x=decide (((a:Int) / x).tmod 2=1)):=by
 have h2:0≤(a:Int) / x:=Int.ediv_nonneg (by omega) (by omega);have h3:(a:Int) / x≤a:=Int.ediv_le_self _ (by omega);refine⟨wrO,?_⟩;unfold gB;rw[Int.tmod_eq_emod_of_nonneg h2]
theorem AI0 (x:Int):aH C0 221 [.int x] []=some (.i (.agg [.bool (F5 x).null, .int (F5 x).n]),[]):=AEF x
theorem ANP {k a b x s:Int} {j:Nat} {y:Int} (h:(([1,2,4]:List Int))[j]?=some y):tsI k a b x s (j+1)=if(gB a x && gB b y)=true then orS (tsI k a b x s j) (stV (Val.cmb k (F5 x) (F5 y)))else tsI k a b x s j:=by
 unfold tsI;rw[aO h,zA4];rfl
theorem ANO {k a b:Int} {i:Nat} {x:Int} (h:(([1,2,4]:List Int))[i]?=some x):tsO k a b (i+1)=tsI k a b x (tsO k a b i) 3:=by
 unfold tsO;rw[aO h,zA4];rfl
theorem ACG (i:Nat) (hi:i<3):(pw i=1∨pw i=2∨pw i=4)∧IntKind.i64.wrap (2*pw i)=pw (i+1)∧(([1,2,4]:List Int))[i]?=some (pw i):=by
 have h:i=0∨i=1∨i=2:=by omega
 rcases h with rfl|rfl|rfl<;>decide
theorem D8 {k:Int} (hk:k=8∨k=9) {a b:Nat} (ha:a<8) (hb:b<8):aH C0 213 [.int k, .int a, .int b] []=some (.int (tsO k a b 3),[]):=by
 have p0:pw 0=1:=rfl;have p2:pw 2=4:=rfl;have p3:pw 3=8:=rfl;rw[aD rfl Tryz.func213 rfl rfl];simp;rw[aT (TSO k a b) 3 (by simp[TSO,tsO,p0])]
 ·rw[aF];simp[TSO,p3]
 ·intro i hi;obtain⟨x1,x2,x3⟩:=ACG i hi;have hsc:=ANO (k:=k) (a:=a) (b:=b) x3;have hlo:=AT7 (k:=k) (a:=a) (b:=b) i;have xl:pw i≤4:=by omega
  have xz:(pw i != 0)=true:=by simp;omega
  obtain⟨ax,bx⟩:=AL7 ha (x:=pw i) (by omega) (by omega);simp[TSO,xl];rw[aT (TSI k a b i) 3 (by simp[TSI,tsI,p0])]
  ·rw[aF];simp[TSI,TSO,p2,p3,hsc,x2]
  ·intro j hj;obtain⟨y1,y2,y3⟩:=ACG j hj;have yl:pw j≤4:=by omega
   have yz:(pw j != 0)=true:=by simp;omega
   have hs:=ANP (k:=k) (a:=a) (b:=b) (x:=pw i) (s:=tsO k a b i) y3;obtain⟨m,m1,m2⟩:=AI3 (k:=k) (a:=a) (b:=b) (x:=pw i) hlo j;obtain⟨n,n1,n2⟩:=K4 (Val.cmb k (F5 (pw i)) (F5 (pw j)));have hcm:=AOC hk x1 y1;have hst:=VG (Val.cmb k (F5 (pw i)) (F5 (pw j))).null (Val.cmb k (F5 (pw i)) (F5 (pw j))).n;rw[show stV ⟨(Val.cmb k (F5 (pw i)) (F5 (pw j))).null,(Val.cmb k (F5 (pw i)) (F5 (pw j))).n⟩=stV (Val.cmb k (F5 (pw i)) (F5 (pw j)))from rfl,n1]at hst;rw[m1,n1,SI]at hs;obtain⟨cx,dx⟩:=AL7 hb (x:=pw j) (by omega) (by omega);have hjk:=dK (show i+(j+1)≠0 by omega);by_cases p:gB a (pw i)=true
   ·have p':=p;rw[bx,zS]at p';by_cases q:gB b (pw j)=true
    ·have q':=q;rw[dx,zS]at q';rw[p,q]at hs;simp only[Bool.and_self,if_true]at hs;simp[TSI,yl,xz,yz,y2,hjk,ax,cx,p',q',p,q,AI0,hcm,hst,m1,I4 m2,I4 n2,or8 m2 n2,hs]
    ·have q2:gB b (pw j)=false:=by simpa using q
     have q':=q;rw[dx,zS]at q';rw[p,q2]at hs;simp only[Bool.and_false,z8,if_false]at hs;simp[TSI,yl,xz,yz,y2,hjk,ax,cx,p',q',p,q2,m1,hs]
   ·have p2':gB a (pw i)=false:=by simpa using p
    have p':=p;rw[bx,zS]at p';rw[p2']at hs;simp only[Bool.false_and,z8,if_false]at hs;simp[TSI,yl,xz,yz,y2,hjk,ax,p',p2',m1,hs]
theorem ANZ {k a b:Int} (hk:k=8∨k=9) (ha:okS a) (hb:okS b):aH C0 213 [.int k, .int a, .int b] []=some (.int (kY k a b),[]):=by
 obtain⟨m,rfl⟩:=yZ (show 0≤a by have:=ha.1;omega);obtain⟨n,rfl⟩:=yZ (show 0≤b by have:=hb.1;omega);have hm:m<8:=by have:=ha.2;omega
 have hn:n<8:=by have:=hb.2;omega
 have ht:=AY7 ⟨m,hm⟩ ⟨n,hn⟩
 rcases hk with rfl|rfl
 ·rw[D8 (.inl rfl) hm hn];simp only at ht;rw[ht.1]
 ·rw[D8 (.inr rfl) hm hn];simp only at ht;rw[ht.2]
theorem AP4:∀ m:Fin 8,(m.val &&& 3=0∧(gB m.val 1 || gB m.val 2)=false)∨((m.val &&& 3=1∨m.val &&& 3=2∨m.val &&& 3=3)∧(gB m.val 1 || gB m.val 2)=true):=by decide
theorem AeD {m:Nat} (hm:m<8):∃ v:Nat,m &&& 3=v∧IntKind.i64.wrap (v:Int)=v∧((v=0∧(gB m 1 || gB m 2)=false)∨(¬ v=0∧(gB m 1 || gB m 2)=true)):=by
 rcases AP4 ⟨m,hm⟩with ⟨h,q⟩|⟨h|h|h,q⟩
 ·exact⟨0,h,by decide, .inl ⟨rfl,q⟩⟩
 ·exact⟨1,h,by decide, .inr ⟨by omega,q⟩⟩
 ·exact⟨2,h,by decide, .inr ⟨by omega,q⟩⟩
 ·exact⟨3,h,by decide, .inr ⟨by omega,q⟩⟩
theorem VI {W:Int} (st:List Int) (hl:(st.length:Int)=W) (hs:∀ a∈st,okS a):∀ e:Ex,e.wf W=true→aH C0 194 [.i (.agg e.cells), .i (.isl (aG st))] []=some (.int (H9 st e),[]):=by
 intro e
 induction e using Ex.ind with
 | h k c v ks ih =>
  intro hw;have hall:=SH st hl hs;rw[aD rfl Tryz.func194 rfl rfl,Ex.aA,L6]
  rcases Ex.CU hw with ⟨h1,h2,h3,h4⟩|⟨h1,h2⟩|⟨h1,x,h2,h3⟩|⟨h1,x,y,h2,h3,h4⟩
  ·generalize Ex.mk k c v ks=e at *
   have hlt:e.col.toNat<st.length:=by omega
   have h5:=zX hlt;generalize st[e.col.toNat]=s at h5;have r2:=bL h5;obtain⟨_,h6⟩:=zY.1 h5;simp[h1,h2,r2,h6,show e.col<st.length by omega]
  ·generalize Ex.mk k c v ks=e at *
   have hst:=VG e.val.null e.val.n;simp[h1,hst]
  ·have hx:=ih x (by simp only[Ex.kids]at h2;simp[h2]) h3;have ho:=hall x h3;generalize Ex.mk k c v ks=e at *
   generalize hso:H9 st x=s at hx ho;rw[Ex.aA]at hx
   rcases h1 with h1|h1
   ·rcases seven ho with rfl|rfl|rfl|rfl|rfl|rfl|rfl<;>(simp[h1,h2,Ex.aB,Ex.aA x,hx,hso];try decide)
   ·rcases seven ho with rfl|rfl|rfl|rfl|rfl|rfl|rfl<;>(simp[h1,h2,Ex.aB,Ex.aA x,hx,hso];try decide)
  ·have hx:=ih x (by simp only[Ex.kids]at h2;simp[h2]) h3;have hy:=ih y (by simp only[Ex.kids]at h2;simp[h2]) h4;have ho:=hall x h3;have hp:=hall y h4;generalize Ex.mk k c v ks=e at *
   generalize hso:H9 st x=s at hx ho;generalize hto:H9 st y=t at hy hp;rw[Ex.aA]at hx hy;have q1:¬ e.kind=1:=by omega
   have q2:¬ e.kind=2:=by omega
   have q3:¬ e.kind=10:=by omega
   have q4:¬ e.kind=11:=by omega
   by_cases hk:e.kind=8∨e.kind=9
   ·have hc:=ANZ (k:=e.kind) hk ho hp
    rcases hk with hk|hk<;>(rw[hk]at hc;simp[hk,h2,Ex.aB,Ex.aA x,Ex.aA y,hx,hy,hc,hso,hto])
   ·have q5:¬ e.kind=8:=by omega
    have q6:¬ e.kind=9:=by omega
    have hcs:kY e.kind s t=orS (if gB (orS s t) 4=true then 4 else 0) (if(gB s 1 || gB s 2)=true∧(gB t 1 || gB t 2)=true then(if e.kind<6 then 7 else 3)else 0):=if_neg hk;obtain⟨m,rfl⟩:=yZ (show 0≤s by have:=ho.1;omega);obtain⟨n,rfl⟩:=yZ (show 0≤t by have:=hp.1;omega);have hm:m<8:=by have:=ho.2;omega
    have hn:n<8:=by have:=hp.2;omega
    have h1:=I4 hm;have h2':=I4 hn;have h3':=or8 hm hn;have h4':(m ||| n) % 18446744073709551616=m ||| n:=I4 (zC1 (n:=3) hm hn)
    obtain⟨x',x1,x2,x3⟩:=AeD hm;obtain⟨y',y1,y2,y3⟩:=AeD hn;have e7:orS 0 7=7:=by decide
    have e3:orS 0 3=3:=by decide
    have e47:orS 4 7=7:=by decide
    have e43:orS 4 3=7:=by decide
    have e40:orS 4 0=4:=by decide
    have e00:orS 0 0=0:=by decide
    rcases L8 hm hn with ⟨p,q⟩|⟨p,q⟩<;>rcases x3 with ⟨x3,x4⟩|⟨x3,x4⟩<;>rcases y3 with ⟨y3,y4⟩|⟨y3,y4⟩<;>by_cases q7:e.kind<6 <;>
     simp[q1,q2,q3,q4,q5,q6,q7,h2,Ex.aB,Ex.aA x,Ex.aA y,hx,hy,hso,hto,hcs,h1,h2',h3',h4',p,q,x1,x2,x3,x4,y1,y2,y3,y4,e7,e3,e47,e43,e40,e00]
theorem ZW (e:Ex) {n p m:Nat} (hn:n=p+m) (hb:n<1000) (h:e.wf n=true):aH C0 170 [.i (.agg e.cells), .int n, .i (.isl (aG (nI p m)))] []=some (.bool (ACC e n p),[]):=by
 have hlen:((kG n p).length:Int)=(n:Int):=by rw[qN];omega
 have ho:=VI (kG n p) hlen (J9 _ _) e h;have hs:=SH (kG n p) hlen (J9 _ _) e h;have hns:=SK hn hb;rw[aD rfl Tryz.func170 rfl rfl];unfold ACC;generalize H9 (kG n p) e=s at ho hs;rw[Ex.aA]at *
 rcases seven hs with rfl|rfl|rfl|rfl|rfl|rfl|rfl<;>(simp[hns,ho];try decide)
set_option maxHeartbeats 4000000
def kI (g:FuncId) (ws:List Int) (r:Int) (p:Pn):Prop:=∃ (q:Pn) (b:Bool),aH C0 g [.i (.iref p.cells), .i (.isl (aG ws))] []=some (.tup [.i (.agg q.cells), .bool b],[])∧(b=true→rwP ws r p=some q)∧(b=false→∀ q',rwP ws r p=some q'→∀ lv,q'.wd ws lv=0)
@[simp] theorem Aa6 (e:Ex) (k:Pn):(filt e k).kind=2:=rfl
@[simp] theorem AZA (es:List Ex) (k:Pn):(proj es k).kind=3:=rfl
@[simp] theorem AZG (kd:Int) (e:Ex) (a b:Pn):(aY kd e a b).kind=kd:=rfl
@[simp] theorem AWW (a b:Pn):(cK a b).kind=6:=rfl
theorem gM (ws:List Int) (r:Int) (e:Ex) (k:Pn):rwP ws r (filt e k)=rwF ws r e k:=by simp[rwP,filt,Pn.ex0,Pn.lI,Pn.kind,Pn.exprs,Pn.kids]
theorem kI.no {g:FuncId} {ws:List Int} {r:Int} {p:Pn} (h:aH C0 g [.i (.iref p.cells), .i (.isl (aG ws))] []=some (.tup [.i (.agg Pn.zero.cells), .bool false],[])) (hr:rwP ws r p=none):kI g ws r p:=⟨.zero,false,h,by simp,by simp[hr]⟩
theorem kI.yes {g:FuncId} {ws:List Int} {r:Int} {p q:Pn} (h:aH C0 g [.i (.iref p.cells), .i (.isl (aG ws))] []=some (.tup [.i (.agg q.cells), .bool true],[])) (hr:rwP ws r p=some q):kI g ws r p:=⟨q,true,h,fun _=>hr,by simp⟩
theorem AcJ {ws:List Int} {p:Pn} {W:Int} (hp:Wd ws p W):kI 49 ws 1 p:=by
 by_cases hk:p.kind=2
 ·obtain⟨e,a,rfl⟩:=pU hp hk;by_cases hk2:a.kind=2
  ·obtain⟨e2,a2,rfl⟩:=pU (iG hp).1 hk2;refine .yes (q:=filt (R5 e2 e) a2) ?_ (by rw[gM];simp[rwF,filt,Pn.ex0,Pn.lI,Pn.kind,Pn.exprs,Pn.kids]);have h1:=gV (e:=e) (k:=filt e2 a2) (kd:=2) rfl;have h2:=AM9 e2 e;have h3:=fP (R5 e2 e) a2;rw[aD rfl Tryz.func49 rfl rfl];simp only[aW,sK,Ex.aA e,Ex.aA e2,Pn.aA a2]at h1 h2 h3 ⊢;simp[h1,h2,h3]
  ·refine .no ?_ (by rw[gM];simp[rwF,hk2]);have h1:=eX (e:=e) (k:=a) (kd:=2) hk2;rw[aD rfl Tryz.func49 rfl rfl];simp only[aW,aX]at h1 ⊢;simp[h1]
 ·refine .no ?_ (by simp[rwP,hk]);have h1:=gQ (p:=p) (kd:=2) hk;rw[aD rfl Tryz.func49 rfl rfl];simp only[aX,Pn.aA p]at h1 ⊢;simp[h1]
theorem AcF {ws:List Int} {p:Pn} {W:Int} (hp:Wd ws p W):kI 53 ws 5 p:=by
 by_cases hk:p.kind=2
 ·obtain⟨e,a,rfl⟩:=pU hp hk;by_cases hk2:a.kind=4
  ·obtain⟨e2,x,y,hx⟩:=iF (iG hp).1 (.inl hk2);rw[hk2]at hx;subst hx;refine .yes (q:=aY 4 (R5 e2 e) x y) ?_ (by rw[gM];simp[rwF,aY,Pn.ex0,Pn.lI,Pn.uL,Pn.kind,Pn.exprs,Pn.kids]);have h1:=gV (e:=e) (k:=aY 4 e2 x y) (kd:=4) rfl;have h2:=AM9 e2 e;have h3:=p9 4 (R5 e2 e) x y;rw[aD rfl Tryz.func53 rfl rfl];simp only[aW,pair_cells,sK,Ex.aA e,Ex.aA e2,Pn.aA x,Pn.aA y]at h1 h2 h3 ⊢;simp[h1,h2,h3]
  ·refine .no ?_ (by rw[gM];simp[rwF,hk2]);have h1:=eX (e:=e) (k:=a) (kd:=4) hk2;rw[aD rfl Tryz.func53 rfl rfl];simp only[aW,aX]at h1 ⊢;simp[h1]
 ·refine .no ?_ (by simp[rwP,hk]);have h1:=gQ (p:=p) (kd:=4) hk;rw[aD rfl Tryz.func53 rfl rfl];simp only[aX,Pn.aA p]at h1 ⊢;simp[h1]
theorem AcC {ws:List Int} {p:Pn} {W:Int} (hp:Wd ws p W):kI 56 ws 8 p:=by
 by_cases hk:p.kind=2
 ·obtain⟨e,a,rfl⟩:=pU hp hk;by_cases hk2:a.kind=6
  ·obtain⟨x,y,rfl⟩:=AE6 (iG hp).1 hk2;refine .yes (q:=cK (filt e x) (filt e y)) ?_ (by rw[gM];simp[rwF,cK,Pn.ex0,Pn.lI,Pn.uL,Pn.kind,Pn.exprs,Pn.kids]);have h1:=gV (e:=e) (k:=cK x y) (kd:=6) rfl;have h2:=fP e x;have h3:=fP e y;rw[aD rfl Tryz.func56 rfl rfl];simp only[aW,JR,Ex.aA e,Pn.aA x,Pn.aA y]at h1 h2 h3 ⊢;simp[h1,h2,h3]
  ·refine .no ?_ (by rw[gM];simp[rwF,hk2]);have h1:=eX (e:=e) (k:=a) (kd:=6) hk2;rw[aD rfl Tryz.func56 rfl rfl];simp only[aW,aX]at h1 ⊢;simp[h1]
 ·refine .no ?_ (by simp[rwP,hk]);have h1:=gQ (p:=p) (kd:=6) hk;rw[aD rfl Tryz.func56 rfl rfl];simp only[aX,Pn.aA p]at h1 ⊢;simp[h1]
theorem AcB {ws:List Int} {p:Pn} {W:Int} (hp:Wd ws p W):kI 57 ws 9 p:=by
 by_cases hk:p.kind=7
 ·obtain⟨a,rfl⟩:=AE8 hp hk;have hc:(Pn.mk 7 0 [] [] [a]).cells=[.int 7, .int 0, .isl [], .isl [], .isl [a.cells]]:=by simp[Pn.cells,Ex.aB,aG,Pn.aB]
  by_cases hk2:a.kind=7∨a.kind=8
  ·refine .yes (q:=a) ?_ (by simp[rwP,Pn.lI,Pn.kids,hk2]);rw[aD rfl Tryz.func57 rfl rfl];simp only[hc,Pn.aA a]
   rcases hk2 with hk2|hk2<;>simp[hk2]
  ·refine .no ?_ (by simp[rwP,Pn.lI,Pn.kids,hk2]);rw[aD rfl Tryz.func57 rfl rfl];simp only[hc,aX,Pn.aA a];have h7:¬ a.kind=7:=by omega
   have h8:¬ a.kind=8:=by omega
   simp[h7,h8]
 ·refine .no ?_ ?_
  ·rw[aD rfl Tryz.func57 rfl rfl];simp only[aX,Pn.aA p];simp[hk]
  ·unfold rwP;split
   ·unfold rwF;simp
   ·simp[hk]
theorem AcI {ws:List Int} {p:Pn} {W:Int} (hp:Wd ws p W):kI 50 ws 2 p:=by
 by_cases hk:p.kind=2
 ·obtain⟨e,a,rfl⟩:=pU hp hk;by_cases hk2:e.kind=8
  ·have hw:=(Ex.qY (iG hp).2).1
   obtain⟨x,y,hxy⟩:∃ x y,e.kids=[x,y]:=by
    rcases Ex.CU hw with ⟨h,_⟩|⟨h,_⟩|⟨h,_⟩|⟨_,x,y,h,_⟩
    ·omega
    ·omega
    ·omega
    ·exact⟨x,y,h⟩
   refine .yes (q:=filt y (filt x a)) ?_ (by rw[gM];simp[rwF,hk2,Ex.lI,Ex.uL,hxy]);have h2:=fP x a;have h3:=fP y (filt x a);rw[aD rfl Tryz.func50 rfl rfl];simp only[aW,Ex.aA e,hxy,Ex.aB,Ex.aA x,Ex.aA y,Pn.aA a]at h2 h3 ⊢;simp[hk2,h2,h3]
  ·refine .no ?_ (by rw[gM];simp[rwF,hk2]);rw[aD rfl Tryz.func50 rfl rfl];simp only[aW,aX,Ex.aA e];simp[hk2]
 ·refine .no ?_ (by simp[rwP,hk]);rw[aD rfl Tryz.func50 rfl rfl];simp only[aX,Pn.aA p];simp[hk]
end Go.Proofs.YtnmimmaahhlgeaaGreat.P
namespace Go.Av
theorem AJ {ws:List Int} {e:Ex} {a:Pn} (h:(filt e a).wd ws 8≠0):a.wd ws 8≠0∧e.ok (a.wd ws 8)=true∧(filt e a).wd ws 8=a.wd ws 8:=by
 have h1:=h;rw[BF]at h1;obtain⟨h2,h3⟩:=gF h1;have hm:=Pn.gZ a 7 8 h3 (by omega);rw[hm];exact⟨h3,h2.2,by rw[BF,if_pos h2]⟩
theorem SG {ws:List Int} {kd:Int} {e:Ex} {a b:Pn} (hk:kd=4∨kd=5) (h:(aY kd e a b).wd ws 8≠0):a.wd ws 8≠0∧b.wd ws 8≠0∧a.wd ws 8+b.wd ws 8≤6∧e.ok (a.wd ws 8+b.wd ws 8)=true∧(aY kd e a b).wd ws 8=a.wd ws 8+b.wd ws 8:=by
 have h1:=h;rw[uO hk]at h1;obtain⟨h2,h3⟩:=gF h1;rw[Pn.gZ a 7 8 h2.1 (by omega),Pn.gZ b 7 8 h2.2.1 (by omega)];exact⟨h2.1,h2.2.1,h2.2.2.1,h2.2.2.2,by rw[uO hk,if_pos h2]⟩
theorem AFI {ws:List Int} {es:List Ex} {a:Pn} (h:(proj es a).wd ws 8≠0):a.wd ws 8≠0∧bG es.length=true∧es.all (Ex.ok (a.wd ws 8))=true∧(proj es a).wd ws 8=es.length:=by
 have h1:=h;rw[BD]at h1;obtain⟨h2,h3⟩:=gF h1;rw[Pn.gZ a 7 8 h2.1 (by omega)];exact⟨h2.1,h2.2.1,h2.2.2,by rw[BD,if_pos h2]⟩
theorem AQF {e:Ex} {n:Nat} (h:e.wN (fun c=>decide (0≤c))=true):(e.bits / 2 ^ n=0)=(e.cin 0 n=true):=by
 rw[eq_iff_iff,AWH h n];unfold Ex.cin;constructor
 ·intro h1;exact Ex.sM (by simp) e (Ex.AE2 e h h1)
 ·intro h1;exact Ex.sM (fun c hc=>by simp at hc ⊢;exact hc.2) e h1
theorem AQE {e:Ex} {n W:Nat} (h:e.wN (fun c=>decide (0≤c∧c<(W:Int)))=true):(e.bits &&& (2 ^ n-1)=0)=(e.cin n W=true):=by
 have h0:e.wN (fun c=>decide (0≤c))=true:=Ex.sM (fun c hc=>by simp at hc ⊢;exact hc.1) e h;rw[eq_iff_iff,AWG h0 n];unfold Ex.cin;constructor
 ·intro h1;exact Ex.sM (fun c hc=>by simp at hc ⊢;omega) e (Ex.AE2 e h h1)
 ·intro h1;exact Ex.sM (fun c hc=>by simp at hc ⊢;exact hc.1) e h1
end Go.Av
namespace Go.Proofs.YtnmimmaahhlgeaaGreat.P
open Go Go.Av
set_option maxRecDepth 4000
set_option maxHeartbeats 4000000
theorem GD {ws:List Int} (hw:lZ ws=true) (p:Pn):aH C0 26 [.i (.agg p.cells), .i (.isl (aG ws))] []=some (.int (p.wd ws 8),[]):=by
 rw[qK];unfold Pn.width;rw[if_pos hw]
theorem CV {ws:List Int} (hw:lZ ws=true) {p:Pn} (h:p.wd ws 8≠0):∃ n:Nat,p.wd ws 8=n∧1≤n∧n≤6:=by
 have:=Pn.kJ (mG hw) p 8;exact⟨(p.wd ws 8).toNat,by omega,by omega,by omega⟩
theorem APW (a b:Nat):Int.fdiv (a:Int) (b:Int)=((a / b:Nat):Int):=by
 rw[Int.fdiv_eq_ediv_of_nonneg _ (Int.natCast_nonneg b)];rfl
theorem Ae9 {n:Nat} (hn:n≤6):(IntKind.i64.wrap (IntKind.i64.wrap (2 ^ min n IntKind.i64.bits)-1) % 18446744073709551616).toNat=2 ^ n-1:=by
 have:n=0∨n=1∨n=2∨n=3∨n=4∨n=5∨n=6:=by omega
 rcases this with rfl|rfl|rfl|rfl|rfl|rfl|rfl<;>decide
theorem AOK {ws:List Int} (hw:lZ ws=true) {e e2:Ex} {x y:Pn} {kd:Int} (hkd:kd=4∨kd=5) (hp:(filt e (aY kd e2 x y)).wd ws 8≠0):kI 51 ws 3 (filt e (aY kd e2 x y)):=by
 obtain⟨h1,h2,h3⟩:=AJ hp;obtain⟨g1,g2,g3,g4,g5⟩:=SG hkd h1;rw[g5]at h2;obtain⟨n,hn,n1,n2⟩:=CV hw g1;have hwf:=Ex.AK1 h2;have hcol:=Ex.ABU hwf;have hb:=Ex.U9 e hcol;have c1:=QT e (by have:=Ex.jZ h2;omega) hcol;have c2:=GD hw x;have c3:=fP e x;have c4:=p9 kd e2 (filt e x) y;have q:=AQF (n:=n) (Ex.ANJ hwf);rw[hn]at c2;have o1:aH C0 105 [.i (.iref (filt e (aY kd e2 x y)).cells), .int kd] []=_:=gV (e:=e) (k:=aY kd e2 x y) (kd:=kd) rfl;have o2:kd=5→aH C0 105 [.i (.iref (filt e (aY kd e2 x y)).cells), .int 4] []=_:=fun h=>eX (e:=e) (k:=aY kd e2 x y) (kd:=4) (by simp[h])
 have hsh:shI .shr .i64 (e.bits:Int) (n:Int)=some (.lit (.int .i64 ((e.bits / 2 ^ n:Nat):Int))):=by
  have h1:min (n:Int).toNat IntKind.i64.bits=n:=by simp[IntKind.bits];omega
  have h2:(0:Int)≤n:=by omega
  simp only[shI,h1,h2,zF8,tst];rw[show(2:Int) ^ n=((2 ^ n:Nat):Int)by simp,APW]
 have hr:rwP ws 3 (filt e (aY kd e2 x y))=if e.cin 0 n=true then some (aY kd e2 (filt e x) y)else none:=by
  rw[gM];simp[rwF,aY,Pn.ex0,Pn.lI,Pn.uL,Pn.kind,Pn.exprs,Pn.kids,hkd,hn]
 generalize hd:e.bits / 2 ^ n=d at *
 by_cases hc:e.cin 0 n=true
 ·rw[if_pos hc]at hr;have hd0:d=0:=by rw[q];exact hc
  subst hd0;refine .yes ?_ hr;rw[aD rfl Tryz.func51 rfl rfl]
  rcases hkd with rfl|rfl
  ·simp only[aW,pair_cells,Ex.aA e,Ex.aA e2,Pn.aA x,Pn.aA y]at o1 c1 c2 c3 c4 ⊢;simp[o1,c1,c2,c3,c4,hsh]
  ·have o2:=o2 rfl;simp only[aW,pair_cells,Ex.aA e,Ex.aA e2,Pn.aA x,Pn.aA y]at o1 o2 c1 c2 c3 c4 ⊢;simp[o1,o2,c1,c2,c3,c4,hsh]
 ·rw[if_neg hc]at hr;have hd0:¬ d=0:=by rw[q];exact hc
  refine .no ?_ hr;rw[aD rfl Tryz.func51 rfl rfl]
  rcases hkd with rfl|rfl
  ·simp only[aW,pair_cells,aX,Ex.aA e,Ex.aA e2,Pn.aA x,Pn.aA y]at o1 c1 c2 ⊢;simp[o1,c1,c2,hsh,hd0]
  ·have o2:=o2 rfl;simp only[aW,pair_cells,aX,Ex.aA e,Ex.aA e2,Pn.aA x,Pn.aA y]at o1 o2 c1 c2 ⊢;simp[o1,o2,c1,c2,hsh,hd0]
theorem AcH {ws:List Int} (hw:lZ ws=true) {p:Pn} (hp:p.wd ws 8≠0):kI 51 ws 3 p:=by
 by_cases hk:p.kind=2
 ·obtain⟨e,a,rfl⟩:=pU (nL hp) hk;by_cases hk2:a.kind=4∨a.kind=5
  ·obtain⟨e2,x,y,hx⟩:=iF (iG (nL hp)).1 hk2;generalize a.kind=kd at *
   subst hx;exact AOK hw hk2 hp
  ·have h1:=eX (e:=e) (k:=a) (kd:=4) (by omega);have h2:=eX (e:=e) (k:=a) (kd:=5) (by omega);refine .no ?_ (by rw[gM];simp[rwF,hk2]);rw[aD rfl Tryz.func51 rfl rfl];simp only[aW,aX]at h1 h2 ⊢;simp[h1,h2]
 ·have h1:=gQ (p:=p) (kd:=4) hk;have h2:=gQ (p:=p) (kd:=5) hk;refine .no ?_ (by simp[rwP,hk]);rw[aD rfl Tryz.func51 rfl rfl];simp only[aX,Pn.aA p]at h1 h2 ⊢;simp[h1,h2]
theorem AQR {b n:Nat} (hb:b<64):IntKind.i64.wrap ((b:Int) % 18446744073709551616 % 2 ^ n)=((b &&& (2 ^ n-1):Nat):Int):=by
 rw[Nat.and_two_pow_sub_one_eq_mod];have h1:(b:Int) % 18446744073709551616=b:=by omega
 have h2:(b:Int) % 2 ^ n=((b % 2 ^ n:Nat):Int):=by simp
 rw[h1,h2];have:=Nat.mod_le b (2 ^ n);exact wrO
theorem AOJ {ws:List Int} (hw:lZ ws=true) {e e2:Ex} {x y:Pn} (hp:(filt e (aY 4 e2 x y)).wd ws 8≠0):kI 52 ws 4 (filt e (aY 4 e2 x y)):=by
 obtain⟨h1,h2,h3⟩:=AJ hp;obtain⟨g1,g2,g3,g4,g5⟩:=SG (.inl rfl) h1;rw[g5]at h2;obtain⟨n,hn,n1,n2⟩:=CV hw g1;obtain⟨m,hm,m1,m2⟩:=CV hw g2;have hwf:=Ex.AK1 h2;have hcol:=Ex.ABU hwf;have hcolW:=Ex.JJ e (Ex.qY h2).1;have hb:=Ex.U9 e hcol;have hsz:e.size<1000000000:=by have:=Ex.jZ h2;omega
 have c1:=QT e hsz hcol;have c2:=GD hw x;have c5:=AA5 (w:=n) (by omega) e hwf hsz;have c3:=fP (e.rJ (·-n)) y;have c4:=p9 4 e2 x (filt (e.rJ (·-n)) y);rw[hn,hm,← Int.natCast_add]at hcolW;have q:=AQE (n:=n) hcolW;rw[hn]at c2;have o1:=gV (e:=e) (k:=aY 4 e2 x y) (kd:=4) rfl
 have hr:rwP ws 4 (filt e (aY 4 e2 x y))=if e.cin n (n+m:Nat)=true then some (aY 4 e2 x (filt (e.rJ (·-n)) y))else none:=by
  rw[gM]
  have:∀ k:Pn,(Pn.mk 4 0 [e2] [] [x,y]).wd ws 8=((n+m:Nat):Int):=fun _=>by
   have:=g5;unfold aY at this;rw[this,hn,hm];simp
  simp[rwF,aY,Pn.ex0,Pn.lI,Pn.uL,Pn.kind,Pn.exprs,Pn.kids,hn,this x]
 have haw:=AQR (b:=e.bits) (n:=n) (by omega);by_cases hc:e.cin n (n+m:Nat)=true
 ·rw[if_pos hc]at hr;have hd0:e.bits &&& (2 ^ n-1)=0:=by rw[q];exact hc
  rw[hd0]at haw;refine .yes ?_ hr;generalize e.rJ (·-(n:Int))=z at *
  rw[aD rfl Tryz.func52 rfl rfl];simp only[aW,pair_cells,Ex.aA e,Ex.aA e2,Ex.aA z,Pn.aA x,Pn.aA y]at o1 c1 c2 c3 c4 c5 ⊢;simp[o1,c1,c2,c3,c4,c5,Ae9 n2,haw]
 ·rw[if_neg hc]at hr;have hd0:¬ (e.bits &&& (2 ^ n-1)=0):=by rw[q];exact hc
  refine .no ?_ hr;generalize e.bits &&& (2 ^ n-1)=d at *
  rw[aD rfl Tryz.func52 rfl rfl];simp only[aW,pair_cells,aX,Ex.aA e,Ex.aA e2,Pn.aA x,Pn.aA y]at o1 c1 c2 ⊢;simp[o1,c1,c2,hd0,Ae9 n2,haw]
theorem AcG {ws:List Int} (hw:lZ ws=true) {p:Pn} (hp:p.wd ws 8≠0):kI 52 ws 4 p:=by
 by_cases hk:p.kind=2
 ·obtain⟨e,a,rfl⟩:=pU (nL hp) hk;by_cases hk2:a.kind=4
  ·obtain⟨e2,x,y,hx⟩:=iF (iG (nL hp)).1 (.inl hk2);rw[hk2]at hx;subst hx;exact AOJ hw hp
  ·have h1:=eX (e:=e) (k:=a) (kd:=4) hk2;refine .no ?_ (by rw[gM];simp[rwF,hk2]);rw[aD rfl Tryz.func52 rfl rfl];simp only[aW,aX]at h1 ⊢;simp[h1]
 ·have h1:=gQ (p:=p) (kd:=4) hk;refine .no ?_ (by simp[rwP,hk]);rw[aD rfl Tryz.func52 rfl rfl];simp only[aX,Pn.aA p]at h1 ⊢;simp[h1]
theorem AIV {ws:List Int} (hw:lZ ws=true) {e:Ex} {es:List Ex} {x:Pn} (hp:(filt e (proj es x)).wd ws 8≠0):kI 58 ws 10 (filt e (proj es x)):=by
 obtain⟨h1,h2,h3⟩:=AJ hp;obtain⟨g1,g2,g3,g4⟩:=AFI h1;rw[g4]at h2;have c2:=GD hw x;have c5:=AKU e es (x.wd ws 8);have o1:=gV (e:=e) (k:=proj es x) (kd:=3) rfl
 have hr:rwP ws 10 (filt e (proj es x))=some (proj es (filt (e.sub es) x)):=by
  rw[gM];simp[rwF,proj,Pn.ex0,Pn.lI,Pn.uL,Pn.kind,Pn.exprs,Pn.kids]
 have c3:=fP (APQ (e.subst es (x.wd ws 8))) x;refine⟨proj es (filt (APQ (e.subst es (x.wd ws 8))) x),(e.subst es (x.wd ws 8)).isSome,?_,?_,?_⟩
 ·generalize (e.subst es (x.wd ws 8)).isSome=b at *
  generalize APQ (e.subst es (x.wd ws 8))=z at *
  rw[aD rfl Tryz.func58 rfl rfl];simp only[aW,kQ,Ex.aA e,Ex.aA z,Pn.aA x]at o1 c2 c3 c5 ⊢;simp[o1,c2,c3,c5]
 ·intro hb;rw[hr];unfold Ex.subst at hb ⊢;split at hb
  ·rename_i hcc;rw[if_pos hcc];rfl
  ·simp at hb
 ·intro hb q' hq lv;rw[hr]at hq;injection hq with hq;subst hq
  cases lv with
  | zero=>rw[Pn.AED];simp[proj,Pn.kids]
  | succ lv =>
   rw[BD];refine if_neg fun hc=>?_
   have hc1:=hc.1
   cases lv with
   | zero=>exact hc1 (by rw[Pn.AED];simp[filt,Pn.kids])
   | succ lv =>
    rw[BF]at hc1;obtain⟨⟨hx,hok⟩,_⟩:=gF hc1;have e8:=ZB (nL g1) hx;rw[e8]at hok;unfold Ex.subst at hb;rw[if_pos (by simp only[zU];exact⟨h2,g3,hok⟩)]at hb;simp at hb
theorem AYZ {ws:List Int} (hw:lZ ws=true) {p:Pn} (hp:p.wd ws 8≠0):kI 58 ws 10 p:=by
 by_cases hk:p.kind=2
 ·obtain⟨e,a,rfl⟩:=pU (nL hp) hk;by_cases hk2:a.kind=3
  ·obtain⟨es,x,rfl⟩:=lX (iG (nL hp)).1 hk2;exact AIV hw hp
  ·have h1:=eX (e:=e) (k:=a) (kd:=3) hk2;refine .no ?_ (by rw[gM];simp[rwF,hk2]);rw[aD rfl Tryz.func58 rfl rfl];simp only[aW,aX]at h1 ⊢;simp[h1]
 ·have h1:=gQ (p:=p) (kd:=3) hk;refine .no ?_ (by simp[rwP,hk]);rw[aD rfl Tryz.func58 rfl rfl];simp only[aX,Pn.aA p]at h1 ⊢;simp[h1]
def OIX (e e2:Ex) (x y:Pn) (ws:List Int) (n m i:Nat):AS :=
 { env:=[(0, .i (.iref [.int 2, .int 0, .isl [[.int e.kind, .int e.col, .bool e.val.null, .int e.val.n, .isl (Ex.aB e.kids)]], .isl [], .isl [[.int 5, .int 0, .isl [[.int e2.kind, .int e2.col, .bool e2.val.null, .int e2.val.n, .isl (Ex.aB e2.kids)]], .isl [], .isl [[.int x.kind, .int x.table, .isl (Ex.aB x.exprs), .isl (aG x.cols), .isl (Pn.aB x.kids)],[.int y.kind, .int y.table, .isl (Ex.aB y.exprs), .isl (aG y.cols), .isl (Pn.aB y.kids)]]]]])),(1, .i (.isl (aG ws))),(4, .own 0 0),(5, .bool false),(6, .i (.iref [.int e.kind, .int e.col, .bool e.val.null, .int e.val.n, .isl (Ex.aB e.kids)])),
    (7, .i (.iref [.int 5, .int 0, .isl [[.int e2.kind, .int e2.col, .bool e2.val.null, .int e2.val.n, .isl (Ex.aB e2.kids)]], .isl [], .isl [[.int x.kind, .int x.table, .isl (Ex.aB x.exprs), .isl (aG x.cols), .isl (Pn.aB x.kids)],[.int y.kind, .int y.table, .isl (Ex.aB y.exprs), .isl (aG y.cols), .isl (Pn.aB y.kids)]]])),(8, .bool true),(9, .int ((n:Int)+m)),(10,gro 1 1 i),(11, .int ((n:Int)+i)),(19, .bool false),(36,jk i (.bool true)),(49, .junk)],
   st:=some (.box [.int 0, .int 0, .nils, .nils, .nils])::vT 1 (aG (nI n i)) i }
theorem AOH {ws:List Int} (hw:lZ ws=true) {e e2:Ex} {x y:Pn} (hp:(filt e (aY 5 e2 x y)).wd ws 8≠0):kI 55 ws 7 (filt e (aY 5 e2 x y)):=by
 obtain⟨h1,h2,h3⟩:=AJ hp;obtain⟨g1,g2,g3,g4,g5⟩:=SG (.inr rfl) h1;have c1:=GD hw (aY 5 e2 x y);rw[g5]at h2 c1;obtain⟨n,hn,n1,n2⟩:=CV hw g1;obtain⟨m,hm,m1,m2⟩:=CV hw g2;have c2:=GD hw x;rw[hn,hm,← Int.natCast_add]at h2 c1;rw[hn]at c2;have c3:=p9 4 e2 x y;have c4:=fP e (aY 4 e2 x y);have c5:=AAM e (n:=n+m) (p:=n) (m:=m) rfl h2;have o1:=gV (e:=e) (k:=aY 5 e2 x y) (kd:=5) rfl
 have hr:rwP ws 7 (filt e (aY 5 e2 x y))=if ACC e (n+m:Nat) n=true then some (filt e (aY 4 e2 x y))else none:=by
  rw[gM]
  have:(Pn.mk 5 0 [e2] [] [x,y]).wd ws 8=((n+m:Nat):Int):=by
   have:=g5;unfold aY at this;rw[this,hn,hm];simp
  simp[rwF,aY,Pn.ex0,Pn.lI,Pn.uL,Pn.kind,Pn.exprs,Pn.kids,hn,this]
 generalize ACC e (n+m:Nat) n=b at *
 have key:aH C0 55 [.i (.iref (filt e (aY 5 e2 x y)).cells), .i (.isl (aG ws))] []=some (.tup [.i (.agg (if b=true then filt e (aY 4 e2 x y)else Pn.zero).cells), .bool b],[]):=by
  rw[aD rfl Tryz.func55 rfl rfl];simp only[aW,pair_cells,aX,Ex.aA e,Ex.aA e2,Pn.aA x,Pn.aA y]at o1 c1 c2 c3 c4 c5 ⊢;have ht:∀ k,(nI n k).take k=nI n k:=fun k=>zZ (by simp)
  simp only[y7]at c5;simp[o1,c1,c2];rw[aT (OIX e e2 x y ws n m) m (by simp[OIX])]
  ·rw[aF];simp[OIX,aL (show m≠0 by omega),aI (show m≠0 by omega),dK (show m≠0 by omega)]
   cases b with
   | true=>simp[c3,c4,c5,ht,aW,pair_cells,Ex.aA e,Ex.aA e2,Pn.aA x,Pn.aA y]
   | false=>simp[c5,ht,aX]
  ·intro i hi;have w2:IntKind.i64.wrap ((n:Int)+i+1)=n+(i+1):=by rw[wrO];omega
   have hs:=QV n i;have hlt:(n:Int)+i<n+m:=by omega
   by_cases h0:i=0
   ·subst h0;have hlt0:(n:Int)<n+m:=by omega
    have w3:IntKind.i64.wrap ((n:Int)+1)=n+1:=by rw[wrO]
    simp[OIX,w3,hlt0,hs,gP,aG,nI]
   ·have hl1:(i+1)*8≤140737488355328:=by omega
    simp[OIX,w2,hlt,hs,aL h0,aI h0,dK h0,gP,aG,hl1,ht]
 cases b with
 | true=>exact .yes key (by rw[hr];rfl)
 | false=>exact .no key (by rw[hr];rfl)
theorem AcD {ws:List Int} (hw:lZ ws=true) {p:Pn} (hp:p.wd ws 8≠0):kI 55 ws 7 p:=by
 by_cases hk:p.kind=2
 ·obtain⟨e,a,rfl⟩:=pU (nL hp) hk;by_cases hk2:a.kind=5
  ·obtain⟨e2,x,y,hx⟩:=iF (iG (nL hp)).1 (.inr hk2);rw[hk2]at hx;subst hx;exact AOH hw hp
  ·have h1:=eX (e:=e) (k:=a) (kd:=5) hk2;refine .no ?_ (by rw[gM];simp[rwF,hk2]);rw[aD rfl Tryz.func55 rfl rfl];simp only[aW,aX]at h1 ⊢;simp[h1]
 ·have h1:=gQ (p:=p) (kd:=5) hk;refine .no ?_ (by simp[rwP,hk]);rw[aD rfl Tryz.func55 rfl rfl];simp only[aX,Pn.aA p]at h1 ⊢;simp[h1]
theorem ADQ {n m i:Nat} (h:i<n+m):(aS (m:Int) n++aS 0 m)[i]?=some (YM (nN n m i)):=by
 by_cases hi:i<n
 ·rw[zL (by simpa using hi),qQ hi];unfold nN;rw[if_pos (by omega),Int.add_comm]
 ·rw[zN (by simp;omega),lS,qQ (by omega)];unfold nN;rw[if_neg (by omega)];congr 2;omega
def MPX (fs es:List Ex) (x:Pn) (ws:List Int) (W:Int) (zs:List Ex) (i:Nat):AS :=
 { env:=[(0, .i (.iref [.int 3, .int 0, .isl (Ex.aB fs), .isl [], .isl [[.int 3, .int 0, .isl (Ex.aB es), .isl [], .isl [[.int x.kind, .int x.table, .isl (Ex.aB x.exprs), .isl (aG x.cols), .isl (Pn.aB x.kids)]]]]])),(1, .i (.isl (aG ws))),(4, .own 0 0),(5, .bool false),(6, .i (.iref [.int 3, .int 0, .isl (Ex.aB es), .isl [], .isl [[.int x.kind, .int x.table, .isl (Ex.aB x.exprs), .isl (aG x.cols), .isl (Pn.aB x.kids)]]])),(7, .int W),(8, .own 1 0),(9,jk i (.int (i-1))),(10,if i=0 then .junk else .own 3 0),(11,jk i (.bool true)),(26, .bool false),(50, .int fs.length),(51, .int i),(52,jk i (.bool true)),(71,jk i (.bool false))],
   st:=some (.box [.int 0, .int 0, .nils, .nils, .nils])::some (.box [.int 3, .int 0,gro 2 5 i, .nils, .i (.isl [[.int x.kind, .int x.table, .isl (Ex.aB x.exprs), .isl (aG x.cols), .isl (Pn.aB x.kids)]])])::(if i=0 then []else [some (.arr 5 (Ex.aB (zs.take i))),some (.box (nE ((zs[i-1]?).getD Ex.zero).cells))]) }
def CJX (e:Ex) (x y:Pn) (ws:List Int) (n m i:Nat):AS :=
 { env:=[(0, .i (.iref [.int 4, .int 0, .isl [[.int e.kind, .int e.col, .bool e.val.null, .int e.val.n, .isl (Ex.aB e.kids)]], .isl [], .isl [[.int x.kind, .int x.table, .isl (Ex.aB x.exprs), .isl (aG x.cols), .isl (Pn.aB x.kids)],[.int y.kind, .int y.table, .isl (Ex.aB y.exprs), .isl (aG y.cols), .isl (Pn.aB y.kids)]]])),(1, .i (.isl (aG ws))),(4, .own 0 0),(5, .bool false),(6, .own 1 0),(7, .own 2 0),(8, .fn (.func 112) [.own 1 0, .own 2 0]),(9, .own 3 0),(10,jk i (.int (i-1))),(15, .bool false),(37, .int ((n:Int)+m)),(38, .int i),(39,jk i (.bool true))],
   st:=some (.box [.int 0, .int 0, .nils, .nils, .nils])::some (.box [.int n])::some (.box [.int m])::some (.box [.int 3, .int 0,gro 4 5 i, .nils, .nils])::vT 5 (Ex.aB ((aS (m:Int) n++aS 0 m).take i)) i }
theorem AOI {ws:List Int} (hw:lZ ws=true) {e:Ex} {x y:Pn} (hp:(aY 4 e x y).wd ws 8≠0):kI 54 ws 6 (aY 4 e x y):=by
 obtain⟨g1,g2,g3,g4,g5⟩:=SG (.inl rfl) hp;obtain⟨n,hn,n1,n2⟩:=CV hw g1;obtain⟨m,hm,m1,m2⟩:=CV hw g2;have c1:=GD hw x;have c2:=GD hw y;have hwf:=Ex.AK1 g4;have hsz:e.size<1000000000:=by have:=Ex.jZ g4;omega
 have c5:=AA4 (a:=n) (b:=m) (by omega) (by omega) e hwf hsz;have c4:=p9 4 (e.rJ (nN n m)) y x
 have hr:rwP ws 6 (aY 4 e x y)=some (proj (aS m n++aS 0 m) (aY 4 (e.rJ (nN n m)) y x)):=by
  simp[rwP,aY,Pn.ex0,Pn.lI,Pn.uL,Pn.kind,Pn.exprs,Pn.kids,hn,hm]
 rw[hn]at c1;rw[hm]at c2;refine .yes ?_ hr;generalize e.rJ (nN n m)=z at *
 rw[aD rfl Tryz.func54 rfl rfl];simp only[kQ,pair_cells,aX,Ex.aA e,Ex.aA z,Pn.aA x,Pn.aA y]at c1 c2 c4 c5 ⊢;have w0:IntKind.i64.wrap ((n:Int)+m)=n+m:=wrO;have hlen:(aS (m:Int) n++aS 0 m).length=n+m:=by simp
 simp[c1,c2,w0];rw[aT (CJX e x y ws n m) (n+m) (by simp[CJX])]
 ·rw[aF];have htk:(aS (m:Int) n++aS 0 m).take (n+m)=aS (m:Int) n++aS 0 m:=zZ (by omega);simp[CJX,aL (show n+m≠0 by omega),aI (show n+m≠0 by omega),dK (show n+m≠0 by omega),htk,c4,c5]
 ·intro i hi;have hnth:=ADQ hi;have htk:=aO hnth;have hpl:=PN i n m (by omega) (by omega) (by omega);have hco:=FP (nN n m i);generalize nN n m i=c at *
  rw[mJ]at hco;have hlt:(i:Int)<n+m:=by omega
  have w2:IntKind.i64.wrap ((i:Int)+1)=i+1:=wrO;by_cases h0:i=0
  ·subst h0;have hlt0:(0:Int)<n+m:=by omega
   simp at hpl;simp[CJX,hlt0,hpl,hco,bB,htk,Ex.aB,mJ]
  ·have hl1:(i+1)*56≤140737488355328:=by omega
   have hl2:i≤min i (n+m):=by omega
   simp[CJX,w2,hlt,hpl,hco,aL h0,aI h0,dK h0,htk,Ex.bF,mJ,hl1,hl2,zF]
theorem AIU {ws:List Int} (hw:lZ ws=true) {fs es:List Ex} {x:Pn} (hp:(proj fs (proj es x)).wd ws 8≠0):kI 59 ws 11 (proj fs (proj es x)):=by
 obtain⟨h1,h2,h3,h4⟩:=AFI hp;obtain⟨g1,g2,g3,g4⟩:=AFI h1;rw[g4]at h3;have c2:=GD hw x;have c5:=fun e=>AKU e es (x.wd ws 8)
 have hr:rwP ws 11 (proj fs (proj es x))=some (proj (fs.map (Ex.sub es)) x):=by
  simp[rwP,proj,Pn.ex0,Pn.lI,Pn.uL,Pn.kind,Pn.exprs,Pn.kids]
 generalize hW:x.wd ws 8=W at *
 have hin:∀ (i:Nat) (a:Ex),fs[i]?=some a→(a.subst es W).isSome=true→(fs.map (Ex.sub es))[i]?=some (a.sub es)∧a.subst es W=some (a.sub es):=by
  intro i a ha hs;refine⟨by simp[ha],?_⟩;unfold Ex.subst at hs ⊢;split at hs
  ·rename_i hc;rw[if_pos hc]
  ·simp at hs
 have hlen:fs.length≤6:=by unfold bG at h2;simp at h2;omega
 obtain⟨j,k1,k2⟩:=fZ (fun e=>(e.subst es W).isSome) fs
 have hround:∀ i,i<j→i<fs.length∧∃ f z,fs[i]?=some f∧fH (Ex.aB fs) i=some f.cells∧(fs.map (Ex.sub es))[i]?=some z∧f.subst es W=some z:=by
  intro i hi;obtain⟨f,q1,q2,q3⟩:=k1 i hi;obtain⟨q4,q5⟩:=hin i f q1 q3;exact⟨(zY.1 q1).1,f,_,q1,Ex.aR q1,q4,q5⟩
 have hfl:fs.length≠0:=by intro h;rw[h]at h2;simp[bG]at h2
 have hzl:(fs.map (Ex.sub es)).length=fs.length:=by simp
 have hq:∀ lv,(proj (fs.map (Ex.sub es)) x).wd ws lv≠0→∀ f∈fs,(f.sub es).ok W=true:=by
  intro lv hne f hf
  cases lv with
  | zero=>exact absurd (by rw[Pn.AED];simp[proj,Pn.kids]) hne
  | succ lv =>
   rw[BD]at hne;obtain⟨⟨q1,q2,q3⟩,_⟩:=gF hne;have e8:=ZB (nL (p:=x) (lv:=8) (by rw[hW];exact g1)) q1;rw[e8,hW]at q3;exact zR.1 q3 _ (List.mem_map_of_mem hf)
 generalize fs.map (Ex.sub es)=zs at *
 have main:∀ r,aH C0 59 [.i (.iref (proj fs (proj es x)).cells), .i (.isl (aG ws))] []=r→r=if j=fs.length then some (.tup [.i (.agg (proj zs x).cells), .bool true],[])else some (.tup [.i (.agg Pn.zero.cells), .bool false],[]):=by
  intro r hr';subst hr';rw[aD rfl Tryz.func59 rfl rfl];simp only[kQ,Pn.aA x]at c2 ⊢;simp[c2];rw[aT (MPX fs es x ws W zs) j (by simp[MPX])]
  ·rw[aF]
   rcases k2 with ⟨hj,ha⟩|⟨f,q1,q2,q3,ha⟩
   ·have htk:zs.take fs.length=zs:=zZ (by omega);simp[MPX,hj,hfl,aL hfl,htk,hzl]
   ·have hj:j<fs.length:=(zY.1 q1).1;have hne:¬ j=fs.length:=by omega
    have r1:=Ex.aR q1;have hn:f.subst es W=none:=by cases h:f.subst es W with|none=>rfl|some _=>rw[h]at q3;simp at q3
    have c6:=c5 f;rw[hn]at c6;simp only[APQ,Option.getD,Option.isSome,Ex.aA f,aX]at c6 r1;by_cases h0:j=0
    ·subst h0;simp[MPX,hj,hne,r1,c6,aX]
    ·simp[MPX,hj,hne,r1,c6,h0,aL h0,dK h0,aX]
  ·intro i hi;obtain⟨hil,f,z,q1,r1,q4,q5⟩:=hround i hi;have c6:=c5 f;rw[q5]at c6;have htk:=aO q4;have w2:IntKind.i64.wrap ((i:Int)+1)=i+1:=wrO;simp only[APQ,Option.getD,Option.isSome,Ex.aA f,Ex.aA z]at c6 r1;by_cases h0:i=0
   ·subst h0;simp[MPX,hil,r1,c6,bB,htk,q4,Ex.aB,Ex.aA z]
   ·have hl1:(i+1)*56≤140737488355328:=by omega
    have hl2:i≤min i zs.length:=by omega
    simp[MPX,hil,r1,c6,w2,htk,q4,h0,aL h0,dK h0,Ex.bF,Ex.aA z,hl1,hl2,zF]
 have hm:=main _ rfl
 rcases k2 with ⟨hj,ha⟩|⟨f,q1,q2,q3,ha⟩
 ·rw[if_pos hj]at hm;exact .yes hm hr
 ·have hj:j<fs.length:=(zY.1 q1).1;rw[if_neg (by omega)]at hm;refine⟨.zero,false,hm,by simp,fun _ q' hq' lv=>?_⟩;rw[hr]at hq';injection hq' with hq';subst hq';by_cases hne:(proj zs x).wd ws lv=0
  ·exact hne
  ·have hok:=hq lv hne f q2;unfold Ex.subst at q3;rw[if_pos (by simp only[zU];exact⟨List.all_eq_true.1 h3 f q2,g3,hok⟩)]at q3;simp at q3
theorem AcE {ws:List Int} (hw:lZ ws=true) {p:Pn} (hp:p.wd ws 8≠0):kI 54 ws 6 p:=by
 by_cases hk:p.kind=4
 ·obtain⟨e,x,y,hx⟩:=iF (nL hp) (.inl hk);rw[hk]at hx;subst hx;exact AOI hw hp
 ·refine .no ?_ ?_
  ·rw[aD rfl Tryz.func54 rfl rfl];simp only[aX,Pn.aA p];simp[hk]
  ·unfold rwP;split
   ·unfold rwF;simp
   ·simp[hk]
theorem AYY {ws:List Int} (hw:lZ ws=true) {p:Pn} (hp:p.wd ws 8≠0):kI 59 ws 11 p:=by
 by_cases hk:p.kind=3
 ·obtain⟨fs,a,rfl⟩:=lX (nL hp) hk;by_cases hk2:a.kind=3
  ·obtain⟨V,hV,_⟩:=rH (nL hp);obtain⟨es,x,rfl⟩:=lX hV hk2;exact AIU hw hp
  ·refine .no ?_ (by simp[rwP,Pn.lI,proj,hk2]);rw[aD rfl Tryz.func59 rfl rfl];simp only[kQ,aX,Pn.aA a];simp[hk2]
 ·refine .no ?_ ?_
  ·rw[aD rfl Tryz.func59 rfl rfl];simp only[aX,Pn.aA p];simp[hk]
  ·unfold rwP;split
   ·unfold rwF;simp
   ·simp[hk]
end Go.Proofs.YtnmimmaahhlgeaaGreat.P
namespace Go.Av
theorem AC6 {ws:List Int} {r:Int} {lv:Nat} {p:Pn} (h:∀ q',rwP ws r p=some q'→∀ lv,q'.wd ws lv=0):rwL ws r lv p=none:=by
 unfold rwL
 cases hq:rwP ws r p with
 | none=>rfl
 | some q=>simp[h q hq lv]
theorem AOE {ws:List Int} {r:Int} {lv:Nat} {p q:Pn} (h:rwP ws r p=some q):rwL ws r lv p=if q.wd ws lv=0 then none else some q:=by
 unfold rwL;rw[h];by_cases hq:q.wd ws lv=0<;>simp[hq]
def AGF (o:Option Pn):Pn:=o.getD Pn.zero
end Go.Av
namespace Go.Proofs.YtnmimmaahhlgeaaGreat.P
open Go Go.Av
set_option maxRecDepth 4000
set_option maxHeartbeats 4000000
theorem RQ {ws:List Int} {p:Pn} {r:Int} {lv:Nat} (h:r<1∨11<r):aH C0 28 [.i (.iref p.cells), .i (.isl (aG ws)), .int r, .int lv] []=some (.tup [.i (.agg Pn.zero.cells), .bool false],[]):=by
 rw[aD rfl Tryz.func28 rfl rfl,aX]
 rcases h with h|h
 ·simp[h]
 ·simp[show ¬ r<1 by omega,show 12≤r by omega]
theorem GZ {ws:List Int} (hw:lZ ws=true) {p:Pn} (hp:p.wd ws 8≠0) (r:Int) {lv:Nat} (hl:lv≤8):aH C0 28 [.i (.iref p.cells), .i (.isl (aG ws)), .int r, .int lv] []=some (.tup [.i (.agg (AGF (rwL ws r lv p)).cells), .bool (rwL ws r lv p).isSome],[]):=by
 have hr:(r<1∨11<r)∨(r=1∧kI 49 ws 1 p)∨(r=2∧kI 50 ws 2 p)∨(r=3∧kI 51 ws 3 p)∨(r=4∧kI 52 ws 4 p)∨(r=5∧kI 53 ws 5 p)∨(r=6∧kI 54 ws 6 p)∨(r=7∧kI 55 ws 7 p)∨(r=8∧kI 56 ws 8 p)∨(r=9∧kI 57 ws 9 p)∨(r=10∧kI 58 ws 10 p)∨(r=11∧kI 59 ws 11 p):=by
  by_cases h:r<1∨11<r
  ·exact .inl h
  ·refine .inr ?_;have:r=1∨r=2∨r=3∨r=4∨r=5∨r=6∨r=7∨r=8∨r=9∨r=10∨r=11:=by omega
   rcases this with rfl|rfl|rfl|rfl|rfl|rfl|rfl|rfl|rfl|rfl|rfl
   ·exact(.inl ⟨rfl,AcJ (nL hp)⟩)
   ·exact(.inr (.inl ⟨rfl,AcI (nL hp)⟩))
   ·exact(.inr (.inr (.inl ⟨rfl,AcH hw hp⟩)))
   ·exact(.inr (.inr (.inr (.inl ⟨rfl,AcG hw hp⟩))))
   ·exact(.inr (.inr (.inr (.inr (.inl ⟨rfl,AcF (nL hp)⟩)))))
   ·exact(.inr (.inr (.inr (.inr (.inr (.inl ⟨rfl,AcE hw hp⟩))))))
   ·exact(.inr (.inr (.inr (.inr (.inr (.inr (.inl ⟨rfl,AcD hw hp⟩)))))))
   ·exact(.inr (.inr (.inr (.inr (.inr (.inr (.inr (.inl ⟨rfl,AcC (nL hp)⟩))))))))
   ·exact(.inr (.inr (.inr (.inr (.inr (.inr (.inr (.inr (.inl ⟨rfl,AcB (nL hp)⟩)))))))))
   ·exact(.inr (.inr (.inr (.inr (.inr (.inr (.inr (.inr (.inr (.inl ⟨rfl,AYZ hw hp⟩))))))))))
   ·exact(.inr (.inr (.inr (.inr (.inr (.inr (.inr (.inr (.inr (.inr (⟨rfl,AYY hw hp⟩)))))))))))
 rcases hr with h|⟨rfl,q,b,h1,h2,h3⟩|⟨rfl,q,b,h1,h2,h3⟩|⟨rfl,q,b,h1,h2,h3⟩|⟨rfl,q,b,h1,h2,h3⟩|⟨rfl,q,b,h1,h2,h3⟩|⟨rfl,q,b,h1,h2,h3⟩|⟨rfl,q,b,h1,h2,h3⟩|⟨rfl,q,b,h1,h2,h3⟩|⟨rfl,q,b,h1,h2,h3⟩|⟨rfl,q,b,h1,h2,h3⟩|⟨rfl,q,b,h1,h2,h3⟩
 ·rw[RQ h]
  have:rwL ws r lv p=none:=AC6 fun q' hq=>by
   have:=AC5 hq;simp[rules]at this;omega
  rw[this];rfl
 all_goals
  have h4:=CS (mG hw) q lv hl;rw[aD rfl Tryz.func28 rfl rfl]
  cases b with
  | false =>
   rw[AC6 (h3 rfl)];simp only[AGF,Option.getD,Option.isSome,aX,Pn.aA p,Pn.aA q]at h1 h4 ⊢;simp[h1]
  | true =>
   rw[AOE (h2 rfl)];by_cases hq:q.wd ws lv=0
   ·rw[hq]at h4;rw[if_pos hq];simp only[AGF,Option.getD,Option.isSome,aX,Pn.aA p,Pn.aA q]at h1 h4 ⊢;simp[h1,h4]
   ·rw[if_neg hq];simp only[AGF,Option.getD,Option.isSome,Pn.aA p,Pn.aA q]at h1 h4 ⊢;simp[h1,h4,hq]
end Go.Proofs.YtnmimmaahhlgeaaGreat.P
namespace Go.Av
def ATE (s:Stp):List IV:=[.int s.1, .isl (aG s.2)]
def mY (l:List Stp):List (List IV):=l.map ATE
@[simp] theorem ARD (l:List Stp):(mY l).length=l.length:=by simp[mY]
@[simp] theorem AEM (n:Nat) (l:List Stp):(mY l).take n=mY (l.take n):=by simp[mY,xE]
theorem AIF {l:List Stp} {i:Nat} {s:Stp} (h:l[i]?=some s):fH (mY l) i=some (ATE s):=by
 rw[dL];simp[mY,h]
theorem AHV {ws:List Int} {p:Pn} {lv:Nat} (h:p.wd ws lv≠0) (hk:p.kids≠[]):p.kids.length≤2∧lv≠0∧∀ a∈p.kids,a.wd ws (lv-1)≠0:=by
 rw[Pn.AA]at h;obtain⟨h1,h2⟩:=gF h;refine⟨Pn.ME h1.1,h1.2.resolve_left hk,?_⟩;split at h2
 ·rename_i hk1;exact absurd (Pn.tQ h1.1 hk1) hk
 ·obtain⟨h3,_⟩:=gF h2;exact fun a ha=>by simpa using zR.1 h3 a ha
theorem ATL (ws:List Int):∀ (p:Pn) (path:List Int),(stI ws path p).length≤11*p.size:=by
 intro p
 induction p using Pn.ind with
 | h k t es cs ks ih =>
  intro path
  have hL:∀ (l:List Pn) (i:Nat),(∀ a∈l,a∈ks)→(AO1 ws path i l).length≤11*Pn.cZ l:=by
   intro l
   induction l with
   | nil=>intro i _;simp[AO1,Pn.cZ]
   | cons a l ihl =>
    intro i hm;have h1:=ih a (hm a (by simp)) (path++[(i:Int)]);have h2:=ihl (i+1) fun x hx=>hm x (by simp[hx])
    simp only[AO1,Pn.cZ,zQ];omega
  have h1:=hL ks 0 fun a h=>h
  have h2:∀ f:Int→Bool,(rules.filter f).length≤11:=fun f=>by have:=yG f rules;simpa [rules]using this
  simp only[stI,Pn.size,zQ,y5];have:=h2 fun r=>(rwL ws r (8-path.length) (.mk k t es cs ks)).isSome
  omega
end Go.Av
namespace Go.Proofs.YtnmimmaahhlgeaaGreat.P
open Go Go.Av
set_option maxRecDepth 4000
set_option maxHeartbeats 4000000
structure Yl (R:Rng) (cs:List AV):Prop where
 ids:cs=[.own 1 0, .junk, .junk]
 y00:∀ r:Int,aH C0 uF [.fn (.yield 0) [.own 0 0], .agg [.int r, .nils]] [some (.loop R cs .ready),some (.box [.nils])]=some (.bool true,[some (.loop R cs .ready),some (.box [.osl 2 2 0 1]),some (.arr 2 [[.int r, .isl []]])])
 y01:∀ (r:Int) (path:List Int),path≠[]→aH C0 uF [.fn (.yield 0) [.own 0 0], .agg [.int r, .osl 2 1 0 path.length]] [some (.loop R cs .ready),some (.box [.nils]),some (.arr 1 (aG path))]=some (.bool true,[some (.loop R cs .ready),some (.box [.osl 3 2 0 1]),some (.frz 1 (aG path)),some (.arr 2 [[.int r, .isl (aG path)]])])
 y10:∀ (r:Int) (n:Nat) (l:List Stp),l.length=n→n≠0→n<1000000→aH C0 uF [.fn (.yield 0) [.own 0 0], .agg [.int r, .nils]] [some (.loop R cs .ready),some (.box [.osl 2 2 0 n]),some (.arr 2 (mY l))]=some (.bool true,[some (.loop R cs .ready),some (.box [.osl 3 2 0 (n+1)]),none,some (.arr 2 (mY l++[[.int r, .isl []]]))])
 y11:∀ (r:Int) (n:Nat) (l:List Stp) (path:List Int),path≠[]→l.length=n→n≠0→n<1000000→aH C0 uF [.fn (.yield 0) [.own 0 0], .agg [.int r, .osl 3 1 0 path.length]] [some (.loop R cs .ready),some (.box [.osl 2 2 0 n]),some (.arr 2 (mY l)),some (.arr 1 (aG path))]=some (.bool true,[some (.loop R cs .ready),some (.box [.osl 4 2 0 (n+1)]),none,some (.frz 1 (aG path)),some (.arr 2 (mY l++[[.int r, .isl (aG path)]]))])
set_option maxHeartbeats 8000000
end Go.Proofs.YtnmimmaahhlgeaaGreat.P
namespace Go.Av
theorem oJ {p:Pn} {ws:List Int} (h:p.width ws≠0):lZ ws=true∧p.wd ws 8≠0∧p.width ws=p.wd ws 8:=by
 unfold Pn.width at h ⊢;split at h
 ·rename_i hw;exact⟨hw,h,if_pos hw⟩
 ·exact absurd rfl h
def JZ (p:Pn) (ws:List Int):List Stp:=if p.width ws=0 then []else stI ws [] p
end Go.Av
namespace Go.Proofs.YtnmimmaahhlgeaaGreat.P
open Go Go.Av
set_option maxRecDepth 4000
set_option maxHeartbeats 8000000
end Go.Proofs.YtnmimmaahhlgeaaGreat.P
namespace Go.Av
theorem eH {ws:List Int}:∀ (p:Pn) (lv:Nat),p.wd ws lv≠0→p.thin:=by
 intro p
 induction p using Pn.ind with
 | h k t es cs ks ih =>
  intro lv h
  have hk:∀ a∈ks,a.thin:=fun a ha=>by
   have h2:=(AHV (p:=.mk k t es cs ks) h (by intro e;simp only[Pn.kids]at e;rw[e]at ha;simp at ha)).2.2 a ha;exact ih a ha _ h2
  have hs:=sP h;rw[Pn.bT];generalize hp:Pn.mk k t es cs ks=p at *
  have hks:ks=p.kids:=by rw[← hp];rfl
  subst hks;have ok1:∀ {w:Int} {e:Ex},e.ok w=true→e.thin:=fun h=>Ex.bP _ (by have:=Ex.jZ h;omega)
  cases hs with
  | scan=>simp[Pn.scan,Pn.exprs,Pn.cols,Pn.kids]
  | filt m e a _ _ he=>exact⟨by simp[filt,Pn.exprs],fun x hx=>by simp[filt,Pn.exprs]at hx;subst hx;exact ok1 he,by simp[filt,Pn.cols],by simp[filt,Pn.kids],hk⟩
  | proj m es a _ _ hl he=>exact⟨by simp[proj,Pn.exprs];unfold bG at hl;simp at hl;omega,fun x hx=>ok1 (he x hx),by simp[proj,Pn.cols],by simp[proj,Pn.kids],hk⟩
  | pair m kd e a b _ _ _ _ _ he=>exact⟨by simp[aY,Pn.exprs],fun x hx=>by simp[aY,Pn.exprs]at hx;subst hx;exact ok1 he,by simp[aY,Pn.cols],by simp[aY,Pn.kids],hk⟩
  | union m a b=>exact⟨by simp[cK,Pn.exprs],by simp[cK,Pn.exprs],by simp[cK,Pn.cols],by simp[cK,Pn.kids],hk⟩
  | dist m a=>exact⟨by simp[Pn.exprs],by simp[Pn.exprs],by simp[Pn.cols],by simp[Pn.kids],hk⟩
  | group m cs a _ _ hc=>exact⟨by simp[Pn.exprs],by simp[Pn.exprs],by simp only[Pn.cols];omega,by simp[Pn.kids],hk⟩
theorem YL (c:Int):(YM c).thin:=by simp[YM,Ex.thin,Ex.iA]
theorem tY (a:Int) (n:Nat):∀ b∈aS a n,b.thin:=by
 intro b hb;simp only[aS,zG]at hb;obtain⟨i,_,rfl⟩:=hb;exact YL _
theorem ABV {ws:List Int} {p:Pn} (h:p.wd ws 8≠0) (hk:p.kids≠[]):∀ a∈p.kids,a.wd ws 8≠0:=fun a ha=>by
 have h2:=(AHV h hk).2.2 a ha;rw[Pn.gZ a 7 8 h2 (by omega)];exact h2
end Go.Av
namespace Go.Proofs.YtnmimmaahhlgeaaGreat.P
open Go Go.Av
set_option maxRecDepth 4000
set_option maxHeartbeats 4000000
theorem K6 {ws:List Int} (hw:lZ ws=true) {p:Pn} (hp:p.thin):aH C0 45 [.i (.agg p.cells), .i (.isl (aG ws)), .int 8] []=some (.int (p.wd ws 8),[]):=by
 refine nW (mG hw) ?_ p (Pn.wP p hp) 8 (by omega);unfold lZ at hw;simp at hw;omega
theorem gL (e:Ex) (p:Pn):aH C0 130 [.i (.agg e.cells), .i (.agg p.cells)] []=some (.i (.agg (filt e p).cells),[]):=by
 rw[aD rfl Tryz.func130 rfl rfl,aW,Ex.aA,Pn.aA];simp
def CFX (a:Int) (n i:Nat):AS :=
 { env:=[(0, .int a),(1, .int n),(4, .nils),(5, .osl 0 5 0 i),(6, .int i),(10,jk i (.bool true))],st:=[some (.arr 5 (Ex.aB (aS a i)))] }
theorem qF (a:Int) (ha:0≤a∧a≤100) (n:Nat) (hn:n<1000):aH C0 126 [.int a, .int n] []=some (.osl 0 5 0 n,[some (.arr 5 (Ex.aB (aS a n)))]):=by
 rw[aD rfl Tryz.func126 rfl rfl];simp;rw[aT (CFX a n) n (by simp[CFX,aS,Ex.aB])]
 ·rw[aF];have h8:(aS a n).take n=aS a n:=zZ (by simp);simp[CFX,h8]
 ·intro i hi;have w2:IntKind.i64.wrap ((i:Int)+1)=i+1:=wrO;have w3:IntKind.i64.wrap (a+(i:Int))=a+i:=wrO;have h8:(aS a i).take i=aS a i:=zZ (by simp);simp[CFX,hi,w2,w3,h8,U0,Ex.bF,mJ,show(i+1)*56≤140737488355328 by omega]
def qB (ws:List Int) (r:Int) (e:Ex) (k:Pn):Prop:=aH C0 125 [.i (.agg (filt e k).cells), .int r, .i (.isl (aG ws))] []=some (.tup [.i (.agg ((rwF ws r e k).getD (filt e k)).cells), .bool (rwF ws r e k).isSome],[])
theorem ZU {ws:List Int} (hw:lZ ws=true) {e:Ex} {k:Pn} (hp:(filt e k).wd ws 8≠0) {r:Int} (hr:r≠1∧r≠2∧r≠3∧r≠4∧r≠5∧r≠7∧r≠8∧r≠10):qB ws r e k:=by
 obtain⟨h1,h2,h3⟩:=AJ hp;have c1:=K6 hw (eH k 8 h1);unfold qB;obtain⟨r1,r2,r3,r4,r5,r7,r8,r10⟩:=hr;have hn:rwF ws r e k=none:=by simp[rwF,r1,r2,r3,r4,r5,r7,r8,r10]
 rw[hn,aD rfl Tryz.func125 rfl rfl]
 cases hk:k.kids with
 | nil =>
  simp only[Option.getD,aW,Ex.aA e,Pn.aA k,hk,Pn.aB]at c1 ⊢;simp[c1,r1,r2,r3,r4,r5,r7,r8,r10]
 | cons x xs =>
  have c2:=K6 hw (eH x 8 (ABV h1 (by simp[hk]) x (by simp[hk])));simp only[Option.getD,aW,Ex.aA e,Pn.aA k,hk,Pn.aB,Pn.aA x]at c1 c2 ⊢;simp[c1,c2,r1,r2,r3,r4,r5,r7,r8,r10]
theorem qD {ws:List Int} (hw:lZ ws=true) {e:Ex} {k:Pn} (hp:(filt e k).wd ws 8≠0) {r:Int} (hr:(r=1∧k.kind≠2)∨(r=2∧e.kind≠8)∨(r=3∧¬ (k.kind=4∨k.kind=5))∨(r=4∧k.kind≠4)∨(r=5∧k.kind≠4)∨(r=7∧k.kind≠5)∨(r=8∧k.kind≠6)∨(r=10∧k.kind≠3)):qB ws r e k:=by
 obtain⟨h1,h2,h3⟩:=AJ hp;have c1:=K6 hw (eH k 8 h1);unfold qB
 have hn:rwF ws r e k=none:=by
  rcases hr with ⟨rfl,q⟩|⟨rfl,q⟩|⟨rfl,q⟩|⟨rfl,q⟩|⟨rfl,q⟩|⟨rfl,q⟩|⟨rfl,q⟩|⟨rfl,q⟩<;>simp[rwF,q]
 have hr':(r=1∧k.kind≠2)∨(r=2∧e.kind≠8)∨(r=3∧(k.kind≠4∧k.kind≠5))∨(r=4∧k.kind≠4)∨(r=5∧k.kind≠4)∨(r=7∧k.kind≠5)∨(r=8∧k.kind≠6)∨(r=10∧k.kind≠3):=by omega
 rw[hn,aD rfl Tryz.func125 rfl rfl]
 cases hk:k.kids with
 | nil =>
  simp only[Option.getD,aW,Ex.aA e,Pn.aA k,hk,Pn.aB]at c1 ⊢
  rcases hr' with ⟨rfl,q⟩|⟨rfl,q⟩|⟨rfl,q⟩|⟨rfl,q⟩|⟨rfl,q⟩|⟨rfl,q⟩|⟨rfl,q⟩|⟨rfl,q⟩<;>simp[c1,q]
 | cons x xs =>
  have c2:=K6 hw (eH x 8 (ABV h1 (by simp[hk]) x (by simp[hk])));simp only[Option.getD,aW,Ex.aA e,Pn.aA k,hk,Pn.aB,Pn.aA x]at c1 c2 ⊢
  rcases hr' with ⟨rfl,q⟩|⟨rfl,q⟩|⟨rfl,q⟩|⟨rfl,q⟩|⟨rfl,q⟩|⟨rfl,q⟩|⟨rfl,q⟩|⟨rfl,q⟩<;>simp[c1,c2,q]
theorem AYN {ws:List Int} (hw:lZ ws=true) {e e2:Ex} {a:Pn} (hp:(filt e (filt e2 a)).wd ws 8≠0):qB ws 1 e (filt e2 a):=by
 obtain⟨h1,h2,h3⟩:=AJ hp;have c1:=K6 hw (eH _ 8 h1);have c2:=K6 hw (eH _ 8 (AJ h1).1);have c3:=gL (R5 e2 e) a;have hr:rwF ws 1 e (filt e2 a)=some (filt (R5 e2 e) a):=by simp[rwF,filt,Pn.ex0,Pn.lI,Pn.kind,Pn.exprs,Pn.kids]
 unfold qB;rw[hr,aD rfl Tryz.func125 rfl rfl];generalize (filt e2 a).wd ws 8=W at *
 generalize a.wd ws 8=V at *
 simp only[Option.getD,Option.isSome,aW,sK,Ex.aA e,Ex.aA e2,Pn.aA a]at c1 c2 c3 ⊢;simp[c1,c2,c3]
theorem AYM {ws:List Int} (hw:lZ ws=true) {e x y:Ex} {k:Pn} (hp:(filt e k).wd ws 8≠0) (he:e.kind=8) (hk2:e.kids=[x,y]):qB ws 2 e k:=by
 obtain⟨h1,h2,h3⟩:=AJ hp;have c1:=K6 hw (eH k 8 h1);have c3:=gL x k;have c4:=gL y (filt x k);have hr:rwF ws 2 e k=some (filt y (filt x k)):=by simp[rwF,he,Ex.lI,Ex.uL,hk2]
 unfold qB;rw[hr,aD rfl Tryz.func125 rfl rfl]
 cases hk:k.kids with
 | nil =>
  simp only[Option.getD,Option.isSome,aW,Ex.aA e,hk2,Ex.aB,Ex.aA x,Ex.aA y,Pn.aA k,hk,Pn.aB]at c1 c3 c4 ⊢;simp[c1,c3,c4,he]
 | cons z zs =>
  have c2:=K6 hw (eH z 8 (ABV h1 (by simp[hk]) z (by simp[hk])));simp only[Option.getD,Option.isSome,aW,Ex.aA e,hk2,Ex.aB,Ex.aA x,Ex.aA y,Pn.aA k,hk,Pn.aB,Pn.aA z]at c1 c2 c3 c4 ⊢;simp[c1,c2,c3,c4,he]
theorem AYL {ws:List Int} (hw:lZ ws=true) {e e2:Ex} {x y:Pn} {kd:Int} (hkd:kd=4∨kd=5) (hp:(filt e (aY kd e2 x y)).wd ws 8≠0):qB ws 3 e (aY kd e2 x y):=by
 obtain⟨h1,h2,h3⟩:=AJ hp;obtain⟨g1,g2,g3,g4,g5⟩:=SG hkd h1;have c1:=K6 hw (eH _ 8 h1);have c2:=K6 hw (eH _ 8 g1);obtain⟨n,hn,n1,n2⟩:=CV hw g1;rw[hn]at c2;have c3:=gL e x;have c4:=UM e (Ex.qY h2).1 (by have:=Ex.jZ h2;omega) 0 n (by omega);have w1:IntKind.i64.wrap ((n:Int)-1)=n-1:=wrO
 have hr:rwF ws 3 e (aY kd e2 x y)=if e.cin 0 n=true then some (aY kd e2 (filt e x) y)else none:=by
  simp[rwF,aY,Pn.ex0,Pn.lI,Pn.uL,Pn.kind,Pn.exprs,Pn.kids,hkd,hn]
 unfold qB;rw[hr,aD rfl Tryz.func125 rfl rfl];generalize (aY kd e2 x y).wd ws 8=W at *
 cases hb:e.cin 0 n with
 | true =>
  rw[hb]at c4;simp only[if_true,Option.getD,Option.isSome,aW,pair_cells,Ex.aA e,Ex.aA e2,Pn.aA x,Pn.aA y]at c1 c2 c3 c4 ⊢
  rcases hkd with rfl|rfl<;>simp[c1,c2,c3,c4,w1]
 | false =>
  rw[hb]at c4;simp only[z8,if_false,Option.getD,Option.isSome,aW,pair_cells,Ex.aA e,Ex.aA e2,Pn.aA x,Pn.aA y]at c1 c2 c3 c4 ⊢
  rcases hkd with rfl|rfl<;>simp[c1,c2,c4,w1]
theorem AYK {ws:List Int} (hw:lZ ws=true) {e e2:Ex} {x y:Pn} (hp:(filt e (aY 4 e2 x y)).wd ws 8≠0):qB ws 4 e (aY 4 e2 x y):=by
 obtain⟨h1,h2,h3⟩:=AJ hp;obtain⟨g1,g2,g3,g4,g5⟩:=SG (.inl rfl) h1;have c1:=K6 hw (eH _ 8 h1);have c2:=K6 hw (eH _ 8 g1);obtain⟨n,hn,n1,n2⟩:=CV hw g1;obtain⟨m,hm,m1,m2⟩:=CV hw g2;have hwf:=(Ex.qY h2).1;rw[g5,hn,hm,← Int.natCast_add]at hwf;have g5':=g5;rw[hn,hm,← Int.natCast_add]at g5';rw[g5']at c1;rw[hn]at c2;have c4:=UM e hwf (by have:=Ex.jZ h2;omega) n (n+m:Nat) (by omega);have w1:IntKind.i64.wrap ((n:Int)+m-1)=n+m-1:=wrO;have w2:IntKind.i64.wrap ((n:Int)+m-n)=m:=by rw[wrO];omega
 have hr:rwF ws 4 e (aY 4 e2 x y)=if e.cin n (n+m:Nat)=true then some (aY 4 e2 x (filt (e.rJ (·-n)) y))else none:=by
  have:=g5';unfold aY at this;simp[rwF,aY,Pn.ex0,Pn.lI,Pn.uL,Pn.kind,Pn.exprs,Pn.kids,hn,this]
 have f1:=qF 0 (by omega) n (by omega);have f2:=qF 0 (by omega) m (by omega);have hlen:(aS 0 n++aS 0 m).length=n+m:=by simp
 have f3:=nV (aS 0 n++aS 0 m) (fun b hb=>by
  rcases zT.1 hb with h|h<;>exact tY _ _ b h) e (Ex.bP _ (by have:=Ex.jZ h2;omega)) (by rw[hlen];exact Ex.J4 e hwf)
 unfold qB;rw[hr,aD rfl Tryz.func125 rfl rfl]
 cases hb:e.cin n (n+m:Nat)with
 | true =>
  have hsub:e.sub (aS 0 n++aS 0 m)=e.rJ (·-n):=Ex.AC0 (g:=fun c=>decide ((n:Int)≤c∧c<(n+m:Nat))) (fun c hc=>by
   simp only[zS]at hc;rw[zN (by simp;omega),lS,qQ (by omega)]
   congr 2;omega) e hb
  rw[hsub]at f3;have c3:=gL (e.rJ (·-n)) y;generalize e.rJ (·-(n:Int))=z at *
  rw[hb]at c4;have ht:∀ k:Nat,(aS 0 k).take k=aS 0 k:=fun k=>zZ (by simp)
  have ht2:(Ex.aB (aS 0 n)++Ex.aB (aS 0 m)).take (n+m)=Ex.aB (aS 0 n)++Ex.aB (aS 0 m):=zZ (by simp);have hl1:(n+m)*56≤140737488355328:=by omega
  simp only[y7]at c1 c4;simp only[if_true,Option.getD,Option.isSome,aW,pair_cells,Ex.aA e,Ex.aA e2,Ex.aA z,Pn.aA x,Pn.aA y,Ex.jS]at c1 c2 c3 c4 f3 ⊢;simp[c1,c2,c3,c4,w1,w2,f1,f2,f3,ht,ht2,hl1]
 | false =>
  rw[hb]at c4;simp only[y7]at c1 c4;simp only[z8,if_false,Option.getD,Option.isSome,aW,pair_cells,Ex.aA e,Ex.aA e2,Pn.aA x,Pn.aA y]at c1 c2 c4 ⊢;simp[c1,c2,c4,w1]
theorem AYJ {ws:List Int} (hw:lZ ws=true) {e e2:Ex} {x y:Pn} (hp:(filt e (aY 4 e2 x y)).wd ws 8≠0):qB ws 5 e (aY 4 e2 x y):=by
 obtain⟨h1,h2,h3⟩:=AJ hp;obtain⟨g1,g2,g3,g4,g5⟩:=SG (.inl rfl) h1;have c1:=K6 hw (eH _ 8 h1);have c2:=K6 hw (eH _ 8 g1)
 have hr:rwF ws 5 e (aY 4 e2 x y)=some (aY 4 (R5 e2 e) x y):=by
  simp[rwF,aY,Pn.ex0,Pn.lI,Pn.uL,Pn.kind,Pn.exprs,Pn.kids]
 unfold qB;rw[hr,aD rfl Tryz.func125 rfl rfl];generalize (aY 4 e2 x y).wd ws 8=W at *
 generalize x.wd ws 8=V at *
 simp only[Option.getD,Option.isSome,aW,pair_cells,sK,Ex.aA e,Ex.aA e2,Pn.aA x,Pn.aA y]at c1 c2 ⊢;simp[c1,c2]
theorem AYI {ws:List Int} (hw:lZ ws=true) {e e2:Ex} {x y:Pn} (hp:(filt e (aY 5 e2 x y)).wd ws 8≠0):qB ws 7 e (aY 5 e2 x y):=by
 obtain⟨h1,h2,h3⟩:=AJ hp;obtain⟨g1,g2,g3,g4,g5⟩:=SG (.inr rfl) h1;have c1:=K6 hw (eH _ 8 h1);have c2:=K6 hw (eH _ 8 g1);obtain⟨n,hn,n1,n2⟩:=CV hw g1;obtain⟨m,hm,m1,m2⟩:=CV hw g2;have hwf:=(Ex.qY h2).1;rw[g5,hn,hm,← Int.natCast_add]at hwf;have g5':=g5;rw[hn,hm,← Int.natCast_add]at g5';rw[g5']at c1;rw[hn]at c2;have c3:=gL e (aY 4 e2 x y);have f1:=TZ (n:=n+m) (p:=n) (m:=m) rfl (by omega);have f2:=ZW e (n:=n+m) (p:=n) (m:=m) rfl (by omega) hwf
 have hr:rwF ws 7 e (aY 5 e2 x y)=if ACC e (n+m:Nat) n=true then some (filt e (aY 4 e2 x y))else none:=by
  have:=g5';unfold aY at this;simp[rwF,aY,Pn.ex0,Pn.lI,Pn.uL,Pn.kind,Pn.exprs,Pn.kids,hn,this]
 unfold qB;rw[hr,aD rfl Tryz.func125 rfl rfl];simp only[y7]at c1 f1 f2
 cases hb:ACC e (n+m:Nat) n with
 | true =>
  rw[show ACC e ((n:Int)+m) n=true by rw[← Int.natCast_add];exact hb]at f2;simp only[if_true,Option.getD,Option.isSome,aW,pair_cells,Ex.aA e,Ex.aA e2,Pn.aA x,Pn.aA y]at c1 c2 c3 f2 ⊢;simp[c1,c2,c3,f1,f2]
 | false =>
  rw[show ACC e ((n:Int)+m) n=false by rw[← Int.natCast_add];exact hb]at f2;simp only[z8,if_false,Option.getD,Option.isSome,aW,pair_cells,Ex.aA e,Ex.aA e2,Pn.aA x,Pn.aA y]at c1 c2 f2 ⊢;simp[c1,c2,f1,f2]
theorem AYH {ws:List Int} (hw:lZ ws=true) {e:Ex} {x y:Pn} (hp:(filt e (cK x y)).wd ws 8≠0):qB ws 8 e (cK x y):=by
 obtain⟨h1,h2,h3⟩:=AJ hp;have c1:=K6 hw (eH _ 8 h1);have c2:=K6 hw (eH x 8 (ABV h1 (by simp[cK,Pn.kids]) x (by simp[cK,Pn.kids])));have c3:=gL e x;have c4:=gL e y
 have hr:rwF ws 8 e (cK x y)=some (cK (filt e x) (filt e y)):=by
  simp[rwF,cK,Pn.ex0,Pn.lI,Pn.uL,Pn.kind,Pn.exprs,Pn.kids]
 unfold qB;rw[hr,aD rfl Tryz.func125 rfl rfl];generalize (cK x y).wd ws 8=W at *
 generalize x.wd ws 8=V at *
 simp only[Option.getD,Option.isSome,aW,JR,Ex.aA e,Pn.aA x,Pn.aA y]at c1 c2 c3 c4 ⊢;simp[c1,c2,c3,c4]
theorem ATT {ws:List Int} (hw:lZ ws=true) {e:Ex} {es:List Ex} {x:Pn} (hp:(filt e (proj es x)).wd ws 8≠0):qB ws 10 e (proj es x):=by
 obtain⟨h1,h2,h3⟩:=AJ hp;obtain⟨g1,g2,g3,g4⟩:=AFI h1;have c1:=K6 hw (eH _ 8 h1);have c2:=K6 hw (eH _ 8 g1);rw[g4]at h2;have c3:=gL (e.sub es) x;have f3:=nV es (fun b hb=>Ex.bP _ (by have:=Ex.jZ (zR.1 g3 b hb);omega)) e (Ex.bP _ (by have:=Ex.jZ h2;omega)) (Ex.J4 e (Ex.qY h2).1)
 have hr:rwF ws 10 e (proj es x)=some (proj es (filt (e.sub es) x)):=by
  simp[rwF,proj,Pn.ex0,Pn.lI,Pn.uL,Pn.kind,Pn.exprs,Pn.kids]
 unfold qB;rw[hr,aD rfl Tryz.func125 rfl rfl];generalize (proj es x).wd ws 8=W at *
 generalize x.wd ws 8=V at *
 generalize e.sub es=z at *
 simp only[Option.getD,Option.isSome,aW,kQ,Ex.aA e,Ex.aA z,Pn.aA x]at c1 c2 c3 f3 ⊢;simp[c1,c2,c3,f3]
theorem AO4 {ws:List Int} (hw:lZ ws=true) {e:Ex} {k:Pn} (hp:(filt e k).wd ws 8≠0) (r:Int):qB ws r e k:=by
 obtain⟨h1,h2,h3⟩:=AJ hp;by_cases hr:r≠1∧r≠2∧r≠3∧r≠4∧r≠5∧r≠7∧r≠8∧r≠10
 ·exact ZU hw hp hr
 have hk:=nL h1;have hr':r=1∨r=2∨r=3∨r=4∨r=5∨r=7∨r=8∨r=10:=by omega
 rcases hr' with rfl|rfl|rfl|rfl|rfl|rfl|rfl|rfl
 ·by_cases q:k.kind=2
  ·obtain⟨e2,a,rfl⟩:=pU hk q;exact AYN hw hp
  ·exact qD hw hp (.inl ⟨rfl,q⟩)
 ·by_cases q:e.kind=8
  ·rcases Ex.CU (Ex.qY h2).1 with ⟨h,_⟩|⟨h,_⟩|⟨h,_⟩|⟨_,x,y,h,_⟩
   ·omega
   ·omega
   ·omega
   ·exact AYM hw hp q h
  ·exact qD hw hp (.inr (.inl ⟨rfl,q⟩))
 ·by_cases q:k.kind=4∨k.kind=5
  ·obtain⟨e2,x,y,hx⟩:=iF hk q;generalize k.kind=kd at *
   subst hx;exact AYL hw q hp
  ·exact qD hw hp (.inr (.inr (.inl ⟨rfl,q⟩)))
 ·by_cases q:k.kind=4
  ·obtain⟨e2,x,y,hx⟩:=iF hk (.inl q);rw[q]at hx;subst hx;exact AYK hw hp
  ·exact qD hw hp (.inr (.inr (.inr (.inl ⟨rfl,q⟩))))
 ·by_cases q:k.kind=4
  ·obtain⟨e2,x,y,hx⟩:=iF hk (.inl q);rw[q]at hx;subst hx;exact AYJ hw hp
  ·exact qD hw hp (.inr (.inr (.inr (.inr (.inl ⟨rfl,q⟩)))))
 ·by_cases q:k.kind=5
  ·obtain⟨e2,x,y,hx⟩:=iF hk (.inr q);rw[q]at hx;subst hx;exact AYI hw hp
  ·exact qD hw hp (.inr (.inr (.inr (.inr (.inr (.inl ⟨rfl,q⟩))))))
 ·by_cases q:k.kind=6
  ·obtain⟨x,y,rfl⟩:=AE6 hk q;exact AYH hw hp
  ·exact qD hw hp (.inr (.inr (.inr (.inr (.inr (.inr (.inl ⟨rfl,q⟩)))))))
 ·by_cases q:k.kind=3
  ·obtain⟨es,x,rfl⟩:=lX hk q;exact ATT hw hp
  ·exact qD hw hp (.inr (.inr (.inr (.inr (.inr (.inr (.inr ⟨rfl,q⟩)))))))
def SRw (ws:List Int) (r:Int) (p:Pn):Prop:=aH C0 77 [.i (.agg p.cells), .int r, .i (.isl (aG ws))] []=some (.tup [.i (.agg ((rwP ws r p).getD p).cells), .bool (rwP ws r p).isSome],[])
theorem AO3 {ws:List Int} (hw:lZ ws=true) {e:Ex} {k:Pn} (hp:(filt e k).wd ws 8≠0) (r:Int):SRw ws r (filt e k):=by
 have h:=AO4 hw hp r;unfold qB at h;unfold SRw;rw[gM];generalize (rwF ws r e k).getD (filt e k)=q at *
 generalize (rwF ws r e k).isSome=b at *
 rw[aD rfl Tryz.func77 rfl rfl];simp only[aW,Pn.aA q]at h ⊢;simp[h]
theorem AYF {ws:List Int} {p:Pn} {r:Int} (h2:p.kind≠2) (h4:¬ (r=6∧p.kind=4)) (h7:¬ (r=9∧p.kind=7)) (h3:¬ (r=11∧p.kind=3)):SRw ws r p:=by
 have hn:rwP ws r p=none:=by
  unfold rwP;rw[if_neg h2,if_neg h4,if_neg (fun h=>h7 ⟨h.1,h.2.1⟩),if_neg (fun h=>h3 ⟨h.1,h.2.1⟩)]
 unfold SRw;rw[hn,aD rfl Tryz.func77 rfl rfl];simp only[Option.getD,Option.isSome,Pn.aA p];by_cases r6:r=6
 ·have k4:¬ p.kind=4:=fun h=>h4 ⟨r6,h⟩
  simp[h2,r6,k4]
 ·by_cases r9:r=9
  ·have k7:¬ p.kind=7:=fun h=>h7 ⟨r9,h⟩
   simp[h2,r9,k7]
  ·by_cases r11:r=11
   ·have k3:¬ p.kind=3:=fun h=>h3 ⟨r11,h⟩
    simp[h2,r11,k3]
   ·simp[h2,r6,r9,r11]
theorem ATS {ws:List Int} (hw:lZ ws=true) {e:Ex} {x y:Pn} (hp:(aY 4 e x y).wd ws 8≠0):SRw ws 6 (aY 4 e x y):=by
 obtain⟨g1,g2,g3,g4,g5⟩:=SG (.inl rfl) hp;have c1:=K6 hw (eH _ 8 g1);have c2:=K6 hw (eH _ 8 g2);obtain⟨n,hn,n1,n2⟩:=CV hw g1;obtain⟨m,hm,m1,m2⟩:=CV hw g2;have hwf:=(Ex.qY g4).1;rw[hn]at c1 hwf;rw[hm]at c2 hwf;have f1:=qF m (by omega) n (by omega);have f2:=qF 0 (by omega) m (by omega);have hlen:(aS (m:Int) n++aS 0 m).length=n+m:=by simp
 have f3:=nV (aS (m:Int) n++aS 0 m) (fun b hb=>by
  rcases zT.1 hb with h|h<;>exact tY _ _ b h) e (Ex.bP _ (by have:=Ex.jZ g4;omega)) (by rw[hlen,y7];exact Ex.J4 e hwf)
 have hsub:e.sub (aS (m:Int) n++aS 0 m)=e.rJ (nN n m):=Ex.AC0 (g:=fun c=>decide (0≤c∧c<(n:Int)+m)) (fun c hc=>by
  simp only[zS]at hc;rw[ADQ (by omega)]
  congr 3;omega) e (Ex.JJ e hwf)
 rw[hsub]at f3
 have hr:rwP ws 6 (aY 4 e x y)=some (proj (aS m n++aS 0 m) (aY 4 (e.rJ (nN n m)) y x)):=by
  simp[rwP,aY,Pn.ex0,Pn.lI,Pn.uL,Pn.kind,Pn.exprs,Pn.kids,hn,hm]
 unfold SRw;rw[hr,aD rfl Tryz.func77 rfl rfl];generalize e.rJ (nN n m)=z at *
 have ht:∀ (a:Int) (k:Nat),(aS a k).take k=aS a k:=fun a k=>zZ (by simp)
 have ht2:(Ex.aB (aS m n)++Ex.aB (aS 0 m)).take (n+m)=Ex.aB (aS m n)++Ex.aB (aS 0 m):=zZ (by simp);have hl1:(n+m)*56≤140737488355328:=by omega
 simp only[Option.getD,Option.isSome,kQ,pair_cells,Ex.aA e,Ex.aA z,Pn.aA x,Pn.aA y,Ex.jS]at c1 c2 f3 ⊢;simp[c1,c2,f1,f2,f3,ht,ht2,hl1]
theorem AO2 {ws:List Int} {a:Pn}:SRw ws 9 (.mk 7 0 [] [] [a]):=by
 have hc:(Pn.mk 7 0 [] [] [a]).cells=[.int 7, .int 0, .isl [], .isl [], .isl [a.cells]]:=by simp[Pn.cells,Ex.aB,aG,Pn.aB]
 unfold SRw;rw[aD rfl Tryz.func77 rfl rfl];by_cases h:a.kind=7∨a.kind=8
 ·have hr:rwP ws 9 (.mk 7 0 [] [] [a])=some a:=by simp[rwP,Pn.lI,Pn.kids,h]
  rw[hr];simp only[Option.getD,Option.isSome,hc,Pn.aA a]
  rcases h with h|h<;>simp[h]
 ·have hr:rwP ws 9 (.mk 7 0 [] [] [a])=none:=by simp[rwP,Pn.lI,Pn.kids,h]
  rw[hr];simp only[Option.getD,Option.isSome,hc,Pn.aA a];have h7:¬ a.kind=7:=by omega
  have h8:¬ a.kind=8:=by omega
  simp[h7,h8]
theorem RH {ws:List Int} {fs:List Ex} {a:Pn} (h:a.kind≠3):SRw ws 11 (proj fs a):=by
 have hr:rwP ws 11 (proj fs a)=none:=by simp[rwP,Pn.lI,Pn.kids,proj,h]
 unfold SRw;rw[hr,aD rfl Tryz.func77 rfl rfl];simp only[Option.getD,Option.isSome,kQ,Pn.aA a];simp[h]
def SRX (fs es:List Ex) (x:Pn) (ws:List Int) (zs:List Ex) (i:Nat):AS :=
 { env:=[(0, .i (.agg [.int 3, .int 0, .isl (Ex.aB fs), .isl [], .isl [[.int 3, .int 0, .isl (Ex.aB es), .isl [], .isl [[.int x.kind, .int x.table, .isl (Ex.aB x.exprs), .isl (aG x.cols), .isl (Pn.aB x.kids)]]]]])),(1, .int 11),(2, .i (.isl (aG ws))),(3, .own 0 0),(6, .own 1 0),(7, .bool false),(8, .junk),(9, .junk),(10, .junk),(11, .junk),(12, .osl 2 5 0 i),(13, .int i),(14, .bool false),(24, .bool false),(71, .bool false),(99, .bool true),(120,jk i (.bool true))],
   st:=[some (.box [.i (.int 3), .i (.int 0), .i (.isl (Ex.aB fs)), .i (.isl []), .i (.isl [[.int 3, .int 0, .isl (Ex.aB es), .isl [], .isl [[.int x.kind, .int x.table, .isl (Ex.aB x.exprs), .isl (aG x.cols), .isl (Pn.aB x.kids)]]]])]),some (.box [.int 0, .int 0, .nils, .nils, .nils]),some (.arr 5 (Ex.aB (zs.take i)))] }
theorem AEX {ws:List Int} {fs es:List Ex} {x:Pn} (hp:(proj fs (proj es x)).wd ws 8≠0):SRw ws 11 (proj fs (proj es x)):=by
 obtain⟨h1,h2,h3,h4⟩:=AFI hp;obtain⟨g1,g2,g3,g4⟩:=AFI h1;rw[g4]at h3;have f3:=fun f (hf:f∈fs)=>nV es (fun b hb=>Ex.bP _ (by have:=Ex.jZ (zR.1 g3 b hb);omega)) f (Ex.bP _ (by have:=Ex.jZ (zR.1 h3 f hf);omega)) (Ex.J4 f (Ex.qY (zR.1 h3 f hf)).1)
 have hr:rwP ws 11 (proj fs (proj es x))=some (proj (fs.map (Ex.sub es)) x):=by
  simp[rwP,proj,Pn.ex0,Pn.lI,Pn.uL,Pn.kind,Pn.exprs,Pn.kids]
 unfold SRw;rw[hr,aD rfl Tryz.func77 rfl rfl];have hlen:fs.length≤6:=by unfold bG at h2;simp at h2;omega
 have hz:∀ (i:Nat) (f:Ex),fs[i]?=some f→(fs.map (Ex.sub es))[i]?=some (f.sub es):=fun i f h=>by simp[h]
 have hzl:(fs.map (Ex.sub es)).length=fs.length:=by simp
 generalize fs.map (Ex.sub es)=zs at *
 simp only[Option.getD,Option.isSome,kQ,Pn.aA x];simp;rw[aT (SRX fs es x ws zs) fs.length (by simp[SRX,Ex.aB])]
 ·rw[aF];have ht:zs.take fs.length=zs:=zZ (by omega);simp[SRX,ht,hzl]
 ·intro i hi;have q1:=zX hi;have hm:=zV q1;have r1:=Ex.aR q1;generalize fs[i]=f at q1 hm r1;have q2:=hz i f q1;have c5:=f3 f hm;generalize f.sub es=z at q2 c5;have htk:=aO q2;have w2:IntKind.i64.wrap ((i:Int)+1)=i+1:=wrO;have hl1:(i+1)*56≤140737488355328:=by omega
  have hl2:i≤min i zs.length:=by omega
  simp only[Ex.aA f,Ex.aA z]at c5 r1;simp[SRX,hi,r1,c5,w2,htk,Ex.bF,Ex.aA z,hl1,hl2,zF]
theorem AYG {ws:List Int} (hw:lZ ws=true) {p:Pn} (hp:p.wd ws 8≠0) (r:Int):SRw ws r p:=by
 have hk:=nL hp;by_cases k2:p.kind=2
 ·obtain⟨e,a,rfl⟩:=pU hk k2;exact AO3 hw hp r
 by_cases k4:r=6∧p.kind=4
 ·obtain⟨rfl,k4⟩:=k4;obtain⟨e,x,y,hx⟩:=iF hk (.inl k4);rw[k4]at hx;subst hx;exact ATS hw hp
 by_cases k7:r=9∧p.kind=7
 ·obtain⟨rfl,k7⟩:=k7;obtain⟨a,rfl⟩:=AE8 hk k7;exact AO2
 by_cases k3:r=11∧p.kind=3
 ·obtain⟨rfl,k3⟩:=k3;obtain⟨fs,a,rfl⟩:=lX hk k3;by_cases k33:a.kind=3
  ·obtain⟨V,hV,_⟩:=rH hk;obtain⟨es,x,rfl⟩:=lX hV k33;exact AEX hp
  ·exact RH k33
 exact AYF k2 k4 k7 k3
end Go.Proofs.YtnmimmaahhlgeaaGreat.P
namespace Go.Av
theorem AWK {path:List Int} {p a:Pn} {x:Int} (h:Pn.at path p=some a):Pn.at (path++[x]) p=if 0≤x then a.kids[x.toNat]? else none:=by
 rw[wI path p a [x] h];unfold Pn.at;split
 ·cases a.kids[x.toNat]?<;>simp[Pn.at]
 ·rfl
theorem AWL {path r:List Int} {p:Pn} (h:Pn.at path p=none):Pn.at (path++r) p=none:=by
 induction path generalizing p with
 | nil=>simp[Pn.at]at h
 | cons i path ih =>
  simp only[yR,Pn.at]at h ⊢;split
  ·rename_i h0;rw[if_pos h0]at h
   cases hk:p.kids[i.toNat]? with
   | none=>rfl
   | some b=>rw[hk]at h;exact ih h
  ·rfl
theorem AMK (path:List Int) (p:Pn):∃ j:Nat,(∀ i,i<j→∃ (x:Int) (a b:Pn),path[i]?=some x∧Pn.at (path.take i) p=some a∧0≤x∧a.kids[x.toNat]?=some b∧Pn.at (path.take (i+1)) p=some b)∧((∃ a,j=path.length∧Pn.at path p=some a)∨(∃ (x:Int) (a:Pn),path[j]?=some x∧Pn.at (path.take j) p=some a∧(0≤x→a.kids[x.toNat]?=none)∧Pn.at path p=none)):=by
 generalize hn:path.length=n
 induction n generalizing path with
 | zero =>
  obtain rfl:=zW.1 hn;exact⟨0,fun i hi=>by omega, .inl ⟨p,rfl,rfl⟩⟩
 | succ n ih =>
  obtain⟨l,x,rfl⟩:∃ l x,path=l++[x]:=by
   rcases zB7 path with h|⟨l,x,h⟩
   ·rw[h]at hn;simp at hn
   ·exact⟨l,x,by simpa using h⟩
  have hln:l.length=n:=by simpa using hn
  subst hln;obtain⟨j,h1,h2⟩:=ih l rfl
  have hlt:∀ i,i<j→i<l.length:=fun i hi=>by
   obtain⟨y,_,_,h,_⟩:=h1 i hi;exact(zY.1 h).1
  have h1':∀ i,i<j→∃ (x':Int) (a b:Pn),(l++[x])[i]?=some x'∧Pn.at ((l++[x]).take i) p=some a∧0≤x'∧a.kids[x'.toNat]?=some b∧Pn.at ((l++[x]).take (i+1)) p=some b:=fun i hi=>by
   obtain⟨y,a,b,q1,q2,q3,q4,q5⟩:=h1 i hi;have hl:=hlt i hi;refine⟨y,a,b,by rw[zL hl];exact q1,by rw[zA6 (by omega)];exact q2,q3,q4,by rw[zA6 (by omega)];exact q5⟩
  rcases h2 with ⟨a,rfl,ha⟩|⟨y,a,q1,q2,q3,q4⟩
  ·have hs:=AWK (x:=x) ha;by_cases hx:0≤x
   ·rw[if_pos hx]at hs
    cases hk:a.kids[x.toNat]? with
    | none=>exact⟨l.length,h1', .inr ⟨x,a,by simp,by simpa using ha,fun _=>hk,by rw[hs,hk]⟩⟩
    | some b =>
     refine⟨l.length+1,fun i hi=>?_, .inl ⟨b,by simp,by rw[hs,hk]⟩⟩;by_cases hi':i<l.length
     ·exact h1' i hi'
     ·obtain rfl:i=l.length:=by omega
      exact⟨x,a,b,by simp,by simpa using ha,hx,hk,by rw[zZ (by simp),hs,hk]⟩
   ·rw[if_neg hx]at hs;exact⟨l.length,h1', .inr ⟨x,a,by simp,by simpa using ha,fun h=>absurd h hx,hs⟩⟩
  ·have hl:=(zY.1 q1).1;exact⟨j,h1', .inr ⟨y,a,by rw[zL hl];exact q1,by rw[zA6 (by omega)];exact q2,q3,AWL q4⟩⟩
theorem ABM:∀ (path:List Int) (p a:Pn),p.thin→Pn.at path p=some a→a.thin
 | [],p,a,h,e=>by simp[Pn.at]at e;subst e;exact h
 | i::r,p,a,h,e=>by
  obtain⟨n,rfl,b,hb,hr⟩:=Pn.pQ e;exact ABM r b a (((Pn.bT p).1 h).2.2.2.2 b (zV hb)) hr
theorem Pn.wY (l:List Pn) (n:Nat) (x:Pn):(Pn.aB l).set n x.cells=Pn.aB (l.set n x):=by
 induction l generalizing n with
 | nil=>simp[Pn.aB]
 | cons a l ih=>cases n with
  | zero=>simp[Pn.aB]
  | succ n=>simp[Pn.aB,ih n]
end Go.Av
namespace Go.Proofs.YtnmimmaahhlgeaaGreat.P
open Go Go.Av
set_option maxRecDepth 4000
set_option maxHeartbeats 4000000
def EU (a:Pn):Option Blk:=some (.box [.i (.int a.kind), .i (.int a.table), .i (.isl (Ex.aB a.exprs)), .i (.isl (aG a.cols)), .i (.isl (Pn.aB a.kids))])
def PAX (p:Pn) (path:List Int) (a:Pn) (i:Nat):AS :=
 { env:=[(0, .i (.agg [.int p.kind, .int p.table, .isl (Ex.aB p.exprs), .isl (aG p.cols), .isl (Pn.aB p.kids)])),(1, .i (.isl (aG path))),(2, .own 0 0),(4, .own 1 0),(5, .bool false),(6, .int i),(10,jk i (.bool true)),(22,jk i (.bool false))],
   st:=[EU a,some (.box [.int 0, .int 0, .nils, .nils, .nils])] }
theorem AJV {p:Pn} (hp:p.thin) {path:List Int} (hl:path.length<1000000):aH C0 76 [.i (.agg p.cells), .i (.isl (aG path))] []=some (.tup [.i (.agg ((Pn.at path p).getD Pn.zero).cells), .bool (Pn.at path p).isSome],[]):=by
 obtain⟨j,h1,h2⟩:=AMK path p;rw[aD rfl Tryz.func76 rfl rfl];simp only[Pn.aA p];simp;rw[aT (fun i=>PAX p path ((Pn.at (path.take i) p).getD Pn.zero) i) j (by simp[PAX,Pn.at,EU])]
 ·rw[aF]
  rcases h2 with ⟨a,rfl,ha⟩|⟨x,a,q1,q2,q3,q4⟩
  ·simp[PAX,EU,ha,Pn.aA a]
  ·have r1:=bL q1;have hj:=(zY.1 q1).1;have ha:=ABM _ _ _ hp q2;have hka:=((Pn.bT a).1 ha).2.2.2.1;have w1:IntKind.i64.wrap ((a.kids.length:Int)-1)=a.kids.length-1:=wrO
   have hin:(decide (0≤x∧x≤(a.kids.length:Int)-1))=false:=by
    rw[zA8];rintro⟨g1,g2⟩;have:=zC3.1 (q3 g1);omega
   have hir:=QC x 0 ((a.kids.length:Int)-1);rw[hin]at hir;simp[PAX,EU,q2,q4,hj,r1,w1,hir,aX]
 ·intro i hi;obtain⟨x,a,b,q1,q2,q3,q4,q5⟩:=h1 i hi;have r1:=bL q1;have hj:=(zY.1 q1).1;have ha:=ABM _ _ _ hp q2;have hka:=((Pn.bT a).1 ha).2.2.2.1;have hxl:=(zY.1 q4).1;have r4:=Pn.aR q4;have w1:IntKind.i64.wrap ((a.kids.length:Int)-1)=a.kids.length-1:=wrO;have w2:IntKind.i64.wrap ((i:Int)+1)=i+1:=wrO;have hin:(decide (0≤x∧x≤(a.kids.length:Int)-1))=true:=by rw[zS];omega
  have hir:=QC x 0 ((a.kids.length:Int)-1);rw[hin]at hir;rw[Pn.aA b]at r4;simp[PAX,EU,q2,q5,hj,r1,w1,w2,hir,q3,show x<a.kids.length by omega,r4]
end Go.Proofs.YtnmimmaahhlgeaaGreat.P
namespace Go.Av
theorem lM {e:Ex} {a:Pn} (he:e.thin) (ha:a.thin):(filt e a).thin:=by simp[filt,Pn.thin,Pn.iA,he,ha]
theorem KS {es:List Ex} {a:Pn} (hl:es.length<1000000000) (he:∀ e∈es,e.thin) (ha:a.thin):(proj es a).thin:=by simp[proj,Pn.thin,Pn.iA,hl,ha];exact he
theorem vL {kd:Int} {e:Ex} {a b:Pn} (he:e.thin) (ha:a.thin) (hb:b.thin):(aY kd e a b).thin:=by simp[aY,Pn.thin,Pn.iA,he,ha,hb]
theorem AEH {a b:Pn} (ha:a.thin) (hb:b.thin):(cK a b).thin:=by simp[cK,Pn.thin,Pn.iA,ha,hb]
theorem Z4 {a b:Ex} (ha:a.thin) (hb:b.thin):(R5 a b).thin:=by simp[R5,Ex.thin,Ex.iA,ha,hb]
theorem tV:Ex.zero.thin:=by simp[Ex.zero,Ex.thin,Ex.iA]
theorem Pn.vP {p:Pn} (h:p.thin):p.lI.thin:=by
 unfold Pn.lI
 cases hk:p.kids[0]? with
 | none=>exact Pn.JG
 | some a=>exact((Pn.bT p).1 h).2.2.2.2 a (zV hk)
theorem Pn.EF {p:Pn} (h:p.thin):p.uL.thin:=by
 unfold Pn.uL
 cases hk:p.kids[1]? with
 | none=>exact Pn.JG
 | some a=>exact((Pn.bT p).1 h).2.2.2.2 a (zV hk)
theorem Pn.AD9 {p:Pn} (h:p.thin):p.ex0.thin:=by
 unfold Pn.ex0
 cases hk:p.exprs[0]? with
 | none=>exact tV
 | some a=>exact((Pn.bT p).1 h).2.1 a (zV hk)
theorem Ex.vP {e:Ex} (h:e.thin):e.lI.thin:=by
 unfold Ex.lI
 cases hk:e.kids[0]? with
 | none=>exact tV
 | some a=>exact((Ex.bT e).1 h).2 a (zV hk)
theorem Ex.EF {e:Ex} (h:e.thin):e.uL.thin:=by
 unfold Ex.uL
 cases hk:e.kids[1]? with
 | none=>exact tV
 | some a=>exact((Ex.bT e).1 h).2 a (zV hk)
theorem Ex.ABZ {l:List Ex} (hl:∀ b∈l,b.thin):∀ e:Ex,e.thin→(e.sub l).thin:=by
 intro e
 induction e using Ex.ind with
 | h k c v ks ih =>
  intro ht;have h:=(Ex.bT _).1 ht;by_cases hk:k=1
  ·unfold Ex.sub;rw[if_pos hk]
   cases hx:l[c.toNat]? with
   | none=>exact tV
   | some b=>exact hl b (zV hx)
  ·rw[Ex.uW l (e:=.mk k c v ks) hk,Ex.bT];refine⟨by simpa [Ex.kids]using h.1,fun x hx=>?_⟩;simp only[Ex.kids,zG]at hx;obtain⟨y,hy,rfl⟩:=hx;exact ih y hy (h.2 y hy)
theorem Ex.X8 {f:Int→Int}:∀ e:Ex,e.thin→(e.rJ f).thin:=by
 intro e
 induction e using Ex.ind with
 | h k c v ks ih =>
  intro ht;have h:=(Ex.bT _).1 ht;by_cases hk:k=1
  ·rw[Ex.ED f (e:=.mk k c v ks) hk];exact YL _
  ·rw[Ex.EC f (e:=.mk k c v ks) hk,Ex.bT];refine⟨by simpa [Ex.kids]using h.1,fun x hx=>?_⟩;simp only[Ex.kids,zG]at hx;obtain⟨y,hy,rfl⟩:=hx;exact ih y hy (h.2 y hy)
theorem AOF {ws:List Int} {r:Int} {e:Ex} {k q:Pn} (he:e.thin) (hk:k.thin) (h:rwF ws r e k=some q):q.thin:=by
 have k0:=Pn.vP hk;have k1:=Pn.EF hk;have x0:=Pn.AD9 hk;have hx:=((Pn.bT k).1 hk).2.1;have hl:=((Pn.bT k).1 hk).1;unfold rwF at h
 repeat' split at h
 all_goals first
  | (cases h;done)
  | (injection h with h;subst h
     first
      | exact lM (Z4 x0 he) k0
      | exact lM (Ex.EF he) (lM (Ex.vP he) hk)
      | exact vL x0 (lM he k0) k1
      | exact vL x0 k0 (lM (Ex.X8 _ he) k1)
      | exact vL (Z4 x0 he) k0 k1
      | exact lM he (vL x0 k0 k1)
      | exact AEH (lM he k0) (lM he k1)
      | exact KS hl hx (lM (Ex.ABZ hx _ he) k0))
theorem AOD {ws:List Int} (hw:∀ w∈ws,0≤w∧w≤6) {r:Int} {p q:Pn} (hp:p.thin) (h:rwP ws r p=some q):q.thin:=by
 have k0:=Pn.vP hp;have k1:=Pn.EF hp;have x0:=Pn.AD9 hp;have hx:=((Pn.bT p).1 hp).2.1;have hl:=((Pn.bT p).1 hp).1;have hx0:=((Pn.bT _).1 k0).2.1;have r0:=Pn.kJ hw p.lI 8;have r1:=Pn.kJ hw p.uL 8;unfold rwP at h;split at h
 ·exact AOF x0 k0 h
 split at h
 ·injection h with h;subst h;refine KS (by simp;omega) (fun e he=>?_) (vL (Ex.X8 _ x0) k1 k0)
  rcases zT.1 he with h|h<;>exact tY _ _ e h
 split at h
 ·injection h with h;subst h;exact k0
 split at h
 ·injection h with h;subst h;refine KS (by simpa using hl) (fun e he=>?_) (Pn.vP k0);obtain⟨y,hy,rfl⟩:=zG.1 he;exact Ex.ABZ hx0 y (hx y hy)
 ·cases h
theorem ACH {q:Pn} (hq:q.thin):∀ (path:List Int) (p a:Pn),p.thin→Pn.at path p=some a→(Pn.put path p q).thin
 | [],p,a,_,_=>by simpa [Pn.put]using hq
 | x::r,p,a,hp,ha=>by
  obtain⟨n,rfl,b,hb,hr⟩:=Pn.pQ ha;have h:=(Pn.bT p).1 hp;have ih:=ACH hq r b a (h.2.2.2.2 b (zV hb)) hr;rw[Pn.DW q hb,Pn.bT];refine⟨h.1,h.2.1,h.2.2.1,by simpa [Pn.kids]using h.2.2.2.1,fun c hc=>?_⟩;simp only[Pn.kids]at hc
  rcases xO hc with h1|h1
  ·exact h.2.2.2.2 c h1
  ·rw[h1];exact ih
end Go.Av
namespace Go.Proofs.YtnmimmaahhlgeaaGreat.P
open Go Go.Av
set_option maxRecDepth 4000
set_option maxHeartbeats 4000000
theorem RU {p q:Pn} (hq:q.thin):aH C0 78 [.i (.agg p.cells), .i (.isl []), .i (.agg q.cells)] []=some (.i (.agg q.cells),[]):=by
 have h:=BS q hq;rw[aD rfl Tryz.func78 rfl rfl];rw[Pn.aA p,Pn.aA q]at *
 by_cases he:q.exprs=[]
 ·by_cases hk:q.kids=[]
  ·simp[pcX,pcS,hk,he,Pn.aB,Ex.aB]at h;simp[h,hk,he,Pn.aB,Ex.aB]
  ·have hkl:q.kids.length≠0:=fun h=>hk (zW.1 h)
   simp[pcX,pcS,hk,he,aL hkl,aI hkl,Ex.aB]at h;simp[h,he,Ex.aB]
 ·have hel:q.exprs.length≠0:=fun h=>he (zW.1 h)
  by_cases hk:q.kids=[]
  ·simp[pcX,pcS,hk,he,aL hel,aI hel,Pn.aB]at h;simp[h,hk,Pn.aB]
  ·have hkl:q.kids.length≠0:=fun h=>hk (zW.1 h)
   simp[pcX,pcS,hk,he,aL hel,aI hel,aL hkl,aI hkl]at h;simp[h]
theorem H6 {q:Pn} (hq:q.thin):∀ (path:List Int) (p a:Pn),p.thin→path.length<1000000→Pn.at path p=some a→aH C0 78 [.i (.agg p.cells), .i (.isl (aG path)), .i (.agg q.cells)] []=some (.i (.agg (Pn.put path p q).cells),[])
 | [],p,a,hp,hl,ha=>by simpa [aG,Pn.put]using RU (p:=p) hq
 | x::r,p,a,hp,hl,ha=>by
  obtain⟨n,rfl,b,hb,hr⟩:=Pn.pQ ha;have hrl:r.length<1000000:=by simp at hl;omega
  have ih:=H6 hq r b a (((Pn.bT p).1 hp).2.2.2.2 b (zV hb)) hrl hr;have h:=BS p hp;have hk:p.kids≠[]:=fun h=>by rw[h]at hb;simp at hb
  have hkl:p.kids.length≠0:=fun h=>hk (zW.1 h)
  have hn:=(zY.1 hb).1;have r4:=Pn.aR hb;rw[Pn.DW q hb,aD rfl Tryz.func78 rfl rfl];generalize Pn.put r b q=z at *
  have hs:=Pn.wY p.kids n z;have hsl:(p.kids.set n z).length=p.kids.length:=by simp
  have hsn:p.kids.set n z≠[]:=fun h=>by rw[h]at hsl;simp at hsl;exact hkl hsl.symm
  have ht:(Pn.aB (p.kids.set n z)).take p.kids.length=Pn.aB (p.kids.set n z):=zZ (by simp);have hlen1:(r.length:Int)+1≠0:=by omega
  have hone:(1:Int)≤(r.length:Int)+1:=by omega
  rw[Pn.aA p,Pn.aA q]at *
  rw[Pn.aA b,Pn.aA z]at *
  have htr:List.take r.length (aG r)=aG r:=zZ (by simp);by_cases he:p.exprs=[]
  ·simp[pcX,pcS,hk,he,aL hkl,aI hkl,Ex.aB]at h;simp[h,he,Ex.aB,aG,Pn.cells,hn,hlen1,hone,r4,ih,hs,ht,htr]
  ·have hel:p.exprs.length≠0:=fun h=>he (zW.1 h)
   simp[pcX,pcS,hk,he,aL hel,aI hel,aL hkl,aI hkl]at h;simp[h,aG,Pn.cells,hn,hlen1,hone,r4,ih,hs,ht,htr]
theorem wL {ws:List Int} (hw:lZ ws=true) {p:Pn} (hp:p.wd ws 8≠0) (r:Int) {path:List Int} (hl:path.length<1000000):aH C0 34 [.i (.agg p.cells), .i (.isl (aG ws)), .i (.agg [.int r, .isl (aG path)])] []=some (.tup [.i (.agg (AGF (apS ws r path p)).cells), .bool (apS ws r path p).isSome],[]):=by
 have ht:=eH p 8 hp;have c1:=AJV ht hl;unfold apS
 cases ha:Pn.at path p with
 | none =>
  rw[ha]at c1;rw[aD rfl Tryz.func34 rfl rfl];simp only[Option.getD,Option.isSome,Option.bind,AGF,aX,Pn.aA p]at c1 ⊢;simp[c1]
 | some a =>
  rw[ha]at c1
  have ha8:a.wd ws 8≠0:=by
   obtain⟨h1,h2⟩:=NG path p 8 a hp ha;rw[Pn.gZ a _ 8 h2 (by omega)];exact h2
  have hat:=eH a 8 ha8;have c2:=AYG hw ha8 r;unfold SRw at c2
  cases hq:rwP ws r a with
  | none =>
   rw[hq]at c2;rw[aD rfl Tryz.func34 rfl rfl];simp only[hq,Option.getD,Option.isSome,Option.bind,AGF,aX,Pn.aA p,Pn.aA a]at c1 c2 ⊢;simp[c1,c2]
  | some q =>
   rw[hq]at c2;have hqt:=AOD (mG hw) hat hq;have c3:=H6 hqt path p a ht hl ha;have hzt:=ACH hqt path p a ht ha;have c4:=K6 hw hzt;have hv:((some a).bind fun a=>(rwP ws r a).bind fun q=>if(Pn.put path p q).wd ws 8≠0 then some (Pn.put path p q)else none)=if(Pn.put path p q).wd ws 8≠0 then some (Pn.put path p q)else none:=by simp[hq]
   rw[hv];generalize Pn.put path p q=z at *
   rw[aD rfl Tryz.func34 rfl rfl];by_cases hz:z.wd ws 8=0
   ·rw[hz]at c4;simp only[hq,hz,ne_eq,not_true_eq_false,if_false,Option.getD,Option.isSome,Option.bind,AGF,aX,Pn.aA p,Pn.aA a,Pn.aA q,Pn.aA z]at c1 c2 c3 c4 ⊢;simp[c1,c2,c3,c4]
   ·simp only[hq,hz,ne_eq,zC0,if_true,Option.getD,Option.isSome,Option.bind,AGF,Pn.aA p,Pn.aA a,Pn.aA q,Pn.aA z]at c1 c2 c3 c4 ⊢;simp[c1,c2,c3,c4,hz]
end Go.Proofs.YtnmimmaahhlgeaaGreat.P
namespace Go.Av
def atV:Option Pn→AV
 | some a=>.i (.iref a.cells)
 | none=>.i (.lit (.pointer none))
def atI (path:List Int) (p:Pn):Option Pn:=if path.length≤8 then Pn.at path p else none
end Go.Av
namespace Go.Proofs.YtnmimmaahhlgeaaGreat.P
open Go Go.Av
set_option maxRecDepth 4000
set_option maxHeartbeats 4000000
def AIX (p:Pn) (path:List Int) (i:Nat):AS :=
 { env:=[(0, .i (.iref ((Pn.at (path.take i) p).getD Pn.zero).cells)),(1, .i (.isl (aG path))),(4, .i (.lit (.pointer none))),(6,jk i (.int ((path[i-1]?).getD 0))),(9, .bool false),(10, .i (.isl (aG path))),(11, .int path.length),(12, .int i),(13,jk i (.bool true)),(26,jk i (.bool false))],st:=[] }
theorem AS4 (p:Pn) (path:List Int):aH C0 27 [.i (.iref p.cells), .i (.isl (aG path))] []=some (atV (atI path p),[]):=by
 rw[aD rfl Tryz.func27 rfl rfl];by_cases hl:path.length≤8
 ·have hl':¬ (8:Int)<path.length:=by omega
  obtain⟨j,h1,h2⟩:=AMK path p;simp[hl',atI,hl];rw[aT (AIX p path) j (by simp[AIX,Pn.at])]
  ·rw[aF]
   rcases h2 with ⟨a,rfl,ha⟩|⟨x,a,q1,q2,q3,q4⟩
   ·simp[AIX,ha,atV]
   ·have hj:=(zY.1 q1).1;have r1:=bL q1
    have hx:x<0∨(0≤x∧(a.kids.length:Int)≤x):=by
     by_cases h:x<0
     ·exact .inl h
     ·have:=q3 (by omega);simp at this;exact .inr ⟨by omega,by omega⟩
    simp only[AIX,q2,zA,q4,atV];rw[Pn.aA a]
    rcases hx with h|⟨h,h'⟩
    ·simp[hj,r1,h]
    ·have hn:¬ x<0:=by omega
     simp[hj,r1,hn,h']
  ·intro i hi;obtain⟨x,a,b,q1,q2,q3,q4,q5⟩:=h1 i hi;obtain⟨hj,qx⟩:=zY.1 q1;have r1:=bL q1;have hk:=(zY.1 q4).1;have r2:=Pn.aR q4;obtain⟨n,rfl⟩:=yZ q3;simp only[Int.ofNat_eq_natCast,zD4]at *
   have w2:IntKind.i64.wrap ((i:Int)+1)=i+1:=wrO;have n1:¬ (n:Int)<0:=by omega
   have n2:¬ a.kids.length≤n:=by omega
   simp only[AIX,q2,q5,zA];rw[Pn.aA a,Pn.aA b]at *
   simp[hj,r1,n1,n2,hk,r2,w2,q1,qx]
 ·have hl':(8:Int)<path.length:=by omega
  simp[hl',atI,hl,atV]
theorem AH9 {p:Pn} {ws:List Int} {r:Int} {path:List Int} (h:p.width ws=0∨apI ws r path p=none):aH C0 9 [.i (.agg p.cells), .i (.isl (aG ws)), .i (.agg [.int r, .isl (aG path)])] []=some (.tup [.i (.agg Pn.zero.cells), .bool false],[]):=by
 have c1:=qK p ws;have c2:=AS4 p path;rw[aD rfl Tryz.func9 rfl rfl];by_cases h0:p.width ws=0
 ·rw[Pn.aA p]at c1 ⊢;simp[c1,h0,Pn.zero,Pn.cells,Ex.aB,aG,Pn.aB]
 ·obtain⟨hw,hp8,hv⟩:=oJ h0;have hn:=h.resolve_left h0;unfold apI at hn
  cases ha:atI path p with
  | none =>
   rw[ha]at c2;rw[Pn.aA p]at c1 c2 ⊢;simp[atV]at c2;simp[c1,h0,c2,Pn.zero,Pn.cells,Ex.aB,aG,Pn.aB]
  | some a =>
   rw[ha]at c2;unfold atI at ha;split at ha
   ·rename_i hl;rw[if_pos hl,ha]at hn;simp only[yJ]at hn;obtain⟨-,hav⟩:=NG path p 8 a hp8 ha;have ha8:a.wd ws 8≠0:=by rw[Pn.gZ a _ 8 hav (by omega)];exact hav
    have c3:=GZ hw ha8 r (lv:=8-path.length) (by omega)
    have hr:rwL ws r (8-path.length) a=none:=by
     cases hq:rwL ws r (8-path.length) a with
     | none=>rfl
     | some q=>rw[hq]at hn;cases hn
    rw[hr]at c3;have w1:IntKind.i64.wrap (8-(path.length:Int))=((8-path.length:Nat):Int):=by rw[wrO];omega
    simp only[atV]at c2;rw[Pn.aA p]at c1 c2 ⊢;rw[Pn.aA a]at c2 c3;simp[AGF,Pn.zero,Pn.cells,Ex.aB,aG,Pn.aB]at c3;simp[c1,h0,c2,w1,c3,Pn.zero,Pn.cells,Ex.aB,aG,Pn.aB]
   ·cases ha
end Go.Proofs.YtnmimmaahhlgeaaGreat.P
namespace Go.Proofs.YtnmimmaahhlgeaaGreat
open Go Go.Av
theorem WI {g:FuncId} {q:List AV→StL→Option (AV×StL)} (h:C0.prim g=some q):(g=61∧q=N8)∨(g=29∧q=AB9):=by
 have h:AUE g=some q:=h;unfold AUE at h;split at h
 ·injection h with h;exact .inl ⟨rfl,h.symm⟩
 ·injection h with h;exact .inr ⟨rfl,h.symm⟩
 ·cases h
theorem AcP:PrimOk C0:=by
 constructor
 ·intro g args st p h;unfold dH at h
  cases hq:C0.prim g with
  | none=>rw[hq]at h;cases h
  | some q =>
   rcases WI hq with ⟨rfl,rfl⟩|⟨rfl,rfl⟩
   ·exact⟨Tryz.f61,Tryz.func61,by decide,rfl⟩
   ·exact⟨Tryz.f29,Tryz.func29,by decide,rfl⟩
 ·intro g args stl r stl' h w m φ vs hi hr h0;unfold dH at h
  cases hq:C0.prim g with
  | none=>rw[hq]at h;cases h
  | some q =>
   rcases WI hq with ⟨rfl,rfl⟩|⟨rfl,rfl⟩
   ·rw[hq]at h;obtain⟨e,he,hres,hor⟩:=QQ h;injection hres with h1 h2;subst h1;subst h2
    rcases hor with ⟨rfl,rfl⟩|⟨j,es,rfl,rfl,hes⟩
    ·exact IL he hi hr h0
    ·exact QS he hes hi hr h0
   ·rw[hq]at h;obtain⟨p,⟨k1,k2,k3⟩,rfl,rfl,hres⟩:=AGR h;injection hres with h1 h2;subst h1;subst h2;exact G.TW k1 k2 k3 hi hr h0
theorem dE:SoundOk C0:=mO (C:=C0) ft nt eqS mo AcP
end Go.Proofs.YtnmimmaahhlgeaaGreat
namespace Go.Av
section
variable {wi:World} {mi:Mem} {nt:Nat}
theorem GR.AVG {ok:Nat→Prop} {env:Nat→AV} {st:Store} {a:Act} {w:World} {d:Nat} {m1:Mem} {φ:Pl} {p:Pn} (hd:d<nt) (hi:Inv w m1 φ st) (henv:∀ t,Rep m1 φ (env t) (a.tmps.getD t undef)) (hadv:Adv wi mi (fun _=>none) w m1 φ) (hok:∀ id,φ id≠none→ok id) (hsz:nt≤a.tmps.size) (hdf:a.defers=[])
 {e:Ending} {w':World} (h:UG w m1 p e w'):∃ y,e=.returned y∧∃ v0 v1 v2 v3 v4 F,GR wi mi nt ok (CPY w p F v0 v1 v2 v3 v4) (upd env d (.i (.agg [.lit v0, .lit v1, .lit v2, .lit v3, .lit v4]))) st (a.put (some d) y) w':=by
 obtain⟨v0,v1,v2,v3,v4,F,m2,rfl,hone,hm2,ha,hc⟩:=h;obtain⟨i2,a2⟩:=hi.AZZ ha hm2;refine⟨_,rfl,v0,v1,v2,v3,v4,F,⟨m2,φ,i2,o6 (dst:=some d) (fun t=>(henv t).mono a2.mle a2.ple) hsz (by simpa [OB]using hd) (.i (.agg ?_)),hadv.trans a2,hok,?_⟩,by rw[nZ];exact hsz,by rw[iI];exact hdf⟩
 ·exact .cons (.lit _) (hone _ (by simp)) (.cons (.lit _) (hone _ (by simp)) (.cons (.lit _) (hone _ (by simp)) (.cons (.lit _) (hone _ (by simp)) (.cons (.lit _) (hone _ (by simp)) .nil))))
 ·refine⟨hc.th,hc.cells,hc.nd,fun f hf=>?_⟩;obtain⟨k1,k2,k3,k4,k5⟩:=hc.all f hf;refine⟨k1,k2,fun id b n e ho=>?_,k4,k5⟩;have:=hi.low id b n f e ho;omega
theorem GR.APP {ok:Nat→Prop} {env:Nat→AV} {st:Store} {a:Act} {w:World} {d:Nat} {m:Mem} {φ:Pl} {p y:Pn} {root:Nat} {F:List Nat} {path:List Int} (hd:d<nt) (hi:Inv w m φ st) (henv:∀ t,Rep m φ (env t) (a.tmps.getD t undef)) (hadv:Adv wi mi (fun _=>none) w m φ) (hok:∀ id,φ id≠none→ok id) (hsz:nt≤a.tmps.size) (hdf:a.defers=[]) (hr:RAW wi root p F [] w m φ)
 {e:Ending} {w':World} (h:∃ bq oq Fa Fy Fz m',e=.returned (.pointer (some ⟨bq,oq,none⟩))∧AtP w m p root 0 F path y bq oq Fa Fy Fz∧oI w' m'∧Adv w (jP w) (fun _=>none) w' m' (fun _=>none)) :
 ∃ v,e=.returned v∧∃ bq oq Fa Fy Fz,GR wi mi nt ok (RAT wi root p F path y bq oq Fa Fy Fz) (upd env d (.i (.lit (.pointer (some ⟨bq,oq,none⟩))))) st (a.put (some d) v) w':=by
 obtain⟨bq,oq,Fa,Fy,Fz,m',rfl,hat,hm,ha⟩:=h;have hsame:∀ f,f<w.heap.size→w'.heap[f]?=w.heap[f]?:=fun f hf=>ha.block f hf fun id b n e=>by cases e
 have i2:=hi.later ha.size hsame
 have a2:Adv w m φ w' m φ:=⟨ha.size,ha.os,ha.tape,ha.output,fun b hb' _=>hsame b hb', .refl _,fun _ _ _ _=>rfl, .refl _,fun _ _ _ _ e ho=>.inr (mD.not e ho)⟩
 exact⟨_,rfl,bq,oq,Fa,Fy,Fz,⟨m,φ,i2,o6 (dst:=some d) henv hsz (by simpa [OB]using hd) (.i (.lit _)),hadv.trans a2,hok,RAT.pX _ _ _ _ _ _ _ _ _ _ _ _ _ _ _ _ _ a2 ⟨hr,hat⟩⟩,by rw[nZ];exact hsz,by rw[iI];exact hdf⟩
end
end Go.Av
namespace Go.Proofs.YtnmimmaahhlgeaaGreat.P
open Go Go.Av G
theorem AkQ:Tryz.f29.name≠ "runtime.NumGoroutine":=by decide
theorem AkS:Tryz.f29.body.isSome=true:=rfl
theorem hb48:Tryz.f27.body.isSome=true:=rfl
theorem AkR:Tryz.f27.name≠ "runtime.NumGoroutine":=by decide
set_option maxRecDepth 4000
set_option maxHeartbeats 8000000
theorem AbC {α:Type} (f:Nat→α) (a:Nat) (x y:α):upd (upd f a x) a y=upd f a y:=by funext i;simp only[upd];split<;>rfl
def TEV (p:Pn) (ws:List Int) (r:Int) (path:List Int) (v3 v5 v6 v7 v8 v9 v10 v11 v15 v21 v36:AV):List (Nat×AV):=[(0, .i (.agg p.cells)),(1, .i (.isl (aG ws))),(2, .i (.agg [.int r, .isl (aG path)])),(3,v3),(5,v5),(6,v6),(7,v7),(8,v8),(9,v9),(10,v10),(11,v11),(15,v15),(21,v21),(36,v36)]
def bxP (p:Pn):Option Blk:=some (.box (nE p.cells))
def bxS (r:Int) (path:List Int):Option Blk:=some (.box [.i (.int r), .i (.isl (aG path))])
theorem AH8 {p:Pn} {ws:List Int} {r:Int} {path:List Int} {q:Pn} (h0:p.width ws≠0) (hq:apI ws r path p=some q) {wi:World} {mi:Mem} {vs:List Value} (hi:Inv wi mi (fun _=>none) (bK [])) (hr:RepL mi (fun _=>none) [.i (.agg p.cells), .i (.isl (aG ws)), .i (.agg [.int r, .isl (aG path)])] vs) :
 Calls Tryz.prog 9 vs.toArray wi (bY wi mi (fun _=>none) (.tup [.i (.agg q.cells), .bool true]) []):=by
 obtain⟨hw,hp8,hv⟩:=oJ h0;have hws:=mG hw;unfold apI at hq;split at hq
 rotate_left
 ·cases hq
 rename_i hl
 cases ha:Pn.at path p with
 | none=>rw[ha]at hq;cases hq
 | some a =>
 rw[ha]at hq;simp only[yJ]at hq;obtain⟨-,hav⟩:=NG path p 8 a hp8 ha;have ha8:a.wd ws 8≠0:=by rw[Pn.gZ a _ 8 hav (by omega)];exact hav
 cases hx:rwL ws r (8-path.length) a with
 | none=>rw[hx]at hq;cases hq
 | some x =>
 rw[hx]at hq;simp only[yI,Option.some.injEq]at hq;subst hq
 have hxw:x.wd ws (8-path.length)≠0:=by
  unfold rwL at hx
  cases hy:rwP ws r a with
  | none=>rw[hy]at hx;cases hx
  | some y =>
   rw[hy]at hx;simp only[yJ]at hx;split at hx
   ·injection hx with hx;subst hx;assumption
   ·cases hx
 have hx8:x.wd ws 8≠0:=by rw[Pn.gZ x _ 8 hxw (by omega)];exact hxw
 have hxs:x.small:=⟨by have:=(Pn.JK x 8 hx8).2;omega,eH x 8 hx8,(Pn.JK x 8 hx8).1⟩
 have hps:p.small:=⟨by have:=(Pn.JK p 8 hp8).2;omega,eH p 8 hp8,(Pn.JK p 8 hp8).1⟩
 have c1:=qK p ws;have c2:=AS4 p path;simp only[atI,hl,if_true,ha,atV]at c2;have c3:=GZ hw ha8 r (lv:=8-path.length) (by omega);rw[hx]at c3;simp only[AGF,zA,Option.isSome_some]at c3
 have c4:aH C0 29 [.i (.iref x.cells)] []=some (.i (.agg x.cells),[]):=by
  rw[aN (p:=AB9) rfl];exact AQ5 hxs
 have w1:IntKind.i64.wrap (8-(path.length:Int))=((8-path.length:Nat):Int):=by rw[wrO];omega
 refine calls_of_wp (fn:=Tryz.f9) Tryz.func9 rfl ?_;have hv1:vs.length=3:=by simpa using hr.length.symm
 have g0:GR wi mi 45 (fun id=>id<({ env:=[(0, .i (.agg p.cells)),(1, .i (.isl (aG ws))),(2, .i (.agg [.int r, .isl (aG path)]))],st:=[] }:AS).st.length) (fun _ _ _=>True) (aV [(0, .i (.agg p.cells)),(1, .i (.isl (aG ws))),(2, .i (.agg [.int r, .isl (aG path)]))]) (bK []) { tmps:=vs.toArray++Array.replicate (45-vs.toArray.size) undef,defers:=[] } wi:=by
  refine⟨⟨mi,fun _=>none,hi,?_, .refl _ _ _,fun id h=>absurd rfl h,trivial⟩,by simp;omega,rfl⟩;intro t;have:=nH (m:=mi) (φ:=fun _=>none) (45-vs.toArray.size) hr t
  rcases t with _|_|_|t
  ·simpa [aV,uN]using this
  ·simpa [aV,uN]using this
  ·simpa [aV,uN]using this
  ·simp only[aV];simp;exact .junk _
 refine wp_seq (wp_mono (GR.fF dE (G:=GS 9) (S:={ env:=[(0, .i (.agg p.cells)),(1, .i (.isl (aG ws))),(2, .i (.agg [.int r, .isl (aG path)]))],st:=[] }) (e:=.normal) (S':={ env:=TEV p ws r path (.own 0 0) (.own 1 0) (.own 2 0) (.bool false) .junk .junk .junk .junk .junk .junk .junk,st:=[bxP p,bxS r path,some (.box zp)] }) nS (by kernel_rfl) (by
  rw[Pn.aA p]at *
  simp[TEV,bxP,bxS,zp,Pn.aA p]) g0) ?_)
 rintro _ a1 w1' ⟨rfl,g1⟩
 refine wp_seq (wp_mono (GR.fF dE (G:=GS 9) (S:={ env:=TEV p ws r path (.own 0 0) (.own 1 0) (.own 2 0) (.bool false) .junk .junk .junk .junk .junk .junk .junk,st:=[bxP p,bxS r path,some (.box zp)] }) (e:=.normal) (S':={ env:=TEV p ws r path (.own 0 0) (.own 1 0) (.own 2 0) (.bool false) .junk .junk .junk .junk (.bool false) .junk .junk,st:=[bxP p,bxS r path,some (.box zp)] }) nS (by kernel_rfl) (by
  simp only[TEV,bxP,bxS];rw[Pn.aA p]at *
  simp[zp,c1,h0]) g1) ?_)
 rintro _ a2 w2' ⟨rfl,g2⟩
 refine wp_seq (wp_mono (GR.fF dE (G:=GS 9) (S:={ env:=TEV p ws r path (.own 0 0) (.own 1 0) (.own 2 0) (.bool false) .junk .junk .junk .junk (.bool false) .junk .junk,st:=[bxP p,bxS r path,some (.box zp)] }) (e:=.normal) (S':={ env:=TEV p ws r path (.own 0 0) (.own 1 0) (.own 2 0) (.bool false) (.i (.iref a.cells)) .junk .junk .junk (.bool false) .junk .junk,st:=[some (.fbox p.cells),bxS r path,some (.box zp)] }) nS (by kernel_rfl) (by
  simp only[TEV,bxP,bxS];rw[Pn.aA p,Pn.aA a]at *
  simp[zp,c2]) g2) ?_)
 rintro _ a3 w3' ⟨rfl,g3⟩
 refine wp_seq (wp_mono (GR.fF dE (G:=GS 9) (S:={ env:=TEV p ws r path (.own 0 0) (.own 1 0) (.own 2 0) (.bool false) (.i (.iref a.cells)) .junk .junk .junk (.bool false) .junk .junk,st:=[some (.fbox p.cells),bxS r path,some (.box zp)] }) (e:=.normal) (S':={ env:=TEV p ws r path (.own 0 0) (.own 1 0) (.own 2 0) (.bool false) (.i (.iref a.cells)) .junk .junk .junk (.bool false) (.bool false) .junk,st:=[some (.fbox p.cells),bxS r path,some (.box zp)] }) nS (by kernel_rfl) (by
  simp only[TEV,bxP,bxS]
  simp[zp]) g3) ?_)
 rintro _ a4 w4' ⟨rfl,g4⟩
 refine wp_seq (wp_mono (GR.fF dE (G:=GS 9) (S:={ env:=TEV p ws r path (.own 0 0) (.own 1 0) (.own 2 0) (.bool false) (.i (.iref a.cells)) .junk .junk .junk (.bool false) (.bool false) .junk,st:=[some (.fbox p.cells),bxS r path,some (.box zp)] }) (e:=.normal) (S':={ env:=TEV p ws r path (.own 0 0) (.own 1 0) (.own 2 0) (.bool false) (.i (.iref a.cells)) (.own 3 0) (.bool true) .junk (.bool false) (.bool false) .junk,st:=[some (.fbox p.cells),bxS r path,some (.box zp),bxP x] }) nS (by kernel_rfl) (by
  simp only[TEV,bxP,bxS];rw[Pn.aA a,Pn.aA x]at *
  simp[zp,w1,c3]) g4) ?_)
 rintro _ a5 w5' ⟨rfl,g5⟩
 refine wp_seq (wp_mono (GR.fF dE (G:=GS 9) (S:={ env:=TEV p ws r path (.own 0 0) (.own 1 0) (.own 2 0) (.bool false) (.i (.iref a.cells)) (.own 3 0) (.bool true) .junk (.bool false) (.bool false) .junk,st:=[some (.fbox p.cells),bxS r path,some (.box zp),bxP x] }) (e:=.normal) (S':={ env:=TEV p ws r path (.own 0 0) (.own 1 0) (.own 2 0) (.bool false) (.i (.iref a.cells)) (.own 3 0) (.bool true) .junk (.bool false) (.bool false) (.bool false),st:=[some (.fbox p.cells),bxS r path,some (.box zp),bxP x] }) nS (by kernel_rfl) (by
  simp only[TEV,bxP,bxS]
  simp[zp,Pn.aA x]) g5) ?_)
 rintro _ a6 w6 ⟨rfl,g6⟩;clear g0 g1 g2 g3 g4 g5;have hst6:(6:Nat)<45:=by omega
 refine wp_seq (mE ?_);show wpOpsIn (FR none) 0 Tryz.prog _ _ (List.range 3) a6 w6;rw[show List.range 3=0::(List.range' 1 2++[])from rfl,wpOpsIn_cons];obtain⟨⟨m6,φ6,i6,henv6,adv6,ok6,-⟩,sz6,df6⟩:=g6;obtain⟨m7,rp7,i7,adv7⟩:=wK i6 (henv6 3) (show jW (bK [some (.fbox p.cells),bxS r path,some (.box zp),bxP x]) (.own 0 0)=some (.i (.iref p.cells),bK [some (.fbox p.cells),bxS r path,some (.box zp),bxP x])by simp[jW,tT,frz,BO,II,bK,bnd,tst,jV]);have rp7':RepL m7 (fun _=>none) [.i (.iref p.cells)] [a6.tmps.getD 3 undef]:=.cons (by cases rp7 with|i k=>exact .i k) .nil
 have i7':Inv w6 m7 (fun _=>none) (bK []):=⟨i7.mem,fun id blk e=>by simp[bK]at e,fun _ _ _ _ _ _ _ _ _ e=>by simp[bK]at e,fun _ _ _ _ e=>by cases e⟩
 refine OJ (P:=Tryz.prog) (fn:=Tryz.f29) (d:=38) (g:=29) (args:=#[.tmp 3]) rfl rfl rfl rfl Tryz.func29 AkQ AkS (vs:=[a6.tmps.getD 3 undef]) rfl ((wF hps.1 hps.2.1 hps.2.2 i7' rp7').mono fun e w7 hraw=>?_);obtain⟨y,rfl,v0,v1,v2,v3,v4,F,g7⟩:=GR.AVG (nt:=45) (d:=38) (by omega) i7 (fun t=>(henv6 t).mono adv7.mle adv7.ple) (adv6.trans adv7) ok6 sz6 df6 hraw;refine⟨y,rfl,?_⟩;have hsz6:wi.heap.size≤w6.heap.size:=adv6.size;generalize hE8:TEV p ws r path (.own 0 0) (.own 1 0) (.own 2 0) (.bool false) (.i (.iref a.cells)) (.own 3 0) (.bool true) .junk (.bool false) (.bool false) (.bool false)=E8 at g7;refine GR.AN3 dE (CPY.pX _ _ _ _ _ _ _ _) 1 2 rfl ?_ (base:=4) (R0:={ env:=upd (aV E8) 38 (.i (.agg [.lit v0, .lit v1, .lit v2, .lit v3, .lit v4])),st:=bK [some (.fbox p.cells),bxS r path,some (.box zp),bxP x],log:=[] }) (R1:={ env:=upd (upd (aV E8) 38 (.i (.agg [.lit v0, .lit v1, .lit v2, .lit v3, .lit v4]))) 11 (.own 12 0),st:=upd (bK [some (.fbox p.cells),bxS r path,some (.box zp),bxP x]) 12 (some (.box (dX [v0,v1,v2,v3,v4]))),log:=[] }) ?_ (g7.ok' fun id h=>.inl (by simpa using h)) fun a8 w8 g8=>?_
 ·kernel_rfl
 ·simp[dX,zp,AbC]
 obtain⟨b3,g9⟩:=g8.AfF (u:=11) (id:=12) (st':=bK [some (.fbox p.cells),bxS r path,some (.box zp),bxP x]) hsz6 rfl rfl (by
  intro i blk h
  rcases i with _|_|_|_|i
  ·simp[bK]at h;subst h;simp[upd,bK,mM]
  ·simp[bK,bxS]at h;subst h;simp[upd,bK,mM,bxS]
  ·simp[bK]at h;subst h;simp[upd,bK,mM,zp]
  ·simp[bK,bxP]at h;subst h;simp[upd,bK,mM,bxP,Pn.aA x,nE]
  ·simp[bK]at h)
 have g9:=(g9 (aV [(5, .own 1 0),(6, .own 2 0),(9, .own 3 0),(11, .i (.lit (.pointer (some ⟨b3,0,none⟩))))]) (by
  subst hE8;intro t;simp only[aV];by_cases h5:t=5
  ·subst h5;exact .inr (.inr ⟨by simp[upd,TEV,aV],by simp[upd,TEV,aV,qV,bK,bxS]⟩)
  by_cases h6:t=6
  ·subst h6;exact .inr (.inr ⟨by simp[upd,TEV,aV],by simp[upd,TEV,aV,qV,bK]⟩)
  by_cases h9:t=9
  ·subst h9;exact .inr (.inr ⟨by simp[upd,TEV,aV],by simp[upd,TEV,aV,qV,bK,bxP]⟩)
  by_cases h11:t=11
  ·subst h11;exact .inr (.inl ⟨rfl,rfl⟩)
  simp[h5,h6,h9,h11])).ok' (ok':=fun id=>J8 4 (fun j=>j<0) id) (by
  intro i h;refine .inl ?_
  rcases i with _|_|_|_|i
  all_goals first|omega|(simp[bK]at h))
 clear g7 g8;refine wp_seq (mE ?_);show wpOpsIn (FR none) 0 Tryz.prog _ _ (List.range 6) a8 w8;rw[show List.range 6=List.range' 0 2++(2::(List.range' 3 2++(List.range' 5 1++[])))from rfl];generalize hE9:aV [(5, .own 1 0),(6, .own 2 0),(9, .own 3 0),(11, .i (.lit (.pointer (some ⟨b3,0,none⟩))))]=E9 at g9;refine GR.AN3 dE (RAW.pX _ _ _ _ _) 0 2 rfl ?_ (base:=4) (R0:={ env:=E9,st:=bK [some (.fbox p.cells),bxS r path,some (.box zp),bxP x],log:=[] }) (R1:={ env:=upd (upd E9 39 (.own 1 1)) 40 (.i (.isl (aG path))),st:=bK [some (.fbox p.cells),bxS r path,some (.box zp),bxP x],log:=[] }) ?_ g9 fun a9 w9 g10=>?_
 ·kernel_rfl
 ·subst hE9;simp[zp,bxS,AbC]
 clear g9;rw[wpOpsIn_cons];obtain⟨⟨m10,φ10,i10,henv10,adv10,ok10,r10⟩,Ae8,df10⟩:=g10;have hv11:=henv10 11;have hv40:=henv10 40;simp only[show upd (upd E9 39 (.own 1 1)) 40 (.i (.isl (aG path))) 11=.i (.lit (.pointer (some ⟨b3,0,none⟩)))from by subst hE9;rfl]at hv11;simp only[show upd (upd E9 39 (.own 1 1)) 40 (.i (.isl (aG path))) 40=.i (.isl (aG path))from rfl]at hv40;have hmm:MLe m10 (jP w9):=i10.mem;refine OJ (P:=Tryz.prog) (fn:=Tryz.f27) (d:=41) (g:=27) (args:=#[.tmp 11, .tmp 40]) rfl rfl rfl rfl Tryz.func27 AkR hb48 (vs:=[a9.tmps.getD 11 undef,a9.tmps.getD 40 undef]) rfl ((AQN r10.th r10.nr r10.nd ha hl (vs:=[a9.tmps.getD 11 undef,a9.tmps.getD 40 undef]) (.cons (by cases hv11 with|i k=>exact .i (k.mono hmm)) (.cons (by cases hv40 with|i k=>exact .i (k.mono hmm)) .nil))).mono fun e w10 hplace=>?_);obtain⟨y2,rfl,bq,oq,Fa,Fy,Fz,g11⟩:=GR.APP (nt:=45) (d:=41) (by omega) i10 henv10 adv10 ok10 Ae8 df10 r10 hplace;refine⟨y2,rfl,?_⟩;refine GR.AN3 dE (RAT.pX _ _ _ _ _ _ _ _ _ _ _) 3 2 rfl ?_ (base:=4) (R0:={ env:=upd (upd (upd E9 39 (.own 1 1)) 40 (.i (.isl (aG path)))) 41 (.i (.lit (.pointer (some ⟨bq,oq,none⟩)))),st:=bK [some (.fbox p.cells),bxS r path,some (.box zp),bxP x],log:=[] }) (R1:={ env:=upd (upd (upd (upd (upd E9 39 (.own 1 1)) 40 (.i (.isl (aG path)))) 41 (.i (.lit (.pointer (some ⟨bq,oq,none⟩))))) 42 (.i (.agg x.cells))) 43 (.i (.lit (.pointer (some ⟨bq,oq,none⟩)))),st:=upd (bK [some (.fbox p.cells),bxS r path,some (.box zp),bxP x]) 3 (some (.fbox x.cells)),log:=[] }) ?_ (g11.ok' fun id h=>kF (fun j hj=>by omega) h) fun a10 w11 g12=>?_
 ·kernel_rfl
 ·subst hE9;rw[Pn.aA x]at c4;simp[zp,bxS,bxP,Pn.aA x,c4,AbC]
 clear g11
 obtain⟨pre,row,post,ma,hrl,hpl,g13⟩:=g12.AaX (u:=43) (k:=1) (st':=upd (fun _=>none) 2 (some (.box zp))) rfl (by
  intro i blk h;by_cases h2:i=2
  ·subst h2;simp[upd]at h;subst h;simp[upd,bK,mM,zp]
  ·simp[upd,h2]at h) (by simp[upd])
 have g13:=(g13 (aV [(6, .own 2 0),(11, .i (.lit (.pointer (some ⟨b3,0,none⟩)))),(42, .i (.agg x.cells)),(43, .own 1 oq)]) (by
  subst hE9;intro t;simp only[aV];by_cases h6:t=6
  ·subst h6;exact .inr (.inr ⟨by simp[upd,aV],by simp[upd,aV,qV]⟩)
  by_cases h11:t=11
  ·subst h11;exact .inr (.inr ⟨by simp[upd,aV],by simp[upd,aV,qV]⟩)
  by_cases h42:t=42
  ·subst h42;exact .inr (.inr ⟨by simp[upd,aV],by simp[upd,aV,qV]⟩)
  by_cases h43:t=43
  ·subst h43;exact .inr (.inl ⟨rfl,rfl⟩)
  simp[h6,h11,h42,h43])).ok' (ok':=fun id=>J8 4 (fun j=>j<5) id) (by
  intro i h;refine .inl ?_
  rcases h with h|h
  ·by_cases h2:i=2
   ·omega
   ·simp[upd,h2]at h
  ·omega)
 clear g12;refine GR.AN3 dE (fun w m φ w' m' φ' ha h=>⟨ADK.pX _ _ _ _ _ _ _ _ _ _ _ _ _ _ _ _ _ _ _ _ ha h.1,h.2⟩) 5 1 rfl ?_ (base:=4) (R0:={ env:=aV [(6, .own 2 0),(11, .i (.lit (.pointer (some ⟨b3,0,none⟩)))),(42, .i (.agg x.cells)),(43, .own 1 oq)],st:=upd (upd (fun _=>none) 2 (some (.box zp))) 1 (some (.box (mV pre (dX row) post))),log:=[] }) (R1:={ env:=aV [(6, .own 2 0),(11, .i (.lit (.pointer (some ⟨b3,0,none⟩)))),(42, .i (.agg x.cells)),(43, .own 1 oq)],st:=upd (upd (upd (fun _=>none) 2 (some (.box zp))) 1 (some (.box (mV pre (dX row) post)))) 1 (some (.box (mV pre (nE x.cells) post))),log:=[] }) ?_ g13 fun a11 w12 g14=>?_
 ·kernel_rfl
 ·subst hpl
  have hsp:splice (mV pre (dX row) post) pre.length (nE x.cells)=some (mV pre (nE x.cells) post):=by
   have:=sV pre post (dX row) 0 (nE x.cells);rw[xG]at this;rw[this]
   match row,hrl with
   | [r0,r1,r2,r3,r4],_=>rw[Pn.aA];simp[dX,nE,mV,splice,bnd]
  rw[Pn.aA x]at *
  simp at hsp;simp[hsp,AbC]
 clear g13
 have g15:=g14.Ad8 (q:=x) hrl hpl rfl (st':=upd (fun _=>none) 2 (some (.box zp))) (env':=aV [(6, .own 2 0),(11, .i (.lit (.pointer (some ⟨b3,0,none⟩))))]) (by
  intro i blk h;by_cases h2:i=2
  ·subst h2;simp[upd]at h;subst h;simp[upd,mM,zp]
  ·simp[upd,h2]at h) (by
  intro t;simp only[aV];by_cases h6:t=6
  ·subst h6;exact .inr ⟨by simp,by simp[qV,upd]⟩
  by_cases h11:t=11
  ·subst h11;exact .inr ⟨by simp,by simp[qV]⟩
  simp[h6,h11])
 clear g14
 have g16:=g15.AnI (u:=11) rfl (env':=aV [(6, .own 2 0),(11, .i (.iref (Pn.put path p x).cells))]) (by
  intro t;simp only[aV];by_cases h6:t=6
  ·subst h6;exact .inr (.inr (by simp))
  by_cases h11:t=11
  ·subst h11;exact .inr (.inl ⟨rfl,by simp⟩)
  simp[h6,h11])
 clear g15;generalize Pn.put path p x=q at *
 have g17:=g16.settle (fun _ _ _ _ h=>h) [6,11];have hset:Av.settle [6,11] 0 (aV [(6, .own 2 0),(11, .i (.iref q.cells))]) (upd (fun _=>none) 2 (some (.box zp)))={ env:=[(6, .own 0 0),(11, .i (.iref q.cells))],st:=[some (.box zp)] }:=by simp[zp,upd]
 rw[hset]at g17;clear g16
 refine wp_mono (GR.fF dE (G:=GS 9) (S:={ env:=[(6, .own 0 0),(11, .i (.iref q.cells))],st:=[some (.box zp)] }) (e:=.ret) (S':={ env:=[(0, .junk),(1, .junk),(2, .junk),(3, .junk),(5, .junk),(6, .own 0 0),(7, .bool true),(8, .junk),(9, .junk),(10, .junk),(11, .i (.iref q.cells)),(15, .junk),(21, .junk),(36, .junk)],st:=[bxP q] }) nS (by kernel_rfl) (by
  simp only[bxP];rw[Pn.aA q]
  simp[zp]) g17) ?_
 rintro _ a12 w13 ⟨rfl,g18⟩;obtain⟨⟨m,φ,q1,q2,q3,q4,q5⟩,q6,q7⟩:=g18
 obtain⟨v,k1,k2⟩:=iH (C:=C0) (fn:=Tryz.f9) (keep:=false) (na:=0) (S:={ env:=[(0, .junk),(1, .junk),(2, .junk),(3, .junk),(5, .junk),(6, .own 0 0),(7, .bool true),(8, .junk),(9, .junk),(10, .junk),(11, .i (.iref q.cells)),(15, .junk),(21, .junk),(36, .junk)],st:=[bxP q] }) (r:=.tup [.i (.agg q.cells), .bool true]) (stl':=[]) (fun id h=>absurd rfl h) ⟨⟨⟨m,φ,q1,q2,q3,q4, .nil _ _ _⟩,q6,q7⟩,x8 _⟩ (by
  show finish C0 false [ResultVar.cell 6 27,ResultVar.tmp 7] 0 _=_;simp only[bxP];rw[Pn.aA q]
  simp)
 exact⟨q7,v,k1,k2⟩
end Go.Proofs.YtnmimmaahhlgeaaGreat.P
namespace Go.Proofs.YtnmimmaahhlgeaaGreat.P
open Go Go.Av
set_option maxRecDepth 4000
set_option maxHeartbeats 4000000
end Go.Proofs.YtnmimmaahhlgeaaGreat.P
namespace Go.Proofs.YtnmimmaahhlgeaaGreat
open Go Go.Av
set_option maxRecDepth 4000
noncomputable def AJR:FuncId→Option (List AV→StL→Option (AV×StL))
 | 1000000007=>none
 | 129=>none
 | 80=>none
 | 45=>some (XC (aH C0) 45)
 | 128=>some (AS7 (aH C0) 128)
 | g=>some (aH C0 g)
def AJY:FuncId→Bool
 | 45=>true
 | g=>bX g
@[simp] theorem AcQ (g:FuncId):AJY g=if g=45 then true else bX g:=by
  unfold AJY;split
  ·rfl
  ·rename_i h;rw[if_neg h]
noncomputable def CP:Ctx:={ P:=Tryz.prog,G:=GS,ownArgs:=AJY,keepRes:=keepR,eqT:=MU,prim:=AJR }
@[simp] theorem AwW:CP.P=Tryz.prog:=(rfl)
@[simp] theorem AwX (f):CP.G f=GS f:=(rfl)
@[simp] theorem AwT (f):CP.ownArgs f=AJY f:=(rfl)
@[simp] theorem AwU (f):CP.keepRes f=keepR f:=(rfl)
@[simp] theorem AwV (f):CP.eqT f=MU f:=(rfl)
@[simp] theorem AwS:CP.tree=false:=(rfl)
theorem WJ:PrimOk CP:=by
 have h0:=bH dE
 have key:∀ g q,CP.prim g=some q→g≠uF∧(q=aH C0 g∨q=XC (aH C0) g∨q=Ad9 (aH C0) g∨q=AS7 (aH C0) g):=by
  intro g q h;have h:AJR g=some q:=h;unfold AJR at h;split at h
  all_goals first
   | (cases h;done)
   | (injection h with h;subst h;exact⟨by decide, .inr (.inl rfl)⟩)
   | (injection h with h;subst h;exact⟨by decide, .inr (.inr (.inl rfl))⟩)
   | (injection h with h;subst h;exact⟨by decide, .inr (.inr (.inr rfl))⟩)
   | (injection h with h;subst h;exact⟨by assumption, .inl rfl⟩)
 constructor
 ·intro g args st p h;unfold dH at h
  cases hq:CP.prim g with
  | none=>rw[hq]at h;cases h
  | some q =>
   rw[hq]at h;obtain⟨hy,hor⟩:=key g q hq
   rcases hor with rfl|rfl|rfl|rfl
   ·exact h0.name _ _ _ _ hy h
   ·exact(PV h0 (r:=p.1) (stl':=p.2) h hy).1
   ·exact(QG h0 (r:=p.1) (stl':=p.2) h hy).1
   ·exact(QE h0 (r:=p.1) (stl':=p.2) h hy).1
 ·intro g args st r st' h w m φ vs hi hr hb;unfold dH at h
  cases hq:CP.prim g with
  | none=>rw[hq]at h;cases h
  | some q =>
   rw[hq]at h;obtain⟨hy,hor⟩:=key g q hq
   rcases hor with rfl|rfl|rfl|rfl
   ·exact h0.calls _ _ _ _ _ hy h w m φ vs hi hr hb
   ·exact(PV h0 h hy).2 w m φ vs hi hr hb
   ·exact(QG h0 h hy).2 w m φ vs hi hr hb
   ·exact(QE h0 h hy).2 w m φ vs hi hr hb
theorem ARQ:SoundOk CP:=mO (C:=CP) ft nt eqS mo WJ
end Go.Proofs.YtnmimmaahhlgeaaGreat
namespace Go.Av
end Go.Av
namespace Go.Proofs.YtnmimmaahhlgeaaGreat.P
open Go Go.Av
set_option maxRecDepth 4000
set_option maxHeartbeats 4000000
@[simp] theorem AdU (a:List AV) (st:StL):aH CP 40 a st=aH C0 40 a st:=by rw[aN (p:=aH C0 40) rfl]
@[simp] theorem Af0 (a:List AV) (st:StL):aH CP 81 a st=aH C0 81 a st:=by rw[aN (p:=aH C0 81) rfl]
@[simp] theorem AdW (a:List AV) (st:StL):aH CP 131 a st=aH C0 131 a st:=by rw[aN (p:=aH C0 131) rfl]
@[simp] theorem AdV (a:List AV) (st:StL):aH CP 132 a st=aH C0 132 a st:=by rw[aN (p:=aH C0 132) rfl]
@[simp] theorem AVW (a:List AV) (st:StL):aH CP 130 a st=aH C0 130 a st:=by rw[aN (p:=aH C0 130) rfl]
theorem MZ (p:Pn) (hp:p.thin):aH CP 128 [.i (.agg p.cells)] []=some (.i (.agg p.cells),[]):=by
 have h:=BS p hp;rw[aN (p:=AS7 (aH C0) 128) rfl];unfold AS7;by_cases he:p.exprs=[]
 ·by_cases hk:p.kids=[]
  ·simp[pcX,pcS,hk,he,Pn.aB,Ex.aB]at h;simp[h];rw[Pn.aA];simp[hk,he,Pn.aB,Ex.aB]
  ·have hkl:p.kids.length≠0:=fun h=>hk (zW.1 h)
   simp[pcX,pcS,hk,he,aL hkl,aI hkl,Ex.aB]at h;simp[h];rw[Pn.aA];simp[hk,he,Ex.aB]
 ·have hel:p.exprs.length≠0:=fun h=>he (zW.1 h)
  by_cases hk:p.kids=[]
  ·simp[pcX,pcS,hk,he,aL hel,aI hel,Pn.aB]at h;simp[h];rw[Pn.aA];simp[hk,he,Pn.aB]
  ·have hkl:p.kids.length≠0:=fun h=>hk (zW.1 h)
   simp[pcX,pcS,hk,he,aL hel,aI hel,aL hkl,aI hkl]at h;simp[h];rw[Pn.aA]
theorem iT {ws:List Int} (hw:∀ w∈ws,0≤w∧w≤6) (hwl:ws.length<1000000) {k:Nat} (hk0:0<k) (hk:k≤ws.length) (p:Pn) (hp:p.thin):aH CP 45 [.i (.agg p.cells), .osl 0 1 0 k, .int 8] [some (.arr 1 (aG ws))]=some (.int (p.wd (ws.take k) 8),[some (.arr 1 (aG ws))]):=by
 have h:=nW (ws:=ws.take k) (fun w hm=>hw w (zI hm)) (by simp;omega) p (Pn.wP p hp) 8 (by omega);rw[aN (p:=XC (aH C0) 45) rfl];unfold XC;simp at h;simp[OO,UU,h,hk,hk0,pO]
def cB (e:Ex) (p:Pn):Pn:=.mk 2 0 [e] [] [p]
theorem bS (e:Ex) (p:Pn):(cB e p).cells=[.int 2, .int 0, .isl [e.cells], .isl [], .isl [p.cells]]:=by simp[cB,Pn.cells,Ex.aB,aG,Pn.aB]
theorem fV (e:Ex) (p:Pn):aH C0 130 [.i (.agg e.cells), .i (.agg p.cells)] []=some (.i (.agg (cB e p).cells),[]):=by
 rw[aD rfl Tryz.func130 rfl rfl,bS,Ex.aA,Pn.aA];simp
theorem dA {e:Ex} {p:Pn} (he:e.size<1000000) (hp:p.thin):(cB e p).thin:=by
 have:=Ex.bP e (by omega);simp[cB,Pn.thin,Pn.iA,this,hp]
noncomputable def AJQ:FuncId→Option (List AV→StL→Option (AV×StL))
 | 129=>some (aH CP 129)
 | 130=>some (qA C0 true 130)
 | g=>AJR g
noncomputable def CQ:Ctx:={ P:=Tryz.prog,G:=GS,ownArgs:=AJY,keepRes:=keepR,eqT:=MU,prim:=AJQ }
@[simp] theorem AwQ:CQ.P=Tryz.prog:=(rfl)
@[simp] theorem AwR (f):CQ.G f=GS f:=(rfl)
@[simp] theorem AwN (f):CQ.ownArgs f=AJY f:=(rfl)
@[simp] theorem AwO (f):CQ.keepRes f=keepR f:=(rfl)
@[simp] theorem AwP (f):CQ.eqT f=MU f:=(rfl)
@[simp] theorem AwM:CQ.tree=false:=(rfl)
theorem AZD:PrimOk CQ:=by
 have hP:=bH ARQ;constructor
 ·intro g args st p h;unfold dH at h
  cases hq:CQ.prim g with
  | none=>rw[hq]at h;cases h
  | some q =>
   rw[hq]at h;have hq:AJQ g=some q:=hq;unfold AJQ at hq;split at hq
   ·injection hq with hq;subst hq;exact hP.name _ _ _ _ (by decide) h
   ·injection hq with hq;subst hq;exact(jJ dE (r:=p.1) (stl':=p.2) h).1
   ·exact WJ.name g args st p (by unfold dH;rw[show CP.prim g=some q from hq];exact h)
 ·intro g args st r st' h w m φ vs hi hr hb;unfold dH at h
  cases hq:CQ.prim g with
  | none=>rw[hq]at h;cases h
  | some q =>
   rw[hq]at h;have hq:AJQ g=some q:=hq;unfold AJQ at hq;split at hq
   ·injection hq with hq;subst hq;exact hP.calls _ _ _ _ _ (by decide) h w m φ vs hi hr hb
   ·injection hq with hq;subst hq;exact(jJ dE h).2 w m φ vs hi hr hb
   ·exact WJ.calls g args st r st' (by unfold dH;rw[show CP.prim g=some q from hq];exact h) w m φ vs hi hr hb
theorem ARP:SoundOk CQ:=mO (C:=CQ) ft nt eqS mo AZD
noncomputable def AFJ:FuncId→Option (List AV→StL→Option (AV×StL))
 | 1000000007=>none
 | 38=>none
 | 80=>none
 | 33=>none
 | 75=>none
 | 129=>some (qA CQ true 129)
 | 130=>some (qA C0 true 130)
 | 45=>some (AFY (aH C0) 45)
 | g=>AJR g
def APC (g:FuncId):Bool:=keepR g || decide (g=80)
noncomputable def CR:Ctx:={ P:=Tryz.prog,G:=GS,ownArgs:=AJY,keepRes:=APC,eqT:=MU,prim:=AFJ }
@[simp] theorem AwK:CR.P=Tryz.prog:=(rfl)
@[simp] theorem AwL (f):CR.G f=GS f:=(rfl)
@[simp] theorem AwH (f):CR.ownArgs f=AJY f:=(rfl)
@[simp] theorem AwI (f):CR.keepRes f=(keepR f || decide (f=80)):=(rfl)
@[simp] theorem AwJ (f):CR.eqT f=MU f:=(rfl)
@[simp] theorem AwG:CR.tree=false:=(rfl)
theorem AJP:PrimOk CR:=by
 constructor
 ·intro g args st p h;unfold dH at h
  cases hq:CR.prim g with
  | none=>rw[hq]at h;cases h
  | some q =>
   rw[hq]at h;have hq:AFJ g=some q:=hq;unfold AFJ at hq;split at hq
   all_goals first
    | (cases hq;done)
    | (injection hq with hq;subst hq;exact(jJ ARP (r:=p.1) (stl':=p.2) h).1)
    | (injection hq with hq;subst hq;exact(jJ dE (r:=p.1) (stl':=p.2) h).1)
    | (injection hq with hq;subst hq;exact(LP (bH dE) (r:=p.1) (stl':=p.2) h (by decide)).1)
    | exact WJ.name g args st p (by unfold dH;rw[show CP.prim g=some q from hq];exact h)
 ·intro g args st r st' h w m φ vs hi hr hb;unfold dH at h
  cases hq:CR.prim g with
  | none=>rw[hq]at h;cases h
  | some q =>
   rw[hq]at h;have hq:AFJ g=some q:=hq;unfold AFJ at hq;split at hq
   all_goals first
    | (cases hq;done)
    | (injection hq with hq;subst hq;exact(jJ ARP h).2 w m φ vs hi hr hb)
    | (injection hq with hq;subst hq;exact(jJ dE h).2 w m φ vs hi hr hb)
    | (injection hq with hq;subst hq;exact(LP (bH dE) h (by decide)).2 w m φ vs hi hr hb)
    | exact WJ.calls g args st r st' (by unfold dH;rw[show CP.prim g=some q from hq];exact h) w m φ vs hi hr hb
theorem AIN:SoundOk CR:=mO (C:=CR) ft nt eqS mo AJP
end Go.Proofs.YtnmimmaahhlgeaaGreat.P
namespace Go.Av
def Val.cmp (a b:Val):Int:=if a.null=true then(if b.null=true then 0 else -1)else if b.null=true then 1 else if a.n<b.n then -1 else if b.n<a.n then 1 else 0
theorem Val.AQ7 (a:Val):Val.cmp a a=0:=by unfold Val.cmp;split<;>simp
theorem Val.AW4 (a b:Val):Val.cmp b a=- Val.cmp a b:=by
 unfold Val.cmp
 cases a.null<;>cases b.null<;>simp
 split<;>split<;>(try split)<;>omega
theorem NA (a b:Val):(Val.cmp a b=-1∧((a.null=true∧b.null=false)∨(a.null=false∧b.null=false∧a.n<b.n)))∨(Val.cmp a b=0∧((a.null=true∧b.null=true)∨(a.null=false∧b.null=false∧a.n=b.n)))∨(Val.cmp a b=1∧((a.null=false∧b.null=true)∨(a.null=false∧b.null=false∧b.n<a.n))):=by
 unfold Val.cmp;by_cases h1:a.n<b.n<;>by_cases h2:b.n<a.n<;>cases a.null<;>cases b.null<;>simp[h1,h2]<;>omega
theorem Val.ALY {a b c:Val} (h1:Val.cmp a b≤0) (h2:Val.cmp b c≤0):Val.cmp a c≤0∧(Val.cmp a c=0→Val.cmp a b=0∧Val.cmp b c=0):=by
 rcases NA a b with ⟨e1,q1⟩|⟨e1,q1⟩|⟨e1,q1⟩<;>rcases NA b c with ⟨e2,q2⟩|⟨e2,q2⟩|⟨e2,q2⟩<;>rcases NA a c with ⟨e3,q3⟩|⟨e3,q3⟩|⟨e3,q3⟩<;>(try omega) <;>
  (rcases q1 with ⟨x1,x2⟩|⟨x1,x2,x3⟩<;>rcases q2 with ⟨y1,y2⟩|⟨y1,y2,y3⟩<;>rcases q3 with ⟨z1,z2⟩|⟨z1,z2,z3⟩<;>simp_all<;>omega)
theorem Val.AQ6 {a b:Val} (ha:a.ok=true) (hb:b.ok=true) (h:Val.cmp a b=0):a=b:=by
 obtain⟨x,n⟩:=a;obtain⟨y,k⟩:=b;unfold Val.cmp at h
 cases x<;>cases y<;>simp[Val.ok]at *<;>(try omega)
 repeat' split at h
 all_goals omega
def bR:List Val→List Val→Int
 | [],[]=>0
 | [],_::_=>-1
 | _::_,[]=>1
 | a::l,b::m=>if Val.cmp a b=0 then bR l m else Val.cmp a b
theorem jF:∀ l:List Val,bR l l=0
 | []=>rfl
 | a::l=>by simp[bR,Val.AQ7,jF l]
theorem iU:∀ a b:List Val,bR b a=- bR a b
 | [],[]=>rfl
 | [],_::_=>rfl
 | _::_,[]=>rfl
 | a::l,b::m=>by
  simp only[bR,Val.AW4 a b,iU l m];split<;>split<;>omega
theorem qH:∀ {a b c:List Val},bR a b≤0→bR b c≤0→bR a c≤0
 | [],_,[],_,_=>by simp[bR]
 | [],_,_::_,_,_=>by simp[bR]
 | _::_,[],_,h,_=>by simp[bR]at h
 | _::_,_::_,[],_,h=>by simp[bR]at h
 | a::l,b::m,c::n,h1,h2=>by
  simp only[bR]at *
  have k1:Val.cmp a b≤0:=by split at h1<;>omega
  have k2:Val.cmp b c≤0:=by split at h2<;>omega
  obtain⟨k3,k4⟩:=Val.ALY k1 k2;split
  ·rename_i h0;obtain⟨k5,k6⟩:=k4 h0;rw[if_pos k5]at h1;rw[if_pos k6]at h2;exact qH h1 h2
  ·exact k3
theorem kN:∀ {a b:List Val},a.all Val.ok=true→b.all Val.ok=true→bR a b=0→a=b
 | [],[],_,_,_=>rfl
 | [],_::_,_,_,h=>by simp[bR]at h
 | _::_,[],_,_,h=>by simp[bR]at h
 | a::l,b::m,h1,h2,h=>by
  simp only[zE0,zU]at h1 h2;simp only[bR]at h;split at h
  ·rename_i h0;rw[Val.AQ6 h1.1 h2.1 h0,kN h1.2 h2.2 h]
  ·rename_i h0;exact absurd h h0
def fA (a b:List Val):Bool:=decide (bR a b≤0)
theorem AA1 (a b:List Val):fA a b=true∨fA b a=true:=by
 unfold fA;have:=iU a b;simp;omega
theorem oL (a:List Val):fA a a=true:=by simp[fA,jF]
theorem oZ {a b c:List Val} (h1:fA a b=true) (h2:fA b c=true):fA a c=true:=by
 unfold fA at *
 simp only[zS]at *
 exact qH h1 h2
theorem FC {a b:List Val} (ha:a.all Val.ok=true) (hb:b.all Val.ok=true) (h1:fA a b=true) (h2:fA b a=true):a=b:=by
 unfold fA at *
 simp only[zS]at *
 have:=iU a b;exact kN ha hb (by omega)
theorem AIZ {a b:List Val} (h:fA a b=false):fA b a=true:=(AA1 a b).resolve_left (by simp[h])
abbrev Srt (l:List (List Val)):Prop:=l.Pairwise fun a b=>fA a b=true
abbrev oks (l:List (List Val)):Prop:=∀ r∈l,r.all Val.ok=true
def AHP (l:List (List Val)) (r:List Val):List (List Val):=l.takeWhile (fun x=>fA x r)++r::l.dropWhile (fun x=>fA x r)
theorem AKZ (l:List (List Val)) (r:List Val):(AHP l r).Perm (r::l):=by
 unfold AHP;have:=List.takeWhile_append_dropWhile (p:=fun x=>fA x r) (l:=l);refine xC.trans ?_;rw[this]
theorem rY {α:Type} {p:α→Bool}:∀ {l:List α} {x:α},x∈l.takeWhile p→p x=true∧x∈l
 | [],x,h=>by simp at h
 | a::l,x,h=>by
  rw[List.takeWhile_cons]at h;split at h
  ·rename_i ha
   rcases zP.1 h with rfl|h
   ·exact⟨ha,by simp⟩
   ·obtain⟨h1,h2⟩:=rY h;exact⟨h1,zA3 _ h2⟩
  ·simp at h
theorem RD {α:Type} (p:α→Bool) (l:List α):(l.takeWhile p).Sublist l:=List.takeWhile_sublist p
theorem wD {r:List Val}:∀ {l:List (List Val)},Srt l→∀ x∈l.dropWhile (fun x=>fA x r),fA r x=true
 | [],_,x,h=>by simp at h
 | a::l,hs,x,h=>by
  rw[List.dropWhile_cons]at h;have hs:=y8.1 hs;split at h
  ·exact wD hs.2 x h
  ·rename_i ha;have hra:=AIZ (Bool.eq_false_iff.2 ha)
   rcases zP.1 h with rfl|h
   ·exact hra
   ·exact oZ hra (hs.1 x h)
theorem API {l:List (List Val)} {r:List Val} (h:Srt l):Srt (AHP l r):=by
 unfold AHP;rw[Srt,yC,y8];refine⟨h.sublist (RD _ _),⟨fun x hx=>wD h x hx,h.sublist (List.dropWhile_sublist _)⟩,fun a ha b hb=>?_⟩;have h1:=(rY ha).1
 rcases zP.1 hb with rfl|hb
 ·exact h1
 ·exact oZ h1 (wD h b hb)
def dF (l:List (List Val)):List (List Val):=l.foldl AHP []
theorem FU:∀ (l acc:List (List Val)),Srt acc→Srt (l.foldl AHP acc)∧(l.foldl AHP acc).Perm (l++acc)
 | [],acc,h=>⟨h, .refl _⟩
 | r::l,acc,h=>by
  obtain⟨h1,h2⟩:=FU l (AHP acc r) (API h);refine⟨h1,h2.trans ?_⟩;refine(xR l (AKZ acc r)).trans ?_;exact xC
theorem rU (l:List (List Val)):Srt (dF l):=(FU l [] .nil).1
theorem jN (l:List (List Val)):(dF l).Perm l:=by have:=(FU l [] .nil).2;rwa [xZ]at this
theorem bA (l:List (List Val)):(dF l).length=l.length:=(jN l).length_eq
theorem AC4:∀ {l m:List (List Val)},l.Perm m→Srt l→Srt m→oks l→l=m
 | [],m,hp,_,_,_=>by simpa using hp.symm.eq_nil.symm
 | a::l,[],hp,_,_,_=>by simpa using hp.eq_nil
 | a::l,b::m,hp,h1,h2,ho=>by
  have h1':=y8.1 h1;have h2':=y8.1 h2;have hb:b∈a::l:=hp.mem_iff.2 (by simp);have ha:a∈b::m:=hp.mem_iff.1 (by simp)
  have k1:fA a b=true:=by
   rcases zP.1 hb with rfl|hb
   ·exact oL _
   ·exact h1'.1 b hb
  have k2:fA b a=true:=by
   rcases zP.1 ha with rfl|ha
   ·exact oL _
   ·exact h2'.1 a ha
  have e:=FC (ho a (by simp)) (ho b hb) k1 k2;subst e;rw[AC4 (List.Perm.cons_inv hp) h1'.2 h2'.2 fun r hr=>ho r (zA3 _ hr)]
theorem DZ {l m:List (List Val)} (hp:l.Perm m) (h:oks l):oks m:=fun r hr=>h r (hp.mem_iff.2 hr)
theorem RL {l m:List (List Val)} (hp:m.Perm l) (hs:Srt m) (ho:oks l):m=dF l :=
 AC4 (hp.trans (jN l).symm) hs (rU l) (DZ hp.symm ho)
theorem RJ {l:List (List Val)} (hs:Srt l) (ho:oks l):dF l=l:=(RL (.refl l) hs ho).symm
theorem K7 {l m:List (List Val)} (hp:l.Perm m) (ho:oks l):dF l=dF m :=
 RL ((jN l).trans hp) (rU l) (DZ hp ho)
theorem AIO {l:List (List Val)} (ho:oks l):oks (dF l):=DZ (jN l).symm ho
theorem iB {l:List (List Val)} {r:List Val}:r∈dF l↔r∈l:=(jN l).mem_iff
def aM (l:List (List Val)):List (List IV):=l.map fun r=>[.isl (aP r)]
@[simp] theorem qG (l:List (List Val)):(aM l).length=l.length:=by simp[aM]
theorem bI:aM []=[]:=rfl
theorem bO (r:List Val) (l:List (List Val)):aM (r::l)=[.isl (aP r)]::aM l:=rfl
theorem bW:∀ {l:List (List Val)} {i:Nat} {r:List Val},l[i]?=some r→fH (aM l) i=some [.isl (aP r)]
 | [],_,_,h=>by simp at h
 | a::l,0,r,h=>by simp at h;subst h;simp[aM,fH]
 | a::l,i+1,r,h=>by simp only[aM,yQ,fH];exact bW (l:=l) (by simpa using h)
@[simp] theorem ARR (l:List (List Val)):gX 1 (aM l)=true:=by simp[aM,gX]
theorem bV (a b:List (List Val)):aM (a++b)=aM a++aM b:=by simp[aM]
@[simp] theorem AX6 (n:Nat) (l:List (List Val)):(aM l).take n=aM (l.take n):=by simp[aM,xE]
@[simp] theorem AX7 (n:Nat) (l:List (List Val)):(aM l).drop n=aM (l.drop n):=by simp[aM,List.map_drop]
structure Tbl where
 w:Int
 rows:List (List Val)
def Tbl.cells (t:Tbl):List IV:=[.int t.w, .isl (aM t.rows)]
def jL (l:List Tbl):List (List IV):=l.map Tbl.cells
@[simp] theorem ARB (l:List Tbl):(jL l).length=l.length:=by simp[jL]
theorem oU:∀ {l:List Tbl} {i:Nat} {t:Tbl},l[i]?=some t→fH (jL l) i=some [.int t.w, .isl (aM t.rows)]
 | [],_,_,h=>by simp at h
 | a::l,0,r,h=>by simp at h;subst h;simp[jL,fH,Tbl.cells]
 | a::l,i+1,r,h=>by simp only[jL,yQ,fH];exact oU (l:=l) (by simpa using h)
theorem V9 (a b:List Tbl):jL (a++b)=jL a++jL b:=by simp[jL]
def tab (w:Int) (rows:List (List Val)):Tbl:=if 400<rows.length then⟨w,[]⟩else⟨w,dF rows⟩
def chainB:List (List Val)→Bool
 | a::b::l=>fA a b && chainB (b::l)
 | _=>true
theorem FZ:∀ {l:List (List Val)},chainB l=true↔Srt l
 | []=>by simp[chainB]
 | [a]=>by simp[chainB]
 | a::b::l=>by
  rw[chainB,zU,FZ,Srt,Srt,y8 (a:=a)];constructor
  ·rintro⟨h1,h2⟩;refine⟨fun x hx=>?_,h2⟩
   rcases zP.1 hx with rfl|hx
   ·exact h1
   ·exact oZ h1 ((y8.1 h2).1 x hx)
  ·rintro⟨h1,h2⟩;exact⟨h1 b (by simp),h2⟩
def rowOk (w:Int) (r:List Val):Bool:=decide ((r.length:Int)=w) && r.all Val.ok
def Tbl.ok (t:Tbl):Bool:=bG t.w && (decide (t.rows.length≤400) && (t.rows.all (rowOk t.w) && chainB t.rows))
def isT (e:Ex) (r:List Val):Bool:=decide ((e.ev r).tr=2)
def uI (n:Int):List Val:=List.replicate n.toNat ⟨true,0⟩
def jH (e:Ex) (rs:List (List Val)) (r:List Val):List (List Val):=(rs.map (r ++ ·)).filter (isT e)
def joinL (e:Ex) (outer:Bool) (w:Int) (rs:List (List Val)) (r:List Val):List (List Val) :=
 if(outer && (jH e rs r).isEmpty)=true then [r++uI w]else jH e rs r
def fD (e:Ex) (outer:Bool) (a b:Tbl):List (List Val):=a.rows.flatMap (joinL e outer b.w b.rows)
def dd:List Val→List (List Val)→List (List Val)
 | _,[]=>[]
 | p,a::l=>if bR p a=0 then dd a l else a::dd a l
def iQ:List (List Val)→List (List Val)
 | []=>[]
 | a::l=>a::dd a l
def aZ (cs:List Int) (r:List Val):List Val:=cs.map fun c=>(r[c.toNat]?).getD Val.zero
def bump (key:List Val):List (List Val×Nat)→List (List Val×Nat)
 | []=>[(key,1)]
 | g::l=>if bR g.1 key=0 then(g.1,g.2+1)::l else g::bump key l
def groups (cs:List Int) (rows:List (List Val)):List (List Val×Nat):=rows.foldl (fun acc r=>bump (aZ cs r) acc) []
def iO (g:List Val×Nat):List Val:=g.1++[⟨false,(g.2:Int)⟩]
def iP (cs:List Int) (rows:List (List Val)):List (List Val):=(groups cs rows).map iO
def ABX:Tbl:=⟨0,[]⟩
def exO (es:List Ex):Ex:=(es[0]?).getD (.mk 0 0 Val.zero [])
def evK (db:List Tbl) (k t:Int) (es:List Ex) (cs:List Int) (a b:Tbl):Tbl :=
 if k=1 then tab ((db[t.toNat]?).getD ABX).w ((db[t.toNat]?).getD ABX).rows
 else if k=2 then tab a.w (a.rows.filter (isT (exO es)))
 else if k=3 then tab es.length (a.rows.map fun r=>es.map (Ex.ev r))
 else if k=4∨k=5 then tab (a.w+b.w) (fD (exO es) (decide (k=5)) a b)
 else if k=6 then tab a.w (a.rows++b.rows)
 else if k=7 then tab a.w (iQ a.rows)
 else tab ((cs.length:Int)+1) (iP cs a.rows)
mutual
def Pn.evP (db:List Tbl):Pn→Tbl
 | .mk k t es cs ks=>evK db k t es cs (((Pn.AXI db ks)[0]?).getD ABX) (((Pn.AXI db ks)[1]?).getD ABX)
def Pn.AXI (db:List Tbl):List Pn→List Tbl
 | []=>[]
 | p::ps=>Pn.evP db p::Pn.AXI db ps
end
theorem Pn.ADB (db:List Tbl):∀ l:List Pn,Pn.AXI db l=l.map (Pn.evP db)
 | []=>by simp[Pn.AXI]
 | p::l=>by simp[Pn.AXI,Pn.ADB db l]
theorem Pn.BC (db:List Tbl) (p:Pn):p.evP db=evK db p.kind p.table p.exprs p.cols ((p.kids[0]?.map (Pn.evP db)).getD ABX) ((p.kids[1]?.map (Pn.evP db)).getD ABX):=by
 cases p;simp[Pn.evP,Pn.ADB,Pn.kind,Pn.table,Pn.exprs,Pn.cols,Pn.kids]
theorem EK (db:List Tbl) (t:Int):(Pn.scan t).evP db=tab ((db[t.toNat]?).getD ABX).w ((db[t.toNat]?).getD ABX).rows:=by
 rw[Pn.BC];rfl
theorem oF (db:List Tbl) (e:Ex) (a:Pn):(filt e a).evP db=tab (a.evP db).w ((a.evP db).rows.filter (isT e)):=by
 rw[Pn.BC];rfl
theorem kL (db:List Tbl) (es:List Ex) (a:Pn):(proj es a).evP db=tab es.length ((a.evP db).rows.map fun r=>es.map (Ex.ev r)):=by
 rw[Pn.BC];rfl
theorem kM (db:List Tbl) {k:Int} (hk:k=4∨k=5) (e:Ex) (a b:Pn):(aY k e a b).evP db=tab ((a.evP db).w+(b.evP db).w) (fD e (decide (k=5)) (a.evP db) (b.evP db)):=by
 rw[Pn.BC];rcases hk with rfl|rfl<;>rfl
theorem pI (db:List Tbl) (a b:Pn):(cK a b).evP db=tab (a.evP db).w ((a.evP db).rows++(b.evP db).rows):=by
 rw[Pn.BC];rfl
theorem tX (db:List Tbl) (a:Pn):(Pn.mk 7 0 [] [] [a]).evP db=tab (a.evP db).w (iQ (a.evP db).rows):=by
 rw[Pn.BC];rfl
theorem sG (db:List Tbl) (cs:List Int) (a:Pn):(Pn.mk 8 0 [] cs [a]).evP db=tab ((cs.length:Int)+1) (iP cs (a.evP db).rows):=by
 rw[Pn.BC];rfl
mutual
def Pn.cost (db:List Tbl):Pn→Nat
 | .mk k t es cs ks=>Pn.FW db ks+((Pn.mk k t es cs ks).evP db).rows.length
def Pn.FW (db:List Tbl):List Pn→Nat
 | []=>0
 | p::ps=>Pn.cost db p+Pn.FW db ps
end
theorem Pn.wE (db:List Tbl) (p:Pn):p.cost db=Pn.FW db p.kids+(p.evP db).rows.length:=by
 cases p;simp[Pn.cost,Pn.kids]
theorem uU (w:Int) (rows:List (List Val)):(tab w rows).w=w:=by unfold tab;split<;>rfl
theorem dZ {w:Int} {rows:List (List Val)} (h:rows.length≤400):(tab w rows).rows=dF rows:=by unfold tab;rw[if_neg (by omega)]
theorem sU (w:Int) (rows:List (List Val)):(tab w rows).rows.length≤400∧(tab w rows).rows.length≤rows.length:=by
 unfold tab;split
 ·simp
 ·simp only[bA];omega
theorem ATB {w:Int} {rows:List (List Val)} {r:List Val} (h:r∈(tab w rows).rows):r∈rows:=by
 unfold tab at h;split at h
 ·simp at h
 ·exact iB.1 h
theorem Tbl.dN (t:Tbl):t.ok=true↔bG t.w=true∧t.rows.length≤400∧(∀ r∈t.rows,rowOk t.w r=true)∧Srt t.rows:=by
 unfold Tbl.ok;simp only[zU,zS,zR,FZ]
theorem OX {w:Int} {rows:List (List Val)} (hw:bG w=true) (h:∀ r∈rows,rowOk w r=true):(tab w rows).ok=true:=by
 rw[Tbl.dN,uU];refine⟨hw,(sU _ _).1,fun r hr=>h r (ATB hr),?_⟩;unfold tab;split
 ·exact .nil
 ·exact rU _
theorem mP {w:Int} {r:List Val} (h:rowOk w r=true):r.all Val.ok=true:=by unfold rowOk at h;simp only[zU]at h;exact h.2
theorem lD {w:Int} {r:List Val} (h:rowOk w r=true):(r.length:Int)=w:=by unfold rowOk at h;simp only[zU,zS]at h;exact h.1
theorem Tbl.WY {t:Tbl} (h:t.ok=true):oks t.rows:=fun r hr=>mP ((Tbl.dN t).1 h |>.2.2.1 r hr)
theorem AY9 {t:Tbl} (h:t.ok=true):tab t.w t.rows=t:=by
 obtain⟨h1,h2,h3,h4⟩:=(Tbl.dN t).1 h;unfold tab;rw[if_neg (by omega),RJ h4 (Tbl.WY h)]
theorem JU {w:Int} {l m:List (List Val)} (hp:l.Perm m) (ho:oks l):tab w l=tab w m:=by
 unfold tab;rw[hp.length_eq,K7 hp ho]
theorem ALH {e:Ex} {w:Int} {r:List Val} (hr:rowOk w r=true) (he:e.ok w=true):(e.ev r).ok=true:=by
 have hl:=lD hr;exact AVL r hl.symm (mP hr) e (by simp[Ex.ok,Ex.NS]at he;exact he.2.1)
theorem ALP:∀ (p:List Val) (l:List (List Val)),(dd p l).Sublist l
 | _,[]=>.slnil
 | p,a::l=>by
  simp only[dd];split
  ·exact(ALP a l).cons a
  ·exact(ALP a l).cons_cons a
theorem lQ:∀ l:List (List Val),(iQ l).Sublist l
 | []=>.slnil
 | a::l=>(ALP a l).cons_cons a
theorem ADY (key:List Val):∀ l:List (List Val×Nat),(bump key l).length≤l.length+1
 | []=>by simp[bump]
 | g::l=>by simp only[bump];split<;>simp[ADY key l]
theorem wH (key:List Val) (q:List Val→Prop) (hk:q key):∀ l:List (List Val×Nat),(∀ g∈l,q g.1)→∀ g∈bump key l,q g.1
 | [],_,g,h=>by simp[bump]at h;subst h;exact hk
 | a::l,hl,g,h=>by
  simp only[bump]at h;split at h
  ·rcases zP.1 h with rfl|h
   ·exact hl a (by simp)
   ·exact hl g (by simp[h])
  ·rcases zP.1 h with rfl|h
   ·exact hl g (by simp)
   ·exact wH key q hk l (fun x hx=>hl x (by simp[hx])) g h
theorem ADU (key:List Val):∀ l:List (List Val×Nat),((bump key l).map (·.2)).sum=(l.map (·.2)).sum+1
 | []=>by simp[bump]
 | a::l=>by
  simp only[bump];split
  ·simp;omega
  ·simp only[yQ,List.sum_cons,ADU key l];omega
theorem QH (cs:List Int) (q:List Val→Prop):∀ (rows:List (List Val)) (acc:List (List Val×Nat)),(∀ r∈rows,q (aZ cs r))→(∀ g∈acc,q g.1) →
 (∀ g∈rows.foldl (fun acc r=>bump (aZ cs r) acc) acc,q g.1)∧(rows.foldl (fun acc r=>bump (aZ cs r) acc) acc).length≤rows.length+acc.length∧((rows.foldl (fun acc r=>bump (aZ cs r) acc) acc).map (·.2)).sum=rows.length+(acc.map (·.2)).sum
 | [],acc,_,h=>⟨h,by simp,by simp⟩
 | r::rows,acc,hr,h=>by
  obtain⟨h1,h2,h3⟩:=QH cs q rows (bump (aZ cs r) acc) (fun x hx=>hr x (by simp[hx])) (wH _ q (hr r (by simp)) acc h);have:=ADY (aZ cs r) acc;have:=ADU (aZ cs r) acc;refine⟨h1,by simp only[xI,zM];omega,by simp only[xI,zM];omega⟩
theorem vR (cs:List Int) (q:List Val→Prop) (rows:List (List Val)) (h:∀ r∈rows,q (aZ cs r)):(∀ g∈groups cs rows,q g.1)∧(groups cs rows).length≤rows.length∧((groups cs rows).map (·.2)).sum=rows.length:=by
 have:=QH cs q rows [] h (by simp);simpa [groups]using this
theorem AFW {l:List Nat} {n:Nat} (h:n∈l):n≤l.sum:=by
 induction l with
 | nil=>simp at h
 | cons a l ih=>rcases zP.1 h with rfl|h<;>simp<;>(try have:=ih h)<;>omega
theorem AGC (cs:List Int) {rows:List (List Val)} {g:List Val×Nat} (h:g∈groups cs rows):g.2≤rows.length:=by
 have h1:=(vR cs (fun _=>True) rows (fun _ _=>trivial)).2.2;have h2:g.2∈(groups cs rows).map (·.2):=zG.2 ⟨g,h,rfl⟩;have:=AFW h2;omega
theorem SF {cs:List Int} {w:Int} {r:List Val} (hr:rowOk w r=true) (hc:∀ c∈cs,0≤c∧c<w):rowOk cs.length (aZ cs r)=true:=by
 unfold rowOk;simp only[zU,zS,aZ,y5,zR,zG,true_and];rintro v ⟨c,hc1,rfl⟩;have hl:=lD hr;obtain⟨h0,h1⟩:=hc c hc1;have hi:c.toNat<r.length:=by omega
 rw[zX hi];exact zR.1 (mP hr) _ (xY hi)
theorem QU {w:Int}:∀ {cs:List Int} (m:Int),((cs.zip (m::cs)).all fun x=>decide (x.2<x.1∧x.1<w))=true→(∀ c∈cs,m<c∧c<w)
 | [],m,_,c,hc=>by simp at hc
 | a::cs,m,h,c,hc=>by
  simp only[List.zip_cons_cons,zE0,zU,zS]at h
  rcases zP.1 hc with rfl|hc
  ·exact h.1
  ·have:=QU (w:=w) a h.2 c hc;omega
theorem FY {w:Int} {cs:List Int} (h:sH w cs=true):∀ c∈cs,0≤c∧c<w:=by
 intro c hc;have:=QU (w:=w) (-1) h c hc;omega
theorem vD {v w:Int} {r s:List Val} (h1:rowOk v r=true) (h2:rowOk w s=true):rowOk (v+w) (r++s)=true:=by
 unfold rowOk at *
 simp only[zU,zS,zQ,List.all_append]at *
 refine⟨by omega,h1.2,h2.2⟩
theorem AK5 {w:Int} (h:0≤w):rowOk w (uI w)=true:=by
 unfold rowOk uI;simp only[zU,zS,zB3,zR];refine⟨by omega,fun v hv=>?_⟩;rw[(List.mem_replicate.1 hv).2];rfl
theorem XM {e:Ex} {rs:List (List Val)} {r x:List Val} (h:x∈jH e rs r):∃ s∈rs,x=r++s∧isT e x=true:=by
 unfold jH at h;obtain⟨h1,h2⟩:=zD1.1 h;obtain⟨s,hs,rfl⟩:=zG.1 h1;exact⟨s,hs,rfl,h2⟩
theorem ACU {e:Ex} {o:Bool} {a b:Tbl} (ha:a.ok=true) (hb:b.ok=true):∀ r∈fD e o a b,rowOk (a.w+b.w) r=true:=by
 intro r hr;obtain⟨x,hx,hr⟩:=zG3.1 hr;have h1:=((Tbl.dN a).1 ha).2.2.1 x hx;unfold joinL at hr;split at hr
 ·simp at hr;subst hr;have:0≤b.w:=by have:=((Tbl.dN b).1 hb).1;unfold bG at this;simp at this;omega
  exact vD h1 (AK5 this)
 ·obtain⟨s,hs,rfl,_⟩:=XM hr;exact vD h1 (((Tbl.dN b).1 hb).2.2.1 s hs)
theorem d9 (n:Int):bG n=true↔1≤n∧n≤6:=by unfold bG;simp
theorem gW {ws:List Int} {db:List Tbl} (hws:ws=db.map Tbl.w) (hdb:∀ t∈db,t.ok=true):∀ (p:Pn) (lv:Nat),p.wd ws lv≠0→(p.evP db).ok=true∧(p.evP db).w=p.wd ws lv:=by
 intro p
 induction p using Pn.ind with
 | h k t es cs ks ih =>
  intro lv h;have hs:=sP h;generalize hp:Pn.mk k t es cs ks=p at hs h;have hk:ks=p.kids:=by rw[← hp];rfl
  subst hk
  cases hs with
  | scan t W h0 h1 hW =>
   rw[hws,zH]at h1;obtain⟨s,hs,rfl⟩:=zB0.1 h1;have hok:=hdb s (zV hs);rw[EK,hs];simp only[zA];rw[AY9 hok];refine⟨hok,?_⟩;rw[Pn.AA];simp[Pn.scan,Pn.headOk,kD,fB,h0,hws,hs]
  | filt m e a h1 ha he =>
   subst h1;obtain⟨k1,k2⟩:=ih a (by simp[filt]) m ha;have hw:(filt e a).wd ws (m+1)=a.wd ws m:=by rw[BF,if_pos ⟨ha,he⟩]
   rw[oF,hw,uU];obtain⟨g1,g2,g3,g4⟩:=(Tbl.dN _).1 k1;exact⟨OX g1 fun r hr=>g3 r (zD1.1 hr).1,k2⟩
  | proj m es a h1 ha hl he =>
   subst h1;obtain⟨k1,k2⟩:=ih a (by simp[proj]) m ha;have hw:(proj es a).wd ws (m+1)=es.length:=by rw[BD,if_pos ⟨ha,hl,zR.2 he⟩]
   rw[kL,hw,uU];obtain⟨g1,g2,g3,g4⟩:=(Tbl.dN _).1 k1;refine⟨OX hl fun r hr=>?_,rfl⟩;obtain⟨x,hx,rfl⟩:=zG.1 hr;have:=g3 x hx;unfold rowOk;simp only[y5,zU,zS,true_and,zR,zG];rintro v ⟨e,hem,rfl⟩;exact ALH this (by rw[k2];exact he e hem)
  | pair m k e a b h1 hk ha hb hl he =>
   subst h1;obtain⟨k1,k2⟩:=ih a (by simp[aY]) m ha;obtain⟨k3,k4⟩:=ih b (by simp[aY]) m hb;have hw:(aY k e a b).wd ws (m+1)=a.wd ws m+b.wd ws m:=by rw[uO hk,if_pos ⟨ha,hb,hl,he⟩]
   rw[kM db hk,hw,uU,k2,k4];have g1:=(d9 _).1 ((Tbl.dN _).1 k1).1;have g2:=(d9 _).1 ((Tbl.dN _).1 k3).1;refine⟨OX ((d9 _).2 (by omega)) fun r hr=>?_,rfl⟩;have:=ACU k1 k3 r hr
   rwa [k2,k4]at this
  | union m a b h1 ha hb =>
   subst h1;obtain⟨k1,k2⟩:=ih a (by simp[cK]) m ha;obtain⟨k3,k4⟩:=ih b (by simp[cK]) m (by rw[hb];exact ha);have hw:(cK a b).wd ws (m+1)=a.wd ws m:=by rw[R9,if_pos ⟨ha,hb.symm⟩]
   rw[pI,hw,uU];obtain⟨g1,g2,g3,g4⟩:=(Tbl.dN _).1 k1;obtain⟨e1,e2,e3,e4⟩:=(Tbl.dN _).1 k3;refine⟨OX g1 fun r hr=>?_,k2⟩
   rcases zT.1 hr with hr|hr
   ·exact g3 r hr
   ·have:=e3 r hr;rwa [k4,hb,← k2]at this
  | dist m a h1 ha =>
   subst h1;obtain⟨k1,k2⟩:=ih a (by simp) m ha;have hw:(Pn.mk 7 0 [] [] [a]).wd ws (m+1)=a.wd ws m:=by rw[GH (by omega),if_pos ⟨by simp[Pn.headOk,kD,fB],ha⟩];simp[dM]
   rw[tX,hw,uU];obtain⟨g1,g2,g3,g4⟩:=(Tbl.dN _).1 k1;exact⟨OX g1 fun r hr=>g3 r ((lQ _).subset hr),k2⟩
  | group m cs a h1 ha hc ho =>
   subst h1;obtain⟨k1,k2⟩:=ih a (by simp) m ha;have hw:(Pn.mk 8 0 [] cs [a]).wd ws (m+1)=(cs.length:Int)+1:=by rw[GH (by omega),if_pos ⟨by simp[Pn.headOk,kD,fB],ha⟩];simp[dM,hc,ho]
   rw[sG,hw,uU];obtain⟨g1,g2,g3,g4⟩:=(Tbl.dN _).1 k1;refine⟨OX ((d9 _).2 (by omega)) fun r hr=>?_,rfl⟩;obtain⟨g,hg,rfl⟩:=zG.1 hr;have h2:=(vR cs (fun r=>rowOk cs.length r=true) (a.evP db).rows (fun r hr=>SF (g3 r hr) (by rw[k2];exact FY ho))).1 g hg;have h3:=AGC cs hg;refine vD h2 ?_;unfold rowOk;simp[Val.ok];omega
theorem DY {α:Type} [DecidableEq α] {l m:List α} (hl:l.Nodup) (hm:m.Nodup) (h:∀ a,a∈l↔a∈m):l.Perm m:=by
 rw[List.perm_iff_count];intro a;by_cases ha:a∈l
 ·rw[hl.count,hm.count,if_pos ha,if_pos ((h a).1 ha)]
 ·rw[hl.count,hm.count,if_neg ha,if_neg (fun h'=>ha ((h a).2 h'))]
theorem AEL {t:Tbl} (h:t.ok=true) (f:List Val→Bool):tab t.w (t.rows.filter f)=⟨t.w,t.rows.filter f⟩:=by
 obtain⟨h1,h2,h3,h4⟩:=(Tbl.dN t).1 h;have hl:=yG f t.rows;unfold tab;rw[if_neg (by omega),RJ (h4.sublist List.filter_sublist) fun r hr=>mP (h3 r (zD1.1 hr).1)]
theorem ALJ {ws:List Int} {db:List Tbl} (hws:ws=db.map Tbl.w) (hdb:∀ t∈db,t.ok=true) {p:Pn} {lv:Nat} (hp:p.wd ws lv≠0) (e:Ex):(filt e p).evP db=⟨(p.evP db).w,(p.evP db).rows.filter (isT e)⟩:=by
 rw[oF,AEL (gW hws hdb p lv hp).1]
theorem ASA:∀ (p:List Val) (l:List (List Val)),Srt (p::l)→oks (p::l)→(p::dd p l).Nodup∧∀ x,x∈p::dd p l↔x∈p::l
 | p,[],_,_=>by simp[dd]
 | p,a::l,hs,ho=>by
  have hs':=y8.1 hs;have hs2:=y8.1 hs'.2;obtain⟨h1,h2⟩:=ASA a l hs'.2 fun r hr=>ho r (zA3 _ hr)
  simp only[dd];split
  ·rename_i h0;have:=kN (ho p (by simp)) (ho a (by simp)) h0;subst this;refine⟨h1,fun x=>?_⟩;rw[h2];simp
  ·rename_i h0;refine⟨List.nodup_cons.2 ⟨fun hm=>?_,h1⟩,fun x=>?_⟩
   ·rw[h2]at hm;have hpa:=hs'.1 a (by simp)
    have hap:fA a p=true:=by
     rcases zP.1 hm with rfl|hm
     ·exact oL _
     ·exact hs2.1 p hm
    have:=FC (ho p (by simp)) (ho a (by simp)) hpa hap;subst this;exact h0 (jF _)
   ·rw[zP,h2,zP (b:=p)]
theorem YD {l:List (List Val)} (hs:Srt l) (ho:oks l):(iQ l).Nodup∧∀ x,x∈iQ l↔x∈l:=by
 cases l with
 | nil=>simp[iQ]
 | cons a l=>exact ASA a l hs ho
theorem AIB {t:Tbl} (h:t.ok=true):tab t.w (iQ t.rows)=⟨t.w,iQ t.rows⟩:=by
 obtain⟨h1,h2,h3,h4⟩:=(Tbl.dN t).1 h;have hl:=(lQ t.rows).length_le;unfold tab;rw[if_neg (by omega),RJ (h4.sublist (lQ _)) fun r hr=>mP (h3 r ((lQ _).subset hr))]
theorem AVZ {r:List Val} {i:Nat} {v:Val} (h:r[i]?=some v):(YM i).ev r=v:=by
 rw[Ex.J2];simp[YM,evN,Ex.kind,Ex.col,h]
theorem wO (v:Val):v.tr=0∨v.tr=1∨v.tr=2:=by
 unfold Val.tr;split
 ·simp
 ·split<;>simp
theorem AR3 {t:Int} (h:t=0∨t=1∨t=2):(trV t).tr=t:=by
 rcases h with rfl|rfl|rfl<;>rfl
theorem ADW {key:List Val} (hk:key.all Val.ok=true):∀ {l:List (List Val×Nat)},(∀ g∈l,g.1.all Val.ok=true)→(l.map (·.1)).Nodup→∀ g,g∈bump key l↔((g.1≠key∧g∈l)∨(g.1=key∧((∃ n,(key,n)∈l∧g.2=n+1)∨(key ∉ l.map (·.1)∧g.2=1))))
 | [],_,_,g=>by
  simp only[bump,y9,zD8,and_false,false_or,zG9,zC0,true_and,false_and,exists_false];constructor
  ·rintro rfl;exact⟨rfl,rfl⟩
  ·rintro⟨h1,h2⟩;rw[← h1,← h2]
 | a::l,ho,hn,g=>by
  simp only[yQ,yV]at hn;simp only[bump];split
  ·rename_i h0;have:=kN (ho a (by simp)) hk h0;subst this;constructor
   ·intro h
    rcases zP.1 h with h|h
    ·subst h;exact .inr ⟨rfl, .inl ⟨a.2,List.mem_cons_self ..,rfl⟩⟩
    ·refine .inl ⟨fun e=>hn.1 ?_,zA3 _ h⟩;rw[← e];exact zG.2 ⟨g,h,rfl⟩
   ·rintro(⟨h1,h2⟩|⟨h1,⟨n,h2,h3⟩|⟨h2,h3⟩⟩)
    ·rcases zP.1 h2 with h2|h2
     ·subst h2;exact absurd rfl h1
     ·exact zA3 _ h2
    ·rcases zP.1 h2 with h2|h2
     ·have h4:n=a.2:=by rw[← h2]
      rw[zP];left;exact Prod.ext h1 (by rw[h3,h4])
     ·exact absurd (zG.2 ⟨_,h2,rfl⟩) hn.1
    ·exact absurd (by simp) h2
  ·rename_i h0;have hne:a.1≠key:=fun e=>h0 (by rw[e];exact jF _)
   have ih:=ADW hk (l:=l) (fun g hg=>ho g (by simp[hg])) hn.2 g;simp only[zP,ih,yQ];constructor
   ·rintro(rfl|⟨h1,h2⟩|⟨h1,⟨n,h2,h3⟩|⟨h2,h3⟩⟩)
    ·exact .inl ⟨hne, .inl rfl⟩
    ·exact .inl ⟨h1, .inr h2⟩
    ·exact .inr ⟨h1, .inl ⟨n, .inr h2,h3⟩⟩
    ·exact .inr ⟨h1, .inr ⟨by simp[h2,Ne.symm hne],h3⟩⟩
   ·rintro(⟨h1,rfl|h2⟩|⟨h1,⟨n,h2|h2,h3⟩|⟨h2,h3⟩⟩)
    ·exact .inl rfl
    ·exact .inr (.inl ⟨h1,h2⟩)
    ·exact absurd (by rw[← h2]) hne
    ·exact .inr (.inr ⟨h1, .inl ⟨n,h2,h3⟩⟩)
    ·exact .inr (.inr ⟨h1, .inr ⟨fun h=>h2 (.inr h),h3⟩⟩)
theorem QZ {key:List Val} (hk:key.all Val.ok=true):∀ {l:List (List Val×Nat)},(∀ g∈l,g.1.all Val.ok=true)→(l.map (·.1)).Nodup→((bump key l).map (·.1)).Nodup
 | [],_,_=>by simp[bump]
 | a::l,ho,hn=>by
  simp only[bump];split
  ·simpa using hn
  ·rename_i h0;simp only[yQ,yV]at hn ⊢;refine⟨fun hm=>?_,QZ hk (fun g hg=>ho g (by simp[hg])) hn.2⟩;obtain⟨g,hg,he⟩:=zG.1 hm;have h2:=wH key (fun x=>x=key∨x∈l.map (·.1)) (.inl rfl) l (fun g hg=>.inr (zG.2 ⟨g,hg,rfl⟩)) g hg;rw[he]at h2
   rcases h2 with h2|h2
   ·exact h0 (by rw[h2];exact jF _)
   ·exact hn.1 h2
theorem BB (cs:List Int):∀ (rows:List (List Val)) (acc:List (List Val×Nat)),(∀ r∈rows,(aZ cs r).all Val.ok=true)→(∀ g∈acc,g.1.all Val.ok=true)→(acc.map (·.1)).Nodup→(∀ g∈acc,1≤g.2) →
 ((rows.foldl (fun acc r=>bump (aZ cs r) acc) acc).map (·.1)).Nodup∧∀ g,g∈rows.foldl (fun acc r=>bump (aZ cs r) acc) acc ↔
   1≤g.2∧((∃ n,(g.1,n)∈acc∧g.2=n+(rows.map (aZ cs)).count g.1)∨(g.1 ∉ acc.map (·.1)∧g.2=(rows.map (aZ cs)).count g.1))
 | [],acc,_,_,hn,hp=>by
  refine⟨hn,fun g=>?_⟩;simp only[List.foldl_nil,zG9,List.count_nil,xG];constructor
  ·intro h;exact⟨hp g h, .inl ⟨g.2,h,rfl⟩⟩
  ·rintro⟨h0,⟨n,h1,h2⟩|⟨h1,h2⟩⟩
   ·rw[← h2]at h1;exact h1
   ·omega
 | r::rows,acc,hr,ho,hn,hp=>by
  have hk:=hr r (by simp);have hb:=ADW hk ho hn
  have hpos:∀ g∈bump (aZ cs r) acc,1≤g.2:=by
   intro g hg
   rcases(hb g).1 hg with ⟨_,h⟩|⟨_,⟨n,_,h⟩|⟨_,h⟩⟩
   ·exact hp g h
   ·omega
   ·omega
  obtain⟨h1,h2⟩:=BB cs rows (bump (aZ cs r) acc) (fun x hx=>hr x (by simp[hx])) (wH _ (fun x=>x.all Val.ok=true) hk acc ho) (QZ hk ho hn) hpos;refine⟨h1,fun g=>?_⟩;simp only[xI,yQ,h2]
  have hkey:g.1∈(bump (aZ cs r) acc).map (·.1)↔g.1=aZ cs r∨g.1∈acc.map (·.1):=by
   constructor
   ·intro h;obtain⟨x,hx,he⟩:=zG.1 h;have:=wH (aZ cs r) (fun y=>y=aZ cs r∨y∈acc.map (·.1)) (.inl rfl) acc (fun g hg=>.inr (zG.2 ⟨g,hg,rfl⟩)) x hx
    rwa [he]at this
   ·rintro(h|h)
    ·by_cases hm:aZ cs r∈acc.map (·.1)
     ·obtain⟨x,hx,he⟩:=zG.1 hm;exact zG.2 ⟨(aZ cs r,x.2+1),(hb _).2 (.inr ⟨rfl, .inl ⟨x.2,by rw[← he];exact hx,rfl⟩⟩),h.symm⟩
     ·exact zG.2 ⟨(aZ cs r,1),(hb _).2 (.inr ⟨rfl, .inr ⟨hm,rfl⟩⟩),h.symm⟩
    ·obtain⟨x,hx,he⟩:=zG.1 h;by_cases hq:x.1=aZ cs r
     ·exact zG.2 ⟨(aZ cs r,x.2+1),(hb _).2 (.inr ⟨rfl, .inl ⟨x.2,by rw[← hq];exact hx,rfl⟩⟩),by rw[← he,hq]⟩
     ·exact zG.2 ⟨x,(hb _).2 (.inl ⟨hq,hx⟩),he⟩
  have hcnt:((aZ cs r)::rows.map (aZ cs)).count g.1=(rows.map (aZ cs)).count g.1+if g.1=aZ cs r then 1 else 0:=by
   rw[List.count_cons];by_cases h:g.1=aZ cs r
   ·simp[h]
   ·simp[h,Ne.symm h]
  rw[hcnt];by_cases hq:g.1=aZ cs r
  ·have hbk:∀ n,(g.1,n)∈bump (aZ cs r) acc↔((∃ k,(g.1,k)∈acc∧n=k+1)∨(g.1 ∉ acc.map (·.1)∧n=1)):=fun n=>by
    rw[hq];have:=hb (aZ cs r,n);simpa using this
   rw[if_pos hq];constructor
   ·rintro⟨h0,⟨n,h3,h4⟩|⟨h3,h4⟩⟩
    ·refine⟨h0,?_⟩
     rcases(hbk n).1 h3 with ⟨k,h5,h6⟩|⟨h5,h6⟩
     ·exact .inl ⟨k,h5,by omega⟩
     ·exact .inr ⟨h5,by omega⟩
    ·exact absurd (hkey.2 (.inl hq)) h3
   ·rintro⟨h0,⟨n,h3,h4⟩|⟨h3,h4⟩⟩
    ·exact⟨h0, .inl ⟨n+1,(hbk _).2 (.inl ⟨n,h3,rfl⟩),by omega⟩⟩
    ·exact⟨h0, .inl ⟨1,(hbk _).2 (.inr ⟨h3,rfl⟩),by omega⟩⟩
  ·have e1:∀ n,(g.1,n)∈bump (aZ cs r) acc↔(g.1,n)∈acc:=by
    intro n;have:=hb (g.1,n);rw[this];constructor
    ·rintro(⟨_,h⟩|⟨h,_⟩)
     ·exact h
     ·exact absurd h hq
    ·exact fun h=>.inl ⟨hq,h⟩
   have e2:g.1∈(bump (aZ cs r) acc).map (·.1)↔g.1∈acc.map (·.1):=by
    rw[hkey];exact⟨fun h=>h.resolve_left hq, .inr⟩
   rw[if_neg hq,xG,e2];simp only[e1]
theorem wT {cs:List Int} {rows:List (List Val)} (h:∀ r∈rows,(aZ cs r).all Val.ok=true):((groups cs rows).map (·.1)).Nodup∧∀ g,g∈groups cs rows↔1≤g.2∧g.2=(rows.map (aZ cs)).count g.1:=by
 obtain⟨h1,h2⟩:=BB cs rows [] h (by simp) (by simp) (by simp);exact⟨h1,fun g=>by rw[groups,h2];simp⟩
def stepG (cs:List Int) (st:List (List (List Val))×Option (List Val)) (x:List Val):List (List (List Val))×Option (List Val) :=
 match st.2 with
 | none=>(st.1++[[x]],some x)
 | some p=>if bR (aZ cs p) (aZ cs x)=0 then(st.1.dropLast++[(st.1.getLast?).getD []++[x]],some x)else(st.1++[[x]],some x)
def runs (cs:List Int) (l:List (List Val)):List (List (List Val)):=(l.foldl (stepG cs) ([],none)).1
theorem P7 (cs:List Int):∀ (l:List (List Val)) (st:List (List (List Val))×Option (List Val)),(l.foldl (stepG cs) st).2=(match l.getLast? with|some x=>some x|none=>st.2)
 | [],st=>rfl
 | [x],st=>by
  simp only[xI,List.foldl_nil,List.getLast?_singleton,stepG];split
  ·rfl
  ·split<;>rfl
 | x::y::l,st=>by
  rw[xI,P7 cs (y::l)];rw[List.getLast?_cons_cons]
  cases h:(y::l).getLast? with
  | none=>simp at h
  | some z=>rfl
theorem uZ (cs:List Int) (l:List (List Val)) (x:List Val):runs cs (l++[x])=match l.getLast? with
 | none=>runs cs l++[[x]]
 | some p=>if bR (aZ cs p) (aZ cs x)=0 then(runs cs l).dropLast++[((runs cs l).getLast?).getD []++[x]]else runs cs l++[[x]]:=by
 unfold runs;rw[zA4,xI,List.foldl_nil];have h:=P7 cs l ([],none);generalize l.foldl (stepG cs) ([],none)=st at h;unfold stepG
 cases hl:l.getLast? with
 | none=>rw[hl]at h;rw[h]
 | some p =>
  rw[hl]at h;rw[h];simp only;split<;>rfl
def lG (cs:List Int) (g:List (List Val)):List Val×Nat:=(aZ cs (g.headD []),g.length)
theorem ADV {key:List Val}:∀ {P:List (List Val×Nat)},(∀ g∈P,bR g.1 key≠0)→bump key P=P++[(key,1)]
 | [],_=>rfl
 | g::P,h=>by
  simp only[bump];rw[if_neg (h g (by simp)),ADV fun x hx=>h x (by simp[hx])];rfl
theorem YU {key:List Val} {n:Nat}:∀ {P:List (List Val×Nat)},(∀ g∈P,bR g.1 key≠0)→bump key (P++[(key,n)])=P++[(key,n+1)]
 | [],_=>by simp[bump,jF]
 | g::P,h=>by
  simp only[yR,bump];rw[if_neg (h g (by simp)),YU fun x hx=>h x (by simp[hx])]
theorem AAW (cs:List Int) (l:List (List Val)) (x:List Val):groups cs (l++[x])=bump (aZ cs x) (groups cs l):=by
 unfold groups;rw[zA4];rfl
theorem KE (cs:List Int):∀ (n:Nat) (l:List (List Val)),l.length=n→(∀ r∈l,(aZ cs r).all Val.ok=true)→(l.map (aZ cs)).Pairwise (fun a b=>fA a b=true) →
 (runs cs l).map (lG cs)=groups cs l∧(∀ g∈runs cs l,g≠[])∧(∀ p,l.getLast?=some p→∃ G g,runs cs l=G++[g]∧(lG cs g).1=aZ cs p)
 | 0,l,h,_,_=>by
  have:l=[]:=zW.1 h;subst this;refine⟨rfl,by simp[runs],by simp⟩
 | n+1,l,h,ho,hs=>by
  have hne:l≠[]:=fun e=>by subst e;simp at h
  obtain⟨l',x,rfl⟩:∃ l' x,l=l'++[x]:=⟨l.dropLast,l.getLast hne,(yF hne).symm⟩
  have hl':l'.length=n:=by simpa using h
  rw[yH,yC]at hs;obtain⟨s1,-,s3⟩:=hs;have hox:=ho x (by simp);have ho':∀ r∈l',(aZ cs r).all Val.ok=true:=fun r hr=>ho r (by simp[hr])
  obtain⟨i1,i2,i3⟩:=KE cs n l' hl' ho' s1;have hk:=wT ho';rw[AAW,uZ]
  cases hp:l'.getLast? with
  | none =>
   have:l'=[]:=by simpa using hp
   subst this;refine⟨by simp[runs,groups,lG,bump],by simp[runs],fun p hp=>?_⟩;simp at hp;subst hp;exact⟨[],[x],by simp[runs],rfl⟩
  | some p =>
   obtain⟨G,g,hG,hg⟩:=i3 p hp;have hpm:p∈l':=List.mem_of_getLast? hp;have hpx:fA (aZ cs p) (aZ cs x)=true:=s3 _ (zG.2 ⟨p,hpm,rfl⟩) _ (by simp)
   have hmem:∀ q∈groups cs l',∃ r∈l',q.1=aZ cs r:=by
    intro q hq;have h1:=(hk.2 q).1 hq;have h2:0<(l'.map (aZ cs)).count q.1:=by omega
    obtain⟨r,hr,he⟩:=zG.1 (List.count_pos_iff.1 h2);exact⟨r,hr,he.symm⟩
   have hlast:∀ r∈l',fA (aZ cs r) (aZ cs p)=true:=by
    intro r hr
    have hd:l'=l'.dropLast++[p]:=by
     have:=yF (show l'≠[]from fun e=>by subst e;simp at hp);rw[zA7 (fun e=>by subst e;simp at hp)]at hp;injection hp with hp;rw[hp]at this;exact this.symm
    rw[hd]at hr s1;rw[yH,yC]at s1
    rcases zT.1 hr with hr|hr
    ·exact s1.2.2 _ (zG.2 ⟨r,hr,rfl⟩) _ (by simp)
    ·simp at hr;subst hr;exact oL _
   rw[hG]at i1 i2;rw[yH,zE9]at i1;have hgne:g≠[]:=i2 g (by simp);dsimp only;split
   ·rename_i h0;have he:=kN (ho' p hpm) hox h0;rw[hG,List.dropLast_concat];simp only[List.getLast?_append,List.getLast?_singleton,Option.some_or,zA]
    have hpg:lG cs (g++[x])=(aZ cs x,(lG cs g).2+1):=by
     unfold lG at hg ⊢
     cases g with
     | nil=>exact absurd rfl hgne
     | cons a g=>simp at hg ⊢;rw[← he];exact hg
    refine⟨?_,?_,?_⟩
    ·rw[yH,zE9,← i1,hpg];have hpr:lG cs g=(aZ cs x,(lG cs g).2):=Prod.ext (by rw[hg,he]) rfl;rw[hpr];refine(YU fun q hq=>?_).symm;intro h1;have hn:=hk.1;rw[← i1,yH,yS]at hn;have hqm:q∈groups cs l':=by rw[← i1];exact yD _ hq
     obtain⟨r,hr,hqr⟩:=hmem q hqm;have hq1:q.1=aZ cs x:=kN (by rw[hqr];exact ho' r hr) hox h1;exact hn.2.2 q.1 (zG.2 ⟨q,hq,rfl⟩) (lG cs g).1 (by simp) (by rw[hq1,hg,he])
    ·intro y hy
     rcases zT.1 hy with hy|hy
     ·exact i2 y (yD _ hy)
     ·simp at hy;subst hy;simp
    ·intro p' hp';simp at hp';subst hp';exact⟨G,g++[x],rfl,by rw[hpg]⟩
   ·rename_i h0;refine⟨?_,?_,?_⟩
    ·rw[hG,yH,yH,zE9,zE9,← i1];refine(ADV fun q hq=>?_).symm;intro h1;have hqm:q∈groups cs l':=by rw[← i1];exact hq
     obtain⟨r,hr,hqr⟩:=hmem q hqm;have hq1:q.1=aZ cs x:=kN (by rw[hqr];exact ho' r hr) hox h1;have h2:=hlast r hr;rw[← hqr,hq1]at h2;have:=FC (ho' p hpm) hox hpx h2;exact h0 (by rw[this];exact jF _)
    ·intro y hy
     rcases zT.1 hy with hy|hy
     ·rw[hG]at hy;exact i2 y hy
     ·simp at hy;subst hy;simp
    ·intro p' hp';simp at hp';subst hp';exact⟨_,[x],rfl,rfl⟩
theorem AAX {cs:List Int} {l m:List (List Val)} (hp:l.Perm m) (ho:∀ r∈l,(aZ cs r).all Val.ok=true):(groups cs l).Perm (groups cs m):=by
 have h1:=wT ho;have h2:=wT (rows:=m) fun r hr=>ho r (hp.mem_iff.2 hr)
 refine DY ?_ ?_ fun g=>?_
 ·exact List.Pairwise.of_map (·.1) (fun a b h e=>h (by rw[e])) h1.1
 ·exact List.Pairwise.of_map (·.1) (fun a b h e=>h (by rw[e])) h2.1
 ·rw[h1.2,h2.2,(hp.map (aZ cs)).count_eq]
theorem AIT {cs:List Int} {l m:List (List Val)} (hp:m.Perm l) (ho:∀ r∈l,(aZ cs r).all Val.ok=true) (hs:(m.map (aZ cs)).Pairwise (fun a b=>fA a b=true)) :
 ((runs cs m).map fun g=>iO (lG cs g)).Perm (iP cs l):=by
 have ho':∀ r∈m,(aZ cs r).all Val.ok=true:=fun r hr=>ho r (hp.mem_iff.1 hr)
 have h:=(KE cs m.length m rfl ho' hs).1;unfold iP;have e:(runs cs m).map (fun g=>iO (lG cs g))=((runs cs m).map (lG cs)).map iO:=by rw[zC7];rfl
 rw[e,h];exact(AAX hp ho').map iO
theorem AFV {a b:List Val×Nat} (h:iO a=iO b):a=b:=by
 unfold iO at h;have h1:=List.append_inj' h rfl;have h2:=h1.2;simp at h2;exact Prod.ext h1.1 (by omega)
theorem LD {α β:Type} {f:α→β} (hf:∀ a b,f a=f b→a=b):∀ {l:List α},l.Nodup→(l.map f).Nodup
 | [],_=>by simp
 | a::l,h=>by
  rw[yV]at h;rw[yQ,yV];refine⟨fun hm=>?_,LD hf h.2⟩;obtain⟨b,hb,e⟩:=zG.1 hm;rw[hf _ _ e]at hb;exact h.1 hb
theorem WZ {α β:Type} {f:α→β} {l:List α} (h:(l.map f).Nodup):l.Nodup:=List.Pairwise.of_map f (fun a b h e=>h (by rw[e])) h
section
variable {rows:List (List Val)} {w:Int} (hr:∀ r∈rows,rowOk w r=true) (hw:bG w=true)
include hr hw
end
end Go.Av

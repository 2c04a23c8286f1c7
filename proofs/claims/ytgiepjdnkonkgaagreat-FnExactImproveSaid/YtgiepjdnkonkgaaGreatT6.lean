/- Part 6 of what the proof rests on: the executor and what it is worth, and the program's functions as it runs them. No condition. -/
import Derived.Test.YtgiepjdnkonkgaaGreatT5
set_option linter.unusedVariables false
set_option linter.unusedSimpArgs false
namespace Go.Av
theorem QM (a b:Nat):orS a b=((a ||| b:Nat):Int):=by simp[orS]
def TC (k:Int) (v:Val) (l:List Val) (s:Int) (j:Nat):Int:=(l.take j).foldl (fun s w=>orS s (stV (Val.cmb k v w))) s
def sQ (k:Int) (l r:List Val) (i:Nat):Int:=(l.take i).foldl (fun s v=>r.foldl (fun s w=>orS s (stV (Val.cmb k v w))) s) 0
theorem WY {k:Int} {v w:Val} {l:List Val} {s:Int} {j:Nat} (h:l[j]?=some w):TC k v l s (j+1)=orS (TC k v l s j) (stV (Val.cmb k v w)):=by
 unfold TC;rw[aN h,xB];rfl
theorem MW {k:Int} {v:Val} {l r:List Val} {i:Nat} (h:l[i]?=some v):sQ k l r (i+1)=TC k v r (sQ k l r i) r.length:=by
 unfold sQ TC;rw[aN h,xB,zC1];rfl
def AF4 (s:Int):Prop:=∃ n:Nat,s=n∧n<8
theorem K4 (v:Val):AF4 (stV v):=by
 unfold stV;split
 ·exact⟨4,rfl,by omega⟩
 ·split
  ·exact⟨1,rfl,by omega⟩
  ·exact⟨2,rfl,by omega⟩
theorem AH5 {a b:Int} (ha:AF4 a) (hb:AF4 b):AF4 (orS a b):=by
 obtain⟨m,rfl,hm⟩:=ha;obtain⟨n,rfl,hn⟩:=hb;exact⟨m ||| n,QM m n,zB2 (n:=3) hm hn⟩
theorem JJ {k:Int} {v:Val}:∀ (l:List Val) {s:Int} (j:Nat),AF4 s→AF4 (TC k v l s j)
 | [],s,j,h=>by simpa [TC]using h
 | a::l,s,0,h=>by simpa [TC]using h
 | a::l,s,j+1,h=>by
  have:=JJ (k:=k) (v:=v) l (s:=orS s (stV (Val.cmb k v a))) j (AH5 h (K4 _));simpa [TC]using this
theorem ABZ {k:Int} {r:List Val} (l:List Val) (i:Nat) (hi:i≤l.length):AF4 (sQ k l r i):=by
 induction i with
 | zero=>exact⟨0,by simp[sQ],by omega⟩
 | succ i ih =>
  rw[MW (zX (show i<l.length by omega))];exact JJ r _ (ih (by omega))
theorem ANG {k a b:Int} (h:k=8∨k=9):mW k a b=sQ k (exS a) (exS b) (exS a).length:=by
 unfold mW sQ;rw[if_pos h,zC1]
theorem APO {a:Int} {v:Val} (h:v∈exS a):v.ok=true:=by
 unfold exS at h;simp only[zV]at h
 rcases h with h|h|h
 ·split at h
  ·simp at h;subst h;rfl
  ·cases h
 ·split at h
  ·simp at h;subst h;rfl
  ·cases h
 ·split at h
  ·simp at h;subst h;rfl
  ·cases h
theorem AY8 {b:Int} (h:okS b):exS b≠[]:=by
 obtain⟨h1,h2⟩:=h;have:b=1∨b=2∨b=3∨b=4∨b=5∨b=6∨b=7:=by omega
 rcases this with rfl|rfl|rfl|rfl|rfl|rfl|rfl<;>decide
theorem AIQ (a:Int):(exS a).length≤3:=by
 unfold exS;simp only[zL]
 repeat' split
 all_goals simp
end Go.Av
namespace Go.Proofs.YtgiepjdnkonkgaaGreat.P
open Go Go.Av
set_option maxRecDepth 4000
set_option maxHeartbeats 4000000
theorem I5 {n:Nat} (h:n<8):n % 18446744073709551616=n:=Nat.mod_eq_of_lt (by omega)
theorem or8 {m n:Nat} (hm:m<8) (hn:n<8):IntKind.i64.wrap ((m ||| n:Nat):Int)=((m ||| n:Nat):Int):=by
 have:=zB2 (n:=3) hm hn;exact wrO
def vBx (v:Val):Option Blk:=some (.box [.bool v.null, .int v.n])
def vAt (l:List Val) (i:Nat):Val:=(l[i]?).getD Val.zero
def jz (i:Nat) (v:AV):AV:=if i=0 then .junk else v
@[simp] theorem Ap1 (v:AV):jz 0 v=.junk:=rfl
@[simp] theorem Ap0 (i:Nat) (v:AV):jz (i+1) v=v:=rfl
theorem IB {i:Nat} (h:i≠0) (v:AV):jz i v=v:=if_neg h
def CSX (k a b:Int) (A B:List Val) (i:Nat):AS :=
 { env:=[(0, .int k),(1, .int a),(2, .int b),(6, .int 0),(7, .int (sQ k A B i)),(9,jz i (.own 0 0)),(11,jz i (.own 1 0)),(17, .bool true),(19, .i (.isl (wF A))),(20, .int A.length),(21, .int i),(22,jz i (.bool true)),(26,jz i (.i (.isl (wF B)))),(27,jz i (.int B.length)),(28,jz i (.int B.length)),(29,jz i (.bool false)),(46, .junk),(54, .junk),(66, .junk)],
   st:=if i=0 then []else [vBx (vAt A (i-1)),vBx (vAt B (B.length-1))] }
def CSI (k a b:Int) (A B:List Val) (i:Nat) (j:Nat):AS :=
 { env:=[(0, .int k),(1, .int a),(2, .int b),(6, .int 0),(7, .int (TC k (vAt A i) B (sQ k A B i) j)),(9, .own 0 0),(11,if j=0 then jz i (.own 1 0)else .own 1 0),(17, .bool true),(19, .i (.isl (wF A))),(20, .int A.length),(21, .int i),(22, .bool true),(26, .i (.isl (wF B))),(27, .int B.length),(28, .int j),(29,if j=0 then jz i (.bool false)else .bool true),(46, .junk),(54, .junk),(66, .junk)],
   st:=vBx (vAt A i)::(if j=0 then(if i=0 then []else [vBx (vAt B (B.length-1))])else [vBx (vAt B (j-1))]) }
theorem EG {k a b:Int} (hk:k=8∨k=9) (ha:okS a) (hb:okS b):aH C0 142 [.int k, .int a, .int b] []=some (.int (mW k a b),[]):=by
 have hea:=MB (a:=a) ⟨by have:=ha.1;omega,ha.2⟩;have heb:=MB (a:=b) ⟨by have:=hb.1;omega,hb.2⟩;have hbn:=AY8 hb;have hbl:(exS b).length≠0:=fun h=>hbn (zW.1 h)
 have la:=AIQ a;have lb:=AIQ b;have oka:∀ v∈exS a,v.ok=true:=fun v hv=>APO hv
 have okb:∀ v∈exS b,v.ok=true:=fun v hv=>APO hv
 rw[aD rfl Tryz.func142 rfl rfl,ANG hk];generalize exS a=A at *
 generalize exS b=B at *
 rcases hk with rfl|rfl
 ·simp[hea];rw[aS (CSX 8 a b A B) A.length (by simp[CSX,sQ])]
  ·rw[aG];simp[CSX]
  ·intro i hi;have h3:=zX hi;have hm:=zU h3;generalize A[i]=v at h3 hm;have rA:=tZ h3;have hv:vAt A i=v:=by simp[vAt,h3]
   have w2:IntKind.i64.wrap ((i:Int)+1)=i+1:=wrO;have hlow0:=ABZ (k:=8) (r:=B) A i (by omega);have hsc:=MW (k:=8) (r:=B) h3
   have inner:∀ j,j<B.length→∃ w,B[j]?=some w∧w∈B∧fT (wF B) j=some [.bool w.null, .int w.n]∧vAt B j=w∧∃ m n:Nat,TC 8 v B (sQ 8 A B i) j=m∧stV (Val.cmb 8 v w)=n∧m<8∧n<8∧TC 8 v B (sQ 8 A B i) (j+1)=((m ||| n:Nat):Int)∧IntKind.i64.wrap ((m ||| n:Nat):Int)=((m ||| n:Nat):Int):=by
    intro j hj;have q3:=zX hj;obtain⟨m,hm1,hm2⟩:=JJ (k:=8) (v:=v) B j hlow0;obtain⟨n,hn1,hn2⟩:=K4 (Val.cmb 8 v B[j]);refine⟨B[j],q3,zA3 hj,tZ q3,by simp[vAt,q3],m,n,hm1,hn1,hm2,hn2,?_,or8 hm2 hn2⟩;rw[WY q3,hm1,hn1,QM]
   by_cases h0:i=0
   ·subst h0;simp[CSX,hi,rA,heb];rw[aS (CSI 8 a b A B 0) B.length (by simp[CSI,TC,hv,vBx])]
    ·rw[aG];simp[CSI,hbl,w2,hv,hsc,CSX,vBx]
    ·intro j hj;obtain⟨w,q3,qm,q4,q5,m,n,m1,n1,m2,n2,hn,hwr⟩:=inner j hj;have hcm:=sF 8 v w (oka v hm) (okb w qm);have hst:=mE (Val.cmb 8 v w).null (Val.cmb 8 v w).n;have w3:IntKind.i64.wrap ((j:Int)+1)=j+1:=wrO;rw[show stV ⟨(Val.cmb 8 v w).null,(Val.cmb 8 v w).n⟩=stV (Val.cmb 8 v w)from rfl,n1]at hst;by_cases j0:j=0
     ·subst j0;simp[CSI,hj,hv,q4,q5,vBx,m1,hcm,hst,I5 m2,I5 n2,hwr,hn]
     ·simp[CSI,hj,hv,q4,q5,vBx,m1,hcm,hst,I5 m2,I5 n2,hwr,hn,j0,w3]
   ·simp[CSX,hi,rA,heb,h0,IB h0,vBx];rw[aS (CSI 8 a b A B i) B.length (by simp[CSI,TC,hv,vBx,IB h0,h0])]
    ·rw[aG];simp[CSI,hbl,w2,hv,hsc,CSX,vBx]
    ·intro j hj;obtain⟨w,q3,qm,q4,q5,m,n,m1,n1,m2,n2,hn,hwr⟩:=inner j hj;have hcm:=sF 8 v w (oka v hm) (okb w qm);have hst:=mE (Val.cmb 8 v w).null (Val.cmb 8 v w).n;have w3:IntKind.i64.wrap ((j:Int)+1)=j+1:=wrO;rw[show stV ⟨(Val.cmb 8 v w).null,(Val.cmb 8 v w).n⟩=stV (Val.cmb 8 v w)from rfl,n1]at hst;by_cases j0:j=0
     ·subst j0;simp[CSI,hj,hv,q4,q5,vBx,m1,hcm,hst,I5 m2,I5 n2,hwr,hn,IB h0,h0]
     ·simp[CSI,hj,hv,q4,q5,vBx,m1,hcm,hst,I5 m2,I5 n2,hwr,hn,j0,w3,IB h0,h0]
 ·simp[hea];rw[aS (CSX 9 a b A B) A.length (by simp[CSX,sQ])]
  ·rw[aG];simp[CSX]
  ·intro i hi;have h3:=zX hi;have hm:=zU h3;generalize A[i]=v at h3 hm;have rA:=tZ h3;have hv:vAt A i=v:=by simp[vAt,h3]
   have w2:IntKind.i64.wrap ((i:Int)+1)=i+1:=wrO;have hlow0:=ABZ (k:=9) (r:=B) A i (by omega);have hsc:=MW (k:=9) (r:=B) h3
   have inner:∀ j,j<B.length→∃ w,B[j]?=some w∧w∈B∧fT (wF B) j=some [.bool w.null, .int w.n]∧vAt B j=w∧∃ m n:Nat,TC 9 v B (sQ 9 A B i) j=m∧stV (Val.cmb 9 v w)=n∧m<8∧n<8∧TC 9 v B (sQ 9 A B i) (j+1)=((m ||| n:Nat):Int)∧IntKind.i64.wrap ((m ||| n:Nat):Int)=((m ||| n:Nat):Int):=by
    intro j hj;have q3:=zX hj;obtain⟨m,hm1,hm2⟩:=JJ (k:=9) (v:=v) B j hlow0;obtain⟨n,hn1,hn2⟩:=K4 (Val.cmb 9 v B[j]);refine⟨B[j],q3,zA3 hj,tZ q3,by simp[vAt,q3],m,n,hm1,hn1,hm2,hn2,?_,or8 hm2 hn2⟩;rw[WY q3,hm1,hn1,QM]
   by_cases h0:i=0
   ·subst h0;simp[CSX,hi,rA,heb];rw[aS (CSI 9 a b A B 0) B.length (by simp[CSI,TC,hv,vBx])]
    ·rw[aG];simp[CSI,hbl,w2,hv,hsc,CSX,vBx]
    ·intro j hj;obtain⟨w,q3,qm,q4,q5,m,n,m1,n1,m2,n2,hn,hwr⟩:=inner j hj;have hcm:=sF 9 v w (oka v hm) (okb w qm);have hst:=mE (Val.cmb 9 v w).null (Val.cmb 9 v w).n;have w3:IntKind.i64.wrap ((j:Int)+1)=j+1:=wrO;rw[show stV ⟨(Val.cmb 9 v w).null,(Val.cmb 9 v w).n⟩=stV (Val.cmb 9 v w)from rfl,n1]at hst;by_cases j0:j=0
     ·subst j0;simp[CSI,hj,hv,q4,q5,vBx,m1,hcm,hst,I5 m2,I5 n2,hwr,hn]
     ·simp[CSI,hj,hv,q4,q5,vBx,m1,hcm,hst,I5 m2,I5 n2,hwr,hn,j0,w3]
   ·simp[CSX,hi,rA,heb,h0,IB h0,vBx];rw[aS (CSI 9 a b A B i) B.length (by simp[CSI,TC,hv,vBx,IB h0,h0])]
    ·rw[aG];simp[CSI,hbl,w2,hv,hsc,CSX,vBx]
    ·intro j hj;obtain⟨w,q3,qm,q4,q5,m,n,m1,n1,m2,n2,hn,hwr⟩:=inner j hj;have hcm:=sF 9 v w (oka v hm) (okb w qm);have hst:=mE (Val.cmb 9 v w).null (Val.cmb 9 v w).n;have w3:IntKind.i64.wrap ((j:Int)+1)=j+1:=wrO;rw[show stV ⟨(Val.cmb 9 v w).null,(Val.cmb 9 v w).n⟩=stV (Val.cmb 9 v w)from rfl,n1]at hst;by_cases j0:j=0
     ·subst j0;simp[CSI,hj,hv,q4,q5,vBx,m1,hcm,hst,I5 m2,I5 n2,hwr,hn,IB h0,h0]
     ·simp[CSI,hj,hv,q4,q5,vBx,m1,hcm,hst,I5 m2,I5 n2,hwr,hn,j0,w3,IB h0,h0]
set_option maxHeartbeats 8000000
theorem AXA:∀ m n:Fin 8,((m.val ||| n.val) &&& 4=0∧jU (orS m.val n.val) 4=false)∨((m.val ||| n.val) &&& 4=4∧jU (orS m.val n.val) 4=true):=by decide
theorem KS {m n:Nat} (hm:m<8) (hn:n<8):((m ||| n) &&& 4=0∧jU (orS m n) 4=false)∨((m ||| n) &&& 4=4∧jU (orS m n) 4=true):=AXA ⟨m,hm⟩ ⟨n,hn⟩
theorem AS6:∀ m:Fin 8,(m.val &&& 18446744073709551611=0∧(jU m.val 1 || jU m.val 2)=false)∨((m.val &&& 18446744073709551611=1∨m.val &&& 18446744073709551611=2∨m.val &&& 18446744073709551611=3)∧(jU m.val 1 || jU m.val 2)=true):=by decide
theorem AHV {m:Nat} (hm:m<8):∃ v:Nat,m &&& 18446744073709551611=v∧IntKind.i64.wrap (v:Int)=v∧((v=0∧(jU m 1 || jU m 2)=false)∨(¬ v=0∧(jU m 1 || jU m 2)=true)):=by
 rcases AS6 ⟨m,hm⟩with ⟨h,q⟩|⟨h|h|h,q⟩
 ·exact⟨0,h,by decide, .inl ⟨rfl,q⟩⟩
 ·exact⟨1,h,by decide, .inr ⟨by omega,q⟩⟩
 ·exact⟨2,h,by decide, .inr ⟨by omega,q⟩⟩
 ·exact⟨3,h,by decide, .inr ⟨by omega,q⟩⟩
theorem BN {k:Int} (hk:3≤k∧k≠8∧k≠9) {m n:Nat} (hm:m<8) (hn:n<8):aH C0 142 [.int k, .int m, .int n] []=some (.int (mW k m n),[]):=by
 rw[aD rfl Tryz.func142 rfl rfl];have h1:=I5 hm;have h2:=I5 hn;have h3:=or8 hm hn;have h4:(m ||| n) % 18446744073709551616=m ||| n:=I5 (zB2 (n:=3) hm hn)
 obtain⟨x,x1,x2,x3⟩:=AHV hm;obtain⟨y,y1,y2,y3⟩:=AHV hn;have k8:¬ k=8:=hk.2.1;have k9:¬ k=9:=hk.2.2;have e7:orS 0 7=7:=by decide
 have e3:orS 0 3=3:=by decide
 have e47:orS 4 7=7:=by decide
 have e43:orS 4 3=7:=by decide
 have e40:orS 4 0=4:=by decide
 have e00:orS 0 0=0:=by decide
 by_cases k6:k<6
 ·have hk3:k=3∨k=4∨k=5:=by omega
  rcases hk3 with rfl|rfl|rfl
  ·rcases KS hm hn with ⟨p,q⟩|⟨p,q⟩
   ·rcases x3 with ⟨x3,x4⟩|⟨x3,x4⟩
    ·simp[h1,h2,h3,h4,p,x1,x2,x3,mW,q,x4,e00]
    ·rcases y3 with ⟨y3,y4⟩|⟨y3,y4⟩
     ·simp[h1,h2,h3,h4,p,x1,x2,x3,y1,y2,y3,mW,q,x4,y4,e00]
     ·simp[h1,h2,h3,h4,p,x1,x2,x3,y1,y2,y3,mW,q,x4,y4,e7,e3]
   ·rcases x3 with ⟨x3,x4⟩|⟨x3,x4⟩
    ·simp[h1,h2,h3,h4,p,x1,x2,x3,mW,q,x4,e40]
    ·rcases y3 with ⟨y3,y4⟩|⟨y3,y4⟩
     ·simp[h1,h2,h3,h4,p,x1,x2,x3,y1,y2,y3,mW,q,x4,y4,e40]
     ·simp[h1,h2,h3,h4,p,x1,x2,x3,y1,y2,y3,mW,q,x4,y4,e47,e43]
  ·rcases KS hm hn with ⟨p,q⟩|⟨p,q⟩
   ·rcases x3 with ⟨x3,x4⟩|⟨x3,x4⟩
    ·simp[h1,h2,h3,h4,p,x1,x2,x3,mW,q,x4,e00]
    ·rcases y3 with ⟨y3,y4⟩|⟨y3,y4⟩
     ·simp[h1,h2,h3,h4,p,x1,x2,x3,y1,y2,y3,mW,q,x4,y4,e00]
     ·simp[h1,h2,h3,h4,p,x1,x2,x3,y1,y2,y3,mW,q,x4,y4,e7,e3]
   ·rcases x3 with ⟨x3,x4⟩|⟨x3,x4⟩
    ·simp[h1,h2,h3,h4,p,x1,x2,x3,mW,q,x4,e40]
    ·rcases y3 with ⟨y3,y4⟩|⟨y3,y4⟩
     ·simp[h1,h2,h3,h4,p,x1,x2,x3,y1,y2,y3,mW,q,x4,y4,e40]
     ·simp[h1,h2,h3,h4,p,x1,x2,x3,y1,y2,y3,mW,q,x4,y4,e47,e43]
  ·rcases KS hm hn with ⟨p,q⟩|⟨p,q⟩
   ·rcases x3 with ⟨x3,x4⟩|⟨x3,x4⟩
    ·simp[h1,h2,h3,h4,p,x1,x2,x3,mW,q,x4,e00]
    ·rcases y3 with ⟨y3,y4⟩|⟨y3,y4⟩
     ·simp[h1,h2,h3,h4,p,x1,x2,x3,y1,y2,y3,mW,q,x4,y4,e00]
     ·simp[h1,h2,h3,h4,p,x1,x2,x3,y1,y2,y3,mW,q,x4,y4,e7,e3]
   ·rcases x3 with ⟨x3,x4⟩|⟨x3,x4⟩
    ·simp[h1,h2,h3,h4,p,x1,x2,x3,mW,q,x4,e40]
    ·rcases y3 with ⟨y3,y4⟩|⟨y3,y4⟩
     ·simp[h1,h2,h3,h4,p,x1,x2,x3,y1,y2,y3,mW,q,x4,y4,e40]
     ·simp[h1,h2,h3,h4,p,x1,x2,x3,y1,y2,y3,mW,q,x4,y4,e47,e43]
 ·have k3:¬ k=3:=by omega
  have k4:¬ k=4:=by omega
  have k5:¬ k=5:=by omega
  rcases KS hm hn with ⟨p,q⟩|⟨p,q⟩
  ·rcases x3 with ⟨x3,x4⟩|⟨x3,x4⟩
   ·simp[h1,h2,h3,h4,p,x1,x2,x3,mW,q,x4,e00,k3,k4,k5,k6,k8,k9]
   ·rcases y3 with ⟨y3,y4⟩|⟨y3,y4⟩
    ·simp[h1,h2,h3,h4,p,x1,x2,x3,y1,y2,y3,mW,q,x4,y4,e00,k3,k4,k5,k6,k8,k9]
    ·simp[h1,h2,h3,h4,p,x1,x2,x3,y1,y2,y3,mW,q,x4,y4,e7,e3,k3,k4,k5,k6,k8,k9]
  ·rcases x3 with ⟨x3,x4⟩|⟨x3,x4⟩
   ·simp[h1,h2,h3,h4,p,x1,x2,x3,mW,q,x4,e40,k3,k4,k5,k6,k8,k9]
   ·rcases y3 with ⟨y3,y4⟩|⟨y3,y4⟩
    ·simp[h1,h2,h3,h4,p,x1,x2,x3,y1,y2,y3,mW,q,x4,y4,e40,k3,k4,k5,k6,k8,k9]
    ·simp[h1,h2,h3,h4,p,x1,x2,x3,y1,y2,y3,mW,q,x4,y4,e47,e43,k3,k4,k5,k6,k8,k9]
end Go.Proofs.YtgiepjdnkonkgaaGreat.P
namespace Go.Av
theorem Ex.CF {w:Int} {e:Ex} (h:e.wf w=true):(e.kind=1∧0≤e.col∧e.col<w∧e.kids=[])∨(e.kind=2∧e.kids=[])∨((e.kind=10∨e.kind=11)∧∃ x,e.kids=[x]∧x.wf w=true)∨((3≤e.kind∧e.kind≤9)∧∃ x y,e.kids=[x,y]∧x.wf w=true∧y.wf w=true):=by
 have hk:∀ x∈e.kids,x.wf w=true:=fun x hx=>Ex.gX h hx
 by_cases h1:e.kind=1
 ·have:=Ex.mV h h1;exact .inl ⟨h1,this.1,this.2.1,this.2.2⟩
 rw[Ex.PW]at h;simp only[zT,zM]at h;have hl:=h.1;unfold bZ at hl;split at hl
 ·rename_i hc;exact .inr (.inl ⟨by omega,zW.1 (by omega)⟩)
 ·split at hl
  ·rename_i hc;obtain⟨x,hx⟩:=JF (show e.kids.length=1 by omega);exact .inr (.inr (.inl ⟨hc,x,hx,hk x (by simp[hx])⟩))
  ·split at hl
   ·rename_i hc;obtain⟨x,y,hx⟩:=AAS (show e.kids.length=2 by omega);exact .inr (.inr (.inr ⟨hc,x,y,hx,hk x (by simp[hx]),hk y (by simp[hx])⟩))
   ·omega
theorem QL {W:Int} (st:List Int) (hl:(st.length:Int)=W) (hs:∀ a∈st,okS a):∀ e:Ex,e.wf W=true→okS (KR st e):=by
 intro e
 induction e using Ex.ind with
 | h k c v ks ih =>
  intro hw;rw[Y3]
  rcases Ex.CF hw with ⟨h1,h2,h3,h4⟩|⟨h1,h2⟩|⟨h1,x,h2,h3⟩|⟨h1,x,y,h2,h3,h4⟩
  ·rw[if_pos h1];generalize Ex.col (.mk k c v ks)=cc at *
   have hlt:cc.toNat<st.length:=by omega
   rw[zX hlt];exact hs _ (zA3 hlt)
  ·rw[if_neg (by omega),if_pos h1];exact AVY _
  ·have hx:=ih x (by simp only[Ex.kids]at h2;simp[h2]) h3;obtain⟨n,hn⟩:=yN (show 0≤KR st x by have:=hx.1;omega);have ht:=AM0 ⟨n,by have:=hx.2;omega⟩ (by have:=hx.1;simp;omega);rw[if_neg (by omega),if_neg (by omega),h2];simp only[zC5,xG,yP,hn]
   rcases h1 with h1|h1
   ·rw[if_pos h1];exact ht.1
   ·rw[if_neg (by omega),if_pos h1];exact ht.2
  ·have hx:=ih x (by simp only[Ex.kids]at h2;simp[h2]) h3;have hy:=ih y (by simp only[Ex.kids]at h2;simp[h2]) h4;rw[if_neg (by omega),if_neg (by omega),if_neg (by omega),if_neg (by omega),h2];exact ATD hx hy
end Go.Av
namespace Go.Proofs.YtgiepjdnkonkgaaGreat.P
open Go Go.Av
set_option maxRecDepth 4000
set_option maxHeartbeats 8000000
theorem seven {a:Int} (h:okS a):a=1∨a=2∨a=3∨a=4∨a=5∨a=6∨a=7:=by have:=h.1;have:=h.2;omega
theorem AI9 {k a b:Int} (hk:3≤k) (ha:okS a) (hb:okS b):aH C0 142 [.int k, .int a, .int b] []=some (.int (mW k a b),[]):=by
 by_cases h:k=8∨k=9
 ·exact EG h ha hb
 ·obtain⟨m,rfl⟩:=yN (show 0≤a by have:=ha.1;omega);obtain⟨n,rfl⟩:=yN (show 0≤b by have:=hb.1;omega);exact BN ⟨hk,by omega,by omega⟩ (by have:=ha.2;omega) (by have:=hb.2;omega)
theorem VJ {W:Int} (st:List Int) (hl:(st.length:Int)=W) (hs:∀ a∈st,okS a):∀ e:Ex,e.wf W=true→aH C0 132 [.i (.iref e.cells), .i (.isl (aF st))] []=some (.int (KR st e),[]):=by
 intro e
 induction e using Ex.ind with
 | h k c v ks ih =>
  intro hw;have hall:=QL st hl hs;rw[aD rfl Tryz.func132 rfl rfl,Ex.aA,Y3]
  rcases Ex.CF hw with ⟨h1,h2,h3,h4⟩|⟨h1,h2⟩|⟨h1,x,h2,h3⟩|⟨h1,x,y,h2,h3,h4⟩
  ·generalize Ex.mk k c v ks=e at *
   have hlt:e.col.toNat<st.length:=by omega
   have h5:=zX hlt;generalize st[e.col.toNat]=s at h5;have r2:=aX h5;obtain⟨_,h6⟩:=zZ.1 h5;simp[h1,h2,r2,h6,show e.col<st.length by omega]
  ·generalize Ex.mk k c v ks=e at *
   have hst:=mE e.val.null e.val.n;simp[h1,hst]
  ·have hx:=ih x (by simp only[Ex.kids]at h2;simp[h2]) h3;have ho:=hall x h3;generalize Ex.mk k c v ks=e at *
   generalize hso:KR st x=s at hx ho;rw[Ex.aA]at hx
   rcases h1 with h1|h1
   ·rcases seven ho with rfl|rfl|rfl|rfl|rfl|rfl|rfl<;>(simp[h1,h2,Ex.aB,Ex.aA x,hx,hso];try decide)
   ·rcases seven ho with rfl|rfl|rfl|rfl|rfl|rfl|rfl<;>(simp[h1,h2,Ex.aB,Ex.aA x,hx,hso];try decide)
  ·have hx:=ih x (by simp only[Ex.kids]at h2;simp[h2]) h3;have hy:=ih y (by simp only[Ex.kids]at h2;simp[h2]) h4;have ho:=hall x h3;have hp:=hall y h4;generalize Ex.mk k c v ks=e at *
   have hc:=AI9 (k:=e.kind) h1.1 ho hp;generalize hso:KR st x=s at hx ho hc;generalize hto:KR st y=t at hy hp hc;rw[Ex.aA]at hx hy;have q1:¬ e.kind=1:=by omega
   have q2:¬ e.kind=2:=by omega
   have q3:¬ e.kind=10:=by omega
   have q4:¬ e.kind=11:=by omega
   simp[q1,q2,q3,q4,h2,Ex.aB,Ex.aA x,Ex.aA y,hx,hy,hc,hso,hto]
end Go.Proofs.YtgiepjdnkonkgaaGreat.P
namespace Go.Av
theorem AI7 (n:Nat) (x:Int):aF (List.replicate n x)=List.replicate n [.int x]:=by
 induction n with
 | zero=>rfl
 | succ n ih=>simp[xO,aF,ih]
def st1 (n i:Nat):List Int:=List.replicate i 7++List.replicate (n-i) 0
def st2 (p m i:Nat):List Int:=List.replicate p 7++(List.replicate i 4++List.replicate (m-i) 7)
theorem AGN {a b:Int} {n i:Nat} (h:i<n):(List.replicate i a++List.replicate (n-i) b)[i]?=some b:=by
 rw[zB (by simp)];have:0<n-i:=by omega
 simp[List.getElem?_replicate,this]
theorem AGM {a b:Int} {n i:Nat} (h:i<n):(List.replicate i a++List.replicate (n-i) b).set i a=List.replicate (i+1) a++List.replicate (n-(i+1)) b:=by
 rw[zA9 _ _ (by simp)];rw[show n-i=(n-(i+1))+1 by omega,xO,List.replicate_succ'];simp
theorem AQX {n i:Nat} (h:i<n):(st1 n i)[i]?=some 0:=AGN h
theorem AQW {n i:Nat} (h:i<n):(st1 n i).set i 7=st1 n (i+1):=AGM h
theorem AQU {p m i:Nat} (h:i<m):(st2 p m i)[p+i]?=some 7:=by
 unfold st2;rw[zB (by simp)];simpa using AGN (a:=4) (b:=7) h
theorem AQT {p m i:Nat} (h:i<m):(st2 p m i).set (p+i) 4=st2 p m (i+1):=by
 unfold st2;rw[zA9 _ _ (by simp)];simp only[zD1,xQ];rw[AGM h]
theorem AQY {p m:Nat}:st1 (p+m) (p+m)=st2 p m 0:=by
 simp[st1,st2,List.replicate_append_replicate]
theorem AQV (p m:Nat):st2 p m m=l8 ((p+m:Nat):Int) p:=by
 unfold st2 l8;apply List.ext_getElem?;intro i;simp only[zE6,List.replicate_zero,zA,Int.toNat_natCast,xJ];by_cases h:i<p
 ·rw[zG (by simpa using h)];simp[h,show i<p+m by omega]
 ·rw[zB (by simp;omega)];by_cases h2:i<p+m
  ·simp[h2,show i-p<m by omega,show p≤i by omega]
  ·simp[h2,show ¬ i-p<m by omega]
@[simp] theorem ACQ {p m i:Nat} (h:i≤m):(st2 p m i).length=p+m:=by simp[st2];omega
def mH (p m:Nat):List Int:=(List.range m).map fun(i:Nat)=>((p+i:Nat):Int)
@[simp] theorem APS (p m:Nat):(mH p m).length=m:=by simp[mH]
theorem WA {p m i:Nat} (h:i<m):(mH p m)[i]?=some ((p+i:Nat):Int):=by simp[mH,h]
theorem PN (p m:Nat):mH p (m+1)=mH p m++[((p+m:Nat):Int)]:=by simp[mH,zC8]
theorem JB (W left:Int):∀ a∈l8 W left,okS a:=by
 intro a ha;unfold l8 at ha;obtain⟨i,-,rfl⟩:=yI.1 ha;unfold okS;split<;>omega
theorem p8 (W left:Int):(l8 W left).length=W.toNat:=by simp[l8]
theorem AQB:∀ a:Fin 8,(a.val &&& 2=0∧jU a.val 2=false)∨(a.val &&& 2=2∧jU a.val 2=true):=by decide
end Go.Av
namespace Go.Proofs.YtgiepjdnkonkgaaGreat.P
open Go Go.Av
set_option maxRecDepth 4000
set_option maxHeartbeats 8000000
def RJ1 (e:Ex) (l:List Int) (n:Nat) (i:Nat):AS :=
 { env:=[(0, .i (.agg [.int e.kind, .int e.col, .bool e.val.null, .int e.val.n, .isl (Ex.aB e.kids)])),(1, .int n),(2, .i (.isl (aF l))),(3, .own 0 0),(6, .bool false),(7, .osl 1 1 0 n),(8,jk i (.int (i-1))),(10, .junk),(14, .bool false),(18, .int n),(19, .int i),(20,jk i (.bool true)),(26, .junk),(27, .junk),(28, .junk),(29, .junk),(38, .junk)],
   st:=[some (.box [.int e.kind, .int e.col, .bool e.val.null, .int e.val.n, .i (.isl (Ex.aB e.kids))]),some (.arr 1 (aF (st1 n i)))] }
def RJ2 (e:Ex) (n p m:Nat) (i:Nat):AS :=
 { env:=[(0, .i (.agg [.int e.kind, .int e.col, .bool e.val.null, .int e.val.n, .isl (Ex.aB e.kids)])),(1, .int n),(2, .i (.isl (aF (mH p m)))),(3, .own 0 0),(6, .bool false),(7, .osl 1 1 0 n),(8, .int (n-1)),(10,jk i (.int ((p:Int)+i-1))),(14, .bool false),(18, .int n),(19, .int n),(20, .bool false),(26, .i (.isl (aF (mH p m)))),(27, .int m),(28, .int i),(29,jk i (.bool true)),(38,jk i (.bool true))],
   st:=[some (.box [.int e.kind, .int e.col, .bool e.val.null, .int e.val.n, .i (.isl (Ex.aB e.kids))]),some (.arr 1 (aF (st2 p m i)))] }
theorem YE (e:Ex) {n p m:Nat} (hn:n=p+m) (h:e.ok n=true):aH C0 119 [.i (.agg e.cells), .int n, .i (.isl (aF (mH p m)))] []=some (.bool (AGT e n p),[]):=by
 have hok:=ok_eq n e;rw[h]at hok;obtain⟨hw,g1,g2⟩:=Ex.tL h;have hlen:((l8 n p).length:Int)=(n:Int):=by rw[p8];omega
 have ho:=VJ (l8 n p) hlen (JB _ _) e hw;have hs:=QL (l8 n p) hlen (JB _ _) e hw;rw[aD rfl Tryz.func119 rfl rfl];unfold AGT;generalize KR (l8 n p) e=s at ho hs;obtain⟨s,rfl⟩:=yN (show 0≤s by have:=hs.1;omega);have hs8:s<8:=by have:=hs.2;omega
 have hall:=AQV p m;rw[← hn]at hall;rw[← hall]at ho;rw[Ex.aA]at *
 have hb:8*(n:Int)≤281474976710656:=by omega
 have hz:=AI7 n 0;have hz1:st1 n 0=List.replicate n 0:=by simp[st1]
 have hs1:st1 n n=st2 p m 0:=by rw[hn];exact AQY
 have hl2:∀ i,i≤m→(st2 p m i).length=n:=fun i hi=>by rw[ACQ hi,hn]
 have hl3:(st2 p m m).take n=st2 p m m:=zY (by rw[hl2 m (zO m)];exact zO n);simp[hok,hb];rw[aS (RJ1 e (mH p m) n) n (by simp[RJ1,hz1,hz])]
 ·rw[aG];simp[RJ1];rw[aS (RJ2 e n p m) m (by simp[RJ2,hs1,bT (show n≠0 by omega)])]
  ·rw[aG];have h2:=AQB ⟨s,hs8⟩
   rcases h2 with ⟨h2,h3⟩|⟨h2,h3⟩
   ·simp at h2 h3;simp[RJ2,ho,I5 hs8,h2,h3,hl2,hl3]
   ·simp at h2 h3;simp[RJ2,ho,I5 hs8,h2,h3,hl2,hl3]
  ·intro i hi;have h3:=WA (p:=p) hi;have r2:=aX h3;have r3:=aX (AQU (p:=p) hi);have hset:=AQT (p:=p) hi;have hin:((p:Int)+i)<n:=by omega
   have hl:=hl2 i (by omega);have hin2:p+i<n:=by omega
   have hin0:0≤(p:Int)+i:=by omega
   have w2:IntKind.i64.wrap ((i:Int)+1)=i+1:=wrO;simp[RJ2,hi,r2,r3,w2,LG,hset,hin,hin0,hl,show((p:Int)+i).toNat=p+i by omega];omega
 ·intro i hi;have r3:=aX (AQX hi);have hset:=AQW hi;have w2:IntKind.i64.wrap ((i:Int)+1)=i+1:=wrO;simp[RJ1,hi,r3,w2,LG,hset]
end Go.Proofs.YtgiepjdnkonkgaaGreat.P
namespace Go.Av
theorem AHA {n p i:Nat} (h:i<n):(l8 n p)[i]?=some (if p≤i then 4 else 7):=by
 have:i<(l8 (n:Int) p).length:=by rw[p8];simpa using h
 unfold l8;simp[h]
end Go.Av
namespace Go.Proofs.YtgiepjdnkonkgaaGreat.P
open Go Go.Av
set_option maxRecDepth 4000
set_option maxHeartbeats 8000000
def CLX (n p:Nat) (i:Nat):AS :=
 { env:=[(0, .int p),(1, .int n),(4, .nils),(5, .osl 0 1 0 i),(6, .int ((p:Int)+i)),(11,jk i (.bool true))],st:=[some (.arr 1 (aF (mH p i)))] }
theorem RU {n p m:Nat} (hn:n=p+m) (hb:n<1000):aH C0 103 [.int p, .int n] []=some (.i (.isl (aF (mH p m))),[]):=by
 rw[aD rfl Tryz.func103 rfl rfl];simp;rw[aS (CLX n p) m (by simp[CLX,mH,aF])]
 ·rw[aG];have h1:¬ ((p:Int)+m<n):=by omega
  have h2:(mH p m).take m=mH p m:=zY (by simp);simp[CLX,h1,h2]
 ·intro i hi;have h1:((p:Int)+i<n):=by omega
  have w2:IntKind.i64.wrap ((p:Int)+i+1)=(p:Int)+(i+1):=by rw[wrO];omega
  have hl:(i+1)*8≤140737488355328:=by omega
  have h2:(mH p i).take i=mH p i:=zY (by simp);simp[CLX,h1,w2,hl,h2,PN,lD]
def nsS (p i k:Nat):Int:=if p≤i∧i<p+k then 4 else 7
def nsB (p m i:Nat):AV:=if m=0 then .junk else jk i (.bool (decide ((p:Int)+(m-1)=i-1)))
@[simp] theorem AY0 (p m i:Nat):dE (nsB p m i)=[]:=by unfold nsB;split<;>simp
@[simp] theorem Ab0 (r:Nat→Option Nat) (p m i:Nat):ren r (nsB p m i)=nsB p m i:=by unfold nsB;split<;>simp
def NSO (n p m:Nat) (i:Nat):AS :=
 { env:=[(0, .int n),(1, .i (.isl (aF (mH p m)))),(4, .nils),(5, .osl 0 1 0 i),(6, .int i),(7,jk i (.int (nsS p (i-1) m))),(8,jk i (.int m)),(12,jk i (.bool true)),(18,jk i (.bool false)),(26,nsB p m i)],st:=[some (.arr 1 (aF ((l8 n p).take i)))] }
def NSI (n p m:Nat) (i k:Nat):AS :=
 { env:=[(0, .int n),(1, .i (.isl (aF (mH p m)))),(4, .nils),(5, .osl 0 1 0 i),(6, .int i),(7, .int (nsS p i k)),(8, .int k),(12, .bool true),(18,if k=0 then jk i (.bool false)else .bool true),(26,if k=0 then nsB p m i else .bool (decide ((p:Int)+(k-1)=i)))],st:=[some (.arr 1 (aF ((l8 n p).take i)))] }
theorem QQ {n p m:Nat} (hn:n=p+m) (hb:n<1000):aH C0 123 [.int n, .i (.isl (aF (mH p m)))] []=some (.i (.isl (aF (l8 n p))),[]):=by
 rw[aD rfl Tryz.func123 rfl rfl];have hnl:(l8 (n:Int) p).length=n:=by rw[p8];omega
 simp;rw[aS (NSO n p m) n (by simp[NSO,aF,nsB])]
 ·rw[aG];have h2:(l8 (n:Int) p).take n=l8 n p:=zY (by omega);simp[NSO,h2,hnl]
 ·intro i hi;have w2:IntKind.i64.wrap ((i:Int)+1)=i+1:=wrO;have h3:=AHA (p:=p) hi;have htk:=aN h3;have hl:(i+1)*8≤140737488355328:=by omega
  have hsm:nsS p i m=if p≤i then 4 else 7:=by unfold nsS;by_cases h:p≤i<;>simp[h];omega
  have hlt:((l8 (n:Int) p).take i).length=i:=by simp[hnl];omega
  have htt:((l8 (n:Int) p).take i).take i=(l8 (n:Int) p).take i:=zY (by omega);simp only[← hsm]at htk;simp[NSO,hi];rw[aS (NSI n p m i) m (by simp[NSI,nsS];try omega)]
  ·rw[aG];by_cases hm:m=0
   ·subst hm;simp[NSI,NSO,w2,hl,htk,lD,hlt,htt,nsB]
   ·by_cases h0:i=0
    ·subst h0;simp[NSI,NSO,hl,htk,lD,nsB,hm,aF]
    ·simp[NSI,NSO,w2,hl,htk,lD,hlt,htt,nsB,hm]
  ·intro k hk;have h5:=WA (p:=p) hk;have r2:=aX h5;have w3:IntKind.i64.wrap ((k:Int)+1)=k+1:=wrO;have e1:∀ x:AV,(if(k+1=0)then x else(AV.bool (decide ((p:Int)+((k+1:Nat)-1)=i))))=AV.bool (decide ((p:Int)+k=i)):=by intro x;simp
   by_cases he:(p:Int)+k=i
   ·have hs:nsS p i (k+1)=4:=by unfold nsS;rw[if_pos (by omega)]
    by_cases k0:k=0
    ·subst k0;simp at he;simp[NSI,hk,r2,hs,he]
    ·simp[NSI,hk,r2,w3,hs,he,k0]
   ·have hs:nsS p i (k+1)=nsS p i k:=by
     unfold nsS;by_cases hp:p≤i∧i<p+k
     ·rw[if_pos hp,if_pos (by omega)]
     ·rw[if_neg hp,if_neg (by omega)]
    by_cases k0:k=0
    ·subst k0;simp at he;simp[NSI,hk,r2,hs,he]
    ·simp[NSI,hk,r2,w3,hs,he,k0]
end Go.Proofs.YtgiepjdnkonkgaaGreat.P
namespace Go.Av
def EZ (x:Int):Val:=⟨decide (x=4),if x=2 then 1 else 0⟩
def tsI (k a b x s:Int) (j:Nat):Int:=(([1,2,4]:List Int).take j).foldl (fun s y=>if(jU a x && jU b y)=true then orS s (stV (Val.cmb k (EZ x) (EZ y)))else s) s
def tsO (k a b:Int) (i:Nat):Int:=(([1,2,4]:List Int).take i).foldl (fun s x=>tsI k a b x s 3) 0
theorem AFS {k a b x s:Int} (hs:AF4 s) (j:Nat):AF4 (tsI k a b x s j):=by
 unfold tsI;generalize (([1,2,4]:List Int).take j)=l
 induction l generalizing s with
 | nil=>simpa using hs
 | cons y l ih =>
  simp only[zA8];apply ih;split
  ·exact AH5 hs (K4 _)
  ·exact hs
theorem AQD {k a b:Int} (i:Nat):AF4 (tsO k a b i):=by
 unfold tsO
 have:∀ (l:List Int) (s:Int),AF4 s→AF4 (l.foldl (fun s x=>tsI k a b x s 3) s):=by
  intro l
  induction l with
  | nil=>intro s hs;simpa using hs
  | cons y l ih=>intro s hs;exact ih _ (AFS hs 3)
 exact this _ _ ⟨0,rfl,by omega⟩
theorem AVJ:∀ a b:Fin 8,tsO 8 a.val b.val 3=mW 8 a.val b.val∧tsO 9 a.val b.val 3=mW 9 a.val b.val:=by decide
end Go.Av
namespace Go.Proofs.YtgiepjdnkonkgaaGreat.P
open Go Go.Av
set_option maxRecDepth 4000
set_option maxHeartbeats 8000000
theorem AG1 (b:Bool) (n:Int):aH C0 98 [.i (.agg [.bool b, .int n])] []=some (.int (if b=true then 2 else if n=0 then 0 else 1),[]):=by
 rw[aD rfl Tryz.func98 rfl rfl]
 cases b
 ·by_cases h:n=0<;>simp[h]
 ·simp
theorem AR4 (t:Int) (h:0≤t∧t≤2):aH C0 151 [.int t] []=some (.int (if t=2 then 2 else 1-t),[]):=by
 rw[aD rfl Tryz.func151 rfl rfl];have:t=0∨t=1∨t=2:=by omega
 rcases this with rfl|rfl|rfl<;>simp
theorem AR7 (s t:Int):aH C0 150 [.int s, .int t] []=some (.int (if s=0∨t=0 then 0 else if s=1∧t=1 then 1 else 2),[]):=by
 rw[aD rfl Tryz.func150 rfl rfl];by_cases h1:s=0
 ·simp[h1]
 ·by_cases h2:t=0
  ·simp[h1,h2]
  ·by_cases h3:s=1
   ·by_cases h4:t=1
    ·simp[h3,h4]
    ·simp[h3,h4,h2]
   ·simp[h1,h2,h3]
theorem AWI (t:Int):aH C0 149 [.int t] []=some (.i (.agg [.bool (decide (t=2)), .int (if t=2 then 0 else t)]),[]):=by
 rw[aD rfl Tryz.func149 rfl rfl];by_cases h:t=2
 ·subst h;simp
 ·simp[h]
theorem ALB {k x y:Int} (hk:k=8∨k=9) (hx:x=1∨x=2∨x=4) (hy:y=1∨y=2∨y=4):aH C0 143 [.int k, .i (.agg [.bool (EZ x).null, .int (EZ x).n]), .i (.agg [.bool (EZ y).null, .int (EZ y).n])] []=some (.i (.agg [.bool (Val.cmb k (EZ x) (EZ y)).null, .int (Val.cmb k (EZ x) (EZ y)).n]),[]):=by
 rw[aD rfl Tryz.func143 rfl rfl]
 rcases hk with rfl|rfl<;>rcases hx with rfl|rfl|rfl<;>rcases hy with rfl|rfl|rfl<;>(simp[-AZ7,-AVW,EZ,AG1,AR4,AR7,AWI];try decide)
@[simp] theorem wr8:IntKind.i64.wrap 8=8:=by decide
def pw (i:Nat):Int:=if i=0 then 1 else if i=1 then 2 else if i=2 then 4 else 8
def TSO (k:Int) (a b:Nat) (i:Nat):AS :=
 { env:=[(0, .int k),(1, .int a),(2, .int b),(6, .int 0),(7, .int (tsO k a b i)),(8, .int (pw i)),(9,jk i (.int 8)),(11,jk i (.bool true)),(15,jk i (.bool false)),(29,jk i (.bool (jU a (pw (i-1)) && jU b 4)))],st:=[] }
def TSI (k:Int) (a b:Nat) (i:Nat) (j:Nat):AS :=
 { env:=[(0, .int k),(1, .int a),(2, .int b),(6, .int 0),(7, .int (tsI k a b (pw i) (tsO k a b i) j)),(8, .int (pw i)),(9, .int (pw j)),(11, .bool true),(15,jk (i+j) (.bool (decide (j≠0)))),(29,jk (i+j) (.bool (if j=0 then jU a (pw (i-1)) && jU b 4 else jU a (pw i) && jU b (pw (j-1)))))],st:=[] }
theorem AIG {a:Nat} (ha:a<8) {x:Int} (hx:0<x) (hx8:x<8):IntKind.i64.wrap ((a:Int) / x)=(a:Int) / x∧(jU a x=decide (((a:Int) / x).tmod 2=1)):=by
 have h2:0≤(a:Int) / x:=Int.ediv_nonneg (by omega) (by omega);have h3:(a:Int) / x≤a:=Int.ediv_le_self _ (by omega);refine⟨wrO,?_⟩;unfold jU;rw[Int.tmod_eq_emod_of_nonneg h2]
theorem AFM (x:Int):aH C0 144 [.int x] []=some (.i (.agg [.bool (EZ x).null, .int (EZ x).n]),[]):=AC8 x
theorem AKV {k a b x s:Int} {j:Nat} {y:Int} (h:(([1,2,4]:List Int))[j]?=some y):tsI k a b x s (j+1)=if(jU a x && jU b y)=true then orS (tsI k a b x s j) (stV (Val.cmb k (EZ x) (EZ y)))else tsI k a b x s j:=by
 unfold tsI;rw[aN h,xB];rfl
theorem AKU {k a b:Int} {i:Nat} {x:Int} (h:(([1,2,4]:List Int))[i]?=some x):tsO k a b (i+1)=tsI k a b x (tsO k a b i) 3:=by
 unfold tsO;rw[aN h,xB];rfl
theorem AAG (i:Nat) (hi:i<3):(pw i=1∨pw i=2∨pw i=4)∧IntKind.i64.wrap (2*pw i)=pw (i+1)∧(([1,2,4]:List Int))[i]?=some (pw i):=by
 have h:i=0∨i=1∨i=2:=by omega
 rcases h with rfl|rfl|rfl<;>decide
theorem CU {k:Int} (hk:k=8∨k=9) {a b:Nat} (ha:a<8) (hb:b<8):aH C0 138 [.int k, .int a, .int b] []=some (.int (tsO k a b 3),[]):=by
 have p0:pw 0=1:=rfl;have p2:pw 2=4:=rfl;have p3:pw 3=8:=rfl;rw[aD rfl Tryz.func138 rfl rfl];simp;rw[aS (TSO k a b) 3 (by simp[TSO,tsO,p0])]
 ·rw[aG];simp[TSO,p3]
 ·intro i hi;obtain⟨x1,x2,x3⟩:=AAG i hi;have hsc:=AKU (k:=k) (a:=a) (b:=b) x3;have hlo:=AQD (k:=k) (a:=a) (b:=b) i;have xl:pw i≤4:=by omega
  have xz:(pw i != 0)=true:=by simp;omega
  obtain⟨ax,bx⟩:=AIG ha (x:=pw i) (by omega) (by omega);simp[TSO,xl];rw[aS (TSI k a b i) 3 (by simp[TSI,tsI,p0])]
  ·rw[aG];simp[TSI,TSO,p2,p3,hsc,x2]
  ·intro j hj;obtain⟨y1,y2,y3⟩:=AAG j hj;have yl:pw j≤4:=by omega
   have yz:(pw j != 0)=true:=by simp;omega
   have hs:=AKV (k:=k) (a:=a) (b:=b) (x:=pw i) (s:=tsO k a b i) y3;obtain⟨m,m1,m2⟩:=AFS (k:=k) (a:=a) (b:=b) (x:=pw i) hlo j;obtain⟨n,n1,n2⟩:=K4 (Val.cmb k (EZ (pw i)) (EZ (pw j)));have hcm:=ALB hk x1 y1;have hst:=U4 (Val.cmb k (EZ (pw i)) (EZ (pw j))).null (Val.cmb k (EZ (pw i)) (EZ (pw j))).n;rw[show stV ⟨(Val.cmb k (EZ (pw i)) (EZ (pw j))).null,(Val.cmb k (EZ (pw i)) (EZ (pw j))).n⟩=stV (Val.cmb k (EZ (pw i)) (EZ (pw j)))from rfl,n1]at hst;rw[m1,n1,QM]at hs;obtain⟨cx,dx⟩:=AIG hb (x:=pw j) (by omega) (by omega);have hjk:=bT (show i+(j+1)≠0 by omega);by_cases p:jU a (pw i)=true
   ·have p':=p;rw[bx,zM]at p';by_cases q:jU b (pw j)=true
    ·have q':=q;rw[dx,zM]at q';rw[p,q]at hs;simp only[Bool.and_self,if_true]at hs;simp[TSI,yl,xz,yz,y2,hjk,ax,cx,p',q',p,q,AFM,hcm,hst,m1,I5 m2,I5 n2,or8 m2 n2,hs]
    ·have q2:jU b (pw j)=false:=by simpa using q
     have q':=q;rw[dx,zM]at q';rw[p,q2]at hs;simp only[Bool.and_false,yK,if_false]at hs;simp[TSI,yl,xz,yz,y2,hjk,ax,cx,p',q',p,q2,m1,hs]
   ·have p2':jU a (pw i)=false:=by simpa using p
    have p':=p;rw[bx,zM]at p';rw[p2']at hs;simp only[Bool.false_and,yK,if_false]at hs;simp[TSI,yl,xz,yz,y2,hjk,ax,p',p2',m1,hs]
theorem AL2 {k a b:Int} (hk:k=8∨k=9) (ha:okS a) (hb:okS b):aH C0 138 [.int k, .int a, .int b] []=some (.int (mW k a b),[]):=by
 obtain⟨m,rfl⟩:=yN (show 0≤a by have:=ha.1;omega);obtain⟨n,rfl⟩:=yN (show 0≤b by have:=hb.1;omega);have hm:m<8:=by have:=ha.2;omega
 have hn:n<8:=by have:=hb.2;omega
 have ht:=AVJ ⟨m,hm⟩ ⟨n,hn⟩
 rcases hk with rfl|rfl
 ·rw[CU (.inl rfl) hm hn];simp only at ht;rw[ht.1]
 ·rw[CU (.inr rfl) hm hn];simp only at ht;rw[ht.2]
theorem AMD:∀ m:Fin 8,(m.val &&& 3=0∧(jU m.val 1 || jU m.val 2)=false)∨((m.val &&& 3=1∨m.val &&& 3=2∨m.val &&& 3=3)∧(jU m.val 1 || jU m.val 2)=true):=by decide
theorem AcJ {m:Nat} (hm:m<8):∃ v:Nat,m &&& 3=v∧IntKind.i64.wrap (v:Int)=v∧((v=0∧(jU m 1 || jU m 2)=false)∨(¬ v=0∧(jU m 1 || jU m 2)=true)):=by
 rcases AMD ⟨m,hm⟩with ⟨h,q⟩|⟨h|h|h,q⟩
 ·exact⟨0,h,by decide, .inl ⟨rfl,q⟩⟩
 ·exact⟨1,h,by decide, .inr ⟨by omega,q⟩⟩
 ·exact⟨2,h,by decide, .inr ⟨by omega,q⟩⟩
 ·exact⟨3,h,by decide, .inr ⟨by omega,q⟩⟩
theorem U8 {W:Int} (st:List Int) (hl:(st.length:Int)=W) (hs:∀ a∈st,okS a):∀ e:Ex,e.wf W=true→aH C0 122 [.i (.agg e.cells), .i (.isl (aF st))] []=some (.int (KR st e),[]):=by
 intro e
 induction e using Ex.ind with
 | h k c v ks ih =>
  intro hw;have hall:=QL st hl hs;rw[aD rfl Tryz.func122 rfl rfl,Ex.aA,Y3]
  rcases Ex.CF hw with ⟨h1,h2,h3,h4⟩|⟨h1,h2⟩|⟨h1,x,h2,h3⟩|⟨h1,x,y,h2,h3,h4⟩
  ·generalize Ex.mk k c v ks=e at *
   have hlt:e.col.toNat<st.length:=by omega
   have h5:=zX hlt;generalize st[e.col.toNat]=s at h5;have r2:=aX h5;obtain⟨_,h6⟩:=zZ.1 h5;simp[h1,h2,r2,h6,show e.col<st.length by omega]
  ·generalize Ex.mk k c v ks=e at *
   have hst:=U4 e.val.null e.val.n;simp[h1,hst]
  ·have hx:=ih x (by simp only[Ex.kids]at h2;simp[h2]) h3;have ho:=hall x h3;generalize Ex.mk k c v ks=e at *
   generalize hso:KR st x=s at hx ho;rw[Ex.aA]at hx
   rcases h1 with h1|h1
   ·rcases seven ho with rfl|rfl|rfl|rfl|rfl|rfl|rfl<;>(simp[h1,h2,Ex.aB,Ex.aA x,hx,hso];try decide)
   ·rcases seven ho with rfl|rfl|rfl|rfl|rfl|rfl|rfl<;>(simp[h1,h2,Ex.aB,Ex.aA x,hx,hso];try decide)
  ·have hx:=ih x (by simp only[Ex.kids]at h2;simp[h2]) h3;have hy:=ih y (by simp only[Ex.kids]at h2;simp[h2]) h4;have ho:=hall x h3;have hp:=hall y h4;generalize Ex.mk k c v ks=e at *
   generalize hso:KR st x=s at hx ho;generalize hto:KR st y=t at hy hp;rw[Ex.aA]at hx hy;have q1:¬ e.kind=1:=by omega
   have q2:¬ e.kind=2:=by omega
   have q3:¬ e.kind=10:=by omega
   have q4:¬ e.kind=11:=by omega
   by_cases hk:e.kind=8∨e.kind=9
   ·have hc:=AL2 (k:=e.kind) hk ho hp
    rcases hk with hk|hk<;>(rw[hk]at hc;simp[hk,h2,Ex.aB,Ex.aA x,Ex.aA y,hx,hy,hc,hso,hto])
   ·have q5:¬ e.kind=8:=by omega
    have q6:¬ e.kind=9:=by omega
    have hcs:mW e.kind s t=orS (if jU (orS s t) 4=true then 4 else 0) (if(jU s 1 || jU s 2)=true∧(jU t 1 || jU t 2)=true then(if e.kind<6 then 7 else 3)else 0):=if_neg hk;obtain⟨m,rfl⟩:=yN (show 0≤s by have:=ho.1;omega);obtain⟨n,rfl⟩:=yN (show 0≤t by have:=hp.1;omega);have hm:m<8:=by have:=ho.2;omega
    have hn:n<8:=by have:=hp.2;omega
    have h1:=I5 hm;have h2':=I5 hn;have h3':=or8 hm hn;have h4':(m ||| n) % 18446744073709551616=m ||| n:=I5 (zB2 (n:=3) hm hn)
    obtain⟨x',x1,x2,x3⟩:=AcJ hm;obtain⟨y',y1,y2,y3⟩:=AcJ hn;have e7:orS 0 7=7:=by decide
    have e3:orS 0 3=3:=by decide
    have e47:orS 4 7=7:=by decide
    have e43:orS 4 3=7:=by decide
    have e40:orS 4 0=4:=by decide
    have e00:orS 0 0=0:=by decide
    rcases KS hm hn with ⟨p,q⟩|⟨p,q⟩<;>rcases x3 with ⟨x3,x4⟩|⟨x3,x4⟩<;>rcases y3 with ⟨y3,y4⟩|⟨y3,y4⟩<;>by_cases q7:e.kind<6 <;>
     simp[q1,q2,q3,q4,q5,q6,q7,h2,Ex.aB,Ex.aA x,Ex.aA y,hx,hy,hso,hto,hcs,h1,h2',h3',h4',p,q,x1,x2,x3,x4,y1,y2,y3,y4,e7,e3,e47,e43,e40,e00]
theorem XT (e:Ex) {n p m:Nat} (hn:n=p+m) (hb:n<1000) (h:e.wf n=true):aH C0 102 [.i (.agg e.cells), .int n, .i (.isl (aF (mH p m)))] []=some (.bool (AGT e n p),[]):=by
 have hlen:((l8 n p).length:Int)=(n:Int):=by rw[p8];omega
 have ho:=U8 (l8 n p) hlen (JB _ _) e h;have hs:=QL (l8 n p) hlen (JB _ _) e h;have hns:=QQ hn hb;rw[aD rfl Tryz.func102 rfl rfl];unfold AGT;generalize KR (l8 n p) e=s at ho hs;rw[Ex.aA]at *
 rcases seven hs with rfl|rfl|rfl|rfl|rfl|rfl|rfl<;>(simp[hns,ho];try decide)
set_option maxHeartbeats 4000000
def jF (g:FuncId) (ws:List Int) (r:Int) (p:Pn):Prop:=∃ (q:Pn) (b:Bool),aH C0 g [.i (.iref p.cells), .i (.isl (aF ws))] []=some (.tup [.i (.agg q.cells), .bool b],[])∧(b=true→rwP ws r p=some q)∧(b=false→∀ q',rwP ws r p=some q'→∀ lv,q'.wd ws lv=0)
@[simp] theorem AY6 (e:Ex) (k:Pn):(filt e k).kind=2:=rfl
@[simp] theorem AX2 (es:List Ex) (k:Pn):(proj es k).kind=3:=rfl
@[simp] theorem AX9 (kd:Int) (e:Ex) (a b:Pn):(bB kd e a b).kind=kd:=rfl
@[simp] theorem ATZ (a b:Pn):(bX a b).kind=6:=rfl
theorem fF (ws:List Int) (r:Int) (e:Ex) (k:Pn):rwP ws r (filt e k)=rwF ws r e k:=by simp[rwP,filt,Pn.ex0,Pn.kU,Pn.kind,Pn.exprs,Pn.kids]
theorem jF.no {g:FuncId} {ws:List Int} {r:Int} {p:Pn} (h:aH C0 g [.i (.iref p.cells), .i (.isl (aF ws))] []=some (.tup [.i (.agg Pn.zero.cells), .bool false],[])) (hr:rwP ws r p=none):jF g ws r p:=⟨.zero,false,h,by simp,by simp[hr]⟩
theorem jF.yes {g:FuncId} {ws:List Int} {r:Int} {p q:Pn} (h:aH C0 g [.i (.iref p.cells), .i (.isl (aF ws))] []=some (.tup [.i (.agg q.cells), .bool true],[])) (hr:rwP ws r p=some q):jF g ws r p:=⟨q,true,h,fun _=>hr,by simp⟩
theorem AaY {ws:List Int} {p:Pn} {W:Int} (hp:Wd ws p W):jF 85 ws 1 p:=by
 by_cases hk:p.kind=2
 ·obtain⟨e,a,rfl⟩:=qO hp hk;by_cases hk2:a.kind=2
  ·obtain⟨e2,a2,rfl⟩:=qO (iR hp).1 hk2;refine .yes (q:=filt (ABW e2 e) a2) ?_ (by rw[fF];simp[rwF,filt,Pn.ex0,Pn.kU,Pn.kind,Pn.exprs,Pn.kids]);have h1:=fQ (e:=e) (k:=filt e2 a2) (kd:=2) rfl;have h2:=AJA e2 e;have h3:=eT (ABW e2 e) a2;rw[aD rfl Tryz.func85 rfl rfl];simp only[aU,qL,Ex.aA e,Ex.aA e2,Pn.aA a2]at h1 h2 h3 ⊢;simp[h1,h2,h3]
  ·refine .no ?_ (by rw[fF];simp[rwF,hk2]);have h1:=dU (e:=e) (k:=a) (kd:=2) hk2;rw[aD rfl Tryz.func85 rfl rfl];simp only[aU,aV]at h1 ⊢;simp[h1]
 ·refine .no ?_ (by simp[rwP,hk]);have h1:=fK (p:=p) (kd:=2) hk;rw[aD rfl Tryz.func85 rfl rfl];simp only[aV,Pn.aA p]at h1 ⊢;simp[h1]
theorem AaU {ws:List Int} {p:Pn} {W:Int} (hp:Wd ws p W):jF 89 ws 5 p:=by
 by_cases hk:p.kind=2
 ·obtain⟨e,a,rfl⟩:=qO hp hk;by_cases hk2:a.kind=4
  ·obtain⟨e2,x,y,hx⟩:=jN (iR hp).1 (.inl hk2);rw[hk2]at hx;subst hx;refine .yes (q:=bB 4 (ABW e2 e) x y) ?_ (by rw[fF];simp[rwF,bB,Pn.ex0,Pn.kU,Pn.uK,Pn.kind,Pn.exprs,Pn.kids]);have h1:=fQ (e:=e) (k:=bB 4 e2 x y) (kd:=4) rfl;have h2:=AJA e2 e;have h3:=nV 4 (ABW e2 e) x y;rw[aD rfl Tryz.func89 rfl rfl];simp only[aU,pair_cells,qL,Ex.aA e,Ex.aA e2,Pn.aA x,Pn.aA y]at h1 h2 h3 ⊢;simp[h1,h2,h3]
  ·refine .no ?_ (by rw[fF];simp[rwF,hk2]);have h1:=dU (e:=e) (k:=a) (kd:=4) hk2;rw[aD rfl Tryz.func89 rfl rfl];simp only[aU,aV]at h1 ⊢;simp[h1]
 ·refine .no ?_ (by simp[rwP,hk]);have h1:=fK (p:=p) (kd:=4) hk;rw[aD rfl Tryz.func89 rfl rfl];simp only[aV,Pn.aA p]at h1 ⊢;simp[h1]
theorem AaR {ws:List Int} {p:Pn} {W:Int} (hp:Wd ws p W):jF 92 ws 8 p:=by
 by_cases hk:p.kind=2
 ·obtain⟨e,a,rfl⟩:=qO hp hk;by_cases hk2:a.kind=6
  ·obtain⟨x,y,rfl⟩:=AJX (iR hp).1 hk2;refine .yes (q:=bX (filt e x) (filt e y)) ?_ (by rw[fF];simp[rwF,bX,Pn.ex0,Pn.kU,Pn.uK,Pn.kind,Pn.exprs,Pn.kids]);have h1:=fQ (e:=e) (k:=bX x y) (kd:=6) rfl;have h2:=eT e x;have h3:=eT e y;rw[aD rfl Tryz.func92 rfl rfl];simp only[aU,JV,Ex.aA e,Pn.aA x,Pn.aA y]at h1 h2 h3 ⊢;simp[h1,h2,h3]
  ·refine .no ?_ (by rw[fF];simp[rwF,hk2]);have h1:=dU (e:=e) (k:=a) (kd:=6) hk2;rw[aD rfl Tryz.func92 rfl rfl];simp only[aU,aV]at h1 ⊢;simp[h1]
 ·refine .no ?_ (by simp[rwP,hk]);have h1:=fK (p:=p) (kd:=6) hk;rw[aD rfl Tryz.func92 rfl rfl];simp only[aV,Pn.aA p]at h1 ⊢;simp[h1]
theorem AaQ {ws:List Int} {p:Pn} {W:Int} (hp:Wd ws p W):jF 93 ws 9 p:=by
 by_cases hk:p.kind=7
 ·obtain⟨a,rfl⟩:=AJY hp hk;have hc:(Pn.mk 7 0 [] [] [a]).cells=[.int 7, .int 0, .isl [], .isl [], .isl [a.cells]]:=by simp[Pn.cells,Ex.aB,aF,Pn.aB]
  by_cases hk2:a.kind=7∨a.kind=8
  ·refine .yes (q:=a) ?_ (by simp[rwP,Pn.kU,Pn.kids,hk2]);rw[aD rfl Tryz.func93 rfl rfl];simp only[hc,Pn.aA a]
   rcases hk2 with hk2|hk2<;>simp[hk2]
  ·refine .no ?_ (by simp[rwP,Pn.kU,Pn.kids,hk2]);rw[aD rfl Tryz.func93 rfl rfl];simp only[hc,aV,Pn.aA a];have h7:¬ a.kind=7:=by omega
   have h8:¬ a.kind=8:=by omega
   simp[h7,h8]
 ·refine .no ?_ ?_
  ·rw[aD rfl Tryz.func93 rfl rfl];simp only[aV,Pn.aA p];simp[hk]
  ·unfold rwP;split
   ·unfold rwF;simp
   ·simp[hk]
theorem AaX {ws:List Int} {p:Pn} {W:Int} (hp:Wd ws p W):jF 86 ws 2 p:=by
 by_cases hk:p.kind=2
 ·obtain⟨e,a,rfl⟩:=qO hp hk;by_cases hk2:e.kind=8
  ·have hw:=(Ex.tL (iR hp).2).1
   obtain⟨x,y,hxy⟩:∃ x y,e.kids=[x,y]:=by
    rcases Ex.CF hw with ⟨h,_⟩|⟨h,_⟩|⟨h,_⟩|⟨_,x,y,h,_⟩
    ·omega
    ·omega
    ·omega
    ·exact⟨x,y,h⟩
   refine .yes (q:=filt y (filt x a)) ?_ (by rw[fF];simp[rwF,hk2,Ex.kU,Ex.uK,hxy]);have h2:=eT x a;have h3:=eT y (filt x a);rw[aD rfl Tryz.func86 rfl rfl];simp only[aU,Ex.aA e,hxy,Ex.aB,Ex.aA x,Ex.aA y,Pn.aA a]at h2 h3 ⊢;simp[hk2,h2,h3]
  ·refine .no ?_ (by rw[fF];simp[rwF,hk2]);rw[aD rfl Tryz.func86 rfl rfl];simp only[aU,aV,Ex.aA e];simp[hk2]
 ·refine .no ?_ (by simp[rwP,hk]);rw[aD rfl Tryz.func86 rfl rfl];simp only[aV,Pn.aA p];simp[hk]
end Go.Proofs.YtgiepjdnkonkgaaGreat.P
namespace Go.Av
theorem wK {ws:List Int} {e:Ex} {a:Pn} (h:(filt e a).wd ws 8≠0):a.wd ws 8≠0∧e.ok (a.wd ws 8)=true∧(filt e a).wd ws 8=a.wd ws 8:=by
 have h1:=h;rw[JQ]at h1;obtain⟨h2,h3⟩:=gP h1;have hm:=Pn.jD a 7 8 h3 (by omega);rw[hm];exact⟨h3,h2.2,by rw[JQ,if_pos h2]⟩
theorem QJ {ws:List Int} {kd:Int} {e:Ex} {a b:Pn} (hk:kd=4∨kd=5) (h:(bB kd e a b).wd ws 8≠0):a.wd ws 8≠0∧b.wd ws 8≠0∧a.wd ws 8+b.wd ws 8≤6∧e.ok (a.wd ws 8+b.wd ws 8)=true∧(bB kd e a b).wd ws 8=a.wd ws 8+b.wd ws 8:=by
 have h1:=h;rw[JP hk]at h1;obtain⟨h2,h3⟩:=gP h1;rw[Pn.jD a 7 8 h2.1 (by omega),Pn.jD b 7 8 h2.2.1 (by omega)];exact⟨h2.1,h2.2.1,h2.2.2.1,h2.2.2.2,by rw[JP hk,if_pos h2]⟩
theorem AD4 {ws:List Int} {es:List Ex} {a:Pn} (h:(proj es a).wd ws 8≠0):a.wd ws 8≠0∧bH es.length=true∧es.all (Ex.ok (a.wd ws 8))=true∧(proj es a).wd ws 8=es.length:=by
 have h1:=h;rw[EW]at h1;obtain⟨h2,h3⟩:=gP h1;rw[Pn.jD a 7 8 h2.1 (by omega)];exact⟨h2.1,h2.2.1,h2.2.2,by rw[EW,if_pos h2]⟩
theorem ANL {e:Ex} {n:Nat} (h:e.wL (fun c=>decide (0≤c))=true):(e.bits / 2 ^ n=0)=(e.cin 0 n=true):=by
 rw[eq_iff_iff,ATM h n];unfold Ex.cin;constructor
 ·intro h1;exact Ex.qM (by simp) e (Ex.ABY e h h1)
 ·intro h1;exact Ex.qM (fun c hc=>by simp at hc ⊢;exact hc.2) e h1
theorem ANK {e:Ex} {n W:Nat} (h:e.wL (fun c=>decide (0≤c∧c<(W:Int)))=true):(e.bits &&& (2 ^ n-1)=0)=(e.cin n W=true):=by
 have h0:e.wL (fun c=>decide (0≤c))=true:=Ex.qM (fun c hc=>by simp at hc ⊢;exact hc.1) e h;rw[eq_iff_iff,ATL h0 n];unfold Ex.cin;constructor
 ·intro h1;exact Ex.qM (fun c hc=>by simp at hc ⊢;omega) e (Ex.ABY e h h1)
 ·intro h1;exact Ex.qM (fun c hc=>by simp at hc ⊢;exact hc.1) e h1
end Go.Av
namespace Go.Proofs.YtgiepjdnkonkgaaGreat.P
open Go Go.Av
set_option maxRecDepth 4000
set_option maxHeartbeats 4000000
theorem GL {ws:List Int} (hw:kH ws=true) (p:Pn):aH C0 64 [.i (.agg p.cells), .i (.isl (aF ws))] []=some (.int (p.wd ws 8),[]):=by
 rw[oW];unfold Pn.width;rw[if_pos hw]
theorem CG {ws:List Int} (hw:kH ws=true) {p:Pn} (h:p.wd ws 8≠0):∃ n:Nat,p.wd ws 8=n∧1≤n∧n≤6:=by
 have:=Pn.qV (l7 hw) p 8;exact⟨(p.wd ws 8).toNat,by omega,by omega,by omega⟩
theorem AN1 (a b:Nat):Int.fdiv (a:Int) (b:Int)=((a / b:Nat):Int):=by
 rw[Int.fdiv_eq_ediv_of_nonneg _ (Int.natCast_nonneg b)];rfl
theorem AcE {n:Nat} (hn:n≤6):(IntKind.i64.wrap (IntKind.i64.wrap (2 ^ min n IntKind.i64.bits)-1) % 18446744073709551616).toNat=2 ^ n-1:=by
 have:n=0∨n=1∨n=2∨n=3∨n=4∨n=5∨n=6:=by omega
 rcases this with rfl|rfl|rfl|rfl|rfl|rfl|rfl<;>decide
theorem ALJ {ws:List Int} (hw:kH ws=true) {e e2:Ex} {x y:Pn} {kd:Int} (hkd:kd=4∨kd=5) (hp:(filt e (bB kd e2 x y)).wd ws 8≠0):jF 87 ws 3 (filt e (bB kd e2 x y)):=by
 obtain⟨h1,h2,h3⟩:=wK hp;obtain⟨g1,g2,g3,g4,g5⟩:=QJ hkd h1;rw[g5]at h2;obtain⟨n,hn,n1,n2⟩:=CG hw g1;have hwf:=Ex.AH6 h2;have hcol:=Ex.ZR hwf;have hb:=Ex.SE e hcol;have c1:=PM e (by have:=Ex.gK h2;omega) hcol;have c2:=GL hw x;have c3:=eT e x;have c4:=nV kd e2 (filt e x) y;have q:=ANL (n:=n) (Ex.AKN hwf);rw[hn]at c2;have o1:aH C0 110 [.i (.iref (filt e (bB kd e2 x y)).cells), .int kd] []=_:=fQ (e:=e) (k:=bB kd e2 x y) (kd:=kd) rfl;have o2:kd=5→aH C0 110 [.i (.iref (filt e (bB kd e2 x y)).cells), .int 4] []=_:=fun h=>dU (e:=e) (k:=bB kd e2 x y) (kd:=4) (by simp[h])
 have hsh:shI .shr .i64 (e.bits:Int) (n:Int)=some (.lit (.int .i64 ((e.bits / 2 ^ n:Nat):Int))):=by
  have h1:min (n:Int).toNat IntKind.i64.bits=n:=by simp[IntKind.bits];omega
  have h2:(0:Int)≤n:=by omega
  simp only[shI,h1,h2,decide_true,tst];rw[show(2:Int) ^ n=((2 ^ n:Nat):Int)by simp,AN1]
 have hr:rwP ws 3 (filt e (bB kd e2 x y))=if e.cin 0 n=true then some (bB kd e2 (filt e x) y)else none:=by
  rw[fF];simp[rwF,bB,Pn.ex0,Pn.kU,Pn.uK,Pn.kind,Pn.exprs,Pn.kids,hkd,hn]
 generalize hd:e.bits / 2 ^ n=d at *
 by_cases hc:e.cin 0 n=true
 ·rw[if_pos hc]at hr;have hd0:d=0:=by rw[q];exact hc
  subst hd0;refine .yes ?_ hr;rw[aD rfl Tryz.func87 rfl rfl]
  rcases hkd with rfl|rfl
  ·simp only[aU,pair_cells,Ex.aA e,Ex.aA e2,Pn.aA x,Pn.aA y]at o1 c1 c2 c3 c4 ⊢;simp[o1,c1,c2,c3,c4,hsh]
  ·have o2:=o2 rfl;simp only[aU,pair_cells,Ex.aA e,Ex.aA e2,Pn.aA x,Pn.aA y]at o1 o2 c1 c2 c3 c4 ⊢;simp[o1,o2,c1,c2,c3,c4,hsh]
 ·rw[if_neg hc]at hr;have hd0:¬ d=0:=by rw[q];exact hc
  refine .no ?_ hr;rw[aD rfl Tryz.func87 rfl rfl]
  rcases hkd with rfl|rfl
  ·simp only[aU,pair_cells,aV,Ex.aA e,Ex.aA e2,Pn.aA x,Pn.aA y]at o1 c1 c2 ⊢;simp[o1,c1,c2,hsh,hd0]
  ·have o2:=o2 rfl;simp only[aU,pair_cells,aV,Ex.aA e,Ex.aA e2,Pn.aA x,Pn.aA y]at o1 o2 c1 c2 ⊢;simp[o1,o2,c1,c2,hsh,hd0]
theorem AaW {ws:List Int} (hw:kH ws=true) {p:Pn} (hp:p.wd ws 8≠0):jF 87 ws 3 p:=by
 by_cases hk:p.kind=2
 ·obtain⟨e,a,rfl⟩:=qO (nN hp) hk;by_cases hk2:a.kind=4∨a.kind=5
  ·obtain⟨e2,x,y,hx⟩:=jN (iR (nN hp)).1 hk2;generalize a.kind=kd at *
   subst hx;exact ALJ hw hk2 hp
  ·have h1:=dU (e:=e) (k:=a) (kd:=4) (by omega);have h2:=dU (e:=e) (k:=a) (kd:=5) (by omega);refine .no ?_ (by rw[fF];simp[rwF,hk2]);rw[aD rfl Tryz.func87 rfl rfl];simp only[aU,aV]at h1 h2 ⊢;simp[h1,h2]
 ·have h1:=fK (p:=p) (kd:=4) hk;have h2:=fK (p:=p) (kd:=5) hk;refine .no ?_ (by simp[rwP,hk]);rw[aD rfl Tryz.func87 rfl rfl];simp only[aV,Pn.aA p]at h1 h2 ⊢;simp[h1,h2]
theorem ANZ {b n:Nat} (hb:b<64):IntKind.i64.wrap ((b:Int) % 18446744073709551616 % 2 ^ n)=((b &&& (2 ^ n-1):Nat):Int):=by
 rw[Nat.and_two_pow_sub_one_eq_mod];have h1:(b:Int) % 18446744073709551616=b:=by omega
 have h2:(b:Int) % 2 ^ n=((b % 2 ^ n:Nat):Int):=by simp
 rw[h1,h2];have:=Nat.mod_le b (2 ^ n);exact wrO
theorem ALI {ws:List Int} (hw:kH ws=true) {e e2:Ex} {x y:Pn} (hp:(filt e (bB 4 e2 x y)).wd ws 8≠0):jF 88 ws 4 (filt e (bB 4 e2 x y)):=by
 obtain⟨h1,h2,h3⟩:=wK hp;obtain⟨g1,g2,g3,g4,g5⟩:=QJ (.inl rfl) h1;rw[g5]at h2;obtain⟨n,hn,n1,n2⟩:=CG hw g1;obtain⟨m,hm,m1,m2⟩:=CG hw g2;have hwf:=Ex.AH6 h2;have hcol:=Ex.ZR hwf;have hcolW:=Ex.PX e (Ex.tL h2).1;have hb:=Ex.SE e hcol;have hsz:e.size<1000000000:=by have:=Ex.gK h2;omega
 have c1:=PM e hsz hcol;have c2:=GL hw x;have c5:=XY (w:=n) (by omega) e hwf hsz;have c3:=eT (e.AZ (·-n)) y;have c4:=nV 4 e2 x (filt (e.AZ (·-n)) y);rw[hn,hm,← Int.natCast_add]at hcolW;have q:=ANK (n:=n) hcolW;rw[hn]at c2;have o1:=fQ (e:=e) (k:=bB 4 e2 x y) (kd:=4) rfl
 have hr:rwP ws 4 (filt e (bB 4 e2 x y))=if e.cin n (n+m:Nat)=true then some (bB 4 e2 x (filt (e.AZ (·-n)) y))else none:=by
  rw[fF]
  have:∀ k:Pn,(Pn.mk 4 0 [e2] [] [x,y]).wd ws 8=((n+m:Nat):Int):=fun _=>by
   have:=g5;unfold bB at this;rw[this,hn,hm];simp
  simp[rwF,bB,Pn.ex0,Pn.kU,Pn.uK,Pn.kind,Pn.exprs,Pn.kids,hn,this x]
 have haw:=ANZ (b:=e.bits) (n:=n) (by omega);by_cases hc:e.cin n (n+m:Nat)=true
 ·rw[if_pos hc]at hr;have hd0:e.bits &&& (2 ^ n-1)=0:=by rw[q];exact hc
  rw[hd0]at haw;refine .yes ?_ hr;generalize e.AZ (·-(n:Int))=z at *
  rw[aD rfl Tryz.func88 rfl rfl];simp only[aU,pair_cells,Ex.aA e,Ex.aA e2,Ex.aA z,Pn.aA x,Pn.aA y]at o1 c1 c2 c3 c4 c5 ⊢;simp[o1,c1,c2,c3,c4,c5,AcE n2,haw]
 ·rw[if_neg hc]at hr;have hd0:¬ (e.bits &&& (2 ^ n-1)=0):=by rw[q];exact hc
  refine .no ?_ hr;generalize e.bits &&& (2 ^ n-1)=d at *
  rw[aD rfl Tryz.func88 rfl rfl];simp only[aU,pair_cells,aV,Ex.aA e,Ex.aA e2,Pn.aA x,Pn.aA y]at o1 c1 c2 ⊢;simp[o1,c1,c2,hd0,AcE n2,haw]
theorem AaV {ws:List Int} (hw:kH ws=true) {p:Pn} (hp:p.wd ws 8≠0):jF 88 ws 4 p:=by
 by_cases hk:p.kind=2
 ·obtain⟨e,a,rfl⟩:=qO (nN hp) hk;by_cases hk2:a.kind=4
  ·obtain⟨e2,x,y,hx⟩:=jN (iR (nN hp)).1 (.inl hk2);rw[hk2]at hx;subst hx;exact ALI hw hp
  ·have h1:=dU (e:=e) (k:=a) (kd:=4) hk2;refine .no ?_ (by rw[fF];simp[rwF,hk2]);rw[aD rfl Tryz.func88 rfl rfl];simp only[aU,aV]at h1 ⊢;simp[h1]
 ·have h1:=fK (p:=p) (kd:=4) hk;refine .no ?_ (by simp[rwP,hk]);rw[aD rfl Tryz.func88 rfl rfl];simp only[aV,Pn.aA p]at h1 ⊢;simp[h1]
theorem AGH {ws:List Int} (hw:kH ws=true) {e:Ex} {es:List Ex} {x:Pn} (hp:(filt e (proj es x)).wd ws 8≠0):jF 94 ws 10 (filt e (proj es x)):=by
 obtain⟨h1,h2,h3⟩:=wK hp;obtain⟨g1,g2,g3,g4⟩:=AD4 h1;rw[g4]at h2;have c2:=GL hw x;have c5:=AI3 e es (x.wd ws 8);have o1:=fQ (e:=e) (k:=proj es x) (kd:=3) rfl
 have hr:rwP ws 10 (filt e (proj es x))=some (proj es (filt (e.sub es) x)):=by
  rw[fF];simp[rwF,proj,Pn.ex0,Pn.kU,Pn.uK,Pn.kind,Pn.exprs,Pn.kids]
 have c3:=eT (AMX (e.subst es (x.wd ws 8))) x;refine⟨proj es (filt (AMX (e.subst es (x.wd ws 8))) x),(e.subst es (x.wd ws 8)).isSome,?_,?_,?_⟩
 ·generalize (e.subst es (x.wd ws 8)).isSome=b at *
  generalize AMX (e.subst es (x.wd ws 8))=z at *
  rw[aD rfl Tryz.func94 rfl rfl];simp only[aU,jR,Ex.aA e,Ex.aA z,Pn.aA x]at o1 c2 c3 c5 ⊢;simp[o1,c2,c3,c5]
 ·intro hb;rw[hr];unfold Ex.subst at hb ⊢;split at hb
  ·rename_i hcc;rw[if_pos hcc];rfl
  ·simp at hb
 ·intro hb q' hq lv;rw[hr]at hq;injection hq with hq;subst hq
  cases lv with
  | zero=>rw[Pn.AC5];simp[proj,Pn.kids]
  | succ lv =>
   rw[EW];refine if_neg fun hc=>?_
   have hc1:=hc.1
   cases lv with
   | zero=>exact hc1 (by rw[Pn.AC5];simp[filt,Pn.kids])
   | succ lv =>
    rw[JQ]at hc1;obtain⟨⟨hx,hok⟩,_⟩:=gP hc1;have e8:=AO5 (nN g1) hx;rw[e8]at hok;unfold Ex.subst at hb;rw[if_pos (by simp only[zT];exact⟨h2,g3,hok⟩)]at hb;simp at hb
theorem AWP {ws:List Int} (hw:kH ws=true) {p:Pn} (hp:p.wd ws 8≠0):jF 94 ws 10 p:=by
 by_cases hk:p.kind=2
 ·obtain⟨e,a,rfl⟩:=qO (nN hp) hk;by_cases hk2:a.kind=3
  ·obtain⟨es,x,rfl⟩:=pI (iR (nN hp)).1 hk2;exact AGH hw hp
  ·have h1:=dU (e:=e) (k:=a) (kd:=3) hk2;refine .no ?_ (by rw[fF];simp[rwF,hk2]);rw[aD rfl Tryz.func94 rfl rfl];simp only[aU,aV]at h1 ⊢;simp[h1]
 ·have h1:=fK (p:=p) (kd:=3) hk;refine .no ?_ (by simp[rwP,hk]);rw[aD rfl Tryz.func94 rfl rfl];simp only[aV,Pn.aA p]at h1 ⊢;simp[h1]
def OIX (e e2:Ex) (x y:Pn) (ws:List Int) (n m i:Nat):AS :=
 { env:=[(0, .i (.iref [.int 2, .int 0, .isl [[.int e.kind, .int e.col, .bool e.val.null, .int e.val.n, .isl (Ex.aB e.kids)]], .isl [], .isl [[.int 5, .int 0, .isl [[.int e2.kind, .int e2.col, .bool e2.val.null, .int e2.val.n, .isl (Ex.aB e2.kids)]], .isl [], .isl [[.int x.kind, .int x.table, .isl (Ex.aB x.exprs), .isl (aF x.cols), .isl (Pn.aB x.kids)],[.int y.kind, .int y.table, .isl (Ex.aB y.exprs), .isl (aF y.cols), .isl (Pn.aB y.kids)]]]]])),(1, .i (.isl (aF ws))),(4, .own 0 0),(5, .bool false),(6, .i (.iref [.int e.kind, .int e.col, .bool e.val.null, .int e.val.n, .isl (Ex.aB e.kids)])),
    (7, .i (.iref [.int 5, .int 0, .isl [[.int e2.kind, .int e2.col, .bool e2.val.null, .int e2.val.n, .isl (Ex.aB e2.kids)]], .isl [], .isl [[.int x.kind, .int x.table, .isl (Ex.aB x.exprs), .isl (aF x.cols), .isl (Pn.aB x.kids)],[.int y.kind, .int y.table, .isl (Ex.aB y.exprs), .isl (aF y.cols), .isl (Pn.aB y.kids)]]])),(8, .bool true),(9, .int ((n:Int)+m)),(10,gro 1 1 i),(11, .int ((n:Int)+i)),(19, .bool false),(36,jk i (.bool true)),(49, .junk)],
   st:=some (.box [.int 0, .int 0, .nils, .nils, .nils])::ADS 1 (aF (mH n i)) i }
theorem ALG {ws:List Int} (hw:kH ws=true) {e e2:Ex} {x y:Pn} (hp:(filt e (bB 5 e2 x y)).wd ws 8≠0):jF 91 ws 7 (filt e (bB 5 e2 x y)):=by
 obtain⟨h1,h2,h3⟩:=wK hp;obtain⟨g1,g2,g3,g4,g5⟩:=QJ (.inr rfl) h1;have c1:=GL hw (bB 5 e2 x y);rw[g5]at h2 c1;obtain⟨n,hn,n1,n2⟩:=CG hw g1;obtain⟨m,hm,m1,m2⟩:=CG hw g2;have c2:=GL hw x;rw[hn,hm,← Int.natCast_add]at h2 c1;rw[hn]at c2;have c3:=nV 4 e2 x y;have c4:=eT e (bB 4 e2 x y);have c5:=YE e (n:=n+m) (p:=n) (m:=m) rfl h2;have o1:=fQ (e:=e) (k:=bB 5 e2 x y) (kd:=5) rfl
 have hr:rwP ws 7 (filt e (bB 5 e2 x y))=if AGT e (n+m:Nat) n=true then some (filt e (bB 4 e2 x y))else none:=by
  rw[fF]
  have:(Pn.mk 5 0 [e2] [] [x,y]).wd ws 8=((n+m:Nat):Int):=by
   have:=g5;unfold bB at this;rw[this,hn,hm];simp
  simp[rwF,bB,Pn.ex0,Pn.kU,Pn.uK,Pn.kind,Pn.exprs,Pn.kids,hn,this]
 generalize AGT e (n+m:Nat) n=b at *
 have key:aH C0 91 [.i (.iref (filt e (bB 5 e2 x y)).cells), .i (.isl (aF ws))] []=some (.tup [.i (.agg (if b=true then filt e (bB 4 e2 x y)else Pn.zero).cells), .bool b],[]):=by
  rw[aD rfl Tryz.func91 rfl rfl];simp only[aU,pair_cells,aV,Ex.aA e,Ex.aA e2,Pn.aA x,Pn.aA y]at o1 c1 c2 c3 c4 c5 ⊢;have ht:∀ k,(mH n k).take k=mH n k:=fun k=>zY (by simp)
  simp only[yA]at c5;simp[o1,c1,c2];rw[aS (OIX e e2 x y ws n m) m (by simp[OIX])]
  ·rw[aG];simp[OIX,aP (show m≠0 by omega),aM (show m≠0 by omega),bT (show m≠0 by omega)]
   cases b with
   | true=>simp[c3,c4,c5,ht,aU,pair_cells,Ex.aA e,Ex.aA e2,Pn.aA x,Pn.aA y]
   | false=>simp[c5,ht,aV]
  ·intro i hi;have w2:IntKind.i64.wrap ((n:Int)+i+1)=n+(i+1):=by rw[wrO];omega
   have hs:=PN n i;have hlt:(n:Int)+i<n+m:=by omega
   by_cases h0:i=0
   ·subst h0;have hlt0:(n:Int)<n+m:=by omega
    have w3:IntKind.i64.wrap ((n:Int)+1)=n+1:=by rw[wrO]
    simp[OIX,w3,hlt0,hs,dX,aF,mH]
   ·have hl1:(i+1)*8≤140737488355328:=by omega
    simp[OIX,w2,hlt,hs,aP h0,aM h0,bT h0,dX,aF,hl1,ht]
 cases b with
 | true=>exact .yes key (by rw[hr];rfl)
 | false=>exact .no key (by rw[hr];rfl)
theorem AaS {ws:List Int} (hw:kH ws=true) {p:Pn} (hp:p.wd ws 8≠0):jF 91 ws 7 p:=by
 by_cases hk:p.kind=2
 ·obtain⟨e,a,rfl⟩:=qO (nN hp) hk;by_cases hk2:a.kind=5
  ·obtain⟨e2,x,y,hx⟩:=jN (iR (nN hp)).1 (.inr hk2);rw[hk2]at hx;subst hx;exact ALG hw hp
  ·have h1:=dU (e:=e) (k:=a) (kd:=5) hk2;refine .no ?_ (by rw[fF];simp[rwF,hk2]);rw[aD rfl Tryz.func91 rfl rfl];simp only[aU,aV]at h1 ⊢;simp[h1]
 ·have h1:=fK (p:=p) (kd:=5) hk;refine .no ?_ (by simp[rwP,hk]);rw[aD rfl Tryz.func91 rfl rfl];simp only[aV,Pn.aA p]at h1 ⊢;simp[h1]
theorem ABK {n m i:Nat} (h:i<n+m):(aW (m:Int) n++aW 0 m)[i]?=some (ABM (rC n m i)):=by
 by_cases hi:i<n
 ·rw[zG (by simpa using hi),uV hi];unfold rC;rw[if_pos (by omega),Int.add_comm]
 ·rw[zB (by simp;omega),uW,uV (by omega)];unfold rC;rw[if_neg (by omega)];congr 2;omega
def MPX (fs es:List Ex) (x:Pn) (ws:List Int) (W:Int) (zs:List Ex) (i:Nat):AS :=
 { env:=[(0, .i (.iref [.int 3, .int 0, .isl (Ex.aB fs), .isl [], .isl [[.int 3, .int 0, .isl (Ex.aB es), .isl [], .isl [[.int x.kind, .int x.table, .isl (Ex.aB x.exprs), .isl (aF x.cols), .isl (Pn.aB x.kids)]]]]])),(1, .i (.isl (aF ws))),(4, .own 0 0),(5, .bool false),(6, .i (.iref [.int 3, .int 0, .isl (Ex.aB es), .isl [], .isl [[.int x.kind, .int x.table, .isl (Ex.aB x.exprs), .isl (aF x.cols), .isl (Pn.aB x.kids)]]])),(7, .int W),(8, .own 1 0),(9,jk i (.int (i-1))),(10,if i=0 then .junk else .own 3 0),(11,jk i (.bool true)),(26, .bool false),(50, .int fs.length),(51, .int i),(52,jk i (.bool true)),(71,jk i (.bool false))],
   st:=some (.box [.int 0, .int 0, .nils, .nils, .nils])::some (.box [.int 3, .int 0,gro 2 5 i, .nils, .i (.isl [[.int x.kind, .int x.table, .isl (Ex.aB x.exprs), .isl (aF x.cols), .isl (Pn.aB x.kids)]])])::(if i=0 then []else [some (.arr 5 (Ex.aB (zs.take i))),some (.box (lF ((zs[i-1]?).getD Ex.zero).cells))]) }
def CJX (e:Ex) (x y:Pn) (ws:List Int) (n m i:Nat):AS :=
 { env:=[(0, .i (.iref [.int 4, .int 0, .isl [[.int e.kind, .int e.col, .bool e.val.null, .int e.val.n, .isl (Ex.aB e.kids)]], .isl [], .isl [[.int x.kind, .int x.table, .isl (Ex.aB x.exprs), .isl (aF x.cols), .isl (Pn.aB x.kids)],[.int y.kind, .int y.table, .isl (Ex.aB y.exprs), .isl (aF y.cols), .isl (Pn.aB y.kids)]]])),(1, .i (.isl (aF ws))),(4, .own 0 0),(5, .bool false),(6, .own 1 0),(7, .own 2 0),(8, .fn (.func 117) [.own 1 0, .own 2 0]),(9, .own 3 0),(10,jk i (.int (i-1))),(15, .bool false),(37, .int ((n:Int)+m)),(38, .int i),(39,jk i (.bool true))],
   st:=some (.box [.int 0, .int 0, .nils, .nils, .nils])::some (.box [.int n])::some (.box [.int m])::some (.box [.int 3, .int 0,gro 4 5 i, .nils, .nils])::ADS 5 (Ex.aB ((aW (m:Int) n++aW 0 m).take i)) i }
theorem ALH {ws:List Int} (hw:kH ws=true) {e:Ex} {x y:Pn} (hp:(bB 4 e x y).wd ws 8≠0):jF 90 ws 6 (bB 4 e x y):=by
 obtain⟨g1,g2,g3,g4,g5⟩:=QJ (.inl rfl) hp;obtain⟨n,hn,n1,n2⟩:=CG hw g1;obtain⟨m,hm,m1,m2⟩:=CG hw g2;have c1:=GL hw x;have c2:=GL hw y;have hwf:=Ex.AH6 g4;have hsz:e.size<1000000000:=by have:=Ex.gK g4;omega
 have c5:=XX (a:=n) (b:=m) (by omega) (by omega) e hwf hsz;have c4:=nV 4 (e.AZ (rC n m)) y x
 have hr:rwP ws 6 (bB 4 e x y)=some (proj (aW m n++aW 0 m) (bB 4 (e.AZ (rC n m)) y x)):=by
  simp[rwP,bB,Pn.ex0,Pn.kU,Pn.uK,Pn.kind,Pn.exprs,Pn.kids,hn,hm]
 rw[hn]at c1;rw[hm]at c2;refine .yes ?_ hr;generalize e.AZ (rC n m)=z at *
 rw[aD rfl Tryz.func90 rfl rfl];simp only[jR,pair_cells,aV,Ex.aA e,Ex.aA z,Pn.aA x,Pn.aA y]at c1 c2 c4 c5 ⊢;have w0:IntKind.i64.wrap ((n:Int)+m)=n+m:=wrO;have hlen:(aW (m:Int) n++aW 0 m).length=n+m:=by simp
 simp[c1,c2,w0];rw[aS (CJX e x y ws n m) (n+m) (by simp[CJX])]
 ·rw[aG];have htk:(aW (m:Int) n++aW 0 m).take (n+m)=aW (m:Int) n++aW 0 m:=zY (by omega);simp[CJX,aP (show n+m≠0 by omega),aM (show n+m≠0 by omega),bT (show n+m≠0 by omega),htk,c4,c5]
 ·intro i hi;have hnth:=ABK hi;have htk:=aN hnth;have hpl:=OI i n m (by omega) (by omega) (by omega);have hco:=FV (rC n m i);generalize rC n m i=c at *
  rw[lL]at hco;have hlt:(i:Int)<n+m:=by omega
  have w2:IntKind.i64.wrap ((i:Int)+1)=i+1:=wrO;by_cases h0:i=0
  ·subst h0;have hlt0:(0:Int)<n+m:=by omega
   simp at hpl;simp[CJX,hlt0,hpl,hco,dA,htk,Ex.aB,lL]
  ·have hl1:(i+1)*56≤140737488355328:=by omega
   have hl2:i≤min i (n+m):=by omega
   simp[CJX,w2,hlt,hpl,hco,aP h0,aM h0,bT h0,htk,Ex.aZ,lL,hl1,hl2,zK]
theorem AGG {ws:List Int} (hw:kH ws=true) {fs es:List Ex} {x:Pn} (hp:(proj fs (proj es x)).wd ws 8≠0):jF 95 ws 11 (proj fs (proj es x)):=by
 obtain⟨h1,h2,h3,h4⟩:=AD4 hp;obtain⟨g1,g2,g3,g4⟩:=AD4 h1;rw[g4]at h3;have c2:=GL hw x;have c5:=fun e=>AI3 e es (x.wd ws 8)
 have hr:rwP ws 11 (proj fs (proj es x))=some (proj (fs.map (Ex.sub es)) x):=by
  simp[rwP,proj,Pn.ex0,Pn.kU,Pn.uK,Pn.kind,Pn.exprs,Pn.kids]
 generalize hW:x.wd ws 8=W at *
 have hin:∀ (i:Nat) (a:Ex),fs[i]?=some a→(a.subst es W).isSome=true→(fs.map (Ex.sub es))[i]?=some (a.sub es)∧a.subst es W=some (a.sub es):=by
  intro i a ha hs;refine⟨by simp[ha],?_⟩;unfold Ex.subst at hs ⊢;split at hs
  ·rename_i hc;rw[if_pos hc]
  ·simp at hs
 have hlen:fs.length≤6:=by unfold bH at h2;simp at h2;omega
 obtain⟨j,k1,k2⟩:=gG (fun e=>(e.subst es W).isSome) fs
 have hround:∀ i,i<j→i<fs.length∧∃ f z,fs[i]?=some f∧fT (Ex.aB fs) i=some f.cells∧(fs.map (Ex.sub es))[i]?=some z∧f.subst es W=some z:=by
  intro i hi;obtain⟨f,q1,q2,q3⟩:=k1 i hi;obtain⟨q4,q5⟩:=hin i f q1 q3;exact⟨(zZ.1 q1).1,f,_,q1,Ex.aO q1,q4,q5⟩
 have hfl:fs.length≠0:=by intro h;rw[h]at h2;simp[bH]at h2
 have hzl:(fs.map (Ex.sub es)).length=fs.length:=by simp
 have hq:∀ lv,(proj (fs.map (Ex.sub es)) x).wd ws lv≠0→∀ f∈fs,(f.sub es).ok W=true:=by
  intro lv hne f hf
  cases lv with
  | zero=>exact absurd (by rw[Pn.AC5];simp[proj,Pn.kids]) hne
  | succ lv =>
   rw[EW]at hne;obtain⟨⟨q1,q2,q3⟩,_⟩:=gP hne;have e8:=AO5 (nN (p:=x) (lv:=8) (by rw[hW];exact g1)) q1;rw[e8,hW]at q3;exact zQ.1 q3 _ (List.mem_map_of_mem hf)
 generalize fs.map (Ex.sub es)=zs at *
 have main:∀ r,aH C0 95 [.i (.iref (proj fs (proj es x)).cells), .i (.isl (aF ws))] []=r→r=if j=fs.length then some (.tup [.i (.agg (proj zs x).cells), .bool true],[])else some (.tup [.i (.agg Pn.zero.cells), .bool false],[]):=by
  intro r hr';subst hr';rw[aD rfl Tryz.func95 rfl rfl];simp only[jR,Pn.aA x]at c2 ⊢;simp[c2];rw[aS (MPX fs es x ws W zs) j (by simp[MPX])]
  ·rw[aG]
   rcases k2 with ⟨hj,ha⟩|⟨f,q1,q2,q3,ha⟩
   ·have htk:zs.take fs.length=zs:=zY (by omega);simp[MPX,hj,hfl,aP hfl,htk,hzl]
   ·have hj:j<fs.length:=(zZ.1 q1).1;have hne:¬ j=fs.length:=by omega
    have r1:=Ex.aO q1;have hn:f.subst es W=none:=by cases h:f.subst es W with|none=>rfl|some _=>rw[h]at q3;simp at q3
    have c6:=c5 f;rw[hn]at c6;simp only[AMX,Option.getD,Option.isSome,Ex.aA f,aV]at c6 r1;by_cases h0:j=0
    ·subst h0;simp[MPX,hj,hne,r1,c6,aV]
    ·simp[MPX,hj,hne,r1,c6,h0,aP h0,bT h0,aV]
  ·intro i hi;obtain⟨hil,f,z,q1,r1,q4,q5⟩:=hround i hi;have c6:=c5 f;rw[q5]at c6;have htk:=aN q4;have w2:IntKind.i64.wrap ((i:Int)+1)=i+1:=wrO;simp only[AMX,Option.getD,Option.isSome,Ex.aA f,Ex.aA z]at c6 r1;by_cases h0:i=0
   ·subst h0;simp[MPX,hil,r1,c6,dA,htk,q4,Ex.aB,Ex.aA z]
   ·have hl1:(i+1)*56≤140737488355328:=by omega
    have hl2:i≤min i zs.length:=by omega
    simp[MPX,hil,r1,c6,w2,htk,q4,h0,aP h0,bT h0,Ex.aZ,Ex.aA z,hl1,hl2,zK]
 have hm:=main _ rfl
 rcases k2 with ⟨hj,ha⟩|⟨f,q1,q2,q3,ha⟩
 ·rw[if_pos hj]at hm;exact .yes hm hr
 ·have hj:j<fs.length:=(zZ.1 q1).1;rw[if_neg (by omega)]at hm;refine⟨.zero,false,hm,by simp,fun _ q' hq' lv=>?_⟩;rw[hr]at hq';injection hq' with hq';subst hq';by_cases hne:(proj zs x).wd ws lv=0
  ·exact hne
  ·have hok:=hq lv hne f q2;unfold Ex.subst at q3;rw[if_pos (by simp only[zT];exact⟨List.all_eq_true.1 h3 f q2,g3,hok⟩)]at q3;simp at q3
theorem AaT {ws:List Int} (hw:kH ws=true) {p:Pn} (hp:p.wd ws 8≠0):jF 90 ws 6 p:=by
 by_cases hk:p.kind=4
 ·obtain⟨e,x,y,hx⟩:=jN (nN hp) (.inl hk);rw[hk]at hx;subst hx;exact ALH hw hp
 ·refine .no ?_ ?_
  ·rw[aD rfl Tryz.func90 rfl rfl];simp only[aV,Pn.aA p];simp[hk]
  ·unfold rwP;split
   ·unfold rwF;simp
   ·simp[hk]
theorem AWO {ws:List Int} (hw:kH ws=true) {p:Pn} (hp:p.wd ws 8≠0):jF 95 ws 11 p:=by
 by_cases hk:p.kind=3
 ·obtain⟨fs,a,rfl⟩:=pI (nN hp) hk;by_cases hk2:a.kind=3
  ·obtain⟨V,hV,_⟩:=BU (nN hp);obtain⟨es,x,rfl⟩:=pI hV hk2;exact AGG hw hp
  ·refine .no ?_ (by simp[rwP,Pn.kU,proj,hk2]);rw[aD rfl Tryz.func95 rfl rfl];simp only[jR,aV,Pn.aA a];simp[hk2]
 ·refine .no ?_ ?_
  ·rw[aD rfl Tryz.func95 rfl rfl];simp only[aV,Pn.aA p];simp[hk]
  ·unfold rwP;split
   ·unfold rwF;simp
   ·simp[hk]
end Go.Proofs.YtgiepjdnkonkgaaGreat.P
namespace Go.Av
theorem AA9 {ws:List Int} {r:Int} {lv:Nat} {p:Pn} (h:∀ q',rwP ws r p=some q'→∀ lv,q'.wd ws lv=0):rwL ws r lv p=none:=by
 unfold rwL
 cases hq:rwP ws r p with
 | none=>rfl
 | some q=>simp[h q hq lv]
theorem ALD {ws:List Int} {r:Int} {lv:Nat} {p q:Pn} (h:rwP ws r p=some q):rwL ws r lv p=if q.wd ws lv=0 then none else some q:=by
 unfold rwL;rw[h];by_cases hq:q.wd ws lv=0<;>simp[hq]
def OZ (o:Option Pn):Pn:=o.getD Pn.zero
end Go.Av
namespace Go.Proofs.YtgiepjdnkonkgaaGreat.P
open Go Go.Av
set_option maxRecDepth 4000
set_option maxHeartbeats 4000000
theorem QB {ws:List Int} {p:Pn} {r:Int} {lv:Nat} (h:r<1∨11<r):aH C0 66 [.i (.iref p.cells), .i (.isl (aF ws)), .int r, .int lv] []=some (.tup [.i (.agg Pn.zero.cells), .bool false],[]):=by
 rw[aD rfl Tryz.func66 rfl rfl,aV]
 rcases h with h|h
 ·simp[h]
 ·simp[show ¬ r<1 by omega,show 12≤r by omega]
theorem uD {ws:List Int} (hw:kH ws=true) {p:Pn} (hp:p.wd ws 8≠0) (r:Int) {lv:Nat} (hl:lv≤8):aH C0 66 [.i (.iref p.cells), .i (.isl (aF ws)), .int r, .int lv] []=some (.tup [.i (.agg (OZ (rwL ws r lv p)).cells), .bool (rwL ws r lv p).isSome],[]):=by
 have hr:(r<1∨11<r)∨(r=1∧jF 85 ws 1 p)∨(r=2∧jF 86 ws 2 p)∨(r=3∧jF 87 ws 3 p)∨(r=4∧jF 88 ws 4 p)∨(r=5∧jF 89 ws 5 p)∨(r=6∧jF 90 ws 6 p)∨(r=7∧jF 91 ws 7 p)∨(r=8∧jF 92 ws 8 p)∨(r=9∧jF 93 ws 9 p)∨(r=10∧jF 94 ws 10 p)∨(r=11∧jF 95 ws 11 p):=by
  by_cases h:r<1∨11<r
  ·exact .inl h
  ·refine .inr ?_;have:r=1∨r=2∨r=3∨r=4∨r=5∨r=6∨r=7∨r=8∨r=9∨r=10∨r=11:=by omega
   rcases this with rfl|rfl|rfl|rfl|rfl|rfl|rfl|rfl|rfl|rfl|rfl
   ·exact(.inl ⟨rfl,AaY (nN hp)⟩)
   ·exact(.inr (.inl ⟨rfl,AaX (nN hp)⟩))
   ·exact(.inr (.inr (.inl ⟨rfl,AaW hw hp⟩)))
   ·exact(.inr (.inr (.inr (.inl ⟨rfl,AaV hw hp⟩))))
   ·exact(.inr (.inr (.inr (.inr (.inl ⟨rfl,AaU (nN hp)⟩)))))
   ·exact(.inr (.inr (.inr (.inr (.inr (.inl ⟨rfl,AaT hw hp⟩))))))
   ·exact(.inr (.inr (.inr (.inr (.inr (.inr (.inl ⟨rfl,AaS hw hp⟩)))))))
   ·exact(.inr (.inr (.inr (.inr (.inr (.inr (.inr (.inl ⟨rfl,AaR (nN hp)⟩))))))))
   ·exact(.inr (.inr (.inr (.inr (.inr (.inr (.inr (.inr (.inl ⟨rfl,AaQ (nN hp)⟩)))))))))
   ·exact(.inr (.inr (.inr (.inr (.inr (.inr (.inr (.inr (.inr (.inl ⟨rfl,AWP hw hp⟩))))))))))
   ·exact(.inr (.inr (.inr (.inr (.inr (.inr (.inr (.inr (.inr (.inr (⟨rfl,AWO hw hp⟩)))))))))))
 rcases hr with h|⟨rfl,q,b,h1,h2,h3⟩|⟨rfl,q,b,h1,h2,h3⟩|⟨rfl,q,b,h1,h2,h3⟩|⟨rfl,q,b,h1,h2,h3⟩|⟨rfl,q,b,h1,h2,h3⟩|⟨rfl,q,b,h1,h2,h3⟩|⟨rfl,q,b,h1,h2,h3⟩|⟨rfl,q,b,h1,h2,h3⟩|⟨rfl,q,b,h1,h2,h3⟩|⟨rfl,q,b,h1,h2,h3⟩|⟨rfl,q,b,h1,h2,h3⟩
 ·rw[QB h]
  have:rwL ws r lv p=none:=AA9 fun q' hq=>by
   have:=AA8 hq;simp[rules]at this;omega
  rw[this];rfl
 all_goals
  have h4:=CE (l7 hw) q lv hl;rw[aD rfl Tryz.func66 rfl rfl]
  cases b with
  | false =>
   rw[AA9 (h3 rfl)];simp only[OZ,Option.getD,Option.isSome,aV,Pn.aA p,Pn.aA q]at h1 h4 ⊢;simp[h1]
  | true =>
   rw[ALD (h2 rfl)];by_cases hq:q.wd ws lv=0
   ·rw[hq]at h4;rw[if_pos hq];simp only[OZ,Option.getD,Option.isSome,aV,Pn.aA p,Pn.aA q]at h1 h4 ⊢;simp[h1,h4]
   ·rw[if_neg hq];simp only[OZ,Option.getD,Option.isSome,Pn.aA p,Pn.aA q]at h1 h4 ⊢;simp[h1,h4,hq]
end Go.Proofs.YtgiepjdnkonkgaaGreat.P
namespace Go.Av
theorem PY {ws:List Int} {p:Pn} {lv:Nat} (h:p.wd ws lv≠0) (hk:p.kids≠[]):p.kids.length≤2∧lv≠0∧∀ a∈p.kids,a.wd ws (lv-1)≠0:=by
 rw[Pn.A9]at h;obtain⟨h1,h2⟩:=gP h;refine⟨Pn.LQ h1.1,h1.2.resolve_left hk,?_⟩;split at h2
 ·rename_i hk1;exact absurd (Pn.BF h1.1 hk1) hk
 ·obtain⟨h3,_⟩:=gP h2;exact fun a ha=>by simpa using zQ.1 h3 a ha
theorem K6 (ws:List Int) (path:List Int):∀ (l m:List Pn) (i:Nat),N8 ws path i (l++m)=N8 ws path i l++N8 ws path (i+l.length) m
 | [],m,i=>by simp[N8]
 | a::l,m,i=>by simp only[yV,N8,K6 ws path l m (i+1),yZ,zP];congr 3;omega
theorem AGA (ws:List Int) (path:List Int) {l:List Pn} {i:Nat} {a:Pn} (h:l[i]?=some a):N8 ws path 0 (l.take (i+1))=N8 ws path 0 (l.take i)++stI ws (path++[(i:Int)]) a:=by
 have hl:(l.take i).length=i:=by have:=(zZ.1 h).1;simp;omega
 rw[aN h,K6,hl];simp[N8]
theorem AQR (ws:List Int):∀ (p:Pn) (path:List Int),(stI ws path p).length≤11*p.size:=by
 intro p
 induction p using Pn.ind with
 | h k t es cs ks ih =>
  intro path
  have hL:∀ (l:List Pn) (i:Nat),(∀ a∈l,a∈ks)→(N8 ws path i l).length≤11*Pn.aL l:=by
   intro l
   induction l with
   | nil=>intro i _;simp[N8,Pn.aL]
   | cons a l ihl =>
    intro i hm;have h1:=ih a (hm a (by simp)) (path++[(i:Int)]);have h2:=ihl (i+1) fun x hx=>hm x (by simp[hx])
    simp only[N8,Pn.aL,zL];omega
  have h1:=hL ks 0 fun a h=>h
  have h2:∀ f:Int→Bool,(rules.filter f).length≤11:=fun f=>by have:=List.length_filter_le f rules;simpa [rules]using this
  simp only[stI,Pn.size,zL,zB1];have:=h2 fun r=>(rwL ws r (8-path.length) (.mk k t es cs ks)).isSome
  omega
def WV (ws path:List Int) (p:Pn) (i:Nat):List Stp:=((rules.take i).filter fun r=>(rwL ws r (8-path.length) p).isSome).map fun r=>(r,path)
theorem AJV {ws path:List Int} {p:Pn} {i:Nat} (h:i<11):WV ws path p (i+1)=WV ws path p i++if(rwL ws ((i:Int)+1) (8-path.length) p).isSome=true then [((i:Int)+1,path)]else []:=by
 have h1:rules[i]?=some ((i:Int)+1):=by
  have:i=0∨i=1∨i=2∨i=3∨i=4∨i=5∨i=6∨i=7∨i=8∨i=9∨i=10:=by omega
  rcases this with rfl|rfl|rfl|rfl|rfl|rfl|rfl|rfl|rfl|rfl|rfl<;>rfl
 unfold WV;rw[aN h1,List.filter_append,yB];congr 1;simp only[List.filter];split<;>rename_i h2<;>simp[h2]
theorem AQS (ws path:List Int) (p:Pn):stI ws path p=WV ws path p 11++N8 ws path 0 p.kids:=by
 rw[AOW];rfl
end Go.Av
namespace Go.Proofs.YtgiepjdnkonkgaaGreat.P
open Go Go.Av
set_option maxRecDepth 4000
set_option maxHeartbeats 4000000
structure Yl (R:Rng) (cs:List AV):Prop where
 ids:cs=[.own 1 0, .junk, .junk]
 y00:∀ r:Int,aH C0 oG [.fn (.yield 0) [.own 0 0], .agg [.int r, .nils]] [some (.loop R cs .ready),some (.box [.nils])]=some (.bool true,[some (.loop R cs .ready),some (.box [.osl 2 2 0 1]),some (.arr 2 [[.int r, .isl []]])])
 y01:∀ (r:Int) (path:List Int),path≠[]→aH C0 oG [.fn (.yield 0) [.own 0 0], .agg [.int r, .osl 2 1 0 path.length]] [some (.loop R cs .ready),some (.box [.nils]),some (.arr 1 (aF path))]=some (.bool true,[some (.loop R cs .ready),some (.box [.osl 3 2 0 1]),some (.frz 1 (aF path)),some (.arr 2 [[.int r, .isl (aF path)]])])
 y10:∀ (r:Int) (n:Nat) (l:List Stp),l.length=n→n≠0→n<1000000→aH C0 oG [.fn (.yield 0) [.own 0 0], .agg [.int r, .nils]] [some (.loop R cs .ready),some (.box [.osl 2 2 0 n]),some (.arr 2 (lV l))]=some (.bool true,[some (.loop R cs .ready),some (.box [.osl 3 2 0 (n+1)]),none,some (.arr 2 (lV l++[[.int r, .isl []]]))])
 y11:∀ (r:Int) (n:Nat) (l:List Stp) (path:List Int),path≠[]→l.length=n→n≠0→n<1000000→aH C0 oG [.fn (.yield 0) [.own 0 0], .agg [.int r, .osl 3 1 0 path.length]] [some (.loop R cs .ready),some (.box [.osl 2 2 0 n]),some (.arr 2 (lV l)),some (.arr 1 (aF path))]=some (.bool true,[some (.loop R cs .ready),some (.box [.osl 4 2 0 (n+1)]),none,some (.frz 1 (aF path)),some (.arr 2 (lV l++[[.int r, .isl (aF path)]]))])
theorem AL3 (p:Pn) (ws:List Int):aH C0 34 [.i (.iref p.cells), .i (.isl (aF ws))] []=some (.fn (.func 62) [.own 0 0, .own 1 0],[some (.box [.i (.iref p.cells)]),some (.box [.i (.isl (aF ws))])]):=by
 rw[aD rfl Tryz.func34 rfl rfl];simp
set_option maxHeartbeats 8000000
theorem AE9 (path:List Int):path=[]∨path≠[]:=by cases path<;>simp
end Go.Proofs.YtgiepjdnkonkgaaGreat.P
namespace Go.Av
theorem fU {p:Pn} {ws:List Int} (h:p.width ws≠0):kH ws=true∧p.wd ws 8≠0∧p.width ws=p.wd ws 8:=by
 unfold Pn.width at h ⊢;split at h
 ·rename_i hw;exact⟨hw,h,if_pos hw⟩
 ·exact absurd rfl h
def AG3 (p:Pn) (ws:List Int):List Stp:=if p.width ws=0 then []else stI ws [] p
end Go.Av
namespace Go.Proofs.YtgiepjdnkonkgaaGreat.P
open Go Go.Av
set_option maxRecDepth 4000
set_option maxHeartbeats 8000000
theorem UC {sts:List Sts} (hs:∀ s∈sts,s.ok=true):∀ (p:Pn) (lv:Nat),p.wd (stW sts) lv≠0 →
 aH C0 50 [.i (.agg p.cells), .i (.isl (gM sts))] []=some (.int (p.est sts),[]):=by
 intro p
 induction p using Pn.ind with
 | h k t es cs ks ih =>
  intro lv h;have hsh:=mX h;have hr:=iN hs _ lv h;generalize hp:Pn.mk k t es cs ks=p at hsh h hr;have hk:ks=p.kids:=by rw[← hp];rfl
  subst hk
  cases hsh with
  | scan t W h0 h1 hW =>
   unfold stW at h1;rw[xJ]at h1;obtain⟨s,q1,q2⟩:=zE0.1 h1;have hi:=(zZ.1 q1).1;have q:=gI q1;have hi':t<(sts.length:Int):=by omega
   rw[RB,q1];simp only[xG,yP];rw[aD rfl Tryz.func50 rfl rfl];simp[Pn.scan,Pn.bF,h0,hi',q]
  | filt m e a h1 ha he =>
   have i1:=ih a (by simp[filt]) m ha;have ra:=iN hs a m ha;obtain⟨hwf,_,_⟩:=Ex.tL he;have e1:=UB e hwf;have r3:=uS e hwf;obtain⟨m1,m2,m3,m4⟩:=AKY ra.1 ra.2 r3.1 r3.2;have w1:IntKind.i64.wrap (a.est sts*e.fix)=a.est sts*e.fix:=wrO;have w2:IntKind.i64.wrap ((a.est sts*e.fix).tdiv 1000)=(a.est sts*e.fix).tdiv 1000:=wrO;rw[RG];by_cases hk1:a.kind=1
   ·obtain⟨s,q1,q2,q3,q4⟩:=Q8 hs ha hk1;rw[if_pos hk1,q1];simp only[yP];have q:=gI q1;have hsok:=hs s (zU q1);have e2:=U7 hsok e (by rw[q2];exact hwf);have r4:=AO hsok e (by rw[q2];exact hwf);obtain⟨n1,n2,n3,n4⟩:=AKY ra.1 ra.2 r4.1 r4.2;have w3:IntKind.i64.wrap (a.est sts*e.sel s)=a.est sts*e.sel s:=wrO;have w4:IntKind.i64.wrap ((a.est sts*e.sel s).tdiv 1000)=(a.est sts*e.sel s).tdiv 1000:=wrO;rw[aD rfl Tryz.func50 rfl rfl];rw[Pn.aA a,hk1]at i1;rw[Ex.aA e]at e2;simp[filt,Pn.bF,Pn.aB,Ex.aB,Ex.aA e,Pn.aA a,i1,e2,hk1,q,q3,q4,w3,w4]
   ·rw[if_neg hk1];rw[aD rfl Tryz.func50 rfl rfl];rw[Pn.aA a]at i1;rw[Ex.aA e]at e1;simp[filt,Pn.bF,Pn.aB,Ex.aB,Ex.aA e,Pn.aA a,i1,e1,hk1,w1,w2]
  | proj m es a h1 ha hl he =>
   have i1:=ih a (by simp[proj]) m ha;rw[RD];rw[aD rfl Tryz.func50 rfl rfl];rw[Pn.aA a]at i1;simp[proj,Pn.bF,Pn.aB,Pn.aA a,i1]
  | pair m k e a b h1 hk ha hb hl6 he =>
   have ra:=iN hs a m ha;have rb:=iN hs b m hb;have i1:=ih a (by simp[bB]) m ha;have i2:=ih b (by simp[bB]) m hb;obtain⟨hwf,_,_⟩:=Ex.tL he;have e1:=UB e hwf;have r3:=uS e hwf;obtain⟨p1,p2⟩:=FI ra.1 ra.2 rb.1 rb.2;have w1:IntKind.i64.wrap (a.est sts*b.est sts)=a.est sts*b.est sts:=wrO;obtain⟨m1,m2,m3,m4⟩:=AKY (show 0≤min (a.est sts*b.est sts) 1000000000 by omega) (by omega) r3.1 r3.2;have w2:IntKind.i64.wrap (min (a.est sts*b.est sts) 1000000000*e.fix)=min (a.est sts*b.est sts) 1000000000*e.fix:=wrO;have w3:IntKind.i64.wrap ((min (a.est sts*b.est sts) 1000000000*e.fix).tdiv 1000)=(min (a.est sts*b.est sts) 1000000000*e.fix).tdiv 1000:=wrO;rw[RF sts hk];generalize hM:(min (a.est sts*b.est sts) 1000000000*e.fix).tdiv 1000=M at *
   rw[aD rfl Tryz.func50 rfl rfl];rw[Pn.aA a]at i1;rw[Pn.aA b]at i2;rw[Ex.aA e]at e1;have hmx:max M (a.est sts)=if a.est sts<M then M else a.est sts:=by split<;>omega
   rcases hk with rfl|rfl
   ·simp[bB,Pn.bF,Pn.aB,Ex.aB,Ex.aA e,Pn.aA a,Pn.aA b,i1,i2,e1,APF,w1,w2,w3,hM]
   ·simp[bB,Pn.bF,Pn.aB,Ex.aB,Ex.aA e,Pn.aA a,Pn.aA b,i1,i2,e1,APF,w1,w2,w3,hM,hmx]
  | union m a b h1 ha hb =>
   have hb':b.wd (stW sts) m≠0:=by rw[hb];exact ha
   have ra:=iN hs a m ha;have rb:=iN hs b m hb';have i1:=ih a (by simp[bX]) m ha;have i2:=ih b (by simp[bX]) m hb';have w1:IntKind.i64.wrap (a.est sts+b.est sts)=a.est sts+b.est sts:=wrO;rw[MC];rw[aD rfl Tryz.func50 rfl rfl];rw[Pn.aA a]at i1;rw[Pn.aA b]at i2;simp[bX,Pn.bF,Pn.aB,Pn.aA a,Pn.aA b,i1,i2,APF,w1]
  | dist m a h1 ha =>
   have i1:=ih a (by simp) m ha;rw[RH];rw[aD rfl Tryz.func50 rfl rfl];rw[Pn.aA a]at i1;simp[Pn.bF,Pn.aB,Pn.aA a,i1]
  | group m cs a h1 ha hc6 ho =>
   have i1:=ih a (by simp) m ha;rw[ME];rw[aD rfl Tryz.func50 rfl rfl];rw[Pn.aA a]at i1
   cases cs with
   | nil=>simp[Pn.bF,Pn.aB,Pn.aA a,i1,APF,aF]
   | cons c1 cs =>
    have n0:¬ ((cs.length:Int)+1=0):=by omega
    simp[Pn.bF,Pn.aB,Pn.aA a,i1,aF,n0]
theorem AAU {ws:List Int} {p:Pn} {lv:Nat} (h:p.wd ws lv≠0):p.kids=[]∨(∃ a,p.kids=[a]∧a.wd ws (lv-1)≠0)∨∃ a b,p.kids=[a,b]∧a.wd ws (lv-1)≠0∧b.wd ws (lv-1)≠0:=by
 have hk:∀ a∈p.kids,a.wd ws (lv-1)≠0:=fun a ha=>by
  obtain⟨k,t,es,cs,ks⟩:=p;exact ZW h ha
 cases hks:p.kids with
 | nil=>exact .inl rfl
 | cons a r =>
  cases r with
  | nil=>exact .inr (.inl ⟨a,rfl,hk a (by rw[hks];simp)⟩)
  | cons b r =>
   have h2:=(PY h (by rw[hks];simp)).1;rw[hks]at h2;simp at h2
   have:r=[]:=by cases r with
    | nil=>rfl
    | cons c r=>simp at h2
   subst this;exact .inr (.inr ⟨a,b,rfl,hk a (by rw[hks];simp),hk b (by rw[hks];simp)⟩)
theorem sZ {sts:List Sts} (hs:∀ s∈sts,s.ok=true):∀ (p:Pn) (lv:Nat),p.wd (stW sts) lv≠0→p.size<1000000 →
 aH C0 24 [.i (.agg p.cells), .i (.isl (gM sts))] []=some (.int (p.cst sts),[]):=by
 intro p
 induction p using Pn.ind with
 | h k t es cs ks ih =>
  intro lv h hsz;have e1:=UC hs _ lv h;have r1:=iN hs _ lv h;have hk2:=AAU h;have hce:=Pn.EF sts (.mk k t es cs ks);have hz:=Pn.size_eq (.mk k t es cs ks);generalize hp:Pn.mk k t es cs ks=p at *
  have hks:ks=p.kids:=by rw[← hp];rfl
  subst hks;rw[aD rfl Tryz.func24 rfl rfl,hce];rw[Pn.aA p]at e1 ⊢;have v1:=dA;have v2:IntKind.i64.wrap (2:Int)=2:=wrO
  rcases hk2 with hk|⟨a,hk,ha⟩|⟨a,b,hk,ha,hb⟩
  ·rw[hk]at e1 ⊢;simp only[Pn.JH,xC,Pn.aB]at e1 ⊢;simp[e1];rw[aG];simp
  ·rw[hk]at e1 hz ⊢;simp only[Pn.aL]at hz;have i1:=ih a (by rw[hk];simp) _ ha (by omega);have rc:=lJ hs a _ ha;simp only[Pn.JH,xC];have w1:IntKind.i64.wrap (p.est sts+a.cst sts)=p.est sts+a.cst sts:=wrO;simp only[Pn.aB]at e1 ⊢;rw[Pn.aA a]at e1 i1 ⊢;simp[e1];rw[aG];simp[i1,v1,w1];rw[aG];simp
  ·rw[hk]at e1 hz ⊢;simp only[Pn.aL]at hz;have i1:=ih a (by rw[hk];simp) _ ha (by omega);have i2:=ih b (by rw[hk];simp) _ hb (by omega);have rc:=lJ hs a _ ha;have rd:=lJ hs b _ hb;simp only[Pn.JH,xC];have w1:IntKind.i64.wrap (p.est sts+a.cst sts)=p.est sts+a.cst sts:=wrO;have w2:IntKind.i64.wrap (p.est sts+a.cst sts+b.cst sts)=p.est sts+(a.cst sts+b.cst sts):=by rw[wrO];omega
   simp only[Pn.aB]at e1 ⊢;rw[Pn.aA a,Pn.aA b]at e1;rw[Pn.aA a]at i1;rw[Pn.aA b]at i2;rw[Pn.aA a,Pn.aA b];simp[e1];rw[aG];simp[i1,v1,w1];rw[aG];simp[i2,v2,w2];rw[aG];simp
def VDX (p:Pn) (sts:List Sts) (i:Nat):AS :=
 { env:=[(0, .i (.agg [.int p.kind, .int p.table, .isl (Ex.aB p.exprs), .isl (aF p.cols), .isl (Pn.aB p.kids)])),(1, .i (.isl (gM sts))),(2, .own 0 0),(4, .bool false),(5, .osl 1 1 0 i),(6, .int i),(11,jk i (.bool true)),(25,jk i (.bool false))],
   st:=[some (.box [.int p.kind, .int p.table, .i (.isl (Ex.aB p.exprs)), .i (.isl (aF p.cols)), .i (.isl (Pn.aB p.kids))]),some (.arr 1 (aF ((stW sts).take i)))] }
theorem F5 (p:Pn) (hp:p.thin) (sts:List Sts) (hl:sts.length<2000000) (hd:∀ s∈sts,s.d.length<1000000000∧s.n.length<1000000000):aH C0 22 [.i (.agg p.cells), .i (.isl (gM sts))] []=some (.bool (J6 sts p),[]):=by
 rw[aD rfl Tryz.func22 rfl rfl];have c2:=AC4 p (Pn.ZX p hp) (stW sts) (by rw[jZ];omega);have hnn:=(Pn.XJ (p:=p) (ws:=stW sts)).1;rw[Pn.aA p]at c2 ⊢;obtain⟨j,h1,h2⟩:=gG Sts.ok sts;simp;rw[aS (VDX p sts) j (by simp[VDX,aF])]
 ·rw[aG]
  rcases h2 with ⟨hj,ha⟩|⟨s,h3,h3m,h5,ha⟩
  ·have e1:(stW sts).take sts.length=stW sts:=zY (by rw[jZ];omega);have e2:(aF (stW sts)).take sts.length=aF (stW sts):=zY (by simp[jZ]);have hq:J6 sts p=decide (p.width (stW sts)≠0):=by unfold J6;rw[ha];rfl
   have hq2:decide (0<p.width (stW sts))=decide (p.width (stW sts)≠0):=by rw[decide_eq_decide];omega
   have hle:sts.length≤(stW sts).length:=by rw[jZ];omega
   by_cases hz:sts.length=0
   ·have hs0:sts=[]:=zW.1 hz;subst hs0;simp only[stW,zA7,aF]at c2 hq hq2;simp at hq2;simp[VDX,hj,stW,aF,c2,hq,hq2]
   ·simp only[VDX,hj,e1];simp[hz,hle,e1,e2,c2,hq,hq2]
  ·have q:=gI h3;have hil:=(zZ.1 h3).1;have v:=wS s (hd s h3m).1 (hd s h3m).2;rw[h5]at v;have hq:J6 sts p=false:=by unfold J6;rw[ha];rfl
   simp[VDX,hil,q,v,hq]
 ·intro i hi;obtain⟨k,e1,e2,e3⟩:=h1 i hi;have q:=gI e1;have hil:=(zZ.1 e1).1;have v:=wS k (hd k e2).1 (hd k e2).2;rw[e3]at v;have hw:(stW sts)[i]?=some (k.d.length:Int):=by simp[stW,e1]
  have hT:=aN hw;have w3:IntKind.i64.wrap ((i:Int)+1)=i+1:=wrO;have hb:(i+1)*8≤140737488355328:=by omega
  have f1:((stW sts).take i).take i=(stW sts).take i:=by rw[zK,Nat.min_self]
  have hmin:min i (stW sts).length=i:=by rw[jZ];omega
  simp[VDX,hil,q,v,w3,hT,hb,f1,hmin,dX,aF]
end Go.Proofs.YtgiepjdnkonkgaaGreat.P
namespace Go.Av
theorem dJ {ws:List Int}:∀ (p:Pn) (lv:Nat),p.wd ws lv≠0→p.thin:=by
 intro p
 induction p using Pn.ind with
 | h k t es cs ks ih =>
  intro lv h
  have hk:∀ a∈ks,a.thin:=fun a ha=>by
   have h2:=(PY (p:=.mk k t es cs ks) h (by intro e;simp only[Pn.kids]at e;rw[e]at ha;simp at ha)).2.2 a ha;exact ih a ha _ h2
  have hs:=mX h;rw[Pn.bM];generalize hp:Pn.mk k t es cs ks=p at *
  have hks:ks=p.kids:=by rw[← hp];rfl
  subst hks;have ok1:∀ {w:Int} {e:Ex},e.ok w=true→e.thin:=fun h=>Ex.gF _ (by have:=Ex.gK h;omega)
  cases hs with
  | scan=>simp[Pn.scan,Pn.exprs,Pn.cols,Pn.kids]
  | filt m e a _ _ he=>exact⟨by simp[filt,Pn.exprs],fun x hx=>by simp[filt,Pn.exprs]at hx;subst hx;exact ok1 he,by simp[filt,Pn.cols],by simp[filt,Pn.kids],hk⟩
  | proj m es a _ _ hl he=>exact⟨by simp[proj,Pn.exprs];unfold bH at hl;simp at hl;omega,fun x hx=>ok1 (he x hx),by simp[proj,Pn.cols],by simp[proj,Pn.kids],hk⟩
  | pair m kd e a b _ _ _ _ _ he=>exact⟨by simp[bB,Pn.exprs],fun x hx=>by simp[bB,Pn.exprs]at hx;subst hx;exact ok1 he,by simp[bB,Pn.cols],by simp[bB,Pn.kids],hk⟩
  | union m a b=>exact⟨by simp[bX,Pn.exprs],by simp[bX,Pn.exprs],by simp[bX,Pn.cols],by simp[bX,Pn.kids],hk⟩
  | dist m a=>exact⟨by simp[Pn.exprs],by simp[Pn.exprs],by simp[Pn.cols],by simp[Pn.kids],hk⟩
  | group m cs a _ _ hc=>exact⟨by simp[Pn.exprs],by simp[Pn.exprs],by simp only[Pn.cols];omega,by simp[Pn.kids],hk⟩
theorem WE (c:Int):(ABM c).thin:=by simp[ABM,Ex.thin,Ex.qZ]
theorem sG (a:Int) (n:Nat):∀ b∈aW a n,b.thin:=by
 intro b hb;simp only[aW,yI]at hb;obtain⟨i,_,rfl⟩:=hb;exact WE _
theorem ZV {ws:List Int} {p:Pn} (h:p.wd ws 8≠0) (hk:p.kids≠[]):∀ a∈p.kids,a.wd ws 8≠0:=fun a ha=>by
 have h2:=(PY h hk).2.2 a ha;rw[Pn.jD a 7 8 h2 (by omega)];exact h2
end Go.Av
namespace Go.Proofs.YtgiepjdnkonkgaaGreat.P
open Go Go.Av
set_option maxRecDepth 4000
set_option maxHeartbeats 4000000
theorem K7 {ws:List Int} (hw:kH ws=true) {p:Pn} (hp:p.thin):aH C0 55 [.i (.agg p.cells), .i (.isl (aF ws)), .int 8] []=some (.int (p.wd ws 8),[]):=by
 refine D9 (l7 hw) ?_ p (Pn.ZX p hp) 8 (by omega);unfold kH at hw;simp at hw;omega
theorem fE (e:Ex) (p:Pn):aH C0 100 [.i (.agg e.cells), .i (.agg p.cells)] []=some (.i (.agg (filt e p).cells),[]):=by
 rw[aD rfl Tryz.func100 rfl rfl,aU,Ex.aA,Pn.aA];simp
def CFX (a:Int) (n i:Nat):AS :=
 { env:=[(0, .int a),(1, .int n),(4, .nils),(5, .osl 0 5 0 i),(6, .int i),(10,jk i (.bool true))],st:=[some (.arr 5 (Ex.aB (aW a i)))] }
theorem oP (a:Int) (ha:0≤a∧a≤100) (n:Nat) (hn:n<1000):aH C0 74 [.int a, .int n] []=some (.osl 0 5 0 n,[some (.arr 5 (Ex.aB (aW a n)))]):=by
 rw[aD rfl Tryz.func74 rfl rfl];simp;rw[aS (CFX a n) n (by simp[CFX,aW,Ex.aB])]
 ·rw[aG];have h8:(aW a n).take n=aW a n:=zY (by simp);simp[CFX,h8]
 ·intro i hi;have w2:IntKind.i64.wrap ((i:Int)+1)=i+1:=wrO;have w3:IntKind.i64.wrap (a+(i:Int))=a+i:=wrO;have h8:(aW a i).take i=aW a i:=zY (by simp);simp[CFX,hi,w2,w3,h8,RV,Ex.aZ,lL,show(i+1)*56≤140737488355328 by omega]
def oJ (ws:List Int) (r:Int) (e:Ex) (k:Pn):Prop:=aH C0 73 [.i (.agg (filt e k).cells), .int r, .i (.isl (aF ws))] []=some (.tup [.i (.agg ((rwF ws r e k).getD (filt e k)).cells), .bool (rwF ws r e k).isSome],[])
theorem XQ {ws:List Int} (hw:kH ws=true) {e:Ex} {k:Pn} (hp:(filt e k).wd ws 8≠0) {r:Int} (hr:r≠1∧r≠2∧r≠3∧r≠4∧r≠5∧r≠7∧r≠8∧r≠10):oJ ws r e k:=by
 obtain⟨h1,h2,h3⟩:=wK hp;have c1:=K7 hw (dJ k 8 h1);unfold oJ;obtain⟨r1,r2,r3,r4,r5,r7,r8,r10⟩:=hr;have hn:rwF ws r e k=none:=by simp[rwF,r1,r2,r3,r4,r5,r7,r8,r10]
 rw[hn,aD rfl Tryz.func73 rfl rfl]
 cases hk:k.kids with
 | nil =>
  simp only[Option.getD,aU,Ex.aA e,Pn.aA k,hk,Pn.aB]at c1 ⊢;simp[c1,r1,r2,r3,r4,r5,r7,r8,r10]
 | cons x xs =>
  have c2:=K7 hw (dJ x 8 (ZV h1 (by simp[hk]) x (by simp[hk])));simp only[Option.getD,aU,Ex.aA e,Pn.aA k,hk,Pn.aB,Pn.aA x]at c1 c2 ⊢;simp[c1,c2,r1,r2,r3,r4,r5,r7,r8,r10]
theorem oN {ws:List Int} (hw:kH ws=true) {e:Ex} {k:Pn} (hp:(filt e k).wd ws 8≠0) {r:Int} (hr:(r=1∧k.kind≠2)∨(r=2∧e.kind≠8)∨(r=3∧¬ (k.kind=4∨k.kind=5))∨(r=4∧k.kind≠4)∨(r=5∧k.kind≠4)∨(r=7∧k.kind≠5)∨(r=8∧k.kind≠6)∨(r=10∧k.kind≠3)):oJ ws r e k:=by
 obtain⟨h1,h2,h3⟩:=wK hp;have c1:=K7 hw (dJ k 8 h1);unfold oJ
 have hn:rwF ws r e k=none:=by
  rcases hr with ⟨rfl,q⟩|⟨rfl,q⟩|⟨rfl,q⟩|⟨rfl,q⟩|⟨rfl,q⟩|⟨rfl,q⟩|⟨rfl,q⟩|⟨rfl,q⟩<;>simp[rwF,q]
 have hr':(r=1∧k.kind≠2)∨(r=2∧e.kind≠8)∨(r=3∧(k.kind≠4∧k.kind≠5))∨(r=4∧k.kind≠4)∨(r=5∧k.kind≠4)∨(r=7∧k.kind≠5)∨(r=8∧k.kind≠6)∨(r=10∧k.kind≠3):=by omega
 rw[hn,aD rfl Tryz.func73 rfl rfl]
 cases hk:k.kids with
 | nil =>
  simp only[Option.getD,aU,Ex.aA e,Pn.aA k,hk,Pn.aB]at c1 ⊢
  rcases hr' with ⟨rfl,q⟩|⟨rfl,q⟩|⟨rfl,q⟩|⟨rfl,q⟩|⟨rfl,q⟩|⟨rfl,q⟩|⟨rfl,q⟩|⟨rfl,q⟩<;>simp[c1,q]
 | cons x xs =>
  have c2:=K7 hw (dJ x 8 (ZV h1 (by simp[hk]) x (by simp[hk])));simp only[Option.getD,aU,Ex.aA e,Pn.aA k,hk,Pn.aB,Pn.aA x]at c1 c2 ⊢
  rcases hr' with ⟨rfl,q⟩|⟨rfl,q⟩|⟨rfl,q⟩|⟨rfl,q⟩|⟨rfl,q⟩|⟨rfl,q⟩|⟨rfl,q⟩|⟨rfl,q⟩<;>simp[c1,c2,q]
theorem AWB {ws:List Int} (hw:kH ws=true) {e e2:Ex} {a:Pn} (hp:(filt e (filt e2 a)).wd ws 8≠0):oJ ws 1 e (filt e2 a):=by
 obtain⟨h1,h2,h3⟩:=wK hp;have c1:=K7 hw (dJ _ 8 h1);have c2:=K7 hw (dJ _ 8 (wK h1).1);have c3:=fE (ABW e2 e) a;have hr:rwF ws 1 e (filt e2 a)=some (filt (ABW e2 e) a):=by simp[rwF,filt,Pn.ex0,Pn.kU,Pn.kind,Pn.exprs,Pn.kids]
 unfold oJ;rw[hr,aD rfl Tryz.func73 rfl rfl];generalize (filt e2 a).wd ws 8=W at *
 generalize a.wd ws 8=V at *
 simp only[Option.getD,Option.isSome,aU,qL,Ex.aA e,Ex.aA e2,Pn.aA a]at c1 c2 c3 ⊢;simp[c1,c2,c3]
theorem AWA {ws:List Int} (hw:kH ws=true) {e x y:Ex} {k:Pn} (hp:(filt e k).wd ws 8≠0) (he:e.kind=8) (hk2:e.kids=[x,y]):oJ ws 2 e k:=by
 obtain⟨h1,h2,h3⟩:=wK hp;have c1:=K7 hw (dJ k 8 h1);have c3:=fE x k;have c4:=fE y (filt x k);have hr:rwF ws 2 e k=some (filt y (filt x k)):=by simp[rwF,he,Ex.kU,Ex.uK,hk2]
 unfold oJ;rw[hr,aD rfl Tryz.func73 rfl rfl]
 cases hk:k.kids with
 | nil =>
  simp only[Option.getD,Option.isSome,aU,Ex.aA e,hk2,Ex.aB,Ex.aA x,Ex.aA y,Pn.aA k,hk,Pn.aB]at c1 c3 c4 ⊢;simp[c1,c3,c4,he]
 | cons z zs =>
  have c2:=K7 hw (dJ z 8 (ZV h1 (by simp[hk]) z (by simp[hk])));simp only[Option.getD,Option.isSome,aU,Ex.aA e,hk2,Ex.aB,Ex.aA x,Ex.aA y,Pn.aA k,hk,Pn.aB,Pn.aA z]at c1 c2 c3 c4 ⊢;simp[c1,c2,c3,c4,he]
theorem AW9 {ws:List Int} (hw:kH ws=true) {e e2:Ex} {x y:Pn} {kd:Int} (hkd:kd=4∨kd=5) (hp:(filt e (bB kd e2 x y)).wd ws 8≠0):oJ ws 3 e (bB kd e2 x y):=by
 obtain⟨h1,h2,h3⟩:=wK hp;obtain⟨g1,g2,g3,g4,g5⟩:=QJ hkd h1;have c1:=K7 hw (dJ _ 8 h1);have c2:=K7 hw (dJ _ 8 g1);obtain⟨n,hn,n1,n2⟩:=CG hw g1;rw[hn]at c2;have c3:=fE e x;have c4:=TJ e (Ex.tL h2).1 (by have:=Ex.gK h2;omega) 0 n (by omega);have w1:IntKind.i64.wrap ((n:Int)-1)=n-1:=wrO
 have hr:rwF ws 3 e (bB kd e2 x y)=if e.cin 0 n=true then some (bB kd e2 (filt e x) y)else none:=by
  simp[rwF,bB,Pn.ex0,Pn.kU,Pn.uK,Pn.kind,Pn.exprs,Pn.kids,hkd,hn]
 unfold oJ;rw[hr,aD rfl Tryz.func73 rfl rfl];generalize (bB kd e2 x y).wd ws 8=W at *
 cases hb:e.cin 0 n with
 | true =>
  rw[hb]at c4;simp only[if_true,Option.getD,Option.isSome,aU,pair_cells,Ex.aA e,Ex.aA e2,Pn.aA x,Pn.aA y]at c1 c2 c3 c4 ⊢
  rcases hkd with rfl|rfl<;>simp[c1,c2,c3,c4,w1]
 | false =>
  rw[hb]at c4;simp only[yK,if_false,Option.getD,Option.isSome,aU,pair_cells,Ex.aA e,Ex.aA e2,Pn.aA x,Pn.aA y]at c1 c2 c3 c4 ⊢
  rcases hkd with rfl|rfl<;>simp[c1,c2,c4,w1]
theorem AW8 {ws:List Int} (hw:kH ws=true) {e e2:Ex} {x y:Pn} (hp:(filt e (bB 4 e2 x y)).wd ws 8≠0):oJ ws 4 e (bB 4 e2 x y):=by
 obtain⟨h1,h2,h3⟩:=wK hp;obtain⟨g1,g2,g3,g4,g5⟩:=QJ (.inl rfl) h1;have c1:=K7 hw (dJ _ 8 h1);have c2:=K7 hw (dJ _ 8 g1);obtain⟨n,hn,n1,n2⟩:=CG hw g1;obtain⟨m,hm,m1,m2⟩:=CG hw g2;have hwf:=(Ex.tL h2).1;rw[g5,hn,hm,← Int.natCast_add]at hwf;have g5':=g5;rw[hn,hm,← Int.natCast_add]at g5';rw[g5']at c1;rw[hn]at c2;have c4:=TJ e hwf (by have:=Ex.gK h2;omega) n (n+m:Nat) (by omega);have w1:IntKind.i64.wrap ((n:Int)+m-1)=n+m-1:=wrO;have w2:IntKind.i64.wrap ((n:Int)+m-n)=m:=by rw[wrO];omega
 have hr:rwF ws 4 e (bB 4 e2 x y)=if e.cin n (n+m:Nat)=true then some (bB 4 e2 x (filt (e.AZ (·-n)) y))else none:=by
  have:=g5';unfold bB at this;simp[rwF,bB,Pn.ex0,Pn.kU,Pn.uK,Pn.kind,Pn.exprs,Pn.kids,hn,this]
 have f1:=oP 0 (by omega) n (by omega);have f2:=oP 0 (by omega) m (by omega);have hlen:(aW 0 n++aW 0 m).length=n+m:=by simp
 have f3:=mZ (aW 0 n++aW 0 m) (fun b hb=>by
  rcases zV.1 hb with h|h<;>exact sG _ _ b h) e (Ex.gF _ (by have:=Ex.gK h2;omega)) (by rw[hlen];exact Ex.J2 e hwf)
 unfold oJ;rw[hr,aD rfl Tryz.func73 rfl rfl]
 cases hb:e.cin n (n+m:Nat)with
 | true =>
  have hsub:e.sub (aW 0 n++aW 0 m)=e.AZ (·-n):=Ex.AA1 (g:=fun c=>decide ((n:Int)≤c∧c<(n+m:Nat))) (fun c hc=>by
   simp only[zM]at hc;rw[zB (by simp;omega),uW,uV (by omega)]
   congr 2;omega) e hb
  rw[hsub]at f3;have c3:=fE (e.AZ (·-n)) y;generalize e.AZ (·-(n:Int))=z at *
  rw[hb]at c4;have ht:∀ k:Nat,(aW 0 k).take k=aW 0 k:=fun k=>zY (by simp)
  have ht2:(Ex.aB (aW 0 n)++Ex.aB (aW 0 m)).take (n+m)=Ex.aB (aW 0 n)++Ex.aB (aW 0 m):=zY (by simp);have hl1:(n+m)*56≤140737488355328:=by omega
  simp only[yA]at c1 c4;simp only[if_true,Option.getD,Option.isSome,aU,pair_cells,Ex.aA e,Ex.aA e2,Ex.aA z,Pn.aA x,Pn.aA y,Ex.kM]at c1 c2 c3 c4 f3 ⊢;simp[c1,c2,c3,c4,w1,w2,f1,f2,f3,ht,ht2,hl1]
 | false =>
  rw[hb]at c4;simp only[yA]at c1 c4;simp only[yK,if_false,Option.getD,Option.isSome,aU,pair_cells,Ex.aA e,Ex.aA e2,Pn.aA x,Pn.aA y]at c1 c2 c4 ⊢;simp[c1,c2,c4,w1]
theorem AW7 {ws:List Int} (hw:kH ws=true) {e e2:Ex} {x y:Pn} (hp:(filt e (bB 4 e2 x y)).wd ws 8≠0):oJ ws 5 e (bB 4 e2 x y):=by
 obtain⟨h1,h2,h3⟩:=wK hp;obtain⟨g1,g2,g3,g4,g5⟩:=QJ (.inl rfl) h1;have c1:=K7 hw (dJ _ 8 h1);have c2:=K7 hw (dJ _ 8 g1)
 have hr:rwF ws 5 e (bB 4 e2 x y)=some (bB 4 (ABW e2 e) x y):=by
  simp[rwF,bB,Pn.ex0,Pn.kU,Pn.uK,Pn.kind,Pn.exprs,Pn.kids]
 unfold oJ;rw[hr,aD rfl Tryz.func73 rfl rfl];generalize (bB 4 e2 x y).wd ws 8=W at *
 generalize x.wd ws 8=V at *
 simp only[Option.getD,Option.isSome,aU,pair_cells,qL,Ex.aA e,Ex.aA e2,Pn.aA x,Pn.aA y]at c1 c2 ⊢;simp[c1,c2]
theorem AW6 {ws:List Int} (hw:kH ws=true) {e e2:Ex} {x y:Pn} (hp:(filt e (bB 5 e2 x y)).wd ws 8≠0):oJ ws 7 e (bB 5 e2 x y):=by
 obtain⟨h1,h2,h3⟩:=wK hp;obtain⟨g1,g2,g3,g4,g5⟩:=QJ (.inr rfl) h1;have c1:=K7 hw (dJ _ 8 h1);have c2:=K7 hw (dJ _ 8 g1);obtain⟨n,hn,n1,n2⟩:=CG hw g1;obtain⟨m,hm,m1,m2⟩:=CG hw g2;have hwf:=(Ex.tL h2).1;rw[g5,hn,hm,← Int.natCast_add]at hwf;have g5':=g5;rw[hn,hm,← Int.natCast_add]at g5';rw[g5']at c1;rw[hn]at c2;have c3:=fE e (bB 4 e2 x y);have f1:=RU (n:=n+m) (p:=n) (m:=m) rfl (by omega);have f2:=XT e (n:=n+m) (p:=n) (m:=m) rfl (by omega) hwf
 have hr:rwF ws 7 e (bB 5 e2 x y)=if AGT e (n+m:Nat) n=true then some (filt e (bB 4 e2 x y))else none:=by
  have:=g5';unfold bB at this;simp[rwF,bB,Pn.ex0,Pn.kU,Pn.uK,Pn.kind,Pn.exprs,Pn.kids,hn,this]
 unfold oJ;rw[hr,aD rfl Tryz.func73 rfl rfl];simp only[yA]at c1 f1 f2
 cases hb:AGT e (n+m:Nat) n with
 | true =>
  rw[show AGT e ((n:Int)+m) n=true by rw[← Int.natCast_add];exact hb]at f2;simp only[if_true,Option.getD,Option.isSome,aU,pair_cells,Ex.aA e,Ex.aA e2,Pn.aA x,Pn.aA y]at c1 c2 c3 f2 ⊢;simp[c1,c2,c3,f1,f2]
 | false =>
  rw[show AGT e ((n:Int)+m) n=false by rw[← Int.natCast_add];exact hb]at f2;simp only[yK,if_false,Option.getD,Option.isSome,aU,pair_cells,Ex.aA e,Ex.aA e2,Pn.aA x,Pn.aA y]at c1 c2 f2 ⊢;simp[c1,c2,f1,f2]
theorem AW5 {ws:List Int} (hw:kH ws=true) {e:Ex} {x y:Pn} (hp:(filt e (bX x y)).wd ws 8≠0):oJ ws 8 e (bX x y):=by
 obtain⟨h1,h2,h3⟩:=wK hp;have c1:=K7 hw (dJ _ 8 h1);have c2:=K7 hw (dJ x 8 (ZV h1 (by simp[bX,Pn.kids]) x (by simp[bX,Pn.kids])));have c3:=fE e x;have c4:=fE e y
 have hr:rwF ws 8 e (bX x y)=some (bX (filt e x) (filt e y)):=by
  simp[rwF,bX,Pn.ex0,Pn.kU,Pn.uK,Pn.kind,Pn.exprs,Pn.kids]
 unfold oJ;rw[hr,aD rfl Tryz.func73 rfl rfl];generalize (bX x y).wd ws 8=W at *
 generalize x.wd ws 8=V at *
 simp only[Option.getD,Option.isSome,aU,JV,Ex.aA e,Pn.aA x,Pn.aA y]at c1 c2 c3 c4 ⊢;simp[c1,c2,c3,c4]
theorem AR1 {ws:List Int} (hw:kH ws=true) {e:Ex} {es:List Ex} {x:Pn} (hp:(filt e (proj es x)).wd ws 8≠0):oJ ws 10 e (proj es x):=by
 obtain⟨h1,h2,h3⟩:=wK hp;obtain⟨g1,g2,g3,g4⟩:=AD4 h1;have c1:=K7 hw (dJ _ 8 h1);have c2:=K7 hw (dJ _ 8 g1);rw[g4]at h2;have c3:=fE (e.sub es) x;have f3:=mZ es (fun b hb=>Ex.gF _ (by have:=Ex.gK (zQ.1 g3 b hb);omega)) e (Ex.gF _ (by have:=Ex.gK h2;omega)) (Ex.J2 e (Ex.tL h2).1)
 have hr:rwF ws 10 e (proj es x)=some (proj es (filt (e.sub es) x)):=by
  simp[rwF,proj,Pn.ex0,Pn.kU,Pn.uK,Pn.kind,Pn.exprs,Pn.kids]
 unfold oJ;rw[hr,aD rfl Tryz.func73 rfl rfl];generalize (proj es x).wd ws 8=W at *
 generalize x.wd ws 8=V at *
 generalize e.sub es=z at *
 simp only[Option.getD,Option.isSome,aU,jR,Ex.aA e,Ex.aA z,Pn.aA x]at c1 c2 c3 f3 ⊢;simp[c1,c2,c3,f3]
theorem AL8 {ws:List Int} (hw:kH ws=true) {e:Ex} {k:Pn} (hp:(filt e k).wd ws 8≠0) (r:Int):oJ ws r e k:=by
 obtain⟨h1,h2,h3⟩:=wK hp;by_cases hr:r≠1∧r≠2∧r≠3∧r≠4∧r≠5∧r≠7∧r≠8∧r≠10
 ·exact XQ hw hp hr
 have hk:=nN h1;have hr':r=1∨r=2∨r=3∨r=4∨r=5∨r=7∨r=8∨r=10:=by omega
 rcases hr' with rfl|rfl|rfl|rfl|rfl|rfl|rfl|rfl
 ·by_cases q:k.kind=2
  ·obtain⟨e2,a,rfl⟩:=qO hk q;exact AWB hw hp
  ·exact oN hw hp (.inl ⟨rfl,q⟩)
 ·by_cases q:e.kind=8
  ·rcases Ex.CF (Ex.tL h2).1 with ⟨h,_⟩|⟨h,_⟩|⟨h,_⟩|⟨_,x,y,h,_⟩
   ·omega
   ·omega
   ·omega
   ·exact AWA hw hp q h
  ·exact oN hw hp (.inr (.inl ⟨rfl,q⟩))
 ·by_cases q:k.kind=4∨k.kind=5
  ·obtain⟨e2,x,y,hx⟩:=jN hk q;generalize k.kind=kd at *
   subst hx;exact AW9 hw q hp
  ·exact oN hw hp (.inr (.inr (.inl ⟨rfl,q⟩)))
 ·by_cases q:k.kind=4
  ·obtain⟨e2,x,y,hx⟩:=jN hk (.inl q);rw[q]at hx;subst hx;exact AW8 hw hp
  ·exact oN hw hp (.inr (.inr (.inr (.inl ⟨rfl,q⟩))))
 ·by_cases q:k.kind=4
  ·obtain⟨e2,x,y,hx⟩:=jN hk (.inl q);rw[q]at hx;subst hx;exact AW7 hw hp
  ·exact oN hw hp (.inr (.inr (.inr (.inr (.inl ⟨rfl,q⟩)))))
 ·by_cases q:k.kind=5
  ·obtain⟨e2,x,y,hx⟩:=jN hk (.inr q);rw[q]at hx;subst hx;exact AW6 hw hp
  ·exact oN hw hp (.inr (.inr (.inr (.inr (.inr (.inl ⟨rfl,q⟩))))))
 ·by_cases q:k.kind=6
  ·obtain⟨x,y,rfl⟩:=AJX hk q;exact AW5 hw hp
  ·exact oN hw hp (.inr (.inr (.inr (.inr (.inr (.inr (.inl ⟨rfl,q⟩)))))))
 ·by_cases q:k.kind=3
  ·obtain⟨es,x,rfl⟩:=pI hk q;exact AR1 hw hp
  ·exact oN hw hp (.inr (.inr (.inr (.inr (.inr (.inr (.inr ⟨rfl,q⟩)))))))
def SRw (ws:List Int) (r:Int) (p:Pn):Prop:=aH C0 53 [.i (.agg p.cells), .int r, .i (.isl (aF ws))] []=some (.tup [.i (.agg ((rwP ws r p).getD p).cells), .bool (rwP ws r p).isSome],[])
theorem AL7 {ws:List Int} (hw:kH ws=true) {e:Ex} {k:Pn} (hp:(filt e k).wd ws 8≠0) (r:Int):SRw ws r (filt e k):=by
 have h:=AL8 hw hp r;unfold oJ at h;unfold SRw;rw[fF];generalize (rwF ws r e k).getD (filt e k)=q at *
 generalize (rwF ws r e k).isSome=b at *
 rw[aD rfl Tryz.func53 rfl rfl];simp only[aU,Pn.aA q]at h ⊢;simp[h]
theorem AVZ {ws:List Int} {p:Pn} {r:Int} (h2:p.kind≠2) (h4:¬ (r=6∧p.kind=4)) (h7:¬ (r=9∧p.kind=7)) (h3:¬ (r=11∧p.kind=3)):SRw ws r p:=by
 have hn:rwP ws r p=none:=by
  unfold rwP;rw[if_neg h2,if_neg h4,if_neg (fun h=>h7 ⟨h.1,h.2.1⟩),if_neg (fun h=>h3 ⟨h.1,h.2.1⟩)]
 unfold SRw;rw[hn,aD rfl Tryz.func53 rfl rfl];simp only[Option.getD,Option.isSome,Pn.aA p];by_cases r6:r=6
 ·have k4:¬ p.kind=4:=fun h=>h4 ⟨r6,h⟩
  simp[h2,r6,k4]
 ·by_cases r9:r=9
  ·have k7:¬ p.kind=7:=fun h=>h7 ⟨r9,h⟩
   simp[h2,r9,k7]
  ·by_cases r11:r=11
   ·have k3:¬ p.kind=3:=fun h=>h3 ⟨r11,h⟩
    simp[h2,r11,k3]
   ·simp[h2,r6,r9,r11]
theorem AR0 {ws:List Int} (hw:kH ws=true) {e:Ex} {x y:Pn} (hp:(bB 4 e x y).wd ws 8≠0):SRw ws 6 (bB 4 e x y):=by
 obtain⟨g1,g2,g3,g4,g5⟩:=QJ (.inl rfl) hp;have c1:=K7 hw (dJ _ 8 g1);have c2:=K7 hw (dJ _ 8 g2);obtain⟨n,hn,n1,n2⟩:=CG hw g1;obtain⟨m,hm,m1,m2⟩:=CG hw g2;have hwf:=(Ex.tL g4).1;rw[hn]at c1 hwf;rw[hm]at c2 hwf;have f1:=oP m (by omega) n (by omega);have f2:=oP 0 (by omega) m (by omega);have hlen:(aW (m:Int) n++aW 0 m).length=n+m:=by simp
 have f3:=mZ (aW (m:Int) n++aW 0 m) (fun b hb=>by
  rcases zV.1 hb with h|h<;>exact sG _ _ b h) e (Ex.gF _ (by have:=Ex.gK g4;omega)) (by rw[hlen,yA];exact Ex.J2 e hwf)
 have hsub:e.sub (aW (m:Int) n++aW 0 m)=e.AZ (rC n m):=Ex.AA1 (g:=fun c=>decide (0≤c∧c<(n:Int)+m)) (fun c hc=>by
  simp only[zM]at hc;rw[ABK (by omega)]
  congr 3;omega) e (Ex.PX e hwf)
 rw[hsub]at f3
 have hr:rwP ws 6 (bB 4 e x y)=some (proj (aW m n++aW 0 m) (bB 4 (e.AZ (rC n m)) y x)):=by
  simp[rwP,bB,Pn.ex0,Pn.kU,Pn.uK,Pn.kind,Pn.exprs,Pn.kids,hn,hm]
 unfold SRw;rw[hr,aD rfl Tryz.func53 rfl rfl];generalize e.AZ (rC n m)=z at *
 have ht:∀ (a:Int) (k:Nat),(aW a k).take k=aW a k:=fun a k=>zY (by simp)
 have ht2:(Ex.aB (aW m n)++Ex.aB (aW 0 m)).take (n+m)=Ex.aB (aW m n)++Ex.aB (aW 0 m):=zY (by simp);have hl1:(n+m)*56≤140737488355328:=by omega
 simp only[Option.getD,Option.isSome,jR,pair_cells,Ex.aA e,Ex.aA z,Pn.aA x,Pn.aA y,Ex.kM]at c1 c2 f3 ⊢;simp[c1,c2,f1,f2,f3,ht,ht2,hl1]
theorem AL6 {ws:List Int} {a:Pn}:SRw ws 9 (.mk 7 0 [] [] [a]):=by
 have hc:(Pn.mk 7 0 [] [] [a]).cells=[.int 7, .int 0, .isl [], .isl [], .isl [a.cells]]:=by simp[Pn.cells,Ex.aB,aF,Pn.aB]
 unfold SRw;rw[aD rfl Tryz.func53 rfl rfl];by_cases h:a.kind=7∨a.kind=8
 ·have hr:rwP ws 9 (.mk 7 0 [] [] [a])=some a:=by simp[rwP,Pn.kU,Pn.kids,h]
  rw[hr];simp only[Option.getD,Option.isSome,hc,Pn.aA a]
  rcases h with h|h<;>simp[h]
 ·have hr:rwP ws 9 (.mk 7 0 [] [] [a])=none:=by simp[rwP,Pn.kU,Pn.kids,h]
  rw[hr];simp only[Option.getD,Option.isSome,hc,Pn.aA a];have h7:¬ a.kind=7:=by omega
  have h8:¬ a.kind=8:=by omega
  simp[h7,h8]
theorem Q7 {ws:List Int} {fs:List Ex} {a:Pn} (h:a.kind≠3):SRw ws 11 (proj fs a):=by
 have hr:rwP ws 11 (proj fs a)=none:=by simp[rwP,Pn.kU,Pn.kids,proj,h]
 unfold SRw;rw[hr,aD rfl Tryz.func53 rfl rfl];simp only[Option.getD,Option.isSome,jR,Pn.aA a];simp[h]
def SRX (fs es:List Ex) (x:Pn) (ws:List Int) (zs:List Ex) (i:Nat):AS :=
 { env:=[(0, .i (.agg [.int 3, .int 0, .isl (Ex.aB fs), .isl [], .isl [[.int 3, .int 0, .isl (Ex.aB es), .isl [], .isl [[.int x.kind, .int x.table, .isl (Ex.aB x.exprs), .isl (aF x.cols), .isl (Pn.aB x.kids)]]]]])),(1, .int 11),(2, .i (.isl (aF ws))),(3, .own 0 0),(6, .own 1 0),(7, .bool false),(8, .junk),(9, .junk),(10, .junk),(11, .junk),(12, .osl 2 5 0 i),(13, .int i),(14, .bool false),(24, .bool false),(71, .bool false),(99, .bool true),(120,jk i (.bool true))],
   st:=[some (.box [.i (.int 3), .i (.int 0), .i (.isl (Ex.aB fs)), .i (.isl []), .i (.isl [[.int 3, .int 0, .isl (Ex.aB es), .isl [], .isl [[.int x.kind, .int x.table, .isl (Ex.aB x.exprs), .isl (aF x.cols), .isl (Pn.aB x.kids)]]]])]),some (.box [.int 0, .int 0, .nils, .nils, .nils]),some (.arr 5 (Ex.aB (zs.take i)))] }
theorem ACR {ws:List Int} {fs es:List Ex} {x:Pn} (hp:(proj fs (proj es x)).wd ws 8≠0):SRw ws 11 (proj fs (proj es x)):=by
 obtain⟨h1,h2,h3,h4⟩:=AD4 hp;obtain⟨g1,g2,g3,g4⟩:=AD4 h1;rw[g4]at h3;have f3:=fun f (hf:f∈fs)=>mZ es (fun b hb=>Ex.gF _ (by have:=Ex.gK (zQ.1 g3 b hb);omega)) f (Ex.gF _ (by have:=Ex.gK (zQ.1 h3 f hf);omega)) (Ex.J2 f (Ex.tL (zQ.1 h3 f hf)).1)
 have hr:rwP ws 11 (proj fs (proj es x))=some (proj (fs.map (Ex.sub es)) x):=by
  simp[rwP,proj,Pn.ex0,Pn.kU,Pn.uK,Pn.kind,Pn.exprs,Pn.kids]
 unfold SRw;rw[hr,aD rfl Tryz.func53 rfl rfl];have hlen:fs.length≤6:=by unfold bH at h2;simp at h2;omega
 have hz:∀ (i:Nat) (f:Ex),fs[i]?=some f→(fs.map (Ex.sub es))[i]?=some (f.sub es):=fun i f h=>by simp[h]
 have hzl:(fs.map (Ex.sub es)).length=fs.length:=by simp
 generalize fs.map (Ex.sub es)=zs at *
 simp only[Option.getD,Option.isSome,jR,Pn.aA x];simp;rw[aS (SRX fs es x ws zs) fs.length (by simp[SRX,Ex.aB])]
 ·rw[aG];have ht:zs.take fs.length=zs:=zY (by omega);simp[SRX,ht,hzl]
 ·intro i hi;have q1:=zX hi;have hm:=zU q1;have r1:=Ex.aO q1;generalize fs[i]=f at q1 hm r1;have q2:=hz i f q1;have c5:=f3 f hm;generalize f.sub es=z at q2 c5;have htk:=aN q2;have w2:IntKind.i64.wrap ((i:Int)+1)=i+1:=wrO;have hl1:(i+1)*56≤140737488355328:=by omega
  have hl2:i≤min i zs.length:=by omega
  simp only[Ex.aA f,Ex.aA z]at c5 r1;simp[SRX,hi,r1,c5,w2,htk,Ex.aZ,Ex.aA z,hl1,hl2,zK]
theorem AW4 {ws:List Int} (hw:kH ws=true) {p:Pn} (hp:p.wd ws 8≠0) (r:Int):SRw ws r p:=by
 have hk:=nN hp;by_cases k2:p.kind=2
 ·obtain⟨e,a,rfl⟩:=qO hk k2;exact AL7 hw hp r
 by_cases k4:r=6∧p.kind=4
 ·obtain⟨rfl,k4⟩:=k4;obtain⟨e,x,y,hx⟩:=jN hk (.inl k4);rw[k4]at hx;subst hx;exact AR0 hw hp
 by_cases k7:r=9∧p.kind=7
 ·obtain⟨rfl,k7⟩:=k7;obtain⟨a,rfl⟩:=AJY hk k7;exact AL6
 by_cases k3:r=11∧p.kind=3
 ·obtain⟨rfl,k3⟩:=k3;obtain⟨fs,a,rfl⟩:=pI hk k3;by_cases k33:a.kind=3
  ·obtain⟨V,hV,_⟩:=BU hk;obtain⟨es,x,rfl⟩:=pI hV k33;exact ACR hp
  ·exact Q7 k33
 exact AVZ k2 k4 k7 k3
end Go.Proofs.YtgiepjdnkonkgaaGreat.P
namespace Go.Av
theorem ATQ {path:List Int} {p a:Pn} {x:Int} (h:Pn.at path p=some a):Pn.at (path++[x]) p=if 0≤x then a.kids[x.toNat]? else none:=by
 rw[uX path p a [x] h];unfold Pn.at;split
 ·cases a.kids[x.toNat]?<;>simp[Pn.at]
 ·rfl
theorem ATR {path r:List Int} {p:Pn} (h:Pn.at path p=none):Pn.at (path++r) p=none:=by
 induction path generalizing p with
 | nil=>simp[Pn.at]at h
 | cons i path ih =>
  simp only[yV,Pn.at]at h ⊢;split
  ·rename_i h0;rw[if_pos h0]at h
   cases hk:p.kids[i.toNat]? with
   | none=>rfl
   | some b=>rw[hk]at h;exact ih h
  ·rfl
theorem AJN (path:List Int) (p:Pn):∃ j:Nat,(∀ i,i<j→∃ (x:Int) (a b:Pn),path[i]?=some x∧Pn.at (path.take i) p=some a∧0≤x∧a.kids[x.toNat]?=some b∧Pn.at (path.take (i+1)) p=some b)∧((∃ a,j=path.length∧Pn.at path p=some a)∨(∃ (x:Int) (a:Pn),path[j]?=some x∧Pn.at (path.take j) p=some a∧(0≤x→a.kids[x.toNat]?=none)∧Pn.at path p=none)):=by
 generalize hn:path.length=n
 induction n generalizing path with
 | zero =>
  obtain rfl:=zW.1 hn;exact⟨0,fun i hi=>by omega, .inl ⟨p,rfl,rfl⟩⟩
 | succ n ih =>
  obtain⟨l,x,rfl⟩:∃ l x,path=l++[x]:=by
   rcases zD2 path with h|⟨l,x,h⟩
   ·rw[h]at hn;simp at hn
   ·exact⟨l,x,by simpa using h⟩
  have hln:l.length=n:=by simpa using hn
  subst hln;obtain⟨j,h1,h2⟩:=ih l rfl
  have hlt:∀ i,i<j→i<l.length:=fun i hi=>by
   obtain⟨y,_,_,h,_⟩:=h1 i hi;exact(zZ.1 h).1
  have h1':∀ i,i<j→∃ (x':Int) (a b:Pn),(l++[x])[i]?=some x'∧Pn.at ((l++[x]).take i) p=some a∧0≤x'∧a.kids[x'.toNat]?=some b∧Pn.at ((l++[x]).take (i+1)) p=some b:=fun i hi=>by
   obtain⟨y,a,b,q1,q2,q3,q4,q5⟩:=h1 i hi;have hl:=hlt i hi;refine⟨y,a,b,by rw[zG hl];exact q1,by rw[zA0 (by omega)];exact q2,q3,q4,by rw[zA0 (by omega)];exact q5⟩
  rcases h2 with ⟨a,rfl,ha⟩|⟨y,a,q1,q2,q3,q4⟩
  ·have hs:=ATQ (x:=x) ha;by_cases hx:0≤x
   ·rw[if_pos hx]at hs
    cases hk:a.kids[x.toNat]? with
    | none=>exact⟨l.length,h1', .inr ⟨x,a,by simp,by simpa using ha,fun _=>hk,by rw[hs,hk]⟩⟩
    | some b =>
     refine⟨l.length+1,fun i hi=>?_, .inl ⟨b,by simp,by rw[hs,hk]⟩⟩;by_cases hi':i<l.length
     ·exact h1' i hi'
     ·obtain rfl:i=l.length:=by omega
      exact⟨x,a,b,by simp,by simpa using ha,hx,hk,by rw[zY (by simp),hs,hk]⟩
   ·rw[if_neg hx]at hs;exact⟨l.length,h1', .inr ⟨x,a,by simp,by simpa using ha,fun h=>absurd h hx,hs⟩⟩
  ·have hl:=(zZ.1 q1).1;exact⟨j,h1', .inr ⟨y,a,by rw[zG hl];exact q1,by rw[zA0 (by omega)];exact q2,q3,ATR q4⟩⟩
theorem ZJ:∀ (path:List Int) (p a:Pn),p.thin→Pn.at path p=some a→a.thin
 | [],p,a,h,e=>by simp[Pn.at]at e;subst e;exact h
 | i::r,p,a,h,e=>by
  obtain⟨n,rfl,b,hb,hr⟩:=Pn.sM e;exact ZJ r b a (((Pn.bM p).1 h).2.2.2.2 b (zU hb)) hr
theorem Pn.AEC (l:List Pn) (n:Nat) (x:Pn):(Pn.aB l).set n x.cells=Pn.aB (l.set n x):=by
 induction l generalizing n with
 | nil=>simp[Pn.aB]
 | cons a l ih=>cases n with
  | zero=>simp[Pn.aB]
  | succ n=>simp[Pn.aB,ih n]
end Go.Av
namespace Go.Proofs.YtgiepjdnkonkgaaGreat.P
open Go Go.Av
set_option maxRecDepth 4000
set_option maxHeartbeats 4000000
def EO (a:Pn):Option Blk:=some (.box [.i (.int a.kind), .i (.int a.table), .i (.isl (Ex.aB a.exprs)), .i (.isl (aF a.cols)), .i (.isl (Pn.aB a.kids))])
def PAX (p:Pn) (path:List Int) (a:Pn) (i:Nat):AS :=
 { env:=[(0, .i (.agg [.int p.kind, .int p.table, .isl (Ex.aB p.exprs), .isl (aF p.cols), .isl (Pn.aB p.kids)])),(1, .i (.isl (aF path))),(2, .own 0 0),(4, .own 1 0),(5, .bool false),(6, .int i),(10,jk i (.bool true)),(22,jk i (.bool false))],
   st:=[EO a,some (.box [.int 0, .int 0, .nils, .nils, .nils])] }
theorem AH1 {p:Pn} (hp:p.thin) {path:List Int} (hl:path.length<1000000):aH C0 52 [.i (.agg p.cells), .i (.isl (aF path))] []=some (.tup [.i (.agg ((Pn.at path p).getD Pn.zero).cells), .bool (Pn.at path p).isSome],[]):=by
 obtain⟨j,h1,h2⟩:=AJN path p;rw[aD rfl Tryz.func52 rfl rfl];simp only[Pn.aA p];simp;rw[aS (fun i=>PAX p path ((Pn.at (path.take i) p).getD Pn.zero) i) j (by simp[PAX,Pn.at,EO])]
 ·rw[aG]
  rcases h2 with ⟨a,rfl,ha⟩|⟨x,a,q1,q2,q3,q4⟩
  ·simp[PAX,EO,ha,Pn.aA a]
  ·have r1:=aX q1;have hj:=(zZ.1 q1).1;have ha:=ZJ _ _ _ hp q2;have hka:=((Pn.bM a).1 ha).2.2.2.1;have w1:IntKind.i64.wrap ((a.kids.length:Int)-1)=a.kids.length-1:=wrO
   have hin:(decide (0≤x∧x≤(a.kids.length:Int)-1))=false:=by
    rw[decide_eq_false_iff_not];rintro⟨g1,g2⟩;have:=zB7.1 (q3 g1);omega
   have hir:=OW x 0 ((a.kids.length:Int)-1);rw[hin]at hir;simp[PAX,EO,q2,q4,hj,r1,w1,hir,aV]
 ·intro i hi;obtain⟨x,a,b,q1,q2,q3,q4,q5⟩:=h1 i hi;have r1:=aX q1;have hj:=(zZ.1 q1).1;have ha:=ZJ _ _ _ hp q2;have hka:=((Pn.bM a).1 ha).2.2.2.1;have hxl:=(zZ.1 q4).1;have r4:=Pn.aO q4;have w1:IntKind.i64.wrap ((a.kids.length:Int)-1)=a.kids.length-1:=wrO;have w2:IntKind.i64.wrap ((i:Int)+1)=i+1:=wrO;have hin:(decide (0≤x∧x≤(a.kids.length:Int)-1))=true:=by rw[zM];omega
  have hir:=OW x 0 ((a.kids.length:Int)-1);rw[hin]at hir;rw[Pn.aA b]at r4;simp[PAX,EO,q2,q5,hj,r1,w1,w2,hir,q3,show x<a.kids.length by omega,r4]
end Go.Proofs.YtgiepjdnkonkgaaGreat.P
namespace Go.Av
theorem kK {e:Ex} {a:Pn} (he:e.thin) (ha:a.thin):(filt e a).thin:=by simp[filt,Pn.thin,Pn.qZ,he,ha]
theorem KO {es:List Ex} {a:Pn} (hl:es.length<1000000000) (he:∀ e∈es,e.thin) (ha:a.thin):(proj es a).thin:=by simp[proj,Pn.thin,Pn.qZ,hl,ha];exact he
theorem uG {kd:Int} {e:Ex} {a b:Pn} (he:e.thin) (ha:a.thin) (hb:b.thin):(bB kd e a b).thin:=by simp[bB,Pn.thin,Pn.qZ,he,ha,hb]
theorem AC9 {a b:Pn} (ha:a.thin) (hb:b.thin):(bX a b).thin:=by simp[bX,Pn.thin,Pn.qZ,ha,hb]
theorem WR {a b:Ex} (ha:a.thin) (hb:b.thin):(ABW a b).thin:=by simp[ABW,Ex.thin,Ex.qZ,ha,hb]
theorem rY:Ex.zero.thin:=by simp[Ex.zero,Ex.thin,Ex.qZ]
theorem Pn.uL {p:Pn} (h:p.thin):p.kU.thin:=by
 unfold Pn.kU
 cases hk:p.kids[0]? with
 | none=>exact Pn.JK
 | some a=>exact((Pn.bM p).1 h).2.2.2.2 a (zU hk)
theorem Pn.DZ {p:Pn} (h:p.thin):p.uK.thin:=by
 unfold Pn.uK
 cases hk:p.kids[1]? with
 | none=>exact Pn.JK
 | some a=>exact((Pn.bM p).1 h).2.2.2.2 a (zU hk)
theorem Pn.AB8 {p:Pn} (h:p.thin):p.ex0.thin:=by
 unfold Pn.ex0
 cases hk:p.exprs[0]? with
 | none=>exact rY
 | some a=>exact((Pn.bM p).1 h).2.1 a (zU hk)
theorem Ex.uL {e:Ex} (h:e.thin):e.kU.thin:=by
 unfold Ex.kU
 cases hk:e.kids[0]? with
 | none=>exact rY
 | some a=>exact((Ex.bM e).1 h).2 a (zU hk)
theorem Ex.DZ {e:Ex} (h:e.thin):e.uK.thin:=by
 unfold Ex.uK
 cases hk:e.kids[1]? with
 | none=>exact rY
 | some a=>exact((Ex.bM e).1 h).2 a (zU hk)
theorem Ex.AA0 {l:List Ex} (hl:∀ b∈l,b.thin):∀ e:Ex,e.thin→(e.sub l).thin:=by
 intro e
 induction e using Ex.ind with
 | h k c v ks ih =>
  intro ht;have h:=(Ex.bM _).1 ht;by_cases hk:k=1
  ·unfold Ex.sub;rw[if_pos hk]
   cases hx:l[c.toNat]? with
   | none=>exact rY
   | some b=>exact hl b (zU hx)
  ·rw[Ex.AB l (e:=.mk k c v ks) hk,Ex.bM];refine⟨by simpa [Ex.kids]using h.1,fun x hx=>?_⟩;simp only[Ex.kids,yI]at hx;obtain⟨y,hy,rfl⟩:=hx;exact ih y hy (h.2 y hy)
theorem Ex.V9 {f:Int→Int}:∀ e:Ex,e.thin→(e.AZ f).thin:=by
 intro e
 induction e using Ex.ind with
 | h k c v ks ih =>
  intro ht;have h:=(Ex.bM _).1 ht;by_cases hk:k=1
  ·rw[Ex.JE f (e:=.mk k c v ks) hk];exact WE _
  ·rw[Ex.JD f (e:=.mk k c v ks) hk,Ex.bM];refine⟨by simpa [Ex.kids]using h.1,fun x hx=>?_⟩;simp only[Ex.kids,yI]at hx;obtain⟨y,hy,rfl⟩:=hx;exact ih y hy (h.2 y hy)
theorem ALE {ws:List Int} {r:Int} {e:Ex} {k q:Pn} (he:e.thin) (hk:k.thin) (h:rwF ws r e k=some q):q.thin:=by
 have k0:=Pn.uL hk;have k1:=Pn.DZ hk;have x0:=Pn.AB8 hk;have hx:=((Pn.bM k).1 hk).2.1;have hl:=((Pn.bM k).1 hk).1;unfold rwF at h
 repeat' split at h
 all_goals first
  | (cases h;done)
  | (injection h with h;subst h
     first
      | exact kK (WR x0 he) k0
      | exact kK (Ex.DZ he) (kK (Ex.uL he) hk)
      | exact uG x0 (kK he k0) k1
      | exact uG x0 k0 (kK (Ex.V9 _ he) k1)
      | exact uG (WR x0 he) k0 k1
      | exact kK he (uG x0 k0 k1)
      | exact AC9 (kK he k0) (kK he k1)
      | exact KO hl hx (kK (Ex.AA0 hx _ he) k0))
theorem ALC {ws:List Int} (hw:∀ w∈ws,0≤w∧w≤6) {r:Int} {p q:Pn} (hp:p.thin) (h:rwP ws r p=some q):q.thin:=by
 have k0:=Pn.uL hp;have k1:=Pn.DZ hp;have x0:=Pn.AB8 hp;have hx:=((Pn.bM p).1 hp).2.1;have hl:=((Pn.bM p).1 hp).1;have hx0:=((Pn.bM _).1 k0).2.1;have r0:=Pn.qV hw p.kU 8;have r1:=Pn.qV hw p.uK 8;unfold rwP at h;split at h
 ·exact ALE x0 k0 h
 split at h
 ·injection h with h;subst h;refine KO (by simp;omega) (fun e he=>?_) (uG (Ex.V9 _ x0) k1 k0)
  rcases zV.1 he with h|h<;>exact sG _ _ e h
 split at h
 ·injection h with h;subst h;exact k0
 split at h
 ·injection h with h;subst h;refine KO (by simpa using hl) (fun e he=>?_) (Pn.uL k0);obtain⟨y,hy,rfl⟩:=yI.1 he;exact Ex.AA0 hx0 y (hx y hy)
 ·cases h
theorem AAH {q:Pn} (hq:q.thin):∀ (path:List Int) (p a:Pn),p.thin→Pn.at path p=some a→(Pn.put path p q).thin
 | [],p,a,_,_=>by simpa [Pn.put]using hq
 | x::r,p,a,hp,ha=>by
  obtain⟨n,rfl,b,hb,hr⟩:=Pn.sM ha;have h:=(Pn.bM p).1 hp;have ih:=AAH hq r b a (h.2.2.2.2 b (zU hb)) hr;rw[Pn.J7 q hb,Pn.bM];refine⟨h.1,h.2.1,h.2.2.1,by simpa [Pn.kids]using h.2.2.2.1,fun c hc=>?_⟩;simp only[Pn.kids]at hc
  rcases zB3 hc with h1|h1
  ·exact h.2.2.2.2 c h1
  ·rw[h1];exact ih
end Go.Av
namespace Go.Proofs.YtgiepjdnkonkgaaGreat.P
open Go Go.Av
set_option maxRecDepth 4000
set_option maxHeartbeats 4000000
theorem QC {p q:Pn} (hq:q.thin):aH C0 54 [.i (.agg p.cells), .i (.isl []), .i (.agg q.cells)] []=some (.i (.agg q.cells),[]):=by
 have h:=BL q hq;rw[aD rfl Tryz.func54 rfl rfl];rw[Pn.aA p,Pn.aA q]at *
 by_cases he:q.exprs=[]
 ·by_cases hk:q.kids=[]
  ·simp[pcX,pcS,hk,he,Pn.aB,Ex.aB]at h;simp[h,hk,he,Pn.aB,Ex.aB]
  ·have hkl:q.kids.length≠0:=fun h=>hk (zW.1 h)
   simp[pcX,pcS,hk,he,aP hkl,aM hkl,Ex.aB]at h;simp[h,he,Ex.aB]
 ·have hel:q.exprs.length≠0:=fun h=>he (zW.1 h)
  by_cases hk:q.kids=[]
  ·simp[pcX,pcS,hk,he,aP hel,aM hel,Pn.aB]at h;simp[h,hk,Pn.aB]
  ·have hkl:q.kids.length≠0:=fun h=>hk (zW.1 h)
   simp[pcX,pcS,hk,he,aP hel,aM hel,aP hkl,aM hkl]at h;simp[h]
theorem H9 {q:Pn} (hq:q.thin):∀ (path:List Int) (p a:Pn),p.thin→path.length<1000000→Pn.at path p=some a→aH C0 54 [.i (.agg p.cells), .i (.isl (aF path)), .i (.agg q.cells)] []=some (.i (.agg (Pn.put path p q).cells),[])
 | [],p,a,hp,hl,ha=>by simpa [aF,Pn.put]using QC (p:=p) hq
 | x::r,p,a,hp,hl,ha=>by
  obtain⟨n,rfl,b,hb,hr⟩:=Pn.sM ha;have hrl:r.length<1000000:=by simp at hl;omega
  have ih:=H9 hq r b a (((Pn.bM p).1 hp).2.2.2.2 b (zU hb)) hrl hr;have h:=BL p hp;have hk:p.kids≠[]:=fun h=>by rw[h]at hb;simp at hb
  have hkl:p.kids.length≠0:=fun h=>hk (zW.1 h)
  have hn:=(zZ.1 hb).1;have r4:=Pn.aO hb;rw[Pn.J7 q hb,aD rfl Tryz.func54 rfl rfl];generalize Pn.put r b q=z at *
  have hs:=Pn.AEC p.kids n z;have hsl:(p.kids.set n z).length=p.kids.length:=by simp
  have hsn:p.kids.set n z≠[]:=fun h=>by rw[h]at hsl;simp at hsl;exact hkl hsl.symm
  have ht:(Pn.aB (p.kids.set n z)).take p.kids.length=Pn.aB (p.kids.set n z):=zY (by simp);have hlen1:(r.length:Int)+1≠0:=by omega
  have hone:(1:Int)≤(r.length:Int)+1:=by omega
  rw[Pn.aA p,Pn.aA q]at *
  rw[Pn.aA b,Pn.aA z]at *
  have htr:List.take r.length (aF r)=aF r:=zY (by simp);by_cases he:p.exprs=[]
  ·simp[pcX,pcS,hk,he,aP hkl,aM hkl,Ex.aB]at h;simp[h,he,Ex.aB,aF,Pn.cells,hn,hlen1,hone,r4,ih,hs,ht,htr]
  ·have hel:p.exprs.length≠0:=fun h=>he (zW.1 h)
   simp[pcX,pcS,hk,he,aP hel,aM hel,aP hkl,aM hkl]at h;simp[h,aF,Pn.cells,hn,hlen1,hone,r4,ih,hs,ht,htr]
theorem uZ {ws:List Int} (hw:kH ws=true) {p:Pn} (hp:p.wd ws 8≠0) (r:Int) {path:List Int} (hl:path.length<1000000):aH C0 26 [.i (.agg p.cells), .i (.isl (aF ws)), .i (.agg [.int r, .isl (aF path)])] []=some (.tup [.i (.agg (OZ (apS ws r path p)).cells), .bool (apS ws r path p).isSome],[]):=by
 have ht:=dJ p 8 hp;have c1:=AH1 ht hl;unfold apS
 cases ha:Pn.at path p with
 | none =>
  rw[ha]at c1;rw[aD rfl Tryz.func26 rfl rfl];simp only[Option.getD,Option.isSome,Option.bind,OZ,aV,Pn.aA p]at c1 ⊢;simp[c1]
 | some a =>
  rw[ha]at c1
  have ha8:a.wd ws 8≠0:=by
   obtain⟨h1,h2⟩:=NR path p 8 a hp ha;rw[Pn.jD a _ 8 h2 (by omega)];exact h2
  have hat:=dJ a 8 ha8;have c2:=AW4 hw ha8 r;unfold SRw at c2
  cases hq:rwP ws r a with
  | none =>
   rw[hq]at c2;rw[aD rfl Tryz.func26 rfl rfl];simp only[hq,Option.getD,Option.isSome,Option.bind,OZ,aV,Pn.aA p,Pn.aA a]at c1 c2 ⊢;simp[c1,c2]
  | some q =>
   rw[hq]at c2;have hqt:=ALC (l7 hw) hat hq;have c3:=H9 hqt path p a ht hl ha;have hzt:=AAH hqt path p a ht ha;have c4:=K7 hw hzt;have hv:((some a).bind fun a=>(rwP ws r a).bind fun q=>if(Pn.put path p q).wd ws 8≠0 then some (Pn.put path p q)else none)=if(Pn.put path p q).wd ws 8≠0 then some (Pn.put path p q)else none:=by simp[hq]
   rw[hv];generalize Pn.put path p q=z at *
   rw[aD rfl Tryz.func26 rfl rfl];by_cases hz:z.wd ws 8=0
   ·rw[hz]at c4;simp only[hq,hz,ne_eq,not_true_eq_false,if_false,Option.getD,Option.isSome,Option.bind,OZ,aV,Pn.aA p,Pn.aA a,Pn.aA q,Pn.aA z]at c1 c2 c3 c4 ⊢;simp[c1,c2,c3,c4]
   ·simp only[hq,hz,ne_eq,not_false_eq_true,if_true,Option.getD,Option.isSome,Option.bind,OZ,Pn.aA p,Pn.aA a,Pn.aA q,Pn.aA z]at c1 c2 c3 c4 ⊢;simp[c1,c2,c3,c4,hz]
end Go.Proofs.YtgiepjdnkonkgaaGreat.P
namespace Go.Av
def QH (l:List (List Int)):List (List IV):=l.map fun p=>[.isl (aF p)]
@[simp] theorem ARK (l:List (List Int)):(QH l).length=l.length:=by simp[QH]
theorem Y1 (a b:List (List Int)):QH (a++b)=QH a++QH b:=by simp[QH]
@[simp] theorem AX1 (n:Nat) (l:List (List Int)):(QH l).take n=QH (l.take n):=by simp[QH,zE4]
theorem ALQ (p:List Int):QH [p]=[[.isl (aF p)]]:=rfl
theorem ALR {l:List (List Int)} {i:Nat} {p:List Int} (h:l[i]?=some p):fT (QH l) i=some [.isl (aF p)]:=by
 rw[fA];simp[QH,h]
theorem wT (path:List Int):∀ (l m:List Pn) (i:Nat),eG path i (l++m)=eG path i l++eG path (i+l.length) m
 | [],m,i=>by simp[eG]
 | a::l,m,i=>by simp only[yV,eG,wT path l m (i+1),yZ,zP];congr 3;omega
theorem UV (path:List Int) {l:List Pn} {i:Nat} {a:Pn} (h:l[i]?=some a):eG path 0 (l.take (i+1))=eG path 0 (l.take i)++oZ (path++[(i:Int)]) a:=by
 have hl:(l.take i).length=i:=by have:=(zZ.1 h).1;simp;omega
 rw[aN h,wT,hl];simp[eG]
mutual
theorem OL:∀ (p:Pn) (path:List Int),(oZ path p).length=p.size
 | .mk _ _ _ _ ks,path=>by simp only[oZ,Pn.size,zP,AQ ks path 0];omega
theorem AQ:∀ (l:List Pn) (path:List Int) (i:Nat),(eG path i l).length=Pn.aL l
 | [],_,_=>by simp[eG,Pn.aL]
 | a::l,path,i=>by simp only[eG,Pn.aL,zL,OL a,AQ l]
end
end Go.Av
namespace Go.Proofs.YtgiepjdnkonkgaaGreat.P
open Go Go.Av
set_option maxRecDepth 4000
set_option maxHeartbeats 4000000
def ADX (p:Pn) (path:List Int) (L:List (List Int)) (i:Nat):AS :=
 { env:=[(0, .osl 2 1 0 (L++path::eG path 0 (p.kids.take i)).length),(1, .i (.agg [.int p.kind, .int p.table, .isl (Ex.aB p.exprs), .isl (aF p.cols), .isl (Pn.aB p.kids)])),(2, .osl 1 1 0 path.length),(4, .own 3 0),(6, .nils),(7, .int i),(18,jk i (.bool true))],
   st:=[none,some (.arr 1 (aF path)),some (.arr 1 (QH (L++path::eG path 0 (p.kids.take i)))),EO p] }
theorem ZN:∀ (p:Pn) (path:List Int) (L:List (List Int)),p.thin→path.length+p.size<1000000→L.length+p.size<1000000→aH C0 51 [.osl 0 1 0 L.length, .i (.agg p.cells), .osl 1 1 0 path.length] [some (.arr 1 (QH L)),some (.arr 1 (aF path))]=some (.osl 2 1 0 (L++oZ path p).length,[none,some (.arr 1 (aF path)),some (.arr 1 (QH (L++oZ path p)))]):=by
 intro p
 induction p using Pn.ind with
 | h k t es cs ks ih =>
  intro path L ht hp hL;generalize hpe:Pn.mk k t es cs ks=p at *
  have hks:ks=p.kids:=by rw[← hpe];rfl
  subst hks;have hkt:=((Pn.bM p).1 ht).2.2.2.2;have hsz:=Pn.size_eq p;have hkl:=Pn.bN p.kids;have htp:path.take path.length=path:=zY (by simp);have htL:L.take L.length=L:=zY (by simp);have hl1:path.length*8≤140737488355328:=by omega
  have hl2:(L.length+1)*24≤140737488355328:=by omega
  have hl3:(L.length+1)*32≤140737488355328:=by omega
  rw[aD rfl Tryz.func51 rfl rfl,KQ];simp only[Pn.aA p];simp[htp,htL,hl1,hl2,hl3];rw[aS (ADX p path L) p.kids.length (by simp[ADX,EO,eG,Y1,ALQ])]
  ·rw[aG];simp[ADX,EO]
  ·intro i hi;have h3:=zX hi;have hm:=zU h3;have r2:=Pn.aO h3;have hsn:=UV path h3;have htk:=aN h3;generalize p.kids[i]=a at h3 hm r2 hsn htk
   have hle:Pn.aL (p.kids.take i)+a.size≤Pn.aL p.kids:=by
    have h:=Pn.uC (p.kids.take (i+1)) (p.kids.drop (i+1));rw[xV,htk,Pn.uC]at h;simp only[Pn.aL]at h;omega
   have hpn:=AQ (p.kids.take i) path 0;have w2:IntKind.i64.wrap ((i:Int)+1)=i+1:=wrO;have hk:=ih a hm (path++[(i:Int)]) (L++path::eG path 0 (p.kids.take i)) (hkt a hm) (by simp;omega) (by simp;omega);rw[Pn.aA a]at r2 hk;have hpi:aF (path++[(i:Int)])=aF path++[[.int i]]:=lD path i;have ht1:List.take (path.length+1) (aF path++[[.int (i:Int)]])=aF path++[[.int i]]:=zY (by simp);have hl4:(path.length+1)*8≤140737488355328:=by omega
   rw[hpi]at hk;generalize oZ (path++[(i:Int)]) a=S at hk hsn;simp only[yZ,yV]at hk;simp at hk;simp[ADX,EO,hi,r2,w2,hk,hsn,aF,htp,hl1,hl4,ht1]
def okA (ws:List Int) (p:Pn) (path:List Int) (r:Int):Bool:=(apS ws r path p).isSome
def NS (ws:List Int) (p:Pn) (path:List Int) (i:Nat):List Stp:=((rules.take i).filter (okA ws p path)).map fun r=>(r,path)
theorem WZ {ws path:List Int} {p:Pn} {i:Nat} (h:i<11):NS ws p path (i+1)=NS ws p path i++if okA ws p path ((i:Int)+1)=true then [((i:Int)+1,path)]else []:=by
 have h1:rules[i]?=some ((i:Int)+1):=by
  have:i=0∨i=1∨i=2∨i=3∨i=4∨i=5∨i=6∨i=7∨i=8∨i=9∨i=10:=by omega
  rcases this with rfl|rfl|rfl|rfl|rfl|rfl|rfl|rfl|rfl|rfl|rfl<;>rfl
 unfold NS;rw[aN h1,List.filter_append,yB];congr 1;simp only[List.filter];split<;>rename_i h2<;>simp[h2]
theorem SN (ws path:List Int) (p:Pn) (i:Nat):(NS ws p path i).length≤11:=by
 unfold NS;rw[zB1];refine xX (List.length_filter_le _ _) ?_;simp[rules];omega
theorem AJO (ws path:List Int) (p:Pn):atS ws p path=NS ws p path 11:=rfl
def SB (r:Int) (path:List Int):StL:=[some (.box [.int r, .osl 4 1 0 path.length]),some (.frz 1 (aF path))]
def VD (P:List (List Int)) (i:Nat):List Int:=(P[i-1]?).getD []
def sQ (ws:List Int) (p:Pn) (P:List (List Int)) (i:Nat):List Stp:=(P.take i).flatMap (atS ws p)
theorem WW (ws:List Int) (p:Pn) (P:List (List Int)):sQ ws p P 0=[]:=rfl
theorem AO2 (ws:List Int) (p:Pn) (P:List (List Int)):sQ ws p P P.length=P.flatMap (atS ws p):=by unfold sQ;rw[zY (zO _)]
def SOX (p:Pn) (ws:List Int) (P:List (List Int)) (i:Nat):AS :=
 { env:=[(0, .i (.agg [.int p.kind, .int p.table, .isl (Ex.aB p.exprs), .isl (aF p.cols), .isl (Pn.aB p.kids)])),(1, .i (.isl (aF ws))),(2, .own 0 0),(4, .nils),(5, .osl 1 2 0 (sQ ws p P i).length),(6, .osl 2 1 0 P.length),(7, .int i),(8,jk i (.int 12)),(9,if i=0 then .junk else .own 3 0),(11,jk i (.bool (okA ws p (VD P i) 11))),(20,jk i (.bool true)),(24,jk i (.bool false)),(42,jk i (.bool (okA ws p (VD P i) 11)))],
   st:=EO p::some (.arr 2 (lV (sQ ws p P i)))::some (.arr 1 (QH P))::(if i=0 then []else SB 11 (VD P i)) }
def SIX (p:Pn) (ws:List Int) (P:List (List Int)) (path:List Int) (i j:Nat):AS :=
 { env:=[(0, .i (.agg [.int p.kind, .int p.table, .isl (Ex.aB p.exprs), .isl (aF p.cols), .isl (Pn.aB p.kids)])),(1, .i (.isl (aF ws))),(2, .own 0 0),(4, .nils),(5, .osl 1 2 0 (sQ ws p P i++NS ws p path j).length),(6, .osl 2 1 0 P.length),(7, .int i),(8, .int ((j:Int)+1)),(9,if i+j=0 then .junk else .own 3 0),(11,if j=0 then jk i (.bool (okA ws p (VD P i) 11))else .bool (okA ws p path j)),(20, .bool true),(24,if j=0 then jk i (.bool false)else .bool true),(42,if j=0 then jk i (.bool (okA ws p (VD P i) 11))else .bool (okA ws p path j))],
   st:=EO p::some (.arr 2 (lV (sQ ws p P i++NS ws p path j)))::some (.arr 1 (QH P))::(if j=0 then(if i=0 then []else SB 11 (VD P i))else SB j path) }
theorem U3 {ws:List Int} (hw:kH ws=true) {p:Pn} (hp:p.wd ws 8≠0):aH C0 25 [.i (.agg p.cells), .i (.isl (aF ws))] []=some (.i (.isl (lV (stS ws p))),[]):=by
 have ht:=dJ p 8 hp;have hsz:=(Pn.tY p 8 hp).2;have c1:=ZN p [] [] ht (by simp;omega) (by simp;omega);have hpl:=OL p []
 have hP:∀ path∈oZ [] p,path.length≤8:=by
  intro path hm;obtain⟨r,hr,hs⟩:=(OJ p [] path).1 hm;rw[yO]at hr;subst hr
  cases ha:Pn.at path p with
  | none=>rw[ha]at hs;cases hs
  | some a=>exact(NR path p 8 a hp ha).1
 unfold stS;generalize oZ [] p=P at *
 have hlen:∀ l:List (List Int),(l.flatMap (atS ws p)).length≤11*l.length:=by
  intro l
  induction l with
  | nil=>simp
  | cons x l ih=>have:=SN ws x p 11;rw[← AJO]at this;simp only[List.flatMap_cons,zL,zP];omega
 rw[aD rfl Tryz.func25 rfl rfl];simp only[Pn.aA p]at c1 ⊢;simp[QH,aF]at c1;simp[c1];rw[aS (SOX p ws P) P.length (by simp[SOX,EO,lV,QH,WW])]
 ·rw[aG];have ht1:(sQ ws p P P.length).take (sQ ws p P P.length).length=sQ ws p P P.length:=zY (zO _);rw[← AO2 ws p P];by_cases h0:P.length=0
  ·simp[SOX,EO,h0,WW,lV]
  ·simp[SOX,EO,SB,h0,bT h0,ht1]
 ·intro i hi;have q1:=zX hi;have hm:=zU q1;generalize P[i]=path at q1 hm;have r1:=ALR q1;have htk:=aN q1;have hp8:=hP path hm;have hac:(sQ ws p P i).length≤11*i:=by have:=hlen (P.take i);unfold sQ;have:(P.take i).length≤i:=(by simp;omega);omega
  have w2:IntKind.i64.wrap ((i:Int)+1)=i+1:=wrO;have hlast:VD P (i+1)=path:=by simp[VD,q1]
  have hfl:sQ ws p P (i+1)=sQ ws p P i++NS ws p path 11:=by unfold sQ;rw[htk];simp[AJO]
  by_cases h0:i=0
  ·subst h0;have hi0:0<P.length:=hi;simp at w2 hlast hfl;simp[SOX,EO,SB,hi0];rw[aS (SIX p ws P path 0) 11 (by simp[SIX,EO,SB,NS])]
   ·rw[aG];simp[SIX,EO,SB,w2,hlast,hfl]
   ·intro j hj;have hs:=WZ (ws:=ws) (path:=path) (p:=p) hj;have hlj:=SN ws path p j;have w3:IntKind.i64.wrap ((j:Int)+1+1)=j+1+1:=wrO;have hj11:(j:Int)+1≤11:=by omega
    have c2:=uZ hw hp ((j:Int)+1) (path:=path) (by omega);have htp:path.take path.length=path:=zY (by simp);have hl1:path.length*8≤140737488355328:=by omega
    rw[Pn.aA p]at c2;have hok:okA ws p path ((j:Int)+1)=(apS ws ((j:Int)+1) path p).isSome:=rfl;rw[← hok]at c2
    cases hb:okA ws p path ((j:Int)+1)with
    | false =>
     rw[hb]at hs c2;simp at hs;by_cases j0:j=0
     ·subst j0;simp at c2 hb hs;simp[SIX,EO,SB,hi0,r1,hs,hj11,c2,hb,htp,hl1]
     ·simp[SIX,EO,SB,j0,hi0,r1,w3,hs,hj11,c2,hb,htp,hl1]
    | true =>
     rw[hb]at hs c2;simp at hs;have hl2:((sQ ws p P 0).length+(NS ws p path j).length+1)*32≤140737488355328:=by omega
     have ht3:(sQ ws p P 0).take ((sQ ws p P 0).length+(NS ws p path j).length)=sQ ws p P 0:=zY (by omega);have ht4:(NS ws p path j).take (NS ws p path j).length=NS ws p path j:=zY (by omega);by_cases j0:j=0
     ·subst j0;simp at c2 hb hs hl2;simp[SIX,EO,SB,hi0,r1,hs,hj11,c2,hb,htp,hl1,hl2];exact⟨by omega,by rw[zY (by simp)];simp[lV,AON]⟩
     ·simp[SIX,EO,SB,j0,hi0,r1,w3,hs,hj11,c2,hb,htp,hl1,hl2];exact⟨by omega,by rw[zY (by simp)];simp[lV,AON]⟩
  ·simp[SOX,EO,SB,h0,bT h0,hi];rw[aS (SIX p ws P path i) 11 (by simp[SIX,EO,SB,h0,bT h0,NS])]
   ·rw[aG];simp[SIX,EO,SB,h0,bT h0,w2,hlast,hfl]
   ·intro j hj;have hs:=WZ (ws:=ws) (path:=path) (p:=p) hj;have hlj:=SN ws path p j;have w3:IntKind.i64.wrap ((j:Int)+1+1)=j+1+1:=wrO;have hj11:(j:Int)+1≤11:=by omega
    have c2:=uZ hw hp ((j:Int)+1) (path:=path) (by omega);have htp:path.take path.length=path:=zY (by simp);have hl1:path.length*8≤140737488355328:=by omega
    rw[Pn.aA p]at c2;have hok:okA ws p path ((j:Int)+1)=(apS ws ((j:Int)+1) path p).isSome:=rfl;rw[← hok]at c2
    cases hb:okA ws p path ((j:Int)+1)with
    | false =>
     rw[hb]at hs c2;simp at hs;by_cases j0:j=0
     ·subst j0;simp at c2 hb hs;simp[SIX,EO,SB,h0,bT h0,hi,r1,hs,hj11,c2,hb,htp,hl1]
     ·simp[SIX,EO,SB,h0,bT h0,j0,hi,r1,w3,hs,hj11,c2,hb,htp,hl1]
    | true =>
     rw[hb]at hs c2;simp at hs;have hl2:((sQ ws p P i).length+(NS ws p path j).length+1)*32≤140737488355328:=by omega
     have ht3:(sQ ws p P i).take ((sQ ws p P i).length+(NS ws p path j).length)=sQ ws p P i:=zY (by omega);have ht4:(NS ws p path j).take (NS ws p path j).length=NS ws p path j:=zY (by omega);by_cases j0:j=0
     ·subst j0;simp at c2 hb hs hl2;simp[SIX,EO,SB,h0,bT h0,hi,r1,hs,hj11,c2,hb,htp,hl1,hl2];exact⟨by omega,by rw[zY (by simp)];simp[lV,AON]⟩
     ·simp[SIX,EO,SB,h0,bT h0,j0,hi,r1,w3,hs,hj11,c2,hb,htp,hl1,hl2];exact⟨by omega,by rw[zY (by simp)];simp[lV,AON]⟩
end Go.Proofs.YtgiepjdnkonkgaaGreat.P
namespace Go.Proofs.YtgiepjdnkonkgaaGreat
open Go Go.Av
set_option maxRecDepth 4000
noncomputable def Ab6:FuncId→Option (List AV→StL→Option (AV×StL))
 | 1000000007=>none
 | 55=>some (AbM (aH C0) 55)
 | 23=>some (APK (aH C0) 23)
 | g=>some (aH C0 g)
def AcH:FuncId→Bool
 | 55=>true
 | g=>bU g
noncomputable def CP:Ctx:={ P:=Tryz.prog,G:=GS,ownArgs:=AcH,keepRes:=keepR,eqT:=ED,prim:=Ab6 }
@[simp] theorem AtA:CP.P=Tryz.prog:=(rfl)
@[simp] theorem AtB (f):CP.G f=GS f:=(rfl)
@[simp] theorem At7 (f):CP.ownArgs f=AcH f:=(rfl)
@[simp] theorem At8 (f):CP.keepRes f=keepR f:=(rfl)
@[simp] theorem At9 (f):CP.eqT f=ED f:=(rfl)
@[simp] theorem At6:CP.tree=false:=(rfl)
end Go.Proofs.YtgiepjdnkonkgaaGreat
namespace Go.Av
end Go.Av
namespace Go.Proofs.YtgiepjdnkonkgaaGreat.P
open Go Go.Av
set_option maxRecDepth 4000
set_option maxHeartbeats 4000000
theorem Z0 (p:Pn) (hp:p.thin):aH CP 23 [.i (.agg p.cells)] []=some (.i (.agg p.cells),[]):=by
 have h:=BL p hp;rw[aT (p:=APK (aH C0) 23) rfl];unfold APK;by_cases he:p.exprs=[]
 ·by_cases hk:p.kids=[]
  ·simp[pcX,pcS,hk,he,Pn.aB,Ex.aB]at h;simp[h];rw[Pn.aA];simp[hk,he,Pn.aB,Ex.aB]
  ·have hkl:p.kids.length≠0:=fun h=>hk (zW.1 h)
   simp[pcX,pcS,hk,he,aP hkl,aM hkl,Ex.aB]at h;simp[h];rw[Pn.aA];simp[hk,he,Ex.aB]
 ·have hel:p.exprs.length≠0:=fun h=>he (zW.1 h)
  by_cases hk:p.kids=[]
  ·simp[pcX,pcS,hk,he,aP hel,aM hel,Pn.aB]at h;simp[h];rw[Pn.aA];simp[hk,he,Pn.aB]
  ·have hkl:p.kids.length≠0:=fun h=>hk (zW.1 h)
   simp[pcX,pcS,hk,he,aP hel,aM hel,aP hkl,aM hkl]at h;simp[h];rw[Pn.aA]
@[simp] theorem iP:∀ l:List Int,fM (aF l)=true
  | []=>by simp[aF,fM]
  | x::l=>by simp[aF,fM,mJ,jM,iP l]
end Go.Proofs.YtgiepjdnkonkgaaGreat.P
namespace Go.Av
def jkL (i:Nat) (l:StL):StL:=if i=0 then []else l
@[simp] theorem AhG (l:StL):jkL 0 l=[]:=(rfl)
@[simp] theorem AZR (i:Nat) (l:StL):jkL (i+1) l=l:=(rfl)
theorem FT {i:Nat} (h:i≠0) (l:StL):jkL i l=l:=by unfold jkL;rw[if_neg h]
def jA (i:Nat) (v:AV):AV:=if i=0 then .junk else v
@[simp] theorem Ap4 (v:AV):jA 0 v=.junk:=(rfl)
@[simp] theorem AbO (i:Nat) (v:AV):jA (i+1) v=v:=(rfl)
theorem OU {i:Nat} (h:i≠0) (v:AV):jA i v=v:=by unfold jA;rw[if_neg h]
def AZS (sts:List Sts) (p:Pn):AV×StL :=
 if J6 sts p=true then(.tup [.i (.agg (X8 sts p (stI (stW sts) [] p)).p.cells), .i (.agg [.int (X8 sts p (stI (stW sts) [] p)).s.1, .isl (aF (X8 sts p (stI (stW sts) [] p)).s.2)])],[])
 else(.tup [.i (.agg Pn.zero.cells), .i (.agg [.int 0, .isl []])],[])
end Go.Av
namespace Go.Proofs.YtgiepjdnkonkgaaGreat.P
open Go Go.Av
set_option maxRecDepth 4000
set_option maxHeartbeats 16000000
noncomputable def ARS:FuncId→Option (List AV→StL→Option (AV×StL))
 | 1000000007=>none
 | 6=>none
 | 23=>some (APK (aH C0) 23)
 | g=>some (aH C0 g)
noncomputable def CIe:Ctx:={ P:=Tryz.prog,G:=GS,ownArgs:=bU,keepRes:=keepR,eqT:=ED,prim:=ARS }
@[simp] theorem AjY:CIe.P=Tryz.prog:=(rfl)
@[simp] theorem AjZ (f):CIe.G f=GS f:=(rfl)
@[simp] theorem AjV (f):CIe.ownArgs f=bU f:=(rfl)
@[simp] theorem AjW (f):CIe.keepRes f=keepR f:=(rfl)
@[simp] theorem AjX (f):CIe.eqT f=ED f:=(rfl)
@[simp] theorem AjU:CIe.tree=false:=(rfl)
theorem AX7:PrimOk CIe:=by
 have h0:=aY dG
 have key:∀ g q,CIe.prim g=some q→(g=23∧q=APK (aH C0) 23)∨(g≠oG∧q=aH C0 g):=by
  intro g q h;have h:ARS g=some q:=h;unfold ARS at h;split at h
  ·cases h
  ·cases h
  ·injection h with h;exact .inl ⟨rfl,h.symm⟩
  ·rename_i hy _ _;injection h with h;exact .inr ⟨hy,h.symm⟩
 constructor
 ·intro g args st p h;unfold bV at h
  cases hq:CIe.prim g with
  | none=>rw[hq]at h;cases h
  | some q =>
   rw[hq]at h
   rcases key g q hq with ⟨rfl,rfl⟩|⟨hy,rfl⟩
   ·exact(P5 h0 (r:=p.1) (stl':=p.2) h (by decide)).1
   ·exact h0.name g args st p hy h
 ·intro g args st r st' h w m φ vs hi hr hb;unfold bV at h
  cases hq:CIe.prim g with
  | none=>rw[hq]at h;cases h
  | some q =>
   rw[hq]at h
   rcases key g q hq with ⟨rfl,rfl⟩|⟨hy,rfl⟩
   ·exact(P5 h0 h (by decide)).2 w m φ vs hi hr hb
   ·exact h0.calls g args st r st' hy h w m φ vs hi hr hb
theorem AR3:SoundOk CIe:=iU (C:=CIe) ft nt eqS mo AX7
@[simp] theorem AUR (a:List AV) (st:StL):aH CIe 22 a st=aH C0 22 a st:=by rw[aT (p:=aH C0 22) rfl]
@[simp] theorem AYH (a:List AV) (st:StL):aH CIe 24 a st=aH C0 24 a st:=by rw[aT (p:=aH C0 24) rfl]
@[simp] theorem ANI (a:List AV) (st:StL):aH CIe 25 a st=aH C0 25 a st:=by rw[aT (p:=aH C0 25) rfl]
@[simp] theorem AUS (a:List AV) (st:StL):aH CIe 26 a st=aH C0 26 a st:=by rw[aT (p:=aH C0 26) rfl]
theorem WF {p:Pn} (hp:p.thin):aH CIe 23 [.i (.agg p.cells)] []=some (.i (.agg p.cells),[]):=by
 have:=Z0 p hp;rw[aT (p:=APK (aH C0) 23) rfl]at this ⊢;exact this
theorem vS {ws:List Int} (h:kH ws=true):∀ w∈ws,0≤w∧w≤6:=by
 intro w hw;unfold kH at h;simp only[zT]at h;have:=zQ.1 h.2 w hw;unfold bH at this;simp at this;omega
theorem ACJ {p:Pn} {ws:List Int}:∀ s∈AG3 p ws,s.2.length≤8:=by
 intro s hs;unfold AG3 at hs;split at hs
 ·simp at hs
 ·rename_i h0;obtain⟨hw,hp,_⟩:=fU h0;rw[F7 (vS hw) hp]at hs
  have:=(AQ1 (ws:=ws) (rule:=s.1) (path:=s.2) (p:=p) (q:=((apS ws s.1 s.2 p).getD p)) (by
   have:=AG8.1 hs
   cases h:apS ws s.1 s.2 p with
   | none=>rw[h]at this;cases this
   | some q=>rfl)).2
  cases ha:Pn.at s.2 p with
  | none=>rw[ha]at this;cases this
  | some a=>exact(NR s.2 p 8 a hp ha).1
theorem EL {p q:Pn} {ws:List Int} {r:Int} {path:List Int} (h:apO p ws r path=some q):q.thin∧p.width ws≠0∧q.width ws=p.width ws:=by
 unfold apO at h;by_cases h0:p.width ws=0
 ·rw[if_pos h0]at h;cases h
 ·rw[if_neg h0]at h;obtain⟨hw,hp8,hv⟩:=fU h0;rw[ANW (vS hw) hp8]at h;have:=AYR (vS hw) hp8 h;exact⟨dJ q 8 (by rw[this];exact hp8),h0,by unfold Pn.width;rw[if_pos hw,if_pos hw];exact this⟩
theorem AIV {sts:List Sts} {p q:Pn} {r:Int} {path:List Int} (hs:∀ s∈sts,s.ok=true) (hq:apO p (stW sts) r path=some q):AN9 sts q=q.cst sts:=by
 obtain⟨_,h2,h3⟩:=EL hq;unfold AN9;rw[if_pos (rD.2 ⟨hs,by rw[h3];exact h2⟩)]
def IWX (p:Pn) (sts:List Sts) (i:Nat):AS :=
 { env:=[(0, .i (.agg [.int p.kind, .int p.table, .isl (Ex.aB p.exprs), .isl (aF p.cols), .isl (Pn.aB p.kids)])),(1, .i (.isl (gM sts))),(2, .own 0 0),(4, .own 1 0),(5, .own 2 0),(6, .osl 3 1 0 i),(7, .int i),(8, .junk),(9, .junk),(10, .junk),(11, .junk),(12, .junk),(13, .junk),(15, .junk),(19, .bool false),(26,jk i (.bool true)),(50, .junk),(68, .junk)],
   st:=[some (.box [.int p.kind, .int p.table, .i (.isl (Ex.aB p.exprs)), .i (.isl (aF p.cols)), .i (.isl (Pn.aB p.kids))]),some (.box [.int 0, .int 0, .nils, .nils, .nils]),some (.box [.int 0, .nils]),some (.arr 1 (aF ((stW sts).take i)))] }
def qI (sts:List Sts) (p:Pn) (L:List Stp) (i:Nat):Pn:=(apO p (stW sts) ((L[i]?).getD (0,[])).1 ((L[i]?).getD (0,[])).2).getD Pn.zero
def xI (sts:List Sts) (p:Pn) (L:List Stp) (i:Nat):Bst×Bool:=(L.take i).foldl (fI sts (stW sts) p) (⟨p,(0,[]),p.cst sts⟩,false)
def sB (x:Bst×Bool):AV:=if x.2=true then .i (.isl (aF x.1.s.2))else .nils
def ILX (p:Pn) (sts:List Sts) (L:List Stp) (i:Nat):AS :=
 { env:=[(0, .i (.agg [.int p.kind, .int p.table, .isl (Ex.aB p.exprs), .isl (aF p.cols), .isl (Pn.aB p.kids)])),(1, .i (.isl (gM sts))),(2, .own 0 0),(4, .own 1 0),(5, .own 2 0),(6, .osl 3 1 0 sts.length),(7, .int sts.length),(8, .own 4 0),(9, .own 5 0),(10, .int (xI sts p L i).1.c),(11, .i (.isl (lV L))),(12, .int i),(13,jA i (.own 6 0)),(15,jk i (.int ((qI sts p L (i-1)).cst sts))),(19, .bool false),(26, .bool false),(50,jk i (.bool true)),(68,jk i (.bool (YL sts (stW sts) p (xI sts p L (i-1)).1 ((L[i-1]?).getD (0,[])))))],
   st:=[some (.box [.int p.kind, .int p.table, .i (.isl (Ex.aB p.exprs)), .i (.isl (aF p.cols)), .i (.isl (Pn.aB p.kids))]),some (.box [.int 0, .int 0, .nils, .nils, .nils]),some (.box [.int 0, .nils]),some (.frz 1 (aF (stW sts))),
    some (.box [.int (xI sts p L i).1.p.kind, .int (xI sts p L i).1.p.table, .i (.isl (Ex.aB (xI sts p L i).1.p.exprs)), .i (.isl (aF (xI sts p L i).1.p.cols)), .i (.isl (Pn.aB (xI sts p L i).1.p.kids))]),some (.box [.int (xI sts p L i).1.s.1,sB (xI sts p L i)])]++jkL i [some (.box [.int (qI sts p L (i-1)).kind, .int (qI sts p L (i-1)).table, .i (.isl (Ex.aB (qI sts p L (i-1)).exprs)), .i (.isl (aF (qI sts p L (i-1)).cols)), .i (.isl (Pn.aB (qI sts p L (i-1)).kids))])] }
theorem AQQ {p:Pn} {ws:List Int} {s:Stp} (hw:kH ws=true) (hp8:p.wd ws 8≠0) (h0:p.width ws≠0) (h:s∈stI ws [] p):∃ q,apO p ws s.1 s.2=some q∧apS ws s.1 s.2 p=some q∧s.2.length≤8:=by
 have h8:s.2.length≤8:=ACJ (p:=p) (ws:=ws) s (by unfold AG3;rw[if_neg h0];exact h);rw[F7 (vS hw) hp8,AG8]at h;obtain⟨q,hq⟩:=xD.1 h;exact⟨q,by unfold apO;rw[if_neg h0,ANW (vS hw) hp8];exact hq,hq,h8⟩
theorem UF (p:Pn) (hp:p.thin) (sts:List Sts) (hl:sts.length<2000000) (hd:∀ s∈sts,s.d.length<1000000000∧s.n.length<1000000000):aH CIe 6 [.i (.agg p.cells), .i (.isl (gM sts))] []=some (AZS sts p):=by
 have c1:=F5 p hp sts hl hd;unfold AZS
 cases hq:J6 sts p with
 | false =>
  rw[hq]at c1;rw[aD rfl Tryz.func6 rfl rfl];simp only[Pn.aA p]at c1 ⊢;simp[c1,Pn.zero,Pn.cells,Ex.aB,aF,Pn.aB]
 | true =>
  obtain⟨hs,hw0⟩:=rD.1 hq;obtain⟨hws,hp8,hpw⟩:=fU hw0;have hsz:=(Pn.tY p 8 hp8).2;have c2:=WF hp;have c3:=sZ hs p 8 hp8 (by omega);have c4:=U3 hws hp8;rw[← F7 (vS hws) hp8]at c4;rw[hq]at c1;rw[aD rfl Tryz.func6 rfl rfl];simp only[Pn.aA p]at c1 c2 c3 c4 ⊢;simp[c1];rw[aS (IWX p sts) sts.length (by simp[IWX,aF])]
  ·rw[aG];have e1:(stW sts).take sts.length=stW sts:=zY (by rw[jZ];omega);have hle:sts.length≤(stW sts).length:=by rw[jZ];omega
   have hz:sts.length≠0:=by
    intro h;have hs0:sts=[]:=zW.1 h;subst hs0;simp[stW,kH]at hws
   have htk:(aF (stW sts)).take sts.length=aF (stW sts):=zY (by simp[jZ]);have hmem:∀ s∈stI (stW sts) [] p,∃ q,apO p (stW sts) s.1 s.2=some q∧apS (stW sts) s.1 s.2 p=some q∧s.2.length≤8:=fun s h=>AQQ hws hp8 hw0 h
   have hll:=AQR (stW sts) p [];unfold X8;rw[← APM sts (stW sts) p _ _ false];simp[IWX,e1,hle,hz,htk,bT hz,c2,c3,c4];generalize hL:stI (stW sts) [] p=L at hmem hll;clear c1 c2 c3 c4;rw[aS (ILX p sts L) L.length (by simp[ILX,xI,sB])]
   ·rw[aG];have hx:xI sts p L L.length=L.foldl (fI sts (stW sts) p) (⟨p,(0,[]),p.cst sts⟩,false):=by unfold xI;rw[zC1]
    simp only[ILX,hx];have hcs:=AB6 sts (stW sts) p L ⟨p,(0,[]),p.cst sts⟩ (P:=fun _=>True) (fun _ _=>trivial);generalize L.foldl (fI sts (stW sts) p) (⟨p,(0,[]),p.cst sts⟩,false)=x at hcs ⊢;by_cases hz2:L.length=0
    ·rcases hcs with rfl|⟨b',rfl,-⟩
     ·simp[hz2,sB,Pn.aA p,aF]
     ·simp[hz2,sB,Pn.aA b'.p]
    ·rcases hcs with rfl|⟨b',rfl,-⟩
     ·simp[hz2,bT hz2,FT hz2,OU hz2,sB,Pn.aA p,aF]
     ·simp[hz2,bT hz2,FT hz2,OU hz2,sB,Pn.aA b'.p]
   ·intro i hi
    obtain⟨s,hsx⟩:∃ s,L[i]?=some s:=⟨_,zX hi⟩
    have hg:=(zZ.1 hsx).2;obtain⟨q,hq1,hq2,hq3⟩:=hmem s (zU hsx);have r1:=AG2 hsx;simp only[AON]at r1;have c5:=uZ hws hp8 s.1 (path:=s.2) (by omega);rw[hq2]at c5;simp only[OZ,yP]at c5;obtain⟨t1,t2,t3⟩:=EL hq1;have hq0:q.width (stW sts)≠0:=by rw[t3];exact t2
    obtain⟨-,hq8,-⟩:=fU hq0;have hqz:=(Pn.tY q 8 hq8).2;have c6:=sZ hs q 8 hq8 (by omega);rw[Pn.aA q]at c6;rw[Pn.aA p,Pn.aA q]at c5;simp at c5;have w3:IntKind.i64.wrap ((i:Int)+1)=i+1:=wrO;have hq4:qI sts p L i=q:=by unfold qI;rw[hsx];simp only[yP];rw[hq1];rfl
    have hx1:xI sts p L (i+1)=fI sts (stW sts) p (xI sts p L i) s:=by unfold xI;rw[aN hsx,xB];rfl
    have hgd:(L[i]?).getD (0,[])=s:=by rw[hsx];rfl
    simp only[ILX,hx1,Nat.add_sub_cancel,hq4,hgd];generalize xI sts p L i=x;obtain⟨b,cb⟩:=x;simp only;have hid:YL sts (stW sts) p b s=decide (q.cst sts<b.c):=by unfold YL;rw[hq1]
    have him:BX sts (stW sts) p b s=if q.cst sts<b.c then⟨q,s,q.cst sts⟩else b:=by unfold BX;rw[hq1]
    simp only[fI,hid,him];by_cases hlt:q.cst sts<b.c
    ·cases cb<;>by_cases hi0:i=0
     ·subst hi0;simp[sB,hle,e1,hi,r1,c5,c6,hlt,dA,hsx,hg]
     ·simp[sB,hle,e1,hi,r1,c5,c6,hlt,w3,hi0,bT hi0,FT hi0,OU hi0,hsx,hg]
     ·subst hi0;simp[sB,hle,e1,hi,r1,c5,c6,hlt,dA,hsx,hg]
     ·simp[sB,hle,e1,hi,r1,c5,c6,hlt,w3,hi0,bT hi0,FT hi0,OU hi0,hsx,hg]
    ·cases cb<;>by_cases hi0:i=0
     ·subst hi0;simp[sB,hle,e1,hi,r1,c5,c6,hlt,dA,hsx,hg]
     ·simp[sB,hle,e1,hi,r1,c5,c6,hlt,w3,hi0,bT hi0,FT hi0,OU hi0,hsx,hg]
     ·subst hi0;simp[sB,hle,e1,hi,r1,c5,c6,hlt,dA,hsx,hg]
     ·simp[sB,hle,e1,hi,r1,c5,c6,hlt,w3,hi0,bT hi0,FT hi0,OU hi0,hsx,hg]
  ·intro i hi
   obtain⟨s,hsx⟩:∃ s,sts[i]?=some s:=⟨_,zX hi⟩
   have q:=gI hsx;have hw:(stW sts)[i]?=some (s.d.length:Int):=by simp[stW,hsx]
   have hT:=aN hw;have w3:IntKind.i64.wrap ((i:Int)+1)=i+1:=wrO;have hb:(i+1)*8≤140737488355328:=by omega
   have e1:((stW sts).take i).take i=(stW sts).take i:=by rw[zK,Nat.min_self]
   have hmin:min i (stW sts).length=i:=by rw[jZ];omega
   simp[IWX,hi,q,hT,w3,hb,e1,hmin,dX,aF]
end Go.Proofs.YtgiepjdnkonkgaaGreat.P
namespace Go.Av
section
variable {wi:World} {mi:Mem} {nt:Nat}
theorem GR.Ae5 {ok:Nat→Prop} {R:World→Mem→Pl→Prop} {env:Nat→AV} {st:Store} {a:Act} {w:World} {u bq oq:Nat} {cs:List IV} (h:GR wi mi nt ok R env st a w) (hu:env u=.i (.lit (.pointer (some ⟨bq,oq,none⟩)))) (hc:IAt mi bq oq cs):GR wi mi nt ok R (upd env u (.i (.iref cs))) st a w:=by
 refine h.turn fun m φ h1 h2 h3 h4 h5=>⟨m,φ,h1,fun t=>?_,h3,h4,h5⟩
 by_cases ht:t=u
 ·subst ht;have:=h2 t;rw[hu]at this;simp only[upd,if_true];rw[this.lit_eq];exact .i (.iref (hc.mono h3.mle))
 ·simp only[upd,ht,if_false];exact h2 t
end
theorem AtP.see {w:World} {m:Mem} {x:Pn} {b o:Nat} {F:List Nat} {path:List Int} {y:Pn} {bq oq:Nat} {Fa Fy Fz:List Nat} (h:AtP w m x b o F path y bq oq Fa Fy Fz):∃ v0 v1 v2 v3 ao cap,IAt (dR w) bq oq [.lit v0, .lit v1, .lit v2, .lit v3, .lit (.slice ao y.kids.length cap)]∧w.cell? ⟨bq,oq+4,none⟩=some (.slice ao y.kids.length cap):=by
 obtain⟨v0,v1,v2,v3,v4,h5,hone,⟨ao,cap,rfl⟩,_,_⟩:=h.th.cells;exact⟨v0,v1,v2,v3,ao,cap, .cons h5.c0 (.lit _) (hone _ (by simp)) (.cons h5.c1 (.lit _) (hone _ (by simp)) (.cons h5.c2 (.lit _) (hone _ (by simp)) (.cons h5.c3 (.lit _) (hone _ (by simp)) (.cons h5.c4 (.lit _) (hone _ (by simp)) (.nil _ _))))),h5.c4⟩
end Go.Av
namespace Go.Proofs.YtgiepjdnkonkgaaGreat.G
open Go Go.Av
set_option maxRecDepth 4000
set_option maxHeartbeats 4000000
def AEV (v0:AV) (path:List Int) (v6 v13 v26:AV) (i:Nat):List (Nat×AV):=[(0,v0),(1, .i (.isl (aF path))),(4, .i (.lit (.pointer none))),(6,v6),(9, .bool false),(10, .i (.isl (aF path))),(11, .int path.length),(12, .int i),(13,v13),(26,v26)]
theorem AYC (v0 v0':AV) (path:List Int) (v6 v13 v26:AV) (i:Nat):upd (aJ (AEV v0 path v6 v13 v26 i)) 0 v0'=aJ (AEV v0' path v6 v13 v26 i):=by
 funext t;simp only[upd,AEV,aJ];by_cases h0:t=0
 ·subst h0;simp
 ·simp only[h0,if_false]
theorem ANT {w:World} {m:Mem} {p y:Pn} {root:Nat} {F:List Nat} {path:List Int} (hth:TH w m p root 0 F []) (hr:root ∉ F) (hn:F.Nodup) (hy:Pn.at path p=some y) (hl:path.length≤8) {vs:List Value} (hvs:RepL (dR w) (fun _=>none) [.i (.lit (.pointer (some ⟨root,0,none⟩))), .i (.isl (aF path))] vs) :
 Calls Tryz.prog 65 vs.toArray w fun e w'=>∃ bq oq Fa Fy Fz m',e=.returned (.pointer (some ⟨bq,oq,none⟩))∧AtP w m p root 0 F path y bq oq Fa Fy Fz∧kR w' m'∧Adv w (dR w) (fun _=>none) w' m' (fun _=>none):=by
 refine calls_of_wp (fn:=Tryz.f65) Tryz.func65 rfl ?_;have hv1:vs.length=2:=by simpa using hvs.length.symm
 have g0:GR w (dR w) 35 (fun id=>id<({ env:=[(0, .i (.lit (.pointer (some ⟨root,0,none⟩)))),(1, .i (.isl (aF path)))],st:=[] }:AS).st.length) (fun _ _ _=>True) (aJ [(0, .i (.lit (.pointer (some ⟨root,0,none⟩)))),(1, .i (.isl (aF path)))]) (aR []) { tmps:=vs.toArray++Array.replicate (35-vs.toArray.size) undef,defers:=[] } w:=by
  refine⟨⟨dR w,fun _=>none,inv0 w,?_, .refl _ _ _,fun id h=>absurd rfl h,trivial⟩,by simp;omega,rfl⟩;intro t;have:=mG (m:=dR w) (φ:=fun _=>none) (35-vs.toArray.size) hvs t
  rcases t with _|_|t
  ·simpa [aJ,sN]using this
  ·simpa [aJ,sN]using this
  ·simp only[aJ];simp;exact .junk _
 refine wp_seq (wp_mono (GR.eF kD (G:=GS 65) (S:={ env:=[(0, .i (.lit (.pointer (some ⟨root,0,none⟩)))),(1, .i (.isl (aF path)))],st:=[] }) (e:=.normal) (S':={ env:=[(0, .i (.lit (.pointer (some ⟨root,0,none⟩)))),(1, .i (.isl (aF path))),(4, .i (.lit (.pointer none))),(6, .junk),(9, .junk),(10, .junk),(11, .junk),(12, .junk),(13, .junk),(26, .junk)],st:=[] }) kX (by kernel_rfl) (by simp) g0) ?_);rintro _ a1 w1 ⟨rfl,g1⟩;have hle:¬ (8:Int)<path.length:=by omega
 refine wp_seq (wp_mono (GR.eF kD (G:=GS 65) (S:={ env:=[(0, .i (.lit (.pointer (some ⟨root,0,none⟩)))),(1, .i (.isl (aF path))),(4, .i (.lit (.pointer none))),(6, .junk),(9, .junk),(10, .junk),(11, .junk),(12, .junk),(13, .junk),(26, .junk)],st:=[] }) (e:=.normal) (S':={ env:=[(0, .i (.lit (.pointer (some ⟨root,0,none⟩)))),(1, .i (.isl (aF path))),(4, .i (.lit (.pointer none))),(6, .junk),(9, .bool false),(10, .junk),(11, .junk),(12, .junk),(13, .junk),(26, .junk)],st:=[] }) kX (by kernel_rfl) (by simp[hle]) g1) ?_);rintro _ a2 w2 ⟨rfl,g2⟩;refine wp_seq (wp_seq (wp_mono (GR.eF kD (G:=GS 65) (S:={ env:=[(0, .i (.lit (.pointer (some ⟨root,0,none⟩)))),(1, .i (.isl (aF path))),(4, .i (.lit (.pointer none))),(6, .junk),(9, .bool false),(10, .junk),(11, .junk),(12, .junk),(13, .junk),(26, .junk)],st:=[] }) (e:=.normal) (S':={ env:=AEV (.i (.lit (.pointer (some ⟨root,0,none⟩)))) path .junk .junk .junk 0,st:=[] }) kX (by kernel_rfl) (by simp[AEV]) g2) ?_));rintro _ a3 w3 ⟨rfl,g3⟩;clear g0 g1 g2;refine wp_block ?_;refine tX (fun n a w'=>∃ (i:Nat) (z:Pn) (bq oq:Nat) (Fa Fy Fz:List Nat),n=path.length-i∧i≤path.length∧AtP w m p root 0 F (path.take i) z bq oq Fa Fy Fz∧GR w (dR w) 35 (fun id=>id<0) (fun _ _ _=>True) (aJ (AEV (.i (.lit (.pointer (some ⟨bq,oq,none⟩)))) path .junk .junk .junk i)) (aR []) a w') ?_ (n:=path.length) ⟨0,p,root,0,[],F,[],by omega,by omega,by simpa using AtP.start hth hr hn,g3⟩;clear g3;rintro n a w' ⟨i,z,bq,oq,Fa,Fy,Fz,rfl,hi,hat,g⟩;by_cases hi2:i=path.length
 ·subst hi2;rw[zC1]at hat;have hz:z=y:=by have:=hat.is;rw[hy]at this;injection this with this;exact this.symm
  subst hz;refine wp_mono (GR.eF kD (G:=GS 65) (S:={ env:=AEV (.i (.lit (.pointer (some ⟨bq,oq,none⟩)))) path .junk .junk .junk path.length,st:=[] }) (e:=.exit 0) (S':={ env:=AEV (.i (.lit (.pointer (some ⟨bq,oq,none⟩)))) path .junk (.bool false) .junk path.length,st:=[] }) kX (by kernel_rfl) (by simp[AEV]) g) ?_;rintro _ a5 w5 ⟨rfl,g5⟩;simp only[gQ,Exit.then,Exit.inBlock,if_true];refine wp_mono (GR.eF kD (G:=GS 65) (S:={ env:=AEV (.i (.lit (.pointer (some ⟨bq,oq,none⟩)))) path .junk (.bool false) .junk path.length,st:=[] }) (e:=.ret) (S':={ env:=[(0, .i (.lit (.pointer (some ⟨bq,oq,none⟩)))),(1, .i (.isl (aF path))),(4, .i (.lit (.pointer (some ⟨bq,oq,none⟩)))),(6, .junk),(9, .bool false),(10, .i (.isl (aF path))),(11, .int path.length),(12, .int path.length),(13, .bool false),(26, .junk)],st:=[] }) kX (by kernel_rfl) (by simp[AEV]) g5) ?_;rintro _ a6 w6 ⟨rfl,g6⟩;obtain⟨⟨m2,φ2,q1,q2,q3,q4,q5⟩,q6,q7⟩:=g6
  have hφ:φ2=fun _=>none:=by
   funext id
   cases h:φ2 id with
   | none=>rfl
   | some p=>exact absurd (q4 id (by rw[h];simp)) (xS _)
  subst hφ
  obtain⟨v,k1,k2⟩:=fJ (C:=C2) (fn:=Tryz.f65) (keep:=false) (na:=0) (S:={ env:=[(0, .i (.lit (.pointer (some ⟨bq,oq,none⟩)))),(1, .i (.isl (aF path))),(4, .i (.lit (.pointer (some ⟨bq,oq,none⟩)))),(6, .junk),(9, .bool false),(10, .i (.isl (aF path))),(11, .int path.length),(12, .int path.length),(13, .bool false),(26, .junk)],st:=[] }) (r:=.i (.lit (.pointer (some ⟨bq,oq,none⟩)))) (stl':=[]) (fun id h=>absurd rfl h) ⟨⟨⟨m2,fun _=>none,q1,q2,q3,q4, .nil _ _ _⟩,q6,q7⟩,zB9 _⟩ (by
   show finish C2 false [ResultVar.tmp 4] 0 _=_
   simp)
  have hv:v=.pointer (some ⟨bq,oq,none⟩):=by
   obtain⟨_,_,_,e,r,_⟩:=k2;injection e with e;subst e;exact r.lit_eq
  subst hv;exact⟨q7,_,k1,bq,oq,Fa,Fy,Fz,m2,rfl,hat,q1.mem,q3⟩
 ·have hi3:i<path.length:=by omega
  have q1:=zX hi3
  have hsplit:path=path.take i++path[i]::path.drop (i+1):=by
   rw[← List.drop_eq_getElem_cons hi3,xV]
  have hr2:Pn.at (path[i]::path.drop (i+1)) z=some y:=by
   rw[hsplit]at hy
   rwa [uX _ _ _ _ hat.is]at hy
  obtain⟨x,hx,zk,hk1,hk2⟩:=Pn.sM hr2;obtain⟨b',cap,hc1,hc2,Fa',Fy',Fz',hat'⟩:=hat.step hk1;obtain⟨v0,v1,v2,v3,ao,cap',hsee,hsee2⟩:=hat.see;rw[hc1]at hsee2;injection hsee2 with hsee2;injection hsee2 with e1 _ e3;subst e1;subst e3;have htk:path.take i++[(x:Int)]=path.take (i+1):=by rw[← hx,List.take_add_one,q1];rfl
  rw[htk]at hat';have r1:=aX q1;rw[hx]at r1;have hxl:x<z.kids.length:=(zZ.1 hk1).1;have g1:=g.Ae5 (u:=0) rfl hsee;rw[AYC]at g1;have w2:IntKind.i64.wrap ((i:Int)+1)=i+1:=wrO
  refine wp_mono (GR.eF kD (G:=GS 65) (S:={ env:=AEV (.i (.iref [.lit v0, .lit v1, .lit v2, .lit v3, .lit (.slice (some ⟨b',0,none⟩) z.kids.length cap)])) path .junk .junk .junk i,st:=[] }) (e:=.normal) (S':={ env:=AEV (.i (.lit (.pointer (some ⟨b',x*5,none⟩)))) path (.int x) (.bool true) (.bool false) (i+1),st:=[] }) kX (by kernel_rfl) (by
   have n1:¬ (x:Int)<0:=by omega
   have n2:¬ z.kids.length≤x:=by omega
   simp[AEV,hi3,r1,hxl,w2,n1,n2]) g1) ?_
  rintro _ a5 w5 ⟨rfl,g5⟩;simp only[gQ,Exit.then,Exit.inBlock];refine⟨path.length-(i+1),by omega,i+1,zk,b',5*x,Fa',Fy',Fz',rfl,by omega,hat',?_⟩;rw[yU 5 x]
  exact g5.envTo (by
   intro t;simp only[AEV,aJ];by_cases h6:t=6
   ·subst h6;simp
   by_cases h13:t=13
   ·subst h13;simp
   by_cases h26:t=26
   ·subst h26;simp
   simp[h6,h13,h26])
end Go.Proofs.YtgiepjdnkonkgaaGreat.G
namespace Go.Av
def atV:Option Pn→AV
 | some a=>.i (.iref a.cells)
 | none=>.i (.lit (.pointer none))
def atI (path:List Int) (p:Pn):Option Pn:=if path.length≤8 then Pn.at path p else none
end Go.Av
namespace Go.Proofs.YtgiepjdnkonkgaaGreat.P
open Go Go.Av
set_option maxRecDepth 4000
set_option maxHeartbeats 4000000
def AIX (p:Pn) (path:List Int) (i:Nat):AS :=
 { env:=[(0, .i (.iref ((Pn.at (path.take i) p).getD Pn.zero).cells)),(1, .i (.isl (aF path))),(4, .i (.lit (.pointer none))),(6,jk i (.int ((path[i-1]?).getD 0))),(9, .bool false),(10, .i (.isl (aF path))),(11, .int path.length),(12, .int i),(13,jk i (.bool true)),(26,jk i (.bool false))],st:=[] }
theorem APH (p:Pn) (path:List Int):aH C0 65 [.i (.iref p.cells), .i (.isl (aF path))] []=some (atV (atI path p),[]):=by
 rw[aD rfl Tryz.func65 rfl rfl];by_cases hl:path.length≤8
 ·have hl':¬ (8:Int)<path.length:=by omega
  obtain⟨j,h1,h2⟩:=AJN path p;simp[hl',atI,hl];rw[aS (AIX p path) j (by simp[AIX,Pn.at])]
  ·rw[aG]
   rcases h2 with ⟨a,rfl,ha⟩|⟨x,a,q1,q2,q3,q4⟩
   ·simp[AIX,ha,atV]
   ·have hj:=(zZ.1 q1).1;have r1:=aX q1
    have hx:x<0∨(0≤x∧(a.kids.length:Int)≤x):=by
     by_cases h:x<0
     ·exact .inl h
     ·have:=q3 (by omega);simp at this;exact .inr ⟨by omega,by omega⟩
    simp only[AIX,q2,yP,q4,atV];rw[Pn.aA a]
    rcases hx with h|⟨h,h'⟩
    ·simp[hj,r1,h]
    ·have hn:¬ x<0:=by omega
     simp[hj,r1,hn,h']
  ·intro i hi;obtain⟨x,a,b,q1,q2,q3,q4,q5⟩:=h1 i hi;obtain⟨hj,qx⟩:=zZ.1 q1;have r1:=aX q1;have hk:=(zZ.1 q4).1;have r2:=Pn.aO q4;obtain⟨n,rfl⟩:=yN q3;simp only[Int.ofNat_eq_natCast,Int.toNat_natCast]at *
   have w2:IntKind.i64.wrap ((i:Int)+1)=i+1:=wrO;have n1:¬ (n:Int)<0:=by omega
   have n2:¬ a.kids.length≤n:=by omega
   simp only[AIX,q2,q5,yP];rw[Pn.aA a,Pn.aA b]at *
   simp[hj,r1,n1,n2,hk,r2,w2,q1,qx]
 ·have hl':(8:Int)<path.length:=by omega
  simp[hl',atI,hl,atV]
end Go.Proofs.YtgiepjdnkonkgaaGreat.P
namespace Go.Av
section
variable {wi:World} {mi:Mem} {nt:Nat}
theorem GR.AIH {ok:Nat→Prop} {env:Nat→AV} {st:Store} {a:Act} {w:World} {d:Nat} {m1:Mem} {φ:Pl} {p:Pn} (hd:d<nt) (hi:Inv w m1 φ st) (henv:∀ t,Rep m1 φ (env t) (a.tmps.getD t undef)) (hadv:Adv wi mi (fun _=>none) w m1 φ) (hok:∀ id,φ id≠none→ok id) (hsz:nt≤a.tmps.size) (hdf:a.defers=[])
 {e:Ending} {w':World} (h:vG w m1 p e w'):∃ y,e=.returned y∧∃ v0 v1 v2 v3 v4 F,GR wi mi nt ok (CPY w p F v0 v1 v2 v3 v4) (upd env d (.i (.agg [.lit v0, .lit v1, .lit v2, .lit v3, .lit v4]))) st (a.put (some d) y) w':=by
 obtain⟨v0,v1,v2,v3,v4,F,m2,rfl,hone,hm2,ha,hc⟩:=h;obtain⟨i2,a2⟩:=hi.AY2 ha hm2.1;refine⟨_,rfl,v0,v1,v2,v3,v4,F,⟨m2,φ,i2,vQ (dst:=some d) (fun t=>(henv t).mono a2.mle a2.ple) hsz (by simpa [YZ]using hd) (.i (.agg ?_)),hadv.trans a2,hok,?_⟩,by rw[nD];exact hsz,by rw[iI];exact hdf⟩
 ·exact .cons (.lit _) (hone _ (by simp)) (.cons (.lit _) (hone _ (by simp)) (.cons (.lit _) (hone _ (by simp)) (.cons (.lit _) (hone _ (by simp)) (.cons (.lit _) (hone _ (by simp)) .nil))))
 ·refine⟨hc.th,hc.cells,hc.nd,fun f hf=>?_,hc.kc⟩;obtain⟨k1,k2,k3,k4,k5⟩:=hc.all f hf;refine⟨k1,k2,fun id b n e ho=>?_,k4,k5⟩;have:=hi.low id b n f e ho;omega
theorem GR.AMV {ok:Nat→Prop} {env:Nat→AV} {st:Store} {a:Act} {w:World} {d:Nat} {m:Mem} {φ:Pl} {p y:Pn} {root:Nat} {F:List Nat} {path:List Int} (hd:d<nt) (hi:Inv w m φ st) (henv:∀ t,Rep m φ (env t) (a.tmps.getD t undef)) (hadv:Adv wi mi (fun _=>none) w m φ) (hok:∀ id,φ id≠none→ok id) (hsz:nt≤a.tmps.size) (hdf:a.defers=[]) (hr:RAW wi root p F [] w m φ)
 {e:Ending} {w':World} (h:∃ bq oq Fa Fy Fz m',e=.returned (.pointer (some ⟨bq,oq,none⟩))∧AtP w m p root 0 F path y bq oq Fa Fy Fz∧kR w' m'∧Adv w (dR w) (fun _=>none) w' m' (fun _=>none)) :
 ∃ v,e=.returned v∧∃ bq oq Fa Fy Fz,GR wi mi nt ok (RAT wi root p F path y bq oq Fa Fy Fz) (upd env d (.i (.lit (.pointer (some ⟨bq,oq,none⟩))))) st (a.put (some d) v) w':=by
 obtain⟨bq,oq,Fa,Fy,Fz,m',rfl,hat,hm,ha⟩:=h;have hsame:∀ f,f<w.heap.size→w'.heap[f]?=w.heap[f]?:=fun f hf=>ha.block f hf fun id b n e=>by cases e
 have i2:=hi.later ha.size hsame
 have a2:Adv w m φ w' m φ:=⟨ha.size,ha.os,ha.tape,ha.output,fun b hb' _=>hsame b hb', .refl _,fun _ _ _ _=>rfl, .refl _,fun _ _ _ _ e ho=>.inr (eD.not e ho)⟩
 exact⟨_,rfl,bq,oq,Fa,Fy,Fz,⟨m,φ,i2,vQ (dst:=some d) henv hsz (by simpa [YZ]using hd) (.i (.lit _)),hadv.trans a2,hok,RAT.D8 _ _ _ _ _ _ _ _ _ _ _ _ _ _ _ _ _ a2 ⟨hr,hat⟩⟩,by rw[nD];exact hsz,by rw[iI];exact hdf⟩
end
end Go.Av
namespace Go.Proofs.YtgiepjdnkonkgaaGreat.P
open Go Go.Av G
theorem AcK:Tryz.f33.name≠ "runtime.NumGoroutine":=by decide
theorem AcL:Tryz.f33.body.isSome=true:=rfl
theorem hb48:Tryz.f65.body.isSome=true:=rfl
theorem AhL:Tryz.f65.name≠ "runtime.NumGoroutine":=by decide
set_option maxRecDepth 4000
set_option maxHeartbeats 8000000
theorem AVA {α:Type} (f:Nat→α) (a:Nat) (x y:α):upd (upd f a x) a y=upd f a y:=by funext i;simp only[upd];split<;>rfl
def TEV (p:Pn) (ws:List Int) (r:Int) (path:List Int) (v3 v5 v6 v7 v8 v9 v10 v11 v15 v21 v36:AV):List (Nat×AV):=[(0, .i (.agg p.cells)),(1, .i (.isl (aF ws))),(2, .i (.agg [.int r, .isl (aF path)])),(3,v3),(5,v5),(6,v6),(7,v7),(8,v8),(9,v9),(10,v10),(11,v11),(15,v15),(21,v21),(36,v36)]
def bxP (p:Pn):Option Blk:=some (.box (lF p.cells))
def bxS (r:Int) (path:List Int):Option Blk:=some (.box [.i (.int r), .i (.isl (aF path))])
end Go.Proofs.YtgiepjdnkonkgaaGreat.P
namespace Go.Av
section
variable {C:Ctx} {wi:World} {mi:Mem} {nt:Nat}
theorem GR.AYT {X:World→Mem→Pl→Prop} {ok:Nat→Prop} {root:Nat} {p:Pn} {F:List Nat} {path:List Int} {y:Pn} {bq oq:Nat} {Fa Fy Fz:List Nat} {env:Nat→AV} {st st':Store} {a:Act} {w:World} {u k:Nat} (h:GR wi mi nt ok (fun w m φ=>RAT wi root p F path y bq oq Fa Fy Fz w m φ∧X w m φ) env st a w) (hu:env u=.i (.lit (.pointer (some ⟨bq,oq,none⟩))))
 (hst:∀ i blk,st' i=some blk→st i=some blk∧eB blk) (hk:st' k=none) (hX:∀ m φ n,X w m φ→X w m (upd (lI st' φ) k (some (bq,one bq n)))) :
 ∃ pre row post ma,row.length=5∧pre.length=oq∧∀ env',(∀ t,env' t=.junk∨(t=u∧env' t=.own k oq)∨(env' t=env t∧cO st' (env t))) →
   GR wi mi nt (fun id=>st' id≠none∨id=k) (fun w' m' φ'=>(ADK wi root p F path y bq oq Fa Fy Fz k w ma w' m' φ'∧(∃ T,w.heap[bq]?=some (.cells (pre++(row++post)).toArray T (0,0))))∧X w' m' φ') env' (upd st' k (some (.box (lT pre (bD row) post)))) a w:=by
 obtain⟨⟨m,φ,hi,henv,hadv,hok,hr,hx⟩,h6,h7⟩:=h;have hinF:=hr.pos.mem;obtain⟨k1,k2,k3,k4,us,T,k5,k6⟩:=hr.raw.all bq hinF;obtain⟨v0,v1,v2,v3,v4,h5,_,_,_,_⟩:=hr.pos.th.cells;have gc:∀ {o:Nat} {v:Value},w.cell? ⟨bq,o,none⟩=some v→us[o]?=some v:=fun h=>by rwa [bG k5]at h
 have hrow:=Q9 (gc h5.c0) (gc h5.c1) (gc h5.c2) (gc h5.c3) (gc h5.c4);have hl4:=(zZ.1 (gc h5.c4)).1;have hi2:=hi.AUP hst;have hφk:lI st' φ k=none:=by unfold lI;rw[hk]
 have hfr:eD (lI st' φ) bq:=k3.cut;refine⟨us.take oq,[v0,v1,v2,v3,v4],us.drop (oq+5),m,rfl,by rw[xY];omega,fun env' he=>?_⟩
 have hrep:RepC m (upd (lI st' φ) k (some (bq,one bq us.length))) (lT (us.take oq) (bD [v0,v1,v2,v3,v4]) (us.drop (oq+5))) us:=by
  have h1:=nY (m:=m) (φ:=upd (lI st' φ) k (some (bq,one bq us.length))) (vs:=us) k6
  have:bD us=lT (us.take oq) (bD [v0,v1,v2,v3,v4]) (us.drop (oq+5)):=by
   conv=>lhs;rw[hrow]
   simp[lT,bD]
  rwa [this]at h1
 have hp:PLe (lI st' φ) (upd (lI st' φ) k (some (bq,one bq us.length))):=fun i r n e=>by
  refine⟨n,?_,rfl,fun _ h=>h⟩;have:i≠k:=fun h=>by rw[h,hφk]at e;cases e
  simp[upd,this,e]
 refine⟨⟨m,upd (lI st' φ) k (some (bq,one bq us.length)),hi2.adopt hk hφk hfr k4 k5 hrep,fun t=>?_,(Adv.cut hadv).adopt k1,fun id hid=>?_,⟨?_,?_⟩,hX m φ _ hx⟩,h6,h7⟩
 ·rcases he t with e|⟨rfl,e⟩|⟨e,e'⟩
  ·rw[e];exact .junk _
  ·have:=henv t;rw[hu]at this;rw[e,this.lit_eq];exact .own (n:=one bq us.length) (by simp[upd])
  ·rw[e];exact(e'.rep (fun i hi'=>lH hi') (henv t)).mono (.refl _) hp
 ·by_cases e:id=k
  ·exact .inr e
  ·simp[upd,e]at hid
   cases hx:lI st' φ id with
   | none=>exact absurd hx hid
   | some q=>exact .inl (dN hx).2
 ·refine⟨hr.pos, .refl _,⟨one bq us.length,by simp[upd]⟩,k1,fun f hf hne=>?_⟩;obtain⟨q1,q2,q3,q4,q5⟩:=hr.raw.all f hf;refine⟨q1,q2,fun i r n e ho=>?_,q4,rfl,q5⟩;by_cases e2:i=k
  ·subst e2;simp[upd]at e;obtain⟨rfl,rfl⟩:=e;exact hne ho
  ·simp[upd,e2]at e;exact q3 i r n (dN e).1 ho
 ·exact⟨T,by rw[← hrow];exact k5⟩
theorem GR.AbR {ok:Nat→Prop} {root:Nat} {p q:Pn} {F:List Nat} {path:List Int} {y:Pn} {bq oq:Nat} {Fa Fy Fz:List Nat} {env env':Nat→AV} {st st':Store} {a:Act} {w wa:World} {ma:Mem} {k:Nat} {pre row post:List Value} {wx:World} {Fx:List Nat} {v0 v1 v2 v3 v4:Value}
 (h:GR wi mi nt ok (fun w' m' φ'=>(ADK wi root p F path y bq oq Fa Fy Fz k wa ma w' m' φ'∧(∃ T,wa.heap[bq]?=some (.cells (pre++(row++post)).toArray T (0,0))))∧CPY wx q Fx v0 v1 v2 v3 v4 w' m' φ') env st a w) (hwx:wi.heap.size≤wx.heap.size) (hlt:∀ f∈root::F,f<wx.heap.size) (hrl:row.length=5) (hpl:pre.length=oq) (hbox:st k=some (.box (lT pre (bD [v0,v1,v2,v3,v4]) post)))
 (hst:∀ i blk,st' i=some blk→i≠k∧st i=some blk∧eB blk) (he:∀ t,env' t=.junk∨(env' t=env t∧cO st' (env t))) :
 GR wi mi nt (fun id=>st' id≠none) (RAW wi root (Pn.put path p q) (Fa++(Fx++Fz)) []) env' st' a w:=by
 obtain⟨⟨m,φ,hi,henv,hadv,hk,⟨hr,T0,hrow0⟩,hc⟩,h6,h7⟩:=h;obtain⟨n2,e2⟩:=hr.own;obtain⟨hb2,hok2⟩:=cK hi e2 hbox;have hst2:∀ i blk,st' i=some blk→st i=some blk∧eB blk:=fun i blk hb=>(hst i blk hb).2
 cases hok2 with
 | @box T _ vs hh hl hrc hm =>
  have hone:=hrc.one;obtain⟨vp,x,rfl,r1,r2⟩:=nU hrc;obtain⟨vr,vq,rfl,r3,r4⟩:=nU r2;obtain rfl:=(nH r1).symm;obtain rfl:=(nH r4).symm;obtain rfl:=(nH r3).symm;have hcell:∀ f∈root::F,f≠bq→∀ j,w.cell? ⟨f,j,none⟩=wa.cell? ⟨f,j,none⟩:=fun f hf hne j=>iZ (hr.oth f hf hne).2.2.2.2.1 j
  have sub:∀ f∈root::(Fa++(Fx++Fz)),f∈Fx∨f∈root::F:=fun f hf=>by
   rw[hr.pos.eq]
   rcases zS.1 hf with e|e
   ·exact .inr (by simp[e])
   ·rcases zV.1 e with e|e
    ·exact .inr (by simp[e])
    ·rcases zV.1 e with e|e
     ·exact .inl e
     ·exact .inr (by simp[e])
  have g:∀ (i:Nat),i<5→(pre++([v0,v1,v2,v3,v4]++post))[oq+i]?=[v0,v1,v2,v3,v4][i]?:=fun i hi=>by
   rw[zB (by omega),zG (by simp;omega),hpl,xQ]
  have far:∀ (r:List Value),r.length=5→∀ j,oq+5≤j→(pre++(r++post))[j]?=post[j-oq-5]?:=fun r hr j hj=>by
   rw[zB (by omega),zB (by omega),hr,hpl]
  have hth:TH w m (Pn.put path p q) root 0 (Fa++(Fx++Fz)) []:=by
   refine hr.pos.fill hr.le (fun f hf j hj=>?_) (hc.th (.refl _) (fun _ _ _=>rfl) ⟨?_,?_,?_,?_,?_⟩)
   ·by_cases hne:f=bq
    ·subst hne;rw[bG hh,bG hrow0]
     rcases hj with hj|hj|hj
     ·exact absurd rfl hj
     ·rw[zG (by omega),zG (by omega)]
     ·rw[far _ rfl j hj,far _ hrl j hj]
    ·refine hcell f ?_ hne j;rw[hr.pos.eq]
     rcases zS.1 hf with e|e
     ·simp[e]
     ·rcases zV.1 e with e|e<;>simp[e]
   ·rw[bG hh];exact g 0 (by omega)
   ·rw[bG hh];exact g 1 (by omega)
   ·rw[bG hh];exact g 2 (by omega)
   ·rw[bG hh];exact g 3 (by omega)
   ·rw[bG hh];exact g 4 (by omega)
  refine⟨⟨m,lI st' φ,hi.AUP hst2,fun x=>?_,hadv.cut,fun id hid=>?_,?_⟩,h6,h7⟩
  ·rcases he x with e|⟨e,e'⟩
   ·rw[e];exact .junk _
   ·rw[e];exact e'.rep (fun i hi'=>lH hi') (henv x)
  ·cases hx:lI st' φ id with
   | none=>exact absurd hx hid
   | some q=>exact(dN hx).2
  ·have hnd:=hr.pos.nd;rw[hr.pos.eq]at hnd;refine⟨hth,fun hm'=>?_,?_,fun f hf=>?_⟩
   ·rcases zV.1 hm' with e|e
    ·exact hr.pos.nr (by rw[hr.pos.eq];simp[e])
    ·rcases zV.1 e with e|e
     ·have:=(hc.all root e).1;have:=hlt root (by simp);omega
     ·exact hr.pos.nr (by rw[hr.pos.eq];simp[e])
   ·rw[zJ]at hnd ⊢;have hz:=zJ.1 hnd.2.1;have hltF:∀ f∈Fa++(Fy++Fz),f<wx.heap.size:=fun f hf=>hlt f (by rw[hr.pos.eq];exact zB5 _ hf)
    refine⟨hnd.1,zJ.2 ⟨hc.nd,hz.2.1,fun x hx z hz' e=>?_⟩,fun x hx z hz' e=>?_⟩
    ·have:=(hc.all x hx).1;have:=hltF z (by simp[hz']);omega
    ·rcases zV.1 hz' with h|h
     ·have:=(hc.all z h).1;have:=hltF x (by simp[hx]);omega
     ·exact hnd.2.2 x hx z (by simp[h]) e
   ·rcases sub f hf with hf'|hf'
    ·obtain⟨z1,z2,z3,z4,z5⟩:=hc.all f hf';exact⟨Nat.le_trans hwx z1,z2,z3.cut,z4,z5⟩
    by_cases hne:f=bq
    ·subst hne;refine⟨hr.bqn,(zN.1 hh).1,?_,hm,_,T,hh,hone⟩;refine kJ hi (fun i blk h=>(hst2 i blk h).1) hbox ?_ e2 hb2.1
     cases hx:st' k with
     | none=>rfl
     | some blk=>exact absurd rfl (hst k blk hx).1
    ·obtain⟨q1,q2,q3,q4,q5,vs',T',q6,q7⟩:=hr.oth f hf' hne;exact⟨q1,q2,q3.cut,q4,vs',T',by rw[q5];exact q6,q7⟩
theorem CPY.other {wx:World} {x:Pn} {Fx:List Nat} {v0 v1 v2 v3 v4:Value} {w:World} {st':Store} {k bq:Nat} (hb:bq<wx.heap.size):∀ m φ n,CPY wx x Fx v0 v1 v2 v3 v4 w m φ→CPY wx x Fx v0 v1 v2 v3 v4 w m (upd (lI st' φ) k (some (bq,one bq n))):=by
 intro m φ n h;refine⟨h.th,h.cells,h.nd,fun f hf=>?_,h.kc⟩;obtain⟨z1,z2,z3,z4,z5⟩:=h.all f hf;refine⟨z1,z2,fun i r n' e ho=>?_,z4,z5⟩;by_cases e2:i=k
 ·subst e2;simp[upd]at e;obtain⟨rfl,rfl⟩:=e;have:f=bq:=ho;omega
 ·simp[upd,e2]at e;exact z3 i r n' (dN e).1 ho
theorem GR.AMW {X:World→Mem→Pl→Prop} (hX:XA X) {ok:Nat→Prop} {env:Nat→AV} {st:Store} {a:Act} {w:World} {d:Nat} {m1:Mem} {φ:Pl} {p:Pn} (hd:d<nt) (hi:Inv w m1 φ st) (henv:∀ t,Rep m1 φ (env t) (a.tmps.getD t undef)) (hadv:Adv wi mi (fun _=>none) w m1 φ) (hok:∀ id,φ id≠none→ok id) (hsz:nt≤a.tmps.size) (hdf:a.defers=[]) (hx:X w m1 φ)
 {e:Ending} {w':World} (h:vG w m1 p e w'):∃ y,e=.returned y∧∃ v0 v1 v2 v3 v4 F,GR wi mi nt ok (fun w' m' φ'=>X w' m' φ'∧CPY w p F v0 v1 v2 v3 v4 w' m' φ') (upd env d (.i (.agg [.lit v0, .lit v1, .lit v2, .lit v3, .lit v4]))) st (a.put (some d) y) w':=by
 obtain⟨v0,v1,v2,v3,v4,F,m2,rfl,hone,hm2,ha,hc⟩:=h;obtain⟨i2,a2⟩:=hi.AY2 ha hm2.1;refine⟨_,rfl,v0,v1,v2,v3,v4,F,⟨m2,φ,i2,vQ (dst:=some d) (fun t=>(henv t).mono a2.mle a2.ple) hsz (by simpa [YZ]using hd) (.i (.agg ?_)),hadv.trans a2,hok,hX _ _ _ _ _ _ a2 hx,?_⟩,by rw[nD];exact hsz,by rw[iI];exact hdf⟩
 ·exact .cons (.lit _) (hone _ (by simp)) (.cons (.lit _) (hone _ (by simp)) (.cons (.lit _) (hone _ (by simp)) (.cons (.lit _) (hone _ (by simp)) (.cons (.lit _) (hone _ (by simp)) .nil))))
 ·refine⟨hc.th,hc.cells,hc.nd,fun f hf=>?_,hc.kc⟩;obtain⟨k1,k2,k3,k4,k5⟩:=hc.all f hf;refine⟨k1,k2,fun id b n e ho=>?_,k4,k5⟩;have:=hi.low id b n f e ho;omega
def SY (wi:World) (mi:Mem) (p:Pn) (e:Ending) (w:World):Prop :=
 ∃ v0 v1 v2 v3 v4,e=.returned (.tuple #[.agg #[v0,v1,v2,v3,v4], .bool true])∧vG wi mi p (.returned (.agg #[v0,v1,v2,v3,v4])) w
theorem SY.own {wi:World} {mi:Mem} {p:Pn} {e:Ending} {w:World} (h:SY wi mi p e w):bS wi mi (fun _=>none) (.tup [rqA p 0, .bool true]) (rqB p) e w:=by
 obtain⟨v0,v1,v2,v3,v4,rfl,h⟩:=h;obtain⟨v,m,φ,e,r,i,a,b⟩:=h.own;injection e with e;subst e;exact⟨_,m,φ,rfl, .tup (.cons r (.cons (.i (.lit _)) .nil)),i,a,b⟩
end
def AaB (o:Option Pn):AV×StL:=(.tup [rqA (o.getD Pn.zero) 0, .bool o.isSome],rqB (o.getD Pn.zero))
noncomputable def vD:List AV→StL→Option (AV×StL)
 | args,[]=>open Classical in if h:∃ x,ApA args x then some (AaB (apO h.choose.1 h.choose.2.1 h.choose.2.2.1 h.choose.2.2.2))else none
 | _,_=>none
theorem AER (p:Pn) (ws:List Int) (r:Int) (path:List Int):vD [.i (.agg p.cells), .i (.isl (aF ws)), .i (.agg [.int r, .isl (aF path)])] []=some (AaB (apO p ws r path)):=by
 have h:∃ x,ApA [.i (.agg p.cells), .i (.isl (aF ws)), .i (.agg [.int r, .isl (aF path)])] x:=⟨(p,ws,r,path),rfl⟩
 unfold vD;simp only;rw[dif_pos h];have:=h.choose_spec.inj (y:=(p,ws,r,path)) rfl;rw[this]
theorem WN {args:List AV} {st:StL} {q:AV×StL} (h:vD args st=some q):∃ p ws r path,args=[.i (.agg (Pn.cells p)), .i (.isl (aF ws)), .i (.agg [.int r, .isl (aF path)])]∧st=[]∧q=AaB (apO p ws r path):=by
 unfold vD at h;split at h
 ·split at h
  ·rename_i hx;injection h with h;exact⟨_,_,_,_,hx.choose_spec,rfl,h.symm⟩
  ·cases h
 ·cases h
end Go.Av

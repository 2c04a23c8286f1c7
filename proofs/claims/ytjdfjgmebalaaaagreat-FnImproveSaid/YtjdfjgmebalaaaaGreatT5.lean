/- Part 5 of what the proof rests on: the executor and what it is worth, and the program's functions as it runs them. No condition. -/
import Derived.Test.YtjdfjgmebalaaaaGreatT4
set_option linter.unusedVariables false
set_option linter.unusedSimpArgs false
namespace Go.Av
theorem NQ (a b:Nat):orS a b=((a ||| b:Nat):Int):=by simp[orS]
def PM (k:Int) (v:Val) (l:List Val) (s:Int) (j:Nat):Int:=(l.take j).foldl (fun s w=>orS s (stV (Val.cmb k v w))) s
def qX (k:Int) (l r:List Val) (i:Nat):Int:=(l.take i).foldl (fun s v=>r.foldl (fun s w=>orS s (stV (Val.cmb k v w))) s) 0
theorem UJ {k:Int} {v w:Val} {l:List Val} {s:Int} {j:Nat} (h:l[j]?=some w):PM k v l s (j+1)=orS (PM k v l s j) (stV (Val.cmb k v w)):=by
 unfold PM;rw[aL h,yN];rfl
theorem JG {k:Int} {v:Val} {l r:List Val} {i:Nat} (h:l[i]?=some v):qX k l r (i+1)=PM k v r (qX k l r i) r.length:=by
 unfold qX PM;rw[aL h,yN,xY];rfl
def ACM (s:Int):Prop:=∃ n:Nat,s=n∧n<8
theorem FH (v:Val):ACM (stV v):=by
 unfold stV;split
 ·exact⟨4,rfl,by omega⟩
 ·split
  ·exact⟨1,rfl,by omega⟩
  ·exact⟨2,rfl,by omega⟩
theorem AEM {a b:Int} (ha:ACM a) (hb:ACM b):ACM (orS a b):=by
 obtain⟨m,rfl,hm⟩:=ha;obtain⟨n,rfl,hn⟩:=hb;exact⟨m ||| n,NQ m n,xH (n:=3) hm hn⟩
theorem ER {k:Int} {v:Val}:∀ (l:List Val) {s:Int} (j:Nat),ACM s→ACM (PM k v l s j)
 | [],s,j,h=>by simpa [PM]using h
 | a::l,s,0,h=>by simpa [PM]using h
 | a::l,s,j+1,h=>by
  have:=ER (k:=k) (v:=v) l (s:=orS s (stV (Val.cmb k v a))) j (AEM h (FH _));simpa [PM]using this
theorem ZA {k:Int} {r:List Val} (l:List Val) (i:Nat) (hi:i≤l.length):ACM (qX k l r i):=by
 induction i with
 | zero=>exact⟨0,by simp[qX],by omega⟩
 | succ i ih =>
  rw[JG (zX (show i<l.length by omega))];exact ER r _ (ih (by omega))
theorem AJR {k a b:Int} (h:k=8∨k=9):lJ k a b=qX k (exS a) (exS b) (exS a).length:=by
 unfold lJ qX;rw[if_pos h,xY]
theorem ALJ {a:Int} {v:Val} (h:v∈exS a):v.ok=true:=by
 unfold exS at h;simp only[zT]at h
 rcases h with h|h|h
 ·split at h
  ·simp at h;subst h;rfl
  ·cases h
 ·split at h
  ·simp at h;subst h;rfl
  ·cases h
 ·split at h
  ·simp at h;subst h;rfl
  ·cases h
theorem ASS {b:Int} (h:okS b):exS b≠[]:=by
 obtain⟨h1,h2⟩:=h;have:b=1∨b=2∨b=3∨b=4∨b=5∨b=6∨b=7:=by omega
 rcases this with rfl|rfl|rfl|rfl|rfl|rfl|rfl<;>decide
theorem AFX (a:Int):(exS a).length≤3:=by
 unfold exS;simp only[zJ]
 repeat' split
 all_goals simp
end Go.Av
namespace Go.Proofs.YtjdfjgmebalaaaaGreat.P
open Go Go.Av
set_option maxRecDepth 4000
set_option maxHeartbeats 4000000
theorem D9 {n:Nat} (h:n<8):n % 18446744073709551616=n:=Nat.mod_eq_of_lt (by omega)
theorem or8 {m n:Nat} (hm:m<8) (hn:n<8):IntKind.i64.wrap ((m ||| n:Nat):Int)=((m ||| n:Nat):Int):=by
 have:=xH (n:=3) hm hn;exact wrO
def vBx (v:Val):Option Blk:=some (.box [.bool v.null, .int v.n])
def vAt (l:List Val) (i:Nat):Val:=(l[i]?).getD Val.zero
def jz (i:Nat) (v:AV):AV:=if i=0 then .junk else v
@[simp] theorem Al9 (v:AV):jz 0 v=.junk:=rfl
@[simp] theorem Al8 (i:Nat) (v:AV):jz (i+1) v=v:=rfl
theorem DJ {i:Nat} (h:i≠0) (v:AV):jz i v=v:=if_neg h
def CSX (k a b:Int) (A B:List Val) (i:Nat):AS :=
 { env:=[(0, .int k),(1, .int a),(2, .int b),(6, .int 0),(7, .int (qX k A B i)),(9,jz i (.own 0 0)),(11,jz i (.own 1 0)),(17, .bool true),(19, .i (.isl (eB A))),(20, .int A.length),(21, .int i),(22,jz i (.bool true)),(26,jz i (.i (.isl (eB B)))),(27,jz i (.int B.length)),(28,jz i (.int B.length)),(29,jz i (.bool false)),(46, .junk),(54, .junk),(66, .junk)],
   st:=if i=0 then []else [vBx (vAt A (i-1)),vBx (vAt B (B.length-1))] }
def CSI (k a b:Int) (A B:List Val) (i:Nat) (j:Nat):AS :=
 { env:=[(0, .int k),(1, .int a),(2, .int b),(6, .int 0),(7, .int (PM k (vAt A i) B (qX k A B i) j)),(9, .own 0 0),(11,if j=0 then jz i (.own 1 0)else .own 1 0),(17, .bool true),(19, .i (.isl (eB A))),(20, .int A.length),(21, .int i),(22, .bool true),(26, .i (.isl (eB B))),(27, .int B.length),(28, .int j),(29,if j=0 then jz i (.bool false)else .bool true),(46, .junk),(54, .junk),(66, .junk)],
   st:=vBx (vAt A i)::(if j=0 then(if i=0 then []else [vBx (vAt B (B.length-1))])else [vBx (vAt B (j-1))]) }
theorem AO {k a b:Int} (hk:k=8∨k=9) (ha:okS a) (hb:okS b):aH C0 197 [.int k, .int a, .int b] []=some (.int (lJ k a b),[]):=by
 have hea:=IP (a:=a) ⟨by have:=ha.1;omega,ha.2⟩;have heb:=IP (a:=b) ⟨by have:=hb.1;omega,hb.2⟩;have hbn:=ASS hb;have hbl:(exS b).length≠0:=fun h=>hbn (zW.1 h)
 have la:=AFX a;have lb:=AFX b;have oka:∀ v∈exS a,v.ok=true:=fun v hv=>ALJ hv
 have okb:∀ v∈exS b,v.ok=true:=fun v hv=>ALJ hv
 rw[aD rfl Tryz.func197 rfl rfl,AJR hk];generalize exS a=A at *
 generalize exS b=B at *
 rcases hk with rfl|rfl
 ·simp[hea];rw[aQ (CSX 8 a b A B) A.length (by simp[CSX,qX])]
  ·rw[aF];simp[CSX]
  ·intro i hi;have h3:=zX hi;have hm:=zV h3;generalize A[i]=v at h3 hm;have rA:=iZ h3;have hv:vAt A i=v:=by simp[vAt,h3]
   have w2:IntKind.i64.wrap ((i:Int)+1)=i+1:=wrO;have hlow0:=ZA (k:=8) (r:=B) A i (by omega);have hsc:=JG (k:=8) (r:=B) h3
   have inner:∀ j,j<B.length→∃ w,B[j]?=some w∧w∈B∧gF (eB B) j=some [.bool w.null, .int w.n]∧vAt B j=w∧∃ m n:Nat,PM 8 v B (qX 8 A B i) j=m∧stV (Val.cmb 8 v w)=n∧m<8∧n<8∧PM 8 v B (qX 8 A B i) (j+1)=((m ||| n:Nat):Int)∧IntKind.i64.wrap ((m ||| n:Nat):Int)=((m ||| n:Nat):Int):=by
    intro j hj;have q3:=zX hj;obtain⟨m,hm1,hm2⟩:=ER (k:=8) (v:=v) B j hlow0;obtain⟨n,hn1,hn2⟩:=FH (Val.cmb 8 v B[j]);refine⟨B[j],q3,xZ hj,iZ q3,by simp[vAt,q3],m,n,hm1,hn1,hm2,hn2,?_,or8 hm2 hn2⟩;rw[UJ q3,hm1,hn1,NQ]
   by_cases h0:i=0
   ·subst h0;simp[CSX,hi,rA,heb];rw[aQ (CSI 8 a b A B 0) B.length (by simp[CSI,PM,hv,vBx])]
    ·rw[aF];simp[CSI,hbl,w2,hv,hsc,CSX,vBx]
    ·intro j hj;obtain⟨w,q3,qm,q4,q5,m,n,m1,n1,m2,n2,hn,hwr⟩:=inner j hj;have hcm:=qM 8 v w (oka v hm) (okb w qm);have hst:=kZ (Val.cmb 8 v w).null (Val.cmb 8 v w).n;have w3:IntKind.i64.wrap ((j:Int)+1)=j+1:=wrO;rw[show stV ⟨(Val.cmb 8 v w).null,(Val.cmb 8 v w).n⟩=stV (Val.cmb 8 v w)from rfl,n1]at hst;by_cases j0:j=0
     ·subst j0;simp[CSI,hj,hv,q4,q5,vBx,m1,hcm,hst,D9 m2,D9 n2,hwr,hn]
     ·simp[CSI,hj,hv,q4,q5,vBx,m1,hcm,hst,D9 m2,D9 n2,hwr,hn,j0,w3]
   ·simp[CSX,hi,rA,heb,h0,DJ h0,vBx];rw[aQ (CSI 8 a b A B i) B.length (by simp[CSI,PM,hv,vBx,DJ h0,h0])]
    ·rw[aF];simp[CSI,hbl,w2,hv,hsc,CSX,vBx]
    ·intro j hj;obtain⟨w,q3,qm,q4,q5,m,n,m1,n1,m2,n2,hn,hwr⟩:=inner j hj;have hcm:=qM 8 v w (oka v hm) (okb w qm);have hst:=kZ (Val.cmb 8 v w).null (Val.cmb 8 v w).n;have w3:IntKind.i64.wrap ((j:Int)+1)=j+1:=wrO;rw[show stV ⟨(Val.cmb 8 v w).null,(Val.cmb 8 v w).n⟩=stV (Val.cmb 8 v w)from rfl,n1]at hst;by_cases j0:j=0
     ·subst j0;simp[CSI,hj,hv,q4,q5,vBx,m1,hcm,hst,D9 m2,D9 n2,hwr,hn,DJ h0,h0]
     ·simp[CSI,hj,hv,q4,q5,vBx,m1,hcm,hst,D9 m2,D9 n2,hwr,hn,j0,w3,DJ h0,h0]
 ·simp[hea];rw[aQ (CSX 9 a b A B) A.length (by simp[CSX,qX])]
  ·rw[aF];simp[CSX]
  ·intro i hi;have h3:=zX hi;have hm:=zV h3;generalize A[i]=v at h3 hm;have rA:=iZ h3;have hv:vAt A i=v:=by simp[vAt,h3]
   have w2:IntKind.i64.wrap ((i:Int)+1)=i+1:=wrO;have hlow0:=ZA (k:=9) (r:=B) A i (by omega);have hsc:=JG (k:=9) (r:=B) h3
   have inner:∀ j,j<B.length→∃ w,B[j]?=some w∧w∈B∧gF (eB B) j=some [.bool w.null, .int w.n]∧vAt B j=w∧∃ m n:Nat,PM 9 v B (qX 9 A B i) j=m∧stV (Val.cmb 9 v w)=n∧m<8∧n<8∧PM 9 v B (qX 9 A B i) (j+1)=((m ||| n:Nat):Int)∧IntKind.i64.wrap ((m ||| n:Nat):Int)=((m ||| n:Nat):Int):=by
    intro j hj;have q3:=zX hj;obtain⟨m,hm1,hm2⟩:=ER (k:=9) (v:=v) B j hlow0;obtain⟨n,hn1,hn2⟩:=FH (Val.cmb 9 v B[j]);refine⟨B[j],q3,xZ hj,iZ q3,by simp[vAt,q3],m,n,hm1,hn1,hm2,hn2,?_,or8 hm2 hn2⟩;rw[UJ q3,hm1,hn1,NQ]
   by_cases h0:i=0
   ·subst h0;simp[CSX,hi,rA,heb];rw[aQ (CSI 9 a b A B 0) B.length (by simp[CSI,PM,hv,vBx])]
    ·rw[aF];simp[CSI,hbl,w2,hv,hsc,CSX,vBx]
    ·intro j hj;obtain⟨w,q3,qm,q4,q5,m,n,m1,n1,m2,n2,hn,hwr⟩:=inner j hj;have hcm:=qM 9 v w (oka v hm) (okb w qm);have hst:=kZ (Val.cmb 9 v w).null (Val.cmb 9 v w).n;have w3:IntKind.i64.wrap ((j:Int)+1)=j+1:=wrO;rw[show stV ⟨(Val.cmb 9 v w).null,(Val.cmb 9 v w).n⟩=stV (Val.cmb 9 v w)from rfl,n1]at hst;by_cases j0:j=0
     ·subst j0;simp[CSI,hj,hv,q4,q5,vBx,m1,hcm,hst,D9 m2,D9 n2,hwr,hn]
     ·simp[CSI,hj,hv,q4,q5,vBx,m1,hcm,hst,D9 m2,D9 n2,hwr,hn,j0,w3]
   ·simp[CSX,hi,rA,heb,h0,DJ h0,vBx];rw[aQ (CSI 9 a b A B i) B.length (by simp[CSI,PM,hv,vBx,DJ h0,h0])]
    ·rw[aF];simp[CSI,hbl,w2,hv,hsc,CSX,vBx]
    ·intro j hj;obtain⟨w,q3,qm,q4,q5,m,n,m1,n1,m2,n2,hn,hwr⟩:=inner j hj;have hcm:=qM 9 v w (oka v hm) (okb w qm);have hst:=kZ (Val.cmb 9 v w).null (Val.cmb 9 v w).n;have w3:IntKind.i64.wrap ((j:Int)+1)=j+1:=wrO;rw[show stV ⟨(Val.cmb 9 v w).null,(Val.cmb 9 v w).n⟩=stV (Val.cmb 9 v w)from rfl,n1]at hst;by_cases j0:j=0
     ·subst j0;simp[CSI,hj,hv,q4,q5,vBx,m1,hcm,hst,D9 m2,D9 n2,hwr,hn,DJ h0,h0]
     ·simp[CSI,hj,hv,q4,q5,vBx,m1,hcm,hst,D9 m2,D9 n2,hwr,hn,j0,w3,DJ h0,h0]
set_option maxHeartbeats 8000000
theorem AS2:∀ m n:Fin 8,((m.val ||| n.val) &&& 4=0∧jY (orS m.val n.val) 4=false)∨((m.val ||| n.val) &&& 4=4∧jY (orS m.val n.val) 4=true):=by decide
theorem GI {m n:Nat} (hm:m<8) (hn:n<8):((m ||| n) &&& 4=0∧jY (orS m n) 4=false)∨((m ||| n) &&& 4=4∧jY (orS m n) 4=true):=AS2 ⟨m,hm⟩ ⟨n,hn⟩
theorem ANO:∀ m:Fin 8,(m.val &&& 18446744073709551611=0∧(jY m.val 1 || jY m.val 2)=false)∨((m.val &&& 18446744073709551611=1∨m.val &&& 18446744073709551611=2∨m.val &&& 18446744073709551611=3)∧(jY m.val 1 || jY m.val 2)=true):=by decide
theorem AF0 {m:Nat} (hm:m<8):∃ v:Nat,m &&& 18446744073709551611=v∧IntKind.i64.wrap (v:Int)=v∧((v=0∧(jY m 1 || jY m 2)=false)∨(¬ v=0∧(jY m 1 || jY m 2)=true)):=by
 rcases ANO ⟨m,hm⟩with ⟨h,q⟩|⟨h|h|h,q⟩
 ·exact⟨0,h,by decide, .inl ⟨rfl,q⟩⟩
 ·exact⟨1,h,by decide, .inr ⟨by omega,q⟩⟩
 ·exact⟨2,h,by decide, .inr ⟨by omega,q⟩⟩
 ·exact⟨3,h,by decide, .inr ⟨by omega,q⟩⟩
theorem vX {k:Int} (hk:3≤k∧k≠8∧k≠9) {m n:Nat} (hm:m<8) (hn:n<8):aH C0 197 [.int k, .int m, .int n] []=some (.int (lJ k m n),[]):=by
 rw[aD rfl Tryz.func197 rfl rfl];have h1:=D9 hm;have h2:=D9 hn;have h3:=or8 hm hn;have h4:(m ||| n) % 18446744073709551616=m ||| n:=D9 (xH (n:=3) hm hn)
 obtain⟨x,x1,x2,x3⟩:=AF0 hm;obtain⟨y,y1,y2,y3⟩:=AF0 hn;have k8:¬ k=8:=hk.2.1;have k9:¬ k=9:=hk.2.2;have e7:orS 0 7=7:=by decide
 have e3:orS 0 3=3:=by decide
 have e47:orS 4 7=7:=by decide
 have e43:orS 4 3=7:=by decide
 have e40:orS 4 0=4:=by decide
 have e00:orS 0 0=0:=by decide
 by_cases k6:k<6
 ·have hk3:k=3∨k=4∨k=5:=by omega
  rcases hk3 with rfl|rfl|rfl
  ·rcases GI hm hn with ⟨p,q⟩|⟨p,q⟩
   ·rcases x3 with ⟨x3,x4⟩|⟨x3,x4⟩
    ·simp[h1,h2,h3,h4,p,x1,x2,x3,lJ,q,x4,e00]
    ·rcases y3 with ⟨y3,y4⟩|⟨y3,y4⟩
     ·simp[h1,h2,h3,h4,p,x1,x2,x3,y1,y2,y3,lJ,q,x4,y4,e00]
     ·simp[h1,h2,h3,h4,p,x1,x2,x3,y1,y2,y3,lJ,q,x4,y4,e7,e3]
   ·rcases x3 with ⟨x3,x4⟩|⟨x3,x4⟩
    ·simp[h1,h2,h3,h4,p,x1,x2,x3,lJ,q,x4,e40]
    ·rcases y3 with ⟨y3,y4⟩|⟨y3,y4⟩
     ·simp[h1,h2,h3,h4,p,x1,x2,x3,y1,y2,y3,lJ,q,x4,y4,e40]
     ·simp[h1,h2,h3,h4,p,x1,x2,x3,y1,y2,y3,lJ,q,x4,y4,e47,e43]
  ·rcases GI hm hn with ⟨p,q⟩|⟨p,q⟩
   ·rcases x3 with ⟨x3,x4⟩|⟨x3,x4⟩
    ·simp[h1,h2,h3,h4,p,x1,x2,x3,lJ,q,x4,e00]
    ·rcases y3 with ⟨y3,y4⟩|⟨y3,y4⟩
     ·simp[h1,h2,h3,h4,p,x1,x2,x3,y1,y2,y3,lJ,q,x4,y4,e00]
     ·simp[h1,h2,h3,h4,p,x1,x2,x3,y1,y2,y3,lJ,q,x4,y4,e7,e3]
   ·rcases x3 with ⟨x3,x4⟩|⟨x3,x4⟩
    ·simp[h1,h2,h3,h4,p,x1,x2,x3,lJ,q,x4,e40]
    ·rcases y3 with ⟨y3,y4⟩|⟨y3,y4⟩
     ·simp[h1,h2,h3,h4,p,x1,x2,x3,y1,y2,y3,lJ,q,x4,y4,e40]
     ·simp[h1,h2,h3,h4,p,x1,x2,x3,y1,y2,y3,lJ,q,x4,y4,e47,e43]
  ·rcases GI hm hn with ⟨p,q⟩|⟨p,q⟩
   ·rcases x3 with ⟨x3,x4⟩|⟨x3,x4⟩
    ·simp[h1,h2,h3,h4,p,x1,x2,x3,lJ,q,x4,e00]
    ·rcases y3 with ⟨y3,y4⟩|⟨y3,y4⟩
     ·simp[h1,h2,h3,h4,p,x1,x2,x3,y1,y2,y3,lJ,q,x4,y4,e00]
     ·simp[h1,h2,h3,h4,p,x1,x2,x3,y1,y2,y3,lJ,q,x4,y4,e7,e3]
   ·rcases x3 with ⟨x3,x4⟩|⟨x3,x4⟩
    ·simp[h1,h2,h3,h4,p,x1,x2,x3,lJ,q,x4,e40]
    ·rcases y3 with ⟨y3,y4⟩|⟨y3,y4⟩
     ·simp[h1,h2,h3,h4,p,x1,x2,x3,y1,y2,y3,lJ,q,x4,y4,e40]
     ·simp[h1,h2,h3,h4,p,x1,x2,x3,y1,y2,y3,lJ,q,x4,y4,e47,e43]
 ·have k3:¬ k=3:=by omega
  have k4:¬ k=4:=by omega
  have k5:¬ k=5:=by omega
  rcases GI hm hn with ⟨p,q⟩|⟨p,q⟩
  ·rcases x3 with ⟨x3,x4⟩|⟨x3,x4⟩
   ·simp[h1,h2,h3,h4,p,x1,x2,x3,lJ,q,x4,e00,k3,k4,k5,k6,k8,k9]
   ·rcases y3 with ⟨y3,y4⟩|⟨y3,y4⟩
    ·simp[h1,h2,h3,h4,p,x1,x2,x3,y1,y2,y3,lJ,q,x4,y4,e00,k3,k4,k5,k6,k8,k9]
    ·simp[h1,h2,h3,h4,p,x1,x2,x3,y1,y2,y3,lJ,q,x4,y4,e7,e3,k3,k4,k5,k6,k8,k9]
  ·rcases x3 with ⟨x3,x4⟩|⟨x3,x4⟩
   ·simp[h1,h2,h3,h4,p,x1,x2,x3,lJ,q,x4,e40,k3,k4,k5,k6,k8,k9]
   ·rcases y3 with ⟨y3,y4⟩|⟨y3,y4⟩
    ·simp[h1,h2,h3,h4,p,x1,x2,x3,y1,y2,y3,lJ,q,x4,y4,e40,k3,k4,k5,k6,k8,k9]
    ·simp[h1,h2,h3,h4,p,x1,x2,x3,y1,y2,y3,lJ,q,x4,y4,e47,e43,k3,k4,k5,k6,k8,k9]
end Go.Proofs.YtjdfjgmebalaaaaGreat.P
namespace Go.Av
theorem Ex.wI {w:Int} {e:Ex} (h:e.wf w=true):(e.kind=1∧0≤e.col∧e.col<w∧e.kids=[])∨(e.kind=2∧e.kids=[])∨((e.kind=10∨e.kind=11)∧∃ x,e.kids=[x]∧x.wf w=true)∨((3≤e.kind∧e.kind≤9)∧∃ x y,e.kids=[x,y]∧x.wf w=true∧y.wf w=true):=by
 have hk:∀ x∈e.kids,x.wf w=true:=fun x hx=>Ex.gM h hx
 by_cases h1:e.kind=1
 ·have:=Ex.lI h h1;exact .inl ⟨h1,this.1,this.2.1,this.2.2⟩
 rw[Ex.MS]at h;simp only[zU,zP]at h;have hl:=h.1;unfold bU at hl;split at hl
 ·rename_i hc;exact .inr (.inl ⟨by omega,zW.1 (by omega)⟩)
 ·split at hl
  ·rename_i hc;obtain⟨x,hx⟩:=EM (show e.kids.length=1 by omega);exact .inr (.inr (.inl ⟨hc,x,hx,hk x (by simp[hx])⟩))
  ·split at hl
   ·rename_i hc;obtain⟨x,y,hx⟩:=Y4 (show e.kids.length=2 by omega);exact .inr (.inr (.inr ⟨hc,x,y,hx,hk x (by simp[hx]),hk y (by simp[hx])⟩))
   ·omega
theorem NP {W:Int} (st:List Int) (hl:(st.length:Int)=W) (hs:∀ a∈st,okS a):∀ e:Ex,e.wf W=true→okS (JU st e):=by
 intro e
 induction e using Ex.ind with
 | h k c v ks ih =>
  intro hw;rw[VM]
  rcases Ex.wI hw with ⟨h1,h2,h3,h4⟩|⟨h1,h2⟩|⟨h1,x,h2,h3⟩|⟨h1,x,y,h2,h3,h4⟩
  ·rw[if_pos h1];generalize Ex.col (.mk k c v ks)=cc at *
   have hlt:cc.toNat<st.length:=by omega
   rw[zX hlt];exact hs _ (xZ hlt)
  ·rw[if_neg (by omega),if_pos h1];exact AR2 _
  ·have hx:=ih x (by simp only[Ex.kids]at h2;simp[h2]) h3;obtain⟨n,hn⟩:=zB (show 0≤JU st x by have:=hx.1;omega);have ht:=AIS ⟨n,by have:=hx.2;omega⟩ (by have:=hx.1;simp;omega);rw[if_neg (by omega),if_neg (by omega),h2];simp only[x9,xU,yY,hn]
   rcases h1 with h1|h1
   ·rw[if_pos h1];exact ht.1
   ·rw[if_neg (by omega),if_pos h1];exact ht.2
  ·have hx:=ih x (by simp only[Ex.kids]at h2;simp[h2]) h3;have hy:=ih y (by simp only[Ex.kids]at h2;simp[h2]) h4;rw[if_neg (by omega),if_neg (by omega),if_neg (by omega),if_neg (by omega),h2];exact AOZ hx hy
end Go.Av
namespace Go.Proofs.YtjdfjgmebalaaaaGreat.P
open Go Go.Av
set_option maxRecDepth 4000
set_option maxHeartbeats 8000000
theorem seven {a:Int} (h:okS a):a=1∨a=2∨a=3∨a=4∨a=5∨a=6∨a=7:=by have:=h.1;have:=h.2;omega
theorem AFH {k a b:Int} (hk:3≤k) (ha:okS a) (hb:okS b):aH C0 197 [.int k, .int a, .int b] []=some (.int (lJ k a b),[]):=by
 by_cases h:k=8∨k=9
 ·exact AO h ha hb
 ·obtain⟨m,rfl⟩:=zB (show 0≤a by have:=ha.1;omega);obtain⟨n,rfl⟩:=zB (show 0≤b by have:=hb.1;omega);exact vX ⟨hk,by omega,by omega⟩ (by have:=ha.2;omega) (by have:=hb.2;omega)
theorem TA {W:Int} (st:List Int) (hl:(st.length:Int)=W) (hs:∀ a∈st,okS a):∀ e:Ex,e.wf W=true→aH C0 178 [.i (.iref e.cells), .i (.isl (aG st))] []=some (.int (JU st e),[]):=by
 intro e
 induction e using Ex.ind with
 | h k c v ks ih =>
  intro hw;have hall:=NP st hl hs;rw[aD rfl Tryz.func178 rfl rfl,Ex.aA,VM]
  rcases Ex.wI hw with ⟨h1,h2,h3,h4⟩|⟨h1,h2⟩|⟨h1,x,h2,h3⟩|⟨h1,x,y,h2,h3,h4⟩
  ·generalize Ex.mk k c v ks=e at *
   have hlt:e.col.toNat<st.length:=by omega
   have h5:=zX hlt;generalize st[e.col.toNat]=s at h5;have r2:=aT h5;obtain⟨_,h6⟩:=zZ.1 h5;simp[h1,h2,r2,h6,show e.col<st.length by omega]
  ·generalize Ex.mk k c v ks=e at *
   have hst:=kZ e.val.null e.val.n;simp[h1,hst]
  ·have hx:=ih x (by simp only[Ex.kids]at h2;simp[h2]) h3;have ho:=hall x h3;generalize Ex.mk k c v ks=e at *
   generalize hso:JU st x=s at hx ho;rw[Ex.aA]at hx
   rcases h1 with h1|h1
   ·rcases seven ho with rfl|rfl|rfl|rfl|rfl|rfl|rfl<;>(simp[h1,h2,Ex.aB,Ex.aA x,hx,hso];try decide)
   ·rcases seven ho with rfl|rfl|rfl|rfl|rfl|rfl|rfl<;>(simp[h1,h2,Ex.aB,Ex.aA x,hx,hso];try decide)
  ·have hx:=ih x (by simp only[Ex.kids]at h2;simp[h2]) h3;have hy:=ih y (by simp only[Ex.kids]at h2;simp[h2]) h4;have ho:=hall x h3;have hp:=hall y h4;generalize Ex.mk k c v ks=e at *
   have hc:=AFH (k:=e.kind) h1.1 ho hp;generalize hso:JU st x=s at hx ho hc;generalize hto:JU st y=t at hy hp hc;rw[Ex.aA]at hx hy;have q1:¬ e.kind=1:=by omega
   have q2:¬ e.kind=2:=by omega
   have q3:¬ e.kind=10:=by omega
   have q4:¬ e.kind=11:=by omega
   simp[q1,q2,q3,q4,h2,Ex.aB,Ex.aA x,Ex.aA y,hx,hy,hc,hso,hto]
end Go.Proofs.YtjdfjgmebalaaaaGreat.P
namespace Go.Av
theorem AFD (n:Nat) (x:Int):aG (List.replicate n x)=List.replicate n [.int x]:=by
 induction n with
 | zero=>rfl
 | succ n ih=>simp[y7,aG,ih]
def st1 (n i:Nat):List Int:=List.replicate i 7++List.replicate (n-i) 0
def st2 (p m i:Nat):List Int:=List.replicate p 7++(List.replicate i 4++List.replicate (m-i) 7)
theorem ADZ {a b:Int} {n i:Nat} (h:i<n):(List.replicate i a++List.replicate (n-i) b)[i]?=some b:=by
 rw[zH (by simp)];have:0<n-i:=by omega
 simp[List.getElem?_replicate,this]
theorem ADY {a b:Int} {n i:Nat} (h:i<n):(List.replicate i a++List.replicate (n-i) b).set i a=List.replicate (i+1) a++List.replicate (n-(i+1)) b:=by
 rw[List.set_append_right _ _ (by simp)];rw[show n-i=(n-(i+1))+1 by omega,y7,List.replicate_succ'];simp
theorem AMW {n i:Nat} (h:i<n):(st1 n i)[i]?=some 0:=ADZ h
theorem AMV {n i:Nat} (h:i<n):(st1 n i).set i 7=st1 n (i+1):=ADY h
theorem AMT {p m i:Nat} (h:i<m):(st2 p m i)[p+i]?=some 7:=by
 unfold st2;rw[zH (by simp)];simpa using ADZ (a:=4) (b:=7) h
theorem AMS {p m i:Nat} (h:i<m):(st2 p m i).set (p+i) 4=st2 p m (i+1):=by
 unfold st2;rw[List.set_append_right _ _ (by simp)];simp only[zA6,yC];rw[ADY h]
theorem AMX {p m:Nat}:st1 (p+m) (p+m)=st2 p m 0:=by
 simp[st1,st2,List.replicate_append_replicate]
theorem AMU (p m:Nat):st2 p m m=kK ((p+m:Nat):Int) p:=by
 unfold st2 kK;apply List.ext_getElem?;intro i;simp only[Nat.sub_self,List.replicate_zero,zA2,Int.toNat_natCast,xQ];by_cases h:i<p
 ·rw[zG (by simpa using h)];simp[h,show i<p+m by omega]
 ·rw[zH (by simp;omega)];by_cases h2:i<p+m
  ·simp[h2,show i-p<m by omega,show p≤i by omega]
  ·simp[h2,show ¬ i-p<m by omega]
@[simp] theorem AA4 {p m i:Nat} (h:i≤m):(st2 p m i).length=p+m:=by simp[st2];omega
def l6 (p m:Nat):List Int:=(List.range m).map fun(i:Nat)=>((p+i:Nat):Int)
@[simp] theorem ALO (p m:Nat):(l6 p m).length=m:=by simp[l6]
theorem TZ {p m i:Nat} (h:i<m):(l6 p m)[i]?=some ((p+i:Nat):Int):=by simp[l6,h]
theorem MI (p m:Nat):l6 p (m+1)=l6 p m++[((p+m:Nat):Int)]:=by simp[l6,zB2]
theorem EI (W left:Int):∀ a∈kK W left,okS a:=by
 intro a ha;unfold kK at ha;obtain⟨i,-,rfl⟩:=yF.1 ha;unfold okS;split<;>omega
theorem nW (W left:Int):(kK W left).length=W.toNat:=by simp[kK]
theorem AMB:∀ a:Fin 8,(a.val &&& 2=0∧jY a.val 2=false)∨(a.val &&& 2=2∧jY a.val 2=true):=by decide
end Go.Av
namespace Go.Proofs.YtjdfjgmebalaaaaGreat.P
open Go Go.Av
set_option maxRecDepth 4000
set_option maxHeartbeats 8000000
def RJ1 (e:Ex) (l:List Int) (n:Nat) (i:Nat):AS :=
 { env:=[(0, .i (.agg [.int e.kind, .int e.col, .bool e.val.null, .int e.val.n, .isl (Ex.aB e.kids)])),(1, .int n),(2, .i (.isl (aG l))),(3, .own 0 0),(6, .bool false),(7, .osl 1 1 0 n),(8,jk i (.int (i-1))),(10, .junk),(14, .bool false),(18, .int n),(19, .int i),(20,jk i (.bool true)),(26, .junk),(27, .junk),(28, .junk),(29, .junk),(38, .junk)],
   st:=[some (.box [.int e.kind, .int e.col, .bool e.val.null, .int e.val.n, .i (.isl (Ex.aB e.kids))]),some (.arr 1 (aG (st1 n i)))] }
def RJ2 (e:Ex) (n p m:Nat) (i:Nat):AS :=
 { env:=[(0, .i (.agg [.int e.kind, .int e.col, .bool e.val.null, .int e.val.n, .isl (Ex.aB e.kids)])),(1, .int n),(2, .i (.isl (aG (l6 p m)))),(3, .own 0 0),(6, .bool false),(7, .osl 1 1 0 n),(8, .int (n-1)),(10,jk i (.int ((p:Int)+i-1))),(14, .bool false),(18, .int n),(19, .int n),(20, .bool false),(26, .i (.isl (aG (l6 p m)))),(27, .int m),(28, .int i),(29,jk i (.bool true)),(38,jk i (.bool true))],
   st:=[some (.box [.int e.kind, .int e.col, .bool e.val.null, .int e.val.n, .i (.isl (Ex.aB e.kids))]),some (.arr 1 (aG (st2 p m i)))] }
theorem VU (e:Ex) {n p m:Nat} (hn:n=p+m) (h:e.ok n=true):aH C0 157 [.i (.agg e.cells), .int n, .i (.isl (aG (l6 p m)))] []=some (.bool (AE5 e n p),[]):=by
 have hok:=ok_eq n e;rw[h]at hok;obtain⟨hw,g1,g2⟩:=Ex.rJ h;have hlen:((kK n p).length:Int)=(n:Int):=by rw[nW];omega
 have ho:=TA (kK n p) hlen (EI _ _) e hw;have hs:=NP (kK n p) hlen (EI _ _) e hw;rw[aD rfl Tryz.func157 rfl rfl];unfold AE5;generalize JU (kK n p) e=s at ho hs;obtain⟨s,rfl⟩:=zB (show 0≤s by have:=hs.1;omega);have hs8:s<8:=by have:=hs.2;omega
 have hall:=AMU p m;rw[← hn]at hall;rw[← hall]at ho;rw[Ex.aA]at *
 have hb:8*(n:Int)≤281474976710656:=by omega
 have hz:=AFD n 0;have hz1:st1 n 0=List.replicate n 0:=by simp[st1]
 have hs1:st1 n n=st2 p m 0:=by rw[hn];exact AMX
 have hl2:∀ i,i≤m→(st2 p m i).length=n:=fun i hi=>by rw[AA4 hi,hn]
 have hl3:(st2 p m m).take n=st2 p m m:=zY (by rw[hl2 m (zM m)];exact zM n);simp[hok,hb];rw[aQ (RJ1 e (l6 p m) n) n (by simp[RJ1,hz1,hz])]
 ·rw[aF];simp[RJ1];rw[aQ (RJ2 e n p m) m (by simp[RJ2,hs1,bH (show n≠0 by omega)])]
  ·rw[aF];have h2:=AMB ⟨s,hs8⟩
   rcases h2 with ⟨h2,h3⟩|⟨h2,h3⟩
   ·simp at h2 h3;simp[RJ2,ho,D9 hs8,h2,h3,hl2,hl3]
   ·simp at h2 h3;simp[RJ2,ho,D9 hs8,h2,h3,hl2,hl3]
  ·intro i hi;have h3:=TZ (p:=p) hi;have r2:=aT h3;have r3:=aT (AMT (p:=p) hi);have hset:=AMS (p:=p) hi;have hin:((p:Int)+i)<n:=by omega
   have hl:=hl2 i (by omega);have hin2:p+i<n:=by omega
   have hin0:0≤(p:Int)+i:=by omega
   have w2:IntKind.i64.wrap ((i:Int)+1)=i+1:=wrO;simp[RJ2,hi,r2,r3,w2,H8,hset,hin,hin0,hl,show((p:Int)+i).toNat=p+i by omega];omega
 ·intro i hi;have r3:=aT (AMW hi);have hset:=AMV hi;have w2:IntKind.i64.wrap ((i:Int)+1)=i+1:=wrO;simp[RJ1,hi,r3,w2,H8,hset]
end Go.Proofs.YtjdfjgmebalaaaaGreat.P
namespace Go.Av
theorem AEQ {n p i:Nat} (h:i<n):(kK n p)[i]?=some (if p≤i then 4 else 7):=by
 have:i<(kK (n:Int) p).length:=by rw[nW];simpa using h
 unfold kK;simp[h]
end Go.Av
namespace Go.Proofs.YtjdfjgmebalaaaaGreat.P
open Go Go.Av
set_option maxRecDepth 4000
set_option maxHeartbeats 8000000
def CLX (n p:Nat) (i:Nat):AS :=
 { env:=[(0, .int p),(1, .int n),(4, .nils),(5, .osl 0 1 0 i),(6, .int ((p:Int)+i)),(11,jk i (.bool true))],st:=[some (.arr 1 (aG (l6 p i)))] }
theorem OP {n p m:Nat} (hn:n=p+m) (hb:n<1000):aH C0 170 [.int p, .int n] []=some (.i (.isl (aG (l6 p m))),[]):=by
 rw[aD rfl Tryz.func170 rfl rfl];simp;rw[aQ (CLX n p) m (by simp[CLX,l6,aG])]
 ·rw[aF];have h1:¬ ((p:Int)+m<n):=by omega
  have h2:(l6 p m).take m=l6 p m:=zY (by simp);simp[CLX,h1,h2]
 ·intro i hi;have h1:((p:Int)+i<n):=by omega
  have w2:IntKind.i64.wrap ((p:Int)+i+1)=(p:Int)+(i+1):=by rw[wrO];omega
  have hl:(i+1)*8≤140737488355328:=by omega
  have h2:(l6 p i).take i=l6 p i:=zY (by simp);simp[CLX,h1,w2,hl,h2,MI,kM]
def nsS (p i k:Nat):Int:=if p≤i∧i<p+k then 4 else 7
def nsB (p m i:Nat):AV:=if m=0 then .junk else jk i (.bool (decide ((p:Int)+(m-1)=i-1)))
@[simp] theorem ASL (p m i:Nat):dR (nsB p m i)=[]:=by unfold nsB;split<;>simp
@[simp] theorem AV7 (r:Nat→Option Nat) (p m i:Nat):ren r (nsB p m i)=nsB p m i:=by unfold nsB;split<;>simp
def NSO (n p m:Nat) (i:Nat):AS :=
 { env:=[(0, .int n),(1, .i (.isl (aG (l6 p m)))),(4, .nils),(5, .osl 0 1 0 i),(6, .int i),(7,jk i (.int (nsS p (i-1) m))),(8,jk i (.int m)),(12,jk i (.bool true)),(18,jk i (.bool false)),(26,nsB p m i)],st:=[some (.arr 1 (aG ((kK n p).take i)))] }
def NSI (n p m:Nat) (i k:Nat):AS :=
 { env:=[(0, .int n),(1, .i (.isl (aG (l6 p m)))),(4, .nils),(5, .osl 0 1 0 i),(6, .int i),(7, .int (nsS p i k)),(8, .int k),(12, .bool true),(18,if k=0 then jk i (.bool false)else .bool true),(26,if k=0 then nsB p m i else .bool (decide ((p:Int)+(k-1)=i)))],st:=[some (.arr 1 (aG ((kK n p).take i)))] }
theorem NU {n p m:Nat} (hn:n=p+m) (hb:n<1000):aH C0 191 [.int n, .i (.isl (aG (l6 p m)))] []=some (.i (.isl (aG (kK n p))),[]):=by
 rw[aD rfl Tryz.func191 rfl rfl];have hnl:(kK (n:Int) p).length=n:=by rw[nW];omega
 simp;rw[aQ (NSO n p m) n (by simp[NSO,aG,nsB])]
 ·rw[aF];have h2:(kK (n:Int) p).take n=kK n p:=zY (by omega);simp[NSO,h2,hnl]
 ·intro i hi;have w2:IntKind.i64.wrap ((i:Int)+1)=i+1:=wrO;have h3:=AEQ (p:=p) hi;have htk:=aL h3;have hl:(i+1)*8≤140737488355328:=by omega
  have hsm:nsS p i m=if p≤i then 4 else 7:=by unfold nsS;by_cases h:p≤i<;>simp[h];omega
  have hlt:((kK (n:Int) p).take i).length=i:=by simp[hnl];omega
  have htt:((kK (n:Int) p).take i).take i=(kK (n:Int) p).take i:=zY (by omega);simp only[← hsm]at htk;simp[NSO,hi];rw[aQ (NSI n p m i) m (by simp[NSI,nsS];try omega)]
  ·rw[aF];by_cases hm:m=0
   ·subst hm;simp[NSI,NSO,w2,hl,htk,kM,hlt,htt,nsB]
   ·by_cases h0:i=0
    ·subst h0;simp[NSI,NSO,hl,htk,kM,nsB,hm,aG]
    ·simp[NSI,NSO,w2,hl,htk,kM,hlt,htt,nsB,hm]
  ·intro k hk;have h5:=TZ (p:=p) hk;have r2:=aT h5;have w3:IntKind.i64.wrap ((k:Int)+1)=k+1:=wrO;have e1:∀ x:AV,(if(k+1=0)then x else(AV.bool (decide ((p:Int)+((k+1:Nat)-1)=i))))=AV.bool (decide ((p:Int)+k=i)):=by intro x;simp
   by_cases he:(p:Int)+k=i
   ·have hs:nsS p i (k+1)=4:=by unfold nsS;rw[if_pos (by omega)]
    by_cases k0:k=0
    ·subst k0;simp at he;simp[NSI,hk,r2,hs,he]
    ·simp[NSI,hk,r2,w3,hs,he,k0]
   ·have hs:nsS p i (k+1)=nsS p i k:=by
     unfold nsS;by_cases hp:p≤i∧i<p+k
     ·rw[if_pos hp,if_pos (by omega)]
     ·rw[if_neg hp,if_neg (by omega)]
    by_cases k0:k=0
    ·subst k0;simp at he;simp[NSI,hk,r2,hs,he]
    ·simp[NSI,hk,r2,w3,hs,he,k0]
end Go.Proofs.YtjdfjgmebalaaaaGreat.P
namespace Go.Av
def AZ (x:Int):Val:=⟨decide (x=4),if x=2 then 1 else 0⟩
def tsI (k a b x s:Int) (j:Nat):Int:=(([1,2,4]:List Int).take j).foldl (fun s y=>if(jY a x && jY b y)=true then orS s (stV (Val.cmb k (AZ x) (AZ y)))else s) s
def tsO (k a b:Int) (i:Nat):Int:=(([1,2,4]:List Int).take i).foldl (fun s x=>tsI k a b x s 3) 0
theorem AD2 {k a b x s:Int} (hs:ACM s) (j:Nat):ACM (tsI k a b x s j):=by
 unfold tsI;generalize (([1,2,4]:List Int).take j)=l
 induction l generalizing s with
 | nil=>simpa using hs
 | cons y l ih =>
  simp only[xV];apply ih;split
  ·exact AEM hs (FH _)
  ·exact hs
theorem AMD {k a b:Int} (i:Nat):ACM (tsO k a b i):=by
 unfold tsO
 have:∀ (l:List Int) (s:Int),ACM s→ACM (l.foldl (fun s x=>tsI k a b x s 3) s):=by
  intro l
  induction l with
  | nil=>intro s hs;simpa using hs
  | cons y l ih=>intro s hs;exact ih _ (AD2 hs 3)
 exact this _ _ ⟨0,rfl,by omega⟩
theorem AQV:∀ a b:Fin 8,tsO 8 a.val b.val 3=lJ 8 a.val b.val∧tsO 9 a.val b.val 3=lJ 9 a.val b.val:=by decide
end Go.Av
namespace Go.Proofs.YtjdfjgmebalaaaaGreat.P
open Go Go.Av
set_option maxRecDepth 4000
set_option maxHeartbeats 8000000
theorem AD7 (b:Bool) (n:Int):aH C0 165 [.i (.agg [.bool b, .int n])] []=some (.int (if b=true then 2 else if n=0 then 0 else 1),[]):=by
 rw[aD rfl Tryz.func165 rfl rfl]
 cases b
 ·by_cases h:n=0<;>simp[h]
 ·simp
theorem AN1 (t:Int) (h:0≤t∧t≤2):aH C0 218 [.int t] []=some (.int (if t=2 then 2 else 1-t),[]):=by
 rw[aD rfl Tryz.func218 rfl rfl];have:t=0∨t=1∨t=2:=by omega
 rcases this with rfl|rfl|rfl<;>simp
theorem AN4 (s t:Int):aH C0 217 [.int s, .int t] []=some (.int (if s=0∨t=0 then 0 else if s=1∧t=1 then 1 else 2),[]):=by
 rw[aD rfl Tryz.func217 rfl rfl];by_cases h1:s=0
 ·simp[h1]
 ·by_cases h2:t=0
  ·simp[h1,h2]
  ·by_cases h3:s=1
   ·by_cases h4:t=1
    ·simp[h3,h4]
    ·simp[h3,h4,h2]
   ·simp[h1,h2,h3]
theorem ARF (t:Int):aH C0 216 [.int t] []=some (.i (.agg [.bool (decide (t=2)), .int (if t=2 then 0 else t)]),[]):=by
 rw[aD rfl Tryz.func216 rfl rfl];by_cases h:t=2
 ·subst h;simp
 ·simp[h]
theorem AIB {k x y:Int} (hk:k=8∨k=9) (hx:x=1∨x=2∨x=4) (hy:y=1∨y=2∨y=4):aH C0 209 [.int k, .i (.agg [.bool (AZ x).null, .int (AZ x).n]), .i (.agg [.bool (AZ y).null, .int (AZ y).n])] []=some (.i (.agg [.bool (Val.cmb k (AZ x) (AZ y)).null, .int (Val.cmb k (AZ x) (AZ y)).n]),[]):=by
 rw[aD rfl Tryz.func209 rfl rfl]
 rcases hk with rfl|rfl<;>rcases hx with rfl|rfl|rfl<;>rcases hy with rfl|rfl|rfl<;>(simp[AZ,AD7,AN1,AN4,ARF];try decide)
@[simp] theorem wr8:IntKind.i64.wrap 8=8:=by decide
def pw (i:Nat):Int:=if i=0 then 1 else if i=1 then 2 else if i=2 then 4 else 8
def TSO (k:Int) (a b:Nat) (i:Nat):AS :=
 { env:=[(0, .int k),(1, .int a),(2, .int b),(6, .int 0),(7, .int (tsO k a b i)),(8, .int (pw i)),(9,jk i (.int 8)),(11,jk i (.bool true)),(15,jk i (.bool false)),(29,jk i (.bool (jY a (pw (i-1)) && jY b 4)))],st:=[] }
def TSI (k:Int) (a b:Nat) (i:Nat) (j:Nat):AS :=
 { env:=[(0, .int k),(1, .int a),(2, .int b),(6, .int 0),(7, .int (tsI k a b (pw i) (tsO k a b i) j)),(8, .int (pw i)),(9, .int (pw j)),(11, .bool true),(15,jk (i+j) (.bool (decide (j≠0)))),(29,jk (i+j) (.bool (if j=0 then jY a (pw (i-1)) && jY b 4 else jY a (pw i) && jY b (pw (j-1)))))],st:=[] }
theorem AFO {a:Nat} (ha:a<8) {x:Int} (hx:0<x) (hx8:x<8):IntKind.i64.wrap ((a:Int) / x)=(a:Int) / x∧(jY a x=decide (((a:Int) / x).tmod 2=1)):=by
 have h2:0≤(a:Int) / x:=Int.ediv_nonneg (by omega) (by omega);have h3:(a:Int) / x≤a:=Int.ediv_le_self _ (by omega);refine⟨wrO,?_⟩;unfold jY;rw[Int.tmod_eq_emod_of_nonneg h2]
theorem ACZ (x:Int):aH C0 210 [.int x] []=some (.i (.agg [.bool (AZ x).null, .int (AZ x).n]),[]):=ZN x
theorem AHT {k a b x s:Int} {j:Nat} {y:Int} (h:(([1,2,4]:List Int))[j]?=some y):tsI k a b x s (j+1)=if(jY a x && jY b y)=true then orS (tsI k a b x s j) (stV (Val.cmb k (AZ x) (AZ y)))else tsI k a b x s j:=by
 unfold tsI;rw[aL h,yN];rfl
theorem AHS {k a b:Int} {i:Nat} {x:Int} (h:(([1,2,4]:List Int))[i]?=some x):tsO k a b (i+1)=tsI k a b x (tsO k a b i) 3:=by
 unfold tsO;rw[aL h,yN];rfl
theorem XW (i:Nat) (hi:i<3):(pw i=1∨pw i=2∨pw i=4)∧IntKind.i64.wrap (2*pw i)=pw (i+1)∧(([1,2,4]:List Int))[i]?=some (pw i):=by
 have h:i=0∨i=1∨i=2:=by omega
 rcases h with rfl|rfl|rfl<;>decide
theorem wO {k:Int} (hk:k=8∨k=9) {a b:Nat} (ha:a<8) (hb:b<8):aH C0 204 [.int k, .int a, .int b] []=some (.int (tsO k a b 3),[]):=by
 have p0:pw 0=1:=rfl;have p2:pw 2=4:=rfl;have p3:pw 3=8:=rfl;rw[aD rfl Tryz.func204 rfl rfl];simp;rw[aQ (TSO k a b) 3 (by simp[TSO,tsO,p0])]
 ·rw[aF];simp[TSO,p3]
 ·intro i hi;obtain⟨x1,x2,x3⟩:=XW i hi;have hsc:=AHS (k:=k) (a:=a) (b:=b) x3;have hlo:=AMD (k:=k) (a:=a) (b:=b) i;have xl:pw i≤4:=by omega
  have xz:(pw i != 0)=true:=by simp;omega
  obtain⟨ax,bx⟩:=AFO ha (x:=pw i) (by omega) (by omega);simp[TSO,xl];rw[aQ (TSI k a b i) 3 (by simp[TSI,tsI,p0])]
  ·rw[aF];simp[TSI,TSO,p2,p3,hsc,x2]
  ·intro j hj;obtain⟨y1,y2,y3⟩:=XW j hj;have yl:pw j≤4:=by omega
   have yz:(pw j != 0)=true:=by simp;omega
   have hs:=AHT (k:=k) (a:=a) (b:=b) (x:=pw i) (s:=tsO k a b i) y3;obtain⟨m,m1,m2⟩:=AD2 (k:=k) (a:=a) (b:=b) (x:=pw i) hlo j;obtain⟨n,n1,n2⟩:=FH (Val.cmb k (AZ (pw i)) (AZ (pw j)));have hcm:=AIB hk x1 y1;have hst:=QF (Val.cmb k (AZ (pw i)) (AZ (pw j))).null (Val.cmb k (AZ (pw i)) (AZ (pw j))).n;rw[show stV ⟨(Val.cmb k (AZ (pw i)) (AZ (pw j))).null,(Val.cmb k (AZ (pw i)) (AZ (pw j))).n⟩=stV (Val.cmb k (AZ (pw i)) (AZ (pw j)))from rfl,n1]at hst;rw[m1,n1,NQ]at hs;obtain⟨cx,dx⟩:=AFO hb (x:=pw j) (by omega) (by omega);have hjk:=bH (show i+(j+1)≠0 by omega);by_cases p:jY a (pw i)=true
   ·have p':=p;rw[bx,zP]at p';by_cases q:jY b (pw j)=true
    ·have q':=q;rw[dx,zP]at q';rw[p,q]at hs;simp only[Bool.and_self,if_true]at hs;simp[TSI,yl,xz,yz,y2,hjk,ax,cx,p',q',p,q,ACZ,hcm,hst,m1,D9 m2,D9 n2,or8 m2 n2,hs]
    ·have q2:jY b (pw j)=false:=by simpa using q
     have q':=q;rw[dx,zP]at q';rw[p,q2]at hs;simp only[Bool.and_false,yX,if_false]at hs;simp[TSI,yl,xz,yz,y2,hjk,ax,cx,p',q',p,q2,m1,hs]
   ·have p2':jY a (pw i)=false:=by simpa using p
    have p':=p;rw[bx,zP]at p';rw[p2']at hs;simp only[Bool.false_and,yX,if_false]at hs;simp[TSI,yl,xz,yz,y2,hjk,ax,p',p2',m1,hs]
theorem AI2 {k a b:Int} (hk:k=8∨k=9) (ha:okS a) (hb:okS b):aH C0 204 [.int k, .int a, .int b] []=some (.int (lJ k a b),[]):=by
 obtain⟨m,rfl⟩:=zB (show 0≤a by have:=ha.1;omega);obtain⟨n,rfl⟩:=zB (show 0≤b by have:=hb.1;omega);have hm:m<8:=by have:=ha.2;omega
 have hn:n<8:=by have:=hb.2;omega
 have ht:=AQV ⟨m,hm⟩ ⟨n,hn⟩
 rcases hk with rfl|rfl
 ·rw[wO (.inl rfl) hm hn];simp only at ht;rw[ht.1]
 ·rw[wO (.inr rfl) hm hn];simp only at ht;rw[ht.2]
theorem AIY:∀ m:Fin 8,(m.val &&& 3=0∧(jY m.val 1 || jY m.val 2)=false)∨((m.val &&& 3=1∨m.val &&& 3=2∨m.val &&& 3=3)∧(jY m.val 1 || jY m.val 2)=true):=by decide
theorem AX7 {m:Nat} (hm:m<8):∃ v:Nat,m &&& 3=v∧IntKind.i64.wrap (v:Int)=v∧((v=0∧(jY m 1 || jY m 2)=false)∨(¬ v=0∧(jY m 1 || jY m 2)=true)):=by
 rcases AIY ⟨m,hm⟩with ⟨h,q⟩|⟨h|h|h,q⟩
 ·exact⟨0,h,by decide, .inl ⟨rfl,q⟩⟩
 ·exact⟨1,h,by decide, .inr ⟨by omega,q⟩⟩
 ·exact⟨2,h,by decide, .inr ⟨by omega,q⟩⟩
 ·exact⟨3,h,by decide, .inr ⟨by omega,q⟩⟩
theorem QI {W:Int} (st:List Int) (hl:(st.length:Int)=W) (hs:∀ a∈st,okS a):∀ e:Ex,e.wf W=true→aH C0 190 [.i (.agg e.cells), .i (.isl (aG st))] []=some (.int (JU st e),[]):=by
 intro e
 induction e using Ex.ind with
 | h k c v ks ih =>
  intro hw;have hall:=NP st hl hs;rw[aD rfl Tryz.func190 rfl rfl,Ex.aA,VM]
  rcases Ex.wI hw with ⟨h1,h2,h3,h4⟩|⟨h1,h2⟩|⟨h1,x,h2,h3⟩|⟨h1,x,y,h2,h3,h4⟩
  ·generalize Ex.mk k c v ks=e at *
   have hlt:e.col.toNat<st.length:=by omega
   have h5:=zX hlt;generalize st[e.col.toNat]=s at h5;have r2:=aT h5;obtain⟨_,h6⟩:=zZ.1 h5;simp[h1,h2,r2,h6,show e.col<st.length by omega]
  ·generalize Ex.mk k c v ks=e at *
   have hst:=QF e.val.null e.val.n;simp[h1,hst]
  ·have hx:=ih x (by simp only[Ex.kids]at h2;simp[h2]) h3;have ho:=hall x h3;generalize Ex.mk k c v ks=e at *
   generalize hso:JU st x=s at hx ho;rw[Ex.aA]at hx
   rcases h1 with h1|h1
   ·rcases seven ho with rfl|rfl|rfl|rfl|rfl|rfl|rfl<;>(simp[h1,h2,Ex.aB,Ex.aA x,hx,hso];try decide)
   ·rcases seven ho with rfl|rfl|rfl|rfl|rfl|rfl|rfl<;>(simp[h1,h2,Ex.aB,Ex.aA x,hx,hso];try decide)
  ·have hx:=ih x (by simp only[Ex.kids]at h2;simp[h2]) h3;have hy:=ih y (by simp only[Ex.kids]at h2;simp[h2]) h4;have ho:=hall x h3;have hp:=hall y h4;generalize Ex.mk k c v ks=e at *
   generalize hso:JU st x=s at hx ho;generalize hto:JU st y=t at hy hp;rw[Ex.aA]at hx hy;have q1:¬ e.kind=1:=by omega
   have q2:¬ e.kind=2:=by omega
   have q3:¬ e.kind=10:=by omega
   have q4:¬ e.kind=11:=by omega
   by_cases hk:e.kind=8∨e.kind=9
   ·have hc:=AI2 (k:=e.kind) hk ho hp
    rcases hk with hk|hk<;>(rw[hk]at hc;simp[hk,h2,Ex.aB,Ex.aA x,Ex.aA y,hx,hy,hc,hso,hto])
   ·have q5:¬ e.kind=8:=by omega
    have q6:¬ e.kind=9:=by omega
    have hcs:lJ e.kind s t=orS (if jY (orS s t) 4=true then 4 else 0) (if(jY s 1 || jY s 2)=true∧(jY t 1 || jY t 2)=true then(if e.kind<6 then 7 else 3)else 0):=if_neg hk;obtain⟨m,rfl⟩:=zB (show 0≤s by have:=ho.1;omega);obtain⟨n,rfl⟩:=zB (show 0≤t by have:=hp.1;omega);have hm:m<8:=by have:=ho.2;omega
    have hn:n<8:=by have:=hp.2;omega
    have h1:=D9 hm;have h2':=D9 hn;have h3':=or8 hm hn;have h4':(m ||| n) % 18446744073709551616=m ||| n:=D9 (xH (n:=3) hm hn)
    obtain⟨x',x1,x2,x3⟩:=AX7 hm;obtain⟨y',y1,y2,y3⟩:=AX7 hn;have e7:orS 0 7=7:=by decide
    have e3:orS 0 3=3:=by decide
    have e47:orS 4 7=7:=by decide
    have e43:orS 4 3=7:=by decide
    have e40:orS 4 0=4:=by decide
    have e00:orS 0 0=0:=by decide
    rcases GI hm hn with ⟨p,q⟩|⟨p,q⟩<;>rcases x3 with ⟨x3,x4⟩|⟨x3,x4⟩<;>rcases y3 with ⟨y3,y4⟩|⟨y3,y4⟩<;>by_cases q7:e.kind<6 <;>
     simp[q1,q2,q3,q4,q5,q6,q7,h2,Ex.aB,Ex.aA x,Ex.aA y,hx,hy,hso,hto,hcs,h1,h2',h3',h4',p,q,x1,x2,x3,x4,y1,y2,y3,y4,e7,e3,e47,e43,e40,e00]
theorem V7 (e:Ex) {n p m:Nat} (hn:n=p+m) (hb:n<1000) (h:e.wf n=true):aH C0 169 [.i (.agg e.cells), .int n, .i (.isl (aG (l6 p m)))] []=some (.bool (AE5 e n p),[]):=by
 have hlen:((kK n p).length:Int)=(n:Int):=by rw[nW];omega
 have ho:=QI (kK n p) hlen (EI _ _) e h;have hs:=NP (kK n p) hlen (EI _ _) e h;have hns:=NU hn hb;rw[aD rfl Tryz.func169 rfl rfl];unfold AE5;generalize JU (kK n p) e=s at ho hs;rw[Ex.aA]at *
 rcases seven hs with rfl|rfl|rfl|rfl|rfl|rfl|rfl<;>(simp[hns,ho];try decide)
set_option maxHeartbeats 4000000
def jC (g:FuncId) (ws:List Int) (r:Int) (p:Pn):Prop:=∃ (q:Pn) (b:Bool),aH C0 g [.i (.iref p.cells), .i (.isl (aG ws))] []=some (.tup [.i (.agg q.cells), .bool b],[])∧(b=true→rwP ws r p=some q)∧(b=false→∀ q',rwP ws r p=some q'→∀ lv,q'.wd ws lv=0)
@[simp] theorem ASR (e:Ex) (k:Pn):(filt e k).kind=2:=rfl
@[simp] theorem ARX (es:List Ex) (k:Pn):(proj es k).kind=3:=rfl
@[simp] theorem AS1 (kd:Int) (e:Ex) (a b:Pn):(bA kd e a b).kind=kd:=rfl
@[simp] theorem APO (a b:Pn):(bY a b).kind=6:=rfl
theorem fB (ws:List Int) (r:Int) (e:Ex) (k:Pn):rwP ws r (filt e k)=rwF ws r e k:=by simp[rwP,filt,Pn.ex0,Pn.kG,Pn.kind,Pn.exprs,Pn.kids]
theorem jC.no {g:FuncId} {ws:List Int} {r:Int} {p:Pn} (h:aH C0 g [.i (.iref p.cells), .i (.isl (aG ws))] []=some (.tup [.i (.agg Pn.zero.cells), .bool false],[])) (hr:rwP ws r p=none):jC g ws r p:=⟨.zero,false,h,by simp,by simp[hr]⟩
theorem jC.yes {g:FuncId} {ws:List Int} {r:Int} {p q:Pn} (h:aH C0 g [.i (.iref p.cells), .i (.isl (aG ws))] []=some (.tup [.i (.agg q.cells), .bool true],[])) (hr:rwP ws r p=some q):jC g ws r p:=⟨q,true,h,fun _=>hr,by simp⟩
theorem AV6 {ws:List Int} {p:Pn} {W:Int} (hp:Wd ws p W):jC 110 ws 1 p:=by
 by_cases hk:p.kind=2
 ·obtain⟨e,a,rfl⟩:=pI hp hk;by_cases hk2:a.kind=2
  ·obtain⟨e2,a2,rfl⟩:=pI (iB hp).1 hk2;refine .yes (q:=filt (Z7 e2 e) a2) ?_ (by rw[fB];simp[rwF,filt,Pn.ex0,Pn.kG,Pn.kind,Pn.exprs,Pn.kids]);have h1:=fM (e:=e) (k:=filt e2 a2) (kd:=2) rfl;have h2:=AGD e2 e;have h3:=eP (Z7 e2 e) a2;rw[aD rfl Tryz.func110 rfl rfl];simp only[aS,pF,Ex.aA e,Ex.aA e2,Pn.aA a2]at h1 h2 h3 ⊢;simp[h1,h2,h3]
  ·refine .no ?_ (by rw[fB];simp[rwF,hk2]);have h1:=dW (e:=e) (k:=a) (kd:=2) hk2;rw[aD rfl Tryz.func110 rfl rfl];simp only[aS,aU]at h1 ⊢;simp[h1]
 ·refine .no ?_ (by simp[rwP,hk]);have h1:=fD (p:=p) (kd:=2) hk;rw[aD rfl Tryz.func110 rfl rfl];simp only[aU,Pn.aA p]at h1 ⊢;simp[h1]
theorem AV2 {ws:List Int} {p:Pn} {W:Int} (hp:Wd ws p W):jC 114 ws 5 p:=by
 by_cases hk:p.kind=2
 ·obtain⟨e,a,rfl⟩:=pI hp hk;by_cases hk2:a.kind=4
  ·obtain⟨e2,x,y,hx⟩:=jG (iB hp).1 (.inl hk2);rw[hk2]at hx;subst hx;refine .yes (q:=bA 4 (Z7 e2 e) x y) ?_ (by rw[fB];simp[rwF,bA,Pn.ex0,Pn.kG,Pn.sM,Pn.kind,Pn.exprs,Pn.kids]);have h1:=fM (e:=e) (k:=bA 4 e2 x y) (kd:=4) rfl;have h2:=AGD e2 e;have h3:=mU 4 (Z7 e2 e) x y;rw[aD rfl Tryz.func114 rfl rfl];simp only[aS,pair_cells,pF,Ex.aA e,Ex.aA e2,Pn.aA x,Pn.aA y]at h1 h2 h3 ⊢;simp[h1,h2,h3]
  ·refine .no ?_ (by rw[fB];simp[rwF,hk2]);have h1:=dW (e:=e) (k:=a) (kd:=4) hk2;rw[aD rfl Tryz.func114 rfl rfl];simp only[aS,aU]at h1 ⊢;simp[h1]
 ·refine .no ?_ (by simp[rwP,hk]);have h1:=fD (p:=p) (kd:=4) hk;rw[aD rfl Tryz.func114 rfl rfl];simp only[aU,Pn.aA p]at h1 ⊢;simp[h1]
theorem AUZ {ws:List Int} {p:Pn} {W:Int} (hp:Wd ws p W):jC 117 ws 8 p:=by
 by_cases hk:p.kind=2
 ·obtain⟨e,a,rfl⟩:=pI hp hk;by_cases hk2:a.kind=6
  ·obtain⟨x,y,rfl⟩:=AGX (iB hp).1 hk2;refine .yes (q:=bY (filt e x) (filt e y)) ?_ (by rw[fB];simp[rwF,bY,Pn.ex0,Pn.kG,Pn.sM,Pn.kind,Pn.exprs,Pn.kids]);have h1:=fM (e:=e) (k:=bY x y) (kd:=6) rfl;have h2:=eP e x;have h3:=eP e y;rw[aD rfl Tryz.func117 rfl rfl];simp only[aS,FB,Ex.aA e,Pn.aA x,Pn.aA y]at h1 h2 h3 ⊢;simp[h1,h2,h3]
  ·refine .no ?_ (by rw[fB];simp[rwF,hk2]);have h1:=dW (e:=e) (k:=a) (kd:=6) hk2;rw[aD rfl Tryz.func117 rfl rfl];simp only[aS,aU]at h1 ⊢;simp[h1]
 ·refine .no ?_ (by simp[rwP,hk]);have h1:=fD (p:=p) (kd:=6) hk;rw[aD rfl Tryz.func117 rfl rfl];simp only[aU,Pn.aA p]at h1 ⊢;simp[h1]
theorem AUY {ws:List Int} {p:Pn} {W:Int} (hp:Wd ws p W):jC 118 ws 9 p:=by
 by_cases hk:p.kind=7
 ·obtain⟨a,rfl⟩:=AGY hp hk;have hc:(Pn.mk 7 0 [] [] [a]).cells=[.int 7, .int 0, .isl [], .isl [], .isl [a.cells]]:=by simp[Pn.cells,Ex.aB,aG,Pn.aB]
  by_cases hk2:a.kind=7∨a.kind=8
  ·refine .yes (q:=a) ?_ (by simp[rwP,Pn.kG,Pn.kids,hk2]);rw[aD rfl Tryz.func118 rfl rfl];simp only[hc,Pn.aA a]
   rcases hk2 with hk2|hk2<;>simp[hk2]
  ·refine .no ?_ (by simp[rwP,Pn.kG,Pn.kids,hk2]);rw[aD rfl Tryz.func118 rfl rfl];simp only[hc,aU,Pn.aA a];have h7:¬ a.kind=7:=by omega
   have h8:¬ a.kind=8:=by omega
   simp[h7,h8]
 ·refine .no ?_ ?_
  ·rw[aD rfl Tryz.func118 rfl rfl];simp only[aU,Pn.aA p];simp[hk]
  ·unfold rwP;split
   ·unfold rwF;simp
   ·simp[hk]
theorem AV5 {ws:List Int} {p:Pn} {W:Int} (hp:Wd ws p W):jC 111 ws 2 p:=by
 by_cases hk:p.kind=2
 ·obtain⟨e,a,rfl⟩:=pI hp hk;by_cases hk2:e.kind=8
  ·have hw:=(Ex.rJ (iB hp).2).1
   obtain⟨x,y,hxy⟩:∃ x y,e.kids=[x,y]:=by
    rcases Ex.wI hw with ⟨h,_⟩|⟨h,_⟩|⟨h,_⟩|⟨_,x,y,h,_⟩
    ·omega
    ·omega
    ·omega
    ·exact⟨x,y,h⟩
   refine .yes (q:=filt y (filt x a)) ?_ (by rw[fB];simp[rwF,hk2,Ex.kG,Ex.sM,hxy]);have h2:=eP x a;have h3:=eP y (filt x a);rw[aD rfl Tryz.func111 rfl rfl];simp only[aS,Ex.aA e,hxy,Ex.aB,Ex.aA x,Ex.aA y,Pn.aA a]at h2 h3 ⊢;simp[hk2,h2,h3]
  ·refine .no ?_ (by rw[fB];simp[rwF,hk2]);rw[aD rfl Tryz.func111 rfl rfl];simp only[aS,aU,Ex.aA e];simp[hk2]
 ·refine .no ?_ (by simp[rwP,hk]);rw[aD rfl Tryz.func111 rfl rfl];simp only[aU,Pn.aA p];simp[hk]
end Go.Proofs.YtjdfjgmebalaaaaGreat.P
namespace Go.Av
theorem uN {ws:List Int} {e:Ex} {a:Pn} (h:(filt e a).wd ws 8≠0):a.wd ws 8≠0∧e.ok (a.wd ws 8)=true∧(filt e a).wd ws 8=a.wd ws 8:=by
 have h1:=h;rw[F5]at h1;obtain⟨h2,h3⟩:=gK h1;have hm:=Pn.iQ a 7 8 h3 (by omega);rw[hm];exact⟨h3,h2.2,by rw[F5,if_pos h2]⟩
theorem NN {ws:List Int} {kd:Int} {e:Ex} {a b:Pn} (hk:kd=4∨kd=5) (h:(bA kd e a b).wd ws 8≠0):a.wd ws 8≠0∧b.wd ws 8≠0∧a.wd ws 8+b.wd ws 8≤6∧e.ok (a.wd ws 8+b.wd ws 8)=true∧(bA kd e a b).wd ws 8=a.wd ws 8+b.wd ws 8:=by
 have h1:=h;rw[EZ hk]at h1;obtain⟨h2,h3⟩:=gK h1;rw[Pn.iQ a 7 8 h2.1 (by omega),Pn.iQ b 7 8 h2.2.1 (by omega)];exact⟨h2.1,h2.2.1,h2.2.2.1,h2.2.2.2,by rw[EZ hk,if_pos h2]⟩
theorem AAO {ws:List Int} {es:List Ex} {a:Pn} (h:(proj es a).wd ws 8≠0):a.wd ws 8≠0∧bE es.length=true∧es.all (Ex.ok (a.wd ws 8))=true∧(proj es a).wd ws 8=es.length:=by
 have h1:=h;rw[AY]at h1;obtain⟨h2,h3⟩:=gK h1;rw[Pn.iQ a 7 8 h2.1 (by omega)];exact⟨h2.1,h2.2.1,h2.2.2,by rw[AY,if_pos h2]⟩
theorem AJW {e:Ex} {n:Nat} (h:e.uP (fun c=>decide (0≤c))=true):(e.bits / 2 ^ n=0)=(e.cin 0 n=true):=by
 rw[eq_iff_iff,APA h n];unfold Ex.cin;constructor
 ·intro h1;exact Ex.pG (by simp) e (Ex.Z9 e h h1)
 ·intro h1;exact Ex.pG (fun c hc=>by simp at hc ⊢;exact hc.2) e h1
theorem AJV {e:Ex} {n W:Nat} (h:e.uP (fun c=>decide (0≤c∧c<(W:Int)))=true):(e.bits &&& (2 ^ n-1)=0)=(e.cin n W=true):=by
 have h0:e.uP (fun c=>decide (0≤c))=true:=Ex.pG (fun c hc=>by simp at hc ⊢;exact hc.1) e h;rw[eq_iff_iff,AP9 h0 n];unfold Ex.cin;constructor
 ·intro h1;exact Ex.pG (fun c hc=>by simp at hc ⊢;omega) e (Ex.Z9 e h h1)
 ·intro h1;exact Ex.pG (fun c hc=>by simp at hc ⊢;exact hc.1) e h1
end Go.Av
namespace Go.Proofs.YtjdfjgmebalaaaaGreat.P
open Go Go.Av
set_option maxRecDepth 4000
set_option maxHeartbeats 4000000
theorem CE {ws:List Int} (hw:jS ws=true) (p:Pn):aH C0 68 [.i (.agg p.cells), .i (.isl (aG ws))] []=some (.int (p.wd ws 8),[]):=by
 rw[nT];unfold Pn.width;rw[if_pos hw]
theorem wK {ws:List Int} (hw:jS ws=true) {p:Pn} (h:p.wd ws 8≠0):∃ n:Nat,p.wd ws 8=n∧1≤n∧n≤6:=by
 have:=Pn.iD (kJ hw) p 8;exact⟨(p.wd ws 8).toNat,by omega,by omega,by omega⟩
theorem AJI (a b:Nat):Int.fdiv (a:Int) (b:Int)=((a / b:Nat):Int):=by
 rw[Int.fdiv_eq_ediv_of_nonneg _ (Int.natCast_nonneg b)];rfl
theorem AX3 {n:Nat} (hn:n≤6):(IntKind.i64.wrap (IntKind.i64.wrap (2 ^ min n IntKind.i64.bits)-1) % 18446744073709551616).toNat=2 ^ n-1:=by
 have:n=0∨n=1∨n=2∨n=3∨n=4∨n=5∨n=6:=by omega
 rcases this with rfl|rfl|rfl|rfl|rfl|rfl|rfl<;>decide
theorem AIJ {ws:List Int} (hw:jS ws=true) {e e2:Ex} {x y:Pn} {kd:Int} (hkd:kd=4∨kd=5) (hp:(filt e (bA kd e2 x y)).wd ws 8≠0):jC 112 ws 3 (filt e (bA kd e2 x y)):=by
 obtain⟨h1,h2,h3⟩:=uN hp;obtain⟨g1,g2,g3,g4,g5⟩:=NN hkd h1;rw[g5]at h2;obtain⟨n,hn,n1,n2⟩:=wK hw g1;have hwf:=Ex.AEN h2;have hcol:=Ex.X9 hwf;have hb:=Ex.OY e hcol;have c1:=MH e (by have:=Ex.iT h2;omega) hcol;have c2:=CE hw x;have c3:=eP e x;have c4:=mU kd e2 (filt e x) y;have q:=AJW (n:=n) (Ex.AHO hwf);rw[hn]at c2;have o1:aH C0 148 [.i (.iref (filt e (bA kd e2 x y)).cells), .int kd] []=_:=fM (e:=e) (k:=bA kd e2 x y) (kd:=kd) rfl;have o2:kd=5→aH C0 148 [.i (.iref (filt e (bA kd e2 x y)).cells), .int 4] []=_:=fun h=>dW (e:=e) (k:=bA kd e2 x y) (kd:=4) (by simp[h])
 have hsh:shI .shr .i64 (e.bits:Int) (n:Int)=some (.lit (.int .i64 ((e.bits / 2 ^ n:Nat):Int))):=by
  have h1:min (n:Int).toNat IntKind.i64.bits=n:=by simp[IntKind.bits];omega
  have h2:(0:Int)≤n:=by omega
  simp only[shI,h1,h2,decide_true,tst];rw[show(2:Int) ^ n=((2 ^ n:Nat):Int)by simp,AJI]
 have hr:rwP ws 3 (filt e (bA kd e2 x y))=if e.cin 0 n=true then some (bA kd e2 (filt e x) y)else none:=by
  rw[fB];simp[rwF,bA,Pn.ex0,Pn.kG,Pn.sM,Pn.kind,Pn.exprs,Pn.kids,hkd,hn]
 generalize hd:e.bits / 2 ^ n=d at *
 by_cases hc:e.cin 0 n=true
 ·rw[if_pos hc]at hr;have hd0:d=0:=by rw[q];exact hc
  subst hd0;refine .yes ?_ hr;rw[aD rfl Tryz.func112 rfl rfl]
  rcases hkd with rfl|rfl
  ·simp only[aS,pair_cells,Ex.aA e,Ex.aA e2,Pn.aA x,Pn.aA y]at o1 c1 c2 c3 c4 ⊢;simp[o1,c1,c2,c3,c4,hsh]
  ·have o2:=o2 rfl;simp only[aS,pair_cells,Ex.aA e,Ex.aA e2,Pn.aA x,Pn.aA y]at o1 o2 c1 c2 c3 c4 ⊢;simp[o1,o2,c1,c2,c3,c4,hsh]
 ·rw[if_neg hc]at hr;have hd0:¬ d=0:=by rw[q];exact hc
  refine .no ?_ hr;rw[aD rfl Tryz.func112 rfl rfl]
  rcases hkd with rfl|rfl
  ·simp only[aS,pair_cells,aU,Ex.aA e,Ex.aA e2,Pn.aA x,Pn.aA y]at o1 c1 c2 ⊢;simp[o1,c1,c2,hsh,hd0]
  ·have o2:=o2 rfl;simp only[aS,pair_cells,aU,Ex.aA e,Ex.aA e2,Pn.aA x,Pn.aA y]at o1 o2 c1 c2 ⊢;simp[o1,o2,c1,c2,hsh,hd0]
theorem AV4 {ws:List Int} (hw:jS ws=true) {p:Pn} (hp:p.wd ws 8≠0):jC 112 ws 3 p:=by
 by_cases hk:p.kind=2
 ·obtain⟨e,a,rfl⟩:=pI (mD hp) hk;by_cases hk2:a.kind=4∨a.kind=5
  ·obtain⟨e2,x,y,hx⟩:=jG (iB (mD hp)).1 hk2;generalize a.kind=kd at *
   subst hx;exact AIJ hw hk2 hp
  ·have h1:=dW (e:=e) (k:=a) (kd:=4) (by omega);have h2:=dW (e:=e) (k:=a) (kd:=5) (by omega);refine .no ?_ (by rw[fB];simp[rwF,hk2]);rw[aD rfl Tryz.func112 rfl rfl];simp only[aS,aU]at h1 h2 ⊢;simp[h1,h2]
 ·have h1:=fD (p:=p) (kd:=4) hk;have h2:=fD (p:=p) (kd:=5) hk;refine .no ?_ (by simp[rwP,hk]);rw[aD rfl Tryz.func112 rfl rfl];simp only[aU,Pn.aA p]at h1 h2 ⊢;simp[h1,h2]
theorem AK8 {b n:Nat} (hb:b<64):IntKind.i64.wrap ((b:Int) % 18446744073709551616 % 2 ^ n)=((b &&& (2 ^ n-1):Nat):Int):=by
 rw[Nat.and_two_pow_sub_one_eq_mod];have h1:(b:Int) % 18446744073709551616=b:=by omega
 have h2:(b:Int) % 2 ^ n=((b % 2 ^ n:Nat):Int):=by simp
 rw[h1,h2];have:=Nat.mod_le b (2 ^ n);exact wrO
theorem AII {ws:List Int} (hw:jS ws=true) {e e2:Ex} {x y:Pn} (hp:(filt e (bA 4 e2 x y)).wd ws 8≠0):jC 113 ws 4 (filt e (bA 4 e2 x y)):=by
 obtain⟨h1,h2,h3⟩:=uN hp;obtain⟨g1,g2,g3,g4,g5⟩:=NN (.inl rfl) h1;rw[g5]at h2;obtain⟨n,hn,n1,n2⟩:=wK hw g1;obtain⟨m,hm,m1,m2⟩:=wK hw g2;have hwf:=Ex.AEN h2;have hcol:=Ex.X9 hwf;have hcolW:=Ex.MU e (Ex.rJ h2).1;have hb:=Ex.OY e hcol;have hsz:e.size<1000000000:=by have:=Ex.iT h2;omega
 have c1:=MH e hsz hcol;have c2:=CE hw x;have c5:=VE (w:=n) (by omega) e hwf hsz;have c3:=eP (e.vN (·-n)) y;have c4:=mU 4 e2 x (filt (e.vN (·-n)) y);rw[hn,hm,← Int.natCast_add]at hcolW;have q:=AJV (n:=n) hcolW;rw[hn]at c2;have o1:=fM (e:=e) (k:=bA 4 e2 x y) (kd:=4) rfl
 have hr:rwP ws 4 (filt e (bA 4 e2 x y))=if e.cin n (n+m:Nat)=true then some (bA 4 e2 x (filt (e.vN (·-n)) y))else none:=by
  rw[fB]
  have:∀ k:Pn,(Pn.mk 4 0 [e2] [] [x,y]).wd ws 8=((n+m:Nat):Int):=fun _=>by
   have:=g5;unfold bA at this;rw[this,hn,hm];simp
  simp[rwF,bA,Pn.ex0,Pn.kG,Pn.sM,Pn.kind,Pn.exprs,Pn.kids,hn,this x]
 have haw:=AK8 (b:=e.bits) (n:=n) (by omega);by_cases hc:e.cin n (n+m:Nat)=true
 ·rw[if_pos hc]at hr;have hd0:e.bits &&& (2 ^ n-1)=0:=by rw[q];exact hc
  rw[hd0]at haw;refine .yes ?_ hr;generalize e.vN (·-(n:Int))=z at *
  rw[aD rfl Tryz.func113 rfl rfl];simp only[aS,pair_cells,Ex.aA e,Ex.aA e2,Ex.aA z,Pn.aA x,Pn.aA y]at o1 c1 c2 c3 c4 c5 ⊢;simp[o1,c1,c2,c3,c4,c5,AX3 n2,haw]
 ·rw[if_neg hc]at hr;have hd0:¬ (e.bits &&& (2 ^ n-1)=0):=by rw[q];exact hc
  refine .no ?_ hr;generalize e.bits &&& (2 ^ n-1)=d at *
  rw[aD rfl Tryz.func113 rfl rfl];simp only[aS,pair_cells,aU,Ex.aA e,Ex.aA e2,Pn.aA x,Pn.aA y]at o1 c1 c2 ⊢;simp[o1,c1,c2,hd0,AX3 n2,haw]
theorem AV3 {ws:List Int} (hw:jS ws=true) {p:Pn} (hp:p.wd ws 8≠0):jC 113 ws 4 p:=by
 by_cases hk:p.kind=2
 ·obtain⟨e,a,rfl⟩:=pI (mD hp) hk;by_cases hk2:a.kind=4
  ·obtain⟨e2,x,y,hx⟩:=jG (iB (mD hp)).1 (.inl hk2);rw[hk2]at hx;subst hx;exact AII hw hp
  ·have h1:=dW (e:=e) (k:=a) (kd:=4) hk2;refine .no ?_ (by rw[fB];simp[rwF,hk2]);rw[aD rfl Tryz.func113 rfl rfl];simp only[aS,aU]at h1 ⊢;simp[h1]
 ·have h1:=fD (p:=p) (kd:=4) hk;refine .no ?_ (by simp[rwP,hk]);rw[aD rfl Tryz.func113 rfl rfl];simp only[aU,Pn.aA p]at h1 ⊢;simp[h1]
theorem ADQ {ws:List Int} (hw:jS ws=true) {e:Ex} {es:List Ex} {x:Pn} (hp:(filt e (proj es x)).wd ws 8≠0):jC 119 ws 10 (filt e (proj es x)):=by
 obtain⟨h1,h2,h3⟩:=uN hp;obtain⟨g1,g2,g3,g4⟩:=AAO h1;rw[g4]at h2;have c2:=CE hw x;have c5:=AF9 e es (x.wd ws 8);have o1:=fM (e:=e) (k:=proj es x) (kd:=3) rfl
 have hr:rwP ws 10 (filt e (proj es x))=some (proj es (filt (e.sub es) x)):=by
  rw[fB];simp[rwF,proj,Pn.ex0,Pn.kG,Pn.sM,Pn.kind,Pn.exprs,Pn.kids]
 have c3:=eP (AJC (e.subst es (x.wd ws 8))) x;refine⟨proj es (filt (AJC (e.subst es (x.wd ws 8))) x),(e.subst es (x.wd ws 8)).isSome,?_,?_,?_⟩
 ·generalize (e.subst es (x.wd ws 8)).isSome=b at *
  generalize AJC (e.subst es (x.wd ws 8))=z at *
  rw[aD rfl Tryz.func119 rfl rfl];simp only[aS,jI,Ex.aA e,Ex.aA z,Pn.aA x]at o1 c2 c3 c5 ⊢;simp[o1,c2,c3,c5]
 ·intro hb;rw[hr];unfold Ex.subst at hb ⊢;split at hb
  ·rename_i hcc;rw[if_pos hcc];rfl
  ·simp at hb
 ·intro hb q' hq lv;rw[hr]at hq;injection hq with hq;subst hq
  cases lv with
  | zero=>rw[Pn.ZK];simp[proj,Pn.kids]
  | succ lv =>
   rw[AY];refine if_neg fun hc=>?_
   have hc1:=hc.1
   cases lv with
   | zero=>exact hc1 (by rw[Pn.ZK];simp[filt,Pn.kids])
   | succ lv =>
    rw[F5]at hc1;obtain⟨⟨hx,hok⟩,_⟩:=gK hc1;have e8:=AKE (mD g1) hx;rw[e8]at hok;unfold Ex.subst at hb;rw[if_pos (by simp only[zU];exact⟨h2,g3,hok⟩)]at hb;simp at hb
theorem ARN {ws:List Int} (hw:jS ws=true) {p:Pn} (hp:p.wd ws 8≠0):jC 119 ws 10 p:=by
 by_cases hk:p.kind=2
 ·obtain⟨e,a,rfl⟩:=pI (mD hp) hk;by_cases hk2:a.kind=3
  ·obtain⟨es,x,rfl⟩:=o5 (iB (mD hp)).1 hk2;exact ADQ hw hp
  ·have h1:=dW (e:=e) (k:=a) (kd:=3) hk2;refine .no ?_ (by rw[fB];simp[rwF,hk2]);rw[aD rfl Tryz.func119 rfl rfl];simp only[aS,aU]at h1 ⊢;simp[h1]
 ·have h1:=fD (p:=p) (kd:=3) hk;refine .no ?_ (by simp[rwP,hk]);rw[aD rfl Tryz.func119 rfl rfl];simp only[aU,Pn.aA p]at h1 ⊢;simp[h1]
def OIX (e e2:Ex) (x y:Pn) (ws:List Int) (n m i:Nat):AS :=
 { env:=[(0, .i (.iref [.int 2, .int 0, .isl [[.int e.kind, .int e.col, .bool e.val.null, .int e.val.n, .isl (Ex.aB e.kids)]], .isl [], .isl [[.int 5, .int 0, .isl [[.int e2.kind, .int e2.col, .bool e2.val.null, .int e2.val.n, .isl (Ex.aB e2.kids)]], .isl [], .isl [[.int x.kind, .int x.table, .isl (Ex.aB x.exprs), .isl (aG x.cols), .isl (Pn.aB x.kids)],[.int y.kind, .int y.table, .isl (Ex.aB y.exprs), .isl (aG y.cols), .isl (Pn.aB y.kids)]]]]])),(1, .i (.isl (aG ws))),(4, .own 0 0),(5, .bool false),(6, .i (.iref [.int e.kind, .int e.col, .bool e.val.null, .int e.val.n, .isl (Ex.aB e.kids)])),
    (7, .i (.iref [.int 5, .int 0, .isl [[.int e2.kind, .int e2.col, .bool e2.val.null, .int e2.val.n, .isl (Ex.aB e2.kids)]], .isl [], .isl [[.int x.kind, .int x.table, .isl (Ex.aB x.exprs), .isl (aG x.cols), .isl (Pn.aB x.kids)],[.int y.kind, .int y.table, .isl (Ex.aB y.exprs), .isl (aG y.cols), .isl (Pn.aB y.kids)]]])),(8, .bool true),(9, .int ((n:Int)+m)),(10,gro 1 1 i),(11, .int ((n:Int)+i)),(19, .bool false),(36,jk i (.bool true)),(49, .junk)],
   st:=some (.box [.int 0, .int 0, .nils, .nils, .nils])::TG 1 (aG (l6 n i)) i }
theorem AIG {ws:List Int} (hw:jS ws=true) {e e2:Ex} {x y:Pn} (hp:(filt e (bA 5 e2 x y)).wd ws 8≠0):jC 116 ws 7 (filt e (bA 5 e2 x y)):=by
 obtain⟨h1,h2,h3⟩:=uN hp;obtain⟨g1,g2,g3,g4,g5⟩:=NN (.inr rfl) h1;have c1:=CE hw (bA 5 e2 x y);rw[g5]at h2 c1;obtain⟨n,hn,n1,n2⟩:=wK hw g1;obtain⟨m,hm,m1,m2⟩:=wK hw g2;have c2:=CE hw x;rw[hn,hm,← Int.natCast_add]at h2 c1;rw[hn]at c2;have c3:=mU 4 e2 x y;have c4:=eP e (bA 4 e2 x y);have c5:=VU e (n:=n+m) (p:=n) (m:=m) rfl h2;have o1:=fM (e:=e) (k:=bA 5 e2 x y) (kd:=5) rfl
 have hr:rwP ws 7 (filt e (bA 5 e2 x y))=if AE5 e (n+m:Nat) n=true then some (filt e (bA 4 e2 x y))else none:=by
  rw[fB]
  have:(Pn.mk 5 0 [e2] [] [x,y]).wd ws 8=((n+m:Nat):Int):=by
   have:=g5;unfold bA at this;rw[this,hn,hm];simp
  simp[rwF,bA,Pn.ex0,Pn.kG,Pn.sM,Pn.kind,Pn.exprs,Pn.kids,hn,this]
 generalize AE5 e (n+m:Nat) n=b at *
 have key:aH C0 116 [.i (.iref (filt e (bA 5 e2 x y)).cells), .i (.isl (aG ws))] []=some (.tup [.i (.agg (if b=true then filt e (bA 4 e2 x y)else Pn.zero).cells), .bool b],[]):=by
  rw[aD rfl Tryz.func116 rfl rfl];simp only[aS,pair_cells,aU,Ex.aA e,Ex.aA e2,Pn.aA x,Pn.aA y]at o1 c1 c2 c3 c4 c5 ⊢;have ht:∀ k,(l6 n k).take k=l6 n k:=fun k=>zY (by simp)
  simp only[yO]at c5;simp[o1,c1,c2];rw[aQ (OIX e e2 x y ws n m) m (by simp[OIX])]
  ·rw[aF];simp[OIX,aM (show m≠0 by omega),aJ (show m≠0 by omega),bH (show m≠0 by omega)]
   cases b with
   | true=>simp[c3,c4,c5,ht,aS,pair_cells,Ex.aA e,Ex.aA e2,Pn.aA x,Pn.aA y]
   | false=>simp[c5,ht,aU]
  ·intro i hi;have w2:IntKind.i64.wrap ((n:Int)+i+1)=n+(i+1):=by rw[wrO];omega
   have hs:=MI n i;have hlt:(n:Int)+i<n+m:=by omega
   by_cases h0:i=0
   ·subst h0;have hlt0:(n:Int)<n+m:=by omega
    have w3:IntKind.i64.wrap ((n:Int)+1)=n+1:=by rw[wrO]
    simp[OIX,w3,hlt0,hs,bZ,aG,l6]
   ·have hl1:(i+1)*8≤140737488355328:=by omega
    simp[OIX,w2,hlt,hs,aM h0,aJ h0,bH h0,bZ,aG,hl1,ht]
 cases b with
 | true=>exact .yes key (by rw[hr];rfl)
 | false=>exact .no key (by rw[hr];rfl)
theorem AV0 {ws:List Int} (hw:jS ws=true) {p:Pn} (hp:p.wd ws 8≠0):jC 116 ws 7 p:=by
 by_cases hk:p.kind=2
 ·obtain⟨e,a,rfl⟩:=pI (mD hp) hk;by_cases hk2:a.kind=5
  ·obtain⟨e2,x,y,hx⟩:=jG (iB (mD hp)).1 (.inr hk2);rw[hk2]at hx;subst hx;exact AIG hw hp
  ·have h1:=dW (e:=e) (k:=a) (kd:=5) hk2;refine .no ?_ (by rw[fB];simp[rwF,hk2]);rw[aD rfl Tryz.func116 rfl rfl];simp only[aS,aU]at h1 ⊢;simp[h1]
 ·have h1:=fD (p:=p) (kd:=5) hk;refine .no ?_ (by simp[rwP,hk]);rw[aD rfl Tryz.func116 rfl rfl];simp only[aU,Pn.aA p]at h1 ⊢;simp[h1]
theorem YX {n m i:Nat} (h:i<n+m):(aV (m:Int) n++aV 0 m)[i]?=some (YZ (pO n m i)):=by
 by_cases hi:i<n
 ·rw[zG (by simpa using hi),tJ hi];unfold pO;rw[if_pos (by omega),Int.add_comm]
 ·rw[zH (by simp;omega),tK,tJ (by omega)];unfold pO;rw[if_neg (by omega)];congr 2;omega
def MPX (fs es:List Ex) (x:Pn) (ws:List Int) (W:Int) (zs:List Ex) (i:Nat):AS :=
 { env:=[(0, .i (.iref [.int 3, .int 0, .isl (Ex.aB fs), .isl [], .isl [[.int 3, .int 0, .isl (Ex.aB es), .isl [], .isl [[.int x.kind, .int x.table, .isl (Ex.aB x.exprs), .isl (aG x.cols), .isl (Pn.aB x.kids)]]]]])),(1, .i (.isl (aG ws))),(4, .own 0 0),(5, .bool false),(6, .i (.iref [.int 3, .int 0, .isl (Ex.aB es), .isl [], .isl [[.int x.kind, .int x.table, .isl (Ex.aB x.exprs), .isl (aG x.cols), .isl (Pn.aB x.kids)]]])),(7, .int W),(8, .own 1 0),(9,jk i (.int (i-1))),(10,if i=0 then .junk else .own 3 0),(11,jk i (.bool true)),(26, .bool false),(50, .int fs.length),(51, .int i),(52,jk i (.bool true)),(71,jk i (.bool false))],
   st:=some (.box [.int 0, .int 0, .nils, .nils, .nils])::some (.box [.int 3, .int 0,gro 2 5 i, .nils, .i (.isl [[.int x.kind, .int x.table, .isl (Ex.aB x.exprs), .isl (aG x.cols), .isl (Pn.aB x.kids)]])])::(if i=0 then []else [some (.arr 5 (Ex.aB (zs.take i))),some (.box (l5 ((zs[i-1]?).getD Ex.zero).cells))]) }
def CJX (e:Ex) (x y:Pn) (ws:List Int) (n m i:Nat):AS :=
 { env:=[(0, .i (.iref [.int 4, .int 0, .isl [[.int e.kind, .int e.col, .bool e.val.null, .int e.val.n, .isl (Ex.aB e.kids)]], .isl [], .isl [[.int x.kind, .int x.table, .isl (Ex.aB x.exprs), .isl (aG x.cols), .isl (Pn.aB x.kids)],[.int y.kind, .int y.table, .isl (Ex.aB y.exprs), .isl (aG y.cols), .isl (Pn.aB y.kids)]]])),(1, .i (.isl (aG ws))),(4, .own 0 0),(5, .bool false),(6, .own 1 0),(7, .own 2 0),(8, .fn (.func 155) [.own 1 0, .own 2 0]),(9, .own 3 0),(10,jk i (.int (i-1))),(15, .bool false),(37, .int ((n:Int)+m)),(38, .int i),(39,jk i (.bool true))],
   st:=some (.box [.int 0, .int 0, .nils, .nils, .nils])::some (.box [.int n])::some (.box [.int m])::some (.box [.int 3, .int 0,gro 4 5 i, .nils, .nils])::TG 5 (Ex.aB ((aV (m:Int) n++aV 0 m).take i)) i }
theorem AIH {ws:List Int} (hw:jS ws=true) {e:Ex} {x y:Pn} (hp:(bA 4 e x y).wd ws 8≠0):jC 115 ws 6 (bA 4 e x y):=by
 obtain⟨g1,g2,g3,g4,g5⟩:=NN (.inl rfl) hp;obtain⟨n,hn,n1,n2⟩:=wK hw g1;obtain⟨m,hm,m1,m2⟩:=wK hw g2;have c1:=CE hw x;have c2:=CE hw y;have hwf:=Ex.AEN g4;have hsz:e.size<1000000000:=by have:=Ex.iT g4;omega
 have c5:=VD (a:=n) (b:=m) (by omega) (by omega) e hwf hsz;have c4:=mU 4 (e.vN (pO n m)) y x
 have hr:rwP ws 6 (bA 4 e x y)=some (proj (aV m n++aV 0 m) (bA 4 (e.vN (pO n m)) y x)):=by
  simp[rwP,bA,Pn.ex0,Pn.kG,Pn.sM,Pn.kind,Pn.exprs,Pn.kids,hn,hm]
 rw[hn]at c1;rw[hm]at c2;refine .yes ?_ hr;generalize e.vN (pO n m)=z at *
 rw[aD rfl Tryz.func115 rfl rfl];simp only[jI,pair_cells,aU,Ex.aA e,Ex.aA z,Pn.aA x,Pn.aA y]at c1 c2 c4 c5 ⊢;have w0:IntKind.i64.wrap ((n:Int)+m)=n+m:=wrO;have hlen:(aV (m:Int) n++aV 0 m).length=n+m:=by simp
 simp[c1,c2,w0];rw[aQ (CJX e x y ws n m) (n+m) (by simp[CJX])]
 ·rw[aF];have htk:(aV (m:Int) n++aV 0 m).take (n+m)=aV (m:Int) n++aV 0 m:=zY (by omega);simp[CJX,aM (show n+m≠0 by omega),aJ (show n+m≠0 by omega),bH (show n+m≠0 by omega),htk,c4,c5]
 ·intro i hi;have hnth:=YX hi;have htk:=aL hnth;have hpl:=KY i n m (by omega) (by omega) (by omega);have hco:=BP (pO n m i);generalize pO n m i=c at *
  rw[kP]at hco;have hlt:(i:Int)<n+m:=by omega
  have w2:IntKind.i64.wrap ((i:Int)+1)=i+1:=wrO;by_cases h0:i=0
  ·subst h0;have hlt0:(0:Int)<n+m:=by omega
   simp at hpl;simp[CJX,hlt0,hpl,hco,bN,htk,Ex.aB,kP]
  ·have hl1:(i+1)*56≤140737488355328:=by omega
   have hl2:i≤min i (n+m):=by omega
   simp[CJX,w2,hlt,hpl,hco,aM h0,aJ h0,bH h0,htk,Ex.aZ,kP,hl1,hl2,zN]
theorem ADO {ws:List Int} (hw:jS ws=true) {fs es:List Ex} {x:Pn} (hp:(proj fs (proj es x)).wd ws 8≠0):jC 120 ws 11 (proj fs (proj es x)):=by
 obtain⟨h1,h2,h3,h4⟩:=AAO hp;obtain⟨g1,g2,g3,g4⟩:=AAO h1;rw[g4]at h3;have c2:=CE hw x;have c5:=fun e=>AF9 e es (x.wd ws 8)
 have hr:rwP ws 11 (proj fs (proj es x))=some (proj (fs.map (Ex.sub es)) x):=by
  simp[rwP,proj,Pn.ex0,Pn.kG,Pn.sM,Pn.kind,Pn.exprs,Pn.kids]
 generalize hW:x.wd ws 8=W at *
 have hin:∀ (i:Nat) (a:Ex),fs[i]?=some a→(a.subst es W).isSome=true→(fs.map (Ex.sub es))[i]?=some (a.sub es)∧a.subst es W=some (a.sub es):=by
  intro i a ha hs;refine⟨by simp[ha],?_⟩;unfold Ex.subst at hs ⊢;split at hs
  ·rename_i hc;rw[if_pos hc]
  ·simp at hs
 have hlen:fs.length≤6:=by unfold bE at h2;simp at h2;omega
 obtain⟨j,k1,k2⟩:=gB (fun e=>(e.subst es W).isSome) fs
 have hround:∀ i,i<j→i<fs.length∧∃ f z,fs[i]?=some f∧gF (Ex.aB fs) i=some f.cells∧(fs.map (Ex.sub es))[i]?=some z∧f.subst es W=some z:=by
  intro i hi;obtain⟨f,q1,q2,q3⟩:=k1 i hi;obtain⟨q4,q5⟩:=hin i f q1 q3;exact⟨(zZ.1 q1).1,f,_,q1,Ex.aO q1,q4,q5⟩
 have hfl:fs.length≠0:=by intro h;rw[h]at h2;simp[bE]at h2
 have hzl:(fs.map (Ex.sub es)).length=fs.length:=by simp
 have hq:∀ lv,(proj (fs.map (Ex.sub es)) x).wd ws lv≠0→∀ f∈fs,(f.sub es).ok W=true:=by
  intro lv hne f hf
  cases lv with
  | zero=>exact absurd (by rw[Pn.ZK];simp[proj,Pn.kids]) hne
  | succ lv =>
   rw[AY]at hne;obtain⟨⟨q1,q2,q3⟩,_⟩:=gK hne;have e8:=AKE (mD (p:=x) (lv:=8) (by rw[hW];exact g1)) q1;rw[e8,hW]at q3;exact zS.1 q3 _ (List.mem_map_of_mem hf)
 generalize fs.map (Ex.sub es)=zs at *
 have main:∀ r,aH C0 120 [.i (.iref (proj fs (proj es x)).cells), .i (.isl (aG ws))] []=r→r=if j=fs.length then some (.tup [.i (.agg (proj zs x).cells), .bool true],[])else some (.tup [.i (.agg Pn.zero.cells), .bool false],[]):=by
  intro r hr';subst hr';rw[aD rfl Tryz.func120 rfl rfl];simp only[jI,Pn.aA x]at c2 ⊢;simp[c2];rw[aQ (MPX fs es x ws W zs) j (by simp[MPX])]
  ·rw[aF]
   rcases k2 with ⟨hj,ha⟩|⟨f,q1,q2,q3,ha⟩
   ·have htk:zs.take fs.length=zs:=zY (by omega);simp[MPX,hj,hfl,aM hfl,htk,hzl]
   ·have hj:j<fs.length:=(zZ.1 q1).1;have hne:¬ j=fs.length:=by omega
    have r1:=Ex.aO q1;have hn:f.subst es W=none:=by cases h:f.subst es W with|none=>rfl|some _=>rw[h]at q3;simp at q3
    have c6:=c5 f;rw[hn]at c6;simp only[AJC,Option.getD,Option.isSome,Ex.aA f,aU]at c6 r1;by_cases h0:j=0
    ·subst h0;simp[MPX,hj,hne,r1,c6,aU]
    ·simp[MPX,hj,hne,r1,c6,h0,aM h0,bH h0,aU]
  ·intro i hi;obtain⟨hil,f,z,q1,r1,q4,q5⟩:=hround i hi;have c6:=c5 f;rw[q5]at c6;have htk:=aL q4;have w2:IntKind.i64.wrap ((i:Int)+1)=i+1:=wrO;simp only[AJC,Option.getD,Option.isSome,Ex.aA f,Ex.aA z]at c6 r1;by_cases h0:i=0
   ·subst h0;simp[MPX,hil,r1,c6,bN,htk,q4,Ex.aB,Ex.aA z]
   ·have hl1:(i+1)*56≤140737488355328:=by omega
    have hl2:i≤min i zs.length:=by omega
    simp[MPX,hil,r1,c6,w2,htk,q4,h0,aM h0,bH h0,Ex.aZ,Ex.aA z,hl1,hl2,zN]
 have hm:=main _ rfl
 rcases k2 with ⟨hj,ha⟩|⟨f,q1,q2,q3,ha⟩
 ·rw[if_pos hj]at hm;exact .yes hm hr
 ·have hj:j<fs.length:=(zZ.1 q1).1;rw[if_neg (by omega)]at hm;refine⟨.zero,false,hm,by simp,fun _ q' hq' lv=>?_⟩;rw[hr]at hq';injection hq' with hq';subst hq';by_cases hne:(proj zs x).wd ws lv=0
  ·exact hne
  ·have hok:=hq lv hne f q2;unfold Ex.subst at q3;rw[if_pos (by simp only[zU];exact⟨List.all_eq_true.1 h3 f q2,g3,hok⟩)]at q3;simp at q3
theorem AV1 {ws:List Int} (hw:jS ws=true) {p:Pn} (hp:p.wd ws 8≠0):jC 115 ws 6 p:=by
 by_cases hk:p.kind=4
 ·obtain⟨e,x,y,hx⟩:=jG (mD hp) (.inl hk);rw[hk]at hx;subst hx;exact AIH hw hp
 ·refine .no ?_ ?_
  ·rw[aD rfl Tryz.func115 rfl rfl];simp only[aU,Pn.aA p];simp[hk]
  ·unfold rwP;split
   ·unfold rwF;simp
   ·simp[hk]
theorem ARL {ws:List Int} (hw:jS ws=true) {p:Pn} (hp:p.wd ws 8≠0):jC 120 ws 11 p:=by
 by_cases hk:p.kind=3
 ·obtain⟨fs,a,rfl⟩:=o5 (mD hp) hk;by_cases hk2:a.kind=3
  ·obtain⟨V,hV,_⟩:=wE (mD hp);obtain⟨es,x,rfl⟩:=o5 hV hk2;exact ADO hw hp
  ·refine .no ?_ (by simp[rwP,Pn.kG,proj,hk2]);rw[aD rfl Tryz.func120 rfl rfl];simp only[jI,aU,Pn.aA a];simp[hk2]
 ·refine .no ?_ ?_
  ·rw[aD rfl Tryz.func120 rfl rfl];simp only[aU,Pn.aA p];simp[hk]
  ·unfold rwP;split
   ·unfold rwF;simp
   ·simp[hk]
end Go.Proofs.YtjdfjgmebalaaaaGreat.P
namespace Go.Av
theorem XO {ws:List Int} {r:Int} {lv:Nat} {p:Pn} (h:∀ q',rwP ws r p=some q'→∀ lv,q'.wd ws lv=0):rwL ws r lv p=none:=by
 unfold rwL
 cases hq:rwP ws r p with
 | none=>rfl
 | some q=>simp[h q hq lv]
theorem AID {ws:List Int} {r:Int} {lv:Nat} {p q:Pn} (h:rwP ws r p=some q):rwL ws r lv p=if q.wd ws lv=0 then none else some q:=by
 unfold rwL;rw[h];by_cases hq:q.wd ws lv=0<;>simp[hq]
def ACP (o:Option Pn):Pn:=o.getD Pn.zero
end Go.Av
namespace Go.Proofs.YtjdfjgmebalaaaaGreat.P
open Go Go.Av
set_option maxRecDepth 4000
set_option maxHeartbeats 4000000
theorem NF {ws:List Int} {p:Pn} {r:Int} {lv:Nat} (h:r<1∨11<r):aH C0 70 [.i (.iref p.cells), .i (.isl (aG ws)), .int r, .int lv] []=some (.tup [.i (.agg Pn.zero.cells), .bool false],[]):=by
 rw[aD rfl Tryz.func70 rfl rfl,aU]
 rcases h with h|h
 ·simp[h]
 ·simp[show ¬ r<1 by omega,show 12≤r by omega]
theorem sF {ws:List Int} (hw:jS ws=true) {p:Pn} (hp:p.wd ws 8≠0) (r:Int) {lv:Nat} (hl:lv≤8):aH C0 70 [.i (.iref p.cells), .i (.isl (aG ws)), .int r, .int lv] []=some (.tup [.i (.agg (ACP (rwL ws r lv p)).cells), .bool (rwL ws r lv p).isSome],[]):=by
 have hr:(r<1∨11<r)∨(r=1∧jC 110 ws 1 p)∨(r=2∧jC 111 ws 2 p)∨(r=3∧jC 112 ws 3 p)∨(r=4∧jC 113 ws 4 p)∨(r=5∧jC 114 ws 5 p)∨(r=6∧jC 115 ws 6 p)∨(r=7∧jC 116 ws 7 p)∨(r=8∧jC 117 ws 8 p)∨(r=9∧jC 118 ws 9 p)∨(r=10∧jC 119 ws 10 p)∨(r=11∧jC 120 ws 11 p):=by
  by_cases h:r<1∨11<r
  ·exact .inl h
  ·refine .inr ?_;have:r=1∨r=2∨r=3∨r=4∨r=5∨r=6∨r=7∨r=8∨r=9∨r=10∨r=11:=by omega
   rcases this with rfl|rfl|rfl|rfl|rfl|rfl|rfl|rfl|rfl|rfl|rfl
   ·exact(.inl ⟨rfl,AV6 (mD hp)⟩)
   ·exact(.inr (.inl ⟨rfl,AV5 (mD hp)⟩))
   ·exact(.inr (.inr (.inl ⟨rfl,AV4 hw hp⟩)))
   ·exact(.inr (.inr (.inr (.inl ⟨rfl,AV3 hw hp⟩))))
   ·exact(.inr (.inr (.inr (.inr (.inl ⟨rfl,AV2 (mD hp)⟩)))))
   ·exact(.inr (.inr (.inr (.inr (.inr (.inl ⟨rfl,AV1 hw hp⟩))))))
   ·exact(.inr (.inr (.inr (.inr (.inr (.inr (.inl ⟨rfl,AV0 hw hp⟩)))))))
   ·exact(.inr (.inr (.inr (.inr (.inr (.inr (.inr (.inl ⟨rfl,AUZ (mD hp)⟩))))))))
   ·exact(.inr (.inr (.inr (.inr (.inr (.inr (.inr (.inr (.inl ⟨rfl,AUY (mD hp)⟩)))))))))
   ·exact(.inr (.inr (.inr (.inr (.inr (.inr (.inr (.inr (.inr (.inl ⟨rfl,ARN hw hp⟩))))))))))
   ·exact(.inr (.inr (.inr (.inr (.inr (.inr (.inr (.inr (.inr (.inr (⟨rfl,ARL hw hp⟩)))))))))))
 rcases hr with h|⟨rfl,q,b,h1,h2,h3⟩|⟨rfl,q,b,h1,h2,h3⟩|⟨rfl,q,b,h1,h2,h3⟩|⟨rfl,q,b,h1,h2,h3⟩|⟨rfl,q,b,h1,h2,h3⟩|⟨rfl,q,b,h1,h2,h3⟩|⟨rfl,q,b,h1,h2,h3⟩|⟨rfl,q,b,h1,h2,h3⟩|⟨rfl,q,b,h1,h2,h3⟩|⟨rfl,q,b,h1,h2,h3⟩|⟨rfl,q,b,h1,h2,h3⟩
 ·rw[NF h]
  have:rwL ws r lv p=none:=XO fun q' hq=>by
   have:=XN hq;simp[rules]at this;omega
  rw[this];rfl
 all_goals
  have h4:=wH (kJ hw) q lv hl;rw[aD rfl Tryz.func70 rfl rfl]
  cases b with
  | false =>
   rw[XO (h3 rfl)];simp only[ACP,Option.getD,Option.isSome,aU,Pn.aA p,Pn.aA q]at h1 h4 ⊢;simp[h1]
  | true =>
   rw[AID (h2 rfl)];by_cases hq:q.wd ws lv=0
   ·rw[hq]at h4;rw[if_pos hq];simp only[ACP,Option.getD,Option.isSome,aU,Pn.aA p,Pn.aA q]at h1 h4 ⊢;simp[h1,h4]
   ·rw[if_neg hq];simp only[ACP,Option.getD,Option.isSome,Pn.aA p,Pn.aA q]at h1 h4 ⊢;simp[h1,h4,hq]
end Go.Proofs.YtjdfjgmebalaaaaGreat.P
namespace Go.Av
def AMJ (s:Stp):List IV:=[.int s.1, .isl (aG s.2)]
def o7 (l:List Stp):List (List IV):=l.map AMJ
@[simp] theorem AKP (l:List Stp):(o7 l).length=l.length:=by simp[o7]
@[simp] theorem APU (n:Nat) (l:List Stp):(o7 l).take n=o7 (l.take n):=by simp[o7,zC1]
theorem AD8 {l:List Stp} {i:Nat} {s:Stp} (h:l[i]?=some s):gF (o7 l) i=some (AMJ s):=by
 rw[iU];simp[o7,h]
theorem MV {ws:List Int} {p:Pn} {lv:Nat} (h:p.wd ws lv≠0) (hk:p.kids≠[]):p.kids.length≤2∧lv≠0∧∀ a∈p.kids,a.wd ws (lv-1)≠0:=by
 rw[Pn.uZ]at h;obtain⟨h1,h2⟩:=gK h;refine⟨Pn.I7 h1.1,h1.2.resolve_left hk,?_⟩;split at h2
 ·rename_i hk1;exact absurd (Pn.vQ h1.1 hk1) hk
 ·obtain⟨h3,_⟩:=gK h2;exact fun a ha=>by simpa using zS.1 h3 a ha
theorem FK (ws:List Int) (path:List Int):∀ (l m:List Pn) (i:Nat),oP ws path i (l++m)=oP ws path i l++oP ws path (i+l.length) m
 | [],m,i=>by simp[oP]
 | a::l,m,i=>by simp only[yG,oP,FK ws path l m (i+1),yZ,zQ];congr 3;omega
theorem wS (ws:List Int) (path:List Int) {l:List Pn} {i:Nat} {a:Pn} (h:l[i]?=some a):oP ws path 0 (l.take (i+1))=oP ws path 0 (l.take i)++stI ws (path++[(i:Int)]) a:=by
 have hl:(l.take i).length=i:=by have:=(zZ.1 h).1;simp;omega
 rw[aL h,FK,hl];simp[oP]
theorem AMR (ws:List Int):∀ (p:Pn) (path:List Int),(stI ws path p).length≤11*p.size:=by
 intro p
 induction p using Pn.ind with
 | h k t es cs ks ih =>
  intro path
  have hL:∀ (l:List Pn) (i:Nat),(∀ a∈l,a∈ks)→(oP ws path i l).length≤11*Pn.bG l:=by
   intro l
   induction l with
   | nil=>intro i _;simp[oP,Pn.bG]
   | cons a l ihl =>
    intro i hm;have h1:=ih a (hm a (by simp)) (path++[(i:Int)]);have h2:=ihl (i+1) fun x hx=>hm x (by simp[hx])
    simp only[oP,Pn.bG,zJ];omega
  have h1:=hL ks 0 fun a h=>h
  have h2:∀ f:Int→Bool,(rules.filter f).length≤11:=fun f=>by have:=List.length_filter_le f rules;simpa [rules]using this
  simp only[stI,Pn.size,zJ,List.length_map];have:=h2 fun r=>(rwL ws r (8-path.length) (.mk k t es cs ks)).isSome
  omega
def AR (ws path:List Int) (p:Pn) (i:Nat):List Stp:=((rules.take i).filter fun r=>(rwL ws r (8-path.length) p).isSome).map fun r=>(r,path)
theorem UH {ws path:List Int} {p:Pn} {i:Nat} (h:i<11):AR ws path p (i+1)=AR ws path p i++if(rwL ws ((i:Int)+1) (8-path.length) p).isSome=true then [((i:Int)+1,path)]else []:=by
 have h1:rules[i]?=some ((i:Int)+1):=by
  have:i=0∨i=1∨i=2∨i=3∨i=4∨i=5∨i=6∨i=7∨i=8∨i=9∨i=10:=by omega
  rcases this with rfl|rfl|rfl|rfl|rfl|rfl|rfl|rfl|rfl|rfl|rfl<;>rfl
 unfold AR;rw[aL h1,List.filter_append,zA3];congr 1;simp only[List.filter];split<;>rename_i h2<;>simp[h2]
theorem V5 (ws path:List Int) (p:Pn):stI ws path p=AR ws path p 11++oP ws path 0 p.kids:=by
 rw[AKY];rfl
end Go.Av
namespace Go.Proofs.YtjdfjgmebalaaaaGreat.P
open Go Go.Av
set_option maxRecDepth 4000
set_option maxHeartbeats 4000000
structure Yl (R:Rng) (cs:List AV):Prop where
 ids:cs=[.own 1 0, .junk, .junk]
 y00:∀ r:Int,aH C0 rH [.fn (.yield 0) [.own 0 0], .agg [.int r, .nils]] [some (.loop R cs .ready),some (.box [.nils])]=some (.bool true,[some (.loop R cs .ready),some (.box [.osl 2 2 0 1]),some (.arr 2 [[.int r, .isl []]])])
 y01:∀ (r:Int) (path:List Int),path≠[]→aH C0 rH [.fn (.yield 0) [.own 0 0], .agg [.int r, .osl 2 1 0 path.length]] [some (.loop R cs .ready),some (.box [.nils]),some (.arr 1 (aG path))]=some (.bool true,[some (.loop R cs .ready),some (.box [.osl 3 2 0 1]),some (.frz 1 (aG path)),some (.arr 2 [[.int r, .isl (aG path)]])])
 y10:∀ (r:Int) (n:Nat) (l:List Stp),l.length=n→n≠0→n<1000000→aH C0 rH [.fn (.yield 0) [.own 0 0], .agg [.int r, .nils]] [some (.loop R cs .ready),some (.box [.osl 2 2 0 n]),some (.arr 2 (o7 l))]=some (.bool true,[some (.loop R cs .ready),some (.box [.osl 3 2 0 (n+1)]),none,some (.arr 2 (o7 l++[[.int r, .isl []]]))])
 y11:∀ (r:Int) (n:Nat) (l:List Stp) (path:List Int),path≠[]→l.length=n→n≠0→n<1000000→aH C0 rH [.fn (.yield 0) [.own 0 0], .agg [.int r, .osl 3 1 0 path.length]] [some (.loop R cs .ready),some (.box [.osl 2 2 0 n]),some (.arr 2 (o7 l)),some (.arr 1 (aG path))]=some (.bool true,[some (.loop R cs .ready),some (.box [.osl 4 2 0 (n+1)]),none,some (.frz 1 (aG path)),some (.arr 2 (o7 l++[[.int r, .isl (aG path)]]))])
theorem AI3 (p:Pn) (ws:List Int):aH C0 60 [.i (.iref p.cells), .i (.isl (aG ws))] []=some (.fn (.func 95) [.own 0 0, .own 1 0],[some (.box [.i (.iref p.cells)]),some (.box [.i (.isl (aG ws))])]):=by
 rw[aD rfl Tryz.func60 rfl rfl];simp
set_option maxHeartbeats 8000000
theorem ABQ (path:List Int):path=[]∨path≠[]:=by cases path<;>simp
end Go.Proofs.YtjdfjgmebalaaaaGreat.P
namespace Go.Av
theorem jH {p:Pn} {ws:List Int} (h:p.width ws≠0):jS ws=true∧p.wd ws 8≠0∧p.width ws=p.wd ws 8:=by
 unfold Pn.width at h ⊢;split at h
 ·rename_i hw;exact⟨hw,h,if_pos hw⟩
 ·exact absurd rfl h
def AD9 (p:Pn) (ws:List Int):List Stp:=if p.width ws=0 then []else stI ws [] p
theorem P9 {ws path:List Int} {p:Pn} {i:Nat} {s:Stp} (h:s∈AR ws path p i):s.2=path:=by
 unfold AR at h;obtain⟨r,_,rfl⟩:=yF.1 h;rfl
mutual
theorem FJ (ws:List Int):∀ (p:Pn) (path:List Int),∀ s∈stI ws path p,∃ r,s.2=path++r
 | .mk k t es cs ks,path,s,h=>by
  rw[V5]at h
  rcases zT.1 h with h|h
  ·exact⟨[],by rw[P9 h];simp⟩
  ·obtain⟨j,r,_,hr⟩:=NA ws ks path 0 s h;exact⟨_,hr⟩
theorem NA (ws:List Int):∀ (l:List Pn) (path:List Int) (i:Nat),∀ s∈oP ws path i l,∃ (j:Nat) (r:List Int),i≤j∧s.2=path++((j:Int)::r)
 | [],_,_,s,h=>by simp[oP]at h
 | a::l,path,i,s,h=>by
  simp only[oP,zT]at h
  rcases h with h|h
  ·obtain⟨r,hr⟩:=FJ ws a (path++[(i:Int)]) s h;exact⟨i,r,zM _,by rw[hr];simp⟩
  ·obtain⟨j,r,hj,hr⟩:=NA ws l path (i+1) s h;exact⟨j,r,by omega,hr⟩
end
end Go.Av
namespace Go.Proofs.YtjdfjgmebalaaaaGreat.P
open Go Go.Av
set_option maxRecDepth 4000
set_option maxHeartbeats 8000000
end Go.Proofs.YtjdfjgmebalaaaaGreat.P
namespace Go.Av
theorem dJ {ws:List Int}:∀ (p:Pn) (lv:Nat),p.wd ws lv≠0→p.thin:=by
 intro p
 induction p using Pn.ind with
 | h k t es cs ks ih =>
  intro lv h
  have hk:∀ a∈ks,a.thin:=fun a ha=>by
   have h2:=(MV (p:=.mk k t es cs ks) h (by intro e;simp only[Pn.kids]at e;rw[e]at ha;simp at ha)).2.2 a ha;exact ih a ha _ h2
  have hs:=nJ h;rw[Pn.bL];generalize hp:Pn.mk k t es cs ks=p at *
  have hks:ks=p.kids:=by rw[← hp];rfl
  subst hks;have ok1:∀ {w:Int} {e:Ex},e.ok w=true→e.thin:=fun h=>Ex.bF _ (by have:=Ex.iT h;omega)
  cases hs with
  | scan=>simp[Pn.scan,Pn.exprs,Pn.cols,Pn.kids]
  | filt m e a _ _ he=>exact⟨by simp[filt,Pn.exprs],fun x hx=>by simp[filt,Pn.exprs]at hx;subst hx;exact ok1 he,by simp[filt,Pn.cols],by simp[filt,Pn.kids],hk⟩
  | proj m es a _ _ hl he=>exact⟨by simp[proj,Pn.exprs];unfold bE at hl;simp at hl;omega,fun x hx=>ok1 (he x hx),by simp[proj,Pn.cols],by simp[proj,Pn.kids],hk⟩
  | pair m kd e a b _ _ _ _ _ he=>exact⟨by simp[bA,Pn.exprs],fun x hx=>by simp[bA,Pn.exprs]at hx;subst hx;exact ok1 he,by simp[bA,Pn.cols],by simp[bA,Pn.kids],hk⟩
  | union m a b=>exact⟨by simp[bY,Pn.exprs],by simp[bY,Pn.exprs],by simp[bY,Pn.cols],by simp[bY,Pn.kids],hk⟩
  | dist m a=>exact⟨by simp[Pn.exprs],by simp[Pn.exprs],by simp[Pn.cols],by simp[Pn.kids],hk⟩
  | group m cs a _ _ hc=>exact⟨by simp[Pn.exprs],by simp[Pn.exprs],by simp only[Pn.cols];omega,by simp[Pn.kids],hk⟩
theorem U2 (c:Int):(YZ c).thin:=by simp[YZ,Ex.thin,Ex.fT]
theorem qN (a:Int) (n:Nat):∀ b∈aV a n,b.thin:=by
 intro b hb;simp only[aV,yF]at hb;obtain⟨i,_,rfl⟩:=hb;exact U2 _
theorem XC {ws:List Int} {p:Pn} (h:p.wd ws 8≠0) (hk:p.kids≠[]):∀ a∈p.kids,a.wd ws 8≠0:=fun a ha=>by
 have h2:=(MV h hk).2.2 a ha;rw[Pn.iQ a 7 8 h2 (by omega)];exact h2
end Go.Av
namespace Go.Proofs.YtjdfjgmebalaaaaGreat.P
open Go Go.Av
set_option maxRecDepth 4000
set_option maxHeartbeats 4000000
theorem FL {ws:List Int} (hw:jS ws=true) {p:Pn} (hp:p.thin):aH C0 104 [.i (.agg p.cells), .i (.isl (aG ws)), .int 8] []=some (.int (p.wd ws 8),[]):=by
 refine lQ (kJ hw) ?_ p (Pn.EF p hp) 8 (by omega);unfold jS at hw;simp at hw;omega
theorem fA (e:Ex) (p:Pn):aH C0 167 [.i (.agg e.cells), .i (.agg p.cells)] []=some (.i (.agg (filt e p).cells),[]):=by
 rw[aD rfl Tryz.func167 rfl rfl,aS,Ex.aA,Pn.aA];simp
def CFX (a:Int) (n i:Nat):AS :=
 { env:=[(0, .int a),(1, .int n),(4, .nils),(5, .osl 0 5 0 i),(6, .int i),(10,jk i (.bool true))],st:=[some (.arr 5 (Ex.aB (aV a i)))] }
theorem nQ (a:Int) (ha:0≤a∧a≤100) (n:Nat) (hn:n<1000):aH C0 137 [.int a, .int n] []=some (.osl 0 5 0 n,[some (.arr 5 (Ex.aB (aV a n)))]):=by
 rw[aD rfl Tryz.func137 rfl rfl];simp;rw[aQ (CFX a n) n (by simp[CFX,aV,Ex.aB])]
 ·rw[aF];have h8:(aV a n).take n=aV a n:=zY (by simp);simp[CFX,h8]
 ·intro i hi;have w2:IntKind.i64.wrap ((i:Int)+1)=i+1:=wrO;have w3:IntKind.i64.wrap (a+(i:Int))=a+i:=wrO;have h8:(aV a i).take i=aV a i:=zY (by simp);simp[CFX,hi,w2,w3,h8,OQ,Ex.aZ,kP,show(i+1)*56≤140737488355328 by omega]
def nH (ws:List Int) (r:Int) (e:Ex) (k:Pn):Prop:=aH C0 136 [.i (.agg (filt e k).cells), .int r, .i (.isl (aG ws))] []=some (.tup [.i (.agg ((rwF ws r e k).getD (filt e k)).cells), .bool (rwF ws r e k).isSome],[])
theorem V6 {ws:List Int} (hw:jS ws=true) {e:Ex} {k:Pn} (hp:(filt e k).wd ws 8≠0) {r:Int} (hr:r≠1∧r≠2∧r≠3∧r≠4∧r≠5∧r≠7∧r≠8∧r≠10):nH ws r e k:=by
 obtain⟨h1,h2,h3⟩:=uN hp;have c1:=FL hw (dJ k 8 h1);unfold nH;obtain⟨r1,r2,r3,r4,r5,r7,r8,r10⟩:=hr;have hn:rwF ws r e k=none:=by simp[rwF,r1,r2,r3,r4,r5,r7,r8,r10]
 rw[hn,aD rfl Tryz.func136 rfl rfl]
 cases hk:k.kids with
 | nil =>
  simp only[Option.getD,aS,Ex.aA e,Pn.aA k,hk,Pn.aB]at c1 ⊢;simp[c1,r1,r2,r3,r4,r5,r7,r8,r10]
 | cons x xs =>
  have c2:=FL hw (dJ x 8 (XC h1 (by simp[hk]) x (by simp[hk])));simp only[Option.getD,aS,Ex.aA e,Pn.aA k,hk,Pn.aB,Pn.aA x]at c1 c2 ⊢;simp[c1,c2,r1,r2,r3,r4,r5,r7,r8,r10]
theorem nN {ws:List Int} (hw:jS ws=true) {e:Ex} {k:Pn} (hp:(filt e k).wd ws 8≠0) {r:Int} (hr:(r=1∧k.kind≠2)∨(r=2∧e.kind≠8)∨(r=3∧¬ (k.kind=4∨k.kind=5))∨(r=4∧k.kind≠4)∨(r=5∧k.kind≠4)∨(r=7∧k.kind≠5)∨(r=8∧k.kind≠6)∨(r=10∧k.kind≠3)):nH ws r e k:=by
 obtain⟨h1,h2,h3⟩:=uN hp;have c1:=FL hw (dJ k 8 h1);unfold nH
 have hn:rwF ws r e k=none:=by
  rcases hr with ⟨rfl,q⟩|⟨rfl,q⟩|⟨rfl,q⟩|⟨rfl,q⟩|⟨rfl,q⟩|⟨rfl,q⟩|⟨rfl,q⟩|⟨rfl,q⟩<;>simp[rwF,q]
 have hr':(r=1∧k.kind≠2)∨(r=2∧e.kind≠8)∨(r=3∧(k.kind≠4∧k.kind≠5))∨(r=4∧k.kind≠4)∨(r=5∧k.kind≠4)∨(r=7∧k.kind≠5)∨(r=8∧k.kind≠6)∨(r=10∧k.kind≠3):=by omega
 rw[hn,aD rfl Tryz.func136 rfl rfl]
 cases hk:k.kids with
 | nil =>
  simp only[Option.getD,aS,Ex.aA e,Pn.aA k,hk,Pn.aB]at c1 ⊢
  rcases hr' with ⟨rfl,q⟩|⟨rfl,q⟩|⟨rfl,q⟩|⟨rfl,q⟩|⟨rfl,q⟩|⟨rfl,q⟩|⟨rfl,q⟩|⟨rfl,q⟩<;>simp[c1,q]
 | cons x xs =>
  have c2:=FL hw (dJ x 8 (XC h1 (by simp[hk]) x (by simp[hk])));simp only[Option.getD,aS,Ex.aA e,Pn.aA k,hk,Pn.aB,Pn.aA x]at c1 c2 ⊢
  rcases hr' with ⟨rfl,q⟩|⟨rfl,q⟩|⟨rfl,q⟩|⟨rfl,q⟩|⟨rfl,q⟩|⟨rfl,q⟩|⟨rfl,q⟩|⟨rfl,q⟩<;>simp[c1,c2,q]
theorem ARB {ws:List Int} (hw:jS ws=true) {e e2:Ex} {a:Pn} (hp:(filt e (filt e2 a)).wd ws 8≠0):nH ws 1 e (filt e2 a):=by
 obtain⟨h1,h2,h3⟩:=uN hp;have c1:=FL hw (dJ _ 8 h1);have c2:=FL hw (dJ _ 8 (uN h1).1);have c3:=fA (Z7 e2 e) a;have hr:rwF ws 1 e (filt e2 a)=some (filt (Z7 e2 e) a):=by simp[rwF,filt,Pn.ex0,Pn.kG,Pn.kind,Pn.exprs,Pn.kids]
 unfold nH;rw[hr,aD rfl Tryz.func136 rfl rfl];generalize (filt e2 a).wd ws 8=W at *
 generalize a.wd ws 8=V at *
 simp only[Option.getD,Option.isSome,aS,pF,Ex.aA e,Ex.aA e2,Pn.aA a]at c1 c2 c3 ⊢;simp[c1,c2,c3]
theorem ARA {ws:List Int} (hw:jS ws=true) {e x y:Ex} {k:Pn} (hp:(filt e k).wd ws 8≠0) (he:e.kind=8) (hk2:e.kids=[x,y]):nH ws 2 e k:=by
 obtain⟨h1,h2,h3⟩:=uN hp;have c1:=FL hw (dJ k 8 h1);have c3:=fA x k;have c4:=fA y (filt x k);have hr:rwF ws 2 e k=some (filt y (filt x k)):=by simp[rwF,he,Ex.kG,Ex.sM,hk2]
 unfold nH;rw[hr,aD rfl Tryz.func136 rfl rfl]
 cases hk:k.kids with
 | nil =>
  simp only[Option.getD,Option.isSome,aS,Ex.aA e,hk2,Ex.aB,Ex.aA x,Ex.aA y,Pn.aA k,hk,Pn.aB]at c1 c3 c4 ⊢;simp[c1,c3,c4,he]
 | cons z zs =>
  have c2:=FL hw (dJ z 8 (XC h1 (by simp[hk]) z (by simp[hk])));simp only[Option.getD,Option.isSome,aS,Ex.aA e,hk2,Ex.aB,Ex.aA x,Ex.aA y,Pn.aA k,hk,Pn.aB,Pn.aA z]at c1 c2 c3 c4 ⊢;simp[c1,c2,c3,c4,he]
theorem AR9 {ws:List Int} (hw:jS ws=true) {e e2:Ex} {x y:Pn} {kd:Int} (hkd:kd=4∨kd=5) (hp:(filt e (bA kd e2 x y)).wd ws 8≠0):nH ws 3 e (bA kd e2 x y):=by
 obtain⟨h1,h2,h3⟩:=uN hp;obtain⟨g1,g2,g3,g4,g5⟩:=NN hkd h1;have c1:=FL hw (dJ _ 8 h1);have c2:=FL hw (dJ _ 8 g1);obtain⟨n,hn,n1,n2⟩:=wK hw g1;rw[hn]at c2;have c3:=fA e x;have c4:=PN e (Ex.rJ h2).1 (by have:=Ex.iT h2;omega) 0 n (by omega);have w1:IntKind.i64.wrap ((n:Int)-1)=n-1:=wrO
 have hr:rwF ws 3 e (bA kd e2 x y)=if e.cin 0 n=true then some (bA kd e2 (filt e x) y)else none:=by
  simp[rwF,bA,Pn.ex0,Pn.kG,Pn.sM,Pn.kind,Pn.exprs,Pn.kids,hkd,hn]
 unfold nH;rw[hr,aD rfl Tryz.func136 rfl rfl];generalize (bA kd e2 x y).wd ws 8=W at *
 cases hb:e.cin 0 n with
 | true =>
  rw[hb]at c4;simp only[if_true,Option.getD,Option.isSome,aS,pair_cells,Ex.aA e,Ex.aA e2,Pn.aA x,Pn.aA y]at c1 c2 c3 c4 ⊢
  rcases hkd with rfl|rfl<;>simp[c1,c2,c3,c4,w1]
 | false =>
  rw[hb]at c4;simp only[yX,if_false,Option.getD,Option.isSome,aS,pair_cells,Ex.aA e,Ex.aA e2,Pn.aA x,Pn.aA y]at c1 c2 c3 c4 ⊢
  rcases hkd with rfl|rfl<;>simp[c1,c2,c4,w1]
theorem AR8 {ws:List Int} (hw:jS ws=true) {e e2:Ex} {x y:Pn} (hp:(filt e (bA 4 e2 x y)).wd ws 8≠0):nH ws 4 e (bA 4 e2 x y):=by
 obtain⟨h1,h2,h3⟩:=uN hp;obtain⟨g1,g2,g3,g4,g5⟩:=NN (.inl rfl) h1;have c1:=FL hw (dJ _ 8 h1);have c2:=FL hw (dJ _ 8 g1);obtain⟨n,hn,n1,n2⟩:=wK hw g1;obtain⟨m,hm,m1,m2⟩:=wK hw g2;have hwf:=(Ex.rJ h2).1;rw[g5,hn,hm,← Int.natCast_add]at hwf;have g5':=g5;rw[hn,hm,← Int.natCast_add]at g5';rw[g5']at c1;rw[hn]at c2;have c4:=PN e hwf (by have:=Ex.iT h2;omega) n (n+m:Nat) (by omega);have w1:IntKind.i64.wrap ((n:Int)+m-1)=n+m-1:=wrO;have w2:IntKind.i64.wrap ((n:Int)+m-n)=m:=by rw[wrO];omega
 have hr:rwF ws 4 e (bA 4 e2 x y)=if e.cin n (n+m:Nat)=true then some (bA 4 e2 x (filt (e.vN (·-n)) y))else none:=by
  have:=g5';unfold bA at this;simp[rwF,bA,Pn.ex0,Pn.kG,Pn.sM,Pn.kind,Pn.exprs,Pn.kids,hn,this]
 have f1:=nQ 0 (by omega) n (by omega);have f2:=nQ 0 (by omega) m (by omega);have hlen:(aV 0 n++aV 0 m).length=n+m:=by simp
 have f3:=lN (aV 0 n++aV 0 m) (fun b hb=>by
  rcases zT.1 hb with h|h<;>exact qN _ _ b h) e (Ex.bF _ (by have:=Ex.iT h2;omega)) (by rw[hlen];exact Ex.EE e hwf)
 unfold nH;rw[hr,aD rfl Tryz.func136 rfl rfl]
 cases hb:e.cin n (n+m:Nat)with
 | true =>
  have hsub:e.sub (aV 0 n++aV 0 m)=e.vN (·-n):=Ex.XH (g:=fun c=>decide ((n:Int)≤c∧c<(n+m:Nat))) (fun c hc=>by
   simp only[zP]at hc;rw[zH (by simp;omega),tK,tJ (by omega)]
   congr 2;omega) e hb
  rw[hsub]at f3;have c3:=fA (e.vN (·-n)) y;generalize e.vN (·-(n:Int))=z at *
  rw[hb]at c4;have ht:∀ k:Nat,(aV 0 k).take k=aV 0 k:=fun k=>zY (by simp)
  have ht2:(Ex.aB (aV 0 n)++Ex.aB (aV 0 m)).take (n+m)=Ex.aB (aV 0 n)++Ex.aB (aV 0 m):=zY (by simp);have hl1:(n+m)*56≤140737488355328:=by omega
  simp only[yO]at c1 c4;simp only[if_true,Option.getD,Option.isSome,aS,pair_cells,Ex.aA e,Ex.aA e2,Ex.aA z,Pn.aA x,Pn.aA y,Ex.iL]at c1 c2 c3 c4 f3 ⊢;simp[c1,c2,c3,c4,w1,w2,f1,f2,f3,ht,ht2,hl1]
 | false =>
  rw[hb]at c4;simp only[yO]at c1 c4;simp only[yX,if_false,Option.getD,Option.isSome,aS,pair_cells,Ex.aA e,Ex.aA e2,Pn.aA x,Pn.aA y]at c1 c2 c4 ⊢;simp[c1,c2,c4,w1]
theorem AR7 {ws:List Int} (hw:jS ws=true) {e e2:Ex} {x y:Pn} (hp:(filt e (bA 4 e2 x y)).wd ws 8≠0):nH ws 5 e (bA 4 e2 x y):=by
 obtain⟨h1,h2,h3⟩:=uN hp;obtain⟨g1,g2,g3,g4,g5⟩:=NN (.inl rfl) h1;have c1:=FL hw (dJ _ 8 h1);have c2:=FL hw (dJ _ 8 g1)
 have hr:rwF ws 5 e (bA 4 e2 x y)=some (bA 4 (Z7 e2 e) x y):=by
  simp[rwF,bA,Pn.ex0,Pn.kG,Pn.sM,Pn.kind,Pn.exprs,Pn.kids]
 unfold nH;rw[hr,aD rfl Tryz.func136 rfl rfl];generalize (bA 4 e2 x y).wd ws 8=W at *
 generalize x.wd ws 8=V at *
 simp only[Option.getD,Option.isSome,aS,pair_cells,pF,Ex.aA e,Ex.aA e2,Pn.aA x,Pn.aA y]at c1 c2 ⊢;simp[c1,c2]
theorem AR6 {ws:List Int} (hw:jS ws=true) {e e2:Ex} {x y:Pn} (hp:(filt e (bA 5 e2 x y)).wd ws 8≠0):nH ws 7 e (bA 5 e2 x y):=by
 obtain⟨h1,h2,h3⟩:=uN hp;obtain⟨g1,g2,g3,g4,g5⟩:=NN (.inr rfl) h1;have c1:=FL hw (dJ _ 8 h1);have c2:=FL hw (dJ _ 8 g1);obtain⟨n,hn,n1,n2⟩:=wK hw g1;obtain⟨m,hm,m1,m2⟩:=wK hw g2;have hwf:=(Ex.rJ h2).1;rw[g5,hn,hm,← Int.natCast_add]at hwf;have g5':=g5;rw[hn,hm,← Int.natCast_add]at g5';rw[g5']at c1;rw[hn]at c2;have c3:=fA e (bA 4 e2 x y);have f1:=OP (n:=n+m) (p:=n) (m:=m) rfl (by omega);have f2:=V7 e (n:=n+m) (p:=n) (m:=m) rfl (by omega) hwf
 have hr:rwF ws 7 e (bA 5 e2 x y)=if AE5 e (n+m:Nat) n=true then some (filt e (bA 4 e2 x y))else none:=by
  have:=g5';unfold bA at this;simp[rwF,bA,Pn.ex0,Pn.kG,Pn.sM,Pn.kind,Pn.exprs,Pn.kids,hn,this]
 unfold nH;rw[hr,aD rfl Tryz.func136 rfl rfl];simp only[yO]at c1 f1 f2
 cases hb:AE5 e (n+m:Nat) n with
 | true =>
  rw[show AE5 e ((n:Int)+m) n=true by rw[← Int.natCast_add];exact hb]at f2;simp only[if_true,Option.getD,Option.isSome,aS,pair_cells,Ex.aA e,Ex.aA e2,Pn.aA x,Pn.aA y]at c1 c2 c3 f2 ⊢;simp[c1,c2,c3,f1,f2]
 | false =>
  rw[show AE5 e ((n:Int)+m) n=false by rw[← Int.natCast_add];exact hb]at f2;simp only[yX,if_false,Option.getD,Option.isSome,aS,pair_cells,Ex.aA e,Ex.aA e2,Pn.aA x,Pn.aA y]at c1 c2 f2 ⊢;simp[c1,c2,f1,f2]
theorem AR5 {ws:List Int} (hw:jS ws=true) {e:Ex} {x y:Pn} (hp:(filt e (bY x y)).wd ws 8≠0):nH ws 8 e (bY x y):=by
 obtain⟨h1,h2,h3⟩:=uN hp;have c1:=FL hw (dJ _ 8 h1);have c2:=FL hw (dJ x 8 (XC h1 (by simp[bY,Pn.kids]) x (by simp[bY,Pn.kids])));have c3:=fA e x;have c4:=fA e y
 have hr:rwF ws 8 e (bY x y)=some (bY (filt e x) (filt e y)):=by
  simp[rwF,bY,Pn.ex0,Pn.kG,Pn.sM,Pn.kind,Pn.exprs,Pn.kids]
 unfold nH;rw[hr,aD rfl Tryz.func136 rfl rfl];generalize (bY x y).wd ws 8=W at *
 generalize x.wd ws 8=V at *
 simp only[Option.getD,Option.isSome,aS,FB,Ex.aA e,Pn.aA x,Pn.aA y]at c1 c2 c3 c4 ⊢;simp[c1,c2,c3,c4]
theorem AMZ {ws:List Int} (hw:jS ws=true) {e:Ex} {es:List Ex} {x:Pn} (hp:(filt e (proj es x)).wd ws 8≠0):nH ws 10 e (proj es x):=by
 obtain⟨h1,h2,h3⟩:=uN hp;obtain⟨g1,g2,g3,g4⟩:=AAO h1;have c1:=FL hw (dJ _ 8 h1);have c2:=FL hw (dJ _ 8 g1);rw[g4]at h2;have c3:=fA (e.sub es) x;have f3:=lN es (fun b hb=>Ex.bF _ (by have:=Ex.iT (zS.1 g3 b hb);omega)) e (Ex.bF _ (by have:=Ex.iT h2;omega)) (Ex.EE e (Ex.rJ h2).1)
 have hr:rwF ws 10 e (proj es x)=some (proj es (filt (e.sub es) x)):=by
  simp[rwF,proj,Pn.ex0,Pn.kG,Pn.sM,Pn.kind,Pn.exprs,Pn.kids]
 unfold nH;rw[hr,aD rfl Tryz.func136 rfl rfl];generalize (proj es x).wd ws 8=W at *
 generalize x.wd ws 8=V at *
 generalize e.sub es=z at *
 simp only[Option.getD,Option.isSome,aS,jI,Ex.aA e,Ex.aA z,Pn.aA x]at c1 c2 c3 f3 ⊢;simp[c1,c2,c3,f3]
theorem AI8 {ws:List Int} (hw:jS ws=true) {e:Ex} {k:Pn} (hp:(filt e k).wd ws 8≠0) (r:Int):nH ws r e k:=by
 obtain⟨h1,h2,h3⟩:=uN hp;by_cases hr:r≠1∧r≠2∧r≠3∧r≠4∧r≠5∧r≠7∧r≠8∧r≠10
 ·exact V6 hw hp hr
 have hk:=mD h1;have hr':r=1∨r=2∨r=3∨r=4∨r=5∨r=7∨r=8∨r=10:=by omega
 rcases hr' with rfl|rfl|rfl|rfl|rfl|rfl|rfl|rfl
 ·by_cases q:k.kind=2
  ·obtain⟨e2,a,rfl⟩:=pI hk q;exact ARB hw hp
  ·exact nN hw hp (.inl ⟨rfl,q⟩)
 ·by_cases q:e.kind=8
  ·rcases Ex.wI (Ex.rJ h2).1 with ⟨h,_⟩|⟨h,_⟩|⟨h,_⟩|⟨_,x,y,h,_⟩
   ·omega
   ·omega
   ·omega
   ·exact ARA hw hp q h
  ·exact nN hw hp (.inr (.inl ⟨rfl,q⟩))
 ·by_cases q:k.kind=4∨k.kind=5
  ·obtain⟨e2,x,y,hx⟩:=jG hk q;generalize k.kind=kd at *
   subst hx;exact AR9 hw q hp
  ·exact nN hw hp (.inr (.inr (.inl ⟨rfl,q⟩)))
 ·by_cases q:k.kind=4
  ·obtain⟨e2,x,y,hx⟩:=jG hk (.inl q);rw[q]at hx;subst hx;exact AR8 hw hp
  ·exact nN hw hp (.inr (.inr (.inr (.inl ⟨rfl,q⟩))))
 ·by_cases q:k.kind=4
  ·obtain⟨e2,x,y,hx⟩:=jG hk (.inl q);rw[q]at hx;subst hx;exact AR7 hw hp
  ·exact nN hw hp (.inr (.inr (.inr (.inr (.inl ⟨rfl,q⟩)))))
 ·by_cases q:k.kind=5
  ·obtain⟨e2,x,y,hx⟩:=jG hk (.inr q);rw[q]at hx;subst hx;exact AR6 hw hp
  ·exact nN hw hp (.inr (.inr (.inr (.inr (.inr (.inl ⟨rfl,q⟩))))))
 ·by_cases q:k.kind=6
  ·obtain⟨x,y,rfl⟩:=AGX hk q;exact AR5 hw hp
  ·exact nN hw hp (.inr (.inr (.inr (.inr (.inr (.inr (.inl ⟨rfl,q⟩)))))))
 ·by_cases q:k.kind=3
  ·obtain⟨es,x,rfl⟩:=o5 hk q;exact AMZ hw hp
  ·exact nN hw hp (.inr (.inr (.inr (.inr (.inr (.inr (.inr ⟨rfl,q⟩)))))))
def SRw (ws:List Int) (r:Int) (p:Pn):Prop:=aH C0 102 [.i (.agg p.cells), .int r, .i (.isl (aG ws))] []=some (.tup [.i (.agg ((rwP ws r p).getD p).cells), .bool (rwP ws r p).isSome],[])
theorem AI7 {ws:List Int} (hw:jS ws=true) {e:Ex} {k:Pn} (hp:(filt e k).wd ws 8≠0) (r:Int):SRw ws r (filt e k):=by
 have h:=AI8 hw hp r;unfold nH at h;unfold SRw;rw[fB];generalize (rwF ws r e k).getD (filt e k)=q at *
 generalize (rwF ws r e k).isSome=b at *
 rw[aD rfl Tryz.func102 rfl rfl];simp only[aS,Pn.aA q]at h ⊢;simp[h]
theorem AR3 {ws:List Int} {p:Pn} {r:Int} (h2:p.kind≠2) (h4:¬ (r=6∧p.kind=4)) (h7:¬ (r=9∧p.kind=7)) (h3:¬ (r=11∧p.kind=3)):SRw ws r p:=by
 have hn:rwP ws r p=none:=by
  unfold rwP;rw[if_neg h2,if_neg h4,if_neg (fun h=>h7 ⟨h.1,h.2.1⟩),if_neg (fun h=>h3 ⟨h.1,h.2.1⟩)]
 unfold SRw;rw[hn,aD rfl Tryz.func102 rfl rfl];simp only[Option.getD,Option.isSome,Pn.aA p];by_cases r6:r=6
 ·have k4:¬ p.kind=4:=fun h=>h4 ⟨r6,h⟩
  simp[h2,r6,k4]
 ·by_cases r9:r=9
  ·have k7:¬ p.kind=7:=fun h=>h7 ⟨r9,h⟩
   simp[h2,r9,k7]
  ·by_cases r11:r=11
   ·have k3:¬ p.kind=3:=fun h=>h3 ⟨r11,h⟩
    simp[h2,r11,k3]
   ·simp[h2,r6,r9,r11]
theorem AMY {ws:List Int} (hw:jS ws=true) {e:Ex} {x y:Pn} (hp:(bA 4 e x y).wd ws 8≠0):SRw ws 6 (bA 4 e x y):=by
 obtain⟨g1,g2,g3,g4,g5⟩:=NN (.inl rfl) hp;have c1:=FL hw (dJ _ 8 g1);have c2:=FL hw (dJ _ 8 g2);obtain⟨n,hn,n1,n2⟩:=wK hw g1;obtain⟨m,hm,m1,m2⟩:=wK hw g2;have hwf:=(Ex.rJ g4).1;rw[hn]at c1 hwf;rw[hm]at c2 hwf;have f1:=nQ m (by omega) n (by omega);have f2:=nQ 0 (by omega) m (by omega);have hlen:(aV (m:Int) n++aV 0 m).length=n+m:=by simp
 have f3:=lN (aV (m:Int) n++aV 0 m) (fun b hb=>by
  rcases zT.1 hb with h|h<;>exact qN _ _ b h) e (Ex.bF _ (by have:=Ex.iT g4;omega)) (by rw[hlen,yO];exact Ex.EE e hwf)
 have hsub:e.sub (aV (m:Int) n++aV 0 m)=e.vN (pO n m):=Ex.XH (g:=fun c=>decide (0≤c∧c<(n:Int)+m)) (fun c hc=>by
  simp only[zP]at hc;rw[YX (by omega)]
  congr 3;omega) e (Ex.MU e hwf)
 rw[hsub]at f3
 have hr:rwP ws 6 (bA 4 e x y)=some (proj (aV m n++aV 0 m) (bA 4 (e.vN (pO n m)) y x)):=by
  simp[rwP,bA,Pn.ex0,Pn.kG,Pn.sM,Pn.kind,Pn.exprs,Pn.kids,hn,hm]
 unfold SRw;rw[hr,aD rfl Tryz.func102 rfl rfl];generalize e.vN (pO n m)=z at *
 have ht:∀ (a:Int) (k:Nat),(aV a k).take k=aV a k:=fun a k=>zY (by simp)
 have ht2:(Ex.aB (aV m n)++Ex.aB (aV 0 m)).take (n+m)=Ex.aB (aV m n)++Ex.aB (aV 0 m):=zY (by simp);have hl1:(n+m)*56≤140737488355328:=by omega
 simp only[Option.getD,Option.isSome,jI,pair_cells,Ex.aA e,Ex.aA z,Pn.aA x,Pn.aA y,Ex.iL]at c1 c2 f3 ⊢;simp[c1,c2,f1,f2,f3,ht,ht2,hl1]
theorem AI6 {ws:List Int} {a:Pn}:SRw ws 9 (.mk 7 0 [] [] [a]):=by
 have hc:(Pn.mk 7 0 [] [] [a]).cells=[.int 7, .int 0, .isl [], .isl [], .isl [a.cells]]:=by simp[Pn.cells,Ex.aB,aG,Pn.aB]
 unfold SRw;rw[aD rfl Tryz.func102 rfl rfl];by_cases h:a.kind=7∨a.kind=8
 ·have hr:rwP ws 9 (.mk 7 0 [] [] [a])=some a:=by simp[rwP,Pn.kG,Pn.kids,h]
  rw[hr];simp only[Option.getD,Option.isSome,hc,Pn.aA a]
  rcases h with h|h<;>simp[h]
 ·have hr:rwP ws 9 (.mk 7 0 [] [] [a])=none:=by simp[rwP,Pn.kG,Pn.kids,h]
  rw[hr];simp only[Option.getD,Option.isSome,hc,Pn.aA a];have h7:¬ a.kind=7:=by omega
  have h8:¬ a.kind=8:=by omega
  simp[h7,h8]
theorem NB {ws:List Int} {fs:List Ex} {a:Pn} (h:a.kind≠3):SRw ws 11 (proj fs a):=by
 have hr:rwP ws 11 (proj fs a)=none:=by simp[rwP,Pn.kG,Pn.kids,proj,h]
 unfold SRw;rw[hr,aD rfl Tryz.func102 rfl rfl];simp only[Option.getD,Option.isSome,jI,Pn.aA a];simp[h]
def SRX (fs es:List Ex) (x:Pn) (ws:List Int) (zs:List Ex) (i:Nat):AS :=
 { env:=[(0, .i (.agg [.int 3, .int 0, .isl (Ex.aB fs), .isl [], .isl [[.int 3, .int 0, .isl (Ex.aB es), .isl [], .isl [[.int x.kind, .int x.table, .isl (Ex.aB x.exprs), .isl (aG x.cols), .isl (Pn.aB x.kids)]]]]])),(1, .int 11),(2, .i (.isl (aG ws))),(3, .own 0 0),(6, .own 1 0),(7, .bool false),(8, .junk),(9, .junk),(10, .junk),(11, .junk),(12, .osl 2 5 0 i),(13, .int i),(14, .bool false),(24, .bool false),(71, .bool false),(99, .bool true),(120,jk i (.bool true))],
   st:=[some (.box [.i (.int 3), .i (.int 0), .i (.isl (Ex.aB fs)), .i (.isl []), .i (.isl [[.int 3, .int 0, .isl (Ex.aB es), .isl [], .isl [[.int x.kind, .int x.table, .isl (Ex.aB x.exprs), .isl (aG x.cols), .isl (Pn.aB x.kids)]]]])]),some (.box [.int 0, .int 0, .nils, .nils, .nils]),some (.arr 5 (Ex.aB (zs.take i)))] }
theorem AA5 {ws:List Int} {fs es:List Ex} {x:Pn} (hp:(proj fs (proj es x)).wd ws 8≠0):SRw ws 11 (proj fs (proj es x)):=by
 obtain⟨h1,h2,h3,h4⟩:=AAO hp;obtain⟨g1,g2,g3,g4⟩:=AAO h1;rw[g4]at h3;have f3:=fun f (hf:f∈fs)=>lN es (fun b hb=>Ex.bF _ (by have:=Ex.iT (zS.1 g3 b hb);omega)) f (Ex.bF _ (by have:=Ex.iT (zS.1 h3 f hf);omega)) (Ex.EE f (Ex.rJ (zS.1 h3 f hf)).1)
 have hr:rwP ws 11 (proj fs (proj es x))=some (proj (fs.map (Ex.sub es)) x):=by
  simp[rwP,proj,Pn.ex0,Pn.kG,Pn.sM,Pn.kind,Pn.exprs,Pn.kids]
 unfold SRw;rw[hr,aD rfl Tryz.func102 rfl rfl];have hlen:fs.length≤6:=by unfold bE at h2;simp at h2;omega
 have hz:∀ (i:Nat) (f:Ex),fs[i]?=some f→(fs.map (Ex.sub es))[i]?=some (f.sub es):=fun i f h=>by simp[h]
 have hzl:(fs.map (Ex.sub es)).length=fs.length:=by simp
 generalize fs.map (Ex.sub es)=zs at *
 simp only[Option.getD,Option.isSome,jI,Pn.aA x];simp;rw[aQ (SRX fs es x ws zs) fs.length (by simp[SRX,Ex.aB])]
 ·rw[aF];have ht:zs.take fs.length=zs:=zY (by omega);simp[SRX,ht,hzl]
 ·intro i hi;have q1:=zX hi;have hm:=zV q1;have r1:=Ex.aO q1;generalize fs[i]=f at q1 hm r1;have q2:=hz i f q1;have c5:=f3 f hm;generalize f.sub es=z at q2 c5;have htk:=aL q2;have w2:IntKind.i64.wrap ((i:Int)+1)=i+1:=wrO;have hl1:(i+1)*56≤140737488355328:=by omega
  have hl2:i≤min i zs.length:=by omega
  simp only[Ex.aA f,Ex.aA z]at c5 r1;simp[SRX,hi,r1,c5,w2,htk,Ex.aZ,Ex.aA z,hl1,hl2,zN]
theorem AR4 {ws:List Int} (hw:jS ws=true) {p:Pn} (hp:p.wd ws 8≠0) (r:Int):SRw ws r p:=by
 have hk:=mD hp;by_cases k2:p.kind=2
 ·obtain⟨e,a,rfl⟩:=pI hk k2;exact AI7 hw hp r
 by_cases k4:r=6∧p.kind=4
 ·obtain⟨rfl,k4⟩:=k4;obtain⟨e,x,y,hx⟩:=jG hk (.inl k4);rw[k4]at hx;subst hx;exact AMY hw hp
 by_cases k7:r=9∧p.kind=7
 ·obtain⟨rfl,k7⟩:=k7;obtain⟨a,rfl⟩:=AGY hk k7;exact AI6
 by_cases k3:r=11∧p.kind=3
 ·obtain⟨rfl,k3⟩:=k3;obtain⟨fs,a,rfl⟩:=o5 hk k3;by_cases k33:a.kind=3
  ·obtain⟨V,hV,_⟩:=wE hk;obtain⟨es,x,rfl⟩:=o5 hV k33;exact AA5 hp
  ·exact NB k33
 exact AR3 k2 k4 k7 k3
end Go.Proofs.YtjdfjgmebalaaaaGreat.P
namespace Go.Av
theorem APE {path:List Int} {p a:Pn} {x:Int} (h:Pn.at path p=some a):Pn.at (path++[x]) p=if 0≤x then a.kids[x.toNat]? else none:=by
 rw[tO path p a [x] h];unfold Pn.at;split
 ·cases a.kids[x.toNat]?<;>simp[Pn.at]
 ·rfl
theorem APF {path r:List Int} {p:Pn} (h:Pn.at path p=none):Pn.at (path++r) p=none:=by
 induction path generalizing p with
 | nil=>simp[Pn.at]at h
 | cons i path ih =>
  simp only[yG,Pn.at]at h ⊢;split
  ·rename_i h0;rw[if_pos h0]at h
   cases hk:p.kids[i.toNat]? with
   | none=>rfl
   | some b=>rw[hk]at h;exact ih h
  ·rfl
theorem AGO (path:List Int) (p:Pn):∃ j:Nat,(∀ i,i<j→∃ (x:Int) (a b:Pn),path[i]?=some x∧Pn.at (path.take i) p=some a∧0≤x∧a.kids[x.toNat]?=some b∧Pn.at (path.take (i+1)) p=some b)∧((∃ a,j=path.length∧Pn.at path p=some a)∨(∃ (x:Int) (a:Pn),path[j]?=some x∧Pn.at (path.take j) p=some a∧(0≤x→a.kids[x.toNat]?=none)∧Pn.at path p=none)):=by
 generalize hn:path.length=n
 induction n generalizing path with
 | zero =>
  obtain rfl:=zW.1 hn;exact⟨0,fun i hi=>by omega, .inl ⟨p,rfl,rfl⟩⟩
 | succ n ih =>
  obtain⟨l,x,rfl⟩:∃ l x,path=l++[x]:=by
   rcases List.eq_nil_or_concat path with h|⟨l,x,h⟩
   ·rw[h]at hn;simp at hn
   ·exact⟨l,x,by simpa using h⟩
  have hln:l.length=n:=by simpa using hn
  subst hln;obtain⟨j,h1,h2⟩:=ih l rfl
  have hlt:∀ i,i<j→i<l.length:=fun i hi=>by
   obtain⟨y,_,_,h,_⟩:=h1 i hi;exact(zZ.1 h).1
  have h1':∀ i,i<j→∃ (x':Int) (a b:Pn),(l++[x])[i]?=some x'∧Pn.at ((l++[x]).take i) p=some a∧0≤x'∧a.kids[x'.toNat]?=some b∧Pn.at ((l++[x]).take (i+1)) p=some b:=fun i hi=>by
   obtain⟨y,a,b,q1,q2,q3,q4,q5⟩:=h1 i hi;have hl:=hlt i hi;refine⟨y,a,b,by rw[zG hl];exact q1,by rw[zA5 (by omega)];exact q2,q3,q4,by rw[zA5 (by omega)];exact q5⟩
  rcases h2 with ⟨a,rfl,ha⟩|⟨y,a,q1,q2,q3,q4⟩
  ·have hs:=APE (x:=x) ha;by_cases hx:0≤x
   ·rw[if_pos hx]at hs
    cases hk:a.kids[x.toNat]? with
    | none=>exact⟨l.length,h1', .inr ⟨x,a,by simp,by simpa using ha,fun _=>hk,by rw[hs,hk]⟩⟩
    | some b =>
     refine⟨l.length+1,fun i hi=>?_, .inl ⟨b,by simp,by rw[hs,hk]⟩⟩;by_cases hi':i<l.length
     ·exact h1' i hi'
     ·obtain rfl:i=l.length:=by omega
      exact⟨x,a,b,by simp,by simpa using ha,hx,hk,by rw[zY (by simp),hs,hk]⟩
   ·rw[if_neg hx]at hs;exact⟨l.length,h1', .inr ⟨x,a,by simp,by simpa using ha,fun h=>absurd h hx,hs⟩⟩
  ·have hl:=(zZ.1 q1).1;exact⟨j,h1', .inr ⟨y,a,by rw[zG hl];exact q1,by rw[zA5 (by omega)];exact q2,q3,APF q4⟩⟩
theorem WY:∀ (path:List Int) (p a:Pn),p.thin→Pn.at path p=some a→a.thin
 | [],p,a,h,e=>by simp[Pn.at]at e;subst e;exact h
 | i::r,p,a,h,e=>by
  obtain⟨n,rfl,b,hb,hr⟩:=Pn.qU e;exact WY r b a (((Pn.bL p).1 h).2.2.2.2 b (zV hb)) hr
theorem Pn.uG (l:List Pn) (n:Nat) (x:Pn):(Pn.aB l).set n x.cells=Pn.aB (l.set n x):=by
 induction l generalizing n with
 | nil=>simp[Pn.aB]
 | cons a l ih=>cases n with
  | zero=>simp[Pn.aB]
  | succ n=>simp[Pn.aB,ih n]
end Go.Av
namespace Go.Proofs.YtjdfjgmebalaaaaGreat.P
open Go Go.Av
set_option maxRecDepth 4000
set_option maxHeartbeats 4000000
def rM (a:Pn):Option Blk:=some (.box [.i (.int a.kind), .i (.int a.table), .i (.isl (Ex.aB a.exprs)), .i (.isl (aG a.cols)), .i (.isl (Pn.aB a.kids))])
def PAX (p:Pn) (path:List Int) (a:Pn) (i:Nat):AS :=
 { env:=[(0, .i (.agg [.int p.kind, .int p.table, .isl (Ex.aB p.exprs), .isl (aG p.cols), .isl (Pn.aB p.kids)])),(1, .i (.isl (aG path))),(2, .own 0 0),(4, .own 1 0),(5, .bool false),(6, .int i),(10,jk i (.bool true)),(22,jk i (.bool false))],
   st:=[rM a,some (.box [.int 0, .int 0, .nils, .nils, .nils])] }
theorem AEJ {p:Pn} (hp:p.thin) {path:List Int} (hl:path.length<1000000):aH C0 101 [.i (.agg p.cells), .i (.isl (aG path))] []=some (.tup [.i (.agg ((Pn.at path p).getD Pn.zero).cells), .bool (Pn.at path p).isSome],[]):=by
 obtain⟨j,h1,h2⟩:=AGO path p;rw[aD rfl Tryz.func101 rfl rfl];simp only[Pn.aA p];simp;rw[aQ (fun i=>PAX p path ((Pn.at (path.take i) p).getD Pn.zero) i) j (by simp[PAX,Pn.at,rM])]
 ·rw[aF]
  rcases h2 with ⟨a,rfl,ha⟩|⟨x,a,q1,q2,q3,q4⟩
  ·simp[PAX,rM,ha,Pn.aA a]
  ·have r1:=aT q1;have hj:=(zZ.1 q1).1;have ha:=WY _ _ _ hp q2;have hka:=((Pn.bL a).1 ha).2.2.2.1;have w1:IntKind.i64.wrap ((a.kids.length:Int)-1)=a.kids.length-1:=wrO
   have hin:(decide (0≤x∧x≤(a.kids.length:Int)-1))=false:=by
    rw[x8];rintro⟨g1,g2⟩;have:=xD.1 (q3 g1);omega
   have hir:=LU x 0 ((a.kids.length:Int)-1);rw[hin]at hir;simp[PAX,rM,q2,q4,hj,r1,w1,hir,aU]
 ·intro i hi;obtain⟨x,a,b,q1,q2,q3,q4,q5⟩:=h1 i hi;have r1:=aT q1;have hj:=(zZ.1 q1).1;have ha:=WY _ _ _ hp q2;have hka:=((Pn.bL a).1 ha).2.2.2.1;have hxl:=(zZ.1 q4).1;have r4:=Pn.aO q4;have w1:IntKind.i64.wrap ((a.kids.length:Int)-1)=a.kids.length-1:=wrO;have w2:IntKind.i64.wrap ((i:Int)+1)=i+1:=wrO;have hin:(decide (0≤x∧x≤(a.kids.length:Int)-1))=true:=by rw[zP];omega
  have hir:=LU x 0 ((a.kids.length:Int)-1);rw[hin]at hir;rw[Pn.aA b]at r4;simp[PAX,rM,q2,q5,hj,r1,w1,w2,hir,q3,show x<a.kids.length by omega,r4]
end Go.Proofs.YtjdfjgmebalaaaaGreat.P
namespace Go.Av
theorem jZ {e:Ex} {a:Pn} (he:e.thin) (ha:a.thin):(filt e a).thin:=by simp[filt,Pn.thin,Pn.fT,he,ha]
theorem G8 {es:List Ex} {a:Pn} (hl:es.length<1000000000) (he:∀ e∈es,e.thin) (ha:a.thin):(proj es a).thin:=by simp[proj,Pn.thin,Pn.fT,hl,ha];exact he
theorem sJ {kd:Int} {e:Ex} {a b:Pn} (he:e.thin) (ha:a.thin) (hb:b.thin):(bA kd e a b).thin:=by simp[bA,Pn.thin,Pn.fT,he,ha,hb]
theorem ZP {a b:Pn} (ha:a.thin) (hb:b.thin):(bY a b).thin:=by simp[bY,Pn.thin,Pn.fT,ha,hb]
theorem UD {a b:Ex} (ha:a.thin) (hb:b.thin):(Z7 a b).thin:=by simp[Z7,Ex.thin,Ex.fT,ha,hb]
theorem qJ:Ex.zero.thin:=by simp[Ex.zero,Ex.thin,Ex.fT]
theorem Pn.sN {p:Pn} (h:p.thin):p.kG.thin:=by
 unfold Pn.kG
 cases hk:p.kids[0]? with
 | none=>exact Pn.ET
 | some a=>exact((Pn.bL p).1 h).2.2.2.2 a (zV hk)
theorem Pn.A9 {p:Pn} (h:p.thin):p.sM.thin:=by
 unfold Pn.sM
 cases hk:p.kids[1]? with
 | none=>exact Pn.ET
 | some a=>exact((Pn.bL p).1 h).2.2.2.2 a (zV hk)
theorem Pn.YI {p:Pn} (h:p.thin):p.ex0.thin:=by
 unfold Pn.ex0
 cases hk:p.exprs[0]? with
 | none=>exact qJ
 | some a=>exact((Pn.bL p).1 h).2.1 a (zV hk)
theorem Ex.sN {e:Ex} (h:e.thin):e.kG.thin:=by
 unfold Ex.kG
 cases hk:e.kids[0]? with
 | none=>exact qJ
 | some a=>exact((Ex.bL e).1 h).2 a (zV hk)
theorem Ex.A9 {e:Ex} (h:e.thin):e.sM.thin:=by
 unfold Ex.sM
 cases hk:e.kids[1]? with
 | none=>exact qJ
 | some a=>exact((Ex.bL e).1 h).2 a (zV hk)
theorem Ex.XG {l:List Ex} (hl:∀ b∈l,b.thin):∀ e:Ex,e.thin→(e.sub l).thin:=by
 intro e
 induction e using Ex.ind with
 | h k c v ks ih =>
  intro ht;have h:=(Ex.bL _).1 ht;by_cases hk:k=1
  ·unfold Ex.sub;rw[if_pos hk]
   cases hx:l[c.toNat]? with
   | none=>exact qJ
   | some b=>exact hl b (zV hx)
  ·rw[Ex.vD l (e:=.mk k c v ks) hk,Ex.bL];refine⟨by simpa [Ex.kids]using h.1,fun x hx=>?_⟩;simp only[Ex.kids,yF]at hx;obtain⟨y,hy,rfl⟩:=hx;exact ih y hy (h.2 y hy)
theorem Ex.SC {f:Int→Int}:∀ e:Ex,e.thin→(e.vN f).thin:=by
 intro e
 induction e using Ex.ind with
 | h k c v ks ih =>
  intro ht;have h:=(Ex.bL _).1 ht;by_cases hk:k=1
  ·rw[Ex.EL f (e:=.mk k c v ks) hk];exact U2 _
  ·rw[Ex.EK f (e:=.mk k c v ks) hk,Ex.bL];refine⟨by simpa [Ex.kids]using h.1,fun x hx=>?_⟩;simp only[Ex.kids,yF]at hx;obtain⟨y,hy,rfl⟩:=hx;exact ih y hy (h.2 y hy)
theorem AIE {ws:List Int} {r:Int} {e:Ex} {k q:Pn} (he:e.thin) (hk:k.thin) (h:rwF ws r e k=some q):q.thin:=by
 have k0:=Pn.sN hk;have k1:=Pn.A9 hk;have x0:=Pn.YI hk;have hx:=((Pn.bL k).1 hk).2.1;have hl:=((Pn.bL k).1 hk).1;unfold rwF at h
 repeat' split at h
 all_goals first
  | (cases h;done)
  | (injection h with h;subst h
     first
      | exact jZ (UD x0 he) k0
      | exact jZ (Ex.A9 he) (jZ (Ex.sN he) hk)
      | exact sJ x0 (jZ he k0) k1
      | exact sJ x0 k0 (jZ (Ex.SC _ he) k1)
      | exact sJ (UD x0 he) k0 k1
      | exact jZ he (sJ x0 k0 k1)
      | exact ZP (jZ he k0) (jZ he k1)
      | exact G8 hl hx (jZ (Ex.XG hx _ he) k0))
theorem AIC {ws:List Int} (hw:∀ w∈ws,0≤w∧w≤6) {r:Int} {p q:Pn} (hp:p.thin) (h:rwP ws r p=some q):q.thin:=by
 have k0:=Pn.sN hp;have k1:=Pn.A9 hp;have x0:=Pn.YI hp;have hx:=((Pn.bL p).1 hp).2.1;have hl:=((Pn.bL p).1 hp).1;have hx0:=((Pn.bL _).1 k0).2.1;have r0:=Pn.iD hw p.kG 8;have r1:=Pn.iD hw p.sM 8;unfold rwP at h;split at h
 ·exact AIE x0 k0 h
 split at h
 ·injection h with h;subst h;refine G8 (by simp;omega) (fun e he=>?_) (sJ (Ex.SC _ x0) k1 k0)
  rcases zT.1 he with h|h<;>exact qN _ _ e h
 split at h
 ·injection h with h;subst h;exact k0
 split at h
 ·injection h with h;subst h;refine G8 (by simpa using hl) (fun e he=>?_) (Pn.sN k0);obtain⟨y,hy,rfl⟩:=yF.1 he;exact Ex.XG hx0 y (hx y hy)
 ·cases h
theorem XX {q:Pn} (hq:q.thin):∀ (path:List Int) (p a:Pn),p.thin→Pn.at path p=some a→(Pn.put path p q).thin
 | [],p,a,_,_=>by simpa [Pn.put]using hq
 | x::r,p,a,hp,ha=>by
  obtain⟨n,rfl,b,hb,hr⟩:=Pn.qU ha;have h:=(Pn.bL p).1 hp;have ih:=XX hq r b a (h.2.2.2.2 b (zV hb)) hr;rw[Pn.EH q hb,Pn.bL];refine⟨h.1,h.2.1,h.2.2.1,by simpa [Pn.kids]using h.2.2.2.1,fun c hc=>?_⟩;simp only[Pn.kids]at hc
  rcases xG hc with h1|h1
  ·exact h.2.2.2.2 c h1
  ·rw[h1];exact ih
end Go.Av
namespace Go.Proofs.YtjdfjgmebalaaaaGreat.P
open Go Go.Av
set_option maxRecDepth 4000
set_option maxHeartbeats 4000000
theorem NG {p q:Pn} (hq:q.thin):aH C0 103 [.i (.agg p.cells), .i (.isl []), .i (.agg q.cells)] []=some (.i (.agg q.cells),[]):=by
 have h:=vV q hq;rw[aD rfl Tryz.func103 rfl rfl];rw[Pn.aA p,Pn.aA q]at *
 by_cases he:q.exprs=[]
 ·by_cases hk:q.kids=[]
  ·simp[pcX,pcS,hk,he,Pn.aB,Ex.aB]at h;simp[h,hk,he,Pn.aB,Ex.aB]
  ·have hkl:q.kids.length≠0:=fun h=>hk (zW.1 h)
   simp[pcX,pcS,hk,he,aM hkl,aJ hkl,Ex.aB]at h;simp[h,he,Ex.aB]
 ·have hel:q.exprs.length≠0:=fun h=>he (zW.1 h)
  by_cases hk:q.kids=[]
  ·simp[pcX,pcS,hk,he,aM hel,aJ hel,Pn.aB]at h;simp[h,hk,Pn.aB]
  ·have hkl:q.kids.length≠0:=fun h=>hk (zW.1 h)
   simp[pcX,pcS,hk,he,aM hel,aJ hel,aM hkl,aJ hkl]at h;simp[h]
theorem CZ {q:Pn} (hq:q.thin):∀ (path:List Int) (p a:Pn),p.thin→path.length<1000000→Pn.at path p=some a→aH C0 103 [.i (.agg p.cells), .i (.isl (aG path)), .i (.agg q.cells)] []=some (.i (.agg (Pn.put path p q).cells),[])
 | [],p,a,hp,hl,ha=>by simpa [aG,Pn.put]using NG (p:=p) hq
 | x::r,p,a,hp,hl,ha=>by
  obtain⟨n,rfl,b,hb,hr⟩:=Pn.qU ha;have hrl:r.length<1000000:=by simp at hl;omega
  have ih:=CZ hq r b a (((Pn.bL p).1 hp).2.2.2.2 b (zV hb)) hrl hr;have h:=vV p hp;have hk:p.kids≠[]:=fun h=>by rw[h]at hb;simp at hb
  have hkl:p.kids.length≠0:=fun h=>hk (zW.1 h)
  have hn:=(zZ.1 hb).1;have r4:=Pn.aO hb;rw[Pn.EH q hb,aD rfl Tryz.func103 rfl rfl];generalize Pn.put r b q=z at *
  have hs:=Pn.uG p.kids n z;have hsl:(p.kids.set n z).length=p.kids.length:=by simp
  have hsn:p.kids.set n z≠[]:=fun h=>by rw[h]at hsl;simp at hsl;exact hkl hsl.symm
  have ht:(Pn.aB (p.kids.set n z)).take p.kids.length=Pn.aB (p.kids.set n z):=zY (by simp);have hlen1:(r.length:Int)+1≠0:=by omega
  have hone:(1:Int)≤(r.length:Int)+1:=by omega
  rw[Pn.aA p,Pn.aA q]at *
  rw[Pn.aA b,Pn.aA z]at *
  have htr:List.take r.length (aG r)=aG r:=zY (by simp);by_cases he:p.exprs=[]
  ·simp[pcX,pcS,hk,he,aM hkl,aJ hkl,Ex.aB]at h;simp[h,he,Ex.aB,aG,Pn.cells,hn,hlen1,hone,r4,ih,hs,ht,htr]
  ·have hel:p.exprs.length≠0:=fun h=>he (zW.1 h)
   simp[pcX,pcS,hk,he,aM hel,aJ hel,aM hkl,aJ hkl]at h;simp[h,aG,Pn.cells,hn,hlen1,hone,r4,ih,hs,ht,htr]
theorem tV {ws:List Int} (hw:jS ws=true) {p:Pn} (hp:p.wd ws 8≠0) (r:Int) {path:List Int} (hl:path.length<1000000):aH C0 65 [.i (.agg p.cells), .i (.isl (aG ws)), .i (.agg [.int r, .isl (aG path)])] []=some (.tup [.i (.agg (ACP (apS ws r path p)).cells), .bool (apS ws r path p).isSome],[]):=by
 have ht:=dJ p 8 hp;have c1:=AEJ ht hl;unfold apS
 cases ha:Pn.at path p with
 | none =>
  rw[ha]at c1;rw[aD rfl Tryz.func65 rfl rfl];simp only[Option.getD,Option.isSome,Option.bind,ACP,aU,Pn.aA p]at c1 ⊢;simp[c1]
 | some a =>
  rw[ha]at c1
  have ha8:a.wd ws 8≠0:=by
   obtain⟨h1,h2⟩:=K6 path p 8 a hp ha;rw[Pn.iQ a _ 8 h2 (by omega)];exact h2
  have hat:=dJ a 8 ha8;have c2:=AR4 hw ha8 r;unfold SRw at c2
  cases hq:rwP ws r a with
  | none =>
   rw[hq]at c2;rw[aD rfl Tryz.func65 rfl rfl];simp only[hq,Option.getD,Option.isSome,Option.bind,ACP,aU,Pn.aA p,Pn.aA a]at c1 c2 ⊢;simp[c1,c2]
  | some q =>
   rw[hq]at c2;have hqt:=AIC (kJ hw) hat hq;have c3:=CZ hqt path p a ht hl ha;have hzt:=XX hqt path p a ht ha;have c4:=FL hw hzt;have hv:((some a).bind fun a=>(rwP ws r a).bind fun q=>if(Pn.put path p q).wd ws 8≠0 then some (Pn.put path p q)else none)=if(Pn.put path p q).wd ws 8≠0 then some (Pn.put path p q)else none:=by simp[hq]
   rw[hv];generalize Pn.put path p q=z at *
   rw[aD rfl Tryz.func65 rfl rfl];by_cases hz:z.wd ws 8=0
   ·rw[hz]at c4;simp only[hq,hz,ne_eq,not_true_eq_false,if_false,Option.getD,Option.isSome,Option.bind,ACP,aU,Pn.aA p,Pn.aA a,Pn.aA q,Pn.aA z]at c1 c2 c3 c4 ⊢;simp[c1,c2,c3,c4]
   ·simp only[hq,hz,ne_eq,not_false_eq_true,if_true,Option.getD,Option.isSome,Option.bind,ACP,Pn.aA p,Pn.aA a,Pn.aA q,Pn.aA z]at c1 c2 c3 c4 ⊢;simp[c1,c2,c3,c4,hz]
end Go.Proofs.YtjdfjgmebalaaaaGreat.P
namespace Go.Av
def atV:Option Pn→AV
 | some a=>.i (.iref a.cells)
 | none=>.i (.lit (.pointer none))
def atI (path:List Int) (p:Pn):Option Pn:=if path.length≤8 then Pn.at path p else none
end Go.Av
namespace Go.Proofs.YtjdfjgmebalaaaaGreat.P
open Go Go.Av
set_option maxRecDepth 4000
set_option maxHeartbeats 4000000
def AIX (p:Pn) (path:List Int) (i:Nat):AS :=
 { env:=[(0, .i (.iref ((Pn.at (path.take i) p).getD Pn.zero).cells)),(1, .i (.isl (aG path))),(4, .i (.lit (.pointer none))),(6,jk i (.int ((path[i-1]?).getD 0))),(9, .bool false),(10, .i (.isl (aG path))),(11, .int path.length),(12, .int i),(13,jk i (.bool true)),(26,jk i (.bool false))],st:=[] }
theorem ALH (p:Pn) (path:List Int):aH C0 69 [.i (.iref p.cells), .i (.isl (aG path))] []=some (atV (atI path p),[]):=by
 rw[aD rfl Tryz.func69 rfl rfl];by_cases hl:path.length≤8
 ·have hl':¬ (8:Int)<path.length:=by omega
  obtain⟨j,h1,h2⟩:=AGO path p;simp[hl',atI,hl];rw[aQ (AIX p path) j (by simp[AIX,Pn.at])]
  ·rw[aF]
   rcases h2 with ⟨a,rfl,ha⟩|⟨x,a,q1,q2,q3,q4⟩
   ·simp[AIX,ha,atV]
   ·have hj:=(zZ.1 q1).1;have r1:=aT q1
    have hx:x<0∨(0≤x∧(a.kids.length:Int)≤x):=by
     by_cases h:x<0
     ·exact .inl h
     ·have:=q3 (by omega);simp at this;exact .inr ⟨by omega,by omega⟩
    simp only[AIX,q2,yY,q4,atV];rw[Pn.aA a]
    rcases hx with h|⟨h,h'⟩
    ·simp[hj,r1,h]
    ·have hn:¬ x<0:=by omega
     simp[hj,r1,hn,h']
  ·intro i hi;obtain⟨x,a,b,q1,q2,q3,q4,q5⟩:=h1 i hi;obtain⟨hj,qx⟩:=zZ.1 q1;have r1:=aT q1;have hk:=(zZ.1 q4).1;have r2:=Pn.aO q4;obtain⟨n,rfl⟩:=zB q3;simp only[Int.ofNat_eq_natCast,Int.toNat_natCast]at *
   have w2:IntKind.i64.wrap ((i:Int)+1)=i+1:=wrO;have n1:¬ (n:Int)<0:=by omega
   have n2:¬ a.kids.length≤n:=by omega
   simp only[AIX,q2,q5,yY];rw[Pn.aA a,Pn.aA b]at *
   simp[hj,r1,n1,n2,hk,r2,w2,q1,qx]
 ·have hl':(8:Int)<path.length:=by omega
  simp[hl',atI,hl,atV]
theorem AC7 {p:Pn} {ws:List Int} {r:Int} {path:List Int} (h:p.width ws=0∨apI ws r path p=none):aH C0 26 [.i (.agg p.cells), .i (.isl (aG ws)), .i (.agg [.int r, .isl (aG path)])] []=some (.tup [.i (.agg Pn.zero.cells), .bool false],[]):=by
 have c1:=nT p ws;have c2:=ALH p path;rw[aD rfl Tryz.func26 rfl rfl];by_cases h0:p.width ws=0
 ·rw[Pn.aA p]at c1 ⊢;simp[c1,h0,Pn.zero,Pn.cells,Ex.aB,aG,Pn.aB]
 ·obtain⟨hw,hp8,hv⟩:=jH h0;have hn:=h.resolve_left h0;unfold apI at hn
  cases ha:atI path p with
  | none =>
   rw[ha]at c2;rw[Pn.aA p]at c1 c2 ⊢;simp[atV]at c2;simp[c1,h0,c2,Pn.zero,Pn.cells,Ex.aB,aG,Pn.aB]
  | some a =>
   rw[ha]at c2;unfold atI at ha;split at ha
   ·rename_i hl;rw[if_pos hl,ha]at hn;simp only[yP]at hn;obtain⟨-,hav⟩:=K6 path p 8 a hp8 ha;have ha8:a.wd ws 8≠0:=by rw[Pn.iQ a _ 8 hav (by omega)];exact hav
    have c3:=sF hw ha8 r (lv:=8-path.length) (by omega)
    have hr:rwL ws r (8-path.length) a=none:=by
     cases hq:rwL ws r (8-path.length) a with
     | none=>rfl
     | some q=>rw[hq]at hn;cases hn
    rw[hr]at c3;have w1:IntKind.i64.wrap (8-(path.length:Int))=((8-path.length:Nat):Int):=by rw[wrO];omega
    simp only[atV]at c2;rw[Pn.aA p]at c1 c2 ⊢;rw[Pn.aA a]at c2 c3;simp[ACP,Pn.zero,Pn.cells,Ex.aB,aG,Pn.aB]at c3;simp[c1,h0,c2,w1,c3,Pn.zero,Pn.cells,Ex.aB,aG,Pn.aB]
   ·cases ha
end Go.Proofs.YtjdfjgmebalaaaaGreat.P
namespace Go.Proofs.YtjdfjgmebalaaaaGreat
open Go Go.Av
theorem R8 {g:FuncId} {q:List AV→StL→Option (AV×StL)} (h:C0.prim g=some q):(g=92∧q=J6)∨(g=59∧q=TS):=by
 have h:ANI g=some q:=h;unfold ANI at h;split at h
 ·injection h with h;exact .inl ⟨rfl,h.symm⟩
 ·injection h with h;exact .inr ⟨rfl,h.symm⟩
 ·cases h
theorem AVC:PrimOk C0:=by
 constructor
 ·intro g args st p h;unfold bX at h
  cases hq:C0.prim g with
  | none=>rw[hq]at h;cases h
  | some q =>
   rcases R8 hq with ⟨rfl,rfl⟩|⟨rfl,rfl⟩
   ·exact⟨Tryz.f92,Tryz.func92,by decide,rfl⟩
   ·exact⟨Tryz.f59,Tryz.func59,by decide,rfl⟩
 ·intro g args stl r stl' h w m φ vs hi hr h0;unfold bX at h
  cases hq:C0.prim g with
  | none=>rw[hq]at h;cases h
  | some q =>
   rcases R8 hq with ⟨rfl,rfl⟩|⟨rfl,rfl⟩
   ·rw[hq]at h;obtain⟨e,he,hres,hor⟩:=MC h;injection hres with h1 h2;subst h1;subst h2
    rcases hor with ⟨rfl,rfl⟩|⟨j,es,rfl,rfl,hes⟩
    ·exact DT he hi hr h0
    ·exact MF he hes hi hr h0
   ·rw[hq]at h;obtain⟨p,⟨k1,k2,k3⟩,rfl,rfl,hres⟩:=ABP h;injection hres with h1 h2;subst h1;subst h2;exact G.OL k1 k2 k3 hi hr h0
theorem iN:SoundOk C0:=nO (C:=C0) ft nt eqS mo AVC
end Go.Proofs.YtjdfjgmebalaaaaGreat
namespace Go.Av
section
variable {wi:World} {mi:Mem} {nt:Nat}
theorem GR.AOJ {ok:Nat→Prop} {env:Nat→AV} {st:Store} {a:Act} {w:World} {d:Nat} {m1:Mem} {φ:Pl} {p:Pn} (hd:d<nt) (hi:Inv w m1 φ st) (henv:∀ t,Rep m1 φ (env t) (a.tmps.getD t undef)) (hadv:Adv wi mi (fun _=>none) w m1 φ) (hok:∀ id,φ id≠none→ok id) (hsz:nt≤a.tmps.size) (hdf:a.defers=[])
 {e:Ending} {w':World} (h:PE w m1 p e w'):∃ y,e=.returned y∧∃ v0 v1 v2 v3 v4 F,GR wi mi nt ok (CPY w p F v0 v1 v2 v3 v4) (upd env d (.i (.agg [.lit v0, .lit v1, .lit v2, .lit v3, .lit v4]))) st (a.put (some d) y) w':=by
 obtain⟨v0,v1,v2,v3,v4,F,m2,rfl,hone,hm2,ha,hc⟩:=h;obtain⟨i2,a2⟩:=hi.ASN ha hm2;refine⟨_,rfl,v0,v1,v2,v3,v4,F,⟨m2,φ,i2,wZ (dst:=some d) (fun t=>(henv t).mono a2.mle a2.ple) hsz (by simpa [ABM]using hd) (.i (.agg ?_)),hadv.trans a2,hok,?_⟩,by rw[wY];exact hsz,by rw[mR];exact hdf⟩
 ·exact .cons (.lit _) (hone _ (by simp)) (.cons (.lit _) (hone _ (by simp)) (.cons (.lit _) (hone _ (by simp)) (.cons (.lit _) (hone _ (by simp)) (.cons (.lit _) (hone _ (by simp)) .nil))))
 ·refine⟨hc.th,hc.cells,hc.nd,fun f hf=>?_⟩;obtain⟨k1,k2,k3,k4,k5⟩:=hc.all f hf;refine⟨k1,k2,fun id b n e ho=>?_,k4,k5⟩;have:=hi.low id b n f e ho;omega
theorem GR.AJB {ok:Nat→Prop} {env:Nat→AV} {st:Store} {a:Act} {w:World} {d:Nat} {m:Mem} {φ:Pl} {p y:Pn} {root:Nat} {F:List Nat} {path:List Int} (hd:d<nt) (hi:Inv w m φ st) (henv:∀ t,Rep m φ (env t) (a.tmps.getD t undef)) (hadv:Adv wi mi (fun _=>none) w m φ) (hok:∀ id,φ id≠none→ok id) (hsz:nt≤a.tmps.size) (hdf:a.defers=[]) (hr:RAW wi root p F [] w m φ)
 {e:Ending} {w':World} (h:∃ bq oq Fa Fy Fz m',e=.returned (.pointer (some ⟨bq,oq,none⟩))∧AtP w m p root 0 F path y bq oq Fa Fy Fz∧nI w' m'∧Adv w (iV w) (fun _=>none) w' m' (fun _=>none)) :
 ∃ v,e=.returned v∧∃ bq oq Fa Fy Fz,GR wi mi nt ok (RAT wi root p F path y bq oq Fa Fy Fz) (upd env d (.i (.lit (.pointer (some ⟨bq,oq,none⟩))))) st (a.put (some d) v) w':=by
 obtain⟨bq,oq,Fa,Fy,Fz,m',rfl,hat,hm,ha⟩:=h;have hsame:∀ f,f<w.heap.size→w'.heap[f]?=w.heap[f]?:=fun f hf=>ha.block f hf fun id b n e=>by cases e
 have i2:=hi.later ha.size hsame
 have a2:Adv w m φ w' m φ:=⟨ha.size,ha.os,ha.tape,ha.output,fun b hb' _=>hsame b hb', .refl _,fun _ _ _ _=>rfl, .refl _,fun _ _ _ _ e ho=>.inr (l9.not e ho)⟩
 exact⟨_,rfl,bq,oq,Fa,Fy,Fz,⟨m,φ,i2,wZ (dst:=some d) henv hsz (by simpa [ABM]using hd) (.i (.lit _)),hadv.trans a2,hok,RAT.PI _ _ _ _ _ _ _ _ _ _ _ _ _ _ _ _ _ a2 ⟨hr,hat⟩⟩,by rw[wY];exact hsz,by rw[mR];exact hdf⟩
end
end Go.Av
namespace Go.Proofs.YtjdfjgmebalaaaaGreat.P
open Go Go.Av G
theorem AeX:Tryz.f59.name≠ "runtime.NumGoroutine":=by decide
theorem AeZ:Tryz.f59.body.isSome=true:=rfl
theorem hb48:Tryz.f69.body.isSome=true:=rfl
theorem AeY:Tryz.f69.name≠ "runtime.NumGoroutine":=by decide
set_option maxRecDepth 4000
set_option maxHeartbeats 8000000
theorem ATS {α:Type} (f:Nat→α) (a:Nat) (x y:α):upd (upd f a x) a y=upd f a y:=by funext i;simp only[upd];split<;>rfl
def TEV (p:Pn) (ws:List Int) (r:Int) (path:List Int) (v3 v5 v6 v7 v8 v9 v10 v11 v15 v21 v36:AV):List (Nat×AV):=[(0, .i (.agg p.cells)),(1, .i (.isl (aG ws))),(2, .i (.agg [.int r, .isl (aG path)])),(3,v3),(5,v5),(6,v6),(7,v7),(8,v8),(9,v9),(10,v10),(11,v11),(15,v15),(21,v21),(36,v36)]
def bxP (p:Pn):Option Blk:=some (.box (l5 p.cells))
def bxS (r:Int) (path:List Int):Option Blk:=some (.box [.i (.int r), .i (.isl (aG path))])
theorem AC6 {p:Pn} {ws:List Int} {r:Int} {path:List Int} {q:Pn} (h0:p.width ws≠0) (hq:apI ws r path p=some q) {wi:World} {mi:Mem} {vs:List Value} (hi:Inv wi mi (fun _=>none) (bJ [])) (hr:RepL mi (fun _=>none) [.i (.agg p.cells), .i (.isl (aG ws)), .i (.agg [.int r, .isl (aG path)])] vs) :
 Calls Tryz.prog 26 vs.toArray wi (cZ wi mi (fun _=>none) (.tup [.i (.agg q.cells), .bool true]) []):=by
 obtain⟨hw,hp8,hv⟩:=jH h0;have hws:=kJ hw;unfold apI at hq;split at hq
 rotate_left
 ·cases hq
 rename_i hl
 cases ha:Pn.at path p with
 | none=>rw[ha]at hq;cases hq
 | some a =>
 rw[ha]at hq;simp only[yP]at hq;obtain⟨-,hav⟩:=K6 path p 8 a hp8 ha;have ha8:a.wd ws 8≠0:=by rw[Pn.iQ a _ 8 hav (by omega)];exact hav
 cases hx:rwL ws r (8-path.length) a with
 | none=>rw[hx]at hq;cases hq
 | some x =>
 rw[hx]at hq;simp only[xU,Option.some.injEq]at hq;subst hq
 have hxw:x.wd ws (8-path.length)≠0:=by
  unfold rwL at hx
  cases hy:rwP ws r a with
  | none=>rw[hy]at hx;cases hx
  | some y =>
   rw[hy]at hx;simp only[yP]at hx;split at hx
   ·injection hx with hx;subst hx;assumption
   ·cases hx
 have hx8:x.wd ws 8≠0:=by rw[Pn.iQ x _ 8 hxw (by omega)];exact hxw
 have hxs:x.small:=⟨by have:=(Pn.wJ x 8 hx8).2;omega,dJ x 8 hx8,(Pn.wJ x 8 hx8).1⟩
 have hps:p.small:=⟨by have:=(Pn.wJ p 8 hp8).2;omega,dJ p 8 hp8,(Pn.wJ p 8 hp8).1⟩
 have c1:=nT p ws;have c2:=ALH p path;simp only[atI,hl,if_true,ha,atV]at c2;have c3:=sF hw ha8 r (lv:=8-path.length) (by omega);rw[hx]at c3;simp only[ACP,yY,Option.isSome_some]at c3
 have c4:aH C0 59 [.i (.iref x.cells)] []=some (.i (.agg x.cells),[]):=by
  rw[aP (p:=TS) rfl];exact YU hxs
 have w1:IntKind.i64.wrap (8-(path.length:Int))=((8-path.length:Nat):Int):=by rw[wrO];omega
 refine calls_of_wp (fn:=Tryz.f26) Tryz.func26 rfl ?_;have hv1:vs.length=3:=by simpa using hr.length.symm
 have g0:GR wi mi 45 (fun id=>id<({ env:=[(0, .i (.agg p.cells)),(1, .i (.isl (aG ws))),(2, .i (.agg [.int r, .isl (aG path)]))],st:=[] }:AS).st.length) (fun _ _ _=>True) (aX [(0, .i (.agg p.cells)),(1, .i (.isl (aG ws))),(2, .i (.agg [.int r, .isl (aG path)]))]) (bJ []) { tmps:=vs.toArray++Array.replicate (45-vs.toArray.size) undef,defers:=[] } wi:=by
  refine⟨⟨mi,fun _=>none,hi,?_, .refl _ _ _,fun id h=>absurd rfl h,trivial⟩,by simp;omega,rfl⟩;intro t;have:=nA (m:=mi) (φ:=fun _=>none) (45-vs.toArray.size) hr t
  rcases t with _|_|_|t
  ·simpa [aX,uO]using this
  ·simpa [aX,uO]using this
  ·simpa [aX,uO]using this
  ·simp only[aX];simp;exact .junk _
 refine wp_seq (wp_mono (GR.gU iN (G:=GS 26) (S:={ env:=[(0, .i (.agg p.cells)),(1, .i (.isl (aG ws))),(2, .i (.agg [.int r, .isl (aG path)]))],st:=[] }) (e:=.normal) (S':={ env:=TEV p ws r path (.own 0 0) (.own 1 0) (.own 2 0) (.bool false) .junk .junk .junk .junk .junk .junk .junk,st:=[bxP p,bxS r path,some (.box zp)] }) mM (by kernel_rfl) (by
  rw[Pn.aA p]at *
  simp[TEV,bxP,bxS,zp,Pn.aA p]) g0) ?_)
 rintro _ a1 w1' ⟨rfl,g1⟩
 refine wp_seq (wp_mono (GR.gU iN (G:=GS 26) (S:={ env:=TEV p ws r path (.own 0 0) (.own 1 0) (.own 2 0) (.bool false) .junk .junk .junk .junk .junk .junk .junk,st:=[bxP p,bxS r path,some (.box zp)] }) (e:=.normal) (S':={ env:=TEV p ws r path (.own 0 0) (.own 1 0) (.own 2 0) (.bool false) .junk .junk .junk .junk (.bool false) .junk .junk,st:=[bxP p,bxS r path,some (.box zp)] }) mM (by kernel_rfl) (by
  simp only[TEV,bxP,bxS];rw[Pn.aA p]at *
  simp[zp,c1,h0]) g1) ?_)
 rintro _ a2 w2' ⟨rfl,g2⟩
 refine wp_seq (wp_mono (GR.gU iN (G:=GS 26) (S:={ env:=TEV p ws r path (.own 0 0) (.own 1 0) (.own 2 0) (.bool false) .junk .junk .junk .junk (.bool false) .junk .junk,st:=[bxP p,bxS r path,some (.box zp)] }) (e:=.normal) (S':={ env:=TEV p ws r path (.own 0 0) (.own 1 0) (.own 2 0) (.bool false) (.i (.iref a.cells)) .junk .junk .junk (.bool false) .junk .junk,st:=[some (.fbox p.cells),bxS r path,some (.box zp)] }) mM (by kernel_rfl) (by
  simp only[TEV,bxP,bxS];rw[Pn.aA p,Pn.aA a]at *
  simp[zp,c2]) g2) ?_)
 rintro _ a3 w3' ⟨rfl,g3⟩
 refine wp_seq (wp_mono (GR.gU iN (G:=GS 26) (S:={ env:=TEV p ws r path (.own 0 0) (.own 1 0) (.own 2 0) (.bool false) (.i (.iref a.cells)) .junk .junk .junk (.bool false) .junk .junk,st:=[some (.fbox p.cells),bxS r path,some (.box zp)] }) (e:=.normal) (S':={ env:=TEV p ws r path (.own 0 0) (.own 1 0) (.own 2 0) (.bool false) (.i (.iref a.cells)) .junk .junk .junk (.bool false) (.bool false) .junk,st:=[some (.fbox p.cells),bxS r path,some (.box zp)] }) mM (by kernel_rfl) (by
  simp only[TEV,bxP,bxS]
  simp[zp]) g3) ?_)
 rintro _ a4 w4' ⟨rfl,g4⟩
 refine wp_seq (wp_mono (GR.gU iN (G:=GS 26) (S:={ env:=TEV p ws r path (.own 0 0) (.own 1 0) (.own 2 0) (.bool false) (.i (.iref a.cells)) .junk .junk .junk (.bool false) (.bool false) .junk,st:=[some (.fbox p.cells),bxS r path,some (.box zp)] }) (e:=.normal) (S':={ env:=TEV p ws r path (.own 0 0) (.own 1 0) (.own 2 0) (.bool false) (.i (.iref a.cells)) (.own 3 0) (.bool true) .junk (.bool false) (.bool false) .junk,st:=[some (.fbox p.cells),bxS r path,some (.box zp),bxP x] }) mM (by kernel_rfl) (by
  simp only[TEV,bxP,bxS];rw[Pn.aA a,Pn.aA x]at *
  simp[zp,w1,c3]) g4) ?_)
 rintro _ a5 w5' ⟨rfl,g5⟩
 refine wp_seq (wp_mono (GR.gU iN (G:=GS 26) (S:={ env:=TEV p ws r path (.own 0 0) (.own 1 0) (.own 2 0) (.bool false) (.i (.iref a.cells)) (.own 3 0) (.bool true) .junk (.bool false) (.bool false) .junk,st:=[some (.fbox p.cells),bxS r path,some (.box zp),bxP x] }) (e:=.normal) (S':={ env:=TEV p ws r path (.own 0 0) (.own 1 0) (.own 2 0) (.bool false) (.i (.iref a.cells)) (.own 3 0) (.bool true) .junk (.bool false) (.bool false) (.bool false),st:=[some (.fbox p.cells),bxS r path,some (.box zp),bxP x] }) mM (by kernel_rfl) (by
  simp only[TEV,bxP,bxS]
  simp[zp,Pn.aA x]) g5) ?_)
 rintro _ a6 w6 ⟨rfl,g6⟩;clear g0 g1 g2 g3 g4 g5;have hst6:(6:Nat)<45:=by omega
 refine wp_seq (tZ ?_);show wpOpsIn (FR none) 0 Tryz.prog _ _ (List.range 3) a6 w6;rw[show List.range 3=0::(List.range' 1 2++[])from rfl,wpOpsIn_cons];obtain⟨⟨m6,φ6,i6,henv6,adv6,ok6,-⟩,sz6,df6⟩:=g6;obtain⟨m7,rp7,i7,adv7⟩:=tT i6 (henv6 3) (show iP (bJ [some (.fbox p.cells),bxS r path,some (.box zp),bxP x]) (.own 0 0)=some (.i (.iref p.cells),bJ [some (.fbox p.cells),bxS r path,some (.box zp),bxP x])by simp[iP,rF,frz,vR,DN,bJ,bnd,tst,iO]);have rp7':RepL m7 (fun _=>none) [.i (.iref p.cells)] [a6.tmps.getD 3 undef]:=.cons (by cases rp7 with|i k=>exact .i k) .nil
 have i7':Inv w6 m7 (fun _=>none) (bJ []):=⟨i7.mem,fun id blk e=>by simp[bJ]at e,fun _ _ _ _ _ _ _ _ _ e=>by simp[bJ]at e,fun _ _ _ _ e=>by cases e⟩
 refine K8 (P:=Tryz.prog) (fn:=Tryz.f59) (d:=38) (g:=59) (args:=#[.tmp 3]) rfl rfl rfl rfl Tryz.func59 AeX AeZ (vs:=[a6.tmps.getD 3 undef]) rfl ((tH hps.1 hps.2.1 hps.2.2 i7' rp7').mono fun e w7 hraw=>?_);obtain⟨y,rfl,v0,v1,v2,v3,v4,F,g7⟩:=GR.AOJ (nt:=45) (d:=38) (by omega) i7 (fun t=>(henv6 t).mono adv7.mle adv7.ple) (adv6.trans adv7) ok6 sz6 df6 hraw;refine⟨y,rfl,?_⟩;have hsz6:wi.heap.size≤w6.heap.size:=adv6.size;generalize hE8:TEV p ws r path (.own 0 0) (.own 1 0) (.own 2 0) (.bool false) (.i (.iref a.cells)) (.own 3 0) (.bool true) .junk (.bool false) (.bool false) (.bool false)=E8 at g7;refine GR.AU2 iN (CPY.PI _ _ _ _ _ _ _ _) 1 2 rfl ?_ (base:=4) (R0:={ env:=upd (aX E8) 38 (.i (.agg [.lit v0, .lit v1, .lit v2, .lit v3, .lit v4])),st:=bJ [some (.fbox p.cells),bxS r path,some (.box zp),bxP x],log:=[] }) (R1:={ env:=upd (upd (aX E8) 38 (.i (.agg [.lit v0, .lit v1, .lit v2, .lit v3, .lit v4]))) 11 (.own 12 0),st:=upd (bJ [some (.fbox p.cells),bxS r path,some (.box zp),bxP x]) 12 (some (.box (dH [v0,v1,v2,v3,v4]))),log:=[] }) ?_ (g7.ok' fun id h=>.inl (by simpa using h)) fun a8 w8 g8=>?_
 ·kernel_rfl
 ·simp[dH,zp,ATS]
 obtain⟨b3,g9⟩:=g8.AYF (u:=11) (id:=12) (st':=bJ [some (.fbox p.cells),bxS r path,some (.box zp),bxP x]) hsz6 rfl rfl (by
  intro i blk h
  rcases i with _|_|_|_|i
  ·simp[bJ]at h;subst h;simp[upd,bJ,kR]
  ·simp[bJ,bxS]at h;subst h;simp[upd,bJ,kR,bxS]
  ·simp[bJ]at h;subst h;simp[upd,bJ,kR,zp]
  ·simp[bJ,bxP]at h;subst h;simp[upd,bJ,kR,bxP,Pn.aA x,l5]
  ·simp[bJ]at h)
 have g9:=(g9 (aX [(5, .own 1 0),(6, .own 2 0),(9, .own 3 0),(11, .i (.lit (.pointer (some ⟨b3,0,none⟩))))]) (by
  subst hE8;intro t;simp only[aX];by_cases h5:t=5
  ·subst h5;exact .inr (.inr ⟨by simp[upd,TEV,aX],by simp[upd,TEV,aX,o6,bJ,bxS]⟩)
  by_cases h6:t=6
  ·subst h6;exact .inr (.inr ⟨by simp[upd,TEV,aX],by simp[upd,TEV,aX,o6,bJ]⟩)
  by_cases h9:t=9
  ·subst h9;exact .inr (.inr ⟨by simp[upd,TEV,aX],by simp[upd,TEV,aX,o6,bJ,bxP]⟩)
  by_cases h11:t=11
  ·subst h11;exact .inr (.inl ⟨rfl,rfl⟩)
  simp[h5,h6,h9,h11])).ok' (ok':=fun id=>JH 4 (fun j=>j<0) id) (by
  intro i h;refine .inl ?_
  rcases i with _|_|_|_|i
  all_goals first|omega|(simp[bJ]at h))
 clear g7 g8;refine wp_seq (tZ ?_);show wpOpsIn (FR none) 0 Tryz.prog _ _ (List.range 6) a8 w8;rw[show List.range 6=List.range' 0 2++(2::(List.range' 3 2++(List.range' 5 1++[])))from rfl];generalize hE9:aX [(5, .own 1 0),(6, .own 2 0),(9, .own 3 0),(11, .i (.lit (.pointer (some ⟨b3,0,none⟩))))]=E9 at g9;refine GR.AU2 iN (RAW.PI _ _ _ _ _) 0 2 rfl ?_ (base:=4) (R0:={ env:=E9,st:=bJ [some (.fbox p.cells),bxS r path,some (.box zp),bxP x],log:=[] }) (R1:={ env:=upd (upd E9 39 (.own 1 1)) 40 (.i (.isl (aG path))),st:=bJ [some (.fbox p.cells),bxS r path,some (.box zp),bxP x],log:=[] }) ?_ g9 fun a9 w9 g10=>?_
 ·kernel_rfl
 ·subst hE9;simp[zp,bxS,ATS]
 clear g9;rw[wpOpsIn_cons];obtain⟨⟨m10,φ10,i10,henv10,adv10,ok10,r10⟩,AX2,df10⟩:=g10;have hv11:=henv10 11;have hv40:=henv10 40;simp only[show upd (upd E9 39 (.own 1 1)) 40 (.i (.isl (aG path))) 11=.i (.lit (.pointer (some ⟨b3,0,none⟩)))from by subst hE9;rfl]at hv11;simp only[show upd (upd E9 39 (.own 1 1)) 40 (.i (.isl (aG path))) 40=.i (.isl (aG path))from rfl]at hv40;have hmm:MLe m10 (iV w9):=i10.mem;refine K8 (P:=Tryz.prog) (fn:=Tryz.f69) (d:=41) (g:=69) (args:=#[.tmp 11, .tmp 40]) rfl rfl rfl rfl Tryz.func69 AeY hb48 (vs:=[a9.tmps.getD 11 undef,a9.tmps.getD 40 undef]) rfl ((AK4 r10.th r10.nr r10.nd ha hl (vs:=[a9.tmps.getD 11 undef,a9.tmps.getD 40 undef]) (.cons (by cases hv11 with|i k=>exact .i (k.mono hmm)) (.cons (by cases hv40 with|i k=>exact .i (k.mono hmm)) .nil))).mono fun e w10 hplace=>?_);obtain⟨y2,rfl,bq,oq,Fa,Fy,Fz,g11⟩:=GR.AJB (nt:=45) (d:=41) (by omega) i10 henv10 adv10 ok10 AX2 df10 r10 hplace;refine⟨y2,rfl,?_⟩;refine GR.AU2 iN (RAT.PI _ _ _ _ _ _ _ _ _ _ _) 3 2 rfl ?_ (base:=4) (R0:={ env:=upd (upd (upd E9 39 (.own 1 1)) 40 (.i (.isl (aG path)))) 41 (.i (.lit (.pointer (some ⟨bq,oq,none⟩)))),st:=bJ [some (.fbox p.cells),bxS r path,some (.box zp),bxP x],log:=[] }) (R1:={ env:=upd (upd (upd (upd (upd E9 39 (.own 1 1)) 40 (.i (.isl (aG path)))) 41 (.i (.lit (.pointer (some ⟨bq,oq,none⟩))))) 42 (.i (.agg x.cells))) 43 (.i (.lit (.pointer (some ⟨bq,oq,none⟩)))),st:=upd (bJ [some (.fbox p.cells),bxS r path,some (.box zp),bxP x]) 3 (some (.fbox x.cells)),log:=[] }) ?_ (g11.ok' fun id h=>oV (fun j hj=>by omega) h) fun a10 w11 g12=>?_
 ·kernel_rfl
 ·subst hE9;rw[Pn.aA x]at c4;simp[zp,bxS,bxP,Pn.aA x,c4,ATS]
 clear g11
 obtain⟨pre,row,post,ma,hrl,hpl,g13⟩:=g12.ATF (u:=43) (k:=1) (st':=upd (fun _=>none) 2 (some (.box zp))) rfl (by
  intro i blk h;by_cases h2:i=2
  ·subst h2;simp[upd]at h;subst h;simp[upd,bJ,kR,zp]
  ·simp[upd,h2]at h) (by simp[upd])
 have g13:=(g13 (aX [(6, .own 2 0),(11, .i (.lit (.pointer (some ⟨b3,0,none⟩)))),(42, .i (.agg x.cells)),(43, .own 1 oq)]) (by
  subst hE9;intro t;simp only[aX];by_cases h6:t=6
  ·subst h6;exact .inr (.inr ⟨by simp[upd,aX],by simp[upd,aX,o6]⟩)
  by_cases h11:t=11
  ·subst h11;exact .inr (.inr ⟨by simp[upd,aX],by simp[upd,aX,o6]⟩)
  by_cases h42:t=42
  ·subst h42;exact .inr (.inr ⟨by simp[upd,aX],by simp[upd,aX,o6]⟩)
  by_cases h43:t=43
  ·subst h43;exact .inr (.inl ⟨rfl,rfl⟩)
  simp[h6,h11,h42,h43])).ok' (ok':=fun id=>JH 4 (fun j=>j<5) id) (by
  intro i h;refine .inl ?_
  rcases h with h|h
  ·by_cases h2:i=2
   ·omega
   ·simp[upd,h2]at h
  ·omega)
 clear g12;refine GR.AU2 iN (fun w m φ w' m' φ' ha h=>⟨ADK.PI _ _ _ _ _ _ _ _ _ _ _ _ _ _ _ _ _ _ _ _ ha h.1,h.2⟩) 5 1 rfl ?_ (base:=4) (R0:={ env:=aX [(6, .own 2 0),(11, .i (.lit (.pointer (some ⟨b3,0,none⟩)))),(42, .i (.agg x.cells)),(43, .own 1 oq)],st:=upd (upd (fun _=>none) 2 (some (.box zp))) 1 (some (.box (kU pre (dH row) post))),log:=[] }) (R1:={ env:=aX [(6, .own 2 0),(11, .i (.lit (.pointer (some ⟨b3,0,none⟩)))),(42, .i (.agg x.cells)),(43, .own 1 oq)],st:=upd (upd (upd (fun _=>none) 2 (some (.box zp))) 1 (some (.box (kU pre (dH row) post)))) 1 (some (.box (kU pre (l5 x.cells) post))),log:=[] }) ?_ g13 fun a11 w12 g14=>?_
 ·kernel_rfl
 ·subst hpl
  have hsp:splice (kU pre (dH row) post) pre.length (l5 x.cells)=some (kU pre (l5 x.cells) post):=by
   have:=pR pre post (dH row) 0 (l5 x.cells);rw[yJ]at this;rw[this]
   match row,hrl with
   | [r0,r1,r2,r3,r4],_=>rw[Pn.aA];simp[dH,l5,kU,splice,bnd]
  rw[Pn.aA x]at *
  simp at hsp;simp[hsp,ATS]
 clear g13
 have g15:=g14.AVS (q:=x) hrl hpl rfl (st':=upd (fun _=>none) 2 (some (.box zp))) (env':=aX [(6, .own 2 0),(11, .i (.lit (.pointer (some ⟨b3,0,none⟩))))]) (by
  intro i blk h;by_cases h2:i=2
  ·subst h2;simp[upd]at h;subst h;simp[upd,kR,zp]
  ·simp[upd,h2]at h) (by
  intro t;simp only[aX];by_cases h6:t=6
  ·subst h6;exact .inr ⟨by simp,by simp[o6,upd]⟩
  by_cases h11:t=11
  ·subst h11;exact .inr ⟨by simp,by simp[o6]⟩
  simp[h6,h11])
 clear g14
 have g16:=g15.AiA (u:=11) rfl (env':=aX [(6, .own 2 0),(11, .i (.iref (Pn.put path p x).cells))]) (by
  intro t;simp only[aX];by_cases h6:t=6
  ·subst h6;exact .inr (.inr (by simp))
  by_cases h11:t=11
  ·subst h11;exact .inr (.inl ⟨rfl,by simp⟩)
  simp[h6,h11])
 clear g15;generalize Pn.put path p x=q at *
 have g17:=g16.settle (fun _ _ _ _ h=>h) [6,11];have hset:Av.settle [6,11] 0 (aX [(6, .own 2 0),(11, .i (.iref q.cells))]) (upd (fun _=>none) 2 (some (.box zp)))={ env:=[(6, .own 0 0),(11, .i (.iref q.cells))],st:=[some (.box zp)] }:=by simp[zp,upd]
 rw[hset]at g17;clear g16
 refine wp_mono (GR.gU iN (G:=GS 26) (S:={ env:=[(6, .own 0 0),(11, .i (.iref q.cells))],st:=[some (.box zp)] }) (e:=.ret) (S':={ env:=[(0, .junk),(1, .junk),(2, .junk),(3, .junk),(5, .junk),(6, .own 0 0),(7, .bool true),(8, .junk),(9, .junk),(10, .junk),(11, .i (.iref q.cells)),(15, .junk),(21, .junk),(36, .junk)],st:=[bxP q] }) mM (by kernel_rfl) (by
  simp only[bxP];rw[Pn.aA q]
  simp[zp]) g17) ?_
 rintro _ a12 w13 ⟨rfl,g18⟩;obtain⟨⟨m,φ,q1,q2,q3,q4,q5⟩,q6,q7⟩:=g18
 obtain⟨v,k1,k2⟩:=gY (C:=C0) (fn:=Tryz.f26) (keep:=false) (na:=0) (S:={ env:=[(0, .junk),(1, .junk),(2, .junk),(3, .junk),(5, .junk),(6, .own 0 0),(7, .bool true),(8, .junk),(9, .junk),(10, .junk),(11, .i (.iref q.cells)),(15, .junk),(21, .junk),(36, .junk)],st:=[bxP q] }) (r:=.tup [.i (.agg q.cells), .bool true]) (stl':=[]) (fun id h=>absurd rfl h) ⟨⟨⟨m,φ,q1,q2,q3,q4, .nil _ _ _⟩,q6,q7⟩,zA4 _⟩ (by
  show finish C0 false [ResultVar.cell 6 34,ResultVar.tmp 7] 0 _=_;simp only[bxP];rw[Pn.aA q]
  simp)
 exact⟨q7,v,k1,k2⟩
end Go.Proofs.YtjdfjgmebalaaaaGreat.P
namespace Go.Proofs.YtjdfjgmebalaaaaGreat.P
open Go Go.Av
set_option maxRecDepth 4000
set_option maxHeartbeats 4000000
end Go.Proofs.YtjdfjgmebalaaaaGreat.P
namespace Go.Proofs.YtjdfjgmebalaaaaGreat
open Go Go.Av
set_option maxRecDepth 4000
noncomputable def AEG:FuncId→Option (List AV→StL→Option (AV×StL))
 | 1000000007=>none
 | 182=>none
 | 159=>none
 | 104=>some (SF (aH C0) 104)
 | 62=>some (AJE (aH C0) 62)
 | g=>some (aH C0 g)
def AH8:FuncId→Bool
 | 104=>true
 | g=>bT g
@[simp] theorem AVF (g:FuncId):AH8 g=if g=104 then true else bT g:=by
  unfold AH8;split
  ·rfl
  ·rename_i h;rw[if_neg h]
noncomputable def CP:Ctx:={ P:=Tryz.prog,G:=GS,ownArgs:=AH8,keepRes:=keepR,eqT:=JZ,prim:=AEG }
@[simp] theorem AnD:CP.P=Tryz.prog:=(rfl)
@[simp] theorem AnE (f):CP.G f=GS f:=(rfl)
@[simp] theorem AnA (f):CP.ownArgs f=AH8 f:=(rfl)
@[simp] theorem AnB (f):CP.keepRes f=keepR f:=(rfl)
@[simp] theorem AnC (f):CP.eqT f=JZ f:=(rfl)
@[simp] theorem An9:CP.tree=false:=(rfl)
theorem R9:PrimOk CP:=by
 have h0:=bS iN
 have key:∀ g q,CP.prim g=some q→g≠rH∧(q=aH C0 g∨q=SF (aH C0) g∨q=AVT (aH C0) g∨q=AJE (aH C0) g):=by
  intro g q h;have h:AEG g=some q:=h;unfold AEG at h;split at h
  all_goals first
   | (cases h;done)
   | (injection h with h;subst h;exact⟨by decide, .inr (.inl rfl)⟩)
   | (injection h with h;subst h;exact⟨by decide, .inr (.inr (.inl rfl))⟩)
   | (injection h with h;subst h;exact⟨by decide, .inr (.inr (.inr rfl))⟩)
   | (injection h with h;subst h;exact⟨by assumption, .inl rfl⟩)
 constructor
 ·intro g args st p h;unfold bX at h
  cases hq:CP.prim g with
  | none=>rw[hq]at h;cases h
  | some q =>
   rw[hq]at h;obtain⟨hy,hor⟩:=key g q hq
   rcases hor with rfl|rfl|rfl|rfl
   ·exact h0.name _ _ _ _ hy h
   ·exact(LA h0 (r:=p.1) (stl':=p.2) h hy).1
   ·exact(LZ h0 (r:=p.1) (stl':=p.2) h hy).1
   ·exact(LW h0 (r:=p.1) (stl':=p.2) h hy).1
 ·intro g args st r st' h w m φ vs hi hr hb;unfold bX at h
  cases hq:CP.prim g with
  | none=>rw[hq]at h;cases h
  | some q =>
   rw[hq]at h;obtain⟨hy,hor⟩:=key g q hq
   rcases hor with rfl|rfl|rfl|rfl
   ·exact h0.calls _ _ _ _ _ hy h w m φ vs hi hr hb
   ·exact(LA h0 h hy).2 w m φ vs hi hr hb
   ·exact(LZ h0 h hy).2 w m φ vs hi hr hb
   ·exact(LW h0 h hy).2 w m φ vs hi hr hb
theorem ARC:SoundOk CP:=nO (C:=CP) ft nt eqS mo R9
end Go.Proofs.YtjdfjgmebalaaaaGreat
namespace Go.Av
end Go.Av
namespace Go.Proofs.YtjdfjgmebalaaaaGreat.P
open Go Go.Av
set_option maxRecDepth 4000
set_option maxHeartbeats 4000000
@[simp] theorem AWS (a:List AV) (st:StL):aH CP 127 a st=aH C0 127 a st:=by rw[aP (p:=aH C0 127) rfl]
@[simp] theorem AXP (a:List AV) (st:StL):aH CP 128 a st=aH C0 128 a st:=by rw[aP (p:=aH C0 128) rfl]
@[simp] theorem AWU (a:List AV) (st:StL):aH CP 183 a st=aH C0 183 a st:=by rw[aP (p:=aH C0 183) rfl]
@[simp] theorem AWT (a:List AV) (st:StL):aH CP 184 a st=aH C0 184 a st:=by rw[aP (p:=aH C0 184) rfl]
@[simp] theorem AOW (a:List AV) (st:StL):aH CP 167 a st=aH C0 167 a st:=by rw[aP (p:=aH C0 167) rfl]
theorem vU (p:Pn) (hp:p.thin):aH CP 62 [.i (.agg p.cells)] []=some (.i (.agg p.cells),[]):=by
 have h:=vV p hp;rw[aP (p:=AJE (aH C0) 62) rfl];unfold AJE;by_cases he:p.exprs=[]
 ·by_cases hk:p.kids=[]
  ·simp[pcX,pcS,hk,he,Pn.aB,Ex.aB]at h;simp[h];rw[Pn.aA];simp[hk,he,Pn.aB,Ex.aB]
  ·have hkl:p.kids.length≠0:=fun h=>hk (zW.1 h)
   simp[pcX,pcS,hk,he,aM hkl,aJ hkl,Ex.aB]at h;simp[h];rw[Pn.aA];simp[hk,he,Ex.aB]
 ·have hel:p.exprs.length≠0:=fun h=>he (zW.1 h)
  by_cases hk:p.kids=[]
  ·simp[pcX,pcS,hk,he,aM hel,aJ hel,Pn.aB]at h;simp[h];rw[Pn.aA];simp[hk,he,Pn.aB]
  ·have hkl:p.kids.length≠0:=fun h=>hk (zW.1 h)
   simp[pcX,pcS,hk,he,aM hel,aJ hel,aM hkl,aJ hkl]at h;simp[h];rw[Pn.aA]
theorem gL {ws:List Int} (hw:∀ w∈ws,0≤w∧w≤6) (hwl:ws.length<1000000) {k:Nat} (hk0:0<k) (hk:k≤ws.length) (p:Pn) (hp:p.thin):aH CP 104 [.i (.agg p.cells), .osl 0 1 0 k, .int 8] [some (.arr 1 (aG ws))]=some (.int (p.wd (ws.take k) 8),[some (.arr 1 (aG ws))]):=by
 have h:=lQ (ws:=ws.take k) (fun w hm=>hw w (zL hm)) (by simp;omega) p (Pn.EF p hp) 8 (by omega);rw[aP (p:=SF (aH C0) 104) rfl];unfold SF;simp at h;simp[KD,ZM,h,hk,hk0,rP]
def bP (e:Ex) (p:Pn):Pn:=.mk 2 0 [e] [] [p]
theorem bK (e:Ex) (p:Pn):(bP e p).cells=[.int 2, .int 0, .isl [e.cells], .isl [], .isl [p.cells]]:=by simp[bP,Pn.cells,Ex.aB,aG,Pn.aB]
theorem eX (e:Ex) (p:Pn):aH C0 167 [.i (.agg e.cells), .i (.agg p.cells)] []=some (.i (.agg (bP e p).cells),[]):=by
 rw[aD rfl Tryz.func167 rfl rfl,bK,Ex.aA,Pn.aA];simp
theorem bR {e:Ex} {p:Pn} (he:e.size<1000000) (hp:p.thin):(bP e p).thin:=by
 have:=Ex.bF e (by omega);simp[bP,Pn.thin,Pn.fT,this,hp]
noncomputable def AEF:FuncId→Option (List AV→StL→Option (AV×StL))
 | 182=>some (aH CP 182)
 | 167=>some (rO C0 true 167)
 | g=>AEG g
noncomputable def CQ:Ctx:={ P:=Tryz.prog,G:=GS,ownArgs:=AH8,keepRes:=keepR,eqT:=JZ,prim:=AEF }
@[simp] theorem An7:CQ.P=Tryz.prog:=(rfl)
@[simp] theorem An8 (f):CQ.G f=GS f:=(rfl)
@[simp] theorem An4 (f):CQ.ownArgs f=AH8 f:=(rfl)
@[simp] theorem An5 (f):CQ.keepRes f=keepR f:=(rfl)
@[simp] theorem An6 (f):CQ.eqT f=JZ f:=(rfl)
@[simp] theorem An3:CQ.tree=false:=(rfl)
theorem ARZ:PrimOk CQ:=by
 have hP:=bS ARC;constructor
 ·intro g args st p h;unfold bX at h
  cases hq:CQ.prim g with
  | none=>rw[hq]at h;cases h
  | some q =>
   rw[hq]at h;have hq:AEF g=some q:=hq;unfold AEF at hq;split at hq
   ·injection hq with hq;subst hq;exact hP.name _ _ _ _ (by decide) h
   ·injection hq with hq;subst hq;exact(kQ iN (r:=p.1) (stl':=p.2) h).1
   ·exact R9.name g args st p (by unfold bX;rw[show CP.prim g=some q from hq];exact h)
 ·intro g args st r st' h w m φ vs hi hr hb;unfold bX at h
  cases hq:CQ.prim g with
  | none=>rw[hq]at h;cases h
  | some q =>
   rw[hq]at h;have hq:AEF g=some q:=hq;unfold AEF at hq;split at hq
   ·injection hq with hq;subst hq;exact hP.calls _ _ _ _ _ (by decide) h w m φ vs hi hr hb
   ·injection hq with hq;subst hq;exact(kQ iN h).2 w m φ vs hi hr hb
   ·exact R9.calls g args st r st' (by unfold bX;rw[show CP.prim g=some q from hq];exact h) w m φ vs hi hr hb
theorem AL1:SoundOk CQ:=nO (C:=CQ) ft nt eqS mo ARZ
noncomputable def AAP:FuncId→Option (List AV→StL→Option (AV×StL))
 | 1000000007=>none
 | 89=>none
 | 126=>none
 | 159=>none
 | 182=>some (rO CQ true 182)
 | 167=>some (rO C0 true 167)
 | 104=>some (AB3 (aH C0) 104)
 | g=>AEG g
def ANV (g:FuncId):Bool:=keepR g || decide (g=159)
noncomputable def CR:Ctx:={ P:=Tryz.prog,G:=GS,ownArgs:=AH8,keepRes:=ANV,eqT:=JZ,prim:=AAP }
@[simp] theorem An1:CR.P=Tryz.prog:=(rfl)
@[simp] theorem An2 (f):CR.G f=GS f:=(rfl)
@[simp] theorem AmY (f):CR.ownArgs f=AH8 f:=(rfl)
@[simp] theorem AmZ (f):CR.keepRes f=(keepR f || decide (f=159)):=(rfl)
@[simp] theorem An0 (f):CR.eqT f=JZ f:=(rfl)
@[simp] theorem AmX:CR.tree=false:=(rfl)
theorem AEE:PrimOk CR:=by
 constructor
 ·intro g args st p h;unfold bX at h
  cases hq:CR.prim g with
  | none=>rw[hq]at h;cases h
  | some q =>
   rw[hq]at h;have hq:AAP g=some q:=hq;unfold AAP at hq;split at hq
   all_goals first
    | (cases hq;done)
    | (injection hq with hq;subst hq;exact(kQ AL1 (r:=p.1) (stl':=p.2) h).1)
    | (injection hq with hq;subst hq;exact(kQ iN (r:=p.1) (stl':=p.2) h).1)
    | (injection hq with hq;subst hq;exact(GV (bS iN) (r:=p.1) (stl':=p.2) h (by decide)).1)
    | exact R9.name g args st p (by unfold bX;rw[show CP.prim g=some q from hq];exact h)
 ·intro g args st r st' h w m φ vs hi hr hb;unfold bX at h
  cases hq:CR.prim g with
  | none=>rw[hq]at h;cases h
  | some q =>
   rw[hq]at h;have hq:AAP g=some q:=hq;unfold AAP at hq;split at hq
   all_goals first
    | (cases hq;done)
    | (injection hq with hq;subst hq;exact(kQ AL1 h).2 w m φ vs hi hr hb)
    | (injection hq with hq;subst hq;exact(kQ iN h).2 w m φ vs hi hr hb)
    | (injection hq with hq;subst hq;exact(GV (bS iN) h (by decide)).2 w m φ vs hi hr hb)
    | exact R9.calls g args st r st' (by unfold bX;rw[show CP.prim g=some q from hq];exact h) w m φ vs hi hr hb
theorem AL0:SoundOk CR:=nO (C:=CR) ft nt eqS mo AEE
end Go.Proofs.YtjdfjgmebalaaaaGreat.P
namespace Go.Av
def Val.cmp (a b:Val):Int:=if a.null=true then(if b.null=true then 0 else -1)else if b.null=true then 1 else if a.n<b.n then -1 else if b.n<a.n then 1 else 0
theorem Val.AJP (a:Val):Val.cmp a a=0:=by unfold Val.cmp;split<;>simp
theorem Val.AOY (a b:Val):Val.cmp b a=- Val.cmp a b:=by
 unfold Val.cmp
 cases a.null<;>cases b.null<;>simp
 split<;>split<;>(try split)<;>omega
theorem J7 (a b:Val):(Val.cmp a b=-1∧((a.null=true∧b.null=false)∨(a.null=false∧b.null=false∧a.n<b.n)))∨(Val.cmp a b=0∧((a.null=true∧b.null=true)∨(a.null=false∧b.null=false∧a.n=b.n)))∨(Val.cmp a b=1∧((a.null=false∧b.null=true)∨(a.null=false∧b.null=false∧b.n<a.n))):=by
 unfold Val.cmp;by_cases h1:a.n<b.n<;>by_cases h2:b.n<a.n<;>cases a.null<;>cases b.null<;>simp[h1,h2]<;>omega
theorem Val.AG5 {a b c:Val} (h1:Val.cmp a b≤0) (h2:Val.cmp b c≤0):Val.cmp a c≤0∧(Val.cmp a c=0→Val.cmp a b=0∧Val.cmp b c=0):=by
 rcases J7 a b with ⟨e1,q1⟩|⟨e1,q1⟩|⟨e1,q1⟩<;>rcases J7 b c with ⟨e2,q2⟩|⟨e2,q2⟩|⟨e2,q2⟩<;>rcases J7 a c with ⟨e3,q3⟩|⟨e3,q3⟩|⟨e3,q3⟩<;>(try omega) <;>
  (rcases q1 with ⟨x1,x2⟩|⟨x1,x2,x3⟩<;>rcases q2 with ⟨y1,y2⟩|⟨y1,y2,y3⟩<;>rcases q3 with ⟨z1,z2⟩|⟨z1,z2,z3⟩<;>simp_all<;>omega)
def fZ:List Val→List Val→Int
 | [],[]=>0
 | [],_::_=>-1
 | _::_,[]=>1
 | a::l,b::m=>if Val.cmp a b=0 then fZ l m else Val.cmp a b
theorem FQ:∀ l:List Val,fZ l l=0
 | []=>rfl
 | a::l=>by simp[fZ,Val.AJP,FQ l]
theorem KS:∀ a b:List Val,fZ b a=- fZ a b
 | [],[]=>rfl
 | [],_::_=>rfl
 | _::_,[]=>rfl
 | a::l,b::m=>by
  simp only[fZ,Val.AOY a b,KS l m];split<;>split<;>omega
theorem CV:∀ {a b c:List Val},fZ a b≤0→fZ b c≤0→fZ a c≤0
 | [],_,[],_,_=>by simp[fZ]
 | [],_,_::_,_,_=>by simp[fZ]
 | _::_,[],_,h,_=>by simp[fZ]at h
 | _::_,_::_,[],_,h=>by simp[fZ]at h
 | a::l,b::m,c::n,h1,h2=>by
  simp only[fZ]at *
  have k1:Val.cmp a b≤0:=by split at h1<;>omega
  have k2:Val.cmp b c≤0:=by split at h2<;>omega
  obtain⟨k3,k4⟩:=Val.AG5 k1 k2;split
  ·rename_i h0;obtain⟨k5,k6⟩:=k4 h0;rw[if_pos k5]at h1;rw[if_pos k6]at h2;exact CV h1 h2
  ·exact k3
def jQ (a b:List Val):Bool:=decide (fZ a b≤0)
theorem VA (a b:List Val):jQ a b=true∨jQ b a=true:=by
 unfold jQ;have:=KS a b;simp;omega
theorem KR (a:List Val):jQ a a=true:=by simp[jQ,FQ]
theorem mP {a b c:List Val} (h1:jQ a b=true) (h2:jQ b c=true):jQ a c=true:=by
 unfold jQ at *
 simp only[zP]at *
 exact CV h1 h2
theorem ADR {a b:List Val} (h:jQ a b=false):jQ b a=true:=(VA a b).resolve_left (by simp[h])
abbrev Srt (l:List (List Val)):Prop:=l.Pairwise fun a b=>jQ a b=true
def ACO (l:List (List Val)) (r:List Val):List (List Val):=l.takeWhile (fun x=>jQ x r)++r::l.dropWhile (fun x=>jQ x r)
theorem AFE (l:List (List Val)) (r:List Val):(ACO l r).Perm (r::l):=by
 unfold ACO;have:=List.takeWhile_append_dropWhile (p:=fun x=>jQ x r) (l:=l);refine zC3.trans ?_;rw[this]
theorem oZ {α:Type} {p:α→Bool}:∀ {l:List α} {x:α},x∈l.takeWhile p→p x=true∧x∈l
 | [],x,h=>by simp at h
 | a::l,x,h=>by
  rw[List.takeWhile_cons]at h;split at h
  ·rename_i ha
   rcases zO.1 h with rfl|h
   ·exact⟨ha,by simp⟩
   ·obtain⟨h1,h2⟩:=oZ h;exact⟨h1,List.mem_cons_of_mem _ h2⟩
  ·simp at h
theorem N8 {α:Type} (p:α→Bool) (l:List α):(l.takeWhile p).Sublist l:=List.takeWhile_sublist p
theorem tF {r:List Val}:∀ {l:List (List Val)},Srt l→∀ x∈l.dropWhile (fun x=>jQ x r),jQ r x=true
 | [],_,x,h=>by simp at h
 | a::l,hs,x,h=>by
  rw[List.dropWhile_cons]at h;have hs:=xM.1 hs;split at h
  ·exact tF hs.2 x h
  ·rename_i ha;have hra:=ADR (Bool.eq_false_iff.2 ha)
   rcases zO.1 h with rfl|h
   ·exact hra
   ·exact mP hra (hs.1 x h)
theorem AJ7 {l:List (List Val)} {r:List Val} (h:Srt l):Srt (ACO l r):=by
 unfold ACO;rw[Srt,List.pairwise_append,xM];refine⟨h.sublist (N8 _ _),⟨fun x hx=>tF h x hx,h.sublist (List.dropWhile_sublist _)⟩,fun a ha b hb=>?_⟩;have h1:=(oZ ha).1
 rcases zO.1 hb with rfl|hb
 ·exact h1
 ·exact mP h1 (tF h b hb)
def lS (l:List (List Val)):List (List Val):=l.foldl ACO []
theorem BR:∀ (l acc:List (List Val)),Srt acc→Srt (l.foldl ACO acc)∧(l.foldl ACO acc).Perm (l++acc)
 | [],acc,h=>⟨h, .refl _⟩
 | r::l,acc,h=>by
  obtain⟨h1,h2⟩:=BR l (ACO acc r) (AJ7 h);refine⟨h1,h2.trans ?_⟩;refine(List.Perm.append_left l (AFE acc r)).trans ?_;exact zC3
theorem ADI (l:List (List Val)):Srt (lS l):=(BR l [] .nil).1
theorem KM (l:List (List Val)):(lS l).Perm l:=by have:=(BR l [] .nil).2;rwa [zA2]at this
theorem rV (l:List (List Val)):(lS l).length=l.length:=(KM l).length_eq
theorem QJ {l:List (List Val)} {r:List Val}:r∈lS l↔r∈l:=(KM l).mem_iff
def dV (l:List (List Val)):List (List IV):=l.map fun r=>[.isl (eB r)]
@[simp] theorem AL3 (l:List (List Val)):(dV l).length=l.length:=by simp[dV]
theorem dA:dV []=[]:=rfl
theorem oU (r:List Val) (l:List (List Val)):dV (r::l)=[.isl (eB r)]::dV l:=rfl
theorem rZ:∀ {l:List (List Val)} {i:Nat} {r:List Val},l[i]?=some r→gF (dV l) i=some [.isl (eB r)]
 | [],_,_,h=>by simp at h
 | a::l,0,r,h=>by simp at h;subst h;simp[dV,gF]
 | a::l,i+1,r,h=>by simp only[dV,yE,gF];exact rZ (l:=l) (by simpa using h)
@[simp] theorem AL2 (l:List (List Val)):fP 1 (dV l)=true:=by simp[dV,fP]
theorem sD (a b:List (List Val)):dV (a++b)=dV a++dV b:=by simp[dV]
@[simp] theorem APZ (n:Nat) (l:List (List Val)):(dV l).take n=dV (l.take n):=by simp[dV,zC1]
@[simp] theorem AQ0 (n:Nat) (l:List (List Val)):(dV l).drop n=dV (l.drop n):=by simp[dV,List.map_drop]
structure Tbl where
 w:Int
 rows:List (List Val)
def Tbl.cells (t:Tbl):List IV:=[.int t.w, .isl (dV t.rows)]
def AHW (l:List Tbl):List (List IV):=l.map Tbl.cells
def tab (w:Int) (rows:List (List Val)):Tbl:=if 400<rows.length then⟨w,[]⟩else⟨w,lS rows⟩
def chainB:List (List Val)→Bool
 | a::b::l=>jQ a b && chainB (b::l)
 | _=>true
theorem MK:∀ {l:List (List Val)},chainB l=true↔Srt l
 | []=>by simp[chainB]
 | [a]=>by simp[chainB]
 | a::b::l=>by
  rw[chainB,zU,MK,Srt,Srt,xM (a:=a)];constructor
  ·rintro⟨h1,h2⟩;refine⟨fun x hx=>?_,h2⟩
   rcases zO.1 hx with rfl|hx
   ·exact h1
   ·exact mP h1 ((xM.1 h2).1 x hx)
  ·rintro⟨h1,h2⟩;exact⟨h1 b (by simp),h2⟩
def rowOk (w:Int) (r:List Val):Bool:=decide ((r.length:Int)=w) && r.all Val.ok
def Tbl.ok (t:Tbl):Bool:=bE t.w && (decide (t.rows.length≤400) && (t.rows.all (rowOk t.w) && chainB t.rows))
def isT (e:Ex) (r:List Val):Bool:=decide ((e.ev r).tr=2)
def AS4 (n:Int):List Val:=List.replicate n.toNat ⟨true,0⟩
def ASJ (e:Ex) (rs:List (List Val)) (r:List Val):List (List Val):=(rs.map (r ++ ·)).filter (isT e)
def joinL (e:Ex) (outer:Bool) (w:Int) (rs:List (List Val)) (r:List Val):List (List Val) :=
 if(outer && (ASJ e rs r).isEmpty)=true then [r++AS4 w]else ASJ e rs r
def ASI (e:Ex) (outer:Bool) (a b:Tbl):List (List Val):=a.rows.flatMap (joinL e outer b.w b.rows)
def dd:List Val→List (List Val)→List (List Val)
 | _,[]=>[]
 | p,a::l=>if fZ p a=0 then dd a l else a::dd a l
def ASW:List (List Val)→List (List Val)
 | []=>[]
 | a::l=>a::dd a l
def ANK (cs:List Int) (r:List Val):List Val:=cs.map fun c=>(r[c.toNat]?).getD Val.zero
def bump (key:List Val):List (List Val×Nat)→List (List Val×Nat)
 | []=>[(key,1)]
 | g::l=>if fZ g.1 key=0 then(g.1,g.2+1)::l else g::bump key l
def groups (cs:List Int) (rows:List (List Val)):List (List Val×Nat):=rows.foldl (fun acc r=>bump (ANK cs r) acc) []
def AS3 (g:List Val×Nat):List Val:=g.1++[⟨false,(g.2:Int)⟩]
def TF (cs:List Int) (rows:List (List Val)):List (List Val):=(groups cs rows).map AS3
def AHX:Tbl:=⟨0,[]⟩
def exO (es:List Ex):Ex:=(es[0]?).getD (.mk 0 0 Val.zero [])
def evK (db:List Tbl) (k t:Int) (es:List Ex) (cs:List Int) (a b:Tbl):Tbl :=
 if k=1 then tab ((db[t.toNat]?).getD AHX).w ((db[t.toNat]?).getD AHX).rows
 else if k=2 then tab a.w (a.rows.filter (isT (exO es)))
 else if k=3 then tab es.length (a.rows.map fun r=>es.map (Ex.ev r))
 else if k=4∨k=5 then tab (a.w+b.w) (ASI (exO es) (decide (k=5)) a b)
 else if k=6 then tab a.w (a.rows++b.rows)
 else if k=7 then tab a.w (ASW a.rows)
 else tab ((cs.length:Int)+1) (TF cs a.rows)
mutual
def Pn.evP (db:List Tbl):Pn→Tbl
 | .mk k t es cs ks=>evK db k t es cs (((Pn.AWD db ks)[0]?).getD AHX) (((Pn.AWD db ks)[1]?).getD AHX)
def Pn.AWD (db:List Tbl):List Pn→List Tbl
 | []=>[]
 | p::ps=>Pn.evP db p::Pn.AWD db ps
end
theorem AHY {w:Int} {rows:List (List Val)} (h:rows.length≤400):(tab w rows).rows=lS rows:=by unfold tab;rw[if_neg (by omega)]
theorem Tbl.uV (t:Tbl):t.ok=true↔bE t.w=true∧t.rows.length≤400∧(∀ r∈t.rows,rowOk t.w r=true)∧Srt t.rows:=by
 unfold Tbl.ok;simp only[zU,zP,zS,MK]
section
variable {rows:List (List Val)} {w:Int} (hr:∀ r∈rows,rowOk w r=true) (hw:bE w=true)
include hr hw
end
def rbK (cnt:List Int) (k t:Int) (cs:List Int) (a b:Int):Int :=
 if k=1 then(cnt[t.toNat]?).getD 0 else min (if k=4 then a*b else if k=5 then a*max 1 b else if k=6 then a+b else if k=8∧cs=[]then min a 1 else a) 1000000000
mutual
def Pn.rb (cnt:List Int):Pn→Int
 | .mk k t es cs ks=>rbK cnt k t cs (((Pn.rbL cnt ks)[0]?).getD 0) (((Pn.rbL cnt ks)[1]?).getD 0)
def Pn.rbL (cnt:List Int):List Pn→List Int
 | []=>[]
 | p::ps=>Pn.rb cnt p::Pn.rbL cnt ps
end
theorem Y6 {k:Int} {n:Nat} (h:(n:Int)=bU k) (h1:k≠1) (h2:k≠2) (h10:k≠10) (h11:k≠11):n=2:=by
 unfold bU at h;by_cases c1:k=1∨k=2
 ·omega
 ·by_cases c2:k=10∨k=11
  ·omega
  ·rw[if_neg c1,if_neg c2]at h;split at h<;>omega
def AYD (db:List Tbl) (k t:Int) (es:List Ex) (cs:List Int) (a b:Tbl):List (List Val) :=
 if k=1 then((db[t.toNat]?).getD AHX).rows
 else if k=2 then a.rows.filter (isT (exO es))
 else if k=3 then a.rows.map fun r=>es.map (Ex.ev r)
 else if k=4∨k=5 then ASI (exO es) (decide (k=5)) a b
 else if k=6 then a.rows++b.rows
 else if k=7 then ASW a.rows
 else TF cs a.rows
def Pn.raw (db:List Tbl) (p:Pn):List (List Val):=AYD db p.kind p.table p.exprs p.cols ((p.kids[0]?.map (Pn.evP db)).getD AHX) ((p.kids[1]?.map (Pn.evP db)).getD AHX)
mutual
def Pn.bd (n:Nat):Pn→Nat
 | .mk _ _ es _ ks=>bdK n es (Pn.bdL n ks)
def Pn.bdL (n:Nat):List Pn→List Nat
 | []=>[]
 | p::ps=>Pn.bd n p::Pn.bdL n ps
def bdK (n:Nat) (es:List Ex):List Nat→Nat
 | []=>n
 | [a]=>a
 | a::b::_=>if es=[]then a+b else a*b
end
theorem APC (n:Nat) (t:Int):(Pn.scan t).bd n=n:=by simp[Pn.scan,Pn.bd,Pn.bdL,bdK]
theorem U8 (n:Nat) (k t:Int) (es:List Ex) (cs:List Int) (a:Pn):(Pn.mk k t es cs [a]).bd n=a.bd n:=by simp[Pn.bd,Pn.bdL,bdK]
theorem ALZ (n:Nat) (k t:Int) (es:List Ex) (cs:List Int) (a b:Pn):(Pn.mk k t es cs [a,b]).bd n=if es=[]then a.bd n+b.bd n else a.bd n*b.bd n:=by simp[Pn.bd,Pn.bdL,bdK]
def Th (P:Pn) (j j':Nat) (u u':Int):Prop:=P.thin∧(j'≤j∧u'≤u∧∀ n:Nat,1≤n→P.bd n≤2 ^ (u-u').toNat*n ^ (j-j'+1))∧(P.exprs=[]→P.kids.length=2→P.kind=6)
theorem Th.scan {t:Int} (h:(Pn.scan t).thin) (j:Nat) (u:Int):Th (.scan t) j j u u:=by
 refine⟨h,⟨Nat.le_refl _,Int.le_refl _,fun n _=>?_⟩,by simp[Pn.scan]⟩;rw[APC];simp
theorem Th.one {k t:Int} {es:List Ex} {cs:List Int} {K:Pn} {j j1:Nat} {u u1:Int} (hth:(Pn.mk k t es cs [K]).thin) (h:Th K j j1 u u1):Th (.mk k t es cs [K]) j j1 u u1:=by
 refine⟨hth,⟨h.2.1.1,h.2.1.2.1,fun n hn=>?_⟩,by simp⟩;rw[U8];exact h.2.1.2.2 n hn
theorem Th.skip {k t:Int} {es:List Ex} {cs:List Int} {K:Pn} {j j1 j2:Nat} {u u1 u2:Int} (hth:(Pn.mk k t es cs [K]).thin) (h:Th K j j1 u u1) (h2:j2≤j1) (h3:u2≤u1):Th (.mk k t es cs [K]) j j2 u u2:=by
 obtain⟨-,⟨g1,g2,g3⟩,-⟩:=h;refine⟨hth,⟨by omega,by omega,fun n hn=>?_⟩,by simp⟩;rw[U8];refine xN (g3 n hn) (Nat.mul_le_mul (zA9 (by omega) (by omega)) (zA9 hn (by omega)))
theorem Th.un {e:Ex} {K:Pn} {j j1:Nat} {u u1:Int} (hth:(Pn.mk 6 0 [] [] [K, .mk 2 0 [e] [] [K]]).thin) (h:Th K j j1 u u1):Th (.mk 6 0 [] [] [K, .mk 2 0 [e] [] [K]]) j j1 u (u1-1):=by
 obtain⟨-,⟨g1,g2,g3⟩,-⟩:=h;refine⟨hth,⟨g1,by omega,fun n hn=>?_⟩,by simp⟩;rw[ALZ,if_pos rfl,U8];have:=g3 n hn;rw[show(u-(u1-1)).toNat=(u-u1).toNat+1 by omega,zB4,zC (2 ^ (u-u1).toNat) 2,Nat.mul_assoc];omega
theorem Th.jn {z:Int} {e:Ex} {K O:Pn} {j j1 j2:Nat} {u u1 u2:Int} (hth:(Pn.mk z 0 [e] [] [K,O]).thin) (hj:j1≠0) (h:Th K j j1 u u1) (h2:Th O (j1-1) j2 u1 u2):Th (.mk z 0 [e] [] [K,O]) j j2 u u2:=by
 obtain⟨-,⟨g1,g2,g3⟩,-⟩:=h;obtain⟨-,⟨k1,k2,k3⟩,-⟩:=h2;refine⟨hth,⟨by omega,by omega,fun n hn=>?_⟩,by simp⟩;rw[ALZ,if_neg (by simp)];have:=Nat.mul_le_mul (g3 n hn) (k3 n hn);refine xN this (Nat.le_of_eq ?_);have e1:2 ^ (u-u2).toNat=2 ^ (u-u1).toNat*2 ^ (u1-u2).toNat:=by rw[← Nat.pow_add];congr 1;omega
 have e2:n ^ (j-j2+1)=n ^ (j-j1+1)*n ^ (j1-1-j2+1):=by rw[← Nat.pow_add];congr 1;omega
 rw[e1,e2];exact Nat.mul_mul_mul_comm _ _ _ _
def BdV (P:Pn):Prop:=∀ (ws:List Int) (lv n:Nat),1≤n→P.wd ws lv≠0→P.bd n≤2*n ^ 2
theorem Th.bdV {P:Pn} {j':Nat} {u':Int} (h:Th P 1 j' 1 u') (hu:0≤u'):∀ n:Nat,1≤n→P.bd n≤2*n ^ 2:=by
 intro n hn;have:=h.2.1.2.2 n hn;refine xN this (Nat.mul_le_mul (zA9 (by omega) (show(1-u').toNat≤1 by omega)) (zA9 hn (by omega)))
theorem APD (n:Nat) (P:Pn) (k t:Int) (cs:List Int):(Pn.mk k t P.exprs cs P.kids).bd n=P.bd n:=by
 obtain⟨k',t',es,cs',ks⟩:=P;simp[Pn.bd,Pn.exprs,Pn.kids]
theorem AK3 {P:Pn} {e:Ex} (h:∀ n:Nat,1≤n→P.bd n≤2*n ^ 2) (h6:P.exprs=[]→P.kids.length=2→P.kind=6):BdV (.mk P.kind P.table (P.exprs++[e]) P.cols P.kids):=by
 intro ws lv n hn hw;have h0:=h n hn;obtain⟨k,t,es,cs,ks⟩:=P;simp only[Pn.dF,Pn.iW,Pn.fJ,Pn.kS,Pn.fV]at *
 match ks,h0,h6,hw with
 | [],h0,_,_=>simpa [Pn.bd,Pn.bdL,bdK]using h0
 | [a],h0,_,_=>rw[U8]at h0 ⊢;exact h0
 | a::b::l,h0,h6,hw =>
  by_cases he:es=[]
  ·subst he;have hsh:=nJ hw;generalize hp:Pn.mk k t ([]++[e]) cs (a::b::l)=p at hsh
   cases hsh<;>simp only[Pn.scan,filt,proj,bA,bY,Pn.mk.injEq,xW,reduceCtorEq,and_false,List.cons.injEq,false_and,and_true]at hp
   rename_i hk _ _ _ _;obtain⟨rfl,_,_,_,_,_,rfl⟩:=hp;have:=h6 rfl rfl;omega
  ·have e1:(Pn.mk k t (es++[e]) cs (a::b::l)).bd n=(Pn.mk k t es cs (a::b::l)).bd n:=by
    simp only[Pn.bd,Pn.bdL,bdK];rw[if_neg (by simp),if_neg he]
   rw[e1];exact h0
def Rt (P:Pn):Prop:=P.thin∧(∀ n:Nat,1≤n→P.bd n≤2*n ^ 2)∧(P.exprs=[]→P.kids.length=2→P.kind=6)
theorem Th.rt {P:Pn} {j':Nat} {u':Int} (h:Th P 1 j' 1 u') (hu:0≤u'):Rt P:=⟨h.1,h.bdV hu,h.2.2⟩
theorem Rt.one {k t:Int} {es:List Ex} {cs:List Int} {P:Pn} (hth:(Pn.mk k t es cs [P]).thin) (h:Rt P):Rt (.mk k t es cs [P]):=⟨hth,fun n hn=>by rw[U8];exact h.2.1 n hn,by simp⟩
theorem Rt.head {P:Pn} {k t:Int} {cs:List Int} (h:Rt P):BdV (.mk k t P.exprs cs P.kids):=fun ws lv n hn _=>by rw[APD];exact h.2.1 n hn
theorem Rt.all {P:Pn} (h:Rt P):BdV P:=fun ws lv n hn _=>h.2.1 n hn
end Go.Av
namespace Go.Proofs.YtjdfjgmebalaaaaGreat.P
open Go Go.Av
set_option maxRecDepth 4000
set_option maxHeartbeats 8000000
def PSt (l:List UInt8) (ws:List Int) (k:Nat) (j u p:Int):StL:=[some (.box [.own 1 0, .osl 2 1 0 k, .int j, .int u]),Rd l p,some (.arr 1 (aG ws))]
def nE (l:List UInt8) (ws:List Int) (k d j c:Nat):Prop:=∀ p u:Int,0≤p→p+c<300000000→0≤u→u≤1→∃ (P:Pn) (p' u':Int) (j':Nat),
    aH CP 182 [.own 0 0, .int d] (PSt l ws k j u p)=some (.i (.agg P.cells),PSt l ws k j' u' p')∧Th P j j' u u'∧p≤p'∧p'≤p+c∧j'≤j∧0≤u'∧u'≤1
theorem KQ (t:Int):(Pn.scan t).cells=[.int 1, .int t, .isl [], .isl [], .isl []]:=by simp[Pn.scan,Pn.cells,Ex.aB,aG,Pn.aB]
theorem RA {l:List UInt8} (hl:l.length≤2000) {ws:List Int} {k:Nat} (j:Nat):nE l ws k 0 j 1:=by
 intro p u h0 h1 hu0 hu1;obtain⟨t,ht,-,-⟩:=bC l p k h0 (by omega) hl;refine⟨.scan t,p+1,u,j,?_,Th.scan (Pn.FO t) _ _,by omega,by omega,by omega,by omega,by omega⟩;rw[aD rfl Tryz.func182 rfl rfl];simp[PSt,ht,KQ]
structure PlH (l:List UInt8) (ws:List Int) (k d j c2:Nat) (p u t v W kk p1 u1:Int) (j1:Nat) (K:Pn):Prop where
 hd:d<100
 h1:p1+400+c2<300000000
 hp1:0≤p1
 hu0:0≤u1
 hu1:u1≤1
 hW0:0≤W
 hW6:W≤6
 hKB:Th K j j1 u u1
 ht:aH C0 127 [.own 0 0, .int k] [Rd l p]=some (.int t,[Rd l (p+1)])
 hv:aH C0 127 [.own 0 0, .int 6] [Rd l (p+1)]=some (.int v,[Rd l (p+1+1)])
 v0:¬ v=0
 hkid:aH CP 182 [.own 0 0, .int d] (PSt l ws k j u (p+1+1))=some (.i (.agg K.cells),PSt l ws k j1 u1 p1)
 hW:aH CP 104 [.i (.agg K.cells), .osl 0 1 0 k, .int 8] [some (.arr 1 (aG ws))]=some (.int W,[some (.arr 1 (aG ws))])
 hkk:aH C0 127 [.own 0 0, .int 10] [Rd l p1]=some (.int kk,[Rd l (p1+1)])
abbrev PlC (l:List UInt8) (ws:List Int) (k d j c2:Nat) (p u p1:Int) (j1:Nat):Prop:=∃ (P:Pn) (p' u':Int) (j':Nat),aH CP 182 [.own 0 0, .int ((d+1:Nat):Int)] (PSt l ws k j u p)=some (.i (.agg P.cells),PSt l ws k j' u' p')∧Th P j j' u u'∧p1≤p'∧p'≤p1+400+c2∧j'≤j1∧0≤u'∧u'≤1
theorem RJ {l:List UInt8} (hl:l.length≤2000) {ws:List Int} {k:Nat} {d j c2:Nat} {p u t v W kk p1 u1:Int} {j1:Nat} {K:Pn} (H:PlH l ws k d j c2 p u t v W kk p1 u1 j1 K) (hq:kk=0):PlC l ws k d j c2 p u p1 j1:=by
 obtain⟨hd,h1,hp1,hu0,hu1,hW0,hW6,hKB,ht,hv,v0,hkid,hW,hkk⟩:=H;have we:IntKind.i64.wrap (d:Int)=d:=wrO;have hK:=hKB.1;have wn:¬ ((d:Int)+1=0):=by omega
 simp only[PSt]at hkid;rw[Pn.aA K]at hkid hW;obtain⟨e,p2,he,a1,a2,a3⟩:=aN l hl W (p1+1) (by omega) (by omega);have hf:=eX e K;rw[bK,Pn.aA K,Ex.aA e]at hf;rw[Ex.aA e]at he;refine⟨bP e K,p2,u1,j1,?_,Th.one (bR (by omega) hK) hKB,by omega,by omega,by omega,by omega,by omega⟩;rw[aD rfl Tryz.func182 rfl rfl];simp[PSt,ht,hv,v0,we,hkid,hW,hkk,wn,hq,he,hf,bK,Pn.aA K,Ex.aA e]
theorem RI {l:List UInt8} (hl:l.length≤2000) {ws:List Int} {k:Nat} {d j c2:Nat} {p u t v W kk p1 u1:Int} {j1:Nat} {K:Pn} (H:PlH l ws k d j c2 p u t v W kk p1 u1 j1 K) (hq:kk=1):PlC l ws k d j c2 p u p1 j1:=by
 obtain⟨hd,h1,hp1,hu0,hu1,hW0,hW6,hKB,ht,hv,v0,hkid,hW,hkk⟩:=H;have we:IntKind.i64.wrap (d:Int)=d:=wrO;have hK:=hKB.1;have wn:¬ ((d:Int)+1=0):=by omega
 simp only[PSt]at hkid;rw[Pn.aA K]at hkid hW;obtain⟨e,p2,he,a1,a2,a3⟩:=aN l hl W (p1+1) (by omega) (by omega);have hf:=eX e K;rw[bK,Pn.aA K,Ex.aA e]at hf;rw[Ex.aA e]at he;refine⟨bP e K,p2,u1,j1,?_,Th.one (bR (by omega) hK) hKB,by omega,by omega,by omega,by omega,by omega⟩;rw[aD rfl Tryz.func182 rfl rfl];simp[PSt,ht,hv,v0,we,hkid,hW,hkk,wn,hq,he,hf,bK,Pn.aA K,Ex.aA e]
theorem RH {l:List UInt8} (hl:l.length≤2000) {ws:List Int} {k:Nat} {d j c2:Nat} {p u t v W kk p1 u1:Int} {j1:Nat} {K:Pn} (H:PlH l ws k d j c2 p u t v W kk p1 u1 j1 K) (hq:kk=2):PlC l ws k d j c2 p u p1 j1:=by
 obtain⟨hd,h1,hp1,hu0,hu1,hW0,hW6,hKB,ht,hv,v0,hkid,hW,hkk⟩:=H;have we:IntKind.i64.wrap (d:Int)=d:=wrO;have hK:=hKB.1;have wn:¬ ((d:Int)+1=0):=by omega
 simp only[PSt]at hkid;rw[Pn.aA K]at hkid hW;obtain⟨e,p2,he,a1,a2,a3⟩:=aN l hl W (p1+1) (by omega) (by omega);have hf:=eX e K;rw[bK,Pn.aA K,Ex.aA e]at hf;rw[Ex.aA e]at he;refine⟨bP e K,p2,u1,j1,?_,Th.one (bR (by omega) hK) hKB,by omega,by omega,by omega,by omega,by omega⟩;rw[aD rfl Tryz.func182 rfl rfl];simp[PSt,ht,hv,v0,we,hkid,hW,hkk,wn,hq,he,hf,bK,Pn.aA K,Ex.aA e]
theorem NL {l:List UInt8} (hl:l.length≤2000) {ws:List Int} {k:Nat} {d j c2:Nat} {p u t v W kk p1 u1:Int} {j1:Nat} {K:Pn} (H:PlH l ws k d j c2 p u t v W kk p1 u1 j1 K) (hq:kk=8):PlC l ws k d j c2 p u p1 j1:=by
 obtain⟨hd,h1,hp1,hu0,hu1,hW0,hW6,hKB,ht,hv,v0,hkid,hW,hkk⟩:=H;have we:IntKind.i64.wrap (d:Int)=d:=wrO;have hK:=hKB.1;have wn:¬ ((d:Int)+1=0):=by omega
 simp only[PSt]at hkid;rw[Pn.aA K]at hkid hW;refine⟨.mk 7 0 [] [] [K],p1+1,u1,j1,?_,Th.one (by simp[Pn.thin,Pn.fT,hK]) hKB,by omega,by omega,by omega,by omega,by omega⟩;rw[aD rfl Tryz.func182 rfl rfl];simp[PSt,ht,hv,v0,we,hkid,hW,hkk,wn,hq,Pn.cells,Ex.aB,aG,Pn.aB,Pn.aA K]
theorem RG {l:List UInt8} (hl:l.length≤2000) {ws:List Int} {k:Nat} {d j c2:Nat} {p u t v W kk p1 u1:Int} {j1:Nat} {K:Pn} (H:PlH l ws k d j c2 p u t v W kk p1 u1 j1 K) (hj:j1=0) (hq:kk=5):PlC l ws k d j c2 p u p1 j1:=by
 obtain⟨hd,h1,hp1,hu0,hu1,hW0,hW6,hKB,ht,hv,v0,hkid,hW,hkk⟩:=H;have we:IntKind.i64.wrap (d:Int)=d:=wrO;have hK:=hKB.1;have wn:¬ ((d:Int)+1=0):=by omega
 simp only[PSt]at hkid;rw[Pn.aA K]at hkid hW;obtain⟨e,p2,he,a1,a2,a3⟩:=aN l hl W (p1+1) (by omega) (by omega);have hf:=eX e K;rw[bK,Pn.aA K,Ex.aA e]at hf;rw[Ex.aA e]at he;refine⟨bP e K,p2,u1,j1,?_,Th.one (bR (by omega) hK) hKB,by omega,by omega,by omega,by omega,by omega⟩;rw[aD rfl Tryz.func182 rfl rfl];simp[PSt,ht,hv,v0,we,hkid,hW,hkk,wn,hq,he,hf,bK,Pn.aA K,Ex.aA e,hj]
theorem AAT {l:List UInt8} (hl:l.length≤2000) {ws:List Int} {k:Nat} {d j c2:Nat} {p u t v W kk p1 u1:Int} {j1:Nat} {K:Pn} (H:PlH l ws k d j c2 p u t v W kk p1 u1 j1 K) (hj:j1≠0) (hw4:¬ W≤4) (hq:kk=5):PlC l ws k d j c2 p u p1 j1:=by
 obtain⟨hd,h1,hp1,hu0,hu1,hW0,hW6,hKB,ht,hv,v0,hkid,hW,hkk⟩:=H;have we:IntKind.i64.wrap (d:Int)=d:=wrO;have hK:=hKB.1;have wn:¬ ((d:Int)+1=0):=by omega
 simp only[PSt]at hkid;rw[Pn.aA K]at hkid hW;have hj':0<j1:=by omega
 obtain⟨e,p2,he,a1,a2,a3⟩:=aN l hl W (p1+1) (by omega) (by omega);have hf:=eX e K;rw[bK,Pn.aA K,Ex.aA e]at hf;rw[Ex.aA e]at he;refine⟨bP e K,p2,u1,j1,?_,Th.one (bR (by omega) hK) hKB,by omega,by omega,by omega,by omega,by omega⟩;rw[aD rfl Tryz.func182 rfl rfl];simp[PSt,ht,hv,v0,we,hkid,hW,hkk,wn,hq,he,hf,bK,Pn.aA K,Ex.aA e,hj',hj,hw4]
theorem RF {l:List UInt8} (hl:l.length≤2000) {ws:List Int} {k:Nat} {d j c2:Nat} {p u t v W kk p1 u1:Int} {j1:Nat} {K:Pn} (H:PlH l ws k d j c2 p u t v W kk p1 u1 j1 K) (hj:j1=0) (hq:kk=6):PlC l ws k d j c2 p u p1 j1:=by
 obtain⟨hd,h1,hp1,hu0,hu1,hW0,hW6,hKB,ht,hv,v0,hkid,hW,hkk⟩:=H;have we:IntKind.i64.wrap (d:Int)=d:=wrO;have hK:=hKB.1;have wn:¬ ((d:Int)+1=0):=by omega
 simp only[PSt]at hkid;rw[Pn.aA K]at hkid hW;obtain⟨e,p2,he,a1,a2,a3⟩:=aN l hl W (p1+1) (by omega) (by omega);have hf:=eX e K;rw[bK,Pn.aA K,Ex.aA e]at hf;rw[Ex.aA e]at he;refine⟨bP e K,p2,u1,j1,?_,Th.one (bR (by omega) hK) hKB,by omega,by omega,by omega,by omega,by omega⟩;rw[aD rfl Tryz.func182 rfl rfl];simp[PSt,ht,hv,v0,we,hkid,hW,hkk,wn,hq,he,hf,bK,Pn.aA K,Ex.aA e,hj]
theorem AAS {l:List UInt8} (hl:l.length≤2000) {ws:List Int} {k:Nat} {d j c2:Nat} {p u t v W kk p1 u1:Int} {j1:Nat} {K:Pn} (H:PlH l ws k d j c2 p u t v W kk p1 u1 j1 K) (hj:j1≠0) (hw4:¬ W≤4) (hq:kk=6):PlC l ws k d j c2 p u p1 j1:=by
 obtain⟨hd,h1,hp1,hu0,hu1,hW0,hW6,hKB,ht,hv,v0,hkid,hW,hkk⟩:=H;have we:IntKind.i64.wrap (d:Int)=d:=wrO;have hK:=hKB.1;have wn:¬ ((d:Int)+1=0):=by omega
 simp only[PSt]at hkid;rw[Pn.aA K]at hkid hW;have hj':0<j1:=by omega
 obtain⟨e,p2,he,a1,a2,a3⟩:=aN l hl W (p1+1) (by omega) (by omega);have hf:=eX e K;rw[bK,Pn.aA K,Ex.aA e]at hf;rw[Ex.aA e]at he;refine⟨bP e K,p2,u1,j1,?_,Th.one (bR (by omega) hK) hKB,by omega,by omega,by omega,by omega,by omega⟩;rw[aD rfl Tryz.func182 rfl rfl];simp[PSt,ht,hv,v0,we,hkid,hW,hkk,wn,hq,he,hf,bK,Pn.aA K,Ex.aA e,hj',hj,hw4]
theorem RD {l:List UInt8} (hl:l.length≤2000) {ws:List Int} {k:Nat} {d j c2:Nat} {p u t v W kk p1 u1:Int} {j1:Nat} {K:Pn} (H:PlH l ws k d j c2 p u t v W kk p1 u1 j1 K) (hu:¬ 0<u1) (hq:kk=7):PlC l ws k d j c2 p u p1 j1:=by
 obtain⟨hd,h1,hp1,hu0,hu1,hW0,hW6,hKB,ht,hv,v0,hkid,hW,hkk⟩:=H;have we:IntKind.i64.wrap (d:Int)=d:=wrO;have hK:=hKB.1;have wn:¬ ((d:Int)+1=0):=by omega
 simp only[PSt]at hkid;rw[Pn.aA K]at hkid hW;obtain⟨e,p2,he,a1,a2,a3⟩:=aN l hl W (p1+1) (by omega) (by omega);have hf:=eX e K;rw[bK,Pn.aA K,Ex.aA e]at hf;rw[Ex.aA e]at he;refine⟨bP e K,p2,u1,j1,?_,Th.one (bR (by omega) hK) hKB,by omega,by omega,by omega,by omega,by omega⟩;rw[aD rfl Tryz.func182 rfl rfl];simp[PSt,ht,hv,v0,we,hkid,hW,hkk,wn,hq,he,hf,bK,Pn.aA K,Ex.aA e,hu]
theorem AAU {l:List UInt8} (hl:l.length≤2000) {ws:List Int} {k:Nat} {d j c2:Nat} {p u t v W kk p1 u1:Int} {j1:Nat} {K:Pn} (H:PlH l ws k d j c2 p u t v W kk p1 u1 j1 K) (hu:0<u1) (hq:kk=7):PlC l ws k d j c2 p u p1 j1:=by
 obtain⟨hd,h1,hp1,hu0,hu1,hW0,hW6,hKB,ht,hv,v0,hkid,hW,hkk⟩:=H;have we:IntKind.i64.wrap (d:Int)=d:=wrO;have hK:=hKB.1;have wn:¬ ((d:Int)+1=0):=by omega
 simp only[PSt]at hkid;rw[Pn.aA K]at hkid hW;obtain⟨e,p2,he,a1,a2,a3⟩:=aN l hl W (p1+1) (by omega) (by omega);have hf:=eX e K;have hc:=vU K hK;have wu:IntKind.i64.wrap (u1-1)=u1-1:=wrO;rw[bK,Pn.aA K,Ex.aA e]at hf;rw[Pn.aA K]at hc;rw[Ex.aA e]at he;refine⟨.mk 6 0 [] [] [K,bP e K],p2,u1-1,j1,?_,Th.un (by have:=bR (e:=e) (by omega) hK;unfold bP at this;simp[Pn.thin,Pn.fT,hK]at this ⊢;exact this) hKB,by omega,by omega,by omega,by omega,by omega⟩;rw[aD rfl Tryz.func182 rfl rfl];simp[PSt,ht,hv,v0,we,hkid,hW,hkk,wn,hq,he,hf,bK,Pn.aA K,Ex.aA e,hu,hc,wu,Pn.aW,Ex.aB,aG,Pn.aB]
theorem VK {l:List UInt8} (hl:l.length≤2000) {ws:List Int} {k:Nat} {d j c2:Nat} {p u t v W kk p1 u1:Int} {j1:Nat} {K:Pn} (H:PlH l ws k d j c2 p u t v W kk p1 u1 j1 K) (hw1:¬ 1<W) (hq:kk=9):PlC l ws k d j c2 p u p1 j1:=by
 obtain⟨hd,h1,hp1,hu0,hu1,hW0,hW6,hKB,ht,hv,v0,hkid,hW,hkk⟩:=H;have we:IntKind.i64.wrap (d:Int)=d:=wrO;have hK:=hKB.1;have wn:¬ ((d:Int)+1=0):=by omega
 simp only[PSt]at hkid;rw[Pn.aA K]at hkid hW;refine⟨.mk 8 0 [] [] [K],p1+1,u1,j1,?_,Th.one (by simp[Pn.thin,Pn.fT,hK]) hKB,by omega,by omega,by omega,by omega,by omega⟩;rw[aD rfl Tryz.func182 rfl rfl];simp[PSt,ht,hv,v0,we,hkid,hW,hkk,wn,hq,hw1,Pn.aW,Ex.aB,aG,Pn.aB,Pn.aA K]
theorem VJ {l:List UInt8} (hl:l.length≤2000) {ws:List Int} {k:Nat} {d j c2:Nat} {p u t v W kk p1 u1:Int} {j1:Nat} {K:Pn} (H:PlH l ws k d j c2 p u t v W kk p1 u1 j1 K) (hw1:1<W) (hq:kk=9):PlC l ws k d j c2 p u p1 j1:=by
 obtain⟨hd,h1,hp1,hu0,hu1,hW0,hW6,hKB,ht,hv,v0,hkid,hW,hkk⟩:=H;have we:IntKind.i64.wrap (d:Int)=d:=wrO;have hK:=hKB.1;have wn:¬ ((d:Int)+1=0):=by omega
 simp only[PSt]at hkid;rw[Pn.aA K]at hkid hW;obtain⟨g,hg,-,-⟩:=bC l (p1+1) W (by omega) (by omega) hl;refine⟨.mk 8 0 [] [g] [K],p1+1+1,u1,j1,?_,Th.one (by simp[Pn.thin,Pn.fT,hK]) hKB,by omega,by omega,by omega,by omega,by omega⟩;rw[aD rfl Tryz.func182 rfl rfl];simp[PSt,ht,hv,v0,we,hkid,hW,hkk,wn,hq,hg,hw1,Pn.aW,Ex.aB,aG,Pn.aB,Pn.aA K]
theorem AAY {l:List UInt8} (hl:l.length≤2000) {ws:List Int} (hw:∀ w∈ws,0≤w∧w≤6) (hwl:ws.length<1000000) {k:Nat} (hk0:0<k) (hkl:k≤ws.length) {d j c2:Nat} {p u t v W kk p1 u1:Int} {j1:Nat} {K:Pn} (H:PlH l ws k d j c2 p u t v W kk p1 u1 j1 K) (hj:j1≠0) (hjb:j1<1000) (hw4:W≤4) (hoth:∀ y:Nat,y≤1→nE l ws k y (j1-1) c2) (hq:kk=5):PlC l ws k d j c2 p u p1 j1:=by
 obtain⟨hd,h1,hp1,hu0,hu1,hW0,hW6,hKB,ht,hv,v0,hkid,hW,hkk⟩:=H;have we:IntKind.i64.wrap (d:Int)=d:=wrO;have hK:=hKB.1;have wn:¬ ((d:Int)+1=0):=by omega
 simp only[PSt]at hkid;rw[Pn.aA K]at hkid hW;have hj':0<j1:=by omega
 have wj:IntKind.i64.wrap ((j1:Int)-1)=((j1-1:Nat):Int):=by rw[wrO];omega
 obtain⟨x,hx,hx1,-⟩:=bC l (p1+1) 2 (by omega) (by omega) hl;obtain⟨x0,x1⟩:=hx1 (by omega)
 obtain⟨y,rfl⟩:∃ y:Nat,x=y:=⟨x.toNat,by omega⟩
 obtain⟨O,p2,u2,j2,hO,hOt,b1,b2,b3,b4,b5⟩:=hoth y (by omega) (p1+1+1) u1 (by omega) (by omega) hu0 hu1;have hV:=gL hw hwl hk0 hkl O hOt.1;have hVr:=Pn.iD (ws:=ws.take k) (fun w hm=>hw w (zL hm)) O 8;generalize O.wd (ws.take k) 8=V at hV hVr;have wv:IntKind.i64.wrap (W+V)=W+V:=wrO;simp only[PSt]at hO;rw[Pn.aA O]at hO hV;by_cases hs:W+V≤6
 ·have h1:=nV l p2 (by omega) (by omega) hl [[.int 4],[.int 5]] (by simp) (by simp) (by simp);obtain⟨z,hz,hzm⟩:=h1;obtain⟨e,p3,he,a1,a2,a3⟩:=aN l hl (W+V) (p2+1) (by omega) (by omega);rw[Ex.aA e]at he;simp only[zQ,yQ,zI,Nat.reduceAdd]at hz;have het:=Ex.bF e (by omega);refine⟨.mk z 0 [e] [] [K,O],p3,u2,j2,?_,Th.jn (by simp[Pn.thin,Pn.fT,hK,hOt.1,het]) hj hKB hOt,by omega,by omega,by omega,by omega,by omega⟩;rw[aD rfl Tryz.func182 rfl rfl];simp[PSt,ht,hv,v0,we,hkid,hW,hkk,wn,hq,hj',hj,hw4,wj,hx,hO,hV,wv,hs,hz,he,Pn.aW,Ex.aB,aG,Pn.aB,Pn.aA K,Pn.aA O,Ex.aA e]
 ·obtain⟨e,p3,he,a1,a2,a3⟩:=aN l hl W p2 (by omega) (by omega);have hf:=eX e K;rw[bK,Pn.aA K,Ex.aA e]at hf;rw[Ex.aA e]at he;refine⟨bP e K,p3,u2,j2,?_,Th.skip (bR (by omega) hK) hKB (by omega) hOt.2.1.2.1,by omega,by omega,by omega,by omega,by omega⟩;rw[aD rfl Tryz.func182 rfl rfl];simp[PSt,ht,hv,v0,we,hkid,hW,hkk,wn,hq,hj',hj,hw4,wj,hx,hO,hV,wv,hs,he,hf,bK,Pn.aA K,Ex.aA e]
theorem AAX {l:List UInt8} (hl:l.length≤2000) {ws:List Int} (hw:∀ w∈ws,0≤w∧w≤6) (hwl:ws.length<1000000) {k:Nat} (hk0:0<k) (hkl:k≤ws.length) {d j c2:Nat} {p u t v W kk p1 u1:Int} {j1:Nat} {K:Pn} (H:PlH l ws k d j c2 p u t v W kk p1 u1 j1 K) (hj:j1≠0) (hjb:j1<1000) (hw4:W≤4) (hoth:∀ y:Nat,y≤1→nE l ws k y (j1-1) c2) (hq:kk=6):PlC l ws k d j c2 p u p1 j1:=by
 obtain⟨hd,h1,hp1,hu0,hu1,hW0,hW6,hKB,ht,hv,v0,hkid,hW,hkk⟩:=H;have we:IntKind.i64.wrap (d:Int)=d:=wrO;have hK:=hKB.1;have wn:¬ ((d:Int)+1=0):=by omega
 simp only[PSt]at hkid;rw[Pn.aA K]at hkid hW;have hj':0<j1:=by omega
 have wj:IntKind.i64.wrap ((j1:Int)-1)=((j1-1:Nat):Int):=by rw[wrO];omega
 obtain⟨x,hx,hx1,-⟩:=bC l (p1+1) 2 (by omega) (by omega) hl;obtain⟨x0,x1⟩:=hx1 (by omega)
 obtain⟨y,rfl⟩:∃ y:Nat,x=y:=⟨x.toNat,by omega⟩
 obtain⟨O,p2,u2,j2,hO,hOt,b1,b2,b3,b4,b5⟩:=hoth y (by omega) (p1+1+1) u1 (by omega) (by omega) hu0 hu1;have hV:=gL hw hwl hk0 hkl O hOt.1;have hVr:=Pn.iD (ws:=ws.take k) (fun w hm=>hw w (zL hm)) O 8;generalize O.wd (ws.take k) 8=V at hV hVr;have wv:IntKind.i64.wrap (W+V)=W+V:=wrO;simp only[PSt]at hO;rw[Pn.aA O]at hO hV;by_cases hs:W+V≤6
 ·have h1:=nV l p2 (by omega) (by omega) hl [[.int 4],[.int 5]] (by simp) (by simp) (by simp);obtain⟨z,hz,hzm⟩:=h1;obtain⟨e,p3,he,a1,a2,a3⟩:=aN l hl (W+V) (p2+1) (by omega) (by omega);rw[Ex.aA e]at he;simp only[zQ,yQ,zI,Nat.reduceAdd]at hz;have het:=Ex.bF e (by omega);refine⟨.mk z 0 [e] [] [K,O],p3,u2,j2,?_,Th.jn (by simp[Pn.thin,Pn.fT,hK,hOt.1,het]) hj hKB hOt,by omega,by omega,by omega,by omega,by omega⟩;rw[aD rfl Tryz.func182 rfl rfl];simp[PSt,ht,hv,v0,we,hkid,hW,hkk,wn,hq,hj',hj,hw4,wj,hx,hO,hV,wv,hs,hz,he,Pn.aW,Ex.aB,aG,Pn.aB,Pn.aA K,Pn.aA O,Ex.aA e]
 ·obtain⟨e,p3,he,a1,a2,a3⟩:=aN l hl W p2 (by omega) (by omega);have hf:=eX e K;rw[bK,Pn.aA K,Ex.aA e]at hf;rw[Ex.aA e]at he;refine⟨bP e K,p3,u2,j2,?_,Th.skip (bR (by omega) hK) hKB (by omega) hOt.2.1.2.1,by omega,by omega,by omega,by omega,by omega⟩;rw[aD rfl Tryz.func182 rfl rfl];simp[PSt,ht,hv,v0,we,hkid,hW,hkk,wn,hq,hj',hj,hw4,wj,hx,hO,hV,wv,hs,he,hf,bK,Pn.aA K,Ex.aA e]
theorem AAW {l:List UInt8} (hl:l.length≤2000) {ws:List Int} {k:Nat} {d j c2:Nat} {p u t v W kk p1 u1:Int} {j1:Nat} {K:Pn} (H:PlH l ws k d j c2 p u t v W kk p1 u1 j1 K) (hq:kk=3):PlC l ws k d j c2 p u p1 j1:=by
 obtain⟨hd,h1,hp1,hu0,hu1,hW0,hW6,hKB,ht,hv,v0,hkid,hW,hkk⟩:=H;have we:IntKind.i64.wrap (d:Int)=d:=wrO;have hK:=hKB.1;have wn:¬ ((d:Int)+1=0):=by omega
 simp only[PSt]at hkid;rw[Pn.aA K]at hkid hW;obtain⟨m,hm,hm1,-⟩:=bC l (p1+1) 2 (by omega) (by omega) hl;obtain⟨m0,m1⟩:=hm1 (by omega);have w2:IntKind.i64.wrap (2:Int)=2:=wrO;have w1:=bN;have w0:IntKind.i64.wrap (0:Int)=0:=wrO;obtain⟨x1,hx1,hy1,-⟩:=bC l (p1+1+1) 2 (by omega) (by omega) hl;obtain⟨x1a,x1b⟩:=hy1 (by omega)
 obtain⟨y1,rfl⟩:∃ y:Nat,x1=y:=⟨x1.toNat,by omega⟩
 have hc1:jR y1≤9:=by rcases(show y1=0∨y1=1 by omega)with h|h<;>simp[h,jR]
 obtain⟨e1,q1,he1,c1a,c1b,c1c⟩:=rE l hl W y1 (by omega) (by omega) ((p1+1+1)+1) (by omega) (by omega);rw[Ex.aA e1]at he1;have t1:=Ex.bF e1 (by omega)
 rcases(show m=0∨m=1 by omega)with rfl|rfl
 ·refine⟨.mk 3 0 [e1] [] [K],q1,u1,j1,?_,Th.one (by simp[Pn.thin,Pn.fT,hK,t1]) hKB,by omega,by omega,by omega,by omega,by omega⟩;rw[aD rfl Tryz.func182 rfl rfl];simp[PSt,ht,hv,v0,we,hkid,hW,hkk,wn,hq,hm,w1];rw[aF];simp[hx1,he1,w0];rw[aF];simp[Pn.aW,Ex.aB,aG,Pn.aB,Pn.aA K,Ex.aA e1,PSt]
 ·obtain⟨x2,hx2,hy2,-⟩:=bC l q1 2 (by omega) (by omega) hl;obtain⟨x2a,x2b⟩:=hy2 (by omega)
  obtain⟨y2,rfl⟩:∃ y:Nat,x2=y:=⟨x2.toNat,by omega⟩
  have hc2:jR y2≤9:=by rcases(show y2=0∨y2=1 by omega)with h|h<;>simp[h,jR]
  obtain⟨e2,q2,he2,c2a,c2b,c2c⟩:=rE l hl W y2 (by omega) (by omega) (q1+1) (by omega) (by omega);rw[Ex.aA e2]at he2;have t2:=Ex.bF e2 (by omega);refine⟨.mk 3 0 [e1,e2] [] [K],q2,u1,j1,?_,Th.one (by simp[Pn.thin,Pn.fT,hK,t1,t2]) hKB,by omega,by omega,by omega,by omega,by omega⟩;rw[aD rfl Tryz.func182 rfl rfl];simp[PSt,ht,hv,v0,we,hkid,hW,hkk,wn,hq,hm,w2];rw[aF];simp[hx1,he1,w1];rw[aF];simp[hx2,he2,w0];rw[aF];simp[Pn.aW,Ex.aB,aG,Pn.aB,Pn.aA K,Ex.aA e1,Ex.aA e2,PSt]
theorem AAV {l:List UInt8} (hl:l.length≤2000) {ws:List Int} {k:Nat} {d j c2:Nat} {p u t v W kk p1 u1:Int} {j1:Nat} {K:Pn} (H:PlH l ws k d j c2 p u t v W kk p1 u1 j1 K) (hq:kk=4):PlC l ws k d j c2 p u p1 j1:=by
 obtain⟨hd,h1,hp1,hu0,hu1,hW0,hW6,hKB,ht,hv,v0,hkid,hW,hkk⟩:=H;have we:IntKind.i64.wrap (d:Int)=d:=wrO;have hK:=hKB.1;have wn:¬ ((d:Int)+1=0):=by omega
 simp only[PSt]at hkid;rw[Pn.aA K]at hkid hW;obtain⟨m,hm,hm1,-⟩:=bC l (p1+1) 2 (by omega) (by omega) hl;obtain⟨m0,m1⟩:=hm1 (by omega);have w2:IntKind.i64.wrap (2:Int)=2:=wrO;have w1:=bN;have w0:IntKind.i64.wrap (0:Int)=0:=wrO;obtain⟨x1,hx1,hy1,-⟩:=bC l (p1+1+1) 2 (by omega) (by omega) hl;obtain⟨x1a,x1b⟩:=hy1 (by omega)
 obtain⟨y1,rfl⟩:∃ y:Nat,x1=y:=⟨x1.toNat,by omega⟩
 have hc1:jR y1≤9:=by rcases(show y1=0∨y1=1 by omega)with h|h<;>simp[h,jR]
 obtain⟨e1,q1,he1,c1a,c1b,c1c⟩:=rE l hl W y1 (by omega) (by omega) ((p1+1+1)+1) (by omega) (by omega);rw[Ex.aA e1]at he1;have t1:=Ex.bF e1 (by omega)
 rcases(show m=0∨m=1 by omega)with rfl|rfl
 ·refine⟨.mk 3 0 [e1] [] [K],q1,u1,j1,?_,Th.one (by simp[Pn.thin,Pn.fT,hK,t1]) hKB,by omega,by omega,by omega,by omega,by omega⟩;rw[aD rfl Tryz.func182 rfl rfl];simp[PSt,ht,hv,v0,we,hkid,hW,hkk,wn,hq,hm,w1];rw[aF];simp[hx1,he1,w0];rw[aF];simp[Pn.aW,Ex.aB,aG,Pn.aB,Pn.aA K,Ex.aA e1,PSt]
 ·obtain⟨x2,hx2,hy2,-⟩:=bC l q1 2 (by omega) (by omega) hl;obtain⟨x2a,x2b⟩:=hy2 (by omega)
  obtain⟨y2,rfl⟩:∃ y:Nat,x2=y:=⟨x2.toNat,by omega⟩
  have hc2:jR y2≤9:=by rcases(show y2=0∨y2=1 by omega)with h|h<;>simp[h,jR]
  obtain⟨e2,q2,he2,c2a,c2b,c2c⟩:=rE l hl W y2 (by omega) (by omega) (q1+1) (by omega) (by omega);rw[Ex.aA e2]at he2;have t2:=Ex.bF e2 (by omega);refine⟨.mk 3 0 [e1,e2] [] [K],q2,u1,j1,?_,Th.one (by simp[Pn.thin,Pn.fT,hK,t1,t2]) hKB,by omega,by omega,by omega,by omega,by omega⟩;rw[aD rfl Tryz.func182 rfl rfl];simp[PSt,ht,hv,v0,we,hkid,hW,hkk,wn,hq,hm,w2];rw[aF];simp[hx1,he1,w1];rw[aF];simp[hx2,he2,w0];rw[aF];simp[Pn.aW,Ex.aB,aG,Pn.aB,Pn.aA K,Ex.aA e1,Ex.aA e2,PSt]
end Go.Proofs.YtjdfjgmebalaaaaGreat.P

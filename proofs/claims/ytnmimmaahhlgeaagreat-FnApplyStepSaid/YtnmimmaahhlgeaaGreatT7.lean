/- Part 7 of what the proof rests on: the executor and what it is worth, and the program's functions as it runs them. No condition. -/
import Derived.Test.YtnmimmaahhlgeaaGreatT6
import Derived.Shelf.SlSortCmp.NoneTotal
import Derived.Shelf.Spec.SlicesGrow
import Derived.Ground.SlsfProg
set_option linter.unusedVariables false
set_option linter.unusedSimpArgs false
namespace Go.Proofs.YtnmimmaahhlgeaaGreat
open Go Go.Av
set_option maxRecDepth 4000
set_option maxHeartbeats 8000000
def INX (l:List (List Val)) (kb:Option Blk) (N a b:Nat) (i:Int) (n9:Nat) (j:Int) (n34:Nat) (c34:Bool) (g:AV):AS :=
 { env:=[(0, .osl 0 1 0 N),(1, .int a),(2, .int b),(3, .fn (.func 184) [.own 1 0]),(8, .int i),(9,jk n9 (.int j)),(14,g),(34,jk n34 (.bool c34))],st:=[some (.arr 1 (aM l)),kb] }
theorem uK (P M S:List (List Val)) (cs:List Int) (N a b:Nat) (hP:P.length=a) (hb:b=a+M.length) (hN:N=P.length+M.length+S.length) (hs:N<1000000) (hcs:cs.length<1000000) (hr:∀ r∈M,∀ c∈cs,0≤c∧c<r.length) :
 ∃ M',aH C0 199 [.osl 0 1 0 N, .int a, .int b, .fn (.func 184) [.own 1 0]] [some (.arr 1 (aM (P++M++S))),some (.box [.i (.isl (aG cs))])]=some (.tup [],[some (.arr 1 (aM (P++M'++S))),some (.box [.i (.isl (aG cs))])])∧M'.Perm M∧jX cs M':=by
 rw[aD rfl Tryz.func199 rfl rfl];have wa:IntKind.i64.wrap ((a:Int)+1)=(a:Int)+1:=wrO;simp[wa];generalize hX:dD C0 _ _ (Code.loop _) _=X
 have key:∃ rr,X=some rr∧∃ (M':List (List Val)) (i:Int) (n9:Nat) (j:Int) (n34:Nat) (c34:Bool),rr=(.exit 0,INX (P++(M'++S)) (some (.box [.i (.isl (aG cs))])) N a b i n9 j n34 c34 (.bool false))∧M'.Perm M∧jX cs M':=by
  rw[← hX];by_cases hM:M=[]
  ·subst hM;refine lH (fun d St=>∃ (i:Int),St=INX (P++([]++S)) (some (.box [.i (.isl (aG cs))])) N a b i 0 0 0 true .junk∧i=a+1) ?_ 0 _ ⟨(a:Int)+1,by simp[INX],rfl⟩;rintro d St ⟨i,rfl,rfl⟩;right;refine⟨.exit 0,INX (P++([]++S)) (some (.box [.i (.isl (aG cs))])) N a b ((a:Int)+1) 0 0 0 true (.bool false),?_,by simp,[],_,0,0,0,true,rfl, .refl _, .nil⟩;have hbI:¬ (a:Int)+1<b:=by simp at hb;omega
   simp[INX,hbI]
  obtain⟨x0,M0,rfl⟩:=zE1 hM;refine lH (fun d St=>∃ (A B:List (List Val)) (n9:Nat) (j:Int) (n34:Nat) (c34:Bool) (g:AV),St=INX (P++(A++B++S)) (some (.box [.i (.isl (aG cs))])) N a b ((a+A.length:Nat):Int) n9 j n34 c34 g∧(g=.junk∨g=.bool true)∧0<A.length∧(A++B).Perm (x0::M0)∧jX cs A∧d=B.length) ?_ _ _ ⟨[x0],M0,0,0,0,true, .junk,by simp[INX], .inl rfl,by simp,by simp,by simp[jX],rfl⟩;rintro d St ⟨A,B,n9,j,n34,c34,g,rfl,hg,hA0,hp,hsA,hd⟩;have hlen:=hp.length_eq;simp only[zQ,zM]at hlen hb hN
  cases B with
  | nil =>
   right;have hbI:¬ ((a+A.length:Nat):Int)<b:=by simp at hlen;omega
   refine⟨.exit 0,INX (P++(A++S)) (some (.box [.i (.isl (aG cs))])) N a b ((a+A.length:Nat):Int) n9 j n34 c34 (.bool false),?_,by simp,A,_,n9,j,n34,c34,rfl,by simpa using hp,hsA⟩;have hbI':¬ (a:Int)+A.length<b:=by omega
   rcases hg with rfl|rfl<;>simp[INX,hbI']
  | cons x B =>
   left;simp only[zM]at hlen;have hltI:(a:Int)+A.length<b:=by omega
   have hxm:x∈x0::M0:=hp.mem_iff.1 (by simp);have w5:IntKind.i64.wrap ((a:Int)+A.length+1)=((a+(A.length+1):Nat):Int):=by rw[wrO];omega
   obtain⟨Q0,hQ⟩:∃ Q0:AS→Prop,∀ S1,Q0 S1↔∃ (A':List (List Val)) (n9:Nat) (j:Int) (n34:Nat) (c34:Bool),S1=INX (P++(A'++B++S)) (some (.box [.i (.isl (aG cs))])) N a b ((a+A'.length:Nat):Int) n9 j n34 c34 (.bool true)∧A'.length=A.length+1∧A'.Perm (x::A)∧jX cs A':=⟨fun S1=>_,fun S1=>Iff.rfl⟩
   refine F7 Q0 ?_ (fun S1 hS1=>by
    obtain⟨A',n9',j',n34',c34',rfl,e1,e2,e3⟩:=(hQ S1).1 hS1;refine⟨B.length,by rw[hd];simp,A',B,n9',j',n34',c34', .bool true,rfl, .inr rfl,by omega,?_,e3,rfl⟩;refine(e2.append_right B).trans (List.Perm.trans ?_ hp)
    exact(xC (l₁:=A)).symm)
   have hle:((a+A.length:Nat):Int)=(a:Int)+A.length:=by omega
   have body:∀ St,(St=INX (P++(A++x::B++S)) (some (.box [.i (.isl (aG cs))])) N a b ((a+A.length:Nat):Int) 1 ((a+A.length:Nat):Int) n34 c34 (.bool true))→True:=fun _ _=>trivial
   have inner:∀ {G:List Nat} {na:Nat} {bd:Code} (hround:∀ (A1 A2:List (List Val)) (n34:Nat) (c34:Bool),A1++A2=A→(A2=[]∨∃ y,A2.head?=some y∧LeK cs x y) →
    (∃ A1' y c,A1=A1'++[y]∧bR (aZ cs x) (aZ cs y)<0∧dD C0 G na bd (INX (P++(A1++x::A2++B++S)) (some (.box [.i (.isl (aG cs))])) N a b ((a+A.length:Nat):Int) 1 ((a+A1.length:Nat):Int) n34 c34 (.bool true))=some (.normal,INX (P++(A1'++x::(y::A2)++B++S)) (some (.box [.i (.isl (aG cs))])) N a b ((a+A.length:Nat):Int) 1 ((a+A1'.length:Nat):Int) 1 c (.bool true))) ∨
    ((A1=[]∨∃ y,A1.getLast?=some y∧LeK cs y x)∧dD C0 G na bd (INX (P++(A1++x::A2++B++S)) (some (.box [.i (.isl (aG cs))])) N a b ((a+A.length:Nat):Int) 1 ((a+A1.length:Nat):Int) n34 c34 (.bool true))=some (.exit 2,INX (P++(A1++x::A2++B++S)) (some (.box [.i (.isl (aG cs))])) N a b ((a+A.length:Nat):Int) 1 ((a+A1.length:Nat):Int) 1 false (.bool true)))),
    ∃ rr,dD C0 G na (.loop bd) (INX (P++(A++x::[]++B++S)) (some (.box [.i (.isl (aG cs))])) N a b ((a+A.length:Nat):Int) 1 ((a+A.length:Nat):Int) n34 c34 (.bool true))=some rr∧∃ (A':List (List Val)) (j:Int),rr=(.exit 2,INX (P++(A'++B++S)) (some (.box [.i (.isl (aG cs))])) N a b ((a+A.length:Nat):Int) 1 j 1 false (.bool true))∧A'.length=A.length+1∧A'.Perm (x::A)∧jX cs A':=by
    intro G na bd hround;refine lH (fun d St=>∃ (A1 A2:List (List Val)) (n34:Nat) (c34:Bool),St=INX (P++(A1++x::A2++B++S)) (some (.box [.i (.isl (aG cs))])) N a b ((a+A.length:Nat):Int) 1 ((a+A1.length:Nat):Int) n34 c34 (.bool true)∧A1++A2=A∧(A2=[]∨∃ y,A2.head?=some y∧LeK cs x y)∧d=A1.length) ?_ _ _ ⟨A,[],n34,c34,rfl,by simp, .inl rfl,rfl⟩;rintro d St ⟨A1,A2,n34,c34,rfl,e1,e2,e3⟩
    rcases hround A1 A2 n34 c34 e1 e2 with ⟨A1',y,c,rfl,hlt,hex⟩|⟨hge,hex⟩
    ·exact .inl ⟨_,A1'.length,hex,by rw[e3];simp,A1',y::A2,1,c,rfl,by rw[← e1];simp, .inr ⟨y,rfl,EE hlt⟩,rfl⟩
    ·refine .inr ⟨_,_,hex,by simp,A1++x::A2,_,rfl,by rw[← e1];simp;omega,by rw[← e1];exact xC,TA (by rw[e1];exact hsA) hge e2⟩
   rcases hg with rfl|rfl
   ·simp[INX,hltI];generalize hY:dD C0 _ _ (Code.loop _) _=Y;have e0:INX (P++(A++x::[]++B++S)) (some (.box [.i (.isl (aG cs))])) N a b ((a+A.length:Nat):Int) 1 ((a+A.length:Nat):Int) n34 c34 (.bool true)={ env:=[(0, .osl 0 1 0 N),(1, .int a),(2, .int b),(3, .fn (.func 184) [.own 1 0]),(8, .int ((a:Int)+A.length)),(9, .int ((a:Int)+A.length)),(14, .bool true),(34,jk n34 (.bool c34))],st:=[some (.arr 1 (aM (P++(A++x::(B++S))))),some (.box [.i (.isl (aG cs))])] }:=by simp[INX]
    have key2:∃ rr,Y=some rr∧∃ (A':List (List Val)) (j:Int),rr=(.exit 2,INX (P++(A'++B++S)) (some (.box [.i (.isl (aG cs))])) N a b ((a+A.length:Nat):Int) 1 j 1 false (.bool true))∧A'.length=A.length+1∧A'.Perm (x::A)∧jX cs A':=by
     rw[← hY,← e0];refine inner ?_;intro A1 A2 n34 c34 e1 e2;have hl1:A1.length+A2.length=A.length:=by rw[← e1];simp
     rcases zB7 A1 with rfl|⟨A1',y,rfl⟩
     ·right;refine⟨.inl rfl,?_⟩;simp[INX]
     ·have hrx:=hr x hxm;have hry:=hr y (hp.mem_iff.1 (by rw[← e1];simp));have hg:=FQ cs hcs x y hrx hry;have hl2:A1'.length+1+A2.length=A.length:=by simpa using hl1
      have hja:(a:Int)<a+(A1'.length+1):=by omega
      have hb0:0≤(a:Int)+(A1'.length+1):=by omega
      have hb1:(a:Int)+(A1'.length+1)<N:=by omega
      have hb2:0≤(a:Int)+A1'.length:=by omega
      have hb3:(a:Int)+A1'.length<N:=by omega
      have t1:((a:Int)+(A1'.length+1)).toNat=a+A1'.length+1:=by omega
      have t2:((a:Int)+A1'.length).toNat=a+A1'.length:=by omega
      have wj:IntKind.i64.wrap ((a:Int)+(A1'.length+1)-1)=(a:Int)+A1'.length:=by rw[wrO];omega
      have eL:P++(A1'++y::x::(A2++(B++S)))=(P++A1')++y::x::(A2++(B++S)):=by simp
      have eL1:P++(A1'++y::x::(A2++(B++S)))=(P++A1'++[y])++x::(A2++(B++S)):=by simp
      have nx:fH (aM (P++(A1'++y::x::(A2++(B++S))))) (a+A1'.length+1)=some [.isl (aP x)]:=by rw[dL,eL1];simp only[aM,zH];rw[kC _ _ _ (by simp;omega)];rfl
      have ny:fH (aM (P++(A1'++y::x::(A2++(B++S))))) (a+A1'.length)=some [.isl (aP y)]:=by rw[dL,eL];simp only[aM,zH];rw[kC _ _ _ (by simp;omega)];rfl
      have sw1:(aM (P++(A1'++y::x::(A2++(B++S))))).set (a+A1'.length+1) [.isl (aP y)]=aM (P++(A1'++y::y::(A2++(B++S)))):=by rw[jE,eL1,set_mid _ _ _ _ (by simp;omega)];simp
      have ny2:fH (aM (P++(A1'++y::y::(A2++(B++S))))) (a+A1'.length)=some [.isl (aP y)]:=by
       have:P++(A1'++y::y::(A2++(B++S)))=(P++A1')++y::(y::(A2++(B++S))):=by simp
       rw[dL,this];simp only[aM,zH];rw[kC _ _ _ (by simp;omega)];rfl
      have sw2:(aM (P++(A1'++y::y::(A2++(B++S))))).set (a+A1'.length) [.isl (aP x)]=aM (P++(A1'++x::y::(A2++(B++S)))):=by
       have:P++(A1'++y::y::(A2++(B++S)))=(P++A1')++y::(y::(A2++(B++S))):=by simp
       rw[jE,this,set_mid _ _ _ _ (by simp;omega)];simp
      by_cases hlt:bR (aZ cs x) (aZ cs y)<0
      ·left;refine⟨A1',y,true,by simp,hlt,?_⟩;simp[INX,hja,hb0,hb1,hb2,hb3,t1,t2,wj,nx,ny,ny2,hg,hlt,sw1,sw2]
      ·right;refine⟨.inr ⟨y,by simp,sD hlt⟩,?_⟩;simp[INX,hja,hb0,hb1,hb2,hb3,t1,t2,wj,nx,ny,hg,hlt]
    obtain⟨rr,rfl,A',j',rfl,k1,k2,k3⟩:=key2;simp[INX,w5];rw[hQ];refine⟨A',1,j',1,false,?_,k1,k2,k3⟩;simp[INX,k1,w5]
   ·simp[INX,hltI];generalize hY:dD C0 _ _ (Code.loop _) _=Y;have e0:INX (P++(A++x::[]++B++S)) (some (.box [.i (.isl (aG cs))])) N a b ((a+A.length:Nat):Int) 1 ((a+A.length:Nat):Int) n34 c34 (.bool true)={ env:=[(0, .osl 0 1 0 N),(1, .int a),(2, .int b),(3, .fn (.func 184) [.own 1 0]),(8, .int ((a:Int)+A.length)),(9, .int ((a:Int)+A.length)),(14, .bool true),(34,jk n34 (.bool c34))],st:=[some (.arr 1 (aM (P++(A++x::(B++S))))),some (.box [.i (.isl (aG cs))])] }:=by simp[INX]
    have key2:∃ rr,Y=some rr∧∃ (A':List (List Val)) (j:Int),rr=(.exit 2,INX (P++(A'++B++S)) (some (.box [.i (.isl (aG cs))])) N a b ((a+A.length:Nat):Int) 1 j 1 false (.bool true))∧A'.length=A.length+1∧A'.Perm (x::A)∧jX cs A':=by
     rw[← hY,← e0];refine inner ?_;intro A1 A2 n34 c34 e1 e2;have hl1:A1.length+A2.length=A.length:=by rw[← e1];simp
     rcases zB7 A1 with rfl|⟨A1',y,rfl⟩
     ·right;refine⟨.inl rfl,?_⟩;simp[INX]
     ·have hrx:=hr x hxm;have hry:=hr y (hp.mem_iff.1 (by rw[← e1];simp));have hg:=FQ cs hcs x y hrx hry;have hl2:A1'.length+1+A2.length=A.length:=by simpa using hl1
      have hja:(a:Int)<a+(A1'.length+1):=by omega
      have hb0:0≤(a:Int)+(A1'.length+1):=by omega
      have hb1:(a:Int)+(A1'.length+1)<N:=by omega
      have hb2:0≤(a:Int)+A1'.length:=by omega
      have hb3:(a:Int)+A1'.length<N:=by omega
      have t1:((a:Int)+(A1'.length+1)).toNat=a+A1'.length+1:=by omega
      have t2:((a:Int)+A1'.length).toNat=a+A1'.length:=by omega
      have wj:IntKind.i64.wrap ((a:Int)+(A1'.length+1)-1)=(a:Int)+A1'.length:=by rw[wrO];omega
      have eL:P++(A1'++y::x::(A2++(B++S)))=(P++A1')++y::x::(A2++(B++S)):=by simp
      have eL1:P++(A1'++y::x::(A2++(B++S)))=(P++A1'++[y])++x::(A2++(B++S)):=by simp
      have nx:fH (aM (P++(A1'++y::x::(A2++(B++S))))) (a+A1'.length+1)=some [.isl (aP x)]:=by rw[dL,eL1];simp only[aM,zH];rw[kC _ _ _ (by simp;omega)];rfl
      have ny:fH (aM (P++(A1'++y::x::(A2++(B++S))))) (a+A1'.length)=some [.isl (aP y)]:=by rw[dL,eL];simp only[aM,zH];rw[kC _ _ _ (by simp;omega)];rfl
      have sw1:(aM (P++(A1'++y::x::(A2++(B++S))))).set (a+A1'.length+1) [.isl (aP y)]=aM (P++(A1'++y::y::(A2++(B++S)))):=by rw[jE,eL1,set_mid _ _ _ _ (by simp;omega)];simp
      have ny2:fH (aM (P++(A1'++y::y::(A2++(B++S))))) (a+A1'.length)=some [.isl (aP y)]:=by
       have:P++(A1'++y::y::(A2++(B++S)))=(P++A1')++y::(y::(A2++(B++S))):=by simp
       rw[dL,this];simp only[aM,zH];rw[kC _ _ _ (by simp;omega)];rfl
      have sw2:(aM (P++(A1'++y::y::(A2++(B++S))))).set (a+A1'.length) [.isl (aP x)]=aM (P++(A1'++x::y::(A2++(B++S)))):=by
       have:P++(A1'++y::y::(A2++(B++S)))=(P++A1')++y::(y::(A2++(B++S))):=by simp
       rw[jE,this,set_mid _ _ _ _ (by simp;omega)];simp
      by_cases hlt:bR (aZ cs x) (aZ cs y)<0
      ·left;refine⟨A1',y,true,by simp,hlt,?_⟩;simp[INX,hja,hb0,hb1,hb2,hb3,t1,t2,wj,nx,ny,ny2,hg,hlt,sw1,sw2]
      ·right;refine⟨.inr ⟨y,by simp,sD hlt⟩,?_⟩;simp[INX,hja,hb0,hb1,hb2,hb3,t1,t2,wj,nx,ny,hg,hlt]
    obtain⟨rr,rfl,A',j',rfl,k1,k2,k3⟩:=key2;simp[INX,w5];rw[hQ];refine⟨A',1,j',1,false,?_,k1,k2,k3⟩;simp[INX,k1,w5]
 obtain⟨rr,rfl,M',i,n9,j,n34,c34,rfl,k1,k2⟩:=key;refine⟨M',?_,k1,k2⟩;simp[INX]
theorem AP1 {i j:Nat} (h:i+j<4000000):IntKind.i64.wrap ((IntKind.u64.wrap (IntKind.i64.wrap ((i:Int)+j))).fdiv (2 ^ min 1 IntKind.u64.bits))=(((i+j) / 2:Nat):Int):=by
 have h1:IntKind.u64.wrap ((i:Int)+j)=((i+j:Nat):Int):=by
  simp only[IntKind.wrap,IntKind.bits,IntKind.signed];simp;omega
 have h2:(2:Int) ^ min 1 IntKind.u64.bits=2:=by decide
 have h3:(((i+j:Nat):Int)).fdiv 2=(((i+j) / 2:Nat):Int):=by
  rw[Int.fdiv_eq_ediv_of_nonneg _ (by omega)];omega
 rw[show IntKind.i64.wrap ((i:Int)+j)=(i:Int)+j from wrO,h1,h2,h3,wrO]
def M1X (l:List (List Val)) (kb:Option Blk) (N a b:Nat) (i j:Int) (n12:Nat) (h12:Int) (n33:Nat) (c33:Bool) (n50:Nat) (c50:Bool):AS :=
 { env:=[(0, .osl 0 1 0 N),(1, .int a),(2, .int ((a:Int)+1)),(3, .int b),(4, .fn (.func 184) [.own 1 0]),(10, .int i),(11, .int j),(12,jk n12 (.int h12)),(13, .junk),(14, .junk),(15, .junk),(16, .junk),(17, .junk),(18, .junk),(19, .junk),(20, .junk),(21, .junk),(22, .junk),(23, .junk),(24, .junk),(28, .bool true),(33,jk n33 (.bool c33)),(50,jk n50 (.bool c50)),(58, .junk),(80, .junk),(85, .junk),(103, .junk),(110, .junk),(140, .junk),(151, .junk),(171, .junk),(185, .junk),(199, .junk),(213, .junk)],st:=[some (.arr 1 (aM l)),kb] }
def M1Y (P V S:List (List Val)) (x:List Val) (kb:Option Blk) (N a b p:Nat) (n12:Nat) (h12:Int) (n50:Nat) (c50:Bool) (t:Nat):AS :=
 { env:=[(0, .osl 0 1 0 N),(1, .int a),(2, .int ((a:Int)+1)),(3, .int b),(4, .fn (.func 184) [.own 1 0]),(10, .int ((a:Int)+1+p)),(11, .int ((a:Int)+1+p)),(12,jk n12 (.int h12)),(13, .int ((a:Int)+t)),(14, .junk),(15, .junk),(16, .junk),(17, .junk),(18, .junk),(19, .junk),(20, .junk),(21, .junk),(22, .junk),(23, .junk),(24, .junk),(28, .bool true),(33, .bool false),(50,jk n50 (.bool c50)),(58,jk t (.bool true)),(80, .junk),(85, .junk),(103, .junk),(110, .junk),(140, .junk),(151, .junk),(171, .junk),(185, .junk),(199, .junk),(213, .junk)],st:=[some (.arr 1 (aM (P++(V.take t++x::(V.drop t++S))))),kb] }
theorem AID (P V S:List (List Val)) (x:List Val) (cs:List Int) (N a b:Nat) (hP:P.length=a) (hb:b=a+1+V.length) (hN:N=P.length+1+V.length+S.length) (hs:N<1000000) (hcs:cs.length<1000000) (hsV:jX cs V) (hrx:∀ c∈cs,0≤c∧c<x.length) (hr:∀ r∈V,∀ c∈cs,0≤c∧c<r.length) :
 ∃ M',aH C0 215 [.osl 0 1 0 N, .int a, .int ((a:Int)+1), .int b, .fn (.func 184) [.own 1 0]] [some (.arr 1 (aM (P++[x]++V++S))),some (.box [.i (.isl (aG cs))])]=some (.tup [],[some (.arr 1 (aM (P++M'++S))),some (.box [.i (.isl (aG cs))])])∧M'.Perm (x::V)∧jX cs M':=by
 rw[aD rfl Tryz.func215 rfl rfl];have w1:IntKind.i64.wrap ((a:Int)+1-a)=1:=by rw[wrO];omega
 simp[w1];generalize hX:dD C0 _ _ (Code.loop _) _=X
 have key:∃ rr,X=some rr∧∃ (p:Nat) (n12:Nat) (h12:Int) (n50:Nat) (c50:Bool),rr=(.exit 0,M1X (P++x::(V++S)) (some (.box [.i (.isl (aG cs))])) N a b ((a+1+p:Nat):Int) ((a+1+p:Nat):Int) n12 h12 1 false n50 c50)∧p≤V.length∧(p=0∨∃ y,V[p-1]?=some y∧LeK cs y x)∧(p=V.length∨∃ y,V[p]?=some y∧LeK cs x y):=by
  rw[← hX];refine lH (fun d St=>∃ (p q:Nat) (n12:Nat) (h12:Int) (n33 n50:Nat) (c33 c50:Bool),St=M1X (P++x::(V++S)) (some (.box [.i (.isl (aG cs))])) N a b ((a+1+p:Nat):Int) ((a+1+q:Nat):Int) n12 h12 n33 c33 n50 c50∧p≤q∧q≤V.length∧d=q-p∧(p=0∨∃ y,V[p-1]?=some y∧LeK cs y x)∧(q=V.length∨∃ y,V[q]?=some y∧LeK cs x y)) ?_ _ _ ⟨0,V.length,0,0,0,0,true,true,by simp[M1X,hb],by omega,by omega,rfl, .inl rfl, .inl rfl⟩;rintro d St ⟨p,q,n12,h12,n33,n50,c33,c50,rfl,h1,h2,hd,k1,k2⟩;by_cases hij:p<q
  ·left;have mm:=AP1 (i:=a+1+p) (j:=a+1+q) (by omega)
   obtain⟨h,hh,hph,hhq⟩:∃ h,(a+1+p+(a+1+q)) / 2=a+1+h∧p≤h∧h<q:=⟨(a+1+p+(a+1+q)) / 2-(a+1),by omega,by omega,by omega⟩
   rw[hh]at mm
   obtain⟨z,hz⟩:∃ z,V[h]?=some z:=⟨_,zX (by omega)⟩
   have hrz:=hr z (zV hz);have hg:=FQ cs hcs z x hrz hrx
   obtain⟨Q0,hQ⟩:∃ Q0:AS→Prop,∀ S1,Q0 S1↔∃ (p' q':Nat) (c50:Bool),S1=M1X (P++x::(V++S)) (some (.box [.i (.isl (aG cs))])) N a b ((a+1+p':Nat):Int) ((a+1+q':Nat):Int) 1 ((a+1+h:Nat):Int) 1 true 1 c50∧p'≤q'∧q'≤V.length∧q'-p'<q-p∧(p'=0∨∃ y,V[p'-1]?=some y∧LeK cs y x)∧(q'=V.length∨∃ y,V[q']?=some y∧LeK cs x y):=⟨fun S1=>_,fun S1=>Iff.rfl⟩
   refine F7 Q0 ?_ (fun S1 hS1=>by
    obtain⟨p',q',c50',rfl,e1,e2,e3,e4,e5⟩:=(hQ S1).1 hS1
    exact⟨q'-p',by omega,p',q',_,_,_,_,_,_,rfl,e1,e2,rfl,e4,e5⟩)
   have hiI:((a+1+p:Nat):Int)<((a+1+q:Nat):Int):=by omega
   have hh0:(0:Int)≤((a+1+h:Nat):Int):=by omega
   have hh1:((a+1+h:Nat):Int)<N:=by omega
   have ha0:(a:Int)<N:=by omega
   have hw:IntKind.i64.wrap (((a+1+h:Nat):Int)+1)=((a+1+(h+1):Nat):Int):=by rw[wrO];omega
   have hzz:fH (aM (P++x::(V++S))) (a+1+h)=some [.isl (aP z)]:=by
    have e:P++x::(V++S)=(P++[x])++(V++S):=by simp
    rw[dL,e];simp only[aM,zH];rw[zN (by simp;omega),zL (by simp;omega)];have:a+1+h-(P++[x]).length=h:=by simp;omega
    rw[this,hz];rfl
   have hx0:fH (aM (P++x::(V++S))) a=some [.isl (aP x)]:=by rw[dL];simp only[aM,zH];rw[kC _ _ _ (by omega)];rfl
   generalize hI:((a+1+p:Nat):Int)=I at *
   generalize hJ:((a+1+q:Nat):Int)=J at *
   generalize hH:a+1+h=H at *
   by_cases hlt:bR (aZ cs z) (aZ cs x)<0
   ·refine⟨M1X (P++x::(V++S)) (some (.box [.i (.isl (aG cs))])) N a b ((a+1+(h+1):Nat):Int) J 1 (H:Int) 1 true 1 true,?_,(hQ _).2 ⟨h+1,q,true,by rw[hJ],by omega,by omega,by omega, .inr ⟨z,by simpa using hz,EE hlt⟩,k2⟩⟩;simp[M1X,hiI,mm,hh0,hh1,ha0,hzz,hx0,hg,hlt,hw]
   ·refine⟨M1X (P++x::(V++S)) (some (.box [.i (.isl (aG cs))])) N a b I (H:Int) 1 (H:Int) 1 true 1 false,?_,(hQ _).2 ⟨p,h,false,by rw[hI,hH],by omega,by omega,by omega,k1, .inr ⟨z,hz,sD hlt⟩⟩⟩;simp[M1X,hiI,mm,hh0,hh1,ha0,hzz,hx0,hg,hlt,hw]
  ·right;have hpq:p=q:=by omega
   subst hpq;refine⟨.exit 0,M1X (P++x::(V++S)) (some (.box [.i (.isl (aG cs))])) N a b ((a+1+p:Nat):Int) ((a+1+p:Nat):Int) n12 h12 1 false n50 c50,?_,by simp,p,n12,h12,n50,c50,rfl,h2,k1,k2⟩;simp[M1X]
 obtain⟨rr,rfl,p,n12,h12,n50,c50,rfl,hp,k1,k2⟩:=key;simp[M1X];rw[aT (M1Y P V S x (some (.box [.i (.isl (aG cs))])) N a b p n12 h12 n50 c50) p (by simp[M1Y])]
 ·have wp:IntKind.i64.wrap ((a:Int)+1+p-1)=(a:Int)+p:=by rw[wrO];omega
  rw[aF];simp[M1Y,wp];refine⟨V.take p++x::V.drop p,by simp,?_,TA (by simpa using hsV) ?_ ?_⟩
  ·exact(xC).trans (by simp)
  ·rcases k1 with rfl|⟨y,e1,e2⟩
   ·exact .inl (by simp)
   ·by_cases hp0:p=0
    ·exact .inl (by simp[hp0])
    ·exact .inr ⟨y,by rw[zB2,if_neg hp0,e1];rfl,e2⟩
  ·rcases k2 with rfl|⟨y,e1,e2⟩
   ·exact .inl (by simp)
   ·exact .inr ⟨y,by rw[zH0,e1],e2⟩
 ·intro t ht
  obtain⟨y,hy⟩:∃ y,V[t]?=some y:=⟨_,zX (by omega)⟩
  have hd:V.drop t=y::V.drop (t+1):=by rw[yA (by omega)];congr 1;exact Option.some.inj (by rw[← List.getElem?_eq_getElem];exact hy)
  have htk:V.take (t+1)=V.take t++[y]:=by rw[zF3,hy];rfl
  have ltk:(V.take t).length=t:=by simp;omega
  have wp:IntKind.i64.wrap ((a:Int)+1+p-1)=(a:Int)+p:=by rw[wrO];omega
  have b0:0≤(a:Int)+t:=by omega
  have b1:(a:Int)+t<N:=by omega
  have b2:0≤(a:Int)+(t+1):=by omega
  have b3:(a:Int)+(t+1)<N:=by omega
  have wt:IntKind.i64.wrap ((a:Int)+t+1)=(a:Int)+(t+1):=by rw[wrO];omega
  have t1:((a:Int)+(t+1)).toNat=a+t+1:=by omega
  have t2:((a:Int)+t).toNat=a+t:=by omega
  generalize hA:V.take t=A at *
  generalize hB:V.drop (t+1)=B at *
  have eL:∀ u v:List Val,P++(A++u::v::(B++S))=(P++A)++u::v::(B++S):=by simp
  have eL1:∀ u v:List Val,P++(A++u::v::(B++S))=(P++A++[u])++v::(B++S):=by simp
  have nx:∀ u v:List Val,fH (aM (P++(A++u::v::(B++S)))) (a+t)=some [.isl (aP u)]:=by intro u v;rw[dL,eL];simp only[aM,zH];rw[kC _ _ _ (by simp;omega)];rfl
  have ny:∀ u v:List Val,fH (aM (P++(A++u::v::(B++S)))) (a+t+1)=some [.isl (aP v)]:=by intro u v;rw[dL,eL1];simp only[aM,zH];rw[kC _ _ _ (by simp;omega)];rfl
  have sx:∀ u v w:List Val,(aM (P++(A++u::v::(B++S)))).set (a+t) [.isl (aP w)]=aM (P++(A++w::v::(B++S))):=by intro u v w;rw[jE,eL,set_mid _ _ _ _ (by simp;omega)];simp
  have sy:∀ u v w:List Val,(aM (P++(A++u::v::(B++S)))).set (a+t+1) [.isl (aP w)]=aM (P++(A++u::w::(B++S))):=by intro u v w;rw[jE,eL1,set_mid _ _ _ _ (by simp;omega)];simp
  simp[M1Y,wp,hd,htk,hA,hB,ht,b0,b1,b2,b3,wt,t1,t2,nx,ny,sx,sy]
end Go.Proofs.YtnmimmaahhlgeaaGreat
namespace Go.Av
theorem AaB {cs:List Int} {U V:List (List Val)} {p q:Nat} (hU:jX cs U) (hV:jX cs V) (hp:p≤U.length) (hq:q≤V.length)
 (h1:p=0∨q=V.length∨∃ x y,U[p-1]?=some x∧V[q]?=some y∧LeK cs x y) (h2:q=0∨p=U.length∨∃ x y,V[q-1]?=some x∧U[p]?=some y∧LeK cs x y) :
 ∀ x∈U.take p++V.take q,∀ y∈U.drop p++V.drop q,LeK cs x y:=by
 refine MG (by rwa [zC]) (by rwa [zC]) ?_ ?_
 ·rcases h1 with rfl|rfl|⟨x,y,e1,e2,e3⟩
  ·exact .inl (by simp)
  ·exact .inr (.inl (by simp))
  ·by_cases hp0:p=0
   ·exact .inl (by simp[hp0])
   ·exact .inr (.inr ⟨x,y,by rw[zB2,if_neg hp0,e1];rfl,by rw[zH0,e2],e3⟩)
 ·rcases h2 with rfl|rfl|⟨x,y,e1,e2,e3⟩
  ·exact .inl (by simp)
  ·exact .inr (.inl (by simp))
  ·by_cases hq0:q=0
   ·exact .inl (by simp[hq0])
   ·exact .inr (.inr ⟨x,y,by rw[zB2,if_neg hq0,e1];rfl,by rw[zH0,e2],e3⟩)
theorem ALR {cs:List Int} {U V M1 M2:List (List Val)} {p q:Nat} (h1:M1.Perm (U.take p++V.take q)) (h2:M2.Perm (U.drop p++V.drop q)) (s1:jX cs M1) (s2:jX cs M2) (h:∀ x∈U.take p++V.take q,∀ y∈U.drop p++V.drop q,LeK cs x y) :
 (M1++M2).Perm (U++V)∧jX cs (M1++M2):=by
 refine⟨(h1.append h2).trans ?_,ZV s1 s2 fun x hx y hy=>h x (h1.mem_iff.1 hx) y (h2.mem_iff.1 hy)⟩;have:U++V=U.take p++(U.drop p++(V.take q++V.drop q)):=by rw[zC,← List.append_assoc,zC]
 rw[this,zK];refine xR _ ?_;rw[← List.append_assoc,← List.append_assoc];exact List.Perm.append_right _ zB6
inductive Bk (cs:List Int) (k:Nat):List (List Val)→Prop
 | last {l:List (List Val)}:l.length≤k→jX cs l→Bk cs k l
 | cons {c l:List (List Val)}:c.length=k→jX cs c→Bk cs k l→Bk cs k (c++l)
theorem Bk.one {cs:List Int} {k:Nat} {l:List (List Val)} (h:Bk cs k l) (hl:l.length≤k):jX cs l:=by
 cases h with
 | last _ h=>exact h
 | @cons c l h1 h2 h3 =>
  have:l=[]:=zW.1 (by simp at hl;omega);subst this;simpa using h2
theorem Bk.two {cs:List Int} {k:Nat} {l:List (List Val)} (h:Bk cs k l) (hk:0<k) (h1:k<l.length):∃ c l',l=c++l'∧c.length=k∧jX cs c∧Bk cs k l':=by
 cases h with
 | last h2 _=>omega
 | @cons c l' h2 h3 h4=>exact⟨c,l',rfl,h2,h3,h4⟩
theorem Bk.pair {cs:List Int} {k:Nat} {l:List (List Val)} (h:Bk cs k l) (hk:0<k) (h1:2*k≤l.length):∃ c d l',l=c++(d++l')∧c.length=k∧d.length=k∧jX cs c∧jX cs d∧Bk cs k l':=by
 obtain⟨c,l',rfl,h2,h3,h4⟩:=h.two hk (by omega);have hl':k≤l'.length:=by simp at h1;omega
 cases h4 with
 | last h5 h6=>exact⟨c,l',[],by simp,h2,by omega,h3,h6, .last (by simp) (by simp[jX])⟩
 | @cons d l'' h5 h6 h7=>exact⟨c,d,l'',rfl,h2,h5,h3,h6,h7⟩
def Full (cs:List Int) (k:Nat) (A:List (List Val)):Prop:=∀ X,Bk cs k X→Bk cs k (A++X)
theorem Full.nil (cs:List Int) (k:Nat):Full cs k []:=fun X h=>h
theorem Full.snoc {cs:List Int} {k:Nat} {A c:List (List Val)} (h:Full cs k A) (hc:c.length=k) (hs:jX cs c):Full cs k (A++c):=fun X hX=>by
 rw[zK];exact h _ (.cons hc hs hX)
theorem jX.nil (cs:List Int):jX cs []:=by simp[jX]
end Go.Av
namespace Go.Proofs.YtnmimmaahhlgeaaGreat
open Go Go.Av
set_option maxRecDepth 4000
set_option maxHeartbeats 8000000
def M2X (l:List (List Val)) (kb:Option Blk) (N a m:Nat) (i j:Int) (n16:Nat) (h16:Int) (n85:Nat) (c85:Bool) (n103:Nat) (c103:Bool):AS :=
 { env:=[(0, .osl 0 1 0 N),(1, .int a),(2, .int m),(3, .int ((m:Int)+1)),(4, .fn (.func 184) [.own 1 0]),(10, .junk),(11, .junk),(12, .junk),(13, .junk),(14, .int i),(15, .int j),(16,jk n16 (.int h16)),(17, .junk),(18, .junk),(19, .junk),(20, .junk),(21, .junk),(22, .junk),(23, .junk),(24, .junk),(28, .bool false),(33, .junk),(50, .junk),(58, .junk),(80, .bool true),(85,jk n85 (.bool c85)),(103,jk n103 (.bool c103)),(110, .junk),(140, .junk),(151, .junk),(171, .junk),(185, .junk),(199, .junk),(213, .junk)],st:=[some (.arr 1 (aM l)),kb] }
def M2Y (P U S:List (List Val)) (x:List Val) (kb:Option Blk) (N a m p:Nat) (n16:Nat) (h16:Int) (n103:Nat) (c103:Bool) (t:Nat):AS :=
 { env:=[(0, .osl 0 1 0 N),(1, .int a),(2, .int m),(3, .int ((m:Int)+1)),(4, .fn (.func 184) [.own 1 0]),(10, .junk),(11, .junk),(12, .junk),(13, .junk),(14, .int ((a:Int)+p)),(15, .int ((a:Int)+p)),(16,jk n16 (.int h16)),(17, .int ((a:Int)+(U.length-t:Nat))),(18, .junk),(19, .junk),(20, .junk),(21, .junk),(22, .junk),(23, .junk),(24, .junk),(28, .bool false),(33, .junk),(50, .junk),(58, .junk),(80, .bool true),(85, .bool false),(103,jk n103 (.bool c103)),(110,jk t (.bool true)),(140, .junk),(151, .junk),(171, .junk),(185, .junk),(199, .junk),(213, .junk)],st:=[some (.arr 1 (aM (P++(U.take (U.length-t)++x::(U.drop (U.length-t)++S))))),kb] }
theorem AIC (P U S:List (List Val)) (x:List Val) (cs:List Int) (N a m:Nat) (hU1:U.length≠1) (hP:P.length=a) (hm:m=a+U.length) (hN:N=P.length+U.length+1+S.length) (hs:N<1000000) (hcs:cs.length<1000000) (hsU:jX cs U) (hrx:∀ c∈cs,0≤c∧c<x.length) (hr:∀ r∈U,∀ c∈cs,0≤c∧c<r.length) :
 ∃ M',aH C0 215 [.osl 0 1 0 N, .int a, .int m, .int ((m:Int)+1), .fn (.func 184) [.own 1 0]] [some (.arr 1 (aM (P++U++[x]++S))),some (.box [.i (.isl (aG cs))])]=some (.tup [],[some (.arr 1 (aM (P++M'++S))),some (.box [.i (.isl (aG cs))])])∧M'.Perm (x::U)∧jX cs M':=by
 rw[aD rfl Tryz.func215 rfl rfl];have w1:IntKind.i64.wrap ((m:Int)-a)=(U.length:Int):=by rw[wrO];omega
 have w2:IntKind.i64.wrap ((m:Int)+1-m)=1:=by rw[wrO];omega
 have hU1I:¬ (U.length:Int)=1:=by omega
 simp[w1,w2,hU1I,hU1];generalize hX:dD C0 _ _ (Code.loop _) _=X
 have key:∃ rr,X=some rr∧∃ (p:Nat) (n16:Nat) (h16:Int) (n103:Nat) (c103:Bool),rr=(.exit 4,M2X (P++(U++x::S)) (some (.box [.i (.isl (aG cs))])) N a m ((a+p:Nat):Int) ((a+p:Nat):Int) n16 h16 1 false n103 c103)∧p≤U.length∧(p=0∨∃ y,U[p-1]?=some y∧LeK cs y x)∧(p=U.length∨∃ y,U[p]?=some y∧LeK cs x y):=by
  rw[← hX];refine lH (fun d St=>∃ (p q:Nat) (n16:Nat) (h16:Int) (n85 n103:Nat) (c85 c103:Bool),St=M2X (P++(U++x::S)) (some (.box [.i (.isl (aG cs))])) N a m ((a+p:Nat):Int) ((a+q:Nat):Int) n16 h16 n85 c85 n103 c103∧p≤q∧q≤U.length∧d=q-p∧(p=0∨∃ y,U[p-1]?=some y∧LeK cs y x)∧(q=U.length∨∃ y,U[q]?=some y∧LeK cs x y)) ?_ _ _ ⟨0,U.length,0,0,0,0,true,true,by simp[M2X,hm,hU1,hU1I],by omega,by omega,rfl, .inl rfl, .inl rfl⟩;rintro d St ⟨p,q,n16,h16,n85,n103,c85,c103,rfl,h1,h2,hd,k1,k2⟩;by_cases hij:p<q
  ·left;have mm:=AP1 (i:=a+p) (j:=a+q) (by omega)
   obtain⟨h,hh,hph,hhq⟩:∃ h,(a+p+(a+q)) / 2=a+h∧p≤h∧h<q:=⟨(a+p+(a+q)) / 2-a,by omega,by omega,by omega⟩
   rw[hh]at mm
   obtain⟨z,hz⟩:∃ z,U[h]?=some z:=⟨_,zX (by omega)⟩
   have hrz:=hr z (zV hz);have hg:=FQ cs hcs x z hrx hrz
   obtain⟨Q0,hQ⟩:∃ Q0:AS→Prop,∀ S1,Q0 S1↔∃ (p' q':Nat) (c103:Bool),S1=M2X (P++(U++x::S)) (some (.box [.i (.isl (aG cs))])) N a m ((a+p':Nat):Int) ((a+q':Nat):Int) 1 ((a+h:Nat):Int) 1 true 1 c103∧p'≤q'∧q'≤U.length∧q'-p'<q-p∧(p'=0∨∃ y,U[p'-1]?=some y∧LeK cs y x)∧(q'=U.length∨∃ y,U[q']?=some y∧LeK cs x y):=⟨fun S1=>_,fun S1=>Iff.rfl⟩
   refine F7 Q0 ?_ (fun S1 hS1=>by
    obtain⟨p',q',c103',rfl,e1,e2,e3,e4,e5⟩:=(hQ S1).1 hS1
    exact⟨q'-p',by omega,p',q',_,_,_,_,_,_,rfl,e1,e2,rfl,e4,e5⟩)
   have hiI:((a+p:Nat):Int)<((a+q:Nat):Int):=by omega
   have hh0:(0:Int)≤((a+h:Nat):Int):=by omega
   have hh1:((a+h:Nat):Int)<N:=by omega
   have hm0:(m:Int)<N:=by omega
   have hw:IntKind.i64.wrap (((a+h:Nat):Int)+1)=((a+(h+1):Nat):Int):=by rw[wrO];omega
   have hzz:fH (aM (P++(U++x::S))) (a+h)=some [.isl (aP z)]:=by
    rw[dL];simp only[aM,zH];rw[zN (by omega),zL (by omega)];have:a+h-P.length=h:=by omega
    rw[this,hz];rfl
   have hx0:fH (aM (P++(U++x::S))) m=some [.isl (aP x)]:=by
    have e:P++(U++x::S)=(P++U)++x::S:=by simp
    rw[dL,e];simp only[aM,zH];rw[kC _ _ _ (by simp;omega)];rfl
   generalize hI:((a+p:Nat):Int)=I at *
   generalize hJ:((a+q:Nat):Int)=J at *
   generalize hH:a+h=H at *
   by_cases hlt:bR (aZ cs x) (aZ cs z)<0
   ·refine⟨M2X (P++(U++x::S)) (some (.box [.i (.isl (aG cs))])) N a m I (H:Int) 1 (H:Int) 1 true 1 false,?_,(hQ _).2 ⟨p,h,false,by rw[hI,hH],by omega,by omega,by omega,k1, .inr ⟨z,hz,EE hlt⟩⟩⟩;simp[M2X,hiI,mm,hh0,hh1,hm0,hzz,hx0,hg,hlt,hw]
   ·refine⟨M2X (P++(U++x::S)) (some (.box [.i (.isl (aG cs))])) N a m ((a+(h+1):Nat):Int) J 1 (H:Int) 1 true 1 true,?_,(hQ _).2 ⟨h+1,q,true,by rw[hJ],by omega,by omega,by omega, .inr ⟨z,by simpa using hz,sD hlt⟩,k2⟩⟩;simp[M2X,hiI,mm,hh0,hh1,hm0,hzz,hx0,hg,hlt,hw]
  ·right;have hpq:p=q:=by omega
   subst hpq;refine⟨.exit 4,M2X (P++(U++x::S)) (some (.box [.i (.isl (aG cs))])) N a m ((a+p:Nat):Int) ((a+p:Nat):Int) n16 h16 1 false n103 c103,?_,by simp,p,n16,h16,n103,c103,rfl,h2,k1,k2⟩;simp[M2X]
 obtain⟨rr,rfl,p,n16,h16,n103,c103,rfl,hp,k1,k2⟩:=key;simp[M2X];rw[aT (M2Y P U S x (some (.box [.i (.isl (aG cs))])) N a m p n16 h16 n103 c103) (U.length-p) (by simp[M2Y,hm])]
 ·have e1:U.length-(U.length-p)=p:=by omega
  rw[aF];simp[M2Y,e1];refine⟨U.take p++x::U.drop p,by simp,?_,TA (by simpa using hsU) ?_ ?_⟩
  ·exact(xC).trans (by simp)
  ·rcases k1 with rfl|⟨y,e1,e2⟩
   ·exact .inl (by simp)
   ·by_cases hp0:p=0
    ·exact .inl (by simp[hp0])
    ·exact .inr ⟨y,by rw[zB2,if_neg hp0,e1];rfl,e2⟩
  ·rcases k2 with rfl|⟨y,e1,e2⟩
   ·exact .inl (by simp)
   ·exact .inr ⟨y,by rw[zH0,e1],e2⟩
 ·intro t ht
  obtain⟨e,he,he2,hpe⟩:∃ e,U.length-t=e+1∧U.length-(t+1)=e∧p≤e:=⟨U.length-t-1,by omega,by omega,by omega⟩
  obtain⟨y,hy⟩:∃ y,U[e]?=some y:=⟨_,zX (by omega)⟩
  have hd:U.drop e=y::U.drop (e+1):=by rw[yA (by omega)];congr 1;exact Option.some.inj (by rw[← List.getElem?_eq_getElem];exact hy)
  have htk:U.take (e+1)=U.take e++[y]:=by rw[zF3,hy];rfl
  have ltk:(U.take e).length=e:=by simp;omega
  have b0:0≤(a:Int)+e:=by omega
  have b1:(a:Int)+e<N:=by omega
  have b2:0≤(a:Int)+(e+1):=by omega
  have b3:(a:Int)+(e+1)<N:=by omega
  have hlt:(a:Int)+p<(a:Int)+(e+1):=by omega
  have hlt2:(p:Int)<(e:Int)+1:=by omega
  have hlt3:p<e+1:=by omega
  have wt:IntKind.i64.wrap ((a:Int)+(e+1)-1)=(a:Int)+e:=by rw[wrO];omega
  have t1:((a:Int)+(e+1)).toNat=a+e+1:=by omega
  have t2:((a:Int)+e).toNat=a+e:=by omega
  generalize hA:U.take e=A at *
  generalize hB:U.drop (e+1)=B at *
  have eL:∀ u v:List Val,P++(A++u::v::(B++S))=(P++A)++u::v::(B++S):=by simp
  have eL1:∀ u v:List Val,P++(A++u::v::(B++S))=(P++A++[u])++v::(B++S):=by simp
  have nx:∀ u v:List Val,fH (aM (P++(A++u::v::(B++S)))) (a+e)=some [.isl (aP u)]:=by intro u v;rw[dL,eL];simp only[aM,zH];rw[kC _ _ _ (by simp;omega)];rfl
  have ny:∀ u v:List Val,fH (aM (P++(A++u::v::(B++S)))) (a+e+1)=some [.isl (aP v)]:=by intro u v;rw[dL,eL1];simp only[aM,zH];rw[kC _ _ _ (by simp;omega)];rfl
  have sx:∀ u v w:List Val,(aM (P++(A++u::v::(B++S)))).set (a+e) [.isl (aP w)]=aM (P++(A++w::v::(B++S))):=by intro u v w;rw[jE,eL,set_mid _ _ _ _ (by simp;omega)];simp
  have sy:∀ u v w:List Val,(aM (P++(A++u::v::(B++S)))).set (a+e+1) [.isl (aP w)]=aM (P++(A++u::w::(B++S))):=by intro u v w;rw[jE,eL1,set_mid _ _ _ _ (by simp;omega)];simp
  simp[M2Y,he,he2,hd,htk,hA,hB,hlt,hlt2,hlt3,b0,b1,b2,b3,wt,t1,t2,nx,ny,sx,sy]
def SMX (l:List (List Val)) (kb:Option Blk) (N a m b k:Nat) (i j:Int) (c140:Bool) (n23:Nat) (h23:Int) (n151:Nat) (c151:Bool) (n171:Nat) (c171:Bool):AS :=
 { env:=[(0, .osl 0 1 0 N),(1, .int a),(2, .int m),(3, .int b),(4, .fn (.func 184) [.own 1 0]),(10, .junk),(11, .junk),(12, .junk),(13, .junk),(14, .junk),(15, .junk),(16, .junk),(17, .junk),(18, .int ((a:Int)+k)),(19, .int ((a:Int)+k+m)),(20, .int i),(21, .int j),(22, .int ((a:Int)+k+m-1)),(23,jk n23 (.int h23)),(24, .junk),(28, .bool false),(33, .junk),(50, .junk),(58, .junk),(80, .bool false),(85, .junk),(103, .junk),(110, .junk),(140, .bool c140),(151,jk n151 (.bool c151)),(171,jk n171 (.bool c171)),(185, .junk),(199, .junk),(213, .junk)],st:=[some (.arr 1 (aM l)),kb] }
theorem AIP {P U V S:List (List Val)} {cs:List Int} {N a m b k lo hi:Nat} {c140:Bool} {kb:Option Blk} (hsU:jX cs U) (hsV:jX cs V) (hlh1:lo≤hi) (hlh2:hi≤U.length) (hlh3:hi≤k) (hlh4:k-lo≤V.length) (hlo:lo=0∨k-lo=V.length) (hhi:k-hi=0∨hi=U.length)
 {S0 : AS} {G:List Nat} {na:Nat} {bd:Code} (h0:S0=SMX (P++(U++(V++S))) kb N a m b k ((a+lo:Nat):Int) ((a+hi:Nat):Int) c140 0 0 0 true 0 true) (hround:∀ (p q:Nat) (n23 n151 n171:Nat) (h23:Int) (c151 c171:Bool),p<q→lo≤p→q≤hi→∃ h,p≤h∧h<q ∧
     ((bR (aZ cs ((V[k-1-h]?).getD [])) (aZ cs ((U[h]?).getD []))<0→dD C0 G na bd (SMX (P++(U++(V++S))) kb N a m b k ((a+p:Nat):Int) ((a+q:Nat):Int) c140 n23 h23 n151 c151 n171 c171)=some (.normal,SMX (P++(U++(V++S))) kb N a m b k ((a+p:Nat):Int) ((a+h:Nat):Int) c140 1 ((a+h:Nat):Int) 1 true 1 false)) ∧
     (¬ bR (aZ cs ((V[k-1-h]?).getD [])) (aZ cs ((U[h]?).getD []))<0→dD C0 G na bd (SMX (P++(U++(V++S))) kb N a m b k ((a+p:Nat):Int) ((a+q:Nat):Int) c140 n23 h23 n151 c151 n171 c171)=some (.normal,SMX (P++(U++(V++S))) kb N a m b k ((a+(h+1):Nat):Int) ((a+q:Nat):Int) c140 1 ((a+h:Nat):Int) 1 true 1 true))))
  (hlast:∀ (p:Nat) (n23 n151 n171:Nat) (h23:Int) (c151 c171:Bool),dD C0 G na bd (SMX (P++(U++(V++S))) kb N a m b k ((a+p:Nat):Int) ((a+p:Nat):Int) c140 n23 h23 n151 c151 n171 c171)=some (.exit 8,SMX (P++(U++(V++S))) kb N a m b k ((a+p:Nat):Int) ((a+p:Nat):Int) c140 n23 h23 1 false n171 c171)) :
  ∃ rr,dD C0 G na (.loop bd) S0=some rr∧∃ (p:Nat) (n23 n171:Nat) (h23:Int) (c171:Bool),rr=(.exit 8,SMX (P++(U++(V++S))) kb N a m b k ((a+p:Nat):Int) ((a+p:Nat):Int) c140 n23 h23 1 false n171 c171)∧p≤U.length∧p≤k∧k-p≤V.length ∧
    (∀ x∈U.take p++V.take (k-p),∀ y∈U.drop p++V.drop (k-p),LeK cs x y):=by
 subst h0;refine lH (fun d St=>∃ (p q:Nat) (n23 n151 n171:Nat) (h23:Int) (c151 c171:Bool),St=SMX (P++(U++(V++S))) kb N a m b k ((a+p:Nat):Int) ((a+q:Nat):Int) c140 n23 h23 n151 c151 n171 c171∧lo≤p∧p≤q∧q≤hi∧d=q-p∧(p=lo∨∃ x y,U[p-1]?=some x∧V[k-p]?=some y∧LeK cs x y)∧(q=hi∨∃ x y,V[k-q-1]?=some x∧U[q]?=some y∧LeK cs x y)) ?_ _ _ ⟨lo,hi,0,0,0,0,true,true,rfl,zJ _,hlh1,zJ _,rfl, .inl rfl, .inl rfl⟩;rintro d St ⟨p,q,n23,n151,n171,h23,c151,c171,rfl,h1,h2,h3,hd,k1,k2⟩;by_cases hij:p<q
 ·left;obtain⟨h,e1,e2,e3,e4⟩:=hround p q n23 n151 n171 h23 c151 c171 hij h1 h3;have hz:=zX (l:=U) (show h<U.length by omega);have hy:=zX (l:=V) (show k-1-h<V.length by omega);rw[hz,hy]at e3 e4;simp only[zA]at e3 e4;by_cases hlt:bR (aZ cs V[k-1-h]) (aZ cs U[h])<0
  ·exact⟨_,h-p,e3 hlt,by omega,p,h,_,_,_,_,_,_,rfl,h1,e1,by omega,rfl,k1, .inr ⟨_,_,by rw[show k-h-1=k-1-h by omega];exact hy,hz,EE hlt⟩⟩
  ·exact⟨_,q-(h+1),e4 hlt,by omega,h+1,q,_,_,_,_,_,_,rfl,by omega,by omega,h3,rfl, .inr ⟨_,_,by rw[Nat.add_sub_cancel];exact hz,by rw[show k-(h+1)=k-1-h by omega];exact hy,sD hlt⟩,k2⟩
 ·right;have hpq:p=q:=by omega
  subst hpq;refine⟨.exit 8,_,hlast p n23 n151 n171 h23 c151 c171,by simp,p,n23,n171,h23,c171,rfl,by omega,by omega,by omega,?_⟩;refine AaB hsU hsV (by omega) (by omega) ?_ ?_
  ·rcases k1 with e|⟨x,y,e1,e2,e3⟩
   ·subst e
    rcases hlo with e|e
    ·exact .inl e
    ·exact .inr (.inl e)
   ·exact .inr (.inr ⟨x,y,e1,e2,e3⟩)
  ·rcases k2 with e|⟨x,y,e1,e2,e3⟩
   ·subst e
    rcases hhi with e|e
    ·exact .inl e
    ·exact .inr (.inl e)
   ·exact .inr (.inr ⟨x,y,e1,e2,e3⟩)
theorem AOA {cs:List Int} {N:Nat} (hs:N<1000000) {d:Nat} (ih:∀ (P U V S:List (List Val)) (a m b:Nat),U.length+V.length≤d→U≠[]→V≠[]→P.length=a→m=a+U.length→b=m+V.length→N=P.length+U.length+V.length+S.length→jX cs U→jX cs V→(∀ r∈U++V,∀ c∈cs,0≤c∧c<r.length) →
 ∃ M',aH C0 215 [.osl 0 1 0 N, .int a, .int m, .int b, .fn (.func 184) [.own 1 0]] [some (.arr 1 (aM (P++(U++(V++S))))),some (.box [.i (.isl (aG cs))])]=some (.tup [],[some (.arr 1 (aM (P++(M'++S)))),some (.box [.i (.isl (aG cs))])])∧M'.Perm (U++V)∧jX cs M')
 {P U V S:List (List Val)} {a m b k p en:Nat} (hd:U.length+V.length≤d+1) (hU:2≤U.length) (hV:2≤V.length) (hP:P.length=a) (hm:m=a+U.length) (hb:b=m+V.length) (hN:N=P.length+U.length+V.length+S.length) (hsU:jX cs U) (hsV:jX cs V) (hr:∀ r∈U++V,∀ c∈cs,0≤c∧c<r.length)
 (hk:2*k≤U.length+V.length) (hk':U.length+V.length≤2*k+1) (hp1:p≤U.length) (hp2:p≤k) (hp3:k-p≤V.length) (hen:en=m+(k-p)) (hle:∀ x∈U.take p++V.take (k-p),∀ y∈U.drop p++V.drop (k-p),LeK cs x y) :
 ∃ L1 L2 M,((p<U.length∧0<k-p)→aH C0 222 [.osl 0 1 0 N, .int ((a:Int)+p), .int m, .int en, .fn (.func 184) [.own 1 0]] [some (.arr 1 (aM (P++(U++(V++S))))),some (.box [.i (.isl (aG cs))])]=some (.tup [],[some (.arr 1 (aM L1)),some (.box [.i (.isl (aG cs))])]))∧(¬ (p<U.length∧0<k-p)→P++(U++(V++S))=L1) ∧
   ((0<p∧p<k)→aH C0 215 [.osl 0 1 0 N, .int a, .int ((a:Int)+p), .int ((a:Int)+k), .fn (.func 184) [.own 1 0]] [some (.arr 1 (aM L1)),some (.box [.i (.isl (aG cs))])]=some (.tup [],[some (.arr 1 (aM L2)),some (.box [.i (.isl (aG cs))])]))∧(¬ (0<p∧p<k)→L1=L2) ∧
   ((p<U.length∧k-p<V.length)→aH C0 215 [.osl 0 1 0 N, .int ((a:Int)+k), .int en, .int b, .fn (.func 184) [.own 1 0]] [some (.arr 1 (aM L2)),some (.box [.i (.isl (aG cs))])]=some (.tup [],[some (.arr 1 (aM (P++(M++S)))),some (.box [.i (.isl (aG cs))])]))∧(¬ (p<U.length∧k-p<V.length)→L2=P++(M++S))∧M.Perm (U++V)∧jX cs M:=by
 have l1:(U.take p).length=p:=by simp;omega
 have l2:(V.take (k-p)).length=k-p:=by simp;omega
 have l3:(U.drop p).length=U.length-p:=by simp
 have l4:(V.drop (k-p)).length=V.length-(k-p):=by simp
 have hsU':jX cs (U.take p++U.drop p):=by rwa [zC]
 have hsV':jX cs (V.take (k-p)++V.drop (k-p)):=by rwa [zC]
 obtain⟨q1,q2,-⟩:=yC.1 hsU';obtain⟨q3,q4,-⟩:=yC.1 hsV'
 obtain⟨M1,f1,f2,f3,f4⟩:∃ M1,((0<p∧p<k)→aH C0 215 [.osl 0 1 0 N, .int a, .int ((a:Int)+p), .int ((a:Int)+k), .fn (.func 184) [.own 1 0]] [some (.arr 1 (aM (P++(U.take p++(V.take (k-p)++(U.drop p++(V.drop (k-p)++S))))))),some (.box [.i (.isl (aG cs))])]=some (.tup [],[some (.arr 1 (aM (P++(M1++(U.drop p++(V.drop (k-p)++S)))))),some (.box [.i (.isl (aG cs))])]))∧(¬ (0<p∧p<k)→M1=U.take p++V.take (k-p))∧M1.Perm (U.take p++V.take (k-p))∧jX cs M1:=by
  by_cases h:0<p∧p<k
  ·obtain⟨M1,e1,e2,e3⟩:=ih P (U.take p) (V.take (k-p)) (U.drop p++(V.drop (k-p)++S)) a (a+p) (a+k) (by omega) (fun e=>by rw[e]at l1;simp at l1;omega) (fun e=>by rw[e]at l2;simp at l2;omega) hP (by omega) (by omega) (by simp only[zQ];omega) q1 q3 (fun r hr'=>hr r (by
    rcases zT.1 hr' with h|h
    ·exact yD _ (zI h)
    ·exact xB _ (zI h)))
   exact⟨M1,fun _=>by simpa using e1,fun n=>absurd h n,e2,e3⟩
  ·refine⟨_,fun h'=>absurd h' h,fun _=>rfl, .refl _,?_⟩;by_cases h0:p=0
   ·subst h0;simpa using q3
   ·have:k-p=0:=by omega
    rw[this];simpa using q1
 have lM1:M1.length=k:=by rw[f3.length_eq,zQ,l1,l2];omega
 obtain⟨M2,f5,f6,f7,f8⟩:∃ M2,((p<U.length∧k-p<V.length)→aH C0 215 [.osl 0 1 0 N, .int ((a:Int)+k), .int en, .int b, .fn (.func 184) [.own 1 0]] [some (.arr 1 (aM (P++(M1++(U.drop p++(V.drop (k-p)++S)))))),some (.box [.i (.isl (aG cs))])]=some (.tup [],[some (.arr 1 (aM (P++(M1++(M2++S))))),some (.box [.i (.isl (aG cs))])]))∧(¬ (p<U.length∧k-p<V.length)→M2=U.drop p++V.drop (k-p))∧M2.Perm (U.drop p++V.drop (k-p))∧jX cs M2:=by
  by_cases h:p<U.length∧k-p<V.length
  ·obtain⟨M2,e1,e2,e3⟩:=ih (P++M1) (U.drop p) (V.drop (k-p)) S (a+k) en b (by omega) (fun e=>by rw[e]at l3;simp at l3;omega) (fun e=>by rw[e]at l4;simp at l4;omega) (by simp only[zQ];omega) (by omega) (by omega) (by simp only[zQ];omega) q2 q4 (fun r hr'=>hr r (by
    rcases zT.1 hr' with h|h
    ·exact yD _ (yO h)
    ·exact xB _ (yO h)))
   exact⟨M2,fun _=>by simpa using e1,fun n=>absurd h n,e2,e3⟩
  ·refine⟨_,fun h'=>absurd h' h,fun _=>rfl, .refl _,?_⟩;by_cases h0:p<U.length
   ·rw[xV (show V.length≤k-p by omega)];simpa using q2
   ·rw[xV (show U.length≤p by omega)];simpa using q4
 obtain⟨hfin1,hfin2⟩:=ALR f3 f7 f4 f8 hle
 have hrot:(p<U.length∧0<k-p)→aH C0 222 [.osl 0 1 0 N, .int ((a:Int)+p), .int m, .int en, .fn (.func 184) [.own 1 0]] [some (.arr 1 (aM (P++(U++(V++S))))),some (.box [.i (.isl (aG cs))])]=some (.tup [],[some (.arr 1 (aM (P++(U.take p++(V.take (k-p)++(U.drop p++(V.drop (k-p)++S))))))),some (.box [.i (.isl (aG cs))])]):=by
  intro h;have:=AJ0 (P++U.take p) (U.drop p) (V.take (k-p)) (V.drop (k-p)++S) cs 184 N (a+p) m en (fun e=>by rw[e]at l3;simp at l3;omega) (fun e=>by rw[e]at l2;simp at l2;omega) (by simp only[zQ];omega) (by omega) (by omega) (by simp only[zQ];omega) hs
  have e1:P++U.take p++U.drop p++V.take (k-p)++(V.drop (k-p)++S)=P++(U++(V++S)):=by
   rw[zK P,zC,zK,← List.append_assoc (V.take _),zC,zK]
  rw[e1]at this;simpa using this
 have hL:¬ (p<U.length∧0<k-p)→P++(U++(V++S))=P++(U.take p++(V.take (k-p)++(U.drop p++(V.drop (k-p)++S)))):=by
  intro h;by_cases h0:p<U.length
  ·have:k-p=0:=by omega
   rw[this];simp only[zF0,xW,List.drop_zero];rw[← List.append_assoc (U.take p),zC]
  ·rw[xV (show U.length≤p by omega),zZ (show U.length≤p by omega)];simp only[xW];rw[← List.append_assoc (V.take _),zC]
 refine⟨P++(U.take p++(V.take (k-p)++(U.drop p++(V.drop (k-p)++S)))),P++(M1++(U.drop p++(V.drop (k-p)++S))),M1++M2,hrot,hL,f1,fun h=>?_,fun h=>?_,fun h=>?_,hfin1,hfin2⟩
 ·rw[f2 h,zK]
 ·rw[f5 h,zK]
 ·rw[f6 h];simp only[zK]
theorem ATZ {P U V S:List (List Val)} {a h:Nat} {z:List Val} (hP:P.length=a) (hz:U[h]?=some z):fH (aM (P++(U++(V++S)))) (a+h)=some [.isl (aP z)]:=by
 have hl:=(zY.1 hz).1;rw[dL];simp only[aM,zH];rw[zN (by omega),zL (by omega),show a+h-P.length=h by omega,hz];rfl
theorem ATY {P U V S:List (List Val)} {a m h:Nat} {z:List Val} (hP:P.length=a) (hm:m=a+U.length) (hz:V[h]?=some z):fH (aM (P++(U++(V++S)))) (m+h)=some [.isl (aP z)]:=by
 have hl:=(zY.1 hz).1;rw[dL];simp only[aM,zH];rw[zN (by omega),zN (by omega),zL (by omega),show m+h-P.length-U.length=h by omega,hz];rfl
theorem ATX {N:Nat} {P U V S:List (List Val)} {a m b k p q:Nat} (hs:N<1000000) (hP:P.length=a) (hm:m=a+U.length) (hb:b=m+V.length) (hN:N=P.length+U.length+V.length+S.length) (hpq:p<q) (hqU:q≤U.length) (hqk:q≤k) (hpV:k-p≤V.length) :
 ∃ h,IntKind.i64.wrap ((IntKind.u64.wrap (IntKind.i64.wrap (((a+p:Nat):Int)+((a+q:Nat):Int)))).fdiv (2 ^ min 1 IntKind.u64.bits))=((a+h:Nat):Int)∧p≤h∧h<q∧(0:Int)≤((a+h:Nat):Int)∧((a+h:Nat):Int)<N∧(0:Int)≤((m+(k-1-h):Nat):Int)∧((m+(k-1-h):Nat):Int)<N∧((a+p:Nat):Int)<((a+q:Nat):Int) ∧
   IntKind.i64.wrap ((a:Int)+k+m-1-((a+h:Nat):Int))=((m+(k-1-h):Nat):Int)∧IntKind.i64.wrap (((a+h:Nat):Int)+1)=((a+(h+1):Nat):Int):=by
 have mm2:=AP1 (i:=a+p) (j:=a+q) (by omega)
 obtain⟨h,hh,hph,hhq⟩:∃ h,(a+p+(a+q)) / 2=a+h∧p≤h∧h<q:=⟨(a+p+(a+q)) / 2-a,by omega,by omega,by omega⟩
 rw[hh]at mm2;refine⟨h,mm2,hph,hhq,?_⟩;clear mm2 hh;refine⟨by omega,by omega,by omega,by omega,by omega,?_,?_⟩
 ·rw[wrO];omega
 ·rw[wrO];omega
theorem AOB {N:Nat} {P U V S:List (List Val)} {a m b k p en:Nat} (hs:N<1000000) (hP:P.length=a) (hm:m=a+U.length) (hb:b=m+V.length) (hN:N=P.length+U.length+V.length+S.length) (hp1:p≤U.length) (hp2:p≤k) (hp3:k-p≤V.length) (hen:en=m+(k-p)) (hk:2*k≤U.length+V.length) :
 IntKind.i64.wrap ((a:Int)+k+m-((a:Int)+p))=(en:Int)∧((p<U.length∧0<k-p)→((a:Int)+p<m∧m<en))∧(¬ (p<U.length∧0<k-p)→(¬ (a:Int)+p<m)∨((a:Int)+p<m∧¬ m<en)) ∧
  ((0<p∧p<k)→(0<p∧p<k))∧(¬ (0<p∧p<k)→(¬ 0<p)∨(0<p∧¬ p<k)) ∧
  ((p<U.length∧k-p<V.length)→((a:Int)+k<en∧en<b))∧(¬ (p<U.length∧k-p<V.length)→(¬ (a:Int)+k<en)∨((a:Int)+k<en∧¬ en<b)):=by
 refine⟨?_,fun h=>?_,fun h=>?_,fun h=>h,fun h=>?_,fun h=>?_,fun h=>?_⟩
 ·rw[wrO];omega
 all_goals omega
theorem GN (cs:List Int) (N:Nat) (hs:N<1000000) (hcs:cs.length<1000000) (d:Nat) (ih:∀ (P U V S:List (List Val)) (a m b:Nat),U.length+V.length≤d→U≠[]→V≠[]→P.length=a→m=a+U.length→b=m+V.length→N=P.length+U.length+V.length+S.length→jX cs U→jX cs V→(∀ r∈U++V,∀ c∈cs,0≤c∧c<r.length) →
 ∃ M',aH C0 215 [.osl 0 1 0 N, .int a, .int m, .int b, .fn (.func 184) [.own 1 0]] [some (.arr 1 (aM (P++(U++(V++S))))),some (.box [.i (.isl (aG cs))])]=some (.tup [],[some (.arr 1 (aM (P++(M'++S)))),some (.box [.i (.isl (aG cs))])])∧M'.Perm (U++V)∧jX cs M')
 (P U V S:List (List Val)) (a m b k lo hi:Nat) (c140:Bool) (hd:U.length+V.length≤d+1) (hU:2≤U.length) (hV:2≤V.length) (hP:P.length=a) (hm:m=a+U.length) (hb:b=m+V.length) (hN:N=P.length+U.length+V.length+S.length) (hsU:jX cs U) (hsV:jX cs V) (hr:∀ r∈U++V,∀ c∈cs,0≤c∧c<r.length)
 (hk:2*k≤U.length+V.length) (hk':U.length+V.length≤2*k+1) (hlh1:lo≤hi) (hlh2:hi≤U.length) (hlh3:hi≤k) (hlh4:k-lo≤V.length) (hlo:lo=0∨k-lo=V.length) (hhi:k-hi=0∨hi=U.length)
 (hc:(c140=true∧(a:Int)+k<m∧(a:Int)+k+m-b=(a:Int)+lo∧hi=k)∨(c140=false∧¬ (a:Int)+k<m∧lo=0∧m=a+hi)) :
 ∃ M',aH C0 215 [.osl 0 1 0 N, .int a, .int m, .int b, .fn (.func 184) [.own 1 0]] [some (.arr 1 (aM (P++(U++(V++S))))),some (.box [.i (.isl (aG cs))])]=some (.tup [],[some (.arr 1 (aM (P++(M'++S)))),some (.box [.i (.isl (aG cs))])])∧M'.Perm (U++V)∧jX cs M':=by
 have w1:IntKind.i64.wrap ((m:Int)-a)=(U.length:Int):=by rw[wrO];omega
 have w2:IntKind.i64.wrap ((b:Int)-m)=(V.length:Int):=by rw[wrO];omega
 have n1:¬ (U.length:Int)=1:=by omega
 have n1':¬ U.length=1:=by omega
 have n2:¬ (V.length:Int)=1:=by omega
 have n2':¬ V.length=1:=by omega
 have mm:=AP1 (i:=a) (j:=b) (by omega);rw[show(a+b) / 2=a+k by clear hc;omega]at mm;have w3:IntKind.i64.wrap ((a:Int)+k+m)=(a:Int)+k+m:=wrap64 (by clear hc mm;omega) (by clear hc mm;omega);have w4:IntKind.i64.wrap ((a:Int)+k+m-1)=(a:Int)+k+m-1:=wrap64 (by clear hc mm;omega) (by clear hc mm;omega);have w5:IntKind.i64.wrap ((a:Int)+k+m-b)=(a:Int)+k+m-b:=wrap64 (by clear hc mm;omega) (by clear hc mm;omega);rw[aD rfl Tryz.func215 rfl rfl]
 rcases hc with ⟨hc,gI,g3,g4⟩|⟨hc,gI,g3,g4⟩
 all_goals
  simp[w1,w2,n1,n1',n2,n2',mm,w3,w4,w5,gI];generalize hX:dD C0 _ _ (Code.loop _) _=X
  have key:∃ rr,X=some rr∧∃ (p:Nat) (n23 n171:Nat) (h23:Int) (c171:Bool),rr=(.exit 8,SMX (P++(U++(V++S))) (some (.box [.i (.isl (aG cs))])) N a m b k ((a+p:Nat):Int) ((a+p:Nat):Int) c140 n23 h23 1 false n171 c171)∧p≤U.length∧p≤k∧k-p≤V.length ∧
   (∀ x∈U.take p++V.take (k-p),∀ y∈U.drop p++V.drop (k-p),LeK cs x y):=by
   rw[← hX];clear mm w1 w2 w3 w4 w5 ih hX;refine AIP hsU hsV hlh1 hlh2 hlh3 hlh4 hlo hhi ?_ ?_ ?_
   ·first
    | (simp[SMX,hc,n1,n1',n2,n2',g3,g4];done)
    | (simp[SMX,hc,n1,n1',n2,n2',g3,← g4];done)
    | (simp[SMX,hc,n1,n1',n2,n2',g3];omega)
   ·intro p q n23 n151 n171 h23 c151 c171 hpq hp0 hq0;obtain⟨h,mm2,hph,hhq,hH0,hH1,hK0,hK1,hiI,wc,hw⟩:=ATX (N:=N) (P:=P) (U:=U) (V:=V) (S:=S) (a:=a) (m:=m) (b:=b) (k:=k) (p:=p) (q:=q) hs hP hm hb hN hpq (by omega) (by omega) (by omega);have hz:=zX (l:=U) (show h<U.length by omega);have hy:=zX (l:=V) (show k-1-h<V.length by omega);have hrz:=hr _ (yD _ (zV hz));have hry:=hr _ (xB _ (zV hy));refine⟨h,hph,hhq,?_⟩;rw[hz,hy];simp only[zA];have hzz:=ATZ (P:=P) (V:=V) (S:=S) hP hz;have hyy:=ATY (P:=P) (S:=S) hP hm hy;generalize U[h]=z at hz hrz hzz ⊢;generalize V[k-1-h]=y at hy hry hyy ⊢;have hg:=FQ cs hcs y z hry hrz;clear hz hy hrz hry hsU hsV hr;generalize ((a+p:Nat):Int)=I at *
    generalize ((a+q:Nat):Int)=J at *
    generalize ((a+(h+1):Nat):Int)=L at *
    generalize a+h=H at *
    generalize m+(k-1-h)=K at *
    refine⟨fun hlt=>?_,fun hlt=>?_⟩
    ·simp[SMX,hiI,mm2,wc,hH0,hH1,hK0,hK1,hzz,hyy,hg,hlt,hw]
    ·simp[SMX,hiI,mm2,wc,hH0,hH1,hK0,hK1,hzz,hyy,hg,hlt,hw]
   ·intro p n23 n151 n171 h23 c151 c171;simp[SMX]
  clear hX;obtain⟨rr,rfl,p,n23,n171,h23,c171,rfl,hp1,hp2,hp3,hle⟩:=key
  obtain⟨en,hen⟩:∃ en,en=m+(k-p):=⟨_,rfl⟩
  obtain⟨L1,L2,M,f1,f2,f3,f4,f5,f6,f7,f8⟩:=AOA hs ih hd hU hV hP hm hb hN hsU hsV hr hk hk' hp1 hp2 hp3 hen hle;refine⟨M,?_,f7,f8⟩;obtain⟨we,c1,c1',c2,c2',c3,c3'⟩:=AOB (N:=N) (P:=P) (U:=U) (V:=V) (S:=S) (a:=a) (m:=m) (b:=b) (k:=k) (p:=p) (en:=en) hs hP hm hb hN hp1 hp2 hp3 hen hk;clear ih hle hr hsU hsV mm w1 w2 w3 w4 w5 hlo hhi f7 f8;have hm2:0<U.length:=by omega
  have hV2:0<V.length:=by omega
  by_cases hA:p<U.length
  ·by_cases hB:0<k-p
   ·obtain⟨x1,y1⟩:=c1 ⟨hA,hB⟩;have y1':(m:Int)<en:=by omega
    have e1:=f1 ⟨hA,hB⟩;have pk:p<k:=by omega
    have pk':(p:Int)<k:=by omega
    have x2:(a:Int)+k<en:=by
     by_cases hq:k-p<V.length
     ·exact(c3 ⟨hA,hq⟩).1
     ·rcases c3' (fun h=>hq h.2)with h|h
      ·omega
      ·exact h.1
    clear f1 f2 c1 c1';by_cases hp:0<p
    ·have e2:=f3 ⟨hp,pk⟩;have hp':(0:Int)<p:=by omega
     have ap:(a:Int)<(a:Int)+p:=by omega
     have akp:(a:Int)+p<(a:Int)+k:=by omega
     by_cases hq:k-p<V.length
     ·have e3:=f5 ⟨hA,hq⟩;have z2:en<b:=(c3 ⟨hA,hq⟩).2 |> fun h=>by omega
      have z2':(en:Int)<b:=by omega
      simp[SMX,hc,we,x1,x2,y1,y1',hp,hp',ap,akp,pk,pk',e1,e2,e3,z2,z2']
     ·have e3:=f6 fun h=>hq h.2
      have z2:¬ en<b:=by rcases c3' (fun h=>hq h.2)with h|h<;>omega
      have z2':¬ (en:Int)<b:=by omega
      subst e3;simp[SMX,hc,we,x1,x2,y1,y1',hp,hp',ap,akp,pk,pk',e1,e2,z2,z2']
    ·have e2:=f4 fun h=>hp h.1
     have hp':¬ (0:Int)<p:=by omega
     have ap:¬ (a:Int)<(a:Int)+p:=by omega
     have akp:(a:Int)+p<(a:Int)+k:=by omega
     subst e2;by_cases hq:k-p<V.length
     ·have e3:=f5 ⟨hA,hq⟩;have z2:en<b:=(c3 ⟨hA,hq⟩).2 |> fun h=>by omega
      have z2':(en:Int)<b:=by omega
      simp[SMX,hc,we,x1,x2,y1,y1',hp,hp',ap,akp,e1,e3,z2,z2']
     ·have e3:=f6 fun h=>hq h.2
      have z2:¬ en<b:=by rcases c3' (fun h=>hq h.2)with h|h<;>omega
      have z2':¬ (en:Int)<b:=by omega
      subst e3;simp[SMX,hc,we,x1,x2,y1,y1',hp,hp',ap,akp,e1,z2,z2']
   ·have e1:=f2 fun h=>hB h.2
    have x1:(a:Int)+p<m:=by omega
    have y1:¬ m<en:=by omega
    have y1':¬ (m:Int)<en:=by omega
    have hp:0<p:=by omega
    have hp':(0:Int)<p:=by omega
    have ap:(a:Int)<(a:Int)+p:=by omega
    have akp:¬ (a:Int)+p<(a:Int)+k:=by omega
    have pk:¬ p<k:=by omega
    have pk':¬ (p:Int)<k:=by omega
    have e2:=f4 fun h=>pk h.2
    have e3:=f5 ⟨hA,by omega⟩;have x2:(a:Int)+k<en:=by omega
    have z2:en<b:=by omega
    have z2':(en:Int)<b:=by omega
    subst e2;rw[← e1]at e3;clear f1 f2 f3 f4 f5 f6 c1 c1' c2 c2' c3 c3';simp[SMX,hc,we,x1,x2,y1,y1',hp,hp',ap,akp,pk,pk',e3,z2,z2']
  ·have e1:=f2 fun h=>hA h.1
   have x1:¬ (a:Int)+p<m:=by omega
   have hp:0<p:=by omega
   have hp':(0:Int)<p:=by omega
   have ap:(a:Int)<(a:Int)+p:=by omega
   have x2:¬ (a:Int)+k<en:=by omega
   have e3:=f6 fun h=>hA h.1
   subst e3;subst e1;by_cases pk:p<k
   ·have pk':(p:Int)<k:=by omega
    have akp:(a:Int)+p<(a:Int)+k:=by omega
    have e2:=f3 ⟨hp,pk⟩;clear f1 f2 f3 f4 f5 f6 c1 c1' c2 c2' c3 c3';simp[SMX,hc,we,x1,x2,hp,hp',ap,akp,pk,pk',e2]
   ·have pk':¬ (p:Int)<k:=by omega
    have akp:¬ (a:Int)+p<(a:Int)+k:=by omega
    have e2:=f4 fun h=>pk h.2
    clear f1 f2 f3 f4 f5 f6 c1 c1' c2 c2' c3 c3';simp[SMX,hc,we,x1,x2,hp,hp',ap,akp,pk,pk',e2]
theorem JV (cs:List Int) (N:Nat) (hs:N<1000000) (hcs:cs.length<1000000):∀ (d:Nat) (P U V S:List (List Val)) (a m b:Nat),U.length+V.length≤d→U≠[]→V≠[]→P.length=a→m=a+U.length→b=m+V.length→N=P.length+U.length+V.length+S.length→jX cs U→jX cs V→(∀ r∈U++V,∀ c∈cs,0≤c∧c<r.length) →
 ∃ M',aH C0 215 [.osl 0 1 0 N, .int a, .int m, .int b, .fn (.func 184) [.own 1 0]] [some (.arr 1 (aM (P++(U++(V++S))))),some (.box [.i (.isl (aG cs))])]=some (.tup [],[some (.arr 1 (aM (P++(M'++S)))),some (.box [.i (.isl (aG cs))])])∧M'.Perm (U++V)∧jX cs M':=by
 intro d
 induction d with
 | zero=>intro P U V S a m b hd hU;exact absurd (zW.1 (by omega)) hU
 | succ d ih =>
  intro P U V S a m b hd hU hV hP hm hb hN hsU hsV hr;have hU0:=xX.2 hU;have hV0:=xX.2 hV;by_cases h1:U.length=1
  ·obtain⟨x,rfl⟩:=zF6.1 h1;obtain⟨M',e1,e2,e3⟩:=AID P V S x cs N a b hP (by simpa using by omega) (by simp at hN;omega) hs hcs hsV (hr x (by simp)) fun r hr'=>hr r (by simp[hr'])
   have:(m:Int)=(a:Int)+1:=by simp at hm;omega
   refine⟨M',?_,by simpa using e2,e3⟩;rw[this];simpa using e1
  by_cases h2:V.length=1
  ·obtain⟨x,rfl⟩:=zF6.1 h2;obtain⟨M',e1,e2,e3⟩:=AIC P U S x cs N a m h1 hP hm (by simp at hN;omega) hs hcs hsU (hr x (by simp)) fun r hr'=>hr r (by simp[hr'])
   have:(b:Int)=(m:Int)+1:=by simp at hb;omega
   refine⟨M',?_,e2.trans (by simpa using (zB6 (l₁:=[x]) (l₂:=U))),e3⟩;rw[this];simpa using e1
  obtain⟨k,hk,hk'⟩:∃ k,2*k≤U.length+V.length∧U.length+V.length≤2*k+1:=⟨(U.length+V.length) / 2,by omega,by omega⟩
  by_cases hgt:k<U.length
  ·exact GN cs N hs hcs d ih P U V S a m b k (k-V.length) k true hd (by omega) (by omega) hP hm hb hN hsU hsV hr hk hk' (by omega) (by omega) (by omega) (by omega) (by omega) (by omega) (.inl ⟨rfl,by omega,by omega,rfl⟩)
  ·exact GN cs N hs hcs d ih P U V S a m b k 0 U.length false hd (by omega) (by omega) hP hm hb hN hsU hsV hr hk hk' (by omega) (by omega) (by omega) (by omega) (by omega) (by omega) (.inr ⟨rfl,by omega,rfl,hm⟩)
def ST1 (l:List (List Val)) (kb:Option Blk) (N:Nat) (a:Nat) (g:AV):AS :=
 { env:=[(0, .osl 0 1 0 N),(1, .int N),(2, .fn (.func 184) [.own 1 0]),(6, .int 20),(7, .int a),(8, .int ((a:Int)+20)),(9, .junk),(13,g),(30, .junk),(35, .junk),(54, .junk)],st:=[some (.arr 1 (aM l)),kb] }
def ST2 (l:List (List Val)) (kb:Option Blk) (N:Nat) (k:Nat) (v7 v8 v9 v30 v35 v54:AV):AS :=
 { env:=[(0, .osl 0 1 0 N),(1, .int N),(2, .fn (.func 184) [.own 1 0]),(6, .int k),(7,v7),(8,v8),(9,v9),(13, .bool false),(30,v30),(35,v35),(54,v54)],st:=[some (.arr 1 (aM l)),kb] }
theorem AIK (rows:List (List Val)) (cs:List Int) (N:Nat) (hN:N=rows.length) (hs:N<1000000) (hcs:cs.length<1000000) (hr:∀ r∈rows,∀ c∈cs,0≤c∧c<r.length) :
 ∃ M',aH C0 198 [.osl 0 1 0 N, .int N, .fn (.func 184) [.own 1 0]] [some (.arr 1 (aM rows)),some (.box [.i (.isl (aG cs))])]=some (.tup [],[some (.arr 1 (aM M')),some (.box [.i (.isl (aG cs))])])∧M'.Perm rows∧jX cs M':=by
 rw[aD rfl Tryz.func198 rfl rfl];simp;generalize hX:dD C0 _ _ (Code.loop _) _=X
 have key:∃ rr,X=some rr∧∃ (A B:List (List Val)),rr=(.exit 0,ST1 (A++B) (some (.box [.i (.isl (aG cs))])) N A.length (.bool false))∧(A++B).Perm rows∧Full cs 20 A∧B.length<20:=by
  rw[← hX];refine lH (fun d St=>∃ (A B:List (List Val)) (g:AV),St=ST1 (A++B) (some (.box [.i (.isl (aG cs))])) N A.length g∧(g=.junk∨g=.bool true)∧(A++B).Perm rows∧Full cs 20 A∧d=B.length) ?_ _ _ ⟨[],rows, .junk,by simp[ST1], .inl rfl,by simp,Full.nil _ _,rfl⟩;rintro d St ⟨A,B,g,rfl,hg,hp,hf,hd⟩;have hl:=hp.length_eq;simp only[zQ]at hl;by_cases h20:20≤B.length
  ·left;have hi:=uK A (B.take 20) (B.drop 20) cs N A.length (A.length+20) rfl (by simp;omega) (by simp;omega) hs hcs (fun r hr'=>hr r (hp.mem_iff.1 (xB _ (zI hr'))));obtain⟨M',e1,e2,e3⟩:=hi;simp at e1;have hle:(A.length:Int)+20≤N:=by omega
   have hle':A.length+20≤N:=by omega
   have w1:IntKind.i64.wrap ((A.length:Int)+20+20)=(A.length:Int)+20+20:=wrO;have hml:M'.length=20:=by rw[e2.length_eq];simp;omega
   refine⟨ST1 ((A++M')++B.drop 20) (some (.box [.i (.isl (aG cs))])) N (A++M').length (.bool true),(B.drop 20).length,?_,by simp;omega,A++M',B.drop 20, .bool true,rfl, .inr rfl,?_,hf.snoc hml e3,rfl⟩
   ·rcases hg with rfl|rfl<;>simp[ST1,hle,hle',e1,w1,hml]
   ·refine List.Perm.trans ?_ hp;rw[zK];refine xR A ?_;have:=e2.append_right (B.drop 20)
    rwa [zC]at this
  ·right;have hnl:¬ (A.length:Int)+20≤N:=by omega
   have hnl':¬ A.length+20≤N:=by omega
   refine⟨.exit 0,ST1 (A++B) (some (.box [.i (.isl (aG cs))])) N A.length (.bool false),?_,by simp,A,B,rfl,hp,hf,by omega⟩
   rcases hg with rfl|rfl<;>simp[ST1,hnl,hnl']
 obtain⟨rr,rfl,A,B,rfl,hp,hf,hB⟩:=key;have hl:=hp.length_eq;simp only[zQ]at hl;obtain⟨M0,e1,e2,e3⟩:=uK A B [] cs N A.length N rfl (by omega) (by simp;omega) hs hcs (fun r hr'=>hr r (hp.mem_iff.1 (xB _ hr')));simp only[xZ]at e1;have hp2:(A++M0).Perm rows:=(xR A e2).trans hp;have hb2:Bk cs 20 (A++M0):=hf _ (.last (by rw[e2.length_eq];omega) e3);clear hX hf e2 e3 hB;simp[ST1,e1];generalize hX:dD C0 _ _ (Code.loop _) _=X
 have key:∃ rr,X=some rr∧∃ (l:List (List Val)) (k:Nat) (v7 v8 v9 v35 v54:AV),rr=(.exit 2,ST2 l (some (.box [.i (.isl (aG cs))])) N k v7 v8 v9 (.bool false) v35 v54)∧l.Perm rows∧jX cs l:=by
  rw[← hX];refine lH (fun d St=>∃ (l:List (List Val)) (k:Nat) (v7 v8 v9 v30 v35 v54:IV) (n9 n30:Nat),St=ST2 l (some (.box [.i (.isl (aG cs))])) N k (.i v7) (.i v8) (jk n9 v9) (jk n30 v30) (jk n9 v35) (jk n9 v54)∧l.Perm rows∧0<k∧k<4000000∧Bk cs k l∧d=2000000-k) ?_ _ _ ⟨A++M0,20, .int A.length, .int ((A.length:Int)+20), .int 0, .int 0, .int 0, .int 0,0,0,by simp[ST2],hp2,by omega,by omega,hb2,rfl⟩;rintro d St ⟨l,k,v7,v8,v9,v30,v35,v54,n9,n30,rfl,hpl,hk0,hk1,hb,hd⟩;by_cases hkN:k<N
  ·left;have hkI:(k:Int)<N:=by omega
   obtain⟨K2,hK2⟩:∃ K2,K2=2*k:=⟨_,rfl⟩
   have w2k:IntKind.i64.wrap (2*(k:Int))=(K2:Int):=by rw[wrO];omega
   have wk2:IntKind.i64.wrap ((k:Int)*2)=(K2:Int):=by rw[wrO];omega
   have hlN:=hpl.length_eq
   obtain⟨Q0,hQ⟩:∃ Q0:AS→Prop,∀ S1,Q0 S1↔∃ (l':List (List Val)) (v7 v8 v9 v35 v54:IV),S1=ST2 l' (some (.box [.i (.isl (aG cs))])) N K2 (.i v7) (.i v8) (.i v9) (.bool true) (.i v35) (.i v54)∧l'.Perm rows∧Bk cs K2 l':=⟨fun S1=>_,fun S1=>Iff.rfl⟩
   refine F7 Q0 ?_ (fun S1 hS1=>by
    obtain⟨l',v7,v8,v9,v35,v54,rfl,e1,e2⟩:=(hQ S1).1 hS1
    exact⟨2000000-K2,by omega,l',K2,v7,v8,v9, .bool true,v35,v54,1,1,rfl,e1,by omega,by omega,e2,rfl⟩)
   simp[ST2,hkI,w2k];generalize hY:dD C0 _ _ (Code.loop _) _=Y
   have key2:∃ rr,Y=some rr∧∃ (A B:List (List Val)),rr=(.exit 4,ST2 (A++B) (some (.box [.i (.isl (aG cs))])) N k (.int A.length) (.int ((A.length:Int)+K2)) (jk n9 v9) (.bool true) (.bool false) (jk n9 v54))∧(A++B).Perm rows∧Full cs K2 A∧Bk cs k B∧B.length<K2:=by
    rw[← hY];refine lH (fun d St=>∃ (A B:List (List Val)) (g:AV),St=ST2 (A++B) (some (.box [.i (.isl (aG cs))])) N k (.int A.length) (.int ((A.length:Int)+K2)) (jk n9 v9) (.bool true) g (jk n9 v54)∧(g=jk n9 v35∨g=.bool true)∧(A++B).Perm rows∧Full cs K2 A∧Bk cs k B∧d=B.length) ?_ _ _ ⟨[],l,jk n9 v35,by simp[ST2], .inl rfl,by simpa using hpl,Full.nil _ _,hb,rfl⟩;rintro d St ⟨A,B,g,rfl,hg,hp,hf,hbB,hd⟩;have hl:=hp.length_eq;simp only[zQ]at hl;by_cases h20:K2≤B.length
    ·left;obtain⟨c,c2,l',rfl,hc1,hc2,s1,s2,hb'⟩:=hbB.pair hk0 (by omega);simp only[zQ]at hl h20
     obtain⟨M',e1,e2,e3⟩:=JV cs N hs hcs _ A c c2 l' A.length (A.length+k) (A.length+K2) (zJ _) (fun e=>by rw[e]at hc1;simp at hc1;omega) (fun e=>by rw[e]at hc2;simp at hc2;omega) rfl (by omega) (by omega) (by omega) s1 s2 (fun r hr'=>hr r (hp.mem_iff.1 (by
      rcases zT.1 hr' with h|h<;>simp[h])))
     simp at e1;have hle:(A.length:Int)+K2≤N:=by omega
     have hle':A.length+K2≤N:=by omega
     have hml:M'.length=K2:=by rw[e2.length_eq];simp;omega
     have w0:IntKind.i64.wrap ((A.length:Int)+k)=(A.length:Int)+k:=wrO;have w1:IntKind.i64.wrap ((A.length:Int)+K2+K2)=(A.length:Int)+K2+K2:=wrO;have hmI:(M'.length:Int)=K2:=by omega
     refine⟨ST2 ((A++M')++l') (some (.box [.i (.isl (aG cs))])) N k (.int (A++M').length) (.int (((A++M').length:Int)+K2)) (jk n9 v9) (.bool true) (.bool true) (jk n9 v54),l'.length,?_,by rw[hd];simp;omega,A++M',l', .bool true,rfl, .inr rfl,?_,hf.snoc hml e3,hb',rfl⟩
     ·rcases hg with rfl|rfl<;>simp[ST2,hle,hle',e1,w0,w1,w2k,hmI]
     ·refine List.Perm.trans ?_ hp;rw[zK];refine xR A ?_;rw[← List.append_assoc];exact e2.append_right l'
    ·right;have hnl:¬ (A.length:Int)+K2≤N:=by omega
     have hnl':¬ A.length+K2≤N:=by omega
     refine⟨.exit 4,ST2 (A++B) (some (.box [.i (.isl (aG cs))])) N k (.int A.length) (.int ((A.length:Int)+K2)) (jk n9 v9) (.bool true) (.bool false) (jk n9 v54),?_,by simp,A,B,rfl,hp,hf,hbB,by omega⟩
     rcases hg with rfl|rfl<;>simp[ST2,hnl,hnl']
   clear hY;obtain⟨rr,rfl,A,B,rfl,hp3,hf3,hb3,hB3⟩:=key2;have hl:=hp3.length_eq;simp only[zQ]at hl;have w0:IntKind.i64.wrap ((A.length:Int)+k)=(A.length:Int)+k:=wrO;by_cases htl:k<B.length
   ·obtain⟨c,l',rfl,hc1,s1,hb'⟩:=hb3.two hk0 htl;simp only[zQ]at hl htl hB3;have s2:=hb'.one (by omega)
    obtain⟨M',e1,e2,e3⟩:=JV cs N hs hcs _ A c l' [] A.length (A.length+k) N (zJ _) (fun e=>by rw[e]at hc1;simp at hc1;omega) (fun e=>by rw[e]at htl;simp at htl;omega) rfl (by omega) (by omega) (by simp;omega) s1 s2 (fun r hr'=>hr r (hp3.mem_iff.1 (by
     rcases zT.1 hr' with h|h<;>simp[h])))
    simp at e1;have hlt:(A.length:Int)+k<N:=by omega
    have hlt':A.length+k<N:=by omega
    simp[ST2,w0,hlt,hlt',e1,wk2];rw[hQ];refine⟨A++M',_,_,_,_,_,rfl,(xR A e2).trans hp3,hf3 _ (.last (by rw[e2.length_eq];simp;omega) e3)⟩
   ·have hnl:¬ (A.length:Int)+k<N:=by omega
    have hnl':¬ A.length+k<N:=by omega
    simp[ST2,w0,hnl,hnl',wk2];rw[hQ];exact⟨A++B,_,_,_,_,_,rfl,hp3,hf3 _ (.last (by omega) (hb3.one (by omega)))⟩
  ·right;have hkI:¬ (k:Int)<N:=by omega
   refine⟨.exit 2,ST2 l (some (.box [.i (.isl (aG cs))])) N k (.i v7) (.i v8) (jk n9 v9) (.bool false) (jk n9 v35) (jk n9 v54),?_,by simp,l,k,_,_,_,_,_,rfl,hpl,hb.one (by rw[hpl.length_eq];omega)⟩;simp[ST2,hkI,hkN]
 obtain⟨rr,rfl,l,k,v7,v8,v9,v35,v54,rfl,hpl,hsl⟩:=key;exact⟨l,by simp[ST2],hpl,hsl⟩
theorem RI (rows:List (List Val)) (cs:List Int) (N:Nat) (hN:N=rows.length) (hs:N<1000000) (hcs:cs.length<1000000) (hr:∀ r∈rows,∀ c∈cs,0≤c∧c<r.length) :
 ∃ M',aH C0 185 [.osl 0 1 0 N, .fn (.func 184) [.own 1 0]] [some (.arr 1 (aM rows)),some (.box [.i (.isl (aG cs))])]=some (.tup [],[some (.arr 1 (aM M')),some (.box [.i (.isl (aG cs))])])∧M'.Perm rows∧jX cs M':=by
 obtain⟨M',e1,e2,e3⟩:=AIK rows cs N hN hs hcs hr;refine⟨M',?_,e2,e3⟩;rw[aD rfl Tryz.func185 rfl rfl];simp[e1]
end Go.Proofs.YtnmimmaahhlgeaaGreat
namespace Go.Av
def pY (gs:List (List (List Val))):List (List IV):=gs.map fun g=>[.isl (aM g)]
@[simp] theorem IE (gs:List (List (List Val))):(pY gs).length=gs.length:=by simp[pY]
theorem AL8 {gs:List (List (List Val))} {i:Nat} {g:List (List Val)} (h:gs[i]?=some g):fH (pY gs) i=some [.isl (aM g)]:=by
 rw[dL];simp[pY,h]
def gJ (vs:List Value):List (List IV):=vs.map fun v=>[.lit v]
@[simp] theorem I6 (vs:List Value):(gJ vs).length=vs.length:=by simp[gJ]
theorem I8 (a b:List Value):gJ (a++b)=gJ a++gJ b:=by simp[gJ]
theorem AG0 (vs:List Value) (v:Value) {n:Nat} (h:n=vs.length):fH (gJ (vs++[v])) n=some [.lit v]:=by
 subst h;rw[dL];simp[gJ]
theorem AKH (vs:List Value) (v u:Value) {n:Nat} (h:n=vs.length):(gJ (vs++[v])).set n [.lit u]=gJ (vs++[u]):=by
 subst h;simp[gJ]
theorem PY:∀ (vs:List Value),(gJ vs).flatten=vs.map IV.lit
 | []=>rfl
 | v::vs=>by simp[gJ,← PY vs]
theorem I7 {m:Mem}:∀ {vs us:List Value},ICells m (vs.map IV.lit) us→us=vs
 | [],_, .nil=>rfl
 | v::vs,_, .cons a _ b=>by cases a;rw[I7 b]
structure GB (wi w:World) (m:Mem) (φ:Pl) (v:Value) (g:List (List Val)) (b:Nat):Prop where
 ex:∃ (cap:Nat) (us:List Value) (T:TypeId),v=.slice (some ⟨b,0,none⟩) g.length cap∧g.length≤cap∧cap≤us.length∧w.heap[b]?=some (.cells us.toArray T (0,0))∧(∀ u∈us,u.oneCell'=true)∧ICells m (aM g).flatten (us.take g.length)
 ne:g≠[]
 new:wi.heap.size≤b
 free:mD φ b
 nom:∀ o,m b o=none
section
variable {wi w w':World} {m m':Mem} {φ φ':Pl} {v:Value} {g:List (List Val)} {b:Nat}
theorem GB.lt (h:GB wi w m φ v g b):b<w.heap.size:=by
 obtain⟨cap,us,T,_,_,_,h4,_⟩:=h.ex;exact(yY.1 h4).1
theorem GB.to (h:GB wi w m φ v g b) (hw:w'.heap[b]?=w.heap[b]?) (hm:MLe m m') (hf:mD φ' b) (hn:∀ o,m' b o=m b o):GB wi w' m' φ' v g b:=by
 obtain⟨cap,us,T,h1,h2,h3,h4,h5,h6⟩:=h.ex;exact⟨⟨cap,us,T,h1,h2,h3,hw.trans h4,h5,h6.mono hm⟩,h.ne,h.new,hf,fun o=>(hn o).trans (h.nom o)⟩
theorem GB.adv (h:GB wi w m φ v g b) (ha:Adv w m φ w' m' φ'):GB wi w' m' φ' v g b :=
 h.to (ha.block b h.lt h.free) ha.mle (ha.range h.lt h.free) (ha.mnew b h.lt h.free)
end
structure GPS (wi:World) (vs:List Value) (gs:List (List (List Val))) (bs:List Nat) (w:World) (m:Mem) (φ:Pl):Prop where
 l1:gs.length=vs.length
 l2:bs.length=vs.length
 nd:bs.Nodup
 at_:∀ (i:Nat) (v:Value) (g:List (List Val)) (b:Nat),vs[i]?=some v→gs[i]?=some g→bs[i]?=some b→GB wi w m φ v g b
section
variable {wi w w':World} {m m':Mem} {φ φ':Pl} {vs:List Value} {gs:List (List (List Val))} {bs:List Nat} {v:Value} {g:List (List Val)} {b:Nat}
theorem GPS.nil:GPS wi [] [] [] w m φ:=⟨rfl,rfl, .nil,fun i v g b h=>by simp at h⟩
theorem GPS.mem (h:GPS wi vs gs bs w m φ) (hb:b∈bs):∃ v g,GB wi w m φ v g b:=by
 obtain⟨i,hi⟩:=List.getElem?_of_mem hb;have hl:=(zY.1 hi).1;exact⟨_,_,h.at_ i _ _ b (zX (by rw[← h.l2];exact hl)) (zX (by rw[h.l1,← h.l2];exact hl)) hi⟩
theorem GPS.pX (wi:World) (vs:List Value) (gs:List (List (List Val))) (bs:List Nat):AHF (GPS wi vs gs bs):=fun _ _ _ _ _ _ ha h =>
 ⟨h.l1,h.l2,h.nd,fun i v g b e1 e2 e3=>(h.at_ i v g b e1 e2 e3).adv ha⟩
theorem GPS.keep (ids:List Nat) (h:GPS wi vs gs bs w m φ):GPS wi vs gs bs w m (gD ids φ):=by
 refine⟨h.l1,h.l2,h.nd,fun i v g b e1 e2 e3=>?_⟩;have k:=h.at_ i v g b e1 e2 e3;refine k.to rfl (.refl _) (fun id r n e=>?_) fun _=>rfl
 unfold gD at e
 cases hx:ids[id]? with
 | none=>rw[hx]at e;cases e
 | some j=>rw[hx]at e;exact k.free j r n e
theorem GPS.snoc (h:GPS wi vs gs bs w m φ) (k:GB wi w m φ v g b) (hn:b ∉ bs):GPS wi (vs++[v]) (gs++[g]) (bs++[b]) w m φ:=by
 refine⟨by simp[h.l1],by simp[h.l2],?_,fun i v' g' b' e1 e2 e3=>?_⟩
 ·rw[yS];exact⟨h.nd,by simp,fun x hx y hy e=>by simp at hy;subst hy;subst e;exact hn hx⟩
 ·by_cases hi:i<vs.length
  ·rw[zL hi]at e1;rw[zL (by rw[h.l1];exact hi)]at e2;rw[zL (by rw[h.l2];exact hi)]at e3;exact h.at_ i v' g' b' e1 e2 e3
  ·have hl:=(zY.1 e1).1;have:i=vs.length:=by simp at hl;omega
   subst this;rw[zN (zJ _)]at e1;rw[zN (by rw[h.l1];exact zJ _),h.l1]at e2;rw[zN (by rw[h.l2];exact zJ _),h.l2]at e3;simp at e1 e2 e3;subst e1;subst e2;subst e3;exact k
theorem GPS.AR2 (h:GPS wi (vs++[v]) (gs++[g]) (bs++[b]) w m φ):GPS wi vs gs bs w m φ∧GB wi w m φ v g b∧b ∉ bs:=by
 have l1:gs.length=vs.length:=by have:=h.l1;simpa using this
 have l2:bs.length=vs.length:=by have:=h.l2;simpa using this
 have nd:=yS.1 h.nd;refine⟨⟨l1,l2,nd.1,fun i v' g' b' e1 e2 e3=>?_⟩,?_,fun hb=>nd.2.2 b hb b (by simp) rfl⟩
 ·have hi:=(zY.1 e1).1;exact h.at_ i v' g' b' (by rw[zL hi];exact e1) (by rw[zL (by omega)];exact e2) (by rw[zL (by omega)];exact e3)
 ·refine h.at_ vs.length v g b ?_ ?_ ?_
  ·simp
  ·rw[← l1];simp
  ·rw[← l2];simp
end
section
variable {C:Ctx} {wi:World} {mi:Mem} {nt:Nat} {ok:Nat→Prop} {vs:List Value} {gs:List (List (List Val))} {bs:List Nat} {env:Nat→AV} {st:Store} {a:Act} {w:World}
theorem ZH {ops:Array Oper} {Q:Exit→Act→World→Prop} {K:Act→World→Prop} {i d:Nat} {t u ty:TypeId} {x y:Operand} {pos:String} {after:Array Edge} {v:Value} {w':World} (ho:ops[i]?=some ⟨some d, .call ⟨.builtin .append,#[x,y],#[t,u]⟩,ty,pos,after,none⟩)
 (hrun:(Builtin.append_ #[t,u] ty #[a.eval x,a.eval y]).run C.P w=.ok v w') (hK:K (a.put (some d) v) w'):wpOpIn (FR none) 0 C.P ops Q i K a w:=by
 unfold wpOpIn;rw[ho];simp only[Region.wanted,if_true];refine⟨fun _ _=>trivial,?_⟩;rw[Oper.semAt_eq _ _ _ (fun c e=>by cases e)]
 have:(execOp a.eval ⟨some d, .call ⟨.builtin .append,#[x,y],#[t,u]⟩,ty,pos,after,none⟩).run C.P w=.ok (.value v) w':=by
  unfold execOp;simp[resolve,invoke,builtin,hrun]
 rw[this];simpa [Oper.uponIn]using hK
theorem GPS.grow {T:TypeId} {olds rest:List Value} {rv:Value} {g:List (List Val)} {r:List Val} {cap:Nat} {m:Mem} {φ:Pl} (hi:Inv w m φ st) (hadv:Adv wi mi (fun _=>none) w m φ) (h:GPS wi vs gs bs w m φ) (ho:∀ u∈olds,u.oneCell'=true) (hc:ICells m (aM g).flatten olds) (hr:IRep m (.isl (aP r)) rv) (hr1:rv.oneCell'=true)
 (hrest:∀ u∈rest,u.oneCell'=true) (hl:olds.length=g.length) (hcap:g.length+1≤cap) (hrl:rest.length=cap-(g.length+1)) :
 Inv (w.drew.alloc (.cells (olds++([rv]++rest)).toArray T)) m φ st∧Adv wi mi (fun _=>none) (w.drew.alloc (.cells (olds++([rv]++rest)).toArray T)) m φ ∧
  GPS wi (vs++[.slice (some ⟨w.heap.size,0,none⟩) (g.length+1) cap]) (gs++[g++[r]]) (bs++[w.heap.size]) (w.drew.alloc (.cells (olds++([rv]++rest)).toArray T)) m φ:=by
 obtain⟨i1,a1⟩:=hi.drew.more (.cells (olds++([rv]++rest)).toArray T);have a2:=(Adv.drew w m φ).trans a1;refine⟨i1,hadv.trans a2,(GPS.pX _ _ _ _ _ _ _ _ _ _ a2 h).snoc ⟨⟨cap,olds++([rv]++rest),T,by simp,by simpa using hcap,by simp;omega,fM w.drew _,?_,?_⟩,by simp,hadv.size,fun id b n e ho'=>?_,fun o=>?_⟩ fun hb=>?_⟩
 ·intro u hu;simp only[zT,y9]at hu
  rcases hu with hu|rfl|hu
  ·exact ho u hu
  ·exact hr1
  ·exact hrest u hu
 ·have e1:(olds++([rv]++rest)).take (g++[r]).length=olds++[rv]:=by
   rw[zQ,x9,← hl,← List.append_assoc,← List.length_singleton (a:=rv),← List.length_append,zA9]
  rw[e1,bV,zC8];refine hc.append ?_;show ICells m [.isl (aP r)] [rv];exact .cons hr hr1 .nil
 ·have:=hi.low id b n _ e ho';omega
 ·cases hm:m w.heap.size o with
  | none=>rfl
  | some u=>exact absurd (hi.mem.lt hm) (by omega)
 ·obtain⟨v',g',k⟩:=h.mem hb;have:=k.lt;omega
theorem GR.Ab0 {t u ty e:TypeId} {by_:Nat} {z:List Value} {r:List Val} {x d s:Nat} (hzo:pR C.P) (he:BR (bN C.P t)=some e) (hk:jU C.P e=some 1) (hby:U7 C.P e=some by_) (hz:zeroOf C.P e=some z) (hzl:z.length=1) (hb0:0<by_) (hb1:by_≤140737488355328) (hu:uJ (bN C.P u)=true)
 (h:GR wi mi nt ok (GPS wi vs gs bs) env st a w) (hs:env s=.i (.lit (.slice none 0 0))) (hx:dY st 1 (env x)=some [[.isl (aP r)]]) (hd:d<nt) :
 ∃ y w',(Builtin.append_ #[t,u] ty #[a.tmps.getD s undef,a.tmps.getD x undef]).run C.P w=.ok y w'∧∃ v b,GR wi mi nt ok (GPS wi (vs++[v]) (gs++[[r]]) (bs++[b])) (upd env d (.i (.lit v))) st (a.put (some d) y) w':=by
 obtain⟨⟨m,φ,hi,henv,hadv,hok,hr⟩,hsz,hdf⟩:=h;have hsv:a.tmps.getD s undef=.slice none 0 0:=by have:=henv s;rw[hs]at this;exact this.dJ
 obtain⟨cs,hrr⟩:=wX (P:=C.P) hi (henv x) hx;have hr1:=hrr w rfl;have hr2:=hrr w.drew rfl;have hcells:=hr1.cells;simp only[yX,List.flatten_nil,xZ]at hcells
 cases hcells with
 | @cons _ rv _ _ q1 q2 q3 =>
 cases q3
 have hf2:=hr2.first 1 (by simp);simp only[Nat.one_mul,zE4,zF0]at hf2;have hlen:=hr1.len;obtain⟨cap',rest,hcap,hrest,hrz,hrun⟩:=lV (ty:=ty) (len:=0) (cap:=0) (base:=none) (olds:=[]) (jC he) hu hk hby hz hlen (by simp) hb0 (by simpa using hb1) hf2 (by simp[Builtin.firstCells]);rw[hsv];obtain⟨g1,g2,g3⟩:=hr.grow (T:=e) (olds:=[]) (rest:=rest) (rv:=rv) (g:=[]) (r:=r) (cap:=cap') hi hadv (by simp) (by simpa [aM]using ICells.nil) q1 q2 (fun u hu=>hzo _ _ hz u (hrz u hu)) rfl (by simpa using hcap) (by rw[hrest,hzl];simp);refine⟨_,_,hrun,_,_,⟨m,φ,g1,o6 (dst:=some d) henv hsz (by simpa [OB]using hd) (.i (.lit _)),g2,hok,g3⟩,by rw[nZ];exact hsz,by rw[iI];exact hdf⟩
theorem GR.AWQ {t u ty e:TypeId} {by_:Nat} {z:List Value} {r:List Val} {x d s b:Nat} {v:Value} {g:List (List Val)} (hzo:pR C.P) (he:BR (bN C.P t)=some e) (hk:jU C.P e=some 1) (hby:U7 C.P e=some by_) (hz:zeroOf C.P e=some z) (hzl:z.length=1) (hb0:0<by_) (hb1:(g.length+1)*by_≤140737488355328) (hu:uJ (bN C.P u)=true)
 (h:GR wi mi nt ok (GPS wi (vs++[v]) (gs++[g]) (bs++[b])) env st a w) (hs:env s=.i (.lit v)) (hx:dY st 1 (env x)=some [[.isl (aP r)]]) (hd:d<nt) :
 ∃ y w',(Builtin.append_ #[t,u] ty #[a.tmps.getD s undef,a.tmps.getD x undef]).run C.P w=.ok y w'∧∃ v' b',GR wi mi nt ok (GPS wi (vs++[v']) (gs++[g++[r]]) (bs++[b'])) (upd env d (.i (.lit v'))) st (a.put (some d) y) w':=by
 obtain⟨⟨m,φ,hi,henv,hadv,hok,hr⟩,hsz,hdf⟩:=h;have hsv:a.tmps.getD s undef=v:=by have:=henv s;rw[hs]at this;exact this.dJ
 obtain⟨k1,k2,k3⟩:=hr.AR2;obtain⟨cap,us,T,rfl,j2,j3,j4,j5,j6⟩:=k2.ex;obtain⟨cs,hrr⟩:=wX (P:=C.P) hi (henv x) hx;have hr1:=hrr w rfl;have hr2:=hrr w.drew rfl;have hcells:=hr1.cells;simp only[yX,List.flatten_nil,xZ]at hcells
 cases hcells with
 | @cons _ rv _ _ q1 q2 q3 =>
 cases q3
 have hf1:=hr1.first 1 (by simp);have hf2:=hr2.first 1 (by simp);simp only[Nat.one_mul,zE4,zF0]at hf1 hf2;have hlen:=hr1.len;rw[hsv];have hgl:(us.take g.length).length=g.length:=by simp;omega
 by_cases hroom:g.length+1≤cap
 ·have hstore:=run_storeCells_at C.P b g.length T [rv] 0 us.toArray w j4 (by simp;omega) (by simpa using q2);simp only[xG]at hstore
  have hrun:=lU (ty:=ty) (base:=some ⟨b,0,none⟩) (cap:=cap) (jC he) hu hk hlen hf1 hroom _ (by
   simp only[Addr.eY,zB,zE3];exact hstore)
  have hus:(us.toArray.toList.take g.length++[rv]++us.toArray.toList.drop (g.length+[rv].length)).toArray=(us.take g.length++([rv]++us.drop (g.length+1))).toArray:=by simp
  rw[hus]at hrun;generalize hw2:w.setRow b (us.take g.length++([rv]++us.drop (g.length+1))).toArray=w2 at hrun;have h2b:w2.heap[b]?=some (.cells (us.take g.length++([rv]++us.drop (g.length+1))).toArray T (0,0)):=by rw[← hw2];exact setRow_heap w b _ _ T (0,0) j4
  have h2o:∀ x,x≠b→w2.heap[x]?=w.heap[x]?:=fun x hx=>by rw[← hw2];exact setRow_other w b x _ hx
  have h2z:w2.heap.size=w.heap.size:=by rw[← hw2];simp[World.setRow]
  have h2s:w2.os=w.os∧w2.tape=w.tape∧w2.drawn=w.drawn∧w2.output=w.output:=by rw[← hw2];exact⟨rfl,rfl,rfl,rfl⟩
  have i2:=hi.aside h2z h2o k2.nom k2.free;have hne:∀ x,x<wi.heap.size→x≠b:=fun x hx e=>by have:=k2.new;omega
  have a2:Adv wi mi (fun _=>none) w2 m φ:=⟨by rw[h2z];exact hadv.size,h2s.1.trans hadv.os,⟨h2s.2.1.trans hadv.tape.tape,by rw[h2s.2.2.1];exact hadv.tape.fwd⟩,h2s.2.2.2.trans hadv.output,fun x hx hf=>(h2o x (hne x hx)).trans (hadv.block x hx hf),hadv.mle,hadv.mnew,hadv.ple,hadv.pnew⟩
  have hg2:GPS wi vs gs bs w2 m φ:=⟨k1.l1,k1.l2,k1.nd,fun i v' g' b' e1 e2 e3=>(k1.at_ i v' g' b' e1 e2 e3).to (h2o b' fun e=>by subst e;exact k3 (zV e3)) (.refl _) (k1.at_ i v' g' b' e1 e2 e3).free fun _=>rfl⟩
  refine⟨_,_,hrun, .slice (some ⟨b,0,none⟩) (g.length+1) cap,b,⟨m,φ,i2,o6 (dst:=some d) henv hsz (by simpa [OB]using hd) (.i (.lit _)),a2,hok,hg2.snoc ⟨⟨cap,_,T,by simp,by simpa using hroom,by simp;omega,h2b,?_,?_⟩,by simp,k2.new,k2.free,k2.nom⟩ k3⟩,by rw[nZ];exact hsz,by rw[iI];exact hdf⟩
  ·intro u hu;simp only[zT,y9]at hu
   rcases hu with hu|rfl|hu
   ·exact j5 u (zI hu)
   ·exact q2
   ·exact j5 u (yO hu)
  ·have e1:(us.take g.length++([rv]++us.drop (g.length+1))).take (g++[r]).length=us.take g.length++[rv]:=by
    have:(g++[r]).length=(us.take g.length++[rv]).length:=by rw[zQ,zQ,hgl];rfl
    rw[this,← List.append_assoc,zA9]
   rw[e1,bV,zC8];refine j6.append ?_;show ICells m [.isl (aP r)] [rv];exact .cons q1 q2 .nil
 ·have hold:(Builtin.firstCells 1 g.length (.slice (some ⟨b,0,none⟩) g.length cap)).run C.P w.drew=.ok (us.take g.length).toArray w.drew:=by
   have:=run_loadCells_list (P:=C.P) w.drew ⟨b,0,none⟩ (us.take g.length) (fun j u hj=>by
    rw[Addr.eY,zB];show w.cell? ⟨b,j,none⟩=some u;rw[bU j4];rw[zD]at hj;split at hj
    ·exact hj
    ·cases hj)
   rw[hgl]at this;simp only[Builtin.firstCells,zE3];exact this
  obtain⟨cap',rest,hcap',hrest,hrz,hrun⟩:=lV (ty:=ty) (len:=g.length) (cap:=cap) (base:=some ⟨b,0,none⟩) (olds:=us.take g.length) (jC he) hu hk hby hz hlen (by simp;omega) hb0 (by simpa using hb1) hf2 hold;obtain⟨g1,g2,g3⟩:=k1.grow (T:=e) (olds:=us.take g.length) (rest:=rest) (rv:=rv) (g:=g) (r:=r) (cap:=cap') hi hadv (fun u hu=>j5 u (zI hu)) j6 q1 q2 (fun u hu=>hzo _ _ hz u (hrz u hu)) hgl (by simpa using hcap') (by rw[hrest,hzl];simp);refine⟨_,_,hrun,_,_,⟨m,φ,g1,o6 (dst:=some d) henv hsz (by simpa [OB]using hd) (.i (.lit _)),g2,hok,g3⟩,by rw[nZ];exact hsz,by rw[iI];exact hdf⟩
theorem GR.APN {id:Nat} (h:GR wi mi nt ok (GPS wi vs gs bs) env st a w) (hst:st id=some (.arr 1 (gJ vs))) :
 GR wi mi nt ok (fun _ _ _=>True) env (upd st id (some (.arr 1 (pY gs)))) a w:=by
 classical
 obtain⟨⟨m,φ,hi,henv,hadv,hok,hr⟩,hsz,hdf⟩:=h
 let m':Mem:=fun f o=>if f∈bs then w.cell? ⟨f,o,none⟩else m f o
 have hin:∀ f,f∈bs→∀ o,m' f o=w.cell? ⟨f,o,none⟩:=fun f hf o=>by show(if f∈bs then _ else _)=_;rw[if_pos hf]
 have hout:∀ f,f ∉ bs→∀ o,m' f o=m f o:=fun f hf o=>by show(if f∈bs then _ else _)=_;rw[if_neg hf]
 have hle:MLe m m':=fun f o v e=>by
  by_cases hf:f∈bs
  ·obtain⟨_,_,k⟩:=hr.mem hf;rw[k.nom o]at e;cases e
  ·rw[hout f hf];exact e
 have hmem:oI w m':=fun f o v e=>by
  by_cases hf:f∈bs
  ·rw[hin f hf]at e;exact e
  ·rw[hout f hf]at e;exact hi.mem f o v e
 have hown:∀ i b n f,φ i=some (b,n)→n.own f→f ∉ bs:=fun i b n f e ho hf=>by
  obtain⟨_,_,k⟩:=hr.mem hf;exact k.free i b n e ho
 have i1:Inv w m' φ st:=⟨hmem,fun i blk hb=>by
  obtain⟨b,n,q1,q2,q3⟩:=hi.live i blk hb
  exact⟨b,n,q1,q2,q3.mono q2.1 (fun _ _=>rfl) hle (.refl _) fun f hf o=>hout f (hown i b n f q1 hf) o⟩,hi.inj,hi.low⟩
 have a1:Adv wi mi (fun _=>none) w m' φ:=⟨hadv.size,hadv.os,hadv.tape,hadv.output,hadv.block,hadv.mle.trans hle,fun f hf hfr o=>by
  rw[hout f (fun hf'=>by obtain⟨_,_,k⟩:=hr.mem hf';have:=k.new;omega)]
  exact hadv.mnew f hf hfr o,hadv.ple,hadv.pnew⟩
 obtain⟨b,n,e,hb,hbo⟩:=i1.live id _ hst;refine⟨⟨m',φ,i1.AZ6 hst e ?_,fun t=>(henv t).mono hle (.refl _),a1,hok,trivial⟩,hsz,hdf⟩
 cases hbo with
 | @arr T _ _ xs h1 h2 h3 h4 h5 h6 h7 h8 h9 =>
  rw[PY,I6]at h5;have hxs:=I7 h5;rw[I6]at h6;refine .arr h1 h2 h3 (fun x hx=>by obtain⟨g,_,rfl⟩:=zG.1 hx;rfl) ?_ (by rw[IE,hr.l1];exact h6) h7 h8 h9;rw[IE,hr.l1,hxs]
  have key:∀ (i:Nat) (v:Value) (g:List (List Val)),vs[i]?=some v→gs[i]?=some g→IRep m' (.isl (aM g)) v∧v.oneCell'=true:=fun i v g e1 e2=>by
   have hl:=(zY.1 e1).1;have e3:=zX (show i<bs.length by rw[hr.l2];exact hl);have k:=hr.at_ i v g _ e1 e2 e3;obtain⟨cap,us,T',rfl,j2,j3,j4,j5,j6⟩:=k.ex;have hne:aM g≠[]:=fun e=>k.ne (zW.1 (by rw[← qG,e];rfl))
   refine⟨?_,rfl⟩
   have:=IRep.isl (m:=m') (k:=1) (cap:=cap) hne (mR 0 (fun x hx=>by obtain⟨r,_,rfl⟩:=zG.1 hx;rfl) (j6.mono hle) (fun j u hj=>by
    rw[hin _ (zV e3),zB,bU j4];rw[zD]at hj;split at hj
    ·exact hj
    ·cases hj)) (by simpa using j2)
   rwa [qG]at this
  have gen:∀ (vs:List Value) (gs:List (List (List Val))),gs.length=vs.length→(∀ (i:Nat) (v:Value) (g:List (List Val)),vs[i]?=some v→gs[i]?=some g→IRep m' (.isl (aM g)) v∧v.oneCell'=true)→ICells m' (pY gs).flatten vs:=by
   intro vs
   induction vs with
   | nil=>intro gs hl _;have:gs=[]:=zW.1 hl;subst this;exact .nil
   | cons v vs ih =>
    intro gs hl hk
    cases gs with
    | nil=>simp at hl
    | cons g gs =>
     obtain⟨k1,k2⟩:=hk 0 v g rfl rfl;show ICells m' (IV.isl (aM g)::(pY gs).flatten) (v::vs);exact .cons k1 k2 (ih gs (by simpa using hl) fun i v' g' e1 e2=>hk (i+1) v' g' (by simpa using e1) (by simpa using e2))
  exact gen vs gs hr.l1 key
theorem ABT {ops:Array Oper} {Q:Exit→Act→World→Prop} {K:Act→World→Prop} {i d n:Nat} {t ty:TypeId} {ps:Array (Nat×Operand)} {pos:String} {after:Array Edge} {v:Value} {w':World} (ho:ops[i]?=some ⟨some d, .buildSlice t n ps,ty,pos,after,none⟩)
 (hrun:(Instr.buildSlice t n (ps.map fun p=>(p.1,a.eval p.2))).run C.P w=.ok v w') (hK:K (a.put (some d) v) w'):wpOpIn (FR none) 0 C.P ops Q i K a w:=by
 unfold wpOpIn;rw[ho];simp only[Region.wanted,if_true];refine⟨fun _ _=>trivial,?_⟩;rw[Oper.semAt_eq _ _ _ (fun c e=>by cases e)]
 have:(execOp a.eval ⟨some d, .buildSlice t n ps,ty,pos,after,none⟩).run C.P w=.ok (.value v) w':=by
  unfold execOp;simp[hrun]
 rw[this];simpa [Oper.uponIn]using hK
theorem GR.ARX {R:World→Mem→Pl→Prop} {base:Nat} {j:Nat} {dn:Nat→Prop} (hR:AHF R) {t e:TypeId} {d:Nat} {z:List Value} {zi:List IV} (hzo:pR C.P) (he:BR (bN C.P t)=some e) (hk:jU C.P e=some 1) (hz:zeroOf C.P e=some z) (hzi:NQ (fC z)=some zi) (hzl:zi.length=1) (hdn:¬ dn j)
 (h:GR wi mi nt (J8 base dn) R env st a w) (hd:d<nt) :
 ∃ y w',(Instr.buildSlice t 1 #[(0,Value.slice none 0 0)]).run C.P w=.ok y w'∧GR wi mi nt (J8 base fun i=>dn i∨i=j) R (upd env d (.osl (base+wide*j) 1 0 1)) (upd st (base+wide*j) (some (.arr 1 [[.lit (.slice none 0 0)]]))) (a.put (some d) y) w':=by
 obtain⟨⟨m,φ,hi,henv,hadv,hok,hr⟩,hsz,hdf⟩:=h
 have hfr:∀ id,base+wide*j≤id→id<base+wide*j+wide→φ id=none:=fun id k1 k2=>by
  cases e:φ id with
  | none=>rfl
  | some p=>exact absurd (hok id (by rw[e];simp)) (PS hdn k1 k2)
 obtain⟨y,w',k1,m',φ',k2,k3,k4,k5⟩:=AP (w:=w) (C:=C) (n:=1) (ps:=[(0,[.i (.lit (.slice none 0 0))])]) (vs:=[(0, .slice none 0 0)]) (v:=.osl (base+wide*j) 1 0 1) (st':=upd st (base+wide*j) (some (.arr 1 [[.lit (.slice none 0 0)]]))) hzo hi hfr (jC he) (.cons (.cons (.i (.lit _)) rfl .nil) .nil) (by
  unfold qE
  simp[hk,hz,hzi,hzl,fO,pG,tT,nX,qW,ARS]) #[(0, .slice none 0 0)] rfl
 refine⟨y,w',k1,⟨m',φ',k3,o6 (dst:=some d) (fun t=>(henv t).mono k4.mle k4.ple) hsz (by simpa [OB]using hd) k2,hadv.trans k4,fun id hne=>?_,hR _ _ _ _ _ _ k4 hr⟩,by rw[nZ];exact hsz,by rw[iI];exact hdf⟩
 rcases k5 id hne with h1|⟨h1,h2⟩
 ·exact kF (fun i hi=>.inl hi) (hok id h1)
 ·exact .inr ⟨j, .inr rfl,h1,h2⟩
end
def UI (wi:World) (vs:List Value) (gs:List (List (List Val))) (bs:List Nat) (v:Value) (g:List (List Val)) (b:Nat) (w:World) (m:Mem) (φ:Pl):Prop :=
 (v=.slice none 0 0∧g=[]∧GPS wi vs gs bs w m φ)∨GPS wi (vs++[v]) (gs++[g]) (bs++[b]) w m φ
theorem UI.pX (wi:World) (vs:List Value) (gs:List (List (List Val))) (bs:List Nat) (v:Value) (g:List (List Val)) (b:Nat):AHF (UI wi vs gs bs v g b):=fun _ _ _ _ _ _ ha h =>
 h.imp (fun k=>⟨k.1,k.2.1,GPS.pX _ _ _ _ _ _ _ _ _ _ ha k.2.2⟩) fun k=>GPS.pX _ _ _ _ _ _ _ _ _ _ ha k
theorem UI.keep {wi w:World} {m:Mem} {φ:Pl} {vs:List Value} {gs:List (List (List Val))} {bs:List Nat} {v:Value} {g:List (List Val)} {b:Nat} (ids:List Nat) (h:UI wi vs gs bs v g b w m φ):UI wi vs gs bs v g b w m (gD ids φ) :=
 h.imp (fun k=>⟨k.1,k.2.1,k.2.2.keep ids⟩) fun k=>k.keep ids
section
variable {C:Ctx} {wi:World} {mi:Mem} {nt:Nat} {ok:Nat→Prop} {vs:List Value} {gs:List (List (List Val))} {bs:List Nat} {env:Nat→AV} {st:Store} {a:Act} {w:World}
theorem GR.mapR {R R':World→Mem→Pl→Prop} (h:GR wi mi nt ok R env st a w) (f:∀ m φ,R w m φ→R' w m φ):GR wi mi nt ok R' env st a w:=by
 obtain⟨⟨m,φ,h1,h2,h3,h4,h5⟩,h6,h7⟩:=h;exact⟨⟨m,φ,h1,h2,h3,h4,f m φ h5⟩,h6,h7⟩
theorem GR.AaZ {t u ty e:TypeId} {by_:Nat} {z:List Value} {r:List Val} {x d s b:Nat} {v:Value} {g:List (List Val)} (hzo:pR C.P) (he:BR (bN C.P t)=some e) (hk:jU C.P e=some 1) (hby:U7 C.P e=some by_) (hz:zeroOf C.P e=some z) (hzl:z.length=1) (hb0:0<by_) (hb1:(g.length+1)*by_≤140737488355328) (hu:uJ (bN C.P u)=true)
 (h:GR wi mi nt ok (UI wi vs gs bs v g b) env st a w) (hs:env s=.i (.lit v)) (hx:dY st 1 (env x)=some [[.isl (aP r)]]) (hd:d<nt) :
 ∃ y w',(Builtin.append_ #[t,u] ty #[a.tmps.getD s undef,a.tmps.getD x undef]).run C.P w=.ok y w'∧∃ v' b',GR wi mi nt ok (GPS wi (vs++[v']) (gs++[g++[r]]) (bs++[b'])) (upd env d (.i (.lit v'))) st (a.put (some d) y) w':=by
 obtain⟨⟨m,φ,h1,h2,h3,h4,h5⟩,h6,h7⟩:=h
 rcases h5 with ⟨rfl,rfl,h5⟩|h5
 ·exact GR.Ab0 hzo he hk hby hz hzl hb0 (by simpa using hb1) hu ⟨⟨m,φ,h1,h2,h3,h4,h5⟩,h6,h7⟩ hs hx hd
 ·exact GR.AWQ hzo he hk hby hz hzl hb0 hb1 hu ⟨⟨m,φ,h1,h2,h3,h4,h5⟩,h6,h7⟩ hs hx hd
end
theorem DL (cs:List Int):∀ (n:Nat) (l:List (List Val)),l.length=n→(runs cs l).flatten=l∧(l≠[]→runs cs l≠[])∧(runs cs l).length≤n
 | 0,l,h=>by
  have:l=[]:=zW.1 h;subst this;exact⟨rfl,fun h=>absurd rfl h,zJ _⟩
 | n+1,l,h=>by
  have hne:l≠[]:=fun e=>by subst e;simp at h
  obtain⟨l',x,rfl⟩:∃ l' x,l=l'++[x]:=⟨l.dropLast,l.getLast hne,(yF hne).symm⟩
  have hl':l'.length=n:=by simpa using h
  obtain⟨i1,i2,i3⟩:=DL cs n l' hl'
  have key:(runs cs (l'++[x])=runs cs l'++[[x]])∨∃ G g,runs cs l'=G++[g]∧runs cs (l'++[x])=G++[g++[x]]:=by
   rw[uZ]
   cases hp:l'.getLast? with
   | none=>exact .inl rfl
   | some p =>
    dsimp only;split
    ·have hl0:l'≠[]:=fun e=>by subst e;simp at hp
     have hr:=i2 hl0;refine .inr ⟨(runs cs l').dropLast,(runs cs l').getLast hr,(yF hr).symm,?_⟩;rw[zA7 hr];rfl
    ·exact .inl rfl
  rcases key with e|⟨G,g,e1,e2⟩
  ·rw[e];refine⟨by simp[i1],fun _=>by simp,by simp;omega⟩
  ·rw[e2];rw[e1]at i1 i3;refine⟨by rw[← i1];simp,fun _=>by simp,?_⟩;simp at i3 ⊢;omega
theorem AAF {α:Type} {g:List α}:∀ {L:List (List α)},g∈L→g.length≤L.flatten.length
 | [],h=>by simp at h
 | a::L,h=>by
  rw[yX,zQ]
  rcases zP.1 h with rfl|h
  ·omega
  ·have:=AAF h;omega
end Go.Av
namespace Go.Proofs.YtnmimmaahhlgeaaGreat.P
open Go Go.Av G
theorem Ad5:Tryz.f147.body.isSome=true:=rfl
theorem Ad4:Tryz.f147.name≠ "runtime.NumGoroutine":=by decide
set_option maxRecDepth 4000
set_option maxHeartbeats 8000000
theorem AWV {α:Type} (f:Nat→α) (a:Nat) (x y:α):upd (upd f a x) a y=upd f a y:=by funext i;simp only[upd];split<;>rfl
def GEV (w:Int) (rows:List (List Val)) (cs:List Int) (N:Nat) (v7 v8 v9 v10 v20 v21 v37:AV):List (Nat×AV):=[(0, .i (.agg [.int w, .isl (aM rows)])),(1, .i (.isl (aG cs))),(2, .own 0 0),(3, .own 1 0),(4, .nils),(5, .osl 2 1 0 N),(6, .fn (.func 184) [.own 1 0]),(7,v7),(8,v8),(9,v9),(10,v10),(18, .osl 2 1 0 N),(19, .int N),(20,v20),(21,v21),(37,v37)]
def GST (w:Int) (rows:List (List Val)) (cs:List Int) (M:List (List Val)) (L:StL):StL:=some (.box [.i (.int w), .i (.isl (aM rows))])::some (.box [.i (.isl (aG cs))])::some (.arr 1 (aM M))::L
def GLX (w:Int) (rows:List (List Val)) (cs:List Int) (N:Nat) (M:List (List Val)) (vs:List Value) (i:Nat):AS :=
 { env:=GEV w rows cs N (gro 3 1 vs.length) .junk .junk .junk (.int i) .junk .junk,st:=GST w rows cs M (vT 1 (gJ vs) vs.length) }
theorem AAV {rows:List (List Val)} {cs:List Int} {w0:Int} (h0:rows≠[]) (hs:rows.length<1000000) (hcs:cs.length<1000000) (hr:∀ r∈rows,∀ c∈cs,0≤c∧c<r.length) {M:List (List Val)}
 (hM:aH C0 185 [.osl 0 1 0 rows.length, .fn (.func 184) [.own 1 0]] [some (.arr 1 (aM rows)),some (.box [.i (.isl (aG cs))])]=some (.tup [],[some (.arr 1 (aM M)),some (.box [.i (.isl (aG cs))])])) (hMp:M.Perm rows)
 {wi:World} {mi:Mem} {vs:List Value} (hi:Inv wi mi (fun _=>none) (bK [])) (hrr:RepL mi (fun _=>none) [.i (.agg [.int w0, .isl (aM rows)]), .i (.isl (aG cs))] vs) :
 Calls Tryz.prog 147 vs.toArray wi (bY wi mi (fun _=>none) (.i (.isl (pY (runs cs M)))) []):=by
 refine calls_of_wp (fn:=Tryz.f147) Tryz.func147 rfl ?_;have hv1:vs.length=2:=by simpa using hrr.length.symm
 obtain⟨N,hN⟩:∃ N,N=rows.length:=⟨_,rfl⟩
 have hN0:N≠0:=fun e=>h0 (zW.1 (by omega))
 have hMl:M.length=N:=by rw[hMp.length_eq,hN]
 rw[← hN]at hM
 have g0:GR wi mi 56 (fun id=>id<({ env:=[(0, .i (.agg [.int w0, .isl (aM rows)])),(1, .i (.isl (aG cs)))],st:=[] }:AS).st.length) (GPS wi [] [] []) (aV [(0, .i (.agg [.int w0, .isl (aM rows)])),(1, .i (.isl (aG cs)))]) (bK []) { tmps:=vs.toArray++Array.replicate (56-vs.toArray.size) undef,defers:=[] } wi:=by
  refine⟨⟨mi,fun _=>none,hi,?_, .refl _ _ _,fun id h=>absurd rfl h,GPS.nil⟩,by simp;omega,rfl⟩;intro t;have:=nH (m:=mi) (φ:=fun _=>none) (56-vs.toArray.size) hrr t
  rcases t with _|_|t
  ·simpa [aV,uN]using this
  ·simpa [aV,uN]using this
  ·simp only[aV];simp;exact .junk _
 have hcp:aH C0 183 [.i (.isl (aM rows))] []=some (.osl 0 1 0 N,[some (.arr 1 (aM rows))]):=by
  rw[aD rfl Tryz.func183 rfl rfl];have h1:24*(rows.length:Int)≤281474976710656:=by omega
  have h1':24*rows.length≤281474976710656:=by omega
  have e1:List.take rows.length (aM rows)=aM rows:=zZ (by simp);subst hN;simp[h0,hN0,h1,h1',e1,over]
 refine wp_seq (wp_mono (GR.fF dE (G:=GS 147) (S:={ env:=[(0, .i (.agg [.int w0, .isl (aM rows)])),(1, .i (.isl (aG cs)))],st:=[] }) (e:=.normal) (S':={ env:=[(0, .i (.agg [.int w0, .isl (aM rows)])),(1, .i (.isl (aG cs))),(2, .own 0 0),(3, .own 1 0),(4, .nils),(5, .junk),(6, .junk),(7, .junk),(8, .junk),(9, .junk),(10, .junk),(18, .junk),(19, .junk),(20, .junk),(21, .junk),(37, .junk)],st:=[some (.box [.i (.int w0), .i (.isl (aM rows))]),some (.box [.i (.isl (aG cs))])] }) (GPS.pX _ _ _ _) (by kernel_rfl) (by simp) g0) ?_);rintro _ a1 w1 ⟨rfl,g1⟩;clear g0;refine wp_seq (wp_mono (GR.fF dE (G:=GS 147) (S:={ env:=[(0, .i (.agg [.int w0, .isl (aM rows)])),(1, .i (.isl (aG cs))),(2, .own 0 0),(3, .own 1 0),(4, .nils),(5, .junk),(6, .junk),(7, .junk),(8, .junk),(9, .junk),(10, .junk),(18, .junk),(19, .junk),(20, .junk),(21, .junk),(37, .junk)],st:=[some (.box [.i (.int w0), .i (.isl (aM rows))]),some (.box [.i (.isl (aG cs))])] }) (e:=.normal) (S':={ env:=[(0, .i (.agg [.int w0, .isl (aM rows)])),(1, .i (.isl (aG cs))),(2, .own 0 0),(3, .own 1 0),(4, .nils),(5, .osl 2 1 0 N),(6, .junk),(7, .junk),(8, .junk),(9, .junk),(10, .junk),(18, .junk),(19, .junk),(20, .junk),(21, .junk),(37, .junk)],st:=[some (.box [.i (.int w0), .i (.isl (aM rows))]),some (.box [.i (.isl (aG cs))]),some (.arr 1 (aM rows))] }) (GPS.pX _ _ _ _) (by kernel_rfl) (by simp[hcp]) g1) ?_);rintro _ a2 w2 ⟨rfl,g2⟩;clear g1;refine wp_seq (wp_mono (GR.fF dE (G:=GS 147) (S:={ env:=[(0, .i (.agg [.int w0, .isl (aM rows)])),(1, .i (.isl (aG cs))),(2, .own 0 0),(3, .own 1 0),(4, .nils),(5, .osl 2 1 0 N),(6, .junk),(7, .junk),(8, .junk),(9, .junk),(10, .junk),(18, .junk),(19, .junk),(20, .junk),(21, .junk),(37, .junk)],st:=[some (.box [.i (.int w0), .i (.isl (aM rows))]),some (.box [.i (.isl (aG cs))]),some (.arr 1 (aM rows))] }) (e:=.normal) (S':={ env:=[(0, .i (.agg [.int w0, .isl (aM rows)])),(1, .i (.isl (aG cs))),(2, .own 0 0),(3, .own 1 0),(4, .nils),(5, .osl 2 1 0 N),(6, .fn (.func 184) [.own 1 0]),(7, .junk),(8, .junk),(9, .junk),(10, .junk),(18, .junk),(19, .junk),(20, .junk),(21, .junk),(37, .junk)],st:=[some (.box [.i (.int w0), .i (.isl (aM rows))]),some (.box [.i (.isl (aG cs))]),some (.arr 1 (aM rows))] }) (GPS.pX _ _ _ _) (by kernel_rfl) (by simp) g2) ?_);rintro _ a3 w3 ⟨rfl,g3⟩;clear g2;refine wp_seq (wp_mono (GR.fF dE (G:=GS 147) (S:={ env:=[(0, .i (.agg [.int w0, .isl (aM rows)])),(1, .i (.isl (aG cs))),(2, .own 0 0),(3, .own 1 0),(4, .nils),(5, .osl 2 1 0 N),(6, .fn (.func 184) [.own 1 0]),(7, .junk),(8, .junk),(9, .junk),(10, .junk),(18, .junk),(19, .junk),(20, .junk),(21, .junk),(37, .junk)],st:=[some (.box [.i (.int w0), .i (.isl (aM rows))]),some (.box [.i (.isl (aG cs))]),some (.arr 1 (aM rows))] }) (e:=.normal) (S':={ env:=[(0, .i (.agg [.int w0, .isl (aM rows)])),(1, .i (.isl (aG cs))),(2, .own 0 0),(3, .own 1 0),(4, .nils),(5, .osl 2 1 0 N),(6, .fn (.func 184) [.own 1 0]),(7, .junk),(8, .junk),(9, .junk),(10, .junk),(18, .junk),(19, .junk),(20, .junk),(21, .junk),(37, .junk)],st:=[some (.box [.i (.int w0), .i (.isl (aM rows))]),some (.box [.i (.isl (aG cs))]),some (.arr 1 (aM M))] }) (GPS.pX _ _ _ _) (by kernel_rfl) (by simp[hM]) g3) ?_);rintro _ a4 w4 ⟨rfl,g4⟩;clear g3;refine wp_seq (wp_mono (GR.fF dE (G:=GS 147) (S:={ env:=[(0, .i (.agg [.int w0, .isl (aM rows)])),(1, .i (.isl (aG cs))),(2, .own 0 0),(3, .own 1 0),(4, .nils),(5, .osl 2 1 0 N),(6, .fn (.func 184) [.own 1 0]),(7, .junk),(8, .junk),(9, .junk),(10, .junk),(18, .junk),(19, .junk),(20, .junk),(21, .junk),(37, .junk)],st:=[some (.box [.i (.int w0), .i (.isl (aM rows))]),some (.box [.i (.isl (aG cs))]),some (.arr 1 (aM M))] }) (e:=.normal) (S':={ env:=[(0, .i (.agg [.int w0, .isl (aM rows)])),(1, .i (.isl (aG cs))),(2, .own 0 0),(3, .own 1 0),(4, .nils),(5, .osl 2 1 0 N),(6, .fn (.func 184) [.own 1 0]),(7, .nils),(8, .junk),(9, .junk),(10, .junk),(18, .junk),(19, .junk),(20, .junk),(21, .junk),(37, .junk)],st:=[some (.box [.i (.int w0), .i (.isl (aM rows))]),some (.box [.i (.isl (aG cs))]),some (.arr 1 (aM M))] }) (GPS.pX _ _ _ _) (by kernel_rfl) (by simp) g4) ?_);rintro _ a5 w5 ⟨rfl,g5⟩;clear g4;refine wp_seq (wp_seq (wp_mono (GR.fF dE (G:=GS 147) (S:={ env:=[(0, .i (.agg [.int w0, .isl (aM rows)])),(1, .i (.isl (aG cs))),(2, .own 0 0),(3, .own 1 0),(4, .nils),(5, .osl 2 1 0 N),(6, .fn (.func 184) [.own 1 0]),(7, .nils),(8, .junk),(9, .junk),(10, .junk),(18, .junk),(19, .junk),(20, .junk),(21, .junk),(37, .junk)],st:=[some (.box [.i (.int w0), .i (.isl (aM rows))]),some (.box [.i (.isl (aG cs))]),some (.arr 1 (aM M))] }) (e:=.normal) (S':=GLX w0 rows cs N M [] 0) (GPS.pX _ _ _ _) (by kernel_rfl) (by simp[GLX,GEV,GST]) g5) ?_));rintro _ a6 w6 ⟨rfl,g6⟩;clear g5;refine wp_block ?_;refine CL (fun n a w=>∃ (i:Nat) (vs:List Value) (bs:List Nat),n=N-i∧i≤N∧GR wi mi 56 (fun id=>id<(GLX w0 rows cs N M vs i).st.length) (GPS wi vs (runs cs (M.take i)) bs) (aV (GLX w0 rows cs N M vs i).env) (bK (GLX w0 rows cs N M vs i).st) a w) ?_ (n:=N) ⟨0,[],[],by omega,by omega,by simpa [runs]using g6⟩;clear g6;rintro n a w ⟨i,vs,bs,rfl,hiN,g⟩;have hgl:(runs cs (M.take i)).length=vs.length:=by obtain⟨⟨m,φ,_,_,_,_,k⟩,_⟩:=g;exact k.l1
 by_cases hlt:i<N
 ·obtain⟨r,hx⟩:∃ r,M[i]?=some r:=⟨_,zX (by omega)⟩
  have hxI:(i:Int)<N:=by omega
  have hxn:fH (aM M) i=some [.isl (aP r)]:=bW hx;have hrr:∀ c∈cs,0≤c∧c<r.length:=hr r (hMp.mem_iff.1 (zV hx));have htk:M.take (i+1)=M.take i++[r]:=aO hx;obtain⟨hfl,hrne,hrl⟩:=DL cs _ (M.take i) rfl
  have hvl:vs.length<1000000:=by rw[← hgl];have:(M.take i).length≤M.length:=by simp;omega
                                 omega
  refine wp_seq (wp_mono (GR.fF dE (G:=GS 147) (S:=GLX w0 rows cs N M vs i) (e:=.normal) (S':={ env:=GEV w0 rows cs N (gro 3 1 vs.length) (.junk) (.junk) (.junk) (.int i) (.bool true) (.junk),st:=GST w0 rows cs M (vT 1 (gJ vs) vs.length) }) (GPS.pX _ _ _ _) (by kernel_rfl) (by by_cases hv:vs.length=0<;>simp[GLX,GEV,GST,hv,aL,aI,hxI,hlt]) g) ?_);rintro _ a1 w1 ⟨rfl,g1⟩;refine wp_seq (wp_mono (GR.fF dE (G:=GS 147) (S:={ env:=GEV w0 rows cs N (gro 3 1 vs.length) (.junk) (.junk) (.junk) (.int i) (.bool true) (.junk),st:=GST w0 rows cs M (vT 1 (gJ vs) vs.length) }) (e:=.normal) (S':={ env:=GEV w0 rows cs N (gro 3 1 vs.length) (.junk) (.junk) (.junk) (.int i) (.bool true) (.junk),st:=GST w0 rows cs M (vT 1 (gJ vs) vs.length) }) (GPS.pX _ _ _ _) (by kernel_rfl) (by by_cases hv:vs.length=0<;>simp[GEV,GST,hv,aL,aI]) g1) ?_);rintro _ a2 w2 ⟨rfl,g2⟩;clear g g1;refine wp_seq (wp_block ?_);refine wp_seq (wp_mono (GR.fF dE (G:=GS 147) (S:={ env:=GEV w0 rows cs N (gro 3 1 vs.length) (.junk) (.junk) (.junk) (.int i) (.bool true) (.junk),st:=GST w0 rows cs M (vT 1 (gJ vs) vs.length) }) (e:=.normal) (S':={ env:=GEV w0 rows cs N (gro 3 1 vs.length) (.int i) (.i (.isl (aP r))) (.junk) (.int i) (.bool true) (.junk),st:=GST w0 rows cs M (vT 1 (gJ vs) vs.length) }) (GPS.pX _ _ _ _) (by kernel_rfl) (by by_cases hv:vs.length=0<;>simp[GEV,GST,hv,aL,aI,hlt,hxn,hMl]) g2) ?_);rintro _ a3 w3 ⟨rfl,g3⟩;clear g2;refine wp_seq (wp_mono (Q:=fun e a w=>e=.normal∧∃ (vs0:List Value) (gs0:List (List (List Val))) (bs0:List Nat) (v:Value) (g:List (List Val)) (b:Nat),runs cs (M.take (i+1))=gs0++[g++[r]]∧g.length<1000000∧vs0.length<1000000∧GR wi mi 56 (fun id=>id<4) (UI wi vs0 gs0 bs0 v g b) (aV (GEV w0 rows cs N (.osl 3 1 0 (vs0.length+1)) (.int i) (.i (.isl (aP r))) (.junk) (.int i) (.bool true) (.junk))) (bK (GST w0 rows cs M [some (.arr 1 (gJ (vs0++[v])))])) a w) ?_ ?_)
  ·obtain⟨bb,hbb⟩:∃ bb:Bool,bb=(decide (i=0) || decide (bR (aZ cs ((M[i-1]?).getD [])) (aZ cs r)≠0)):=⟨_,rfl⟩
   have hnew:bb=true→runs cs (M.take (i+1))=runs cs (M.take i)++[[]++[r]]:=by
    intro hb;rw[htk,uZ]
    cases hp:(M.take i).getLast? with
    | none=>rfl
    | some p =>
     have hi0:i≠0:=fun e=>by subst e;simp at hp
     rw[zB2,if_neg hi0]at hp
     have hpi:M[i-1]?=some p:=by
      rw[zX (show i-1<M.length by omega)]at hp ⊢;simpa using hp
     rw[hbb,hpi]at hb;simp[hi0]at hb;dsimp only;rw[if_neg hb];rfl
   have hold:bb=false→∃ G g,runs cs (M.take i)=G++[g]∧runs cs (M.take (i+1))=G++[g++[r]]:=by
    intro hb;rw[hbb]at hb;have hi0:i≠0:=fun e=>by simp[e]at hb
    have hpi:=zX (l:=M) (show i-1<M.length by omega);rw[hpi]at hb;simp[hi0]at hb;have hne:=hrne (fun e=>by have:=congrArg List.length e;rw[yK]at this;simp only[yE]at this;omega);have hp:(M.take i).getLast?=some M[i-1]:=by rw[zB2,if_neg hi0,hpi];rfl
    refine⟨(runs cs (M.take i)).dropLast,(runs cs (M.take i)).getLast hne,(yF hne).symm,?_⟩;rw[htk,uZ,hp];dsimp only;rw[if_pos hb,zA7 hne];rfl
   refine wp_seq (wp_mono (GR.fF dE (G:=GS 147) (S:={ env:=GEV w0 rows cs N (gro 3 1 vs.length) (.int i) (.i (.isl (aP r))) (.junk) (.int i) (.bool true) (.junk),st:=GST w0 rows cs M (vT 1 (gJ vs) vs.length) }) (e:=.normal) (S':={ env:=GEV w0 rows cs N (gro 3 1 vs.length) (.int i) (.i (.isl (aP r))) (.junk) (.int i) (.bool true) (.bool bb),st:=GST w0 rows cs M (vT 1 (gJ vs) vs.length) }) (GPS.pX _ _ _ _) (by kernel_rfl) (by
    by_cases hi0:i=0
    ·have hv:vs.length=0:=by rw[← hgl,hi0];rfl
     subst hi0;simp[GEV,GST,hv,hbb]
    ·obtain⟨p,hp⟩:∃ p,M[i-1]?=some p:=⟨_,zX (by omega)⟩
     have hpn:fH (aM M) (i-1)=some [.isl (aP p)]:=bW hp;have hg:=FQ cs hcs p r (hr p (hMp.mem_iff.1 (zV hp))) hrr;have w3:IntKind.i64.wrap ((i:Int)-1)=((i-1:Nat):Int):=by rw[wrO];omega
     have hlt1:i-1<N:=by omega
     rw[hp]at hbb;simp only[zA]at hbb
     by_cases hk:bR (aZ cs p) (aZ cs r)=0<;>by_cases hv:vs.length=0<;>simp[GEV,GST,hv,aL,aI,hbb,hi0,hpn,hg,w3,hlt1,hMl,hxn,hk]) g3) ?_)
   rintro _ a4 w4 ⟨rfl,g4⟩;clear g3
   have hev:a4.eval (.tmp 37)=.bool bb:=by
    obtain⟨⟨m,φ,_,henv,_⟩,_⟩:=g4;have:=henv 37;exact this.dJ
   refine wp_cond hev ?_;clear hbb
   cases bb with
   | true =>
    simp only[if_true];by_cases hv0:vs=[]
    ·have hv0l:vs.length=0:=by rw[hv0];rfl
     rw[hv0l]at g4;simp only[Ad7,Aa1]at g4;generalize hE:aV (GEV w0 rows cs N (.nils) (.int i) (.i (.isl (aP r))) (.junk) (.int i) (.bool true) (.bool true))=E5 at g4;refine mE ?_;show wpOpsIn (FR none) 0 Tryz.prog _ _ (List.range 4) a4 w4;rw[show List.range 4=List.range' 0 1++(1::(List.range' 2 2++[]))from rfl];generalize hS:bK (GST w0 rows cs M [])=S5 at g4;refine GR.AN3 dE (GPS.pX _ _ _ _) 0 1 rfl ?_ (base:=3) (R0:={ env:=E5,st:=S5,log:=[] }) (R1:={ env:=upd E5 38 (.nils),st:=S5,log:=[] }) ?_ (g4.ok' fun id h=>.inl h) fun a6 w6 g6=>?_
     ·kernel_rfl
     ·subst hE;subst hS;simp[GEV,GST,AWV]
     rw[wpOpsIn_cons];obtain⟨y,w7,hrun,g7⟩:=GR.ARX (C:=C0) (j:=1) (t:=170) (e:=37) (d:=39) (z:=[.slice none 0 0]) (zi:=[.isl []]) (GPS.pX _ _ _ _) dE.ctx.zeros (by simp) (by simp) (by simp) rfl rfl (by omega) g6 (by omega);refine ABT (d:=39) rfl (v:=y) (w':=w7) (by simpa [Act.eval]using hrun) ?_;clear g4 g6;refine GR.AN3 dE (GPS.pX _ _ _ _) 2 2 rfl ?_ (base:=3) (R0:={ env:=upd (upd (E5) 38 (.nils)) 39 (.osl 11 1 0 1),st:=upd S5 11 (some (.arr 1 [[.lit (.slice none 0 0)]])),log:=[] }) (R1:={ env:=upd (upd (upd (upd (E5) 38 (.nils)) 39 (.osl 11 1 0 1)) 40 (.osl 19 1 0 1)) 7 (.osl 19 1 0 1),st:=upd (upd S5 11 (some (.arr 1 [[.lit (.slice none 0 0)]]))) 19 (some (.arr 1 [[.lit (.slice none 0 0)]])),log:=[] }) ?_ (g7.ok' fun id h=>kF (fun j hj=>by omega) h) fun a8 w8 g8=>?_
     ·kernel_rfl
     ·subst hE;subst hS;simp[GEV,GST,AWV]
     clear g7;have g9:=g8.settle (fun w m φ ids h=>GPS.keep ids h) [0,1,2,3,4,5,6,7,8,9,10,18,19,20,21,37]
     have hset:Av.settle [0,1,2,3,4,5,6,7,8,9,10,18,19,20,21,37] 0 (upd (upd (upd (upd (E5) 38 (.nils)) 39 (.osl 11 1 0 1)) 40 (.osl 19 1 0 1)) 7 (.osl 19 1 0 1)) (upd (upd S5 11 (some (.arr 1 [[.lit (.slice none 0 0)]]))) 19 (some (.arr 1 [[.lit (.slice none 0 0)]])))={ env:=GEV w0 rows cs N (.osl 3 1 0 (vs.length+1)) (.int i) (.i (.isl (aP r))) (.junk) (.int i) (.bool true) (.bool true),st:=GST w0 rows cs M [some (.arr 1 (gJ (vs++[.slice none 0 0])))] }:=by
      subst hE;subst hS;simp[GEV,GST,I8,hv0,gJ]
     rw[hset]at g9;clear g8 hset;refine⟨rfl,vs,runs cs (M.take i),bs, .slice none 0 0,[],0,hnew rfl,by simp,hvl,?_⟩;refine(g9.envTo ?_).mapR fun m φ k=>.inl ⟨rfl,rfl,k⟩
     intro t;simp only[GEV,aV];by_cases h37:t=37
     ·subst h37;simp
     ·right;simp[h37]
    ·have hv0l:vs.length≠0:=fun e=>hv0 (zW.1 e)
     have htkv:(gJ vs).take vs.length=gJ vs:=zZ (by simp);have hvb:(vs.length+1)*24≤140737488355328:=by omega
     rw[aL hv0l,aI hv0l]at g4;generalize hE:aV (GEV w0 rows cs N (.osl 3 1 0 vs.length) (.int i) (.i (.isl (aP r))) (.junk) (.int i) (.bool true) (.bool true))=E5 at g4;refine mE ?_;show wpOpsIn (FR none) 0 Tryz.prog _ _ (List.range 4) a4 w4;rw[show List.range 4=List.range' 0 1++(1::(List.range' 2 2++[]))from rfl];generalize hS:bK (GST w0 rows cs M [some (.arr 1 (gJ vs))])=S5 at g4;refine GR.AN3 dE (GPS.pX _ _ _ _) 0 1 rfl ?_ (base:=4) (R0:={ env:=E5,st:=S5,log:=[] }) (R1:={ env:=upd E5 38 (.osl 3 1 0 vs.length),st:=S5,log:=[] }) ?_ (g4.ok' fun id h=>.inl h) fun a6 w6 g6=>?_
     ·kernel_rfl
     ·subst hE;subst hS;simp[GEV,GST,AWV]
     rw[wpOpsIn_cons];obtain⟨y,w7,hrun,g7⟩:=GR.ARX (C:=C0) (j:=1) (t:=170) (e:=37) (d:=39) (z:=[.slice none 0 0]) (zi:=[.isl []]) (GPS.pX _ _ _ _) dE.ctx.zeros (by simp) (by simp) (by simp) rfl rfl (by omega) g6 (by omega);refine ABT (d:=39) rfl (v:=y) (w':=w7) (by simpa [Act.eval]using hrun) ?_;clear g4 g6;refine GR.AN3 dE (GPS.pX _ _ _ _) 2 2 rfl ?_ (base:=4) (R0:={ env:=upd (upd (E5) 38 (.osl 3 1 0 vs.length)) 39 (.osl 12 1 0 1),st:=upd S5 12 (some (.arr 1 [[.lit (.slice none 0 0)]])),log:=[] }) (R1:={ env:=upd (upd (upd (upd (E5) 38 (.osl 3 1 0 vs.length)) 39 (.osl 12 1 0 1)) 40 (.osl 20 1 0 (vs.length+1))) 7 (.osl 20 1 0 (vs.length+1)),st:=upd (upd (upd S5 12 (some (.arr 1 [[.lit (.slice none 0 0)]]))) 3 none) 20 (some (.arr 1 (gJ vs++[[.lit (.slice none 0 0)]]))),log:=[] }) ?_ (g7.ok' fun id h=>kF (fun j hj=>by omega) h) fun a8 w8 g8=>?_
     ·kernel_rfl
     ·subst hE;subst hS;simp[GEV,GST,AWV,htkv,hvb]
     clear g7;have g9:=g8.settle (fun w m φ ids h=>GPS.keep ids h) [0,1,2,3,4,5,6,7,8,9,10,18,19,20,21,37]
     have hset:Av.settle [0,1,2,3,4,5,6,7,8,9,10,18,19,20,21,37] 0 (upd (upd (upd (upd (E5) 38 (.osl 3 1 0 vs.length)) 39 (.osl 12 1 0 1)) 40 (.osl 20 1 0 (vs.length+1))) 7 (.osl 20 1 0 (vs.length+1))) (upd (upd (upd S5 12 (some (.arr 1 [[.lit (.slice none 0 0)]]))) 3 none) 20 (some (.arr 1 (gJ vs++[[.lit (.slice none 0 0)]]))))={ env:=GEV w0 rows cs N (.osl 3 1 0 (vs.length+1)) (.int i) (.i (.isl (aP r))) (.junk) (.int i) (.bool true) (.bool true),st:=GST w0 rows cs M [some (.arr 1 (gJ (vs++[.slice none 0 0])))] }:=by
      subst hE;subst hS;simp[GEV,GST,I8,gJ]
     rw[hset]at g9;clear g8 hset;refine⟨rfl,vs,runs cs (M.take i),bs, .slice none 0 0,[],0,hnew rfl,by simp,hvl,?_⟩;refine(g9.envTo ?_).mapR fun m φ k=>.inl ⟨rfl,rfl,k⟩
     intro t;simp only[GEV,aV];by_cases h37:t=37
     ·subst h37;simp
     ·right;simp[h37]
   | false =>
    simp only[z8,if_false];obtain⟨G,g,e1,e2⟩:=hold rfl;have l2:bs.length=vs.length:=by obtain⟨⟨m,φ,_,_,_,_,k⟩,_⟩:=g4;exact k.l2
    have hvne:vs≠[]:=fun e=>by rw[e1,e]at hgl;simp at hgl
    have hbne:bs≠[]:=fun e=>by rw[e]at l2;exact hvne (zW.1 l2.symm)
    obtain⟨vs0,v,rfl⟩:∃ vs0 v,vs=vs0++[v]:=⟨_,_,(yF hvne).symm⟩
    obtain⟨bs0,b,rfl⟩:∃ bs0 b,bs=bs0++[b]:=⟨_,_,(yF hbne).symm⟩
    have hvn:(vs0++[v]).length=vs0.length+1:=by simp
    rw[hvn]at g4 hvl;simp only[Aa0,AS6]at g4;refine wp_skip ⟨rfl,vs0,G,bs0,v,g,b,e2,?_,by omega,?_⟩
    ·have hm:g∈runs cs (M.take i):=by rw[e1];simp
     have:=AAF hm;rw[hfl]at this;have:(M.take i).length≤M.length:=by simp;omega
     omega
    ·rw[e1]at g4;refine((g4.envTo ?_).mapR fun m φ k=>.inr k);intro t;simp only[GEV,aV];by_cases h37:t=37
     ·subst h37;simp
     ·right;simp[h37]
  ·rintro _ a4 w4 ⟨rfl,vs0,gs0,bs0,v,g,b,hru,hgl2,hvl0,g4⟩;have wn:IntKind.i64.wrap (vs0.length:Int)=(vs0.length:Int):=wrO;refine wp_seq (wp_mono (GR.fF dE (G:=GS 147) (S:={ env:=GEV w0 rows cs N (.osl 3 1 0 (vs0.length+1)) (.int i) (.i (.isl (aP r))) (.junk) (.int i) (.bool true) (.junk),st:=GST w0 rows cs M [some (.arr 1 (gJ (vs0++[v])))] }) (e:=.normal) (S':={ env:=GEV w0 rows cs N (.osl 3 1 0 (vs0.length+1)) (.int i) (.i (.isl (aP r))) (.int vs0.length) (.int i) (.bool true) (.junk),st:=GST w0 rows cs M [some (.arr 1 (gJ (vs0++[v])))] }) (UI.pX _ _ _ _ _ _ _) (by kernel_rfl) (by simp[GEV,GST,wn]) g4) ?_);rintro _ a5 w5 ⟨rfl,g5⟩;clear g4 g3;refine mE ?_;show wpOpsIn (FR none) 0 Tryz.prog _ _ (List.range 11) a5 w5;rw[show List.range 11=List.range' 0 8++(8::(List.range' 9 2++[]))from rfl];generalize hE:aV (GEV w0 rows cs N (.osl 3 1 0 (vs0.length+1)) (.int i) (.i (.isl (aP r))) (.int vs0.length) (.int i) (.bool true) (.junk))=E5 at g5;generalize hS:bK (GST w0 rows cs M [some (.arr 1 (gJ (vs0++[v])))])=S5 at g5;have hlv:=AG0 vs0 v (n:=vs0.length) rfl;refine GR.AN3 dE (UI.pX _ _ _ _ _ _ _) 0 8 rfl ?_ (base:=4) (R0:={ env:=E5,st:=S5,log:=[] }) (R1:={ env:=upd (upd (upd (upd (upd (upd (upd (upd (E5) 44 (.osl 3 1 0 (vs0.length+1))) 45 (.int vs0.length)) 46 (.osl 3 1 0 (vs0.length+1))) 47 (.int vs0.length)) 48 (.ownE 3 1 vs0.length 0)) 49 (.i (.lit v))) 50 (.i (.isl (aP r)))) 51 (.osl 60 1 0 1),st:=upd S5 60 (some (.arr 1 [[.isl (aP r)]])),log:=[] }) ?_ (g5.ok' fun id h=>.inl h) fun a6 w6 g6=>?_
   ·kernel_rfl
   ·subst hE;subst hS;have hn1:(vs0.length:Int)<vs0.length+1:=by omega
    simp[GEV,GST,hlv,AWV,hn1]
   clear g5;rw[wpOpsIn_cons];obtain⟨y,w7,hrun,v',b',g7⟩:=GR.AaZ (C:=C0) (t:=37) (u:=37) (ty:=37) (e:=102) (by_:=24) (z:=[.slice none 0 0]) (r:=r) (x:=51) (d:=52) (s:=49) dE.ctx.zeros (by simp) (by simp) (by simp) (by simp) rfl (by omega) (by omega) (by simp) g6 rfl rfl (by omega);refine ZH (d:=52) rfl hrun ?_;clear g6
   have hcv:cellsOf (.i (.lit v'))=some [.i (.lit v')]:=by
    obtain⟨⟨m,φ,_,_,_,_,k⟩,_⟩:=g7;obtain⟨cap,us,T,rfl,_⟩:=k.AR2.2.1.ex;rfl
   refine GR.AN3 dE (GPS.pX _ _ _ _) 9 2 rfl ?_ (base:=4) (R0:={ env:=upd (upd (upd (upd (upd (upd (upd (upd (upd (E5) 44 (.osl 3 1 0 (vs0.length+1))) 45 (.int vs0.length)) 46 (.osl 3 1 0 (vs0.length+1))) 47 (.int vs0.length)) 48 (.ownE 3 1 vs0.length 0)) 49 (.i (.lit v))) 50 (.i (.isl (aP r)))) 51 (.osl 60 1 0 1)) 52 (.i (.lit v')),st:=upd S5 60 (some (.arr 1 [[.isl (aP r)]])),log:=[] }) (R1:={ env:=upd (upd (upd (upd (upd (upd (upd (upd (upd (upd (E5) 44 (.osl 3 1 0 (vs0.length+1))) 45 (.int vs0.length)) 46 (.osl 3 1 0 (vs0.length+1))) 47 (.int vs0.length)) 48 (.ownE 3 1 vs0.length 0)) 49 (.i (.lit v))) 50 (.i (.isl (aP r)))) 51 (.osl 60 1 0 1)) 52 (.i (.lit v'))) 53 (.ownE 3 1 vs0.length 0),st:=upd (upd S5 60 (some (.arr 1 [[.isl (aP r)]]))) 3 (some (.arr 1 (gJ (vs0++[v'])))),log:=[] }) ?_ (g7.ok' fun id h=>kF (fun j hj=>by omega) h) fun a8 w8 g8=>?_
   ·kernel_rfl
   ·subst hE;subst hS;have hn1:(vs0.length:Int)<vs0.length+1:=by omega
    have hsv:=AKH vs0 v v' (n:=vs0.length) rfl;simp[GEV,GST,hlv,AWV,hn1,hsv,hcv]
   clear g7;have g9:=g8.settle (fun w m φ ids h=>GPS.keep ids h) [0,1,2,3,4,5,6,7,8,9,10,18,19,20,21,37]
   have hset:Av.settle [0,1,2,3,4,5,6,7,8,9,10,18,19,20,21,37] 0 (upd (upd (upd (upd (upd (upd (upd (upd (upd (upd (E5) 44 (.osl 3 1 0 (vs0.length+1))) 45 (.int vs0.length)) 46 (.osl 3 1 0 (vs0.length+1))) 47 (.int vs0.length)) 48 (.ownE 3 1 vs0.length 0)) 49 (.i (.lit v))) 50 (.i (.isl (aP r)))) 51 (.osl 60 1 0 1)) 52 (.i (.lit v'))) 53 (.ownE 3 1 vs0.length 0)) (upd (upd S5 60 (some (.arr 1 [[.isl (aP r)]]))) 3 (some (.arr 1 (gJ (vs0++[v'])))))={ env:=GEV w0 rows cs N (.osl 3 1 0 (vs0.length+1)) (.int i) (.i (.isl (aP r))) (.int vs0.length) (.int i) (.bool true) (.junk),st:=GST w0 rows cs M [some (.arr 1 (gJ (vs0++[v'])))] }:=by
    subst hE;subst hS;simp[GEV,GST]
   rw[hset]at g9;clear g8 hset;have wi1:IntKind.i64.wrap ((i:Int)+1)=(i:Int)+1:=wrO;refine wp_mono (GR.fF dE (G:=GS 147) (S:={ env:=GEV w0 rows cs N (.osl 3 1 0 (vs0.length+1)) (.int i) (.i (.isl (aP r))) (.int vs0.length) (.int i) (.bool true) (.junk),st:=GST w0 rows cs M [some (.arr 1 (gJ (vs0++[v'])))] }) (e:=.normal) (S':={ env:=GEV w0 rows cs N (.osl 3 1 0 (vs0.length+1)) (.int i) (.i (.isl (aP r))) (.int vs0.length) (.int (i+1)) (.bool true) (.junk),st:=GST w0 rows cs M [some (.arr 1 (gJ (vs0++[v'])))] }) (GPS.pX _ _ _ _) (by kernel_rfl) (by simp[GEV,GST,wi1]) g9) ?_;rintro _ a9 w9 ⟨rfl,g10⟩;clear g9;refine⟨N-(i+1),by omega,i+1,vs0++[v'],bs0++[b'],rfl,by omega,?_⟩;rw[hru];have hvn:(vs0++[v']).length=vs0.length+1:=by simp
   have he:∀ t,aV (GLX w0 rows cs N M (vs0++[v']) (i+1)).env t=.junk∨aV (GLX w0 rows cs N M (vs0++[v']) (i+1)).env t=aV (GEV w0 rows cs N (.osl 3 1 0 (vs0.length+1)) (.int i) (.i (.isl (aP r))) (.int vs0.length) (.int (i+1)) (.bool true) (.junk)) t:=by
    intro t;simp only[GLX,GEV,aV,hvn,Aa0];by_cases h8:t=8
    ·subst h8;simp
    by_cases h9:t=9
    ·subst h9;simp
    by_cases h10:t=10
    ·subst h10;simp
    by_cases h21:t=21
    ·subst h21;simp
    ·right;simp[h8,h9,h10,h21]
   have g11:=g10.envTo he;have hs2:(GLX w0 rows cs N M (vs0++[v']) (i+1)).st=GST w0 rows cs M [some (.arr 1 (gJ (vs0++[v'])))]:=by simp only[GLX,hvn,AS6]
   rw[hs2];exact g11
 ·have hieq:i=N:=by omega
  subst hieq
  have hvs:vs.length≠0:=by
   rw[← hgl,zZ (by omega)];exact fun e=>(DL cs _ M rfl).2.1 (fun e=>by rw[e]at hMl;simp at hMl;omega) (zW.1 e)
  refine wp_seq (wp_mono (GR.fF dE (G:=GS 147) (S:=GLX w0 rows cs i M vs i) (e:=.normal) (S':={ env:=GEV w0 rows cs i (gro 3 1 vs.length) .junk .junk .junk (.int i) (.bool false) .junk,st:=GST w0 rows cs M (vT 1 (gJ vs) vs.length) }) (GPS.pX _ _ _ _) (by kernel_rfl) (by simp[GLX,GEV,GST,aL hvs,aI hvs]) g) ?_);rintro _ a1 w1 ⟨rfl,g1⟩;refine wp_seq (wp_mono (GR.fF dE (G:=GS 147) (S:={ env:=GEV w0 rows cs i (gro 3 1 vs.length) .junk .junk .junk (.int i) (.bool false) .junk,st:=GST w0 rows cs M (vT 1 (gJ vs) vs.length) }) (e:=.exit 0) (S':={ env:=GEV w0 rows cs i (gro 3 1 vs.length) .junk .junk .junk (.int i) (.bool false) .junk,st:=GST w0 rows cs M (vT 1 (gJ vs) vs.length) }) (GPS.pX _ _ _ _) (by kernel_rfl) (by simp[GLX,GEV,GST,aL hvs,aI hvs]) g1) ?_);rintro _ a2 w2 ⟨rfl,g2⟩;simp only[nT,Exit.then,Exit.inBlock,if_true];rw[zZ (by omega)]at g2 hgl;have g3:=g2.APN (id:=3) (by rw[aI hvs];rfl)
  have g3:GR wi mi 56 (fun id=>id<({ env:=GEV w0 rows cs i (gro 3 1 vs.length) .junk .junk .junk (.int i) (.bool false) .junk,st:=GST w0 rows cs M [some (.arr 1 (pY (runs cs M)))] }:AS).st.length) (fun _ _ _=>True) (aV (GEV w0 rows cs i (gro 3 1 vs.length) .junk .junk .junk (.int i) (.bool false) .junk)) (bK (GST w0 rows cs M [some (.arr 1 (pY (runs cs M)))])) a2 w2:=by
   have he:upd (bK (GST w0 rows cs M (vT 1 (gJ vs) vs.length))) 3 (some (.arr 1 (pY (runs cs M))))=bK (GST w0 rows cs M [some (.arr 1 (pY (runs cs M)))]):=by
    rw[aI hvs];funext id
    rcases id with _|_|_|_|id<;>simp[upd,bK,GST]
   simp only[he]at g3;exact g3.ok' fun id h=>by rw[aI hvs]at h;exact h
  refine wp_mono (GR.fF dE (G:=GS 147) (S:={ env:=GEV w0 rows cs i (gro 3 1 vs.length) .junk .junk .junk (.int i) (.bool false) .junk,st:=GST w0 rows cs M [some (.arr 1 (pY (runs cs M)))] }) (e:=.ret) (S':={ env:=[(0, .i (.agg [.int w0, .isl (aM rows)])),(1, .i (.isl (aG cs))),(2, .own 0 0),(3, .own 1 0),(4, .osl 3 1 0 vs.length),(5, .osl 2 1 0 i),(6, .fn (.func 184) [.own 1 0]),(7, .osl 3 1 0 vs.length),(8, .junk),(9, .junk),(10, .junk),(18, .osl 2 1 0 i),(19, .int i),(20, .int i),(21, .bool false),(37, .junk)],st:=[some (.box [.i (.int w0), .i (.isl (aM rows))]),some (.box [.i (.isl (aG cs))]),some (.arr 1 (aM M)),some (.arr 1 (pY (runs cs M)))] }) nS (by kernel_rfl) (by simp[GEV,GST,aL hvs]) g3) ?_;rintro _ a3 w3 ⟨rfl,g4⟩;obtain⟨⟨m,φ,q1,q2,q3,q4,q5⟩,q6,q7⟩:=g4
  obtain⟨v,k1,k2⟩:=iH (C:=C0) (fn:=Tryz.f147) (keep:=false) (na:=0) (S:={ env:=[(0, .i (.agg [.int w0, .isl (aM rows)])),(1, .i (.isl (aG cs))),(2, .own 0 0),(3, .own 1 0),(4, .osl 3 1 0 vs.length),(5, .osl 2 1 0 i),(6, .fn (.func 184) [.own 1 0]),(7, .osl 3 1 0 vs.length),(8, .junk),(9, .junk),(10, .junk),(18, .osl 2 1 0 i),(19, .int i),(20, .int i),(21, .bool false),(37, .junk)],st:=[some (.box [.i (.int w0), .i (.isl (aM rows))]),some (.box [.i (.isl (aG cs))]),some (.arr 1 (aM M)),some (.arr 1 (pY (runs cs M)))] }) (r:=.i (.isl (pY (runs cs M)))) (stl':=[]) (fun id h=>absurd rfl h) ⟨⟨⟨m,φ,q1,q2,q3,q4, .nil _ _ _⟩,q6,q7⟩,x8 _⟩ (by
   show finish C0 false [ResultVar.tmp 4] 0 _=_;have e1:(pY (runs cs M)).take vs.length=pY (runs cs M):=zZ (by simp;omega)
   simp[hgl,e1])
  exact⟨q7,v,k1,k2⟩
end Go.Proofs.YtnmimmaahhlgeaaGreat.P
namespace Go.Av
open Go.Proofs Go.Shelf Go.RowKit Go.Lib Go.Sort
abbrev AOW (l:List (List Val)):Prop:=∀ r∈l,r.all Val.ok=true∧r.length<1000000
noncomputable def AO9 (g0 g n:Nat) (es:List (List IV)):Option (AV×StL):=open Classical in if h:g=g0∧0<n∧n<4611686018427387904∧∃ rows,es=aM rows∧rows.length=n∧AOW rows then some (.tup [],[some (.arr 1 (aM (dF h.2.2.2.choose)))])else none
noncomputable def NV (g0:FuncId):List AV→StL→Option (AV×StL)
 | [.osl 0 1 0 n, .fn (.func g) []],[some (.arr 1 es)]=>AO9 g0 g n es
 | [.nils, .fn (.func g) []],[]=>if g=g0 then some (.tup [],[])else none
 | _,_=>none
theorem V3:∀ {a b:List Val},aP a=aP b→a=b
 | [],[],_=>rfl
 | [],_::_,h=>by simp[aP]at h
 | _::_,[],h=>by simp[aP]at h
 | a::l,b::m,h=>by
  simp only[aP,List.cons.injEq]at h;obtain⟨⟨h1,h2,_⟩,h3⟩:=h;have e1:a.null=b.null:=by injection h1 with h1;injection h1
  have e2:a.n=b.n:=by injection h2 with h2;injection h2
  rw[V3 h3]
  cases a;cases b;simp_all
theorem KG:∀ {a b:List (List Val)},aM a=aM b→a=b
 | [],[],_=>rfl
 | [],_::_,h=>by simp[aM]at h
 | _::_,[],h=>by simp[aM]at h
 | a::l,b::m,h=>by
  rw[bO,bO]at h;simp only[List.cons.injEq,IV.isl.injEq,and_true]at h;rw[V3 h.1,KG h.2]
theorem F8 {g0 n:Nat} {rows:List (List Val)} (h0:rows≠[]) (hn:rows.length=n) (hs:n<4611686018427387904) (ho:AOW rows):NV g0 [.osl 0 1 0 n, .fn (.func g0) []] [some (.arr 1 (aM rows))]=some (.tup [],[some (.arr 1 (aM (dF rows)))]):=by
 have hp:0<n:=by have:=xX.2 h0;omega
 have hc:g0=g0∧0<n∧n<4611686018427387904∧∃ rows',aM rows=aM rows'∧rows'.length=n∧AOW rows':=⟨rfl,hp,hs,rows,rfl,hn,ho⟩
 show AO9 g0 g0 n (aM rows)=_;unfold AO9;rw[dif_pos hc];rw[← KG hc.2.2.2.choose_spec.1]
theorem K8 (g0:Nat):NV g0 [.nils, .fn (.func g0) []] []=some (.tup [],[]):=if_pos rfl
theorem ZX {g0:Nat} {args:List AV} {st:StL} {p:AV×StL} (h:NV g0 args st=some p):(∃ rows n,args=[.osl 0 1 0 n, .fn (.func g0) []]∧st=[some (.arr 1 (aM rows))]∧rows.length=n∧0<n∧n<4611686018427387904∧AOW rows∧p=(.tup [],[some (.arr 1 (aM (dF rows)))]))∨(args=[.nils, .fn (.func g0) []]∧st=[]∧p=(.tup [],[])):=by
 unfold NV at h;split at h
 ·unfold AO9 at h;split at h
  ·rename_i hc;injection h with h;obtain⟨rfl,h1,h2,h3⟩:=hc;have h4:=h3.choose_spec;exact .inl ⟨h3.choose,_,rfl,by rw[← h4.1],h4.2.1,h1,h2,h4.2.2,h.symm⟩
  ·cases h
 ·split at h
  ·rename_i hg;subst hg;injection h with h;exact .inr ⟨rfl,rfl,h.symm⟩
  ·cases h
 ·cases h
structure RowIn (m:Mem) where
 v:Value
 r:List Val
 one:v.oneCell'=true
 rep:IRep m (.isl (aP r)) v
 ok:r.all Val.ok=true
 len:r.length<1000000
theorem AIW {m:Mem}:∀ {rows:List (List Val)} {vs:List Value},AOW rows→ICells m (aM rows).flatten vs→∃ ps:List (RowIn m),ps.map (·.v)=vs∧ps.map (·.r)=rows
 | [],vs,_,h=>by
  simp only[aM,zG9,List.flatten_nil]at h
  cases h
  exact⟨[],rfl,rfl⟩
 | r::rows,vs,ho,h=>by
  rw[bO,yX]at h;simp only[yR,xW]at h
  cases h with
  | cons a o b =>
   obtain⟨ps,h1,h2⟩:=AIW (fun x hx=>ho x (by simp[hx])) b;exact⟨⟨_,r,o,a,(ho r (by simp)).1,(ho r (by simp)).2⟩::ps,by simp[h1],by simp[h2]⟩
theorem MC {m:Mem}:∀ ps:List (RowIn m),ICells m (aM (ps.map (·.r))).flatten (ps.map (·.v))
 | []=>.nil
 | p::ps=>by
  rw[yQ,yQ,bO,yX];simp only[yR,xW];exact .cons p.rep p.one (MC ps)
theorem AIY {m:Mem}:SWO (ltOf fun(x y:RowIn m)=>bR x.r y.r):=by
 constructor
 ·intro x;simp[ltOf,jF]
 ·intro x y z h1 h2;simp only[ltOf,zS]at *
  have k1:=iU z.r x.r
  have k2:¬ bR z.r x.r≤0:=by
   intro h3;have:=qH (a:=z.r) (b:=x.r) (c:=y.r) h3 (by omega);have:=iU y.r z.r;omega
  omega
 ·intro x y z h1 h2;simp only[ltOf,zA8]at *
  have k1:=iU x.r y.r;have k2:=iU y.r z.r;have k3:=iU x.r z.r;have:=qH (a:=z.r) (b:=y.r) (c:=x.r) (by omega) (by omega);omega
theorem grown_of {W W':World} {m m':Mem} {φ':Pl} (h:Adv W m (fun _=>none) W' m' φ'):∃ q os',W'=grow (W.drewN q) os':=by
 refine⟨W'.drawn-W.drawn,W'.heap.extract W.heap.size W'.heap.size,?_⟩;have h1:=h.tape.tape;have h2:=h.tape.fwd;have h3:=h.os;have h4:=h.output
 have h5:W'.heap=W.heap++W'.heap.extract W.heap.size W'.heap.size:=by
  apply Array.ext_getElem?;intro i;rw[Array.getElem?_append];split
  ·rename_i hi;exact h.block i hi fun id b n e=>by cases e
  ·rename_i hi;rw[Array.getElem?_extract];split
   ·rw[show W.heap.size+(i-W.heap.size)=i by omega]
   ·rw[zD3 (by omega)]
 unfold grow World.drewN
 cases W';cases W
 simp only[World.mk.injEq]at *
 exact⟨h5,h1,by omega,h3,h4⟩
instance {m:Mem}:Inhabited (RowIn m):=⟨⟨.slice none 0 0,[],rfl, .isl0 _ _ fun _=>rfl,rfl,by decide⟩⟩
theorem WE {m:Mem} {d:Array (RowIn m)} {vs:List Value} (h:d.size≤vs.length):putCells (fun x:RowIn m=>x.v) 0 d vs.toArray=(d.toList.map (·.v)++vs.drop d.size).toArray:=by
 apply Array.ext_getElem?;intro i;unfold putCells;rw[Array.getElem?_mapIdx];simp only[List.getElem?_toArray,zB,x8,true_and,Nat.sub_zero];by_cases hi:i<d.size
 ·rw[zL (by simpa using hi),zH,zX (show i<vs.length by omega),zX (show i<d.toList.length by simpa using hi)];simp only[hi,if_true,yI];rw[zG5 d i hi];simp
 ·rw[zN (by simpa using hi),yM,y5,yP,show d.size+(i-d.size)=i by omega];simp only[hi,if_false]
  cases vs[i]?<;>rfl
theorem AF6 {C:Ctx} (hS:SoundOk C) {g0:FuncId} {ρ:Go.Shelf.Ren} (L:SlLaysF.n6 C.P ρ) (hy:g0≠uF) (eg:∀ args w,(callFunc g0 args).run C.P w=.ok (.enter g0 args) w)
 (hcmp:∀ a b:List Val,a.all Val.ok=true→b.all Val.ok=true→a.length<1000000→b.length<1000000→aH C g0 [.i (.isl (aP a)), .i (.isl (aP b))] []=some (.int (bR a b),[]))
 {args:List AV} {stl stl':StL} {r:AV} (h:NV g0 args stl=some (r,stl')) (w:World) (m:Mem) (φ:Pl) (vs:List Value) (hi:Inv w m φ (bK stl)) (hr:RepL m φ args vs) (h0:∀ id,φ id≠none→id<stl.length) :
 Calls C.P (ρ.f 6) vs.toArray w (bY w m φ r stl'):=by
 rcases ZX h with ⟨rows,n,rfl,rfl,hn,hp,hs,ho,he⟩|⟨rfl,rfl,he⟩
 ·injection he with he1 he2;subst he1;subst he2
  cases hr with
  | cons r0 rr =>
   cases rr with
   | cons r1 rr =>
    cases rr
    cases r1 with
    | fn rc =>
     cases rc
     cases r0 with
     | osl e1 e2 e3 e4 e5 =>
      rename_i cap b nx ao;obtain⟨hown,hk⟩:=eO hi e1 (show bK [some (Blk.arr 1 (aM rows))] 0=some (.arr 1 (aM rows))from rfl);have hao:=e4 (by omega);subst hao
      cases hk with
      | arr k1 k2 k3 k4 k5 k6 k7 k8 k9 =>
       rename_i T us;have hrl:(aM rows).length=n:=by rw[qG,hn]
       rw[hrl,Nat.one_mul]at k5 k6;obtain⟨ps,p1,p2⟩:=AIW ho k5;have hpl:ps.length=n:=by have:=congrArg List.length p2;simpa [hn]using this
       have hus:n≤us.length:=by omega
       have hcells:∀ j,j<n→w.cell? ⟨b,0+j,none⟩=some (ps.toArray[j]!).v:=by
        intro j hj;rw[zB,bU k1];have h2:(us.take n)[j]?=us[j]?:=by rw[zD,if_pos hj]
        rw[← h2,← p1,zH];rw[zG5 ps.toArray j (by simpa [hpl]using hj),zX (by omega)];simp
       have hH:Holds (fun x:RowIn m=>x.v) w b 0 ps.toArray:=by
        intro j hj;have hj':j<n:=by simpa [hpl]using hj
        refine⟨hcells j hj',?_⟩;unfold World.frozen?;rw[k1];simp
       have hblt:b<w.heap.size:=hown.2 b hown.1;have hsz:ps.toArray.size=n:=by simpa using hpl
       have hC:CmpLays1 C.P g0 #[] (fun x:RowIn m=>x.v) (fun x y=>bR x.r y.r) b 0 ps.toArray.size w:=by
        intro k os dk hdk x y
        have hmem:oI (sortWorld (fun x:RowIn m=>x.v) w b 0 k dk os) m:=by
         intro b' o v hv;have hne:b'≠b:=fun e=>by subst e;rw[k7 o]at hv;cases hv
         have hlt:b'<w.heap.size:=hi.mem.lt hv;unfold sortWorld;rw[cell?_grow _ _ _ (by simpa [Sort.ahead]using hlt),cell?_putRow_other _ _ _ _ _ _ (.inl hne)];exact hi.mem b' o v hv
        have hcall:=(bH hS).calls g0 [.i (.isl (aP x.r)), .i (.isl (aP y.r))] [] _ _ hy (hcmp x.r y.r x.ok y.ok x.len y.len) (sortWorld (fun x:RowIn m=>x.v) w b 0 k dk os) m (fun _=>none) [x.v,y.v]
         ⟨hmem,fun id blk e=>(by simp[bK]at e),fun i j b b' n n' b1 b2 f e=>(by simp[bK]at e),fun _ _ _ _ e=>(by cases e)⟩ (.cons (.i x.rep) (.cons (.i y.rep) .nil)) (fun id e=>absurd rfl e)
        refine(show Calls C.P g0 (#[x.v,y.v] ++ #[]) _ _ from hcall).mono ?_;rintro e w' ⟨v,m',φ',rfl,j1,_,j3,_⟩;refine⟨?_,grown_of j3⟩
        cases j1 with
        | i j1=>cases j1;rfl
       have hsort:=Any.slices_SortFunc (P:=C.P) (ρ:=ρ) L (fun x:RowIn m=>x.v) (fun x=>x.one) (fun x y=>bR x.r y.r) AIY g0 #[] b 0 cap ps.toArray w eg hC hH hblt (by rw[hsz];exact hs)
       rw[hsz]at hsort;refine(show Calls C.P (ρ.f 6) #[.slice (some ⟨b,0,none⟩) n cap, .func (.func g0) #[] #[]] w _ from hsort).mono ?_;rintro e w' ⟨rfl,d',q,os,hpm,hst,rfl⟩;obtain⟨hd1,_,hd3⟩:=hpm;rw[hsz]at hd1
       have hperm:(d'.toList.map (·.r)).Perm rows:=by
        rw[← p2]
        have:d'.toList.Perm ps:=by
         have e1:d'.extract 0 n=d':=by rw[← hd1];exact Array.extract_size
         have e2:ps.toArray.extract 0 n=ps.toArray:=by rw[← hsz];exact Array.extract_size
         rw[e1,e2]at hd3;exact hd3
        exact this.map _
       have hsrt:Srt (d'.toList.map (·.r)):=by
        rw[Srt,List.pairwise_map,zE6];intro i j hi' hj' hij;have hi2:i<d'.size:=by simpa using hi'
        have hj2:j<d'.size:=by simpa using hj'
        have:=hst i j (x8 _) hij (by omega);rw[zG5 d' i hi2,zG5 d' j hj2]at this;simp only[ltOf,zA8]at this;have h3:=iU d'[j].r d'[i].r;unfold fA;simp only[Array.getElem_toList,zS];omega
       have heq:=RL hperm hsrt fun r hr=>(ho r hr).1
       rw[← heq]
       have hput:(putRow (fun x:RowIn m=>x.v) (Sort.ahead w q) b 0 d').heap[b]?=some (.cells (d'.toList.map (·.v)++us.drop n).toArray T (0,0)):=by
        unfold putRow mapBlock;show(w.heap.modify b _)[b]?=_;rw[Array.getElem?_modify,if_pos rfl,k1];simp only[yI,onCells];rw[WE (by omega),hd1]
       have hoth:∀ x,x≠b→(putRow (fun x:RowIn m=>x.v) (Sort.ahead w q) b 0 d').heap[x]?=w.heap[x]?:=by
        intro x hx;unfold putRow mapBlock;show(w.heap.modify b _)[x]?=_;rw[Array.getElem?_modify,if_neg (Ne.symm hx)]
       have hlen:(d'.toList.map (·.v)++us.drop n).length=nx.len:=by simp[hd1];omega
       obtain⟨i1,a1⟩:=hi.AcA (w':=putRow (fun x:RowIn m=>x.v) (Sort.ahead w q) b 0 d') (blk:=.arr 1 (aM rows)) (blk':=.arr 1 (aM (d'.toList.map (·.r)))) rfl e1 k7 (by exact Array.size_modify) hoth ⟨rfl,⟨rfl,Nat.le_add_right _ _⟩,rfl⟩
        (.arr (T:=T) hput hlen (by omega) (fun e he=>by
         obtain⟨r,_,rfl⟩:=zG.1 he;rfl) (by
         have hdl:(aM (d'.toList.map (·.r))).length=n:=by simp[hd1]
         rw[hdl,Nat.one_mul,zA6 (by simp[hd1]),zZ (by simp[hd1])]
         exact MC d'.toList) (by rw[qG,y5,yP,hd1];omega) k7 k8 (fun v hv=>by
         rcases zT.1 hv with hv|hv
         ·obtain⟨x,_,rfl⟩:=zG.1 hv;exact x.one
         ·exact k9 v (yO hv)))
       have hgrow:∀ f,f<(putRow (fun x:RowIn m=>x.v) (Sort.ahead w q) b 0 d').heap.size→(grow (putRow (fun x:RowIn m=>x.v) (Sort.ahead w q) b 0 d') os).heap[f]?=(putRow (fun x:RowIn m=>x.v) (Sort.ahead w q) b 0 d').heap[f]?:=by
        intro f hf;unfold grow;simp only;rw[Array.getElem?_append,if_pos hf]
       have hst':upd (bK [some (Blk.arr 1 (aM rows))]) 0 (some (.arr 1 (aM (d'.toList.map (·.r)))))=bK [some (.arr 1 (aM (d'.toList.map (·.r))))]:=by
        funext id
        cases id with
        | zero=>rfl
        | succ id=>rfl
       rw[hst']at i1;refine⟨.tuple #[],m,φ,rfl, .tup .nil,i1.later (by unfold sortWorld grow;simp) hgrow,a1.trans ⟨by unfold sortWorld grow;simp,rfl,⟨rfl,zJ _⟩,rfl,fun f hf _=>hgrow f hf, .refl _,fun _ _ _ _=>rfl, .refl _,fun id b n f e ho=>.inr (mD.not e ho)⟩,h0⟩
 ·injection he with he1 he2;subst he1;subst he2
  cases hr with
  | cons r0 rr =>
   cases rr with
   | cons r1 rr =>
    cases rr
    cases r0
    cases r1 with
    | fn rc =>
     cases rc
     have hnone:=AnyF.slices_SortFunc_none (P:=C.P) (ρ:=ρ) { L with } none 0 (.func (.func g0) #[] #[]) w;refine(show Calls C.P (ρ.f 6) #[.slice none 0 0, .func (.func g0) #[] #[]] w _ from hnone).mono ?_;rintro e w' ⟨rfl,rfl⟩;exact⟨_,m,φ,rfl, .tup .nil,hi, .refl _ _ _,h0⟩
end Go.Av
namespace Go.Av
open Go.Proofs Go.Shelf Go.RowKit Go.Lib
def MH:List AV→StL→Option (AV×StL)
 | [.nils, .i (.lit (.int .i64 n))],[]=>if n=0 then some (.nils,[])else tst (decide (0<n∧n≤1000000)) (some (.osl 0 1 0 0,[some (.arr 1 [])]))
 | _,_=>none
theorem AAT {args:List AV} {st:StL} {p:AV×StL} (h:MH args st=some p):∃ n:Int,args=[.nils, .i (.lit (.int .i64 n))]∧st=[]∧((n=0∧p=(.nils,[]))∨(0<n∧n≤1000000∧p=(.osl 0 1 0 0,[some (.arr 1 [])]))):=by
 unfold MH at h;split at h
 ·rename_i n;refine⟨n,rfl,rfl,?_⟩;split at h
  ·rename_i h0;injection h with h;exact .inl ⟨h0,h.symm⟩
  ·obtain⟨h1,h2⟩:=aU.1 h;injection h2 with h2;have h1:=zO h1;exact .inr ⟨h1.1,h1.2,h2.symm⟩
 ·cases h
theorem AG9 {C:Ctx} {ρ:Go.Shelf.Ren} (L:Lays8.n4 C.P ρ) {i0:TypeInfo} {z:Value} (hi0:C.P.info? (ρ.t 25)=some i0) (hz0:i0.zero=some z) (hs0:i0.size=1) (hb:i0.bytes≤100000) (hzc:z.cells.size=1) (hz1:∀ v∈z.cells.toList,v.oneCell'=true)
 {args:List AV} {stl stl':StL} {r:AV} (h:MH args stl=some (r,stl')) (w:World) (m:Mem) (φ:Pl) (vs:List Value) (hi:Inv w m φ (bK stl)) (hr:RepL m φ args vs) (h0:∀ id,φ id≠none→id<stl.length) :
 Calls C.P (ρ.f 4) vs.toArray w (bY w m φ r stl'):=by
 obtain⟨n,rfl,rfl,hc⟩:=AAT h
 cases hr with
 | cons r0 rr =>
  cases rr with
  | cons r1 rr =>
   cases rr
   cases r0
   rw[r1.dJ]
   rcases hc with ⟨rfl,he⟩|⟨h1,h2,he⟩
   ·injection he with he1 he2;subst he1;subst he2;have hcon:=Any8.slices_Grow_room L none 0 0 0 w (zJ _) (by omega) (by omega) (zJ _);refine(show Calls C.P (ρ.f 4) #[.slice none 0 0, .int .i64 0] w _ from hcon).mono ?_;rintro e w' ⟨rfl,rfl⟩;exact⟨_,m,φ,rfl, .nils,hi, .refl _ _ _,h0⟩
   ·injection he with he1 he2;subst he1;subst he2
    obtain⟨k,rfl⟩:∃ k:Nat,n=k:=⟨n.toNat,by omega⟩
    have hbk:(0+k)*i0.bytes≤140737488355328:=by
     have:(0+k)*i0.bytes≤1000000*100000:=zF2 (by omega) hb;omega
    have hcon:=Any8.slices_Grow_grow L i0 z hi0 hz0 (by omega) none 0 0 k [] w (zJ _) (by omega) hbk (by omega) (by simp) (fun _=>rfl) (fun a e=>by cases e);refine(show Calls C.P (ρ.f 4) #[.slice none 0 0, .int .i64 k] w _ from hcon).mono ?_;rintro e w' ⟨rfl,rfl⟩
    have hcap:0+k≤grownCap w (0+k) 0 (ρ.t 25):=by
     unfold grownCap;show 0+k≤(0+k)+_;omega
    generalize grownCap w (0+k) 0 (ρ.t 25)=cap at hcap ⊢;generalize hcs:(#[]++Builtin.zeroCells z.cells (0+k-0)++Builtin.zeroCells z.cells (cap-(0+k)):Array Value)=cs;have hcs2:cs.size=cap:=by rw[← hcs];simp[Builtin.zeroCells,hzc];omega
    have hone:∀ v∈cs.toList,v.oneCell'=true:=by
     intro v hv;rw[← hcs]at hv;simp only[Array.toList_append,zT]at hv
     rcases hv with (hv|hv)|hv
     ·simp at hv
     ·exact hz1 v (sO hv)
     ·exact hz1 v (sO hv)
    have hφ:φ 0=none:=by
     cases e:φ 0 with
     | none=>rfl
     | some p=>exact absurd (h0 0 (by rw[e];simp)) (by simp)
    have hcl:cs=cs.toList.toArray:=by simp
    have hblk:BlkOk (w.drew.alloc (.cells cs (ρ.t 25))) m (nR φ 0 (w.drew.heap.size,one w.drew.heap.size cs.toList.length)) w.drew.heap.size (one w.drew.heap.size cs.toList.length) (.arr 1 []):=by
     refine .arr (T:=ρ.t 25) (vs:=cs.toList) (by rw[← hcl];exact fM w.drew _) rfl (by omega) (by simp) (by simpa using ICells.nil) (by simp) ?_ (fun _ hf=>hf) hone;intro o
     cases hm:m w.drew.heap.size o with
     | none=>rfl
     | some u=>exact absurd (hi.mem.lt hm) (by show ¬ w.heap.size<w.heap.size;omega)
    obtain⟨k1,k2⟩:=hi.drew.push hφ _ hblk
    have hst:upd (bK []) 0 (some (Blk.arr 1 []))=bK [some (.arr 1 [])]:=by
     funext id;cases id<;>rfl
    rw[hst]at k1;refine⟨_,m,_,rfl, .osl (dV _ _ _) (by omega) ?_ (fun _=>rfl) (fun h=>by cases h),k1,(Adv.drew w m φ).trans k2,fun id hid=>?_⟩
    ·simp[LA,hcs2]
    ·unfold nR at hid;split at hid
     ·rename_i e;subst e;simp
     ·exact absurd (h0 id hid) (by simp)
end Go.Av
namespace Go.Proofs
open Go.Shelf
def Tryz.XU:Go.Shelf.Ren:=⟨fun|4=>144|n=>n,fun|22=>37|25=>102|3=>3|4=>4|9=>9|20=>20|0=>0|n=>n,fun|n=>n⟩
theorem Tryz.APO:Go.Proofs.Lays8.n4 Tryz.prog Tryz.XU:={
 mixed:=by kernel_rfl
 f4:=⟨Tryz.f144.name,by decide,Tryz.func144.trans (congrArg some (by kernel_rfl))⟩
 t0:=Tryz.underlying0
 a0:=Tryz.isAgg0
 z0:=Tryz.sizeOf0
 v0:=Tryz.zeroValue0
 t3:=Tryz.underlying3
 a3:=Tryz.isAgg3
 z3:=Tryz.sizeOf3
 v3:=Tryz.zeroValue3
 t4:=Tryz.underlying4
 a4:=Tryz.isAgg4
 z4:=Tryz.sizeOf4
 v4:=Tryz.zeroValue4
 t9:=Tryz.underlying9
 a9:=Tryz.isAgg9
 z9:=Tryz.sizeOf9
 v9:=Tryz.zeroValue9
 t20:=Tryz.underlying20
 a20:=Tryz.isAgg20
 z20:=Tryz.sizeOf20
 v20:=Tryz.zeroValue20
 t22:=Tryz.underlying37
 a22:=Tryz.isAgg37
 z22:=Tryz.sizeOf37
 v22:=Tryz.zeroValue37 }
def Tryz.VJ:Go.Shelf.Ren:=⟨fun|6=>151|15=>187|14=>186|28=>207|29=>208|20=>199|21=>200|22=>201|23=>202|24=>203|25=>204|26=>205|27=>206|46=>216|47=>217|48=>218|49=>219|50=>220|57=>223|n=>n,fun|22=>37|24=>102|25=>130|3=>3|39=>193|0=>0|53=>209|55=>211|4=>4|46=>202|45=>201|50=>206|5=>5|9=>9|66=>213|70=>78|76=>218|77=>132|n=>n,fun|n=>n⟩
theorem Tryz.AO8:Go.Proofs.SlLaysF.n6 Tryz.prog Tryz.VJ:={
 mixed:=by kernel_rfl
 f6:=⟨Tryz.f151.name,by decide,Tryz.func151.trans (congrArg some (by kernel_rfl))⟩
 f14:=⟨Tryz.f186.name,by decide,Tryz.func186.trans (congrArg some (by kernel_rfl))⟩
 f15:=Tryz.func187.trans (congrArg some (by kernel_rfl))
 f20:=⟨Tryz.f199.name,by decide,Tryz.func199.trans (congrArg some (by kernel_rfl))⟩
 f21:=⟨Tryz.f200.name,by decide,Tryz.func200.trans (congrArg some (by kernel_rfl))⟩
 f22:=⟨Tryz.f201.name,by decide,Tryz.func201.trans (congrArg some (by kernel_rfl))⟩
 f23:=⟨Tryz.f202.name,by decide,Tryz.func202.trans (congrArg some (by kernel_rfl))⟩
 f24:=⟨Tryz.f203.name,by decide,Tryz.func203.trans (congrArg some (by kernel_rfl))⟩
 f25:=⟨Tryz.f204.name,by decide,Tryz.func204.trans (congrArg some (by kernel_rfl))⟩
 f26:=⟨Tryz.f205.name,by decide,Tryz.func205.trans (congrArg some (by kernel_rfl))⟩
 f27:=⟨Tryz.f206.name,by decide,Tryz.func206.trans (congrArg some (by kernel_rfl))⟩
 f28:=Tryz.func207.trans (congrArg some (by kernel_rfl))
 f29:=Tryz.func208.trans (congrArg some (by kernel_rfl))
 f46:=⟨Tryz.f216.name,by decide,Tryz.func216.trans (congrArg some (by kernel_rfl))⟩
 f47:=Tryz.func217.trans (congrArg some (by kernel_rfl))
 f48:=Tryz.func218.trans (congrArg some (by kernel_rfl))
 f49:=⟨Tryz.f219.name,by decide,Tryz.func219.trans (congrArg some (by kernel_rfl))⟩
 f50:=⟨Tryz.f220.name,by decide,Tryz.func220.trans (congrArg some (by kernel_rfl))⟩
 f57:=⟨Tryz.f223.name,by decide,Tryz.func223.trans (congrArg some (by kernel_rfl))⟩
 t0:=Tryz.underlying0
 a0:=Tryz.isAgg0
 z0:=Tryz.sizeOf0
 v0:=Tryz.zeroValue0
 t3:=Tryz.underlying3
 a3:=Tryz.isAgg3
 z3:=Tryz.sizeOf3
 v3:=Tryz.zeroValue3
 t4:=Tryz.underlying4
 a4:=Tryz.isAgg4
 z4:=Tryz.sizeOf4
 v4:=Tryz.zeroValue4
 t5:=Tryz.underlying5
 a5:=Tryz.isAgg5
 z5:=Tryz.sizeOf5
 v5:=Tryz.zeroValue5
 t9:=Tryz.underlying9
 a9:=Tryz.isAgg9
 z9:=Tryz.sizeOf9
 v9:=Tryz.zeroValue9
 t22:=Tryz.underlying37
 a22:=Tryz.isAgg37
 z22:=Tryz.sizeOf37
 v22:=Tryz.zeroValue37
 a24:=Tryz.isAgg102
 z24:=Tryz.sizeOf102
 t25:=Tryz.underlying130
 a25:=Tryz.isAgg130
 z25:=Tryz.sizeOf130
 v25:=Tryz.zeroValue130
 t39:=Tryz.underlying193
 a39:=Tryz.isAgg193
 z39:=Tryz.sizeOf193
 v39:=Tryz.zeroValue193
 t45:=Tryz.underlying201
 a45:=Tryz.isAgg201
 z45:=Tryz.sizeOf201
 v45:=Tryz.zeroValue201
 t46:=Tryz.underlying202
 a46:=Tryz.isAgg202
 z46:=Tryz.sizeOf202
 v46:=Tryz.zeroValue202
 t50:=Tryz.underlying206
 a50:=Tryz.isAgg206
 z50:=Tryz.sizeOf206
 v50:=Tryz.zeroValue206
 t53:=Tryz.underlying209
 a53:=Tryz.isAgg209
 z53:=Tryz.sizeOf209
 v53:=Tryz.zeroValue209
 t55:=Tryz.underlying211
 a55:=Tryz.isAgg211
 z55:=Tryz.sizeOf211
 v55:=Tryz.zeroValue211
 t66:=Tryz.underlying213
 a66:=Tryz.isAgg213
 z66:=Tryz.sizeOf213
 v66:=Tryz.zeroValue213
 t70:=Tryz.underlying78
 a70:=Tryz.isAgg78
 z70:=Tryz.sizeOf78
 v70:=Tryz.zeroValue78
 t76:=Tryz.underlying218
 a76:=Tryz.isAgg218
 z76:=Tryz.sizeOf218
 v76:=Tryz.zeroValue218
 t77:=Tryz.underlying132
 a77:=Tryz.isAgg132
 z77:=Tryz.sizeOf132
 v77:=Tryz.zeroValue132 }
end Go.Proofs
namespace Go.Av
def O5 (call:eU) (g:FuncId) (args:List AV) (st:StL):Option (AV×StL) :=
 bnd (D5 (bK st) args) fun us=>match call g us []with
  | some (.i v,[])=>tst (mfR (.i v)) (some (.i v,st))
  | _=>none
theorem LU {C:Ctx} {call:eU} (hcall:CallOk C call) {g:FuncId} {args:List AV} {stl stl':StL} {r:AV} (h:O5 call g args stl=some (r,stl')) (hy:g≠uF:=by decide) :
 (∃ fn,C.P.funcs[g]?=some fn∧fn.name≠ "runtime.NumGoroutine"∧fn.body.isSome=true)∧∀ (w:World) (m:Mem) (φ:Pl) (vs:List Value),Inv w m φ (bK stl)→RepL m φ args vs→(∀ id,φ id≠none→id<stl.length) →
  Calls C.P g vs.toArray w (bY w m φ r stl'):=by
 unfold O5 at h;obtain⟨us,h1,h2⟩:=aJ.1 h;split at h2
 ·rename_i iv h3;obtain⟨h5,h6⟩:=aU.1 h2;injection h6 with h6;injection h6 with h6 h7;subst h6;subst h7;refine⟨hcall.name _ _ _ _ hy h3,fun w m φ vs hi hr h0=>?_⟩;refine(hcall.calls g us [] _ _ hy h3 w (jP w) (fun _=>none) vs (inv0 w) (uP hi hr h1) (fun id h=>absurd rfl h)).mono ?_;rintro e w' ⟨v,m',φ',rfl,j1,j2,j3,j4⟩;have hsame:∀ f,f<w.heap.size→w'.heap[f]?=w.heap[f]?:=fun f hf=>j3.block f hf fun id b n e=>by cases e
  exact⟨v,m,φ,rfl,AUN h5 (by cases j1 with|i j=>exact .i j),hi.later j3.size hsame,⟨j3.size,j3.os,j3.tape,j3.output,fun b hb' _=>hsame b hb', .refl _,fun _ _ _ _=>rfl, .refl _,fun _ _ _ _ e ho=>.inr (mD.not e ho)⟩,h0⟩
 ·cases h2
end Go.Av
namespace Go.Proofs.YtnmimmaahhlgeaaGreat
open Go Go.Av
set_option maxRecDepth 4000
set_option maxHeartbeats 8000000
theorem AIA (l:List UInt8) (hl:l.length≤2000):∀ (ws:List Int) (p:Int),(∀ w∈ws,1≤w∧w≤6)→0≤p→p+500*ws.length<400000000→∃ (ts:List Tbl) (ps:Nat→Int),ts.map Tbl.w=ws∧(∀ t∈ts,t.ok=true∧t.rows.length≤4)∧ps 0=p∧(∀ i,i≤ws.length→p≤ps i∧ps i≤p+500*i)∧∀ i t,ts[i]?=some t→aH C0 83 [.own 0 0, .int t.w, .int 4] [Rd l (ps i)]=some (.i (.agg [.int t.w, .isl (aM t.rows)]),[Rd l (ps (i+1))])
 | [],p,_,h0,h1=>⟨[],fun _=>p,rfl,by simp,rfl,fun i hi=>by show p≤p∧p≤p+500*(i:Int);omega,fun i v h=>by simp at h⟩
 | w::ws,p,hw,h0,h1=>by
  obtain⟨w1,w2⟩:=hw w (by simp);simp only[zM]at h1;obtain⟨rs,p1,hv,q1,q2,q3,q4⟩:=O3 l hl w.toNat (by omega) (by omega) 4 (by omega) p h0 (by omega);obtain⟨ts,ps,a1,a5,a2,a3,a4⟩:=AIA l hl ws p1 (fun x hx=>hw x (by simp[hx])) (by omega) (by omega);have hwn:((w.toNat:Nat):Int)=w:=by omega
  have hok:(⟨w,dF rs⟩:Tbl).ok=true:=by
   rw[Tbl.dN];refine⟨(d9 _).2 ⟨w1,w2⟩,by simp only[bA];omega,fun r hr=>?_,rU rs⟩;have:=q2 r (iB.1 hr);unfold rowOk;simp only[zU,zS];exact⟨by omega,this.1⟩
  refine⟨⟨w,dF rs⟩::ts,fun i=>match i with|0=>p|i+1=>ps i,by simp[a1],?_,rfl,?_,?_⟩
  ·intro t ht
   rcases zP.1 ht with rfl|ht
   ·exact⟨hok,by simp only[bA];omega⟩
   ·exact a5 t ht
  ·intro i hi
   cases i with
   | zero=>simp
   | succ i=>have:=a3 i (by simpa using hi);simp;omega
  ·intro i u hu
   cases i with
   | zero =>
    simp at hu;subst hu;simp only;rw[a2];rw[hwn]at hv;simpa using hv
   | succ i=>exact a4 i u (by simpa using hu)
def RDX (l:List UInt8) (ws:List Int) (ts:List Tbl) (ps:Nat→Int) (i:Nat):AS :=
 { env:=[(0, .own 0 0),(1, .osl 1 1 0 ws.length),(4, .nils),(5, .osl 2 2 0 i),(6, .int i),(11,jk i (.bool true))],st:=[Rd l (ps i),some (.arr 1 (aG ws)),some (.arr 2 (jL (ts.take i)))] }
theorem FD (l:List UInt8) (hl:l.length≤2000) (ws:List Int) (hw:∀ w∈ws,1≤w∧w≤6) (hn:ws.length≤10) (p:Int) (h0:0≤p) (h1:p<300000000):∃ (ts:List Tbl) (p':Int),aH C0 39 [.own 0 0, .osl 1 1 0 ws.length] [Rd l p,some (.arr 1 (aG ws))]=some (.osl 2 2 0 ws.length,[Rd l p',some (.arr 1 (aG ws)),some (.arr 2 (jL ts))])∧ts.map Tbl.w=ws∧(∀ t∈ts,t.ok=true∧t.rows.length≤4)∧p≤p'∧p'≤p+5000:=by
 obtain⟨ts,ps,a1,a5,a2,a3,a4⟩:=AIA l hl ws p hw h0 (by omega);have b1:=a3 ws.length (by omega);have htl:ts.length=ws.length:=by rw[← a1];simp
 refine⟨ts,ps ws.length,?_,a1,a5,by omega,by omega⟩;rw[aD rfl Tryz.func39 rfl rfl];simp;rw[aT (RDX l ws ts ps) ws.length (by simp[RDX,a2,jL])]
 ·rw[aF];have e1:ts.take ws.length=ts:=zZ (by omega);simp[RDX,e1]
 ·intro i hi
  obtain⟨t,ht⟩:∃ t,ts[i]?=some t:=⟨_,zX (by omega)⟩
  have hd:=a4 i t ht;have hwi:ws[i]?=some t.w:=by rw[← a1,zH,ht];rfl
  have k1:=bL hwi;obtain⟨w1,w2⟩:=hw t.w (zV hwi);have hT:=aO ht;have m1:¬ 1 > t.w:=by omega
  have m2:¬ t.w<1:=by omega
  have m3:¬ 6<t.w:=by omega
  have w3:IntKind.i64.wrap ((i:Int)+1)=i+1:=wrO;have hb:(i+1)*32≤140737488355328:=by omega
  have e1:List.take i (List.take i ts)=List.take i ts:=by rw[zF,zB1]
  have e1':List.take i (List.take i (ts.map Tbl.cells))=List.take i (ts.map Tbl.cells):=by rw[zF,zB1]
  have hmin:min i ts.length=i:=by omega
  simp[RDX,hi,k1,m1,m2,m3,hd,hT,w3,hb,e1,e1',hmin,V9,jL,Tbl.cells]
end Go.Proofs.YtnmimmaahhlgeaaGreat
namespace Go.Proofs.YtnmimmaahhlgeaaGreat.P
open Go Go.Av G
theorem D6 (l:List Val) (i:Nat) (v:Val):(aP l).set i [.bool v.null, .int v.n]=aP (l.set i v):=by
 induction l generalizing i with
 | nil=>rfl
 | cons a l ih=>cases i with
  | zero=>rfl
  | succ i=>simp[aP,ih]
set_option maxRecDepth 4000
set_option maxHeartbeats 8000000
noncomputable def AJO:FuncId→Option (List AV→StL→Option (AV×StL))
 | 1000000007=>none
 | 41=>none
 | 83=>none
 | 64=>some (qA C0 true 64)
 | g=>some (aH C0 g)
noncomputable def CT:Ctx:={ P:=Tryz.prog,G:=GS,ownArgs:=bX,keepRes:=keepR,eqT:=MU,prim:=AJO }
@[simp] theorem AwE:CT.P=Tryz.prog:=(rfl)
@[simp] theorem AwF (f):CT.G f=GS f:=(rfl)
@[simp] theorem AwB (f):CT.ownArgs f=bX f:=(rfl)
@[simp] theorem AwC (f):CT.keepRes f=keepR f:=(rfl)
@[simp] theorem AwD (f):CT.eqT f=MU f:=(rfl)
@[simp] theorem AwA:CT.tree=false:=(rfl)
theorem AZC:PrimOk CT:=by
 have hP:=bH dE;constructor
 ·intro g args st p h;unfold dH at h
  cases hq:CT.prim g with
  | none=>rw[hq]at h;cases h
  | some q =>
   rw[hq]at h;have hq:AJO g=some q:=hq;unfold AJO at hq;split at hq
   all_goals first
    | (cases hq;done)
    | (injection hq with hq;subst hq;exact(jJ dE (r:=p.1) (stl':=p.2) h).1)
    | (injection hq with hq;subst hq;exact hP.name _ _ _ _ (by assumption) h)
 ·intro g args st r st' h w m φ vs hi hr hb;unfold dH at h
  cases hq:CT.prim g with
  | none=>rw[hq]at h;cases h
  | some q =>
   rw[hq]at h;have hq:AJO g=some q:=hq;unfold AJO at hq;split at hq
   all_goals first
    | (cases hq;done)
    | (injection hq with hq;subst hq;exact(jJ dE h).2 w m φ vs hi hr hb)
    | (injection hq with hq;subst hq;exact hP.calls _ _ _ _ _ (by assumption) h w m φ vs hi hr hb)
theorem AYP:SoundOk CT:=mO (C:=CT) ft nt eqS mo AZC
@[simp] theorem AXJ (a:List AV) (st:StL):aH CT 64 a st=qA C0 true 64 a st:=by rw[aN (p:=qA C0 true 64) rfl]
@[simp] theorem ASF (a:List AV) (st:StL):aH CT 134 a st=aH C0 134 a st:=by rw[aN (p:=aH C0 134) rfl]
@[simp] theorem AaC (a:List AV) (st:StL):aH CT 85 a st=aH C0 85 a st:=by rw[aN (p:=aH C0 85) rfl]
@[simp] theorem AXK (a:List AV) (st:StL):aH CT 84 a st=aH C0 84 a st:=by rw[aN (p:=aH C0 84) rfl]
@[simp] theorem AdM (a:List AV) (st:StL):aH CT 40 a st=aH C0 40 a st:=by rw[aN (p:=aH C0 40) rfl]
@[simp] theorem AeX (a:List AV) (st:StL):aH CT 81 a st=aH C0 81 a st:=by rw[aN (p:=aH C0 81) rfl]
theorem ANR (w:Int) (l:List (List Val)) (n:Nat) (hn:n<1000000) (hn0:n≠0) (hl0:l.length≤400) (hl:∀ x∈l,x.all Val.ok=true∧x.length=n):qA C0 true 64 [.int w, .i (.isl (aM l))] []=some (.agg [.int w,gro 0 1 l.length],vT 1 (aM (dF l)) l.length):=by
 rw[eB Tryz.func64 rfl rfl];have h:¬ (400:Int)<l.length:=by omega
 have h':¬ 400<l.length:=by omega
 simp[h,h'];rw[aT (TOX w l) l.length (by simp[TOX])]
 ·rw[aF];by_cases h0:l.length=0
  ·have:l=[]:=zW.1 h0;subst this;simp[TOX,dF,aM]
  ·have hT:(dF l).length=l.length:=bA l;have e1:List.take l.length (dF l)=dF l:=zZ (by omega);simp[TOX,aL h0,aI h0,hT,e1]
 ·intro i hi;have h3:=zX hi;have hm:=zV h3;have hsn:=vY h3;generalize l[i]=x at h3 hm hsn;have r1:=bW h3;have w2:IntKind.i64.wrap ((i:Int)+1)=i+1:=wrO;have hlen:(dF (l.take i)).length=i:=by rw[bA];simp;omega
  have e1:List.take i (dF (l.take i))=dF (l.take i):=zZ (by omega);have hx0:x≠[]:=fun e=>by have:=(hl x hm).2;subst e;simp at this;omega
  have hc:=IC (dF (l.take i)) x (by omega) (hl x hm).1 (by rw[(hl x hm).2];exact hn) hx0 (fun y hy=>by
   have:=hl y (zI (iB.1 hy));exact⟨this.1,by rw[this.2,(hl x hm).2]⟩) (rU _)
  rw[hlen]at hc;by_cases h0:i=0
  ·subst h0;have hs0:dF ([]:List (List Val))=[]:=rfl;simp[hs0,bI]at hc hsn;simp[TOX,hi,r1,hc,hsn,bB]
  ·simp[TOX,aL h0,aI h0,hi,r1,hc,hsn,w2,hlen,e1]
theorem WC (l:List UInt8) (hl:l.length≤2000) (w:Nat) (hw0:w≠0) (hw:w≤10) (m:Nat) (hm:m≤20) (p:Int) (h0:0≤p) (h1:p<500000000):∃ (rs:List (List Val)) (p':Int),aH CT 83 [.own 0 0, .int w, .int m] [Rd l p]=some (.agg [.int w,gro 1 1 rs.length],Rd l p'::vT 1 (aM (dF rs)) rs.length)∧rs.length≤m∧(∀ r∈rs,r.all Val.ok=true∧r.length=w)∧p≤p'∧p'≤p+500:=by
 have wm:IntKind.i64.wrap ((m:Int)+1)=((m+1:Nat):Int):=by rw[wrO];omega
 obtain⟨k,hk,hk1,-⟩:=bE l p ((m+1:Nat):Int) h0 (by omega) hl;obtain⟨k0,k1⟩:=hk1 (by omega)
 obtain⟨n,rfl⟩:∃ n:Nat,k=n:=⟨k.toNat,by omega⟩
 obtain⟨rs,ps,a1,a5,a2,a3,a4⟩:=rows_ok l hl w hw n (p+1) (by omega) (by omega);have b1:=a3 n (by omega);have hc:=ANR w rs w (by omega) hw0 (by omega) a5;refine⟨rs,ps n,?_,by omega,a5,by omega,by omega⟩;rw[aD rfl Tryz.func83 rfl rfl];simp[wm];simp at hk;simp[hk];rw[aT (AQX l w m rs ps n) n (by simp[AQX,a2,bI])]
 ·rw[aF];have e1:rs.take n=rs:=zZ (by omega);subst a1;by_cases hz:rs.length=0
  ·have:rs=[]:=zW.1 hz;subst this;simp[bI]at hc;simp[AQX,e1,hc,bI]
  ·have e2:(aM (dF rs)).take rs.length=aM (dF rs):=zZ (by simp[bA]);rw[aL hz,aI hz]at hc;simp[AQX,e1,hc,hz,e2,aL hz,aI hz]
 ·intro i hi
  obtain⟨x,hx⟩:∃ x,rs[i]?=some x:=⟨_,zX (by omega)⟩
  have hd:=a4 i x hx;have hT:=aO hx;have hpos:(0:Int)<(n:Int)-i:=by omega
  have w3:IntKind.i64.wrap ((n:Int)-i-1)=(n:Int)-(i+1):=by rw[wrO];omega
  have hb:(i+1)*24≤140737488355328:=by omega
  have e1:List.take i (List.take i rs)=List.take i rs:=by rw[zF,zB1]
  have e2:x.take x.length=x:=zZ (by simp);have hmin:min i rs.length=i:=by omega
  have hlt:(i:Int)<n:=by omega
  simp[AQX,hpos,hlt,hi,hd,hT,w3,hb,e1,e2,hmin,bV,bO,bI]
theorem AMQ (l:List UInt8) (hl:l.length≤2000) (n:Nat) (hn0:n≠0) (hn:n≤10) (p:Int) (h0:0≤p) (h1:p<600000000):∃ (x:List Val) (p':Int),aH C0 85 [.own 0 0, .int n] [Rd l p]=some (.osl 1 2 0 x.length,[Rd l p',some (.arr 2 (aP x))])∧x.length≤10∧p≤p'∧p'≤p+100:=by
 obtain⟨x,p1,hx,hxl,hxo,q1,q2⟩:=vI l hl n hn p h0 (by omega);obtain⟨k,hk,-,-⟩:=bE l p1 18 (by omega) (by omega) hl;have e1:(aP x).take n=aP x:=zZ (by simp;omega);have e2:x.take n=x:=zZ (by omega);rw[hxl]at hx;by_cases g0:k=0
 ·refine⟨[],p1+1,?_,by simp,by omega,by omega⟩;rw[aD rfl Tryz.func85 rfl rfl];simp[hx,hk,g0,aP]
 by_cases g1:k=1
 ·obtain⟨y,p2,hy,hyl,hyo,q3,q4⟩:=vI l hl 7 (by omega) (p1+1) (by omega) (by omega);refine⟨y,p2,?_,by omega,by omega,by omega⟩;rw[aD rfl Tryz.func85 rfl rfl];simp[hyl]at hy;simp[hx,hk,g1,hy,hyl]
 by_cases g2:k=2
 ·obtain⟨j,hj,hj1,-⟩:=bE l (p1+1) n (by omega) (by omega) hl;obtain⟨j0,j1⟩:=hj1 (by omega);obtain⟨v,p3,hv,q5,q6⟩:=NJ l (p1+1+1) (by omega) (by omega) hl;have hjn:j.toNat<x.length:=by omega
  have hjn':j<n:=by omega
  have hxj:=bZ (zX hjn);have hset:=D6 x j.toNat v;refine⟨x.set j.toNat v,p3,?_,by simp;omega,by omega,by omega⟩;rw[aD rfl Tryz.func85 rfl rfl];simp[hx,hk,g2,hj,hv,j0,hjn',hxj,hset,hxl]
 ·refine⟨x,p1+1,?_,by omega,by omega,by omega⟩;rw[aD rfl Tryz.func85 rfl rfl];simp[hx,hk,g0,g1,g2,hxl]
theorem ABP (l:List UInt8) (hl:l.length≤2000) (w:Nat) (hw0:w≠0) (hw:w≤6) (p:Int) (h0:0≤p) (h1:p<400000000):∃ (t:Tbl) (p':Int),aH CT 41 [.own 0 0, .int w, .int 4] [Rd l p]=some (.agg [.int t.w,gro 1 1 t.rows.length],Rd l p'::vT 1 (aM t.rows) t.rows.length)∧t.small∧t.rows.length≤5∧p≤p'∧p'≤p+1000:=by
 obtain⟨rs,p1,hx,hrl,hro,q1,q2⟩:=WC l hl w hw0 (by omega) 4 (by omega) p h0 (by omega);obtain⟨k,hk,-,-⟩:=bE l p1 20 (by omega) (by omega) hl;have hsl:(dF rs).length=rs.length:=bA rs;have hsm:∀ r∈dF rs,r.length<1000000:=fun r hr=>by have:=(hro r (iB.1 hr)).2;omega
 have te:(aM (dF rs)).take rs.length=aM (dF rs):=zZ (by simp[hsl]);have te2:(dF rs).take rs.length=dF rs:=zZ (by omega);simp at hx;by_cases g0:k=0
 ·obtain⟨x,hxx,-⟩:=qM l (p1+1) (by omega) (by omega) hl [[.int 0],[.int 7],[.int 2]] (by simp) (by simp) (by simp);simp only[zM,yE,zB,Nat.reduceAdd]at hxx;refine⟨⟨x,dF rs⟩,p1+1+1,?_,⟨by simp only[hsl];omega,hsm⟩,by simp only[hsl];omega,by omega,by omega⟩;rw[aD rfl Tryz.func41 rfl rfl];by_cases hz:rs.length=0
  ·rw[hz]at hx;simp at hx;simp[hx,hk,g0,hxx,hsl,hz]
  ·rw[aL hz,aI hz]at hx;simp[hx,hk,g0,hxx,hsl,hz,te,aL hz,aI hz]
 by_cases g1:k=1
 ·by_cases hz:rs.length=0
  ·refine⟨⟨w,dF rs⟩,p1+1,?_,⟨by simp only[hsl];omega,hsm⟩,by simp only[hsl];omega,by omega,by omega⟩;rw[aD rfl Tryz.func41 rfl rfl];rw[hz]at hx;simp at hx;simp[hx,hk,g1,hsl,hz]
  ·obtain⟨r,hr⟩:∃ r,(dF rs)[0]?=some r:=⟨_,zX (by omega)⟩
   have hro':=hro r (iB.1 (zV hr));have hrn:=bW hr;have hcp:=QP r (by omega) (fun e=>by rw[e]at hro';simp at hro';omega);have e2:r.take r.length=r:=zZ (by simp);have hb:(rs.length+1)*24≤140737488355328:=by omega
   have hp:(0:Int)<rs.length:=by omega
   have hp':0<rs.length:=by omega
   refine⟨⟨w,dF rs++[r]⟩,p1+1,?_,⟨by simp only[zQ,hsl,x9];omega,fun x hx=>?_⟩,by simp only[zQ,hsl,x9];omega,by omega,by omega⟩
   ·rw[aD rfl Tryz.func41 rfl rfl];rw[aL hz,aI hz]at hx;simp[hx,hk,g1,hsl,hz,te,te2,hrn,hcp,e2,hb,hp,hp',bV,bO,bI]
   ·rcases zT.1 hx with hx|hx
    ·exact hsm x hx
    ·simp at hx;subst hx;omega
 by_cases g2:k=2
 ·by_cases hz:rs.length=0
  ·refine⟨⟨w,dF rs⟩,p1+1,?_,⟨by simp only[hsl];omega,hsm⟩,by simp only[hsl];omega,by omega,by omega⟩;rw[aD rfl Tryz.func41 rfl rfl];rw[hz]at hx;simp at hx;simp[hx,hk,g2,hsl,hz]
  ·obtain⟨r,hr⟩:∃ r,(dF rs)[0]?=some r:=⟨_,zX (by omega)⟩
   have hrn:=bW hr;obtain⟨y,p2,hy,hyl,q3,q4⟩:=AMQ l hl w hw0 (by omega) (p1+1) (by omega) (by omega);have e2:y.take y.length=y:=zZ (by simp);have hp:(0:Int)<rs.length:=by omega
   have hp':0<rs.length:=by omega
   have hst:=jE (dF rs) 0 y;refine⟨⟨w,(dF rs).set 0 y⟩,p2,?_,⟨by simp only[zA1,hsl];omega,fun x hx=>?_⟩,by simp only[zA1,hsl];omega,by omega,by omega⟩
   ·rw[aD rfl Tryz.func41 rfl rfl];rw[aL hz,aI hz]at hx;have te3:(aM ((dF rs).set 0 y)).take rs.length=aM ((dF rs).set 0 y):=zZ (by simp[hsl]);simp[hx,hk,g2,hsl,hz,te,te2,te3,hrn,hy,e2,hp,hp',hst,aL hz,aI hz]
   ·rcases xO hx with hx|rfl
    ·exact hsm x hx
    ·omega
 ·refine⟨⟨w,dF rs⟩,p1+1,?_,⟨by simp only[hsl];omega,hsm⟩,by simp only[hsl];omega,by omega,by omega⟩;rw[aD rfl Tryz.func41 rfl rfl];by_cases hz:rs.length=0
  ·rw[hz]at hx;simp at hx;simp[hx,hk,g0,g1,g2,hsl,hz]
  ·rw[aL hz,aI hz]at hx;simp[hx,hk,g0,g1,g2,hsl,hz,te,aL hz,aI hz]
def GOk (cs:List Int) (rows:List (List Val)):Prop:=rows.length<1000000∧cs.length<1000000∧∀ r∈rows,∀ c∈cs,0≤c∧c<r.length
theorem ARO {cs:List Int} {rows:List (List Val)} (h:GOk cs rows):∃ M,aH C0 185 [.osl 0 1 0 rows.length, .fn (.func 184) [.own 1 0]] [some (.arr 1 (aM rows)),some (.box [.i (.isl (aG cs))])]=some (.tup [],[some (.arr 1 (aM M)),some (.box [.i (.isl (aG cs))])])∧M.Perm rows∧jX cs M :=
 RI rows cs rows.length rfl h.1 h.2.1 h.2.2
noncomputable def stS (cs:List Int) (rows:List (List Val)):List (List Val):=open Classical in if h:GOk cs rows then(ARO h).choose else rows
theorem J6 {cs:List Int} {rows:List (List Val)} (h:GOk cs rows):aH C0 185 [.osl 0 1 0 rows.length, .fn (.func 184) [.own 1 0]] [some (.arr 1 (aM rows)),some (.box [.i (.isl (aG cs))])]=some (.tup [],[some (.arr 1 (aM (stS cs rows))),some (.box [.i (.isl (aG cs))])])∧(stS cs rows).Perm rows∧jX cs (stS cs rows):=by
 unfold stS;rw[dif_pos h];exact(ARO h).choose_spec
noncomputable def TC (es ks:List (List IV)):Option (AV×StL):=open Classical in if h:∃ p:List (List Val)×List Int,es=aM p.1∧ks=aG p.2∧GOk p.2 p.1 then some (.i (.isl (pY (runs h.choose.2 (stS h.choose.2 h.choose.1)))),[])else none
noncomputable def vS:List AV→StL→Option (AV×StL)
 | [.i (.agg [.lit (.int .i64 _), .isl (e::es)]), .i (.isl ks)],[]=>TC (e::es) ks
 | [.i (.agg [.lit (.int .i64 _), .isl []]), .i (.isl _)],[]=>some (.i (.isl []),[])
 | _,_=>none
theorem XV {w:Int} {rows:List (List Val)} {cs:List Int} (h0:rows≠[]) (h:GOk cs rows):vS [.i (.agg [.int w, .isl (aM rows)]), .i (.isl (aG cs))] []=some (.i (.isl (pY (runs cs (stS cs rows)))),[]):=by
 obtain⟨r,rs,rfl⟩:=zE1 h0;show TC (aM (r::rs)) (aG cs)=_
 have hex:∃ p:List (List Val)×List Int,aM (r::rs)=aM p.1∧aG cs=aG p.2∧GOk p.2 p.1:=⟨(r::rs,cs),rfl,rfl,h⟩
 unfold TC;rw[dif_pos hex];obtain⟨h1,h2,_⟩:=hex.choose_spec;rw[← KG h1,← EH h2]
theorem AGB (w:Int) (ks:List (List IV)):aH C0 147 [.i (.agg [.int w, .isl []]), .i (.isl ks)] []=some (.i (.isl []),[]):=by
 have hc:aH C0 183 [.i (.isl [])] []=some (.nils,[]):=by
  rw[aD rfl Tryz.func183 rfl rfl];simp
 have hi:∀ ks:List (List IV),aH C0 199 [.nils, .int 0, .int 0, .fn (.func 184) [.own 0 0]] [some (.box [.i (.isl ks)])]=some (.tup [],[some (.box [.i (.isl ks)])]):=by
  intro ks;rw[aD rfl Tryz.func199 rfl rfl];simp[bB];rw[aF];simp[bB]
 have hs:∀ ks:List (List IV),aH C0 198 [.nils, .int 0, .fn (.func 184) [.own 0 0]] [some (.box [.i (.isl ks)])]=some (.tup [],[some (.box [.i (.isl ks)])]):=by
  intro ks;rw[aD rfl Tryz.func198 rfl rfl];simp;rw[aF];simp[hi];rw[aF];simp
 have hS:∀ ks:List (List IV),aH C0 185 [.nils, .fn (.func 184) [.own 0 0]] [some (.box [.i (.isl ks)])]=some (.tup [],[some (.box [.i (.isl ks)])]):=by
  intro ks;rw[aD rfl Tryz.func185 rfl rfl];simp[hs]
 rw[aD rfl Tryz.func147 rfl rfl];simp[hc,hS];rw[aF];simp
theorem XW {args:List AV} {st:StL} {q:AV×StL} (_:vS args st=some q):∃ fn,Tryz.prog.funcs[147]?=some fn∧fn.name≠ "runtime.NumGoroutine"∧fn.body.isSome=true:=⟨Tryz.f147,Tryz.func147,Ad4,Ad5⟩
theorem TB {args:List AV} {st st':StL} {r:AV} (h:vS args st=some (r,st')) (w:World) (m:Mem) (φ:Pl) (vs:List Value) (hi:Inv w m φ (bK st)) (hr:RepL m φ args vs) (h0:∀ id,φ id≠none→id<st.length):Calls Tryz.prog 147 vs.toArray w (bY w m φ r st'):=by
 have hφ:∀ (φ:Pl),(∀ id,φ id≠none→id<([]:StL).length)→φ=fun _=>none:=fun φ h=>by
  funext id
  cases e:φ id with
  | none=>rfl
  | some p=>exact absurd (h id (by rw[e];simp)) (by simp)
 unfold vS at h;split at h
 ·rename_i w0 e es ks;unfold TC at h;split at h
  ·rename_i hex;injection h with h;injection h with h1 h2;subst h1;subst h2;obtain⟨g1,g2,g3⟩:=hex.choose_spec;obtain rfl:=hφ _ h0;obtain⟨k1,k2,k3⟩:=J6 g3;have hne:hex.choose.1≠[]:=fun e=>by rw[e]at g1;simp[aM]at g1
   have hr':RepL m (fun _=>none) [.i (.agg [.int w0, .isl (aM hex.choose.1)]), .i (.isl (aG hex.choose.2))] vs:=by rw[← g1,← g2];exact hr
   exact AAV hne g3.1 g3.2.1 g3.2.2 k1 k2 hi hr'
  ·cases h
 ·injection h with h;injection h with h1 h2;subst h1;subst h2;exact(bH dE).calls _ _ _ _ _ (by decide) (AGB _ _) w m φ vs hi hr h0
 ·cases h
noncomputable def AJS:FuncId→Option (List AV→StL→Option (AV×StL))
 | 1000000007=>none
 | 6=>none
 | 13=>none
 | 20=>none
 | 41=>some (aH CT 41)
 | 7=>none
 | 11=>none
 | 22=>none
 | 43=>none
 | 94=>none
 | 91=>none
 | 87=>none
 | 137=>none
 | 92=>none
 | 145=>none
 | 88=>none
 | 138=>none
 | 89=>none
 | 141=>none
 | 90=>none
 | 142=>none
 | 93=>none
 | 146=>none
 | 151=>some (NV 136)
 | 144=>some MH
 | 140=>some (O5 (aH C0) 140)
 | 147=>some vS
 | g=>some (aH CR g)
def ownE:FuncId→Bool
 | 140=>true
 | 144=>true
 | g=>AJY g
@[simp] theorem AcR (g:FuncId):ownE g=if g=140 then true else if g=144 then true else AJY g:=by
  unfold ownE;split
  ·simp
  ·simp
  ·rename_i h h2;rw[if_neg h,if_neg h2]
noncomputable def CE:Ctx:={ P:=Tryz.prog,G:=GS,ownArgs:=ownE,keepRes:=APC,eqT:=MU,prim:=AJS }
@[simp] theorem BA2:CE.P=Tryz.prog:=(rfl)
@[simp] theorem BA3 (f):CE.G f=GS f:=(rfl)
@[simp] theorem AwZ (f):CE.ownArgs f=ownE f:=(rfl)
@[simp] theorem BA0 (f):CE.keepRes f=(keepR f || decide (f=80)):=(rfl)
@[simp] theorem BA1 (f):CE.eqT f=MU f:=(rfl)
@[simp] theorem AwY:CE.tree=false:=(rfl)
theorem AQ8 (a b:List Val) (_:a.all Val.ok=true) (_:b.all Val.ok=true) (h1:a.length<1000000) (h2:b.length<1000000):aH C0 136 [.i (.isl (aP a)), .i (.isl (aP b))] []=some (.int (bR a b),[]):=kH a b h1 h2
theorem AnJ:∀ args w,(callFunc 136 args).run Tryz.prog w=.ok (.enter 136 args) w:=by
 intro args w;unfold callFunc;have hn:Tryz.f136.name≠ "runtime.NumGoroutine":=by decide
 have hb:Tryz.f136.body≠none:=by intro h;have:Tryz.f136.body.isSome=true:=rfl;rw[h]at this;cases this
 simp[Tryz.func136,hn,hb]
theorem AF7 {args:List AV} {st:StL} {q:AV×StL} (_:NV 136 args st=some q):∃ fn,Tryz.prog.funcs[151]?=some fn∧fn.name≠ "runtime.NumGoroutine"∧fn.body.isSome=true:=⟨Tryz.f151,Tryz.func151,by decide,rfl⟩
theorem AGA {args:List AV} {st:StL} {q:AV×StL} (_:MH args st=some q):∃ fn,Tryz.prog.funcs[144]?=some fn∧fn.name≠ "runtime.NumGoroutine"∧fn.body.isSome=true:=⟨Tryz.f144,Tryz.func144,by decide,rfl⟩
theorem ZY {args:List AV} {st st':StL} {r:AV} (h:NV 136 args st=some (r,st')) (w:World) (m:Mem) (φ:Pl) (vs:List Value) (hi:Inv w m φ (bK st)) (hr:RepL m φ args vs) (h0:∀ id,φ id≠none→id<st.length):Calls Tryz.prog 151 vs.toArray w (bY w m φ r st') :=
 AF6 dE Tryz.AO8 (by decide) AnJ AQ8 h w m φ vs hi hr h0
theorem AAU {args:List AV} {st st':StL} {r:AV} (h:MH args st=some (r,st')) (w:World) (m:Mem) (φ:Pl) (vs:List Value) (hi:Inv w m φ (bK st)) (hr:RepL m φ args vs) (h0:∀ id,φ id≠none→id<st.length):Calls Tryz.prog 144 vs.toArray w (bY w m φ r st') :=
 AG9 (C:=C0) Tryz.APO (z:=.slice none 0 0) (i0:=((Tryz.prog.info? 102).getD default)) (by kernel_rfl) (by kernel_rfl) (by kernel_rfl) (by decide) (by decide) (by decide) h w m φ vs hi hr h0
theorem AZE:PrimOk CE:=by
 have hP:=bH ARQ;have hR:=bH AIN;have hT:=bH AYP;constructor
 ·intro g args st p h;unfold dH at h
  cases hq:CE.prim g with
  | none=>rw[hq]at h;cases h
  | some q =>
   rw[hq]at h;have hq:AJS g=some q:=hq;unfold AJS at hq;split at hq
   all_goals first
    | (cases hq;done)
    | (injection hq with hq;subst hq;exact AF7 h)
    | (injection hq with hq;subst hq;exact AGA h)
    | (injection hq with hq;subst hq;exact XW h)
    | (injection hq with hq;subst hq;exact(LU (bH dE) (r:=p.1) (stl':=p.2) h (by decide)).1)
    | (injection hq with hq;subst hq;exact hP.name _ _ _ _ (by decide) h)
    | (injection hq with hq;subst hq;exact hT.name _ _ _ _ (by decide) h)
    | (injection hq with hq;subst hq;exact hR.name _ _ _ _ (by assumption) h)
 ·intro g args st r st' h w m φ vs hi hr hb;unfold dH at h
  cases hq:CE.prim g with
  | none=>rw[hq]at h;cases h
  | some q =>
   rw[hq]at h;have hq:AJS g=some q:=hq;unfold AJS at hq;split at hq
   all_goals first
    | (cases hq;done)
    | (injection hq with hq;subst hq;exact ZY h w m φ vs hi hr hb)
    | (injection hq with hq;subst hq;exact AAU h w m φ vs hi hr hb)
    | (injection hq with hq;subst hq;exact TB h w m φ vs hi hr hb)
    | (injection hq with hq;subst hq;exact(LU (bH dE) h (by decide)).2 w m φ vs hi hr hb)
    | (injection hq with hq;subst hq;exact hP.calls _ _ _ _ _ (by decide) h w m φ vs hi hr hb)
    | (injection hq with hq;subst hq;exact hT.calls _ _ _ _ _ (by decide) h w m φ vs hi hr hb)
    | (injection hq with hq;subst hq;exact hR.calls _ _ _ _ _ (by assumption) h w m φ vs hi hr hb)
theorem AYQ:SoundOk CE:=mO (C:=CE) ft nt eqS mo AZE
theorem kX (a:List Val) (h0:a≠[]) (hl:a.length<1000000):aH C0 150 [.osl 0 2 0 a.length] [some (.arr 2 (aP a))]=some (.i (.isl (aP a)),[some (.arr 2 (aP a))]):=by
 have hb:16*(a.length:Int)≤281474976710656:=by omega
 have hb2:16*a.length≤281474976710656:=by omega
 have e1:List.take a.length (aP a)=aP a:=zZ (by simp);have h0':a.length≠0:=fun e=>h0 (zW.1 e)
 rw[aD rfl Tryz.func150 rfl rfl];simp[h0,h0',hb,hb2,e1,over]
@[simp] theorem AaK (a:List AV) (st:StL):aH CE 150 a st=aH C0 150 a st:=by
  rw[aN (p:=aH CR 150) rfl,aN (p:=aH C0 150) rfl]
@[simp] theorem AdZ (a:List AV) (st:StL):aH CE 151 a st=NV 136 a st:=by
  rw[aN (p:=NV 136) rfl]
structure Yc (R:Rng) (cs:List AV) (w:Int):Prop where
 ids:cs=[.own 1 0, .own 2 0, .own 3 0, .junk, .junk, .junk]
 c00:∀ r:List Val,r≠[]→r.length<1000000→aH CE uF [.fn (.yield 0) [.own 0 0], .i (.isl (aP r))] [some (.loop R cs .ready),some (.box [.int w]),some (.box [.int 0, .nils]),some (.box [.nils])]=some (.bool true,[some (.loop R cs .ready),some (.box [.int w]),some (.box [.int 0, .nils]),some (.box [.osl 4 1 0 1]),some (.arr 1 [[.isl (aP r)]])])
 c10:∀ (r:List Val) (n:Nat) (l:List (List Val)),r≠[]→r.length<1000000→l.length=n→n≠0→n<400→aH CE uF [.fn (.yield 0) [.own 0 0], .i (.isl (aP r))] [some (.loop R cs .ready),some (.box [.int w]),some (.box [.int 0, .nils]),some (.box [.osl 4 1 0 n]),some (.arr 1 (aM l))]=some (.bool true,[some (.loop R cs .ready),some (.box [.int w]),some (.box [.int 0, .nils]),some (.box [.osl 5 1 0 (n+1)]),none,some (.arr 1 (aM l++[[.isl (aP r)]]))])
 c01:∀ r:List Val,r≠[]→r.length<1000000→aH CE uF [.fn (.yield 0) [.own 0 0], .osl 4 2 0 r.length] [some (.loop R cs .ready),some (.box [.int w]),some (.box [.int 0, .nils]),some (.box [.nils]),some (.arr 2 (aP r))]=some (.bool true,[some (.loop R cs .ready),some (.box [.int w]),some (.box [.int 0, .nils]),some (.box [.osl 5 1 0 1]),some (.arr 2 (aP r)),some (.arr 1 [[.isl (aP r)]])])
 c11:∀ (r:List Val) (n:Nat) (l:List (List Val)),r≠[]→r.length<1000000→l.length=n→n≠0→n<400→aH CE uF [.fn (.yield 0) [.own 0 0], .osl 5 2 0 r.length] [some (.loop R cs .ready),some (.box [.int w]),some (.box [.int 0, .nils]),some (.box [.osl 4 1 0 n]),some (.arr 1 (aM l)),some (.arr 2 (aP r))]=some (.bool true,[some (.loop R cs .ready),some (.box [.int w]),some (.box [.int 0, .nils]),some (.box [.osl 6 1 0 (n+1)]),none,some (.arr 2 (aP r)),some (.arr 1 (aM l++[[.isl (aP r)]]))])
def itO (R:Rng) (cs:List AV) (w:Int) (bx:StL) (rows:List (List Val)):StL :=
 some (.loop R cs .ready)::some (.box [.int w])::some (.box [.int 0, .nils])::some (.box [gro (4+bx.length) 1 rows.length])::(bx++vT 1 (aM rows) rows.length)
theorem BZ (w:Int) (it:FuncId) (hit:it≠uF) (bs:List AV) (rows:List (List Val)) (hl:rows.length≤400) (ho:AOW rows)
 (h:∀ R cs,Yc R cs w→aH CE it [.fn (.yield 0) [.own 0 0], .own 4 0] [some (.loop R cs .ready),some (.box [.int w]),some (.box [.int 0, .nils]),some (.box [.nils]),some (.box bs)]=some (.tup [],itO R cs w [some (.box bs)] rows)) (hbs:bD bs=[]) (hrb:∀ r,AQ r bs=bs) :
 aH CE 94 [.int w, .fn (.func it) [.own 0 0]] [some (.box bs)]=some (.i (.agg [.int w, .isl (aM (dF rows))]),[some (.box bs)]):=by
 rw[aD rfl Tryz.func94 rfl rfl];simp[hbs,hrb,dC,ACD,JS,V6,AI7,Op.operands,Call.operands,hit];generalize hR:Rng.mk [0,1,2,4,5,6,7,8,11] _ [8] _ _=R
 have hY:Yc R [.own 1 0, .own 2 0, .own 3 0, .junk, .junk, .junk] w:=by
  clear h;refine⟨rfl,?_,?_,?_,?_⟩
  ·intro r h0 hl;have hc:=kW r h0 hl;subst hR;rw[iR];simp[hc]
  ·intro r n l h0 hl hn hn0 hn4;have hc:=kW r h0 hl;have e1:(aM l).take n=aM l:=zZ (by simp;omega);have e2:l.take n=l:=zZ (by omega);have n4:¬ (n:Int)=400:=by omega
   have n4':¬ n=400:=by omega
   have hb:(n+1)*24≤140737488355328:=by omega
   subst hR;rw[iR];simp[hc,e1,e2,n4,n4',hb,hn]
  ·intro r h0 hl;have hc:=kX r h0 hl;subst hR;rw[iR];simp[hc]
  ·intro r n l h0 hl hn hn0 hn4;have hc:=kX r h0 hl;have e1:(aM l).take n=aM l:=zZ (by simp;omega);have e2:l.take n=l:=zZ (by omega);have n4:¬ (n:Int)=400:=by omega
   have n4':¬ n=400:=by omega
   have hb:(n+1)*24≤140737488355328:=by omega
   subst hR;rw[iR];simp[hc,e1,e2,n4,n4',hb,hn]
 have h':=h R _ hY;clear hR hY h;have hrl:dF rows=rows→True:=fun _=>trivial
 by_cases hz:rows.length=0
 ·have:rows=[]:=zW.1 hz;subst this;simp[itO]at h';simp[h',hbs,hrb,K8,dF,bI]
 ·have hs:=F8 (g0:=136) (n:=rows.length) (fun e=>hz (by rw[e];rfl)) rfl (by omega) ho;have e1:List.take rows.length (dF rows)=dF rows:=zZ (by rw[bA];omega);simp[itO,aL hz,aI hz]at h';simp[h',hbs,hrb,hs,bA,e1]
theorem BX (w:Int) (it:FuncId) (hit:it≠uF) (bs bs2:List AV) (rows:List (List Val)) (hl:rows.length≤400) (ho:AOW rows)
 (h:∀ R cs,Yc R cs w→aH CE it [.fn (.yield 0) [.own 0 0], .own 4 0, .own 5 0] [some (.loop R cs .ready),some (.box [.int w]),some (.box [.int 0, .nils]),some (.box [.nils]),some (.box bs),some (.box bs2)]=some (.tup [],itO R cs w [some (.box bs),some (.box bs2)] rows)) (hbs:bD bs=[]) (hrbs:∀ r,AQ r bs=bs) (hbs2:bD bs2=[]) (hrbs2:∀ r,AQ r bs2=bs2) :
 aH CE 94 [.int w, .fn (.func it) [.own 0 0, .own 1 0]] [some (.box bs),some (.box bs2)]=some (.i (.agg [.int w, .isl (aM (dF rows))]),[some (.box bs),some (.box bs2)]):=by
 rw[aD rfl Tryz.func94 rfl rfl];simp[hbs,hrbs,hbs2,hrbs2,dC,ACD,JS,V6,AI7,Op.operands,Call.operands,hit];generalize hR:Rng.mk [0,1,2,4,5,6,7,8,11] _ [8] _ _=R
 have hY:Yc R [.own 1 0, .own 2 0, .own 3 0, .junk, .junk, .junk] w:=by
  clear h;refine⟨rfl,?_,?_,?_,?_⟩
  ·intro r h0 hl;have hc:=kW r h0 hl;subst hR;rw[iR];simp[hc]
  ·intro r n l h0 hl hn hn0 hn4;have hc:=kW r h0 hl;have e1:(aM l).take n=aM l:=zZ (by simp;omega);have e2:l.take n=l:=zZ (by omega);have n4:¬ (n:Int)=400:=by omega
   have n4':¬ n=400:=by omega
   have hb:(n+1)*24≤140737488355328:=by omega
   subst hR;rw[iR];simp[hc,e1,e2,n4,n4',hb,hn]
  ·intro r h0 hl;have hc:=kX r h0 hl;subst hR;rw[iR];simp[hc]
  ·intro r n l h0 hl hn hn0 hn4;have hc:=kX r h0 hl;have e1:(aM l).take n=aM l:=zZ (by simp;omega);have e2:l.take n=l:=zZ (by omega);have n4:¬ (n:Int)=400:=by omega
   have n4':¬ n=400:=by omega
   have hb:(n+1)*24≤140737488355328:=by omega
   subst hR;rw[iR];simp[hc,e1,e2,n4,n4',hb,hn]
 have h':=h R _ hY;clear hR hY h;have hrl:dF rows=rows→True:=fun _=>trivial
 by_cases hz:rows.length=0
 ·have:rows=[]:=zW.1 hz;subst this;simp[itO]at h';simp[h',hbs,hrbs,hbs2,hrbs2,K8,dF,bI]
 ·have hs:=F8 (g0:=136) (n:=rows.length) (fun e=>hz (by rw[e];rfl)) rfl (by omega) ho;have e1:List.take rows.length (dF rows)=dF rows:=zZ (by rw[bA];omega);simp[itO,aL hz,aI hz]at h';simp[h',hbs,hrbs,hbs2,hrbs2,hs,bA,e1]
theorem U1 (w:Int) (it:FuncId) (hit:it≠uF) (bs bs2 bs3:List AV) (rows:List (List Val)) (hl:rows.length≤400) (ho:AOW rows)
 (h:∀ R cs,Yc R cs w→aH CE it [.fn (.yield 0) [.own 0 0], .own 4 0, .own 5 0, .own 6 0] [some (.loop R cs .ready),some (.box [.int w]),some (.box [.int 0, .nils]),some (.box [.nils]),some (.box bs),some (.box bs2),some (.box bs3)]=some (.tup [],itO R cs w [some (.box bs),some (.box bs2),some (.box bs3)] rows)) (hbs:bD bs=[]) (hrbs:∀ r,AQ r bs=bs) (hbs2:bD bs2=[]) (hrbs2:∀ r,AQ r bs2=bs2) (hbs3:bD bs3=[]) (hrbs3:∀ r,AQ r bs3=bs3) :
 aH CE 94 [.int w, .fn (.func it) [.own 0 0, .own 1 0, .own 2 0]] [some (.box bs),some (.box bs2),some (.box bs3)]=some (.i (.agg [.int w, .isl (aM (dF rows))]),[some (.box bs),some (.box bs2),some (.box bs3)]):=by
 rw[aD rfl Tryz.func94 rfl rfl];simp[hbs,hrbs,hbs2,hrbs2,hbs3,hrbs3,dC,ACD,JS,V6,AI7,Op.operands,Call.operands,hit];generalize hR:Rng.mk [0,1,2,4,5,6,7,8,11] _ [8] _ _=R
 have hY:Yc R [.own 1 0, .own 2 0, .own 3 0, .junk, .junk, .junk] w:=by
  clear h;refine⟨rfl,?_,?_,?_,?_⟩
  ·intro r h0 hl;have hc:=kW r h0 hl;subst hR;rw[iR];simp[hc]
  ·intro r n l h0 hl hn hn0 hn4;have hc:=kW r h0 hl;have e1:(aM l).take n=aM l:=zZ (by simp;omega);have e2:l.take n=l:=zZ (by omega);have n4:¬ (n:Int)=400:=by omega
   have n4':¬ n=400:=by omega
   have hb:(n+1)*24≤140737488355328:=by omega
   subst hR;rw[iR];simp[hc,e1,e2,n4,n4',hb,hn]
  ·intro r h0 hl;have hc:=kX r h0 hl;subst hR;rw[iR];simp[hc]
  ·intro r n l h0 hl hn hn0 hn4;have hc:=kX r h0 hl;have e1:(aM l).take n=aM l:=zZ (by simp;omega);have e2:l.take n=l:=zZ (by omega);have n4:¬ (n:Int)=400:=by omega
   have n4':¬ n=400:=by omega
   have hb:(n+1)*24≤140737488355328:=by omega
   subst hR;rw[iR];simp[hc,e1,e2,n4,n4',hb,hn]
 have h':=h R _ hY;clear hR hY h;have hrl:dF rows=rows→True:=fun _=>trivial
 by_cases hz:rows.length=0
 ·have:rows=[]:=zW.1 hz;subst this;simp[itO]at h';simp[h',hbs,hrbs,hbs2,hrbs2,hbs3,hrbs3,K8,dF,bI]
 ·have hs:=F8 (g0:=136) (n:=rows.length) (fun e=>hz (by rw[e];rfl)) rfl (by omega) ho;have e1:List.take rows.length (dF rows)=dF rows:=zZ (by rw[bA];omega);simp[itO,aL hz,aI hz]at h';simp[h',hbs,hrbs,hbs2,hrbs2,hbs3,hrbs3,hs,bA,e1]
abbrev AU2 (l:List (List Val)):Prop:=∀ r∈l,r≠[]∧r.length<1000000
def VLX (R:Rng) (cs:List AV) (w:Int) (rows:List (List Val)) (i:Nat):AS :=
 { env:=[(0, .fn (.yield 0) [.own 0 0]),(1, .own 4 0),(4,jk i (.isl (aP ((rows[i-1]?).getD [])))),(5, .i (.isl (aM rows))),(6, .int rows.length),(7, .int i),(8,jk i (.bool true)),(14,jk i (.bool false))],st:=itO R cs w [some (.box [.i (.isl (aM rows))])] (rows.take i) }
theorem UY {R:Rng} {cs:List AV} {w:Int} (hY:Yc R cs w) (rows:List (List Val)) (hl:rows.length≤400) (hr:AU2 rows) :
 aH CE 137 [.fn (.yield 0) [.own 0 0], .own 4 0] [some (.loop R cs .ready),some (.box [.int w]),some (.box [.int 0, .nils]),some (.box [.nils]),some (.box [.i (.isl (aM rows))])]=some (.tup [],itO R cs w [some (.box [.i (.isl (aM rows))])] rows):=by
 obtain⟨rfl,c00,c10,-,-⟩:=hY;rw[aD rfl Tryz.func137 rfl rfl];simp;rw[aT (VLX R [.own 1 0, .own 2 0, .own 3 0, .junk, .junk, .junk] w rows) rows.length (by simp[VLX,itO])]
 ·rw[aF];have e1:rows.take rows.length=rows:=zZ (by simp);by_cases hz:rows.length=0
  ·simp[VLX,itO,e1,hz]
  ·simp[VLX,itO,e1,hz,aL hz,aI hz]
 ·intro i hi
  obtain⟨x,hx⟩:∃ x,rows[i]?=some x:=⟨_,zX hi⟩
  have hxn:=bW hx;obtain⟨_,hg⟩:=zY.1 hx;obtain⟨hx0,hxl⟩:=hr x (zV hx);have hT:=aO hx;have w3:IntKind.i64.wrap ((i:Int)+1)=i+1:=wrO;have hmin:min i rows.length=i:=by omega
  have hmin2:min (i+1) rows.length=i+1:=by omega
  by_cases h0:i=0
  ·subst h0;have hy:=c00 x hx0 hxl;simp at hT;simp[VLX,itO,hi,hxn,hy,hT,hx,hg,bB,bO,bI]
  ·have hy:=c10 x i (rows.take i) hx0 hxl (by simp;omega) h0 (by omega);simp[VLX,itO,hi,hxn,hy,hT,hx,hg,w3,h0,aL h0,aI h0,hmin,hmin2,bV,bO,bI]
@[simp] theorem ANB (a:List AV) (st:StL):aH CE 136 a st=aH C0 136 a st:=by
  rw[aN (p:=aH CR 136) rfl,aN (p:=aH C0 136) rfl]
@[simp] theorem AXP (a:List AV) (st:StL):aH CE 139 a st=aH C0 139 a st:=by
  rw[aN (p:=aH CR 139) rfl,aN (p:=aH C0 139) rfl]
@[simp] theorem Ac5 (a:List AV) (st:StL):aH CE 140 a st=O5 (aH C0) 140 a st:=by
  rw[aN (p:=O5 (aH C0) 140) rfl]
def DRX (R:Rng) (cs:List AV) (w:Int) (rows:List (List Val)) (i:Nat):AS :=
 { env:=[(0, .fn (.yield 0) [.own 0 0]),(1, .own 4 0),(3,jk i (.int ((i:Int)-1))),(4,jk i (.isl (aP ((rows[i-1]?).getD [])))),(5, .i (.isl (aM rows))),(6, .int rows.length),(7, .int i),(8,jk i (.bool true)),(23,jk i (.bool (decide (i-1≠0∧bR ((rows[i-1-1]?).getD []) ((rows[i-1]?).getD [])=0)))),(27,jk i (.bool false))],st:=itO R cs w [some (.box [.i (.isl (aM rows))])] (iQ (rows.take i)) }
theorem ADJ:∀ {l:List (List Val)},l≠[]→iQ l≠[]
 | [],h=>absurd rfl h
 | a::l,_=>by simp[iQ]
theorem YC {R:Rng} {cs:List AV} {w:Int} (hY:Yc R cs w) (rows:List (List Val)) (hl:rows.length≤400) (hr:AU2 rows) :
 aH CE 145 [.fn (.yield 0) [.own 0 0], .own 4 0] [some (.loop R cs .ready),some (.box [.int w]),some (.box [.int 0, .nils]),some (.box [.nils]),some (.box [.i (.isl (aM rows))])]=some (.tup [],itO R cs w [some (.box [.i (.isl (aM rows))])] (iQ rows)):=by
 obtain⟨rfl,c00,c10,-,-⟩:=hY;rw[aD rfl Tryz.func145 rfl rfl];simp;rw[aT (DRX R [.own 1 0, .own 2 0, .own 3 0, .junk, .junk, .junk] w rows) rows.length (by simp[DRX,itO,iQ])]
 ·rw[aF];have e1:rows.take rows.length=rows:=zZ (by simp);have hd:=(lQ rows).length_le;by_cases hz:rows.length=0
  ·have:rows=[]:=zW.1 hz;subst this;simp[DRX,itO,iQ]
  ·have hz2:(iQ rows).length≠0:=fun e=>ADJ (fun e=>hz (by rw[e];rfl)) (zW.1 e)
   simp[DRX,itO,e1,hz,aL hz2,aI hz2]
 ·intro i hi
  obtain⟨x,hx⟩:∃ x,rows[i]?=some x:=⟨_,zX hi⟩
  have hxn:=bW hx;obtain⟨_,hg⟩:=zY.1 hx;obtain⟨hx0,hxl⟩:=hr x (zV hx);have hT:=AQ0 hx;have w3:IntKind.i64.wrap ((i:Int)+1)=i+1:=wrO;by_cases h0:i=0
  ·subst h0;have hy:=c00 x hx0 hxl;simp at hT;simp[iQ,hg]at hT;simp[DRX,itO,hi,hxn,hy,hT,hx,hg,bB,bO,bI,iQ]
  ·obtain⟨p,hp⟩:∃ p,rows[i-1]?=some p:=⟨_,zX (by omega)⟩
   have hpn:=bW hp;obtain⟨_,hgp⟩:=zY.1 hp;have hc:=kH p x (hr p (zV hp)).2 hxl;have hne:iQ (rows.take i)≠[]:=ADJ fun e=>h0 (by have:=congrArg List.length e;rw[yK]at this;simp only[yE]at this;omega)
   have hnl:(iQ (rows.take i)).length≠0:=fun e=>hne (zW.1 e)
   have hlt:(iQ (rows.take i)).length<400:=by
    have:=(lQ (rows.take i)).length_le;rw[yK]at this;omega
   have hy:=c10 x _ (iQ (rows.take i)) hx0 hxl rfl hnl hlt;have wm:IntKind.i64.wrap ((i:Int)-1)=((i-1:Nat):Int):=by rw[wrO];omega
   have hi1:i-1<rows.length:=by omega
   have hpos:(0:Int)<i:=by omega
   have hpos':0<i:=by omega
   rw[hp]at hT;simp only[zA]at hT;simp only[DRX];generalize iQ (rows.take i)=D at *
   by_cases hk:bR p x=0
   ·simp[h0,hk]at hT;simp[itO,hi,hxn,hT,hx,hg,w3,h0,dK h0,aL hnl,aI hnl,hpn,hp,hgp,hc,hk,wm,hi1,hpos,hpos']
   ·simp[h0,hk]at hT;simp[itO,hi,hxn,hy,hT,hx,hg,w3,h0,dK h0,aL hnl,aI hnl,hpn,hp,hgp,hc,hk,wm,hi1,hpos,hpos',bV,bO,bI]
theorem LQ {e:Ex} {row:List Val} {w:Int} (hw:w=row.length) (hr:row.all Val.ok=true) (he:e.wf w=true):O5 (aH C0) 140 [.i (.iref e.cells), .i (.isl (aP row))] []=some (.i (.agg [.bool (e.ev row).null, .int (e.ev row).n]),[]):=by
 have h:=ABW row hw hr e he;simp[O5,D5,ZK,ZL,UU,h,mfR,uM,pO]
theorem XB {e:Ex} {row:List Val} {w:Int} (hw:w=row.length) (h0:row≠[]) (hr:row.all Val.ok=true) (he:e.wf w=true):O5 (aH C0) 140 [.i (.iref e.cells), .osl 0 2 0 row.length] [some (.arr 2 (aP row))]=some (.i (.agg [.bool (e.ev row).null, .int (e.ev row).n]),[some (.arr 2 (aP row))]):=by
 have h:=ABW row hw hr e he;have h1:0<row.length:=xX.2 h0;have h2:(aP row).take row.length=aP row:=zZ (by simp);simp[O5,D5,ZK,ZL,UU,h,h1,h2,mfR,uM,pO]
def FLX (R:Rng) (cs:List AV) (w:Int) (t:Tbl) (p:Pn) (e:Ex) (i:Nat):AS :=
 { env:=[(0, .fn (.yield 0) [.own 0 0]),(1, .own 4 0),(2, .own 5 0),(5,jk i (.isl (aP ((t.rows[i-1]?).getD [])))),(7, .i (.isl (aM t.rows))),(8, .int t.rows.length),(9, .int i),(10,jk i (.bool true)),(27,jk i (.bool false))],st:=itO R cs w [some (.box [.i (.int t.w), .i (.isl (aM t.rows))]),some (.box [.i (.iref p.cells)])] ((t.rows.take i).filter (isT e)) }
theorem AB2 {R:Rng} {cs:List AV} {w:Int} (hY:Yc R cs w) (t:Tbl) (p:Pn) (e:Ex) (hp:p.exprs[0]?=some e) (ht:t.ok=true) (he:e.wf t.w=true) :
 aH CE 138 [.fn (.yield 0) [.own 0 0], .own 4 0, .own 5 0] [some (.loop R cs .ready),some (.box [.int w]),some (.box [.int 0, .nils]),some (.box [.nils]),some (.box [.i (.int t.w), .i (.isl (aM t.rows))]),some (.box [.i (.iref p.cells)])]=some (.tup [],itO R cs w [some (.box [.i (.int t.w), .i (.isl (aM t.rows))]),some (.box [.i (.iref p.cells)])] (t.rows.filter (isT e))):=by
 obtain⟨rfl,c00,c10,-,-⟩:=hY;obtain⟨ht1,ht2,ht3,-⟩:=(Tbl.dN t).1 ht;obtain⟨htw1,htw2⟩:=(d9 _).1 ht1;have hen:=Ex.aR hp;have hel:0<p.exprs.length:=(zY.1 hp).1;rw[aD rfl Tryz.func138 rfl rfl];rw[Pn.aA p];simp;rw[aT (FLX R [.own 1 0, .own 2 0, .own 3 0, .junk, .junk, .junk] w t p e) t.rows.length (by rw[show FLX R [.own 1 0, .own 2 0, .own 3 0, .junk, .junk, .junk] w t p e 0=_ from rfl];simp only[FLX];rw[Pn.aA p];simp[itO])]
 ·rw[aF];have e1:t.rows.take t.rows.length=t.rows:=zZ (by simp);simp only[FLX];rw[Pn.aA p,e1];generalize t.rows.filter (isT e)=D;by_cases hz:D.length=0<;>by_cases hz2:t.rows.length=0<;>simp[itO,hz,hz2,aL,aI]
 ·intro i hi
  obtain⟨x,hx⟩:∃ x,t.rows[i]?=some x:=⟨_,zX hi⟩
  have hxn:=bW hx;obtain⟨_,hg⟩:=zY.1 hx;have hxo:=ht3 x (zV hx);unfold rowOk at hxo;simp only[zU,zS]at hxo;have hx0:x≠[]:=fun e=>by rw[e]at hxo;simp at hxo;omega
  have hxl:x.length<1000000:=by omega
  have hv:=LQ (w:=t.w) hxo.1.symm hxo.2 he;have htr:=OU (e.ev x).null (e.ev x).n
  have hT:(t.rows.take (i+1)).filter (isT e)=(t.rows.take i).filter (isT e)++if isT e x=true then [x]else []:=by
   rw[aO hx,xN];simp[List.filter];split<;>simp_all
  have w3:IntKind.i64.wrap ((i:Int)+1)=i+1:=wrO
  have hDl:((t.rows.take i).filter (isT e)).length<400:=by
   have:=yG (isT e) (t.rows.take i);rw[yK]at this;omega
  simp only[FLX];rw[Pn.aA p,Ex.aA e]at *
  generalize (t.rows.take i).filter (isT e)=D at *
  by_cases hk:(e.ev x).tr=2
  ·have hkT:isT e x=true:=by simp[isT,hk]
   rw[hkT]at hT;by_cases hz:D.length=0
   ·have:D=[]:=zW.1 hz;subst this;have hy:=c00 x hx0 hxl;simp at hT;by_cases h0:i=0
    ·subst h0;simp at hT;simp[itO,hi,hxn,hT,hx,hg,w3,bB,hen,hel,hv,htr,hk,hy,bO,bI]
    ·simp[itO,hi,hxn,hT,hx,hg,w3,bB,hen,hel,hv,htr,hk,h0,hy,bO,bI]
   ·have hy:=c10 x _ D hx0 hxl rfl hz hDl;simp at hT;by_cases h0:i=0
    ·subst h0;simp at hT;simp[itO,hi,hxn,hT,hx,hg,w3,bB,hen,hel,hv,htr,hk,hy,aL hz,aI hz,bV,bO,bI]
    ·simp[itO,hi,hxn,hT,hx,hg,w3,bB,hen,hel,hv,htr,hk,h0,hy,aL hz,aI hz,bV,bO,bI]
  ·have hkT:isT e x=false:=by simp[isT,hk]
   rw[hkT]at hT;simp at hT;by_cases h0:i=0
   ·subst h0;simp at hT;by_cases hz:D.length=0<;>simp[itO,hi,hxn,hT,hx,hg,w3,bB,hen,hel,hv,htr,hk,hz,aL,aI]
   ·by_cases hz:D.length=0<;>simp[itO,hi,hxn,hT,hx,hg,w3,bB,hen,hel,hv,htr,hk,h0,hz,aL,aI]
end Go.Proofs.YtnmimmaahhlgeaaGreat.P

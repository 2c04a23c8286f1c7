/- Part 8 of what the proof rests on: the executor and what it is worth, and the program's functions as it runs them. No condition. -/
import Derived.Test.YtnmimmaahhlgeaaGreatT7
import Derived.Test.YtnmimmaahhlgeaaGreatRows
import Derived.WalkKit
import Derived.ProofKit
import Derived.Below
import Derived.JoinedOf
set_option linter.unusedVariables false
set_option linter.unusedSimpArgs false
namespace Go.Proofs.YtnmimmaahhlgeaaGreat.P
open Go Go.Av G
set_option maxRecDepth 4000
set_option maxHeartbeats 8000000
def itB (R:Rng) (cs:List AV) (w:Int) (bx:StL) (rows:List (List Val)) (out:List Val):StL :=
 some (.loop R cs .ready)::some (.box [.int w])::some (.box [.int 0, .nils])::some (.box [gro (4+bx.length) 1 rows.length])::(bx++(vT 1 (aM rows) rows.length++[some (.arr 2 (aP out))]))
def oId (b:Nat) (rows:List (List Val)):Nat:=if rows.length=0 then b else b+1
theorem OQ (n:Nat) (v:Val):aP (List.replicate n v)=List.replicate n [.bool v.null, .int v.n]:=by
 induction n with
 | zero=>rfl
 | succ n ih=>simp[xP,aP,ih]
theorem APM {es:List Ex} {O x:List Val} {j:Nat} {e:Ex} (h:es[j]?=some e) (hO:O.length=es.length):((es.map (Ex.ev x)).take j++O.drop j).set j (e.ev x)=(es.map (Ex.ev x)).take (j+1)++O.drop (j+1)∧∃ o,((es.map (Ex.ev x)).take j++O.drop j)[j]?=some o:=by
 have hj:=(zY.1 h).1;have hd:O.drop j=O[j]'(by omega)::O.drop (j+1):=yA (by omega);rw[← List.map_take,← List.map_take];have hl:((es.take j).map (Ex.ev x)).length=j:=by simp;omega
 rw[hd];refine⟨?_,_,kC _ _ _ hl.symm⟩;rw[set_mid _ _ _ _ hl.symm,aO h];simp
def PLX (R:Rng) (cs:List AV) (w:Int) (t:Tbl) (p:Pn) (i:Nat) (O:List Val) (x6 x7:IV) (g:AV):AS :=
 { env:=[(0, .fn (.yield 0) [.own 0 0]),(1, .own 4 0),(2, .own 5 0),(4, .osl (oId 6 (t.rows.take i)) 2 0 p.exprs.length),(6,jk i x6),(7,jk i x7),(15, .i (.isl (aM t.rows))),(16, .int t.rows.length),(17, .int i),(18,g),(25,jk i (.int p.exprs.length)),(26,jk i (.int p.exprs.length)),(27,jk i (.bool false)),(44,jk i (.bool false))],
   st:=itB R cs w [some (.box [.i (.iref p.cells)]),some (.box [.i (.int t.w), .i (.isl (aM t.rows))])] ((t.rows.take i).map fun r=>p.exprs.map (Ex.ev r)) O }
def PIX (R:Rng) (cs:List AV) (w:Int) (t:Tbl) (p:Pn) (i:Nat) (x:List Val) (O:List Val) (x7:IV) (j:Nat):AS :=
 { env:=[(0, .fn (.yield 0) [.own 0 0]),(1, .own 4 0),(2, .own 5 0),(4, .osl (oId 6 (t.rows.take i)) 2 0 p.exprs.length),(6, .i (.isl (aP x))),(7,if j=0 then jk i x7 else .int ((j:Int)-1)),(15, .i (.isl (aM t.rows))),(16, .int t.rows.length),(17, .int i),(18, .bool true),(25, .int p.exprs.length),(26, .int j),(27,if j=0 then jk i (.bool false)else .bool true),(44,jk i (.bool false))],
   st:=itB R cs w [some (.box [.i (.iref p.cells)]),some (.box [.i (.int t.w), .i (.isl (aM t.rows))])] ((t.rows.take i).map fun r=>p.exprs.map (Ex.ev r)) ((p.exprs.map (Ex.ev x)).take j++O.drop j) }
theorem WH {R:Rng} {cs:List AV} {w:Int} (hY:Yc R cs w) (t:Tbl) (p:Pn) (ht:t.ok=true) (hn:1≤p.exprs.length) (hn2:p.exprs.length<100) (he:∀ e∈p.exprs,e.wf t.w=true) :
 aH CE 141 [.fn (.yield 0) [.own 0 0], .own 4 0, .own 5 0] [some (.loop R cs .ready),some (.box [.int w]),some (.box [.int 0, .nils]),some (.box [.nils]),some (.box [.i (.iref p.cells)]),some (.box [.i (.int t.w), .i (.isl (aM t.rows))])]=some (.tup [],itO R cs w [some (.box [.i (.iref p.cells)]),some (.box [.i (.int t.w), .i (.isl (aM t.rows))])] (t.rows.map fun r=>p.exprs.map (Ex.ev r))):=by
 obtain⟨rfl,-,-,c01,c11⟩:=hY;obtain⟨ht1,ht2,ht3,-⟩:=(Tbl.dN t).1 ht;obtain⟨htw1,htw2⟩:=(d9 _).1 ht1;have hb:16*(p.exprs.length:Int)≤281474976710656:=by omega
 have hb2:16*p.exprs.length≤281474976710656:=by omega
 have hn0:p.exprs.length≠0:=by omega
 have hn0':p.exprs≠[]:=fun e=>hn0 (by rw[e];rfl)
 rw[aD rfl Tryz.func141 rfl rfl];have hrep:=OQ p.exprs.length ⟨false,0⟩;simp only at hrep;have h0:PLX R [.own 1 0, .own 2 0, .own 3 0, .junk, .junk, .junk] w t p 0 (List.replicate p.exprs.length ⟨false,0⟩) (.int 0) (.int 0) .junk=PLX R [.own 1 0, .own 2 0, .own 3 0, .junk, .junk, .junk] w t p 0 (List.replicate p.exprs.length ⟨false,0⟩) (.int 0) (.int 0) .junk:=rfl
 conv at h0=>lhs;simp only[PLX,itB,hrep]
 rw[Pn.aA p]at h0 ⊢;simp[oId]at h0;simp[hb,hb2];rw[h0];rw[← Pn.aA p];clear h0;generalize hX:dD CE _ _ (Code.loop _) _=X
 have key:∃ rr,X=some rr∧∃ (O:List Val) (x6 x7:IV),rr=(.exit 0,PLX R [.own 1 0, .own 2 0, .own 3 0, .junk, .junk, .junk] w t p t.rows.length O x6 x7 (.bool false)):=by
  rw[← hX];refine lH (fun d St=>∃ (i:Nat) (O:List Val) (x6 x7:IV),St=PLX R [.own 1 0, .own 2 0, .own 3 0, .junk, .junk, .junk] w t p i O x6 x7 (jk i (.bool true))∧i≤t.rows.length∧O.length=p.exprs.length∧d=t.rows.length-i) ?_ _ _ ⟨0,_,_,_,rfl,by omega,by simp,rfl⟩;rintro d St ⟨i,O,x6,x7,rfl,hiN,hO,hd⟩;by_cases hi:i<t.rows.length
  ·left
   obtain⟨x,hx⟩:∃ x,t.rows[i]?=some x:=⟨_,zX hi⟩
   have hxn:=bW hx;have hxo:=ht3 x (zV hx);unfold rowOk at hxo;simp only[zU,zS]at hxo;have w3:IntKind.i64.wrap ((i:Int)+1)=i+1:=wrO
   obtain⟨Q0,hQ⟩:∃ Q0:AS→Prop,∀ S1,Q0 S1↔∃ (O':List Val) (x6 x7:IV),S1=PLX R [.own 1 0, .own 2 0, .own 3 0, .junk, .junk, .junk] w t p (i+1) O' x6 x7 (.bool true)∧O'.length=p.exprs.length:=⟨fun S1=>_,fun S1=>Iff.rfl⟩
   refine F7 Q0 ?_ (fun S1 hS1=>by
    obtain⟨O',x6,x7,rfl,e1⟩:=(hQ S1).1 hS1
    exact⟨t.rows.length-(i+1),by omega,i+1,O',x6,x7,rfl,by omega,e1,rfl⟩)
   simp only[PLX,itB,oId];rw[Pn.aA p];have htk:(t.rows.take i).length=i:=by simp;omega
   have wj:∀ j:Nat,j<100→IntKind.i64.wrap ((j:Int)+1)=j+1:=fun j hj=>wrO
   have inner:∀ j,j<p.exprs.length→∃ e o,p.exprs[j]?=some e∧fH (Ex.aB p.exprs) j=some e.cells∧O5 (aH C0) 140 [.i (.iref e.cells), .i (.isl (aP x))] []=some (.i (.agg [.bool (e.ev x).null, .int (e.ev x).n]),[])∧fH (aP ((p.exprs.map (Ex.ev x)).take j++O.drop j)) j=some [.bool (Val.null o), .int (Val.n o)]∧(aP ((p.exprs.map (Ex.ev x)).take j++O.drop j)).set j [.bool (e.ev x).null, .int (e.ev x).n]=aP ((p.exprs.map (Ex.ev x)).take (j+1)++O.drop (j+1)):=by
    intro j hj;have h3:=zX hj;obtain⟨q1,o,q2⟩:=APM (x:=x) h3 hO;exact⟨_,o,h3,Ex.aR h3,LQ (w:=t.w) hxo.1.symm hxo.2 (he _ (zV h3)),bZ q2,by rw[D6,q1]⟩
   have hT:(t.rows.take (i+1)).map (fun r=>p.exprs.map (Ex.ev r))=(t.rows.take i).map (fun r=>p.exprs.map (Ex.ev r))++[p.exprs.map (Ex.ev x)]:=by rw[aO hx,yH];rfl
   have hTl:(t.rows.take (i+1)).length=i+1:=by simp;omega
   have hmin:min i t.rows.length=i:=by omega
   have hmin2:min (i+1) t.rows.length=i+1:=by omega
   have htk2:(p.exprs.map (Ex.ev x)).take p.exprs.length=p.exprs.map (Ex.ev x):=zZ (by simp);have hdr:O.drop p.exprs.length=[]:=xV (by omega);have hr0:p.exprs.map (Ex.ev x)≠[]:=by simpa using hn0'
   by_cases hz:i=0
   ·have hy:=c01 (p.exprs.map (Ex.ev x)) hr0 (by simp;omega);simp at hy;subst hz;simp at hT;simp[hi,hxn];rw[aT (PIX R [.own 1 0, .own 2 0, .own 3 0, .junk, .junk, .junk] w t p 0 x O x7) p.exprs.length (by simp[PIX,itB,oId,Pn.aA p])]
    ·rw[aF];simp[PIX,itB,oId,Pn.aA p,htk2,hdr,hy,hn0,bB];rw[hQ];refine⟨p.exprs.map (Ex.ev x), .isl (aP x), .int ((p.exprs.length:Int)-1),?_,by simp⟩;simp[PLX,itB,oId,Pn.aA p,hT,hmin2,bO,bI]
    ·intro j hj;obtain⟨e,o,q1,q2,q3,q4,q5⟩:=inner j hj;have wjj:=wj j (by omega);rw[Ex.aA e]at q2 q3;by_cases hj0:j=0
     ·subst hj0;simp at q4 q5;simp[PIX,itB,oId,Pn.aA p,hj,q2,q3,q4,q5,bB]
     ·simp[PIX,itB,oId,Pn.aA p,hj,q2,q3,q4,q5,wjj,hj0]
   ·have hy:=c11 (p.exprs.map (Ex.ev x)) i ((t.rows.take i).map fun r=>p.exprs.map (Ex.ev r)) hr0 (by simp;omega) (by simp;omega) hz (by omega);simp[xE]at hy hT;simp[hi,hxn,hz,hmin,aL hz,aI hz,dK hz];rw[aT (PIX R [.own 1 0, .own 2 0, .own 3 0, .junk, .junk, .junk] w t p i x O x7) p.exprs.length (by simp[PIX,itB,oId,Pn.aA p,hz,hmin,aL hz,aI hz,dK hz])]
    ·rw[aF];simp[PIX,itB,oId,Pn.aA p,htk2,hdr,hy,hn0,w3,hz,hmin,aL hz,aI hz,dK hz];rw[hQ];refine⟨p.exprs.map (Ex.ev x), .isl (aP x), .int ((p.exprs.length:Int)-1),?_,by simp⟩;simp[PLX,itB,oId,Pn.aA p,hT,hmin,hmin2,bV,bO,bI]
    ·intro j hj;obtain⟨e,o,q1,q2,q3,q4,q5⟩:=inner j hj;have wjj:=wj j (by omega);rw[Ex.aA e]at q2 q3;by_cases hj0:j=0
     ·subst hj0;simp at q4 q5;simp[PIX,itB,oId,Pn.aA p,hj,q2,q3,q4,q5,bB,hz,hmin,aL hz,aI hz,dK hz]
     ·simp[PIX,itB,oId,Pn.aA p,hj,q2,q3,q4,q5,wjj,hj0,hz,hmin,aL hz,aI hz,dK hz]
  ·right;have hieq:i=t.rows.length:=by omega
   subst hieq;refine⟨.exit 0,PLX R [.own 1 0, .own 2 0, .own 3 0, .junk, .junk, .junk] w t p t.rows.length O x6 x7 (.bool false),?_,by simp,O,x6,x7,rfl⟩;simp only[PLX,itB,oId];rw[Pn.aA p];by_cases hz:t.rows.length=0<;>simp[hz,aL,aI]
 obtain⟨rr,rfl,O,x6,x7,rfl⟩:=key;simp only[PLX,itB,oId,itO];rw[Pn.aA p];by_cases hz:t.rows.length=0<;>simp[hz,aL,aI]
theorem OT:∀ (n:Nat) (l:List Val),(aP l).drop n=aP (l.drop n)
 | 0,l=>rfl
 | n+1,[]=>rfl
 | n+1,v::l=>by simp only[aP,List.drop_succ_cons];exact OT n l
theorem PR (O s:List Val) (k:Nat):over (aP O) k (aP s)=aP (O.take k++(s++O.drop (k+s.length))):=by
 unfold over;rw[OP,OT,GK,mW,mW,zK]
theorem AFT {O x:List Val} {A:Nat} (h:x.length=A):over (aP O) 0 (aP x)=aP (x++O.drop A):=by
 rw[PR];simp[h]
theorem KZ {O x s:List Val} {A:Nat} (h:x.length=A) (hO:O.length≤s.length):over (aP (x++O)) A (aP s)=aP (x++s):=by
 rw[PR,← h,zA9,xV (by simp;omega),xZ]
theorem ACN {O x:List Val} {A B j:Nat} (h:x.length=A) (hO:O.length=B) (hj:j<B):(x++(List.replicate j (⟨true,0⟩:Val)++O.drop j)).set (A+j) ⟨true,0⟩=x++(List.replicate (j+1) (⟨true,0⟩:Val)++O.drop (j+1))∧∃ o,(x++(List.replicate j (⟨true,0⟩:Val)++O.drop j))[A+j]?=some o:=by
 have hd:O.drop j=O[j]'(by omega)::O.drop (j+1):=yA (by omega);have e:x++(List.replicate j (⟨true,0⟩:Val)++O.drop j)=(x++List.replicate j ⟨true,0⟩)++(O[j]'(by omega)::O.drop (j+1)):=by rw[hd,zK]
 have hl:A+j=(x++List.replicate j (⟨true,0⟩:Val)).length:=by simp;omega
 rw[e];refine⟨?_,_,kC _ _ _ hl⟩;rw[set_mid _ _ _ _ hl,List.replicate_succ'];simp
def jf (f:Nat→Nat×IV) (t:Nat):AV:=jk (f t).1 (f t).2
def JX (R:Rng) (cs:List AV) (w:Int) (a b:Tbl) (p:Pn) (W:Nat) (L:List (List Val)) (O:List Val) (i:Int) (f:Nat→Nat×IV):AS :=
 { env:=[(0, .fn (.yield 0) [.own 0 0]),(1, .own 4 0),(2, .own 5 0),(3, .own 6 0),(5, .osl (oId 7 L) 2 0 W),(7,jf f 7),(8,jf f 8),(10,jf f 10),(11,jf f 11),(19, .i (.isl (aM a.rows))),(20, .int a.rows.length),(21, .int i),(22,jf f 22),(29,jf f 29),(30,jf f 30),(31,jf f 31),(32,jf f 32),(49,jf f 49),(53,jf f 53),(62,jf f 62),(68,jf f 68),(78,jf f 78)],
   st:=itB R cs w [some (.box [.i (.int a.w), .i (.isl (aM a.rows))]),some (.box [.i (.int b.w), .i (.isl (aM b.rows))]),some (.box [.i (.iref p.cells)])] L O }
@[simp] theorem Ae1 (a:List AV) (st:StL):aH CE 143 a st=aH C0 143 a st:=by
  rw[aN (p:=aH CR 143) rfl,aN (p:=aH C0 143) rfl]
theorem LB:aH C0 143 [] []=some (.i (.agg [.bool true, .int 0]),[]):=by
 rw[aD rfl Tryz.func143 rfl rfl];simp
def NX (R:Rng) (cs:List AV) (w:Int) (a b:Tbl) (p:Pn) (A B:Nat) (L:List (List Val)) (x O2:List Val) (i:Int) (f:Nat→Nat×IV) (j:Nat):AS :=
 JX R cs w a b p (A+B) L (x++(List.replicate j ⟨true,0⟩++O2.drop j)) i (upd (upd (upd f 62 (1, .bool false)) 11 (1, .int ((A:Int)+j))) 68 (if j=0 then f 68 else(1, .bool true)))
theorem AKQ {R:Rng} {cs:List AV} {w:Int} (hY:Yc R cs w) (a b:Tbl) (p:Pn) (e:Ex) (hp:p.exprs[0]?=some e) (hk:p.kind=4∨p.kind=5) (ha:a.ok=true) (hb:b.ok=true) (he:e.wf (a.w+b.w)=true) (hN:(fD e (decide (p.kind=5)) a b).length≤400) :
 aH CE 142 [.fn (.yield 0) [.own 0 0], .own 4 0, .own 5 0, .own 6 0] [some (.loop R cs .ready),some (.box [.int w]),some (.box [.int 0, .nils]),some (.box [.nils]),some (.box [.i (.int a.w), .i (.isl (aM a.rows))]),some (.box [.i (.int b.w), .i (.isl (aM b.rows))]),some (.box [.i (.iref p.cells)])]=some (.tup [],itO R cs w [some (.box [.i (.int a.w), .i (.isl (aM a.rows))]),some (.box [.i (.int b.w), .i (.isl (aM b.rows))]),some (.box [.i (.iref p.cells)])] (fD e (decide (p.kind=5)) a b)):=by
 obtain⟨rfl,-,-,c01,c11⟩:=hY;obtain⟨ha1,ha2,ha3,-⟩:=(Tbl.dN a).1 ha;obtain⟨haw1,haw2⟩:=(d9 _).1 ha1;obtain⟨hb1,hb2,hb3,-⟩:=(Tbl.dN b).1 hb;obtain⟨hbw1,hbw2⟩:=(d9 _).1 hb1
 obtain⟨A,hA⟩:∃ A:Nat,a.w=A:=⟨a.w.toNat,by omega⟩
 obtain⟨B,hB⟩:∃ B:Nat,b.w=B:=⟨b.w.toNat,by omega⟩
 have hen:=Ex.aR hp;have hel:0<p.exprs.length:=(zY.1 hp).1;have wAB:IntKind.i64.wrap ((A:Int)+B)=((A+B:Nat):Int):=by rw[wrO];omega
 have hbb:16*((A+B:Nat):Int)≤281474976710656:=by omega
 have hbb2:16*(A+B)≤281474976710656:=by omega
 have hbb3:16*((A:Int)+B)≤281474976710656:=by omega
 have hpos:(0:Int)≤(A:Int)+B:=by omega
 have htn:((A:Int)+B).toNat=A+B:=by omega
 have hAB:(A:Int)≤(A:Int)+B:=by omega
 have hrep:=OQ (A+B) ⟨false,0⟩;simp only at hrep;rw[aD rfl Tryz.func142 rfl rfl];rw[Pn.aA p];simp[hA,hB,wAB,hbb,hbb2,hbb3,hpos,htn];generalize hX:dD CE _ _ (Code.loop _) _=X
 have hJl:∀ i x,a.rows[i]?=some x→(a.rows.take (i+1)).flatMap (joinL e (decide (p.kind=5)) b.w b.rows)=(a.rows.take i).flatMap (joinL e (decide (p.kind=5)) b.w b.rows)++joinL e (decide (p.kind=5)) b.w b.rows x∧((a.rows.take i).flatMap (joinL e (decide (p.kind=5)) b.w b.rows)).length+(joinL e (decide (p.kind=5)) b.w b.rows x).length≤400:=by
  intro i x hx;have h1:(a.rows.take (i+1)).flatMap (joinL e (decide (p.kind=5)) b.w b.rows)=(a.rows.take i).flatMap (joinL e (decide (p.kind=5)) b.w b.rows)++joinL e (decide (p.kind=5)) b.w b.rows x:=by rw[aO hx];simp
  refine⟨h1,?_⟩
  have h2:fD e (decide (p.kind=5)) a b=(a.rows.take (i+1)).flatMap (joinL e (decide (p.kind=5)) b.w b.rows)++(a.rows.drop (i+1)).flatMap (joinL e (decide (p.kind=5)) b.w b.rows):=by
   rw[← List.flatMap_append,zC];rfl
  rw[h2,h1]at hN;simp only[zQ]at hN;omega
 have hfin:(a.rows.take a.rows.length).flatMap (joinL e (decide (p.kind=5)) b.w b.rows)=fD e (decide (p.kind=5)) a b:=by rw[zZ (zJ _)];rfl
 have key:∃ rr,X=some rr∧∃ (O:List Val) (f:Nat→Nat×IV),f 22=(1, .bool false)∧rr=(.exit 0,JX R [.own 1 0, .own 2 0, .own 3 0, .junk, .junk, .junk] w a b p (A+B) (fD e (decide (p.kind=5)) a b) O a.rows.length f):=by
  rw[← hX];clear hX;refine lH (fun d St=>∃ (i:Nat) (O:List Val) (f:Nat→Nat×IV),St=JX R [.own 1 0, .own 2 0, .own 3 0, .junk, .junk, .junk] w a b p (A+B) ((a.rows.take i).flatMap (joinL e (decide (p.kind=5)) b.w b.rows)) O i f∧i≤a.rows.length∧O.length=A+B∧d=a.rows.length-i) ?_ _ _ ⟨0,List.replicate (A+B) ⟨false,0⟩,fun _=>(0, .int 0),by simp[JX,jf,itB,oId,hA,hB,hrep,bI,Pn.aA p],by omega,by simp,rfl⟩;rintro d St ⟨i,O,f,rfl,hiN,hO,hd⟩;by_cases hi:i<a.rows.length
  ·left
   obtain⟨x,hx⟩:∃ x,a.rows[i]?=some x:=⟨_,zX hi⟩
   have hxn:=bW hx;have hxo:=ha3 x (zV hx);unfold rowOk at hxo;simp only[zU,zS]at hxo;obtain⟨hJ1,hJ2⟩:=hJl i x hx;have w3:IntKind.i64.wrap ((i:Int)+1)=i+1:=wrO
   obtain⟨Q0,hQ⟩:∃ Q0:AS→Prop,∀ S1,Q0 S1↔∃ (O:List Val) (f:Nat→Nat×IV),S1=JX R [.own 1 0, .own 2 0, .own 3 0, .junk, .junk, .junk] w a b p (A+B) ((a.rows.take (i+1)).flatMap (joinL e (decide (p.kind=5)) b.w b.rows)) O ((i:Int)+1) f∧O.length=A+B:=⟨fun S1=>_,fun S1=>Iff.rfl⟩
   refine F7 Q0 ?_ (fun S1 hS1=>by
    obtain⟨O',f',rfl,e1⟩:=(hQ S1).1 hS1
    exact⟨a.rows.length-(i+1),by omega,i+1,O',f',rfl,by omega,e1,rfl⟩)
   rw[hJ1]at hQ;generalize (a.rows.take i).flatMap (joinL e (decide (p.kind=5)) b.w b.rows)=L at *
   have hxl:x.length=A:=by omega
   have hov1:=AFT (O:=O) hxl;have hxt:List.take (A+B) x=x:=zZ (by omega);have hOl:A+B≤O.length:=by omega
   have htr:=fun r:List Val=>OU (e.ev r).null (e.ev r).n
   obtain⟨O1,hO1,hO1l⟩:∃ O1,O1=O.drop A∧O1.length=B:=⟨_,rfl,by simp;omega⟩
   rw[← hO1]at hov1;simp only[JX,itB,oId];rw[Pn.aA p]
   have hMp:∀ j:Nat,(jH e (b.rows.take j) x).length≤(joinL e (decide (p.kind=5)) b.w b.rows x).length:=by
    intro j
    have h1:(jH e (b.rows.take j) x).length≤(jH e b.rows x).length:=by
     have:jH e b.rows x=jH e (b.rows.take j) x++jH e (b.rows.drop j) x:=by
      unfold jH;rw[← List.filter_append,← List.map_append,zC]
     rw[this,zQ];omega
    refine zA0 h1 ?_;unfold joinL;split
    ·rename_i hc;simp only[zU,zG1]at hc;rw[hc.2];simp
    ·exact zJ _
   have round:∀ {G:List Nat} {na:Nat} {bd:Code} (f0:Nat→Nat×IV) (S0:AS) (h0:S0=JX R [.own 1 0, .own 2 0, .own 3 0, .junk, .junk, .junk] w a b p (A+B) L (x++O1) i f0) (h7:f0 7=(1, .isl (aP x))) (h8:f0 8=(1, .bool false)) (h22:f0 22=(1, .bool true)) (h29:f0 29=(1, .isl (aM b.rows))) (h30:f0 30=(1, .int b.rows.length)) (h31:f0 31=(1, .int 0))
    (hstep:∀ (j:Nat) (s:List Val) (LL:List (List Val)) (O2:List Val) (f1:Nat→Nat×IV) (m:Bool),b.rows[j]?=some s→s.length=B→s.all Val.ok=true→O2.length=B→LL.length+(if isT e (x++s)=true then 1 else 0)≤400→f1 7=(1, .isl (aP x))→f1 8=(1, .bool m)→f1 22=(1, .bool true)→f1 29=(1, .isl (aM b.rows))→f1 30=(1, .int b.rows.length)→f1 31=(1, .int j) →
     ∃ f2:Nat→Nat×IV,dD CE G na bd (JX R [.own 1 0, .own 2 0, .own 3 0, .junk, .junk, .junk] w a b p (A+B) LL (x++O2) i f1)=some (.normal,JX R [.own 1 0, .own 2 0, .own 3 0, .junk, .junk, .junk] w a b p (A+B) (LL++if isT e (x++s)=true then [x++s]else []) (x++s) i f2)∧f2 7=(1, .isl (aP x))∧f2 8=(1, .bool (m || isT e (x++s)))∧f2 22=(1, .bool true)∧f2 29=(1, .isl (aM b.rows))∧f2 30=(1, .int b.rows.length)∧f2 31=(1, .int ((j:Int)+1)))
    (hlast:∀ (LL:List (List Val)) (O2:List Val) (f1:Nat→Nat×IV),f1 7=(1, .isl (aP x))→f1 22=(1, .bool true)→f1 29=(1, .isl (aM b.rows))→f1 30=(1, .int b.rows.length)→f1 31=(1, .int b.rows.length)→dD CE G na bd (JX R [.own 1 0, .own 2 0, .own 3 0, .junk, .junk, .junk] w a b p (A+B) LL (x++O2) i f1)=some (.exit 2,JX R [.own 1 0, .own 2 0, .own 3 0, .junk, .junk, .junk] w a b p (A+B) LL (x++O2) i (upd f1 32 (1, .bool false)))),
    ∃ rr,dD CE G na (.loop bd) S0=some rr∧∃ (O2:List Val) (f1:Nat→Nat×IV),rr=(.exit 2,JX R [.own 1 0, .own 2 0, .own 3 0, .junk, .junk, .junk] w a b p (A+B) (L++jH e b.rows x) (x++O2) i f1)∧O2.length=B∧f1 7=(1, .isl (aP x))∧f1 8=(1, .bool (decide (jH e b.rows x≠[])))∧f1 22=(1, .bool true):=by
    intro G na bd f0 S0 h0 h7 h8 h22 h29 h30 h31 hstep hlast;subst h0;refine lH (fun d St=>∃ (j:Nat) (O2:List Val) (f1:Nat→Nat×IV),St=JX R [.own 1 0, .own 2 0, .own 3 0, .junk, .junk, .junk] w a b p (A+B) (L++jH e (b.rows.take j) x) (x++O2) i f1∧O2.length=B∧j≤b.rows.length∧f1 7=(1, .isl (aP x))∧f1 8=(1, .bool (decide (jH e (b.rows.take j) x≠[])))∧f1 22=(1, .bool true)∧f1 29=(1, .isl (aM b.rows))∧f1 30=(1, .int b.rows.length)∧f1 31=(1, .int j)∧d=b.rows.length-j) ?_ _ _ ⟨0,O1,f0,by simp[jH],hO1l,by omega,h7,by simp[h8,jH],h22,h29,h30,h31,rfl⟩;rintro d St ⟨j,O2,f1,rfl,hO2,hjM,g7,g8,g22,g29,g30,g31,hd⟩;by_cases hj:j<b.rows.length
    ·left
     obtain⟨s,hs⟩:∃ s,b.rows[j]?=some s:=⟨_,zX hj⟩
     have hso:=hb3 s (zV hs);unfold rowOk at hso;simp only[zU,zS]at hso;have hsn:=AG3 (e:=e) hs x;have hlen:=hMp (j+1);rw[hsn]at hlen;simp only[zQ]at hlen
     obtain⟨f2,k1,k7,k8,k22,k29,k30,k31⟩:=hstep j s (L++jH e (b.rows.take j) x) O2 f1 _ hs (by omega) hso.2 hO2 (by
      rw[zQ];have:(if isT e (x++s)=true then [x++s]else []).length=if isT e (x++s)=true then 1 else 0:=by split<;>rfl
      omega) g7 g8 g22 g29 g30 g31
     refine⟨_,b.rows.length-(j+1),k1,by omega,j+1,s,f2,?_,by omega,by omega,k7,?_,k22,k29,k30,by rw[k31];rfl,rfl⟩
     ·rw[hsn,zK]
     ·rw[k8,hsn]
      cases isT e (x++s)<;>simp
    ·right;have hjeq:j=b.rows.length:=by omega
     subst hjeq;rw[zZ (zJ _)]at *
     exact⟨_,_,hlast _ _ _ g7 g22 g29 g30 g31,by simp,O2,_,rfl,hO2,by simp[upd,g7],by simp[upd,g8],by simp[upd,g22]⟩
   by_cases hz:L.length=0
   rotate_left
   ·simp[jf,hi,hxn,hov1,hxt,hOl,hz,aL hz,aI hz];generalize hY:dD CE _ _ (Code.loop _) _=Y
    have key2:∃ rr,Y=some rr∧∃ (O2:List Val) (f1:Nat→Nat×IV),rr=(.exit 2,JX R [.own 1 0, .own 2 0, .own 3 0, .junk, .junk, .junk] w a b p (A+B) (L++jH e b.rows x) (x++O2) i f1)∧O2.length=B∧f1 7=(1, .isl (aP x))∧f1 8=(1, .bool (decide (jH e b.rows x≠[])))∧f1 22=(1, .bool true):=by
     rw[← hY];clear hY hQ;refine round (upd (upd (upd (upd (upd (upd f 7 (1, .isl (aP x))) 8 (1, .bool false)) 22 (1, .bool true)) 29 (1, .isl (aM b.rows))) 30 (1, .int b.rows.length)) 31 (1, .int 0)) _ ?_ (by simp[upd]) (by simp[upd]) (by simp[upd]) (by simp[upd]) (by simp[upd]) (by simp[upd]) ?_ ?_
     ·simp[JX,jf,itB,oId,Pn.aA p,hz,aL,aI]
     ·intro j s LL O2 f1 m hs hsl hso hO2 hLL g7 g8 g22 g29 g30 g31;have hjM:=(zY.1 hs).1;have hsn:=bW hs;have hov2:=KZ (O:=O2) hxl (s:=s) (by omega);have hst:List.take (A+B-A) s=s:=zZ (by omega);have hst':List.take B s=s:=zZ (by omega);have hxsl:(x++s).length=A+B:=by simp;omega
      have hxO:(x++O2).length=A+B:=by simp;omega
      have hxO':x.length+O2.length=A+B:=by omega
      have hxsl':x.length+s.length=A+B:=by omega
      have hxs0:x++s≠[]:=fun e=>by rw[e]at hxsl;simp at hxsl;omega
      have hv:=XB (e:=e) (row:=x++s) (w:=a.w+b.w) (by rw[hxsl];omega) hxs0 (by rw[List.all_append,hxo.2,hso];rfl) he;rw[hxsl]at hv;have ht:=htr (x++s);have w4:IntKind.i64.wrap ((j:Int)+1)=j+1:=wrO;rw[Ex.aA e]at hv hen;by_cases hT:isT e (x++s)=true
      ·have htr2:(e.ev (x++s)).tr=2:=by simpa [isT]using hT
       simp only[hT,if_true]at hLL ⊢;generalize (e.ev (x++s))=V at *
       refine⟨upd (upd (upd (upd (upd (upd f1 8 (1, .bool true)) 10 (1, .isl (aP s))) 31 (1, .int ((j:Int)+1))) 32 (1, .bool true)) 49 (1, .bool false)) 53 (1, .bool false),?_,by simp[upd,g7],by simp[upd],by simp[upd,g22],by simp[upd,g29],by simp[upd,g30],by simp[upd]⟩;by_cases hzL:LL.length=0
       ·have hy:=c01 (x++s) hxs0 (by omega);rw[hxsl]at hy;have hLn:LL=[]:=zW.1 hzL;subst hLn;simp[JX,jf,itB,oId,Pn.aA p,g7,g8,g22,g29,g30,g31,hjM,hsn,hA,hAB,hov2,hst,hst',hxO',hen,hel,hv,ht,w4,htr2,hy,bV,bO,bI]
       ·have hy:=c11 (x++s) _ LL hxs0 (by omega) rfl hzL (by omega);rw[hxsl]at hy;simp[JX,jf,itB,oId,Pn.aA p,g7,g8,g22,g29,g30,g31,hjM,hsn,hA,hAB,hov2,hst,hst',hxO',hen,hel,hv,ht,w4,htr2,hy,hzL,aL hzL,aI hzL,bV,bO,bI]
      ·have hT':isT e (x++s)=false:=by simpa using hT
       have htr2:¬ (e.ev (x++s)).tr=2:=by simpa [isT]using hT
       simp only[hT',z8,if_false,xZ,Bool.or_false]at hLL ⊢;generalize (e.ev (x++s))=V at *
       refine⟨upd (upd (upd (upd f1 10 (1, .isl (aP s))) 31 (1, .int ((j:Int)+1))) 32 (1, .bool true)) 49 (1, .bool true),?_,by simp[upd,g7],by simp[upd,g8],by simp[upd,g22],by simp[upd,g29],by simp[upd,g30],by simp[upd]⟩;by_cases hzL:LL.length=0
       ·simp[JX,jf,itB,oId,Pn.aA p,g7,g8,g22,g29,g30,g31,hjM,hsn,hA,hAB,hov2,hst,hst',hxO',hen,hel,hv,ht,w4,htr2,hzL]
       ·simp[JX,jf,itB,oId,Pn.aA p,g7,g8,g22,g29,g30,g31,hjM,hsn,hA,hAB,hov2,hst,hst',hxO',hen,hel,hv,ht,w4,htr2,hzL,aL hzL,aI hzL]
     ·intro LL O2 f1 g7 g22 g29 g30 g31;by_cases hzL:LL.length=0
      ·simp[JX,jf,itB,oId,Pn.aA p,g7,g22,g29,g30,g31,hzL]
      ·simp[JX,jf,itB,oId,Pn.aA p,g7,g22,g29,g30,g31,hzL,aL hzL,aI hzL]
    clear hY round;obtain⟨rr,rfl,O2,f1,rfl,hO2,g7,g8,g22⟩:=key2;have hxO:x.length+O2.length=A+B:=by omega
    have hxO2:(x++O2).length=A+B:=by simp;omega
    by_cases hm:jH e b.rows x=[]
    ·by_cases h4:p.kind=4
     ·have hJ0:joinL e (decide (p.kind=5)) b.w b.rows x=[]:=by simp[joinL,h4,hm]
      rw[hJ0]at hQ;simp[JX,jf,itB,oId,Pn.aA p,g7,g8,g22,hm,h4,w3,hz,aL,aI];rw[hQ];refine⟨x++O2,upd f1 62 (1, .bool true),?_,hxO2⟩;simp[JX,jf,itB,oId,Pn.aA p,g7,g8,g22,hm,h4,hz,aL,aI]
     ·have h5:p.kind=5:=hk.resolve_left h4;have hJ0:joinL e (decide (p.kind=5)) b.w b.rows x=[x++List.replicate B ⟨true,0⟩]:=by simp[joinL,h5,hm,uI,hB]
      rw[hJ0]at hQ hJ2;simp only[x9]at hJ2;simp[JX,jf,itB,oId,Pn.aA p,g7,g8,g22,hm,h5,w3,hz,aL,aI,hA];rw[aT (NX R [.own 1 0, .own 2 0, .own 3 0, .junk, .junk, .junk] w a b p A B L x O2 i f1) B (by simp[NX,JX,jf,itB,oId,Pn.aA p,g7,g8,g22,hm,h5,hz,aL,aI,hA])]
      ·rw[aF];have hdr:O2.drop B=[]:=xV (by omega);have hrl:(x++List.replicate B (⟨true,0⟩:Val)).length=A+B:=by simp;omega
       have hr0:x++List.replicate B (⟨true,0⟩:Val)≠[]:=fun e=>by rw[e]at hrl;simp at hrl;omega
       have hB0:B≠0:=by omega
       have nlt:¬ (A:Int)+B<(A:Int)+B:=by omega
       have hy:=c11 (x++List.replicate B ⟨true,0⟩) _ L hr0 (by omega) rfl hz (by omega);rw[hrl]at hy;simp[NX,JX,jf,itB,oId,Pn.aA p,g7,g8,g22,hm,hz,aL,aI,hA,hdr,hy,hB0,nlt,w3];rw[hQ];refine⟨x++List.replicate B ⟨true,0⟩,upd (upd (upd (upd f1 62 (1, .bool false)) 11 (1, .int ((A:Int)+B))) 68 (1, .bool false)) 78 (1, .bool false),?_,hrl⟩;simp[JX,jf,itB,oId,Pn.aA p,g7,g8,g22,hm,hz,aL,aI,hA,bV,bO,bI]
      ·intro j hj;obtain⟨q1,o,q2⟩:=ACN (O:=O2) hxl hO2 hj;have q3:=bZ q2
       have q4:(aP (x++(List.replicate j ⟨true,0⟩++O2.drop j))).set (A+j) [.bool true, .int 0]=aP (x++(List.replicate (j+1) ⟨true,0⟩++O2.drop (j+1))):=by
        have:=D6 (x++(List.replicate j ⟨true,0⟩++O2.drop j)) (A+j) ⟨true,0⟩;simp only at this;rw[this,q1]
       have w5:IntKind.i64.wrap ((A:Int)+j+1)=(A:Int)+(j+1):=by rw[wrO];omega
       have k0:0≤(A:Int)+j:=by omega
       have k1:(A:Int)+j<(A:Int)+B:=by omega
       have k2:((A:Int)+j).toNat=A+j:=by omega
       have k3:A+j<A+B:=by omega
       have w50:IntKind.i64.wrap ((A:Int)+1)=(A:Int)+1:=wrO;by_cases hj0:j=0
       ·subst hj0;simp at q3 q4 k1 k3;have k1:(A:Int)<(A:Int)+B:=by omega
        have k3:A<A+B:=by omega
        simp[NX,JX,jf,itB,oId,Pn.aA p,g7,g8,g22,hm,hz,aL,aI,hA,LB,hj,q3,q4,w50,k1,k3]
        done
       ·simp[NX,JX,jf,itB,oId,Pn.aA p,g7,g8,g22,hm,hz,aL,aI,hA,LB,hj,hj0,q3,q4,w5,k0,k1,k2,k3]
        done
    ·have hJ0:joinL e (decide (p.kind=5)) b.w b.rows x=jH e b.rows x:=by
      unfold joinL;rw[if_neg];simp[hm]
     rw[hJ0]at hQ;have hzM:¬ (L++jH e b.rows x).length=0:=fun e=>hm (by have:=zW.1 e;simp at this;exact this.2)
     generalize L++jH e b.rows x=LM at *
     simp[JX,jf,itB,oId,Pn.aA p,g7,g8,g22,hm,w3,hzM,aL hzM,aI hzM];rw[hQ];refine⟨x++O2,upd f1 62 (1, .bool true),?_,hxO2⟩;simp[JX,jf,itB,oId,Pn.aA p,g7,g8,g22,hm,hzM,aL hzM,aI hzM]
   ·simp[jf,hi,hxn,hov1,hxt,hOl,hz];generalize hY:dD CE _ _ (Code.loop _) _=Y
    have key2:∃ rr,Y=some rr∧∃ (O2:List Val) (f1:Nat→Nat×IV),rr=(.exit 2,JX R [.own 1 0, .own 2 0, .own 3 0, .junk, .junk, .junk] w a b p (A+B) (L++jH e b.rows x) (x++O2) i f1)∧O2.length=B∧f1 7=(1, .isl (aP x))∧f1 8=(1, .bool (decide (jH e b.rows x≠[])))∧f1 22=(1, .bool true):=by
     rw[← hY];clear hY hQ;refine round (upd (upd (upd (upd (upd (upd f 7 (1, .isl (aP x))) 8 (1, .bool false)) 22 (1, .bool true)) 29 (1, .isl (aM b.rows))) 30 (1, .int b.rows.length)) 31 (1, .int 0)) _ ?_ (by simp[upd]) (by simp[upd]) (by simp[upd]) (by simp[upd]) (by simp[upd]) (by simp[upd]) ?_ ?_
     ·simp[JX,jf,itB,oId,Pn.aA p,hz,aL,aI]
     ·intro j s LL O2 f1 m hs hsl hso hO2 hLL g7 g8 g22 g29 g30 g31;have hjM:=(zY.1 hs).1;have hsn:=bW hs;have hov2:=KZ (O:=O2) hxl (s:=s) (by omega);have hst:List.take (A+B-A) s=s:=zZ (by omega);have hst':List.take B s=s:=zZ (by omega);have hxsl:(x++s).length=A+B:=by simp;omega
      have hxO:(x++O2).length=A+B:=by simp;omega
      have hxO':x.length+O2.length=A+B:=by omega
      have hxsl':x.length+s.length=A+B:=by omega
      have hxs0:x++s≠[]:=fun e=>by rw[e]at hxsl;simp at hxsl;omega
      have hv:=XB (e:=e) (row:=x++s) (w:=a.w+b.w) (by rw[hxsl];omega) hxs0 (by rw[List.all_append,hxo.2,hso];rfl) he;rw[hxsl]at hv;have ht:=htr (x++s);have w4:IntKind.i64.wrap ((j:Int)+1)=j+1:=wrO;rw[Ex.aA e]at hv hen;by_cases hT:isT e (x++s)=true
      ·have htr2:(e.ev (x++s)).tr=2:=by simpa [isT]using hT
       simp only[hT,if_true]at hLL ⊢;generalize (e.ev (x++s))=V at *
       refine⟨upd (upd (upd (upd (upd (upd f1 8 (1, .bool true)) 10 (1, .isl (aP s))) 31 (1, .int ((j:Int)+1))) 32 (1, .bool true)) 49 (1, .bool false)) 53 (1, .bool false),?_,by simp[upd,g7],by simp[upd],by simp[upd,g22],by simp[upd,g29],by simp[upd,g30],by simp[upd]⟩;by_cases hzL:LL.length=0
       ·have hy:=c01 (x++s) hxs0 (by omega);rw[hxsl]at hy;have hLn:LL=[]:=zW.1 hzL;subst hLn;simp[JX,jf,itB,oId,Pn.aA p,g7,g8,g22,g29,g30,g31,hjM,hsn,hA,hAB,hov2,hst,hst',hxO',hen,hel,hv,ht,w4,htr2,hy,bV,bO,bI]
       ·have hy:=c11 (x++s) _ LL hxs0 (by omega) rfl hzL (by omega);rw[hxsl]at hy;simp[JX,jf,itB,oId,Pn.aA p,g7,g8,g22,g29,g30,g31,hjM,hsn,hA,hAB,hov2,hst,hst',hxO',hen,hel,hv,ht,w4,htr2,hy,hzL,aL hzL,aI hzL,bV,bO,bI]
      ·have hT':isT e (x++s)=false:=by simpa using hT
       have htr2:¬ (e.ev (x++s)).tr=2:=by simpa [isT]using hT
       simp only[hT',z8,if_false,xZ,Bool.or_false]at hLL ⊢;generalize (e.ev (x++s))=V at *
       refine⟨upd (upd (upd (upd f1 10 (1, .isl (aP s))) 31 (1, .int ((j:Int)+1))) 32 (1, .bool true)) 49 (1, .bool true),?_,by simp[upd,g7],by simp[upd,g8],by simp[upd,g22],by simp[upd,g29],by simp[upd,g30],by simp[upd]⟩;by_cases hzL:LL.length=0
       ·simp[JX,jf,itB,oId,Pn.aA p,g7,g8,g22,g29,g30,g31,hjM,hsn,hA,hAB,hov2,hst,hst',hxO',hen,hel,hv,ht,w4,htr2,hzL]
       ·simp[JX,jf,itB,oId,Pn.aA p,g7,g8,g22,g29,g30,g31,hjM,hsn,hA,hAB,hov2,hst,hst',hxO',hen,hel,hv,ht,w4,htr2,hzL,aL hzL,aI hzL]
     ·intro LL O2 f1 g7 g22 g29 g30 g31;by_cases hzL:LL.length=0
      ·simp[JX,jf,itB,oId,Pn.aA p,g7,g22,g29,g30,g31,hzL]
      ·simp[JX,jf,itB,oId,Pn.aA p,g7,g22,g29,g30,g31,hzL,aL hzL,aI hzL]
    clear hY round;obtain⟨rr,rfl,O2,f1,rfl,hO2,g7,g8,g22⟩:=key2;have hxO:x.length+O2.length=A+B:=by omega
    have hxO2:(x++O2).length=A+B:=by simp;omega
    by_cases hm:jH e b.rows x=[]
    ·by_cases h4:p.kind=4
     ·have hJ0:joinL e (decide (p.kind=5)) b.w b.rows x=[]:=by simp[joinL,h4,hm]
      rw[hJ0]at hQ;simp[JX,jf,itB,oId,Pn.aA p,g7,g8,g22,hm,h4,w3,hz,aL,aI];rw[hQ];refine⟨x++O2,upd f1 62 (1, .bool true),?_,hxO2⟩;simp[JX,jf,itB,oId,Pn.aA p,g7,g8,g22,hm,h4,hz,aL,aI]
     ·have h5:p.kind=5:=hk.resolve_left h4;have hJ0:joinL e (decide (p.kind=5)) b.w b.rows x=[x++List.replicate B ⟨true,0⟩]:=by simp[joinL,h5,hm,uI,hB]
      rw[hJ0]at hQ hJ2;simp only[x9]at hJ2;simp[JX,jf,itB,oId,Pn.aA p,g7,g8,g22,hm,h5,w3,hz,aL,aI,hA];rw[aT (NX R [.own 1 0, .own 2 0, .own 3 0, .junk, .junk, .junk] w a b p A B L x O2 i f1) B (by simp[NX,JX,jf,itB,oId,Pn.aA p,g7,g8,g22,hm,h5,hz,aL,aI,hA])]
      ·rw[aF];have hdr:O2.drop B=[]:=xV (by omega);have hrl:(x++List.replicate B (⟨true,0⟩:Val)).length=A+B:=by simp;omega
       have hr0:x++List.replicate B (⟨true,0⟩:Val)≠[]:=fun e=>by rw[e]at hrl;simp at hrl;omega
       have hB0:B≠0:=by omega
       have nlt:¬ (A:Int)+B<(A:Int)+B:=by omega
       have hy:=c01 (x++List.replicate B ⟨true,0⟩) hr0 (by omega);rw[hrl]at hy;have hLn:L=[]:=zW.1 hz;rw[hLn]at hQ ⊢;simp[NX,JX,jf,itB,oId,Pn.aA p,g7,g8,g22,hm,hA,hdr,hy,hB0,nlt,w3];rw[hQ];refine⟨x++List.replicate B ⟨true,0⟩,upd (upd (upd (upd f1 62 (1, .bool false)) 11 (1, .int ((A:Int)+B))) 68 (1, .bool false)) 78 (1, .bool false),?_,hrl⟩;simp[JX,jf,itB,oId,Pn.aA p,g7,g8,g22,hm,hA,bV,bO,bI]
      ·intro j hj;obtain⟨q1,o,q2⟩:=ACN (O:=O2) hxl hO2 hj;have q3:=bZ q2
       have q4:(aP (x++(List.replicate j ⟨true,0⟩++O2.drop j))).set (A+j) [.bool true, .int 0]=aP (x++(List.replicate (j+1) ⟨true,0⟩++O2.drop (j+1))):=by
        have:=D6 (x++(List.replicate j ⟨true,0⟩++O2.drop j)) (A+j) ⟨true,0⟩;simp only at this;rw[this,q1]
       have w5:IntKind.i64.wrap ((A:Int)+j+1)=(A:Int)+(j+1):=by rw[wrO];omega
       have k0:0≤(A:Int)+j:=by omega
       have k1:(A:Int)+j<(A:Int)+B:=by omega
       have k2:((A:Int)+j).toNat=A+j:=by omega
       have k3:A+j<A+B:=by omega
       have w50:IntKind.i64.wrap ((A:Int)+1)=(A:Int)+1:=wrO;by_cases hj0:j=0
       ·subst hj0;simp at q3 q4 k1 k3;have k1:(A:Int)<(A:Int)+B:=by omega
        have k3:A<A+B:=by omega
        simp[NX,JX,jf,itB,oId,Pn.aA p,g7,g8,g22,hm,hz,aL,aI,hA,LB,hj,q3,q4,w50,k1,k3]
        done
       ·simp[NX,JX,jf,itB,oId,Pn.aA p,g7,g8,g22,hm,hz,aL,aI,hA,LB,hj,hj0,q3,q4,w5,k0,k1,k2,k3]
        done
    ·have hJ0:joinL e (decide (p.kind=5)) b.w b.rows x=jH e b.rows x:=by
      unfold joinL;rw[if_neg];simp[hm]
     rw[hJ0]at hQ;have hzM:¬ (L++jH e b.rows x).length=0:=fun e=>hm (by have:=zW.1 e;simp at this;exact this.2)
     generalize L++jH e b.rows x=LM at *
     simp[JX,jf,itB,oId,Pn.aA p,g7,g8,g22,hm,w3,hzM,aL hzM,aI hzM];rw[hQ];refine⟨x++O2,upd f1 62 (1, .bool true),?_,hxO2⟩;simp[JX,jf,itB,oId,Pn.aA p,g7,g8,g22,hm,hzM,aL hzM,aI hzM]
  ·right;have hieq:i=a.rows.length:=by omega
   subst hieq;refine⟨.exit 0,JX R [.own 1 0, .own 2 0, .own 3 0, .junk, .junk, .junk] w a b p (A+B) (fD e (decide (p.kind=5)) a b) O a.rows.length (upd f 22 (1, .bool false)),?_,by simp,O,_,by simp[upd],rfl⟩;rw[hfin];simp only[JX,itB,oId];rw[Pn.aA p];generalize fD e (decide (p.kind=5)) a b=L;by_cases hz:L.length=0<;>simp[jf,hz,aL,aI]
 obtain⟨rr,rfl,O,f,hf,rfl⟩:=key;simp only[JX,itB,oId,itO];rw[Pn.aA p];generalize fD e (decide (p.kind=5)) a b=L;by_cases hz:L.length=0<;>simp[jf,hf,hz,aL,aI,hA,hB]
@[simp] theorem AaI (a:List AV) (st:StL):aH CE 148 a st=aH C0 148 a st:=by
  rw[aN (p:=aH CR 148) rfl,aN (p:=aH C0 148) rfl]
@[simp] theorem AaJ (a:List AV) (st:StL):aH CE 149 a st=aH C0 149 a st:=by
  rw[aN (p:=aH CR 149) rfl,aN (p:=aH C0 149) rfl]
@[simp] theorem AWC (a:List AV) (st:StL):aH CE 147 a st=vS a st:=by
  rw[aN (p:=vS) rfl]
theorem number_eq (n:Int):aH C0 149 [.int n] []=some (.i (.agg [.bool false, .int n]),[]):=by
 rw[aD rfl Tryz.func149 rfl rfl];simp
noncomputable def NP (cs:List Int) (rows:List (List Val)):List (List (List Val)):=runs cs (stS cs rows)
theorem AAY (w:Int) {cs:List Int} {rows:List (List Val)} (h:GOk cs rows):vS [.i (.agg [.int w, .isl (aM rows)]), .i (.isl (aG cs))] []=some (.i (.isl (pY (NP cs rows))),[]):=by
 by_cases h0:rows=[]
 ·subst h0;have h1:=(J6 h).2.1.length_eq;have:stS cs []=[]:=zW.1 h1;unfold NP;rw[this];rfl
 ·exact XV h0 h
theorem AVF {cs:List Int} {rows:List (List Val)} (h:GOk cs rows):(∀ g∈NP cs rows,g≠[]∧g.length<1000000∧∀ r∈g,r∈rows)∧(NP cs rows).length≤rows.length:=by
 obtain⟨k1,k2,k3⟩:=J6 h;obtain⟨f1,f2,f3⟩:=DL cs _ (stS cs rows) rfl
 have f4:∀ g∈NP cs rows,∀ r∈g,r∈rows:=fun g hg r hr=>by
  have:r∈(runs cs (stS cs rows)).flatten:=List.mem_flatten.2 ⟨g,hg,hr⟩;rw[f1]at this;exact k2.mem_iff.1 this
 refine⟨fun g hg=>⟨?_,?_,f4 g hg⟩,by rw[← k2.length_eq];exact f3⟩
 ·have gen:∀ (n:Nat) (l:List (List Val)),l.length=n→∀ g∈runs cs l,g≠[]:=by
   intro n
   induction n with
   | zero=>intro l hl g hg;have:l=[]:=zW.1 hl
           subst this;simp[runs]at hg
   | succ n ih =>
    intro l hl g hg;have hne:l≠[]:=fun e=>by subst e;simp at hl
    obtain⟨l',x,rfl⟩:∃ l' x,l=l'++[x]:=⟨l.dropLast,l.getLast hne,(yF hne).symm⟩
    have ih':=ih l' (by simpa using hl);rw[uZ]at hg
    cases hp:l'.getLast? with
    | none =>
     rw[hp]at hg;simp only[zT,y9]at hg
     rcases hg with hg|rfl
     ·exact ih' g hg
     ·simp
    | some q =>
     rw[hp]at hg;dsimp only at hg;split at hg
     ·simp only[zT,y9]at hg
      rcases hg with hg|rfl
      ·exact ih' g (List.dropLast_subset _ hg)
      ·simp
     ·simp only[zT,y9]at hg
      rcases hg with hg|rfl
      ·exact ih' g hg
      ·simp
  exact gen _ _ rfl g hg
 ·have:=AAF hg;rw[show(NP cs rows).flatten=stS cs rows from f1,k2.length_eq]at this;have:=h.1;omega
noncomputable def GRX (R:Rng) (cs:List AV) (w:Int) (t:Tbl) (p:Pn) (i:Nat):AS :=
 { env:=[(0, .fn (.yield 0) [.own 0 0]),(1, .own 4 0),(2, .own 5 0),(5,jk i (.isl (aM (((NP p.cols t.rows)[i-1]?).getD [])))),(11, .i (.isl (pY (NP p.cols t.rows)))),(12, .int (NP p.cols t.rows).length),(13, .int i),(14,jk i (.bool true)),(32,jk i (.bool false))],st:=itO R cs w [some (.box [.i (.int t.w), .i (.isl (aM t.rows))]),some (.box [.i (.iref p.cells)])] (((NP p.cols t.rows).take i).map fun g=>iO (lG p.cols g)) }
theorem AGE {R:Rng} {cs:List AV} {w:Int} (hY:Yc R cs w) (t:Tbl) (p:Pn) (ht:t.ok=true) (hc:p.cols.length<100) (hcr:∀ c∈p.cols,0≤c∧c<t.w) :
 aH CE 146 [.fn (.yield 0) [.own 0 0], .own 4 0, .own 5 0] [some (.loop R cs .ready),some (.box [.int w]),some (.box [.int 0, .nils]),some (.box [.nils]),some (.box [.i (.int t.w), .i (.isl (aM t.rows))]),some (.box [.i (.iref p.cells)])]=some (.tup [],itO R cs w [some (.box [.i (.int t.w), .i (.isl (aM t.rows))]),some (.box [.i (.iref p.cells)])] ((NP p.cols t.rows).map fun g=>iO (lG p.cols g))):=by
 obtain⟨rfl,-,-,c01,c11⟩:=hY;obtain⟨ht1,ht2,ht3,-⟩:=(Tbl.dN t).1 ht;obtain⟨htw1,htw2⟩:=(d9 _).1 ht1
 have hrw:∀ r∈t.rows,(r.length:Int)=t.w:=fun r hr=>by
  have:=ht3 r hr;unfold rowOk at this;simp only[zU,zS]at this;exact this.1
 have hok:GOk p.cols t.rows:=⟨by omega,by omega,fun r hr c hc=>by have:=hcr c hc;have:=hrw r hr;omega⟩
 have hg:=AAY t.w hok;obtain⟨hgn,hgl⟩:=AVF hok;rw[aD rfl Tryz.func146 rfl rfl];rw[Pn.aA p];simp[hg];rw[aT (GRX R [.own 1 0, .own 2 0, .own 3 0, .junk, .junk, .junk] w t p) (NP p.cols t.rows).length (by simp[GRX,itO,Pn.aA p])]
 ·rw[aF];simp only[GRX,itO];rw[Pn.aA p];generalize NP p.cols t.rows=gs at *
  have e1:gs.take gs.length=gs:=zZ (by simp);by_cases hz:gs.length=0<;>simp[hz,e1,aL,aI]
 ·intro i hi;simp only[GRX,itO];rw[Pn.aA p];generalize NP p.cols t.rows=gs at *
  obtain⟨g,hx⟩:∃ g,gs[i]?=some g:=⟨_,zX hi⟩
  have hxn:=AL8 hx;obtain⟨_,hgg⟩:=zY.1 hx;obtain⟨hg0,hg1,hg2⟩:=hgn g (zV hx);obtain⟨r,g',rfl⟩:=zE1 hg0;have hrl:=hrw r (hg2 r (by simp));have hpk:=KV r p.cols (by omega) fun c hc=>by have:=hcr c hc;omega
  have hnm:=number_eq ((g'.length:Int)+1);have hnr:iO (lG p.cols (r::g'))=aZ p.cols r++[⟨false,((g'.length:Int)+1)⟩]:=by simp[iO,lG]
  have hpl:(aZ p.cols r).length=p.cols.length:=by simp[aZ]
  have hT:(gs.take (i+1)).map (fun g=>iO (lG p.cols g))=(gs.take i).map (fun g=>iO (lG p.cols g))++[iO (lG p.cols (r::g'))]:=by rw[aO hx,yH];rfl
  rw[hnr]at hT;have hvs:aP (aZ p.cols r++[⟨false,((g'.length:Int)+1)⟩])=aP (aZ p.cols r)++[[.bool false, .int ((g'.length:Int)+1)]]:=AEG _ _;have hrl2:(aZ p.cols r++[(⟨false,((g'.length:Int)+1)⟩:Val)]).length=p.cols.length+1:=by simp[aZ]
  have htk:(aP (aZ p.cols r)).take p.cols.length=aP (aZ p.cols r):=zZ (by simp[aZ]);have htk2:(aZ p.cols r).take p.cols.length=aZ p.cols r:=zZ (by simp[aZ]);have hr0:aZ p.cols r++[(⟨false,((g'.length:Int)+1)⟩:Val)]≠[]:=by simp
  have hbb:(p.cols.length+1)*16≤140737488355328:=by omega
  have w3:IntKind.i64.wrap ((i:Int)+1)=i+1:=wrO;simp only[xE]at hT ⊢;have hmin:min i gs.length=i:=by omega
  have hmin2:min (i+1) gs.length=i+1:=by omega
  have hDl:(List.take i (gs.map fun g=>iO (lG p.cols g))).length=i:=by simp;omega
  generalize List.take i (gs.map fun g=>iO (lG p.cols g))=D at *
  by_cases hc0:p.cols.length=0
  ·have hcn:p.cols=[]:=zW.1 hc0;have hp0:aZ p.cols r=[]:=by rw[hcn];rfl
   rw[hp0]at hT hvs hr0 hrl2;rw[hc0]at hrl2;rw[hcn]at hpk;rw[hcn]at hT;have hv1:aP [(⟨false,(g'.length:Int)+1⟩:Val)]=[[.bool false, .int ((g'.length:Int)+1)]]:=rfl;simp[aG,aP,aZ]at hpk;simp only[hcn];by_cases hz:i=0
   ·subst hz;have hDn:D=[]:=zW.1 hDl;subst hDn;have hy:=c01 _ hr0 (by simp);simp[hv1]at hy;simp[hi,hxn,bO,hpk,hnm,hy,hT,hgg,bB,aG,hv1,hmin2,bI]
    done
   ·have hy:=c11 _ i D hr0 (by simp) hDl hz (by omega);simp[hv1]at hy;have hzD:D.length≠0:=by omega
    simp[hi,hxn,bO,hpk,hnm,hy,hT,hgg,w3,aG,hv1,hz,hDl,hmin,hmin2,aL hz,aI hz,bV,bI]
    done
  ·rw[aL hc0,aI hc0]at hpk;by_cases hz:i=0
   ·subst hz;have hDn:D=[]:=zW.1 hDl;subst hDn;have hy:=c01 _ hr0 (by rw[hrl2];omega);rw[hrl2,hvs]at hy;simp[hi,hxn,bO,hpk,hnm,hy,hT,hgg,bB,htk,htk2,hbb,hpl,hvs,hmin2,bI]
    done
   ·have hy:=c11 _ i D hr0 (by rw[hrl2];omega) hDl hz (by omega);rw[hrl2,hvs]at hy;simp[hi,hxn,bO,hpk,hnm,hy,hT,hgg,w3,htk,htk2,hbb,hpl,hvs,hz,hDl,hmin,hmin2,aL hz,aI hz,bV,bI]
    done
theorem UW (es:List (List IV)):aH CE 87 [.i (.isl es)] []=some (.fn (.func 137) [.own 0 0],[some (.box [.i (.isl es)])]):=by
 rw[aD rfl Tryz.func87 rfl rfl];simp
theorem YB (es:List (List IV)):aH CE 92 [.i (.isl es)] []=some (.fn (.func 145) [.own 0 0],[some (.box [.i (.isl es)])]):=by
 rw[aD rfl Tryz.func92 rfl rfl];simp
theorem AB1 (cs:List IV) (w:Int) (es:List (List IV)):aH CE 88 [.i (.iref cs), .i (.agg [.int w, .isl es])] []=some (.fn (.func 138) [.own 0 0, .own 1 0],[some (.box [.i (.int w), .i (.isl es)]),some (.box [.i (.iref cs)])]):=by
 rw[aD rfl Tryz.func88 rfl rfl];simp
theorem WG (cs:List IV) (w:Int) (es:List (List IV)):aH CE 89 [.i (.iref cs), .i (.agg [.int w, .isl es])] []=some (.fn (.func 141) [.own 0 0, .own 1 0],[some (.box [.i (.iref cs)]),some (.box [.i (.int w), .i (.isl es)])]):=by
 rw[aD rfl Tryz.func89 rfl rfl];simp
theorem AGD (cs:List IV) (w:Int) (es:List (List IV)):aH CE 93 [.i (.iref cs), .i (.agg [.int w, .isl es])] []=some (.fn (.func 146) [.own 0 0, .own 1 0],[some (.box [.i (.int w), .i (.isl es)]),some (.box [.i (.iref cs)])]):=by
 rw[aD rfl Tryz.func93 rfl rfl];simp
theorem AKP (cs:List IV) (w w2:Int) (es es2:List (List IV)):aH CE 90 [.i (.iref cs), .i (.agg [.int w, .isl es]), .i (.agg [.int w2, .isl es2])] []=some (.fn (.func 142) [.own 0 0, .own 1 0, .own 2 0],[some (.box [.i (.int w), .i (.isl es)]),some (.box [.i (.int w2), .i (.isl es2)]),some (.box [.i (.iref cs)])]):=by
 rw[aD rfl Tryz.func90 rfl rfl];simp
@[simp] theorem Ae2 (a:List AV) (st:StL):aH CE 144 a st=MH a st:=by
  rw[aN (p:=MH) rfl]
theorem ALX (a b:List (List Val)) (ha:a.length≤400) (hb:b.length≤400):aH CE 91 [.i (.isl [[.isl (aM a)],[.isl (aM b)]])] []=some (.i (.isl (aM (a++b))),[]):=by
 have w1:IntKind.i64.wrap (a.length:Int)=a.length:=wrO;have w2:IntKind.i64.wrap ((a.length:Int)+b.length)=(a.length:Int)+b.length:=wrO;have n1:¬ (a.length:Int)<0:=by omega
 have n2:¬ (a.length:Int)+b.length<0:=by omega
 rw[aD rfl Tryz.func91 rfl rfl];simp;rw[aF];simp[w1,n1,bB];rw[aF];simp[w2,n2,wrap64 (show -9223372036854775808≤(2:Int)by omega) (by omega)];rw[aF];have ta:(aM a).take a.length=aM a:=zZ (by simp);have tab2:(aM a++aM b).take (a.length+b.length)=aM a++aM b:=zZ (by simp);have hb1:a.length*24≤140737488355328:=by omega
 have hb2:(a.length+b.length)*24≤140737488355328:=by omega
 have w3:IntKind.i64.wrap 2=2:=wrO;by_cases h0:(a.length:Int)+b.length=0
 ·have ha0:a=[]:=zW.1 (by omega);have hb0:b=[]:=zW.1 (by omega);subst ha0;subst hb0;simp[MH];rw[aF];simp[bB,bI];rw[aF];simp[w3,bI];rw[aF];simp
 ·have hg:MH [.nils, .int ((a.length:Int)+b.length)] []=some (.osl 0 1 0 0,[some (.arr 1 [])]):=by
   have h1:0<(a.length:Int)+b.length∧(a.length:Int)+b.length≤1000000:=by omega
   simp[MH,h0,h1]
  simp[hg];rw[aF];simp[bB,hb1];rw[aF];simp[w3,hb2,ta];rw[aF];simp[bV,tab2]
theorem vM {t:Tbl} (h:t.ok=true):AOW t.rows∧AU2 t.rows:=by
 obtain⟨h1,h2,h3,-⟩:=(Tbl.dN t).1 h;obtain⟨w1,w2⟩:=(d9 _).1 h1
 have key:∀ r∈t.rows,(r.length:Int)=t.w∧r.all Val.ok=true:=fun r hr=>by
  have:=h3 r hr;unfold rowOk at this;simpa using this
 exact⟨fun r hr=>⟨(key r hr).2,by have:=(key r hr).1;omega⟩,fun r hr=>⟨fun e=>by have:=(key r hr).1;rw[e]at this;simp at this;omega,by have:=(key r hr).1;omega⟩⟩
theorem AJ3 {ws:List Int} {db:List Tbl} (hws:ws=db.map Tbl.w) (hdb:∀ t∈db,t.ok=true):∀ (p:Pn) (lv:Nat),p.wd ws lv≠0→p.fit db=true→∀ c:Int,0≤c→c+p.cost db<1000000000 →
 aH CE 43 [.i (.iref p.cells), .i (.isl (jL db)), .own 0 0] [some (.box [.int c])]=some (.i (.agg [.int (p.evP db).w, .isl (aM (p.evP db).rows)]),[some (.box [.int (c+p.cost db)])]):=by
 intro p
 induction p using Pn.ind with
 | h k t es cs ks ih =>
  intro lv h hfit c hc0 hcc;have hsh:=sP h;generalize hp:Pn.mk k t es cs ks=p at hsh h hfit hcc;have hk:ks=p.kids:=by rw[← hp];rfl
  subst hk;have hfi:=(Pn.rC db p).1 hfit
  cases hsh with
  | scan t W h0 h1 hW =>
   rw[hws,zH]at h1;obtain⟨s,hs,rfl⟩:=zB0.1 h1;have hok:=hdb s (zV hs);obtain⟨o1,o2⟩:=vM hok;have hs4:s.rows.length≤400:=((Tbl.dN s).1 hok).2.1;have hcl:=BZ s.w 137 (by decide) [.i (.isl (aM s.rows))] s.rows hs4 o1 (fun R cs hY=>UY hY s.rows hs4 o2) rfl (fun r=>rfl);have hmk:=UW (aM s.rows);have q:=oU hs;have hl:=(zY.1 hs).1;have hl':t<(db.length:Int):=by omega
   have hco:((Pn.scan t).cost db:Int)=s.rows.length:=by rw[Pn.wE,EK,hs];simp[Pn.scan,Pn.FW,dZ hs4,bA]
   rw[hco]at hcc ⊢;have wc:IntKind.i64.wrap (c+s.rows.length)=c+s.rows.length:=wrO;rw[aD rfl Tryz.func43 rfl rfl,EK,hs];simp[Pn.scan,Pn.bJ,Pn.aB,h0,hl,hl',q,uU];rw[aF];simp[h0,hl,hl',q,hmk,hcl,wc,dZ hs4,bA]
   done
  | filt m e a h1 ha he =>
   obtain⟨hg1,hg2⟩:=gW hws hdb a m ha;have hraw:((a.evP db).rows.filter (isT e)).length≤400:=hfi.1;have hco:((filt e a).cost db:Int)=a.cost db+((a.evP db).rows.filter (isT e)).length:=by rw[Pn.wE,oF,dZ hraw,bA];simp[filt,Pn.FW]
   rw[hco]at hcc ⊢;have i1:=ih a (by simp[filt]) m ha (hfi.2 a (by simp[filt])) c hc0 (by omega);obtain⟨o1,o2⟩:=vM hg1;have hfl:=AB1 (filt e a).cells (a.evP db).w (aM (a.evP db).rows);have hcl:=BX (a.evP db).w 138 (by decide) [.i (.int (a.evP db).w), .i (.isl (aM (a.evP db).rows))] [.i (.iref (filt e a).cells)] ((a.evP db).rows.filter (isT e)) hraw (fun r hr=>o1 r (zD1.1 hr).1) (fun R cs hY=>AB2 hY (a.evP db) (filt e a) e rfl hg1 (by rw[hg2];exact qY he)) rfl (fun r=>rfl) rfl (fun r=>rfl);have wc:IntKind.i64.wrap (c+(a.cost db+((a.evP db).rows.filter (isT e)).length))=c+(a.cost db+((a.evP db).rows.filter (isT e)).length):=wrO;rw[aD rfl Tryz.func43 rfl rfl,oF,dZ hraw,uU];simp only[filt,Pn.bJ,Pn.aB,Ex.aB,aG]at hfl hcl ⊢;rw[Pn.aA a,Ex.aA e]at hfl hcl;rw[Pn.aA a]at i1;generalize (a.evP db).rows.filter (isT e)=rows at *
   simp[Pn.aA a,Ex.aA e];rw[aF];simp[i1,bB];rw[aF];simp[hfl,hcl,wc,bA,zE2]
   done
  | proj m es a h1 ha hl he =>
   obtain⟨hg1,hg2⟩:=gW hws hdb a m ha;obtain⟨hG1,-⟩:=gW hws hdb (proj es a) lv h;have hraw:((a.evP db).rows.map fun r=>es.map (Ex.ev r)).length≤400:=hfi.1;obtain⟨hl1,hl2⟩:=(d9 _).1 hl;obtain⟨o1,o2⟩:=vM hG1;rw[kL,dZ hraw]at o1 o2;have hco:((proj es a).cost db:Int)=a.cost db+((a.evP db).rows.map fun r=>es.map (Ex.ev r)).length:=by rw[Pn.wE,kL,dZ hraw,bA];simp[proj,Pn.FW]
   rw[hco]at hcc ⊢;have i1:=ih a (by simp[proj]) m ha (hfi.2 a (by simp[proj])) c hc0 (by omega);have hfl:=WG (proj es a).cells (a.evP db).w (aM (a.evP db).rows);have hcl:=BX (es.length:Int) 141 (by decide) [.i (.iref (proj es a).cells)] [.i (.int (a.evP db).w), .i (.isl (aM (a.evP db).rows))] ((a.evP db).rows.map fun r=>es.map (Ex.ev r)) hraw (fun r hr=>o1 r (iB.2 hr)) (fun R cs hY=>WH hY (a.evP db) (proj es a) hg1 (show 1≤es.length by omega) (show es.length<100 by omega) (fun e hm=>by rw[hg2];exact qY (he e hm))) rfl (fun r=>rfl) rfl (fun r=>rfl);have wc:IntKind.i64.wrap (c+(a.cost db+((a.evP db).rows.map fun r=>es.map (Ex.ev r)).length))=c+(a.cost db+((a.evP db).rows.map fun r=>es.map (Ex.ev r)).length):=wrO;rw[aD rfl Tryz.func43 rfl rfl,kL,dZ hraw,uU];simp only[proj,Pn.bJ,Pn.aB,aG]at hfl hcl ⊢;rw[Pn.aA a]at hfl hcl;rw[Pn.aA a]at i1;generalize ((a.evP db).rows.map fun r=>es.map (Ex.ev r))=rows at *
   simp[Pn.aA a];rw[aF];simp[i1,bB];rw[aF];simp[hfl,hcl,wc,bA,zE2]
   done
  | pair m k e a b h1 hk ha hb hl he =>
   obtain⟨hg1,hg2⟩:=gW hws hdb a m ha;obtain⟨hg3,hg4⟩:=gW hws hdb b m hb;obtain⟨hG1,-⟩:=gW hws hdb (aY k e a b) lv h;have hraw:(fD e (decide (k=5)) (a.evP db) (b.evP db)).length≤400:=by have:=hfi.1;rwa [RY db hk]at this
   obtain⟨o1,o2⟩:=vM hG1;rw[kM db hk,dZ hraw]at o1 o2;have hco:((aY k e a b).cost db:Int)=a.cost db+b.cost db+(fD e (decide (k=5)) (a.evP db) (b.evP db)).length:=by rw[Pn.wE,kM db hk,dZ hraw,bA];simp[aY,Pn.FW]
   rw[hco]at hcc ⊢;have i1:=ih a (by simp[aY]) m ha (hfi.2 a (by simp[aY])) c hc0 (by omega);have i2:=ih b (by simp[aY]) m hb (hfi.2 b (by simp[aY])) (c+a.cost db) (by omega) (by omega);obtain⟨w1,w2⟩:=(d9 _).1 ((Tbl.dN _).1 hg1).1;obtain⟨w3,w4⟩:=(d9 _).1 ((Tbl.dN _).1 hg3).1;have ww:IntKind.i64.wrap ((a.evP db).w+(b.evP db).w)=(a.evP db).w+(b.evP db).w:=wrO;have hfl:=AKP (aY k e a b).cells (a.evP db).w (b.evP db).w (aM (a.evP db).rows) (aM (b.evP db).rows);have hcl:=U1 ((a.evP db).w+(b.evP db).w) 142 (by decide) [.i (.int (a.evP db).w), .i (.isl (aM (a.evP db).rows))] [.i (.int (b.evP db).w), .i (.isl (aM (b.evP db).rows))] [.i (.iref (aY k e a b).cells)] (fD e (decide (k=5)) (a.evP db) (b.evP db)) hraw (fun r hr=>o1 r (iB.2 hr)) (fun R cs hY=>AKQ hY (a.evP db) (b.evP db) (aY k e a b) e rfl hk hg1 hg3 (by rw[hg2,hg4];exact qY he) hraw) rfl (fun r=>rfl) rfl (fun r=>rfl) rfl (fun r=>rfl);have wc:IntKind.i64.wrap (c+(a.cost db+(b.cost db+(fD e (decide (k=5)) (a.evP db) (b.evP db)).length)))=c+(a.cost db+(b.cost db+(fD e (decide (k=5)) (a.evP db) (b.evP db)).length)):=wrO;have w22:IntKind.i64.wrap 2=2:=wrO;rw[aD rfl Tryz.func43 rfl rfl,kM db hk,dZ hraw,uU];simp only[aY,Pn.bJ,Pn.aB,Ex.aB,aG]at hfl hcl ⊢;rw[Pn.aA a,Pn.aA b,Ex.aA e]at hfl hcl;rw[Pn.aA a]at i1;rw[Pn.aA b]at i2;generalize fD e (decide (k=5)) (a.evP db) (b.evP db)=rows at *
   rcases hk with rfl|rfl
   all_goals
    simp[Pn.aA a,Pn.aA b,Ex.aA e];rw[aF];simp[i1,bB];rw[aF];simp[i2,w22];rw[aF];simp[ww,hfl,hcl,wc,bA,zE2]
    done
  | union m a b h1 ha hb =>
   have hb':b.wd ws m≠0:=by rw[hb];exact ha
   obtain⟨hg1,hg2⟩:=gW hws hdb a m ha;obtain⟨hg3,hg4⟩:=gW hws hdb b m hb';obtain⟨hG1,-⟩:=gW hws hdb (cK a b) lv h;have hraw:((a.evP db).rows++(b.evP db).rows).length≤400:=hfi.1;obtain⟨o1,o2⟩:=vM hG1;rw[pI,dZ hraw]at o1 o2;have hco:((cK a b).cost db:Int)=a.cost db+b.cost db+((a.evP db).rows++(b.evP db).rows).length:=by rw[Pn.wE,pI,dZ hraw,bA];simp[cK,Pn.FW]
   rw[hco]at hcc ⊢;have i1:=ih a (by simp[cK]) m ha (hfi.2 a (by simp[cK])) c hc0 (by omega);have i2:=ih b (by simp[cK]) m hb' (hfi.2 b (by simp[cK])) (c+a.cost db) (by omega) (by omega);have hcc2:=ALX (a.evP db).rows (b.evP db).rows ((Tbl.dN _).1 hg1).2.1 ((Tbl.dN _).1 hg3).2.1;have hfl:=UW (aM ((a.evP db).rows++(b.evP db).rows));have hcl:=BZ (a.evP db).w 137 (by decide) [.i (.isl (aM ((a.evP db).rows++(b.evP db).rows)))] ((a.evP db).rows++(b.evP db).rows) hraw (fun r hr=>o1 r (iB.2 hr)) (fun R cs hY=>UY hY _ hraw fun r hr=>o2 r (iB.2 hr)) rfl (fun r=>rfl);have wc:IntKind.i64.wrap (c+(a.cost db+(b.cost db+((a.evP db).rows++(b.evP db).rows).length)))=c+(a.cost db+(b.cost db+((a.evP db).rows++(b.evP db).rows).length)):=wrO;have w22:IntKind.i64.wrap 2=2:=wrO;rw[aD rfl Tryz.func43 rfl rfl,pI,dZ hraw,uU];simp only[cK,Pn.bJ,Pn.aB,Ex.aB,aG];rw[Pn.aA a]at i1;rw[Pn.aA b]at i2;generalize ((a.evP db).rows++(b.evP db).rows)=rows at *
   simp[Pn.aA a,Pn.aA b];rw[aF];simp[i1,bB];rw[aF];simp[i2,w22];rw[aF];simp[hcc2,hfl,hcl,wc,bA,zE2]
   done
  | dist m a h1 ha =>
   obtain⟨hg1,hg2⟩:=gW hws hdb a m ha;obtain⟨hG1,-⟩:=gW hws hdb (.mk 7 0 [] [] [a]) lv h;have hraw:(iQ (a.evP db).rows).length≤400:=hfi.1;obtain⟨o1,o2⟩:=vM hG1;rw[tX,dZ hraw]at o1 o2;have hco:((Pn.mk 7 0 [] [] [a]).cost db:Int)=a.cost db+(iQ (a.evP db).rows).length:=by rw[Pn.wE,tX,dZ hraw,bA];simp[Pn.FW]
   rw[hco]at hcc ⊢;have i1:=ih a (by simp) m ha (hfi.2 a (by simp)) c hc0 (by omega);have hfl:=YB (aM (a.evP db).rows);have hcl:=BZ (a.evP db).w 145 (by decide) [.i (.isl (aM (a.evP db).rows))] (iQ (a.evP db).rows) hraw (fun r hr=>o1 r (iB.2 hr)) (fun R cs hY=>YC hY _ ((Tbl.dN _).1 hg1).2.1 (vM hg1).2) rfl (fun r=>rfl);have wc:IntKind.i64.wrap (c+(a.cost db+(iQ (a.evP db).rows).length))=c+(a.cost db+(iQ (a.evP db).rows).length):=wrO;rw[aD rfl Tryz.func43 rfl rfl,tX,dZ hraw,uU];simp only[Pn.bJ,Pn.aB,Ex.aB,aG];rw[Pn.aA a]at i1;generalize iQ (a.evP db).rows=rows at *
   simp[Pn.aA a];rw[aF];simp[i1,bB];rw[aF];simp[hfl,hcl,wc,bA,zE2]
   done
  | group m cs a h1 ha hc ho =>
   obtain⟨hg1,hg2⟩:=gW hws hdb a m ha;obtain⟨hG1,-⟩:=gW hws hdb (.mk 8 0 [] cs [a]) lv h;have hcr:∀ c∈cs,0≤c∧c<(a.evP db).w:=by rw[hg2];exact FY ho
   obtain⟨t1,t2,t3,-⟩:=(Tbl.dN _).1 hg1
   have hok:GOk cs (a.evP db).rows:=⟨by omega,by omega,fun r hr c hc=>by
    have:=hcr c hc;have h2:=t3 r hr;unfold rowOk at h2;simp only[zU,zS]at h2
    omega⟩
   obtain⟨-,k2,k3⟩:=J6 hok;have hperm:((NP cs (a.evP db).rows).map fun g=>iO (lG cs g)).Perm (iP cs (a.evP db).rows):=AIT k2 (fun r hr=>mP (SF (t3 r hr) hcr)) (AO5 k3);have hraw:(iP cs (a.evP db).rows).length≤400:=hfi.1;have hraw2:((NP cs (a.evP db).rows).map fun g=>iO (lG cs g)).length≤400:=by rw[hperm.length_eq];exact hraw
   obtain⟨o1,o2⟩:=vM hG1;rw[sG,dZ hraw]at o1 o2;have hsort:dF (iP cs (a.evP db).rows)=dF ((NP cs (a.evP db).rows).map fun g=>iO (lG cs g)):=(K7 hperm fun r hr=>(o1 r (iB.2 (hperm.mem_iff.1 hr))).1).symm;have hco:((Pn.mk 8 0 [] cs [a]).cost db:Int)=a.cost db+((NP cs (a.evP db).rows).map fun g=>iO (lG cs g)).length:=by rw[Pn.wE,sG,dZ hraw,bA,hperm.length_eq];simp[Pn.FW]
   rw[hco]at hcc ⊢;have i1:=ih a (by simp) m ha (hfi.2 a (by simp)) c hc0 (by omega);have hfl:=AGD (Pn.mk 8 0 [] cs [a]).cells (a.evP db).w (aM (a.evP db).rows);have hcl:=BX ((cs.length:Int)+1) 146 (by decide) [.i (.int (a.evP db).w), .i (.isl (aM (a.evP db).rows))] [.i (.iref (Pn.mk 8 0 [] cs [a]).cells)] ((NP cs (a.evP db).rows).map fun g=>iO (lG cs g)) hraw2 (fun r hr=>o1 r (iB.2 (hperm.mem_iff.1 hr))) (fun R cs' hY=>AGE hY (a.evP db) (Pn.mk 8 0 [] cs [a]) hg1 (show cs.length<100 by omega) hcr) rfl (fun r=>rfl) rfl (fun r=>rfl);have wc:IntKind.i64.wrap (c+(a.cost db+((NP cs (a.evP db).rows).map fun g=>iO (lG cs g)).length))=c+(a.cost db+((NP cs (a.evP db).rows).map fun g=>iO (lG cs g)).length):=wrO;have ww:IntKind.i64.wrap ((cs.length:Int)+1)=(cs.length:Int)+1:=wrO;rw[aD rfl Tryz.func43 rfl rfl,sG,dZ hraw,uU,hsort];simp only[Pn.bJ,Pn.aB,Ex.aB]at hfl hcl ⊢;rw[Pn.aA a]at hfl hcl;rw[Pn.aA a]at i1;generalize ((NP cs (a.evP db).rows).map fun g=>iO (lG cs g))=rows at *
   simp[Pn.aA a];rw[aF];simp[i1,bB];rw[aF];simp[ww,hfl,hcl,wc,bA,zE2]
   done
@[simp] theorem AWB (a:List AV) (st:StL):aH CE 42 a st=aH C0 42 a st:=by
  rw[aN (p:=aH CR 42) rfl,aN (p:=aH C0 42) rfl]
@[simp] theorem ASP (a:List AV) (st:StL):aH CE 26 a st=aH C0 26 a st:=by
  rw[aN (p:=aH CR 26) rfl,aN (p:=aH C0 26) rfl]
theorem CO {p:Pn} {ws:List Int} (h:p.width ws≠0):lZ ws=true∧p.wd ws 8≠0∧p.width ws=p.wd ws 8:=by
 unfold Pn.width at h ⊢;split at h
 ·rename_i hw;exact⟨hw,h,if_pos hw⟩
 ·exact absurd rfl h
theorem AOX {ws:List Int} (h:lZ ws=true):1≤ws.length∧ws.length≤4:=by
 unfold lZ at h;simp only[zU,zS]at h;exact h.1
theorem AGP {p:Pn} {db:List Tbl} (h:J3 p db=true):(p.cost db:Int)<1000000000:=by
 unfold J3 at h;simp only[zU,zS]at h;obtain⟨hw,hp8,_⟩:=CO h.2;have h1:=AVX rfl (fun t ht=>zR.1 h.1 t ht) p 8 hp8;have h2:=(Pn.JK p 8 hp8).2;omega
theorem Y5 (p:Pn) (db:List Tbl) (hs:∀ t∈db,t.small) (hfit:J3 p db=true→p.fit db=true):aH CE 22 [.i (.iref p.cells), .i (.isl (jL db))] []=some (if J3 p db=true then .tup [.i (.agg [.int (p.evP db).w, .isl (aM (p.evP db).rows)]), .int (p.cost db), .bool true]else .tup [.i (.agg [.int 0, .isl []]), .int 0, .bool false],[]):=by
 have c1:=ZI db hs;have c2:=qK p (db.map Tbl.w);rw[aD rfl Tryz.func22 rfl rfl];by_cases hall:db.all Tbl.ok=true
 ·by_cases hlen:1≤db.length∧db.length≤4
  ·simp only[hall,hlen,and_self,zF8,Bool.and_self,if_true]at c1;by_cases h0:p.width (db.map Tbl.w)=0
   ·have hev:J3 p db=false:=by simp[J3,h0]
    rw[Pn.aA p]at c2 ⊢;simp[c1,c2,h0,hev]
   ·have hev:J3 p db=true:=by simp only[J3,hall,h0,ne_eq,zC0,zF8,Bool.and_self]
    obtain⟨hw,hp8,_⟩:=CO h0;have c3:=AJ3 rfl (fun t ht=>zR.1 hall t ht) p 8 hp8 (hfit hev) 0 (by omega) (by have:=AGP hev;omega);rw[Pn.aA p]at c2 c3 ⊢;simp at c3;simp[c1,c2,h0,hev,c3]
  ·have hev:J3 p db=false:=by
    cases he:J3 p db with
    | false=>rfl
    | true =>
     unfold J3 at he;simp only[zU,zS]at he;have:=AOX (CO he.2).1;simp at this;exact absurd (by omega) hlen
   simp only[hlen,decide_false,Bool.false_and,z8,if_false]at c1;simp[c1,hev]
 ·have hev:J3 p db=false:=by simp[J3,hall]
  simp only[hall,Bool.and_false,z8,if_false]at c1;simp[c1,hev]
theorem NN (p:Pn) (db:List Tbl) (hs:∀ t∈db,t.small) (hfit:J3 p db=true→p.fit db=true):aH CE 11 [.i (.agg p.cells), .i (.isl (jL db))] []=some (if J3 p db=true then .tup [.i (.agg [.int (p.evP db).w, .isl (aM (p.evP db).rows)]), .bool true]else .tup [.i (.agg [.int 0, .isl []]), .bool false],[]):=by
 have c1:=Y5 p db hs hfit;rw[aD rfl Tryz.func11 rfl rfl];rw[Pn.aA p]at c1 ⊢;by_cases h:J3 p db=true<;>simp[h]at c1<;>simp[c1,h]
@[simp] theorem AM5 (a:List AV) (st:StL):aH CE 37 a st=aH C0 37 a st:=by
  rw[aN (p:=aH CR 37) rfl,aN (p:=aH C0 37) rfl]
@[simp] theorem AXQ (a:List AV) (st:StL):aH CE 38 a st=aH CR 38 a st:=by
  rw[aN (p:=aH CR 38) rfl]
@[simp] theorem AGW (a:List AV) (st:StL):aH CE 39 a st=aH C0 39 a st:=by
  rw[aN (p:=aH CR 39) rfl,aN (p:=aH C0 39) rfl]
@[simp] theorem Ae0 (a:List AV) (st:StL):aH CE 40 a st=aH C0 40 a st:=by
  rw[aN (p:=aH CR 40) rfl,aN (p:=aH C0 40) rfl]
@[simp] theorem YQ (a:List AV) (st:StL):aH CE 21 a st=aH C0 21 a st:=by
  rw[aN (p:=aH CR 21) rfl,aN (p:=aH C0 21) rfl]
@[simp] theorem AWD (a:List AV) (st:StL):aH CE 41 a st=aH CT 41 a st:=by
  rw[aN (p:=aH CT 41) rfl]
theorem FE {l:List UInt8} (hl:l.length≤2000):∃ (P:Pn) (db:List Tbl) (p':Int),aH CE 20 [.own 0 0] [Rd l 0]=some (.tup [.i (.agg P.cells), .i (.isl (jL db))],[Rd l p'])∧P.thin∧BdV P∧db.length≤3∧(∀ t∈db,t.small∧t.rows.length≤5)∧0≤p'∧p'<600000000:=by
 obtain⟨a,b,r,p1,hr,r1,r2,r3,r4,r5,r6,r7,r8⟩:=IY l hl 0 (by omega) (by omega)
 have hw:∀ w∈a::b::r,1≤w∧w≤6:=by
  intro w hm;simp only[zP]at hm
  rcases hm with rfl|rfl|hm
  ·omega
  ·omega
  ·have:=r8 w hm;omega
 obtain⟨P,p2,hP,hPt,c1,c2⟩:=Z0 hl (ws:=a::b::r) (fun w hm=>by have:=hw w hm;omega) (by simp;omega) (by simp) p1 (by omega) (by omega);obtain⟨ts,p3,hd,d1,d2,d3,d4⟩:=FD l hl (a::b::r) hw (by simp;omega) p2 (by omega) (by omega);obtain⟨k,hk,-,-⟩:=bE l p3 16 (by omega) (by omega) hl;have te:P.exprs.take P.exprs.length=P.exprs:=zZ (by simp);have tc:P.cols.take P.cols.length=P.cols:=zZ (by simp);have tk:P.kids.take P.kids.length=P.kids:=zZ (by simp);have htl:ts.length=r.length+2:=by have:=congrArg List.length d1;simpa using this
 have tt:(jL ts).take (r.length+2)=jL ts:=zZ (by simp;omega);have tt2:ts.take (r.length+2)=ts:=zZ (by omega);have tt3:(jL ts).take (r.length+1+1)=jL ts:=zZ (by simp;omega);have tt4:ts.take (r.length+1+1)=ts:=zZ (by omega);have htl2:r.length+1+1≤ts.length:=by omega
 have hr0:(0:Int)<(r.length:Int)+2:=by omega
 have hts:∀ t∈ts,t.small∧t.rows.length≤5:=fun t ht=>⟨Tbl.ACM (d2 t ht).1,by have:=(d2 t ht).2;omega⟩
 by_cases k0:k=0
 ·obtain⟨t,p4,ht,t1,t2,t3,t4⟩:=ABP l hl a.toNat (by omega) (by omega) (p3+1) (by omega) (by omega);rw[show((a.toNat:Nat):Int)=a by omega]at ht
  obtain⟨t0,ts',rfl⟩:∃ t0 ts',ts=t0::ts':=by cases ts with
   | nil=>simp at htl
   | cons x y=>exact⟨x,y,rfl⟩
  refine⟨P,t::ts',p4,?_,hPt.1,hPt.2,by simp at htl ⊢;omega,fun x hx=>?_,by omega,by omega⟩
  ·rw[aD rfl Tryz.func20 rfl rfl];have hq:(aM t.rows).take t.rows.length=aM t.rows:=zZ (by simp);have hq2:t.rows.take t.rows.length=t.rows:=zZ (by simp);have tt5:(jL ts').take (r.length+1)=jL ts':=zZ (by simp at htl ⊢;omega);have tt6:ts'.take (r.length+1)=ts':=zZ (by simp at htl;omega);have htl3:r.length+1≤ts'.length:=by simp at htl;omega
   have hr1:(0:Int)<(r.length:Int)+1+1:=by omega
   have hcons:∀ x:Tbl,jL (x::ts')=[.int x.w, .isl (aM x.rows)]::jL ts':=fun x=>rfl
   rw[hcons]at hd ⊢;by_cases hz:t.rows.length=0
   ·have hn:t.rows=[]:=zW.1 hz;rw[hz]at ht;simp at ht
    rcases dI P.exprs with ce|⟨ce,ce',ce''⟩<;>rcases dI P.cols with cc|⟨cc,cc',cc''⟩<;>rcases dI P.kids with ck|⟨ck,ck',ck''⟩ <;>
     (simp[rX,rS,bl,ce,cc,ck,aL,aI,aG]at hP
      simp[aG]at hd;simp[hr,hP,hd,hk,k0,ht,hn,hr0,hr1,ce,cc,ck,aG,te,tc,tk,tt5,tt6,htl3,bI,Pn.aA P,Ex.aB,Pn.aB]
      done)
   ·rw[aL hz,aI hz]at ht
    rcases dI P.exprs with ce|⟨ce,ce',ce''⟩<;>rcases dI P.cols with cc|⟨cc,cc',cc''⟩<;>rcases dI P.kids with ck|⟨ck,ck',ck''⟩ <;>
     (simp[rX,rS,bl,ce,cc,ck,aL,aI,aG]at hP
      simp[aG]at hd;simp[hr,hP,hd,hk,k0,ht,hq,hq2,hr0,hr1,ce,cc,ck,aG,te,tc,tk,tt5,tt6,htl3,Pn.aA P,Ex.aB,Pn.aB]
      done)
  ·rcases zP.1 hx with rfl|hx
   ·exact⟨t1,t2⟩
   ·exact hts x (by simp[hx])
 ·refine⟨P,ts,p3+1,?_,hPt.1,hPt.2,by omega,hts,by omega,by omega⟩;rw[aD rfl Tryz.func20 rfl rfl]
  rcases dI P.exprs with ce|⟨ce,ce',ce''⟩<;>rcases dI P.cols with cc|⟨cc,cc',cc''⟩<;>rcases dI P.kids with ck|⟨ck,ck',ck''⟩ <;>
   (simp[rX,rS,bl,ce,cc,ck,aL,aI,aG]at hP
    simp[aG]at hd;simp[hr,hP,hd,hk,k0,ce,cc,ck,aG,te,tc,tk,tt,tt2,tt3,tt4,htl2,Pn.aA P,Ex.aB,Pn.aB]
    done)
@[simp] theorem YO (a:List AV) (st:StL):aH CE 14 a st=aH C0 14 a st:=by
  rw[aN (p:=aH CR 14) rfl,aN (p:=aH C0 14) rfl]
@[simp] theorem OD (a:List AV) (st:StL):aH CE 15 a st=aH C0 15 a st:=by
  rw[aN (p:=aH CR 15) rfl,aN (p:=aH C0 15) rfl]
@[simp] theorem YR (a:List AV) (st:StL):aH CE 10 a st=aH C0 10 a st:=by
  rw[aN (p:=aH CR 10) rfl,aN (p:=aH C0 10) rfl]
structure Drn (P:Pn) (db:List Tbl):Prop where
 thin:P.thin
 bdv:BdV P
 len:db.length≤3
 small:∀ t∈db,t.small
 rows:∀ t∈db,t.rows.length≤5
structure EvD (p:Pn) (db:List Tbl):Prop where
 ok:∀ t∈db,t.ok=true
 ws:lZ (db.map Tbl.w)=true
 wd:p.wd (db.map Tbl.w) 8≠0
theorem TL {p:Pn} {db:List Tbl}:J3 p db=true↔EvD p db:=by
 unfold J3;simp only[zU,zS];constructor
 ·rintro⟨h1,h2⟩;obtain⟨k1,k2,_⟩:=CO h2;exact⟨fun t ht=>zR.1 h1 t ht,k1,k2⟩
 ·intro h;refine⟨List.all_eq_true.2 h.ok,?_⟩;unfold Pn.width;rw[if_pos h.ws];exact h.wd
theorem EvD.width {p:Pn} {db:List Tbl} (h:EvD p db):p.width (db.map Tbl.w)=p.wd (db.map Tbl.w) 8:=by
 unfold Pn.width;rw[if_pos h.ws]
theorem EvD.good {p:Pn} {db:List Tbl} (h:EvD p db):(p.evP db).ok=true∧(p.evP db).w=p.wd (db.map Tbl.w) 8:=gW rfl h.ok p 8 h.wd
theorem Aa4 {p:Pn} {db:List Tbl} (hr:∀ t∈db,t.rows.length≤5) (h:EvD p db) (hb:p.bd 5≤400):p.fit db=true :=
 (AaS (n:=5) (by omega) rfl (fun t ht=>⟨h.ok t ht,hr t ht⟩) p 8 h.wd hb).1
theorem Drn.bd {P:Pn} {db:List Tbl} (h:Drn P db) {lv:Nat} (hw:P.wd (db.map Tbl.w) lv≠0):P.bd 5≤50:=h.bdv _ lv 5 (by omega) hw
theorem Drn.fit {P:Pn} {db:List Tbl} (h:Drn P db) (he:J3 P db=true):P.fit db=true:=by
 have hd:=TL.1 he;have:=h.bd hd.wd;exact Aa4 h.rows hd (by omega)
theorem AVM {t:Tbl} (h:t.ok=true):aH C0 15 [.i (.agg [.int t.w, .isl (aM t.rows)]), .i (.agg [.int t.w, .isl (aM t.rows)])] []=some (.bool true,[]):=by
 have:=OA t t (Tbl.ACM h);simpa using this
end Go.Proofs.YtnmimmaahhlgeaaGreat.P
namespace Go.Av
theorem TJ (db:List Tbl) (p:Pn):(p.evP db).rows.length≤400:=by
 rw[Pn.BC];unfold evK
 repeat' split
 all_goals exact(sU _ _).1
theorem lL {db:List Tbl} {e:Ex} {a:Pn}:(filt e a).fit db=true↔a.fit db=true:=by
 rw[Pn.rC,ACF];have h1:=yG (isT e) (a.evP db).rows;have h2:=TJ db a;simp only[filt,Pn.fU,y9,forall_eq];exact⟨fun h=>h.2,fun h=>⟨by omega,h⟩⟩
theorem wV {db:List Tbl} {es:List Ex} {a:Pn}:(proj es a).fit db=true↔a.fit db=true:=by
 rw[Pn.rC,ACE,y5];have h2:=TJ db a;simp only[proj,Pn.fU,y9,forall_eq];exact⟨fun h=>h.2,fun h=>⟨h2,h⟩⟩
theorem APV {db:List Tbl} {a:Pn} (h:(Pn.mk 7 0 [] [] [a]).fit db=true):a.fit db=true:=((Pn.rC _ _).1 h).2 a (by simp)
theorem mQ {db:List Tbl} {k:Int} (hk:k=4∨k=5) {e:Ex} {a b:Pn}:(aY k e a b).fit db=true↔(fD e (decide (k=5)) (a.evP db) (b.evP db)).length≤400∧a.fit db=true∧b.fit db=true:=by
 rw[Pn.rC,RY db hk];simp only[aY,Pn.fU,zP,zD8,or_false,forall_eq_or_imp,forall_eq]
theorem Y2 {db:List Tbl} {a b:Pn}:(cK a b).fit db=true↔((a.evP db).rows++(b.evP db).rows).length≤400∧a.fit db=true∧b.fit db=true:=by
 rw[Pn.rC,W9];simp only[cK,Pn.fU,zP,zD8,or_false,forall_eq_or_imp,forall_eq]
theorem ACZ {e x y:Ex} (hk:e.kind=8) (hs:e.kids=[x,y]) (r:List Val):isT e r=(isT x r && isT y r):=by
 unfold isT;rw[Ex.J2 r e,hk,hs];simp only[evN,yQ,zG9,List.getElem?_cons_zero,zC9,zA];have e1:Val.cmb 8 (x.ev r) (y.ev r)=trV (if(y.ev r).tr<(x.ev r).tr then(y.ev r).tr else(x.ev r).tr):=by simp[Val.cmb]
 have hx:=wO (x.ev r);have hy:=wO (y.ev r);simp only[show ¬ (8:Int)=1 by omega,show ¬ (8:Int)=2 by omega,show ¬ (8:Int)=10 by omega,show ¬ (8:Int)=11 by omega,if_false];rw[e1,AR3 (by split<;>assumption)]
 rcases hx with h|h|h<;>rcases hy with g|g|g<;>simp[h,g]
theorem ACY (a b:Ex) (r:List Val):isT (R5 a b) r=(isT a r && isT b r):=ACZ rfl rfl r
theorem AVK {f:Int→Bool} {r s:List Val} (h:∀ c,f c=true→(s[c.toNat]?).getD Val.zero=(r[c.toNat]?).getD Val.zero):∀ e:Ex,e.wN f=true→e.ev s=e.ev r:=by
 intro e
 induction e using Ex.ind with
 | h k c v ks ih =>
  intro ha;rw[Ex.lW]at ha;rw[Ex.J2 s,Ex.J2 r];by_cases h1:k=1
  ·subst h1;simp only[Ex.kind,Ex.col,if_true]at ha;simp only[Ex.kind,Ex.col,Ex.val,Ex.kids,evN,if_true];exact h c ha
  ·simp only[Ex.kind,Ex.kids,h1,if_false,zR]at ha;simp only[Ex.kind,Ex.col,Ex.val,Ex.kids];have:ks.map (Ex.ev s)=ks.map (Ex.ev r):=xU fun x hx=>ih x hx (ha x hx)
   rw[this];simp[evN,h1]
theorem ALI {g:Int→Int} {f:Int→Bool} {r s:List Val} (h:∀ c,f c=true→(s[(g c).toNat]?).getD Val.zero=(r[c.toNat]?).getD Val.zero):∀ e:Ex,e.wN f=true→(e.rJ g).ev s=e.ev r:=by
 intro e
 induction e using Ex.ind with
 | h k c v ks ih =>
  intro ha;rw[Ex.lW]at ha;by_cases h1:k=1
  ·subst h1;simp only[Ex.kind,Ex.col,if_true]at ha;rw[Ex.ED g (e:=.mk 1 c v ks) (by rfl),Ex.J2 s,Ex.J2 r];simp only[YM,Ex.kind,Ex.col,Ex.val,Ex.kids,evN,if_true];exact h c ha
  ·simp only[Ex.kind,Ex.kids,h1,if_false,zR]at ha;rw[Ex.EC g (by simpa [Ex.kind]using h1),Ex.J2 s,Ex.J2 r];simp only[Ex.kind,Ex.col,Ex.val,Ex.kids,zC7];have:ks.map (Ex.ev s ∘ Ex.rJ g)=ks.map (Ex.ev r):=xU fun x hx=>ih x hx (ha x hx)
   rw[this];simp[evN,h1]
theorem APG {e:Ex} {A:Int} {r s:List Val} (hr:(r.length:Int)=A) (h:e.cin 0 A=true):isT e (r++s)=isT e r:=by
 unfold isT;rw[AVK (r:=r) (s:=r++s) (fun c hc=>?_) e h];have hc:=zO hc;rw[zL (by omega)]
theorem APF {e:Ex} {A B:Int} {r s:List Val} (hr:(r.length:Int)=A) (hs:(s.length:Int)=B) (h:e.wf (A+B)=true):isT (e.rJ (nN A B)) (s++r)=isT e (r++s):=by
 unfold isT;rw[ALI (r:=r++s) (s:=s++r) (fun c hc=>?_) e (Ex.JJ e h)];have hc:=zO hc;unfold nN;by_cases hA:c<A
 ·rw[if_pos hA,zL (l₁:=r) (by omega),zN (by omega),show(c+B).toNat-s.length=c.toNat by omega]
 ·rw[if_neg hA,zN (l₁:=r) (by omega),zL (by omega),show c.toNat-r.length=(c-A).toNat by omega]
theorem N9 {x:List Val} {a n:Nat} (h:a+n≤x.length):(aS a n).map (Ex.ev x)=(x.drop a).take n:=by
 apply zF4;intro i;rw[zH,zD];by_cases hi:i<n
 ·rw[qQ hi,if_pos hi,yM,yI];have e1:=zX (show a+i<x.length by omega);rw[e1,← AVZ e1];simp
 ·rw[if_neg hi,List.getElem?_eq_none (by simpa using hi)];rfl
theorem AG2 {e f:Ex} {o:Bool} {A B:Tbl} (h:∀ r∈A.rows,∀ s,isT e (r++s)=isT e r):(fD f o A B).filter (isT e)=fD f o ⟨A.w,A.rows.filter (isT e)⟩ B:=by
 unfold fD;obtain⟨w,l⟩:=A;simp only at h ⊢
 induction l with
 | nil=>rfl
 | cons r l ih =>
  have ih:=ih fun x hx=>h x (by simp[hx])
  rw[yB,xN,ih]
  have hr:(joinL f o B.w B.rows r).filter (isT e)=if isT e r=true then joinL f o B.w B.rows r else []:=by
   split
   ·rename_i c;exact List.filter_eq_self.2 fun x hx=>by obtain⟨s,rfl⟩:=EG hx;rw[h r (by simp)];exact c
   ·rename_i c;exact List.filter_eq_nil_iff.2 fun x hx=>by obtain⟨s,rfl⟩:=EG hx;rw[h r (by simp)];exact c
  rw[hr,List.filter_cons];split<;>simp
theorem XL (e f:Ex) (A B:Tbl):(fD f false A B).filter (isT e)=fD (R5 f e) false A B:=by
 rw[mH,mH,zD2];exact xL fun r _=>by rw[ACY,zF9]
theorem AAJ {e e' f:Ex} {A B:Tbl} (h:∀ r∈A.rows,∀ s,isT e' s=isT e (r++s)):(fD f false A B).filter (isT e)=fD f false A ⟨B.w,B.rows.filter (isT e')⟩:=by
 rw[mH,mH]
 have:AX A ⟨B.w,B.rows.filter (isT e')⟩=(AX A B).filter (isT e):=by
  unfold AX;rw[List.filter_flatMap];obtain⟨w,l⟩:=A;simp only at h ⊢
  induction l with
  | nil=>rfl
  | cons r l ih =>
   rw[yB,yB,ih fun x hx=>h x (by simp[hx]),List.filter_map];congr 2;exact xL fun s _=>h r (by simp) s
 rw[this,zD2,zD2];exact xL fun r _=>zF9 _ _
theorem AAK {e f:Ex} {A B:Tbl} (h:∀ r∈A.rows,isT e (r++uI B.w)=false):(fD f true A B).filter (isT e)=(fD f false A B).filter (isT e):=by
 unfold fD;obtain⟨w,l⟩:=A;simp only at h ⊢
 induction l with
 | nil=>rfl
 | cons r l ih =>
  rw[yB,yB,xN,xN,ih fun x hx=>h x (by simp[hx])];congr 1;unfold joinL;simp only[zB8,Bool.false_and,z8,if_false];split
  ·rename_i hc;rw[zG1.1 hc];simp[h r (by simp)]
  ·rfl
theorem Y1 {α β:Type} (g:α→β) (h:α→List β):∀ m:List α,(m.flatMap fun b=>g b::h b).Perm (m.map g++m.flatMap h)
 | []=>.refl _
 | b::m=>by
  rw[yB,yQ,yB,yR,yR];refine .cons _ ?_;refine(xR _ (Y1 g h m)).trans ?_;rw[← List.append_assoc,← List.append_assoc];exact List.Perm.append_right _ zB6
theorem Y0 {α β γ:Type} (f:α→β→γ) (m:List β):∀ l:List α,(l.flatMap fun a=>m.map (f a)).Perm (m.flatMap fun b=>l.map fun a=>f a b)
 | []=>by
  simp only[List.flatMap_nil,zG9];have:∀ m:List β,(m.flatMap fun _=>([]:List γ))=[]:=fun m=>by induction m<;>simp_all
  rw[this]
 | a::l=>by
  rw[yB];simp only[yQ];exact(xR _ (Y0 f m l)).trans (Y1 _ _ m).symm
theorem QI {α β:Type} {f g:α→List β}:∀ {l:List α},(∀ a∈l,f a=g a)→l.flatMap f=l.flatMap g
 | [],_=>rfl
 | a::l,h=>by rw[yB,yB,h a (by simp),QI fun x hx=>h x (by simp[hx])]
theorem AG1 {f:Ex} {A B:Tbl} (hA:∀ r∈A.rows,(r.length:Int)=A.w) (hB:∀ r∈B.rows,(r.length:Int)=B.w) (hw:f.wf (A.w+B.w)=true) (h0:0≤A.w) (h1:0≤B.w) :
 ((fD (f.rJ (nN A.w B.w)) false B A).map fun r=>(aS B.w A.w.toNat++aS 0 B.w.toNat).map (Ex.ev r)).Perm (fD f false A B):=by
 have hg:∀ r∈A.rows,∀ s∈B.rows,(aS B.w A.w.toNat++aS 0 B.w.toNat).map (Ex.ev (s++r))=r++s:=by
  intro r hr s hs;have l1:=hA r hr;have l2:=hB s hs;obtain⟨a,ha⟩:=yZ h0;obtain⟨b,hb⟩:=yZ h1;rw[ha]at l1 ⊢;rw[hb]at l2 ⊢;have c1:=N9 (x:=s++r) (a:=b) (n:=a) (by rw[zQ];omega);have c2:=N9 (x:=s++r) (a:=0) (n:=b) (by rw[zQ];omega);rw[yH,zD4,zD4,c1,show(0:Int)=((0:Nat):Int)by rfl,c2,List.drop_zero,show b=s.length by omega,List.drop_left,zA9,show a=r.length by omega,zG4]
 rw[mH,mH]
 have e1:(List.filter (isT (f.rJ (nN A.w B.w))) (AX B A)).map (fun r=>(aS B.w A.w.toNat++aS 0 B.w.toNat).map (Ex.ev r))=((AX B A).map fun r=>(aS B.w A.w.toNat++aS 0 B.w.toNat).map (Ex.ev r)).filter (isT f):=by
  rw[List.filter_map];congr 1;refine xL fun x hx=>?_
  unfold AX at hx;obtain⟨s,hs,hx⟩:=zG3.1 hx;obtain⟨r,hr,rfl⟩:=zG.1 hx;simp only[Function.comp];rw[hg r hr s hs];exact APF (hA r hr) (hB s hs) hw
 rw[e1];refine List.Perm.filter _ ?_
 have e2:((AX B A).map fun r=>(aS B.w A.w.toNat++aS 0 B.w.toNat).map (Ex.ev r))=B.rows.flatMap fun s=>A.rows.map fun r=>r++s:=by
  unfold AX;rw[List.map_flatMap];refine QI fun s hs=>?_
  rw[zC7];exact xU fun r hr=>hg r hr s hs
 rw[e2];exact(Y0 (fun(s r:List Val)=>r++s) A.rows B.rows)
theorem RF {w:Int} {J:List (List Val)} (hn:J.length≤400) (ho:oks J) (f:List Val→Bool):tab w ((tab w J).rows.filter f)=tab w (J.filter f):=by
 rw[dZ hn];exact JU ((jN J).filter f) fun r hr=>AIO ho r (zD1.1 hr).1
theorem ARC {v w:Int} {J:List (List Val)} (hn:J.length≤400) (g:List Val→List Val) (ho:oks ((dF J).map g)):tab w ((tab v J).rows.map g)=tab w (J.map g):=by
 rw[dZ hn];exact JU ((jN J).map g) ho
theorem mK {ws:List Int} {db:List Tbl} (hws:ws=db.map Tbl.w) (hdb:∀ t∈db,t.ok=true) {p:Pn} {W:Int} (h:Wd ws p W):(p.evP db).ok=true∧(p.evP db).w=W:=by
 obtain⟨lv,rfl,h0⟩:=h;exact gW hws hdb p lv h0
theorem jI {ws:List Int} {db:List Tbl} (hws:ws=db.map Tbl.w) (hdb:∀ t∈db,t.ok=true) {p:Pn} {W:Int} (h:Wd ws p W) (e:Ex):(filt e p).evP db=⟨(p.evP db).w,(p.evP db).rows.filter (isT e)⟩:=by
 obtain⟨lv,rfl,h0⟩:=h;exact ALJ hws hdb h0 e
theorem XK {e:Ex} {o:Bool} {a b:Tbl} (ha:a.ok=true) (hb:b.ok=true):oks (fD e o a b):=fun r hr=>mP (ACU ha hb r hr)
theorem nG {ws:List Int} {db:List Tbl} (hws:ws=db.map Tbl.w) (hdb:∀ t∈db,t.ok=true) {k:Int} (hk:k=4∨k=5) {f:Ex} {a b:Pn} {A B:Int} (ha:Wd ws a A) (hb:Wd ws b B) (hn:(fD f (decide (k=5)) (a.evP db) (b.evP db)).length≤400) (e:Ex) :
 (filt e (aY k f a b)).evP db=tab ((a.evP db).w+(b.evP db).w) ((fD f (decide (k=5)) (a.evP db) (b.evP db)).filter (isT e)):=by
 rw[oF,kM db hk,uU,RF hn (XK (mK hws hdb ha).1 (mK hws hdb hb).1)]
theorem J5 {ws:List Int} {k:Int} (hk:k=4∨k=5) {f:Ex} {a b:Pn} {A B:Int} (ha:Wd ws a A) (hb:Wd ws b B) (h8:(aY k f a b).wd ws 8≠0):a.wd ws 8=A∧b.wd ws 8=B∧(aY k f a b).wd ws 8=A+B:=by
 have h7:=h8;rw[uO hk]at h7;obtain⟨hc,-⟩:=gF h7;have g1:=hc.1;have g2:=hc.2.1;refine⟨?_,?_,?_⟩
 ·rw[Pn.gZ a 7 8 g1 (by omega)];exact ZB ha g1
 ·rw[Pn.gZ b 7 8 g2 (by omega)];exact ZB hb g2
 ·rw[uO hk,if_pos hc,ZB ha g1,ZB hb g2]
theorem DT {t:Tbl} (h:t.ok=true):∀ r∈t.rows,(r.length:Int)=t.w:=fun r hr=>lD (((Tbl.dN t).1 h).2.2.1 r hr)
theorem AU9 {e:Ex} {A B:Int} (h0:0≤A) (h1:0≤B) (he:e.wf (A+B)=true) (hr:ACC e (A+B) A=true) {r:List Val} (hl:(r.length:Int)=A):isT e (r++uI B)=false:=by
 cases h:isT e (r++uI B)with
 | false=>rfl
 | true =>
  have hnl:(uI B).length=B.toNat:=by simp[uI]
  have hsl:(kG (A+B) A).length=(A+B).toNat:=by simp[kG]
  have hs:=AFU (W:=A+B) (kG (A+B) A) (r++uI B) (by rw[hsl];omega) (by rw[hsl,zQ,hnl];omega)
   (fun a ha=>by
    unfold kG at ha;obtain⟨i,-,rfl⟩:=zG.1 ha;unfold okS
    split<;>omega)
   (fun i a v hi hv=>by
    unfold kG at hi;rw[zH]at hi;obtain⟨j,hj,rfl⟩:=zB0.1 hi
    have hj':=(zY.1 hj)
    obtain⟨hj1,hj2⟩:=hj';rw[List.getElem_range]at hj2;subst hj2;by_cases hA:A≤(i:Int)
    ·rw[if_pos hA];rw[zN (by omega)]at hv;unfold uI at hv;rw[List.getElem?_replicate]at hv;split at hv
     ·injection hv with hv;subst hv;decide
     ·cases hv
    ·rw[if_neg hA];unfold stV;split
     ·decide
     ·split<;>decide) e he
  rw[Ad6 h]at hs;unfold ACC at hr;rw[hs]at hr
  cases hr
theorem AYT {ws:List Int} {db:List Tbl} (hws:ws=db.map Tbl.w) (hdb:∀ t∈db,t.ok=true) {rule:Int} {e:Ex} {k q:Pn} {W V:Int} (hp:Wd ws (filt e k) W) (h8:k.wd ws 8≠0) (h:rwF ws rule e k=some q) (hq:Wd ws q V) (hf:k.fit db=true):q.evP db=(filt e k).evP db∧q.fit db=true:=by
 obtain⟨hk,he⟩:=iG hp;unfold rwF at h;split at h
 ·rename_i hc;injection h with h;subst h;obtain⟨f,a,rfl⟩:=pU hk hc.2;have ha:=(iG hk).1;show(filt (R5 f e) a).evP db=_∧(filt (R5 f e) a).fit db=true;rw[jI hws hdb ha,jI hws hdb hk,jI hws hdb ha];refine⟨?_,lL.2 (lL.1 hf)⟩;rw[zD2];congr 1;exact xL fun r _=>by rw[ACY,zF9]
 split at h
 ·rename_i hc;injection h with h;subst h;have hl:=qY he;rw[Ex.EZ]at hl;simp only[zU,zS]at hl;obtain⟨x,y,hx⟩:=SV (T9 hl.1 (by omega) (by omega) (by omega) (by omega));have h0:e.lI=x:=by simp[Ex.lI,hx]
  have h1:e.uL=y:=by simp[Ex.uL,hx]
  rw[h0,h1]at hq ⊢;have hq1:=(iG hq).1;rw[jI hws hdb hq1,jI hws hdb hk,jI hws hdb hk];refine⟨?_,lL.2 (lL.2 hf)⟩;rw[zD2];congr 1;exact xL fun r _=>by rw[ACZ hc.2 hx,zF9]
 split at h
 ·rename_i hc;injection h with h;subst h;obtain⟨f,a,b,hx⟩:=iF hk hc.2.1;have h2:=hc.2.1;have h3:=hc.2.2;generalize k.kind=kd at *
  subst hx;obtain⟨A,B,ha,hb,hab,hfo,rfl⟩:=lY h2 hk;obtain⟨w1,w2,w3⟩:=J5 h2 ha hb h8;replace h3:e.cin 0 (a.wd ws 8)=true:=h3;rw[w1]at h3;show(aY kd f (filt e a) b).evP db=_∧(aY kd f (filt e a) b).fit db=true;obtain⟨f1,f2,f3⟩:=(mQ h2).1 hf;obtain⟨ga,gw⟩:=mK hws hdb ha;have key:=AG2 (e:=e) (f:=f) (o:=decide (kd=5)) (A:=a.evP db) (B:=b.evP db) fun r hr s=>APG (by rw[DT ga r hr,gw]) h3
  rw[nG hws hdb h2 ha hb f1,kM db h2,mQ h2,jI hws hdb ha,key];refine⟨rfl,?_,lL.2 f2,f3⟩;rw[← key];have:=yG (isT e) (fD f (decide (kd=5)) (a.evP db) (b.evP db));omega
 split at h
 ·rename_i hc;injection h with h;subst h;obtain⟨f,a,b,hx⟩:=iF hk (.inl hc.2.1);rw[hc.2.1]at hx;have h3:=hc.2.2;subst hx;obtain⟨A,B,ha,hb,hab,hfo,rfl⟩:=lY (.inl rfl) hk;obtain⟨w1,w2,w3⟩:=J5 (.inl rfl) ha hb h8;replace h3:e.cin (a.wd ws 8) ((aY 4 f a b).wd ws 8)=true:=h3;rw[w1,w3]at h3;replace hq:Wd ws (aY 4 f a (filt (e.rJ (·-a.wd ws 8)) b)) V:=hq;show(aY 4 f a (filt (e.rJ (·-a.wd ws 8)) b)).evP db=_∧(aY 4 f a (filt (e.rJ (·-a.wd ws 8)) b)).fit db=true;rw[w1]at hq ⊢;obtain⟨f1,f2,f3⟩:=(mQ (.inl rfl)).1 hf;obtain⟨ga,gw⟩:=mK hws hdb ha;have f1':(fD f false (a.evP db) (b.evP db)).length≤400:=by simpa using f1
  have h3':e.cin A (A+B)=true:=h3
  have key:=AAJ (e:=e) (e':=e.rJ (·-A)) (f:=f) (A:=a.evP db) (B:=b.evP db) fun r hr s=>by
   unfold isT;rw[ALI (r:=r++s) (s:=s) (fun c hc=>?_) e h3'];have hc:=zO hc;have:=DT ga r hr;rw[zN (by omega),show c.toNat-r.length=(c-A).toNat by omega]
  rw[nG hws hdb (.inl rfl) ha hb f1,kM db (.inl rfl),mQ (.inl rfl),jI hws hdb hb];simp only[show decide ((4:Int)=5)=false by decide];rw[key];refine⟨rfl,?_,f2,lL.2 f3⟩;rw[← key];have:=yG (isT e) (fD f false (a.evP db) (b.evP db));omega
 split at h
 ·rename_i hc;injection h with h;subst h;obtain⟨f,a,b,hx⟩:=iF hk (.inl hc.2);rw[hc.2]at hx;subst hx;obtain⟨A,B,ha,hb,hab,hfo,rfl⟩:=lY (.inl rfl) hk;show(aY 4 (R5 f e) a b).evP db=_∧(aY 4 (R5 f e) a b).fit db=true;obtain⟨f1,f2,f3⟩:=(mQ (.inl rfl)).1 hf;have f1':(fD f false (a.evP db) (b.evP db)).length≤400:=by simpa using f1
  rw[nG hws hdb (.inl rfl) ha hb f1,kM db (.inl rfl),mQ (.inl rfl)];simp only[show decide ((4:Int)=5)=false by decide];rw[XL];refine⟨rfl,?_,f2,f3⟩;rw[← XL];have:=yG (isT e) (fD f false (a.evP db) (b.evP db));omega
 split at h
 ·rename_i hc;injection h with h;subst h;obtain⟨f,a,b,hx⟩:=iF hk (.inr hc.2.1);rw[hc.2.1]at hx;have h3:=hc.2.2;subst hx;obtain⟨A,B,ha,hb,hab,hfo,rfl⟩:=lY (.inr rfl) hk;obtain⟨w1,w2,w3⟩:=J5 (.inr rfl) ha hb h8;replace h3:ACC e ((aY 5 f a b).wd ws 8) (a.wd ws 8)=true:=h3;rw[w1,w3]at h3;replace hq:Wd ws (filt e (aY 4 f a b)) V:=hq;show(filt e (aY 4 f a b)).evP db=_∧(filt e (aY 4 f a b)).fit db=true;obtain⟨f1,f2,f3⟩:=(mQ (.inr rfl)).1 hf;obtain⟨ga,gw⟩:=mK hws hdb ha;obtain⟨gb,gv⟩:=mK hws hdb hb;have f1':(fD f true (a.evP db) (b.evP db)).length≤400:=by simpa using f1
  have f4:=(APD f (a.evP db) (b.evP db)).length_le;have g1:=(d9 _).1 ((Tbl.dN _).1 ga).1;have g2:=(d9 _).1 ((Tbl.dN _).1 gb).1
  have key:=AAK (e:=e) (f:=f) (A:=a.evP db) (B:=b.evP db) fun r hr=>by
   rw[gv];exact AU9 (by omega) (by omega) (qY he) h3 (by rw[DT ga r hr,gw])
  rw[nG hws hdb (.inr rfl) ha hb f1,nG hws hdb (.inl rfl) ha hb (by simp only[show decide ((4:Int)=5)=false by decide];omega),lL,mQ (.inl rfl)];simp only[show decide ((4:Int)=5)=false by decide,zF8];rw[key];exact⟨rfl,by omega,f2,f3⟩
 split at h
 ·rename_i hc;injection h with h;subst h;obtain⟨a,b,rfl⟩:=AE6 hk hc.2;obtain⟨ha,hb⟩:=UF hk;show(cK (filt e a) (filt e b)).evP db=_∧(cK (filt e a) (filt e b)).fit db=true;obtain⟨f1,f2,f3⟩:=Y2.1 hf;obtain⟨ga,gw⟩:=mK hws hdb ha;obtain⟨gb,gv⟩:=mK hws hdb hb
  rw[oF,pI,pI,Y2,jI hws hdb ha,jI hws hdb hb,uU,RF f1 (fun r hr=>by
   rcases zT.1 hr with hr|hr
   ·exact Tbl.WY ga r hr
   ·exact Tbl.WY gb r hr),xN]
  refine⟨rfl,?_,lL.2 f2,lL.2 f3⟩;have h1:=yG (isT e) (a.evP db).rows;have h2:=yG (isT e) (b.evP db).rows;rw[zQ]at f1 ⊢;simp only;omega
 split at h
 ·rename_i hc;injection h with h;subst h;obtain⟨es,a,rfl⟩:=lX hk hc.2;obtain⟨A,ha,hl,hes,rfl⟩:=rH hk;show(proj es (filt (e.sub es) a)).evP db=_∧(proj es (filt (e.sub es) a)).fit db=true;obtain⟨ga,gw⟩:=mK hws hdb ha;have h3:=((Tbl.dN _).1 ga).2.2.1
  have ho:∀ r∈(a.evP db).rows,(es.map (Ex.ev r)).all Val.ok=true:=fun r hr=>by
   rw[zR];intro v hv;obtain⟨x,hx,rfl⟩:=zG.1 hv;exact ALH (h3 r hr) (by rw[gw];exact zR.1 hes x hx)
  have hn:=TJ db a
  rw[oF,kL,kL,uU,RF (by rw[y5];exact hn) (fun r hr=>by
   obtain⟨x,hx,rfl⟩:=zG.1 hr
   exact ho x hx),jI hws hdb ha,List.filter_map]
  refine⟨?_,wV.2 (lL.2 (wV.1 hf))⟩;congr 2;refine xL fun r _=>?_
  simp only[Function.comp];unfold isT;rw[AS9 es rfl r e (qY he)]
 ·cases h
theorem AYS {ws:List Int} {db:List Tbl} (hws:ws=db.map Tbl.w) (hdb:∀ t∈db,t.ok=true) (hw:∀ w∈ws,0≤w∧w≤6) {rule:Int} {p q:Pn} {W V:Int} (hp:Wd ws p W) (h8:p.wd ws 8≠0) (h:rwP ws rule p=some q) (hq:Wd ws q V) (hf:p.fit db=true):q.evP db=p.evP db∧q.fit db=true:=by
 unfold rwP at h;split at h
 ·rename_i hc;obtain⟨e,a,rfl⟩:=pU hp hc;refine AYT hws hdb hp ?_ h hq (lL.1 hf);have h7:=h8;rw[BF]at h7;obtain⟨hc,-⟩:=gF h7;show a.wd ws 8≠0;rw[Pn.gZ a 7 8 hc.1 (by omega)];exact hc.1
 split at h
 ·rename_i hc;injection h with h;subst h;obtain⟨f,a,b,hx⟩:=iF hp (.inl hc.2);rw[hc.2]at hx;subst hx;obtain⟨A,B,ha,hb,hab,hfo,rfl⟩:=lY (.inl rfl) hp;obtain⟨w1,w2,w3⟩:=J5 (.inl rfl) ha hb h8;obtain⟨f1,f2,f3⟩:=(mQ (.inl rfl)).1 hf;have f1':(fD f false (a.evP db) (b.evP db)).length≤400:=by simpa using f1
  obtain⟨ga,gw⟩:=mK hws hdb ha;obtain⟨gb,gv⟩:=mK hws hdb hb;have g1:=(d9 _).1 ((Tbl.dN _).1 ga).1;have g2:=(d9 _).1 ((Tbl.dN _).1 gb).1;show(proj (aS (b.wd ws 8) (a.wd ws 8).toNat++aS 0 (b.wd ws 8).toNat) (aY 4 (f.rJ (nN (a.wd ws 8) (b.wd ws 8))) b a)).evP db=_∧(proj (aS (b.wd ws 8) (a.wd ws 8).toNat++aS 0 (b.wd ws 8).toNat) (aY 4 (f.rJ (nN (a.wd ws 8) (b.wd ws 8))) b a)).fit db=true;rw[w1,w2,← gw,← gv];have hwf:f.wf ((a.evP db).w+(b.evP db).w)=true:=by rw[gw,gv];exact qY hfo
  have key:=AG1 (DT ga) (DT gb) hwf (by omega) (by omega);have hl:=key.length_eq;rw[y5]at hl;have hok:=XK (e:=f) (o:=false) ga gb;rw[wV,mQ (.inl rfl),kL,kM db (.inl rfl),kM db (.inl rfl)];simp only[show decide ((4:Int)=5)=false by decide];refine⟨?_,by omega,f3,f2⟩;rw[ARC (by omega) _ (DZ (((jN _).map _).trans key).symm hok),zQ,lS,lS,JU key (DZ key.symm hok)];congr 1;omega
 split at h
 ·rename_i hc;injection h with h;subst h;obtain⟨a,rfl⟩:=AE8 hp hc.2.1;have ha:=AE7 hp;obtain⟨ga,gw⟩:=mK hws hdb ha;show a.evP db=_∧a.fit db=true;refine⟨?_,APV hf⟩;have h7:=h8;rw[GH (by omega)]at h7;have ha7:=(gF h7).1.2;have hk:a.kind=7∨a.kind=8:=hc.2.2
  have hn:=Aa9 hws hdb (sets:=[]) (fun i t _ h=>by simp at h) hw a 7 (by omega) ha7 (by
   rw[Pn.ALM,if_neg (by omega),if_neg (by omega),if_pos hk])
  rw[tX,AIB ga,(lQ _).eq_of_length ((TT ga).2 hn)]
 split at h
 ·rename_i hc;injection h with h;subst h;obtain⟨es,k,rfl⟩:=lX hp hc.2.1;obtain⟨K,hk,hl,hes,rfl⟩:=rH hp;obtain⟨fs,a,rfl⟩:=lX hk hc.2.2;obtain⟨A,ha,hl2,hfs,rfl⟩:=rH hk;show(proj (es.map (Ex.sub fs)) a).evP db=_∧(proj (es.map (Ex.sub fs)) a).fit db=true;refine⟨?_,wV.2 (wV.1 (wV.1 hf))⟩;obtain⟨gk,gv⟩:=mK hws hdb hk;have h3:=((Tbl.dN _).1 gk).2.2.1;have hn:=TJ db a;have hk0:=kL db fs a
  have ho:oks (((proj fs a).evP db).rows.map fun r=>es.map (Ex.ev r)):=fun r hr=>by
   obtain⟨x,hx,rfl⟩:=zG.1 hr;rw[zR];intro v hv;obtain⟨y,hy,rfl⟩:=zG.1 hv;exact ALH (h3 x hx) (by rw[gv];exact zR.1 hes y hy)
  rw[hk0,dZ (by rw[y5];exact hn)]at ho;rw[kL,kL db es,hk0,ARC (by rw[y5];exact hn) _ ho,y5,zC7];congr 1;refine xU fun r _=>?_
  rw[zC7];simp only[Function.comp];exact xU fun e hee=>AS9 fs rfl r e (qY (zR.1 hes e hee))
 ·cases h
theorem ART {db:List Tbl} {q a:Pn} (he:q.evP db=a.evP db) (hq:q.fit db=true):∀ (path:List Int) (p:Pn),Pn.at path p=some a→p.fit db=true→(Pn.put path p q).evP db=p.evP db∧(Pn.put path p q).fit db=true
 | [],p,e,hf=>by simp[Pn.at]at e;subst e;exact⟨he,hq⟩
 | i::r,p,e,hf=>by
  obtain⟨n,rfl,b,hb,hr⟩:=Pn.pQ e;rw[Pn.DW q hb];have hfp:=(Pn.rC db p).1 hf;obtain⟨h1,h2⟩:=ART he hq r b hr (hfp.2 b (zV hb))
  have hm:∀ j:Nat,((p.kids.set n (Pn.put r b q))[j]?.map (Pn.evP db))=(p.kids[j]?.map (Pn.evP db)):=by
   intro j;rw[List.getElem?_set];split
   ·rename_i hj;subst hj;have hlt:=(zY.1 hb).1;rw[if_pos hlt,hb,yI,yI,h1]
   ·rfl
  have hk0:=hm 0;have hk1:=hm 1;constructor
  ·rw[Pn.BC,Pn.BC db p];simp only[Pn.fU,Pn.fT,Pn.kK,Pn.dO,Pn.gK];rw[hk0,hk1]
  ·rw[Pn.rC];refine⟨?_,?_⟩
   ·have h3:=hfp.1;unfold Pn.raw at h3 ⊢;simp only[Pn.fU,Pn.fT,Pn.kK,Pn.dO,Pn.gK];rw[hk0,hk1];exact h3
   ·intro x hx
    rcases xO (show x∈p.kids.set n (Pn.put r b q)from hx)with hx|rfl
    ·exact hfp.2 x hx
    ·exact h2
theorem AaV {ws:List Int} {db:List Tbl} (hws:ws=db.map Tbl.w) (hdb:∀ t∈db,t.ok=true) (hw:∀ w∈ws,0≤w∧w≤6) {rule:Int} {path:List Int} {p q:Pn} (hp:p.wd ws 8≠0) (hf:p.fit db=true) (h:apI ws rule path p=some q):q.evP db=p.evP db∧q.fit db=true∧q.wd ws 8≠0:=by
 have hw8:=AST hw hp (by rw[← AMP hw hp];exact h);have hq8:q.wd ws 8≠0:=by rw[hw8];exact hp
 unfold apI at h;split at h
 ·rename_i hl
  cases ha:Pn.at path p with
  | none=>simp[ha]at h
  | some a =>
   obtain⟨-,hv⟩:=NG path p 8 a hp ha;simp only[ha,yJ,rwL]at h
   cases hr:rwP ws rule a with
   | none=>simp[hr]at h
   | some x =>
    have h8:a.wd ws 8≠0:=by rw[Pn.gZ a _ 8 hv (by omega)];exact hv
    simp only[hr,yJ]at h;by_cases hq:x.wd ws (8-path.length)=0
    ·simp[hq]at h
    ·simp only[hq,ne_eq,zC0,if_true,yI,Option.some.injEq]at h;subst h
     have hfa:∀ (path:List Int) (p:Pn),Pn.at path p=some a→p.fit db=true→a.fit db=true:=by
      intro path
      induction path with
      | nil=>intro p e hf;simp[Pn.at]at e;subst e;exact hf
      | cons i r ih =>
       intro p e hf;obtain⟨n,rfl,b,hb,hr⟩:=Pn.pQ e;exact ih b hr (((Pn.rC db p).1 hf).2 b (zV hb))
     obtain⟨e1,e2⟩:=AYS hws hdb hw (nL hv) h8 hr (nL hq) (hfa path p ha hf);obtain⟨e3,e4⟩:=ART e1 e2 path p ha hf;exact⟨e3,e4,hq8⟩
 ·cases h
end Go.Av
namespace Go.Proofs.YtnmimmaahhlgeaaGreat.P
open Go Go.Av G
set_option maxRecDepth 4000
set_option maxHeartbeats 8000000
noncomputable def AJN:FuncId→Option (List AV→StL→Option (AV×StL))
 | 1000000007=>none
 | 5=>none
 | 4=>none
 | 3=>none
 | 17=>none
 | 9=>some EQ
 | 16=>some (aH CA 16)
 | g=>some (aH CE g)
noncomputable def CW:Ctx:={ P:=Tryz.prog,G:=GS,ownArgs:=ownE,keepRes:=APC,eqT:=MU,prim:=AJN }
@[simp] theorem Aw8:CW.P=Tryz.prog:=(rfl)
@[simp] theorem Aw9 (f):CW.G f=GS f:=(rfl)
@[simp] theorem Aw5 (f):CW.ownArgs f=ownE f:=(rfl)
@[simp] theorem Aw6 (f):CW.keepRes f=(keepR f || decide (f=80)):=(rfl)
@[simp] theorem Aw7 (f):CW.eqT f=MU f:=(rfl)
@[simp] theorem Aw4:CW.tree=false:=(rfl)
theorem AZB:PrimOk CW:=by
 have hA:=bH ATV;have hE:=bH AYQ;constructor
 ·intro g args st p h;unfold dH at h
  cases hq:CW.prim g with
  | none=>rw[hq]at h;cases h
  | some q =>
   rw[hq]at h;have hq:AJN g=some q:=hq;unfold AJN at hq;split at hq
   all_goals first
    | (cases hq;done)
    | (injection hq with hq;subst hq;exact NI h)
    | (injection hq with hq;subst hq;exact hA.name _ _ _ _ (by decide) h)
    | (injection hq with hq;subst hq;exact hE.name _ _ _ _ (by assumption) h)
 ·intro g args st r st' h w m φ vs hi hr hb;unfold dH at h
  cases hq:CW.prim g with
  | none=>rw[hq]at h;cases h
  | some q =>
   rw[hq]at h;have hq:AJN g=some q:=hq;unfold AJN at hq;split at hq
   all_goals first
    | (cases hq;done)
    | (injection hq with hq;subst hq;exact IR h w m φ vs hi hr hb)
    | (injection hq with hq;subst hq;exact hA.calls _ _ _ _ _ (by decide) h w m φ vs hi hr hb)
    | (injection hq with hq;subst hq;exact hE.calls _ _ _ _ _ (by assumption) h w m φ vs hi hr hb)
theorem AYO:SoundOk CW:=mO (C:=CW) ft nt eqS mo AZB
theorem YE (p:Pn) (ws:List Int) (r:Int) (path:List Int):aH CW 9 [.i (.agg p.cells), .i (.isl (aG ws)), .i (.agg [.int r, .isl (aG path)])] []=some (apR (apO p ws r path)):=by rw[aN (p:=EQ) rfl];exact AMO p ws r path
@[simp] theorem AVP (a:List AV) (st:StL):aH CW 11 a st=aH CE 11 a st:=by rw[aN (p:=aH CE 11) rfl]
@[simp] theorem ASC (a:List AV) (st:StL):aH CW 14 a st=aH C0 14 a st:=by rw[aN (p:=aH CE 14) rfl,YO]
@[simp] theorem AN9 (a:List AV) (st:StL):aH CW 15 a st=aH C0 15 a st:=by rw[aN (p:=aH CE 15) rfl,OD]
@[simp] theorem ASE (a:List AV) (st:StL):aH CW 10 a st=aH C0 10 a st:=by rw[aN (p:=aH CE 10) rfl,YR]
@[simp] theorem AHQ (a:List AV) (st:StL):aH CW 20 a st=aH CE 20 a st:=by rw[aN (p:=aH CE 20) rfl]
@[simp] theorem ASD (a:List AV) (st:StL):aH CW 21 a st=aH C0 21 a st:=by rw[aN (p:=aH CE 21) rfl,YQ]
theorem AXZ {db:List Tbl} (hok:∀ t∈db,t.ok=true):∀ w∈db.map Tbl.w,0≤w∧w≤6:=fun w hw=>by
 obtain⟨t,ht,rfl⟩:=zG.1 hw;have:=(d9 _).1 ((Tbl.dN t).1 (hok t ht)).1;omega
theorem AaU {p q:Pn} {db:List Tbl} {r:Int} {path:List Int} (hD:EvD p db) (hf:p.fit db=true) (h:apO p (db.map Tbl.w) r path=some q):EvD q db∧q.evP db=p.evP db∧q.fit db=true:=by
 unfold apO at h;rw[hD.width,if_neg hD.wd]at h;obtain⟨h1,h2,h3⟩:=AaV rfl hD.ok (AXZ hD.ok) hD.wd hf h;exact⟨⟨hD.ok,hD.ws,h3⟩,h1,h2⟩
@[simp] theorem ASB (a:List AV) (st:StL):aH CW 24 a st=aH C0 24 a st:=by
  rw[aN (p:=aH CE 24) rfl,aN (p:=aH CR 24) rfl,aN (p:=aH C0 24) rfl]
@[simp] theorem AVO (a:List AV) (st:StL):aH CW 33 a st=aH CR 33 a st:=by
  rw[aN (p:=aH CE 33) rfl,aN (p:=aH CR 33) rfl]
@[simp] theorem AQ1 (a:List AV) (st:StL):aH CW 18 a st=aH C0 18 a st:=by
  rw[aN (p:=aH CE 18) rfl,aN (p:=aH CR 18) rfl,aN (p:=aH C0 18) rfl]
@[simp] theorem AQ2 (a:List AV) (st:StL):aH CW 19 a st=aH C0 19 a st:=by
  rw[aN (p:=aH CE 19) rfl,aN (p:=aH CR 19) rfl,aN (p:=aH C0 19) rfl]
theorem OC (code:List UInt8):∃ (P:Pn) (db:List Tbl) (r:Int) (path:List Int),aH CW 17 [.i (.isl (fG code))] []=some (.tup [.i (.agg P.cells), .i (.isl (jL db)), .i (.agg [.int r, .isl (aG path)])],[])∧Drn P db∧path.length≤8:=by
 obtain⟨c,hc,hr⟩:=X0 code;obtain⟨P,db,p',h,h1,h2,h3,h4,h5,h6⟩:=FE hc;have hw:=GQ db (by omega) (fun t ht=>(h4 t ht).1);obtain⟨r,path,p2,hs,hpl,-,-⟩:=ZZ hc h1 (ws:=if db.all Tbl.ok=true then db.map Tbl.w else []) (by split<;>simp;omega) p' h5 (by omega);refine⟨P,db,r,path,?_,⟨h1,h2,h3,fun t ht=>(h4 t ht).1,fun t ht=>(h4 t ht).2⟩,hpl⟩;generalize (if db.all Tbl.ok=true then db.map Tbl.w else [])=ws at hw hs;rw[aD rfl Tryz.func17 rfl rfl];rw[Pn.aA P]at *
 simp[hr,h,hw,hs]
theorem VM (p:Pn) (hp:p.thin) (db:List Tbl) (hl:db.length<1000000) (hs:∀ t∈db,t.small) (h:J3 p db=false):aH C0 14 [.i (.agg p.cells), .i (.isl (jL db))] []=some (.tup [.i (.agg [.int 0, .isl []]), .bool false],[]):=by
 have c1:=GQ db hl hs;have c2:=EY p (Pn.wP p hp) (if db.all Tbl.ok=true then db.map Tbl.w else []) (by split<;>simp;omega)
 have hz:p.width (if db.all Tbl.ok=true then db.map Tbl.w else [])=0:=by
  split
  ·rename_i ha;unfold J3 at h;rw[ha,zB8]at h;simpa using h
  ·unfold Pn.width;rw[if_neg (by simp[lZ])]
 rw[hz]at c2;rw[aD rfl Tryz.func14 rfl rfl];generalize (if db.all Tbl.ok=true then db.map Tbl.w else [])=ws at *
 rw[Pn.aA p]at c2 ⊢;simp[c1,c2]
theorem SY (code:List UInt8):aH CW 5 [.i (.isl (fG code))] []=some (.bool true,[]):=by
 rw[aD rfl Tryz.func5 rfl rfl];by_cases hl:(1048576:Int)<code.length
 ·simp[fQ,hl]
 obtain⟨p,db,r,path,hd,hp,hpl⟩:=OC code;have e1:=NN p db hp.small hp.fit
 cases hev:J3 p db with
 | false =>
  have e2:=VM p hp.thin db (by have:=hp.len;omega) hp.small hev;simp only[hev,z8,if_false]at e1;rw[Pn.aA p]at *
  simp[fQ,hl,hd,e1,e2]
 | true =>
  have hD:=TL.1 hev;obtain⟨g1,g2⟩:=hD.good;have e3:=AVM g1;simp only[hev,if_true]at e1;have e5:=XA db (by have:=hp.len;omega);have a1:=YE p (db.map Tbl.w) r path;have a2:=RN p hp.thin (db.map Tbl.w) (by have:=hp.len;simp;omega) r path (by omega)
  cases h1:apO p (db.map Tbl.w) r path with
  | none =>
   rw[h1]at a1 a2;have a5:=EL Pn.zero Pn.JG Pn.zero;rw[Pn.ADC]at a5;rw[Pn.aA p]at *
   simp[apR,Pn.zero,Pn.cells,Ex.aB,aG,Pn.aB]at a1 a2 a5;simp[fQ,hl,hd,e1,e5,a1,a2,a5]
  | some q =>
   rw[h1]at a1 a2;obtain⟨hq,-,-⟩:=AQQ h1;have a5:=EL q hq q;rw[Pn.ADC]at a5;obtain⟨k1,k2,k3⟩:=AaU hD (hp.fit hev) h1;have e7:=NN q db hp.small (fun _=>k3);rw[TL.2 k1,if_pos rfl,k2]at e7;rw[Pn.aA q]at e7 a5;rw[Pn.aA p]at *
   simp[apR,Pn.aA q]at a1 a2;generalize p.evP db=t at *
   simp[fQ,hl,hd,e1,e3,e5,a1,a2,a5,e7]
end Go.Proofs.YtnmimmaahhlgeaaGreat.P
namespace Go.Av
end Go.Av
namespace Go.Proofs.YtnmimmaahhlgeaaGreat.P
open Go Go.Av G
set_option maxRecDepth 4000
set_option maxHeartbeats 8000000
theorem EvD.J3 {P Q:Pn} {db:List Tbl} (h:EvD P db):J3 Q db=decide (Q.wd (db.map Tbl.w) 8≠0):=by
 unfold Go.Av.J3 Pn.width;rw[if_pos h.ws,zR.2 h.ok];rfl
set_option maxHeartbeats 4000000
theorem BM (a:Option Addr) (len cap:Nat) (zs:List Int) (w:World)
 (h:(a=none∧len=0∧cap=0∧zs=[])∨∃ x,a=some x∧len≤cap∧cap≤maxLen∧zs.length=cap∧(∀ i,i<zs.length→w.cell? (x.add i)=some (.int .u8 (zs.getD i 0)))∧∀ n∈zs,(Lit.int .u8 n).wf=true) :
 Calls Tryz.prog 5 #[.slice a len cap] w fun e w'=>e=.returned (.bool true)∧RowKit.Below w.heap.size w w':=by
 obtain⟨code,hc⟩:=AM7 h;exact AGX AYO (.cons (.i hc) .nil) (SY code)
end Go.Proofs.YtnmimmaahhlgeaaGreat.P
namespace Go.Proofs.YtnmimmaahhlgeaaGreat.io
open Go
set_option maxRecDepth 100000
abbrev chs (l:List Nat):List Char:=l.map Char.ofNat
def w0:List Nat:=[104,97,114,110,101,115,115]
def w1:List Nat:=[48,54,53,49,98,57,56,101,54,51,57,57,102,52,54,48,53,49,55,55,102,48,53,98,55,54,49,97,102,56,54,53,53,48,50,51,101,97,53,57,
 48,54,99,48,57,100,54,53,56,51,99,98,102,54,48,54,100,48,97,49,51,99,97,48]
def w2:List Nat:=[99,117,116]
def others:List Nat:=[
 97,116,32,108,111,111,112,46,101,120,97,109,112,108,101,47,113,117,101,114,121,111,112,116,105,109,105,122,101,114,47,108,97,119,115,46,70,110,80,117,
 115,104,67,111,115,116,32,108,111,111,112,46,101,120,97,109,112,108,101,47,113,117,101,114,121,111,112,116,105,109,105,122,101,114,47,108,97,119,115,46,
 70,110,78,111,114,109,97,108,105,122,101,100,82,101,115,117,108,116,32,108,111,111,112,46,101,120,97,109,112,108,101,47,113,117,101,114,121,111,112,116,
 105,109,105,122,101,114,47,108,97,119,115,46,70,110,65,112,112,108,121,83,116,101,112]
theorem order:Tryz.pinned.checked.prog.initOrder=String.ofList (chs w0++Char.ofNat 32::(chs w1++Char.ofNat 32::(chs w2++Char.ofNat 32::chs others))):=by kernel_rfl
theorem word:∀ (w r:List Char),(w.all fun c=>decide (c≠Char.ofNat 32))=true→wordsSigns (w++Char.ofNat 32::r)=w::wordsSigns r
 | [],r,_=>rfl
 | c::w,r,h=>by
  simp only[zE0,zU,zS]at h;have ih:=word w r h.2;rw[yR,wordsSigns,ih];intro e;exact h.1 e
theorem words:wordsSigns Tryz.pinned.checked.prog.initOrder.toList=chs w0::chs w1::chs w2::wordsSigns (chs others):=by
 rw[order,String.toList_ofList,word _ _ (by decide),word _ _ (by decide),word _ _ (by decide)]
theorem OZ (c:List Char) (r:List (List Char)):∀ l:List String,(l.all fun o=>!(c == o.toList))=true→stripLifts l (c::r)=([],c::r)
 | [],_=>rfl
 | o::l,h=>by
  simp only[zE0,zU,Bool.not_eq_true']at h;have ih:=OZ c r l h.2;rw[stripLifts,h.1];exact ih
theorem behind (a b c:List Char) (r:List (List Char)) (ha:a= "harness".toList) (hb:isSumSigns b=true):behindMainWord (a::b::c::r)=c::r:=by
 show(if((a == "harness".toList || a == "ownmain".toList) && isSumSigns b)=true then c::r else a::b::c::r)=c::r;rw[if_pos (by rw[hb,ha];simp)]
theorem enters_of (P:Program) (c:List Char) (r:List (List Char)) (h:behindMainWord (wordsSigns P.initOrder.toList)=c::r) (hc:c= "cut".toList) (hs:stripLifts liftWords (c::r)=([],c::r)) (l1:P.laysLater=false) (l2:P.bearsReflect=false) (l3:P.doorFits []=true):P.mayEnter=true:=by
 unfold Program.mayEnter;rw[h];simp only[hs,l1,l2,l3];simp[hc]
theorem APA (P:Program) (c:List Char) (r:List (List Char)) (h:behindMainWord (wordsSigns P.initOrder.toList)=c::r) (hc:c= "cut".toList) (hs:stripLifts liftWords (c::r)=([],c::r)):P.liftsFinal=false:=by
 unfold Program.liftsFinal Program.headLifts;rw[h];simp only[hs];simp[hc]
theorem AP3 (P:Program) (c:List Char) (r:List (List Char)) (h:behindMainWord (wordsSigns P.initOrder.toList)=c::r) (hc:c= "cut".toList):P.make=some .cut:=by
 unfold Program.make;rw[h];simp[hc]
theorem front:behindMainWord (wordsSigns Tryz.pinned.checked.prog.initOrder.toList)=chs w2::wordsSigns (chs others):=by
 rw[words,behind _ _ _ _ (by decide +kernel) (by decide +kernel)]
theorem AdL:chs w2= "cut".toList:=by decide +kernel
theorem strips (r:List (List Char)):stripLifts liftWords (chs w2::r)=([],chs w2::r):=OZ _ _ _ (by decide +kernel)
theorem enters:Tryz.pinned.checked.prog.mayEnter=true:=enters_of _ _ _ front AdL (strips _) (by kernel_rfl) (by kernel_rfl) (by kernel_rfl)
theorem lifts:Tryz.pinned.checked.prog.liftsFinal=false:=APA _ _ _ front AdL (strips _)
theorem makes:Tryz.pinned.checked.prog.make=some .cut:=AP3 _ _ _ front AdL
theorem laid:laidOutB Tryz.pinned.checked.prog=true:=by kernel_rfl
theorem AcK:mapsRowed Tryz.pinned.checked.prog=true:=by kernel_rfl
theorem AUJ:Tryz.pinned.checked.prog.stops=[]:=by kernel_rfl
theorem AUK:Tryz.pinned.checked.prog.stopKnobs=[]:=by kernel_rfl
theorem plain:Tryz.pinned.checked.prog.plainKeys=true:=by kernel_rfl
theorem heard:Tryz.pinned.checked.prog.stopsHeard=true:=by kernel_rfl
theorem CF {a b:Bool} (h:a=true) (k:b=true):(a && b)=true:=by rw[h,k];rfl
end Go.Proofs.YtnmimmaahhlgeaaGreat.io

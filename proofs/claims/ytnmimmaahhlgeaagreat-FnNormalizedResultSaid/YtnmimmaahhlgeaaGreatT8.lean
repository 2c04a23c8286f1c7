/- Part 8 of what the proof rests on: the executor and what it is worth, and the program's functions as it runs them. No condition. -/
import Derived.Test.YtnmimmaahhlgeaaGreatT7
import Derived.Test.YtnmimmaahhlgeaaGreatRows
import Derived.WalkKit
import Derived.ProofKit
import Derived.Below
import Derived.JoinedOf
set_option linter.unusedVariables false
set_option linter.unusedSimpArgs false
namespace Go.Proofs.YtnmimmaahhlgeaaGreat.P
open Go Go.Av G
set_option maxRecDepth 4000
set_option maxHeartbeats 8000000
def itB (R:Rng) (cs:List AV) (w:Int) (bx:StL) (rows:List (List Val)) (out:List Val):StL :=
 some (.loop R cs .ready)::some (.box [.int w])::some (.box [.int 0, .nils])::some (.box [gro (4+bx.length) 1 rows.length])::(bx++(vN 1 (aJ rows) rows.length++[some (.arr 2 (aO out))]))
def oId (b:Nat) (rows:List (List Val)):Nat:=if rows.length=0 then b else b+1
theorem OH (n:Nat) (v:Val):aO (List.replicate n v)=List.replicate n [.bool v.null, .int v.n]:=by
 induction n with
 | zero=>rfl
 | succ n ih=>simp[xO,aO,ih]
theorem AP1 {es:List Ex} {O x:List Val} {j:Nat} {e:Ex} (h:es[j]?=some e) (hO:O.length=es.length):((es.map (Ex.ev x)).take j++O.drop j).set j (e.ev x)=(es.map (Ex.ev x)).take (j+1)++O.drop (j+1)∧∃ o,((es.map (Ex.ev x)).take j++O.drop j)[j]?=some o:=by
 have hj:=(zY.1 h).1;have hd:O.drop j=O[j]'(by omega)::O.drop (j+1):=y8 (by omega);rw[← zG0,← zG0];have hl:((es.take j).map (Ex.ev x)).length=j:=by simp;omega
 rw[hd];refine⟨?_,_,kE _ _ _ hl.symm⟩;rw[set_mid _ _ _ _ hl.symm,aP h];simp
def PLX (R:Rng) (cs:List AV) (w:Int) (t:Tbl) (p:Pn) (i:Nat) (O:List Val) (x6 x7:IV) (g:AV):AS :=
 { env:=[(0, .fn (.yield 0) [.own 0 0]),(1, .own 4 0),(2, .own 5 0),(4, .osl (oId 6 (t.rows.take i)) 2 0 p.exprs.length),(6,jk i x6),(7,jk i x7),(15, .i (.isl (aJ t.rows))),(16, .int t.rows.length),(17, .int i),(18,g),(25,jk i (.int p.exprs.length)),(26,jk i (.int p.exprs.length)),(27,jk i (.bool false)),(44,jk i (.bool false))],
   st:=itB R cs w [some (.box [.i (.iref p.cells)]),some (.box [.i (.int t.w), .i (.isl (aJ t.rows))])] ((t.rows.take i).map fun r=>p.exprs.map (Ex.ev r)) O }
def PIX (R:Rng) (cs:List AV) (w:Int) (t:Tbl) (p:Pn) (i:Nat) (x:List Val) (O:List Val) (x7:IV) (j:Nat):AS :=
 { env:=[(0, .fn (.yield 0) [.own 0 0]),(1, .own 4 0),(2, .own 5 0),(4, .osl (oId 6 (t.rows.take i)) 2 0 p.exprs.length),(6, .i (.isl (aO x))),(7,if j=0 then jk i x7 else .int ((j:Int)-1)),(15, .i (.isl (aJ t.rows))),(16, .int t.rows.length),(17, .int i),(18, .bool true),(25, .int p.exprs.length),(26, .int j),(27,if j=0 then jk i (.bool false)else .bool true),(44,jk i (.bool false))],
   st:=itB R cs w [some (.box [.i (.iref p.cells)]),some (.box [.i (.int t.w), .i (.isl (aJ t.rows))])] ((t.rows.take i).map fun r=>p.exprs.map (Ex.ev r)) ((p.exprs.map (Ex.ev x)).take j++O.drop j) }
theorem VO {R:Rng} {cs:List AV} {w:Int} (hY:Yc R cs w) (t:Tbl) (p:Pn) (ht:t.ok=true) (hn:1≤p.exprs.length) (hn2:p.exprs.length<100) (he:∀ e∈p.exprs,e.wf t.w=true) :
 aG CE 141 [.fn (.yield 0) [.own 0 0], .own 4 0, .own 5 0] [some (.loop R cs .ready),some (.box [.int w]),some (.box [.int 0, .nils]),some (.box [.nils]),some (.box [.i (.iref p.cells)]),some (.box [.i (.int t.w), .i (.isl (aJ t.rows))])]=some (.tup [],itO R cs w [some (.box [.i (.iref p.cells)]),some (.box [.i (.int t.w), .i (.isl (aJ t.rows))])] (t.rows.map fun r=>p.exprs.map (Ex.ev r))):=by
 obtain⟨rfl,-,-,c01,c11⟩:=hY;obtain⟨ht1,ht2,ht3,-⟩:=(Tbl.dI t).1 ht;obtain⟨htw1,htw2⟩:=(bW _).1 ht1;have hb:16*(p.exprs.length:Int)≤281474976710656:=by omega
 have hb2:16*p.exprs.length≤281474976710656:=by omega
 have hn0:p.exprs.length≠0:=by omega
 have hn0':p.exprs≠[]:=fun e=>hn0 (by rw[e];rfl)
 rw[aD rfl Tryz.func141 rfl rfl];have hrep:=OH p.exprs.length ⟨false,0⟩;simp only at hrep;have h0:PLX R [.own 1 0, .own 2 0, .own 3 0, .junk, .junk, .junk] w t p 0 (List.replicate p.exprs.length ⟨false,0⟩) (.int 0) (.int 0) .junk=PLX R [.own 1 0, .own 2 0, .own 3 0, .junk, .junk, .junk] w t p 0 (List.replicate p.exprs.length ⟨false,0⟩) (.int 0) (.int 0) .junk:=rfl
 conv at h0=>lhs;simp only[PLX,itB,hrep]
 rw[Pn.aA p]at h0 ⊢;simp[oId]at h0;simp[hb,hb2];rw[h0];rw[← Pn.aA p];clear h0;generalize hX:cK CE _ _ (Code.loop _) _=X
 have key:∃ rr,X=some rr∧∃ (O:List Val) (x6 x7:IV),rr=(.exit 0,PLX R [.own 1 0, .own 2 0, .own 3 0, .junk, .junk, .junk] w t p t.rows.length O x6 x7 (.bool false)):=by
  rw[← hX];refine jI (fun d St=>∃ (i:Nat) (O:List Val) (x6 x7:IV),St=PLX R [.own 1 0, .own 2 0, .own 3 0, .junk, .junk, .junk] w t p i O x6 x7 (jk i (.bool true))∧i≤t.rows.length∧O.length=p.exprs.length∧d=t.rows.length-i) ?_ _ _ ⟨0,_,_,_,rfl,by omega,by simp,rfl⟩;rintro d St ⟨i,O,x6,x7,rfl,hiN,hO,hd⟩;by_cases hi:i<t.rows.length
  ·left
   obtain⟨x,hx⟩:∃ x,t.rows[i]?=some x:=⟨_,zX hi⟩
   have hxn:=bG hx;have hxo:=ht3 x (zV hx);unfold rowOk at hxo;simp only[zU,zR]at hxo;have w3:IntKind.i64.wrap ((i:Int)+1)=i+1:=wrO
   obtain⟨Q0,hQ⟩:∃ Q0:AS→Prop,∀ S1,Q0 S1↔∃ (O':List Val) (x6 x7:IV),S1=PLX R [.own 1 0, .own 2 0, .own 3 0, .junk, .junk, .junk] w t p (i+1) O' x6 x7 (.bool true)∧O'.length=p.exprs.length:=⟨fun S1=>_,fun S1=>Iff.rfl⟩
   refine uR Q0 ?_ (fun S1 hS1=>by
    obtain⟨O',x6,x7,rfl,e1⟩:=(hQ S1).1 hS1
    exact⟨t.rows.length-(i+1),by omega,i+1,O',x6,x7,rfl,by omega,e1,rfl⟩)
   simp only[PLX,itB,oId];rw[Pn.aA p];have htk:(t.rows.take i).length=i:=by simp;omega
   have wj:∀ j:Nat,j<100→IntKind.i64.wrap ((j:Int)+1)=j+1:=fun j hj=>wrO
   have inner:∀ j,j<p.exprs.length→∃ e o,p.exprs[j]?=some e∧fO (Ex.aB p.exprs) j=some e.cells∧NZ (aG C0) 140 [.i (.iref e.cells), .i (.isl (aO x))] []=some (.i (.agg [.bool (e.ev x).null, .int (e.ev x).n]),[])∧fO (aO ((p.exprs.map (Ex.ev x)).take j++O.drop j)) j=some [.bool (Val.null o), .int (Val.n o)]∧(aO ((p.exprs.map (Ex.ev x)).take j++O.drop j)).set j [.bool (e.ev x).null, .int (e.ev x).n]=aO ((p.exprs.map (Ex.ev x)).take (j+1)++O.drop (j+1)):=by
    intro j hj;have h3:=zX hj;obtain⟨q1,o,q2⟩:=AP1 (x:=x) h3 hO;exact⟨_,o,h3,Ex.aV h3,L9 (w:=t.w) hxo.1.symm hxo.2 (he _ (zV h3)),bS q2,by rw[CZ,q1]⟩
   have hT:(t.rows.take (i+1)).map (fun r=>p.exprs.map (Ex.ev r))=(t.rows.take i).map (fun r=>p.exprs.map (Ex.ev r))++[p.exprs.map (Ex.ev x)]:=by rw[aP hx,yI];rfl
   have hTl:(t.rows.take (i+1)).length=i+1:=by simp;omega
   have hmin:min i t.rows.length=i:=by omega
   have hmin2:min (i+1) t.rows.length=i+1:=by omega
   have htk2:(p.exprs.map (Ex.ev x)).take p.exprs.length=p.exprs.map (Ex.ev x):=zZ (by simp);have hdr:O.drop p.exprs.length=[]:=xP (by omega);have hr0:p.exprs.map (Ex.ev x)≠[]:=by simpa using hn0'
   by_cases hz:i=0
   ·have hy:=c01 (p.exprs.map (Ex.ev x)) hr0 (by simp;omega);simp at hy;subst hz;simp at hT;simp[hi,hxn];rw[aS (PIX R [.own 1 0, .own 2 0, .own 3 0, .junk, .junk, .junk] w t p 0 x O x7) p.exprs.length (by simp[PIX,itB,oId,Pn.aA p])]
    ·rw[aF];simp[PIX,itB,oId,Pn.aA p,htk2,hdr,hy,hn0,bD];rw[hQ];refine⟨p.exprs.map (Ex.ev x), .isl (aO x), .int ((p.exprs.length:Int)-1),?_,by simp⟩;simp[PLX,itB,oId,Pn.aA p,hT,hmin2,bB,aR]
    ·intro j hj;obtain⟨e,o,q1,q2,q3,q4,q5⟩:=inner j hj;have wjj:=wj j (by omega);rw[Ex.aA e]at q2 q3;by_cases hj0:j=0
     ·subst hj0;simp at q4 q5;simp[PIX,itB,oId,Pn.aA p,hj,q2,q3,q4,q5,bD]
     ·simp[PIX,itB,oId,Pn.aA p,hj,q2,q3,q4,q5,wjj,hj0]
   ·have hy:=c11 (p.exprs.map (Ex.ev x)) i ((t.rows.take i).map fun r=>p.exprs.map (Ex.ev r)) hr0 (by simp;omega) (by simp;omega) hz (by omega);simp[zG0]at hy hT;simp[hi,hxn,hz,hmin,aM hz,aI hz,dR hz];rw[aS (PIX R [.own 1 0, .own 2 0, .own 3 0, .junk, .junk, .junk] w t p i x O x7) p.exprs.length (by simp[PIX,itB,oId,Pn.aA p,hz,hmin,aM hz,aI hz,dR hz])]
    ·rw[aF];simp[PIX,itB,oId,Pn.aA p,htk2,hdr,hy,hn0,w3,hz,hmin,aM hz,aI hz,dR hz];rw[hQ];refine⟨p.exprs.map (Ex.ev x), .isl (aO x), .int ((p.exprs.length:Int)-1),?_,by simp⟩;simp[PLX,itB,oId,Pn.aA p,hT,hmin,hmin2,bC,bB,aR]
    ·intro j hj;obtain⟨e,o,q1,q2,q3,q4,q5⟩:=inner j hj;have wjj:=wj j (by omega);rw[Ex.aA e]at q2 q3;by_cases hj0:j=0
     ·subst hj0;simp at q4 q5;simp[PIX,itB,oId,Pn.aA p,hj,q2,q3,q4,q5,bD,hz,hmin,aM hz,aI hz,dR hz]
     ·simp[PIX,itB,oId,Pn.aA p,hj,q2,q3,q4,q5,wjj,hj0,hz,hmin,aM hz,aI hz,dR hz]
  ·right;have hieq:i=t.rows.length:=by omega
   subst hieq;refine⟨.exit 0,PLX R [.own 1 0, .own 2 0, .own 3 0, .junk, .junk, .junk] w t p t.rows.length O x6 x7 (.bool false),?_,by simp,O,x6,x7,rfl⟩;simp only[PLX,itB,oId];rw[Pn.aA p];by_cases hz:t.rows.length=0<;>simp[hz,aM,aI]
 obtain⟨rr,rfl,O,x6,x7,rfl⟩:=key;simp only[PLX,itB,oId,itO];rw[Pn.aA p];by_cases hz:t.rows.length=0<;>simp[hz,aM,aI]
theorem OI:∀ (n:Nat) (l:List Val),(aO l).drop n=aO (l.drop n)
 | 0,l=>rfl
 | n+1,[]=>rfl
 | n+1,v::l=>by simp only[aO,List.drop_succ_cons];exact OI n l
theorem PG (O s:List Val) (k:Nat):over (aO O) k (aO s)=aO (O.take k++(s++O.drop (k+s.length))):=by
 unfold over;rw[OG,OI,G9,gD,gD,zK]
theorem AF9 {O x:List Val} {A:Nat} (h:x.length=A):over (aO O) 0 (aO x)=aO (x++O.drop A):=by
 rw[PG];simp[h]
theorem KQ {O x s:List Val} {A:Nat} (h:x.length=A) (hO:O.length≤s.length):over (aO (x++O)) A (aO s)=aO (x++s):=by
 rw[PG,← h,zB0,xP (by simp;omega),y9]
theorem AC6 {O x:List Val} {A B j:Nat} (h:x.length=A) (hO:O.length=B) (hj:j<B):(x++(List.replicate j (⟨true,0⟩:Val)++O.drop j)).set (A+j) ⟨true,0⟩=x++(List.replicate (j+1) (⟨true,0⟩:Val)++O.drop (j+1))∧∃ o,(x++(List.replicate j (⟨true,0⟩:Val)++O.drop j))[A+j]?=some o:=by
 have hd:O.drop j=O[j]'(by omega)::O.drop (j+1):=y8 (by omega);have e:x++(List.replicate j (⟨true,0⟩:Val)++O.drop j)=(x++List.replicate j ⟨true,0⟩)++(O[j]'(by omega)::O.drop (j+1)):=by rw[hd,zK]
 have hl:A+j=(x++List.replicate j (⟨true,0⟩:Val)).length:=by simp;omega
 rw[e];refine⟨?_,_,kE _ _ _ hl⟩;rw[set_mid _ _ _ _ hl,List.replicate_succ'];simp
def jf (f:Nat→Nat×IV) (t:Nat):AV:=jk (f t).1 (f t).2
def JX (R:Rng) (cs:List AV) (w:Int) (a b:Tbl) (p:Pn) (W:Nat) (L:List (List Val)) (O:List Val) (i:Int) (f:Nat→Nat×IV):AS :=
 { env:=[(0, .fn (.yield 0) [.own 0 0]),(1, .own 4 0),(2, .own 5 0),(3, .own 6 0),(5, .osl (oId 7 L) 2 0 W),(7,jf f 7),(8,jf f 8),(10,jf f 10),(11,jf f 11),(19, .i (.isl (aJ a.rows))),(20, .int a.rows.length),(21, .int i),(22,jf f 22),(29,jf f 29),(30,jf f 30),(31,jf f 31),(32,jf f 32),(49,jf f 49),(53,jf f 53),(62,jf f 62),(68,jf f 68),(78,jf f 78)],
   st:=itB R cs w [some (.box [.i (.int a.w), .i (.isl (aJ a.rows))]),some (.box [.i (.int b.w), .i (.isl (aJ b.rows))]),some (.box [.i (.iref p.cells)])] L O }
@[simp] theorem AdI (a:List AV) (st:StL):aG CE 143 a st=aG C0 143 a st:=by
  rw[aN (p:=aG CR 143) rfl,aN (p:=aG C0 143) rfl]
theorem KT:aG C0 143 [] []=some (.i (.agg [.bool true, .int 0]),[]):=by
 rw[aD rfl Tryz.func143 rfl rfl];simp
def NX (R:Rng) (cs:List AV) (w:Int) (a b:Tbl) (p:Pn) (A B:Nat) (L:List (List Val)) (x O2:List Val) (i:Int) (f:Nat→Nat×IV) (j:Nat):AS :=
 JX R cs w a b p (A+B) L (x++(List.replicate j ⟨true,0⟩++O2.drop j)) i (upd (upd (upd f 62 (1, .bool false)) 11 (1, .int ((A:Int)+j))) 68 (if j=0 then f 68 else(1, .bool true)))
theorem AKC {R:Rng} {cs:List AV} {w:Int} (hY:Yc R cs w) (a b:Tbl) (p:Pn) (e:Ex) (hp:p.exprs[0]?=some e) (hk:p.kind=4∨p.kind=5) (ha:a.ok=true) (hb:b.ok=true) (he:e.wf (a.w+b.w)=true) (hN:(dX e (decide (p.kind=5)) a b).length≤400) :
 aG CE 142 [.fn (.yield 0) [.own 0 0], .own 4 0, .own 5 0, .own 6 0] [some (.loop R cs .ready),some (.box [.int w]),some (.box [.int 0, .nils]),some (.box [.nils]),some (.box [.i (.int a.w), .i (.isl (aJ a.rows))]),some (.box [.i (.int b.w), .i (.isl (aJ b.rows))]),some (.box [.i (.iref p.cells)])]=some (.tup [],itO R cs w [some (.box [.i (.int a.w), .i (.isl (aJ a.rows))]),some (.box [.i (.int b.w), .i (.isl (aJ b.rows))]),some (.box [.i (.iref p.cells)])] (dX e (decide (p.kind=5)) a b)):=by
 obtain⟨rfl,-,-,c01,c11⟩:=hY;obtain⟨ha1,ha2,ha3,-⟩:=(Tbl.dI a).1 ha;obtain⟨haw1,haw2⟩:=(bW _).1 ha1;obtain⟨hb1,hb2,hb3,-⟩:=(Tbl.dI b).1 hb;obtain⟨hbw1,hbw2⟩:=(bW _).1 hb1
 obtain⟨A,hA⟩:∃ A:Nat,a.w=A:=⟨a.w.toNat,by omega⟩
 obtain⟨B,hB⟩:∃ B:Nat,b.w=B:=⟨b.w.toNat,by omega⟩
 have hen:=Ex.aV hp;have hel:0<p.exprs.length:=(zY.1 hp).1;have wAB:IntKind.i64.wrap ((A:Int)+B)=((A+B:Nat):Int):=by rw[wrO];omega
 have hbb:16*((A+B:Nat):Int)≤281474976710656:=by omega
 have hbb2:16*(A+B)≤281474976710656:=by omega
 have hbb3:16*((A:Int)+B)≤281474976710656:=by omega
 have hpos:(0:Int)≤(A:Int)+B:=by omega
 have htn:((A:Int)+B).toNat=A+B:=by omega
 have hAB:(A:Int)≤(A:Int)+B:=by omega
 have hrep:=OH (A+B) ⟨false,0⟩;simp only at hrep;rw[aD rfl Tryz.func142 rfl rfl];rw[Pn.aA p];simp[hA,hB,wAB,hbb,hbb2,hbb3,hpos,htn];generalize hX:cK CE _ _ (Code.loop _) _=X
 have hJl:∀ i x,a.rows[i]?=some x→(a.rows.take (i+1)).flatMap (joinL e (decide (p.kind=5)) b.w b.rows)=(a.rows.take i).flatMap (joinL e (decide (p.kind=5)) b.w b.rows)++joinL e (decide (p.kind=5)) b.w b.rows x∧((a.rows.take i).flatMap (joinL e (decide (p.kind=5)) b.w b.rows)).length+(joinL e (decide (p.kind=5)) b.w b.rows x).length≤400:=by
  intro i x hx;have h1:(a.rows.take (i+1)).flatMap (joinL e (decide (p.kind=5)) b.w b.rows)=(a.rows.take i).flatMap (joinL e (decide (p.kind=5)) b.w b.rows)++joinL e (decide (p.kind=5)) b.w b.rows x:=by rw[aP hx];simp
  refine⟨h1,?_⟩
  have h2:dX e (decide (p.kind=5)) a b=(a.rows.take (i+1)).flatMap (joinL e (decide (p.kind=5)) b.w b.rows)++(a.rows.drop (i+1)).flatMap (joinL e (decide (p.kind=5)) b.w b.rows):=by
   rw[← List.flatMap_append,zA];rfl
  rw[h2,h1]at hN;simp only[zQ]at hN;omega
 have hfin:(a.rows.take a.rows.length).flatMap (joinL e (decide (p.kind=5)) b.w b.rows)=dX e (decide (p.kind=5)) a b:=by rw[zZ (zL _)];rfl
 have key:∃ rr,X=some rr∧∃ (O:List Val) (f:Nat→Nat×IV),f 22=(1, .bool false)∧rr=(.exit 0,JX R [.own 1 0, .own 2 0, .own 3 0, .junk, .junk, .junk] w a b p (A+B) (dX e (decide (p.kind=5)) a b) O a.rows.length f):=by
  rw[← hX];clear hX;refine jI (fun d St=>∃ (i:Nat) (O:List Val) (f:Nat→Nat×IV),St=JX R [.own 1 0, .own 2 0, .own 3 0, .junk, .junk, .junk] w a b p (A+B) ((a.rows.take i).flatMap (joinL e (decide (p.kind=5)) b.w b.rows)) O i f∧i≤a.rows.length∧O.length=A+B∧d=a.rows.length-i) ?_ _ _ ⟨0,List.replicate (A+B) ⟨false,0⟩,fun _=>(0, .int 0),by simp[JX,jf,itB,oId,hA,hB,hrep,aR,Pn.aA p],by omega,by simp,rfl⟩;rintro d St ⟨i,O,f,rfl,hiN,hO,hd⟩;by_cases hi:i<a.rows.length
  ·left
   obtain⟨x,hx⟩:∃ x,a.rows[i]?=some x:=⟨_,zX hi⟩
   have hxn:=bG hx;have hxo:=ha3 x (zV hx);unfold rowOk at hxo;simp only[zU,zR]at hxo;obtain⟨hJ1,hJ2⟩:=hJl i x hx;have w3:IntKind.i64.wrap ((i:Int)+1)=i+1:=wrO
   obtain⟨Q0,hQ⟩:∃ Q0:AS→Prop,∀ S1,Q0 S1↔∃ (O:List Val) (f:Nat→Nat×IV),S1=JX R [.own 1 0, .own 2 0, .own 3 0, .junk, .junk, .junk] w a b p (A+B) ((a.rows.take (i+1)).flatMap (joinL e (decide (p.kind=5)) b.w b.rows)) O ((i:Int)+1) f∧O.length=A+B:=⟨fun S1=>_,fun S1=>Iff.rfl⟩
   refine uR Q0 ?_ (fun S1 hS1=>by
    obtain⟨O',f',rfl,e1⟩:=(hQ S1).1 hS1
    exact⟨a.rows.length-(i+1),by omega,i+1,O',f',rfl,by omega,e1,rfl⟩)
   rw[hJ1]at hQ;generalize (a.rows.take i).flatMap (joinL e (decide (p.kind=5)) b.w b.rows)=L at *
   have hxl:x.length=A:=by omega
   have hov1:=AF9 (O:=O) hxl;have hxt:List.take (A+B) x=x:=zZ (by omega);have hOl:A+B≤O.length:=by omega
   have htr:=fun r:List Val=>OJ (e.ev r).null (e.ev r).n
   obtain⟨O1,hO1,hO1l⟩:∃ O1,O1=O.drop A∧O1.length=B:=⟨_,rfl,by simp;omega⟩
   rw[← hO1]at hov1;simp only[JX,itB,oId];rw[Pn.aA p]
   have hMp:∀ j:Nat,(dY e (b.rows.take j) x).length≤(joinL e (decide (p.kind=5)) b.w b.rows x).length:=by
    intro j
    have h1:(dY e (b.rows.take j) x).length≤(dY e b.rows x).length:=by
     have:dY e b.rows x=dY e (b.rows.take j) x++dY e (b.rows.drop j) x:=by
      unfold dY;rw[← xS,← yI,zA]
     rw[this,zQ];omega
    refine xW h1 ?_;unfold joinL;split
    ·rename_i hc;simp only[zU,zD8]at hc;rw[hc.2];simp
    ·exact zL _
   have round:∀ {G:List Nat} {na:Nat} {bd:Code} (f0:Nat→Nat×IV) (S0:AS) (h0:S0=JX R [.own 1 0, .own 2 0, .own 3 0, .junk, .junk, .junk] w a b p (A+B) L (x++O1) i f0) (h7:f0 7=(1, .isl (aO x))) (h8:f0 8=(1, .bool false)) (h22:f0 22=(1, .bool true)) (h29:f0 29=(1, .isl (aJ b.rows))) (h30:f0 30=(1, .int b.rows.length)) (h31:f0 31=(1, .int 0))
    (hstep:∀ (j:Nat) (s:List Val) (LL:List (List Val)) (O2:List Val) (f1:Nat→Nat×IV) (m:Bool),b.rows[j]?=some s→s.length=B→s.all Val.ok=true→O2.length=B→LL.length+(if isT e (x++s)=true then 1 else 0)≤400→f1 7=(1, .isl (aO x))→f1 8=(1, .bool m)→f1 22=(1, .bool true)→f1 29=(1, .isl (aJ b.rows))→f1 30=(1, .int b.rows.length)→f1 31=(1, .int j) →
     ∃ f2:Nat→Nat×IV,cK CE G na bd (JX R [.own 1 0, .own 2 0, .own 3 0, .junk, .junk, .junk] w a b p (A+B) LL (x++O2) i f1)=some (.normal,JX R [.own 1 0, .own 2 0, .own 3 0, .junk, .junk, .junk] w a b p (A+B) (LL++if isT e (x++s)=true then [x++s]else []) (x++s) i f2)∧f2 7=(1, .isl (aO x))∧f2 8=(1, .bool (m || isT e (x++s)))∧f2 22=(1, .bool true)∧f2 29=(1, .isl (aJ b.rows))∧f2 30=(1, .int b.rows.length)∧f2 31=(1, .int ((j:Int)+1)))
    (hlast:∀ (LL:List (List Val)) (O2:List Val) (f1:Nat→Nat×IV),f1 7=(1, .isl (aO x))→f1 22=(1, .bool true)→f1 29=(1, .isl (aJ b.rows))→f1 30=(1, .int b.rows.length)→f1 31=(1, .int b.rows.length)→cK CE G na bd (JX R [.own 1 0, .own 2 0, .own 3 0, .junk, .junk, .junk] w a b p (A+B) LL (x++O2) i f1)=some (.exit 2,JX R [.own 1 0, .own 2 0, .own 3 0, .junk, .junk, .junk] w a b p (A+B) LL (x++O2) i (upd f1 32 (1, .bool false)))),
    ∃ rr,cK CE G na (.loop bd) S0=some rr∧∃ (O2:List Val) (f1:Nat→Nat×IV),rr=(.exit 2,JX R [.own 1 0, .own 2 0, .own 3 0, .junk, .junk, .junk] w a b p (A+B) (L++dY e b.rows x) (x++O2) i f1)∧O2.length=B∧f1 7=(1, .isl (aO x))∧f1 8=(1, .bool (decide (dY e b.rows x≠[])))∧f1 22=(1, .bool true):=by
    intro G na bd f0 S0 h0 h7 h8 h22 h29 h30 h31 hstep hlast;subst h0;refine jI (fun d St=>∃ (j:Nat) (O2:List Val) (f1:Nat→Nat×IV),St=JX R [.own 1 0, .own 2 0, .own 3 0, .junk, .junk, .junk] w a b p (A+B) (L++dY e (b.rows.take j) x) (x++O2) i f1∧O2.length=B∧j≤b.rows.length∧f1 7=(1, .isl (aO x))∧f1 8=(1, .bool (decide (dY e (b.rows.take j) x≠[])))∧f1 22=(1, .bool true)∧f1 29=(1, .isl (aJ b.rows))∧f1 30=(1, .int b.rows.length)∧f1 31=(1, .int j)∧d=b.rows.length-j) ?_ _ _ ⟨0,O1,f0,by simp[dY],hO1l,by omega,h7,by simp[h8,dY],h22,h29,h30,h31,rfl⟩;rintro d St ⟨j,O2,f1,rfl,hO2,hjM,g7,g8,g22,g29,g30,g31,hd⟩;by_cases hj:j<b.rows.length
    ·left
     obtain⟨s,hs⟩:∃ s,b.rows[j]?=some s:=⟨_,zX hj⟩
     have hso:=hb3 s (zV hs);unfold rowOk at hso;simp only[zU,zR]at hso;have hsn:=PY (e:=e) hs x;have hlen:=hMp (j+1);rw[hsn]at hlen;simp only[zQ]at hlen
     obtain⟨f2,k1,k7,k8,k22,k29,k30,k31⟩:=hstep j s (L++dY e (b.rows.take j) x) O2 f1 _ hs (by omega) hso.2 hO2 (by
      rw[zQ];have:(if isT e (x++s)=true then [x++s]else []).length=if isT e (x++s)=true then 1 else 0:=by split<;>rfl
      omega) g7 g8 g22 g29 g30 g31
     refine⟨_,b.rows.length-(j+1),k1,by omega,j+1,s,f2,?_,by omega,by omega,k7,?_,k22,k29,k30,by rw[k31];rfl,rfl⟩
     ·rw[hsn,zK]
     ·rw[k8,hsn]
      cases isT e (x++s)<;>simp
    ·right;have hjeq:j=b.rows.length:=by omega
     subst hjeq;rw[zZ (zL _)]at *
     exact⟨_,_,hlast _ _ _ g7 g22 g29 g30 g31,by simp,O2,_,rfl,hO2,by simp[upd,g7],by simp[upd,g8],by simp[upd,g22]⟩
   by_cases hz:L.length=0
   rotate_left
   ·simp[jf,hi,hxn,hov1,hxt,hOl,hz,aM hz,aI hz];generalize hY:cK CE _ _ (Code.loop _) _=Y
    have key2:∃ rr,Y=some rr∧∃ (O2:List Val) (f1:Nat→Nat×IV),rr=(.exit 2,JX R [.own 1 0, .own 2 0, .own 3 0, .junk, .junk, .junk] w a b p (A+B) (L++dY e b.rows x) (x++O2) i f1)∧O2.length=B∧f1 7=(1, .isl (aO x))∧f1 8=(1, .bool (decide (dY e b.rows x≠[])))∧f1 22=(1, .bool true):=by
     rw[← hY];clear hY hQ;refine round (upd (upd (upd (upd (upd (upd f 7 (1, .isl (aO x))) 8 (1, .bool false)) 22 (1, .bool true)) 29 (1, .isl (aJ b.rows))) 30 (1, .int b.rows.length)) 31 (1, .int 0)) _ ?_ (by simp[upd]) (by simp[upd]) (by simp[upd]) (by simp[upd]) (by simp[upd]) (by simp[upd]) ?_ ?_
     ·simp[JX,jf,itB,oId,Pn.aA p,hz,aM,aI]
     ·intro j s LL O2 f1 m hs hsl hso hO2 hLL g7 g8 g22 g29 g30 g31;have hjM:=(zY.1 hs).1;have hsn:=bG hs;have hov2:=KQ (O:=O2) hxl (s:=s) (by omega);have hst:List.take (A+B-A) s=s:=zZ (by omega);have hst':List.take B s=s:=zZ (by omega);have hxsl:(x++s).length=A+B:=by simp;omega
      have hxO:(x++O2).length=A+B:=by simp;omega
      have hxO':x.length+O2.length=A+B:=by omega
      have hxsl':x.length+s.length=A+B:=by omega
      have hxs0:x++s≠[]:=fun e=>by rw[e]at hxsl;simp at hxsl;omega
      have hv:=WQ (e:=e) (row:=x++s) (w:=a.w+b.w) (by rw[hxsl];omega) hxs0 (by rw[zE7,hxo.2,hso];rfl) he;rw[hxsl]at hv;have ht:=htr (x++s);have w4:IntKind.i64.wrap ((j:Int)+1)=j+1:=wrO;rw[Ex.aA e]at hv hen;by_cases hT:isT e (x++s)=true
      ·have htr2:(e.ev (x++s)).tr=2:=by simpa [isT]using hT
       simp only[hT,if_true]at hLL ⊢;generalize (e.ev (x++s))=V at *
       refine⟨upd (upd (upd (upd (upd (upd f1 8 (1, .bool true)) 10 (1, .isl (aO s))) 31 (1, .int ((j:Int)+1))) 32 (1, .bool true)) 49 (1, .bool false)) 53 (1, .bool false),?_,by simp[upd,g7],by simp[upd],by simp[upd,g22],by simp[upd,g29],by simp[upd,g30],by simp[upd]⟩;by_cases hzL:LL.length=0
       ·have hy:=c01 (x++s) hxs0 (by omega);rw[hxsl]at hy;have hLn:LL=[]:=zW.1 hzL;subst hLn;simp[JX,jf,itB,oId,Pn.aA p,g7,g8,g22,g29,g30,g31,hjM,hsn,hA,hAB,hov2,hst,hst',hxO',hen,hel,hv,ht,w4,htr2,hy,bC,bB,aR]
       ·have hy:=c11 (x++s) _ LL hxs0 (by omega) rfl hzL (by omega);rw[hxsl]at hy;simp[JX,jf,itB,oId,Pn.aA p,g7,g8,g22,g29,g30,g31,hjM,hsn,hA,hAB,hov2,hst,hst',hxO',hen,hel,hv,ht,w4,htr2,hy,hzL,aM hzL,aI hzL,bC,bB,aR]
      ·have hT':isT e (x++s)=false:=by simpa using hT
       have htr2:¬ (e.ev (x++s)).tr=2:=by simpa [isT]using hT
       simp only[hT',yY,if_false,y9,Bool.or_false]at hLL ⊢;generalize (e.ev (x++s))=V at *
       refine⟨upd (upd (upd (upd f1 10 (1, .isl (aO s))) 31 (1, .int ((j:Int)+1))) 32 (1, .bool true)) 49 (1, .bool true),?_,by simp[upd,g7],by simp[upd,g8],by simp[upd,g22],by simp[upd,g29],by simp[upd,g30],by simp[upd]⟩;by_cases hzL:LL.length=0
       ·simp[JX,jf,itB,oId,Pn.aA p,g7,g8,g22,g29,g30,g31,hjM,hsn,hA,hAB,hov2,hst,hst',hxO',hen,hel,hv,ht,w4,htr2,hzL]
       ·simp[JX,jf,itB,oId,Pn.aA p,g7,g8,g22,g29,g30,g31,hjM,hsn,hA,hAB,hov2,hst,hst',hxO',hen,hel,hv,ht,w4,htr2,hzL,aM hzL,aI hzL]
     ·intro LL O2 f1 g7 g22 g29 g30 g31;by_cases hzL:LL.length=0
      ·simp[JX,jf,itB,oId,Pn.aA p,g7,g22,g29,g30,g31,hzL]
      ·simp[JX,jf,itB,oId,Pn.aA p,g7,g22,g29,g30,g31,hzL,aM hzL,aI hzL]
    clear hY round;obtain⟨rr,rfl,O2,f1,rfl,hO2,g7,g8,g22⟩:=key2;have hxO:x.length+O2.length=A+B:=by omega
    have hxO2:(x++O2).length=A+B:=by simp;omega
    by_cases hm:dY e b.rows x=[]
    ·by_cases h4:p.kind=4
     ·have hJ0:joinL e (decide (p.kind=5)) b.w b.rows x=[]:=by simp[joinL,h4,hm]
      rw[hJ0]at hQ;simp[JX,jf,itB,oId,Pn.aA p,g7,g8,g22,hm,h4,w3,hz,aM,aI];rw[hQ];refine⟨x++O2,upd f1 62 (1, .bool true),?_,hxO2⟩;simp[JX,jf,itB,oId,Pn.aA p,g7,g8,g22,hm,h4,hz,aM,aI]
     ·have h5:p.kind=5:=hk.resolve_left h4;have hJ0:joinL e (decide (p.kind=5)) b.w b.rows x=[x++List.replicate B ⟨true,0⟩]:=by simp[joinL,h5,hm,gM,hB]
      rw[hJ0]at hQ hJ2;simp only[x8]at hJ2;simp[JX,jf,itB,oId,Pn.aA p,g7,g8,g22,hm,h5,w3,hz,aM,aI,hA];rw[aS (NX R [.own 1 0, .own 2 0, .own 3 0, .junk, .junk, .junk] w a b p A B L x O2 i f1) B (by simp[NX,JX,jf,itB,oId,Pn.aA p,g7,g8,g22,hm,h5,hz,aM,aI,hA])]
      ·rw[aF];have hdr:O2.drop B=[]:=xP (by omega);have hrl:(x++List.replicate B (⟨true,0⟩:Val)).length=A+B:=by simp;omega
       have hr0:x++List.replicate B (⟨true,0⟩:Val)≠[]:=fun e=>by rw[e]at hrl;simp at hrl;omega
       have hB0:B≠0:=by omega
       have nlt:¬ (A:Int)+B<(A:Int)+B:=by omega
       have hy:=c11 (x++List.replicate B ⟨true,0⟩) _ L hr0 (by omega) rfl hz (by omega);rw[hrl]at hy;simp[NX,JX,jf,itB,oId,Pn.aA p,g7,g8,g22,hm,hz,aM,aI,hA,hdr,hy,hB0,nlt,w3];rw[hQ];refine⟨x++List.replicate B ⟨true,0⟩,upd (upd (upd (upd f1 62 (1, .bool false)) 11 (1, .int ((A:Int)+B))) 68 (1, .bool false)) 78 (1, .bool false),?_,hrl⟩;simp[JX,jf,itB,oId,Pn.aA p,g7,g8,g22,hm,hz,aM,aI,hA,bC,bB,aR]
      ·intro j hj;obtain⟨q1,o,q2⟩:=AC6 (O:=O2) hxl hO2 hj;have q3:=bS q2
       have q4:(aO (x++(List.replicate j ⟨true,0⟩++O2.drop j))).set (A+j) [.bool true, .int 0]=aO (x++(List.replicate (j+1) ⟨true,0⟩++O2.drop (j+1))):=by
        have:=CZ (x++(List.replicate j ⟨true,0⟩++O2.drop j)) (A+j) ⟨true,0⟩;simp only at this;rw[this,q1]
       have w5:IntKind.i64.wrap ((A:Int)+j+1)=(A:Int)+(j+1):=by rw[wrO];omega
       have k0:0≤(A:Int)+j:=by omega
       have k1:(A:Int)+j<(A:Int)+B:=by omega
       have k2:((A:Int)+j).toNat=A+j:=by omega
       have k3:A+j<A+B:=by omega
       have w50:IntKind.i64.wrap ((A:Int)+1)=(A:Int)+1:=wrO;by_cases hj0:j=0
       ·subst hj0;simp at q3 q4 k1 k3;have k1:(A:Int)<(A:Int)+B:=by omega
        have k3:A<A+B:=by omega
        simp[NX,JX,jf,itB,oId,Pn.aA p,g7,g8,g22,hm,hz,aM,aI,hA,KT,hj,q3,q4,w50,k1,k3]
        done
       ·simp[NX,JX,jf,itB,oId,Pn.aA p,g7,g8,g22,hm,hz,aM,aI,hA,KT,hj,hj0,q3,q4,w5,k0,k1,k2,k3]
        done
    ·have hJ0:joinL e (decide (p.kind=5)) b.w b.rows x=dY e b.rows x:=by
      unfold joinL;rw[if_neg];simp[hm]
     rw[hJ0]at hQ;have hzM:¬ (L++dY e b.rows x).length=0:=fun e=>hm (by have:=zW.1 e;simp at this;exact this.2)
     generalize L++dY e b.rows x=LM at *
     simp[JX,jf,itB,oId,Pn.aA p,g7,g8,g22,hm,w3,hzM,aM hzM,aI hzM];rw[hQ];refine⟨x++O2,upd f1 62 (1, .bool true),?_,hxO2⟩;simp[JX,jf,itB,oId,Pn.aA p,g7,g8,g22,hm,hzM,aM hzM,aI hzM]
   ·simp[jf,hi,hxn,hov1,hxt,hOl,hz];generalize hY:cK CE _ _ (Code.loop _) _=Y
    have key2:∃ rr,Y=some rr∧∃ (O2:List Val) (f1:Nat→Nat×IV),rr=(.exit 2,JX R [.own 1 0, .own 2 0, .own 3 0, .junk, .junk, .junk] w a b p (A+B) (L++dY e b.rows x) (x++O2) i f1)∧O2.length=B∧f1 7=(1, .isl (aO x))∧f1 8=(1, .bool (decide (dY e b.rows x≠[])))∧f1 22=(1, .bool true):=by
     rw[← hY];clear hY hQ;refine round (upd (upd (upd (upd (upd (upd f 7 (1, .isl (aO x))) 8 (1, .bool false)) 22 (1, .bool true)) 29 (1, .isl (aJ b.rows))) 30 (1, .int b.rows.length)) 31 (1, .int 0)) _ ?_ (by simp[upd]) (by simp[upd]) (by simp[upd]) (by simp[upd]) (by simp[upd]) (by simp[upd]) ?_ ?_
     ·simp[JX,jf,itB,oId,Pn.aA p,hz,aM,aI]
     ·intro j s LL O2 f1 m hs hsl hso hO2 hLL g7 g8 g22 g29 g30 g31;have hjM:=(zY.1 hs).1;have hsn:=bG hs;have hov2:=KQ (O:=O2) hxl (s:=s) (by omega);have hst:List.take (A+B-A) s=s:=zZ (by omega);have hst':List.take B s=s:=zZ (by omega);have hxsl:(x++s).length=A+B:=by simp;omega
      have hxO:(x++O2).length=A+B:=by simp;omega
      have hxO':x.length+O2.length=A+B:=by omega
      have hxsl':x.length+s.length=A+B:=by omega
      have hxs0:x++s≠[]:=fun e=>by rw[e]at hxsl;simp at hxsl;omega
      have hv:=WQ (e:=e) (row:=x++s) (w:=a.w+b.w) (by rw[hxsl];omega) hxs0 (by rw[zE7,hxo.2,hso];rfl) he;rw[hxsl]at hv;have ht:=htr (x++s);have w4:IntKind.i64.wrap ((j:Int)+1)=j+1:=wrO;rw[Ex.aA e]at hv hen;by_cases hT:isT e (x++s)=true
      ·have htr2:(e.ev (x++s)).tr=2:=by simpa [isT]using hT
       simp only[hT,if_true]at hLL ⊢;generalize (e.ev (x++s))=V at *
       refine⟨upd (upd (upd (upd (upd (upd f1 8 (1, .bool true)) 10 (1, .isl (aO s))) 31 (1, .int ((j:Int)+1))) 32 (1, .bool true)) 49 (1, .bool false)) 53 (1, .bool false),?_,by simp[upd,g7],by simp[upd],by simp[upd,g22],by simp[upd,g29],by simp[upd,g30],by simp[upd]⟩;by_cases hzL:LL.length=0
       ·have hy:=c01 (x++s) hxs0 (by omega);rw[hxsl]at hy;have hLn:LL=[]:=zW.1 hzL;subst hLn;simp[JX,jf,itB,oId,Pn.aA p,g7,g8,g22,g29,g30,g31,hjM,hsn,hA,hAB,hov2,hst,hst',hxO',hen,hel,hv,ht,w4,htr2,hy,bC,bB,aR]
       ·have hy:=c11 (x++s) _ LL hxs0 (by omega) rfl hzL (by omega);rw[hxsl]at hy;simp[JX,jf,itB,oId,Pn.aA p,g7,g8,g22,g29,g30,g31,hjM,hsn,hA,hAB,hov2,hst,hst',hxO',hen,hel,hv,ht,w4,htr2,hy,hzL,aM hzL,aI hzL,bC,bB,aR]
      ·have hT':isT e (x++s)=false:=by simpa using hT
       have htr2:¬ (e.ev (x++s)).tr=2:=by simpa [isT]using hT
       simp only[hT',yY,if_false,y9,Bool.or_false]at hLL ⊢;generalize (e.ev (x++s))=V at *
       refine⟨upd (upd (upd (upd f1 10 (1, .isl (aO s))) 31 (1, .int ((j:Int)+1))) 32 (1, .bool true)) 49 (1, .bool true),?_,by simp[upd,g7],by simp[upd,g8],by simp[upd,g22],by simp[upd,g29],by simp[upd,g30],by simp[upd]⟩;by_cases hzL:LL.length=0
       ·simp[JX,jf,itB,oId,Pn.aA p,g7,g8,g22,g29,g30,g31,hjM,hsn,hA,hAB,hov2,hst,hst',hxO',hen,hel,hv,ht,w4,htr2,hzL]
       ·simp[JX,jf,itB,oId,Pn.aA p,g7,g8,g22,g29,g30,g31,hjM,hsn,hA,hAB,hov2,hst,hst',hxO',hen,hel,hv,ht,w4,htr2,hzL,aM hzL,aI hzL]
     ·intro LL O2 f1 g7 g22 g29 g30 g31;by_cases hzL:LL.length=0
      ·simp[JX,jf,itB,oId,Pn.aA p,g7,g22,g29,g30,g31,hzL]
      ·simp[JX,jf,itB,oId,Pn.aA p,g7,g22,g29,g30,g31,hzL,aM hzL,aI hzL]
    clear hY round;obtain⟨rr,rfl,O2,f1,rfl,hO2,g7,g8,g22⟩:=key2;have hxO:x.length+O2.length=A+B:=by omega
    have hxO2:(x++O2).length=A+B:=by simp;omega
    by_cases hm:dY e b.rows x=[]
    ·by_cases h4:p.kind=4
     ·have hJ0:joinL e (decide (p.kind=5)) b.w b.rows x=[]:=by simp[joinL,h4,hm]
      rw[hJ0]at hQ;simp[JX,jf,itB,oId,Pn.aA p,g7,g8,g22,hm,h4,w3,hz,aM,aI];rw[hQ];refine⟨x++O2,upd f1 62 (1, .bool true),?_,hxO2⟩;simp[JX,jf,itB,oId,Pn.aA p,g7,g8,g22,hm,h4,hz,aM,aI]
     ·have h5:p.kind=5:=hk.resolve_left h4;have hJ0:joinL e (decide (p.kind=5)) b.w b.rows x=[x++List.replicate B ⟨true,0⟩]:=by simp[joinL,h5,hm,gM,hB]
      rw[hJ0]at hQ hJ2;simp only[x8]at hJ2;simp[JX,jf,itB,oId,Pn.aA p,g7,g8,g22,hm,h5,w3,hz,aM,aI,hA];rw[aS (NX R [.own 1 0, .own 2 0, .own 3 0, .junk, .junk, .junk] w a b p A B L x O2 i f1) B (by simp[NX,JX,jf,itB,oId,Pn.aA p,g7,g8,g22,hm,h5,hz,aM,aI,hA])]
      ·rw[aF];have hdr:O2.drop B=[]:=xP (by omega);have hrl:(x++List.replicate B (⟨true,0⟩:Val)).length=A+B:=by simp;omega
       have hr0:x++List.replicate B (⟨true,0⟩:Val)≠[]:=fun e=>by rw[e]at hrl;simp at hrl;omega
       have hB0:B≠0:=by omega
       have nlt:¬ (A:Int)+B<(A:Int)+B:=by omega
       have hy:=c01 (x++List.replicate B ⟨true,0⟩) hr0 (by omega);rw[hrl]at hy;have hLn:L=[]:=zW.1 hz;rw[hLn]at hQ ⊢;simp[NX,JX,jf,itB,oId,Pn.aA p,g7,g8,g22,hm,hA,hdr,hy,hB0,nlt,w3];rw[hQ];refine⟨x++List.replicate B ⟨true,0⟩,upd (upd (upd (upd f1 62 (1, .bool false)) 11 (1, .int ((A:Int)+B))) 68 (1, .bool false)) 78 (1, .bool false),?_,hrl⟩;simp[JX,jf,itB,oId,Pn.aA p,g7,g8,g22,hm,hA,bC,bB,aR]
      ·intro j hj;obtain⟨q1,o,q2⟩:=AC6 (O:=O2) hxl hO2 hj;have q3:=bS q2
       have q4:(aO (x++(List.replicate j ⟨true,0⟩++O2.drop j))).set (A+j) [.bool true, .int 0]=aO (x++(List.replicate (j+1) ⟨true,0⟩++O2.drop (j+1))):=by
        have:=CZ (x++(List.replicate j ⟨true,0⟩++O2.drop j)) (A+j) ⟨true,0⟩;simp only at this;rw[this,q1]
       have w5:IntKind.i64.wrap ((A:Int)+j+1)=(A:Int)+(j+1):=by rw[wrO];omega
       have k0:0≤(A:Int)+j:=by omega
       have k1:(A:Int)+j<(A:Int)+B:=by omega
       have k2:((A:Int)+j).toNat=A+j:=by omega
       have k3:A+j<A+B:=by omega
       have w50:IntKind.i64.wrap ((A:Int)+1)=(A:Int)+1:=wrO;by_cases hj0:j=0
       ·subst hj0;simp at q3 q4 k1 k3;have k1:(A:Int)<(A:Int)+B:=by omega
        have k3:A<A+B:=by omega
        simp[NX,JX,jf,itB,oId,Pn.aA p,g7,g8,g22,hm,hz,aM,aI,hA,KT,hj,q3,q4,w50,k1,k3]
        done
       ·simp[NX,JX,jf,itB,oId,Pn.aA p,g7,g8,g22,hm,hz,aM,aI,hA,KT,hj,hj0,q3,q4,w5,k0,k1,k2,k3]
        done
    ·have hJ0:joinL e (decide (p.kind=5)) b.w b.rows x=dY e b.rows x:=by
      unfold joinL;rw[if_neg];simp[hm]
     rw[hJ0]at hQ;have hzM:¬ (L++dY e b.rows x).length=0:=fun e=>hm (by have:=zW.1 e;simp at this;exact this.2)
     generalize L++dY e b.rows x=LM at *
     simp[JX,jf,itB,oId,Pn.aA p,g7,g8,g22,hm,w3,hzM,aM hzM,aI hzM];rw[hQ];refine⟨x++O2,upd f1 62 (1, .bool true),?_,hxO2⟩;simp[JX,jf,itB,oId,Pn.aA p,g7,g8,g22,hm,hzM,aM hzM,aI hzM]
  ·right;have hieq:i=a.rows.length:=by omega
   subst hieq;refine⟨.exit 0,JX R [.own 1 0, .own 2 0, .own 3 0, .junk, .junk, .junk] w a b p (A+B) (dX e (decide (p.kind=5)) a b) O a.rows.length (upd f 22 (1, .bool false)),?_,by simp,O,_,by simp[upd],rfl⟩;rw[hfin];simp only[JX,itB,oId];rw[Pn.aA p];generalize dX e (decide (p.kind=5)) a b=L;by_cases hz:L.length=0<;>simp[jf,hz,aM,aI]
 obtain⟨rr,rfl,O,f,hf,rfl⟩:=key;simp only[JX,itB,oId,itO];rw[Pn.aA p];generalize dX e (decide (p.kind=5)) a b=L;by_cases hz:L.length=0<;>simp[jf,hf,hz,aM,aI,hA,hB]
@[simp] theorem AZT (a:List AV) (st:StL):aG CE 148 a st=aG C0 148 a st:=by
  rw[aN (p:=aG CR 148) rfl,aN (p:=aG C0 148) rfl]
@[simp] theorem AZU (a:List AV) (st:StL):aG CE 149 a st=aG C0 149 a st:=by
  rw[aN (p:=aG CR 149) rfl,aN (p:=aG C0 149) rfl]
@[simp] theorem AVN (a:List AV) (st:StL):aG CE 147 a st=vM a st:=by
  rw[aN (p:=vM) rfl]
theorem number_eq (n:Int):aG C0 149 [.int n] []=some (.i (.agg [.bool false, .int n]),[]):=by
 rw[aD rfl Tryz.func149 rfl rfl];simp
noncomputable def NG (cs:List Int) (rows:List (List Val)):List (List (List Val)):=runs cs (stS cs rows)
theorem AAI (w:Int) {cs:List Int} {rows:List (List Val)} (h:GOk cs rows):vM [.i (.agg [.int w, .isl (aJ rows)]), .i (.isl (aH cs))] []=some (.i (.isl (pR (NG cs rows))),[]):=by
 by_cases h0:rows=[]
 ·subst h0;have h1:=(J4 h).2.1.length_eq;have:stS cs []=[]:=zW.1 h1;unfold NG;rw[this];rfl
 ·exact XC h0 h
theorem AUV {cs:List Int} {rows:List (List Val)} (h:GOk cs rows):(∀ g∈NG cs rows,g≠[]∧g.length<1000000∧∀ r∈g,r∈rows)∧(NG cs rows).length≤rows.length:=by
 obtain⟨k1,k2,k3⟩:=J4 h;obtain⟨f1,f2,f3⟩:=DD cs _ (stS cs rows) rfl
 have f4:∀ g∈NG cs rows,∀ r∈g,r∈rows:=fun g hg r hr=>by
  have:r∈(runs cs (stS cs rows)).flatten:=List.mem_flatten.2 ⟨g,hg,hr⟩;rw[f1]at this;exact k2.mem_iff.1 this
 refine⟨fun g hg=>⟨?_,?_,f4 g hg⟩,by rw[← k2.length_eq];exact f3⟩
 ·have gen:∀ (n:Nat) (l:List (List Val)),l.length=n→∀ g∈runs cs l,g≠[]:=by
   intro n
   induction n with
   | zero=>intro l hl g hg;have:l=[]:=zW.1 hl
           subst this;simp[runs]at hg
   | succ n ih =>
    intro l hl g hg;have hne:l≠[]:=fun e=>by subst e;simp at hl
    obtain⟨l',x,rfl⟩:∃ l' x,l=l'++[x]:=⟨l.dropLast,l.getLast hne,(yF hne).symm⟩
    have ih':=ih l' (by simpa using hl);rw[uS]at hg
    cases hp:l'.getLast? with
    | none =>
     rw[hp]at hg;simp only[zT,yA]at hg
     rcases hg with hg|rfl
     ·exact ih' g hg
     ·simp
    | some q =>
     rw[hp]at hg;dsimp only at hg;split at hg
     ·simp only[zT,yA]at hg
      rcases hg with hg|rfl
      ·exact ih' g (List.dropLast_subset _ hg)
      ·simp
     ·simp only[zT,yA]at hg
      rcases hg with hg|rfl
      ·exact ih' g hg
      ·simp
  exact gen _ _ rfl g hg
 ·have:=ZZ hg;rw[show(NG cs rows).flatten=stS cs rows from f1,k2.length_eq]at this;have:=h.1;omega
noncomputable def GRX (R:Rng) (cs:List AV) (w:Int) (t:Tbl) (p:Pn) (i:Nat):AS :=
 { env:=[(0, .fn (.yield 0) [.own 0 0]),(1, .own 4 0),(2, .own 5 0),(5,jk i (.isl (aJ (((NG p.cols t.rows)[i-1]?).getD [])))),(11, .i (.isl (pR (NG p.cols t.rows)))),(12, .int (NG p.cols t.rows).length),(13, .int i),(14,jk i (.bool true)),(32,jk i (.bool false))],st:=itO R cs w [some (.box [.i (.int t.w), .i (.isl (aJ t.rows))]),some (.box [.i (.iref p.cells)])] (((NG p.cols t.rows).take i).map fun g=>fC (lJ p.cols g)) }
theorem AFV {R:Rng} {cs:List AV} {w:Int} (hY:Yc R cs w) (t:Tbl) (p:Pn) (ht:t.ok=true) (hc:p.cols.length<100) (hcr:∀ c∈p.cols,0≤c∧c<t.w) :
 aG CE 146 [.fn (.yield 0) [.own 0 0], .own 4 0, .own 5 0] [some (.loop R cs .ready),some (.box [.int w]),some (.box [.int 0, .nils]),some (.box [.nils]),some (.box [.i (.int t.w), .i (.isl (aJ t.rows))]),some (.box [.i (.iref p.cells)])]=some (.tup [],itO R cs w [some (.box [.i (.int t.w), .i (.isl (aJ t.rows))]),some (.box [.i (.iref p.cells)])] ((NG p.cols t.rows).map fun g=>fC (lJ p.cols g))):=by
 obtain⟨rfl,-,-,c01,c11⟩:=hY;obtain⟨ht1,ht2,ht3,-⟩:=(Tbl.dI t).1 ht;obtain⟨htw1,htw2⟩:=(bW _).1 ht1
 have hrw:∀ r∈t.rows,(r.length:Int)=t.w:=fun r hr=>by
  have:=ht3 r hr;unfold rowOk at this;simp only[zU,zR]at this;exact this.1
 have hok:GOk p.cols t.rows:=⟨by omega,by omega,fun r hr c hc=>by have:=hcr c hc;have:=hrw r hr;omega⟩
 have hg:=AAI t.w hok;obtain⟨hgn,hgl⟩:=AUV hok;rw[aD rfl Tryz.func146 rfl rfl];rw[Pn.aA p];simp[hg];rw[aS (GRX R [.own 1 0, .own 2 0, .own 3 0, .junk, .junk, .junk] w t p) (NG p.cols t.rows).length (by simp[GRX,itO,Pn.aA p])]
 ·rw[aF];simp only[GRX,itO];rw[Pn.aA p];generalize NG p.cols t.rows=gs at *
  have e1:gs.take gs.length=gs:=zZ (by simp);by_cases hz:gs.length=0<;>simp[hz,e1,aM,aI]
 ·intro i hi;simp only[GRX,itO];rw[Pn.aA p];generalize NG p.cols t.rows=gs at *
  obtain⟨g,hx⟩:∃ g,gs[i]?=some g:=⟨_,zX hi⟩
  have hxn:=AKR hx;obtain⟨_,hgg⟩:=zY.1 hx;obtain⟨hg0,hg1,hg2⟩:=hgn g (zV hx);obtain⟨r,g',rfl⟩:=zE3 hg0;have hrl:=hrw r (hg2 r (by simp));have hpk:=KO r p.cols (by omega) fun c hc=>by have:=hcr c hc;omega
  have hnm:=number_eq ((g'.length:Int)+1);have hnr:fC (lJ p.cols (r::g'))=aU p.cols r++[⟨false,((g'.length:Int)+1)⟩]:=by simp[fC,lJ]
  have hpl:(aU p.cols r).length=p.cols.length:=by simp[aU]
  have hT:(gs.take (i+1)).map (fun g=>fC (lJ p.cols g))=(gs.take i).map (fun g=>fC (lJ p.cols g))++[fC (lJ p.cols (r::g'))]:=by rw[aP hx,yI];rfl
  rw[hnr]at hT;have hvs:aO (aU p.cols r++[⟨false,((g'.length:Int)+1)⟩])=aO (aU p.cols r)++[[.bool false, .int ((g'.length:Int)+1)]]:=ADU _ _;have hrl2:(aU p.cols r++[(⟨false,((g'.length:Int)+1)⟩:Val)]).length=p.cols.length+1:=by simp[aU]
  have htk:(aO (aU p.cols r)).take p.cols.length=aO (aU p.cols r):=zZ (by simp[aU]);have htk2:(aU p.cols r).take p.cols.length=aU p.cols r:=zZ (by simp[aU]);have hr0:aU p.cols r++[(⟨false,((g'.length:Int)+1)⟩:Val)]≠[]:=by simp
  have hbb:(p.cols.length+1)*16≤140737488355328:=by omega
  have w3:IntKind.i64.wrap ((i:Int)+1)=i+1:=wrO;simp only[zG0]at hT ⊢;have hmin:min i gs.length=i:=by omega
  have hmin2:min (i+1) gs.length=i+1:=by omega
  have hDl:(List.take i (gs.map fun g=>fC (lJ p.cols g))).length=i:=by simp;omega
  generalize List.take i (gs.map fun g=>fC (lJ p.cols g))=D at *
  by_cases hc0:p.cols.length=0
  ·have hcn:p.cols=[]:=zW.1 hc0;have hp0:aU p.cols r=[]:=by rw[hcn];rfl
   rw[hp0]at hT hvs hr0 hrl2;rw[hc0]at hrl2;rw[hcn]at hpk;rw[hcn]at hT;have hv1:aO [(⟨false,(g'.length:Int)+1⟩:Val)]=[[.bool false, .int ((g'.length:Int)+1)]]:=rfl;simp[aH,aO,aU]at hpk;simp only[hcn];by_cases hz:i=0
   ·subst hz;have hDn:D=[]:=zW.1 hDl;subst hDn;have hy:=c01 _ hr0 (by simp);simp[hv1]at hy;simp[hi,hxn,bB,hpk,hnm,hy,hT,hgg,bD,aH,hv1,hmin2,aR]
    done
   ·have hy:=c11 _ i D hr0 (by simp) hDl hz (by omega);simp[hv1]at hy;have hzD:D.length≠0:=by omega
    simp[hi,hxn,bB,hpk,hnm,hy,hT,hgg,w3,aH,hv1,hz,hDl,hmin,hmin2,aM hz,aI hz,bC,aR]
    done
  ·rw[aM hc0,aI hc0]at hpk;by_cases hz:i=0
   ·subst hz;have hDn:D=[]:=zW.1 hDl;subst hDn;have hy:=c01 _ hr0 (by rw[hrl2];omega);rw[hrl2,hvs]at hy;simp[hi,hxn,bB,hpk,hnm,hy,hT,hgg,bD,htk,htk2,hbb,hpl,hvs,hmin2,aR]
    done
   ·have hy:=c11 _ i D hr0 (by rw[hrl2];omega) hDl hz (by omega);rw[hrl2,hvs]at hy;simp[hi,hxn,bB,hpk,hnm,hy,hT,hgg,w3,htk,htk2,hbb,hpl,hvs,hz,hDl,hmin,hmin2,aM hz,aI hz,bC,aR]
    done
theorem UA (es:List (List IV)):aG CE 87 [.i (.isl es)] []=some (.fn (.func 137) [.own 0 0],[some (.box [.i (.isl es)])]):=by
 rw[aD rfl Tryz.func87 rfl rfl];simp
theorem XU (es:List (List IV)):aG CE 92 [.i (.isl es)] []=some (.fn (.func 145) [.own 0 0],[some (.box [.i (.isl es)])]):=by
 rw[aD rfl Tryz.func92 rfl rfl];simp
theorem AAM (cs:List IV) (w:Int) (es:List (List IV)):aG CE 88 [.i (.iref cs), .i (.agg [.int w, .isl es])] []=some (.fn (.func 138) [.own 0 0, .own 1 0],[some (.box [.i (.int w), .i (.isl es)]),some (.box [.i (.iref cs)])]):=by
 rw[aD rfl Tryz.func88 rfl rfl];simp
theorem VN (cs:List IV) (w:Int) (es:List (List IV)):aG CE 89 [.i (.iref cs), .i (.agg [.int w, .isl es])] []=some (.fn (.func 141) [.own 0 0, .own 1 0],[some (.box [.i (.iref cs)]),some (.box [.i (.int w), .i (.isl es)])]):=by
 rw[aD rfl Tryz.func89 rfl rfl];simp
theorem AFU (cs:List IV) (w:Int) (es:List (List IV)):aG CE 93 [.i (.iref cs), .i (.agg [.int w, .isl es])] []=some (.fn (.func 146) [.own 0 0, .own 1 0],[some (.box [.i (.int w), .i (.isl es)]),some (.box [.i (.iref cs)])]):=by
 rw[aD rfl Tryz.func93 rfl rfl];simp
theorem AKB (cs:List IV) (w w2:Int) (es es2:List (List IV)):aG CE 90 [.i (.iref cs), .i (.agg [.int w, .isl es]), .i (.agg [.int w2, .isl es2])] []=some (.fn (.func 142) [.own 0 0, .own 1 0, .own 2 0],[some (.box [.i (.int w), .i (.isl es)]),some (.box [.i (.int w2), .i (.isl es2)]),some (.box [.i (.iref cs)])]):=by
 rw[aD rfl Tryz.func90 rfl rfl];simp
@[simp] theorem AdJ (a:List AV) (st:StL):aG CE 144 a st=M4 a st:=by
  rw[aN (p:=M4) rfl]
theorem ALH (a b:List (List Val)) (ha:a.length≤400) (hb:b.length≤400):aG CE 91 [.i (.isl [[.isl (aJ a)],[.isl (aJ b)]])] []=some (.i (.isl (aJ (a++b))),[]):=by
 have w1:IntKind.i64.wrap (a.length:Int)=a.length:=wrO;have w2:IntKind.i64.wrap ((a.length:Int)+b.length)=(a.length:Int)+b.length:=wrO;have n1:¬ (a.length:Int)<0:=by omega
 have n2:¬ (a.length:Int)+b.length<0:=by omega
 rw[aD rfl Tryz.func91 rfl rfl];simp;rw[aF];simp[w1,n1,bD];rw[aF];simp[w2,n2,wrap64 (show -9223372036854775808≤(2:Int)by omega) (by omega)];rw[aF];have ta:(aJ a).take a.length=aJ a:=zZ (by simp);have tab2:(aJ a++aJ b).take (a.length+b.length)=aJ a++aJ b:=zZ (by simp);have hb1:a.length*24≤140737488355328:=by omega
 have hb2:(a.length+b.length)*24≤140737488355328:=by omega
 have w3:IntKind.i64.wrap 2=2:=wrO;by_cases h0:(a.length:Int)+b.length=0
 ·have ha0:a=[]:=zW.1 (by omega);have hb0:b=[]:=zW.1 (by omega);subst ha0;subst hb0;simp[M4];rw[aF];simp[bD,aR];rw[aF];simp[w3,aR];rw[aF];simp
 ·have hg:M4 [.nils, .int ((a.length:Int)+b.length)] []=some (.osl 0 1 0 0,[some (.arr 1 [])]):=by
   have h1:0<(a.length:Int)+b.length∧(a.length:Int)+b.length≤1000000:=by omega
   simp[M4,h0,h1]
  simp[hg];rw[aF];simp[bD,hb1];rw[aF];simp[w3,hb2,ta];rw[aF];simp[bC,tab2]
theorem vD {t:Tbl} (h:t.ok=true):AOD t.rows∧ATJ t.rows:=by
 obtain⟨h1,h2,h3,-⟩:=(Tbl.dI t).1 h;obtain⟨w1,w2⟩:=(bW _).1 h1
 have key:∀ r∈t.rows,(r.length:Int)=t.w∧r.all Val.ok=true:=fun r hr=>by
  have:=h3 r hr;unfold rowOk at this;simpa using this
 exact⟨fun r hr=>⟨(key r hr).2,by have:=(key r hr).1;omega⟩,fun r hr=>⟨fun e=>by have:=(key r hr).1;rw[e]at this;simp at this;omega,by have:=(key r hr).1;omega⟩⟩
theorem AIK {ws:List Int} {db:List Tbl} (hws:ws=db.map Tbl.w) (hdb:∀ t∈db,t.ok=true):∀ (p:Pn) (lv:Nat),p.wd ws lv≠0→p.fit db=true→∀ c:Int,0≤c→c+p.cost db<1000000000 →
 aG CE 43 [.i (.iref p.cells), .i (.isl (gY db)), .own 0 0] [some (.box [.int c])]=some (.i (.agg [.int (p.evP db).w, .isl (aJ (p.evP db).rows)]),[some (.box [.int (c+p.cost db)])]):=by
 intro p
 induction p using Pn.ind with
 | h k t es cs ks ih =>
  intro lv h hfit c hc0 hcc;have hsh:=kM h;generalize hp:Pn.mk k t es cs ks=p at hsh h hfit hcc;have hk:ks=p.kids:=by rw[← hp];rfl
  subst hk;have hfi:=(Pn.qV db p).1 hfit
  cases hsh with
  | scan t W h0 h1 hW =>
   rw[hws,zJ]at h1;obtain⟨s,hs,rfl⟩:=xE.1 h1;have hok:=hdb s (zV hs);obtain⟨o1,o2⟩:=vD hok;have hs4:s.rows.length≤400:=((Tbl.dI s).1 hok).2.1;have hcl:=C8 s.w 137 (by decide) [.i (.isl (aJ s.rows))] s.rows hs4 o1 (fun R cs hY=>UB hY s.rows hs4 o2) rfl (fun r=>rfl);have hmk:=UA (aJ s.rows);have q:=mP hs;have hl:=(zY.1 hs).1;have hl':t<(db.length:Int):=by omega
   have hco:((Pn.scan t).cost db:Int)=s.rows.length:=by rw[Pn.oZ,wP,hs];simp[Pn.scan,Pn.uD,eB hs4,aY]
   rw[hco]at hcc ⊢;have wc:IntKind.i64.wrap (c+s.rows.length)=c+s.rows.length:=wrO;rw[aD rfl Tryz.func43 rfl rfl,wP,hs];simp[Pn.scan,Pn.aZ,Pn.aB,h0,hl,hl',q,nQ];rw[aF];simp[h0,hl,hl',q,hmk,hcl,wc,eB hs4,aY]
   done
  | filt m e a h1 ha he =>
   obtain⟨hg1,hg2⟩:=eD hws hdb a m ha;have hraw:((a.evP db).rows.filter (isT e)).length≤400:=hfi.1;have hco:((filt e a).cost db:Int)=a.cost db+((a.evP db).rows.filter (isT e)).length:=by rw[Pn.oZ,mJ,eB hraw,aY];simp[filt,Pn.uD]
   rw[hco]at hcc ⊢;have i1:=ih a (by simp[filt]) m ha (hfi.2 a (by simp[filt])) c hc0 (by omega);obtain⟨o1,o2⟩:=vD hg1;have hfl:=AAM (filt e a).cells (a.evP db).w (aJ (a.evP db).rows);have hcl:=BZ (a.evP db).w 138 (by decide) [.i (.int (a.evP db).w), .i (.isl (aJ (a.evP db).rows))] [.i (.iref (filt e a).cells)] ((a.evP db).rows.filter (isT e)) hraw (fun r hr=>o1 r (zA5.1 hr).1) (fun R cs hY=>AAN hY (a.evP db) (filt e a) e rfl hg1 (by rw[hg2];exact vF he)) rfl (fun r=>rfl) rfl (fun r=>rfl);have wc:IntKind.i64.wrap (c+(a.cost db+((a.evP db).rows.filter (isT e)).length))=c+(a.cost db+((a.evP db).rows.filter (isT e)).length):=wrO;rw[aD rfl Tryz.func43 rfl rfl,mJ,eB hraw,nQ];simp only[filt,Pn.aZ,Pn.aB,Ex.aB,aH]at hfl hcl ⊢;rw[Pn.aA a,Ex.aA e]at hfl hcl;rw[Pn.aA a]at i1;generalize (a.evP db).rows.filter (isT e)=rows at *
   simp[Pn.aA a,Ex.aA e];rw[aF];simp[i1,bD];rw[aF];simp[hfl,hcl,wc,aY,zC9]
   done
  | proj m es a h1 ha hl he =>
   obtain⟨hg1,hg2⟩:=eD hws hdb a m ha;obtain⟨hG1,-⟩:=eD hws hdb (proj es a) lv h;have hraw:((a.evP db).rows.map fun r=>es.map (Ex.ev r)).length≤400:=hfi.1;obtain⟨hl1,hl2⟩:=(bW _).1 hl;obtain⟨o1,o2⟩:=vD hG1;rw[jT,eB hraw]at o1 o2;have hco:((proj es a).cost db:Int)=a.cost db+((a.evP db).rows.map fun r=>es.map (Ex.ev r)).length:=by rw[Pn.oZ,jT,eB hraw,aY];simp[proj,Pn.uD]
   rw[hco]at hcc ⊢;have i1:=ih a (by simp[proj]) m ha (hfi.2 a (by simp[proj])) c hc0 (by omega);have hfl:=VN (proj es a).cells (a.evP db).w (aJ (a.evP db).rows);have hcl:=BZ (es.length:Int) 141 (by decide) [.i (.iref (proj es a).cells)] [.i (.int (a.evP db).w), .i (.isl (aJ (a.evP db).rows))] ((a.evP db).rows.map fun r=>es.map (Ex.ev r)) hraw (fun r hr=>o1 r (iG.2 hr)) (fun R cs hY=>VO hY (a.evP db) (proj es a) hg1 (show 1≤es.length by omega) (show es.length<100 by omega) (fun e hm=>by rw[hg2];exact vF (he e hm))) rfl (fun r=>rfl) rfl (fun r=>rfl);have wc:IntKind.i64.wrap (c+(a.cost db+((a.evP db).rows.map fun r=>es.map (Ex.ev r)).length))=c+(a.cost db+((a.evP db).rows.map fun r=>es.map (Ex.ev r)).length):=wrO;rw[aD rfl Tryz.func43 rfl rfl,jT,eB hraw,nQ];simp only[proj,Pn.aZ,Pn.aB,aH]at hfl hcl ⊢;rw[Pn.aA a]at hfl hcl;rw[Pn.aA a]at i1;generalize ((a.evP db).rows.map fun r=>es.map (Ex.ev r))=rows at *
   simp[Pn.aA a];rw[aF];simp[i1,bD];rw[aF];simp[hfl,hcl,wc,aY,zC9]
   done
  | pair m k e a b h1 hk ha hb hl he =>
   obtain⟨hg1,hg2⟩:=eD hws hdb a m ha;obtain⟨hg3,hg4⟩:=eD hws hdb b m hb;obtain⟨hG1,-⟩:=eD hws hdb (aX k e a b) lv h;have hraw:(dX e (decide (k=5)) (a.evP db) (b.evP db)).length≤400:=by have:=hfi.1;rwa [RJ db hk]at this
   obtain⟨o1,o2⟩:=vD hG1;rw[jU db hk,eB hraw]at o1 o2;have hco:((aX k e a b).cost db:Int)=a.cost db+b.cost db+(dX e (decide (k=5)) (a.evP db) (b.evP db)).length:=by rw[Pn.oZ,jU db hk,eB hraw,aY];simp[aX,Pn.uD]
   rw[hco]at hcc ⊢;have i1:=ih a (by simp[aX]) m ha (hfi.2 a (by simp[aX])) c hc0 (by omega);have i2:=ih b (by simp[aX]) m hb (hfi.2 b (by simp[aX])) (c+a.cost db) (by omega) (by omega);obtain⟨w1,w2⟩:=(bW _).1 ((Tbl.dI _).1 hg1).1;obtain⟨w3,w4⟩:=(bW _).1 ((Tbl.dI _).1 hg3).1;have ww:IntKind.i64.wrap ((a.evP db).w+(b.evP db).w)=(a.evP db).w+(b.evP db).w:=wrO;have hfl:=AKB (aX k e a b).cells (a.evP db).w (b.evP db).w (aJ (a.evP db).rows) (aJ (b.evP db).rows);have hcl:=TG ((a.evP db).w+(b.evP db).w) 142 (by decide) [.i (.int (a.evP db).w), .i (.isl (aJ (a.evP db).rows))] [.i (.int (b.evP db).w), .i (.isl (aJ (b.evP db).rows))] [.i (.iref (aX k e a b).cells)] (dX e (decide (k=5)) (a.evP db) (b.evP db)) hraw (fun r hr=>o1 r (iG.2 hr)) (fun R cs hY=>AKC hY (a.evP db) (b.evP db) (aX k e a b) e rfl hk hg1 hg3 (by rw[hg2,hg4];exact vF he) hraw) rfl (fun r=>rfl) rfl (fun r=>rfl) rfl (fun r=>rfl);have wc:IntKind.i64.wrap (c+(a.cost db+(b.cost db+(dX e (decide (k=5)) (a.evP db) (b.evP db)).length)))=c+(a.cost db+(b.cost db+(dX e (decide (k=5)) (a.evP db) (b.evP db)).length)):=wrO;have w22:IntKind.i64.wrap 2=2:=wrO;rw[aD rfl Tryz.func43 rfl rfl,jU db hk,eB hraw,nQ];simp only[aX,Pn.aZ,Pn.aB,Ex.aB,aH]at hfl hcl ⊢;rw[Pn.aA a,Pn.aA b,Ex.aA e]at hfl hcl;rw[Pn.aA a]at i1;rw[Pn.aA b]at i2;generalize dX e (decide (k=5)) (a.evP db) (b.evP db)=rows at *
   rcases hk with rfl|rfl
   all_goals
    simp[Pn.aA a,Pn.aA b,Ex.aA e];rw[aF];simp[i1,bD];rw[aF];simp[i2,w22];rw[aF];simp[ww,hfl,hcl,wc,aY,zC9]
    done
  | union m a b h1 ha hb =>
   have hb':b.wd ws m≠0:=by rw[hb];exact ha
   obtain⟨hg1,hg2⟩:=eD hws hdb a m ha;obtain⟨hg3,hg4⟩:=eD hws hdb b m hb';obtain⟨hG1,-⟩:=eD hws hdb (bU a b) lv h;have hraw:((a.evP db).rows++(b.evP db).rows).length≤400:=hfi.1;obtain⟨o1,o2⟩:=vD hG1;rw[mZ,eB hraw]at o1 o2;have hco:((bU a b).cost db:Int)=a.cost db+b.cost db+((a.evP db).rows++(b.evP db).rows).length:=by rw[Pn.oZ,mZ,eB hraw,aY];simp[bU,Pn.uD]
   rw[hco]at hcc ⊢;have i1:=ih a (by simp[bU]) m ha (hfi.2 a (by simp[bU])) c hc0 (by omega);have i2:=ih b (by simp[bU]) m hb' (hfi.2 b (by simp[bU])) (c+a.cost db) (by omega) (by omega);have hcc2:=ALH (a.evP db).rows (b.evP db).rows ((Tbl.dI _).1 hg1).2.1 ((Tbl.dI _).1 hg3).2.1;have hfl:=UA (aJ ((a.evP db).rows++(b.evP db).rows));have hcl:=C8 (a.evP db).w 137 (by decide) [.i (.isl (aJ ((a.evP db).rows++(b.evP db).rows)))] ((a.evP db).rows++(b.evP db).rows) hraw (fun r hr=>o1 r (iG.2 hr)) (fun R cs hY=>UB hY _ hraw fun r hr=>o2 r (iG.2 hr)) rfl (fun r=>rfl);have wc:IntKind.i64.wrap (c+(a.cost db+(b.cost db+((a.evP db).rows++(b.evP db).rows).length)))=c+(a.cost db+(b.cost db+((a.evP db).rows++(b.evP db).rows).length)):=wrO;have w22:IntKind.i64.wrap 2=2:=wrO;rw[aD rfl Tryz.func43 rfl rfl,mZ,eB hraw,nQ];simp only[bU,Pn.aZ,Pn.aB,Ex.aB,aH];rw[Pn.aA a]at i1;rw[Pn.aA b]at i2;generalize ((a.evP db).rows++(b.evP db).rows)=rows at *
   simp[Pn.aA a,Pn.aA b];rw[aF];simp[i1,bD];rw[aF];simp[i2,w22];rw[aF];simp[hcc2,hfl,hcl,wc,aY,zC9]
   done
  | dist m a h1 ha =>
   obtain⟨hg1,hg2⟩:=eD hws hdb a m ha;obtain⟨hG1,-⟩:=eD hws hdb (.mk 7 0 [] [] [a]) lv h;have hraw:(eX (a.evP db).rows).length≤400:=hfi.1;obtain⟨o1,o2⟩:=vD hG1;rw[qH,eB hraw]at o1 o2;have hco:((Pn.mk 7 0 [] [] [a]).cost db:Int)=a.cost db+(eX (a.evP db).rows).length:=by rw[Pn.oZ,qH,eB hraw,aY];simp[Pn.uD]
   rw[hco]at hcc ⊢;have i1:=ih a (by simp) m ha (hfi.2 a (by simp)) c hc0 (by omega);have hfl:=XU (aJ (a.evP db).rows);have hcl:=C8 (a.evP db).w 145 (by decide) [.i (.isl (aJ (a.evP db).rows))] (eX (a.evP db).rows) hraw (fun r hr=>o1 r (iG.2 hr)) (fun R cs hY=>XV hY _ ((Tbl.dI _).1 hg1).2.1 (vD hg1).2) rfl (fun r=>rfl);have wc:IntKind.i64.wrap (c+(a.cost db+(eX (a.evP db).rows).length))=c+(a.cost db+(eX (a.evP db).rows).length):=wrO;rw[aD rfl Tryz.func43 rfl rfl,qH,eB hraw,nQ];simp only[Pn.aZ,Pn.aB,Ex.aB,aH];rw[Pn.aA a]at i1;generalize eX (a.evP db).rows=rows at *
   simp[Pn.aA a];rw[aF];simp[i1,bD];rw[aF];simp[hfl,hcl,wc,aY,zC9]
   done
  | group m cs a h1 ha hc ho =>
   obtain⟨hg1,hg2⟩:=eD hws hdb a m ha;obtain⟨hG1,-⟩:=eD hws hdb (.mk 8 0 [] cs [a]) lv h;have hcr:∀ c∈cs,0≤c∧c<(a.evP db).w:=by rw[hg2];exact wU ho
   obtain⟨t1,t2,t3,-⟩:=(Tbl.dI _).1 hg1
   have hok:GOk cs (a.evP db).rows:=⟨by omega,by omega,fun r hr c hc=>by
    have:=hcr c hc;have h2:=t3 r hr;unfold rowOk at h2;simp only[zU,zR]at h2
    omega⟩
   obtain⟨-,k2,k3⟩:=J4 hok;have hperm:((NG cs (a.evP db).rows).map fun g=>fC (lJ cs g)).Perm (fP cs (a.evP db).rows):=AIB k2 (fun r hr=>iL (wJ (t3 r hr) hcr)) (ANO k3);have hraw:(fP cs (a.evP db).rows).length≤400:=hfi.1;have hraw2:((NG cs (a.evP db).rows).map fun g=>fC (lJ cs g)).length≤400:=by rw[hperm.length_eq];exact hraw
   obtain⟨o1,o2⟩:=vD hG1;rw[oV,eB hraw]at o1 o2;have hsort:dC (fP cs (a.evP db).rows)=dC ((NG cs (a.evP db).rows).map fun g=>fC (lJ cs g)):=(JY hperm fun r hr=>(o1 r (iG.2 (hperm.mem_iff.1 hr))).1).symm;have hco:((Pn.mk 8 0 [] cs [a]).cost db:Int)=a.cost db+((NG cs (a.evP db).rows).map fun g=>fC (lJ cs g)).length:=by rw[Pn.oZ,oV,eB hraw,aY,hperm.length_eq];simp[Pn.uD]
   rw[hco]at hcc ⊢;have i1:=ih a (by simp) m ha (hfi.2 a (by simp)) c hc0 (by omega);have hfl:=AFU (Pn.mk 8 0 [] cs [a]).cells (a.evP db).w (aJ (a.evP db).rows);have hcl:=BZ ((cs.length:Int)+1) 146 (by decide) [.i (.int (a.evP db).w), .i (.isl (aJ (a.evP db).rows))] [.i (.iref (Pn.mk 8 0 [] cs [a]).cells)] ((NG cs (a.evP db).rows).map fun g=>fC (lJ cs g)) hraw2 (fun r hr=>o1 r (iG.2 (hperm.mem_iff.1 hr))) (fun R cs' hY=>AFV hY (a.evP db) (Pn.mk 8 0 [] cs [a]) hg1 (show cs.length<100 by omega) hcr) rfl (fun r=>rfl) rfl (fun r=>rfl);have wc:IntKind.i64.wrap (c+(a.cost db+((NG cs (a.evP db).rows).map fun g=>fC (lJ cs g)).length))=c+(a.cost db+((NG cs (a.evP db).rows).map fun g=>fC (lJ cs g)).length):=wrO;have ww:IntKind.i64.wrap ((cs.length:Int)+1)=(cs.length:Int)+1:=wrO;rw[aD rfl Tryz.func43 rfl rfl,oV,eB hraw,nQ,hsort];simp only[Pn.aZ,Pn.aB,Ex.aB]at hfl hcl ⊢;rw[Pn.aA a]at hfl hcl;rw[Pn.aA a]at i1;generalize ((NG cs (a.evP db).rows).map fun g=>fC (lJ cs g))=rows at *
   simp[Pn.aA a];rw[aF];simp[i1,bD];rw[aF];simp[ww,hfl,hcl,wc,aY,zC9]
   done
@[simp] theorem AVM (a:List AV) (st:StL):aG CE 42 a st=aG C0 42 a st:=by
  rw[aN (p:=aG CR 42) rfl,aN (p:=aG C0 42) rfl]
@[simp] theorem AS9 (a:List AV) (st:StL):aG CE 26 a st=aG C0 26 a st:=by
  rw[aN (p:=aG CR 26) rfl,aN (p:=aG C0 26) rfl]
theorem uG {p:Pn} {ws:List Int} (h:p.width ws≠0):pO ws=true∧p.wd ws 8≠0∧p.width ws=p.wd ws 8:=by
 unfold Pn.width at h ⊢;split at h
 ·rename_i hw;exact⟨hw,h,if_pos hw⟩
 ·exact absurd rfl h
theorem AOE {ws:List Int} (h:pO ws=true):1≤ws.length∧ws.length≤4:=by
 unfold pO at h;simp only[zU,zR]at h;exact h.1
theorem QH {p:Pn} {db:List Tbl} (h:BQ p db=true):(p.cost db:Int)<1000000000:=by
 unfold BQ at h;simp only[zU,zR]at h;obtain⟨hw,hp8,_⟩:=uG h.2;have h1:=ALB rfl (fun t ht=>zS.1 h.1 t ht) p 8 hp8;have h2:=(Pn.JF p 8 hp8).2;omega
theorem IA (p:Pn) (db:List Tbl) (hs:∀ t∈db,t.small) (hfit:BQ p db=true→p.fit db=true):aG CE 22 [.i (.iref p.cells), .i (.isl (gY db))] []=some (if BQ p db=true then .tup [.i (.agg [.int (p.evP db).w, .isl (aJ (p.evP db).rows)]), .int (p.cost db), .bool true]else .tup [.i (.agg [.int 0, .isl []]), .int 0, .bool false],[]):=by
 have c1:=YY db hs;have c2:=mV p (db.map Tbl.w);rw[aD rfl Tryz.func22 rfl rfl];by_cases hall:db.all Tbl.ok=true
 ·by_cases hlen:1≤db.length∧db.length≤4
  ·simp only[hall,hlen,and_self,zF7,Bool.and_self,if_true]at c1;by_cases h0:p.width (db.map Tbl.w)=0
   ·have hev:BQ p db=false:=by simp[BQ,h0]
    rw[Pn.aA p]at c2 ⊢;simp[c1,c2,h0,hev]
   ·have hev:BQ p db=true:=by simp only[BQ,hall,h0,ne_eq,zA6,zF7,Bool.and_self]
    obtain⟨hw,hp8,_⟩:=uG h0;have c3:=AIK rfl (fun t ht=>zS.1 hall t ht) p 8 hp8 (hfit hev) 0 (by omega) (by have:=QH hev;omega);rw[Pn.aA p]at c2 c3 ⊢;simp at c3;simp[c1,c2,h0,hev,c3]
  ·have hev:BQ p db=false:=by
    cases he:BQ p db with
    | false=>rfl
    | true =>
     unfold BQ at he;simp only[zU,zR]at he;have:=AOE (uG he.2).1;simp at this;exact absurd (by omega) hlen
   simp only[hlen,decide_false,Bool.false_and,yY,if_false]at c1;simp[c1,hev]
 ·have hev:BQ p db=false:=by simp[BQ,hall]
  simp only[hall,Bool.and_false,yY,if_false]at c1;simp[c1,hev]
theorem CJ (p:Pn) (db:List Tbl) (hs:∀ t∈db,t.small) (hfit:BQ p db=true→p.fit db=true):aG CE 11 [.i (.agg p.cells), .i (.isl (gY db))] []=some (if BQ p db=true then .tup [.i (.agg [.int (p.evP db).w, .isl (aJ (p.evP db).rows)]), .bool true]else .tup [.i (.agg [.int 0, .isl []]), .bool false],[]):=by
 have c1:=IA p db hs hfit;rw[aD rfl Tryz.func11 rfl rfl];rw[Pn.aA p]at c1 ⊢;by_cases h:BQ p db=true<;>simp[h]at c1<;>simp[c1,h]
theorem NE (p:Pn) (db:List Tbl) (hs:∀ t∈db,t.small) (hfit:BQ p db=true→p.fit db=true):aG CE 7 [.i (.agg p.cells), .i (.isl (gY db))] []=some (.int (if BQ p db=true then(p.cost db:Int)else -1),[]):=by
 have c1:=IA p db hs hfit;rw[aD rfl Tryz.func7 rfl rfl];rw[Pn.aA p]at c1 ⊢;by_cases h:BQ p db=true<;>simp[h]at c1<;>simp[c1,h]
@[simp] theorem ALR (a:List AV) (st:StL):aG CE 37 a st=aG C0 37 a st:=by
  rw[aN (p:=aG CR 37) rfl,aN (p:=aG C0 37) rfl]
@[simp] theorem AXA (a:List AV) (st:StL):aG CE 38 a st=aG CR 38 a st:=by
  rw[aN (p:=aG CR 38) rfl]
@[simp] theorem AGH (a:List AV) (st:StL):aG CE 39 a st=aG C0 39 a st:=by
  rw[aN (p:=aG CR 39) rfl,aN (p:=aG C0 39) rfl]
@[simp] theorem AdH (a:List AV) (st:StL):aG CE 40 a st=aG C0 40 a st:=by
  rw[aN (p:=aG CR 40) rfl,aN (p:=aG C0 40) rfl]
@[simp] theorem AS8 (a:List AV) (st:StL):aG CE 21 a st=aG C0 21 a st:=by
  rw[aN (p:=aG CR 21) rfl,aN (p:=aG C0 21) rfl]
@[simp] theorem AVO (a:List AV) (st:StL):aG CE 41 a st=aG CT 41 a st:=by
  rw[aN (p:=aG CT 41) rfl]
theorem F5 {l:List UInt8} (hl:l.length≤2000):∃ (P:Pn) (db:List Tbl) (p':Int),aG CE 20 [.own 0 0] [Rd l 0]=some (.tup [.i (.agg P.cells), .i (.isl (gY db))],[Rd l p'])∧P.thin∧BdV P∧db.length≤3∧(∀ t∈db,t.small∧t.rows.length≤5)∧0≤p'∧p'<600000000:=by
 obtain⟨a,b,r,p1,hr,r1,r2,r3,r4,r5,r6,r7,r8⟩:=IY l hl 0 (by omega) (by omega)
 have hw:∀ w∈a::b::r,1≤w∧w≤6:=by
  intro w hm;simp only[zP]at hm
  rcases hm with rfl|rfl|hm
  ·omega
  ·omega
  ·have:=r8 w hm;omega
 obtain⟨P,p2,hP,hPt,c1,c2⟩:=YK hl (ws:=a::b::r) (fun w hm=>by have:=hw w hm;omega) (by simp;omega) (by simp) p1 (by omega) (by omega);obtain⟨ts,p3,hd,d1,d2,d3,d4⟩:=EZ l hl (a::b::r) hw (by simp;omega) p2 (by omega) (by omega);obtain⟨k,hk,-,-⟩:=bK l p3 16 (by omega) (by omega) hl;have te:P.exprs.take P.exprs.length=P.exprs:=zZ (by simp);have tc:P.cols.take P.cols.length=P.cols:=zZ (by simp);have tk:P.kids.take P.kids.length=P.kids:=zZ (by simp);have htl:ts.length=r.length+2:=by have:=congrArg List.length d1;simpa using this
 have tt:(gY ts).take (r.length+2)=gY ts:=zZ (by simp;omega);have tt2:ts.take (r.length+2)=ts:=zZ (by omega);have tt3:(gY ts).take (r.length+1+1)=gY ts:=zZ (by simp;omega);have tt4:ts.take (r.length+1+1)=ts:=zZ (by omega);have htl2:r.length+1+1≤ts.length:=by omega
 have hr0:(0:Int)<(r.length:Int)+2:=by omega
 have hts:∀ t∈ts,t.small∧t.rows.length≤5:=fun t ht=>⟨Tbl.AC3 (d2 t ht).1,by have:=(d2 t ht).2;omega⟩
 by_cases k0:k=0
 ·obtain⟨t,p4,ht,t1,t2,t3,t4⟩:=ABA l hl a.toNat (by omega) (by omega) (p3+1) (by omega) (by omega);rw[show((a.toNat:Nat):Int)=a by omega]at ht
  obtain⟨t0,ts',rfl⟩:∃ t0 ts',ts=t0::ts':=by cases ts with
   | nil=>simp at htl
   | cons x y=>exact⟨x,y,rfl⟩
  refine⟨P,t::ts',p4,?_,hPt.1,hPt.2,by simp at htl ⊢;omega,fun x hx=>?_,by omega,by omega⟩
  ·rw[aD rfl Tryz.func20 rfl rfl];have hq:(aJ t.rows).take t.rows.length=aJ t.rows:=zZ (by simp);have hq2:t.rows.take t.rows.length=t.rows:=zZ (by simp);have tt5:(gY ts').take (r.length+1)=gY ts':=zZ (by simp at htl ⊢;omega);have tt6:ts'.take (r.length+1)=ts':=zZ (by simp at htl;omega);have htl3:r.length+1≤ts'.length:=by simp at htl;omega
   have hr1:(0:Int)<(r.length:Int)+1+1:=by omega
   have hcons:∀ x:Tbl,gY (x::ts')=[.int x.w, .isl (aJ x.rows)]::gY ts':=fun x=>rfl
   rw[hcons]at hd ⊢;by_cases hz:t.rows.length=0
   ·have hn:t.rows=[]:=zW.1 hz;rw[hz]at ht;simp at ht
    rcases dF P.exprs with ce|⟨ce,ce',ce''⟩<;>rcases dF P.cols with cc|⟨cc,cc',cc''⟩<;>rcases dF P.kids with ck|⟨ck,ck',ck''⟩ <;>
     (simp[rX,rS,bl,ce,cc,ck,aM,aI,aH]at hP
      simp[aH]at hd;simp[hr,hP,hd,hk,k0,ht,hn,hr0,hr1,ce,cc,ck,aH,te,tc,tk,tt5,tt6,htl3,aR,Pn.aA P,Ex.aB,Pn.aB]
      done)
   ·rw[aM hz,aI hz]at ht
    rcases dF P.exprs with ce|⟨ce,ce',ce''⟩<;>rcases dF P.cols with cc|⟨cc,cc',cc''⟩<;>rcases dF P.kids with ck|⟨ck,ck',ck''⟩ <;>
     (simp[rX,rS,bl,ce,cc,ck,aM,aI,aH]at hP
      simp[aH]at hd;simp[hr,hP,hd,hk,k0,ht,hq,hq2,hr0,hr1,ce,cc,ck,aH,te,tc,tk,tt5,tt6,htl3,Pn.aA P,Ex.aB,Pn.aB]
      done)
  ·rcases zP.1 hx with rfl|hx
   ·exact⟨t1,t2⟩
   ·exact hts x (by simp[hx])
 ·refine⟨P,ts,p3+1,?_,hPt.1,hPt.2,by omega,hts,by omega,by omega⟩;rw[aD rfl Tryz.func20 rfl rfl]
  rcases dF P.exprs with ce|⟨ce,ce',ce''⟩<;>rcases dF P.cols with cc|⟨cc,cc',cc''⟩<;>rcases dF P.kids with ck|⟨ck,ck',ck''⟩ <;>
   (simp[rX,rS,bl,ce,cc,ck,aM,aI,aH]at hP
    simp[aH]at hd;simp[hr,hP,hd,hk,k0,ce,cc,ck,aH,te,tc,tk,tt,tt2,tt3,tt4,htl2,Pn.aA P,Ex.aB,Pn.aB]
    done)
theorem uA {l:List UInt8} (hl:l.length≤2000):∃ (P:Pn) (db:List Tbl) (p':Int),aG CE 20 [.own 0 0] [Rd l 0]=some (.tup [.i (.agg P.cells), .i (.isl (gY db))],[Rd l p'])∧P.thin∧BdV P∧db.length≤3∧(∀ t∈db,t.small∧t.rows.length≤5):=by
 obtain⟨P,db,p',h,h1,h2,h3,h4,-,-⟩:=F5 hl;exact⟨P,db,p',h,h1,h2,h3,h4⟩
@[simp] theorem Y7 (a:List AV) (st:StL):aG CE 14 a st=aG C0 14 a st:=by
  rw[aN (p:=aG CR 14) rfl,aN (p:=aG C0 14) rfl]
@[simp] theorem O6 (a:List AV) (st:StL):aG CE 15 a st=aG C0 15 a st:=by
  rw[aN (p:=aG CR 15) rfl,aN (p:=aG C0 15) rfl]
@[simp] theorem Y8 (a:List AV) (st:StL):aG CE 10 a st=aG C0 10 a st:=by
  rw[aN (p:=aG CR 10) rfl,aN (p:=aG C0 10) rfl]
structure Drn (P:Pn) (db:List Tbl):Prop where
 thin:P.thin
 bdv:BdV P
 len:db.length≤3
 small:∀ t∈db,t.small
 rows:∀ t∈db,t.rows.length≤5
structure EvD (p:Pn) (db:List Tbl):Prop where
 ok:∀ t∈db,t.ok=true
 ws:pO (db.map Tbl.w)=true
 wd:p.wd (db.map Tbl.w) 8≠0
theorem wQ {p:Pn} {db:List Tbl}:BQ p db=true↔EvD p db:=by
 unfold BQ;simp only[zU,zR];constructor
 ·rintro⟨h1,h2⟩;obtain⟨k1,k2,_⟩:=uG h2;exact⟨fun t ht=>zS.1 h1 t ht,k1,k2⟩
 ·intro h;refine⟨List.all_eq_true.2 h.ok,?_⟩;unfold Pn.width;rw[if_pos h.ws];exact h.wd
theorem EvD.width {p:Pn} {db:List Tbl} (h:EvD p db):p.width (db.map Tbl.w)=p.wd (db.map Tbl.w) 8:=by
 unfold Pn.width;rw[if_pos h.ws]
theorem EvD.good {p:Pn} {db:List Tbl} (h:EvD p db):(p.evP db).ok=true∧(p.evP db).w=p.wd (db.map Tbl.w) 8:=eD rfl h.ok p 8 h.wd
theorem AZF {p:Pn} {db:List Tbl} (hr:∀ t∈db,t.rows.length≤5) (h:EvD p db) (hb:p.bd 5≤400):p.fit db=true :=
 (Aa4 (n:=5) (by omega) rfl (fun t ht=>⟨h.ok t ht,hr t ht⟩) p 8 h.wd hb).1
theorem Drn.bd {P:Pn} {db:List Tbl} (h:Drn P db) {lv:Nat} (hw:P.wd (db.map Tbl.w) lv≠0):P.bd 5≤50:=h.bdv _ lv 5 (by omega) hw
theorem Drn.fit {P:Pn} {db:List Tbl} (h:Drn P db) (he:BQ P db=true):P.fit db=true:=by
 have hd:=wQ.1 he;have:=h.bd hd.wd;exact AZF h.rows hd (by omega)
theorem AXJ:(⟨0,[]⟩:Tbl).small:=⟨by simp,by simp⟩
theorem AV1:aG C0 15 [.i (.agg [.int 0, .isl []]), .i (.agg [.int 0, .isl []])] []=some (.bool true,[]):=by
 have:=BA ⟨0,[]⟩ ⟨0,[]⟩ AXJ;simpa [aR]using this
theorem AV2 {t:Tbl} (h:t.ok=true):aG C0 15 [.i (.agg [.int t.w, .isl (aJ t.rows)]), .i (.agg [.int t.w, .isl (aJ t.rows)])] []=some (.bool true,[]):=by
 have:=BA t t (Tbl.AC3 h);simpa using this
end Go.Proofs.YtnmimmaahhlgeaaGreat.P
namespace Go.Av
theorem MI (db:List Tbl) (p:Pn):(p.evP db).rows.length≤400:=by
 rw[Pn.AZ];unfold evK
 repeat' split
 all_goals exact(sI _ _).1
theorem kR {db:List Tbl} {e:Ex} {a:Pn}:(filt e a).fit db=true↔a.fit db=true:=by
 rw[Pn.qV,ABZ];have h1:=yG (isT e) (a.evP db).rows;have h2:=MI db a;simp only[filt,Pn.fK,yA,forall_eq];exact⟨fun h=>h.2,fun h=>⟨by omega,h⟩⟩
theorem wO {db:List Tbl} {es:List Ex} {a:Pn}:(proj es a).fit db=true↔a.fit db=true:=by
 rw[Pn.qV,ABY,xZ];have h2:=MI db a;simp only[proj,Pn.fK,yA,forall_eq];exact⟨fun h=>h.2,fun h=>⟨h2,h⟩⟩
theorem APC {db:List Tbl} {a:Pn} (h:(Pn.mk 7 0 [] [] [a]).fit db=true):a.fit db=true:=((Pn.qV _ _).1 h).2 a (by simp)
theorem kQ {db:List Tbl} {k:Int} (hk:k=4∨k=5) {e:Ex} {a b:Pn}:(aX k e a b).fit db=true↔(dX e (decide (k=5)) (a.evP db) (b.evP db)).length≤400∧a.fit db=true∧b.fit db=true:=by
 rw[Pn.qV,RJ db hk];simp only[aX,Pn.fK,zP,zE0,or_false,forall_eq_or_imp,forall_eq]
theorem XK {db:List Tbl} {a b:Pn}:(bU a b).fit db=true↔((a.evP db).rows++(b.evP db).rows).length≤400∧a.fit db=true∧b.fit db=true:=by
 rw[Pn.qV,VH];simp only[bU,Pn.fK,zP,zE0,or_false,forall_eq_or_imp,forall_eq]
theorem ACH {e x y:Ex} (hk:e.kind=8) (hs:e.kids=[x,y]) (r:List Val):isT e r=(isT x r && isT y r):=by
 unfold isT;rw[Ex.IZ r e,hk,hs];simp only[evN,yR,zH0,List.getElem?_cons_zero,zC7,zC];have e1:Val.cmb 8 (x.ev r) (y.ev r)=trV (if(y.ev r).tr<(x.ev r).tr then(y.ev r).tr else(x.ev r).tr):=by simp[Val.cmb]
 have hx:=wF (x.ev r);have hy:=wF (y.ev r);simp only[show ¬ (8:Int)=1 by omega,show ¬ (8:Int)=2 by omega,show ¬ (8:Int)=10 by omega,show ¬ (8:Int)=11 by omega,if_false];rw[e1,AQG (by split<;>assumption)]
 rcases hx with h|h|h<;>rcases hy with g|g|g<;>simp[h,g]
theorem ACG (a b:Ex) (r:List Val):isT (ABB a b) r=(isT a r && isT b r):=ACH rfl rfl r
theorem AV0 {f:Int→Bool} {r s:List Val} (h:∀ c,f c=true→(s[c.toNat]?).getD Val.zero=(r[c.toNat]?).getD Val.zero):∀ e:Ex,e.BC f=true→e.ev s=e.ev r:=by
 intro e
 induction e using Ex.ind with
 | h k c v ks ih =>
  intro ha;rw[Ex.nI]at ha;rw[Ex.IZ s,Ex.IZ r];by_cases h1:k=1
  ·subst h1;simp only[Ex.kind,Ex.col,if_true]at ha;simp only[Ex.kind,Ex.col,Ex.val,Ex.kids,evN,if_true];exact h c ha
  ·simp only[Ex.kind,Ex.kids,h1,if_false,zS]at ha;simp only[Ex.kind,Ex.col,Ex.val,Ex.kids];have:ks.map (Ex.ev s)=ks.map (Ex.ev r):=xN fun x hx=>ih x hx (ha x hx)
   rw[this];simp[evN,h1]
theorem AL2 {g:Int→Int} {f:Int→Bool} {r s:List Val} (h:∀ c,f c=true→(s[(g c).toNat]?).getD Val.zero=(r[c.toNat]?).getD Val.zero):∀ e:Ex,e.BC f=true→(e.wK g).ev s=e.ev r:=by
 intro e
 induction e using Ex.ind with
 | h k c v ks ih =>
  intro ha;rw[Ex.nI]at ha;by_cases h1:k=1
  ·subst h1;simp only[Ex.kind,Ex.col,if_true]at ha;rw[Ex.SA g (e:=.mk 1 c v ks) (by rfl),Ex.IZ s,Ex.IZ r];simp only[AGD,Ex.kind,Ex.col,Ex.val,Ex.kids,evN,if_true];exact h c ha
  ·simp only[Ex.kind,Ex.kids,h1,if_false,zS]at ha;rw[Ex.S9 g (by simpa [Ex.kind]using h1),Ex.IZ s,Ex.IZ r];simp only[Ex.kind,Ex.col,Ex.val,Ex.kids,zC5];have:ks.map (Ex.ev s ∘ Ex.wK g)=ks.map (Ex.ev r):=xN fun x hx=>ih x hx (ha x hx)
   rw[this];simp[evN,h1]
theorem AOX {e:Ex} {A:Int} {r s:List Val} (hr:(r.length:Int)=A) (h:e.cin 0 A=true):isT e (r++s)=isT e r:=by
 unfold isT;rw[AV0 (r:=r) (s:=r++s) (fun c hc=>?_) e h];have hc:=zO hc;rw[zM (by omega)]
theorem AOW {e:Ex} {A B:Int} {r s:List Val} (hr:(r.length:Int)=A) (hs:(s.length:Int)=B) (h:e.wf (A+B)=true):isT (e.wK (pK A B)) (s++r)=isT e (r++s):=by
 unfold isT;rw[AL2 (r:=r++s) (s:=s++r) (fun c hc=>?_) e (Ex.QY e h)];have hc:=zO hc;unfold pK;by_cases hA:c<A
 ·rw[if_pos hA,zM (l₁:=r) (by omega),zN (by omega),show(c+B).toNat-s.length=c.toNat by omega]
 ·rw[if_neg hA,zN (l₁:=r) (by omega),zM (by omega),show c.toNat-r.length=(c-A).toNat by omega]
theorem MQ {x:List Val} {a n:Nat} (h:a+n≤x.length):(bX a n).map (Ex.ev x)=(x.drop a).take n:=by
 apply zF4;intro i;rw[zJ,zD];by_cases hi:i<n
 ·rw[vX hi,if_pos hi,yN,yM];have e1:=zX (show a+i<x.length by omega);rw[e1,← AVF e1];simp
 ·rw[if_neg hi,zD6 (by simpa using hi)];rfl
theorem AFK {e f:Ex} {o:Bool} {A B:Tbl} (h:∀ r∈A.rows,∀ s,isT e (r++s)=isT e r):(dX f o A B).filter (isT e)=dX f o ⟨A.w,A.rows.filter (isT e)⟩ B:=by
 unfold dX;obtain⟨w,l⟩:=A;simp only at h ⊢
 induction l with
 | nil=>rfl
 | cons r l ih =>
  have ih:=ih fun x hx=>h x (by simp[hx])
  rw[yC,xS,ih]
  have hr:(joinL f o B.w B.rows r).filter (isT e)=if isT e r=true then joinL f o B.w B.rows r else []:=by
   split
   ·rename_i c;exact List.filter_eq_self.2 fun x hx=>by obtain⟨s,rfl⟩:=DZ hx;rw[h r (by simp)];exact c
   ·rename_i c;exact List.filter_eq_nil_iff.2 fun x hx=>by obtain⟨s,rfl⟩:=DZ hx;rw[h r (by simp)];exact c
  rw[hr,List.filter_cons];split<;>simp
theorem X5 (e f:Ex) (A B:Tbl):(dX f false A B).filter (isT e)=dX (ABB f e) false A B:=by
 rw[lY,lY,zD0];exact xL fun r _=>by rw[ACG,zF8]
theorem AA3 {e e' f:Ex} {A B:Tbl} (h:∀ r∈A.rows,∀ s,isT e' s=isT e (r++s)):(dX f false A B).filter (isT e)=dX f false A ⟨B.w,B.rows.filter (isT e')⟩:=by
 rw[lY,lY]
 have:AQ A ⟨B.w,B.rows.filter (isT e')⟩=(AQ A B).filter (isT e):=by
  unfold AQ;rw[List.filter_flatMap];obtain⟨w,l⟩:=A;simp only at h ⊢
  induction l with
  | nil=>rfl
  | cons r l ih =>
   rw[yC,yC,ih fun x hx=>h x (by simp[hx]),List.filter_map];congr 2;exact xL fun s _=>h r (by simp) s
 rw[this,zD0,zD0];exact xL fun r _=>zF8 _ _
theorem AA4 {e f:Ex} {A B:Tbl} (h:∀ r∈A.rows,isT e (r++gM B.w)=false):(dX f true A B).filter (isT e)=(dX f false A B).filter (isT e):=by
 unfold dX;obtain⟨w,l⟩:=A;simp only at h ⊢
 induction l with
 | nil=>rfl
 | cons r l ih =>
  rw[yC,yC,xS,xS,ih fun x hx=>h x (by simp[hx])];congr 1;unfold joinL;simp only[zB9,Bool.false_and,yY,if_false];split
  ·rename_i hc;rw[zD8.1 hc];simp[h r (by simp)]
  ·rfl
theorem XI {α β:Type} (g:α→β) (h:α→List β):∀ m:List α,(m.flatMap fun b=>g b::h b).Perm (m.map g++m.flatMap h)
 | []=>.refl _
 | b::m=>by
  rw[yC,yR,yC,yO,yO];refine .cons _ ?_;refine(xV _ (XI g h m)).trans ?_;rw[← zK,← zK];exact List.Perm.append_right _ zB7
theorem XH {α β γ:Type} (f:α→β→γ) (m:List β):∀ l:List α,(l.flatMap fun a=>m.map (f a)).Perm (m.flatMap fun b=>l.map fun a=>f a b)
 | []=>by
  simp only[List.flatMap_nil,zH0];have:∀ m:List β,(m.flatMap fun _=>([]:List γ))=[]:=fun m=>by induction m<;>simp_all
  rw[this]
 | a::l=>by
  rw[yC];simp only[yR];exact(xV _ (XH f m l)).trans (XI _ _ m).symm
theorem Q9 {α β:Type} {f g:α→List β}:∀ {l:List α},(∀ a∈l,f a=g a)→l.flatMap f=l.flatMap g
 | [],_=>rfl
 | a::l,h=>by rw[yC,yC,h a (by simp),Q9 fun x hx=>h x (by simp[hx])]
theorem AFJ {f:Ex} {A B:Tbl} (hA:∀ r∈A.rows,(r.length:Int)=A.w) (hB:∀ r∈B.rows,(r.length:Int)=B.w) (hw:f.wf (A.w+B.w)=true) (h0:0≤A.w) (h1:0≤B.w) :
 ((dX (f.wK (pK A.w B.w)) false B A).map fun r=>(bX B.w A.w.toNat++bX 0 B.w.toNat).map (Ex.ev r)).Perm (dX f false A B):=by
 have hg:∀ r∈A.rows,∀ s∈B.rows,(bX B.w A.w.toNat++bX 0 B.w.toNat).map (Ex.ev (s++r))=r++s:=by
  intro r hr s hs;have l1:=hA r hr;have l2:=hB s hs;obtain⟨a,ha⟩:=yH h0;obtain⟨b,hb⟩:=yH h1;rw[ha]at l1 ⊢;rw[hb]at l2 ⊢;have c1:=MQ (x:=s++r) (a:=b) (n:=a) (by rw[zQ];omega);have c2:=MQ (x:=s++r) (a:=0) (n:=b) (by rw[zQ];omega);rw[yI,zD4,zD4,c1,show(0:Int)=((0:Nat):Int)by rfl,c2,List.drop_zero,show b=s.length by omega,List.drop_left,zB0,show a=r.length by omega,zE1]
 rw[lY,lY]
 have e1:(List.filter (isT (f.wK (pK A.w B.w))) (AQ B A)).map (fun r=>(bX B.w A.w.toNat++bX 0 B.w.toNat).map (Ex.ev r))=((AQ B A).map fun r=>(bX B.w A.w.toNat++bX 0 B.w.toNat).map (Ex.ev r)).filter (isT f):=by
  rw[List.filter_map];congr 1;refine xL fun x hx=>?_
  unfold AQ at hx;obtain⟨s,hs,hx⟩:=zG4.1 hx;obtain⟨r,hr,rfl⟩:=zG.1 hx;simp only[Function.comp];rw[hg r hr s hs];exact AOW (hA r hr) (hB s hs) hw
 rw[e1];refine List.Perm.filter _ ?_
 have e2:((AQ B A).map fun r=>(bX B.w A.w.toNat++bX 0 B.w.toNat).map (Ex.ev r))=B.rows.flatMap fun s=>A.rows.map fun r=>r++s:=by
  unfold AQ;rw[List.map_flatMap];refine Q9 fun s hs=>?_
  rw[zC5];exact xN fun r hr=>hg r hr s hs
 rw[e2];exact(XH (fun(s r:List Val)=>r++s) A.rows B.rows)
theorem R7 {w:Int} {J:List (List Val)} (hn:J.length≤400) (ho:oks J) (f:List Val→Bool):tab w ((tab w J).rows.filter f)=tab w (J.filter f):=by
 rw[eB hn];exact JM ((jO J).filter f) fun r hr=>AI4 ho r (zA5.1 hr).1
theorem AQP {v w:Int} {J:List (List Val)} (hn:J.length≤400) (g:List Val→List Val) (ho:oks ((dC J).map g)):tab w ((tab v J).rows.map g)=tab w (J.map g):=by
 rw[eB hn];exact JM ((jO J).map g) ho
theorem mF {ws:List Int} {db:List Tbl} (hws:ws=db.map Tbl.w) (hdb:∀ t∈db,t.ok=true) {p:Pn} {W:Int} (h:Wd ws p W):(p.evP db).ok=true∧(p.evP db).w=W:=by
 obtain⟨lv,rfl,h0⟩:=h;exact eD hws hdb p lv h0
theorem jJ {ws:List Int} {db:List Tbl} (hws:ws=db.map Tbl.w) (hdb:∀ t∈db,t.ok=true) {p:Pn} {W:Int} (h:Wd ws p W) (e:Ex):(filt e p).evP db=⟨(p.evP db).w,(p.evP db).rows.filter (isT e)⟩:=by
 obtain⟨lv,rfl,h0⟩:=h;exact AL3 hws hdb h0 e
theorem X4 {e:Ex} {o:Bool} {a b:Tbl} (ha:a.ok=true) (hb:b.ok=true):oks (dX e o a b):=fun r hr=>iL (SF ha hb r hr)
theorem mY {ws:List Int} {db:List Tbl} (hws:ws=db.map Tbl.w) (hdb:∀ t∈db,t.ok=true) {k:Int} (hk:k=4∨k=5) {f:Ex} {a b:Pn} {A B:Int} (ha:Wd ws a A) (hb:Wd ws b B) (hn:(dX f (decide (k=5)) (a.evP db) (b.evP db)).length≤400) (e:Ex) :
 (filt e (aX k f a b)).evP db=tab ((a.evP db).w+(b.evP db).w) ((dX f (decide (k=5)) (a.evP db) (b.evP db)).filter (isT e)):=by
 rw[mJ,jU db hk,nQ,R7 hn (X4 (mF hws hdb ha).1 (mF hws hdb hb).1)]
theorem J2 {ws:List Int} {k:Int} (hk:k=4∨k=5) {f:Ex} {a b:Pn} {A B:Int} (ha:Wd ws a A) (hb:Wd ws b B) (h8:(aX k f a b).wd ws 8≠0):a.wd ws 8=A∧b.wd ws 8=B∧(aX k f a b).wd ws 8=A+B:=by
 have h7:=h8;rw[qN hk]at h7;obtain⟨hc,-⟩:=fJ h7;have g1:=hc.1;have g2:=hc.2.1;refine⟨?_,?_,?_⟩
 ·rw[Pn.gF a 7 8 g1 (by omega)];exact YO ha g1
 ·rw[Pn.gF b 7 8 g2 (by omega)];exact YO hb g2
 ·rw[qN hk,if_pos hc,YO ha g1,YO hb g2]
theorem DJ {t:Tbl} (h:t.ok=true):∀ r∈t.rows,(r.length:Int)=t.w:=fun r hr=>gU (((Tbl.dI t).1 h).2.2.1 r hr)
theorem ATQ {e:Ex} {A B:Int} (h0:0≤A) (h1:0≤B) (he:e.wf (A+B)=true) (hr:AR7 e (A+B) A=true) {r:List Val} (hl:(r.length:Int)=A):isT e (r++gM B)=false:=by
 cases h:isT e (r++gM B)with
 | false=>rfl
 | true =>
  have hnl:(gM B).length=B.toNat:=by simp[gM]
  have hsl:(A8 (A+B) A).length=(A+B).toNat:=by simp[A8]
  have hs:=AFA (W:=A+B) (A8 (A+B) A) (r++gM B) (by rw[hsl];omega) (by rw[hsl,zQ,hnl];omega)
   (fun a ha=>by
    unfold A8 at ha;obtain⟨i,-,rfl⟩:=zG.1 ha;unfold okS
    split<;>omega)
   (fun i a v hi hv=>by
    unfold A8 at hi;rw[zJ]at hi;obtain⟨j,hj,rfl⟩:=xE.1 hi
    have hj':=(zY.1 hj)
    obtain⟨hj1,hj2⟩:=hj';rw[List.getElem_range]at hj2;subst hj2;by_cases hA:A≤(i:Int)
    ·rw[if_pos hA];rw[zN (by omega)]at hv;unfold gM at hv;rw[List.getElem?_replicate]at hv;split at hv
     ·injection hv with hv;subst hv;decide
     ·cases hv
    ·rw[if_neg hA];unfold stV;split
     ·decide
     ·split<;>decide) e he
  rw[AcM h]at hs;unfold AR7 at hr;rw[hs]at hr
  cases hr
theorem AY5 {ws:List Int} {db:List Tbl} (hws:ws=db.map Tbl.w) (hdb:∀ t∈db,t.ok=true) {rule:Int} {e:Ex} {k q:Pn} {W V:Int} (hp:Wd ws (filt e k) W) (h8:k.wd ws 8≠0) (h:rwF ws rule e k=some q) (hq:Wd ws q V) (hf:k.fit db=true):q.evP db=(filt e k).evP db∧q.fit db=true:=by
 obtain⟨hk,he⟩:=iA hp;unfold rwF at h;split at h
 ·rename_i hc;injection h with h;subst h;obtain⟨f,a,rfl⟩:=pI hk hc.2;have ha:=(iA hk).1;show(filt (ABB f e) a).evP db=_∧(filt (ABB f e) a).fit db=true;rw[jJ hws hdb ha,jJ hws hdb hk,jJ hws hdb ha];refine⟨?_,kR.2 (kR.1 hf)⟩;rw[zD0];congr 1;exact xL fun r _=>by rw[ACG,zF8]
 split at h
 ·rename_i hc;injection h with h;subst h;have hl:=vF he;rw[Ex.EO]at hl;simp only[zU,zR]at hl;obtain⟨x,y,hx⟩:=SC (SE hl.1 (by omega) (by omega) (by omega) (by omega));have h0:e.kid0=x:=by simp[Ex.kid0,hx]
  have h1:e.DY=y:=by simp[Ex.DY,hx]
  rw[h0,h1]at hq ⊢;have hq1:=(iA hq).1;rw[jJ hws hdb hq1,jJ hws hdb hk,jJ hws hdb hk];refine⟨?_,kR.2 (kR.2 hf)⟩;rw[zD0];congr 1;exact xL fun r _=>by rw[ACH hc.2 hx,zF8]
 split at h
 ·rename_i hc;injection h with h;subst h;obtain⟨f,a,b,hx⟩:=jM hk hc.2.1;have h2:=hc.2.1;have h3:=hc.2.2;generalize k.kind=kd at *
  subst hx;obtain⟨A,B,ha,hb,hab,hfo,rfl⟩:=lT h2 hk;obtain⟨w1,w2,w3⟩:=J2 h2 ha hb h8;replace h3:e.cin 0 (a.wd ws 8)=true:=h3;rw[w1]at h3;show(aX kd f (filt e a) b).evP db=_∧(aX kd f (filt e a) b).fit db=true;obtain⟨f1,f2,f3⟩:=(kQ h2).1 hf;obtain⟨ga,gw⟩:=mF hws hdb ha;have key:=AFK (e:=e) (f:=f) (o:=decide (kd=5)) (A:=a.evP db) (B:=b.evP db) fun r hr s=>AOX (by rw[DJ ga r hr,gw]) h3
  rw[mY hws hdb h2 ha hb f1,jU db h2,kQ h2,jJ hws hdb ha,key];refine⟨rfl,?_,kR.2 f2,f3⟩;rw[← key];have:=yG (isT e) (dX f (decide (kd=5)) (a.evP db) (b.evP db));omega
 split at h
 ·rename_i hc;injection h with h;subst h;obtain⟨f,a,b,hx⟩:=jM hk (.inl hc.2.1);rw[hc.2.1]at hx;have h3:=hc.2.2;subst hx;obtain⟨A,B,ha,hb,hab,hfo,rfl⟩:=lT (.inl rfl) hk;obtain⟨w1,w2,w3⟩:=J2 (.inl rfl) ha hb h8;replace h3:e.cin (a.wd ws 8) ((aX 4 f a b).wd ws 8)=true:=h3;rw[w1,w3]at h3;replace hq:Wd ws (aX 4 f a (filt (e.wK (·-a.wd ws 8)) b)) V:=hq;show(aX 4 f a (filt (e.wK (·-a.wd ws 8)) b)).evP db=_∧(aX 4 f a (filt (e.wK (·-a.wd ws 8)) b)).fit db=true;rw[w1]at hq ⊢;obtain⟨f1,f2,f3⟩:=(kQ (.inl rfl)).1 hf;obtain⟨ga,gw⟩:=mF hws hdb ha;have f1':(dX f false (a.evP db) (b.evP db)).length≤400:=by simpa using f1
  have h3':e.cin A (A+B)=true:=h3
  have key:=AA3 (e:=e) (e':=e.wK (·-A)) (f:=f) (A:=a.evP db) (B:=b.evP db) fun r hr s=>by
   unfold isT;rw[AL2 (r:=r++s) (s:=s) (fun c hc=>?_) e h3'];have hc:=zO hc;have:=DJ ga r hr;rw[zN (by omega),show c.toNat-r.length=(c-A).toNat by omega]
  rw[mY hws hdb (.inl rfl) ha hb f1,jU db (.inl rfl),kQ (.inl rfl),jJ hws hdb hb];simp only[show decide ((4:Int)=5)=false by decide];rw[key];refine⟨rfl,?_,f2,kR.2 f3⟩;rw[← key];have:=yG (isT e) (dX f false (a.evP db) (b.evP db));omega
 split at h
 ·rename_i hc;injection h with h;subst h;obtain⟨f,a,b,hx⟩:=jM hk (.inl hc.2);rw[hc.2]at hx;subst hx;obtain⟨A,B,ha,hb,hab,hfo,rfl⟩:=lT (.inl rfl) hk;show(aX 4 (ABB f e) a b).evP db=_∧(aX 4 (ABB f e) a b).fit db=true;obtain⟨f1,f2,f3⟩:=(kQ (.inl rfl)).1 hf;have f1':(dX f false (a.evP db) (b.evP db)).length≤400:=by simpa using f1
  rw[mY hws hdb (.inl rfl) ha hb f1,jU db (.inl rfl),kQ (.inl rfl)];simp only[show decide ((4:Int)=5)=false by decide];rw[X5];refine⟨rfl,?_,f2,f3⟩;rw[← X5];have:=yG (isT e) (dX f false (a.evP db) (b.evP db));omega
 split at h
 ·rename_i hc;injection h with h;subst h;obtain⟨f,a,b,hx⟩:=jM hk (.inr hc.2.1);rw[hc.2.1]at hx;have h3:=hc.2.2;subst hx;obtain⟨A,B,ha,hb,hab,hfo,rfl⟩:=lT (.inr rfl) hk;obtain⟨w1,w2,w3⟩:=J2 (.inr rfl) ha hb h8;replace h3:AR7 e ((aX 5 f a b).wd ws 8) (a.wd ws 8)=true:=h3;rw[w1,w3]at h3;replace hq:Wd ws (filt e (aX 4 f a b)) V:=hq;show(filt e (aX 4 f a b)).evP db=_∧(filt e (aX 4 f a b)).fit db=true;obtain⟨f1,f2,f3⟩:=(kQ (.inr rfl)).1 hf;obtain⟨ga,gw⟩:=mF hws hdb ha;obtain⟨gb,gv⟩:=mF hws hdb hb;have f1':(dX f true (a.evP db) (b.evP db)).length≤400:=by simpa using f1
  have f4:=(AOU f (a.evP db) (b.evP db)).length_le;have g1:=(bW _).1 ((Tbl.dI _).1 ga).1;have g2:=(bW _).1 ((Tbl.dI _).1 gb).1
  have key:=AA4 (e:=e) (f:=f) (A:=a.evP db) (B:=b.evP db) fun r hr=>by
   rw[gv];exact ATQ (by omega) (by omega) (vF he) h3 (by rw[DJ ga r hr,gw])
  rw[mY hws hdb (.inr rfl) ha hb f1,mY hws hdb (.inl rfl) ha hb (by simp only[show decide ((4:Int)=5)=false by decide];omega),kR,kQ (.inl rfl)];simp only[show decide ((4:Int)=5)=false by decide,zF7];rw[key];exact⟨rfl,by omega,f2,f3⟩
 split at h
 ·rename_i hc;injection h with h;subst h;obtain⟨a,b,rfl⟩:=AMF hk hc.2;obtain⟨ha,hb⟩:=TU hk;show(bU (filt e a) (filt e b)).evP db=_∧(bU (filt e a) (filt e b)).fit db=true;obtain⟨f1,f2,f3⟩:=XK.1 hf;obtain⟨ga,gw⟩:=mF hws hdb ha;obtain⟨gb,gv⟩:=mF hws hdb hb
  rw[mJ,mZ,mZ,XK,jJ hws hdb ha,jJ hws hdb hb,nQ,R7 f1 (fun r hr=>by
   rcases zT.1 hr with hr|hr
   ·exact Tbl.WG ga r hr
   ·exact Tbl.WG gb r hr),xS]
  refine⟨rfl,?_,kR.2 f2,kR.2 f3⟩;have h1:=yG (isT e) (a.evP db).rows;have h2:=yG (isT e) (b.evP db).rows;rw[zQ]at f1 ⊢;simp only;omega
 split at h
 ·rename_i hc;injection h with h;subst h;obtain⟨es,a,rfl⟩:=qL hk hc.2;obtain⟨A,ha,hl,hes,rfl⟩:=tY hk;show(proj es (filt (e.sub es) a)).evP db=_∧(proj es (filt (e.sub es) a)).fit db=true;obtain⟨ga,gw⟩:=mF hws hdb ha;have h3:=((Tbl.dI _).1 ga).2.2.1
  have ho:∀ r∈(a.evP db).rows,(es.map (Ex.ev r)).all Val.ok=true:=fun r hr=>by
   rw[zS];intro v hv;obtain⟨x,hx,rfl⟩:=zG.1 hv;exact AL1 (h3 r hr) (by rw[gw];exact zS.1 hes x hx)
  have hn:=MI db a
  rw[mJ,jT,jT,nQ,R7 (by rw[xZ];exact hn) (fun r hr=>by
   obtain⟨x,hx,rfl⟩:=zG.1 hr
   exact ho x hx),jJ hws hdb ha,List.filter_map]
  refine⟨?_,wO.2 (kR.2 (wO.1 hf))⟩;congr 2;refine xL fun r _=>?_
  simp only[Function.comp];unfold isT;rw[ART es rfl r e (vF he)]
 ·cases h
theorem AY3 {ws:List Int} {db:List Tbl} (hws:ws=db.map Tbl.w) (hdb:∀ t∈db,t.ok=true) (hw:∀ w∈ws,0≤w∧w≤6) {rule:Int} {p q:Pn} {W V:Int} (hp:Wd ws p W) (h8:p.wd ws 8≠0) (h:rwP ws rule p=some q) (hq:Wd ws q V) (hf:p.fit db=true):q.evP db=p.evP db∧q.fit db=true:=by
 unfold rwP at h;split at h
 ·rename_i hc;obtain⟨e,a,rfl⟩:=pI hp hc;refine AY5 hws hdb hp ?_ h hq (kR.1 hf);have h7:=h8;rw[uI]at h7;obtain⟨hc,-⟩:=fJ h7;show a.wd ws 8≠0;rw[Pn.gF a 7 8 hc.1 (by omega)];exact hc.1
 split at h
 ·rename_i hc;injection h with h;subst h;obtain⟨f,a,b,hx⟩:=jM hp (.inl hc.2);rw[hc.2]at hx;subst hx;obtain⟨A,B,ha,hb,hab,hfo,rfl⟩:=lT (.inl rfl) hp;obtain⟨w1,w2,w3⟩:=J2 (.inl rfl) ha hb h8;obtain⟨f1,f2,f3⟩:=(kQ (.inl rfl)).1 hf;have f1':(dX f false (a.evP db) (b.evP db)).length≤400:=by simpa using f1
  obtain⟨ga,gw⟩:=mF hws hdb ha;obtain⟨gb,gv⟩:=mF hws hdb hb;have g1:=(bW _).1 ((Tbl.dI _).1 ga).1;have g2:=(bW _).1 ((Tbl.dI _).1 gb).1;show(proj (bX (b.wd ws 8) (a.wd ws 8).toNat++bX 0 (b.wd ws 8).toNat) (aX 4 (f.wK (pK (a.wd ws 8) (b.wd ws 8))) b a)).evP db=_∧(proj (bX (b.wd ws 8) (a.wd ws 8).toNat++bX 0 (b.wd ws 8).toNat) (aX 4 (f.wK (pK (a.wd ws 8) (b.wd ws 8))) b a)).fit db=true;rw[w1,w2,← gw,← gv];have hwf:f.wf ((a.evP db).w+(b.evP db).w)=true:=by rw[gw,gv];exact vF hfo
  have key:=AFJ (DJ ga) (DJ gb) hwf (by omega) (by omega);have hl:=key.length_eq;rw[xZ]at hl;have hok:=X4 (e:=f) (o:=false) ga gb;rw[wO,kQ (.inl rfl),jT,jU db (.inl rfl),jU db (.inl rfl)];simp only[show decide ((4:Int)=5)=false by decide];refine⟨?_,by omega,f3,f2⟩;rw[AQP (by omega) _ (DU (((jO _).map _).trans key).symm hok),zQ,pE,pE,JM key (DU key.symm hok)];congr 1;omega
 split at h
 ·rename_i hc;injection h with h;subst h;obtain⟨a,rfl⟩:=AMG hp hc.2.1;have ha:=ADM hp;obtain⟨ga,gw⟩:=mF hws hdb ha;show a.evP db=_∧a.fit db=true;refine⟨?_,APC hf⟩;have h7:=h8;rw[G5 (by omega)]at h7;have ha7:=(fJ h7).1.2;have hk:a.kind=7∨a.kind=8:=hc.2.2
  have hn:=AZK hws hdb (sets:=[]) (fun i t _ h=>by simp at h) hw a 7 (by omega) ha7 (by
   rw[Pn.AL5,if_neg (by omega),if_neg (by omega),if_pos hk])
  rw[qH,UJ ga,(kJ _).eq_of_length ((TB ga).2 hn)]
 split at h
 ·rename_i hc;injection h with h;subst h;obtain⟨es,k,rfl⟩:=qL hp hc.2.1;obtain⟨K,hk,hl,hes,rfl⟩:=tY hp;obtain⟨fs,a,rfl⟩:=qL hk hc.2.2;obtain⟨A,ha,hl2,hfs,rfl⟩:=tY hk;show(proj (es.map (Ex.sub fs)) a).evP db=_∧(proj (es.map (Ex.sub fs)) a).fit db=true;refine⟨?_,wO.2 (wO.1 (wO.1 hf))⟩;obtain⟨gk,gv⟩:=mF hws hdb hk;have h3:=((Tbl.dI _).1 gk).2.2.1;have hn:=MI db a;have hk0:=jT db fs a
  have ho:oks (((proj fs a).evP db).rows.map fun r=>es.map (Ex.ev r)):=fun r hr=>by
   obtain⟨x,hx,rfl⟩:=zG.1 hr;rw[zS];intro v hv;obtain⟨y,hy,rfl⟩:=zG.1 hv;exact AL1 (h3 x hx) (by rw[gv];exact zS.1 hes y hy)
  rw[hk0,eB (by rw[xZ];exact hn)]at ho;rw[jT,jT db es,hk0,AQP (by rw[xZ];exact hn) _ ho,xZ,zC5];congr 1;refine xN fun r _=>?_
  rw[zC5];simp only[Function.comp];exact xN fun e hee=>ART fs rfl r e (vF (zS.1 hes e hee))
 ·cases h
theorem AR9 {db:List Tbl} {q a:Pn} (he:q.evP db=a.evP db) (hq:q.fit db=true):∀ (path:List Int) (p:Pn),Pn.at path p=some a→p.fit db=true→(Pn.put path p q).evP db=p.evP db∧(Pn.put path p q).fit db=true
 | [],p,e,hf=>by simp[Pn.at]at e;subst e;exact⟨he,hq⟩
 | i::r,p,e,hf=>by
  obtain⟨n,rfl,b,hb,hr⟩:=Pn.tT e;rw[Pn.RL q hb];have hfp:=(Pn.qV db p).1 hf;obtain⟨h1,h2⟩:=AR9 he hq r b hr (hfp.2 b (zV hb))
  have hm:∀ j:Nat,((p.kids.set n (Pn.put r b q))[j]?.map (Pn.evP db))=(p.kids[j]?.map (Pn.evP db)):=by
   intro j;rw[List.getElem?_set];split
   ·rename_i hj;subst hj;have hlt:=(zY.1 hb).1;rw[if_pos hlt,hb,yM,yM,h1]
   ·rfl
  have hk0:=hm 0;have hk1:=hm 1;constructor
  ·rw[Pn.AZ,Pn.AZ db p];simp only[Pn.fK,Pn.gG,Pn.kP,Pn.dL,Pn.gT];rw[hk0,hk1]
  ·rw[Pn.qV];refine⟨?_,?_⟩
   ·have h3:=hfp.1;unfold Pn.raw at h3 ⊢;simp only[Pn.fK,Pn.gG,Pn.kP,Pn.dL,Pn.gT];rw[hk0,hk1];exact h3
   ·intro x hx
    rcases zA0 (show x∈p.kids.set n (Pn.put r b q)from hx)with hx|rfl
    ·exact hfp.2 x hx
    ·exact h2
theorem ASG {ws:List Int} {db:List Tbl} (hws:ws=db.map Tbl.w) (hdb:∀ t∈db,t.ok=true) (hw:∀ w∈ws,0≤w∧w≤6) {rule:Int} {path:List Int} {p q:Pn} (hp:p.wd ws 8≠0) (hf:p.fit db=true) (h:apI ws rule path p=some q):q.evP db=p.evP db∧q.fit db=true∧q.wd ws 8≠0:=by
 have hw8:=ASE hw hp (by rw[← AM7 hw hp];exact h);have hq8:q.wd ws 8≠0:=by rw[hw8];exact hp
 unfold apI at h;split at h
 ·rename_i hl
  cases ha:Pn.at path p with
  | none=>simp[ha]at h
  | some a =>
   obtain⟨-,hv⟩:=TT path p 8 a hp ha;simp only[ha,yT,rwL]at h
   cases hr:rwP ws rule a with
   | none=>simp[hr]at h
   | some x =>
    have h8:a.wd ws 8≠0:=by rw[Pn.gF a _ 8 hv (by omega)];exact hv
    simp only[hr,yT]at h;by_cases hq:x.wd ws (8-path.length)=0
    ·simp[hq]at h
    ·simp only[hq,ne_eq,zA6,if_true,yM,Option.some.injEq]at h;subst h
     have hfa:∀ (path:List Int) (p:Pn),Pn.at path p=some a→p.fit db=true→a.fit db=true:=by
      intro path
      induction path with
      | nil=>intro p e hf;simp[Pn.at]at e;subst e;exact hf
      | cons i r ih =>
       intro p e hf;obtain⟨n,rfl,b,hb,hr⟩:=Pn.tT e;exact ih b hr (((Pn.qV db p).1 hf).2 b (zV hb))
     obtain⟨e1,e2⟩:=AY3 hws hdb hw (mE hv) h8 hr (mE hq) (hfa path p ha hf);obtain⟨e3,e4⟩:=AR9 e1 e2 path p ha hf;exact⟨e3,e4,hq8⟩
 ·cases h
end Go.Av
namespace Go.Proofs.YtnmimmaahhlgeaaGreat.P
open Go Go.Av G
set_option maxRecDepth 4000
set_option maxHeartbeats 8000000
noncomputable def AJ6:FuncId→Option (List AV→StL→Option (AV×StL))
 | 1000000007=>none
 | 5=>none
 | 4=>none
 | 3=>none
 | 17=>none
 | 9=>some BB
 | 16=>some (aG CA 16)
 | g=>some (aG CE g)
noncomputable def CW:Ctx:={ P:=Tryz.prog,G:=GS,ownArgs:=ownE,keepRes:=AOT,eqT:=MJ,prim:=AJ6 }
@[simp] theorem Av3:CW.P=Tryz.prog:=(rfl)
@[simp] theorem Av4 (f):CW.G f=GS f:=(rfl)
@[simp] theorem Av0 (f):CW.ownArgs f=ownE f:=(rfl)
@[simp] theorem Av1 (f):CW.keepRes f=(keepR f || decide (f=80)):=(rfl)
@[simp] theorem Av2 (f):CW.eqT f=MJ f:=(rfl)
@[simp] theorem AuZ:CW.tree=false:=(rfl)
theorem AYN:PrimOk CW:=by
 have hA:=bI ATC;have hE:=bI AY1;constructor
 ·intro g args st p h;unfold dE at h
  cases hq:CW.prim g with
  | none=>rw[hq]at h;cases h
  | some q =>
   rw[hq]at h;have hq:AJ6 g=some q:=hq;unfold AJ6 at hq;split at hq
   all_goals first
    | (cases hq;done)
    | (injection hq with hq;subst hq;exact N7 h)
    | (injection hq with hq;subst hq;exact hA.name _ _ _ _ (by decide) h)
    | (injection hq with hq;subst hq;exact hE.name _ _ _ _ (by assumption) h)
 ·intro g args st r st' h w m φ vs hi hr hb;unfold dE at h
  cases hq:CW.prim g with
  | none=>rw[hq]at h;cases h
  | some q =>
   rw[hq]at h;have hq:AJ6 g=some q:=hq;unfold AJ6 at hq;split at hq
   all_goals first
    | (cases hq;done)
    | (injection hq with hq;subst hq;exact IL h w m φ vs hi hr hb)
    | (injection hq with hq;subst hq;exact hA.calls _ _ _ _ _ (by decide) h w m φ vs hi hr hb)
    | (injection hq with hq;subst hq;exact hE.calls _ _ _ _ _ (by assumption) h w m φ vs hi hr hb)
theorem AR1:SoundOk CW:=mI (C:=CW) ft nt eqS mo AYN
theorem IE (p:Pn) (ws:List Int) (r:Int) (path:List Int):aG CW 9 [.i (.agg p.cells), .i (.isl (aH ws)), .i (.agg [.int r, .isl (aH path)])] []=some (apR (apO p ws r path)):=by rw[aN (p:=BB) rfl];exact YH p ws r path
@[simp] theorem ARY (a:List AV) (st:StL):aG CW 16 a st=aG CA 16 a st:=by rw[aN (p:=aG CA 16) rfl]
@[simp] theorem AV5 (a:List AV) (st:StL):aG CW 11 a st=aG CE 11 a st:=by rw[aN (p:=aG CE 11) rfl]
@[simp] theorem ARW (a:List AV) (st:StL):aG CW 14 a st=aG C0 14 a st:=by rw[aN (p:=aG CE 14) rfl,Y7]
@[simp] theorem AMX (a:List AV) (st:StL):aG CW 15 a st=aG C0 15 a st:=by rw[aN (p:=aG CE 15) rfl,O6]
@[simp] theorem ARX (a:List AV) (st:StL):aG CW 10 a st=aG C0 10 a st:=by rw[aN (p:=aG CE 10) rfl,Y8]
@[simp] theorem AcX (a:List AV) (st:StL):aG CW 13 a st=aG CE 13 a st:=by rw[aN (p:=aG CE 13) rfl]
theorem AAT (code:List UInt8):∃ (P:Pn) (db:List Tbl),aG CE 13 [.i (.isl (fF code))] []=some (.tup [.i (.agg P.cells), .i (.isl (gY db))],[])∧Drn P db:=by
 obtain⟨c,hc,hr⟩:=H6 code;obtain⟨P,db,p',h,h1,h2,h3,h4⟩:=uA hc;refine⟨P,db,?_,h1,h2,h3,fun t ht=>(h4 t ht).1,fun t ht=>(h4 t ht).2⟩;rw[aD rfl Tryz.func13 rfl rfl];rw[Pn.aA P]at *
 simp[hr,h]
theorem AQA {db:List Tbl} (hok:∀ t∈db,t.ok=true):∀ w∈db.map Tbl.w,0≤w∧w≤6:=fun w hw=>by
 obtain⟨t,ht,rfl⟩:=zG.1 hw;have:=(bW _).1 ((Tbl.dI t).1 (hok t ht)).1;omega
theorem ASF {p q:Pn} {db:List Tbl} {r:Int} {path:List Int} (hD:EvD p db) (hf:p.fit db=true) (h:apO p (db.map Tbl.w) r path=some q):EvD q db∧q.evP db=p.evP db∧q.fit db=true:=by
 unfold apO at h;rw[hD.width,if_neg hD.wd]at h;obtain⟨h1,h2,h3⟩:=ASG rfl hD.ok (AQA hD.ok) hD.wd hf h;exact⟨⟨hD.ok,hD.ws,h3⟩,h1,h2⟩
theorem AYY {p:Pn} {db:List Tbl} (hD:EvD p db) (hf:p.fit db=true):∀ i,EvD (nP (db.map Tbl.w) p i) db∧(nP (db.map Tbl.w) p i).evP db=p.evP db∧(nP (db.map Tbl.w) p i).fit db=true
 | 0=>⟨hD,rfl,hf⟩
 | i+1=>by
  obtain⟨h1,h2,h3⟩:=AYY hD hf i;unfold nP;split
  ·rename_i s hs;obtain⟨q,hq,-⟩:=SK (by rw[h1.width];exact h1.wd) hs;obtain⟨k1,k2,k3⟩:=ASF h1 h3 hq;rw[hq];exact⟨k1,k2.trans h2,k3⟩
  ·exact⟨h1,h2,h3⟩
theorem A9 (code:List UInt8):aG CW 4 [.i (.isl (fF code))] []=some (.bool true,[]):=by
 rw[aD rfl Tryz.func4 rfl rfl];by_cases hl:(1048576:Int)<code.length
 ·simp[cO,hl]
 obtain⟨p,db,hd,hp⟩:=AAT code;have e1:=CJ p db hp.small hp.fit;have e2:=V4 p hp.thin db (by have:=hp.len;omega) hp.small
 cases hev:BQ p db with
 | false =>
  have e3:=AV1;simp only[hev,yY,if_false]at e1 e2;rw[Pn.aA p]at *
  simp[cO,hl,hd,e1,e2,e3]
 | true =>
  have hD:=wQ.1 hev;obtain⟨g1,g2⟩:=hD.good;have e3:=AV2 g1;simp only[hev,if_true]at e1 e2;have e5:=H7 db (by have:=hp.len;omega);have e6:=YR p (db.map Tbl.w);unfold nrR at e6;rw[hD.width,if_neg hD.wd]at e6;obtain⟨k1,k2,k3⟩:=AYY hD (hp.fit hev) 40;have e7:=CJ (nP (db.map Tbl.w) p 40) db hp.small (fun _=>k3);rw[wQ.2 k1,if_pos rfl,k2]at e7;generalize nP (db.map Tbl.w) p 40=q at *
  rw[Pn.aA q]at e6 e7;rw[Pn.aA p]at *
  generalize p.evP db=t at *
  simp[cO,hl,hd,e1,e2,e3,e5,e6,e7]
end Go.Proofs.YtnmimmaahhlgeaaGreat.P
namespace Go.Av
theorem EF (db:List Tbl) (e:Ex) (a:Pn):(filt e a).cost db=a.cost db+((filt e a).evP db).rows.length:=by
 rw[Pn.oZ];simp[filt,Pn.fK,Pn.uD]
theorem EE (db:List Tbl) (k:Int) (e:Ex) (a b:Pn):(aX k e a b).cost db=a.cost db+b.cost db+((aX k e a b).evP db).rows.length:=by
 rw[Pn.oZ];simp[aX,Pn.fK,Pn.uD]
theorem AJ3 {ws:List Int} {db:List Tbl} (hws:ws=db.map Tbl.w) (hdb:∀ t∈db,t.ok=true) (hw:∀ w∈ws,0≤w∧w≤6) {p q:Pn} {rule:Int} (h8:p.wd ws 8≠0) (hf:p.fit db=true) (hr:rule=3∨rule=4) (h:apI ws rule [] p=some q) :
 ∃ x,q.kids[(rule-3).toNat]?=some x∧x.wd ws 8≠0∧x.fit db=true∧q.cost db≤p.cost db+(x.evP db).rows.length:=by
 obtain⟨k1,k2,k3⟩:=ASG hws hdb hw h8 hf h;unfold apI at h;simp only[yJ,xG,if_true,Pn.at,yT,Nat.sub_zero,rwL]at h
 cases hx:rwP ws rule p with
 | none=>simp[hx]at h
 | some y =>
  simp only[hx,yT]at h;by_cases hy:y.wd ws 8=0
  ·simp[hy]at h
  simp only[hy,ne_eq,zA6,if_true,yM,Pn.put,Option.some.injEq]at h;subst h;unfold rwP at hx;split at hx
  case isFalse =>
   split at hx
   ·rename_i hc;omega
   split at hx
   ·rename_i hc;omega
   split at hx
   ·rename_i hc;omega
   ·cases hx
  rename_i hk2;obtain⟨e,k,rfl⟩:=pI (mE h8) hk2;obtain⟨hkw,he⟩:=iA (mE h8)
  have hk8:k.wd ws 8≠0:=by
   have h7:=h8;rw[uI]at h7;obtain⟨hc,-⟩:=fJ h7;rw[Pn.gF k 7 8 hc.1 (by omega)];exact hc.1
  have hkf:=kR.1 hf;have hx:rwF ws rule e k=some y:=hx;unfold rwF at hx;rw[if_neg (by omega),if_neg (by omega)]at hx
  rcases hr with rfl|rfl
  ·split at hx
   case isFalse =>
    rw[if_neg (by omega),if_neg (by omega),if_neg (by omega),if_neg (by omega),if_neg (by omega)]at hx
    cases hx
   rename_i hc;injection hx with hx;subst hx;obtain⟨f,a,b,hxx⟩:=jM hkw hc.2.1;have h2:=hc.2.1;generalize k.kind=kd at *
   subst hxx;replace k1:(aX kd f (filt e a) b).evP db=_:=k1;replace k2:(aX kd f (filt e a) b).fit db=true:=k2;replace k3:(aX kd f (filt e a) b).wd ws 8≠0:=k3;show ∃ x:Pn,(aX kd f (filt e a) b).kids[_]?=some x∧x.wd ws 8≠0∧x.fit db=true∧(aX kd f (filt e a) b).cost db≤_;refine⟨filt e a,rfl,?_,((kQ h2).1 k2).2.1,?_⟩
   ·rw[qN h2]at k3;have:=(fJ k3).1.1;rw[Pn.gF _ 7 8 this (by omega)];exact this
   ·rw[EE,EF,k1,EF,EE];omega
  ·rw[if_neg (by omega)]at hx;split at hx
   case isFalse =>
    rw[if_neg (by omega),if_neg (by omega),if_neg (by omega),if_neg (by omega)]at hx
    cases hx
   rename_i hc;injection hx with hx;subst hx;obtain⟨f,a,b,hxx⟩:=jM hkw (.inl hc.2.1);rw[hc.2.1]at hxx;subst hxx;generalize hg:e.wK (·-(aX 4 f a b).kid0.wd ws 8)=g at *
   replace k1:(aX 4 f a (filt g b)).evP db=_:=k1;replace k2:(aX 4 f a (filt g b)).fit db=true:=k2;replace k3:(aX 4 f a (filt g b)).wd ws 8≠0:=k3;show ∃ x:Pn,(aX 4 f a (filt g b)).kids[_]?=some x∧x.wd ws 8≠0∧x.fit db=true∧(aX 4 f a (filt g b)).cost db≤_;refine⟨filt g b,rfl,?_,((kQ (.inl rfl)).1 k2).2.2,?_⟩
   ·rw[qN (.inl rfl)]at k3;have:=(fJ k3).1.2.1;rw[Pn.gF _ 7 8 this (by omega)];exact this
   ·rw[EE,EF,k1,EF,EE];omega
end Go.Av
namespace Go.Proofs.YtnmimmaahhlgeaaGreat.P
open Go Go.Av G
set_option maxRecDepth 4000
set_option maxHeartbeats 8000000
theorem EvD.BQ {P Q:Pn} {db:List Tbl} (h:EvD P db):BQ Q db=decide (Q.wd (db.map Tbl.w) 8≠0):=by
 unfold Go.Av.BQ Pn.width;rw[if_pos h.ws,zS.2 h.ok];rfl
def PCX (db:List Tbl) (p:Pn) (i:Nat):AS :=
 { env:=[(0, .i (.agg p.cells)),(1, .i (.isl (gY db))),(2, .own 0 0),(4, .int 0),(5, .int (((p.evP db).rows.length:Int)+(((p.kids.map (Pn.cost db)).take i).sum:Nat))),(6, .int i),(16,jk i (.bool true))],st:=[some (.box [.i (.int p.kind), .i (.int p.table), .i (.isl (Ex.aB p.exprs)), .i (.isl (aH p.cols)), .i (.isl (Pn.aB p.kids))])] }
theorem ANJ (l:List Nat) (i:Nat):(l.take i).sum≤l.sum:=by
 conv=>rhs;rw[← zA i l]
 rw[List.sum_append_nat];omega
theorem AG5 {p:Pn} {db:List Tbl} (hdb:∀ t∈db,t.ok=true) (h:p.wd (db.map Tbl.w) 8≠0):p.cost db=(p.evP db).rows.length+(p.kids.map (Pn.cost db)).sum∧p.cost db<1000000000∧p.kids.length≤2:=by
 refine⟨by rw[Pn.oZ,XX];omega,?_,?_⟩
 ·have h1:=ALB rfl hdb p 8 h;have h2:=(Pn.JF p 8 h).2;omega
 ·rw[Pn.uJ]at h;exact Pn.BN (fJ h).1.1
theorem UT {db:List Tbl} (hdb:∀ t∈db,t.ok=true):∀ (p:Pn),p.wd (db.map Tbl.w) 8≠0→aG C0 25 [.i (.agg p.cells), .i (.isl (gY db))] []=some (.int (p.cost db),[]):=by
 intro p
 induction p using Pn.ind with
 | h k t es cs ks ih =>
  intro h;have hkids:∀ a∈ks,a.wd (db.map Tbl.w) 8≠0:=fun a ha=>(AXM h ha).1
  have c3:=GM (db:=db) rfl hdb _ 8 h;obtain⟨hc,hlt,hkl⟩:=AG5 hdb h;generalize hp:Pn.mk k t es cs ks=p at *
  have hk:ks=p.kids:=by rw[← hp];rfl
  subst hk;rw[aD rfl Tryz.func25 rfl rfl];rw[Pn.aA p]at c3 ⊢;simp[c3];rw[aS (PCX db p) p.kids.length (by simp[PCX,Pn.aA p])]
  ·rw[aF];have e9:(p.kids.map (Pn.cost db)).take p.kids.length=p.kids.map (Pn.cost db):=zZ (by simp);simp[PCX,e9,hc]
  ·intro i hi
   obtain⟨a,ha⟩:∃ a,p.kids[i]?=some a:=⟨_,zX hi⟩
   have hm:=zV ha;have i1:=ih a hm (hkids a hm);have q:=Pn.aV ha;have hT:(p.kids.map (Pn.cost db)).take (i+1)=(p.kids.map (Pn.cost db)).take i++[a.cost db]:=aP (by rw[zJ,ha];rfl);have b1:=ANJ (p.kids.map (Pn.cost db)) (i+1);have hS:((p.kids.map (Pn.cost db)).take (i+1)).sum=((p.kids.map (Pn.cost db)).take i).sum+a.cost db:=by rw[hT,List.sum_append_nat];simp
   have w2:IntKind.i64.wrap (((p.evP db).rows.length:Int)+((((p.kids.map (Pn.cost db)).take i).sum:Nat)+(a.cost db:Int)))=((p.evP db).rows.length:Int)+((((p.kids.map (Pn.cost db)).take i).sum:Nat)+(a.cost db:Int)):=wrO;have w3:IntKind.i64.wrap ((i:Int)+1)=i+1:=wrO;rw[Pn.aA a]at i1 q;simp[PCX,hi,q,i1,w3,hS,w2,zC9]
theorem V3 (p:Pn) (hp:p.thin) (db:List Tbl) (hl:db.length<1000000) (hs:∀ t∈db,t.small):aG C0 8 [.i (.agg p.cells), .i (.isl (gY db))] []=some (.int (if BQ p db=true then(p.cost db:Int)else -1),[]):=by
 have c1:=GI db hl hs;have c2:=P.OB p (Pn.J3 p hp) (if db.all Tbl.ok=true then db.map Tbl.w else []) (by split<;>simp;omega);rw[aD rfl Tryz.func8 rfl rfl];unfold BQ;by_cases ha:db.all Tbl.ok=true
 ·rw[if_pos ha]at c1 c2;by_cases hw:p.width (db.map Tbl.w)=0
  ·rw[hw]at c2;rw[Pn.aA p]at c2 ⊢;simp[c1,c2,hw]
  ·have hwd:p.wd (db.map Tbl.w) 8≠0:=(uG hw).2.1;have c3:=UT (zS.1 ha) p hwd;rw[Pn.aA p]at c2 c3 ⊢;have ha':∀ x∈db,x.ok=true:=zS.1 ha;simp[c1,c2,c3,hw,if_pos ha']
 ·rw[if_neg ha]at c1 c2;have hz:p.width []=0:=by unfold Pn.width;rw[if_neg (by simp[pO])]
  rw[hz]at c2;rw[Pn.aA p]at c2 ⊢;have ha':db.all Tbl.ok=false:=by simpa using ha
  simp[c1,c2,ha']
@[simp] theorem Y6 (a:List AV) (st:StL):aG CE 8 a st=aG C0 8 a st:=by
  rw[aN (p:=aG CR 8) rfl,aN (p:=aG C0 8) rfl]
theorem AAU (code:List UInt8):∃ (P:Pn) (db:List Tbl),aG CE 6 [.i (.isl (fF code))] []=some (.tup [.i (.agg P.cells), .i (.isl (gY db))],[])∧Drn P db:=by
 obtain⟨c,hc,hr⟩:=H6 code;obtain⟨P,db,p',h,h1,h2,h3,h4⟩:=uA hc;refine⟨P,db,?_,h1,h2,h3,fun t ht=>(h4 t ht).1,fun t ht=>(h4 t ht).2⟩;rw[aD rfl Tryz.func6 rfl rfl];rw[Pn.aA P]at *
 simp[hr,h]
@[simp] theorem AV6 (a:List AV) (st:StL):aG CW 6 a st=aG CE 6 a st:=by rw[aN (p:=aG CE 6) rfl]
@[simp] theorem AV4 (a:List AV) (st:StL):aG CW 7 a st=aG CE 7 a st:=by rw[aN (p:=aG CE 7) rfl]
@[simp] theorem ARV (a:List AV) (st:StL):aG CW 8 a st=aG C0 8 a st:=by rw[aN (p:=aG CE 8) rfl,Y6]
@[simp] theorem AbH (a:List AV) (st:StL):aG CW 12 a st=aG C0 12 a st:=by
  rw[aN (p:=aG CE 12) rfl,aN (p:=aG CR 12) rfl,aN (p:=aG C0 12) rfl]
theorem WT (code:List UInt8):aG CW 3 [.i (.isl (fF code))] []=some (.bool true,[]):=by
 rw[aD rfl Tryz.func3 rfl rfl];by_cases hl:(1048576:Int)<code.length
 ·simp[cO,hl]
 obtain⟨p,db,hd,hp⟩:=AAU code;have e1:=NE p db hp.small hp.fit;have e2:=V3 p hp.thin db (by have:=hp.len;omega) hp.small
 cases hev:BQ p db with
 | false =>
  simp only[hev,yY,if_false]at e1 e2;rw[Pn.aA p]at *
  simp[cO,hl,hd,e1,e2]
 | true =>
  have hD:=wQ.1 hev;have hf:=hp.fit hev;simp only[hev,if_true]at e1 e2;have e5:=H7 db (by have:=hp.len;omega);have hcs:=QH hev;have n0:¬ (p.cost db:Int)<0:=by omega
  by_cases hk:p.kind=2
  case neg =>
   rw[Pn.aA p]at *
   simp[cO,hl,hd,e1,e2,n0,hk]
  obtain⟨e,k,rfl⟩:=pI (mE hD.wd) hk;by_cases hk4:k.kind=4
  case neg =>
   generalize (filt e k).cost db=N at *
   simp only[filt,Pn.aZ,Pn.aB,Pn.aA k]at hd e1 e2;simp[cO,hl,hd,e1,e2,n0,hk4,hcs]
  have hstep:∀ rule:Int,rule=3∨rule=4→apO (filt e k) (db.map Tbl.w) rule []=none∨∃ q x:Pn,apO (filt e k) (db.map Tbl.w) rule []=some q∧aG C0 12 [.i (.agg q.cells), .int (rule-3)] []=some (.i (.agg x.cells),[]) ∧
   aG CE 11 [.i (.agg x.cells), .i (.isl (gY db))] []=some (.tup [.i (.agg [.int (x.evP db).w, .isl (aJ (x.evP db).rows)]), .bool true],[]) ∧
   aG CE 7 [.i (.agg q.cells), .i (.isl (gY db))] []=some (.int (q.cost db),[])∧¬ ((filt e k).cost db:Int)+(x.evP db).rows.length<q.cost db∧(x.evP db).rows.length≤400:=by
   intro rule hr
   cases h:apO (filt e k) (db.map Tbl.w) rule []with
   | none=>exact .inl rfl
   | some q =>
    right;obtain⟨k1,k2,k3⟩:=ASF hD hf h;have h':=h;unfold apO at h';rw[hD.width,if_neg hD.wd]at h';obtain⟨x,x1,x2,x3,x4⟩:=AJ3 rfl hD.ok (AQA hD.ok) hD.wd hf hr h';have y1:=AOS q (rule-3).toNat;rw[show(((rule-3).toNat:Nat):Int)=rule-3 by omega,x1]at y1
    have hX:EvD x db:=⟨hD.ok,hD.ws,x2⟩
    have y2:=CJ x db hp.small (fun _=>x3);rw[wQ.2 hX,if_pos rfl]at y2;have y3:=NE q db hp.small (fun _=>k3);rw[wQ.2 k1,if_pos rfl]at y3;exact⟨q,x,rfl,by simpa using y1,y2,y3,by omega,MI db x⟩
  have s3:=hstep 3 (.inl rfl);have s4:=hstep 4 (.inr rfl);have a3:=IE (filt e k) (db.map Tbl.w) 3 [];have a4:=IE (filt e k) (db.map Tbl.w) 4 [];clear hstep hD hp hf;generalize (filt e k).cost db=N at *
  have w4:IntKind.i64.wrap 4=4:=wrO;have w5:IntKind.i64.wrap 5=5:=wrO;have w1:IntKind.i64.wrap 1=1:=wrO;have w0:IntKind.i64.wrap 0=0:=wrO;have hz:Pn.zero.cells=[.int 0, .int 0, .isl [], .isl [], .isl []]:=by simp[Pn.zero,Pn.cells,Ex.aB,aH,Pn.aB]
  have hi0:aH []=[]:=rfl;simp only[filt,Pn.aZ,Pn.aB,Pn.aA k,hk4,hi0]at hd e1 e2 a3 a4 s3 s4
  rcases s3 with s3|⟨q,x,s3,y1,y2,y3,y4,y5⟩<;>rcases s4 with s4|⟨q',x',s4,z1,z2,z3,z4,z5⟩
  ·rw[s3]at a3;rw[s4]at a4;simp[apR,hz,aH]at a3 a4;simp[cO,hl,hd,e1,e2,n0,hk4,hcs]
   iterate 2 (rw[aF];simp[e5,a3,a4,w4,w5,w1,w0])
   rw[aF];simp
  ·rw[s3]at a3;rw[s4]at a4;rw[Pn.aA q']at *
   rw[Pn.aA x']at *
   generalize x'.evP db=X' at *
   have wx:IntKind.i64.wrap ((N:Int)+X'.rows.length)=N+X'.rows.length:=wrO;simp[apR,hz,aH,Pn.aA q']at a3 a4;simp at z1;simp[cO,hl,hd,e1,e2,n0,hk4,hcs]
   iterate 2 (rw[aF];simp[e5,a3,a4,w4,w5,w1,w0,z1,z2,z3,z4,wx])
   rw[aF];simp
  ·rw[s3]at a3;rw[s4]at a4;rw[Pn.aA q]at *
   rw[Pn.aA x]at *
   generalize x.evP db=X at *
   have wx:IntKind.i64.wrap ((N:Int)+X.rows.length)=N+X.rows.length:=wrO;simp[apR,hz,aH,Pn.aA q]at a3 a4;simp at y1;simp[cO,hl,hd,e1,e2,n0,hk4,hcs]
   iterate 2 (rw[aF];simp[e5,a3,a4,w4,w5,w1,w0,y1,y2,y3,y4,wx])
   rw[aF];simp
  ·rw[s3]at a3;rw[s4]at a4;rw[Pn.aA q]at *
   rw[Pn.aA x]at *
   rw[Pn.aA q']at *
   rw[Pn.aA x']at *
   generalize x.evP db=X at *
   generalize x'.evP db=X' at *
   have wx:IntKind.i64.wrap ((N:Int)+X.rows.length)=N+X.rows.length:=wrO;have wx':IntKind.i64.wrap ((N:Int)+X'.rows.length)=N+X'.rows.length:=wrO;simp[apR,hz,aH,Pn.aA q,Pn.aA q']at a3 a4;simp at y1 z1;simp[cO,hl,hd,e1,e2,n0,hk4,hcs]
   iterate 2 (rw[aF];simp[e5,a3,a4,w4,w5,w1,w0,y1,y2,y3,y4,z1,z2,z3,z4,wx,wx'])
   rw[aF];simp
set_option maxHeartbeats 4000000
theorem DX (a:Option Addr) (len cap:Nat) (zs:List Int) (w:World)
 (h:(a=none∧len=0∧cap=0∧zs=[])∨∃ x,a=some x∧len≤cap∧cap≤maxLen∧zs.length=cap∧(∀ i,i<zs.length→w.cell? (x.add i)=some (.int .u8 (zs.getD i 0)))∧∀ n∈zs,(Lit.int .u8 n).wf=true) :
 Calls Tryz.prog 3 #[.slice a len cap] w fun e w'=>e=.returned (.bool true)∧RowKit.Below w.heap.size w w':=by
 obtain⟨code,hc⟩:=YB h;exact QN AR1 (.cons (.i hc) .nil) (WT code)
theorem pQ (a:Option Addr) (len cap:Nat) (zs:List Int) (w:World)
 (h:(a=none∧len=0∧cap=0∧zs=[])∨∃ x,a=some x∧len≤cap∧cap≤maxLen∧zs.length=cap∧(∀ i,i<zs.length→w.cell? (x.add i)=some (.int .u8 (zs.getD i 0)))∧∀ n∈zs,(Lit.int .u8 n).wf=true) :
 Calls Tryz.prog 4 #[.slice a len cap] w fun e w'=>e=.returned (.bool true)∧RowKit.Below w.heap.size w w':=by
 obtain⟨code,hc⟩:=YB h;exact QN AR1 (.cons (.i hc) .nil) (A9 code)
end Go.Proofs.YtnmimmaahhlgeaaGreat.P
namespace Go.Proofs.YtnmimmaahhlgeaaGreat.io
open Go
set_option maxRecDepth 100000
abbrev chs (l:List Nat):List Char:=l.map Char.ofNat
def w0:List Nat:=[104,97,114,110,101,115,115]
def w1:List Nat:=[48,54,53,49,98,57,56,101,54,51,57,57,102,52,54,48,53,49,55,55,102,48,53,98,55,54,49,97,102,56,54,53,53,48,50,51,101,97,53,57,
 48,54,99,48,57,100,54,53,56,51,99,98,102,54,48,54,100,48,97,49,51,99,97,48]
def w2:List Nat:=[99,117,116]
def others:List Nat:=[
 97,116,32,108,111,111,112,46,101,120,97,109,112,108,101,47,113,117,101,114,121,111,112,116,105,109,105,122,101,114,47,108,97,119,115,46,70,110,80,117,
 115,104,67,111,115,116,32,108,111,111,112,46,101,120,97,109,112,108,101,47,113,117,101,114,121,111,112,116,105,109,105,122,101,114,47,108,97,119,115,46,
 70,110,78,111,114,109,97,108,105,122,101,100,82,101,115,117,108,116,32,108,111,111,112,46,101,120,97,109,112,108,101,47,113,117,101,114,121,111,112,116,
 105,109,105,122,101,114,47,108,97,119,115,46,70,110,65,112,112,108,121,83,116,101,112]
theorem order:Tryz.pinned.checked.prog.initOrder=String.ofList (chs w0++Char.ofNat 32::(chs w1++Char.ofNat 32::(chs w2++Char.ofNat 32::chs others))):=by kernel_rfl
theorem word:∀ (w r:List Char),(w.all fun c=>decide (c≠Char.ofNat 32))=true→wordsSigns (w++Char.ofNat 32::r)=w::wordsSigns r
 | [],r,_=>rfl
 | c::w,r,h=>by
  simp only[zF9,zU,zR]at h;have ih:=word w r h.2;rw[yO,wordsSigns,ih];intro e;exact h.1 e
theorem words:wordsSigns Tryz.pinned.checked.prog.initOrder.toList=chs w0::chs w1::chs w2::wordsSigns (chs others):=by
 rw[order,String.toList_ofList,word _ _ (by decide),word _ _ (by decide),word _ _ (by decide)]
theorem OT (c:List Char) (r:List (List Char)):∀ l:List String,(l.all fun o=>!(c == o.toList))=true→stripLifts l (c::r)=([],c::r)
 | [],_=>rfl
 | o::l,h=>by
  simp only[zF9,zU,Bool.not_eq_true']at h;have ih:=OT c r l h.2;rw[stripLifts,h.1];exact ih
theorem behind (a b c:List Char) (r:List (List Char)) (ha:a= "harness".toList) (hb:isSumSigns b=true):behindMainWord (a::b::c::r)=c::r:=by
 show(if((a == "harness".toList || a == "ownmain".toList) && isSumSigns b)=true then c::r else a::b::c::r)=c::r;rw[if_pos (by rw[hb,ha];simp)]
theorem enters_of (P:Program) (c:List Char) (r:List (List Char)) (h:behindMainWord (wordsSigns P.initOrder.toList)=c::r) (hc:c= "cut".toList) (hs:stripLifts liftWords (c::r)=([],c::r)) (l1:P.laysLater=false) (l2:P.bearsReflect=false) (l3:P.doorFits []=true):P.mayEnter=true:=by
 unfold Program.mayEnter;rw[h];simp only[hs,l1,l2,l3];simp[hc]
theorem AOQ (P:Program) (c:List Char) (r:List (List Char)) (h:behindMainWord (wordsSigns P.initOrder.toList)=c::r) (hc:c= "cut".toList) (hs:stripLifts liftWords (c::r)=([],c::r)):P.liftsFinal=false:=by
 unfold Program.liftsFinal Program.headLifts;rw[h];simp only[hs];simp[hc]
theorem AOK (P:Program) (c:List Char) (r:List (List Char)) (h:behindMainWord (wordsSigns P.initOrder.toList)=c::r) (hc:c= "cut".toList):P.make=some .cut:=by
 unfold Program.make;rw[h];simp[hc]
theorem front:behindMainWord (wordsSigns Tryz.pinned.checked.prog.initOrder.toList)=chs w2::wordsSigns (chs others):=by
 rw[words,behind _ _ _ _ (by decide +kernel) (by decide +kernel)]
theorem Ad2:chs w2= "cut".toList:=by decide +kernel
theorem strips (r:List (List Char)):stripLifts liftWords (chs w2::r)=([],chs w2::r):=OT _ _ _ (by decide +kernel)
theorem enters:Tryz.pinned.checked.prog.mayEnter=true:=enters_of _ _ _ front Ad2 (strips _) (by kernel_rfl) (by kernel_rfl) (by kernel_rfl)
theorem lifts:Tryz.pinned.checked.prog.liftsFinal=false:=AOQ _ _ _ front Ad2 (strips _)
theorem makes:Tryz.pinned.checked.prog.make=some .cut:=AOK _ _ _ front Ad2
theorem laid:laidOutB Tryz.pinned.checked.prog=true:=by kernel_rfl
theorem AYC:mapsRowed Tryz.pinned.checked.prog=true:=by kernel_rfl
theorem AJP:Tryz.pinned.checked.prog.stops=[]:=by kernel_rfl
theorem AJQ:Tryz.pinned.checked.prog.stopKnobs=[]:=by kernel_rfl
theorem plain:Tryz.pinned.checked.prog.plainKeys=true:=by kernel_rfl
theorem heard:Tryz.pinned.checked.prog.stopsHeard=true:=by kernel_rfl
theorem l9 {a b:Bool} (h:a=true) (k:b=true):(a && b)=true:=by rw[h,k];rfl
end Go.Proofs.YtnmimmaahhlgeaaGreat.io

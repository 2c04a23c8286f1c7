/- Part 7 of what the proof rests on: the executor and what it is worth, and the program's functions as it runs them. No condition. -/
import Derived.Test.YtjdfjgmebalaaaaGreatT6
set_option linter.unusedVariables false
set_option linter.unusedSimpArgs false
namespace Go.Av
open Go.Av.Mk
def Pn.mkK (k:Int) (q:Pn):Pn:=.mk q.kind q.table (Ex.kD k q.exprs) (BN (k+4*(Ex.aL q.exprs:Nat)) q.cols) (Pn.lI (k+4*(Ex.aL q.exprs:Nat)+(q.cols.length:Nat)) q.kids)
theorem I6 (l:List Ex) (k:Int):(Ex.kD k l).length=l.length:=by rw[wW];exact dQ _ _ l k
theorem BP (l:List Pn) (k:Int):(Pn.lI k l).length=l.length:=by rw[rJ];exact dQ _ _ l k
theorem MR (l:List Int) (k:Int):(BN k l).length=l.length:=dQ _ _ l k
theorem VM {l:List Ex} (h:l≠[]) (k:Int):Ex.kD k l≠[]:=fun e=>by have:=I6 l k;rw[e]at this;exact h (zW.1 (by simpa using this.symm))
theorem PY {l:List Pn} (h:l≠[]) (k:Int):Pn.lI k l≠[]:=fun e=>by have:=BP l k;rw[e]at this;exact h (zW.1 (by simpa using this.symm))
theorem AL2 {l:List Int} (h:l≠[]) (k:Int):BN k l≠[]:=fun e=>by have:=MR l k;rw[e]at this;exact h (zW.1 (by simpa using this.symm))
theorem AB1 {q:Pn} {k:Int}:rqB (q.mkK k)=(if q.exprs=[]then []else [some (.tre 5 (Ex.aA (Ex.kD k q.exprs)))])++((if q.cols=[]then []else [some (.arr 1 (aF (BN (k+4*(Ex.aL q.exprs:Nat)) q.cols)))])++(if q.kids=[]then []else [some (.tre 5 (Pn.aA (Pn.lI (k+4*(Ex.aL q.exprs:Nat)+(q.cols.length:Nat)) q.kids)))])):=by
 unfold rqB Pn.mkK;simp only[Pn.bR,Pn.eB,Pn.gI]
 by_cases q1:q.exprs=[]<;>by_cases q2:q.cols=[]<;>by_cases q3:q.kids=[] <;>
  simp[q1,q2,q3,Ex.kD,Pn.lI,fB,Pn.dX,Pn.iF,Pn.bR,Pn.eB,Pn.gI,VM,PY,AL2]
theorem AC0 (q:Pn):(q.mk4:Int)=4*(Ex.aL q.exprs:Nat)+((q.cols.length:Nat)+(Pn.mzL q.kids:Nat)):=by unfold Pn.mk4;push_cast;rfl
end Go.Av
namespace Go.Proofs.YtjdfjgmebalaaaaGreat.P
open Go Go.Av Go.Av.Mk
set_option maxRecDepth 4000
set_option maxHeartbeats 8000000
theorem TS {q:Pn} {k:Int} (h0:0≤k) (h1:k+(q.mk4:Nat)<1000000000000):aI C0 38 [.i (.agg (q.mkK k).cells), .int k] []=some (.int (k+(q.mk4:Nat)),[]):=by
 have hm:=AC0 q;have c1:=AJA q.exprs k h0 (by omega);have c2:=VY q.cols (k+4*(Ex.aL q.exprs:Nat)) (by omega) (by omega);have c3:=YI q (k+4*(Ex.aL q.exprs:Nat)+(q.cols.length:Nat)) (by omega) (by omega);have n1:¬ k+4*(Ex.aL q.exprs:Int)<0:=by omega
 have n2:¬ k+4*(Ex.aL q.exprs:Int)+(q.cols.length:Int)<0:=by omega
 have n3:¬ k+4*(Ex.aL q.exprs:Int)+(q.cols.length:Int)+(Pn.mzL q.kids:Int)<0:=by omega
 rw[aD rfl Tryz.func38 rfl rfl,Pn.aB];have hm2:k+(q.mk4:Int)=k+4*(Ex.aL q.exprs:Nat)+(q.cols.length:Nat)+(Pn.mzL q.kids:Nat):=by omega
 rw[hm2];simp[Pn.mkK,Pn.dX,Pn.iF,Pn.bR,Pn.eB,Pn.gI,c1,c2,c3,n1,n2,n3]
attribute [local simp] F8 ACI give uB uL wD FV mfA mfR ANA ANB mfC AJ0 mfB.eq_1 mfB.eq_2 mfB.eq_7 l8 wS
noncomputable def AKS:FuncId→Option (List AV→StL→Option (AV×StL))
 | 6=>none
 | 29=>none
 | 30=>none
 | 37=>none
 | 73=>some (uW Pn.cells Pn.qU Pn.mz 5)
 | 72=>some (uW Ex.cells Ex.tQ exZ 5)
 | 13=>some (F8 (aI CT) 13)
 | 14=>some (F8 (aI CT) 14)
 | 35=>some (F8 (aI CT) 35)
 | 26=>some (F8 (aI C5) 26)
 | 34=>some (give (aI C0) 34)
 | g=>if g=tN then none else some (F8 (aI C0) g)
noncomputable def CZ:Ctx:={ P:=Tryz.prog,G:=GS,ownArgs:=fun _=>true,keepRes:=fun _=>false,eqT:=EN,prim:=AKS,tree:=true }
@[simp] theorem Ai4:CZ.P=Tryz.prog:=(rfl)
@[simp] theorem Ai5 (f):CZ.G f=GS f:=(rfl)
@[simp] theorem Ai1 (f):CZ.ownArgs f=true:=(rfl)
@[simp] theorem Ai2 (f):CZ.keepRes f=false:=(rfl)
@[simp] theorem Ai3 (f):CZ.eqT f=EN f:=(rfl)
@[simp] theorem Ai0:CZ.tree=true:=(rfl)
theorem APT:PrimOk CZ:=by
 have h0:=bH dK;have hT:=bH AP5;have hK:=bH AP6
 have key:∀ g q,CZ.prim g=some q→(g=73∧q=uW Pn.cells Pn.qU Pn.mz 5)∨(g=72∧q=uW Ex.cells Ex.tQ exZ 5)∨(g=13∧q=F8 (aI CT) g)∨(g=14∧q=F8 (aI CT) g)∨(g=35∧q=F8 (aI CT) g)∨(g=26∧q=F8 (aI C5) g)∨(g=34∧q=give (aI C0) g)∨(g≠tN∧q=F8 (aI C0) g):=by
  intro g q h;have h:AKS g=some q:=h;unfold AKS at h;split at h
  all_goals first
   | (cases h;done)
   | (injection h with h;subst h;simp;done)
   | (split at h
      ·cases h
      ·rename_i hy;injection h with h;subst h;exact .inr (.inr (.inr (.inr (.inr (.inr (.inr ⟨hy,rfl⟩)))))))
 constructor
 ·intro g args st p h;unfold eH at h
  cases hq:CZ.prim g with
  | none=>rw[hq]at h;cases h
  | some q =>
   rw[hq]at h
   rcases key g q hq with ⟨rfl,rfl⟩|⟨rfl,rfl⟩|⟨rfl,rfl⟩|⟨rfl,rfl⟩|⟨rfl,rfl⟩|⟨rfl,rfl⟩|⟨rfl,rfl⟩|⟨hy,rfl⟩
   ·exact⟨Tryz.f73,Tryz.func73,by decide,rfl⟩
   ·exact⟨Tryz.f72,Tryz.func72,by decide,rfl⟩
   ·exact(fZ hT (r:=p.1) (stl':=p.2) h).1
   ·exact(fZ hT (r:=p.1) (stl':=p.2) h).1
   ·exact(fZ hT (r:=p.1) (stl':=p.2) h).1
   ·exact(fZ hK (r:=p.1) (stl':=p.2) h).1
   ·exact(L8 h0 (r:=p.1) (stl':=p.2) h).1
   ·exact(fZ h0 (r:=p.1) (stl':=p.2) h hy).1
 ·intro g args st r st' h w m φ vs hi hr hb;unfold eH at h
  cases hq:CZ.prim g with
  | none=>rw[hq]at h;cases h
  | some q =>
   rw[hq]at h
   rcases key g q hq with ⟨rfl,rfl⟩|⟨rfl,rfl⟩|⟨rfl,rfl⟩|⟨rfl,rfl⟩|⟨rfl,rfl⟩|⟨rfl,rfl⟩|⟨rfl,rfl⟩|⟨hy,rfl⟩
   ·exact KT (C:=C0) APX (fun e=>by rw[Pn.aB];rfl) Pn.CB h w m φ vs hi hr hb
   ·exact KT (C:=C0) AJB (fun e=>by rw[Ex.aB];rfl) Ex.CB h w m φ vs hi hr hb
   ·exact(fZ hT h).2 w m φ vs hi hr hb
   ·exact(fZ hT h).2 w m φ vs hi hr hb
   ·exact(fZ hT h).2 w m φ vs hi hr hb
   ·exact(fZ hK h).2 w m φ vs hi hr hb
   ·exact(L8 h0 h).2 w m φ vs hi hr hb
   ·exact(fZ h0 h hy).2 w m φ vs hi hr hb
theorem AP4:SoundOk CZ:=pG (C:=CZ) ft nt eqS mo APT
theorem AET {p:Pn} (hf:p.fat) {left:Int} (h0:0≤left) (h1:left<1000000000):aI CZ 10 [.i (.agg p.cells), .int left] []=some (.int (dA left p.meas),[]):=by
 rw[bP (C:=CZ) (p:=F8 (aI C0) 10) rfl];have h:=AAP p hf left h0 h1;simp[h]
theorem AEQ {p:Pn} (ht:p.thin):aI CZ 13 [.i (.agg p.cells)] []=some (tP p 0,tPB p):=by
 rw[bP (C:=CZ) (p:=F8 (aI CT) 13) rfl];simp[AOC p ht,tP,tPB,fK]
theorem AER {l:List Int} (hl:l.length<1000000000):aI CZ 14 [.i (.isl (aF l))] []=some (.osl 0 1 0 l.length,[some (.arr 1 (aF l))]):=by
 rw[bP (C:=CZ) (p:=F8 (aI CT) 14) rfl];simp[AAK l hl,fK]
def tS (s:Stp) (j:Nat):AV:=.agg [.int s.1, .osl j 1 0 s.2.length]
theorem AJU (s:Stp) (hl:s.2.length<1000000000):aI CT 35 [.i (.agg [.int s.1, .isl (aF s.2)])] []=some (tS s 0,[some (.arr 1 (aF s.2))]):=by
 rw[aD rfl Tryz.func35 rfl rfl];simp[AAK s.2 hl,tS]
theorem AEP {s:Stp} (hl:s.2.length<1000000000):aI CZ 35 [.i (.agg [.int s.1, .isl (aF s.2)])] []=some (tS s 0,[some (.arr 1 (aF s.2))]):=by
 rw[bP (C:=CZ) (p:=F8 (aI CT) 35) rfl];have h:=AJU s hl;simp only[tS]at h;simp[h,tS,fK]
theorem AES {s:Stp} (hl:s.2.length<9223372036854775808) {left:Int} (h0:0≤left) (h1:left<1000000000):aI CZ 33 [.i (.agg [.int s.1, .isl (aF s.2)]), .int left] []=some (.int (dA left s.2.length),[]):=by
 rw[bP (C:=CZ) (p:=F8 (aI C0) 33) rfl];have h:=AAO s hl left h0 h1;simp[h]
theorem AEU {s:Stp} (hl:s.2.length<9223372036854775808):aI CZ 36 [tS s 0,tS s 1] [some (.arr 1 (aF s.2)),some (.arr 1 (aF s.2))]=some (.bool true,[some (.arr 1 (aF s.2)),some (.arr 1 (aF s.2))]):=by
 have h:=U0 s hl;rw[bP (C:=CZ) (p:=F8 (aI C0) 36) rfl];have hb:=iQ s.2;simp[tS,h,hb]
theorem O5 {p:Pn} (hp:p.thin) {ws:List Int} (hl:ws.length<1000000000) {s:Stp} (hs:s.2.length<1000000000):aI CZ 34 [tP p 0, .osl 3 1 0 ws.length,tS s 4] (tPB p++([some (.arr 1 (aF ws))]++[some (.arr 1 (aF s.2))]))=some (.tup [.i (.agg (FB (apO p ws s.1 s.2)).cells), .bool (apO p ws s.1 s.2).isSome],[none,none,none,none,none]):=by
 have h:=MB p hp ws hl s.1 s.2 hs
 have hr:apR (apO p ws s.1 s.2)=(.tup [.i (.agg (FB (apO p ws s.1 s.2)).cells), .bool (apO p ws s.1 s.2).isSome],[]):=by
  cases apO p ws s.1 s.2<;>rfl
 rw[hr]at h;rw[bP (C:=CZ) (p:=give (aI C0) 34) rfl];rw[Pn.aB p]at h;simp only[Ex.bJ p.exprs,Pn.bJ p.kids]at h;have ha:=iQ ws;have hb:=iQ p.cols;have hc:=iQ s.2;generalize FB (apO p ws s.1 s.2)=q at h ⊢;generalize (apO p ws s.1 s.2).isSome=b at h ⊢;rw[Pn.aB q]at h ⊢;simp[tP,tPB,tS,h,ha,hb,hc]
theorem RV {p:Pn} {ws:List Int} {s:Stp}:aI CZ 26 [tP p 0, .osl 3 1 0 ws.length,tS s 4] (tPB p++([some (.arr 1 (aF ws))]++[some (.arr 1 (aF s.2))]))=some (.tup [rqA (FB (apO p ws s.1 s.2)) 5, .bool (apO p ws s.1 s.2).isSome],tPB p++([some (.arr 1 (aF ws))]++([some (.arr 1 (aF s.2))]++rqB (FB (apO p ws s.1 s.2))))):=by
 have h:=AHE p ws s.1 s.2;simp only[ARB]at h;rw[bP (C:=CZ) (p:=F8 (aI C5) 26) rfl];rw[Pn.aB p]at h;simp only[Ex.bJ p.exprs,Pn.bJ p.kids]at h;have ha:=iQ ws;have hb:=iQ p.cols;have hc:=iQ s.2;have hg:(apO p ws s.1 s.2).getD Pn.zero=FB (apO p ws s.1 s.2):=rfl;rw[hg]at h;generalize FB (apO p ws s.1 s.2)=q at h ⊢;generalize (apO p ws s.1 s.2).isSome=b at h ⊢;have b4:=fK q.cols
 by_cases q1:q.exprs=[]<;>by_cases q2:q.cols=[]<;>by_cases q3:q.kids=[] <;>
  (simp only[rqA,rqB,q1,q2,q3,if_true,if_false,yD,yU,yO]at h ⊢
   simp[tP,tPB,tS,h,ha,hb,hc,b4])
theorem AA6 {p:Pn} (hp:p.fat):aI CZ 17 [tP p 0,tP p 3] (tPB p++tPB p)=some (.bool true,tPB p++tPB p):=by
 have h:=JA p hp;rw[bP (C:=CZ) (p:=F8 (aI C0) 17) rfl];rw[Pn.aB,Ex.bJ,Pn.bJ]at h;have hb:=iQ p.cols;simp[tP,tPB,h,hb]
theorem AA7 {q:Pn} (hq:q.fat):aI CZ 17 [rqA q 0, .i (.agg q.cells)] (rqB q)=some (.bool true,rqB q):=by
 have h:=JA q hq;rw[bP (C:=CZ) (p:=F8 (aI C0) 17) rfl];rw[Pn.aB]at h ⊢;have b1:=AIK q.exprs;have b2:=AIJ q.cols;have b3:=AII q.kids;have b4:=fK q.cols
 by_cases q1:q.exprs=[]<;>by_cases q2:q.cols=[]<;>by_cases q3:q.kids=[] <;>
  (simp only[rqA,rqB,q1,q2,q3,if_true,if_false,yD,yU,yO,Ex.aA,aF,Pn.aA]at h b1 b2 b3 b4 ⊢
   simp[h,b1,b2,b3,b4])
theorem AEW {l:List Int} (hl:l.length<9223372036854775808):aI CZ 18 [.osl 0 1 0 l.length, .osl 1 1 0 l.length] [some (.arr 1 (aF l)),some (.arr 1 (aF l))]=some (.bool true,[some (.arr 1 (aF l)),some (.arr 1 (aF l))]):=by
 have h:=vJ l hl;rw[bP (C:=CZ) (p:=F8 (aI C0) 18) rfl];have hb:=iQ l;simp[h,hb]
def MIZ (l:List Int) (k:Int) (i:Nat):AS :=
 { env:=[(0, .osl 0 1 0 l.length),(1, .int (k+i)),(4, .int 0),(5, .int i),(9,jk i (.bool true))],st:=[some (.arr 1 (aF ((BN k l).take i++l.drop i)))] }
theorem sJ {l:List Int} {k:Int} (h0:0≤k) (h1:k+(l.length:Nat)<1000000000000):aI CZ 30 [.osl 0 1 0 l.length, .int k] [some (.arr 1 (aF l))]=some (.int (k+(l.length:Nat)),[some (.arr 1 (aF (BN k l)))]):=by
 rw[aD rfl Tryz.func30 rfl rfl];have hlen:(BN k l).length=l.length:=dQ AN8 AIW l k;simp;rw[aU (MIZ l k) l.length (by simp[MIZ])]
 ·rw[aH];have ht:(BN k l).take l.length=BN k l:=zY (by omega);simp[MIZ,ht]
 ·intro i hi;have hs:=aM (VF l k hi);have hd:=yH hi;generalize l[i]=a at hd;have hA:(aF ((BN k l).take i)).length=i:=by simp[hlen];omega
  have w2:IntKind.i64.wrap ((i:Int)+1)=i+1:=wrO;have w3:IntKind.i64.wrap (k+i+1)=k+(i+1):=by rw[wrO];omega
  have g1:fO (aF ((BN k l).take i)++[.int a]::aF (l.drop (i+1))) i=some [.int a]:=by
   have:=mI (aF ((BN k l).take i)) [IV.int a] (aF (l.drop (i+1)))
   rwa [hA]at this
  have g2:(aF ((BN k l).take i)++[.int a]::aF (l.drop (i+1))).set i [.int (k+i)]=aF ((BN k l).take i)++[.int (k+i)]::aF (l.drop (i+1)):=by
   rw[xB _ _ (by omega),hA,zD1,zB0]
  have e1:aF ((BN k l).take i++l.drop i)=aF ((BN k l).take i)++[.int a]::aF (l.drop (i+1)):=by
   rw[fE,hd];rfl
  have e2:aF ((BN k l).take (i+1)++l.drop (i+1))=aF ((BN k l).take i)++[.int (k+i)]::aF (l.drop (i+1)):=by
   rw[hs,fE,fE,yX];rfl
  simp only[MIZ,e1,e2];simp[hi,g1,g2,w2,w3]
theorem RQ {k:Int}:aI CZ 30 [.nils, .int k] []=some (.int k,[]):=by
 rw[aD rfl Tryz.func30 rfl rfl];simp;rw[aH];simp
theorem X3 {s:Stp} {k:Int} (h0:0≤k) (h1:k+(s.2.length:Nat)<1000000000000):aI CZ 37 [tS s 0, .int k] [some (.arr 1 (aF s.2))]=some (.int (k+(s.2.length:Nat)),[some (.arr 1 (aF (BN k s.2)))]):=by
 have h:=sJ (l:=s.2) h0 h1;rw[aD rfl Tryz.func37 rfl rfl];simp[tS,h]
theorem O7 {l:List Ex} {k:Int} (h0:0≤k) (h1:k+4*(Ex.aL l:Nat)<1000000000000):aI CZ 72 [.osl 0 5 0 l.length, .int k] [some (mU Ex.cells 5 l)]=some (.int (k+4*(Ex.aL l:Nat)),[some (mU Ex.cells 5 (Ex.kD k l))]):=by
 rw[bP (C:=CZ) (p:=uW Ex.cells Ex.tQ exZ 5) rfl];have:=VL (W:=5) (mk:=Ex.tQ) (sz:=exZ) Ex.CE (l:=l) (k:=k) h0 (by rw[sO];push_cast;omega);rw[sO,← wW]at this;push_cast at this;exact this
theorem X5 {k:Int} (h0:0≤k) (h1:k<1000000000000):aI CZ 72 [.nils, .int k] []=some (.int k,[]):=by
 rw[bP (C:=CZ) (p:=uW Ex.cells Ex.tQ exZ 5) rfl];simp[uW,h0,h1]
theorem O6 {l:List Pn} {k:Int} (h0:0≤k) (h1:k+(Pn.mzL l:Nat)<1000000000000):aI CZ 73 [.osl 0 5 0 l.length, .int k] [some (mU Pn.cells 5 l)]=some (.int (k+(Pn.mzL l:Nat)),[some (mU Pn.cells 5 (Pn.lI k l))]):=by
 rw[bP (C:=CZ) (p:=uW Pn.cells Pn.qU Pn.mz 5) rfl];have:=VL (W:=5) (mk:=Pn.qU) (sz:=Pn.mz) Pn.QU (l:=l) (k:=k) h0 (by rw[sN];omega);rw[sN,← rJ]at this;exact this
theorem X4 {k:Int} (h0:0≤k) (h1:k<1000000000000):aI CZ 73 [.nils, .int k] []=some (.int k,[]):=by
 rw[bP (C:=CZ) (p:=uW Pn.cells Pn.qU Pn.mz 5) rfl];simp[uW,h0,h1]
theorem RO {p:Pn} {k:Int} (h0:0≤k) (h1:k+(p.mk4:Nat)<1000000000000):aI CZ 29 [tP p 0, .int k] (tPB p)=some (.int (k+(p.mk4:Nat)),tPB (p.mkK k)):=by
 have hm:=AC0 p;have c1:=O7 (l:=p.exprs) h0 (by omega);have c2:=sJ (l:=p.cols) (k:=k+4*(Ex.aL p.exprs:Nat)) (by omega) (by omega);have c3:=O6 (l:=p.kids) (k:=k+4*(Ex.aL p.exprs:Nat)+(p.cols.length:Nat)) (by omega) (by omega);rw[aD rfl Tryz.func29 rfl rfl];have hm2:k+(p.mk4:Int)=k+4*(Ex.aL p.exprs:Nat)+(p.cols.length:Nat)+(Pn.mzL p.kids:Nat):=by omega
 rw[hm2];simp[tP,tPB,Pn.mkK,Pn.dX,Pn.iF,Pn.bR,Pn.eB,Pn.gI,c1,c2,c3]
theorem RP {q:Pn} {k:Int} (h0:0≤k) (h1:k+(q.mk4:Nat)<1000000000000):aI CZ 29 [rqA q 0, .int k] (rqB q)=some (.int (k+(q.mk4:Nat)),rqB (q.mkK k)):=by
 have hm:=AC0 q;have hm2:k+(q.mk4:Int)=k+4*(Ex.aL q.exprs:Nat)+(q.cols.length:Nat)+(Pn.mzL q.kids:Nat):=by omega
 rw[aD rfl Tryz.func29 rfl rfl,AB1,hm2];by_cases q1:q.exprs=[]<;>by_cases q2:q.cols=[]<;>by_cases q3:q.kids=[]
 all_goals
  have c1:=O7 (l:=q.exprs) h0 (by omega);have c2:=sJ (l:=q.cols) (k:=k+4*(Ex.aL q.exprs:Nat)) (by omega) (by omega);have c3:=O6 (l:=q.kids) (k:=k+4*(Ex.aL q.exprs:Nat)+(q.cols.length:Nat)) (by omega) (by omega);have d1:=X5 h0 (by omega);have d2:=RQ (k:=k+4*(Ex.aL q.exprs:Nat));have d3:=X4 (k:=k+4*(Ex.aL q.exprs:Nat)+(q.cols.length:Nat)) (by omega) (by omega)
  try rw[mX q1,mX (VM q1 k),← Ex.bJ,← Ex.bJ]at c1
  try rw[mX q3,mX (PY q3 _),← Pn.bJ,← Pn.bJ]at c3
  simp only[rqA,rqB,q1,q2,q3,if_true,if_false,yD,yU,yO,Ex.aL,Pn.mzL,yN]at c1 c2 c3 d1 d2 d3 ⊢
  try simp at c1 c2 c3 d1 d2 d3
  simp[c1,c2,c3,d1,d2,d3]
theorem RU {q:Pn} {k:Int} (h0:0≤k) (h1:k+(q.mk4:Nat)<1000000000000):aI CZ 38 [rqA q 0, .int k] (rqB (q.mkK k))=some (.int (k+(q.mk4:Nat)),rqB (q.mkK k)):=by
 have h:=TS h0 h1;rw[bP (C:=CZ) (p:=F8 (aI C0) 38) rfl];rw[Pn.aB]at h;simp only[Pn.mkK,Pn.dX,Pn.iF,Pn.bR,Pn.eB,Pn.gI]at h;rw[AB1];have b1:=AIK (Ex.kD k q.exprs);have b2:=AIJ (BN (k+4*(Ex.aL q.exprs:Nat)) q.cols);have b3:=AII (Pn.lI (k+4*(Ex.aL q.exprs:Nat)+(q.cols.length:Nat)) q.kids);have b4:=fK (BN (k+4*(Ex.aL q.exprs:Nat)) q.cols);rw[I6]at b1;rw[MR]at b2;rw[BP]at b3
 by_cases q1:q.exprs=[]<;>by_cases q2:q.cols=[]<;>by_cases q3:q.kids=[] <;>
  (simp only[rqA,q1,q2,q3,if_true,if_false,yD,yU,yO,Ex.aA,aF,Pn.aA,Ex.kD,Pn.lI,fB]at h b1 b2 b3 b4 ⊢
   try simp at h
   simp[h,b1,b2,b3,b4,I6,BP,MR])
end Go.Proofs.YtjdfjgmebalaaaaGreat.P
namespace Go.Proofs.YtjdfjgmebalaaaaGreat.P
open Go Go.Av
set_option maxRecDepth 4000
set_option maxHeartbeats 1000000
noncomputable def AT8:FuncId→Option (List AV→StL→Option (AV×StL))
 | 3=>none
 | 10=>some (aI C0 10)
 | 11=>some (aI C0 11)
 | 13=>some (aI C0 13)
 | 14=>some (aI C0 14)
 | 15=>some (aI C0 15)
 | 17=>some (aI C0 17)
 | 18=>some (aI C0 18)
 | 19=>some (aI C0 19)
 | 16=>some (aI CA 16)
 | 12=>some (aI CA 12)
 | g=>APW g
noncomputable def CXk:Ctx:={ P:=Tryz.prog,G:=GS,ownArgs:=ARY,keepRes:=ALC,eqT:=EN,prim:=AT8 }
@[simp] theorem Ae9:CXk.P=Tryz.prog:=(rfl)
@[simp] theorem AeA (f):CXk.G f=GS f:=(rfl)
@[simp] theorem Ae6 (f):CXk.ownArgs f=ARY f:=(rfl)
@[simp] theorem Ae7 (f):CXk.keepRes f=(keepR f || decide (f=159)):=(rfl)
@[simp] theorem Ae8 (f):CXk.eqT f=EN f:=(rfl)
@[simp] theorem Ae5:CXk.tree=false:=(rfl)
section
variable {H:Type} {enc:TypeId×Value→H} {w:World} {sp:Nat→Bool}
theorem ceT:Tryz.prog.cellsOf 62=2:=by kernel_rfl
theorem ALW {fuel:Nat} {cs:List Value} {r:DataW H×List MemPlace} (h:DataW.trod enc Tryz.prog w 0 sp true fuel 62 cs=some r):∃ s:Stp,s.2.length<9223372036854775808∧ICells (dS w) [.int s.1, .isl (aF s.2)] cs:=by
 obtain⟨xs,n,rfl,_,hl,hx,hf⟩:=DataW.trod_struct Tryz.underlying62 h;rw[ceT]at hl;have h0:DataW.trod enc Tryz.prog w 0 sp true n 3 ((cs.drop 0).take (Tryz.prog.cellsOf 3))=xs[0]?:=hf 0 _ rfl;have h1:DataW.trod enc Tryz.prog w 0 sp true n 23 ((cs.drop 1).take (Tryz.prog.cellsOf 23))=xs[1]?:=hf 1 _ rfl;rw[ceI]at h0;rw[AVQ]at h1;have hx:xs.length=2:=hx;rw[zX (by omega)]at h0 h1;obtain⟨k0,hk0,_⟩:=DataW.trod_int Tryz.underlying3 h0
 match cs,hl with
 | [c0,c1],_ =>
  simp at hk0 h1;subst hk0;obtain⟨is,li,ri⟩:=TP h1;exact⟨(k0,is),li, .cons (.lit _) rfl (.cons ri (pY ri) .nil)⟩
end
end Go.Proofs.YtjdfjgmebalaaaaGreat.P
namespace Go.Av
theorem Ex.G5:∀ (e:Ex),e.thin→e.fat:=by
 intro e
 induction e using Ex.ind with
 | h k c v ks ih =>
  intro h;have h':=(Ex.bI _).1 h;exact(Ex.qC _).2 ⟨by have:=h'.1;omega,fun a ha=>ih a ha (h'.2 a ha)⟩
theorem Pn.G5:∀ (p:Pn),p.thin→p.fat:=by
 intro p
 induction p using Pn.ind with
 | h k t es cs ks ih =>
  intro h;obtain⟨h1,h2,h3,h4,h5⟩:=(Pn.bI _).1 h;exact(Pn.qC _).2 ⟨by omega,fun e he=>Ex.G5 e (h2 e he),by omega,by omega,fun a ha=>ih a ha (h5 a ha)⟩
theorem P7:∀ {l:List Ex},(∀ e∈l,e.size<1000)→Ex.aL l≤1000*l.length
 | [],_=>by simp[Ex.aL]
 | a::l,h=>by
  have h1:=h a (by simp);have h2:=P7 (l:=l) fun e he=>h e (by simp[he])
  simp only[Ex.aL,zO];omega
theorem AO3 {ws:List Int}:∀ (p:Pn) (lv:Nat),p.wd ws lv≠0→p.ms≤7000*p.size:=by
 intro p
 induction p using Pn.ind with
 | h k t es cs ks ih =>
  intro lv h;have hsh:=M3 h;generalize hp:Pn.mk k t es cs ks=p at hsh h;have hk:ks=p.kids:=by rw[← hp];rfl
  subst hk;have hkid:∀ a∈p.kids,∀ m,a.wd ws m≠0→a.ms≤7000*a.size:=fun a ha m h=>ih a ha m h
  cases hsh with
  | scan t W h0 h1 hW=>simp[Pn.scan,Pn.ms,Pn.size,Ex.aL,Pn.msL,Pn.aL]
  | filt m e a h1 ha he =>
   have:=hkid a (by simp[filt]) m ha;have:=Ex.fJ he;simp only[filt,Pn.ms,Pn.size,Ex.aL,Pn.msL,Pn.aL,yN];omega
  | proj m es a h1 ha hl he =>
   have:=hkid a (by simp[proj]) m ha;have h2:=P7 (l:=es) fun e h=>Ex.fJ (he e h)
   have h3:es.length≤6:=by simp[bL]at hl;omega
   simp only[proj,Pn.ms,Pn.size,Pn.msL,Pn.aL,yN];omega
  | pair m k e a b h1 hk ha hb hl he =>
   have:=hkid a (by simp[bC]) m ha;have:=hkid b (by simp[bC]) m hb;have:=Ex.fJ he;simp only[bC,Pn.ms,Pn.size,Ex.aL,Pn.msL,Pn.aL,yN];omega
  | union m a b h1 ha hb =>
   have:=hkid a (by simp[dP]) m ha;have:=hkid b (by simp[dP]) m (by rw[hb];exact ha);simp only[dP,Pn.ms,Pn.size,Ex.aL,Pn.msL,Pn.aL,yN];omega
  | dist m a h1 ha =>
   have:=hkid a (by simp) m ha;simp only[Pn.ms,Pn.size,Ex.aL,Pn.msL,Pn.aL,yN];omega
  | group m cs a h1 ha hc ho =>
   have:=hkid a (by simp) m ha;simp only[Pn.ms,Pn.size,Ex.aL,Pn.msL,Pn.aL];omega
theorem AEZ {ws:List Int} {p:Pn} (h:p.wd ws 8≠0):p.meas<100000000:=by
 have h1:=AO3 p 8 h;have h2:=(Pn.OE p 8 h).2;rw[Pn.AG6]at h1;omega
end Go.Av
namespace Go.Proofs.YtjdfjgmebalaaaaGreat.P
open Go Go.Av Go.Av.Mk
set_option maxRecDepth 8000
set_option maxHeartbeats 16000000
theorem wZ {p:Pn} {ws:List Int} {s:Stp} (hp:p.fat) (hl:ws.length<9223372036854775808) (hs:s.2.length<9223372036854775808):aI CZ 6 [.i (.agg p.cells), .i (.isl (aF ws)), .i (.agg [.int s.1, .isl (aF s.2)])] []=some (.bool true,[]):=by
 rw[aD rfl Tryz.func6 rfl rfl];by_cases hw:(1048576:Int)<ws.length
 ·rw[Pn.aB p];simp[hw]
 have s1:=AET hp (left:=1048576) (by omega) (by omega);by_cases c1:dA 1048576 p.meas<0
 ·rw[Pn.aB p]at *
  simp[hw,s1,c1]
 have l1:=MZ (left:=1048576) (a:=p.meas) (by omega);have s2:=AES hs (left:=dA 1048576 p.meas) (by omega) (by omega);by_cases c2:dA (dA 1048576 p.meas) s.2.length<0
 ·rw[Pn.aB p]at *
  simp[hw,s1,c1,s2,c2]
 have m1:p.meas≤1048576:=by
  unfold dA at c1;split at c1<;>omega
 have m2:s.2.length≤1048576:=by
  rw[dA]at c2;split at c2<;>omega
 have tp:=Pn.XF p (by omega);have e1:=AEQ tp;have e2:=AER (l:=ws) (by omega);have e2':=AEP (s:=s) (by omega);have e3:=O5 tp (ws:=ws) (by omega) (s:=s) (by omega);have e4:=RV (p:=p) (ws:=ws) (s:=s);have e5:=AA6 hp;have e6:=AEW (l:=ws) (by omega);have e6':=AEU (s:=s) (by omega);have mk:=Pn.AIZ p;have e7:=RO (p:=p) (k:=1) (by omega) (by omega);have e8:=sJ (l:=ws) (k:=1+(p.mk4:Nat)) (by omega) (by omega);have e8':=X3 (s:=s) (k:=1+(p.mk4:Nat)+(ws.length:Nat)) (by omega) (by omega);have n1:¬ 1+(p.mk4:Int)+(ws.length:Int)+(s.2.length:Int)<0:=by omega
 have tq:(FB (apO p ws s.1 s.2)).thin∧(FB (apO p ws s.1 s.2)).meas<100000000:=by
  cases ho:apO p ws s.1 s.2 with
  | none=>exact⟨Pn.FL,by simp[FB,Pn.zero,Pn.meas,Ex.aL,Pn.msL]⟩
  | some q =>
   obtain⟨g1,g2,g3⟩:=AHT ho;have hw':q.width ws≠0:=by rw[g3];exact g2
   exact⟨g1,AEZ (nX hw').2.1⟩
 obtain⟨tq,mq⟩:=tq;generalize FB (apO p ws s.1 s.2)=q at *
 generalize (apO p ws s.1 s.2).isSome=N at *
 have mkq:=Pn.AIZ q;have e9:=AA7 (Pn.G5 q tq);have e10:=RP (q:=q) (k:=1) (by omega) (by omega);have e11:=RU (q:=q) (k:=1) (by omega) (by omega);have n2:¬ 1+(q.mk4:Int)<0:=by omega
 rw[AB1]at e10 e11;rw[Pn.aB p]at *
 rw[Pn.aB q]at *
 simp[tP,tPB]at e1 e3 e4 e5 e7;simp[tS]at e2' e3 e4 e6' e8'
 by_cases q1:q.exprs=[]<;>by_cases q2:q.cols=[]<;>by_cases q3:q.kids=[] <;>
  (simp only[rqA,rqB,q1,q2,q3,if_true,if_false,yD,yU,yO]at e3 e4 e9 e10 e11
   try simp at e4 e9 e10 e11
   simp[hw,s1,c1,s2,c2,e1,e2,e2',e3,e4,e5,e6,e6',e7,e8,e8',e9,e10,e11,n1,n2])
theorem o9 {w:World} {p:Pn} {v:Value} {ws:List Int} {s:Stp} {c d:Value} (hp:p.fat) (rp:IRep (dS w) (.agg p.cells) v) (hl:ws.length<9223372036854775808) (hw:IRep (dS w) (.isl (aF ws)) c) (hs:s.2.length<9223372036854775808) (hd:IRep (dS w) (.agg [.int s.1, .isl (aF s.2)]) d) :
 Calls Tryz.prog 6 #[v,c,d] w fun e w'=>e=.returned (.bool true)∧RowKit.Below w.heap.size w w' :=
 Z7 AP4 (.cons (.i rp) (.cons (.i hw) (.cons (.i hd) .nil))) (wZ hp hl hs)
end Go.Proofs.YtjdfjgmebalaaaaGreat.P

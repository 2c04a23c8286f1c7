/- Part 8 of what the proof rests on: the executor and what it is worth, and the program's functions as it runs them. No condition. -/
import Derived.Test.YtgiepjdnkonkgaaGreatT7
set_option linter.unusedVariables false
set_option linter.unusedSimpArgs false
namespace Go.Av
open Go.Av.Mk
def Pn.mkK (k:Int) (q:Pn):Pn:=.mk q.kind q.table (Ex.kT k q.exprs) (tN (k+4*(Ex.aL q.exprs:Nat)) q.cols) (Pn.mD (k+4*(Ex.aL q.exprs:Nat)+(q.cols.length:Nat)) q.kids)
theorem L6 (l:List Ex) (k:Int):(Ex.kT k l).length=l.length:=by rw[DX];exact dV _ _ l k
theorem FL (l:List Pn) (k:Int):(Pn.mD k l).length=l.length:=by rw[uI];exact dV _ _ l k
theorem JA (l:List Int) (k:Int):(tN k l).length=l.length:=dV _ _ l k
theorem AAQ {l:List Ex} (h:l≠[]) (k:Int):Ex.kT k l≠[]:=fun e=>by have:=L6 l k;rw[e]at this;exact h (zW.1 (by simpa using this.symm))
theorem V7 {l:List Pn} (h:l≠[]) (k:Int):Pn.mD k l≠[]:=fun e=>by have:=FL l k;rw[e]at this;exact h (zW.1 (by simpa using this.symm))
theorem ARZ {l:List Int} (h:l≠[]) (k:Int):tN k l≠[]:=fun e=>by have:=JA l k;rw[e]at this;exact h (zW.1 (by simpa using this.symm))
theorem AGI {q:Pn} {k:Int}:rqB (q.mkK k)=(if q.exprs=[]then []else [some (.tre 5 (Ex.aB (Ex.kT k q.exprs)))])++((if q.cols=[]then []else [some (.arr 1 (aF (tN (k+4*(Ex.aL q.exprs:Nat)) q.cols)))])++(if q.kids=[]then []else [some (.tre 5 (Pn.aB (Pn.mD (k+4*(Ex.aL q.exprs:Nat)+(q.cols.length:Nat)) q.kids)))])):=by
 unfold rqB Pn.mkK;simp only[Pn.bR,Pn.dZ,Pn.fB]
 by_cases q1:q.exprs=[]<;>by_cases q2:q.cols=[]<;>by_cases q3:q.kids=[] <;>
  simp[q1,q2,q3,Ex.kT,Pn.mD,fP,Pn.dW,Pn.gH,Pn.bR,Pn.dZ,Pn.fB,AAQ,V7,ARZ]
theorem AHI (q:Pn):(q.mk4:Int)=4*(Ex.aL q.exprs:Nat)+((q.cols.length:Nat)+(Pn.mzL q.kids:Nat)):=by unfold Pn.mk4;push_cast;rfl
theorem Ex.CV:∀ (e:Ex),e.thin→e.fat:=by
 intro e
 induction e using Ex.ind with
 | h k c v ks ih =>
  intro h;have h':=(Ex.bM _).1 h;exact(Ex.rX _).2 ⟨by have:=h'.1;omega,fun a ha=>ih a ha (h'.2 a ha)⟩
theorem Pn.CV:∀ (p:Pn),p.thin→p.fat:=by
 intro p
 induction p using Pn.ind with
 | h k t es cs ks ih =>
  intro h;obtain⟨h1,h2,h3,h4,h5⟩:=(Pn.bM _).1 h;exact(Pn.rX _).2 ⟨by omega,fun e he=>Ex.CV e (h2 e he),by omega,by omega,fun a ha=>ih a ha (h5 a ha)⟩
theorem UA:∀ {l:List Ex},(∀ e∈l,e.size<1000)→Ex.aL l≤1000*l.length
 | [],_=>by simp[Ex.aL]
 | a::l,h=>by
  have h1:=h a (by simp);have h2:=UA (l:=l) fun e he=>h e (by simp[he])
  simp only[Ex.aL,zP];omega
theorem AV7 {ws:List Int}:∀ (p:Pn) (lv:Nat),p.wd ws lv≠0→p.ms≤7000*p.size:=by
 intro p
 induction p using Pn.ind with
 | h k t es cs ks ih =>
  intro lv h;have hsh:=mX h;generalize hp:Pn.mk k t es cs ks=p at hsh h;have hk:ks=p.kids:=by rw[← hp];rfl
  subst hk;have hkid:∀ a∈p.kids,∀ m,a.wd ws m≠0→a.ms≤7000*a.size:=fun a ha m h=>ih a ha m h
  cases hsh with
  | scan t W h0 h1 hW=>simp[Pn.scan,Pn.ms,Pn.size,Ex.aL,Pn.msL,Pn.aL]
  | filt m e a h1 ha he =>
   have:=hkid a (by simp[filt]) m ha;have:=Ex.gK he;simp only[filt,Pn.ms,Pn.size,Ex.aL,Pn.msL,Pn.aL,yT];omega
  | proj m es a h1 ha hl he =>
   have:=hkid a (by simp[proj]) m ha;have h2:=UA (l:=es) fun e h=>Ex.gK (he e h)
   have h3:es.length≤6:=by simp[bH]at hl;omega
   simp only[proj,Pn.ms,Pn.size,Pn.msL,Pn.aL,yT];omega
  | pair m k e a b h1 hk ha hb hl he =>
   have:=hkid a (by simp[bB]) m ha;have:=hkid b (by simp[bB]) m hb;have:=Ex.gK he;simp only[bB,Pn.ms,Pn.size,Ex.aL,Pn.msL,Pn.aL,yT];omega
  | union m a b h1 ha hb =>
   have:=hkid a (by simp[bX]) m ha;have:=hkid b (by simp[bX]) m (by rw[hb];exact ha);simp only[bX,Pn.ms,Pn.size,Ex.aL,Pn.msL,Pn.aL,yT];omega
  | dist m a h1 ha =>
   have:=hkid a (by simp) m ha;simp only[Pn.ms,Pn.size,Ex.aL,Pn.msL,Pn.aL,yT];omega
  | group m cs a h1 ha hc ho =>
   have:=hkid a (by simp) m ha;simp only[Pn.ms,Pn.size,Ex.aL,Pn.msL,Pn.aL];omega
theorem ZU {ws:List Int} {p:Pn} (h:p.wd ws 8≠0):p.meas<100000000:=by
 have h1:=AV7 p 8 h;have h2:=(Pn.tY p 8 h).2;rw[Pn.AM4]at h1;omega
end Go.Av
namespace Go.Proofs.YtgiepjdnkonkgaaGreat.P
open Go Go.Av Go.Av.Mk
set_option maxRecDepth 4000
set_option maxHeartbeats 8000000
theorem LP {q:Pn} {k:Int} (h0:0≤k) (h1:k+(q.mk4:Nat)<1000000000000):aH C0 16 [.i (.agg (q.mkK k).cells), .int k] []=some (.int (k+(q.mk4:Nat)),[]):=by
 have hm:=AHI q;have c1:=APJ q.exprs k h0 (by omega);have c2:=R4 q.cols (k+4*(Ex.aL q.exprs:Nat)) (by omega) (by omega);have c3:=ADQ q (k+4*(Ex.aL q.exprs:Nat)+(q.cols.length:Nat)) (by omega) (by omega);have n1:¬ k+4*(Ex.aL q.exprs:Int)<0:=by omega
 have n2:¬ k+4*(Ex.aL q.exprs:Int)+(q.cols.length:Int)<0:=by omega
 have n3:¬ k+4*(Ex.aL q.exprs:Int)+(q.cols.length:Int)+(Pn.mzL q.kids:Int)<0:=by omega
 rw[aD rfl Tryz.func16 rfl rfl,Pn.aA];have hm2:k+(q.mk4:Int)=k+4*(Ex.aL q.exprs:Nat)+(q.cols.length:Nat)+(Pn.mzL q.kids:Nat):=by omega
 rw[hm2];simp[Pn.mkK,Pn.dW,Pn.gH,Pn.bR,Pn.dZ,Pn.fB,c1,c2,c3,n1,n2,n3]
attribute [local simp] pM ADH give nS kS sV CO mfA mfR AMA AP8 mfC ADA mfB.eq_1 mfB.eq_2 mfB.eq_7 iH wW
noncomputable def ARL:FuncId→Option (List AV→StL→Option (AV×StL))
 | 3=>none
 | 13=>none
 | 41=>none
 | 15=>none
 | 14=>some (tO Sts.cells AOX ssZ 3)
 | 42=>some (tO Pn.cells Pn.tQ Pn.mz 5)
 | 40=>some (tO Ex.cells Ex.wH exZ 5)
 | 7=>some (pM (aH CT) 7)
 | 8=>some (pM (aH CT2) 8)
 | 9=>some (pM (aH C9) 9)
 | 6=>some (give (aH CIe) 6)
 | g=>if g=oG then none else some (pM (aH C0) g)
noncomputable def CZ:Ctx:={ P:=Tryz.prog,G:=GS,ownArgs:=fun _=>true,keepRes:=fun _=>false,eqT:=ED,prim:=ARL,tree:=true }
@[simp] theorem AsL:CZ.P=Tryz.prog:=(rfl)
@[simp] theorem AsM (f):CZ.G f=GS f:=(rfl)
@[simp] theorem AsI (f):CZ.ownArgs f=true:=(rfl)
@[simp] theorem AsJ (f):CZ.keepRes f=false:=(rfl)
@[simp] theorem AsK (f):CZ.eqT f=ED f:=(rfl)
@[simp] theorem AsH:CZ.tree=true:=(rfl)
theorem AX3:PrimOk CZ:=by
 have h0:=aY dG;have hT:=aY AOY;have hT2:=aY AR2;have hK:=aY AWE;have hE:=aY AR3
 have key:∀ g q,CZ.prim g=some q→(g=14∧q=tO Sts.cells AOX ssZ 3)∨(g=42∧q=tO Pn.cells Pn.tQ Pn.mz 5)∨(g=40∧q=tO Ex.cells Ex.wH exZ 5)∨(g=7∧q=pM (aH CT) g)∨(g=8∧q=pM (aH CT2) g)∨(g=9∧q=pM (aH C9) g)∨(g=6∧q=give (aH CIe) g)∨(g≠oG∧q=pM (aH C0) g):=by
  intro g q h;have h:ARL g=some q:=h;unfold ARL at h;split at h
  all_goals first
   | (cases h;done)
   | (injection h with h;subst h;simp;done)
   | (split at h
      ·cases h
      ·rename_i hy;injection h with h;subst h;exact .inr (.inr (.inr (.inr (.inr (.inr (.inr ⟨hy,rfl⟩)))))))
 constructor
 ·intro g args st p h;unfold bV at h
  cases hq:CZ.prim g with
  | none=>rw[hq]at h;cases h
  | some q =>
   rw[hq]at h
   rcases key g q hq with ⟨rfl,rfl⟩|⟨rfl,rfl⟩|⟨rfl,rfl⟩|⟨rfl,rfl⟩|⟨rfl,rfl⟩|⟨rfl,rfl⟩|⟨rfl,rfl⟩|⟨hy,rfl⟩
   ·exact⟨Tryz.f14,Tryz.func14,by decide,rfl⟩
   ·exact⟨Tryz.f42,Tryz.func42,by decide,rfl⟩
   ·exact⟨Tryz.f40,Tryz.func40,by decide,rfl⟩
   ·exact(fD hT (r:=p.1) (stl':=p.2) h).1
   ·exact(fD hT2 (r:=p.1) (stl':=p.2) h).1
   ·exact(fD hK (r:=p.1) (stl':=p.2) h).1
   ·exact(OY hE (r:=p.1) (stl':=p.2) h).1
   ·exact(fD h0 (r:=p.1) (stl':=p.2) h hy).1
 ·intro g args st r st' h w m φ vs hi hr hb;unfold bV at h
  cases hq:CZ.prim g with
  | none=>rw[hq]at h;cases h
  | some q =>
   rw[hq]at h
   rcases key g q hq with ⟨rfl,rfl⟩|⟨rfl,rfl⟩|⟨rfl,rfl⟩|⟨rfl,rfl⟩|⟨rfl,rfl⟩|⟨rfl,rfl⟩|⟨rfl,rfl⟩|⟨hy,rfl⟩
   ·exact FJ (C:=C0) AaO (fun _=>rfl) Sts.lM h w m φ vs hi hr hb
   ·exact FJ (C:=C0) AX8 (fun e=>by rw[Pn.aA];rfl) Pn.lM h w m φ vs hi hr hb
   ·exact FJ (C:=C0) APN (fun e=>by rw[Ex.aA];rfl) Ex.lM h w m φ vs hi hr hb
   ·exact(fD hT h).2 w m φ vs hi hr hb
   ·exact(fD hT2 h).2 w m φ vs hi hr hb
   ·exact(fD hK h).2 w m φ vs hi hr hb
   ·exact(OY hE h).2 w m φ vs hi hr hb
   ·exact(fD h0 h hy).2 w m φ vs hi hr hb
theorem AWC:SoundOk CZ:=iU (C:=CZ) ft nt eqS mo AX3
theorem AKL {p:Pn} (hf:p.fat) {left:Int} (h0:0≤left) (h1:left<1000000000):aH CZ 4 [.i (.agg p.cells), .int left] []=some (.int (cB left p.meas),[]):=by
 rw[aT (C:=CZ) (p:=pM (aH C0) 4) rfl];have h:=AFZ p hf left h0 h1;simp[h]
theorem AKK {p:Pn} (ht:p.thin):aH CZ 7 [.i (.agg p.cells)] []=some (tP p 0,tPB p):=by
 rw[aT (C:=CZ) (p:=pM (aH CT) 7) rfl];simp[AVE p ht,tP,tPB,iP]
theorem AFA {l:List Sts} (hl:l.length<9223372036854775808) (hs:∀ s∈l,s.d.length<9223372036854775808∧s.n.length<9223372036854775808) {left:Int} (h0:0≤left) (h1:left<1000000000):aH CZ 5 [.i (.isl (gM l)), .int left] []=some (.int (cB left (vJ l)),[]):=by
 rw[aT (C:=CZ) (p:=pM (aH C0) 5) rfl];have h:=XM h0 h1 hl hs;simp[h]
theorem ACB (l:List Sts):mfB (some (jG Sts.cells 3 l))=true:=by
 have:∀ l:List Sts,kG (l.map Sts.cells)=true:=by
  intro l
  induction l with
  | nil=>rfl
  | cons a l ih=>simp[kG,ih,Sts.lM]
 unfold jG;split
 ·rfl
 ·simp[mfB,this]
theorem AF9 {l:List Sts} (hl:l.length<1000000000) (ih:∀ a∈l,a.d.length<1000000000∧a.n.length<1000000000):aH CZ 8 [.i (.isl (gM l))] []=some (.osl 0 3 0 l.length,[some (jG Sts.cells 3 l)]):=by
 rw[aT (C:=CZ) (p:=pM (aH CT2) 8) rfl];have hm:=ACB l;have h:=AaI hl ih;have hr:∀ n,DN (fun j=>some (j+n)) (some (jG Sts.cells 3 l))=some (jG Sts.cells 3 l):=fun n=>by unfold jG;split<;>rfl
 have hr0:=hr 0;simp at hr0;simp[h,hm,hr0]
theorem SS (l:List Sts):A7 3 0 l.length (some (jG Sts.cells 3 l))=some (gM l):=AJW Sts.lM l
theorem AFB {l:List Sts} (hl:l.length<9223372036854775808) (hs:∀ s∈l,s.d.length<9223372036854775808∧s.n.length<9223372036854775808):aH CZ 12 [.osl 0 3 0 l.length, .osl 1 3 0 l.length] [some (jG Sts.cells 3 l),some (jG Sts.cells 3 l)]=some (.bool true,[some (jG Sts.cells 3 l),some (jG Sts.cells 3 l)]):=by
 have h:=RI l hl hs;rw[aT (C:=CZ) (p:=pM (aH C0) 12) rfl];have hb:=SS l;simp[h,hb]
theorem XB {l:List Sts} {k:Int} (h0:0≤k) (h1:k+(bY ssZ l:Nat)<1000000000000):aH CZ 14 [.osl 0 3 0 l.length, .int k] [some (jG Sts.cells 3 l)]=some (.int (k+(bY ssZ l:Nat)),[some (jG Sts.cells 3 (fP AOX ssZ k l))]):=by
 rw[aT (C:=CZ) (p:=tO Sts.cells AOX ssZ 3) rfl];exact QU (W:=3) (mk:=AOX) (sz:=ssZ) (fun _ _ h=>Sts.qJ h) h0 h1
theorem AC2 {p:Pn} (hp:p.thin) {l:List Sts} (hl:l.length<2000000) (hd:∀ s∈l,s.d.length<1000000000∧s.n.length<1000000000):aH CZ 6 [tP p 0, .osl 3 3 0 l.length] (tPB p++[some (jG Sts.cells 3 l)])=some (.tup [.i (.agg (imX l p).1.cells), .i (.agg [.int (imX l p).2.1, .isl (aF (imX l p).2.2)])],[none,none,none,none]):=by
 have h:=UF p hp l hl hd
 have hr:AZS l p=(.tup [.i (.agg (imX l p).1.cells), .i (.agg [.int (imX l p).2.1, .isl (aF (imX l p).2.2)])],[]):=by
  unfold AZS imX;by_cases hq:J6 l p=true<;>simp[hq,aF]
 rw[hr]at h;rw[aT (C:=CZ) (p:=give (aH CIe) 6) rfl];rw[Pn.aA p]at h;simp only[Ex.bO p.exprs,Pn.bO p.kids]at h;have ha:=SS l;have hb:=qN p.cols;generalize imX l p=x at h ⊢;rw[Pn.aA x.1]at h ⊢;simp[tP,tPB,h,ha,hb]
theorem AFF {p:Pn} {l:List Sts} (hl:l.length<2000000) (hd:∀ s∈l,s.d.length<1000000000∧s.n.length<1000000000):aH CZ 9 [tP p 0, .osl 3 3 0 l.length] (tPB p++[some (jG Sts.cells 3 l)])=some (.tup [.agg (rqZ (imX l p).1 4),stZ (imX l p).2 (4+(rqB (imX l p).1).length)],tPB p++([some (jG Sts.cells 3 l)]++(rqB (imX l p).1++J5 (imX l p).2))):=by
 have h:=AEE p l hl hd;simp only[imT]at h;rw[aT (C:=CZ) (p:=pM (aH C9) 9) rfl];rw[Pn.aA p]at h;simp only[Ex.bO p.exprs,Pn.bO p.kids]at h;have ha:=SS l;have hb:=qN p.cols;generalize imX l p=x at h ⊢;obtain⟨q,s⟩:=x;have b4:=iP q.cols;have b5:=iP s.2
 by_cases q1:q.exprs=[]<;>by_cases q2:q.cols=[]<;>by_cases q3:q.kids=[]<;>by_cases q4:s.2=[] <;>
  (simp only[rqZ,rqB,stZ,J5,q1,q2,q3,q4,if_true,if_false,yO,zA,yV]at h ⊢
   simp[tP,tPB,h,ha,hb,b4,b5])
theorem AFC {p:Pn} (hp:p.fat):aH CZ 10 [tP p 0,tP p 3] (tPB p++tPB p)=some (.bool true,tPB p++tPB p):=by
 have h:=BI p hp;rw[aT (C:=CZ) (p:=pM (aH C0) 10) rfl];rw[Pn.aA,Ex.bO,Pn.bO]at h;have hb:=qN p.cols;simp[tP,tPB,h,hb]
theorem AFD {q:Pn} (hq:q.fat):aH CZ 10 [.agg (rqZ q 0), .i (.agg q.cells)] (rqB q)=some (.bool true,rqB q):=by
 have h:=BI q hq;rw[aT (C:=CZ) (p:=pM (aH C0) 10) rfl];rw[Pn.aA]at h ⊢;have b1:=AFY q.exprs;have b2:=AFX q.cols;have b3:=AFW q.kids;have b4:=iP q.cols
 by_cases q1:q.exprs=[]<;>by_cases q2:q.cols=[]<;>by_cases q3:q.kids=[] <;>
  (simp only[rqZ,rqB,q1,q2,q3,if_true,if_false,yO,zA,yV,Ex.aB,aF,Pn.aB]at h b1 b2 b3 b4 ⊢
   simp[h,b1,b2,b3,b4])
theorem TG {s:Stp} (hl:s.2.length<9223372036854775808):aH CZ 11 [stZ s 0, .i (.agg [.int s.1, .isl (aF s.2)])] (J5 s)=some (.bool true,J5 s):=by
 have h:aH C0 11 [.i (.agg [.int s.1, .isl (aF s.2)]), .i (.agg [.int s.1, .isl (aF s.2)])] []=some (.bool true,[]):=by
  have h:=rZ s.2 hl;rw[aD rfl Tryz.func11 rfl rfl];simp[h]
 rw[aT (C:=CZ) (p:=pM (aH C0) 11) rfl];have hb:=qN s.2;by_cases q4:s.2=[]
 ·simp only[stZ,J5,q4,if_true,aF]at h ⊢;simp[h]
 ·simp[stZ,J5,q4,h,hb]
def MIZ (l:List Int) (k:Int) (i:Nat):AS :=
 { env:=[(0, .osl 0 1 0 l.length),(1, .int (k+i)),(4, .int 0),(5, .int i),(9,jk i (.bool true))],st:=[some (.arr 1 (aF ((tN k l).take i++l.drop i)))] }
theorem ET {l:List Int} {k:Int} (h0:0≤k) (h1:k+(l.length:Nat)<1000000000000):aH CZ 41 [.osl 0 1 0 l.length, .int k] [some (.arr 1 (aF l))]=some (.int (k+(l.length:Nat)),[some (.arr 1 (aF (tN k l)))]):=by
 rw[aD rfl Tryz.func41 rfl rfl];have hlen:(tN k l).length=l.length:=dV AUC AP5 l k;simp;rw[aS (MIZ l k) l.length (by simp[MIZ])]
 ·rw[aG];have ht:(tN k l).take l.length=tN k l:=zY (by omega);simp[MIZ,ht]
 ·intro i hi;have hs:=aN (AAK l k hi);have hd:=yD hi;generalize l[i]=a at hd;have hA:(aF ((tN k l).take i)).length=i:=by simp[hlen];omega
  have w2:IntKind.i64.wrap ((i:Int)+1)=i+1:=wrO;have w3:IntKind.i64.wrap (k+i+1)=k+(i+1):=by rw[wrO];omega
  have g1:fT (aF ((tN k l).take i)++[.int a]::aF (l.drop (i+1))) i=some [.int a]:=by
   have:=nW (aF ((tN k l).take i)) [IV.int a] (aF (l.drop (i+1)))
   rwa [hA]at this
  have g2:(aF ((tN k l).take i)++[.int a]::aF (l.drop (i+1))).set i [.int (k+i)]=aF ((tN k l).take i)++[.int (k+i)]::aF (l.drop (i+1)):=by
   rw[zA9 _ _ (by omega),hA,zE6,zC6]
  have e1:aF ((tN k l).take i++l.drop i)=aF ((tN k l).take i)++[.int a]::aF (l.drop (i+1)):=by
   rw[dX,hd];rfl
  have e2:aF ((tN k l).take (i+1)++l.drop (i+1))=aF ((tN k l).take i)++[.int (k+i)]::aF (l.drop (i+1)):=by
   rw[hs,dX,dX,yZ];rfl
  simp only[MIZ,e1,e2];simp[hi,g1,g2,w2,w3]
theorem qR {k:Int}:aH CZ 41 [.i (.isl []), .int k] []=some (.int k,[]):=by
 rw[aD rfl Tryz.func41 rfl rfl];simp;rw[aG];simp
theorem JM {s:Stp} {k:Int} (h0:0≤k) (h1:k+(s.2.length:Nat)<1000000000000):aH CZ 15 [stZ s 0, .int k] (J5 s)=some (.int (k+(s.2.length:Nat)),if s.2=[]then []else [some (.arr 1 (aF (tN k s.2)))]):=by
 have h:=ET (l:=s.2) h0 h1;have h2:=qR (k:=k);rw[aD rfl Tryz.func15 rfl rfl];by_cases q4:s.2=[]
 ·simp[stZ,J5,q4,h2]
 ·simp[stZ,J5,q4,h]
theorem A8 {s:Stp} {k:Int} (h0:0≤k) (h1:k+(s.2.length:Nat)<1000000000000):aH CZ 17 [stZ s 0, .int k] (if s.2=[]then []else [some (.arr 1 (aF (tN k s.2)))])=some (.int (k+(s.2.length:Nat)),if s.2=[]then []else [some (.arr 1 (aF (tN k s.2)))]):=by
 have h:aH C0 17 [.i (.agg [.int s.1, .isl (aF (tN k s.2))]), .int k] []=some (.int (k+(s.2.length:Nat)),[]):=by
  have c:=R4 s.2 k h0 h1;have n1:¬ k+(s.2.length:Int)<0:=by omega
  rw[aD rfl Tryz.func17 rfl rfl];simp[c,n1]
 rw[aT (C:=CZ) (p:=pM (aH C0) 17) rfl];have hb:=qN (tN k s.2);rw[JA]at hb;by_cases q4:s.2=[]
 ·simp only[q4,tN,fP,aF,if_true,stZ]at h ⊢;simp at h;simp[h]
 ·simp[stZ,q4,h,hb]
theorem TF {l:List Ex} {k:Int} (h0:0≤k) (h1:k+4*(Ex.aL l:Nat)<1000000000000):aH CZ 40 [.osl 0 5 0 l.length, .int k] [some (jG Ex.cells 5 l)]=some (.int (k+4*(Ex.aL l:Nat)),[some (jG Ex.cells 5 (Ex.kT k l))]):=by
 rw[aT (C:=CZ) (p:=tO Ex.cells Ex.wH exZ 5) rfl];have:=QU (W:=5) (mk:=Ex.wH) (sz:=exZ) Ex.G5 (l:=l) (k:=k) h0 (by rw[vO];push_cast;omega);rw[vO,← DX]at this;push_cast at this;exact this
theorem NU {k:Int} (h0:0≤k) (h1:k<1000000000000):aH CZ 40 [.i (.isl []), .int k] []=some (.int k,[]):=by
 rw[aT (C:=CZ) (p:=tO Ex.cells Ex.wH exZ 5) rfl];simp[tO,h0,h1]
theorem TE {l:List Pn} {k:Int} (h0:0≤k) (h1:k+(Pn.mzL l:Nat)<1000000000000):aH CZ 42 [.osl 0 5 0 l.length, .int k] [some (jG Pn.cells 5 l)]=some (.int (k+(Pn.mzL l:Nat)),[some (jG Pn.cells 5 (Pn.mD k l))]):=by
 rw[aT (C:=CZ) (p:=tO Pn.cells Pn.tQ Pn.mz 5) rfl];have:=QU (W:=5) (mk:=Pn.tQ) (sz:=Pn.mz) Pn.qJ (l:=l) (k:=k) h0 (by rw[vN];omega);rw[vN,← uI]at this;exact this
theorem NT {k:Int} (h0:0≤k) (h1:k<1000000000000):aH CZ 42 [.i (.isl []), .int k] []=some (.int k,[]):=by
 rw[aT (C:=CZ) (p:=tO Pn.cells Pn.tQ Pn.mz 5) rfl];simp[tO,h0,h1]
theorem XC {p:Pn} {k:Int} (h0:0≤k) (h1:k+(p.mk4:Nat)<1000000000000):aH CZ 13 [tP p 0, .int k] (tPB p)=some (.int (k+(p.mk4:Nat)),tPB (p.mkK k)):=by
 have hm:=AHI p;have c1:=TF (l:=p.exprs) h0 (by omega);have c2:=ET (l:=p.cols) (k:=k+4*(Ex.aL p.exprs:Nat)) (by omega) (by omega);have c3:=TE (l:=p.kids) (k:=k+4*(Ex.aL p.exprs:Nat)+(p.cols.length:Nat)) (by omega) (by omega);rw[aD rfl Tryz.func13 rfl rfl];have hm2:k+(p.mk4:Int)=k+4*(Ex.aL p.exprs:Nat)+(p.cols.length:Nat)+(Pn.mzL p.kids:Nat):=by omega
 rw[hm2];simp[tP,tPB,Pn.mkK,Pn.dW,Pn.gH,Pn.bR,Pn.dZ,Pn.fB,c1,c2,c3]
theorem XD {q:Pn} {k:Int} (h0:0≤k) (h1:k+(q.mk4:Nat)<1000000000000):aH CZ 13 [.agg (rqZ q 0), .int k] (rqB q)=some (.int (k+(q.mk4:Nat)),rqB (q.mkK k)):=by
 have hm:=AHI q;have hm2:k+(q.mk4:Int)=k+4*(Ex.aL q.exprs:Nat)+(q.cols.length:Nat)+(Pn.mzL q.kids:Nat):=by omega
 rw[aD rfl Tryz.func13 rfl rfl,AGI,hm2];by_cases q1:q.exprs=[]<;>by_cases q2:q.cols=[]<;>by_cases q3:q.kids=[]
 all_goals
  have c1:=TF (l:=q.exprs) h0 (by omega);have c2:=ET (l:=q.cols) (k:=k+4*(Ex.aL q.exprs:Nat)) (by omega) (by omega);have c3:=TE (l:=q.kids) (k:=k+4*(Ex.aL q.exprs:Nat)+(q.cols.length:Nat)) (by omega) (by omega);have d1:=NU h0 (by omega);have d2:=qR (k:=k+4*(Ex.aL q.exprs:Nat));have d3:=NT (k:=k+4*(Ex.aL q.exprs:Nat)+(q.cols.length:Nat)) (by omega) (by omega)
  try rw[oL q1,oL (AAQ q1 k),← Ex.bO,← Ex.bO]at c1
  try rw[oL q3,oL (V7 q3 _),← Pn.bO,← Pn.bO]at c3
  simp only[rqZ,rqB,q1,q2,q3,if_true,if_false,yO,zA,yV,Ex.aL,Pn.mzL,yT]at c1 c2 c3 d1 d2 d3 ⊢
  try simp at c1 c2 c3 d1 d2 d3
  simp[c1,c2,c3,d1,d2,d3]
theorem XF {q:Pn} {k:Int} (h0:0≤k) (h1:k+(q.mk4:Nat)<1000000000000):aH CZ 16 [.agg (rqZ q 0), .int k] (rqB (q.mkK k))=some (.int (k+(q.mk4:Nat)),rqB (q.mkK k)):=by
 have h:=LP h0 h1;rw[aT (C:=CZ) (p:=pM (aH C0) 16) rfl];rw[Pn.aA]at h;simp only[Pn.mkK,Pn.dW,Pn.gH,Pn.bR,Pn.dZ,Pn.fB]at h;rw[AGI];have b1:=AFY (Ex.kT k q.exprs);have b2:=AFX (tN (k+4*(Ex.aL q.exprs:Nat)) q.cols);have b3:=AFW (Pn.mD (k+4*(Ex.aL q.exprs:Nat)+(q.cols.length:Nat)) q.kids);have b4:=iP (tN (k+4*(Ex.aL q.exprs:Nat)) q.cols);rw[L6]at b1;rw[JA]at b2;rw[FL]at b3
 by_cases q1:q.exprs=[]<;>by_cases q2:q.cols=[]<;>by_cases q3:q.kids=[] <;>
  (simp only[rqZ,q1,q2,q3,if_true,if_false,yO,zA,yV,Ex.aB,aF,Pn.aB,Ex.kT,Pn.mD,fP]at h b1 b2 b3 b4 ⊢
   try simp at h
   simp[h,b1,b2,b3,b4,L6,FL,JA])
end Go.Proofs.YtgiepjdnkonkgaaGreat.P
namespace Go.Av
open Go.Av.Mk
theorem AA4:∀ l:List Sts,bY ssZ l=vJ l
 | []=>rfl
 | s::l=>by simp only[bY,vJ,AA4 l];rfl
end Go.Av
namespace Go.Proofs.YtgiepjdnkonkgaaGreat.P
open Go Go.Av Go.Av.Mk
set_option maxRecDepth 8000
set_option maxHeartbeats 16000000
attribute [local simp] pM ADH give nS kS sV CO mfA mfR AMA AP8 mfC ADA mfB.eq_1 mfB.eq_2 mfB.eq_7 iH wW
theorem AFE {q:Pn} (hq:q.fat):aH CZ 10 [.i (.agg q.cells), .i (.agg q.cells)] []=some (.bool true,[]):=by
 have h:=BI q hq;rw[aT (C:=CZ) (p:=pM (aH C0) 10) rfl];simp[h]
theorem XE (a b:Int) {k:Int} (h0:0≤k) (h1:k<1000000000000):aH CZ 13 [.i (.agg [.int a, .int b, .isl [], .isl [], .isl []]), .int k] []=some (.int k,[]):=by
 have d1:=NU h0 h1;have d2:=qR (k:=k);have d3:=NT h0 h1;rw[aD rfl Tryz.func13 rfl rfl];simp[d1,d2,d3]
theorem XG (a b:Int) {k:Int} (h0:0≤k) (h1:k<1000000000000):aH CZ 16 [.i (.agg [.int a, .int b, .isl [], .isl [], .isl []]), .int k] []=some (.int k,[]):=by
 have h:=LP (q:=.mk a b [] [] []) (k:=k) h0 (by simp[Pn.mk4,Ex.aL,Pn.mzL];omega);rw[aT (C:=CZ) (p:=pM (aH C0) 16) rfl];rw[Pn.aA]at h;simp[Pn.mkK,Pn.mk4,Ex.aL,Pn.mzL,Ex.kT,Pn.mD,fP,Ex.aB,aF,Pn.aB,tN]at h;simp[h]
theorem BZ (a:Int):aH CZ 11 [.i (.agg [.int a, .isl []]), .i (.agg [.int a, .isl []])] []=some (.bool true,[]):=by
 have h:=TG (s:=(a,[])) (by simp);rw[aT (C:=CZ) (p:=pM (aH C0) 11) rfl]at h ⊢;simp[stZ,J5,aF]at h;simpa using h
theorem qQ (a:Int) {k:Int} (h0:0≤k) (h1:k<1000000000000):aH CZ 15 [.i (.agg [.int a, .isl []]), .int k] []=some (.int k,[]):=by
 have d2:=qR (k:=k);rw[aD rfl Tryz.func15 rfl rfl];simp[d2]
theorem qU (a:Int) {k:Int} (h0:0≤k) (h1:k<1000000000000):aH CZ 17 [.i (.agg [.int a, .isl []]), .int k] []=some (.int k,[]):=by
 have h:=A8 (s:=(a,[])) (k:=k) h0 (by simpa using h1);rw[aT (C:=CZ) (p:=pM (aH C0) 17) rfl]at h ⊢;simp[stZ]at h;simpa using h
theorem AI8 (sts:List Sts) (p:Pn):(imX sts p).1.thin∧(imX sts p).1.meas<100000000∧Shp (imX sts p).1∧(imX sts p).2.2.length≤8:=by
 unfold imX;by_cases hq:J6 sts p=true
 ·rw[if_pos hq];obtain⟨hs,hw0⟩:=rD.1 hq;obtain⟨hws,hp8,hpw⟩:=fU hw0
  rcases AT0 sts p (stI (stW sts) [] p)with ⟨h1,h2,h3⟩|⟨h1,h2⟩
  ·rw[h1,h2];exact⟨dJ p 8 hp8,ZU hp8,NZ hp8,by simp⟩
  ·obtain⟨g1,g2,g3⟩:=EL h1;obtain⟨-,hq8,-⟩:=fU (show(X8 sts p (stI (stW sts) [] p)).p.width (stW sts)≠0 by rw[g3];exact g2);refine⟨g1,ZU hq8,NZ hq8,?_⟩;unfold apO at h1;rw[if_neg hw0]at h1;unfold apI at h1;split at h1
   ·rename_i hl;exact hl
   ·cases h1
 ·rw[if_neg hq];exact⟨Pn.JK,by simp[Pn.zero,Pn.meas,Ex.aL,Pn.msL], .inl ⟨rfl,rfl,rfl⟩,by simp⟩
theorem IU {p:Pn} {l:List Sts} (hp:p.fat) (hl:l.length<9223372036854775808) (hs:∀ s∈l,s.d.length<9223372036854775808∧s.n.length<9223372036854775808):aH CZ 3 [.i (.agg p.cells), .i (.isl (gM l))] []=some (.bool true,[]):=by
 rw[aD rfl Tryz.func3 rfl rfl];have s1:=AKL hp (left:=1048576) (by omega) (by omega);by_cases c1:cB 1048576 p.meas<0
 ·rw[Pn.aA p]at *
  simp[s1,c1]
 have l1:=QW (left:=1048576) (a:=p.meas) (by omega);have s2:=AFA hl hs (left:=cB 1048576 p.meas) (by omega) (by omega);by_cases c2:cB (cB 1048576 p.meas) (vJ l)<0
 ·rw[Pn.aA p]at *
  simp[s1,c1,s2,c2]
 have m1:p.meas≤1048576:=by
  unfold cB at c1;split at c1<;>omega
 have m2:vJ l≤1048576:=by
  rw[cB]at c2;split at c2<;>omega
 have hln:=vL l
 have hd:∀ s∈l,s.d.length<1000000000∧s.n.length<1000000000:=fun s h=>by
  have:=AGC h;omega
 have hz:=AA4 l;have tp:=Pn.ACE p (by omega);have e1:=AKK tp;have e2:=AF9 (l:=l) (by omega) hd;have e3:=AC2 tp (l:=l) (by omega) hd;have e4:=AFF (p:=p) (l:=l) (by omega) hd;have e5:=AFC hp;have e6:=AFB hl hs;have mk:=Pn.AP7 p;have e7:=XC (p:=p) (k:=1) (by omega) (by omega);have e8:=XB (l:=l) (k:=1+(p.mk4:Nat)) (by omega) (by omega);rw[hz]at e8;have n1:¬ 1+(p.mk4:Int)+(vJ l:Int)<0:=by omega
 obtain⟨tq,mq,sq,lq⟩:=AI8 l p;generalize imX l p=x at *
 obtain⟨q,s⟩:=x;simp only at tq mq sq lq e3 e4;have mkq:=Pn.AP7 q;have e9:=AFD (Pn.CV q tq);have e9':=TG (s:=s) (by omega);have e10:=XD (q:=q) (k:=1) (by omega) (by omega);have e10':=JM (s:=s) (k:=1+(q.mk4:Nat)) (by omega) (by omega);have e11:=XF (q:=q) (k:=1) (by omega) (by omega);have e11':=A8 (s:=s) (k:=1+(q.mk4:Nat)) (by omega) (by omega);have n2:¬ 1+(q.mk4:Int)<0:=by omega
 have n3:¬ 1+(q.mk4:Int)+(s.2.length:Int)<0:=by omega
 rw[AGI]at e10 e11;rw[Pn.aA p]at *
 rw[Pn.aA q]at *
 simp[tP,tPB]at e1 e3 e4 e5 e7
 rcases sq with ⟨q1,q2,q3⟩|hsq
 ·have i9:=AFE (Pn.CV q tq);rw[Pn.aA q]at i9;simp only[q1,q2,q3,Ex.aB,aF,Pn.aB]at i9;have i10:=XE q.kind q.table (k:=1) (by omega) (by omega);have i11:=XG q.kind q.table (k:=1) (by omega) (by omega);by_cases q4:s.2=[]
  ·have j9:=BZ s.1;have j10:=qQ s.1 (k:=1) (by omega) (by omega);have j11:=qU s.1 (k:=1) (by omega) (by omega);simp only[rqZ,rqB,stZ,J5,q1,q2,q3,q4,if_true,if_false,yO,zA,yV,yT,Ex.aB,aF,Pn.aB]at e3 e4
   try simp at e4
   simp[s1,c1,s2,c2,e1,e2,e3,e4,e5,e6,e7,e8,n1,i9,i10,i11,j9,j10,j11,q1,q2,q3,q4,Ex.aB,aF,Pn.aB]
  ·have j10:=JM (s:=s) (k:=1) (by omega) (by omega);have j11:=A8 (s:=s) (k:=1) (by omega) (by omega);have n4:¬ 1+(s.2.length:Int)<0:=by omega
   simp only[rqZ,rqB,stZ,J5,q1,q2,q3,q4,if_true,if_false,yO,zA,yV,yT,Ex.aB,Pn.aB]at e3 e4 e9' j10 j11
   try simp at e4 e9' j10 j11
   simp[s1,c1,s2,c2,e1,e2,e3,e4,e5,e6,e7,e8,n1,n4,i9,i10,i11,e9',j10,j11,q1,q2,q3,Ex.aB,aF,Pn.aB]
 ·rcases hsq with ⟨q1,q2,q3⟩|⟨q1,q2,q3⟩|⟨q1,q2,q3⟩<;>by_cases q4:s.2=[]
  ·have j9:=BZ s.1;have j10:=qQ s.1 (k:=1+(q.mk4:Nat)) (by omega) (by omega);have j11:=qU s.1 (k:=1+(q.mk4:Nat)) (by omega) (by omega);simp only[rqZ,rqB,stZ,J5,q1,q2,q3,q4,if_true,if_false,yO,zA,yV,yT,Ex.aB,aF,Pn.aB]at e3 e4 e9 e10 e11
   try simp at e4 e9 e10 e11
   simp[s1,c1,s2,c2,e1,e2,e3,e4,e5,e6,e7,e8,e9,e10,e11,n1,n2,j9,j10,j11,q4,q2,Ex.aB,aF,Pn.aB]
  ·simp only[rqZ,rqB,stZ,J5,q1,q2,q3,q4,if_true,if_false,yO,zA,yV,yT,Ex.aB,aF,Pn.aB]at e3 e4 e9 e9' e10 e10' e11 e11'
   try simp at e4 e9 e9' e10 e10' e11 e11'
   simp[s1,c1,s2,c2,e1,e2,e3,e4,e5,e6,e7,e8,e9,e9',e10,e10',e11,e11',n1,n2,n3,q2,Ex.aB,aF,Pn.aB]
  ·have j9:=BZ s.1;have j10:=qQ s.1 (k:=1+(q.mk4:Nat)) (by omega) (by omega);have j11:=qU s.1 (k:=1+(q.mk4:Nat)) (by omega) (by omega);simp only[rqZ,rqB,stZ,J5,q1,q2,q3,q4,if_true,if_false,yO,zA,yV,yT,Ex.aB,aF,Pn.aB]at e3 e4 e9 e10 e11
   try simp at e4 e9 e10 e11
   simp[s1,c1,s2,c2,e1,e2,e3,e4,e5,e6,e7,e8,e9,e10,e11,n1,n2,j9,j10,j11,q4,q1,q2,Ex.aB,aF,Pn.aB]
  ·simp only[rqZ,rqB,stZ,J5,q1,q2,q3,q4,if_true,if_false,yO,zA,yV,yT,Ex.aB,aF,Pn.aB]at e3 e4 e9 e9' e10 e10' e11 e11'
   try simp at e4 e9 e9' e10 e10' e11 e11'
   simp[s1,c1,s2,c2,e1,e2,e3,e4,e5,e6,e7,e8,e9,e9',e10,e10',e11,e11',n1,n2,n3,q1,q2,Ex.aB,aF,Pn.aB]
  ·have j9:=BZ s.1;have j10:=qQ s.1 (k:=1+(q.mk4:Nat)) (by omega) (by omega);have j11:=qU s.1 (k:=1+(q.mk4:Nat)) (by omega) (by omega);simp only[rqZ,rqB,stZ,J5,q1,q2,q3,q4,if_true,if_false,yO,zA,yV,yT,Ex.aB,aF,Pn.aB]at e3 e4 e9 e10 e11
   try simp at e4 e9 e10 e11
   simp[s1,c1,s2,c2,e1,e2,e3,e4,e5,e6,e7,e8,e9,e10,e11,n1,n2,j9,j10,j11,q4,q1,Ex.aB,aF,Pn.aB]
  ·simp only[rqZ,rqB,stZ,J5,q1,q2,q3,q4,if_true,if_false,yO,zA,yV,yT,Ex.aB,aF,Pn.aB]at e3 e4 e9 e9' e10 e10' e11 e11'
   try simp at e4 e9 e9' e10 e10' e11 e11'
   simp[s1,c1,s2,c2,e1,e2,e3,e4,e5,e6,e7,e8,e9,e9',e10,e10',e11,e11',n1,n2,n3,q1,Ex.aB,aF,Pn.aB]
theorem tT {w:World} {p:Pn} {v:Value} {l:List Sts} {c:Value} (hp:p.fat) (rp:IRep (dR w) (.agg p.cells) v) (hl:l.length<9223372036854775808) (hs:∀ s∈l,s.d.length<9223372036854775808∧s.n.length<9223372036854775808) (hc:IRep (dR w) (.isl (gM l)) c) :
 Calls Tryz.prog 3 #[v,c] w fun e w'=>e=.returned (.bool true)∧RowKit.Below w.heap.size w w' :=
 AED AWC (.cons (.i rp) (.cons (.i hc) .nil)) (IU hp hl hs)
end Go.Proofs.YtgiepjdnkonkgaaGreat.P
namespace Go.Proofs.YtgiepjdnkonkgaaGreat.P
open Go Go.Av
set_option maxRecDepth 4000
set_option maxHeartbeats 4000000
section
variable {H:Type} {enc:TypeId×Value→H} {w:World} {sp:Nat→Bool}
theorem AdQ:Tryz.prog.cellsOf 53=3:=by kernel_rfl
theorem ASX {fuel:Nat} {cs:List Value} {r:DataW H×List MemPlace} (h:DataW.trod enc Tryz.prog w 0 sp true fuel 53 cs=some r):∃ s:Sts,(s.d.length<9223372036854775808∧s.n.length<9223372036854775808)∧ICells (dR w) [.int s.rows, .isl (aF s.d), .isl (aF s.n)] cs:=by
 obtain⟨xs,n,rfl,_,hl,hx,hf⟩:=DataW.trod_struct Tryz.underlying53 h;rw[AdQ]at hl;have h0:DataW.trod enc Tryz.prog w 0 sp true n 3 ((cs.drop 0).take (Tryz.prog.cellsOf 3))=xs[0]?:=hf 0 _ rfl;have h1:DataW.trod enc Tryz.prog w 0 sp true n 23 ((cs.drop 1).take (Tryz.prog.cellsOf 23))=xs[1]?:=hf 1 _ rfl;have h2:DataW.trod enc Tryz.prog w 0 sp true n 23 ((cs.drop 2).take (Tryz.prog.cellsOf 23))=xs[2]?:=hf 2 _ rfl;rw[ceI]at h0;rw[AdR]at h1 h2;have hx:xs.length=3:=hx;rw[zX (by omega)]at h0 h1 h2;obtain⟨k0,hk0,_⟩:=DataW.trod_int Tryz.underlying3 h0
 match cs,hl with
 | [c0,c1,c2],_ =>
  simp at hk0 h1 h2;subst hk0;obtain⟨is,li,ri⟩:=YI h1;obtain⟨js,lj,rj⟩:=YI h2;exact⟨⟨k0,is,js⟩,⟨li,lj⟩, .cons (.lit _) rfl (.cons ri (pO ri) (.cons rj (pO rj) .nil))⟩
theorem AMQ {fuel:Nat} {c:Value} {r:DataW H×List MemPlace} (h:DataW.trod enc Tryz.prog w 0 sp true fuel 27 [c]=some r):∃ l:List Sts,l.length<9223372036854775808∧(∀ s∈l,s.d.length<9223372036854775808∧s.n.length<9223372036854775808)∧IRep (dR w) (.isl (gM l)) c:=by
 obtain⟨es,e1,e2,e3⟩:=E5 (P:=fun cs l=>∃ s:Sts,(s.d.length<9223372036854775808∧s.n.length<9223372036854775808)∧l=[.int s.rows, .isl (aF s.d), .isl (aF s.n)]∧ICells (dR w) l cs) Tryz.underlying27 AdQ (by omega) (fun cs l ⟨e,_,h5,h6⟩=>⟨by rw[h5];rfl,h6⟩)
  (fun m hm cs x hx=>by
   obtain⟨e,h5,h6⟩:=ASX hx
   exact⟨_,e,h5,rfl,h6⟩) h
 have key:∀ es:List (List IV),(∀ x∈es,∃ cs,∃ s:Sts,(s.d.length<9223372036854775808∧s.n.length<9223372036854775808)∧x=[.int s.rows, .isl (aF s.d), .isl (aF s.n)]∧ICells (dR w) x cs)→∃ l:List Sts,gM l=es∧∀ a∈l,a.d.length<9223372036854775808∧a.n.length<9223372036854775808:=by
  intro es
  induction es with
  | nil=>intro _;exact⟨[],rfl,by simp⟩
  | cons x es ihe =>
   intro h;obtain⟨_,e,h5,h6,_⟩:=h x (by simp);obtain⟨l,h7,h8⟩:=ihe fun y hy=>h y (by simp[hy])
   exact⟨e::l,by rw[h6,← h7];simp[gM,Sts.cells],fun a ha=>by
    rcases zS.1 ha with rfl|ha
    ·exact h5
    ·exact h8 a ha⟩
 obtain⟨l,rfl,hfat⟩:=key es e3;exact⟨l,by simpa [lV]using e2,hfat,e1⟩
end
end Go.Proofs.YtgiepjdnkonkgaaGreat.P

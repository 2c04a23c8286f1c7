/- Part 6 of what the proof rests on: the executor and what it is worth, and the program's functions as it runs them. No condition. -/
import Derived.Test.YtmcjmafajkeecaaDoorT5
set_option linter.unusedVariables false
set_option linter.unusedSimpArgs false
namespace Go.Proofs.YtmcjmafajkeecaaDoor.P
open Go Go.Av
set_option maxRecDepth 4000
set_option maxHeartbeats 4000000
noncomputable def AGL:FuncId→Option (List AV→StL→Option (AV×StL))
 | 1000000007=>none
 | 3=>none
 | 9=>some (aH CC 9)
 | g=>some (aH C0 g)
noncomputable def CLk:Ctx:={ P:=Tryd.prog,G:=GS,ownArgs:=dU,keepRes:=keepR,eqT:=wU,prim:=AGL }
@[simp] theorem AT2:CLk.P=Tryd.prog:=(rfl)
@[simp] theorem AT3 (f):CLk.G f=GS f:=(rfl)
@[simp] theorem ASZ (f):CLk.ownArgs f=dU f:=(rfl)
@[simp] theorem AT0 (f):CLk.keepRes f=keepR f:=(rfl)
@[simp] theorem AT1 (f):CLk.eqT f=wU f:=(rfl)
@[simp] theorem ASY:CLk.tree=false:=(rfl)
theorem AL2:PrimOk CLk:=by
 have h0:=aZ pE;have hC:=aZ AEX
 have key:∀ g q,CLk.prim g=some q→g≠sW∧(q=aH C0 g∨q=aH CC g):=by
  intro g q h;have h:AGL g=some q:=h;unfold AGL at h;split at h
  all_goals first
   | (cases h;done)
   | (injection h with h;subst h;exact⟨by decide, .inr rfl⟩)
   | (injection h with h;subst h;exact⟨by assumption, .inl rfl⟩)
 constructor
 ·intro g args st p h;unfold bN at h
  cases hq:CLk.prim g with
  | none=>rw[hq]at h;cases h
  | some q =>
   rw[hq]at h;obtain⟨hy,rfl|rfl⟩:=key g q hq
   ·exact h0.name _ _ _ _ hy h
   ·exact hC.name _ _ _ _ hy h
 ·intro g args st r st' h w m φ vs hi hr hb;unfold bN at h
  cases hq:CLk.prim g with
  | none=>rw[hq]at h;cases h
  | some q =>
   rw[hq]at h;obtain⟨hy,rfl|rfl⟩:=key g q hq
   ·exact h0.calls _ _ _ _ _ hy h w m φ vs hi hr hb
   ·exact hC.calls _ _ _ _ _ hy h w m φ vs hi hr hb
theorem AKH:SoundOk CLk:=iJ (C:=CLk) ft nt eqS mo AL2
@[simp] theorem Ac1 (a:List AV) (st:StL):aH CLk 5 a st=aH C0 5 a st:=by rw[aP (p:=aH C0 5) rfl]
@[simp] theorem Ac0 (a:List AV) (st:StL):aH CLk 7 a st=aH C0 7 a st:=by rw[aP (p:=aH C0 7) rfl]
@[simp] theorem AbZ (a:List AV) (st:StL):aH CLk 8 a st=aH C0 8 a st:=by rw[aP (p:=aH C0 8) rfl]
@[simp] theorem AbY (a:List AV) (st:StL):aH CLk 10 a st=aH C0 10 a st:=by rw[aP (p:=aH C0 10) rfl]
@[simp] theorem AbX (a:List AV) (st:StL):aH CLk 11 a st=aH C0 11 a st:=by rw[aP (p:=aH C0 11) rfl]
@[simp] theorem AbW (a:List AV) (st:StL):aH CLk 6 a st=aH C0 6 a st:=by rw[aP (p:=aH C0 6) rfl]
@[simp] theorem AbV (a:List AV) (st:StL):aH CLk 9 a st=aH CC 9 a st:=by rw[aP (p:=aH CC 9) rfl]
theorem vD {p:Pn} {ws:List Int} (hp:p.fat) (hw:ws.length<9223372036854775808):aH CLk 3 [.i (.agg p.cells), .i (.isl (aI ws))] []=some (.bool true,[]):=by
 rw[aF rfl Tryd.func3 rfl rfl];by_cases hl:(1048576:Int)<ws.length
 ·rw[Pn.aB p];simp[hl]
 have s1:=YA p hp 1048576 (by omega) (by omega);by_cases c1:dW 1048576 p.meas<0
 ·rw[Pn.aB p]at *
  simp[hl,s1,c1]
 have m1:p.meas≤1048576:=by
  unfold dW at c1;split at c1<;>omega
 have tp:=Pn.TT p (by omega);have e1:=Y6 p tp;have e3:=LA ws (by omega);have e5:=wG (ws:=ws) tp hw;have e6:=oP (ws:=ws) tp;have e7:=Q6 p hp;have e9:=EK ws (by omega);generalize QI p ws=m at *
 rw[Pn.aB p]at *
 simp[hl,s1,c1,e1,e3,e5,e6,e7,e9]
theorem o9 {w:World} {p:Pn} {v:Value} {ws:List Int} {c:Value} (hp:p.fat) (rp:IRep (dX w) (.agg p.cells) v) (hl:ws.length<9223372036854775808) (hw:IRep (dX w) (.isl (aI ws)) c) :
 Calls Tryd.prog 3 #[v,c] w fun e w'=>e=.returned (.bool true)∧RowKit.Below w.heap.size w w':=by
 exact IU AKH (.cons (.i rp) (.cons (.i hw) .nil)) (vD hp hl)
end Go.Proofs.YtmcjmafajkeecaaDoor.P
namespace Go.Proofs.YtmcjmafajkeecaaDoor
open Go Go.Av
set_option maxRecDepth 4000
noncomputable def YZ:FuncId→Option (List AV→StL→Option (AV×StL))
 | 1000000007=>none
 | 83=>none
 | 75=>none
 | 39=>some (MV (aH C0) 39)
 | 25=>some (ANT (aH C0) 25)
 | 43=>some (AF9 (aH C0) 43)
 | g=>some (aH C0 g)
def ABF:FuncId→Bool
 | 39=>true
 | g=>dU g
@[simp] theorem AOK (g:FuncId):ABF g=if g=39 then true else dU g:=by
  unfold ABF;split
  ·rfl
  ·rename_i h;rw[if_neg h]
noncomputable def CP:Ctx:={ P:=Tryd.prog,G:=GS,ownArgs:=ABF,keepRes:=keepR,eqT:=wU,prim:=YZ }
@[simp] theorem AcS:CP.P=Tryd.prog:=(rfl)
@[simp] theorem AcT (f):CP.G f=GS f:=(rfl)
@[simp] theorem AcP (f):CP.ownArgs f=ABF f:=(rfl)
@[simp] theorem AcQ (f):CP.keepRes f=keepR f:=(rfl)
@[simp] theorem AcR (f):CP.eqT f=wU f:=(rfl)
@[simp] theorem AcO:CP.tree=false:=(rfl)
theorem MB:PrimOk CP:=by
 have h0:=aZ pE
 have key:∀ g q,CP.prim g=some q→g≠sW∧(q=aH C0 g∨q=MV (aH C0) g∨q=ANT (aH C0) g∨q=AF9 (aH C0) g):=by
  intro g q h;have h:YZ g=some q:=h;unfold YZ at h;split at h
  all_goals first
   | (cases h;done)
   | (injection h with h;subst h;exact⟨by decide, .inr (.inl rfl)⟩)
   | (injection h with h;subst h;exact⟨by decide, .inr (.inr (.inl rfl))⟩)
   | (injection h with h;subst h;exact⟨by decide, .inr (.inr (.inr rfl))⟩)
   | (injection h with h;subst h;exact⟨by assumption, .inl rfl⟩)
 constructor
 ·intro g args st p h;unfold bN at h
  cases hq:CP.prim g with
  | none=>rw[hq]at h;cases h
  | some q =>
   rw[hq]at h;obtain⟨hy,hor⟩:=key g q hq
   rcases hor with rfl|rfl|rfl|rfl
   ·exact h0.name _ _ _ _ hy h
   ·exact(HZ h0 (r:=p.1) (stl':=p.2) h hy).1
   ·exact(IB h0 (r:=p.1) (stl':=p.2) h hy).1
   ·exact(IA h0 (r:=p.1) (stl':=p.2) h hy).1
 ·intro g args st r st' h w m φ vs hi hr hb;unfold bN at h
  cases hq:CP.prim g with
  | none=>rw[hq]at h;cases h
  | some q =>
   rw[hq]at h;obtain⟨hy,hor⟩:=key g q hq
   rcases hor with rfl|rfl|rfl|rfl
   ·exact h0.calls _ _ _ _ _ hy h w m φ vs hi hr hb
   ·exact(HZ h0 h hy).2 w m φ vs hi hr hb
   ·exact(IB h0 h hy).2 w m φ vs hi hr hb
   ·exact(IA h0 h hy).2 w m φ vs hi hr hb
theorem AKG:SoundOk CP:=iJ (C:=CP) ft nt eqS mo MB
end Go.Proofs.YtmcjmafajkeecaaDoor
namespace Go.Av
end Go.Av
namespace Go.Proofs.YtmcjmafajkeecaaDoor.P
open Go Go.Av
set_option maxRecDepth 4000
set_option maxHeartbeats 4000000
@[simp] theorem APQ (a:List AV) (st:StL):aH CP 55 a st=aH C0 55 a st:=by rw[aP (p:=aH C0 55) rfl]
@[simp] theorem ARG (a:List AV) (st:StL):aH CP 56 a st=aH C0 56 a st:=by rw[aP (p:=aH C0 56) rfl]
@[simp] theorem APS (a:List AV) (st:StL):aH CP 85 a st=aH C0 85 a st:=by rw[aP (p:=aH C0 85) rfl]
@[simp] theorem APR (a:List AV) (st:StL):aH CP 86 a st=aH C0 86 a st:=by rw[aP (p:=aH C0 86) rfl]
@[simp] theorem AI3 (a:List AV) (st:StL):aH CP 84 a st=aH C0 84 a st:=by rw[aP (p:=aH C0 84) rfl]
theorem EM (p:Pn) (hp:p.thin):aH CP 43 [.i (.agg p.cells)] []=some (.i (.agg p.cells),[]):=by
 have h:=lN p hp;rw[aP (p:=AF9 (aH C0) 43) rfl];unfold AF9;by_cases he:p.exprs=[]
 ·by_cases hk:p.kids=[]
  ·simp[pcX,pcS,hk,he,Pn.aA,Ex.aA]at h;simp[h];rw[Pn.aB];simp[hk,he,Pn.aA,Ex.aA]
  ·have hkl:p.kids.length≠0:=fun h=>hk (zZ.1 h)
   simp[pcX,pcS,hk,he,aQ hkl,aJ hkl,Ex.aA]at h;simp[h];rw[Pn.aB];simp[hk,he,Ex.aA]
 ·have hel:p.exprs.length≠0:=fun h=>he (zZ.1 h)
  by_cases hk:p.kids=[]
  ·simp[pcX,pcS,hk,he,aQ hel,aJ hel,Pn.aA]at h;simp[h];rw[Pn.aB];simp[hk,he,Pn.aA]
  ·have hkl:p.kids.length≠0:=fun h=>hk (zZ.1 h)
   simp[pcX,pcS,hk,he,aQ hel,aJ hel,aQ hkl,aJ hkl]at h;simp[h];rw[Pn.aB]
theorem fU {ws:List Int} (hw:∀ w∈ws,0≤w∧w≤6) (hwl:ws.length<1000000) {k:Nat} (hk0:0<k) (hk:k≤ws.length) (p:Pn) (hp:p.thin):aH CP 39 [.i (.agg p.cells), .osl 0 1 0 k, .int 8] [some (.arr 1 (aI ws))]=some (.int (p.wd (ws.take k) 8),[some (.arr 1 (aI ws))]):=by
 have h:=nQ (ws:=ws.take k) (fun w hm=>hw w (zK hm)) (by simp;omega) p (Pn.J8 p hp) 8 (by omega);rw[aP (p:=MV (aH C0) 39) rfl];unfold MV;simp at h;simp[G9,TQ,h,hk,hk0,jJ]
def bK (e:Ex) (p:Pn):Pn:=.mk 2 0 [e] [] [p]
theorem bG (e:Ex) (p:Pn):(bK e p).cells=[.int 2, .int 0, .isl [e.cells], .isl [], .isl [p.cells]]:=by simp[bK,Pn.cells,Ex.aA,aI,Pn.aA]
theorem eO (e:Ex) (p:Pn):aH C0 84 [.i (.agg e.cells), .i (.agg p.cells)] []=some (.i (.agg (bK e p).cells),[]):=by
 rw[aF rfl Tryd.func84 rfl rfl,bG,Ex.aB,Pn.aB];simp
theorem bM {e:Ex} {p:Pn} (he:e.size<1000000) (hp:p.thin):(bK e p).thin:=by
 have:=Ex.bV e (by omega);simp[bK,Pn.thin,Pn.gL,this,hp]
noncomputable def YY:FuncId→Option (List AV→StL→Option (AV×StL))
 | 83=>some (aH CP 83)
 | 84=>some (lT C0 true 84)
 | g=>YZ g
noncomputable def CQ:Ctx:={ P:=Tryd.prog,G:=GS,ownArgs:=ABF,keepRes:=keepR,eqT:=wU,prim:=YY }
@[simp] theorem AcM:CQ.P=Tryd.prog:=(rfl)
@[simp] theorem AcN (f):CQ.G f=GS f:=(rfl)
@[simp] theorem AcJ (f):CQ.ownArgs f=ABF f:=(rfl)
@[simp] theorem AcK (f):CQ.keepRes f=keepR f:=(rfl)
@[simp] theorem AcL (f):CQ.eqT f=wU f:=(rfl)
@[simp] theorem AcI:CQ.tree=false:=(rfl)
theorem AL1:PrimOk CQ:=by
 have hP:=aZ AKG;constructor
 ·intro g args st p h;unfold bN at h
  cases hq:CQ.prim g with
  | none=>rw[hq]at h;cases h
  | some q =>
   rw[hq]at h;have hq:YY g=some q:=hq;unfold YY at hq;split at hq
   ·injection hq with hq;subst hq;exact hP.name _ _ _ _ (by decide) h
   ·injection hq with hq;subst hq;exact(gT pE (r:=p.1) (stl':=p.2) h).1
   ·exact MB.name g args st p (by unfold bN;rw[show CP.prim g=some q from hq];exact h)
 ·intro g args st r st' h w m φ vs hi hr hb;unfold bN at h
  cases hq:CQ.prim g with
  | none=>rw[hq]at h;cases h
  | some q =>
   rw[hq]at h;have hq:YY g=some q:=hq;unfold YY at hq;split at hq
   ·injection hq with hq;subst hq;exact hP.calls _ _ _ _ _ (by decide) h w m φ vs hi hr hb
   ·injection hq with hq;subst hq;exact(gT pE h).2 w m φ vs hi hr hb
   ·exact MB.calls g args st r st' (by unfold bN;rw[show CP.prim g=some q from hq];exact h) w m φ vs hi hr hb
theorem AEV:SoundOk CQ:=iJ (C:=CQ) ft nt eqS mo AL1
noncomputable def YX:FuncId→Option (List AV→StL→Option (AV×StL))
 | 1000000007=>none
 | 35=>none
 | 54=>none
 | 75=>none
 | 83=>some (lT CQ true 83)
 | 84=>some (lT C0 true 84)
 | 39=>some (V9 (aH C0) 39)
 | g=>YZ g
def ALT (g:FuncId):Bool:=keepR g || decide (g=75)
noncomputable def CR:Ctx:={ P:=Tryd.prog,G:=GS,ownArgs:=ABF,keepRes:=ALT,eqT:=wU,prim:=YX }
@[simp] theorem AcG:CR.P=Tryd.prog:=(rfl)
@[simp] theorem AcH (f):CR.G f=GS f:=(rfl)
@[simp] theorem AcD (f):CR.ownArgs f=ABF f:=(rfl)
@[simp] theorem AcE (f):CR.keepRes f=(keepR f || decide (f=75)):=(rfl)
@[simp] theorem AcF (f):CR.eqT f=wU f:=(rfl)
@[simp] theorem AcC:CR.tree=false:=(rfl)
theorem AL0:PrimOk CR:=by
 constructor
 ·intro g args st p h;unfold bN at h
  cases hq:CR.prim g with
  | none=>rw[hq]at h;cases h
  | some q =>
   rw[hq]at h;have hq:YX g=some q:=hq;unfold YX at hq;split at hq
   all_goals first
    | (cases hq;done)
    | (injection hq with hq;subst hq;exact(gT AEV (r:=p.1) (stl':=p.2) h).1)
    | (injection hq with hq;subst hq;exact(gT pE (r:=p.1) (stl':=p.2) h).1)
    | (injection hq with hq;subst hq;exact(DI (aZ pE) (r:=p.1) (stl':=p.2) h (by decide)).1)
    | exact MB.name g args st p (by unfold bN;rw[show CP.prim g=some q from hq];exact h)
 ·intro g args st r st' h w m φ vs hi hr hb;unfold bN at h
  cases hq:CR.prim g with
  | none=>rw[hq]at h;cases h
  | some q =>
   rw[hq]at h;have hq:YX g=some q:=hq;unfold YX at hq;split at hq
   all_goals first
    | (cases hq;done)
    | (injection hq with hq;subst hq;exact(gT AEV h).2 w m φ vs hi hr hb)
    | (injection hq with hq;subst hq;exact(gT pE h).2 w m φ vs hi hr hb)
    | (injection hq with hq;subst hq;exact(DI (aZ pE) h (by decide)).2 w m φ vs hi hr hb)
    | exact MB.calls g args st r st' (by unfold bN;rw[show CP.prim g=some q from hq];exact h) w m φ vs hi hr hb
theorem AKF:SoundOk CR:=iJ (C:=CR) ft nt eqS mo AL0
end Go.Proofs.YtmcjmafajkeecaaDoor.P
namespace Go.Av
section
variable {rows:List (List Val)} {w:Int} (hr:∀ r∈rows,rowOk w r=true) (hw:cB w=true)
include hr hw
end
def rbK (cnt:List Int) (k t:Int) (cs:List Int) (a b:Int):Int :=
 if k=1 then(cnt[t.toNat]?).getD 0 else min (if k=4 then a*b else if k=5 then a*max 1 b else if k=6 then a+b else if k=8∧cs=[]then min a 1 else a) 1000000000
mutual
def Pn.rb (cnt:List Int):Pn→Int
 | .mk k t es cs ks=>rbK cnt k t cs (((Pn.rbL cnt ks)[0]?).getD 0) (((Pn.rbL cnt ks)[1]?).getD 0)
def Pn.rbL (cnt:List Int):List Pn→List Int
 | []=>[]
 | p::ps=>Pn.rb cnt p::Pn.rbL cnt ps
end
def AKC (fl:List Bool):List Int:=fl.map fun b=>if b=true then 7 else 3
def ALE (e:Ex) (fl:List Bool):List Bool:=(List.range fl.length).map fun i=>(fl[i]?).getD false && OJ (AOM ((AKC fl).set i 4) e) 2
def nlK (flags:List (List Bool)) (k t:Int) (es:List Ex) (cs:List Int) (a b:List Bool):List Bool :=
 if k=1 then(flags[t.toNat]?).getD []
 else if k=2 then ALE (exO es) a
 else if k=3 then es.map fun e=>OJ (AOM (AKC a) e) 4
 else if k=4 then a++b
 else if k=5 then a++b.map fun _=>true
 else if k=6 then List.zipWith (· || ·) a b
 else if k=8 then(cs.map fun c=>(a[c.toNat]?).getD false)++[false]
 else a
mutual
def Pn.nl (flags:List (List Bool)):Pn→List Bool
 | .mk k t es cs ks=>nlK flags k t es cs (((Pn.nlL flags ks)[0]?).getD []) (((Pn.nlL flags ks)[1]?).getD [])
def Pn.nlL (flags:List (List Bool)):List Pn→List (List Bool)
 | []=>[]
 | p::ps=>Pn.nl flags p::Pn.nlL flags ps
end
def ARV (db:List Tbl) (k t:Int) (es:List Ex) (cs:List Int) (a b:Tbl):List (List Val) :=
 if k=1 then((db[t.toNat]?).getD AG0).rows
 else if k=2 then a.rows.filter (isT (exO es))
 else if k=3 then a.rows.map fun r=>es.map (Ex.ev r)
 else if k=4∨k=5 then ALV (exO es) (decide (k=5)) a b
 else if k=6 then a.rows++b.rows
 else if k=7 then AM7 a.rows
 else NH cs a.rows
def Pn.raw (db:List Tbl) (p:Pn):List (List Val):=ARV db p.kind p.table p.exprs p.cols ((p.kids[0]?.map (Pn.evP db)).getD AG0) ((p.kids[1]?.map (Pn.evP db)).getD AG0)
mutual
def Pn.fit (db:List Tbl):Pn→Bool
 | .mk k t es cs ks=>decide ((Pn.raw db (.mk k t es cs ks)).length≤400) && Pn.AQO db ks
def Pn.AQO (db:List Tbl):List Pn→Bool
 | []=>true
 | p::ps=>Pn.fit db p && Pn.AQO db ps
end
mutual
def Pn.bd (n:Nat):Pn→Nat
 | .mk _ _ es _ ks=>bdK n es (Pn.bdL n ks)
def Pn.bdL (n:Nat):List Pn→List Nat
 | []=>[]
 | p::ps=>Pn.bd n p::Pn.bdL n ps
def bdK (n:Nat) (es:List Ex):List Nat→Nat
 | []=>n
 | [a]=>a
 | a::b::_=>if es=[]then a+b else a*b
end
theorem AIF (n:Nat) (t:Int):(Pn.scan t).bd n=n:=by simp[Pn.scan,Pn.bd,Pn.bdL,bdK]
theorem O7 (n:Nat) (k t:Int) (es:List Ex) (cs:List Int) (a:Pn):(Pn.mk k t es cs [a]).bd n=a.bd n:=by simp[Pn.bd,Pn.bdL,bdK]
theorem AFJ (n:Nat) (k t:Int) (es:List Ex) (cs:List Int) (a b:Pn):(Pn.mk k t es cs [a,b]).bd n=if es=[]then a.bd n+b.bd n else a.bd n*b.bd n:=by simp[Pn.bd,Pn.bdL,bdK]
def Th (P:Pn) (j j':Nat) (u u':Int):Prop:=P.thin∧(j'≤j∧u'≤u∧∀ n:Nat,1≤n→P.bd n≤2 ^ (u-u').toNat*n ^ (j-j'+1))∧(P.exprs=[]→P.kids.length=2→P.kind=6)
theorem Th.scan {t:Int} (h:(Pn.scan t).thin) (j:Nat) (u:Int):Th (.scan t) j j u u:=by
 refine⟨h,⟨Nat.le_refl _,Int.le_refl _,fun n _=>?_⟩,by simp[Pn.scan]⟩;rw[AIF];simp
theorem Th.one {k t:Int} {es:List Ex} {cs:List Int} {K:Pn} {j j1:Nat} {u u1:Int} (hth:(Pn.mk k t es cs [K]).thin) (h:Th K j j1 u u1):Th (.mk k t es cs [K]) j j1 u u1:=by
 refine⟨hth,⟨h.2.1.1,h.2.1.2.1,fun n hn=>?_⟩,by simp⟩;rw[O7];exact h.2.1.2.2 n hn
theorem Th.skip {k t:Int} {es:List Ex} {cs:List Int} {K:Pn} {j j1 j2:Nat} {u u1 u2:Int} (hth:(Pn.mk k t es cs [K]).thin) (h:Th K j j1 u u1) (h2:j2≤j1) (h3:u2≤u1):Th (.mk k t es cs [K]) j j2 u u2:=by
 obtain⟨-,⟨g1,g2,g3⟩,-⟩:=h;refine⟨hth,⟨by omega,by omega,fun n hn=>?_⟩,by simp⟩;rw[O7];refine y8 (g3 n hn) (Nat.mul_le_mul (zA0 (by omega) (by omega)) (zA0 hn (by omega)))
theorem Th.un {e:Ex} {K:Pn} {j j1:Nat} {u u1:Int} (hth:(Pn.mk 6 0 [] [] [K, .mk 2 0 [e] [] [K]]).thin) (h:Th K j j1 u u1):Th (.mk 6 0 [] [] [K, .mk 2 0 [e] [] [K]]) j j1 u (u1-1):=by
 obtain⟨-,⟨g1,g2,g3⟩,-⟩:=h;refine⟨hth,⟨g1,by omega,fun n hn=>?_⟩,by simp⟩;rw[AFJ,if_pos rfl,O7];have:=g3 n hn;rw[show(u-(u1-1)).toNat=(u-u1).toNat+1 by omega,xC,zB (2 ^ (u-u1).toNat) 2,Nat.mul_assoc];omega
theorem Th.jn {z:Int} {e:Ex} {K O:Pn} {j j1 j2:Nat} {u u1 u2:Int} (hth:(Pn.mk z 0 [e] [] [K,O]).thin) (hj:j1≠0) (h:Th K j j1 u u1) (h2:Th O (j1-1) j2 u1 u2):Th (.mk z 0 [e] [] [K,O]) j j2 u u2:=by
 obtain⟨-,⟨g1,g2,g3⟩,-⟩:=h;obtain⟨-,⟨k1,k2,k3⟩,-⟩:=h2;refine⟨hth,⟨by omega,by omega,fun n hn=>?_⟩,by simp⟩;rw[AFJ,if_neg (by simp)];have:=Nat.mul_le_mul (g3 n hn) (k3 n hn);refine y8 this (Nat.le_of_eq ?_);have e1:2 ^ (u-u2).toNat=2 ^ (u-u1).toNat*2 ^ (u1-u2).toNat:=by rw[← Nat.pow_add];congr 1;omega
 have e2:n ^ (j-j2+1)=n ^ (j-j1+1)*n ^ (j1-1-j2+1):=by rw[← Nat.pow_add];congr 1;omega
 rw[e1,e2];exact Nat.mul_mul_mul_comm _ _ _ _
def BdV (P:Pn):Prop:=∀ (ws:List Int) (lv n:Nat),1≤n→P.wd ws lv≠0→P.bd n≤2*n ^ 2
theorem Th.bdV {P:Pn} {j':Nat} {u':Int} (h:Th P 1 j' 1 u') (hu:0≤u'):∀ n:Nat,1≤n→P.bd n≤2*n ^ 2:=by
 intro n hn;have:=h.2.1.2.2 n hn;refine y8 this (Nat.mul_le_mul (zA0 (by omega) (show(1-u').toNat≤1 by omega)) (zA0 hn (by omega)))
theorem AIG (n:Nat) (P:Pn) (k t:Int) (cs:List Int):(Pn.mk k t P.exprs cs P.kids).bd n=P.bd n:=by
 obtain⟨k',t',es,cs',ks⟩:=P;simp[Pn.bd,Pn.exprs,Pn.kids]
theorem ADZ {P:Pn} {e:Ex} (h:∀ n:Nat,1≤n→P.bd n≤2*n ^ 2) (h6:P.exprs=[]→P.kids.length=2→P.kind=6):BdV (.mk P.kind P.table (P.exprs++[e]) P.cols P.kids):=by
 intro ws lv n hn hw;have h0:=h n hn;obtain⟨k,t,es,cs,ks⟩:=P;simp only[Pn.cK,Pn.jF,Pn.eT,Pn.jB,Pn.fA]at *
 match ks,h0,h6,hw with
 | [],h0,_,_=>simpa [Pn.bd,Pn.bdL,bdK]using h0
 | [a],h0,_,_=>rw[O7]at h0 ⊢;exact h0
 | a::b::l,h0,h6,hw =>
  by_cases he:es=[]
  ·subst he;have hsh:=ABR hw;generalize hp:Pn.mk k t ([]++[e]) cs (a::b::l)=p at hsh
   cases hsh<;>simp only[Pn.scan,filt,proj,Z7,KZ,Pn.mk.injEq,yO,reduceCtorEq,and_false,List.cons.injEq,false_and,and_true]at hp
   rename_i hk _ _ _ _;obtain⟨rfl,_,_,_,_,_,rfl⟩:=hp;have:=h6 rfl rfl;omega
  ·have e1:(Pn.mk k t (es++[e]) cs (a::b::l)).bd n=(Pn.mk k t es cs (a::b::l)).bd n:=by
    simp only[Pn.bd,Pn.bdL,bdK];rw[if_neg (by simp),if_neg he]
   rw[e1];exact h0
def Rt (P:Pn):Prop:=P.thin∧(∀ n:Nat,1≤n→P.bd n≤2*n ^ 2)∧(P.exprs=[]→P.kids.length=2→P.kind=6)
theorem Th.rt {P:Pn} {j':Nat} {u':Int} (h:Th P 1 j' 1 u') (hu:0≤u'):Rt P:=⟨h.1,h.bdV hu,h.2.2⟩
theorem Rt.one {k t:Int} {es:List Ex} {cs:List Int} {P:Pn} (hth:(Pn.mk k t es cs [P]).thin) (h:Rt P):Rt (.mk k t es cs [P]):=⟨hth,fun n hn=>by rw[O7];exact h.2.1 n hn,by simp⟩
theorem Rt.head {P:Pn} {k t:Int} {cs:List Int} (h:Rt P):BdV (.mk k t P.exprs cs P.kids):=fun ws lv n hn _=>by rw[AIG];exact h.2.1 n hn
theorem Rt.all {P:Pn} (h:Rt P):BdV P:=fun ws lv n hn _=>h.2.1 n hn
end Go.Av
namespace Go.Proofs.YtmcjmafajkeecaaDoor.P
open Go Go.Av
set_option maxRecDepth 4000
set_option maxHeartbeats 8000000
def PSt (l:List UInt8) (ws:List Int) (k:Nat) (j u p:Int):StL:=[some (.box [.own 1 0, .osl 2 1 0 k, .int j, .int u]),Rd l p,some (.arr 1 (aI ws))]
def lU (l:List UInt8) (ws:List Int) (k d j c:Nat):Prop:=∀ p u:Int,0≤p→p+c<300000000→0≤u→u≤1→∃ (P:Pn) (p' u':Int) (j':Nat),
    aH CP 83 [.own 0 0, .int d] (PSt l ws k j u p)=some (.i (.agg P.cells),PSt l ws k j' u' p')∧Th P j j' u u'∧p≤p'∧p'≤p+c∧j'≤j∧0≤u'∧u'≤1
theorem GY (t:Int):(Pn.scan t).cells=[.int 1, .int t, .isl [], .isl [], .isl []]:=by simp[Pn.scan,Pn.cells,Ex.aA,aI,Pn.aA]
theorem MC {l:List UInt8} (hl:l.length≤2000) {ws:List Int} {k:Nat} (j:Nat):lU l ws k 0 j 1:=by
 intro p u h0 h1 hu0 hu1;obtain⟨t,ht,-,-⟩:=bF l p k h0 (by omega) hl;refine⟨.scan t,p+1,u,j,?_,Th.scan (Pn.CE t) _ _,by omega,by omega,by omega,by omega,by omega⟩;rw[aF rfl Tryd.func83 rfl rfl];simp[PSt,ht,GY]
structure PlH (l:List UInt8) (ws:List Int) (k d j c2:Nat) (p u t v W kk p1 u1:Int) (j1:Nat) (K:Pn):Prop where
 hd:d<100
 h1:p1+400+c2<300000000
 hp1:0≤p1
 hu0:0≤u1
 hu1:u1≤1
 hW0:0≤W
 hW6:W≤6
 hKB:Th K j j1 u u1
 ht:aH C0 55 [.own 0 0, .int k] [Rd l p]=some (.int t,[Rd l (p+1)])
 hv:aH C0 55 [.own 0 0, .int 6] [Rd l (p+1)]=some (.int v,[Rd l (p+1+1)])
 v0:¬ v=0
 hkid:aH CP 83 [.own 0 0, .int d] (PSt l ws k j u (p+1+1))=some (.i (.agg K.cells),PSt l ws k j1 u1 p1)
 hW:aH CP 39 [.i (.agg K.cells), .osl 0 1 0 k, .int 8] [some (.arr 1 (aI ws))]=some (.int W,[some (.arr 1 (aI ws))])
 hkk:aH C0 55 [.own 0 0, .int 10] [Rd l p1]=some (.int kk,[Rd l (p1+1)])
abbrev PlC (l:List UInt8) (ws:List Int) (k d j c2:Nat) (p u p1:Int) (j1:Nat):Prop:=∃ (P:Pn) (p' u':Int) (j':Nat),aH CP 83 [.own 0 0, .int ((d+1:Nat):Int)] (PSt l ws k j u p)=some (.i (.agg P.cells),PSt l ws k j' u' p')∧Th P j j' u u'∧p1≤p'∧p'≤p1+400+c2∧j'≤j1∧0≤u'∧u'≤1
theorem ML {l:List UInt8} (hl:l.length≤2000) {ws:List Int} {k:Nat} {d j c2:Nat} {p u t v W kk p1 u1:Int} {j1:Nat} {K:Pn} (H:PlH l ws k d j c2 p u t v W kk p1 u1 j1 K) (hq:kk=0):PlC l ws k d j c2 p u p1 j1:=by
 obtain⟨hd,h1,hp1,hu0,hu1,hW0,hW6,hKB,ht,hv,v0,hkid,hW,hkk⟩:=H;have we:IntKind.i64.wrap (d:Int)=d:=wrO;have hK:=hKB.1;have wn:¬ ((d:Int)+1=0):=by omega
 simp only[PSt]at hkid;rw[Pn.aB K]at hkid hW;obtain⟨e,p2,he,a1,a2,a3⟩:=aL l hl W (p1+1) (by omega) (by omega);have hf:=eO e K;rw[bG,Pn.aB K,Ex.aB e]at hf;rw[Ex.aB e]at he;refine⟨bK e K,p2,u1,j1,?_,Th.one (bM (by omega) hK) hKB,by omega,by omega,by omega,by omega,by omega⟩;rw[aF rfl Tryd.func83 rfl rfl];simp[PSt,ht,hv,v0,we,hkid,hW,hkk,wn,hq,he,hf,bG,Pn.aB K,Ex.aB e]
theorem MK {l:List UInt8} (hl:l.length≤2000) {ws:List Int} {k:Nat} {d j c2:Nat} {p u t v W kk p1 u1:Int} {j1:Nat} {K:Pn} (H:PlH l ws k d j c2 p u t v W kk p1 u1 j1 K) (hq:kk=1):PlC l ws k d j c2 p u p1 j1:=by
 obtain⟨hd,h1,hp1,hu0,hu1,hW0,hW6,hKB,ht,hv,v0,hkid,hW,hkk⟩:=H;have we:IntKind.i64.wrap (d:Int)=d:=wrO;have hK:=hKB.1;have wn:¬ ((d:Int)+1=0):=by omega
 simp only[PSt]at hkid;rw[Pn.aB K]at hkid hW;obtain⟨e,p2,he,a1,a2,a3⟩:=aL l hl W (p1+1) (by omega) (by omega);have hf:=eO e K;rw[bG,Pn.aB K,Ex.aB e]at hf;rw[Ex.aB e]at he;refine⟨bK e K,p2,u1,j1,?_,Th.one (bM (by omega) hK) hKB,by omega,by omega,by omega,by omega,by omega⟩;rw[aF rfl Tryd.func83 rfl rfl];simp[PSt,ht,hv,v0,we,hkid,hW,hkk,wn,hq,he,hf,bG,Pn.aB K,Ex.aB e]
theorem MJ {l:List UInt8} (hl:l.length≤2000) {ws:List Int} {k:Nat} {d j c2:Nat} {p u t v W kk p1 u1:Int} {j1:Nat} {K:Pn} (H:PlH l ws k d j c2 p u t v W kk p1 u1 j1 K) (hq:kk=2):PlC l ws k d j c2 p u p1 j1:=by
 obtain⟨hd,h1,hp1,hu0,hu1,hW0,hW6,hKB,ht,hv,v0,hkid,hW,hkk⟩:=H;have we:IntKind.i64.wrap (d:Int)=d:=wrO;have hK:=hKB.1;have wn:¬ ((d:Int)+1=0):=by omega
 simp only[PSt]at hkid;rw[Pn.aB K]at hkid hW;obtain⟨e,p2,he,a1,a2,a3⟩:=aL l hl W (p1+1) (by omega) (by omega);have hf:=eO e K;rw[bG,Pn.aB K,Ex.aB e]at hf;rw[Ex.aB e]at he;refine⟨bK e K,p2,u1,j1,?_,Th.one (bM (by omega) hK) hKB,by omega,by omega,by omega,by omega,by omega⟩;rw[aF rfl Tryd.func83 rfl rfl];simp[PSt,ht,hv,v0,we,hkid,hW,hkk,wn,hq,he,hf,bG,Pn.aB K,Ex.aB e]
theorem JJ {l:List UInt8} (hl:l.length≤2000) {ws:List Int} {k:Nat} {d j c2:Nat} {p u t v W kk p1 u1:Int} {j1:Nat} {K:Pn} (H:PlH l ws k d j c2 p u t v W kk p1 u1 j1 K) (hq:kk=8):PlC l ws k d j c2 p u p1 j1:=by
 obtain⟨hd,h1,hp1,hu0,hu1,hW0,hW6,hKB,ht,hv,v0,hkid,hW,hkk⟩:=H;have we:IntKind.i64.wrap (d:Int)=d:=wrO;have hK:=hKB.1;have wn:¬ ((d:Int)+1=0):=by omega
 simp only[PSt]at hkid;rw[Pn.aB K]at hkid hW;refine⟨.mk 7 0 [] [] [K],p1+1,u1,j1,?_,Th.one (by simp[Pn.thin,Pn.gL,hK]) hKB,by omega,by omega,by omega,by omega,by omega⟩;rw[aF rfl Tryd.func83 rfl rfl];simp[PSt,ht,hv,v0,we,hkid,hW,hkk,wn,hq,Pn.cells,Ex.aA,aI,Pn.aA,Pn.aB K]
theorem MI {l:List UInt8} (hl:l.length≤2000) {ws:List Int} {k:Nat} {d j c2:Nat} {p u t v W kk p1 u1:Int} {j1:Nat} {K:Pn} (H:PlH l ws k d j c2 p u t v W kk p1 u1 j1 K) (hj:j1=0) (hq:kk=5):PlC l ws k d j c2 p u p1 j1:=by
 obtain⟨hd,h1,hp1,hu0,hu1,hW0,hW6,hKB,ht,hv,v0,hkid,hW,hkk⟩:=H;have we:IntKind.i64.wrap (d:Int)=d:=wrO;have hK:=hKB.1;have wn:¬ ((d:Int)+1=0):=by omega
 simp only[PSt]at hkid;rw[Pn.aB K]at hkid hW;obtain⟨e,p2,he,a1,a2,a3⟩:=aL l hl W (p1+1) (by omega) (by omega);have hf:=eO e K;rw[bG,Pn.aB K,Ex.aB e]at hf;rw[Ex.aB e]at he;refine⟨bK e K,p2,u1,j1,?_,Th.one (bM (by omega) hK) hKB,by omega,by omega,by omega,by omega,by omega⟩;rw[aF rfl Tryd.func83 rfl rfl];simp[PSt,ht,hv,v0,we,hkid,hW,hkk,wn,hq,he,hf,bG,Pn.aB K,Ex.aB e,hj]
theorem UW {l:List UInt8} (hl:l.length≤2000) {ws:List Int} {k:Nat} {d j c2:Nat} {p u t v W kk p1 u1:Int} {j1:Nat} {K:Pn} (H:PlH l ws k d j c2 p u t v W kk p1 u1 j1 K) (hj:j1≠0) (hw4:¬ W≤4) (hq:kk=5):PlC l ws k d j c2 p u p1 j1:=by
 obtain⟨hd,h1,hp1,hu0,hu1,hW0,hW6,hKB,ht,hv,v0,hkid,hW,hkk⟩:=H;have we:IntKind.i64.wrap (d:Int)=d:=wrO;have hK:=hKB.1;have wn:¬ ((d:Int)+1=0):=by omega
 simp only[PSt]at hkid;rw[Pn.aB K]at hkid hW;have hj':0<j1:=by omega
 obtain⟨e,p2,he,a1,a2,a3⟩:=aL l hl W (p1+1) (by omega) (by omega);have hf:=eO e K;rw[bG,Pn.aB K,Ex.aB e]at hf;rw[Ex.aB e]at he;refine⟨bK e K,p2,u1,j1,?_,Th.one (bM (by omega) hK) hKB,by omega,by omega,by omega,by omega,by omega⟩;rw[aF rfl Tryd.func83 rfl rfl];simp[PSt,ht,hv,v0,we,hkid,hW,hkk,wn,hq,he,hf,bG,Pn.aB K,Ex.aB e,hj',hj,hw4]
theorem MH {l:List UInt8} (hl:l.length≤2000) {ws:List Int} {k:Nat} {d j c2:Nat} {p u t v W kk p1 u1:Int} {j1:Nat} {K:Pn} (H:PlH l ws k d j c2 p u t v W kk p1 u1 j1 K) (hj:j1=0) (hq:kk=6):PlC l ws k d j c2 p u p1 j1:=by
 obtain⟨hd,h1,hp1,hu0,hu1,hW0,hW6,hKB,ht,hv,v0,hkid,hW,hkk⟩:=H;have we:IntKind.i64.wrap (d:Int)=d:=wrO;have hK:=hKB.1;have wn:¬ ((d:Int)+1=0):=by omega
 simp only[PSt]at hkid;rw[Pn.aB K]at hkid hW;obtain⟨e,p2,he,a1,a2,a3⟩:=aL l hl W (p1+1) (by omega) (by omega);have hf:=eO e K;rw[bG,Pn.aB K,Ex.aB e]at hf;rw[Ex.aB e]at he;refine⟨bK e K,p2,u1,j1,?_,Th.one (bM (by omega) hK) hKB,by omega,by omega,by omega,by omega,by omega⟩;rw[aF rfl Tryd.func83 rfl rfl];simp[PSt,ht,hv,v0,we,hkid,hW,hkk,wn,hq,he,hf,bG,Pn.aB K,Ex.aB e,hj]
theorem UV {l:List UInt8} (hl:l.length≤2000) {ws:List Int} {k:Nat} {d j c2:Nat} {p u t v W kk p1 u1:Int} {j1:Nat} {K:Pn} (H:PlH l ws k d j c2 p u t v W kk p1 u1 j1 K) (hj:j1≠0) (hw4:¬ W≤4) (hq:kk=6):PlC l ws k d j c2 p u p1 j1:=by
 obtain⟨hd,h1,hp1,hu0,hu1,hW0,hW6,hKB,ht,hv,v0,hkid,hW,hkk⟩:=H;have we:IntKind.i64.wrap (d:Int)=d:=wrO;have hK:=hKB.1;have wn:¬ ((d:Int)+1=0):=by omega
 simp only[PSt]at hkid;rw[Pn.aB K]at hkid hW;have hj':0<j1:=by omega
 obtain⟨e,p2,he,a1,a2,a3⟩:=aL l hl W (p1+1) (by omega) (by omega);have hf:=eO e K;rw[bG,Pn.aB K,Ex.aB e]at hf;rw[Ex.aB e]at he;refine⟨bK e K,p2,u1,j1,?_,Th.one (bM (by omega) hK) hKB,by omega,by omega,by omega,by omega,by omega⟩;rw[aF rfl Tryd.func83 rfl rfl];simp[PSt,ht,hv,v0,we,hkid,hW,hkk,wn,hq,he,hf,bG,Pn.aB K,Ex.aB e,hj',hj,hw4]
theorem MF {l:List UInt8} (hl:l.length≤2000) {ws:List Int} {k:Nat} {d j c2:Nat} {p u t v W kk p1 u1:Int} {j1:Nat} {K:Pn} (H:PlH l ws k d j c2 p u t v W kk p1 u1 j1 K) (hu:¬ 0<u1) (hq:kk=7):PlC l ws k d j c2 p u p1 j1:=by
 obtain⟨hd,h1,hp1,hu0,hu1,hW0,hW6,hKB,ht,hv,v0,hkid,hW,hkk⟩:=H;have we:IntKind.i64.wrap (d:Int)=d:=wrO;have hK:=hKB.1;have wn:¬ ((d:Int)+1=0):=by omega
 simp only[PSt]at hkid;rw[Pn.aB K]at hkid hW;obtain⟨e,p2,he,a1,a2,a3⟩:=aL l hl W (p1+1) (by omega) (by omega);have hf:=eO e K;rw[bG,Pn.aB K,Ex.aB e]at hf;rw[Ex.aB e]at he;refine⟨bK e K,p2,u1,j1,?_,Th.one (bM (by omega) hK) hKB,by omega,by omega,by omega,by omega,by omega⟩;rw[aF rfl Tryd.func83 rfl rfl];simp[PSt,ht,hv,v0,we,hkid,hW,hkk,wn,hq,he,hf,bG,Pn.aB K,Ex.aB e,hu]
theorem UY {l:List UInt8} (hl:l.length≤2000) {ws:List Int} {k:Nat} {d j c2:Nat} {p u t v W kk p1 u1:Int} {j1:Nat} {K:Pn} (H:PlH l ws k d j c2 p u t v W kk p1 u1 j1 K) (hu:0<u1) (hq:kk=7):PlC l ws k d j c2 p u p1 j1:=by
 obtain⟨hd,h1,hp1,hu0,hu1,hW0,hW6,hKB,ht,hv,v0,hkid,hW,hkk⟩:=H;have we:IntKind.i64.wrap (d:Int)=d:=wrO;have hK:=hKB.1;have wn:¬ ((d:Int)+1=0):=by omega
 simp only[PSt]at hkid;rw[Pn.aB K]at hkid hW;obtain⟨e,p2,he,a1,a2,a3⟩:=aL l hl W (p1+1) (by omega) (by omega);have hf:=eO e K;have hc:=EM K hK;have wu:IntKind.i64.wrap (u1-1)=u1-1:=wrO;rw[bG,Pn.aB K,Ex.aB e]at hf;rw[Pn.aB K]at hc;rw[Ex.aB e]at he;refine⟨.mk 6 0 [] [] [K,bK e K],p2,u1-1,j1,?_,Th.un (by have:=bM (e:=e) (by omega) hK;unfold bK at this;simp[Pn.thin,Pn.gL,hK]at this ⊢;exact this) hKB,by omega,by omega,by omega,by omega,by omega⟩;rw[aF rfl Tryd.func83 rfl rfl];simp[PSt,ht,hv,v0,we,hkid,hW,hkk,wn,hq,he,hf,bG,Pn.aB K,Ex.aB e,hu,hc,wu,Pn.bD,Ex.aA,aI,Pn.aA]
theorem PI {l:List UInt8} (hl:l.length≤2000) {ws:List Int} {k:Nat} {d j c2:Nat} {p u t v W kk p1 u1:Int} {j1:Nat} {K:Pn} (H:PlH l ws k d j c2 p u t v W kk p1 u1 j1 K) (hw1:¬ 1<W) (hq:kk=9):PlC l ws k d j c2 p u p1 j1:=by
 obtain⟨hd,h1,hp1,hu0,hu1,hW0,hW6,hKB,ht,hv,v0,hkid,hW,hkk⟩:=H;have we:IntKind.i64.wrap (d:Int)=d:=wrO;have hK:=hKB.1;have wn:¬ ((d:Int)+1=0):=by omega
 simp only[PSt]at hkid;rw[Pn.aB K]at hkid hW;refine⟨.mk 8 0 [] [] [K],p1+1,u1,j1,?_,Th.one (by simp[Pn.thin,Pn.gL,hK]) hKB,by omega,by omega,by omega,by omega,by omega⟩;rw[aF rfl Tryd.func83 rfl rfl];simp[PSt,ht,hv,v0,we,hkid,hW,hkk,wn,hq,hw1,Pn.bD,Ex.aA,aI,Pn.aA,Pn.aB K]
theorem PH {l:List UInt8} (hl:l.length≤2000) {ws:List Int} {k:Nat} {d j c2:Nat} {p u t v W kk p1 u1:Int} {j1:Nat} {K:Pn} (H:PlH l ws k d j c2 p u t v W kk p1 u1 j1 K) (hw1:1<W) (hq:kk=9):PlC l ws k d j c2 p u p1 j1:=by
 obtain⟨hd,h1,hp1,hu0,hu1,hW0,hW6,hKB,ht,hv,v0,hkid,hW,hkk⟩:=H;have we:IntKind.i64.wrap (d:Int)=d:=wrO;have hK:=hKB.1;have wn:¬ ((d:Int)+1=0):=by omega
 simp only[PSt]at hkid;rw[Pn.aB K]at hkid hW;obtain⟨g,hg,-,-⟩:=bF l (p1+1) W (by omega) (by omega) hl;refine⟨.mk 8 0 [] [g] [K],p1+1+1,u1,j1,?_,Th.one (by simp[Pn.thin,Pn.gL,hK]) hKB,by omega,by omega,by omega,by omega,by omega⟩;rw[aF rfl Tryd.func83 rfl rfl];simp[PSt,ht,hv,v0,we,hkid,hW,hkk,wn,hq,hg,hw1,Pn.bD,Ex.aA,aI,Pn.aA,Pn.aB K]
theorem V5 {l:List UInt8} (hl:l.length≤2000) {ws:List Int} (hw:∀ w∈ws,0≤w∧w≤6) (hwl:ws.length<1000000) {k:Nat} (hk0:0<k) (hkl:k≤ws.length) {d j c2:Nat} {p u t v W kk p1 u1:Int} {j1:Nat} {K:Pn} (H:PlH l ws k d j c2 p u t v W kk p1 u1 j1 K) (hj:j1≠0) (hjb:j1<1000) (hw4:W≤4) (hoth:∀ y:Nat,y≤1→lU l ws k y (j1-1) c2) (hq:kk=5):PlC l ws k d j c2 p u p1 j1:=by
 obtain⟨hd,h1,hp1,hu0,hu1,hW0,hW6,hKB,ht,hv,v0,hkid,hW,hkk⟩:=H;have we:IntKind.i64.wrap (d:Int)=d:=wrO;have hK:=hKB.1;have wn:¬ ((d:Int)+1=0):=by omega
 simp only[PSt]at hkid;rw[Pn.aB K]at hkid hW;have hj':0<j1:=by omega
 have wj:IntKind.i64.wrap ((j1:Int)-1)=((j1-1:Nat):Int):=by rw[wrO];omega
 obtain⟨x,hx,hx1,-⟩:=bF l (p1+1) 2 (by omega) (by omega) hl;obtain⟨x0,x1⟩:=hx1 (by omega)
 obtain⟨y,rfl⟩:∃ y:Nat,x=y:=⟨x.toNat,by omega⟩
 obtain⟨O,p2,u2,j2,hO,hOt,b1,b2,b3,b4,b5⟩:=hoth y (by omega) (p1+1+1) u1 (by omega) (by omega) hu0 hu1;have hV:=fU hw hwl hk0 hkl O hOt.1;have hVr:=Pn.kR (ws:=ws.take k) (fun w hm=>hw w (zK hm)) O 8;generalize O.wd (ws.take k) 8=V at hV hVr;have wv:IntKind.i64.wrap (W+V)=W+V:=wrO;simp only[PSt]at hO;rw[Pn.aB O]at hO hV;by_cases hs:W+V≤6
 ·have h1:=oU l p2 (by omega) (by omega) hl [[.int 4],[.int 5]] (by simp) (by simp) (by simp);obtain⟨z,hz,hzm⟩:=h1;obtain⟨e,p3,he,a1,a2,a3⟩:=aL l hl (W+V) (p2+1) (by omega) (by omega);rw[Ex.aB e]at he;simp only[zS,zI,zM,Nat.reduceAdd]at hz;have het:=Ex.bV e (by omega);refine⟨.mk z 0 [e] [] [K,O],p3,u2,j2,?_,Th.jn (by simp[Pn.thin,Pn.gL,hK,hOt.1,het]) hj hKB hOt,by omega,by omega,by omega,by omega,by omega⟩;rw[aF rfl Tryd.func83 rfl rfl];simp[PSt,ht,hv,v0,we,hkid,hW,hkk,wn,hq,hj',hj,hw4,wj,hx,hO,hV,wv,hs,hz,he,Pn.bD,Ex.aA,aI,Pn.aA,Pn.aB K,Pn.aB O,Ex.aB e]
 ·obtain⟨e,p3,he,a1,a2,a3⟩:=aL l hl W p2 (by omega) (by omega);have hf:=eO e K;rw[bG,Pn.aB K,Ex.aB e]at hf;rw[Ex.aB e]at he;refine⟨bK e K,p3,u2,j2,?_,Th.skip (bM (by omega) hK) hKB (by omega) hOt.2.1.2.1,by omega,by omega,by omega,by omega,by omega⟩;rw[aF rfl Tryd.func83 rfl rfl];simp[PSt,ht,hv,v0,we,hkid,hW,hkk,wn,hq,hj',hj,hw4,wj,hx,hO,hV,wv,hs,he,hf,bG,Pn.aB K,Ex.aB e]
theorem V4 {l:List UInt8} (hl:l.length≤2000) {ws:List Int} (hw:∀ w∈ws,0≤w∧w≤6) (hwl:ws.length<1000000) {k:Nat} (hk0:0<k) (hkl:k≤ws.length) {d j c2:Nat} {p u t v W kk p1 u1:Int} {j1:Nat} {K:Pn} (H:PlH l ws k d j c2 p u t v W kk p1 u1 j1 K) (hj:j1≠0) (hjb:j1<1000) (hw4:W≤4) (hoth:∀ y:Nat,y≤1→lU l ws k y (j1-1) c2) (hq:kk=6):PlC l ws k d j c2 p u p1 j1:=by
 obtain⟨hd,h1,hp1,hu0,hu1,hW0,hW6,hKB,ht,hv,v0,hkid,hW,hkk⟩:=H;have we:IntKind.i64.wrap (d:Int)=d:=wrO;have hK:=hKB.1;have wn:¬ ((d:Int)+1=0):=by omega
 simp only[PSt]at hkid;rw[Pn.aB K]at hkid hW;have hj':0<j1:=by omega
 have wj:IntKind.i64.wrap ((j1:Int)-1)=((j1-1:Nat):Int):=by rw[wrO];omega
 obtain⟨x,hx,hx1,-⟩:=bF l (p1+1) 2 (by omega) (by omega) hl;obtain⟨x0,x1⟩:=hx1 (by omega)
 obtain⟨y,rfl⟩:∃ y:Nat,x=y:=⟨x.toNat,by omega⟩
 obtain⟨O,p2,u2,j2,hO,hOt,b1,b2,b3,b4,b5⟩:=hoth y (by omega) (p1+1+1) u1 (by omega) (by omega) hu0 hu1;have hV:=fU hw hwl hk0 hkl O hOt.1;have hVr:=Pn.kR (ws:=ws.take k) (fun w hm=>hw w (zK hm)) O 8;generalize O.wd (ws.take k) 8=V at hV hVr;have wv:IntKind.i64.wrap (W+V)=W+V:=wrO;simp only[PSt]at hO;rw[Pn.aB O]at hO hV;by_cases hs:W+V≤6
 ·have h1:=oU l p2 (by omega) (by omega) hl [[.int 4],[.int 5]] (by simp) (by simp) (by simp);obtain⟨z,hz,hzm⟩:=h1;obtain⟨e,p3,he,a1,a2,a3⟩:=aL l hl (W+V) (p2+1) (by omega) (by omega);rw[Ex.aB e]at he;simp only[zS,zI,zM,Nat.reduceAdd]at hz;have het:=Ex.bV e (by omega);refine⟨.mk z 0 [e] [] [K,O],p3,u2,j2,?_,Th.jn (by simp[Pn.thin,Pn.gL,hK,hOt.1,het]) hj hKB hOt,by omega,by omega,by omega,by omega,by omega⟩;rw[aF rfl Tryd.func83 rfl rfl];simp[PSt,ht,hv,v0,we,hkid,hW,hkk,wn,hq,hj',hj,hw4,wj,hx,hO,hV,wv,hs,hz,he,Pn.bD,Ex.aA,aI,Pn.aA,Pn.aB K,Pn.aB O,Ex.aB e]
 ·obtain⟨e,p3,he,a1,a2,a3⟩:=aL l hl W p2 (by omega) (by omega);have hf:=eO e K;rw[bG,Pn.aB K,Ex.aB e]at hf;rw[Ex.aB e]at he;refine⟨bK e K,p3,u2,j2,?_,Th.skip (bM (by omega) hK) hKB (by omega) hOt.2.1.2.1,by omega,by omega,by omega,by omega,by omega⟩;rw[aF rfl Tryd.func83 rfl rfl];simp[PSt,ht,hv,v0,we,hkid,hW,hkk,wn,hq,hj',hj,hw4,wj,hx,hO,hV,wv,hs,he,hf,bG,Pn.aB K,Ex.aB e]
theorem V3 {l:List UInt8} (hl:l.length≤2000) {ws:List Int} {k:Nat} {d j c2:Nat} {p u t v W kk p1 u1:Int} {j1:Nat} {K:Pn} (H:PlH l ws k d j c2 p u t v W kk p1 u1 j1 K) (hq:kk=3):PlC l ws k d j c2 p u p1 j1:=by
 obtain⟨hd,h1,hp1,hu0,hu1,hW0,hW6,hKB,ht,hv,v0,hkid,hW,hkk⟩:=H;have we:IntKind.i64.wrap (d:Int)=d:=wrO;have hK:=hKB.1;have wn:¬ ((d:Int)+1=0):=by omega
 simp only[PSt]at hkid;rw[Pn.aB K]at hkid hW;obtain⟨m,hm,hm1,-⟩:=bF l (p1+1) 2 (by omega) (by omega) hl;obtain⟨m0,m1⟩:=hm1 (by omega);have w2:IntKind.i64.wrap (2:Int)=2:=wrO;have w1:=dC;have w0:IntKind.i64.wrap (0:Int)=0:=wrO;obtain⟨x1,hx1,hy1,-⟩:=bF l (p1+1+1) 2 (by omega) (by omega) hl;obtain⟨x1a,x1b⟩:=hy1 (by omega)
 obtain⟨y1,rfl⟩:∃ y:Nat,x1=y:=⟨x1.toNat,by omega⟩
 have hc1:iW y1≤9:=by rcases(show y1=0∨y1=1 by omega)with h|h<;>simp[h,iW]
 obtain⟨e1,q1,he1,c1a,c1b,c1c⟩:=rE l hl W y1 (by omega) (by omega) ((p1+1+1)+1) (by omega) (by omega);rw[Ex.aB e1]at he1;have t1:=Ex.bV e1 (by omega)
 rcases(show m=0∨m=1 by omega)with rfl|rfl
 ·refine⟨.mk 3 0 [e1] [] [K],q1,u1,j1,?_,Th.one (by simp[Pn.thin,Pn.gL,hK,t1]) hKB,by omega,by omega,by omega,by omega,by omega⟩;rw[aF rfl Tryd.func83 rfl rfl];simp[PSt,ht,hv,v0,we,hkid,hW,hkk,wn,hq,hm,w1];rw[aD];simp[hx1,he1,w0];rw[aD];simp[Pn.bD,Ex.aA,aI,Pn.aA,Pn.aB K,Ex.aB e1,PSt]
 ·obtain⟨x2,hx2,hy2,-⟩:=bF l q1 2 (by omega) (by omega) hl;obtain⟨x2a,x2b⟩:=hy2 (by omega)
  obtain⟨y2,rfl⟩:∃ y:Nat,x2=y:=⟨x2.toNat,by omega⟩
  have hc2:iW y2≤9:=by rcases(show y2=0∨y2=1 by omega)with h|h<;>simp[h,iW]
  obtain⟨e2,q2,he2,c2a,c2b,c2c⟩:=rE l hl W y2 (by omega) (by omega) (q1+1) (by omega) (by omega);rw[Ex.aB e2]at he2;have t2:=Ex.bV e2 (by omega);refine⟨.mk 3 0 [e1,e2] [] [K],q2,u1,j1,?_,Th.one (by simp[Pn.thin,Pn.gL,hK,t1,t2]) hKB,by omega,by omega,by omega,by omega,by omega⟩;rw[aF rfl Tryd.func83 rfl rfl];simp[PSt,ht,hv,v0,we,hkid,hW,hkk,wn,hq,hm,w2];rw[aD];simp[hx1,he1,w1];rw[aD];simp[hx2,he2,w0];rw[aD];simp[Pn.bD,Ex.aA,aI,Pn.aA,Pn.aB K,Ex.aB e1,Ex.aB e2,PSt]
theorem UZ {l:List UInt8} (hl:l.length≤2000) {ws:List Int} {k:Nat} {d j c2:Nat} {p u t v W kk p1 u1:Int} {j1:Nat} {K:Pn} (H:PlH l ws k d j c2 p u t v W kk p1 u1 j1 K) (hq:kk=4):PlC l ws k d j c2 p u p1 j1:=by
 obtain⟨hd,h1,hp1,hu0,hu1,hW0,hW6,hKB,ht,hv,v0,hkid,hW,hkk⟩:=H;have we:IntKind.i64.wrap (d:Int)=d:=wrO;have hK:=hKB.1;have wn:¬ ((d:Int)+1=0):=by omega
 simp only[PSt]at hkid;rw[Pn.aB K]at hkid hW;obtain⟨m,hm,hm1,-⟩:=bF l (p1+1) 2 (by omega) (by omega) hl;obtain⟨m0,m1⟩:=hm1 (by omega);have w2:IntKind.i64.wrap (2:Int)=2:=wrO;have w1:=dC;have w0:IntKind.i64.wrap (0:Int)=0:=wrO;obtain⟨x1,hx1,hy1,-⟩:=bF l (p1+1+1) 2 (by omega) (by omega) hl;obtain⟨x1a,x1b⟩:=hy1 (by omega)
 obtain⟨y1,rfl⟩:∃ y:Nat,x1=y:=⟨x1.toNat,by omega⟩
 have hc1:iW y1≤9:=by rcases(show y1=0∨y1=1 by omega)with h|h<;>simp[h,iW]
 obtain⟨e1,q1,he1,c1a,c1b,c1c⟩:=rE l hl W y1 (by omega) (by omega) ((p1+1+1)+1) (by omega) (by omega);rw[Ex.aB e1]at he1;have t1:=Ex.bV e1 (by omega)
 rcases(show m=0∨m=1 by omega)with rfl|rfl
 ·refine⟨.mk 3 0 [e1] [] [K],q1,u1,j1,?_,Th.one (by simp[Pn.thin,Pn.gL,hK,t1]) hKB,by omega,by omega,by omega,by omega,by omega⟩;rw[aF rfl Tryd.func83 rfl rfl];simp[PSt,ht,hv,v0,we,hkid,hW,hkk,wn,hq,hm,w1];rw[aD];simp[hx1,he1,w0];rw[aD];simp[Pn.bD,Ex.aA,aI,Pn.aA,Pn.aB K,Ex.aB e1,PSt]
 ·obtain⟨x2,hx2,hy2,-⟩:=bF l q1 2 (by omega) (by omega) hl;obtain⟨x2a,x2b⟩:=hy2 (by omega)
  obtain⟨y2,rfl⟩:∃ y:Nat,x2=y:=⟨x2.toNat,by omega⟩
  have hc2:iW y2≤9:=by rcases(show y2=0∨y2=1 by omega)with h|h<;>simp[h,iW]
  obtain⟨e2,q2,he2,c2a,c2b,c2c⟩:=rE l hl W y2 (by omega) (by omega) (q1+1) (by omega) (by omega);rw[Ex.aB e2]at he2;have t2:=Ex.bV e2 (by omega);refine⟨.mk 3 0 [e1,e2] [] [K],q2,u1,j1,?_,Th.one (by simp[Pn.thin,Pn.gL,hK,t1,t2]) hKB,by omega,by omega,by omega,by omega,by omega⟩;rw[aF rfl Tryd.func83 rfl rfl];simp[PSt,ht,hv,v0,we,hkid,hW,hkk,wn,hq,hm,w2];rw[aD];simp[hx1,he1,w1];rw[aD];simp[hx2,he2,w0];rw[aD];simp[Pn.bD,Ex.aA,aI,Pn.aA,Pn.aB K,Ex.aB e1,Ex.aB e2,PSt]
theorem Z4 {l:List UInt8} {ws:List Int} {k:Nat} {d j:Nat} {p u t:Int} (hd:d<100) (ht:aH C0 55 [.own 0 0, .int k] [Rd l p]=some (.int t,[Rd l (p+1)])) (hv:aH C0 55 [.own 0 0, .int 6] [Rd l (p+1)]=some (.int 0,[Rd l (p+1+1)])) :
 aH CP 83 [.own 0 0, .int ((d+1:Nat):Int)] (PSt l ws k j u p)=some (.i (.agg (Pn.scan t).cells),PSt l ws k j u (p+1+1)):=by
 have wn:¬ ((d:Int)+1=0):=by omega
 rw[aF rfl Tryd.func83 rfl rfl];simp[PSt,ht,hv,GY,wn]
theorem ME {l:List UInt8} (hl:l.length≤2000) {ws:List Int} (hw:∀ w∈ws,0≤w∧w≤6) (hwl:ws.length<1000000) {k:Nat} (hk0:0<k) (hkl:k≤ws.length) {d j c c2:Nat} (hd:d<100) (hjb:j<1000) (ih:lU l ws k d j c) (hoth:∀ i:Nat,i<j→∀ y:Nat,y≤1→lU l ws k y i c2):lU l ws k (d+1) j (c+c2+500):=by
 intro p u h0 h1 hu0 hu1;obtain⟨t,ht,-,-⟩:=bF l p k h0 (by omega) hl;obtain⟨v,hv,-,-⟩:=bF l (p+1) 6 (by omega) (by omega) hl;by_cases v0:v=0
 ·subst v0;exact⟨.scan t,p+1+1,u,j,Z4 hd ht hv,Th.scan (Pn.CE t) _ _,by omega,by omega,by omega,by omega,by omega⟩
 obtain⟨K,p1,u1,j1,hkid,hK,a1,a2,a3,a4,a5⟩:=ih (p+1+1) u (by omega) (by omega) hu0 hu1;have hW:=fU hw hwl hk0 hkl K hK.1;have hWr:=Pn.kR (ws:=ws.take k) (fun w hm=>hw w (zK hm)) K 8;generalize K.wd (ws.take k) 8=W at hW hWr;obtain⟨kk,hkk,hkk1,-⟩:=bF l p1 10 (by omega) (by omega) hl;obtain⟨kk0,kk9⟩:=hkk1 (by omega)
 suffices H:∃ (P:Pn) (p' u':Int) (j':Nat),aH CP 83 [.own 0 0, .int ((d+1:Nat):Int)] (PSt l ws k j u p)=some (.i (.agg P.cells),PSt l ws k j' u' p')∧Th P j j' u u'∧p1≤p'∧p'≤p1+400+c2∧j'≤j1∧0≤u'∧u'≤1 by
  obtain⟨P,p',u',j',b1,b2,b3,b4,b5,b6,b7⟩:=H;exact⟨P,p',u',j',b1,b2,by omega,by omega,by omega,b6,b7⟩
 have hb:p1+400+c2<300000000:=by omega
 have hp1:0≤p1:=by omega
 have H:PlH _ _ _ _ _ _ _ _ _ _ _ _ _ _ _ _:=⟨hd,hb,hp1,a4,a5,hWr.1,hWr.2,hK,ht,hv,v0,hkid,hW,hkk⟩
 by_cases q0:kk=0
 ·exact ML hl H q0
 by_cases q1:kk=1
 ·exact MK hl H q1
 by_cases q2:kk=2
 ·exact MJ hl H q2
 by_cases q3:kk=3
 ·exact V3 hl H q3
 by_cases q4:kk=4
 ·exact UZ hl H q4
 by_cases q5:kk=5
 ·by_cases hj:j1=0
  ·exact MI hl H hj q5
  by_cases hw4:W≤4
  ·exact V5 hl hw hwl hk0 hkl H hj (by omega) hw4 (fun y hy=>hoth (j1-1) (by omega) y hy) q5
  ·exact UW hl H hj hw4 q5
 by_cases q6:kk=6
 ·by_cases hj:j1=0
  ·exact MH hl H hj q6
  by_cases hw4:W≤4
  ·exact V4 hl hw hwl hk0 hkl H hj (by omega) hw4 (fun y hy=>hoth (j1-1) (by omega) y hy) q6
  ·exact UV hl H hj hw4 q6
 by_cases q7:kk=7
 ·by_cases hu:0<u1
  ·exact UY hl H hu q7
  ·exact MF hl H hu q7
 by_cases q8:kk=8
 ·exact JJ hl H q8
 have q9:kk=9:=by omega
 by_cases hw1:1<W
 ·exact PH hl H hw1 q9
 ·exact PI hl H hw1 q9
theorem lU.le {l:List UInt8} {ws:List Int} {k:Nat} {d j c c':Nat} (h:lU l ws k d j c) (hc:c≤c'):lU l ws k d j c':=by
 intro p u h0 h1 hu0 hu1;obtain⟨P,p',u',j',b1,b2,b3,b4,b5,b6,b7⟩:=h p u h0 (by omega) hu0 hu1;exact⟨P,p',u',j',b1,b2,b3,by omega,b5,b6,b7⟩
theorem CY {l:List UInt8} (hl:l.length≤2000) {ws:List Int} (hw:∀ w∈ws,0≤w∧w≤6) (hwl:ws.length<1000000) {k:Nat} (hk0:0<k) (hkl:k≤ws.length):∀ d:Nat,d<50→lU l ws k d 0 (500*d+1)
 | 0,_=>(MC hl 0).le (by omega)
 | d+1,h=>(ME hl hw hwl hk0 hkl (c2:=0) (by omega) (by omega) (CY hl hw hwl hk0 hkl d (by omega)) (fun i hi=>by omega)).le (by omega)
theorem RB {l:List UInt8} (hl:l.length≤2000) {ws:List Int} (hw:∀ w∈ws,0≤w∧w≤6) (hwl:ws.length<1000000) {k:Nat} (hk0:0<k) (hkl:k≤ws.length):∀ d:Nat,d<50→lU l ws k d 1 (2000*d+1)
 | 0,_=>(MC hl 1).le (by omega)
 | d + 1,h=>(ME hl hw hwl hk0 hkl (c2:=501) (by omega) (by omega) (RB hl hw hwl hk0 hkl d (by omega)) (fun i hi y hy=>by
     obtain rfl:i=0:=by omega
     exact(CY hl hw hwl hk0 hkl y (by omega)).le (by omega))).le (by omega)
theorem ZZ {e:Ex} {p:Pn} (he:e.size≤120) (hp:p.thin):(bK e p).thin:=bM (by omega) hp
def bl (n:Nat):Nat:=if n=0 then 0 else 1
def rX (b:Nat) (P:Pn):AV:=.agg [.int P.kind, .int P.table,gro b 5 P.exprs.length,gro (b+bl P.exprs.length) 1 P.cols.length,gro (b+bl P.exprs.length+bl P.cols.length) 5 P.kids.length]
def rS (P:Pn):StL:=VK 5 (Ex.aA P.exprs) P.exprs.length++(VK 1 (aI P.cols) P.cols.length++VK 5 (Pn.aA P.kids) P.kids.length)
@[simp] theorem APM (a:List AV) (st:StL):aH CQ 83 a st=aH CP 83 a st:=by rw[aP (p:=aH CP 83) rfl]
@[simp] theorem AI0 (a:List AV) (st:StL):aH CQ 84 a st=lT C0 true 84 a st:=by rw[aP (p:=lT C0 true 84) rfl]
@[simp] theorem AFC (a:List AV) (st:StL):aH CQ 39 a st=aH CP 39 a st:=by rw[aP (p:=MV (aH C0) 39) rfl,aP (p:=MV (aH C0) 39) rfl]
@[simp] theorem AI1 (a:List AV) (st:StL):aH CQ 43 a st=aH CP 43 a st:=by rw[aP (p:=AF9 (aH C0) 43) rfl,aP (p:=AF9 (aH C0) 43) rfl]
@[simp] theorem APN (a:List AV) (st:StL):aH CQ 55 a st=aH C0 55 a st:=by rw[aP (p:=aH C0 55) rfl]
@[simp] theorem ARF (a:List AV) (st:StL):aH CQ 56 a st=aH C0 56 a st:=by rw[aP (p:=aH C0 56) rfl]
@[simp] theorem APP (a:List AV) (st:StL):aH CQ 85 a st=aH C0 85 a st:=by rw[aP (p:=aH C0 85) rfl]
@[simp] theorem APO (a:List AV) (st:StL):aH CQ 86 a st=aH C0 86 a st:=by rw[aP (p:=aH C0 86) rfl]
theorem dL (e:Ex) (p:Pn):lT C0 true 84 [.i (.agg e.cells), .i (.agg p.cells)] []=some (.agg [.int 2, .int 0, .osl 0 5 0 1, .nils, .osl 1 5 0 1],[some (.arr 5 [e.cells]),some (.arr 5 [p.cells])]):=by
 rw[dD Tryd.func84 rfl rfl,Ex.aB,Pn.aB];simp
def OE (l:List UInt8) (ws:List Int) (k d j c:Nat):Prop:=∀ p u:Int,0≤p→p+c<300000000→0≤u→u≤1→∃ (P:Pn) (p' u':Int) (j':Nat),
    lT CQ true 83 [.own 0 0, .int d] (PSt l ws k j u p)=some (rX 3 P,PSt l ws k j' u' p'++rS P)∧Th P j j' u u'∧p≤p'∧p'≤p+c∧j'≤j∧0≤u'∧u'≤1∧P.exprs.length≤2∧P.cols.length≤1
theorem YL {l:List UInt8} {ws:List Int} {k:Nat} {d j:Nat} {p u t:Int} (hd:d<100) (ht:aH C0 55 [.own 0 0, .int k] [Rd l p]=some (.int t,[Rd l (p+1)])) (hv:aH C0 55 [.own 0 0, .int 6] [Rd l (p+1)]=some (.int 0,[Rd l (p+1+1)])) :
 lT CQ true 83 [.own 0 0, .int ((d+1:Nat):Int)] (PSt l ws k j u p)=some (rX 3 (Pn.scan t),PSt l ws k j u (p+1+1)++rS (Pn.scan t)):=by
 have wn:¬ ((d:Int)+1=0):=by omega
 rw[dD Tryd.func83 rfl rfl];simp[PSt,ht,hv,wn,rX,rS,bl,Pn.scan]
abbrev RtC (l:List UInt8) (ws:List Int) (k d j c2:Nat) (p u p1:Int) (j1:Nat):Prop:=∃ (P:Pn) (p' u':Int) (j':Nat),lT CQ true 83 [.own 0 0, .int ((d+1:Nat):Int)] (PSt l ws k j u p)=some (rX 3 P,PSt l ws k j' u' p'++rS P)∧Th P j j' u u'∧p1≤p'∧p'≤p1+400+c2∧j'≤j1∧0≤u'∧u'≤1∧P.exprs.length≤2∧P.cols.length≤1
theorem M3 {l:List UInt8} (hl:l.length≤2000) {ws:List Int} {k:Nat} {d j c2:Nat} {p u t v W kk p1 u1:Int} {j1:Nat} {K:Pn} (H:PlH l ws k d j c2 p u t v W kk p1 u1 j1 K) (hq:kk=0):RtC l ws k d j c2 p u p1 j1:=by
 obtain⟨hd,h1,hp1,hu0,hu1,hW0,hW6,hKB,ht,hv,v0,hkid,hW,hkk⟩:=H;have we:IntKind.i64.wrap (d:Int)=d:=wrO;have hK:=hKB.1;have wn:¬ ((d:Int)+1=0):=by omega
 simp only[PSt]at hkid;rw[Pn.aB K]at hkid hW;obtain⟨e,p2,he,a1,a2,a3⟩:=aL l hl W (p1+1) (by omega) (by omega);have hf:=dL e K;rw[Pn.aB K,Ex.aB e]at hf;rw[Ex.aB e]at he;refine⟨bK e K,p2,u1,j1,?_,Th.one (bM (by omega) hK) hKB,by omega,by omega,by omega,by omega,by omega,by simp[bK,Pn.scan],by simp[bK,Pn.scan]⟩;rw[dD Tryd.func83 rfl rfl];simp[PSt,ht,hv,v0,we,hkid,hW,hkk,wn,hq,rX,rS,bl,he,hf,bK,Ex.aA,aI,Pn.aA,Pn.aB K,Ex.aB e]
theorem M0 {l:List UInt8} (hl:l.length≤2000) {ws:List Int} {k:Nat} {d j c2:Nat} {p u t v W kk p1 u1:Int} {j1:Nat} {K:Pn} (H:PlH l ws k d j c2 p u t v W kk p1 u1 j1 K) (hq:kk=1):RtC l ws k d j c2 p u p1 j1:=by
 obtain⟨hd,h1,hp1,hu0,hu1,hW0,hW6,hKB,ht,hv,v0,hkid,hW,hkk⟩:=H;have we:IntKind.i64.wrap (d:Int)=d:=wrO;have hK:=hKB.1;have wn:¬ ((d:Int)+1=0):=by omega
 simp only[PSt]at hkid;rw[Pn.aB K]at hkid hW;obtain⟨e,p2,he,a1,a2,a3⟩:=aL l hl W (p1+1) (by omega) (by omega);have hf:=dL e K;rw[Pn.aB K,Ex.aB e]at hf;rw[Ex.aB e]at he;refine⟨bK e K,p2,u1,j1,?_,Th.one (bM (by omega) hK) hKB,by omega,by omega,by omega,by omega,by omega,by simp[bK,Pn.scan],by simp[bK,Pn.scan]⟩;rw[dD Tryd.func83 rfl rfl];simp[PSt,ht,hv,v0,we,hkid,hW,hkk,wn,hq,rX,rS,bl,he,hf,bK,Ex.aA,aI,Pn.aA,Pn.aB K,Ex.aB e]
theorem LZ {l:List UInt8} (hl:l.length≤2000) {ws:List Int} {k:Nat} {d j c2:Nat} {p u t v W kk p1 u1:Int} {j1:Nat} {K:Pn} (H:PlH l ws k d j c2 p u t v W kk p1 u1 j1 K) (hq:kk=2):RtC l ws k d j c2 p u p1 j1:=by
 obtain⟨hd,h1,hp1,hu0,hu1,hW0,hW6,hKB,ht,hv,v0,hkid,hW,hkk⟩:=H;have we:IntKind.i64.wrap (d:Int)=d:=wrO;have hK:=hKB.1;have wn:¬ ((d:Int)+1=0):=by omega
 simp only[PSt]at hkid;rw[Pn.aB K]at hkid hW;obtain⟨e,p2,he,a1,a2,a3⟩:=aL l hl W (p1+1) (by omega) (by omega);have hf:=dL e K;rw[Pn.aB K,Ex.aB e]at hf;rw[Ex.aB e]at he;refine⟨bK e K,p2,u1,j1,?_,Th.one (bM (by omega) hK) hKB,by omega,by omega,by omega,by omega,by omega,by simp[bK,Pn.scan],by simp[bK,Pn.scan]⟩;rw[dD Tryd.func83 rfl rfl];simp[PSt,ht,hv,v0,we,hkid,hW,hkk,wn,hq,rX,rS,bl,he,hf,bK,Ex.aA,aI,Pn.aA,Pn.aB K,Ex.aB e]
theorem JD {l:List UInt8} (hl:l.length≤2000) {ws:List Int} {k:Nat} {d j c2:Nat} {p u t v W kk p1 u1:Int} {j1:Nat} {K:Pn} (H:PlH l ws k d j c2 p u t v W kk p1 u1 j1 K) (hq:kk=8):RtC l ws k d j c2 p u p1 j1:=by
 obtain⟨hd,h1,hp1,hu0,hu1,hW0,hW6,hKB,ht,hv,v0,hkid,hW,hkk⟩:=H;have we:IntKind.i64.wrap (d:Int)=d:=wrO;have hK:=hKB.1;have wn:¬ ((d:Int)+1=0):=by omega
 simp only[PSt]at hkid;rw[Pn.aB K]at hkid hW;refine⟨.mk 7 0 [] [] [K],p1+1,u1,j1,?_,Th.one (by simp[Pn.thin,Pn.gL,hK]) hKB,by omega,by omega,by omega,by omega,by omega,by simp[bK,Pn.scan],by simp[bK,Pn.scan]⟩;rw[dD Tryd.func83 rfl rfl];simp[PSt,ht,hv,v0,we,hkid,hW,hkk,wn,hq,rX,rS,bl,Pn.cells,Ex.aA,aI,Pn.aA,Pn.aB K]
theorem LY {l:List UInt8} (hl:l.length≤2000) {ws:List Int} {k:Nat} {d j c2:Nat} {p u t v W kk p1 u1:Int} {j1:Nat} {K:Pn} (H:PlH l ws k d j c2 p u t v W kk p1 u1 j1 K) (hj:j1=0) (hq:kk=5):RtC l ws k d j c2 p u p1 j1:=by
 obtain⟨hd,h1,hp1,hu0,hu1,hW0,hW6,hKB,ht,hv,v0,hkid,hW,hkk⟩:=H;have we:IntKind.i64.wrap (d:Int)=d:=wrO;have hK:=hKB.1;have wn:¬ ((d:Int)+1=0):=by omega
 simp only[PSt]at hkid;rw[Pn.aB K]at hkid hW;obtain⟨e,p2,he,a1,a2,a3⟩:=aL l hl W (p1+1) (by omega) (by omega);have hf:=dL e K;rw[Pn.aB K,Ex.aB e]at hf;rw[Ex.aB e]at he;refine⟨bK e K,p2,u1,j1,?_,Th.one (bM (by omega) hK) hKB,by omega,by omega,by omega,by omega,by omega,by simp[bK,Pn.scan],by simp[bK,Pn.scan]⟩;rw[dD Tryd.func83 rfl rfl];simp[PSt,ht,hv,v0,we,hkid,hW,hkk,wn,hq,rX,rS,bl,he,hf,bK,Ex.aA,aI,Pn.aA,Pn.aB K,Ex.aB e,hj]
theorem UJ {l:List UInt8} (hl:l.length≤2000) {ws:List Int} {k:Nat} {d j c2:Nat} {p u t v W kk p1 u1:Int} {j1:Nat} {K:Pn} (H:PlH l ws k d j c2 p u t v W kk p1 u1 j1 K) (hj:j1≠0) (hw4:¬ W≤4) (hq:kk=5):RtC l ws k d j c2 p u p1 j1:=by
 obtain⟨hd,h1,hp1,hu0,hu1,hW0,hW6,hKB,ht,hv,v0,hkid,hW,hkk⟩:=H;have we:IntKind.i64.wrap (d:Int)=d:=wrO;have hK:=hKB.1;have wn:¬ ((d:Int)+1=0):=by omega
 simp only[PSt]at hkid;rw[Pn.aB K]at hkid hW;have hj':0<j1:=by omega
 obtain⟨e,p2,he,a1,a2,a3⟩:=aL l hl W (p1+1) (by omega) (by omega);have hf:=dL e K;rw[Pn.aB K,Ex.aB e]at hf;rw[Ex.aB e]at he;refine⟨bK e K,p2,u1,j1,?_,Th.one (bM (by omega) hK) hKB,by omega,by omega,by omega,by omega,by omega,by simp[bK,Pn.scan],by simp[bK,Pn.scan]⟩;rw[dD Tryd.func83 rfl rfl];simp[PSt,ht,hv,v0,we,hkid,hW,hkk,wn,hq,rX,rS,bl,he,hf,bK,Ex.aA,aI,Pn.aA,Pn.aB K,Ex.aB e,hj',hj,hw4]
theorem LX {l:List UInt8} (hl:l.length≤2000) {ws:List Int} {k:Nat} {d j c2:Nat} {p u t v W kk p1 u1:Int} {j1:Nat} {K:Pn} (H:PlH l ws k d j c2 p u t v W kk p1 u1 j1 K) (hj:j1=0) (hq:kk=6):RtC l ws k d j c2 p u p1 j1:=by
 obtain⟨hd,h1,hp1,hu0,hu1,hW0,hW6,hKB,ht,hv,v0,hkid,hW,hkk⟩:=H;have we:IntKind.i64.wrap (d:Int)=d:=wrO;have hK:=hKB.1;have wn:¬ ((d:Int)+1=0):=by omega
 simp only[PSt]at hkid;rw[Pn.aB K]at hkid hW;obtain⟨e,p2,he,a1,a2,a3⟩:=aL l hl W (p1+1) (by omega) (by omega);have hf:=dL e K;rw[Pn.aB K,Ex.aB e]at hf;rw[Ex.aB e]at he;refine⟨bK e K,p2,u1,j1,?_,Th.one (bM (by omega) hK) hKB,by omega,by omega,by omega,by omega,by omega,by simp[bK,Pn.scan],by simp[bK,Pn.scan]⟩;rw[dD Tryd.func83 rfl rfl];simp[PSt,ht,hv,v0,we,hkid,hW,hkk,wn,hq,rX,rS,bl,he,hf,bK,Ex.aA,aI,Pn.aA,Pn.aB K,Ex.aB e,hj]
theorem UI {l:List UInt8} (hl:l.length≤2000) {ws:List Int} {k:Nat} {d j c2:Nat} {p u t v W kk p1 u1:Int} {j1:Nat} {K:Pn} (H:PlH l ws k d j c2 p u t v W kk p1 u1 j1 K) (hj:j1≠0) (hw4:¬ W≤4) (hq:kk=6):RtC l ws k d j c2 p u p1 j1:=by
 obtain⟨hd,h1,hp1,hu0,hu1,hW0,hW6,hKB,ht,hv,v0,hkid,hW,hkk⟩:=H;have we:IntKind.i64.wrap (d:Int)=d:=wrO;have hK:=hKB.1;have wn:¬ ((d:Int)+1=0):=by omega
 simp only[PSt]at hkid;rw[Pn.aB K]at hkid hW;have hj':0<j1:=by omega
 obtain⟨e,p2,he,a1,a2,a3⟩:=aL l hl W (p1+1) (by omega) (by omega);have hf:=dL e K;rw[Pn.aB K,Ex.aB e]at hf;rw[Ex.aB e]at he;refine⟨bK e K,p2,u1,j1,?_,Th.one (bM (by omega) hK) hKB,by omega,by omega,by omega,by omega,by omega,by simp[bK,Pn.scan],by simp[bK,Pn.scan]⟩;rw[dD Tryd.func83 rfl rfl];simp[PSt,ht,hv,v0,we,hkid,hW,hkk,wn,hq,rX,rS,bl,he,hf,bK,Ex.aA,aI,Pn.aA,Pn.aB K,Ex.aB e,hj',hj,hw4]
theorem LW {l:List UInt8} (hl:l.length≤2000) {ws:List Int} {k:Nat} {d j c2:Nat} {p u t v W kk p1 u1:Int} {j1:Nat} {K:Pn} (H:PlH l ws k d j c2 p u t v W kk p1 u1 j1 K) (hu:¬ 0<u1) (hq:kk=7):RtC l ws k d j c2 p u p1 j1:=by
 obtain⟨hd,h1,hp1,hu0,hu1,hW0,hW6,hKB,ht,hv,v0,hkid,hW,hkk⟩:=H;have we:IntKind.i64.wrap (d:Int)=d:=wrO;have hK:=hKB.1;have wn:¬ ((d:Int)+1=0):=by omega
 simp only[PSt]at hkid;rw[Pn.aB K]at hkid hW;obtain⟨e,p2,he,a1,a2,a3⟩:=aL l hl W (p1+1) (by omega) (by omega);have hf:=dL e K;rw[Pn.aB K,Ex.aB e]at hf;rw[Ex.aB e]at he;refine⟨bK e K,p2,u1,j1,?_,Th.one (bM (by omega) hK) hKB,by omega,by omega,by omega,by omega,by omega,by simp[bK,Pn.scan],by simp[bK,Pn.scan]⟩;rw[dD Tryd.func83 rfl rfl];simp[PSt,ht,hv,v0,we,hkid,hW,hkk,wn,hq,rX,rS,bl,he,hf,bK,Ex.aA,aI,Pn.aA,Pn.aB K,Ex.aB e,hu]
theorem UK {l:List UInt8} (hl:l.length≤2000) {ws:List Int} {k:Nat} {d j c2:Nat} {p u t v W kk p1 u1:Int} {j1:Nat} {K:Pn} (H:PlH l ws k d j c2 p u t v W kk p1 u1 j1 K) (hu:0<u1) (hq:kk=7):RtC l ws k d j c2 p u p1 j1:=by
 obtain⟨hd,h1,hp1,hu0,hu1,hW0,hW6,hKB,ht,hv,v0,hkid,hW,hkk⟩:=H;have we:IntKind.i64.wrap (d:Int)=d:=wrO;have hK:=hKB.1;have wn:¬ ((d:Int)+1=0):=by omega
 simp only[PSt]at hkid;rw[Pn.aB K]at hkid hW;obtain⟨e,p2,he,a1,a2,a3⟩:=aL l hl W (p1+1) (by omega) (by omega);have hf:=dL e K;have hc:=EM K hK;have wu:IntKind.i64.wrap (u1-1)=u1-1:=wrO;rw[Pn.aB K,Ex.aB e]at hf;rw[Pn.aB K]at hc;rw[Ex.aB e]at he;refine⟨.mk 6 0 [] [] [K,bK e K],p2,u1-1,j1,?_,Th.un (by have:=bM (e:=e) (by omega) hK;unfold bK at this;simp[Pn.thin,Pn.gL,hK]at this ⊢;exact this) hKB,by omega,by omega,by omega,by omega,by omega,by simp[bK,Pn.scan],by simp[bK,Pn.scan]⟩;rw[dD Tryd.func83 rfl rfl];simp[PSt,ht,hv,v0,we,hkid,hW,hkk,wn,hq,rX,rS,bl,he,hf,bK,Ex.aA,aI,Pn.aA,Pn.aB K,Ex.aB e,hu,hc,wu,Pn.bD,Ex.aA,aI,Pn.aA]
theorem P9 {l:List UInt8} (hl:l.length≤2000) {ws:List Int} {k:Nat} {d j c2:Nat} {p u t v W kk p1 u1:Int} {j1:Nat} {K:Pn} (H:PlH l ws k d j c2 p u t v W kk p1 u1 j1 K) (hw1:¬ 1<W) (hq:kk=9):RtC l ws k d j c2 p u p1 j1:=by
 obtain⟨hd,h1,hp1,hu0,hu1,hW0,hW6,hKB,ht,hv,v0,hkid,hW,hkk⟩:=H;have we:IntKind.i64.wrap (d:Int)=d:=wrO;have hK:=hKB.1;have wn:¬ ((d:Int)+1=0):=by omega
 simp only[PSt]at hkid;rw[Pn.aB K]at hkid hW;refine⟨.mk 8 0 [] [] [K],p1+1,u1,j1,?_,Th.one (by simp[Pn.thin,Pn.gL,hK]) hKB,by omega,by omega,by omega,by omega,by omega,by simp[bK,Pn.scan],by simp[bK,Pn.scan]⟩;rw[dD Tryd.func83 rfl rfl];simp[PSt,ht,hv,v0,we,hkid,hW,hkk,wn,hq,rX,rS,bl,hw1,Pn.bD,Ex.aA,aI,Pn.aA,Pn.aB K]
theorem P8 {l:List UInt8} (hl:l.length≤2000) {ws:List Int} {k:Nat} {d j c2:Nat} {p u t v W kk p1 u1:Int} {j1:Nat} {K:Pn} (H:PlH l ws k d j c2 p u t v W kk p1 u1 j1 K) (hw1:1<W) (hq:kk=9):RtC l ws k d j c2 p u p1 j1:=by
 obtain⟨hd,h1,hp1,hu0,hu1,hW0,hW6,hKB,ht,hv,v0,hkid,hW,hkk⟩:=H;have we:IntKind.i64.wrap (d:Int)=d:=wrO;have hK:=hKB.1;have wn:¬ ((d:Int)+1=0):=by omega
 simp only[PSt]at hkid;rw[Pn.aB K]at hkid hW;obtain⟨g,hg,-,-⟩:=bF l (p1+1) W (by omega) (by omega) hl;refine⟨.mk 8 0 [] [g] [K],p1+1+1,u1,j1,?_,Th.one (by simp[Pn.thin,Pn.gL,hK]) hKB,by omega,by omega,by omega,by omega,by omega,by simp[bK,Pn.scan],by simp[bK,Pn.scan]⟩;rw[dD Tryd.func83 rfl rfl];simp[PSt,ht,hv,v0,we,hkid,hW,hkk,wn,hq,rX,rS,bl,hg,hw1,Pn.bD,Ex.aA,aI,Pn.aA,Pn.aB K]
theorem UO {l:List UInt8} (hl:l.length≤2000) {ws:List Int} (hw:∀ w∈ws,0≤w∧w≤6) (hwl:ws.length<1000000) {k:Nat} (hk0:0<k) (hkl:k≤ws.length) {d j c2:Nat} {p u t v W kk p1 u1:Int} {j1:Nat} {K:Pn} (H:PlH l ws k d j c2 p u t v W kk p1 u1 j1 K) (hj:j1≠0) (hjb:j1<1000) (hw4:W≤4) (hoth:∀ y:Nat,y≤1→lU l ws k y (j1-1) c2) (hq:kk=5):RtC l ws k d j c2 p u p1 j1:=by
 obtain⟨hd,h1,hp1,hu0,hu1,hW0,hW6,hKB,ht,hv,v0,hkid,hW,hkk⟩:=H;have we:IntKind.i64.wrap (d:Int)=d:=wrO;have hK:=hKB.1;have wn:¬ ((d:Int)+1=0):=by omega
 simp only[PSt]at hkid;rw[Pn.aB K]at hkid hW;have hj':0<j1:=by omega
 have wj:IntKind.i64.wrap ((j1:Int)-1)=((j1-1:Nat):Int):=by rw[wrO];omega
 obtain⟨x,hx,hx1,-⟩:=bF l (p1+1) 2 (by omega) (by omega) hl;obtain⟨x0,x1⟩:=hx1 (by omega)
 obtain⟨y,rfl⟩:∃ y:Nat,x=y:=⟨x.toNat,by omega⟩
 obtain⟨O,p2,u2,j2,hO,hOt,b1,b2,b3,b4,b5⟩:=hoth y (by omega) (p1+1+1) u1 (by omega) (by omega) hu0 hu1;have hV:=fU hw hwl hk0 hkl O hOt.1;have hVr:=Pn.kR (ws:=ws.take k) (fun w hm=>hw w (zK hm)) O 8;generalize O.wd (ws.take k) 8=V at hV hVr;have wv:IntKind.i64.wrap (W+V)=W+V:=wrO;simp only[PSt]at hO;rw[Pn.aB O]at hO hV;by_cases hs:W+V≤6
 ·have h1:=oU l p2 (by omega) (by omega) hl [[.int 4],[.int 5]] (by simp) (by simp) (by simp);obtain⟨z,hz,hzm⟩:=h1;obtain⟨e,p3,he,a1,a2,a3⟩:=aL l hl (W+V) (p2+1) (by omega) (by omega);rw[Ex.aB e]at he;simp only[zS,zI,zM,Nat.reduceAdd]at hz;have het:=Ex.bV e (by omega);refine⟨.mk z 0 [e] [] [K,O],p3,u2,j2,?_,Th.jn (by simp[Pn.thin,Pn.gL,hK,hOt.1,het]) hj hKB hOt,by omega,by omega,by omega,by omega,by omega,by simp[bK,Pn.scan],by simp[bK,Pn.scan]⟩;rw[dD Tryd.func83 rfl rfl];simp[PSt,ht,hv,v0,we,hkid,hW,hkk,wn,hq,hj',hj,hw4,wj,hx,hO,hV,wv,hs,hz,he,rX,rS,bl,Pn.bD,Ex.aA,aI,Pn.aA,Pn.aB K,Pn.aB O,Ex.aB e]
 ·obtain⟨e,p3,he,a1,a2,a3⟩:=aL l hl W p2 (by omega) (by omega);have hf:=dL e K;rw[Pn.aB K,Ex.aB e]at hf;rw[Ex.aB e]at he;refine⟨bK e K,p3,u2,j2,?_,Th.skip (bM (by omega) hK) hKB (by omega) hOt.2.1.2.1,by omega,by omega,by omega,by omega,by omega,by simp[bK,Pn.scan],by simp[bK,Pn.scan]⟩;rw[dD Tryd.func83 rfl rfl];simp[PSt,ht,hv,v0,we,hkid,hW,hkk,wn,hq,hj',hj,hw4,wj,hx,hO,hV,wv,hs,rX,rS,bl,he,hf,bK,Ex.aA,aI,Pn.aA,Pn.aB K,Ex.aB e]
theorem UN {l:List UInt8} (hl:l.length≤2000) {ws:List Int} (hw:∀ w∈ws,0≤w∧w≤6) (hwl:ws.length<1000000) {k:Nat} (hk0:0<k) (hkl:k≤ws.length) {d j c2:Nat} {p u t v W kk p1 u1:Int} {j1:Nat} {K:Pn} (H:PlH l ws k d j c2 p u t v W kk p1 u1 j1 K) (hj:j1≠0) (hjb:j1<1000) (hw4:W≤4) (hoth:∀ y:Nat,y≤1→lU l ws k y (j1-1) c2) (hq:kk=6):RtC l ws k d j c2 p u p1 j1:=by
 obtain⟨hd,h1,hp1,hu0,hu1,hW0,hW6,hKB,ht,hv,v0,hkid,hW,hkk⟩:=H;have we:IntKind.i64.wrap (d:Int)=d:=wrO;have hK:=hKB.1;have wn:¬ ((d:Int)+1=0):=by omega
 simp only[PSt]at hkid;rw[Pn.aB K]at hkid hW;have hj':0<j1:=by omega
 have wj:IntKind.i64.wrap ((j1:Int)-1)=((j1-1:Nat):Int):=by rw[wrO];omega
 obtain⟨x,hx,hx1,-⟩:=bF l (p1+1) 2 (by omega) (by omega) hl;obtain⟨x0,x1⟩:=hx1 (by omega)
 obtain⟨y,rfl⟩:∃ y:Nat,x=y:=⟨x.toNat,by omega⟩
 obtain⟨O,p2,u2,j2,hO,hOt,b1,b2,b3,b4,b5⟩:=hoth y (by omega) (p1+1+1) u1 (by omega) (by omega) hu0 hu1;have hV:=fU hw hwl hk0 hkl O hOt.1;have hVr:=Pn.kR (ws:=ws.take k) (fun w hm=>hw w (zK hm)) O 8;generalize O.wd (ws.take k) 8=V at hV hVr;have wv:IntKind.i64.wrap (W+V)=W+V:=wrO;simp only[PSt]at hO;rw[Pn.aB O]at hO hV;by_cases hs:W+V≤6
 ·have h1:=oU l p2 (by omega) (by omega) hl [[.int 4],[.int 5]] (by simp) (by simp) (by simp);obtain⟨z,hz,hzm⟩:=h1;obtain⟨e,p3,he,a1,a2,a3⟩:=aL l hl (W+V) (p2+1) (by omega) (by omega);rw[Ex.aB e]at he;simp only[zS,zI,zM,Nat.reduceAdd]at hz;have het:=Ex.bV e (by omega);refine⟨.mk z 0 [e] [] [K,O],p3,u2,j2,?_,Th.jn (by simp[Pn.thin,Pn.gL,hK,hOt.1,het]) hj hKB hOt,by omega,by omega,by omega,by omega,by omega,by simp[bK,Pn.scan],by simp[bK,Pn.scan]⟩;rw[dD Tryd.func83 rfl rfl];simp[PSt,ht,hv,v0,we,hkid,hW,hkk,wn,hq,hj',hj,hw4,wj,hx,hO,hV,wv,hs,hz,he,rX,rS,bl,Pn.bD,Ex.aA,aI,Pn.aA,Pn.aB K,Pn.aB O,Ex.aB e]
 ·obtain⟨e,p3,he,a1,a2,a3⟩:=aL l hl W p2 (by omega) (by omega);have hf:=dL e K;rw[Pn.aB K,Ex.aB e]at hf;rw[Ex.aB e]at he;refine⟨bK e K,p3,u2,j2,?_,Th.skip (bM (by omega) hK) hKB (by omega) hOt.2.1.2.1,by omega,by omega,by omega,by omega,by omega,by simp[bK,Pn.scan],by simp[bK,Pn.scan]⟩;rw[dD Tryd.func83 rfl rfl];simp[PSt,ht,hv,v0,we,hkid,hW,hkk,wn,hq,hj',hj,hw4,wj,hx,hO,hV,wv,hs,rX,rS,bl,he,hf,bK,Ex.aA,aI,Pn.aA,Pn.aB K,Ex.aB e]
theorem UM {l:List UInt8} (hl:l.length≤2000) {ws:List Int} {k:Nat} {d j c2:Nat} {p u t v W kk p1 u1:Int} {j1:Nat} {K:Pn} (H:PlH l ws k d j c2 p u t v W kk p1 u1 j1 K) (hq:kk=3):RtC l ws k d j c2 p u p1 j1:=by
 obtain⟨hd,h1,hp1,hu0,hu1,hW0,hW6,hKB,ht,hv,v0,hkid,hW,hkk⟩:=H;have we:IntKind.i64.wrap (d:Int)=d:=wrO;have hK:=hKB.1;have wn:¬ ((d:Int)+1=0):=by omega
 simp only[PSt]at hkid;rw[Pn.aB K]at hkid hW;obtain⟨m,hm,hm1,-⟩:=bF l (p1+1) 2 (by omega) (by omega) hl;obtain⟨m0,m1⟩:=hm1 (by omega);have w2:IntKind.i64.wrap (2:Int)=2:=wrO;have w1:=dC;have w0:IntKind.i64.wrap (0:Int)=0:=wrO;obtain⟨x1,hx1,hy1,-⟩:=bF l (p1+1+1) 2 (by omega) (by omega) hl;obtain⟨x1a,x1b⟩:=hy1 (by omega)
 obtain⟨y1,rfl⟩:∃ y:Nat,x1=y:=⟨x1.toNat,by omega⟩
 have hc1:iW y1≤9:=by rcases(show y1=0∨y1=1 by omega)with h|h<;>simp[h,iW]
 obtain⟨e1,q1,he1,c1a,c1b,c1c⟩:=rE l hl W y1 (by omega) (by omega) ((p1+1+1)+1) (by omega) (by omega);rw[Ex.aB e1]at he1;have t1:=Ex.bV e1 (by omega)
 rcases(show m=0∨m=1 by omega)with rfl|rfl
 ·refine⟨.mk 3 0 [e1] [] [K],q1,u1,j1,?_,Th.one (by simp[Pn.thin,Pn.gL,hK,t1]) hKB,by omega,by omega,by omega,by omega,by omega,by simp[bK,Pn.scan],by simp[bK,Pn.scan]⟩;rw[dD Tryd.func83 rfl rfl];simp[PSt,ht,hv,v0,we,hkid,hW,hkk,wn,hq,hm,w1];rw[aD];simp[hx1,he1,w0];rw[aD];simp[rX,rS,bl,Pn.bD,Ex.aA,aI,Pn.aA,Pn.aB K,Ex.aB e1,PSt]
 ·obtain⟨x2,hx2,hy2,-⟩:=bF l q1 2 (by omega) (by omega) hl;obtain⟨x2a,x2b⟩:=hy2 (by omega)
  obtain⟨y2,rfl⟩:∃ y:Nat,x2=y:=⟨x2.toNat,by omega⟩
  have hc2:iW y2≤9:=by rcases(show y2=0∨y2=1 by omega)with h|h<;>simp[h,iW]
  obtain⟨e2,q2,he2,c2a,c2b,c2c⟩:=rE l hl W y2 (by omega) (by omega) (q1+1) (by omega) (by omega);rw[Ex.aB e2]at he2;have t2:=Ex.bV e2 (by omega);refine⟨.mk 3 0 [e1,e2] [] [K],q2,u1,j1,?_,Th.one (by simp[Pn.thin,Pn.gL,hK,t1,t2]) hKB,by omega,by omega,by omega,by omega,by omega,by simp[bK,Pn.scan],by simp[bK,Pn.scan]⟩;rw[dD Tryd.func83 rfl rfl];simp[PSt,ht,hv,v0,we,hkid,hW,hkk,wn,hq,hm,w2];rw[aD];simp[hx1,he1,w1];rw[aD];simp[hx2,he2,w0];rw[aD];simp[rX,rS,bl,Pn.bD,Ex.aA,aI,Pn.aA,Pn.aB K,Ex.aB e1,Ex.aB e2,PSt]
theorem UL {l:List UInt8} (hl:l.length≤2000) {ws:List Int} {k:Nat} {d j c2:Nat} {p u t v W kk p1 u1:Int} {j1:Nat} {K:Pn} (H:PlH l ws k d j c2 p u t v W kk p1 u1 j1 K) (hq:kk=4):RtC l ws k d j c2 p u p1 j1:=by
 obtain⟨hd,h1,hp1,hu0,hu1,hW0,hW6,hKB,ht,hv,v0,hkid,hW,hkk⟩:=H;have we:IntKind.i64.wrap (d:Int)=d:=wrO;have hK:=hKB.1;have wn:¬ ((d:Int)+1=0):=by omega
 simp only[PSt]at hkid;rw[Pn.aB K]at hkid hW;obtain⟨m,hm,hm1,-⟩:=bF l (p1+1) 2 (by omega) (by omega) hl;obtain⟨m0,m1⟩:=hm1 (by omega);have w2:IntKind.i64.wrap (2:Int)=2:=wrO;have w1:=dC;have w0:IntKind.i64.wrap (0:Int)=0:=wrO;obtain⟨x1,hx1,hy1,-⟩:=bF l (p1+1+1) 2 (by omega) (by omega) hl;obtain⟨x1a,x1b⟩:=hy1 (by omega)
 obtain⟨y1,rfl⟩:∃ y:Nat,x1=y:=⟨x1.toNat,by omega⟩
 have hc1:iW y1≤9:=by rcases(show y1=0∨y1=1 by omega)with h|h<;>simp[h,iW]
 obtain⟨e1,q1,he1,c1a,c1b,c1c⟩:=rE l hl W y1 (by omega) (by omega) ((p1+1+1)+1) (by omega) (by omega);rw[Ex.aB e1]at he1;have t1:=Ex.bV e1 (by omega)
 rcases(show m=0∨m=1 by omega)with rfl|rfl
 ·refine⟨.mk 3 0 [e1] [] [K],q1,u1,j1,?_,Th.one (by simp[Pn.thin,Pn.gL,hK,t1]) hKB,by omega,by omega,by omega,by omega,by omega,by simp[bK,Pn.scan],by simp[bK,Pn.scan]⟩;rw[dD Tryd.func83 rfl rfl];simp[PSt,ht,hv,v0,we,hkid,hW,hkk,wn,hq,hm,w1];rw[aD];simp[hx1,he1,w0];rw[aD];simp[rX,rS,bl,Pn.bD,Ex.aA,aI,Pn.aA,Pn.aB K,Ex.aB e1,PSt]
 ·obtain⟨x2,hx2,hy2,-⟩:=bF l q1 2 (by omega) (by omega) hl;obtain⟨x2a,x2b⟩:=hy2 (by omega)
  obtain⟨y2,rfl⟩:∃ y:Nat,x2=y:=⟨x2.toNat,by omega⟩
  have hc2:iW y2≤9:=by rcases(show y2=0∨y2=1 by omega)with h|h<;>simp[h,iW]
  obtain⟨e2,q2,he2,c2a,c2b,c2c⟩:=rE l hl W y2 (by omega) (by omega) (q1+1) (by omega) (by omega);rw[Ex.aB e2]at he2;have t2:=Ex.bV e2 (by omega);refine⟨.mk 3 0 [e1,e2] [] [K],q2,u1,j1,?_,Th.one (by simp[Pn.thin,Pn.gL,hK,t1,t2]) hKB,by omega,by omega,by omega,by omega,by omega,by simp[bK,Pn.scan],by simp[bK,Pn.scan]⟩;rw[dD Tryd.func83 rfl rfl];simp[PSt,ht,hv,v0,we,hkid,hW,hkk,wn,hq,hm,w2];rw[aD];simp[hx1,he1,w1];rw[aD];simp[hx2,he2,w0];rw[aD];simp[rX,rS,bl,Pn.bD,Ex.aA,aI,Pn.aA,Pn.aB K,Ex.aB e1,Ex.aB e2,PSt]
theorem YK {l:List UInt8} (hl:l.length≤2000) {ws:List Int} (hw:∀ w∈ws,0≤w∧w≤6) (hwl:ws.length<1000000) {k:Nat} (hk0:0<k) (hkl:k≤ws.length) {d j c c2:Nat} (hd:d<100) (hjb:j<1000) (ih:lU l ws k d j c) (hoth:∀ i:Nat,i<j→∀ y:Nat,y≤1→lU l ws k y i c2):OE l ws k (d+1) j (c+c2+500):=by
 intro p u h0 h1 hu0 hu1;obtain⟨t,ht,-,-⟩:=bF l p k h0 (by omega) hl;obtain⟨v,hv,-,-⟩:=bF l (p+1) 6 (by omega) (by omega) hl;by_cases v0:v=0
 ·subst v0;exact⟨.scan t,p+1+1,u,j,YL hd ht hv,Th.scan (Pn.CE t) _ _,by omega,by omega,by omega,by omega,by omega,by simp[Pn.scan],by simp[Pn.scan]⟩
 obtain⟨K,p1,u1,j1,hkid,hK,a1,a2,a3,a4,a5⟩:=ih (p+1+1) u (by omega) (by omega) hu0 hu1;have hW:=fU hw hwl hk0 hkl K hK.1;have hWr:=Pn.kR (ws:=ws.take k) (fun w hm=>hw w (zK hm)) K 8;generalize K.wd (ws.take k) 8=W at hW hWr;obtain⟨kk,hkk,hkk1,-⟩:=bF l p1 10 (by omega) (by omega) hl;obtain⟨kk0,kk9⟩:=hkk1 (by omega)
 suffices H:∃ (P:Pn) (p' u':Int) (j':Nat),lT CQ true 83 [.own 0 0, .int ((d+1:Nat):Int)] (PSt l ws k j u p)=some (rX 3 P,PSt l ws k j' u' p'++rS P)∧Th P j j' u u'∧p1≤p'∧p'≤p1+400+c2∧j'≤j1∧0≤u'∧u'≤1∧P.exprs.length≤2∧P.cols.length≤1 by
  obtain⟨P,p',u',j',b1,b2,b3,b4,b5,b6,b7,b8⟩:=H;exact⟨P,p',u',j',b1,b2,by omega,by omega,by omega,b6,b7,b8⟩
 have hb:p1+400+c2<300000000:=by omega
 have hp1:0≤p1:=by omega
 have H:PlH _ _ _ _ _ _ _ _ _ _ _ _ _ _ _ _:=⟨hd,hb,hp1,a4,a5,hWr.1,hWr.2,hK,ht,hv,v0,hkid,hW,hkk⟩
 by_cases q0:kk=0
 ·exact M3 hl H q0
 by_cases q1:kk=1
 ·exact M0 hl H q1
 by_cases q2:kk=2
 ·exact LZ hl H q2
 by_cases q3:kk=3
 ·exact UM hl H q3
 by_cases q4:kk=4
 ·exact UL hl H q4
 by_cases q5:kk=5
 ·by_cases hj:j1=0
  ·exact LY hl H hj q5
  by_cases hw4:W≤4
  ·exact UO hl hw hwl hk0 hkl H hj (by omega) hw4 (fun y hy=>hoth (j1-1) (by omega) y hy) q5
  ·exact UJ hl H hj hw4 q5
 by_cases q6:kk=6
 ·by_cases hj:j1=0
  ·exact LX hl H hj q6
  by_cases hw4:W≤4
  ·exact UN hl hw hwl hk0 hkl H hj (by omega) hw4 (fun y hy=>hoth (j1-1) (by omega) y hy) q6
  ·exact UI hl H hj hw4 q6
 by_cases q7:kk=7
 ·by_cases hu:0<u1
  ·exact UK hl H hu q7
  ·exact LW hl H hu q7
 by_cases q8:kk=8
 ·exact JD hl H q8
 have q9:kk=9:=by omega
 by_cases hw1:1<W
 ·exact P8 hl H hw1 q9
 ·exact P9 hl H hw1 q9
theorem OE.le {l:List UInt8} {ws:List Int} {k:Nat} {d j c c':Nat} (h:OE l ws k d j c) (hc:c≤c'):OE l ws k d j c':=by
 intro p u h0 h1 hu0 hu1;obtain⟨P,p',u',j',b1,b2,b3,b4,b5,b6,b7,b8⟩:=h p u h0 (by omega) hu0 hu1;exact⟨P,p',u',j',b1,b2,b3,by omega,b5,b6,b7,b8⟩
theorem ACC {l:List UInt8} (hl:l.length≤2000) {ws:List Int} (hw:∀ w∈ws,0≤w∧w≤6) (hwl:ws.length<1000000) {k:Nat} (hk0:0<k) (hkl:k≤ws.length) (d:Nat) (h:d+1<50):OE l ws k (d+1) 1 (2000*(d+1)+1) :=
 (YK hl hw hwl hk0 hkl (c2:=501) (by omega) (by omega) (RB hl hw hwl hk0 hkl d (by omega)) (fun i hi y hy=>by
  obtain rfl:i=0:=by omega
  exact(CY hl hw hwl hk0 hkl y (by omega)).le (by omega))).le (by omega)
@[simp] theorem APJ (a:List AV) (st:StL):aH CR 83 a st=lT CQ true 83 a st:=by rw[aP (p:=lT CQ true 83) rfl]
@[simp] theorem AHZ (a:List AV) (st:StL):aH CR 84 a st=lT C0 true 84 a st:=by rw[aP (p:=lT C0 true 84) rfl]
@[simp] theorem AFB (a:List AV) (st:StL):aH CR 39 a st=V9 (aH C0) 39 a st:=by rw[aP (p:=V9 (aH C0) 39) rfl]
@[simp] theorem APK (a:List AV) (st:StL):aH CR 55 a st=aH C0 55 a st:=by rw[aP (p:=aH C0 55) rfl]
@[simp] theorem ARD (a:List AV) (st:StL):aH CR 56 a st=aH C0 56 a st:=by rw[aP (p:=aH C0 56) rfl]
@[simp] theorem APL (a:List AV) (st:StL):aH CR 85 a st=aH C0 85 a st:=by rw[aP (p:=aH C0 85) rfl]
@[simp] theorem AJF (a:List AV) (st:StL):aH CR 76 a st=aH C0 76 a st:=by rw[aP (p:=aH C0 76) rfl]
@[simp] theorem AM8 (a:List AV) (st:StL):aH CR 53 a st=aH C0 53 a st:=by rw[aP (p:=aH C0 53) rfl]
theorem bY {α:Type} (l:List α):l=[]∨(l.length≠0∧l≠[]∧0<l.length):=by cases l<;>simp
theorem CS {l:List UInt8} (hl:l.length≤2000) {ws:List Int} (hw:∀ w∈ws,0≤w∧w≤6) (hwl:ws.length<1000000) (hk0:0<ws.length) (p:Int) (h0:0≤p) (h1:p+20000<200000000):∃ (P:Pn) (p':Int),
 aH CR 75 [.own 0 0, .osl 1 1 0 ws.length] [Rd l p,some (.arr 1 (aI ws))]=some (rX 2 P,[Rd l p',some (.arr 1 (aI ws))]++rS P)∧Rt P∧p≤p'∧p'≤p+20000∧P.exprs.length≤2∧P.cols.length≤1:=by
 obtain⟨v,hv,hv1,-⟩:=bF l p 4 h0 (by omega) hl;obtain⟨v0,v1⟩:=hv1 (by omega)
 obtain⟨y,rfl⟩:∃ y:Nat,v=y:=⟨v.toNat,by omega⟩
 have w1:IntKind.i64.wrap (1+(y:Int))=((y+1:Nat):Int):=by rw[wrO];omega
 obtain⟨P,p1,u',j',hP,hPt,b1,b2,b3,b4,b5,b6,b7⟩:=ACC hl hw hwl hk0 (zO _) y (by omega) (p+1) 1 (by omega) (by omega) (by omega) (by omega);simp only[PSt,Int.natCast_one,Int.natCast_add]at hP;obtain⟨z,hz,-,-⟩:=bF l p1 2 (by omega) (by omega) hl;have te:P.exprs.take P.exprs.length=P.exprs:=zY (by simp);have tc:P.cols.take P.cols.length=P.cols:=zY (by simp);have tk:P.kids.take P.kids.length=P.kids:=zY (by simp);by_cases hz0:z=0
 ·have hW:=nQ hw (by omega) P (Pn.J8 P hPt.1) 8 (by omega);have twd:ws.take ws.length=ws:=zY (by simp);obtain⟨e,p2,he,a1,a2,a3⟩:=aL l hl (P.wd ws 8) (p1+1) (by omega) (by omega);have hf:=dL e P;refine⟨bK e P,p2,?_,Rt.one (ZZ a3 hPt.1) (hPt.rt b4),by omega,by omega,by simp[bK],by simp[bK]⟩;rw[aF rfl Tryd.func75 rfl rfl];rw[Pn.aB P,Ex.aB e]at hf;rw[Ex.aB e]at he;rw[Pn.aB P]at hW
  rcases bY P.exprs with ce|⟨ce,ce',ce''⟩<;>rcases bY P.cols with cc|⟨cc,cc',cc''⟩<;>rcases bY P.kids with ck|⟨ck,ck',ck''⟩ <;>
   (simp[rX,rS,bl, *,aQ,aJ,Ex.aA,aI,Pn.aA]at hP hW hf
    simp[hv,w1,hP,hz,hz0,hW,he,hf,rX,rS,bl,bK,V9,G8,ABS,GD,XU,TQ,jJ, *,Ex.aA,aI,Pn.aA,Pn.aB P,Ex.aB e])
 ·refine⟨P,p1+1,?_,hPt.rt b4,by omega,by omega,b6,b7⟩;rw[aF rfl Tryd.func75 rfl rfl]
  rcases bY P.exprs with ce|⟨ce,ce',ce''⟩<;>rcases bY P.cols with cc|⟨cc,cc',cc''⟩<;>rcases bY P.kids with ck|⟨ck,ck',ck''⟩ <;>
   (simp[rX,rS,bl, *,aQ,aJ,Ex.aA,aI,Pn.aA]at hP
    simp[hv,w1,hP,hz,hz0,rX,rS,bl, *,aQ,aJ])
theorem AC (l:List UInt8) (hl:l.length≤2000) (p:Int) (h0:0≤p) (h1:p<900000000):∃ (a b:Int) (r:List Int) (p':Int),aH C0 53 [.own 0 0] [Rd l p]=some (.osl 1 1 0 (r.length+2),[Rd l p',some (.arr 1 (aI (a::b::r)))])∧p≤p'∧p'≤p+4∧1≤a∧a≤2∧1≤b∧b≤2∧r.length≤1∧∀ w∈r,1≤w∧w≤2:=by
 obtain⟨n,hn,hn1,-⟩:=bF l p 2 h0 (by omega) hl;obtain⟨a,ha,ha1,-⟩:=bF l (p+1) 2 (by omega) (by omega) hl;obtain⟨b,hb,hb1,-⟩:=bF l (p+1+1) 2 (by omega) (by omega) hl;have wa:IntKind.i64.wrap (1+a)=1+a:=wrO;have wb:IntKind.i64.wrap (1+b)=1+b:=wrO;have w2:IntKind.i64.wrap (2:Int)=2:=wrO;have w3:IntKind.i64.wrap (3:Int)=3:=wrO;have w1:=dC;have w0:IntKind.i64.wrap (0:Int)=0:=wrO;obtain⟨n0,n1⟩:=hn1 (by omega);have hn2:n=0∨n=1:=by omega
 rcases hn2 with rfl|rfl
 ·refine⟨1+a,1+b,[],p+1+1+1,?_,by omega,by omega,by omega,by omega,by omega,by omega,by simp,by simp⟩;rw[aF rfl Tryd.func53 rfl rfl];simp[hn,w2];rw[aD];simp[ha,wa,w1];rw[aD];simp[hb,wb,w0];rw[aD];simp[aI]
 ·obtain⟨c,hc,hc1,-⟩:=bF l (p+1+1+1) 2 (by omega) (by omega) hl;have wc:IntKind.i64.wrap (1+c)=1+c:=wrO;refine⟨1+a,1+b,[1+c],p+1+1+1+1,?_,by omega,by omega,by omega,by omega,by omega,by omega,by simp,by simp;omega⟩;rw[aF rfl Tryd.func53 rfl rfl];simp[hn,w3];rw[aD];simp[ha,wa,w2];rw[aD];simp[hb,wb,w1];rw[aD];simp[hc,wc,w0];rw[aD];simp[aI]
theorem Pn.LD {P:Pn} (h:P.thin) (k t:Int):(Pn.mk k t P.exprs P.cols P.kids).thin:=by
 rw[Pn.dV]at h ⊢;exact h
theorem Pn.Y9 {P:Pn} (h:P.thin) (c:List Int) (hc:c.length<1000000000):(Pn.mk P.kind P.table P.exprs c P.kids).thin:=by
 rw[Pn.dV]at h ⊢;exact⟨h.1,h.2.1,hc,h.2.2.2⟩
theorem Pn.TU {P:Pn} (h:P.thin) {e:Ex} (he:e.thin) (hl:P.exprs.length+1<1000000000):(Pn.mk P.kind P.table (P.exprs++[e]) P.cols P.kids).thin:=by
 rw[Pn.dV]at h ⊢;refine⟨by simpa [Pn.exprs]using hl,fun x hx=>?_,h.2.2⟩;simp only[Pn.exprs,zV,xW]at hx
 rcases hx with hx|rfl
 ·exact h.2.1 x hx
 ·exact he
theorem OD {l:List UInt8} (hl:l.length≤2000) {ws:List Int} (hw:∀ w∈ws,0≤w∧w≤6) (hwl:ws.length<1000000) (hk0:0<ws.length) (p:Int) (h0:0≤p) (h1:p+30000<200000000):∃ (P:Pn) (p':Int),
 aH CR 54 [.own 0 0, .osl 1 1 0 ws.length] [Rd l p,some (.arr 1 (aI ws))]=some (rX 2 P,[Rd l p',some (.arr 1 (aI ws))]++rS P)∧(P.thin∧BdV P)∧p≤p'∧p'≤p+30000:=by
 obtain⟨P,p1,hP,hPt,b1,b2,b6,b7⟩:=CS hl hw hwl hk0 p h0 (by omega);obtain⟨k,hk,-,-⟩:=bF l p1 18 (by omega) (by omega) hl;have te:P.exprs.take P.exprs.length=P.exprs:=zY (by simp);have tc:P.cols.take P.cols.length=P.cols:=zY (by simp);have hthin:=(Pn.dV P).1 hPt.1;by_cases k0:k=0
 ·obtain⟨x,hx,-⟩:=oU l (p1+1) (by omega) (by omega) hl [[.int 0],[.int 9],[.int 1],[.int 4]] (by simp) (by simp) (by simp);simp only[zS,zI,zM,Nat.reduceAdd]at hx;refine⟨.mk x P.table P.exprs P.cols P.kids,p1+1+1,?_,⟨Pn.LD hPt.1 _ _,hPt.head⟩,by omega,by omega⟩;rw[aF rfl Tryd.func54 rfl rfl]
  rcases bY P.exprs with ce|⟨ce,ce',ce''⟩<;>rcases bY P.cols with cc|⟨cc,cc',cc''⟩<;>rcases bY P.kids with ck|⟨ck,ck',ck''⟩ <;>
   (simp[rX,rS,bl,ce,cc,ck,aQ,aJ]at hP
    simp[hP,hk,k0,hx,rX,rS,bl,ce,cc,ck,aQ,aJ])
 by_cases k1:k=1
 ·obtain⟨x,hx,-⟩:=oU l (p1+1) (by omega) (by omega) hl [[.int (-1)],[.int 4],[.int 1]] (by simp) (by simp) (by simp);simp only[zS,zI,zM,Nat.reduceAdd]at hx;refine⟨.mk P.kind x P.exprs P.cols P.kids,p1+1+1,?_,⟨Pn.LD hPt.1 _ _,hPt.head⟩,by omega,by omega⟩;rw[aF rfl Tryd.func54 rfl rfl]
  rcases bY P.exprs with ce|⟨ce,ce',ce''⟩<;>rcases bY P.cols with cc|⟨cc,cc',cc''⟩<;>rcases bY P.kids with ck|⟨ck,ck',ck''⟩ <;>
   (simp[rX,rS,bl,ce,cc,ck,aQ,aJ]at hP
    simp[hP,hk,k0,k1,hx,rX,rS,bl,ce,cc,ck,aQ,aJ])
 by_cases k2:k=2
 ·obtain⟨x,hx,-⟩:=oU l (p1+1) (by omega) (by omega) hl [[.int 0],[.int 9]] (by simp) (by simp) (by simp);simp only[zS,zI,zM,Nat.reduceAdd]at hx;refine⟨.mk P.kind P.table P.exprs (P.cols++[x]) P.kids,p1+1+1,?_,⟨Pn.Y9 hPt.1 _ (by simp;omega),hPt.head⟩,by omega,by omega⟩;have hl1:(P.cols.length+1)*8≤140737488355328:=by omega
  rw[aF rfl Tryd.func54 rfl rfl]
  rcases bY P.exprs with ce|⟨ce,ce',ce''⟩<;>rcases bY P.cols with cc|⟨cc,cc',cc''⟩<;>rcases bY P.kids with ck|⟨ck,ck',ck''⟩ <;>
   (simp[rX,rS,bl,ce,cc,ck,aQ,aJ]at hP
    simp[hP,hk,k0,k1,k2,hx,rX,rS,bl,ce,cc,ck,aQ,aJ,aI,wS,hl1,tc])
 by_cases k3:k=3
 ·obtain⟨e,p2,he,a1,a2,a3⟩:=X4 l hl 2 (p1+1) (by omega) (by omega);refine⟨.mk P.kind P.table (P.exprs++[e]) P.cols P.kids,p2,?_,⟨Pn.TU hPt.1 (Ex.bV _ (by omega)) (by omega),ADZ hPt.2.1 hPt.2.2⟩,by omega,by omega⟩;have hl1:(P.exprs.length+1)*56≤140737488355328:=by omega
  rw[aF rfl Tryd.func54 rfl rfl];rw[Ex.aB e]at he
  rcases bY P.exprs with ce|⟨ce,ce',ce''⟩<;>rcases bY P.cols with cc|⟨cc,cc',cc''⟩<;>rcases bY P.kids with ck|⟨ck,ck',ck''⟩ <;>
   (simp[rX,rS,bl,ce,cc,ck,aQ,aJ]at hP
    simp[hP,hk,k0,k1,k2,k3,he,rX,rS,bl,ce,cc,ck,aQ,aJ,Ex.aA,Ex.eY,hl1,te,Ex.aB e])
 ·refine⟨P,p1+1,?_,⟨hPt.1,hPt.all⟩,by omega,by omega⟩;rw[aF rfl Tryd.func54 rfl rfl]
  rcases bY P.exprs with ce|⟨ce,ce',ce''⟩<;>rcases bY P.cols with cc|⟨cc,cc',cc''⟩<;>rcases bY P.kids with ck|⟨ck,ck',ck''⟩ <;>
   (simp[rX,rS,bl,ce,cc,ck,aQ,aJ]at hP
    simp[hP,hk,k0,k1,k2,k3,rX,rS,bl,ce,cc,ck,aQ,aJ])
theorem AJ {l:List UInt8} (hl:l.length≤2000):∃ (P:Pn) (ws:List Int) (p':Int),aH CR 35 [.own 0 0] [Rd l 0]=some (.tup [.i (.agg P.cells), .i (.isl (aI ws))],[Rd l p'])∧P.thin∧ws.length≤3∧0≤p'∧p'≤40000:=by
 obtain⟨a,b,r,p1,hr,r1,r2,r3,r4,r5,r6,r7,r8⟩:=AC l hl 0 (by omega) (by omega)
 have hw:∀ w∈a::b::r,0≤w∧w≤6:=by
  intro w hm;simp only[zQ]at hm
  rcases hm with rfl|rfl|hm
  ·omega
  ·omega
  ·have:=r8 w hm;omega
 have hr0:(0:Int)<(r.length:Int)+2:=by omega
 obtain⟨P,p2,hP,hPt,c1,c2⟩:=OD hl (ws:=a::b::r) hw (by simp;omega) (by simp) p1 (by omega) (by omega);obtain⟨k,hk,-,-⟩:=bF l p2 18 (by omega) (by omega) hl;have te:P.exprs.take P.exprs.length=P.exprs:=zY (by simp);have tc:P.cols.take P.cols.length=P.cols:=zY (by simp);have tk:P.kids.take P.kids.length=P.kids:=zY (by simp);by_cases k0:k=0
 ·obtain⟨x,hx,-⟩:=oU l (p2+1) (by omega) (by omega) hl [[.int 0],[.int 7],[.int 1]] (by simp) (by simp) (by simp);simp only[zS,zI,zM,Nat.reduceAdd]at hx;refine⟨P,x::b::r,p2+1+1,?_,hPt.1,by simp;omega,by omega,by omega⟩;rw[aF rfl Tryd.func35 rfl rfl]
  rcases bY P.exprs with ce|⟨ce,ce',ce''⟩<;>rcases bY P.cols with cc|⟨cc,cc',cc''⟩<;>rcases bY P.kids with ck|⟨ck,ck',ck''⟩ <;>
   (simp[rX,rS,bl,ce,cc,ck,aQ,aJ,aI]at hP
    simp[hr,hP,hk,k0,hx,hr0,ce,cc,ck,aI,te,tc,tk,Pn.aB P,Ex.aA,Pn.aA])
 ·refine⟨P,a::b::r,p2+1,?_,hPt.1,by simp;omega,by omega,by omega⟩;rw[aF rfl Tryd.func35 rfl rfl]
  rcases bY P.exprs with ce|⟨ce,ce',ce''⟩<;>rcases bY P.cols with cc|⟨cc,cc',cc''⟩<;>rcases bY P.kids with ck|⟨ck,ck',ck''⟩ <;>
   (simp[rX,rS,bl,ce,cc,ck,aQ,aJ,aI]at hP
    simp[hr,hP,hk,k0,ce,cc,ck,aI,te,tc,tk,Pn.aB P,Ex.aA,Pn.aA])
end Go.Proofs.YtmcjmafajkeecaaDoor.P
namespace Go.Av
def TA (v:Val):Ex:=.mk 2 0 v []
def eqX (n:Int):Ex:=.mk 6 0 Val.zero [ANZ 0,TA ⟨false,n⟩]
theorem NQ (n:Int):(eqX n).cells=[.int 6, .int 0, .bool false, .int 0, .isl [[.int 1, .int 0, .bool false, .int 0, .isl []],[.int 2, .int 0, .bool false, .int n, .isl []]]]:=by
 rw[Ex.aB];rfl
theorem NR (n:Int) (p:Pn):(filt (eqX n) p).cells=[.int 2, .int 0, .isl [(eqX n).cells], .isl [], .isl [p.cells]]:=by
 rw[Pn.aB];rfl
theorem AM5 {n:Int} (h0:0≤n) (h:n≤9) (w:Int):(eqX n).ok w=(eqX 0).ok w:=by
 have h1:-9999≤n∧n≤9999:=by omega
 simp[Ex.ok,Ex.vB,eqX,ANZ,TA,Ex.headOk,Ex.kids,Ex.kind,Ex.col,Ex.val,bQ,Val.ok,Val.zero,h1]
theorem SN {n:Int} (h0:0≤n) (h:n≤9) (p:Pn) (ws:List Int):QI (filt (eqX n) p) ws=QI (filt (eqX 0) p) ws:=by
 have hs:(filt (eqX n) p).shp=(filt (eqX 0) p).shp:=by
  simp[filt,eqX,ANZ,TA,Pn.shp,Pn.KJ,Ex.shp,Ex.KJ]
 have hw:(filt (eqX n) p).width ws=(filt (eqX 0) p).width ws:=by
  unfold Pn.width;rw[show(8:Nat)=7+1 from rfl,OO,OO,AM5 h0 h]
 unfold QI;rw[hs,hw]
theorem AD8 (n:Int):(eqX n).thin:=by simp[eqX,ANZ,TA,Ex.thin,Ex.gL]
theorem SK (n:Int) {p:Pn} (h:p.thin):(filt (eqX n) p).thin:=by
 simp[filt,Pn.thin,Pn.gL,AD8,h]
end Go.Av
namespace Go.Proofs.YtmcjmafajkeecaaDoor.P
open Go Go.Av
set_option maxRecDepth 4000
set_option maxHeartbeats 4000000
noncomputable def Z0:FuncId→Option (List AV→StL→Option (AV×StL))
 | 1000000007=>none
 | 4=>none
 | 12=>none
 | 9=>some (aH CC 9)
 | g=>some (aH CR g)
noncomputable def CKy:Ctx:={ P:=Tryd.prog,G:=GS,ownArgs:=ABF,keepRes:=ALT,eqT:=wU,prim:=Z0 }
@[simp] theorem AT8:CKy.P=Tryd.prog:=(rfl)
@[simp] theorem AT9 (f):CKy.G f=GS f:=(rfl)
@[simp] theorem AT5 (f):CKy.ownArgs f=ABF f:=(rfl)
@[simp] theorem AT6 (f):CKy.keepRes f=(keepR f || decide (f=75)):=(rfl)
@[simp] theorem AT7 (f):CKy.eqT f=wU f:=(rfl)
@[simp] theorem AT4:CKy.tree=false:=(rfl)
theorem AGM:PrimOk CKy:=by
 have h0:=aZ AKF;have hC:=aZ AEX
 have key:∀ g q,CKy.prim g=some q→g≠sW∧(q=aH CR g∨q=aH CC g):=by
  intro g q h;have h:Z0 g=some q:=h;unfold Z0 at h;split at h
  all_goals first
   | (cases h;done)
   | (injection h with h;subst h;exact⟨by decide, .inr rfl⟩)
   | (injection h with h;subst h;exact⟨by assumption, .inl rfl⟩)
 constructor
 ·intro g args st p h;unfold bN at h
  cases hq:CKy.prim g with
  | none=>rw[hq]at h;cases h
  | some q =>
   rw[hq]at h;obtain⟨hy,rfl|rfl⟩:=key g q hq
   ·exact h0.name _ _ _ _ hy h
   ·exact hC.name _ _ _ _ hy h
 ·intro g args st r st' h w m φ vs hi hr hb;unfold bN at h
  cases hq:CKy.prim g with
  | none=>rw[hq]at h;cases h
  | some q =>
   rw[hq]at h;obtain⟨hy,rfl|rfl⟩:=key g q hq
   ·exact h0.calls _ _ _ _ _ hy h w m φ vs hi hr hb
   ·exact hC.calls _ _ _ _ _ hy h w m φ vs hi hr hb
theorem AG7:SoundOk CKy:=iJ (C:=CKy) ft nt eqS mo AGM
@[simp] theorem AWD (a:List AV) (st:StL):aH CKy 36 a st=aH C0 36 a st:=by rw[aP (p:=aH CR 36) rfl,aP (p:=aH C0 36) rfl]
@[simp] theorem AWE (a:List AV) (st:StL):aH CKy 35 a st=aH CR 35 a st:=by rw[aP (p:=aH CR 35) rfl]
@[simp] theorem AWF (a:List AV) (st:StL):aH CKy 9 a st=aH CC 9 a st:=by rw[aP (p:=aH CC 9) rfl]
@[simp] theorem AWC (a:List AV) (st:StL):aH CKy 6 a st=aH C0 6 a st:=by rw[aP (p:=aH CR 6) rfl,aP (p:=aH C0 6) rfl]
theorem VU (code:List UInt8):∃ (P:Pn) (ws:List Int),aH CKy 12 [.i (.isl (aO code))] []=some (.tup [.i (.agg P.cells), .i (.isl (aI ws))],[])∧P.thin∧ws.length≤3:=by
 obtain⟨c,hc,hr⟩:=MP code;obtain⟨P,ws,p',h,h1,h2,_,_⟩:=AJ hc;refine⟨P,ws,?_,h1,h2⟩;rw[aF rfl Tryd.func12 rfl rfl];rw[Pn.aB P]at *
 simp[hr,h]
theorem VE (a0 a1 a2 a3 a4 b0 b1 b2 b3 b4:IV):aH CKy 13 [.i (.agg [a0,a1,a2,a3,a4]), .i (.agg [b0,b1,b2,b3,b4])] []=some (.i (.agg [.int 2, .int 0, .isl [[a0,a1,a2,a3,a4]], .isl [], .isl [[b0,b1,b2,b3,b4]]]),[]):=by
 rw[aP (p:=aH CR 13) rfl,aP (p:=aH C0 13) rfl,aF rfl Tryd.func13 rfl rfl];simp
theorem AH2 (k:Int) (a0 a1 a2 a3 a4 b0 b1 b2 b3 b4:IV):aH CKy 14 [.int k, .i (.agg [a0,a1,a2,a3,a4]), .i (.agg [b0,b1,b2,b3,b4])] []=some (.i (.agg [.int k, .int 0, .bool false, .int 0, .isl [[a0,a1,a2,a3,a4],[b0,b1,b2,b3,b4]]]),[]):=by
 rw[aP (p:=aH CR 14) rfl,aP (p:=aH C0 14) rfl,aF rfl Tryd.func14 rfl rfl];simp
theorem N7 (code more:List UInt8):aH CKy 4 [.i (.isl (aO code)), .i (.isl (aO more))] []=some (.bool true,[]):=by
 rw[aF rfl Tryd.func4 rfl rfl];by_cases hl:(1048576:Int)<code.length
 ·simp[eD,hl]
 by_cases hl2:(1048576:Int)<more.length
 ·simp[eD,hl,hl2]
 obtain⟨p,ws,hd,hp,hws⟩:=VU code;have e1:=oP (ws:=ws) hp;have e2:=wG (ws:=ws) hp (by omega);by_cases h0:p.width ws=0
 ·rw[Pn.aB p]at *
  simp[eD,hl,hl2,hd,e1,e2,QI,h0]
 ·have hk:QI p ws=txP p.shp:=by simp[QI,h0]
  have hk2:∃ t,txP p.shp=40::t:=⟨_,L8 _⟩
  obtain⟨t,ht⟩:=hk2;rw[hk,ht]at e1 e2
  have hn:0≤(more.length:Int).tmod 9∧(more.length:Int).tmod 9≤9:=by
   have h1:=zB4 9 (show 0≤(more.length:Int)by omega);have h2:=yD (more.length:Int) (show(0:Int)<9 by omega);omega
  have c1:=oP (ws:=ws) (SK 1 hp);have c2:=oP (ws:=ws) (SK ((more.length:Int).tmod 9) hp);rw[SN (by omega) (by omega),NR,NQ]at c1;rw[SN hn.1 hn.2,NR,NQ]at c2;generalize QI (filt (eqX 0) p) ws=k at *
  rw[Pn.aB p]at *
  simp[eD,hl,hl2,hd,e1,e2,VE,AH2,c1,c2]
theorem uC (a:Option Addr) (len cap:Nat) (zs:List Int) (a':Option Addr) (len' cap':Nat) (zs':List Int) (w:World)
 (h:(a=none∧len=0∧cap=0∧zs=[])∨∃ x,a=some x∧len≤cap∧cap≤maxLen∧zs.length=cap∧(∀ i,i<zs.length→w.cell? (x.add i)=some (.int .u8 (zs.getD i 0)))∧∀ n∈zs,(Lit.int .u8 n).wf=true)
 (h':(a'=none∧len'=0∧cap'=0∧zs'=[])∨∃ x,a'=some x∧len'≤cap'∧cap'≤maxLen∧zs'.length=cap'∧(∀ i,i<zs'.length→w.cell? (x.add i)=some (.int .u8 (zs'.getD i 0)))∧∀ n∈zs',(Lit.int .u8 n).wf=true) :
 Calls Tryd.prog 4 #[.slice a len cap, .slice a' len' cap'] w fun e w'=>e=.returned (.bool true)∧RowKit.Below w.heap.size w w':=by
 obtain⟨code,hc⟩:=O3 h;obtain⟨more,hm⟩:=O3 h';exact IU AG7 (.cons (.i hc) (.cons (.i hm) .nil)) (N7 code more)
end Go.Proofs.YtmcjmafajkeecaaDoor.P

/- Part 4 of what the proof rests on: the executor and what it is worth, and the program's functions as it runs them. No condition. -/
import Derived.Test.YtjdfjgmebalaaaaT3
set_option linter.unusedVariables false
set_option linter.unusedSimpArgs false
namespace Go.Av.Mk
open Go Go.Av
set_option maxRecDepth 4000
section
variable {X:Type} {cells:X→List IV} {mk:Int→X→X} {sz:X→Nat} {W:Nat}
theorem nV (h:∀ x,1≤sz x):∀ l:List X,l.length≤bN sz l
 | []=>by simp
 | x::l=>by have:=nV h l;have:=h x;simp only[zN,bN];omega
def tJ (C:Ctx) {X:Type} (cells:X→List IV) (mk:Int→X→X) (sz:X→Nat) (g:FuncId):Prop :=
 ∀ (l:List X) (w:World) (v:Value) (F:List Nat) (k:Int),TCells w [.isl (l.map cells)] [v] F→F.Nodup→0≤k→k+(bN sz l:Nat)<1000000000000→Calls C.P g #[v, .int .i64 k] w (AAE cells mk sz w v F k l)
theorem tJ.of {C:Ctx} (hS:SoundOk C) {g:FuncId} {nt:Nat} {G:List Nat} {fn:Func} {c0 c1 cc body c3 cend:Code} (hg:g≠rH) (L:MLoop C g W nt G fn c0 c1 cc body c3 cend) (hW:∀ x,(cells x).length=W) (hW0:0<W) (h1:∀ x,1≤sz x)
 (hR:∀ x,O6 C cells mk sz W nt body x):tJ C cells mk sz g:=fun l w v F k hT hnd hk0 hk1 =>
 IC hS hg L hW hW0 (fun x _=>hR x) hT hnd hk0 hk1 (by have:=nV h1 l;omega)
def kW (cells:X→List IV) (W:Nat) (l:List X):Blk:=if l=[]then .arr W []else .tre W (l.map cells)
@[simp] theorem AGK (r:Nat→Option Nat) (l:List X):tK r (some (kW cells W l))=some (kW cells W l):=by unfold kW;split<;>rfl
@[simp] theorem ADH (l:List X):fJ (some (kW cells W l))=[]:=by unfold kW;split<;>rfl
theorem pE (h:∀ x,lI (cells x)=true):∀ l:List X,kN (l.map cells)=true
 | []=>rfl
 | x::l=>by simp only[yT,kN,h x,pE h l,Bool.and_self]
@[simp] theorem AIO (h:∀ x,lI (cells x)=true) (l:List X):mfB (some (kW cells W l))=true:=by
  unfold kW;split
  ·rfl
  ·simp only[mfB];exact pE h l
theorem kY {l:List X} (h:l≠[]):kW cells W l=.tre W (l.map cells):=by simp[kW,h]
theorem VV {cells:X→List IV} (h:∀ x y,cells x=cells y→x=y):∀ {l m:List X},l.map cells=m.map cells→l=m
 | [],[],_=>rfl
 | [],_::_,e=>by simp at e
 | _::_,[],e=>by simp at e
 | x::l,y::m,e=>by
  simp only[yT,List.cons.injEq]at e;rw[h x y e.1,VV h e.2]
theorem YL (hi:∀ x y,cells x=cells y→x=y) {l m:List X} (h:kW cells W l=kW cells W m):l=m:=by
 unfold kW at h;split at h<;>split at h
 ·rename_i h1 h2;rw[h1,h2]
 ·cases h
 ·cases h
 ·injection h with _ h;exact VV hi h
noncomputable def qR (cells:X→List IV) (mk:Int→X→X) (sz:X→Nat) (W:Nat):List AV→StL→Option (AV×StL)
 | [.osl 0 W' 0 n, .i (.lit (.int .i64 k))],[some B] =>
  @dite _ (W'=W∧∃ l:List X,B=kW cells W l∧l.length=n∧0≤k∧k+(bN sz l:Nat)<1000000000000) (Classical.propDecidable _)
   (fun h=>some (.int (k+(bN sz h.2.choose:Nat)),[some (kW cells W (eP mk sz k h.2.choose))])) fun _=>none
 | [.i (.isl []), .i (.lit (.int .i64 k))],[]=>tst (decide (0≤k∧k<1000000000000)) (some (.int k,[]))
 | [.nils, .i (.lit (.int .i64 k))],[]=>tst (decide (0≤k∧k<1000000000000)) (some (.int k,[]))
 | _,_=>none
theorem PD (hi:∀ x y,cells x=cells y→x=y) {l:List X} {k:Int} (h0:0≤k) (h1:k+(bN sz l:Nat)<1000000000000):qR cells mk sz W [.osl 0 W 0 l.length, .int k] [some (kW cells W l)]=some (.int (k+(bN sz l:Nat)),[some (kW cells W (eP mk sz k l))]):=by
 have h:W=W∧∃ m:List X,kW cells W l=kW cells W m∧m.length=l.length∧0≤k∧k+(bN sz m:Nat)<1000000000000:=⟨rfl,l,rfl,rfl,h0,h1⟩
 unfold qR;simp only;rw[dif_pos h];have e:l=h.2.choose:=YL hi h.2.choose_spec.1;rw[← e]
theorem RH {args:List AV} {st:StL} {r:AV×StL} (h:qR cells mk sz W args st=some r) :
 (∃ (l:List X) (k:Int),args=[.osl 0 W 0 l.length, .int k]∧st=[some (kW cells W l)]∧0≤k∧k+(bN sz l:Nat)<1000000000000∧r=(.int (k+(bN sz l:Nat)),[some (kW cells W (eP mk sz k l))])) ∨
 ∃ k:Int,(args=[.i (.isl []), .int k]∨args=[.nils, .int k])∧st=[]∧0≤k∧k<1000000000000∧r=(.int k,[]):=by
 unfold qR at h;split at h
 ·rename_i W' n k B;by_cases hc:W'=W∧∃ l:List X,B=kW cells W l∧l.length=n∧0≤k∧k+(bN sz l:Nat)<1000000000000
  ·rw[dif_pos hc]at h;injection h with h;obtain⟨s1,s2,s3,s4⟩:=hc.2.choose_spec;exact .inl ⟨hc.2.choose,k,by rw[s2,hc.1],by rw[← s1],s3,s4,h.symm⟩
  ·rw[dif_neg hc]at h;cases h
 ·rename_i k;obtain⟨h1,h2⟩:=aM.1 h;injection h2 with h2;obtain⟨h3,h4⟩:=zS h1;exact .inr ⟨k, .inl rfl,rfl,h3,h4,h2.symm⟩
 ·rename_i k;obtain⟨h1,h2⟩:=aM.1 h;injection h2 with h2;obtain⟨h3,h4⟩:=zS h1;exact .inr ⟨k, .inr rfl,rfl,h3,h4,h2.symm⟩
 ·cases h
theorem FQ {C:Ctx} {g:FuncId} (hM:tJ C cells mk sz g) (hW:∀ x,(cells x).length=W) (hP:∀ x,lI (cells x)=true) {args:List AV} {stl stl':StL} {r:AV} (h:qR cells mk sz W args stl=some (r,stl')) (w:World) (m:Mem) (φ:Pl) (vs:List Value) (hi:Inv w m φ (aT stl)) (hr:RepL m φ args vs) (hb:∀ id,φ id≠none→id<stl.length) :
 Calls C.P g vs.toArray w (dK w m φ r stl'):=by
 have empty:∀ (v:Value) (k:Int) (st:StL),TCells w [.isl []] [v] []→0≤k→k<1000000000000→Inv w m φ (aT st)→(∀ id,φ id≠none→id<st.length)→Calls C.P g #[v, .int .i64 k] w (dK w m φ (.int k) st):=by
  intro v k st hT hk0 hk1 hi hb;refine(hM [] w v [] k (by simpa using hT) (by simp) hk0 (by simpa [bN]using hk1)).mono ?_;rintro en w' ⟨rfl,fr,_,_⟩;have hsame:∀ f,f<w.heap.size→w'.heap[f]?=w.heap[f]?:=fun f hf=>fr.same f hf (by simp)
  refine⟨_,m,φ,rfl,?_,⟨fun b o u e=>by rw[cell_of_heap (hsame b (hi.mem.lt e))];exact hi.mem b o u e,?_,hi.inj,fun id b n f e ho=>zM (hi.low id b n f e ho) fr.size⟩,⟨fr.size,fr.os,fr.tape,fr.output,fun b hb _=>hsame b hb, .refl _,fun _ _ _ _=>rfl, .refl _,fun _ _ _ _ e ho=>.inr (gL.not e ho)⟩,hb⟩
  ·simp[bN];exact .i (.lit _)
  ·intro id blk e;obtain⟨b,n,q1,q2,q3⟩:=hi.live id blk e;exact⟨b,n,q1,⟨q2.1,fun f hf=>zM (q2.2 f hf) fr.size⟩,q3.mono q2.1 (fun f hf=>hsame f (q2.2 f hf)) (.refl _) (.refl _) fun _ _ _=>rfl⟩
 rcases RH h with ⟨l,k,rfl,rfl,hk0,hk1,hrr⟩|⟨k,ha,rfl,hk0,hk1,hrr⟩
 ·injection hrr with e1 e2;subst e1;subst e2
  cases hr with
  | cons ra rb =>
   cases rb with
   | cons rk rn =>
    cases rn
    cases rk with
    | i rk =>
     cases rk
     cases ra with
     | @osl _ _ _ _ cap b n ao eφ hlc hcap ha1 ha2 =>
      by_cases hl:l=[]
      ·subst hl;have:=empty (.slice ao 0 cap) k [some (kW cells W [])] (.isl0 ha2 .nil) hk0 (by simpa [bN]using hk1) hi hb;simpa [bN,eP]using this
      ·have hln:0<l.length:=xO.2 hl;have hst:aT [some (kW cells W l)] 0=some (.tre W (l.map cells)):=by rw[kY hl];rfl
       obtain⟨hown,hok⟩:=bW hi eφ hst;have hao:=ha1 (by omega);subst hao
       cases hok with
       | @tre T kk es us F hh hlen hpos hw1 hcu hfit hnd hF hm hone =>
        have hc:=hcu.pure (jD (pE hP l));have hcl:(l.map cells).length=l.length:=by simp
        have hne:l.map cells≠[]:=fun h=>by rw[h]at hcl;simp at hcl;omega
        have hT:TCells w [.isl (l.map cells)] [.slice (some ⟨b,W*0,none⟩) l.length cap] (b::F++[]):=by
         have:=TCells.isl (w:=w) (b:=b) (k:=W) (cap:=cap) (us:=us) (G:=F) hne ⟨T,hh,hone⟩ hpos hw1 (by rw[hlen];simpa using hcap) (by omega) hc .nil
         rwa [hcl]at this
        rw[zG]at hT;refine(hM l w _ (b::F) k hT hnd hk0 hk1).mono ?_;rintro en w' ⟨rfl,fr,ht,hrl⟩;have hmlen:=dO mk sz l k;have hml:eP mk sz k l≠[]:=fun h=>by rw[h]at hmlen;simp at hmlen;omega
        obtain⟨us1,hr1,hl1⟩:=hrl b cap us rfl hl ⟨T,hh,hone⟩
        have hFo:∀ f∈b::F,n.own f:=fun f hf=>by
         rcases zR.1 hf with rfl|hf
         ·exact hown.1
         ·exact hF f hf
        have hsame:∀ f,f<w.heap.size→¬ n.own f→w'.heap[f]?=w.heap[f]?:=fun f hf hno=>fr.same f hf fun h=>hno (hFo f h)
        refine⟨_,m,φ,rfl, .i (.lit _),⟨fun b' o u e=>?_,?_,?_,fun id b n f e ho=>zM (hi.low id b n f e ho) fr.size⟩,⟨fr.size,fr.os,fr.tape,fr.output,fun f hf hfree=>hsame f hf (hfree 0 b n eφ), .refl _,fun _ _ _ _=>rfl, .refl _,fun _ _ _ _ e ho=>.inr (gL.not e ho)⟩,hb⟩
        ·rw[cell_of_heap (hsame b' (hi.mem.lt e) fun ho=>by rw[hm b' ho o]at e;cases e)];exact hi.mem b' o u e
        ·intro id blk e
         cases id with
         | succ id=>simp[aT]at e
         | zero =>
          simp only[aT]at e;rw[kY hml]at e;injection e with e;subst e;refine⟨b,n,eφ,⟨hown.1,fun f hf=>zM (hown.2 f hf) fr.size⟩,?_⟩;have hcm:((eP mk sz k l).map cells).length=l.length:=by rw[zA6,hmlen]
          have hwid:∀ e∈(eP mk sz k l).map cells,e.length=W:=fun e he=>by
           obtain⟨x,_,rfl⟩:=yF.1 he;exact hW x
          generalize hes:(eP mk sz k l).map cells=es2 at ht hcm hwid;generalize hvv:Value.slice (some ⟨b,W*0,none⟩) l.length cap=vv at ht;generalize hFF:b::F=FF at ht
          cases ht with
          | isl0=>simp at hcm;omega
          | @isl b2 k2 cap2 _ us2 G2 _ _ F2 h1 h2 h3 h4 h5 h6 h7 h8 =>
           cases h8
           injection hvv with hv1 hv2 hv3;injection hv1 with hv1;injection hv1 with hv1;subst hv1;simp only[zG,List.cons.injEq,true_and]at hFF;subst hFF;obtain⟨T1,hr1,ho1⟩:=hr1;obtain⟨T2,h2,ho2⟩:=h2;rw[h2]at hr1;injection hr1 with hr1;injection hr1 with hr1 hr2;have hus:us2=us1:=by simpa using congrArg Array.toList hr1
           subst hus
           obtain rfl:k2=W:=by
            cases es2 with
            | nil=>exact absurd rfl h1
            | cons e es=>rw[← h4 e (by simp),hwid e (by simp)]
           exact .tre (T:=T2) h2 (by rw[hl1];exact hlen) h3 h4 h7.toU (by rw[hcm,← hcl];exact hfit) hnd hF hm ho2
        ·intro i j x x' n1 n2 b1 b2 f e1 e2 _ _ _ _
         cases i with
         | succ i=>simp[aT]at e1
         | zero=>cases j with
          | zero=>rfl
          | succ j=>simp[aT]at e2
 ·injection hrr with e1 e2;subst e1;subst e2
  rcases ha with rfl|rfl
  ·cases hr with
   | cons ra rb =>
    cases rb with
    | cons rk rn =>
     cases rn
     cases rk with
     | i rk =>
      cases rk
      cases ra with
      | i ra =>
       cases ra with
       | isl0 ao cap hc=>exact empty _ k [] (.isl0 hc .nil) hk0 hk1 hi hb
       | isl hn=>exact absurd rfl hn
  ·cases hr with
   | cons ra rb =>
    cases rb with
    | cons rk rn =>
     cases rn
     cases rk with
     | i rk =>
      cases rk
      cases ra
      exact empty _ k [] (.isl0 (fun _=>rfl) .nil) hk0 hk1 hi hb
end
end Go.Av.Mk
namespace Go.Av
mutual
def Ex.fat:Ex→Prop
 | .mk _ _ _ ks=>ks.length<9223372036854775808∧Ex.WO ks
def Ex.WO:List Ex→Prop
 | []=>True
 | e::es=>e.fat∧Ex.WO es
end
theorem Ex.sU:∀ (l:List Ex),Ex.WO l↔∀ k∈l,k.fat
 | []=>by simp[Ex.WO]
 | e::es=>by simp[Ex.WO,Ex.sU es]
theorem Ex.nG (e:Ex):e.fat↔e.kids.length<9223372036854775808∧∀ k∈e.kids,k.fat:=by
 cases e;simp[Ex.fat,Ex.kids,Ex.sU]
mutual
def Ex.pR (k:Int):Ex→Ex
 | .mk _ _ _ ks=>.mk k (k+1) ⟨(k+1+1).tmod 3 == 0,k+1+1+1⟩ (Ex.iY (k+1+1+1+1) ks)
def Ex.iY (k:Int):List Ex→List Ex
 | []=>[]
 | e::es=>Ex.pR k e::Ex.iY (k+4*e.size) es
end
theorem Ex.vP:∀ (l:List Ex) (k:Int),(Ex.iY k l).length=l.length
 | [],k=>by simp[Ex.iY]
 | e::es,k=>by simp[Ex.iY,Ex.vP es]
theorem Ex.KO:∀ (l:List Ex) (k:Int) {i:Nat} {a:Ex},l[i]?=some a→(Ex.iY k l)[i]?=some (Ex.pR (k+4*(Ex.aN (l.take i):Nat)) a)
 | [],k,i,a,h=>by simp at h
 | e::es,k,0,a,h=>by simp at h;subst h;simp[Ex.iY,Ex.aN]
 | e::es,k,i+1,a,h=>by
  have:=Ex.KO es (k+4*e.size) (i:=i) (a:=a) (by simpa using h);simp only[Ex.iY,xR,yR,Ex.aN];rw[this];congr 2;push_cast;omega
theorem Ex.BN (k:Int) (a:Ex):(Ex.pR k a).cells=[.int k, .int (k+1), .bool ((k+1+1).tmod 3 == 0), .int (k+1+1+1), .isl (Ex.aA (Ex.iY (k+1+1+1+1) a.kids))]:=by
 cases a;simp[Ex.pR,Ex.cells,Ex.kids]
theorem Ex.aU:∀ l:List Ex,Ex.aA l=l.map Ex.cells
 | []=>rfl
 | e::l=>by simp[Ex.aA,Ex.aU l]
theorem Pn.aU:∀ l:List Pn,Pn.aA l=l.map Pn.cells
 | []=>rfl
 | e::l=>by simp[Pn.aA,Pn.aU l]
def AGW (n:Int):List IV:=[.int n]
def AEN (q:Int) (_:Int):Int:=q
def AB3 (_:Int):Nat:=1
theorem sQ:∀ (l:List Int),aG l=l.map AGW
 | []=>rfl
 | n::l=>by have:=sQ l;simp only[yT,← this];simp[aG,AGW]
abbrev vM (k:Int) (l:List Int):List Int:=Mk.eP AEN AB3 k l
theorem rZ:∀ l:List Int,Mk.bN AB3 l=l.length
 | []=>rfl
 | n::l=>by simp only[Mk.bN,rZ l,AB3,zN];omega
def exZ (e:Ex):Nat:=4*e.size
theorem oV:∀ l:List Ex,Mk.bN exZ l=4*Ex.aN l
 | []=>by simp[Mk.bN,Ex.aN]
 | e::l=>by simp only[Mk.bN,oV l,exZ,Ex.aN];omega
theorem sP:∀ (l:List Ex) (k:Int),Ex.iY k l=Mk.eP Ex.pR exZ k l
 | [],k=>by simp[Mk.eP,Ex.iY]
 | e::l,k=>by
  simp only[Mk.eP,Ex.iY,sP l];unfold exZ;push_cast;rfl
mutual
def Pn.mz:Pn→Nat
 | .mk _ _ es cs ks=>2+(4*Ex.aN es+(cs.length+Pn.mzL ks))
def Pn.mzL:List Pn→Nat
 | []=>0
 | p::l=>p.mz+Pn.mzL l
end
mutual
def Pn.nS (k:Int):Pn→Pn
 | .mk _ _ es cs ks=>.mk k (k+1) (Ex.iY (k+1+1) es) (vM (k+1+1+(4*Ex.aN es:Nat)) cs) (Pn.jW (k+1+1+(4*Ex.aN es:Nat)+(cs.length:Nat)) ks)
def Pn.jW (k:Int):List Pn→List Pn
 | []=>[]
 | p::l=>Pn.nS k p::Pn.jW (k+p.mz) l
end
theorem o5:∀ (l:List Pn) (k:Int),Pn.jW k l=Mk.eP Pn.nS Pn.mz k l
 | [],k=>by simp[Mk.eP,Pn.jW]
 | e::l,k=>by simp only[Mk.eP,Pn.jW,o5 l]
theorem oU:∀ l:List Pn,Mk.bN Pn.mz l=Pn.mzL l
 | []=>by simp[Mk.bN,Pn.mzL]
 | e::l=>by simp only[Mk.bN,oU l,Pn.mzL]
theorem Pn.VE (p:Pn):p.mz=2+(4*Ex.aN p.exprs+(p.cols.length+Pn.mzL p.kids)):=by cases p;simp[Pn.mz,Pn.exprs,Pn.cols,Pn.kids]
theorem Pn.BL (k:Int) (p:Pn):(Pn.nS k p).cells=[.int k, .int (k+1), .isl (Ex.aA (Ex.iY (k+1+1) p.exprs)), .isl (aG (vM (k+1+1+(4*Ex.aN p.exprs:Nat)) p.cols)), .isl (Pn.aA (Pn.jW (k+1+1+(4*Ex.aN p.exprs:Nat)+(p.cols.length:Nat)) p.kids))]:=by
 cases p;simp[Pn.nS,Pn.cells,Pn.exprs,Pn.cols,Pn.kids]
end Go.Av
namespace Go.Av.Mk
open Go Go.Av
section
variable {X:Type} {cells:X→List IV} {W:Nat} {z:List IV}
@[simp] theorem AHX (hp:∀ x,lI (cells x)=true) (l:List X):wH W 0 l.length (some (kW cells W l))=some (l.map cells):=by
  unfold kW;split
  ·rename_i h;subst h;simp[wH,iA]
  ·simp[wH,pE hp l]
def sS (cells:X→List IV) (W:Nat) (z:List IV) (l:List X) (n:Nat):Nat→Blk
 | 0=>.arr W (List.replicate n z)
 | i+1=>.tre W ((l.take (i+1)).map cells++List.replicate (n-(i+1)) z)
theorem KZ {l:List X} {n:Nat} (h:l.length=n):sS cells W z l n n=kW cells W l:=by
 subst h
 cases hl:l.length with
 | zero=>have:=zY.1 hl;subst this;simp[sS,kW]
 | succ n =>
  have hT:l.take (n+1)=l:=zX (by omega);have hne:l≠[]:=fun h=>by subst h;simp at hl
  simp[sS,kY hne,hT]
@[simp] theorem AEM (r:Nat→Option Nat) (l:List X) (n:Nat):∀ i,tK r (some (sS cells W z l n i))=some (sS cells W z l n i)
  | 0=>rfl
  | _+1=>rfl
@[simp] theorem ABD (l:List X) (n:Nat):∀ i,fJ (some (sS cells W z l n i))=[]
  | 0=>rfl
  | _+1=>rfl
theorem KY {l:List X} {n i:Nat} {a:X} (ha:l[i]?=some a) (hn:i<n) (hz:lM z=true) (hzl:z.length=(cells a).length) (hl:uC (cells a)=false) (id:Nat) (st:Store) :
 dQ id W i 0 (cells a) st (some (sS cells W z l n i))=some (upd st id (some (sS cells W z l n (i+1)))):=by
 have hil:=(zZ.1 ha).1;have hS:(l.take i).map cells++[cells a]=(l.take (i+1)).map cells:=by rw[aO ha];simp
 have hD:((l.take i).map cells).length=i:=by simp;omega
 have g1:=PT (n:=n) (z:=z) hD hn;have g2:=PS (n:=n) (z:=z) (x:=cells a) hD hn;have g3:splice z 0 (cells a)=some (cells a):=lV hzl;have g4:splice (jO z) 0 (cells a)=some (cells a):=lV (by rw[rM];exact hzl);rw[hS]at g2;simp only[List.map_take]at g1 g2
 cases i with
 | zero =>
  simp at g1 g2;simp[sS,dQ,pY,bnd,tst,g1,g3,g4,hl,g2,hz]
 | succ i=>simp[sS,dQ,bnd,tst,g1,g2,g3]
end
end Go.Av.Mk
namespace Go.Av
@[simp] theorem Ex.uM (e:Ex):lI e.cells=true:=by rw[Ex.aB];rfl
@[simp] theorem Pn.uM (p:Pn):lI p.cells=true:=by rw[Pn.aB];rfl
@[simp] theorem Ex.rD:∀ l:List Ex,kN (Ex.aA l)=true
  | []=>by simp[Ex.aA,kN]
  | e::l=>by simp[Ex.aA,kN,Ex.rD l]
@[simp] theorem Pn.rD:∀ l:List Pn,kN (Pn.aA l)=true
  | []=>by simp[Pn.aA,kN]
  | p::l=>by simp[Pn.aA,kN,Pn.rD l]
def tP (p:Pn) (j:Nat):AV:=.agg [.int p.kind, .int p.table, .osl j 5 0 p.exprs.length, .osl (j+1) 1 0 p.cols.length, .osl (j+2) 5 0 p.kids.length]
def tPB (p:Pn):StL:=[some (Mk.kW Ex.cells 5 p.exprs),some (.arr 1 (aG p.cols)),some (Mk.kW Pn.cells 5 p.kids)]
def tE (e:Ex) (j:Nat):AV:=.agg [.int e.kind, .int e.col, .bool e.val.null, .int e.val.n, .osl j 5 0 e.kids.length]
end Go.Av
namespace Go.Av.V.Sx
open Go Go.Av Go.Av.V Go.Av.Mk Go.Proofs Go.Proofs.Ytjdfjgmebalaaaa
set_option maxRecDepth 4000
def O5 (e:Ex):AS:={ env:=[(0, .i (.iref e.cells))],st:=[] }
def XO (e:Ex):AS:={ env:=[(0, .i (.iref e.cells)),(2, .own 0 0),(3, .own 1 0),(4, .junk),(5, .junk),(6, .junk),(13, .junk),(37, .junk),(38, .junk),(39, .junk)],st:=[some (.box zc),some (.box (jE e.cells))] }
def SL (b3:Nat) (todo X:KL):AS :=
 { env:=[(0, .junk),(2, .own 0 0),(3, .i (ptr (b3,0))),(4, .osl 1 1 0 todo.length),(5, .junk),(6, .junk),(13, .junk),(37, .junk),(38, .junk),(39, .junk)],st:=[some (.box zc),some (.arr 1 ((todo++X).map fun k=>[ptr k.1]))] }
theorem BC:∀ (l:KL),∀ c∈(l.map fun k=>[ptr k.1]).flatten,∃ v,c=.lit v
 | [],c,h=>by simp at h
 | k::l,c,h=>by
  simp only[yT,zF,zW,xL]at h
  rcases h with rfl|h
  ·exact⟨_,rfl⟩
  ·exact BC l c h
def PP (b3:Nat) (b o n:Nat) (x:Ex) (ES:List (List IV)) (env:Nat→AV) (st:Store):Prop :=
 env 2=.own 0 0∧env 3=.i (ptr (b3,0))∧env 4=.osl 1 1 0 n∧env 5=.i (ptr (b,o))∧env 32=.i (ptr (b,o+4))∧st 0=some (.box zc)∧st 1=some (.arr 1 ES) ∧
  ((env 30=.nils∧x.kids=[])∨∃ id,env 30=.osl id 5 0 x.kids.length∧x.kids≠[]∧st id=some (.arr 5 (Ex.aA x.kids))∧2≤id)
def RW (init:KL) (b' i:Nat):List (List IV):=(init.map fun k=>[ptr k.1])++(List.range i).map fun j=>[ptr (b',j*5)]
theorem M0 (init:KL) (b' i:Nat):(RW init b' i).length=init.length+i:=by simp[RW]
theorem E5 (init:KL) (b' i:Nat):RW init b' i++[[ptr (b',i*5)]]=RW init b' (i+1):=by simp[RW,zB3]
theorem lZ (b:Nat):∀ (o:Nat) (l:List Ex),(bB b o l).map (fun k=>[ptr k.1])=(List.range l.length).map fun j=>[ptr (b,o+j*5)]
 | _,[]=>by simp[bB]
 | o,a::l=>by
  simp only[bB,yT,lZ b (o+5) l,zN,zB0,List.map_map];simp only[List.cons.injEq,Nat.zero_mul,yL,true_and];apply List.map_congr_left;intro j _;simp only[Function.comp,Nat.succ_eq_add_one];rw[show o+5+j*5=o+(j+1)*5 by omega]
theorem mD (b:Nat):∀ (o:Nat) (l:List Ex),(bB b o l).length=l.length
 | _,[]=>rfl
 | o,a::l=>by simp[bB,mD b (o+5) l]
theorem lY (b:Nat):∀ (o:Nat) (l:List Ex),((bB b o l).map fun k=>k.2.1.size).sum=Ex.aN l
 | _,[]=>rfl
 | o,a::l=>by simp[bB,Ex.aN,lY b (o+5) l]
def YS (b3 b' cap:Nat) (x:Ex) (init:KL) (ES:List (List IV)) (i:Nat):AS :=
 { env:=[(0, .junk),(2, .own 0 0),(3, .i (ptr (b3,0))),(4,if i=0 then .osl 1 1 0 init.length else .osl 2 1 0 (init.length+i)),(5, .i (.iref [.int x.kind, .int x.col, .bool x.val.null, .int x.val.n, .lit (.slice (some ⟨b',0,none⟩) x.kids.length cap)])),(6,jk i (.int (i-1))),(13, .junk),(37, .int x.kids.length),(38, .int i),(39,jk i (.bool true))],
   st:=some (.box zc)::if i=0 then [some (.arr 1 ES)]else [none,some (.arr 1 (RW init b' i))] }
set_option maxHeartbeats 1000000
theorem NT {e:Ex} (he:e.size<1000000000) (hne:e.kids≠[]) {wi:World} {mi:Mem} {φ:Pl} {vs:List Value} (hi:Inv wi mi φ (aT [])) (hr:RepL mi φ [.i (.iref e.cells)] vs) (h0:∀ id,φ id≠none→id<0) :
 Calls Try.prog 53 vs.toArray wi (dK wi mi φ (tE e 0) [some (kW Ex.cells 5 e.kids)]):=by
 obtain rfl:φ=fun _=>none:=by
  funext id
  cases h:φ id with
  | none=>rfl
  | some p=>exact absurd (h0 id (by rw[h];simp)) (xA _)
 refine calls_of_wp (fn:=Try.f53) Try.func53 rfl ?_
 have g0:GG wi mi 52 (fun id=>id<(O5 e).st.length) [] (aQ (O5 e).env) (aT (O5 e).st) { tmps:=vs.toArray++Array.replicate (52-vs.toArray.size) undef,defers:=[] } wi:=by
  refine⟨⟨mi,fun _=>none,hi,?_, .refl _ _ _,fun id h=>absurd rfl h,fun k hk=>by simp at hk⟩,by simp;omega,rfl⟩;intro t;have:=tC (m:=mi) (φ:=fun _=>none) (52-vs.toArray.size) hr t
  cases t with
  | zero=>simpa [O5,aQ,wL]using this
  | succ t=>simp only[O5,aQ];simp;exact .junk _
 refine wp_seq (wp_mono (GG.gH fH (G:=GS 53) (S:=O5 e) (e:=.normal) (S':={ XO e with env:=[(0, .i (.iref e.cells)),(2, .own 0 0),(3, .junk),(4, .junk),(5, .junk),(6, .junk),(13, .junk),(37, .junk),(38, .junk),(39, .junk)],st:=[some (.box zc)] }) (by kernel_rfl) (by simp[O5,zc]) g0) ?_);rintro _ a1 w1 ⟨rfl,g1⟩;refine wp_seq (wp_mono (GG.gH fH (G:=GS 53) (S:={ XO e with env:=[(0, .i (.iref e.cells)),(2, .own 0 0),(3, .junk),(4, .junk),(5, .junk),(6, .junk),(13, .junk),(37, .junk),(38, .junk),(39, .junk)],st:=[some (.box zc)] }) (e:=.normal) (S':=XO e) (by kernel_rfl) (by simp[XO,zc]) g1) ?_);rintro _ a2 w2 ⟨rfl,g2⟩
 obtain⟨b3,g3⟩:=g2.pub (u:=3) (id:=1) (e:=e) (st':=aT [some (.box zc)]) (ok':=fun id=>id<1) rfl rfl (by
  intro i blk h
  cases i with
  | zero=>simp[aT]at h;subst h;exact⟨by omega,rfl,by simp[fD,zc]⟩
  | succ i=>simp[aT]at h) (by
  intro i h
  cases i with
  | zero=>omega
  | succ i=>simp[aT]at h)
 have g3:=g3 (aQ [(2, .own 0 0),(3, .i (ptr (b3,0)))]) (by
  intro t;simp only[aQ];by_cases h2:t=2
  ·subst h2;exact .inr (.inr ⟨rfl,by simp[XO,aQ,iF,aT]⟩)
  ·by_cases h3:t=3
   ·subst h3;exact .inr (.inl ⟨rfl,rfl⟩)
   ·simp[h2,h3])
 refine wp_seq (wp_mono (GG.gH fH (G:=GS 53) (S:={ env:=[(2, .own 0 0),(3, .i (ptr (b3,0)))],st:=[some (.box zc)] }) (e:=.normal) (S':=SL b3 [((b3,0),(e,none))] []) (by kernel_rfl) (by simp[SL,ptr,zc]) g3) ?_);rintro _ a3 w3 ⟨rfl,g4⟩;refine wp_seq (wp_block ?_);refine rO (fun n a w=>∃ todo X K:KL,WL (b3,0) e todo K∧(todo.map fun k=>k.2.1.size).sum=n∧n<1000000000∧GG wi mi 52 (fun id=>id<(SL b3 todo X).st.length) K (aQ (SL b3 todo X).env) (aT (SL b3 todo X).st) a w) ?_ (n:=e.size) ⟨[((b3,0),(e,none))],[],[((b3,0),(e,none))], .start b3 e,by simp,he,g4⟩;rintro n a w ⟨todo,X,K,hWL,hsum,hn,g⟩
 rcases List.eq_nil_or_concat todo with rfl|⟨init,k,rfl⟩
 ·refine wp_mono (GG.gH fH (G:=GS 53) (S:=SL b3 [] X) (e:=.exit 0) (S':={ env:=[(0, .junk),(2, .own 0 0),(3, .i (ptr (b3,0))),(4, .osl 1 1 0 0),(5, .junk),(6, .junk),(13, .bool false),(37, .junk),(38, .junk),(39, .junk)],st:=[some (.box zc),some (.arr 1 (X.map fun k=>[ptr k.1]))] }) (by kernel_rfl) (by simp[SL,ptr,zc]) g) ?_;rintro _ a5 w5 ⟨rfl,g5⟩;simp only[gK,Exit.then,Exit.inBlock,if_true];obtain⟨⟨m5,φ5,hi5,henv5,hadv5,hok5,hK5⟩,hsz5,hdf5⟩:=g5;obtain⟨v,F,hx5,ht5,hnd5,hF5⟩:=hWL.tree hK5 hi5.mem e (b3,0) hWL.hroot;have h05:∀ id,φ5 id≠none→id<2:=hok5
  have hroot:IAt m5 b3 0 [.int e.kind, .int e.col, .bool e.val.null, .int e.val.n, .lit v]:=by
   have ho:=o7 hx5.kids;exact .cons (by simpa using hx5.c0) (.lit _) rfl (.cons hx5.c1 (.lit _) rfl (.cons hx5.c2 (.lit _) rfl (.cons hx5.c3 (.lit _) rfl (.cons hx5.c4 (.lit _) ho (.nil _ _)))))
  have hp3:a5.tmps.getD 3 undef=.pointer (some ⟨b3,0,none⟩):=by
   have h3:Rep m5 φ5 (.i (ptr (b3,0))) (a5.tmps.getD 3 undef):=henv5 3;exact h3.bO
  have r5:E8 [] w5 m5 φ5 52 2 { env:=[(2, .own 0 0),(3, .i (.iref [.int e.kind, .int e.col, .bool e.val.null, .int e.val.n, .lit v]))],st:=[some (.box zc),some (.arr 1 (X.map fun k=>[ptr k.1]))] } a5 w5:=by
   refine⟨⟨⟨m5,φ5,by simpa using hi5,fun t=>?_, .refl _ _ _,hok5, .nil _ _ _⟩,hsz5,hdf5⟩,zQ _⟩;simp only[aQ];by_cases h2:t=2
   ·subst h2;simp only[if_true];exact henv5 2
   ·by_cases h3:t=3
    ·subst h3;simp only[if_true];rw[hp3];exact .i (.iref hroot)
    ·simp only[h2,h3,if_false];exact .junk _
  refine wp_mono (mF fH h05 (G:=GS 53) (S:={ env:=[(2, .own 0 0),(3, .i (.iref [.int e.kind, .int e.col, .bool e.val.null, .int e.val.n, .lit v]))],st:=[some (.box zc),some (.arr 1 (X.map fun k=>[ptr k.1]))] }) (e:=.ret) (S':={ env:=[(0, .junk),(2, .own 0 0),(3, .i (.iref [.int e.kind, .int e.col, .bool e.val.null, .int e.val.n, .lit v])),(4, .junk),(5, .junk),(6, .junk),(13, .junk),(37, .junk),(38, .junk),(39, .junk)],st:=[some (.box [.int e.kind, .int e.col, .bool e.val.null, .int e.val.n, .i (.lit v)]),some (.arr 1 (X.map fun k=>[ptr k.1]))] }) (by kernel_rfl) (by simp[zc]) r5) ?_;rintro _ a6 w6 ⟨rfl,r6⟩
  obtain⟨vv,k1,k2⟩:=jM (C:=C1) (fn:=Try.f53) (keep:=false) (na:=2) (S:={ env:=[(0, .junk),(2, .own 0 0),(3, .i (.iref [.int e.kind, .int e.col, .bool e.val.null, .int e.val.n, .lit v])),(4, .junk),(5, .junk),(6, .junk),(13, .junk),(37, .junk),(38, .junk),(39, .junk)],st:=[some (.box [.int e.kind, .int e.col, .bool e.val.null, .int e.val.n, .i (.lit v)]),some (.arr 1 (X.map fun k=>[ptr k.1]))] }) (r:=.i (.agg [.int e.kind, .int e.col, .bool e.val.null, .int e.val.n, .lit v])) (stl':=[some (.box [.int e.kind, .int e.col, .bool e.val.null, .int e.val.n, .i (.lit v)]),some (.arr 1 (X.map fun k=>[ptr k.1]))]) h05 r6 (by
   show finish C1 false [ResultVar.cell 2 74] 2 _=_
   simp)
  refine⟨r6.1.defers,vv,k1,?_⟩;obtain⟨y,m6,φ6,hy,j1,j2,j3,j4⟩:=k2;injection hy with hy;subst hy
  have hvv:vv=.agg [.int .i64 e.kind, .int .i64 e.col, .bool e.val.null, .int .i64 e.val.n,v].toArray:=by
   cases j1 with
   | i r=>cases r with
    | agg hc =>
     have:=VZ (vs:=[.int .i64 e.kind, .int .i64 e.col, .bool e.val.null, .int .i64 e.val.n,v]) hc;rw[this]
  subst hvv;have hall:=hadv5.trans j3;have hwi:∀ f,f<wi.heap.size→w6.heap[f]?=wi.heap[f]?:=fun f hf=>hall.block f hf fun id b n e=>by cases e
  have ht6:=ht5.mono (w':=w6) fun f hf=>j3.block f (tlt ht5 f hf) (hF5 f hf).2.2
  have hlt6:=tlt ht6;have hlen:(Ex.aA e.kids).length=e.kids.length:=by simp
  have hcne:Ex.aA e.kids≠[]:=fun h=>by rw[h]at hlen;simp at hlen;exact hne (zY.1 hlen.symm)
  generalize hes:Ex.aA e.kids=es at ht6 hlen hcne
  cases ht6 with
  | isl0=>exact absurd rfl hcne
  | @isl b' kk cap _ us G _ _ F1 t1 t2 t3 t4 t5 t6 t7 t8 =>
   cases t8
   obtain rfl:kk=5:=by
    cases hks:e.kids with
    | nil=>exact absurd hks hne
    | cons a l=>rw[← t4 a.cells (by rw[← hes,hks];simp[Ex.aA]),Ex.aB];rfl
   simp only[zG]at hnd5 hF5 hlt6;obtain⟨T,t2,t9⟩:=t2;have hge:∀ f∈b'::G,wi.heap.size≤f:=fun f hf=>(hF5 f hf).2.1
   have hmi:∀ f∈b'::G,∀ o,mi f o=none:=fun f hf o=>by
    cases hx:mi f o with
    | none=>rfl
    | some u=>have:=hi.mem.lt hx;have:=hge f hf;omega
   refine⟨_,mi,fun id=>if id=0 then some (b',⟨us.length,fun f=>f∈b'::G⟩)else none,rfl,?_,⟨fun b o u hu=>?_,?_,?_,fun id b n f h1 ho=>by
    by_cases hid:id=0
    ·subst hid;simp only[if_true]at h1;injection h1 with h1;injection h1 with e1 e2;subst e2;exact hlt6 f ho
    ·simp[hid]at h1⟩,⟨hall.size,hall.os,hall.tape,hall.output,fun f hf _=>hwi f hf, .refl _,fun _ _ _ _=>rfl,(fun _ _ _ h=>by cases h),?_⟩,?_⟩
   ·refine .agg (.cons (.i (.lit _)) rfl (.cons (.i (.lit _)) rfl (.cons (.i (.lit _)) rfl (.cons (.i (.lit _)) rfl (.cons ?_ rfl .nil)))));rw[hlen];exact .osl (n:=⟨us.length,fun f=>f∈b'::G⟩) rfl (by omega) (by simpa using t5) (fun _=>by simp) (fun h=>by cases h)
   ·rw[cell_of_heap (hwi b (hi.mem.lt hu))];exact hi.mem b o u hu
   ·intro id blk hb
    cases id with
    | succ id=>simp[aT]at hb
    | zero =>
     simp only[aT]at hb;rw[kY hne,← Ex.aU,hes]at hb;injection hb with hb;subst hb;refine⟨b',⟨us.length,fun f=>f∈b'::G⟩,rfl,⟨by simp,fun f hf=>hlt6 f hf⟩,?_⟩;exact .tre (T:=T) t2 rfl (by omega) t4 t7.toU (by show 5*es.length≤us.length;omega) hnd5 (fun f hf=>List.mem_cons_of_mem _ hf) hmi t9
   ·intro i j x x' n1 n2 b1 b2 f h1 h2 _ _ _ _
    cases i with
    | succ i=>simp[aT]at h1
    | zero=>cases j with
     | zero=>rfl
     | succ j=>simp[aT]at h2
   ·intro id b n f h1 ho;by_cases hid:id=0
    ·subst hid;simp only[if_true]at h1;injection h1 with h1;injection h1 with e1 e2;subst e2;exact .inl (hge f ho)
    ·simp[hid]at h1
   ·intro id hne';by_cases hid:id=0
    ·subst hid;simp
    ·simp[hid]at hne'
 ·clear g0 g4 g3 g1 g2;obtain⟨⟨b,o⟩,x,nn⟩:=k;obtain rfl:nn=none:=(hWL.sub ((b,o),(x,nn)) (by simp)).2;rw[List.concat_eq_append]at hWL hsum g
  have hlen:∀ l:KL,l.length≤(l.map fun k=>k.2.1.size).sum:=by
   intro l
   induction l with
   | nil=>simp
   | cons a l ih=>have:=Ex.jC a.2.1;simp;omega
  have hil:=hlen init;simp at hsum;have hxk:((b,o),(x,none))∈K:=(hWL.sub _ (by simp)).1;have hxs:=Ex.size_eq x;have hkl:=Ex.dM x.kids;have hne:¬ ((init.length:Int)+1≤0):=by omega
  have hpos:(0:Int)<(init.length:Int)+1:=by omega
  have w1:IntKind.i64.wrap (init.length:Int)=init.length:=wrO;generalize hES:((init++[((b,o),((x,none):Nd))]++X:KL).map fun k=>[ptr k.1])=ES
  have hnth:gB ES init.length=some [ptr (b,o)]:=by
   rw[eY,← hES];simp
  have hlit:∀ c∈ES.flatten,∃ v,c=.lit v:=by rw[← hES];exact BC _
  have hlt:(init.length:Int)<(init.length:Int)+1:=by omega
  have hlt2:(init.length:Int)≤(init.length:Int)+1:=by omega
  refine wp_seq (wp_mono (GG.gH fH (G:=GS 53) (S:=SL b3 (init++[((b,o),((x,none):Nd))]) X) (e:=.normal) (S':={ env:=[(0, .junk),(2, .own 0 0),(3, .i (ptr (b3,0))),(4, .osl 1 1 0 (init.length+1)),(5, .junk),(6, .junk),(13, .bool true),(37, .junk),(38, .junk),(39, .junk)],st:=[some (.box zc),some (.arr 1 ES)] }) (by kernel_rfl) (by simp only[SL,hES];simp[ptr,zc,hpos]) (by simpa using g)) ?_);rintro _ a5 w5 ⟨rfl,g5⟩;clear g;refine wp_block ?_;refine wp_seq (wp_mono (GG.gH fH (G:=GS 53) (S:={ env:=[(0, .junk),(2, .own 0 0),(3, .i (ptr (b3,0))),(4, .osl 1 1 0 (init.length+1)),(5, .junk),(6, .junk),(13, .bool true),(37, .junk),(38, .junk),(39, .junk)],st:=[some (.box zc),some (.arr 1 ES)] }) (e:=.normal) (S':={ env:=[(0, .junk),(2, .own 0 0),(3, .i (ptr (b3,0))),(4, .osl 1 1 0 (init.length+1)),(5,(.i (ptr (b,o)))),(6, .junk),(13, .bool true),(37, .junk),(38, .junk),(39, .junk)],st:=[some (.box zc),some (.arr 1 ES)] }) (by kernel_rfl) (by simp only[ptr]at hnth;simp[ptr,zc,hnth,w1,hlt]) g5) ?_);rintro _ a6 w6 ⟨rfl,g6⟩;clear g5;refine wp_seq (wp_mono (GG.gH fH (G:=GS 53) (S:={ env:=[(0, .junk),(2, .own 0 0),(3, .i (ptr (b3,0))),(4, .osl 1 1 0 (init.length+1)),(5,(.i (ptr (b,o)))),(6, .junk),(13, .bool true),(37, .junk),(38, .junk),(39, .junk)],st:=[some (.box zc),some (.arr 1 ES)] }) (e:=.normal) (S':={ env:=[(0, .junk),(2, .own 0 0),(3, .i (ptr (b3,0))),(4, .osl 1 1 0 init.length),(5,(.i (ptr (b,o)))),(6, .junk),(13, .bool true),(37, .junk),(38, .junk),(39, .junk)],st:=[some (.box zc),some (.arr 1 ES)] }) (by kernel_rfl) (by simp[ptr,zc,w1,hlt2]) g6) ?_);rintro _ a7 w7 ⟨rfl,g7⟩;clear g6
  refine wp_seq (GG.region fH (os1:=[_,_]) (os2:=[_,_,_,_,_,_]) (u:=26) (PP:=PP b3 b o init.length x ES) rfl (by
   have h:∀ ops:Array Oper,ops.all (gJ 52)=true→∀ o∈ops,gJ 52 o=true:=fun ops h o ho=>yJ.1 h o ho
   exact h _ (by kernel_rfl)) g7 hxk ?_ ?_)
  ·rw[Ex.aB];by_cases hx:x.kids=[]
   ·simp[ptr,zc,hx,PP,Ex.aA,WV]
   ·simp[ptr,zc,PP,Q5 hx (by omega),hx]
  ·rintro env st a8 w8 ⟨p2,p3,p4,p5,p32,q0,q1,p30⟩ g8;clear g7
   obtain⟨w9,b',ao,cap,e1,e2,hrun,hG,hfr⟩:=GG.turn (C:=C1) (ok':=fun id=>id<2) (st':=aT [some (.box zc),some (.arr 1 ES)]) (u:=30) (t:=28) g8 (by simp) hi.mem hxk (fun k hk he'=>hWL.nolit ((b,o),(x,none)) (by simp) k hk he') rfl (by
    rcases p30 with ⟨h1,h2⟩|⟨id,h1,h2,h3,h4⟩
    ·refine .inl ⟨h1,h2,?_⟩;intro i blk h
     rcases i with _|_|i
     ·simp[aT]at h;subst h;exact q0
     ·simp[aT]at h;subst h;exact q1
     ·simp[aT]at h
    ·refine .inr ⟨id,h1,h2,h3,?_⟩;intro i blk h
     rcases i with _|_|i
     ·simp[aT]at h;subst h;exact⟨by omega,q0⟩
     ·simp[aT]at h;subst h;exact⟨by omega,q1⟩
     ·simp[aT]at h) (by
    intro i blk h
    rcases i with _|_|i
    ·simp[aT]at h;subst h;simp[fD,zc]
    ·simp[aT]at h;subst h;exact hlit
    ·simp[aT]at h) (by
    intro i h
    rcases i with _|_|i
    ·omega
    ·omega
    ·simp[aT]at h)
   have ev5:=g8.RN (t:=5) p5;have ev32:=g8.RN (t:=32) p32
   refine EN (C:=C1) (w':=w9) rfl (by
    show(Instr.storeAt 28 (a8.tmps.getD 32 undef) (a8.tmps.getD 30 undef)).run C1.P w8=_
    rw[ev32];exact hrun) ?_
   have g9:=hG (aQ [(2, .own 0 0),(3, .i (ptr (b3,0))),(4, .osl 1 1 0 init.length),(5,(.i (.iref [.int x.kind, .int x.col, .bool x.val.null, .int x.val.n, .lit (.slice ao x.kids.length cap)])))]) (by
    intro t;simp only[aQ];by_cases h2:t=2
    ·subst h2;exact .inr (.inr ⟨by simp[p2],by rw[p2];simp[iF,aT]⟩)
    by_cases h3:t=3
    ·subst h3;exact .inr (.inr ⟨by simp[p3],by rw[p3];simp[iF,ptr]⟩)
    by_cases h4:t=4
    ·subst h4;exact .inr (.inr ⟨by simp[p4],by rw[p4];simp[iF,aT]⟩)
    by_cases h5:t=5
    ·subst h5;exact .inr (.inl ⟨ev5,by simp⟩)
    ·simp[h2,h3,h4,h5])
   clear hG g8;show Code.wp _ _ _ _ _;refine wp_seq (wp_mono (GG.gH fH (G:=GS 53) (S:={ env:=[(2, .own 0 0),(3, .i (ptr (b3,0))),(4, .osl 1 1 0 init.length),(5,(.i (.iref [.int x.kind, .int x.col, .bool x.val.null, .int x.val.n, .lit (.slice ao x.kids.length cap)])))],st:=[some (.box zc),some (.arr 1 ES)] }) (e:=.normal) (S':={ env:=[(0, .junk),(2, .own 0 0),(3, .i (ptr (b3,0))),(4, .osl 1 1 0 init.length),(5,(.i (.iref [.int x.kind, .int x.col, .bool x.val.null, .int x.val.n, .lit (.slice ao x.kids.length cap)]))),(6, .junk),(13, .junk),(37, .int x.kids.length),(38, .int 0),(39, .junk)],st:=[some (.box zc),some (.arr 1 ES)] }) (by kernel_rfl) (by simp[ptr,zc]) g9) ?_);rintro _ a10 w10 ⟨rfl,g10⟩;clear g9;by_cases hx:x.kids=[]
   ·refine wp_mono (GG.gH fH (G:=GS 53) (S:={ env:=[(0, .junk),(2, .own 0 0),(3, .i (ptr (b3,0))),(4, .osl 1 1 0 init.length),(5,(.i (.iref [.int x.kind, .int x.col, .bool x.val.null, .int x.val.n, .lit (.slice ao x.kids.length cap)]))),(6, .junk),(13, .junk),(37, .int x.kids.length),(38, .int 0),(39, .junk)],st:=[some (.box zc),some (.arr 1 ES)] }) (e:=.normal) (S':={ env:=[(0, .junk),(2, .own 0 0),(3, .i (ptr (b3,0))),(4, .osl 1 1 0 init.length),(5,(.i (.iref [.int x.kind, .int x.col, .bool x.val.null, .int x.val.n, .lit (.slice ao x.kids.length cap)]))),(6, .junk),(13, .junk),(37, .int x.kids.length),(38, .int 0),(39, .bool false)],st:=[some (.box zc),some (.arr 1 ES)] }) (by kernel_rfl) (by
     simp only[hx,xZ];simp;rw[aF]
     simp[ptr,zc]) g10) ?_
    rintro _ a11 w11 ⟨rfl,g11⟩;simp only[gK,Exit.then,Exit.inBlock];refine⟨n-1,by omega,init,((b,o),(x,none))::X,K++U1 b o x b' cap,by have:=hWL.step (b':=b') (cap:=cap) hfr;rwa [hx,show bB b' 0 []=[]from rfl,zG]at this,?_,by omega,?_⟩
    ·rw[hx]at hxs;simp[Ex.aN]at hxs;omega
    ·have hES2:((init++((b,o),((x,none):Nd))::X:KL).map fun k=>[ptr k.1])=ES:=by rw[← hES];simp
     simp only[SL,hES2]
     exact g11.envTo (by
      intro t;simp only[aQ];by_cases h2:t=2
      ·subst h2;simp
      by_cases h3:t=3
      ·subst h3;simp
      by_cases h4:t=4
      ·subst h4;simp
      ·simp[h2,h3,h4])
   ·obtain rfl:=e2 hx;have hET:ES.take init.length=RW init b' 0:=by rw[← hES];simp[RW]
    have hEL:init.length≤ES.length:=by rw[← hES];simp
    have hlim:∀ i,i≤x.kids.length→(init.length+i+1)*8≤140737488355328:=fun i hi=>by omega
    have hk0:x.kids.length≠0:=fun h=>hx (zY.1 h)
    refine wp_mono (GG.gH fH (G:=GS 53) (S:={ env:=[(0, .junk),(2, .own 0 0),(3, .i (ptr (b3,0))),(4, .osl 1 1 0 init.length),(5,(.i (.iref [.int x.kind, .int x.col, .bool x.val.null, .int x.val.n, .lit (.slice (some ⟨b',0,none⟩) x.kids.length cap)]))),(6, .junk),(13, .junk),(37, .int x.kids.length),(38, .int 0),(39, .junk)],st:=[some (.box zc),some (.arr 1 ES)] }) (e:=.normal) (S':={ env:=[(0, .junk),(2, .own 0 0),(3, .i (ptr (b3,0))),(4, .osl 2 1 0 (init.length+x.kids.length)),(5,(.i (.iref [.int x.kind, .int x.col, .bool x.val.null, .int x.val.n, .lit (.slice (some ⟨b',0,none⟩) x.kids.length cap)]))),(6, .int (x.kids.length-1)),(13, .junk),(37, .int x.kids.length),(38, .int x.kids.length),(39, .bool false)],st:=[some (.box zc),none,some (.arr 1 (RW init b' x.kids.length))] }) (by kernel_rfl) (by
     simp;rw[aV (YS b3 b' cap x init ES) x.kids.length (by simp[YS])]
     ·rw[aF];simp[YS,hk0,dI hk0,zc,ptr]
     ·intro i hi;have w2:IntKind.i64.wrap ((i:Int)+1)=i+1:=wrO;have hi0:(i:Int)<x.kids.length:=by omega
      by_cases h0:i=0
      ·subst h0;have hl:(init.length+1)*8≤140737488355328:=by omega
       have hR:RW init b' 0++[[.lit (.pointer (some ⟨b',0,none⟩))]]=RW init b' 1:=by simpa [ptr]using E5 init b' 0
       simp[YS,zc,ptr,U6,hi,hET,hEL,hl,hR]
      ·have hl:=hlim i (by omega);have hT:(RW init b' i).take (init.length+i)=RW init b' i:=zX (by rw[M0];omega);have hR:RW init b' i++[[.lit (.pointer (some ⟨b',i*5,none⟩))]]=RW init b' (i+1):=by simpa [ptr]using E5 init b' i
       simp[YS,h0,dI h0,zc,ptr,w2,hi,hT,M0,hl,hR,← Nat.add_assoc]) g10) ?_
    rintro _ a11 w11 ⟨rfl,g11⟩;simp only[gK,Exit.then,Exit.inBlock];refine⟨n-1,by omega,init++bB b' 0 x.kids,[],K++U1 b o x b' cap,hWL.step hfr,?_,by omega,?_⟩
    ·rw[yH,List.sum_append,lY];omega
    ·have g12:=g11.settle [2,3,4]
     have hR:List.map (fun k:(Nat×Nat)×Nd=>[ptr k.1]) (init++bB b' 0 x.kids++[])=RW init b' x.kids.length:=by
      rw[zG,yH,lZ];simp[RW]
     have hl:(init++bB b' 0 x.kids).length=init.length+x.kids.length:=by rw[zL,mD]
     simp only[SL,hR,hl]
     have hs:Av.settle [2,3,4] 0 (aQ [(0, .junk),(2, .own 0 0),(3, .i (ptr (b3,0))),(4, .osl 2 1 0 (init.length+x.kids.length)),(5, .i (.iref [.int x.kind, .int x.col, .bool x.val.null, .int x.val.n, .lit (.slice (some ⟨b',0,none⟩) x.kids.length cap)])),(6, .int (x.kids.length-1)),(13, .junk),(37, .int x.kids.length),(38, .int x.kids.length),(39, .bool false)]) (aT [some (.box zc),none,some (.arr 1 (RW init b' x.kids.length))])={ env:=[(2, .own 0 0),(3, .i (ptr (b3,0))),(4, .osl 1 1 0 (init.length+x.kids.length))],st:=[some (.box zc),some (.arr 1 (RW init b' x.kids.length))] }:=by
      simp[zc,ptr]
     rw[hs]at g12
     exact g12.envTo (by
      intro t;simp only[aQ];by_cases h2:t=2
      ·subst h2;simp
      by_cases h3:t=3
      ·subst h3;simp
      by_cases h4:t=4
      ·subst h4;simp
      ·simp[h2,h3,h4])
end Go.Av.V.Sx
namespace Go.Av
def unC:IV→IV
 | .iref [c]=>c
 | c=>c
theorem YK (c:IV):unC (MC c)=c:=by
 unfold MC;split
 ·rename_i h
  cases c with
  | iref cs=>simp[kF]at h
  | _=>rfl
 ·rfl
def mK (k ix off:Nat):Option Blk→Option IV
 | some (.arr k' es)=>tst (decide (k'=k∧off≤k)) (bnd (gB es ix) fun e=>some (.iref (dropE off e)))
 | some (.tre k' es)=>tst (decide (k'=k∧off≤k)) (bnd (gB es ix) fun e=>some (.iref (dropE off (e.map unC))))
 | _=>none
def ABV (st:Store):AV→Option IV
 | .ownE id k ix off=>mK k ix off (st id)
 | v=>qH st v
def ET (st:Store):List AV→Option (List AV)
 | []=>some []
 | c::r=>bnd (ABV st c) fun v=>bnd (ET st r) fun l=>some (.i v::l)
def MZ (call:d9) (g:FuncId) (args:List AV) (st:StL):Option (AV×StL):=bnd (ET (aT st) args) fun us=>WC call g us st
theorem UCells.toI {w:World} {m:Mem} (hm:jV w m):∀ {cs:List IV} {vs:List Value} {F:List Nat},UCells w m cs vs F→ICells (eO w) (cs.map unC) vs
 | _,_,_, .nil=>.nil
 | _,_,_, .lit o r=>.cons (.lit _) o (r.toI hm)
 | _,_,_, .isl0 c r=>.cons (.isl0 _ _ c) rfl (r.toI hm)
 | _,_,_, .isl hn hr hk hl hf hc g r=>by
  have:=(TCells.isl hn hr hk hl hf hc g .nil).toI
  cases this with
  | cons a _ _=>exact .cons a rfl (r.toI hm)
 | _,_,_, .kn a o r=>.cons (a.mono (sN hm)) o (r.toI hm)
theorem H5 {w:World} {m:Mem} {φ:Pl} {st:Store} {id k ix off:Nat} {x:Value} {iv:IV} (hi:Inv w m φ st) (hr:Rep m φ (.ownE id k ix off) x) (h:mK k ix off (st id)=some iv):IRep (eO w) iv x:=by
 cases hr with
 | @ownE _ _ _ _ b n e =>
  cases hst:st id with
  | none=>rw[hst]at h;simp[mK]at h
  | some blk =>
   rw[hst]at h;obtain⟨hb,hok⟩:=DX hi e hst
   have key:∀ {T:TypeId} {vs:List Value} {es:List (List IV)} {er:List IV},w.heap[b]?=some (.cells vs.toArray T (0,0))→(∀ r∈es,r.length=k)→ICells (eO w) es.flatten (vs.take (k*es.length))→es[ix]?=some er→off≤k→IRep (eO w) (.iref (dropE off er)) (.pointer (some ⟨b,k*ix+off,none⟩)):=by
    intro T vs es er hh hw hc h1 ho
    have he:IElems (eO w) b 0 k es:=gM 0 hw hc fun j v hj=>by
     show w.cell? ⟨b,0+j,none⟩=some v;rw[zO,bY hh];rw[zH]at hj;split at hj
     ·exact hj
     ·cases hj
    obtain⟨hat,hl⟩:=wR he h1;have:=IAt.dropE off hat (by omega);rw[zO]at this;exact .iref this
   cases hok with
   | arr hh hl hpos hw1 hc hfit hm hown1 hone =>
    simp only[mK]at h;obtain⟨hk,h0⟩:=aM.1 h;obtain⟨rfl,ho⟩:=zS hk;obtain⟨er,h1,h2⟩:=aD.1 h0;injection h2 with h2;subst h2;rw[eY]at h1;exact key hh hw1 (hc.mono (sN hi.mem)) h1 ho
   | @tre T k' es vs F hh hl hpos hw1 hc hfit hnd hF hm hone =>
    simp only[mK]at h;obtain⟨hk,h0⟩:=aM.1 h;obtain⟨rfl,ho⟩:=zS hk;obtain⟨er,h1,h2⟩:=aD.1 h0;injection h2 with h2;subst h2;rw[eY]at h1;refine key (es:=es.map (List.map unC)) hh (fun r hr=>?_) ?_ (by rw[List.getElem?_map,h1];rfl) ho
    ·obtain⟨r',hr',rfl⟩:=yF.1 hr;rw[zA6];exact hw1 r' hr'
    ·have:=hc.toI hi.mem;rw[List.map_flatten]at this;rw[zA6];exact this
   | _=>simp[mK]at h
theorem uU {w:World} {m:Mem} {φ:Pl} {st:Store} (hi:Inv w m φ st):∀ {cs us:List AV} {xs:List Value},RepL m φ cs xs→ET st cs=some us→RepL (eO w) (fun _=>none) us xs
 | [],us,_, .nil,h=>by simp[ET]at h;subst h;exact .nil
 | c::cs,us,_, .cons a b,h=>by
  simp only[ET]at h;obtain⟨v,h1,h2⟩:=aD.1 h;obtain⟨l',h3,h4⟩:=aD.1 h2;injection h4 with h4;subst h4;refine .cons (.i ?_) (uU hi b h3);unfold ABV at h1;split at h1
  ·exact H5 hi a h1
  ·exact A9 hi a h1
theorem BU {C:Ctx} {call:d9} (hcall:CallOk C call) {g:FuncId} {args:List AV} {stl stl':StL} {r:AV} (h:MZ call g args stl=some (r,stl')) (hy:g≠rH:=by decide) :
 (∃ fn,C.P.funcs[g]?=some fn∧fn.name≠ "runtime.NumGoroutine"∧fn.body.isSome=true)∧∀ (w:World) (m:Mem) (φ:Pl) (vs:List Value),Inv w m φ (aT stl)→RepL m φ args vs→(∀ id,φ id≠none→id<stl.length) →
  Calls C.P g vs.toArray w (dK w m φ r stl'):=by
 unfold MZ at h;obtain⟨us,h1,h2⟩:=aD.1 h;exact BS hcall (us:=us) (fun w m φ vs hi hr=>uU hi hr h1) h2 hy
end Go.Av
namespace Go.Av
open Go.Av.Mk
def rE (e:Ex):AV×StL:=if e.kids=[]then(.i (.agg e.cells),[])else(tE e 0,[some (kW Ex.cells 5 e.kids)])
noncomputable def NQ:List AV→StL→Option (AV×StL)
 | [.i (.iref cs)],[]=>@dite _ (∃ e:Ex,e.size<1000000000∧e.cells=cs) (Classical.propDecidable _) (fun h=>some (rE h.choose)) fun _=>none
 | _,_=>none
theorem ZV {e:Ex} (h:e.size<1000000000):NQ [.i (.iref e.cells)] []=some (rE e):=by
 have hh:∃ x:Ex,x.size<1000000000∧x.cells=e.cells:=⟨e,h,rfl⟩
 unfold NQ;simp only;rw[dif_pos hh,Ex.uN _ _ hh.choose_spec.2]
theorem SQ {args:List AV} {st:StL} {r:AV×StL} (h:NQ args st=some r):∃ e:Ex,e.size<1000000000∧args=[.i (.iref e.cells)]∧st=[]∧r=rE e:=by
 unfold NQ at h;split at h
 ·rename_i cs;by_cases hc:∃ e:Ex,e.size<1000000000∧e.cells=cs
  ·rw[dif_pos hc]at h;injection h with h;exact⟨hc.choose,hc.choose_spec.1,by rw[hc.choose_spec.2],rfl,h.symm⟩
  ·rw[dif_neg hc]at h;cases h
 ·cases h
theorem JN:∀ l:List IV,(jO l).map unC=l
 | []=>rfl
 | c::l=>by simp only[jO,yT,YK,JN l]
theorem EL:∀ {l:List IV},lM l=true→jO l=l
 | [],_=>rfl
 | c::l,h=>by
  simp only[lM,zU]at h;simp[jO,MC,h.1,EL h.2]
theorem wW:∀ {l:List (List IV)},iA l=true→eQ l=l
 | [],_=>rfl
 | c::l,h=>by
  simp only[iA,zU]at h;simp[eQ,EL h.1,wW h.2]
def BJ (es:List Ex):Nat→Blk
 | 0=>.arr 5 (Ex.aA es)
 | i+1=>.tre 5 (Ex.aA (es.take (i+1))++eQ (Ex.aA (es.drop (i+1))))
@[simp] theorem AGL (r:Nat→Option Nat) (es:List Ex):∀ i,tK r (some (BJ es i))=some (BJ es i)
  | 0=>rfl
  | _+1=>rfl
@[simp] theorem ADI (es:List Ex):∀ i,fJ (some (BJ es i))=[]
  | 0=>rfl
  | _+1=>rfl
theorem P7 {es:List Ex} (h:es≠[]):BJ es es.length=.tre 5 (Ex.aA es):=by
 cases hl:es.length with
 | zero=>exact absurd (zY.1 hl) h
 | succ n =>
  have h1:es.take (n+1)=es:=zX (by omega);have h2:es.drop (n+1)=[]:=List.drop_eq_nil_of_le (by omega);simp[BJ,h1,h2,Ex.aA,eQ]
theorem OZ {es:List Ex} {i:Nat} {a:Ex} (h:es[i+1]?=some a):Ex.aA (es.take (i+1))++eQ (Ex.aA (es.drop (i+1)))=Ex.aA (es.take (i+1))++jO a.cells::eQ (Ex.aA (es.drop (i+2))):=by
 obtain⟨hl,rfl⟩:=zZ.1 h;rw[yD hl];rfl
theorem P6 {es:List Ex} {i:Nat} {a:Ex} (h:es[i]?=some a):(Ex.aA (es.take i)).length=i:=by
 have:=(zZ.1 h).1;simp;omega
theorem VM {es:List Ex} {i:Nat} {a:Ex} (h:es[i]?=some a):mK 5 i 0 (some (BJ es i))=some (.iref a.cells):=by
 have hd:∀ l:List IV,dropE 0 l=l:=fun l=>by cases l<;>rfl
 cases i with
 | zero =>
  have:=Ex.aJ h;simp[BJ,mK,tst,bnd,this,hd]
 | succ i =>
  have h1:=kP (Ex.aA (es.take (i+1))) (jO a.cells) (eQ (Ex.aA (es.drop (i+2))));rw[P6 h]at h1;simp only[BJ,OZ h];simp[mK,tst,bnd,h1,hd,JN]
theorem P5 {es:List Ex} {i:Nat} {a:Ex} (h:es[i]?=some a) (id:Nat) (st:Store):dQ id 5 i 0 a.cells st (some (BJ es i))=some (upd st id (some (BJ es (i+1)))):=by
 have hl:uC a.cells=false:=by rw[Ex.aB];simp[uC,Y2]
 have g3:splice a.cells 0 a.cells=some a.cells:=lV rfl;have g4:splice (jO a.cells) 0 a.cells=some a.cells:=lV (by rw[rM])
 cases i with
 | zero =>
  cases es with
  | nil=>simp at h
  | cons x es =>
   simp at h;subst h;by_cases hb:iA (Ex.aA (x::es))=true
   ·have hb2:=hb;simp only[Ex.aA,iA,zU]at hb2;simp only[Ex.aA]at hb;simp[BJ,dQ,pY,bnd,tst,eY,g3,g4,hl,hb,Ex.aA,wW hb2.2]
   ·simp only[Ex.aA]at hb;simp[BJ,dQ,pY,bnd,tst,eY,g3,g4,hl,hb,Ex.aA,eQ]
 | succ i =>
  have hn:=P6 h;have h1:=kP (Ex.aA (es.take (i+1))) (jO a.cells) (eQ (Ex.aA (es.drop (i+2))));rw[hn]at h1
  have h2:(Ex.aA (es.take (i+1))++jO a.cells::eQ (Ex.aA (es.drop (i+2)))).set (i+1) a.cells=Ex.aA (es.take (i+1))++a.cells::eQ (Ex.aA (es.drop (i+2))):=by
   rw[List.set_append_right _ _ (by omega),hn,Nat.sub_self,xC]
  have h3:Ex.aA (es.take (i+2))=Ex.aA (es.take (i+1))++[a.cells]:=by rw[aO h,Ex.aX]
  simp only[BJ,OZ h,h3,yX,List.singleton_append];simp[dQ,bnd,tst,h1,g4,h2]
end Go.Av
namespace Go.Proofs.Ytjdfjgmebalaaaa.P
open Go Go.Av Go.Av.Mk
set_option maxRecDepth 4000
set_option maxHeartbeats 4000000
noncomputable def ACM:FuncId→Option (List AV→StL→Option (AV×StL))
 | 53=>some NQ
 | _=>none
noncomputable def C3:Ctx:={ P:=Try.prog,G:=GS,ownArgs:=fM,keepRes:=keepR,eqT:=G8,prim:=ACM,tree:=true }
theorem YW:PrimOk C3:=by
 have key:∀ g q,C3.prim g=some q→g=53∧q=NQ:=by
  intro g q h;have h:ACM g=some q:=h;unfold ACM at h;split at h
  ·injection h with h;exact⟨rfl,h.symm⟩
  ·cases h
 constructor
 ·intro g args st p h;unfold dP at h
  cases hq:C3.prim g with
  | none=>rw[hq]at h;cases h
  | some q =>
   obtain⟨rfl,rfl⟩:=key g q hq;exact⟨Try.f53,Try.func53,by decide,rfl⟩
 ·intro g args stl r stl' h w m φ vs hi hr h0;unfold dP at h
  cases hq:C3.prim g with
  | none=>rw[hq]at h;cases h
  | some q =>
   obtain⟨rfl,rfl⟩:=key g q hq;rw[hq]at h;obtain⟨e,he,rfl,rfl,hres⟩:=SQ h;unfold rE at hres;split at hres
   ·injection hres with h1 h2;subst h1;subst h2;exact oL he hi hr h0
   ·rename_i hk;injection hres with h1 h2;subst h1;subst h2;exact Go.Av.V.Sx.NT he hk hi hr h0
theorem AGB:SoundOk C3:=l7 (C:=C3) ft nt eqS mo YW
attribute [local simp] MZ WC ET ABV mfA mfR AEP AEQ mfC AB5 jQ
theorem MX {es:List Ex} {i:Nat} {a:Ex} (ha:es[i]?=some a) (hs:a.size<1000000000):MZ (aH C3) 53 [.ownE 0 5 i 0] [some (BJ es i)]=some (if a.kids=[]then .i (.agg a.cells)else tE a 1,if a.kids=[]then [some (BJ es i)]else [some (BJ es i),some (kW Ex.cells 5 a.kids)]):=by
 have h1:aH C3 53 [.i (.iref a.cells)] []=some (rE a):=by
  rw[bG (C:=C3) (p:=NQ) rfl];exact ZV hs
 have h2:=VM ha;by_cases hk:a.kids=[]
 ·simp only[rE,hk,if_true]at h1 ⊢;rw[Ex.aB,hk]at h1 h2 ⊢;simp only[Ex.aA]at h1 h2 ⊢;simp[h1,h2]
 ·simp only[rE,hk,if_false]at h1 ⊢;simp[h1,h2,tE]
end Go.Proofs.Ytjdfjgmebalaaaa.P
namespace Go.Proofs.Ytjdfjgmebalaaaa
open Go Go.Av
set_option maxHeartbeats 4000000
set_option maxRecDepth 4000
theorem KU (n:Int):n=1∨n=2∨n=3∨n=4∨n=5∨n=6∨n=7∨n=8∨n=9∨n=10∨n=11∨(n≠1∧n≠2∧n≠3∧n≠4∧n≠5∧n≠6∧n≠7∧n≠8∧n≠9∧n≠10∧n≠11):=by omega
@[simp] theorem ZF (n:Int):aH C0 80 [.int n] []=some (.int (bR n),[]):=by
  rw[aI rfl Try.func80 rfl rfl]
  rcases KU n with rfl|rfl|rfl|rfl|rfl|rfl|rfl|rfl|rfl|rfl|rfl|⟨h1,h2,h3,h4,h5,h6,h7,h8,h9,h10,h11⟩
  all_goals first
   | (simp[bR];done)
   | (have e:bR n=-1:=by
       unfold bR;rw[if_neg (by omega),if_neg (by omega),if_neg (by omega)]
      simp[e,h1,h2,h3,h4,h5,h6,h7,h8,h9,h10,h11])
@[simp] theorem AH3 (n:Int):aH C0 78 [.int n] []=some (.int (bR n),[]):=by
  rw[aI rfl Try.func78 rfl rfl]
  rcases KU n with rfl|rfl|rfl|rfl|rfl|rfl|rfl|rfl|rfl|rfl|rfl|⟨h1,h2,h3,h4,h5,h6,h7,h8,h9,h10,h11⟩
  all_goals first
   | (simp[bR];done)
   | (have e:bR n=-1:=by
       unfold bR;rw[if_neg (by omega),if_neg (by omega),if_neg (by omega)]
      simp[e,h1,h2,h3,h4,h5,h6,h7,h8,h9,h10,h11])
@[simp] theorem YF (n:Int):aH C0 66 [.int n] []=some (.bool (dN n),[]):=by
  rw[aI rfl Try.func66 rfl rfl];by_cases h1:1≤n<;>by_cases h2:n≤6<;>simp[dN,h1,h2]
@[simp] theorem AEZ (n a b:Int):aH C0 45 [.int n, .int a, .int b] []=some (.bool (decide (a≤n∧n≤b)),[]):=by
  rw[aI rfl Try.func45 rfl rfl];by_cases h1:a≤n<;>by_cases h2:n≤b<;>simp[h1,h2]
@[simp] theorem valid_eq (b:Bool) (n:Int):aH C0 81 [.i (.agg [.bool b, .int n])] []=some (.bool (Val.ok ⟨b,n⟩),[]):=by
  rw[aI rfl Try.func81 rfl rfl]
  cases b
  ·by_cases h1:-9999≤n<;>by_cases h2:n≤9999<;>simp[Val.ok,h1,h2]
  ·by_cases h1:n=0<;>simp[Val.ok,h1]
@[simp] theorem YG (b:Bool) (n:Int):aH C0 79 [.i (.agg [.bool b, .int n])] []=some (.bool (Val.ok ⟨b,n⟩),[]):=by
  rw[aI rfl Try.func79 rfl rfl]
  cases b
  ·by_cases h1:-9999≤n<;>by_cases h2:n≤9999<;>simp[Val.ok,h1,h2]
  ·by_cases h1:n=0
   ·subst h1;simp[Val.ok]
   ·by_cases h2:-9999≤n<;>by_cases h3:n≤9999<;>simp[Val.ok,h1,h2,h3]
theorem AAH {e:Ex} {w:Int} (n:Nat) (hk:¬ (e.kids.length:Int)=bR e.kind):aH C0 77 [.i (.iref e.cells), .int w, .int n] []=some (.bool false,[]):=by
 rw[aI rfl Try.func77 rfl rfl,Ex.aB];simp[Ex.aR,hk]
theorem ABX {e:Ex} {w:Int} (hk:(e.kids.length:Int)=bR e.kind) (hz:0<bR e.kind):aH C0 77 [.i (.iref e.cells), .int w, .int 0] []=some (.bool false,[]):=by
 rw[aI rfl Try.func77 rfl rfl,Ex.aB];simp[Ex.aR,hk,hz]
theorem UD {e:Ex} {w:Int} (n:Nat) (hk:(e.kids.length:Int)=bR e.kind) (hz:0<bR e.kind→n≠0) (hh:e.bE w=false) :
 aH C0 77 [.i (.iref e.cells), .int w, .int n] []=some (.bool false,[]):=by
 rw[aI rfl Try.func77 rfl rfl,Ex.aB];unfold Ex.bE at hh;by_cases h1:e.kind=1
 ·rw[h1]at hz hk;simp[h1,bR]at hh hk;by_cases h2:0≤e.col
  ·by_cases h3:e.col<w
   ·cases h4:e.val.null with
    | true=>simp[Ex.aR,hk,h1,Int.not_lt.2 h2,zB7.2 h3,h4,bR]
    | false=>simp[Ex.aR,hk,h1,Int.not_lt.2 h2,zB7.2 h3,h4,hh h2 h3 h4,bR]
   ·simp[Ex.aR,hk,h1,Int.not_lt.2 h2,Int.not_lt.1 h3,bR]
  ·simp[Ex.aR,hk,h1,zB7.1 h2,bR]
 ·by_cases h2:e.kind=2
  ·rw[h2]at hz hk;simp[h2,bR]at hh hk;by_cases h3:e.col=0
   ·have h4:Val.ok ⟨e.val.null,e.val.n⟩=false:=hh h3;simp[Ex.aR,hk,h2,h3,h4,bR]
   ·simp[Ex.aR,hk,h2,h3,bR]
  ·simp[h1,h2]at hh;by_cases h0:0<bR e.kind
   ·have hn:=hz h0;by_cases h3:e.col=0
    ·cases h4:e.val.null with
     | true=>simp[Ex.aR,hk,h1,h2,h3,h4,h0,hn,hz h0]
     | false=>simp[Ex.aR,hk,h1,h2,h3,h4,hh h3 h4,h0,hn,hz h0]
    ·simp[Ex.aR,hk,h1,h2,h3,h0,hn,hz h0]
   ·by_cases h3:e.col=0
    ·cases h4:e.val.null with
     | true=>simp[Ex.aR,hk,h1,h2,h3,h4,h0]
     | false=>simp[Ex.aR,hk,h1,h2,h3,h4,hh h3 h4,h0]
    ·simp[Ex.aR,hk,h1,h2,h3,h0]
def VX (e:Ex) (w n:Int) (i:Nat):AS :=
 { env:=[(0, .i (.iref [.int e.kind, .int 0, .bool false, .int 0, .isl (Ex.aA e.kids)])),(1, .int w),(2, .int n),(6, .bool false),(7, .int (bR e.kind)),(8,jk i (.int (i-1))),(28, .bool (n == 0)),(62, .bool false),(90, .bool false),(95, .int (bR e.kind)),(96, .int i),(97,jk i (.bool true)),(109,jk i (.bool false))],st:=[] }
theorem AFO {e:Ex} {w:Int} (n:Nat) (hn:n≤8) (hk:(e.kids.length:Int)=bR e.kind) (hz:0<bR e.kind→n≠0) (hh:e.bE w=true) (ih:∀ k∈e.kids,0<bR e.kind→aH C0 77 [.i (.iref k.cells), .int w, .int ((n:Int)-1)] []=some (.bool (Ex.vB w (n-1) k),[])) :
 aH C0 77 [.i (.iref e.cells), .int w, .int n] []=some (.bool (e.kids.all (Ex.vB w (n-1))),[]):=by
 rw[aI rfl Try.func77 rfl rfl,Ex.aB]
 rcases Ex.S9 w e with h|⟨-,⟨hA,hB,hC,hD,hE,hF⟩|⟨hA,hB,hC,hD,hE,hF⟩|⟨hA,hB,hC,hD,hE,hF⟩⟩
 ·simp[h]at hh
 ·have h2:e.kids=[]:=by rw[hF]at hk;simpa using hk
  simp[h2,Ex.aA,hA,hD,hE,Int.not_lt.2 hB,zB7.2 hC,bR];rw[aF];simp
 ·have h2:e.kids=[]:=by rw[hF]at hk;simpa using hk
  simp[h2,Ex.aA,hA,hB,hC,bR];rw[aF];simp
 ·by_cases h0:0<bR e.kind
  ·have hn:=hz h0;simp[Ex.aR,hk,hA,hB,hC,hD,hE,h0,hn,hz h0];obtain⟨j,h1,h2⟩:=jB (Ex.vB w (n-1)) e.kids;have w1:IntKind.i64.wrap ((n:Int)-1)=n-1:=wrO
   have rd:∀ (i:Nat) (k:Ex),e.kids[i]?=some k→k∈e.kids→i<e.kids.length∧gB (Ex.aA e.kids) i=some k.cells∧aH C0 77 [.i (.iref k.cells), .int w, .int ((n:Int)-1)] []=some (.bool (Ex.vB w (n-1) k),[]) :=
    fun i k a b=>⟨(zZ.1 a).1,Ex.aJ a,ih k b h0⟩
   have hlen:e.kids.length≤2:=by have:bR e.kind≤2:=by
                                  unfold bR;split;· omega
                                  split;· omega
                                  split<;>omega
                                 omega
   rw[aV (VX e w n) j (by simp[VX])]
   ·rw[aF]
    rcases h2 with ⟨hj,ha⟩|⟨k,h3,h4,h5,ha⟩
    ·have l1:¬ ((j:Int)<bR e.kind):=by omega
     simp[VX,l1,ha]
    ·obtain⟨r1,r2,r3⟩:=rd j k h3 h4;have l1:(j:Int)<bR e.kind:=by omega
     rw[Ex.aB]at r2 r3;simp[VX,l1,r1,ha,r2,r3,w1,h5]
   ·intro i hi;obtain⟨k,h3,h4,h5⟩:=h1 i hi;obtain⟨r1,r2,r3⟩:=rd i k h3 h4;have l1:(i:Int)<bR e.kind:=by omega
    have w2:IntKind.i64.wrap ((i:Int)+1)=i+1:=wrO;rw[Ex.aB]at r2 r3;simp[VX,l1,r1,r2,r3,w1,w2,h5]
  ·have h2:e.kids=[]:=by cases h:e.kids with
    | nil=>rfl
    | cons a l=>rw[h]at hk;simp at hk;omega
   rw[h2]at hk;simp at hk;simp[h2,Ex.aA,hA,hB,hC,hD,hE,← hk];rw[aF];simp
@[simp] theorem rT {w:Int}:∀ (n:Nat) (e:Ex),n≤8→aH C0 77 [.i (.iref e.cells), .int w, .int n] []=some (.bool (Ex.vB w n e),[])
  | 0,e,hn=>by
   by_cases hk:(e.kids.length:Int)=bR e.kind
   ·by_cases hz:0<bR e.kind
    ·rw[show((0:Nat):Int)=0 from rfl,ABX hk hz];simp[Ex.vB,zB7.2 hz]
    ·cases hh:e.bE w with
     | false=>rw[UD 0 hk (fun h=>absurd h hz) hh];simp[Ex.vB,hh]
     | true =>
      rw[AFO 0 hn hk (fun h=>absurd h hz) hh (fun k _ h=>absurd h hz)]
      have:e.kids=[]:=by cases h:e.kids with
       | nil=>rfl
       | cons a l=>rw[h]at hk;simp at hk;omega
      have h3:bR e.kind=0:=by rw[this]at hk;simpa using hk.symm
      simp[Ex.vB,hh,h3,this]
   ·rw[AAH 0 hk];simp[Ex.vB,hk]
  | n+1,e,hn=>by
   by_cases hk:(e.kids.length:Int)=bR e.kind
   ·cases hh:e.bE w with
    | false=>rw[UD (n+1) hk (fun _=>by omega) hh];simp[Ex.vB,hh]
    | true =>
     rw[AFO (n+1) hn hk (fun _=>by omega) hh (fun k _ _=>by
      have:=rT (w:=w) n k (by omega);rw[show(((n+1:Nat):Int)-1)=(n:Int)by omega]
      exact this)]
     simp[Ex.vB,hh,hk]
   ·rw[AAH (n+1) hk];simp[Ex.vB,hk]
theorem AAG {e:Ex} {w:Int} (n:Nat) (hk:¬ (e.kids.length:Int)=bR e.kind):aH C0 76 [.i (.agg e.cells), .int w, .int n] []=some (.bool false,[]):=by
 rw[aI rfl Try.func76 rfl rfl,Ex.aB];simp[hk]
theorem ABW {e:Ex} {w:Int} (hk:(e.kids.length:Int)=bR e.kind) (hz:0<bR e.kind):aH C0 76 [.i (.agg e.cells), .int w, .int 0] []=some (.bool false,[]):=by
 rw[aI rfl Try.func76 rfl rfl,Ex.aB];simp[hk,hz]
def EX (e:Ex) (w n:Int) (v:AV) (i:Nat):AS :=
 { env:=[(0, .i (.agg [.int e.kind, .int e.col, .bool e.val.null, .int e.val.n, .isl (Ex.aA e.kids)])),(1, .int w),(2, .int n),(3, .own 0 0),(6, .bool false),(7, .int i),(24,v),(29,jk i (.bool true)),(41,jk i (.bool false)),(43, .junk),(44, .junk),(57, .junk)],
   st:=[some (.box [.int e.kind, .int e.col, .bool e.val.null, .int e.val.n, .i (.isl (Ex.aA e.kids))])] }
theorem AFN {e:Ex} {w:Int} (n:Nat) (hn:n≤8) (hk:(e.kids.length:Int)=bR e.kind) (hz:0<bR e.kind→n≠0)  (hw:1≤w∧w≤6)
 (ih:∀ k∈e.kids,0<bR e.kind→aH C0 76 [.i (.agg k.cells), .int w, .int ((n:Int)-1)] []=some (.bool (Ex.vB w (n-1) k),[])) :
  aH C0 76 [.i (.agg e.cells), .int w, .int n] []=some (.bool (e.kids.all (Ex.vB w (n-1)) && e.bE w),[]):=by
 rw[aI rfl Try.func76 rfl rfl,Ex.aB];have w0:IntKind.i64.wrap (w-1)=w-1:=wrO;by_cases h0:0<bR e.kind
 ·have hn:=hz h0;simp[hk,h0,hn];obtain⟨j,h1,h2⟩:=jB (Ex.vB w (n-1)) e.kids;have w1:IntKind.i64.wrap ((n:Int)-1)=n-1:=wrO
  have rd:∀ (i:Nat) (k:Ex),e.kids[i]?=some k→k∈e.kids→i<e.kids.length∧gB (Ex.aA e.kids) i=some k.cells∧aH C0 76 [.i (.agg k.cells), .int w, .int ((n:Int)-1)] []=some (.bool (Ex.vB w (n-1) k),[]) :=
   fun i k a b=>⟨(zZ.1 a).1,Ex.aJ a,ih k b h0⟩
  have hlen:e.kids.length≤2:=by have:bR e.kind≤2:=by
                                 unfold bR;split;· omega
                                 split;· omega
                                 split<;>omega
                                omega
  have hk1:e.kind≠1:=fun h=>by rw[h]at h0;simp[bR]at h0
  have hk2:e.kind≠2:=fun h=>by rw[h]at h0;simp[bR]at h0
  rw[aV (EX e w n (.bool ((n:Int) == 0)) ) j (by simp[EX])]
  ·rw[aF]
   rcases h2 with ⟨hj,ha⟩|⟨k,h3,h4,h5,ha⟩
   ·have l1:¬ ((j:Int)<bR e.kind):=by omega
    by_cases h6:e.col=0
    ·cases h7:e.val.null with
     | true=>simp[EX,l1,hk,ha,Ex.bE,hk1,hk2,h6,h7]
     | false=>simp[EX,l1,hk,ha,Ex.bE,hk1,hk2,h6,h7]
    ·simp[EX,l1,hk,ha,Ex.bE,hk1,hk2,h6]
   ·obtain⟨r1,r2,r3⟩:=rd j k h3 h4;have l1:(j:Int)<bR e.kind:=by omega
    rw[Ex.aB]at r2 r3;simp[EX,l1,r1,hk,ha,r2,r3,w1,h5]
  ·intro i hi;obtain⟨k,h3,h4,h5⟩:=h1 i hi;obtain⟨r1,r2,r3⟩:=rd i k h3 h4;have l1:(i:Int)<bR e.kind:=by omega
   have w2:IntKind.i64.wrap ((i:Int)+1)=i+1:=wrO;rw[Ex.aB]at r2 r3;simp[EX,l1,r1,hk,r2,r3,w1,w2,h5]
 ·have h2:e.kids=[]:=by cases h:e.kids with
   | nil=>rfl
   | cons a l=>rw[h]at hk;simp at hk;omega
  rw[h2]at hk;simp at hk;simp[h2,Ex.aA,← hk];rw[aF];by_cases h1:e.kind=1
  ·by_cases h4:0≤e.col
   ·by_cases h5:e.col<w
    ·cases h7:e.val.null with
     | true=>simp[h1,w0,Ex.bE,h4,h5,h7,show e.col≤w-1 by omega]
     | false=>simp[h1,w0,Ex.bE,h4,h5,h7,show e.col≤w-1 by omega]
    ·simp[h1,w0,Ex.bE,h4,h5,show ¬ e.col≤w-1 by omega]
   ·simp[h1,w0,Ex.bE,h4]
  ·by_cases h3:e.kind=2
   ·by_cases h4:e.col=0
    ·simp[h3,Ex.bE,h4]
    ·simp[h3,Ex.bE,h4]
   ·by_cases h4:e.col=0
    ·cases h7:e.val.null with
     | true=>simp[h1,h3,Ex.bE,h4,h7]
     | false=>simp[h1,h3,Ex.bE,h4,h7]
    ·simp[h1,h3,Ex.bE,h4]
theorem uX {w:Int} (hw:1≤w∧w≤6):∀ (n:Nat) (e:Ex),n≤8→aH C0 76 [.i (.agg e.cells), .int w, .int n] []=some (.bool (Ex.vB w n e),[])
 | 0,e,hn=>by
  by_cases hk:(e.kids.length:Int)=bR e.kind
  ·by_cases hz:0<bR e.kind
   ·rw[show((0:Nat):Int)=0 from rfl,ABW hk hz];simp[Ex.vB,zB7.2 hz]
   ·rw[AFN 0 hn hk (fun h=>absurd h hz) hw (fun k _ h=>absurd h hz)]
    have:e.kids=[]:=by cases h:e.kids with
     | nil=>rfl
     | cons a l=>rw[h]at hk;simp at hk;omega
    have h3:bR e.kind=0:=by rw[this]at hk;simpa using hk.symm
    simp[Ex.vB,h3,this]
  ·rw[AAG 0 hk];simp[Ex.vB,hk]
 | n+1,e,hn=>by
  by_cases hk:(e.kids.length:Int)=bR e.kind
  ·rw[AFN (n+1) hn hk (fun _=>by omega) hw (fun k _ _=>by
      have:=uX (w:=w) hw n k (by omega);rw[show(((n+1:Nat):Int)-1)=(n:Int)by omega]
      exact this)]
   simp[Ex.vB,hk,Bool.and_comm]
  ·rw[AAG (n+1) hk];simp[Ex.vB,hk]
theorem ok_eq (w:Int) (e:Ex):aH C0 75 [.i (.agg e.cells), .int w] []=some (.bool (e.ok w),[]):=by
 rw[aI rfl Try.func75 rfl rfl];have h:=rT (w:=w) 8 e (by omega);rw[Ex.aB]at h ⊢;have e8:((8:Nat):Int)=8:=rfl;rw[e8]at h
 cases hw:dN w with
 | false=>simp[hw,Ex.ok]
 | true=>simp[hw,Ex.ok,h]
theorem JY (w:Int) (e:Ex):aH C0 71 [.i (.agg e.cells), .int w] []=some (.bool (e.ok w),[]):=by
 rw[aI rfl Try.func71 rfl rfl];by_cases hw:1≤w∧w≤6
 ·have h:=uX hw 8 e (by omega);rw[Ex.aB]at h ⊢;have e8:((8:Nat):Int)=8:=rfl;rw[e8]at h;simp[hw,Ex.ok,dN,h]
 ·rw[Ex.aB];simp[hw,Ex.ok,dN]
theorem bZ:IntKind.i64.wrap 1=1:=wrO
def CX (e:Ex) (i:Nat):AS :=
 { env:=[(0, .i (.agg [.int e.kind, .int e.col, .bool e.val.null, .int e.val.n, .isl (Ex.aA e.kids)])),(1, .own 0 0),(2, .own 1 0),(3, .own 2 0),(4, .int i),(16,jk i (.bool true))],
   st:=some (.box [.int e.kind, .int e.col, .bool e.val.null, .int e.val.n, .i (.isl (Ex.aA e.kids))])::some (.box [.int 0, .int 0, .bool false, .int 0, .nils]) ::
    some (.box [.int e.kind, .int e.col, .bool e.val.null, .int e.val.n,gro 3 5 i])::Y5 5 (Ex.aA (e.kids.take i)) i }
theorem ADT {e:Ex} (hl:e.kids.length<1000000000) (ih:∀ a∈e.kids,aH C0 64 [.i (.agg a.cells)] []=some (.i (.agg a.cells),[])) :
 aH C0 64 [.i (.agg e.cells)] []=some (.i (.agg e.cells),[]):=by
 rw[aI rfl Try.func64 rfl rfl,Ex.aB];simp;rw[aV (CX e) e.kids.length (by simp[CX])]
 ·rw[aF]
  cases hn:e.kids.length with
  | zero =>
   have:e.kids=[]:=zY.1 hn;simp[CX,this,Ex.aA]
  | succ n =>
   have:e.kids.take (n+1)=e.kids:=zX (by omega);simp[CX,hn,this]
 ·intro i hi;have h3:=zV hi;have hc:=ih _ (zT h3);have r2:=Ex.aJ h3;generalize e.kids[i]=a at h3 hc r2;have w2:IntKind.i64.wrap ((i:Int)+1)=i+1:=wrO;by_cases h0:i=0
  ·subst h0;simp[CX,hi,r2,hc,bZ,aO h3,Ex.aA]
  ·simp[CX,aP h0,aL h0,dI h0,hi,r2,hc,w2,aO h3,Ex.aX,show min i e.kids.length=i by omega,show(i+1)*56≤140737488355328 by omega,zJ]
theorem DN:∀ (e:Ex),e.thin→aH C0 64 [.i (.agg e.cells)] []=some (.i (.agg e.cells),[]):=by
 intro e
 induction e using Ex.ind with
 | h k c v ks ih =>
  intro ht;have ht':=(Ex.bL _).1 ht;exact ADT ht'.1 fun a ha=>ih a ha (ht'.2 a ha)
def SX (e:Ex) (l:List Ex) (f:Ex→Ex) (i:Nat):AS :=
 { env:=[(0, .i (.agg [.int e.kind, .int e.col, .bool e.val.null, .int e.val.n, .isl (Ex.aA e.kids)])),(1, .i (.isl (Ex.aA l))),(2, .own 0 0),(4, .own 1 0),(5, .own 2 0),(6, .int i),(9, .bool false),(27,jk i (.bool true))],
   st:=some (.box [.int e.kind, .int e.col, .bool e.val.null, .int e.val.n, .i (.isl (Ex.aA e.kids))])::some (.box [.int 0, .int 0, .bool false, .int 0, .nils]) ::
    some (.box [.int e.kind, .int e.col, .bool e.val.null, .int e.val.n,gro 3 5 i])::Y5 5 (Ex.aA ((e.kids.take i).map f)) i }
def HX (e:Ex) (i:Nat):AS :=
 { env:=[(0, .i (.iref [.int e.kind, .int e.col, .bool e.val.null, .int e.val.n, .isl (Ex.aA e.kids)])),(2, .int 0),(3, .int (Ex.htL (e.kids.take i):Nat)),(4,jk i (.int (i-1))),(9, .int e.kids.length),(10, .int i),(11,jk i (.bool true))],st:=[] }
def FX (e:Ex) (hs:List Nat) (n:Int) (i:Nat):AS :=
 { env:=[(0, .i (.iref [.int e.kind, .int e.col, .bool e.val.null, .int e.val.n, .isl (Ex.aA e.kids)])),(1, .i (.isl (AGX hs))),(2, .int n),(6, .bool false),(7,jk i (.int (i-1))),(27, .bool false),(32, .int e.kids.length),(33, .int i),(34,jk i (.bool true)),(46,jk i (.bool false))],st:=[] }
def AFK:List IV:=[.int 0, .int 0, .bool false, .int 0, .isl []]
end Go.Proofs.Ytjdfjgmebalaaaa
namespace Go.Av
def Ex.subst (e:Ex) (l:List Ex) (w:Int):Option Ex:=if e.ok l.length && (l.all (Ex.ok w) && (e.sub l).ok w)then some (e.sub l)else none
end Go.Av
namespace Go.Proofs.Ytjdfjgmebalaaaa
open Go Go.Av
set_option maxRecDepth 4000
end Go.Proofs.Ytjdfjgmebalaaaa
namespace Go.Av
end Go.Av
namespace Go.Proofs.Ytjdfjgmebalaaaa
open Go Go.Av
set_option maxRecDepth 4000
set_option maxHeartbeats 1000000
end Go.Proofs.Ytjdfjgmebalaaaa
namespace Go.Av
end Go.Av
namespace Go.Proofs.Ytjdfjgmebalaaaa
open Go Go.Av
set_option maxRecDepth 4000
set_option maxHeartbeats 1000000
end Go.Proofs.Ytjdfjgmebalaaaa
namespace Go.Av
def ALC (i:Nat):Ex:=.mk 1 i Val.zero []
def AJV (n:Nat):List Ex:=(List.range n).map ALC
def AKC (o:Option Ex):Ex:=o.getD Ex.zero
end Go.Av
namespace Go.Proofs.Ytjdfjgmebalaaaa
open Go Go.Av
set_option maxRecDepth 4000
set_option maxHeartbeats 1000000
def WX (code:List UInt8) (e:Ex) (l:List Ex) (w:Int) (i:Nat):AS :=
 { env:=[(0, .i (.isl (nR code))),(2, .bool false),(3, .own 0 0),(4, .i (.isl (Ex.aA l))),(5, .int w),(6, .own 1 0),(7, .bool (e.subst l w).isSome),(8, .own 2 0),(9, .bool (e.subst l w).isSome),(10, .osl 3 5 0 i),(11, .int i),(12, .junk),(13, .junk),(16, .bool false),(52, .bool false),(65,jk i (.bool true))],
   st:=[some (.box (jE e.cells)),some (.box (jE (AKC (e.subst l w)).cells)),some (.box (jE (AKC (e.subst l w)).cells)),some (.arr 5 (Ex.aA (AJV i)))] }
end Go.Proofs.Ytjdfjgmebalaaaa
namespace Go.Av
end Go.Av
namespace Go.Proofs.Ytjdfjgmebalaaaa
open Go Go.Av
set_option maxRecDepth 4000
set_option maxHeartbeats 1000000
end Go.Proofs.Ytjdfjgmebalaaaa
namespace Go.Av
end Go.Av
namespace Go.Proofs.Ytjdfjgmebalaaaa
open Go Go.Av
set_option maxRecDepth 4000
set_option maxHeartbeats 1000000
end Go.Proofs.Ytjdfjgmebalaaaa
namespace Go.Av
end Go.Av
namespace Go.Proofs.Ytjdfjgmebalaaaa
open Go Go.Av
set_option maxRecDepth 4000
set_option maxHeartbeats 2000000
def xv (a b:Nat):AV:=if b=a then .osl 0 2 0 a else .osl 1 2 0 b
def wi (n:Nat):Nat:=if n=0 then 1 else 2
end Go.Proofs.Ytjdfjgmebalaaaa
namespace Go.Av
end Go.Av
namespace Go.Proofs.Ytjdfjgmebalaaaa
open Go Go.Av
set_option maxRecDepth 4000
set_option maxHeartbeats 2000000
end Go.Proofs.Ytjdfjgmebalaaaa
namespace Go.Av
end Go.Av
namespace Go.Proofs.Ytjdfjgmebalaaaa
open Go Go.Av
set_option maxRecDepth 4000
set_option maxHeartbeats 2000000
set_option maxHeartbeats 4000000
end Go.Proofs.Ytjdfjgmebalaaaa
namespace Go.Av
end Go.Av
namespace Go.Proofs.Ytjdfjgmebalaaaa
open Go Go.Av
set_option maxRecDepth 4000
set_option maxHeartbeats 2000000
end Go.Proofs.Ytjdfjgmebalaaaa
namespace Go.Proofs.Ytjdfjgmebalaaaa.P
open Go Go.Av
set_option maxRecDepth 4000
theorem nX (n:Int):n=1∨n=2∨n=3∨n=4∨n=5∨n=6∨n=7∨n=8∨(n≠1∧n≠2∧n≠3∧n≠4∧n≠5∧n≠6∧n≠7∧n≠8):=by omega
@[simp] theorem XZ (n:Int):aH C0 67 [.int n] []=some (.tup [.int (gW n), .int (jS n)],[]):=by
  rw[aI rfl Try.func67 rfl rfl]
  rcases nX n with rfl|rfl|rfl|rfl|rfl|rfl|rfl|rfl|⟨h1,h2,h3,h4,h5,h6,h7,h8⟩
  all_goals first
   | (simp[gW,jS];done)
   | (have e1:gW n=0:=by unfold gW;rw[if_neg (by omega)]
      have e2:jS n=-1:=by unfold jS;rw[if_neg (by omega),if_neg (by omega),if_neg (by omega)]
      simp[e1,e2,h1,h2,h3,h4,h5,h6,h7,h8])
def pv (cs:List Int) (i:Nat):Int:=((-1)::cs)[i]?.getD 0
theorem V5 {cs:List Int} {i:Nat} {c:Int} (h:cs[i]?=some c):pv cs (i+1)=c:=by simp[pv,h]
theorem tF {cs:List Int} {i:Nat} {x:Int×Int} (h:(cs.zip (-1::cs))[i]?=some x):cs[i]?=some x.1∧pv cs i=x.2:=by
 rw[List.getElem?_zip_eq_some]at h;exact⟨h.1,by simp[pv,h.2]⟩
theorem Q6 (cs:List Int):(cs.zip (-1::cs)).length=cs.length:=by simp
def GX (cs:List Int) (w:Int) (i:Nat):AS :=
 { env:=[(0, .i (.isl (aG cs))),(1, .int w),(4, .bool false),(5, .int (pv cs i)),(7,jk i (.int (pv cs i))),(10, .bool false),(11, .i (.isl (aG cs))),(12, .int cs.length),(13, .int i),(14,jk i (.bool true)),(24,jk i (.bool false))],st:=[] }
theorem pQ (cs:List Int) (w:Int):aH C0 74 [.i (.isl (aG cs)), .int w] []=some (.bool (decide (cs.length<6) && nQ w cs),[]):=by
 rw[aI rfl Try.func74 rfl rfl];by_cases h6:cs.length<6
 case neg=>simp[h6,show(6:Int)≤cs.length by omega]
 simp[h6,show ¬ (6:Int)≤cs.length by omega];obtain⟨j,h1,h2⟩:=jB (fun x:Int×Int=>decide (x.2<x.1∧x.1<w)) (cs.zip (-1::cs));rw[aV (GX cs w) j (by simp[GX,pv])]
 ·rw[aF]
  rcases h2 with ⟨hj,ha⟩|⟨x,h3,_,h4,ha⟩
  ·rw[Q6]at hj;have ha:nQ w cs=true:=ha;simp[GX,hj,ha]
  ·obtain⟨c1,c2⟩:=tF h3;have r1:=(zZ.1 c1).1;have r2:=bH c1;have hb:¬ (x.2<x.1∧x.1<w):=by simpa using h4
   have ha:nQ w cs=false:=ha;by_cases hx:x.1≤x.2
   ·simp[GX,r1,r2,c2,hx,ha]
   ·simp[GX,r1,r2,c2,hx,ha,show w≤x.1 by omega]
 ·intro i hi;obtain⟨x,h3,_,h4⟩:=h1 i hi;obtain⟨c1,c2⟩:=tF h3;have r1:=(zZ.1 c1).1;have r2:=bH c1;have c3:=V5 c1;have hb:x.2<x.1∧x.1<w:=by simpa using h4
  have w2:IntKind.i64.wrap ((i:Int)+1)=i+1:=wrO;simp[GX,r1,r2,c2,c3,w2,show ¬ x.1≤x.2 by omega,show ¬ w≤x.1 by omega]
def WX (p:Pn) (a b y:Int) (x14:Bool) (n21 n22:Nat) (x22:Bool) (n26 n27:Nat) (x27:Bool) (i:Nat):AS :=
 { env:=[(0, .i (.iref [.int p.kind, .int p.table, .isl (Ex.aA p.exprs), .isl (aG p.cols), .isl (Pn.aA p.kids)])),(1, .int a),(2, .int b),(6, .int 0),(7, .int y),(8,jk i (.int (i-1))),(13, .int p.kind),(14, .bool x14),(21,jk n21 (.bool false)),(22,jk n22 (.bool x22)),(26,jk n26 (.bool false)),(27,jk n27 (.bool x27)),(35, .junk),(46, .int p.exprs.length),(47, .int i),(48,jk i (.bool true)),(59,jk i (.bool false)),(65, .junk)],st:=[] }
theorem fO (p:Pn) (a b:Int) (ha:0≤a∧a≤6) (hb:0≤b∧b≤6) (hd:p.bE=true):aH C0 68 [.i (.iref p.cells), .int a, .int b] []=some (.int (dL p.kind p.exprs p.cols a b),[]):=by
 rw[aI rfl Try.func68 rfl rfl];have he:=Pn.o8 hd;rw[Pn.aB];have hg:=pQ p.cols a;have w1:IntKind.i64.wrap (a+b)=a+b:=wrO;by_cases h6:p.kind=6
 ·have h8:p.kind≠8:=by omega
  have h4:p.kind≠5:=by omega
  have hz:p.exprs=[]:=by
   simp only[Pn.bE,zU,yP,h6]at hd;have:=hd.2.1;simp[gW]at this;exact this
  by_cases hab:a=b
  ·subst hab;simp[h6];rw[aF];simp[hz,h6,dL]
  ·simp[h6,hab,dL]
 by_cases h8:p.kind=8
 ·by_cases h9:p.cols.length<6
  ·have w3:IntKind.i64.wrap ((p.cols.length:Int)+1)=p.cols.length+1:=wrO
   cases hc:nQ a p.cols<;>simp[h8,hg,h9,hc,dL,w3]
  ·simp[h8,hg,h9,dL]
 by_cases h45:p.kind=4∨p.kind=5
 ·by_cases hs:a+b≤6
  case neg=>rcases h45 with h4|h4<;>simp[h4,w1,show 6<a+b by omega,dL,hs]
  have h4:True:=trivial
  rcases h45 with h45|h45
  ·simp[h45,w1,show ¬ 6<a+b by omega];obtain⟨j,h1,h2⟩:=jB (Ex.ok (a+b)) p.exprs;rw[aV (WX p a b (a+b) true 1 0 false 0 0 false) j (by simp[WX,h45])]
   ·rw[aF]
    rcases h2 with ⟨hj,hall⟩|⟨x,h3,_,h5,hall⟩
    ·simp[WX,hj,hall,dL,h45,hs]
    ·have r1:=(zZ.1 h3).1;have r2:=Ex.aJ h3;have r3:=ok_eq (a+b) x;rw[h5]at r3;rw[Ex.aB]at r2 r3;simp[WX,r1,r2,r3,hall,dL,h45,hs]
   ·intro i hi;obtain⟨x,h3,_,h5⟩:=h1 i hi;have r1:=(zZ.1 h3).1;have r2:=Ex.aJ h3;have r3:=ok_eq (a+b) x;rw[h5]at r3;rw[Ex.aB]at r2 r3;have w2:IntKind.i64.wrap ((i:Int)+1)=i+1:=wrO;simp[WX,r1,r2,r3,w2,h45]
  ·simp[h45,w1,show ¬ 6<a+b by omega];obtain⟨j,h1,h2⟩:=jB (Ex.ok (a+b)) p.exprs;rw[aV (WX p a b (a+b) true 1 0 false 0 0 false) j (by simp[WX,h45])]
   ·rw[aF]
    rcases h2 with ⟨hj,hall⟩|⟨x,h3,_,h5,hall⟩
    ·simp[WX,hj,hall,dL,h45,hs]
    ·have r1:=(zZ.1 h3).1;have r2:=Ex.aJ h3;have r3:=ok_eq (a+b) x;rw[h5]at r3;rw[Ex.aB]at r2 r3;simp[WX,r1,r2,r3,hall,dL,h45,hs]
   ·intro i hi;obtain⟨x,h3,_,h5⟩:=h1 i hi;have r1:=(zZ.1 h3).1;have r2:=Ex.aJ h3;have r3:=ok_eq (a+b) x;rw[h5]at r3;rw[Ex.aB]at r2 r3;have w2:IntKind.i64.wrap ((i:Int)+1)=i+1:=wrO;simp[WX,r1,r2,r3,w2,h45]
 have h4:p.kind≠4:=by omega
 have h5':p.kind≠5:=by omega
 simp[h6,h8,h4,h5'];obtain⟨j,h1,h2⟩:=jB (Ex.ok (a)) p.exprs;rw[aV (WX p a b a false 0 1 false 0 1 false) j (by simp[WX,h6,h8,h5'])]
 ·rw[aF]
  rcases h2 with ⟨hj,hall⟩|⟨x,h3,_,h5,hall⟩
  ·by_cases h3':p.kind=3
   ·simp[WX,hj,hall,dL,h3']
   ·simp[WX,hj,hall,dL,h6,h8,h4,h5',h3']
  ·have r1:=(zZ.1 h3).1;have r2:=Ex.aJ h3;have r3:=ok_eq (a) x;rw[h5]at r3;rw[Ex.aB]at r2 r3;by_cases h3':p.kind=3
   ·simp[WX,r1,r2,r3,hall,dL,h3']
   ·simp[WX,r1,r2,r3,hall,dL,h6,h8,h4,h5',h3']
 ·intro i hi;obtain⟨x,h3,_,h5⟩:=h1 i hi;have r1:=(zZ.1 h3).1;have r2:=Ex.aJ h3;have r3:=ok_eq (a) x;rw[h5]at r3;rw[Ex.aB]at r2 r3;have w2:IntKind.i64.wrap ((i:Int)+1)=i+1:=wrO;simp[WX,r1,r2,r3,w2]
set_option maxHeartbeats 2000000
@[simp] theorem AJJ:jS 1=0:=by decide
@[simp] theorem AIN:gW 1=0:=by decide
@[simp] theorem AJI:jS 2=1:=by decide
@[simp] theorem AIM:gW 2=1:=by decide
@[simp] theorem AJH:jS 3=1:=by decide
@[simp] theorem AIL:gW 3=1:=by decide
@[simp] theorem AJG:jS 4=2:=by decide
@[simp] theorem AIK:gW 4=1:=by decide
@[simp] theorem AJF:jS 5=2:=by decide
@[simp] theorem AIJ:gW 5=1:=by decide
@[simp] theorem AJE:jS 6=2:=by decide
@[simp] theorem AII:gW 6=0:=by decide
@[simp] theorem AJD:jS 7=1:=by decide
@[simp] theorem AIH:gW 7=0:=by decide
@[simp] theorem AJC:jS 8=1:=by decide
@[simp] theorem AIG:gW 8=0:=by decide
theorem OT {k:Int} (h:k≠1∧k≠2∧k≠3∧k≠4∧k≠5∧k≠6∧k≠7∧k≠8):jS k=-1:=by
 unfold jS;rw[if_neg (by omega),if_neg (by omega),if_neg (by omega)]
theorem O0 {ws:List Int} {t:Int} {es:List Ex} {cs:List Int} {ks:List Pn} {lv:Nat} {k:Int} (h:k≠1∧k≠2∧k≠3∧k≠4∧k≠5∧k≠6∧k≠7∧k≠8):aH C0 50 [.i (.iref [.int k, .int t, .isl (Ex.aA es), .isl (aG cs), .isl (Pn.aA ks)]), .i (.isl (aG ws)), .int lv] []=some (.int 0,[]):=by
 rw[aI rfl Try.func50 rfl rfl];have c1:¬ (ks.length:Int)=-1:=by omega
 have hn:=OT h;simp[h.2.2.1,hn,c1]
theorem XH {ws:List Int} {t:Int} {es:List Ex} {cs:List Int} {ks:List Pn} {lv:Nat} (h:¬ ((ks.length:Int)=0∧(es.length:Int)=0∧True∧cs=[])):aH C0 50 [.i (.iref [.int 1, .int t, .isl (Ex.aA es), .isl (aG cs), .isl (Pn.aA ks)]), .i (.isl (aG ws)), .int lv] []=some (.int 0,[]):=by
 rw[aI rfl Try.func50 rfl rfl];by_cases c1:(ks.length:Int)=0
 case neg=>simp at c1;simp[c1]
 by_cases c2:(es.length:Int)=0
 case neg=>simp at c2;simp[c1,c2]
 by_cases c5:cs=[]
 case neg=>simp[c1,c2,c5]
 exact absurd (by simp[c1,c2,c5]) h
theorem XG {ws:List Int} {t:Int} {es:List Ex} {cs:List Int} {ks:List Pn} {lv:Nat} (h:¬ ((ks.length:Int)=1∧(es.length:Int)=1∧lv≠0∧t=0∧cs=[])):aH C0 50 [.i (.iref [.int 2, .int t, .isl (Ex.aA es), .isl (aG cs), .isl (Pn.aA ks)]), .i (.isl (aG ws)), .int lv] []=some (.int 0,[]):=by
 rw[aI rfl Try.func50 rfl rfl];by_cases c1:(ks.length:Int)=1
 case neg=>simp[c1]
 by_cases c2:(es.length:Int)=1
 case neg=>simp[c1,c2]
 by_cases c3:lv=0
 case pos=>subst c3;simp[c1,c2]
 have c3':¬ (lv:Int)=0:=by omega
 by_cases c4:t=0
 case neg=>simp[c1,c2,c3,c3',c4]
 by_cases c5:cs=[]
 case neg=>simp[c1,c2,c3,c3',c4,c5]
 exact absurd (by simp[c1,c2,c3,c3',c4,c5]) h
theorem XF {ws:List Int} {t:Int} {es:List Ex} {cs:List Int} {ks:List Pn} {lv:Nat} (h:¬ ((ks.length:Int)=1∧(es.length:Int)=(if dN es.length=true then(es.length:Int)else 1)∧lv≠0∧t=0∧cs=[])):aH C0 50 [.i (.iref [.int 3, .int t, .isl (Ex.aA es), .isl (aG cs), .isl (Pn.aA ks)]), .i (.isl (aG ws)), .int lv] []=some (.int 0,[]):=by
 rw[aI rfl Try.func50 rfl rfl]
 cases hv:dN es.length
 ·have hq:(es.length:Int)≠1:=fun hq=>by rw[hq]at hv;simp[dN]at hv
  by_cases c1:(ks.length:Int)=1
  case neg=>simp[hv,c1]
  simp[hv,c1,hq]
 by_cases c1:(ks.length:Int)=1
 case neg=>simp[hv,c1]
 by_cases c3:lv=0
 case pos=>subst c3;simp[hv,c1]
 have c3':¬ (lv:Int)=0:=by omega
 by_cases c4:t=0
 case neg=>simp[hv,c1,c3,c3',c4]
 by_cases c5:cs=[]
 case neg=>simp[hv,c1,c3,c3',c4,c5]
 exact absurd (by simp[hv,c1,c3,c4,c5]) h
theorem XE {ws:List Int} {t:Int} {es:List Ex} {cs:List Int} {ks:List Pn} {lv:Nat} (h:¬ ((ks.length:Int)=2∧(es.length:Int)=1∧lv≠0∧t=0∧cs=[])):aH C0 50 [.i (.iref [.int 4, .int t, .isl (Ex.aA es), .isl (aG cs), .isl (Pn.aA ks)]), .i (.isl (aG ws)), .int lv] []=some (.int 0,[]):=by
 rw[aI rfl Try.func50 rfl rfl];by_cases c1:(ks.length:Int)=2
 case neg=>simp[c1]
 by_cases c2:(es.length:Int)=1
 case neg=>simp[c1,c2]
 by_cases c3:lv=0
 case pos=>subst c3;simp[c1,c2]
 have c3':¬ (lv:Int)=0:=by omega
 by_cases c4:t=0
 case neg=>simp[c1,c2,c3,c3',c4]
 by_cases c5:cs=[]
 case neg=>simp[c1,c2,c3,c3',c4,c5]
 exact absurd (by simp[c1,c2,c3,c3',c4,c5]) h
theorem XD {ws:List Int} {t:Int} {es:List Ex} {cs:List Int} {ks:List Pn} {lv:Nat} (h:¬ ((ks.length:Int)=2∧(es.length:Int)=1∧lv≠0∧t=0∧cs=[])):aH C0 50 [.i (.iref [.int 5, .int t, .isl (Ex.aA es), .isl (aG cs), .isl (Pn.aA ks)]), .i (.isl (aG ws)), .int lv] []=some (.int 0,[]):=by
 rw[aI rfl Try.func50 rfl rfl];by_cases c1:(ks.length:Int)=2
 case neg=>simp[c1]
 by_cases c2:(es.length:Int)=1
 case neg=>simp[c1,c2]
 by_cases c3:lv=0
 case pos=>subst c3;simp[c1,c2]
 have c3':¬ (lv:Int)=0:=by omega
 by_cases c4:t=0
 case neg=>simp[c1,c2,c3,c3',c4]
 by_cases c5:cs=[]
 case neg=>simp[c1,c2,c3,c3',c4,c5]
 exact absurd (by simp[c1,c2,c3,c3',c4,c5]) h
theorem XC {ws:List Int} {t:Int} {es:List Ex} {cs:List Int} {ks:List Pn} {lv:Nat} (h:¬ ((ks.length:Int)=2∧(es.length:Int)=0∧lv≠0∧t=0∧cs=[])):aH C0 50 [.i (.iref [.int 6, .int t, .isl (Ex.aA es), .isl (aG cs), .isl (Pn.aA ks)]), .i (.isl (aG ws)), .int lv] []=some (.int 0,[]):=by
 rw[aI rfl Try.func50 rfl rfl];by_cases c1:(ks.length:Int)=2
 case neg=>simp[c1]
 by_cases c2:(es.length:Int)=0
 case neg=>simp at c2;simp[c1,c2]
 by_cases c3:lv=0
 case pos=>subst c3;simp[c1,c2]
 have c3':¬ (lv:Int)=0:=by omega
 by_cases c4:t=0
 case neg=>simp[c1,c2,c3,c3',c4]
 by_cases c5:cs=[]
 case neg=>simp[c1,c2,c3,c3',c4,c5]
 exact absurd (by simp[c1,c2,c3,c3',c4,c5]) h
theorem XB {ws:List Int} {t:Int} {es:List Ex} {cs:List Int} {ks:List Pn} {lv:Nat} (h:¬ ((ks.length:Int)=1∧(es.length:Int)=0∧lv≠0∧t=0∧cs=[])):aH C0 50 [.i (.iref [.int 7, .int t, .isl (Ex.aA es), .isl (aG cs), .isl (Pn.aA ks)]), .i (.isl (aG ws)), .int lv] []=some (.int 0,[]):=by
 rw[aI rfl Try.func50 rfl rfl];by_cases c1:(ks.length:Int)=1
 case neg=>simp[c1]
 by_cases c2:(es.length:Int)=0
 case neg=>simp at c2;simp[c1,c2]
 by_cases c3:lv=0
 case pos=>subst c3;simp[c1,c2]
 have c3':¬ (lv:Int)=0:=by omega
 by_cases c4:t=0
 case neg=>simp[c1,c2,c3,c3',c4]
 by_cases c5:cs=[]
 case neg=>simp[c1,c2,c3,c3',c4,c5]
 exact absurd (by simp[c1,c2,c3,c3',c4,c5]) h
theorem XA {ws:List Int} {t:Int} {es:List Ex} {cs:List Int} {ks:List Pn} {lv:Nat} (h:¬ ((ks.length:Int)=1∧(es.length:Int)=0∧lv≠0∧t=0)):aH C0 50 [.i (.iref [.int 8, .int t, .isl (Ex.aA es), .isl (aG cs), .isl (Pn.aA ks)]), .i (.isl (aG ws)), .int lv] []=some (.int 0,[]):=by
 rw[aI rfl Try.func50 rfl rfl];by_cases c1:(ks.length:Int)=1
 case neg=>simp[c1]
 by_cases c2:(es.length:Int)=0
 case neg=>simp at c2;simp[c1,c2]
 by_cases c3:lv=0
 case pos=>subst c3;simp[c1,c2]
 have c3':¬ (lv:Int)=0:=by omega
 by_cases c4:t=0
 case neg=>simp[c1,c2,c3,c3',c4]
 exact absurd (by simp[c1,c2,c3,c3',c4]) h
theorem TL {ws:List Int} {t:Int} {lv:Nat}:aH C0 50 [.i (.iref [.int 1, .int t, .isl (Ex.aA []), .isl (aG []), .isl (Pn.aA [])]), .i (.isl (aG ws)), .int lv] []=some (.int (if 0≤t then(ws[t.toNat]?).getD 0 else 0),[]):=by
 rw[aI rfl Try.func50 rfl rfl];by_cases h0:0≤t
 case neg=>simp[Ex.aA,Pn.aA,aG,h0,show t<0 by omega]
 cases hx:ws[t.toNat]? with
 | none =>
  have:=List.getElem?_eq_none_iff.1 hx;simp[Ex.aA,Pn.aA,aG,h0,show ¬ t<0 by omega,show(ws.length:Int)≤t by omega]
 | some x =>
  have r1:=(zZ.1 hx).1;have r2:=bH hx;simp[Ex.aA,Pn.aA,aG,h0,show ¬ t<0 by omega,show ¬ (ws.length:Int)≤t by omega,r2,show t<ws.length by omega]
theorem TJ {ws:List Int} {es:List Ex} {a:Pn} {lv:Nat} {va:Int} (hl:lv≠0) (hl8:lv≤8) (hd:Pn.bE (Pn.mk 2 0 es [] [a])=true) (ha:aH C0 50 [.i (.iref a.cells), .i (.isl (aG ws)), .int (lv-1:Nat)] []=some (.int va,[])) (ra:0≤va∧va≤6):aH C0 50 [.i (.iref [.int 2, .int 0, .isl (Ex.aA es), .isl (aG []), .isl (Pn.aA [a])]), .i (.isl (aG ws)), .int lv] []=some (.int (if va=0 then 0 else dL 2 es [] va 0),[]):=by
 rw[aI rfl Try.func50 rfl rfl];have c3':¬ (lv:Int)=0:=by omega
 have w1:IntKind.i64.wrap ((lv:Int)-1)=(lv-1:Nat):=by rw[wrO];omega
 have r0:gB [a.cells] 0=some a.cells:=rfl;have hov:=fO (Pn.mk 2 0 es [] [a]) va 0 ra (by omega) hd;rw[Pn.dB]at hov;simp only[Pn.bI,Pn.bA,Pn.bU,Pn.aA,aG,Ex.aA]at hov;rw[Pn.aB a]at ha hov r0
 have c2:(es.length:Int)=1:=by
  simp only[Pn.bE,zU,yP,Pn.bA,Pn.bI]at hd;simpa using hd.2.1
 simp[c2,hl,c3',Pn.aA,aG,Ex.aA];rw[Pn.aB a];rw[aF];by_cases z1:va=0
 case pos=>simp[w1,ha,r0,z1]
 simp[w1,ha,r0,z1,bZ];rw[aF];simp[hov,z1]
theorem TI {ws:List Int} {es:List Ex} {a:Pn} {lv:Nat} {va:Int} (hl:lv≠0) (hl8:lv≤8) (hd:Pn.bE (Pn.mk 3 0 es [] [a])=true) (ha:aH C0 50 [.i (.iref a.cells), .i (.isl (aG ws)), .int (lv-1:Nat)] []=some (.int va,[])) (ra:0≤va∧va≤6):aH C0 50 [.i (.iref [.int 3, .int 0, .isl (Ex.aA es), .isl (aG []), .isl (Pn.aA [a])]), .i (.isl (aG ws)), .int lv] []=some (.int (if va=0 then 0 else dL 3 es [] va 0),[]):=by
 rw[aI rfl Try.func50 rfl rfl];have c3':¬ (lv:Int)=0:=by omega
 have w1:IntKind.i64.wrap ((lv:Int)-1)=(lv-1:Nat):=by rw[wrO];omega
 have r0:gB [a.cells] 0=some a.cells:=rfl;have hov:=fO (Pn.mk 3 0 es [] [a]) va 0 ra (by omega) hd;rw[Pn.dB]at hov;simp only[Pn.bI,Pn.bA,Pn.bU,Pn.aA,aG,Ex.aA]at hov;rw[Pn.aB a]at ha hov r0
 have hv:dN es.length=true∨(es.length:Int)=1:=by
  simp only[Pn.bE,zU,yP,Pn.bA,Pn.bI]at hd;have:=hd.2.1;split at this
  ·rename_i h;exact .inl h.2
  ·exact .inr (by simpa using this)
 have hv:dN es.length=true:=by
  rcases hv with h|h
  ·exact h
  ·rw[h];decide
 simp[hv,hl,c3',Pn.aA,aG,Ex.aA];rw[Pn.aB a];rw[aF];by_cases z1:va=0
 case pos=>simp[w1,ha,r0,z1]
 simp[w1,ha,r0,z1,bZ];rw[aF];simp[hov,z1]
theorem TG {ws:List Int} {es:List Ex} {a b:Pn} {lv:Nat} {va vb:Int} (hl:lv≠0) (hl8:lv≤8) (hd:Pn.bE (Pn.mk 4 0 es [] [a,b])=true) (ha:aH C0 50 [.i (.iref a.cells), .i (.isl (aG ws)), .int (lv-1:Nat)] []=some (.int va,[])) (ra:0≤va∧va≤6) (hb:aH C0 50 [.i (.iref b.cells), .i (.isl (aG ws)), .int (lv-1:Nat)] []=some (.int vb,[])) (rb:0≤vb∧vb≤6):aH C0 50 [.i (.iref [.int 4, .int 0, .isl (Ex.aA es), .isl (aG []), .isl (Pn.aA [a,b])]), .i (.isl (aG ws)), .int lv] []=some (.int (if va=0∨vb=0 then 0 else dL 4 es [] va vb),[]):=by
 rw[aI rfl Try.func50 rfl rfl];have c3':¬ (lv:Int)=0:=by omega
 have w1:IntKind.i64.wrap ((lv:Int)-1)=(lv-1:Nat):=by rw[wrO];omega
 have r0:gB [a.cells,b.cells] 0=some a.cells:=rfl;have r1:gB [a.cells,b.cells] 1=some b.cells:=rfl;have hov:=fO (Pn.mk 4 0 es [] [a,b]) va vb ra rb hd;rw[Pn.dB]at hov;simp only[Pn.bI,Pn.bA,Pn.bU,Pn.aA,aG,Ex.aA]at hov;rw[Pn.aB a]at ha hov r0 r1;rw[Pn.aB b]at hb hov r0 r1
 have c2:(es.length:Int)=1:=by
  simp only[Pn.bE,zU,yP,Pn.bA,Pn.bI]at hd;simpa using hd.2.1
 simp[c2,hl,c3',Pn.aA,aG,Ex.aA];rw[Pn.aB a,Pn.aB b];rw[aF];by_cases z1:va=0
 case pos=>simp[w1,ha,r0,z1]
 simp[w1,ha,r0,z1,bZ];rw[aF];by_cases z2:vb=0
 case pos=>simp[w1,hb,r1,z2]
 simp[w1,hb,r1,z1,z2,wrap64 (x:=2) (by omega) (by omega)];rw[aF];simp[hov,z1,z2]
theorem TF {ws:List Int} {es:List Ex} {a b:Pn} {lv:Nat} {va vb:Int} (hl:lv≠0) (hl8:lv≤8) (hd:Pn.bE (Pn.mk 5 0 es [] [a,b])=true) (ha:aH C0 50 [.i (.iref a.cells), .i (.isl (aG ws)), .int (lv-1:Nat)] []=some (.int va,[])) (ra:0≤va∧va≤6) (hb:aH C0 50 [.i (.iref b.cells), .i (.isl (aG ws)), .int (lv-1:Nat)] []=some (.int vb,[])) (rb:0≤vb∧vb≤6):aH C0 50 [.i (.iref [.int 5, .int 0, .isl (Ex.aA es), .isl (aG []), .isl (Pn.aA [a,b])]), .i (.isl (aG ws)), .int lv] []=some (.int (if va=0∨vb=0 then 0 else dL 5 es [] va vb),[]):=by
 rw[aI rfl Try.func50 rfl rfl];have c3':¬ (lv:Int)=0:=by omega
 have w1:IntKind.i64.wrap ((lv:Int)-1)=(lv-1:Nat):=by rw[wrO];omega
 have r0:gB [a.cells,b.cells] 0=some a.cells:=rfl;have r1:gB [a.cells,b.cells] 1=some b.cells:=rfl;have hov:=fO (Pn.mk 5 0 es [] [a,b]) va vb ra rb hd;rw[Pn.dB]at hov;simp only[Pn.bI,Pn.bA,Pn.bU,Pn.aA,aG,Ex.aA]at hov;rw[Pn.aB a]at ha hov r0 r1;rw[Pn.aB b]at hb hov r0 r1
 have c2:(es.length:Int)=1:=by
  simp only[Pn.bE,zU,yP,Pn.bA,Pn.bI]at hd;simpa using hd.2.1
 simp[c2,hl,c3',Pn.aA,aG,Ex.aA];rw[Pn.aB a,Pn.aB b];rw[aF];by_cases z1:va=0
 case pos=>simp[w1,ha,r0,z1]
 simp[w1,ha,r0,z1,bZ];rw[aF];by_cases z2:vb=0
 case pos=>simp[w1,hb,r1,z2]
 simp[w1,hb,r1,z1,z2,wrap64 (x:=2) (by omega) (by omega)];rw[aF];simp[hov,z1,z2]
theorem TE {ws:List Int} {a b:Pn} {lv:Nat} {va vb:Int} (hl:lv≠0) (hl8:lv≤8) (hd:Pn.bE (Pn.mk 6 0 [] [] [a,b])=true) (ha:aH C0 50 [.i (.iref a.cells), .i (.isl (aG ws)), .int (lv-1:Nat)] []=some (.int va,[])) (ra:0≤va∧va≤6) (hb:aH C0 50 [.i (.iref b.cells), .i (.isl (aG ws)), .int (lv-1:Nat)] []=some (.int vb,[])) (rb:0≤vb∧vb≤6):aH C0 50 [.i (.iref [.int 6, .int 0, .isl (Ex.aA []), .isl (aG []), .isl (Pn.aA [a,b])]), .i (.isl (aG ws)), .int lv] []=some (.int (if va=0∨vb=0 then 0 else dL 6 [] [] va vb),[]):=by
 rw[aI rfl Try.func50 rfl rfl];have c3':¬ (lv:Int)=0:=by omega
 have w1:IntKind.i64.wrap ((lv:Int)-1)=(lv-1:Nat):=by rw[wrO];omega
 have r0:gB [a.cells,b.cells] 0=some a.cells:=rfl;have r1:gB [a.cells,b.cells] 1=some b.cells:=rfl;have hov:=fO (Pn.mk 6 0 [] [] [a,b]) va vb ra rb hd;rw[Pn.dB]at hov;simp only[Pn.bI,Pn.bA,Pn.bU,Pn.aA,aG,Ex.aA]at hov;rw[Pn.aB a]at ha hov r0 r1;rw[Pn.aB b]at hb hov r0 r1;simp[hl,c3',Pn.aA,aG,Ex.aA];rw[Pn.aB a,Pn.aB b];rw[aF];by_cases z1:va=0
 case pos=>simp[w1,ha,r0,z1]
 simp[w1,ha,r0,z1,bZ];rw[aF];by_cases z2:vb=0
 case pos=>simp[w1,hb,r1,z2]
 simp[w1,hb,r1,z1,z2,wrap64 (x:=2) (by omega) (by omega)];rw[aF];simp[hov,z1,z2]
theorem TD {ws:List Int} {a:Pn} {lv:Nat} {va:Int} (hl:lv≠0) (hl8:lv≤8) (hd:Pn.bE (Pn.mk 7 0 [] [] [a])=true) (ha:aH C0 50 [.i (.iref a.cells), .i (.isl (aG ws)), .int (lv-1:Nat)] []=some (.int va,[])) (ra:0≤va∧va≤6):aH C0 50 [.i (.iref [.int 7, .int 0, .isl (Ex.aA []), .isl (aG []), .isl (Pn.aA [a])]), .i (.isl (aG ws)), .int lv] []=some (.int (if va=0 then 0 else dL 7 [] [] va 0),[]):=by
 rw[aI rfl Try.func50 rfl rfl];have c3':¬ (lv:Int)=0:=by omega
 have w1:IntKind.i64.wrap ((lv:Int)-1)=(lv-1:Nat):=by rw[wrO];omega
 have r0:gB [a.cells] 0=some a.cells:=rfl;have hov:=fO (Pn.mk 7 0 [] [] [a]) va 0 ra (by omega) hd;rw[Pn.dB]at hov;simp only[Pn.bI,Pn.bA,Pn.bU,Pn.aA,aG,Ex.aA]at hov;rw[Pn.aB a]at ha hov r0;simp[hl,c3',Pn.aA,aG,Ex.aA];rw[Pn.aB a];rw[aF];by_cases z1:va=0
 case pos=>simp[w1,ha,r0,z1]
 simp[w1,ha,r0,z1,bZ];rw[aF];simp[hov,z1]
theorem TC {ws:List Int} {cs:List Int} {a:Pn} {lv:Nat} {va:Int} (hl:lv≠0) (hl8:lv≤8) (hd:Pn.bE (Pn.mk 8 0 [] cs [a])=true) (ha:aH C0 50 [.i (.iref a.cells), .i (.isl (aG ws)), .int (lv-1:Nat)] []=some (.int va,[])) (ra:0≤va∧va≤6):aH C0 50 [.i (.iref [.int 8, .int 0, .isl (Ex.aA []), .isl (aG cs), .isl (Pn.aA [a])]), .i (.isl (aG ws)), .int lv] []=some (.int (if va=0 then 0 else dL 8 [] cs va 0),[]):=by
 rw[aI rfl Try.func50 rfl rfl];have c3':¬ (lv:Int)=0:=by omega
 have w1:IntKind.i64.wrap ((lv:Int)-1)=(lv-1:Nat):=by rw[wrO];omega
 have r0:gB [a.cells] 0=some a.cells:=rfl;have hov:=fO (Pn.mk 8 0 [] cs [a]) va 0 ra (by omega) hd;rw[Pn.dB]at hov;simp only[Pn.bI,Pn.bA,Pn.bU,Pn.aA,aG,Ex.aA]at hov;rw[Pn.aB a]at ha hov r0;simp[hl,c3',Pn.aA,aG,Ex.aA];rw[Pn.aB a];rw[aF];by_cases z1:va=0
 case pos=>simp[w1,ha,r0,z1]
 simp[w1,ha,r0,z1,bZ];rw[aF];simp[hov,z1]
theorem kI (k t:Int) (es:List Ex) (cs:List Int) (ks:List Pn):Pn.bE (.mk k t es cs ks)=true↔((ks.length:Int)=jS k∧(es.length:Int)=(if k=3∧dN es.length=true then(es.length:Int)else gW k)∧(k=1∨t=0)∧(k=8∨cs=[])):=by
 unfold Pn.bE;simp only[zU,Bool.or_eq_true,yP];exact Iff.rfl
theorem jT {α:Type} {l:List α} (h:(l.length:Int)=1):∃ a,l=[a]:=List.length_eq_one_iff.1 (by omega)
theorem uF {α:Type} {l:List α} (h:(l.length:Int)=2):∃ a b,l=[a,b]:=by
 match l,h with
 | [a,b],_=>exact⟨a,b,rfl⟩
 | [],h=>simp at h
 | [_],h=>simp at h
 | _::_::_::_,h=>simp at h;omega
theorem fI {α:Type} {l:List α} (h:(l.length:Int)=0):l=[]:=zY.1 (by omega)
theorem GY {ws:List Int} (hw:∀ w∈ws,0≤w∧w≤6):∀ (p:Pn) (lv:Nat),lv≤8→aH C0 50 [.i (.iref p.cells), .i (.isl (aG ws)), .int lv] []=some (.int (p.wd ws lv),[]):=by
 intro p
 induction p using Pn.ind with
 | h k t es cs ks ih =>
  intro lv hlv;rw[Pn.dB];by_cases hh:Pn.bE (.mk k t es cs ks)=true∧(ks=[]∨lv≠0)
  case neg =>
   rw[Pn.ABU hh];rw[kI]at hh
   rcases nX k with rfl|rfl|rfl|rfl|rfl|rfl|rfl|rfl|h
   ·refine XH fun h=>hh ?_
    have:=fI h.1;simp[h.2.1,h.2.2.2,this]
   ·exact XG fun h=>hh (by simp[h.1,h.2.1,h.2.2.1,h.2.2.2.1,h.2.2.2.2])
   ·exact XF fun h=>hh (by refine⟨⟨by simp[h.1],by simpa using h.2.1,by simp[h.2.2.2.1],by simp[h.2.2.2.2]⟩, .inr h.2.2.1⟩)
   ·exact XE fun h=>hh (by simp[h.1,h.2.1,h.2.2.1,h.2.2.2.1,h.2.2.2.2])
   ·exact XD fun h=>hh (by simp[h.1,h.2.1,h.2.2.1,h.2.2.2.1,h.2.2.2.2])
   ·exact XC fun h=>hh (by simp[h.1,fI h.2.1,h.2.2.1,h.2.2.2.1,h.2.2.2.2])
   ·exact XB fun h=>hh (by simp[h.1,fI h.2.1,h.2.2.1,h.2.2.2.1,h.2.2.2.2])
   ·exact XA fun h=>hh (by simp[h.1,fI h.2.1,h.2.2.1,h.2.2.2])
   ·exact O0 h
  have hd:=hh.1;have hx:=Pn.UB ws lv (.mk k t es cs ks);rw[if_pos (by simpa using hh)]at hx;simp only[Pn.bI,Pn.bM,Pn.bA,Pn.bU,Pn.dE]at hx;rw[hx];rw[kI]at hh;obtain⟨⟨h1,h2,h3,h4⟩,h5⟩:=hh;have hr:=fun a=>Pn.GZ hw a (lv-1)
  rcases nX k with rfl|rfl|rfl|rfl|rfl|rfl|rfl|rfl|h
  ·obtain rfl:=fI (by simpa using h1);obtain rfl:es=[]:=fI (by simpa using h2);obtain rfl:cs=[]:=by simpa using h4
   exact TL
  ·obtain⟨a,rfl⟩:=jT (by simpa using h1);obtain rfl:cs=[]:=by simpa using h4
   obtain rfl:t=0:=by simpa using h3
   have hl:lv≠0:=by simpa using h5
   rw[TJ hl hlv hd (ih a (by simp) (lv-1) (by omega)) (hr a)];by_cases z:a.wd ws (lv-1)=0<;>simp[z]
  ·obtain⟨a,rfl⟩:=jT (by simpa using h1);obtain rfl:cs=[]:=by simpa using h4
   obtain rfl:t=0:=by simpa using h3
   have hl:lv≠0:=by simpa using h5
   rw[TI hl hlv hd (ih a (by simp) (lv-1) (by omega)) (hr a)];by_cases z:a.wd ws (lv-1)=0<;>simp[z]
  ·obtain⟨a,b,rfl⟩:=uF (by simpa using h1);obtain rfl:cs=[]:=by simpa using h4
   obtain rfl:t=0:=by simpa using h3
   have hl:lv≠0:=by simpa using h5
   rw[TG hl hlv hd (ih a (by simp) (lv-1) (by omega)) (hr a) (ih b (by simp) (lv-1) (by omega)) (hr b)];by_cases z:a.wd ws (lv-1)=0<;>by_cases z2:b.wd ws (lv-1)=0<;>simp[z,z2]
  ·obtain⟨a,b,rfl⟩:=uF (by simpa using h1);obtain rfl:cs=[]:=by simpa using h4
   obtain rfl:t=0:=by simpa using h3
   have hl:lv≠0:=by simpa using h5
   rw[TF hl hlv hd (ih a (by simp) (lv-1) (by omega)) (hr a) (ih b (by simp) (lv-1) (by omega)) (hr b)];by_cases z:a.wd ws (lv-1)=0<;>by_cases z2:b.wd ws (lv-1)=0<;>simp[z,z2]
  ·obtain⟨a,b,rfl⟩:=uF (by simpa using h1);obtain rfl:es=[]:=fI (by simpa using h2);obtain rfl:cs=[]:=by simpa using h4
   obtain rfl:t=0:=by simpa using h3
   have hl:lv≠0:=by simpa using h5
   rw[TE hl hlv hd (ih a (by simp) (lv-1) (by omega)) (hr a) (ih b (by simp) (lv-1) (by omega)) (hr b)];by_cases z:a.wd ws (lv-1)=0<;>by_cases z2:b.wd ws (lv-1)=0<;>simp[z,z2]
  ·obtain⟨a,rfl⟩:=jT (by simpa using h1);obtain rfl:es=[]:=fI (by simpa using h2);obtain rfl:cs=[]:=by simpa using h4
   obtain rfl:t=0:=by simpa using h3
   have hl:lv≠0:=by simpa using h5
   rw[TD hl hlv hd (ih a (by simp) (lv-1) (by omega)) (hr a)];by_cases z:a.wd ws (lv-1)=0<;>simp[z]
  ·obtain⟨a,rfl⟩:=jT (by simpa using h1);obtain rfl:es=[]:=fI (by simpa using h2);obtain rfl:t=0:=by simpa using h3
   have hl:lv≠0:=by simpa using h5
   rw[TC hl hlv hd (ih a (by simp) (lv-1) (by omega)) (hr a)];by_cases z:a.wd ws (lv-1)=0<;>simp[z]
  ·exact absurd h1 (by rw[OT h];omega)
def VX (ws:List Int) (i:Nat):AS :=
 { env:=[(0, .i (.isl (aG ws))),(2, .bool false),(4,jk i (.int (ws[i-1]?.getD 0))),(12, .bool false),(13, .i (.isl (aG ws))),(14, .int ws.length),(15, .int i),(16,jk i (.bool true)),(21,jk i (.bool false))],st:=[] }
theorem E9 (ws:List Int):aH C0 49 [.i (.isl (aG ws))] []=some (.bool (I9 ws),[]):=by
 rw[aI rfl Try.func49 rfl rfl];by_cases h1:ws.length=0
 ·have:=zY.1 h1;subst this;simp[aG,I9]
 by_cases h4:ws.length≤4
 case neg=>simp[I9,h4,show ¬ (ws.length:Int)<1 by omega,show 4<(ws.length:Int)by omega]
 simp[show ¬ (ws.length:Int)<1 by omega,show ¬ 4<(ws.length:Int)by omega];obtain⟨j,h1',h2⟩:=jB dN ws;rw[aV (VX ws) j (by simp[VX])]
 ·rw[aF]
  rcases h2 with ⟨hj,ha⟩|⟨x,h3,_,h5,ha⟩
  ·simp[VX,hj,I9,h4,ha,show 1≤ws.length by omega]
  ·have r1:=(zZ.1 h3).1;have r2:=bH h3;simp[VX,r1,r2,h5,I9,ha]
 ·intro i hi;obtain⟨x,h3,_,h5⟩:=h1' i hi;have r1:=(zZ.1 h3).1;have r2:=bH h3;have w2:IntKind.i64.wrap ((i:Int)+1)=i+1:=wrO;have h3':ws[i]=x:=(zZ.1 h3).2;simp[VX,r1,r2,h5,w2,h3']
theorem FN {ws:List Int} (h:I9 ws=true):∀ w∈ws,0≤w∧w≤6:=by
 intro w hw;simp only[I9,zU]at h;have:=yV.1 h.2 w hw;simp[dN]at this;omega
theorem vL (p:Pn) (ws:List Int):aH C0 24 [.i (.agg p.cells), .i (.isl (aG ws))] []=some (.int (p.width ws),[]):=by
 rw[aI rfl Try.func24 rfl rfl];have hv:=E9 ws
 cases h:I9 ws with
 | false=>rw[h]at hv;rw[Pn.aB];simp[hv,Pn.width,h]
 | true =>
  rw[h]at hv;have hb:=GY (FN h) p 8 (by omega);rw[show((8:Nat):Int)=8 from rfl]at hb;rw[Pn.aB]at hb ⊢;simp[hv,Pn.width,h,hb]
def only (k t:Int) (es:List Ex) (cs:List Int) (ks:List Pn):Bool:=decide (1≤k∧k≤8) && (decide ((ks.length:Int)=jS k) && (decide ((es.length:Int)=if k=3 then(es.length:Int)else gW k) && ((decide (t=0) || decide (k=1)) && (decide (cs=[]) || decide (k=8)))))
theorem dR (k t:Int) (es:List Ex) (cs:List Int) (ks:List Pn):aH C0 70 [.i (.agg [.int k, .int t, .isl (Ex.aA es), .isl (aG cs), .isl (Pn.aA ks)])] []=some (.bool (only k t es cs ks),[]):=by
 rw[aI rfl Try.func70 rfl rfl]
 rcases nX k with rfl|rfl|rfl|rfl|rfl|rfl|rfl|rfl|h
 case inr.inr.inr.inr.inr.inr.inr.inr =>
  have h1:¬ (1≤k∧k≤8):=by omega
  simp[h.1,h.2.1,h.2.2.1,h.2.2.2.1,h.2.2.2.2.1,h.2.2.2.2.2.1,h1,only]
 case inr.inr.inl =>
  by_cases c1:(ks.length:Int)=1
  case neg=>simp[c1,only]
  by_cases c3:t=0
  case neg=>simp[c1,c3,only]
  by_cases c5:cs=[]<;>simp[c1,c3,c5,only,aG]
 case inl =>
  by_cases c1:ks=[]
  case neg=>simp[c1,only]
  by_cases c2:es=[]
  case neg=>simp[c1,c2,only]
  by_cases c3:t=0<;>by_cases c5:cs=[]<;>simp[c1,c2,c3,c5,only,aG,Ex.aA,Pn.aA]
 case inr.inl =>
  by_cases c1:(ks.length:Int)=1
  case neg=>simp[c1,only]
  by_cases c2:(es.length:Int)=1
  case neg=>simp[c1,c2,only]
  by_cases c3:t=0
  case neg=>simp[c1,c2,c3,only]
  by_cases c5:cs=[]<;>simp[c1,c2,c3,c5,only,aG]
 case inr.inr.inr.inl =>
  by_cases c1:(ks.length:Int)=2
  case neg=>simp[c1,only]
  by_cases c2:(es.length:Int)=1
  case neg=>simp[c1,c2,only]
  by_cases c3:t=0
  case neg=>simp[c1,c2,c3,only]
  by_cases c5:cs=[]<;>simp[c1,c2,c3,c5,only,aG]
 case inr.inr.inr.inr.inl =>
  by_cases c1:(ks.length:Int)=2
  case neg=>simp[c1,only]
  by_cases c2:(es.length:Int)=1
  case neg=>simp[c1,c2,only]
  by_cases c3:t=0
  case neg=>simp[c1,c2,c3,only]
  by_cases c5:cs=[]<;>simp[c1,c2,c3,c5,only,aG]
 case inr.inr.inr.inr.inr.inl =>
  by_cases c1:(ks.length:Int)=2
  case neg=>simp[c1,only]
  by_cases c2:es=[]
  case neg=>simp[c1,c2,only]
  by_cases c3:t=0
  case neg=>simp[c1,c2,c3,only]
  by_cases c5:cs=[]<;>simp[c1,c2,c3,c5,only,aG,Ex.aA]
 case inr.inr.inr.inr.inr.inr.inl =>
  by_cases c1:(ks.length:Int)=1
  case neg=>simp[c1,only]
  by_cases c2:es=[]
  case neg=>simp[c1,c2,only]
  by_cases c3:t=0
  case neg=>simp[c1,c2,c3,only]
  by_cases c5:cs=[]<;>simp[c1,c2,c3,c5,only,aG,Ex.aA]
 case inr.inr.inr.inr.inr.inr.inr.inl =>
  by_cases c1:(ks.length:Int)=1
  case neg=>simp[c1,only]
  by_cases c2:es=[]
  case neg=>simp[c1,c2,only]
  by_cases c3:t=0
  case neg=>simp[c1,c2,c3,only]
  by_cases c5:cs=[]<;>simp[c1,c2,c3,c5,only,aG,Ex.aA]
theorem ACF {cs:List Int} {w:Int}:∀ {i:Nat},(∀ k,k<i→∃ x,(cs.zip (-1::cs))[k]?=some x∧x∈cs.zip (-1::cs)∧decide (x.2<x.1∧x.1<w)=true)→-1≤pv cs i∧(i≠0→0≤pv cs i)
 | 0,_=>by simp[pv]
 | i+1,h=>by
  obtain⟨x,h3,_,h4⟩:=h i (by omega);obtain⟨c1,c2⟩:=tF h3;rw[V5 c1];have hb:x.2<x.1∧x.1<w:=by simpa using h4
  have:=ACF (i:=i) fun k hk=>h k (by omega)
  omega
def CX (cs:List Int) (w:Int) (i:Nat):AS :=
 { env:=[(0, .i (.isl (aG cs))),(1, .int w),(4, .bool false),(5, .int i),(9,jk i (.bool true)),(35,jk i (.bool false))],st:=[] }
theorem JM (cs:List Int) (w:Int) (hl:cs.length<9223372036854775808) (hw:0≤w∧w≤6):aH C0 73 [.i (.isl (aG cs)), .int w] []=some (.bool (nQ w cs),[]):=by
 rw[aI rfl Try.func73 rfl rfl];have w1:IntKind.i64.wrap (w-1)=w-1:=wrO;simp;obtain⟨j,h1,h2⟩:=jB (fun x:Int×Int=>decide (x.2<x.1∧x.1<w)) (cs.zip (-1::cs));rw[aV (CX cs w) j (by simp[CX])]
 ·rw[aF]
  rcases h2 with ⟨hj,ha⟩|⟨x,h3,_,h4,ha⟩
  ·rw[Q6]at hj;have ha:nQ w cs=true:=ha;simp[CX,hj,ha]
  ·obtain⟨c1,c2⟩:=tF h3;have r1:=(zZ.1 c1).1;have r2:=bH c1;have hb:¬ (x.2<x.1∧x.1<w):=by simpa using h4
   have ha:nQ w cs=false:=ha;have hp:=ACF (i:=j) h1;by_cases hin:0≤x.1∧x.1≤w-1
   ·have hj:j≠0:=fun h=>by subst h;simp[pv]at c2;omega
    obtain⟨j,rfl⟩:∃ i,j=i+1:=⟨j-1,by omega⟩
    have q1:cs[j]?=some x.2:=by
     have:pv cs (j+1)=x.2:=c2;simp only[pv,xR]at this;rw[zV (by omega)]at this ⊢;simpa using this
    have q2:=bH q1;have w4:IntKind.i64.wrap ((j:Int)+1-1)=j:=by rw[wrO];omega
    have w5:IntKind.i64.wrap ((j:Int))=j:=by rw[wrO]
    simp[CX,r1,r2,w1,hin,ha,q2,w4,w5,show(0:Int)<j+1 by omega,show x.1≤x.2 by omega,show(0:Int)≤(j:Int)+1 by omega,show j<cs.length by omega,show((j:Int)+1<cs.length)by omega]
   ·simp[CX,r1,r2,w1,hin,ha]
 ·intro i hi;obtain⟨x,h3,_,h4⟩:=h1 i hi;obtain⟨c1,c2⟩:=tF h3;have r1:=(zZ.1 c1).1;have r2:=bH c1;have hb:x.2<x.1∧x.1<w:=by simpa using h4
  have hp:=ACF (i:=i) fun k hk=>h1 k (by omega)
  have hin:0≤x.1∧x.1≤w-1:=by omega
  have w2:IntKind.i64.wrap ((i:Int)+1)=i+1:=wrO;by_cases h0:i=0
  ·subst h0;simp[CX,r1,r2,w1,hin,bZ]
  ·obtain⟨i,rfl⟩:∃ j,i=j+1:=⟨i-1,by omega⟩
   have q1:cs[i]?=some x.2:=by
    have:pv cs (i+1)=x.2:=c2;simp only[pv,xR]at this;rw[zV (by omega)]at this ⊢;simpa using this
   have q2:=bH q1;have w5:IntKind.i64.wrap ((i:Int))=i:=by rw[wrO]
   have w2':IntKind.i64.wrap ((i:Int)+1+1)=i+1+1:=wrO;simp[CX,r1,r2,w1,hin,q2,w5,w2',show(0:Int)<i+1 by omega,show ¬ x.1≤x.2 by omega,show(0:Int)≤(i:Int)+1 by omega,show i<cs.length by omega,show((i:Int)+1<cs.length)by omega]
def pW (es:List Ex) (w:Int):Int:=if es.all (Ex.ok w)=true∧es.length≤6 then(es.length:Int)else 0
def QX (es:List Ex) (w:Int) (i:Nat):AS :=
 { env:=[(0, .i (.isl (Ex.aA es))),(1, .int w),(4, .int 0),(5, .int i),(9,jk i (.bool true)),(18,jk i (.bool false)),(21, .junk)],st:=[] }
theorem BD (es:List Ex) (w:Int) (hl:es.length<9223372036854775808):aH C0 72 [.i (.isl (Ex.aA es)), .int w] []=some (.int (pW es w),[]):=by
 rw[aI rfl Try.func72 rfl rfl];simp;obtain⟨j,h1,h2⟩:=jB (Ex.ok w) es;rw[aV (QX es w) j (by simp[QX])]
 ·rw[aF]
  rcases h2 with ⟨hj,hall⟩|⟨x,h3,_,h5,hall⟩
  ·by_cases h6:es.length≤6
   ·have hq:pW es w=es.length:=if_pos ⟨hall,h6⟩;simp[QX,hj,hq,show ¬ (6:Int)<es.length by omega]
   ·have hq:pW es w=0:=if_neg fun h=>h6 h.2
    simp[QX,hj,hq,show(6:Int)<es.length by omega]
  ·have r1:=(zZ.1 h3).1;have r2:=Ex.aJ h3;have r3:=JY w x;rw[h5]at r3;rw[Ex.aB]at r2 r3;have hq:pW es w=0:=if_neg fun h=>by rw[hall]at h;simp at h
   simp[QX,r1,r2,r3,hq]
 ·intro i hi;obtain⟨x,h3,_,h5⟩:=h1 i hi;have r1:=(zZ.1 h3).1;have r2:=Ex.aJ h3;have r3:=JY w x;rw[h5]at r3;rw[Ex.aB]at r2 r3;have w2:IntKind.i64.wrap ((i:Int)+1)=i+1:=wrO;simp[QX,r1,r2,r3,w2]
def UX (ws:List Int) (i:Nat):AS :=
 { env:=[(0, .i (.isl (aG ws))),(2, .bool false),(3, .int i),(7,jk i (.bool true)),(15,jk i (.bool false))],st:=[] }
theorem AB (ws:List Int) (hl:ws.length<9223372036854775808):aH C0 58 [.i (.isl (aG ws))] []=some (.bool (I9 ws),[]):=by
 rw[aI rfl Try.func58 rfl rfl];simp;obtain⟨j,h1',h2⟩:=jB dN ws;rw[aV (UX ws) j (by simp[UX])]
 ·rw[aF]
  rcases h2 with ⟨hj,ha⟩|⟨x,h3,_,h5,ha⟩
  ·by_cases h4:1≤ws.length∧ws.length≤4
   ·simp[UX,hj,I9,h4,ha,show(1:Int)≤ws.length∧(ws.length:Int)≤4 by omega]
   ·simp[UX,hj,I9,h4,ha,show ¬ ((1:Int)≤ws.length∧(ws.length:Int)≤4)by omega]
  ·have r1:=(zZ.1 h3).1;have r2:=bH h3;have h5:¬ (1≤x∧x≤6):=by simpa [dN]using h5
   simp[UX,r1,r2,h5,I9,ha]
 ·intro i hi;obtain⟨x,h3,_,h5⟩:=h1' i hi;have r1:=(zZ.1 h3).1;have r2:=bH h3;have h5:1≤x∧x≤6:=by simpa [dN]using h5
  have w2:IntKind.i64.wrap ((i:Int)+1)=i+1:=wrO;simp[UX,r1,r2,h5,w2]
theorem YQ {ws:List Int} {k t:Int} {es:List Ex} {cs:List Int} {ks:List Pn} {lv:Nat} (h:¬ (only k t es cs ks=true∧(ks=[]∨lv≠0))):aH C0 59 [.i (.agg [.int k, .int t, .isl (Ex.aA es), .isl (aG cs), .isl (Pn.aA ks)]), .i (.isl (aG ws)), .int lv] []=some (.int 0,[]):=by
 rw[aI rfl Try.func59 rfl rfl];have ho:=dR k t es cs ks
 cases hq:only k t es cs ks with
 | false=>rw[hq]at ho;simp[ho]
 | true =>
  rw[hq]at ho;by_cases hk:ks=[]
  ·exact absurd ⟨hq, .inl hk⟩ h
  by_cases hl:lv=0
  ·have:0<ks.length:=xO.2 hk;subst hl;simp[ho,hk,this]
  ·exact absurd ⟨hq, .inr hl⟩ h
theorem R4 {ws:List Int} {lv:Nat} {t:Int} (ho:only 1 t [] [] []=true) (hw:ws.length<1000000000):aH C0 59 [.i (.agg [.int 1, .int t, .isl (Ex.aA []), .isl (aG []), .isl (Pn.aA [])]), .i (.isl (aG ws)), .int lv] []=some (.int (if 0≤t then(ws[t.toNat]?).getD 0 else 0),[]):=by
 rw[aI rfl Try.func59 rfl rfl];have hf:=dR 1 t [] [] [];rw[ho]at hf;have w1:IntKind.i64.wrap ((ws.length:Int)-1)=ws.length-1:=wrO;simp only[Ex.aA,Pn.aA,aG]at hf ⊢;simp[hf,w1];rw[aF];by_cases h0:0≤t
 case neg=>simp[h0,w1]
 cases hx:ws[t.toNat]? with
 | none =>
  have:=List.getElem?_eq_none_iff.1 hx;simp[h0,w1,show ¬ t≤ws.length-1 by omega]
 | some x =>
  have r1:=(zZ.1 hx).1;have r2:=bH hx;simp[h0,w1,show t≤ws.length-1 by omega,show t<ws.length by omega,r2]
theorem R3 {ws:List Int} {lv:Nat} {a:Pn} {va:Int} {e:Ex} (ho:only 2 0 [e] [] [a]=true) (hl:lv≠0) (hl8:lv≤8) (ha:aH C0 59 [.i (.agg a.cells), .i (.isl (aG ws)), .int (lv-1:Nat)] []=some (.int va,[])) (ra:0≤va∧va≤6):aH C0 59 [.i (.agg [.int 2, .int 0, .isl (Ex.aA [e]), .isl (aG []), .isl (Pn.aA [a])]), .i (.isl (aG ws)), .int lv] []=some (.int (if va=0 then 0 else if e.ok va=true then va else 0),[]):=by
 rw[aI rfl Try.func59 rfl rfl];have hf:=dR 2 0 [e] [] [a];rw[ho]at hf;have c3':¬ (lv:Int)=0:=by omega
 have w1:IntKind.i64.wrap ((lv:Int)-1)=(lv-1:Nat):=by rw[wrO];omega
 have w2:IntKind.i64.wrap (1:Int)=1:=bZ;have w3:IntKind.i64.wrap (2:Int)=2:=wrO;have r0:gB [a.cells] 0=some a.cells:=rfl;simp only[Pn.aA,aG,Ex.aA]at hf ⊢;have q0:gB [e.cells] 0=some e.cells:=rfl;have qe:=JY (va) e;rw[Ex.aB e]at q0 qe hf ⊢;rw[Pn.aB a]at ha r0 hf ⊢;simp[hf,hl,c3'];rw[aF];by_cases z1:va=0
 case pos=>simp[w1,ha,r0,z1]
 simp[w1,w2,ha,r0,z1];rw[aF]
 cases hv:e.ok va<;>rw[hv]at qe<;>simp[z1,q0,qe]
theorem F8 {ws:List Int} {lv:Nat} {a:Pn} {va:Int} {es:List Ex} (ho:only 3 0 es [] [a]=true) (hl:lv≠0) (hl8:lv≤8) (ha:aH C0 59 [.i (.agg a.cells), .i (.isl (aG ws)), .int (lv-1:Nat)] []=some (.int va,[])) (ra:0≤va∧va≤6) (he:es.length<9223372036854775808):aH C0 59 [.i (.agg [.int 3, .int 0, .isl (Ex.aA es), .isl (aG []), .isl (Pn.aA [a])]), .i (.isl (aG ws)), .int lv] []=some (.int (if va=0 then 0 else pW es va),[]):=by
 rw[aI rfl Try.func59 rfl rfl];have hf:=dR 3 0 es [] [a];rw[ho]at hf;have c3':¬ (lv:Int)=0:=by omega
 have w1:IntKind.i64.wrap ((lv:Int)-1)=(lv-1:Nat):=by rw[wrO];omega
 have w2:IntKind.i64.wrap (1:Int)=1:=bZ;have w3:IntKind.i64.wrap (2:Int)=2:=wrO;have r0:gB [a.cells] 0=some a.cells:=rfl;simp only[Pn.aA,aG,Ex.aA]at hf ⊢;rw[Pn.aB a]at ha r0 hf ⊢;simp[hf,hl,c3'];rw[aF];by_cases z1:va=0
 case pos=>simp[w1,ha,r0,z1]
 simp[w1,w2,ha,r0,z1];rw[aF];have hp:=BD es va he;simp[z1,hp]
theorem QZ {ws:List Int} {lv:Nat} {a:Pn} {va:Int} {b:Pn} {vb:Int} {e:Ex} (ho:only 4 0 [e] [] [a,b]=true) (hl:lv≠0) (hl8:lv≤8) (ha:aH C0 59 [.i (.agg a.cells), .i (.isl (aG ws)), .int (lv-1:Nat)] []=some (.int va,[])) (ra:0≤va∧va≤6) (hb:aH C0 59 [.i (.agg b.cells), .i (.isl (aG ws)), .int (lv-1:Nat)] []=some (.int vb,[])) (rb:0≤vb∧vb≤6):aH C0 59 [.i (.agg [.int 4, .int 0, .isl (Ex.aA [e]), .isl (aG []), .isl (Pn.aA [a,b])]), .i (.isl (aG ws)), .int lv] []=some (.int (if va=0∨vb=0 then 0 else if va+vb≤6∧e.ok (va+vb)=true then va+vb else 0),[]):=by
 rw[aI rfl Try.func59 rfl rfl];have hf:=dR 4 0 [e] [] [a,b];rw[ho]at hf;have c3':¬ (lv:Int)=0:=by omega
 have w1:IntKind.i64.wrap ((lv:Int)-1)=(lv-1:Nat):=by rw[wrO];omega
 have w2:IntKind.i64.wrap (1:Int)=1:=bZ;have w3:IntKind.i64.wrap (2:Int)=2:=wrO;have r0:gB [a.cells,b.cells] 0=some a.cells:=rfl;have r1:gB [a.cells,b.cells] 1=some b.cells:=rfl;simp only[Pn.aA,aG,Ex.aA]at hf ⊢;have q0:gB [e.cells] 0=some e.cells:=rfl;have qe:=JY (va+vb) e;rw[Ex.aB e]at q0 qe hf ⊢;rw[Pn.aB a]at ha r0 hf ⊢;rw[Pn.aB a]at r1;rw[Pn.aB b]at hb r0 r1 hf ⊢;simp[hf,hl,c3'];rw[aF];by_cases z1:va=0
 case pos=>simp[w1,ha,r0,z1]
 simp[w1,w2,ha,r0,z1];rw[aF];by_cases z2:vb=0
 case pos=>simp[w1,hb,r1,z2]
 simp[w1,hb,r1,z1,z2,w2,w3];rw[aF];have w4:IntKind.i64.wrap (va+vb)=va+vb:=wrO;by_cases h6:va+vb≤6
 ·cases hv:e.ok (va+vb)<;>rw[hv]at qe<;>simp[z1,z2,q0,qe,w4,h6]
 ·simp[z1,z2,w4,h6]
theorem QY {ws:List Int} {lv:Nat} {a:Pn} {va:Int} {b:Pn} {vb:Int} {e:Ex} (ho:only 5 0 [e] [] [a,b]=true) (hl:lv≠0) (hl8:lv≤8) (ha:aH C0 59 [.i (.agg a.cells), .i (.isl (aG ws)), .int (lv-1:Nat)] []=some (.int va,[])) (ra:0≤va∧va≤6) (hb:aH C0 59 [.i (.agg b.cells), .i (.isl (aG ws)), .int (lv-1:Nat)] []=some (.int vb,[])) (rb:0≤vb∧vb≤6):aH C0 59 [.i (.agg [.int 5, .int 0, .isl (Ex.aA [e]), .isl (aG []), .isl (Pn.aA [a,b])]), .i (.isl (aG ws)), .int lv] []=some (.int (if va=0∨vb=0 then 0 else if va+vb≤6∧e.ok (va+vb)=true then va+vb else 0),[]):=by
 rw[aI rfl Try.func59 rfl rfl];have hf:=dR 5 0 [e] [] [a,b];rw[ho]at hf;have c3':¬ (lv:Int)=0:=by omega
 have w1:IntKind.i64.wrap ((lv:Int)-1)=(lv-1:Nat):=by rw[wrO];omega
 have w2:IntKind.i64.wrap (1:Int)=1:=bZ;have w3:IntKind.i64.wrap (2:Int)=2:=wrO;have r0:gB [a.cells,b.cells] 0=some a.cells:=rfl;have r1:gB [a.cells,b.cells] 1=some b.cells:=rfl;simp only[Pn.aA,aG,Ex.aA]at hf ⊢;have q0:gB [e.cells] 0=some e.cells:=rfl;have qe:=JY (va+vb) e;rw[Ex.aB e]at q0 qe hf ⊢;rw[Pn.aB a]at ha r0 hf ⊢;rw[Pn.aB a]at r1;rw[Pn.aB b]at hb r0 r1 hf ⊢;simp[hf,hl,c3'];rw[aF];by_cases z1:va=0
 case pos=>simp[w1,ha,r0,z1]
 simp[w1,w2,ha,r0,z1];rw[aF];by_cases z2:vb=0
 case pos=>simp[w1,hb,r1,z2]
 simp[w1,hb,r1,z1,z2,w2,w3];rw[aF];have w4:IntKind.i64.wrap (va+vb)=va+vb:=wrO;by_cases h6:va+vb≤6
 ·cases hv:e.ok (va+vb)<;>rw[hv]at qe<;>simp[z1,z2,q0,qe,w4,h6]
 ·simp[z1,z2,w4,h6]
theorem QW {ws:List Int} {lv:Nat} {a:Pn} {va:Int} {b:Pn} {vb:Int} (ho:only 6 0 [] [] [a,b]=true) (hl:lv≠0) (hl8:lv≤8) (ha:aH C0 59 [.i (.agg a.cells), .i (.isl (aG ws)), .int (lv-1:Nat)] []=some (.int va,[])) (ra:0≤va∧va≤6) (hb:aH C0 59 [.i (.agg b.cells), .i (.isl (aG ws)), .int (lv-1:Nat)] []=some (.int vb,[])) (rb:0≤vb∧vb≤6):aH C0 59 [.i (.agg [.int 6, .int 0, .isl (Ex.aA []), .isl (aG []), .isl (Pn.aA [a,b])]), .i (.isl (aG ws)), .int lv] []=some (.int (if va=0∨vb=0 then 0 else if va=vb then va else 0),[]):=by
 rw[aI rfl Try.func59 rfl rfl];have hf:=dR 6 0 [] [] [a,b];rw[ho]at hf;have c3':¬ (lv:Int)=0:=by omega
 have w1:IntKind.i64.wrap ((lv:Int)-1)=(lv-1:Nat):=by rw[wrO];omega
 have w2:IntKind.i64.wrap (1:Int)=1:=bZ;have w3:IntKind.i64.wrap (2:Int)=2:=wrO;have r0:gB [a.cells,b.cells] 0=some a.cells:=rfl;have r1:gB [a.cells,b.cells] 1=some b.cells:=rfl;simp only[Pn.aA,aG,Ex.aA]at hf ⊢;rw[Pn.aB a]at ha r0 hf ⊢;rw[Pn.aB a]at r1;rw[Pn.aB b]at hb r0 r1 hf ⊢;simp[hf,hl,c3'];rw[aF];by_cases z1:va=0
 case pos=>simp[w1,ha,r0,z1]
 simp[w1,w2,ha,r0,z1];rw[aF];by_cases z2:vb=0
 case pos=>simp[w1,hb,r1,z2]
 simp[w1,hb,r1,z1,z2,w2,w3];rw[aF];by_cases h6:va=vb<;>simp[z1,z2,h6]
theorem QV {ws:List Int} {lv:Nat} {a:Pn} {va:Int} (ho:only 7 0 [] [] [a]=true) (hl:lv≠0) (hl8:lv≤8) (ha:aH C0 59 [.i (.agg a.cells), .i (.isl (aG ws)), .int (lv-1:Nat)] []=some (.int va,[])) (ra:0≤va∧va≤6):aH C0 59 [.i (.agg [.int 7, .int 0, .isl (Ex.aA []), .isl (aG []), .isl (Pn.aA [a])]), .i (.isl (aG ws)), .int lv] []=some (.int (if va=0 then 0 else va),[]):=by
 rw[aI rfl Try.func59 rfl rfl];have hf:=dR 7 0 [] [] [a];rw[ho]at hf;have c3':¬ (lv:Int)=0:=by omega
 have w1:IntKind.i64.wrap ((lv:Int)-1)=(lv-1:Nat):=by rw[wrO];omega
 have w2:IntKind.i64.wrap (1:Int)=1:=bZ;have w3:IntKind.i64.wrap (2:Int)=2:=wrO;have r0:gB [a.cells] 0=some a.cells:=rfl;simp only[Pn.aA,aG,Ex.aA]at hf ⊢;rw[Pn.aB a]at ha r0 hf ⊢;simp[hf,hl,c3'];rw[aF];by_cases z1:va=0
 case pos=>simp[w1,ha,r0,z1]
 simp[w1,w2,ha,r0,z1];rw[aF];simp[z1]
theorem QU {ws:List Int} {lv:Nat} {a:Pn} {va:Int} {cs:List Int} (ho:only 8 0 [] cs [a]=true) (hl:lv≠0) (hl8:lv≤8) (ha:aH C0 59 [.i (.agg a.cells), .i (.isl (aG ws)), .int (lv-1:Nat)] []=some (.int va,[])) (ra:0≤va∧va≤6) (hc:cs.length<9223372036854775808):aH C0 59 [.i (.agg [.int 8, .int 0, .isl (Ex.aA []), .isl (aG cs), .isl (Pn.aA [a])]), .i (.isl (aG ws)), .int lv] []=some (.int (if va=0 then 0 else if cs.length<6∧nQ va cs=true then(cs.length:Int)+1 else 0),[]):=by
 rw[aI rfl Try.func59 rfl rfl];have hf:=dR 8 0 [] cs [a];rw[ho]at hf;have c3':¬ (lv:Int)=0:=by omega
 have w1:IntKind.i64.wrap ((lv:Int)-1)=(lv-1:Nat):=by rw[wrO];omega
 have w2:IntKind.i64.wrap (1:Int)=1:=bZ;have w3:IntKind.i64.wrap (2:Int)=2:=wrO;have r0:gB [a.cells] 0=some a.cells:=rfl;simp only[Pn.aA,aG,Ex.aA]at hf ⊢;rw[Pn.aB a]at ha r0 hf ⊢;simp[hf,hl,c3'];rw[aF];by_cases z1:va=0
 case pos=>simp[w1,ha,r0,z1]
 simp[w1,w2,ha,r0,z1];rw[aF];have hp:=JM cs va hc ra;by_cases h6:cs.length<6
 ·have w5:IntKind.i64.wrap ((cs.length:Int)+1)=cs.length+1:=wrO
  cases hv:nQ va cs<;>rw[hv]at hp<;>simp[z1,hp,h6,show(cs.length:Int)<6 by omega,w5]
 ·cases hv:nQ va cs<;>rw[hv]at hp<;>simp[z1,hp,h6,show ¬ (cs.length:Int)<6 by omega]
theorem OP (k t:Int) (es:List Ex) (cs:List Int) (ks:List Pn):only k t es cs ks=true↔((1≤k∧k≤8)∧(ks.length:Int)=jS k∧((es.length:Int)=if k=3 then(es.length:Int)else gW k)∧(t=0∨k=1)∧(cs=[]∨k=8)):=by
 unfold only;simp only[zU,Bool.or_eq_true,yP]
theorem H9 {ws:List Int} (hw:∀ w∈ws,0≤w∧w≤6) (hwl:ws.length<1000000000):∀ (p:Pn),p.lim→∀ (lv:Nat),lv≤8→aH C0 59 [.i (.agg p.cells), .i (.isl (aG ws)), .int lv] []=some (.int (p.wd ws lv),[]):=by
 intro p
 induction p using Pn.ind with
 | h k t es cs ks ih =>
  intro hp lv hlv;have hp:=(Pn.BR _).1 hp;simp only[Pn.bA,Pn.bU,Pn.dE]at hp;obtain⟨he,hc,-,hks⟩:=hp;rw[Pn.dB];have hr:=fun a=>Pn.GZ hw a (lv-1)
  by_cases ho:only k t es cs ks=true∧(ks=[]∨lv≠0)
  case neg =>
   rw[YQ ho,Pn.ABU];intro hh;apply ho;refine⟨?_,hh.2⟩;have h:=(kI k t es cs ks).1 hh.1;rw[OP];refine⟨?_,h.1,?_,h.2.2.1.symm,h.2.2.2.symm⟩
   ·rcases MR k with h1|h1|h1|h1<;>omega
   ·by_cases h3:k=3
    ·rw[if_pos h3]
    ·have:=h.2.1;rw[if_neg fun h=>h3 h.1]at this;rw[if_neg h3];exact this
  have hoo:=ho.1;have hq:=(OP k t es cs ks).1 ho.1;obtain⟨h0,h1,h2,h3,h4⟩:=hq;have h5:=ho.2;by_cases hd:Pn.bE (.mk k t es cs ks)=true
  case neg =>
   rw[Pn.ABU fun h=>hd h.1]
   have hk3:k=3∧¬ dN es.length=true∧(es.length:Int)≠1:=by
    by_cases hk:k=3
    ·refine⟨hk,?_,?_⟩
     ·intro hv;exact hd ((kI k t es cs ks).2 ⟨h1,by rw[if_pos ⟨hk,hv⟩],h3.symm,h4.symm⟩)
     ·intro hv;have:dN es.length=true:=by rw[hv];decide
      exact hd ((kI k t es cs ks).2 ⟨h1,by rw[if_pos ⟨hk,this⟩],h3.symm,h4.symm⟩)
    ·exact absurd ((kI k t es cs ks).2 ⟨h1,by rw[if_neg fun h=>hk h.1];rwa [if_neg hk]at h2,h3.symm,h4.symm⟩) hd
   obtain⟨rfl,hv,hv1⟩:=hk3;obtain⟨a,rfl⟩:=jT (by simpa using h1);obtain rfl:cs=[]:=by simpa using h4
   obtain rfl:t=0:=by simpa using h3
   have hl:lv≠0:=by simpa using h5
   rw[F8 hoo hl hlv (ih a (by simp) (hks a (by simp)) (lv-1) (by omega)) (hr a) he]
   have:pW es (a.wd ws (lv-1))=0:=by
    unfold pW;split
    ·rename_i h;have:¬ (1≤(es.length:Int)∧(es.length:Int)≤6):=by simpa [dN]using hv
     omega
    ·rfl
   simp[this]
  have hx:=Pn.UB ws lv (.mk k t es cs ks);rw[if_pos (by simpa using (⟨hd,h5⟩:_∧_))]at hx;simp only[Pn.bI,Pn.bM,Pn.bA,Pn.bU,Pn.dE]at hx;rw[hx]
  rcases nX k with rfl|rfl|rfl|rfl|rfl|rfl|rfl|rfl|h
  ·obtain rfl:=fI (by simpa using h1);obtain rfl:es=[]:=fI (by simpa using h2);obtain rfl:cs=[]:=by simpa using h4
   exact R4 hoo hwl
  ·obtain⟨a,rfl⟩:=jT (by simpa using h1);obtain⟨e,rfl⟩:=jT (by simpa using h2);obtain rfl:cs=[]:=by simpa using h4
   obtain rfl:t=0:=by simpa using h3
   have hl:lv≠0:=by simpa using h5
   rw[R3 hoo hl hlv (ih a (by simp) (hks a (by simp)) (lv-1) (by omega)) (hr a)];by_cases z:a.wd ws (lv-1)=0<;>simp[z,dL]
  ·obtain⟨a,rfl⟩:=jT (by simpa using h1);obtain rfl:cs=[]:=by simpa using h4
   obtain rfl:t=0:=by simpa using h3
   have hl:lv≠0:=by simpa using h5
   rw[F8 hoo hl hlv (ih a (by simp) (hks a (by simp)) (lv-1) (by omega)) (hr a) he];have h6:=Pn.o8 hd;simp only[Pn.bA]at h6;by_cases z:a.wd ws (lv-1)=0<;>simp[z,dL,pW,h6]
  ·obtain⟨a,b,rfl⟩:=uF (by simpa using h1);obtain⟨e,rfl⟩:=jT (by simpa using h2);obtain rfl:cs=[]:=by simpa using h4
   obtain rfl:t=0:=by simpa using h3
   have hl:lv≠0:=by simpa using h5
   rw[QZ hoo hl hlv (ih a (by simp) (hks a (by simp)) (lv-1) (by omega)) (hr a) (ih b (by simp) (hks b (by simp)) (lv-1) (by omega)) (hr b)];by_cases z:a.wd ws (lv-1)=0<;>by_cases z2:b.wd ws (lv-1)=0<;>simp[z,z2,dL]
  ·obtain⟨a,b,rfl⟩:=uF (by simpa using h1);obtain⟨e,rfl⟩:=jT (by simpa using h2);obtain rfl:cs=[]:=by simpa using h4
   obtain rfl:t=0:=by simpa using h3
   have hl:lv≠0:=by simpa using h5
   rw[QY hoo hl hlv (ih a (by simp) (hks a (by simp)) (lv-1) (by omega)) (hr a) (ih b (by simp) (hks b (by simp)) (lv-1) (by omega)) (hr b)];by_cases z:a.wd ws (lv-1)=0<;>by_cases z2:b.wd ws (lv-1)=0<;>simp[z,z2,dL]
  ·obtain⟨a,b,rfl⟩:=uF (by simpa using h1);obtain rfl:es=[]:=fI (by simpa using h2);obtain rfl:cs=[]:=by simpa using h4
   obtain rfl:t=0:=by simpa using h3
   have hl:lv≠0:=by simpa using h5
   rw[QW hoo hl hlv (ih a (by simp) (hks a (by simp)) (lv-1) (by omega)) (hr a) (ih b (by simp) (hks b (by simp)) (lv-1) (by omega)) (hr b)];by_cases z:a.wd ws (lv-1)=0<;>by_cases z2:b.wd ws (lv-1)=0<;>simp[z,z2,dL]
  ·obtain⟨a,rfl⟩:=jT (by simpa using h1);obtain rfl:es=[]:=fI (by simpa using h2);obtain rfl:cs=[]:=by simpa using h4
   obtain rfl:t=0:=by simpa using h3
   have hl:lv≠0:=by simpa using h5
   rw[QV hoo hl hlv (ih a (by simp) (hks a (by simp)) (lv-1) (by omega)) (hr a)];by_cases z:a.wd ws (lv-1)=0<;>simp[z,dL]
  ·obtain⟨a,rfl⟩:=jT (by simpa using h1);obtain rfl:es=[]:=fI (by simpa using h2);obtain rfl:t=0:=by simpa using h3
   have hl:lv≠0:=by simpa using h5
   rw[QU hoo hl hlv (ih a (by simp) (hks a (by simp)) (lv-1) (by omega)) (hr a) hc];by_cases z:a.wd ws (lv-1)=0<;>simp[z,dL]
  ·omega
theorem EO (p:Pn) (hp:p.lim) (ws:List Int) (hl:ws.length<9223372036854775808):aH C0 38 [.i (.agg p.cells), .i (.isl (aG ws))] []=some (.int (p.width ws),[]):=by
 rw[aI rfl Try.func38 rfl rfl];have hv:=AB ws hl
 cases h:I9 ws with
 | false=>rw[h]at hv;rw[Pn.aB];simp[hv,Pn.width,h]
 | true =>
  rw[h]at hv;have h4:ws.length≤4:=by simp[I9]at h;omega
  have hb:=H9 (FN h) (by omega) p hp 8 (by omega);rw[show((8:Nat):Int)=8 from rfl]at hb;rw[Pn.aB]at hb ⊢;simp[hv,Pn.width,h,hb]
def SX (l m:List Int) (i:Nat):AS :=
 { env:=[(0, .i (.isl (aG l))),(1, .i (.isl (aG m))),(4, .bool false),(5,jk i (.int (i-1))),(10, .bool false),(12, .int l.length),(13, .int i),(14,jk i (.bool true)),(24,jk i (.bool false))],st:=[] }
theorem HV {l m:List Int} (hl:l.length<9223372036854775808):aH C0 54 [.i (.isl (aG l)), .i (.isl (aG m))] []=some (.bool (l == m),[]):=by
 rw[aI rfl Try.func54 rfl rfl];by_cases hlm:l.length=m.length
 case neg =>
  have:(l == m)=false:=by simp;intro h;rw[h]at hlm;exact hlm rfl
  simp[show ¬ (l.length:Int)=m.length by omega,this]
 obtain⟨j,h1,h2⟩:=BZ l m hlm;simp[hlm];rw[aV (SX l m) j (by simp[SX,hlm])]
 ·rw[aF]
  rcases h2 with ⟨hj,ha⟩|⟨a,b,k1,k2,k3,ha⟩
  ·simp[SX,hj,hlm];exact(beq_iff_eq.1 ha)
  ·have r1:=(zZ.1 k1).1;have s1:=bH k1;have s2:=bH k2;have ha:=beq_eq_false_iff_ne.1 ha;have r3:=(zZ.1 k2).1;simp[SX,r1,r3,s1,s2,k3,ha]
 ·intro i hi;obtain⟨a,k1,k2⟩:=h1 i hi;have r1:=(zZ.1 k1).1;have s1:=bH k1;have s2:=bH k2;have w2:IntKind.i64.wrap ((i:Int)+1)=i+1:=wrO;have r3:=(zZ.1 k2).1;simp[SX,r1,r3,s1,s2,w2]
def EX (a b:Ex) (i:Nat):AS :=
 { env:=[(0, .i (.iref [.int a.kind, .int a.col, .bool a.val.null, .int a.val.n, .isl (Ex.aA a.kids)])),(1, .i (.iref [.int b.kind, .int b.col, .bool b.val.null, .int b.val.n, .isl (Ex.aA b.kids)])),(4, .bool false),(5,jk i (.int (i-1))),(49, .bool false),(54, .int a.kids.length),(55, .int i),(56,jk i (.bool true)),(71,jk i (.bool false))],st:=[] }
theorem NM {a b:Ex} (hl:a.kids.length<1000000000) (ih:∀ x∈a.kids,∀ y,aH C0 55 [.i (.iref x.cells), .i (.iref y.cells)] []=some (.bool (x.eqb y),[])) :
 aH C0 55 [.i (.iref a.cells), .i (.iref b.cells)] []=some (.bool (a.eqb b),[]):=by
 rw[aI rfl Try.func55 rfl rfl,Ex.aB,Ex.aB,Ex.D9];by_cases h1:a.kind=b.kind
 case neg=>simp[h1]
 by_cases h2:a.col=b.col
 case neg=>simp[h1,h2]
 cases h3:(a.val.null == b.val.null && a.val.n == b.val.n)with
 | false=>simp[h1,h2,h3]
 | true =>
 by_cases h5:a.kids.length=b.kids.length
 case neg=>simp[h1,h2,h3,show ¬ (a.kids.length:Int)=b.kids.length by omega,Ex.kD _ _ h5]
 obtain⟨j,u1,u2⟩:=Ex.iM _ _ h5;simp[h1,h2,h3,h5];rw[aV (EX a b) j (by simp[EX,h1,h2,h5])]
 ·rw[aF]
  rcases u2 with ⟨hj,ha⟩|⟨x,y,k1,k2,k3,k4,ha⟩
  ·simp[EX,hj,h5,ha]
  ·have r1:=(zZ.1 k1).1;have r3:=(zZ.1 k2).1;have s1:=Ex.aJ k1;have s2:=Ex.aJ k2;have hc:=ih x k3 y;rw[Ex.aB]at s1 s2;rw[Ex.aB,Ex.aB]at hc;simp[EX,r1,r3,s1,s2,ha,hc,k4]
 ·intro i hi;obtain⟨x,y,k1,k2,k3,k4⟩:=u1 i hi;have r1:=(zZ.1 k1).1;have r3:=(zZ.1 k2).1;have s1:=Ex.aJ k1;have s2:=Ex.aJ k2;have hc:=ih x k3 y;have w2:IntKind.i64.wrap ((i:Int)+1)=i+1:=wrO;rw[Ex.aB]at s1 s2;rw[Ex.aB,Ex.aB]at hc;simp[EX,r1,r3,s1,s2,hc,k4,w2]
theorem LB:∀ (a:Ex),a.thin→∀ b:Ex,aH C0 55 [.i (.iref a.cells), .i (.iref b.cells)] []=some (.bool (a.eqb b),[]):=by
 intro a
 induction a using Ex.ind with
 | h k c v ks ih =>
  intro ht b;have ht':=(Ex.bL _).1 ht;exact NM ht'.1 fun x hx y=>ih x hx (ht'.2 x hx) y
def OX (p q:Pn) (i:Nat):AS :=
 { env:=[(0, .i (.iref [.int p.kind, .int p.table, .isl (Ex.aA p.exprs), .isl (aG p.cols), .isl (Pn.aA p.kids)])),(1, .i (.iref [.int q.kind, .int q.table, .isl (Ex.aA q.exprs), .isl (aG q.cols), .isl (Pn.aA q.kids)])),(4, .bool false),(5,jk i (.int (i-1))),(6, .junk),(38, .bool false),(62, .bool false),(67, .int p.exprs.length),(68, .int i),(69,jk i (.bool true)),(84,jk i (.bool false)),(90, .junk),(91, .junk),(92, .junk),(107, .junk)],st:=[] }
def OY (p q:Pn) (i:Nat):AS :=
 { env:=[(0, .i (.iref [.int p.kind, .int p.table, .isl (Ex.aA p.exprs), .isl (aG p.cols), .isl (Pn.aA p.kids)])),(1, .i (.iref [.int q.kind, .int q.table, .isl (Ex.aA q.exprs), .isl (aG q.cols), .isl (Pn.aA q.kids)])),(4, .bool false),(5,jk p.exprs.length (.int (p.exprs.length-1))),(6,jk i (.int (i-1))),(38, .bool false),(62, .bool false),(67, .int p.exprs.length),(68, .int p.exprs.length),(69, .bool false),(84,jk p.exprs.length (.bool false)),(90, .int p.kids.length),(91, .int i),(92,jk i (.bool true)),(107,jk i (.bool false))],st:=[] }
theorem NL {p q:Pn} (hp:p.thin) (ih:∀ a∈p.kids,∀ b,aH C0 28 [.i (.iref a.cells), .i (.iref b.cells)] []=some (.bool (a.eqb b),[])) :
 aH C0 28 [.i (.iref p.cells), .i (.iref q.cells)] []=some (.bool (p.eqb q),[]):=by
 have ht:=(Pn.bL _).1 hp;obtain⟨t1,t2,t3,t4,-⟩:=ht;have q2:=HV (l:=p.cols) (m:=q.cols) (by omega);rw[aI rfl Try.func28 rfl rfl,Pn.aB,Pn.aB,Pn.D9];by_cases h1:p.kind=q.kind
 case neg=>simp[h1]
 by_cases h2:p.table=q.table
 case neg=>simp[h1,h2]
 by_cases h4:p.cols=q.cols
 case neg =>
  have hb:(p.cols == q.cols)=false:=by simpa using h4
  rw[hb]at q2;simp[h1,h2,q2,h4]
 have hb:(p.cols == q.cols)=true:=by simpa using h4
 rw[hb,h4]at q2;by_cases h6:p.exprs.length=q.exprs.length
 case neg=>simp[h1,h2,q2,h4,show ¬ (p.exprs.length:Int)=q.exprs.length by omega,Ex.kD _ _ h6]
 by_cases h5:p.kids.length=q.kids.length
 case neg=>simp[h1,h2,q2,h4,h6,show ¬ (p.kids.length:Int)=q.kids.length by omega,Pn.kD _ _ h5]
 simp[h1,h2,h4,q2,h6,h5];obtain⟨j,v1,v2⟩:=Ex.iM _ _ h6;rw[aV (OX p q) j (by simp[OX,h1,h2,h4,h6])]
 ·rw[aF]
  rcases v2 with ⟨hj,ha⟩|⟨a,b,k1,k2,k3,k4,ha⟩
  ·simp[OX,hj,h6];rw[← h6];obtain⟨j,u1,u2⟩:=Pn.iM _ _ h5;rw[aV (OY p q) j (by simp[OY,h6,h5])]
   ·rw[aF]
    rcases u2 with ⟨hj,hb⟩|⟨a,b,k1,k2,k3,k4,hb⟩
    ·simp[OY,hj,h5,ha,hb]
    ·have r1:=(zZ.1 k1).1;have r3:=(zZ.1 k2).1;have s1:=Pn.aJ k1;have s2:=Pn.aJ k2;have hc:=ih a k3 b;rw[Pn.aB]at s1 s2;rw[Pn.aB,Pn.aB]at hc;simp[OY,r1,r3,s1,s2,ha,hb,hc,k4]
   ·intro i hi;obtain⟨a,b,k1,k2,k3,k4⟩:=u1 i hi;have r1:=(zZ.1 k1).1;have r3:=(zZ.1 k2).1;have s1:=Pn.aJ k1;have s2:=Pn.aJ k2;have hc:=ih a k3 b;have w2:IntKind.i64.wrap ((i:Int)+1)=i+1:=wrO;rw[Pn.aB]at s1 s2;rw[Pn.aB,Pn.aB]at hc;simp[OY,r1,r3,s1,s2,hc,k4,w2]
  ·have r1:=(zZ.1 k1).1;have r3:=(zZ.1 k2).1;have s1:=Ex.aJ k1;have s2:=Ex.aJ k2;have hc:=LB a (t2 a k3) b;rw[Ex.aB]at s1 s2;rw[Ex.aB,Ex.aB]at hc;simp[OX,r1,r3,s1,s2,ha,hc,k4]
 ·intro i hi;obtain⟨a,b,k1,k2,k3,k4⟩:=v1 i hi;have r1:=(zZ.1 k1).1;have r3:=(zZ.1 k2).1;have s1:=Ex.aJ k1;have s2:=Ex.aJ k2;have hc:=LB a (t2 a k3) b;have w2:IntKind.i64.wrap ((i:Int)+1)=i+1:=wrO;rw[Ex.aB]at s1 s2;rw[Ex.aB,Ex.aB]at hc;simp[OX,r1,r3,s1,s2,hc,k4,w2]
theorem WR:∀ (p:Pn),p.thin→∀ q:Pn,aH C0 28 [.i (.iref p.cells), .i (.iref q.cells)] []=some (.bool (p.eqb q),[]):=by
 intro p
 induction p using Pn.ind with
 | h k t es cs ks ih =>
  intro ht q;exact NL ht fun a ha b=>ih a ha (((Pn.bL _).1 ht).2.2.2.2 a ha) b
def FX (a b:Ex) (i:Nat):AS :=
 { env:=[(0, .i (.agg [.int a.kind, .int a.col, .bool a.val.null, .int a.val.n, .isl (Ex.aA a.kids)])),(1, .i (.agg [.int b.kind, .int b.col, .bool b.val.null, .int b.val.n, .isl (Ex.aA b.kids)])),(2, .own 0 0),(3, .own 1 0),(4, .bool false),(5, .int i),(33, .bool false),(38,jk i (.bool true)),(52,jk i (.bool false))],
   st:=[some (.box [.int a.kind, .int a.col, .bool a.val.null, .int a.val.n, .i (.isl (Ex.aA a.kids))]),some (.box [.int b.kind, .int b.col, .bool b.val.null, .int b.val.n, .i (.isl (Ex.aA b.kids))])] }
theorem K3 {a b:Ex} (hl:a.kids.length<1000000000) (ih:∀ x∈a.kids,∀ y,aH C0 63 [.i (.agg x.cells), .i (.agg y.cells)] []=some (.bool (x.eqb y),[])) :
 aH C0 63 [.i (.agg a.cells), .i (.agg b.cells)] []=some (.bool (a.eqb b),[]):=by
 rw[aI rfl Try.func63 rfl rfl,Ex.aB,Ex.aB,Ex.D9];by_cases h1:a.kind=b.kind
 case neg=>simp[h1]
 by_cases h2:a.col=b.col
 case neg=>simp[h1,h2]
 cases h3:(a.val.null == b.val.null && a.val.n == b.val.n)with
 | false=>simp[h1,h2,h3]
 | true =>
 by_cases h5:a.kids.length=b.kids.length
 case neg=>simp[h1,h2,h3,show ¬ (a.kids.length:Int)=b.kids.length by omega,Ex.kD _ _ h5]
 obtain⟨j,u1,u2⟩:=Ex.iM _ _ h5;simp[h1,h2,h3,h5];rw[aV (FX a b) j (by simp[FX,h1,h2])]
 ·rw[aF]
  rcases u2 with ⟨hj,ha⟩|⟨x,y,k1,k2,k3,k4,ha⟩
  ·simp[FX,hj,h5,ha]
  ·have r1:=(zZ.1 k1).1;have r3:=(zZ.1 k2).1;have s1:=Ex.aJ k1;have s2:=Ex.aJ k2;have hc:=ih x k3 y;rw[Ex.aB]at s1 s2;rw[Ex.aB,Ex.aB]at hc;simp[FX,r1,r3,s1,s2,ha,hc,k4]
 ·intro i hi;obtain⟨x,y,k1,k2,k3,k4⟩:=u1 i hi;have r1:=(zZ.1 k1).1;have r3:=(zZ.1 k2).1;have s1:=Ex.aJ k1;have s2:=Ex.aJ k2;have hc:=ih x k3 y;have w2:IntKind.i64.wrap ((i:Int)+1)=i+1:=wrO;rw[Ex.aB]at s1 s2;rw[Ex.aB,Ex.aB]at hc;simp[FX,r1,r3,s1,s2,hc,k4,w2]
theorem FH:∀ (a:Ex),a.thin→∀ b:Ex,aH C0 63 [.i (.agg a.cells), .i (.agg b.cells)] []=some (.bool (a.eqb b),[]):=by
 intro a
 induction a using Ex.ind with
 | h k c v ks ih =>
  intro ht b;have ht':=(Ex.bL _).1 ht;exact K3 ht'.1 fun x hx y=>ih x hx (ht'.2 x hx) y
def HX (p q:Pn) (n m:Nat) (i j k:AV) (x51 x65 x70 x83 x88 x102:AV):AS :=
 { env:=[(0, .i (.agg [.int p.kind, .int p.table, .isl (Ex.aA p.exprs), .isl (aG p.cols), .isl (Pn.aA p.kids)])),(1, .i (.agg [.int q.kind, .int q.table, .isl (Ex.aA q.exprs), .isl (aG q.cols), .isl (Pn.aA q.kids)])),(2, .own 0 0),(3, .own 1 0),(4, .bool false),(5,i),(6,j),(7,k),(46, .bool false),(51,x51),(65,x65),(70,x70),(83,x83),(88,x88),(102,x102)],
   st:=[some (.box [.int p.kind, .int p.table, .i (.isl (Ex.aA p.exprs)), .i (.isl (aG p.cols)), .i (.isl (Pn.aA p.kids))]),some (.box [.int q.kind, .int q.table, .i (.isl (Ex.aA q.exprs)), .i (.isl (aG q.cols)), .i (.isl (Pn.aA q.kids))])] }
def H1 (p q:Pn) (i:Nat):AS:=HX p q 0 0 (.int i) .junk .junk (jk i (.bool true)) (jk i (.bool false)) .junk .junk .junk .junk
def H2 (p q:Pn) (i:Nat):AS:=HX p q 0 0 (.int p.exprs.length) (.int i) .junk (.bool false) (jk p.exprs.length (.bool false)) (jk i (.bool true)) (jk i (.bool false)) .junk .junk
def H3 (p q:Pn) (i:Nat):AS:=HX p q 0 0 (.int p.exprs.length) (.int p.cols.length) (.int i) (.bool false) (jk p.exprs.length (.bool false)) (.bool false) (jk p.cols.length (.bool false)) (jk i (.bool true)) (jk i (.bool false))
theorem JZ {p q:Pn} (hp:p.thin) (ih:∀ a∈p.kids,∀ b,aH C0 46 [.i (.agg a.cells), .i (.agg b.cells)] []=some (.bool (a.eqb b),[])) :
 aH C0 46 [.i (.agg p.cells), .i (.agg q.cells)] []=some (.bool (p.eqb q),[]):=by
 have ht:=(Pn.bL _).1 hp;obtain⟨t1,t2,t3,t4,-⟩:=ht;rw[aI rfl Try.func46 rfl rfl,Pn.aB,Pn.aB,Pn.D9];by_cases h1:p.kind=q.kind
 case neg=>simp[h1]
 by_cases h2:p.table=q.table
 case neg=>simp[h1,h2]
 by_cases h6:p.exprs.length=q.exprs.length
 case neg=>simp[h1,h2,show ¬ (p.exprs.length:Int)=q.exprs.length by omega,Ex.kD _ _ h6]
 by_cases h7:p.cols.length=q.cols.length
 case neg =>
  have hb:p.cols≠q.cols:=fun h=>h7 (by rw[h])
  simp[h1,h2,h6,show ¬ (p.cols.length:Int)=q.cols.length by omega,hb]
 by_cases h5:p.kids.length=q.kids.length
 case neg=>simp[h1,h2,h6,h7,show ¬ (p.kids.length:Int)=q.kids.length by omega,Pn.kD _ _ h5]
 simp[h1,h2,h6,h7,h5];obtain⟨j,v1,v2⟩:=Ex.iM _ _ h6;rw[aV (H1 p q) j (by simp[H1,HX,h1,h2])]
 ·rw[aF]
  rcases v2 with ⟨hj,hae⟩|⟨a,b,k1,k2,k3,k4,ha⟩
  ·simp[H1,HX,hj];obtain⟨j,g1,g2⟩:=BZ _ _ h7;rw[aV (H2 p q) j (by simp[H2,HX])]
   ·rw[aF]
    rcases g2 with ⟨hj,hac⟩|⟨a,b,k1,k2,k3,hac⟩
    ·simp[H2,HX,hj];obtain⟨j,u1,u2⟩:=Pn.iM _ _ h5;have hac:=beq_iff_eq.1 hac;rw[aV (H3 p q) j (by simp[H3,HX])]
     ·rw[aF]
      rcases u2 with ⟨hj,hb⟩|⟨a,b,k1,k2,k3,k4,hb⟩
      ·simp[H3,HX,hj,hae,hac,hb]
      ·have r1:=(zZ.1 k1).1;have r3:=(zZ.1 k2).1;have s1:=Pn.aJ k1;have s2:=Pn.aJ k2;have hc:=ih a k3 b;rw[Pn.aB]at s1 s2;rw[Pn.aB,Pn.aB]at hc;simp[H3,HX,r1,r3,s1,s2,hb,hc,k4]
     ·intro i hi;obtain⟨a,b,k1,k2,k3,k4⟩:=u1 i hi;have r1:=(zZ.1 k1).1;have r3:=(zZ.1 k2).1;have s1:=Pn.aJ k1;have s2:=Pn.aJ k2;have hc:=ih a k3 b;have w2:IntKind.i64.wrap ((i:Int)+1)=i+1:=wrO;rw[Pn.aB]at s1 s2;rw[Pn.aB,Pn.aB]at hc;simp[H3,HX,r1,r3,s1,s2,hc,k4,w2]
    ·have r1:=(zZ.1 k1).1;have r3:=(zZ.1 k2).1;have s1:=bH k1;have s2:=bH k2;have hac:=beq_eq_false_iff_ne.1 hac;simp[H2,HX,r1,r3,s1,s2,k3,hac]
   ·intro i hi;obtain⟨a,k1,k2⟩:=g1 i hi;have r1:=(zZ.1 k1).1;have r3:=(zZ.1 k2).1;have s1:=bH k1;have s2:=bH k2;have w2:IntKind.i64.wrap ((i:Int)+1)=i+1:=wrO;simp[H2,HX,r1,r3,s1,s2,w2]
  ·have r1:=(zZ.1 k1).1;have r3:=(zZ.1 k2).1;have s1:=Ex.aJ k1;have s2:=Ex.aJ k2;have hc:=FH a (t2 a k3) b;rw[Ex.aB]at s1 s2;rw[Ex.aB,Ex.aB]at hc;simp[H1,HX,r1,r3,s1,s2,ha,hc,k4]
 ·intro i hi;obtain⟨a,b,k1,k2,k3,k4⟩:=v1 i hi;have r1:=(zZ.1 k1).1;have r3:=(zZ.1 k2).1;have s1:=Ex.aJ k1;have s2:=Ex.aJ k2;have hc:=FH a (t2 a k3) b;have w2:IntKind.i64.wrap ((i:Int)+1)=i+1:=wrO;rw[Ex.aB]at s1 s2;rw[Ex.aB,Ex.aB]at hc;simp[H1,HX,r1,r3,s1,s2,hc,k4,w2]
theorem oW:∀ (p:Pn),p.thin→∀ q:Pn,aH C0 46 [.i (.agg p.cells), .i (.agg q.cells)] []=some (.bool (p.eqb q),[]):=by
 intro p
 induction p using Pn.ind with
 | h k t es cs ks ih =>
  intro ht q;exact JZ ht fun a ha b=>ih a ha (((Pn.bL _).1 ht).2.2.2.2 a ha) b
def KX (p:Pn) (i:Nat):AS :=
 { env:=[(0, .i (.agg [.int p.kind, .int p.table, .isl (Ex.aA p.exprs), .isl (aG p.cols), .isl (Pn.aA p.kids)])),(1, .own 0 0),(2, .own 1 0),(3, .own 2 0),(4, .int i),(5, .junk),(19,jk i (.bool true)),(37, .junk)],
   st:=some (.box [.int p.kind, .int p.table, .i (.isl (Ex.aA p.exprs)), .i (.isl (aG p.cols)), .i (.isl (Pn.aA p.kids))])::some (.box [.int 0, .int 0, .nils, .nils, .nils]) ::
    some (.box [.int p.kind, .int p.table,gro 3 5 i, .osl (if i=0 then 3 else 4) 1 0 p.cols.length, .nils])::(Y5 5 (Ex.aA (p.exprs.take i)) i++[some (.arr 1 (aG p.cols))]) }
def K2 (p:Pn) (i:Nat):AS :=
 { env:=[(0, .i (.agg [.int p.kind, .int p.table, .isl (Ex.aA p.exprs), .isl (aG p.cols), .isl (Pn.aA p.kids)])),(1, .own 0 0),(2, .own 1 0),(3, .own 2 0),(4, .int p.exprs.length),(5, .int i),(19, .bool false),(37,jk i (.bool true))],
   st:=some (.box [.int p.kind, .int p.table, .i (.isl (Ex.aA p.exprs)), .i (.isl (aG p.cols)), .i (.isl (Pn.aA p.kids))])::some (.box [.int 0, .int 0, .nils, .nils, .nils]) ::
    some (.box [.int p.kind, .int p.table,gro 3 5 p.exprs.length, .osl (if p.exprs.length=0 then 3 else 4) 1 0 p.cols.length,gro (if p.exprs.length=0 then 4 else 5) 5 i])::(Y5 5 (Ex.aA p.exprs) p.exprs.length++some (.arr 1 (aG p.cols))::Y5 5 (Pn.aA (p.kids.take i)) i) }
def pcX (p:Pn):AV:=.agg [.int p.kind, .int p.table,gro 0 5 p.exprs.length, .osl (if p.exprs.length=0 then 0 else 1) 1 0 p.cols.length,gro (if p.exprs.length=0 then 1 else 2) 5 p.kids.length]
def pcS (p:Pn):StL:=Y5 5 (Ex.aA p.exprs) p.exprs.length++some (.arr 1 (aG p.cols))::Y5 5 (Pn.aA p.kids) p.kids.length
theorem IW {p:Pn} (hp:p.thin) (ih:∀ a∈p.kids,aH C0 47 [.i (.agg a.cells)] []=some (pcX a,pcS a)) :
 aH C0 47 [.i (.agg p.cells)] []=some (pcX p,pcS p):=by
 have ht:=(Pn.bL _).1 hp;obtain⟨t1,t2,t3,t4,-⟩:=ht;rw[aI rfl Try.func47 rfl rfl,Pn.aB];by_cases hc:p.cols=[]
 ·simp[hc,aG];rw[aV (KX p) p.exprs.length (by simp[KX,hc,aG])]
  ·rw[aF]
   cases hn:p.exprs.length with
   | zero =>
    have he:p.exprs=[]:=zY.1 hn;simp[KX,he,hc,aG,Ex.aA];rw[aV (K2 p) p.kids.length (by simp[K2,he,hc,aG,Ex.aA])]
    ·rw[aF]
     cases hm:p.kids.length with
     | zero =>
      have hk:p.kids=[]:=zY.1 hm;simp[K2,he,hc,aG,hk,Ex.aA,Pn.aA,pcX,pcS]
     | succ m =>
      have hk:p.kids.take (m+1)=p.kids:=zX (by omega);simp[K2,he,hc,aG,hm,hk,Ex.aA,pcX,pcS]
    ·intro i hi;have h3:=zV hi;have hc':=ih _ (zT h3);have r2:=Pn.aJ h3;generalize p.kids[i]=a at h3 hc' r2;have w2:IntKind.i64.wrap ((i:Int)+1)=i+1:=wrO;rw[Pn.aB]at r2 hc';simp only[pcX,pcS]at hc';have hl1:(i+1)*88≤140737488355328:=by omega
     have hl2:min i p.kids.length=i:=by omega
     by_cases a1:a.exprs=[]
     ·by_cases a2:a.kids=[]
      ·simp[a1,a2,Ex.aA,Pn.aA]at hc' r2;by_cases h0:i=0
       ·subst h0;simp[K2,he,hc,aG,hi,r2,hc',bZ,aO h3,Ex.aA,Pn.aA,Pn.aB a,a1,a2]
       ·simp[K2,he,hc,aG,aP h0,aL h0,dI h0,hi,r2,hc',w2,aO h3,Ex.aA,Pn.aA,Pn.aX,hl1,hl2,zJ,Pn.aB a,h0,a1,a2]
      ·have a2':a.kids.length≠0:=fun h=>a2 (zY.1 h)
       simp[a1,aP a2',aL a2',a2,Ex.aA,Pn.aA]at hc' r2;by_cases h0:i=0
       ·subst h0;simp[K2,he,hc,aG,hi,r2,hc',bZ,aO h3,Ex.aA,Pn.aA,Pn.aB a,a1,aP a2',aL a2',a2]
       ·simp[K2,he,hc,aG,aP h0,aL h0,dI h0,hi,r2,hc',w2,aO h3,Ex.aA,Pn.aA,Pn.aX,hl1,hl2,zJ,Pn.aB a,h0,a1,aP a2',aL a2',a2]
     ·by_cases a2:a.kids=[]
      ·have a1':a.exprs.length≠0:=fun h=>a1 (zY.1 h)
       simp[aP a1',aL a1',a1,a2,Ex.aA,Pn.aA]at hc' r2;by_cases h0:i=0
       ·subst h0;simp[K2,he,hc,aG,hi,r2,hc',bZ,aO h3,Ex.aA,Pn.aA,Pn.aB a,aP a1',aL a1',a1,a2]
       ·simp[K2,he,hc,aG,aP h0,aL h0,dI h0,hi,r2,hc',w2,aO h3,Ex.aA,Pn.aA,Pn.aX,hl1,hl2,zJ,Pn.aB a,h0,aP a1',aL a1',a1,a2]
      ·have a1':a.exprs.length≠0:=fun h=>a1 (zY.1 h)
       have a2':a.kids.length≠0:=fun h=>a2 (zY.1 h)
       simp[aP a1',aL a1',a1,aP a2',aL a2',a2,Ex.aA,Pn.aA]at hc' r2;by_cases h0:i=0
       ·subst h0;simp[K2,he,hc,aG,hi,r2,hc',bZ,aO h3,Ex.aA,Pn.aA,Pn.aB a,aP a1',aL a1',a1,aP a2',aL a2',a2]
       ·simp[K2,he,hc,aG,aP h0,aL h0,dI h0,hi,r2,hc',w2,aO h3,Ex.aA,Pn.aA,Pn.aX,hl1,hl2,zJ,Pn.aB a,h0,aP a1',aL a1',a1,aP a2',aL a2',a2]
   | succ n =>
    have he:p.exprs.take (n+1)=p.exprs:=zX (by omega);simp[KX,hn,he,hc,aG];rw[aV (K2 p) p.kids.length (by simp[K2,hn,hc,aG,Ex.aA])]
    ·rw[aF]
     cases hm:p.kids.length with
     | zero =>
      have hk:p.kids=[]:=zY.1 hm;simp[K2,hn,hc,aG,hk,Ex.aA,Pn.aA,pcX,pcS]
     | succ m =>
      have hk:p.kids.take (m+1)=p.kids:=zX (by omega);simp[K2,hn,hc,aG,hm,hk,Ex.aA,pcX,pcS]
    ·intro i hi;have h3:=zV hi;have hc':=ih _ (zT h3);have r2:=Pn.aJ h3;generalize p.kids[i]=a at h3 hc' r2;have w2:IntKind.i64.wrap ((i:Int)+1)=i+1:=wrO;rw[Pn.aB]at r2 hc';simp only[pcX,pcS]at hc';have hl1:(i+1)*88≤140737488355328:=by omega
     have hl2:min i p.kids.length=i:=by omega
     by_cases a1:a.exprs=[]
     ·by_cases a2:a.kids=[]
      ·simp[a1,a2,Ex.aA,Pn.aA]at hc' r2;by_cases h0:i=0
       ·subst h0;simp[K2,hn,hc,aG,hi,r2,hc',bZ,aO h3,Ex.aA,Pn.aA,Pn.aB a,a1,a2]
       ·simp[K2,hn,hc,aG,aP h0,aL h0,dI h0,hi,r2,hc',w2,aO h3,Ex.aA,Pn.aA,Pn.aX,hl1,hl2,zJ,Pn.aB a,h0,a1,a2]
      ·have a2':a.kids.length≠0:=fun h=>a2 (zY.1 h)
       simp[a1,aP a2',aL a2',a2,Ex.aA,Pn.aA]at hc' r2;by_cases h0:i=0
       ·subst h0;simp[K2,hn,hc,aG,hi,r2,hc',bZ,aO h3,Ex.aA,Pn.aA,Pn.aB a,a1,aP a2',aL a2',a2]
       ·simp[K2,hn,hc,aG,aP h0,aL h0,dI h0,hi,r2,hc',w2,aO h3,Ex.aA,Pn.aA,Pn.aX,hl1,hl2,zJ,Pn.aB a,h0,a1,aP a2',aL a2',a2]
     ·by_cases a2:a.kids=[]
      ·have a1':a.exprs.length≠0:=fun h=>a1 (zY.1 h)
       simp[aP a1',aL a1',a1,a2,Ex.aA,Pn.aA]at hc' r2;by_cases h0:i=0
       ·subst h0;simp[K2,hn,hc,aG,hi,r2,hc',bZ,aO h3,Ex.aA,Pn.aA,Pn.aB a,aP a1',aL a1',a1,a2]
       ·simp[K2,hn,hc,aG,aP h0,aL h0,dI h0,hi,r2,hc',w2,aO h3,Ex.aA,Pn.aA,Pn.aX,hl1,hl2,zJ,Pn.aB a,h0,aP a1',aL a1',a1,a2]
      ·have a1':a.exprs.length≠0:=fun h=>a1 (zY.1 h)
       have a2':a.kids.length≠0:=fun h=>a2 (zY.1 h)
       simp[aP a1',aL a1',a1,aP a2',aL a2',a2,Ex.aA,Pn.aA]at hc' r2;by_cases h0:i=0
       ·subst h0;simp[K2,hn,hc,aG,hi,r2,hc',bZ,aO h3,Ex.aA,Pn.aA,Pn.aB a,aP a1',aL a1',a1,aP a2',aL a2',a2]
       ·simp[K2,hn,hc,aG,aP h0,aL h0,dI h0,hi,r2,hc',w2,aO h3,Ex.aA,Pn.aA,Pn.aX,hl1,hl2,zJ,Pn.aB a,h0,aP a1',aL a1',a1,aP a2',aL a2',a2]
  ·intro i hi;have h3:=zV hi;have hc':=DN _ (t2 _ (zT h3));have r2:=Ex.aJ h3;generalize p.exprs[i]=a at h3 hc' r2;have w2:IntKind.i64.wrap ((i:Int)+1)=i+1:=wrO;rw[Ex.aB]at r2 hc';by_cases h0:i=0
   ·subst h0;simp[KX,hc,aG,hi,r2,hc',bZ,aO h3,Ex.aA,Ex.aB a]
   ·simp[KX,hc,aG,aP h0,aL h0,dI h0,hi,r2,hc',w2,aO h3,Ex.aX,show min i p.exprs.length=i by omega,show(i+1)*56≤140737488355328 by omega,zJ,Ex.aB a,h0]
 simp[hc,show p.cols.length*8≤140737488355328 by omega];rw[aV (KX p) p.exprs.length (by simp[KX,hc])]
 ·rw[aF]
  cases hn:p.exprs.length with
  | zero =>
   have he:p.exprs=[]:=zY.1 hn;simp[KX,he,hc,Ex.aA];rw[aV (K2 p) p.kids.length (by simp[K2,he,hc,Ex.aA])]
   ·rw[aF]
    cases hm:p.kids.length with
    | zero =>
     have hk:p.kids=[]:=zY.1 hm;simp[K2,he,hc,hk,Ex.aA,Pn.aA,pcX,pcS]
    | succ m =>
     have hk:p.kids.take (m+1)=p.kids:=zX (by omega);simp[K2,he,hc,hm,hk,Ex.aA,pcX,pcS]
   ·intro i hi;have h3:=zV hi;have hc':=ih _ (zT h3);have r2:=Pn.aJ h3;generalize p.kids[i]=a at h3 hc' r2;have w2:IntKind.i64.wrap ((i:Int)+1)=i+1:=wrO;rw[Pn.aB]at r2 hc';simp only[pcX,pcS]at hc';have hl1:(i+1)*88≤140737488355328:=by omega
    have hl2:min i p.kids.length=i:=by omega
    by_cases a1:a.exprs=[]
    ·by_cases a2:a.kids=[]
     ·simp[a1,a2,Ex.aA,Pn.aA]at hc' r2;by_cases h0:i=0
      ·subst h0;simp[K2,he,hc,hi,r2,hc',bZ,aO h3,Ex.aA,Pn.aA,Pn.aB a,a1,a2]
      ·simp[K2,he,hc,aP h0,aL h0,dI h0,hi,r2,hc',w2,aO h3,Ex.aA,Pn.aA,Pn.aX,hl1,hl2,zJ,Pn.aB a,h0,a1,a2]
     ·have a2':a.kids.length≠0:=fun h=>a2 (zY.1 h)
      simp[a1,aP a2',aL a2',a2,Ex.aA,Pn.aA]at hc' r2;by_cases h0:i=0
      ·subst h0;simp[K2,he,hc,hi,r2,hc',bZ,aO h3,Ex.aA,Pn.aA,Pn.aB a,a1,aP a2',aL a2',a2]
      ·simp[K2,he,hc,aP h0,aL h0,dI h0,hi,r2,hc',w2,aO h3,Ex.aA,Pn.aA,Pn.aX,hl1,hl2,zJ,Pn.aB a,h0,a1,aP a2',aL a2',a2]
    ·by_cases a2:a.kids=[]
     ·have a1':a.exprs.length≠0:=fun h=>a1 (zY.1 h)
      simp[aP a1',aL a1',a1,a2,Ex.aA,Pn.aA]at hc' r2;by_cases h0:i=0
      ·subst h0;simp[K2,he,hc,hi,r2,hc',bZ,aO h3,Ex.aA,Pn.aA,Pn.aB a,aP a1',aL a1',a1,a2]
      ·simp[K2,he,hc,aP h0,aL h0,dI h0,hi,r2,hc',w2,aO h3,Ex.aA,Pn.aA,Pn.aX,hl1,hl2,zJ,Pn.aB a,h0,aP a1',aL a1',a1,a2]
     ·have a1':a.exprs.length≠0:=fun h=>a1 (zY.1 h)
      have a2':a.kids.length≠0:=fun h=>a2 (zY.1 h)
      simp[aP a1',aL a1',a1,aP a2',aL a2',a2,Ex.aA,Pn.aA]at hc' r2;by_cases h0:i=0
      ·subst h0;simp[K2,he,hc,hi,r2,hc',bZ,aO h3,Ex.aA,Pn.aA,Pn.aB a,aP a1',aL a1',a1,aP a2',aL a2',a2]
      ·simp[K2,he,hc,aP h0,aL h0,dI h0,hi,r2,hc',w2,aO h3,Ex.aA,Pn.aA,Pn.aX,hl1,hl2,zJ,Pn.aB a,h0,aP a1',aL a1',a1,aP a2',aL a2',a2]
  | succ n =>
   have he:p.exprs.take (n+1)=p.exprs:=zX (by omega);simp[KX,hn,he,hc];rw[aV (K2 p) p.kids.length (by simp[K2,hn,hc,Ex.aA])]
   ·rw[aF]
    cases hm:p.kids.length with
    | zero =>
     have hk:p.kids=[]:=zY.1 hm;simp[K2,hn,hc,hk,Ex.aA,Pn.aA,pcX,pcS]
    | succ m =>
     have hk:p.kids.take (m+1)=p.kids:=zX (by omega);simp[K2,hn,hc,hm,hk,Ex.aA,pcX,pcS]
   ·intro i hi;have h3:=zV hi;have hc':=ih _ (zT h3);have r2:=Pn.aJ h3;generalize p.kids[i]=a at h3 hc' r2;have w2:IntKind.i64.wrap ((i:Int)+1)=i+1:=wrO;rw[Pn.aB]at r2 hc';simp only[pcX,pcS]at hc';have hl1:(i+1)*88≤140737488355328:=by omega
    have hl2:min i p.kids.length=i:=by omega
    by_cases a1:a.exprs=[]
    ·by_cases a2:a.kids=[]
     ·simp[a1,a2,Ex.aA,Pn.aA]at hc' r2;by_cases h0:i=0
      ·subst h0;simp[K2,hn,hc,hi,r2,hc',bZ,aO h3,Ex.aA,Pn.aA,Pn.aB a,a1,a2]
      ·simp[K2,hn,hc,aP h0,aL h0,dI h0,hi,r2,hc',w2,aO h3,Ex.aA,Pn.aA,Pn.aX,hl1,hl2,zJ,Pn.aB a,h0,a1,a2]
     ·have a2':a.kids.length≠0:=fun h=>a2 (zY.1 h)
      simp[a1,aP a2',aL a2',a2,Ex.aA,Pn.aA]at hc' r2;by_cases h0:i=0
      ·subst h0;simp[K2,hn,hc,hi,r2,hc',bZ,aO h3,Ex.aA,Pn.aA,Pn.aB a,a1,aP a2',aL a2',a2]
      ·simp[K2,hn,hc,aP h0,aL h0,dI h0,hi,r2,hc',w2,aO h3,Ex.aA,Pn.aA,Pn.aX,hl1,hl2,zJ,Pn.aB a,h0,a1,aP a2',aL a2',a2]
    ·by_cases a2:a.kids=[]
     ·have a1':a.exprs.length≠0:=fun h=>a1 (zY.1 h)
      simp[aP a1',aL a1',a1,a2,Ex.aA,Pn.aA]at hc' r2;by_cases h0:i=0
      ·subst h0;simp[K2,hn,hc,hi,r2,hc',bZ,aO h3,Ex.aA,Pn.aA,Pn.aB a,aP a1',aL a1',a1,a2]
      ·simp[K2,hn,hc,aP h0,aL h0,dI h0,hi,r2,hc',w2,aO h3,Ex.aA,Pn.aA,Pn.aX,hl1,hl2,zJ,Pn.aB a,h0,aP a1',aL a1',a1,a2]
     ·have a1':a.exprs.length≠0:=fun h=>a1 (zY.1 h)
      have a2':a.kids.length≠0:=fun h=>a2 (zY.1 h)
      simp[aP a1',aL a1',a1,aP a2',aL a2',a2,Ex.aA,Pn.aA]at hc' r2;by_cases h0:i=0
      ·subst h0;simp[K2,hn,hc,hi,r2,hc',bZ,aO h3,Ex.aA,Pn.aA,Pn.aB a,aP a1',aL a1',a1,aP a2',aL a2',a2]
      ·simp[K2,hn,hc,aP h0,aL h0,dI h0,hi,r2,hc',w2,aO h3,Ex.aA,Pn.aA,Pn.aX,hl1,hl2,zJ,Pn.aB a,h0,aP a1',aL a1',a1,aP a2',aL a2',a2]
 ·intro i hi;have h3:=zV hi;have hc':=DN _ (t2 _ (zT h3));have r2:=Ex.aJ h3;generalize p.exprs[i]=a at h3 hc' r2;have w2:IntKind.i64.wrap ((i:Int)+1)=i+1:=wrO;rw[Ex.aB]at r2 hc';by_cases h0:i=0
  ·subst h0;simp[KX,hc,hi,r2,hc',bZ,aO h3,Ex.aA,Ex.aB a]
  ·simp[KX,hc,aP h0,aL h0,dI h0,hi,r2,hc',w2,aO h3,Ex.aX,show min i p.exprs.length=i by omega,show(i+1)*56≤140737488355328 by omega,zJ,Ex.aB a,h0]
theorem qZ:∀ (p:Pn),p.thin→aH C0 47 [.i (.agg p.cells)] []=some (pcX p,pcS p):=by
 intro p
 induction p using Pn.ind with
 | h k t es cs ks ih =>
  intro ht;exact IW ht fun a ha=>ih a ha (((Pn.bL _).1 ht).2.2.2.2 a ha)
def vB (x:Bool) (v:Pn):Option Blk:=if x=true then some (.fbox v.cells)else some (.box (jE v.cells))
@[simp] theorem AHE (x:Bool) (v:Pn):fJ (vB x v)=[]:=by cases x<;>simp[vB,Pn.aB]
@[simp] theorem AJ4 (r:Nat→Option Nat) (x:Bool) (v:Pn):tK r (vB x v)=vB x v:=by cases x<;>simp[vB,Pn.aB]
@[simp] theorem AIP (x:Bool) (v:Pn):VY (vB x v)=true:=by cases x<;>rfl
def Fst (x:Bool) (v:Pn) (n:Nat) (t:Int):StL:=[vB x v,some (.box [.int n]),some (.box [.int t])]
theorem vX:aH C0 51 [.i (.isl [])] []=some (.nils,[]):=by
 rw[aI rfl Try.func51 rfl rfl];simp
theorem DU {ks:List Ex} (h:ks≠[]) (hl:ks.length<1000000000):aH C0 51 [.i (.isl (Ex.aA ks))] []=some (.osl 0 5 0 ks.length,[some (.arr 5 (Ex.aA ks))]):=by
 rw[aI rfl Try.func51 rfl rfl];have h1:56*(ks.length:Int)≤281474976710656:=by omega
 simp[h,h1];unfold over;simp
theorem vW:aH C0 52 [.i (.isl [])] []=some (.nils,[]):=by
 rw[aI rfl Try.func52 rfl rfl];simp
theorem DT {l:List Int} (h:l≠[]) (hl:l.length<1000000000):aH C0 52 [.i (.isl (aG l))] []=some (.osl 0 1 0 l.length,[some (.arr 1 (aG l))]):=by
 rw[aI rfl Try.func52 rfl rfl];have h1:8*(l.length:Int)≤281474976710656:=by omega
 simp[h,h1];unfold over;simp
set_option maxHeartbeats 4000000
end Go.Proofs.Ytjdfjgmebalaaaa.P
namespace Go.Proofs.Ytjdfjgmebalaaaa.G
open Go Go.Av
set_option maxRecDepth 4000
set_option maxHeartbeats 4000000
noncomputable def ACN:FuncId→Option (List AV→StL→Option (AV×StL))
 | 53=>some LG
 | _=>none
noncomputable def C2:Ctx:={ P:=Try.prog,G:=GS,ownArgs:=fM,keepRes:=keepR,eqT:=G8,prim:=ACN }
@[simp] theorem ASG:C2.P=Try.prog:=(rfl)
@[simp] theorem ASH (f):C2.G f=GS f:=(rfl)
@[simp] theorem ASD (f):C2.ownArgs f=fM f:=(rfl)
@[simp] theorem ASE (f):C2.keepRes f=keepR f:=(rfl)
@[simp] theorem ASF (f):C2.eqT f=G8 f:=(rfl)
@[simp] theorem ASC:C2.tree=false:=(rfl)
theorem YX:PrimOk C2:=by
 have key:∀ g q,C2.prim g=some q→g=53∧q=LG:=by
  intro g q h;have h:ACN g=some q:=h;unfold ACN at h;split at h
  ·injection h with h;exact⟨rfl,h.symm⟩
  ·cases h
 constructor
 ·intro g args st p h;unfold dP at h
  cases hq:C2.prim g with
  | none=>rw[hq]at h;cases h
  | some q =>
   obtain⟨rfl,rfl⟩:=key g q hq;exact⟨Try.f53,Try.func53,by decide,rfl⟩
 ·intro g args stl r stl' h w m φ vs hi hr h0;unfold dP at h
  cases hq:C2.prim g with
  | none=>rw[hq]at h;cases h
  | some q =>
   obtain⟨rfl,rfl⟩:=key g q hq;rw[hq]at h;obtain⟨e,he,hres,hor⟩:=GJ h;injection hres with h1 h2;subst h1;subst h2
   rcases hor with ⟨rfl,rfl⟩|⟨j,es,rfl,rfl,hes⟩
   ·exact oL he hi hr h0
   ·exact GL he hes hi hr h0
theorem lW:SoundOk C2:=l7 (C:=C2) ft nt eqS mo YX
theorem AHO:aH C2 51 [.i (.isl [])] []=some (.nils,[]):=by
 rw[aI rfl Try.func51 rfl rfl];simp
theorem AE1 {ks:List Ex} (h:ks≠[]) (hl:ks.length<1000000000):aH C2 51 [.i (.isl (Ex.aA ks))] []=some (.osl 0 5 0 ks.length,[some (.arr 5 (Ex.aA ks))]):=by
 rw[aI rfl Try.func51 rfl rfl];have h1:56*(ks.length:Int)≤281474976710656:=by omega
 simp[h,h1];unfold over;simp
theorem ABQ:aH C2 52 [.i (.isl [])] []=some (.nils,[]):=by
 rw[aI rfl Try.func52 rfl rfl];simp
theorem X6 {l:List Int} (h:l≠[]) (hl:l.length<1000000000):aH C2 52 [.i (.isl (aG l))] []=some (.osl 0 1 0 l.length,[some (.arr 1 (aG l))]):=by
 rw[aI rfl Try.func52 rfl rfl];have h1:8*(l.length:Int)≤281474976710656:=by omega
 simp[h,h1];unfold over;simp
theorem Q7:aH C2 62 [.i (.isl [])] []=some (.nils,[]):=by
 rw[aI rfl Try.func62 rfl rfl];simp
theorem J2 {ks:List Pn} (h:ks≠[]) (hl:ks.length<1000000000):aH C2 62 [.i (.isl (Pn.aA ks))] []=some (.osl 0 5 0 ks.length,[some (.arr 5 (Pn.aA ks))]):=by
 rw[aI rfl Try.func62 rfl rfl];have h1:88*(ks.length:Int)≤281474976710656:=by omega
 simp[h,h1];unfold over;simp
theorem AHN {e:Ex} {es:List (List IV)} {j:Nat} (h:e.size<1000000000) (he:gB es j=some e.cells):aH C2 53 [.ownE 0 5 j 0] [some (.arr 5 es)]=some (.i (.agg e.cells),[some (.arr 5 es)]):=by
 rw[bG (p:=LG) rfl];exact WW h (by rw[← eY];exact he)
def zp:List AV:=[.int 0, .int 0, .nils, .nils, .nils]
def EV (b3:Nat) (v4 v5 v6 v7 v14 v38 v39 v40 v76 v77 v78:AV):List (Nat×AV):=[(0, .junk),(2, .own 0 0),(3, .i (ptr (b3,0))),(4,v4),(5,v5),(6,v6),(7,v7),(14,v14),(38,v38),(39,v39),(40,v40),(76,v76),(77,v77),(78,v78)]
def jR (l:PL):List (List IV):=l.map fun k=>[ptr k.1]
def SLp (b3:Nat) (todo X:PL):AS:={ env:=EV b3 (.osl 1 1 0 todo.length) .junk .junk .junk .junk .junk .junk .junk .junk .junk .junk,st:=[some (.box zp),some (.arr 1 (jR (todo++X)))] }
def SRp (b3 n o:Nat) (ES:List (List IV)) (v6 v7 v14 v38 v39 v40 v76 v77 v78:AV) (cells:List AV) (L:StL):AS:={ env:=EV b3 (.osl 1 1 0 n) (.own 2 o) v6 v7 v14 v38 v39 v40 v76 v77 v78,st:=some (.box zp)::some (.arr 1 ES)::some (.box cells)::L }
theorem I6:∀ (l:PL),∀ c∈(jR l).flatten,∃ v,c=.lit v
 | [],c,h=>by simp[jR]at h
 | k::l,c,h=>by
  simp only[jR,yT,zF,zW,xL]at h
  rcases h with rfl|h
  ·exact⟨_,rfl⟩
  ·exact I6 l c h
theorem AL (a b x:Option Blk):upd (aT [a,b]) 2 x=aT [a,b,x]:=by
 funext i;rcases i with _|_|_|i<;>simp[aT,upd]
theorem AJQ (b3:Nat) (v4 v5 v5' v6 v7 v14 v38 v39 v40 v76 v77 v78:AV):upd (aQ (EV b3 v4 v5 v6 v7 v14 v38 v39 v40 v76 v77 v78)) 5 v5'=aQ (EV b3 v4 v5' v6 v7 v14 v38 v39 v40 v76 v77 v78):=by
 funext t;simp only[upd,EV,aQ];by_cases h5:t=5
 ·subst h5;simp
 ·simp only[h5,if_false]
def XS (b3 n:Nat) (ES:List (List IV)) (pre post:List Value) (k t:Int) (es:List Ex) (aC aK:AV) (v14:AV) (i:Nat):AS :=
 SRp b3 n pre.length ES (jk i (.int (i-1))) .junk v14 (.int es.length) (.int i) (jk i (.bool true)) .junk .junk .junk (lL pre [.int k, .int t, .osl 3 5 0 es.length,aC,aK] post) [some (.arr 5 (Ex.aA es))]
set_option maxHeartbeats 8000000
def jj:List (Nat×AV):=[(4, .junk),(5, .junk),(6, .junk),(7, .junk),(14, .junk),(38, .junk),(39, .junk),(40, .junk),(76, .junk),(77, .junk),(78, .junk)]
theorem AB0:AE9 (fun _ _ _=>True):=fun _ _ _ _ _ _ _ _=>trivial
theorem ABR:IntKind.i64.wrap 1=1:=wrO
def RWp (init:PL) (b' i:Nat):List (List IV):=jR init++(List.range i).map fun j=>[ptr (b',j*5)]
theorem XQ (init:PL) (b' i:Nat):(RWp init b' i).length=init.length+i:=by simp[RWp,jR]
theorem AAD (init:PL) (b' i:Nat):RWp init b' i++[[ptr (b',i*5)]]=RWp init b' (i+1):=by simp[RWp,zB3]
theorem FV (b:Nat):∀ (o:Nat) (l:List Pn),jR (jZ b o l)=(List.range l.length).map fun j=>[ptr (b,o+j*5)]
 | _,[]=>by simp[jZ,jR]
 | o,a::l=>by
  have ih:=FV b (o+5) l;simp only[jR]at ih ⊢;simp only[jZ,yT,ih,zN,zB0,List.map_map];simp only[List.cons.injEq,Nat.zero_mul,yL,true_and];apply List.map_congr_left;intro j _;simp only[Function.comp,Nat.succ_eq_add_one];rw[show o+5+j*5=o+(j+1)*5 by omega]
theorem KT (b:Nat):∀ (o:Nat) (l:List Pn),(jZ b o l).length=l.length
 | _,[]=>rfl
 | o,a::l=>by simp[jZ,KT b (o+5) l]
theorem KR (b:Nat):∀ (o:Nat) (l:List Pn),((jZ b o l).map fun k=>k.2.size).sum=Pn.aN l
 | _,[]=>by simp[jZ,Pn.aN]
 | o,a::l=>by simp[jZ,Pn.aN,KR b (o+5) l]
theorem KS {b:Nat}:∀ {o:Nat} {l:List Pn},∀ q∈jZ b o l,q.2∈l∧q.1.1=b
 | _,[],q,h=>by simp[jZ]at h
 | o,a::l,q,h=>by
  simp only[jZ,zR]at h
  rcases h with rfl|h
  ·simp
  ·have:=KS q h;exact⟨by simp[this.1],this.2⟩
def iE (es:List Ex):Nat:=if es.length=0 then 100 else 3
def lE (es:List Ex):StL:=if es.length=0 then []else [some (.arr 5 (Ex.aA es))]
def iC (es:List Ex) (cs:List Int):Nat:=if cs.length=0 then 101 else 3+(lE es).length
def lC (es:List Ex) (cs:List Int):StL:=if cs.length=0 then lE es else lE es++[some (.arr 1 (aG cs))]
def iK (es:List Ex) (cs:List Int) (ks:List Pn):Nat:=if ks.length=0 then 102 else 3+(lC es cs).length
def lK (es:List Ex) (cs:List Int) (ks:List Pn):StL:=if ks.length=0 then lC es cs else lC es cs++[some (.arr 5 (Pn.aA ks))]
def YP (b3 n o:Nat) (ES:List (List IV)) (init:PL) (b' nk:Nat) (cells:List AV) (i:Nat):AS :=
 { env:=EV b3 (if i=0 then .osl 1 1 0 n else .osl 3 1 0 (n+i)) (.own 2 o) .junk (jk i (.int (i-1))) (.bool true) .junk .junk .junk (.int nk) (.int i) (jk i (.bool true)),
   st:=some (.box zp)::(if i=0 then some (.arr 1 ES)else none)::some (.box cells)::(if i=0 then []else [some (.arr 1 (RWp init b' i))]) }
theorem UR (a b c:Option Blk):∀ (l:StL) {x:Option Blk},aT (a::b::c::(l++[x])) (3+l.length)=x:=by
 intro l x;rw[rY]
 have:(a::b::c::(l++[x]))[3+l.length]?=some x:=by
  rw[show 3+l.length=l.length+1+1+1 by omega];simp
 rw[this];rfl
theorem DR {p:Pn} (hsz:p.size<1000000000) (hth:p.thin) (hty:p.tiny) {wi:World} {mi:Mem} {vs:List Value} (hi:Inv wi mi (fun _=>none) (aT [])) (hr:RepL mi (fun _=>none) [.i (.iref p.cells)] vs) :
 Calls Try.prog 43 vs.toArray wi (O7 wi mi p):=by
 refine calls_of_wp (fn:=Try.f43) Try.func43 rfl ?_;have hv1:vs.length=1:=by simpa using hr.length.symm
 have g0:GR wi mi 91 (fun id=>id<({ env:=[(0, .i (.iref p.cells))],st:=[] }:AS).st.length) (fun _ _ _=>True) (aQ [(0, .i (.iref p.cells))]) (aT []) { tmps:=vs.toArray++Array.replicate (91-vs.toArray.size) undef,defers:=[] } wi:=by
  refine⟨⟨mi,fun _=>none,hi,?_, .refl _ _ _,fun id h=>absurd rfl h,trivial⟩,by simp;omega,rfl⟩;intro t;have:=tC (m:=mi) (φ:=fun _=>none) (91-vs.toArray.size) hr t
  cases t with
  | zero=>simpa [aQ,wL]using this
  | succ t=>simp only[aQ];simp;exact .junk _
 refine wp_seq (wp_mono (GR.gH lW (G:=GS 43) (S:={ env:=[(0, .i (.iref p.cells))],st:=[] }) (e:=.normal) (S':={ env:=[(0, .i (.iref p.cells)),(2, .own 0 0),(3, .junk)]++jj,st:=[some (.box zp)] }) AB0 (by kernel_rfl) (by simp[zp,jj]) g0) ?_);rintro _ a1 w1 ⟨rfl,g1⟩;refine wp_seq (wp_mono (GR.gH lW (G:=GS 43) (S:={ env:=[(0, .i (.iref p.cells)),(2, .own 0 0),(3, .junk)]++jj,st:=[some (.box zp)] }) (e:=.normal) (S':={ env:=[(0, .i (.iref p.cells)),(2, .own 0 0),(3, .own 1 0)]++jj,st:=[some (.box zp),some (.box (jE p.cells))] }) AB0 (by kernel_rfl) (by rw[Pn.aB];simp[zp,jj]) g1) ?_);rintro _ a2 w2 ⟨rfl,g2⟩
 obtain⟨b3,g3⟩:=g2.AL7 (u:=3) (id:=1) (p:=p) (st':=aT [some (.box zp)]) rfl rfl (by
  intro i blk h
  cases i with
  | zero=>simp[aT]at h;subst h;exact⟨by omega,rfl,by simp[fD,zp]⟩
  | succ i=>simp[aT]at h)
 have g3:=g3 (aQ [(2, .own 0 0),(3, .i (ptr (b3,0)))]) (by
  intro t;simp only[aQ];by_cases h2:t=2
  ·subst h2;exact .inr (.inr ⟨rfl,by simp[aQ,iF,aT,jj]⟩)
  ·by_cases h3:t=3
   ·subst h3;exact .inr (.inl ⟨rfl,rfl⟩)
   ·simp[h2,h3])
 have g3:=g3.ok' (ok':=fun id=>id<({ env:=[(2, .own 0 0),(3, .i (ptr (b3,0)))],st:=[some (.box zp)] }:AS).st.length) (by
  intro i h
  cases i with
  | zero=>simp
  | succ i=>simp[aT]at h)
 refine wp_seq (wp_mono (GR.gH lW (G:=GS 43) (S:={ env:=[(2, .own 0 0),(3, .i (ptr (b3,0)))],st:=[some (.box zp)] }) (e:=.normal) (S':=SLp b3 [((b3,0),p)] []) (RAW.XY _ _ _ _ _) (by kernel_rfl) (by simp[SLp,EV,jR,ptr,zp]) g3) ?_);rintro _ a3 w3 ⟨rfl,g4⟩;clear g0 g1 g2 g3;refine wp_seq (wp_block ?_);refine rO (fun n a w=>∃ (todo X H:PL) (F:List Nat),H.Perm todo∧(todo.map fun k=>k.2.size).sum=n∧n<1000000000∧(∀ q∈todo,q.2.thin∧q.2.tiny)∧GR wi mi 91 (fun id=>id<(SLp b3 todo X).st.length) (RAW wi b3 p F H) (aQ (SLp b3 todo X).env) (aT (SLp b3 todo X).st) a w) ?_ (n:=p.size) ⟨[((b3,0),p)],[],[((b3,0),p)],[], .refl _,by simp,hsz,by simpa using ⟨hth,hty⟩,g4⟩;clear g4;rintro n a w ⟨todo,X,H,F,hperm,hsum,hn,hall,g⟩
 rcases List.eq_nil_or_concat todo with rfl|⟨init,k,rfl⟩
 ·obtain rfl:=List.perm_nil.1 hperm;refine wp_mono (GR.gH lW (G:=GS 43) (S:=SLp b3 [] X) (e:=.exit 0) (S':={ env:=EV b3 (.osl 1 1 0 0) .junk .junk .junk (.bool false) .junk .junk .junk .junk .junk .junk,st:=[some (.box zp),some (.arr 1 (jR X))] }) (RAW.XY _ _ _ _ _) (by kernel_rfl) (by simp[SLp,EV,zp]) g) ?_;rintro _ a5 w5 ⟨rfl,g5⟩;simp only[gK,Exit.then,Exit.inBlock,if_true];obtain⟨v0,v1,v2,v3,v4,post,hone,g6⟩:=g5.AHW (u:=3) (k:=2) rfl rfl (by simp)
  have g6:=(g6 (aQ [(2, .own 0 0),(3, .own 2 0)]) (by
   intro t;simp only[aQ];by_cases h2:t=2
   ·subst h2;exact .inr (.inr (by simp[aQ,EV]))
   ·by_cases h3:t=3
    ·subst h3;exact .inr (.inl ⟨rfl,rfl⟩)
    ·simp[h2,h3])).ok' (ok':=fun id=>id<({ env:=[(2, .own 0 0),(3, .own 2 0)],st:=[some (.box zp),some (.arr 1 (jR X)),some (.box (dV [v0,v1,v2,v3,v4]++dV post))] }:AS).st.length) (by
   intro i h
   simp at h ⊢;omega)
  rw[AL]at g6
  refine wp_mono (GR.gH lW (G:=GS 43) (S:={ env:=[(2, .own 0 0),(3, .own 2 0)],st:=[some (.box zp),some (.arr 1 (jR X)),some (.box (dV [v0,v1,v2,v3,v4]++dV post))] }) (e:=.ret) (S':={ env:=[(0, .junk),(2, .own 0 0),(3, .own 2 0)]++jj,st:=[some (.box (dV [v0,v1,v2,v3,v4])),some (.arr 1 (jR X)),some (.box (dV [v0,v1,v2,v3,v4]++dV post))] }) (CPY.XY _ _ _ _ _ _ _ _) (by kernel_rfl) (by
   have hz:dV [v0,v1,v2,v3,v4]=[.i (.lit v0), .i (.lit v1), .i (.lit v2), .i (.lit v3), .i (.lit v4)]:=rfl;rw[hz]
   simp[zp,jj,CF,FK]) g6) ?_
  rintro _ a6 w6 ⟨rfl,g7⟩;obtain⟨⟨m,φ,q1,q2,q3,q4,q5⟩,q6,q7⟩:=g7
  obtain⟨v,k1,k2⟩:=jM (C:=C2) (fn:=Try.f43) (keep:=false) (na:=0) (S:={ env:=[(0, .junk),(2, .own 0 0),(3, .own 2 0)]++jj,st:=[some (.box (dV [v0,v1,v2,v3,v4])),some (.arr 1 (jR X)),some (.box (dV [v0,v1,v2,v3,v4]++dV post))] }) (r:=.i (.agg [.lit v0, .lit v1, .lit v2, .lit v3, .lit v4])) (stl':=[]) (fun id h=>absurd rfl h) ⟨⟨⟨m,φ,q1,q2,q3,q4, .nil _ _ _⟩,q6,q7⟩,zA8 _⟩ (by
   show finish C2 false [ResultVar.cell 2 31] 0 _=_;have hz:dV [v0,v1,v2,v3,v4]=[.i (.lit v0), .i (.lit v1), .i (.lit v2), .i (.lit v3), .i (.lit v4)]:=rfl;rw[hz]
   simp)
  have hv:v=.agg #[v0,v1,v2,v3,v4]:=by
   obtain⟨_,_,_,e,r,_⟩:=k2;injection e with e;subst e
   cases r with
   | i r=>cases r with
    | agg r =>
     cases r with|cons a0 _ r=>cases r with|cons a1 _ r=>cases r with|cons a2 _ r=>cases r with|cons a3 _ r=>cases r with|cons a4 _ r =>
     cases r
     rw[kQ a0,kQ a1,kQ a2,kQ a3,kQ a4]
  subst hv;refine⟨q7,_,k1,v0,v1,v2,v3,v4,F,m,rfl,hone,q1.mem,⟨q3.size,q3.os,q3.tape,q3.output,q3.block,q3.mle,q3.mnew, .refl _,fun _ _ _ _ e=>by cases e⟩,q5.th,q5.cells,q5.nd,fun f hf=>?_⟩;obtain⟨z1,z2,z3,z4,z5⟩:=q5.all f hf;exact⟨z1,z2,(by intro _ _ _ e;cases e),z4,z5⟩
 ·obtain⟨⟨b,o⟩,x⟩:=k;rw[List.concat_eq_append]at hperm hsum hall g
  have hlen:∀ l:PL,l.length≤(l.map fun k=>k.2.size).sum:=by
   intro l
   induction l with
   | nil=>simp
   | cons a l ih=>have:=Pn.jC a.2;simp;omega
  have hil:=hlen init;simp at hsum;have hq:((b,o),x)∈H:=hperm.mem_iff.2 (by simp);have hxs:=Pn.size_eq x;have hkl:=Pn.dM x.kids;have hpos:(0:Int)<(init.length:Int)+1:=by omega
  have w1:IntKind.i64.wrap (init.length:Int)=init.length:=wrO;generalize hES:jR (init++[((b,o),x)]++X)=ES at *
  have hnth:gB ES init.length=some [ptr (b,o)]:=by
   rw[eY,← hES];simp[jR]
  have hlit:∀ c∈ES.flatten,∃ v,c=.lit v:=by rw[← hES];exact I6 _
  have htake:ES.take init.length=jR init:=by rw[← hES];simp[jR]
  have hESl:init.length≤ES.length:=by rw[← hES];simp[jR]
  have hlt:(init.length:Int)<(init.length:Int)+1:=by omega
  have hlt2:(init.length:Int)≤(init.length:Int)+1:=by omega
  obtain⟨hxt,hxy⟩:=hall ((b,o),x) (by simp);simp only at hxt hxy;refine wp_seq (wp_mono (GR.gH lW (G:=GS 43) (S:=SLp b3 (init++[((b,o),x)]) X) (e:=.normal) (S':={ env:=EV b3 (.osl 1 1 0 (init.length+1)) .junk .junk .junk (.bool true) .junk .junk .junk .junk .junk .junk,st:=[some (.box zp),some (.arr 1 ES)] }) (RAW.XY _ _ _ _ _) (by kernel_rfl) (by simp only[SLp,hES];simp[EV,zp,hpos]) g) ?_);rintro _ a5 w5 ⟨rfl,g5⟩;clear g;refine wp_block ?_;refine wp_seq (wp_mono (GR.gH lW (G:=GS 43) (S:={ env:=EV b3 (.osl 1 1 0 (init.length+1)) .junk .junk .junk (.bool true) .junk .junk .junk .junk .junk .junk,st:=[some (.box zp),some (.arr 1 ES)] }) (e:=.normal) (S':={ env:=EV b3 (.osl 1 1 0 (init.length+1)) (.i (ptr (b,o))) .junk .junk (.bool true) .junk .junk .junk .junk .junk .junk,st:=[some (.box zp),some (.arr 1 ES)] }) (RAW.XY _ _ _ _ _) (by kernel_rfl) (by simp only[ptr]at hnth;simp[EV,ptr,zp,hnth,w1,hlt]) g5) ?_);rintro _ a6 w6 ⟨rfl,g6⟩;clear g5;refine wp_seq (wp_mono (GR.gH lW (G:=GS 43) (S:={ env:=EV b3 (.osl 1 1 0 (init.length+1)) (.i (ptr (b,o))) .junk .junk (.bool true) .junk .junk .junk .junk .junk .junk,st:=[some (.box zp),some (.arr 1 ES)] }) (e:=.normal) (S':={ env:=EV b3 (.osl 1 1 0 init.length) (.i (ptr (b,o))) .junk .junk (.bool true) .junk .junk .junk .junk .junk .junk,st:=[some (.box zp),some (.arr 1 ES)] }) (RAW.XY _ _ _ _ _) (by kernel_rfl) (by simp[EV,ptr,zp,w1,hlt2]) g6) ?_);rintro _ a7 w7 ⟨rfl,g7⟩;clear g6;obtain⟨pre,post,us,ma,e1,e2,e3,e4,e5,g8⟩:=g7.O4 (u:=5) (y:=x) rfl (by simp) hq rfl;clear g7;rw[AJQ,AL]at g8;subst e3;obtain⟨kd,tb,es,cs,ks⟩:=x;obtain⟨t1,t2,t3,t4,t5⟩:=(Pn.bL _).1 hxt;obtain⟨y1,y2⟩:=(Pn.rU _).1 hxy;simp only[Pn.dE,Pn.bA,Pn.bU]at t1 t2 t3 t4 t5 y1 y2 hxs hkl;rw[Pn.dB]at g8;have hst:=ADP.XY wi b3 p F H b us w7 ma
  refine wp_seq (wp_mono (GR.gH lW (G:=GS 43) (S:=SRp b3 init.length pre.length ES .junk .junk (.bool true) .junk .junk .junk .junk .junk .junk (lL pre [.int kd, .int tb, .i (.isl (Ex.aA es)), .i (.isl (aG cs)), .i (.isl (Pn.aA ks))] post) []) (e:=.normal) (S':=SRp b3 init.length pre.length ES .junk .junk (.bool true) .junk .junk .junk .junk .junk .junk (lL pre [.int kd, .int tb,slA es.length (iE es) 5, .i (.isl (aG cs)), .i (.isl (Pn.aA ks))] post) (lE es)) hst (by kernel_rfl) (by
   by_cases he:es=[]
   ·subst he;simp[SRp,EV,zp,AEH,R5,aW,bJ,Ex.aA,AHO,slA,lE]
   ·have hel:es.length≠0:=fun h=>he (zY.1 h)
    simp[SRp,EV,zp,AEH,R5,aW,bJ,AE1 he t1,slA,lE,iE,he]) (g8.ok' fun id h=>by simp at h ⊢;simp[SRp];omega)) ?_)
  rintro _ a9 w9 ⟨rfl,g9⟩;clear g8
  refine wp_seq (wp_mono (GR.AHK lW (G:=GS 43) (S:=SRp b3 init.length pre.length ES .junk .junk (.bool true) .junk .junk .junk .junk .junk .junk (lL pre [.int kd, .int tb,slA es.length (iE es) 5, .i (.isl (aG cs)), .i (.isl (Pn.aA ks))] post) (lE es)) hst
   (PP:=fun e S'=>e=.normal∧∃ v6 v38 v39 v40,S'=SRp b3 init.length pre.length ES v6 .junk (.bool true) v38 v39 v40 .junk .junk .junk (lL pre [.int kd, .int tb,slA es.length (iE es) 5, .i (.isl (aG cs)), .i (.isl (Pn.aA ks))] post) (lE es)) (by kernel_rfl) (by
   by_cases he:es=[]
   ·subst he;refine⟨.normal,SRp b3 init.length pre.length ES .junk .junk (.bool true) (.int 0) (.int 0) (.bool false) .junk .junk .junk (lL pre [.int kd, .int tb,slA 0 (iE []) 5, .i (.isl (aG cs)), .i (.isl (Pn.aA ks))] post) (lE []),?_,rfl,_,_,_,_,rfl⟩;simp[SRp,EV,zp,AEH,R5,aW,bJ,slA,lE];rw[aF];simp[aW,bJ]
   ·have hel:es.length≠0:=fun h=>he (zY.1 h)
    refine⟨.normal,SRp b3 init.length pre.length ES (.int (es.length-1)) .junk (.bool true) (.int es.length) (.int es.length) (.bool false) .junk .junk .junk (lL pre [.int kd, .int tb,slA es.length (iE es) 5, .i (.isl (aG cs)), .i (.isl (Pn.aA ks))] post) (lE es),?_,rfl,_,_,_,_,rfl⟩;simp[SRp,EV,zp,AEH,R5,aW,bJ,slA,lE,iE,he];rw[aV (XS b3 init.length ES pre post kd tb es (.i (.isl (aG cs))) (.i (.isl (Pn.aA ks))) (.bool true)) es.length (by simp[XS,SRp,EV,zp])]
    ·rw[aF];simp[XS,SRp,EV,zp,AEH,R5,aW,bJ,dI hel]
    ·intro i hi;have h3:=zV hi;have hs:=y1 _ (zT h3);have r2:=Ex.aJ h3;generalize es[i]=a at h3 hs r2;have hk:=AHN hs r2;have hput:=Ex.GM h3;have w2:IntKind.i64.wrap ((i:Int)+1)=i+1:=wrO;rw[Ex.aB]at r2 hk hput
     simp[XS,SRp,EV,zp,AEH,R5,aW,bJ,hi,r2,hk,w2,hput]) g9) ?_)
  rintro _ a10 w10 ⟨e,S',rfl,⟨rfl,v6,v38,v39,v40,rfl⟩,g10⟩;clear g9
  have g10:=(g10.envTo (env':=aQ (SRp b3 init.length pre.length ES .junk .junk (.bool true) .junk .junk .junk .junk .junk .junk (lL pre [.int kd, .int tb,slA es.length (iE es) 5, .i (.isl (aG cs)), .i (.isl (Pn.aA ks))] post) (lE es)).env) (by
   intro t;simp only[SRp,EV,aQ];by_cases h6:t=6
   ·subst h6;simp
   by_cases h38:t=38
   ·subst h38;simp
   by_cases h39:t=39
   ·subst h39;simp
   by_cases h40:t=40
   ·subst h40;simp
   ·simp[h6,h38,h39,h40]))
  refine wp_seq (wp_mono (GR.gH lW (G:=GS 43) (S:=SRp b3 init.length pre.length ES .junk .junk (.bool true) .junk .junk .junk .junk .junk .junk (lL pre [.int kd, .int tb,slA es.length (iE es) 5, .i (.isl (aG cs)), .i (.isl (Pn.aA ks))] post) (lE es)) (e:=.normal) (S':=SRp b3 init.length pre.length ES .junk .junk (.bool true) .junk .junk .junk .junk .junk .junk (lL pre [.int kd, .int tb,slA es.length (iE es) 5,slA cs.length (iC es cs) 1, .i (.isl (Pn.aA ks))] post) (lC es cs)) hst (by kernel_rfl) (by
   by_cases he:es=[]<;>by_cases hc:cs=[]
   ·subst he;subst hc;simp[SRp,EV,zp,AIA,YR,aW,bJ,aG,ABQ,slA,lE,lC]
   ·have hcl:cs.length≠0:=fun h=>hc (zY.1 h)
    subst he;simp[SRp,EV,zp,AIA,YR,aW,bJ,X6 hc t3,slA,lE,lC,iC,hc]
   ·have hel:es.length≠0:=fun h=>he (zY.1 h)
    subst hc;simp[SRp,EV,zp,AIA,YR,aW,bJ,aG,ABQ,slA,lE,lC,iE,he]
   ·have hel:es.length≠0:=fun h=>he (zY.1 h)
    have hcl:cs.length≠0:=fun h=>hc (zY.1 h)
    simp[SRp,EV,zp,AIA,YR,aW,bJ,X6 hc t3,slA,lE,lC,iE,iC,he,hc]) g10) ?_)
  rintro _ a11 w11 ⟨rfl,g11⟩;clear g10
  refine wp_seq (wp_mono (GR.gH lW (G:=GS 43) (S:=SRp b3 init.length pre.length ES .junk .junk (.bool true) .junk .junk .junk .junk .junk .junk (lL pre [.int kd, .int tb,slA es.length (iE es) 5,slA cs.length (iC es cs) 1, .i (.isl (Pn.aA ks))] post) (lC es cs)) (e:=.normal) (S':=SRp b3 init.length pre.length ES .junk .junk (.bool true) .junk .junk .junk .junk .junk .junk (lL pre [.int kd, .int tb,slA es.length (iE es) 5,slA cs.length (iC es cs) 1,slA ks.length (iK es cs ks) 5] post) (lK es cs ks)) hst (by kernel_rfl) (by
   by_cases he:es=[]<;>by_cases hc:cs=[]<;>by_cases hk:ks=[]
   all_goals (try subst he)
   all_goals (try subst hc)
   all_goals (try subst hk)
   ·simp[SRp,EV,zp,QL,JX,aW,bJ,Pn.aA,Q7,slA,lE,lC,lK]
   ·simp[SRp,EV,zp,QL,JX,aW,bJ,J2 hk t4,slA,lE,lC,lK,iK,hk]
   ·simp[SRp,EV,zp,QL,JX,aW,bJ,Pn.aA,Q7,slA,lE,lC,lK,iC,hc]
   ·simp[SRp,EV,zp,QL,JX,aW,bJ,J2 hk t4,slA,lE,lC,lK,iC,iK,hc,hk]
   ·simp[SRp,EV,zp,QL,JX,aW,bJ,Pn.aA,Q7,slA,lE,lC,lK,iE,he]
   ·simp[SRp,EV,zp,QL,JX,aW,bJ,J2 hk t4,slA,lE,lC,lK,iE,iK,he,hk]
   ·simp[SRp,EV,zp,QL,JX,aW,bJ,Pn.aA,Q7,slA,lE,lC,lK,iE,iC,he,hc]
   ·simp[SRp,EV,zp,QL,JX,aW,bJ,J2 hk t4,slA,lE,lC,lK,iE,iC,iK,he,hc,hk]) g11) ?_)
  rintro _ a12 w12 ⟨rfl,g12⟩;clear g11
  obtain⟨F',H',us',b',cap,vE,vC,m2,hpm,hus,hone,hbn,g13⟩:=g12.AJ5 (u:=5) (st':=aT [some (.box zp),some (.arr 1 ES)]) (env':=aQ (EV b3 (.osl 1 1 0 init.length) (.own 2 pre.length) .junk .junk (.bool true) .junk .junk .junk .junk .junk .junk)) (idE:=iE es) (idC:=iC es cs) (idK:=iK es cs ks) (oq:=pre.length) e1 e2 rfl e4 hq rfl
   (fun h=>by simp[SRp,iE,lE,lC,lK,h];split<;>split<;>simp[aT])
   (fun h=>by simp only[SRp,iC,lC,lK,h,if_false];cases hh:lE es with
    | nil=>split<;>simp[aT]
    | cons a l =>
     have:l=[]:=by unfold lE at hh;split at hh<;>simp_all
     subst this;split<;>simp[aT])
   (fun h=>by simp only[SRp,iK,lK,h,if_false];exact UR _ _ _ _)
   (by unfold iE iC iK lC lE;repeat' split<;>simp_all)
   (by
    intro i blk h
    rcases i with _|_|i
    ·simp[aT]at h;subst h;exact⟨by omega,rfl,by simp[fD,zp]⟩
    ·simp[aT]at h;subst h;exact⟨by omega,rfl,hlit⟩
    ·simp[aT]at h)
   (by
    intro t;simp only[SRp,EV,aQ];by_cases h0:t=0
    ·subst h0;simp
    by_cases h2:t=2
    ·subst h2;exact .inr ⟨by simp, .inr (by simp[iF,aT])⟩
    by_cases h3:t=3
    ·subst h3;exact .inr ⟨by simp, .inr (by simp[iF,ptr])⟩
    by_cases h4:t=4
    ·subst h4;exact .inr ⟨by simp, .inr (by simp[iF,aT])⟩
    by_cases h5:t=5
    ·subst h5;exact .inr ⟨by simp, .inl (by simp)⟩
    by_cases h14:t=14
    ·subst h14;exact .inr ⟨by simp, .inr (by simp[iF])⟩
    simp[h0,h2,h3,h4,h5,h14])
  clear g12;rw[AL]at g13;have hbx:dV us'=lL pre [.i (.lit (.int .i64 kd)), .i (.lit (.int .i64 tb)), .i (.lit vE), .i (.lit vC), .i (.lit (if ks.length=0 then .slice none 0 0 else .slice (some ⟨b',0,none⟩) ks.length cap))] post:=by rw[hus];simp[lL,dV]
  rw[hbx]at g13;have hst':=ADP.XY wi b3 p F' H' b us' w12 m2
  refine wp_mono (GR.AHK lW (G:=GS 43) (S:=SRp b3 init.length pre.length ES .junk .junk (.bool true) .junk .junk .junk .junk .junk .junk (lL pre [.i (.lit (.int .i64 kd)), .i (.lit (.int .i64 tb)), .i (.lit vE), .i (.lit vC), .i (.lit (if ks.length=0 then .slice none 0 0 else .slice (some ⟨b',0,none⟩) ks.length cap))] post) []) hst'
   (PP:=fun e S'=>e=.normal∧∃ v7 v76 v77 v78,S'={ env:=EV b3 (if ks.length=0 then .osl 1 1 0 init.length else .osl 3 1 0 (init.length+ks.length)) (.own 2 pre.length) .junk v7 (.bool true) .junk .junk .junk v76 v77 v78,st:=some (.box zp)::(if ks.length=0 then some (.arr 1 ES)else none)::some (.box (lL pre [.i (.lit (.int .i64 kd)), .i (.lit (.int .i64 tb)), .i (.lit vE), .i (.lit vC), .i (.lit (if ks.length=0 then .slice none 0 0 else .slice (some ⟨b',0,none⟩) ks.length cap))] post))::(if ks.length=0 then []else [some (.arr 1 (RWp init b' ks.length))]) }) (by kernel_rfl) (by
   by_cases h0:ks.length=0
   ·refine⟨.normal,{ env:=EV b3 (.osl 1 1 0 init.length) (.own 2 pre.length) .junk .junk (.bool true) .junk .junk .junk (.int 0) (.int 0) (.bool false),st:=some (.box zp)::some (.arr 1 ES)::some (.box (lL pre [.i (.lit (.int .i64 kd)), .i (.lit (.int .i64 tb)), .i (.lit vE), .i (.lit vC), .i (.lit (if ks.length=0 then .slice none 0 0 else .slice (some ⟨b',0,none⟩) ks.length cap))] post))::[] },?_,rfl, .junk, .int 0, .int 0, .bool false,by simp[h0]⟩;simp[SRp,EV,zp,QL,aW,bJ,h0];rw[aF];simp[aW,bJ]
   ·refine⟨.normal,{ env:=EV b3 (.osl 3 1 0 (init.length+ks.length)) (.own 2 pre.length) .junk (.int (ks.length-1)) (.bool true) .junk .junk .junk (.int ks.length) (.int ks.length) (.bool false),st:=some (.box zp)::none::some (.box (lL pre [.i (.lit (.int .i64 kd)), .i (.lit (.int .i64 tb)), .i (.lit vE), .i (.lit vC), .i (.lit (if ks.length=0 then .slice none 0 0 else .slice (some ⟨b',0,none⟩) ks.length cap))] post))::[some (.arr 1 (RWp init b' ks.length))] },?_,rfl, .int (ks.length-1), .int ks.length, .int ks.length, .bool false,by simp[h0]⟩;simp only[h0,if_false];simp[SRp,EV,zp,QL,aW,bJ];rw[aV (YP b3 init.length pre.length ES init b' ks.length (lL pre [.i (.lit (.int .i64 kd)), .i (.lit (.int .i64 tb)), .i (.lit vE), .i (.lit vC), .i (.lit (if ks.length=0 then .slice none 0 0 else .slice (some ⟨b',0,none⟩) ks.length cap))] post)) ks.length (by simp[YP,EV,zp,h0])]
    ·rw[aF];simp[YP,EV,zp,QL,aW,bJ,h0,dI h0]
    ·intro i hi;have w2:IntKind.i64.wrap ((i:Int)+1)=i+1:=wrO;by_cases hi0:i=0
     ·subst hi0;have hR:jR init++[[.lit (.pointer (some ⟨b',0,none⟩))]]=RWp init b' 1:=by simp[RWp,ptr]
      have hl:(init.length+1)*8≤140737488355328:=by omega
      simp[YP,EV,zp,QL,aW,bJ,h0,ABR,hi,htake,hR,hl,hESl]
     ·have hl:(init.length+i+1)*8≤140737488355328:=by omega
      have hT:(RWp init b' i).take (init.length+i)=RWp init b' i:=zX (by rw[XQ];omega);have hR:RWp init b' i++[[.lit (.pointer (some ⟨b',i*5,none⟩))]]=RWp init b' (i+1):=by simpa [ptr]using AAD init b' i
      simp[YP,EV,zp,QL,aW,bJ,h0,hi0,dI hi0,w2,hi,hT,XQ,hl,hR,← Nat.add_assoc]) (g13.ok' fun id h=>by simp[SRp];omega)) ?_
  rintro _ a13 w13 ⟨e,S',rfl,⟨rfl,v7,v76,v77,v78,rfl⟩,g14⟩;clear g13;simp only[gK,Exit.then,Exit.inBlock]
  have hpm2:H'.Perm (init++jZ b' 0 ks):=by
   have h1:(((b,pre.length),Pn.mk kd tb es cs ks)::H').Perm (((b,pre.length),Pn.mk kd tb es cs ks)::(init++jZ b' 0 ks)):=by
    refine hpm.trans ((hperm.append_right _).trans ?_);rw[yX];exact List.perm_middle
   exact(List.perm_cons _).1 h1
  have hszx:(Pn.mk kd tb es cs ks).size=1+Pn.aN ks:=hxs
  have hall2:∀ q∈init++jZ b' 0 ks,q.2.thin∧q.2.tiny:=by
   intro q hq'
   rcases zW.1 hq' with h|h
   ·exact hall q (by simp[h])
   ·have:=(KS q h).1;exact⟨t5 _ this,y2 _ this⟩
  have hsum2:((init++jZ b' 0 ks).map fun k=>k.2.size).sum=n-1:=by
   rw[yH,List.sum_append,KR];omega
  by_cases hk0:ks.length=0
  ·have hks:ks=[]:=zY.1 hk0;subst hks;simp only[xZ,if_true]at g14 hbx
   have g15:=g14.PU (st':=aT [some (.box zp),some (.arr 1 ES)]) (env':=aQ (EV b3 (.osl 1 1 0 init.length) .junk .junk .junk .junk .junk .junk .junk .junk .junk .junk)) (by rw[hbx];rfl) (by
    intro i blk h
    rcases i with _|_|i
    ·simp[aT]at h;subst h;exact⟨by omega,rfl,by simp[fD,zp]⟩
    ·simp[aT]at h;subst h;exact⟨by omega,rfl,hlit⟩
    ·simp[aT]at h) (by
    intro t;simp only[EV,aQ];by_cases h0:t=0
    ·subst h0;simp
    by_cases h2:t=2
    ·subst h2;exact .inr ⟨by simp,by simp[iF,aT]⟩
    by_cases h3:t=3
    ·subst h3;exact .inr ⟨by simp,by simp[iF,ptr]⟩
    by_cases h4:t=4
    ·subst h4;exact .inr ⟨by simp,by simp[iF,aT]⟩
    simp[h0,h2,h3,h4])
   simp only[jZ,zG]at hpm2 hall2 hsum2;refine⟨n-1,by omega,init,[((b,pre.length),Pn.mk kd tb es cs [])]++X,H',F',hpm2,hsum2,by omega,hall2,?_⟩;have hES2:jR (init++([((b,pre.length),Pn.mk kd tb es cs [])]++X))=ES:=by rw[← hES,yX]
   simp only[SLp,hES2]
   exact g15.ok' (by
    intro i h
    rcases i with _|_|i
    ·simp
    ·simp
    ·simp[aT]at h)
  ·simp only[hk0,if_false]at g14 hbx
   have g15:=g14.PU (st':=aT [some (.box zp),none,none,some (.arr 1 (RWp init b' ks.length))]) (env':=aQ [(2, .own 0 0),(3, .i (ptr (b3,0))),(4, .osl 3 1 0 (init.length+ks.length))]) (by rw[hbx];rfl) (by
    intro i blk h
    rcases i with _|_|_|_|i
    ·simp[aT]at h;subst h;exact⟨by omega,rfl,by simp[fD,zp]⟩
    ·simp[aT]at h
    ·simp[aT]at h
    ·simp[aT]at h;subst h;exact⟨by omega,rfl,by
      intro c hc;rw[List.mem_flatten]at hc;obtain⟨r,hr1,hr2⟩:=hc;unfold RWp at hr1
      rcases zW.1 hr1 with h|h
      ·exact I6 init c (List.mem_flatten.2 ⟨r,h,hr2⟩)
      ·obtain⟨j,_,rfl⟩:=yF.1 h
       simp at hr2;subst hr2;exact⟨_,rfl⟩⟩
    ·simp[aT]at h) (by
    intro t;simp only[EV,aQ];by_cases h2:t=2
    ·subst h2;exact .inr ⟨by simp,by simp[iF,aT]⟩
    by_cases h3:t=3
    ·subst h3;exact .inr ⟨by simp,by simp[iF,ptr]⟩
    by_cases h4:t=4
    ·subst h4;exact .inr ⟨by simp,by simp[iF,aT]⟩
    simp[h2,h3,h4])
   have g16:=g15.settle (fun w m φ ids h=>RAW.keep ids h) [2,3,4]
   have hs:Av.settle [2,3,4] 0 (aQ [(2, .own 0 0),(3, .i (ptr (b3,0))),(4, .osl 3 1 0 (init.length+ks.length))]) (aT [some (.box zp),none,none,some (.arr 1 (RWp init b' ks.length))])={ env:=[(2, .own 0 0),(3, .i (ptr (b3,0))),(4, .osl 1 1 0 (init.length+ks.length))],st:=[some (.box zp),some (.arr 1 (RWp init b' ks.length))] }:=by
    simp[zp,ptr]
   rw[hs]at g16;refine⟨n-1,by omega,init++jZ b' 0 ks,[],H',F',hpm2,hsum2,by omega,hall2,?_⟩
   have hR:jR (init++jZ b' 0 ks++[])=RWp init b' ks.length:=by
    rw[zG];have:=FV b' 0 ks;simp only[jR]at this;simp only[jR,RWp,yH,this,zO]
   have hl:(init++jZ b' 0 ks).length=init.length+ks.length:=by rw[zL,KT]
   simp only[SLp,hR,hl]
   exact g16.envTo (by
    intro t;simp only[EV,aQ];by_cases h0:t=0
    ·subst h0;simp
    by_cases h2:t=2
    ·subst h2;simp
    by_cases h3:t=3
    ·subst h3;simp
    by_cases h4:t=4
    ·subst h4;simp
    ·simp[h0,h2,h3,h4])
theorem IX {p:Pn} (hsz:p.size<1000000000) (hth:p.thin) (hty:p.tiny) {wi:World} {mi:Mem} {φ:Pl} {vs:List Value} (hi:Inv wi mi φ (aT [])) (hr:RepL mi φ [.i (.iref p.cells)] vs) (h0:∀ id,φ id≠none→id<0) :
 Calls Try.prog 43 vs.toArray wi (dK wi mi φ (.i (.agg p.cells)) []):=by
 obtain rfl:φ=fun _=>none:=by
  funext id
  cases h:φ id with
  | none=>rfl
  | some p=>exact absurd (h0 id (by rw[h];simp)) (xA _)
 exact(DR hsz hth hty hi hr).mono fun _ _ h=>h.tree
end Go.Proofs.Ytjdfjgmebalaaaa.G
namespace Go.Proofs.Ytjdfjgmebalaaaa
open Go Go.Av
theorem KD {g:FuncId} {q:List AV→StL→Option (AV×StL)} (h:C0.prim g=some q):(g=53∧q=LG)∨(g=43∧q=ZW):=by
 have h:ACJ g=some q:=h;unfold ACJ at h;split at h
 ·injection h with h;exact .inl ⟨rfl,h.symm⟩
 ·injection h with h;exact .inr ⟨rfl,h.symm⟩
 ·cases h
theorem AJ8:PrimOk C0:=by
 constructor
 ·intro g args st p h;unfold dP at h
  cases hq:C0.prim g with
  | none=>rw[hq]at h;cases h
  | some q =>
   rcases KD hq with ⟨rfl,rfl⟩|⟨rfl,rfl⟩
   ·exact⟨Try.f53,Try.func53,by decide,rfl⟩
   ·exact⟨Try.f43,Try.func43,by decide,rfl⟩
 ·intro g args stl r stl' h w m φ vs hi hr h0;unfold dP at h
  cases hq:C0.prim g with
  | none=>rw[hq]at h;cases h
  | some q =>
   rcases KD hq with ⟨rfl,rfl⟩|⟨rfl,rfl⟩
   ·rw[hq]at h;obtain⟨e,he,hres,hor⟩:=GJ h;injection hres with h1 h2;subst h1;subst h2
    rcases hor with ⟨rfl,rfl⟩|⟨j,es,rfl,rfl,hes⟩
    ·exact oL he hi hr h0
    ·exact GL he hes hi hr h0
   ·rw[hq]at h;obtain⟨p,⟨k1,k2,k3⟩,rfl,rfl,hres⟩:=SS h;injection hres with h1 h2;subst h1;subst h2;exact G.IX k1 k2 k3 hi hr h0
theorem eT:SoundOk C0:=l7 (C:=C0) ft nt eqS mo AJ8
end Go.Proofs.Ytjdfjgmebalaaaa

/- Part 2 of what the proof rests on: the executor and what it is worth, and the program's functions as it runs them. No condition. -/
import Derived.Test.YtmcjmafajkeecaaGreatDoorT1
import Derived.Still
import Derived.Below
set_option linter.unusedVariables false
set_option linter.unusedSimpArgs false
namespace Go.Av
section
variable {C:Ctx}
theorem IX:∀ (l:List IV),aZ (kW l)=[]
 | []=>rfl
 | v::l=>by simp[kW,aZ,dC,IX l]
theorem F9 {v:AV} {cs:List AV} (h:cellsOf v=some cs):∀ i∈aZ cs,i∈dC v:=by
 unfold cellsOf at h;split at h
 ·cases h
 ·cases h
 ·injection h with h;subst h;intro i hi;simpa [dC]using hi
 ·injection h with h;subst h;intro i hi;rw[IX]at hi;cases hi
 ·cases h
 ·cases h
 ·injection h with h;subst h;intro i hi;simpa [aZ]using hi
theorem sV {env:Nat→AV}:∀ {l:List (Nat×Operand)} {ps:List (Nat×List AV)},partsOf env l=some ps→∀ p∈ps,∀ i∈aZ p.2,i∈aZ (evL env (fQ l))
 | [],ps,h=>by simp[partsOf]at h;subst h;simp
 | q::l,ps,h=>by
  simp only[partsOf]at h;obtain⟨cs,h1,h2⟩:=aG.1 h;obtain⟨ps',h3,h4⟩:=aG.1 h2;injection h4 with h4;subst h4;intro p hp i hi;simp only[fQ,evL,aZ,zV]
  rcases zQ.1 hp with rfl|hp
  ·exact .inl (F9 h1 i hi)
  ·exact .inr (sV h3 p hp i hi)
def Wr (ts:List Nat) (nb:Nat) (ro:Bool) (i:Nat):Prop:=(ro=false∧i∈ts)∨(nb≤i∧i<nb+wide)
theorem Wr.nb (ts:List Nat) (nb:Nat) (ro:Bool):Wr ts nb ro nb:=.inr ⟨Nat.le_refl _,gH nb⟩
theorem LG.wr {α:Type} {ts:List Nat} {F:Store→Option (α×Store)} {st s1:Store} {a:α} (h:LG ts F st a s1) (nb:Nat):Loc ts (Wr ts nb false) F st a s1:=h.1.mono fun _ hi=>.inl ⟨rfl,hi⟩
theorem AAJ {ts:List Nat} {st st':Store} {t:TypeId} {a:AV} (ha:Agree ts st st') (hv:∀ i∈dC a,i∈ts):E9 C t a st'=E9 C t a st:=by
 unfold E9;congr 1;funext n;congr 1;funext g;unfold loadAt
 cases a with
 | own id off=>simp only;rw[ha id (hv id (by simp[dC]))]
 | ownE id k ix off=>simp only;rw[ha id (hv id (by simp[dC]))]
 | i v=>cases v<;>rfl
 | _=>rfl
theorem tX {ts:List Nat} {st st':Store} {k:Nat} {a:AV} (ha:Agree ts st st') (hv:∀ i∈dC a,i∈ts):dI st' k a=dI st k a:=by
 unfold dI
 cases a with
 | osl id k' off len=>simp only;rw[ha id (hv id (by simp[dC]))]
 | i v =>
  cases v with
  | lit v=>cases v<;>rfl
  | _=>rfl
 | _=>rfl
theorem CS {ts:List Nat} {st s1:Store} {a:AV} {xs:List AV} {nb:Nat} (hc:Clo ts st) (ha:∀ i∈dC a,i∈ts) (hxs:∀ i∈aZ xs,i∈ts) (h6:storeAt xs st a=some s1) :
 Loc ts (Wr ts nb false) (fun s=>bnd (storeAt xs s a) fun r=>some (AV.i (.lit undef),r)) st (.i (.lit undef)) s1:=by
 unfold storeAt at h6
 cases a with
 | own id off =>
  simp only at h6;have hm:=ha id (by simp[dC]);unfold pI at h6;split at h6
  ·rename_i cs hcs;obtain⟨l,k1,k2⟩:=aG.1 h6;injection k2 with k2;subst k2;refine .one (.inl ⟨rfl,hm⟩) fun st' hag=>?_
   simp only[storeAt];rw[hag id hm,hcs];simp[pI,k1]
  ·cases h6
 | ownE id k ix off =>
  simp only at h6;have hm:=ha id (by simp[dC]);obtain⟨p,k1,k2⟩:=aG.1 h6;have hl:=EP hc hxs (show mK st xs=some (p.1,p.2)from k1)
  have h2':Loc ts (Wr ts nb false) (fun s=>bnd (nL id k ix off p.1 s (s id)) fun r=>some (AV.i (.lit undef),r)) p.2 (.i (.lit undef)) s1:=by
   unfold nL at k2;split at k2
   ·rename_i k' es hes;obtain⟨j1,j2⟩:=aR.1 k2;obtain⟨e,j3,j4⟩:=aG.1 j2;obtain⟨e',j5,j6⟩:=aG.1 j4;injection j6 with j6;subst j6;refine .one (.inl ⟨rfl,hm⟩) fun st' hag=>?_
    rw[hag id hm,hes];simp[nL,j1,j3,j5]
   ·cases k2
  refine(hl.wr nb).seq (F2:=fun q s=>bnd (nL id k ix off q s (s id)) fun r=>some (AV.i (.lit undef),r)) h2' fun st' s r e1 e2=>?_
  simp only[storeAt];rw[show mK st' xs=_ from e1];exact e2
 | _=>simp at h6
theorem AFF {ts:List Nat} {st s1:Store} (hc:Clo ts st) {v:AV} {iv:IV} (hv:∀ i∈dC v,i∈ts) (h:BF st v=some (iv,s1)):LG ts (fun s=>BF s v) st iv s1:=by
 cases v with
 | i v =>
  simp only[BF]at h;obtain⟨h1,h2⟩:=aR.1 h;injection h2 with h2;injection h2 with h2 h3;subst h2;subst h3;exact⟨.here fun st' _=>by simp[BF,h1],hc⟩
 | nils =>
  simp only[BF]at h;injection h with h2;injection h2 with h2 h3;subst h2;subst h3;exact⟨.here fun st' _=>rfl,hc⟩
 | osl id k off len =>
  simp only[BF]at h;obtain⟨es,h1,h2⟩:=aG.1 h;injection h2 with h2;injection h2 with h2 h3;subst h2;subst h3;have hm:=hv id (by simp[dC]);refine⟨.one hm fun st' hag=>?_,?_⟩
  ·simp only[BF];rw[hag id hm,h1];rfl
  ·exact wJ (U:=[(id,none)]) hc (by simp[gM])
 | _=>simp[BF]at h
theorem LF {ts:List Nat}:∀ {cs:List AV} {st s1:Store} {l:List IV},Clo ts st→(∀ i∈aZ cs,i∈ts)→pO st cs=some (l,s1)→LG ts (fun s=>pO s cs) st l s1
 | [],st,s1,l,hc,_,h=>by
  simp[pO]at h;obtain⟨rfl,rfl⟩:=h;exact⟨.here fun _ _=>rfl,hc⟩
 | c::cs,st,s1,l,hc,hv,h=>by
  simp only[pO]at h;obtain⟨p,h1,h2⟩:=aG.1 h;obtain⟨q,h3,h4⟩:=aG.1 h2;injection h4 with h4;injection h4 with h4 h5;subst h4;subst h5;have k1:=AFF hc (fun i hi=>hv i (by simp[aZ,hi])) (show BF st c=some (p.1,p.2)from h1);have k2:=LF k1.2 (fun i hi=>hv i (by simp[aZ,hi])) (show pO p.2 cs=some (q.1,q.2)from h3);refine k1.seq (k2.map (H:=fun s=>bnd (pO s cs) fun q=>some (p.1::q.1,q.2)) fun st' s e=>?_) fun st' s r e1 e2=>?_
  ·show bnd (pO st' cs) _=_;rw[show pO st' cs=_ from e];rfl
  ·simp only[pO]at e1 e2 ⊢;rw[e1];exact e2
theorem CL {ts:List Nat} {st s1:Store} {id k ix off:Nat} {xs:List AV} {nb:Nat} (hc:Clo ts st) (ha:id∈ts) (hxs:∀ i∈aZ xs,i∈ts) (h6:(bnd (pO st xs) fun p=>dW id k ix off p.1 p.2 (p.2 id))=some s1) :
 Loc ts (Wr ts nb false) (fun s=>bnd (storeT xs s (.ownE id k ix off)) fun r=>some (AV.i (.lit undef),r)) st (.i (.lit undef)) s1:=by
 have hm:=ha;obtain⟨p,k1,k2⟩:=aG.1 h6;have hl:=LF hc hxs (show pO st xs=some (p.1,p.2)from k1)
 have h2':Loc ts (Wr ts nb false) (fun s=>bnd (dW id k ix off p.1 s (s id)) fun r=>some (AV.i (.lit undef),r)) p.2 (.i (.lit undef)) s1:=by
  unfold dW at k2;split at k2
  ·rename_i k' es hes;obtain⟨j1,j2⟩:=aR.1 k2;obtain⟨e,j3,j4⟩:=aG.1 j2;obtain⟨e',j5,j6⟩:=aG.1 j4;obtain⟨e'',j5',j6⟩:=aG.1 j6;unfold uI at j6;split at j6
   ·rename_i hl;injection j6 with j6;subst j6;refine .one (.inl ⟨rfl,hm⟩) fun st' hag=>?_
    rw[hag id hm,hes];simp[dW,j1,j3,j5,j5',uI,hl]
   ·rename_i hl;split at j6
    ·rename_i j7;injection j6 with j8;subst j8;refine .one (.inl ⟨rfl,hm⟩) fun st' hag=>?_
     rw[hag id hm,hes];simp[dW,j1,j3,j5,j5',uI,hl,j7]
    ·rename_i j7;injection j6 with j8;subst j8;refine .one (.inl ⟨rfl,hm⟩) fun st' hag=>?_
     rw[hag id hm,hes];simp[dW,j1,j3,j5,j5',uI,hl,j7]
  ·rename_i k' es hes;obtain⟨j1,j2⟩:=aR.1 k2;obtain⟨e,j3,j4⟩:=aG.1 j2;obtain⟨e',j5,j6⟩:=aG.1 j4;injection j6 with j6;subst j6;refine .one (.inl ⟨rfl,hm⟩) fun st' hag=>?_
   rw[hag id hm,hes];simp[dW,j1,j3,j5]
  ·cases k2
 refine(hl.wr nb).seq (F2:=fun q s=>bnd (dW id k ix off q s (s id)) fun r=>some (AV.i (.lit undef),r)) h2' fun st' s r e1 e2=>?_
 simp only[storeT];rw[show pO st' xs=_ from e1];exact e2
theorem UR {ts:List Nat} {st s1:Store} {a:AV} {xs:List AV} {nb:Nat} (hc:Clo ts st) (ha:∀ i∈dC a,i∈ts) (hxs:∀ i∈aZ xs,i∈ts) (h6:storeT xs st a=some s1) :
 Loc ts (Wr ts nb false) (fun s=>bnd (storeT xs s a) fun r=>some (AV.i (.lit undef),r)) st (.i (.lit undef)) s1:=by
 unfold storeT at h6
 cases a with
 | own id off =>
  simp only at h6;have hm:=ha id (by simp[dC]);unfold CO at h6;split at h6
  ·rename_i k es hes;obtain⟨U,u1,u2,u3⟩:=CL (nb:=nb) hc hm hxs h6;refine⟨U,u1,u2,fun st' hag=>?_⟩;have:=u3 st' hag;simp only[storeT]at this ⊢;rw[hag id hm,hes];exact this
  ·rename_i cs hes;obtain⟨U,u1,u2,u3⟩:=CS (nb:=nb) hc ha hxs (show storeAt xs st (.own id off)=some s1 by unfold storeAt;simp only;rw[hes];exact h6);refine⟨U,u1,u2,fun st' hag=>?_⟩;have:=u3 st' hag;simp only[storeT,storeAt]at this ⊢;rw[hag id hm,hes]at this ⊢;exact this
  ·cases h6
 | ownE id k ix off =>
  simp only at h6;exact CL hc (ha id (by simp[dC])) hxs h6
 | _=>simp at h6
theorem UT {ts:List Nat} {st s1:Store} {t:TypeId} {a x:AV} {nb:Nat} (hc:Clo ts st) (ha:∀ i∈dC a,i∈ts) (hx:∀ i∈dC x,i∈ts) (h:wX C t a x st=some s1) :
 Loc ts (Wr ts nb false) (fun s=>bnd (wX C t a x s) fun r=>some (AV.i (.lit undef),r)) st (.i (.lit undef)) s1:=by
 unfold wX at h ⊢;obtain⟨n,h1,h2⟩:=aG.1 h;obtain⟨xs,h3,h4⟩:=aG.1 h2;obtain⟨h5,h6⟩:=aR.1 h4;simp only[h1,h3,dN,h5,jK];have hxs:∀ i∈aZ xs,i∈ts:=fun i hi=>hx i (F9 h3 i hi)
 unfold uL at h6 ⊢;split at h6
 ·exact CS hc ha hxs h6
 ·exact UR hc ha hxs h6
theorem AFE {ts:List Nat} {st s1:Store} {t:TypeId} {a x v:AV} {nb:Nat} (ha:∀ i∈dC a,i∈ts) (hx:∀ i∈dC x,i∈ts) (h:AKB C t a x st nb=some (v,s1)) :
 Loc ts (Wr ts nb false) (fun s=>AKB C t a x s nb) st v s1:=by
 unfold AKB at h ⊢;obtain⟨e,h1,h2⟩:=aG.1 h;obtain⟨k,h3,h4⟩:=aG.1 h2;obtain⟨by_,h5,h6⟩:=aG.1 h4;obtain⟨z,h7,h8⟩:=aG.1 h6;obtain⟨h9,h10⟩:=aR.1 h8;obtain⟨news,h11,h12⟩:=aG.1 h10;simp only[h1,h3,h5,h7,dN,h9,jK];have hel:∀ st',Agree ts st st'→dI st' k x=some news:=fun st' hag=>by rw[tX hag hx];exact h11
 unfold P9 at h12
 cases a with
 | nils =>
  simp only at h12;unfold BB at h12;split at h12
  ·rename_i hem;injection h12 with h12;injection h12 with j1 j2;subst j1;subst j2;refine .here fun st' hag=>?_
   rw[hel st' hag];simp[P9,BB,hem]
  ·rename_i hem;obtain⟨j1,j2⟩:=aR.1 h12;injection j2 with j2;injection j2 with j2 j3;subst j2;subst j3;refine .one (Wr.nb _ _ _) fun st' hag=>?_
   rw[hel st' hag];simp only[dN,P9];rw[hem];simp only[BB];rw[j1];rfl
 | osl id k' off len =>
  simp only at h12;have hm:=ha id (by simp[dC]);unfold qP at h12;split at h12
  ·rename_i k'' es hes;obtain⟨j1,j2⟩:=aR.1 h12;injection j2 with j2;injection j2 with j2 j3;subst j2;subst j3;refine⟨[(nb,some (.arr k (es.take len++news))),(id,none)],?_,rfl,fun st' hag=>?_⟩
   ·intro p hp;simp at hp
    rcases hp with rfl|rfl
    ·exact Wr.nb _ _ _
    ·exact .inl ⟨rfl,hm⟩
   ·simp only;rw[hel st' hag];simp only[dN,P9];rw[hag id hm,hes];simp only[qP];rw[j1];rfl
  ·cases h12
 | _=>simp at h12
theorem ABZ {ts:List Nat} {st s1:Store} {t:TypeId} {a x v:AV} {nb:Nat} (ha:∀ i∈dC a,i∈ts) (hx:∀ i∈dC x,i∈ts) (h:PD C t a st nb x=some (v,s1)) :
 Loc ts (Wr ts nb false) (fun s=>PD C t a s nb x) st v s1:=by
 cases x with
 | osl id k' off n =>
  have hm:=hx id (by simp[dC]);simp only[PD]at h ⊢;obtain⟨e,h1,h2⟩:=aG.1 h;obtain⟨k,h3,h4⟩:=aG.1 h2;obtain⟨by_,h5,h6⟩:=aG.1 h4;obtain⟨z,h7,h8⟩:=aG.1 h6;obtain⟨h9,h10⟩:=aR.1 h8;obtain⟨news,h11,h12⟩:=aG.1 h10;simp only[h1,h3,h5,h7,dN,h9,jK]
  cases a with
  | nils =>
   simp only[jU]at h12;obtain⟨j1,j2⟩:=aR.1 h12;injection j2 with j2;injection j2 with j2 j3;subst j2;subst j3;refine⟨[(nb,some (.tre k news)),(id,none)],?_,rfl,fun st' hag=>?_⟩
   ·intro p hp;simp at hp
    rcases hp with rfl|rfl
    ·exact Wr.nb _ _ _
    ·exact .inl ⟨rfl,hm⟩
   ·simp only;rw[hag id hm,h11];simp only[dN,jU];rw[j1];rfl
  | osl id1 k1 off1 len =>
   have hm1:=ha id1 (by simp[dC]);simp only[jU]at h12;obtain⟨es,j0,h13⟩:=aG.1 h12;obtain⟨j1,j2⟩:=aR.1 h13;injection j2 with j2;injection j2 with j2 j3;subst j2;subst j3;refine⟨[(nb,some (.tre k (es++news))),(id1,none),(id,none)],?_,rfl,fun st' hag=>?_⟩
   ·intro p hp;simp at hp
    rcases hp with rfl|rfl|rfl
    ·exact Wr.nb _ _ _
    ·exact .inl ⟨rfl,hm1⟩
    ·exact .inl ⟨rfl,hm⟩
   ·simp only;rw[hag id hm,h11];simp only[dN,jU];have hu:upd st' id none id1=upd st id none id1:=by unfold upd;split;rfl;exact hag id1 hm1
    rw[hu,j0];simp only[dN];rw[j1];rfl
  | _=>simp[jU]at h12
 | _=>simp[PD]at h
theorem BO {ts:List Nat} {st st':Store} {a:AV} (hag:Agree ts st st') (ha:∀ i∈dC a,i∈ts):AFM st' a=AFM st a:=by
 cases a with
 | osl id k off len=>simp only[AFM];rw[hag id (ha id (by simp[dC]))]
 | _=>rfl
theorem XZ {ts:List Nat} {st s1:Store} {t:TypeId} {a x v:AV} {nb:Nat} (ha:∀ i∈dC a,i∈ts) (hx:∀ i∈dC x,i∈ts) (h:BC C t a x st nb=some (v,s1)) :
 Loc ts (Wr ts nb false) (fun s=>BC C t a x s nb) st v s1:=by
 unfold BC at h;split at h
 ·rename_i hc;obtain⟨U,k1,k2,k3⟩:=ABZ ha hx h;refine⟨U,k1,k2,fun st' hag=>?_⟩;simp only[BC];rw[BO hag ha,BO hag hx,if_pos hc];exact k3 st' hag
 ·rename_i hc;obtain⟨U,k1,k2,k3⟩:=AFE ha hx h;refine⟨U,k1,k2,fun st' hag=>?_⟩;simp only[BC];rw[BO hag ha,BO hag hx,if_neg hc];exact k3 st' hag
theorem AB9 {ts:List Nat} {st s1:Store} {t:TypeId} {a x v:AV} {nb:Nat} (ha:∀ i∈dC a,i∈ts) (hx:∀ i∈dC x,i∈ts) (h:R7 C t a x st=some (v,s1)) :
 Loc ts (Wr ts nb false) (fun s=>R7 C t a x s) st v s1:=by
 unfold R7 at h ⊢;obtain⟨e,h1,h2⟩:=aG.1 h;obtain⟨k,h3,h4⟩:=aG.1 h2;obtain⟨h9,h10⟩:=aR.1 h4;obtain⟨src,h11,h12⟩:=aG.1 h10;simp only[h1,h3,dN,h9,jK];have hel:∀ st',Agree ts st st'→dI st' k x=some src:=fun st' hag=>by rw[tX hag hx];exact h11
 unfold F5 at h12
 cases a with
 | nils =>
  simp only at h12;injection h12 with h12;injection h12 with j1 j2;subst j1;subst j2;refine .here fun st' hag=>?_
  rw[hel st' hag];simp[F5]
 | osl id k' off len =>
  simp only at h12;have hm:=ha id (by simp[dC]);unfold mG at h12;split at h12
  ·rename_i k'' es hes;obtain⟨j1,j2⟩:=aR.1 h12;injection j2 with j2;injection j2 with j2 j3;subst j2;subst j3;refine .one (.inl ⟨rfl,hm⟩) fun st' hag=>?_
   rw[hel st' hag];simp only[dN,F5];rw[hag id hm,hes];simp only[mG];rw[j1];rfl
  ·cases h12
 | _=>simp at h12
theorem JY {ts:List Nat} {st:Store} (hc:Clo ts st):∀ (n:Nat) (todo seen:List Nat),(∀ i∈todo,i∈ts)→(∀ i∈seen,i∈ts)→∀ i∈reach st n todo seen,i∈ts
 | 0,_,_,_,h=>by simpa [reach]using h
 | _+1,[],_,_,h=>by simpa [reach]using h
 | n+1,i::todo,seen,ht,h=>by
  simp only[reach];split
  ·exact JY hc n _ _ (fun j hj=>ht j (by simp[hj])) h
  ·have hi:=ht i (by simp);refine JY hc n _ _ (fun j hj=>?_) (fun j hj=>?_)
   ·rcases zV.1 hj with hj|hj
    ·exact hc i hi j hj
    ·exact ht j (by simp[hj])
   ·rcases zV.1 hj with hj|hj
    ·exact h j hj
    ·simp at hj;subst hj;exact hi
theorem DD {ts:List Nat} {st st':Store} (hc:Clo ts st) (ha:Agree ts st st'):∀ (n:Nat) (todo seen:List Nat),(∀ i∈todo,i∈ts)→reach st' n todo seen=reach st n todo seen
 | 0,_,_,_=>rfl
 | _+1,[],_,_=>rfl
 | n+1,i::todo,seen,ht=>by
  simp only[reach];have hi:=ht i (by simp);rw[ha i hi,DD hc ha n todo seen (fun j hj=>ht j (by simp[hj])),DD hc ha n (gM (st i)++todo) (seen++[i]) (fun j hj=>?_)]
  rcases zV.1 hj with hj|hj
  ·exact hc i hi j hj
  ·exact ht j (by simp[hj])
theorem H7 {ts:List Nat} {st st':Store} (r:Nat→Option Nat) (ha:Agree ts st st'):∀ {ids:List Nat},(∀ i∈ids,i∈ts)→kJ r st' ids=kJ r st ids
 | [],_=>rfl
 | i::ids,h=>by simp only[kJ];rw[ha i (h i (by simp)),H7 r ha (fun j hj=>h j (by simp[hj]))]
theorem EA {ts:List Nat} {st st':Store} (ha:Agree ts st st'):∀ {ids:List Nat},(∀ i∈ids,i∈ts)→oQ st' ids=oQ st ids
 | [],_=>rfl
 | i::ids,h=>by simp only[oQ];rw[ha i (h i (by simp)),EA ha (fun j hj=>h j (by simp[hj]))]
def ZU (r:Nat→Option Nat) (nb:Nat):List Nat→StL→Upd
 | _,[]=>[]
 | i::ids,b::bs=>(i,vH r b)::ZU r nb ids bs
 | [],b::bs=>(nb,vH r b)::ZU r (nb+1) [] bs
theorem l8 (r:Nat→Option Nat) (st:Store):∀ (nb:Nat) (ids:List Nat) (stl:StL),jN r st nb ids stl=fE (ZU r nb ids stl) st
 | _,[],[]=>rfl
 | _,_::_,[]=>rfl
 | nb,i::ids,b::bs=>by simp[jN,ZU,fE,l8 r st nb ids bs]
 | nb,[],b::bs=>by simp[jN,ZU,fE,l8 r st (nb+1) [] bs]
theorem K4 (r:Nat→Option Nat):∀ (nb:Nat) (ids:List Nat) (stl:StL),∀ p∈ZU r nb ids stl,p.1∈ids∨(nb≤p.1∧p.1<nb+(stl.length-ids.length))
 | _,[],[]=>by simp[ZU]
 | _,_::_,[]=>by simp[ZU]
 | nb,i::ids,b::bs=>by
  intro p hp;simp only[ZU,zQ]at hp
  rcases hp with rfl|hp
  ·simp
  ·rcases K4 r nb ids bs p hp with h|h
   ·simp[h]
   ·right;simpa using h
 | nb,[],b::bs=>by
  intro p hp;simp only[ZU,zQ]at hp
  rcases hp with rfl|hp
  ·right;simp
  ·rcases K4 r (nb+1) [] bs p hp with h|h
   ·simp at h
   ·right;simp at h ⊢;omega
theorem JF {call:dG} {ts:List Nat} {st s1:Store} {nb:Nat} {own:Bool} {g:FuncId} {args:List AV} {v:AV} (hc:Clo ts st) (hv:∀ i∈aZ args,i∈ts) (h:fG call own g args st nb=some (v,s1)) :
 Loc ts (Wr ts nb false) (fun s=>fG call own g args s nb) st v s1:=by
 unfold fG at h ⊢;obtain⟨p,h1,h2⟩:=aG.1 h
 have hfr:LG ts (fun s=>qO s args own) st p.1 p.2∧∀ i∈aZ p.1,i∈ts:=by
  cases own with
  | true =>
   simp only[qO,Option.some.injEq]at h1;subst h1;exact⟨⟨.here fun _ _=>rfl,hc⟩,hv⟩
  | false=>exact FL hc hv (show fU st args=some (p.1,p.2)from h1)
 have h2':Loc ts (Wr ts nb false) (fun s=>jQ call g p.1 s nb (reach s EO (aZ p.1) [])) p.2 v s1:=by
  unfold jQ at h2 ⊢;obtain⟨h3,h4⟩:=aR.1 h2;obtain⟨q,h5,h6⟩:=aG.1 h4;unfold rM at h6;obtain⟨h7,h8⟩:=aR.1 h6;injection h8 with h8;injection h8 with h8 h9;subst h8;subst h9;have hin:=JY hfr.1.2 EO (aZ p.1) [] hfr.2 (by simp);rw[l8];refine⟨ZU _ nb _ q.2,fun u hu=>?_,rfl,fun st' hag=>?_⟩
  ·rcases K4 _ _ _ _ u hu with k|k
   ·exact .inl ⟨rfl,hin _ k⟩
   ·have:=(zP h7).2;exact .inr ⟨k.1,by omega⟩
  ·simp only;rw[DD hfr.1.2 hag EO _ [] hfr.2,EA hag hin,H7 _ hag hin,h3,h5];simp only[jK,dN,rM];rw[h7,l8];rfl
 refine(hfr.1.wr nb).seq (F2:=fun us s=>jQ call g us s nb (reach s EO (aZ us) [])) h2' fun st' s r e1 e2=>?_
 show bnd (qO st' args own) _=_;rw[show qO st' args own=_ from e1];exact e2
end
section
variable {C:Ctx}
theorem mU {α β:Type} {ts:List Nat} {ex:Nat→Prop} {o:Option α} {f:α→β} {st s1:Store} {v:β} (h:(bnd o fun a=>some (f a,st))=some (v,s1)):Loc ts ex (fun s=>bnd o fun a=>some (f a,s)) st v s1:=by
 obtain⟨a,h1,h2⟩:=aG.1 h;injection h2 with h2;injection h2 with h2 h3;subst h2;subst h3;exact .here fun st' _=>by simp[h1]
theorem ABB {P:Program} {ts:List Nat} {st st':Store} {s d:Option DK} {a:AV} (ha:Agree ts st st') (hv:∀ i∈dC a,i∈ts):GH P st' d a s=GH P st d a s:=by
 unfold GH;split
 ·unfold U5;split
  ·have:dI st' 1 a=dI st 1 a:=tX ha hv;rw[this]
  ·rfl
 ·rfl
theorem ZC {env:Nat→AV} {ts:List Nat} {st s1:Store} {nb:Nat} {op:Op} {v:AV} (hg:sF op=none) (hc:(bC env op).2=false→Clo ts st) (hv:∀ i∈(bC env op).1,i∈ts) (h:eH C env st nb op=some (v,s1)) :
 Loc ts (Wr ts nb (bC env op).2) (fun s=>eH C env s nb op) st v s1:=by
 unfold eH at h;split at h
 ·injection h with h;injection h with h1 h2;subst h1;subst h2;exact .here fun _ _=>rfl
 ·injection h with h;injection h with h1 h2;subst h1;subst h2;exact .here fun _ _=>rfl
 ·exact mU (f:=fun v=>v) h
 ·obtain⟨z,h1,h2⟩:=aG.1 h;injection h2 with h2;injection h2 with h2 h3;subst h2;subst h3;exact .one (Wr.nb _ _ _) fun st' _=>by simp[eH,h1]
 ·obtain⟨z,h1,h2⟩:=aG.1 h;injection h2 with h2;injection h2 with h2 h3;subst h2;subst h3;exact .one (Wr.nb _ _ _) fun st' _=>by simp[eH,h1]
 ·rename_i t parts;obtain⟨g,h1,h2⟩:=aG.1 h;obtain⟨h3,h4⟩:=aR.1 h2;obtain⟨z,h5,h6⟩:=aG.1 h4;obtain⟨ps,h7,h8⟩:=aG.1 h6;obtain⟨cs,h9,h10⟩:=aG.1 h8;injection h10 with h10;injection h10 with h11 h12;subst h11;subst h12;exact .here fun st' _=>by simp[eH,h1,h3,h5,h7,h9]
 ·rename_i t n parts;obtain⟨e,h1,h2⟩:=aG.1 h;obtain⟨ps,h3,h4⟩:=aG.1 h2;simp only[oD]at h4;split at h4
  ·rename_i hany;unfold AKV at h4;split at h4
   case h_2=>cases h4
   rename_i cs;obtain⟨k,h5,h6⟩:=aG.1 h4;obtain⟨z,h7,h8⟩:=aG.1 h6;obtain⟨h11,h12⟩:=aR.1 h8;obtain⟨q,h13,h14⟩:=aG.1 h12;injection h14 with h16;injection h16 with h17 h18;subst h17;subst h18;have hl:=LF (hc rfl) (fun i hi=>hv i (by simp only[bC];exact sV h3 (0,cs) (by simp) i hi)) (show pO st cs=some (q.1,q.2)from h13);refine(hl.wr nb).seq (F2:=fun l s=>some (AV.osl nb k 0 1,upd s nb (some (.tre k [l])))) ?_ fun st' s r e1 e2=>?_
   ·exact .one (Wr.nb _ _ _) fun st' _=>rfl
   ·simp only[eH,h1,h3,dN,oD,hany,if_true,AKV,h5,h7];rw[h11,jK,show pO st' cs=_ from e1];exact e2
  rename_i hany;unfold qW at h4;obtain⟨k,h5,h6⟩:=aG.1 h4;obtain⟨z,h7,h8⟩:=aG.1 h6;obtain⟨zi,h9,h10⟩:=aG.1 h8;obtain⟨h11,h12⟩:=aR.1 h10;obtain⟨q,h13,h14⟩:=aG.1 h12;obtain⟨es,h15,h16⟩:=aG.1 h14;injection h16 with h16;injection h16 with h17 h18;subst h17;subst h18;have hl:=AQ (hc rfl) (fun p hp i hi=>hv i (by simp only[bC];exact sV h3 p hp i hi)) (show eU st ps=some (q.1,q.2)from h13);refine(hl.wr nb).seq (F2:=fun l s=>bnd (mQ k (AHX n zi) l) fun es=>some (AV.osl nb k 0 n,upd s nb (some (.arr k es)))) ?_ fun st' s r e1 e2=>?_
  ·exact .one (Wr.nb _ _ _) fun st' _=>by simp[h15]
  ·simp only[eH,h1,h3,dN,oD,hany,if_false,qW,h5,h7,h9];rw[h11,jK,show eU st' ps=_ from e1];exact e2
 ·rename_i t a;obtain⟨x,h1,h2⟩:=aG.1 h;injection h2 with h2;injection h2 with h2 h3;subst h2;subst h3;exact .here fun st' hag=>by simp only[eH];rw[AAJ hag (fun i hi=>hv i hi),h1];rfl
 ·rename_i t a x;obtain⟨s2,h1,h2⟩:=aG.1 h;injection h2 with h2;injection h2 with h2 h3;subst h2;subst h3;exact UT (hc rfl) (fun i hi=>hv i (by simp[bC,hi])) (fun i hi=>hv i (by simp[bC,hi])) h1
 ·exact mU (f:=fun v=>v) h
 ·exact mU (f:=fun v=>AV.i v) h
 ·exact mU (f:=fun v=>AV.i v) h
 ·rename_i s d x;obtain⟨y,h1,h2⟩:=aG.1 h;injection h2 with h2;injection h2 with h2 h3;subst h2;subst h3;exact .here fun st' hag=>by simp only[eH];rw[ABB hag (fun i hi=>hv i hi),h1];rfl
 ·rename_i t l c;unfold QJ at h;split at h
  ·rename_i l c hl hcc;obtain⟨e,h1,h2⟩:=aG.1 h;obtain⟨k,h3,h4⟩:=aG.1 h2;obtain⟨by_,h5,h6⟩:=aG.1 h4;obtain⟨z,h7,h8⟩:=aG.1 h6;obtain⟨zi,h9,h10⟩:=aG.1 h8;obtain⟨h11,h12⟩:=aR.1 h10;injection h12 with h12;injection h12 with h13 h14;subst h13;subst h14;refine .one (Wr.nb _ _ _) fun st' _=>?_
   simp only[eH];rw[hl,hcc];simp only[QJ,h1,h3,h5,h7,h9,dN];rw[h11,jK]
  ·cases h
 ·exact mU (f:=fun v=>v) h
 ·rename_i s x f;obtain⟨p,h1,h2⟩:=aG.1 h;obtain⟨n,h3,h4⟩:=aG.1 h2;obtain⟨h5,h6⟩:=aR.1 h4;obtain⟨r,h7,h8⟩:=aG.1 h6;injection h8 with h8;injection h8 with h8 h9;subst h8;subst h9;exact .here fun st' _=>by simp only[eH,h1,h3,dN];rw[h5,jK,h7];rfl
 ·rename_i s x f;obtain⟨p,h1,h2⟩:=aG.1 h;obtain⟨n,h3,h4⟩:=aG.1 h2;obtain⟨g,h5,h6⟩:=aG.1 h4;obtain⟨r,h7,h8⟩:=aG.1 h6;injection h8 with h8;injection h8 with h8 h9;subst h8;subst h9;exact .here fun st' _=>by simp only[eH,h1,h3,h5,h7,dN]
 ·exact mU (f:=fun v=>v) h
 ·exact mU (f:=fun v=>v) h
 ·exact mU (f:=fun v=>v) h
 ·obtain⟨h1,h2⟩:=aR.1 h;obtain⟨u,h4,h2⟩:=aG.1 h2;injection h2 with h2;injection h2 with h2 h3;subst h2;subst h3;exact .here fun st' _=>by simp only[eH];rw[h1,jK,h4,dN]
 ·rename_i b args ts';unfold iL at h;split at h
  ·rename_i t x e1 e2;obtain⟨n,h1,h2⟩:=aG.1 h;injection h2 with h2;injection h2 with h2 h3;subst h2;subst h3;exact .here fun st' _=>by simp only[eH];rw[e1,e2];simp[iL,h1]
  ·rename_i t u s x e1 e2;obtain⟨h1,h2⟩:=aR.1 h;have hv':∀ i∈aZ [s,x],i∈ts:=fun i hi=>hv i (show i∈aZ (evL env args.toList)by rw[e2];exact hi)
   have hl:=XZ (fun i hi=>hv' i (by simp[aZ,hi])) (fun i hi=>hv' i (by simp[aZ,hi])) h2;obtain⟨U,k1,k2,k3⟩:=hl;refine⟨U,k1,k2,fun st' hag=>?_⟩;simp only[eH];rw[e1,e2];simp only[iL];rw[h1,jK];exact k3 st' hag
  ·rename_i t u d x e1 e2;have hv':∀ i∈aZ [d,x],i∈ts:=fun i hi=>hv i (show i∈aZ (evL env args.toList)by rw[e2];exact hi)
   obtain⟨U,k1,k2,k3⟩:=AB9 (nb:=nb) (fun i hi=>hv' i (by simp[aZ,hi])) (fun i hi=>hv' i (by simp[aZ,hi])) h;refine⟨U,k1,k2,fun st' hag=>?_⟩;simp only[eH];rw[e1,e2];exact k3 st' hag
  ·obtain⟨n,h1,h2⟩:=aG.1 h;injection h2 with h2;injection h2 with h2 h3;subst h2;subst h3;exact .here fun st' _=>by simp only[eH];simp[iL,h1]
  ·obtain⟨n,h1,h2⟩:=aG.1 h;injection h2 with h2;injection h2 with h2 h3;subst h2;subst h3;exact .here fun st' _=>by simp only[eH];simp[iL,h1]
  ·cases h
 ·cases h
theorem UU {call:dG} {env:Nat→AV} {ts:List Nat} {st s1:Store} {nb:Nat} {op:Op} {v:AV} (hc:(bC env op).2=false→Clo ts st) (hv:∀ i∈(bC env op).1,i∈ts) (h:cZ C call op env st nb=some (v,s1)) :
 Loc ts (Wr ts nb (bC env op).2) (fun s=>cZ C call op env s nb) st v s1:=by
 unfold cZ at h ⊢
 cases hg:sF op with
 | none =>
  rw[hg]at h;exact ZC hg hc hv h
 | some q =>
  rw[hg]at h;obtain⟨args,ts',hop,hargs⟩:=EN hg;simp only[stepW]at h ⊢;have htouch:bC env op=(dC (ev env q.1)++aZ (evL env q.2),false):=by rw[hop,← hargs];rfl
  rw[htouch]at hv hc ⊢;replace hc:=hc rfl;unfold FY at h ⊢;split at h
  ·rename_i g caps hfe;rw[hfe]at hv ⊢;split at h
   ·cases h
   rename_i hgy;simp only[hgy,if_false];refine JF hc (fun i hi=>hv i ?_) h
   have:∀ (a b:List AV),aZ (a++b)=aZ a++aZ b:=by
    intro a b
    induction a with
    | nil=>rfl
    | cons c a ih=>simp[aZ,ih]
   rw[this]at hi;simp only[dC,zV]at hi ⊢;exact hi.symm
  ·rename_i id hfe;rw[hfe]at hv ⊢;refine JF hc (fun i hi=>hv i ?_) h;simpa [dC,aZ]using hi
  ·cases h
theorem lY {env env':Nat→AV}:∀ {l:List Operand},(∀ x∈l,ev env' x=ev env x)→evL env' l=evL env l
 | [],_=>rfl
 | x::l,h=>by simp only[evL];rw[h x (by simp),lY fun y hy=>h y (by simp[hy])]
theorem oM {env env':Nat→AV}:∀ {l:List (Nat×Operand)},(∀ x∈fQ l,ev env' x=ev env x)→partsOf env' l=partsOf env l
 | [],_=>rfl
 | p::l,h=>by simp only[partsOf];rw[h p.2 (by simp[fQ]),oM fun y hy=>h y (by simp[fQ,hy])]
theorem OI {env env':Nat→AV} {o:Option Operand} (h:∀ x∈o.toList,ev env' x=ev env x):evO env' o=evO env o:=by
 cases o with
 | none=>rfl
 | some x=>simp only[evO];rw[h x (by simp)]
theorem PW {env env':Nat→AV} {st:Store} {nb:Nat} {op:Op} (h:∀ x∈opsOf op,ev env' x=ev env x):eH C env' st nb op=eH C env st nb op:=by
 cases op with
 | slice t x lo hi mx =>
  have hx:=h x (by simp[opsOf]);have hlo:=OI (env:=env) (env':=env') (o:=lo) fun y hy=>h y (by simp[opsOf]at hy ⊢;simp[hy])
  have hhi:=OI (env:=env) (env':=env') (o:=hi) fun y hy=>h y (by simp[opsOf]at hy ⊢;simp[hy])
  cases mx with
  | none=>simp only[eH];rw[hx,hlo,hhi]
  | some m=>rfl
 | call c =>
  obtain⟨callee,args,ts⟩:=c
  cases callee with
  | builtin b =>
   simp only[eH];rw[lY (l:=args.toList) fun y hy=>h y (show y∈args.toList from hy)]
  | value f=>rfl
  | invoke f m=>rfl
 | build t parts=>simp only[eH];rw[oM (l:=parts.toList) fun y hy=>h y hy]
 | buildSlice t n parts=>simp only[eH];rw[oM (l:=parts.toList) fun y hy=>h y hy]
 | makeFunc f first cs=>simp only[eH];rw[lY (l:=cs.toList) fun y hy=>h y hy]
 | move x=>simp only[eH];rw[h x (by simp[opsOf])]
 | assign x=>simp only[eH];rw[h x (by simp[opsOf])]
 | pick c a b=>simp only[eH];rw[h c (by simp[opsOf]),h a (by simp[opsOf]),h b (by simp[opsOf])]
 | box t x=>simp only[eH];rw[h x (by simp[opsOf])]
 | load t x=>simp only[eH];rw[h x (by simp[opsOf])]
 | store t a x=>simp only[eH];rw[h a (by simp[opsOf]),h x (by simp[opsOf])]
 | nilCheck x=>simp only[eH];rw[h x (by simp[opsOf])]
 | binOp op t x y ty=>simp only[eH];rw[h x (by simp[opsOf]),h y (by simp[opsOf])]
 | unOp op ty x=>simp only[eH];rw[h x (by simp[opsOf])]
 | convert s d x=>simp only[eH];rw[h x (by simp[opsOf])]
 | makeSlice t l c=>simp only[eH];rw[h l (by simp[opsOf]),h c (by simp[opsOf])]
 | fieldAddr s x f=>simp only[eH];rw[h x (by simp[opsOf])]
 | field s x f=>simp only[eH];rw[h x (by simp[opsOf])]
 | indexAddr t x i=>simp only[eH];rw[h x (by simp[opsOf]),h i (by simp[opsOf])]
 | index t x i=>simp only[eH];rw[h x (by simp[opsOf]),h i (by simp[opsOf])]
 | extract x j=>simp only[eH];rw[h x (by simp[opsOf])]
 | _=>rfl
theorem MH {call:dG} {env env':Nat→AV} {st:Store} {nb:Nat} {op:Op} (h:∀ x∈opsOf op,ev env' x=ev env x):cZ C call op env' st nb=cZ C call op env st nb:=by
 unfold cZ
 cases hg:sF op with
 | none=>exact PW h
 | some q =>
  obtain⟨args,ts',hop,hargs⟩:=EN hg;rw[hop]at h;simp only[stepW];rw[h q.1 (show q.1∈q.1::args.toList by simp),lY (l:=q.2) fun y hy=>h y (show y∈q.1::args.toList by rw[hargs];simp[hy])]
theorem M7 {env env':Nat→AV} {op:Op} (h:∀ x∈opsOf op,ev env' x=ev env x):bC env' op=bC env op:=by
 cases op with
 | call c =>
  obtain⟨callee,args,ts⟩:=c
  cases callee with
  | builtin b =>
   have:=lY (l:=args.toList) (env:=env) (env':=env') fun y hy=>h y (show y∈args.toList from hy)
   cases b<;>first|rfl|(simp only[bC];rw[this])
  | value f =>
   simp only[bC];rw[h f (show f∈f::args.toList by simp),lY (l:=args.toList) fun y hy=>h y (show y∈f::args.toList by simp[hy])]
  | invoke f m=>rfl
 | buildSlice t n parts=>simp only[bC];rw[lY (l:=fQ parts.toList) fun y hy=>h y hy]
 | load t x=>simp only[bC];rw[h x (by simp[opsOf])]
 | convert s d x=>simp only[bC];rw[h x (by simp[opsOf])]
 | store t a x=>simp only[bC];rw[h a (by simp[opsOf]),h x (by simp[opsOf])]
 | _=>rfl
end
section
variable {C:Ctx} {call:dG} {ops:Array Oper} {base:Nat}
abbrev St2:=(Nat→AV)×Store
abbrev Ft:=List Nat×Bool
def AVQ (all:List Oper) (t:Ft) (o:Oper) (S:St2):Prop :=
 uD all S.1 o.guard=some true→(∀ x∈(bC S.1 o.op).1,x∈t.1)∧((bC S.1 o.op).2=false→Clo t.1 S.2)∧(t.2=true→(bC S.1 o.op).2=true)
def Step (C:Ctx) (call:dG) (all:List Oper) (base:Nat) (t:Ft) (i:Nat) (o:Oper) (S S':St2):Prop:=aOp C call all base i o S=some S'∧AVQ all t o S
theorem H9 {t:Ft} {i:Nat} {o:Oper} {S S':St2} (h:Step C call ops.toList base t i o S S') :
 ∃ v U,S'=(uC S.1 o.dst v,fE U S.2)∧(∀ p∈U,Wr t.1 (base+wide*i) t.2 p.1) ∧
   ∀ env' st',(∀ x∈opsOf o.op,ev env' x=ev S.1 x)→uD ops.toList env' o.guard=uD ops.toList S.1 o.guard→Agree t.1 S.2 st' →
     Step C call ops.toList base t i o (env',st') (uC env' o.dst v,fE U st'):=by
 obtain⟨h1,h2⟩:=h;unfold aOp at h1;obtain⟨b,h3,h4⟩:=aG.1 h1
 cases b with
 | false =>
  simp only[yK,if_false,Option.some.injEq]at h4;refine⟨_,[],h4.symm,by simp,fun env' st' hx hw _=>⟨?_,fun hh=>?_⟩⟩
  ·unfold aOp;simp only;rw[hw,h3];simp[fE]
  ·simp only at hh;rw[hw,h3]at hh;simp at hh
 | true =>
  simp only[if_true]at h4;obtain⟨p,h5,h6⟩:=aG.1 h4;injection h6 with h6;obtain⟨k1,k2,k3⟩:=h2 h3;obtain⟨U,j1,j2,j3⟩:=UU k2 k1 (show cZ C call o.op S.1 S.2 _=some (p.1,p.2)from h5);refine⟨p.1,U,by rw[← h6,j2],fun q hq=>?_,fun env' st' hx hw hag=>⟨?_,fun _=>?_⟩⟩
  ·rcases j1 q hq with ⟨e1,e2⟩|e
   ·refine .inl ⟨?_,e2⟩
    cases ht:t.2 with
    | false=>rfl
    | true=>rw[k3 ht]at e1;cases e1
   ·exact .inr e
  ·unfold aOp;simp only;rw[hw,h3,dN,if_pos rfl,MH hx,show cZ C call o.op S.1 st' (base+wide*i)=_ from j3 st' hag];rfl
  ·simp only;rw[M7 hx];exact⟨k1,fun e=>(k2 e).agree hag,k3⟩
def UG (base:Nat) (t u:Ft) (i j:Nat):Prop :=
 ((∀ x∈t.1,x ∉ u.1)∨(t.2=true∧u.2=true))∧(∀ x∈u.1,¬ (base+wide*i≤x∧x<base+wide*i+wide))∧(∀ x∈t.1,¬ (base+wide*j≤x∧x<base+wide*j+wide))
theorem ANR {env:Nat→AV} {dst:Option Tmp} {v:AV} {x:Operand} (h:∀ d,dst=some d→x≠.tmp d):ev (uC env dst v) x=ev env x:=by
 cases dst with
 | none=>rfl
 | some d =>
  cases x with
  | tmp t =>
   have hne:t≠d:=fun e=>h d rfl (by rw[e])
   simp[ev,uC,upd,hne]
  | _=>rfl
theorem G7 {op:Op} {x:Operand} (h:x∈opsOf op):x∈op.operands:=by
 cases op with
 | call c =>
  obtain⟨callee,args,ts⟩:=c
  cases callee with
  | builtin b=>have h:x∈args.toList:=h;simpa [Op.operands,Call.operands]using h
  | value f=>have h:x∈f::args.toList:=h;simpa [Op.operands,Call.operands]using h
  | invoke f m=>have h:x∈args.toList:=h;simp only[Op.operands,Call.operands];simp at h ⊢;exact .inr h
 | build t parts =>
  have:∀ l:List (Nat×Operand),fQ l=l.map (·.2):=fun l=>by induction l<;>simp_all [fQ]
  simp only[opsOf,this]at h;simpa [Op.operands]using h
 | buildSlice t n parts =>
  have:∀ l:List (Nat×Operand),fQ l=l.map (·.2):=fun l=>by induction l<;>simp_all [fQ]
  simp only[opsOf,this]at h;simpa [Op.operands]using h
 | slice t x lo hi mx =>
  simp only[opsOf,zQ,zV,Option.mem_toList]at h;simp only[Op.operands];simp
  rcases h with h|h|h
  ·exact .inl h
  ·exact .inr (.inl h)
  ·exact .inr (.inr (.inl h))
 | makeFunc f first cs =>
  have h:x∈cs.toList:=h;simp only[Op.operands];simp at h ⊢;exact .inr h
 | _=>first|(simp[opsOf]at h;done)|(simpa [opsOf,Op.operands]using h)
theorem TY {o:Oper} {env:Nat→AV} {dst:Option Tmp} {v:AV} (h:∀ d,dst=some d→d ∉ o.looksAt ops):∀ x∈opsOf o.op,ev (uC env dst v) x=ev env x:=by
 intro x hx;refine ANR fun d hd e=>h d hd ?_
 subst e;exact yN _ (List.mem_filterMap.2 ⟨.tmp d,by simpa using G7 hx,rfl⟩)
theorem GN {o:Oper} {env:Nat→AV} {dst:Option Tmp} {v:AV} (h:∀ d,dst=some d→d ∉ o.looksAt ops):uD ops.toList (uC env dst v) o.guard=uD ops.toList env o.guard:=by
 cases hg:o.guard with
 | none=>rfl
 | some p =>
  obtain⟨g,want⟩:=p;simp only[uD];have hl:ops.toList[g]?=ops[g]?:=by simp
  rw[hl]
  cases hd:(ops[g]?).bind (·.dst)with
  | none=>rfl
  | some t =>
   simp only[M0]
   cases dst with
   | none=>rfl
   | some d =>
    have hne:t≠d:=fun e=>h d rfl (by subst e;simp[Oper.looksAt,hg,hd])
    simp[uC,upd,hne]
theorem ZV {env:Nat→AV} {x y:Option Tmp} {v u:AV} (h:∀ d,x=some d→y≠some d):uC (uC env x v) y u=uC (uC env y u) x v:=by
 cases x with
 | none=>rfl
 | some d =>
  cases y with
  | none=>rfl
  | some e =>
   have hne:d≠e:=fun q=>h d rfl (by rw[q])
   funext i;simp only[uC,upd];by_cases h1:i=e
   ·subst h1;simp[Ne.symm hne]
   ·simp[h1]
theorem ZB {t u:Ft} {i j:Nat} {oi oj:Oper} {S Si Sij:St2} (hne:i≠j) (hap:oi.apart ops oj=true) (ht:UG base t u i j)
 (h1:Step C call ops.toList base t i oi S Si) (h2:Step C call ops.toList base u j oj Si Sij):∃ Sj,Step C call ops.toList base u j oj S Sj∧Step C call ops.toList base t i oi Sj Sij:=by
 obtain⟨a1,a2,a3⟩:=Oper.apart_spec hap;obtain⟨v,U,rfl,hU,hi⟩:=H9 h1;obtain⟨y,V,rfl,hV,hj⟩:=H9 h2;obtain⟨d1,d2,d3⟩:=ht
 have n1:∀ p∈U,p.1 ∉ u.1:=fun p hp hm=>by
  rcases hU p hp with ⟨e1,e2⟩|e
  ·rcases d1 with d1|⟨d1,_⟩
   ·exact d1 _ e2 hm
   ·rw[d1]at e1;cases e1
  ·exact d2 _ hm e
 have n2:∀ p∈V,p.1 ∉ t.1:=fun p hp hm=>by
  rcases hV p hp with ⟨e1,e2⟩|e
  ·rcases d1 with d1|⟨_,d1⟩
   ·exact d1 _ hm e2
   ·rw[d1]at e1;cases e1
  ·exact d3 _ hm e
 have n3:∀ p∈U,∀ q∈V,p.1≠q.1:=fun p hp q hq e=>by
  rcases hV q hq with ⟨_,e2⟩|e2
  ·exact n1 p hp (e ▸ e2)
  ·rcases hU p hp with ⟨_,e3⟩|e3
   ·exact n2 q hq (e ▸ e3)
   ·rw[e]at e3;apply hne;unfold wide at e2 e3;omega
 have s1:=hj S.1 S.2 (fun x hx=>(TY a1 x hx).symm) (GN a1).symm (fun x hx=>(iB fun p hp e=>n1 p hp (e ▸ hx)).symm);refine⟨_,s1,?_⟩;have s2:=hi (uC S.1 oj.dst y) (fE V S.2) (TY a3) (GN a3) (fun x hx=>iB fun p hp e=>n2 p hp (e ▸ hx));rw[ZV (x:=oi.dst) (y:=oj.dst) a2,← RP n3];exact s2
def AOI (C:Ctx) (call:dG) (ops:Array Oper) (base:Nat) (T:Nat→Ft) (Q:St2→Prop):Nat→Array Bool→St2→Prop
 | 0,listed,S=>Region.ready .any ops listed=[]∧Q S
 | fuel+1,listed,S=>(Region.ready .any ops listed=[]→Q S) ∧
  ∀ i∈Region.ready .any ops listed,∃ o S',ops[i]?=some o∧Step C call ops.toList base (T i) i o S S'∧AOI C call ops base T Q fuel (listed.setIfInBounds i true) S'
def DC (ops:Array Oper) (listed:Array Bool):Prop:=∀ k ok,ops[k]?=some ok→listed.getD k false=true→∀ e∈ok.after,Region.binds .any e=true→listed.getD e.on false=true
theorem DC.step {listed:Array Bool} (h:DC ops listed) {j:Nat} {oj:Oper} (hj:ops[j]?=some oj) (hp:∀ e∈oj.after,Region.binds .any e=true→listed.getD e.on false=true):DC ops (listed.setIfInBounds j true):=by
 intro k ok hk hl e he hb;have up:∀ m,listed.getD m false=true→(listed.setIfInBounds j true).getD m false=true:=fun m hm=>getD_set_true hm
 by_cases hjk:j=k
 ·subst hjk;rw[hj]at hk;injection hk with hk;subst hk
  exact up _ (hp e he hb)
 ·rw[getD_set_ne false hjk]at hl;exact up _ (h k ok hk hl e he hb)
theorem GQ {after:List Edge} {i:Nat} (h:uE after i=true):∃ e∈after,Region.binds .any e=true∧e.on=i:=by
 unfold uE at h;rw[List.any_eq_true]at h;obtain⟨e,he,hh⟩:=h;simp only[zW,beq_iff_eq]at hh;exact⟨e,he,hh.1,hh.2⟩
theorem o5 {listed:Array Bool} (hd:DC ops listed) {i:Nat}:∀ (n:Nat) (after:List Edge),(∀ e∈after,Region.binds .any e=true→listed.getD e.on false=true)→fV ops.toList n after i=true→listed.getD i false=true
 | 0,after,hp,h=>by
  obtain⟨e,he,hb,rfl⟩:=GQ h;exact hp e he hb
 | n+1,after,hp,h=>by
  simp only[fV]at h;split at h
  ·rename_i h1;obtain⟨e,he,hb,rfl⟩:=GQ h1;exact hp e he hb
  ·rw[List.any_eq_true]at h;obtain⟨e,he,hh⟩:=h;simp only[zW]at hh;refine o5 hd n _ ?_ hh.2;intro d hd' hb;unfold rP at hd';split at hd'
   ·rename_i o ho;exact hd e.on o (by simpa using ho) (hp e he hh.1) d (by simpa using hd') hb
   ·cases hd'
theorem Y3 {T:Nat→Ft} {Q:St2→Prop} {i:Nat} {oi:Oper} (hi:ops[i]?=some oi) :
 ∀ (fuel:Nat) (listed:Array Bool) (S S':St2),DC ops listed →
   (∀ j oj,ops[j]?=some oj→j≠i→listed.getD j true=false→(∀ e∈oj.after,Region.binds .any e=true→e.on≠i)→oi.apart ops oj=true∧(fV ops.toList 3 oj.after.toList i=false→fV ops.toList 3 oi.after.toList j=false→UG base (T i) (T j) i j)) →
   i∈Region.ready .any ops listed→Step C call ops.toList base (T i) i oi S S' →
   AOI C call ops base T Q fuel (listed.setIfInBounds i true) S'→AOI C call ops base T Q (fuel+1) listed S:=by
 intro fuel
 induction fuel with
 | zero =>
  intro listed S S' _ _ hr hs H;refine⟨fun h=>(by rw[h]at hr;cases hr),fun j hj=>?_⟩;by_cases hji:j=i
  ·subst hji;exact⟨oi,S',hi,hs,H⟩
  ·have:=ready_mono hj hji;rw[H.1]at this
   cases this
 | succ fuel ih =>
  intro listed S S' hdc hfree hr hs H;refine⟨fun h=>(by rw[h]at hr;cases hr),fun j hj=>?_⟩;by_cases hji:j=i
  ·subst hji;exact⟨oi,S',hi,hs,H⟩
  ·obtain⟨oj,Sij,hoj,hsj,Hj⟩:=H.2 j (ready_mono hj hji);obtain⟨hjun,oj',hoj',hall⟩:=mem_ready.1 hj;rw[hoj]at hoj';injection hoj' with hoj';subst hoj'
   have notw:∀ {x y:Nat} {l:Array Bool},l.getD y true=false→l.getD y false=true→False:=fun {x y l} h0 h1=>by
    rcases zB7 y l.size with h'|h'
    ·simp[h']at h0 h1;rw[h0]at h1;cases h1
    ·simp[zB0 h']at h1
   have hnot:∀ e∈oj.after,Region.binds .any e=true→e.on≠i:=fun e he hb heq=>by
    have h1:=hall e he hb;have h0:=(mem_ready.1 hr).1;rw[heq]at h1;exact notw (x:=0) h0 h1
   obtain⟨hiun,oi',hoi',halli⟩:=mem_ready.1 hr;rw[hi]at hoi';injection hoi' with hoi';subst hoi'
   have hw1:fV ops.toList 3 oj.after.toList i=false:=by
    cases hq:fV ops.toList 3 oj.after.toList i with
    | false=>rfl
    | true=>exact(notw (x:=0) hiun (o5 hdc 3 _ (fun e he hb=>hall e (by simpa using he) hb) hq)).elim
   have hw2:fV ops.toList 3 oi.after.toList j=false:=by
    cases hq:fV ops.toList 3 oi.after.toList j with
    | false=>rfl
    | true=>exact(notw (x:=0) hjun (o5 hdc 3 _ (fun e he hb=>halli e (by simpa using he) hb) hq)).elim
   obtain⟨hap,hta⟩:=hfree j oj hoj hji hjun hnot;obtain⟨Sj,k1,k2⟩:=ZB (Ne.symm hji) hap (hta hw1 hw2) hs hsj;refine⟨oj,Sj,hoj,k1,ih (listed.setIfInBounds j true) Sj Sij (hdc.step hoj fun e he hb=>hall e he hb) ?_ (ready_mono hr (Ne.symm hji)) k2 (by rw[Array.setIfInBounds_comm _ _ hji];exact Hj)⟩;intro k ok hk hki hun hno;refine hfree k ok hk hki ?_ hno;by_cases hjk:j=k
   ·subst hjk;exact hjun
   ·rw[getD_set_ne true hjk]at hun;exact hun
def AOL (C:Ctx) (call:dG) (all:List Oper) (base:Nat):List Oper→List Ft→Nat→St2→St2→Prop
 | [],_,_,S,S'=>S=S'
 | o::os,t::ts,i,S,S'=>∃ S1,Step C call all base t i o S S1∧AOL C call all base os ts (i+1) S1 S'
 | _::_,[],_,_,_=>False
theorem UF {T:Nat→Ft} {Q:St2→Prop} (hT:∀ i j oi oj,ops[i]?=some oi→ops[j]?=some oj→i≠j→fV ops.toList 3 oj.after.toList i=false→fV ops.toList 3 oi.after.toList j=false→UG base (T i) (T j) i j) :
 ∀ (l:List Oper) (ts:List Ft) (k:Nat) (listed:Array Bool) (S S':St2),DC ops listed→(∀ j,l[j]?=ops[k+j]?)→(∀ j t,ts[j]?=some t→T (k+j)=t) →
   Region.lexFrom .any ops l.length k listed=true→AOL C call ops.toList base l ts k S S'→Q S'→AOI C call ops base T Q l.length listed S
 | [],_,_,_,S,S',_,_,_,hB,h,hQ=>by
  simp only[AOL]at h;subst h;exact⟨by simpa [Region.lexFrom]using hB,hQ⟩
 | o::l,[],_,_,_,_,_,_,_,_,h,_=>by simp[AOL]at h
 | o::l,t::ts,k,listed,S,S',hdc,hl,ht,hB,h,hQ=>by
  have h0:ops[k]?=some o:=by simpa using (hl 0).symm
  simp only[zS,Region.lexFrom,zW]at hB;obtain⟨⟨hr,hf⟩,hB'⟩:=hB;obtain⟨S1,h1,h2⟩:=h;have htk:T k=t:=by simpa using ht 0 t rfl
  rw[← htk]at h1;have hrk:k∈Region.ready .any ops listed:=by simpa using hr
  refine Y3 h0 l.length listed S S1 hdc (fun j oj hj hne hun hno=>⟨Region.free_spec h0 hf j oj hj hne hun hno,fun hn1 hn2=>hT k j o oj h0 hj (Ne.symm hne) hn1 hn2⟩) hrk h1 ?_;obtain⟨_,o',ho',hall⟩:=mem_ready.1 hrk;rw[h0]at ho';injection ho' with ho';subst ho'
  exact UF hT l ts (k+1) _ S1 S' (hdc.step h0 fun e he hb=>hall e he hb) (fun j=>by have:=hl (j+1);simpa [yJ,Nat.add_comm 1 j]using this)
   (fun j u hu=>by have:=ht (j+1) u (by simpa using hu);simpa [yJ,Nat.add_comm 1 j]using this) hB' h2 hQ
theorem Y2 (hC:CtxOk C) (hcall:CallOk C call) {T:Nat→Ft} {QA:St2→Prop} {Q:Exit→Act→World→Prop} {nt:Nat} {ds:List Deferred} {ρ:Option Nat} {w0:World} {m0:Mem} {φ0:Pl} (hs:∀ o∈ops,jC nt o=true)
 (hQ:∀ S a w,QA S→ARel ds w0 m0 φ0 nt (fun _=>True) S.1 S.2 a w→Q .normal a w) :
 ∀ (fuel:Nat) (listed:Array Bool) (S:St2) (a:Act) (w:World),AOI C call ops base T QA fuel listed S→ARel ds w0 m0 φ0 nt (II base fun j=>listed.getD j false=true) S.1 S.2 a w→wpAnyIn (FR ρ) 0 C.P .any ops Q fuel listed a w:=by
 have drop:∀ {ok:Nat→Prop} {S:St2} {a:Act} {w:World},ARel ds w0 m0 φ0 nt ok S.1 S.2 a w→ARel ds w0 m0 φ0 nt (fun _=>True) S.1 S.2 a w:=by
  rintro ok S a w ⟨⟨m,φ,k1,k2,k3,k4,k7⟩,k5,k6⟩;exact⟨⟨m,φ,k1,k2,k3,fun _ _=>trivial,k7⟩,k5,k6⟩
 intro fuel
 induction fuel with
 | zero=>intro listed S a w h hr;exact⟨h.1,hQ S a w h.2 (drop hr)⟩
 | succ fuel ih =>
  intro listed S a w h hr;refine⟨fun h0=>hQ S a w (h.1 h0) (drop hr),fun i hi=>?_⟩;obtain⟨o,S',ho,⟨hstep,_⟩,hnext⟩:=h.2 i hi;have hun:=(mem_ready.1 hi).1
  have hlt:i<listed.size:=by
   rcases zB7 i listed.size with h'|h'
   ·exact h'
   ·simp[zB0 h']at hun
  have hdn:¬ (listed.getD i false=true):=by
   intro h1;simp[hlt]at hun h1;rw[hun]at h1;cases h1
  refine nH hC hcall (dn:=fun j=>listed.getD j false=true) (base:=base) ho (hs o (Array.mem_of_getElem? ho)) hdn hstep hr fun a' w' hr'=>ih _ S' a' w' hnext ?_
  obtain⟨⟨m,φ,k1,k2,k3,k4,k7⟩,k5,k6⟩:=hr';refine⟨⟨m,φ,k1,k2,k3,fun id hne=>pY (fun j hj=>?_) (k4 id hne),k7⟩,k5,k6⟩
  rcases hj with hj|rfl
  ·exact getD_set_true hj
  ·simp[hlt]
def Chk (all:List Oper) (e:Nat×List Nat×Bool) (t:Ft) (o:Oper):Prop:=A9 t.1 e.2.1=true∨(t.2=true∧e.2.2=true)∨fV all 3 o.after.toList e.1=true
def AOK (base:Nat) (all os:List Oper) (ts:List Ft) (i:Nat) (log:List (Nat×List Nat×Bool)):Prop :=
 ∀ j o t,os[j]?=some o→ts[j]?=some t→QI base all o.after.toList t.1=true∧(∀ e∈log,Chk all e t o)∧∀ k t',k<j→ts[k]?=some t'→t'.1≠[]→Chk all (i+k,t') t o
theorem sZ:∀ {xs ys:List Nat},A9 xs ys=true→∀ x∈xs,x ∉ ys
 | [],_,_=>by simp
 | x::xs,ys,h=>by
  simp only[A9,zW,Bool.not_eq_true']at h;intro y hy hm
  rcases zQ.1 hy with rfl|hy
  ·rw[EL.2 hm]at h;cases h.1
  ·exact sZ h.2 y hy hm
theorem wL:∀ {xs ys:List Nat},allIn xs ys=true→∀ x∈xs,x∈ys
 | [],_,_=>by simp
 | x::xs,ys,h=>by
  simp only[allIn,zW]at h;intro y hy
  rcases zQ.1 hy with rfl|hy
  ·exact EL.1 h.1
  ·exact wL h.2 y hy
theorem IL {all:List Oper} {after:List Edge} {ns:List Nat} {ro:Bool}:∀ {log:List (Nat×List Nat×Bool)},WF all after ns ro log=true→∀ e∈log,A9 ns e.2.1=true∨(ro=true∧e.2.2=true)∨fV all 3 after e.1=true
 | [],_=>by simp
 | e::log,h=>by
  simp only[WF,zW,yB]at h;intro d hd
  rcases zQ.1 hd with rfl|hd
  ·have h1:=h.1;split at h1
   ·rename_i hc
    rcases hc with hc|hc
    ·exact .inl hc
    ·exact .inr (.inl hc)
   ·exact .inr (.inr h1)
  ·exact IL h.2 d hd
theorem EK (st:Store):∀ {l:List Nat} {i j:Nat},i∈l→j∈gM (st i)→j∈oU st l
 | [],_,_,h,_=>by cases h
 | a::l,i,j,h,k=>by
  simp only[oU,zV]
  rcases zQ.1 h with rfl|h
  ·exact .inl k
  ·exact .inr (EK st h k)
theorem vX:∀ (os:List Oper) (i:Nat) (R R':RS),dJ C call ops.toList true base os i R=some R' →
 ∃ ts,ts.length=os.length∧AOL C call ops.toList base os ts i (R.env,R.st) (R'.env,R'.st)∧AOK base ops.toList os ts i R.log
 | [],i,R,R',h=>by
  simp only[dJ,Option.some.injEq]at h;subst h;exact⟨[],rfl,rfl,by intro j o t h;simp at h⟩
 | o::os,i,R,R',h=>by
  simp only[dJ]at h;obtain⟨b,h1,h2⟩:=aG.1 h
  cases b with
  | true =>
   simp only[if_true]at h2;obtain⟨h3,h4⟩:=aR.1 h2;obtain⟨p,h5,h6⟩:=aG.1 h4;obtain⟨ts,k0,k1,k2⟩:=vX os (i+1) _ R' h6;simp only[AT5,if_true,AO2,zW]at h3;obtain⟨c1,c2,c3,c4⟩:=h3
   let t:Ft:=((wW R.st (bC R.env o.op)).1,(bC R.env o.op).2)
   refine⟨t::ts,by simp[k0],⟨_,⟨?_,fun _=>⟨fun x hx=>wL c1 x hx,fun e x hx y hy=>wL (by rw[e]at c2;exact c2) y (EK _ hx hy),fun h=>h⟩⟩,k1⟩,?_⟩
   ·unfold aOp;exact aG.2 ⟨true,h1,by simp only[if_true];exact aG.2 ⟨p,h5,rfl⟩⟩
   ·intro j o' t' ho ht
    cases j with
    | zero =>
     simp at ho ht;subst ho;subst ht;exact⟨c3,fun e he=>IL c4 e he,fun k _ hk=>by omega⟩
    | succ j =>
     obtain⟨q1,q2,q3⟩:=k2 j o' t' (by simpa using ho) (by simpa using ht)
     have hmem:∀ e∈R.log,e∈NS true o i R:=by
      intro e he;simp only[NS,if_true];unfold FN;split
      ·exact he
      ·exact zA2 _ he
     refine⟨q1,fun e he=>q2 e (hmem e he),fun k u hk hu hne=>?_⟩
     cases k with
     | zero =>
      simp at hu;subst hu
      have:(i,t)∈NS true o i R:=by
       simp only[NS,if_true];unfold FN;split
       ·rename_i hq;exact absurd hq hne
       ·rename_i hq;rw[← hq];exact List.mem_cons_self
      exact q2 _ this
     | succ k =>
      have:=q3 k u (by omega) (by simpa using hu) hne
      rwa [show i+1+k=i+(k+1)by omega]at this
  | false =>
   simp only[yK,if_false]at h2;obtain⟨ts,k0,k1,k2⟩:=vX os (i+1) _ R' h2;refine⟨([],true)::ts,by simp[k0],⟨_,⟨?_,fun hh=>?_⟩,k1⟩,?_⟩
   ·unfold aOp;exact aG.2 ⟨false,h1,by simp⟩
   ·rw[show uD ops.toList R.env o.guard=some false from h1]at hh;simp at hh
   ·intro j o' t' ho ht
    cases j with
    | zero =>
     simp at ho ht;subst ho;subst ht;exact⟨rfl,fun e _=>.inl rfl,fun k _ hk=>by omega⟩
    | succ j =>
     obtain⟨q1,q2,q3⟩:=k2 j o' t' (by simpa using ho) (by simpa using ht);refine⟨q1,q2,fun k u hk hu hne=>?_⟩
     cases k with
     | zero=>simp at hu;subst hu;exact absurd rfl hne
     | succ k =>
      have:=q3 k u (by omega) (by simpa using hu) hne
      rwa [show i+1+k=i+(k+1)by omega]at this
theorem vU {base:Nat} {all:List Oper} {after:Array Edge}:∀ {ns:List Nat},QI base all after.toList ns=true→∀ x∈ns,∀ i,fV all 3 after.toList i=false→¬ (base+wide*i≤x∧x<base+wide*i+wide)
 | [],_=>by simp
 | n::ns,h=>by
  simp only[QI,zW]at h;intro x hx i hi hh
  rcases zQ.1 hx with rfl|hx
  ·have h1:=h.1;split at h1
   ·omega
   ·have:(x-base) / wide=i:=by unfold wide at *;omega
    rw[this,hi]at h1;cases h1
  ·exact vU h.2 x hx i hi hh
theorem AJD (hC:CtxOk C) (hm:C.P.follows .mixedOrders=true) {call:dG} (hcall:CallOk C call):PK C call:=by
 intro ops id base nt R' env st ds ρ w0 m0 φ0 a w Q hs hlex hrun hr hQ;simp only[Region.lexB,zW]at hlex;obtain⟨ts,hlen,hlx,hp⟩:=vX _ _ _ _ hrun
 let T:Nat→Ft:=fun i=>(ts[i]?).getD ([],true)
 have hget:∀ i o,ops[i]?=some o→∃ t,ts[i]?=some t∧T i=t:=fun i o ho=>by
  have hlt:i<ops.toList.length:=by simpa using (zG.1 ho).1
  rw[← hlen]at hlt;exact⟨ts[i],zT hlt,by simp[T,zT hlt]⟩
 have hT:∀ i j oi oj,ops[i]?=some oi→ops[j]?=some oj→i≠j→fV ops.toList 3 oj.after.toList i=false→fV ops.toList 3 oi.after.toList j=false→UG base (T i) (T j) i j:=by
  intro i j oi oj hi hj hne hji hij;obtain⟨ti,gi,ei⟩:=hget i oi hi;obtain⟨tj,gj,ej⟩:=hget j oj hj;rw[ei,ej];obtain⟨pi1,_,pi3⟩:=hp i oi ti (by simpa using hi) gi;obtain⟨pj1,_,pj3⟩:=hp j oj tj (by simpa using hj) gj;refine⟨?_,fun x hx=>vU pj1 x hx i hji,fun x hx=>vU pi1 x hx j hij⟩
  rcases Nat.lt_or_gt_of_ne hne with h|h
  ·by_cases he:ti.1=[]
   ·rw[he];exact .inl (by simp)
   ·have:=pj3 i ti h gi he;rw[zK]at this
    rcases this with q|q|q
    ·exact .inl fun x hx hm=>sZ q x hm hx
    ·exact .inr ⟨q.2,q.1⟩
    ·rw[hji]at q;cases q
  ·by_cases he:tj.1=[]
   ·rw[he];exact .inl (by simp)
   ·have:=pi3 j tj h gj he;rw[zK]at this
    rcases this with q|q|q
    ·exact .inl fun x hx hm=>sZ q x hx hm
    ·exact .inr q
    ·rw[hij]at q;cases q
 refine wpIn_region_any hm (Y2 (QA:=fun S=>S=(R'.env,R'.st)) (base:=base) (T:=T) hC hcall hs (fun S a w h1 h2=>by subst h1;exact hQ a w h2) _ _ (env,st) a _ ?_ ?_)
 ·have:=UF (C:=C) (call:=call) (base:=base) (T:=T) (Q:=fun S=>S=(R'.env,R'.st)) hT ops.toList ts 0 (Array.replicate ops.size false) (env,st) (R'.env,R'.st) (by intro k ok _ hl;exfalso;rcases zB7 k ops.size with h'|h'<;>simp[h',zB0]at hl) (by simp)
   (fun j t ht=>by simp[T,ht]) (by simpa using hlex.2) hlx rfl
  simpa using this
 ·obtain⟨⟨m,φ,k1,k2,k3,k4,k7⟩,k5,k6⟩:=hr;exact⟨⟨m,φ,k1.drew,k2,k3.trans (.drew w m φ),fun id hne=>.inl (k4 id hne),k7.adv (.drew w m φ)⟩,k5,k6⟩
end
theorem ACM (P:Program):pG P:=fun _ _ h=>UH h
def EU (P:Program):Bool:=(List.range P.types.size).all fun t=>match P.underlying t with
 | some (.struct fs)=>fs.toList.all fun f=>(iT P f.type).isSome
 | some (.array _ e)=>(iT P e).isSome
 | _=>true
theorem AAY {P:Program} (h:EU P=true):LH P:=by
 constructor
 ·intro t fs hlt hu f hf;have:=zM.1 h t (List.mem_range.2 hlt);rw[hu]at this;exact Option.isSome_iff_exists.1 (zM.1 this f (by simpa using hf))
 ·intro t n e hlt hu;have:=zM.1 h t (List.mem_range.2 hlt);rw[hu]at this;exact Option.isSome_iff_exists.1 this
def TW (P:Program):Bool:=P.funcs.toList.all fun fn=>(fn.name != "runtime.NumGoroutine") && match fn.body with
 | some c=>codeOk fn.ntmps c
 | none=>true
theorem ANQ {P:Program} (h:TW P=true):AON P:=by
 intro g fn c hf hb;have:=zM.1 h fn (zU (by simpa using hf));simp only[zW,bne_iff_ne]at this;rw[hb]at this;exact this
def TZ (P:Program) (t:TypeId):Bool:=match P.underlying t with
 | some (.struct fs)=>match fs.toList with
  | [fb,fn]=>!P.stoodInHeld t && (!P.eqGuardType P.depth t && (fb.name != "_" && (fn.name != "_" && (fb.offset == 0 && (fn.offset == 1 && (match P.underlying fb.type,P.underlying fn.type with
   | some .bool,some (.int _)=>true
   | _,_=>false))))))
  | _=>false
 | _=>false
theorem AR7 {P:Program} {t:TypeId} (h:TZ P t=true):AT8 P t:=by
 unfold TZ at h;split at h
 ·rename_i fs hu;split at h
  ·rename_i fb fn hfs;simp only[zW,Bool.not_eq_true',bne_iff_ne,beq_iff_eq]at h;obtain⟨h1,h2,h3,h4,h5,h6,h7⟩:=h;split at h7
   ·rename_i k hb hn;refine⟨fb,fn,k,?_,h1,h2,h3,h4,h5,h6,hb,hn⟩;rw[hu];have:fs=#[fb,fn]:=by apply Array.ext';simpa using hfs
    rw[this]
   ·cases h7
  ·cases h
 ·cases h
theorem iF {C:Ctx} (hf:EU C.P=true) (hn:TW C.P=true) (he:∀ t,C.eqT t=true→TZ C.P t=true) (hm:C.P.follows .mixedOrders=true) (hp:PrimOk C):SoundOk C :=
 have hc:CtxOk C:=⟨ACM _,AAY hf,fun t ht=>AR7 (he t ht)⟩
 ⟨hc,ANQ hn,fun _ hcall=>AJD hc hm hcall,hp⟩
theorem ZW {C:Ctx} (h:∀ g,C.prim g=none):PrimOk C :=
 ⟨fun g args st p hp=>(by unfold bM at hp;rw[h g]at hp;cases hp),fun g args st r s hp=>(by unfold bM at hp;rw[h g]at hp;cases hp)⟩
structure Val where
 null:Bool
 n:Int
 deriving DecidableEq
inductive Ex where
 | mk (kind col:Int) (val:Val) (kids:List Ex)
def Ex.kind:Ex→Int | .mk k _ _ _=>k
def Ex.col:Ex→Int | .mk _ c _ _=>c
def Ex.val:Ex→Val | .mk _ _ v _=>v
def Ex.kids:Ex→List Ex | .mk _ _ _ ks=>ks
def Val.cells (v:Val):List IV:=[.bool v.null, .int v.n]
mutual
def Ex.cells:Ex→List IV
 | .mk k c v ks=>[.int k, .int c, .bool v.null, .int v.n, .isl (Ex.aA ks)]
def Ex.aA:List Ex→List (List IV)
 | []=>[]
 | e::es=>e.cells::Ex.aA es
end
theorem Ex.ind {P:Ex→Prop} (h:∀ k c v ks,(∀ e∈ks,P e)→P (.mk k c v ks)):(e:Ex)→P e
 | .mk k c v ks=>h k c v ks fun e he=>Ex.ind h e
termination_by e=>SizeOf.sizeOf e
decreasing_by
 have:=List.sizeOf_lt_of_mem he;simp;omega
theorem Ex.aB (e:Ex):e.cells=[.int e.kind, .int e.col, .bool e.val.null, .int e.val.n, .isl (Ex.aA e.kids)]:=by
 cases e;simp[Ex.cells,Ex.kind,Ex.col,Ex.val,Ex.kids]
@[simp] theorem Ex.aV:∀ (l:List Ex),(Ex.aA l).length=l.length
  | []=>by simp[Ex.aA]
  | _::l=>by simp[Ex.aA,Ex.aV l]
theorem Ex.aS:∀ {l:List Ex} {i:Nat} {e:Ex},l[i]?=some e→iP (Ex.aA l) i=some e.cells
 | [],_,_,h=>by simp at h
 | a::l,0,e,h=>by simp at h;subst h;simp[Ex.aA,iP]
 | a::l,i+1,e,h=>by simp only[Ex.aA,iP];exact Ex.aS (by simpa using h)
@[simp] theorem Ex.dB (e:Ex):e.cells.length=5:=by rw[Ex.aB];rfl
@[simp] theorem Ex.AL9 (e:Ex):nJ 5 e.cells=some e.cells:=by rw[Ex.aB];rfl
@[simp] theorem Ex.oZ:∀ (l:List Ex),gQ 5 (Ex.aA l)=true
  | []=>by simp[Ex.aA,gQ]
  | e::l=>by
   have:=Ex.oZ l;simp only[gQ]at this;simp[Ex.aA,gQ,Ex.dB,this]
theorem Ex.fC (a b:List Ex):Ex.aA (a++b)=Ex.aA a++Ex.aA b:=by
 induction a with
 | nil=>simp[Ex.aA]
 | cons e a ih=>simp[Ex.aA,ih]
@[simp] theorem Ex.tZ:∀ (n:Nat) (l:List Ex),(Ex.aA l).take n=Ex.aA (l.take n)
  | 0,l=>by simp[Ex.aA]
  | n+1,[]=>by simp[Ex.aA]
  | n+1,e::l=>by simp[Ex.aA,Ex.tZ n l]
theorem Ex.bB (l:List Ex) (e:Ex):Ex.aA (l++[e])=Ex.aA l++[e.cells]:=by
 rw[Ex.fC];simp[Ex.aA]
theorem aL {α:Type} {l:List α} {i:Nat} {a:α} (h:l[i]?=some a):l.take (i+1)=l.take i++[a]:=by
 rw[List.take_add_one,h];rfl
mutual
def Ex.size:Ex→Nat
 | .mk _ _ _ ks=>1+Ex.bV ks
def Ex.bV:List Ex→Nat
 | []=>0
 | e::es=>e.size+Ex.bV es
end
theorem Ex.size_eq (e:Ex):e.size=1+Ex.bV e.kids:=by cases e;simp[Ex.size,Ex.kids]
theorem Ex.qX (e:Ex):1≤e.size:=by rw[Ex.size_eq];omega
theorem Ex.gU:∀ (l:List Ex),l.length≤Ex.bV l
 | []=>by simp[Ex.bV]
 | e::es=>by have:=Ex.gU es;have:=Ex.qX e;simp[Ex.bV];omega
theorem Ex.MM:∀ {l:List Ex} {e:Ex},e∈l→e.size≤Ex.bV l
 | a::l,e,h=>by
  rcases zQ.1 h with rfl|h
  ·simp[Ex.bV]
  ·have:=Ex.MM h;simp[Ex.bV];omega
@[simp] theorem QS:∀ l:List IV,aZ (kW l)=[]
  | []=>rfl
  | _::l=>by simp[kW,aZ,dC,QS l]
@[simp] theorem ZO (r:Nat→Option Nat):∀ l:List IV,vG r (kW l)=kW l
  | []=>rfl
  | _::l=>by simp[kW,vG,ren,ZO r l]
@[simp] theorem AC0:∀ l:List IV,ACK (kW l)=some l
  | []=>rfl
  | _::l=>by simp[kW,ACK,AC0 l,OP]
@[simp] theorem Ex.AJT (e:Ex):nJ 5 (kW e.cells)=some (kW e.cells):=by rw[Ex.aB];rfl
@[simp] theorem Ex.AF0 (e:Ex) (a b c d f:AV):splice [a,b,c,d,f] 0 (kW e.cells)=some (kW e.cells):=by rw[Ex.aB];rfl
def bT (n:Int):Int:=if n=1∨n=2 then 0 else if n=10∨n=11 then 1 else if 3≤n∧n≤9 then 2 else -1
def cK (w:Int):Bool:=decide (1≤w∧w≤6)
def Val.ok (v:Val):Bool:=if v.null then decide (v.n=0)else decide (-9999≤v.n∧v.n≤9999)
def Val.zero:Val:=⟨false,0⟩
def Ex.zero:Ex:=.mk 0 0 Val.zero []
mutual
def Ex.thin:Ex→Prop
 | .mk _ _ _ ks=>ks.length<1000000000∧Ex.iD ks
def Ex.iD:List Ex→Prop
 | []=>True
 | e::es=>e.thin∧Ex.iD es
end
theorem Ex.pU:∀ (l:List Ex),Ex.iD l↔∀ k∈l,k.thin
 | []=>by simp[Ex.iD]
 | e::es=>by simp[Ex.iD,Ex.pU es]
theorem Ex.dY (e:Ex):e.thin↔e.kids.length<1000000000∧∀ k∈e.kids,k.thin:=by
 cases e;simp[Ex.thin,Ex.kids,Ex.pU]
def Ex.headOk (w:Int) (e:Ex):Bool:=if e.kind=1 then decide (0≤e.col) && (decide (e.col<w) && (!e.val.null && e.val.n == 0))else if e.kind=2 then decide (e.col=0) && e.val.ok else decide (e.col=0) && (!e.val.null && e.val.n == 0)
def Ex.vB (w:Int):Nat→Ex→Bool
 | 0,e=>decide ((e.kids.length:Int)=bT e.kind) && (decide (bT e.kind≤0) && e.headOk w)
 | n+1,e=>decide ((e.kids.length:Int)=bT e.kind) && (e.headOk w && e.kids.all (Ex.vB w n))
theorem Ex.jY (w:Int) (e:Ex):e.headOk w=false∨e.headOk w=true∧((e.kind=1∧0≤e.col∧e.col<w∧e.val.null=false∧e.val.n=0∧bT e.kind=0)∨(e.kind=2∧e.col=0∧Val.ok ⟨e.val.null,e.val.n⟩=true∧True∧True∧bT e.kind=0)∨(e.kind≠1∧e.kind≠2∧e.col=0∧e.val.null=false∧e.val.n=0∧True)):=by
 cases h:e.headOk w with
 | false=>exact .inl rfl
 | true =>
  refine .inr ⟨rfl,?_⟩;unfold Ex.headOk at h;by_cases h1:e.kind=1
  ·simp[h1]at h;simp[h1,h,bT]
  ·by_cases h2:e.kind=2
   ·simp[h2]at h;simp[h2,h,bT]
   ·simp[h1,h2]at h;simp[h1,h2,h]
def Ex.ok (w:Int) (e:Ex):Bool:=cK w && e.vB w 8
mutual
def Ex.sub (by_:List Ex):Ex→Ex
 | .mk k c v ks=>if k=1 then(by_[c.toNat]?).getD Ex.zero else .mk k c v (Ex.AS5 by_ ks)
def Ex.AS5 (by_:List Ex):List Ex→List Ex
 | []=>[]
 | e::es=>Ex.sub by_ e::Ex.AS5 by_ es
end
mutual
def Ex.ht:Ex→Nat
 | .mk _ _ _ ks=>Ex.htL ks
def Ex.htL:List Ex→Nat
 | []=>0
 | e::es=>max (1+e.ht) (Ex.htL es)
end
theorem Ex.AJ5 (e:Ex):e.ht=Ex.htL e.kids:=by cases e;simp[Ex.ht,Ex.kids]
theorem Ex.AGK {n:Nat}:∀ (l:List Ex),Ex.htL l≤n↔∀ e∈l,1+e.ht≤n
 | []=>by simp[Ex.htL]
 | a::l=>by simp[Ex.htL,Nat.max_le,Ex.AGK l]
theorem Ex.dA:∀ e:Ex,e.size<1000000000→e.thin:=by
 intro e
 induction e using Ex.ind with
 | h k c v ks ih =>
  intro hs;rw[Ex.dY];simp only[Ex.kids];have h1:=Ex.gU ks;simp[Ex.size]at hs;exact⟨by omega,fun e he=>ih e he (by have:=Ex.MM he;omega)⟩
mutual
def Ex.wf (w:Int):Ex→Bool
 | .mk k c v ks=>decide ((ks.length:Int)=bT k) && (Ex.headOk w (.mk k c v ks) && Ex.wfL w ks)
def Ex.wfL (w:Int):List Ex→Bool
 | []=>true
 | e::es=>Ex.wf w e && Ex.wfL w es
end
theorem Ex.YN (w:Int):∀ l,Ex.wfL w l=l.all (Ex.wf w)
 | []=>by simp[Ex.wfL]
 | e::es=>by simp[Ex.wfL,Ex.YN w es]
theorem Ex.AH0 (w:Int) (e:Ex):e.wf w=(decide ((e.kids.length:Int)=bT e.kind) && (e.headOk w && e.kids.all (Ex.wf w))):=by
 cases e;rw[Ex.wf,Ex.YN];rfl
theorem Ex.ACU (w:Int):∀ (n:Nat) (e:Ex),e.vB w n=(e.wf w && decide (e.ht≤n))
 | 0,e=>by
  rw[Ex.AH0,Ex.AJ5,Bool.eq_iff_iff];simp only[Ex.vB,zW,zN];constructor
  ·rintro⟨h1,h2,h3⟩
   have:e.kids=[]:=by cases h:e.kids with
    | nil=>rfl
    | cons a l=>rw[h]at h1;simp at h1;omega
   simp[this,h3,Ex.htL];rw[this]at h1;simpa using h1
  ·rintro⟨⟨h1,h2,h3⟩,h4⟩
   have:e.kids=[]:=by cases h:e.kids with
    | nil=>rfl
    | cons a l=>rw[h]at h4;simp[Ex.htL]at h4
   rw[this]at h1;simp at h1;simp[this,← h1,h2]
 | n+1,e=>by
  rw[Ex.AH0,Ex.AJ5,Bool.eq_iff_iff];simp only[Ex.vB,zW,zN,zM,Ex.AGK];constructor
  ·rintro⟨h1,h2,h3⟩;refine⟨⟨h1,h2,fun x hx=>?_⟩,fun x hx=>?_⟩
   ·have:=h3 x hx;rw[Ex.ACU w n x]at this;simp at this;exact this.1
   ·have:=h3 x hx;rw[Ex.ACU w n x]at this;simp at this;omega
  ·rintro⟨⟨h1,h2,h3⟩,h4⟩;refine⟨h1,h2,fun x hx=>?_⟩;rw[Ex.ACU w n x];have:=h4 x hx;simp[h3 x hx];omega
theorem Ex.YU (w:Int):∀ (n:Nat) (e:Ex),e.vB w n=true→e.size+1≤2 ^ (n+1)
 | n,e,h=>by
  have hk:bT e.kind≤2:=by
   unfold bT;split;· omega
   split;· omega
   split<;>omega
  rw[Ex.size_eq];have hw:=h;rw[Ex.ACU,Ex.AH0]at hw;simp only[zW,zN]at hw;obtain⟨⟨h1,h2,h3⟩,h4⟩:=hw
  cases n with
  | zero =>
   have:e.kids=[]:=by cases h:e.kids with
    | nil=>rfl
    | cons a l=>rw[Ex.AJ5,h]at h4;simp[Ex.htL]at h4
   simp[this,Ex.bV]
  | succ n =>
   simp only[Ex.vB,zW,zN,zM]at h
   have key:∀ l:List Ex,(∀ x∈l,x.vB w n=true)→Ex.bV l+l.length≤l.length*2 ^ (n+1):=by
    intro l
    induction l with
    | nil=>intro _;simp[Ex.bV]
    | cons a l ih =>
     intro hl;have a1:=Ex.YU w n a (hl a (by simp));have a2:=ih fun x hx=>hl x (by simp[hx])
     simp only[Ex.bV,zS,Nat.add_mul,Nat.one_mul];omega
   have a1:=key e.kids h.2.2;have a2:e.kids.length≤2:=by omega
   have a3:e.kids.length*2 ^ (n+1)≤2*2 ^ (n+1):=Nat.mul_le_mul_right _ a2;have a4:2 ^ (n+1+1)=2*2 ^ (n+1):=by rw[x9];omega
   have a5:2≤2 ^ (n+1):=by rw[x9];have:=xU (n:=n);omega
   rcases zB7 1 e.kids.length with h5|h5
   ·have:e.kids.length=2:=by omega
    rw[this]at a1;omega
   ·have:e.kids.length*2 ^ (n+1)≤1*2 ^ (n+1):=Nat.mul_le_mul_right _ h5;have:=zA9 e.kids.length
    rcases Nat.eq_zero_or_pos e.kids.length with h6|h6
    ·rw[h6]at a1;omega
    ·omega
theorem Ex.AIB {w:Int} {e:Ex} (h:e.ok w=true):e.size<1000:=by
 simp[Ex.ok]at h;have:=Ex.YU w 8 e h.2;omega
noncomputable def X9 (cs:List IV) (st:StL):Option (AV×StL):=@ite _ (∃ e:Ex,e.size<1000000000∧e.cells=cs) (Classical.propDecidable _) (some (.i (.agg cs),st)) none
noncomputable def X8:List AV→StL→Option (AV×StL)
 | [.i (.iref cs)],[]=>X9 cs []
 | [.ownE 0 5 j 0],[some (.arr 5 es)]=>bnd es[j]? fun cs=>X9 cs [some (.arr 5 es)]
 | _,_=>none
theorem AEX {e:Ex} {st:StL} (h:e.size<1000000000):X9 e.cells st=some (.i (.agg e.cells),st):=by
 unfold X9;exact if_pos ⟨e,h,rfl⟩
theorem JB {cs:List IV} {st:StL} {r:AV×StL} (h:X9 cs st=some r):∃ e:Ex,e.size<1000000000∧cs=e.cells∧r=(.i (.agg e.cells),st):=by
 unfold X9 at h;by_cases hc:∃ e:Ex,e.size<1000000000∧e.cells=cs
 ·rw[if_pos hc]at h;obtain⟨e,h1,rfl⟩:=hc;injection h with h;exact⟨e,h1,rfl,h.symm⟩
 ·rw[if_neg hc]at h;cases h
theorem AEW {e:Ex} (h:e.size<1000000000):X8 [.i (.iref e.cells)] []=some (.i (.agg e.cells),[]):=AEX h
theorem X7 {args:List AV} {st:StL} {r:AV×StL} (h:X8 args st=some r):∃ e:Ex,e.size<1000000000∧r=(.i (.agg e.cells),st) ∧
 ((args=[.i (.iref e.cells)]∧st=[])∨∃ j es,args=[.ownE 0 5 j 0]∧st=[some (.arr 5 es)]∧es[j]?=some e.cells):=by
 unfold X8 at h;split at h
 ·obtain⟨e,h1,rfl,rfl⟩:=JB h;exact⟨e,h1,rfl, .inl ⟨rfl,rfl⟩⟩
 ·rename_i j es;obtain⟨cs,h0,h⟩:=aG.1 h;obtain⟨e,h1,rfl,rfl⟩:=JB h;exact⟨e,h1,rfl, .inr ⟨j,es,rfl,rfl,h0⟩⟩
 ·cases h
theorem jW {m:Mem} {es:List (List IV)} {v:Value} (h:IRep m (.isl es) v) :
 (es=[]∧∃ ao cap,v=.slice ao 0 cap)∨(es≠[]∧∃ b off k cap,v=.slice (some ⟨b,off,none⟩) es.length cap∧IElems m b off k es∧es.length≤cap):=by
 cases h with
 | isl0 ao cap hc=>exact .inl ⟨rfl,ao,cap,rfl⟩
 | isl hn he hc=>exact .inr ⟨hn,_,_,_,_,rfl,he,hc⟩
theorem lV {m:Mem} {c v:Value} (h:IRep m (.lit c) v):v=c:=by cases h;rfl
theorem IAt.inv {m:Mem} {b o:Nat} {c:IV} {cs:List IV} (h:IAt m b o (c::cs)):∃ v,m b o=some v∧IRep m c v∧v.oneCell'=true∧IAt m b (o+1) cs:=by
 cases h with|cons a r q t=>exact⟨_,a,r,q,t⟩
structure ExAt (m:Mem) (b o:Nat) (e:Ex) (v:Value):Prop where
 c0:m b o=some (.int .i64 e.kind)
 c1:m b (o+1)=some (.int .i64 e.col)
 c2:m b (o+2)=some (.bool e.val.null)
 c3:m b (o+3)=some (.int .i64 e.val.n)
 c4:m b (o+4)=some v
 kids:IRep m (.isl (Ex.aA e.kids)) v
theorem wD {m:Mem} {b o:Nat} {e:Ex} (h:IAt m b o e.cells):∃ v,ExAt m b o e v:=by
 rw[Ex.aB]at h;obtain⟨v0,a0,r0,-,h⟩:=h.inv;obtain⟨v1,a1,r1,-,h⟩:=h.inv;obtain⟨v2,a2,r2,-,h⟩:=h.inv;obtain⟨v3,a3,r3,-,h⟩:=h.inv;obtain⟨v4,a4,r4,-,-⟩:=h.inv;rw[lV r0]at a0;rw[lV r1]at a1;rw[lV r2]at a2;rw[lV r3]at a3;exact⟨v4,a0,a1,a2,a3,a4,r4⟩
theorem KM {m:Mem} {es:List (List IV)} {v:Value} (h:IRep m (.isl es) v):v.oneCell'=true:=by
 cases h<;>rfl
theorem AAA {m:Mem} {b o:Nat} {e:Ex} {v:Value} (h:ExAt m b o e v):IAt m b o e.cells:=by
 rw[Ex.aB];exact .cons h.c0 (.lit _) rfl (.cons h.c1 (.lit _) rfl (.cons h.c2 (.lit _) rfl (.cons h.c3 (.lit _) rfl (.cons h.c4 h.kids (KM h.kids) (.nil _ _)))))
theorem lZ {m:Mem} {b o k:Nat} {e:Ex} {l:List Ex} (h:IElems m b o k (Ex.aA (e::l))):k=5∧IAt m b o e.cells∧IElems m b (o+5) 5 (Ex.aA l):=by
 simp only[Ex.aA]at h
 cases h with
 | cons a hk r =>
  rw[Ex.dB]at hk;subst hk;exact⟨rfl,a,r⟩
theorem J7 {m:Mem} {b:Nat}:∀ {o k k':Nat} {l l':List Ex},(∀ e∈l,∀ e' b o,IAt m b o e.cells→IAt m b o e'.cells→e=e')→l.length=l'.length→IElems m b o k (Ex.aA l)→IElems m b o k' (Ex.aA l')→l=l'
 | _,_,_,[],[],_,_,_,_=>rfl
 | o,k,k',a::l,a'::l',ih,hl,h,h'=>by
  obtain⟨rfl,h1,h2⟩:=lZ h;obtain⟨rfl,h3,h4⟩:=lZ h';rw[ih a (by simp) a' b o h1 h3,J7 (fun e he=>ih e (by simp[he])) (by simpa using hl) h2 h4]
 | _,_,_,[],_::_,_,hl,_,_=>by simp at hl
 | _,_,_,_::_,[],_,hl,_,_=>by simp at hl
theorem TP {m:Mem} {l l':List Ex} {v:Value} (ih:∀ e∈l,∀ e' b o,IAt m b o e.cells→IAt m b o e'.cells→e=e') (h:IRep m (.isl (Ex.aA l)) v) (h':IRep m (.isl (Ex.aA l')) v):l=l':=by
 have nil:∀ {l:List Ex},Ex.aA l=[]→l=[]:=fun {l} e=>by cases l with|nil=>rfl|cons a l=>simp[Ex.aA]at e
 rcases jW h with ⟨e1,ao,cap,hv⟩|⟨e1,b,off,k,cap,hv,hel,_⟩
 ·rcases jW h' with ⟨e2,_⟩|⟨e2,b',off',k',cap',hv',_⟩
  ·rw[nil e1,nil e2]
  ·rw[hv]at hv';injection hv' with _ q _;rw[Ex.aV]at q;exact absurd (by cases l' with|nil=>rfl|cons a l=>simp at q) e2
 ·rcases jW h' with ⟨e2,ao,cap',hv'⟩|⟨e2,b',off',k',cap',hv',hel',_⟩
  ·rw[hv]at hv';injection hv' with _ q _;rw[Ex.aV]at q;exact absurd (by cases l with|nil=>rfl|cons a l=>simp at q) e1
  ·rw[hv]at hv';injection hv' with q1 q2 _;injection q1 with q1;injection q1 with q1 q3;subst q1;subst q3;rw[Ex.aV,Ex.aV]at q2;exact J7 ih q2 hel hel'
theorem AJA {m:Mem}:∀ (e e':Ex) (b o:Nat),IAt m b o e.cells→IAt m b o e'.cells→e=e':=by
 intro e
 induction e using Ex.ind with
 | h k c v ks ih =>
  intro e' b o h h';obtain⟨v1,h⟩:=wD h;obtain⟨v2,h'⟩:=wD h';obtain⟨k',c',v',ks'⟩:=e';have e0:=h.c0.symm.trans h'.c0;have e1:=h.c1.symm.trans h'.c1;have e2:=h.c2.symm.trans h'.c2;have e3:=h.c3.symm.trans h'.c3;have e4:=h.c4.symm.trans h'.c4;simp only[Ex.kind,Ex.col,Ex.val,Option.some.injEq,Value.int.injEq,Value.bool.injEq,true_and]at e0 e1 e2 e3 e4;subst e0;subst e1;subst e4;have hk:=h'.kids;have:ks=ks':=TP (m:=m) (v:=v1) (fun e he e' b o=>ih e he e' b o) h.kids hk;subst this;obtain⟨a,n⟩:=v;obtain⟨a',n'⟩:=v';simp only at e2 e3;subst e2;subst e3;rfl
def turn (m:Mem) (b o:Nat) (v:Value):Mem:=fun b' o'=>if b'=b∧o'=o then some v else m b' o'
theorem J8 {m m':Mem} {b:Nat}:∀ {o k:Nat} {l:List Ex},(∀ e∈l,∀ b o,IAt m b o e.cells→IAt m' b o e.cells)→IElems m b o k (Ex.aA l)→IElems m' b o k (Ex.aA l)
 | o,k,[],_,_=>by simp only[Ex.aA];exact .nil _ _ _
 | o,k,a::l,ih,h=>by
  obtain⟨rfl,h1,h2⟩:=lZ h;simp only[Ex.aA];exact .cons (ih a (by simp) b o h1) (by simp) (J8 (fun e he=>ih e (by simp[he])) h2)
theorem TQ {m m':Mem} {l:List Ex} {v:Value} (ih:∀ e∈l,∀ b o,IAt m b o e.cells→IAt m' b o e.cells) (h:IRep m (.isl (Ex.aA l)) v):IRep m' (.isl (Ex.aA l)) v:=by
 generalize hes:Ex.aA l=es at h
 cases h with
 | isl0 ao cap hc=>exact .isl0 _ _ hc
 | isl hn he hc=>subst hes;exact .isl hn (J8 ih he) hc
theorem Z6 {m:Mem} {b o:Nat} {x:Ex} {v v':Value} (hx:ExAt m b o x v) (hv:IRep m (.isl (Ex.aA x.kids)) v'):∀ (e:Ex) (b1 o1:Nat),IAt m b1 o1 e.cells→IAt (turn m b (o+4) v') b1 o1 e.cells:=by
 intro e
 induction e using Ex.ind with
 | h k c vv ks ih =>
  intro b1 o1 h;obtain⟨u,h⟩:=wD h
  have hsl:∀ q:Value,m b (o+4)=some q→(∃ k n,q=.int k n)∨(∃ t,q=.bool t)→False:=by
   intro q hq hh;rw[hx.c4]at hq;injection hq with hq;subst hq
   rcases jW hx.kids with ⟨_,ao,cap,e⟩|⟨_,b',off,k',cap,e,_⟩<;>rcases hh with ⟨k,n,e'⟩|⟨t,e'⟩<;>rw[e]at e'<;>cases e'
  have low:∀ i q,m b1 (o1+i)=some q→((∃ k n,q=.int k n)∨(∃ t,q=.bool t))→turn m b (o+4) v' b1 (o1+i)=some q:=by
   intro i q hq hh;unfold turn;split
   ·rename_i e;rw[e.1,e.2]at hq;exact(hsl q hq hh).elim
   ·exact hq
  have c0:=low 0 _ (by simpa using h.c0) (.inl ⟨_,_,rfl⟩);have c1:=low 1 _ h.c1 (.inl ⟨_,_,rfl⟩);have c2:=low 2 _ h.c2 (.inr ⟨_,rfl⟩);have c3:=low 3 _ h.c3 (.inl ⟨_,_,rfl⟩);by_cases he:b1=b∧o1+4=o+4
  ·have hu:u=v:=by have:=h.c4;rw[he.1,he.2,hx.c4]at this;injection this with this;exact this.symm
   have hk:ks=x.kids:=by
    have a1:=h.kids;rw[hu]at a1;exact TP (m:=m) (v:=v) (fun e he=>fun e' b o=>AJA e e' b o) a1 hx.kids
   refine AAA (v:=v') ⟨by simpa using c0,c1,c2,c3,by unfold turn;rw[if_pos he],?_⟩;rw[← hk]at hv;exact TQ (fun e he b o=>ih e he b o) hv
  ·exact AAA (v:=u) ⟨by simpa using c0,c1,c2,c3,by unfold turn;rw[if_neg he];exact h.c4,TQ (fun e he b o=>ih e he b o) h.kids⟩
structure PF (B:Nat) (w:World) (m:Mem) (φ:Pl) (b o:Nat) (x:Ex):Prop where
 new:B≤b
 row:∃ (vs:List Value) (T:TypeId),w.heap[b]?=some (.cells vs.toArray T (0,0))
 free:fH φ b
 cel:IAt m b o x.cells
abbrev KL:=List ((Nat×Nat)×Ex)
theorem PF.lt {B:Nat} {w:World} {m:Mem} {φ:Pl} {b o:Nat} {x:Ex} (h:PF B w m φ b o x):b<w.heap.size:=by
 obtain⟨vs,T,e⟩:=h.row;exact(zG.1 e).1
theorem PF.adv {B:Nat} {w w':World} {m m':Mem} {φ φ':Pl} {b o:Nat} {x:Ex} (h:PF B w m φ b o x) (k:Adv w m φ w' m' φ'):PF B w' m' φ' b o x:=by
 refine⟨h.new,?_,k.range h.lt h.free,h.cel.mono k.mle⟩;rw[k.block b h.lt h.free];exact h.row
theorem vM {P:Program} {id:Nat} {ops:Array Oper} {Q:Exit→Act→World→Prop} {a:Act} {w:World} (h:wpOpsIn (FR none) 0 P ops Q (List.range ops.size) a w):(Code.region id ops false).wp P Q a w :=
 wpIn_wide.1 (wpIn_region (F:=Fence.wide) (n:=0) h)
structure GG (wi:World) (mi:Mem) (nt:Nat) (ok:Nat→Prop) (K:KL) (env:Nat→AV) (st:Store) (a:Act) (w:World):Prop where
 out:∃ m φ,Inv w m φ st∧(∀ t,Rep m φ (env t) (a.tmps.getD t undef))∧Adv wi mi (fun _=>none) w m φ∧(∀ id,φ id≠none→ok id)∧∀ k∈K,PF wi.heap.size w m φ k.1.1 k.1.2 k.2
 size:nt≤a.tmps.size
 defers:a.defers=[]
section
variable {C:Ctx} {wi:World} {mi:Mem} {nt:Nat}
theorem GG.ofA {ok ok':Nat→Prop} {K:KL} {env env':Nat→AV} {st st':Store} {a a':Act} {w w':World} {m:Mem} {φ:Pl} (h3:Adv wi mi (fun _=>none) w m φ) (h5:∀ k∈K,PF wi.heap.size w m φ k.1.1 k.1.2 k.2) (h:ARel [] w m φ nt ok' env' st' a' w'):GG wi mi nt ok' K env' st' a' w':=by
 obtain⟨⟨m',φ',k1,k2,k3,k4,_⟩,k5,k6⟩:=h;exact⟨⟨m',φ',k1,k2,h3.trans k3,k4,fun k hk=>(h5 k hk).adv k3⟩,k5,k6⟩
theorem GG.code (hC:CtxOk C) {call:dG} (hcall:CallOk C call) (hdraw:PK C call) {G:List Nat} {n:Nat} {c:Code} {S S':AS} {e:AExit} {a:Act} {w:World} {K:KL} (hc:codeOk nt c=true) (hx:exec C call G S.st.length n c S=some (e,S')) (h:GG wi mi nt (fun id=>id<S.st.length) K (aY S.env) (aT S.st) a w) (hnr:bJ c=true:=by rfl) :
 c.wp C.P (fun e' a' w'=>e'=jP e∧GG wi mi nt (fun id=>id<S'.st.length) K (aY S'.env) (aT S'.st) a' w') a w:=by
 obtain⟨⟨m,φ,h1,h2,h3,h4,h5⟩,h6,h7⟩:=h;refine wpIn_wide.1 (wpIn_mono (bY (ρ:=none) hC hcall hdraw h4 n c S S' e [] a w hc (.inl rfl) hx ⟨⟨⟨m,φ,h1,h2, .refl _ _ _,h4, .nil _ _ _⟩,h6,h7⟩,zO _⟩) ?_);rintro e' a' w' ⟨rfl,ds,k,kd⟩;have kd:=kd hnr;subst kd;exact⟨rfl, .ofA (ok:=fun _=>True) (env:=fun _=>.junk) (st:=st0) (a:=a) h3 h5 k.1⟩
where st0:Store:=fun _=>none
theorem jM (hC:CtxOk C) {call:dG} (hcall:CallOk C call) {ops:Array Oper} {Q:Exit→Act→World→Prop} {base:Nat} {w0:World} {m0:Mem} {φ0:Pl} {js:List Nat} (hs:∀ o∈ops,jC nt o=true) :
 ∀ (os:List Oper) (i:Nat) (R R':RS) (a:Act) (w:World),(∀ j,j<os.length→os[j]?=ops[i+j]?)→dJ C call ops.toList false base os i R=some R' →
   ARel [] w0 m0 φ0 nt (II base (fun j=>j<i)) R.env R.st a w→(∀ a' w',ARel [] w0 m0 φ0 nt (II base fun j=>j<i+os.length) R'.env R'.st a' w'→wpOpsIn (FR none) 0 C.P ops Q js a' w')→wpOpsIn (FR none) 0 C.P ops Q (List.range' i os.length++js) a w
 | [],i,R,R',a,w,_,h,hr,hQ=>by
  simp only[dJ,Option.some.injEq]at h;subst h;simpa using hQ a w (by simpa using hr)
 | o::os,i,R,R',a,w,hl,h,hr,hQ=>by
  have ho:ops[i]?=some o:=by simpa using (hl 0 (by simp)).symm
  simp only[zS,List.range'_succ,yT];rw[wpOpsIn_cons];simp only[dJ]at h;obtain⟨b,h1,h2⟩:=aG.1 h;have hstat:=hs o (Array.mem_of_getElem? ho)
  have hrest:∀ j,j<os.length→os[j]?=ops[i+1+j]?:=fun j hj=>by
   have:=hl (j+1) (by simpa using hj);simpa [yJ,Nat.add_comm 1 j]using this
  have mono:∀ env st a' w',ARel [] w0 m0 φ0 nt (II base fun j=>j<i∨j=i) env st a' w'→ARel [] w0 m0 φ0 nt (II base fun j=>j<i+1) env st a' w':=by
   rintro env st a' w' ⟨⟨m,φ,k1,k2,k3,k4,k7⟩,k5,k6⟩;exact⟨⟨m,φ,k1,k2,k3,fun id hne=>pY (fun j hj=>by omega) (k4 id hne),k7⟩,k5,k6⟩
  have hQ':∀ a' w',ARel [] w0 m0 φ0 nt (II base fun j=>j<i+1+os.length) R'.env R'.st a' w'→wpOpsIn (FR none) 0 C.P ops Q js a' w':=fun a' w' k=>hQ a' w' (by
   rw[show i+(o::os).length=i+1+os.length by simp;omega];exact k)
  cases b with
  | true =>
   simp only[if_true]at h2;obtain⟨_,h3⟩:=aR.1 h2;obtain⟨p,h4,h5⟩:=aG.1 h3;refine nH hC hcall (dn:=fun j=>j<i) (base:=base) (S:=(R.env,R.st)) (S':=(uC R.env o.dst p.1,p.2)) ho hstat (yE i) ?_ hr fun a' w' hr'=>?_
   ·unfold aOp;exact aG.2 ⟨true,h1,by simp only[if_true];exact aG.2 ⟨p,h4,rfl⟩⟩
   ·exact jM hC hcall hs os (i+1) _ R' a' w' hrest h5 (mono _ _ _ _ hr') hQ'
  | false =>
   simp only[yK,if_false]at h2;refine nH hC hcall (dn:=fun j=>j<i) (base:=base) (S:=(R.env,R.st)) (S':=(uC R.env o.dst (.i (.lit undef)),R.st)) ho hstat (yE i) ?_ hr fun a' w' hr'=>?_
   ·unfold aOp;exact aG.2 ⟨false,h1,by simp⟩
   ·exact jM hC hcall hs os (i+1) _ R' a' w' hrest h2 (mono _ _ _ _ hr') hQ'
theorem GG.ops (hC:CtxOk C) {call:dG} (hcall:CallOk C call) {ops:Array Oper} {Q:Exit→Act→World→Prop} {base:Nat} {js:List Nat} {K:KL} (hs:∀ o∈ops,jC nt o=true) {os:List Oper} {i:Nat} {R R':RS} {a:Act} {w:World} (hl:∀ j,j<os.length→os[j]?=ops[i+j]?) (hx:dJ C call ops.toList false base os i R=some R')
 (h:GG wi mi nt (II base fun j=>j<i) K R.env R.st a w) (hQ:∀ a' w',GG wi mi nt (II base fun j=>j<i+os.length) K R'.env R'.st a' w'→wpOpsIn (FR none) 0 C.P ops Q js a' w'):wpOpsIn (FR none) 0 C.P ops Q (List.range' i os.length++js) a w:=by
 obtain⟨⟨m,φ,h1,h2,h3,h4,h5⟩,h6,h7⟩:=h;exact jM hC hcall hs os i R R' a w hl hx ⟨⟨m,φ,h1,h2, .refl _ _ _,h4, .nil _ _ _⟩,h6,h7⟩ fun a' w' k=>hQ a' w' (.ofA (ok:=fun _=>True) (env:=fun _=>.junk) (st:=fun _=>none) (a:=a) h3 h5 k)
theorem GG.settle {ok:Nat→Prop} {K:KL} {env:Nat→AV} {st:Store} {a:Act} {w:World} (G:List Nat) (h:GG wi mi nt ok K env st a w) :
 GG wi mi nt (fun id=>id<(settle G 0 env st).st.length) K (aY (settle G 0 env st).env) (aT (settle G 0 env st).st) a w:=by
 obtain⟨⟨m,φ,hi,henv,hadv,hok,hK⟩,hsz,hdf⟩:=h;unfold Av.settle sP;generalize hids:gY st 0 (uW env G)=ids;have hd:ids.Nodup:=by rw[← hids];exact fT _ _ _
 have hfree:∀ b,fH φ b→fH (eG ids φ) b:=by
  intro b hb id r n e;unfold eG at e
  cases hx:ids[id]? with
  | none=>rw[hx]at e;cases e
  | some j=>rw[hx]at e;exact hb j r n e
 refine⟨⟨m,eG ids φ,hi.keep hd,?_,hadv.keep (fun id h=>absurd rfl h) (fun j hj=>absurd hj (xD j)),?_,fun k hk=>⟨(hK k hk).new,(hK k hk).row,hfree _ (hK k hk).free,(hK k hk).cel⟩⟩,hsz,hdf⟩
 ·intro t
  have key:∀ G:List Nat,Rep m (eG ids φ) (aY (kV (gP ids) env G) t) (a.tmps.getD t undef):=by
   intro G
   induction G with
   | nil=>exact .junk _
   | cons u G ih =>
    simp only[kV,aY];by_cases e:t=u
    ·subst e;simp only[if_true];exact(henv t).ren (kN ids φ)
    ·simp only[e,if_false];exact ih
  exact key G
 ·intro id hne;simp only[gD];unfold eG at hne
  cases hx:ids[id]? with
  | none=>rw[hx]at hne;exact absurd rfl hne
  | some i=>exact(zX.1 hx).1
theorem GG.see {ok:Nat→Prop} {K:KL} {env:Nat→AV} {st:Store} {a:Act} {w:World} {u b o:Nat} {x:Ex} (h:GG wi mi nt ok K env st a w) (hu:env u=.i (.lit (.pointer (some ⟨b,o,none⟩)))) (hk:((b,o),x)∈K):GG wi mi nt ok K (upd env u (.i (.iref x.cells))) st a w:=by
 obtain⟨⟨m,φ,hi,henv,hadv,hok,hK⟩,hsz,hdf⟩:=h;refine⟨⟨m,φ,hi,fun t=>?_,hadv,hok,hK⟩,hsz,hdf⟩;simp only[upd];split
 ·rename_i e;subst e;have:=henv t;rw[hu]at this;rw[this.lit_eq];exact .i (.iref (hK _ hk).cel)
 ·exact henv t
theorem GG.envTo {ok:Nat→Prop} {K:KL} {env env':Nat→AV} {st:Store} {a:Act} {w:World} (h:GG wi mi nt ok K env st a w) (he:∀ t,env' t=.junk∨env' t=env t):GG wi mi nt ok K env' st a w:=by
 obtain⟨⟨m,φ,hi,henv,hadv,hok,hK⟩,hsz,hdf⟩:=h;refine⟨⟨m,φ,hi,fun t=>?_,hadv,hok,hK⟩,hsz,hdf⟩
 rcases he t with e|e
 ·rw[e];exact .junk _
 ·rw[e];exact henv t
theorem GG.ok' {ok ok':Nat→Prop} {K:KL} {env:Nat→AV} {st:Store} {a:Act} {w:World} (h:GG wi mi nt ok K env st a w) (he:∀ id,ok id→ok' id):GG wi mi nt ok' K env st a w:=by
 obtain⟨⟨m,φ,hi,henv,hadv,hok,hK⟩,hsz,hdf⟩:=h;exact⟨⟨m,φ,hi,henv,hadv,fun id h=>he id (hok id h),hK⟩,hsz,hdf⟩
end
def fZ:Blk→Prop
 | .box cs=>∀ c∈cs,(∃ v,c=.i (.lit v))∨c=.nils
 | .arr _ es=>∀ c∈es.flatten,∃ v,c=.lit v
 | .frz _ _=>False
 | .fbox _=>False
 | .tre _ _=>False
 | .loop _ _ _=>False
theorem ICells.PN {m m':Mem}:∀ {cs:List IV} {vs:List Value},(∀ c∈cs,∃ v,c=.lit v)→ICells m cs vs→ICells m' cs vs
 | [],_,_, .nil=>.nil
 | c::cs,_,h, .cons a o r=>by
  obtain⟨v,rfl⟩:=h c (by simp);rw[lV a]at o ⊢;exact .cons (.lit _) o (ICells.PN (fun d hd=>h d (by simp[hd])) r)
theorem RepC.PN {m m':Mem} {φ φ':Pl}:∀ {cs:List AV} {vs:List Value},(∀ c∈cs,(∃ v,c=.i (.lit v))∨c=.nils)→RepC m φ cs vs→RepC m' φ' cs vs
 | [],_,_, .nil=>.nil
 | c::cs,_,h, .cons a o r=>by
  have hr:=RepC.PN (m':=m') (φ':=φ') (fun d hd=>h d (by simp[hd])) r
  rcases h c (by simp)with ⟨v,rfl⟩|rfl
  ·rw[a.lit_eq]at o ⊢;exact .cons (.i (.lit _)) o hr
  ·cases a;exact .cons .nils o hr
theorem BlkOk.PN {w w':World} {m m':Mem} {φ φ':Pl} {b:Nat} {n:Ext} {blk:Blk} (hl:fZ blk) (hh:w'.heap[b]?=w.heap[b]?) (hm:∀ o,m b o=none→m' b o=none) (h:BlkOk w m φ b n blk):BlkOk w' m' φ' b n blk:=by
 cases h with
 | box h1 h2 h3 h4=>exact .box (by rw[hh];exact h1) h2 (h3.PN hl) fun o=>hm o (h4 o)
 | arr h1 h2 h3 h4 h5 h6 h7 h8 h9 =>
  exact .arr (by rw[hh];exact h1) h2 h3 h4 (h5.PN hl) h6 (fun o=>hm o (h7 o)) h8 h9
 | frz=>cases hl
 | fbox=>cases hl
 | tre=>cases hl
 | loop=>cases hl
def AFG (st:Store):Prop:=∀ id blk,st id=some blk→fZ blk
section
variable {C:Ctx} {wi:World} {mi:Mem}
theorem vQ {w:World} {m:Mem} {φ:Pl} {st:Store} {K:KL} {b o:Nat} {x:Ex} {v:Value} {t:TypeId} (ht:iT C.P t=some 1) (hi:Inv w m φ st) (hst:AFG st) (hadv:Adv wi mi (fun _=>none) w m φ) (hmi:mM wi mi)
 (hK:∀ k∈K,PF wi.heap.size w m φ k.1.1 k.1.2 k.2) (hk:((b,o),x)∈K) (hv:IRep m (.isl (Ex.aA x.kids)) v) :
 ∃ w' m',(Instr.storeAt t (.pointer (some ⟨b,o+4,none⟩)) v).run C.P w=.ok () w'∧Inv w' m' φ st∧Adv wi mi (fun _=>none) w' m' φ∧(∀ k∈K,PF wi.heap.size w' m' φ k.1.1 k.1.2 k.2) ∧
   IAt m' b o [.int x.kind, .int x.col, .bool x.val.null, .int x.val.n, .lit v]:=by
 have hp:=hK _ hk;obtain⟨u,hx⟩:=wD hp.cel;obtain⟨vs,T,hrow⟩:=hp.row;have hone:=KM hv
 have hcells:v.cells.toList=[v]:=by
  rcases jW hv with ⟨_,ao,cap,rfl⟩|⟨_,b',off,k',cap,rfl,_⟩<;>rfl
 have hcsz:v.cells.size=1:=by rw[← Array.length_toList,hcells];rfl
 have hlen:o+4<vs.length:=by
  have:=hi.mem _ _ _ hx.c4;simp only[World.cell?,hrow,xH]at this;have h2:vs.toArray[o+4]?=some u:=by simpa using this
  have:=(zG.1 h2).1;simpa using this
 have hrun:=iZ (P:=C.P) (t:=t) (v:=v) (off:=o+4) (by rw[hcsz];exact ht) hrow (by omega) (by rw[hcells];simpa using hone);rw[hcells,hcsz]at hrun;generalize hvs':vs.take (o+4)++[v]++vs.drop (o+4+1)=vs' at hrun;have hheap:(w.setRow b vs'.toArray).heap[b]?=some (.cells vs'.toArray T (0,0)):=setRow_heap w b _ _ T (0,0) hrow;have hother:∀ k,k≠b→(w.setRow b vs'.toArray).heap[k]?=w.heap[k]?:=fun k hk=>setRow_other w b k _ hk
 have hget:∀ j,vs'[j]?=if j=o+4 then some v else vs[j]?:=by
  intro j;subst hvs'
  have hs:vs.take (o+4)++[v]++vs.drop (o+4+1)=vs.set (o+4) v:=by
   rw[xB];simp[hlen]
  rw[hs,List.getElem?_set];by_cases e:o+4=j
  ·subst e;simp[hlen]
  ·simp[e,Ne.symm e]
 refine⟨w.setRow b vs'.toArray,turn m b (o+4) v,?_,?_,?_,?_,?_⟩
 ·simp only[Instr.storeAt,Instr.sureAddr,Sem.run_bind,Sem.run_pure,Result.andThen_ok];exact hrun
 ·refine⟨?_,?_,hi.inj,fun i b n f e ho=>by simpa [World.setRow]using hi.low i b n f e ho⟩
  ·intro b1 o1 q hq;unfold turn at hq;by_cases e1:b1=b
   ·subst e1;simp only[World.cell?,hheap,xH]
    have:vs'.toArray[o1]?=some q:=by
     rw[List.getElem?_toArray,hget];split at hq
     ·rename_i e;rw[if_pos e.2];exact hq
     ·rename_i e;have e2:o1≠o+4:=fun h=>e ⟨rfl,h⟩
      rw[if_neg e2];have:=hi.mem _ _ _ hq;simp only[World.cell?,hrow,xH]at this;simpa using this
    simpa using this
   ·rw[if_neg (fun h=>e1 h.1)]at hq;have:=hi.mem _ _ _ hq;simp only[World.cell?]at this ⊢;rw[hother b1 e1];exact this
  ·intro id blk hb;obtain⟨b2,n2,h1,h2,h3⟩:=hi.live id blk hb;have hne:b2≠b:=fun e=>hp.free id b2 n2 h1 (by rw[← e];exact h2.1)
   refine⟨b2,n2,h1,⟨h2.1,fun f hf=>by simpa [World.setRow]using h2.2 f hf⟩,h3.PN (hst id blk hb) (hother b2 hne) fun o' ho'=>?_⟩;unfold turn;rw[if_neg (fun h=>hne h.1)];exact ho'
 ·refine⟨by simpa [World.setRow]using hadv.size,hadv.os,⟨hadv.tape.tape,hadv.tape.fwd⟩,hadv.output,?_,?_,?_,hadv.ple,hadv.pnew⟩
  ·intro k hk hn;rw[hother k (by have h3:wi.heap.size≤b:=hp.new;omega)];exact hadv.block k hk hn
  ·intro b1 o1 q hq;have h1:=hadv.mle _ _ _ hq;unfold turn;rw[if_neg ?_];· exact h1
   rintro⟨rfl,_⟩;have h2:=hmi _ _ _ hq;have h3:wi.heap.size≤b1:=hp.new;simp only[World.cell?]at h2
   cases h4:wi.heap[b1]? with
   | none=>rw[h4]at h2;cases h2
   | some z=>have:=(zG.1 h4).1;omega
  ·intro k hk hn o';have h3:wi.heap.size≤b:=hp.new;unfold turn;rw[if_neg (fun h=>by have:=h.1;omega)];exact hadv.mnew k hk hn o'
 ·intro k hk;have h:=hK k hk;refine⟨h.new,?_,h.free,Z6 hx hv _ _ _ h.cel⟩;by_cases e:k.1.1=b
  ·rw[e];exact⟨vs',T,hheap⟩
  ·rw[hother _ e];exact h.row
 ·have low:∀ i,i<4→∀ q,m b (o+i)=some q→turn m b (o+4) v b (o+i)=some q:=by
   intro i hi q hq;unfold turn;rw[if_neg (by rintro⟨_,h⟩;omega)];exact hq
  refine .cons (by simpa using low 0 (by omega) _ (by simpa using hx.c0)) (.lit _) rfl (.cons (low 1 (by omega) _ hx.c1) (.lit _) rfl (.cons (low 2 (by omega) _ hx.c2) (.lit _) rfl (.cons (low 3 (by omega) _ hx.c3) (.lit _) rfl (.cons ?_ (.lit _) hone (.nil _ _)))));unfold turn;rw[if_pos ⟨rfl,rfl⟩]
end
def bG (b:Nat):Nat→List Ex→KL
 | _,[]=>[]
 | o,x::l=>((b,o),x)::bG b (o+5) l
theorem rA {b:Nat}:∀ {o:Nat} {l:List Ex} {i:Nat} {x:Ex},l[i]?=some x→((b,o+5*i),x)∈bG b o l
 | _,[],_,_,h=>by simp at h
 | o,a::l,0,x,h=>by simp at h;subst h;simp[bG]
 | o,a::l,i+1,x,h=>by
  have:=rA (b:=b) (o:=o+5) (l:=l) (i:=i) (x:=x) (by simpa using h);simp only[bG,zQ];exact .inr (by rw[show o+5*(i+1)=o+5+5*i by omega];exact this)
theorem nT {m:Mem} {b:Nat}:∀ {o k:Nat} {l:List Ex},IElems m b o k (Ex.aA l)→∀ p∈bG b o l,p.1.1=b∧IAt m p.1.1 p.1.2 p.2.cells
 | _,_,[],_,p,hp=>by simp[bG]at hp
 | o,k,a::l,h,p,hp=>by
  obtain⟨rfl,h1,h2⟩:=lZ h;simp only[bG,zQ]at hp
  rcases hp with rfl|hp
  ·exact⟨rfl,h1⟩
  ·exact nT h2 p hp
section
variable {C:Ctx} {wi:World} {mi:Mem}
theorem KP {w:World} {m:Mem} {φ:Pl} {st st':Store} {K:KL} {id:Nat} {v:Value} {ks:List Ex} (hks:ks≠[]) (hi:Inv w m φ st) (hr:Rep m φ (.osl id 5 0 ks.length) v) (hid:st id=some (.arr 5 (Ex.aA ks))) (hadv:Adv wi mi (fun _=>none) w m φ)
 (hK:∀ k∈K,PF wi.heap.size w m φ k.1.1 k.1.2 k.2) (hst:∀ i blk,st' i=some blk→i≠id∧st i=some blk∧fZ blk) :
 ∃ b' cap m1 φ2,v=.slice (some ⟨b',0,none⟩) ks.length cap∧Inv w m1 φ2 st'∧Adv wi mi (fun _=>none) w m1 φ2∧(∀ k∈K++bG b' 0 ks,PF wi.heap.size w m1 φ2 k.1.1 k.1.2 k.2)∧IRep m1 (.isl (Ex.aA ks)) v ∧
   (∀ i,st' i≠none→φ2 i=φ i)∧(∀ i,φ2 i≠none→st' i≠none):=by
 have hlen:0<ks.length:=y9.2 hks
 have hfr:pM st (.osl id 5 0 ks.length)=some (.isl (Ex.aA ks),upd st id (some (.frz 5 (Ex.aA ks)))):=by
  simp[pM,frz,uU,rR,hid,tst,window,bnd,iM,zY]
 obtain⟨m1,k1,k2,k3⟩:=iI hi hr hfr
 cases hr with
 | @osl _ _ _ _ cap b' n' ao eφ hlc hcap ha1 ha2 =>
  have hao:=ha1 (by omega);subst hao;obtain⟨hb,hok⟩:=bW hi eφ hid
  have hrow:∃ (vs:List Value) (T:TypeId),w.heap[b']?=some (.cells vs.toArray T (0,0)):=by
   cases hok with|arr h1=>exact⟨_,_,h1⟩
  have hnew:wi.heap.size≤b':=by
   rcases hadv.pnew id b' n' b' eφ hb.1 with h|h
   ·exact h
   ·exact absurd (fun id b n e=>by cases e) h
  have dec:∀ i,st' i=none∨st' i≠none:=fun i=>by cases st' i<;>simp
  let φ2:Pl:=fun i=>match st' i with
   | some _=>φ i
   | none=>none
  have hφ2:∀ i,st' i≠none→φ2 i=φ i:=fun i h=>by
   show(match st' i with|some _=>φ i|none=>none)=φ i
   cases e:st' i with
   | none=>exact absurd e h
   | some _=>rfl
  have hφ2n:∀ i,φ2 i≠none→st' i≠none:=fun i h e=>h (by
   show(match st' i with|some _=>φ i|none=>none)=none
   rw[e])
  have hsub:∀ i p,φ2 i=some p→φ i=some p∧st' i≠none:=fun i p h=>by
   have h1:=hφ2n i (by rw[h];simp);exact⟨by rw[← hφ2 i h1];exact h,h1⟩
  have hA1:=hadv.trans k3;refine⟨b',cap,m1,φ2,by simp,?_,?_,?_,k1,hφ2,hφ2n⟩
  ·refine⟨k2.mem,?_,?_,fun i b n f e ho=>k2.low i b n f (hsub _ _ e).1 ho⟩
   ·intro i blk hb';obtain⟨h1,h2,h3⟩:=hst i blk hb';have h4:upd st id (some (.frz 5 (Ex.aA ks))) i=some blk:=by simp[upd,h1,h2]
    obtain⟨b,n,q1,q2,q3⟩:=k2.live i blk h4;exact⟨b,n,by rw[hφ2 i (by rw[hb'];simp)];exact q1,q2,q3.PN h3 rfl fun o h=>h⟩
   ·intro i j b bx n n2 b1 b2 f h1 h2 h3 h4 o1 o2;obtain⟨q1,q2,_⟩:=hst i b1 h1;obtain⟨r1,r2,_⟩:=hst j b2 h2;exact hi.inj i j b bx n n2 b1 b2 f q2 r2 (hsub _ _ h3).1 (hsub _ _ h4).1 o1 o2
  ·refine⟨hA1.size,hA1.os,hA1.tape,hA1.output,hA1.block,hA1.mle,hA1.mnew,(fun _ _ _ h=>by cases h),?_⟩;intro i b n f h2 ho;exact hA1.pnew i b n f (hsub _ _ h2).1 ho
  ·intro k hk
   rcases zV.1 hk with hk|hk
   ·have h:=hK k hk;exact⟨h.new,h.row,fun i r n e=>h.free i r n (hsub _ _ e).1,h.cel.mono k3.mle⟩
   ·have hel:IElems m1 b' 0 5 (Ex.aA ks):=by
     rcases jW k1 with ⟨e1,_⟩|⟨_,b2,off,k',cap',hv,hel,_⟩
     ·exact absurd (by cases ks with|nil=>rfl|cons a l=>simp[Ex.aA]at e1) hks
     ·injection hv with q1 _ _;injection q1 with q1;injection q1 with q1 q2;subst q1;subst q2
      cases ks with
      | nil=>exact absurd rfl hks
      | cons a l=>obtain⟨rfl,_⟩:=lZ hel;exact hel
    obtain⟨e1,e2⟩:=nT hel k hk;refine⟨by rw[e1];exact hnew,by rw[e1];exact hrow,?_,e2⟩;intro i r n e ho;rw[e1]at ho;obtain⟨h1,h2⟩:=hsub _ _ e
    cases hb2:st' i with
    | none=>exact h2 hb2
    | some blk =>
     obtain⟨q1,q2,_⟩:=hst i blk hb2;exact q1 (hi.inj i id r b' n n' blk _ b' q2 hid h1 eφ ho hb.1)
theorem GM {ops:Array Oper} {Q:Exit→Act→World→Prop} {K:Act→World→Prop} {i:Nat} {t ty:TypeId} {x y:Operand} {pos:String} {after:Array Edge} {a:Act} {w w':World} (ho:ops[i]?=some ⟨none, .store t x y,ty,pos,after,none⟩)
 (hrun:(Instr.storeAt t (a.eval x) (a.eval y)).run C.P w=.ok () w') (hK:K a w'):wpOpIn (FR none) 0 C.P ops Q i K a w:=by
 unfold wpOpIn;rw[ho];simp only[Region.wanted,if_true];refine⟨fun _ _=>trivial,?_⟩;rw[Oper.semAt_eq _ _ _ (fun c e=>by cases e)]
 have:(execOp a.eval ⟨none, .store t x y,ty,pos,after,none⟩).run C.P w=.ok .skip w':=by
  unfold execOp;simp[hrun]
 rw[this];simpa [Oper.uponIn,Act.put]using hK
end
section
variable {C:Ctx} {wi:World} {mi:Mem} {nt:Nat}
theorem GG.iJ (hS:SoundOk C) {G:List Nat} {c:Code} {S S':AS} {e:AExit} {a:Act} {w:World} {K:KL} (hc:codeOk nt c=true) (hx:eY C G S.st.length c S=some (e,S')) (h:GG wi mi nt (fun id=>id<S.st.length) K (aY S.env) (aT S.st) a w) (hnr:bJ c=true:=by rfl) :
 c.wp C.P (fun e' a' w'=>e'=jP e∧GG wi mi nt (fun id=>id<S'.st.length) K (aY S'.env) (aT S'.st) a' w') a w:=by
 obtain⟨n,hn⟩:=(dM _).1 hx;exact GG.code hS.ctx (aX hS) (hS.draw _ (aX hS)) hc hn h hnr
theorem KV {w:World} {m m1:Mem} {φ:Pl} {st st1 st':Store} {K:KL} {id b':Nat} {n':Ext} {blk0:Blk} (hi:Inv w m φ st) (k2:Inv w m1 φ st1) (hA1:Adv wi mi (fun _=>none) w m1 φ) (hle:MLe m m1) (eφ:φ id=some (b',n')) (hid:st id=some blk0)
 (hK:∀ k∈K,PF wi.heap.size w m φ k.1.1 k.1.2 k.2) (hst:∀ i blk,st' i=some blk→i≠id∧st i=some blk∧st1 i=some blk∧fZ blk) :
 ∃ φ2,Inv w m1 φ2 st'∧Adv wi mi (fun _=>none) w m1 φ2∧(∀ k∈K,PF wi.heap.size w m1 φ2 k.1.1 k.1.2 k.2)∧fH φ2 b'∧(∀ i,st' i≠none→φ2 i=φ i)∧(∀ i,φ2 i≠none→st' i≠none):=by
 let φ2:Pl:=fun i=>match st' i with
  | some _=>φ i
  | none=>none
 have hφ2:∀ i,st' i≠none→φ2 i=φ i:=fun i h=>by
  show(match st' i with|some _=>φ i|none=>none)=φ i
  cases e:st' i with
  | none=>exact absurd e h
  | some _=>rfl
 have hφ2n:∀ i,φ2 i≠none→st' i≠none:=fun i h e=>h (by
  show(match st' i with|some _=>φ i|none=>none)=none
  rw[e])
 have hsub:∀ i p,φ2 i=some p→φ i=some p∧st' i≠none:=fun i p h=>by
  have h1:=hφ2n i (by rw[h];simp);exact⟨by rw[← hφ2 i h1];exact h,h1⟩
 refine⟨φ2,⟨k2.mem,?_,?_,fun i b n f e ho=>k2.low i b n f (hsub _ _ e).1 ho⟩,?_,?_,?_,hφ2,hφ2n⟩
 ·intro i blk hb';obtain⟨h1,h2,h4,h3⟩:=hst i blk hb';obtain⟨b,n,q1,q2,q3⟩:=k2.live i blk h4;exact⟨b,n,by rw[hφ2 i (by rw[hb'];simp)];exact q1,q2,q3.PN h3 rfl fun o h=>h⟩
 ·intro i j b bx n n2 b1 b2 f h1 h2 h3 h4 o1 o2;obtain⟨q1,q2,_⟩:=hst i b1 h1;obtain⟨r1,r2,_⟩:=hst j b2 h2;exact hi.inj i j b bx n n2 b1 b2 f q2 r2 (hsub _ _ h3).1 (hsub _ _ h4).1 o1 o2
 ·refine⟨hA1.size,hA1.os,hA1.tape,hA1.output,hA1.block,hA1.mle,hA1.mnew,(fun _ _ _ h=>by cases h),?_⟩;intro i b n f h2 ho;exact hA1.pnew i b n f (hsub _ _ h2).1 ho
 ·intro k hk;have h:=hK k hk;exact⟨h.new,h.row,fun i r n e=>h.free i r n (hsub _ _ e).1,h.cel.mono hle⟩
 ·intro i r n e ho;obtain⟨h1,h2⟩:=hsub _ _ e
  cases hb2:st' i with
  | none=>exact h2 hb2
  | some blk =>
   obtain⟨q1,q2,_⟩:=hst i blk hb2;exact q1 (hi.inj i id r b' n n' blk _ b' q2 hid h1 eφ ho (bW hi eφ hid).1.1)
def jG (st':Store):AV→Prop
 | .i (.lit _)=>True
 | .own id _=>st' id≠none
 | .osl id _ _ _=>st' id≠none
 | .nils=>True
 | _=>False
theorem jG.rep {m m':Mem} {φ φ':Pl} {st':Store} {v:AV} {x:Value} (h:jG st' v) (he:∀ i,st' i≠none→φ' i=φ i) (hr:Rep m φ v x):Rep m' φ' v x:=by
 cases hr with
 | junk=>cases h
 | nils=>exact .nils
 | i hr=>cases hr with
  | lit=>exact .i (.lit _)
  | agg=>cases h
  | isl0=>cases h
  | isl=>cases h
  | iref=>cases h
 | own e=>exact .own (by rw[he _ h];exact e)
 | ownE=>cases h
 | osl e a b c d=>exact .osl (by rw[he _ h];exact e) a b c d
 | agg=>cases h
 | tup=>cases h
 | fn=>cases h
 | yld=>cases h
 | ydead=>cases h
theorem GG.pub {ok ok':Nat→Prop} {K:KL} {env:Nat→AV} {st st':Store} {a:Act} {w:World} {u id:Nat} {e:Ex} (h:GG wi mi nt ok K env st a w) (hu:env u=.own id 0) (hid:st id=some (.box (kW e.cells)))
 (hst:∀ i blk,st' i=some blk→i≠id∧st i=some blk∧fZ blk) (hok:∀ i,st' i≠none→ok' i) :
 ∃ b',(∀ env',(∀ t,env' t=.junk∨(t=u∧env' t=.i (.lit (.pointer (some ⟨b',0,none⟩))))∨(env' t=env t∧jG st' (env t)))→GG wi mi nt ok' (K++[((b',0),e)]) env' st' a w):=by
 obtain⟨⟨m,φ,hi,henv,hadv,_,hK⟩,hsz,hdf⟩:=h;have hr:=henv u;rw[hu]at hr
 have hfr:pM st (.own id 0)=some (.iref e.cells,upd st id (some (.fbox e.cells))):=by
  have h1:∀ (l:List IV) (n:Nat),BJ st (n+l.length+1) (kW l)=some (l,[]):=by
   intro l
   induction l with
   | nil=>intro n;simp[kW,BJ]
   | cons c l ih=>intro n;simp only[kW,zS];rw[show n+(l.length+1)+1=(n+l.length+1)+1 by omega];simp[BJ,frz,bnd,ih n]
  have h2:BJ st 18 (kW e.cells)=some (e.cells,[]):=by
   have:=h1 e.cells 12;rw[Ex.dB]at this;exact this
  have h3:wB st 19 id 0 (some (.box (kW e.cells)))=some (.iref e.cells,[(id, .fbox e.cells)]):=by
   show bnd (BJ st 18 (kW e.cells)) (fun p=>tst (decide (0≤p.1.length)) (some (IV.iref (dropE 0 p.1),(id,Blk.fbox p.1)::p.2)))=_;rw[h2];simp[dropE]
  have h4:frz st 20 (.own id 0)=some (.iref e.cells,[(id, .fbox e.cells)]):=by
   show wB st 19 id 0 (st id)=_;rw[hid];exact h3
  show bnd (frz st 20 (.own id 0)) (fun p=>some (p.1,iM st p.2))=_;rw[h4];rfl
 obtain⟨m1,k1,k2,k3⟩:=iI hi hr hfr
 cases hr':a.tmps.getD u undef with
 | pointer p =>
  rw[hr']at hr k1
  cases hr with
  | @own _ _ b' n' eφ =>
   obtain⟨hb,hbok⟩:=bW hi eφ hid
   have hrow:∃ (vs:List Value) (T:TypeId),w.heap[b']?=some (.cells vs.toArray T (0,0)):=by
    cases hbok with|box h1=>exact⟨_,_,h1⟩
   have hnew:wi.heap.size≤b':=by
    rcases hadv.pnew id b' n' b' eφ hb.1 with h|h
    ·exact h
    ·exact absurd (fun id b n e=>by cases e) h
   obtain⟨φ2,g1,g2,g3,g4,g5,g6⟩:=KV (wi:=wi) (mi:=mi) (K:=K) hi k2 (hadv.trans k3) k3.mle eφ hid hK (st':=st') fun i blk hb'=>by
    obtain⟨q1,q2,q3⟩:=hst i blk hb';exact⟨q1,q2,by simp[upd,q1,q2],q3⟩
   refine⟨b',fun env' he=>⟨⟨m1,φ2,g1,fun t=>?_,g2,fun i hi'=>hok i (g6 i hi'),?_⟩,hsz,hdf⟩⟩
   ·rcases he t with h|⟨rfl,h⟩|⟨h,hs⟩
    ·rw[h];exact .junk _
    ·rw[h,hr'];exact .i (.lit _)
    ·rw[h];exact hs.rep g5 (henv t)
   ·intro k hk
    rcases zV.1 hk with hk|hk
    ·exact g3 k hk
    ·simp only[xS]at hk;subst hk;refine⟨hnew,hrow,g4,?_⟩
     cases k1 with|iref hat=>exact hat
 | _=>rw[hr']at hr;cases hr
theorem GG.turn {ok ok':Nat→Prop} {K:KL} {env:Nat→AV} {st st':Store} {a:Act} {w:World} {u b o:Nat} {x:Ex} {t:TypeId} {r:AV} (h:GG wi mi nt ok K env st a w) (ht:iT C.P t=some 1) (hmi:mM wi mi) (hk:((b,o),x)∈K) (hu:env u=r)
 (hr:(r=.nils∧x.kids=[]∧∀ i blk,st' i=some blk→st i=some blk)∨∃ id,r=.osl id 5 0 x.kids.length∧x.kids≠[]∧st id=some (.arr 5 (Ex.aA x.kids))∧∀ i blk,st' i=some blk→i≠id∧st i=some blk)
 (hlit:AFG st') (hok:∀ i,st' i≠none→ok' i) :
 ∃ w' b' ao cap,a.tmps.getD u undef=.slice ao x.kids.length cap∧(x.kids≠[]→ao=some ⟨b',0,none⟩)∧(Instr.storeAt t (.pointer (some ⟨b,o+4,none⟩)) (a.tmps.getD u undef)).run C.P w=.ok () w' ∧
   ∀ env',(∀ t,env' t=.junk∨(a.tmps.getD t undef=.pointer (some ⟨b,o,none⟩)∧env' t=.i (.iref [.int x.kind, .int x.col, .bool x.val.null, .int x.val.n, .lit (.slice ao x.kids.length cap)]))∨(env' t=env t∧jG st' (env t))) →
     GG wi mi nt ok' (K++bG b' 0 x.kids) env' st' a w':=by
 obtain⟨⟨m,φ,hi,henv,hadv,_,hK⟩,hsz,hdf⟩:=h;have hru:=henv u;rw[hu]at hru
 have main:∃ (b':Nat) (ao:Option Addr) (cap:Nat) (m1:Mem) (φ2:Pl),a.tmps.getD u undef=.slice ao x.kids.length cap∧(x.kids≠[]→ao=some ⟨b',0,none⟩)∧Inv w m1 φ2 st'∧Adv wi mi (fun _=>none) w m1 φ2∧(∀ k∈K++bG b' 0 x.kids,PF wi.heap.size w m1 φ2 k.1.1 k.1.2 k.2) ∧
  IRep m1 (.isl (Ex.aA x.kids)) (a.tmps.getD u undef)∧(∀ i,st' i≠none→φ2 i=φ i)∧(∀ i,φ2 i≠none→st' i≠none):=by
  rcases hr with ⟨rfl,hx,hst⟩|⟨id,rfl,hx,hid,hst⟩
  ·generalize hv:a.tmps.getD u undef=v at hru
   cases hru
   let φ2:Pl:=fun i=>match st' i with
    | some _=>φ i
    | none=>none
   have hφ2:∀ i,st' i≠none→φ2 i=φ i:=fun i h=>by
    show(match st' i with|some _=>φ i|none=>none)=φ i
    cases e:st' i with
    | none=>exact absurd e h
    | some _=>rfl
   have hφ2n:∀ i,φ2 i≠none→st' i≠none:=fun i h e=>h (by
    show(match st' i with|some _=>φ i|none=>none)=none
    rw[e])
   have hsub:∀ i p,φ2 i=some p→φ i=some p:=fun i p h=>by
    have h1:=hφ2n i (by rw[h];simp);rw[← hφ2 i h1];exact h
   refine⟨0,none,0,m,φ2,by rw[hx];rfl,fun h=>absurd hx h,⟨hi.mem,?_,?_,fun i b n f e ho=>hi.low i b n f (hsub _ _ e) ho⟩,?_,?_,?_,hφ2,hφ2n⟩
   ·intro i blk hb';obtain⟨b,n,q1,q2,q3⟩:=hi.live i blk (hst i blk hb');exact⟨b,n,by rw[hφ2 i (by rw[hb'];simp)];exact q1,q2,q3.PN (hlit i blk hb') rfl fun o h=>h⟩
   ·intro i j b bx n n2 b1 b2 f h1 h2 h3 h4 o1 o2;exact hi.inj i j b bx n n2 b1 b2 f (hst i b1 h1) (hst j b2 h2) (hsub _ _ h3) (hsub _ _ h4) o1 o2
   ·refine⟨hadv.size,hadv.os,hadv.tape,hadv.output,hadv.block,hadv.mle,hadv.mnew,(fun _ _ _ h=>by cases h),?_⟩;intro i b n f h2 ho;exact hadv.pnew i b n f (hsub _ _ h2) ho
   ·intro k hk;rw[hx]at hk;simp only[bG,z8]at hk;have h:=hK k hk;exact⟨h.new,h.row,fun i r n e=>h.free i r n (hsub _ _ e),h.cel⟩
   ·rw[hx];simp only[Ex.aA];exact .isl0 _ _ fun _=>rfl
  ·obtain⟨b',cap,m1,φ2,e1,g1,g2,g3,g4,g5,g6⟩:=KP (wi:=wi) (mi:=mi) (K:=K) hx hi hru hid hadv hK (st':=st') fun i blk hb'=>⟨(hst i blk hb').1,(hst i blk hb').2,hlit i blk hb'⟩
   exact⟨b',_,cap,m1,φ2,e1,fun _=>rfl,g1,g2,g3,g4,g5,g6⟩
 obtain⟨b',ao,cap,m1,φ2,e1,e2,g1,g2,g3,g4,g5,g6⟩:=main;obtain⟨w',m',k1,k2,k3,k4,k5⟩:=vQ (C:=C) (wi:=wi) (mi:=mi) ht g1 hlit g2 hmi g3 (yN _ hk) g4;refine⟨w',b',ao,cap,e1,e2,k1,fun env' he=>⟨⟨m',φ2,k2,fun t=>?_,k3,fun i hi'=>hok i (g6 i hi'),k4⟩,hsz,hdf⟩⟩
 rcases he t with h|⟨h1,h⟩|⟨h,hs⟩
 ·rw[h];exact .junk _
 ·rw[h,h1,← e1];exact .i (.iref k5)
 ·rw[h];exact hs.rep g5 (henv t)
end
section
variable {C:Ctx} {wi:World} {mi:Mem} {nt:Nat}
theorem GG.WG {ok:Nat→Prop} {K:KL} {env:Nat→AV} {st:Store} {a:Act} {w:World} {t:Nat} {v:Value} (h:GG wi mi nt ok K env st a w) (ht:env t=.i (.lit v)):a.tmps.getD t undef=v:=by
 obtain⟨⟨m,φ,hi,henv,_⟩,_⟩:=h;have:=henv t;rw[ht]at this;exact this.lit_eq
theorem GG.region (hS:SoundOk C) {id:Nat} {ops:Array Oper} {os1 os2:List Oper} {o:Oper} {K:KL} {S:AS} {a:Act} {w:World} {u b' o':Nat} {x:Ex} {Q:Exit→Act→World→Prop} {PP:(Nat→AV)→Store→Prop} (hops:ops.toList=os1++(os2++[o])) (hs:∀ o∈ops,jC nt o=true)
 (g:GG wi mi nt (fun id=>id<S.st.length) K (aY S.env) (aT S.st) a w) (hk:((b',o'),x)∈K)
 (h:∃ R1,dJ C (aH C) ops.toList false S.st.length os1 0 { env:=aY S.env,st:=aT S.st,log:=[] }=some R1∧R1.env u=.i (.lit (.pointer (some ⟨b',o',none⟩))) ∧
  ∃ R2,dJ C (aH C) ops.toList false S.st.length os2 os1.length { env:=upd R1.env u (.i (.iref x.cells)),st:=R1.st,log:=R1.log }=some R2∧PP R2.env R2.st)
 (hfin:∀ env st a' w',PP env st→GG wi mi nt (fun _=>True) K env st a' w'→wpOpIn (FR none) 0 C.P ops Q (os1.length+os2.length) (fun a w=>wpOpsIn (FR none) 0 C.P ops Q [] a w) a' w'):(Code.region id ops false).wp C.P Q a w:=by
 obtain⟨R1,h1,h2,R2,h3,h4⟩:=h;refine vM ?_;have hsz:ops.size=os1.length+(os2.length+1):=by rw[← Array.length_toList,hops];simp
 have hget:∀ j,ops[j]?=(os1++(os2++[o]))[j]?:=fun j=>by rw[← hops,xE]
 rw[zA1,hsz,show List.range' 0 (os1.length+(os2.length+1))=List.range' 0 os1.length++(List.range' os1.length os2.length++[os1.length+os2.length])by
  rw[← List.range'_append_1,← List.range'_append_1];simp]
 have hcall:=aX hS;refine GG.ops hS.ctx hcall hs (R:={ env:=aY S.env,st:=aT S.st,log:=[] }) (base:=S.st.length) (i:=0) (fun j hj=>?_) h1 (g.ok' fun id h=>.inl h) fun a1 w1 g1=>?_
 ·rw[hget,zK,yV hj]
 ·have g2:=g1.see (u:=u) h2 hk;rw[zK]at g2;refine GG.ops hS.ctx hcall hs (R:={ env:=upd R1.env u (.i (.iref x.cells)),st:=R1.st,log:=R1.log }) (base:=S.st.length) (fun j hj=>?_) h3 g2 fun a2 w2 g3=>?_
  ·rw[hget,zB (by omega),xN,yV hj]
  ·rw[wpOpsIn_cons];exact hfin _ _ a2 w2 h4 (g3.ok' fun _ _=>trivial)
theorem YL {ops:Array Oper} {Q:Exit→Act→World→Prop} {K:Act→World→Prop} {i d:Nat} {t ty:TypeId} {x:Operand} {pos:String} {after:Array Edge} {v:Value} {a:Act} {w:World} (ho:ops[i]?=some ⟨some d, .load t x,ty,pos,after,none⟩)
 (hrun:(Instr.loadAt t (a.eval x)).run C.P w=.ok v w) (hK:K (a.put (some d) v) w):wpOpIn (FR none) 0 C.P ops Q i K a w:=by
 unfold wpOpIn;rw[ho];simp only[Region.wanted,if_true];refine⟨fun _ _=>trivial,?_⟩;rw[Oper.semAt_eq _ _ _ (fun c e=>by cases e)]
 have:(execOp a.eval ⟨some d, .load t x,ty,pos,after,none⟩).run C.P w=.ok (.value v) w:=by
  unfold execOp;simp[hrun]
 rw[this];simpa [Oper.uponIn]using hK
theorem GG.put {ok:Nat→Prop} {K:KL} {env:Nat→AV} {st:Store} {a:Act} {w:World} {d:Nat} {x:IV} {v:Value} (hd:d<nt) (h:GG wi mi nt ok K env st a w) (hr:IRep mi x v):GG wi mi nt ok K (upd env d (.i x)) st (a.put (some d) v) w:=by
 obtain⟨⟨m,φ,hi,henv,hadv,hok,hK⟩,hsz,hdf⟩:=h;exact⟨⟨m,φ,hi,K5 (dst:=some d) henv hsz (by simpa [AEO]using hd) (.i (hr.mono hadv.mle)),hadv,hok,hK⟩,by rw[K3];exact hsz,by rw[sS];exact hdf⟩
theorem Inv.later {w w':World} {m:Mem} {φ:Pl} {st:Store} (h:Inv w m φ st) (hsz:w.heap.size≤w'.heap.size) (hw:∀ f,f<w.heap.size→w'.heap[f]?=w.heap[f]?):Inv w' m φ st:=by
 refine⟨fun b o v e=>?_,fun id blk e=>?_,h.inj,fun id b n f e ho=>yY (h.low id b n f e ho) hsz⟩
 ·rw[cell_of_heap (hw b (h.mem.lt e))];exact h.mem b o v e
 ·obtain⟨b,n,k1,k2,k3⟩:=h.live id blk e;exact⟨b,n,k1,⟨k2.1,fun f hf=>yY (k2.2 f hf) hsz⟩,k3.mono k2.1 (fun f hf=>hw f (k2.2 f hf)) (.refl _) (.refl _) fun _ _ _=>rfl⟩
theorem GG.AHY (hS:SoundOk C) {id d u:Nat} {t ty:TypeId} {pos:String} {after:Array Edge} {p:Value} {x:IV} {ops:Array Oper} {os1 os2:List Oper} {G:List Nat} {S S':AS} {a:Act} {w:World} {Q:Exit→Act→World→Prop} (hops:ops.toList=os1++(⟨some d, .load t (.tmp u),ty,pos,after,none⟩::os2)) (hs:∀ o∈ops,jC nt o=true)
 (g:GG wi mi nt (fun id=>id<S.st.length) [] (aY S.env) (aT S.st) a w) (hd:d<nt)
 (hrun:∀ w',wi.heap.size≤w'.heap.size→(∀ f,f<wi.heap.size→w'.heap[f]?=wi.heap[f]?)→∃ y,(Instr.loadAt t p).run C.P w'=.ok y w'∧IRep mi x y)
 (h:∃ R1,dJ C (aH C) ops.toList false S.st.length os1 0 { env:=aY S.env,st:=aT S.st,log:=[] }=some R1∧R1.env u=.i (.lit p) ∧
  ∃ R2,dJ C (aH C) ops.toList false S.st.length os2 (os1.length+1) { env:=upd R1.env d (.i x),st:=R1.st,log:=R1.log }=some R2∧Av.settle G 0 R2.env R2.st=S')
 (hfin:∀ a' w',GG wi mi nt (fun id=>id<S'.st.length) [] (aY S'.env) (aT S'.st) a' w'→Q .normal a' w'):(Code.region id ops false).wp C.P Q a w:=by
 obtain⟨R1,h1,h2,R2,h3,rfl⟩:=h;refine vM ?_;have hsz:ops.size=os1.length+(1+os2.length):=by rw[← Array.length_toList,hops];simp;omega
 have hget:∀ j,ops[j]?=(os1++(⟨some d, .load t (.tmp u),ty,pos,after,none⟩::os2))[j]?:=fun j=>by rw[← hops,xE]
 rw[zA1,hsz,show List.range' 0 (os1.length+(1+os2.length))=List.range' 0 os1.length++(os1.length::(List.range' (os1.length+1) os2.length++[]))by
  rw[← List.range'_append_1,← List.range'_append_1];simp]
 have hcall:=aX hS;refine GG.ops hS.ctx hcall hs (R:={ env:=aY S.env,st:=aT S.st,log:=[] }) (base:=S.st.length) (i:=0) (fun j hj=>?_) h1 (g.ok' fun id h=>.inl h) fun a1 w1 g1=>?_
 ·rw[hget,zK,yV hj]
 ·have hv:=g1.WG h2
  obtain⟨y,hrun,hy⟩:=hrun w1 (by
   obtain⟨⟨m,φ,k1,k2,k3,_⟩,_⟩:=g1
   exact k3.size) (by
   obtain⟨⟨m,φ,k1,k2,k3,_⟩,_⟩:=g1
   exact fun f hf=>k3.block f hf fun id b n e=>by cases e)
  rw[wpOpsIn_cons]
  refine YL (v:=y) (d:=d) (t:=t) (x:=.tmp u) (ty:=ty) (pos:=pos) (after:=after) (by rw[hget,zB (zO _)];simp) (by
   show(Instr.loadAt t (a1.tmps.getD u undef)).run C.P w1=_
   rw[hv];exact hrun) ?_
  have g2:=g1.put hd hy;refine GG.ops hS.ctx hcall hs (R:={ env:=upd R1.env d (.i x),st:=R1.st,log:=R1.log }) (base:=S.st.length) (fun j hj=>?_) h3 (g2.ok' fun id h=>pY (fun j hj=>by omega) h) fun a2 w2 g3=>?_
  ·rw[hget,zB (by omega),show os1.length+1+j-os1.length=j+1 by omega];simp[yV hj]
  ·exact hfin a2 w2 ((g3.ok' (ok':=fun _=>True) fun _ _=>trivial).settle G)
end
end Go.Av
namespace Go.Av
open Go Go.RowKit
def iW (w:World):Mem:=fun b o=>w.cell? ⟨b,o,none⟩
theorem inv0 (w:World):Inv w (iW w) (fun _=>none) (aT []) :=
 ⟨fun _ _ _ h=>h,fun id blk h=>(by simp[aT]at h),fun id id' b b' n n' blk blk' f h=>(by simp[aT]at h),fun _ _ _ _ e=>by cases e⟩
theorem AC1 {w w':World} {m m':Mem} {φ':Pl} (h:Adv w m (fun _=>none) w' m' φ'):Below w.heap.size w w' :=
 ⟨h.os,h.tape.tape,h.output,h.size,fun k hk=>h.block k hk fun id b n e=>by cases e⟩
theorem XE {C:Ctx} (hS:SoundOk C) {f:FuncId} {args:List AV} {vs:Array Value} {w:World} (hr:RepL (iW w) (fun _=>none) args vs.toList) (h:aH C f args []=some (.bool true,[])) (hy:f≠uB:=by decide) :
 Calls C.P f vs w fun e w'=>e=.returned (.bool true)∧Below w.heap.size w w':=by
 have:=(aX hS).calls f args [] _ _ hy h w (iW w) (fun _=>none) vs.toList (inv0 w) hr (fun id h=>absurd rfl h);refine(show Calls C.P f vs w _ from this).mono ?_;rintro e w' ⟨v,m',φ',rfl,h1,h2,h3,h4⟩
 cases h1 with
 | i h1=>cases h1 with
  | lit=>exact⟨rfl,AC1 h3⟩
theorem FD {w:World} {b:Nat}:∀ (ns:List Int) (off:Nat),(∀ i,i<ns.length→w.cell? ⟨b,off+i,none⟩=some (.int .u8 (ns.getD i 0)))→(∀ n∈ns,(Lit.int .u8 n).wf=true) →
 IElems (iW w) b off 1 (aP (ns.map fun n=>UInt8.ofNat n.toNat))
 | [],off,_,_=>.nil _ _ _
 | n::ns,off,h1,h2=>by
  have hw:=h2 n (by simp);simp only[Lit.wf,zW,zN]at hw;have e1:IntKind.u8.min=0:=rfl;have e2:IntKind.u8.max=255:=by decide
  rw[e1,e2]at hw
  have e:(((UInt8.ofNat n.toNat).toNat:Nat):Int)=n:=by
   rw[UInt8.toNat_ofNat'];omega
  have c0:=h1 0 (by simp);simp at c0;simp only[yQ,aP,e];refine .cons (.cons c0 (.lit _) rfl (.nil _ _)) rfl (FD ns (off+1) (fun i hi=>?_) fun x hx=>h2 x (by simp[hx]));have:=h1 (i+1) (by simpa using hi);rw[show off+1+i=off+(i+1)by omega,this];simp
theorem ABL {w:World} {a:Option Addr} {len cap:Nat} {zs:List Int}
 (h:(a=none∧len=0∧cap=0∧zs=[])∨∃ x,a=some x∧len≤cap∧cap≤maxLen∧zs.length=cap∧(∀ i,i<zs.length→w.cell? (x.add i)=some (.int .u8 (zs.getD i 0)))∧∀ n∈zs,(Lit.int .u8 n).wf=true) :
 ∃ code:List UInt8,IRep (iW w) (.isl (aP code)) (.slice a len cap):=by
 rcases h with ⟨rfl,rfl,rfl,rfl⟩|⟨x,rfl,h1,h2,h3,h4,h5⟩
 ·exact⟨[], .isl0 _ _ fun _=>rfl⟩
 ·by_cases hl:len=0
  ·subst hl;exact⟨[], .isl0 _ _ (by simp)⟩
  ·refine⟨(zs.take len).map fun n=>UInt8.ofNat n.toNat,?_⟩;obtain⟨b,off,spot⟩:=x
   have hs:spot=none:=by
    have:=h4 0 (by omega);simp only[Addr.add,if_true,World.cell?]at this
    cases spot with
    | none=>rfl
    | some s=>split at this<;>simp at this
   subst hs;have hlen:((zs.take len).map fun n=>UInt8.ofNat n.toNat).length=len:=by simp;omega
   have key:=FD (w:=w) (b:=b) (zs.take len) off (fun i hi=>by
    have hi':i<len:=by simp at hi;omega
    have:=h4 i (by omega);rw[show(⟨b,off+i,none⟩:Addr)=(⟨b,off,none⟩:Addr).add i by unfold Addr.add;split<;>simp_all,this]
    simp[List.getD,zH,hi']) (fun n hn=>h5 n (zJ hn))
   have hbl:(aP ((zs.take len).map fun n=>UInt8.ofNat n.toNat)).length=len:=by rw[aO,hlen]
   have:=IRep.isl (m:=iW w) (b:=b) (off:=off) (k:=1) (cap:=cap) (es:=aP ((zs.take len).map fun n=>UInt8.ofNat n.toNat)) (fun e=>by rw[e]at hbl;simp at hbl;omega) key (by omega)
   rwa [hbl]at this
end Go.Av
namespace Go.Av
def M3 (st:Store):AV→Option IV
 | .i v=>some v
 | .nils=>some (.isl [])
 | .osl id k off len=>bnd (sH k off len (st id)) fun es=>some (.isl es)
 | _=>none
def wT (st:Store):List AV→Option (List IV)
 | []=>some []
 | c::r=>bnd (M3 st c) fun v=>bnd (wT st r) fun l=>some (v::l)
def CG (st:Store):AV→Option IV
 | .agg cs=>bnd (wT st cs) fun l=>some (.agg l)
 | v=>M3 st v
def H6 (st:Store):List AV→Option (List AV)
 | []=>some []
 | c::r=>bnd (CG st c) fun v=>bnd (H6 st r) fun l=>some (.i v::l)
def mfC:AV→Bool
 | .i v=>jR v
 | .nils=>true
 | .osl _ _ _ _=>true
 | _=>false
def AN5:List AV→Bool
 | []=>true
 | c::r=>mfC c && AN5 r
def mfR:AV→Bool
 | .agg cs=>AN5 cs
 | .i (.agg cs)=>kX cs
 | v=>mfC v
def AN4:List AV→Bool
 | []=>true
 | c::r=>mfR c && AN4 r
def mfA:AV→Bool
 | .tup vs=>AN4 vs
 | v=>mfR v
def mfB:Option Blk→Bool
 | some (.arr _ es)=>fP es
 | some (.tre _ es)=>jA es
 | some (.box _)=>false
 | some (.frz _ _)=>false
 | some (.fbox _)=>false
 | some (.loop _ _ _)=>false
 | none=>true
def ACF:StL→Bool
 | []=>true
 | b::r=>mfB b && ACF r
def jL (L:Nat):StL→StL
 | []=>[]
 | b::r=>vH (fun j=>some (j+L)) b::jL L r
def WI (call:dG) (g:FuncId) (us:List AV) (st:StL):Option (AV×StL) :=
 bnd (call g us []) fun p=>tst (mfA p.1 && ACF p.2) (some (ren (fun j=>some (j+st.length)) p.1,st++jL st.length p.2))
def AIK (call:dG) (g:FuncId) (args:List AV) (st:StL):Option (AV×StL) :=
 bnd (H6 (aT st) args) fun us=>bnd (call g us []) fun p=>tst (mfA p.1 && ACF p.2) (some (ren (fun j=>some (j+st.length)) p.1,st++jL st.length p.2))
theorem TCells.toI {w:World}:∀ {cs:List IV} {vs:List Value} {F:List Nat},TCells w cs vs F→ICells (iW w) cs vs
 | _,_,_, .nil=>.nil
 | _,_,_, .lit o r=>.cons (.lit _) o r.toI
 | _,_,_, .isl0 c r=>.cons (.isl0 _ _ c) rfl r.toI
 | _,_,_, .isl (b:=b) (k:=k) (es:=es) (us:=us) hn ⟨T,hr,_⟩ hk hl hf hc g r=>by
  refine .cons (.isl hn (gG 0 hl g.toI fun j v hj=>?_) hc) rfl r.toI;show w.cell? ⟨b,0+j,none⟩=some v;rw[zK,bX hr];rw[zH]at hj;split at hj
  ·exact hj
  ·cases hj
theorem nP {w:World} {m:Mem} (h:mM w m):MLe m (iW w):=fun b o v e=>h b o v e
theorem sJ {w:World} {m:Mem} {φ:Pl} {st:Store} {c:AV} {x:Value} {iv:IV} (hi:Inv w m φ st) (hr:Rep m φ c x) (ho:x.oneCell'=true) (h:M3 st c=some iv):IRep (iW w) iv x:=by
 have key:∀ {st1:Store},BF st c=some (iv,st1)→IRep (iW w) iv x:=by
  intro st1 h1;obtain⟨F,O,k⟩:=JH hi hr ho h1
  cases k.cells.toI with
  | cons a _ _=>exact a
 unfold M3 at h;split at h
 ·injection h with h;subst h
  cases hr with
  | i hr=>exact hr.mono (nP hi.mem)
 ·injection h with h;subst h;exact key (st1:=st) rfl
 ·obtain⟨es,h1,h2⟩:=aG.1 h;injection h2 with h2;subst h2;exact key (by simp only[BF];rw[h1];rfl)
 ·cases h
theorem wS {w:World} {m:Mem} {φ:Pl} {st:Store} (hi:Inv w m φ st):∀ {cs:List AV} {xs:List Value} {l:List IV},RepC m φ cs xs→wT st cs=some l→ICells (iW w) l xs
 | [],_,l, .nil,h=>by simp[wT]at h;subst h;exact .nil
 | c::cs,_,l, .cons a o b,h=>by
  simp only[wT]at h;obtain⟨v,h1,h2⟩:=aG.1 h;obtain⟨l',h3,h4⟩:=aG.1 h2;injection h4 with h4;subst h4;exact .cons (sJ hi a o h1) o (wS hi b h3)
theorem CF {w:World} {m:Mem} {φ:Pl} {st:Store} {c:AV} {x:Value} {iv:IV} (hi:Inv w m φ st) (hr:Rep m φ c x) (h:CG st c=some iv):IRep (iW w) iv x:=by
 cases c with
 | agg cs =>
  simp only[CG]at h;obtain⟨l,h1,h2⟩:=aG.1 h;injection h2 with h2;subst h2
  cases hr with
  | agg hc=>exact .agg (wS hi hc h1)
 | i v =>
  simp only[CG,M3]at h;injection h with h;subst h
  cases hr with
  | i hr=>exact hr.mono (nP hi.mem)
 | nils=>cases hr;exact sJ hi .nils rfl (by simpa only[CG]using h)
 | osl id k off len=>cases hr with|osl a b c d e=>exact sJ hi (.osl a b c d e) rfl (by simpa only[CG]using h)
 | _=>simp[CG,M3]at h
theorem wU {w:World} {m:Mem} {φ:Pl} {st:Store} (hi:Inv w m φ st):∀ {cs us:List AV} {xs:List Value},RepL m φ cs xs→H6 st cs=some us→RepL (iW w) (fun _=>none) us xs
 | [],us,_, .nil,h=>by simp[H6]at h;subst h;exact .nil
 | c::cs,us,_, .cons a b,h=>by
  simp only[H6]at h;obtain⟨v,h1,h2⟩:=aG.1 h;obtain⟨l',h3,h4⟩:=aG.1 h2;injection h4 with h4;subst h4;exact .cons (.i (CF hi a h1)) (wU hi b h3)
theorem UA {m m':Mem}:∀ {cs:List IV} {vs:List Value},kX cs=true→ICells m cs vs→ICells m' cs vs
 | [],_,_, .nil=>.nil
 | c::cs,_,h, .cons a o r=>by
  simp only[kX,zW]at h;refine .cons ?_ o (UA h.2 r)
  cases a with
  | lit=>exact .lit _
  | isl0 ao cap hc=>exact .isl0 ao cap hc
  | isl hn=>rename_i es _ _ _;cases es with|nil=>exact absurd rfl hn|cons e es=>simp[jR]at h
  | agg=>simp[jR]at h
  | iref=>simp[jR]at h
theorem DZ {m m':Mem} {φ:Pl} {c:AV} {x:Value} (h:mfC c=true) (hr:Rep m φ c x):Rep m' φ c x:=by
 cases hr with
 | i hr =>
  simp only[mfC]at h
  cases hr with
  | lit=>exact .i (.lit _)
  | isl0 ao cap hc=>exact .i (.isl0 ao cap hc)
  | isl hn=>rename_i es _ _ _;cases es with|nil=>exact absurd rfl hn|cons e es=>simp[jR]at h
  | agg=>simp[jR]at h
  | iref=>simp[jR]at h
 | nils=>exact .nils
 | osl a b c d e=>exact .osl a b c d e
 | _=>simp[mfC]at h
theorem TG {m m':Mem} {φ:Pl}:∀ {cs:List AV} {xs:List Value},AN5 cs=true→RepC m φ cs xs→RepC m' φ cs xs
 | [],_,_, .nil=>.nil
 | c::cs,_,h, .cons a o b=>by
  simp only[AN5,zW]at h;exact .cons (DZ h.1 a) o (TG h.2 b)
theorem AAG {m m':Mem} {φ:Pl} {c:AV} {x:Value} (h:mfR c=true) (hr:Rep m φ c x):Rep m' φ c x:=by
 cases c with
 | agg cs=>cases hr with|agg hc=>exact .agg (TG (by simpa only[mfR]using h) hc)
 | i v =>
  cases v with
  | agg cs=>cases hr with|i hr=>cases hr with|agg hc=>exact .i (.agg (UA (by simpa only[mfR]using h) hc))
  | _=>exact DZ (by simpa only[mfR]using h) hr
 | _=>exact DZ (by simpa only[mfR]using h) hr
theorem TF {m m':Mem} {φ:Pl}:∀ {cs:List AV} {xs:List Value},AN4 cs=true→RepL m φ cs xs→RepL m' φ cs xs
 | [],_,_, .nil=>.nil
 | c::cs,_,h, .cons a b=>by
  simp only[AN4,zW]at h;exact .cons (AAG h.1 a) (TF h.2 b)
theorem AIF {m m':Mem} {φ:Pl} {c:AV} {x:Value} (h:mfA c=true) (hr:Rep m φ c x):Rep m' φ c x:=by
 cases c with
 | tup vs=>cases hr with|tup hc=>exact .tup (TF (by simpa only[mfA]using h) hc)
 | _=>exact AAG (by simpa only[mfA]using h) hr
theorem AN6 {w:World} {m m':Mem} {φ ψ:Pl} {b:Nat} {n:Ext} {blk:Blk} (h:mfB (some blk)=true) (hn:∀ f,n.own f→∀ o,m' f o=none) (ho:n.own b) (hk:BlkOk w m φ b n blk):BlkOk w m' ψ b n blk:=by
 cases hk with
 | arr h1 h2 h3 h4 h5 h6 h7 h8 h9=>exact .arr h1 h2 h3 h4 (UA (fF (by simpa only[mfB]using h)) h5) h6 (hn b ho) h8 h9
 | tre h1 h2 h3 h4 h5 h6 h7 h8 h9 h10=>exact .tre h1 h2 h3 h4 (h5.pure (kF (by simpa only[mfB]using h))).toU h6 h7 h8 hn h10
 | _=>simp[mfB]at h
theorem AAF:∀ {l:StL} {j:Nat} {b:Option Blk},ACF l=true→l[j]?=some b→mfB b=true
 | [],_,_,_,h=>by simp at h
 | a::l,0,b,h,k=>by simp at k;subst k;simp only[ACF,zW]at h;exact h.1
 | a::l,j+1,b,h,k=>by simp only[ACF,zW]at h;exact AAF h.2 (by simpa using k)
theorem I4 (L:Nat):∀ (l:StL) (j:Nat),(jL L l)[j]?=(l[j]?).map (vH fun j=>some (j+L))
 | [],j=>by simp[jL]
 | a::l,0=>by simp[jL]
 | a::l,j+1=>by simp[jL,I4 L l j]
theorem rV (L:Nat):∀ (l:StL),(jL L l).length=l.length
 | []=>rfl
 | a::l=>by simp[jL,rV L l]
theorem tH {C:Ctx} {call:dG} (hcall:CallOk C call) {g:FuncId} {args us:List AV} {stl stl':StL} {r:AV} (h1:∀ (w:World) (m:Mem) (φ:Pl) (vs:List Value),Inv w m φ (aT stl)→RepL m φ args vs→RepL (iW w) (fun _=>none) us vs) (h2:WI call g us stl=some (r,stl')) (hy:g≠uB) :
 (∃ fn,C.P.funcs[g]?=some fn∧fn.name≠ "runtime.NumGoroutine"∧fn.body.isSome=true)∧∀ (w:World) (m:Mem) (φ:Pl) (vs:List Value),Inv w m φ (aT stl)→RepL m φ args vs→(∀ id,φ id≠none→id<stl.length) →
  Calls C.P g vs.toArray w (bK w m φ r stl'):=by
 unfold WI at h2;obtain⟨p,h3,h4⟩:=aG.1 h2;obtain⟨h5,h6⟩:=aR.1 h4;simp only[zW]at h5;injection h6 with h6;injection h6 with h6 h7;subst h6;subst h7;refine⟨hcall.name _ _ _ _ hy h3,fun w m φ vs hi hr hb=>?_⟩;refine(hcall.calls g us [] p.1 p.2 hy h3 w (iW w) (fun _=>none) vs (inv0 w) (h1 w m φ vs hi hr) (fun id h=>absurd rfl h)).mono ?_;rintro e w' ⟨v,m',φ',rfl,j1,j2,j3,j4⟩;generalize hL:stl.length=L at *
 let φ2:Pl:=fun j=>if j<L then φ j else φ' (j-L)
 have hlow:∀ j,j<L→φ2 j=φ j:=fun j hj=>by show(if j<L then φ j else φ' (j-L))=_;rw[if_pos hj]
 have hhigh:∀ j,φ2 (j+L)=φ' j:=fun j=>by show(if j+L<L then φ (j+L)else φ' (j+L-L))=_;rw[if_neg (by omega)];congr 1;omega
 have hren:Ren (fun j=>some (j+L)) φ' φ2:=fun id j q e1 e2=>by injection e1 with e1;subst e1;rw[hhigh];exact e2
 have hsame:∀ f,f<w.heap.size→w'.heap[f]?=w.heap[f]?:=fun f hf=>j3.block f hf fun id b n e=>by cases e
 have hnew:∀ id b n f,φ' id=some (b,n)→n.own f→w.heap.size≤f:=fun id b n f e ho=>by
  rcases j3.pnew id b n f e ho with q|q
  ·exact q
  ·exact absurd (fun id b n e=>by cases e) q
 have hmem:mM w' m:=fun b o u e=>by rw[cell_of_heap (hsame b (hi.mem.lt e))];exact hi.mem b o u e
 have hmnone:∀ f,w.heap.size≤f→∀ o,m f o=none:=fun f hf o=>by
  cases hx:m f o with
  | none=>rfl
  | some u=>have:=hi.mem.lt hx;omega
 have hp:PLe φ φ2:=fun id b n e=>⟨n,by rw[hlow id (hb id (by rw[e];simp))];exact e,rfl,fun _ h=>h⟩
 have hst:∀ j blk,aT (stl++jL L p.2) j=some blk→(j<L∧aT stl j=some blk)∨∃ i c,j=i+L∧aT p.2 i=some c∧vH (fun j=>some (j+L)) (some c)=some blk∧mfB (some c)=true:=by
  intro j blk e;rw[l7]at e;by_cases hj:j<L
  ·rw[yV (by omega)]at e;exact .inl ⟨hj,by rw[l7];exact e⟩
  ·rw[zB (by omega),hL,I4]at e
   cases hx:p.2[j-L]? with
   | none=>rw[hx]at e;cases e
   | some b =>
    rw[hx]at e;simp only[zA5,Option.join_some]at e;obtain⟨c,rfl⟩:=nO e;refine .inr ⟨j-L,c,by omega,by rw[l7,hx];rfl,e,AAF h5.2 hx⟩
 refine⟨v,m,φ2,rfl,?_,⟨hmem,?_,?_,?_⟩,⟨j3.size,j3.os,j3.tape,j3.output,fun b hb' _=>hsame b hb', .refl _,fun _ _ _ _=>rfl,hp,?_⟩,?_⟩
 ·exact(AIF h5.1 j1).ren hren
 ·intro j blk e
  rcases hst j blk e with ⟨hj,e1⟩|⟨i,c,rfl,e1,e2,e3⟩
  ·obtain⟨b,n,q1,q2,q3⟩:=hi.live j blk e1;exact⟨b,n,by rw[hlow j hj];exact q1,⟨q2.1,fun f hf=>yY (q2.2 f hf) j3.size⟩,q3.mono q2.1 (fun f hf=>hsame f (q2.2 f hf)) (.refl _) hp fun _ _ _=>rfl⟩
  ·obtain⟨b,n,q1,q2,q3⟩:=j2.live i c e1;have q4:BlkOk w' m φ' b n c:=AN6 e3 (fun f hf=>hmnone f (hnew i b n f q1 hf)) q2.1 q3;exact⟨b,n,by rw[hhigh];exact q1,q2,BlkOk.ren hren (fun c' e'=>by injection e' with e';subst e';exact q4) e2⟩
 ·intro i j b b' n n' blk blk' f e1 e2 p1 p2 o1 o2
  rcases hst i blk e1 with ⟨hi1,k1⟩|⟨i1,c1,rfl,k1,_,_⟩
  ·rw[hlow i hi1]at p1;have hlt:=(bW hi p1 k1).1.2 f o1
   rcases hst j blk' e2 with ⟨hj1,k2⟩|⟨i2,c2,rfl,k2,_,_⟩
   ·rw[hlow j hj1]at p2;exact hi.inj i j b b' n n' blk blk' f k1 k2 p1 p2 o1 o2
   ·rw[hhigh]at p2;have:=hnew _ _ _ f p2 o2;omega
  ·rw[hhigh]at p1;have hge:=hnew _ _ _ f p1 o1
   rcases hst j blk' e2 with ⟨hj1,k2⟩|⟨i2,c2,rfl,k2,_,_⟩
   ·rw[hlow j hj1]at p2;have:=(bW hi p2 k2).1.2 f o2;omega
   ·rw[hhigh]at p2;rw[j2.inj i1 i2 b b' n n' _ _ f k1 k2 p1 p2 o1 o2]
 ·intro id b n f e ho;by_cases hj:id<L
  ·rw[hlow id hj]at e;exact yY (hi.low id b n f e ho) j3.size
  ·have:id=(id-L)+L:=by omega
   rw[this,hhigh]at e;exact j2.low _ b n f e ho
 ·intro id b n f e ho;by_cases hj:id<L
  ·rw[hlow id hj]at e;exact .inr (fH.not e ho)
  ·have:id=(id-L)+L:=by omega
   rw[this,hhigh]at e;exact .inl (hnew _ _ _ f e ho)
 ·intro id hne;rw[zR,rV,hL];by_cases hj:id<L
  ·omega
  ·have:id=(id-L)+L:=by omega
   rw[this,hhigh]at hne;have:=j4 _ hne;omega
theorem IM {C:Ctx} {call:dG} (hcall:CallOk C call) {g:FuncId} {args:List AV} {stl stl':StL} {r:AV} (h:AIK call g args stl=some (r,stl')) (hy:g≠uB:=by decide) :
 (∃ fn,C.P.funcs[g]?=some fn∧fn.name≠ "runtime.NumGoroutine"∧fn.body.isSome=true)∧∀ (w:World) (m:Mem) (φ:Pl) (vs:List Value),Inv w m φ (aT stl)→RepL m φ args vs→(∀ id,φ id≠none→id<stl.length) →
  Calls C.P g vs.toArray w (bK w m φ r stl'):=by
 unfold AIK at h;obtain⟨us,h1,h2⟩:=aG.1 h;exact tH hcall (us:=us) (fun w m φ vs hi hr=>wU hi hr h1) h2 hy
def AL5 (call:dG) (g:FuncId):List AV→StL→Option (AV×StL)
 | a::r,st=>bnd (jE (aT st) a) fun q=>bnd (fG call true g (q.1::r) q.2 st.length) fun p=>QH [p.1] p.2 (gY p.2 st.length [p.1])
 | [],_=>none
theorem J2 {C:Ctx} {call:dG} (hcall:CallOk C call) {g:FuncId} {args:List AV} {stl stl':StL} {r:AV} (h:AL5 call g args stl=some (r,stl')) (hy:g≠uB:=by decide) :
 (∃ fn,C.P.funcs[g]?=some fn∧fn.name≠ "runtime.NumGoroutine"∧fn.body.isSome=true)∧∀ (w:World) (m:Mem) (φ:Pl) (vs:List Value),Inv w m φ (aT stl)→RepL m φ args vs→(∀ id,φ id≠none→id<stl.length) →
  Calls C.P g vs.toArray w (bK w m φ r stl'):=by
 cases args with
 | nil=>cases h
 | cons a args =>
  unfold AL5 at h;obtain⟨q,h1,h2⟩:=aG.1 h;obtain⟨p,h3,h4⟩:=aG.1 h2;unfold QH at h4;injection h4 with h4;injection h4 with h4 h5;subst h4;subst h5
  have hname:∃ fn,C.P.funcs[g]?=some fn∧fn.name≠ "runtime.NumGoroutine"∧fn.body.isSome=true:=by
   unfold fG at h3;obtain⟨p1,_,h5⟩:=aG.1 h3;unfold jQ at h5;obtain⟨_,h6⟩:=aR.1 h5;obtain⟨p2,h7,_⟩:=aG.1 h6;exact hcall.name _ _ _ _ hy h7
  refine⟨hname,fun w m φ vs hi hr h0=>?_⟩
  cases hr with
  | cons ra rr =>
   obtain⟨m1,k1,k2,k3⟩:=BA hi ra (show jE _ a=some (q.1,q.2)from h1)
   have hf:∀ id,stl.length≤id→id<stl.length+wide→φ id=none:=fun id l1 _=>by
    cases e:φ id with
    | none=>rfl
    | some b=>have:=h0 id (by rw[e];simp);omega
   obtain⟨_,hc⟩:=qN hcall hy k2 hf (.cons k1 (rr.mono k3.mle (.refl _))) (show fG call true g _ q.2 _=some (p.1,p.2)from h3);refine hc.mono ?_;rintro e w' ⟨y,rfl,m',φ',j1,j2,j3,_⟩;generalize hids:gY p.2 stl.length [p.1]=ids;have hd:ids.Nodup:=by rw[← hids];exact fT _ _ _
   refine⟨y,m',eG ids φ',rfl,j1.ren (kN ids φ'),j2.keep hd,(k3.trans j3).keep h0 (fun j hj=>by rw[← hids];exact rC _ _ _ hj),?_⟩;intro id hne;rw[gD];unfold eG at hne
   cases hx:ids[id]? with
   | none=>rw[hx]at hne;exact absurd rfl hne
   | some i=>exact(zX.1 hx).1
def AGL (call:dG) (g:FuncId):List AV→StL→Option (AV×StL)
 | args,[]=>bnd (call g args []) fun p=>bnd (pM (aT p.2) p.1) fun q=>some (.i q.1,[])
 | _,_=>none
theorem IZ {C:Ctx} {call:dG} (hcall:CallOk C call) {g:FuncId} {args:List AV} {stl stl':StL} {r:AV} (h:AGL call g args stl=some (r,stl')) (hy:g≠uB:=by decide) :
 (∃ fn,C.P.funcs[g]?=some fn∧fn.name≠ "runtime.NumGoroutine"∧fn.body.isSome=true)∧∀ (w:World) (m:Mem) (φ:Pl) (vs:List Value),Inv w m φ (aT stl)→RepL m φ args vs→(∀ id,φ id≠none→id<stl.length) →
  Calls C.P g vs.toArray w (bK w m φ r stl'):=by
 unfold AGL at h;split at h
 ·obtain⟨p,h1,h2⟩:=aG.1 h;obtain⟨q,h3,h4⟩:=aG.1 h2;injection h4 with h4;injection h4 with h4 h5;subst h4;subst h5;refine⟨hcall.name _ _ _ _ hy h1,fun w m φ vs hi hr h0=>?_⟩;refine(hcall.calls _ _ _ p.1 p.2 hy h1 w m φ vs hi hr h0).mono ?_;rintro e w' ⟨v,m',φ',rfl,j1,j2,j3,j4⟩;obtain⟨m1,k1,k2,k3⟩:=iI j2 j1 (show pM _ p.1=some (q.1,q.2)from h3)
  have hn:∀ id,φ id=none:=fun id=>by
   cases e:φ id with
   | none=>rfl
   | some b=>exact absurd (h0 id (by rw[e];simp)) (xD _)
  have ha:=j3.trans k3;refine⟨v,m1,fun _=>none,rfl, .i k1,⟨k2.mem,fun id blk e=>(by simp[aT]at e),fun i j b b' n n' b1 b2 f e=>(by simp[aT]at e),fun _ _ _ _ e=>(by cases e)⟩,⟨ha.size,ha.os,ha.tape,ha.output,ha.block,ha.mle,ha.mnew,fun id b n e=>(by rw[hn id]at e;cases e),fun _ _ _ _ e=>(by cases e)⟩,fun id e=>absurd rfl e⟩
 ·cases h
def UL (st:Store):AV→Option IV
 | .i v=>some v
 | .osl id k off len=>match st id with
  | some (.arr k' es)=>tst (decide (k'=k∧off=0∧len≤es.length∧0<len)) (some (.isl (es.take len)))
  | _=>none
 | _=>none
def GV (st:Store):List AV→Option (List AV)
 | []=>some []
 | c::r=>bnd (UL st c) fun v=>bnd (GV st r) fun l=>some (.i v::l)
theorem CB {w:World} {m:Mem} {φ:Pl} {st:Store} {c:AV} {x:Value} {iv:IV} (hi:Inv w m φ st) (hr:Rep m φ c x) (h:UL st c=some iv):IRep (iW w) iv x:=by
 unfold UL at h;split at h
 ·injection h with h;subst h
  cases hr with
  | i hr=>exact hr.mono (nP hi.mem)
 ·rename_i id k off len;split at h
  ·rename_i k' es hst;obtain⟨h1,h2⟩:=aR.1 h;injection h2 with h2;subst h2;obtain⟨rfl,rfl,h3,h4⟩:=zP h1
   cases hr with
   | osl e1 e2 e3 e4 e5 =>
    rename_i cap b n ao;obtain⟨_,hk⟩:=bW hi e1 hst
    cases hk with
    | arr k1 k2 k3 k4 k5 k6 k7 k8 k9 =>
     rename_i T vs
     have hel:IElems (iW w) b 0 k' es:=by
      refine gG 0 k4 (k5.mono (nP hi.mem)) fun j v hj=>?_
      show w.cell? ⟨b,0+j,none⟩=some v;rw[zK,bX k1];rw[zH]at hj;split at hj
      ·exact hj
      ·cases hj
     have hao:=e4 (by omega);subst hao;have hlen:(es.take len).length=len:=by rw[xK];omega
     have hne:es.take len≠[]:=fun e=>by rw[e]at hlen;simp at hlen;omega
     have:=IRep.isl hne (wE len hel) (show(es.take len).length≤cap by omega);rw[hlen]at this;simpa using this
  ·cases h
 ·cases h
theorem wP {w:World} {m:Mem} {φ:Pl} {st:Store} (hi:Inv w m φ st):∀ {cs us:List AV} {xs:List Value},RepL m φ cs xs→GV st cs=some us→RepL (iW w) (fun _=>none) us xs
 | [],us,_, .nil,h=>by simp[GV]at h;subst h;exact .nil
 | c::cs,us,_, .cons a b,h=>by
  simp only[GV]at h;obtain⟨v,h1,h2⟩:=aG.1 h;obtain⟨l',h3,h4⟩:=aG.1 h2;injection h4 with h4;subst h4;exact .cons (.i (CB hi a h1)) (wP hi b h3)
def NU (call:dG) (g:FuncId) (args:List AV) (st:StL):Option (AV×StL) :=
 bnd (GV (aT st) args) fun us=>match call g us []with
  | some (.i v,[])=>tst (jR v) (some (.i v,st))
  | _=>none
theorem IK {C:Ctx} {call:dG} (hcall:CallOk C call) {g:FuncId} {args:List AV} {stl stl':StL} {r:AV} (h:NU call g args stl=some (r,stl')) (hy:g≠uB:=by decide) :
 (∃ fn,C.P.funcs[g]?=some fn∧fn.name≠ "runtime.NumGoroutine"∧fn.body.isSome=true)∧∀ (w:World) (m:Mem) (φ:Pl) (vs:List Value),Inv w m φ (aT stl)→RepL m φ args vs→(∀ id,φ id≠none→id<stl.length) →
  Calls C.P g vs.toArray w (bK w m φ r stl'):=by
 unfold NU at h;obtain⟨us,h1,h2⟩:=aG.1 h;split at h2
 ·rename_i iv h3;obtain⟨h5,h6⟩:=aR.1 h2;injection h6 with h6;injection h6 with h6 h7;subst h6;subst h7;refine⟨hcall.name _ _ _ _ hy h3,fun w m φ vs hi hr h0=>?_⟩;refine(hcall.calls g us [] _ _ hy h3 w (iW w) (fun _=>none) vs (inv0 w) (wP hi hr h1) (fun id h=>absurd rfl h)).mono ?_;rintro e w' ⟨v,m',φ',rfl,j1,j2,j3,j4⟩;have hsame:∀ f,f<w.heap.size→w'.heap[f]?=w.heap[f]?:=fun f hf=>j3.block f hf fun id b n e=>by cases e
  exact⟨v,m,φ,rfl,DZ (show mfC (.i iv)=true from h5) (by cases j1 with|i j=>exact .i j),hi.later j3.size hsame,⟨j3.size,j3.os,j3.tape,j3.output,fun b hb' _=>hsame b hb', .refl _,fun _ _ _ _=>rfl, .refl _,fun _ _ _ _ e ho=>.inr (fH.not e ho)⟩,h0⟩
 ·cases h2
def YR (st:Store):AV→Option IV
 | .nils=>some (.isl [])
 | v=>UL st v
def GZ (st:Store):List AV→Option (List IV)
 | []=>some []
 | c::r=>bnd (YR st c) fun v=>bnd (GZ st r) fun l=>some (v::l)
def ACQ (st:Store):AV→Option IV
 | .agg cs=>bnd (GZ st cs) fun l=>some (.agg l)
 | v=>YR st v
def GU (st:Store):List AV→Option (List AV)
 | []=>some []
 | c::r=>bnd (ACQ st c) fun v=>bnd (GU st r) fun l=>some (.i v::l)
theorem CE {w:World} {m:Mem} {φ:Pl} {st:Store} {c:AV} {x:Value} {iv:IV} (hi:Inv w m φ st) (hr:Rep m φ c x) (h:YR st c=some iv):IRep (iW w) iv x:=by
 unfold YR at h;split at h
 ·injection h with h;subst h
  cases hr with
  | nils=>exact .isl0 _ _ fun _=>rfl
 ·exact CB hi hr h
theorem wR {w:World} {m:Mem} {φ:Pl} {st:Store} (hi:Inv w m φ st):∀ {cs:List AV} {xs:List Value} {l:List IV},RepC m φ cs xs→GZ st cs=some l→ICells (iW w) l xs
 | [],_,l, .nil,h=>by simp[GZ]at h;subst h;exact .nil
 | c::cs,_,l, .cons a o b,h=>by
  simp only[GZ]at h;obtain⟨v,h1,h2⟩:=aG.1 h;obtain⟨l',h3,h4⟩:=aG.1 h2;injection h4 with h4;subst h4;exact .cons (CE hi a h1) o (wR hi b h3)
theorem PS {w:World} {m:Mem} {φ:Pl} {st:Store} {c:AV} {x:Value} {iv:IV} (hi:Inv w m φ st) (hr:Rep m φ c x) (h:ACQ st c=some iv):IRep (iW w) iv x:=by
 unfold ACQ at h;split at h
 ·obtain⟨l,h1,h2⟩:=aG.1 h;injection h2 with h2;subst h2
  cases hr with
  | agg hc=>exact .agg (wR hi hc h1)
 ·exact CE hi hr h
theorem wO {w:World} {m:Mem} {φ:Pl} {st:Store} (hi:Inv w m φ st):∀ {cs us:List AV} {xs:List Value},RepL m φ cs xs→GU st cs=some us→RepL (iW w) (fun _=>none) us xs
 | [],us,_, .nil,h=>by simp[GU]at h;subst h;exact .nil
 | c::cs,us,_, .cons a b,h=>by
  simp only[GU]at h;obtain⟨v,h1,h2⟩:=aG.1 h;obtain⟨l',h3,h4⟩:=aG.1 h2;injection h4 with h4;subst h4;exact .cons (.i (PS hi a h1)) (wO hi b h3)
def WE (call:dG) (g:FuncId) (args:List AV) (st:StL):Option (AV×StL) :=
 bnd (GU (aT st) args) fun us=>match call g us []with
  | some (.i v,[])=>tst (jR v) (some (.i v,st))
  | _=>none
theorem E8 {C:Ctx} {call:dG} (hcall:CallOk C call) {g:FuncId} {args:List AV} {stl stl':StL} {r:AV} (h:WE call g args stl=some (r,stl')) (hy:g≠uB:=by decide) :
 (∃ fn,C.P.funcs[g]?=some fn∧fn.name≠ "runtime.NumGoroutine"∧fn.body.isSome=true)∧∀ (w:World) (m:Mem) (φ:Pl) (vs:List Value),Inv w m φ (aT stl)→RepL m φ args vs→(∀ id,φ id≠none→id<stl.length) →
  Calls C.P g vs.toArray w (bK w m φ r stl'):=by
 unfold WE at h;obtain⟨us,h1,h2⟩:=aG.1 h;split at h2
 ·rename_i iv h3;obtain⟨h5,h6⟩:=aR.1 h2;injection h6 with h6;injection h6 with h6 h7;subst h6;subst h7;refine⟨hcall.name _ _ _ _ hy h3,fun w m φ vs hi hr h0=>?_⟩;refine(hcall.calls g us [] _ _ hy h3 w (iW w) (fun _=>none) vs (inv0 w) (wO hi hr h1) (fun id h=>absurd rfl h)).mono ?_;rintro e w' ⟨v,m',φ',rfl,j1,j2,j3,j4⟩;have hsame:∀ f,f<w.heap.size→w'.heap[f]?=w.heap[f]?:=fun f hf=>j3.block f hf fun id b n e=>by cases e
  exact⟨v,m,φ,rfl,DZ (show mfC (.i iv)=true from h5) (by cases j1 with|i j=>exact .i j),hi.later j3.size hsame,⟨j3.size,j3.os,j3.tape,j3.output,fun b hb' _=>hsame b hb', .refl _,fun _ _ _ _=>rfl, .refl _,fun _ _ _ _ e ho=>.inr (fH.not e ho)⟩,h0⟩
 ·cases h2
def jk:Nat→IV→AV
 | 0,_=>.junk
 | _+1,v=>.i v
@[simp] theorem AaR (v:IV):jk 0 v=.junk:=(rfl)
@[simp] theorem AaQ (i:Nat) (v:IV):jk (i+1) v=.i v:=(rfl)
@[simp] theorem APF (i:Nat) (v:IV):dC (jk i v)=[]:=by cases i<;>rfl
@[simp] theorem AS7 (r:Nat→Option Nat) (i:Nat) (v:IV):ren r (jk i v)=jk i v:=by cases i<;>rfl
section
variable {C:Ctx} {G:List Nat} {na:Nat} {b:Code}
end
section
variable {C:Ctx} {G:List Nat} {na:Nat} {b:Code}
theorem aW (X:Nat→AS) (n:Nat) {S0:AS} (h0:S0=X 0) (hs:∀ i,i<n→eY C G na b (X i)=some (.normal,X (i+1))):eY C G na (.loop b) S0=eY C G na (.loop b) (X n):=by
 subst h0
 have key:∀ k i,i+k=n→eY C G na (.loop b) (X i)=eY C G na (.loop b) (X n):=by
  intro k
  induction k with
  | zero=>intro i hi;have:i=n:=by omega
          subst this;rfl
  | succ k ih=>intro i hi;rw[aD,hs i (by omega)];exact ih (i+1) (by omega)
 exact key n 0 (by omega)
end
@[simp] theorem WP (st:Store):∀ l:List IV,mK st (kW l)=some (l,st)
  | []=>rfl
  | v::l=>by simp[kW,mK,pM,WP st l]
@[simp] theorem AKG {α:Type} (es:List α) (off len:Nat):window es off len=(es.drop off).take len:=(rfl)
@[simp] theorem ARX (n:Nat):Region.binds .any ⟨n, .data⟩=true:=(rfl)
@[simp] theorem ARY (n:Nat):Region.binds .any ⟨n, .chain⟩=true:=(rfl)
@[simp] theorem ARW (n:Nat):Region.binds .any ⟨n, .guard⟩=true:=(rfl)
@[simp] theorem ARV (n:Nat):Region.binds .any ⟨n, .phase⟩=true:=(rfl)
def gro (id k:Nat):Nat→AV
 | 0=>.nils
 | i+1=>.osl id k 0 (i+1)
def PQ (k:Nat) (es:List (List IV)):Nat→StL
 | 0=>[]
 | _+1=>[some (.arr k es)]
@[simp] theorem AUX (id k:Nat):gro id k 0=.nils:=(rfl)
@[simp] theorem AUW (id k i:Nat):gro id k (i+1)=.osl id k 0 (i+1):=(rfl)
@[simp] theorem ASI (k:Nat) (es:List (List IV)):PQ k es 0=[]:=(rfl)
@[simp] theorem ASH (k:Nat) (es:List (List IV)) (i:Nat):PQ k es (i+1)=[some (.arr k es)]:=(rfl)
theorem aQ {i:Nat} (h:i≠0) (id k:Nat):gro id k i=.osl id k 0 i:=by cases i with|zero=>exact absurd rfl h|succ i=>rfl
theorem aJ {i:Nat} (h:i≠0) (k:Nat) (es:List (List IV)):PQ k es i=[some (.arr k es)]:=by cases i with|zero=>exact absurd rfl h|succ i=>rfl
theorem eP {i:Nat} (h:i≠0) (v:IV):jk i v=.i v:=by cases i with|zero=>exact absurd rfl h|succ i=>rfl
@[simp] theorem QR:∀ l:List IV,(kW l).length=l.length
  | []=>rfl
  | _::l=>by simp[kW,QR l]
theorem lF:∀ {cs xs:List IV},cs.length=xs.length→splice cs 0 xs=some xs
 | [],[],_=>rfl
 | c::cs,x::xs,h=>by simp[splice,lF (cs:=cs) (xs:=xs) (by simpa using h)]
 | [],_::_,h=>by simp at h
 | _::_,[],h=>by simp at h
theorem oP {α:Type}:∀ (D:List α) (z:α) (r:List α),iP (D++z::r) D.length=some z
 | [],z,r=>rfl
 | a::D,z,r=>by simp only[yT,zS,iP];exact oP D z r
theorem AEL {α:Type} {D:List α} {n i:Nat} {z:α} (hD:D.length=i) (h:i<n):iP (D++List.replicate (n-i) z) i=some z:=by
 subst hD
 obtain⟨k,hk⟩:∃ k,n-D.length=k+1:=⟨n-D.length-1,by omega⟩
 rw[hk,xL];exact oP D z _
theorem AEK {α:Type} {D:List α} {n i:Nat} {z x:α} (hD:D.length=i) (h:i<n):(D++List.replicate (n-i) z).set i x=(D++[x])++List.replicate (n-(i+1)) z:=by
 subst hD
 obtain⟨k,hk⟩:∃ k,n-D.length=k+1:=⟨n-D.length-1,by omega⟩
 rw[hk,xL,List.set_append_right _ _ (zO _),Nat.sub_self,List.set_cons_zero,show n-(D.length+1)=k by omega];simp
theorem BD {α:Type} (p:α→Bool):∀ (l:List α),l.all p=true∨∃ (j:Nat) (a:α),l[j]?=some a∧p a=false∧(∀ (i:Nat) (b:α),i<j→l[i]?=some b→p b=true)∧l.all p=false
 | []=>.inl rfl
 | a::l=>by
  cases h:p a with
  | false=>exact .inr ⟨0,a,rfl,h,fun i b hi=>by omega,by simp[h]⟩
  | true =>
   rcases BD p l with h1|⟨j,x,h1,h2,h3,h4⟩
   ·exact .inl (by simp[h,h1])
   ·refine .inr ⟨j+1,x,by simpa using h1,h2,?_,by simp[h,h4]⟩;intro i b hi hb
    cases i with
    | zero=>simp at hb;subst hb;exact h
    | succ i=>exact h3 i b (by omega) (by simpa using hb)
theorem kD {α:Type} (p:α→Bool) (l:List α):∃ j:Nat,(∀ i,i<j→∃ k,l[i]?=some k∧k∈l∧p k=true)∧((j=l.length∧l.all p=true)∨∃ k,l[j]?=some k∧k∈l∧p k=false∧l.all p=false):=by
 rcases BD p l with h|⟨j,a,h1,h2,h3,h4⟩
 ·refine⟨l.length,?_, .inl ⟨rfl,h⟩⟩;intro i hi;have e:=zT hi;exact⟨_,e,zU e,zM.1 h _ (zU e)⟩
 ·refine⟨j,?_, .inr ⟨a,h1,zU h1,h2,h4⟩⟩;intro i hi;have hl:i<l.length:=by have:=(zX.1 h1).1;omega
  have e:=zT hl;exact⟨_,e,zU e,h3 i _ hi e⟩
@[simp] theorem BL (z:List IV):∀ n:Nat,fP (List.replicate n z)=(decide (n=0) || kX z)
  | 0=>by simp[fP]
  | n+1=>by simp only[xL,fP,BL z n];cases kX z<;>simp
noncomputable def mI (C:Ctx) (keep:Bool) (g:FuncId) (args:List AV) (st:StL):Option (AV×StL) :=
 match C.P.funcs[g]? with
 | none=>none
 | some fn =>
  match fn.body with
  | none=>none
  | some c=>AB2 C keep fn.results.toList st.length (eY C (C.G g) st.length c (enter (C.G g) args st))
theorem dH {C:Ctx} {keep:Bool} {f:FuncId} {fn:Func} {c:Code} {rs:List ResultVar} (hf:C.P.funcs[f]?=some fn) (hb:fn.body=some c) (hr:fn.results.toList=rs) (args:List AV) (st:StL) :
 mI C keep f args st=AB2 C keep rs st.length (eY C (C.G f) st.length c (enter (C.G f) args st)):=by
 subst hr;unfold mI;rw[hf];simp only[hb]
theorem iA {C:Ctx} (hS:SoundOk C) {keep:Bool} {g:FuncId} {args:List AV} {stl stl':StL} {r:AV} (h:mI C keep g args stl=some (r,stl')) :
 (∃ fn,C.P.funcs[g]?=some fn∧fn.name≠ "runtime.NumGoroutine"∧fn.body.isSome=true)∧∀ (w:World) (m:Mem) (φ:Pl) (vs:List Value),Inv w m φ (aT stl)→RepL m φ args vs→(∀ id,φ id≠none→id<stl.length) →
  Calls C.P g vs.toArray w (bK w m φ r stl'):=by
 unfold mI at h;split at h
 ·cases h
 rename_i fn hf;split at h
 ·cases h
 rename_i c hb;have hst:=(hS.fns g fn c hf hb).2;refine⟨⟨fn,hf,(hS.fns g fn c hf hb).1,by rw[hb];rfl⟩,fun w m φ vs hi hargs hid=>?_⟩;have ih:=aX hS
 have hrel:FV [] w m φ fn.ntmps stl.length (enter (C.G g) args stl) { tmps:=vs.toArray++Array.replicate (fn.ntmps-vs.toArray.size) undef,defers:=[] } w:=by
  refine⟨⟨⟨m,φ,hi,?_, .refl _ _ _,hid, .nil _ _ _⟩,by simp;omega,rfl⟩,zO _⟩;intro t;unfold enter;simp only;generalize C.G g=G
  induction G with
  | nil=>exact .junk _
  | cons u G ihG =>
   simp only[J6,aY];by_cases e:t=u
   ·subst e;simp only[if_true];exact qJ _ hargs t
   ·simp only[e,if_false];exact ihG
 refine callsIn_wide.1 (callsIn_of_wp_marks (n:=0) hf hb trivial ?_)
 have done:∀ S e,eY C (C.G g) stl.length c (enter (C.G g) args stl)=some (e,S)→finish C keep fn.results.toList stl.length S=some (r,stl')→(e=.normal∨e=.ret) →
  c.wpIn Fence.wide 0 C.P (bodyPostM Fence.wide 0 C.P fn (bK w m φ r stl')) { tmps:=vs.toArray++Array.replicate (fn.ntmps-vs.toArray.size) undef,defers:=[] } w:=by
  intro S e hS' hfin he;obtain⟨n,hS'⟩:=(dM _).1 hS';refine wpIn_mono (bY (ρ:=none) hS.ctx ih (hS.draw _ ih) hid n c _ S e [] _ w hst (.inl rfl) hS' hrel) ?_;rintro e' a' w' ⟨rfl,ds,k,_⟩
  have hl:LeavesInM Fence.wide 0 C.P fn a'.tmps (bK w m φ r stl') a'.defers .returning w':=by
   rw[k.1.defers];refine tJ k fun a2 w2 _ k2=>?_
   obtain⟨v,k3,k4⟩:=kQ (C:=C) hid k2 hfin;exact⟨v,k3,k4⟩
  rcases he with rfl|rfl
  ·exact hl
  ·exact hl
 unfold AB2 at h;split at h
 ·rename_i S hS';exact done S .normal hS' h (.inl rfl)
 ·rename_i S hS';exact done S .ret hS' h (.inr rfl)
 ·cases h
 ·cases h
inductive Pn where
 | mk (kind table:Int) (exprs:List Ex) (cols:List Int) (kids:List Pn)
def Pn.kind:Pn→Int | .mk k _ _ _ _=>k
def Pn.table:Pn→Int | .mk _ t _ _ _=>t
def Pn.exprs:Pn→List Ex | .mk _ _ es _ _=>es
def Pn.cols:Pn→List Int | .mk _ _ _ cs _=>cs
def Pn.kids:Pn→List Pn | .mk _ _ _ _ ks=>ks
@[simp] theorem Pn.eO (k t es cs ks):(Pn.mk k t es cs ks).kind=k:=rfl
@[simp] theorem Pn.iR (k t es cs ks):(Pn.mk k t es cs ks).table=t:=rfl
@[simp] theorem Pn.bZ (k t es cs ks):(Pn.mk k t es cs ks).exprs=es:=rfl
@[simp] theorem Pn.eT (k t es cs ks):(Pn.mk k t es cs ks).cols=cs:=rfl
@[simp] theorem Pn.gW (k t es cs ks):(Pn.mk k t es cs ks).kids=ks:=rfl
theorem Pn.eta (p:Pn):Pn.mk p.kind p.table p.exprs p.cols p.kids=p:=by cases p;rfl
def aI:List Int→List (List IV)
 | []=>[]
 | x::l=>[.int x]::aI l
@[simp] theorem AL:∀ l:List Int,(aI l).length=l.length
  | []=>rfl
  | _::l=>by simp[aI,AL l]
theorem dL:∀ {l:List Int} {i:Nat} {x:Int},l[i]?=some x→iP (aI l) i=some [.int x]
 | [],_,_,h=>by simp at h
 | a::l,0,x,h=>by simp at h;subst h;simp[aI,iP]
 | a::l,i+1,x,h=>by simp only[aI,iP];exact dL (by simpa using h)
@[simp] theorem O7:∀ l:List Int,gQ 1 (aI l)=true
  | []=>by simp[aI,gQ]
  | _::l=>by have:=O7 l;simp only[gQ]at this;simp[aI,gQ,this]
theorem AO (a b:List Int):aI (a++b)=aI a++aI b:=by
 induction a with
 | nil=>rfl
 | cons x a ih=>simp[aI,ih]
@[simp] theorem WM:∀ (n:Nat) (l:List Int),(aI l).take n=aI (l.take n)
  | 0,l=>by simp[aI]
  | n+1,[]=>by simp[aI]
  | n+1,x::l=>by simp[aI,WM n l]
theorem IR (l:List Int) (x:Int):aI (l++[x])=aI l++[[.int x]]:=by rw[AO];rfl
mutual
def Pn.cells:Pn→List IV
 | .mk k t es cs ks=>[.int k, .int t, .isl (Ex.aA es), .isl (aI cs), .isl (Pn.aA ks)]
def Pn.aA:List Pn→List (List IV)
 | []=>[]
 | p::ps=>p.cells::Pn.aA ps
end
theorem Pn.ind {P:Pn→Prop} (h:∀ k t es cs ks,(∀ p∈ks,P p)→P (.mk k t es cs ks)):(p:Pn)→P p
 | .mk k t es cs ks=>h k t es cs ks fun p hp=>Pn.ind h p
termination_by p=>SizeOf.sizeOf p
decreasing_by
 have:=List.sizeOf_lt_of_mem hp;simp;omega
theorem Pn.aB (p:Pn):p.cells=[.int p.kind, .int p.table, .isl (Ex.aA p.exprs), .isl (aI p.cols), .isl (Pn.aA p.kids)]:=by
 cases p;simp[Pn.cells,Pn.kind,Pn.table,Pn.exprs,Pn.cols,Pn.kids]
theorem Pn.bD (k t:Int) (es:List Ex) (cs:List Int) (ks:List Pn):(Pn.mk k t es cs ks).cells=[.int k, .int t, .isl (Ex.aA es), .isl (aI cs), .isl (Pn.aA ks)]:=by simp[Pn.cells]
@[simp] theorem Pn.aV:∀ (l:List Pn),(Pn.aA l).length=l.length
  | []=>by simp[Pn.aA]
  | _::l=>by simp[Pn.aA,Pn.aV l]
theorem Pn.aS:∀ {l:List Pn} {i:Nat} {p:Pn},l[i]?=some p→iP (Pn.aA l) i=some p.cells
 | [],_,_,h=>by simp at h
 | a::l,0,p,h=>by simp at h;subst h;simp[Pn.aA,iP]
 | a::l,i+1,p,h=>by simp only[Pn.aA,iP];exact Pn.aS (by simpa using h)
@[simp] theorem Pn.dB (p:Pn):p.cells.length=5:=by rw[Pn.aB];rfl
@[simp] theorem Pn.oZ:∀ (l:List Pn),gQ 5 (Pn.aA l)=true
  | []=>by simp[Pn.aA,gQ]
  | p::l=>by
   have:=Pn.oZ l;simp only[gQ]at this;simp[Pn.aA,gQ,Pn.dB,this]
theorem Pn.fC (a b:List Pn):Pn.aA (a++b)=Pn.aA a++Pn.aA b:=by
 induction a with
 | nil=>simp[Pn.aA]
 | cons e a ih=>simp[Pn.aA,ih]
@[simp] theorem Pn.tZ:∀ (n:Nat) (l:List Pn),(Pn.aA l).take n=Pn.aA (l.take n)
  | 0,l=>by simp[Pn.aA]
  | n+1,[]=>by simp[Pn.aA]
  | n+1,p::l=>by simp[Pn.aA,Pn.tZ n l]
theorem Pn.bB (l:List Pn) (p:Pn):Pn.aA (l++[p])=Pn.aA l++[p.cells]:=by
 rw[Pn.fC];simp[Pn.aA]
mutual
def Pn.size:Pn→Nat
 | .mk _ _ _ _ ks=>1+Pn.bV ks
def Pn.bV:List Pn→Nat
 | []=>0
 | p::ps=>p.size+Pn.bV ps
end
theorem Pn.size_eq (p:Pn):p.size=1+Pn.bV p.kids:=by cases p;simp[Pn.size,Pn.kids]
theorem Pn.qX (p:Pn):1≤p.size:=by rw[Pn.size_eq];omega
theorem Pn.gU:∀ (l:List Pn),l.length≤Pn.bV l
 | []=>by simp[Pn.bV]
 | e::es=>by have:=Pn.gU es;have:=Pn.qX e;simp[Pn.bV];omega
theorem Pn.mP:∀ (l m:List Pn),Pn.bV (l++m)=Pn.bV l+Pn.bV m
 | [],m=>by simp[Pn.bV]
 | a::l,m=>by simp[Pn.bV,Pn.mP l m];omega
mutual
def Pn.thin:Pn→Prop
 | .mk _ _ es cs ks=>es.length<1000000000∧(∀ e∈es,e.thin)∧cs.length<1000000000∧ks.length<1000000000∧Pn.iD ks
def Pn.iD:List Pn→Prop
 | []=>True
 | p::ps=>p.thin∧Pn.iD ps
end
theorem Pn.pU:∀ (l:List Pn),Pn.iD l↔∀ p∈l,p.thin
 | []=>by simp[Pn.iD]
 | p::l=>by simp[Pn.iD,Pn.pU l]
theorem Pn.dY (p:Pn):p.thin↔p.exprs.length<1000000000∧(∀ e∈p.exprs,e.thin)∧p.cols.length<1000000000∧p.kids.length<1000000000∧∀ a∈p.kids,a.thin:=by
 cases p;simp[Pn.thin,Pn.pU]
def Pn.zero:Pn:=.mk 0 0 [] [] []
def Pn.scan (t:Int):Pn:=.mk 1 t [] [] []
def eX (k:Int):Int:=if k=1 then 0 else if k=2∨k=3∨k=7∨k=8 then 1 else if k=4∨k=5∨k=6 then 2 else -1
def bU (k:Int):Int:=if k=2∨k=3∨k=4∨k=5 then 1 else 0
def Pn.headOk (p:Pn):Bool:=decide ((p.kids.length:Int)=eX p.kind) && (decide ((p.exprs.length:Int)=if p.kind=3∧cK p.exprs.length=true then(p.exprs.length:Int)else bU p.kind) && ((decide (p.kind=1) || decide (p.table=0)) && (decide (p.kind=8) || decide (p.cols=[]))))
def nV (w:Int) (cs:List Int):Bool:=(cs.zip (-1::cs)).all fun x=>decide (x.2<x.1∧x.1<w)
def bR (k:Int) (es:List Ex) (cs:List Int) (a b:Int):Int :=
 if k=4∨k=5 then(if a+b≤6∧es.all (Ex.ok (a+b))=true then a+b else 0)
 else if k=6 then(if a=b then a else 0)
 else if k=8 then(if cs.length<6∧nV a cs=true then(cs.length:Int)+1 else 0)
 else if k=3 then(if es.all (Ex.ok a)=true then(es.length:Int)else 0)
 else(if es.all (Ex.ok a)=true then a else 0)
mutual
def Pn.wd (ws:List Int):Nat→Pn→Int
 | lv, .mk k t es cs ks=>if Pn.headOk (.mk k t es cs ks)=true∧(ks=[]∨lv≠0)then(if k=1 then(if 0≤t then(ws[t.toNat]?).getD 0 else 0)else if(Pn.wdL ws (lv-1) ks).all (fun x=>decide (x≠0))=true then bR k es cs ((Pn.wdL ws (lv-1) ks)[0]?.getD 0) ((Pn.wdL ws (lv-1) ks)[1]?.getD 0)else 0)else 0
def Pn.wdL (ws:List Int):Nat→List Pn→List Int
 | _,[]=>[]
 | lv,p::ps=>Pn.wd ws lv p::Pn.wdL ws lv ps
end
theorem Pn.YQ (ws:List Int) (lv:Nat):∀ l:List Pn,Pn.wdL ws lv l=l.map (Pn.wd ws lv)
 | []=>by simp[Pn.wdL]
 | p::l=>by simp[Pn.wdL,Pn.YQ ws lv l]
theorem Pn.sI (ws:List Int) (lv:Nat) (p:Pn):p.wd ws lv=if p.headOk=true∧(p.kids=[]∨lv≠0)then(if p.kind=1 then(if 0≤p.table then(ws[p.table.toNat]?).getD 0 else 0)else if p.kids.all (fun x=>decide (x.wd ws (lv-1)≠0))=true then bR p.kind p.exprs p.cols ((p.kids[0]?.map (Pn.wd ws (lv-1))).getD 0) ((p.kids[1]?.map (Pn.wd ws (lv-1))).getD 0)else 0)else 0:=by
 obtain⟨k,t,es,cs,ks⟩:=p;simp only[Pn.wd,Pn.YQ,List.all_map,zA8,Pn.gW,Pn.eO,Pn.iR,Pn.bZ,Pn.eT];rfl
def LK (ws:List Int):Bool:=decide (1≤ws.length∧ws.length≤4) && ws.all cK
def Pn.width (p:Pn) (ws:List Int):Int:=if LK ws=true then p.wd ws 8 else 0
theorem LX {k:Int} {es:List Ex} {cs:List Int} {a b:Int} (ha:0≤a∧a≤6) (hb:0≤b∧b≤6) (he:k=3→es.length≤6):0≤bR k es cs a b∧bR k es cs a b≤6:=by
 unfold bR;split
 ·split<;>omega
 ·split
  ·split<;>omega
  ·split
   ·split<;>omega
   ·split
    ·have:=he (by assumption);split<;>omega
    ·split<;>omega
theorem Pn.kP {p:Pn} (h:p.headOk=true):p.exprs.length≤6:=by
 unfold Pn.headOk at h;simp only[zW,zN]at h;have h2:=h.2.1;split at h2
 ·rename_i hc;have:=hc.2;simp[cK]at this;omega
 ·unfold bU at h2;split at h2<;>omega
theorem Pn.tO {p:Pn} (h:p.headOk=true):p.kids.length≤2:=by
 unfold Pn.headOk at h;simp only[zW,zN]at h;have h2:=h.1;unfold eX at h2;split at h2
 ·omega
 ·split at h2
  ·omega
  ·split at h2<;>omega
theorem AIM {p:Prop} [Decidable p] {a b:Int} (ha:0≤a∧a≤6) (hb:0≤b∧b≤6):0≤(if p then a else b)∧(if p then a else b)≤6:=by split<;>assumption
theorem Pn.kY {ws:List Int} (hw:∀ w∈ws,0≤w∧w≤6):∀ (p:Pn) (lv:Nat),0≤p.wd ws lv∧p.wd ws lv≤6:=by
 intro p
 induction p using Pn.ind with
 | h k t es cs ks ih =>
  intro lv;rw[Pn.sI];split
  ·rename_i hc;have he:=Pn.kP hc.1;simp only[Pn.gW,Pn.eO,Pn.iR,Pn.bZ,Pn.eT]at he ⊢;by_cases h1:k=1
   ·simp only[h1,if_true];by_cases h2:0≤t
    ·simp only[h2,if_true]
     cases hx:ws[t.toNat]? with
     | none=>simp
     | some x=>simpa using hw x (zU hx)
    ·simp only[h2,if_false];omega
   ·simp only[h1,if_false]
    have hk:∀ i:Nat,0≤(ks[i]?.map (Pn.wd ws (lv-1))).getD 0∧(ks[i]?.map (Pn.wd ws (lv-1))).getD 0≤6:=by
     intro i
     cases hx:ks[i]? with
     | none=>simp
     | some x=>simpa using ih x (zU hx) (lv-1)
    exact AIM (LX (hk 0) (hk 1) fun _=>he) (by omega)
  ·omega
theorem Pn.AH3 {ws:List Int} {lv:Nat} {p:Pn} (h:¬ (p.headOk=true∧(p.kids=[]∨lv≠0))):p.wd ws lv=0:=by
 rw[Pn.sI,if_neg h]
theorem DX (k:Int):eX k=-1∨(eX k=0∧k=1)∨(eX k=1∧(k=2∨k=3∨k=7∨k=8))∨(eX k=2∧(k=4∨k=5∨k=6)):=by
 unfold eX;split
 ·simp[*]
 ·split
  ·simp[*]
  ·split
   ·simp[*]
   ·simp
mutual
def Pn.lim:Pn→Prop
 | .mk _ _ es cs ks=>es.length<9223372036854775808∧cs.length<9223372036854775808∧ks.length<9223372036854775808∧Pn.ANA ks
def Pn.ANA:List Pn→Prop
 | []=>True
 | p::ps=>p.lim∧Pn.ANA ps
end
theorem Pn.TJ:∀ (l:List Pn),Pn.ANA l↔∀ p∈l,p.lim
 | []=>by simp[Pn.ANA]
 | p::l=>by simp[Pn.ANA,Pn.TJ l]
theorem Pn.EC (p:Pn):p.lim↔p.exprs.length<9223372036854775808∧p.cols.length<9223372036854775808∧p.kids.length<9223372036854775808∧∀ a∈p.kids,a.lim:=by
 cases p;simp[Pn.lim,Pn.TJ]
theorem Pn.JR:∀ (p:Pn),p.thin→p.lim:=by
 intro p
 induction p using Pn.ind with
 | h k t es cs ks ih =>
  intro h;have h:=(Pn.dY _).1 h;simp only[Pn.bZ,Pn.eT,Pn.gW]at h;exact(Pn.EC _).2 ⟨by simp;omega,by simp;omega,by simp;omega,fun a ha=>ih a ha (h.2.2.2.2 a ha)⟩
theorem Pn.CZ (t:Int):(Pn.scan t).thin:=by simp[Pn.scan,Pn.thin,Pn.iD]
mutual
def Pn.tiny:Pn→Prop
 | .mk _ _ es _ ks=>(∀ e∈es,e.size<1000000000)∧Pn.UN ks
def Pn.UN:List Pn→Prop
 | []=>True
 | p::ps=>p.tiny∧Pn.UN ps
end
theorem Pn.M9:∀ (l:List Pn),Pn.UN l↔∀ p∈l,p.tiny
 | []=>by simp[Pn.UN]
 | p::l=>by simp[Pn.UN,Pn.M9 l]
theorem Pn.JP (p:Pn):p.tiny↔(∀ e∈p.exprs,e.size<1000000000)∧∀ a∈p.kids,a.tiny:=by
 cases p;simp[Pn.tiny,Pn.M9]
theorem LZ {k:Int} {es:List Ex} {cs:List Int} {a b:Int} (h:bR k es cs a b≠0) (h6:k=6→es=[]) (h8:k=8→es=[]):∀ e∈es,e.size<1000:=by
 unfold bR at h;intro e he;have fin:∀ w:Int,es.all (Ex.ok w)=true→e.size<1000:=fun w hw=>Ex.AIB (zM.1 hw e he)
 split at h
 ·split at h
  ·rename_i hc;exact fin _ hc.2
  ·exact absurd rfl h
 ·split at h
  ·rename_i hk;rw[h6 hk]at he;cases he
  ·split at h
   ·rename_i hk;rw[h8 hk]at he;cases he
   ·split at h
    ·split at h
     ·rename_i hc;exact fin _ hc
     ·exact absurd rfl h
    ·split at h
     ·rename_i hc;exact fin _ hc
     ·exact absurd rfl h
theorem uT {p:Prop} [Decidable p] {a:Int} (h:(if p then a else 0)≠0):p∧a≠0:=by
 by_cases hp:p
 ·rw[if_pos hp]at h;exact⟨hp,h⟩
 ·rw[if_neg hp]at h;exact absurd rfl h
theorem Pn.tN {p:Pn} (h:p.headOk=true) (hk:p.kind=1∨p.kind=6∨p.kind=7∨p.kind=8):p.exprs=[]:=by
 unfold Pn.headOk at h;simp only[zW,zN]at h;have h2:=h.2.1;have hn:bU p.kind=0:=by unfold bU;rcases hk with e|e|e|e<;>simp[e]
 split at h2
 ·rename_i hc;rcases hk with e|e|e|e<;>(rw[e]at hc;exact absurd hc.1 (by decide))
 ·rw[hn]at h2;exact zZ.1 (by omega)
theorem Pn.QT {p:Pn} (h:p.headOk=true) (hk:p.kind=1):p.kids=[]:=by
 unfold Pn.headOk at h;simp only[zW,zN]at h;have h2:=h.1;rw[hk]at h2;simp[eX]at h2;exact h2
theorem Pn.ZH:∀ (l:List Pn) (c:Nat),l.length≤2→(∀ p∈l,p.size≤c)→Pn.bV l≤2*c
 | [],c,_,_=>by simp[Pn.bV]
 | [a],c,_,h=>by have:=h a (by simp);simp[Pn.bV];omega
 | [a,b],c,_,h=>by have:=h a (by simp);have:=h b (by simp);simp[Pn.bV];omega
 | _::_::_::_,_,h,_=>by simp at h
theorem Pn.ALO {ws:List Int}:∀ (p:Pn) (lv:Nat),p.wd ws lv≠0→p.tiny∧p.size+1≤2 ^ (lv+1):=by
 intro p
 induction p using Pn.ind with
 | h k t es cs ks ih =>
  intro lv h;rw[Pn.sI]at h;split at h
  ·rename_i hc;obtain⟨hh,hlv⟩:=hc;have hkl:=Pn.tO hh;simp only[Pn.gW,Pn.eO,Pn.iR,Pn.bZ,Pn.eT]at h hlv hkl;by_cases h1:k=1
   ·have e1:es=[]:=Pn.tN hh (.inl h1);have e2:ks=[]:=Pn.QT hh h1;subst e1;subst e2;refine⟨by simp[Pn.tiny,Pn.UN],?_⟩;have:1≤2 ^ lv:=xU;simp[Pn.size,Pn.bV,x9];omega
   ·simp only[h1,if_false]at h;obtain⟨hall,h⟩:=uT h
    ·rw[zM]at hall;have hes:∀ e∈es,e.size<1000:=LZ h (fun e=>Pn.tN hh (.inr (.inl e))) (fun e=>Pn.tN hh (.inr (.inr (.inr e))));by_cases hkn:ks=[]
     ·subst hkn;refine⟨(Pn.JP _).2 ⟨fun e he=>by have:=hes e he;omega,by simp⟩,?_⟩;have:1≤2 ^ lv:=xU;simp[Pn.size,Pn.bV,x9];omega
     ·have hl0:lv≠0:=by rcases hlv with e|e;exact absurd e hkn;exact e
      have hk:∀ a∈ks,a.tiny∧a.size+1≤2 ^ (lv-1+1):=fun a ha=>ih a ha (lv-1) (by simpa using hall a ha)
      refine⟨(Pn.JP _).2 ⟨fun e he=>by have:=hes e he;omega,fun a ha=>(hk a ha).1⟩,?_⟩;rw[show lv-1+1=lv by omega]at hk;have hp:1≤2 ^ lv:=xU;have:=Pn.ZH ks (2 ^ lv-1) hkl fun a ha=>by have:=(hk a ha).2;omega
      simp only[Pn.size,x9];omega
  ·exact absurd rfl h
theorem Pn.LW {p:Pn} {ws:List Int} (h:p.width ws≠0):p.tiny∧p.size<512:=by
 unfold Pn.width at h;split at h
 ·have:=Pn.ALO p 8 h;exact⟨this.1,by have:=this.2;simp at this;omega⟩
 ·exact absurd rfl h
def Pn.hit (t:Int) (p:Pn):Bool:=decide (p.kind=1) && decide (p.table=t)
def filt (e:Ex) (k:Pn):Pn:=.mk 2 0 [e] [] [k]
def proj (es:List Ex) (k:Pn):Pn:=.mk 3 0 es [] [k]
def AA6 (kd:Int) (e:Ex) (a b:Pn):Pn:=.mk kd 0 [e] [] [a,b]
def M5 (a b:Pn):Pn:=.mk 6 0 [] [] [a,b]
theorem ALN {ws:List Int} {p:Pn} {lv:Nat} (h:p.wd ws lv≠0) (hk:p.kids≠[]):∃ m,lv=m+1:=by
 cases lv with
 | succ m=>exact⟨m,rfl⟩
 | zero =>
  rw[Pn.sI]at h;by_cases hc:p.headOk=true∧(p.kids=[]∨0≠0)
  ·rcases hc.2 with e|e
   ·exact absurd e hk
   ·exact absurd rfl e
  ·rw[if_neg hc]at h;exact absurd rfl h
theorem RZ {ws:List Int} {k:Int} {es:List Ex} {cs:List Int} {a:Pn} {lv:Nat} (h1:k=2∨k=3∨k=7∨k=8):(Pn.mk k 0 es cs [a]).wd ws (lv+1)=if(Pn.mk k 0 es cs [a]).headOk=true∧a.wd ws lv≠0 then bR k es cs (a.wd ws lv) 0 else 0:=by
 rw[Pn.sI];have hk:k≠1:=by omega
 simp only[Pn.gW,Pn.eO,Pn.iR,Pn.bZ,Pn.eT,hk,if_false];by_cases ho:(Pn.mk k 0 es cs [a]).headOk=true
 ·by_cases hw:a.wd ws lv=0
  ·simp[ho,hw]
  ·simp[ho,hw]
 ·simp[ho]
theorem AFI {ws:List Int} {k:Int} {es:List Ex} {cs:List Int} {a b:Pn} {lv:Nat} (h1:k=4∨k=5∨k=6):(Pn.mk k 0 es cs [a,b]).wd ws (lv+1)=if(Pn.mk k 0 es cs [a,b]).headOk=true∧a.wd ws lv≠0∧b.wd ws lv≠0 then bR k es cs (a.wd ws lv) (b.wd ws lv)else 0:=by
 rw[Pn.sI];have hk:k≠1:=by omega
 simp only[Pn.gW,Pn.eO,Pn.iR,Pn.bZ,Pn.eT,hk,if_false];by_cases ho:(Pn.mk k 0 es cs [a,b]).headOk=true
 ·by_cases hw:a.wd ws lv=0
  ·simp[ho,hw]
  ·by_cases hw2:b.wd ws lv=0
   ·simp[ho,hw,hw2]
   ·simp[ho,hw,hw2]
 ·simp[ho]
theorem AH4 {ws:List Int} {e:Ex} {a:Pn} {lv:Nat}:(filt e a).wd ws (lv+1)=if a.wd ws lv≠0∧e.ok (a.wd ws lv)=true then a.wd ws lv else 0:=by
 unfold filt;rw[RZ (by omega)];have ho:(Pn.mk 2 0 [e] [] [a]).headOk=true:=by simp[Pn.headOk,eX,bU]
 by_cases h:a.wd ws lv=0
 ·simp[h]
 ·simp[ho,h,bR]
theorem AH1 {ws:List Int} {es:List Ex} {a:Pn} {lv:Nat}:(proj es a).wd ws (lv+1)=if a.wd ws lv≠0∧cK es.length=true∧es.all (Ex.ok (a.wd ws lv))=true then(es.length:Int)else 0:=by
 unfold proj;rw[RZ (by omega)]
 have ho:(Pn.mk 3 0 es [] [a]).headOk=cK es.length:=by
  cases h:cK es.length with
  | true=>simp[Pn.headOk,eX,bU,h]
  | false =>
   have:(es.length:Int)≠1:=by intro e;rw[e]at h;simp[cK]at h
   simp[Pn.headOk,eX,bU,h,this]
 by_cases h:a.wd ws lv=0
 ·simp[h]
 ·by_cases h2:cK es.length=true
  ·simp[ho,h,h2,bR]
  ·simp[ho,h,h2]
theorem AH2 {ws:List Int} {k:Int} {e:Ex} {a b:Pn} {lv:Nat} (hk:k=4∨k=5):(AA6 k e a b).wd ws (lv+1)=if a.wd ws lv≠0∧b.wd ws lv≠0∧a.wd ws lv+b.wd ws lv≤6∧e.ok (a.wd ws lv+b.wd ws lv)=true then a.wd ws lv+b.wd ws lv else 0:=by
 unfold AA6;rw[AFI (by omega)];have ho:(Pn.mk k 0 [e] [] [a,b]).headOk=true:=by rcases hk with rfl|rfl<;>simp[Pn.headOk,eX,bU]
 by_cases h:a.wd ws lv=0
 ·simp[h]
 ·by_cases h2:b.wd ws lv=0
  ·simp[h2]
  ·simp[ho,h,h2,bR,hk]
theorem ACO {ws:List Int} {a b:Pn} {lv:Nat}:(M5 a b).wd ws (lv+1)=if a.wd ws lv≠0∧a.wd ws lv=b.wd ws lv then a.wd ws lv else 0:=by
 unfold M5;rw[AFI (by omega)];have ho:(Pn.mk 6 0 [] [] [a,b]).headOk=true:=by simp[Pn.headOk,eX,bU]
 by_cases h:a.wd ws lv=0
 ·simp[h]
 ·by_cases h2:a.wd ws lv=b.wd ws lv
  ·simp[ho,bR,h2,show b.wd ws lv≠0 by rw[← h2];exact h]
  ·simp[ho,h,h2,bR]
inductive Shape (ws:List Int) (lv:Nat):Pn→Prop
 | scan (t:Int) (W:Int) (h0:0≤t) (h:ws[t.toNat]?=some W) (hW:W≠0):Shape ws lv (.scan t)
 | filt (m:Nat) (e:Ex) (a:Pn) (h:lv=m+1) (ha:a.wd ws m≠0) (he:e.ok (a.wd ws m)=true):Shape ws lv (filt e a)
 | proj (m:Nat) (es:List Ex) (a:Pn) (h:lv=m+1) (ha:a.wd ws m≠0) (hl:cK es.length=true) (he:∀ e∈es,e.ok (a.wd ws m)=true):Shape ws lv (proj es a)
 | pair (m:Nat) (k:Int) (e:Ex) (a b:Pn) (h:lv=m+1) (hk:k=4∨k=5) (ha:a.wd ws m≠0) (hb:b.wd ws m≠0) (hl:a.wd ws m+b.wd ws m≤6) (he:e.ok (a.wd ws m+b.wd ws m)=true):Shape ws lv (AA6 k e a b)
 | union (m:Nat) (a b:Pn) (h:lv=m+1) (ha:a.wd ws m≠0) (hb:b.wd ws m=a.wd ws m):Shape ws lv (M5 a b)
 | dist (m:Nat) (a:Pn) (h:lv=m+1) (ha:a.wd ws m≠0):Shape ws lv (.mk 7 0 [] [] [a])
 | group (m:Nat) (cs:List Int) (a:Pn) (h:lv=m+1) (ha:a.wd ws m≠0) (hc:cs.length<6) (ho:nV (a.wd ws m) cs=true):Shape ws lv (.mk 8 0 [] cs [a])
theorem KI {α:Type} {l:List α} (h:l.length=1):∃ a,l=[a]:=by
 match l,h with
 | [a],_=>exact⟨a,rfl⟩
theorem AEE {α:Type} {l:List α} (h:l.length=2):∃ a b,l=[a,b]:=by
 match l,h with
 | [a,b],_=>exact⟨a,b,rfl⟩
theorem ACP {ws:List Int} {lv:Nat} {p:Pn} (h:p.wd ws lv≠0):Shape ws lv p:=by
 have h0:=h;rw[Pn.sI]at h;by_cases hc:p.headOk=true∧(p.kids=[]∨lv≠0)
 case neg=>rw[if_neg hc]at h;exact absurd rfl h
 rw[if_pos hc]at h;have hh:=hc.1;obtain⟨k,t,es,cs,ks⟩:=p;unfold Pn.headOk at hh;simp only[zW,yB,zN]at hh;simp only[Pn.gW,Pn.eO,Pn.iR,Pn.bZ,Pn.eT]at hh h;obtain⟨g1,g2,g3,g4⟩:=hh
 rcases DX k with e|⟨e,hk⟩|⟨e,hk⟩|⟨e,hk⟩
 ·omega
 ·subst hk;rw[e]at g1;have hks:ks=[]:=zZ.1 (by omega);simp[bU]at g2;subst g2;subst hks;have hcs:cs=[]:=by rcases g4 with g|g;omega;exact g
  subst hcs;simp only[if_true]at h;obtain⟨ht,h⟩:=uT h
  cases hw:ws[t.toNat]? with
  | none=>rw[hw]at h;exact absurd rfl h
  | some W=>rw[hw]at h;exact .scan t W ht hw h
 ·obtain⟨a,rfl⟩:=KI (show ks.length=1 by omega);obtain⟨m,rfl⟩:=ALN h0 (by simp);have ht:t=0:=by rcases g3 with g|g;omega;exact g
  subst ht
  rcases hk with rfl|rfl|rfl|rfl
  ·have hcs:cs=[]:=by rcases g4 with g|g;omega;exact g
   subst hcs;simp[bU]at g2;obtain⟨x,rfl⟩:=KI (show es.length=1 by omega);have hf:=AH4 (ws:=ws) (e:=x) (a:=a) (lv:=m);unfold filt at hf;rw[hf]at h0;obtain⟨⟨ha,he⟩,-⟩:=uT h0;exact .filt m x a rfl ha he
  ·have hcs:cs=[]:=by rcases g4 with g|g;omega;exact g
   subst hcs;have hf:=AH1 (ws:=ws) (es:=es) (a:=a) (lv:=m);unfold proj at hf;rw[hf]at h0;obtain⟨⟨ha,he,hx⟩,-⟩:=uT h0;exact .proj m es a rfl ha he (zM.1 hx)
  ·have hcs:cs=[]:=by rcases g4 with g|g;omega;exact g
   subst hcs;simp[bU]at g2;subst g2;rw[RZ (by omega)]at h0;exact .dist m a rfl (uT h0).1.2
  ·simp[bU]at g2;subst g2;rw[RZ (by omega)]at h0;obtain⟨⟨_,ha⟩,h0⟩:=uT h0;unfold bR at h0;simp only[show ¬ ((8:Int)=4∨(8:Int)=5)by omega,show ¬ (8:Int)=6 by omega,if_false,if_true]at h0;obtain⟨⟨h1,h2⟩,-⟩:=uT h0;exact .group m cs a rfl ha h1 h2
 ·obtain⟨a,b,rfl⟩:=AEE (show ks.length=2 by omega);obtain⟨m,rfl⟩:=ALN h0 (by simp);have ht:t=0:=by rcases g3 with g|g;omega;exact g
  subst ht;have hcs:cs=[]:=by rcases g4 with g|g;omega;exact g
  subst hcs;by_cases h6:k=6
  ·subst h6;simp[bU]at g2;subst g2;have hf:=ACO (ws:=ws) (a:=a) (b:=b) (lv:=m);unfold M5 at hf;rw[hf]at h0;obtain⟨⟨ha,hb⟩,-⟩:=uT h0;exact .union m a b rfl ha hb.symm
  ·have hk2:k=4∨k=5:=by omega
   have hx:es.length=1:=by
    rcases hk2 with rfl|rfl<;>simp[bU]at g2<;>omega
   obtain⟨x,rfl⟩:=KI hx;have hf:=AH2 (ws:=ws) (e:=x) (a:=a) (b:=b) (lv:=m) hk2;unfold AA6 at hf;rw[hf]at h0;obtain⟨⟨ha,hb,hc,he⟩,-⟩:=uT h0;exact .pair m k x a b rfl hk2 ha hb hc he
def Val.tr (v:Val):Int:=if v.null=true then 1 else if v.n=0 then 0 else 2
def trV (t:Int):Val:=if t=1 then⟨true,0⟩else⟨false,if t=2 then 1 else 0⟩
def AQJ (n:Int):Val:=if -9999≤n∧n≤9999 then⟨false,n⟩else⟨true,0⟩
def AJ9 (b:Bool):Val:=⟨false,if b=true then 1 else 0⟩
def Val.cmb (k:Int) (a b:Val):Val :=
 if k=8 then trV (if b.tr<a.tr then b.tr else a.tr)else if k=9 then trV (if b.tr > a.tr then b.tr else a.tr)else
 if a.null=true∨b.null=true then⟨true,0⟩else if k=3 then AQJ (a.n+b.n)else if k=4 then AQJ (a.n-b.n)else if k=5 then AQJ (a.n*b.n)else
 if k=6 then AJ9 (a.n == b.n)else AJ9 (decide (a.n<b.n))
def evN (row:List Val) (k c:Int) (v:Val) (vs:List Val):Val :=
 if k=1 then(row[c.toNat]?).getD Val.zero else if k=2 then v else
 if k=10 then trV (2-((vs[0]?).getD Val.zero).tr)else if k=11 then AJ9 ((vs[0]?).getD Val.zero).null else
 Val.cmb k ((vs[0]?).getD Val.zero) ((vs[1]?).getD Val.zero)
mutual
def Ex.ev (row:List Val):Ex→Val
 | .mk k c v ks=>evN row k c v (Ex.evL row ks)
def Ex.evL (row:List Val):List Ex→List Val
 | []=>[]
 | e::es=>e.ev row::Ex.evL row es
end
def ALR:List Val→List (List IV)
 | []=>[]
 | v::vs=>[.bool v.null, .int v.n]::ALR vs
def stV (v:Val):Int:=if v.null=true then 4 else if v.n=0 then 1 else 2
def orS (a b:Int):Int:=((a.toNat ||| b.toNat:Nat):Int)
def PO (a:Int) (s:Int):Bool:=decide (a / s % 2=1)
def exS (a:Int):List Val:=(if PO a 1=true then [⟨false,0⟩]else [])++((if PO a 2=true then [⟨false,1⟩]else [])++(if PO a 4=true then [⟨true,0⟩]else []))
def AVN (k:Int) (a b:Int):Int :=
 if k=8∨k=9 then(exS a).foldl (fun s v=>(exS b).foldl (fun s w=>orS s (stV (Val.cmb k v w))) s) 0
 else orS (if PO (orS a b) 4=true then 4 else 0) (if(PO a 1 || PO a 2)=true∧(PO b 1 || PO b 2)=true then(if k<6 then 7 else 3)else 0)
def AU4 (a:Int):Int:=(if PO a 4=true then 4 else 0)+((if PO a 1=true then 2 else 0)+(if PO a 2=true then 1 else 0))
def AU3 (a:Int):Int:=(if PO a 4=true then 2 else 0)+(if(PO a 1 || PO a 2)=true then 1 else 0)
mutual
def AQH (st:List Int):Ex→Int
 | .mk k c v ks=>if k=1 then(st[c.toNat]?).getD 0 else if k=2 then stV v else if k=10 then AU4 ((AA9 st ks)[0]?.getD 0)else if k=11 then AU3 ((AA9 st ks)[0]?.getD 0)else AVN k ((AA9 st ks)[0]?.getD 0) ((AA9 st ks)[1]?.getD 0)
def AA9 (st:List Int):List Ex→List Int
 | []=>[]
 | e::es=>AQH st e::AA9 st es
end
def Pn.ex0 (p:Pn):Ex:=(p.exprs[0]?).getD Ex.zero
def Pn.at:List Int→Pn→Option Pn
 | [],p=>some p
 | i::r,p=>if 0≤i then(p.kids[i.toNat]?).bind (Pn.at r)else none
def Pn.put:List Int→Pn→Pn→Pn
 | [],_,q=>q
 | i::r,p,q=>.mk p.kind p.table p.exprs p.cols (p.kids.set i.toNat (Pn.put r ((p.kids[i.toNat]?).getD Pn.zero) q))
theorem Pn.AK8 {i:Int} {r:List Int} {p a:Pn} (h:Pn.at (i::r) p=some a):∃ n:Nat,i=n∧∃ b,p.kids[n]?=some b∧Pn.at r b=some a:=by
 unfold Pn.at at h;split at h
 ·rename_i h0;obtain⟨n,rfl⟩:=yP h0
  cases hb:p.kids[n]? with
  | none=>simp[hb]at h
  | some b=>exact⟨n,rfl,b,hb,by simpa [hb]using h⟩
 ·cases h
theorem P6:∀ (path:List Int) (p a:Pn) (r:List Int),Pn.at path p=some a→Pn.at (path++r) p=Pn.at r a
 | [],p,a,r,e=>by simp[Pn.at]at e;subst e;rfl
 | i::s,p,a,r,e=>by
  obtain⟨n,rfl,b,hb,hr⟩:=Pn.AK8 e;have:=P6 s b a r hr;simp[Pn.at,hb,this]
mutual
def Ex.bits:Ex→Nat
 | .mk k c _ ks=>if k=1 then 2 ^ c.toNat else Ex.AO9 ks
def Ex.AO9:List Ex→Nat
 | []=>0
 | e::es=>Ex.bits e ||| Ex.AO9 es
end
def Pn.small (p:Pn):Prop:=p.size<1000000000∧p.thin∧p.tiny
noncomputable def AEV:List AV→StL→Option (AV×StL)
 | [.i (.iref cs)],[]=>@ite _ (∃ p:Pn,p.small∧p.cells=cs) (Classical.propDecidable _) (some (.i (.agg cs),[])) none
 | _,_=>none
theorem X6 {args:List AV} {st:StL} {r:AV×StL} (h:AEV args st=some r):∃ p:Pn,p.small∧args=[.i (.iref p.cells)]∧st=[]∧r=(.i (.agg p.cells),[]):=by
 unfold AEV at h;split at h
 ·rename_i cs;by_cases hc:∃ p:Pn,p.small∧p.cells=cs
  ·rw[if_pos hc]at h;obtain⟨p,h1,rfl⟩:=hc;injection h with h;exact⟨p,h1,rfl,rfl,h.symm⟩
  ·rw[if_neg hc]at h;cases h
 ·cases h
inductive KCells (w:World):List IV→List Value→List Nat→Prop
 | nil:KCells w [] [] []
 | lit {v:Value} {cs:List IV} {vs:List Value} {F:List Nat}:v.oneCell'=true→KCells w cs vs F→KCells w (.lit v::cs) (v::vs) F
 | isl0 {ao:Option Addr} {cap:Nat} {cs:List IV} {vs:List Value} {F:List Nat}:(ao=none→cap=0)→KCells w cs vs F→KCells w (.isl []::cs) (.slice ao 0 cap::vs) F
 | isl {b k cap:Nat} {es:List (List IV)} {us:List Value} {G:List Nat} {cs:List IV} {vs:List Value} {F:List Nat}:es≠[]→(∀ j,w.cell? ⟨b,j,none⟩=us[j]?)→0<k→(∀ e∈es,e.length=k)→k*cap≤us.length→es.length≤cap →
  KCells w es.flatten (us.take (k*es.length)) G→KCells w cs vs F→KCells w (.isl es::cs) (.slice (some ⟨b,0,none⟩) es.length cap::vs) (b::G++F)
theorem KCells.frame {w w':World}:∀ {cs:List IV} {vs:List Value} {F:List Nat},KCells w cs vs F→(∀ f∈F,∀ j,w'.cell? ⟨f,j,none⟩=w.cell? ⟨f,j,none⟩)→KCells w' cs vs F
 | _,_,_, .nil,_=>.nil
 | _,_,_, .lit o r,h=>.lit o (r.frame h)
 | _,_,_, .isl0 c r,h=>.isl0 c (r.frame h)
 | _,_,_, .isl hn hr hk hl hf hc g r,h=>.isl hn (fun j=>(h _ (by simp) j).trans (hr j)) hk hl hf hc (g.frame fun f hf=>h f (by simp[hf])) (r.frame fun f hf=>h f (by simp[hf]))
theorem TCells.toK {w:World}:∀ {cs:List IV} {vs:List Value} {F:List Nat},TCells w cs vs F→KCells w cs vs F
 | _,_,_, .nil=>.nil
 | _,_,_, .lit o r=>.lit o r.toK
 | _,_,_, .isl0 c r=>.isl0 c r.toK
 | _,_,_, .isl hn ⟨_,hr,_⟩ hk hl hf hc g r=>.isl hn (fun j=>bX hr j) hk hl hf hc g.toK r.toK
theorem KCells.toT {w:World}:∀ {cs:List IV} {vs:List Value} {F:List Nat},KCells w cs vs F→(∀ f∈F,∃ (us:List Value) (T:TypeId),w.heap[f]?=some (.cells us.toArray T (0,0))∧∀ v∈us,v.oneCell'=true)→TCells w cs vs F
 | _,_,_, .nil,_=>.nil
 | _,_,_, .lit o r,h=>.lit o (r.toT h)
 | _,_,_, .isl0 c r,h=>.isl0 c (r.toT h)
 | _,_,_, .isl (b:=b) (us:=us) hn hr hk hl hf hc g r,h=>by
  obtain⟨us',T,h1,h2⟩:=h b (by simp)
  have:us'=us:=by
   apply List.ext_getElem?;intro j;rw[← bX h1 j,hr j]
  exact .isl hn ⟨T,this ▸ h1,this ▸ h2⟩ hk hl hf hc (g.toT fun f hf=>h f (by simp[hf])) (r.toT fun f hf=>h f (by simp[hf]))
theorem KCells.toI {w:World} {m':Mem}:∀ {cs:List IV} {vs:List Value} {F:List Nat},KCells w cs vs F→(∀ f∈F,∀ j,m' f j=w.cell? ⟨f,j,none⟩)→ICells m' cs vs
 | _,_,_, .nil,_=>.nil
 | _,_,_, .lit o r,h=>.cons (.lit _) o (r.toI h)
 | _,_,_, .isl0 c r,h=>.cons (.isl0 _ _ c) rfl (r.toI h)
 | _,_,_, .isl (b:=b) (k:=k) (es:=es) (us:=us) hn hr hk hl hf hc g r,h=>by
  refine .cons (.isl hn (gG 0 hl (g.toI fun f hf=>h f (by simp[hf])) fun j v hj=>?_) hc) rfl (r.toI fun f hf=>h f (by simp[hf]));rw[zK,h b (by simp),hr];rw[zH]at hj;split at hj
  ·exact hj
  ·cases hj
theorem KCells.one {w:World} {c:IV} {v:Value} {F:List Nat} (h:KCells w [c] [v] F):v.oneCell'=true:=by
 cases h with
 | lit o _=>exact o
 | isl0 _ _=>rfl
 | isl=>rfl
theorem KCells.rep {w:World} {m':Mem} {c:IV} {v:Value} {F:List Nat} (h:KCells w [c] [v] F) (hF:∀ f∈F,∀ j,m' f j=w.cell? ⟨f,j,none⟩):IRep m' c v:=by
 cases h.toI hF with
 | cons a _ _=>exact a
abbrev PL:=List ((Nat×Nat)×Pn)
structure At5 (w:World) (b o:Nat) (v0 v1 v2 v3 v4:Value):Prop where
 c0:w.cell? ⟨b,o,none⟩=some v0
 c1:w.cell? ⟨b,o+1,none⟩=some v1
 c2:w.cell? ⟨b,o+2,none⟩=some v2
 c3:w.cell? ⟨b,o+3,none⟩=some v3
 c4:w.cell? ⟨b,o+4,none⟩=some v4
theorem At5.frame {w w':World} {b o:Nat} {v0 v1 v2 v3 v4:Value} (h:At5 w b o v0 v1 v2 v3 v4) (hw:∀ j,o≤j→j<o+5→w'.cell? ⟨b,j,none⟩=w.cell? ⟨b,j,none⟩):At5 w' b o v0 v1 v2 v3 v4 :=
 ⟨(hw _ (by omega) (by omega)).trans h.c0,(hw _ (by omega) (by omega)).trans h.c1,(hw _ (by omega) (by omega)).trans h.c2,(hw _ (by omega) (by omega)).trans h.c3,(hw _ (by omega) (by omega)).trans h.c4⟩
mutual
inductive TH (w:World) (m:Mem):Pn→Nat→Nat→List Nat→PL→Prop
 | fresh {x:Pn} {b o:Nat} {v0 v1 v2 v3 v4:Value}:ICells m x.cells [v0,v1,v2,v3,v4]→At5 w b o v0 v1 v2 v3 v4→TH w m x b o [] [((b,o),x)]
 | leaf {k t:Int} {es:List Ex} {cs:List Int} {b o:Nat} {vE vC:Value} {FE FC:List Nat}:At5 w b o (.int .i64 k) (.int .i64 t) vE vC (.slice none 0 0)→KCells w [.isl (Ex.aA es)] [vE] FE→KCells w [.isl (aI cs)] [vC] FC→((es=[]→vE=.slice none 0 0)∧(cs=[]→vC=.slice none 0 0))→TH w m (.mk k t es cs []) b o (FE++FC) []
 | node {k t:Int} {es:List Ex} {cs:List Int} {ks:List Pn} {b o b' cap:Nat} {vE vC:Value} {FE FC F:List Nat} {H:PL}:At5 w b o (.int .i64 k) (.int .i64 t) vE vC (.slice (some ⟨b',0,none⟩) ks.length cap)→KCells w [.isl (Ex.aA es)] [vE] FE→KCells w [.isl (aI cs)] [vC] FC→ks≠[]→ks.length≤cap→THL w m ks b' 0 F H→(w.cell? ⟨b',5*cap-1,none⟩).isSome=true→((es=[]→vE=.slice none 0 0)∧(cs=[]→vC=.slice none 0 0))→TH w m (.mk k t es cs ks) b o (FE++FC++(b'::F)) H
inductive THL (w:World) (m:Mem):List Pn→Nat→Nat→List Nat→PL→Prop
 | nil (b o:Nat):THL w m [] b o [] []
 | cons {x:Pn} {xs:List Pn} {b o:Nat} {F1 F2:List Nat} {H1 H2:PL}:TH w m x b o F1 H1→THL w m xs b (o+5) F2 H2→THL w m (x::xs) b o (F1++F2) (H1++H2)
end
theorem At5.some {w:World} {b o:Nat} {v0 v1 v2 v3 v4:Value} (h:At5 w b o v0 v1 v2 v3 v4):∀ i,i<5→(w.cell? ⟨b,o+i,none⟩).isSome=true
 | 0,_=>by rw[yF,h.c0];rfl
 | 1,_=>by rw[h.c1];rfl
 | 2,_=>by rw[h.c2];rfl
 | 3,_=>by rw[h.c3];rfl
 | 4,_=>by rw[h.c4];rfl
 | i+5,h=>by omega
theorem TH.at5 {w:World} {m:Mem} {x:Pn} {b o:Nat} {F:List Nat} {H:PL} (h:TH w m x b o F H):∀ i,i<5→(w.cell? ⟨b,o+i,none⟩).isSome=true:=by
 cases h with
 | fresh _ h2=>exact h2.some
 | leaf h1 _ _ _=>exact h1.some
 | node h1 _ _ _ _ _ _ _=>exact h1.some
mutual
theorem TH.frame {w w':World} {m m':Mem} (hm:MLe m m') {x:Pn} {b o:Nat} {F:List Nat} {H:PL} (hw:∀ j,o≤j→j<o+5→w'.cell? ⟨b,j,none⟩=w.cell? ⟨b,j,none⟩) (hF:∀ f∈F,∀ j,w'.cell? ⟨f,j,none⟩=w.cell? ⟨f,j,none⟩):TH w m x b o F H→TH w' m' x b o F H
 | .fresh h1 h2=>.fresh (h1.mono hm) (h2.frame hw)
 | .leaf h1 h2 h3 h4=>.leaf (h1.frame hw) (h2.frame fun f hf=>hF f (by simp[hf])) (h3.frame fun f hf=>hF f (by simp[hf])) h4
 | .node h1 h2 h3 h4 h5 h6 h7 h8=>.node (h1.frame hw) (h2.frame fun f hf=>hF f (by simp[hf])) (h3.frame fun f hf=>hF f (by simp[hf])) h4 h5 (THL.frame hm (fun j _ _=>hF _ (by simp) j) (fun f hf=>hF f (by simp[hf])) h6) (by rw[hF _ (by simp)];exact h7) h8
theorem THL.frame {w w':World} {m m':Mem} (hm:MLe m m') {xs:List Pn} {b o:Nat} {F:List Nat} {H:PL} (hw:∀ j,o≤j→j<o+5*xs.length→w'.cell? ⟨b,j,none⟩=w.cell? ⟨b,j,none⟩) (hF:∀ f∈F,∀ j,w'.cell? ⟨f,j,none⟩=w.cell? ⟨f,j,none⟩):THL w m xs b o F H→THL w' m' xs b o F H
 | .nil b o=>.nil b o
 | .cons h1 h2=>.cons (TH.frame hm (fun j l1 l2=>hw j l1 (by simp only[zS];omega)) (fun f hf=>hF f (by simp[hf])) h1) (THL.frame hm (fun j l1 l2=>hw j (by omega) (by simp only[zS];omega)) (fun f hf=>hF f (by simp[hf])) h2)
end
mutual
theorem TH.holes {w:World} {m:Mem} {x:Pn} {b o:Nat} {F:List Nat} {H:PL}:TH w m x b o F H→∀ q∈H,q.1=(b,o)∨q.1.1∈F
 | .fresh _ _,q,hq=>by simp at hq;subst hq;exact .inl rfl
 | .leaf _ _ _ _,q,hq=>by simp at hq
 | .node _ _ _ _ _ h6 _ _,q,hq=>by
  rcases THL.holes h6 q hq with ⟨h,_⟩|h
  ·exact .inr (by simp[h])
  ·exact .inr (by simp[h])
theorem THL.holes {w:World} {m:Mem} {xs:List Pn} {b o:Nat} {F:List Nat} {H:PL}:THL w m xs b o F H→∀ q∈H,(q.1.1=b∧o≤q.1.2)∨q.1.1∈F
 | .nil _ _,q,hq=>by simp at hq
 | .cons h1 h2,q,hq=>by
  rcases zV.1 hq with h|h
  ·rcases TH.holes h1 q h with e|e
   ·exact .inl ⟨by rw[e],by rw[e];exact zO _⟩
   ·exact .inr (by simp[e])
  ·rcases THL.holes h2 q h with ⟨e1,e2⟩|e
   ·exact .inl ⟨e1,by omega⟩
   ·exact .inr (by simp[e])
end
mutual
theorem TH.fill {w w':World} {m m':Mem} (hm:MLe m m') {bq oq:Nat} {y:Pn} {G:List Nat} {HY:PL} (hy:TH w' m' y bq oq G HY) {x:Pn} {b o:Nat} {F:List Nat} {H:PL}:TH w m x b o F H→b ∉ F→F.Nodup→((bq,oq),y)∈H →
 (∀ f∈b::F,∀ j,(f≠bq∨j<oq∨oq+5≤j)→w'.cell? ⟨f,j,none⟩=w.cell? ⟨f,j,none⟩)→∃ F' H',TH w' m' x b o F' H'∧F'.Perm (F++G)∧(((bq,oq),y)::H').Perm (H++HY)
 | .fresh _ _,_,_,hq,_=>by
  simp at hq;obtain⟨⟨rfl,rfl⟩,rfl⟩:=hq;exact⟨G,HY,hy,by simp,by simp⟩
 | .leaf _ _ _ _,_,_,hq,_=>by simp at hq
 | .node h1 h2 h3 h4 h5 h6 h7 h8,hb,hn,hq,hw=>by
  rename_i b' cap vE vC FE FC F;have hn2:=(zL.1 hn).2.1;have hb':b' ∉ F:=(zA.1 hn2).1
  have hD:∀ f∈FE++FC,f≠bq:=fun f hf e=>by
   rcases THL.holes h6 _ hq with ⟨e1,_⟩|e1
   ·exact(zL.1 hn).2.2 f hf b' (by simp) (by rw[e];exact e1)
   ·exact(zL.1 hn).2.2 f hf bq (by simp at e1;simp[e1]) e
  have hne:b≠bq:=by
   intro e
   rcases THL.holes h6 _ hq with ⟨e1,_⟩|e1
   ·exact hb (by simp at e1;simp[e,e1])
   ·exact hb (by simp at e1;simp[e,e1])
  obtain⟨F',H',k1,k2,k3⟩:=THL.fill hm hy h6 hb' (zA.1 hn2).2 hq (fun f hf j hj=>hw f (by rcases zQ.1 hf with rfl|h<;>simp[*]) j hj)
  have h7':(w'.cell? ⟨b',5*cap-1,none⟩).isSome=true:=by
   by_cases hj:b'≠bq∨5*cap-1<oq∨oq+5≤5*cap-1
   ·rw[hw b' (by simp) _ hj];exact h7
   ·have hbq:b'=bq:=by omega
    obtain⟨i,hi,e⟩:∃ i,i<5∧5*cap-1=oq+i:=⟨5*cap-1-oq,by omega,by omega⟩
    rw[hbq,e];exact hy.at5 i hi
  refine⟨FE++FC++(b'::F'),H', .node (h1.frame fun j _ _=>hw b (by simp) j (.inl hne)) (h2.frame fun f hf j=>hw f (by simp[hf]) j (.inl (hD f (by simp[hf])))) (h3.frame fun f hf j=>hw f (by simp[hf]) j (.inl (hD f (by simp[hf])))) h4 h5 k1 h7' h8,?_,k3⟩;rw[yR (FE++FC)];exact(k2.cons b').append_left _
theorem THL.fill {w w':World} {m m':Mem} (hm:MLe m m') {bq oq:Nat} {y:Pn} {G:List Nat} {HY:PL} (hy:TH w' m' y bq oq G HY) {xs:List Pn} {b o:Nat} {F:List Nat} {H:PL}:THL w m xs b o F H→b ∉ F→F.Nodup→((bq,oq),y)∈H →
 (∀ f∈b::F,∀ j,(f≠bq∨j<oq∨oq+5≤j)→w'.cell? ⟨f,j,none⟩=w.cell? ⟨f,j,none⟩)→∃ F' H',THL w' m' xs b o F' H'∧F'.Perm (F++G)∧(((bq,oq),y)::H').Perm (H++HY)
 | .nil _ _,_,_,hq,_=>by simp at hq
 | .cons (F1:=F1) (F2:=F2) (H1:=H1) (H2:=H2) h1 h2,hb,hn,hq,hw=>by
  have hb1:b ∉ F1:=fun h=>hb (by simp[h])
  have hb2:b ∉ F2:=fun h=>hb (by simp[h])
  obtain⟨n1,n2,n3⟩:=zL.1 hn
  rcases zV.1 hq with h|h
  ·obtain⟨F',H',k1,k2,k3⟩:=TH.fill hm hy h1 hb1 n1 h (fun f hf j hj=>hw f (by rcases zQ.1 hf with rfl|h<;>simp[*]) j hj);refine⟨F'++F2,H'++H2, .cons k1 (THL.frame hm (fun j l1 l2=>hw b (by simp) j ?_) (fun f hf j=>hw f (by simp[hf]) j (.inl ?_)) h2),?_,?_⟩
   ·rcases TH.holes h1 _ h with e|e
    ·simp at e;exact .inr (.inr (by omega))
    ·exact .inl fun e2=>hb1 (by simp at e;rw[e2];exact e)
   ·rcases TH.holes h1 _ h with e|e
    ·simp at e;intro e2;rw[e2,e.1]at hf;exact hb2 hf
    ·simp at e;intro e2;rw[e2]at hf;exact n3 _ e _ hf rfl
   ·have:=k2.append_right F2;refine this.trans ?_;rw[yR,yR];exact(List.perm_append_comm (l₁:=G) (l₂:=F2)).append_left F1
   ·have:=k3.append_right H2;rw[yT]at this;refine this.trans ?_;rw[yR,yR];exact(List.perm_append_comm (l₁:=HY) (l₂:=H2)).append_left H1
  ·obtain⟨F',H',k1,k2,k3⟩:=THL.fill hm hy h2 hb2 n2 h (fun f hf j hj=>hw f (by rcases zQ.1 hf with rfl|h<;>simp[*]) j hj);refine⟨F1++F',H1++H', .cons (TH.frame hm (fun j l1 l2=>hw b (by simp) j ?_) (fun f hf j=>hw f (by simp[hf]) j (.inl ?_)) h1) k1,?_,?_⟩
   ·rcases THL.holes h2 _ h with ⟨e1,e2⟩|e
    ·simp at e2;exact .inr (.inl (by omega))
    ·exact .inl fun e2=>hb2 (by simp at e;rw[e2];exact e)
   ·rcases THL.holes h2 _ h with ⟨e1,_⟩|e
    ·simp at e1;intro e2;rw[e2,e1]at hf;exact hb1 hf
    ·simp at e;intro e2;rw[e2]at hf;exact n3 _ hf _ e rfl
   ·rw[yR];exact k2.append_left F1
   ·rw[yR];refine List.perm_middle.symm.trans ?_;exact k3.append_left H1
end
mutual
theorem TH.iat {w:World} {m m':Mem} (hm:MLe m m') {x:Pn} {b o:Nat} {F:List Nat}:TH w m x b o F []→(∀ j,o≤j→j<o+5→m' b j=w.cell? ⟨b,j,none⟩)→(∀ f∈F,∀ j,m' f j=w.cell? ⟨f,j,none⟩)→IAt m' b o x.cells
 | .leaf h1 h2 h3 h4,hb,hF=>by
  rw[Pn.bD];exact .cons ((hb _ (by omega) (by omega)).trans h1.c0) (.lit _) rfl (.cons ((hb _ (by omega) (by omega)).trans h1.c1) (.lit _) rfl (.cons ((hb _ (by omega) (by omega)).trans h1.c2) (h2.rep fun f hf=>hF f (by simp[hf])) h2.one (.cons ((hb _ (by omega) (by omega)).trans h1.c3) (h3.rep fun f hf=>hF f (by simp[hf])) h3.one (.cons ((hb _ (by omega) (by omega)).trans h1.c4) (.isl0 _ _ fun _=>rfl) rfl (.nil _ _)))))
 | .node h1 h2 h3 h4 h5 h6 h7 h8,hb,hF=>by
  rename_i ks b' cap vE vC FE FC F;rw[Pn.bD];have he:=THL.iel hm h6 (fun j _ _=>hF b' (by simp) j) (fun f hf=>hF f (by simp[hf]));have hl:(Pn.aA ks).length=ks.length:=by simp
  have hn:Pn.aA ks≠[]:=fun e=>by rw[e]at hl;simp at hl;exact h4 (zZ.1 hl.symm)
  have hk:IRep m' (.isl (Pn.aA ks)) (.slice (some ⟨b',0,none⟩) ks.length cap):=by
   have:=IRep.isl (cap:=cap) hn he (by omega)
   rwa [hl]at this
  exact .cons ((hb _ (by omega) (by omega)).trans h1.c0) (.lit _) rfl (.cons ((hb _ (by omega) (by omega)).trans h1.c1) (.lit _) rfl (.cons ((hb _ (by omega) (by omega)).trans h1.c2) (h2.rep fun f hf=>hF f (by simp[hf])) h2.one (.cons ((hb _ (by omega) (by omega)).trans h1.c3) (h3.rep fun f hf=>hF f (by simp[hf])) h3.one (.cons ((hb _ (by omega) (by omega)).trans h1.c4) hk rfl (.nil _ _)))))
theorem THL.iel {w:World} {m m':Mem} (hm:MLe m m') {xs:List Pn} {b o:Nat} {F:List Nat}:THL w m xs b o F []→(∀ j,o≤j→j<o+5*xs.length→m' b j=w.cell? ⟨b,j,none⟩)→(∀ f∈F,∀ j,m' f j=w.cell? ⟨f,j,none⟩)→IElems m' b o 5 (Pn.aA xs)
 | h,hb,hF=>by
  generalize hH:([]:PL)=H at h
  cases h with
  | nil b o=>simp only[Pn.aA];exact .nil b o 5
  | cons h1 h2 =>
   obtain⟨e1,e2⟩:=zB1.1 hH.symm;subst e1;subst e2;simp only[Pn.aA];exact .cons (TH.iat hm h1 (fun j l1 l2=>hb j l1 (by simp only[zS];omega)) (fun f hf=>hF f (by simp[hf]))) (Pn.dB _) (THL.iel hm h2 (fun j l1 l2=>hb j (by omega) (by simp only[zS];omega)) (fun f hf=>hF f (by simp[hf])))
end
theorem KCells.app {w:World}:∀ {cs cs':List IV} {vs vs':List Value} {F F':List Nat},KCells w cs vs F→KCells w cs' vs' F'→KCells w (cs++cs') (vs++vs') (F++F')
 | _,_,_,_,_,_, .nil,h=>h
 | _,_,_,_,_,_, .lit o r,h=>.lit o (r.app h)
 | _,_,_,_,_,_, .isl0 c r,h=>.isl0 c (r.app h)
 | _,_,_,_,_,_, .isl (F:=F) hn hr hk hl hf hc g r,h=>by
  have:=KCells.isl hn hr hk hl hf hc g (r.app h);simpa using this
theorem At5.uniq {w:World} {b o:Nat} {v0 v1 v2 v3 v4 u0 u1 u2 u3 u4:Value} (h:At5 w b o v0 v1 v2 v3 v4) (g:At5 w b o u0 u1 u2 u3 u4):v0=u0∧v1=u1∧v2=u2∧v3=u3∧v4=u4 :=
 ⟨Option.some.inj (h.c0.symm.trans g.c0),Option.some.inj (h.c1.symm.trans g.c1),Option.some.inj (h.c2.symm.trans g.c2),Option.some.inj (h.c3.symm.trans g.c3),Option.some.inj (h.c4.symm.trans g.c4)⟩
theorem AR9 {us:List Value} {o:Nat} {v0 v1 v2 v3 v4:Value} (h0:us[o]?=some v0) (h1:us[o+1]?=some v1) (h2:us[o+2]?=some v2) (h3:us[o+3]?=some v3) (h4:us[o+4]?=some v4):us.drop o=[v0,v1,v2,v3,v4]++us.drop (o+5):=by
 have g:∀ {o:Nat} {v:Value},us[o]?=some v→us.drop o=v::us.drop (o+1):=by
  intro o v h;obtain⟨hl,rfl⟩:=zX.1 h;exact yL hl
 rw[g h0,g h1,g h2,g h3,g h4];rfl
theorem Pn.FB:∀ l:List Pn,Pn.aA l=l.map Pn.cells
 | []=>rfl
 | a::l=>by simp[Pn.aA,Pn.FB l]
mutual
theorem TH.kc {w:World} {m:Mem} {x:Pn} {b o:Nat} {F:List Nat}:TH w m x b o F []→(∀ f∈F,∃ (us:List Value) (T:TypeId),w.heap[f]?=some (.cells us.toArray T (0,0))∧∀ v∈us,v.oneCell'=true)→∃ v0 v1 v2 v3 v4,At5 w b o v0 v1 v2 v3 v4∧KCells w x.cells [v0,v1,v2,v3,v4] F∧(x.exprs=[]→v2=.slice none 0 0)∧(x.cols=[]→v3=.slice none 0 0)∧(x.kids=[]→v4=.slice none 0 0)
 | .leaf h1 h2 h3 h4,hrow=>by
  refine⟨_,_,_,_,_,h1,?_,h4.1,h4.2,fun _=>rfl⟩;rw[Pn.bD];exact .lit rfl (.lit rfl (h2.app (by have:=h3.app (KCells.isl0 (w:=w) (ao:=none) (cap:=0) (fun _=>rfl) .nil);simpa [Pn.aA]using this)))
 | .node (ks:=ks) (b':=b') (cap:=cap) (FE:=FE) (FC:=FC) (F:=F) h1 h2 h3 h4 h5 h6 h7 h8,hrow=>by
  refine⟨_,_,_,_,_,h1,?_,h8.1,h8.2,fun h=>absurd h h4⟩;rw[Pn.bD];obtain⟨us,T,hr,hone⟩:=hrow b' (by simp);have hb:∀ j,w.cell? ⟨b',j,none⟩=us[j]?:=fun j=>bX hr j
  have hk:=THL.kc h6 (fun f hf=>hrow f (by simp[hf])) hb;have hl:(Pn.aA ks).length=ks.length:=by simp
  have hn:Pn.aA ks≠[]:=fun e=>by rw[e]at hl;simp at hl;exact h4 (zZ.1 hl.symm)
  have hpos:0<ks.length:=y9.2 h4
  have hfit:5*cap≤us.length:=by
   rw[hb]at h7
   cases hx:us[5*cap-1]? with
   | none=>rw[hx]at h7;cases h7
   | some u=>have:=(zX.1 hx).1;omega
  have hK:=KCells.isl (w:=w) (b:=b') (k:=5) (cap:=cap) (es:=Pn.aA ks) (us:=us) (G:=F) hn hb (by omega) (fun e he=>by
   rw[Pn.FB]at he;obtain⟨x,_,rfl⟩:=xZ.1 he
   exact Pn.dB x) hfit (by omega) (by rw[hl];simpa using hk) .nil
  rw[hl,z8]at hK;exact .lit rfl (.lit rfl (by have:=h2.app (h3.app hK);simpa [yR]using this))
theorem THL.kc {w:World} {m:Mem} {xs:List Pn} {b o:Nat} {F:List Nat} {us:List Value}:THL w m xs b o F []→(∀ f∈F,∃ (us:List Value) (T:TypeId),w.heap[f]?=some (.cells us.toArray T (0,0))∧∀ v∈us,v.oneCell'=true)→(∀ j,w.cell? ⟨b,j,none⟩=us[j]?)→KCells w (Pn.aA xs).flatten ((us.drop o).take (5*xs.length)) F
 | h,hrow,hb=>by
  generalize hH:([]:PL)=H at h
  cases h with
  | nil b o=>simp only[Pn.aA];simpa using KCells.nil
  | @cons x xs _ _ F1 F2 H1 H2 h1 h2 =>
   obtain⟨e1,e2⟩:=zB1.1 hH.symm;subst e1;subst e2;obtain⟨v0,v1,v2,v3,v4,g1,g2,_⟩:=TH.kc h1 (fun f hf=>hrow f (by simp[hf]));have g3:=THL.kc h2 (fun f hf=>hrow f (by simp[hf])) hb;have hd:=AR9 (us:=us) (o:=o) (by rw[← hb];exact g1.c0) (by rw[← hb];exact g1.c1) (by rw[← hb];exact g1.c2) (by rw[← hb];exact g1.c3) (by rw[← hb];exact g1.c4);rw[hd,zS,show 5*(xs.length+1)=5+5*xs.length by omega,yI,zY (by simp)];simp only[Pn.aA,zD];have e5:5+5*xs.length-[v0,v1,v2,v3,v4].length=5*xs.length:=by simp
   rw[e5];exact g2.app g3
end
def AKE (R:World→Mem→Pl→Prop):Prop:=∀ w m φ w' m' φ',Adv w m φ w' m' φ'→R w m φ→R w' m' φ'
structure GR (wi:World) (mi:Mem) (nt:Nat) (ok:Nat→Prop) (R:World→Mem→Pl→Prop) (env:Nat→AV) (st:Store) (a:Act) (w:World):Prop where
 out:∃ m φ,Inv w m φ st∧(∀ t,Rep m φ (env t) (a.tmps.getD t undef))∧Adv wi mi (fun _=>none) w m φ∧(∀ id,φ id≠none→ok id)∧R w m φ
 size:nt≤a.tmps.size
 defers:a.defers=[]
section
variable {C:Ctx} {wi:World} {mi:Mem} {nt:Nat}
theorem GR.iJ (hS:SoundOk C) {G:List Nat} {c:Code} {S S':AS} {e:AExit} {a:Act} {w:World} {R:World→Mem→Pl→Prop} (hR:AKE R) (hc:codeOk nt c=true) (hx:eY C G S.st.length c S=some (e,S')) (h:GR wi mi nt (fun id=>id<S.st.length) R (aY S.env) (aT S.st) a w) (hnr:bJ c=true:=by rfl) :
 c.wp C.P (fun e' a' w'=>e'=jP e∧GR wi mi nt (fun id=>id<S'.st.length) R (aY S'.env) (aT S'.st) a' w') a w:=by
 obtain⟨n,hn⟩:=(dM _).1 hx;obtain⟨⟨m,φ,h1,h2,h3,h4,h5⟩,h6,h7⟩:=h;refine wpIn_wide.1 (wpIn_mono (bY (ρ:=none) hS.ctx (aX hS) (hS.draw _ (aX hS)) h4 n c S S' e [] a w hc (.inl rfl) hn ⟨⟨⟨m,φ,h1,h2, .refl _ _ _,h4, .nil _ _ _⟩,h6,h7⟩,zO _⟩) ?_);rintro e' a' w' ⟨rfl,ds,k,kd⟩;have kd:=kd hnr;subst kd;obtain⟨⟨⟨m',φ',k1,k2,k3,k4,_⟩,k5,k6⟩,_⟩:=k;exact⟨rfl,⟨⟨m',φ',k1,k2,h3.trans k3,k4,hR _ _ _ _ _ _ k3 h5⟩,k5,k6⟩⟩
theorem GR.turn {ok ok':Nat→Prop} {R R':World→Mem→Pl→Prop} {env env':Nat→AV} {st st':Store} {a:Act} {w:World} (h:GR wi mi nt ok R env st a w)
 (f:∀ m φ,Inv w m φ st→(∀ t,Rep m φ (env t) (a.tmps.getD t undef))→Adv wi mi (fun _=>none) w m φ→(∀ id,φ id≠none→ok id)→R w m φ →
  ∃ m' φ',Inv w m' φ' st'∧(∀ t,Rep m' φ' (env' t) (a.tmps.getD t undef))∧Adv wi mi (fun _=>none) w m' φ'∧(∀ id,φ' id≠none→ok' id)∧R' w m' φ'):GR wi mi nt ok' R' env' st' a w:=by
 obtain⟨⟨m,φ,h1,h2,h3,h4,h5⟩,h6,h7⟩:=h;exact⟨f m φ h1 h2 h3 h4 h5,h6,h7⟩
def JA (st':Store) (φ:Pl):Pl:=fun i=>match st' i with
 | some _=>φ i
 | none=>none
theorem fB {st':Store} {φ:Pl} {i:Nat} {p:Nat×Ext} (h:JA st' φ i=some p):φ i=some p∧st' i≠none:=by
 unfold JA at h
 cases e:st' i with
 | none=>rw[e]at h;cases h
 | some _=>rw[e]at h;exact⟨h,by simp⟩
theorem qL {st':Store} {φ:Pl} {i:Nat} (h:st' i≠none):JA st' φ i=φ i:=by
 unfold JA
 cases e:st' i with
 | none=>exact absurd e h
 | some _=>rfl
theorem Inv.cut {w:World} {m:Mem} {φ:Pl} {st st':Store} (hi:Inv w m φ st) (hst:∀ i blk,st' i=some blk→st i=some blk∧fZ blk):Inv w m (JA st' φ) st':=by
 refine⟨hi.mem,?_,?_,fun i b n f e ho=>hi.low i b n f (fB e).1 ho⟩
 ·intro i blk hb;obtain⟨h1,h2⟩:=hst i blk hb;obtain⟨b,n,q1,q2,q3⟩:=hi.live i blk h1;exact⟨b,n,by rw[qL (by rw[hb];simp)];exact q1,q2,q3.PN h2 rfl fun o h=>h⟩
 ·intro i j b bx n n2 b1 b2 f h1 h2 h3 h4 o1 o2;exact hi.inj i j b bx n n2 b1 b2 f (hst i b1 h1).1 (hst j b2 h2).1 (fB h3).1 (fB h4).1 o1 o2
theorem Adv.cut {w:World} {m:Mem} {φ:Pl} {st':Store} (h:Adv wi mi (fun _=>none) w m φ):Adv wi mi (fun _=>none) w m (JA st' φ) :=
 ⟨h.size,h.os,h.tape,h.output,h.block,h.mle,h.mnew,(fun _ _ _ h=>by cases h),fun i b n f e ho=>h.pnew i b n f (fB e).1 ho⟩
theorem fH.cut {φ:Pl} {st':Store} {f:Nat} (h:fH φ f):fH (JA st' φ) f:=fun i b n e=>h i b n (fB e).1
theorem qI {w:World} {m:Mem} {φ:Pl} {st st':Store} {id b f:Nat} {n:Ext} {blk:Blk} (hi:Inv w m φ st) (hst:∀ i blk,st' i=some blk→st i=some blk∧fZ blk) (hid:st id=some blk) (hn:st' id=none) (e:φ id=some (b,n)) (ho:n.own f):fH (JA st' φ) f:=by
 intro i r n' e' ho';obtain⟨h1,h2⟩:=fB e'
 cases hb:st' i with
 | none=>exact h2 hb
 | some blk' =>
  have:=hi.inj i id r b n' n blk' blk f (hst i blk' hb).1 hid h1 e ho' ho;rw[this,hn]at hb;cases hb
theorem DW {w:World} {m:Mem} {φ:Pl} {id b f:Nat} {n:Ext} (h:Adv wi mi (fun _=>none) w m φ) (e:φ id=some (b,n)) (ho:n.own f):wi.heap.size≤f:=by
 rcases h.pnew id b n f e ho with h|h
 ·exact h
 ·exact absurd (fun id b n e=>by cases e) h
theorem Inv.RU {w:World} {m:Mem} {φ:Pl} {st:Store} {id b:Nat} {cs:List AV} {vs:List Value} {T:TypeId} (hi:Inv w m φ st) (h1:st id=none) (h2:φ id=none) (hf:fH φ b) (hm:∀ o,m b o=none) (hh:w.heap[b]?=some (.cells vs.toArray T (0,0)))
 (hc:RepC m (upd φ id (some (b,one b vs.length))) cs vs):Inv w m (upd φ id (some (b,one b vs.length))) (upd st id (some (.box cs))):=by
 have hlt:b<w.heap.size:=(zG.1 hh).1
 have hp:PLe φ (upd φ id (some (b,one b vs.length))):=fun i r n e=>by
  refine⟨n,?_,rfl,fun _ h=>h⟩;have:i≠id:=fun h=>by rw[h,h2]at e;cases e
  simp[upd,this,e]
 refine⟨hi.mem,?_,?_,?_⟩
 ·intro i blk hb;by_cases hid:i=id
  ·subst hid;simp[upd]at hb;subst hb;exact⟨b,one b vs.length,by simp[upd],⟨rfl,fun f hf=>by rw[show f=b from hf];exact hlt⟩, .box hh rfl hc hm⟩
  ·simp[upd,hid]at hb;obtain⟨r,n,q1,q2,q3⟩:=hi.live i blk hb;exact⟨r,n,by simp[upd,hid,q1],q2,q3.mono q2.1 (fun _ _=>rfl) (.refl _) hp fun _ _ _=>rfl⟩
 ·intro i j r r' n n' b1 b2 f e1 e2 p1 p2 o1 o2;by_cases hi1:i=id
  ·by_cases hj1:j=id
   ·rw[hi1,hj1]
   ·subst hi1;simp[upd]at p1;simp[upd,hj1]at p2;obtain⟨rfl,rfl⟩:=p1;rw[show f=_ from o1]at o2;exact absurd o2 (hf j r' n' p2)
  ·by_cases hj1:j=id
   ·subst hj1;simp[upd]at p2;simp[upd,hi1]at p1;obtain⟨rfl,rfl⟩:=p2;rw[show f=_ from o2]at o1;exact absurd o1 (hf i r n p1)
   ·simp[upd,hi1]at e1 p1;simp[upd,hj1]at e2 p2;exact hi.inj i j r r' n n' b1 b2 f e1 e2 p1 p2 o1 o2
 ·intro i r n f e ho;by_cases hid:i=id
  ·subst hid;simp[upd]at e;obtain⟨rfl,rfl⟩:=e;rw[show f=_ from ho];exact hlt
  ·simp[upd,hid]at e;exact hi.low i r n f e ho
theorem Adv.RU {w:World} {m:Mem} {φ:Pl} {id b k:Nat} (h:Adv wi mi (fun _=>none) w m φ) (hb:wi.heap.size≤b):Adv wi mi (fun _=>none) w m (upd φ id (some (b,one b k))):=by
 refine⟨h.size,h.os,h.tape,h.output,h.block,h.mle,h.mnew,(fun _ _ _ h=>by cases h),fun i r n f e ho=>?_⟩;by_cases hid:i=id
 ·subst hid;simp[upd]at e;obtain⟨rfl,rfl⟩:=e;rw[show f=_ from ho];exact .inl hb
 ·simp[upd,hid]at e;exact h.pnew i r n f e ho
def dR (vs:List Value):List AV:=vs.map fun v=>.i (.lit v)
theorem kM {m:Mem} {φ:Pl}:∀ {vs:List Value},(∀ v∈vs,v.oneCell'=true)→RepC m φ (dR vs) vs
 | [],_=>.nil
 | v::vs,h=>.cons (.i (.lit v)) (h v (by simp)) (kM fun u hu=>h u (by simp[hu]))
theorem r9 {m:Mem} {φ:Pl}:∀ {vs us:List Value},RepC m φ (dR vs) us→us=vs
 | [],_, .nil=>rfl
 | v::vs,_, .cons a _ b=>by rw[a.lit_eq,r9 b]
theorem lS {m:Mem} {φ:Pl}:∀ {a b:List AV} {vs:List Value},RepC m φ (a++b) vs→∃ us xs,vs=us++xs∧RepC m φ a us∧RepC m φ b xs
 | [],b,vs,h=>⟨[],vs,rfl, .nil,h⟩
 | c::a,b,_, .cons h1 h2 h3=>by
  obtain⟨us,xs,rfl,k1,k2⟩:=lS h3;exact⟨_::us,xs,rfl, .cons h1 h2 k1,k2⟩
theorem D9 {m:Mem} {φ:Pl}:∀ {a b:List AV} {us xs:List Value},RepC m φ a us→RepC m φ b xs→RepC m φ (a++b) (us++xs)
 | [],_,_,_, .nil,h=>h
 | _::_,_,_,_, .cons h1 h2 h3,h=>.cons h1 h2 (D9 h3 h)
end
end Go.Av

/- Part 2 of what the proof rests on: the executor and what it is worth, and the program's functions as it runs them. No condition. -/
import Derived.Test.YtgiepjdnkonkgaaGreatT1
import Derived.Still
import Derived.Below
set_option linter.unusedVariables false
set_option linter.unusedSimpArgs false
namespace Go.Av
section
variable {C:Ctx}
theorem OX:∀ (l:List IV),bC (lF l)=[]
 | []=>rfl
 | v::l=>by simp[lF,bC,dE,OX l]
theorem MM {v:AV} {cs:List AV} (h:cellsOf v=some cs):∀ i∈bC cs,i∈dE v:=by
 unfold cellsOf at h;split at h
 ·cases h
 ·cases h
 ·injection h with h;subst h;intro i hi;simpa [dE]using hi
 ·injection h with h;subst h;intro i hi;rw[OX]at hi;cases hi
 ·cases h
 ·cases h
 ·injection h with h;subst h;intro i hi;simpa [bC]using hi
theorem AU {env:Nat→AV}:∀ {l:List (Nat×Operand)} {ps:List (Nat×List AV)},partsOf env l=some ps→∀ p∈ps,∀ i∈bC p.2,i∈bC (evL env (gJ l))
 | [],ps,h=>by simp[partsOf]at h;subst h;simp
 | q::l,ps,h=>by
  simp only[partsOf]at h;obtain⟨cs,h1,h2⟩:=aI.1 h;obtain⟨ps',h3,h4⟩:=aI.1 h2;injection h4 with h4;subst h4;intro p hp i hi;simp only[gJ,evL,bC,zV]
  rcases zS.1 hp with rfl|hp
  ·exact .inl (MM h1 i hi)
  ·exact .inr (AU h3 p hp i hi)
def Wr (ts:List Nat) (nb:Nat) (ro:Bool) (i:Nat):Prop:=(ro=false∧i∈ts)∨(nb≤i∧i<nb+wide)
theorem Wr.nb (ts:List Nat) (nb:Nat) (ro:Bool):Wr ts nb ro nb:=.inr ⟨Nat.le_refl _,gY nb⟩
theorem T9.wr {α:Type} {ts:List Nat} {F:Store→Option (α×Store)} {st s1:Store} {a:α} (h:T9 ts F st a s1) (nb:Nat):Loc ts (Wr ts nb false) F st a s1:=h.1.mono fun _ hi=>.inl ⟨rfl,hi⟩
theorem AHW {ts:List Nat} {st st':Store} {t:TypeId} {a:AV} (ha:Agree ts st st') (hv:∀ i∈dE a,i∈ts):L9 C t a st'=L9 C t a st:=by
 unfold L9;congr 1;funext n;congr 1;funext g;unfold loadAt
 cases a with
 | own id off=>simp only;rw[ha id (hv id (by simp[dE]))]
 | ownE id k ix off=>simp only;rw[ha id (hv id (by simp[dE]))]
 | i v=>cases v<;>rfl
 | _=>rfl
theorem BK {ts:List Nat} {st st':Store} {k:Nat} {a:AV} (ha:Agree ts st st') (hv:∀ i∈dE a,i∈ts):dK st' k a=dK st k a:=by
 unfold dK
 cases a with
 | osl id k' off len=>simp only;rw[ha id (hv id (by simp[dE]))]
 | i v =>
  cases v with
  | lit v=>cases v<;>rfl
  | _=>rfl
 | _=>rfl
theorem JZ {ts:List Nat} {st s1:Store} {a:AV} {xs:List AV} {nb:Nat} (hc:Clo ts st) (ha:∀ i∈dE a,i∈ts) (hxs:∀ i∈bC xs,i∈ts) (h6:storeAt xs st a=some s1) :
 Loc ts (Wr ts nb false) (fun s=>bnd (storeAt xs s a) fun r=>some (AV.i (.lit undef),r)) st (.i (.lit undef)) s1:=by
 unfold storeAt at h6
 cases a with
 | own id off =>
  simp only at h6;have hm:=ha id (by simp[dE]);unfold sW at h6;split at h6
  ·rename_i cs hcs;obtain⟨l,k1,k2⟩:=aI.1 h6;injection k2 with k2;subst k2;refine .one (.inl ⟨rfl,hm⟩) fun st' hag=>?_
   simp only[storeAt];rw[hag id hm,hcs];simp[sW,k1]
  ·cases h6
 | ownE id k ix off =>
  simp only at h6;have hm:=ha id (by simp[dE]);obtain⟨p,k1,k2⟩:=aI.1 h6;have hl:=M0 hc hxs (show oH st xs=some (p.1,p.2)from k1)
  have h2':Loc ts (Wr ts nb false) (fun s=>bnd (pX id k ix off p.1 s (s id)) fun r=>some (AV.i (.lit undef),r)) p.2 (.i (.lit undef)) s1:=by
   unfold pX at k2;split at k2
   ·rename_i k' es hes;obtain⟨j1,j2⟩:=aQ.1 k2;obtain⟨e,j3,j4⟩:=aI.1 j2;obtain⟨e',j5,j6⟩:=aI.1 j4;injection j6 with j6;subst j6;refine .one (.inl ⟨rfl,hm⟩) fun st' hag=>?_
    rw[hag id hm,hes];simp[pX,j1,j3,j5]
   ·cases k2
  refine(hl.wr nb).seq (F2:=fun q s=>bnd (pX id k ix off q s (s id)) fun r=>some (AV.i (.lit undef),r)) h2' fun st' s r e1 e2=>?_
  simp only[storeAt];rw[show oH st' xs=_ from e1];exact e2
 | _=>simp at h6
theorem AO3 {ts:List Nat} {st s1:Store} (hc:Clo ts st) {v:AV} {iv:IV} (hv:∀ i∈dE v,i∈ts) (h:ER st v=some (iv,s1)):T9 ts (fun s=>ER s v) st iv s1:=by
 cases v with
 | i v =>
  simp only[ER]at h;obtain⟨h1,h2⟩:=aQ.1 h;injection h2 with h2;injection h2 with h2 h3;subst h2;subst h3;exact⟨.here fun st' _=>by simp[ER,h1],hc⟩
 | nils =>
  simp only[ER]at h;injection h with h2;injection h2 with h2 h3;subst h2;subst h3;exact⟨.here fun st' _=>rfl,hc⟩
 | osl id k off len =>
  simp only[ER]at h;obtain⟨es,h1,h2⟩:=aI.1 h;injection h2 with h2;injection h2 with h2 h3;subst h2;subst h3;have hm:=hv id (by simp[dE]);refine⟨.one hm fun st' hag=>?_,?_⟩
  ·simp only[ER];rw[hag id hm,h1];rfl
  ·exact GD (U:=[(id,none)]) hc (by simp[iL])
 | _=>simp[ER]at h
theorem SQ {ts:List Nat}:∀ {cs:List AV} {st s1:Store} {l:List IV},Clo ts st→(∀ i∈bC cs,i∈ts)→tV st cs=some (l,s1)→T9 ts (fun s=>tV s cs) st l s1
 | [],st,s1,l,hc,_,h=>by
  simp[tV]at h;obtain⟨rfl,rfl⟩:=h;exact⟨.here fun _ _=>rfl,hc⟩
 | c::cs,st,s1,l,hc,hv,h=>by
  simp only[tV]at h;obtain⟨p,h1,h2⟩:=aI.1 h;obtain⟨q,h3,h4⟩:=aI.1 h2;injection h4 with h4;injection h4 with h4 h5;subst h4;subst h5;have k1:=AO3 hc (fun i hi=>hv i (by simp[bC,hi])) (show ER st c=some (p.1,p.2)from h1);have k2:=SQ k1.2 (fun i hi=>hv i (by simp[bC,hi])) (show tV p.2 cs=some (q.1,q.2)from h3);refine k1.seq (k2.map (H:=fun s=>bnd (tV s cs) fun q=>some (p.1::q.1,q.2)) fun st' s e=>?_) fun st' s r e1 e2=>?_
  ·show bnd (tV st' cs) _=_;rw[show tV st' cs=_ from e];rfl
  ·simp only[tV]at e1 e2 ⊢;rw[e1];exact e2
theorem JX {ts:List Nat} {st s1:Store} {id k ix off:Nat} {xs:List AV} {nb:Nat} (hc:Clo ts st) (ha:id∈ts) (hxs:∀ i∈bC xs,i∈ts) (h6:(bnd (tV st xs) fun p=>dQ id k ix off p.1 p.2 (p.2 id))=some s1) :
 Loc ts (Wr ts nb false) (fun s=>bnd (storeT xs s (.ownE id k ix off)) fun r=>some (AV.i (.lit undef),r)) st (.i (.lit undef)) s1:=by
 have hm:=ha;obtain⟨p,k1,k2⟩:=aI.1 h6;have hl:=SQ hc hxs (show tV st xs=some (p.1,p.2)from k1)
 have h2':Loc ts (Wr ts nb false) (fun s=>bnd (dQ id k ix off p.1 s (s id)) fun r=>some (AV.i (.lit undef),r)) p.2 (.i (.lit undef)) s1:=by
  unfold dQ at k2;split at k2
  ·rename_i k' es hes;obtain⟨j1,j2⟩:=aQ.1 k2;obtain⟨e,j3,j4⟩:=aI.1 j2;obtain⟨e',j5,j6⟩:=aI.1 j4;obtain⟨e'',j5',j6⟩:=aI.1 j6;unfold wO at j6;split at j6
   ·rename_i hl;injection j6 with j6;subst j6;refine .one (.inl ⟨rfl,hm⟩) fun st' hag=>?_
    rw[hag id hm,hes];simp[dQ,j1,j3,j5,j5',wO,hl]
   ·rename_i hl;split at j6
    ·rename_i j7;injection j6 with j8;subst j8;refine .one (.inl ⟨rfl,hm⟩) fun st' hag=>?_
     rw[hag id hm,hes];simp[dQ,j1,j3,j5,j5',wO,hl,j7]
    ·rename_i j7;injection j6 with j8;subst j8;refine .one (.inl ⟨rfl,hm⟩) fun st' hag=>?_
     rw[hag id hm,hes];simp[dQ,j1,j3,j5,j5',wO,hl,j7]
  ·rename_i k' es hes;obtain⟨j1,j2⟩:=aQ.1 k2;obtain⟨e,j3,j4⟩:=aI.1 j2;obtain⟨e',j5,j6⟩:=aI.1 j4;injection j6 with j6;subst j6;refine .one (.inl ⟨rfl,hm⟩) fun st' hag=>?_
   rw[hag id hm,hes];simp[dQ,j1,j3,j5]
  ·cases k2
 refine(hl.wr nb).seq (F2:=fun q s=>bnd (dQ id k ix off q s (s id)) fun r=>some (AV.i (.lit undef),r)) h2' fun st' s r e1 e2=>?_
 simp only[storeT];rw[show tV st' xs=_ from e1];exact e2
theorem ACH {ts:List Nat} {st s1:Store} {a:AV} {xs:List AV} {nb:Nat} (hc:Clo ts st) (ha:∀ i∈dE a,i∈ts) (hxs:∀ i∈bC xs,i∈ts) (h6:storeT xs st a=some s1) :
 Loc ts (Wr ts nb false) (fun s=>bnd (storeT xs s a) fun r=>some (AV.i (.lit undef),r)) st (.i (.lit undef)) s1:=by
 unfold storeT at h6
 cases a with
 | own id off =>
  simp only at h6;have hm:=ha id (by simp[dE]);unfold JY at h6;split at h6
  ·rename_i k es hes;obtain⟨U,u1,u2,u3⟩:=JX (nb:=nb) hc hm hxs h6;refine⟨U,u1,u2,fun st' hag=>?_⟩;have:=u3 st' hag;simp only[storeT]at this ⊢;rw[hag id hm,hes];exact this
  ·rename_i cs hes;obtain⟨U,u1,u2,u3⟩:=JZ (nb:=nb) hc ha hxs (show storeAt xs st (.own id off)=some s1 by unfold storeAt;simp only;rw[hes];exact h6);refine⟨U,u1,u2,fun st' hag=>?_⟩;have:=u3 st' hag;simp only[storeT,storeAt]at this ⊢;rw[hag id hm,hes]at this ⊢;exact this
  ·cases h6
 | ownE id k ix off =>
  simp only at h6;exact JX hc (ha id (by simp[dE])) hxs h6
 | _=>simp at h6
theorem ACI {ts:List Nat} {st s1:Store} {t:TypeId} {a x:AV} {nb:Nat} (hc:Clo ts st) (ha:∀ i∈dE a,i∈ts) (hx:∀ i∈dE x,i∈ts) (h:GY C t a x st=some s1) :
 Loc ts (Wr ts nb false) (fun s=>bnd (GY C t a x s) fun r=>some (AV.i (.lit undef),r)) st (.i (.lit undef)) s1:=by
 unfold GY at h ⊢;obtain⟨n,h1,h2⟩:=aI.1 h;obtain⟨xs,h3,h4⟩:=aI.1 h2;obtain⟨h5,h6⟩:=aQ.1 h4;simp only[h1,h3,dO,h5,jY];have hxs:∀ i∈bC xs,i∈ts:=fun i hi=>hx i (MM h3 i hi)
 unfold D7 at h6 ⊢;split at h6
 ·exact JZ hc ha hxs h6
 ·exact ACH hc ha hxs h6
theorem ANV {ts:List Nat} {st s1:Store} {t:TypeId} {a x v:AV} {nb:Nat} (ha:∀ i∈dE a,i∈ts) (hx:∀ i∈dE x,i∈ts) (h:ATT C t a x st nb=some (v,s1)) :
 Loc ts (Wr ts nb false) (fun s=>ATT C t a x s nb) st v s1:=by
 unfold ATT at h ⊢;obtain⟨e,h1,h2⟩:=aI.1 h;obtain⟨k,h3,h4⟩:=aI.1 h2;obtain⟨by_,h5,h6⟩:=aI.1 h4;obtain⟨z,h7,h8⟩:=aI.1 h6;obtain⟨h9,h10⟩:=aQ.1 h8;obtain⟨news,h11,h12⟩:=aI.1 h10;simp only[h1,h3,h5,h7,dO,h9,jY];have hel:∀ st',Agree ts st st'→dK st' k x=some news:=fun st' hag=>by rw[BK hag hx];exact h11
 unfold WP at h12
 cases a with
 | nils =>
  simp only at h12;unfold IP at h12;split at h12
  ·rename_i hem;injection h12 with h12;injection h12 with j1 j2;subst j1;subst j2;refine .here fun st' hag=>?_
   rw[hel st' hag];simp[WP,IP,hem]
  ·rename_i hem;obtain⟨j1,j2⟩:=aQ.1 h12;injection j2 with j2;injection j2 with j2 j3;subst j2;subst j3;refine .one (Wr.nb _ _ _) fun st' hag=>?_
   rw[hel st' hag];simp only[dO,WP];rw[hem];simp only[IP];rw[j1];rfl
 | osl id k' off len =>
  simp only at h12;have hm:=ha id (by simp[dE]);unfold vF at h12;split at h12
  ·rename_i k'' es hes;obtain⟨j1,j2⟩:=aQ.1 h12;injection j2 with j2;injection j2 with j2 j3;subst j2;subst j3;refine⟨[(nb,some (.arr k (es.take len++news))),(id,none)],?_,rfl,fun st' hag=>?_⟩
   ·intro p hp;simp at hp
    rcases hp with rfl|rfl
    ·exact Wr.nb _ _ _
    ·exact .inl ⟨rfl,hm⟩
   ·simp only;rw[hel st' hag];simp only[dO,WP];rw[hag id hm,hes];simp only[vF];rw[j1];rfl
  ·cases h12
 | _=>simp at h12
theorem AJQ {ts:List Nat} {st s1:Store} {t:TypeId} {a x v:AV} {nb:Nat} (ha:∀ i∈dE a,i∈ts) (hx:∀ i∈dE x,i∈ts) (h:WQ C t a st nb x=some (v,s1)) :
 Loc ts (Wr ts nb false) (fun s=>WQ C t a s nb x) st v s1:=by
 cases x with
 | osl id k' off n =>
  have hm:=hx id (by simp[dE]);simp only[WQ]at h ⊢;obtain⟨e,h1,h2⟩:=aI.1 h;obtain⟨k,h3,h4⟩:=aI.1 h2;obtain⟨by_,h5,h6⟩:=aI.1 h4;obtain⟨z,h7,h8⟩:=aI.1 h6;obtain⟨h9,h10⟩:=aQ.1 h8;obtain⟨news,h11,h12⟩:=aI.1 h10;simp only[h1,h3,h5,h7,dO,h9,jY]
  cases a with
  | nils =>
   simp only[kQ]at h12;obtain⟨j1,j2⟩:=aQ.1 h12;injection j2 with j2;injection j2 with j2 j3;subst j2;subst j3;refine⟨[(nb,some (.tre k news)),(id,none)],?_,rfl,fun st' hag=>?_⟩
   ·intro p hp;simp at hp
    rcases hp with rfl|rfl
    ·exact Wr.nb _ _ _
    ·exact .inl ⟨rfl,hm⟩
   ·simp only;rw[hag id hm,h11];simp only[dO,kQ];rw[j1];rfl
  | osl id1 k1 off1 len =>
   have hm1:=ha id1 (by simp[dE]);simp only[kQ]at h12;obtain⟨es,j0,h13⟩:=aI.1 h12;obtain⟨j1,j2⟩:=aQ.1 h13;injection j2 with j2;injection j2 with j2 j3;subst j2;subst j3;refine⟨[(nb,some (.tre k (es++news))),(id1,none),(id,none)],?_,rfl,fun st' hag=>?_⟩
   ·intro p hp;simp at hp
    rcases hp with rfl|rfl|rfl
    ·exact Wr.nb _ _ _
    ·exact .inl ⟨rfl,hm1⟩
    ·exact .inl ⟨rfl,hm⟩
   ·simp only;rw[hag id hm,h11];simp only[dO,kQ];have hu:upd st' id none id1=upd st id none id1:=by unfold upd;split;rfl;exact hag id1 hm1
    rw[hu,j0];simp only[dO];rw[j1];rfl
  | _=>simp[kQ]at h12
 | _=>simp[WQ]at h
theorem J3 {ts:List Nat} {st st':Store} {a:AV} (hag:Agree ts st st') (ha:∀ i∈dE a,i∈ts):AOF st' a=AOF st a:=by
 cases a with
 | osl id k off len=>simp only[AOF];rw[hag id (ha id (by simp[dE]))]
 | _=>rfl
theorem AET {ts:List Nat} {st s1:Store} {t:TypeId} {a x v:AV} {nb:Nat} (ha:∀ i∈dE a,i∈ts) (hx:∀ i∈dE x,i∈ts) (h:IQ C t a x st nb=some (v,s1)) :
 Loc ts (Wr ts nb false) (fun s=>IQ C t a x s nb) st v s1:=by
 unfold IQ at h;split at h
 ·rename_i hc;obtain⟨U,k1,k2,k3⟩:=AJQ ha hx h;refine⟨U,k1,k2,fun st' hag=>?_⟩;simp only[IQ];rw[J3 hag ha,J3 hag hx,if_pos hc];exact k3 st' hag
 ·rename_i hc;obtain⟨U,k1,k2,k3⟩:=ANV ha hx h;refine⟨U,k1,k2,fun st' hag=>?_⟩;simp only[IQ];rw[J3 hag ha,J3 hag hx,if_neg hc];exact k3 st' hag
theorem AIY {ts:List Nat} {st s1:Store} {t:TypeId} {a x v:AV} {nb:Nat} (ha:∀ i∈dE a,i∈ts) (hx:∀ i∈dE x,i∈ts) (h:Z7 C t a x st=some (v,s1)) :
 Loc ts (Wr ts nb false) (fun s=>Z7 C t a x s) st v s1:=by
 unfold Z7 at h ⊢;obtain⟨e,h1,h2⟩:=aI.1 h;obtain⟨k,h3,h4⟩:=aI.1 h2;obtain⟨h9,h10⟩:=aQ.1 h4;obtain⟨src,h11,h12⟩:=aI.1 h10;simp only[h1,h3,dO,h9,jY];have hel:∀ st',Agree ts st st'→dK st' k x=some src:=fun st' hag=>by rw[BK hag hx];exact h11
 unfold MI at h12
 cases a with
 | nils =>
  simp only at h12;injection h12 with h12;injection h12 with j1 j2;subst j1;subst j2;refine .here fun st' hag=>?_
  rw[hel st' hag];simp[MI]
 | osl id k' off len =>
  simp only at h12;have hm:=ha id (by simp[dE]);unfold o7 at h12;split at h12
  ·rename_i k'' es hes;obtain⟨j1,j2⟩:=aQ.1 h12;injection j2 with j2;injection j2 with j2 j3;subst j2;subst j3;refine .one (.inl ⟨rfl,hm⟩) fun st' hag=>?_
   rw[hel st' hag];simp only[dO,MI];rw[hag id hm,hes];simp only[o7];rw[j1];rfl
  ·cases h12
 | _=>simp at h12
theorem QD {ts:List Nat} {st:Store} (hc:Clo ts st):∀ (n:Nat) (todo seen:List Nat),(∀ i∈todo,i∈ts)→(∀ i∈seen,i∈ts)→∀ i∈reach st n todo seen,i∈ts
 | 0,_,_,_,h=>by simpa [reach]using h
 | _+1,[],_,_,h=>by simpa [reach]using h
 | n+1,i::todo,seen,ht,h=>by
  simp only[reach];split
  ·exact QD hc n _ _ (fun j hj=>ht j (by simp[hj])) h
  ·have hi:=ht i (by simp);refine QD hc n _ _ (fun j hj=>?_) (fun j hj=>?_)
   ·rcases zV.1 hj with hj|hj
    ·exact hc i hi j hj
    ·exact ht j (by simp[hj])
   ·rcases zV.1 hj with hj|hj
    ·exact h j hj
    ·simp at hj;subst hj;exact hi
theorem KI {ts:List Nat} {st st':Store} (hc:Clo ts st) (ha:Agree ts st st'):∀ (n:Nat) (todo seen:List Nat),(∀ i∈todo,i∈ts)→reach st' n todo seen=reach st n todo seen
 | 0,_,_,_=>rfl
 | _+1,[],_,_=>rfl
 | n+1,i::todo,seen,ht=>by
  simp only[reach];have hi:=ht i (by simp);rw[ha i hi,KI hc ha n todo seen (fun j hj=>ht j (by simp[hj])),KI hc ha n (iL (st i)++todo) (seen++[i]) (fun j hj=>?_)]
  rcases zV.1 hj with hj|hj
  ·exact hc i hi j hj
  ·exact ht j (by simp[hj])
theorem O5 {ts:List Nat} {st st':Store} (r:Nat→Option Nat) (ha:Agree ts st st'):∀ {ids:List Nat},(∀ i∈ids,i∈ts)→lU r st' ids=lU r st ids
 | [],_=>rfl
 | i::ids,h=>by simp only[lU];rw[ha i (h i (by simp)),O5 r ha (fun j hj=>h j (by simp[hj]))]
theorem LA {ts:List Nat} {st st':Store} (ha:Agree ts st st'):∀ {ids:List Nat},(∀ i∈ids,i∈ts)→rT st' ids=rT st ids
 | [],_=>rfl
 | i::ids,h=>by simp only[rT];rw[ha i (h i (by simp)),LA ha (fun j hj=>h j (by simp[hj]))]
def AGX (r:Nat→Option Nat) (nb:Nat):List Nat→StL→Upd
 | _,[]=>[]
 | i::ids,b::bs=>(i,DN r b)::AGX r nb ids bs
 | [],b::bs=>(nb,DN r b)::AGX r (nb+1) [] bs
theorem nG (r:Nat→Option Nat) (st:Store):∀ (nb:Nat) (ids:List Nat) (stl:StL),kF r st nb ids stl=fO (AGX r nb ids stl) st
 | _,[],[]=>rfl
 | _,_::_,[]=>rfl
 | nb,i::ids,b::bs=>by simp[kF,AGX,fO,nG r st nb ids bs]
 | nb,[],b::bs=>by simp[kF,AGX,fO,nG r st (nb+1) [] bs]
theorem QF (r:Nat→Option Nat):∀ (nb:Nat) (ids:List Nat) (stl:StL),∀ p∈AGX r nb ids stl,p.1∈ids∨(nb≤p.1∧p.1<nb+(stl.length-ids.length))
 | _,[],[]=>by simp[AGX]
 | _,_::_,[]=>by simp[AGX]
 | nb,i::ids,b::bs=>by
  intro p hp;simp only[AGX,zS]at hp
  rcases hp with rfl|hp
  ·simp
  ·rcases QF r nb ids bs p hp with h|h
   ·simp[h]
   ·right;simpa using h
 | nb,[],b::bs=>by
  intro p hp;simp only[AGX,zS]at hp
  rcases hp with rfl|hp
  ·right;simp
  ·rcases QF r (nb+1) [] bs p hp with h|h
   ·simp at h
   ·right;simp at h ⊢;omega
theorem PR {call:dI} {ts:List Nat} {st s1:Store} {nb:Nat} {own:Bool} {g:FuncId} {args:List AV} {v:AV} (hc:Clo ts st) (hv:∀ i∈bC args,i∈ts) (h:gT call own g args st nb=some (v,s1)) :
 Loc ts (Wr ts nb false) (fun s=>gT call own g args s nb) st v s1:=by
 unfold gT at h ⊢;obtain⟨p,h1,h2⟩:=aI.1 h
 have hfr:T9 ts (fun s=>uY s args own) st p.1 p.2∧∀ i∈bC p.1,i∈ts:=by
  cases own with
  | true =>
   simp only[uY,Option.some.injEq]at h1;subst h1;exact⟨⟨.here fun _ _=>rfl,hc⟩,hv⟩
  | false=>exact MR hc hv (show gL st args=some (p.1,p.2)from h1)
 have h2':Loc ts (Wr ts nb false) (fun s=>lS call g p.1 s nb (reach s LZ (bC p.1) [])) p.2 v s1:=by
  unfold lS at h2 ⊢;obtain⟨h3,h4⟩:=aQ.1 h2;obtain⟨q,h5,h6⟩:=aI.1 h4;unfold wD at h6;obtain⟨h7,h8⟩:=aQ.1 h6;injection h8 with h8;injection h8 with h8 h9;subst h8;subst h9;have hin:=QD hfr.1.2 LZ (bC p.1) [] hfr.2 (by simp);rw[nG];refine⟨AGX _ nb _ q.2,fun u hu=>?_,rfl,fun st' hag=>?_⟩
  ·rcases QF _ _ _ _ u hu with k|k
   ·exact .inl ⟨rfl,hin _ k⟩
   ·have:=(zR h7).2;exact .inr ⟨k.1,by omega⟩
  ·simp only;rw[KI hfr.1.2 hag LZ _ [] hfr.2,LA hag hin,O5 _ hag hin,h3,h5];simp only[jY,dO,wD];rw[h7,nG];rfl
 refine(hfr.1.wr nb).seq (F2:=fun us s=>lS call g us s nb (reach s LZ (bC us) [])) h2' fun st' s r e1 e2=>?_
 show bnd (uY st' args own) _=_;rw[show uY st' args own=_ from e1];exact e2
end
section
variable {C:Ctx}
theorem oV {α β:Type} {ts:List Nat} {ex:Nat→Prop} {o:Option α} {f:α→β} {st s1:Store} {v:β} (h:(bnd o fun a=>some (f a,st))=some (v,s1)):Loc ts ex (fun s=>bnd o fun a=>some (f a,s)) st v s1:=by
 obtain⟨a,h1,h2⟩:=aI.1 h;injection h2 with h2;injection h2 with h2 h3;subst h2;subst h3;exact .here fun st' _=>by simp[h1]
theorem AJ0 {P:Program} {ts:List Nat} {st st':Store} {s d:Option DK} {a:AV} (ha:Agree ts st st') (hv:∀ i∈dE a,i∈ts):NN P st' d a s=NN P st d a s:=by
 unfold NN;split
 ·unfold ABJ;split
  ·have:dK st' 1 a=dK st 1 a:=BK ha hv;rw[this]
  ·rfl
 ·rfl
theorem AG5 {env:Nat→AV} {ts:List Nat} {st s1:Store} {nb:Nat} {op:Op} {v:AV} (hg:wY op=none) (hc:(bI env op).2=false→Clo ts st) (hv:∀ i∈(bI env op).1,i∈ts) (h:eY C env st nb op=some (v,s1)) :
 Loc ts (Wr ts nb (bI env op).2) (fun s=>eY C env s nb op) st v s1:=by
 unfold eY at h;split at h
 ·injection h with h;injection h with h1 h2;subst h1;subst h2;exact .here fun _ _=>rfl
 ·injection h with h;injection h with h1 h2;subst h1;subst h2;exact .here fun _ _=>rfl
 ·exact oV (f:=fun v=>v) h
 ·obtain⟨z,h1,h2⟩:=aI.1 h;injection h2 with h2;injection h2 with h2 h3;subst h2;subst h3;exact .one (Wr.nb _ _ _) fun st' _=>by simp[eY,h1]
 ·obtain⟨z,h1,h2⟩:=aI.1 h;injection h2 with h2;injection h2 with h2 h3;subst h2;subst h3;exact .one (Wr.nb _ _ _) fun st' _=>by simp[eY,h1]
 ·rename_i t parts;obtain⟨g,h1,h2⟩:=aI.1 h;obtain⟨h3,h4⟩:=aQ.1 h2;obtain⟨z,h5,h6⟩:=aI.1 h4;obtain⟨ps,h7,h8⟩:=aI.1 h6;obtain⟨cs,h9,h10⟩:=aI.1 h8;injection h10 with h10;injection h10 with h11 h12;subst h11;subst h12;exact .here fun st' _=>by simp[eY,h1,h3,h5,h7,h9]
 ·rename_i t n parts;obtain⟨e,h1,h2⟩:=aI.1 h;obtain⟨ps,h3,h4⟩:=aI.1 h2;simp only[rG]at h4;split at h4
  ·rename_i hany;unfold AUH at h4;split at h4
   case h_2=>cases h4
   rename_i cs;obtain⟨k,h5,h6⟩:=aI.1 h4;obtain⟨z,h7,h8⟩:=aI.1 h6;obtain⟨h11,h12⟩:=aQ.1 h8;obtain⟨q,h13,h14⟩:=aI.1 h12;injection h14 with h16;injection h16 with h17 h18;subst h17;subst h18;have hl:=SQ (hc rfl) (fun i hi=>hv i (by simp only[bI];exact AU h3 (0,cs) (by simp) i hi)) (show tV st cs=some (q.1,q.2)from h13);refine(hl.wr nb).seq (F2:=fun l s=>some (AV.osl nb k 0 1,upd s nb (some (.tre k [l])))) ?_ fun st' s r e1 e2=>?_
   ·exact .one (Wr.nb _ _ _) fun st' _=>rfl
   ·simp only[eY,h1,h3,dO,rG,hany,if_true,AUH,h5,h7];rw[h11,jY,show tV st' cs=_ from e1];exact e2
  rename_i hany;unfold vM at h4;obtain⟨k,h5,h6⟩:=aI.1 h4;obtain⟨z,h7,h8⟩:=aI.1 h6;obtain⟨zi,h9,h10⟩:=aI.1 h8;obtain⟨h11,h12⟩:=aQ.1 h10;obtain⟨q,h13,h14⟩:=aI.1 h12;obtain⟨es,h15,h16⟩:=aI.1 h14;injection h16 with h16;injection h16 with h17 h18;subst h17;subst h18;have hl:=IC (hc rfl) (fun p hp i hi=>hv i (by simp only[bI];exact AU h3 p hp i hi)) (show eZ st ps=some (q.1,q.2)from h13);refine(hl.wr nb).seq (F2:=fun l s=>bnd (oO k (ARG n zi) l) fun es=>some (AV.osl nb k 0 n,upd s nb (some (.arr k es)))) ?_ fun st' s r e1 e2=>?_
  ·exact .one (Wr.nb _ _ _) fun st' _=>by simp[h15]
  ·simp only[eY,h1,h3,dO,rG,hany,if_false,vM,h5,h7,h9];rw[h11,jY,show eZ st' ps=_ from e1];exact e2
 ·rename_i t a;obtain⟨x,h1,h2⟩:=aI.1 h;injection h2 with h2;injection h2 with h2 h3;subst h2;subst h3;exact .here fun st' hag=>by simp only[eY];rw[AHW hag (fun i hi=>hv i hi),h1];rfl
 ·rename_i t a x;obtain⟨s2,h1,h2⟩:=aI.1 h;injection h2 with h2;injection h2 with h2 h3;subst h2;subst h3;exact ACI (hc rfl) (fun i hi=>hv i (by simp[bI,hi])) (fun i hi=>hv i (by simp[bI,hi])) h1
 ·exact oV (f:=fun v=>v) h
 ·exact oV (f:=fun v=>AV.i v) h
 ·exact oV (f:=fun v=>AV.i v) h
 ·rename_i s d x;obtain⟨y,h1,h2⟩:=aI.1 h;injection h2 with h2;injection h2 with h2 h3;subst h2;subst h3;exact .here fun st' hag=>by simp only[eY];rw[AJ0 hag (fun i hi=>hv i hi),h1];rfl
 ·rename_i t l c;unfold Y8 at h;split at h
  ·rename_i l c hl hcc;obtain⟨e,h1,h2⟩:=aI.1 h;obtain⟨k,h3,h4⟩:=aI.1 h2;obtain⟨by_,h5,h6⟩:=aI.1 h4;obtain⟨z,h7,h8⟩:=aI.1 h6;obtain⟨zi,h9,h10⟩:=aI.1 h8;obtain⟨h11,h12⟩:=aQ.1 h10;injection h12 with h12;injection h12 with h13 h14;subst h13;subst h14;refine .one (Wr.nb _ _ _) fun st' _=>?_
   simp only[eY];rw[hl,hcc];simp only[Y8,h1,h3,h5,h7,h9,dO];rw[h11,jY]
  ·cases h
 ·exact oV (f:=fun v=>v) h
 ·rename_i s x f;obtain⟨p,h1,h2⟩:=aI.1 h;obtain⟨n,h3,h4⟩:=aI.1 h2;obtain⟨h5,h6⟩:=aQ.1 h4;obtain⟨r,h7,h8⟩:=aI.1 h6;injection h8 with h8;injection h8 with h8 h9;subst h8;subst h9;exact .here fun st' _=>by simp only[eY,h1,h3,dO];rw[h5,jY,h7];rfl
 ·rename_i s x f;obtain⟨p,h1,h2⟩:=aI.1 h;obtain⟨n,h3,h4⟩:=aI.1 h2;obtain⟨g,h5,h6⟩:=aI.1 h4;obtain⟨r,h7,h8⟩:=aI.1 h6;injection h8 with h8;injection h8 with h8 h9;subst h8;subst h9;exact .here fun st' _=>by simp only[eY,h1,h3,h5,h7,dO]
 ·exact oV (f:=fun v=>v) h
 ·exact oV (f:=fun v=>v) h
 ·exact oV (f:=fun v=>v) h
 ·obtain⟨h1,h2⟩:=aQ.1 h;obtain⟨u,h4,h2⟩:=aI.1 h2;injection h2 with h2;injection h2 with h2 h3;subst h2;subst h3;exact .here fun st' _=>by simp only[eY];rw[h1,jY,h4,dO]
 ·rename_i b args ts';unfold jB at h;split at h
  ·rename_i t x e1 e2;obtain⟨n,h1,h2⟩:=aI.1 h;injection h2 with h2;injection h2 with h2 h3;subst h2;subst h3;exact .here fun st' _=>by simp only[eY];rw[e1,e2];simp[jB,h1]
  ·rename_i t u s x e1 e2;obtain⟨h1,h2⟩:=aQ.1 h;have hv':∀ i∈bC [s,x],i∈ts:=fun i hi=>hv i (show i∈bC (evL env args.toList)by rw[e2];exact hi)
   have hl:=AET (fun i hi=>hv' i (by simp[bC,hi])) (fun i hi=>hv' i (by simp[bC,hi])) h2;obtain⟨U,k1,k2,k3⟩:=hl;refine⟨U,k1,k2,fun st' hag=>?_⟩;simp only[eY];rw[e1,e2];simp only[jB];rw[h1,jY];exact k3 st' hag
  ·rename_i t u d x e1 e2;have hv':∀ i∈bC [d,x],i∈ts:=fun i hi=>hv i (show i∈bC (evL env args.toList)by rw[e2];exact hi)
   obtain⟨U,k1,k2,k3⟩:=AIY (nb:=nb) (fun i hi=>hv' i (by simp[bC,hi])) (fun i hi=>hv' i (by simp[bC,hi])) h;refine⟨U,k1,k2,fun st' hag=>?_⟩;simp only[eY];rw[e1,e2];exact k3 st' hag
  ·obtain⟨n,h1,h2⟩:=aI.1 h;injection h2 with h2;injection h2 with h2 h3;subst h2;subst h3;exact .here fun st' _=>by simp only[eY];simp[jB,h1]
  ·obtain⟨n,h1,h2⟩:=aI.1 h;injection h2 with h2;injection h2 with h2 h3;subst h2;subst h3;exact .here fun st' _=>by simp only[eY];simp[jB,h1]
  ·cases h
 ·cases h
theorem ACM {call:dI} {env:Nat→AV} {ts:List Nat} {st s1:Store} {nb:Nat} {op:Op} {v:AV} (hc:(bI env op).2=false→Clo ts st) (hv:∀ i∈(bI env op).1,i∈ts) (h:dB C call op env st nb=some (v,s1)) :
 Loc ts (Wr ts nb (bI env op).2) (fun s=>dB C call op env s nb) st v s1:=by
 unfold dB at h ⊢
 cases hg:wY op with
 | none =>
  rw[hg]at h;exact AG5 hg hc hv h
 | some q =>
  rw[hg]at h;obtain⟨args,ts',hop,hargs⟩:=LY hg;simp only[stepW]at h ⊢;have htouch:bI env op=(dE (ev env q.1)++bC (evL env q.2),false):=by rw[hop,← hargs];rfl
  rw[htouch]at hv hc ⊢;replace hc:=hc rfl;unfold NC at h ⊢;split at h
  ·rename_i g caps hfe;rw[hfe]at hv ⊢;split at h
   ·cases h
   rename_i hgy;simp only[hgy,if_false];refine PR hc (fun i hi=>hv i ?_) h
   have:∀ (a b:List AV),bC (a++b)=bC a++bC b:=by
    intro a b
    induction a with
    | nil=>rfl
    | cons c a ih=>simp[bC,ih]
   rw[this]at hi;simp only[dE,zV]at hi ⊢;exact hi.symm
  ·rename_i id hfe;rw[hfe]at hv ⊢;refine PR hc (fun i hi=>hv i ?_) h;simpa [dE,bC]using hi
  ·cases h
theorem o5 {env env':Nat→AV}:∀ {l:List Operand},(∀ x∈l,ev env' x=ev env x)→evL env' l=evL env l
 | [],_=>rfl
 | x::l,h=>by simp only[evL];rw[h x (by simp),o5 fun y hy=>h y (by simp[hy])]
theorem rP {env env':Nat→AV}:∀ {l:List (Nat×Operand)},(∀ x∈gJ l,ev env' x=ev env x)→partsOf env' l=partsOf env l
 | [],_=>rfl
 | p::l,h=>by simp only[partsOf];rw[h p.2 (by simp[gJ]),rP fun y hy=>h y (by simp[gJ,hy])]
theorem VR {env env':Nat→AV} {o:Option Operand} (h:∀ x∈o.toList,ev env' x=ev env x):evO env' o=evO env o:=by
 cases o with
 | none=>rfl
 | some x=>simp only[evO];rw[h x (by simp)]
theorem XO {env env':Nat→AV} {st:Store} {nb:Nat} {op:Op} (h:∀ x∈opsOf op,ev env' x=ev env x):eY C env' st nb op=eY C env st nb op:=by
 cases op with
 | slice t x lo hi mx =>
  have hx:=h x (by simp[opsOf]);have hlo:=VR (env:=env) (env':=env') (o:=lo) fun y hy=>h y (by simp[opsOf]at hy ⊢;simp[hy])
  have hhi:=VR (env:=env) (env':=env') (o:=hi) fun y hy=>h y (by simp[opsOf]at hy ⊢;simp[hy])
  cases mx with
  | none=>simp only[eY];rw[hx,hlo,hhi]
  | some m=>rfl
 | call c =>
  obtain⟨callee,args,ts⟩:=c
  cases callee with
  | builtin b =>
   simp only[eY];rw[o5 (l:=args.toList) fun y hy=>h y (show y∈args.toList from hy)]
  | value f=>rfl
  | invoke f m=>rfl
 | build t parts=>simp only[eY];rw[rP (l:=parts.toList) fun y hy=>h y hy]
 | buildSlice t n parts=>simp only[eY];rw[rP (l:=parts.toList) fun y hy=>h y hy]
 | makeFunc f first cs=>simp only[eY];rw[o5 (l:=cs.toList) fun y hy=>h y hy]
 | move x=>simp only[eY];rw[h x (by simp[opsOf])]
 | assign x=>simp only[eY];rw[h x (by simp[opsOf])]
 | pick c a b=>simp only[eY];rw[h c (by simp[opsOf]),h a (by simp[opsOf]),h b (by simp[opsOf])]
 | box t x=>simp only[eY];rw[h x (by simp[opsOf])]
 | load t x=>simp only[eY];rw[h x (by simp[opsOf])]
 | store t a x=>simp only[eY];rw[h a (by simp[opsOf]),h x (by simp[opsOf])]
 | nilCheck x=>simp only[eY];rw[h x (by simp[opsOf])]
 | binOp op t x y ty=>simp only[eY];rw[h x (by simp[opsOf]),h y (by simp[opsOf])]
 | unOp op ty x=>simp only[eY];rw[h x (by simp[opsOf])]
 | convert s d x=>simp only[eY];rw[h x (by simp[opsOf])]
 | makeSlice t l c=>simp only[eY];rw[h l (by simp[opsOf]),h c (by simp[opsOf])]
 | fieldAddr s x f=>simp only[eY];rw[h x (by simp[opsOf])]
 | field s x f=>simp only[eY];rw[h x (by simp[opsOf])]
 | indexAddr t x i=>simp only[eY];rw[h x (by simp[opsOf]),h i (by simp[opsOf])]
 | index t x i=>simp only[eY];rw[h x (by simp[opsOf]),h i (by simp[opsOf])]
 | extract x j=>simp only[eY];rw[h x (by simp[opsOf])]
 | _=>rfl
theorem U1 {call:dI} {env env':Nat→AV} {st:Store} {nb:Nat} {op:Op} (h:∀ x∈opsOf op,ev env' x=ev env x):dB C call op env' st nb=dB C call op env st nb:=by
 unfold dB
 cases hg:wY op with
 | none=>exact XO h
 | some q =>
  obtain⟨args,ts',hop,hargs⟩:=LY hg;rw[hop]at h;simp only[stepW];rw[h q.1 (show q.1∈q.1::args.toList by simp),o5 (l:=q.2) fun y hy=>h y (show y∈q.1::args.toList by rw[hargs];simp[hy])]
theorem TW {env env':Nat→AV} {op:Op} (h:∀ x∈opsOf op,ev env' x=ev env x):bI env' op=bI env op:=by
 cases op with
 | call c =>
  obtain⟨callee,args,ts⟩:=c
  cases callee with
  | builtin b =>
   have:=o5 (l:=args.toList) (env:=env) (env':=env') fun y hy=>h y (show y∈args.toList from hy)
   cases b<;>first|rfl|(simp only[bI];rw[this])
  | value f =>
   simp only[bI];rw[h f (show f∈f::args.toList by simp),o5 (l:=args.toList) fun y hy=>h y (show y∈f::args.toList by simp[hy])]
  | invoke f m=>rfl
 | buildSlice t n parts=>simp only[bI];rw[o5 (l:=gJ parts.toList) fun y hy=>h y hy]
 | load t x=>simp only[bI];rw[h x (by simp[opsOf])]
 | convert s d x=>simp only[bI];rw[h x (by simp[opsOf])]
 | store t a x=>simp only[bI];rw[h a (by simp[opsOf]),h x (by simp[opsOf])]
 | _=>rfl
end
section
variable {C:Ctx} {call:dI} {ops:Array Oper} {base:Nat}
abbrev St2:=(Nat→AV)×Store
abbrev Ft:=List Nat×Bool
def AjN (all:List Oper) (t:Ft) (o:Oper) (S:St2):Prop :=
 CK all S.1 o.guard=some true→(∀ x∈(bI S.1 o.op).1,x∈t.1)∧((bI S.1 o.op).2=false→Clo t.1 S.2)∧(t.2=true→(bI S.1 o.op).2=true)
def Step (C:Ctx) (call:dI) (all:List Oper) (base:Nat) (t:Ft) (i:Nat) (o:Oper) (S S':St2):Prop:=aOp C call all base i o S=some S'∧AjN all t o S
theorem O6 {t:Ft} {i:Nat} {o:Oper} {S S':St2} (h:Step C call ops.toList base t i o S S') :
 ∃ v U,S'=(BV S.1 o.dst v,fO U S.2)∧(∀ p∈U,Wr t.1 (base+wide*i) t.2 p.1) ∧
   ∀ env' st',(∀ x∈opsOf o.op,ev env' x=ev S.1 x)→CK ops.toList env' o.guard=CK ops.toList S.1 o.guard→Agree t.1 S.2 st' →
     Step C call ops.toList base t i o (env',st') (BV env' o.dst v,fO U st'):=by
 obtain⟨h1,h2⟩:=h;unfold aOp at h1;obtain⟨b,h3,h4⟩:=aI.1 h1
 cases b with
 | false =>
  simp only[yK,if_false,Option.some.injEq]at h4;refine⟨_,[],h4.symm,by simp,fun env' st' hx hw _=>⟨?_,fun hh=>?_⟩⟩
  ·unfold aOp;simp only;rw[hw,h3];simp[fO]
  ·simp only at hh;rw[hw,h3]at hh;simp at hh
 | true =>
  simp only[if_true]at h4;obtain⟨p,h5,h6⟩:=aI.1 h4;injection h6 with h6;obtain⟨k1,k2,k3⟩:=h2 h3;obtain⟨U,j1,j2,j3⟩:=ACM k2 k1 (show dB C call o.op S.1 S.2 _=some (p.1,p.2)from h5);refine⟨p.1,U,by rw[← h6,j2],fun q hq=>?_,fun env' st' hx hw hag=>⟨?_,fun _=>?_⟩⟩
  ·rcases j1 q hq with ⟨e1,e2⟩|e
   ·refine .inl ⟨?_,e2⟩
    cases ht:t.2 with
    | false=>rfl
    | true=>rw[k3 ht]at e1;cases e1
   ·exact .inr e
  ·unfold aOp;simp only;rw[hw,h3,dO,if_pos rfl,U1 hx,show dB C call o.op S.1 st' (base+wide*i)=_ from j3 st' hag];rfl
  ·simp only;rw[TW hx];exact⟨k1,fun e=>(k2 e).agree hag,k3⟩
def X0 (base:Nat) (t u:Ft) (i j:Nat):Prop :=
 ((∀ x∈t.1,x ∉ u.1)∨(t.2=true∧u.2=true))∧(∀ x∈u.1,¬ (base+wide*i≤x∧x<base+wide*i+wide))∧(∀ x∈t.1,¬ (base+wide*j≤x∧x<base+wide*j+wide))
theorem AY9 {env:Nat→AV} {dst:Option Tmp} {v:AV} {x:Operand} (h:∀ d,dst=some d→x≠.tmp d):ev (BV env dst v) x=ev env x:=by
 cases dst with
 | none=>rfl
 | some d =>
  cases x with
  | tmp t =>
   have hne:t≠d:=fun e=>h d rfl (by rw[e])
   simp[ev,BV,upd,hne]
  | _=>rfl
theorem NH {op:Op} {x:Operand} (h:x∈opsOf op):x∈op.operands:=by
 cases op with
 | call c =>
  obtain⟨callee,args,ts⟩:=c
  cases callee with
  | builtin b=>have h:x∈args.toList:=h;simpa [Op.operands,Call.operands]using h
  | value f=>have h:x∈f::args.toList:=h;simpa [Op.operands,Call.operands]using h
  | invoke f m=>have h:x∈args.toList:=h;simp only[Op.operands,Call.operands];simp at h ⊢;exact .inr h
 | build t parts =>
  have:∀ l:List (Nat×Operand),gJ l=l.map (·.2):=fun l=>by induction l<;>simp_all [gJ]
  simp only[opsOf,this]at h;simpa [Op.operands]using h
 | buildSlice t n parts =>
  have:∀ l:List (Nat×Operand),gJ l=l.map (·.2):=fun l=>by induction l<;>simp_all [gJ]
  simp only[opsOf,this]at h;simpa [Op.operands]using h
 | slice t x lo hi mx =>
  simp only[opsOf,zS,zV,Option.mem_toList]at h;simp only[Op.operands];simp
  rcases h with h|h|h
  ·exact .inl h
  ·exact .inr (.inl h)
  ·exact .inr (.inr (.inl h))
 | makeFunc f first cs =>
  have h:x∈cs.toList:=h;simp only[Op.operands];simp at h ⊢;exact .inr h
 | _=>first|(simp[opsOf]at h;done)|(simpa [opsOf,Op.operands]using h)
theorem AB9 {o:Oper} {env:Nat→AV} {dst:Option Tmp} {v:AV} (h:∀ d,dst=some d→d ∉ o.looksAt ops):∀ x∈opsOf o.op,ev (BV env dst v) x=ev env x:=by
 intro x hx;refine AY9 fun d hd e=>h d hd ?_
 subst e;exact yL _ (List.mem_filterMap.2 ⟨.tmp d,by simpa using NH hx,rfl⟩)
theorem O0 {o:Oper} {env:Nat→AV} {dst:Option Tmp} {v:AV} (h:∀ d,dst=some d→d ∉ o.looksAt ops):CK ops.toList (BV env dst v) o.guard=CK ops.toList env o.guard:=by
 cases hg:o.guard with
 | none=>rfl
 | some p =>
  obtain⟨g,want⟩:=p;simp only[CK];have hl:ops.toList[g]?=ops[g]?:=by simp
  rw[hl]
  cases hd:(ops[g]?).bind (·.dst)with
  | none=>rfl
  | some t =>
   simp only[TR]
   cases dst with
   | none=>rfl
   | some d =>
    have hne:t≠d:=fun e=>h d rfl (by subst e;simp[Oper.looksAt,hg,hd])
    simp[BV,upd,hne]
theorem AGY {env:Nat→AV} {x y:Option Tmp} {v u:AV} (h:∀ d,x=some d→y≠some d):BV (BV env x v) y u=BV (BV env y u) x v:=by
 cases x with
 | none=>rfl
 | some d =>
  cases y with
  | none=>rfl
  | some e =>
   have hne:d≠e:=fun q=>h d rfl (by rw[q])
   funext i;simp only[BV,upd];by_cases h1:i=e
   ·subst h1;simp[Ne.symm hne]
   ·simp[h1]
theorem AG4 {t u:Ft} {i j:Nat} {oi oj:Oper} {S Si Sij:St2} (hne:i≠j) (hap:oi.apart ops oj=true) (ht:X0 base t u i j)
 (h1:Step C call ops.toList base t i oi S Si) (h2:Step C call ops.toList base u j oj Si Sij):∃ Sj,Step C call ops.toList base u j oj S Sj∧Step C call ops.toList base t i oi Sj Sij:=by
 obtain⟨a1,a2,a3⟩:=Oper.apart_spec hap;obtain⟨v,U,rfl,hU,hi⟩:=O6 h1;obtain⟨y,V,rfl,hV,hj⟩:=O6 h2;obtain⟨d1,d2,d3⟩:=ht
 have n1:∀ p∈U,p.1 ∉ u.1:=fun p hp hm=>by
  rcases hU p hp with ⟨e1,e2⟩|e
  ·rcases d1 with d1|⟨d1,_⟩
   ·exact d1 _ e2 hm
   ·rw[d1]at e1;cases e1
  ·exact d2 _ hm e
 have n2:∀ p∈V,p.1 ∉ t.1:=fun p hp hm=>by
  rcases hV p hp with ⟨e1,e2⟩|e
  ·rcases d1 with d1|⟨_,d1⟩
   ·exact d1 _ hm e2
   ·rw[d1]at e1;cases e1
  ·exact d3 _ hm e
 have n3:∀ p∈U,∀ q∈V,p.1≠q.1:=fun p hp q hq e=>by
  rcases hV q hq with ⟨_,e2⟩|e2
  ·exact n1 p hp (e ▸ e2)
  ·rcases hU p hp with ⟨_,e3⟩|e3
   ·exact n2 q hq (e ▸ e3)
   ·rw[e]at e3;apply hne;unfold wide at e2 e3;omega
 have s1:=hj S.1 S.2 (fun x hx=>(AB9 a1 x hx).symm) (O0 a1).symm (fun x hx=>(iQ fun p hp e=>n1 p hp (e ▸ hx)).symm);refine⟨_,s1,?_⟩;have s2:=hi (BV S.1 oj.dst y) (fO V S.2) (AB9 a3) (O0 a3) (fun x hx=>iQ fun p hp e=>n2 p hp (e ▸ hx));rw[AGY (x:=oi.dst) (y:=oj.dst) a2,← ZM n3];exact s2
def AYU (C:Ctx) (call:dI) (ops:Array Oper) (base:Nat) (T:Nat→Ft) (Q:St2→Prop):Nat→Array Bool→St2→Prop
 | 0,listed,S=>Region.ready .any ops listed=[]∧Q S
 | fuel+1,listed,S=>(Region.ready .any ops listed=[]→Q S) ∧
  ∀ i∈Region.ready .any ops listed,∃ o S',ops[i]?=some o∧Step C call ops.toList base (T i) i o S S'∧AYU C call ops base T Q fuel (listed.setIfInBounds i true) S'
def DC (ops:Array Oper) (listed:Array Bool):Prop:=∀ k ok,ops[k]?=some ok→listed.getD k false=true→∀ e∈ok.after,Region.binds .any e=true→listed.getD e.on false=true
theorem DC.step {listed:Array Bool} (h:DC ops listed) {j:Nat} {oj:Oper} (hj:ops[j]?=some oj) (hp:∀ e∈oj.after,Region.binds .any e=true→listed.getD e.on false=true):DC ops (listed.setIfInBounds j true):=by
 intro k ok hk hl e he hb;have up:∀ m,listed.getD m false=true→(listed.setIfInBounds j true).getD m false=true:=fun m hm=>getD_set_true hm
 by_cases hjk:j=k
 ·subst hjk;rw[hj]at hk;injection hk with hk;subst hk
  exact up _ (hp e he hb)
 ·rw[getD_set_ne false hjk]at hl;exact up _ (h k ok hk hl e he hb)
theorem O3 {after:List Edge} {i:Nat} (h:CL after i=true):∃ e∈after,Region.binds .any e=true∧e.on=i:=by
 unfold CL at h;rw[List.any_eq_true]at h;obtain⟨e,he,hh⟩:=h;simp only[zT,beq_iff_eq]at hh;exact⟨e,he,hh.1,hh.2⟩
theorem qW {listed:Array Bool} (hd:DC ops listed) {i:Nat}:∀ (n:Nat) (after:List Edge),(∀ e∈after,Region.binds .any e=true→listed.getD e.on false=true)→fV ops.toList n after i=true→listed.getD i false=true
 | 0,after,hp,h=>by
  obtain⟨e,he,hb,rfl⟩:=O3 h;exact hp e he hb
 | n+1,after,hp,h=>by
  simp only[fV]at h;split at h
  ·rename_i h1;obtain⟨e,he,hb,rfl⟩:=O3 h1;exact hp e he hb
  ·rw[List.any_eq_true]at h;obtain⟨e,he,hh⟩:=h;simp only[zT]at hh;refine qW hd n _ ?_ hh.2;intro d hd' hb;unfold wE at hd';split at hd'
   ·rename_i o ho;exact hd e.on o (by simpa using ho) (hp e he hh.1) d (by simpa using hd') hb
   ·cases hd'
theorem AEW {T:Nat→Ft} {Q:St2→Prop} {i:Nat} {oi:Oper} (hi:ops[i]?=some oi) :
 ∀ (fuel:Nat) (listed:Array Bool) (S S':St2),DC ops listed →
   (∀ j oj,ops[j]?=some oj→j≠i→listed.getD j true=false→(∀ e∈oj.after,Region.binds .any e=true→e.on≠i)→oi.apart ops oj=true∧(fV ops.toList 3 oj.after.toList i=false→fV ops.toList 3 oi.after.toList j=false→X0 base (T i) (T j) i j)) →
   i∈Region.ready .any ops listed→Step C call ops.toList base (T i) i oi S S' →
   AYU C call ops base T Q fuel (listed.setIfInBounds i true) S'→AYU C call ops base T Q (fuel+1) listed S:=by
 intro fuel
 induction fuel with
 | zero =>
  intro listed S S' _ _ hr hs H;refine⟨fun h=>(by rw[h]at hr;cases hr),fun j hj=>?_⟩;by_cases hji:j=i
  ·subst hji;exact⟨oi,S',hi,hs,H⟩
  ·have:=ready_mono hj hji;rw[H.1]at this
   cases this
 | succ fuel ih =>
  intro listed S S' hdc hfree hr hs H;refine⟨fun h=>(by rw[h]at hr;cases hr),fun j hj=>?_⟩;by_cases hji:j=i
  ·subst hji;exact⟨oi,S',hi,hs,H⟩
  ·obtain⟨oj,Sij,hoj,hsj,Hj⟩:=H.2 j (ready_mono hj hji);obtain⟨hjun,oj',hoj',hall⟩:=mem_ready.1 hj;rw[hoj]at hoj';injection hoj' with hoj';subst hoj'
   have notw:∀ {x y:Nat} {l:Array Bool},l.getD y true=false→l.getD y false=true→False:=fun {x y l} h0 h1=>by
    rcases zD5 y l.size with h'|h'
    ·simp[h']at h0 h1;rw[h0]at h1;cases h1
    ·simp[zD0 h']at h1
   have hnot:∀ e∈oj.after,Region.binds .any e=true→e.on≠i:=fun e he hb heq=>by
    have h1:=hall e he hb;have h0:=(mem_ready.1 hr).1;rw[heq]at h1;exact notw (x:=0) h0 h1
   obtain⟨hiun,oi',hoi',halli⟩:=mem_ready.1 hr;rw[hi]at hoi';injection hoi' with hoi';subst hoi'
   have hw1:fV ops.toList 3 oj.after.toList i=false:=by
    cases hq:fV ops.toList 3 oj.after.toList i with
    | false=>rfl
    | true=>exact(notw (x:=0) hiun (qW hdc 3 _ (fun e he hb=>hall e (by simpa using he) hb) hq)).elim
   have hw2:fV ops.toList 3 oi.after.toList j=false:=by
    cases hq:fV ops.toList 3 oi.after.toList j with
    | false=>rfl
    | true=>exact(notw (x:=0) hjun (qW hdc 3 _ (fun e he hb=>halli e (by simpa using he) hb) hq)).elim
   obtain⟨hap,hta⟩:=hfree j oj hoj hji hjun hnot;obtain⟨Sj,k1,k2⟩:=AG4 (Ne.symm hji) hap (hta hw1 hw2) hs hsj;refine⟨oj,Sj,hoj,k1,ih (listed.setIfInBounds j true) Sj Sij (hdc.step hoj fun e he hb=>hall e he hb) ?_ (ready_mono hr (Ne.symm hji)) k2 (by rw[Array.setIfInBounds_comm _ _ hji];exact Hj)⟩;intro k ok hk hki hun hno;refine hfree k ok hk hki ?_ hno;by_cases hjk:j=k
   ·subst hjk;exact hjun
   ·rw[getD_set_ne true hjk]at hun;exact hun
def AYX (C:Ctx) (call:dI) (all:List Oper) (base:Nat):List Oper→List Ft→Nat→St2→St2→Prop
 | [],_,_,S,S'=>S=S'
 | o::os,t::ts,i,S,S'=>∃ S1,Step C call all base t i o S S1∧AYX C call all base os ts (i+1) S1 S'
 | _::_,[],_,_,_=>False
theorem SV {T:Nat→Ft} {Q:St2→Prop} (hT:∀ i j oi oj,ops[i]?=some oi→ops[j]?=some oj→i≠j→fV ops.toList 3 oj.after.toList i=false→fV ops.toList 3 oi.after.toList j=false→X0 base (T i) (T j) i j) :
 ∀ (l:List Oper) (ts:List Ft) (k:Nat) (listed:Array Bool) (S S':St2),DC ops listed→(∀ j,l[j]?=ops[k+j]?)→(∀ j t,ts[j]?=some t→T (k+j)=t) →
   Region.lexFrom .any ops l.length k listed=true→AYX C call ops.toList base l ts k S S'→Q S'→AYU C call ops base T Q l.length listed S
 | [],_,_,_,S,S',_,_,_,hB,h,hQ=>by
  simp only[AYX]at h;subst h;exact⟨by simpa [Region.lexFrom]using hB,hQ⟩
 | o::l,[],_,_,_,_,_,_,_,_,h,_=>by simp[AYX]at h
 | o::l,t::ts,k,listed,S,S',hdc,hl,ht,hB,h,hQ=>by
  have h0:ops[k]?=some o:=by simpa using (hl 0).symm
  simp only[zP,Region.lexFrom,zT]at hB;obtain⟨⟨hr,hf⟩,hB'⟩:=hB;obtain⟨S1,h1,h2⟩:=h;have htk:T k=t:=by simpa using ht 0 t rfl
  rw[← htk]at h1;have hrk:k∈Region.ready .any ops listed:=by simpa using hr
  refine AEW h0 l.length listed S S1 hdc (fun j oj hj hne hun hno=>⟨Region.free_spec h0 hf j oj hj hne hun hno,fun hn1 hn2=>hT k j o oj h0 hj (Ne.symm hne) hn1 hn2⟩) hrk h1 ?_;obtain⟨_,o',ho',hall⟩:=mem_ready.1 hrk;rw[h0]at ho';injection ho' with ho';subst ho'
  exact SV hT l ts (k+1) _ S1 S' (hdc.step h0 fun e he hb=>hall e he hb) (fun j=>by have:=hl (j+1);simpa [yC,zE7 1 j]using this)
   (fun j u hu=>by have:=ht (j+1) u (by simpa using hu);simpa [yC,zE7 1 j]using this) hB' h2 hQ
theorem PT (hC:CtxOk C) (hcall:CallOk C call) {T:Nat→Ft} {QA:St2→Prop} {Q:Exit→Act→World→Prop} {nt:Nat} {ds:List Deferred} {ρ:Option Nat} {w0:World} {m0:Mem} {φ0:Pl} (hs:∀ o∈ops,gN nt o=true)
 (hQ:∀ S a w,QA S→ARel ds w0 m0 φ0 nt (fun _=>True) S.1 S.2 a w→Q .normal a w) :
 ∀ (fuel:Nat) (listed:Array Bool) (S:St2) (a:Act) (w:World),AYU C call ops base T QA fuel listed S→ARel ds w0 m0 φ0 nt (J9 base fun j=>listed.getD j false=true) S.1 S.2 a w→wpAnyIn (FR ρ) 0 C.P .any ops Q fuel listed a w:=by
 have drop:∀ {ok:Nat→Prop} {S:St2} {a:Act} {w:World},ARel ds w0 m0 φ0 nt ok S.1 S.2 a w→ARel ds w0 m0 φ0 nt (fun _=>True) S.1 S.2 a w:=by
  rintro ok S a w ⟨⟨m,φ,k1,k2,k3,k4,k7⟩,k5,k6⟩;exact⟨⟨m,φ,k1,k2,k3,fun _ _=>trivial,k7⟩,k5,k6⟩
 intro fuel
 induction fuel with
 | zero=>intro listed S a w h hr;exact⟨h.1,hQ S a w h.2 (drop hr)⟩
 | succ fuel ih =>
  intro listed S a w h hr;refine⟨fun h0=>hQ S a w (h.1 h0) (drop hr),fun i hi=>?_⟩;obtain⟨o,S',ho,⟨hstep,_⟩,hnext⟩:=h.2 i hi;have hun:=(mem_ready.1 hi).1
  have hlt:i<listed.size:=by
   rcases zD5 i listed.size with h'|h'
   ·exact h'
   ·simp[zD0 h']at hun
  have hdn:¬ (listed.getD i false=true):=by
   intro h1;simp[hlt]at hun h1;rw[hun]at h1;cases h1
  refine pU hC hcall (dn:=fun j=>listed.getD j false=true) (base:=base) ho (hs o (Array.mem_of_getElem? ho)) hdn hstep hr fun a' w' hr'=>ih _ S' a' w' hnext ?_
  obtain⟨⟨m,φ,k1,k2,k3,k4,k7⟩,k5,k6⟩:=hr';refine⟨⟨m,φ,k1,k2,k3,fun id hne=>qC (fun j hj=>?_) (k4 id hne),k7⟩,k5,k6⟩
  rcases hj with hj|rfl
  ·exact getD_set_true hj
  ·simp[hlt]
def Chk (all:List Oper) (e:Nat×List Nat×Bool) (t:Ft) (o:Oper):Prop:=I1 t.1 e.2.1=true∨(t.2=true∧e.2.2=true)∨fV all 3 o.after.toList e.1=true
def AYW (base:Nat) (all os:List Oper) (ts:List Ft) (i:Nat) (log:List (Nat×List Nat×Bool)):Prop :=
 ∀ j o t,os[j]?=some o→ts[j]?=some t→Y4 base all o.after.toList t.1=true∧(∀ e∈log,Chk all e t o)∧∀ k t',k<j→ts[k]?=some t'→t'.1≠[]→Chk all (i+k,t') t o
theorem nX:∀ {xs ys:List Nat},I1 xs ys=true→∀ x∈xs,x ∉ ys
 | [],_,_=>by simp
 | x::xs,ys,h=>by
  simp only[I1,zT,Bool.not_eq_true']at h;intro y hy hm
  rcases zS.1 hy with rfl|hy
  ·rw[LU.2 hm]at h;cases h.1
  ·exact nX h.2 y hy hm
theorem GH:∀ {xs ys:List Nat},allIn xs ys=true→∀ x∈xs,x∈ys
 | [],_,_=>by simp
 | x::xs,ys,h=>by
  simp only[allIn,zT]at h;intro y hy
  rcases zS.1 hy with rfl|hy
  ·exact LU.1 h.1
  ·exact GH h.2 y hy
theorem OP {all:List Oper} {after:List Edge} {ns:List Nat} {ro:Bool}:∀ {log:List (Nat×List Nat×Bool)},ADE all after ns ro log=true→∀ e∈log,I1 ns e.2.1=true∨(ro=true∧e.2.2=true)∨fV all 3 after e.1=true
 | [],_=>by simp
 | e::log,h=>by
  simp only[ADE,zT,zE8]at h;intro d hd
  rcases zS.1 hd with rfl|hd
  ·have h1:=h.1;split at h1
   ·rename_i hc
    rcases hc with hc|hc
    ·exact .inl hc
    ·exact .inr (.inl hc)
   ·exact .inr (.inr h1)
  ·exact OP h.2 d hd
theorem LM (st:Store):∀ {l:List Nat} {i j:Nat},i∈l→j∈iL (st i)→j∈rU st l
 | [],_,_,h,_=>by cases h
 | a::l,i,j,h,k=>by
  simp only[rU,zV]
  rcases zS.1 h with rfl|h
  ·exact .inl k
  ·exact .inr (LM st h k)
theorem vU:∀ (os:List Oper) (i:Nat) (R R':RS),dC C call ops.toList true base os i R=some R' →
 ∃ ts,ts.length=os.length∧AYX C call ops.toList base os ts i (R.env,R.st) (R'.env,R'.st)∧AYW base ops.toList os ts i R.log
 | [],i,R,R',h=>by
  simp only[dC,Option.some.injEq]at h;subst h;exact⟨[],rfl,rfl,by intro j o t h;simp at h⟩
 | o::os,i,R,R',h=>by
  simp only[dC]at h;obtain⟨b,h1,h2⟩:=aI.1 h
  cases b with
  | true =>
   simp only[if_true]at h2;obtain⟨h3,h4⟩:=aQ.1 h2;obtain⟨p,h5,h6⟩:=aI.1 h4;obtain⟨ts,k0,k1,k2⟩:=vU os (i+1) _ R' h6;simp only[AdP,if_true,AYI,zT]at h3;obtain⟨c1,c2,c3,c4⟩:=h3
   let t:Ft:=((GV R.st (bI R.env o.op)).1,(bI R.env o.op).2)
   refine⟨t::ts,by simp[k0],⟨_,⟨?_,fun _=>⟨fun x hx=>GH c1 x hx,fun e x hx y hy=>GH (by rw[e]at c2;exact c2) y (LM _ hx hy),fun h=>h⟩⟩,k1⟩,?_⟩
   ·unfold aOp;exact aI.2 ⟨true,h1,by simp only[if_true];exact aI.2 ⟨p,h5,rfl⟩⟩
   ·intro j o' t' ho ht
    cases j with
    | zero =>
     simp at ho ht;subst ho;subst ht;exact⟨c3,fun e he=>OP c4 e he,fun k _ hk=>by omega⟩
    | succ j =>
     obtain⟨q1,q2,q3⟩:=k2 j o' t' (by simpa using ho) (by simpa using ht)
     have hmem:∀ e∈R.log,e∈V3 true o i R:=by
      intro e he;simp only[V3,if_true];unfold MV;split
      ·exact he
      ·exact zB5 _ he
     refine⟨q1,fun e he=>q2 e (hmem e he),fun k u hk hu hne=>?_⟩
     cases k with
     | zero =>
      simp at hu;subst hu
      have:(i,t)∈V3 true o i R:=by
       simp only[V3,if_true];unfold MV;split
       ·rename_i hq;exact absurd hq hne
       ·rename_i hq;rw[← hq];exact List.mem_cons_self
      exact q2 _ this
     | succ k =>
      have:=q3 k u (by omega) (by simpa using hu) hne
      rwa [show i+1+k=i+(k+1)by omega]at this
  | false =>
   simp only[yK,if_false]at h2;obtain⟨ts,k0,k1,k2⟩:=vU os (i+1) _ R' h2;refine⟨([],true)::ts,by simp[k0],⟨_,⟨?_,fun hh=>?_⟩,k1⟩,?_⟩
   ·unfold aOp;exact aI.2 ⟨false,h1,by simp⟩
   ·rw[show CK ops.toList R.env o.guard=some false from h1]at hh;simp at hh
   ·intro j o' t' ho ht
    cases j with
    | zero =>
     simp at ho ht;subst ho;subst ht;exact⟨rfl,fun e _=>.inl rfl,fun k _ hk=>by omega⟩
    | succ j =>
     obtain⟨q1,q2,q3⟩:=k2 j o' t' (by simpa using ho) (by simpa using ht);refine⟨q1,q2,fun k u hk hu hne=>?_⟩
     cases k with
     | zero=>simp at hu;subst hu;exact absurd rfl hne
     | succ k =>
      have:=q3 k u (by omega) (by simpa using hu) hne
      rwa [show i+1+k=i+(k+1)by omega]at this
theorem qB {base:Nat} {all:List Oper} {after:Array Edge}:∀ {ns:List Nat},Y4 base all after.toList ns=true→∀ x∈ns,∀ i,fV all 3 after.toList i=false→¬ (base+wide*i≤x∧x<base+wide*i+wide)
 | [],_=>by simp
 | n::ns,h=>by
  simp only[Y4,zT]at h;intro x hx i hi hh
  rcases zS.1 hx with rfl|hx
  ·have h1:=h.1;split at h1
   ·omega
   ·have:(x-base) / wide=i:=by unfold wide at *;omega
    rw[this,hi]at h1;cases h1
  ·exact qB h.2 x hx i hi hh
theorem AT9 (hC:CtxOk C) (hm:C.P.follows .mixedOrders=true) {call:dI} (hcall:CallOk C call):X5 C call:=by
 intro ops id base nt R' env st ds ρ w0 m0 φ0 a w Q hs hlex hrun hr hQ;simp only[Region.lexB,zT]at hlex;obtain⟨ts,hlen,hlx,hp⟩:=vU _ _ _ _ hrun
 let T:Nat→Ft:=fun i=>(ts[i]?).getD ([],true)
 have hget:∀ i o,ops[i]?=some o→∃ t,ts[i]?=some t∧T i=t:=fun i o ho=>by
  have hlt:i<ops.toList.length:=by simpa using (zN.1 ho).1
  rw[← hlen]at hlt;exact⟨ts[i],zX hlt,by simp[T,zX hlt]⟩
 have hT:∀ i j oi oj,ops[i]?=some oi→ops[j]?=some oj→i≠j→fV ops.toList 3 oj.after.toList i=false→fV ops.toList 3 oi.after.toList j=false→X0 base (T i) (T j) i j:=by
  intro i j oi oj hi hj hne hji hij;obtain⟨ti,gi,ei⟩:=hget i oi hi;obtain⟨tj,gj,ej⟩:=hget j oj hj;rw[ei,ej];obtain⟨pi1,_,pi3⟩:=hp i oi ti (by simpa using hi) gi;obtain⟨pj1,_,pj3⟩:=hp j oj tj (by simpa using hj) gj;refine⟨?_,fun x hx=>qB pj1 x hx i hji,fun x hx=>qB pi1 x hx j hij⟩
  rcases Nat.lt_or_gt_of_ne hne with h|h
  ·by_cases he:ti.1=[]
   ·rw[he];exact .inl (by simp)
   ·have:=pj3 i ti h gi he;rw[zH]at this
    rcases this with q|q|q
    ·exact .inl fun x hx hm=>nX q x hm hx
    ·exact .inr ⟨q.2,q.1⟩
    ·rw[hji]at q;cases q
  ·by_cases he:tj.1=[]
   ·rw[he];exact .inl (by simp)
   ·have:=pi3 j tj h gj he;rw[zH]at this
    rcases this with q|q|q
    ·exact .inl fun x hx hm=>nX q x hx hm
    ·exact .inr q
    ·rw[hij]at q;cases q
 refine wpIn_region_any hm (PT (QA:=fun S=>S=(R'.env,R'.st)) (base:=base) (T:=T) hC hcall hs (fun S a w h1 h2=>by subst h1;exact hQ a w h2) _ _ (env,st) a _ ?_ ?_)
 ·have:=SV (C:=C) (call:=call) (base:=base) (T:=T) (Q:=fun S=>S=(R'.env,R'.st)) hT ops.toList ts 0 (Array.replicate ops.size false) (env,st) (R'.env,R'.st) (by intro k ok _ hl;exfalso;rcases zD5 k ops.size with h'|h'<;>simp[h',zD0]at hl) (by simp)
   (fun j t ht=>by simp[T,ht]) (by simpa using hlex.2) hlx rfl
  simpa using this
 ·obtain⟨⟨m,φ,k1,k2,k3,k4,k7⟩,k5,k6⟩:=hr;exact⟨⟨m,φ,k1.drew,k2,k3.trans (.drew w m φ),fun id hne=>.inl (k4 id hne),k7.adv (.drew w m φ)⟩,k5,k6⟩
end
theorem AKI (P:Program):sS P:=fun _ _ h=>AC1 h
def M7 (P:Program):Bool:=(List.range P.types.size).all fun t=>match P.underlying t with
 | some (.struct fs)=>fs.toList.all fun f=>(iF P f.type).isSome
 | some (.array _ e)=>(iF P e).isSome
 | _=>true
theorem AIM {P:Program} (h:M7 P=true):TA P:=by
 constructor
 ·intro t fs hlt hu f hf;have:=zQ.1 h t (List.mem_range.2 hlt);rw[hu]at this;exact xD.1 (zQ.1 this f (by simpa using hf))
 ·intro t n e hlt hu;have:=zQ.1 h t (List.mem_range.2 hlt);rw[hu]at this;exact xD.1 this
def AB4 (P:Program):Bool:=P.funcs.toList.all fun fn=>(fn.name != "runtime.NumGoroutine") && match fn.body with
 | some c=>codeOk fn.ntmps c
 | none=>true
theorem AY4 {P:Program} (h:AB4 P=true):AYZ P:=by
 intro g fn c hf hb;have:=zQ.1 h fn (zU (by simpa using hf));simp only[zT,bne_iff_ne]at this;rw[hb]at this;exact this
def ABB (P:Program) (t:TypeId):Bool:=match P.underlying t with
 | some (.struct fs)=>match fs.toList with
  | [fb,fn]=>!P.stoodInHeld t && (!P.eqGuardType P.depth t && (fb.name != "_" && (fn.name != "_" && (fb.offset == 0 && (fn.offset == 1 && (match P.underlying fb.type,P.underlying fn.type with
   | some .bool,some (.int _)=>true
   | _,_=>false))))))
  | _=>false
 | _=>false
theorem AbW {P:Program} {t:TypeId} (h:ABB P t=true):AdU P t:=by
 unfold ABB at h;split at h
 ·rename_i fs hu;split at h
  ·rename_i fb fn hfs;simp only[zT,Bool.not_eq_true',bne_iff_ne,beq_iff_eq]at h;obtain⟨h1,h2,h3,h4,h5,h6,h7⟩:=h;split at h7
   ·rename_i k hb hn;refine⟨fb,fn,k,?_,h1,h2,h3,h4,h5,h6,hb,hn⟩;rw[hu];have:fs=#[fb,fn]:=by apply Array.ext';simpa using hfs
    rw[this]
   ·cases h7
  ·cases h
 ·cases h
theorem iU {C:Ctx} (hf:M7 C.P=true) (hn:AB4 C.P=true) (he:∀ t,C.eqT t=true→ABB C.P t=true) (hm:C.P.follows .mixedOrders=true) (hp:PrimOk C):SoundOk C :=
 have hc:CtxOk C:=⟨AKI _,AIM hf,fun t ht=>AbW (he t ht)⟩
 ⟨hc,AY4 hn,fun _ hcall=>AT9 hc hm hcall,hp⟩
theorem AGZ {C:Ctx} (h:∀ g,C.prim g=none):PrimOk C :=
 ⟨fun g args st p hp=>(by unfold bV at hp;rw[h g]at hp;cases hp),fun g args st r s hp=>(by unfold bV at hp;rw[h g]at hp;cases hp)⟩
structure Val where
 null:Bool
 n:Int
 deriving DecidableEq
inductive Ex where
 | mk (kind col:Int) (val:Val) (kids:List Ex)
def Ex.kind:Ex→Int | .mk k _ _ _=>k
def Ex.col:Ex→Int | .mk _ c _ _=>c
def Ex.val:Ex→Val | .mk _ _ v _=>v
def Ex.kids:Ex→List Ex | .mk _ _ _ ks=>ks
def Val.cells (v:Val):List IV:=[.bool v.null, .int v.n]
mutual
def Ex.cells:Ex→List IV
 | .mk k c v ks=>[.int k, .int c, .bool v.null, .int v.n, .isl (Ex.aB ks)]
def Ex.aB:List Ex→List (List IV)
 | []=>[]
 | e::es=>e.cells::Ex.aB es
end
theorem Ex.ind {P:Ex→Prop} (h:∀ k c v ks,(∀ e∈ks,P e)→P (.mk k c v ks)):(e:Ex)→P e
 | .mk k c v ks=>h k c v ks fun e he=>Ex.ind h e
termination_by e=>SizeOf.sizeOf e
decreasing_by
 have:=List.sizeOf_lt_of_mem he;simp;omega
theorem Ex.aA (e:Ex):e.cells=[.int e.kind, .int e.col, .bool e.val.null, .int e.val.n, .isl (Ex.aB e.kids)]:=by
 cases e;simp[Ex.cells,Ex.kind,Ex.col,Ex.val,Ex.kids]
@[simp] theorem Ex.bA:∀ (l:List Ex),(Ex.aB l).length=l.length
  | []=>by simp[Ex.aB]
  | _::l=>by simp[Ex.aB,Ex.bA l]
theorem Ex.aO:∀ {l:List Ex} {i:Nat} {e:Ex},l[i]?=some e→fT (Ex.aB l) i=some e.cells
 | [],_,_,h=>by simp at h
 | a::l,0,e,h=>by simp at h;subst h;simp[Ex.aB,fT]
 | a::l,i+1,e,h=>by simp only[Ex.aB,fT];exact Ex.aO (by simpa using h)
@[simp] theorem Ex.dH (e:Ex):e.cells.length=5:=by rw[Ex.aA];rfl
@[simp] theorem Ex.AUT (e:Ex):CY 5 e.cells=some e.cells:=by rw[Ex.aA];rfl
@[simp] theorem Ex.sH:∀ (l:List Ex),kV 5 (Ex.aB l)=true
  | []=>by simp[Ex.aB,kV]
  | e::l=>by
   have:=Ex.sH l;simp only[kV]at this;simp[Ex.aB,kV,Ex.dH,this]
theorem Ex.kM (a b:List Ex):Ex.aB (a++b)=Ex.aB a++Ex.aB b:=by
 induction a with
 | nil=>simp[Ex.aB]
 | cons e a ih=>simp[Ex.aB,ih]
@[simp] theorem Ex.BP:∀ (n:Nat) (l:List Ex),(Ex.aB l).take n=Ex.aB (l.take n)
  | 0,l=>by simp[Ex.aB]
  | n+1,[]=>by simp[Ex.aB]
  | n+1,e::l=>by simp[Ex.aB,Ex.BP n l]
theorem Ex.aZ (l:List Ex) (e:Ex):Ex.aB (l++[e])=Ex.aB l++[e.cells]:=by
 rw[Ex.kM];simp[Ex.aB]
theorem aN {α:Type} {l:List α} {i:Nat} {a:α} (h:l[i]?=some a):l.take (i+1)=l.take i++[a]:=by
 rw[List.take_add_one,h];rfl
mutual
def Ex.size:Ex→Nat
 | .mk _ _ _ ks=>1+Ex.aL ks
def Ex.aL:List Ex→Nat
 | []=>0
 | e::es=>e.size+Ex.aL es
end
theorem Ex.size_eq (e:Ex):e.size=1+Ex.aL e.kids:=by cases e;simp[Ex.size,Ex.kids]
theorem Ex.nA (e:Ex):1≤e.size:=by rw[Ex.size_eq];omega
theorem Ex.bN:∀ (l:List Ex),l.length≤Ex.aL l
 | []=>by simp[Ex.aL]
 | e::es=>by have:=Ex.bN es;have:=Ex.nA e;simp[Ex.aL];omega
theorem Ex.jE:∀ {l:List Ex} {e:Ex},e∈l→e.size≤Ex.aL l
 | a::l,e,h=>by
  rcases zS.1 h with rfl|h
  ·simp[Ex.aL]
  ·have:=Ex.jE h;simp[Ex.aL];omega
@[simp] theorem YN:∀ l:List IV,bC (lF l)=[]
  | []=>rfl
  | _::l=>by simp[lF,bC,dE,YN l]
@[simp] theorem AGO (r:Nat→Option Nat):∀ l:List IV,DL r (lF l)=lF l
  | []=>rfl
  | _::l=>by simp[lF,DL,ren,AGO r l]
@[simp] theorem AJR:∀ l:List IV,AKH (lF l)=some l
  | []=>rfl
  | _::l=>by simp[lF,AKH,AJR l,VZ]
@[simp] theorem Ex.ATE (e:Ex):CY 5 (lF e.cells)=some (lF e.cells):=by rw[Ex.aA];rfl
@[simp] theorem Ex.RY (e:Ex) (a b c d f:AV):splice [a,b,c,d,f] 0 (lF e.cells)=some (lF e.cells):=by rw[Ex.aA];rfl
def bZ (n:Int):Int:=if n=1∨n=2 then 0 else if n=10∨n=11 then 1 else if 3≤n∧n≤9 then 2 else -1
def bH (w:Int):Bool:=decide (1≤w∧w≤6)
def Val.ok (v:Val):Bool:=if v.null then decide (v.n=0)else decide (-9999≤v.n∧v.n≤9999)
def Val.zero:Val:=⟨false,0⟩
def Ex.zero:Ex:=.mk 0 0 Val.zero []
mutual
def Ex.thin:Ex→Prop
 | .mk _ _ _ ks=>ks.length<1000000000∧Ex.qZ ks
def Ex.qZ:List Ex→Prop
 | []=>True
 | e::es=>e.thin∧Ex.qZ es
end
theorem Ex.uA:∀ (l:List Ex),Ex.qZ l↔∀ k∈l,k.thin
 | []=>by simp[Ex.qZ]
 | e::es=>by simp[Ex.qZ,Ex.uA es]
theorem Ex.bM (e:Ex):e.thin↔e.kids.length<1000000000∧∀ k∈e.kids,k.thin:=by
 cases e;simp[Ex.thin,Ex.kids,Ex.uA]
def Ex.headOk (w:Int) (e:Ex):Bool:=if e.kind=1 then decide (0≤e.col) && (decide (e.col<w) && (!e.val.null && e.val.n == 0))else if e.kind=2 then decide (e.col=0) && e.val.ok else decide (e.col=0) && (!e.val.null && e.val.n == 0)
def Ex.vB (w:Int):Nat→Ex→Bool
 | 0,e=>decide ((e.kids.length:Int)=bZ e.kind) && (decide (bZ e.kind≤0) && e.headOk w)
 | n+1,e=>decide ((e.kids.length:Int)=bZ e.kind) && (e.headOk w && e.kids.all (Ex.vB w n))
theorem Ex.ADR (w:Int) (e:Ex):e.headOk w=false∨e.headOk w=true∧((e.kind=1∧0≤e.col∧e.col<w∧e.val.null=false∧e.val.n=0∧bZ e.kind=0)∨(e.kind=2∧e.col=0∧Val.ok ⟨e.val.null,e.val.n⟩=true∧True∧True∧bZ e.kind=0)∨(e.kind≠1∧e.kind≠2∧e.col=0∧e.val.null=false∧e.val.n=0∧True)):=by
 cases h:e.headOk w with
 | false=>exact .inl rfl
 | true =>
  refine .inr ⟨rfl,?_⟩;unfold Ex.headOk at h;by_cases h1:e.kind=1
  ·simp[h1]at h;simp[h1,h,bZ]
  ·by_cases h2:e.kind=2
   ·simp[h2]at h;simp[h2,h,bZ]
   ·simp[h1,h2]at h;simp[h1,h2,h]
def Ex.ok (w:Int) (e:Ex):Bool:=bH w && e.vB w 8
mutual
def Ex.sub (by_:List Ex):Ex→Ex
 | .mk k c v ks=>if k=1 then(by_[c.toNat]?).getD Ex.zero else .mk k c v (Ex.AVS by_ ks)
def Ex.AVS (by_:List Ex):List Ex→List Ex
 | []=>[]
 | e::es=>Ex.sub by_ e::Ex.AVS by_ es
end
theorem Ex.AA2 (by_:List Ex):∀ l,Ex.AVS by_ l=l.map (Ex.sub by_)
 | []=>by simp[Ex.AVS]
 | e::es=>by simp[Ex.AVS,Ex.AA2 by_ es]
theorem Ex.AC (by_:List Ex) {e b:Ex} (h:e.kind=1) (hb:by_[e.col.toNat]?=some b):e.sub by_=b:=by
 cases e;simp[Ex.kind,Ex.col]at h hb;simp[Ex.sub,h,hb]
theorem Ex.AB (by_:List Ex) {e:Ex} (h:e.kind≠1):e.sub by_=.mk e.kind e.col e.val (e.kids.map (Ex.sub by_)):=by
 cases e;simp[Ex.kind]at h;simp[Ex.sub,h,Ex.AA2,Ex.kind,Ex.col,Ex.val,Ex.kids]
mutual
def Ex.ZE (n:Int):Ex→Prop
 | .mk k c _ ks=>(k=1→0≤c∧c<n)∧(k≠1→Ex.WC n ks)
def Ex.WC (n:Int):List Ex→Prop
 | []=>True
 | e::es=>Ex.ZE n e∧Ex.WC n es
end
theorem Ex.PO (n:Int):∀ l,Ex.WC n l↔∀ k∈l,Ex.ZE n k
 | []=>by simp[Ex.WC]
 | e::es=>by simp[Ex.WC,Ex.PO n es]
theorem Ex.WB (n:Int) (e:Ex):e.ZE n↔(e.kind=1→0≤e.col∧e.col<n)∧(e.kind≠1→∀ k∈e.kids,k.ZE n):=by
 cases e;simp[Ex.ZE,Ex.kind,Ex.col,Ex.kids,Ex.PO]
mutual
def Ex.ht:Ex→Nat
 | .mk _ _ _ ks=>Ex.htL ks
def Ex.htL:List Ex→Nat
 | []=>0
 | e::es=>max (1+e.ht) (Ex.htL es)
end
theorem Ex.AMS (e:Ex):e.ht=Ex.htL e.kids:=by cases e;simp[Ex.ht,Ex.kids]
theorem Ex.AB0:∀ (l:List Ex) (e:Ex),Ex.htL (l++[e])=max (Ex.htL l) (1+e.ht)
 | [],e=>by simp[Ex.htL]
 | a::l,e=>by simp[Ex.htL,Ex.AB0 l e,Nat.max_assoc]
theorem Ex.API {n:Nat}:∀ (l:List Ex),Ex.htL l≤n↔∀ e∈l,1+e.ht≤n
 | []=>by simp[Ex.htL]
 | a::l=>by simp[Ex.htL,Nat.max_le,Ex.API l]
mutual
theorem Ex.AIA:∀ e:Ex,e.ht<e.size
 | .mk _ _ _ ks=>by have:=Ex.AB1 ks;simp[Ex.ht,Ex.size];omega
theorem Ex.AB1:∀ l:List Ex,Ex.htL l≤Ex.aL l
 | []=>by simp[Ex.htL]
 | a::l=>by have:=Ex.AIA a;have:=Ex.AB1 l;simp[Ex.htL,Ex.aL];omega
end
theorem Ex.gF:∀ e:Ex,e.size<1000000000→e.thin:=by
 intro e
 induction e using Ex.ind with
 | h k c v ks ih =>
  intro hs;rw[Ex.bM];simp only[Ex.kids];have h1:=Ex.bN ks;simp[Ex.size]at hs;exact⟨by omega,fun e he=>ih e he (by have:=Ex.jE he;omega)⟩
mutual
def Ex.wf (w:Int):Ex→Bool
 | .mk k c v ks=>decide ((ks.length:Int)=bZ k) && (Ex.headOk w (.mk k c v ks) && Ex.wfL w ks)
def Ex.wfL (w:Int):List Ex→Bool
 | []=>true
 | e::es=>Ex.wf w e && Ex.wfL w es
end
theorem Ex.AFK (w:Int):∀ l,Ex.wfL w l=l.all (Ex.wf w)
 | []=>by simp[Ex.wfL]
 | e::es=>by simp[Ex.wfL,Ex.AFK w es]
theorem Ex.PW (w:Int) (e:Ex):e.wf w=(decide ((e.kids.length:Int)=bZ e.kind) && (e.headOk w && e.kids.all (Ex.wf w))):=by
 cases e;rw[Ex.wf,Ex.AFK];rfl
theorem Ex.TU (w:Int):∀ (n:Nat) (e:Ex),e.vB w n=(e.wf w && decide (e.ht≤n))
 | 0,e=>by
  rw[Ex.PW,Ex.AMS,zC9];simp only[Ex.vB,zT,zM];constructor
  ·rintro⟨h1,h2,h3⟩
   have:e.kids=[]:=by cases h:e.kids with
    | nil=>rfl
    | cons a l=>rw[h]at h1;simp at h1;omega
   simp[this,h3,Ex.htL];rw[this]at h1;simpa using h1
  ·rintro⟨⟨h1,h2,h3⟩,h4⟩
   have:e.kids=[]:=by cases h:e.kids with
    | nil=>rfl
    | cons a l=>rw[h]at h4;simp[Ex.htL]at h4
   rw[this]at h1;simp at h1;simp[this,← h1,h2]
 | n+1,e=>by
  rw[Ex.PW,Ex.AMS,zC9];simp only[Ex.vB,zT,zM,zQ,Ex.API];constructor
  ·rintro⟨h1,h2,h3⟩;refine⟨⟨h1,h2,fun x hx=>?_⟩,fun x hx=>?_⟩
   ·have:=h3 x hx;rw[Ex.TU w n x]at this;simp at this;exact this.1
   ·have:=h3 x hx;rw[Ex.TU w n x]at this;simp at this;omega
  ·rintro⟨⟨h1,h2,h3⟩,h4⟩;refine⟨h1,h2,fun x hx=>?_⟩;rw[Ex.TU w n x];have:=h4 x hx;simp[h3 x hx];omega
theorem Ex.AFN (w:Int):∀ (n:Nat) (e:Ex),e.vB w n=true→e.size+1≤2 ^ (n+1)
 | n,e,h=>by
  have hk:bZ e.kind≤2:=by
   unfold bZ;split;· omega
   split;· omega
   split<;>omega
  rw[Ex.size_eq];have hw:=h;rw[Ex.TU,Ex.PW]at hw;simp only[zT,zM]at hw;obtain⟨⟨h1,h2,h3⟩,h4⟩:=hw
  cases n with
  | zero =>
   have:e.kids=[]:=by cases h:e.kids with
    | nil=>rfl
    | cons a l=>rw[Ex.AMS,h]at h4;simp[Ex.htL]at h4
   simp[this,Ex.aL]
  | succ n =>
   simp only[Ex.vB,zT,zM,zQ]at h
   have key:∀ l:List Ex,(∀ x∈l,x.vB w n=true)→Ex.aL l+l.length≤l.length*2 ^ (n+1):=by
    intro l
    induction l with
    | nil=>intro _;simp[Ex.aL]
    | cons a l ih =>
     intro hl;have a1:=Ex.AFN w n a (hl a (by simp));have a2:=ih fun x hx=>hl x (by simp[hx])
     simp only[Ex.aL,zP,Nat.add_mul,Nat.one_mul];omega
   have a1:=key e.kids h.2.2;have a2:e.kids.length≤2:=by omega
   have a3:e.kids.length*2 ^ (n+1)≤2*2 ^ (n+1):=Nat.mul_le_mul_right _ a2;have a4:2 ^ (n+1+1)=2*2 ^ (n+1):=by rw[zE9];omega
   have a5:2≤2 ^ (n+1):=by rw[zE9];have:=zD6 (n:=n);omega
   rcases zD5 1 e.kids.length with h5|h5
   ·have:e.kids.length=2:=by omega
    rw[this]at a1;omega
   ·have:e.kids.length*2 ^ (n+1)≤1*2 ^ (n+1):=Nat.mul_le_mul_right _ h5;have:=zB9 e.kids.length
    rcases Nat.eq_zero_or_pos e.kids.length with h6|h6
    ·rw[h6]at a1;omega
    ·omega
theorem Ex.gK {w:Int} {e:Ex} (h:e.ok w=true):e.size<1000:=by
 simp[Ex.ok]at h;have:=Ex.AFN w 8 e h.2;omega
mutual
def Ex.htS (hs:List Nat):Ex→Nat
 | .mk k c _ ks=>if k=1 then(hs[c.toNat]?).getD 0 else Ex.AKC hs ks
def Ex.AKC (hs:List Nat):List Ex→Nat
 | []=>0
 | e::es=>max (1+Ex.htS hs e) (Ex.AKC hs es)
end
theorem Ex.AID (hs:List Nat) {n:Nat}:∀ (l:List Ex),Ex.AKC hs l≤n↔∀ e∈l,1+e.htS hs≤n
 | []=>by simp[Ex.AKC]
 | a::l=>by simp[Ex.AKC,Nat.max_le,Ex.AID hs l]
theorem Ex.AIC (hs:List Nat) {e:Ex} {h:Nat} (hk:e.kind=1) (hh:hs[e.col.toNat]?=some h):e.htS hs=h:=by
 cases e;simp[Ex.kind,Ex.col]at hk hh;simp[Ex.htS,hk,hh]
theorem Ex.AIB (hs:List Nat) {e:Ex} (hk:e.kind≠1):e.htS hs=Ex.AKC hs e.kids:=by
 cases e;simp[Ex.kind]at hk;simp[Ex.htS,hk,Ex.kids]
theorem Ex.gX {w:Int} {e k:Ex} (h:e.wf w=true) (hk:k∈e.kids):k.wf w=true:=by
 rw[Ex.PW]at h;simp at h;exact h.2.2 k hk
theorem Ex.mV {w:Int} {e:Ex} (h:e.wf w=true) (hk:e.kind=1):0≤e.col∧e.col<w∧e.kids=[]:=by
 rw[Ex.PW]at h;simp[Ex.headOk,hk,bZ]at h;exact⟨h.2.1.1,h.2.1.2.1,h.1⟩
theorem Ex.J2 {w:Int}:∀ (e:Ex),e.wf w=true→e.ZE w:=by
 intro e
 induction e using Ex.ind with
 | h k c v ks ih =>
  intro h;rw[Ex.WB];refine⟨fun hk=>?_,fun _ x hx=>ih x hx (Ex.gX h hx)⟩;have:=Ex.mV h hk;exact⟨this.1,this.2.1⟩
theorem Ex.AIE {f:Ex→Ex} {hs:List Nat}:∀ {l:List Ex},(∀ e∈l,(f e).ht=e.htS hs)→Ex.htL (l.map f)=Ex.AKC hs l
 | [],_=>by simp[Ex.htL,Ex.AKC]
 | a::l,h=>by
  simp only[yS,Ex.htL,Ex.AKC,h a (by simp)];rw[Ex.AIE fun e he=>h e (by simp[he])]
theorem Ex.AY1 {w:Int} (l:List Ex) (hw:w=l.length):∀ (e:Ex),e.wf w=true→(e.sub l).ht=e.htS (l.map Ex.ht):=by
 intro e
 induction e using Ex.ind with
 | h k c v ks ih =>
  intro h;by_cases hk:k=1
  ·obtain⟨h0,h1,_⟩:=Ex.mV h hk;have hi:c.toNat<l.length:=by simp[Ex.col]at h0 h1;omega
   have hb:=zX hi;rw[Ex.AC l (e:=.mk k c v ks) hk hb,Ex.AIC (l.map Ex.ht) (e:=.mk k c v ks) (h:=l[c.toNat].ht) hk (by simp[Ex.col,hb])]
  ·rw[Ex.AB l (e:=.mk k c v ks) hk,Ex.AIB _ (e:=.mk k c v ks) hk];simp only[Ex.ht,Ex.kids];exact Ex.AIE fun x hx=>ih x hx (Ex.gX h hx)
theorem Ex.AV6 {m w:Int} (l:List Ex) (hm:m=l.length) (hl:∀ b∈l,b.wf w=true):∀ (e:Ex),e.wf m=true→(e.sub l).wf w=true:=by
 intro e
 induction e using Ex.ind with
 | h k c v ks ih =>
  intro h;by_cases hk:k=1
  ·obtain⟨h0,h1,_⟩:=Ex.mV h hk;have hi:c.toNat<l.length:=by simp[Ex.col]at h0 h1;omega
   have hb:=zX hi;rw[Ex.AC l (e:=.mk k c v ks) hk hb];exact hl _ (zA3 hi)
  ·rw[Ex.AB l (e:=.mk k c v ks) hk];have h':=h;rw[Ex.PW]at h ⊢;simp[Ex.kids,Ex.kind,Ex.headOk,Ex.col,Ex.val,hk]at h ⊢;exact⟨of_decide_eq_true h.1,h.2.1,fun x hx=>ih x hx (Ex.gX h' hx)⟩
def qD:List Nat→List (List IV)
 | []=>[]
 | h::hs=>[.int h]::qD hs
@[simp] theorem V5:∀ hs:List Nat,(qD hs).length=hs.length
  | []=>rfl
  | _::hs=>by simp[qD,V5 hs]
theorem V4:∀ {hs:List Nat} {i h:Nat},hs[i]?=some h→fT (qD hs) i=some [.int h]
 | [],_,_,e=>by simp at e
 | a::hs,0,h,e=>by simp at e;subst e;simp[qD,fT]
 | a::hs,i+1,h,e=>by simp only[qD,fT];exact V4 (by simpa using e)
noncomputable def AE7 (cs:List IV) (st:StL):Option (AV×StL):=@ite _ (∃ e:Ex,e.size<1000000000∧e.cells=cs) (Classical.propDecidable _) (some (.i (.agg cs),st)) none
noncomputable def Z6:List AV→StL→Option (AV×StL)
 | [.i (.iref cs)],[]=>AE7 cs []
 | [.ownE 0 5 j 0],[some (.arr 5 es)]=>bnd es[j]? fun cs=>AE7 cs [some (.arr 5 es)]
 | _,_=>none
theorem ANE {e:Ex} {st:StL} (h:e.size<1000000000):AE7 e.cells st=some (.i (.agg e.cells),st):=by
 unfold AE7;exact if_pos ⟨e,h,rfl⟩
theorem PI {cs:List IV} {st:StL} {r:AV×StL} (h:AE7 cs st=some r):∃ e:Ex,e.size<1000000000∧cs=e.cells∧r=(.i (.agg e.cells),st):=by
 unfold AE7 at h;by_cases hc:∃ e:Ex,e.size<1000000000∧e.cells=cs
 ·rw[if_pos hc]at h;obtain⟨e,h1,rfl⟩:=hc;injection h with h;exact⟨e,h1,rfl,h.symm⟩
 ·rw[if_neg hc]at h;cases h
theorem ABH {e:Ex} (h:e.size<1000000000):Z6 [.i (.iref e.cells)] []=some (.i (.agg e.cells),[]):=ANE h
theorem AE6 {args:List AV} {st:StL} {r:AV×StL} (h:Z6 args st=some r):∃ e:Ex,e.size<1000000000∧r=(.i (.agg e.cells),st) ∧
 ((args=[.i (.iref e.cells)]∧st=[])∨∃ j es,args=[.ownE 0 5 j 0]∧st=[some (.arr 5 es)]∧es[j]?=some e.cells):=by
 unfold Z6 at h;split at h
 ·obtain⟨e,h1,rfl,rfl⟩:=PI h;exact⟨e,h1,rfl, .inl ⟨rfl,rfl⟩⟩
 ·rename_i j es;obtain⟨cs,h0,h⟩:=aI.1 h;obtain⟨e,h1,rfl,rfl⟩:=PI h;exact⟨e,h1,rfl, .inr ⟨j,es,rfl,rfl,h0⟩⟩
 ·cases h
theorem l9 {m:Mem} {es:List (List IV)} {v:Value} (h:IRep m (.isl es) v) :
 (es=[]∧∃ ao cap,v=.slice ao 0 cap)∨(es≠[]∧∃ b off k cap,v=.slice (some ⟨b,off,none⟩) es.length cap∧IElems m b off k es∧es.length≤cap):=by
 cases h with
 | isl0 ao cap hc=>exact .inl ⟨rfl,ao,cap,rfl⟩
 | isl hn he hc=>exact .inr ⟨hn,_,_,_,_,rfl,he,hc⟩
theorem eO {m:Mem} {c v:Value} (h:IRep m (.lit c) v):v=c:=by cases h;rfl
theorem IAt.inv {m:Mem} {b o:Nat} {c:IV} {cs:List IV} (h:IAt m b o (c::cs)):∃ v,m b o=some v∧IRep m c v∧v.oneCell'=true∧IAt m b (o+1) cs:=by
 cases h with|cons a r q t=>exact⟨_,a,r,q,t⟩
structure ExAt (m:Mem) (b o:Nat) (e:Ex) (v:Value):Prop where
 c0:m b o=some (.int .i64 e.kind)
 c1:m b (o+1)=some (.int .i64 e.col)
 c2:m b (o+2)=some (.bool e.val.null)
 c3:m b (o+3)=some (.int .i64 e.val.n)
 c4:m b (o+4)=some v
 kids:IRep m (.isl (Ex.aB e.kids)) v
theorem FY {m:Mem} {b o:Nat} {e:Ex} (h:IAt m b o e.cells):∃ v,ExAt m b o e v:=by
 rw[Ex.aA]at h;obtain⟨v0,a0,r0,-,h⟩:=h.inv;obtain⟨v1,a1,r1,-,h⟩:=h.inv;obtain⟨v2,a2,r2,-,h⟩:=h.inv;obtain⟨v3,a3,r3,-,h⟩:=h.inv;obtain⟨v4,a4,r4,-,-⟩:=h.inv;rw[eO r0]at a0;rw[eO r1]at a1;rw[eO r2]at a2;rw[eO r3]at a3;exact⟨v4,a0,a1,a2,a3,a4,r4⟩
theorem pO {m:Mem} {es:List (List IV)} {v:Value} (h:IRep m (.isl es) v):v.oneCell'=true:=by
 cases h<;>rfl
theorem AH7 {m:Mem} {b o:Nat} {e:Ex} {v:Value} (h:ExAt m b o e v):IAt m b o e.cells:=by
 rw[Ex.aA];exact .cons h.c0 (.lit _) rfl (.cons h.c1 (.lit _) rfl (.cons h.c2 (.lit _) rfl (.cons h.c3 (.lit _) rfl (.cons h.c4 h.kids (pO h.kids) (.nil _ _)))))
theorem o6 {m:Mem} {b o k:Nat} {e:Ex} {l:List Ex} (h:IElems m b o k (Ex.aB (e::l))):k=5∧IAt m b o e.cells∧IElems m b (o+5) 5 (Ex.aB l):=by
 simp only[Ex.aB]at h
 cases h with
 | cons a hk r =>
  rw[Ex.dH]at hk;subst hk;exact⟨rfl,a,r⟩
theorem PD {m:Mem} {b:Nat}:∀ {o k k':Nat} {l l':List Ex},(∀ e∈l,∀ e' b o,IAt m b o e.cells→IAt m b o e'.cells→e=e')→l.length=l'.length→IElems m b o k (Ex.aB l)→IElems m b o k' (Ex.aB l')→l=l'
 | _,_,_,[],[],_,_,_,_=>rfl
 | o,k,k',a::l,a'::l',ih,hl,h,h'=>by
  obtain⟨rfl,h1,h2⟩:=o6 h;obtain⟨rfl,h3,h4⟩:=o6 h';rw[ih a (by simp) a' b o h1 h3,PD (fun e he=>ih e (by simp[he])) (by simpa using hl) h2 h4]
 | _,_,_,[],_::_,_,hl,_,_=>by simp at hl
 | _,_,_,_::_,[],_,hl,_,_=>by simp at hl
theorem AAW {m:Mem} {l l':List Ex} {v:Value} (ih:∀ e∈l,∀ e' b o,IAt m b o e.cells→IAt m b o e'.cells→e=e') (h:IRep m (.isl (Ex.aB l)) v) (h':IRep m (.isl (Ex.aB l')) v):l=l':=by
 have nil:∀ {l:List Ex},Ex.aB l=[]→l=[]:=fun {l} e=>by cases l with|nil=>rfl|cons a l=>simp[Ex.aB]at e
 rcases l9 h with ⟨e1,ao,cap,hv⟩|⟨e1,b,off,k,cap,hv,hel,_⟩
 ·rcases l9 h' with ⟨e2,_⟩|⟨e2,b',off',k',cap',hv',_⟩
  ·rw[nil e1,nil e2]
  ·rw[hv]at hv';injection hv' with _ q _;rw[Ex.bA]at q;exact absurd (by cases l' with|nil=>rfl|cons a l=>simp at q) e2
 ·rcases l9 h' with ⟨e2,ao,cap',hv'⟩|⟨e2,b',off',k',cap',hv',hel',_⟩
  ·rw[hv]at hv';injection hv' with _ q _;rw[Ex.bA]at q;exact absurd (by cases l with|nil=>rfl|cons a l=>simp at q) e1
  ·rw[hv]at hv';injection hv' with q1 q2 _;injection q1 with q1;injection q1 with q1 q3;subst q1;subst q3;rw[Ex.bA,Ex.bA]at q2;exact PD ih q2 hel hel'
theorem AT7 {m:Mem}:∀ (e e':Ex) (b o:Nat),IAt m b o e.cells→IAt m b o e'.cells→e=e':=by
 intro e
 induction e using Ex.ind with
 | h k c v ks ih =>
  intro e' b o h h';obtain⟨v1,h⟩:=FY h;obtain⟨v2,h'⟩:=FY h';obtain⟨k',c',v',ks'⟩:=e';have e0:=h.c0.symm.trans h'.c0;have e1:=h.c1.symm.trans h'.c1;have e2:=h.c2.symm.trans h'.c2;have e3:=h.c3.symm.trans h'.c3;have e4:=h.c4.symm.trans h'.c4;simp only[Ex.kind,Ex.col,Ex.val,Option.some.injEq,Value.int.injEq,Value.bool.injEq,true_and]at e0 e1 e2 e3 e4;subst e0;subst e1;subst e4;have hk:=h'.kids;have:ks=ks':=AAW (m:=m) (v:=v1) (fun e he e' b o=>ih e he e' b o) h.kids hk;subst this;obtain⟨a,n⟩:=v;obtain⟨a',n'⟩:=v';simp only at e2 e3;subst e2;subst e3;rfl
def turn (m:Mem) (b o:Nat) (v:Value):Mem:=fun b' o'=>if b'=b∧o'=o then some v else m b' o'
theorem PG {m m':Mem} {b:Nat}:∀ {o k:Nat} {l:List Ex},(∀ e∈l,∀ b o,IAt m b o e.cells→IAt m' b o e.cells)→IElems m b o k (Ex.aB l)→IElems m' b o k (Ex.aB l)
 | o,k,[],_,_=>by simp only[Ex.aB];exact .nil _ _ _
 | o,k,a::l,ih,h=>by
  obtain⟨rfl,h1,h2⟩:=o6 h;simp only[Ex.aB];exact .cons (ih a (by simp) b o h1) (by simp) (PG (fun e he=>ih e (by simp[he])) h2)
theorem AAX {m m':Mem} {l:List Ex} {v:Value} (ih:∀ e∈l,∀ b o,IAt m b o e.cells→IAt m' b o e.cells) (h:IRep m (.isl (Ex.aB l)) v):IRep m' (.isl (Ex.aB l)) v:=by
 generalize hes:Ex.aB l=es at h
 cases h with
 | isl0 ao cap hc=>exact .isl0 _ _ hc
 | isl hn he hc=>subst hes;exact .isl hn (PG ih he) hc
theorem AFQ {m:Mem} {b o:Nat} {x:Ex} {v v':Value} (hx:ExAt m b o x v) (hv:IRep m (.isl (Ex.aB x.kids)) v'):∀ (e:Ex) (b1 o1:Nat),IAt m b1 o1 e.cells→IAt (turn m b (o+4) v') b1 o1 e.cells:=by
 intro e
 induction e using Ex.ind with
 | h k c vv ks ih =>
  intro b1 o1 h;obtain⟨u,h⟩:=FY h
  have hsl:∀ q:Value,m b (o+4)=some q→(∃ k n,q=.int k n)∨(∃ t,q=.bool t)→False:=by
   intro q hq hh;rw[hx.c4]at hq;injection hq with hq;subst hq
   rcases l9 hx.kids with ⟨_,ao,cap,e⟩|⟨_,b',off,k',cap,e,_⟩<;>rcases hh with ⟨k,n,e'⟩|⟨t,e'⟩<;>rw[e]at e'<;>cases e'
  have low:∀ i q,m b1 (o1+i)=some q→((∃ k n,q=.int k n)∨(∃ t,q=.bool t))→turn m b (o+4) v' b1 (o1+i)=some q:=by
   intro i q hq hh;unfold turn;split
   ·rename_i e;rw[e.1,e.2]at hq;exact(hsl q hq hh).elim
   ·exact hq
  have c0:=low 0 _ (by simpa using h.c0) (.inl ⟨_,_,rfl⟩);have c1:=low 1 _ h.c1 (.inl ⟨_,_,rfl⟩);have c2:=low 2 _ h.c2 (.inr ⟨_,rfl⟩);have c3:=low 3 _ h.c3 (.inl ⟨_,_,rfl⟩);by_cases he:b1=b∧o1+4=o+4
  ·have hu:u=v:=by have:=h.c4;rw[he.1,he.2,hx.c4]at this;injection this with this;exact this.symm
   have hk:ks=x.kids:=by
    have a1:=h.kids;rw[hu]at a1;exact AAW (m:=m) (v:=v) (fun e he=>fun e' b o=>AT7 e e' b o) a1 hx.kids
   refine AH7 (v:=v') ⟨by simpa using c0,c1,c2,c3,by unfold turn;rw[if_pos he],?_⟩;rw[← hk]at hv;exact AAX (fun e he b o=>ih e he b o) hv
  ·exact AH7 (v:=u) ⟨by simpa using c0,c1,c2,c3,by unfold turn;rw[if_neg he];exact h.c4,AAX (fun e he b o=>ih e he b o) h.kids⟩
structure PF (B:Nat) (w:World) (m:Mem) (φ:Pl) (b o:Nat) (x:Ex):Prop where
 new:B≤b
 row:∃ (vs:List Value) (T:TypeId),w.heap[b]?=some (.cells vs.toArray T (0,0))
 free:eD φ b
 cel:IAt m b o x.cells
abbrev KL:=List ((Nat×Nat)×Ex)
theorem PF.lt {B:Nat} {w:World} {m:Mem} {φ:Pl} {b o:Nat} {x:Ex} (h:PF B w m φ b o x):b<w.heap.size:=by
 obtain⟨vs,T,e⟩:=h.row;exact(zN.1 e).1
theorem PF.adv {B:Nat} {w w':World} {m m':Mem} {φ φ':Pl} {b o:Nat} {x:Ex} (h:PF B w m φ b o x) (k:Adv w m φ w' m' φ'):PF B w' m' φ' b o x:=by
 refine⟨h.new,?_,k.range h.lt h.free,h.cel.mono k.mle⟩;rw[k.block b h.lt h.free];exact h.row
theorem kY {P:Program} {id:Nat} {ops:Array Oper} {Q:Exit→Act→World→Prop} {a:Act} {w:World} (h:wpOpsIn (FR none) 0 P ops Q (List.range ops.size) a w):(Code.region id ops false).wp P Q a w :=
 wpIn_wide.1 (wpIn_region (F:=Fence.wide) (n:=0) h)
structure GG (wi:World) (mi:Mem) (nt:Nat) (ok:Nat→Prop) (K:KL) (env:Nat→AV) (st:Store) (a:Act) (w:World):Prop where
 out:∃ m φ,Inv w m φ st∧(∀ t,Rep m φ (env t) (a.tmps.getD t undef))∧Adv wi mi (fun _=>none) w m φ∧(∀ id,φ id≠none→ok id)∧∀ k∈K,PF wi.heap.size w m φ k.1.1 k.1.2 k.2
 size:nt≤a.tmps.size
 defers:a.defers=[]
section
variable {C:Ctx} {wi:World} {mi:Mem} {nt:Nat}
theorem GG.ofA {ok ok':Nat→Prop} {K:KL} {env env':Nat→AV} {st st':Store} {a a':Act} {w w':World} {m:Mem} {φ:Pl} (h3:Adv wi mi (fun _=>none) w m φ) (h5:∀ k∈K,PF wi.heap.size w m φ k.1.1 k.1.2 k.2) (h:ARel [] w m φ nt ok' env' st' a' w'):GG wi mi nt ok' K env' st' a' w':=by
 obtain⟨⟨m',φ',k1,k2,k3,k4,_⟩,k5,k6⟩:=h;exact⟨⟨m',φ',k1,k2,h3.trans k3,k4,fun k hk=>(h5 k hk).adv k3⟩,k5,k6⟩
theorem GG.code (hC:CtxOk C) {call:dI} (hcall:CallOk C call) (hdraw:X5 C call) {G:List Nat} {n:Nat} {c:Code} {S S':AS} {e:AExit} {a:Act} {w:World} {K:KL} (hc:codeOk nt c=true) (hx:exec C call G S.st.length n c S=some (e,S')) (h:GG wi mi nt (fun id=>id<S.st.length) K (aJ S.env) (aR S.st) a w) (hnr:bK c=true:=by rfl) :
 c.wp C.P (fun e' a' w'=>e'=gQ e∧GG wi mi nt (fun id=>id<S'.st.length) K (aJ S'.env) (aR S'.st) a' w') a w:=by
 obtain⟨⟨m,φ,h1,h2,h3,h4,h5⟩,h6,h7⟩:=h;refine wpIn_wide.1 (wpIn_mono (bW (ρ:=none) hC hcall hdraw h4 n c S S' e [] a w hc (.inl rfl) hx ⟨⟨⟨m,φ,h1,h2, .refl _ _ _,h4, .nil _ _ _⟩,h6,h7⟩,zO _⟩) ?_);rintro e' a' w' ⟨rfl,ds,k,kd⟩;have kd:=kd hnr;subst kd;exact⟨rfl, .ofA (ok:=fun _=>True) (env:=fun _=>.junk) (st:=st0) (a:=a) h3 h5 k.1⟩
where st0:Store:=fun _=>none
theorem iV (hC:CtxOk C) {call:dI} (hcall:CallOk C call) {ops:Array Oper} {Q:Exit→Act→World→Prop} {base:Nat} {w0:World} {m0:Mem} {φ0:Pl} {js:List Nat} (hs:∀ o∈ops,gN nt o=true) :
 ∀ (os:List Oper) (i:Nat) (R R':RS) (a:Act) (w:World),(∀ j,j<os.length→os[j]?=ops[i+j]?)→dC C call ops.toList false base os i R=some R' →
   ARel [] w0 m0 φ0 nt (J9 base (fun j=>j<i)) R.env R.st a w→(∀ a' w',ARel [] w0 m0 φ0 nt (J9 base fun j=>j<i+os.length) R'.env R'.st a' w'→wpOpsIn (FR none) 0 C.P ops Q js a' w')→wpOpsIn (FR none) 0 C.P ops Q (List.range' i os.length++js) a w
 | [],i,R,R',a,w,_,h,hr,hQ=>by
  simp only[dC,Option.some.injEq]at h;subst h;simpa using hQ a w (by simpa using hr)
 | o::os,i,R,R',a,w,hl,h,hr,hQ=>by
  have ho:ops[i]?=some o:=by simpa using (hl 0 (by simp)).symm
  simp only[zP,List.range'_succ,yV];rw[wpOpsIn_cons];simp only[dC]at h;obtain⟨b,h1,h2⟩:=aI.1 h;have hstat:=hs o (Array.mem_of_getElem? ho)
  have hrest:∀ j,j<os.length→os[j]?=ops[i+1+j]?:=fun j hj=>by
   have:=hl (j+1) (by simpa using hj);simpa [yC,zE7 1 j]using this
  have mono:∀ env st a' w',ARel [] w0 m0 φ0 nt (J9 base fun j=>j<i∨j=i) env st a' w'→ARel [] w0 m0 φ0 nt (J9 base fun j=>j<i+1) env st a' w':=by
   rintro env st a' w' ⟨⟨m,φ,k1,k2,k3,k4,k7⟩,k5,k6⟩;exact⟨⟨m,φ,k1,k2,k3,fun id hne=>qC (fun j hj=>by omega) (k4 id hne),k7⟩,k5,k6⟩
  have hQ':∀ a' w',ARel [] w0 m0 φ0 nt (J9 base fun j=>j<i+1+os.length) R'.env R'.st a' w'→wpOpsIn (FR none) 0 C.P ops Q js a' w':=fun a' w' k=>hQ a' w' (by
   rw[show i+(o::os).length=i+1+os.length by simp;omega];exact k)
  cases b with
  | true =>
   simp only[if_true]at h2;obtain⟨_,h3⟩:=aQ.1 h2;obtain⟨p,h4,h5⟩:=aI.1 h3;refine pU hC hcall (dn:=fun j=>j<i) (base:=base) (S:=(R.env,R.st)) (S':=(BV R.env o.dst p.1,p.2)) ho hstat (xL i) ?_ hr fun a' w' hr'=>?_
   ·unfold aOp;exact aI.2 ⟨true,h1,by simp only[if_true];exact aI.2 ⟨p,h4,rfl⟩⟩
   ·exact iV hC hcall hs os (i+1) _ R' a' w' hrest h5 (mono _ _ _ _ hr') hQ'
  | false =>
   simp only[yK,if_false]at h2;refine pU hC hcall (dn:=fun j=>j<i) (base:=base) (S:=(R.env,R.st)) (S':=(BV R.env o.dst (.i (.lit undef)),R.st)) ho hstat (xL i) ?_ hr fun a' w' hr'=>?_
   ·unfold aOp;exact aI.2 ⟨false,h1,by simp⟩
   ·exact iV hC hcall hs os (i+1) _ R' a' w' hrest h2 (mono _ _ _ _ hr') hQ'
theorem GG.ops (hC:CtxOk C) {call:dI} (hcall:CallOk C call) {ops:Array Oper} {Q:Exit→Act→World→Prop} {base:Nat} {js:List Nat} {K:KL} (hs:∀ o∈ops,gN nt o=true) {os:List Oper} {i:Nat} {R R':RS} {a:Act} {w:World} (hl:∀ j,j<os.length→os[j]?=ops[i+j]?) (hx:dC C call ops.toList false base os i R=some R')
 (h:GG wi mi nt (J9 base fun j=>j<i) K R.env R.st a w) (hQ:∀ a' w',GG wi mi nt (J9 base fun j=>j<i+os.length) K R'.env R'.st a' w'→wpOpsIn (FR none) 0 C.P ops Q js a' w'):wpOpsIn (FR none) 0 C.P ops Q (List.range' i os.length++js) a w:=by
 obtain⟨⟨m,φ,h1,h2,h3,h4,h5⟩,h6,h7⟩:=h;exact iV hC hcall hs os i R R' a w hl hx ⟨⟨m,φ,h1,h2, .refl _ _ _,h4, .nil _ _ _⟩,h6,h7⟩ fun a' w' k=>hQ a' w' (.ofA (ok:=fun _=>True) (env:=fun _=>.junk) (st:=fun _=>none) (a:=a) h3 h5 k)
theorem GG.settle {ok:Nat→Prop} {K:KL} {env:Nat→AV} {st:Store} {a:Act} {w:World} (G:List Nat) (h:GG wi mi nt ok K env st a w) :
 GG wi mi nt (fun id=>id<(settle G 0 env st).st.length) K (aJ (settle G 0 env st).env) (aR (settle G 0 env st).st) a w:=by
 obtain⟨⟨m,φ,hi,henv,hadv,hok,hK⟩,hsz,hdf⟩:=h;unfold Av.settle AL;generalize hids:jL st 0 (EE env G)=ids;have hd:ids.Nodup:=by rw[← hids];exact iX _ _ _
 have hfree:∀ b,eD φ b→eD (eX ids φ) b:=by
  intro b hb id r n e;unfold eX at e
  cases hx:ids[id]? with
  | none=>rw[hx]at e;cases e
  | some j=>rw[hx]at e;exact hb j r n e
 refine⟨⟨m,eX ids φ,hi.keep hd,?_,hadv.keep (fun id h=>absurd rfl h) (fun j hj=>absurd hj (xS j)),?_,fun k hk=>⟨(hK k hk).new,(hK k hk).row,hfree _ (hK k hk).free,(hK k hk).cel⟩⟩,hsz,hdf⟩
 ·intro t
  have key:∀ G:List Nat,Rep m (eX ids φ) (aJ (mR (iD ids) env G) t) (a.tmps.getD t undef):=by
   intro G
   induction G with
   | nil=>exact .junk _
   | cons u G ih =>
    simp only[mR,aJ];by_cases e:t=u
    ·subst e;simp only[if_true];exact(henv t).ren (nZ ids φ)
    ·simp only[e,if_false];exact ih
  exact key G
 ·intro id hne;simp only[iT];unfold eX at hne
  cases hx:ids[id]? with
  | none=>rw[hx]at hne;exact absurd rfl hne
  | some i=>exact(zZ.1 hx).1
theorem GG.see {ok:Nat→Prop} {K:KL} {env:Nat→AV} {st:Store} {a:Act} {w:World} {u b o:Nat} {x:Ex} (h:GG wi mi nt ok K env st a w) (hu:env u=.i (.lit (.pointer (some ⟨b,o,none⟩)))) (hk:((b,o),x)∈K):GG wi mi nt ok K (upd env u (.i (.iref x.cells))) st a w:=by
 obtain⟨⟨m,φ,hi,henv,hadv,hok,hK⟩,hsz,hdf⟩:=h;refine⟨⟨m,φ,hi,fun t=>?_,hadv,hok,hK⟩,hsz,hdf⟩;simp only[upd];split
 ·rename_i e;subst e;have:=henv t;rw[hu]at this;rw[this.lit_eq];exact .i (.iref (hK _ hk).cel)
 ·exact henv t
theorem GG.envTo {ok:Nat→Prop} {K:KL} {env env':Nat→AV} {st:Store} {a:Act} {w:World} (h:GG wi mi nt ok K env st a w) (he:∀ t,env' t=.junk∨env' t=env t):GG wi mi nt ok K env' st a w:=by
 obtain⟨⟨m,φ,hi,henv,hadv,hok,hK⟩,hsz,hdf⟩:=h;refine⟨⟨m,φ,hi,fun t=>?_,hadv,hok,hK⟩,hsz,hdf⟩
 rcases he t with e|e
 ·rw[e];exact .junk _
 ·rw[e];exact henv t
theorem GG.ok' {ok ok':Nat→Prop} {K:KL} {env:Nat→AV} {st:Store} {a:Act} {w:World} (h:GG wi mi nt ok K env st a w) (he:∀ id,ok id→ok' id):GG wi mi nt ok' K env st a w:=by
 obtain⟨⟨m,φ,hi,henv,hadv,hok,hK⟩,hsz,hdf⟩:=h;exact⟨⟨m,φ,hi,henv,hadv,fun id h=>he id (hok id h),hK⟩,hsz,hdf⟩
end
def gU:Blk→Prop
 | .box cs=>∀ c∈cs,(∃ v,c=.i (.lit v))∨c=.nils
 | .arr _ es=>∀ c∈es.flatten,∃ v,c=.lit v
 | .frz _ _=>False
 | .fbox _=>False
 | .tre _ _=>False
 | .loop _ _ _=>False
theorem ICells.X6 {m m':Mem}:∀ {cs:List IV} {vs:List Value},(∀ c∈cs,∃ v,c=.lit v)→ICells m cs vs→ICells m' cs vs
 | [],_,_, .nil=>.nil
 | c::cs,_,h, .cons a o r=>by
  obtain⟨v,rfl⟩:=h c (by simp);rw[eO a]at o ⊢;exact .cons (.lit _) o (ICells.X6 (fun d hd=>h d (by simp[hd])) r)
theorem RepC.X6 {m m':Mem} {φ φ':Pl}:∀ {cs:List AV} {vs:List Value},(∀ c∈cs,(∃ v,c=.i (.lit v))∨c=.nils)→RepC m φ cs vs→RepC m' φ' cs vs
 | [],_,_, .nil=>.nil
 | c::cs,_,h, .cons a o r=>by
  have hr:=RepC.X6 (m':=m') (φ':=φ') (fun d hd=>h d (by simp[hd])) r
  rcases h c (by simp)with ⟨v,rfl⟩|rfl
  ·rw[a.lit_eq]at o ⊢;exact .cons (.i (.lit _)) o hr
  ·cases a;exact .cons .nils o hr
theorem BlkOk.X6 {w w':World} {m m':Mem} {φ φ':Pl} {b:Nat} {n:Ext} {blk:Blk} (hl:gU blk) (hh:w'.heap[b]?=w.heap[b]?) (hm:∀ o,m b o=none→m' b o=none) (h:BlkOk w m φ b n blk):BlkOk w' m' φ' b n blk:=by
 cases h with
 | box h1 h2 h3 h4=>exact .box (by rw[hh];exact h1) h2 (h3.X6 hl) fun o=>hm o (h4 o)
 | arr h1 h2 h3 h4 h5 h6 h7 h8 h9 =>
  exact .arr (by rw[hh];exact h1) h2 h3 h4 (h5.X6 hl) h6 (fun o=>hm o (h7 o)) h8 h9
 | frz=>cases hl
 | fbox=>cases hl
 | tre=>cases hl
 | loop=>cases hl
def AO6 (st:Store):Prop:=∀ id blk,st id=some blk→gU blk
section
variable {C:Ctx} {wi:World} {mi:Mem}
theorem F6 {w:World} {m:Mem} {φ:Pl} {st:Store} {K:KL} {b o:Nat} {x:Ex} {v:Value} {t:TypeId} (ht:iF C.P t=some 1) (hi:Inv w m φ st) (hst:AO6 st) (hadv:Adv wi mi (fun _=>none) w m φ) (hmi:kR wi mi∧oD wi mi)
 (hK:∀ k∈K,PF wi.heap.size w m φ k.1.1 k.1.2 k.2) (hk:((b,o),x)∈K) (hv:IRep m (.isl (Ex.aB x.kids)) v) :
 ∃ w' m',(Instr.storeAt t (.pointer (some ⟨b,o+4,none⟩)) v).run C.P w=.ok () w'∧Inv w' m' φ st∧Adv wi mi (fun _=>none) w' m' φ∧(∀ k∈K,PF wi.heap.size w' m' φ k.1.1 k.1.2 k.2) ∧
   IAt m' b o [.int x.kind, .int x.col, .bool x.val.null, .int x.val.n, .lit v]:=by
 have hp:=hK _ hk;obtain⟨u,hx⟩:=FY hp.cel;obtain⟨vs,T,hrow⟩:=hp.row;have hone:=pO hv
 have hcells:v.cells.toList=[v]:=by
  rcases l9 hv with ⟨_,ao,cap,rfl⟩|⟨_,b',off,k',cap,rfl,_⟩<;>rfl
 have hcsz:v.cells.size=1:=by rw[← Array.length_toList,hcells];rfl
 have hlen:o+4<vs.length:=by
  have:=hi.mem _ _ _ hx.c4;simp only[World.cell?,hrow,zA5]at this;have h2:vs.toArray[o+4]?=some u:=by simpa using this
  have:=(zN.1 h2).1;simpa using this
 have hrun:=jO (P:=C.P) (t:=t) (v:=v) (off:=o+4) (by rw[hcsz];exact ht) hrow (by omega) (by rw[hcells];simpa using hone);rw[hcells,hcsz]at hrun;generalize hvs':vs.take (o+4)++[v]++vs.drop (o+4+1)=vs' at hrun;have hheap:(w.setRow b vs'.toArray).heap[b]?=some (.cells vs'.toArray T (0,0)):=setRow_heap w b _ _ T (0,0) hrow;have hother:∀ k,k≠b→(w.setRow b vs'.toArray).heap[k]?=w.heap[k]?:=fun k hk=>setRow_other w b k _ hk
 have hget:∀ j,vs'[j]?=if j=o+4 then some v else vs[j]?:=by
  intro j;subst hvs'
  have hs:vs.take (o+4)++[v]++vs.drop (o+4+1)=vs.set (o+4) v:=by
   rw[List.set_eq_take_append_cons_drop];simp[hlen]
  rw[hs,List.getElem?_set];by_cases e:o+4=j
  ·subst e;simp[hlen]
  ·simp[e,Ne.symm e]
 refine⟨w.setRow b vs'.toArray,turn m b (o+4) v,?_,?_,?_,?_,?_⟩
 ·simp only[Instr.storeAt,Instr.sureAddr,Sem.run_bind,Sem.run_pure,Result.andThen_ok];exact hrun
 ·refine⟨?_,?_,hi.inj,(fun i b n f e ho=>by simpa [World.setRow]using hi.low i b n f e ho),fun p hp'=>?_⟩
  ·intro b1 o1 q hq;unfold turn at hq;by_cases e1:b1=b
   ·subst e1;simp only[World.cell?,hheap,zA5]
    have:vs'.toArray[o1]?=some q:=by
     rw[List.getElem?_toArray,hget];split at hq
     ·rename_i e;rw[if_pos e.2];exact hq
     ·rename_i e;have e2:o1≠o+4:=fun h=>e ⟨rfl,h⟩
      rw[if_neg e2];have:=hi.mem _ _ _ hq;simp only[World.cell?,hrow,zA5]at this;simpa using this
    simpa using this
   ·rw[if_neg (fun h=>e1 h.1)]at hq;have:=hi.mem _ _ _ hq;simp only[World.cell?]at this ⊢;rw[hother b1 e1];exact this
  ·intro id blk hb;obtain⟨b2,n2,h1,h2,h3⟩:=hi.live id blk hb;have hne:b2≠b:=fun e=>hp.free id b2 n2 h1 (by rw[← e];exact h2.1)
   refine⟨b2,n2,h1,⟨h2.1,fun f hf=>by simpa [World.setRow]using h2.2 f hf⟩,h3.X6 (hst id blk hb) (hother b2 hne) fun o' ho'=>?_⟩;unfold turn;rw[if_neg (fun h=>hne h.1)];exact ho'
  ·obtain⟨⟨T0,r0,q1⟩,_⟩:=hmi.2 p hp';obtain⟨⟨T1,r1,q2⟩,q3⟩:=hi.kn p hp';have h3:wi.heap.size≤b:=hp.new;have h4:=(zN.1 q1).1;refine⟨⟨T1,r1,by rw[hother _ (by omega)];exact q2⟩,?_⟩;unfold turn;rw[if_neg (fun h=>by have:=h.1;omega)];exact q3
 ·refine⟨by simpa [World.setRow]using hadv.size,hadv.os,⟨hadv.tape.tape,hadv.tape.fwd⟩,hadv.output,?_,?_,?_,hadv.ple,hadv.pnew⟩
  ·intro k hk hn;rw[hother k (by have h3:wi.heap.size≤b:=hp.new;omega)];exact hadv.block k hk hn
  ·intro b1 o1 q hq;have h1:=hadv.mle _ _ _ hq;unfold turn;rw[if_neg ?_];· exact h1
   rintro⟨rfl,_⟩;have h2:=hmi.1 _ _ _ hq;have h3:wi.heap.size≤b1:=hp.new;simp only[World.cell?]at h2
   cases h4:wi.heap[b1]? with
   | none=>rw[h4]at h2;cases h2
   | some z=>have:=(zN.1 h4).1;omega
  ·intro k hk hn o';have h3:wi.heap.size≤b:=hp.new;unfold turn;rw[if_neg (fun h=>by have:=h.1;omega)];exact hadv.mnew k hk hn o'
 ·intro k hk;have h:=hK k hk;refine⟨h.new,?_,h.free,AFQ hx hv _ _ _ h.cel⟩;by_cases e:k.1.1=b
  ·rw[e];exact⟨vs',T,hheap⟩
  ·rw[hother _ e];exact h.row
 ·have low:∀ i,i<4→∀ q,m b (o+i)=some q→turn m b (o+4) v b (o+i)=some q:=by
   intro i hi q hq;unfold turn;rw[if_neg (by rintro⟨_,h⟩;omega)];exact hq
  refine .cons (by simpa using low 0 (by omega) _ (by simpa using hx.c0)) (.lit _) rfl (.cons (low 1 (by omega) _ hx.c1) (.lit _) rfl (.cons (low 2 (by omega) _ hx.c2) (.lit _) rfl (.cons (low 3 (by omega) _ hx.c3) (.lit _) rfl (.cons ?_ (.lit _) hone (.nil _ _)))));unfold turn;rw[if_pos ⟨rfl,rfl⟩]
end
def bL (b:Nat):Nat→List Ex→KL
 | _,[]=>[]
 | o,x::l=>((b,o),x)::bL b (o+5) l
theorem vV {b:Nat}:∀ {o:Nat} {l:List Ex} {i:Nat} {x:Ex},l[i]?=some x→((b,o+5*i),x)∈bL b o l
 | _,[],_,_,h=>by simp at h
 | o,a::l,0,x,h=>by simp at h;subst h;simp[bL]
 | o,a::l,i+1,x,h=>by
  have:=vV (b:=b) (o:=o+5) (l:=l) (i:=i) (x:=x) (by simpa using h);simp only[bL,zS];exact .inr (by rw[show o+5*(i+1)=o+5+5*i by omega];exact this)
theorem qH {m:Mem} {b:Nat}:∀ {o k:Nat} {l:List Ex},IElems m b o k (Ex.aB l)→∀ p∈bL b o l,p.1.1=b∧IAt m p.1.1 p.1.2 p.2.cells
 | _,_,[],_,p,hp=>by simp[bL]at hp
 | o,k,a::l,h,p,hp=>by
  obtain⟨rfl,h1,h2⟩:=o6 h;simp only[bL,zS]at hp
  rcases hp with rfl|hp
  ·exact⟨rfl,h1⟩
  ·exact qH h2 p hp
section
variable {C:Ctx} {wi:World} {mi:Mem}
theorem R6 {w:World} {m:Mem} {φ:Pl} {st st':Store} {K:KL} {id:Nat} {v:Value} {ks:List Ex} (hks:ks≠[]) (hi:Inv w m φ st) (hr:Rep m φ (.osl id 5 0 ks.length) v) (hid:st id=some (.arr 5 (Ex.aB ks))) (hadv:Adv wi mi (fun _=>none) w m φ)
 (hK:∀ k∈K,PF wi.heap.size w m φ k.1.1 k.1.2 k.2) (hst:∀ i blk,st' i=some blk→i≠id∧st i=some blk∧gU blk) :
 ∃ b' cap m1 φ2,v=.slice (some ⟨b',0,none⟩) ks.length cap∧Inv w m1 φ2 st'∧Adv wi mi (fun _=>none) w m1 φ2∧(∀ k∈K++bL b' 0 ks,PF wi.heap.size w m1 φ2 k.1.1 k.1.2 k.2)∧IRep m1 (.isl (Ex.aB ks)) v ∧
   (∀ i,st' i≠none→φ2 i=φ i)∧(∀ i,φ2 i≠none→st' i≠none):=by
 have hlen:0<ks.length:=xN.2 hks
 have hfr:rV st (.osl id 5 0 ks.length)=some (.isl (Ex.aB ks),upd st id (some (.frz 5 (Ex.aB ks)))):=by
  simp[rV,frz,BG,wJ,hid,tst,window,bnd,iM,zY]
 obtain⟨m1,k1,k2,k3⟩:=iY hi hr hfr
 cases hr with
 | @osl _ _ _ _ cap b' n' ao eφ hlc hcap ha1 ha2 =>
  have hao:=ha1 (by omega);subst hao;obtain⟨hb,hok⟩:=cK hi eφ hid
  have hrow:∃ (vs:List Value) (T:TypeId),w.heap[b']?=some (.cells vs.toArray T (0,0)):=by
   cases hok with|arr h1=>exact⟨_,_,h1⟩
  have hnew:wi.heap.size≤b':=by
   rcases hadv.pnew id b' n' b' eφ hb.1 with h|h
   ·exact h
   ·exact absurd (fun id b n e=>by cases e) h
  have dec:∀ i,st' i=none∨st' i≠none:=fun i=>by cases st' i<;>simp
  let φ2:Pl:=fun i=>match st' i with
   | some _=>φ i
   | none=>none
  have hφ2:∀ i,st' i≠none→φ2 i=φ i:=fun i h=>by
   show(match st' i with|some _=>φ i|none=>none)=φ i
   cases e:st' i with
   | none=>exact absurd e h
   | some _=>rfl
  have hφ2n:∀ i,φ2 i≠none→st' i≠none:=fun i h e=>h (by
   show(match st' i with|some _=>φ i|none=>none)=none
   rw[e])
  have hsub:∀ i p,φ2 i=some p→φ i=some p∧st' i≠none:=fun i p h=>by
   have h1:=hφ2n i (by rw[h];simp);exact⟨by rw[← hφ2 i h1];exact h,h1⟩
  have hA1:=hadv.trans k3;refine⟨b',cap,m1,φ2,by simp,?_,?_,?_,k1,hφ2,hφ2n⟩
  ·refine⟨k2.mem,?_,?_,fun i b n f e ho=>k2.low i b n f (hsub _ _ e).1 ho,k2.kn⟩
   ·intro i blk hb';obtain⟨h1,h2,h3⟩:=hst i blk hb';have h4:upd st id (some (.frz 5 (Ex.aB ks))) i=some blk:=by simp[upd,h1,h2]
    obtain⟨b,n,q1,q2,q3⟩:=k2.live i blk h4;exact⟨b,n,by rw[hφ2 i (by rw[hb'];simp)];exact q1,q2,q3.X6 h3 rfl fun o h=>h⟩
   ·intro i j b bx n n2 b1 b2 f h1 h2 h3 h4 o1 o2;obtain⟨q1,q2,_⟩:=hst i b1 h1;obtain⟨r1,r2,_⟩:=hst j b2 h2;exact hi.inj i j b bx n n2 b1 b2 f q2 r2 (hsub _ _ h3).1 (hsub _ _ h4).1 o1 o2
  ·refine⟨hA1.size,hA1.os,hA1.tape,hA1.output,hA1.block,hA1.mle,hA1.mnew,(fun _ _ _ h=>by cases h),?_⟩;intro i b n f h2 ho;exact hA1.pnew i b n f (hsub _ _ h2).1 ho
  ·intro k hk
   rcases zV.1 hk with hk|hk
   ·have h:=hK k hk;exact⟨h.new,h.row,fun i r n e=>h.free i r n (hsub _ _ e).1,h.cel.mono k3.mle⟩
   ·have hel:IElems m1 b' 0 5 (Ex.aB ks):=by
     rcases l9 k1 with ⟨e1,_⟩|⟨_,b2,off,k',cap',hv,hel,_⟩
     ·exact absurd (by cases ks with|nil=>rfl|cons a l=>simp[Ex.aB]at e1) hks
     ·injection hv with q1 _ _;injection q1 with q1;injection q1 with q1 q2;subst q1;subst q2
      cases ks with
      | nil=>exact absurd rfl hks
      | cons a l=>obtain⟨rfl,_⟩:=o6 hel;exact hel
    obtain⟨e1,e2⟩:=qH hel k hk;refine⟨by rw[e1];exact hnew,by rw[e1];exact hrow,?_,e2⟩;intro i r n e ho;rw[e1]at ho;obtain⟨h1,h2⟩:=hsub _ _ e
    cases hb2:st' i with
    | none=>exact h2 hb2
    | some blk =>
     obtain⟨q1,q2,_⟩:=hst i blk hb2;exact q1 (hi.inj i id r b' n n' blk _ b' q2 hid h1 eφ ho hb.1)
theorem NY {ops:Array Oper} {Q:Exit→Act→World→Prop} {K:Act→World→Prop} {i:Nat} {t ty:TypeId} {x y:Operand} {pos:String} {after:Array Edge} {a:Act} {w w':World} (ho:ops[i]?=some ⟨none, .store t x y,ty,pos,after,none⟩)
 (hrun:(Instr.storeAt t (a.eval x) (a.eval y)).run C.P w=.ok () w') (hK:K a w'):wpOpIn (FR none) 0 C.P ops Q i K a w:=by
 unfold wpOpIn;rw[ho];simp only[Region.wanted,if_true];refine⟨fun _ _=>trivial,?_⟩;rw[Oper.semAt_eq _ _ _ (fun c e=>by cases e)]
 have:(execOp a.eval ⟨none, .store t x y,ty,pos,after,none⟩).run C.P w=.ok .skip w':=by
  unfold execOp;simp[hrun]
 rw[this];simpa [Oper.uponIn,Act.put]using hK
end
section
variable {C:Ctx} {wi:World} {mi:Mem} {nt:Nat}
theorem GG.eF (hS:SoundOk C) {G:List Nat} {c:Code} {S S':AS} {e:AExit} {a:Act} {w:World} {K:KL} (hc:codeOk nt c=true) (hx:dY C G S.st.length c S=some (e,S')) (h:GG wi mi nt (fun id=>id<S.st.length) K (aJ S.env) (aR S.st) a w) (hnr:bK c=true:=by rfl) :
 c.wp C.P (fun e' a' w'=>e'=gQ e∧GG wi mi nt (fun id=>id<S'.st.length) K (aJ S'.env) (aR S'.st) a' w') a w:=by
 obtain⟨n,hn⟩:=(dD _).1 hx;exact GG.code hS.ctx (aY hS) (hS.draw _ (aY hS)) hc hn h hnr
theorem RJ {w:World} {m m1:Mem} {φ:Pl} {st st1 st':Store} {K:KL} {id b':Nat} {n':Ext} {blk0:Blk} (hi:Inv w m φ st) (k2:Inv w m1 φ st1) (hA1:Adv wi mi (fun _=>none) w m1 φ) (hle:MLe m m1) (eφ:φ id=some (b',n')) (hid:st id=some blk0)
 (hK:∀ k∈K,PF wi.heap.size w m φ k.1.1 k.1.2 k.2) (hst:∀ i blk,st' i=some blk→i≠id∧st i=some blk∧st1 i=some blk∧gU blk) :
 ∃ φ2,Inv w m1 φ2 st'∧Adv wi mi (fun _=>none) w m1 φ2∧(∀ k∈K,PF wi.heap.size w m1 φ2 k.1.1 k.1.2 k.2)∧eD φ2 b'∧(∀ i,st' i≠none→φ2 i=φ i)∧(∀ i,φ2 i≠none→st' i≠none):=by
 let φ2:Pl:=fun i=>match st' i with
  | some _=>φ i
  | none=>none
 have hφ2:∀ i,st' i≠none→φ2 i=φ i:=fun i h=>by
  show(match st' i with|some _=>φ i|none=>none)=φ i
  cases e:st' i with
  | none=>exact absurd e h
  | some _=>rfl
 have hφ2n:∀ i,φ2 i≠none→st' i≠none:=fun i h e=>h (by
  show(match st' i with|some _=>φ i|none=>none)=none
  rw[e])
 have hsub:∀ i p,φ2 i=some p→φ i=some p∧st' i≠none:=fun i p h=>by
  have h1:=hφ2n i (by rw[h];simp);exact⟨by rw[← hφ2 i h1];exact h,h1⟩
 refine⟨φ2,⟨k2.mem,?_,?_,fun i b n f e ho=>k2.low i b n f (hsub _ _ e).1 ho,k2.kn⟩,?_,?_,?_,hφ2,hφ2n⟩
 ·intro i blk hb';obtain⟨h1,h2,h4,h3⟩:=hst i blk hb';obtain⟨b,n,q1,q2,q3⟩:=k2.live i blk h4;exact⟨b,n,by rw[hφ2 i (by rw[hb'];simp)];exact q1,q2,q3.X6 h3 rfl fun o h=>h⟩
 ·intro i j b bx n n2 b1 b2 f h1 h2 h3 h4 o1 o2;obtain⟨q1,q2,_⟩:=hst i b1 h1;obtain⟨r1,r2,_⟩:=hst j b2 h2;exact hi.inj i j b bx n n2 b1 b2 f q2 r2 (hsub _ _ h3).1 (hsub _ _ h4).1 o1 o2
 ·refine⟨hA1.size,hA1.os,hA1.tape,hA1.output,hA1.block,hA1.mle,hA1.mnew,(fun _ _ _ h=>by cases h),?_⟩;intro i b n f h2 ho;exact hA1.pnew i b n f (hsub _ _ h2).1 ho
 ·intro k hk;have h:=hK k hk;exact⟨h.new,h.row,fun i r n e=>h.free i r n (hsub _ _ e).1,h.cel.mono hle⟩
 ·intro i r n e ho;obtain⟨h1,h2⟩:=hsub _ _ e
  cases hb2:st' i with
  | none=>exact h2 hb2
  | some blk =>
   obtain⟨q1,q2,_⟩:=hst i blk hb2;exact q1 (hi.inj i id r b' n n' blk _ b' q2 hid h1 eφ ho (cK hi eφ hid).1.1)
def jV (st':Store):AV→Prop
 | .i (.lit _)=>True
 | .own id _=>st' id≠none
 | .osl id _ _ _=>st' id≠none
 | .nils=>True
 | _=>False
theorem jV.rep {m m':Mem} {φ φ':Pl} {st':Store} {v:AV} {x:Value} (h:jV st' v) (he:∀ i,st' i≠none→φ' i=φ i) (hr:Rep m φ v x):Rep m' φ' v x:=by
 cases hr with
 | junk=>cases h
 | nils=>exact .nils
 | i hr=>cases hr with
  | lit=>exact .i (.lit _)
  | agg=>cases h
  | isl0=>cases h
  | isl=>cases h
  | iref=>cases h
 | own e=>exact .own (by rw[he _ h];exact e)
 | ownE=>cases h
 | osl e a b c d=>exact .osl (by rw[he _ h];exact e) a b c d
 | agg=>cases h
 | tup=>cases h
 | fn=>cases h
 | yld=>cases h
 | ydead=>cases h
theorem GG.pub {ok ok':Nat→Prop} {K:KL} {env:Nat→AV} {st st':Store} {a:Act} {w:World} {u id:Nat} {e:Ex} (h:GG wi mi nt ok K env st a w) (hu:env u=.own id 0) (hid:st id=some (.box (lF e.cells)))
 (hst:∀ i blk,st' i=some blk→i≠id∧st i=some blk∧gU blk) (hok:∀ i,st' i≠none→ok' i) :
 ∃ b',(∀ env',(∀ t,env' t=.junk∨(t=u∧env' t=.i (.lit (.pointer (some ⟨b',0,none⟩))))∨(env' t=env t∧jV st' (env t)))→GG wi mi nt ok' (K++[((b',0),e)]) env' st' a w):=by
 obtain⟨⟨m,φ,hi,henv,hadv,_,hK⟩,hsz,hdf⟩:=h;have hr:=henv u;rw[hu]at hr
 have hfr:rV st (.own id 0)=some (.iref e.cells,upd st id (some (.fbox e.cells))):=by
  have h1:∀ (l:List IV) (n:Nat),IW st (n+l.length+1) (lF l)=some (l,[]):=by
   intro l
   induction l with
   | nil=>intro n;simp[lF,IW]
   | cons c l ih=>intro n;simp only[lF,zP];rw[show n+(l.length+1)+1=(n+l.length+1)+1 by omega];simp[IW,frz,bnd,ih n]
  have h2:IW st 18 (lF e.cells)=some (e.cells,[]):=by
   have:=h1 e.cells 12;rw[Ex.dH]at this;exact this
  have h3:EN st 19 id 0 (some (.box (lF e.cells)))=some (.iref e.cells,[(id, .fbox e.cells)]):=by
   show bnd (IW st 18 (lF e.cells)) (fun p=>tst (decide (0≤p.1.length)) (some (IV.iref (dropE 0 p.1),(id,Blk.fbox p.1)::p.2)))=_;rw[h2];simp[dropE]
  have h4:frz st 20 (.own id 0)=some (.iref e.cells,[(id, .fbox e.cells)]):=by
   show EN st 19 id 0 (st id)=_;rw[hid];exact h3
  show bnd (frz st 20 (.own id 0)) (fun p=>some (p.1,iM st p.2))=_;rw[h4];rfl
 obtain⟨m1,k1,k2,k3⟩:=iY hi hr hfr
 cases hr':a.tmps.getD u undef with
 | pointer p =>
  rw[hr']at hr k1
  cases hr with
  | @own _ _ b' n' eφ =>
   obtain⟨hb,hbok⟩:=cK hi eφ hid
   have hrow:∃ (vs:List Value) (T:TypeId),w.heap[b']?=some (.cells vs.toArray T (0,0)):=by
    cases hbok with|box h1=>exact⟨_,_,h1⟩
   have hnew:wi.heap.size≤b':=by
    rcases hadv.pnew id b' n' b' eφ hb.1 with h|h
    ·exact h
    ·exact absurd (fun id b n e=>by cases e) h
   obtain⟨φ2,g1,g2,g3,g4,g5,g6⟩:=RJ (wi:=wi) (mi:=mi) (K:=K) hi k2 (hadv.trans k3) k3.mle eφ hid hK (st':=st') fun i blk hb'=>by
    obtain⟨q1,q2,q3⟩:=hst i blk hb';exact⟨q1,q2,by simp[upd,q1,q2],q3⟩
   refine⟨b',fun env' he=>⟨⟨m1,φ2,g1,fun t=>?_,g2,fun i hi'=>hok i (g6 i hi'),?_⟩,hsz,hdf⟩⟩
   ·rcases he t with h|⟨rfl,h⟩|⟨h,hs⟩
    ·rw[h];exact .junk _
    ·rw[h,hr'];exact .i (.lit _)
    ·rw[h];exact hs.rep g5 (henv t)
   ·intro k hk
    rcases zV.1 hk with hk|hk
    ·exact g3 k hk
    ·simp only[zA6]at hk;subst hk;refine⟨hnew,hrow,g4,?_⟩
     cases k1 with|iref hat=>exact hat
 | _=>rw[hr']at hr;cases hr
theorem GG.turn {ok ok':Nat→Prop} {K:KL} {env:Nat→AV} {st st':Store} {a:Act} {w:World} {u b o:Nat} {x:Ex} {t:TypeId} {r:AV} (h:GG wi mi nt ok K env st a w) (ht:iF C.P t=some 1) (hmi:kR wi mi∧oD wi mi) (hk:((b,o),x)∈K) (hu:env u=r)
 (hr:(r=.nils∧x.kids=[]∧∀ i blk,st' i=some blk→st i=some blk)∨∃ id,r=.osl id 5 0 x.kids.length∧x.kids≠[]∧st id=some (.arr 5 (Ex.aB x.kids))∧∀ i blk,st' i=some blk→i≠id∧st i=some blk)
 (hlit:AO6 st') (hok:∀ i,st' i≠none→ok' i) :
 ∃ w' b' ao cap,a.tmps.getD u undef=.slice ao x.kids.length cap∧(x.kids≠[]→ao=some ⟨b',0,none⟩)∧(Instr.storeAt t (.pointer (some ⟨b,o+4,none⟩)) (a.tmps.getD u undef)).run C.P w=.ok () w' ∧
   ∀ env',(∀ t,env' t=.junk∨(a.tmps.getD t undef=.pointer (some ⟨b,o,none⟩)∧env' t=.i (.iref [.int x.kind, .int x.col, .bool x.val.null, .int x.val.n, .lit (.slice ao x.kids.length cap)]))∨(env' t=env t∧jV st' (env t))) →
     GG wi mi nt ok' (K++bL b' 0 x.kids) env' st' a w':=by
 obtain⟨⟨m,φ,hi,henv,hadv,_,hK⟩,hsz,hdf⟩:=h;have hru:=henv u;rw[hu]at hru
 have main:∃ (b':Nat) (ao:Option Addr) (cap:Nat) (m1:Mem) (φ2:Pl),a.tmps.getD u undef=.slice ao x.kids.length cap∧(x.kids≠[]→ao=some ⟨b',0,none⟩)∧Inv w m1 φ2 st'∧Adv wi mi (fun _=>none) w m1 φ2∧(∀ k∈K++bL b' 0 x.kids,PF wi.heap.size w m1 φ2 k.1.1 k.1.2 k.2) ∧
  IRep m1 (.isl (Ex.aB x.kids)) (a.tmps.getD u undef)∧(∀ i,st' i≠none→φ2 i=φ i)∧(∀ i,φ2 i≠none→st' i≠none):=by
  rcases hr with ⟨rfl,hx,hst⟩|⟨id,rfl,hx,hid,hst⟩
  ·generalize hv:a.tmps.getD u undef=v at hru
   cases hru
   let φ2:Pl:=fun i=>match st' i with
    | some _=>φ i
    | none=>none
   have hφ2:∀ i,st' i≠none→φ2 i=φ i:=fun i h=>by
    show(match st' i with|some _=>φ i|none=>none)=φ i
    cases e:st' i with
    | none=>exact absurd e h
    | some _=>rfl
   have hφ2n:∀ i,φ2 i≠none→st' i≠none:=fun i h e=>h (by
    show(match st' i with|some _=>φ i|none=>none)=none
    rw[e])
   have hsub:∀ i p,φ2 i=some p→φ i=some p:=fun i p h=>by
    have h1:=hφ2n i (by rw[h];simp);rw[← hφ2 i h1];exact h
   refine⟨0,none,0,m,φ2,by rw[hx];rfl,fun h=>absurd hx h,⟨hi.mem,?_,?_,fun i b n f e ho=>hi.low i b n f (hsub _ _ e) ho,hi.kn⟩,?_,?_,?_,hφ2,hφ2n⟩
   ·intro i blk hb';obtain⟨b,n,q1,q2,q3⟩:=hi.live i blk (hst i blk hb');exact⟨b,n,by rw[hφ2 i (by rw[hb'];simp)];exact q1,q2,q3.X6 (hlit i blk hb') rfl fun o h=>h⟩
   ·intro i j b bx n n2 b1 b2 f h1 h2 h3 h4 o1 o2;exact hi.inj i j b bx n n2 b1 b2 f (hst i b1 h1) (hst j b2 h2) (hsub _ _ h3) (hsub _ _ h4) o1 o2
   ·refine⟨hadv.size,hadv.os,hadv.tape,hadv.output,hadv.block,hadv.mle,hadv.mnew,(fun _ _ _ h=>by cases h),?_⟩;intro i b n f h2 ho;exact hadv.pnew i b n f (hsub _ _ h2) ho
   ·intro k hk;rw[hx]at hk;simp only[bL,zA]at hk;have h:=hK k hk;exact⟨h.new,h.row,fun i r n e=>h.free i r n (hsub _ _ e),h.cel⟩
   ·rw[hx];simp only[Ex.aB];exact .isl0 _ _ fun _=>rfl
  ·obtain⟨b',cap,m1,φ2,e1,g1,g2,g3,g4,g5,g6⟩:=R6 (wi:=wi) (mi:=mi) (K:=K) hx hi hru hid hadv hK (st':=st') fun i blk hb'=>⟨(hst i blk hb').1,(hst i blk hb').2,hlit i blk hb'⟩
   exact⟨b',_,cap,m1,φ2,e1,fun _=>rfl,g1,g2,g3,g4,g5,g6⟩
 obtain⟨b',ao,cap,m1,φ2,e1,e2,g1,g2,g3,g4,g5,g6⟩:=main;obtain⟨w',m',k1,k2,k3,k4,k5⟩:=F6 (C:=C) (wi:=wi) (mi:=mi) ht g1 hlit g2 hmi g3 (yL _ hk) g4;refine⟨w',b',ao,cap,e1,e2,k1,fun env' he=>⟨⟨m',φ2,k2,fun t=>?_,k3,fun i hi'=>hok i (g6 i hi'),k4⟩,hsz,hdf⟩⟩
 rcases he t with h|⟨h1,h⟩|⟨h,hs⟩
 ·rw[h];exact .junk _
 ·rw[h,h1,← e1];exact .i (.iref k5)
 ·rw[h];exact hs.rep g5 (henv t)
end
section
variable {C:Ctx} {wi:World} {mi:Mem} {nt:Nat}
theorem GG.ADF {ok:Nat→Prop} {K:KL} {env:Nat→AV} {st:Store} {a:Act} {w:World} {t:Nat} {v:Value} (h:GG wi mi nt ok K env st a w) (ht:env t=.i (.lit v)):a.tmps.getD t undef=v:=by
 obtain⟨⟨m,φ,hi,henv,_⟩,_⟩:=h;have:=henv t;rw[ht]at this;exact this.lit_eq
theorem GG.region (hS:SoundOk C) {id:Nat} {ops:Array Oper} {os1 os2:List Oper} {o:Oper} {K:KL} {S:AS} {a:Act} {w:World} {u b' o':Nat} {x:Ex} {Q:Exit→Act→World→Prop} {PP:(Nat→AV)→Store→Prop} (hops:ops.toList=os1++(os2++[o])) (hs:∀ o∈ops,gN nt o=true)
 (g:GG wi mi nt (fun id=>id<S.st.length) K (aJ S.env) (aR S.st) a w) (hk:((b',o'),x)∈K)
 (h:∃ R1,dC C (aH C) ops.toList false S.st.length os1 0 { env:=aJ S.env,st:=aR S.st,log:=[] }=some R1∧R1.env u=.i (.lit (.pointer (some ⟨b',o',none⟩))) ∧
  ∃ R2,dC C (aH C) ops.toList false S.st.length os2 os1.length { env:=upd R1.env u (.i (.iref x.cells)),st:=R1.st,log:=R1.log }=some R2∧PP R2.env R2.st)
 (hfin:∀ env st a' w',PP env st→GG wi mi nt (fun _=>True) K env st a' w'→wpOpIn (FR none) 0 C.P ops Q (os1.length+os2.length) (fun a w=>wpOpsIn (FR none) 0 C.P ops Q [] a w) a' w'):(Code.region id ops false).wp C.P Q a w:=by
 obtain⟨R1,h1,h2,R2,h3,h4⟩:=h;refine kY ?_;have hsz:ops.size=os1.length+(os2.length+1):=by rw[← Array.length_toList,hops];simp
 have hget:∀ j,ops[j]?=(os1++(os2++[o]))[j]?:=fun j=>by rw[← hops,xU]
 rw[zB4,hsz,show List.range' 0 (os1.length+(os2.length+1))=List.range' 0 os1.length++(List.range' os1.length os2.length++[os1.length+os2.length])by
  rw[← List.range'_append_1,← List.range'_append_1];simp]
 have hcall:=aY hS;refine GG.ops hS.ctx hcall hs (R:={ env:=aJ S.env,st:=aR S.st,log:=[] }) (base:=S.st.length) (i:=0) (fun j hj=>?_) h1 (g.ok' fun id h=>.inl h) fun a1 w1 g1=>?_
 ·rw[hget,zH,zG hj]
 ·have g2:=g1.see (u:=u) h2 hk;rw[zH]at g2;refine GG.ops hS.ctx hcall hs (R:={ env:=upd R1.env u (.i (.iref x.cells)),st:=R1.st,log:=R1.log }) (base:=S.st.length) (fun j hj=>?_) h3 g2 fun a2 w2 g3=>?_
  ·rw[hget,zB (by omega),xQ,zG hj]
  ·rw[wpOpsIn_cons];exact hfin _ _ a2 w2 h4 (g3.ok' fun _ _=>trivial)
theorem AFJ {ops:Array Oper} {Q:Exit→Act→World→Prop} {K:Act→World→Prop} {i d:Nat} {t ty:TypeId} {x:Operand} {pos:String} {after:Array Edge} {v:Value} {a:Act} {w:World} (ho:ops[i]?=some ⟨some d, .load t x,ty,pos,after,none⟩)
 (hrun:(Instr.loadAt t (a.eval x)).run C.P w=.ok v w) (hK:K (a.put (some d) v) w):wpOpIn (FR none) 0 C.P ops Q i K a w:=by
 unfold wpOpIn;rw[ho];simp only[Region.wanted,if_true];refine⟨fun _ _=>trivial,?_⟩;rw[Oper.semAt_eq _ _ _ (fun c e=>by cases e)]
 have:(execOp a.eval ⟨some d, .load t x,ty,pos,after,none⟩).run C.P w=.ok (.value v) w:=by
  unfold execOp;simp[hrun]
 rw[this];simpa [Oper.uponIn]using hK
theorem GG.put {ok:Nat→Prop} {K:KL} {env:Nat→AV} {st:Store} {a:Act} {w:World} {d:Nat} {x:IV} {v:Value} (hd:d<nt) (h:GG wi mi nt ok K env st a w) (hr:IRep mi x v):GG wi mi nt ok K (upd env d (.i x)) st (a.put (some d) v) w:=by
 obtain⟨⟨m,φ,hi,henv,hadv,hok,hK⟩,hsz,hdf⟩:=h;exact⟨⟨m,φ,hi,vQ (dst:=some d) henv hsz (by simpa [YZ]using hd) (.i (hr.mono hadv.mle)),hadv,hok,hK⟩,by rw[nD];exact hsz,by rw[iI];exact hdf⟩
theorem Inv.later {w w':World} {m:Mem} {φ:Pl} {st:Store} (h:Inv w m φ st) (hsz:w.heap.size≤w'.heap.size) (hw:∀ f,f<w.heap.size→w'.heap[f]?=w.heap[f]?):Inv w' m φ st:=by
 refine⟨fun b o v e=>?_,fun id blk e=>?_,h.inj,(fun id b n f e ho=>zI (h.low id b n f e ho) hsz),h.kn.same hw⟩
 ·rw[cell_of_heap (hw b (h.mem.lt e))];exact h.mem b o v e
 ·obtain⟨b,n,k1,k2,k3⟩:=h.live id blk e;exact⟨b,n,k1,⟨k2.1,fun f hf=>zI (k2.2 f hf) hsz⟩,k3.mono k2.1 (fun f hf=>hw f (k2.2 f hf)) (.refl _) (.refl _) fun _ _ _=>rfl⟩
theorem GG.ARH (hS:SoundOk C) {id d u:Nat} {t ty:TypeId} {pos:String} {after:Array Edge} {p:Value} {x:IV} {ops:Array Oper} {os1 os2:List Oper} {G:List Nat} {S S':AS} {a:Act} {w:World} {Q:Exit→Act→World→Prop} (hops:ops.toList=os1++(⟨some d, .load t (.tmp u),ty,pos,after,none⟩::os2)) (hs:∀ o∈ops,gN nt o=true)
 (g:GG wi mi nt (fun id=>id<S.st.length) [] (aJ S.env) (aR S.st) a w) (hd:d<nt)
 (hrun:∀ w',wi.heap.size≤w'.heap.size→(∀ f,f<wi.heap.size→w'.heap[f]?=wi.heap[f]?)→∃ y,(Instr.loadAt t p).run C.P w'=.ok y w'∧IRep mi x y)
 (h:∃ R1,dC C (aH C) ops.toList false S.st.length os1 0 { env:=aJ S.env,st:=aR S.st,log:=[] }=some R1∧R1.env u=.i (.lit p) ∧
  ∃ R2,dC C (aH C) ops.toList false S.st.length os2 (os1.length+1) { env:=upd R1.env d (.i x),st:=R1.st,log:=R1.log }=some R2∧Av.settle G 0 R2.env R2.st=S')
 (hfin:∀ a' w',GG wi mi nt (fun id=>id<S'.st.length) [] (aJ S'.env) (aR S'.st) a' w'→Q .normal a' w'):(Code.region id ops false).wp C.P Q a w:=by
 obtain⟨R1,h1,h2,R2,h3,rfl⟩:=h;refine kY ?_;have hsz:ops.size=os1.length+(1+os2.length):=by rw[← Array.length_toList,hops];simp;omega
 have hget:∀ j,ops[j]?=(os1++(⟨some d, .load t (.tmp u),ty,pos,after,none⟩::os2))[j]?:=fun j=>by rw[← hops,xU]
 rw[zB4,hsz,show List.range' 0 (os1.length+(1+os2.length))=List.range' 0 os1.length++(os1.length::(List.range' (os1.length+1) os2.length++[]))by
  rw[← List.range'_append_1,← List.range'_append_1];simp]
 have hcall:=aY hS;refine GG.ops hS.ctx hcall hs (R:={ env:=aJ S.env,st:=aR S.st,log:=[] }) (base:=S.st.length) (i:=0) (fun j hj=>?_) h1 (g.ok' fun id h=>.inl h) fun a1 w1 g1=>?_
 ·rw[hget,zH,zG hj]
 ·have hv:=g1.ADF h2
  obtain⟨y,hrun,hy⟩:=hrun w1 (by
   obtain⟨⟨m,φ,k1,k2,k3,_⟩,_⟩:=g1
   exact k3.size) (by
   obtain⟨⟨m,φ,k1,k2,k3,_⟩,_⟩:=g1
   exact fun f hf=>k3.block f hf fun id b n e=>by cases e)
  rw[wpOpsIn_cons]
  refine AFJ (v:=y) (d:=d) (t:=t) (x:=.tmp u) (ty:=ty) (pos:=pos) (after:=after) (by rw[hget,zB (zO _)];simp) (by
   show(Instr.loadAt t (a1.tmps.getD u undef)).run C.P w1=_
   rw[hv];exact hrun) ?_
  have g2:=g1.put hd hy;refine GG.ops hS.ctx hcall hs (R:={ env:=upd R1.env d (.i x),st:=R1.st,log:=R1.log }) (base:=S.st.length) (fun j hj=>?_) h3 (g2.ok' fun id h=>qC (fun j hj=>by omega) h) fun a2 w2 g3=>?_
  ·rw[hget,zB (by omega),show os1.length+1+j-os1.length=j+1 by omega];simp[zG hj]
  ·exact hfin a2 w2 ((g3.ok' (ok':=fun _=>True) fun _ _=>trivial).settle G)
end
end Go.Av
namespace Go.Av
open Go Go.RowKit
def dR (w:World):Mem:=fun b o=>w.cell? ⟨b,o,none⟩
theorem inv0 (w:World) (hk:oD w (dR w):=by exact fun _ hp=>absurd hp (zA4)):Inv w (dR w) (fun _=>none) (aR []) :=
 ⟨fun _ _ _ h=>h,fun id blk h=>(by simp[aR]at h),fun id id' b b' n n' blk blk' f h=>(by simp[aR]at h),(fun _ _ _ _ e=>by cases e),hk⟩
theorem Inv.kn0 {w:World} {m:Mem} {φ:Pl} {st:Store} (h:Inv w m φ st):oD w (dR w):=h.kn.mem h.mem
theorem AJT {w w':World} {m m':Mem} {φ':Pl} (h:Adv w m (fun _=>none) w' m' φ'):Below w.heap.size w w' :=
 ⟨h.os,h.tape.tape,h.output,h.size,fun k hk=>h.block k hk fun id b n e=>by cases e⟩
theorem AED {C:Ctx} (hS:SoundOk C) {f:FuncId} {args:List AV} {vs:Array Value} {w:World} (hr:RepL (dR w) (fun _=>none) args vs.toList) (h:aH C f args []=some (.bool true,[])) (hy:f≠oG:=by decide) (hk:oD w (dR w):=by exact fun _ hp=>absurd hp (zA4)) :
 Calls C.P f vs w fun e w'=>e=.returned (.bool true)∧Below w.heap.size w w':=by
 have:=(aY hS).calls f args [] _ _ hy h w (dR w) (fun _=>none) vs.toList (inv0 w hk) hr (fun id h=>absurd rfl h);refine(show Calls C.P f vs w _ from this).mono ?_;rintro e w' ⟨v,m',φ',rfl,h1,h2,h3,h4⟩
 cases h1 with
 | i h1=>cases h1 with
  | lit=>exact⟨rfl,AJT h3⟩
end Go.Av
namespace Go.Av
def CO (st:Store):AV→Option IV
 | .i v=>some v
 | .nils=>some (.isl [])
 | .osl id k off len=>bnd (A7 k off len (st id)) fun es=>some (.isl es)
 | _=>none
def sV (st:Store):List AV→Option (List IV)
 | []=>some []
 | c::r=>bnd (CO st c) fun v=>bnd (sV st r) fun l=>some (v::l)
def kS (st:Store):AV→Option IV
 | .agg cs=>bnd (sV st cs) fun l=>some (.agg l)
 | v=>CO st v
def nS (st:Store):List AV→Option (List AV)
 | []=>some []
 | c::r=>bnd (kS st c) fun v=>bnd (nS st r) fun l=>some (.i v::l)
def mfC:AV→Bool
 | .i v=>jM v
 | .nils=>true
 | .osl _ _ _ _=>true
 | _=>false
def AP8:List AV→Bool
 | []=>true
 | c::r=>mfC c && AP8 r
def mfR:AV→Bool
 | .agg cs=>AP8 cs
 | .i (.agg cs)=>mJ cs
 | v=>mfC v
def AMA:List AV→Bool
 | []=>true
 | c::r=>mfR c && AMA r
def mfA:AV→Bool
 | .tup vs=>AMA vs
 | v=>mfR v
def mfB:Option Blk→Bool
 | some (.arr _ es)=>fM es
 | some (.tre _ es)=>kG es
 | some (.box _)=>false
 | some (.frz _ _)=>false
 | some (.fbox _)=>false
 | some (.loop _ _ _)=>false
 | none=>true
def ADA:StL→Bool
 | []=>true
 | b::r=>mfB b && ADA r
def iH (L:Nat):StL→StL
 | []=>[]
 | b::r=>DN (fun j=>some (j+L)) b::iH L r
def ADH (call:dI) (g:FuncId) (us:List AV) (st:StL):Option (AV×StL) :=
 bnd (call g us []) fun p=>tst (mfA p.1 && ADA p.2) (some (ren (fun j=>some (j+st.length)) p.1,st++iH st.length p.2))
def pM (call:dI) (g:FuncId) (args:List AV) (st:StL):Option (AV×StL) :=
 bnd (nS (aR st) args) fun us=>bnd (call g us []) fun p=>tst (mfA p.1 && ADA p.2) (some (ren (fun j=>some (j+st.length)) p.1,st++iH st.length p.2))
theorem TCells.toI {w:World}:∀ {cs:List IV} {vs:List Value} {F:List Nat},TCells w cs vs F→ICells (dR w) cs vs
 | _,_,_, .nil=>.nil
 | _,_,_, .lit o r=>.cons (.lit _) o r.toI
 | _,_,_, .isl0 c r=>.cons (.isl0 _ _ c) rfl r.toI
 | _,_,_, .isl (b:=b) (k:=k) (es:=es) (us:=us) hn ⟨T,hr,_⟩ hk hl hf hc g r=>by
  refine .cons (.isl hn (gV 0 hl g.toI fun j v hj=>?_) hc) rfl r.toI;show w.cell? ⟨b,0+j,none⟩=some v;rw[zH,bG hr];rw[zF]at hj;split at hj
  ·exact hj
  ·cases hj
theorem DV {w:World} {m:Mem} (h:kR w m):MLe m (dR w):=fun b o v e=>h b o v e
theorem AA {w:World} {m:Mem} {φ:Pl} {st:Store} {c:AV} {x:Value} {iv:IV} (hi:Inv w m φ st) (hr:Rep m φ c x) (ho:x.oneCell'=true) (h:CO st c=some iv):IRep (dR w) iv x:=by
 have key:∀ {st1:Store},ER st c=some (iv,st1)→IRep (dR w) iv x:=by
  intro st1 h1;obtain⟨F,O,k⟩:=GJ hi hr ho h1
  cases k.cells.toI with
  | cons a _ _=>exact a
 unfold CO at h;split at h
 ·injection h with h;subst h
  cases hr with
  | i hr=>exact hr.mono (DV hi.mem)
 ·injection h with h;subst h;exact key (st1:=st) rfl
 ·obtain⟨es,h1,h2⟩:=aI.1 h;injection h2 with h2;subst h2;exact key (by simp only[ER];rw[h1];rfl)
 ·cases h
theorem GN {w:World} {m:Mem} {φ:Pl} {st:Store} (hi:Inv w m φ st):∀ {cs:List AV} {xs:List Value} {l:List IV},RepC m φ cs xs→sV st cs=some l→ICells (dR w) l xs
 | [],_,l, .nil,h=>by simp[sV]at h;subst h;exact .nil
 | c::cs,_,l, .cons a o b,h=>by
  simp only[sV]at h;obtain⟨v,h1,h2⟩:=aI.1 h;obtain⟨l',h3,h4⟩:=aI.1 h2;injection h4 with h4;subst h4;exact .cons (AA hi a o h1) o (GN hi b h3)
theorem JU {w:World} {m:Mem} {φ:Pl} {st:Store} {c:AV} {x:Value} {iv:IV} (hi:Inv w m φ st) (hr:Rep m φ c x) (h:kS st c=some iv):IRep (dR w) iv x:=by
 cases c with
 | agg cs =>
  simp only[kS]at h;obtain⟨l,h1,h2⟩:=aI.1 h;injection h2 with h2;subst h2
  cases hr with
  | agg hc=>exact .agg (GN hi hc h1)
 | i v =>
  simp only[kS,CO]at h;injection h with h;subst h
  cases hr with
  | i hr=>exact hr.mono (DV hi.mem)
 | nils=>cases hr;exact AA hi .nils rfl (by simpa only[kS]using h)
 | osl id k off len=>cases hr with|osl a b c d e=>exact AA hi (.osl a b c d e) rfl (by simpa only[kS]using h)
 | _=>simp[kS,CO]at h
theorem GQ {w:World} {m:Mem} {φ:Pl} {st:Store} (hi:Inv w m φ st):∀ {cs us:List AV} {xs:List Value},RepL m φ cs xs→nS st cs=some us→RepL (dR w) (fun _=>none) us xs
 | [],us,_, .nil,h=>by simp[nS]at h;subst h;exact .nil
 | c::cs,us,_, .cons a b,h=>by
  simp only[nS]at h;obtain⟨v,h1,h2⟩:=aI.1 h;obtain⟨l',h3,h4⟩:=aI.1 h2;injection h4 with h4;subst h4;exact .cons (.i (JU hi a h1)) (GQ hi b h3)
theorem ABT {m m':Mem}:∀ {cs:List IV} {vs:List Value},mJ cs=true→ICells m cs vs→ICells m' cs vs
 | [],_,_, .nil=>.nil
 | c::cs,_,h, .cons a o r=>by
  simp only[mJ,zT]at h;refine .cons ?_ o (ABT h.2 r)
  cases a with
  | lit=>exact .lit _
  | isl0 ao cap hc=>exact .isl0 ao cap hc
  | isl hn=>rename_i es _ _ _;cases es with|nil=>exact absurd rfl hn|cons e es=>simp[jM]at h
  | agg=>simp[jM]at h
  | iref=>simp[jM]at h
theorem Y7 {m m':Mem} {φ:Pl} {c:AV} {x:Value} (h:mfC c=true) (hr:Rep m φ c x):Rep m' φ c x:=by
 cases hr with
 | i hr =>
  simp only[mfC]at h
  cases hr with
  | lit=>exact .i (.lit _)
  | isl0 ao cap hc=>exact .i (.isl0 ao cap hc)
  | isl hn=>rename_i es _ _ _;cases es with|nil=>exact absurd rfl hn|cons e es=>simp[jM]at h
  | agg=>simp[jM]at h
  | iref=>simp[jM]at h
 | nils=>exact .nils
 | osl a b c d e=>exact .osl a b c d e
 | _=>simp[mfC]at h
theorem AAP {m m':Mem} {φ:Pl}:∀ {cs:List AV} {xs:List Value},AP8 cs=true→RepC m φ cs xs→RepC m' φ cs xs
 | [],_,_, .nil=>.nil
 | c::cs,_,h, .cons a o b=>by
  simp only[AP8,zT]at h;exact .cons (Y7 h.1 a) o (AAP h.2 b)
theorem AHP {m m':Mem} {φ:Pl} {c:AV} {x:Value} (h:mfR c=true) (hr:Rep m φ c x):Rep m' φ c x:=by
 cases c with
 | agg cs=>cases hr with|agg hc=>exact .agg (AAP (by simpa only[mfR]using h) hc)
 | i v =>
  cases v with
  | agg cs=>cases hr with|i hr=>cases hr with|agg hc=>exact .i (.agg (ABT (by simpa only[mfR]using h) hc))
  | _=>exact Y7 (by simpa only[mfR]using h) hr
 | _=>exact Y7 (by simpa only[mfR]using h) hr
theorem AAO {m m':Mem} {φ:Pl}:∀ {cs:List AV} {xs:List Value},AMA cs=true→RepL m φ cs xs→RepL m' φ cs xs
 | [],_,_, .nil=>.nil
 | c::cs,_,h, .cons a b=>by
  simp only[AMA,zT]at h;exact .cons (AHP h.1 a) (AAO h.2 b)
theorem AS3 {m m':Mem} {φ:Pl} {c:AV} {x:Value} (h:mfA c=true) (hr:Rep m φ c x):Rep m' φ c x:=by
 cases c with
 | tup vs=>cases hr with|tup hc=>exact .tup (AAO (by simpa only[mfA]using h) hc)
 | _=>exact AHP (by simpa only[mfA]using h) hr
theorem AXG {w:World} {m m':Mem} {φ ψ:Pl} {b:Nat} {n:Ext} {blk:Blk} (h:mfB (some blk)=true) (hn:∀ f,n.own f→∀ o,m' f o=none) (ho:n.own b) (hk:BlkOk w m φ b n blk):BlkOk w m' ψ b n blk:=by
 cases hk with
 | arr h1 h2 h3 h4 h5 h6 h7 h8 h9=>exact .arr h1 h2 h3 h4 (ABT (gW (by simpa only[mfB]using h)) h5) h6 (hn b ho) h8 h9
 | tre h1 h2 h3 h4 h5 h6 h7 h8 h9 h10=>exact .tre h1 h2 h3 h4 (h5.pure (lN (by simpa only[mfB]using h))).toU h6 h7 h8 hn h10
 | _=>simp[mfB]at h
theorem AHO:∀ {l:StL} {j:Nat} {b:Option Blk},ADA l=true→l[j]?=some b→mfB b=true
 | [],_,_,_,h=>by simp at h
 | a::l,0,b,h,k=>by simp at k;subst k;simp only[ADA,zT]at h;exact h.1
 | a::l,j+1,b,h,k=>by simp only[ADA,zT]at h;exact AHO h.2 (by simpa using k)
theorem OA (L:Nat):∀ (l:StL) (j:Nat),(iH L l)[j]?=(l[j]?).map (DN fun j=>some (j+L))
 | [],j=>by simp[iH]
 | a::l,0=>by simp[iH]
 | a::l,j+1=>by simp[iH,OA L l j]
theorem wR (L:Nat):∀ (l:StL),(iH L l).length=l.length
 | []=>rfl
 | a::l=>by simp[iH,wR L l]
theorem LD {C:Ctx} {call:dI} (hcall:CallOk C call) {g:FuncId} {args us:List AV} {stl stl':StL} {r:AV} (h1:∀ (w:World) (m:Mem) (φ:Pl) (vs:List Value),Inv w m φ (aR stl)→RepL m φ args vs→RepL (dR w) (fun _=>none) us vs) (h2:ADH call g us stl=some (r,stl')) (hy:g≠oG) :
 (∃ fn,C.P.funcs[g]?=some fn∧fn.name≠ "runtime.NumGoroutine"∧fn.body.isSome=true)∧∀ (w:World) (m:Mem) (φ:Pl) (vs:List Value),Inv w m φ (aR stl)→RepL m φ args vs→(∀ id,φ id≠none→id<stl.length) →
  Calls C.P g vs.toArray w (bS w m φ r stl'):=by
 unfold ADH at h2;obtain⟨p,h3,h4⟩:=aI.1 h2;obtain⟨h5,h6⟩:=aQ.1 h4;simp only[zT]at h5;injection h6 with h6;injection h6 with h6 h7;subst h6;subst h7;refine⟨hcall.name _ _ _ _ hy h3,fun w m φ vs hi hr hb=>?_⟩;refine(hcall.calls g us [] p.1 p.2 hy h3 w (dR w) (fun _=>none) vs (inv0 w hi.kn0) (h1 w m φ vs hi hr) (fun id h=>absurd rfl h)).mono ?_;rintro e w' ⟨v,m',φ',rfl,j1,j2,j3,j4⟩;generalize hL:stl.length=L at *
 let φ2:Pl:=fun j=>if j<L then φ j else φ' (j-L)
 have hlow:∀ j,j<L→φ2 j=φ j:=fun j hj=>by show(if j<L then φ j else φ' (j-L))=_;rw[if_pos hj]
 have hhigh:∀ j,φ2 (j+L)=φ' j:=fun j=>by show(if j+L<L then φ (j+L)else φ' (j+L-L))=_;rw[if_neg (by omega)];congr 1;omega
 have hren:Ren (fun j=>some (j+L)) φ' φ2:=fun id j q e1 e2=>by injection e1 with e1;subst e1;rw[hhigh];exact e2
 have hsame:∀ f,f<w.heap.size→w'.heap[f]?=w.heap[f]?:=fun f hf=>j3.block f hf fun id b n e=>by cases e
 have hnew:∀ id b n f,φ' id=some (b,n)→n.own f→w.heap.size≤f:=fun id b n f e ho=>by
  rcases j3.pnew id b n f e ho with q|q
  ·exact q
  ·exact absurd (fun id b n e=>by cases e) q
 have hmem:kR w' m:=fun b o u e=>by rw[cell_of_heap (hsame b (hi.mem.lt e))];exact hi.mem b o u e
 have hmnone:∀ f,w.heap.size≤f→∀ o,m f o=none:=fun f hf o=>by
  cases hx:m f o with
  | none=>rfl
  | some u=>have:=hi.mem.lt hx;omega
 have hp:PLe φ φ2:=fun id b n e=>⟨n,by rw[hlow id (hb id (by rw[e];simp))];exact e,rfl,fun _ h=>h⟩
 have hst:∀ j blk,aR (stl++iH L p.2) j=some blk→(j<L∧aR stl j=some blk)∨∃ i c,j=i+L∧aR p.2 i=some c∧DN (fun j=>some (j+L)) (some c)=some blk∧mfB (some c)=true:=by
  intro j blk e;rw[rE]at e;by_cases hj:j<L
  ·rw[zG (by omega)]at e;exact .inl ⟨hj,by rw[rE];exact e⟩
  ·rw[zB (by omega),hL,OA]at e
   cases hx:p.2[j-L]? with
   | none=>rw[hx]at e;cases e
   | some b =>
    rw[hx]at e;simp only[xG,Option.join_some]at e;obtain⟨c,rfl⟩:=qA e;refine .inr ⟨j-L,c,by omega,by rw[rE,hx];rfl,e,AHO h5.2 hx⟩
 refine⟨v,m,φ2,rfl,?_,⟨hmem,?_,?_,?_,hi.kn.same fun b hb=>hsame b hb⟩,⟨j3.size,j3.os,j3.tape,j3.output,fun b hb' _=>hsame b hb', .refl _,fun _ _ _ _=>rfl,hp,?_⟩,?_⟩
 ·exact(AS3 h5.1 j1).ren hren
 ·intro j blk e
  rcases hst j blk e with ⟨hj,e1⟩|⟨i,c,rfl,e1,e2,e3⟩
  ·obtain⟨b,n,q1,q2,q3⟩:=hi.live j blk e1;exact⟨b,n,by rw[hlow j hj];exact q1,⟨q2.1,fun f hf=>zI (q2.2 f hf) j3.size⟩,q3.mono q2.1 (fun f hf=>hsame f (q2.2 f hf)) (.refl _) hp fun _ _ _=>rfl⟩
  ·obtain⟨b,n,q1,q2,q3⟩:=j2.live i c e1;have q4:BlkOk w' m φ' b n c:=AXG e3 (fun f hf=>hmnone f (hnew i b n f q1 hf)) q2.1 q3;exact⟨b,n,by rw[hhigh];exact q1,q2,BlkOk.ren hren (fun c' e'=>by injection e' with e';subst e';exact q4) e2⟩
 ·intro i j b b' n n' blk blk' f e1 e2 p1 p2 o1 o2
  rcases hst i blk e1 with ⟨hi1,k1⟩|⟨i1,c1,rfl,k1,_,_⟩
  ·rw[hlow i hi1]at p1;have hlt:=(cK hi p1 k1).1.2 f o1
   rcases hst j blk' e2 with ⟨hj1,k2⟩|⟨i2,c2,rfl,k2,_,_⟩
   ·rw[hlow j hj1]at p2;exact hi.inj i j b b' n n' blk blk' f k1 k2 p1 p2 o1 o2
   ·rw[hhigh]at p2;have:=hnew _ _ _ f p2 o2;omega
  ·rw[hhigh]at p1;have hge:=hnew _ _ _ f p1 o1
   rcases hst j blk' e2 with ⟨hj1,k2⟩|⟨i2,c2,rfl,k2,_,_⟩
   ·rw[hlow j hj1]at p2;have:=(cK hi p2 k2).1.2 f o2;omega
   ·rw[hhigh]at p2;rw[j2.inj i1 i2 b b' n n' _ _ f k1 k2 p1 p2 o1 o2]
 ·intro id b n f e ho;by_cases hj:id<L
  ·rw[hlow id hj]at e;exact zI (hi.low id b n f e ho) j3.size
  ·have:id=(id-L)+L:=by omega
   rw[this,hhigh]at e;exact j2.low _ b n f e ho
 ·intro id b n f e ho;by_cases hj:id<L
  ·rw[hlow id hj]at e;exact .inr (eD.not e ho)
  ·have:id=(id-L)+L:=by omega
   rw[this,hhigh]at e;exact .inl (hnew _ _ _ f e ho)
 ·intro id hne;rw[zL,wR,hL];by_cases hj:id<L
  ·omega
  ·have:id=(id-L)+L:=by omega
   rw[this,hhigh]at hne;have:=j4 _ hne;omega
theorem fD {C:Ctx} {call:dI} (hcall:CallOk C call) {g:FuncId} {args:List AV} {stl stl':StL} {r:AV} (h:pM call g args stl=some (r,stl')) (hy:g≠oG:=by decide) :
 (∃ fn,C.P.funcs[g]?=some fn∧fn.name≠ "runtime.NumGoroutine"∧fn.body.isSome=true)∧∀ (w:World) (m:Mem) (φ:Pl) (vs:List Value),Inv w m φ (aR stl)→RepL m φ args vs→(∀ id,φ id≠none→id<stl.length) →
  Calls C.P g vs.toArray w (bS w m φ r stl'):=by
 unfold pM at h;obtain⟨us,h1,h2⟩:=aI.1 h;exact LD hcall (us:=us) (fun w m φ vs hi hr=>GQ hi hr h1) h2 hy
def wW:StL→StL
 | []=>[]
 | _::r=>none::wW r
theorem DU:∀ l:StL,(wW l).length=l.length
 | []=>rfl
 | _::r=>by simp[wW,DU r]
theorem KU:∀ (l:StL) (j:Nat),aR (wW l) j=none
 | [],_=>by simp[wW,aR]
 | _::_,0=>by simp[wW,aR]
 | _::r,j+1=>by simp only[wW,aR];exact KU r j
def give (call:dI) (g:FuncId) (args:List AV) (st:StL):Option (AV×StL) :=
 bnd (nS (aR st) args) fun us=>bnd (call g us []) fun p=>tst p.2.isEmpty (some (ren (fun _=>none) p.1,wW st))
open Classical in
noncomputable def X7 (w:World) (m:Mem) (φ:Pl):Mem:=fun b o=>if ∃ id r n,φ id=some (r,n)∧n.own b then w.cell? ⟨b,o,none⟩else m b o
theorem AMB {w:World} {m:Mem} {φ:Pl} {id r f:Nat} {n:Ext} (e:φ id=some (r,n)) (h:n.own f) (o:Nat):X7 w m φ f o=w.cell? ⟨f,o,none⟩:=by
 unfold X7;rw[if_pos ⟨id,r,n,e,h⟩]
theorem AHQ {w:World} {m:Mem} {φ:Pl} {f:Nat} (h:eD φ f) (o:Nat):X7 w m φ f o=m f o:=by
 unfold X7;rw[if_neg];rintro⟨id,r,n,e,k⟩;exact h id r n e k
theorem QS {w:World} {m:Mem} {φ:Pl} (h:kR w m):MLe m (X7 w m φ):=fun b o v e=>by
 unfold X7;split
 ·exact h b o v e
 ·exact e
theorem AS4 {w:World} {m:Mem} {φ:Pl} (h:kR w m):kR w (X7 w m φ):=fun b o v e=>by
 unfold X7 at e;split at e
 ·exact e
 ·exact h b o v e
theorem TCells.toM {w:World} {m:Mem}:∀ {cs:List IV} {vs:List Value} {F:List Nat},TCells w cs vs F→(∀ f∈F,∀ o,m f o=w.cell? ⟨f,o,none⟩)→ICells m cs vs
 | _,_,_, .nil,_=>.nil
 | _,_,_, .lit o r,h=>.cons (.lit _) o (r.toM h)
 | _,_,_, .isl0 c r,h=>.cons (.isl0 _ _ c) rfl (r.toM h)
 | _,_,_, .isl (b:=b) (k:=k) (es:=es) (us:=us) hn ⟨T,hr,_⟩ hk hl hf hc g r,h=>by
  refine .cons (.isl hn (gV 0 hl (g.toM fun f hf=>h f (by simp[hf])) fun j v hj=>?_) hc) rfl (r.toM fun f hf=>h f (by simp[hf]));rw[h b (by simp),zH,bG hr];rw[zF]at hj;split at hj
  ·exact hj
  ·cases hj
theorem EY {w:World} {m:Mem} {φ:Pl} {st:Store} {c:AV} {x:Value} {iv:IV} (hi:Inv w m φ st) (hr:Rep m φ c x) (ho:x.oneCell'=true) (h:CO st c=some iv):IRep (X7 w m φ) iv x:=by
 have key:∀ {st1:Store},ER st c=some (iv,st1)→IRep (X7 w m φ) iv x:=by
  intro st1 h1;obtain⟨F,O,k⟩:=GJ hi hr ho h1
  cases k.cells.toM (m:=X7 w m φ) (fun f hf o=>by
   obtain⟨_,_,id,b,n,blk,_,e,ho⟩:=k.free f (k.own f hf)
   exact AMB e ho o)with
  | cons a _ _=>exact a
 unfold CO at h;split at h
 ·injection h with h;subst h
  cases hr with
  | i hr=>exact hr.mono (QS hi.mem)
 ·injection h with h;subst h;exact key (st1:=st) rfl
 ·obtain⟨es,h1,h2⟩:=aI.1 h;injection h2 with h2;subst h2;exact key (by simp only[ER];rw[h1];rfl)
 ·cases h
theorem JR {w:World} {m:Mem} {φ:Pl} {st:Store} (hi:Inv w m φ st):∀ {cs:List AV} {xs:List Value} {l:List IV},RepC m φ cs xs→sV st cs=some l→ICells (X7 w m φ) l xs
 | [],_,l, .nil,h=>by simp[sV]at h;subst h;exact .nil
 | c::cs,_,l, .cons a o b,h=>by
  simp only[sV]at h;obtain⟨v,h1,h2⟩:=aI.1 h;obtain⟨l',h3,h4⟩:=aI.1 h2;injection h4 with h4;subst h4;exact .cons (EY hi a o h1) o (JR hi b h3)
theorem AC7 {w:World} {m:Mem} {φ:Pl} {st:Store} {c:AV} {x:Value} {iv:IV} (hi:Inv w m φ st) (hr:Rep m φ c x) (h:kS st c=some iv):IRep (X7 w m φ) iv x:=by
 cases c with
 | agg cs =>
  simp only[kS]at h;obtain⟨l,h1,h2⟩:=aI.1 h;injection h2 with h2;subst h2
  cases hr with
  | agg hc=>exact .agg (JR hi hc h1)
 | i v =>
  simp only[kS,CO]at h;injection h with h;subst h
  cases hr with
  | i hr=>exact hr.mono (QS hi.mem)
 | nils=>cases hr;exact EY hi .nils rfl (by simpa only[kS]using h)
 | osl id k off len=>cases hr with|osl a b c d e=>exact EY hi (.osl a b c d e) rfl (by simpa only[kS]using h)
 | _=>simp[kS,CO]at h
theorem JS {w:World} {m:Mem} {φ:Pl} {st:Store} (hi:Inv w m φ st):∀ {cs us:List AV} {xs:List Value},RepL m φ cs xs→nS st cs=some us→RepL (X7 w m φ) (fun _=>none) us xs
 | [],us,_, .nil,h=>by simp[nS]at h;subst h;exact .nil
 | c::cs,us,_, .cons a b,h=>by
  simp only[nS]at h;obtain⟨v,h1,h2⟩:=aI.1 h;obtain⟨l',h3,h4⟩:=aI.1 h2;injection h4 with h4;subst h4;exact .cons (.i (AC7 hi a h1)) (JS hi b h3)
theorem OY {C:Ctx} {call:dI} (hcall:CallOk C call) {g:FuncId} {args:List AV} {stl stl':StL} {r:AV} (h:give call g args stl=some (r,stl')) (hy:g≠oG:=by decide) :
 (∃ fn,C.P.funcs[g]?=some fn∧fn.name≠ "runtime.NumGoroutine"∧fn.body.isSome=true)∧∀ (w:World) (m:Mem) (φ:Pl) (vs:List Value),Inv w m φ (aR stl)→RepL m φ args vs→(∀ id,φ id≠none→id<stl.length) →
  Calls C.P g vs.toArray w (bS w m φ r stl'):=by
 unfold give at h;obtain⟨us,h1,h2⟩:=aI.1 h;obtain⟨p,h3,h4⟩:=aI.1 h2;obtain⟨h5,h6⟩:=aQ.1 h4;injection h6 with h6;injection h6 with h6 h7;subst h6;subst h7;refine⟨hcall.name _ _ _ _ hy h3,fun w m φ vs hi hr hb=>?_⟩
 have hinv:Inv w (X7 w m φ) (fun _=>none) (aR []):=⟨AS4 hi.mem,fun id blk e=>(by simp[aR]at e),fun i j b b' n n' b1 b2 f e=>(by simp[aR]at e),(fun _ _ _ _ e=>(by cases e)),hi.kn.mem (QS hi.mem)⟩
 refine(hcall.calls g us [] p.1 p.2 hy h3 w (X7 w m φ) (fun _=>none) vs hinv (JS hi hr h1) (fun id h=>absurd rfl h)).mono ?_;rintro e w' ⟨v,m',φ',rfl,j1,j2,j3,j4⟩;have free0:∀ b,eD (fun _=>none) b:=fun b id r n e=>by cases e
 refine⟨v,m',φ,rfl,?_,⟨j2.mem,fun id blk e=>(by rw[KU]at e;cases e),fun i j b b' n n' b1 b2 f e=>(by rw[KU]at e;cases e),(fun i b n f e ho=>zI (hi.low i b n f e ho) j3.size),j2.kn⟩,
  ⟨j3.size,j3.os,j3.tape,j3.output,fun b hb' _=>j3.block b hb' (free0 b),(QS hi.mem).trans j3.mle,fun b hb' hf o=>by rw[j3.mnew b hb' (free0 b) o,AHQ hf o], .refl _,fun _ _ _ _ e ho=>.inr (eD.not e ho)⟩,?_⟩
 ·exact j1.ren (r:=fun _=>none) fun id j p e=>by cases e
 ·intro id hne;rw[DU];exact hb id hne
def APK (call:dI) (g:FuncId):List AV→StL→Option (AV×StL)
 | args,[]=>bnd (call g args []) fun p=>bnd (rV (aR p.2) p.1) fun q=>some (.i q.1,[])
 | _,_=>none
theorem P5 {C:Ctx} {call:dI} (hcall:CallOk C call) {g:FuncId} {args:List AV} {stl stl':StL} {r:AV} (h:APK call g args stl=some (r,stl')) (hy:g≠oG:=by decide) :
 (∃ fn,C.P.funcs[g]?=some fn∧fn.name≠ "runtime.NumGoroutine"∧fn.body.isSome=true)∧∀ (w:World) (m:Mem) (φ:Pl) (vs:List Value),Inv w m φ (aR stl)→RepL m φ args vs→(∀ id,φ id≠none→id<stl.length) →
  Calls C.P g vs.toArray w (bS w m φ r stl'):=by
 unfold APK at h;split at h
 ·obtain⟨p,h1,h2⟩:=aI.1 h;obtain⟨q,h3,h4⟩:=aI.1 h2;injection h4 with h4;injection h4 with h4 h5;subst h4;subst h5;refine⟨hcall.name _ _ _ _ hy h1,fun w m φ vs hi hr h0=>?_⟩;refine(hcall.calls _ _ _ p.1 p.2 hy h1 w m φ vs hi hr h0).mono ?_;rintro e w' ⟨v,m',φ',rfl,j1,j2,j3,j4⟩;obtain⟨m1,k1,k2,k3⟩:=iY j2 j1 (show rV _ p.1=some (q.1,q.2)from h3)
  have hn:∀ id,φ id=none:=fun id=>by
   cases e:φ id with
   | none=>rfl
   | some b=>exact absurd (h0 id (by rw[e];simp)) (xS _)
  have ha:=j3.trans k3;refine⟨v,m1,fun _=>none,rfl, .i k1,⟨k2.mem,fun id blk e=>(by simp[aR]at e),fun i j b b' n n' b1 b2 f e=>(by simp[aR]at e),(fun _ _ _ _ e=>(by cases e)),k2.kn⟩,⟨ha.size,ha.os,ha.tape,ha.output,ha.block,ha.mle,ha.mnew,fun id b n e=>(by rw[hn id]at e;cases e),fun _ _ _ _ e=>(by cases e)⟩,fun id e=>absurd rfl e⟩
 ·cases h
def AaG (st:Store):AV→Option IV
 | .i v=>some v
 | .osl id k off len=>match st id with
  | some (.arr k' es)=>tst (decide (k'=k∧off=0∧len≤es.length∧0<len)) (some (.isl (es.take len)))
  | _=>none
 | _=>none
def AOA (st:Store):List AV→Option (List AV)
 | []=>some []
 | c::r=>bnd (AaG st c) fun v=>bnd (AOA st r) fun l=>some (.i v::l)
def AbM (call:dI) (g:FuncId) (args:List AV) (st:StL):Option (AV×StL) :=
 bnd (AOA (aR st) args) fun us=>match call g us []with
  | some (.i v,[])=>tst (jM v) (some (.i v,st))
  | _=>none
def jk:Nat→IV→AV
 | 0,_=>.junk
 | _+1,v=>.i v
@[simp] theorem Ap3 (v:IV):jk 0 v=.junk:=(rfl)
@[simp] theorem Ap2 (i:Nat) (v:IV):jk (i+1) v=.i v:=(rfl)
@[simp] theorem AZT (i:Nat) (v:IV):dE (jk i v)=[]:=by cases i<;>rfl
@[simp] theorem AcG (r:Nat→Option Nat) (i:Nat) (v:IV):ren r (jk i v)=jk i v:=by cases i<;>rfl
section
variable {C:Ctx} {G:List Nat} {na:Nat} {b:Code}
end
section
variable {C:Ctx} {G:List Nat} {na:Nat} {b:Code}
theorem aS (X:Nat→AS) (n:Nat) {S0:AS} (h0:S0=X 0) (hs:∀ i,i<n→dY C G na b (X i)=some (.normal,X (i+1))):dY C G na (.loop b) S0=dY C G na (.loop b) (X n):=by
 subst h0
 have key:∀ k i,i+k=n→dY C G na (.loop b) (X i)=dY C G na (.loop b) (X n):=by
  intro k
  induction k with
  | zero=>intro i hi;have:i=n:=by omega
          subst this;rfl
  | succ k ih=>intro i hi;rw[aG,hs i (by omega)];exact ih (i+1) (by omega)
 exact key n 0 (by omega)
end
@[simp] theorem ADT (st:Store):∀ l:List IV,oH st (lF l)=some (l,st)
  | []=>rfl
  | v::l=>by simp[lF,oH,rV,ADT st l]
@[simp] theorem ATX {α:Type} (es:List α) (off len:Nat):window es off len=(es.drop off).take len:=(rfl)
@[simp] theorem Ac8 (n:Nat):Region.binds .any ⟨n, .data⟩=true:=(rfl)
@[simp] theorem Ac9 (n:Nat):Region.binds .any ⟨n, .chain⟩=true:=(rfl)
@[simp] theorem Ac7 (n:Nat):Region.binds .any ⟨n, .guard⟩=true:=(rfl)
@[simp] theorem Ac6 (n:Nat):Region.binds .any ⟨n, .phase⟩=true:=(rfl)
def gro (id k:Nat):Nat→AV
 | 0=>.nils
 | i+1=>.osl id k 0 (i+1)
def ADS (k:Nat) (es:List (List IV)):Nat→StL
 | 0=>[]
 | _+1=>[some (.arr k es)]
@[simp] theorem AhO (id k:Nat):gro id k 0=.nils:=(rfl)
@[simp] theorem AhN (id k i:Nat):gro id k (i+1)=.osl id k 0 (i+1):=(rfl)
@[simp] theorem AcQ (k:Nat) (es:List (List IV)):ADS k es 0=[]:=(rfl)
@[simp] theorem AcP (k:Nat) (es:List (List IV)) (i:Nat):ADS k es (i+1)=[some (.arr k es)]:=(rfl)
theorem aP {i:Nat} (h:i≠0) (id k:Nat):gro id k i=.osl id k 0 i:=by cases i with|zero=>exact absurd rfl h|succ i=>rfl
theorem aM {i:Nat} (h:i≠0) (k:Nat) (es:List (List IV)):ADS k es i=[some (.arr k es)]:=by cases i with|zero=>exact absurd rfl h|succ i=>rfl
theorem bT {i:Nat} (h:i≠0) (v:IV):jk i v=.i v:=by cases i with|zero=>exact absurd rfl h|succ i=>rfl
@[simp] theorem YM:∀ l:List IV,(lF l).length=l.length
  | []=>rfl
  | _::l=>by simp[lF,YM l]
theorem jP:∀ {cs xs:List IV},cs.length=xs.length→splice cs 0 xs=some xs
 | [],[],_=>rfl
 | c::cs,x::xs,h=>by simp[splice,jP (cs:=cs) (xs:=xs) (by simpa using h)]
 | [],_::_,h=>by simp at h
 | _::_,[],h=>by simp at h
theorem nW {α:Type}:∀ (D:List α) (z:α) (r:List α),fT (D++z::r) D.length=some z
 | [],z,r=>rfl
 | a::D,z,r=>by simp only[yV,zP,fT];exact nW D z r
theorem vY {α:Type} {D:List α} {n i:Nat} {z:α} (hD:D.length=i) (h:i<n):fT (D++List.replicate (n-i) z) i=some z:=by
 subst hD
 obtain⟨k,hk⟩:∃ k,n-D.length=k+1:=⟨n-D.length-1,by omega⟩
 rw[hk,xO];exact nW D z _
theorem vX {α:Type} {D:List α} {n i:Nat} {z x:α} (hD:D.length=i) (h:i<n):(D++List.replicate (n-i) z).set i x=(D++[x])++List.replicate (n-(i+1)) z:=by
 subst hD
 obtain⟨k,hk⟩:∃ k,n-D.length=k+1:=⟨n-D.length-1,by omega⟩
 rw[hk,xO,zA9 _ _ (zO _),zE6,zC6,show n-(D.length+1)=k by omega];simp
theorem IR {α:Type} (p:α→Bool):∀ (l:List α),l.all p=true∨∃ (j:Nat) (a:α),l[j]?=some a∧p a=false∧(∀ (i:Nat) (b:α),i<j→l[i]?=some b→p b=true)∧l.all p=false
 | []=>.inl rfl
 | a::l=>by
  cases h:p a with
  | false=>exact .inr ⟨0,a,rfl,h,fun i b hi=>by omega,by simp[h]⟩
  | true =>
   rcases IR p l with h1|⟨j,x,h1,h2,h3,h4⟩
   ·exact .inl (by simp[h,h1])
   ·refine .inr ⟨j+1,x,by simpa using h1,h2,?_,by simp[h,h4]⟩;intro i b hi hb
    cases i with
    | zero=>simp at hb;subst hb;exact h
    | succ i=>exact h3 i b (by omega) (by simpa using hb)
theorem gG {α:Type} (p:α→Bool) (l:List α):∃ j:Nat,(∀ i,i<j→∃ k,l[i]?=some k∧k∈l∧p k=true)∧((j=l.length∧l.all p=true)∨∃ k,l[j]?=some k∧k∈l∧p k=false∧l.all p=false):=by
 rcases IR p l with h|⟨j,a,h1,h2,h3,h4⟩
 ·refine⟨l.length,?_, .inl ⟨rfl,h⟩⟩;intro i hi;have e:=zX hi;exact⟨_,e,zU e,zQ.1 h _ (zU e)⟩
 ·refine⟨j,?_, .inr ⟨a,h1,zU h1,h2,h4⟩⟩;intro i hi;have hl:i<l.length:=by have:=(zZ.1 h1).1;omega
  have e:=zX hl;exact⟨_,e,zU e,h3 i _ hi e⟩
@[simp] theorem IZ (z:List IV):∀ n:Nat,fM (List.replicate n z)=(decide (n=0) || mJ z)
  | 0=>by simp[fM]
  | n+1=>by simp only[xO,fM,IZ z n];cases mJ z<;>simp
inductive Pn where
 | mk (kind table:Int) (exprs:List Ex) (cols:List Int) (kids:List Pn)
def Pn.kind:Pn→Int | .mk k _ _ _ _=>k
def Pn.table:Pn→Int | .mk _ t _ _ _=>t
def Pn.exprs:Pn→List Ex | .mk _ _ es _ _=>es
def Pn.cols:Pn→List Int | .mk _ _ _ cs _=>cs
def Pn.kids:Pn→List Pn | .mk _ _ _ _ ks=>ks
@[simp] theorem Pn.dW (k t es cs ks):(Pn.mk k t es cs ks).kind=k:=rfl
@[simp] theorem Pn.gH (k t es cs ks):(Pn.mk k t es cs ks).table=t:=rfl
@[simp] theorem Pn.bR (k t es cs ks):(Pn.mk k t es cs ks).exprs=es:=rfl
@[simp] theorem Pn.dZ (k t es cs ks):(Pn.mk k t es cs ks).cols=cs:=rfl
@[simp] theorem Pn.fB (k t es cs ks):(Pn.mk k t es cs ks).kids=ks:=rfl
theorem Pn.eta (p:Pn):Pn.mk p.kind p.table p.exprs p.cols p.kids=p:=by cases p;rfl
def aF:List Int→List (List IV)
 | []=>[]
 | x::l=>[.int x]::aF l
@[simp] theorem VL:∀ l:List Int,(aF l).length=l.length
  | []=>rfl
  | _::l=>by simp[aF,VL l]
theorem aX:∀ {l:List Int} {i:Nat} {x:Int},l[i]?=some x→fT (aF l) i=some [.int x]
 | [],_,_,h=>by simp at h
 | a::l,0,x,h=>by simp at h;subst h;simp[aF,fT]
 | a::l,i+1,x,h=>by simp only[aF,fT];exact aX (by simpa using h)
@[simp] theorem VK:∀ l:List Int,kV 1 (aF l)=true
  | []=>by simp[aF,kV]
  | _::l=>by have:=VK l;simp only[kV]at this;simp[aF,kV,this]
theorem dX (a b:List Int):aF (a++b)=aF a++aF b:=by
 induction a with
 | nil=>rfl
 | cons x a ih=>simp[aF,ih]
@[simp] theorem ADL:∀ (n:Nat) (l:List Int),(aF l).take n=aF (l.take n)
  | 0,l=>by simp[aF]
  | n+1,[]=>by simp[aF]
  | n+1,x::l=>by simp[aF,ADL n l]
@[simp] theorem ADM:∀ (n:Nat) (l:List Int),(aF l).drop n=aF (l.drop n)
  | 0,l=>by simp
  | n+1,[]=>by simp[aF]
  | n+1,x::l=>by simp[aF,ADM n l]
theorem lD (l:List Int) (x:Int):aF (l++[x])=aF l++[[.int x]]:=by rw[dX];rfl
mutual
def Pn.cells:Pn→List IV
 | .mk k t es cs ks=>[.int k, .int t, .isl (Ex.aB es), .isl (aF cs), .isl (Pn.aB ks)]
def Pn.aB:List Pn→List (List IV)
 | []=>[]
 | p::ps=>p.cells::Pn.aB ps
end
theorem Pn.ind {P:Pn→Prop} (h:∀ k t es cs ks,(∀ p∈ks,P p)→P (.mk k t es cs ks)):(p:Pn)→P p
 | .mk k t es cs ks=>h k t es cs ks fun p hp=>Pn.ind h p
termination_by p=>SizeOf.sizeOf p
decreasing_by
 have:=List.sizeOf_lt_of_mem hp;simp;omega
theorem Pn.aA (p:Pn):p.cells=[.int p.kind, .int p.table, .isl (Ex.aB p.exprs), .isl (aF p.cols), .isl (Pn.aB p.kids)]:=by
 cases p;simp[Pn.cells,Pn.kind,Pn.table,Pn.exprs,Pn.cols,Pn.kids]
theorem Pn.bF (k t:Int) (es:List Ex) (cs:List Int) (ks:List Pn):(Pn.mk k t es cs ks).cells=[.int k, .int t, .isl (Ex.aB es), .isl (aF cs), .isl (Pn.aB ks)]:=by simp[Pn.cells]
@[simp] theorem Pn.bA:∀ (l:List Pn),(Pn.aB l).length=l.length
  | []=>by simp[Pn.aB]
  | _::l=>by simp[Pn.aB,Pn.bA l]
theorem Pn.aO:∀ {l:List Pn} {i:Nat} {p:Pn},l[i]?=some p→fT (Pn.aB l) i=some p.cells
 | [],_,_,h=>by simp at h
 | a::l,0,p,h=>by simp at h;subst h;simp[Pn.aB,fT]
 | a::l,i+1,p,h=>by simp only[Pn.aB,fT];exact Pn.aO (by simpa using h)
@[simp] theorem Pn.dH (p:Pn):p.cells.length=5:=by rw[Pn.aA];rfl
@[simp] theorem Pn.sH:∀ (l:List Pn),kV 5 (Pn.aB l)=true
  | []=>by simp[Pn.aB,kV]
  | p::l=>by
   have:=Pn.sH l;simp only[kV]at this;simp[Pn.aB,kV,Pn.dH,this]
theorem Pn.kM (a b:List Pn):Pn.aB (a++b)=Pn.aB a++Pn.aB b:=by
 induction a with
 | nil=>simp[Pn.aB]
 | cons e a ih=>simp[Pn.aB,ih]
@[simp] theorem Pn.BP:∀ (n:Nat) (l:List Pn),(Pn.aB l).take n=Pn.aB (l.take n)
  | 0,l=>by simp[Pn.aB]
  | n+1,[]=>by simp[Pn.aB]
  | n+1,p::l=>by simp[Pn.aB,Pn.BP n l]
theorem Pn.aZ (l:List Pn) (p:Pn):Pn.aB (l++[p])=Pn.aB l++[p.cells]:=by
 rw[Pn.kM];simp[Pn.aB]
@[simp] theorem Pn.RY (p:Pn) (a b c d f:AV):splice [a,b,c,d,f] 0 (lF p.cells)=some (lF p.cells):=by rw[Pn.aA];rfl
mutual
def Pn.size:Pn→Nat
 | .mk _ _ _ _ ks=>1+Pn.aL ks
def Pn.aL:List Pn→Nat
 | []=>0
 | p::ps=>p.size+Pn.aL ps
end
theorem Pn.size_eq (p:Pn):p.size=1+Pn.aL p.kids:=by cases p;simp[Pn.size,Pn.kids]
theorem Pn.nA (p:Pn):1≤p.size:=by rw[Pn.size_eq];omega
theorem Pn.bN:∀ (l:List Pn),l.length≤Pn.aL l
 | []=>by simp[Pn.aL]
 | e::es=>by have:=Pn.bN es;have:=Pn.nA e;simp[Pn.aL];omega
theorem Pn.uC:∀ (l m:List Pn),Pn.aL (l++m)=Pn.aL l+Pn.aL m
 | [],m=>by simp[Pn.aL]
 | a::l,m=>by simp[Pn.aL,Pn.uC l m];omega
mutual
def Pn.thin:Pn→Prop
 | .mk _ _ es cs ks=>es.length<1000000000∧(∀ e∈es,e.thin)∧cs.length<1000000000∧ks.length<1000000000∧Pn.qZ ks
def Pn.qZ:List Pn→Prop
 | []=>True
 | p::ps=>p.thin∧Pn.qZ ps
end
theorem Pn.uA:∀ (l:List Pn),Pn.qZ l↔∀ p∈l,p.thin
 | []=>by simp[Pn.qZ]
 | p::l=>by simp[Pn.qZ,Pn.uA l]
theorem Pn.bM (p:Pn):p.thin↔p.exprs.length<1000000000∧(∀ e∈p.exprs,e.thin)∧p.cols.length<1000000000∧p.kids.length<1000000000∧∀ a∈p.kids,a.thin:=by
 cases p;simp[Pn.thin,Pn.uA]
def Pn.zero:Pn:=.mk 0 0 [] [] []
def Pn.scan (t:Int):Pn:=.mk 1 t [] [] []
def jJ (k:Int):Int:=if k=1 then 0 else if k=2∨k=3∨k=7∨k=8 then 1 else if k=4∨k=5∨k=6 then 2 else -1
def eU (k:Int):Int:=if k=2∨k=3∨k=4∨k=5 then 1 else 0
def Pn.headOk (p:Pn):Bool:=decide ((p.kids.length:Int)=jJ p.kind) && (decide ((p.exprs.length:Int)=if p.kind=3∧bH p.exprs.length=true then(p.exprs.length:Int)else eU p.kind) && ((decide (p.kind=1) || decide (p.table=0)) && (decide (p.kind=8) || decide (p.cols=[]))))
def tH (w:Int) (cs:List Int):Bool:=(cs.zip (-1::cs)).all fun x=>decide (x.2<x.1∧x.1<w)
def dF (k:Int) (es:List Ex) (cs:List Int) (a b:Int):Int :=
 if k=4∨k=5 then(if a+b≤6∧es.all (Ex.ok (a+b))=true then a+b else 0)
 else if k=6 then(if a=b then a else 0)
 else if k=8 then(if cs.length<6∧tH a cs=true then(cs.length:Int)+1 else 0)
 else if k=3 then(if es.all (Ex.ok a)=true then(es.length:Int)else 0)
 else(if es.all (Ex.ok a)=true then a else 0)
mutual
def Pn.wd (ws:List Int):Nat→Pn→Int
 | lv, .mk k t es cs ks=>if Pn.headOk (.mk k t es cs ks)=true∧(ks=[]∨lv≠0)then(if k=1 then(if 0≤t then(ws[t.toNat]?).getD 0 else 0)else if(Pn.wdL ws (lv-1) ks).all (fun x=>decide (x≠0))=true then dF k es cs ((Pn.wdL ws (lv-1) ks)[0]?.getD 0) ((Pn.wdL ws (lv-1) ks)[1]?.getD 0)else 0)else 0
def Pn.wdL (ws:List Int):Nat→List Pn→List Int
 | _,[]=>[]
 | lv,p::ps=>Pn.wd ws lv p::Pn.wdL ws lv ps
end
theorem Pn.XK (ws:List Int) (lv:Nat):∀ l:List Pn,Pn.wdL ws lv l=l.map (Pn.wd ws lv)
 | []=>by simp[Pn.wdL]
 | p::l=>by simp[Pn.wdL,Pn.XK ws lv l]
theorem Pn.A9 (ws:List Int) (lv:Nat) (p:Pn):p.wd ws lv=if p.headOk=true∧(p.kids=[]∨lv≠0)then(if p.kind=1 then(if 0≤p.table then(ws[p.table.toNat]?).getD 0 else 0)else if p.kids.all (fun x=>decide (x.wd ws (lv-1)≠0))=true then dF p.kind p.exprs p.cols ((p.kids[0]?.map (Pn.wd ws (lv-1))).getD 0) ((p.kids[1]?.map (Pn.wd ws (lv-1))).getD 0)else 0)else 0:=by
 obtain⟨k,t,es,cs,ks⟩:=p;simp only[Pn.wd,Pn.XK,List.all_map,xJ,Pn.fB,Pn.dW,Pn.gH,Pn.bR,Pn.dZ];rfl
def kH (ws:List Int):Bool:=decide (1≤ws.length∧ws.length≤4) && ws.all bH
def Pn.width (p:Pn) (ws:List Int):Int:=if kH ws=true then p.wd ws 8 else 0
theorem TP {k:Int} {es:List Ex} {cs:List Int} {a b:Int} (ha:0≤a∧a≤6) (hb:0≤b∧b≤6) (he:k=3→es.length≤6):0≤dF k es cs a b∧dF k es cs a b≤6:=by
 unfold dF;split
 ·split<;>omega
 ·split
  ·split<;>omega
  ·split
   ·split<;>omega
   ·split
    ·have:=he (by assumption);split<;>omega
    ·split<;>omega
theorem Pn.uN {p:Pn} (h:p.headOk=true):p.exprs.length≤6:=by
 unfold Pn.headOk at h;simp only[zT,zM]at h;have h2:=h.2.1;split at h2
 ·rename_i hc;have:=hc.2;simp[bH]at this;omega
 ·unfold eU at h2;split at h2<;>omega
theorem Pn.LQ {p:Pn} (h:p.headOk=true):p.kids.length≤2:=by
 unfold Pn.headOk at h;simp only[zT,zM]at h;have h2:=h.1;unfold jJ at h2;split at h2
 ·omega
 ·split at h2
  ·omega
  ·split at h2<;>omega
theorem ASE {p:Prop} [Decidable p] {a b:Int} (ha:0≤a∧a≤6) (hb:0≤b∧b≤6):0≤(if p then a else b)∧(if p then a else b)≤6:=by split<;>assumption
theorem Pn.qV {ws:List Int} (hw:∀ w∈ws,0≤w∧w≤6):∀ (p:Pn) (lv:Nat),0≤p.wd ws lv∧p.wd ws lv≤6:=by
 intro p
 induction p using Pn.ind with
 | h k t es cs ks ih =>
  intro lv;rw[Pn.A9];split
  ·rename_i hc;have he:=Pn.uN hc.1;simp only[Pn.fB,Pn.dW,Pn.gH,Pn.bR,Pn.dZ]at he ⊢;by_cases h1:k=1
   ·simp only[h1,if_true];by_cases h2:0≤t
    ·simp only[h2,if_true]
     cases hx:ws[t.toNat]? with
     | none=>simp
     | some x=>simpa using hw x (zU hx)
    ·simp only[h2,if_false];omega
   ·simp only[h1,if_false]
    have hk:∀ i:Nat,0≤(ks[i]?.map (Pn.wd ws (lv-1))).getD 0∧(ks[i]?.map (Pn.wd ws (lv-1))).getD 0≤6:=by
     intro i
     cases hx:ks[i]? with
     | none=>simp
     | some x=>simpa using ih x (zU hx) (lv-1)
    exact ASE (TP (hk 0) (hk 1) fun _=>he) (by omega)
  ·omega
theorem Pn.AC5 {ws:List Int} {lv:Nat} {p:Pn} (h:¬ (p.headOk=true∧(p.kids=[]∨lv≠0))):p.wd ws lv=0:=by
 rw[Pn.A9,if_neg h]
theorem KV (k:Int):jJ k=-1∨(jJ k=0∧k=1)∨(jJ k=1∧(k=2∨k=3∨k=7∨k=8))∨(jJ k=2∧(k=4∨k=5∨k=6)):=by
 unfold jJ;split
 ·simp[*]
 ·split
  ·simp[*]
  ·split
   ·simp[*]
   ·simp
mutual
def Pn.lim:Pn→Prop
 | .mk _ _ es cs ks=>es.length<9223372036854775808∧cs.length<9223372036854775808∧ks.length<9223372036854775808∧Pn.AXK ks
def Pn.AXK:List Pn→Prop
 | []=>True
 | p::ps=>p.lim∧Pn.AXK ps
end
theorem Pn.AAT:∀ (l:List Pn),Pn.AXK l↔∀ p∈l,p.lim
 | []=>by simp[Pn.AXK]
 | p::l=>by simp[Pn.AXK,Pn.AAT l]
theorem Pn.LC (p:Pn):p.lim↔p.exprs.length<9223372036854775808∧p.cols.length<9223372036854775808∧p.kids.length<9223372036854775808∧∀ a∈p.kids,a.lim:=by
 cases p;simp[Pn.lim,Pn.AAT]
theorem Pn.ZX:∀ (p:Pn),p.thin→p.lim:=by
 intro p
 induction p using Pn.ind with
 | h k t es cs ks ih =>
  intro h;have h:=(Pn.bM _).1 h;simp only[Pn.bR,Pn.dZ,Pn.fB]at h;exact(Pn.LC _).2 ⟨by simp;omega,by simp;omega,by simp;omega,fun a ha=>ih a ha (h.2.2.2.2 a ha)⟩
theorem Pn.JK:Pn.zero.thin:=by simp[Pn.zero,Pn.thin,Pn.qZ]
mutual
def Pn.tiny:Pn→Prop
 | .mk _ _ es _ ks=>(∀ e∈es,e.size<1000000000)∧Pn.ACD ks
def Pn.ACD:List Pn→Prop
 | []=>True
 | p::ps=>p.tiny∧Pn.ACD ps
end
theorem Pn.TY:∀ (l:List Pn),Pn.ACD l↔∀ p∈l,p.tiny
 | []=>by simp[Pn.ACD]
 | p::l=>by simp[Pn.ACD,Pn.TY l]
theorem Pn.Q4 (p:Pn):p.tiny↔(∀ e∈p.exprs,e.size<1000000000)∧∀ a∈p.kids,a.tiny:=by
 cases p;simp[Pn.tiny,Pn.TY]
theorem TQ {k:Int} {es:List Ex} {cs:List Int} {a b:Int} (h:dF k es cs a b≠0) (h6:k=6→es=[]) (h8:k=8→es=[]):∀ e∈es,e.size<1000:=by
 unfold dF at h;intro e he;have fin:∀ w:Int,es.all (Ex.ok w)=true→e.size<1000:=fun w hw=>Ex.gK (zQ.1 hw e he)
 split at h
 ·split at h
  ·rename_i hc;exact fin _ hc.2
  ·exact absurd rfl h
 ·split at h
  ·rename_i hk;rw[h6 hk]at he;cases he
  ·split at h
   ·rename_i hk;rw[h8 hk]at he;cases he
   ·split at h
    ·split at h
     ·rename_i hc;exact fin _ hc
     ·exact absurd rfl h
    ·split at h
     ·rename_i hc;exact fin _ hc
     ·exact absurd rfl h
theorem gP {p:Prop} [Decidable p] {a:Int} (h:(if p then a else 0)≠0):p∧a≠0:=by
 by_cases hp:p
 ·rw[if_pos hp]at h;exact⟨hp,h⟩
 ·rw[if_neg hp]at h;exact absurd rfl h
theorem Pn.BD {p:Pn} (h:p.headOk=true) (hk:p.kind=1∨p.kind=6∨p.kind=7∨p.kind=8):p.exprs=[]:=by
 unfold Pn.headOk at h;simp only[zT,zM]at h;have h2:=h.2.1;have hn:eU p.kind=0:=by unfold eU;rcases hk with e|e|e|e<;>simp[e]
 split at h2
 ·rename_i hc;rcases hk with e|e|e|e<;>(rw[e]at hc;exact absurd hc.1 (by decide))
 ·rw[hn]at h2;exact zW.1 (by omega)
theorem Pn.BF {p:Pn} (h:p.headOk=true) (hk:p.kind=1):p.kids=[]:=by
 unfold Pn.headOk at h;simp only[zT,zM]at h;have h2:=h.1;rw[hk]at h2;simp[jJ]at h2;exact h2
theorem Pn.AGD:∀ (l:List Pn) (c:Nat),l.length≤2→(∀ p∈l,p.size≤c)→Pn.aL l≤2*c
 | [],c,_,_=>by simp[Pn.aL]
 | [a],c,_,h=>by have:=h a (by simp);simp[Pn.aL];omega
 | [a,b],c,_,h=>by have:=h a (by simp);have:=h b (by simp);simp[Pn.aL];omega
 | _::_::_::_,_,h,_=>by simp at h
theorem Pn.tY {ws:List Int}:∀ (p:Pn) (lv:Nat),p.wd ws lv≠0→p.tiny∧p.size+1≤2 ^ (lv+1):=by
 intro p
 induction p using Pn.ind with
 | h k t es cs ks ih =>
  intro lv h;rw[Pn.A9]at h;split at h
  ·rename_i hc;obtain⟨hh,hlv⟩:=hc;have hkl:=Pn.LQ hh;simp only[Pn.fB,Pn.dW,Pn.gH,Pn.bR,Pn.dZ]at h hlv hkl;by_cases h1:k=1
   ·have e1:es=[]:=Pn.BD hh (.inl h1);have e2:ks=[]:=Pn.BF hh h1;subst e1;subst e2;refine⟨by simp[Pn.tiny,Pn.ACD],?_⟩;have:1≤2 ^ lv:=zD6;simp[Pn.size,Pn.aL,zE9];omega
   ·simp only[h1,if_false]at h;obtain⟨hall,h⟩:=gP h
    ·rw[zQ]at hall;have hes:∀ e∈es,e.size<1000:=TQ h (fun e=>Pn.BD hh (.inr (.inl e))) (fun e=>Pn.BD hh (.inr (.inr (.inr e))));by_cases hkn:ks=[]
     ·subst hkn;refine⟨(Pn.Q4 _).2 ⟨fun e he=>by have:=hes e he;omega,by simp⟩,?_⟩;have:1≤2 ^ lv:=zD6;simp[Pn.size,Pn.aL,zE9];omega
     ·have hl0:lv≠0:=by rcases hlv with e|e;exact absurd e hkn;exact e
      have hk:∀ a∈ks,a.tiny∧a.size+1≤2 ^ (lv-1+1):=fun a ha=>ih a ha (lv-1) (by simpa using hall a ha)
      refine⟨(Pn.Q4 _).2 ⟨fun e he=>by have:=hes e he;omega,fun a ha=>(hk a ha).1⟩,?_⟩;rw[show lv-1+1=lv by omega]at hk;have hp:1≤2 ^ lv:=zD6;have:=Pn.AGD ks (2 ^ lv-1) hkl fun a ha=>by have:=(hk a ha).2;omega
      simp only[Pn.size,zE9];omega
  ·exact absurd rfl h
theorem Pn.XJ {p:Pn} {ws:List Int}:0≤p.width ws∧p.width ws≤6:=by
 unfold Pn.width;split
 ·rename_i h;refine Pn.qV (fun w hw=>?_) p 8;simp only[kH,zT,zQ]at h;have:=h.2 w hw;simp[bH]at this;omega
 ·omega
def Pn.hit (t:Int) (p:Pn):Bool:=decide (p.kind=1) && decide (p.table=t)
theorem AML {p:Prop} {d e:Decidable p} {a b:Int}:@ite _ p d a b=@ite _ p e a b:=by rw[Subsingleton.elim d e]
theorem Pn.jD {ws:List Int}:∀ (p:Pn) (lv lv':Nat),p.wd ws lv≠0→lv≤lv'→p.wd ws lv'=p.wd ws lv:=by
 intro p
 induction p using Pn.ind with
 | h k t es cs ks ih =>
  intro lv lv' h hl;have h0:=h;rw[Pn.A9]at h;by_cases hc:(Pn.mk k t es cs ks).headOk=true∧((Pn.mk k t es cs ks).kids=[]∨lv≠0)
  case neg=>rw[if_neg hc]at h;exact absurd rfl h
  rw[if_pos hc]at h
  have hc':(Pn.mk k t es cs ks).headOk=true∧((Pn.mk k t es cs ks).kids=[]∨lv'≠0):=⟨hc.1,hc.2.imp id fun h=>by omega⟩
  rw[Pn.A9,Pn.A9,if_pos hc,if_pos hc'];simp only[Pn.fB,Pn.dW,Pn.gH,Pn.bR,Pn.dZ]at h ⊢;by_cases h1:k=1
  ·simp only[h1,if_true]
  ·simp only[h1,if_false]at h ⊢;obtain⟨hall,h⟩:=gP h;have hall2:=zQ.1 hall;have hk:∀ a∈ks,a.wd ws (lv'-1)=a.wd ws (lv-1):=fun a ha=>ih a ha (lv-1) (lv'-1) (by simpa using hall2 a ha) (by omega)
   have e1:(ks.all fun x=>decide (x.wd ws (lv'-1)≠0))=(ks.all fun x=>decide (x.wd ws (lv-1)≠0)):=by
    rw[zC9,zQ,zQ];exact⟨fun g a ha=>by rw[← hk a ha];exact g a ha,fun g a ha=>by rw[hk a ha];exact g a ha⟩
   have e2:∀ i:Nat,(ks[i]?.map (Pn.wd ws (lv'-1)))=(ks[i]?.map (Pn.wd ws (lv-1))):=fun i=>by
    cases hx:ks[i]? with
    | none=>rfl
    | some a=>simp[hk a (zU hx)]
   rw[e2 0,e2 1];simp only[e1];exact AML
theorem AR6 {ws:List Int} {t W:Int} (h0:0≤t) (hw:ws[t.toNat]?=some W) (lv:Nat):(Pn.scan t).wd ws lv=W:=by
 rw[Pn.A9];have hh:(Pn.scan t).headOk=true:=by simp[Pn.scan,Pn.headOk,jJ,eU]
 rw[if_pos ⟨hh, .inl rfl⟩];simp[Pn.scan,h0,hw]
def filt (e:Ex) (k:Pn):Pn:=.mk 2 0 [e] [] [k]
def proj (es:List Ex) (k:Pn):Pn:=.mk 3 0 es [] [k]
def bB (kd:Int) (e:Ex) (a b:Pn):Pn:=.mk kd 0 [e] [] [a,b]
def bX (a b:Pn):Pn:=.mk 6 0 [] [] [a,b]
def ABW (a b:Ex):Ex:=.mk 8 0 Val.zero [a,b]
def ABM (c:Int):Ex:=.mk 1 c Val.zero []
theorem TN {ws:List Int} {p:Pn} {lv:Nat} (h:p.wd ws lv≠0) (hk:p.kids≠[]):∃ m,lv=m+1:=by
 cases lv with
 | succ m=>exact⟨m,rfl⟩
 | zero =>
  rw[Pn.A9]at h;by_cases hc:p.headOk=true∧(p.kids=[]∨0≠0)
  ·rcases hc.2 with e|e
   ·exact absurd e hk
   ·exact absurd rfl e
  ·rw[if_neg hc]at h;exact absurd rfl h
theorem TM {ws:List Int} {k:Int} {es:List Ex} {cs:List Int} {a:Pn} {lv:Nat} (h1:k=2∨k=3∨k=7∨k=8):(Pn.mk k 0 es cs [a]).wd ws (lv+1)=if(Pn.mk k 0 es cs [a]).headOk=true∧a.wd ws lv≠0 then dF k es cs (a.wd ws lv) 0 else 0:=by
 rw[Pn.A9];have hk:k≠1:=by omega
 simp only[Pn.fB,Pn.dW,Pn.gH,Pn.bR,Pn.dZ,hk,if_false];by_cases ho:(Pn.mk k 0 es cs [a]).headOk=true
 ·by_cases hw:a.wd ws lv=0
  ·simp[ho,hw]
  ·simp[ho,hw]
 ·simp[ho]
theorem AO9 {ws:List Int} {k:Int} {es:List Ex} {cs:List Int} {a b:Pn} {lv:Nat} (h1:k=4∨k=5∨k=6):(Pn.mk k 0 es cs [a,b]).wd ws (lv+1)=if(Pn.mk k 0 es cs [a,b]).headOk=true∧a.wd ws lv≠0∧b.wd ws lv≠0 then dF k es cs (a.wd ws lv) (b.wd ws lv)else 0:=by
 rw[Pn.A9];have hk:k≠1:=by omega
 simp only[Pn.fB,Pn.dW,Pn.gH,Pn.bR,Pn.dZ,hk,if_false];by_cases ho:(Pn.mk k 0 es cs [a,b]).headOk=true
 ·by_cases hw:a.wd ws lv=0
  ·simp[ho,hw]
  ·by_cases hw2:b.wd ws lv=0
   ·simp[ho,hw,hw2]
   ·simp[ho,hw,hw2]
 ·simp[ho]
theorem JQ {ws:List Int} {e:Ex} {a:Pn} {lv:Nat}:(filt e a).wd ws (lv+1)=if a.wd ws lv≠0∧e.ok (a.wd ws lv)=true then a.wd ws lv else 0:=by
 unfold filt;rw[TM (by omega)];have ho:(Pn.mk 2 0 [e] [] [a]).headOk=true:=by simp[Pn.headOk,jJ,eU]
 by_cases h:a.wd ws lv=0
 ·simp[h]
 ·simp[ho,h,dF]
theorem EW {ws:List Int} {es:List Ex} {a:Pn} {lv:Nat}:(proj es a).wd ws (lv+1)=if a.wd ws lv≠0∧bH es.length=true∧es.all (Ex.ok (a.wd ws lv))=true then(es.length:Int)else 0:=by
 unfold proj;rw[TM (by omega)]
 have ho:(Pn.mk 3 0 es [] [a]).headOk=bH es.length:=by
  cases h:bH es.length with
  | true=>simp[Pn.headOk,jJ,eU,h]
  | false =>
   have:(es.length:Int)≠1:=by intro e;rw[e]at h;simp[bH]at h
   simp[Pn.headOk,jJ,eU,h,this]
 by_cases h:a.wd ws lv=0
 ·simp[h]
 ·by_cases h2:bH es.length=true
  ·simp[ho,h,h2,dF]
  ·simp[ho,h,h2]
theorem JP {ws:List Int} {k:Int} {e:Ex} {a b:Pn} {lv:Nat} (hk:k=4∨k=5):(bB k e a b).wd ws (lv+1)=if a.wd ws lv≠0∧b.wd ws lv≠0∧a.wd ws lv+b.wd ws lv≤6∧e.ok (a.wd ws lv+b.wd ws lv)=true then a.wd ws lv+b.wd ws lv else 0:=by
 unfold bB;rw[AO9 (by omega)];have ho:(Pn.mk k 0 [e] [] [a,b]).headOk=true:=by rcases hk with rfl|rfl<;>simp[Pn.headOk,jJ,eU]
 by_cases h:a.wd ws lv=0
 ·simp[h]
 ·by_cases h2:b.wd ws lv=0
  ·simp[h2]
  ·simp[ho,h,h2,dF,hk]
theorem ZT {ws:List Int} {a b:Pn} {lv:Nat}:(bX a b).wd ws (lv+1)=if a.wd ws lv≠0∧a.wd ws lv=b.wd ws lv then a.wd ws lv else 0:=by
 unfold bX;rw[AO9 (by omega)];have ho:(Pn.mk 6 0 [] [] [a,b]).headOk=true:=by simp[Pn.headOk,jJ,eU]
 by_cases h:a.wd ws lv=0
 ·simp[h]
 ·by_cases h2:a.wd ws lv=b.wd ws lv
  ·simp[ho,dF,h2,show b.wd ws lv≠0 by rw[← h2];exact h]
  ·simp[ho,h,h2,dF]
inductive Shape (ws:List Int) (lv:Nat):Pn→Prop
 | scan (t:Int) (W:Int) (h0:0≤t) (h:ws[t.toNat]?=some W) (hW:W≠0):Shape ws lv (.scan t)
 | filt (m:Nat) (e:Ex) (a:Pn) (h:lv=m+1) (ha:a.wd ws m≠0) (he:e.ok (a.wd ws m)=true):Shape ws lv (filt e a)
 | proj (m:Nat) (es:List Ex) (a:Pn) (h:lv=m+1) (ha:a.wd ws m≠0) (hl:bH es.length=true) (he:∀ e∈es,e.ok (a.wd ws m)=true):Shape ws lv (proj es a)
 | pair (m:Nat) (k:Int) (e:Ex) (a b:Pn) (h:lv=m+1) (hk:k=4∨k=5) (ha:a.wd ws m≠0) (hb:b.wd ws m≠0) (hl:a.wd ws m+b.wd ws m≤6) (he:e.ok (a.wd ws m+b.wd ws m)=true):Shape ws lv (bB k e a b)
 | union (m:Nat) (a b:Pn) (h:lv=m+1) (ha:a.wd ws m≠0) (hb:b.wd ws m=a.wd ws m):Shape ws lv (bX a b)
 | dist (m:Nat) (a:Pn) (h:lv=m+1) (ha:a.wd ws m≠0):Shape ws lv (.mk 7 0 [] [] [a])
 | group (m:Nat) (cs:List Int) (a:Pn) (h:lv=m+1) (ha:a.wd ws m≠0) (hc:cs.length<6) (ho:tH (a.wd ws m) cs=true):Shape ws lv (.mk 8 0 [] cs [a])
theorem JF {α:Type} {l:List α} (h:l.length=1):∃ a,l=[a]:=by
 match l,h with
 | [a],_=>exact⟨a,rfl⟩
theorem AAS {α:Type} {l:List α} (h:l.length=2):∃ a b,l=[a,b]:=by
 match l,h with
 | [a,b],_=>exact⟨a,b,rfl⟩
theorem mX {ws:List Int} {lv:Nat} {p:Pn} (h:p.wd ws lv≠0):Shape ws lv p:=by
 have h0:=h;rw[Pn.A9]at h;by_cases hc:p.headOk=true∧(p.kids=[]∨lv≠0)
 case neg=>rw[if_neg hc]at h;exact absurd rfl h
 rw[if_pos hc]at h;have hh:=hc.1;obtain⟨k,t,es,cs,ks⟩:=p;unfold Pn.headOk at hh;simp only[zT,zE8,zM]at hh;simp only[Pn.fB,Pn.dW,Pn.gH,Pn.bR,Pn.dZ]at hh h;obtain⟨g1,g2,g3,g4⟩:=hh
 rcases KV k with e|⟨e,hk⟩|⟨e,hk⟩|⟨e,hk⟩
 ·omega
 ·subst hk;rw[e]at g1;have hks:ks=[]:=zW.1 (by omega);simp[eU]at g2;subst g2;subst hks;have hcs:cs=[]:=by rcases g4 with g|g;omega;exact g
  subst hcs;simp only[if_true]at h;obtain⟨ht,h⟩:=gP h
  cases hw:ws[t.toNat]? with
  | none=>rw[hw]at h;exact absurd rfl h
  | some W=>rw[hw]at h;exact .scan t W ht hw h
 ·obtain⟨a,rfl⟩:=JF (show ks.length=1 by omega);obtain⟨m,rfl⟩:=TN h0 (by simp);have ht:t=0:=by rcases g3 with g|g;omega;exact g
  subst ht
  rcases hk with rfl|rfl|rfl|rfl
  ·have hcs:cs=[]:=by rcases g4 with g|g;omega;exact g
   subst hcs;simp[eU]at g2;obtain⟨x,rfl⟩:=JF (show es.length=1 by omega);have hf:=JQ (ws:=ws) (e:=x) (a:=a) (lv:=m);unfold filt at hf;rw[hf]at h0;obtain⟨⟨ha,he⟩,-⟩:=gP h0;exact .filt m x a rfl ha he
  ·have hcs:cs=[]:=by rcases g4 with g|g;omega;exact g
   subst hcs;have hf:=EW (ws:=ws) (es:=es) (a:=a) (lv:=m);unfold proj at hf;rw[hf]at h0;obtain⟨⟨ha,he,hx⟩,-⟩:=gP h0;exact .proj m es a rfl ha he (zQ.1 hx)
  ·have hcs:cs=[]:=by rcases g4 with g|g;omega;exact g
   subst hcs;simp[eU]at g2;subst g2;rw[TM (by omega)]at h0;exact .dist m a rfl (gP h0).1.2
  ·simp[eU]at g2;subst g2;rw[TM (by omega)]at h0;obtain⟨⟨_,ha⟩,h0⟩:=gP h0;unfold dF at h0;simp only[show ¬ ((8:Int)=4∨(8:Int)=5)by omega,show ¬ (8:Int)=6 by omega,if_false,if_true]at h0;obtain⟨⟨h1,h2⟩,-⟩:=gP h0;exact .group m cs a rfl ha h1 h2
 ·obtain⟨a,b,rfl⟩:=AAS (show ks.length=2 by omega);obtain⟨m,rfl⟩:=TN h0 (by simp);have ht:t=0:=by rcases g3 with g|g;omega;exact g
  subst ht;have hcs:cs=[]:=by rcases g4 with g|g;omega;exact g
  subst hcs;by_cases h6:k=6
  ·subst h6;simp[eU]at g2;subst g2;have hf:=ZT (ws:=ws) (a:=a) (b:=b) (lv:=m);unfold bX at hf;rw[hf]at h0;obtain⟨⟨ha,hb⟩,-⟩:=gP h0;exact .union m a b rfl ha hb.symm
  ·have hk2:k=4∨k=5:=by omega
   have hx:es.length=1:=by
    rcases hk2 with rfl|rfl<;>simp[eU]at g2<;>omega
   obtain⟨x,rfl⟩:=JF hx;have hf:=JP (ws:=ws) (e:=x) (a:=a) (b:=b) (lv:=m) hk2;unfold bB at hf;rw[hf]at h0;obtain⟨⟨ha,hb,hc,he⟩,-⟩:=gP h0;exact .pair m k x a b rfl hk2 ha hb hc he
mutual
def Ex.wL (f:Int→Bool):Ex→Bool
 | .mk k c _ ks=>if k=1 then f c else Ex.AJS f ks
def Ex.AJS (f:Int→Bool):List Ex→Bool
 | []=>true
 | e::es=>Ex.wL f e && Ex.AJS f es
end
mutual
def Ex.AZ (f:Int→Int):Ex→Ex
 | .mk k c v ks=>if k=1 then ABM (f c)else .mk k c v (Ex.AHU f ks)
def Ex.AHU (f:Int→Int):List Ex→List Ex
 | []=>[]
 | e::es=>Ex.AZ f e::Ex.AHU f es
end
theorem Ex.WS (f:Int→Bool):∀ l,Ex.AJS f l=l.all (Ex.wL f)
 | []=>by simp[Ex.AJS]
 | e::es=>by simp[Ex.AJS,Ex.WS f es]
theorem Ex.VA (f:Int→Int):∀ l,Ex.AHU f l=l.map (Ex.AZ f)
 | []=>by simp[Ex.AHU]
 | e::es=>by simp[Ex.AHU,Ex.VA f es]
theorem Ex.mU (f:Int→Bool) (e:Ex):e.wL f=if e.kind=1 then f e.col else e.kids.all (Ex.wL f):=by
 cases e;simp only[Ex.wL,Ex.WS,Ex.kind,Ex.col,Ex.kids];split<;>simp[*]
theorem Ex.JE (f:Int→Int) {e:Ex} (h:e.kind=1):e.AZ f=ABM (f e.col):=by
 cases e;simp[Ex.kind]at h;simp[Ex.AZ,h,Ex.col]
theorem Ex.JD (f:Int→Int) {e:Ex} (h:e.kind≠1):e.AZ f=.mk e.kind e.col e.val (e.kids.map (Ex.AZ f)):=by
 cases e;simp[Ex.kind]at h;simp[Ex.AZ,h,Ex.VA,Ex.kind,Ex.col,Ex.val,Ex.kids]
theorem Ex.AA1 {by_:List Ex} {f:Int→Int} {g:Int→Bool} (h:∀ c,g c=true→by_[c.toNat]?=some (ABM (f c))):∀ e:Ex,e.wL g=true→e.sub by_=e.AZ f:=by
 intro e
 induction e using Ex.ind with
 | h k c v ks ih =>
  intro ha;rw[Ex.mU]at ha;by_cases h1:k=1
  ·subst h1;simp only[Ex.kind,Ex.col,if_true]at ha;rw[Ex.AC by_ (e:=.mk 1 c v ks) (by rfl) (h c ha),Ex.JE f (e:=.mk 1 c v ks) (by rfl)];rfl
  ·simp only[Ex.kind,Ex.kids,h1,if_false,zQ]at ha;rw[Ex.AB by_ (by simpa [Ex.kind]using h1),Ex.JD f (by simpa [Ex.kind]using h1)];simp only[Ex.kids];rw[zD4 fun e he=>ih e he (ha e he)]
theorem Ex.qM {f g:Int→Bool} (h:∀ c,f c=true→g c=true):∀ e:Ex,e.wL f=true→e.wL g=true:=by
 intro e
 induction e using Ex.ind with
 | h k c v ks ih =>
  intro ha;rw[Ex.mU]at ha ⊢;by_cases h1:k=1
  ·subst h1;simp only[Ex.kind,Ex.col,if_true]at ha ⊢;exact h c ha
  ·simp only[Ex.kind,Ex.kids,h1,if_false,zQ]at ha ⊢;exact fun e he=>ih e he (ha e he)
theorem Ex.PX {w:Int}:∀ e:Ex,e.wf w=true→e.wL (fun c=>decide (0≤c∧c<w))=true:=by
 intro e
 induction e using Ex.ind with
 | h k c v ks ih =>
  intro hw;rw[Ex.mU];by_cases h1:k=1
  ·have:=Ex.mV hw (by simpa [Ex.kind]using h1);simp only[Ex.col]at this;simp[Ex.kind,h1,Ex.col,this.1,this.2.1]
  ·simp only[Ex.kind,Ex.kids,h1,if_false,zQ];exact fun e he=>ih e he (Ex.gX hw (by simpa [Ex.kids]using he))
def aW (a:Int) (n:Nat):List Ex:=(List.range n).map fun(i:Nat)=>ABM (a+(i:Int))
@[simp] theorem uW (a:Int) (n:Nat):(aW a n).length=n:=by simp[aW]
theorem uV {a:Int} {n i:Nat} (h:i<n):(aW a n)[i]?=some (ABM (a+i)):=by
 simp[aW,h]
theorem RV (a:Int) (n:Nat):aW a (n+1)=aW a n++[ABM (a+n)]:=by
 simp[aW,zC8]
def Val.tr (v:Val):Int:=if v.null=true then 1 else if v.n=0 then 0 else 2
def trV (t:Int):Val:=if t=1 then⟨true,0⟩else⟨false,if t=2 then 1 else 0⟩
def AUB (n:Int):Val:=if -9999≤n∧n≤9999 then⟨false,n⟩else⟨true,0⟩
def YT (b:Bool):Val:=⟨false,if b=true then 1 else 0⟩
def Val.cmb (k:Int) (a b:Val):Val :=
 if k=8 then trV (if b.tr<a.tr then b.tr else a.tr)else if k=9 then trV (if b.tr > a.tr then b.tr else a.tr)else
 if a.null=true∨b.null=true then⟨true,0⟩else if k=3 then AUB (a.n+b.n)else if k=4 then AUB (a.n-b.n)else if k=5 then AUB (a.n*b.n)else
 if k=6 then YT (a.n == b.n)else YT (decide (a.n<b.n))
def evN (row:List Val) (k c:Int) (v:Val) (vs:List Val):Val :=
 if k=1 then(row[c.toNat]?).getD Val.zero else if k=2 then v else
 if k=10 then trV (2-((vs[0]?).getD Val.zero).tr)else if k=11 then YT ((vs[0]?).getD Val.zero).null else
 Val.cmb k ((vs[0]?).getD Val.zero) ((vs[1]?).getD Val.zero)
mutual
def Ex.ev (row:List Val):Ex→Val
 | .mk k c v ks=>evN row k c v (Ex.evL row ks)
def Ex.evL (row:List Val):List Ex→List Val
 | []=>[]
 | e::es=>e.ev row::Ex.evL row es
end
def wF:List Val→List (List IV)
 | []=>[]
 | v::vs=>[.bool v.null, .int v.n]::wF vs
@[simp] theorem TS:∀ l:List Val,(wF l).length=l.length
  | []=>rfl
  | _::l=>by simp[wF,TS l]
theorem tZ:∀ {l:List Val} {i:Nat} {v:Val},l[i]?=some v→fT (wF l) i=some [.bool v.null, .int v.n]
 | [],_,_,e=>by simp at e
 | a::l,0,v,e=>by simp at e;subst e;simp[wF,fT]
 | a::l,i+1,v,e=>by simp only[wF,fT];exact tZ (by simpa using e)
def stV (v:Val):Int:=if v.null=true then 4 else if v.n=0 then 1 else 2
def orS (a b:Int):Int:=((a.toNat ||| b.toNat:Nat):Int)
def jU (a:Int) (s:Int):Bool:=decide (a / s % 2=1)
def exS (a:Int):List Val:=(if jU a 1=true then [⟨false,0⟩]else [])++((if jU a 2=true then [⟨false,1⟩]else [])++(if jU a 4=true then [⟨true,0⟩]else []))
def mW (k:Int) (a b:Int):Int :=
 if k=8∨k=9 then(exS a).foldl (fun s v=>(exS b).foldl (fun s w=>orS s (stV (Val.cmb k v w))) s) 0
 else orS (if jU (orS a b) 4=true then 4 else 0) (if(jU a 1 || jU a 2)=true∧(jU b 1 || jU b 2)=true then(if k<6 then 7 else 3)else 0)
def AZG (a:Int):Int:=(if jU a 4=true then 4 else 0)+((if jU a 1=true then 2 else 0)+(if jU a 2=true then 1 else 0))
def AZF (a:Int):Int:=(if jU a 4=true then 2 else 0)+(if(jU a 1 || jU a 2)=true then 1 else 0)
mutual
def KR (st:List Int):Ex→Int
 | .mk k c v ks=>if k=1 then(st[c.toNat]?).getD 0 else if k=2 then stV v else if k=10 then AZG ((UY st ks)[0]?.getD 0)else if k=11 then AZF ((UY st ks)[0]?.getD 0)else mW k ((UY st ks)[0]?.getD 0) ((UY st ks)[1]?.getD 0)
def UY (st:List Int):List Ex→List Int
 | []=>[]
 | e::es=>KR st e::UY st es
end
theorem UW (st:List Int):∀ l,UY st l=l.map (KR st)
 | []=>by simp[UY]
 | e::es=>by simp[UY,UW st es]
def l8 (width left:Int):List Int:=(List.range width.toNat).map fun(i:Nat)=>if left≤(i:Int)then 4 else 7
def AGT (e:Ex) (width left:Int):Bool:=!jU (KR (l8 width left) e) 2
def Pn.ex0 (p:Pn):Ex:=(p.exprs[0]?).getD Ex.zero
def Pn.kU (p:Pn):Pn:=(p.kids[0]?).getD Pn.zero
def Pn.uK (p:Pn):Pn:=(p.kids[1]?).getD Pn.zero
def Ex.kU (e:Ex):Ex:=(e.kids[0]?).getD Ex.zero
def Ex.uK (e:Ex):Ex:=(e.kids[1]?).getD Ex.zero
def Ex.cin (e:Ex) (lo hi:Int):Bool:=e.wL fun c=>decide (lo≤c∧c<hi)
def rwF (ws:List Int) (rule:Int) (e:Ex) (k:Pn):Option Pn :=
 if rule=1∧k.kind=2 then some (filt (ABW k.ex0 e) k.kU)
 else if rule=2∧e.kind=8 then some (filt e.uK (filt e.kU k))
 else if rule=3∧(k.kind=4∨k.kind=5)∧e.cin 0 (k.kU.wd ws 8)=true then some (bB k.kind k.ex0 (filt e k.kU) k.uK)
 else if rule=4∧k.kind=4∧e.cin (k.kU.wd ws 8) (k.wd ws 8)=true then some (bB 4 k.ex0 k.kU (filt (e.AZ (·-k.kU.wd ws 8)) k.uK))
 else if rule=5∧k.kind=4 then some (bB 4 (ABW k.ex0 e) k.kU k.uK)
 else if rule=7∧k.kind=5∧AGT e (k.wd ws 8) (k.kU.wd ws 8)=true then some (filt e (bB 4 k.ex0 k.kU k.uK))
 else if rule=8∧k.kind=6 then some (bX (filt e k.kU) (filt e k.uK))
 else if rule=10∧k.kind=3 then some (proj k.exprs (filt (e.sub k.exprs) k.kU))
 else none
def rC (a b c:Int):Int:=if c<a then c+b else c-a
def rwP (ws:List Int) (rule:Int) (p:Pn):Option Pn :=
 if p.kind=2 then rwF ws rule p.ex0 p.kU
 else if rule=6∧p.kind=4 then some (proj (aW (p.uK.wd ws 8) (p.kU.wd ws 8).toNat++aW 0 (p.uK.wd ws 8).toNat) (bB 4 (p.ex0.AZ (rC (p.kU.wd ws 8) (p.uK.wd ws 8))) p.uK p.kU))
 else if rule=9∧p.kind=7∧(p.kU.kind=7∨p.kU.kind=8)then some p.kU
 else if rule=11∧p.kind=3∧p.kU.kind=3 then some (proj (p.exprs.map (Ex.sub p.kU.exprs)) p.kU.kU)
 else none
def rwL (ws:List Int) (rule:Int) (lv:Nat) (p:Pn):Option Pn:=(rwP ws rule p).bind fun q=>if q.wd ws lv≠0 then some q else none
def Wd (ws:List Int) (p:Pn) (W:Int):Prop:=∃ lv,p.wd ws lv=W∧W≠0
theorem qP {ws:List Int} {p:Pn} {A B:Int} (ha:Wd ws p A) (hb:Wd ws p B):A=B:=by
 obtain⟨i,rfl,h1⟩:=ha;obtain⟨j,rfl,h2⟩:=hb
 rcases Nat.le_total i j with h|h
 ·exact(Pn.jD p i j h1 h).symm
 ·exact Pn.jD p j i h2 h
theorem AO5 {ws:List Int} {p:Pn} {A:Int} {lv:Nat} (ha:Wd ws p A) (h:p.wd ws lv≠0):p.wd ws lv=A:=qP ⟨lv,rfl,h⟩ ha
theorem nN {ws:List Int} {p:Pn} {lv:Nat} (h:p.wd ws lv≠0):Wd ws p (p.wd ws lv):=⟨lv,rfl,h⟩
theorem iR {ws:List Int} {e:Ex} {k:Pn} {W:Int} (h:Wd ws (filt e k) W):Wd ws k W∧e.ok W=true:=by
 obtain⟨lv,rfl,h⟩:=h;obtain⟨m,rfl⟩:=TN h (by simp[filt]);rw[JQ]at h ⊢;obtain⟨hc,-⟩:=gP h;rw[if_pos hc];exact⟨⟨m,rfl,hc.1⟩,hc.2⟩
theorem BU {ws:List Int} {es:List Ex} {k:Pn} {W:Int} (h:Wd ws (proj es k) W):∃ V,Wd ws k V∧bH es.length=true∧es.all (Ex.ok V)=true∧W=es.length:=by
 obtain⟨lv,rfl,h⟩:=h;obtain⟨m,rfl⟩:=TN h (by simp[proj]);rw[EW]at h ⊢;obtain⟨hc,-⟩:=gP h;rw[if_pos hc];exact⟨_,⟨m,rfl,hc.1⟩,hc.2.1,hc.2.2,rfl⟩
theorem sU {ws:List Int} {kd:Int} {e:Ex} {a b:Pn} {W:Int} (hk:kd=4∨kd=5) (h:Wd ws (bB kd e a b) W):∃ A B,Wd ws a A∧Wd ws b B∧A+B≤6∧e.ok (A+B)=true∧W=A+B:=by
 obtain⟨lv,rfl,h⟩:=h;obtain⟨m,rfl⟩:=TN h (by simp[bB]);rw[JP hk]at h ⊢;obtain⟨hc,-⟩:=gP h;rw[if_pos hc];exact⟨_,_,⟨m,rfl,hc.1⟩,⟨m,rfl,hc.2.1⟩,hc.2.2.1,hc.2.2.2,rfl⟩
theorem AC0 {ws:List Int} {a b:Pn} {W:Int} (h:Wd ws (bX a b) W):Wd ws a W∧Wd ws b W:=by
 obtain⟨lv,rfl,h⟩:=h;obtain⟨m,rfl⟩:=TN h (by simp[bX]);rw[ZT]at h ⊢;obtain⟨hc,-⟩:=gP h;rw[if_pos hc];exact⟨⟨m,rfl,hc.1⟩,⟨m,hc.2.symm,hc.1⟩⟩
theorem AO4 {ws:List Int} {a:Pn} {W:Int} (h:Wd ws (.mk 7 0 [] [] [a]) W):Wd ws a W:=by
 obtain⟨lv,rfl,h⟩:=h;obtain⟨m,rfl⟩:=TN h (by simp);rw[TM (by omega)]at h ⊢;obtain⟨hc,h2⟩:=gP h;rw[if_pos hc];refine⟨m,?_,h2⟩;simp[dF]
theorem EM {ws:List Int} {p:Pn} {W:Int} (h:Wd ws p W):∃ lv,Shape ws lv p:=by
 obtain⟨lv,rfl,h⟩:=h;exact⟨lv,mX h⟩
theorem qO {ws:List Int} {p:Pn} {W:Int} (h:Wd ws p W) (hk:p.kind=2):∃ e a,p=filt e a:=by
 obtain⟨lv,hs⟩:=EM h
 cases hs with
 | filt m e a=>exact⟨e,a,rfl⟩
 | scan|proj|union|dist|group=>simp[Pn.scan,proj,bX]at hk
 | pair m k e a b h1 h2=>simp[bB]at hk;omega
theorem pI {ws:List Int} {p:Pn} {W:Int} (h:Wd ws p W) (hk:p.kind=3):∃ es a,p=proj es a:=by
 obtain⟨lv,hs⟩:=EM h
 cases hs with
 | proj m e a=>exact⟨e,a,rfl⟩
 | scan|filt|union|dist|group=>simp[Pn.scan,filt,bX]at hk
 | pair m k e a b h1 h2=>simp[bB]at hk;omega
theorem jN {ws:List Int} {p:Pn} {W:Int} (h:Wd ws p W) (hk:p.kind=4∨p.kind=5):∃ e a b,p=bB p.kind e a b:=by
 obtain⟨lv,hs⟩:=EM h
 cases hs with
 | proj|scan|filt|union|dist|group=>simp[Pn.scan,filt,bX,proj]at hk
 | pair m k e a b h1 h2=>exact⟨e,a,b,rfl⟩
theorem AJX {ws:List Int} {p:Pn} {W:Int} (h:Wd ws p W) (hk:p.kind=6):∃ a b,p=bX a b:=by
 obtain⟨lv,hs⟩:=EM h
 cases hs with
 | union m a b=>exact⟨a,b,rfl⟩
 | scan|filt|proj|dist|group=>simp[Pn.scan,filt,proj]at hk
 | pair m k e a b h1 h2=>simp[bB]at hk;omega
theorem AJY {ws:List Int} {p:Pn} {W:Int} (h:Wd ws p W) (hk:p.kind=7):∃ a,p=.mk 7 0 [] [] [a]:=by
 obtain⟨lv,hs⟩:=EM h
 cases hs with
 | dist m a=>exact⟨a,rfl⟩
 | scan|filt|proj|union|group=>simp[Pn.scan,filt,proj,bX]at hk
 | pair m k e a b h1 h2=>simp[bB]at hk;omega
theorem AQ3 {ws:List Int} (hw:∀ w∈ws,0≤w∧w≤6) {p:Pn} {W:Int} (h:Wd ws p W):0<W∧W≤6:=by
 obtain⟨lv,rfl,h0⟩:=h;have:=Pn.qV hw p lv;omega
theorem AGF {ws:List Int} {rule:Int} {e:Ex} {k q:Pn} {W V:Int} (hp:Wd ws (filt e k) W) (h:rwF ws rule e k=some q) (hq:Wd ws q V):V=W:=by
 obtain⟨hk,he⟩:=iR hp;unfold rwF at h;split at h
 ·rename_i hc;injection h with h;subst h;obtain⟨f,a,rfl⟩:=qO hk hc.2;exact qP (iR hq).1 (iR hk).1
 split at h
 ·injection h with h;subst h;exact qP (iR (iR hq).1).1 hk
 split at h
 ·rename_i hc;injection h with h;subst h;obtain⟨f,a,b,hx⟩:=jN hk hc.2.1;have h2:=hc.2.1;generalize k.kind=kd at *
  subst hx;obtain⟨A,B,ha,hb,-,-,rfl⟩:=sU h2 hk;obtain⟨A',B',ha',hb',-,-,rfl⟩:=sU h2 hq;rw[qP (iR ha').1 ha,qP hb' hb]
 split at h
 ·rename_i hc;injection h with h;subst h;obtain⟨f,a,b,hx⟩:=jN hk (.inl hc.2.1);rw[hc.2.1]at hx;subst hx;obtain⟨A,B,ha,hb,-,-,rfl⟩:=sU (by omega) hk;obtain⟨A',B',ha',hb',-,-,rfl⟩:=sU (by omega) hq;rw[qP ha' ha,qP (iR hb').1 hb]
 split at h
 ·rename_i hc;injection h with h;subst h;obtain⟨f,a,b,hx⟩:=jN hk (.inl hc.2);rw[hc.2]at hx;subst hx;obtain⟨A,B,ha,hb,-,-,rfl⟩:=sU (by omega) hk;obtain⟨A',B',ha',hb',-,-,rfl⟩:=sU (by omega) hq;rw[qP ha' ha,qP hb' hb]
 split at h
 ·rename_i hc;injection h with h;subst h;obtain⟨f,a,b,hx⟩:=jN hk (.inr hc.2.1);rw[hc.2.1]at hx;subst hx;obtain⟨A,B,ha,hb,-,-,rfl⟩:=sU (by omega) hk;obtain⟨A',B',ha',hb',-,-,rfl⟩:=sU (by omega) (iR hq).1;rw[qP ha' ha,qP hb' hb]
 split at h
 ·rename_i hc;injection h with h;subst h;obtain⟨a,b,rfl⟩:=AJX hk hc.2;exact qP (iR (AC0 hq).1).1 (AC0 hk).1
 split at h
 ·rename_i hc;injection h with h;subst h;obtain⟨es,a,rfl⟩:=pI hk hc.2;obtain⟨A,-,-,-,rfl⟩:=BU hk;obtain⟨B,-,-,-,rfl⟩:=BU hq;rfl
 ·cases h
theorem UG {ws:List Int} (hw:∀ w∈ws,0≤w∧w≤6) {rule:Int} {p q:Pn} {W V:Int} (hp:Wd ws p W) (h:rwP ws rule p=some q) (h8:p.wd ws 8≠0) (hq:Wd ws q V):V=W:=by
 unfold rwP at h;split at h
 ·rename_i hc;obtain⟨e,a,rfl⟩:=qO hp hc;exact AGF hp h hq
 split at h
 ·rename_i hc;injection h with h;subst h;obtain⟨f,a,b,hx⟩:=jN hp (.inl hc.2);rw[hc.2]at hx;subst hx;obtain⟨A,B,ha,hb,hab,-,rfl⟩:=sU (by omega) hp;obtain⟨C,hC,-,-,rfl⟩:=BU hq;have h7:=h8;rw[JP (by omega)]at h7;obtain⟨⟨g1,g2,-⟩,-⟩:=gP h7;have e1:a.wd ws 8=A:=by rw[Pn.jD a 7 8 g1 (by omega)];exact AO5 ha g1
  have e2:b.wd ws 8=B:=by rw[Pn.jD b 7 8 g2 (by omega)];exact AO5 hb g2
  have:=AQ3 hw ha;have:=AQ3 hw hb;simp[bB,Pn.kU,Pn.uK,e1,e2];omega
 split at h
 ·rename_i hc;injection h with h;subst h;obtain⟨a,rfl⟩:=AJY hp hc.2.1;exact qP hq (AO4 hp)
 split at h
 ·rename_i hc;injection h with h;subst h;obtain⟨es,a,rfl⟩:=pI hp hc.2.1;obtain⟨A,-,-,-,rfl⟩:=BU hp;obtain⟨B,-,-,-,rfl⟩:=BU hq;simp[proj]
 ·cases h
def Pn.at:List Int→Pn→Option Pn
 | [],p=>some p
 | i::r,p=>if 0≤i then(p.kids[i.toNat]?).bind (Pn.at r)else none
def Pn.put:List Int→Pn→Pn→Pn
 | [],_,q=>q
 | i::r,p,q=>.mk p.kind p.table p.exprs p.cols (p.kids.set i.toNat (Pn.put r ((p.kids[i.toNat]?).getD Pn.zero) q))
theorem Pn.sM {i:Int} {r:List Int} {p a:Pn} (h:Pn.at (i::r) p=some a):∃ n:Nat,i=n∧∃ b,p.kids[n]?=some b∧Pn.at r b=some a:=by
 unfold Pn.at at h;split at h
 ·rename_i h0;obtain⟨n,rfl⟩:=yN h0
  cases hb:p.kids[n]? with
  | none=>simp[hb]at h
  | some b=>exact⟨n,rfl,b,hb,by simpa [hb]using h⟩
 ·cases h
theorem Pn.J7 {n:Nat} {r:List Int} {p b:Pn} (q:Pn) (h:p.kids[n]?=some b):Pn.put ((n:Int)::r) p q=.mk p.kind p.table p.exprs p.cols (p.kids.set n (Pn.put r b q)):=by
 simp[Pn.put,h]
theorem AKO {ws:List Int} {lv:Nat} {k t:Int} {es:List Ex} {cs:List Int} {ks ls:List Pn} (h:ks.map (Pn.wd ws (lv-1))=ls.map (Pn.wd ws (lv-1))):(Pn.mk k t es cs ks).wd ws lv=(Pn.mk k t es cs ls).wd ws lv:=by
 have hl:ks.length=ls.length:=by have:=congrArg List.length h;simpa using this
 have hn:ks=[]↔ls=[]:=by rw[← List.length_eq_zero_iff,← List.length_eq_zero_iff,hl]
 have ho:(Pn.mk k t es cs ks).headOk=(Pn.mk k t es cs ls).headOk:=by simp[Pn.headOk,hl];congr
 simp only[Pn.wd,Pn.XK,h,ho,hn]
theorem NR {ws:List Int}:∀ (path:List Int) (p:Pn) (lv:Nat) (a:Pn),p.wd ws lv≠0→Pn.at path p=some a→path.length≤lv∧a.wd ws (lv-path.length)≠0
 | [],p,lv,a,h,e=>by simp[Pn.at]at e;subst e;exact⟨by simp,by simpa using h⟩
 | i::r,p,lv,a,h,e=>by
  obtain⟨n,rfl,b,hb,hr⟩:=Pn.sM e;obtain⟨m,rfl⟩:=TN h (fun e=>by rw[e]at hb;simp at hb);rw[Pn.A9]at h;obtain⟨hc,h⟩:=gP h
  have hbw:b.wd ws m≠0:=by
   by_cases h1:p.kind=1
   ·have:=Pn.BF hc.1 h1;rw[this]at hb;simp at hb
   ·simp only[h1,if_false]at h;obtain⟨hall,-⟩:=gP h;simpa using zQ.1 hall b (zU hb)
  have:=NR r b m a hbw hr;simp only[zP];exact⟨by omega,by rw[show m+1-(r.length+1)=m-r.length by omega];exact this.2⟩
theorem AP1 {q:Pn}:∀ (path:List Int) (p a:Pn),Pn.at path p=some a→Pn.at path (Pn.put path p q)=some q
 | [],p,a,e=>by simp[Pn.at,Pn.put]
 | i::r,p,a,e=>by
  obtain⟨n,rfl,b,hb,hr⟩:=Pn.sM e;have hl:=(zZ.1 hb).1;rw[Pn.J7 q hb];have:=AP1 (q:=q) r b a hr;simp[Pn.at,hl,this]
theorem AGW {ws:List Int} {q:Pn}:∀ (path:List Int) (p:Pn) (lv:Nat) (a:Pn),path.length≤lv→Pn.at path p=some a→q.wd ws (lv-path.length)=a.wd ws (lv-path.length)→(Pn.put path p q).wd ws lv=p.wd ws lv
 | [],p,lv,a,_,e,h=>by simp[Pn.at]at e;subst e;simpa [Pn.put]using h
 | i::r,p,lv,a,hl,e,h=>by
  obtain⟨n,rfl,b,hb,hr⟩:=Pn.sM e;rw[Pn.J7 q hb];simp only[zP]at hl h;have:=AGW (q:=q) r b (lv-1) a (by omega) hr (by rw[show lv-1-r.length=lv-(r.length+1)by omega];exact h);obtain⟨k,t,es,cs,ks⟩:=p;apply AKO;simp only[Pn.fB]at hb ⊢;rw[List.map_set,this];apply List.ext_getElem?;intro j;rw[List.getElem?_set];split
  ·rename_i hj;subst hj;have hlt:=(zZ.1 hb).1;rw[zX hlt]at hb;injection hb with hb;simp[hb,hlt]
  ·rfl
def apI (ws:List Int) (rule:Int) (path:List Int) (p:Pn):Option Pn :=
 if path.length≤8 then(Pn.at path p).bind fun a=>(rwL ws rule (8-path.length) a).map (Pn.put path p)else none
def apS (ws:List Int) (rule:Int) (path:List Int) (p:Pn):Option Pn :=
 (Pn.at path p).bind fun a=>(rwP ws rule a).bind fun q=>if(Pn.put path p q).wd ws 8≠0 then some (Pn.put path p q)else none
theorem ANW {ws:List Int} (hw:∀ w∈ws,0≤w∧w≤6) {rule:Int} {path:List Int} {p:Pn} (hp:p.wd ws 8≠0):apI ws rule path p=apS ws rule path p:=by
 unfold apI apS
 cases ha:Pn.at path p with
 | none=>simp
 | some a =>
  obtain⟨hl,hv⟩:=NR path p 8 a hp ha;simp only[hl,if_true,yH];unfold rwL
  cases hr:rwP ws rule a with
  | none=>simp
  | some q =>
   simp only[yH];have h8:a.wd ws 8≠0:=by rw[Pn.jD a _ 8 hv (by omega)];exact hv
   by_cases hq:q.wd ws (8-path.length)=0
   ·have:(Pn.put path p q).wd ws 8=0:=by
     by_cases h0:(Pn.put path p q).wd ws 8=0
     ·exact h0
     ·exact absurd hq (NR path _ 8 q h0 (AP1 path p a ha)).2
    simp[hq,this]
   ·have e:=UG hw (nN hv) hr h8 (nN hq);have:(Pn.put path p q).wd ws 8=p.wd ws 8:=AGW path p 8 a hl ha e;simp[hq,this,hp]
theorem AYR {ws:List Int} (hw:∀ w∈ws,0≤w∧w≤6) {rule:Int} {path:List Int} {p q:Pn} (hp:p.wd ws 8≠0) (h:apS ws rule path p=some q):q.wd ws 8=p.wd ws 8:=by
 rw[← ANW hw hp]at h;unfold apI at h;split at h
 ·rename_i hl
  cases ha:Pn.at path p with
  | none=>simp[ha]at h
  | some a =>
   obtain⟨-,hv⟩:=NR path p 8 a hp ha;simp only[ha,yH,rwL]at h
   cases hr:rwP ws rule a with
   | none=>simp[hr]at h
   | some x =>
    have h8:a.wd ws 8≠0:=by rw[Pn.jD a _ 8 hv (by omega)];exact hv
    simp only[hr,yH]at h;by_cases hq:x.wd ws (8-path.length)=0
    ·simp[hq]at h
    ·simp only[hq,ne_eq,not_false_eq_true,if_true,xG,Option.some.injEq]at h;subst h;exact AGW path p 8 a hl ha (UG hw (nN hv) hr h8 (nN hq))
 ·cases h
def rules:List Int:=[1,2,3,4,5,6,7,8,9,10,11]
abbrev Stp:=Int×List Int
mutual
def stI (ws:List Int):List Int→Pn→List Stp
 | path, .mk k t es cs ks=>((rules.filter fun r=>(rwL ws r (8-path.length) (.mk k t es cs ks)).isSome).map fun r=>(r,path))++N8 ws path 0 ks
def N8 (ws:List Int):List Int→Nat→List Pn→List Stp
 | _,_,[]=>[]
 | path,i,p::ps=>stI ws (path++[(i:Int)]) p++N8 ws path (i+1) ps
end
mutual
def oZ:List Int→Pn→List (List Int)
 | path, .mk _ _ _ _ ks=>path::eG path 0 ks
def eG:List Int→Nat→List Pn→List (List Int)
 | _,_,[]=>[]
 | path,i,p::ps=>oZ (path++[(i:Int)]) p++eG path (i+1) ps
end
def atS (ws:List Int) (p:Pn) (path:List Int):List Stp:=(rules.filter fun r=>(apS ws r path p).isSome).map fun r=>(r,path)
def stS (ws:List Int) (p:Pn):List Stp:=(oZ [] p).flatMap (atS ws p)
theorem AOW (ws:List Int) (path:List Int) (p:Pn):stI ws path p=((rules.filter fun r=>(rwL ws r (8-path.length) p).isSome).map fun r=>(r,path))++N8 ws path 0 p.kids:=by
 obtain⟨k,t,es,cs,ks⟩:=p;simp[stI]
theorem KQ (path:List Int) (p:Pn):oZ path p=path::eG path 0 p.kids:=by
 obtain⟨k,t,es,cs,ks⟩:=p;simp[oZ]
theorem uX:∀ (path:List Int) (p a:Pn) (r:List Int),Pn.at path p=some a→Pn.at (path++r) p=Pn.at r a
 | [],p,a,r,e=>by simp[Pn.at]at e;subst e;rfl
 | i::s,p,a,r,e=>by
  obtain⟨n,rfl,b,hb,hr⟩:=Pn.sM e;have:=uX s b a r hr;simp[Pn.at,hb,this]
theorem AQP {ws:List Int} (hw:∀ w∈ws,0≤w∧w≤6) {p:Pn} (hp:p.wd ws 8≠0):∀ (a:Pn) (path:List Int),Pn.at path p=some a→stI ws path a=(oZ path a).flatMap (atS ws p):=by
 intro a
 induction a using Pn.ind with
 | h k t es cs ks ih =>
  intro path ha;have hl:=(NR path p 8 _ hp ha).1;rw[AOW,KQ,List.flatMap_cons];congr 1
  ·unfold atS;congr 1;apply List.filter_congr;intro r _;rw[← ANW hw hp];simp[apI,hl,ha]
  ·simp only[Pn.fB]
   have:∀ (l:List Pn) (i:Nat),(∀ j b,l[j]?=some b→b∈ks∧ks[i+j]?=some b)→N8 ws path i l=(eG path i l).flatMap (atS ws p):=by
    intro l
    induction l with
    | nil=>intro i _;simp[N8,eG]
    | cons b l ihl =>
     intro i h;simp only[N8,eG,List.flatMap_append];have h0:=h 0 b (by simp);rw[ih b h0.1 (path++[(i:Int)]) (by rw[uX path p _ _ ha];simp[Pn.at];simpa using h0.2),ihl (i+1) fun j c hj=>by have:=h (j+1) c (by simpa using hj);rw[show i+1+j=i+(j+1)by omega];exact this]
   exact this ks 0 fun j b hj=>⟨List.mem_of_getElem? hj,by simpa using hj⟩
theorem F7 {ws:List Int} (hw:∀ w∈ws,0≤w∧w≤6) {p:Pn} (hp:p.wd ws 8≠0):stI ws [] p=stS ws p:=AQP hw hp p [] rfl
theorem OJ:∀ (a:Pn) (path q:List Int),q∈oZ path a↔∃ r,q=path++r∧(Pn.at r a).isSome=true:=by
 intro a
 induction a using Pn.ind with
 | h k t es cs ks ih =>
  intro path q;rw[KQ];simp only[Pn.fB,zS]
  have:∀ (l:List Pn) (i:Nat),(∀ b∈l,b∈ks)→(q∈eG path i l↔∃ j b r,l[j]?=some b∧q=path++((i+j:Nat):Int)::r∧(Pn.at r b).isSome=true):=by
   intro l
   induction l with
   | nil=>intro i _;simp[eG]
   | cons b l ihl =>
    intro i h;simp only[eG,zV];rw[ih b (h b (by simp)),ihl (i+1) fun c hc=>h c (by simp[hc])];constructor
    ·rintro(⟨r,rfl,hr⟩|⟨j,c,r,hj,rfl,hr⟩)
     ·exact⟨0,b,r,by simp,by simp,hr⟩
     ·exact⟨j+1,c,r,by simpa using hj,by rw[show i+1+j=i+(j+1)by omega],hr⟩
    ·rintro⟨j,c,r,hj,rfl,hr⟩
     cases j with
     | zero=>simp at hj;subst hj;exact .inl ⟨r,by simp,hr⟩
     | succ j=>exact .inr ⟨j,c,r,by simpa using hj,by rw[show i+1+j=i+(j+1)by omega],hr⟩
  rw[this ks 0 fun b hb=>hb];constructor
  ·rintro(rfl|⟨j,b,r,hj,rfl,hr⟩)
   ·exact⟨[],by simp,by simp[Pn.at]⟩
   ·exact⟨((0+j:Nat):Int)::r,rfl,by simp[Pn.at,hj,hr]⟩
  ·rintro⟨r,rfl,hr⟩
   cases r with
   | nil=>left;simp
   | cons i r =>
    right;obtain⟨x,hx⟩:=xD.1 hr;obtain⟨n,rfl,b,hb,hb2⟩:=Pn.sM hx;exact⟨n,b,r,by simpa using hb,by simp,by rw[hb2];rfl⟩
theorem ALF {ws:List Int} {rule:Int} {e:Ex} {k q:Pn} (h:rwF ws rule e k=some q):rule∈rules:=by
 unfold rwF at h;unfold rules;split at h
 ·rename_i hc;simp[hc.1]
 split at h
 ·rename_i hc;simp[hc.1]
 split at h
 ·rename_i hc;simp[hc.1]
 split at h
 ·rename_i hc;simp[hc.1]
 split at h
 ·rename_i hc;simp[hc.1]
 split at h
 ·rename_i hc;simp[hc.1]
 split at h
 ·rename_i hc;simp[hc.1]
 split at h
 ·rename_i hc;simp[hc.1]
 ·cases h
theorem AA8 {ws:List Int} {rule:Int} {p q:Pn} (h:rwP ws rule p=some q):rule∈rules:=by
 unfold rwP at h;split at h
 ·exact ALF h
 unfold rules;split at h
 ·rename_i hc;simp[hc.1]
 split at h
 ·rename_i hc;simp[hc.1]
 split at h
 ·rename_i hc;simp[hc.1]
 ·cases h
theorem AQ1 {ws:List Int} {rule:Int} {path:List Int} {p q:Pn} (h:apS ws rule path p=some q):rule∈rules∧(Pn.at path p).isSome=true:=by
 unfold apS at h
 cases ha:Pn.at path p with
 | none=>simp[ha]at h
 | some a =>
  simp only[ha,yH]at h
  cases hr:rwP ws rule a with
  | none=>simp[hr]at h
  | some x=>exact⟨AA8 hr,rfl⟩
theorem AG8 {ws:List Int} {p:Pn} {s:Stp}:s∈stS ws p↔(apS ws s.1 s.2 p).isSome=true:=by
 unfold stS atS;obtain⟨r,path⟩:=s;simp only[List.mem_flatMap,yI,List.mem_filter,Prod.mk.injEq];constructor
 ·rintro⟨q,hq,r',⟨h1,h2⟩,rfl,rfl⟩;exact h2
 ·intro h;obtain⟨x,hx⟩:=xD.1 h;obtain⟨h1,h2⟩:=AQ1 hx;exact⟨path,(OJ p [] path).2 ⟨path,by simp,h2⟩,r,⟨h1,h⟩,rfl,rfl⟩
end Go.Av

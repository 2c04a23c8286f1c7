/- Part 4 of what the proof rests on: the executor and what it is worth, and the program's functions as it runs them. No condition. -/
import Derived.Test.YtjdfjgmebalaaaaGreatT3
set_option linter.unusedVariables false
set_option linter.unusedSimpArgs false
namespace Go.Av.V
open Go.Av
def RL (w:World) (b n:Nat):Prop:=∃ (vs:List Value) (T:TypeId),w.heap[b]?=some (.cells vs.toArray T (0,0))∧n≤vs.length∧∀ v∈vs,v.oneCell'=true
theorem RL.lt {w:World} {b n:Nat} (h:RL w b n):b<w.heap.size:=by
 obtain⟨vs,T,e,_⟩:=h;exact(zL.1 e).1
abbrev Nd:=Ex×Option (Nat×Nat)
structure PF (B:Nat) (w:World) (m:Mem) (φ:Pl) (b o:Nat) (y:Nd):Prop where
 new:B≤b
 row:∃ (vs:List Value) (T:TypeId),w.heap[b]?=some (.cells vs.toArray T (0,0))
 free:gK φ b
 cel:IAt m b o y.1.cells
 lit:∀ b' cap,y.2=some (b',cap)→m b (o+4)=some (.slice (some ⟨b',0,none⟩) y.1.kids.length cap)∧B≤b'∧gK φ b'∧RL w b' (5*cap)
abbrev KL:=List ((Nat×Nat)×Nd)
theorem PF.lt {B:Nat} {w:World} {m:Mem} {φ:Pl} {b o:Nat} {x:Nd} (h:PF B w m φ b o x):b<w.heap.size:=by
 obtain⟨vs,T,e⟩:=h.row;exact(zL.1 e).1
theorem PF.adv {B:Nat} {w w':World} {m m':Mem} {φ φ':Pl} {b o:Nat} {x:Nd} (h:PF B w m φ b o x) (k:Adv w m φ w' m' φ'):PF B w' m' φ' b o x:=by
 refine⟨h.new,?_,k.range h.lt h.free,h.cel.mono k.mle,fun b' cap e=>?_⟩
 ·rw[k.block b h.lt h.free];exact h.row
 ·obtain⟨h1,h2,h3,h4⟩:=h.lit b' cap e;refine⟨k.mle _ _ _ h1,h2,k.range h4.lt h3,?_⟩;obtain⟨vs,T,e1,e2⟩:=h4;exact⟨vs,T,by rw[k.block b' (zL.1 e1).1 h3];exact e1,e2⟩
structure GG (wi:World) (mi:Mem) (nt:Nat) (ok:Nat→Prop) (K:KL) (env:Nat→AV) (st:Store) (a:Act) (w:World):Prop where
 out:∃ m φ,Inv w m φ st∧(∀ t,Rep m φ (env t) (a.tmps.getD t undef))∧Adv wi mi (fun _=>none) w m φ∧(∀ id,φ id≠none→ok id)∧∀ k∈K,PF wi.heap.size w m φ k.1.1 k.1.2 k.2
 size:nt≤a.tmps.size
 defers:a.defers=[]
section
variable {C:Ctx} {wi:World} {mi:Mem} {nt:Nat}
theorem GG.ofA {ok ok':Nat→Prop} {K:KL} {env env':Nat→AV} {st st':Store} {a a':Act} {w w':World} {m:Mem} {φ:Pl} (h3:Adv wi mi (fun _=>none) w m φ) (h5:∀ k∈K,PF wi.heap.size w m φ k.1.1 k.1.2 k.2) (h:ARel [] w m φ nt ok' env' st' a' w'):GG wi mi nt ok' K env' st' a' w':=by
 obtain⟨⟨m',φ',k1,k2,k3,k4,_⟩,k5,k6⟩:=h;exact⟨⟨m',φ',k1,k2,h3.trans k3,k4,fun k hk=>(h5 k hk).adv k3⟩,k5,k6⟩
theorem GG.code (hC:CtxOk C) {call:dB} (hcall:CallOk C call) (hdraw:WE C call) {G:List Nat} {n:Nat} {c:Code} {S S':AS} {e:AExit} {a:Act} {w:World} {K:KL} (hc:codeOk nt c=true) (hx:exec C call G S.st.length n c S=some (e,S')) (h:GG wi mi nt (fun id=>id<S.st.length) K (aN S.env) (aR S.st) a w) (hnr:bJ c=true:=by rfl) :
 c.wp C.P (fun e' a' w'=>e'=iF e∧GG wi mi nt (fun id=>id<S'.st.length) K (aN S'.env) (aR S'.st) a' w') a w:=by
 obtain⟨⟨m,φ,h1,h2,h3,h4,h5⟩,h6,h7⟩:=h;refine wpIn_wide.1 (wpIn_mono (bY (ρ:=none) hC hcall hdraw h4 n c S S' e [] a w hc (.inl rfl) hx ⟨⟨⟨m,φ,h1,h2, .refl _ _ _,h4, .nil _ _ _⟩,h6,h7⟩,zP _⟩) ?_);rintro e' a' w' ⟨rfl,ds,k,kd⟩;have kd:=kd hnr;subst kd;exact⟨rfl, .ofA (ok:=fun _=>True) (env:=fun _=>.junk) (st:=st0) (a:=a) h3 h5 k.1⟩
where st0:Store:=fun _=>none
theorem GG.ops (hC:CtxOk C) {call:dB} (hcall:CallOk C call) {ops:Array Oper} {Q:Exit→Act→World→Prop} {base:Nat} {js:List Nat} {K:KL} (hs:∀ o∈ops,iM nt o=true) {os:List Oper} {i:Nat} {R R':RS} {a:Act} {w:World} (hl:∀ j,j<os.length→os[j]?=ops[i+j]?) (hx:dH C call ops.toList false base os i R=some R')
 (h:GG wi mi nt (GL base fun j=>j<i) K R.env R.st a w) (hQ:∀ a' w',GG wi mi nt (GL base fun j=>j<i+os.length) K R'.env R'.st a' w'→wpOpsIn (FR none) 0 C.P ops Q js a' w'):wpOpsIn (FR none) 0 C.P ops Q (List.range' i os.length++js) a w:=by
 obtain⟨⟨m,φ,h1,h2,h3,h4,h5⟩,h6,h7⟩:=h;exact iX hC hcall hs os i R R' a w hl hx ⟨⟨m,φ,h1,h2, .refl _ _ _,h4, .nil _ _ _⟩,h6,h7⟩ fun a' w' k=>hQ a' w' (.ofA (ok:=fun _=>True) (env:=fun _=>.junk) (st:=fun _=>none) (a:=a) h3 h5 k)
theorem GG.settle {ok:Nat→Prop} {K:KL} {env:Nat→AV} {st:Store} {a:Act} {w:World} (G:List Nat) (h:GG wi mi nt ok K env st a w) :
 GG wi mi nt (fun id=>id<(settle G 0 env st).st.length) K (aN (settle G 0 env st).env) (aR (settle G 0 env st).st) a w:=by
 obtain⟨⟨m,φ,hi,henv,hadv,hok,hK⟩,hsz,hdf⟩:=h;unfold Av.settle wZ;generalize hids:iO st 0 (DN env G)=ids;have hd:ids.Nodup:=by rw[← hids];exact gI _ _ _
 have hfree:∀ b,gK φ b→gK (eX ids φ) b:=by
  intro b hb id r n e;unfold eX at e
  cases hx:ids[id]? with
  | none=>rw[hx]at e;cases e
  | some j=>rw[hx]at e;exact hb j r n e
 refine⟨⟨m,eX ids φ,hi.keep hd,?_,hadv.keep (fun id h=>absurd rfl h) (fun j hj=>absurd hj (xW j)),?_,fun k hk=>⟨(hK k hk).new,(hK k hk).row,hfree _ (hK k hk).free,(hK k hk).cel,fun b' cap e=>by
  obtain⟨h1,h2,h3,h4⟩:=(hK k hk).lit b' cap e
  exact⟨h1,h2,hfree _ h3,h4⟩⟩⟩,hsz,hdf⟩
 ·intro t
  have key:∀ G:List Nat,Rep m (eX ids φ) (aN (mP (iH ids) env G) t) (a.tmps.getD t undef):=by
   intro G
   induction G with
   | nil=>exact .junk _
   | cons u G ih =>
    simp only[mP,aN];by_cases e:t=u
    ·subst e;simp only[if_true];exact(henv t).ren (lZ ids φ)
    ·simp only[e,if_false];exact ih
  exact key G
 ·intro id hne;simp only[gU];unfold eX at hne
  cases hx:ids[id]? with
  | none=>rw[hx]at hne;exact absurd rfl hne
  | some i=>exact(zY.1 hx).1
theorem GG.see {ok:Nat→Prop} {K:KL} {env:Nat→AV} {st:Store} {a:Act} {w:World} {u b o:Nat} {x:Nd} (h:GG wi mi nt ok K env st a w) (hu:env u=.i (.lit (.pointer (some ⟨b,o,none⟩)))) (hk:((b,o),x)∈K):GG wi mi nt ok K (upd env u (.i (.iref x.1.cells))) st a w:=by
 obtain⟨⟨m,φ,hi,henv,hadv,hok,hK⟩,hsz,hdf⟩:=h;refine⟨⟨m,φ,hi,fun t=>?_,hadv,hok,hK⟩,hsz,hdf⟩;simp only[upd];split
 ·rename_i e;subst e;have:=henv t;rw[hu]at this;rw[this.bX];exact .i (.iref (hK _ hk).cel)
 ·exact henv t
theorem GG.envTo {ok:Nat→Prop} {K:KL} {env env':Nat→AV} {st:Store} {a:Act} {w:World} (h:GG wi mi nt ok K env st a w) (he:∀ t,env' t=.junk∨env' t=env t):GG wi mi nt ok K env' st a w:=by
 obtain⟨⟨m,φ,hi,henv,hadv,hok,hK⟩,hsz,hdf⟩:=h;refine⟨⟨m,φ,hi,fun t=>?_,hadv,hok,hK⟩,hsz,hdf⟩
 rcases he t with e|e
 ·rw[e];exact .junk _
 ·rw[e];exact henv t
theorem GG.ok' {ok ok':Nat→Prop} {K:KL} {env:Nat→AV} {st:Store} {a:Act} {w:World} (h:GG wi mi nt ok K env st a w) (he:∀ id,ok id→ok' id):GG wi mi nt ok' K env st a w:=by
 obtain⟨⟨m,φ,hi,henv,hadv,hok,hK⟩,hsz,hdf⟩:=h;exact⟨⟨m,φ,hi,henv,hadv,fun id h=>he id (hok id h),hK⟩,hsz,hdf⟩
end
section
variable {C:Ctx} {wi:World} {mi:Mem}
theorem EI {w:World} {m:Mem} {φ:Pl} {st:Store} {K:KL} {b o:Nat} {y:Nd} {x:Ex} (hyx:y.1=x) {v:Value} {t:TypeId} (ht:jD C.P t=some 1) (hi:Inv w m φ st) (hst:ANJ st) (hadv:Adv wi mi (fun _=>none) w m φ) (hmi:kF wi mi)
 (hK:∀ k∈K,PF wi.heap.size w m φ k.1.1 k.1.2 k.2) (hk:((b,o),y)∈K) (hnl:∀ k∈K,k.1=(b,o)→k.2.2=none) (hv:IRep m (.isl (Ex.aB x.kids)) v) :
 ∃ w' m',(Instr.storeAt t (.pointer (some ⟨b,o+4,none⟩)) v).run C.P w=.ok () w'∧Inv w' m' φ st∧Adv wi mi (fun _=>none) w' m' φ∧(∀ k∈K,PF wi.heap.size w' m' φ k.1.1 k.1.2 k.2) ∧
   IAt m' b o [.int x.kind, .int x.col, .bool x.val.null, .int x.val.n, .lit v]∧(∀ c n,RL w c n→RL w' c n):=by
 have hp:=hK _ hk;subst hyx;obtain⟨u,hx⟩:=F9 hp.cel;obtain⟨vs,T,hrow⟩:=hp.row;have hone:=uK hv
 have hcells:v.cells.toList=[v]:=by
  rcases lG hv with ⟨_,ao,cap,rfl⟩|⟨_,b',off,k',cap,rfl,_⟩<;>rfl
 have hcsz:v.cells.size=1:=by rw[← Array.length_toList,hcells];rfl
 have hlen:o+4<vs.length:=by
  have:=hi.mem _ _ _ hx.c4;simp only[World.cell?,hrow,xC]at this;have h2:vs.toArray[o+4]?=some u:=by simpa using this
  have:=(zL.1 h2).1;simpa using this
 have hrun:=jP (P:=C.P) (t:=t) (v:=v) (off:=o+4) (by rw[hcsz];exact ht) hrow (by omega) (by rw[hcells];simpa using hone);rw[hcells,hcsz]at hrun;generalize hvs':vs.take (o+4)++[v]++vs.drop (o+4+1)=vs' at hrun;have hheap:(w.setRow b vs'.toArray).heap[b]?=some (.cells vs'.toArray T (0,0)):=setRow_heap w b _ _ T (0,0) hrow;have hother:∀ k,k≠b→(w.setRow b vs'.toArray).heap[k]?=w.heap[k]?:=fun k hk=>setRow_other w b k _ hk
 have hget:∀ j,vs'[j]?=if j=o+4 then some v else vs[j]?:=by
  intro j;subst hvs'
  have hs:vs.take (o+4)++[v]++vs.drop (o+4+1)=vs.set (o+4) v:=by
   rw[List.set_eq_take_append_cons_drop];simp[hlen]
  rw[hs,List.getElem?_set];by_cases e:o+4=j
  ·subst e;simp[hlen]
  ·simp[e,Ne.symm e]
 have hall:(∀ u∈vs,u.oneCell'=true)→∀ u∈vs',u.oneCell'=true:=by
  intro h u hu;obtain⟨j,hj⟩:=List.getElem?_of_mem hu;rw[hget]at hj;split at hj
  ·injection hj with hj;subst hj;exact hone
  ·exact h u (zU hj)
 refine⟨w.setRow b vs'.toArray,turn m b (o+4) v,?_,?_,?_,?_,?_,?_⟩
 ·simp only[Instr.storeAt,Instr.sureAddr,Sem.run_bind,Sem.run_pure,Result.andThen_ok];exact hrun
 ·refine⟨?_,?_,hi.inj,fun i b n f e ho=>by simpa [World.setRow]using hi.low i b n f e ho⟩
  ·intro b1 o1 q hq;unfold turn at hq;by_cases e1:b1=b
   ·subst e1;simp only[World.cell?,hheap,xC]
    have:vs'.toArray[o1]?=some q:=by
     rw[List.getElem?_toArray,hget];split at hq
     ·rename_i e;rw[if_pos e.2];exact hq
     ·rename_i e;have e2:o1≠o+4:=fun h=>e ⟨rfl,h⟩
      rw[if_neg e2];have:=hi.mem _ _ _ hq;simp only[World.cell?,hrow,xC]at this;simpa using this
    simpa using this
   ·rw[if_neg (fun h=>e1 h.1)]at hq;have:=hi.mem _ _ _ hq;simp only[World.cell?]at this ⊢;rw[hother b1 e1];exact this
  ·intro id blk hb;obtain⟨b2,n2,h1,h2,h3⟩:=hi.live id blk hb;have hne:b2≠b:=fun e=>hp.free id b2 n2 h1 (by rw[← e];exact h2.1)
   refine⟨b2,n2,h1,⟨h2.1,fun f hf=>by simpa [World.setRow]using h2.2 f hf⟩,h3.WF (hst id blk hb) (hother b2 hne) fun o' ho'=>?_⟩;unfold turn;rw[if_neg (fun h=>hne h.1)];exact ho'
 ·refine⟨by simpa [World.setRow]using hadv.size,hadv.os,⟨hadv.tape.tape,hadv.tape.fwd⟩,hadv.output,?_,?_,?_,hadv.ple,hadv.pnew⟩
  ·intro k hk hn;rw[hother k (by have h3:wi.heap.size≤b:=hp.new;omega)];exact hadv.block k hk hn
  ·intro b1 o1 q hq;have h1:=hadv.mle _ _ _ hq;unfold turn;rw[if_neg ?_];· exact h1
   rintro⟨rfl,_⟩;have h2:=hmi _ _ _ hq;have h3:wi.heap.size≤b1:=hp.new;simp only[World.cell?]at h2
   cases h4:wi.heap[b1]? with
   | none=>rw[h4]at h2;cases h2
   | some z=>have:=(zL.1 h4).1;omega
  ·intro k hk hn o';have h3:wi.heap.size≤b:=hp.new;unfold turn;rw[if_neg (fun h=>by have:=h.1;omega)];exact hadv.mnew k hk hn o'
 ·intro k hk;have h:=hK k hk;have hvl:vs'.length=vs.length:=by subst hvs';simp;omega
  refine⟨h.new,?_,h.free,AF5 hx hv _ _ _ h.cel,fun b' cap e=>?_⟩
  ·by_cases e:k.1.1=b
   ·rw[e];exact⟨vs',T,hheap⟩
   ·rw[hother _ e];exact h.row
  ·obtain⟨h1,h2,h3,h4⟩:=h.lit b' cap e;refine⟨?_,h2,h3,?_⟩
   ·unfold turn;rw[if_neg]
    ·exact h1
    ·rintro⟨e1,e2⟩;have:=hnl k hk (by rw[← e1,show o=k.1.2 by omega]);rw[this]at e;cases e
   ·obtain⟨vs2,T2,e1,e2,e3⟩:=h4;by_cases eb:b'=b
    ·subst eb;rw[hrow]at e1;injection e1 with e1;injection e1 with e1 _;have:vs=vs2:=by simpa using congrArg Array.toList e1
     subst this;exact⟨vs',T,hheap,by omega,hall e3⟩
    ·exact⟨vs2,T2,by rw[hother _ eb];exact e1,e2,e3⟩
 ·have low:∀ i,i<4→∀ q,m b (o+i)=some q→turn m b (o+4) v b (o+i)=some q:=by
   intro i hi q hq;unfold turn;rw[if_neg (by rintro⟨_,h⟩;omega)];exact hq
  refine .cons (by simpa using low 0 (by omega) _ (by simpa using hx.c0)) (.lit _) rfl (.cons (low 1 (by omega) _ hx.c1) (.lit _) rfl (.cons (low 2 (by omega) _ hx.c2) (.lit _) rfl (.cons (low 3 (by omega) _ hx.c3) (.lit _) rfl (.cons ?_ (.lit _) hone (.nil _ _)))));unfold turn;rw[if_pos ⟨rfl,rfl⟩]
 ·rintro c n ⟨vs2,T2,e1,e2,e3⟩;have hvl:vs'.length=vs.length:=by subst hvs';simp;omega
  by_cases eb:c=b
  ·subst eb;rw[hrow]at e1;injection e1 with e1;injection e1 with e1 _;have:vs=vs2:=by simpa using congrArg Array.toList e1
   subst this;exact⟨vs',T,hheap,by omega,hall e3⟩
  ·exact⟨vs2,T2,by rw[hother _ eb];exact e1,e2,e3⟩
end
def bL (b:Nat):Nat→List Ex→KL
 | _,[]=>[]
 | o,x::l=>((b,o),(x,none))::bL b (o+5) l
theorem vP {b:Nat}:∀ {o:Nat} {l:List Ex} {i:Nat} {x:Ex},l[i]?=some x→((b,o+5*i),(x,none))∈bL b o l
 | _,[],_,_,h=>by simp at h
 | o,a::l,0,x,h=>by simp at h;subst h;simp[bL]
 | o,a::l,i+1,x,h=>by
  have:=vP (b:=b) (o:=o+5) (l:=l) (i:=i) (x:=x) (by simpa using h);simp only[bL,zS];exact .inr (by rw[show o+5*(i+1)=o+5+5*i by omega];exact this)
theorem qO {m:Mem} {b:Nat}:∀ {o k:Nat} {l:List Ex},IElems m b o k (Ex.aB l)→∀ p∈bL b o l,p.1.1=b∧p.2.2=none∧IAt m p.1.1 p.1.2 p.2.1.cells
 | _,_,[],_,p,hp=>by simp[bL]at hp
 | o,k,a::l,h,p,hp=>by
  obtain⟨rfl,h1,h2⟩:=oF h;simp only[bL,zS]at hp
  rcases hp with rfl|hp
  ·exact⟨rfl,rfl,h1⟩
  ·exact qO h2 p hp
section
variable {C:Ctx} {wi:World} {mi:Mem}
theorem QC {w:World} {m:Mem} {φ:Pl} {st st':Store} {K:KL} {id:Nat} {v:Value} {ks:List Ex} (hks:ks≠[]) (hi:Inv w m φ st) (hr:Rep m φ (.osl id 5 0 ks.length) v) (hid:st id=some (.arr 5 (Ex.aB ks))) (hadv:Adv wi mi (fun _=>none) w m φ)
 (hK:∀ k∈K,PF wi.heap.size w m φ k.1.1 k.1.2 k.2) (hst:∀ i blk,st' i=some blk→i≠id∧st i=some blk∧gT blk) :
 ∃ b' cap m1 φ2,v=.slice (some ⟨b',0,none⟩) ks.length cap∧Inv w m1 φ2 st'∧Adv wi mi (fun _=>none) w m1 φ2∧(∀ k∈K++bL b' 0 ks,PF wi.heap.size w m1 φ2 k.1.1 k.1.2 k.2)∧IRep m1 (.isl (Ex.aB ks)) v ∧
   (∀ i,st' i≠none→φ2 i=φ i)∧(∀ i,φ2 i≠none→st' i≠none) ∧
   (wi.heap.size≤b'∧gK φ2 b'∧RL w b' (5*cap))∧(∀ f,gK φ f→f≠b'):=by
 have hlen:0<ks.length:=xK.2 hks
 have hfr:qZ st (.osl id 5 0 ks.length)=some (.isl (Ex.aB ks),upd st id (some (.frz 5 (Ex.aB ks)))):=by
  simp[qZ,frz,wC,wD,hid,tst,window,bnd,iD,zZ]
 obtain⟨m1,k1,k2,k3⟩:=iZ hi hr hfr
 cases hr with
 | @osl _ _ _ _ cap b' n' ao eφ hlc hcap ha1 ha2 =>
  have hao:=ha1 (by omega);subst hao;obtain⟨hb,hok⟩:=bZ hi eφ hid
  have hrl:RL w b' (5*cap):=by
   cases hok with|arr h1 h2 _ _ _ _ _ _ h9=>exact⟨_,_,h1,by rw[h2];simpa using hcap,h9⟩
  have hrow:∃ (vs:List Value) (T:TypeId),w.heap[b']?=some (.cells vs.toArray T (0,0)):=by
   obtain⟨vs,T,e,_⟩:=hrl;exact⟨vs,T,e⟩
  have hnew:wi.heap.size≤b':=by
   rcases hadv.pnew id b' n' b' eφ hb.1 with h|h
   ·exact h
   ·exact absurd (fun id b n e=>by cases e) h
  have dec:∀ i,st' i=none∨st' i≠none:=fun i=>by cases st' i<;>simp
  let φ2:Pl:=fun i=>match st' i with
   | some _=>φ i
   | none=>none
  have hφ2:∀ i,st' i≠none→φ2 i=φ i:=fun i h=>by
   show(match st' i with|some _=>φ i|none=>none)=φ i
   cases e:st' i with
   | none=>exact absurd e h
   | some _=>rfl
  have hφ2n:∀ i,φ2 i≠none→st' i≠none:=fun i h e=>h (by
   show(match st' i with|some _=>φ i|none=>none)=none
   rw[e])
  have hsub:∀ i p,φ2 i=some p→φ i=some p∧st' i≠none:=fun i p h=>by
   have h1:=hφ2n i (by rw[h];simp);exact⟨by rw[← hφ2 i h1];exact h,h1⟩
  have hA1:=hadv.trans k3
  have hfree2:gK φ2 b':=by
   intro i r n e ho;obtain⟨h1,h2⟩:=hsub _ _ e
   cases hb2:st' i with
   | none=>exact h2 hb2
   | some blk =>
    obtain⟨q1,q2,_⟩:=hst i blk hb2;exact q1 (hi.inj i id r b' n n' blk _ b' q2 hid h1 eφ ho hb.1)
  refine⟨b',cap,m1,φ2,by simp,?_,?_,?_,k1,hφ2,hφ2n,⟨hnew,hfree2,hrl⟩,fun f hf e=>hf id b' n' eφ (e ▸ hb.1)⟩
  ·refine⟨k2.mem,?_,?_,fun i b n f e ho=>k2.low i b n f (hsub _ _ e).1 ho⟩
   ·intro i blk hb';obtain⟨h1,h2,h3⟩:=hst i blk hb';have h4:upd st id (some (.frz 5 (Ex.aB ks))) i=some blk:=by simp[upd,h1,h2]
    obtain⟨b,n,q1,q2,q3⟩:=k2.live i blk h4;exact⟨b,n,by rw[hφ2 i (by rw[hb'];simp)];exact q1,q2,q3.WF h3 rfl fun o h=>h⟩
   ·intro i j b bx n n2 b1 b2 f h1 h2 h3 h4 o1 o2;obtain⟨q1,q2,_⟩:=hst i b1 h1;obtain⟨r1,r2,_⟩:=hst j b2 h2;exact hi.inj i j b bx n n2 b1 b2 f q2 r2 (hsub _ _ h3).1 (hsub _ _ h4).1 o1 o2
  ·refine⟨hA1.size,hA1.os,hA1.tape,hA1.output,hA1.block,hA1.mle,hA1.mnew,(fun _ _ _ h=>by cases h),?_⟩;intro i b n f h2 ho;exact hA1.pnew i b n f (hsub _ _ h2).1 ho
  ·intro k hk
   rcases zV.1 hk with hk|hk
   ·have h:=hK k hk
    exact⟨h.new,h.row,fun i r n e=>h.free i r n (hsub _ _ e).1,h.cel.mono k3.mle,fun b2 c2 e=>by
     obtain⟨h1,h2,h3,h4⟩:=h.lit b2 c2 e
     exact⟨k3.mle _ _ _ h1,h2,fun i r n e=>h3 i r n (hsub _ _ e).1,h4⟩⟩
   ·have hel:IElems m1 b' 0 5 (Ex.aB ks):=by
     rcases lG k1 with ⟨e1,_⟩|⟨_,b2,off,k',cap',hv,hel,_⟩
     ·exact absurd (by cases ks with|nil=>rfl|cons a l=>simp[Ex.aB]at e1) hks
     ·injection hv with q1 _ _;injection q1 with q1;injection q1 with q1 q2;subst q1;subst q2
      cases ks with
      | nil=>exact absurd rfl hks
      | cons a l=>obtain⟨rfl,_⟩:=oF hel;exact hel
    obtain⟨e1,e3,e2⟩:=qO hel k hk;exact⟨by rw[e1];exact hnew,by rw[e1];exact hrow,by rw[e1];exact hfree2,e2,fun b2 c2 e=>by rw[e3]at e;cases e⟩
end
section
variable {C:Ctx} {wi:World} {mi:Mem} {nt:Nat}
theorem GG.dW (hS:SoundOk C) {G:List Nat} {c:Code} {S S':AS} {e:AExit} {a:Act} {w:World} {K:KL} (hc:codeOk nt c=true) (hx:dR C G S.st.length c S=some (e,S')) (h:GG wi mi nt (fun id=>id<S.st.length) K (aN S.env) (aR S.st) a w) (hnr:bJ c=true:=by rfl) :
 c.wp C.P (fun e' a' w'=>e'=iF e∧GG wi mi nt (fun id=>id<S'.st.length) K (aN S'.env) (aR S'.st) a' w') a w:=by
 obtain⟨n,hn⟩:=(d9 _).1 hx;exact GG.code hS.ctx (aS hS) (hS.draw _ (aS hS)) hc hn h hnr
theorem QI {w:World} {m m1:Mem} {φ:Pl} {st st1 st':Store} {K:KL} {id b':Nat} {n':Ext} {blk0:Blk} (hi:Inv w m φ st) (k2:Inv w m1 φ st1) (hA1:Adv wi mi (fun _=>none) w m1 φ) (hle:MLe m m1) (eφ:φ id=some (b',n')) (hid:st id=some blk0)
 (hK:∀ k∈K,PF wi.heap.size w m φ k.1.1 k.1.2 k.2) (hst:∀ i blk,st' i=some blk→i≠id∧st i=some blk∧st1 i=some blk∧gT blk) :
 ∃ φ2,Inv w m1 φ2 st'∧Adv wi mi (fun _=>none) w m1 φ2∧(∀ k∈K,PF wi.heap.size w m1 φ2 k.1.1 k.1.2 k.2)∧gK φ2 b'∧(∀ i,st' i≠none→φ2 i=φ i)∧(∀ i,φ2 i≠none→st' i≠none):=by
 let φ2:Pl:=fun i=>match st' i with
  | some _=>φ i
  | none=>none
 have hφ2:∀ i,st' i≠none→φ2 i=φ i:=fun i h=>by
  show(match st' i with|some _=>φ i|none=>none)=φ i
  cases e:st' i with
  | none=>exact absurd e h
  | some _=>rfl
 have hφ2n:∀ i,φ2 i≠none→st' i≠none:=fun i h e=>h (by
  show(match st' i with|some _=>φ i|none=>none)=none
  rw[e])
 have hsub:∀ i p,φ2 i=some p→φ i=some p∧st' i≠none:=fun i p h=>by
  have h1:=hφ2n i (by rw[h];simp);exact⟨by rw[← hφ2 i h1];exact h,h1⟩
 refine⟨φ2,⟨k2.mem,?_,?_,fun i b n f e ho=>k2.low i b n f (hsub _ _ e).1 ho⟩,?_,?_,?_,hφ2,hφ2n⟩
 ·intro i blk hb';obtain⟨h1,h2,h4,h3⟩:=hst i blk hb';obtain⟨b,n,q1,q2,q3⟩:=k2.live i blk h4;exact⟨b,n,by rw[hφ2 i (by rw[hb'];simp)];exact q1,q2,q3.WF h3 rfl fun o h=>h⟩
 ·intro i j b bx n n2 b1 b2 f h1 h2 h3 h4 o1 o2;obtain⟨q1,q2,_⟩:=hst i b1 h1;obtain⟨r1,r2,_⟩:=hst j b2 h2;exact hi.inj i j b bx n n2 b1 b2 f q2 r2 (hsub _ _ h3).1 (hsub _ _ h4).1 o1 o2
 ·refine⟨hA1.size,hA1.os,hA1.tape,hA1.output,hA1.block,hA1.mle,hA1.mnew,(fun _ _ _ h=>by cases h),?_⟩;intro i b n f h2 ho;exact hA1.pnew i b n f (hsub _ _ h2).1 ho
 ·intro k hk;have h:=hK k hk
  exact⟨h.new,h.row,fun i r n e=>h.free i r n (hsub _ _ e).1,h.cel.mono hle,fun b2 c2 e=>by
   obtain⟨h1,h2,h3,h4⟩:=h.lit b2 c2 e
   exact⟨hle _ _ _ h1,h2,fun i r n e=>h3 i r n (hsub _ _ e).1,h4⟩⟩
 ·intro i r n e ho;obtain⟨h1,h2⟩:=hsub _ _ e
  cases hb2:st' i with
  | none=>exact h2 hb2
  | some blk =>
   obtain⟨q1,q2,_⟩:=hst i blk hb2;exact q1 (hi.inj i id r b' n n' blk _ b' q2 hid h1 eφ ho (bZ hi eφ hid).1.1)
theorem GG.pub {ok ok':Nat→Prop} {K:KL} {env:Nat→AV} {st st':Store} {a:Act} {w:World} {u id:Nat} {e:Ex} (h:GG wi mi nt ok K env st a w) (hu:env u=.own id 0) (hid:st id=some (.box (jW e.cells)))
 (hst:∀ i blk,st' i=some blk→i≠id∧st i=some blk∧gT blk) (hok:∀ i,st' i≠none→ok' i) :
 ∃ b',(∀ env',(∀ t,env' t=.junk∨(t=u∧env' t=.i (.lit (.pointer (some ⟨b',0,none⟩))))∨(env' t=env t∧kD st' (env t)))→GG wi mi nt ok' (K++[((b',0),(e,none))]) env' st' a w):=by
 obtain⟨⟨m,φ,hi,henv,hadv,_,hK⟩,hsz,hdf⟩:=h;have hr:=henv u;rw[hu]at hr
 have hfr:qZ st (.own id 0)=some (.iref e.cells,upd st id (some (.fbox e.cells))):=by
  have h1:∀ (l:List IV) (n:Nat),IA st (n+l.length+1) (jW l)=some (l,[]):=by
   intro l
   induction l with
   | nil=>intro n;simp[jW,IA]
   | cons c l ih=>intro n;simp only[jW,zQ];rw[show n+(l.length+1)+1=(n+l.length+1)+1 by omega];simp[IA,frz,bnd,ih n]
  have h2:IA st 18 (jW e.cells)=some (e.cells,[]):=by
   have:=h1 e.cells 12;rw[Ex.cK]at this;exact this
  have h3:DI st 19 id 0 (some (.box (jW e.cells)))=some (.iref e.cells,[(id, .fbox e.cells)]):=by
   show bnd (IA st 18 (jW e.cells)) (fun p=>tst (decide (0≤p.1.length)) (some (IV.iref (dropE 0 p.1),(id,Blk.fbox p.1)::p.2)))=_;rw[h2];simp[dropE]
  have h4:frz st 20 (.own id 0)=some (.iref e.cells,[(id, .fbox e.cells)]):=by
   show DI st 19 id 0 (st id)=_;rw[hid];exact h3
  show bnd (frz st 20 (.own id 0)) (fun p=>some (p.1,iD st p.2))=_;rw[h4];rfl
 obtain⟨m1,k1,k2,k3⟩:=iZ hi hr hfr
 cases hr':a.tmps.getD u undef with
 | pointer p =>
  rw[hr']at hr k1
  cases hr with
  | @own _ _ b' n' eφ =>
   obtain⟨hb,hbok⟩:=bZ hi eφ hid
   have hrow:∃ (vs:List Value) (T:TypeId),w.heap[b']?=some (.cells vs.toArray T (0,0)):=by
    cases hbok with|box h1=>exact⟨_,_,h1⟩
   have hnew:wi.heap.size≤b':=by
    rcases hadv.pnew id b' n' b' eφ hb.1 with h|h
    ·exact h
    ·exact absurd (fun id b n e=>by cases e) h
   obtain⟨φ2,g1,g2,g3,g4,g5,g6⟩:=QI (wi:=wi) (mi:=mi) (K:=K) hi k2 (hadv.trans k3) k3.mle eφ hid hK (st':=st') fun i blk hb'=>by
    obtain⟨q1,q2,q3⟩:=hst i blk hb';exact⟨q1,q2,by simp[upd,q1,q2],q3⟩
   refine⟨b',fun env' he=>⟨⟨m1,φ2,g1,fun t=>?_,g2,fun i hi'=>hok i (g6 i hi'),?_⟩,hsz,hdf⟩⟩
   ·rcases he t with h|⟨rfl,h⟩|⟨h,hs⟩
    ·rw[h];exact .junk _
    ·rw[h,hr'];exact .i (.lit _)
    ·rw[h];exact hs.rep g5 (henv t)
   ·intro k hk
    rcases zV.1 hk with hk|hk
    ·exact g3 k hk
    ·simp only[xB]at hk;subst hk;refine⟨hnew,hrow,g4,?_,fun b2 c2 e=>by cases e⟩
     cases k1 with|iref hat=>exact hat
 | _=>rw[hr']at hr;cases hr
def AEJ (b o:Nat) (x:Ex) (b' cap:Nat):KL:=if x.kids=[]then []else((b,o),(x,some (b',cap)))::bL b' 0 x.kids
theorem GG.turn {ok ok':Nat→Prop} {K:KL} {env:Nat→AV} {st st':Store} {a:Act} {w:World} {u b o:Nat} {x:Ex} {t:TypeId} {r:AV} (h:GG wi mi nt ok K env st a w) (ht:jD C.P t=some 1) (hmi:kF wi mi) (hk:((b,o),(x,none))∈K) (hnl:∀ k∈K,k.1=(b,o)→k.2.2=none) (hu:env u=r)
 (hr:(r=.nils∧x.kids=[]∧∀ i blk,st' i=some blk→st i=some blk)∨∃ id,r=.osl id 5 0 x.kids.length∧x.kids≠[]∧st id=some (.arr 5 (Ex.aB x.kids))∧∀ i blk,st' i=some blk→i≠id∧st i=some blk)
 (hlit:ANJ st') (hok:∀ i,st' i≠none→ok' i) :
 ∃ w' b' ao cap,a.tmps.getD u undef=.slice ao x.kids.length cap∧(x.kids≠[]→ao=some ⟨b',0,none⟩)∧(Instr.storeAt t (.pointer (some ⟨b,o+4,none⟩)) (a.tmps.getD u undef)).run C.P w=.ok () w' ∧
   (∀ env',(∀ t,env' t=.junk∨(a.tmps.getD t undef=.pointer (some ⟨b,o,none⟩)∧env' t=.i (.iref [.int x.kind, .int x.col, .bool x.val.null, .int x.val.n, .lit (.slice ao x.kids.length cap)]))∨(env' t=env t∧kD st' (env t))) →
    GG wi mi nt ok' (K++AEJ b o x b' cap) env' st' a w')∧(x.kids≠[]→∀ k∈K,k.1.1≠b'∧∀ b2 c2,k.2.2=some (b2,c2)→b2≠b'):=by
 obtain⟨⟨m,φ,hi,henv,hadv,_,hK⟩,hsz,hdf⟩:=h;have hru:=henv u;rw[hu]at hru
 have main:∃ (b':Nat) (ao:Option Addr) (cap:Nat) (m1:Mem) (φ2:Pl),a.tmps.getD u undef=.slice ao x.kids.length cap∧(x.kids≠[]→ao=some ⟨b',0,none⟩)∧Inv w m1 φ2 st'∧Adv wi mi (fun _=>none) w m1 φ2∧(∀ k∈K++bL b' 0 x.kids,PF wi.heap.size w m1 φ2 k.1.1 k.1.2 k.2) ∧
  IRep m1 (.isl (Ex.aB x.kids)) (a.tmps.getD u undef)∧(∀ i,st' i≠none→φ2 i=φ i)∧(∀ i,φ2 i≠none→st' i≠none) ∧
  (x.kids≠[]→(wi.heap.size≤b'∧gK φ2 b'∧RL w b' (5*cap))∧(∀ f,gK φ f→f≠b')):=by
  rcases hr with ⟨rfl,hx,hst⟩|⟨id,rfl,hx,hid,hst⟩
  ·generalize hv:a.tmps.getD u undef=v at hru
   cases hru
   let φ2:Pl:=fun i=>match st' i with
    | some _=>φ i
    | none=>none
   have hφ2:∀ i,st' i≠none→φ2 i=φ i:=fun i h=>by
    show(match st' i with|some _=>φ i|none=>none)=φ i
    cases e:st' i with
    | none=>exact absurd e h
    | some _=>rfl
   have hφ2n:∀ i,φ2 i≠none→st' i≠none:=fun i h e=>h (by
    show(match st' i with|some _=>φ i|none=>none)=none
    rw[e])
   have hsub:∀ i p,φ2 i=some p→φ i=some p:=fun i p h=>by
    have h1:=hφ2n i (by rw[h];simp);rw[← hφ2 i h1];exact h
   refine⟨0,none,0,m,φ2,by rw[hx];rfl,fun h=>absurd hx h,⟨hi.mem,?_,?_,fun i b n f e ho=>hi.low i b n f (hsub _ _ e) ho⟩,?_,?_,?_,hφ2,hφ2n,fun h=>absurd hx h⟩
   ·intro i blk hb';obtain⟨b,n,q1,q2,q3⟩:=hi.live i blk (hst i blk hb');exact⟨b,n,by rw[hφ2 i (by rw[hb'];simp)];exact q1,q2,q3.WF (hlit i blk hb') rfl fun o h=>h⟩
   ·intro i j b bx n n2 b1 b2 f h1 h2 h3 h4 o1 o2;exact hi.inj i j b bx n n2 b1 b2 f (hst i b1 h1) (hst j b2 h2) (hsub _ _ h3) (hsub _ _ h4) o1 o2
   ·refine⟨hadv.size,hadv.os,hadv.tape,hadv.output,hadv.block,hadv.mle,hadv.mnew,(fun _ _ _ h=>by cases h),?_⟩;intro i b n f h2 ho;exact hadv.pnew i b n f (hsub _ _ h2) ho
   ·intro k hk;rw[hx]at hk;simp only[bL,zA]at hk;have h:=hK k hk
    exact⟨h.new,h.row,fun i r n e=>h.free i r n (hsub _ _ e),h.cel,fun b2 c2 e=>by
     obtain⟨h1,h2,h3,h4⟩:=h.lit b2 c2 e
     exact⟨h1,h2,fun i r n e=>h3 i r n (hsub _ _ e),h4⟩⟩
   ·rw[hx];simp only[Ex.aB];exact .isl0 _ _ fun _=>rfl
  ·obtain⟨b',cap,m1,φ2,e1,g1,g2,g3,g4,g5,g6,g7,g8⟩:=QC (wi:=wi) (mi:=mi) (K:=K) hx hi hru hid hadv hK (st':=st') fun i blk hb'=>⟨(hst i blk hb').1,(hst i blk hb').2,hlit i blk hb'⟩
   exact⟨b',_,cap,m1,φ2,e1,fun _=>rfl,g1,g2,g3,g4,g5,g6,fun _=>⟨g7,g8⟩⟩
 obtain⟨b',ao,cap,m1,φ2,e1,e2,g1,g2,g3,g4,g5,g6,g7⟩:=main
 have hkn:∀ (o':Nat) (l:List Ex),∀ k∈bL b' o' l,k.2.2=none:=by
  intro o' l
  induction l generalizing o' with
  | nil=>simp[bL]
  | cons a l ih =>
   intro k hk';simp only[bL,zS]at hk'
   rcases hk' with rfl|hk'
   ·rfl
   ·exact ih _ k hk'
 obtain⟨w',m',k1,k2,k3,k4,k5,k6⟩:=EI (C:=C) (wi:=wi) (mi:=mi) (x:=x) (y:=(x,none)) rfl ht g1 hlit g2 hmi g3 (yJ _ hk) (fun k hk' e=>by
  rcases zV.1 hk' with h|h
  ·exact hnl k h e
  ·exact hkn _ _ k h) g4
 have hcell:m' b (o+4)=some (a.tmps.getD u undef):=by
  obtain⟨_,_,_,_,k5⟩:=k5.inv;obtain⟨_,_,_,_,k5⟩:=k5.inv;obtain⟨_,_,_,_,k5⟩:=k5.inv;obtain⟨_,_,_,_,k5⟩:=k5.inv;obtain⟨v5,q1,q2,_,_⟩:=k5.inv;rw[gY q2]at q1;exact q1
 refine⟨w',b',ao,cap,e1,e2,k1,fun env' he=>⟨⟨m',φ2,k2,fun t=>?_,k3,fun i hi'=>hok i (g6 i hi'),?_⟩,hsz,hdf⟩,fun hx k hk'=>?_⟩
 ·rcases he t with h|⟨h1,h⟩|⟨h,hs⟩
  ·rw[h];exact .junk _
  ·rw[h,h1,← e1];exact .i (.iref k5)
  ·rw[h];exact hs.rep g5 (henv t)
 ·intro k hk'
  rcases zV.1 hk' with h|h
  ·exact k4 k (yJ _ h)
  ·unfold AEJ at h;split at h
   ·cases h
   ·rename_i hx
    rcases zS.1 h with rfl|h
    ·have hp:=k4 ((b,o),(x,none)) (yJ _ hk);refine⟨hp.new,hp.row,hp.free,hp.cel,fun b2 c2 e=>?_⟩;injection e with e;injection e with e3 e4;subst e3;subst e4;obtain⟨⟨q1,q2,q3⟩,_⟩:=g7 hx;refine⟨?_,q1,q2,k6 _ _ q3⟩;have:=e2 hx;subst this;rw[hcell,e1]
    ·exact k4 k (zC2 _ h)
 ·obtain⟨_,q4⟩:=g7 hx;have h:=hK k hk';exact⟨q4 _ h.free,fun b2 c2 e=>q4 _ (h.lit b2 c2 e).2.2.1⟩
end
section
variable {C:Ctx} {wi:World} {mi:Mem} {nt:Nat}
theorem GG.ACT {ok:Nat→Prop} {K:KL} {env:Nat→AV} {st:Store} {a:Act} {w:World} {t:Nat} {v:Value} (h:GG wi mi nt ok K env st a w) (ht:env t=.i (.lit v)):a.tmps.getD t undef=v:=by
 obtain⟨⟨m,φ,hi,henv,_⟩,_⟩:=h;have:=henv t;rw[ht]at this;exact this.bX
theorem GG.region (hS:SoundOk C) {id:Nat} {ops:Array Oper} {os1 os2:List Oper} {o:Oper} {K:KL} {S:AS} {a:Act} {w:World} {u b' o':Nat} {x:Ex} {y:Option (Nat×Nat)} {Q:Exit→Act→World→Prop} {PP:(Nat→AV)→Store→Prop} (hops:ops.toList=os1++(os2++[o])) (hs:∀ o∈ops,iM nt o=true)
 (g:GG wi mi nt (fun id=>id<S.st.length) K (aN S.env) (aR S.st) a w) (hk:((b',o'),(x,y))∈K)
 (h:∃ R1,dH C (aI C) ops.toList false S.st.length os1 0 { env:=aN S.env,st:=aR S.st,log:=[] }=some R1∧R1.env u=.i (.lit (.pointer (some ⟨b',o',none⟩))) ∧
  ∃ R2,dH C (aI C) ops.toList false S.st.length os2 os1.length { env:=upd R1.env u (.i (.iref x.cells)),st:=R1.st,log:=R1.log }=some R2∧PP R2.env R2.st)
 (hfin:∀ env st a' w',PP env st→GG wi mi nt (fun _=>True) K env st a' w'→wpOpIn (FR none) 0 C.P ops Q (os1.length+os2.length) (fun a w=>wpOpsIn (FR none) 0 C.P ops Q [] a w) a' w'):(Code.region id ops false).wp C.P Q a w:=by
 obtain⟨R1,h1,h2,R2,h3,h4⟩:=h;refine jO ?_;have hsz:ops.size=os1.length+(os2.length+1):=by rw[← Array.length_toList,hops];simp
 have hget:∀ j,ops[j]?=(os1++(os2++[o]))[j]?:=fun j=>by rw[← hops,xX]
 rw[zA6,hsz,show List.range' 0 (os1.length+(os2.length+1))=List.range' 0 os1.length++(List.range' os1.length os2.length++[os1.length+os2.length])by
  rw[← List.range'_append_1,← List.range'_append_1];simp]
 have hcall:=aS hS;refine GG.ops hS.ctx hcall hs (R:={ env:=aN S.env,st:=aR S.st,log:=[] }) (base:=S.st.length) (i:=0) (fun j hj=>?_) h1 (g.ok' fun id h=>.inl h) fun a1 w1 g1=>?_
 ·rw[hget,zF,zK hj]
 ·have g2:=g1.see (u:=u) h2 hk;rw[zF]at g2;refine GG.ops hS.ctx hcall hs (R:={ env:=upd R1.env u (.i (.iref x.cells)),st:=R1.st,log:=R1.log }) (base:=S.st.length) (fun j hj=>?_) h3 g2 fun a2 w2 g3=>?_
  ·rw[hget,zI (by omega),xZ,zK hj]
  ·rw[wpOpsIn_cons];exact hfin _ _ a2 w2 h4 (g3.ok' fun _ _=>trivial)
end
def Hand (todo K:KL) (p:Nat×Nat) (x:Ex):Prop:=(p,(x,none))∈K∧(x.kids=[]∨(∃ b' c,(p,(x,some (b',c)))∈K)∨(p,(x,none))∈todo)
structure WL (root:Nat×Nat) (e:Ex) (todo K:KL):Prop where
 rk:∃ rk:Nat→Nat,∀ b o x b' c,((b,o),(x,some (b',c)))∈K→rk b<rk b'
 uniq:∀ p q x y b' c c',(p,(x,some (b',c)))∈K→(q,(y,some (b',c')))∈K→p=q
 kids:∀ p x b' c,(p,(x,some (b',c)))∈K→∀ (j:Nat) kid,x.kids[j]?=some kid→Hand todo K (b',5*j) kid
 hroot:Hand todo K root e
 sub:∀ k∈todo,k∈K∧k.2.2=none
 nodup:(todo.map (·.1)).Nodup
 nolit:∀ k∈todo,∀ k'∈K,k'.1=k.1→k'.2.2=none
theorem iN {b:Nat}:∀ (o:Nat) (l:List Ex),∀ k∈bL b o l,k.2.2=none∧k.1.1=b∧o≤k.1.2
 | _,[]=>by simp[bL]
 | o,a::l=>by
  intro k hk;simp only[bL,zS]at hk
  rcases hk with rfl|hk
  ·exact⟨rfl,rfl,zP _⟩
  ·obtain⟨h1,h2,h3⟩:=iN (o+5) l k hk;exact⟨h1,h2,by omega⟩
theorem GZ {b:Nat}:∀ (o:Nat) (l:List Ex),((bL b o l).map (·.1)).Nodup
 | _,[]=>by simp[bL]
 | o,a::l=>by
  simp only[bL,yS,yU];refine⟨fun h=>?_,GZ (o+5) l⟩;obtain⟨k,hk,e⟩:=yK.1 h;have:=(iN (o+5) l k hk).2.2;rw[e]at this;simp at this;omega
theorem Q3 {b o:Nat} {x:Ex} {b' cap:Nat} {k:(Nat×Nat)×Nd} (h:k∈AEJ b o x b' cap):x.kids≠[]∧(k=((b,o),(x,some (b',cap)))∨k∈bL b' 0 x.kids):=by
 unfold AEJ at h;split at h
 ·cases h
 ·rename_i hx;exact⟨hx,zS.1 h⟩
theorem U8 {b o:Nat} {x:Ex} {b' cap:Nat} {k:(Nat×Nat)×Nd} (h:k∈bL b' 0 x.kids):k∈AEJ b o x b' cap:=by
 unfold AEJ;split
 ·rename_i hx;rw[hx]at h;simp[bL]at h
 ·exact zA7 _ h
theorem WL.start (b3:Nat) (e:Ex):WL (b3,0) e [((b3,0),(e,none))] [((b3,0),(e,none))]:=by
 refine⟨⟨fun _=>0,?_⟩,?_,?_,⟨by simp, .inr (.inr (by simp))⟩,by simp,by simp,?_⟩
 ·intro b o x b' c h;simp at h
 ·intro p q x y b' c c' h;simp at h
 ·intro p x b' c h;simp at h
 ·intro k hk k' hk' _;simp at hk';rw[hk']
theorem WL.step {root:Nat×Nat} {e x:Ex} {init K:KL} {b o b' cap:Nat} (h:WL root e (init++[((b,o),(x,none))]) K) (hf:x.kids≠[]→∀ k∈K,k.1.1≠b'∧∀ b2 c2,k.2.2=some (b2,c2)→b2≠b') :
 WL root e (init++bL b' 0 x.kids) (K++AEJ b o x b' cap):=by
 have hcur:((b,o),(x,none))∈K:=(h.sub _ (by simp)).1
 have litIn:∀ {p:Nat×Nat} {y:Ex} {f c:Nat},(p,(y,some (f,c)))∈K++AEJ b o x b' cap→(p,(y,some (f,c)))∈K∨(x.kids≠[]∧p=(b,o)∧y=x∧f=b'∧c=cap):=by
  intro p y f c hm
  rcases zV.1 hm with hm|hm
  ·exact .inl hm
  ·obtain⟨hx,hm⟩:=Q3 hm
   rcases hm with hm|hm
   ·injection hm with e1 e2;injection e2 with e2 e3;injection e3 with e3;injection e3 with e3 e4;exact .inr ⟨hx,e1,e2,e3,e4⟩
   ·have:=(iN 0 _ _ hm).1;cases this
 have up:∀ {p:Nat×Nat} {y:Ex},Hand (init++[((b,o),(x,none))]) K p y→Hand (init++bL b' 0 x.kids) (K++AEJ b o x b' cap) p y:=by
  rintro p y ⟨h1,h2⟩;refine⟨List.mem_append_left _ h1,?_⟩
  rcases h2 with h2|⟨f,c,h2⟩|h2
  ·exact .inl h2
  ·exact .inr (.inl ⟨f,c,yJ _ h2⟩)
  ·rcases zV.1 h2 with h2|h2
   ·exact .inr (.inr (yJ _ h2))
   ·simp only[xB,Prod.mk.injEq,and_true]at h2;obtain⟨rfl,rfl⟩:=h2;by_cases hx:y.kids=[]
    ·exact .inl hx
    ·exact .inr (.inl ⟨b',cap,zC2 _ (by unfold AEJ;rw[if_neg hx];simp)⟩)
 have hnd:=h.nodup;rw[yD,zH]at hnd;refine⟨?_,?_,?_,up h.hroot,?_,?_,?_⟩
 ·obtain⟨rk,hr⟩:=h.rk;refine⟨fun f=>if x.kids≠[]∧f=b' then rk b+1 else rk f,?_⟩;intro b1 o1 y f c hm
  rcases litIn hm with hm|⟨hx,e1,rfl,rfl,rfl⟩
  ·have hlt:=hr _ _ _ _ _ hm;have n1:¬ (x.kids≠[]∧b1=b'):=fun hh=>(hf hh.1 _ hm).1 hh.2
   have n2:¬ (x.kids≠[]∧f=b'):=fun hh=>(hf hh.1 _ hm).2 _ _ rfl hh.2
   simp only[if_neg n1,if_neg n2];exact hlt
  ·injection e1 with e1 e2;subst e1;subst e2;have n1:¬ (y.kids≠[]∧b1=f):=fun hh=>(hf hh.1 _ hcur).1 hh.2
   show(if y.kids≠[]∧b1=f then rk b1+1 else rk b1)<(if y.kids≠[]∧f=f then rk b1+1 else rk f);rw[if_neg n1,if_pos ⟨hx,rfl⟩];omega
 ·intro p q y z f c c' h1 h2
  rcases litIn h1 with g1|⟨hx,a1,a2,a3,a4⟩
  ·rcases litIn h2 with g2|⟨hx,a1,a2,a3,a4⟩
   ·exact h.uniq _ _ _ _ _ _ _ g1 g2
   ·exact absurd a3 ((hf hx _ g1).2 _ _ rfl)
  ·rcases litIn h2 with g2|⟨_,c1,_,_,_⟩
   ·exact absurd a3 ((hf hx _ g2).2 _ _ rfl)
   ·rw[a1,c1]
 ·intro p y f c hm j kid hk
  rcases litIn hm with hm|⟨hx,rfl,rfl,rfl,rfl⟩
  ·exact up (h.kids p y f c hm j kid hk)
  ·have hkm:=vP (b:=f) (o:=0) hk;rw[zF]at hkm;exact⟨List.mem_append_right _ (U8 hkm), .inr (.inr (zC2 _ hkm))⟩
 ·intro k hk
  rcases zV.1 hk with hk|hk
  ·obtain⟨h1,h2⟩:=h.sub k (by simp[hk]);exact⟨List.mem_append_left _ h1,h2⟩
  ·exact⟨List.mem_append_right _ (U8 hk),(iN 0 _ _ hk).1⟩
 ·rw[yD,zH];refine⟨hnd.1,GZ 0 _,fun p hp q hq e=>?_⟩;subst e;obtain⟨k1,h1,e1⟩:=yK.1 hp;obtain⟨k2,h2,e2⟩:=yK.1 hq;have hx:x.kids≠[]:=fun hx=>by rw[hx]at h2;simp[bL]at h2
  have:=(hf hx k1 (h.sub k1 (by simp[h1])).1).1;rw[e1,← e2,(iN 0 _ _ h2).2.1]at this;exact this rfl
 ·intro k hk k' hk' e1
  rcases zV.1 hk with hk|hk
  ·rcases zV.1 hk' with hk'|hk'
   ·exact h.nolit k (by simp[hk]) k' hk' e1
   ·obtain⟨hx,hm⟩:=Q3 hk'
    rcases hm with rfl|hm
    ·exact absurd e1.symm (hnd.2.2 k.1 (yK.2 ⟨k,hk,rfl⟩) (b,o) (by simp))
    ·exact(iN 0 _ _ hm).1
  ·have hx:x.kids≠[]:=fun hx=>by rw[hx]at hk;simp[bL]at hk
   have hkb:=(iN 0 _ _ hk).2.1
   rcases zV.1 hk' with hk'|hk'
   ·exact absurd (by rw[e1,hkb]) (hf hx k' hk').1
   ·obtain⟨_,hm⟩:=Q3 hk'
    rcases hm with rfl|hm
    ·refine absurd ?_ (hf hx _ hcur).1;have:=congrArg Prod.fst e1;rw[hkb]at this;exact this
    ·exact(iN 0 _ _ hm).1
inductive Und (K:KL) (p:Nat×Nat):Nat→Prop
 | base {x:Ex} {f c:Nat}:(p,(x,some (f,c)))∈K→Und K p f
 | step {b o:Nat} {x:Ex} {f c:Nat}:((b,o),(x,some (f,c)))∈K→Und K p b→Und K p f
section
variable {root:Nat×Nat} {e:Ex} {todo K:KL}
theorem WL.AF4 (h:WL root e todo K) {rk:Nat→Nat} (hr:∀ b o x b' c,((b,o),(x,some (b',c)))∈K→rk b<rk b') {p:Nat×Nat} {f:Nat} (hu:Und K p f):rk p.1<rk f:=by
 induction hu with
 | base hm=>exact hr _ p.2 _ _ _ hm
 | step hm _ ih=>exact Nat.lt_trans ih (hr _ _ _ _ _ hm)
theorem WL.sib (h:WL root e todo K) {p q:Nat×Nat} {f:Nat} (hp:Und K p f):Und K q f→p.1=q.1→p=q:=by
 obtain⟨rk,hr⟩:=h.rk
 induction hp with
 | base hm =>
  intro hq e1
  cases hq with
  | base hm2=>exact h.uniq _ _ _ _ _ _ _ hm hm2
  | step hm2 hq2 =>
   have:=h.uniq _ _ _ _ _ _ _ hm hm2;have lt:=h.AF4 hr hq2;rw[← e1,this]at lt;exact absurd lt (xN _)
 | step hm hp2 ih =>
  intro hq e1
  cases hq with
  | base hm2 =>
   have:=h.uniq _ _ _ _ _ _ _ hm hm2;have lt:=h.AF4 hr hp2;rw[e1,← this]at lt;exact absurd lt (xN _)
  | step hm2 hq2 =>
   have:=h.uniq _ _ _ _ _ _ _ hm hm2;injection this with e2 e3;subst e2;exact ih hq2 e1
theorem AKG {p:Nat×Nat} {x:Ex} {b' c j f:Nat} (hm:(p,(x,some (b',c)))∈K) (hu:Und K (b',j) f):Und K p f:=by
 induction hu with
 | base h2=>exact .step h2 (.base hm)
 | step h2 _ ih=>exact .step h2 ih
end
theorem AA4 (k c:Int) (v:Val) (l:List Ex):(Ex.mk k c v l).kids=l:=rfl
theorem AQF {w:World} {a:Ex} {u:Value} {F:List Nat} (h:TCells w [.isl (Ex.aB a.kids)] [u] F):TCells w a.cells [.int .i64 a.kind, .int .i64 a.col, .bool a.val.null, .int .i64 a.val.n,u] F:=by
 rw[Ex.aA];exact .lit rfl (.lit rfl (.lit rfl (.lit rfl h)))
theorem JW {w:World} {b:Nat} {us:List Value} {o:Nat} {v:Value} (hr:rowOf w b us) (h:w.cell? ⟨b,o,none⟩=some v):us[o]?=some v:=by
 obtain⟨T,e,_⟩:=hr;rw[aY e]at h;exact h
theorem AcS {us:List Value} {o:Nat} {v0 v1 v2 v3 v4:Value} (h0:us[o]?=some v0) (h1:us[o+1]?=some v1) (h2:us[o+2]?=some v2) (h3:us[o+3]?=some v3) (h4:us[o+4]?=some v4):us.drop o=[v0,v1,v2,v3,v4]++us.drop (o+5):=by
 have g:∀ {o:Nat} {v:Value},us[o]?=some v→us.drop o=v::us.drop (o+1):=by
  intro o v h;obtain⟨hl,rfl⟩:=zY.1 h;exact yE hl
 rw[g h0,g h1,g h2,g h3,g h4];rfl
section
variable {root:Nat×Nat} {e:Ex} {K:KL} {B:Nat} {w:World} {m:Mem} {φ:Pl}
theorem WL.tree (h:WL root e [] K) (hK:∀ k∈K,PF B w m φ k.1.1 k.1.2 k.2) (hm:kF w m):∀ (x:Ex) (p:Nat×Nat),Hand [] K p x →
 ∃ v F,ExAt m p.1 p.2 x v∧TCells w [.isl (Ex.aB x.kids)] [v] F∧F.Nodup∧∀ f∈F,Und K p f∧B≤f∧gK φ f:=by
 intro x
 induction x using Ex.ind with
 | h kd cl vl ks ih =>
  intro p hp;obtain⟨hp1,hp2⟩:=hp;have pf:=hK _ hp1;obtain⟨v,hx⟩:=F9 pf.cel;refine⟨v,?_⟩;simp only[AA4]at hp2 ⊢;have hkids:=hx.kids;rw[AA4]at hkids;by_cases hks:ks=[]
  ·subst hks;simp only[Ex.aB]at hkids ⊢;refine⟨[],hx,?_,by simp,by simp⟩
   cases hkids with
   | isl0 ao cap hc=>exact .isl0 hc .nil
   | isl hn=>exact absurd rfl hn
  ·obtain⟨b',cap,hl⟩:∃ b' c,(p,(Ex.mk kd cl vl ks,some (b',c)))∈K:=by
    rcases hp2 with h1|h1|h1
    ·exact absurd h1 hks
    ·exact h1
    ·cases h1
   obtain⟨l1,l2,l3,us,T,l4,l5,l6⟩:=(hK _ hl).lit b' cap rfl
   have hv:v=.slice (some ⟨b',0,none⟩) ks.length cap:=by
    have:=hx.c4;rw[l1]at this;injection this with this;exact this.symm
   subst hv
   have hrow:rowOf w b' us:=⟨T,l4,l6⟩
   have hlen:(Ex.aB ks).length=ks.length:=by simp
   have hne:Ex.aB ks≠[]:=fun hh=>by rw[hh]at hlen;simp at hlen;exact hks (zW.1 hlen.symm)
   have hcap:ks.length≤cap:=by
    rcases lG hkids with ⟨h1,_⟩|⟨_,b2,off,k2,cap2,h1,_,h2⟩
    ·exact absurd h1 hne
    ·injection h1 with _ _ h3;subst h3;rw[hlen]at h2;exact h2
   have list:∀ (l:List Ex) (j:Nat),(∀ a∈l,a∈ks)→(∀ i kid,l[i]?=some kid→Hand [] K (b',5*(j+i)) kid)→∃ F,TCells w (Ex.aB l).flatten ((us.drop (5*j)).take (5*l.length)) F∧F.Nodup∧∀ f∈F,(∃ i,Und K (b',5*(j+i)) f)∧B≤f∧gK φ f:=by
    intro l
    induction l with
    | nil=>intro j _ _;exact⟨[],by simpa [Ex.aB]using TCells.nil,by simp,by simp⟩
    | cons a l ihl =>
     intro j hin hh;have h0:=hh 0 a rfl;obtain⟨va,Fa,ha,ta,na,ua⟩:=ih a (hin a (by simp)) (b',5*(j+0)) h0;simp only[xQ]at ha ua
     obtain⟨Fl,tl,nl,ul⟩:=ihl (j+1) (fun x hx=>hin x (by simp[hx])) (fun i kid hi=>by
      have:=hh (i+1) kid (by simpa using hi)
      rwa [show j+(i+1)=j+1+i by omega]at this)
     have hr5:=AcS (JW hrow (hm _ _ _ ha.c0)) (JW hrow (hm _ _ _ ha.c1)) (JW hrow (hm _ _ _ ha.c2)) (JW hrow (hm _ _ _ ha.c3)) (JW hrow (hm _ _ _ ha.c4));refine⟨Fa++Fl,?_,?_,?_⟩
     ·rw[hr5,zQ,show 5*(l.length+1)=5+5*l.length by omega];rw[xO,zZ (by simp)];simp only[Ex.aB,yZ];have t2:=AQF ta;have e1:5+5*l.length-[Value.int .i64 a.kind, .int .i64 a.col, .bool a.val.null, .int .i64 a.val.n,va].length=5*l.length:=by simp
      rw[e1,show 5*j+5=5*(j+1)by omega];exact t2.append tl
     ·rw[zH];refine⟨na,nl,fun f hf g hg e1=>?_⟩;subst e1;obtain⟨i,hi⟩:=(ul f hg).1;have:=h.sib (ua f hf).1 hi rfl;injection this with _ this;omega
     ·intro f hf
      rcases zV.1 hf with hf|hf
      ·exact⟨⟨0,(ua f hf).1⟩,(ua f hf).2⟩
      ·obtain⟨⟨i,hi⟩,q⟩:=ul f hf;exact⟨⟨1+i,by rwa [show j+(1+i)=j+1+i by omega]⟩,q⟩
   obtain⟨F,t1,n1,u1⟩:=list ks 0 (fun _ h=>h) (fun i kid hi=>by
    have:=h.kids p _ b' cap hl i kid hi
    rwa [zF])
   simp only[Nat.mul_zero,List.drop_zero]at t1
   have hkw:∀ r∈Ex.aB ks,r.length=5:=by
    have wid:∀ (l:List Ex),∀ r∈Ex.aB l,r.length=5:=by
     intro l
     induction l with
     | nil=>simp[Ex.aB]
     | cons a l ihl =>
      intro r hr;simp only[Ex.aB,zS]at hr
      rcases hr with rfl|hr
      ·rw[Ex.aA];rfl
      ·exact ihl r hr
    exact wid ks
   refine⟨b'::F,hx,?_,?_,?_⟩
   ·have:=TCells.isl (w:=w) (b:=b') (k:=5) (cap:=cap) (us:=us) (G:=F) hne hrow (by omega) hkw l5 (by omega) (by rw[hlen];exact t1) .nil;rw[hlen]at this;simpa using this
   ·rw[yU];refine⟨fun hf=>?_,n1⟩;obtain⟨⟨i,hi⟩,_⟩:=u1 b' hf;obtain⟨rk,hr⟩:=h.rk;exact absurd (h.AF4 hr hi) (xN _)
   ·intro f hf
    rcases zS.1 hf with rfl|hf
    ·exact⟨.base hl,l2,l3⟩
    ·obtain⟨⟨i,hi⟩,q⟩:=u1 f hf;exact⟨AKG hl hi,q⟩
end
end Go.Av.V
namespace Go.Av.Mk
open Go Go.Av
set_option maxRecDepth 4000
def rowsOf (W:Nat):Nat→List Value→List (List IV)
 | 0,_=>[]
 | n+1,vs=>(vs.take W).map IV.lit::rowsOf W n (vs.drop W)
theorem fE (W:Nat):∀ (n:Nat) (vs:List Value),(rowsOf W n vs).length=n
 | 0,_=>rfl
 | n+1,vs=>by simp[rowsOf,fE W n]
theorem pQ (W:Nat):∀ (n:Nat) (vs:List Value),(rowsOf W n vs).flatten=(vs.take (W*n)).map IV.lit
 | 0,vs=>by simp[rowsOf]
 | n+1,vs=>by
  simp only[rowsOf,yZ,pQ W n];rw[← List.map_append,show W*(n+1)=W+W*n by rw[zB];omega,List.take_add]
theorem GD (W:Nat):∀ (n:Nat) (vs:List Value),W*n≤vs.length→∀ e∈rowsOf W n vs,e.length=W
 | 0,_,_=>by simp[rowsOf]
 | n+1,vs,h=>by
  intro e he;have hm:W*(n+1)=W*n+W:=by rw[zB];omega
  simp only[rowsOf,zS]at he
  rcases he with rfl|he
  ·simp;omega
  ·exact GD W n _ (by simp;omega) e he
theorem jR (W:Nat):∀ (n:Nat) (vs:List Value) (i:Nat),i<n→fU (rowsOf W n vs) i=some (((vs.drop (W*i)).take W).map IV.lit)
 | 0,_,_,h=>by omega
 | n+1,vs,0,_=>by simp[rowsOf,fU]
 | n+1,vs,i+1,h=>by
  simp only[rowsOf,fU];rw[jR W n _ i (by omega),xI,show W+W*i=W*(i+1)by rw[zB];omega]
theorem qF (W:Nat):∀ (n:Nat) (us vals:List Value) (i:Nat),i<n→W*n≤us.length→vals.length=W→(rowsOf W n us).set i (vals.map IV.lit)=rowsOf W n (us.take (W*i)++vals++us.drop (W*(i+1)))
 | 0,_,_,_,h,_,_=>by omega
 | n+1,us,vals,0,_,hu,hv=>by
  simp only[rowsOf,zB5,Nat.mul_zero,List.take_zero,yQ,zF,zC5];rw[zE4 hv,zA2 hv]
 | n+1,us,vals,i+1,h,hu,hv=>by
  have m1:W*(n+1)=W*n+W:=by rw[zB];omega
  have m2:W*(i+1)=W+W*i:=by rw[zB];omega
  have m3:W*(i+1+1)=W+W*(i+1):=by rw[zB W (i+1)];omega
  have m4:W*i≤W*n:=zC W (by omega);simp only[rowsOf,List.set_cons_succ];rw[qF W n _ vals i (by omega) (by simp;omega) hv]
  have e1:(us.take (W*(i+1))++vals++us.drop (W*(i+1+1))).take W=us.take W:=by
   rw[yY,xG (by simp;omega),zG,yN (by omega)]
  have e2:(us.take (W*(i+1))++vals++us.drop (W*(i+1+1))).drop W=(us.drop W).take (W*i)++vals++(us.drop W).drop (W*(i+1)):=by
   rw[yY,List.drop_append_of_le_length (by simp;omega),xY,xI,yY,m3];congr 2;congr 1;omega
  rw[e1,e2]
theorem AOL {m:Mem}:∀ (vs:List Value),(∀ v∈vs,v.oneCell'=true)→ICells m (vs.map IV.lit) vs
 | [],_=>.nil
 | v::vs,h=>.cons (.lit v) (h v (by simp)) (AOL vs fun u hu=>h u (by simp[hu]))
theorem AHD {m:Mem}:∀ {vs xs:List Value},ICells m (vs.map IV.lit) xs→xs=vs
 | [],_,h=>by cases h;rfl
 | v::vs,_,h=>by
  simp only[yS]at h
  cases h with
  | cons a o r=>cases a;rw[AHD r]
structure Fr (w w':World) (S:List Nat):Prop where
 size:w.heap.size≤w'.heap.size
 os:w'.os=w.os
 tape:Tp w w'
 output:w'.output=w.output
 same:∀ f,f<w.heap.size→f ∉ S→w'.heap[f]?=w.heap[f]?
theorem Fr.refl (w:World) (S:List Nat):Fr w w S:=⟨Nat.le_refl _,rfl, .refl _,rfl,fun _ _ _=>rfl⟩
theorem Fr.trans {w1 w2 w3:World} {S:List Nat} (a:Fr w1 w2 S) (b:Fr w2 w3 S):Fr w1 w3 S :=
 ⟨Nat.le_trans a.size b.size,b.os.trans a.os,b.tape.trans a.tape,b.output.trans a.output,fun f h1 h2=>(b.same f (zJ h1 a.size) h2).trans (a.same f h1 h2)⟩
theorem Fr.sub {w w':World} {S T:List Nat} (a:Fr w w' S) (h:∀ f∈S,f∈T):Fr w w' T :=
 ⟨a.size,a.os,a.tape,a.output,fun f h1 h2=>a.same f h1 fun h3=>h2 (h f h3)⟩
section
variable {C:Ctx} {nt:Nat}
theorem oN (hS:SoundOk C) {w0:World} {m0:Mem} {φ0:Pl} {G:List Nat} {na:Nat} (h0:∀ id,φ0 id≠none→id<na) {c:Code} {S S':AS} {e:AExit} {a:Act} {w:World} (hc:codeOk nt c=true) (hx:dR C G na c S=some (e,S')) (h:J5 [] w0 m0 φ0 nt na S a w) (hnr:bJ c=true:=by rfl) :
 c.wp C.P (fun e' a' w'=>e'=iF e∧J5 [] w0 m0 φ0 nt na S' a' w') a w:=by
 obtain⟨n,hn⟩:=(d9 _).1 hx;refine wpIn_wide.1 (wpIn_mono (bY (ρ:=none) hS.ctx (aS hS) (hS.draw _ (aS hS)) h0 n c S S' e [] a w hc (.inl rfl) hn h) ?_);rintro e' a' w' ⟨rfl,ds,k,kd⟩;have kd:=kd hnr;subst kd;exact⟨rfl,k⟩
end
theorem ACG {C:Ctx} {nt:Nat} (hS:SoundOk C) {id base:Nat} {ops:Array Oper} {os1:List Oper} {o1 o2:Oper} {w0:World} {m0:Mem} {φ0:Pl} {env:Nat→AV} {st:Store} {R1:RS} {a:Act} {w:World} {Q:Exit→Act→World→Prop} (hops:ops.toList=os1++[o1,o2]) (hs:∀ o∈ops,iM nt o=true)
 (hx:dH C (aI C) ops.toList false base os1 0 { env:=env,st:=st,log:=[] }=some R1) (h:ARel [] w0 m0 φ0 nt (fun id=>id<base) env st a w)
 (hfin:∀ a' w',ARel [] w0 m0 φ0 nt (fun _=>True) R1.env R1.st a' w'→wpOpIn (FR none) 0 C.P ops Q os1.length (wpOpIn (FR none) 0 C.P ops Q (os1.length+1) (fun a w=>Q .normal a w)) a' w'):(Code.region id ops false).wp C.P Q a w:=by
 refine jO ?_;have hsz:ops.size=os1.length+2:=by rw[← Array.length_toList,hops];simp
 have hget:∀ j,ops[j]?=(os1++[o1,o2])[j]?:=fun j=>by rw[← hops,xX]
 rw[zA6,hsz,show List.range' 0 (os1.length+2)=List.range' 0 os1.length++[os1.length,os1.length+1]by
  rw[← List.range'_append_1];simp[List.range'_succ]]
 refine iX (w0:=w0) (m0:=m0) (φ0:=φ0) hS.ctx (aS hS) hs os1 0 { env:=env,st:=st,log:=[] } R1 a w (fun j hj=>?_) hx ?_ fun a' w' h'=>?_
 ·rw[hget,zF,zK hj]
 ·obtain⟨⟨m,φ,k1,k2,k3,k4,k7⟩,k5,k6⟩:=h;exact⟨⟨m,φ,k1,k2,k3,fun id hne=>.inl (k4 id hne),k7⟩,k5,k6⟩
 ·obtain⟨⟨m,φ,k1,k2,k3,k4,k7⟩,k5,k6⟩:=h';have:=hfin a' w' ⟨⟨m,φ,k1,k2,k3,fun _ _=>trivial,k7⟩,k5,k6⟩;have hnil:wpOpsIn (FR none) 0 C.P ops Q []=fun a w=>Q .normal a w:=by funext a w;simp[wpOpsIn]
  have hone:wpOpsIn (FR none) 0 C.P ops Q [os1.length+1]=wpOpIn (FR none) 0 C.P ops Q (os1.length+1) (fun a w=>Q .normal a w):=by funext a w;rw[wpOpsIn_cons,hnil]
  rw[wpOpsIn_cons,hone];exact this
theorem ABG {P:Program} {ops:Array Oper} {Q:Exit→Act→World→Prop} {K:Act→World→Prop} {i d:Nat} {g:FuncId} {fn:Func} {args:Array Operand} {ts:Array TypeId} {ty:TypeId} {pos:String} {after:Array Edge} {a:Act} {w:World}
 (ho:ops[i]?=some ⟨some d, .call ⟨.value (.func g),args,ts⟩,ty,pos,after,none⟩) (g1:P.funcs[g]?=some fn) (g2:fn.name≠ "runtime.NumGoroutine") (g3:fn.body≠none)
 (hc:Calls P g (args.map a.eval) w fun e w'=>∃ y,e=.returned y∧K (a.put (some d) y) w'):wpOpIn (FR none) 0 P ops Q i K a w:=by
 unfold wpOpIn;rw[ho];simp only[Region.wanted,if_true];refine⟨fun _ _=>trivial,?_⟩;rw[Oper.semAt_eq _ _ _ (fun c e=>by cases e)]
 have hrun:(execOp a.eval ⟨some d, .call ⟨.value (.func g),args,ts⟩,ty,pos,after,none⟩).run P w=.ok (.enter g (args.map a.eval)) w:=by
  unfold execOp;have hev:a.eval (.func g)=.func (.func g) #[] #[]:=rfl
  simp[resolve,Deferred.ofValue,hev,invoke,callFunc,g1,g2,g3]
 rw[hrun];rw[Oper.uponIn_enter];refine⟨fun h=>(by cases h),QP (hc.mono ?_)⟩;rintro e w' ⟨y,rfl,k⟩;exact k
theorem WS {P:Program} {ops:Array Oper} {Q:Exit→Act→World→Prop} {K:Act→World→Prop} {i d:Nat} {x:Operand} {ty:TypeId} {pos:String} {after:Array Edge} {a:Act} {w:World}
 (ho:ops[i]?=some ⟨some d, .assign x,ty,pos,after,none⟩) (hK:K (a.put (some d) (a.eval x)) w):wpOpIn (FR none) 0 P ops Q i K a w:=by
 unfold wpOpIn;rw[ho];simp only[Region.wanted,if_true];refine⟨fun _ _=>trivial,?_⟩;rw[Oper.semAt_eq _ _ _ (fun c e=>by cases e)]
 have hrun:(execOp a.eval ⟨some d, .assign x,ty,pos,after,none⟩).run P w=.ok (.value (a.eval x)) w:=by
  unfold execOp;simp
 rw[hrun];simpa [Oper.uponIn]using hK
theorem PQ {a:Act} {d:Nat} {x:Value} (hd:d<a.tmps.size) (t:Nat):(a.put (some d) x).tmps.getD t undef=if t=d then x else a.tmps.getD t undef:=by
 simp only[Act.put];by_cases e:t=d
 ·subst e;simp[Array.getD,hd]
 ·rw[if_neg e];simp only[xV];rw[zB4 (Ne.symm e)]
def P1 (b N:Nat):Pl:=fun id=>if id=0 then some (b,one b N)else none
theorem oI (b N:Nat):∀ id,P1 b N id≠none→id<1:=fun id h=>by
 by_cases e:id=0
 ·omega
 ·simp[P1,e]at h
structure MG (W nt b N n:Nat) (us:List Value) (q:Int) (j5:AV) (a:Act) (w:World):Prop where
 row:rowOf w b us
 len:us.length=N
 fit:W*n≤N
 pos:0<n
 wpos:0<W
 t0:∃ cap,n≤cap∧W*cap≤N∧a.tmps.getD 0 undef=.slice (some ⟨b,0,none⟩) n cap
 t1:a.tmps.getD 1 undef=.int .i64 q
 t5:Rep (fun _ _=>none) (fun _=>none) j5 (a.tmps.getD 5 undef)
 size:nt≤a.tmps.size
 defers:a.defers=[]
def MS (W n:Nat) (R:List (List IV)) (q:Int) (j4 j5 j9:AV):AS :=
 { env:=[(0, .osl 0 W 0 n),(1, .int q),(4,j4),(5,j5),(9,j9)],st:=[some (.arr W R)] }
theorem MG.to {W nt b N n:Nat} {us:List Value} {q:Int} {j5:AV} {a:Act} {w:World} (h:MG W nt b N n us q j5 a w):J5 [] w (fun _ _=>none) (P1 b N) nt 1 (MS W n (rowsOf W n us) q .junk j5 .junk) a w:=by
 obtain⟨T,hrow,hone⟩:=h.row;refine⟨⟨⟨fun _ _=>none,P1 b N,⟨fun _ _ _ e=>(by cases e),?_,?_,?_⟩,?_, .refl _ _ _,oI b N,Marks.nil _ _ _⟩,h.size,h.defers⟩,zP _⟩
 ·intro id blk e
  cases id with
  | zero =>
   simp[MS,aR]at e;subst e;refine⟨b,Go.Av.one b N,rfl,⟨rfl,fun f hf=>?_⟩, .arr (T:=T) hrow h.len h.wpos (GD W n us (by have:=h.len;have:=h.fit;omega)) ?_ (by rw[fE];exact h.fit) (fun _=>rfl) (fun _ hf=>hf) hone⟩
   ·have hf:f=b:=hf;subst hf;exact(zL.1 hrow).1
   ·rw[pQ,fE];exact AOL _ fun v hv=>hone v (z8 hv)
  | succ id=>simp[MS,aR]at e
 ·intro i j b b' n n' b1 b2 f h1 h2 _ _ _ _
  cases i with
  | succ i=>simp[MS,aR]at h1
  | zero=>cases j with
   | zero=>rfl
   | succ j=>simp[MS,aR]at h2
 ·intro id b' n' f e ho;by_cases hid:id=0
  ·subst hid;simp only[P1,if_true]at e;injection e with e;injection e with e1 e2;subst e1;subst e2;have ho:f=b:=ho;subst ho;exact(zL.1 hrow).1
  ·simp[P1,hid]at e
 ·intro t;simp only[MS,aN];by_cases h0:t=0
  ·subst h0;obtain⟨cap,c1,c2,c3⟩:=h.t0;rw[c3];exact .osl (n:=Go.Av.one b N) rfl c1 (by simp;exact c2) (fun _=>by simp) (fun h=>by cases h)
  by_cases h1:t=1
  ·subst h1;rw[h.t1];exact .i (.lit _)
  by_cases h5:t=5
  ·subst h5;exact h.t5.mono (.refl _) (fun _ _ _ e=>by cases e)
  simp[h0,h1,h5];exact .junk _
theorem MG.of {W nt b N n:Nat} {us vs:List Value} {q q' i':Int} {j5:AV} {a a':Act} {w w0 w':World} (h:MG W nt b N n us q j5 a w) {env:Nat→AV} {st:Store} {ok:Nat→Prop} (hS:ARel [] w0 (fun _ _=>none) (P1 b N) nt ok env st a' w') (h0:env 0=.osl 0 W 0 n) (h1:env 1=.int q') (h5:env 5=.int i') (hst:st 0=some (.arr W (rowsOf W n vs))) :
 ∃ us',MG W nt b N n us' q' (.int i') a' w'∧us'.take (W*n)=vs.take (W*n)∧Fr w0 w' [b]:=by
 obtain⟨⟨m,φ,hi,henv,hadv,hok,_⟩,hsz,hdf⟩:=hS;obtain⟨n',e0,el,eo⟩:=hadv.ple 0 b (Go.Av.one b N) rfl;obtain⟨_,hok2⟩:=bZ hi e0 hst;have t0:=henv 0;rw[h0]at t0;have t1:=henv 1;rw[h1]at t1;have t5:=henv 5;rw[h5]at t5;have hpos:=h.pos
 have fr:Fr w0 w' [b]:=by
  refine⟨hadv.size,hadv.os,hadv.tape,hadv.output,fun f hf hne=>hadv.block f hf ?_⟩;intro id r x e ho;by_cases hid:id=0
  ·subst hid;simp only[P1,if_true]at e;injection e with e;injection e with e1 e2;subst e2;have ho:f=b:=ho;exact hne (by simp[ho])
  ·simp[P1,hid]at e
 cases hok2 with
 | @arr T k es xs hh hl hk hw hc hfit hm hown hone =>
  rw[pQ,fE]at hc;have hx:=AHD hc;rw[fE]at hfit;refine⟨xs,⟨⟨T,hh,hone⟩,by rw[hl,el];rfl,h.fit,hpos,h.wpos,?_,?_,?_,hsz,hdf⟩,hx,fr⟩
  ·generalize a'.tmps.getD 0 undef=x0 at t0
   cases t0 with
   | @osl _ _ _ _ cap b2 n2 ao e2 c1 c2 c3 c4 =>
    rw[e0]at e2;injection e2 with e2;injection e2 with e3 e4;subst e3;subst e4
    rw[c3 (by omega)];exact⟨cap,c1,by rw[el]at c2;simpa using c2,by simp⟩
  ·generalize a'.tmps.getD 1 undef=x1 at t1
   cases t1 with|i r=>cases r;rfl
  ·generalize a'.tmps.getD 5 undef=x5 at t5
   cases t5 with|i r=>cases r;exact .i (.lit _)
theorem tlt {w:World}:∀ {cs:List IV} {vs:List Value} {F:List Nat},TCells w cs vs F→∀ f∈F,f<w.heap.size
 | _,_,_, .nil=>by simp
 | _,_,_, .lit _ r=>(tlt r)
 | _,_,_, .isl0 _ r=>(tlt r)
 | _,_,_, .isl _ ⟨T,hr,_⟩ _ _ _ _ g r=>by
  intro f hf;simp only[yX,zS,zV]at hf
  rcases hf with rfl|hf|hf
  ·exact(zL.1 hr).1
  ·exact tlt g f hf
  ·exact tlt r f hf
section
variable {X:Type} (cells:X→List IV) (mk:Int→X→X) (sz:X→Nat)
def dY:Int→List X→List X
 | _,[]=>[]
 | k,x::l=>mk k x::dY (k+sz x) l
def bM:List X→Nat
 | []=>0
 | x::l=>sz x+bM l
theorem dG:∀ (l:List X) (k:Int),(dY mk sz k l).length=l.length
 | [],_=>rfl
 | x::l,k=>by simp[dY,dG l]
theorem uG:∀ (l:List X) (k:Int) {i:Nat} {x:X},l[i]?=some x→(dY mk sz k l)[i]?=some (mk (k+(bM sz (l.take i):Nat)) x)
 | [],_,i,x,h=>by simp at h
 | y::l,k,0,x,h=>by simp at h;subst h;simp[dY,bM]
 | y::l,k,i+1,x,h=>by
  have:=uG l (k+sz y) (i:=i) (x:=x) (by simpa using h);simp only[dY,xE,yL,bM];rw[this];congr 2;push_cast;omega
theorem rP:∀ (l:List X) {i:Nat} {x:X},l[i]?=some x→bM sz (l.take (i+1))=bM sz (l.take i)+sz x
 | [],i,x,h=>by simp at h
 | y::l,0,x,h=>by simp at h;subst h;simp[bM]
 | y::l,i+1,x,h=>by have:=rP l (i:=i) (x:=x) (by simpa using h);simp only[yL,bM]at this ⊢;omega
theorem vI:∀ (l:List X) (i:Nat),bM sz (l.take i)≤bM sz l
 | [],i=>by simp[bM]
 | x::l,0=>by simp[bM]
 | x::l,i+1=>by have:=vI l i;simp only[yL,bM];omega
def AJR (k:Int) (l:List X) (i:Nat):List X:=(dY mk sz k l).take i++l.drop i
theorem AH0 (k:Int) (l:List X):AJR mk sz k l 0=l:=by simp[AJR]
theorem ALU (k:Int) (l:List X):AJR mk sz k l l.length=dY mk sz k l:=by
 unfold AJR;rw[zZ (by rw[dG];omega)];simp
theorem ACO {k:Int} {l:List X} {i:Nat} {x:X} (h:l[i]?=some x):AJR mk sz k l i=(dY mk sz k l).take i++(x::l.drop (i+1)):=by
 have hi:=(zY.1 h).1;unfold AJR;rw[yE hi];have:l[i]=x:=by have:=zX hi;rw[h]at this;injection this with this;exact this.symm
 rw[this]
theorem AH1 {k:Int} {l:List X} {i:Nat} {x:X} (h:l[i]?=some x):AJR mk sz k l (i+1)=(dY mk sz k l).take i++(mk (k+(bM sz (l.take i):Nat)) x::l.drop (i+1)):=by
 unfold AJR;rw[aL (uG mk sz l k h)];simp
theorem LU {W:Nat} (hW:∀ x,(cells x).length=W):∀ l:List X,(l.map cells).flatten.length=W*l.length
 | []=>by simp
 | x::l=>by simp only[yS,yZ,zN,LU hW l,hW,zQ,zB];omega
end
structure MLoop (C:Ctx) (g:FuncId) (W nt:Nat) (G:List Nat) (fn:Func) (c0 c1 cc body c3 cend:Code):Prop where
 func:C.P.funcs[g]?=some fn
 code:fn.body=some (c0.seq ((c1.seq (.block 0 (.loop (cc.seq ((Code.block 1 body).seq c3))))).seq cend))
 ntmps:fn.ntmps=nt
 big:6≤nt
 results:fn.results.toList=[ResultVar.tmp 4]
 ok0:codeOk nt c0=true∧bJ c0=true
 ok1:codeOk nt c1=true∧bJ c1=true
 okc:codeOk nt cc=true∧bJ cc=true
 ok3:codeOk nt c3=true∧bJ c3=true
 oke:codeOk nt cend=true∧bJ cend=true
 x0:∀ n R q,dR C G 1 c0 (MS W n R q .junk .junk .junk)=some (.normal,MS W n R q (.int 0) .junk .junk)
 x1:∀ n R q,dR C G 1 c1 (MS W n R q (.int 0) .junk .junk)=some (.normal,MS W n R q (.int 0) (.int 0) .junk)
 xc:∀ (n i:Nat) R q,i<n→dR C G 1 cc (MS W n R q .junk (.int i) .junk)=some (.normal,MS W n R q .junk (.int i) (.bool true))
 xo:∀ (n:Nat) R q,dR C G 1 cc (MS W n R q .junk (.int n) .junk)=some (.exit 0,MS W n R q .junk (.int n) (.bool false))
 x3:∀ (n i:Nat) R q,i<1000000000000→dR C G 1 c3 (MS W n R q .junk (.int i) .junk)=some (.normal,MS W n R q .junk (.int (i+1)) .junk)
 xe:∀ (n:Nat) R q,dR C G 1 cend (MS W n R q .junk (.int n) (.bool false))=some (.ret,MS W n R q (.int q) (.int n) (.bool false))
 xf:∀ (n:Nat) R (q:Int),finish C false [ResultVar.tmp 4] 1 (MS W n R q (.int q) (.int n) (.bool false))=some (.int q,[some (.arr W R)])
 nil:∀ k:Int,aI C g [.i (.isl []), .int k] []=some (.int k,[])
def WB (C:Ctx) {X:Type} (cells:X→List IV) (mk:Int→X→X) (sz:X→Nat) (W nt:Nat) (body:Code) (x:X):Prop :=
 ∀ (b N n i:Nat) (us vs:List Value) (q:Int) (F:List Nat) (a:Act) (w:World),i<n→MG W nt b N n us q (.int i) a w→(us.drop (W*i)).take W=vs→TCells w (cells x) vs F→F.Nodup→b ∉ F→0≤q→q+sz x<1000000000000 →
   body.wp C.P (fun e a' w'=>e=.normal∧∃ us' vs',MG W nt b N n us' (q+sz x) (.int i) a' w'∧us'.take (W*n)=us.take (W*i)++vs'++(us.take (W*n)).drop (W*(i+1))∧TCells w' (cells (mk q x)) vs' F∧Fr w w' (b::F)) a w
def ANL {X:Type} (cells:X→List IV) (mk:Int→X→X) (sz:X→Nat) (w:World) (v:Value) (F:List Nat) (k:Int) (l:List X) (en:Ending) (w':World):Prop :=
 en=.returned (.int .i64 (k+(bM sz l:Nat)))∧Fr w w' F∧TCells w' [.isl ((dY mk sz k l).map cells)] [v] F∧∀ b0 cap us0,v=.slice (some ⟨b0,0,none⟩) l.length cap→l≠[]→rowOf w b0 us0→∃ us1,rowOf w' b0 us1∧us1.length=us0.length
theorem Q5 {C:Ctx} (hS:SoundOk C) {X:Type} {cells:X→List IV} {mk:Int→X→X} {sz:X→Nat} {g:FuncId} {W nt:Nat} {G:List Nat} {fn:Func} {c0 c1 cc body c3 cend:Code} (hg:g≠lU) (L:MLoop C g W nt G fn c0 c1 cc body c3 cend) (hW:∀ x,(cells x).length=W) (hW0:0<W)
 {l:List X} (hR:∀ x∈l,WB C cells mk sz W nt body x) {w:World} {v:Value} {F:List Nat} {k:Int} (hT:TCells w [.isl (l.map cells)] [v] F) (hnd:F.Nodup) (hk0:0≤k) (hk1:k+(bM sz l:Nat)<1000000000000) (hl12:l.length<1000000000000) :
 Calls C.P g #[v, .int .i64 k] w (ANL cells mk sz w v F k l):=by
 generalize hces:l.map cells=ces at hT
 cases hT with
 | @isl0 ao cap _ _ F1 hc hr =>
  cases hr
  have hl:l=[]:=by simpa using hces
  subst hl;refine((aS hS).calls _ _ _ _ _ hg (L.nil k) w (dD w) (fun _=>none) [.slice ao 0 cap, .int .i64 k] (inv0 w) (.cons (.i (.isl0 ao cap hc)) (.cons (.i (.lit _)) .nil)) (fun id h=>absurd rfl h)).mono ?_;rintro en w' ⟨y,m',φ',rfl,j1,j2,j3,j4⟩;have hy:y=.int .i64 k:=by cases j1 with|i r=>cases r;rfl
  subst hy;refine⟨by simp[bM],⟨j3.size,j3.os,j3.tape,j3.output,fun f hf _=>j3.block f hf fun id b n e=>by cases e⟩,?_,fun _ _ _ _ h _=>absurd rfl h⟩;simp only[dY,zC3];exact .isl0 hc .nil
 | @isl b kk cap _ us G1 _ _ F1 hne hrow hkk hw hf hcp hg1 hr =>
  cases hr
  subst hces;have hlne:l≠[]:=fun h=>by subst h;exact hne rfl
  obtain rfl:kk=W:=by
   cases l with
   | nil=>exact absurd rfl hlne
   | cons x l=>rw[← hw (cells x) (by simp),hW]
  simp only[zA]at hnd ⊢;have hbG:=(yU.1 hnd).1;have hGn:=(yU.1 hnd).2;rw[zA3]at hcp hg1 ⊢;generalize hn:l.length=n at hcp hg1 ⊢;have hnpos:0<n:=by rw[← hn];exact xK.2 hlne
  generalize hN:us.length=N at hf;have hfitN:kk*n≤N:=xR (zC kk hcp) hf;refine calls_of_wp (fn:=fn) L.func L.code ?_
  have g0:MG kk nt b N n us k .junk { tmps:=#[Value.slice (some ⟨b,0,none⟩) n cap, .int .i64 k]++Array.replicate (nt-2) undef,defers:=[] } w :=
   ⟨hrow,hN,hfitN,hnpos,hW0,⟨cap,hcp,hf,by simp[Array.getElem?_append]⟩,by simp[Array.getElem?_append], .junk _,by simp;have:=L.big;omega,rfl⟩
  have r0:=g0.to;refine wp_seq (wp_mono (oN hS (oI b N) (G:=G) (nt:=nt) L.ok0.1 (L.x0 n (rowsOf kk n us) k) (by rw[L.ntmps];exact r0) L.ok0.2) ?_);rintro _ x1 y1 ⟨rfl,r1⟩;refine wp_seq (wp_seq (wp_mono (oN hS (oI b N) (G:=G) (nt:=nt) L.ok1.1 (L.x1 n (rowsOf kk n us) k) r1 L.ok1.2) ?_));rintro _ x2 y2 ⟨rfl,r2⟩;obtain⟨us2,g2,e2,f2⟩:=g0.of (q':=k) (i':=0) r2.1 rfl rfl rfl rfl;clear r0 r1 r2;refine wp_block ?_
  refine tQ (fun m a w'=>∃ i us',m=n-i∧i≤n∧MG kk nt b N n us' (k+(bM sz (l.take i):Nat)) (.int i) a w'∧Fr w w' (b::G1)∧TCells w' ((AJR mk sz k l i).map cells).flatten (us'.take (kk*n)) G1) ?_ (n:=n) ⟨0,us2,by omega,by omega,by simpa [bM]using g2,f2.sub (by simp),by
   rw[AH0,e2];refine hg1.mono fun f hf'=>?_
   have hlt:f<w.heap.size:=tlt hg1 f hf'
   exact f2.same f hlt (by simp;intro h;subst h;exact hbG hf')⟩
  rintro m a w' ⟨i,us',rfl,hin',g,fr,ht⟩;have rr:=g.to
  have keepG:∀ {w1 w2:World} {cs:List IV} {vs:List Value} {F:List Nat},(∀ f∈F,f∈G1)→Fr w1 w2 [b]→TCells w1 cs vs F→TCells w2 cs vs F:=by
   intro w1 w2 cs vs F hF hfr h;refine h.mono fun f hf'=>hfr.same f (tlt h f hf') ?_
   simp;intro e;subst e;exact hbG (hF f hf')
  by_cases hi:i=n
  ·subst hi;have hTl:l.take i=l:=zZ (by omega);rw[hTl]at g rr;generalize hq:k+(bM sz l:Nat)=q at g rr;refine wp_seq (wp_mono (oN hS (oI b N) (G:=G) (nt:=nt) L.okc.1 (L.xo i (rowsOf kk i us') q) rr L.okc.2) ?_);rintro _ x3 y3 ⟨rfl,r3⟩;simp only[iF,Exit.then,Exit.inBlock,if_true];refine wp_mono (oN hS (oI b N) (G:=G) (nt:=nt) L.oke.1 (L.xe i (rowsOf kk i us') q) r3 L.oke.2) ?_;rintro _ x4 y4 ⟨rfl,r4⟩;obtain⟨v4,k1,k2⟩:=eU (C:=C) (fn:=fn) (keep:=false) (na:=1) (oI b N) r4 (by rw[L.results];exact L.xf i (rowsOf kk i us') q);obtain⟨us4,g4,e4,f4⟩:=g.of (q':=q) (i':=i) r4.1 rfl rfl rfl rfl;obtain⟨y,m',φ',hy,j1,_⟩:=k2;injection hy with hy;subst hy;have hv4:v4=.int .i64 q:=by cases j1 with|i r=>cases r;rfl
   subst hv4;refine⟨g4.defers,_,k1,by rw[hq],fr.trans (f4.sub (by simp)),?_⟩;have hml:=dG mk sz l k;have hcl:((dY mk sz k l).map cells).length=i:=by rw[zA3,hml,hn]
   have hne':(dY mk sz k l).map cells≠[]:=fun h=>by rw[h]at hcl;simp at hcl;omega
   have:=TCells.isl (w:=y4) (b:=b) (k:=kk) (cap:=cap) (es:=(dY mk sz k l).map cells) (us:=us4) (G:=G1) (cs:=[]) (vs:=[]) (F:=[]) hne' g4.row hkk ?_ (by rw[g4.len];exact hf) (by omega) ?_ .nil
   ·refine⟨by rw[hcl]at this;simpa using this,?_⟩;rintro b0 cap0 us0 hv0 _ ⟨T0,hr0,_⟩;injection hv0 with hv0;injection hv0 with hv0;injection hv0 with hv0;subst hv0;obtain⟨T,hrow',_⟩:=hrow;rw[hrow']at hr0;injection hr0 with hr0;injection hr0 with hr0;have:us=us0:=by simpa using congrArg Array.toList hr0
    subst this;exact⟨us4,g4.row,by rw[g4.len,hN]⟩
   ·intro e he;obtain⟨x,_,rfl⟩:=yK.1 he;exact hW x
   ·rw[hcl,e4];rw[show AJR mk sz k l i=dY mk sz k l by rw[← hn];exact ALU mk sz k l]at ht;exact keepG (fun f h=>h) f4 ht
  ·have hin:i<n:=by omega
   have h3:=zX (l:=l) (i:=i) (by omega);have hm3:=zU h3;generalize l[i]'(by omega)=x at h3 hm3;have hml:=dG mk sz l k;rw[ACO mk sz h3,yD,zB3]at ht;simp only[yS,yZ]at ht;have hA:(((dY mk sz k l).take i).map cells).flatten.length=kk*i:=by rw[LU cells hW];simp;rw[yN (by omega)]
   have hB:(cells x).length=kk:=hW x;obtain⟨Ga,Gr,hG1,t1,t23⟩:=ht.split (kk*i);rw[zE4 hA]at t1;rw[zA2 hA]at t23;obtain⟨Gx,Gb,hG2,t2,t3⟩:=t23.split kk;rw[zE4 hB]at t2;rw[zA2 hB]at t3;have hlen':=g.len;have hfit':=g.fit;have hstep:kk*(i+1)=kk*i+kk:=by rw[zB];omega
   have hle1:kk*(i+1)≤kk*n:=zC kk (by omega)
   have hrowi:(us'.drop (kk*i)).take kk=((us'.take (kk*n)).drop (kk*i)).take kk:=by
    rw[xY,zG,yN (by omega)]
   have hzs:=rP sz l h3;have hmono:=vI sz l (i+1);generalize hq:k+((bM sz (l.take i):Nat):Int)=q at g rr;refine wp_seq (wp_mono (oN hS (oI b N) (G:=G) (nt:=nt) L.okc.1 (L.xc n i (rowsOf kk n us') q hin) rr L.okc.2) ?_);rintro _ x0 y0 ⟨rfl,r0⟩;obtain⟨us0,g0,e0,f0⟩:=g.of (q':=q) (i':=i) r0.1 rfl rfl rfl rfl;have sx:∀ f∈Gx,f∈G1:=fun f hf'=>by rw[hG1,hG2];simp[hf']
   have sa:∀ f∈Ga,f∈G1:=fun f hf'=>by rw[hG1];simp[hf']
   have sb:∀ f∈Gb,f∈G1:=fun f hf'=>by rw[hG1,hG2];simp[hf']
   have hn2:(Ga++(Gx++Gb)).Nodup:=by rw[← hG2,← hG1];exact hGn
   have nd1:=zH.1 hn2;have nd2:=zH.1 nd1.2.1
   have hrow0:(us0.drop (kk*i)).take kk=((us'.take (kk*n)).drop (kk*i)).take kk:=by
    rw[← e0,xY,zG,yN (by omega)]
   simp only[iF,Exit.then,Exit.inBlock];refine wp_seq ?_;refine wp_block ?_;refine wp_mono (hR x hm3 b N n i us0 _ q Gx x0 y0 hin g0 hrow0 (keepG sx f0 t2) nd2.1 (fun h=>hbG (sx b h)) (by omega) (by omega)) ?_;rintro _ x5 y5 ⟨rfl,us5,vs5,g5,e5,t5,f5⟩;simp only[Exit.then,Exit.inBlock];have r5:=g5.to;refine wp_mono (oN hS (oI b N) (G:=G) (nt:=nt) L.ok3.1 (L.x3 n i (rowsOf kk n us5) (q+sz x) (by omega)) r5 L.ok3.2) ?_;rintro _ x6 y6 ⟨rfl,r6⟩;obtain⟨us6,g6,e6,f6⟩:=g5.of (q':=q+sz x) (i':=i+1) r6.1 rfl rfl rfl rfl;simp only[iF,Exit.then,Exit.inBlock];have hnx:k+((bM sz (l.take (i+1)):Nat):Int)=q+sz x:=by rw[hzs];push_cast;omega
   refine⟨n-(i+1),by omega,i+1,us6,rfl,by omega,?_,?_,?_⟩
   ·rw[hnx];exact g6
   ·exact((fr.trans (f0.sub (by simp))).trans (f5.sub fun f hf'=>by
     rcases zS.1 hf' with rfl|hf'
     ·simp
     ·simp[sx f hf'])).trans (f6.sub (by simp))
   ·rw[AH1 mk sz h3,yD,zB3,hq];simp only[yS,yZ]
    have hvs:us6.take (kk*n)=(us'.take (kk*n)).take (kk*i)++(vs5++((us'.take (kk*n)).drop (kk*i)).drop kk):=by
     rw[e6,e5,e0,yY,xI,← hstep,zG,yN (by omega)];congr 1;have:=congrArg (List.take (kk*i)) e0;rw[zG,zG,yN (by omega)]at this;exact this
    rw[hvs]
    have bx:∀ f∈Ga++Gb,f ∉ Gx:=fun f hf' hx=>by
     rcases zV.1 hf' with h|h
     ·exact nd1.2.2 f h f (by simp[hx]) rfl
     ·exact nd2.2.2 f hx f h rfl
    have m1:TCells y6 (((dY mk sz k l).take i).map cells).flatten ((us'.take (kk*n)).take (kk*i)) Ga:=by
     have h1:=keepG sa f0 t1
     have h2:=h1.mono (w':=y5) fun f hf'=>f5.same f (tlt h1 f hf') fun hh=>by
      rcases zS.1 hh with rfl|hh
      ·exact hbG (sa _ hf')
      ·exact bx f (by simp[hf']) hh
     exact keepG sa f6 h2
    have m3:TCells y6 ((l.drop (i+1)).map cells).flatten (((us'.take (kk*n)).drop (kk*i)).drop kk) Gb:=by
     have h1:=keepG sb f0 t3
     have h2:=h1.mono (w':=y5) fun f hf'=>f5.same f (tlt h1 f hf') fun hh=>by
      rcases zS.1 hh with rfl|hh
      ·exact hbG (sb _ hf')
      ·exact bx f (by simp[hf']) hh
     exact keepG sb f6 h2
    rw[hG1,hG2];exact m1.append ((keepG sx f6 t5).append m3)
theorem DU {C:Ctx} (hS:SoundOk C) {W nt b N n i:Nat} {us:List Value} {q:Int} {a:Act} {w:World} (g:MG W nt b N n us q (.int i) a w) {id base:Nat} {ops:Array Oper} {os1:List Oper} {R1:RS} {ts tk td:Nat} {h:FuncId} {fn:Func} {tys:Array TypeId} {ty ty':TypeId} {pos pos':String} {after after':Array Edge} {u:Value} {s:Nat} {Fu:List Nat} {K:World→World→Prop}
 (hops:ops.toList=os1++[⟨some td, .call ⟨.value (.func h),#[.tmp ts, .tmp tk],tys⟩,ty,pos,after,none⟩,⟨some 1, .assign (.tmp td),ty',pos',after',none⟩]) (hs:ops.all (iM nt)=true) (hb:1≤base)
 (hx:dH C (aI C) ops.toList false base os1 0 ⟨aN (MS W n (rowsOf W n us) q .junk (.int i) .junk).env,aR (MS W n (rowsOf W n us) q .junk (.int i) .junk).st,[]⟩=some R1)
 (e0:R1.env 0=.osl 0 W 0 n) (e1:R1.env 1=.int q) (e5:R1.env 5=.int i) (es:R1.env ts=.i (.lit u)) (ek:R1.env tk=.int q) (est:R1.st 0=some (.arr W (rowsOf W n us)))
 (d0:td≠0) (d1:td≠1) (d5:td≠5) (dn:td<nt) (d2:6≤nt)
 (g1:C.P.funcs[h]?=some fn) (g2:fn.name≠ "runtime.NumGoroutine") (g3:fn.body≠none)
 (hc:∀ w1,Fr w w1 [b]→Calls C.P h #[u, .int .i64 q] w1 (fun en w2=>en=.returned (.int .i64 (q+s))∧Fr w1 w2 Fu∧K w1 w2)) (hbF:b ∉ Fu) :
 (Code.region id ops false).wp C.P (fun e a' w'=>e=.normal∧∃ us',MG W nt b N n us' (q+s) (.int i) a' w'∧us'.take (W*n)=us.take (W*n)∧∃ w1,Fr w w1 [b]∧Fr w1 w' Fu∧K w1 w') a w:=by
 have r8:=g.to
 have hlen:∀ {C:Prop},ops.toList.length=os1.length+2→(ops.toList[os1.length]?=some ⟨some td, .call ⟨.value (.func h),#[.tmp ts, .tmp tk],tys⟩,ty,pos,after,none⟩→ops.toList[os1.length+1]?=some ⟨some 1, .assign (.tmp td),ty',pos',after',none⟩→C)→C:=by
  intro C _ k;refine k ?_ ?_<;>rw[hops]<;>simp
 refine ACG hS hops (fun o ho=>yB.1 hs o ho) hx ⟨⟨r8.1.out.choose,r8.1.out.choose_spec.choose,r8.1.out.choose_spec.choose_spec.1,r8.1.out.choose_spec.choose_spec.2.1,r8.1.out.choose_spec.choose_spec.2.2.1,fun id hne=>zJ (by simpa [MS]using r8.1.out.choose_spec.choose_spec.2.2.2.1 id hne) hb,r8.1.out.choose_spec.choose_spec.2.2.2.2⟩,r8.1.size,r8.1.defers⟩ ?_;intro x9 y9 r9;refine hlen (by rw[hops];simp) fun ho1 ho2=>?_
 rw[xX]at ho1 ho2
 have v48:x9.tmps.getD ts undef=u:=by
  obtain⟨⟨m,φ,_,henv,_⟩,_⟩:=r9;have h48:=henv ts;rw[es]at h48;exact h48.bX
 have v49:x9.tmps.getD tk undef=.int .i64 q:=by
  obtain⟨⟨m,φ,_,henv,_⟩,_⟩:=r9;have h49:=henv tk;rw[ek]at h49;exact h49.bX
 obtain⟨us9,g9,e9,f9⟩:=g.of (q':=q) (i':=i) r9 e0 e1 e5 est;refine ABG (fn:=fn) (g:=h) ho1 g1 g2 g3 ?_
 have hargs:(#[Operand.tmp ts,Operand.tmp tk].map x9.eval)=#[u, .int .i64 q]:=by
  have e1:(#[Operand.tmp ts,Operand.tmp tk].map x9.eval)=#[x9.eval (.tmp ts),x9.eval (.tmp tk)]:=by simp
  rw[e1];show #[x9.tmps.getD ts undef,x9.tmps.getD tk undef]=_
  rw[v48,v49]
 rw[hargs];refine(hc y9 f9).mono ?_;rintro en y10 ⟨rfl,f10,hK⟩;refine⟨_,rfl,?_⟩;refine WS ho2 ?_;have hs9:nt≤x9.tmps.size:=g9.size
 have hev:(x9.put (some td) (.int .i64 (q+s))).eval (.tmp td)=.int .i64 (q+s):=by
  show(x9.put (some td) _).tmps.getD td undef=_;rw[PQ (by omega),if_pos rfl]
 rw[hev];generalize hx11:((x9.put (some td) (.int .i64 (q+s))).put (some 1) (.int .i64 (q+s)))=x11;have hsz10:nt≤(x9.put (some td) (.int .i64 (q+s))).tmps.size:=by rw[nA];exact hs9
 have get11:∀ t,t≠1→t≠td→x11.tmps.getD t undef=x9.tmps.getD t undef:=fun t h1 h2=>by
  rw[← hx11,PQ (by omega),if_neg h1,PQ (by omega),if_neg h2]
 have hbs:b<y9.heap.size:=by obtain⟨T,hh,_⟩:=g9.row;exact(zL.1 hh).1
 refine⟨rfl,us9,⟨?_,g9.len,g9.fit,g9.pos,g9.wpos,?_,?_,?_,?_,?_⟩,e9,y9,f9,f10,hK⟩
 ·obtain⟨T,hh,ho⟩:=g9.row;exact⟨T,(f10.same b hbs hbF).trans hh,ho⟩
 ·rw[get11 0 (by omega) (Ne.symm d0)];exact g9.t0
 ·rw[← hx11,PQ (by omega),if_pos rfl]
 ·rw[get11 5 (by omega) (Ne.symm d5)];exact g9.t5
 ·rw[← hx11,nA,nA];exact hs9
 ·rw[← hx11,iL,iL];exact g9.defers
theorem AMO {C:Ctx} (hS:SoundOk C) {W nt b N n i:Nat} {us us2:List Value} {q q':Int} {a:Act} {w:World} {G:List Nat} {c:Code} {R R':List (List IV)} {j9:AV} (g:MG W nt b N n us q (.int i) a w) (hR:rowsOf W n us=R) (hc:codeOk nt c=true) (hn:bJ c=true)
 (hx:dR C G 1 c (MS W n R q .junk (.int i) .junk)=some (.normal,MS W n R' q' .junk (.int i) j9)) (hR':R'=rowsOf W n us2) :
 c.wp C.P (fun e a' w'=>e=.normal∧∃ us',MG W nt b N n us' q' (.int i) a' w'∧us'.take (W*n)=us2.take (W*n)∧Fr w w' [b]) a w:=by
 subst hR hR';refine wp_mono (oN hS (oI b N) (G:=G) (nt:=nt) hc hx g.to hn) ?_;rintro _ x3 y3 ⟨rfl,r3⟩;obtain⟨us',g',e',f'⟩:=g.of (q':=q') (i':=i) r3.1 rfl rfl rfl rfl;exact⟨rfl,us',g',e',f'⟩
section
variable {X:Type} {cells:X→List IV} {mk:Int→X→X} {sz:X→Nat} {W:Nat}
theorem qE (h:∀ x,1≤sz x):∀ l:List X,l.length≤bM sz l
 | []=>by simp
 | x::l=>by have:=qE h l;have:=h x;simp only[zQ,bM];omega
def vD (C:Ctx) {X:Type} (cells:X→List IV) (mk:Int→X→X) (sz:X→Nat) (g:FuncId):Prop :=
 ∀ (l:List X) (w:World) (v:Value) (F:List Nat) (k:Int),TCells w [.isl (l.map cells)] [v] F→F.Nodup→0≤k→k+(bM sz l:Nat)<1000000000000→Calls C.P g #[v, .int .i64 k] w (ANL cells mk sz w v F k l)
theorem vD.of {C:Ctx} (hS:SoundOk C) {g:FuncId} {nt:Nat} {G:List Nat} {fn:Func} {c0 c1 cc body c3 cend:Code} (hg:g≠lU) (L:MLoop C g W nt G fn c0 c1 cc body c3 cend) (hW:∀ x,(cells x).length=W) (hW0:0<W) (h1:∀ x,1≤sz x)
 (hR:∀ x,WB C cells mk sz W nt body x):vD C cells mk sz g:=fun l w v F k hT hnd hk0 hk1 =>
 Q5 hS hg L hW hW0 (fun x _=>hR x) hT hnd hk0 hk1 (by have:=qE h1 l;omega)
def nQ (cells:X→List IV) (W:Nat) (l:List X):Blk:=if l=[]then .arr W []else .tre W (l.map cells)
@[simp] theorem AVO (r:Nat→Option Nat) (l:List X):CL r (some (nQ cells W l))=some (nQ cells W l):=by unfold nQ;split<;>rfl
@[simp] theorem AS3 (l:List X):iP (some (nQ cells W l))=[]:=by unfold nQ;split<;>rfl
theorem vN (h:∀ x,oL (cells x)=true):∀ l:List X,kL (l.map cells)=true
 | []=>rfl
 | x::l=>by simp only[yS,kL,h x,vN h l,zD6]
@[simp] theorem AYP (h:∀ x,oL (cells x)=true) (l:List X):mfB (some (nQ cells W l))=true:=by
  unfold nQ;split
  ·rfl
  ·simp only[mfB];exact vN h l
theorem lN {l:List X} (h:l≠[]):nQ cells W l=.tre W (l.map cells):=by simp[nQ,h]
theorem AH8 {cells:X→List IV} (h:∀ x y,cells x=cells y→x=y):∀ {l m:List X},l.map cells=m.map cells→l=m
 | [],[],_=>rfl
 | [],_::_,e=>by simp at e
 | _::_,[],e=>by simp at e
 | x::l,y::m,e=>by
  simp only[yS,List.cons.injEq]at e;rw[h x y e.1,AH8 h e.2]
theorem AKL (hi:∀ x y,cells x=cells y→x=y) {l m:List X} (h:nQ cells W l=nQ cells W m):l=m:=by
 unfold nQ at h;split at h<;>split at h
 ·rename_i h1 h2;rw[h1,h2]
 ·cases h
 ·cases h
 ·injection h with _ h;exact AH8 hi h
noncomputable def qJ (cells:X→List IV) (mk:Int→X→X) (sz:X→Nat) (W:Nat):List AV→StL→Option (AV×StL)
 | [.osl 0 W' 0 n, .i (.lit (.int .i64 k))],[some B] =>
  @dite _ (W'=W∧∃ l:List X,B=nQ cells W l∧l.length=n∧0≤k∧k+(bM sz l:Nat)<1000000000000) (Classical.propDecidable _)
   (fun h=>some (.int (k+(bM sz h.2.choose:Nat)),[some (nQ cells W (dY mk sz k h.2.choose))])) fun _=>none
 | [.i (.isl []), .i (.lit (.int .i64 k))],[]=>tst (decide (0≤k∧k<1000000000000)) (some (.int k,[]))
 | [.nils, .i (.lit (.int .i64 k))],[]=>tst (decide (0≤k∧k<1000000000000)) (some (.int k,[]))
 | _,_=>none
theorem Q6 (hi:∀ x y,cells x=cells y→x=y) {l:List X} {k:Int} (h0:0≤k) (h1:k+(bM sz l:Nat)<1000000000000):qJ cells mk sz W [.osl 0 W 0 l.length, .int k] [some (nQ cells W l)]=some (.int (k+(bM sz l:Nat)),[some (nQ cells W (dY mk sz k l))]):=by
 have h:W=W∧∃ m:List X,nQ cells W l=nQ cells W m∧m.length=l.length∧0≤k∧k+(bM sz m:Nat)<1000000000000:=⟨rfl,l,rfl,rfl,h0,h1⟩
 unfold qJ;simp only;rw[dif_pos h];have e:l=h.2.choose:=AKL hi h.2.choose_spec.1;rw[← e]
theorem ACP {args:List AV} {st:StL} {r:AV×StL} (h:qJ cells mk sz W args st=some r) :
 (∃ (l:List X) (k:Int),args=[.osl 0 W 0 l.length, .int k]∧st=[some (nQ cells W l)]∧0≤k∧k+(bM sz l:Nat)<1000000000000∧r=(.int (k+(bM sz l:Nat)),[some (nQ cells W (dY mk sz k l))])) ∨
 ∃ k:Int,(args=[.i (.isl []), .int k]∨args=[.nils, .int k])∧st=[]∧0≤k∧k<1000000000000∧r=(.int k,[]):=by
 unfold qJ at h;split at h
 ·rename_i W' n k B;by_cases hc:W'=W∧∃ l:List X,B=nQ cells W l∧l.length=n∧0≤k∧k+(bM sz l:Nat)<1000000000000
  ·rw[dif_pos hc]at h;injection h with h;obtain⟨s1,s2,s3,s4⟩:=hc.2.choose_spec;exact .inl ⟨hc.2.choose,k,by rw[s2,hc.1],by rw[← s1],s3,s4,h.symm⟩
  ·rw[dif_neg hc]at h;cases h
 ·rename_i k;obtain⟨h1,h2⟩:=aO.1 h;injection h2 with h2;obtain⟨h3,h4⟩:=zR h1;exact .inr ⟨k, .inl rfl,rfl,h3,h4,h2.symm⟩
 ·rename_i k;obtain⟨h1,h2⟩:=aO.1 h;injection h2 with h2;obtain⟨h3,h4⟩:=zR h1;exact .inr ⟨k, .inr rfl,rfl,h3,h4,h2.symm⟩
 ·cases h
theorem ER {C:Ctx} {g:FuncId} (hM:vD C cells mk sz g) (hW:∀ x,(cells x).length=W) (hP:∀ x,oL (cells x)=true) {args:List AV} {stl stl':StL} {r:AV} (h:qJ cells mk sz W args stl=some (r,stl')) (w:World) (m:Mem) (φ:Pl) (vs:List Value) (hi:Inv w m φ (aR stl)) (hr:RepL m φ args vs) (hb:∀ id,φ id≠none→id<stl.length) :
 Calls C.P g vs.toArray w (bF w m φ r stl'):=by
 have empty:∀ (v:Value) (k:Int) (st:StL),TCells w [.isl []] [v] []→0≤k→k<1000000000000→Inv w m φ (aR st)→(∀ id,φ id≠none→id<st.length)→Calls C.P g #[v, .int .i64 k] w (bF w m φ (.int k) st):=by
  intro v k st hT hk0 hk1 hi hb;refine(hM [] w v [] k (by simpa using hT) (by simp) hk0 (by simpa [bM]using hk1)).mono ?_;rintro en w' ⟨rfl,fr,_,_⟩;have hsame:∀ f,f<w.heap.size→w'.heap[f]?=w.heap[f]?:=fun f hf=>fr.same f hf (by simp)
  refine⟨_,m,φ,rfl,?_,⟨fun b o u e=>by rw[cell_of_heap (hsame b (hi.mem.lt e))];exact hi.mem b o u e,?_,hi.inj,fun id b n f e ho=>zJ (hi.low id b n f e ho) fr.size⟩,⟨fr.size,fr.os,fr.tape,fr.output,fun b hb _=>hsame b hb, .refl _,fun _ _ _ _=>rfl, .refl _,fun _ _ _ _ e ho=>.inr (gK.not e ho)⟩,hb⟩
  ·simp[bM];exact .i (.lit _)
  ·intro id blk e;obtain⟨b,n,q1,q2,q3⟩:=hi.live id blk e;exact⟨b,n,q1,⟨q2.1,fun f hf=>zJ (q2.2 f hf) fr.size⟩,q3.mono q2.1 (fun f hf=>hsame f (q2.2 f hf)) (.refl _) (.refl _) fun _ _ _=>rfl⟩
 rcases ACP h with ⟨l,k,rfl,rfl,hk0,hk1,hrr⟩|⟨k,ha,rfl,hk0,hk1,hrr⟩
 ·injection hrr with e1 e2;subst e1;subst e2
  cases hr with
  | cons ra rb =>
   cases rb with
   | cons rk rn =>
    cases rn
    cases rk with
    | i rk =>
     cases rk
     cases ra with
     | @osl _ _ _ _ cap b n ao eφ hlc hcap ha1 ha2 =>
      by_cases hl:l=[]
      ·subst hl;have:=empty (.slice ao 0 cap) k [some (nQ cells W [])] (.isl0 ha2 .nil) hk0 (by simpa [bM]using hk1) hi hb;simpa [bM,dY]using this
      ·have hln:0<l.length:=xK.2 hl;have hst:aR [some (nQ cells W l)] 0=some (.tre W (l.map cells)):=by rw[lN hl];rfl
       obtain⟨hown,hok⟩:=bZ hi eφ hst;have hao:=ha1 (by omega);subst hao
       cases hok with
       | @tre T kk es us F hh hlen hpos hw1 hcu hfit hnd hF hm hone =>
        have hc:=hcu.pure (lQ (vN hP l));have hcl:(l.map cells).length=l.length:=by simp
        have hne:l.map cells≠[]:=fun h=>by rw[h]at hcl;simp at hcl;omega
        have hT:TCells w [.isl (l.map cells)] [.slice (some ⟨b,W*0,none⟩) l.length cap] (b::F++[]):=by
         have:=TCells.isl (w:=w) (b:=b) (k:=W) (cap:=cap) (us:=us) (G:=F) hne ⟨T,hh,hone⟩ hpos hw1 (by rw[hlen];simpa using hcap) (by omega) hc .nil
         rwa [hcl]at this
        rw[zA]at hT;refine(hM l w _ (b::F) k hT hnd hk0 hk1).mono ?_;rintro en w' ⟨rfl,fr,ht,hrl⟩;have hmlen:=dG mk sz l k;have hml:dY mk sz k l≠[]:=fun h=>by rw[h]at hmlen;simp at hmlen;omega
        obtain⟨us1,hr1,hl1⟩:=hrl b cap us rfl hl ⟨T,hh,hone⟩
        have hFo:∀ f∈b::F,n.own f:=fun f hf=>by
         rcases zS.1 hf with rfl|hf
         ·exact hown.1
         ·exact hF f hf
        have hsame:∀ f,f<w.heap.size→¬ n.own f→w'.heap[f]?=w.heap[f]?:=fun f hf hno=>fr.same f hf fun h=>hno (hFo f h)
        refine⟨_,m,φ,rfl, .i (.lit _),⟨fun b' o u e=>?_,?_,?_,fun id b n f e ho=>zJ (hi.low id b n f e ho) fr.size⟩,⟨fr.size,fr.os,fr.tape,fr.output,fun f hf hfree=>hsame f hf (hfree 0 b n eφ), .refl _,fun _ _ _ _=>rfl, .refl _,fun _ _ _ _ e ho=>.inr (gK.not e ho)⟩,hb⟩
        ·rw[cell_of_heap (hsame b' (hi.mem.lt e) fun ho=>by rw[hm b' ho o]at e;cases e)];exact hi.mem b' o u e
        ·intro id blk e
         cases id with
         | succ id=>simp[aR]at e
         | zero =>
          simp only[aR]at e;rw[lN hml]at e;injection e with e;subst e;refine⟨b,n,eφ,⟨hown.1,fun f hf=>zJ (hown.2 f hf) fr.size⟩,?_⟩;have hcm:((dY mk sz k l).map cells).length=l.length:=by rw[zA3,hmlen]
          have hwid:∀ e∈(dY mk sz k l).map cells,e.length=W:=fun e he=>by
           obtain⟨x,_,rfl⟩:=yK.1 he;exact hW x
          generalize hes:(dY mk sz k l).map cells=es2 at ht hcm hwid;generalize hvv:Value.slice (some ⟨b,W*0,none⟩) l.length cap=vv at ht;generalize hFF:b::F=FF at ht
          cases ht with
          | isl0=>simp at hcm;omega
          | @isl b2 k2 cap2 _ us2 G2 _ _ F2 h1 h2 h3 h4 h5 h6 h7 h8 =>
           cases h8
           injection hvv with hv1 hv2 hv3;injection hv1 with hv1;injection hv1 with hv1;subst hv1;simp only[zA,List.cons.injEq,true_and]at hFF;subst hFF;obtain⟨T1,hr1,ho1⟩:=hr1;obtain⟨T2,h2,ho2⟩:=h2;rw[h2]at hr1;injection hr1 with hr1;injection hr1 with hr1 hr2;have hus:us2=us1:=by simpa using congrArg Array.toList hr1
           subst hus
           obtain rfl:k2=W:=by
            cases es2 with
            | nil=>exact absurd rfl h1
            | cons e es=>rw[← h4 e (by simp),hwid e (by simp)]
           exact .tre (T:=T2) h2 (by rw[hl1];exact hlen) h3 h4 h7.toU (by rw[hcm,← hcl];exact hfit) hnd hF hm ho2
        ·intro i j x x' n1 n2 b1 b2 f e1 e2 _ _ _ _
         cases i with
         | succ i=>simp[aR]at e1
         | zero=>cases j with
          | zero=>rfl
          | succ j=>simp[aR]at e2
 ·injection hrr with e1 e2;subst e1;subst e2
  rcases ha with rfl|rfl
  ·cases hr with
   | cons ra rb =>
    cases rb with
    | cons rk rn =>
     cases rn
     cases rk with
     | i rk =>
      cases rk
      cases ra with
      | i ra =>
       cases ra with
       | isl0 ao cap hc=>exact empty _ k [] (.isl0 hc .nil) hk0 hk1 hi hb
       | isl hn=>exact absurd rfl hn
  ·cases hr with
   | cons ra rb =>
    cases rb with
    | cons rk rn =>
     cases rn
     cases rk with
     | i rk =>
      cases rk
      cases ra
      exact empty _ k [] (.isl0 (fun _=>rfl) .nil) hk0 hk1 hi hb
end
end Go.Av.Mk
namespace Go.Av
mutual
def Ex.fat:Ex→Prop
 | .mk _ _ _ ks=>ks.length<9223372036854775808∧Ex.AI2 ks
def Ex.AI2:List Ex→Prop
 | []=>True
 | e::es=>e.fat∧Ex.AI2 es
end
theorem Ex.DJ:∀ (l:List Ex),Ex.AI2 l↔∀ k∈l,k.fat
 | []=>by simp[Ex.AI2]
 | e::es=>by simp[Ex.AI2,Ex.DJ es]
theorem Ex.sI (e:Ex):e.fat↔e.kids.length<9223372036854775808∧∀ k∈e.kids,k.fat:=by
 cases e;simp[Ex.fat,Ex.kids,Ex.DJ]
mutual
def Ex.wB (k:Int):Ex→Ex
 | .mk _ _ _ ks=>.mk k (k+1) ⟨(k+1+1).tmod 3 == 0,k+1+1+1⟩ (Ex.lF (k+1+1+1+1) ks)
def Ex.lF (k:Int):List Ex→List Ex
 | []=>[]
 | e::es=>Ex.wB k e::Ex.lF (k+4*e.size) es
end
theorem Ex.GU:∀ (l:List Ex) (k:Int),(Ex.lF k l).length=l.length
 | [],k=>by simp[Ex.lF]
 | e::es,k=>by simp[Ex.lF,Ex.GU es]
theorem Ex.UE:∀ (l:List Ex) (k:Int) {i:Nat} {a:Ex},l[i]?=some a→(Ex.lF k l)[i]?=some (Ex.wB (k+4*(Ex.aM (l.take i):Nat)) a)
 | [],k,i,a,h=>by simp at h
 | e::es,k,0,a,h=>by simp at h;subst h;simp[Ex.lF,Ex.aM]
 | e::es,k,i+1,a,h=>by
  have:=Ex.UE es (k+4*e.size) (i:=i) (a:=a) (by simpa using h);simp only[Ex.lF,xE,yL,Ex.aM];rw[this];congr 2;push_cast;omega
theorem Ex.KQ (k:Int) (a:Ex):(Ex.wB k a).cells=[.int k, .int (k+1), .bool ((k+1+1).tmod 3 == 0), .int (k+1+1+1), .isl (Ex.aB (Ex.lF (k+1+1+1+1) a.kids))]:=by
 cases a;simp[Ex.wB,Ex.cells,Ex.kids]
theorem Ex.bS:∀ l:List Ex,Ex.aB l=l.map Ex.cells
 | []=>rfl
 | e::l=>by simp[Ex.aB,Ex.bS l]
theorem Pn.bS:∀ l:List Pn,Pn.aB l=l.map Pn.cells
 | []=>rfl
 | e::l=>by simp[Pn.aB,Pn.bS l]
def ATH (n:Int):List IV:=[.int n]
def ATG (q:Int) (_:Int):Int:=q
def AOM (_:Int):Nat:=1
theorem o9:∀ (l:List Int),aD l=l.map ATH
 | []=>rfl
 | n::l=>by have:=o9 l;simp only[yS,← this];simp[aD,ATH]
abbrev DZ (k:Int) (l:List Int):List Int:=Mk.dY ATG AOM k l
theorem qD:∀ l:List Int,Mk.bM AOM l=l.length
 | []=>rfl
 | n::l=>by simp only[Mk.bM,qD l,AOM,zQ];omega
def exZ (e:Ex):Nat:=4*e.size
theorem vJ:∀ l:List Ex,Mk.bM exZ l=4*Ex.aM l
 | []=>by simp[Mk.bM,Ex.aM]
 | e::l=>by simp only[Mk.bM,vJ l,exZ,Ex.aM];omega
theorem D7:∀ (l:List Ex) (k:Int),Ex.lF k l=Mk.dY Ex.wB exZ k l
 | [],k=>by simp[Mk.dY,Ex.lF]
 | e::l,k=>by
  simp only[Mk.dY,Ex.lF,D7 l];unfold exZ;push_cast;rfl
mutual
def Pn.mz:Pn→Nat
 | .mk _ _ es cs ks=>2+(4*Ex.aM es+(cs.length+Pn.mzL ks))
def Pn.mzL:List Pn→Nat
 | []=>0
 | p::l=>p.mz+Pn.mzL l
end
mutual
def Pn.tO (k:Int):Pn→Pn
 | .mk _ _ es cs ks=>.mk k (k+1) (Ex.lF (k+1+1) es) (DZ (k+1+1+(4*Ex.aM es:Nat)) cs) (Pn.mW (k+1+1+(4*Ex.aM es:Nat)+(cs.length:Nat)) ks)
def Pn.mW (k:Int):List Pn→List Pn
 | []=>[]
 | p::l=>Pn.tO k p::Pn.mW (k+p.mz) l
end
theorem uH:∀ (l:List Pn) (k:Int),Pn.mW k l=Mk.dY Pn.tO Pn.mz k l
 | [],k=>by simp[Mk.dY,Pn.mW]
 | e::l,k=>by simp only[Mk.dY,Pn.mW,uH l]
theorem vH:∀ l:List Pn,Mk.bM Pn.mz l=Pn.mzL l
 | []=>by simp[Mk.bM,Pn.mzL]
 | e::l=>by simp only[Mk.bM,vH l,Pn.mzL]
theorem Pn.AGS (p:Pn):p.mz=2+(4*Ex.aM p.exprs+(p.cols.length+Pn.mzL p.kids)):=by cases p;simp[Pn.mz,Pn.exprs,Pn.cols,Pn.kids]
theorem Pn.KO (k:Int) (p:Pn):(Pn.tO k p).cells=[.int k, .int (k+1), .isl (Ex.aB (Ex.lF (k+1+1) p.exprs)), .isl (aD (DZ (k+1+1+(4*Ex.aM p.exprs:Nat)) p.cols)), .isl (Pn.aB (Pn.mW (k+1+1+(4*Ex.aM p.exprs:Nat)+(p.cols.length:Nat)) p.kids))]:=by
 cases p;simp[Pn.tO,Pn.cells,Pn.exprs,Pn.cols,Pn.kids]
def IJ (k:Int) (s:Stp):Stp:=(k,DZ (k+1) s.2)
def oJ (s:Stp):Nat:=1+s.2.length
end Go.Av
namespace Go.Av.Mk
open Go Go.Av
section
variable {X:Type} {cells:X→List IV} {W:Nat} {z:List IV}
@[simp] theorem AXS (hp:∀ x,oL (cells x)=true) (l:List X):vX W 0 l.length (some (nQ cells W l))=some (l.map cells):=by
  unfold nQ;split
  ·rename_i h;subst h;simp[vX,fO]
  ·simp[vX,vN hp l]
def DF (cells:X→List IV) (W:Nat) (z:List IV) (l:List X) (n:Nat):Nat→Blk
 | 0=>.arr W (List.replicate n z)
 | i+1=>.tre W ((l.take (i+1)).map cells++List.replicate (n-(i+1)) z)
theorem UZ {l:List X} {n:Nat} (h:l.length=n):DF cells W z l n n=nQ cells W l:=by
 subst h
 cases hl:l.length with
 | zero=>have:=zW.1 hl;subst this;simp[DF,nQ]
 | succ n =>
  have hT:l.take (n+1)=l:=zZ (by omega);have hne:l≠[]:=fun h=>by subst h;simp at hl
  simp[DF,lN hne,hT]
@[simp] theorem ATD (r:Nat→Option Nat) (l:List X) (n:Nat):∀ i,CL r (some (DF cells W z l n i))=some (DF cells W z l n i)
  | 0=>rfl
  | _+1=>rfl
@[simp] theorem AOV (l:List X) (n:Nat):∀ i,iP (some (DF cells W z l n i))=[]
  | 0=>rfl
  | _+1=>rfl
theorem UY {l:List X} {n i:Nat} {a:X} (ha:l[i]?=some a) (hn:i<n) (hz:mG z=true) (hzl:z.length=(cells a).length) (hl:uI (cells a)=false) (id:Nat) (st:Store) :
 eD id W i 0 (cells a) st (some (DF cells W z l n i))=some (upd st id (some (DF cells W z l n (i+1)))):=by
 have hil:=(zY.1 ha).1;have hS:(l.take i).map cells++[cells a]=(l.take (i+1)).map cells:=by rw[aL ha];simp
 have hD:((l.take i).map cells).length=i:=by simp;omega
 have g1:=vS (n:=n) (z:=z) hD hn;have g2:=vR (n:=n) (z:=z) (x:=cells a) hD hn;have g3:splice z 0 (cells a)=some (cells a):=jQ hzl;have g4:splice (mJ z) 0 (cells a)=some (cells a):=jQ (by rw[BM];exact hzl);rw[hS]at g2;simp only[zC4]at g1 g2
 cases i with
 | zero =>
  simp at g1 g2;simp[DF,eD,wK,bnd,tst,g1,g3,g4,hl,g2,hz]
 | succ i=>simp[DF,eD,bnd,tst,g1,g2,g3]
end
end Go.Av.Mk
namespace Go.Av
@[simp] theorem Ex.FB (e:Ex):oL e.cells=true:=by rw[Ex.aA];rfl
@[simp] theorem Pn.FB (p:Pn):oL p.cells=true:=by rw[Pn.aA];rfl
@[simp] theorem Ex.BG:∀ l:List Ex,kL (Ex.aB l)=true
  | []=>by simp[Ex.aB,kL]
  | e::l=>by simp[Ex.aB,kL,Ex.BG l]
@[simp] theorem Pn.BG:∀ l:List Pn,kL (Pn.aB l)=true
  | []=>by simp[Pn.aB,kL]
  | p::l=>by simp[Pn.aB,kL,Pn.BG l]
def tP (p:Pn) (j:Nat):AV:=.agg [.int p.kind, .int p.table, .osl j 5 0 p.exprs.length, .osl (j+1) 1 0 p.cols.length, .osl (j+2) 5 0 p.kids.length]
def tPB (p:Pn):StL:=[some (Mk.nQ Ex.cells 5 p.exprs),some (.arr 1 (aD p.cols)),some (Mk.nQ Pn.cells 5 p.kids)]
def tE (e:Ex) (j:Nat):AV:=.agg [.int e.kind, .int e.col, .bool e.val.null, .int e.val.n, .osl j 5 0 e.kids.length]
end Go.Av
namespace Go.Av.V.Sx
open Go Go.Av Go.Av.V Go.Av.Mk Go.Proofs Go.Proofs.YtjdfjgmebalaaaaGreat
set_option maxRecDepth 4000
def YV (e:Ex):AS:={ env:=[(0, .i (.iref e.cells))],st:=[] }
def AJG (e:Ex):AS:={ env:=[(0, .i (.iref e.cells)),(2, .own 0 0),(3, .own 1 0),(4, .junk),(5, .junk),(6, .junk),(13, .junk),(37, .junk),(38, .junk),(39, .junk)],st:=[some (.box zc),some (.box (jW e.cells))] }
def SL (b3:Nat) (todo X:KL):AS :=
 { env:=[(0, .junk),(2, .own 0 0),(3, .i (ptr (b3,0))),(4, .osl 1 1 0 todo.length),(5, .junk),(6, .junk),(13, .junk),(37, .junk),(38, .junk),(39, .junk)],st:=[some (.box zc),some (.arr 1 ((todo++X).map fun k=>[ptr k.1]))] }
theorem K6:∀ (l:KL),∀ c∈(l.map fun k=>[ptr k.1]).flatten,∃ v,c=.lit v
 | [],c,h=>by simp at h
 | k::l,c,h=>by
  simp only[yS,yZ,zV,xB]at h
  rcases h with rfl|h
  ·exact⟨_,rfl⟩
  ·exact K6 l c h
def PP (b3:Nat) (b o n:Nat) (x:Ex) (ES:List (List IV)) (env:Nat→AV) (st:Store):Prop :=
 env 2=.own 0 0∧env 3=.i (ptr (b3,0))∧env 4=.osl 1 1 0 n∧env 5=.i (ptr (b,o))∧env 32=.i (ptr (b,o+4))∧st 0=some (.box zc)∧st 1=some (.arr 1 ES) ∧
  ((env 30=.nils∧x.kids=[])∨∃ id,env 30=.osl id 5 0 x.kids.length∧x.kids≠[]∧st id=some (.arr 5 (Ex.aB x.kids))∧2≤id)
def RW (init:KL) (b' i:Nat):List (List IV):=(init.map fun k=>[ptr k.1])++(List.range i).map fun j=>[ptr (b',j*5)]
theorem WC (init:KL) (b' i:Nat):(RW init b' i).length=init.length+i:=by simp[RW]
theorem MM (init:KL) (b' i:Nat):RW init b' i++[[ptr (b',i*5)]]=RW init b' (i+1):=by simp[RW,zB7]
theorem qM (b:Nat):∀ (o:Nat) (l:List Ex),(bL b o l).map (fun k=>[ptr k.1])=(List.range l.length).map fun j=>[ptr (b,o+j*5)]
 | _,[]=>by simp[bL]
 | o,a::l=>by
  simp only[bL,yS,qM b (o+5) l,zQ,zD3,List.map_map];simp only[List.cons.injEq,Nat.zero_mul,xQ,true_and];apply zC7;intro j _;simp only[Function.comp,Nat.succ_eq_add_one];rw[show o+5+j*5=o+(j+1)*5 by omega]
theorem qN (b:Nat):∀ (o:Nat) (l:List Ex),(bL b o l).length=l.length
 | _,[]=>rfl
 | o,a::l=>by simp[bL,qN b (o+5) l]
theorem qL (b:Nat):∀ (o:Nat) (l:List Ex),((bL b o l).map fun k=>k.2.1.size).sum=Ex.aM l
 | _,[]=>rfl
 | o,a::l=>by simp[bL,Ex.aM,qL b (o+5) l]
def YS (b3 b' cap:Nat) (x:Ex) (init:KL) (ES:List (List IV)) (i:Nat):AS :=
 { env:=[(0, .junk),(2, .own 0 0),(3, .i (ptr (b3,0))),(4,if i=0 then .osl 1 1 0 init.length else .osl 2 1 0 (init.length+i)),(5, .i (.iref [.int x.kind, .int x.col, .bool x.val.null, .int x.val.n, .lit (.slice (some ⟨b',0,none⟩) x.kids.length cap)])),(6,jk i (.int (i-1))),(13, .junk),(37, .int x.kids.length),(38, .int i),(39,jk i (.bool true))],
   st:=some (.box zc)::if i=0 then [some (.arr 1 ES)]else [none,some (.arr 1 (RW init b' i))] }
set_option maxHeartbeats 1000000
theorem YE {e:Ex} (he:e.size<1000000000) (hne:e.kids≠[]) {wi:World} {mi:Mem} {φ:Pl} {vs:List Value} (hi:Inv wi mi φ (aR [])) (hr:RepL mi φ [.i (.iref e.cells)] vs) (h0:∀ id,φ id≠none→id<0) :
 Calls Tryz.prog 92 vs.toArray wi (bF wi mi φ (tE e 0) [some (nQ Ex.cells 5 e.kids)]):=by
 obtain rfl:φ=fun _=>none:=by
  funext id
  cases h:φ id with
  | none=>rfl
  | some p=>exact absurd (h0 id (by rw[h];simp)) (xW _)
 refine calls_of_wp (fn:=Tryz.f92) Tryz.func92 rfl ?_
 have g0:GG wi mi 52 (fun id=>id<(YV e).st.length) [] (aN (YV e).env) (aR (YV e).st) { tmps:=vs.toArray++Array.replicate (52-vs.toArray.size) undef,defers:=[] } wi:=by
  refine⟨⟨mi,fun _=>none,hi,?_, .refl _ _ _,fun id h=>absurd rfl h,fun k hk=>by simp at hk⟩,by simp;omega,rfl⟩;intro t;have:=kR (m:=mi) (φ:=fun _=>none) (52-vs.toArray.size) hr t
  cases t with
  | zero=>simpa [YV,aN,qU]using this
  | succ t=>simp only[YV,aN];simp;exact .junk _
 refine wp_seq (wp_mono (GG.dW iA (G:=GS 92) (S:=YV e) (e:=.normal) (S':={ AJG e with env:=[(0, .i (.iref e.cells)),(2, .own 0 0),(3, .junk),(4, .junk),(5, .junk),(6, .junk),(13, .junk),(37, .junk),(38, .junk),(39, .junk)],st:=[some (.box zc)] }) (by kernel_rfl) (by simp[YV,zc]) g0) ?_);rintro _ a1 w1 ⟨rfl,g1⟩;refine wp_seq (wp_mono (GG.dW iA (G:=GS 92) (S:={ AJG e with env:=[(0, .i (.iref e.cells)),(2, .own 0 0),(3, .junk),(4, .junk),(5, .junk),(6, .junk),(13, .junk),(37, .junk),(38, .junk),(39, .junk)],st:=[some (.box zc)] }) (e:=.normal) (S':=AJG e) (by kernel_rfl) (by simp[AJG,zc]) g1) ?_);rintro _ a2 w2 ⟨rfl,g2⟩
 obtain⟨b3,g3⟩:=g2.pub (u:=3) (id:=1) (e:=e) (st':=aR [some (.box zc)]) (ok':=fun id=>id<1) rfl rfl (by
  intro i blk h
  cases i with
  | zero=>simp[aR]at h;subst h;exact⟨by omega,rfl,by simp[gT,zc]⟩
  | succ i=>simp[aR]at h) (by
  intro i h
  cases i with
  | zero=>omega
  | succ i=>simp[aR]at h)
 have g3:=g3 (aN [(2, .own 0 0),(3, .i (ptr (b3,0)))]) (by
  intro t;simp only[aN];by_cases h2:t=2
  ·subst h2;exact .inr (.inr ⟨rfl,by simp[AJG,aN,kD,aR]⟩)
  ·by_cases h3:t=3
   ·subst h3;exact .inr (.inl ⟨rfl,rfl⟩)
   ·simp[h2,h3])
 refine wp_seq (wp_mono (GG.dW iA (G:=GS 92) (S:={ env:=[(2, .own 0 0),(3, .i (ptr (b3,0)))],st:=[some (.box zc)] }) (e:=.normal) (S':=SL b3 [((b3,0),(e,none))] []) (by kernel_rfl) (by simp[SL,ptr,zc]) g3) ?_);rintro _ a3 w3 ⟨rfl,g4⟩;refine wp_seq (wp_block ?_);refine tQ (fun n a w=>∃ todo X K:KL,WL (b3,0) e todo K∧(todo.map fun k=>k.2.1.size).sum=n∧n<1000000000∧GG wi mi 52 (fun id=>id<(SL b3 todo X).st.length) K (aN (SL b3 todo X).env) (aR (SL b3 todo X).st) a w) ?_ (n:=e.size) ⟨[((b3,0),(e,none))],[],[((b3,0),(e,none))], .start b3 e,by simp,he,g4⟩;rintro n a w ⟨todo,X,K,hWL,hsum,hn,g⟩
 rcases zC1 todo with rfl|⟨init,k,rfl⟩
 ·refine wp_mono (GG.dW iA (G:=GS 92) (S:=SL b3 [] X) (e:=.exit 0) (S':={ env:=[(0, .junk),(2, .own 0 0),(3, .i (ptr (b3,0))),(4, .osl 1 1 0 0),(5, .junk),(6, .junk),(13, .bool false),(37, .junk),(38, .junk),(39, .junk)],st:=[some (.box zc),some (.arr 1 (X.map fun k=>[ptr k.1]))] }) (by kernel_rfl) (by simp[SL,ptr,zc]) g) ?_;rintro _ a5 w5 ⟨rfl,g5⟩;simp only[iF,Exit.then,Exit.inBlock,if_true];obtain⟨⟨m5,φ5,hi5,henv5,hadv5,hok5,hK5⟩,hsz5,hdf5⟩:=g5;obtain⟨v,F,hx5,ht5,hnd5,hF5⟩:=hWL.tree hK5 hi5.mem e (b3,0) hWL.hroot;have h05:∀ id,φ5 id≠none→id<2:=hok5
  have hroot:IAt m5 b3 0 [.int e.kind, .int e.col, .bool e.val.null, .int e.val.n, .lit v]:=by
   have ho:=uK hx5.kids;exact .cons (by simpa using hx5.c0) (.lit _) rfl (.cons hx5.c1 (.lit _) rfl (.cons hx5.c2 (.lit _) rfl (.cons hx5.c3 (.lit _) rfl (.cons hx5.c4 (.lit _) ho (.nil _ _)))))
  have hp3:a5.tmps.getD 3 undef=.pointer (some ⟨b3,0,none⟩):=by
   have h3:Rep m5 φ5 (.i (ptr (b3,0))) (a5.tmps.getD 3 undef):=henv5 3;exact h3.bX
  have r5:J5 [] w5 m5 φ5 52 2 { env:=[(2, .own 0 0),(3, .i (.iref [.int e.kind, .int e.col, .bool e.val.null, .int e.val.n, .lit v]))],st:=[some (.box zc),some (.arr 1 (X.map fun k=>[ptr k.1]))] } a5 w5:=by
   refine⟨⟨⟨m5,φ5,by simpa using hi5,fun t=>?_, .refl _ _ _,hok5, .nil _ _ _⟩,hsz5,hdf5⟩,zP _⟩;simp only[aN];by_cases h2:t=2
   ·subst h2;simp only[if_true];exact henv5 2
   ·by_cases h3:t=3
    ·subst h3;simp only[if_true];rw[hp3];exact .i (.iref hroot)
    ·simp only[h2,h3,if_false];exact .junk _
  refine wp_mono (oN iA h05 (G:=GS 92) (S:={ env:=[(2, .own 0 0),(3, .i (.iref [.int e.kind, .int e.col, .bool e.val.null, .int e.val.n, .lit v]))],st:=[some (.box zc),some (.arr 1 (X.map fun k=>[ptr k.1]))] }) (e:=.ret) (S':={ env:=[(0, .junk),(2, .own 0 0),(3, .i (.iref [.int e.kind, .int e.col, .bool e.val.null, .int e.val.n, .lit v])),(4, .junk),(5, .junk),(6, .junk),(13, .junk),(37, .junk),(38, .junk),(39, .junk)],st:=[some (.box [.int e.kind, .int e.col, .bool e.val.null, .int e.val.n, .i (.lit v)]),some (.arr 1 (X.map fun k=>[ptr k.1]))] }) (by kernel_rfl) (by simp[zc]) r5) ?_;rintro _ a6 w6 ⟨rfl,r6⟩
  obtain⟨vv,k1,k2⟩:=eU (C:=C1) (fn:=Tryz.f92) (keep:=false) (na:=2) (S:={ env:=[(0, .junk),(2, .own 0 0),(3, .i (.iref [.int e.kind, .int e.col, .bool e.val.null, .int e.val.n, .lit v])),(4, .junk),(5, .junk),(6, .junk),(13, .junk),(37, .junk),(38, .junk),(39, .junk)],st:=[some (.box [.int e.kind, .int e.col, .bool e.val.null, .int e.val.n, .i (.lit v)]),some (.arr 1 (X.map fun k=>[ptr k.1]))] }) (r:=.i (.agg [.int e.kind, .int e.col, .bool e.val.null, .int e.val.n, .lit v])) (stl':=[some (.box [.int e.kind, .int e.col, .bool e.val.null, .int e.val.n, .i (.lit v)]),some (.arr 1 (X.map fun k=>[ptr k.1]))]) h05 r6 (by
   show finish C1 false [ResultVar.cell 2 115] 2 _=_
   simp)
  refine⟨r6.1.defers,vv,k1,?_⟩;obtain⟨y,m6,φ6,hy,j1,j2,j3,j4⟩:=k2;injection hy with hy;subst hy
  have hvv:vv=.agg [.int .i64 e.kind, .int .i64 e.col, .bool e.val.null, .int .i64 e.val.n,v].toArray:=by
   cases j1 with
   | i r=>cases r with
    | agg hc =>
     have:=AHD (vs:=[.int .i64 e.kind, .int .i64 e.col, .bool e.val.null, .int .i64 e.val.n,v]) hc;rw[this]
  subst hvv;have hall:=hadv5.trans j3;have hwi:∀ f,f<wi.heap.size→w6.heap[f]?=wi.heap[f]?:=fun f hf=>hall.block f hf fun id b n e=>by cases e
  have ht6:=ht5.mono (w':=w6) fun f hf=>j3.block f (tlt ht5 f hf) (hF5 f hf).2.2
  have hlt6:=tlt ht6;have hlen:(Ex.aB e.kids).length=e.kids.length:=by simp
  have hcne:Ex.aB e.kids≠[]:=fun h=>by rw[h]at hlen;simp at hlen;exact hne (zW.1 hlen.symm)
  generalize hes:Ex.aB e.kids=es at ht6 hlen hcne
  cases ht6 with
  | isl0=>exact absurd rfl hcne
  | @isl b' kk cap _ us G _ _ F1 t1 t2 t3 t4 t5 t6 t7 t8 =>
   cases t8
   obtain rfl:kk=5:=by
    cases hks:e.kids with
    | nil=>exact absurd hks hne
    | cons a l=>rw[← t4 a.cells (by rw[← hes,hks];simp[Ex.aB]),Ex.aA];rfl
   simp only[zA]at hnd5 hF5 hlt6;obtain⟨T,t2,t9⟩:=t2;have hge:∀ f∈b'::G,wi.heap.size≤f:=fun f hf=>(hF5 f hf).2.1
   have hmi:∀ f∈b'::G,∀ o,mi f o=none:=fun f hf o=>by
    cases hx:mi f o with
    | none=>rfl
    | some u=>have:=hi.mem.lt hx;have:=hge f hf;omega
   refine⟨_,mi,fun id=>if id=0 then some (b',⟨us.length,fun f=>f∈b'::G⟩)else none,rfl,?_,⟨fun b o u hu=>?_,?_,?_,fun id b n f h1 ho=>by
    by_cases hid:id=0
    ·subst hid;simp only[if_true]at h1;injection h1 with h1;injection h1 with e1 e2;subst e2;exact hlt6 f ho
    ·simp[hid]at h1⟩,⟨hall.size,hall.os,hall.tape,hall.output,fun f hf _=>hwi f hf, .refl _,fun _ _ _ _=>rfl,(fun _ _ _ h=>by cases h),?_⟩,?_⟩
   ·refine .agg (.cons (.i (.lit _)) rfl (.cons (.i (.lit _)) rfl (.cons (.i (.lit _)) rfl (.cons (.i (.lit _)) rfl (.cons ?_ rfl .nil)))));rw[hlen];exact .osl (n:=⟨us.length,fun f=>f∈b'::G⟩) rfl (by omega) (by simpa using t5) (fun _=>by simp) (fun h=>by cases h)
   ·rw[cell_of_heap (hwi b (hi.mem.lt hu))];exact hi.mem b o u hu
   ·intro id blk hb
    cases id with
    | succ id=>simp[aR]at hb
    | zero =>
     simp only[aR]at hb;rw[lN hne,← Ex.bS,hes]at hb;injection hb with hb;subst hb;refine⟨b',⟨us.length,fun f=>f∈b'::G⟩,rfl,⟨by simp,fun f hf=>hlt6 f hf⟩,?_⟩;exact .tre (T:=T) t2 rfl (by omega) t4 t7.toU (by show 5*es.length≤us.length;omega) hnd5 (fun f hf=>zA7 _ hf) hmi t9
   ·intro i j x x' n1 n2 b1 b2 f h1 h2 _ _ _ _
    cases i with
    | succ i=>simp[aR]at h1
    | zero=>cases j with
     | zero=>rfl
     | succ j=>simp[aR]at h2
   ·intro id b n f h1 ho;by_cases hid:id=0
    ·subst hid;simp only[if_true]at h1;injection h1 with h1;injection h1 with e1 e2;subst e2;exact .inl (hge f ho)
    ·simp[hid]at h1
   ·intro id hne';by_cases hid:id=0
    ·subst hid;simp
    ·simp[hid]at hne'
 ·clear g0 g4 g3 g1 g2;obtain⟨⟨b,o⟩,x,nn⟩:=k;obtain rfl:nn=none:=(hWL.sub ((b,o),(x,nn)) (by simp)).2;rw[List.concat_eq_append]at hWL hsum g
  have hlen:∀ l:KL,l.length≤(l.map fun k=>k.2.1.size).sum:=by
   intro l
   induction l with
   | nil=>simp
   | cons a l ih=>have:=Ex.mZ a.2.1;simp;omega
  have hil:=hlen init;simp at hsum;have hxk:((b,o),(x,none))∈K:=(hWL.sub _ (by simp)).1;have hxs:=Ex.size_eq x;have hkl:=Ex.bP x.kids;have hne:¬ ((init.length:Int)+1≤0):=by omega
  have hpos:(0:Int)<(init.length:Int)+1:=by omega
  have w1:IntKind.i64.wrap (init.length:Int)=init.length:=wrO;generalize hES:((init++[((b,o),((x,none):Nd))]++X:KL).map fun k=>[ptr k.1])=ES
  have hnth:fU ES init.length=some [ptr (b,o)]:=by
   rw[fI,← hES];simp
  have hlit:∀ c∈ES.flatten,∃ v,c=.lit v:=by rw[← hES];exact K6 _
  have hlt:(init.length:Int)<(init.length:Int)+1:=by omega
  have hlt2:(init.length:Int)≤(init.length:Int)+1:=by omega
  refine wp_seq (wp_mono (GG.dW iA (G:=GS 92) (S:=SL b3 (init++[((b,o),((x,none):Nd))]) X) (e:=.normal) (S':={ env:=[(0, .junk),(2, .own 0 0),(3, .i (ptr (b3,0))),(4, .osl 1 1 0 (init.length+1)),(5, .junk),(6, .junk),(13, .bool true),(37, .junk),(38, .junk),(39, .junk)],st:=[some (.box zc),some (.arr 1 ES)] }) (by kernel_rfl) (by simp only[SL,hES];simp[ptr,zc,hpos]) (by simpa using g)) ?_);rintro _ a5 w5 ⟨rfl,g5⟩;clear g;refine wp_block ?_;refine wp_seq (wp_mono (GG.dW iA (G:=GS 92) (S:={ env:=[(0, .junk),(2, .own 0 0),(3, .i (ptr (b3,0))),(4, .osl 1 1 0 (init.length+1)),(5, .junk),(6, .junk),(13, .bool true),(37, .junk),(38, .junk),(39, .junk)],st:=[some (.box zc),some (.arr 1 ES)] }) (e:=.normal) (S':={ env:=[(0, .junk),(2, .own 0 0),(3, .i (ptr (b3,0))),(4, .osl 1 1 0 (init.length+1)),(5,(.i (ptr (b,o)))),(6, .junk),(13, .bool true),(37, .junk),(38, .junk),(39, .junk)],st:=[some (.box zc),some (.arr 1 ES)] }) (by kernel_rfl) (by simp only[ptr]at hnth;simp[ptr,zc,hnth,w1,hlt]) g5) ?_);rintro _ a6 w6 ⟨rfl,g6⟩;clear g5;refine wp_seq (wp_mono (GG.dW iA (G:=GS 92) (S:={ env:=[(0, .junk),(2, .own 0 0),(3, .i (ptr (b3,0))),(4, .osl 1 1 0 (init.length+1)),(5,(.i (ptr (b,o)))),(6, .junk),(13, .bool true),(37, .junk),(38, .junk),(39, .junk)],st:=[some (.box zc),some (.arr 1 ES)] }) (e:=.normal) (S':={ env:=[(0, .junk),(2, .own 0 0),(3, .i (ptr (b3,0))),(4, .osl 1 1 0 init.length),(5,(.i (ptr (b,o)))),(6, .junk),(13, .bool true),(37, .junk),(38, .junk),(39, .junk)],st:=[some (.box zc),some (.arr 1 ES)] }) (by kernel_rfl) (by simp[ptr,zc,w1,hlt2]) g6) ?_);rintro _ a7 w7 ⟨rfl,g7⟩;clear g6
  refine wp_seq (GG.region iA (os1:=[_,_]) (os2:=[_,_,_,_,_,_]) (u:=26) (PP:=PP b3 b o init.length x ES) rfl (by
   have h:∀ ops:Array Oper,ops.all (iM 52)=true→∀ o∈ops,iM 52 o=true:=fun ops h o ho=>yB.1 h o ho
   exact h _ (by kernel_rfl)) g7 hxk ?_ ?_)
  ·rw[Ex.aA];by_cases hx:x.kids=[]
   ·simp[ptr,zc,hx,PP,Ex.aB,AI9]
   ·simp[ptr,zc,PP,AAN hx (by omega),hx]
  ·rintro env st a8 w8 ⟨p2,p3,p4,p5,p32,q0,q1,p30⟩ g8;clear g7
   obtain⟨w9,b',ao,cap,e1,e2,hrun,hG,hfr⟩:=GG.turn (C:=C1) (ok':=fun id=>id<2) (st':=aR [some (.box zc),some (.arr 1 ES)]) (u:=30) (t:=31) g8 (by simp) hi.mem hxk (fun k hk he'=>hWL.nolit ((b,o),(x,none)) (by simp) k hk he') rfl (by
    rcases p30 with ⟨h1,h2⟩|⟨id,h1,h2,h3,h4⟩
    ·refine .inl ⟨h1,h2,?_⟩;intro i blk h
     rcases i with _|_|i
     ·simp[aR]at h;subst h;exact q0
     ·simp[aR]at h;subst h;exact q1
     ·simp[aR]at h
    ·refine .inr ⟨id,h1,h2,h3,?_⟩;intro i blk h
     rcases i with _|_|i
     ·simp[aR]at h;subst h;exact⟨by omega,q0⟩
     ·simp[aR]at h;subst h;exact⟨by omega,q1⟩
     ·simp[aR]at h) (by
    intro i blk h
    rcases i with _|_|i
    ·simp[aR]at h;subst h;simp[gT,zc]
    ·simp[aR]at h;subst h;exact hlit
    ·simp[aR]at h) (by
    intro i h
    rcases i with _|_|i
    ·omega
    ·omega
    ·simp[aR]at h)
   have ev5:=g8.ACT (t:=5) p5;have ev32:=g8.ACT (t:=32) p32
   refine ND (C:=C1) (w':=w9) rfl (by
    show(Instr.storeAt 31 (a8.tmps.getD 32 undef) (a8.tmps.getD 30 undef)).run C1.P w8=_
    rw[ev32];exact hrun) ?_
   have g9:=hG (aN [(2, .own 0 0),(3, .i (ptr (b3,0))),(4, .osl 1 1 0 init.length),(5,(.i (.iref [.int x.kind, .int x.col, .bool x.val.null, .int x.val.n, .lit (.slice ao x.kids.length cap)])))]) (by
    intro t;simp only[aN];by_cases h2:t=2
    ·subst h2;exact .inr (.inr ⟨by simp[p2],by rw[p2];simp[kD,aR]⟩)
    by_cases h3:t=3
    ·subst h3;exact .inr (.inr ⟨by simp[p3],by rw[p3];simp[kD,ptr]⟩)
    by_cases h4:t=4
    ·subst h4;exact .inr (.inr ⟨by simp[p4],by rw[p4];simp[kD,aR]⟩)
    by_cases h5:t=5
    ·subst h5;exact .inr (.inl ⟨ev5,by simp⟩)
    ·simp[h2,h3,h4,h5])
   clear hG g8;show Code.wp _ _ _ _ _;refine wp_seq (wp_mono (GG.dW iA (G:=GS 92) (S:={ env:=[(2, .own 0 0),(3, .i (ptr (b3,0))),(4, .osl 1 1 0 init.length),(5,(.i (.iref [.int x.kind, .int x.col, .bool x.val.null, .int x.val.n, .lit (.slice ao x.kids.length cap)])))],st:=[some (.box zc),some (.arr 1 ES)] }) (e:=.normal) (S':={ env:=[(0, .junk),(2, .own 0 0),(3, .i (ptr (b3,0))),(4, .osl 1 1 0 init.length),(5,(.i (.iref [.int x.kind, .int x.col, .bool x.val.null, .int x.val.n, .lit (.slice ao x.kids.length cap)]))),(6, .junk),(13, .junk),(37, .int x.kids.length),(38, .int 0),(39, .junk)],st:=[some (.box zc),some (.arr 1 ES)] }) (by kernel_rfl) (by simp[ptr,zc]) g9) ?_);rintro _ a10 w10 ⟨rfl,g10⟩;clear g9;by_cases hx:x.kids=[]
   ·refine wp_mono (GG.dW iA (G:=GS 92) (S:={ env:=[(0, .junk),(2, .own 0 0),(3, .i (ptr (b3,0))),(4, .osl 1 1 0 init.length),(5,(.i (.iref [.int x.kind, .int x.col, .bool x.val.null, .int x.val.n, .lit (.slice ao x.kids.length cap)]))),(6, .junk),(13, .junk),(37, .int x.kids.length),(38, .int 0),(39, .junk)],st:=[some (.box zc),some (.arr 1 ES)] }) (e:=.normal) (S':={ env:=[(0, .junk),(2, .own 0 0),(3, .i (ptr (b3,0))),(4, .osl 1 1 0 init.length),(5,(.i (.iref [.int x.kind, .int x.col, .bool x.val.null, .int x.val.n, .lit (.slice ao x.kids.length cap)]))),(6, .junk),(13, .junk),(37, .int x.kids.length),(38, .int 0),(39, .bool false)],st:=[some (.box zc),some (.arr 1 ES)] }) (by kernel_rfl) (by
     simp only[hx,yT];simp;rw[aG]
     simp[ptr,zc]) g10) ?_
    rintro _ a11 w11 ⟨rfl,g11⟩;simp only[iF,Exit.then,Exit.inBlock];refine⟨n-1,by omega,init,((b,o),(x,none))::X,K++AEJ b o x b' cap,by have:=hWL.step (b':=b') (cap:=cap) hfr;rwa [hx,show bL b' 0 []=[]from rfl,zA]at this,?_,by omega,?_⟩
    ·rw[hx]at hxs;simp[Ex.aM]at hxs;omega
    ·have hES2:((init++((b,o),((x,none):Nd))::X:KL).map fun k=>[ptr k.1])=ES:=by rw[← hES];simp
     simp only[SL,hES2]
     exact g11.envTo (by
      intro t;simp only[aN];by_cases h2:t=2
      ·subst h2;simp
      by_cases h3:t=3
      ·subst h3;simp
      by_cases h4:t=4
      ·subst h4;simp
      ·simp[h2,h3,h4])
   ·obtain rfl:=e2 hx;have hET:ES.take init.length=RW init b' 0:=by rw[← hES];simp[RW]
    have hEL:init.length≤ES.length:=by rw[← hES];simp
    have hlim:∀ i,i≤x.kids.length→(init.length+i+1)*8≤140737488355328:=fun i hi=>by omega
    have hk0:x.kids.length≠0:=fun h=>hx (zW.1 h)
    refine wp_mono (GG.dW iA (G:=GS 92) (S:={ env:=[(0, .junk),(2, .own 0 0),(3, .i (ptr (b3,0))),(4, .osl 1 1 0 init.length),(5,(.i (.iref [.int x.kind, .int x.col, .bool x.val.null, .int x.val.n, .lit (.slice (some ⟨b',0,none⟩) x.kids.length cap)]))),(6, .junk),(13, .junk),(37, .int x.kids.length),(38, .int 0),(39, .junk)],st:=[some (.box zc),some (.arr 1 ES)] }) (e:=.normal) (S':={ env:=[(0, .junk),(2, .own 0 0),(3, .i (ptr (b3,0))),(4, .osl 2 1 0 (init.length+x.kids.length)),(5,(.i (.iref [.int x.kind, .int x.col, .bool x.val.null, .int x.val.n, .lit (.slice (some ⟨b',0,none⟩) x.kids.length cap)]))),(6, .int (x.kids.length-1)),(13, .junk),(37, .int x.kids.length),(38, .int x.kids.length),(39, .bool false)],st:=[some (.box zc),none,some (.arr 1 (RW init b' x.kids.length))] }) (by kernel_rfl) (by
     simp;rw[aT (YS b3 b' cap x init ES) x.kids.length (by simp[YS])]
     ·rw[aG];simp[YS,hk0,bU hk0,zc,ptr]
     ·intro i hi;have w2:IntKind.i64.wrap ((i:Int)+1)=i+1:=wrO;have hi0:(i:Int)<x.kids.length:=by omega
      by_cases h0:i=0
      ·subst h0;have hl:(init.length+1)*8≤140737488355328:=by omega
       have hR:RW init b' 0++[[.lit (.pointer (some ⟨b',0,none⟩))]]=RW init b' 1:=by simpa [ptr]using MM init b' 0
       simp[YS,zc,ptr,AET,hi,hET,hEL,hl,hR]
      ·have hl:=hlim i (by omega);have hT:(RW init b' i).take (init.length+i)=RW init b' i:=zZ (by rw[WC];omega);have hR:RW init b' i++[[.lit (.pointer (some ⟨b',i*5,none⟩))]]=RW init b' (i+1):=by simpa [ptr]using MM init b' i
       simp[YS,h0,bU h0,zc,ptr,w2,hi,hT,WC,hl,hR,← Nat.add_assoc]) g10) ?_
    rintro _ a11 w11 ⟨rfl,g11⟩;simp only[iF,Exit.then,Exit.inBlock];refine⟨n-1,by omega,init++bL b' 0 x.kids,[],K++AEJ b o x b' cap,hWL.step hfr,?_,by omega,?_⟩
    ·rw[yD,List.sum_append,qL];omega
    ·have g12:=g11.settle [2,3,4]
     have hR:List.map (fun k:(Nat×Nat)×Nd=>[ptr k.1]) (init++bL b' 0 x.kids++[])=RW init b' x.kids.length:=by
      rw[zA,yD,qM];simp[RW]
     have hl:(init++bL b' 0 x.kids).length=init.length+x.kids.length:=by rw[zN,qN]
     simp only[SL,hR,hl]
     have hs:Av.settle [2,3,4] 0 (aN [(0, .junk),(2, .own 0 0),(3, .i (ptr (b3,0))),(4, .osl 2 1 0 (init.length+x.kids.length)),(5, .i (.iref [.int x.kind, .int x.col, .bool x.val.null, .int x.val.n, .lit (.slice (some ⟨b',0,none⟩) x.kids.length cap)])),(6, .int (x.kids.length-1)),(13, .junk),(37, .int x.kids.length),(38, .int x.kids.length),(39, .bool false)]) (aR [some (.box zc),none,some (.arr 1 (RW init b' x.kids.length))])={ env:=[(2, .own 0 0),(3, .i (ptr (b3,0))),(4, .osl 1 1 0 (init.length+x.kids.length))],st:=[some (.box zc),some (.arr 1 (RW init b' x.kids.length))] }:=by
      simp[zc,ptr]
     rw[hs]at g12
     exact g12.envTo (by
      intro t;simp only[aN];by_cases h2:t=2
      ·subst h2;simp
      by_cases h3:t=3
      ·subst h3;simp
      by_cases h4:t=4
      ·subst h4;simp
      ·simp[h2,h3,h4])
end Go.Av.V.Sx
namespace Go.Av
def unC:IV→IV
 | .iref [c]=>c
 | c=>c
theorem AKI (c:IV):unC (WR c)=c:=by
 unfold WR;split
 ·rename_i h
  cases c with
  | iref cs=>simp[jI]at h
  | _=>rfl
 ·rfl
def rF (k ix off:Nat):Option Blk→Option IV
 | some (.arr k' es)=>tst (decide (k'=k∧off≤k)) (bnd (fU es ix) fun e=>some (.iref (dropE off e)))
 | some (.tre k' es)=>tst (decide (k'=k∧off≤k)) (bnd (fU es ix) fun e=>some (.iref (dropE off (e.map unC))))
 | _=>none
def APG (st:Store):AV→Option IV
 | .ownE id k ix off=>rF k ix off (st id)
 | v=>l7 st v
def NG (st:Store):List AV→Option (List AV)
 | []=>some []
 | c::r=>bnd (APG st c) fun v=>bnd (NG st r) fun l=>some (.i v::l)
def XL (call:dB) (g:FuncId) (args:List AV) (st:StL):Option (AV×StL):=bnd (NG (aR st) args) fun us=>XK call g us st
theorem UCells.toI {w:World} {m:Mem} (hm:kF w m):∀ {cs:List IV} {vs:List Value} {F:List Nat},UCells w m cs vs F→ICells (dD w) (cs.map unC) vs
 | _,_,_, .nil=>.nil
 | _,_,_, .lit o r=>.cons (.lit _) o (r.toI hm)
 | _,_,_, .isl0 c r=>.cons (.isl0 _ _ c) rfl (r.toI hm)
 | _,_,_, .isl hn hr hk hl hf hc g r=>by
  have:=(TCells.isl hn hr hk hl hf hc g .nil).toI
  cases this with
  | cons a _ _=>exact .cons a rfl (r.toI hm)
 | _,_,_, .kn a o r=>.cons (a.mono (qI hm)) o (r.toI hm)
theorem P8 {w:World} {m:Mem} {φ:Pl} {st:Store} {id k ix off:Nat} {x:Value} {iv:IV} (hi:Inv w m φ st) (hr:Rep m φ (.ownE id k ix off) x) (h:rF k ix off (st id)=some iv):IRep (dD w) iv x:=by
 cases hr with
 | @ownE _ _ _ _ b n e =>
  cases hst:st id with
  | none=>rw[hst]at h;simp[rF]at h
  | some blk =>
   rw[hst]at h;obtain⟨hb,hok⟩:=MF hi e hst
   have key:∀ {T:TypeId} {vs:List Value} {es:List (List IV)} {er:List IV},w.heap[b]?=some (.cells vs.toArray T (0,0))→(∀ r∈es,r.length=k)→ICells (dD w) es.flatten (vs.take (k*es.length))→es[ix]?=some er→off≤k→IRep (dD w) (.iref (dropE off er)) (.pointer (some ⟨b,k*ix+off,none⟩)):=by
    intro T vs es er hh hw hc h1 ho
    have he:IElems (dD w) b 0 k es:=fK 0 hw hc fun j v hj=>by
     show w.cell? ⟨b,0+j,none⟩=some v;rw[zF,aY hh];rw[zD]at hj;split at hj
     ·exact hj
     ·cases hj
    obtain⟨hat,hl⟩:=J2 he h1;have:=IAt.dropE off hat (by omega);rw[zF]at this;exact .iref this
   cases hok with
   | arr hh hl hpos hw1 hc hfit hm hown1 hone =>
    simp only[rF]at h;obtain⟨hk,h0⟩:=aO.1 h;obtain⟨rfl,ho⟩:=zR hk;obtain⟨er,h1,h2⟩:=aH.1 h0;injection h2 with h2;subst h2;rw[fI]at h1;exact key hh hw1 (hc.mono (qI hi.mem)) h1 ho
   | @tre T k' es vs F hh hl hpos hw1 hc hfit hnd hF hm hone =>
    simp only[rF]at h;obtain⟨hk,h0⟩:=aO.1 h;obtain⟨rfl,ho⟩:=zR hk;obtain⟨er,h1,h2⟩:=aH.1 h0;injection h2 with h2;subst h2;rw[fI]at h1;refine key (es:=es.map (List.map unC)) hh (fun r hr=>?_) ?_ (by rw[zB9,h1];rfl) ho
    ·obtain⟨r',hr',rfl⟩:=yK.1 hr;rw[zA3];exact hw1 r' hr'
    ·have:=hc.toI hi.mem;rw[List.map_flatten]at this;rw[zA3];exact this
   | _=>simp[rF]at h
theorem FY {w:World} {m:Mem} {φ:Pl} {st:Store} (hi:Inv w m φ st):∀ {cs us:List AV} {xs:List Value},RepL m φ cs xs→NG st cs=some us→RepL (dD w) (fun _=>none) us xs
 | [],us,_, .nil,h=>by simp[NG]at h;subst h;exact .nil
 | c::cs,us,_, .cons a b,h=>by
  simp only[NG]at h;obtain⟨v,h1,h2⟩:=aH.1 h;obtain⟨l',h3,h4⟩:=aH.1 h2;injection h4 with h4;subst h4;refine .cons (.i ?_) (FY hi b h3);unfold APG at h1;split at h1
  ·exact P8 hi a h1
  ·exact wU hi a h1
theorem KY {C:Ctx} {call:dB} (hcall:CallOk C call) {g:FuncId} {args:List AV} {stl stl':StL} {r:AV} (h:XL call g args stl=some (r,stl')) (hy:g≠lU:=by decide) :
 (∃ fn,C.P.funcs[g]?=some fn∧fn.name≠ "runtime.NumGoroutine"∧fn.body.isSome=true)∧∀ (w:World) (m:Mem) (φ:Pl) (vs:List Value),Inv w m φ (aR stl)→RepL m φ args vs→(∀ id,φ id≠none→id<stl.length) →
  Calls C.P g vs.toArray w (bF w m φ r stl'):=by
 unfold XL at h;obtain⟨us,h1,h2⟩:=aH.1 h;exact AP hcall (us:=us) (fun w m φ vs hi hr=>FY hi hr h1) h2 hy
end Go.Av
namespace Go.Av
open Go.Av.Mk
def rE (e:Ex):AV×StL:=if e.kids=[]then(.i (.agg e.cells),[])else(tE e 0,[some (nQ Ex.cells 5 e.kids)])
noncomputable def Y9:List AV→StL→Option (AV×StL)
 | [.i (.iref cs)],[]=>@dite _ (∃ e:Ex,e.size<1000000000∧e.cells=cs) (Classical.propDecidable _) (fun h=>some (rE h.choose)) fun _=>none
 | _,_=>none
theorem AMS {e:Ex} (h:e.size<1000000000):Y9 [.i (.iref e.cells)] []=some (rE e):=by
 have hh:∃ x:Ex,x.size<1000000000∧x.cells=e.cells:=⟨e,h,rfl⟩
 unfold Y9;simp only;rw[dif_pos hh,Ex.FD _ _ hh.choose_spec.2]
theorem ADG {args:List AV} {st:StL} {r:AV×StL} (h:Y9 args st=some r):∃ e:Ex,e.size<1000000000∧args=[.i (.iref e.cells)]∧st=[]∧r=rE e:=by
 unfold Y9 at h;split at h
 ·rename_i cs;by_cases hc:∃ e:Ex,e.size<1000000000∧e.cells=cs
  ·rw[dif_pos hc]at h;injection h with h;exact⟨hc.choose,hc.choose_spec.1,by rw[hc.choose_spec.2],rfl,h.symm⟩
  ·rw[dif_neg hc]at h;cases h
 ·cases h
theorem SS:∀ l:List IV,(mJ l).map unC=l
 | []=>rfl
 | c::l=>by simp only[mJ,yS,AKI,SS l]
theorem NB:∀ {l:List IV},mG l=true→mJ l=l
 | [],_=>rfl
 | c::l,h=>by
  simp only[mG,zT]at h;simp[mJ,WR,h.1,NB h.2]
theorem J8:∀ {l:List (List IV)},fO l=true→fV l=l
 | [],_=>rfl
 | c::l,h=>by
  simp only[fO,zT]at h;simp[fV,NB h.1,J8 h.2]
def MW (es:List Ex):Nat→Blk
 | 0=>.arr 5 (Ex.aB es)
 | i+1=>.tre 5 (Ex.aB (es.take (i+1))++fV (Ex.aB (es.drop (i+1))))
@[simp] theorem AVP (r:Nat→Option Nat) (es:List Ex):∀ i,CL r (some (MW es i))=some (MW es i)
  | 0=>rfl
  | _+1=>rfl
@[simp] theorem AS4 (es:List Ex):∀ i,iP (some (MW es i))=[]
  | 0=>rfl
  | _+1=>rfl
theorem ALT {es:List Ex} (h:es≠[]):MW es es.length=.tre 5 (Ex.aB es):=by
 cases hl:es.length with
 | zero=>exact absurd (zW.1 hl) h
 | succ n =>
  have h1:es.take (n+1)=es:=zZ (by omega);have h2:es.drop (n+1)=[]:=List.drop_eq_nil_of_le (by omega);simp[MW,h1,h2,Ex.aB,fV]
theorem ZU {es:List Ex} {i:Nat} {a:Ex} (h:es[i+1]?=some a):Ex.aB (es.take (i+1))++fV (Ex.aB (es.drop (i+1)))=Ex.aB (es.take (i+1))++mJ a.cells::fV (Ex.aB (es.drop (i+2))):=by
 obtain⟨hl,rfl⟩:=zY.1 h;rw[yE hl];rfl
theorem ZV {es:List Ex} {i:Nat} {a:Ex} (h:es[i]?=some a):(Ex.aB (es.take i)).length=i:=by
 have:=(zY.1 h).1;simp;omega
theorem AGY {es:List Ex} {i:Nat} {a:Ex} (h:es[i]?=some a):rF 5 i 0 (some (MW es i))=some (.iref a.cells):=by
 have hd:∀ l:List IV,dropE 0 l=l:=fun l=>by cases l<;>rfl
 cases i with
 | zero =>
  have:=Ex.aP h;simp[MW,rF,tst,bnd,this,hd]
 | succ i =>
  have h1:=o6 (Ex.aB (es.take (i+1))) (mJ a.cells) (fV (Ex.aB (es.drop (i+2))));rw[ZV h]at h1;simp only[MW,ZU h];simp[rF,tst,bnd,h1,hd,SS]
theorem ALS {es:List Ex} {i:Nat} {a:Ex} (h:es[i]?=some a) (id:Nat) (st:Store):eD id 5 i 0 a.cells st (some (MW es i))=some (upd st id (some (MW es (i+1)))):=by
 have hl:uI a.cells=false:=by rw[Ex.aA];simp[uI,ACS]
 have g3:splice a.cells 0 a.cells=some a.cells:=jQ rfl;have g4:splice (mJ a.cells) 0 a.cells=some a.cells:=jQ (by rw[BM])
 cases i with
 | zero =>
  cases es with
  | nil=>simp at h
  | cons x es =>
   simp at h;subst h;by_cases hb:fO (Ex.aB (x::es))=true
   ·have hb2:=hb;simp only[Ex.aB,fO,zT]at hb2;simp only[Ex.aB]at hb;simp[MW,eD,wK,bnd,tst,fI,g3,g4,hl,hb,Ex.aB,J8 hb2.2]
   ·simp only[Ex.aB]at hb;simp[MW,eD,wK,bnd,tst,fI,g3,g4,hl,hb,Ex.aB,fV]
 | succ i =>
  have hn:=ZV h;have h1:=o6 (Ex.aB (es.take (i+1))) (mJ a.cells) (fV (Ex.aB (es.drop (i+2))));rw[hn]at h1
  have h2:(Ex.aB (es.take (i+1))++mJ a.cells::fV (Ex.aB (es.drop (i+2)))).set (i+1) a.cells=Ex.aB (es.take (i+1))++a.cells::fV (Ex.aB (es.drop (i+2))):=by
   rw[zA1 _ _ (by omega),hn,zE0,zB5]
  have h3:Ex.aB (es.take (i+2))=Ex.aB (es.take (i+1))++[a.cells]:=by rw[aL h,Ex.aZ]
  simp only[MW,ZU h,h3,yY,List.singleton_append];simp[eD,bnd,tst,h1,g4,h2]
end Go.Av
namespace Go.Proofs.YtjdfjgmebalaaaaGreat.P
open Go Go.Av Go.Av.Mk
set_option maxRecDepth 4000
set_option maxHeartbeats 4000000
noncomputable def AQZ:FuncId→Option (List AV→StL→Option (AV×StL))
 | 92=>some Y9
 | _=>none
noncomputable def C3:Ctx:={ P:=Tryz.prog,G:=GS,ownArgs:=dC,keepRes:=keepR,eqT:=wS,prim:=AQZ,tree:=true }
theorem ALH:PrimOk C3:=by
 have key:∀ g q,C3.prim g=some q→g=92∧q=Y9:=by
  intro g q h;have h:AQZ g=some q:=h;unfold AQZ at h;split at h
  ·injection h with h;exact⟨rfl,h.symm⟩
  ·cases h
 constructor
 ·intro g args st p h;unfold bE at h
  cases hq:C3.prim g with
  | none=>rw[hq]at h;cases h
  | some q =>
   obtain⟨rfl,rfl⟩:=key g q hq;exact⟨Tryz.f92,Tryz.func92,by decide,rfl⟩
 ·intro g args stl r stl' h w m φ vs hi hr h0;unfold bE at h
  cases hq:C3.prim g with
  | none=>rw[hq]at h;cases h
  | some q =>
   obtain⟨rfl,rfl⟩:=key g q hq;rw[hq]at h;obtain⟨e,he,rfl,rfl,hres⟩:=ADG h;unfold rE at hres;split at hres
   ·injection hres with h1 h2;subst h1;subst h2;exact HV he hi hr h0
   ·rename_i hk;injection hres with h1 h2;subst h1;subst h2;exact Go.Av.V.Sx.YE he hk hi hr h0
theorem AV9:SoundOk C3:=gF (C:=C3) ft nt eqS mo ALH
attribute [local simp] XL XK NG APG mfA mfR AJS ALV mfC WG fP
theorem XJ {es:List Ex} {i:Nat} {a:Ex} (ha:es[i]?=some a) (hs:a.size<1000000000):XL (aI C3) 92 [.ownE 0 5 i 0] [some (MW es i)]=some (if a.kids=[]then .i (.agg a.cells)else tE a 1,if a.kids=[]then [some (MW es i)]else [some (MW es i),some (nQ Ex.cells 5 a.kids)]):=by
 have h1:aI C3 92 [.i (.iref a.cells)] []=some (rE a):=by
  rw[aU (C:=C3) (p:=Y9) rfl];exact AMS hs
 have h2:=AGY ha;by_cases hk:a.kids=[]
 ·simp only[rE,hk,if_true]at h1 ⊢;rw[Ex.aA,hk]at h1 h2 ⊢;simp only[Ex.aB]at h1 h2 ⊢;simp[h1,h2]
 ·simp only[rE,hk,if_false]at h1 ⊢;simp[h1,h2,tE]
end Go.Proofs.YtjdfjgmebalaaaaGreat.P
namespace Go.Proofs.YtjdfjgmebalaaaaGreat.G
open Go Go.Av
set_option maxRecDepth 4000
set_option maxHeartbeats 4000000
noncomputable def AR0:FuncId→Option (List AV→StL→Option (AV×StL))
 | 92=>some (XL (aI P.C3) 92)
 | _=>none
noncomputable def C2:Ctx:={ P:=Tryz.prog,G:=GS,ownArgs:=dC,keepRes:=keepR,eqT:=wS,prim:=AR0,tree:=true }
@[simp] theorem AqS:C2.P=Tryz.prog:=(rfl)
@[simp] theorem AqT (f):C2.G f=GS f:=(rfl)
@[simp] theorem AqP (f):C2.ownArgs f=dC f:=(rfl)
@[simp] theorem AqQ (f):C2.keepRes f=keepR f:=(rfl)
@[simp] theorem AqR (f):C2.eqT f=wS f:=(rfl)
@[simp] theorem AqO:C2.tree=true:=(rfl)
theorem ALI:PrimOk C2:=by
 have h3:=aS P.AV9
 have key:∀ g q,C2.prim g=some q→g=92∧q=XL (aI P.C3) g:=by
  intro g q h;have h:AR0 g=some q:=h;unfold AR0 at h;split at h
  ·injection h with h;exact⟨rfl,h.symm⟩
  ·cases h
 constructor
 ·intro g args st p h;unfold bE at h
  cases hq:C2.prim g with
  | none=>rw[hq]at h;cases h
  | some q =>
   obtain⟨rfl,rfl⟩:=key g q hq;rw[hq]at h;exact(KY h3 (r:=p.1) (stl':=p.2) h).1
 ·intro g args stl r stl' h w m φ vs hi hr h0;unfold bE at h
  cases hq:C2.prim g with
  | none=>rw[hq]at h;cases h
  | some q =>
   obtain⟨rfl,rfl⟩:=key g q hq;rw[hq]at h;exact(KY h3 h).2 w m φ vs hi hr h0
theorem kJ:SoundOk C2:=gF (C:=C2) ft nt eqS mo ALI
theorem AXF:aI C2 91 [.i (.isl [])] []=some (.nils,[]):=by
 rw[aF rfl Tryz.func91 rfl rfl];simp
theorem ASO {ks:List Ex} (h:ks≠[]) (hl:ks.length<1000000000):aI C2 91 [.i (.isl (Ex.aB ks))] []=some (.osl 0 5 0 ks.length,[some (.arr 5 (Ex.aB ks))]):=by
 rw[aF rfl Tryz.func91 rfl rfl];have h1:56*(ks.length:Int)≤281474976710656:=by omega
 simp[h,h1];unfold over;simp
theorem AP7:aI C2 93 [.i (.isl [])] []=some (.nils,[]):=by
 rw[aF rfl Tryz.func93 rfl rfl];simp
theorem AIG {l:List Int} (h:l≠[]) (hl:l.length<1000000000):aI C2 93 [.i (.isl (aD l))] []=some (.osl 0 1 0 l.length,[some (.arr 1 (aD l))]):=by
 rw[aF rfl Tryz.func93 rfl rfl];have h1:8*(l.length:Int)≤281474976710656:=by omega
 simp[h,h1];unfold over;simp
theorem AAT:aI C2 94 [.i (.isl [])] []=some (.nils,[]):=by
 rw[aF rfl Tryz.func94 rfl rfl];simp
theorem QR {ks:List Pn} (h:ks≠[]) (hl:ks.length<1000000000):aI C2 94 [.i (.isl (Pn.aB ks))] []=some (.osl 0 5 0 ks.length,[some (.arr 5 (Pn.aB ks))]):=by
 rw[aF rfl Tryz.func94 rfl rfl];have h1:88*(ks.length:Int)≤281474976710656:=by omega
 simp[h,h1];unfold over;simp
theorem AXE {es:List Ex} {i:Nat} {a:Ex} (ha:es[i]?=some a) (hs:a.size<1000000000):aI C2 92 [.ownE 0 5 i 0] [some (MW es i)]=some (if a.kids=[]then .i (.agg a.cells)else tE a 1,if a.kids=[]then [some (MW es i)]else [some (MW es i),some (Mk.nQ Ex.cells 5 a.kids)]):=by
 rw[aU (C:=C2) (p:=XL (aI P.C3) 92) rfl];exact P.XJ ha hs
def zp:List AV:=[.int 0, .int 0, .nils, .nils, .nils]
def EV (b3:Nat) (v4 v5 v6 v7 v14 v38 v39 v40 v76 v77 v78:AV):List (Nat×AV):=[(0, .junk),(2, .own 0 0),(3, .i (ptr (b3,0))),(4,v4),(5,v5),(6,v6),(7,v7),(14,v14),(38,v38),(39,v39),(40,v40),(76,v76),(77,v77),(78,v78)]
def mM (l:PL):List (List IV):=l.map fun k=>[ptr k.1]
def SLp (b3:Nat) (todo X:PL):AS:={ env:=EV b3 (.osl 1 1 0 todo.length) .junk .junk .junk .junk .junk .junk .junk .junk .junk .junk,st:=[some (.box zp),some (.arr 1 (mM (todo++X)))] }
def SRp (b3 n o:Nat) (ES:List (List IV)) (v6 v7 v14 v38 v39 v40 v76 v77 v78:AV) (cells:List AV) (L:StL):AS:={ env:=EV b3 (.osl 1 1 0 n) (.own 2 o) v6 v7 v14 v38 v39 v40 v76 v77 v78,st:=some (.box zp)::some (.arr 1 ES)::some (.box cells)::L }
theorem PS:∀ (l:PL),∀ c∈(mM l).flatten,∃ v,c=.lit v
 | [],c,h=>by simp[mM]at h
 | k::l,c,h=>by
  simp only[mM,yS,yZ,zV,xB]at h
  rcases h with rfl|h
  ·exact⟨_,rfl⟩
  ·exact PS l c h
theorem JO (a b x:Option Blk):upd (aR [a,b]) 2 x=aR [a,b,x]:=by
 funext i;rcases i with _|_|_|i<;>simp[aR,upd]
theorem AaX (b3:Nat) (v4 v5 v5' v6 v7 v14 v38 v39 v40 v76 v77 v78:AV):upd (aN (EV b3 v4 v5 v6 v7 v14 v38 v39 v40 v76 v77 v78)) 5 v5'=aN (EV b3 v4 v5' v6 v7 v14 v38 v39 v40 v76 v77 v78):=by
 funext t;simp only[upd,EV,aN];by_cases h5:t=5
 ·subst h5;simp
 ·simp only[h5,if_false]
def XS (b3 n:Nat) (ES:List (List IV)) (pre post:List Value) (k t:Int) (es:List Ex) (aC aK:AV) (v14:AV) (i:Nat):AS :=
 SRp b3 n pre.length ES (jk i (.int (i-1))) .junk v14 (.int es.length) (.int i) (jk i (.bool true)) .junk .junk .junk (jH pre [.int k, .int t, .osl 3 5 0 es.length,aC,aK] post) [some (MW es i)]
set_option maxHeartbeats 8000000
def jj:List (Nat×AV):=[(4, .junk),(5, .junk),(6, .junk),(7, .junk),(14, .junk),(38, .junk),(39, .junk),(40, .junk),(76, .junk),(77, .junk),(78, .junk)]
theorem jE:AEO (fun _ _ _=>True):=fun _ _ _ _ _ _ _ _=>trivial
theorem APD:IntKind.i64.wrap 1=1:=wrO
def RWp (init:PL) (b' i:Nat):List (List IV):=mM init++(List.range i).map fun j=>[ptr (b',j*5)]
theorem AJI (init:PL) (b' i:Nat):(RWp init b' i).length=init.length+i:=by simp[RWp,mM]
theorem ANK (init:PL) (b' i:Nat):RWp init b' i++[[ptr (b',i*5)]]=RWp init b' (i+1):=by simp[RWp,zB7]
theorem O7 (b:Nat):∀ (o:Nat) (l:List Pn),mM (nH b o l)=(List.range l.length).map fun j=>[ptr (b,o+j*5)]
 | _,[]=>by simp[nH,mM]
 | o,a::l=>by
  have ih:=O7 b (o+5) l;simp only[mM]at ih ⊢;simp only[nH,yS,ih,zQ,zD3,List.map_map];simp only[List.cons.injEq,Nat.zero_mul,xQ,true_and];apply zC7;intro j _;simp only[Function.comp,Nat.succ_eq_add_one];rw[show o+5+j*5=o+(j+1)*5 by omega]
theorem UO (b:Nat):∀ (o:Nat) (l:List Pn),(nH b o l).length=l.length
 | _,[]=>rfl
 | o,a::l=>by simp[nH,UO b (o+5) l]
theorem UM (b:Nat):∀ (o:Nat) (l:List Pn),((nH b o l).map fun k=>k.2.size).sum=Pn.aM l
 | _,[]=>by simp[nH,Pn.aM]
 | o,a::l=>by simp[nH,Pn.aM,UM b (o+5) l]
theorem UN {b:Nat}:∀ {o:Nat} {l:List Pn},∀ q∈nH b o l,q.2∈l∧q.1.1=b
 | _,[],q,h=>by simp[nH]at h
 | o,a::l,q,h=>by
  simp only[nH,zS]at h
  rcases h with rfl|h
  ·simp
  ·have:=UN q h;exact⟨by simp[this.1],this.2⟩
def iE (es:List Ex):Nat:=if es.length=0 then 100 else 3
def lE0 (es:List Ex):StL:=if es.length=0 then []else [some (.arr 5 (Ex.aB es))]
def lE (es:List Ex):StL:=if es.length=0 then []else [some (.tre 5 (Ex.aB es))]
def iC (es:List Ex) (cs:List Int):Nat:=if cs.length=0 then 101 else 3+(lE es).length
def lC (es:List Ex) (cs:List Int):StL:=if cs.length=0 then lE es else lE es++[some (.arr 1 (aD cs))]
def iK (es:List Ex) (cs:List Int) (ks:List Pn):Nat:=if ks.length=0 then 102 else 3+(lC es cs).length
def lK (es:List Ex) (cs:List Int) (ks:List Pn):StL:=if ks.length=0 then lC es cs else lC es cs++[some (.arr 5 (Pn.aB ks))]
def YP (b3 n o:Nat) (ES:List (List IV)) (init:PL) (b' nk:Nat) (cells:List AV) (i:Nat):AS :=
 { env:=EV b3 (if i=0 then .osl 1 1 0 n else .osl 3 1 0 (n+i)) (.own 2 o) .junk (jk i (.int (i-1))) (.bool true) .junk .junk .junk (.int nk) (.int i) (jk i (.bool true)),
   st:=some (.box zp)::(if i=0 then some (.arr 1 ES)else none)::some (.box cells)::(if i=0 then []else [some (.arr 1 (RWp init b' i))]) }
theorem AFK (a b c:Option Blk):∀ (l:StL) {x:Option Blk},aR (a::b::c::(l++[x])) (3+l.length)=x:=by
 intro l x;rw[rM]
 have:(a::b::c::(l++[x]))[3+l.length]?=some x:=by
  rw[show 3+l.length=l.length+1+1+1 by omega];simp
 rw[this];rfl
theorem iQ {p:Pn} (hsz:p.size<1000000000) (hth:p.thin) (hty:p.tiny) {wi:World} {mi:Mem} {vs:List Value} (hi:Inv wi mi (fun _=>none) (aR [])) (hr:RepL mi (fun _=>none) [.i (.iref p.cells)] vs) :
 Calls Tryz.prog 59 vs.toArray wi (uZ wi mi p):=by
 refine calls_of_wp (fn:=Tryz.f59) Tryz.func59 rfl ?_;have hv1:vs.length=1:=by simpa using hr.length.symm
 have g0:GR wi mi 91 (fun id=>id<({ env:=[(0, .i (.iref p.cells))],st:=[] }:AS).st.length) (fun _ _ _=>True) (aN [(0, .i (.iref p.cells))]) (aR []) { tmps:=vs.toArray++Array.replicate (91-vs.toArray.size) undef,defers:=[] } wi:=by
  refine⟨⟨mi,fun _=>none,hi,?_, .refl _ _ _,fun id h=>absurd rfl h,trivial⟩,by simp;omega,rfl⟩;intro t;have:=kR (m:=mi) (φ:=fun _=>none) (91-vs.toArray.size) hr t
  cases t with
  | zero=>simpa [aN,qU]using this
  | succ t=>simp only[aN];simp;exact .junk _
 refine wp_seq (wp_mono (GR.dW kJ (G:=GS 59) (S:={ env:=[(0, .i (.iref p.cells))],st:=[] }) (e:=.normal) (S':={ env:=[(0, .i (.iref p.cells)),(2, .own 0 0),(3, .junk)]++jj,st:=[some (.box zp)] }) jE (by kernel_rfl) (by simp[zp,jj]) g0) ?_);rintro _ a1 w1 ⟨rfl,g1⟩;refine wp_seq (wp_mono (GR.dW kJ (G:=GS 59) (S:={ env:=[(0, .i (.iref p.cells)),(2, .own 0 0),(3, .junk)]++jj,st:=[some (.box zp)] }) (e:=.normal) (S':={ env:=[(0, .i (.iref p.cells)),(2, .own 0 0),(3, .own 1 0)]++jj,st:=[some (.box zp),some (.box (jW p.cells))] }) jE (by kernel_rfl) (by rw[Pn.aA];simp[zp,jj]) g1) ?_);rintro _ a2 w2 ⟨rfl,g2⟩
 obtain⟨b3,g3⟩:=g2.AcU (u:=3) (id:=1) (p:=p) (st':=aR [some (.box zp)]) rfl rfl (by
  intro i blk h
  cases i with
  | zero=>simp[aR]at h;subst h;exact⟨by omega,rfl,by simp[gT,zp]⟩
  | succ i=>simp[aR]at h)
 have g3:=g3 (aN [(2, .own 0 0),(3, .i (ptr (b3,0)))]) (by
  intro t;simp only[aN];by_cases h2:t=2
  ·subst h2;exact .inr (.inr ⟨rfl,by simp[aN,kD,aR,jj]⟩)
  ·by_cases h3:t=3
   ·subst h3;exact .inr (.inl ⟨rfl,rfl⟩)
   ·simp[h2,h3])
 have g3:=g3.ok' (ok':=fun id=>id<({ env:=[(2, .own 0 0),(3, .i (ptr (b3,0)))],st:=[some (.box zp)] }:AS).st.length) (by
  intro i h
  cases i with
  | zero=>simp
  | succ i=>simp[aR]at h)
 refine wp_seq (wp_mono (GR.dW kJ (G:=GS 59) (S:={ env:=[(2, .own 0 0),(3, .i (ptr (b3,0)))],st:=[some (.box zp)] }) (e:=.normal) (S':=SLp b3 [((b3,0),p)] []) (RAW.EK _ _ _ _ _) (by kernel_rfl) (by simp[SLp,EV,mM,ptr,zp]) g3) ?_);rintro _ a3 w3 ⟨rfl,g4⟩;clear g0 g1 g2 g3;refine wp_seq (wp_block ?_);refine tQ (fun n a w=>∃ (todo X H:PL) (F:List Nat),H.Perm todo∧(todo.map fun k=>k.2.size).sum=n∧n<1000000000∧(∀ q∈todo,q.2.thin∧q.2.tiny)∧GR wi mi 91 (fun id=>id<(SLp b3 todo X).st.length) (RAW wi b3 p F H) (aN (SLp b3 todo X).env) (aR (SLp b3 todo X).st) a w) ?_ (n:=p.size) ⟨[((b3,0),p)],[],[((b3,0),p)],[], .refl _,by simp,hsz,by simpa using ⟨hth,hty⟩,g4⟩;clear g4;rintro n a w ⟨todo,X,H,F,hperm,hsum,hn,hall,g⟩
 rcases zC1 todo with rfl|⟨init,k,rfl⟩
 ·obtain rfl:=List.perm_nil.1 hperm;refine wp_mono (GR.dW kJ (G:=GS 59) (S:=SLp b3 [] X) (e:=.exit 0) (S':={ env:=EV b3 (.osl 1 1 0 0) .junk .junk .junk (.bool false) .junk .junk .junk .junk .junk .junk,st:=[some (.box zp),some (.arr 1 (mM X))] }) (RAW.EK _ _ _ _ _) (by kernel_rfl) (by simp[SLp,EV,zp]) g) ?_;rintro _ a5 w5 ⟨rfl,g5⟩;simp only[iF,Exit.then,Exit.inBlock,if_true];obtain⟨v0,v1,v2,v3,v4,post,hone,g6⟩:=g5.APB (u:=3) (k:=2) rfl rfl (by simp)
  have g6:=(g6 (aN [(2, .own 0 0),(3, .own 2 0)]) (by
   intro t;simp only[aN];by_cases h2:t=2
   ·subst h2;exact .inr (.inr (by simp[aN,EV]))
   ·by_cases h3:t=3
    ·subst h3;exact .inr (.inl ⟨rfl,rfl⟩)
    ·simp[h2,h3])).ok' (ok':=fun id=>id<({ env:=[(2, .own 0 0),(3, .own 2 0)],st:=[some (.box zp),some (.arr 1 (mM X)),some (.box (bI [v0,v1,v2,v3,v4]++bI post))] }:AS).st.length) (by
   intro i h
   simp at h ⊢;omega)
  rw[JO]at g6
  refine wp_mono (GR.dW kJ (G:=GS 59) (S:={ env:=[(2, .own 0 0),(3, .own 2 0)],st:=[some (.box zp),some (.arr 1 (mM X)),some (.box (bI [v0,v1,v2,v3,v4]++bI post))] }) (e:=.ret) (S':={ env:=[(0, .junk),(2, .own 0 0),(3, .own 2 0)]++jj,st:=[some (.box (bI [v0,v1,v2,v3,v4])),some (.arr 1 (mM X)),some (.box (bI [v0,v1,v2,v3,v4]++bI post))] }) (CPY.EK _ _ _ _ _ _ _ _) (by kernel_rfl) (by
   have hz:bI [v0,v1,v2,v3,v4]=[.i (.lit v0), .i (.lit v1), .i (.lit v2), .i (.lit v3), .i (.lit v4)]:=rfl;rw[hz]
   simp[zp,jj,AQ,EN]) g6) ?_
  rintro _ a6 w6 ⟨rfl,g7⟩;obtain⟨⟨m,φ,q1,q2,q3,q4,q5⟩,q6,q7⟩:=g7
  obtain⟨v,k1,k2⟩:=eU (C:=C2) (fn:=Tryz.f59) (keep:=false) (na:=0) (S:={ env:=[(0, .junk),(2, .own 0 0),(3, .own 2 0)]++jj,st:=[some (.box (bI [v0,v1,v2,v3,v4])),some (.arr 1 (mM X)),some (.box (bI [v0,v1,v2,v3,v4]++bI post))] }) (r:=.i (.agg [.lit v0, .lit v1, .lit v2, .lit v3, .lit v4])) (stl':=[]) (fun id h=>absurd rfl h) ⟨⟨⟨m,φ,q1,q2,q3,q4, .nil _ _ _⟩,q6,q7⟩,zB0 _⟩ (by
   show finish C2 false [ResultVar.cell 2 34] 0 _=_;have hz:bI [v0,v1,v2,v3,v4]=[.i (.lit v0), .i (.lit v1), .i (.lit v2), .i (.lit v3), .i (.lit v4)]:=rfl;rw[hz]
   simp)
  have hv:v=.agg #[v0,v1,v2,v3,v4]:=by
   obtain⟨_,_,_,e,r,_⟩:=k2;injection e with e;subst e
   cases r with
   | i r=>cases r with
    | agg r =>
     cases r with|cons a0 _ r=>cases r with|cons a1 _ r=>cases r with|cons a2 _ r=>cases r with|cons a3 _ r=>cases r with|cons a4 _ r =>
     cases r
     rw[gY a0,gY a1,gY a2,gY a3,gY a4]
  subst hv;refine⟨q7,_,k1,v0,v1,v2,v3,v4,F,m,rfl,hone,q1.mem,⟨q3.size,q3.os,q3.tape,q3.output,q3.block,q3.mle,q3.mnew, .refl _,fun _ _ _ _ e=>by cases e⟩,q5.th,q5.cells,q5.nd,fun f hf=>?_,q5.kc⟩;obtain⟨z1,z2,z3,z4,z5⟩:=q5.all f hf;exact⟨z1,z2,(by intro _ _ _ e;cases e),z4,z5⟩
 ·obtain⟨⟨b,o⟩,x⟩:=k;rw[List.concat_eq_append]at hperm hsum hall g
  have hlen:∀ l:PL,l.length≤(l.map fun k=>k.2.size).sum:=by
   intro l
   induction l with
   | nil=>simp
   | cons a l ih=>have:=Pn.mZ a.2;simp;omega
  have hil:=hlen init;simp at hsum;have hq:((b,o),x)∈H:=hperm.mem_iff.2 (by simp);have hxs:=Pn.size_eq x;have hkl:=Pn.bP x.kids;have hpos:(0:Int)<(init.length:Int)+1:=by omega
  have w1:IntKind.i64.wrap (init.length:Int)=init.length:=wrO;generalize hES:mM (init++[((b,o),x)]++X)=ES at *
  have hnth:fU ES init.length=some [ptr (b,o)]:=by
   rw[fI,← hES];simp[mM]
  have hlit:∀ c∈ES.flatten,∃ v,c=.lit v:=by rw[← hES];exact PS _
  have htake:ES.take init.length=mM init:=by rw[← hES];simp[mM]
  have hESl:init.length≤ES.length:=by rw[← hES];simp[mM]
  have hlt:(init.length:Int)<(init.length:Int)+1:=by omega
  have hlt2:(init.length:Int)≤(init.length:Int)+1:=by omega
  obtain⟨hxt,hxy⟩:=hall ((b,o),x) (by simp);simp only at hxt hxy;refine wp_seq (wp_mono (GR.dW kJ (G:=GS 59) (S:=SLp b3 (init++[((b,o),x)]) X) (e:=.normal) (S':={ env:=EV b3 (.osl 1 1 0 (init.length+1)) .junk .junk .junk (.bool true) .junk .junk .junk .junk .junk .junk,st:=[some (.box zp),some (.arr 1 ES)] }) (RAW.EK _ _ _ _ _) (by kernel_rfl) (by simp only[SLp,hES];simp[EV,zp,hpos]) g) ?_);rintro _ a5 w5 ⟨rfl,g5⟩;clear g;refine wp_block ?_;refine wp_seq (wp_mono (GR.dW kJ (G:=GS 59) (S:={ env:=EV b3 (.osl 1 1 0 (init.length+1)) .junk .junk .junk (.bool true) .junk .junk .junk .junk .junk .junk,st:=[some (.box zp),some (.arr 1 ES)] }) (e:=.normal) (S':={ env:=EV b3 (.osl 1 1 0 (init.length+1)) (.i (ptr (b,o))) .junk .junk (.bool true) .junk .junk .junk .junk .junk .junk,st:=[some (.box zp),some (.arr 1 ES)] }) (RAW.EK _ _ _ _ _) (by kernel_rfl) (by simp only[ptr]at hnth;simp[EV,ptr,zp,hnth,w1,hlt]) g5) ?_);rintro _ a6 w6 ⟨rfl,g6⟩;clear g5;refine wp_seq (wp_mono (GR.dW kJ (G:=GS 59) (S:={ env:=EV b3 (.osl 1 1 0 (init.length+1)) (.i (ptr (b,o))) .junk .junk (.bool true) .junk .junk .junk .junk .junk .junk,st:=[some (.box zp),some (.arr 1 ES)] }) (e:=.normal) (S':={ env:=EV b3 (.osl 1 1 0 init.length) (.i (ptr (b,o))) .junk .junk (.bool true) .junk .junk .junk .junk .junk .junk,st:=[some (.box zp),some (.arr 1 ES)] }) (RAW.EK _ _ _ _ _) (by kernel_rfl) (by simp[EV,ptr,zp,w1,hlt2]) g6) ?_);rintro _ a7 w7 ⟨rfl,g7⟩;clear g6;obtain⟨pre,post,us,ma,e1,e2,e3,e4,e5,g8⟩:=g7.adopt (u:=5) (y:=x) rfl (by simp) hq rfl;clear g7;rw[AaX,JO]at g8;subst e3;obtain⟨kd,tb,es,cs,ks⟩:=x;obtain⟨t1,t2,t3,t4,t5⟩:=(Pn.bO _).1 hxt;obtain⟨y1,y2⟩:=(Pn.PE _).1 hxy;simp only[Pn.fQ,Pn.cB,Pn.eT]at t1 t2 t3 t4 t5 y1 y2 hxs hkl;rw[Pn.dX]at g8;have hst:=ADP.EK wi b3 p F H b us w7 ma
  refine wp_seq (wp_mono (GR.dW kJ (G:=GS 59) (S:=SRp b3 init.length pre.length ES .junk .junk (.bool true) .junk .junk .junk .junk .junk .junk (jH pre [.int kd, .int tb, .i (.isl (Ex.aB es)), .i (.isl (aD cs)), .i (.isl (Pn.aB ks))] post) []) (e:=.normal) (S':=SRp b3 init.length pre.length ES .junk .junk (.bool true) .junk .junk .junk .junk .junk .junk (jH pre [.int kd, .int tb,slA es.length (iE es) 5, .i (.isl (aD cs)), .i (.isl (Pn.aB ks))] post) (lE0 es)) hst (by kernel_rfl) (by
   by_cases he:es=[]
   ·subst he;simp[SRp,EV,zp,APS,X5,bD,bV,Ex.aB,AXF,slA,lE0]
   ·have hel:es.length≠0:=fun h=>he (zW.1 h)
    simp[SRp,EV,zp,APS,X5,bD,bV,ASO he t1,slA,lE0,iE,he]) (g8.ok' fun id h=>by simp at h ⊢;simp[SRp];omega)) ?_)
  rintro _ a9 w9 ⟨rfl,g9⟩;clear g8
  refine wp_seq (wp_mono (GR.AXB kJ (G:=GS 59) (S:=SRp b3 init.length pre.length ES .junk .junk (.bool true) .junk .junk .junk .junk .junk .junk (jH pre [.int kd, .int tb,slA es.length (iE es) 5, .i (.isl (aD cs)), .i (.isl (Pn.aB ks))] post) (lE0 es)) hst
   (PP:=fun e S'=>e=.normal∧∃ v6 v38 v39 v40,S'=SRp b3 init.length pre.length ES v6 .junk (.bool true) v38 v39 v40 .junk .junk .junk (jH pre [.int kd, .int tb,slA es.length (iE es) 5, .i (.isl (aD cs)), .i (.isl (Pn.aB ks))] post) (lE es)) (by kernel_rfl) (by
   by_cases he:es=[]
   ·subst he;refine⟨.normal,SRp b3 init.length pre.length ES .junk .junk (.bool true) (.int 0) (.int 0) (.bool false) .junk .junk .junk (jH pre [.int kd, .int tb,slA 0 (iE []) 5, .i (.isl (aD cs)), .i (.isl (Pn.aB ks))] post) (lE []),?_,rfl,_,_,_,_,rfl⟩;simp[SRp,EV,zp,APS,X5,bD,bV,slA,lE,lE0];rw[aG];simp[bD,bV]
   ·have hel:es.length≠0:=fun h=>he (zW.1 h)
    refine⟨.normal,SRp b3 init.length pre.length ES (.int (es.length-1)) .junk (.bool true) (.int es.length) (.int es.length) (.bool false) .junk .junk .junk (jH pre [.int kd, .int tb,slA es.length (iE es) 5, .i (.isl (aD cs)), .i (.isl (Pn.aB ks))] post) (lE es),?_,rfl,_,_,_,_,rfl⟩;simp[SRp,EV,zp,APS,X5,bD,bV,slA,lE,lE0,iE,he];rw[aT (XS b3 init.length ES pre post kd tb es (.i (.isl (aD cs))) (.i (.isl (Pn.aB ks))) (.bool true)) es.length (by simp[XS,SRp,EV,zp,MW])]
    ·rw[aG];have hend:=ALT he;simp[hend,XS,SRp,EV,zp,APS,X5,bD,bV,bU hel]
    ·intro i hi;have h3:=zX hi;have hs:=y1 _ (zU h3);generalize es[i]=a at h3 hs;have hk:=AXE h3 hs;have hput:=ALS h3;have w2:IntKind.i64.wrap ((i:Int)+1)=i+1:=wrO;by_cases hkk:a.kids=[]
     ·simp only[hkk,if_true,Ex.aA,Ex.aB]at hk hput;simp[XS,SRp,EV,zp,APS,X5,bD,bV,hi,hk,w2,hput]
     ·simp only[hkk,if_false,tE]at hk;simp only[Ex.aA,Ex.bS]at hput
      simp[XS,SRp,EV,zp,APS,X5,bD,bV,hi,hk,w2,hput]) g9) ?_)
  rintro _ a10 w10 ⟨e,S',rfl,⟨rfl,v6,v38,v39,v40,rfl⟩,g10⟩;clear g9
  have g10:=(g10.envTo (env':=aN (SRp b3 init.length pre.length ES .junk .junk (.bool true) .junk .junk .junk .junk .junk .junk (jH pre [.int kd, .int tb,slA es.length (iE es) 5, .i (.isl (aD cs)), .i (.isl (Pn.aB ks))] post) (lE es)).env) (by
   intro t;simp only[SRp,EV,aN];by_cases h6:t=6
   ·subst h6;simp
   by_cases h38:t=38
   ·subst h38;simp
   by_cases h39:t=39
   ·subst h39;simp
   by_cases h40:t=40
   ·subst h40;simp
   ·simp[h6,h38,h39,h40]))
  refine wp_seq (wp_mono (GR.dW kJ (G:=GS 59) (S:=SRp b3 init.length pre.length ES .junk .junk (.bool true) .junk .junk .junk .junk .junk .junk (jH pre [.int kd, .int tb,slA es.length (iE es) 5, .i (.isl (aD cs)), .i (.isl (Pn.aB ks))] post) (lE es)) (e:=.normal) (S':=SRp b3 init.length pre.length ES .junk .junk (.bool true) .junk .junk .junk .junk .junk .junk (jH pre [.int kd, .int tb,slA es.length (iE es) 5,slA cs.length (iC es cs) 1, .i (.isl (Pn.aB ks))] post) (lC es cs)) hst (by kernel_rfl) (by
   by_cases he:es=[]<;>by_cases hc:cs=[]
   ·subst he;subst hc;simp[SRp,EV,zp,AY4,AL0,bD,bV,aD,AP7,slA,lE,lC]
   ·have hcl:cs.length≠0:=fun h=>hc (zW.1 h)
    subst he;simp[SRp,EV,zp,AY4,AL0,bD,bV,AIG hc t3,slA,lE,lC,iC,hc]
   ·have hel:es.length≠0:=fun h=>he (zW.1 h)
    subst hc;simp[SRp,EV,zp,AY4,AL0,bD,bV,aD,AP7,slA,lE,lC,iE,he]
   ·have hel:es.length≠0:=fun h=>he (zW.1 h)
    have hcl:cs.length≠0:=fun h=>hc (zW.1 h)
    simp[SRp,EV,zp,AY4,AL0,bD,bV,AIG hc t3,slA,lE,lC,iE,iC,he,hc]) g10) ?_)
  rintro _ a11 w11 ⟨rfl,g11⟩;clear g10
  refine wp_seq (wp_mono (GR.dW kJ (G:=GS 59) (S:=SRp b3 init.length pre.length ES .junk .junk (.bool true) .junk .junk .junk .junk .junk .junk (jH pre [.int kd, .int tb,slA es.length (iE es) 5,slA cs.length (iC es cs) 1, .i (.isl (Pn.aB ks))] post) (lC es cs)) (e:=.normal) (S':=SRp b3 init.length pre.length ES .junk .junk (.bool true) .junk .junk .junk .junk .junk .junk (jH pre [.int kd, .int tb,slA es.length (iE es) 5,slA cs.length (iC es cs) 1,slA ks.length (iK es cs ks) 5] post) (lK es cs ks)) hst (by kernel_rfl) (by
   by_cases he:es=[]<;>by_cases hc:cs=[]<;>by_cases hk:ks=[]
   all_goals (try subst he)
   all_goals (try subst hc)
   all_goals (try subst hk)
   ·simp[SRp,EV,zp,ABO,TL,bD,bV,Pn.aB,AAT,slA,lE,lC,lK]
   ·simp[SRp,EV,zp,ABO,TL,bD,bV,QR hk t4,slA,lE,lC,lK,iK,hk]
   ·simp[SRp,EV,zp,ABO,TL,bD,bV,Pn.aB,AAT,slA,lE,lC,lK,iC,hc]
   ·simp[SRp,EV,zp,ABO,TL,bD,bV,QR hk t4,slA,lE,lC,lK,iC,iK,hc,hk]
   ·simp[SRp,EV,zp,ABO,TL,bD,bV,Pn.aB,AAT,slA,lE,lC,lK,iE,he]
   ·simp[SRp,EV,zp,ABO,TL,bD,bV,QR hk t4,slA,lE,lC,lK,iE,iK,he,hk]
   ·simp[SRp,EV,zp,ABO,TL,bD,bV,Pn.aB,AAT,slA,lE,lC,lK,iE,iC,he,hc]
   ·simp[SRp,EV,zp,ABO,TL,bD,bV,QR hk t4,slA,lE,lC,lK,iE,iC,iK,he,hc,hk]) g11) ?_)
  rintro _ a12 w12 ⟨rfl,g12⟩;clear g11
  obtain⟨F',H',us',b',cap,vE,vC,m2,hpm,hus,hone,hbn,g13⟩:=g12.AZN (u:=5) (st':=aR [some (.box zp),some (.arr 1 ES)]) (env':=aN (EV b3 (.osl 1 1 0 init.length) (.own 2 pre.length) .junk .junk (.bool true) .junk .junk .junk .junk .junk .junk)) (idE:=iE es) (idC:=iC es cs) (idK:=iK es cs ks) (oq:=pre.length) e1 e2 rfl e4 hq rfl
   (fun h=>by simp[SRp,iE,lE,lC,lK,h];split<;>split<;>simp[aR])
   (fun h=>by simp only[SRp,iC,lC,lK,h,if_false];cases hh:lE es with
    | nil=>split<;>simp[aR]
    | cons a l =>
     have:l=[]:=by unfold lE at hh;split at hh<;>simp_all
     subst this;split<;>simp[aR])
   (fun h=>by simp only[SRp,iK,lK,h,if_false];exact AFK _ _ _ _)
   (by unfold iE iC iK lC lE;repeat' split<;>simp_all)
   (by
    intro i blk h
    rcases i with _|_|i
    ·simp[aR]at h;subst h;exact⟨by omega,rfl,by simp[gT,zp]⟩
    ·simp[aR]at h;subst h;exact⟨by omega,rfl,hlit⟩
    ·simp[aR]at h)
   (by
    intro t;simp only[SRp,EV,aN];by_cases h0:t=0
    ·subst h0;simp
    by_cases h2:t=2
    ·subst h2;exact .inr ⟨by simp, .inr (by simp[kD,aR])⟩
    by_cases h3:t=3
    ·subst h3;exact .inr ⟨by simp, .inr (by simp[kD,ptr])⟩
    by_cases h4:t=4
    ·subst h4;exact .inr ⟨by simp, .inr (by simp[kD,aR])⟩
    by_cases h5:t=5
    ·subst h5;exact .inr ⟨by simp, .inl (by simp)⟩
    by_cases h14:t=14
    ·subst h14;exact .inr ⟨by simp, .inr (by simp[kD])⟩
    simp[h0,h2,h3,h4,h5,h14])
  clear g12;rw[JO]at g13;have hbx:bI us'=jH pre [.i (.lit (.int .i64 kd)), .i (.lit (.int .i64 tb)), .i (.lit vE), .i (.lit vC), .i (.lit (if ks.length=0 then .slice none 0 0 else .slice (some ⟨b',0,none⟩) ks.length cap))] post:=by rw[hus];simp[jH,bI]
  rw[hbx]at g13;have hst':=ADP.EK wi b3 p F' H' b us' w12 m2
  refine wp_mono (GR.AXB kJ (G:=GS 59) (S:=SRp b3 init.length pre.length ES .junk .junk (.bool true) .junk .junk .junk .junk .junk .junk (jH pre [.i (.lit (.int .i64 kd)), .i (.lit (.int .i64 tb)), .i (.lit vE), .i (.lit vC), .i (.lit (if ks.length=0 then .slice none 0 0 else .slice (some ⟨b',0,none⟩) ks.length cap))] post) []) hst'
   (PP:=fun e S'=>e=.normal∧∃ v7 v76 v77 v78,S'={ env:=EV b3 (if ks.length=0 then .osl 1 1 0 init.length else .osl 3 1 0 (init.length+ks.length)) (.own 2 pre.length) .junk v7 (.bool true) .junk .junk .junk v76 v77 v78,st:=some (.box zp)::(if ks.length=0 then some (.arr 1 ES)else none)::some (.box (jH pre [.i (.lit (.int .i64 kd)), .i (.lit (.int .i64 tb)), .i (.lit vE), .i (.lit vC), .i (.lit (if ks.length=0 then .slice none 0 0 else .slice (some ⟨b',0,none⟩) ks.length cap))] post))::(if ks.length=0 then []else [some (.arr 1 (RWp init b' ks.length))]) }) (by kernel_rfl) (by
   by_cases h0:ks.length=0
   ·refine⟨.normal,{ env:=EV b3 (.osl 1 1 0 init.length) (.own 2 pre.length) .junk .junk (.bool true) .junk .junk .junk (.int 0) (.int 0) (.bool false),st:=some (.box zp)::some (.arr 1 ES)::some (.box (jH pre [.i (.lit (.int .i64 kd)), .i (.lit (.int .i64 tb)), .i (.lit vE), .i (.lit vC), .i (.lit (if ks.length=0 then .slice none 0 0 else .slice (some ⟨b',0,none⟩) ks.length cap))] post))::[] },?_,rfl, .junk, .int 0, .int 0, .bool false,by simp[h0]⟩;simp[SRp,EV,zp,ABO,bD,bV,h0];rw[aG];simp[bD,bV]
   ·refine⟨.normal,{ env:=EV b3 (.osl 3 1 0 (init.length+ks.length)) (.own 2 pre.length) .junk (.int (ks.length-1)) (.bool true) .junk .junk .junk (.int ks.length) (.int ks.length) (.bool false),st:=some (.box zp)::none::some (.box (jH pre [.i (.lit (.int .i64 kd)), .i (.lit (.int .i64 tb)), .i (.lit vE), .i (.lit vC), .i (.lit (if ks.length=0 then .slice none 0 0 else .slice (some ⟨b',0,none⟩) ks.length cap))] post))::[some (.arr 1 (RWp init b' ks.length))] },?_,rfl, .int (ks.length-1), .int ks.length, .int ks.length, .bool false,by simp[h0]⟩;simp only[h0,if_false];simp[SRp,EV,zp,ABO,bD,bV];rw[aT (YP b3 init.length pre.length ES init b' ks.length (jH pre [.i (.lit (.int .i64 kd)), .i (.lit (.int .i64 tb)), .i (.lit vE), .i (.lit vC), .i (.lit (if ks.length=0 then .slice none 0 0 else .slice (some ⟨b',0,none⟩) ks.length cap))] post)) ks.length (by simp[YP,EV,zp,h0])]
    ·rw[aG];simp[YP,EV,zp,ABO,bD,bV,h0,bU h0]
    ·intro i hi;have w2:IntKind.i64.wrap ((i:Int)+1)=i+1:=wrO;by_cases hi0:i=0
     ·subst hi0;have hR:mM init++[[.lit (.pointer (some ⟨b',0,none⟩))]]=RWp init b' 1:=by simp[RWp,ptr]
      have hl:(init.length+1)*8≤140737488355328:=by omega
      simp[YP,EV,zp,ABO,bD,bV,h0,APD,hi,htake,hR,hl,hESl]
     ·have hl:(init.length+i+1)*8≤140737488355328:=by omega
      have hT:(RWp init b' i).take (init.length+i)=RWp init b' i:=zZ (by rw[AJI];omega);have hR:RWp init b' i++[[.lit (.pointer (some ⟨b',i*5,none⟩))]]=RWp init b' (i+1):=by simpa [ptr]using ANK init b' i
      simp[YP,EV,zp,ABO,bD,bV,h0,hi0,bU hi0,w2,hi,hT,AJI,hl,hR,← Nat.add_assoc]) (g13.ok' fun id h=>by simp[SRp];omega)) ?_
  rintro _ a13 w13 ⟨e,S',rfl,⟨rfl,v7,v76,v77,v78,rfl⟩,g14⟩;clear g13;simp only[iF,Exit.then,Exit.inBlock]
  have hpm2:H'.Perm (init++nH b' 0 ks):=by
   have h1:(((b,pre.length),Pn.mk kd tb es cs ks)::H').Perm (((b,pre.length),Pn.mk kd tb es cs ks)::(init++nH b' 0 ks)):=by
    refine hpm.trans ((hperm.append_right _).trans ?_);rw[yY];exact List.perm_middle
   exact(List.perm_cons _).1 h1
  have hszx:(Pn.mk kd tb es cs ks).size=1+Pn.aM ks:=hxs
  have hall2:∀ q∈init++nH b' 0 ks,q.2.thin∧q.2.tiny:=by
   intro q hq'
   rcases zV.1 hq' with h|h
   ·exact hall q (by simp[h])
   ·have:=(UN q h).1;exact⟨t5 _ this,y2 _ this⟩
  have hsum2:((init++nH b' 0 ks).map fun k=>k.2.size).sum=n-1:=by
   rw[yD,List.sum_append,UM];omega
  by_cases hk0:ks.length=0
  ·have hks:ks=[]:=zW.1 hk0;subst hks;simp only[yT,if_true]at g14 hbx
   have g15:=g14.AAD (st':=aR [some (.box zp),some (.arr 1 ES)]) (env':=aN (EV b3 (.osl 1 1 0 init.length) .junk .junk .junk .junk .junk .junk .junk .junk .junk .junk)) (by rw[hbx];rfl) (by
    intro i blk h
    rcases i with _|_|i
    ·simp[aR]at h;subst h;exact⟨by omega,rfl,by simp[gT,zp]⟩
    ·simp[aR]at h;subst h;exact⟨by omega,rfl,hlit⟩
    ·simp[aR]at h) (by
    intro t;simp only[EV,aN];by_cases h0:t=0
    ·subst h0;simp
    by_cases h2:t=2
    ·subst h2;exact .inr ⟨by simp,by simp[kD,aR]⟩
    by_cases h3:t=3
    ·subst h3;exact .inr ⟨by simp,by simp[kD,ptr]⟩
    by_cases h4:t=4
    ·subst h4;exact .inr ⟨by simp,by simp[kD,aR]⟩
    simp[h0,h2,h3,h4])
   simp only[nH,zA]at hpm2 hall2 hsum2;refine⟨n-1,by omega,init,[((b,pre.length),Pn.mk kd tb es cs [])]++X,H',F',hpm2,hsum2,by omega,hall2,?_⟩;have hES2:mM (init++([((b,pre.length),Pn.mk kd tb es cs [])]++X))=ES:=by rw[← hES,yY]
   simp only[SLp,hES2]
   exact g15.ok' (by
    intro i h
    rcases i with _|_|i
    ·simp
    ·simp
    ·simp[aR]at h)
  ·simp only[hk0,if_false]at g14 hbx
   have g15:=g14.AAD (st':=aR [some (.box zp),none,none,some (.arr 1 (RWp init b' ks.length))]) (env':=aN [(2, .own 0 0),(3, .i (ptr (b3,0))),(4, .osl 3 1 0 (init.length+ks.length))]) (by rw[hbx];rfl) (by
    intro i blk h
    rcases i with _|_|_|_|i
    ·simp[aR]at h;subst h;exact⟨by omega,rfl,by simp[gT,zp]⟩
    ·simp[aR]at h
    ·simp[aR]at h
    ·simp[aR]at h;subst h;exact⟨by omega,rfl,by
      intro c hc;rw[List.mem_flatten]at hc;obtain⟨r,hr1,hr2⟩:=hc;unfold RWp at hr1
      rcases zV.1 hr1 with h|h
      ·exact PS init c (List.mem_flatten.2 ⟨r,h,hr2⟩)
      ·obtain⟨j,_,rfl⟩:=yK.1 h
       simp at hr2;subst hr2;exact⟨_,rfl⟩⟩
    ·simp[aR]at h) (by
    intro t;simp only[EV,aN];by_cases h2:t=2
    ·subst h2;exact .inr ⟨by simp,by simp[kD,aR]⟩
    by_cases h3:t=3
    ·subst h3;exact .inr ⟨by simp,by simp[kD,ptr]⟩
    by_cases h4:t=4
    ·subst h4;exact .inr ⟨by simp,by simp[kD,aR]⟩
    simp[h2,h3,h4])
   have g16:=g15.settle (fun w m φ ids h=>RAW.keep ids h) [2,3,4]
   have hs:Av.settle [2,3,4] 0 (aN [(2, .own 0 0),(3, .i (ptr (b3,0))),(4, .osl 3 1 0 (init.length+ks.length))]) (aR [some (.box zp),none,none,some (.arr 1 (RWp init b' ks.length))])={ env:=[(2, .own 0 0),(3, .i (ptr (b3,0))),(4, .osl 1 1 0 (init.length+ks.length))],st:=[some (.box zp),some (.arr 1 (RWp init b' ks.length))] }:=by
    simp[zp,ptr]
   rw[hs]at g16;refine⟨n-1,by omega,init++nH b' 0 ks,[],H',F',hpm2,hsum2,by omega,hall2,?_⟩
   have hR:mM (init++nH b' 0 ks++[])=RWp init b' ks.length:=by
    rw[zA];have:=O7 b' 0 ks;simp only[mM]at this;simp only[mM,RWp,yD,this,zF]
   have hl:(init++nH b' 0 ks).length=init.length+ks.length:=by rw[zN,UO]
   simp only[SLp,hR,hl]
   exact g16.envTo (by
    intro t;simp only[EV,aN];by_cases h0:t=0
    ·subst h0;simp
    by_cases h2:t=2
    ·subst h2;simp
    by_cases h3:t=3
    ·subst h3;simp
    by_cases h4:t=4
    ·subst h4;simp
    ·simp[h0,h2,h3,h4])
theorem QL {p:Pn} (hsz:p.size<1000000000) (hth:p.thin) (hty:p.tiny) {wi:World} {mi:Mem} {φ:Pl} {vs:List Value} (hi:Inv wi mi φ (aR [])) (hr:RepL mi φ [.i (.iref p.cells)] vs) (h0:∀ id,φ id≠none→id<0) :
 Calls Tryz.prog 59 vs.toArray wi (bF wi mi φ (.i (.agg p.cells)) []):=by
 obtain rfl:φ=fun _=>none:=by
  funext id
  cases h:φ id with
  | none=>rfl
  | some p=>exact absurd (h0 id (by rw[h];simp)) (xW _)
 exact(iQ hsz hth hty hi hr).mono fun _ _ h=>h.tree
end Go.Proofs.YtjdfjgmebalaaaaGreat.G
namespace Go.Av
section
variable {wi:World} {mi:Mem} {nt:Nat}
theorem GR.AcR {ok:Nat→Prop} {R:World→Mem→Pl→Prop} {env:Nat→AV} {st:Store} {a:Act} {w:World} {u bq oq:Nat} {cs:List IV} (h:GR wi mi nt ok R env st a w) (hu:env u=.i (.lit (.pointer (some ⟨bq,oq,none⟩)))) (hc:IAt mi bq oq cs):GR wi mi nt ok R (upd env u (.i (.iref cs))) st a w:=by
 refine h.turn fun m φ h1 h2 h3 h4 h5=>⟨m,φ,h1,fun t=>?_,h3,h4,h5⟩
 by_cases ht:t=u
 ·subst ht;have:=h2 t;rw[hu]at this;simp only[upd,if_true];rw[this.bX];exact .i (.iref (hc.mono h3.mle))
 ·simp only[upd,ht,if_false];exact h2 t
end
theorem AtP.see {w:World} {m:Mem} {x:Pn} {b o:Nat} {F:List Nat} {path:List Int} {y:Pn} {bq oq:Nat} {Fa Fy Fz:List Nat} (h:AtP w m x b o F path y bq oq Fa Fy Fz):∃ v0 v1 v2 v3 ao cap,IAt (dD w) bq oq [.lit v0, .lit v1, .lit v2, .lit v3, .lit (.slice ao y.kids.length cap)]∧w.cell? ⟨bq,oq+4,none⟩=some (.slice ao y.kids.length cap):=by
 obtain⟨v0,v1,v2,v3,v4,h5,hone,⟨ao,cap,rfl⟩,_,_⟩:=h.th.cells;exact⟨v0,v1,v2,v3,ao,cap, .cons h5.c0 (.lit _) (hone _ (by simp)) (.cons h5.c1 (.lit _) (hone _ (by simp)) (.cons h5.c2 (.lit _) (hone _ (by simp)) (.cons h5.c3 (.lit _) (hone _ (by simp)) (.cons h5.c4 (.lit _) (hone _ (by simp)) (.nil _ _))))),h5.c4⟩
end Go.Av
namespace Go.Proofs.YtjdfjgmebalaaaaGreat.G
open Go Go.Av
set_option maxRecDepth 4000
set_option maxHeartbeats 4000000
def AEV (v0:AV) (path:List Int) (v6 v13 v26:AV) (i:Nat):List (Nat×AV):=[(0,v0),(1, .i (.isl (aD path))),(4, .i (.lit (.pointer none))),(6,v6),(9, .bool false),(10, .i (.isl (aD path))),(11, .int path.length),(12, .int i),(13,v13),(26,v26)]
theorem AX7 (v0 v0':AV) (path:List Int) (v6 v13 v26:AV) (i:Nat):upd (aN (AEV v0 path v6 v13 v26 i)) 0 v0'=aN (AEV v0' path v6 v13 v26 i):=by
 funext t;simp only[upd,AEV,aN];by_cases h0:t=0
 ·subst h0;simp
 ·simp only[h0,if_false]
theorem AB0 {w:World} {m:Mem} {p y:Pn} {root:Nat} {F:List Nat} {path:List Int} (hth:TH w m p root 0 F []) (hr:root ∉ F) (hn:F.Nodup) (hy:Pn.at path p=some y) (hl:path.length≤8) {vs:List Value} (hvs:RepL (dD w) (fun _=>none) [.i (.lit (.pointer (some ⟨root,0,none⟩))), .i (.isl (aD path))] vs) :
 Calls Tryz.prog 69 vs.toArray w fun e w'=>∃ bq oq Fa Fy Fz m',e=.returned (.pointer (some ⟨bq,oq,none⟩))∧AtP w m p root 0 F path y bq oq Fa Fy Fz∧kF w' m'∧Adv w (dD w) (fun _=>none) w' m' (fun _=>none):=by
 refine calls_of_wp (fn:=Tryz.f69) Tryz.func69 rfl ?_;have hv1:vs.length=2:=by simpa using hvs.length.symm
 have g0:GR w (dD w) 35 (fun id=>id<({ env:=[(0, .i (.lit (.pointer (some ⟨root,0,none⟩)))),(1, .i (.isl (aD path)))],st:=[] }:AS).st.length) (fun _ _ _=>True) (aN [(0, .i (.lit (.pointer (some ⟨root,0,none⟩)))),(1, .i (.isl (aD path)))]) (aR []) { tmps:=vs.toArray++Array.replicate (35-vs.toArray.size) undef,defers:=[] } w:=by
  refine⟨⟨dD w,fun _=>none,inv0 w,?_, .refl _ _ _,fun id h=>absurd rfl h,trivial⟩,by simp;omega,rfl⟩;intro t;have:=kR (m:=dD w) (φ:=fun _=>none) (35-vs.toArray.size) hvs t
  rcases t with _|_|t
  ·simpa [aN,qU]using this
  ·simpa [aN,qU]using this
  ·simp only[aN];simp;exact .junk _
 refine wp_seq (wp_mono (GR.dW kJ (G:=GS 69) (S:={ env:=[(0, .i (.lit (.pointer (some ⟨root,0,none⟩)))),(1, .i (.isl (aD path)))],st:=[] }) (e:=.normal) (S':={ env:=[(0, .i (.lit (.pointer (some ⟨root,0,none⟩)))),(1, .i (.isl (aD path))),(4, .i (.lit (.pointer none))),(6, .junk),(9, .junk),(10, .junk),(11, .junk),(12, .junk),(13, .junk),(26, .junk)],st:=[] }) jE (by kernel_rfl) (by simp) g0) ?_);rintro _ a1 w1 ⟨rfl,g1⟩;have hle:¬ (8:Int)<path.length:=by omega
 refine wp_seq (wp_mono (GR.dW kJ (G:=GS 69) (S:={ env:=[(0, .i (.lit (.pointer (some ⟨root,0,none⟩)))),(1, .i (.isl (aD path))),(4, .i (.lit (.pointer none))),(6, .junk),(9, .junk),(10, .junk),(11, .junk),(12, .junk),(13, .junk),(26, .junk)],st:=[] }) (e:=.normal) (S':={ env:=[(0, .i (.lit (.pointer (some ⟨root,0,none⟩)))),(1, .i (.isl (aD path))),(4, .i (.lit (.pointer none))),(6, .junk),(9, .bool false),(10, .junk),(11, .junk),(12, .junk),(13, .junk),(26, .junk)],st:=[] }) jE (by kernel_rfl) (by simp[hle]) g1) ?_);rintro _ a2 w2 ⟨rfl,g2⟩;refine wp_seq (wp_seq (wp_mono (GR.dW kJ (G:=GS 69) (S:={ env:=[(0, .i (.lit (.pointer (some ⟨root,0,none⟩)))),(1, .i (.isl (aD path))),(4, .i (.lit (.pointer none))),(6, .junk),(9, .bool false),(10, .junk),(11, .junk),(12, .junk),(13, .junk),(26, .junk)],st:=[] }) (e:=.normal) (S':={ env:=AEV (.i (.lit (.pointer (some ⟨root,0,none⟩)))) path .junk .junk .junk 0,st:=[] }) jE (by kernel_rfl) (by simp[AEV]) g2) ?_));rintro _ a3 w3 ⟨rfl,g3⟩;clear g0 g1 g2;refine wp_block ?_;refine tQ (fun n a w'=>∃ (i:Nat) (z:Pn) (bq oq:Nat) (Fa Fy Fz:List Nat),n=path.length-i∧i≤path.length∧AtP w m p root 0 F (path.take i) z bq oq Fa Fy Fz∧GR w (dD w) 35 (fun id=>id<0) (fun _ _ _=>True) (aN (AEV (.i (.lit (.pointer (some ⟨bq,oq,none⟩)))) path .junk .junk .junk i)) (aR []) a w') ?_ (n:=path.length) ⟨0,p,root,0,[],F,[],by omega,by omega,by simpa using AtP.start hth hr hn,g3⟩;clear g3;rintro n a w' ⟨i,z,bq,oq,Fa,Fy,Fz,rfl,hi,hat,g⟩;by_cases hi2:i=path.length
 ·subst hi2;rw[zD9]at hat;have hz:z=y:=by have:=hat.is;rw[hy]at this;injection this with this;exact this.symm
  subst hz;refine wp_mono (GR.dW kJ (G:=GS 69) (S:={ env:=AEV (.i (.lit (.pointer (some ⟨bq,oq,none⟩)))) path .junk .junk .junk path.length,st:=[] }) (e:=.exit 0) (S':={ env:=AEV (.i (.lit (.pointer (some ⟨bq,oq,none⟩)))) path .junk (.bool false) .junk path.length,st:=[] }) jE (by kernel_rfl) (by simp[AEV]) g) ?_;rintro _ a5 w5 ⟨rfl,g5⟩;simp only[iF,Exit.then,Exit.inBlock,if_true];refine wp_mono (GR.dW kJ (G:=GS 69) (S:={ env:=AEV (.i (.lit (.pointer (some ⟨bq,oq,none⟩)))) path .junk (.bool false) .junk path.length,st:=[] }) (e:=.ret) (S':={ env:=[(0, .i (.lit (.pointer (some ⟨bq,oq,none⟩)))),(1, .i (.isl (aD path))),(4, .i (.lit (.pointer (some ⟨bq,oq,none⟩)))),(6, .junk),(9, .bool false),(10, .i (.isl (aD path))),(11, .int path.length),(12, .int path.length),(13, .bool false),(26, .junk)],st:=[] }) jE (by kernel_rfl) (by simp[AEV]) g5) ?_;rintro _ a6 w6 ⟨rfl,g6⟩;obtain⟨⟨m2,φ2,q1,q2,q3,q4,q5⟩,q6,q7⟩:=g6
  have hφ:φ2=fun _=>none:=by
   funext id
   cases h:φ2 id with
   | none=>rfl
   | some p=>exact absurd (q4 id (by rw[h];simp)) (xW _)
  subst hφ
  obtain⟨v,k1,k2⟩:=eU (C:=C2) (fn:=Tryz.f69) (keep:=false) (na:=0) (S:={ env:=[(0, .i (.lit (.pointer (some ⟨bq,oq,none⟩)))),(1, .i (.isl (aD path))),(4, .i (.lit (.pointer (some ⟨bq,oq,none⟩)))),(6, .junk),(9, .bool false),(10, .i (.isl (aD path))),(11, .int path.length),(12, .int path.length),(13, .bool false),(26, .junk)],st:=[] }) (r:=.i (.lit (.pointer (some ⟨bq,oq,none⟩)))) (stl':=[]) (fun id h=>absurd rfl h) ⟨⟨⟨m2,fun _=>none,q1,q2,q3,q4, .nil _ _ _⟩,q6,q7⟩,zB0 _⟩ (by
   show finish C2 false [ResultVar.tmp 4] 0 _=_
   simp)
  have hv:v=.pointer (some ⟨bq,oq,none⟩):=by
   obtain⟨_,_,_,e,r,_⟩:=k2;injection e with e;subst e;exact r.bX
  subst hv;exact⟨q7,_,k1,bq,oq,Fa,Fy,Fz,m2,rfl,hat,q1.mem,q3⟩
 ·have hi3:i<path.length:=by omega
  have q1:=zX hi3
  have hsplit:path=path.take i++path[i]::path.drop (i+1):=by
   rw[← List.drop_eq_getElem_cons hi3,yA]
  have hr2:Pn.at (path[i]::path.drop (i+1)) z=some y:=by
   rw[hsplit]at hy
   rwa [uU _ _ _ _ hat.is]at hy
  obtain⟨x,hx,zk,hk1,hk2⟩:=Pn.pV hr2;obtain⟨b',cap,hc1,hc2,Fa',Fy',Fz',hat'⟩:=hat.step hk1;obtain⟨v0,v1,v2,v3,ao,cap',hsee,hsee2⟩:=hat.see;rw[hc1]at hsee2;injection hsee2 with hsee2;injection hsee2 with e1 _ e3;subst e1;subst e3;have htk:path.take i++[(x:Int)]=path.take (i+1):=by rw[← hx,List.take_add_one,q1];rfl
  rw[htk]at hat';have r1:=bK q1;rw[hx]at r1;have hxl:x<z.kids.length:=(zY.1 hk1).1;have g1:=g.AcR (u:=0) rfl hsee;rw[AX7]at g1;have w2:IntKind.i64.wrap ((i:Int)+1)=i+1:=wrO
  refine wp_mono (GR.dW kJ (G:=GS 69) (S:={ env:=AEV (.i (.iref [.lit v0, .lit v1, .lit v2, .lit v3, .lit (.slice (some ⟨b',0,none⟩) z.kids.length cap)])) path .junk .junk .junk i,st:=[] }) (e:=.normal) (S':={ env:=AEV (.i (.lit (.pointer (some ⟨b',x*5,none⟩)))) path (.int x) (.bool true) (.bool false) (i+1),st:=[] }) jE (by kernel_rfl) (by
   have n1:¬ (x:Int)<0:=by omega
   have n2:¬ z.kids.length≤x:=by omega
   simp[AEV,hi3,r1,hxl,w2,n1,n2]) g1) ?_
  rintro _ a5 w5 ⟨rfl,g5⟩;simp only[iF,Exit.then,Exit.inBlock];refine⟨path.length-(i+1),by omega,i+1,zk,b',5*x,Fa',Fy',Fz',rfl,by omega,hat',?_⟩;rw[yV 5 x]
  exact g5.envTo (by
   intro t;simp only[AEV,aN];by_cases h6:t=6
   ·subst h6;simp
   by_cases h13:t=13
   ·subst h13;simp
   by_cases h26:t=26
   ·subst h26;simp
   simp[h6,h13,h26])
end Go.Proofs.YtjdfjgmebalaaaaGreat.G
namespace Go.Av
theorem L8:∀ (l:List Int) (i:Nat) (x:Int),(aD l).set i [.int x]=aD (l.set i x)
 | [],i,x=>by simp[aD]
 | a::l,0,x=>by simp[aD]
 | a::l,i+1,x=>by simp[aD,L8 l i x]
end Go.Av
namespace Go.Proofs.YtjdfjgmebalaaaaGreat
open Go Go.Av
set_option maxHeartbeats 4000000
set_option maxRecDepth 4000
theorem UQ (n:Int):n=1∨n=2∨n=3∨n=4∨n=5∨n=6∨n=7∨n=8∨n=9∨n=10∨n=11∨(n≠1∧n≠2∧n≠3∧n≠4∧n≠5∧n≠6∧n≠7∧n≠8∧n≠9∧n≠10∧n≠11):=by omega
@[simp] theorem AM8 (n:Int):aI C0 205 [.int n] []=some (.int (cO n),[]):=by
  rw[aF rfl Tryz.func205 rfl rfl]
  rcases UQ n with rfl|rfl|rfl|rfl|rfl|rfl|rfl|rfl|rfl|rfl|rfl|⟨h1,h2,h3,h4,h5,h6,h7,h8,h9,h10,h11⟩
  all_goals first
   | (simp[cO];done)
   | (have e:cO n=-1:=by
       unfold cO;rw[if_neg (by omega),if_neg (by omega),if_neg (by omega)]
      simp[e,h1,h2,h3,h4,h5,h6,h7,h8,h9,h10,h11])
@[simp] theorem AWM (n:Int):aI C0 192 [.int n] []=some (.int (cO n),[]):=by
  rw[aF rfl Tryz.func192 rfl rfl]
  rcases UQ n with rfl|rfl|rfl|rfl|rfl|rfl|rfl|rfl|rfl|rfl|rfl|⟨h1,h2,h3,h4,h5,h6,h7,h8,h9,h10,h11⟩
  all_goals first
   | (simp[cO];done)
   | (have e:cO n=-1:=by
       unfold cO;rw[if_neg (by omega),if_neg (by omega),if_neg (by omega)]
      simp[e,h1,h2,h3,h4,h5,h6,h7,h8,h9,h10,h11])
@[simp] theorem AKE (n:Int):aI C0 143 [.int n] []=some (.bool (bQ n),[]):=by
  rw[aF rfl Tryz.func143 rfl rfl];by_cases h1:1≤n<;>by_cases h2:n≤6<;>simp[bQ,h1,h2]
@[simp] theorem O9 (n a b:Int):aI C0 132 [.int n, .int a, .int b] []=some (.bool (decide (a≤n∧n≤b)),[]):=by
  rw[aF rfl Tryz.func132 rfl rfl];by_cases h1:a≤n<;>by_cases h2:n≤b<;>simp[h1,h2]
@[simp] theorem valid_eq (b:Bool) (n:Int):aI C0 206 [.i (.agg [.bool b, .int n])] []=some (.bool (Val.ok ⟨b,n⟩),[]):=by
  rw[aF rfl Tryz.func206 rfl rfl]
  cases b
  ·by_cases h1:-9999≤n<;>by_cases h2:n≤9999<;>simp[Val.ok,h1,h2]
  ·by_cases h1:n=0<;>simp[Val.ok,h1]
@[simp] theorem AKF (b:Bool) (n:Int):aI C0 193 [.i (.agg [.bool b, .int n])] []=some (.bool (Val.ok ⟨b,n⟩),[]):=by
  rw[aF rfl Tryz.func193 rfl rfl]
  cases b
  ·by_cases h1:-9999≤n<;>by_cases h2:n≤9999<;>simp[Val.ok,h1,h2]
  ·by_cases h1:n=0
   ·subst h1;simp[Val.ok]
   ·by_cases h2:-9999≤n<;>by_cases h3:n≤9999<;>simp[Val.ok,h1,h2,h3]
theorem ANO {e:Ex} {w:Int} (n:Nat) (hk:¬ (e.kids.length:Int)=cO e.kind):aI C0 195 [.i (.iref e.cells), .int w, .int n] []=some (.bool false,[]):=by
 rw[aF rfl Tryz.func195 rfl rfl,Ex.aA];simp[Ex.bA,hk]
theorem APJ {e:Ex} {w:Int} (hk:(e.kids.length:Int)=cO e.kind) (hz:0<cO e.kind):aI C0 195 [.i (.iref e.cells), .int w, .int 0] []=some (.bool false,[]):=by
 rw[aF rfl Tryz.func195 rfl rfl,Ex.aA];simp[Ex.bA,hk,hz]
theorem AF0 {e:Ex} {w:Int} (n:Nat) (hk:(e.kids.length:Int)=cO e.kind) (hz:0<cO e.kind→n≠0) (hh:e.headOk w=false) :
 aI C0 195 [.i (.iref e.cells), .int w, .int n] []=some (.bool false,[]):=by
 rw[aF rfl Tryz.func195 rfl rfl,Ex.aA];unfold Ex.headOk at hh;by_cases h1:e.kind=1
 ·rw[h1]at hz hk;simp[h1,cO]at hh hk;by_cases h2:0≤e.col
  ·by_cases h3:e.col<w
   ·cases h4:e.val.null with
    | true=>simp[Ex.bA,hk,h1,zA8.2 h2,zE5.2 h3,h4,cO]
    | false=>simp[Ex.bA,hk,h1,zA8.2 h2,zE5.2 h3,h4,hh h2 h3 h4,cO]
   ·simp[Ex.bA,hk,h1,zA8.2 h2,zA8.1 h3,cO]
  ·simp[Ex.bA,hk,h1,zE5.1 h2,cO]
 ·by_cases h2:e.kind=2
  ·rw[h2]at hz hk;simp[h2,cO]at hh hk;by_cases h3:e.col=0
   ·have h4:Val.ok ⟨e.val.null,e.val.n⟩=false:=hh h3;simp[Ex.bA,hk,h2,h3,h4,cO]
   ·simp[Ex.bA,hk,h2,h3,cO]
  ·simp[h1,h2]at hh;by_cases h0:0<cO e.kind
   ·have hn:=hz h0;by_cases h3:e.col=0
    ·cases h4:e.val.null with
     | true=>simp[Ex.bA,hk,h1,h2,h3,h4,h0,hn,hz h0]
     | false=>simp[Ex.bA,hk,h1,h2,h3,h4,hh h3 h4,h0,hn,hz h0]
    ·simp[Ex.bA,hk,h1,h2,h3,h0,hn,hz h0]
   ·by_cases h3:e.col=0
    ·cases h4:e.val.null with
     | true=>simp[Ex.bA,hk,h1,h2,h3,h4,h0]
     | false=>simp[Ex.bA,hk,h1,h2,h3,h4,hh h3 h4,h0]
    ·simp[Ex.bA,hk,h1,h2,h3,h0]
def VX (e:Ex) (w n:Int) (i:Nat):AS :=
 { env:=[(0, .i (.iref [.int e.kind, .int 0, .bool false, .int 0, .isl (Ex.aB e.kids)])),(1, .int w),(2, .int n),(6, .bool false),(7, .int (cO e.kind)),(8,jk i (.int (i-1))),(28, .bool (n == 0)),(62, .bool false),(90, .bool false),(95, .int (cO e.kind)),(96, .int i),(97,jk i (.bool true)),(109,jk i (.bool false))],st:=[] }
theorem AU9 {e:Ex} {w:Int} (n:Nat) (hn:n≤8) (hk:(e.kids.length:Int)=cO e.kind) (hz:0<cO e.kind→n≠0) (hh:e.headOk w=true) (ih:∀ k∈e.kids,0<cO e.kind→aI C0 195 [.i (.iref k.cells), .int w, .int ((n:Int)-1)] []=some (.bool (Ex.vB w (n-1) k),[])) :
 aI C0 195 [.i (.iref e.cells), .int w, .int n] []=some (.bool (e.kids.all (Ex.vB w (n-1))),[]):=by
 rw[aF rfl Tryz.func195 rfl rfl,Ex.aA]
 rcases Ex.AD4 w e with h|⟨-,⟨hA,hB,hC,hD,hE,hF⟩|⟨hA,hB,hC,hD,hE,hF⟩|⟨hA,hB,hC,hD,hE,hF⟩⟩
 ·simp[h]at hh
 ·have h2:e.kids=[]:=by rw[hF]at hk;simpa using hk
  simp[h2,Ex.aB,hA,hD,hE,zA8.2 hB,zE5.2 hC,cO];rw[aG];simp
 ·have h2:e.kids=[]:=by rw[hF]at hk;simpa using hk
  simp[h2,Ex.aB,hA,hB,hC,cO];rw[aG];simp
 ·by_cases h0:0<cO e.kind
  ·have hn:=hz h0;simp[Ex.bA,hk,hA,hB,hC,hD,hE,h0,hn,hz h0];obtain⟨j,h1,h2⟩:=iV (Ex.vB w (n-1)) e.kids;have w1:IntKind.i64.wrap ((n:Int)-1)=n-1:=wrO
   have rd:∀ (i:Nat) (k:Ex),e.kids[i]?=some k→k∈e.kids→i<e.kids.length∧fU (Ex.aB e.kids) i=some k.cells∧aI C0 195 [.i (.iref k.cells), .int w, .int ((n:Int)-1)] []=some (.bool (Ex.vB w (n-1) k),[]) :=
    fun i k a b=>⟨(zY.1 a).1,Ex.aP a,ih k b h0⟩
   have hlen:e.kids.length≤2:=by have:cO e.kind≤2:=by
                                  unfold cO;split;· omega
                                  split;· omega
                                  split<;>omega
                                 omega
   rw[aT (VX e w n) j (by simp[VX])]
   ·rw[aG]
    rcases h2 with ⟨hj,ha⟩|⟨k,h3,h4,h5,ha⟩
    ·have l1:¬ ((j:Int)<cO e.kind):=by omega
     simp[VX,l1,ha]
    ·obtain⟨r1,r2,r3⟩:=rd j k h3 h4;have l1:(j:Int)<cO e.kind:=by omega
     rw[Ex.aA]at r2 r3;simp[VX,l1,r1,ha,r2,r3,w1,h5]
   ·intro i hi;obtain⟨k,h3,h4,h5⟩:=h1 i hi;obtain⟨r1,r2,r3⟩:=rd i k h3 h4;have l1:(i:Int)<cO e.kind:=by omega
    have w2:IntKind.i64.wrap ((i:Int)+1)=i+1:=wrO;rw[Ex.aA]at r2 r3;simp[VX,l1,r1,r2,r3,w1,w2,h5]
  ·have h2:e.kids=[]:=by cases h:e.kids with
    | nil=>rfl
    | cons a l=>rw[h]at hk;simp at hk;omega
   rw[h2]at hk;simp at hk;simp[h2,Ex.aB,hA,hB,hC,hD,hE,← hk];rw[aG];simp
@[simp] theorem BV {w:Int}:∀ (n:Nat) (e:Ex),n≤8→aI C0 195 [.i (.iref e.cells), .int w, .int n] []=some (.bool (Ex.vB w n e),[])
  | 0,e,hn=>by
   by_cases hk:(e.kids.length:Int)=cO e.kind
   ·by_cases hz:0<cO e.kind
    ·rw[show((0:Nat):Int)=0 from rfl,APJ hk hz];simp[Ex.vB,zE5.2 hz]
    ·cases hh:e.headOk w with
     | false=>rw[AF0 0 hk (fun h=>absurd h hz) hh];simp[Ex.vB,hh]
     | true =>
      rw[AU9 0 hn hk (fun h=>absurd h hz) hh (fun k _ h=>absurd h hz)]
      have:e.kids=[]:=by cases h:e.kids with
       | nil=>rfl
       | cons a l=>rw[h]at hk;simp at hk;omega
      have h3:cO e.kind=0:=by rw[this]at hk;simpa using hk.symm
      simp[Ex.vB,hh,h3,this]
   ·rw[ANO 0 hk];simp[Ex.vB,hk]
  | n+1,e,hn=>by
   by_cases hk:(e.kids.length:Int)=cO e.kind
   ·cases hh:e.headOk w with
    | false=>rw[AF0 (n+1) hk (fun _=>by omega) hh];simp[Ex.vB,hh]
    | true =>
     rw[AU9 (n+1) hn hk (fun _=>by omega) hh (fun k _ _=>by
      have:=BV (w:=w) n k (by omega);rw[show(((n+1:Nat):Int)-1)=(n:Int)by omega]
      exact this)]
     simp[Ex.vB,hh,hk]
   ·rw[ANO (n+1) hk];simp[Ex.vB,hk]
theorem ANN {e:Ex} {w:Int} (n:Nat) (hk:¬ (e.kids.length:Int)=cO e.kind):aI C0 171 [.i (.agg e.cells), .int w, .int n] []=some (.bool false,[]):=by
 rw[aF rfl Tryz.func171 rfl rfl,Ex.aA];simp[hk]
theorem API {e:Ex} {w:Int} (hk:(e.kids.length:Int)=cO e.kind) (hz:0<cO e.kind):aI C0 171 [.i (.agg e.cells), .int w, .int 0] []=some (.bool false,[]):=by
 rw[aF rfl Tryz.func171 rfl rfl,Ex.aA];simp[hk,hz]
def EX (e:Ex) (w n:Int) (v:AV) (i:Nat):AS :=
 { env:=[(0, .i (.agg [.int e.kind, .int e.col, .bool e.val.null, .int e.val.n, .isl (Ex.aB e.kids)])),(1, .int w),(2, .int n),(3, .own 0 0),(6, .bool false),(7, .int i),(24,v),(29,jk i (.bool true)),(41,jk i (.bool false)),(43, .junk),(44, .junk),(57, .junk)],
   st:=[some (.box [.int e.kind, .int e.col, .bool e.val.null, .int e.val.n, .i (.isl (Ex.aB e.kids))])] }
theorem AU8 {e:Ex} {w:Int} (n:Nat) (hn:n≤8) (hk:(e.kids.length:Int)=cO e.kind) (hz:0<cO e.kind→n≠0)  (hw:1≤w∧w≤6)
 (ih:∀ k∈e.kids,0<cO e.kind→aI C0 171 [.i (.agg k.cells), .int w, .int ((n:Int)-1)] []=some (.bool (Ex.vB w (n-1) k),[])) :
  aI C0 171 [.i (.agg e.cells), .int w, .int n] []=some (.bool (e.kids.all (Ex.vB w (n-1)) && e.headOk w),[]):=by
 rw[aF rfl Tryz.func171 rfl rfl,Ex.aA];have w0:IntKind.i64.wrap (w-1)=w-1:=wrO;by_cases h0:0<cO e.kind
 ·have hn:=hz h0;simp[hk,h0,hn];obtain⟨j,h1,h2⟩:=iV (Ex.vB w (n-1)) e.kids;have w1:IntKind.i64.wrap ((n:Int)-1)=n-1:=wrO
  have rd:∀ (i:Nat) (k:Ex),e.kids[i]?=some k→k∈e.kids→i<e.kids.length∧fU (Ex.aB e.kids) i=some k.cells∧aI C0 171 [.i (.agg k.cells), .int w, .int ((n:Int)-1)] []=some (.bool (Ex.vB w (n-1) k),[]) :=
   fun i k a b=>⟨(zY.1 a).1,Ex.aP a,ih k b h0⟩
  have hlen:e.kids.length≤2:=by have:cO e.kind≤2:=by
                                 unfold cO;split;· omega
                                 split;· omega
                                 split<;>omega
                                omega
  have hk1:e.kind≠1:=fun h=>by rw[h]at h0;simp[cO]at h0
  have hk2:e.kind≠2:=fun h=>by rw[h]at h0;simp[cO]at h0
  rw[aT (EX e w n (.bool ((n:Int) == 0)) ) j (by simp[EX])]
  ·rw[aG]
   rcases h2 with ⟨hj,ha⟩|⟨k,h3,h4,h5,ha⟩
   ·have l1:¬ ((j:Int)<cO e.kind):=by omega
    by_cases h6:e.col=0
    ·cases h7:e.val.null with
     | true=>simp[EX,l1,hk,ha,Ex.headOk,hk1,hk2,h6,h7]
     | false=>simp[EX,l1,hk,ha,Ex.headOk,hk1,hk2,h6,h7]
    ·simp[EX,l1,hk,ha,Ex.headOk,hk1,hk2,h6]
   ·obtain⟨r1,r2,r3⟩:=rd j k h3 h4;have l1:(j:Int)<cO e.kind:=by omega
    rw[Ex.aA]at r2 r3;simp[EX,l1,r1,hk,ha,r2,r3,w1,h5]
  ·intro i hi;obtain⟨k,h3,h4,h5⟩:=h1 i hi;obtain⟨r1,r2,r3⟩:=rd i k h3 h4;have l1:(i:Int)<cO e.kind:=by omega
   have w2:IntKind.i64.wrap ((i:Int)+1)=i+1:=wrO;rw[Ex.aA]at r2 r3;simp[EX,l1,r1,hk,r2,r3,w1,w2,h5]
 ·have h2:e.kids=[]:=by cases h:e.kids with
   | nil=>rfl
   | cons a l=>rw[h]at hk;simp at hk;omega
  rw[h2]at hk;simp at hk;simp[h2,Ex.aB,← hk];rw[aG];by_cases h1:e.kind=1
  ·by_cases h4:0≤e.col
   ·by_cases h5:e.col<w
    ·cases h7:e.val.null with
     | true=>simp[h1,w0,Ex.headOk,h4,h5,h7,show e.col≤w-1 by omega]
     | false=>simp[h1,w0,Ex.headOk,h4,h5,h7,show e.col≤w-1 by omega]
    ·simp[h1,w0,Ex.headOk,h4,h5,show ¬ e.col≤w-1 by omega]
   ·simp[h1,w0,Ex.headOk,h4]
  ·by_cases h3:e.kind=2
   ·by_cases h4:e.col=0
    ·simp[h3,Ex.headOk,h4]
    ·simp[h3,Ex.headOk,h4]
   ·by_cases h4:e.col=0
    ·cases h7:e.val.null with
     | true=>simp[h1,h3,Ex.headOk,h4,h7]
     | false=>simp[h1,h3,Ex.headOk,h4,h7]
    ·simp[h1,h3,Ex.headOk,h4]
theorem G6 {w:Int} (hw:1≤w∧w≤6):∀ (n:Nat) (e:Ex),n≤8→aI C0 171 [.i (.agg e.cells), .int w, .int n] []=some (.bool (Ex.vB w n e),[])
 | 0,e,hn=>by
  by_cases hk:(e.kids.length:Int)=cO e.kind
  ·by_cases hz:0<cO e.kind
   ·rw[show((0:Nat):Int)=0 from rfl,API hk hz];simp[Ex.vB,zE5.2 hz]
   ·rw[AU8 0 hn hk (fun h=>absurd h hz) hw (fun k _ h=>absurd h hz)]
    have:e.kids=[]:=by cases h:e.kids with
     | nil=>rfl
     | cons a l=>rw[h]at hk;simp at hk;omega
    have h3:cO e.kind=0:=by rw[this]at hk;simpa using hk.symm
    simp[Ex.vB,h3,this]
  ·rw[ANN 0 hk];simp[Ex.vB,hk]
 | n+1,e,hn=>by
  by_cases hk:(e.kids.length:Int)=cO e.kind
  ·rw[AU8 (n+1) hn hk (fun _=>by omega) hw (fun k _ _=>by
      have:=G6 (w:=w) hw n k (by omega);rw[show(((n+1:Nat):Int)-1)=(n:Int)by omega]
      exact this)]
   simp[Ex.vB,hk,Bool.and_comm]
  ·rw[ANN (n+1) hk];simp[Ex.vB,hk]
theorem ok_eq (w:Int) (e:Ex):aI C0 175 [.i (.agg e.cells), .int w] []=some (.bool (e.ok w),[]):=by
 rw[aF rfl Tryz.func175 rfl rfl];have h:=BV (w:=w) 8 e (by omega);rw[Ex.aA]at h ⊢;have e8:((8:Nat):Int)=8:=rfl;rw[e8]at h
 cases hw:bQ w with
 | false=>simp[hw,Ex.ok]
 | true=>simp[hw,Ex.ok,h]
theorem TN (w:Int) (e:Ex):aI C0 140 [.i (.agg e.cells), .int w] []=some (.bool (e.ok w),[]):=by
 rw[aF rfl Tryz.func140 rfl rfl];by_cases hw:1≤w∧w≤6
 ·have h:=G6 hw 8 e (by omega);rw[Ex.aA]at h ⊢;have e8:((8:Nat):Int)=8:=rfl;rw[e8]at h;simp[hw,Ex.ok,bQ,h]
 ·rw[Ex.aA];simp[hw,Ex.ok,bQ]
theorem dP:IntKind.i64.wrap 1=1:=wrO
def CX (e:Ex) (i:Nat):AS :=
 { env:=[(0, .i (.agg [.int e.kind, .int e.col, .bool e.val.null, .int e.val.n, .isl (Ex.aB e.kids)])),(1, .own 0 0),(2, .own 1 0),(3, .own 2 0),(4, .int i),(16,jk i (.bool true))],
   st:=some (.box [.int e.kind, .int e.col, .bool e.val.null, .int e.val.n, .i (.isl (Ex.aB e.kids))])::some (.box [.int 0, .int 0, .bool false, .int 0, .nils]) ::
    some (.box [.int e.kind, .int e.col, .bool e.val.null, .int e.val.n,gro 3 5 i])::AEM 5 (Ex.aB (e.kids.take i)) i }
theorem ASD {e:Ex} (hl:e.kids.length<1000000000) (ih:∀ a∈e.kids,aI C0 98 [.i (.agg a.cells)] []=some (.i (.agg a.cells),[])) :
 aI C0 98 [.i (.agg e.cells)] []=some (.i (.agg e.cells),[]):=by
 rw[aF rfl Tryz.func98 rfl rfl,Ex.aA];simp;rw[aT (CX e) e.kids.length (by simp[CX])]
 ·rw[aG]
  cases hn:e.kids.length with
  | zero =>
   have:e.kids=[]:=zW.1 hn;simp[CX,this,Ex.aB]
  | succ n =>
   have:e.kids.take (n+1)=e.kids:=zZ (by omega);simp[CX,hn,this]
 ·intro i hi;have h3:=zX hi;have hc:=ih _ (zU h3);have r2:=Ex.aP h3;generalize e.kids[i]=a at h3 hc r2;have w2:IntKind.i64.wrap ((i:Int)+1)=i+1:=wrO;by_cases h0:i=0
  ·subst h0;simp[CX,hi,r2,hc,dP,aL h3,Ex.aB]
  ·simp[CX,aQ h0,aJ h0,bU h0,hi,r2,hc,w2,aL h3,Ex.aZ,show min i e.kids.length=i by omega,show(i+1)*56≤140737488355328 by omega,zG]
theorem BB:∀ (e:Ex),e.thin→aI C0 98 [.i (.agg e.cells)] []=some (.i (.agg e.cells),[]):=by
 intro e
 induction e using Ex.ind with
 | h k c v ks ih =>
  intro ht;have ht':=(Ex.bO _).1 ht;exact ASD ht'.1 fun a ha=>ih a ha (ht'.2 a ha)
def SX (e:Ex) (l:List Ex) (f:Ex→Ex) (i:Nat):AS :=
 { env:=[(0, .i (.agg [.int e.kind, .int e.col, .bool e.val.null, .int e.val.n, .isl (Ex.aB e.kids)])),(1, .i (.isl (Ex.aB l))),(2, .own 0 0),(4, .own 1 0),(5, .own 2 0),(6, .int i),(9, .bool false),(27,jk i (.bool true))],
   st:=some (.box [.int e.kind, .int e.col, .bool e.val.null, .int e.val.n, .i (.isl (Ex.aB e.kids))])::some (.box [.int 0, .int 0, .bool false, .int 0, .nils]) ::
    some (.box [.int e.kind, .int e.col, .bool e.val.null, .int e.val.n,gro 3 5 i])::AEM 5 (Ex.aB ((e.kids.take i).map f)) i }
theorem wW {e b:Ex} {l:List Ex} (h1:e.kind=1) (h0:0≤e.col) (hb:l[e.col.toNat]?=some b) (ht:b.thin) :
 aI C0 138 [.i (.agg e.cells), .i (.isl (Ex.aB l))] []=some (.i (.agg b.cells),[]):=by
 rw[aF rfl Tryz.func138 rfl rfl,Ex.aA];have hc:=BB b ht;have r2:=Ex.aP hb;have r1:=(zY.1 hb).1;rw[Ex.aA]at hc r2 ⊢;simp[h1,h0,r2,hc,show e.col<l.length by omega]
theorem AKO {e:Ex} {l:List Ex} {f:Ex→Ex} (h1:e.kind≠1) (hl:e.kids.length<1000000000) (ih:∀ a∈e.kids,aI C0 138 [.i (.agg a.cells), .i (.isl (Ex.aB l))] []=some (.i (.agg (f a).cells),[])) :
 aI C0 138 [.i (.agg e.cells), .i (.isl (Ex.aB l))] []=some (.i (.agg (Ex.mk e.kind e.col e.val (e.kids.map f)).cells),[]):=by
 rw[aF rfl Tryz.func138 rfl rfl,Ex.aA];simp[h1];rw[aT (SX e l f) e.kids.length (by simp[SX,h1])]
 ·rw[aG]
  cases hn:e.kids.length with
  | zero =>
   have:e.kids=[]:=zW.1 hn;simp[SX,this,Ex.aB,Ex.cells]
  | succ n =>
   have:e.kids.take (n+1)=e.kids:=zZ (by omega);simp[SX,hn,this,Ex.cells,← List.map_take]
 ·intro i hi;have h3:=zX hi;have hc:=ih _ (zU h3);have r2:=Ex.aP h3;generalize e.kids[i]=a at h3 hc r2;have w2:IntKind.i64.wrap ((i:Int)+1)=i+1:=wrO;by_cases h0:i=0
  ·subst h0;simp[SX,hi,r2,hc,dP,aL h3,Ex.aB]
  ·simp[SX,aQ h0,aJ h0,bU h0,hi,r2,hc,w2,aL h3,Ex.aZ,show min i e.kids.length=i by omega,show(i+1)*56≤140737488355328 by omega,← List.map_take,zG]
theorem mY (l:List Ex) (hlt:∀ b∈l,b.thin):∀ (e:Ex),e.thin→e.YH l.length→aI C0 138 [.i (.agg e.cells), .i (.isl (Ex.aB l))] []=some (.i (.agg (e.sub l).cells),[]):=by
 intro e
 induction e using Ex.ind with
 | h k c v ks ih =>
  intro ht hc;have ht':=(Ex.bO _).1 ht;have hc':=(Ex.VE _ _).1 hc;by_cases hk:k=1
  ·obtain⟨h0,h1⟩:=hc'.1 hk;have hi:c.toNat<l.length:=by simp[Ex.col]at h0 h1;omega
   have hb:=zX hi;rw[Ex.wW l (e:=.mk k c v ks) hk hb];exact wW hk h0 hb (hlt _ (xJ hi))
  ·rw[Ex.wV l (e:=.mk k c v ks) hk];exact AKO hk ht'.1 fun a ha=>ih a ha (ht'.2 a ha) (hc'.2 hk a ha)
def HX (e:Ex) (i:Nat):AS :=
 { env:=[(0, .i (.iref [.int e.kind, .int e.col, .bool e.val.null, .int e.val.n, .isl (Ex.aB e.kids)])),(2, .int 0),(3, .int (Ex.htL (e.kids.take i):Nat)),(4,jk i (.int (i-1))),(9, .int e.kids.length),(10, .int i),(11,jk i (.bool true))],st:=[] }
theorem XY {e:Ex} (hs:e.size<1000000000) (ih:∀ k∈e.kids,aI C0 179 [.i (.iref k.cells)] []=some (.int (k.ht:Nat),[])) :
 aI C0 179 [.i (.iref e.cells)] []=some (.int (e.ht:Nat),[]):=by
 rw[aF rfl Tryz.func179 rfl rfl,Ex.aA];simp;have hl:=Ex.bP e.kids;rw[Ex.size_eq]at hs;rw[aT (HX e) e.kids.length (by simp[HX,Ex.htL])]
 ·rw[aG];simp[HX,Ex.AMD e]
 ·intro i hi;have h3:=zX hi;have hm:=zU h3;have hc:=ih _ hm;have r2:=Ex.aP h3;have hz:=Ex.jF hm;generalize e.kids[i]=a at h3 hc r2 hz;have ha:=Ex.AHP a;have w2:IntKind.i64.wrap ((i:Int)+1)=i+1:=wrO;have w1:IntKind.i64.wrap (1+(a.ht:Int))=1+a.ht:=wrO;rw[Ex.aA]at hc r2;have hmax:Ex.htL (e.kids.take (i+1))=max (Ex.htL (e.kids.take i)) (1+a.ht):=by rw[aL h3,Ex.AAA]
  by_cases hg:1+a.ht > Ex.htL (e.kids.take i)
  ·simp[HX,hi,r2,hc,w1,w2,hmax,show max (Ex.htL (e.kids.take i)) (1+a.ht)=1+a.ht by omega,show(Ex.htL (e.kids.take i):Int)<1+a.ht by omega]
  ·simp[HX,hi,r2,hc,w1,w2,hmax,show max (Ex.htL (e.kids.take i)) (1+a.ht)=Ex.htL (e.kids.take i)by omega,show ¬ (Ex.htL (e.kids.take i):Int)<1+a.ht by omega]
theorem AHU:∀ (e:Ex),e.size<1000000000→aI C0 179 [.i (.iref e.cells)] []=some (.int (e.ht:Nat),[]):=by
 intro e
 induction e using Ex.ind with
 | h k c v ks ih =>
  intro hs;exact XY hs fun a ha=>ih a ha (by have:=Ex.jF ha;simp only[Ex.size,Ex.kids]at hs this;omega)
theorem AMK {e:Ex} {hs:List Nat} {n:Int} (hn:n<0):aI C0 180 [.i (.iref e.cells), .i (.isl (qH hs)), .int n] []=some (.bool false,[]):=by
 rw[aF rfl Tryz.func180 rfl rfl,Ex.aA];simp[hn]
theorem AML {e:Ex} {hs:List Nat} {n:Int} {h:Nat} (hn:0≤n) (hk:e.kind=1) (hks:e.kids=[]) (h0:0≤e.col) (hh:hs[e.col.toNat]?=some h) :
 aI C0 180 [.i (.iref e.cells), .i (.isl (qH hs)), .int n] []=some (.bool (decide ((h:Int)≤n)),[]):=by
 rw[aF rfl Tryz.func180 rfl rfl,Ex.aA];have r2:=UA hh;have r1:=(zY.1 hh).1;by_cases hc:n<h
 ·simp[zA8.2 hn,hk,h0,r2,hc,show e.col<hs.length by omega]
 ·simp[zA8.2 hn,hk,h0,r2,hc,zA8.1 hc,show e.col<hs.length by omega,hks,Ex.aB];rw[aG];simp
def FX (e:Ex) (hs:List Nat) (n:Int) (i:Nat):AS :=
 { env:=[(0, .i (.iref [.int e.kind, .int e.col, .bool e.val.null, .int e.val.n, .isl (Ex.aB e.kids)])),(1, .i (.isl (qH hs))),(2, .int n),(6, .bool false),(7,jk i (.int (i-1))),(27, .bool false),(32, .int e.kids.length),(33, .int i),(34,jk i (.bool true)),(46,jk i (.bool false))],st:=[] }
theorem AI0 {e:Ex} {hs:List Nat} {n:Int} (hn:0≤n) (hn8:n≤8) (hl:e.kids.length<1000000000) (hk:e.kind≠1)
 (ih:∀ k∈e.kids,aI C0 180 [.i (.iref k.cells), .i (.isl (qH hs)), .int (n-1)] []=some (.bool (decide ((k.htS hs:Int)≤n-1)),[])) :
  aI C0 180 [.i (.iref e.cells), .i (.isl (qH hs)), .int n] []=some (.bool (e.kids.all fun k=>decide ((k.htS hs:Int)≤n-1)),[]):=by
 rw[aF rfl Tryz.func180 rfl rfl,Ex.aA];simp[zA8.2 hn,hk];obtain⟨j,h1,h2⟩:=iV (fun k:Ex=>decide ((k.htS hs:Int)≤n-1)) e.kids;have w1:IntKind.i64.wrap (n-1)=n-1:=wrO;rw[aT (FX e hs n) j (by simp[FX])]
 ·rw[aG]
  rcases h2 with ⟨hj,ha⟩|⟨k,h3,h4,h5,ha⟩
  ·simp[FX,hj,ha]
  ·have r1:=(zY.1 h3).1;have r2:=Ex.aP h3;have r3:=ih k h4;rw[Ex.aA]at r2 r3;rw[h5]at r3;simp[FX,r1,ha,r2,r3,w1]
 ·intro i hi;obtain⟨k,h3,h4,h5⟩:=h1 i hi;have r1:=(zY.1 h3).1;have r2:=Ex.aP h3;have r3:=ih k h4;have w2:IntKind.i64.wrap ((i:Int)+1)=i+1:=wrO;rw[Ex.aA]at r2 r3;rw[h5]at r3;simp[FX,r1,r2,r3,w1,w2]
theorem AS9 {m:Int} {hs:List Nat} (hm:m=hs.length):∀ (e:Ex),e.wf m=true→e.size<1000000000→∀ n:Int,n≤8→aI C0 180 [.i (.iref e.cells), .i (.isl (qH hs)), .int n] []=some (.bool (decide ((e.htS hs:Int)≤n)),[]):=by
 intro e
 induction e using Ex.ind with
 | h k c v ks ih =>
  intro hw hs' n hn;by_cases h0:n<0
  ·rw[AMK h0,show decide ((Ex.htS hs (.mk k c v ks):Int)≤n)=false by simp;omega]
  ·by_cases hk:k=1
   ·obtain⟨c0,c1,ck⟩:=Ex.wI hw hk;have hi:c.toNat<hs.length:=by simp[Ex.col]at c0 c1;omega
    have hb:=zX hi;rw[Ex.AHR hs (e:=.mk k c v ks) (h:=hs[c.toNat]) hk hb];exact AML (by omega) hk ck c0 hb
   ·have hl:=Ex.bP ks;have hsz:Ex.aM ks<1000000000:=by simp[Ex.size]at hs';omega
    have hn0:=zA8.1 h0;rw[AI0 (e:=.mk k c v ks) (n:=n) hn0 hn (by simp only[Ex.kids];omega) hk fun x hx=>ih x hx (Ex.pM hw hx) (by have:=Ex.jF hx;simp only[Ex.kids]at this;omega) (n-1) (by omega)];rw[Ex.AHQ hs (e:=.mk k c v ks) hk]
    suffices hsf:(ks.all fun x=>decide ((x.htS hs:Int)≤n-1))=decide ((Ex.AJW hs ks:Int)≤n)by simp only[Ex.kids];rw[hsf];rfl
    rw[zB8];have:=Ex.AHS hs (n:=n.toNat) ks;simp only[zO,zM];constructor
    ·intro h;have h2:=this.2 fun x hx=>by have:=h x hx;omega
     omega
    ·intro h x hx;have h2:=this.1 (by omega) x hx;omega
end Go.Proofs.YtjdfjgmebalaaaaGreat

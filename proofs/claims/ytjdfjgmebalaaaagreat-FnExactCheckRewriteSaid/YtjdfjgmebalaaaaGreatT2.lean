/- Part 2 of what the proof rests on: the executor and what it is worth, and the program's functions as it runs them. No condition. -/
import Derived.Test.YtjdfjgmebalaaaaGreatT1
import Derived.Below
set_option linter.unusedVariables false
set_option linter.unusedSimpArgs false
namespace Go.Av
noncomputable def Q7 (cs:List IV) (st:StL):Option (AV×StL):=@ite _ (∃ e:Ex,e.size<1000000000∧e.cells=cs) (Classical.propDecidable _) (some (.i (.agg cs),st)) none
noncomputable def EM:List AV→StL→Option (AV×StL)
 | [.i (.iref cs)],[]=>Q7 cs []
 | [.ownE 0 5 j 0],[some (.arr 5 es)]=>bnd es[j]? fun cs=>Q7 cs [some (.arr 5 es)]
 | _,_=>none
theorem SQ {e:Ex} {st:StL} (h:e.size<1000000000):Q7 e.cells st=some (.i (.agg e.cells),st):=by
 unfold Q7;exact if_pos ⟨e,h,rfl⟩
theorem II {cs:List IV} {st:StL} {r:AV×StL} (h:Q7 cs st=some r):∃ e:Ex,e.size<1000000000∧cs=e.cells∧r=(.i (.agg e.cells),st):=by
 unfold Q7 at h;by_cases hc:∃ e:Ex,e.size<1000000000∧e.cells=cs
 ·rw[if_pos hc]at h;obtain⟨e,h1,rfl⟩:=hc;injection h with h;exact⟨e,h1,rfl,h.symm⟩
 ·rw[if_neg hc]at h;cases h
theorem SN {e:Ex} (h:e.size<1000000000):EM [.i (.iref e.cells)] []=some (.i (.agg e.cells),[]):=SQ h
theorem ZX {e:Ex} {es:List (List IV)} {j:Nat} (h:e.size<1000000000) (he:es[j]?=some e.cells):EM [.ownE 0 5 j 0] [some (.arr 5 es)]=some (.i (.agg e.cells),[some (.arr 5 es)]):=by
 show(bnd es[j]? fun cs=>Q7 cs [some (.arr 5 es)])=_;rw[he];exact SQ h
theorem IG {args:List AV} {st:StL} {r:AV×StL} (h:EM args st=some r):∃ e:Ex,e.size<1000000000∧r=(.i (.agg e.cells),st) ∧
 ((args=[.i (.iref e.cells)]∧st=[])∨∃ j es,args=[.ownE 0 5 j 0]∧st=[some (.arr 5 es)]∧es[j]?=some e.cells):=by
 unfold EM at h;split at h
 ·obtain⟨e,h1,rfl,rfl⟩:=II h;exact⟨e,h1,rfl, .inl ⟨rfl,rfl⟩⟩
 ·rename_i j es;obtain⟨cs,h0,h⟩:=aH.1 h;obtain⟨e,h1,rfl,rfl⟩:=II h;exact⟨e,h1,rfl, .inr ⟨j,es,rfl,rfl,h0⟩⟩
 ·cases h
theorem vN {m:Mem} {es:List (List IV)} {v:Value} (h:IRep m (.isl es) v) :
 (es=[]∧∃ ao cap,v=.slice ao 0 cap)∨(es≠[]∧∃ b off k cap,v=.slice (some ⟨b,off,none⟩) es.length cap∧IElems m b off k es∧es.length≤cap):=by
 cases h with
 | isl0 ao cap hc=>exact .inl ⟨rfl,ao,cap,rfl⟩
 | isl hn he hc=>exact .inr ⟨hn,_,_,_,_,rfl,he,hc⟩
theorem kU {m:Mem} {c v:Value} (h:IRep m (.lit c) v):v=c:=by cases h;rfl
theorem IAt.inv {m:Mem} {b o:Nat} {c:IV} {cs:List IV} (h:IAt m b o (c::cs)):∃ v,m b o=some v∧IRep m c v∧v.oneCell'=true∧IAt m b (o+1) cs:=by
 cases h with|cons a r q t=>exact⟨_,a,r,q,t⟩
structure ExAt (m:Mem) (b o:Nat) (e:Ex) (v:Value):Prop where
 c0:m b o=some (.int .i64 e.kind)
 c1:m b (o+1)=some (.int .i64 e.col)
 c2:m b (o+2)=some (.bool e.val.null)
 c3:m b (o+3)=some (.int .i64 e.val.n)
 c4:m b (o+4)=some v
 kids:IRep m (.isl (Ex.aB e.kids)) v
theorem JU {m:Mem} {b o:Nat} {e:Ex} (h:IAt m b o e.cells):∃ v,ExAt m b o e v:=by
 rw[Ex.aA]at h;obtain⟨v0,a0,r0,-,h⟩:=h.inv;obtain⟨v1,a1,r1,-,h⟩:=h.inv;obtain⟨v2,a2,r2,-,h⟩:=h.inv;obtain⟨v3,a3,r3,-,h⟩:=h.inv;obtain⟨v4,a4,r4,-,-⟩:=h.inv;rw[kU r0]at a0;rw[kU r1]at a1;rw[kU r2]at a2;rw[kU r3]at a3;exact⟨v4,a0,a1,a2,a3,a4,r4⟩
theorem rU {m:Mem} {es:List (List IV)} {v:Value} (h:IRep m (.isl es) v):v.oneCell'=true:=by
 cases h<;>rfl
theorem YH {m:Mem} {b o:Nat} {e:Ex} {v:Value} (h:ExAt m b o e v):IAt m b o e.cells:=by
 rw[Ex.aA];exact .cons h.c0 (.lit _) rfl (.cons h.c1 (.lit _) rfl (.cons h.c2 (.lit _) rfl (.cons h.c3 (.lit _) rfl (.cons h.c4 h.kids (rU h.kids) (.nil _ _)))))
theorem pR {m:Mem} {b o k:Nat} {e:Ex} {l:List Ex} (h:IElems m b o k (Ex.aB (e::l))):k=5∧IAt m b o e.cells∧IElems m b (o+5) 5 (Ex.aB l):=by
 simp only[Ex.aB]at h
 cases h with
 | cons a hk r =>
  rw[Ex.d9]at hk;subst hk;exact⟨rfl,a,r⟩
theorem I9 {m:Mem} {b:Nat}:∀ {o k k':Nat} {l l':List Ex},(∀ e∈l,∀ e' b o,IAt m b o e.cells→IAt m b o e'.cells→e=e')→l.length=l'.length→IElems m b o k (Ex.aB l)→IElems m b o k' (Ex.aB l')→l=l'
 | _,_,_,[],[],_,_,_,_=>rfl
 | o,k,k',a::l,a'::l',ih,hl,h,h'=>by
  obtain⟨rfl,h1,h2⟩:=pR h;obtain⟨rfl,h3,h4⟩:=pR h';rw[ih a (by simp) a' b o h1 h3,I9 (fun e he=>ih e (by simp[he])) (by simpa using hl) h2 h4]
 | _,_,_,[],_::_,_,hl,_,_=>by simp at hl
 | _,_,_,_::_,[],_,hl,_,_=>by simp at hl
theorem RP {m:Mem} {l l':List Ex} {v:Value} (ih:∀ e∈l,∀ e' b o,IAt m b o e.cells→IAt m b o e'.cells→e=e') (h:IRep m (.isl (Ex.aB l)) v) (h':IRep m (.isl (Ex.aB l')) v):l=l':=by
 have nil:∀ {l:List Ex},Ex.aB l=[]→l=[]:=fun {l} e=>by cases l with|nil=>rfl|cons a l=>simp[Ex.aB]at e
 rcases vN h with ⟨e1,ao,cap,hv⟩|⟨e1,b,off,k,cap,hv,hel,_⟩
 ·rcases vN h' with ⟨e2,_⟩|⟨e2,b',off',k',cap',hv',_⟩
  ·rw[nil e1,nil e2]
  ·rw[hv]at hv';injection hv' with _ q _;rw[Ex.aV]at q;exact absurd (by cases l' with|nil=>rfl|cons a l=>simp at q) e2
 ·rcases vN h' with ⟨e2,ao,cap',hv'⟩|⟨e2,b',off',k',cap',hv',hel',_⟩
  ·rw[hv]at hv';injection hv' with _ q _;rw[Ex.aV]at q;exact absurd (by cases l with|nil=>rfl|cons a l=>simp at q) e1
  ·rw[hv]at hv';injection hv' with q1 q2 _;injection q1 with q1;injection q1 with q1 q3;subst q1;subst q3;rw[Ex.aV,Ex.aV]at q2;exact I9 ih q2 hel hel'
theorem AHT {m:Mem}:∀ (e e':Ex) (b o:Nat),IAt m b o e.cells→IAt m b o e'.cells→e=e':=by
 intro e
 induction e using Ex.ind with
 | h k c v ks ih =>
  intro e' b o h h';obtain⟨v1,h⟩:=JU h;obtain⟨v2,h'⟩:=JU h';obtain⟨k',c',v',ks'⟩:=e';have e0:=h.c0.symm.trans h'.c0;have e1:=h.c1.symm.trans h'.c1;have e2:=h.c2.symm.trans h'.c2;have e3:=h.c3.symm.trans h'.c3;have e4:=h.c4.symm.trans h'.c4;simp only[Ex.kind,Ex.col,Ex.val,Option.some.injEq,Value.int.injEq,Value.bool.injEq,true_and]at e0 e1 e2 e3 e4;subst e0;subst e1;subst e4;have hk:=h'.kids;have:ks=ks':=RP (m:=m) (v:=v1) (fun e he e' b o=>ih e he e' b o) h.kids hk;subst this;obtain⟨a,n⟩:=v;obtain⟨a',n'⟩:=v';simp only at e2 e3;subst e2;subst e3;rfl
def turn (m:Mem) (b o:Nat) (v:Value):Mem:=fun b' o'=>if b'=b∧o'=o then some v else m b' o'
theorem IC {m m':Mem} {b:Nat}:∀ {o k:Nat} {l:List Ex},(∀ e∈l,∀ b o,IAt m b o e.cells→IAt m' b o e.cells)→IElems m b o k (Ex.aB l)→IElems m' b o k (Ex.aB l)
 | o,k,[],_,_=>by simp only[Ex.aB];exact .nil _ _ _
 | o,k,a::l,ih,h=>by
  obtain⟨rfl,h1,h2⟩:=pR h;simp only[Ex.aB];exact .cons (ih a (by simp) b o h1) (by simp) (IC (fun e he=>ih e (by simp[he])) h2)
theorem RQ {m m':Mem} {l:List Ex} {v:Value} (ih:∀ e∈l,∀ b o,IAt m b o e.cells→IAt m' b o e.cells) (h:IRep m (.isl (Ex.aB l)) v):IRep m' (.isl (Ex.aB l)) v:=by
 generalize hes:Ex.aB l=es at h
 cases h with
 | isl0 ao cap hc=>exact .isl0 _ _ hc
 | isl hn he hc=>subst hes;exact .isl hn (IC ih he) hc
theorem AFU {m:Mem} {b o:Nat} {x:Ex} {v v':Value} (hx:ExAt m b o x v) (hv:IRep m (.isl (Ex.aB x.kids)) v'):∀ (e:Ex) (b1 o1:Nat),IAt m b1 o1 e.cells→IAt (turn m b (o+4) v') b1 o1 e.cells:=by
 intro e
 induction e using Ex.ind with
 | h k c vv ks ih =>
  intro b1 o1 h;obtain⟨u,h⟩:=JU h
  have hsl:∀ q:Value,m b (o+4)=some q→(∃ k n,q=.int k n)∨(∃ t,q=.bool t)→False:=by
   intro q hq hh;rw[hx.c4]at hq;injection hq with hq;subst hq
   rcases vN hx.kids with ⟨_,ao,cap,e⟩|⟨_,b',off,k',cap,e,_⟩<;>rcases hh with ⟨k,n,e'⟩|⟨t,e'⟩<;>rw[e]at e'<;>cases e'
  have low:∀ i q,m b1 (o1+i)=some q→((∃ k n,q=.int k n)∨(∃ t,q=.bool t))→turn m b (o+4) v' b1 (o1+i)=some q:=by
   intro i q hq hh;unfold turn;split
   ·rename_i e;rw[e.1,e.2]at hq;exact(hsl q hq hh).elim
   ·exact hq
  have c0:=low 0 _ (by simpa using h.c0) (.inl ⟨_,_,rfl⟩);have c1:=low 1 _ h.c1 (.inl ⟨_,_,rfl⟩);have c2:=low 2 _ h.c2 (.inr ⟨_,rfl⟩);have c3:=low 3 _ h.c3 (.inl ⟨_,_,rfl⟩);by_cases he:b1=b∧o1+4=o+4
  ·have hu:u=v:=by have:=h.c4;rw[he.1,he.2,hx.c4]at this;injection this with this;exact this.symm
   have hk:ks=x.kids:=by
    have a1:=h.kids;rw[hu]at a1;exact RP (m:=m) (v:=v) (fun e he=>fun e' b o=>AHT e e' b o) a1 hx.kids
   refine YH (v:=v') ⟨by simpa using c0,c1,c2,c3,by unfold turn;rw[if_pos he],?_⟩;rw[← hk]at hv;exact RQ (fun e he b o=>ih e he b o) hv
  ·exact YH (v:=u) ⟨by simpa using c0,c1,c2,c3,by unfold turn;rw[if_neg he];exact h.c4,RQ (fun e he b o=>ih e he b o) h.kids⟩
structure PF (B:Nat) (w:World) (m:Mem) (φ:Pl) (b o:Nat) (x:Ex):Prop where
 new:B≤b
 row:∃ (vs:List Value) (T:TypeId),w.heap[b]?=some (.cells vs.toArray T (0,0))
 free:jN φ b
 cel:IAt m b o x.cells
abbrev KL:=List ((Nat×Nat)×Ex)
theorem PF.lt {B:Nat} {w:World} {m:Mem} {φ:Pl} {b o:Nat} {x:Ex} (h:PF B w m φ b o x):b<w.heap.size:=by
 obtain⟨vs,T,e⟩:=h.row;exact(zI.1 e).1
theorem PF.adv {B:Nat} {w w':World} {m m':Mem} {φ φ':Pl} {b o:Nat} {x:Ex} (h:PF B w m φ b o x) (k:Adv w m φ w' m' φ'):PF B w' m' φ' b o x:=by
 refine⟨h.new,?_,k.range h.lt h.free,h.cel.mono k.mle⟩;rw[k.block b h.lt h.free];exact h.row
theorem qE {P:Program} {id:Nat} {ops:Array Oper} {Q:Exit→Act→World→Prop} {a:Act} {w:World} (h:wpOpsIn (FR none) 0 P ops Q (List.range ops.size) a w):(Code.region id ops false).wp P Q a w :=
 wpIn_wide.1 (wpIn_region (F:=Fence.wide) (n:=0) h)
structure GG (wi:World) (mi:Mem) (nt:Nat) (ok:Nat→Prop) (K:KL) (env:Nat→AV) (st:Store) (a:Act) (w:World):Prop where
 out:∃ m φ,Inv w m φ st∧(∀ t,Rep m φ (env t) (a.tmps.getD t undef))∧Adv wi mi (fun _=>none) w m φ∧(∀ id,φ id≠none→ok id)∧∀ k∈K,PF wi.heap.size w m φ k.1.1 k.1.2 k.2
 size:nt≤a.tmps.size
 defers:a.defers=[]
section
variable {C:Ctx} {wi:World} {mi:Mem} {nt:Nat}
theorem GG.ofA {ok ok':Nat→Prop} {K:KL} {env env':Nat→AV} {st st':Store} {a a':Act} {w w':World} {m:Mem} {φ:Pl} (h3:Adv wi mi (fun _=>none) w m φ) (h5:∀ k∈K,PF wi.heap.size w m φ k.1.1 k.1.2 k.2) (h:ARel [] w m φ nt ok' env' st' a' w'):GG wi mi nt ok' K env' st' a' w':=by
 obtain⟨⟨m',φ',k1,k2,k3,k4,_⟩,k5,k6⟩:=h;exact⟨⟨m',φ',k1,k2,h3.trans k3,k4,fun k hk=>(h5 k hk).adv k3⟩,k5,k6⟩
theorem GG.code (hC:CtxOk C) {call:dK} (hcall:CallOk C call) (hdraw:TM C call) {G:List Nat} {n:Nat} {c:Code} {S S':AS} {e:AExit} {a:Act} {w:World} {K:KL} (hc:codeOk nt c=true) (hx:exec C call G S.st.length n c S=some (e,S')) (h:GG wi mi nt (fun id=>id<S.st.length) K (aT S.env) (bD S.st) a w) (hnr:bL c=true:=by rfl) :
 c.wp C.P (fun e' a' w'=>e'=kX e∧GG wi mi nt (fun id=>id<S'.st.length) K (aT S'.env) (bD S'.st) a' w') a w:=by
 obtain⟨⟨m,φ,h1,h2,h3,h4,h5⟩,h6,h7⟩:=h;refine wpIn_wide.1 (wpIn_mono (bQ (ρ:=none) hC hcall hdraw h4 n c S S' e [] a w hc (.inl rfl) hx ⟨⟨⟨m,φ,h1,h2, .refl _ _ _,h4, .nil _ _ _⟩,h6,h7⟩,zN _⟩) ?_);rintro e' a' w' ⟨rfl,ds,k,kd⟩;have kd:=kd hnr;subst kd;exact⟨rfl, .ofA (ok:=fun _=>True) (env:=fun _=>.junk) (st:=st0) (a:=a) h3 h5 k.1⟩
where st0:Store:=fun _=>none
theorem jX (hC:CtxOk C) {call:dK} (hcall:CallOk C call) {ops:Array Oper} {Q:Exit→Act→World→Prop} {base:Nat} {w0:World} {m0:Mem} {φ0:Pl} {js:List Nat} (hs:∀ o∈ops,jH nt o=true) :
 ∀ (os:List Oper) (i:Nat) (R R':RS) (a:Act) (w:World),(∀ j,j<os.length→os[j]?=ops[i+j]?)→cZ C call ops.toList false base os i R=some R' →
   ARel [] w0 m0 φ0 nt (F6 base (fun j=>j<i)) R.env R.st a w→(∀ a' w',ARel [] w0 m0 φ0 nt (F6 base fun j=>j<i+os.length) R'.env R'.st a' w'→wpOpsIn (FR none) 0 C.P ops Q js a' w')→wpOpsIn (FR none) 0 C.P ops Q (List.range' i os.length++js) a w
 | [],i,R,R',a,w,_,h,hr,hQ=>by
  simp only[cZ,Option.some.injEq]at h;subst h;simpa using hQ a w (by simpa using hr)
 | o::os,i,R,R',a,w,hl,h,hr,hQ=>by
  have ho:ops[i]?=some o:=by simpa using (hl 0 (by simp)).symm
  simp only[zO,List.range'_succ,yD];rw[wpOpsIn_cons];simp only[cZ]at h;obtain⟨b,h1,h2⟩:=aH.1 h;have hstat:=hs o (Array.mem_of_getElem? ho)
  have hrest:∀ j,j<os.length→os[j]?=ops[i+1+j]?:=fun j hj=>by
   have:=hl (j+1) (by simpa using hj);simpa [yN,Nat.add_comm 1 j]using this
  have mono:∀ env st a' w',ARel [] w0 m0 φ0 nt (F6 base fun j=>j<i∨j=i) env st a' w'→ARel [] w0 m0 φ0 nt (F6 base fun j=>j<i+1) env st a' w':=by
   rintro env st a' w' ⟨⟨m,φ,k1,k2,k3,k4,k7⟩,k5,k6⟩;exact⟨⟨m,φ,k1,k2,k3,fun id hne=>mO (fun j hj=>by omega) (k4 id hne),k7⟩,k5,k6⟩
  have hQ':∀ a' w',ARel [] w0 m0 φ0 nt (F6 base fun j=>j<i+1+os.length) R'.env R'.st a' w'→wpOpsIn (FR none) 0 C.P ops Q js a' w':=fun a' w' k=>hQ a' w' (by
   rw[show i+(o::os).length=i+1+os.length by simp;omega];exact k)
  cases b with
  | true =>
   simp only[if_true]at h2;obtain⟨_,h3⟩:=aP.1 h2;obtain⟨p,h4,h5⟩:=aH.1 h3;refine mJ hC hcall (dn:=fun j=>j<i) (base:=base) (S:=(R.env,R.st)) (S':=(sS R.env o.dst p.1,p.2)) ho hstat (xY i) ?_ hr fun a' w' hr'=>?_
   ·unfold aOp;exact aH.2 ⟨true,h1,by simp only[if_true];exact aH.2 ⟨p,h4,rfl⟩⟩
   ·exact jX hC hcall hs os (i+1) _ R' a' w' hrest h5 (mono _ _ _ _ hr') hQ'
  | false =>
   simp only[yZ,if_false]at h2;refine mJ hC hcall (dn:=fun j=>j<i) (base:=base) (S:=(R.env,R.st)) (S':=(sS R.env o.dst (.i (.lit undef)),R.st)) ho hstat (xY i) ?_ hr fun a' w' hr'=>?_
   ·unfold aOp;exact aH.2 ⟨false,h1,by simp⟩
   ·exact jX hC hcall hs os (i+1) _ R' a' w' hrest h2 (mono _ _ _ _ hr') hQ'
theorem GG.ops (hC:CtxOk C) {call:dK} (hcall:CallOk C call) {ops:Array Oper} {Q:Exit→Act→World→Prop} {base:Nat} {js:List Nat} {K:KL} (hs:∀ o∈ops,jH nt o=true) {os:List Oper} {i:Nat} {R R':RS} {a:Act} {w:World} (hl:∀ j,j<os.length→os[j]?=ops[i+j]?) (hx:cZ C call ops.toList false base os i R=some R')
 (h:GG wi mi nt (F6 base fun j=>j<i) K R.env R.st a w) (hQ:∀ a' w',GG wi mi nt (F6 base fun j=>j<i+os.length) K R'.env R'.st a' w'→wpOpsIn (FR none) 0 C.P ops Q js a' w'):wpOpsIn (FR none) 0 C.P ops Q (List.range' i os.length++js) a w:=by
 obtain⟨⟨m,φ,h1,h2,h3,h4,h5⟩,h6,h7⟩:=h;exact jX hC hcall hs os i R R' a w hl hx ⟨⟨m,φ,h1,h2, .refl _ _ _,h4, .nil _ _ _⟩,h6,h7⟩ fun a' w' k=>hQ a' w' (.ofA (ok:=fun _=>True) (env:=fun _=>.junk) (st:=fun _=>none) (a:=a) h3 h5 k)
theorem GG.settle {ok:Nat→Prop} {K:KL} {env:Nat→AV} {st:Store} {a:Act} {w:World} (G:List Nat) (h:GG wi mi nt ok K env st a w) :
 GG wi mi nt (fun id=>id<(settle G 0 env st).st.length) K (aT (settle G 0 env st).env) (bD (settle G 0 env st).st) a w:=by
 obtain⟨⟨m,φ,hi,henv,hadv,hok,hK⟩,hsz,hdf⟩:=h;unfold Av.settle uZ;generalize hids:gH st 0 (vQ env G)=ids;have hd:ids.Nodup:=by rw[← hids];exact fU _ _ _
 have hfree:∀ b,jN φ b→jN (eD ids φ) b:=by
  intro b hb id r n e;unfold eD at e
  cases hx:ids[id]? with
  | none=>rw[hx]at e;cases e
  | some j=>rw[hx]at e;exact hb j r n e
 refine⟨⟨m,eD ids φ,hi.keep hd,?_,hadv.keep (fun id h=>absurd rfl h) (fun j hj=>absurd hj (xZ j)),?_,fun k hk=>⟨(hK k hk).new,(hK k hk).row,hfree _ (hK k hk).free,(hK k hk).cel⟩⟩,hsz,hdf⟩
 ·intro t
  have key:∀ G:List Nat,Rep m (eD ids φ) (aT (mD (fH ids) env G) t) (a.tmps.getD t undef):=by
   intro G
   induction G with
   | nil=>exact .junk _
   | cons u G ih =>
    simp only[mD,aT];by_cases e:t=u
    ·subst e;simp only[if_true];exact(henv t).ren (kW ids φ)
    ·simp only[e,if_false];exact ih
  exact key G
 ·intro id hne;simp only[fQ];unfold eD at hne
  cases hx:ids[id]? with
  | none=>rw[hx]at hne;exact absurd rfl hne
  | some i=>exact(zZ.1 hx).1
theorem GG.see {ok:Nat→Prop} {K:KL} {env:Nat→AV} {st:Store} {a:Act} {w:World} {u b o:Nat} {x:Ex} (h:GG wi mi nt ok K env st a w) (hu:env u=.i (.lit (.pointer (some ⟨b,o,none⟩)))) (hk:((b,o),x)∈K):GG wi mi nt ok K (upd env u (.i (.iref x.cells))) st a w:=by
 obtain⟨⟨m,φ,hi,henv,hadv,hok,hK⟩,hsz,hdf⟩:=h;refine⟨⟨m,φ,hi,fun t=>?_,hadv,hok,hK⟩,hsz,hdf⟩;simp only[upd];split
 ·rename_i e;subst e;have:=henv t;rw[hu]at this;rw[this.bP];exact .i (.iref (hK _ hk).cel)
 ·exact henv t
theorem GG.envTo {ok:Nat→Prop} {K:KL} {env env':Nat→AV} {st:Store} {a:Act} {w:World} (h:GG wi mi nt ok K env st a w) (he:∀ t,env' t=.junk∨env' t=env t):GG wi mi nt ok K env' st a w:=by
 obtain⟨⟨m,φ,hi,henv,hadv,hok,hK⟩,hsz,hdf⟩:=h;refine⟨⟨m,φ,hi,fun t=>?_,hadv,hok,hK⟩,hsz,hdf⟩
 rcases he t with e|e
 ·rw[e];exact .junk _
 ·rw[e];exact henv t
theorem GG.ok' {ok ok':Nat→Prop} {K:KL} {env:Nat→AV} {st:Store} {a:Act} {w:World} (h:GG wi mi nt ok K env st a w) (he:∀ id,ok id→ok' id):GG wi mi nt ok' K env st a w:=by
 obtain⟨⟨m,φ,hi,henv,hadv,hok,hK⟩,hsz,hdf⟩:=h;exact⟨⟨m,φ,hi,henv,hadv,fun id h=>he id (hok id h),hK⟩,hsz,hdf⟩
end
def iA:Blk→Prop
 | .box cs=>∀ c∈cs,(∃ v,c=.i (.lit v))∨c=.nils
 | .arr _ es=>∀ c∈es.flatten,∃ v,c=.lit v
 | .frz _ _=>False
 | .fbox _=>False
 | .tre _ _=>False
 | .loop _ _ _=>False
theorem ICells.WJ {m m':Mem}:∀ {cs:List IV} {vs:List Value},(∀ c∈cs,∃ v,c=.lit v)→ICells m cs vs→ICells m' cs vs
 | [],_,_, .nil=>.nil
 | c::cs,_,h, .cons a o r=>by
  obtain⟨v,rfl⟩:=h c (by simp);rw[kU a]at o ⊢;exact .cons (.lit _) o (ICells.WJ (fun d hd=>h d (by simp[hd])) r)
theorem RepC.WJ {m m':Mem} {φ φ':Pl}:∀ {cs:List AV} {vs:List Value},(∀ c∈cs,(∃ v,c=.i (.lit v))∨c=.nils)→RepC m φ cs vs→RepC m' φ' cs vs
 | [],_,_, .nil=>.nil
 | c::cs,_,h, .cons a o r=>by
  have hr:=RepC.WJ (m':=m') (φ':=φ') (fun d hd=>h d (by simp[hd])) r
  rcases h c (by simp)with ⟨v,rfl⟩|rfl
  ·rw[a.bP]at o ⊢;exact .cons (.i (.lit _)) o hr
  ·cases a;exact .cons .nils o hr
theorem BlkOk.WJ {w w':World} {m m':Mem} {φ φ':Pl} {b:Nat} {n:Ext} {blk:Blk} (hl:iA blk) (hh:w'.heap[b]?=w.heap[b]?) (hm:∀ o,m b o=none→m' b o=none) (h:BlkOk w m φ b n blk):BlkOk w' m' φ' b n blk:=by
 cases h with
 | box h1 h2 h3 h4=>exact .box (by rw[hh];exact h1) h2 (h3.WJ hl) fun o=>hm o (h4 o)
 | arr h1 h2 h3 h4 h5 h6 h7 h8 h9 =>
  exact .arr (by rw[hh];exact h1) h2 h3 h4 (h5.WJ hl) h6 (fun o=>hm o (h7 o)) h8 h9
 | frz=>cases hl
 | fbox=>cases hl
 | tre=>cases hl
 | loop=>cases hl
def AMP (st:Store):Prop:=∀ id blk,st id=some blk→iA blk
section
variable {C:Ctx} {wi:World} {mi:Mem}
theorem TZ {w:World} {m:Mem} {φ:Pl} {st:Store} {K:KL} {b o:Nat} {x:Ex} {v:Value} {t:TypeId} (ht:gM C.P t=some 1) (hi:Inv w m φ st) (hst:AMP st) (hadv:Adv wi mi (fun _=>none) w m φ) (hmi:lD wi mi)
 (hK:∀ k∈K,PF wi.heap.size w m φ k.1.1 k.1.2 k.2) (hk:((b,o),x)∈K) (hv:IRep m (.isl (Ex.aB x.kids)) v) :
 ∃ w' m',(Instr.storeAt t (.pointer (some ⟨b,o+4,none⟩)) v).run C.P w=.ok () w'∧Inv w' m' φ st∧Adv wi mi (fun _=>none) w' m' φ∧(∀ k∈K,PF wi.heap.size w' m' φ k.1.1 k.1.2 k.2) ∧
   IAt m' b o [.int x.kind, .int x.col, .bool x.val.null, .int x.val.n, .lit v]:=by
 have hp:=hK _ hk;obtain⟨u,hx⟩:=JU hp.cel;obtain⟨vs,T,hrow⟩:=hp.row;have hone:=rU hv
 have hcells:v.cells.toList=[v]:=by
  rcases vN hv with ⟨_,ao,cap,rfl⟩|⟨_,b',off,k',cap,rfl,_⟩<;>rfl
 have hcsz:v.cells.size=1:=by rw[← Array.length_toList,hcells];rfl
 have hlen:o+4<vs.length:=by
  have:=hi.mem _ _ _ hx.c4;simp only[World.cell?,hrow,Option.isSome_none]at this;have h2:vs.toArray[o+4]?=some u:=by simpa using this
  have:=(zI.1 h2).1;simpa using this
 have hrun:=jF (P:=C.P) (t:=t) (v:=v) (off:=o+4) (by rw[hcsz];exact ht) hrow (by omega) (by rw[hcells];simpa using hone);rw[hcells,hcsz]at hrun;generalize hvs':vs.take (o+4)++[v]++vs.drop (o+4+1)=vs' at hrun;have hheap:(w.setRow b vs'.toArray).heap[b]?=some (.cells vs'.toArray T (0,0)):=setRow_heap w b _ _ T (0,0) hrow;have hother:∀ k,k≠b→(w.setRow b vs'.toArray).heap[k]?=w.heap[k]?:=fun k hk=>setRow_other w b k _ hk
 have hget:∀ j,vs'[j]?=if j=o+4 then some v else vs[j]?:=by
  intro j;subst hvs'
  have hs:vs.take (o+4)++[v]++vs.drop (o+4+1)=vs.set (o+4) v:=by
   rw[List.set_eq_take_append_cons_drop];simp[hlen]
  rw[hs,List.getElem?_set];by_cases e:o+4=j
  ·subst e;simp[hlen]
  ·simp[e,Ne.symm e]
 refine⟨w.setRow b vs'.toArray,turn m b (o+4) v,?_,?_,?_,?_,?_⟩
 ·simp only[Instr.storeAt,Instr.sureAddr,Sem.run_bind,Sem.run_pure,Result.andThen_ok];exact hrun
 ·refine⟨?_,?_,hi.inj,fun i b n f e ho=>by simpa [World.setRow]using hi.low i b n f e ho⟩
  ·intro b1 o1 q hq;unfold turn at hq;by_cases e1:b1=b
   ·subst e1;simp only[World.cell?,hheap,Option.isSome_none]
    have:vs'.toArray[o1]?=some q:=by
     rw[List.getElem?_toArray,hget];split at hq
     ·rename_i e;rw[if_pos e.2];exact hq
     ·rename_i e;have e2:o1≠o+4:=fun h=>e ⟨rfl,h⟩
      rw[if_neg e2];have:=hi.mem _ _ _ hq;simp only[World.cell?,hrow,Option.isSome_none]at this;simpa using this
    simpa using this
   ·rw[if_neg (fun h=>e1 h.1)]at hq;have:=hi.mem _ _ _ hq;simp only[World.cell?]at this ⊢;rw[hother b1 e1];exact this
  ·intro id blk hb;obtain⟨b2,n2,h1,h2,h3⟩:=hi.live id blk hb;have hne:b2≠b:=fun e=>hp.free id b2 n2 h1 (by rw[← e];exact h2.1)
   refine⟨b2,n2,h1,⟨h2.1,fun f hf=>by simpa [World.setRow]using h2.2 f hf⟩,h3.WJ (hst id blk hb) (hother b2 hne) fun o' ho'=>?_⟩;unfold turn;rw[if_neg (fun h=>hne h.1)];exact ho'
 ·refine⟨by simpa [World.setRow]using hadv.size,hadv.os,⟨hadv.tape.tape,hadv.tape.fwd⟩,hadv.output,?_,?_,?_,hadv.ple,hadv.pnew⟩
  ·intro k hk hn;rw[hother k (by have h3:wi.heap.size≤b:=hp.new;omega)];exact hadv.block k hk hn
  ·intro b1 o1 q hq;have h1:=hadv.mle _ _ _ hq;unfold turn;rw[if_neg ?_];· exact h1
   rintro⟨rfl,_⟩;have h2:=hmi _ _ _ hq;have h3:wi.heap.size≤b1:=hp.new;simp only[World.cell?]at h2
   cases h4:wi.heap[b1]? with
   | none=>rw[h4]at h2;cases h2
   | some z=>have:=(zI.1 h4).1;omega
  ·intro k hk hn o';have h3:wi.heap.size≤b:=hp.new;unfold turn;rw[if_neg (fun h=>by have:=h.1;omega)];exact hadv.mnew k hk hn o'
 ·intro k hk;have h:=hK k hk;refine⟨h.new,?_,h.free,AFU hx hv _ _ _ h.cel⟩;by_cases e:k.1.1=b
  ·rw[e];exact⟨vs',T,hheap⟩
  ·rw[hother _ e];exact h.row
 ·have low:∀ i,i<4→∀ q,m b (o+i)=some q→turn m b (o+4) v b (o+i)=some q:=by
   intro i hi q hq;unfold turn;rw[if_neg (by rintro⟨_,h⟩;omega)];exact hq
  refine .cons (by simpa using low 0 (by omega) _ (by simpa using hx.c0)) (.lit _) rfl (.cons (low 1 (by omega) _ hx.c1) (.lit _) rfl (.cons (low 2 (by omega) _ hx.c2) (.lit _) rfl (.cons (low 3 (by omega) _ hx.c3) (.lit _) rfl (.cons ?_ (.lit _) hone (.nil _ _)))));unfold turn;rw[if_pos ⟨rfl,rfl⟩]
end
def gV (b:Nat):Nat→List Ex→KL
 | _,[]=>[]
 | o,x::l=>((b,o),x)::gV b (o+5) l
theorem H8 {m:Mem} {b:Nat}:∀ {o k:Nat} {l:List Ex},IElems m b o k (Ex.aB l)→∀ p∈gV b o l,p.1.1=b∧IAt m p.1.1 p.1.2 p.2.cells
 | _,_,[],_,p,hp=>by simp[gV]at hp
 | o,k,a::l,h,p,hp=>by
  obtain⟨rfl,h1,h2⟩:=pR h;simp only[gV,zQ]at hp
  rcases hp with rfl|hp
  ·exact⟨rfl,h1⟩
  ·exact H8 h2 p hp
section
variable {C:Ctx} {wi:World} {mi:Mem}
theorem AD8 {w:World} {m:Mem} {φ:Pl} {st st':Store} {K:KL} {id:Nat} {v:Value} {ks:List Ex} (hks:ks≠[]) (hi:Inv w m φ st) (hr:Rep m φ (.osl id 5 0 ks.length) v) (hid:st id=some (.arr 5 (Ex.aB ks))) (hadv:Adv wi mi (fun _=>none) w m φ)
 (hK:∀ k∈K,PF wi.heap.size w m φ k.1.1 k.1.2 k.2) (hst:∀ i blk,st' i=some blk→i≠id∧st i=some blk∧iA blk) :
 ∃ b' cap m1 φ2,v=.slice (some ⟨b',0,none⟩) ks.length cap∧Inv w m1 φ2 st'∧Adv wi mi (fun _=>none) w m1 φ2∧(∀ k∈K++gV b' 0 ks,PF wi.heap.size w m1 φ2 k.1.1 k.1.2 k.2)∧IRep m1 (.isl (Ex.aB ks)) v ∧
   (∀ i,st' i≠none→φ2 i=φ i)∧(∀ i,φ2 i≠none→st' i≠none):=by
 have hlen:0<ks.length:=List.length_pos_iff.2 hks
 have hfr:oL st (.osl id 5 0 ks.length)=some (.isl (Ex.aB ks),upd st id (some (.frz 5 (Ex.aB ks)))):=by
  simp[oL,frz,rX,qR,hid,tst,window,bnd,gB,zW]
 obtain⟨m1,k1,k2,k3⟩:=gX hi hr hfr
 cases hr with
 | @osl _ _ _ _ cap b' n' ao eφ hlc hcap ha1 ha2 =>
  have hao:=ha1 (by omega);subst hao;obtain⟨hb,hok⟩:=dF hi eφ hid
  have hrow:∃ (vs:List Value) (T:TypeId),w.heap[b']?=some (.cells vs.toArray T (0,0)):=by
   cases hok with|arr h1=>exact⟨_,_,h1⟩
  have hnew:wi.heap.size≤b':=by
   rcases hadv.pnew id b' n' b' eφ hb.1 with h|h
   ·exact h
   ·exact absurd (fun id b n e=>by cases e) h
  have dec:∀ i,st' i=none∨st' i≠none:=fun i=>by cases st' i<;>simp
  let φ2:Pl:=fun i=>match st' i with
   | some _=>φ i
   | none=>none
  have hφ2:∀ i,st' i≠none→φ2 i=φ i:=fun i h=>by
   show(match st' i with|some _=>φ i|none=>none)=φ i
   cases e:st' i with
   | none=>exact absurd e h
   | some _=>rfl
  have hφ2n:∀ i,φ2 i≠none→st' i≠none:=fun i h e=>h (by
   show(match st' i with|some _=>φ i|none=>none)=none
   rw[e])
  have hsub:∀ i p,φ2 i=some p→φ i=some p∧st' i≠none:=fun i p h=>by
   have h1:=hφ2n i (by rw[h];simp);exact⟨by rw[← hφ2 i h1];exact h,h1⟩
  have hA1:=hadv.trans k3;refine⟨b',cap,m1,φ2,by simp,?_,?_,?_,k1,hφ2,hφ2n⟩
  ·refine⟨k2.mem,?_,?_,fun i b n f e ho=>k2.low i b n f (hsub _ _ e).1 ho⟩
   ·intro i blk hb';obtain⟨h1,h2,h3⟩:=hst i blk hb';have h4:upd st id (some (.frz 5 (Ex.aB ks))) i=some blk:=by simp[upd,h1,h2]
    obtain⟨b,n,q1,q2,q3⟩:=k2.live i blk h4;exact⟨b,n,by rw[hφ2 i (by rw[hb'];simp)];exact q1,q2,q3.WJ h3 rfl fun o h=>h⟩
   ·intro i j b bx n n2 b1 b2 f h1 h2 h3 h4 o1 o2;obtain⟨q1,q2,_⟩:=hst i b1 h1;obtain⟨r1,r2,_⟩:=hst j b2 h2;exact hi.inj i j b bx n n2 b1 b2 f q2 r2 (hsub _ _ h3).1 (hsub _ _ h4).1 o1 o2
  ·refine⟨hA1.size,hA1.os,hA1.tape,hA1.output,hA1.block,hA1.mle,hA1.mnew,(fun _ _ _ h=>by cases h),?_⟩;intro i b n f h2 ho;exact hA1.pnew i b n f (hsub _ _ h2).1 ho
  ·intro k hk
   rcases zT.1 hk with hk|hk
   ·have h:=hK k hk;exact⟨h.new,h.row,fun i r n e=>h.free i r n (hsub _ _ e).1,h.cel.mono k3.mle⟩
   ·have hel:IElems m1 b' 0 5 (Ex.aB ks):=by
     rcases vN k1 with ⟨e1,_⟩|⟨_,b2,off,k',cap',hv,hel,_⟩
     ·exact absurd (by cases ks with|nil=>rfl|cons a l=>simp[Ex.aB]at e1) hks
     ·injection hv with q1 _ _;injection q1 with q1;injection q1 with q1 q2;subst q1;subst q2
      cases ks with
      | nil=>exact absurd rfl hks
      | cons a l=>obtain⟨rfl,_⟩:=pR hel;exact hel
    obtain⟨e1,e2⟩:=H8 hel k hk;refine⟨by rw[e1];exact hnew,by rw[e1];exact hrow,?_,e2⟩;intro i r n e ho;rw[e1]at ho;obtain⟨h1,h2⟩:=hsub _ _ e
    cases hb2:st' i with
    | none=>exact h2 hb2
    | some blk =>
     obtain⟨q1,q2,_⟩:=hst i blk hb2;exact q1 (hi.inj i id r b' n n' blk _ b' q2 hid h1 eφ ho hb.1)
theorem TP {ops:Array Oper} {Q:Exit→Act→World→Prop} {K:Act→World→Prop} {i:Nat} {t ty:TypeId} {x y:Operand} {pos:String} {after:Array Edge} {a:Act} {w w':World} (ho:ops[i]?=some ⟨none, .store t x y,ty,pos,after,none⟩)
 (hrun:(Instr.storeAt t (a.eval x) (a.eval y)).run C.P w=.ok () w') (hK:K a w'):wpOpIn (FR none) 0 C.P ops Q i K a w:=by
 unfold wpOpIn;rw[ho];simp only[Region.wanted,if_true];refine⟨fun _ _=>trivial,?_⟩;rw[Oper.semAt_eq _ _ _ (fun c e=>by cases e)]
 have:(execOp a.eval ⟨none, .store t x y,ty,pos,after,none⟩).run C.P w=.ok .skip w':=by
  unfold execOp;simp[hrun]
 rw[this];simpa [Oper.uponIn,Act.put]using hK
end
section
variable {C:Ctx} {wi:World} {mi:Mem} {nt:Nat}
theorem GG.fC (hS:SoundOk C) {G:List Nat} {c:Code} {S S':AS} {e:AExit} {a:Act} {w:World} {K:KL} (hc:codeOk nt c=true) (hx:eT C G S.st.length c S=some (e,S')) (h:GG wi mi nt (fun id=>id<S.st.length) K (aT S.env) (bD S.st) a w) (hnr:bL c=true:=by rfl) :
 c.wp C.P (fun e' a' w'=>e'=kX e∧GG wi mi nt (fun id=>id<S'.st.length) K (aT S'.env) (bD S'.st) a' w') a w:=by
 obtain⟨n,hn⟩:=(dC _).1 hx;exact GG.code hS.ctx (bF hS) (hS.draw _ (bF hS)) hc hn h hnr
theorem ADH {w:World} {m m1:Mem} {φ:Pl} {st st1 st':Store} {K:KL} {id b':Nat} {n':Ext} {blk0:Blk} (hi:Inv w m φ st) (k2:Inv w m1 φ st1) (hA1:Adv wi mi (fun _=>none) w m1 φ) (hle:MLe m m1) (eφ:φ id=some (b',n')) (hid:st id=some blk0)
 (hK:∀ k∈K,PF wi.heap.size w m φ k.1.1 k.1.2 k.2) (hst:∀ i blk,st' i=some blk→i≠id∧st i=some blk∧st1 i=some blk∧iA blk) :
 ∃ φ2,Inv w m1 φ2 st'∧Adv wi mi (fun _=>none) w m1 φ2∧(∀ k∈K,PF wi.heap.size w m1 φ2 k.1.1 k.1.2 k.2)∧jN φ2 b'∧(∀ i,st' i≠none→φ2 i=φ i)∧(∀ i,φ2 i≠none→st' i≠none):=by
 let φ2:Pl:=fun i=>match st' i with
  | some _=>φ i
  | none=>none
 have hφ2:∀ i,st' i≠none→φ2 i=φ i:=fun i h=>by
  show(match st' i with|some _=>φ i|none=>none)=φ i
  cases e:st' i with
  | none=>exact absurd e h
  | some _=>rfl
 have hφ2n:∀ i,φ2 i≠none→st' i≠none:=fun i h e=>h (by
  show(match st' i with|some _=>φ i|none=>none)=none
  rw[e])
 have hsub:∀ i p,φ2 i=some p→φ i=some p∧st' i≠none:=fun i p h=>by
  have h1:=hφ2n i (by rw[h];simp);exact⟨by rw[← hφ2 i h1];exact h,h1⟩
 refine⟨φ2,⟨k2.mem,?_,?_,fun i b n f e ho=>k2.low i b n f (hsub _ _ e).1 ho⟩,?_,?_,?_,hφ2,hφ2n⟩
 ·intro i blk hb';obtain⟨h1,h2,h4,h3⟩:=hst i blk hb';obtain⟨b,n,q1,q2,q3⟩:=k2.live i blk h4;exact⟨b,n,by rw[hφ2 i (by rw[hb'];simp)];exact q1,q2,q3.WJ h3 rfl fun o h=>h⟩
 ·intro i j b bx n n2 b1 b2 f h1 h2 h3 h4 o1 o2;obtain⟨q1,q2,_⟩:=hst i b1 h1;obtain⟨r1,r2,_⟩:=hst j b2 h2;exact hi.inj i j b bx n n2 b1 b2 f q2 r2 (hsub _ _ h3).1 (hsub _ _ h4).1 o1 o2
 ·refine⟨hA1.size,hA1.os,hA1.tape,hA1.output,hA1.block,hA1.mle,hA1.mnew,(fun _ _ _ h=>by cases h),?_⟩;intro i b n f h2 ho;exact hA1.pnew i b n f (hsub _ _ h2).1 ho
 ·intro k hk;have h:=hK k hk;exact⟨h.new,h.row,fun i r n e=>h.free i r n (hsub _ _ e).1,h.cel.mono hle⟩
 ·intro i r n e ho;obtain⟨h1,h2⟩:=hsub _ _ e
  cases hb2:st' i with
  | none=>exact h2 hb2
  | some blk =>
   obtain⟨q1,q2,_⟩:=hst i blk hb2;exact q1 (hi.inj i id r b' n n' blk _ b' q2 hid h1 eφ ho (dF hi eφ hid).1.1)
def kH (st':Store):AV→Prop
 | .i (.lit _)=>True
 | .own id _=>st' id≠none
 | .osl id _ _ _=>st' id≠none
 | .nils=>True
 | _=>False
theorem kH.rep {m m':Mem} {φ φ':Pl} {st':Store} {v:AV} {x:Value} (h:kH st' v) (he:∀ i,st' i≠none→φ' i=φ i) (hr:Rep m φ v x):Rep m' φ' v x:=by
 cases hr with
 | junk=>cases h
 | nils=>exact .nils
 | i hr=>cases hr with
  | lit=>exact .i (.lit _)
  | agg=>cases h
  | isl0=>cases h
  | isl=>cases h
  | iref=>cases h
 | own e=>exact .own (by rw[he _ h];exact e)
 | ownE=>cases h
 | osl e a b c d=>exact .osl (by rw[he _ h];exact e) a b c d
 | agg=>cases h
 | tup=>cases h
 | fn=>cases h
 | yld=>cases h
 | ydead=>cases h
theorem GG.pub {ok ok':Nat→Prop} {K:KL} {env:Nat→AV} {st st':Store} {a:Act} {w:World} {u id:Nat} {e:Ex} (h:GG wi mi nt ok K env st a w) (hu:env u=.own id 0) (hid:st id=some (.box (jR e.cells)))
 (hst:∀ i blk,st' i=some blk→i≠id∧st i=some blk∧iA blk) (hok:∀ i,st' i≠none→ok' i) :
 ∃ b',(∀ env',(∀ t,env' t=.junk∨(t=u∧env' t=.i (.lit (.pointer (some ⟨b',0,none⟩))))∨(env' t=env t∧kH st' (env t)))→GG wi mi nt ok' (K++[((b',0),e)]) env' st' a w):=by
 obtain⟨⟨m,φ,hi,henv,hadv,_,hK⟩,hsz,hdf⟩:=h;have hr:=henv u;rw[hu]at hr
 have hfr:oL st (.own id 0)=some (.iref e.cells,upd st id (some (.fbox e.cells))):=by
  have h1:∀ (l:List IV) (n:Nat),I5 st (n+l.length+1) (jR l)=some (l,[]):=by
   intro l
   induction l with
   | nil=>intro n;simp[jR,I5]
   | cons c l ih=>intro n;simp only[jR,zO];rw[show n+(l.length+1)+1=(n+l.length+1)+1 by omega];simp[I5,frz,bnd,ih n]
  have h2:I5 st 18 (jR e.cells)=some (e.cells,[]):=by
   have:=h1 e.cells 12;rw[Ex.d9]at this;exact this
  have h3:wV st 19 id 0 (some (.box (jR e.cells)))=some (.iref e.cells,[(id, .fbox e.cells)]):=by
   show bnd (I5 st 18 (jR e.cells)) (fun p=>tst (decide (0≤p.1.length)) (some (IV.iref (dropE 0 p.1),(id,Blk.fbox p.1)::p.2)))=_;rw[h2];simp[dropE]
  have h4:frz st 20 (.own id 0)=some (.iref e.cells,[(id, .fbox e.cells)]):=by
   show wV st 19 id 0 (st id)=_;rw[hid];exact h3
  show bnd (frz st 20 (.own id 0)) (fun p=>some (p.1,gB st p.2))=_;rw[h4];rfl
 obtain⟨m1,k1,k2,k3⟩:=gX hi hr hfr
 cases hr':a.tmps.getD u undef with
 | pointer p =>
  rw[hr']at hr k1
  cases hr with
  | @own _ _ b' n' eφ =>
   obtain⟨hb,hbok⟩:=dF hi eφ hid
   have hrow:∃ (vs:List Value) (T:TypeId),w.heap[b']?=some (.cells vs.toArray T (0,0)):=by
    cases hbok with|box h1=>exact⟨_,_,h1⟩
   have hnew:wi.heap.size≤b':=by
    rcases hadv.pnew id b' n' b' eφ hb.1 with h|h
    ·exact h
    ·exact absurd (fun id b n e=>by cases e) h
   obtain⟨φ2,g1,g2,g3,g4,g5,g6⟩:=ADH (wi:=wi) (mi:=mi) (K:=K) hi k2 (hadv.trans k3) k3.mle eφ hid hK (st':=st') fun i blk hb'=>by
    obtain⟨q1,q2,q3⟩:=hst i blk hb';exact⟨q1,q2,by simp[upd,q1,q2],q3⟩
   refine⟨b',fun env' he=>⟨⟨m1,φ2,g1,fun t=>?_,g2,fun i hi'=>hok i (g6 i hi'),?_⟩,hsz,hdf⟩⟩
   ·rcases he t with h|⟨rfl,h⟩|⟨h,hs⟩
    ·rw[h];exact .junk _
    ·rw[h,hr'];exact .i (.lit _)
    ·rw[h];exact hs.rep g5 (henv t)
   ·intro k hk
    rcases zT.1 hk with hk|hk
    ·exact g3 k hk
    ·simp only[List.mem_singleton]at hk;subst hk;refine⟨hnew,hrow,g4,?_⟩
     cases k1 with|iref hat=>exact hat
 | _=>rw[hr']at hr;cases hr
theorem GG.turn {ok ok':Nat→Prop} {K:KL} {env:Nat→AV} {st st':Store} {a:Act} {w:World} {u b o:Nat} {x:Ex} {t:TypeId} {r:AV} (h:GG wi mi nt ok K env st a w) (ht:gM C.P t=some 1) (hmi:lD wi mi) (hk:((b,o),x)∈K) (hu:env u=r)
 (hr:(r=.nils∧x.kids=[]∧∀ i blk,st' i=some blk→st i=some blk)∨∃ id,r=.osl id 5 0 x.kids.length∧x.kids≠[]∧st id=some (.arr 5 (Ex.aB x.kids))∧∀ i blk,st' i=some blk→i≠id∧st i=some blk)
 (hlit:AMP st') (hok:∀ i,st' i≠none→ok' i) :
 ∃ w' b' ao cap,a.tmps.getD u undef=.slice ao x.kids.length cap∧(x.kids≠[]→ao=some ⟨b',0,none⟩)∧(Instr.storeAt t (.pointer (some ⟨b,o+4,none⟩)) (a.tmps.getD u undef)).run C.P w=.ok () w' ∧
   ∀ env',(∀ t,env' t=.junk∨(a.tmps.getD t undef=.pointer (some ⟨b,o,none⟩)∧env' t=.i (.iref [.int x.kind, .int x.col, .bool x.val.null, .int x.val.n, .lit (.slice ao x.kids.length cap)]))∨(env' t=env t∧kH st' (env t))) →
     GG wi mi nt ok' (K++gV b' 0 x.kids) env' st' a w':=by
 obtain⟨⟨m,φ,hi,henv,hadv,_,hK⟩,hsz,hdf⟩:=h;have hru:=henv u;rw[hu]at hru
 have main:∃ (b':Nat) (ao:Option Addr) (cap:Nat) (m1:Mem) (φ2:Pl),a.tmps.getD u undef=.slice ao x.kids.length cap∧(x.kids≠[]→ao=some ⟨b',0,none⟩)∧Inv w m1 φ2 st'∧Adv wi mi (fun _=>none) w m1 φ2∧(∀ k∈K++gV b' 0 x.kids,PF wi.heap.size w m1 φ2 k.1.1 k.1.2 k.2) ∧
  IRep m1 (.isl (Ex.aB x.kids)) (a.tmps.getD u undef)∧(∀ i,st' i≠none→φ2 i=φ i)∧(∀ i,φ2 i≠none→st' i≠none):=by
  rcases hr with ⟨rfl,hx,hst⟩|⟨id,rfl,hx,hid,hst⟩
  ·generalize hv:a.tmps.getD u undef=v at hru
   cases hru
   let φ2:Pl:=fun i=>match st' i with
    | some _=>φ i
    | none=>none
   have hφ2:∀ i,st' i≠none→φ2 i=φ i:=fun i h=>by
    show(match st' i with|some _=>φ i|none=>none)=φ i
    cases e:st' i with
    | none=>exact absurd e h
    | some _=>rfl
   have hφ2n:∀ i,φ2 i≠none→st' i≠none:=fun i h e=>h (by
    show(match st' i with|some _=>φ i|none=>none)=none
    rw[e])
   have hsub:∀ i p,φ2 i=some p→φ i=some p:=fun i p h=>by
    have h1:=hφ2n i (by rw[h];simp);rw[← hφ2 i h1];exact h
   refine⟨0,none,0,m,φ2,by rw[hx];rfl,fun h=>absurd hx h,⟨hi.mem,?_,?_,fun i b n f e ho=>hi.low i b n f (hsub _ _ e) ho⟩,?_,?_,?_,hφ2,hφ2n⟩
   ·intro i blk hb';obtain⟨b,n,q1,q2,q3⟩:=hi.live i blk (hst i blk hb');exact⟨b,n,by rw[hφ2 i (by rw[hb'];simp)];exact q1,q2,q3.WJ (hlit i blk hb') rfl fun o h=>h⟩
   ·intro i j b bx n n2 b1 b2 f h1 h2 h3 h4 o1 o2;exact hi.inj i j b bx n n2 b1 b2 f (hst i b1 h1) (hst j b2 h2) (hsub _ _ h3) (hsub _ _ h4) o1 o2
   ·refine⟨hadv.size,hadv.os,hadv.tape,hadv.output,hadv.block,hadv.mle,hadv.mnew,(fun _ _ _ h=>by cases h),?_⟩;intro i b n f h2 ho;exact hadv.pnew i b n f (hsub _ _ h2) ho
   ·intro k hk;rw[hx]at hk;simp only[gV,xB]at hk;have h:=hK k hk;exact⟨h.new,h.row,fun i r n e=>h.free i r n (hsub _ _ e),h.cel⟩
   ·rw[hx];simp only[Ex.aB];exact .isl0 _ _ fun _=>rfl
  ·obtain⟨b',cap,m1,φ2,e1,g1,g2,g3,g4,g5,g6⟩:=AD8 (wi:=wi) (mi:=mi) (K:=K) hx hi hru hid hadv hK (st':=st') fun i blk hb'=>⟨(hst i blk hb').1,(hst i blk hb').2,hlit i blk hb'⟩
   exact⟨b',_,cap,m1,φ2,e1,fun _=>rfl,g1,g2,g3,g4,g5,g6⟩
 obtain⟨b',ao,cap,m1,φ2,e1,e2,g1,g2,g3,g4,g5,g6⟩:=main;obtain⟨w',m',k1,k2,k3,k4,k5⟩:=TZ (C:=C) (wi:=wi) (mi:=mi) ht g1 hlit g2 hmi g3 (yJ _ hk) g4;refine⟨w',b',ao,cap,e1,e2,k1,fun env' he=>⟨⟨m',φ2,k2,fun t=>?_,k3,fun i hi'=>hok i (g6 i hi'),k4⟩,hsz,hdf⟩⟩
 rcases he t with h|⟨h1,h⟩|⟨h,hs⟩
 ·rw[h];exact .junk _
 ·rw[h,h1,← e1];exact .i (.iref k5)
 ·rw[h];exact hs.rep g5 (henv t)
end
section
variable {C:Ctx} {wi:World} {mi:Mem} {nt:Nat}
theorem GG.AH2 {ok:Nat→Prop} {K:KL} {env:Nat→AV} {st:Store} {a:Act} {w:World} {t:Nat} {v:Value} (h:GG wi mi nt ok K env st a w) (ht:env t=.i (.lit v)):a.tmps.getD t undef=v:=by
 obtain⟨⟨m,φ,hi,henv,_⟩,_⟩:=h;have:=henv t;rw[ht]at this;exact this.bP
theorem GG.region (hS:SoundOk C) {id:Nat} {ops:Array Oper} {os1 os2:List Oper} {o:Oper} {K:KL} {S:AS} {a:Act} {w:World} {u b' o':Nat} {x:Ex} {Q:Exit→Act→World→Prop} {PP:(Nat→AV)→Store→Prop} (hops:ops.toList=os1++(os2++[o])) (hs:∀ o∈ops,jH nt o=true)
 (g:GG wi mi nt (fun id=>id<S.st.length) K (aT S.env) (bD S.st) a w) (hk:((b',o'),x)∈K)
 (h:∃ R1,cZ C (aI C) ops.toList false S.st.length os1 0 { env:=aT S.env,st:=bD S.st,log:=[] }=some R1∧R1.env u=.i (.lit (.pointer (some ⟨b',o',none⟩))) ∧
  ∃ R2,cZ C (aI C) ops.toList false S.st.length os2 os1.length { env:=upd R1.env u (.i (.iref x.cells)),st:=R1.st,log:=R1.log }=some R2∧PP R2.env R2.st)
 (hfin:∀ env st a' w',PP env st→GG wi mi nt (fun _=>True) K env st a' w'→wpOpIn (FR none) 0 C.P ops Q (os1.length+os2.length) (fun a w=>wpOpsIn (FR none) 0 C.P ops Q [] a w) a' w'):(Code.region id ops false).wp C.P Q a w:=by
 obtain⟨R1,h1,h2,R2,h3,h4⟩:=h;refine qE ?_;have hsz:ops.size=os1.length+(os2.length+1):=by rw[← Array.length_toList,hops];simp
 have hget:∀ j,ops[j]?=(os1++(os2++[o]))[j]?:=fun j=>by rw[← hops,y5]
 rw[List.range_eq_range',hsz,show List.range' 0 (os1.length+(os2.length+1))=List.range' 0 os1.length++(List.range' os1.length os2.length++[os1.length+os2.length])by
  rw[← List.range'_append_1,← List.range'_append_1];simp]
 have hcall:=bF hS;refine GG.ops hS.ctx hcall hs (R:={ env:=aT S.env,st:=bD S.st,log:=[] }) (base:=S.st.length) (i:=0) (fun j hj=>?_) h1 (g.ok' fun id h=>.inl h) fun a1 w1 g1=>?_
 ·rw[hget,zD,zJ hj]
 ·have g2:=g1.see (u:=u) h2 hk;rw[zD]at g2;refine GG.ops hS.ctx hcall hs (R:={ env:=upd R1.env u (.i (.iref x.cells)),st:=R1.st,log:=R1.log }) (base:=S.st.length) (fun j hj=>?_) h3 g2 fun a2 w2 g3=>?_
  ·rw[hget,zM (by omega),yI,zJ hj]
  ·rw[wpOpsIn_cons];exact hfin _ _ a2 w2 h4 (g3.ok' fun _ _=>trivial)
theorem WR {ops:Array Oper} {Q:Exit→Act→World→Prop} {K:Act→World→Prop} {i d:Nat} {t ty:TypeId} {x:Operand} {pos:String} {after:Array Edge} {v:Value} {a:Act} {w:World} (ho:ops[i]?=some ⟨some d, .load t x,ty,pos,after,none⟩)
 (hrun:(Instr.loadAt t (a.eval x)).run C.P w=.ok v w) (hK:K (a.put (some d) v) w):wpOpIn (FR none) 0 C.P ops Q i K a w:=by
 unfold wpOpIn;rw[ho];simp only[Region.wanted,if_true];refine⟨fun _ _=>trivial,?_⟩;rw[Oper.semAt_eq _ _ _ (fun c e=>by cases e)]
 have:(execOp a.eval ⟨some d, .load t x,ty,pos,after,none⟩).run C.P w=.ok (.value v) w:=by
  unfold execOp;simp[hrun]
 rw[this];simpa [Oper.uponIn]using hK
theorem GG.put {ok:Nat→Prop} {K:KL} {env:Nat→AV} {st:Store} {a:Act} {w:World} {d:Nat} {x:IV} {v:Value} (hd:d<nt) (h:GG wi mi nt ok K env st a w) (hr:IRep mi x v):GG wi mi nt ok K (upd env d (.i x)) st (a.put (some d) v) w:=by
 obtain⟨⟨m,φ,hi,henv,hadv,hok,hK⟩,hsz,hdf⟩:=h;exact⟨⟨m,φ,hi,uB (dst:=some d) henv hsz (by simpa [VD]using hd) (.i (hr.mono hadv.mle)),hadv,hok,hK⟩,by rw[uA];exact hsz,by rw[kS];exact hdf⟩
theorem Inv.later {w w':World} {m:Mem} {φ:Pl} {st:Store} (h:Inv w m φ st) (hsz:w.heap.size≤w'.heap.size) (hw:∀ f,f<w.heap.size→w'.heap[f]?=w.heap[f]?):Inv w' m φ st:=by
 refine⟨fun b o v e=>?_,fun id blk e=>?_,h.inj,fun id b n f e ho=>zH (h.low id b n f e ho) hsz⟩
 ·rw[cell_of_heap (hw b (h.mem.lt e))];exact h.mem b o v e
 ·obtain⟨b,n,k1,k2,k3⟩:=h.live id blk e;exact⟨b,n,k1,⟨k2.1,fun f hf=>zH (k2.2 f hf) hsz⟩,k3.mono k2.1 (fun f hf=>hw f (k2.2 f hf)) (.refl _) (.refl _) fun _ _ _=>rfl⟩
theorem GG.AGP (hS:SoundOk C) {id d u:Nat} {t ty:TypeId} {pos:String} {after:Array Edge} {p:Value} {x:IV} {ops:Array Oper} {os1 os2:List Oper} {G:List Nat} {S S':AS} {a:Act} {w:World} {Q:Exit→Act→World→Prop} (hops:ops.toList=os1++(⟨some d, .load t (.tmp u),ty,pos,after,none⟩::os2)) (hs:∀ o∈ops,jH nt o=true)
 (g:GG wi mi nt (fun id=>id<S.st.length) [] (aT S.env) (bD S.st) a w) (hd:d<nt)
 (hrun:∀ w',wi.heap.size≤w'.heap.size→(∀ f,f<wi.heap.size→w'.heap[f]?=wi.heap[f]?)→∃ y,(Instr.loadAt t p).run C.P w'=.ok y w'∧IRep mi x y)
 (h:∃ R1,cZ C (aI C) ops.toList false S.st.length os1 0 { env:=aT S.env,st:=bD S.st,log:=[] }=some R1∧R1.env u=.i (.lit p) ∧
  ∃ R2,cZ C (aI C) ops.toList false S.st.length os2 (os1.length+1) { env:=upd R1.env d (.i x),st:=R1.st,log:=R1.log }=some R2∧Av.settle G 0 R2.env R2.st=S')
 (hfin:∀ a' w',GG wi mi nt (fun id=>id<S'.st.length) [] (aT S'.env) (bD S'.st) a' w'→Q .normal a' w'):(Code.region id ops false).wp C.P Q a w:=by
 obtain⟨R1,h1,h2,R2,h3,rfl⟩:=h;refine qE ?_;have hsz:ops.size=os1.length+(1+os2.length):=by rw[← Array.length_toList,hops];simp;omega
 have hget:∀ j,ops[j]?=(os1++(⟨some d, .load t (.tmp u),ty,pos,after,none⟩::os2))[j]?:=fun j=>by rw[← hops,y5]
 rw[List.range_eq_range',hsz,show List.range' 0 (os1.length+(1+os2.length))=List.range' 0 os1.length++(os1.length::(List.range' (os1.length+1) os2.length++[]))by
  rw[← List.range'_append_1,← List.range'_append_1];simp]
 have hcall:=bF hS;refine GG.ops hS.ctx hcall hs (R:={ env:=aT S.env,st:=bD S.st,log:=[] }) (base:=S.st.length) (i:=0) (fun j hj=>?_) h1 (g.ok' fun id h=>.inl h) fun a1 w1 g1=>?_
 ·rw[hget,zD,zJ hj]
 ·have hv:=g1.AH2 h2
  obtain⟨y,hrun,hy⟩:=hrun w1 (by
   obtain⟨⟨m,φ,k1,k2,k3,_⟩,_⟩:=g1
   exact k3.size) (by
   obtain⟨⟨m,φ,k1,k2,k3,_⟩,_⟩:=g1
   exact fun f hf=>k3.block f hf fun id b n e=>by cases e)
  rw[wpOpsIn_cons]
  refine WR (v:=y) (d:=d) (t:=t) (x:=.tmp u) (ty:=ty) (pos:=pos) (after:=after) (by rw[hget,zM (zN _)];simp) (by
   show(Instr.loadAt t (a1.tmps.getD u undef)).run C.P w1=_
   rw[hv];exact hrun) ?_
  have g2:=g1.put hd hy;refine GG.ops hS.ctx hcall hs (R:={ env:=upd R1.env d (.i x),st:=R1.st,log:=R1.log }) (base:=S.st.length) (fun j hj=>?_) h3 (g2.ok' fun id h=>mO (fun j hj=>by omega) h) fun a2 w2 g3=>?_
  ·rw[hget,zM (by omega),show os1.length+1+j-os1.length=j+1 by omega];simp[zJ hj]
  ·exact hfin a2 w2 ((g3.ok' (ok':=fun _=>True) fun _ _=>trivial).settle G)
end
end Go.Av
namespace Go.Av
open Go Go.RowKit
def dA (w:World):Mem:=fun b o=>w.cell? ⟨b,o,none⟩
theorem inv0 (w:World):Inv w (dA w) (fun _=>none) (bD []) :=
 ⟨fun _ _ _ h=>h,fun id blk h=>(by simp[bD]at h),fun id id' b b' n n' blk blk' f h=>(by simp[bD]at h),fun _ _ _ _ e=>by cases e⟩
theorem AAP {w w':World} {m m':Mem} {φ':Pl} (h:Adv w m (fun _=>none) w' m' φ'):Below w.heap.size w w' :=
 ⟨h.os,h.tape.tape,h.output,h.size,fun k hk=>h.block k hk fun id b n e=>by cases e⟩
theorem VK {C:Ctx} (hS:SoundOk C) {f:FuncId} {args:List AV} {vs:Array Value} {w:World} (hr:RepL (dA w) (fun _=>none) args vs.toList) (h:aI C f args []=some (.bool true,[])) (hy:f≠uS:=by decide) :
 Calls C.P f vs w fun e w'=>e=.returned (.bool true)∧Below w.heap.size w w':=by
 have:=(bF hS).calls f args [] _ _ hy h w (dA w) (fun _=>none) vs.toList (inv0 w) hr (fun id h=>absurd rfl h);refine(show Calls C.P f vs w _ from this).mono ?_;rintro e w' ⟨v,m',φ',rfl,h1,h2,h3,h4⟩
 cases h1 with
 | i h1=>cases h1 with
  | lit=>exact⟨rfl,AAP h3⟩
end Go.Av
namespace Go.Av
def mfC:AV→Bool
 | .i v=>qV v
 | .nils=>true
 | .osl _ _ _ _=>true
 | _=>false
theorem MO {w:World} {m:Mem} (h:lD w m):MLe m (dA w):=fun b o v e=>h b o v e
theorem YQ {m m':Mem} {φ:Pl} {c:AV} {x:Value} (h:mfC c=true) (hr:Rep m φ c x):Rep m' φ c x:=by
 cases hr with
 | i hr =>
  simp only[mfC]at h
  cases hr with
  | lit=>exact .i (.lit _)
  | isl0 ao cap hc=>exact .i (.isl0 ao cap hc)
  | isl hn=>rename_i es _ _ _;cases es with|nil=>exact absurd rfl hn|cons e es=>simp[qV]at h
  | agg=>simp[qV]at h
  | iref=>simp[qV]at h
 | nils=>exact .nils
 | osl a b c d e=>exact .osl a b c d e
 | _=>simp[mfC]at h
def AOZ (call:dK) (g:FuncId):List AV→StL→Option (AV×StL)
 | a::r,st=>bnd (gD (bD st) a) fun q=>bnd (eG call true g (q.1::r) q.2 st.length) fun p=>PE [p.1] p.2 (gH p.2 st.length [p.1])
 | [],_=>none
theorem I6 {C:Ctx} {call:dK} (hcall:CallOk C call) {g:FuncId} {args:List AV} {stl stl':StL} {r:AV} (h:AOZ call g args stl=some (r,stl')) (hy:g≠uS:=by decide) :
 (∃ fn,C.P.funcs[g]?=some fn∧fn.name≠ "runtime.NumGoroutine"∧fn.body.isSome=true)∧∀ (w:World) (m:Mem) (φ:Pl) (vs:List Value),Inv w m φ (bD stl)→RepL m φ args vs→(∀ id,φ id≠none→id<stl.length) →
  Calls C.P g vs.toArray w (bR w m φ r stl'):=by
 cases args with
 | nil=>cases h
 | cons a args =>
  unfold AOZ at h;obtain⟨q,h1,h2⟩:=aH.1 h;obtain⟨p,h3,h4⟩:=aH.1 h2;unfold PE at h4;injection h4 with h4;injection h4 with h4 h5;subst h4;subst h5
  have hname:∃ fn,C.P.funcs[g]?=some fn∧fn.name≠ "runtime.NumGoroutine"∧fn.body.isSome=true:=by
   unfold eG at h3;obtain⟨p1,_,h5⟩:=aH.1 h3;unfold iN at h5;obtain⟨_,h6⟩:=aP.1 h5;obtain⟨p2,h7,_⟩:=aH.1 h6;exact hcall.name _ _ _ _ hy h7
  refine⟨hname,fun w m φ vs hi hr h0=>?_⟩
  cases hr with
  | cons ra rr =>
   obtain⟨m1,k1,k2,k3⟩:=qB hi ra (show gD _ a=some (q.1,q.2)from h1)
   have hf:∀ id,stl.length≤id→id<stl.length+wide→φ id=none:=fun id l1 _=>by
    cases e:φ id with
    | none=>rfl
    | some b=>have:=h0 id (by rw[e];simp);omega
   obtain⟨_,hc⟩:=pY hcall hy k2 hf (.cons k1 (rr.mono k3.mle (.refl _))) (show eG call true g _ q.2 _=some (p.1,p.2)from h3);refine hc.mono ?_;rintro e w' ⟨y,rfl,m',φ',j1,j2,j3,_⟩;generalize hids:gH p.2 stl.length [p.1]=ids;have hd:ids.Nodup:=by rw[← hids];exact fU _ _ _
   refine⟨y,m',eD ids φ',rfl,j1.ren (kW ids φ'),j2.keep hd,(k3.trans j3).keep h0 (fun j hj=>by rw[← hids];exact qK _ _ _ hj),?_⟩;intro id hne;rw[fQ];unfold eD at hne
   cases hx:ids[id]? with
   | none=>rw[hx]at hne;exact absurd rfl hne
   | some i=>exact(zZ.1 hx).1
def AHR (call:dK) (g:FuncId):List AV→StL→Option (AV×StL)
 | args,[]=>bnd (call g args []) fun p=>bnd (oL (bD p.2) p.1) fun q=>some (.i q.1,[])
 | _,_=>none
theorem I4 {C:Ctx} {call:dK} (hcall:CallOk C call) {g:FuncId} {args:List AV} {stl stl':StL} {r:AV} (h:AHR call g args stl=some (r,stl')) (hy:g≠uS:=by decide) :
 (∃ fn,C.P.funcs[g]?=some fn∧fn.name≠ "runtime.NumGoroutine"∧fn.body.isSome=true)∧∀ (w:World) (m:Mem) (φ:Pl) (vs:List Value),Inv w m φ (bD stl)→RepL m φ args vs→(∀ id,φ id≠none→id<stl.length) →
  Calls C.P g vs.toArray w (bR w m φ r stl'):=by
 unfold AHR at h;split at h
 ·obtain⟨p,h1,h2⟩:=aH.1 h;obtain⟨q,h3,h4⟩:=aH.1 h2;injection h4 with h4;injection h4 with h4 h5;subst h4;subst h5;refine⟨hcall.name _ _ _ _ hy h1,fun w m φ vs hi hr h0=>?_⟩;refine(hcall.calls _ _ _ p.1 p.2 hy h1 w m φ vs hi hr h0).mono ?_;rintro e w' ⟨v,m',φ',rfl,j1,j2,j3,j4⟩;obtain⟨m1,k1,k2,k3⟩:=gX j2 j1 (show oL _ p.1=some (q.1,q.2)from h3)
  have hn:∀ id,φ id=none:=fun id=>by
   cases e:φ id with
   | none=>rfl
   | some b=>exact absurd (h0 id (by rw[e];simp)) (xZ _)
  have ha:=j3.trans k3;refine⟨v,m1,fun _=>none,rfl, .i k1,⟨k2.mem,fun id blk e=>(by simp[bD]at e),fun i j b b' n n' b1 b2 f e=>(by simp[bD]at e),fun _ _ _ _ e=>(by cases e)⟩,⟨ha.size,ha.os,ha.tape,ha.output,ha.block,ha.mle,ha.mnew,fun id b n e=>(by rw[hn id]at e;cases e),fun _ _ _ _ e=>(by cases e)⟩,fun id e=>absurd rfl e⟩
 ·cases h
def ABL (st:Store):AV→Option IV
 | .i v=>some v
 | .osl id k off len=>match st id with
  | some (.arr k' es)=>tst (decide (k'=k∧off=0∧len≤es.length∧0<len)) (some (.isl (es.take len)))
  | _=>none
 | _=>none
def LA (st:Store):List AV→Option (List AV)
 | []=>some []
 | c::r=>bnd (ABL st c) fun v=>bnd (LA st r) fun l=>some (.i v::l)
theorem BJ {w:World} {m:Mem} {φ:Pl} {st:Store} {c:AV} {x:Value} {iv:IV} (hi:Inv w m φ st) (hr:Rep m φ c x) (h:ABL st c=some iv):IRep (dA w) iv x:=by
 unfold ABL at h;split at h
 ·injection h with h;subst h
  cases hr with
  | i hr=>exact hr.mono (MO hi.mem)
 ·rename_i id k off len;split at h
  ·rename_i k' es hst;obtain⟨h1,h2⟩:=aP.1 h;injection h2 with h2;subst h2;obtain⟨rfl,rfl,h3,h4⟩:=zS h1
   cases hr with
   | osl e1 e2 e3 e4 e5 =>
    rename_i cap b n ao;obtain⟨_,hk⟩:=dF hi e1 hst
    cases hk with
    | arr k1 k2 k3 k4 k5 k6 k7 k8 k9 =>
     rename_i T vs
     have hel:IElems (dA w) b 0 k' es:=by
      refine mE 0 k4 (k5.mono (MO hi.mem)) fun j v hj=>?_
      show w.cell? ⟨b,0+j,none⟩=some v;rw[zD,bG k1];rw[zL]at hj;split at hj
      ·exact hj
      ·cases hj
     have hao:=e4 (by omega);subst hao;have hlen:(es.take len).length=len:=by rw[yM];omega
     have hne:es.take len≠[]:=fun e=>by rw[e]at hlen;simp at hlen;omega
     have:=IRep.isl hne (qM len hel) (show(es.take len).length≤cap by omega);rw[hlen]at this;simpa using this
  ·cases h
 ·cases h
theorem wB {w:World} {m:Mem} {φ:Pl} {st:Store} (hi:Inv w m φ st):∀ {cs us:List AV} {xs:List Value},RepL m φ cs xs→LA st cs=some us→RepL (dA w) (fun _=>none) us xs
 | [],us,_, .nil,h=>by simp[LA]at h;subst h;exact .nil
 | c::cs,us,_, .cons a b,h=>by
  simp only[LA]at h;obtain⟨v,h1,h2⟩:=aH.1 h;obtain⟨l',h3,h4⟩:=aH.1 h2;injection h4 with h4;subst h4;exact .cons (.i (BJ hi a h1)) (wB hi b h3)
def ACR (call:dK) (g:FuncId) (args:List AV) (st:StL):Option (AV×StL) :=
 bnd (LA (bD st) args) fun us=>match call g us []with
  | some (.i v,[])=>tst (qV v) (some (.i v,st))
  | _=>none
theorem GN {C:Ctx} {call:dK} (hcall:CallOk C call) {g:FuncId} {args:List AV} {stl stl':StL} {r:AV} (h:ACR call g args stl=some (r,stl')) (hy:g≠uS:=by decide) :
 (∃ fn,C.P.funcs[g]?=some fn∧fn.name≠ "runtime.NumGoroutine"∧fn.body.isSome=true)∧∀ (w:World) (m:Mem) (φ:Pl) (vs:List Value),Inv w m φ (bD stl)→RepL m φ args vs→(∀ id,φ id≠none→id<stl.length) →
  Calls C.P g vs.toArray w (bR w m φ r stl'):=by
 unfold ACR at h;obtain⟨us,h1,h2⟩:=aH.1 h;split at h2
 ·rename_i iv h3;obtain⟨h5,h6⟩:=aP.1 h2;injection h6 with h6;injection h6 with h6 h7;subst h6;subst h7;refine⟨hcall.name _ _ _ _ hy h3,fun w m φ vs hi hr h0=>?_⟩;refine(hcall.calls g us [] _ _ hy h3 w (dA w) (fun _=>none) vs (inv0 w) (wB hi hr h1) (fun id h=>absurd rfl h)).mono ?_;rintro e w' ⟨v,m',φ',rfl,j1,j2,j3,j4⟩;have hsame:∀ f,f<w.heap.size→w'.heap[f]?=w.heap[f]?:=fun f hf=>j3.block f hf fun id b n e=>by cases e
  exact⟨v,m,φ,rfl,YQ (show mfC (.i iv)=true from h5) (by cases j1 with|i j=>exact .i j),hi.later j3.size hsame,⟨j3.size,j3.os,j3.tape,j3.output,fun b hb' _=>hsame b hb', .refl _,fun _ _ _ _=>rfl, .refl _,fun _ _ _ _ e ho=>.inr (jN.not e ho)⟩,h0⟩
 ·cases h2
def ABM (st:Store):AV→Option IV
 | .nils=>some (.isl [])
 | v=>ABL st v
def FU (st:Store):List AV→Option (List IV)
 | []=>some []
 | c::r=>bnd (ABM st c) fun v=>bnd (FU st r) fun l=>some (v::l)
def ABK (st:Store):AV→Option IV
 | .agg cs=>bnd (FU st cs) fun l=>some (.agg l)
 | v=>ABM st v
def L9 (st:Store):List AV→Option (List AV)
 | []=>some []
 | c::r=>bnd (ABK st c) fun v=>bnd (L9 st r) fun l=>some (.i v::l)
theorem BK {w:World} {m:Mem} {φ:Pl} {st:Store} {c:AV} {x:Value} {iv:IV} (hi:Inv w m φ st) (hr:Rep m φ c x) (h:ABM st c=some iv):IRep (dA w) iv x:=by
 unfold ABM at h;split at h
 ·injection h with h;subst h
  cases hr with
  | nils=>exact .isl0 _ _ fun _=>rfl
 ·exact BJ hi hr h
theorem oO {w:World} {m:Mem} {φ:Pl} {st:Store} (hi:Inv w m φ st):∀ {cs:List AV} {xs:List Value} {l:List IV},RepC m φ cs xs→FU st cs=some l→ICells (dA w) l xs
 | [],_,l, .nil,h=>by simp[FU]at h;subst h;exact .nil
 | c::cs,_,l, .cons a o b,h=>by
  simp only[FU]at h;obtain⟨v,h1,h2⟩:=aH.1 h;obtain⟨l',h3,h4⟩:=aH.1 h2;injection h4 with h4;subst h4;exact .cons (BK hi a h1) o (oO hi b h3)
theorem BI {w:World} {m:Mem} {φ:Pl} {st:Store} {c:AV} {x:Value} {iv:IV} (hi:Inv w m φ st) (hr:Rep m φ c x) (h:ABK st c=some iv):IRep (dA w) iv x:=by
 unfold ABK at h;split at h
 ·obtain⟨l,h1,h2⟩:=aH.1 h;injection h2 with h2;subst h2
  cases hr with
  | agg hc=>exact .agg (oO hi hc h1)
 ·exact BK hi hr h
theorem vZ {w:World} {m:Mem} {φ:Pl} {st:Store} (hi:Inv w m φ st):∀ {cs us:List AV} {xs:List Value},RepL m φ cs xs→L9 st cs=some us→RepL (dA w) (fun _=>none) us xs
 | [],us,_, .nil,h=>by simp[L9]at h;subst h;exact .nil
 | c::cs,us,_, .cons a b,h=>by
  simp only[L9]at h;obtain⟨v,h1,h2⟩:=aH.1 h;obtain⟨l',h3,h4⟩:=aH.1 h2;injection h4 with h4;subst h4;exact .cons (.i (BI hi a h1)) (vZ hi b h3)
def AGY (call:dK) (g:FuncId) (args:List AV) (st:StL):Option (AV×StL) :=
 bnd (L9 (bD st) args) fun us=>match call g us []with
  | some (.i v,[])=>tst (qV v) (some (.i v,st))
  | _=>none
theorem CZ {C:Ctx} {call:dK} (hcall:CallOk C call) {g:FuncId} {args:List AV} {stl stl':StL} {r:AV} (h:AGY call g args stl=some (r,stl')) (hy:g≠uS:=by decide) :
 (∃ fn,C.P.funcs[g]?=some fn∧fn.name≠ "runtime.NumGoroutine"∧fn.body.isSome=true)∧∀ (w:World) (m:Mem) (φ:Pl) (vs:List Value),Inv w m φ (bD stl)→RepL m φ args vs→(∀ id,φ id≠none→id<stl.length) →
  Calls C.P g vs.toArray w (bR w m φ r stl'):=by
 unfold AGY at h;obtain⟨us,h1,h2⟩:=aH.1 h;split at h2
 ·rename_i iv h3;obtain⟨h5,h6⟩:=aP.1 h2;injection h6 with h6;injection h6 with h6 h7;subst h6;subst h7;refine⟨hcall.name _ _ _ _ hy h3,fun w m φ vs hi hr h0=>?_⟩;refine(hcall.calls g us [] _ _ hy h3 w (dA w) (fun _=>none) vs (inv0 w) (vZ hi hr h1) (fun id h=>absurd rfl h)).mono ?_;rintro e w' ⟨v,m',φ',rfl,j1,j2,j3,j4⟩;have hsame:∀ f,f<w.heap.size→w'.heap[f]?=w.heap[f]?:=fun f hf=>j3.block f hf fun id b n e=>by cases e
  exact⟨v,m,φ,rfl,YQ (show mfC (.i iv)=true from h5) (by cases j1 with|i j=>exact .i j),hi.later j3.size hsame,⟨j3.size,j3.os,j3.tape,j3.output,fun b hb' _=>hsame b hb', .refl _,fun _ _ _ _=>rfl, .refl _,fun _ _ _ _ e ho=>.inr (jN.not e ho)⟩,h0⟩
 ·cases h2
def jk:Nat→IV→AV
 | 0,_=>.junk
 | _+1,v=>.i v
@[simp] theorem AbZ (v:IV):jk 0 v=.junk:=(rfl)
@[simp] theorem AbY (i:Nat) (v:IV):jk (i+1) v=.i v:=(rfl)
@[simp] theorem ANM (i:Nat) (v:IV):dD (jk i v)=[]:=by cases i<;>rfl
@[simp] theorem APV (r:Nat→Option Nat) (i:Nat) (v:IV):ren r (jk i v)=jk i v:=by cases i<;>rfl
section
variable {C:Ctx} {G:List Nat} {na:Nat} {b:Code}
end
section
variable {C:Ctx} {G:List Nat} {na:Nat} {b:Code}
theorem aO (X:Nat→AS) (n:Nat) {S0:AS} (h0:S0=X 0) (hs:∀ i,i<n→eT C G na b (X i)=some (.normal,X (i+1))):eT C G na (.loop b) S0=eT C G na (.loop b) (X n):=by
 subst h0
 have key:∀ k i,i+k=n→eT C G na (.loop b) (X i)=eT C G na (.loop b) (X n):=by
  intro k
  induction k with
  | zero=>intro i hi;have:i=n:=by omega
          subst this;rfl
  | succ k ih=>intro i hi;rw[aG,hs i (by omega)];exact ih (i+1) (by omega)
 exact key n 0 (by omega)
end
@[simp] theorem V5 (st:Store):∀ l:List IV,l8 st (jR l)=some (l,st)
  | []=>rfl
  | v::l=>by simp[jR,l8,oL,V5 st l]
@[simp] theorem AIK {α:Type} (es:List α) (off len:Nat):window es off len=(es.drop off).take len:=(rfl)
@[simp] theorem APP (n:Nat):Region.binds .any ⟨n, .data⟩=true:=(rfl)
@[simp] theorem APQ (n:Nat):Region.binds .any ⟨n, .chain⟩=true:=(rfl)
@[simp] theorem APO (n:Nat):Region.binds .any ⟨n, .guard⟩=true:=(rfl)
@[simp] theorem APN (n:Nat):Region.binds .any ⟨n, .phase⟩=true:=(rfl)
def gro (id k:Nat):Nat→AV
 | 0=>.nils
 | i+1=>.osl id k 0 (i+1)
def WM (k:Nat) (es:List (List IV)):Nat→StL
 | 0=>[]
 | _+1=>[some (.arr k es)]
@[simp] theorem AVX (id k:Nat):gro id k 0=.nils:=(rfl)
@[simp] theorem AVW (id k i:Nat):gro id k (i+1)=.osl id k 0 (i+1):=(rfl)
@[simp] theorem AQ0 (k:Nat) (es:List (List IV)):WM k es 0=[]:=(rfl)
@[simp] theorem APZ (k:Nat) (es:List (List IV)) (i:Nat):WM k es (i+1)=[some (.arr k es)]:=(rfl)
theorem aN {i:Nat} (h:i≠0) (id k:Nat):gro id k i=.osl id k 0 i:=by cases i with|zero=>exact absurd rfl h|succ i=>rfl
theorem aL {i:Nat} (h:i≠0) (k:Nat) (es:List (List IV)):WM k es i=[some (.arr k es)]:=by cases i with|zero=>exact absurd rfl h|succ i=>rfl
theorem bZ {i:Nat} (h:i≠0) (v:IV):jk i v=.i v:=by cases i with|zero=>exact absurd rfl h|succ i=>rfl
@[simp] theorem PS:∀ l:List IV,(jR l).length=l.length
  | []=>rfl
  | _::l=>by simp[jR,PS l]
theorem iP:∀ {cs xs:List IV},cs.length=xs.length→splice cs 0 xs=some xs
 | [],[],_=>rfl
 | c::cs,x::xs,h=>by simp[splice,iP (cs:=cs) (xs:=xs) (by simpa using h)]
 | [],_::_,h=>by simp at h
 | _::_,[],h=>by simp at h
theorem CS {α:Type}:∀ (D:List α) (z:α) (r:List α),fI (D++z::r) D.length=some z
 | [],z,r=>rfl
 | a::D,z,r=>by simp only[yD,zO,fI];exact CS D z r
theorem lU {α:Type} {D:List α} {n i:Nat} {z:α} (hD:D.length=i) (h:i<n):fI (D++List.replicate (n-i) z) i=some z:=by
 subst hD
 obtain⟨k,hk⟩:∃ k,n-D.length=k+1:=⟨n-D.length-1,by omega⟩
 rw[hk,yF];exact CS D z _
theorem lT {α:Type} {D:List α} {n i:Nat} {z x:α} (hD:D.length=i) (h:i<n):(D++List.replicate (n-i) z).set i x=(D++[x])++List.replicate (n-(i+1)) z:=by
 subst hD
 obtain⟨k,hk⟩:∃ k,n-D.length=k+1:=⟨n-D.length-1,by omega⟩
 rw[hk,yF,List.set_append_right _ _ (zN _),Nat.sub_self,List.set_cons_zero,show n-(D.length+1)=k by omega];simp
theorem AA {α:Type} (p:α→Bool):∀ (l:List α),l.all p=true∨∃ (j:Nat) (a:α),l[j]?=some a∧p a=false∧(∀ (i:Nat) (b:α),i<j→l[i]?=some b→p b=true)∧l.all p=false
 | []=>.inl rfl
 | a::l=>by
  cases h:p a with
  | false=>exact .inr ⟨0,a,rfl,h,fun i b hi=>by omega,by simp[h]⟩
  | true =>
   rcases AA p l with h1|⟨j,x,h1,h2,h3,h4⟩
   ·exact .inl (by simp[h,h1])
   ·refine .inr ⟨j+1,x,by simpa using h1,h2,?_,by simp[h,h4]⟩;intro i b hi hb
    cases i with
    | zero=>simp at hb;subst hb;exact h
    | succ i=>exact h3 i b (by omega) (by simpa using hb)
theorem fP {α:Type} (p:α→Bool) (l:List α):∃ j:Nat,(∀ i,i<j→∃ k,l[i]?=some k∧k∈l∧p k=true)∧((j=l.length∧l.all p=true)∨∃ k,l[j]?=some k∧k∈l∧p k=false∧l.all p=false):=by
 rcases AA p l with h|⟨j,a,h1,h2,h3,h4⟩
 ·refine⟨l.length,?_, .inl ⟨rfl,h⟩⟩;intro i hi;have e:=zY hi;exact⟨_,e,zV e,zR.1 h _ (zV e)⟩
 ·refine⟨j,?_, .inr ⟨a,h1,zV h1,h2,h4⟩⟩;intro i hi;have hl:i<l.length:=by have:=(zZ.1 h1).1;omega
  have e:=zY hl;exact⟨_,e,zV e,h3 i _ hi e⟩
noncomputable def AA7 (C:Ctx) (keep:Bool) (g:FuncId) (args:List AV) (st:StL):Option (AV×StL) :=
 match C.P.funcs[g]? with
 | none=>none
 | some fn =>
  match fn.body with
  | none=>none
  | some c=>WN C keep fn.results.toList st.length (eT C (C.G g) st.length c (enter (C.G g) args st))
theorem iY {C:Ctx} (hS:SoundOk C) {keep:Bool} {g:FuncId} {args:List AV} {stl stl':StL} {r:AV} (h:AA7 C keep g args stl=some (r,stl')) :
 (∃ fn,C.P.funcs[g]?=some fn∧fn.name≠ "runtime.NumGoroutine"∧fn.body.isSome=true)∧∀ (w:World) (m:Mem) (φ:Pl) (vs:List Value),Inv w m φ (bD stl)→RepL m φ args vs→(∀ id,φ id≠none→id<stl.length) →
  Calls C.P g vs.toArray w (bR w m φ r stl'):=by
 unfold AA7 at h;split at h
 ·cases h
 rename_i fn hf;split at h
 ·cases h
 rename_i c hb;have hst:=(hS.fns g fn c hf hb).2;refine⟨⟨fn,hf,(hS.fns g fn c hf hb).1,by rw[hb];rfl⟩,fun w m φ vs hi hargs hid=>?_⟩;have ih:=bF hS
 have hrel:IY [] w m φ fn.ntmps stl.length (enter (C.G g) args stl) { tmps:=vs.toArray++Array.replicate (fn.ntmps-vs.toArray.size) undef,defers:=[] } w:=by
  refine⟨⟨⟨m,φ,hi,?_, .refl _ _ _,hid, .nil _ _ _⟩,by simp;omega,rfl⟩,zN _⟩;intro t;unfold enter;simp only;generalize C.G g=G
  induction G with
  | nil=>exact .junk _
  | cons u G ihG =>
   simp only[EH,aT];by_cases e:t=u
   ·subst e;simp only[if_true];exact kZ _ hargs t
   ·simp only[e,if_false];exact ihG
 refine callsIn_wide.1 (callsIn_of_wp_marks (n:=0) hf hb trivial ?_)
 have done:∀ S e,eT C (C.G g) stl.length c (enter (C.G g) args stl)=some (e,S)→finish C keep fn.results.toList stl.length S=some (r,stl')→(e=.normal∨e=.ret) →
  c.wpIn Fence.wide 0 C.P (bodyPostM Fence.wide 0 C.P fn (bR w m φ r stl')) { tmps:=vs.toArray++Array.replicate (fn.ntmps-vs.toArray.size) undef,defers:=[] } w:=by
  intro S e hS' hfin he;obtain⟨n,hS'⟩:=(dC _).1 hS';refine wpIn_mono (bQ (ρ:=none) hS.ctx ih (hS.draw _ ih) hid n c _ S e [] _ w hst (.inl rfl) hS' hrel) ?_;rintro e' a' w' ⟨rfl,ds,k,_⟩
  have hl:LeavesInM Fence.wide 0 C.P fn a'.tmps (bR w m φ r stl') a'.defers .returning w':=by
   rw[k.1.defers];refine nV k fun a2 w2 _ k2=>?_
   obtain⟨v,k3,k4⟩:=fJ (C:=C) hid k2 hfin;exact⟨v,k3,k4⟩
  rcases he with rfl|rfl
  ·exact hl
  ·exact hl
 unfold WN at h;split at h
 ·rename_i S hS';exact done S .normal hS' h (.inl rfl)
 ·rename_i S hS';exact done S .ret hS' h (.inr rfl)
 ·cases h
 ·cases h
inductive Pn where
 | mk (kind table:Int) (exprs:List Ex) (cols:List Int) (kids:List Pn)
def Pn.kind:Pn→Int | .mk k _ _ _ _=>k
def Pn.table:Pn→Int | .mk _ t _ _ _=>t
def Pn.exprs:Pn→List Ex | .mk _ _ es _ _=>es
def Pn.cols:Pn→List Int | .mk _ _ _ cs _=>cs
def Pn.kids:Pn→List Pn | .mk _ _ _ _ ks=>ks
@[simp] theorem Pn.eH (k t es cs ks):(Pn.mk k t es cs ks).kind=k:=rfl
@[simp] theorem Pn.jV (k t es cs ks):(Pn.mk k t es cs ks).table=t:=rfl
@[simp] theorem Pn.bW (k t es cs ks):(Pn.mk k t es cs ks).exprs=es:=rfl
@[simp] theorem Pn.eU (k t es cs ks):(Pn.mk k t es cs ks).cols=cs:=rfl
@[simp] theorem Pn.iV (k t es cs ks):(Pn.mk k t es cs ks).kids=ks:=rfl
theorem Pn.eta (p:Pn):Pn.mk p.kind p.table p.exprs p.cols p.kids=p:=by cases p;rfl
def aF:List Int→List (List IV)
 | []=>[]
 | x::l=>[.int x]::aF l
@[simp] theorem NB:∀ l:List Int,(aF l).length=l.length
  | []=>rfl
  | _::l=>by simp[aF,NB l]
theorem aW:∀ {l:List Int} {i:Nat} {x:Int},l[i]?=some x→fI (aF l) i=some [.int x]
 | [],_,_,h=>by simp at h
 | a::l,0,x,h=>by simp at h;subst h;simp[aF,fI]
 | a::l,i+1,x,h=>by simp only[aF,fI];exact aW (by simpa using h)
@[simp] theorem NA:∀ l:List Int,iO 1 (aF l)=true
  | []=>by simp[aF,iO]
  | _::l=>by have:=NA l;simp only[iO]at this;simp[aF,iO,this]
theorem jK (a b:List Int):aF (a++b)=aF a++aF b:=by
 induction a with
 | nil=>rfl
 | cons x a ih=>simp[aF,ih]
@[simp] theorem UW:∀ (n:Nat) (l:List Int),(aF l).take n=aF (l.take n)
  | 0,l=>by simp[aF]
  | n+1,[]=>by simp[aF]
  | n+1,x::l=>by simp[aF,UW n l]
@[simp] theorem UY:∀ (n:Nat) (l:List Int),(aF l).drop n=aF (l.drop n)
  | 0,l=>by simp
  | n+1,[]=>by simp[aF]
  | n+1,x::l=>by simp[aF,UY n l]
theorem mU (l:List Int) (x:Int):aF (l++[x])=aF l++[[.int x]]:=by rw[jK];rfl
mutual
def Pn.cells:Pn→List IV
 | .mk k t es cs ks=>[.int k, .int t, .isl (Ex.aB es), .isl (aF cs), .isl (Pn.aB ks)]
def Pn.aB:List Pn→List (List IV)
 | []=>[]
 | p::ps=>p.cells::Pn.aB ps
end
theorem Pn.ind {P:Pn→Prop} (h:∀ k t es cs ks,(∀ p∈ks,P p)→P (.mk k t es cs ks)):(p:Pn)→P p
 | .mk k t es cs ks=>h k t es cs ks fun p hp=>Pn.ind h p
termination_by p=>SizeOf.sizeOf p
decreasing_by
 have:=List.sizeOf_lt_of_mem hp;simp;omega
theorem Pn.aA (p:Pn):p.cells=[.int p.kind, .int p.table, .isl (Ex.aB p.exprs), .isl (aF p.cols), .isl (Pn.aB p.kids)]:=by
 cases p;simp[Pn.cells,Pn.kind,Pn.table,Pn.exprs,Pn.cols,Pn.kids]
theorem Pn.dP (k t:Int) (es:List Ex) (cs:List Int) (ks:List Pn):(Pn.mk k t es cs ks).cells=[.int k, .int t, .isl (Ex.aB es), .isl (aF cs), .isl (Pn.aB ks)]:=by simp[Pn.cells]
@[simp] theorem Pn.aV:∀ (l:List Pn),(Pn.aB l).length=l.length
  | []=>by simp[Pn.aB]
  | _::l=>by simp[Pn.aB,Pn.aV l]
theorem Pn.aJ:∀ {l:List Pn} {i:Nat} {p:Pn},l[i]?=some p→fI (Pn.aB l) i=some p.cells
 | [],_,_,h=>by simp at h
 | a::l,0,p,h=>by simp at h;subst h;simp[Pn.aB,fI]
 | a::l,i+1,p,h=>by simp only[Pn.aB,fI];exact Pn.aJ (by simpa using h)
@[simp] theorem Pn.d9 (p:Pn):p.cells.length=5:=by rw[Pn.aA];rfl
@[simp] theorem Pn.o6:∀ (l:List Pn),iO 5 (Pn.aB l)=true
  | []=>by simp[Pn.aB,iO]
  | p::l=>by
   have:=Pn.o6 l;simp only[iO]at this;simp[Pn.aB,iO,Pn.d9,this]
theorem Pn.iM (a b:List Pn):Pn.aB (a++b)=Pn.aB a++Pn.aB b:=by
 induction a with
 | nil=>simp[Pn.aB]
 | cons e a ih=>simp[Pn.aB,ih]
@[simp] theorem Pn.sK:∀ (n:Nat) (l:List Pn),(Pn.aB l).take n=Pn.aB (l.take n)
  | 0,l=>by simp[Pn.aB]
  | n+1,[]=>by simp[Pn.aB]
  | n+1,p::l=>by simp[Pn.aB,Pn.sK n l]
theorem Pn.aU (l:List Pn) (p:Pn):Pn.aB (l++[p])=Pn.aB l++[p.cells]:=by
 rw[Pn.iM];simp[Pn.aB]
mutual
def Pn.size:Pn→Nat
 | .mk _ _ _ _ ks=>1+Pn.aZ ks
def Pn.aZ:List Pn→Nat
 | []=>0
 | p::ps=>p.size+Pn.aZ ps
end
theorem Pn.size_eq (p:Pn):p.size=1+Pn.aZ p.kids:=by cases p;simp[Pn.size,Pn.kids]
theorem Pn.qH (p:Pn):1≤p.size:=by rw[Pn.size_eq];omega
theorem Pn.bK:∀ (l:List Pn),l.length≤Pn.aZ l
 | []=>by simp[Pn.aZ]
 | e::es=>by have:=Pn.bK es;have:=Pn.qH e;simp[Pn.aZ];omega
mutual
def Pn.eqb:Pn→Pn→Bool
 | .mk k t es cs ks, .mk k' t' es' cs' ks'=>k == k' && (t == t' && (Ex.uL es es' && (cs == cs' && Pn.uL ks ks')))
def Pn.uL:List Pn→List Pn→Bool
 | [],[]=>true
 | a::l,b::m=>Pn.eqb a b && Pn.uL l m
 | _,_=>false
end
theorem Pn.EF (a b:Pn):a.eqb b=(a.kind == b.kind && (a.table == b.table && (Ex.uL a.exprs b.exprs && (a.cols == b.cols && Pn.uL a.kids b.kids)))):=by
 cases a;cases b;simp[Pn.eqb]
theorem Pn.kE:∀ (l m:List Pn),l.length≠m.length→Pn.uL l m=false
 | [],[],h=>absurd rfl h
 | a::l,b::m,h=>by simp[Pn.uL,Pn.kE l m (by simpa using h)]
 | [],_::_,_=>by simp[Pn.uL]
 | _::_,[],_=>by simp[Pn.uL]
theorem Pn.iL:∀ (l m:List Pn),l.length=m.length→∃ j:Nat,(∀ i,i<j→∃ a b,l[i]?=some a∧m[i]?=some b∧a∈l∧a.eqb b=true)∧((j=l.length∧Pn.uL l m=true)∨∃ a b,l[j]?=some a∧m[j]?=some b∧a∈l∧a.eqb b=false∧Pn.uL l m=false)
 | [],[],_=>⟨0,fun i h=>by omega, .inl ⟨rfl,by simp[Pn.uL]⟩⟩
 | a::l,b::m,h=>by
  cases hab:a.eqb b with
  | false=>exact⟨0,fun i h=>by omega, .inr ⟨a,b,rfl,rfl,by simp,hab,by simp[Pn.uL,hab]⟩⟩
  | true =>
   obtain⟨j,h1,h2⟩:=Pn.iL l m (by simpa using h);refine⟨j+1,?_,?_⟩
   ·intro i hi
    cases i with
    | zero=>exact⟨a,b,rfl,rfl,by simp,hab⟩
    | succ i =>
     obtain⟨x,y,k1,k2,k3,k4⟩:=h1 i (by omega);exact⟨x,y,by simpa using k1,by simpa using k2,by simp[k3],k4⟩
   ·rcases h2 with ⟨k1,k2⟩|⟨x,y,k1,k2,k3,k4,k5⟩
    ·exact .inl ⟨by simp[k1],by simp[Pn.uL,hab,k2]⟩
    ·exact .inr ⟨x,y,by simpa using k1,by simpa using k2,by simp[k3],k4,by simp[Pn.uL,k5]⟩
 | [],_::_,h=>by simp at h
 | _::_,[],h=>by simp at h
theorem DD:∀ (l m:List Int),l.length=m.length→∃ j:Nat,(∀ i,i<j→∃ a,l[i]?=some a∧m[i]?=some a)∧((j=l.length∧(l == m)=true)∨∃ a b,l[j]?=some a∧m[j]?=some b∧a≠b∧(l == m)=false)
 | [],[],_=>⟨0,fun i h=>by omega, .inl ⟨rfl,by simp⟩⟩
 | a::l,b::m,h=>by
  by_cases hab:a=b
  ·subst hab;obtain⟨j,h1,h2⟩:=DD l m (by simpa using h);refine⟨j+1,?_,?_⟩
   ·intro i hi
    cases i with
    | zero=>exact⟨a,rfl,rfl⟩
    | succ i =>
     obtain⟨x,k1,k2⟩:=h1 i (by omega);exact⟨x,by simpa using k1,by simpa using k2⟩
   ·rcases h2 with ⟨k1,k2⟩|⟨x,y,k1,k2,k3,k5⟩
    ·exact .inl ⟨by simp[k1],by simpa using k2⟩
    ·exact .inr ⟨x,y,by simpa using k1,by simpa using k2,k3,by simpa using k5⟩
  ·exact⟨0,fun i h=>by omega, .inr ⟨a,b,rfl,rfl,hab,by simp[hab]⟩⟩
 | [],_::_,h=>by simp at h
 | _::_,[],h=>by simp at h
mutual
def Pn.thin:Pn→Prop
 | .mk _ _ es cs ks=>es.length<1000000000∧(∀ e∈es,e.thin)∧cs.length<1000000000∧ks.length<1000000000∧Pn.nG ks
def Pn.nG:List Pn→Prop
 | []=>True
 | p::ps=>p.thin∧Pn.nG ps
end
theorem Pn.oV:∀ (l:List Pn),Pn.nG l↔∀ p∈l,p.thin
 | []=>by simp[Pn.nG]
 | p::l=>by simp[Pn.nG,Pn.oV l]
theorem Pn.bC (p:Pn):p.thin↔p.exprs.length<1000000000∧(∀ e∈p.exprs,e.thin)∧p.cols.length<1000000000∧p.kids.length<1000000000∧∀ a∈p.kids,a.thin:=by
 cases p;simp[Pn.thin,Pn.oV]
def Pn.zero:Pn:=.mk 0 0 [] [] []
def Pn.scan (t:Int):Pn:=.mk 1 t [] [] []
def iB (k:Int):Int:=if k=1 then 0 else if k=2∨k=3∨k=7∨k=8 then 1 else if k=4∨k=5∨k=6 then 2 else -1
def dR (k:Int):Int:=if k=2∨k=3∨k=4∨k=5 then 1 else 0
def Pn.headOk (p:Pn):Bool:=decide ((p.kids.length:Int)=iB p.kind) && (decide ((p.exprs.length:Int)=if p.kind=3∧bI p.exprs.length=true then(p.exprs.length:Int)else dR p.kind) && ((decide (p.kind=1) || decide (p.table=0)) && (decide (p.kind=8) || decide (p.cols=[]))))
def oM (w:Int) (cs:List Int):Bool:=(cs.zip (-1::cs)).all fun x=>decide (x.2<x.1∧x.1<w)
def bT (k:Int) (es:List Ex) (cs:List Int) (a b:Int):Int :=
 if k=4∨k=5 then(if a+b≤6∧es.all (Ex.ok (a+b))=true then a+b else 0)
 else if k=6 then(if a=b then a else 0)
 else if k=8 then(if cs.length<6∧oM a cs=true then(cs.length:Int)+1 else 0)
 else if k=3 then(if es.all (Ex.ok a)=true then(es.length:Int)else 0)
 else(if es.all (Ex.ok a)=true then a else 0)
mutual
def Pn.wd (ws:List Int):Nat→Pn→Int
 | lv, .mk k t es cs ks=>if Pn.headOk (.mk k t es cs ks)=true∧(ks=[]∨lv≠0)then(if k=1 then(if 0≤t then(ws[t.toNat]?).getD 0 else 0)else if(Pn.wdL ws (lv-1) ks).all (fun x=>decide (x≠0))=true then bT k es cs ((Pn.wdL ws (lv-1) ks)[0]?.getD 0) ((Pn.wdL ws (lv-1) ks)[1]?.getD 0)else 0)else 0
def Pn.wdL (ws:List Int):Nat→List Pn→List Int
 | _,[]=>[]
 | lv,p::ps=>Pn.wd ws lv p::Pn.wdL ws lv ps
end
theorem Pn.OI (ws:List Int) (lv:Nat):∀ l:List Pn,Pn.wdL ws lv l=l.map (Pn.wd ws lv)
 | []=>by simp[Pn.wdL]
 | p::l=>by simp[Pn.wdL,Pn.OI ws lv l]
theorem Pn.tC (ws:List Int) (lv:Nat) (p:Pn):p.wd ws lv=if p.headOk=true∧(p.kids=[]∨lv≠0)then(if p.kind=1 then(if 0≤p.table then(ws[p.table.toNat]?).getD 0 else 0)else if p.kids.all (fun x=>decide (x.wd ws (lv-1)≠0))=true then bT p.kind p.exprs p.cols ((p.kids[0]?.map (Pn.wd ws (lv-1))).getD 0) ((p.kids[1]?.map (Pn.wd ws (lv-1))).getD 0)else 0)else 0:=by
 obtain⟨k,t,es,cs,ks⟩:=p;simp only[Pn.wd,Pn.OI,List.all_map,zA0,Pn.iV,Pn.eH,Pn.jV,Pn.bW,Pn.eU];rfl
def jI (ws:List Int):Bool:=decide (1≤ws.length∧ws.length≤4) && ws.all bI
def Pn.width (p:Pn) (ws:List Int):Int:=if jI ws=true then p.wd ws 8 else 0
theorem KZ {k:Int} {es:List Ex} {cs:List Int} {a b:Int} (ha:0≤a∧a≤6) (hb:0≤b∧b≤6) (he:k=3→es.length≤6):0≤bT k es cs a b∧bT k es cs a b≤6:=by
 unfold bT;split
 ·split<;>omega
 ·split
  ·split<;>omega
  ·split
   ·split<;>omega
   ·split
    ·have:=he (by assumption);split<;>omega
    ·split<;>omega
theorem Pn.pI {p:Pn} (h:p.headOk=true):p.exprs.length≤6:=by
 unfold Pn.headOk at h;simp only[zU,zP]at h;have h2:=h.2.1;split at h2
 ·rename_i hc;have:=hc.2;simp[bI]at this;omega
 ·unfold dR at h2;split at h2<;>omega
theorem Pn.DU {p:Pn} (h:p.headOk=true):p.kids.length≤2:=by
 unfold Pn.headOk at h;simp only[zU,zP]at h;have h2:=h.1;unfold iB at h2;split at h2
 ·omega
 ·split at h2
  ·omega
  ·split at h2<;>omega
theorem AH5 {p:Prop} [Decidable p] {a b:Int} (ha:0≤a∧a≤6) (hb:0≤b∧b≤6):0≤(if p then a else b)∧(if p then a else b)≤6:=by split<;>assumption
theorem Pn.qF {ws:List Int} (hw:∀ w∈ws,0≤w∧w≤6):∀ (p:Pn) (lv:Nat),0≤p.wd ws lv∧p.wd ws lv≤6:=by
 intro p
 induction p using Pn.ind with
 | h k t es cs ks ih =>
  intro lv;rw[Pn.tC];split
  ·rename_i hc;have he:=Pn.pI hc.1;simp only[Pn.iV,Pn.eH,Pn.jV,Pn.bW,Pn.eU]at he ⊢;by_cases h1:k=1
   ·simp only[h1,if_true];by_cases h2:0≤t
    ·simp only[h2,if_true]
     cases hx:ws[t.toNat]? with
     | none=>simp
     | some x=>simpa using hw x (zV hx)
    ·simp only[h2,if_false];omega
   ·simp only[h1,if_false]
    have hk:∀ i:Nat,0≤(ks[i]?.map (Pn.wd ws (lv-1))).getD 0∧(ks[i]?.map (Pn.wd ws (lv-1))).getD 0≤6:=by
     intro i
     cases hx:ks[i]? with
     | none=>simp
     | some x=>simpa using ih x (zV hx) (lv-1)
    exact AH5 (KZ (hk 0) (hk 1) fun _=>he) (by omega)
  ·omega
theorem Pn.TQ {ws:List Int} {lv:Nat} {p:Pn} (h:¬ (p.headOk=true∧(p.kids=[]∨lv≠0))):p.wd ws lv=0:=by
 rw[Pn.tC,if_neg h]
theorem CV (k:Int):iB k=-1∨(iB k=0∧k=1)∨(iB k=1∧(k=2∨k=3∨k=7∨k=8))∨(iB k=2∧(k=4∨k=5∨k=6)):=by
 unfold iB;split
 ·simp[*]
 ·split
  ·simp[*]
  ·split
   ·simp[*]
   ·simp
mutual
def Pn.lim:Pn→Prop
 | .mk _ _ es cs ks=>es.length<9223372036854775808∧cs.length<9223372036854775808∧ks.length<9223372036854775808∧Pn.ALB ks
def Pn.ALB:List Pn→Prop
 | []=>True
 | p::ps=>p.lim∧Pn.ALB ps
end
theorem Pn.RO:∀ (l:List Pn),Pn.ALB l↔∀ p∈l,p.lim
 | []=>by simp[Pn.ALB]
 | p::l=>by simp[Pn.ALB,Pn.RO l]
theorem Pn.D9 (p:Pn):p.lim↔p.exprs.length<9223372036854775808∧p.cols.length<9223372036854775808∧p.kids.length<9223372036854775808∧∀ a∈p.kids,a.lim:=by
 cases p;simp[Pn.lim,Pn.RO]
theorem Pn.J6:∀ (p:Pn),p.thin→p.lim:=by
 intro p
 induction p using Pn.ind with
 | h k t es cs ks ih =>
  intro h;have h:=(Pn.bC _).1 h;simp only[Pn.bW,Pn.eU,Pn.iV]at h;exact(Pn.D9 _).2 ⟨by simp;omega,by simp;omega,by simp;omega,fun a ha=>ih a ha (h.2.2.2.2 a ha)⟩
theorem Pn.KR:Pn.zero.thin:=by simp[Pn.zero,Pn.thin,Pn.nG]
mutual
def Pn.tiny:Pn→Prop
 | .mk _ _ es _ ks=>(∀ e∈es,e.size<1000000000)∧Pn.TW ks
def Pn.TW:List Pn→Prop
 | []=>True
 | p::ps=>p.tiny∧Pn.TW ps
end
theorem Pn.LK:∀ (l:List Pn),Pn.TW l↔∀ p∈l,p.tiny
 | []=>by simp[Pn.TW]
 | p::l=>by simp[Pn.TW,Pn.LK l]
theorem Pn.J5 (p:Pn):p.tiny↔(∀ e∈p.exprs,e.size<1000000000)∧∀ a∈p.kids,a.tiny:=by
 cases p;simp[Pn.tiny,Pn.LK]
theorem Ex.qN:∀ {l:List Ex} {i:Nat} {a:Ex},l[i]?=some a→(Ex.aB l).set i a.cells=Ex.aB l
 | [],_,_,h=>by simp at h
 | b::l,0,a,h=>by simp at h;subst h;simp[Ex.aB]
 | b::l,i+1,a,h=>by simp only[Ex.aB,List.set_cons_succ];rw[Ex.qN (by simpa using h)]
theorem L6 {k:Int} {es:List Ex} {cs:List Int} {a b:Int} (h:bT k es cs a b≠0) (h6:k=6→es=[]) (h8:k=8→es=[]):∀ e∈es,e.size<1000:=by
 unfold bT at h;intro e he;have fin:∀ w:Int,es.all (Ex.ok w)=true→e.size<1000:=fun w hw=>Ex.gG (zR.1 hw e he)
 split at h
 ·split at h
  ·rename_i hc;exact fin _ hc.2
  ·exact absurd rfl h
 ·split at h
  ·rename_i hk;rw[h6 hk]at he;cases he
  ·split at h
   ·rename_i hk;rw[h8 hk]at he;cases he
   ·split at h
    ·split at h
     ·rename_i hc;exact fin _ hc
     ·exact absurd rfl h
    ·split at h
     ·rename_i hc;exact fin _ hc
     ·exact absurd rfl h
theorem fA {p:Prop} [Decidable p] {a:Int} (h:(if p then a else 0)≠0):p∧a≠0:=by
 by_cases hp:p
 ·rw[if_pos hp]at h;exact⟨hp,h⟩
 ·rw[if_neg hp]at h;exact absurd rfl h
theorem Pn.rV {p:Pn} (h:p.headOk=true) (hk:p.kind=1∨p.kind=6∨p.kind=7∨p.kind=8):p.exprs=[]:=by
 unfold Pn.headOk at h;simp only[zU,zP]at h;have h2:=h.2.1;have hn:dR p.kind=0:=by unfold dR;rcases hk with e|e|e|e<;>simp[e]
 split at h2
 ·rename_i hc;rcases hk with e|e|e|e<;>(rw[e]at hc;exact absurd hc.1 (by decide))
 ·rw[hn]at h2;exact zX.1 (by omega)
theorem Pn.rW {p:Pn} (h:p.headOk=true) (hk:p.kind=1):p.kids=[]:=by
 unfold Pn.headOk at h;simp only[zU,zP]at h;have h2:=h.1;rw[hk]at h2;simp[iB]at h2;exact h2
theorem Pn.XI:∀ (l:List Pn) (c:Nat),l.length≤2→(∀ p∈l,p.size≤c)→Pn.aZ l≤2*c
 | [],c,_,_=>by simp[Pn.aZ]
 | [a],c,_,h=>by have:=h a (by simp);simp[Pn.aZ];omega
 | [a,b],c,_,h=>by have:=h a (by simp);have:=h b (by simp);simp[Pn.aZ];omega
 | _::_::_::_,_,h,_=>by simp at h
theorem Pn.KY {ws:List Int}:∀ (p:Pn) (lv:Nat),p.wd ws lv≠0→p.tiny∧p.size+1≤2 ^ (lv+1):=by
 intro p
 induction p using Pn.ind with
 | h k t es cs ks ih =>
  intro lv h;rw[Pn.tC]at h;split at h
  ·rename_i hc;obtain⟨hh,hlv⟩:=hc;have hkl:=Pn.DU hh;simp only[Pn.iV,Pn.eH,Pn.jV,Pn.bW,Pn.eU]at h hlv hkl;by_cases h1:k=1
   ·have e1:es=[]:=Pn.rV hh (.inl h1);have e2:ks=[]:=Pn.rW hh h1;subst e1;subst e2;refine⟨by simp[Pn.tiny,Pn.TW],?_⟩;have:1≤2 ^ lv:=x9;simp[Pn.size,Pn.aZ,zA8];omega
   ·simp only[h1,if_false]at h;obtain⟨hall,h⟩:=fA h
    ·rw[zR]at hall;have hes:∀ e∈es,e.size<1000:=L6 h (fun e=>Pn.rV hh (.inr (.inl e))) (fun e=>Pn.rV hh (.inr (.inr (.inr e))));by_cases hkn:ks=[]
     ·subst hkn;refine⟨(Pn.J5 _).2 ⟨fun e he=>by have:=hes e he;omega,by simp⟩,?_⟩;have:1≤2 ^ lv:=x9;simp[Pn.size,Pn.aZ,zA8];omega
     ·have hl0:lv≠0:=by rcases hlv with e|e;exact absurd e hkn;exact e
      have hk:∀ a∈ks,a.tiny∧a.size+1≤2 ^ (lv-1+1):=fun a ha=>ih a ha (lv-1) (by simpa using hall a ha)
      refine⟨(Pn.J5 _).2 ⟨fun e he=>by have:=hes e he;omega,fun a ha=>(hk a ha).1⟩,?_⟩;rw[show lv-1+1=lv by omega]at hk;have hp:1≤2 ^ lv:=x9;have:=Pn.XI ks (2 ^ lv-1) hkl fun a ha=>by have:=(hk a ha).2;omega
      simp only[Pn.size,zA8];omega
  ·exact absurd rfl h
def Pn.hit (t:Int) (p:Pn):Bool:=decide (p.kind=1) && decide (p.table=t)
mutual
def scP (t:Int):Pn→Bool
 | .mk k tb es cs ks=>Pn.hit t (.mk k tb es cs ks) || AB1 t ks
def AB1 (t:Int):List Pn→Bool
 | []=>false
 | p::ps=>scP t p || AB1 t ps
end
theorem ACZ {p:Prop} {d e:Decidable p} {a b:Int}:@ite _ p d a b=@ite _ p e a b:=by rw[Subsingleton.elim d e]
theorem Pn.gN {ws:List Int}:∀ (p:Pn) (lv lv':Nat),p.wd ws lv≠0→lv≤lv'→p.wd ws lv'=p.wd ws lv:=by
 intro p
 induction p using Pn.ind with
 | h k t es cs ks ih =>
  intro lv lv' h hl;have h0:=h;rw[Pn.tC]at h;by_cases hc:(Pn.mk k t es cs ks).headOk=true∧((Pn.mk k t es cs ks).kids=[]∨lv≠0)
  case neg=>rw[if_neg hc]at h;exact absurd rfl h
  rw[if_pos hc]at h
  have hc':(Pn.mk k t es cs ks).headOk=true∧((Pn.mk k t es cs ks).kids=[]∨lv'≠0):=⟨hc.1,hc.2.imp id fun h=>by omega⟩
  rw[Pn.tC,Pn.tC,if_pos hc,if_pos hc'];simp only[Pn.iV,Pn.eH,Pn.jV,Pn.bW,Pn.eU]at h ⊢;by_cases h1:k=1
  ·simp only[h1,if_true]
  ·simp only[h1,if_false]at h ⊢;obtain⟨hall,h⟩:=fA h;have hall2:=zR.1 hall;have hk:∀ a∈ks,a.wd ws (lv'-1)=a.wd ws (lv-1):=fun a ha=>ih a ha (lv-1) (lv'-1) (by simpa using hall2 a ha) (by omega)
   have e1:(ks.all fun x=>decide (x.wd ws (lv'-1)≠0))=(ks.all fun x=>decide (x.wd ws (lv-1)≠0)):=by
    rw[xK,zR,zR];exact⟨fun g a ha=>by rw[← hk a ha];exact g a ha,fun g a ha=>by rw[hk a ha];exact g a ha⟩
   have e2:∀ i:Nat,(ks[i]?.map (Pn.wd ws (lv'-1)))=(ks[i]?.map (Pn.wd ws (lv-1))):=fun i=>by
    cases hx:ks[i]? with
    | none=>rfl
    | some a=>simp[hk a (zV hx)]
   rw[e2 0,e2 1];simp only[e1];exact ACZ
def filt (e:Ex) (k:Pn):Pn:=.mk 2 0 [e] [] [k]
def proj (es:List Ex) (k:Pn):Pn:=.mk 3 0 es [] [k]
def aY (kd:Int) (e:Ex) (a b:Pn):Pn:=.mk kd 0 [e] [] [a,b]
def bY (a b:Pn):Pn:=.mk 6 0 [] [] [a,b]
def TC (a b:Ex):Ex:=.mk 8 0 Val.zero [a,b]
def SY (c:Int):Ex:=.mk 1 c Val.zero []
theorem KW {ws:List Int} {p:Pn} {lv:Nat} (h:p.wd ws lv≠0) (hk:p.kids≠[]):∃ m,lv=m+1:=by
 cases lv with
 | succ m=>exact⟨m,rfl⟩
 | zero =>
  rw[Pn.tC]at h;by_cases hc:p.headOk=true∧(p.kids=[]∨0≠0)
  ·rcases hc.2 with e|e
   ·exact absurd e hk
   ·exact absurd rfl e
  ·rw[if_neg hc]at h;exact absurd rfl h
theorem KV {ws:List Int} {k:Int} {es:List Ex} {cs:List Int} {a:Pn} {lv:Nat} (h1:k=2∨k=3∨k=7∨k=8):(Pn.mk k 0 es cs [a]).wd ws (lv+1)=if(Pn.mk k 0 es cs [a]).headOk=true∧a.wd ws lv≠0 then bT k es cs (a.wd ws lv) 0 else 0:=by
 rw[Pn.tC];have hk:k≠1:=by omega
 simp only[Pn.iV,Pn.eH,Pn.jV,Pn.bW,Pn.eU,hk,if_false];by_cases ho:(Pn.mk k 0 es cs [a]).headOk=true
 ·by_cases hw:a.wd ws lv=0
  ·simp[ho,hw]
  ·simp[ho,hw]
 ·simp[ho]
theorem AEC {ws:List Int} {k:Int} {es:List Ex} {cs:List Int} {a b:Pn} {lv:Nat} (h1:k=4∨k=5∨k=6):(Pn.mk k 0 es cs [a,b]).wd ws (lv+1)=if(Pn.mk k 0 es cs [a,b]).headOk=true∧a.wd ws lv≠0∧b.wd ws lv≠0 then bT k es cs (a.wd ws lv) (b.wd ws lv)else 0:=by
 rw[Pn.tC];have hk:k≠1:=by omega
 simp only[Pn.iV,Pn.eH,Pn.jV,Pn.bW,Pn.eU,hk,if_false];by_cases ho:(Pn.mk k 0 es cs [a,b]).headOk=true
 ·by_cases hw:a.wd ws lv=0
  ·simp[ho,hw]
  ·by_cases hw2:b.wd ws lv=0
   ·simp[ho,hw,hw2]
   ·simp[ho,hw,hw2]
 ·simp[ho]
theorem BH {ws:List Int} {e:Ex} {a:Pn} {lv:Nat}:(filt e a).wd ws (lv+1)=if a.wd ws lv≠0∧e.ok (a.wd ws lv)=true then a.wd ws lv else 0:=by
 unfold filt;rw[KV (by omega)];have ho:(Pn.mk 2 0 [e] [] [a]).headOk=true:=by simp[Pn.headOk,iB,dR]
 by_cases h:a.wd ws lv=0
 ·simp[h]
 ·simp[ho,h,bT]
theorem uV {ws:List Int} {es:List Ex} {a:Pn} {lv:Nat}:(proj es a).wd ws (lv+1)=if a.wd ws lv≠0∧bI es.length=true∧es.all (Ex.ok (a.wd ws lv))=true then(es.length:Int)else 0:=by
 unfold proj;rw[KV (by omega)]
 have ho:(Pn.mk 3 0 es [] [a]).headOk=bI es.length:=by
  cases h:bI es.length with
  | true=>simp[Pn.headOk,iB,dR,h]
  | false =>
   have:(es.length:Int)≠1:=by intro e;rw[e]at h;simp[bI]at h
   simp[Pn.headOk,iB,dR,h,this]
 by_cases h:a.wd ws lv=0
 ·simp[h]
 ·by_cases h2:bI es.length=true
  ·simp[ho,h,h2,bT]
  ·simp[ho,h,h2]
theorem BG {ws:List Int} {k:Int} {e:Ex} {a b:Pn} {lv:Nat} (hk:k=4∨k=5):(aY k e a b).wd ws (lv+1)=if a.wd ws lv≠0∧b.wd ws lv≠0∧a.wd ws lv+b.wd ws lv≤6∧e.ok (a.wd ws lv+b.wd ws lv)=true then a.wd ws lv+b.wd ws lv else 0:=by
 unfold aY;rw[AEC (by omega)];have ho:(Pn.mk k 0 [e] [] [a,b]).headOk=true:=by rcases hk with rfl|rfl<;>simp[Pn.headOk,iB,dR]
 by_cases h:a.wd ws lv=0
 ·simp[h]
 ·by_cases h2:b.wd ws lv=0
  ·simp[h2]
  ·simp[ho,h,h2,bT,hk]
theorem QO {ws:List Int} {a b:Pn} {lv:Nat}:(bY a b).wd ws (lv+1)=if a.wd ws lv≠0∧a.wd ws lv=b.wd ws lv then a.wd ws lv else 0:=by
 unfold bY;rw[AEC (by omega)];have ho:(Pn.mk 6 0 [] [] [a,b]).headOk=true:=by simp[Pn.headOk,iB,dR]
 by_cases h:a.wd ws lv=0
 ·simp[h]
 ·by_cases h2:a.wd ws lv=b.wd ws lv
  ·simp[ho,bT,h2,show b.wd ws lv≠0 by rw[← h2];exact h]
  ·simp[ho,h,h2,bT]
inductive Shape (ws:List Int) (lv:Nat):Pn→Prop
 | scan (t:Int) (W:Int) (h0:0≤t) (h:ws[t.toNat]?=some W) (hW:W≠0):Shape ws lv (.scan t)
 | filt (m:Nat) (e:Ex) (a:Pn) (h:lv=m+1) (ha:a.wd ws m≠0) (he:e.ok (a.wd ws m)=true):Shape ws lv (filt e a)
 | proj (m:Nat) (es:List Ex) (a:Pn) (h:lv=m+1) (ha:a.wd ws m≠0) (hl:bI es.length=true) (he:∀ e∈es,e.ok (a.wd ws m)=true):Shape ws lv (proj es a)
 | pair (m:Nat) (k:Int) (e:Ex) (a b:Pn) (h:lv=m+1) (hk:k=4∨k=5) (ha:a.wd ws m≠0) (hb:b.wd ws m≠0) (hl:a.wd ws m+b.wd ws m≤6) (he:e.ok (a.wd ws m+b.wd ws m)=true):Shape ws lv (aY k e a b)
 | union (m:Nat) (a b:Pn) (h:lv=m+1) (ha:a.wd ws m≠0) (hb:b.wd ws m=a.wd ws m):Shape ws lv (bY a b)
 | dist (m:Nat) (a:Pn) (h:lv=m+1) (ha:a.wd ws m≠0):Shape ws lv (.mk 7 0 [] [] [a])
 | group (m:Nat) (cs:List Int) (a:Pn) (h:lv=m+1) (ha:a.wd ws m≠0) (hc:cs.length<6) (ho:oM (a.wd ws m) cs=true):Shape ws lv (.mk 8 0 [] cs [a])
theorem AY {α:Type} {l:List α} (h:l.length=1):∃ a,l=[a]:=by
 match l,h with
 | [a],_=>exact⟨a,rfl⟩
theorem RN {α:Type} {l:List α} (h:l.length=2):∃ a b,l=[a,b]:=by
 match l,h with
 | [a,b],_=>exact⟨a,b,rfl⟩
theorem sZ {ws:List Int} {lv:Nat} {p:Pn} (h:p.wd ws lv≠0):Shape ws lv p:=by
 have h0:=h;rw[Pn.tC]at h;by_cases hc:p.headOk=true∧(p.kids=[]∨lv≠0)
 case neg=>rw[if_neg hc]at h;exact absurd rfl h
 rw[if_pos hc]at h;have hh:=hc.1;obtain⟨k,t,es,cs,ks⟩:=p;unfold Pn.headOk at hh;simp only[zU,zA7,zP]at hh;simp only[Pn.iV,Pn.eH,Pn.jV,Pn.bW,Pn.eU]at hh h;obtain⟨g1,g2,g3,g4⟩:=hh
 rcases CV k with e|⟨e,hk⟩|⟨e,hk⟩|⟨e,hk⟩
 ·omega
 ·subst hk;rw[e]at g1;have hks:ks=[]:=zX.1 (by omega);simp[dR]at g2;subst g2;subst hks;have hcs:cs=[]:=by rcases g4 with g|g;omega;exact g
  subst hcs;simp only[if_true]at h;obtain⟨ht,h⟩:=fA h
  cases hw:ws[t.toNat]? with
  | none=>rw[hw]at h;exact absurd rfl h
  | some W=>rw[hw]at h;exact .scan t W ht hw h
 ·obtain⟨a,rfl⟩:=AY (show ks.length=1 by omega);obtain⟨m,rfl⟩:=KW h0 (by simp);have ht:t=0:=by rcases g3 with g|g;omega;exact g
  subst ht
  rcases hk with rfl|rfl|rfl|rfl
  ·have hcs:cs=[]:=by rcases g4 with g|g;omega;exact g
   subst hcs;simp[dR]at g2;obtain⟨x,rfl⟩:=AY (show es.length=1 by omega);have hf:=BH (ws:=ws) (e:=x) (a:=a) (lv:=m);unfold filt at hf;rw[hf]at h0;obtain⟨⟨ha,he⟩,-⟩:=fA h0;exact .filt m x a rfl ha he
  ·have hcs:cs=[]:=by rcases g4 with g|g;omega;exact g
   subst hcs;have hf:=uV (ws:=ws) (es:=es) (a:=a) (lv:=m);unfold proj at hf;rw[hf]at h0;obtain⟨⟨ha,he,hx⟩,-⟩:=fA h0;exact .proj m es a rfl ha he (zR.1 hx)
  ·have hcs:cs=[]:=by rcases g4 with g|g;omega;exact g
   subst hcs;simp[dR]at g2;subst g2;rw[KV (by omega)]at h0;exact .dist m a rfl (fA h0).1.2
  ·simp[dR]at g2;subst g2;rw[KV (by omega)]at h0;obtain⟨⟨_,ha⟩,h0⟩:=fA h0;unfold bT at h0;simp only[show ¬ ((8:Int)=4∨(8:Int)=5)by omega,show ¬ (8:Int)=6 by omega,if_false,if_true]at h0;obtain⟨⟨h1,h2⟩,-⟩:=fA h0;exact .group m cs a rfl ha h1 h2
 ·obtain⟨a,b,rfl⟩:=RN (show ks.length=2 by omega);obtain⟨m,rfl⟩:=KW h0 (by simp);have ht:t=0:=by rcases g3 with g|g;omega;exact g
  subst ht;have hcs:cs=[]:=by rcases g4 with g|g;omega;exact g
  subst hcs;by_cases h6:k=6
  ·subst h6;simp[dR]at g2;subst g2;have hf:=QO (ws:=ws) (a:=a) (b:=b) (lv:=m);unfold bY at hf;rw[hf]at h0;obtain⟨⟨ha,hb⟩,-⟩:=fA h0;exact .union m a b rfl ha hb.symm
  ·have hk2:k=4∨k=5:=by omega
   have hx:es.length=1:=by
    rcases hk2 with rfl|rfl<;>simp[dR]at g2<;>omega
   obtain⟨x,rfl⟩:=AY hx;have hf:=BG (ws:=ws) (e:=x) (a:=a) (b:=b) (lv:=m) hk2;unfold aY at hf;rw[hf]at h0;obtain⟨⟨ha,hb,hc,he⟩,-⟩:=fA h0;exact .pair m k x a b rfl hk2 ha hb hc he
mutual
def Ex.qX (f:Int→Bool):Ex→Bool
 | .mk k c _ ks=>if k=1 then f c else Ex.AAO f ks
def Ex.AAO (f:Int→Bool):List Ex→Bool
 | []=>true
 | e::es=>Ex.qX f e && Ex.AAO f es
end
mutual
def Ex.rR (f:Int→Int):Ex→Ex
 | .mk k c v ks=>if k=1 then SY (f c)else .mk k c v (Ex.YU f ks)
def Ex.YU (f:Int→Int):List Ex→List Ex
 | []=>[]
 | e::es=>Ex.rR f e::Ex.YU f es
end
theorem Ex.OA (f:Int→Bool):∀ l,Ex.AAO f l=l.all (Ex.qX f)
 | []=>by simp[Ex.AAO]
 | e::es=>by simp[Ex.AAO,Ex.OA f es]
theorem Ex.MQ (f:Int→Int):∀ l,Ex.YU f l=l.map (Ex.rR f)
 | []=>by simp[Ex.YU]
 | e::es=>by simp[Ex.YU,Ex.MQ f es]
theorem Ex.jS (f:Int→Bool) (e:Ex):e.qX f=if e.kind=1 then f e.col else e.kids.all (Ex.qX f):=by
 cases e;simp only[Ex.qX,Ex.OA,Ex.kind,Ex.col,Ex.kids];split<;>simp[*]
theorem Ex.AX (f:Int→Int) {e:Ex} (h:e.kind=1):e.rR f=SY (f e.col):=by
 cases e;simp[Ex.kind]at h;simp[Ex.rR,h,Ex.col]
theorem Ex.AU (f:Int→Int) {e:Ex} (h:e.kind≠1):e.rR f=.mk e.kind e.col e.val (e.kids.map (Ex.rR f)):=by
 cases e;simp[Ex.kind]at h;simp[Ex.rR,h,Ex.MQ,Ex.kind,Ex.col,Ex.val,Ex.kids]
theorem Ex.QV {by_:List Ex} {f:Int→Int} {g:Int→Bool} (h:∀ c,g c=true→by_[c.toNat]?=some (SY (f c))):∀ e:Ex,e.qX g=true→e.sub by_=e.rR f:=by
 intro e
 induction e using Ex.ind with
 | h k c v ks ih =>
  intro ha;rw[Ex.jS]at ha;by_cases h1:k=1
  ·subst h1;simp only[Ex.kind,Ex.col,if_true]at ha;rw[Ex.rJ by_ (e:=.mk 1 c v ks) (by rfl) (h c ha),Ex.AX f (e:=.mk 1 c v ks) (by rfl)];rfl
  ·simp only[Ex.kind,Ex.kids,h1,if_false,zR]at ha;rw[Ex.rH by_ (by simpa [Ex.kind]using h1),Ex.AU f (by simpa [Ex.kind]using h1)];simp only[Ex.kids];rw[List.map_congr_left fun e he=>ih e he (ha e he)]
theorem Ex.mZ {f g:Int→Bool} (h:∀ c,f c=true→g c=true):∀ e:Ex,e.qX f=true→e.qX g=true:=by
 intro e
 induction e using Ex.ind with
 | h k c v ks ih =>
  intro ha;rw[Ex.jS]at ha ⊢;by_cases h1:k=1
  ·subst h1;simp only[Ex.kind,Ex.col,if_true]at ha ⊢;exact h c ha
  ·simp only[Ex.kind,Ex.kids,h1,if_false,zR]at ha ⊢;exact fun e he=>ih e he (ha e he)
theorem Ex.J3 {w:Int}:∀ e:Ex,e.wf w=true→e.qX (fun c=>decide (0≤c∧c<w))=true:=by
 intro e
 induction e using Ex.ind with
 | h k c v ks ih =>
  intro hw;rw[Ex.jS];by_cases h1:k=1
  ·have:=Ex.qY hw (by simpa [Ex.kind]using h1);simp only[Ex.col]at this;simp[Ex.kind,h1,Ex.col,this.1,this.2.1]
  ·simp only[Ex.kind,Ex.kids,h1,if_false,zR];exact fun e he=>ih e he (Ex.lY hw (by simpa [Ex.kids]using he))
def aS (a:Int) (n:Nat):List Ex:=(List.range n).map fun(i:Nat)=>SY (a+(i:Int))
@[simp] theorem pX (a:Int) (n:Nat):(aS a n).length=n:=by simp[aS]
theorem pV {a:Int} {n i:Nat} (h:i<n):(aS a n)[i]?=some (SY (a+i)):=by
 simp[aS,h]
theorem K5 (a:Int) (n:Nat):aS a (n+1)=aS a n++[SY (a+n)]:=by
 simp[aS,xC]
def Val.tr (v:Val):Int:=if v.null=true then 1 else if v.n=0 then 0 else 2
def trV (t:Int):Val:=if t=1 then⟨true,0⟩else⟨false,if t=2 then 1 else 0⟩
def AJ0 (n:Int):Val:=if -9999≤n∧n≤9999 then⟨false,n⟩else⟨true,0⟩
def PX (b:Bool):Val:=⟨false,if b=true then 1 else 0⟩
def Val.cmb (k:Int) (a b:Val):Val :=
 if k=8 then trV (if b.tr<a.tr then b.tr else a.tr)else if k=9 then trV (if b.tr > a.tr then b.tr else a.tr)else
 if a.null=true∨b.null=true then⟨true,0⟩else if k=3 then AJ0 (a.n+b.n)else if k=4 then AJ0 (a.n-b.n)else if k=5 then AJ0 (a.n*b.n)else
 if k=6 then PX (a.n == b.n)else PX (decide (a.n<b.n))
def evN (row:List Val) (k c:Int) (v:Val) (vs:List Val):Val :=
 if k=1 then(row[c.toNat]?).getD Val.zero else if k=2 then v else
 if k=10 then trV (2-((vs[0]?).getD Val.zero).tr)else if k=11 then PX ((vs[0]?).getD Val.zero).null else
 Val.cmb k ((vs[0]?).getD Val.zero) ((vs[1]?).getD Val.zero)
mutual
def Ex.ev (row:List Val):Ex→Val
 | .mk k c v ks=>evN row k c v (Ex.evL row ks)
def Ex.evL (row:List Val):List Ex→List Val
 | []=>[]
 | e::es=>e.ev row::Ex.evL row es
end
def rG:List Val→List (List IV)
 | []=>[]
 | v::vs=>[.bool v.null, .int v.n]::rG vs
@[simp] theorem LC:∀ l:List Val,(rG l).length=l.length
  | []=>rfl
  | _::l=>by simp[rG,LC l]
theorem oP:∀ {l:List Val} {i:Nat} {v:Val},l[i]?=some v→fI (rG l) i=some [.bool v.null, .int v.n]
 | [],_,_,e=>by simp at e
 | a::l,0,v,e=>by simp at e;subst e;simp[rG,fI]
 | a::l,i+1,v,e=>by simp only[rG,fI];exact oP (by simpa using e)
def stV (v:Val):Int:=if v.null=true then 4 else if v.n=0 then 1 else 2
def orS (a b:Int):Int:=((a.toNat ||| b.toNat:Nat):Int)
def iI (a:Int) (s:Int):Bool:=decide (a / s % 2=1)
def exS (a:Int):List Val:=(if iI a 1=true then [⟨false,0⟩]else [])++((if iI a 2=true then [⟨false,1⟩]else [])++(if iI a 4=true then [⟨true,0⟩]else []))
def jT (k:Int) (a b:Int):Int :=
 if k=8∨k=9 then(exS a).foldl (fun s v=>(exS b).foldl (fun s w=>orS s (stV (Val.cmb k v w))) s) 0
 else orS (if iI (orS a b) 4=true then 4 else 0) (if(iI a 1 || iI a 2)=true∧(iI b 1 || iI b 2)=true then(if k<6 then 7 else 3)else 0)
def AN9 (a:Int):Int:=(if iI a 4=true then 4 else 0)+((if iI a 1=true then 2 else 0)+(if iI a 2=true then 1 else 0))
def AN8 (a:Int):Int:=(if iI a 4=true then 2 else 0)+(if(iI a 1 || iI a 2)=true then 1 else 0)
mutual
def FI (st:List Int):Ex→Int
 | .mk k c v ks=>if k=1 then(st[c.toNat]?).getD 0 else if k=2 then stV v else if k=10 then AN9 ((MJ st ks)[0]?.getD 0)else if k=11 then AN8 ((MJ st ks)[0]?.getD 0)else jT k ((MJ st ks)[0]?.getD 0) ((MJ st ks)[1]?.getD 0)
def MJ (st:List Int):List Ex→List Int
 | []=>[]
 | e::es=>FI st e::MJ st es
end
theorem MI (st:List Int):∀ l,MJ st l=l.map (FI st)
 | []=>by simp[MJ]
 | e::es=>by simp[MJ,MI st es]
def iT (width left:Int):List Int:=(List.range width.toNat).map fun(i:Nat)=>if left≤(i:Int)then 4 else 7
def XZ (e:Ex) (width left:Int):Bool:=!iI (FI (iT width left) e) 2
def Pn.ex0 (p:Pn):Ex:=(p.exprs[0]?).getD Ex.zero
def Pn.gJ (p:Pn):Pn:=(p.kids[0]?).getD Pn.zero
def Pn.mR (p:Pn):Pn:=(p.kids[1]?).getD Pn.zero
def Ex.gJ (e:Ex):Ex:=(e.kids[0]?).getD Ex.zero
def Ex.mR (e:Ex):Ex:=(e.kids[1]?).getD Ex.zero
def Ex.cin (e:Ex) (lo hi:Int):Bool:=e.qX fun c=>decide (lo≤c∧c<hi)
def rwF (ws:List Int) (rule:Int) (e:Ex) (k:Pn):Option Pn :=
 if rule=1∧k.kind=2 then some (filt (TC k.ex0 e) k.gJ)
 else if rule=2∧e.kind=8 then some (filt e.mR (filt e.gJ k))
 else if rule=3∧(k.kind=4∨k.kind=5)∧e.cin 0 (k.gJ.wd ws 8)=true then some (aY k.kind k.ex0 (filt e k.gJ) k.mR)
 else if rule=4∧k.kind=4∧e.cin (k.gJ.wd ws 8) (k.wd ws 8)=true then some (aY 4 k.ex0 k.gJ (filt (e.rR (·-k.gJ.wd ws 8)) k.mR))
 else if rule=5∧k.kind=4 then some (aY 4 (TC k.ex0 e) k.gJ k.mR)
 else if rule=7∧k.kind=5∧XZ e (k.wd ws 8) (k.gJ.wd ws 8)=true then some (filt e (aY 4 k.ex0 k.gJ k.mR))
 else if rule=8∧k.kind=6 then some (bY (filt e k.gJ) (filt e k.mR))
 else if rule=10∧k.kind=3 then some (proj k.exprs (filt (e.sub k.exprs) k.gJ))
 else none
def nH (a b c:Int):Int:=if c<a then c+b else c-a
def rwP (ws:List Int) (rule:Int) (p:Pn):Option Pn :=
 if p.kind=2 then rwF ws rule p.ex0 p.gJ
 else if rule=6∧p.kind=4 then some (proj (aS (p.mR.wd ws 8) (p.gJ.wd ws 8).toNat++aS 0 (p.mR.wd ws 8).toNat) (aY 4 (p.ex0.rR (nH (p.gJ.wd ws 8) (p.mR.wd ws 8))) p.mR p.gJ))
 else if rule=9∧p.kind=7∧(p.gJ.kind=7∨p.gJ.kind=8)then some p.gJ
 else if rule=11∧p.kind=3∧p.gJ.kind=3 then some (proj (p.exprs.map (Ex.sub p.gJ.exprs)) p.gJ.gJ)
 else none
def rwL (ws:List Int) (rule:Int) (lv:Nat) (p:Pn):Option Pn:=(rwP ws rule p).bind fun q=>if q.wd ws lv≠0 then some q else none
def Wd (ws:List Int) (p:Pn) (W:Int):Prop:=∃ lv,p.wd ws lv=W∧W≠0
theorem nC {ws:List Int} {p:Pn} {A B:Int} (ha:Wd ws p A) (hb:Wd ws p B):A=B:=by
 obtain⟨i,rfl,h1⟩:=ha;obtain⟨j,rfl,h2⟩:=hb
 rcases Nat.le_total i j with h|h
 ·exact(Pn.gN p i j h1 h).symm
 ·exact Pn.gN p j i h2 h
theorem AEA {ws:List Int} {p:Pn} {A:Int} {lv:Nat} (ha:Wd ws p A) (h:p.wd ws lv≠0):p.wd ws lv=A:=nC ⟨lv,rfl,h⟩ ha
theorem kG {ws:List Int} {p:Pn} {lv:Nat} (h:p.wd ws lv≠0):Wd ws p (p.wd ws lv):=⟨lv,rfl,h⟩
theorem fO {ws:List Int} {e:Ex} {k:Pn} {W:Int} (h:Wd ws (filt e k) W):Wd ws k W∧e.ok W=true:=by
 obtain⟨lv,rfl,h⟩:=h;obtain⟨m,rfl⟩:=KW h (by simp[filt]);rw[BH]at h ⊢;obtain⟨hc,-⟩:=fA h;rw[if_pos hc];exact⟨⟨m,rfl,hc.1⟩,hc.2⟩
theorem sP {ws:List Int} {es:List Ex} {k:Pn} {W:Int} (h:Wd ws (proj es k) W):∃ V,Wd ws k V∧bI es.length=true∧es.all (Ex.ok V)=true∧W=es.length:=by
 obtain⟨lv,rfl,h⟩:=h;obtain⟨m,rfl⟩:=KW h (by simp[proj]);rw[uV]at h ⊢;obtain⟨hc,-⟩:=fA h;rw[if_pos hc];exact⟨_,⟨m,rfl,hc.1⟩,hc.2.1,hc.2.2,rfl⟩
theorem oH {ws:List Int} {kd:Int} {e:Ex} {a b:Pn} {W:Int} (hk:kd=4∨kd=5) (h:Wd ws (aY kd e a b) W):∃ A B,Wd ws a A∧Wd ws b B∧A+B≤6∧e.ok (A+B)=true∧W=A+B:=by
 obtain⟨lv,rfl,h⟩:=h;obtain⟨m,rfl⟩:=KW h (by simp[aY]);rw[BG hk]at h ⊢;obtain⟨hc,-⟩:=fA h;rw[if_pos hc];exact⟨_,_,⟨m,rfl,hc.1⟩,⟨m,rfl,hc.2.1⟩,hc.2.2.1,hc.2.2.2,rfl⟩
theorem TJ {ws:List Int} {a b:Pn} {W:Int} (h:Wd ws (bY a b) W):Wd ws a W∧Wd ws b W:=by
 obtain⟨lv,rfl,h⟩:=h;obtain⟨m,rfl⟩:=KW h (by simp[bY]);rw[QO]at h ⊢;obtain⟨hc,-⟩:=fA h;rw[if_pos hc];exact⟨⟨m,rfl,hc.1⟩,⟨m,hc.2.symm,hc.1⟩⟩
theorem AE9 {ws:List Int} {a:Pn} {W:Int} (h:Wd ws (.mk 7 0 [] [] [a]) W):Wd ws a W:=by
 obtain⟨lv,rfl,h⟩:=h;obtain⟨m,rfl⟩:=KW h (by simp);rw[KV (by omega)]at h ⊢;obtain⟨hc,h2⟩:=fA h;rw[if_pos hc];refine⟨m,?_,h2⟩;simp[bT]
theorem uR {ws:List Int} {p:Pn} {W:Int} (h:Wd ws p W):∃ lv,Shape ws lv p:=by
 obtain⟨lv,rfl,h⟩:=h;exact⟨lv,sZ h⟩
theorem nA {ws:List Int} {p:Pn} {W:Int} (h:Wd ws p W) (hk:p.kind=2):∃ e a,p=filt e a:=by
 obtain⟨lv,hs⟩:=uR h
 cases hs with
 | filt m e a=>exact⟨e,a,rfl⟩
 | scan|proj|union|dist|group=>simp[Pn.scan,proj,bY]at hk
 | pair m k e a b h1 h2=>simp[aY]at hk;omega
theorem lW {ws:List Int} {p:Pn} {W:Int} (h:Wd ws p W) (hk:p.kind=3):∃ es a,p=proj es a:=by
 obtain⟨lv,hs⟩:=uR h
 cases hs with
 | proj m e a=>exact⟨e,a,rfl⟩
 | scan|filt|union|dist|group=>simp[Pn.scan,filt,bY]at hk
 | pair m k e a b h1 h2=>simp[aY]at hk;omega
theorem gQ {ws:List Int} {p:Pn} {W:Int} (h:Wd ws p W) (hk:p.kind=4∨p.kind=5):∃ e a b,p=aY p.kind e a b:=by
 obtain⟨lv,hs⟩:=uR h
 cases hs with
 | proj|scan|filt|union|dist|group=>simp[Pn.scan,filt,bY,proj]at hk
 | pair m k e a b h1 h2=>exact⟨e,a,b,rfl⟩
theorem AAR {ws:List Int} {p:Pn} {W:Int} (h:Wd ws p W) (hk:p.kind=6):∃ a b,p=bY a b:=by
 obtain⟨lv,hs⟩:=uR h
 cases hs with
 | union m a b=>exact⟨a,b,rfl⟩
 | scan|filt|proj|dist|group=>simp[Pn.scan,filt,proj]at hk
 | pair m k e a b h1 h2=>simp[aY]at hk;omega
theorem AAS {ws:List Int} {p:Pn} {W:Int} (h:Wd ws p W) (hk:p.kind=7):∃ a,p=.mk 7 0 [] [] [a]:=by
 obtain⟨lv,hs⟩:=uR h
 cases hs with
 | dist m a=>exact⟨a,rfl⟩
 | scan|filt|proj|union|group=>simp[Pn.scan,filt,proj,bY]at hk
 | pair m k e a b h1 h2=>simp[aY]at hk;omega
theorem AFJ {ws:List Int} (hw:∀ w∈ws,0≤w∧w≤6) {p:Pn} {W:Int} (h:Wd ws p W):0<W∧W≤6:=by
 obtain⟨lv,rfl,h0⟩:=h;have:=Pn.qF hw p lv;omega
theorem XK {ws:List Int} {rule:Int} {e:Ex} {k q:Pn} {W V:Int} (hp:Wd ws (filt e k) W) (h:rwF ws rule e k=some q) (hq:Wd ws q V):V=W:=by
 obtain⟨hk,he⟩:=fO hp;unfold rwF at h;split at h
 ·rename_i hc;injection h with h;subst h;obtain⟨f,a,rfl⟩:=nA hk hc.2;exact nC (fO hq).1 (fO hk).1
 split at h
 ·injection h with h;subst h;exact nC (fO (fO hq).1).1 hk
 split at h
 ·rename_i hc;injection h with h;subst h;obtain⟨f,a,b,hx⟩:=gQ hk hc.2.1;have h2:=hc.2.1;generalize k.kind=kd at *
  subst hx;obtain⟨A,B,ha,hb,-,-,rfl⟩:=oH h2 hk;obtain⟨A',B',ha',hb',-,-,rfl⟩:=oH h2 hq;rw[nC (fO ha').1 ha,nC hb' hb]
 split at h
 ·rename_i hc;injection h with h;subst h;obtain⟨f,a,b,hx⟩:=gQ hk (.inl hc.2.1);rw[hc.2.1]at hx;subst hx;obtain⟨A,B,ha,hb,-,-,rfl⟩:=oH (by omega) hk;obtain⟨A',B',ha',hb',-,-,rfl⟩:=oH (by omega) hq;rw[nC ha' ha,nC (fO hb').1 hb]
 split at h
 ·rename_i hc;injection h with h;subst h;obtain⟨f,a,b,hx⟩:=gQ hk (.inl hc.2);rw[hc.2]at hx;subst hx;obtain⟨A,B,ha,hb,-,-,rfl⟩:=oH (by omega) hk;obtain⟨A',B',ha',hb',-,-,rfl⟩:=oH (by omega) hq;rw[nC ha' ha,nC hb' hb]
 split at h
 ·rename_i hc;injection h with h;subst h;obtain⟨f,a,b,hx⟩:=gQ hk (.inr hc.2.1);rw[hc.2.1]at hx;subst hx;obtain⟨A,B,ha,hb,-,-,rfl⟩:=oH (by omega) hk;obtain⟨A',B',ha',hb',-,-,rfl⟩:=oH (by omega) (fO hq).1;rw[nC ha' ha,nC hb' hb]
 split at h
 ·rename_i hc;injection h with h;subst h;obtain⟨a,b,rfl⟩:=AAR hk hc.2;exact nC (fO (TJ hq).1).1 (TJ hk).1
 split at h
 ·rename_i hc;injection h with h;subst h;obtain⟨es,a,rfl⟩:=lW hk hc.2;obtain⟨A,-,-,-,rfl⟩:=sP hk;obtain⟨B,-,-,-,rfl⟩:=sP hq;rfl
 ·cases h
theorem M5 {ws:List Int} (hw:∀ w∈ws,0≤w∧w≤6) {rule:Int} {p q:Pn} {W V:Int} (hp:Wd ws p W) (h:rwP ws rule p=some q) (h8:p.wd ws 8≠0) (hq:Wd ws q V):V=W:=by
 unfold rwP at h;split at h
 ·rename_i hc;obtain⟨e,a,rfl⟩:=nA hp hc;exact XK hp h hq
 split at h
 ·rename_i hc;injection h with h;subst h;obtain⟨f,a,b,hx⟩:=gQ hp (.inl hc.2);rw[hc.2]at hx;subst hx;obtain⟨A,B,ha,hb,hab,-,rfl⟩:=oH (by omega) hp;obtain⟨C,hC,-,-,rfl⟩:=sP hq;have h7:=h8;rw[BG (by omega)]at h7;obtain⟨⟨g1,g2,-⟩,-⟩:=fA h7;have e1:a.wd ws 8=A:=by rw[Pn.gN a 7 8 g1 (by omega)];exact AEA ha g1
  have e2:b.wd ws 8=B:=by rw[Pn.gN b 7 8 g2 (by omega)];exact AEA hb g2
  have:=AFJ hw ha;have:=AFJ hw hb;simp[aY,Pn.gJ,Pn.mR,e1,e2];omega
 split at h
 ·rename_i hc;injection h with h;subst h;obtain⟨a,rfl⟩:=AAS hp hc.2.1;exact nC hq (AE9 hp)
 split at h
 ·rename_i hc;injection h with h;subst h;obtain⟨es,a,rfl⟩:=lW hp hc.2.1;obtain⟨A,-,-,-,rfl⟩:=sP hp;obtain⟨B,-,-,-,rfl⟩:=sP hq;simp[proj]
 ·cases h
def Pn.at:List Int→Pn→Option Pn
 | [],p=>some p
 | i::r,p=>if 0≤i then(p.kids[i.toNat]?).bind (Pn.at r)else none
def Pn.put:List Int→Pn→Pn→Pn
 | [],_,q=>q
 | i::r,p,q=>.mk p.kind p.table p.exprs p.cols (p.kids.set i.toNat (Pn.put r ((p.kids[i.toNat]?).getD Pn.zero) q))
theorem Pn.oD {i:Int} {r:List Int} {p a:Pn} (h:Pn.at (i::r) p=some a):∃ n:Nat,i=n∧∃ b,p.kids[n]?=some b∧Pn.at r b=some a:=by
 unfold Pn.at at h;split at h
 ·rename_i h0;obtain⟨n,rfl⟩:=zB h0
  cases hb:p.kids[n]? with
  | none=>simp[hb]at h
  | some b=>exact⟨n,rfl,b,hb,by simpa [hb]using h⟩
 ·cases h
theorem Pn.AP {n:Nat} {r:List Int} {p b:Pn} (q:Pn) (h:p.kids[n]?=some b):Pn.put ((n:Int)::r) p q=.mk p.kind p.table p.exprs p.cols (p.kids.set n (Pn.put r b q)):=by
 simp[Pn.put,h]
theorem ABJ {ws:List Int} {lv:Nat} {k t:Int} {es:List Ex} {cs:List Int} {ks ls:List Pn} (h:ks.map (Pn.wd ws (lv-1))=ls.map (Pn.wd ws (lv-1))):(Pn.mk k t es cs ks).wd ws lv=(Pn.mk k t es cs ls).wd ws lv:=by
 have hl:ks.length=ls.length:=by have:=congrArg List.length h;simpa using this
 have hn:ks=[]↔ls=[]:=by rw[← List.length_eq_zero_iff,← List.length_eq_zero_iff,hl]
 have ho:(Pn.mk k t es cs ks).headOk=(Pn.mk k t es cs ls).headOk:=by simp[Pn.headOk,hl];congr
 simp only[Pn.wd,Pn.OI,h,ho,hn]
theorem O3 {ws:List Int}:∀ (path:List Int) (p:Pn) (lv:Nat) (a:Pn),p.wd ws lv≠0→Pn.at path p=some a→path.length≤lv∧a.wd ws (lv-path.length)≠0
 | [],p,lv,a,h,e=>by simp[Pn.at]at e;subst e;exact⟨by simp,by simpa using h⟩
 | i::r,p,lv,a,h,e=>by
  obtain⟨n,rfl,b,hb,hr⟩:=Pn.oD e;obtain⟨m,rfl⟩:=KW h (fun e=>by rw[e]at hb;simp at hb);rw[Pn.tC]at h;obtain⟨hc,h⟩:=fA h
  have hbw:b.wd ws m≠0:=by
   by_cases h1:p.kind=1
   ·have:=Pn.rW hc.1 h1;rw[this]at hb;simp at hb
   ·simp only[h1,if_false]at h;obtain⟨hall,-⟩:=fA h;simpa using zR.1 hall b (zV hb)
  have:=O3 r b m a hbw hr;simp only[zO];exact⟨by omega,by rw[show m+1-(r.length+1)=m-r.length by omega];exact this.2⟩
theorem AEZ {q:Pn}:∀ (path:List Int) (p a:Pn),Pn.at path p=some a→Pn.at path (Pn.put path p q)=some q
 | [],p,a,e=>by simp[Pn.at,Pn.put]
 | i::r,p,a,e=>by
  obtain⟨n,rfl,b,hb,hr⟩:=Pn.oD e;have hl:=(zZ.1 hb).1;rw[Pn.AP q hb];have:=AEZ (q:=q) r b a hr;simp[Pn.at,hl,this]
theorem Y2 {ws:List Int} {q:Pn}:∀ (path:List Int) (p:Pn) (lv:Nat) (a:Pn),path.length≤lv→Pn.at path p=some a→q.wd ws (lv-path.length)=a.wd ws (lv-path.length)→(Pn.put path p q).wd ws lv=p.wd ws lv
 | [],p,lv,a,_,e,h=>by simp[Pn.at]at e;subst e;simpa [Pn.put]using h
 | i::r,p,lv,a,hl,e,h=>by
  obtain⟨n,rfl,b,hb,hr⟩:=Pn.oD e;rw[Pn.AP q hb];simp only[zO]at hl h;have:=Y2 (q:=q) r b (lv-1) a (by omega) hr (by rw[show lv-1-r.length=lv-(r.length+1)by omega];exact h);obtain⟨k,t,es,cs,ks⟩:=p;apply ABJ;simp only[Pn.iV]at hb ⊢;rw[List.map_set,this];apply List.ext_getElem?;intro j;rw[List.getElem?_set];split
  ·rename_i hj;subst hj;have hlt:=(zZ.1 hb).1;rw[zY hlt]at hb;injection hb with hb;simp[hb,hlt]
  ·rfl
def apI (ws:List Int) (rule:Int) (path:List Int) (p:Pn):Option Pn :=
 if path.length≤8 then(Pn.at path p).bind fun a=>(rwL ws rule (8-path.length) a).map (Pn.put path p)else none
def apS (ws:List Int) (rule:Int) (path:List Int) (p:Pn):Option Pn :=
 (Pn.at path p).bind fun a=>(rwP ws rule a).bind fun q=>if(Pn.put path p q).wd ws 8≠0 then some (Pn.put path p q)else none
theorem AIG {ws:List Int} (hw:∀ w∈ws,0≤w∧w≤6) {rule:Int} {path:List Int} {p:Pn} (hp:p.wd ws 8≠0):apI ws rule path p=apS ws rule path p:=by
 unfold apI apS
 cases ha:Pn.at path p with
 | none=>simp
 | some a =>
  obtain⟨hl,hv⟩:=O3 path p 8 a hp ha;simp only[hl,if_true,yU];unfold rwL
  cases hr:rwP ws rule a with
  | none=>simp
  | some q =>
   simp only[yU];have h8:a.wd ws 8≠0:=by rw[Pn.gN a _ 8 hv (by omega)];exact hv
   by_cases hq:q.wd ws (8-path.length)=0
   ·have:(Pn.put path p q).wd ws 8=0:=by
     by_cases h0:(Pn.put path p q).wd ws 8=0
     ·exact h0
     ·exact absurd hq (O3 path _ 8 q h0 (AEZ path p a ha)).2
    simp[hq,this]
   ·have e:=M5 hw (kG hv) hr h8 (kG hq);have:(Pn.put path p q).wd ws 8=p.wd ws 8:=Y2 path p 8 a hl ha e;simp[hq,this,hp]
theorem AMI {ws:List Int} (hw:∀ w∈ws,0≤w∧w≤6) {rule:Int} {path:List Int} {p q:Pn} (hp:p.wd ws 8≠0) (h:apS ws rule path p=some q):q.wd ws 8=p.wd ws 8:=by
 rw[← AIG hw hp]at h;unfold apI at h;split at h
 ·rename_i hl
  cases ha:Pn.at path p with
  | none=>simp[ha]at h
  | some a =>
   obtain⟨-,hv⟩:=O3 path p 8 a hp ha;simp only[ha,yU,rwL]at h
   cases hr:rwP ws rule a with
   | none=>simp[hr]at h
   | some x =>
    have h8:a.wd ws 8≠0:=by rw[Pn.gN a _ 8 hv (by omega)];exact hv
    simp only[hr,yU]at h;by_cases hq:x.wd ws (8-path.length)=0
    ·simp[hq]at h
    ·simp only[hq,ne_eq,not_false_eq_true,if_true,xD,Option.some.injEq]at h;subst h;exact Y2 path p 8 a hl ha (M5 hw (kG hv) hr h8 (kG hq))
 ·cases h
def rules:List Int:=[1,2,3,4,5,6,7,8,9,10,11]
abbrev Stp:=Int×List Int
def atS (ws:List Int) (p:Pn) (path:List Int):List Stp:=(rules.filter fun r=>(apS ws r path p).isSome).map fun r=>(r,path)
theorem uO:∀ (path:List Int) (p a:Pn) (r:List Int),Pn.at path p=some a→Pn.at (path++r) p=Pn.at r a
 | [],p,a,r,e=>by simp[Pn.at]at e;subst e;rfl
 | i::s,p,a,r,e=>by
  obtain⟨n,rfl,b,hb,hr⟩:=Pn.oD e;have:=uO s b a r hr;simp[Pn.at,hb,this]
theorem AC8 {ws:List Int} {rule:Int} {e:Ex} {k q:Pn} (h:rwF ws rule e k=some q):rule∈rules:=by
 unfold rwF at h;unfold rules;split at h
 ·rename_i hc;simp[hc.1]
 split at h
 ·rename_i hc;simp[hc.1]
 split at h
 ·rename_i hc;simp[hc.1]
 split at h
 ·rename_i hc;simp[hc.1]
 split at h
 ·rename_i hc;simp[hc.1]
 split at h
 ·rename_i hc;simp[hc.1]
 split at h
 ·rename_i hc;simp[hc.1]
 split at h
 ·rename_i hc;simp[hc.1]
 ·cases h
theorem AC5 {ws:List Int} {rule:Int} {p q:Pn} (h:rwP ws rule p=some q):rule∈rules:=by
 unfold rwP at h;split at h
 ·exact AC8 h
 unfold rules;split at h
 ·rename_i hc;simp[hc.1]
 split at h
 ·rename_i hc;simp[hc.1]
 split at h
 ·rename_i hc;simp[hc.1]
 ·cases h
mutual
def Ex.bits:Ex→Nat
 | .mk k c _ ks=>if k=1 then 2 ^ c.toNat else Ex.o8 ks
def Ex.o8:List Ex→Nat
 | []=>0
 | e::es=>Ex.bits e ||| Ex.o8 es
end
theorem Ex.KA {e:Ex} (h:e.kind=1):e.bits=2 ^ e.col.toNat:=by
 cases e;simp[Ex.kind]at h;simp[Ex.bits,h,Ex.col]
theorem Ex.K8 {e:Ex} (h:e.kind≠1):e.bits=Ex.o8 e.kids:=by
 cases e;simp[Ex.kind]at h;simp[Ex.bits,h,Ex.kids]
theorem Ex.vT:∀ (l:List Ex) (e:Ex),Ex.o8 (l++[e])=Ex.o8 l ||| e.bits
 | [],e=>by simp[Ex.o8]
 | a::l,e=>by simp[Ex.o8,Ex.vT l e,Nat.or_assoc]
theorem Ex.KC {n:Nat}:∀ {l:List Ex},(∀ e∈l,e.bits<2 ^ n)→Ex.o8 l<2 ^ n
 | [],_=>by simp[Ex.o8];exact Nat.two_pow_pos n
 | a::l,h=>by
  simp only[Ex.o8];exact xX (h a (by simp)) (Ex.KC fun e he=>h e (by simp[he]))
theorem Ex.K9:∀ e:Ex,e.qX (fun c=>decide (0≤c∧c<6))=true→e.bits<2 ^ 6:=by
 intro e
 induction e using Ex.ind with
 | h k c v ks ih =>
  intro ha;rw[Ex.jS]at ha;by_cases h1:k=1
  ·subst h1;simp only[Ex.kind,Ex.col,if_true]at ha;have ha:=zS ha;rw[Ex.KA (by rfl)];exact Nat.pow_lt_pow_right (by omega) (by simp only[Ex.col];omega)
  ·simp only[Ex.kind,Ex.kids,h1,if_false,zR]at ha;rw[Ex.K8 (by simpa [Ex.kind]using h1)];exact Ex.KC fun e he=>ih e he (ha e he)
theorem Ex.NZ (i:Nat):∀ l:List Ex,(Ex.o8 l).testBit i=l.any fun e=>e.bits.testBit i
 | []=>by simp[Ex.o8]
 | a::l=>by simp[Ex.o8,Ex.NZ i l]
theorem Ex.BA (i:Nat):∀ e:Ex,e.qX (fun c=>decide (0≤c))=true→(e.bits.testBit i=true↔e.qX (fun c=>!decide (c=i))=false):=by
 intro e
 induction e using Ex.ind with
 | h k c v ks ih =>
  intro ha;rw[Ex.jS]at ha ⊢;by_cases h1:k=1
  ·subst h1;simp only[Ex.kind,Ex.col,if_true]at ha ⊢;have ha:=zS ha;rw[Ex.KA (by rfl),Nat.testBit_two_pow];simp only[Ex.col];rw[Bool.not_eq_false'];exact⟨fun h=>decide_eq_true (by have:=zS h;omega),fun h=>decide_eq_true (by have:=zS h;omega)⟩
  ·simp only[Ex.kind,Ex.kids,h1,if_false,zR]at ha ⊢;rw[Ex.K8 (by simpa [Ex.kind]using h1),Ex.NZ];simp only[Ex.kids,List.any_eq_true];rw[List.all_eq_false];constructor
   ·rintro⟨e,he,hb⟩;exact⟨e,he,by rw[(ih e he (ha e he)).1 hb];simp⟩
   ·rintro⟨e,he,hb⟩;exact⟨e,he,(ih e he (ha e he)).2 (by simpa using hb)⟩
theorem Ex.EW {f:Int→Bool}:∀ e:Ex,e.qX (fun c=>decide (0≤c))=true→(e.qX f=true↔∀ i:Nat,e.qX (fun c=>!decide (c=i))=false→f i=true):=by
 intro e
 induction e using Ex.ind with
 | h k c v ks ih =>
  intro ha;rw[Ex.jS]at ha ⊢;by_cases h1:k=1
  ·subst h1;simp only[Ex.kind,Ex.col,if_true]at ha ⊢;have ha:=zS ha;obtain⟨n,rfl⟩:=zB ha;constructor
   ·intro h i hi;rw[Ex.jS]at hi;simp only[Ex.kind,Ex.col,if_true]at hi;rw[Bool.not_eq_false']at hi;have hi:=zS hi;rw[← hi];exact h
   ·intro h;apply h n;rw[Ex.jS];simp[Ex.kind,Ex.col]
  ·simp only[Ex.kind,Ex.kids,h1,if_false,zR]at ha ⊢
   have hall:∀ i:Nat,Ex.qX (fun c=>!decide (c=i)) (.mk k c v ks)=ks.all (Ex.qX fun c=>!decide (c=i)):=fun i=>by
    rw[Ex.jS];simp[Ex.kind,Ex.kids,h1]
   constructor
   ·intro h i hi;rw[hall,List.all_eq_false]at hi;obtain⟨e,he,hb⟩:=hi;exact(ih e he (ha e he)).1 (h e he) i (by simpa using hb)
   ·intro h e he;refine(ih e he (ha e he)).2 fun i hi=>h i ?_
    rw[hall,List.all_eq_false];exact⟨e,he,by simp[hi]⟩
theorem AI9 {e:Ex} (h:e.qX (fun c=>decide (0≤c))=true) (w:Nat):e.bits / 2 ^ w=0↔e.qX (fun c=>decide (c<w))=true:=by
 rw[Ex.EW e h];constructor
 ·intro h0 i hi;have hb:=(Ex.BA i e h).2 hi;simp only[zP];apply Classical.byContradiction;intro hn
  have:(e.bits / 2 ^ w).testBit (i-w)=true:=by
   rw[Nat.testBit_div_two_pow,show i-w+w=i by omega];exact hb
  rw[h0]at this;simp at this
 ·intro hall;apply Nat.eq_of_testBit_eq;intro i;rw[Nat.testBit_div_two_pow,Nat.zero_testBit]
  cases hb:e.bits.testBit (i+w)with
  | false=>rfl
  | true =>
   have:=hall (i+w) ((Ex.BA (i+w) e h).1 hb);simp only[zP]at this;omega
theorem AI8 {e:Ex} (h:e.qX (fun c=>decide (0≤c))=true) (w:Nat):e.bits &&& (2 ^ w-1)=0↔e.qX (fun c=>decide ((w:Int)≤c))=true:=by
 rw[Ex.EW e h];constructor
 ·intro h0 i hi;have hb:=(Ex.BA i e h).2 hi;simp only[zP];apply Classical.byContradiction;intro hn
  have:(e.bits &&& (2 ^ w-1)).testBit i=true:=by
   rw[Nat.testBit_and,hb,Nat.testBit_two_pow_sub_one];simp;omega
  rw[h0]at this;simp at this
 ·intro hall;apply Nat.eq_of_testBit_eq;intro i;rw[Nat.testBit_and,Nat.zero_testBit,Nat.testBit_two_pow_sub_one]
  cases hb:e.bits.testBit i with
  | false=>rfl
  | true =>
   have:=hall i ((Ex.BA i e h).1 hb);simp only[zP]at this;simp;omega
def Pn.small (p:Pn):Prop:=p.size<1000000000∧p.thin∧p.tiny
noncomputable def NK:List AV→StL→Option (AV×StL)
 | [.i (.iref cs)],[]=>@ite _ (∃ p:Pn,p.small∧p.cells=cs) (Classical.propDecidable _) (some (.i (.agg cs),[])) none
 | _,_=>none
theorem SK {p:Pn} (h:p.small):NK [.i (.iref p.cells)] []=some (.i (.agg p.cells),[]):=by
 unfold NK;exact if_pos ⟨p,h,rfl⟩
theorem VF {args:List AV} {st:StL} {r:AV×StL} (h:NK args st=some r):∃ p:Pn,p.small∧args=[.i (.iref p.cells)]∧st=[]∧r=(.i (.agg p.cells),[]):=by
 unfold NK at h;split at h
 ·rename_i cs;by_cases hc:∃ p:Pn,p.small∧p.cells=cs
  ·rw[if_pos hc]at h;obtain⟨p,h1,rfl⟩:=hc;injection h with h;exact⟨p,h1,rfl,rfl,h.symm⟩
  ·rw[if_neg hc]at h;cases h
 ·cases h
abbrev PL:=List ((Nat×Nat)×Pn)
structure At5 (w:World) (b o:Nat) (v0 v1 v2 v3 v4:Value):Prop where
 c0:w.cell? ⟨b,o,none⟩=some v0
 c1:w.cell? ⟨b,o+1,none⟩=some v1
 c2:w.cell? ⟨b,o+2,none⟩=some v2
 c3:w.cell? ⟨b,o+3,none⟩=some v3
 c4:w.cell? ⟨b,o+4,none⟩=some v4
theorem At5.frame {w w':World} {b o:Nat} {v0 v1 v2 v3 v4:Value} (h:At5 w b o v0 v1 v2 v3 v4) (hw:∀ j,o≤j→j<o+5→w'.cell? ⟨b,j,none⟩=w.cell? ⟨b,j,none⟩):At5 w' b o v0 v1 v2 v3 v4 :=
 ⟨(hw _ (by omega) (by omega)).trans h.c0,(hw _ (by omega) (by omega)).trans h.c1,(hw _ (by omega) (by omega)).trans h.c2,(hw _ (by omega) (by omega)).trans h.c3,(hw _ (by omega) (by omega)).trans h.c4⟩
mutual
inductive TH (w:World) (m:Mem):Pn→Nat→Nat→List Nat→PL→Prop
 | fresh {x:Pn} {b o:Nat} {v0 v1 v2 v3 v4:Value}:ICells m x.cells [v0,v1,v2,v3,v4]→At5 w b o v0 v1 v2 v3 v4→TH w m x b o [] [((b,o),x)]
 | leaf {k t:Int} {es:List Ex} {cs:List Int} {b o:Nat} {vE vC:Value} {ao:Option Addr} {cap:Nat}:At5 w b o (.int .i64 k) (.int .i64 t) vE vC (.slice ao 0 cap)→IRep m (.isl (Ex.aB es)) vE→IRep m (.isl (aF cs)) vC→(ao=none→cap=0)→TH w m (.mk k t es cs []) b o [] []
 | node {k t:Int} {es:List Ex} {cs:List Int} {ks:List Pn} {b o b' cap:Nat} {vE vC:Value} {F:List Nat} {H:PL}:At5 w b o (.int .i64 k) (.int .i64 t) vE vC (.slice (some ⟨b',0,none⟩) ks.length cap)→IRep m (.isl (Ex.aB es)) vE→IRep m (.isl (aF cs)) vC→ks≠[]→ks.length≤cap→THL w m ks b' 0 F H→TH w m (.mk k t es cs ks) b o (b'::F) H
inductive THL (w:World) (m:Mem):List Pn→Nat→Nat→List Nat→PL→Prop
 | nil (b o:Nat):THL w m [] b o [] []
 | cons {x:Pn} {xs:List Pn} {b o:Nat} {F1 F2:List Nat} {H1 H2:PL}:TH w m x b o F1 H1→THL w m xs b (o+5) F2 H2→THL w m (x::xs) b o (F1++F2) (H1++H2)
end
mutual
theorem TH.frame {w w':World} {m m':Mem} (hm:MLe m m') {x:Pn} {b o:Nat} {F:List Nat} {H:PL} (hw:∀ j,o≤j→j<o+5→w'.cell? ⟨b,j,none⟩=w.cell? ⟨b,j,none⟩) (hF:∀ f∈F,∀ j,w'.cell? ⟨f,j,none⟩=w.cell? ⟨f,j,none⟩):TH w m x b o F H→TH w' m' x b o F H
 | .fresh h1 h2=>.fresh (h1.mono hm) (h2.frame hw)
 | .leaf h1 h2 h3 h4=>.leaf (h1.frame hw) (h2.mono hm) (h3.mono hm) h4
 | .node h1 h2 h3 h4 h5 h6=>.node (h1.frame hw) (h2.mono hm) (h3.mono hm) h4 h5 (THL.frame hm (fun j _ _=>hF _ (by simp) j) (fun f hf=>hF f (by simp[hf])) h6)
theorem THL.frame {w w':World} {m m':Mem} (hm:MLe m m') {xs:List Pn} {b o:Nat} {F:List Nat} {H:PL} (hw:∀ j,o≤j→j<o+5*xs.length→w'.cell? ⟨b,j,none⟩=w.cell? ⟨b,j,none⟩) (hF:∀ f∈F,∀ j,w'.cell? ⟨f,j,none⟩=w.cell? ⟨f,j,none⟩):THL w m xs b o F H→THL w' m' xs b o F H
 | .nil b o=>.nil b o
 | .cons h1 h2=>.cons (TH.frame hm (fun j l1 l2=>hw j l1 (by simp only[zO];omega)) (fun f hf=>hF f (by simp[hf])) h1) (THL.frame hm (fun j l1 l2=>hw j (by omega) (by simp only[zO];omega)) (fun f hf=>hF f (by simp[hf])) h2)
end
mutual
theorem TH.holes {w:World} {m:Mem} {x:Pn} {b o:Nat} {F:List Nat} {H:PL}:TH w m x b o F H→∀ q∈H,q.1=(b,o)∨q.1.1∈F
 | .fresh _ _,q,hq=>by simp at hq;subst hq;exact .inl rfl
 | .leaf _ _ _ _,q,hq=>by simp at hq
 | .node _ _ _ _ _ h6,q,hq=>by
  rcases THL.holes h6 q hq with ⟨h,_⟩|h
  ·exact .inr (by simp[h])
  ·exact .inr (by simp[h])
theorem THL.holes {w:World} {m:Mem} {xs:List Pn} {b o:Nat} {F:List Nat} {H:PL}:THL w m xs b o F H→∀ q∈H,(q.1.1=b∧o≤q.1.2)∨q.1.1∈F
 | .nil _ _,q,hq=>by simp at hq
 | .cons h1 h2,q,hq=>by
  rcases zT.1 hq with h|h
  ·rcases TH.holes h1 q h with e|e
   ·exact .inl ⟨by rw[e],by rw[e];exact zN _⟩
   ·exact .inr (by simp[e])
  ·rcases THL.holes h2 q h with ⟨e1,e2⟩|e
   ·exact .inl ⟨e1,by omega⟩
   ·exact .inr (by simp[e])
end
mutual
theorem TH.fill {w w':World} {m m':Mem} (hm:MLe m m') {bq oq:Nat} {y:Pn} {G:List Nat} {HY:PL} (hy:TH w' m' y bq oq G HY) {x:Pn} {b o:Nat} {F:List Nat} {H:PL}:TH w m x b o F H→b ∉ F→F.Nodup→((bq,oq),y)∈H →
 (∀ f∈b::F,∀ j,(f≠bq∨j<oq∨oq+5≤j)→w'.cell? ⟨f,j,none⟩=w.cell? ⟨f,j,none⟩)→∃ F' H',TH w' m' x b o F' H'∧F'.Perm (F++G)∧(((bq,oq),y)::H').Perm (H++HY)
 | .fresh _ _,_,_,hq,_=>by
  simp at hq;obtain⟨⟨rfl,rfl⟩,rfl⟩:=hq;exact⟨G,HY,hy,by simp,by simp⟩
 | .leaf _ _ _ _,_,_,hq,_=>by simp at hq
 | .node h1 h2 h3 h4 h5 h6,hb,hn,hq,hw=>by
  rename_i b' cap vE vC F;have hb':b' ∉ F:=(yR.1 hn).1
  have hne:b≠bq:=by
   intro e
   rcases THL.holes h6 _ hq with ⟨e1,_⟩|e1
   ·exact hb (by simp at e1;simp[e,e1])
   ·exact hb (by simp at e1;simp[e,e1])
  obtain⟨F',H',k1,k2,k3⟩:=THL.fill hm hy h6 hb' (yR.1 hn).2 hq (fun f hf j hj=>hw f (by rcases zQ.1 hf with rfl|h<;>simp[*]) j hj);exact⟨b'::F',H', .node (h1.frame fun j _ _=>hw b (by simp) j (.inl hne)) (h2.mono hm) (h3.mono hm) h4 h5 k1,k2.cons _,k3⟩
theorem THL.fill {w w':World} {m m':Mem} (hm:MLe m m') {bq oq:Nat} {y:Pn} {G:List Nat} {HY:PL} (hy:TH w' m' y bq oq G HY) {xs:List Pn} {b o:Nat} {F:List Nat} {H:PL}:THL w m xs b o F H→b ∉ F→F.Nodup→((bq,oq),y)∈H →
 (∀ f∈b::F,∀ j,(f≠bq∨j<oq∨oq+5≤j)→w'.cell? ⟨f,j,none⟩=w.cell? ⟨f,j,none⟩)→∃ F' H',THL w' m' xs b o F' H'∧F'.Perm (F++G)∧(((bq,oq),y)::H').Perm (H++HY)
 | .nil _ _,_,_,hq,_=>by simp at hq
 | .cons (F1:=F1) (F2:=F2) (H1:=H1) (H2:=H2) h1 h2,hb,hn,hq,hw=>by
  have hb1:b ∉ F1:=fun h=>hb (by simp[h])
  have hb2:b ∉ F2:=fun h=>hb (by simp[h])
  obtain⟨n1,n2,n3⟩:=yT.1 hn
  rcases zT.1 hq with h|h
  ·obtain⟨F',H',k1,k2,k3⟩:=TH.fill hm hy h1 hb1 n1 h (fun f hf j hj=>hw f (by rcases zQ.1 hf with rfl|h<;>simp[*]) j hj);refine⟨F'++F2,H'++H2, .cons k1 (THL.frame hm (fun j l1 l2=>hw b (by simp) j ?_) (fun f hf j=>hw f (by simp[hf]) j (.inl ?_)) h2),?_,?_⟩
   ·rcases TH.holes h1 _ h with e|e
    ·simp at e;exact .inr (.inr (by omega))
    ·exact .inl fun e2=>hb1 (by simp at e;rw[e2];exact e)
   ·rcases TH.holes h1 _ h with e|e
    ·simp at e;intro e2;rw[e2,e.1]at hf;exact hb2 hf
    ·simp at e;intro e2;rw[e2]at hf;exact n3 _ e _ hf rfl
   ·have:=k2.append_right F2;refine this.trans ?_;rw[yL,yL];exact(List.perm_append_comm (l₁:=G) (l₂:=F2)).append_left F1
   ·have:=k3.append_right H2;rw[yD]at this;refine this.trans ?_;rw[yL,yL];exact(List.perm_append_comm (l₁:=HY) (l₂:=H2)).append_left H1
  ·obtain⟨F',H',k1,k2,k3⟩:=THL.fill hm hy h2 hb2 n2 h (fun f hf j hj=>hw f (by rcases zQ.1 hf with rfl|h<;>simp[*]) j hj);refine⟨F1++F',H1++H', .cons (TH.frame hm (fun j l1 l2=>hw b (by simp) j ?_) (fun f hf j=>hw f (by simp[hf]) j (.inl ?_)) h1) k1,?_,?_⟩
   ·rcases THL.holes h2 _ h with ⟨e1,e2⟩|e
    ·simp at e2;exact .inr (.inl (by omega))
    ·exact .inl fun e2=>hb2 (by simp at e;rw[e2];exact e)
   ·rcases THL.holes h2 _ h with ⟨e1,_⟩|e
    ·simp at e1;intro e2;rw[e2,e1]at hf;exact hb1 hf
    ·simp at e;intro e2;rw[e2]at hf;exact n3 _ hf _ e rfl
   ·rw[yL];exact k2.append_left F1
   ·rw[yL];refine List.perm_middle.symm.trans ?_;exact k3.append_left H1
end
mutual
theorem TH.iat {w:World} {m m':Mem} (hm:MLe m m') {x:Pn} {b o:Nat} {F:List Nat}:TH w m x b o F []→(∀ j,o≤j→j<o+5→m' b j=w.cell? ⟨b,j,none⟩)→(∀ f∈F,∀ j,m' f j=w.cell? ⟨f,j,none⟩)→IAt m' b o x.cells
 | .leaf h1 h2 h3 h4,hb,hF=>by
  rw[Pn.dP];have o2:(∀ es v,IRep m (.isl es) v→v.oneCell'=true):=fun es v h=>by cases h<;>rfl
  exact .cons ((hb _ (by omega) (by omega)).trans h1.c0) (.lit _) rfl (.cons ((hb _ (by omega) (by omega)).trans h1.c1) (.lit _) rfl (.cons ((hb _ (by omega) (by omega)).trans h1.c2) (h2.mono hm) (o2 _ _ h2) (.cons ((hb _ (by omega) (by omega)).trans h1.c3) (h3.mono hm) (o2 _ _ h3) (.cons ((hb _ (by omega) (by omega)).trans h1.c4) (.isl0 _ _ h4) rfl (.nil _ _)))))
 | .node h1 h2 h3 h4 h5 h6,hb,hF=>by
  rename_i ks b' cap vE vC F;rw[Pn.dP];have o2:(∀ es v,IRep m (.isl es) v→v.oneCell'=true):=fun es v h=>by cases h<;>rfl
  have he:=THL.iel hm h6 (fun j _ _=>hF b' (by simp) j) (fun f hf=>hF f (by simp[hf]));have hl:(Pn.aB ks).length=ks.length:=by simp
  have hn:Pn.aB ks≠[]:=fun e=>by rw[e]at hl;simp at hl;exact h4 (zX.1 hl.symm)
  have hk:IRep m' (.isl (Pn.aB ks)) (.slice (some ⟨b',0,none⟩) ks.length cap):=by
   have:=IRep.isl (cap:=cap) hn he (by omega)
   rwa [hl]at this
  exact .cons ((hb _ (by omega) (by omega)).trans h1.c0) (.lit _) rfl (.cons ((hb _ (by omega) (by omega)).trans h1.c1) (.lit _) rfl (.cons ((hb _ (by omega) (by omega)).trans h1.c2) (h2.mono hm) (o2 _ _ h2) (.cons ((hb _ (by omega) (by omega)).trans h1.c3) (h3.mono hm) (o2 _ _ h3) (.cons ((hb _ (by omega) (by omega)).trans h1.c4) hk rfl (.nil _ _)))))
theorem THL.iel {w:World} {m m':Mem} (hm:MLe m m') {xs:List Pn} {b o:Nat} {F:List Nat}:THL w m xs b o F []→(∀ j,o≤j→j<o+5*xs.length→m' b j=w.cell? ⟨b,j,none⟩)→(∀ f∈F,∀ j,m' f j=w.cell? ⟨f,j,none⟩)→IElems m' b o 5 (Pn.aB xs)
 | h,hb,hF=>by
  generalize hH:([]:PL)=H at h
  cases h with
  | nil b o=>simp only[Pn.aB];exact .nil b o 5
  | cons h1 h2 =>
   obtain⟨e1,e2⟩:=List.append_eq_nil_iff.1 hH.symm;subst e1;subst e2;simp only[Pn.aB];exact .cons (TH.iat hm h1 (fun j l1 l2=>hb j l1 (by simp only[zO];omega)) (fun f hf=>hF f (by simp[hf]))) (Pn.d9 _) (THL.iel hm h2 (fun j l1 l2=>hb j (by omega) (by simp only[zO];omega)) (fun f hf=>hF f (by simp[hf])))
end
def ABD (R:World→Mem→Pl→Prop):Prop:=∀ w m φ w' m' φ',Adv w m φ w' m' φ'→R w m φ→R w' m' φ'
structure GR (wi:World) (mi:Mem) (nt:Nat) (ok:Nat→Prop) (R:World→Mem→Pl→Prop) (env:Nat→AV) (st:Store) (a:Act) (w:World):Prop where
 out:∃ m φ,Inv w m φ st∧(∀ t,Rep m φ (env t) (a.tmps.getD t undef))∧Adv wi mi (fun _=>none) w m φ∧(∀ id,φ id≠none→ok id)∧R w m φ
 size:nt≤a.tmps.size
 defers:a.defers=[]
section
variable {C:Ctx} {wi:World} {mi:Mem} {nt:Nat}
theorem GR.fC (hS:SoundOk C) {G:List Nat} {c:Code} {S S':AS} {e:AExit} {a:Act} {w:World} {R:World→Mem→Pl→Prop} (hR:ABD R) (hc:codeOk nt c=true) (hx:eT C G S.st.length c S=some (e,S')) (h:GR wi mi nt (fun id=>id<S.st.length) R (aT S.env) (bD S.st) a w) (hnr:bL c=true:=by rfl) :
 c.wp C.P (fun e' a' w'=>e'=kX e∧GR wi mi nt (fun id=>id<S'.st.length) R (aT S'.env) (bD S'.st) a' w') a w:=by
 obtain⟨n,hn⟩:=(dC _).1 hx;obtain⟨⟨m,φ,h1,h2,h3,h4,h5⟩,h6,h7⟩:=h;refine wpIn_wide.1 (wpIn_mono (bQ (ρ:=none) hS.ctx (bF hS) (hS.draw _ (bF hS)) h4 n c S S' e [] a w hc (.inl rfl) hn ⟨⟨⟨m,φ,h1,h2, .refl _ _ _,h4, .nil _ _ _⟩,h6,h7⟩,zN _⟩) ?_);rintro e' a' w' ⟨rfl,ds,k,kd⟩;have kd:=kd hnr;subst kd;obtain⟨⟨⟨m',φ',k1,k2,k3,k4,_⟩,k5,k6⟩,_⟩:=k;exact⟨rfl,⟨⟨m',φ',k1,k2,h3.trans k3,k4,hR _ _ _ _ _ _ k3 h5⟩,k5,k6⟩⟩
theorem GR.turn {ok ok':Nat→Prop} {R R':World→Mem→Pl→Prop} {env env':Nat→AV} {st st':Store} {a:Act} {w:World} (h:GR wi mi nt ok R env st a w)
 (f:∀ m φ,Inv w m φ st→(∀ t,Rep m φ (env t) (a.tmps.getD t undef))→Adv wi mi (fun _=>none) w m φ→(∀ id,φ id≠none→ok id)→R w m φ →
  ∃ m' φ',Inv w m' φ' st'∧(∀ t,Rep m' φ' (env' t) (a.tmps.getD t undef))∧Adv wi mi (fun _=>none) w m' φ'∧(∀ id,φ' id≠none→ok' id)∧R' w m' φ'):GR wi mi nt ok' R' env' st' a w:=by
 obtain⟨⟨m,φ,h1,h2,h3,h4,h5⟩,h6,h7⟩:=h;exact⟨f m φ h1 h2 h3 h4 h5,h6,h7⟩
def sU (st':Store) (φ:Pl):Pl:=fun i=>match st' i with
 | some _=>φ i
 | none=>none
theorem dJ {st':Store} {φ:Pl} {i:Nat} {p:Nat×Ext} (h:sU st' φ i=some p):φ i=some p∧st' i≠none:=by
 unfold sU at h
 cases e:st' i with
 | none=>rw[e]at h;cases h
 | some _=>rw[e]at h;exact⟨h,by simp⟩
theorem mG {st':Store} {φ:Pl} {i:Nat} (h:st' i≠none):sU st' φ i=φ i:=by
 unfold sU
 cases e:st' i with
 | none=>exact absurd e h
 | some _=>rfl
theorem Inv.cut {w:World} {m:Mem} {φ:Pl} {st st':Store} (hi:Inv w m φ st) (hst:∀ i blk,st' i=some blk→st i=some blk∧iA blk):Inv w m (sU st' φ) st':=by
 refine⟨hi.mem,?_,?_,fun i b n f e ho=>hi.low i b n f (dJ e).1 ho⟩
 ·intro i blk hb;obtain⟨h1,h2⟩:=hst i blk hb;obtain⟨b,n,q1,q2,q3⟩:=hi.live i blk h1;exact⟨b,n,by rw[mG (by rw[hb];simp)];exact q1,q2,q3.WJ h2 rfl fun o h=>h⟩
 ·intro i j b bx n n2 b1 b2 f h1 h2 h3 h4 o1 o2;exact hi.inj i j b bx n n2 b1 b2 f (hst i b1 h1).1 (hst j b2 h2).1 (dJ h3).1 (dJ h4).1 o1 o2
theorem Adv.cut {w:World} {m:Mem} {φ:Pl} {st':Store} (h:Adv wi mi (fun _=>none) w m φ):Adv wi mi (fun _=>none) w m (sU st' φ) :=
 ⟨h.size,h.os,h.tape,h.output,h.block,h.mle,h.mnew,(fun _ _ _ h=>by cases h),fun i b n f e ho=>h.pnew i b n f (dJ e).1 ho⟩
theorem jN.cut {φ:Pl} {st':Store} {f:Nat} (h:jN φ f):jN (sU st' φ) f:=fun i b n e=>h i b n (dJ e).1
theorem pO {w:World} {m:Mem} {φ:Pl} {st st':Store} {id b f:Nat} {n:Ext} {blk:Blk} (hi:Inv w m φ st) (hst:∀ i blk,st' i=some blk→st i=some blk∧iA blk) (hid:st id=some blk) (hn:st' id=none) (e:φ id=some (b,n)) (ho:n.own f):jN (sU st' φ) f:=by
 intro i r n' e' ho';obtain⟨h1,h2⟩:=dJ e'
 cases hb:st' i with
 | none=>exact h2 hb
 | some blk' =>
  have:=hi.inj i id r b n' n blk' blk f (hst i blk' hb).1 hid h1 e ho' ho;rw[this,hn]at hb;cases hb
theorem CU {w:World} {m:Mem} {φ:Pl} {id b f:Nat} {n:Ext} (h:Adv wi mi (fun _=>none) w m φ) (e:φ id=some (b,n)) (ho:n.own f):wi.heap.size≤f:=by
 rcases h.pnew id b n f e ho with h|h
 ·exact h
 ·exact absurd (fun id b n e=>by cases e) h
theorem Inv.adopt {w:World} {m:Mem} {φ:Pl} {st:Store} {id b:Nat} {cs:List AV} {vs:List Value} {T:TypeId} (hi:Inv w m φ st) (h1:st id=none) (h2:φ id=none) (hf:jN φ b) (hm:∀ o,m b o=none) (hh:w.heap[b]?=some (.cells vs.toArray T (0,0)))
 (hc:RepC m (upd φ id (some (b,one b vs.length))) cs vs):Inv w m (upd φ id (some (b,one b vs.length))) (upd st id (some (.box cs))):=by
 have hlt:b<w.heap.size:=(zI.1 hh).1
 have hp:PLe φ (upd φ id (some (b,one b vs.length))):=fun i r n e=>by
  refine⟨n,?_,rfl,fun _ h=>h⟩;have:i≠id:=fun h=>by rw[h,h2]at e;cases e
  simp[upd,this,e]
 refine⟨hi.mem,?_,?_,?_⟩
 ·intro i blk hb;by_cases hid:i=id
  ·subst hid;simp[upd]at hb;subst hb;exact⟨b,one b vs.length,by simp[upd],⟨rfl,fun f hf=>by rw[show f=b from hf];exact hlt⟩, .box hh rfl hc hm⟩
  ·simp[upd,hid]at hb;obtain⟨r,n,q1,q2,q3⟩:=hi.live i blk hb;exact⟨r,n,by simp[upd,hid,q1],q2,q3.mono q2.1 (fun _ _=>rfl) (.refl _) hp fun _ _ _=>rfl⟩
 ·intro i j r r' n n' b1 b2 f e1 e2 p1 p2 o1 o2;by_cases hi1:i=id
  ·by_cases hj1:j=id
   ·rw[hi1,hj1]
   ·subst hi1;simp[upd]at p1;simp[upd,hj1]at p2;obtain⟨rfl,rfl⟩:=p1;rw[show f=_ from o1]at o2;exact absurd o2 (hf j r' n' p2)
  ·by_cases hj1:j=id
   ·subst hj1;simp[upd]at p2;simp[upd,hi1]at p1;obtain⟨rfl,rfl⟩:=p2;rw[show f=_ from o2]at o1;exact absurd o1 (hf i r n p1)
   ·simp[upd,hi1]at e1 p1;simp[upd,hj1]at e2 p2;exact hi.inj i j r r' n n' b1 b2 f e1 e2 p1 p2 o1 o2
 ·intro i r n f e ho;by_cases hid:i=id
  ·subst hid;simp[upd]at e;obtain⟨rfl,rfl⟩:=e;rw[show f=_ from ho];exact hlt
  ·simp[upd,hid]at e;exact hi.low i r n f e ho
theorem Adv.adopt {w:World} {m:Mem} {φ:Pl} {id b k:Nat} (h:Adv wi mi (fun _=>none) w m φ) (hb:wi.heap.size≤b):Adv wi mi (fun _=>none) w m (upd φ id (some (b,one b k))):=by
 refine⟨h.size,h.os,h.tape,h.output,h.block,h.mle,h.mnew,(fun _ _ _ h=>by cases h),fun i r n f e ho=>?_⟩;by_cases hid:i=id
 ·subst hid;simp[upd]at e;obtain⟨rfl,rfl⟩:=e;rw[show f=_ from ho];exact .inl hb
 ·simp[upd,hid]at e;exact h.pnew i r n f e ho
def bX (vs:List Value):List AV:=vs.map fun v=>.i (.lit v)
theorem mQ {m:Mem} {φ:Pl}:∀ {vs:List Value},(∀ v∈vs,v.oneCell'=true)→RepC m φ (bX vs) vs
 | [],_=>.nil
 | v::vs,h=>.cons (.i (.lit v)) (h v (by simp)) (mQ fun u hu=>h u (by simp[hu]))
theorem nU {m:Mem} {φ:Pl}:∀ {vs us:List Value},RepC m φ (bX vs) us→us=vs
 | [],_, .nil=>rfl
 | v::vs,_, .cons a _ b=>by rw[a.bP,nU b]
theorem kR {m:Mem} {φ:Pl}:∀ {a b:List AV} {vs:List Value},RepC m φ (a++b) vs→∃ us xs,vs=us++xs∧RepC m φ a us∧RepC m φ b xs
 | [],b,vs,h=>⟨[],vs,rfl, .nil,h⟩
 | c::a,b,_, .cons h1 h2 h3=>by
  obtain⟨us,xs,rfl,k1,k2⟩:=kR h3;exact⟨_::us,xs,rfl, .cons h1 h2 k1,k2⟩
theorem C9 {m:Mem} {φ:Pl}:∀ {a b:List AV} {us xs:List Value},RepC m φ a us→RepC m φ b xs→RepC m φ (a++b) (us++xs)
 | [],_,_,_, .nil,h=>h
 | _::_,_,_,_, .cons h1 h2 h3,h=>.cons h1 h2 (C9 h3 h)
end
structure RAW (wi:World) (root:Nat) (p:Pn) (F:List Nat) (H:PL) (w:World) (m:Mem) (φ:Pl):Prop where
 th:TH w m p root 0 F H
 nr:root ∉ F
 nd:F.Nodup
 all:∀ f∈root::F,wi.heap.size≤f∧f<w.heap.size∧jN φ f∧(∀ o,m f o=none)∧∃ (vs:List Value) (T:TypeId),w.heap[f]?=some (.cells vs.toArray T (0,0))∧∀ v∈vs,v.oneCell'=true
theorem gZ {w w':World} {f:Nat} (h:w'.heap[f]?=w.heap[f]?) (j:Nat):w'.cell? ⟨f,j,none⟩=w.cell? ⟨f,j,none⟩:=cell_of_heap h
theorem RAW.KN (wi:World) (root:Nat) (p:Pn) (F:List Nat) (H:PL):ABD (RAW wi root p F H):=by
 intro w m φ w' m' φ' ha h;have hs:∀ f∈root::F,w'.heap[f]?=w.heap[f]?:=fun f hf=>ha.block f (h.all f hf).2.1 (h.all f hf).2.2.1
 refine⟨h.th.frame ha.mle (fun j _ _=>gZ (hs root (by simp)) j) (fun f hf j=>gZ (hs f (by simp[hf])) j),h.nr,h.nd,fun f hf=>?_⟩;obtain⟨k1,k2,k3,k4,vs,T,k5,k6⟩:=h.all f hf;exact⟨k1,zH k2 ha.size,ha.range k2 k3,fun o=>(ha.mnew f k2 k3 o).trans (k4 o),vs,T,by rw[hs f hf];exact k5,k6⟩
structure ADP (wi:World) (root:Nat) (p:Pn) (F:List Nat) (H:PL) (bq:Nat) (us:List Value) (wa:World) (ma:Mem) (w:World) (m:Mem) (φ:Pl):Prop where
 th:TH wa ma p root 0 F H
 nr:root ∉ F
 nd:F.Nodup
 le:MLe ma m
 inF:bq∈root::F
 own:∃ n,φ 2=some (bq,n)
 row:∃ T,wa.heap[bq]?=some (.cells us.toArray T (0,0))
 bqn:wi.heap.size≤bq
 oth:∀ f∈root::F,f≠bq→wi.heap.size≤f∧f<w.heap.size∧jN φ f∧(∀ o,m f o=none)∧w.heap[f]?=wa.heap[f]?∧∃ (vs:List Value) (T:TypeId),wa.heap[f]?=some (.cells vs.toArray T (0,0))∧∀ v∈vs,v.oneCell'=true
theorem ADP.KN (wi:World) (root:Nat) (p:Pn) (F:List Nat) (H:PL) (bq:Nat) (us:List Value) (wa:World) (ma:Mem):ABD (ADP wi root p F H bq us wa ma):=by
 intro w m φ w' m' φ' ha h;refine⟨h.th,h.nr,h.nd,h.le.trans ha.mle,h.inF,?_,h.row,h.bqn,fun f hf hne=>?_⟩
 ·obtain⟨n,e⟩:=h.own;obtain⟨n',e',_⟩:=ha.ple _ _ _ e;exact⟨n',e'⟩
 ·obtain⟨k1,k2,k3,k4,k5,k6⟩:=h.oth f hf hne;exact⟨k1,zH k2 ha.size,ha.range k2 k3,fun o=>(ha.mnew f k2 k3 o).trans (k4 o),(ha.block f k2 k3).trans k5,k6⟩
theorem JB {us:List Value} {o:Nat} {v0 v1 v2 v3 v4:Value} (h0:us[o]?=some v0) (h1:us[o+1]?=some v1) (h2:us[o+2]?=some v2) (h3:us[o+3]?=some v3) (h4:us[o+4]?=some v4):us=us.take o++([v0,v1,v2,v3,v4]++us.drop (o+5)):=by
 have g:∀ {o:Nat} {v:Value},us[o]?=some v→us.drop o=v::us.drop (o+1):=by
  intro o v h;obtain⟨hl,rfl⟩:=zZ.1 h;exact xA hl
 have:us.drop o=[v0,v1,v2,v3,v4]++us.drop (o+5):=by rw[g h0,g h1,g h2,g h3,g h4];rfl
 rw[← this,yK]
mutual
theorem TH.hole {w:World} {m:Mem} {x:Pn} {b o:Nat} {F:List Nat} {H:PL}:TH w m x b o F H→∀ q∈H,∃ v0 v1 v2 v3 v4,ICells m q.2.cells [v0,v1,v2,v3,v4]∧At5 w q.1.1 q.1.2 v0 v1 v2 v3 v4
 | .fresh h1 h2,q,hq=>by simp at hq;subst hq;exact⟨_,_,_,_,_,h1,h2⟩
 | .leaf _ _ _ _,q,hq=>by simp at hq
 | .node _ _ _ _ _ h6,q,hq=>THL.hole h6 q hq
theorem THL.hole {w:World} {m:Mem} {xs:List Pn} {b o:Nat} {F:List Nat} {H:PL}:THL w m xs b o F H→∀ q∈H,∃ v0 v1 v2 v3 v4,ICells m q.2.cells [v0,v1,v2,v3,v4]∧At5 w q.1.1 q.1.2 v0 v1 v2 v3 v4
 | .nil _ _,q,hq=>by simp at hq
 | .cons h1 h2,q,hq=>by
  rcases zT.1 hq with h|h
  ·exact TH.hole h1 q h
  ·exact THL.hole h2 q h
end
theorem RV {m:Mem} {φ:Pl}:∀ {cs:List IV} {vs:List Value},ICells m cs vs→RepC m φ (jR cs) vs
 | [],_, .nil=>.nil
 | c::cs,_, .cons a o b=>.cons (.i a) o (RV b)
section
variable {wi:World} {mi:Mem} {nt:Nat}
def jD (pre:List Value) (row:List AV) (post:List Value):List AV:=bX pre++(row++bX post)
theorem GR.adopt {ok:Nat→Prop} {root:Nat} {p:Pn} {F:List Nat} {H:PL} {env:Nat→AV} {st:Store} {a:Act} {w:World} {u bq oq:Nat} {y:Pn} (h:GR wi mi nt ok (RAW wi root p F H) env st a w) (hst:st 2=none) (hok:¬ ok 2) (hq:((bq,oq),y)∈H) (hu:env u=.i (.lit (.pointer (some ⟨bq,oq,none⟩)))) :
 ∃ pre post us ma,us.take oq=pre∧us.drop (oq+5)=post∧pre.length=oq∧us.length=oq+5+post.length∧(∀ v∈us,v.oneCell'=true) ∧
   GR wi mi nt (fun id=>ok id∨id=2) (ADP wi root p F H bq us w ma) (upd env u (.own 2 oq)) (upd st 2 (some (.box (jD pre (jR y.cells) post)))) a w:=by
 obtain⟨⟨m,φ,hi,henv,hadv,hk,hr⟩,h6,h7⟩:=h;obtain⟨v0,v1,v2,v3,v4,hc,h5⟩:=hr.th.hole _ hq;simp only at hc h5
 have hinF:bq∈root::F:=by
  rcases hr.th.holes _ hq with e|e
  ·simp at e;simp[e]
  ·simp at e;simp[e]
 obtain⟨k1,k2,k3,k4,us,T,k5,k6⟩:=hr.all bq hinF;have gc:∀ {o:Nat} {v:Value},w.cell? ⟨bq,o,none⟩=some v→us[o]?=some v:=fun h=>by rwa [bG k5]at h
 have hrow:=JB (gc h5.c0) (gc h5.c1) (gc h5.c2) (gc h5.c3) (gc h5.c4);have hl4:=(zZ.1 (gc h5.c4)).1;refine⟨us.take oq,us.drop (oq+5),us,m,rfl,rfl,by rw[yM];omega,by rw[xS];omega,k6,?_⟩
 have hφ2:φ 2=none:=by
  cases e:φ 2 with
  | none=>rfl
  | some q=>exact absurd (hk 2 (by rw[e];simp)) hok
 have hrep:RepC m (upd φ 2 (some (bq,one bq us.length))) (jD (us.take oq) (jR y.cells) (us.drop (oq+5))) us:=by
  have h1:=mQ (m:=m) (φ:=upd φ 2 (some (bq,one bq us.length))) (vs:=us.take oq) fun v hv=>k6 v (zC hv)
  have h2:=mQ (m:=m) (φ:=upd φ 2 (some (bq,one bq us.length))) (vs:=us.drop (oq+5)) fun v hv=>k6 v (yQ hv)
  have h3:=C9 h1 (C9 (RV hc) h2);rw[← hrow]at h3;exact h3
 have hp:PLe φ (upd φ 2 (some (bq,one bq us.length))):=fun i r n e=>by
  refine⟨n,?_,rfl,fun _ h=>h⟩;have:i≠2:=fun h=>by rw[h,hφ2]at e;cases e
  simp[upd,this,e]
 refine⟨⟨m,upd φ 2 (some (bq,one bq us.length)),hi.adopt hst hφ2 k3 k4 k5 hrep,fun t=>?_,hadv.adopt k1,fun id hid=>?_,?_⟩,h6,h7⟩
 ·by_cases ht:t=u
  ·subst ht;have:=henv t;rw[hu]at this;simp only[upd,if_true];rw[this.bP];exact .own (n:=one bq us.length) (by simp[upd])
  ·simp only[upd,ht,if_false];exact(henv t).mono (.refl _) hp
 ·by_cases e:id=2
  ·exact .inr e
  ·simp[upd,e]at hid;exact .inl (hk id hid)
 ·refine⟨hr.th,hr.nr,hr.nd, .refl _,hinF,⟨one bq us.length,by simp[upd]⟩,⟨T,k5⟩,k1,fun f hf hne=>?_⟩;obtain⟨q1,q2,q3,q4,q5⟩:=hr.all f hf;refine⟨q1,q2,fun i r n e ho=>?_,q4,rfl,q5⟩;by_cases e2:i=2
  ·subst e2;simp[upd]at e;obtain⟨rfl,rfl⟩:=e;exact hne ho
  ·simp[upd,e2]at e;exact q3 i r n e ho
def slA (n id k:Nat):AV:=if n=0 then .nils else .osl id k 0 n
def kC (b:Nat):Nat→List Pn→PL
 | _,[]=>[]
 | o,x::l=>((b,o),x)::kC b (o+5) l
theorem Inv.AOH {w:World} {m:Mem} {φ:Pl} {st:Store} {id b:Nat} {n:Ext} {blk blk':Blk} (hi:Inv w m φ st) (h:st id=some blk) (e:φ id=some (b,n)) (hb:BlkOk w m φ b n blk'):Inv w m φ (upd st id (some blk')):=by
 refine⟨hi.mem,?_,?_,hi.low⟩
 ·intro i bl hbl;by_cases hid:i=id
  ·subst hid;simp[upd]at hbl;subst hbl;exact⟨b,n,e,(dF hi e h).1,hb⟩
  ·simp[upd,hid]at hbl;exact hi.live i bl hbl
 ·intro i j r r' n1 n2 b1 b2 f e1 e2 p1 p2 o1 o2
  have g:∀ i b1,upd st id (some blk') i=some b1→∃ b2,st i=some b2:=fun i b1 h1=>by
   by_cases hid:i=id
   ·subst hid;exact⟨blk,h⟩
   ·simp[upd,hid]at h1;exact⟨b1,h1⟩
  obtain⟨x1,y1⟩:=g i b1 e1;obtain⟨x2,y2⟩:=g j b2 e2;exact hi.inj i j r r' n1 n2 x1 x2 f y1 y2 p1 p2 o1 o2
theorem XH {w:World} {m:Mem} {φ:Pl} {st:Store} {n id k:Nat} {v:Value} {es:List (List IV)} (hn:es.length=n) (hi:Inv w m φ st) (hr:Rep m φ (slA n id k) v) (hst:n≠0→st id=some (.arr k es)) :
 ∃ m1,IRep m1 (.isl es) v∧Inv w m1 φ (if n=0 then st else upd st id (some (.frz k es)))∧Adv w m φ w m1 φ:=by
 unfold slA at hr;by_cases h0:n=0
 ·simp only[h0,if_true]at hr ⊢;have:es=[]:=zX.1 (by omega);subst this
  cases hr
  exact⟨m, .isl0 _ _ (fun _=>rfl),hi, .refl _ _ _⟩
 ·simp only[h0,if_false]at hr ⊢;have hid:=hst h0
  have hfr:oL st (.osl id k 0 n)=some (.isl es,upd st id (some (.frz k es))):=by
   simp[oL,frz,rX,qR,hid,tst,window,bnd,gB,zW,hn]
  exact gX hi hr hfr
theorem GY {w:World} {m:Mem} {b:Nat}:∀ {ks:List Pn} {o:Nat} {vs:List Value},ICells m (Pn.aB ks).flatten vs→(∀ j v,vs[j]?=some v→w.cell? ⟨b,o+j,none⟩=some v)→THL w m ks b o [] (kC b o ks)
 | [],o,_,_,_=>.nil b o
 | k::ks,o,vs,h,hw=>by
  simp only[Pn.aB,z8]at h;have h1:=h.take 5;have h2:=h.drop 5;rw[List.take_left' (Pn.d9 k)]at h1;rw[List.drop_left' (Pn.d9 k)]at h2;have hl:=h1.length;rw[Pn.d9]at hl;have hlen:5≤vs.length:=by rw[yM]at hl;omega
  have hf:THL w m (k::ks) b o ([]++[]) ([((b,o),k)]++kC b (o+5) ks):=by
   refine .cons ?_ (GY h2 fun j v hj=>?_)
   ·have e:vs.take 5=[vs[0],vs[1],vs[2],vs[3],vs[4]]:=by
     apply List.ext_getElem (by simp;omega);intro i l1 l2;simp at l1 l2
     rcases i with _|_|_|_|_|i
     ·simp
     ·simp
     ·simp
     ·simp
     ·simp
     ·omega
    rw[e]at h1;exact .fresh h1 ⟨hw 0 _ (by simp),hw 1 _ (by simp),hw 2 _ (by simp),hw 3 _ (by simp),hw 4 _ (by simp)⟩
   ·rw[yS]at hj;have:=hw (5+j) v hj
    rwa [← Nat.add_assoc]at this
  exact hf
theorem GR.AOG {ok:Nat→Prop} {root:Nat} {p:Pn} {F:List Nat} {H:PL} {env env':Nat→AV} {st st':Store} {a:Act} {w wa:World} {ma:Mem} {u bq oq idE idC idK:Nat} {pre post us:List Value} {k t:Int} {es:List Ex} {cs:List Int} {ks:List Pn}
 (h:GR wi mi nt ok (ADP wi root p F H bq us wa ma) env st a w) (h1:us.take oq=pre) (h2:us.drop (oq+5)=post) (h3:pre.length=oq) (h4:us.length=oq+5+post.length)
 (hq:((bq,oq),Pn.mk k t es cs ks)∈H) (hbox:st 2=some (.box (jD pre [.int k, .int t,slA es.length idE 5,slA cs.length idC 1,slA ks.length idK 5] post)))
 (hE:es.length≠0→st idE=some (.arr 5 (Ex.aB es))) (hC:cs.length≠0→st idC=some (.arr 1 (aF cs))) (hK:ks.length≠0→st idK=some (.arr 5 (Pn.aB ks)))
 (hd:2<idE∧2<idC∧2<idK∧idE≠idC∧idE≠idK∧idC≠idK)
 (hst:∀ i blk,st' i=some blk→i<2∧st i=some blk∧iA blk) (he:∀ t,env' t=.junk∨(env' t=env t∧(env t=.own 2 oq∨kH st' (env t)))) :
 ∃ F' H' us' b' cap vE vC m2,(((bq,oq),Pn.mk k t es cs ks)::H').Perm (H++kC b' 0 ks)∧us'=pre++([.int .i64 k, .int .i64 t,vE,vC,if ks.length=0 then .slice none 0 0 else .slice (some ⟨b',0,none⟩) ks.length cap]++post)∧(∀ v∈us',v.oneCell'=true)∧(∀ q∈H,q.1.1≠b') ∧
   GR wi mi nt (fun id=>id≤2) (ADP wi root p F' H' bq us' w m2) env' (upd st' 2 (some (.box (bX us')))) a w:=by
 obtain⟨⟨m,φ,hi,henv,hadv,hk,hr⟩,h6,h7⟩:=h;obtain⟨n2,e2⟩:=hr.own;obtain⟨hb2,hok2⟩:=dF hi e2 hbox;obtain⟨d1,d2,d3,d4,d5,d6⟩:=hd
 cases hok2 with
 | @box T _ vs hh hl hrc hm =>
  have hone:=hrc.one;obtain⟨vp,x,rfl,r1,r2⟩:=kR hrc;obtain⟨vr,vq,rfl,r3,r4⟩:=kR r2;obtain rfl:=(nU r1).symm;obtain rfl:=(nU r4).symm
  cases r3 with
  | cons a0 o0 r3 =>
  cases r3 with
  | cons a1 o1 r3 =>
  cases r3 with
  | @cons _ vE _ _ aE oE r3 =>
  cases r3 with
  | @cons _ vC _ _ aC oC r3 =>
  cases r3 with
  | @cons _ vK _ _ aK oK r3 =>
  cases r3
  obtain rfl:=a0.bP;obtain rfl:=a1.bP;obtain⟨m1,f1,i1,g1⟩:=XH (es:=Ex.aB es) (by simp) hi aE hE
  have s1:∀ i,i≠idE→(if es.length=0 then st else upd st idE (some (.frz 5 (Ex.aB es)))) i=st i:=fun i hne=>by
   split
   ·rfl
   ·simp[upd,hne]
  generalize (if es.length=0 then st else upd st idE (some (.frz 5 (Ex.aB es))))=st1 at i1 s1;obtain⟨m2,f2,i2,g2⟩:=XH (es:=aF cs) (by simp) i1 (aC.mono g1.mle (.refl _)) (fun h0=>by rw[s1 _ (by omega)];exact hC h0)
  have s2:∀ i,i≠idE→i≠idC→(if cs.length=0 then st1 else upd st1 idC (some (.frz 1 (aF cs)))) i=st i:=fun i hne hne2=>by
   split
   ·exact s1 i hne
   ·simp[upd,hne2,s1 i hne]
  generalize (if cs.length=0 then st1 else upd st1 idC (some (.frz 1 (aF cs))))=st2 at i2 s2;have hA:=(hadv.trans g1).trans g2
  have hm2:∀ o,m2 bq o=none:=by
   have hb:=s2 2 (by omega) (by omega);rw[hbox]at hb;obtain⟨_,hok⟩:=dF i2 e2 hb
   cases hok with|box _ _ _ q=>exact q
  have hlit:BlkOk w m2 φ bq n2 (.box (bX (pre++([.int .i64 k, .int .i64 t,vE,vC,vK]++post)))):=.box hh hl (mQ hone) hm2;have i3:=i2.AOH (by rw[s2 2 (by omega) (by omega)];exact hbox) e2 hlit;generalize hus:pre++([.int .i64 k, .int .i64 t,vE,vC,vK]++post)=us' at hh hl hone hlit i3
  have hst2:∀ i blk,upd st' 2 (some (.box (bX us'))) i=some blk→upd st2 2 (some (.box (bX us'))) i=some blk∧iA blk:=by
   intro i blk hb;by_cases hid:i=2
   ·subst hid;simp[upd]at hb ⊢;refine⟨hb,?_⟩;subst hb;intro c hc;obtain⟨v,_,rfl⟩:=yB.1 hc;exact .inl ⟨v,rfl⟩
   ·simp[upd,hid]at hb ⊢;obtain⟨q1,q2,q3⟩:=hst i blk hb;exact⟨by rw[s2 i (by omega) (by omega)];exact q2,q3⟩
  have i4:=i3.cut hst2
  have hat:At5 w bq oq (.int .i64 k) (.int .i64 t) vE vC vK:=by
   have g:∀ (j:Nat) (v:Value),[Value.int .i64 k, .int .i64 t,vE,vC,vK][j]?=some v→w.cell? ⟨bq,oq+j,none⟩=some v:=by
    intro j v hj;have hj5:=(zZ.1 hj).1;rw[bG hh,← hus,zM (by omega),h3,yI,zJ hj5];exact hj
   exact⟨g 0 _ rfl,g 1 _ rfl,g 2 _ rfl,g 3 _ rfl,g 4 _ rfl⟩
  have hHlt:∀ q∈H,q.1.1∈root::F:=fun q hq=>by
   rcases hr.th.holes q hq with e|e
   ·simp[e]
   ·simp[e]
  have hlt:∀ f∈root::F,f<w.heap.size:=fun f hf=>by
   by_cases hne:f=bq
   ·subst hne;exact(zI.1 hh).1
   ·exact(hr.oth f hf hne).2.1
  have hmon:=hr.le.trans (g1.mle.trans g2.mle);have fE:IRep m2 (.isl (Ex.aB es)) vE:=f1.mono g2.mle
  obtain⟨b',cap,G,hvK,hTH,hG,hGn,hbn⟩:∃ b' cap G,vK=(if ks.length=0 then Value.slice none 0 0 else Value.slice (some ⟨b',0,none⟩) ks.length cap)∧TH w m2 (.mk k t es cs ks) bq oq G (kC b' 0 ks) ∧
   (∀ f∈G,wi.heap.size≤f∧f<w.heap.size∧jN (sU (upd st' 2 (some (.box (bX us')))) φ) f∧(∀ o,m2 f o=none)∧(∃ (vs:List Value) (T:TypeId),w.heap[f]?=some (.cells vs.toArray T (0,0))∧∀ v∈vs,v.oneCell'=true)∧f≠bq∧f ∉ root::F)∧G.Nodup∧∀ q∈H,q.1.1≠b':=by
   by_cases h0:ks.length=0
   ·have hks:ks=[]:=zX.1 h0;subst hks;simp only[slA,xL,if_true]at aK
    cases aK
    exact⟨w.heap.size,0,[],rfl, .leaf hat fE f2 (fun _=>rfl),by simp,List.nodup_nil,fun q hq e=>by have:=hlt _ (hHlt q hq);omega⟩
   ·simp only[slA,h0,if_false]at aK
    cases aK with
    | @osl _ _ _ _ cap b' nK ao eK l1 l2 l3 l4 =>
     have hao:=l3 (by omega);subst hao;have hK2:st2 idK=some (.arr 5 (Pn.aB ks)):=by rw[s2 idK (by omega) (by omega)];exact hK h0
     obtain⟨hbK,hokK⟩:=dF i2 eK hK2
     cases hokK with
     | @arr TK _ _ vk q1 q2 q3 q4 q5 q6 q7 q8 q9 =>
      have hb'q:b'≠bq:=fun e=>by
       subst e;have:=hi.inj idK 2 b' b' nK n2 _ _ b' (hK h0) hbox eK e2 hbK.1 hb2.1;omega
      have hnF:b' ∉ root::F:=fun hm=>by
       exact(hr.oth b' hm hb'q).2.2.1 idK b' nK eK hbK.1
      refine⟨b',cap,[b'],by simp[h0],?_,?_,by simp,fun q hq e=>hnF (e ▸ hHlt q hq)⟩
      ·refine .node hat fE f2 (fun e=>h0 (by rw[e];rfl)) (by omega) ?_;rw[Pn.aV]at q5
       exact GY q5 fun j v hj=>by
        rw[zD,bG q1];rw[zL]at hj;split at hj
        ·exact hj
        ·cases hj
      ·intro f hf;simp at hf;subst hf;refine⟨CU hadv eK hbK.1,hbK.2 _ hbK.1,?_,q7,⟨vk,TK,q1,q9⟩,hb'q,hnF⟩;refine pO i3 hst2 (id:=idK) (blk:=.arr 5 (Pn.aB ks)) (by simp[upd,show idK≠2 by omega,hK2]) ?_ eK hbK.1;have:idK≠2:=by omega
       simp only[upd,this,if_false]
       cases hx:st' idK with
       | none=>rfl
       | some blk=>have:=(hst idK blk hx).1;omega
  obtain⟨T0,hrow0⟩:=hr.row
  have hsame:∀ f∈root::F,∀ j,(f≠bq∨j<oq∨oq+5≤j)→w.cell? ⟨f,j,none⟩=wa.cell? ⟨f,j,none⟩:=by
   intro f hf j hj;by_cases hne:f=bq
   ·subst hne;rw[bG hh,bG hrow0,← hus]
    rcases hj with hj|hj|hj
    ·exact absurd rfl hj
    ·rw[zJ (by omega),← h1,zL];simp[hj]
    ·rw[zM (by omega),zM (by simp;omega),← h2,yS];simp only[zO,xL,h3];congr 1;omega
   ·exact gZ (hr.oth f hf hne).2.2.2.2.1 j
  obtain⟨F1,H1,k1,k2,k3⟩:=TH.fill hmon hTH hr.th hr.nr hr.nd hq hsame;have hF1:∀ f,f∈F1↔f∈F∨f∈G:=fun f=>by rw[k2.mem_iff,zT]
  refine⟨F1,H1,us',b',cap,vE,vC,m2,k3,by rw[← hus,hvK],hone,hbn,⟨⟨m2,sU (upd st' 2 (some (.box (bX us')))) φ,i4,fun x=>?_,hA.cut,fun id hid=>?_,?_⟩,h6,h7⟩⟩
  ·rcases he x with e|⟨e,e'|e'⟩
   ·rw[e];exact .junk _
   ·rw[e,e'];have hx:=henv x;rw[e']at hx;generalize a.tmps.getD x undef=yy at hx ⊢
    cases hx with
    | own e3=>exact .own (by rw[mG (by simp[upd])];exact e3)
   ·rw[e];refine kH.rep e' (fun i hi'=>?_) (henv x);refine mG ?_;by_cases hid:i=2
    ·subst hid;simp[upd]
    ·simpa [upd,hid]using hi'
  ·cases hx:sU (upd st' 2 (some (.box (bX us')))) φ id with
   | none=>exact absurd hx hid
   | some q =>
    have:=(dJ hx).2;by_cases hid2:id=2
    ·omega
    ·simp[upd,hid2]at this
     cases hy:st' id with
     | none=>exact absurd hy this
     | some blk=>have:=(hst id blk hy).1;omega
  ·refine⟨k1,fun hm=>?_,?_, .refl _,?_,⟨n2,by rw[mG (by simp[upd])];exact e2⟩,⟨T,hh⟩,hr.bqn,fun f hf hne=>?_⟩
   ·rcases(hF1 root).1 hm with h|h
    ·exact hr.nr h
    ·exact(hG root h).2.2.2.2.2.2 (by simp)
   ·rw[k2.nodup_iff];exact yT.2 ⟨hr.nd,hGn,fun x hx y hy e=>(hG y hy).2.2.2.2.2.2 (by rw[← e];simp[hx])⟩
   ·rcases zQ.1 hr.inF with e|e
    ·simp[e]
    ·simp[(hF1 bq).2 (.inl e)]
   ·have hf':f∈root::F∨f∈G:=by
     rcases zQ.1 hf with e|e
     ·exact .inl (by simp[e])
     ·rcases(hF1 f).1 e with e|e
      ·exact .inl (by simp[e])
      ·exact .inr e
    rcases hf' with hf'|hf'
    ·obtain⟨q1,q2,q3,q4,q5,vs,T',q6,q7⟩:=hr.oth f hf' hne;refine⟨q1,q2,q3.cut,fun o=>?_,rfl,vs,T',by rw[q5];exact q6,q7⟩;rw[(g1.trans g2).mnew f q2 q3 o];exact q4 o
    ·obtain⟨q1,q2,q3,q4,q5,_⟩:=hG f hf';exact⟨q1,q2,q3,q4,rfl,q5⟩
theorem GR.S9 {ok:Nat→Prop} {root:Nat} {p:Pn} {F:List Nat} {H:PL} {env env':Nat→AV} {st st':Store} {a:Act} {w wa:World} {ma:Mem} {bq:Nat} {us:List Value}
 (h:GR wi mi nt ok (ADP wi root p F H bq us wa ma) env st a w) (hbox:st 2=some (.box (bX us)))
 (hst:∀ i blk,st' i=some blk→i≠2∧st i=some blk∧iA blk) (he:∀ t,env' t=.junk∨(env' t=env t∧kH st' (env t))) :
 GR wi mi nt (fun id=>st' id≠none) (RAW wi root p F H) env' st' a w:=by
 obtain⟨⟨m,φ,hi,henv,hadv,hk,hr⟩,h6,h7⟩:=h;obtain⟨n2,e2⟩:=hr.own;obtain⟨hb2,hok2⟩:=dF hi e2 hbox;have hst2:∀ i blk,st' i=some blk→st i=some blk∧iA blk:=fun i blk hb=>(hst i blk hb).2
 cases hok2 with
 | @box T _ vs hh hl hrc hm =>
  have hone:=hrc.one;obtain rfl:=(nU hrc).symm;obtain⟨T0,hrow0⟩:=hr.row
  have hcell:∀ f∈root::F,∀ j,w.cell? ⟨f,j,none⟩=wa.cell? ⟨f,j,none⟩:=by
   intro f hf j;by_cases hne:f=bq
   ·subst hne;rw[bG hh,bG hrow0]
   ·exact gZ (hr.oth f hf hne).2.2.2.2.1 j
  refine⟨⟨m,sU st' φ,hi.cut hst2,fun x=>?_,hadv.cut,fun id hid=>?_,?_⟩,h6,h7⟩
  ·rcases he x with e|⟨e,e'⟩
   ·rw[e];exact .junk _
   ·rw[e];exact e'.rep (fun i hi'=>mG hi') (henv x)
  ·cases hx:sU st' φ id with
   | none=>exact absurd hx hid
   | some q=>exact(dJ hx).2
  ·refine⟨hr.th.frame hr.le (fun j _ _=>hcell root (by simp) j) (fun f hf j=>hcell f (by simp[hf]) j),hr.nr,hr.nd,fun f hf=>?_⟩;by_cases hne:f=bq
   ·subst hne;refine⟨hr.bqn,(zI.1 hh).1,?_,hm,us,T,hh,hone⟩;refine pO hi hst2 hbox ?_ e2 hb2.1
    cases hx:st' 2 with
    | none=>rfl
    | some blk=>exact absurd rfl (hst 2 blk hx).1
   ·obtain⟨q1,q2,q3,q4,q5,vs',T',q6,q7⟩:=hr.oth f hf hne;exact⟨q1,q2,q3.cut,q4,vs',T',by rw[q5];exact q6,q7⟩
end
theorem CB {m:Mem} {φ:Pl}:∀ {cs:List IV} {vs:List Value},RepC m φ (jR cs) vs→ICells m cs vs
 | [],_, .nil=>.nil
 | c::cs,_, .cons a o b=>by
  cases a with
  | i a=>exact .cons a o (CB b)
section
variable {wi:World} {mi:Mem} {nt:Nat}
theorem GR.AR1 {ok:Nat→Prop} {R:World→Mem→Pl→Prop} {p:Pn} {env:Nat→AV} {st st':Store} {a:Act} {w:World} {u id:Nat} (h:GR wi mi nt ok R env st a w) (hu:env u=.own id 0) (hbox:st id=some (.box (jR p.cells)))
 (hst:∀ i blk,st' i=some blk→i≠id∧st i=some blk∧iA blk) :
 ∃ b3,∀ env',(∀ t,env' t=.junk∨(t=u∧env' t=.i (.lit (.pointer (some ⟨b3,0,none⟩))))∨(env' t=env t∧kH st' (env t)))→GR wi mi nt (fun i=>st' i≠none) (RAW wi b3 p [] [((b3,0),p)]) env' st' a w:=by
 obtain⟨⟨m,φ,hi,henv,hadv,hk,_⟩,h6,h7⟩:=h;have hr:=henv u;rw[hu]at hr;generalize hy:a.tmps.getD u undef=yy at hr
 cases hr with
 | @own _ _ b3 n3 e3 =>
  obtain⟨hb,hok⟩:=dF hi e3 hbox;have hst2:∀ i blk,st' i=some blk→st i=some blk∧iA blk:=fun i blk hb=>(hst i blk hb).2
  cases hok with
  | @box T _ vs hh hl hrc hm =>
   have hc:=CB hrc;have hlen:=hc.length;rw[Pn.d9]at hlen
   obtain⟨v0,v1,v2,v3,v4,rfl⟩:∃ v0 v1 v2 v3 v4,vs=[v0,v1,v2,v3,v4]:=by
    match vs,hlen with
    | [v0,v1,v2,v3,v4],_=>exact⟨v0,v1,v2,v3,v4,rfl⟩
   refine⟨b3,fun env' he=>⟨⟨m,sU st' φ,hi.cut hst2,fun t=>?_,hadv.cut,fun i hi'=>?_,?_⟩,h6,h7⟩⟩
   ·rcases he t with e|⟨rfl,e⟩|⟨e,e'⟩
    ·rw[e];exact .junk _
    ·rw[e,hy];exact .i (.lit _)
    ·rw[e];exact e'.rep (fun i hi'=>mG hi') (henv t)
   ·cases hx:sU st' φ i with
    | none=>exact absurd hx hi'
    | some q=>exact(dJ hx).2
   ·refine⟨.fresh hc ⟨by rw[bG hh];rfl,by rw[bG hh];rfl,by rw[bG hh];rfl,by rw[bG hh];rfl,by rw[bG hh];rfl⟩,by simp,List.nodup_nil,fun f hf=>?_⟩;simp at hf;subst hf;refine⟨CU hadv e3 hb.1,hb.2 _ hb.1,?_,hm,_,T,hh,hrc.one⟩;refine pO hi hst2 hbox ?_ e3 hb.1
    cases hx:st' id with
    | none=>rfl
    | some blk=>exact absurd rfl (hst id blk hx).1
theorem GR.fin {ok:Nat→Prop} {root:Nat} {p:Pn} {F:List Nat} {env:Nat→AV} {st:Store} {a:Act} {w:World} (h:GR wi mi nt ok (RAW wi root p F []) env st a w) (hst:∀ i blk,st i=some blk→iA blk) {u:Nat} (hu:env u=.i (.lit (.pointer (some ⟨root,0,none⟩)))) {env':Nat→AV} (he:∀ t,env' t=.junk∨(t=u∧env' t=.i (.iref p.cells))∨(env' t=env t∧kH st (env t))) :
 GR wi mi nt ok (fun _ _ _=>True) env' st a w:=by
 classical
 obtain⟨⟨m,φ,hi,henv,hadv,hk,hr⟩,h6,h7⟩:=h
 let m':Mem:=fun f o=>if f∈root::F then w.cell? ⟨f,o,none⟩else m f o
 have hin:∀ f,f∈root::F→∀ o,m' f o=w.cell? ⟨f,o,none⟩:=fun f hf o=>by show(if f∈root::F then _ else _)=_;rw[if_pos hf]
 have hout:∀ f,f ∉ root::F→∀ o,m' f o=m f o:=fun f hf o=>by show(if f∈root::F then _ else _)=_;rw[if_neg hf]
 have hle:MLe m m':=fun f o v e=>by
  by_cases hf:f∈root::F
  ·rw[(hr.all f hf).2.2.2.1 o]at e;cases e
  ·rw[hout f hf];exact e
 have hmem:lD w m':=fun f o v e=>by
  by_cases hf:f∈root::F
  ·rw[hin f hf]at e;exact e
  ·rw[hout f hf]at e;exact hi.mem f o v e
 have hat:IAt m' root 0 p.cells:=hr.th.iat hle (fun j _ _=>hin root (by simp) j) (fun f hf j=>hin f (by simp[hf]) j);refine⟨⟨m',φ,⟨hmem,fun i blk hb=>?_,hi.inj,hi.low⟩,fun t=>?_,⟨hadv.size,hadv.os,hadv.tape,hadv.output,hadv.block,hadv.mle.trans hle,fun f hf hfr o=>?_,hadv.ple,hadv.pnew⟩,hk,trivial⟩,h6,h7⟩
 ·obtain⟨b,n,q1,q2,q3⟩:=hi.live i blk hb;refine⟨b,n,q1,q2,q3.WJ (hst i blk hb) rfl fun o ho=>?_⟩;rw[hout b (fun hf=>(hr.all b hf).2.2.1 i b n q1 q2.1)];exact ho
 ·rcases he t with e|⟨rfl,e⟩|⟨e,e'⟩
  ·rw[e];exact .junk _
  ·have hx:=henv t;rw[hu]at hx;rw[e,hx.bP];exact .i (.iref hat)
  ·rw[e];exact e'.rep (fun _ _=>rfl) (henv t)
 ·rw[hout f (fun hf'=>by have:=(hr.all f hf').1;omega)];exact hadv.mnew f hf hfr o
theorem RAW.keep {root:Nat} {p:Pn} {F:List Nat} {H:PL} {w:World} {m:Mem} {φ:Pl} (ids:List Nat) (h:RAW wi root p F H w m φ):RAW wi root p F H w m (eD ids φ):=by
 refine⟨h.th,h.nr,h.nd,fun f hf=>?_⟩;obtain⟨k1,k2,k3,k4,k5⟩:=h.all f hf;refine⟨k1,k2,fun id r n e=>?_,k4,k5⟩;unfold eD at e
 cases hx:ids[id]? with
 | none=>rw[hx]at e;cases e
 | some j=>rw[hx]at e;exact k3 j r n e
theorem GR.settle {ok:Nat→Prop} {R:World→Mem→Pl→Prop} (hR:∀ w m φ ids,R w m φ→R w m (eD ids φ)) {env:Nat→AV} {st:Store} {a:Act} {w:World} (G:List Nat) (h:GR wi mi nt ok R env st a w) :
 GR wi mi nt (fun id=>id<(Av.settle G 0 env st).st.length) R (aT (Av.settle G 0 env st).env) (bD (Av.settle G 0 env st).st) a w:=by
 obtain⟨⟨m,φ,hi,henv,hadv,hok,hK⟩,hsz,hdf⟩:=h;unfold Av.settle uZ;generalize hids:gH st 0 (vQ env G)=ids;have hd:ids.Nodup:=by rw[← hids];exact fU _ _ _
 refine⟨⟨m,eD ids φ,hi.keep hd,?_,hadv.keep (fun id h=>absurd rfl h) (fun j hj=>absurd hj (xZ j)),?_,hR _ _ _ ids hK⟩,hsz,hdf⟩
 ·intro t
  have key:∀ G:List Nat,Rep m (eD ids φ) (aT (mD (fH ids) env G) t) (a.tmps.getD t undef):=by
   intro G
   induction G with
   | nil=>exact .junk _
   | cons u G ih =>
    simp only[mD,aT];by_cases e:t=u
    ·subst e;simp only[if_true];exact(henv t).ren (kW ids φ)
    ·simp only[e,if_false];exact ih
  exact key G
 ·intro id hne;simp only[fQ];unfold eD at hne
  cases hx:ids[id]? with
  | none=>rw[hx]at hne;exact absurd rfl hne
  | some i=>exact(zZ.1 hx).1
theorem GR.envTo {ok:Nat→Prop} {R:World→Mem→Pl→Prop} {env env':Nat→AV} {st:Store} {a:Act} {w:World} (h:GR wi mi nt ok R env st a w) (he:∀ t,env' t=.junk∨env' t=env t):GR wi mi nt ok R env' st a w:=by
 refine h.turn fun m φ h1 h2 h3 h4 h5=>⟨m,φ,h1,fun t=>?_,h3,h4,h5⟩
 rcases he t with e|e
 ·rw[e];exact .junk _
 ·rw[e];exact h2 t
theorem GR.ok' {ok ok':Nat→Prop} {R:World→Mem→Pl→Prop} {env:Nat→AV} {st:Store} {a:Act} {w:World} (h:GR wi mi nt ok R env st a w) (he:∀ id,ok id→ok' id):GR wi mi nt ok' R env st a w :=
 h.turn fun m φ h1 h2 h3 h4 h5=>⟨m,φ,h1,h2,h3,fun id hi=>he id (h4 id hi),h5⟩
theorem GR.AM6 {C:Ctx} (hS:SoundOk C) {G:List Nat} {c:Code} {S:AS} {a:Act} {w:World} {R:World→Mem→Pl→Prop} (hR:ABD R) {PP:AExit→AS→Prop} (hc:codeOk nt c=true) (hx:∃ e S',eT C G S.st.length c S=some (e,S')∧PP e S') (h:GR wi mi nt (fun id=>id<S.st.length) R (aT S.env) (bD S.st) a w) (hnr:bL c=true:=by rfl) :
 c.wp C.P (fun e' a' w'=>∃ e S',e'=kX e∧PP e S'∧GR wi mi nt (fun id=>id<S'.st.length) R (aT S'.env) (bD S'.st) a' w') a w:=by
 obtain⟨e,S',h1,h2⟩:=hx;refine wp_mono (GR.fC hS hR hc h1 h hnr) ?_;rintro e' a' w' ⟨rfl,hg⟩;exact⟨e,S',rfl,h2,hg⟩
end
@[simp] theorem wR (a:List Value):(bX a).length=a.length:=by simp[bX]
theorem NJ {α:Type}:∀ (a b:List α) (n:Nat),dropE (a.length+n) (a++b)=dropE n b
 | [],b,n=>by simp
 | x::a,b,n=>by
  rw[zO,show a.length+1+n=(a.length+n)+1 by omega];exact NJ a b n
theorem G5 {α:Type}:∀ (a b:List α) (n:Nat) (xs:List α),splice (a++b) (a.length+n) xs=bnd (splice b n xs) fun l=>some (a++l)
 | [],b,n,xs=>by simp;cases splice b n xs<;>rfl
 | x::a,b,n,xs=>by
  rw[zO,show a.length+1+n=(a.length+n)+1 by omega];show bnd (splice (a++b) (a.length+n) xs) _=_;rw[G5 a b n xs]
  cases splice b n xs<;>rfl
theorem JY (pre post:List Value) (row:List AV) (j n:Nat):cut (jD pre row post) (pre.length+j) n=cut (row++bX post) j n:=by
 unfold cut jD;have:=NJ (bX pre) (row++bX post) j;rw[wR]at this;rw[this]
theorem nI (pre post:List Value) (row:List AV) (j:Nat) (xs:List AV):splice (jD pre row post) (pre.length+j) xs=bnd (splice (row++bX post) j xs) fun l=>some (bX pre++l):=by
 unfold jD;have:=G5 (bX pre) (row++bX post) j xs;rw[wR]at this;exact this
theorem DR (a:List Value):aX (bX a)=[]:=by
 induction a with
 | nil=>rfl
 | cons v a ih=>simpa [bX,aX,dD]using ih
theorem GI (r:Nat→Option Nat) (a:List Value):wK r (bX a)=bX a:=by
 induction a with
 | nil=>rfl
 | cons v a ih=>simpa [bX,wK,ren]using ih
theorem UZ (a b:List AV):aX (a++b)=aX a++aX b:=by
 induction a with
 | nil=>rfl
 | cons c a ih=>simp[aX,ih]
theorem ACE (r:Nat→Option Nat) (a b:List AV):wK r (a++b)=wK r a++wK r b:=by
 induction a with
 | nil=>rfl
 | cons c a ih=>simp[wK,ih]
theorem bA (pre post:List Value) (row:List AV):aX (jD pre row post)=aX row:=by
 simp[jD,UZ,DR]
theorem bJ (r:Nat→Option Nat) (pre post:List Value) (row:List AV):wK r (jD pre row post)=jD pre (wK r row) post:=by
 simp[jD,ACE,GI]
section
variable (pre post:List Value) (a0 a1 a2 a3 a4 x:AV)
theorem APJ:cut (jD pre [a0,a1,a2,a3,a4] post) (pre.length+2) 1=some [a2]:=by rw[JY];rfl
theorem API:cut (jD pre [a0,a1,a2,a3,a4] post) (pre.length+3) 1=some [a3]:=by rw[JY];rfl
theorem APH:cut (jD pre [a0,a1,a2,a3,a4] post) (pre.length+4) 1=some [a4]:=by rw[JY];rfl
theorem UF:splice (jD pre [a0,a1,a2,a3,a4] post) (pre.length+2) [x]=some (jD pre [a0,a1,x,a3,a4] post):=by rw[nI];rfl
theorem AC2:splice (jD pre [a0,a1,a2,a3,a4] post) (pre.length+3) [x]=some (jD pre [a0,a1,a2,x,a4] post):=by rw[nI];rfl
theorem LY:splice (jD pre [a0,a1,a2,a3,a4] post) (pre.length+4) [x]=some (jD pre [a0,a1,a2,a3,x] post):=by rw[nI];cases post<;>rfl
theorem AIS:tN 1 (dropE (pre.length+2) (jD pre [a0,a1,a2,a3,a4] post))=some [a2]:=APJ pre post a0 a1 a2 a3 a4
theorem AN0:tN 1 (dropE (pre.length+3) (jD pre [a0,a1,a2,a3,a4] post))=some [a3]:=API pre post a0 a1 a2 a3 a4
theorem TV:tN 1 (dropE (pre.length+4) (jD pre [a0,a1,a2,a3,a4] post))=some [a4]:=APH pre post a0 a1 a2 a3 a4
end
mutual
theorem TH.APY {w:World} {m m':Mem} (hm:MLe m m') {x:Pn} {b o:Nat} {F:List Nat} {H:PL}:TH w m x b o F H→(∀ j,o≤j→j<o+5→m' b j=w.cell? ⟨b,j,none⟩)→(∀ f∈F,∀ j,m' f j=w.cell? ⟨f,j,none⟩)→IAt m' b o x.cells
 | .fresh h1 h2,hb,hF=>by
  refine IAt.mk o (h1.mono hm) fun j v hj=>?_
  rcases j with _|_|_|_|_|j
  ·simp at hj;subst hj;exact(hb _ (by omega) (by omega)).trans h2.c0
  ·simp at hj;subst hj;exact(hb _ (by omega) (by omega)).trans h2.c1
  ·simp at hj;subst hj;exact(hb _ (by omega) (by omega)).trans h2.c2
  ·simp at hj;subst hj;exact(hb _ (by omega) (by omega)).trans h2.c3
  ·simp at hj;subst hj;exact(hb _ (by omega) (by omega)).trans h2.c4
  ·simp at hj
 | .leaf h1 h2 h3 h4,hb,hF=>by
  rw[Pn.dP];have o2:(∀ es v,IRep m (.isl es) v→v.oneCell'=true):=fun es v h=>by cases h<;>rfl
  exact .cons ((hb _ (by omega) (by omega)).trans h1.c0) (.lit _) rfl (.cons ((hb _ (by omega) (by omega)).trans h1.c1) (.lit _) rfl (.cons ((hb _ (by omega) (by omega)).trans h1.c2) (h2.mono hm) (o2 _ _ h2) (.cons ((hb _ (by omega) (by omega)).trans h1.c3) (h3.mono hm) (o2 _ _ h3) (.cons ((hb _ (by omega) (by omega)).trans h1.c4) (.isl0 _ _ h4) rfl (.nil _ _)))))
 | .node h1 h2 h3 h4 h5 h6,hb,hF=>by
  rename_i ks b' cap vE vC F;rw[Pn.dP];have o2:(∀ es v,IRep m (.isl es) v→v.oneCell'=true):=fun es v h=>by cases h<;>rfl
  have he:=THL.AOX hm h6 (fun j _ _=>hF b' (by simp) j) (fun f hf=>hF f (by simp[hf]));have hl:(Pn.aB ks).length=ks.length:=by simp
  have hn:Pn.aB ks≠[]:=fun e=>by rw[e]at hl;simp at hl;exact h4 (zX.1 hl.symm)
  have hk:IRep m' (.isl (Pn.aB ks)) (.slice (some ⟨b',0,none⟩) ks.length cap):=by
   have:=IRep.isl (cap:=cap) hn he (by omega)
   rwa [hl]at this
  exact .cons ((hb _ (by omega) (by omega)).trans h1.c0) (.lit _) rfl (.cons ((hb _ (by omega) (by omega)).trans h1.c1) (.lit _) rfl (.cons ((hb _ (by omega) (by omega)).trans h1.c2) (h2.mono hm) (o2 _ _ h2) (.cons ((hb _ (by omega) (by omega)).trans h1.c3) (h3.mono hm) (o2 _ _ h3) (.cons ((hb _ (by omega) (by omega)).trans h1.c4) hk rfl (.nil _ _)))))
theorem THL.AOX {w:World} {m m':Mem} (hm:MLe m m') {xs:List Pn} {b o:Nat} {F:List Nat} {H:PL}:THL w m xs b o F H→(∀ j,o≤j→j<o+5*xs.length→m' b j=w.cell? ⟨b,j,none⟩)→(∀ f∈F,∀ j,m' f j=w.cell? ⟨f,j,none⟩)→IElems m' b o 5 (Pn.aB xs)
 | .nil b o,hb,hF=>by simp only[Pn.aB];exact .nil b o 5
 | .cons h1 h2,hb,hF=>by
  simp only[Pn.aB];exact .cons (TH.APY hm h1 (fun j l1 l2=>hb j l1 (by simp only[zO];omega)) (fun f hf=>hF f (by simp[hf]))) (Pn.d9 _) (THL.AOX hm h2 (fun j l1 l2=>hb j (by omega) (by simp only[zO];omega)) (fun f hf=>hF f (by simp[hf])))
end
theorem THL.nth {w:World} {m:Mem} {b:Nat}:∀ {xs:List Pn} {o:Nat} {F:List Nat} {i:Nat} {x:Pn},THL w m xs b o F []→xs[i]?=some x →
 ∃ Fa Fi Fz,F=Fa++(Fi++Fz)∧TH w m x b (o+5*i) Fi []∧∀ {w':World} {m':Mem} {y:Pn} {G:List Nat} {HY:PL},MLe m m'→(∀ j,o≤j→j<o+5*xs.length→(j<o+5*i∨o+5*i+5≤j)→w'.cell? ⟨b,j,none⟩=w.cell? ⟨b,j,none⟩) →
   (∀ f∈Fa++Fz,∀ j,w'.cell? ⟨f,j,none⟩=w.cell? ⟨f,j,none⟩)→TH w' m' y b (o+5*i) G HY→THL w' m' (xs.set i y) b o (Fa++(G++Fz)) HY:=by
 intro xs
 induction xs with
 | nil=>intro o F i x _ h;simp at h
 | cons a xs ih =>
  intro o F i x h hx;generalize hH:([]:PL)=H at h
  cases h with
  | @cons _ _ _ _ F1 F2 H1 H2 h1 h2 =>
   obtain⟨rfl,rfl⟩:=List.append_eq_nil_iff.1 hH.symm
   cases i with
   | zero =>
    simp at hx;subst hx;refine⟨[],F1,F2,by simp,by simpa using h1,fun {w' m' y G HY} hm hw hF hy=>?_⟩;have k2:=THL.frame hm (fun j l1 l2=>hw j (by omega) (by simp only[zO];omega) (.inr (by omega))) (fun f hf=>hF f (by simp[hf])) h2;have:=THL.cons hy k2;simpa using this
   | succ i =>
    obtain⟨Fa,Fi,Fz,e,h3,h4⟩:=ih h2 (by simpa using hx);subst e;refine⟨F1++Fa,Fi,Fz,by simp,by rw[show o+5*(i+1)=o+5+5*i by omega];exact h3,fun {w' m' y G HY} hm hw hF hy=>?_⟩;rw[show o+5*(i+1)=o+5+5*i by omega]at hy;have k1:=TH.frame hm (fun j l1 l2=>hw j l1 (by simp only[zO];omega) (.inl (by omega))) (fun f hf=>hF f (by simp[hf])) h1;have k2:=h4 hm (fun j l1 l2 l3=>hw j (by omega) (by simp only[zO];omega) (by omega)) (fun f hf=>hF f (by rcases zT.1 hf with h|h<;>simp[h])) hy;have:=THL.cons k1 k2;simpa using this
theorem ACF {path:List Int} {x y z:Pn} {i:Nat} (h:Pn.at path x=some y):Pn.put (path++[(i:Int)]) x z=Pn.put path x (.mk y.kind y.table y.exprs y.cols (y.kids.set i z)):=by
 induction path generalizing x with
 | nil =>
  simp only[Pn.at,Option.some.injEq]at h;subst h
  cases hk:x.kids[i]? with
  | none =>
   have:x.kids.length≤i:=by simpa using hk
   simp[Pn.put,hk,List.set_eq_of_length_le this,Pn.eta]
  | some k=>simp[Pn.put,hk]
 | cons j path ih =>
  simp only[Pn.at]at h;split at h
  ·rename_i h0
   cases hk:x.kids[j.toNat]? with
   | none=>rw[hk]at h;cases h
   | some k =>
    rw[hk]at h;have:=ih h;simp[Pn.put,hk,this]
  ·cases h
structure AtP (w:World) (m:Mem) (x:Pn) (b o:Nat) (F:List Nat) (path:List Int) (y:Pn) (bq oq:Nat) (Fa Fy Fz:List Nat):Prop where
 eq:F=Fa++(Fy++Fz)
 inb:bq∈b::Fa
 nr:b ∉ F
 nd:F.Nodup
 is:Pn.at path x=some y
 th:TH w m y bq oq Fy []
 fill:∀ {w':World} {m':Mem} {y':Pn} {G:List Nat} {HY:PL},MLe m m'→(∀ f∈b::(Fa++Fz),∀ j,(f≠bq∨j<oq∨oq+5≤j)→w'.cell? ⟨f,j,none⟩=w.cell? ⟨f,j,none⟩)→TH w' m' y' bq oq G HY→TH w' m' (Pn.put path x y') b o (Fa++(G++Fz)) HY
theorem AtP.start {w:World} {m:Mem} {x:Pn} {b o:Nat} {F:List Nat} (h:TH w m x b o F []) (hr:b ∉ F) (hn:F.Nodup):AtP w m x b o F [] x b o [] F [] :=
 ⟨by simp,by simp,hr,hn,rfl,h,fun _ _ hy=>by simpa [Pn.put]using hy⟩
theorem AtP.mem {w:World} {m:Mem} {x:Pn} {b o:Nat} {F:List Nat} {path:List Int} {y:Pn} {bq oq:Nat} {Fa Fy Fz:List Nat} (h:AtP w m x b o F path y bq oq Fa Fy Fz):bq∈b::F:=by
 rw[h.eq]
 rcases zQ.1 h.inb with e|e
 ·simp[e]
 ·simp[e]
theorem AtP.frame {w w':World} {m m':Mem} {x:Pn} {b o:Nat} {F:List Nat} {path:List Int} {y:Pn} {bq oq:Nat} {Fa Fy Fz:List Nat} (h:AtP w m x b o F path y bq oq Fa Fy Fz) (hm:MLe m m') (hF:∀ f∈b::F,∀ j,w'.cell? ⟨f,j,none⟩=w.cell? ⟨f,j,none⟩):AtP w' m' x b o F path y bq oq Fa Fy Fz:=by
 refine⟨h.eq,h.inb,h.nr,h.nd,h.is,h.th.frame hm (fun j _ _=>hF bq h.mem j) (fun f hf j=>hF f (by rw[h.eq];simp[hf]) j),fun hm' hw hy=>h.fill (hm.trans hm') (fun f hf j hj=>?_) hy⟩;rw[hw f hf j hj];refine hF f ?_ j;rw[h.eq]
 rcases zQ.1 hf with e|e
 ·simp[e]
 ·rcases zT.1 e with e|e<;>simp[e]
theorem AtP.step {w:World} {m:Mem} {x:Pn} {b o:Nat} {F:List Nat} {path:List Int} {y z:Pn} {bq oq:Nat} {Fa Fy Fz:List Nat} {i:Nat} (h:AtP w m x b o F path y bq oq Fa Fy Fz) (hz:y.kids[i]?=some z) :
 ∃ b' cap,w.cell? ⟨bq,oq+4,none⟩=some (.slice (some ⟨b',0,none⟩) y.kids.length cap)∧y.kids.length≤cap∧∃ Fa' Fy' Fz',AtP w m x b o F (path++[(i:Int)]) z b' (5*i) Fa' Fy' Fz':=by
 have ht:=h.th;have hFq:=h.eq;generalize hH:([]:PL)=H at ht
 cases ht with
 | fresh=>cases hH
 | leaf h1 h2 h3 h4=>simp[Pn.kids]at hz
 | @node k t es cs ks _ _ b' cap vE vC F1 _ h1 h2 h3 h4 h5 h6 =>
  subst hH;have hz:ks[i]?=some z:=hz;obtain⟨Ga,Gi,Gz,e,t1,t2⟩:=h6.nth hz;subst e;have hnd:=h.nd;rw[hFq]at hnd;have hnr:=h.nr;rw[hFq]at hnr
  have hne:bq≠b':=by
   intro e
   rcases zQ.1 h.inb with e'|e'
   ·exact hnr (by rw[← e',e];simp)
   ·rw[yT]at hnd;exact hnd.2.2 _ e' b' (by simp) e
  refine⟨b',cap,h1.c4,h5,Fa++(b'::Ga),Gi,Gz++Fz,by rw[hFq];simp,by simp,h.nr,h.nd,?_,by simpa using t1,fun {w' m' y' G HY} hm hw hy=>?_⟩
  ·rw[uO path x _ [(i:Int)] h.is];simp[Pn.at,Pn.kids,hz]
  ·rw[ACF h.is]
   have hK:THL w' m' (ks.set i y') b' 0 (Ga++(G++Gz)) HY:=by
    refine t2 hm (fun j _ _ hj=>hw b' (by simp) j (.inr (by omega))) (fun f hf j=>hw f (by rcases zT.1 hf with e|e<;>simp[e]) j (.inl ?_)) (by simpa using hy);intro e;subst e;have hb:=(yT.1 hnd).2.1;simp only[yD,yR]at hb;exact hb.1 (by rcases zT.1 hf with e|e<;>simp[e])
   have hlen:(ks.set i y').length=ks.length:=by simp
   have hn:ks.set i y'≠[]:=fun e=>by rw[e]at hlen;simp at hlen;exact h4 (zX.1 hlen.symm)
   have hbq:bq∈b::((Fa++b'::Ga)++(Gz++Fz)):=by
    rcases zQ.1 h.inb with e'|e'
    ·simp[e']
    ·simp[e']
   have hA:=h1.frame (w':=w') (fun j l1 l2=>hw bq hbq j (.inl hne));rw[← hlen]at hA
   have hY:TH w' m' (.mk k t es cs (ks.set i y')) bq oq (b'::(Ga++(G++Gz))) HY :=
    .node hA (h2.mono hm) (h3.mono hm) hn (by rw[hlen];exact h5) hK
   have:=h.fill hm (fun f hf j hj=>hw f (by
    rcases zQ.1 hf with e|e
    ·simp[e]
    ·rcases zT.1 e with e|e<;>simp[e]) j (by
    by_cases e:f=b'
    ·subst e;exfalso
     rcases zQ.1 hf with e|e
     ·exact hnr (by rw[← e];simp)
     ·rcases zT.1 e with e|e
      ·exact(yT.1 hnd).2.2 _ e f (by simp) rfl
      ·have hb:=(yT.1 hnd).2.1;simp only[yD,yR]at hb;exact hb.1 (by simp[e])
    ·exact .inl e)) hY
   simpa [Pn.kind,Pn.table,Pn.exprs,Pn.cols,Pn.kids]using this
end Go.Av

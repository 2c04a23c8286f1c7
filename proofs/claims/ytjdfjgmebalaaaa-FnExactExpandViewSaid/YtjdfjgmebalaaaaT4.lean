/- Part 4 of what the proof rests on: the executor and what it is worth, and the program's functions as it runs them. No condition. -/
import Derived.Test.YtjdfjgmebalaaaaT3
set_option linter.unusedVariables false
set_option linter.unusedSimpArgs false
namespace Go.Av.Mk
open Go Go.Av
set_option maxRecDepth 4000
theorem AL {C:Ctx} (hS:SoundOk C) {W nt b N n i:Nat} {us:List Value} {q:Int} {a:Act} {w:World} (g:MG W nt b N n us q (.int i) a w) {id base:Nat} {ops:Array Oper} {os1:List Oper} {R1:RS} {ts tk td:Nat} {h:FuncId} {fn:Func} {tys:Array TypeId} {ty ty':TypeId} {pos pos':String} {after after':Array Edge} {u:Value} {s:Nat} {Fu:List Nat} {K:World→World→Prop}
 (hops:ops.toList=os1++[⟨some td, .call ⟨.value (.func h),#[.tmp ts, .tmp tk],tys⟩,ty,pos,after,none⟩,⟨some 1, .assign (.tmp td),ty',pos',after',none⟩]) (hs:ops.all (gI nt)=true) (hb:1≤base)
 (hx:bT C (aH C) ops.toList false base os1 0 ⟨aQ (MS W n (rowsOf W n us) q .junk (.int i) .junk).env,aS (MS W n (rowsOf W n us) q .junk (.int i) .junk).st,[]⟩=some R1)
 (e0:R1.env 0=.osl 0 W 0 n) (e1:R1.env 1=.int q) (e5:R1.env 5=.int i) (es:R1.env ts=.i (.lit u)) (ek:R1.env tk=.int q) (est:R1.st 0=some (.arr W (rowsOf W n us)))
 (d0:td≠0) (d1:td≠1) (d5:td≠5) (dn:td<nt) (d2:6≤nt)
 (g1:C.P.funcs[h]?=some fn) (g2:fn.name≠ "runtime.NumGoroutine") (g3:fn.body≠none)
 (hc:∀ w1,Fr w w1 [b]→Calls C.P h #[u, .int .i64 q] w1 (fun en w2=>en=.returned (.int .i64 (q+s))∧Fr w1 w2 Fu∧K w1 w2)) (hbF:b ∉ Fu) :
 (Code.region id ops false).wp C.P (fun e a' w'=>e=.normal∧∃ us',MG W nt b N n us' (q+s) (.int i) a' w'∧us'.take (W*n)=us.take (W*n)∧∃ w1,Fr w w1 [b]∧Fr w1 w' Fu∧K w1 w') a w:=by
 have r8:=g.to
 have hlen:∀ {C:Prop},ops.toList.length=os1.length+2→(ops.toList[os1.length]?=some ⟨some td, .call ⟨.value (.func h),#[.tmp ts, .tmp tk],tys⟩,ty,pos,after,none⟩→ops.toList[os1.length+1]?=some ⟨some 1, .assign (.tmp td),ty',pos',after',none⟩→C)→C:=by
  intro C _ k;refine k ?_ ?_<;>rw[hops]<;>simp
 refine RV hS hops (fun o ho=>yJ.1 hs o ho) hx ⟨⟨r8.1.out.choose,r8.1.out.choose_spec.choose,r8.1.out.choose_spec.choose_spec.1,r8.1.out.choose_spec.choose_spec.2.1,r8.1.out.choose_spec.choose_spec.2.2.1,fun id hne=>zK (by simpa [MS]using r8.1.out.choose_spec.choose_spec.2.2.2.1 id hne) hb,r8.1.out.choose_spec.choose_spec.2.2.2.2⟩,r8.1.size,r8.1.defers⟩ ?_;intro x9 y9 r9;refine hlen (by rw[hops];simp) fun ho1 ho2=>?_
 rw[yB]at ho1 ho2
 have v48:x9.tmps.getD ts undef=u:=by
  obtain⟨⟨m,φ,_,henv,_⟩,_⟩:=r9;have h48:=henv ts;rw[es]at h48;exact h48.bJ
 have v49:x9.tmps.getD tk undef=.int .i64 q:=by
  obtain⟨⟨m,φ,_,henv,_⟩,_⟩:=r9;have h49:=henv tk;rw[ek]at h49;exact h49.bJ
 obtain⟨us9,g9,e9,f9⟩:=g.of (q':=q) (i':=i) r9 e0 e1 e5 est;refine QU (fn:=fn) (g:=h) ho1 g1 g2 g3 ?_
 have hargs:(#[Operand.tmp ts,Operand.tmp tk].map x9.eval)=#[u, .int .i64 q]:=by
  have e1:(#[Operand.tmp ts,Operand.tmp tk].map x9.eval)=#[x9.eval (.tmp ts),x9.eval (.tmp tk)]:=by simp
  rw[e1];show #[x9.tmps.getD ts undef,x9.tmps.getD tk undef]=_
  rw[v48,v49]
 rw[hargs];refine(hc y9 f9).mono ?_;rintro en y10 ⟨rfl,f10,hK⟩;refine⟨_,rfl,?_⟩;refine N8 ho2 ?_;have hs9:nt≤x9.tmps.size:=g9.size
 have hev:(x9.put (some td) (.int .i64 (q+s))).eval (.tmp td)=.int .i64 (q+s):=by
  show(x9.put (some td) _).tmps.getD td undef=_;rw[J3 (by omega),if_pos rfl]
 rw[hev];generalize hx11:((x9.put (some td) (.int .i64 (q+s))).put (some 1) (.int .i64 (q+s)))=x11;have hsz10:nt≤(x9.put (some td) (.int .i64 (q+s))).tmps.size:=by rw[pE];exact hs9
 have get11:∀ t,t≠1→t≠td→x11.tmps.getD t undef=x9.tmps.getD t undef:=fun t h1 h2=>by
  rw[← hx11,J3 (by omega),if_neg h1,J3 (by omega),if_neg h2]
 have hbs:b<y9.heap.size:=by obtain⟨T,hh,_⟩:=g9.row;exact(zN.1 hh).1
 refine⟨rfl,us9,⟨?_,g9.len,g9.fit,g9.pos,g9.wpos,?_,?_,?_,?_,?_⟩,e9,y9,f9,f10,hK⟩
 ·obtain⟨T,hh,ho⟩:=g9.row;exact⟨T,(f10.same b hbs hbF).trans hh,ho⟩
 ·rw[get11 0 (by omega) (Ne.symm d0)];exact g9.t0
 ·rw[← hx11,J3 (by omega),if_pos rfl]
 ·rw[get11 5 (by omega) (Ne.symm d5)];exact g9.t5
 ·rw[← hx11,pE,pE];exact hs9
 ·rw[← hx11,kM,kM];exact g9.defers
theorem AAN {C:Ctx} (hS:SoundOk C) {W nt b N n i:Nat} {us us2:List Value} {q q':Int} {a:Act} {w:World} {G:List Nat} {c:Code} {R R':List (List IV)} {j9:AV} (g:MG W nt b N n us q (.int i) a w) (hR:rowsOf W n us=R) (hc:codeOk nt c=true) (hn:bC c=true)
 (hx:dY C G 1 c (MS W n R q .junk (.int i) .junk)=some (.normal,MS W n R' q' .junk (.int i) j9)) (hR':R'=rowsOf W n us2) :
 c.wp C.P (fun e a' w'=>e=.normal∧∃ us',MG W nt b N n us' q' (.int i) a' w'∧us'.take (W*n)=us2.take (W*n)∧Fr w w' [b]) a w:=by
 subst hR hR';refine wp_mono (lZ hS (lI b N) (G:=G) (nt:=nt) hc hx g.to hn) ?_;rintro _ x3 y3 ⟨rfl,r3⟩;obtain⟨us',g',e',f'⟩:=g.of (q':=q') (i':=i) r3.1 rfl rfl rfl rfl;exact⟨rfl,us',g',e',f'⟩
section
variable {X:Type} {cells:X→List IV} {mk:Int→X→X} {sz:X→Nat} {W:Nat}
theorem nW (h:∀ x,1≤sz x):∀ l:List X,l.length≤bI sz l
 | []=>by simp
 | x::l=>by have:=nW h l;have:=h x;simp only[zP,bI];omega
def tV (C:Ctx) {X:Type} (cells:X→List IV) (mk:Int→X→X) (sz:X→Nat) (g:FuncId):Prop :=
 ∀ (l:List X) (w:World) (v:Value) (F:List Nat) (k:Int),TCells w [.isl (l.map cells)] [v] F→F.Nodup→0≤k→k+(bI sz l:Nat)<1000000000000→Calls C.P g #[v, .int .i64 k] w (ABG cells mk sz w v F k l)
theorem tV.of {C:Ctx} (hS:SoundOk C) {g:FuncId} {nt:Nat} {G:List Nat} {fn:Func} {c0 c1 cc body c3 cend:Code} (hg:g≠qJ) (L:MLoop C g W nt G fn c0 c1 cc body c3 cend) (hW:∀ x,(cells x).length=W) (hW0:0<W) (h1:∀ x,1≤sz x)
 (hR:∀ x,OU C cells mk sz W nt body x):tV C cells mk sz g:=fun l w v F k hT hnd hk0 hk1 =>
 JE hS hg L hW hW0 (fun x _=>hR x) hT hnd hk0 hk1 (by have:=nW h1 l;omega)
def kL (cells:X→List IV) (W:Nat) (l:List X):Blk:=if l=[]then .arr W []else .tre W (l.map cells)
@[simp] theorem AHN (r:Nat→Option Nat) (l:List X):tX r (some (kL cells W l))=some (kL cells W l):=by unfold kL;split<;>rfl
@[simp] theorem AES (l:List X):fI (some (kL cells W l))=[]:=by unfold kL;split<;>rfl
theorem pF (h:∀ x,l9 (cells x)=true):∀ l:List X,jH (l.map cells)=true
 | []=>rfl
 | x::l=>by simp only[yS,jH,h x,pF h l,Bool.and_self]
@[simp] theorem AJP (h:∀ x,l9 (cells x)=true) (l:List X):mfB (some (kL cells W l))=true:=by
  unfold kL;split
  ·rfl
  ·simp only[mfB];exact pF h l
theorem kV {l:List X} (h:l≠[]):kL cells W l=.tre W (l.map cells):=by simp[kL,h]
theorem WV {cells:X→List IV} (h:∀ x y,cells x=cells y→x=y):∀ {l m:List X},l.map cells=m.map cells→l=m
 | [],[],_=>rfl
 | [],_::_,e=>by simp at e
 | _::_,[],e=>by simp at e
 | x::l,y::m,e=>by
  simp only[yS,List.cons.injEq]at e;rw[h x y e.1,WV h e.2]
theorem ZJ (hi:∀ x y,cells x=cells y→x=y) {l m:List X} (h:kL cells W l=kL cells W m):l=m:=by
 unfold kL at h;split at h<;>split at h
 ·rename_i h1 h2;rw[h1,h2]
 ·cases h
 ·cases h
 ·injection h with _ h;exact WV hi h
noncomputable def qW (cells:X→List IV) (mk:Int→X→X) (sz:X→Nat) (W:Nat):List AV→StL→Option (AV×StL)
 | [.osl 0 W' 0 n, .i (.lit (.int .i64 k))],[some B] =>
  @dite _ (W'=W∧∃ l:List X,B=kL cells W l∧l.length=n∧0≤k∧k+(bI sz l:Nat)<1000000000000) (Classical.propDecidable _)
   (fun h=>some (.int (k+(bI sz h.2.choose:Nat)),[some (kL cells W (eF mk sz k h.2.choose))])) fun _=>none
 | [.i (.isl []), .i (.lit (.int .i64 k))],[]=>tst (decide (0≤k∧k<1000000000000)) (some (.int k,[]))
 | [.nils, .i (.lit (.int .i64 k))],[]=>tst (decide (0≤k∧k<1000000000000)) (some (.int k,[]))
 | _,_=>none
theorem PR (hi:∀ x y,cells x=cells y→x=y) {l:List X} {k:Int} (h0:0≤k) (h1:k+(bI sz l:Nat)<1000000000000):qW cells mk sz W [.osl 0 W 0 l.length, .int k] [some (kL cells W l)]=some (.int (k+(bI sz l:Nat)),[some (kL cells W (eF mk sz k l))]):=by
 have h:W=W∧∃ m:List X,kL cells W l=kL cells W m∧m.length=l.length∧0≤k∧k+(bI sz m:Nat)<1000000000000:=⟨rfl,l,rfl,rfl,h0,h1⟩
 unfold qW;simp only;rw[dif_pos h];have e:l=h.2.choose:=ZJ hi h.2.choose_spec.1;rw[← e]
theorem SC {args:List AV} {st:StL} {r:AV×StL} (h:qW cells mk sz W args st=some r) :
 (∃ (l:List X) (k:Int),args=[.osl 0 W 0 l.length, .int k]∧st=[some (kL cells W l)]∧0≤k∧k+(bI sz l:Nat)<1000000000000∧r=(.int (k+(bI sz l:Nat)),[some (kL cells W (eF mk sz k l))])) ∨
 ∃ k:Int,(args=[.i (.isl []), .int k]∨args=[.nils, .int k])∧st=[]∧0≤k∧k<1000000000000∧r=(.int k,[]):=by
 unfold qW at h;split at h
 ·rename_i W' n k B;by_cases hc:W'=W∧∃ l:List X,B=kL cells W l∧l.length=n∧0≤k∧k+(bI sz l:Nat)<1000000000000
  ·rw[dif_pos hc]at h;injection h with h;obtain⟨s1,s2,s3,s4⟩:=hc.2.choose_spec;exact .inl ⟨hc.2.choose,k,by rw[s2,hc.1],by rw[← s1],s3,s4,h.symm⟩
  ·rw[dif_neg hc]at h;cases h
 ·rename_i k;obtain⟨h1,h2⟩:=aM.1 h;injection h2 with h2;obtain⟨h3,h4⟩:=zR h1;exact .inr ⟨k, .inl rfl,rfl,h3,h4,h2.symm⟩
 ·rename_i k;obtain⟨h1,h2⟩:=aM.1 h;injection h2 with h2;obtain⟨h3,h4⟩:=zR h1;exact .inr ⟨k, .inr rfl,rfl,h3,h4,h2.symm⟩
 ·cases h
theorem GY {C:Ctx} {g:FuncId} (hM:tV C cells mk sz g) (hW:∀ x,(cells x).length=W) (hP:∀ x,l9 (cells x)=true) {args:List AV} {stl stl':StL} {r:AV} (h:qW cells mk sz W args stl=some (r,stl')) (w:World) (m:Mem) (φ:Pl) (vs:List Value) (hi:Inv w m φ (aS stl)) (hr:RepL m φ args vs) (hb:∀ id,φ id≠none→id<stl.length) :
 Calls C.P g vs.toArray w (dC w m φ r stl'):=by
 have empty:∀ (v:Value) (k:Int) (st:StL),TCells w [.isl []] [v] []→0≤k→k<1000000000000→Inv w m φ (aS st)→(∀ id,φ id≠none→id<st.length)→Calls C.P g #[v, .int .i64 k] w (dC w m φ (.int k) st):=by
  intro v k st hT hk0 hk1 hi hb;refine(hM [] w v [] k (by simpa using hT) (by simp) hk0 (by simpa [bI]using hk1)).mono ?_;rintro en w' ⟨rfl,fr,_,_⟩;have hsame:∀ f,f<w.heap.size→w'.heap[f]?=w.heap[f]?:=fun f hf=>fr.same f hf (by simp)
  refine⟨_,m,φ,rfl,?_,⟨fun b o u e=>by rw[cell_of_heap (hsame b (hi.mem.lt e))];exact hi.mem b o u e,?_,hi.inj,fun id b n f e ho=>zK (hi.low id b n f e ho) fr.size⟩,⟨fr.size,fr.os,fr.tape,fr.output,fun b hb _=>hsame b hb, .refl _,fun _ _ _ _=>rfl, .refl _,fun _ _ _ _ e ho=>.inr (fK.not e ho)⟩,hb⟩
  ·simp[bI];exact .i (.lit _)
  ·intro id blk e;obtain⟨b,n,q1,q2,q3⟩:=hi.live id blk e;exact⟨b,n,q1,⟨q2.1,fun f hf=>zK (q2.2 f hf) fr.size⟩,q3.mono q2.1 (fun f hf=>hsame f (q2.2 f hf)) (.refl _) (.refl _) fun _ _ _=>rfl⟩
 rcases SC h with ⟨l,k,rfl,rfl,hk0,hk1,hrr⟩|⟨k,ha,rfl,hk0,hk1,hrr⟩
 ·injection hrr with e1 e2;subst e1;subst e2
  cases hr with
  | cons ra rb =>
   cases rb with
   | cons rk rn =>
    cases rn
    cases rk with
    | i rk =>
     cases rk
     cases ra with
     | @osl _ _ _ _ cap b n ao eφ hlc hcap ha1 ha2 =>
      by_cases hl:l=[]
      ·subst hl;have:=empty (.slice ao 0 cap) k [some (kL cells W [])] (.isl0 ha2 .nil) hk0 (by simpa [bI]using hk1) hi hb;simpa [bI,eF]using this
      ·have hln:0<l.length:=xW.2 hl;have hst:aS [some (kL cells W l)] 0=some (.tre W (l.map cells)):=by rw[kV hl];rfl
       obtain⟨hown,hok⟩:=bX hi eφ hst;have hao:=ha1 (by omega);subst hao
       cases hok with
       | @tre T kk es us F hh hlen hpos hw1 hcu hfit hnd hF hm hone =>
        have hc:=hcu.pure (jB (pF hP l));have hcl:(l.map cells).length=l.length:=by simp
        have hne:l.map cells≠[]:=fun h=>by rw[h]at hcl;simp at hcl;omega
        have hT:TCells w [.isl (l.map cells)] [.slice (some ⟨b,W*0,none⟩) l.length cap] (b::F++[]):=by
         have:=TCells.isl (w:=w) (b:=b) (k:=W) (cap:=cap) (us:=us) (G:=F) hne ⟨T,hh,hone⟩ hpos hw1 (by rw[hlen];simpa using hcap) (by omega) hc .nil
         rwa [hcl]at this
        rw[zO]at hT;refine(hM l w _ (b::F) k hT hnd hk0 hk1).mono ?_;rintro en w' ⟨rfl,fr,ht,hrl⟩;have hmlen:=dL mk sz l k;have hml:eF mk sz k l≠[]:=fun h=>by rw[h]at hmlen;simp at hmlen;omega
        obtain⟨us1,hr1,hl1⟩:=hrl b cap us rfl hl ⟨T,hh,hone⟩
        have hFo:∀ f∈b::F,n.own f:=fun f hf=>by
         rcases zS.1 hf with rfl|hf
         ·exact hown.1
         ·exact hF f hf
        have hsame:∀ f,f<w.heap.size→¬ n.own f→w'.heap[f]?=w.heap[f]?:=fun f hf hno=>fr.same f hf fun h=>hno (hFo f h)
        refine⟨_,m,φ,rfl, .i (.lit _),⟨fun b' o u e=>?_,?_,?_,fun id b n f e ho=>zK (hi.low id b n f e ho) fr.size⟩,⟨fr.size,fr.os,fr.tape,fr.output,fun f hf hfree=>hsame f hf (hfree 0 b n eφ), .refl _,fun _ _ _ _=>rfl, .refl _,fun _ _ _ _ e ho=>.inr (fK.not e ho)⟩,hb⟩
        ·rw[cell_of_heap (hsame b' (hi.mem.lt e) fun ho=>by rw[hm b' ho o]at e;cases e)];exact hi.mem b' o u e
        ·intro id blk e
         cases id with
         | succ id=>simp[aS]at e
         | zero =>
          simp only[aS]at e;rw[kV hml]at e;injection e with e;subst e;refine⟨b,n,eφ,⟨hown.1,fun f hf=>zK (hown.2 f hf) fr.size⟩,?_⟩;have hcm:((eF mk sz k l).map cells).length=l.length:=by rw[zA9,hmlen]
          have hwid:∀ e∈(eF mk sz k l).map cells,e.length=W:=fun e he=>by
           obtain⟨x,_,rfl⟩:=yD.1 he;exact hW x
          generalize hes:(eF mk sz k l).map cells=es2 at ht hcm hwid;generalize hvv:Value.slice (some ⟨b,W*0,none⟩) l.length cap=vv at ht;generalize hFF:b::F=FF at ht
          cases ht with
          | isl0=>simp at hcm;omega
          | @isl b2 k2 cap2 _ us2 G2 _ _ F2 h1 h2 h3 h4 h5 h6 h7 h8 =>
           cases h8
           injection hvv with hv1 hv2 hv3;injection hv1 with hv1;injection hv1 with hv1;subst hv1;simp only[zO,List.cons.injEq,true_and]at hFF;subst hFF;obtain⟨T1,hr1,ho1⟩:=hr1;obtain⟨T2,h2,ho2⟩:=h2;rw[h2]at hr1;injection hr1 with hr1;injection hr1 with hr1 hr2;have hus:us2=us1:=by simpa using congrArg Array.toList hr1
           subst hus
           obtain rfl:k2=W:=by
            cases es2 with
            | nil=>exact absurd rfl h1
            | cons e es=>rw[← h4 e (by simp),hwid e (by simp)]
           exact .tre (T:=T2) h2 (by rw[hl1];exact hlen) h3 h4 h7.toU (by rw[hcm,← hcl];exact hfit) hnd hF hm ho2
        ·intro i j x x' n1 n2 b1 b2 f e1 e2 _ _ _ _
         cases i with
         | succ i=>simp[aS]at e1
         | zero=>cases j with
          | zero=>rfl
          | succ j=>simp[aS]at e2
 ·injection hrr with e1 e2;subst e1;subst e2
  rcases ha with rfl|rfl
  ·cases hr with
   | cons ra rb =>
    cases rb with
    | cons rk rn =>
     cases rn
     cases rk with
     | i rk =>
      cases rk
      cases ra with
      | i ra =>
       cases ra with
       | isl0 ao cap hc=>exact empty _ k [] (.isl0 hc .nil) hk0 hk1 hi hb
       | isl hn=>exact absurd rfl hn
  ·cases hr with
   | cons ra rb =>
    cases rb with
    | cons rk rn =>
     cases rn
     cases rk with
     | i rk =>
      cases rk
      cases ra
      exact empty _ k [] (.isl0 (fun _=>rfl) .nil) hk0 hk1 hi hb
end
end Go.Av.Mk
namespace Go.Av
mutual
def Ex.fat:Ex→Prop
 | .mk _ _ _ ks=>ks.length<9223372036854775808∧Ex.XE ks
def Ex.XE:List Ex→Prop
 | []=>True
 | e::es=>e.fat∧Ex.XE es
end
theorem Ex.sZ:∀ (l:List Ex),Ex.XE l↔∀ k∈l,k.fat
 | []=>by simp[Ex.XE]
 | e::es=>by simp[Ex.XE,Ex.sZ es]
theorem Ex.nA (e:Ex):e.fat↔e.kids.length<9223372036854775808∧∀ k∈e.kids,k.fat:=by
 cases e;simp[Ex.fat,Ex.kids,Ex.sZ]
mutual
def Ex.pU (k:Int):Ex→Ex
 | .mk _ _ _ ks=>.mk k (k+1) ⟨(k+1+1).tmod 3 == 0,k+1+1+1⟩ (Ex.iW (k+1+1+1+1) ks)
def Ex.iW (k:Int):List Ex→List Ex
 | []=>[]
 | e::es=>Ex.pU k e::Ex.iW (k+4*e.size) es
end
theorem Ex.vX:∀ (l:List Ex) (k:Int),(Ex.iW k l).length=l.length
 | [],k=>by simp[Ex.iW]
 | e::es,k=>by simp[Ex.iW,Ex.vX es]
theorem Ex.LK:∀ (l:List Ex) (k:Int) {i:Nat} {a:Ex},l[i]?=some a→(Ex.iW k l)[i]?=some (Ex.pU (k+4*(Ex.aL (l.take i):Nat)) a)
 | [],k,i,a,h=>by simp at h
 | e::es,k,0,a,h=>by simp at h;subst h;simp[Ex.iW,Ex.aL]
 | e::es,k,i+1,a,h=>by
  have:=Ex.LK es (k+4*e.size) (i:=i) (a:=a) (by simpa using h);simp only[Ex.iW,xQ,yP,Ex.aL];rw[this];congr 2;push_cast;omega
theorem Ex.CK (k:Int) (a:Ex):(Ex.pU k a).cells=[.int k, .int (k+1), .bool ((k+1+1).tmod 3 == 0), .int (k+1+1+1), .isl (Ex.aA (Ex.iW (k+1+1+1+1) a.kids))]:=by
 cases a;simp[Ex.pU,Ex.cells,Ex.kids]
theorem Ex.aU:∀ l:List Ex,Ex.aA l=l.map Ex.cells
 | []=>rfl
 | e::l=>by simp[Ex.aA,Ex.aU l]
theorem Pn.aU:∀ l:List Pn,Pn.aA l=l.map Pn.cells
 | []=>rfl
 | e::l=>by simp[Pn.aA,Pn.aU l]
def AHY (n:Int):List IV:=[.int n]
def AFV (q:Int) (_:Int):Int:=q
def AC8 (_:Int):Nat:=1
theorem sS:∀ (l:List Int),aF l=l.map AHY
 | []=>rfl
 | n::l=>by have:=sS l;simp only[yS,← this];simp[aF,AHY]
abbrev vU (k:Int) (l:List Int):List Int:=Mk.eF AFV AC8 k l
theorem rZ:∀ l:List Int,Mk.bI AC8 l=l.length
 | []=>rfl
 | n::l=>by simp only[Mk.bI,rZ l,AC8,zP];omega
def exZ (e:Ex):Nat:=4*e.size
theorem oZ:∀ l:List Ex,Mk.bI exZ l=4*Ex.aL l
 | []=>by simp[Mk.bI,Ex.aL]
 | e::l=>by simp only[Mk.bI,oZ l,exZ,Ex.aL];omega
theorem sQ:∀ (l:List Ex) (k:Int),Ex.iW k l=Mk.eF Ex.pU exZ k l
 | [],k=>by simp[Mk.eF,Ex.iW]
 | e::l,k=>by
  simp only[Mk.eF,Ex.iW,sQ l];unfold exZ;push_cast;rfl
mutual
def Pn.mz:Pn→Nat
 | .mk _ _ es cs ks=>2+(4*Ex.aL es+(cs.length+Pn.mzL ks))
def Pn.mzL:List Pn→Nat
 | []=>0
 | p::l=>p.mz+Pn.mzL l
end
mutual
def Pn.nR (k:Int):Pn→Pn
 | .mk _ _ es cs ks=>.mk k (k+1) (Ex.iW (k+1+1) es) (vU (k+1+1+(4*Ex.aL es:Nat)) cs) (Pn.jU (k+1+1+(4*Ex.aL es:Nat)+(cs.length:Nat)) ks)
def Pn.jU (k:Int):List Pn→List Pn
 | []=>[]
 | p::l=>Pn.nR k p::Pn.jU (k+p.mz) l
end
theorem o7:∀ (l:List Pn) (k:Int),Pn.jU k l=Mk.eF Pn.nR Pn.mz k l
 | [],k=>by simp[Mk.eF,Pn.jU]
 | e::l,k=>by simp only[Mk.eF,Pn.jU,o7 l]
theorem oW:∀ l:List Pn,Mk.bI Pn.mz l=Pn.mzL l
 | []=>by simp[Mk.bI,Pn.mzL]
 | e::l=>by simp only[Mk.bI,oW l,Pn.mzL]
theorem Pn.WE (p:Pn):p.mz=2+(4*Ex.aL p.exprs+(p.cols.length+Pn.mzL p.kids)):=by cases p;simp[Pn.mz,Pn.exprs,Pn.cols,Pn.kids]
theorem Pn.CG (k:Int) (p:Pn):(Pn.nR k p).cells=[.int k, .int (k+1), .isl (Ex.aA (Ex.iW (k+1+1) p.exprs)), .isl (aF (vU (k+1+1+(4*Ex.aL p.exprs:Nat)) p.cols)), .isl (Pn.aA (Pn.jU (k+1+1+(4*Ex.aL p.exprs:Nat)+(p.cols.length:Nat)) p.kids))]:=by
 cases p;simp[Pn.nR,Pn.cells,Pn.exprs,Pn.cols,Pn.kids]
end Go.Av
namespace Go.Av.Mk
open Go Go.Av
section
variable {X:Type} {cells:X→List IV} {W:Nat} {z:List IV}
@[simp] theorem AIZ (hp:∀ x,l9 (cells x)=true) (l:List X):tT W 0 l.length (some (kL cells W l))=some (l.map cells):=by
  unfold kL;split
  ·rename_i h;subst h;simp[tT,fV]
  ·simp[tT,pF hp l]
def sV (cells:X→List IV) (W:Nat) (z:List IV) (l:List X) (n:Nat):Nat→Blk
 | 0=>.arr W (List.replicate n z)
 | i+1=>.tre W ((l.take (i+1)).map cells++List.replicate (n-(i+1)) z)
theorem M0 {l:List X} {n:Nat} (h:l.length=n):sV cells W z l n n=kL cells W l:=by
 subst h
 cases hl:l.length with
 | zero=>have:=zZ.1 hl;subst this;simp[sV,kL]
 | succ n =>
  have hT:l.take (n+1)=l:=zX (by omega);have hne:l≠[]:=fun h=>by subst h;simp at hl
  simp[sV,kV hne,hT]
@[simp] theorem AFU (r:Nat→Option Nat) (l:List X) (n:Nat):∀ i,tX r (some (sV cells W z l n i))=some (sV cells W z l n i)
  | 0=>rfl
  | _+1=>rfl
@[simp] theorem ACG (l:List X) (n:Nat):∀ i,fI (some (sV cells W z l n i))=[]
  | 0=>rfl
  | _+1=>rfl
theorem LZ {l:List X} {n i:Nat} {a:X} (ha:l[i]?=some a) (hn:i<n) (hz:jR z=true) (hzl:z.length=(cells a).length) (hl:uK (cells a)=false) (id:Nat) (st:Store) :
 dM id W i 0 (cells a) st (some (sV cells W z l n i))=some (upd st id (some (sV cells W z l n (i+1)))):=by
 have hil:=(zY.1 ha).1;have hS:(l.take i).map cells++[cells a]=(l.take (i+1)).map cells:=by rw[aN ha];simp
 have hD:((l.take i).map cells).length=i:=by simp;omega
 have g1:=Q6 (n:=n) (z:=z) hD hn;have g2:=Q5 (n:=n) (z:=z) (x:=cells a) hD hn;have g3:splice z 0 (cells a)=some (cells a):=lQ hzl;have g4:splice (jL z) 0 (cells a)=some (cells a):=lQ (by rw[rO];exact hzl);rw[hS]at g2;simp only[List.map_take]at g1 g2
 cases i with
 | zero =>
  simp at g1 g2;simp[sV,dM,qC,bnd,tst,g1,g3,g4,hl,g2,hz]
 | succ i=>simp[sV,dM,bnd,tst,g1,g2,g3]
end
end Go.Av.Mk
namespace Go.Av
@[simp] theorem Ex.uU (e:Ex):l9 e.cells=true:=by rw[Ex.aB];rfl
@[simp] theorem Pn.uU (p:Pn):l9 p.cells=true:=by rw[Pn.aB];rfl
@[simp] theorem Ex.rG:∀ l:List Ex,jH (Ex.aA l)=true
  | []=>by simp[Ex.aA,jH]
  | e::l=>by simp[Ex.aA,jH,Ex.rG l]
@[simp] theorem Pn.rG:∀ l:List Pn,jH (Pn.aA l)=true
  | []=>by simp[Pn.aA,jH]
  | p::l=>by simp[Pn.aA,jH,Pn.rG l]
def tP (p:Pn) (j:Nat):AV:=.agg [.int p.kind, .int p.table, .osl j 5 0 p.exprs.length, .osl (j+1) 1 0 p.cols.length, .osl (j+2) 5 0 p.kids.length]
def tPB (p:Pn):StL:=[some (Mk.kL Ex.cells 5 p.exprs),some (.arr 1 (aF p.cols)),some (Mk.kL Pn.cells 5 p.kids)]
def tE (e:Ex) (j:Nat):AV:=.agg [.int e.kind, .int e.col, .bool e.val.null, .int e.val.n, .osl j 5 0 e.kids.length]
end Go.Av
namespace Go.Av.V.Sx
open Go Go.Av Go.Av.V Go.Av.Mk Go.Proofs Go.Proofs.Ytjdfjgmebalaaaa
set_option maxRecDepth 4000
def OT (e:Ex):AS:={ env:=[(0, .i (.iref e.cells))],st:=[] }
def YH (e:Ex):AS:={ env:=[(0, .i (.iref e.cells)),(2, .own 0 0),(3, .own 1 0),(4, .junk),(5, .junk),(6, .junk),(13, .junk),(37, .junk),(38, .junk),(39, .junk)],st:=[some (.box zc),some (.box (jV e.cells))] }
def SL (b3:Nat) (todo X:KL):AS :=
 { env:=[(0, .junk),(2, .own 0 0),(3, .i (ptr (b3,0))),(4, .osl 1 1 0 todo.length),(5, .junk),(6, .junk),(13, .junk),(37, .junk),(38, .junk),(39, .junk)],st:=[some (.box zc),some (.arr 1 ((todo++X).map fun k=>[ptr k.1]))] }
theorem BV:∀ (l:KL),∀ c∈(l.map fun k=>[ptr k.1]).flatten,∃ v,c=.lit v
 | [],c,h=>by simp at h
 | k::l,c,h=>by
  simp only[yS,zB,zV,xL]at h
  rcases h with rfl|h
  ·exact⟨_,rfl⟩
  ·exact BV l c h
def PP (b3:Nat) (b o n:Nat) (x:Ex) (ES:List (List IV)) (env:Nat→AV) (st:Store):Prop :=
 env 2=.own 0 0∧env 3=.i (ptr (b3,0))∧env 4=.osl 1 1 0 n∧env 5=.i (ptr (b,o))∧env 32=.i (ptr (b,o+4))∧st 0=some (.box zc)∧st 1=some (.arr 1 ES) ∧
  ((env 30=.nils∧x.kids=[])∨∃ id,env 30=.osl id 5 0 x.kids.length∧x.kids≠[]∧st id=some (.arr 5 (Ex.aA x.kids))∧2≤id)
def RW (init:KL) (b' i:Nat):List (List IV):=(init.map fun k=>[ptr k.1])++(List.range i).map fun j=>[ptr (b',j*5)]
theorem MP (init:KL) (b' i:Nat):(RW init b' i).length=init.length+i:=by simp[RW]
theorem EZ (init:KL) (b' i:Nat):RW init b' i++[[ptr (b',i*5)]]=RW init b' (i+1):=by simp[RW,zB9]
theorem lV (b:Nat):∀ (o:Nat) (l:List Ex),(bB b o l).map (fun k=>[ptr k.1])=(List.range l.length).map fun j=>[ptr (b,o+j*5)]
 | _,[]=>by simp[bB]
 | o,a::l=>by
  simp only[bB,yS,lV b (o+5) l,zP,zB6,List.map_map];simp only[List.cons.injEq,Nat.zero_mul,xV,true_and];apply List.map_congr_left;intro j _;simp only[Function.comp,Nat.succ_eq_add_one];rw[show o+5+j*5=o+(j+1)*5 by omega]
theorem lW (b:Nat):∀ (o:Nat) (l:List Ex),(bB b o l).length=l.length
 | _,[]=>rfl
 | o,a::l=>by simp[bB,lW b (o+5) l]
theorem lU (b:Nat):∀ (o:Nat) (l:List Ex),((bB b o l).map fun k=>k.2.1.size).sum=Ex.aL l
 | _,[]=>rfl
 | o,a::l=>by simp[bB,Ex.aL,lU b (o+5) l]
def YS (b3 b' cap:Nat) (x:Ex) (init:KL) (ES:List (List IV)) (i:Nat):AS :=
 { env:=[(0, .junk),(2, .own 0 0),(3, .i (ptr (b3,0))),(4,if i=0 then .osl 1 1 0 init.length else .osl 2 1 0 (init.length+i)),(5, .i (.iref [.int x.kind, .int x.col, .bool x.val.null, .int x.val.n, .lit (.slice (some ⟨b',0,none⟩) x.kids.length cap)])),(6,jk i (.int (i-1))),(13, .junk),(37, .int x.kids.length),(38, .int i),(39,jk i (.bool true))],
   st:=some (.box zc)::if i=0 then [some (.arr 1 ES)]else [none,some (.arr 1 (RW init b' i))] }
set_option maxHeartbeats 1000000
theorem OE {e:Ex} (he:e.size<1000000000) (hne:e.kids≠[]) {wi:World} {mi:Mem} {φ:Pl} {vs:List Value} (hi:Inv wi mi φ (aS [])) (hr:RepL mi φ [.i (.iref e.cells)] vs) (h0:∀ id,φ id≠none→id<0) :
 Calls Try.prog 53 vs.toArray wi (dC wi mi φ (tE e 0) [some (kL Ex.cells 5 e.kids)]):=by
 obtain rfl:φ=fun _=>none:=by
  funext id
  cases h:φ id with
  | none=>rfl
  | some p=>exact absurd (h0 id (by rw[h];simp)) (xJ _)
 refine calls_of_wp (fn:=Try.f53) Try.func53 rfl ?_
 have g0:GG wi mi 52 (fun id=>id<(OT e).st.length) [] (aQ (OT e).env) (aS (OT e).st) { tmps:=vs.toArray++Array.replicate (52-vs.toArray.size) undef,defers:=[] } wi:=by
  refine⟨⟨mi,fun _=>none,hi,?_, .refl _ _ _,fun id h=>absurd rfl h,fun k hk=>by simp at hk⟩,by simp;omega,rfl⟩;intro t;have:=tN (m:=mi) (φ:=fun _=>none) (52-vs.toArray.size) hr t
  cases t with
  | zero=>simpa [OT,aQ,wV]using this
  | succ t=>simp only[OT,aQ];simp;exact .junk _
 refine wp_seq (wp_mono (GG.gG fG (G:=GS 53) (S:=OT e) (e:=.normal) (S':={ YH e with env:=[(0, .i (.iref e.cells)),(2, .own 0 0),(3, .junk),(4, .junk),(5, .junk),(6, .junk),(13, .junk),(37, .junk),(38, .junk),(39, .junk)],st:=[some (.box zc)] }) (by kernel_rfl) (by simp[OT,zc]) g0) ?_);rintro _ a1 w1 ⟨rfl,g1⟩;refine wp_seq (wp_mono (GG.gG fG (G:=GS 53) (S:={ YH e with env:=[(0, .i (.iref e.cells)),(2, .own 0 0),(3, .junk),(4, .junk),(5, .junk),(6, .junk),(13, .junk),(37, .junk),(38, .junk),(39, .junk)],st:=[some (.box zc)] }) (e:=.normal) (S':=YH e) (by kernel_rfl) (by simp[YH,zc]) g1) ?_);rintro _ a2 w2 ⟨rfl,g2⟩
 obtain⟨b3,g3⟩:=g2.pub (u:=3) (id:=1) (e:=e) (st':=aS [some (.box zc)]) (ok':=fun id=>id<1) rfl rfl (by
  intro i blk h
  cases i with
  | zero=>simp[aS]at h;subst h;exact⟨by omega,rfl,by simp[eZ,zc]⟩
  | succ i=>simp[aS]at h) (by
  intro i h
  cases i with
  | zero=>omega
  | succ i=>simp[aS]at h)
 have g3:=g3 (aQ [(2, .own 0 0),(3, .i (ptr (b3,0)))]) (by
  intro t;simp only[aQ];by_cases h2:t=2
  ·subst h2;exact .inr (.inr ⟨rfl,by simp[YH,aQ,iB,aS]⟩)
  ·by_cases h3:t=3
   ·subst h3;exact .inr (.inl ⟨rfl,rfl⟩)
   ·simp[h2,h3])
 refine wp_seq (wp_mono (GG.gG fG (G:=GS 53) (S:={ env:=[(2, .own 0 0),(3, .i (ptr (b3,0)))],st:=[some (.box zc)] }) (e:=.normal) (S':=SL b3 [((b3,0),(e,none))] []) (by kernel_rfl) (by simp[SL,ptr,zc]) g3) ?_);rintro _ a3 w3 ⟨rfl,g4⟩;refine wp_seq (wp_block ?_);refine rP (fun n a w=>∃ todo X K:KL,WL (b3,0) e todo K∧(todo.map fun k=>k.2.1.size).sum=n∧n<1000000000∧GG wi mi 52 (fun id=>id<(SL b3 todo X).st.length) K (aQ (SL b3 todo X).env) (aS (SL b3 todo X).st) a w) ?_ (n:=e.size) ⟨[((b3,0),(e,none))],[],[((b3,0),(e,none))], .start b3 e,by simp,he,g4⟩;rintro n a w ⟨todo,X,K,hWL,hsum,hn,g⟩
 rcases List.eq_nil_or_concat todo with rfl|⟨init,k,rfl⟩
 ·refine wp_mono (GG.gG fG (G:=GS 53) (S:=SL b3 [] X) (e:=.exit 0) (S':={ env:=[(0, .junk),(2, .own 0 0),(3, .i (ptr (b3,0))),(4, .osl 1 1 0 0),(5, .junk),(6, .junk),(13, .bool false),(37, .junk),(38, .junk),(39, .junk)],st:=[some (.box zc),some (.arr 1 (X.map fun k=>[ptr k.1]))] }) (by kernel_rfl) (by simp[SL,ptr,zc]) g) ?_;rintro _ a5 w5 ⟨rfl,g5⟩;simp only[gK,Exit.then,Exit.inBlock,if_true];obtain⟨⟨m5,φ5,hi5,henv5,hadv5,hok5,hK5⟩,hsz5,hdf5⟩:=g5;obtain⟨v,F,hx5,ht5,hnd5,hF5⟩:=hWL.tree hK5 hi5.mem e (b3,0) hWL.hroot;have h05:∀ id,φ5 id≠none→id<2:=hok5
  have hroot:IAt m5 b3 0 [.int e.kind, .int e.col, .bool e.val.null, .int e.val.n, .lit v]:=by
   have ho:=o9 hx5.kids;exact .cons (by simpa using hx5.c0) (.lit _) rfl (.cons hx5.c1 (.lit _) rfl (.cons hx5.c2 (.lit _) rfl (.cons hx5.c3 (.lit _) rfl (.cons hx5.c4 (.lit _) ho (.nil _ _)))))
  have hp3:a5.tmps.getD 3 undef=.pointer (some ⟨b3,0,none⟩):=by
   have h3:Rep m5 φ5 (.i (ptr (b3,0))) (a5.tmps.getD 3 undef):=henv5 3;exact h3.bJ
  have r5:F5 [] w5 m5 φ5 52 2 { env:=[(2, .own 0 0),(3, .i (.iref [.int e.kind, .int e.col, .bool e.val.null, .int e.val.n, .lit v]))],st:=[some (.box zc),some (.arr 1 (X.map fun k=>[ptr k.1]))] } a5 w5:=by
   refine⟨⟨⟨m5,φ5,by simpa using hi5,fun t=>?_, .refl _ _ _,hok5, .nil _ _ _⟩,hsz5,hdf5⟩,zQ _⟩;simp only[aQ];by_cases h2:t=2
   ·subst h2;simp only[if_true];exact henv5 2
   ·by_cases h3:t=3
    ·subst h3;simp only[if_true];rw[hp3];exact .i (.iref hroot)
    ·simp only[h2,h3,if_false];exact .junk _
  refine wp_mono (lZ fG h05 (G:=GS 53) (S:={ env:=[(2, .own 0 0),(3, .i (.iref [.int e.kind, .int e.col, .bool e.val.null, .int e.val.n, .lit v]))],st:=[some (.box zc),some (.arr 1 (X.map fun k=>[ptr k.1]))] }) (e:=.ret) (S':={ env:=[(0, .junk),(2, .own 0 0),(3, .i (.iref [.int e.kind, .int e.col, .bool e.val.null, .int e.val.n, .lit v])),(4, .junk),(5, .junk),(6, .junk),(13, .junk),(37, .junk),(38, .junk),(39, .junk)],st:=[some (.box [.int e.kind, .int e.col, .bool e.val.null, .int e.val.n, .i (.lit v)]),some (.arr 1 (X.map fun k=>[ptr k.1]))] }) (by kernel_rfl) (by simp[zc]) r5) ?_;rintro _ a6 w6 ⟨rfl,r6⟩
  obtain⟨vv,k1,k2⟩:=jJ (C:=C1) (fn:=Try.f53) (keep:=false) (na:=2) (S:={ env:=[(0, .junk),(2, .own 0 0),(3, .i (.iref [.int e.kind, .int e.col, .bool e.val.null, .int e.val.n, .lit v])),(4, .junk),(5, .junk),(6, .junk),(13, .junk),(37, .junk),(38, .junk),(39, .junk)],st:=[some (.box [.int e.kind, .int e.col, .bool e.val.null, .int e.val.n, .i (.lit v)]),some (.arr 1 (X.map fun k=>[ptr k.1]))] }) (r:=.i (.agg [.int e.kind, .int e.col, .bool e.val.null, .int e.val.n, .lit v])) (stl':=[some (.box [.int e.kind, .int e.col, .bool e.val.null, .int e.val.n, .i (.lit v)]),some (.arr 1 (X.map fun k=>[ptr k.1]))]) h05 r6 (by
   show finish C1 false [ResultVar.cell 2 74] 2 _=_
   simp)
  refine⟨r6.1.defers,vv,k1,?_⟩;obtain⟨y,m6,φ6,hy,j1,j2,j3,j4⟩:=k2;injection hy with hy;subst hy
  have hvv:vv=.agg [.int .i64 e.kind, .int .i64 e.col, .bool e.val.null, .int .i64 e.val.n,v].toArray:=by
   cases j1 with
   | i r=>cases r with
    | agg hc =>
     have:=WZ (vs:=[.int .i64 e.kind, .int .i64 e.col, .bool e.val.null, .int .i64 e.val.n,v]) hc;rw[this]
  subst hvv;have hall:=hadv5.trans j3;have hwi:∀ f,f<wi.heap.size→w6.heap[f]?=wi.heap[f]?:=fun f hf=>hall.block f hf fun id b n e=>by cases e
  have ht6:=ht5.mono (w':=w6) fun f hf=>j3.block f (tlt ht5 f hf) (hF5 f hf).2.2
  have hlt6:=tlt ht6;have hlen:(Ex.aA e.kids).length=e.kids.length:=by simp
  have hcne:Ex.aA e.kids≠[]:=fun h=>by rw[h]at hlen;simp at hlen;exact hne (zZ.1 hlen.symm)
  generalize hes:Ex.aA e.kids=es at ht6 hlen hcne
  cases ht6 with
  | isl0=>exact absurd rfl hcne
  | @isl b' kk cap _ us G _ _ F1 t1 t2 t3 t4 t5 t6 t7 t8 =>
   cases t8
   obtain rfl:kk=5:=by
    cases hks:e.kids with
    | nil=>exact absurd hks hne
    | cons a l=>rw[← t4 a.cells (by rw[← hes,hks];simp[Ex.aA]),Ex.aB];rfl
   simp only[zO]at hnd5 hF5 hlt6;obtain⟨T,t2,t9⟩:=t2;have hge:∀ f∈b'::G,wi.heap.size≤f:=fun f hf=>(hF5 f hf).2.1
   have hmi:∀ f∈b'::G,∀ o,mi f o=none:=fun f hf o=>by
    cases hx:mi f o with
    | none=>rfl
    | some u=>have:=hi.mem.lt hx;have:=hge f hf;omega
   refine⟨_,mi,fun id=>if id=0 then some (b',⟨us.length,fun f=>f∈b'::G⟩)else none,rfl,?_,⟨fun b o u hu=>?_,?_,?_,fun id b n f h1 ho=>by
    by_cases hid:id=0
    ·subst hid;simp only[if_true]at h1;injection h1 with h1;injection h1 with e1 e2;subst e2;exact hlt6 f ho
    ·simp[hid]at h1⟩,⟨hall.size,hall.os,hall.tape,hall.output,fun f hf _=>hwi f hf, .refl _,fun _ _ _ _=>rfl,(fun _ _ _ h=>by cases h),?_⟩,?_⟩
   ·refine .agg (.cons (.i (.lit _)) rfl (.cons (.i (.lit _)) rfl (.cons (.i (.lit _)) rfl (.cons (.i (.lit _)) rfl (.cons ?_ rfl .nil)))));rw[hlen];exact .osl (n:=⟨us.length,fun f=>f∈b'::G⟩) rfl (by omega) (by simpa using t5) (fun _=>by simp) (fun h=>by cases h)
   ·rw[cell_of_heap (hwi b (hi.mem.lt hu))];exact hi.mem b o u hu
   ·intro id blk hb
    cases id with
    | succ id=>simp[aS]at hb
    | zero =>
     simp only[aS]at hb;rw[kV hne,← Ex.aU,hes]at hb;injection hb with hb;subst hb;refine⟨b',⟨us.length,fun f=>f∈b'::G⟩,rfl,⟨by simp,fun f hf=>hlt6 f hf⟩,?_⟩;exact .tre (T:=T) t2 rfl (by omega) t4 t7.toU (by show 5*es.length≤us.length;omega) hnd5 (fun f hf=>zA5 _ hf) hmi t9
   ·intro i j x x' n1 n2 b1 b2 f h1 h2 _ _ _ _
    cases i with
    | succ i=>simp[aS]at h1
    | zero=>cases j with
     | zero=>rfl
     | succ j=>simp[aS]at h2
   ·intro id b n f h1 ho;by_cases hid:id=0
    ·subst hid;simp only[if_true]at h1;injection h1 with h1;injection h1 with e1 e2;subst e2;exact .inl (hge f ho)
    ·simp[hid]at h1
   ·intro id hne';by_cases hid:id=0
    ·subst hid;simp
    ·simp[hid]at hne'
 ·clear g0 g4 g3 g1 g2;obtain⟨⟨b,o⟩,x,nn⟩:=k;obtain rfl:nn=none:=(hWL.sub ((b,o),(x,nn)) (by simp)).2;rw[List.concat_eq_append]at hWL hsum g
  have hlen:∀ l:KL,l.length≤(l.map fun k=>k.2.1.size).sum:=by
   intro l
   induction l with
   | nil=>simp
   | cons a l ih=>have:=Ex.jX a.2.1;simp;omega
  have hil:=hlen init;simp at hsum;have hxk:((b,o),(x,none))∈K:=(hWL.sub _ (by simp)).1;have hxs:=Ex.size_eq x;have hkl:=Ex.dJ x.kids;have hne:¬ ((init.length:Int)+1≤0):=by omega
  have hpos:(0:Int)<(init.length:Int)+1:=by omega
  have w1:IntKind.i64.wrap (init.length:Int)=init.length:=wrO;generalize hES:((init++[((b,o),((x,none):Nd))]++X:KL).map fun k=>[ptr k.1])=ES
  have hnth:gB ES init.length=some [ptr (b,o)]:=by
   rw[fE,← hES];simp
  have hlit:∀ c∈ES.flatten,∃ v,c=.lit v:=by rw[← hES];exact BV _
  have hlt:(init.length:Int)<(init.length:Int)+1:=by omega
  have hlt2:(init.length:Int)≤(init.length:Int)+1:=by omega
  refine wp_seq (wp_mono (GG.gG fG (G:=GS 53) (S:=SL b3 (init++[((b,o),((x,none):Nd))]) X) (e:=.normal) (S':={ env:=[(0, .junk),(2, .own 0 0),(3, .i (ptr (b3,0))),(4, .osl 1 1 0 (init.length+1)),(5, .junk),(6, .junk),(13, .bool true),(37, .junk),(38, .junk),(39, .junk)],st:=[some (.box zc),some (.arr 1 ES)] }) (by kernel_rfl) (by simp only[SL,hES];simp[ptr,zc,hpos]) (by simpa using g)) ?_);rintro _ a5 w5 ⟨rfl,g5⟩;clear g;refine wp_block ?_;refine wp_seq (wp_mono (GG.gG fG (G:=GS 53) (S:={ env:=[(0, .junk),(2, .own 0 0),(3, .i (ptr (b3,0))),(4, .osl 1 1 0 (init.length+1)),(5, .junk),(6, .junk),(13, .bool true),(37, .junk),(38, .junk),(39, .junk)],st:=[some (.box zc),some (.arr 1 ES)] }) (e:=.normal) (S':={ env:=[(0, .junk),(2, .own 0 0),(3, .i (ptr (b3,0))),(4, .osl 1 1 0 (init.length+1)),(5,(.i (ptr (b,o)))),(6, .junk),(13, .bool true),(37, .junk),(38, .junk),(39, .junk)],st:=[some (.box zc),some (.arr 1 ES)] }) (by kernel_rfl) (by simp only[ptr]at hnth;simp[ptr,zc,hnth,w1,hlt]) g5) ?_);rintro _ a6 w6 ⟨rfl,g6⟩;clear g5;refine wp_seq (wp_mono (GG.gG fG (G:=GS 53) (S:={ env:=[(0, .junk),(2, .own 0 0),(3, .i (ptr (b3,0))),(4, .osl 1 1 0 (init.length+1)),(5,(.i (ptr (b,o)))),(6, .junk),(13, .bool true),(37, .junk),(38, .junk),(39, .junk)],st:=[some (.box zc),some (.arr 1 ES)] }) (e:=.normal) (S':={ env:=[(0, .junk),(2, .own 0 0),(3, .i (ptr (b3,0))),(4, .osl 1 1 0 init.length),(5,(.i (ptr (b,o)))),(6, .junk),(13, .bool true),(37, .junk),(38, .junk),(39, .junk)],st:=[some (.box zc),some (.arr 1 ES)] }) (by kernel_rfl) (by simp[ptr,zc,w1,hlt2]) g6) ?_);rintro _ a7 w7 ⟨rfl,g7⟩;clear g6
  refine wp_seq (GG.region fG (os1:=[_,_]) (os2:=[_,_,_,_,_,_]) (u:=26) (PP:=PP b3 b o init.length x ES) rfl (by
   have h:∀ ops:Array Oper,ops.all (gI 52)=true→∀ o∈ops,gI 52 o=true:=fun ops h o ho=>yJ.1 h o ho
   exact h _ (by kernel_rfl)) g7 hxk ?_ ?_)
  ·rw[Ex.aB];by_cases hx:x.kids=[]
   ·simp[ptr,zc,hx,PP,Ex.aA,XN]
   ·simp[ptr,zc,PP,QH hx (by omega),hx]
  ·rintro env st a8 w8 ⟨p2,p3,p4,p5,p32,q0,q1,p30⟩ g8;clear g7
   obtain⟨w9,b',ao,cap,e1,e2,hrun,hG,hfr⟩:=GG.turn (C:=C1) (ok':=fun id=>id<2) (st':=aS [some (.box zc),some (.arr 1 ES)]) (u:=30) (t:=28) g8 (by simp) hi.mem hxk (fun k hk he'=>hWL.nolit ((b,o),(x,none)) (by simp) k hk he') rfl (by
    rcases p30 with ⟨h1,h2⟩|⟨id,h1,h2,h3,h4⟩
    ·refine .inl ⟨h1,h2,?_⟩;intro i blk h
     rcases i with _|_|i
     ·simp[aS]at h;subst h;exact q0
     ·simp[aS]at h;subst h;exact q1
     ·simp[aS]at h
    ·refine .inr ⟨id,h1,h2,h3,?_⟩;intro i blk h
     rcases i with _|_|i
     ·simp[aS]at h;subst h;exact⟨by omega,q0⟩
     ·simp[aS]at h;subst h;exact⟨by omega,q1⟩
     ·simp[aS]at h) (by
    intro i blk h
    rcases i with _|_|i
    ·simp[aS]at h;subst h;simp[eZ,zc]
    ·simp[aS]at h;subst h;exact hlit
    ·simp[aS]at h) (by
    intro i h
    rcases i with _|_|i
    ·omega
    ·omega
    ·simp[aS]at h)
   have ev5:=g8.SG (t:=5) p5;have ev32:=g8.SG (t:=32) p32
   refine FW (C:=C1) (w':=w9) rfl (by
    show(Instr.storeAt 28 (a8.tmps.getD 32 undef) (a8.tmps.getD 30 undef)).run C1.P w8=_
    rw[ev32];exact hrun) ?_
   have g9:=hG (aQ [(2, .own 0 0),(3, .i (ptr (b3,0))),(4, .osl 1 1 0 init.length),(5,(.i (.iref [.int x.kind, .int x.col, .bool x.val.null, .int x.val.n, .lit (.slice ao x.kids.length cap)])))]) (by
    intro t;simp only[aQ];by_cases h2:t=2
    ·subst h2;exact .inr (.inr ⟨by simp[p2],by rw[p2];simp[iB,aS]⟩)
    by_cases h3:t=3
    ·subst h3;exact .inr (.inr ⟨by simp[p3],by rw[p3];simp[iB,ptr]⟩)
    by_cases h4:t=4
    ·subst h4;exact .inr (.inr ⟨by simp[p4],by rw[p4];simp[iB,aS]⟩)
    by_cases h5:t=5
    ·subst h5;exact .inr (.inl ⟨ev5,by simp⟩)
    ·simp[h2,h3,h4,h5])
   clear hG g8;show Code.wp _ _ _ _ _;refine wp_seq (wp_mono (GG.gG fG (G:=GS 53) (S:={ env:=[(2, .own 0 0),(3, .i (ptr (b3,0))),(4, .osl 1 1 0 init.length),(5,(.i (.iref [.int x.kind, .int x.col, .bool x.val.null, .int x.val.n, .lit (.slice ao x.kids.length cap)])))],st:=[some (.box zc),some (.arr 1 ES)] }) (e:=.normal) (S':={ env:=[(0, .junk),(2, .own 0 0),(3, .i (ptr (b3,0))),(4, .osl 1 1 0 init.length),(5,(.i (.iref [.int x.kind, .int x.col, .bool x.val.null, .int x.val.n, .lit (.slice ao x.kids.length cap)]))),(6, .junk),(13, .junk),(37, .int x.kids.length),(38, .int 0),(39, .junk)],st:=[some (.box zc),some (.arr 1 ES)] }) (by kernel_rfl) (by simp[ptr,zc]) g9) ?_);rintro _ a10 w10 ⟨rfl,g10⟩;clear g9;by_cases hx:x.kids=[]
   ·refine wp_mono (GG.gG fG (G:=GS 53) (S:={ env:=[(0, .junk),(2, .own 0 0),(3, .i (ptr (b3,0))),(4, .osl 1 1 0 init.length),(5,(.i (.iref [.int x.kind, .int x.col, .bool x.val.null, .int x.val.n, .lit (.slice ao x.kids.length cap)]))),(6, .junk),(13, .junk),(37, .int x.kids.length),(38, .int 0),(39, .junk)],st:=[some (.box zc),some (.arr 1 ES)] }) (e:=.normal) (S':={ env:=[(0, .junk),(2, .own 0 0),(3, .i (ptr (b3,0))),(4, .osl 1 1 0 init.length),(5,(.i (.iref [.int x.kind, .int x.col, .bool x.val.null, .int x.val.n, .lit (.slice ao x.kids.length cap)]))),(6, .junk),(13, .junk),(37, .int x.kids.length),(38, .int 0),(39, .bool false)],st:=[some (.box zc),some (.arr 1 ES)] }) (by kernel_rfl) (by
     simp only[hx,yI];simp;rw[aG]
     simp[ptr,zc]) g10) ?_
    rintro _ a11 w11 ⟨rfl,g11⟩;simp only[gK,Exit.then,Exit.inBlock];refine⟨n-1,by omega,init,((b,o),(x,none))::X,K++UQ b o x b' cap,by have:=hWL.step (b':=b') (cap:=cap) hfr;rwa [hx,show bB b' 0 []=[]from rfl,zO]at this,?_,by omega,?_⟩
    ·rw[hx]at hxs;simp[Ex.aL]at hxs;omega
    ·have hES2:((init++((b,o),((x,none):Nd))::X:KL).map fun k=>[ptr k.1])=ES:=by rw[← hES];simp
     simp only[SL,hES2]
     exact g11.envTo (by
      intro t;simp only[aQ];by_cases h2:t=2
      ·subst h2;simp
      by_cases h3:t=3
      ·subst h3;simp
      by_cases h4:t=4
      ·subst h4;simp
      ·simp[h2,h3,h4])
   ·obtain rfl:=e2 hx;have hET:ES.take init.length=RW init b' 0:=by rw[← hES];simp[RW]
    have hEL:init.length≤ES.length:=by rw[← hES];simp
    have hlim:∀ i,i≤x.kids.length→(init.length+i+1)*8≤140737488355328:=fun i hi=>by omega
    have hk0:x.kids.length≠0:=fun h=>hx (zZ.1 h)
    refine wp_mono (GG.gG fG (G:=GS 53) (S:={ env:=[(0, .junk),(2, .own 0 0),(3, .i (ptr (b3,0))),(4, .osl 1 1 0 init.length),(5,(.i (.iref [.int x.kind, .int x.col, .bool x.val.null, .int x.val.n, .lit (.slice (some ⟨b',0,none⟩) x.kids.length cap)]))),(6, .junk),(13, .junk),(37, .int x.kids.length),(38, .int 0),(39, .junk)],st:=[some (.box zc),some (.arr 1 ES)] }) (e:=.normal) (S':={ env:=[(0, .junk),(2, .own 0 0),(3, .i (ptr (b3,0))),(4, .osl 2 1 0 (init.length+x.kids.length)),(5,(.i (.iref [.int x.kind, .int x.col, .bool x.val.null, .int x.val.n, .lit (.slice (some ⟨b',0,none⟩) x.kids.length cap)]))),(6, .int (x.kids.length-1)),(13, .junk),(37, .int x.kids.length),(38, .int x.kids.length),(39, .bool false)],st:=[some (.box zc),none,some (.arr 1 (RW init b' x.kids.length))] }) (by kernel_rfl) (by
     simp;rw[aV (YS b3 b' cap x init ES) x.kids.length (by simp[YS])]
     ·rw[aG];simp[YS,hk0,d9 hk0,zc,ptr]
     ·intro i hi;have w2:IntKind.i64.wrap ((i:Int)+1)=i+1:=wrO;have hi0:(i:Int)<x.kids.length:=by omega
      by_cases h0:i=0
      ·subst h0;have hl:(init.length+1)*8≤140737488355328:=by omega
       have hR:RW init b' 0++[[.lit (.pointer (some ⟨b',0,none⟩))]]=RW init b' 1:=by simpa [ptr]using EZ init b' 0
       simp[YS,zc,ptr,UY,hi,hET,hEL,hl,hR]
      ·have hl:=hlim i (by omega);have hT:(RW init b' i).take (init.length+i)=RW init b' i:=zX (by rw[MP];omega);have hR:RW init b' i++[[.lit (.pointer (some ⟨b',i*5,none⟩))]]=RW init b' (i+1):=by simpa [ptr]using EZ init b' i
       simp[YS,h0,d9 h0,zc,ptr,w2,hi,hT,MP,hl,hR,← Nat.add_assoc]) g10) ?_
    rintro _ a11 w11 ⟨rfl,g11⟩;simp only[gK,Exit.then,Exit.inBlock];refine⟨n-1,by omega,init++bB b' 0 x.kids,[],K++UQ b o x b' cap,hWL.step hfr,?_,by omega,?_⟩
    ·rw[yF,List.sum_append,lU];omega
    ·have g12:=g11.settle [2,3,4]
     have hR:List.map (fun k:(Nat×Nat)×Nd=>[ptr k.1]) (init++bB b' 0 x.kids++[])=RW init b' x.kids.length:=by
      rw[zO,yF,lV];simp[RW]
     have hl:(init++bB b' 0 x.kids).length=init.length+x.kids.length:=by rw[zM,lW]
     simp only[SL,hR,hl]
     have hs:Av.settle [2,3,4] 0 (aQ [(0, .junk),(2, .own 0 0),(3, .i (ptr (b3,0))),(4, .osl 2 1 0 (init.length+x.kids.length)),(5, .i (.iref [.int x.kind, .int x.col, .bool x.val.null, .int x.val.n, .lit (.slice (some ⟨b',0,none⟩) x.kids.length cap)])),(6, .int (x.kids.length-1)),(13, .junk),(37, .int x.kids.length),(38, .int x.kids.length),(39, .bool false)]) (aS [some (.box zc),none,some (.arr 1 (RW init b' x.kids.length))])={ env:=[(2, .own 0 0),(3, .i (ptr (b3,0))),(4, .osl 1 1 0 (init.length+x.kids.length))],st:=[some (.box zc),some (.arr 1 (RW init b' x.kids.length))] }:=by
      simp[zc,ptr]
     rw[hs]at g12
     exact g12.envTo (by
      intro t;simp only[aQ];by_cases h2:t=2
      ·subst h2;simp
      by_cases h3:t=3
      ·subst h3;simp
      by_cases h4:t=4
      ·subst h4;simp
      ·simp[h2,h3,h4])
end Go.Av.V.Sx
namespace Go.Av
def unC:IV→IV
 | .iref [c]=>c
 | c=>c
theorem ZI (c:IV):unC (N7 c)=c:=by
 unfold N7;split
 ·rename_i h
  cases c with
  | iref cs=>simp[jS]at h
  | _=>rfl
 ·rfl
def mG (k ix off:Nat):Option Blk→Option IV
 | some (.arr k' es)=>tst (decide (k'=k∧off≤k)) (bnd (gB es ix) fun e=>some (.iref (dropE off e)))
 | some (.tre k' es)=>tst (decide (k'=k∧off≤k)) (bnd (gB es ix) fun e=>some (.iref (dropE off (e.map unC))))
 | _=>none
def ACY (st:Store):AV→Option IV
 | .ownE id k ix off=>mG k ix off (st id)
 | v=>pQ st v
def FZ (st:Store):List AV→Option (List AV)
 | []=>some []
 | c::r=>bnd (ACY st c) fun v=>bnd (FZ st r) fun l=>some (.i v::l)
def CV (call:cZ) (g:FuncId) (args:List AV) (st:StL):Option (AV×StL):=bnd (FZ (aS st) args) fun us=>SI call g us st
theorem UCells.toI {w:World} {m:Mem} (hm:jT w m):∀ {cs:List IV} {vs:List Value} {F:List Nat},UCells w m cs vs F→ICells (eD w) (cs.map unC) vs
 | _,_,_, .nil=>.nil
 | _,_,_, .lit o r=>.cons (.lit _) o (r.toI hm)
 | _,_,_, .isl0 c r=>.cons (.isl0 _ _ c) rfl (r.toI hm)
 | _,_,_, .isl hn hr hk hl hf hc g r=>by
  have:=(TCells.isl hn hr hk hl hf hc g .nil).toI
  cases this with
  | cons a _ _=>exact .cons a rfl (r.toI hm)
 | _,_,_, .kn a o r=>.cons (a.mono (sO hm)) o (r.toI hm)
theorem IR {w:World} {m:Mem} {φ:Pl} {st:Store} {id k ix off:Nat} {x:Value} {iv:IV} (hi:Inv w m φ st) (hr:Rep m φ (.ownE id k ix off) x) (h:mG k ix off (st id)=some iv):IRep (eD w) iv x:=by
 cases hr with
 | @ownE _ _ _ _ b n e =>
  cases hst:st id with
  | none=>rw[hst]at h;simp[mG]at h
  | some blk =>
   rw[hst]at h;obtain⟨hb,hok⟩:=ET hi e hst
   have key:∀ {T:TypeId} {vs:List Value} {es:List (List IV)} {er:List IV},w.heap[b]?=some (.cells vs.toArray T (0,0))→(∀ r∈es,r.length=k)→ICells (eD w) es.flatten (vs.take (k*es.length))→es[ix]?=some er→off≤k→IRep (eD w) (.iref (dropE off er)) (.pointer (some ⟨b,k*ix+off,none⟩)):=by
    intro T vs es er hh hw hc h1 ho
    have he:IElems (eD w) b 0 k es:=fC 0 hw hc fun j v hj=>by
     show w.cell? ⟨b,0+j,none⟩=some v;rw[zL,bH hh];rw[zD]at hj;split at hj
     ·exact hj
     ·cases hj
    obtain⟨hat,hl⟩:=AC he h1;have:=IAt.dropE off hat (by omega);rw[zL]at this;exact .iref this
   cases hok with
   | arr hh hl hpos hw1 hc hfit hm hown1 hone =>
    simp only[mG]at h;obtain⟨hk,h0⟩:=aM.1 h;obtain⟨rfl,ho⟩:=zR hk;obtain⟨er,h1,h2⟩:=aD.1 h0;injection h2 with h2;subst h2;rw[fE]at h1;exact key hh hw1 (hc.mono (sO hi.mem)) h1 ho
   | @tre T k' es vs F hh hl hpos hw1 hc hfit hnd hF hm hone =>
    simp only[mG]at h;obtain⟨hk,h0⟩:=aM.1 h;obtain⟨rfl,ho⟩:=zR hk;obtain⟨er,h1,h2⟩:=aD.1 h0;injection h2 with h2;subst h2;rw[fE]at h1;refine key (es:=es.map (List.map unC)) hh (fun r hr=>?_) ?_ (by rw[List.getElem?_map,h1];rfl) ho
    ·obtain⟨r',hr',rfl⟩:=yD.1 hr;rw[zA9];exact hw1 r' hr'
    ·have:=hc.toI hi.mem;rw[List.map_flatten]at this;rw[zA9];exact this
   | _=>simp[mG]at h
theorem vH {w:World} {m:Mem} {φ:Pl} {st:Store} (hi:Inv w m φ st):∀ {cs us:List AV} {xs:List Value},RepL m φ cs xs→FZ st cs=some us→RepL (eD w) (fun _=>none) us xs
 | [],us,_, .nil,h=>by simp[FZ]at h;subst h;exact .nil
 | c::cs,us,_, .cons a b,h=>by
  simp only[FZ]at h;obtain⟨v,h1,h2⟩:=aD.1 h;obtain⟨l',h3,h4⟩:=aD.1 h2;injection h4 with h4;subst h4;refine .cons (.i ?_) (vH hi b h3);unfold ACY at h1;split at h1
  ·exact IR hi a h1
  ·exact AZ hi a h1
theorem mX {C:Ctx} {call:cZ} (hcall:CallOk C call) {g:FuncId} {args:List AV} {stl stl':StL} {r:AV} (h:CV call g args stl=some (r,stl')) (hy:g≠qJ:=by decide) :
 (∃ fn,C.P.funcs[g]?=some fn∧fn.name≠ "runtime.NumGoroutine"∧fn.body.isSome=true)∧∀ (w:World) (m:Mem) (φ:Pl) (vs:List Value),Inv w m φ (aS stl)→RepL m φ args vs→(∀ id,φ id≠none→id<stl.length) →
  Calls C.P g vs.toArray w (dC w m φ r stl'):=by
 unfold CV at h;obtain⟨us,h1,h2⟩:=aD.1 h;exact CU hcall (us:=us) (fun w m φ vs hi hr=>vH hi hr h1) h2 hy
end Go.Av
namespace Go.Av
open Go.Av.Mk
def rE (e:Ex):AV×StL:=if e.kids=[]then(.i (.agg e.cells),[])else(tE e 0,[some (kL Ex.cells 5 e.kids)])
noncomputable def OB:List AV→StL→Option (AV×StL)
 | [.i (.iref cs)],[]=>@dite _ (∃ e:Ex,e.size<1000000000∧e.cells=cs) (Classical.propDecidable _) (fun h=>some (rE h.choose)) fun _=>none
 | _,_=>none
theorem AAT {e:Ex} (h:e.size<1000000000):OB [.i (.iref e.cells)] []=some (rE e):=by
 have hh:∃ x:Ex,x.size<1000000000∧x.cells=e.cells:=⟨e,h,rfl⟩
 unfold OB;simp only;rw[dif_pos hh,Ex.uV _ _ hh.choose_spec.2]
theorem TP {args:List AV} {st:StL} {r:AV×StL} (h:OB args st=some r):∃ e:Ex,e.size<1000000000∧args=[.i (.iref e.cells)]∧st=[]∧r=rE e:=by
 unfold OB at h;split at h
 ·rename_i cs;by_cases hc:∃ e:Ex,e.size<1000000000∧e.cells=cs
  ·rw[dif_pos hc]at h;injection h with h;exact⟨hc.choose,hc.choose_spec.1,by rw[hc.choose_spec.2],rfl,h.symm⟩
  ·rw[dif_neg hc]at h;cases h
 ·cases h
theorem KJ:∀ l:List IV,(jL l).map unC=l
 | []=>rfl
 | c::l=>by simp only[jL,yS,ZI,KJ l]
theorem FU:∀ {l:List IV},jR l=true→jL l=l
 | [],_=>rfl
 | c::l,h=>by
  simp only[jR,zU]at h;simp[jL,N7,h.1,FU h.2]
theorem AQ:∀ {l:List (List IV)},fV l=true→eG l=l
 | [],_=>rfl
 | c::l,h=>by
  simp only[fV,zU]at h;simp[eG,FU h.1,AQ h.2]
def tY (es:List Ex):Nat→Blk
 | 0=>.arr 5 (Ex.aA es)
 | i+1=>.tre 5 (Ex.aA (es.take (i+1))++eG (Ex.aA (es.drop (i+1))))
@[simp] theorem AHO (r:Nat→Option Nat) (es:List Ex):∀ i,tX r (some (tY es i))=some (tY es i)
  | 0=>rfl
  | _+1=>rfl
@[simp] theorem AET (es:List Ex):∀ i,fI (some (tY es i))=[]
  | 0=>rfl
  | _+1=>rfl
theorem JD {es:List Ex} (h:es≠[]):tY es es.length=.tre 5 (Ex.aA es):=by
 cases hl:es.length with
 | zero=>exact absurd (zZ.1 hl) h
 | succ n =>
  have h1:es.take (n+1)=es:=zX (by omega);have h2:es.drop (n+1)=[]:=List.drop_eq_nil_of_le (by omega);simp[tY,h1,h2,Ex.aA,eG]
theorem PM {es:List Ex} {i:Nat} {a:Ex} (h:es[i+1]?=some a):Ex.aA (es.take (i+1))++eG (Ex.aA (es.drop (i+1)))=Ex.aA (es.take (i+1))++jL a.cells::eG (Ex.aA (es.drop (i+2))):=by
 obtain⟨hl,rfl⟩:=zY.1 h;rw[yH hl];rfl
theorem PN {es:List Ex} {i:Nat} {a:Ex} (h:es[i]?=some a):(Ex.aA (es.take i)).length=i:=by
 have:=(zY.1 h).1;simp;omega
theorem WM {es:List Ex} {i:Nat} {a:Ex} (h:es[i]?=some a):mG 5 i 0 (some (tY es i))=some (.iref a.cells):=by
 have hd:∀ l:List IV,dropE 0 l=l:=fun l=>by cases l<;>rfl
 cases i with
 | zero =>
  have:=Ex.aP h;simp[tY,mG,tst,bnd,this,hd]
 | succ i =>
  have h1:=kN (Ex.aA (es.take (i+1))) (jL a.cells) (eG (Ex.aA (es.drop (i+2))));rw[PN h]at h1;simp only[tY,PM h];simp[mG,tst,bnd,h1,hd,KJ]
theorem JC {es:List Ex} {i:Nat} {a:Ex} (h:es[i]?=some a) (id:Nat) (st:Store):dM id 5 i 0 a.cells st (some (tY es i))=some (upd st id (some (tY es (i+1)))):=by
 have hl:uK a.cells=false:=by rw[Ex.aB];simp[uK,YV]
 have g3:splice a.cells 0 a.cells=some a.cells:=lQ rfl;have g4:splice (jL a.cells) 0 a.cells=some a.cells:=lQ (by rw[rO])
 cases i with
 | zero =>
  cases es with
  | nil=>simp at h
  | cons x es =>
   simp at h;subst h;by_cases hb:fV (Ex.aA (x::es))=true
   ·have hb2:=hb;simp only[Ex.aA,fV,zU]at hb2;simp only[Ex.aA]at hb;simp[tY,dM,qC,bnd,tst,fE,g3,g4,hl,hb,Ex.aA,AQ hb2.2]
   ·simp only[Ex.aA]at hb;simp[tY,dM,qC,bnd,tst,fE,g3,g4,hl,hb,Ex.aA,eG]
 | succ i =>
  have hn:=PN h;have h1:=kN (Ex.aA (es.take (i+1))) (jL a.cells) (eG (Ex.aA (es.drop (i+2))));rw[hn]at h1
  have h2:(Ex.aA (es.take (i+1))++jL a.cells::eG (Ex.aA (es.drop (i+2)))).set (i+1) a.cells=Ex.aA (es.take (i+1))++a.cells::eG (Ex.aA (es.drop (i+2))):=by
   rw[List.set_append_right _ _ (by omega),hn,Nat.sub_self,zA0]
  have h3:Ex.aA (es.take (i+2))=Ex.aA (es.take (i+1))++[a.cells]:=by rw[aN h,Ex.aX]
  simp only[tY,PM h,h3,yY,List.singleton_append];simp[dM,bnd,tst,h1,g4,h2]
end Go.Av
namespace Go.Proofs.Ytjdfjgmebalaaaa.P
open Go Go.Av Go.Av.Mk
set_option maxRecDepth 4000
set_option maxHeartbeats 4000000
noncomputable def ADV:FuncId→Option (List AV→StL→Option (AV×StL))
 | 53=>some OB
 | _=>none
noncomputable def C3:Ctx:={ P:=Try.prog,G:=GS,ownArgs:=eU,keepRes:=keepR,eqT:=EB,prim:=ADV,tree:=true }
theorem ZV:PrimOk C3:=by
 have key:∀ g q,C3.prim g=some q→g=53∧q=OB:=by
  intro g q h;have h:ADV g=some q:=h;unfold ADV at h;split at h
  ·injection h with h;exact⟨rfl,h.symm⟩
  ·cases h
 constructor
 ·intro g args st p h;unfold dB at h
  cases hq:C3.prim g with
  | none=>rw[hq]at h;cases h
  | some q =>
   obtain⟨rfl,rfl⟩:=key g q hq;exact⟨Try.f53,Try.func53,by decide,rfl⟩
 ·intro g args stl r stl' h w m φ vs hi hr h0;unfold dB at h
  cases hq:C3.prim g with
  | none=>rw[hq]at h;cases h
  | some q =>
   obtain⟨rfl,rfl⟩:=key g q hq;rw[hq]at h;obtain⟨e,he,rfl,rfl,hres⟩:=TP h;unfold rE at hres;split at hres
   ·injection hres with h1 h2;subst h1;subst h2;exact wG he hi hr h0
   ·rename_i hk;injection hres with h1 h2;subst h1;subst h2;exact Go.Av.V.Sx.OE he hk hi hr h0
theorem AC4:SoundOk C3:=jW (C:=C3) ft nt eqS mo ZV
attribute [local simp] CV SI FZ ACY mfA mfR AE2 AE3 mfC AA4 iU
theorem CS {es:List Ex} {i:Nat} {a:Ex} (ha:es[i]?=some a) (hs:a.size<1000000000):CV (aH C3) 53 [.ownE 0 5 i 0] [some (tY es i)]=some (if a.kids=[]then .i (.agg a.cells)else tE a 1,if a.kids=[]then [some (tY es i)]else [some (tY es i),some (kL Ex.cells 5 a.kids)]):=by
 have h1:aH C3 53 [.i (.iref a.cells)] []=some (rE a):=by
  rw[aZ (C:=C3) (p:=OB) rfl];exact AAT hs
 have h2:=WM ha;by_cases hk:a.kids=[]
 ·simp only[rE,hk,if_true]at h1 ⊢;rw[Ex.aB,hk]at h1 h2 ⊢;simp only[Ex.aA]at h1 h2 ⊢;simp[h1,h2]
 ·simp only[rE,hk,if_false]at h1 ⊢;simp[h1,h2,tE]
end Go.Proofs.Ytjdfjgmebalaaaa.P
namespace Go.Proofs.Ytjdfjgmebalaaaa
open Go Go.Av
set_option maxHeartbeats 4000000
set_option maxRecDepth 4000
theorem LW (n:Int):n=1∨n=2∨n=3∨n=4∨n=5∨n=6∨n=7∨n=8∨n=9∨n=10∨n=11∨(n≠1∧n≠2∧n≠3∧n≠4∧n≠5∧n≠6∧n≠7∧n≠8∧n≠9∧n≠10∧n≠11):=by omega
@[simp] theorem AAB (n:Int):aH C0 80 [.int n] []=some (.int (bN n),[]):=by
  rw[aI rfl Try.func80 rfl rfl]
  rcases LW n with rfl|rfl|rfl|rfl|rfl|rfl|rfl|rfl|rfl|rfl|rfl|⟨h1,h2,h3,h4,h5,h6,h7,h8,h9,h10,h11⟩
  all_goals first
   | (simp[bN];done)
   | (have e:bN n=-1:=by
       unfold bN;rw[if_neg (by omega),if_neg (by omega),if_neg (by omega)]
      simp[e,h1,h2,h3,h4,h5,h6,h7,h8,h9,h10,h11])
@[simp] theorem AI4 (n:Int):aH C0 78 [.int n] []=some (.int (bN n),[]):=by
  rw[aI rfl Try.func78 rfl rfl]
  rcases LW n with rfl|rfl|rfl|rfl|rfl|rfl|rfl|rfl|rfl|rfl|rfl|⟨h1,h2,h3,h4,h5,h6,h7,h8,h9,h10,h11⟩
  all_goals first
   | (simp[bN];done)
   | (have e:bN n=-1:=by
       unfold bN;rw[if_neg (by omega),if_neg (by omega),if_neg (by omega)]
      simp[e,h1,h2,h3,h4,h5,h6,h7,h8,h9,h10,h11])
@[simp] theorem ZC (n:Int):aH C0 66 [.int n] []=some (.bool (dK n),[]):=by
  rw[aI rfl Try.func66 rfl rfl];by_cases h1:1≤n<;>by_cases h2:n≤6<;>simp[dK,h1,h2]
@[simp] theorem AG5 (n a b:Int):aH C0 45 [.int n, .int a, .int b] []=some (.bool (decide (a≤n∧n≤b)),[]):=by
  rw[aI rfl Try.func45 rfl rfl];by_cases h1:a≤n<;>by_cases h2:n≤b<;>simp[h1,h2]
@[simp] theorem valid_eq (b:Bool) (n:Int):aH C0 81 [.i (.agg [.bool b, .int n])] []=some (.bool (Val.ok ⟨b,n⟩),[]):=by
  rw[aI rfl Try.func81 rfl rfl]
  cases b
  ·by_cases h1:-9999≤n<;>by_cases h2:n≤9999<;>simp[Val.ok,h1,h2]
  ·by_cases h1:n=0<;>simp[Val.ok,h1]
@[simp] theorem ZE (b:Bool) (n:Int):aH C0 79 [.i (.agg [.bool b, .int n])] []=some (.bool (Val.ok ⟨b,n⟩),[]):=by
  rw[aI rfl Try.func79 rfl rfl]
  cases b
  ·by_cases h1:-9999≤n<;>by_cases h2:n≤9999<;>simp[Val.ok,h1,h2]
  ·by_cases h1:n=0
   ·subst h1;simp[Val.ok]
   ·by_cases h2:-9999≤n<;>by_cases h3:n≤9999<;>simp[Val.ok,h1,h2,h3]
theorem ABK {e:Ex} {w:Int} (n:Nat) (hk:¬ (e.kids.length:Int)=bN e.kind):aH C0 77 [.i (.iref e.cells), .int w, .int n] []=some (.bool false,[]):=by
 rw[aI rfl Try.func77 rfl rfl,Ex.aB];simp[Ex.aR,hk]
theorem AD0 {e:Ex} {w:Int} (hk:(e.kids.length:Int)=bN e.kind) (hz:0<bN e.kind):aH C0 77 [.i (.iref e.cells), .int w, .int 0] []=some (.bool false,[]):=by
 rw[aI rfl Try.func77 rfl rfl,Ex.aB];simp[Ex.aR,hk,hz]
theorem V8 {e:Ex} {w:Int} (n:Nat) (hk:(e.kids.length:Int)=bN e.kind) (hz:0<bN e.kind→n≠0) (hh:e.headOk w=false) :
 aH C0 77 [.i (.iref e.cells), .int w, .int n] []=some (.bool false,[]):=by
 rw[aI rfl Try.func77 rfl rfl,Ex.aB];unfold Ex.headOk at hh;by_cases h1:e.kind=1
 ·rw[h1]at hz hk;simp[h1,bN]at hh hk;by_cases h2:0≤e.col
  ·by_cases h3:e.col<w
   ·cases h4:e.val.null with
    | true=>simp[Ex.aR,hk,h1,Int.not_lt.2 h2,zC4.2 h3,h4,bN]
    | false=>simp[Ex.aR,hk,h1,Int.not_lt.2 h2,zC4.2 h3,h4,hh h2 h3 h4,bN]
   ·simp[Ex.aR,hk,h1,Int.not_lt.2 h2,Int.not_lt.1 h3,bN]
  ·simp[Ex.aR,hk,h1,zC4.1 h2,bN]
 ·by_cases h2:e.kind=2
  ·rw[h2]at hz hk;simp[h2,bN]at hh hk;by_cases h3:e.col=0
   ·have h4:Val.ok ⟨e.val.null,e.val.n⟩=false:=hh h3;simp[Ex.aR,hk,h2,h3,h4,bN]
   ·simp[Ex.aR,hk,h2,h3,bN]
  ·simp[h1,h2]at hh;by_cases h0:0<bN e.kind
   ·have hn:=hz h0;by_cases h3:e.col=0
    ·cases h4:e.val.null with
     | true=>simp[Ex.aR,hk,h1,h2,h3,h4,h0,hn,hz h0]
     | false=>simp[Ex.aR,hk,h1,h2,h3,h4,hh h3 h4,h0,hn,hz h0]
    ·simp[Ex.aR,hk,h1,h2,h3,h0,hn,hz h0]
   ·by_cases h3:e.col=0
    ·cases h4:e.val.null with
     | true=>simp[Ex.aR,hk,h1,h2,h3,h4,h0]
     | false=>simp[Ex.aR,hk,h1,h2,h3,h4,hh h3 h4,h0]
    ·simp[Ex.aR,hk,h1,h2,h3,h0]
def VX (e:Ex) (w n:Int) (i:Nat):AS :=
 { env:=[(0, .i (.iref [.int e.kind, .int 0, .bool false, .int 0, .isl (Ex.aA e.kids)])),(1, .int w),(2, .int n),(6, .bool false),(7, .int (bN e.kind)),(8,jk i (.int (i-1))),(28, .bool (n == 0)),(62, .bool false),(90, .bool false),(95, .int (bN e.kind)),(96, .int i),(97,jk i (.bool true)),(109,jk i (.bool false))],st:=[] }
theorem AGS {e:Ex} {w:Int} (n:Nat) (hn:n≤8) (hk:(e.kids.length:Int)=bN e.kind) (hz:0<bN e.kind→n≠0) (hh:e.headOk w=true) (ih:∀ k∈e.kids,0<bN e.kind→aH C0 77 [.i (.iref k.cells), .int w, .int ((n:Int)-1)] []=some (.bool (Ex.vB w (n-1) k),[])) :
 aH C0 77 [.i (.iref e.cells), .int w, .int n] []=some (.bool (e.kids.all (Ex.vB w (n-1))),[]):=by
 rw[aI rfl Try.func77 rfl rfl,Ex.aB]
 rcases Ex.TA w e with h|⟨-,⟨hA,hB,hC,hD,hE,hF⟩|⟨hA,hB,hC,hD,hE,hF⟩|⟨hA,hB,hC,hD,hE,hF⟩⟩
 ·simp[h]at hh
 ·have h2:e.kids=[]:=by rw[hF]at hk;simpa using hk
  simp[h2,Ex.aA,hA,hD,hE,Int.not_lt.2 hB,zC4.2 hC,bN];rw[aG];simp
 ·have h2:e.kids=[]:=by rw[hF]at hk;simpa using hk
  simp[h2,Ex.aA,hA,hB,hC,bN];rw[aG];simp
 ·by_cases h0:0<bN e.kind
  ·have hn:=hz h0;simp[Ex.aR,hk,hA,hB,hC,hD,hE,h0,hn,hz h0];obtain⟨j,h1,h2⟩:=jA (Ex.vB w (n-1)) e.kids;have w1:IntKind.i64.wrap ((n:Int)-1)=n-1:=wrO
   have rd:∀ (i:Nat) (k:Ex),e.kids[i]?=some k→k∈e.kids→i<e.kids.length∧gB (Ex.aA e.kids) i=some k.cells∧aH C0 77 [.i (.iref k.cells), .int w, .int ((n:Int)-1)] []=some (.bool (Ex.vB w (n-1) k),[]) :=
    fun i k a b=>⟨(zY.1 a).1,Ex.aP a,ih k b h0⟩
   have hlen:e.kids.length≤2:=by have:bN e.kind≤2:=by
                                  unfold bN;split;· omega
                                  split;· omega
                                  split<;>omega
                                 omega
   rw[aV (VX e w n) j (by simp[VX])]
   ·rw[aG]
    rcases h2 with ⟨hj,ha⟩|⟨k,h3,h4,h5,ha⟩
    ·have l1:¬ ((j:Int)<bN e.kind):=by omega
     simp[VX,l1,ha]
    ·obtain⟨r1,r2,r3⟩:=rd j k h3 h4;have l1:(j:Int)<bN e.kind:=by omega
     rw[Ex.aB]at r2 r3;simp[VX,l1,r1,ha,r2,r3,w1,h5]
   ·intro i hi;obtain⟨k,h3,h4,h5⟩:=h1 i hi;obtain⟨r1,r2,r3⟩:=rd i k h3 h4;have l1:(i:Int)<bN e.kind:=by omega
    have w2:IntKind.i64.wrap ((i:Int)+1)=i+1:=wrO;rw[Ex.aB]at r2 r3;simp[VX,l1,r1,r2,r3,w1,w2,h5]
  ·have h2:e.kids=[]:=by cases h:e.kids with
    | nil=>rfl
    | cons a l=>rw[h]at hk;simp at hk;omega
   rw[h2]at hk;simp at hk;simp[h2,Ex.aA,hA,hB,hC,hD,hE,← hk];rw[aG];simp
@[simp] theorem rU {w:Int}:∀ (n:Nat) (e:Ex),n≤8→aH C0 77 [.i (.iref e.cells), .int w, .int n] []=some (.bool (Ex.vB w n e),[])
  | 0,e,hn=>by
   by_cases hk:(e.kids.length:Int)=bN e.kind
   ·by_cases hz:0<bN e.kind
    ·rw[show((0:Nat):Int)=0 from rfl,AD0 hk hz];simp[Ex.vB,zC4.2 hz]
    ·cases hh:e.headOk w with
     | false=>rw[V8 0 hk (fun h=>absurd h hz) hh];simp[Ex.vB,hh]
     | true =>
      rw[AGS 0 hn hk (fun h=>absurd h hz) hh (fun k _ h=>absurd h hz)]
      have:e.kids=[]:=by cases h:e.kids with
       | nil=>rfl
       | cons a l=>rw[h]at hk;simp at hk;omega
      have h3:bN e.kind=0:=by rw[this]at hk;simpa using hk.symm
      simp[Ex.vB,hh,h3,this]
   ·rw[ABK 0 hk];simp[Ex.vB,hk]
  | n+1,e,hn=>by
   by_cases hk:(e.kids.length:Int)=bN e.kind
   ·cases hh:e.headOk w with
    | false=>rw[V8 (n+1) hk (fun _=>by omega) hh];simp[Ex.vB,hh]
    | true =>
     rw[AGS (n+1) hn hk (fun _=>by omega) hh (fun k _ _=>by
      have:=rU (w:=w) n k (by omega);rw[show(((n+1:Nat):Int)-1)=(n:Int)by omega]
      exact this)]
     simp[Ex.vB,hh,hk]
   ·rw[ABK (n+1) hk];simp[Ex.vB,hk]
theorem ABJ {e:Ex} {w:Int} (n:Nat) (hk:¬ (e.kids.length:Int)=bN e.kind):aH C0 76 [.i (.agg e.cells), .int w, .int n] []=some (.bool false,[]):=by
 rw[aI rfl Try.func76 rfl rfl,Ex.aB];simp[hk]
theorem ACZ {e:Ex} {w:Int} (hk:(e.kids.length:Int)=bN e.kind) (hz:0<bN e.kind):aH C0 76 [.i (.agg e.cells), .int w, .int 0] []=some (.bool false,[]):=by
 rw[aI rfl Try.func76 rfl rfl,Ex.aB];simp[hk,hz]
def EX (e:Ex) (w n:Int) (v:AV) (i:Nat):AS :=
 { env:=[(0, .i (.agg [.int e.kind, .int e.col, .bool e.val.null, .int e.val.n, .isl (Ex.aA e.kids)])),(1, .int w),(2, .int n),(3, .own 0 0),(6, .bool false),(7, .int i),(24,v),(29,jk i (.bool true)),(41,jk i (.bool false)),(43, .junk),(44, .junk),(57, .junk)],
   st:=[some (.box [.int e.kind, .int e.col, .bool e.val.null, .int e.val.n, .i (.isl (Ex.aA e.kids))])] }
theorem AGR {e:Ex} {w:Int} (n:Nat) (hn:n≤8) (hk:(e.kids.length:Int)=bN e.kind) (hz:0<bN e.kind→n≠0)  (hw:1≤w∧w≤6)
 (ih:∀ k∈e.kids,0<bN e.kind→aH C0 76 [.i (.agg k.cells), .int w, .int ((n:Int)-1)] []=some (.bool (Ex.vB w (n-1) k),[])) :
  aH C0 76 [.i (.agg e.cells), .int w, .int n] []=some (.bool (e.kids.all (Ex.vB w (n-1)) && e.headOk w),[]):=by
 rw[aI rfl Try.func76 rfl rfl,Ex.aB];have w0:IntKind.i64.wrap (w-1)=w-1:=wrO;by_cases h0:0<bN e.kind
 ·have hn:=hz h0;simp[hk,h0,hn];obtain⟨j,h1,h2⟩:=jA (Ex.vB w (n-1)) e.kids;have w1:IntKind.i64.wrap ((n:Int)-1)=n-1:=wrO
  have rd:∀ (i:Nat) (k:Ex),e.kids[i]?=some k→k∈e.kids→i<e.kids.length∧gB (Ex.aA e.kids) i=some k.cells∧aH C0 76 [.i (.agg k.cells), .int w, .int ((n:Int)-1)] []=some (.bool (Ex.vB w (n-1) k),[]) :=
   fun i k a b=>⟨(zY.1 a).1,Ex.aP a,ih k b h0⟩
  have hlen:e.kids.length≤2:=by have:bN e.kind≤2:=by
                                 unfold bN;split;· omega
                                 split;· omega
                                 split<;>omega
                                omega
  have hk1:e.kind≠1:=fun h=>by rw[h]at h0;simp[bN]at h0
  have hk2:e.kind≠2:=fun h=>by rw[h]at h0;simp[bN]at h0
  rw[aV (EX e w n (.bool ((n:Int) == 0)) ) j (by simp[EX])]
  ·rw[aG]
   rcases h2 with ⟨hj,ha⟩|⟨k,h3,h4,h5,ha⟩
   ·have l1:¬ ((j:Int)<bN e.kind):=by omega
    by_cases h6:e.col=0
    ·cases h7:e.val.null with
     | true=>simp[EX,l1,hk,ha,Ex.headOk,hk1,hk2,h6,h7]
     | false=>simp[EX,l1,hk,ha,Ex.headOk,hk1,hk2,h6,h7]
    ·simp[EX,l1,hk,ha,Ex.headOk,hk1,hk2,h6]
   ·obtain⟨r1,r2,r3⟩:=rd j k h3 h4;have l1:(j:Int)<bN e.kind:=by omega
    rw[Ex.aB]at r2 r3;simp[EX,l1,r1,hk,ha,r2,r3,w1,h5]
  ·intro i hi;obtain⟨k,h3,h4,h5⟩:=h1 i hi;obtain⟨r1,r2,r3⟩:=rd i k h3 h4;have l1:(i:Int)<bN e.kind:=by omega
   have w2:IntKind.i64.wrap ((i:Int)+1)=i+1:=wrO;rw[Ex.aB]at r2 r3;simp[EX,l1,r1,hk,r2,r3,w1,w2,h5]
 ·have h2:e.kids=[]:=by cases h:e.kids with
   | nil=>rfl
   | cons a l=>rw[h]at hk;simp at hk;omega
  rw[h2]at hk;simp at hk;simp[h2,Ex.aA,← hk];rw[aG];by_cases h1:e.kind=1
  ·by_cases h4:0≤e.col
   ·by_cases h5:e.col<w
    ·cases h7:e.val.null with
     | true=>simp[h1,w0,Ex.headOk,h4,h5,h7,show e.col≤w-1 by omega]
     | false=>simp[h1,w0,Ex.headOk,h4,h5,h7,show e.col≤w-1 by omega]
    ·simp[h1,w0,Ex.headOk,h4,h5,show ¬ e.col≤w-1 by omega]
   ·simp[h1,w0,Ex.headOk,h4]
  ·by_cases h3:e.kind=2
   ·by_cases h4:e.col=0
    ·simp[h3,Ex.headOk,h4]
    ·simp[h3,Ex.headOk,h4]
   ·by_cases h4:e.col=0
    ·cases h7:e.val.null with
     | true=>simp[h1,h3,Ex.headOk,h4,h7]
     | false=>simp[h1,h3,Ex.headOk,h4,h7]
    ·simp[h1,h3,Ex.headOk,h4]
theorem vL {w:Int} (hw:1≤w∧w≤6):∀ (n:Nat) (e:Ex),n≤8→aH C0 76 [.i (.agg e.cells), .int w, .int n] []=some (.bool (Ex.vB w n e),[])
 | 0,e,hn=>by
  by_cases hk:(e.kids.length:Int)=bN e.kind
  ·by_cases hz:0<bN e.kind
   ·rw[show((0:Nat):Int)=0 from rfl,ACZ hk hz];simp[Ex.vB,zC4.2 hz]
   ·rw[AGR 0 hn hk (fun h=>absurd h hz) hw (fun k _ h=>absurd h hz)]
    have:e.kids=[]:=by cases h:e.kids with
     | nil=>rfl
     | cons a l=>rw[h]at hk;simp at hk;omega
    have h3:bN e.kind=0:=by rw[this]at hk;simpa using hk.symm
    simp[Ex.vB,h3,this]
  ·rw[ABJ 0 hk];simp[Ex.vB,hk]
 | n+1,e,hn=>by
  by_cases hk:(e.kids.length:Int)=bN e.kind
  ·rw[AGR (n+1) hn hk (fun _=>by omega) hw (fun k _ _=>by
      have:=vL (w:=w) hw n k (by omega);rw[show(((n+1:Nat):Int)-1)=(n:Int)by omega]
      exact this)]
   simp[Ex.vB,hk,Bool.and_comm]
  ·rw[ABJ (n+1) hk];simp[Ex.vB,hk]
theorem ok_eq (w:Int) (e:Ex):aH C0 75 [.i (.agg e.cells), .int w] []=some (.bool (e.ok w),[]):=by
 rw[aI rfl Try.func75 rfl rfl];have h:=rU (w:=w) 8 e (by omega);rw[Ex.aB]at h ⊢;have e8:((8:Nat):Int)=8:=rfl;rw[e8]at h
 cases hw:dK w with
 | false=>simp[hw,Ex.ok]
 | true=>simp[hw,Ex.ok,h]
theorem KV (w:Int) (e:Ex):aH C0 71 [.i (.agg e.cells), .int w] []=some (.bool (e.ok w),[]):=by
 rw[aI rfl Try.func71 rfl rfl];by_cases hw:1≤w∧w≤6
 ·have h:=vL hw 8 e (by omega);rw[Ex.aB]at h ⊢;have e8:((8:Nat):Int)=8:=rfl;rw[e8]at h;simp[hw,Ex.ok,dK,h]
 ·rw[Ex.aB];simp[hw,Ex.ok,dK]
theorem bS:IntKind.i64.wrap 1=1:=wrO
def CX (e:Ex) (i:Nat):AS :=
 { env:=[(0, .i (.agg [.int e.kind, .int e.col, .bool e.val.null, .int e.val.n, .isl (Ex.aA e.kids)])),(1, .own 0 0),(2, .own 1 0),(3, .own 2 0),(4, .int i),(16,jk i (.bool true))],
   st:=some (.box [.int e.kind, .int e.col, .bool e.val.null, .int e.val.n, .i (.isl (Ex.aA e.kids))])::some (.box [.int 0, .int 0, .bool false, .int 0, .nils]) ::
    some (.box [.int e.kind, .int e.col, .bool e.val.null, .int e.val.n,gro 3 5 i])::AAH 5 (Ex.aA (e.kids.take i)) i }
theorem AF1 {e:Ex} (hl:e.kids.length<1000000000) (ih:∀ a∈e.kids,aH C0 64 [.i (.agg a.cells)] []=some (.i (.agg a.cells),[])) :
 aH C0 64 [.i (.agg e.cells)] []=some (.i (.agg e.cells),[]):=by
 rw[aI rfl Try.func64 rfl rfl,Ex.aB];simp;rw[aV (CX e) e.kids.length (by simp[CX])]
 ·rw[aG]
  cases hn:e.kids.length with
  | zero =>
   have:e.kids=[]:=zZ.1 hn;simp[CX,this,Ex.aA]
  | succ n =>
   have:e.kids.take (n+1)=e.kids:=zX (by omega);simp[CX,hn,this]
 ·intro i hi;have h3:=zW hi;have hc:=ih _ (zT h3);have r2:=Ex.aP h3;generalize e.kids[i]=a at h3 hc r2;have w2:IntKind.i64.wrap ((i:Int)+1)=i+1:=wrO;by_cases h0:i=0
  ·subst h0;simp[CX,hi,r2,hc,bS,aN h3,Ex.aA]
  ·simp[CX,aO h0,aJ h0,d9 h0,hi,r2,hc,w2,aN h3,Ex.aX,show min i e.kids.length=i by omega,show(i+1)*56≤140737488355328 by omega,zG]
theorem EJ:∀ (e:Ex),e.thin→aH C0 64 [.i (.agg e.cells)] []=some (.i (.agg e.cells),[]):=by
 intro e
 induction e using Ex.ind with
 | h k c v ks ih =>
  intro ht;have ht':=(Ex.bR _).1 ht;exact AF1 ht'.1 fun a ha=>ih a ha (ht'.2 a ha)
def HX (e:Ex) (i:Nat):AS :=
 { env:=[(0, .i (.iref [.int e.kind, .int e.col, .bool e.val.null, .int e.val.n, .isl (Ex.aA e.kids)])),(2, .int 0),(3, .int (Ex.htL (e.kids.take i):Nat)),(4,jk i (.int (i-1))),(9, .int e.kids.length),(10, .int i),(11,jk i (.bool true))],st:=[] }
def AGO:List IV:=[.int 0, .int 0, .bool false, .int 0, .isl []]
end Go.Proofs.Ytjdfjgmebalaaaa
namespace Go.Av
def Ex.subst (e:Ex) (l:List Ex) (w:Int):Option Ex:=if e.ok l.length && (l.all (Ex.ok w) && (e.sub l).ok w)then some (e.sub l)else none
end Go.Av
namespace Go.Proofs.Ytjdfjgmebalaaaa
open Go Go.Av
set_option maxRecDepth 4000
end Go.Proofs.Ytjdfjgmebalaaaa
namespace Go.Av
end Go.Av
namespace Go.Proofs.Ytjdfjgmebalaaaa
open Go Go.Av
set_option maxRecDepth 4000
set_option maxHeartbeats 1000000
end Go.Proofs.Ytjdfjgmebalaaaa
namespace Go.Av
end Go.Av
namespace Go.Proofs.Ytjdfjgmebalaaaa
open Go Go.Av
set_option maxRecDepth 4000
set_option maxHeartbeats 1000000
end Go.Proofs.Ytjdfjgmebalaaaa
namespace Go.Av
def AMK (i:Nat):Ex:=.mk 1 i Val.zero []
def AKZ (n:Nat):List Ex:=(List.range n).map AMK
def ALJ (o:Option Ex):Ex:=o.getD Ex.zero
end Go.Av
namespace Go.Proofs.Ytjdfjgmebalaaaa
open Go Go.Av
set_option maxRecDepth 4000
set_option maxHeartbeats 1000000
def WX (code:List UInt8) (e:Ex) (l:List Ex) (w:Int) (i:Nat):AS :=
 { env:=[(0, .i (.isl (nQ code))),(2, .bool false),(3, .own 0 0),(4, .i (.isl (Ex.aA l))),(5, .int w),(6, .own 1 0),(7, .bool (e.subst l w).isSome),(8, .own 2 0),(9, .bool (e.subst l w).isSome),(10, .osl 3 5 0 i),(11, .int i),(12, .junk),(13, .junk),(16, .bool false),(52, .bool false),(65,jk i (.bool true))],
   st:=[some (.box (jV e.cells)),some (.box (jV (ALJ (e.subst l w)).cells)),some (.box (jV (ALJ (e.subst l w)).cells)),some (.arr 5 (Ex.aA (AKZ i)))] }
end Go.Proofs.Ytjdfjgmebalaaaa
namespace Go.Av
end Go.Av
namespace Go.Proofs.Ytjdfjgmebalaaaa
open Go Go.Av
set_option maxRecDepth 4000
set_option maxHeartbeats 1000000
end Go.Proofs.Ytjdfjgmebalaaaa
namespace Go.Av
end Go.Av
namespace Go.Proofs.Ytjdfjgmebalaaaa
open Go Go.Av
set_option maxRecDepth 4000
set_option maxHeartbeats 1000000
end Go.Proofs.Ytjdfjgmebalaaaa
namespace Go.Av
end Go.Av
namespace Go.Proofs.Ytjdfjgmebalaaaa
open Go Go.Av
set_option maxRecDepth 4000
set_option maxHeartbeats 2000000
def xv (a b:Nat):AV:=if b=a then .osl 0 2 0 a else .osl 1 2 0 b
def wi (n:Nat):Nat:=if n=0 then 1 else 2
end Go.Proofs.Ytjdfjgmebalaaaa
namespace Go.Av
end Go.Av
namespace Go.Proofs.Ytjdfjgmebalaaaa
open Go Go.Av
set_option maxRecDepth 4000
set_option maxHeartbeats 2000000
end Go.Proofs.Ytjdfjgmebalaaaa
namespace Go.Av
end Go.Av
namespace Go.Proofs.Ytjdfjgmebalaaaa
open Go Go.Av
set_option maxRecDepth 4000
set_option maxHeartbeats 2000000
set_option maxHeartbeats 4000000
end Go.Proofs.Ytjdfjgmebalaaaa
namespace Go.Av
end Go.Av
namespace Go.Proofs.Ytjdfjgmebalaaaa
open Go Go.Av
set_option maxRecDepth 4000
set_option maxHeartbeats 2000000
end Go.Proofs.Ytjdfjgmebalaaaa
namespace Go.Proofs.Ytjdfjgmebalaaaa.P
open Go Go.Av
set_option maxRecDepth 4000
theorem nZ (n:Int):n=1∨n=2∨n=3∨n=4∨n=5∨n=6∨n=7∨n=8∨(n≠1∧n≠2∧n≠3∧n≠4∧n≠5∧n≠6∧n≠7∧n≠8):=by omega
@[simp] theorem YR (n:Int):aH C0 67 [.int n] []=some (.tup [.int (gV n), .int (jO n)],[]):=by
  rw[aI rfl Try.func67 rfl rfl]
  rcases nZ n with rfl|rfl|rfl|rfl|rfl|rfl|rfl|rfl|⟨h1,h2,h3,h4,h5,h6,h7,h8⟩
  all_goals first
   | (simp[gV,jO];done)
   | (have e1:gV n=0:=by unfold gV;rw[if_neg (by omega)]
      have e2:jO n=-1:=by unfold jO;rw[if_neg (by omega),if_neg (by omega),if_neg (by omega)]
      simp[e1,e2,h1,h2,h3,h4,h5,h6,h7,h8])
def pv (cs:List Int) (i:Nat):Int:=((-1)::cs)[i]?.getD 0
theorem VT {cs:List Int} {i:Nat} {c:Int} (h:cs[i]?=some c):pv cs (i+1)=c:=by simp[pv,h]
theorem tO {cs:List Int} {i:Nat} {x:Int×Int} (h:(cs.zip (-1::cs))[i]?=some x):cs[i]?=some x.1∧pv cs i=x.2:=by
 rw[List.getElem?_zip_eq_some]at h;exact⟨h.1,by simp[pv,h.2]⟩
theorem QI (cs:List Int):(cs.zip (-1::cs)).length=cs.length:=by simp
def GX (cs:List Int) (w:Int) (i:Nat):AS :=
 { env:=[(0, .i (.isl (aF cs))),(1, .int w),(4, .bool false),(5, .int (pv cs i)),(7,jk i (.int (pv cs i))),(10, .bool false),(11, .i (.isl (aF cs))),(12, .int cs.length),(13, .int i),(14,jk i (.bool true)),(24,jk i (.bool false))],st:=[] }
theorem pR (cs:List Int) (w:Int):aH C0 74 [.i (.isl (aF cs)), .int w] []=some (.bool (decide (cs.length<6) && nP w cs),[]):=by
 rw[aI rfl Try.func74 rfl rfl];by_cases h6:cs.length<6
 case neg=>simp[h6,show(6:Int)≤cs.length by omega]
 simp[h6,show ¬ (6:Int)≤cs.length by omega];obtain⟨j,h1,h2⟩:=jA (fun x:Int×Int=>decide (x.2<x.1∧x.1<w)) (cs.zip (-1::cs));rw[aV (GX cs w) j (by simp[GX,pv])]
 ·rw[aG]
  rcases h2 with ⟨hj,ha⟩|⟨x,h3,_,h4,ha⟩
  ·rw[QI]at hj;have ha:nP w cs=true:=ha;simp[GX,hj,ha]
  ·obtain⟨c1,c2⟩:=tO h3;have r1:=(zY.1 c1).1;have r2:=bO c1;have hb:¬ (x.2<x.1∧x.1<w):=by simpa using h4
   have ha:nP w cs=false:=ha;by_cases hx:x.1≤x.2
   ·simp[GX,r1,r2,c2,hx,ha]
   ·simp[GX,r1,r2,c2,hx,ha,show w≤x.1 by omega]
 ·intro i hi;obtain⟨x,h3,_,h4⟩:=h1 i hi;obtain⟨c1,c2⟩:=tO h3;have r1:=(zY.1 c1).1;have r2:=bO c1;have c3:=VT c1;have hb:x.2<x.1∧x.1<w:=by simpa using h4
  have w2:IntKind.i64.wrap ((i:Int)+1)=i+1:=wrO;simp[GX,r1,r2,c2,c3,w2,show ¬ x.1≤x.2 by omega,show ¬ w≤x.1 by omega]
def WX (p:Pn) (a b y:Int) (x14:Bool) (n21 n22:Nat) (x22:Bool) (n26 n27:Nat) (x27:Bool) (i:Nat):AS :=
 { env:=[(0, .i (.iref [.int p.kind, .int p.table, .isl (Ex.aA p.exprs), .isl (aF p.cols), .isl (Pn.aA p.kids)])),(1, .int a),(2, .int b),(6, .int 0),(7, .int y),(8,jk i (.int (i-1))),(13, .int p.kind),(14, .bool x14),(21,jk n21 (.bool false)),(22,jk n22 (.bool x22)),(26,jk n26 (.bool false)),(27,jk n27 (.bool x27)),(35, .junk),(46, .int p.exprs.length),(47, .int i),(48,jk i (.bool true)),(59,jk i (.bool false)),(65, .junk)],st:=[] }
theorem fM (p:Pn) (a b:Int) (ha:0≤a∧a≤6) (hb:0≤b∧b≤6) (hd:p.headOk=true):aH C0 68 [.i (.iref p.cells), .int a, .int b] []=some (.int (dI p.kind p.exprs p.cols a b),[]):=by
 rw[aI rfl Try.func68 rfl rfl];have he:=Pn.oF hd;rw[Pn.aB];have hg:=pR p.cols a;have w1:IntKind.i64.wrap (a+b)=a+b:=wrO;by_cases h6:p.kind=6
 ·have h8:p.kind≠8:=by omega
  have h4:p.kind≠5:=by omega
  have hz:p.exprs=[]:=by
   simp only[Pn.headOk,zU,yT,h6]at hd;have:=hd.2.1;simp[gV]at this;exact this
  by_cases hab:a=b
  ·subst hab;simp[h6];rw[aG];simp[hz,h6,dI]
  ·simp[h6,hab,dI]
 by_cases h8:p.kind=8
 ·by_cases h9:p.cols.length<6
  ·have w3:IntKind.i64.wrap ((p.cols.length:Int)+1)=p.cols.length+1:=wrO
   cases hc:nP a p.cols<;>simp[h8,hg,h9,hc,dI,w3]
  ·simp[h8,hg,h9,dI]
 by_cases h45:p.kind=4∨p.kind=5
 ·by_cases hs:a+b≤6
  case neg=>rcases h45 with h4|h4<;>simp[h4,w1,show 6<a+b by omega,dI,hs]
  have h4:True:=trivial
  rcases h45 with h45|h45
  ·simp[h45,w1,show ¬ 6<a+b by omega];obtain⟨j,h1,h2⟩:=jA (Ex.ok (a+b)) p.exprs;rw[aV (WX p a b (a+b) true 1 0 false 0 0 false) j (by simp[WX,h45])]
   ·rw[aG]
    rcases h2 with ⟨hj,hall⟩|⟨x,h3,_,h5,hall⟩
    ·simp[WX,hj,hall,dI,h45,hs]
    ·have r1:=(zY.1 h3).1;have r2:=Ex.aP h3;have r3:=ok_eq (a+b) x;rw[h5]at r3;rw[Ex.aB]at r2 r3;simp[WX,r1,r2,r3,hall,dI,h45,hs]
   ·intro i hi;obtain⟨x,h3,_,h5⟩:=h1 i hi;have r1:=(zY.1 h3).1;have r2:=Ex.aP h3;have r3:=ok_eq (a+b) x;rw[h5]at r3;rw[Ex.aB]at r2 r3;have w2:IntKind.i64.wrap ((i:Int)+1)=i+1:=wrO;simp[WX,r1,r2,r3,w2,h45]
  ·simp[h45,w1,show ¬ 6<a+b by omega];obtain⟨j,h1,h2⟩:=jA (Ex.ok (a+b)) p.exprs;rw[aV (WX p a b (a+b) true 1 0 false 0 0 false) j (by simp[WX,h45])]
   ·rw[aG]
    rcases h2 with ⟨hj,hall⟩|⟨x,h3,_,h5,hall⟩
    ·simp[WX,hj,hall,dI,h45,hs]
    ·have r1:=(zY.1 h3).1;have r2:=Ex.aP h3;have r3:=ok_eq (a+b) x;rw[h5]at r3;rw[Ex.aB]at r2 r3;simp[WX,r1,r2,r3,hall,dI,h45,hs]
   ·intro i hi;obtain⟨x,h3,_,h5⟩:=h1 i hi;have r1:=(zY.1 h3).1;have r2:=Ex.aP h3;have r3:=ok_eq (a+b) x;rw[h5]at r3;rw[Ex.aB]at r2 r3;have w2:IntKind.i64.wrap ((i:Int)+1)=i+1:=wrO;simp[WX,r1,r2,r3,w2,h45]
 have h4:p.kind≠4:=by omega
 have h5':p.kind≠5:=by omega
 simp[h6,h8,h4,h5'];obtain⟨j,h1,h2⟩:=jA (Ex.ok (a)) p.exprs;rw[aV (WX p a b a false 0 1 false 0 1 false) j (by simp[WX,h6,h8,h5'])]
 ·rw[aG]
  rcases h2 with ⟨hj,hall⟩|⟨x,h3,_,h5,hall⟩
  ·by_cases h3':p.kind=3
   ·simp[WX,hj,hall,dI,h3']
   ·simp[WX,hj,hall,dI,h6,h8,h4,h5',h3']
  ·have r1:=(zY.1 h3).1;have r2:=Ex.aP h3;have r3:=ok_eq (a) x;rw[h5]at r3;rw[Ex.aB]at r2 r3;by_cases h3':p.kind=3
   ·simp[WX,r1,r2,r3,hall,dI,h3']
   ·simp[WX,r1,r2,r3,hall,dI,h6,h8,h4,h5',h3']
 ·intro i hi;obtain⟨x,h3,_,h5⟩:=h1 i hi;have r1:=(zY.1 h3).1;have r2:=Ex.aP h3;have r3:=ok_eq (a) x;rw[h5]at r3;rw[Ex.aB]at r2 r3;have w2:IntKind.i64.wrap ((i:Int)+1)=i+1:=wrO;simp[WX,r1,r2,r3,w2]
set_option maxHeartbeats 2000000
@[simp] theorem AKM:jO 1=0:=by decide
@[simp] theorem AJO:gV 1=0:=by decide
@[simp] theorem AKL:jO 2=1:=by decide
@[simp] theorem AJN:gV 2=1:=by decide
@[simp] theorem AKK:jO 3=1:=by decide
@[simp] theorem AJM:gV 3=1:=by decide
@[simp] theorem AKJ:jO 4=2:=by decide
@[simp] theorem AJL:gV 4=1:=by decide
@[simp] theorem AKI:jO 5=2:=by decide
@[simp] theorem AJK:gV 5=1:=by decide
@[simp] theorem AKH:jO 6=2:=by decide
@[simp] theorem AJJ:gV 6=0:=by decide
@[simp] theorem AKG:jO 7=1:=by decide
@[simp] theorem AJI:gV 7=0:=by decide
@[simp] theorem AKF:jO 8=1:=by decide
@[simp] theorem AJH:gV 8=0:=by decide
theorem PK {k:Int} (h:k≠1∧k≠2∧k≠3∧k≠4∧k≠5∧k≠6∧k≠7∧k≠8):jO k=-1:=by
 unfold jO;rw[if_neg (by omega),if_neg (by omega),if_neg (by omega)]
theorem OM {ws:List Int} {t:Int} {es:List Ex} {cs:List Int} {ks:List Pn} {lv:Nat} {k:Int} (h:k≠1∧k≠2∧k≠3∧k≠4∧k≠5∧k≠6∧k≠7∧k≠8):aH C0 50 [.i (.iref [.int k, .int t, .isl (Ex.aA es), .isl (aF cs), .isl (Pn.aA ks)]), .i (.isl (aF ws)), .int lv] []=some (.int 0,[]):=by
 rw[aI rfl Try.func50 rfl rfl];have c1:¬ (ks.length:Int)=-1:=by omega
 have hn:=PK h;simp[h.2.2.1,hn,c1]
theorem Y8 {ws:List Int} {t:Int} {es:List Ex} {cs:List Int} {ks:List Pn} {lv:Nat} (h:¬ ((ks.length:Int)=0∧(es.length:Int)=0∧True∧cs=[])):aH C0 50 [.i (.iref [.int 1, .int t, .isl (Ex.aA es), .isl (aF cs), .isl (Pn.aA ks)]), .i (.isl (aF ws)), .int lv] []=some (.int 0,[]):=by
 rw[aI rfl Try.func50 rfl rfl];by_cases c1:(ks.length:Int)=0
 case neg=>simp at c1;simp[c1]
 by_cases c2:(es.length:Int)=0
 case neg=>simp at c2;simp[c1,c2]
 by_cases c5:cs=[]
 case neg=>simp[c1,c2,c5]
 exact absurd (by simp[c1,c2,c5]) h
theorem Y7 {ws:List Int} {t:Int} {es:List Ex} {cs:List Int} {ks:List Pn} {lv:Nat} (h:¬ ((ks.length:Int)=1∧(es.length:Int)=1∧lv≠0∧t=0∧cs=[])):aH C0 50 [.i (.iref [.int 2, .int t, .isl (Ex.aA es), .isl (aF cs), .isl (Pn.aA ks)]), .i (.isl (aF ws)), .int lv] []=some (.int 0,[]):=by
 rw[aI rfl Try.func50 rfl rfl];by_cases c1:(ks.length:Int)=1
 case neg=>simp[c1]
 by_cases c2:(es.length:Int)=1
 case neg=>simp[c1,c2]
 by_cases c3:lv=0
 case pos=>subst c3;simp[c1,c2]
 have c3':¬ (lv:Int)=0:=by omega
 by_cases c4:t=0
 case neg=>simp[c1,c2,c3,c3',c4]
 by_cases c5:cs=[]
 case neg=>simp[c1,c2,c3,c3',c4,c5]
 exact absurd (by simp[c1,c2,c3,c3',c4,c5]) h
theorem Y6 {ws:List Int} {t:Int} {es:List Ex} {cs:List Int} {ks:List Pn} {lv:Nat} (h:¬ ((ks.length:Int)=1∧(es.length:Int)=(if dK es.length=true then(es.length:Int)else 1)∧lv≠0∧t=0∧cs=[])):aH C0 50 [.i (.iref [.int 3, .int t, .isl (Ex.aA es), .isl (aF cs), .isl (Pn.aA ks)]), .i (.isl (aF ws)), .int lv] []=some (.int 0,[]):=by
 rw[aI rfl Try.func50 rfl rfl]
 cases hv:dK es.length
 ·have hq:(es.length:Int)≠1:=fun hq=>by rw[hq]at hv;simp[dK]at hv
  by_cases c1:(ks.length:Int)=1
  case neg=>simp[hv,c1]
  simp[hv,c1,hq]
 by_cases c1:(ks.length:Int)=1
 case neg=>simp[hv,c1]
 by_cases c3:lv=0
 case pos=>subst c3;simp[hv,c1]
 have c3':¬ (lv:Int)=0:=by omega
 by_cases c4:t=0
 case neg=>simp[hv,c1,c3,c3',c4]
 by_cases c5:cs=[]
 case neg=>simp[hv,c1,c3,c3',c4,c5]
 exact absurd (by simp[hv,c1,c3,c4,c5]) h
theorem Y5 {ws:List Int} {t:Int} {es:List Ex} {cs:List Int} {ks:List Pn} {lv:Nat} (h:¬ ((ks.length:Int)=2∧(es.length:Int)=1∧lv≠0∧t=0∧cs=[])):aH C0 50 [.i (.iref [.int 4, .int t, .isl (Ex.aA es), .isl (aF cs), .isl (Pn.aA ks)]), .i (.isl (aF ws)), .int lv] []=some (.int 0,[]):=by
 rw[aI rfl Try.func50 rfl rfl];by_cases c1:(ks.length:Int)=2
 case neg=>simp[c1]
 by_cases c2:(es.length:Int)=1
 case neg=>simp[c1,c2]
 by_cases c3:lv=0
 case pos=>subst c3;simp[c1,c2]
 have c3':¬ (lv:Int)=0:=by omega
 by_cases c4:t=0
 case neg=>simp[c1,c2,c3,c3',c4]
 by_cases c5:cs=[]
 case neg=>simp[c1,c2,c3,c3',c4,c5]
 exact absurd (by simp[c1,c2,c3,c3',c4,c5]) h
theorem Y4 {ws:List Int} {t:Int} {es:List Ex} {cs:List Int} {ks:List Pn} {lv:Nat} (h:¬ ((ks.length:Int)=2∧(es.length:Int)=1∧lv≠0∧t=0∧cs=[])):aH C0 50 [.i (.iref [.int 5, .int t, .isl (Ex.aA es), .isl (aF cs), .isl (Pn.aA ks)]), .i (.isl (aF ws)), .int lv] []=some (.int 0,[]):=by
 rw[aI rfl Try.func50 rfl rfl];by_cases c1:(ks.length:Int)=2
 case neg=>simp[c1]
 by_cases c2:(es.length:Int)=1
 case neg=>simp[c1,c2]
 by_cases c3:lv=0
 case pos=>subst c3;simp[c1,c2]
 have c3':¬ (lv:Int)=0:=by omega
 by_cases c4:t=0
 case neg=>simp[c1,c2,c3,c3',c4]
 by_cases c5:cs=[]
 case neg=>simp[c1,c2,c3,c3',c4,c5]
 exact absurd (by simp[c1,c2,c3,c3',c4,c5]) h
theorem Y3 {ws:List Int} {t:Int} {es:List Ex} {cs:List Int} {ks:List Pn} {lv:Nat} (h:¬ ((ks.length:Int)=2∧(es.length:Int)=0∧lv≠0∧t=0∧cs=[])):aH C0 50 [.i (.iref [.int 6, .int t, .isl (Ex.aA es), .isl (aF cs), .isl (Pn.aA ks)]), .i (.isl (aF ws)), .int lv] []=some (.int 0,[]):=by
 rw[aI rfl Try.func50 rfl rfl];by_cases c1:(ks.length:Int)=2
 case neg=>simp[c1]
 by_cases c2:(es.length:Int)=0
 case neg=>simp at c2;simp[c1,c2]
 by_cases c3:lv=0
 case pos=>subst c3;simp[c1,c2]
 have c3':¬ (lv:Int)=0:=by omega
 by_cases c4:t=0
 case neg=>simp[c1,c2,c3,c3',c4]
 by_cases c5:cs=[]
 case neg=>simp[c1,c2,c3,c3',c4,c5]
 exact absurd (by simp[c1,c2,c3,c3',c4,c5]) h
theorem Y2 {ws:List Int} {t:Int} {es:List Ex} {cs:List Int} {ks:List Pn} {lv:Nat} (h:¬ ((ks.length:Int)=1∧(es.length:Int)=0∧lv≠0∧t=0∧cs=[])):aH C0 50 [.i (.iref [.int 7, .int t, .isl (Ex.aA es), .isl (aF cs), .isl (Pn.aA ks)]), .i (.isl (aF ws)), .int lv] []=some (.int 0,[]):=by
 rw[aI rfl Try.func50 rfl rfl];by_cases c1:(ks.length:Int)=1
 case neg=>simp[c1]
 by_cases c2:(es.length:Int)=0
 case neg=>simp at c2;simp[c1,c2]
 by_cases c3:lv=0
 case pos=>subst c3;simp[c1,c2]
 have c3':¬ (lv:Int)=0:=by omega
 by_cases c4:t=0
 case neg=>simp[c1,c2,c3,c3',c4]
 by_cases c5:cs=[]
 case neg=>simp[c1,c2,c3,c3',c4,c5]
 exact absurd (by simp[c1,c2,c3,c3',c4,c5]) h
theorem Y1 {ws:List Int} {t:Int} {es:List Ex} {cs:List Int} {ks:List Pn} {lv:Nat} (h:¬ ((ks.length:Int)=1∧(es.length:Int)=0∧lv≠0∧t=0)):aH C0 50 [.i (.iref [.int 8, .int t, .isl (Ex.aA es), .isl (aF cs), .isl (Pn.aA ks)]), .i (.isl (aF ws)), .int lv] []=some (.int 0,[]):=by
 rw[aI rfl Try.func50 rfl rfl];by_cases c1:(ks.length:Int)=1
 case neg=>simp[c1]
 by_cases c2:(es.length:Int)=0
 case neg=>simp at c2;simp[c1,c2]
 by_cases c3:lv=0
 case pos=>subst c3;simp[c1,c2]
 have c3':¬ (lv:Int)=0:=by omega
 by_cases c4:t=0
 case neg=>simp[c1,c2,c3,c3',c4]
 exact absurd (by simp[c1,c2,c3,c3',c4]) h
theorem U7 {ws:List Int} {t:Int} {lv:Nat}:aH C0 50 [.i (.iref [.int 1, .int t, .isl (Ex.aA []), .isl (aF []), .isl (Pn.aA [])]), .i (.isl (aF ws)), .int lv] []=some (.int (if 0≤t then(ws[t.toNat]?).getD 0 else 0),[]):=by
 rw[aI rfl Try.func50 rfl rfl];by_cases h0:0≤t
 case neg=>simp[Ex.aA,Pn.aA,aF,h0,show t<0 by omega]
 cases hx:ws[t.toNat]? with
 | none =>
  have:=zB0.1 hx;simp[Ex.aA,Pn.aA,aF,h0,show ¬ t<0 by omega,show(ws.length:Int)≤t by omega]
 | some x =>
  have r1:=(zY.1 hx).1;have r2:=bO hx;simp[Ex.aA,Pn.aA,aF,h0,show ¬ t<0 by omega,show ¬ (ws.length:Int)≤t by omega,r2,show t<ws.length by omega]
theorem U6 {ws:List Int} {es:List Ex} {a:Pn} {lv:Nat} {va:Int} (hl:lv≠0) (hl8:lv≤8) (hd:Pn.headOk (Pn.mk 2 0 es [] [a])=true) (ha:aH C0 50 [.i (.iref a.cells), .i (.isl (aF ws)), .int (lv-1:Nat)] []=some (.int va,[])) (ra:0≤va∧va≤6):aH C0 50 [.i (.iref [.int 2, .int 0, .isl (Ex.aA es), .isl (aF []), .isl (Pn.aA [a])]), .i (.isl (aF ws)), .int lv] []=some (.int (if va=0 then 0 else dI 2 es [] va 0),[]):=by
 rw[aI rfl Try.func50 rfl rfl];have c3':¬ (lv:Int)=0:=by omega
 have w1:IntKind.i64.wrap ((lv:Int)-1)=(lv-1:Nat):=by rw[wrO];omega
 have r0:gB [a.cells] 0=some a.cells:=rfl;have hov:=fM (Pn.mk 2 0 es [] [a]) va 0 ra (by omega) hd;rw[Pn.bV]at hov;simp only[Pn.bK,Pn.bD,Pn.bW,Pn.aA,aF,Ex.aA]at hov;rw[Pn.aB a]at ha hov r0
 have c2:(es.length:Int)=1:=by
  simp only[Pn.headOk,zU,yT,Pn.bD,Pn.bK]at hd;simpa using hd.2.1
 simp[c2,hl,c3',Pn.aA,aF,Ex.aA];rw[Pn.aB a];rw[aG];by_cases z1:va=0
 case pos=>simp[w1,ha,r0,z1]
 simp[w1,ha,r0,z1,bS];rw[aG];simp[hov,z1]
theorem U5 {ws:List Int} {es:List Ex} {a:Pn} {lv:Nat} {va:Int} (hl:lv≠0) (hl8:lv≤8) (hd:Pn.headOk (Pn.mk 3 0 es [] [a])=true) (ha:aH C0 50 [.i (.iref a.cells), .i (.isl (aF ws)), .int (lv-1:Nat)] []=some (.int va,[])) (ra:0≤va∧va≤6):aH C0 50 [.i (.iref [.int 3, .int 0, .isl (Ex.aA es), .isl (aF []), .isl (Pn.aA [a])]), .i (.isl (aF ws)), .int lv] []=some (.int (if va=0 then 0 else dI 3 es [] va 0),[]):=by
 rw[aI rfl Try.func50 rfl rfl];have c3':¬ (lv:Int)=0:=by omega
 have w1:IntKind.i64.wrap ((lv:Int)-1)=(lv-1:Nat):=by rw[wrO];omega
 have r0:gB [a.cells] 0=some a.cells:=rfl;have hov:=fM (Pn.mk 3 0 es [] [a]) va 0 ra (by omega) hd;rw[Pn.bV]at hov;simp only[Pn.bK,Pn.bD,Pn.bW,Pn.aA,aF,Ex.aA]at hov;rw[Pn.aB a]at ha hov r0
 have hv:dK es.length=true∨(es.length:Int)=1:=by
  simp only[Pn.headOk,zU,yT,Pn.bD,Pn.bK]at hd;have:=hd.2.1;split at this
  ·rename_i h;exact .inl h.2
  ·exact .inr (by simpa using this)
 have hv:dK es.length=true:=by
  rcases hv with h|h
  ·exact h
  ·rw[h];decide
 simp[hv,hl,c3',Pn.aA,aF,Ex.aA];rw[Pn.aB a];rw[aG];by_cases z1:va=0
 case pos=>simp[w1,ha,r0,z1]
 simp[w1,ha,r0,z1,bS];rw[aG];simp[hov,z1]
theorem U4 {ws:List Int} {es:List Ex} {a b:Pn} {lv:Nat} {va vb:Int} (hl:lv≠0) (hl8:lv≤8) (hd:Pn.headOk (Pn.mk 4 0 es [] [a,b])=true) (ha:aH C0 50 [.i (.iref a.cells), .i (.isl (aF ws)), .int (lv-1:Nat)] []=some (.int va,[])) (ra:0≤va∧va≤6) (hb:aH C0 50 [.i (.iref b.cells), .i (.isl (aF ws)), .int (lv-1:Nat)] []=some (.int vb,[])) (rb:0≤vb∧vb≤6):aH C0 50 [.i (.iref [.int 4, .int 0, .isl (Ex.aA es), .isl (aF []), .isl (Pn.aA [a,b])]), .i (.isl (aF ws)), .int lv] []=some (.int (if va=0∨vb=0 then 0 else dI 4 es [] va vb),[]):=by
 rw[aI rfl Try.func50 rfl rfl];have c3':¬ (lv:Int)=0:=by omega
 have w1:IntKind.i64.wrap ((lv:Int)-1)=(lv-1:Nat):=by rw[wrO];omega
 have r0:gB [a.cells,b.cells] 0=some a.cells:=rfl;have r1:gB [a.cells,b.cells] 1=some b.cells:=rfl;have hov:=fM (Pn.mk 4 0 es [] [a,b]) va vb ra rb hd;rw[Pn.bV]at hov;simp only[Pn.bK,Pn.bD,Pn.bW,Pn.aA,aF,Ex.aA]at hov;rw[Pn.aB a]at ha hov r0 r1;rw[Pn.aB b]at hb hov r0 r1
 have c2:(es.length:Int)=1:=by
  simp only[Pn.headOk,zU,yT,Pn.bD,Pn.bK]at hd;simpa using hd.2.1
 simp[c2,hl,c3',Pn.aA,aF,Ex.aA];rw[Pn.aB a,Pn.aB b];rw[aG];by_cases z1:va=0
 case pos=>simp[w1,ha,r0,z1]
 simp[w1,ha,r0,z1,bS];rw[aG];by_cases z2:vb=0
 case pos=>simp[w1,hb,r1,z2]
 simp[w1,hb,r1,z1,z2,wrap64 (x:=2) (by omega) (by omega)];rw[aG];simp[hov,z1,z2]
theorem U3 {ws:List Int} {es:List Ex} {a b:Pn} {lv:Nat} {va vb:Int} (hl:lv≠0) (hl8:lv≤8) (hd:Pn.headOk (Pn.mk 5 0 es [] [a,b])=true) (ha:aH C0 50 [.i (.iref a.cells), .i (.isl (aF ws)), .int (lv-1:Nat)] []=some (.int va,[])) (ra:0≤va∧va≤6) (hb:aH C0 50 [.i (.iref b.cells), .i (.isl (aF ws)), .int (lv-1:Nat)] []=some (.int vb,[])) (rb:0≤vb∧vb≤6):aH C0 50 [.i (.iref [.int 5, .int 0, .isl (Ex.aA es), .isl (aF []), .isl (Pn.aA [a,b])]), .i (.isl (aF ws)), .int lv] []=some (.int (if va=0∨vb=0 then 0 else dI 5 es [] va vb),[]):=by
 rw[aI rfl Try.func50 rfl rfl];have c3':¬ (lv:Int)=0:=by omega
 have w1:IntKind.i64.wrap ((lv:Int)-1)=(lv-1:Nat):=by rw[wrO];omega
 have r0:gB [a.cells,b.cells] 0=some a.cells:=rfl;have r1:gB [a.cells,b.cells] 1=some b.cells:=rfl;have hov:=fM (Pn.mk 5 0 es [] [a,b]) va vb ra rb hd;rw[Pn.bV]at hov;simp only[Pn.bK,Pn.bD,Pn.bW,Pn.aA,aF,Ex.aA]at hov;rw[Pn.aB a]at ha hov r0 r1;rw[Pn.aB b]at hb hov r0 r1
 have c2:(es.length:Int)=1:=by
  simp only[Pn.headOk,zU,yT,Pn.bD,Pn.bK]at hd;simpa using hd.2.1
 simp[c2,hl,c3',Pn.aA,aF,Ex.aA];rw[Pn.aB a,Pn.aB b];rw[aG];by_cases z1:va=0
 case pos=>simp[w1,ha,r0,z1]
 simp[w1,ha,r0,z1,bS];rw[aG];by_cases z2:vb=0
 case pos=>simp[w1,hb,r1,z2]
 simp[w1,hb,r1,z1,z2,wrap64 (x:=2) (by omega) (by omega)];rw[aG];simp[hov,z1,z2]
theorem U2 {ws:List Int} {a b:Pn} {lv:Nat} {va vb:Int} (hl:lv≠0) (hl8:lv≤8) (hd:Pn.headOk (Pn.mk 6 0 [] [] [a,b])=true) (ha:aH C0 50 [.i (.iref a.cells), .i (.isl (aF ws)), .int (lv-1:Nat)] []=some (.int va,[])) (ra:0≤va∧va≤6) (hb:aH C0 50 [.i (.iref b.cells), .i (.isl (aF ws)), .int (lv-1:Nat)] []=some (.int vb,[])) (rb:0≤vb∧vb≤6):aH C0 50 [.i (.iref [.int 6, .int 0, .isl (Ex.aA []), .isl (aF []), .isl (Pn.aA [a,b])]), .i (.isl (aF ws)), .int lv] []=some (.int (if va=0∨vb=0 then 0 else dI 6 [] [] va vb),[]):=by
 rw[aI rfl Try.func50 rfl rfl];have c3':¬ (lv:Int)=0:=by omega
 have w1:IntKind.i64.wrap ((lv:Int)-1)=(lv-1:Nat):=by rw[wrO];omega
 have r0:gB [a.cells,b.cells] 0=some a.cells:=rfl;have r1:gB [a.cells,b.cells] 1=some b.cells:=rfl;have hov:=fM (Pn.mk 6 0 [] [] [a,b]) va vb ra rb hd;rw[Pn.bV]at hov;simp only[Pn.bK,Pn.bD,Pn.bW,Pn.aA,aF,Ex.aA]at hov;rw[Pn.aB a]at ha hov r0 r1;rw[Pn.aB b]at hb hov r0 r1;simp[hl,c3',Pn.aA,aF,Ex.aA];rw[Pn.aB a,Pn.aB b];rw[aG];by_cases z1:va=0
 case pos=>simp[w1,ha,r0,z1]
 simp[w1,ha,r0,z1,bS];rw[aG];by_cases z2:vb=0
 case pos=>simp[w1,hb,r1,z2]
 simp[w1,hb,r1,z1,z2,wrap64 (x:=2) (by omega) (by omega)];rw[aG];simp[hov,z1,z2]
theorem U1 {ws:List Int} {a:Pn} {lv:Nat} {va:Int} (hl:lv≠0) (hl8:lv≤8) (hd:Pn.headOk (Pn.mk 7 0 [] [] [a])=true) (ha:aH C0 50 [.i (.iref a.cells), .i (.isl (aF ws)), .int (lv-1:Nat)] []=some (.int va,[])) (ra:0≤va∧va≤6):aH C0 50 [.i (.iref [.int 7, .int 0, .isl (Ex.aA []), .isl (aF []), .isl (Pn.aA [a])]), .i (.isl (aF ws)), .int lv] []=some (.int (if va=0 then 0 else dI 7 [] [] va 0),[]):=by
 rw[aI rfl Try.func50 rfl rfl];have c3':¬ (lv:Int)=0:=by omega
 have w1:IntKind.i64.wrap ((lv:Int)-1)=(lv-1:Nat):=by rw[wrO];omega
 have r0:gB [a.cells] 0=some a.cells:=rfl;have hov:=fM (Pn.mk 7 0 [] [] [a]) va 0 ra (by omega) hd;rw[Pn.bV]at hov;simp only[Pn.bK,Pn.bD,Pn.bW,Pn.aA,aF,Ex.aA]at hov;rw[Pn.aB a]at ha hov r0;simp[hl,c3',Pn.aA,aF,Ex.aA];rw[Pn.aB a];rw[aG];by_cases z1:va=0
 case pos=>simp[w1,ha,r0,z1]
 simp[w1,ha,r0,z1,bS];rw[aG];simp[hov,z1]
theorem U0 {ws:List Int} {cs:List Int} {a:Pn} {lv:Nat} {va:Int} (hl:lv≠0) (hl8:lv≤8) (hd:Pn.headOk (Pn.mk 8 0 [] cs [a])=true) (ha:aH C0 50 [.i (.iref a.cells), .i (.isl (aF ws)), .int (lv-1:Nat)] []=some (.int va,[])) (ra:0≤va∧va≤6):aH C0 50 [.i (.iref [.int 8, .int 0, .isl (Ex.aA []), .isl (aF cs), .isl (Pn.aA [a])]), .i (.isl (aF ws)), .int lv] []=some (.int (if va=0 then 0 else dI 8 [] cs va 0),[]):=by
 rw[aI rfl Try.func50 rfl rfl];have c3':¬ (lv:Int)=0:=by omega
 have w1:IntKind.i64.wrap ((lv:Int)-1)=(lv-1:Nat):=by rw[wrO];omega
 have r0:gB [a.cells] 0=some a.cells:=rfl;have hov:=fM (Pn.mk 8 0 [] cs [a]) va 0 ra (by omega) hd;rw[Pn.bV]at hov;simp only[Pn.bK,Pn.bD,Pn.bW,Pn.aA,aF,Ex.aA]at hov;rw[Pn.aB a]at ha hov r0;simp[hl,c3',Pn.aA,aF,Ex.aA];rw[Pn.aB a];rw[aG];by_cases z1:va=0
 case pos=>simp[w1,ha,r0,z1]
 simp[w1,ha,r0,z1,bS];rw[aG];simp[hov,z1]
theorem kI (k t:Int) (es:List Ex) (cs:List Int) (ks:List Pn):Pn.headOk (.mk k t es cs ks)=true↔((ks.length:Int)=jO k∧(es.length:Int)=(if k=3∧dK es.length=true then(es.length:Int)else gV k)∧(k=1∨t=0)∧(k=8∨cs=[])):=by
 unfold Pn.headOk;simp only[zU,zC0,yT];exact Iff.rfl
theorem jP {α:Type} {l:List α} (h:(l.length:Int)=1):∃ a,l=[a]:=List.length_eq_one_iff.1 (by omega)
theorem uN {α:Type} {l:List α} (h:(l.length:Int)=2):∃ a b,l=[a,b]:=by
 match l,h with
 | [a,b],_=>exact⟨a,b,rfl⟩
 | [],h=>simp at h
 | [_],h=>simp at h
 | _::_::_::_,h=>simp at h;omega
theorem fH {α:Type} {l:List α} (h:(l.length:Int)=0):l=[]:=zZ.1 (by omega)
theorem IP {ws:List Int} (hw:∀ w∈ws,0≤w∧w≤6):∀ (p:Pn) (lv:Nat),lv≤8→aH C0 50 [.i (.iref p.cells), .i (.isl (aF ws)), .int lv] []=some (.int (p.wd ws lv),[]):=by
 intro p
 induction p using Pn.ind with
 | h k t es cs ks ih =>
  intro lv hlv;rw[Pn.bV];by_cases hh:Pn.headOk (.mk k t es cs ks)=true∧(ks=[]∨lv≠0)
  case neg =>
   rw[Pn.ACX hh];rw[kI]at hh
   rcases nZ k with rfl|rfl|rfl|rfl|rfl|rfl|rfl|rfl|h
   ·refine Y8 fun h=>hh ?_
    have:=fH h.1;simp[h.2.1,h.2.2.2,this]
   ·exact Y7 fun h=>hh (by simp[h.1,h.2.1,h.2.2.1,h.2.2.2.1,h.2.2.2.2])
   ·exact Y6 fun h=>hh (by refine⟨⟨by simp[h.1],by simpa using h.2.1,by simp[h.2.2.2.1],by simp[h.2.2.2.2]⟩, .inr h.2.2.1⟩)
   ·exact Y5 fun h=>hh (by simp[h.1,h.2.1,h.2.2.1,h.2.2.2.1,h.2.2.2.2])
   ·exact Y4 fun h=>hh (by simp[h.1,h.2.1,h.2.2.1,h.2.2.2.1,h.2.2.2.2])
   ·exact Y3 fun h=>hh (by simp[h.1,fH h.2.1,h.2.2.1,h.2.2.2.1,h.2.2.2.2])
   ·exact Y2 fun h=>hh (by simp[h.1,fH h.2.1,h.2.2.1,h.2.2.2.1,h.2.2.2.2])
   ·exact Y1 fun h=>hh (by simp[h.1,fH h.2.1,h.2.2.1,h.2.2.2])
   ·exact OM h
  have hd:=hh.1;have hx:=Pn.QV ws lv (.mk k t es cs ks);rw[if_pos (by simpa using hh)]at hx;simp only[Pn.bK,Pn.bY,Pn.bD,Pn.bW,Pn.dF]at hx;rw[hx];rw[kI]at hh;obtain⟨⟨h1,h2,h3,h4⟩,h5⟩:=hh;have hr:=fun a=>Pn.IQ hw a (lv-1)
  rcases nZ k with rfl|rfl|rfl|rfl|rfl|rfl|rfl|rfl|h
  ·obtain rfl:=fH (by simpa using h1);obtain rfl:es=[]:=fH (by simpa using h2);obtain rfl:cs=[]:=by simpa using h4
   exact U7
  ·obtain⟨a,rfl⟩:=jP (by simpa using h1);obtain rfl:cs=[]:=by simpa using h4
   obtain rfl:t=0:=by simpa using h3
   have hl:lv≠0:=by simpa using h5
   rw[U6 hl hlv hd (ih a (by simp) (lv-1) (by omega)) (hr a)];by_cases z:a.wd ws (lv-1)=0<;>simp[z]
  ·obtain⟨a,rfl⟩:=jP (by simpa using h1);obtain rfl:cs=[]:=by simpa using h4
   obtain rfl:t=0:=by simpa using h3
   have hl:lv≠0:=by simpa using h5
   rw[U5 hl hlv hd (ih a (by simp) (lv-1) (by omega)) (hr a)];by_cases z:a.wd ws (lv-1)=0<;>simp[z]
  ·obtain⟨a,b,rfl⟩:=uN (by simpa using h1);obtain rfl:cs=[]:=by simpa using h4
   obtain rfl:t=0:=by simpa using h3
   have hl:lv≠0:=by simpa using h5
   rw[U4 hl hlv hd (ih a (by simp) (lv-1) (by omega)) (hr a) (ih b (by simp) (lv-1) (by omega)) (hr b)];by_cases z:a.wd ws (lv-1)=0<;>by_cases z2:b.wd ws (lv-1)=0<;>simp[z,z2]
  ·obtain⟨a,b,rfl⟩:=uN (by simpa using h1);obtain rfl:cs=[]:=by simpa using h4
   obtain rfl:t=0:=by simpa using h3
   have hl:lv≠0:=by simpa using h5
   rw[U3 hl hlv hd (ih a (by simp) (lv-1) (by omega)) (hr a) (ih b (by simp) (lv-1) (by omega)) (hr b)];by_cases z:a.wd ws (lv-1)=0<;>by_cases z2:b.wd ws (lv-1)=0<;>simp[z,z2]
  ·obtain⟨a,b,rfl⟩:=uN (by simpa using h1);obtain rfl:es=[]:=fH (by simpa using h2);obtain rfl:cs=[]:=by simpa using h4
   obtain rfl:t=0:=by simpa using h3
   have hl:lv≠0:=by simpa using h5
   rw[U2 hl hlv hd (ih a (by simp) (lv-1) (by omega)) (hr a) (ih b (by simp) (lv-1) (by omega)) (hr b)];by_cases z:a.wd ws (lv-1)=0<;>by_cases z2:b.wd ws (lv-1)=0<;>simp[z,z2]
  ·obtain⟨a,rfl⟩:=jP (by simpa using h1);obtain rfl:es=[]:=fH (by simpa using h2);obtain rfl:cs=[]:=by simpa using h4
   obtain rfl:t=0:=by simpa using h3
   have hl:lv≠0:=by simpa using h5
   rw[U1 hl hlv hd (ih a (by simp) (lv-1) (by omega)) (hr a)];by_cases z:a.wd ws (lv-1)=0<;>simp[z]
  ·obtain⟨a,rfl⟩:=jP (by simpa using h1);obtain rfl:es=[]:=fH (by simpa using h2);obtain rfl:t=0:=by simpa using h3
   have hl:lv≠0:=by simpa using h5
   rw[U0 hl hlv hd (ih a (by simp) (lv-1) (by omega)) (hr a)];by_cases z:a.wd ws (lv-1)=0<;>simp[z]
  ·exact absurd h1 (by rw[PK h];omega)
def VX (ws:List Int) (i:Nat):AS :=
 { env:=[(0, .i (.isl (aF ws))),(2, .bool false),(4,jk i (.int (ws[i-1]?.getD 0))),(12, .bool false),(13, .i (.isl (aF ws))),(14, .int ws.length),(15, .int i),(16,jk i (.bool true)),(21,jk i (.bool false))],st:=[] }
theorem F6 (ws:List Int):aH C0 49 [.i (.isl (aF ws))] []=some (.bool (J9 ws),[]):=by
 rw[aI rfl Try.func49 rfl rfl];by_cases h1:ws.length=0
 ·have:=zZ.1 h1;subst this;simp[aF,J9]
 by_cases h4:ws.length≤4
 case neg=>simp[J9,h4,show ¬ (ws.length:Int)<1 by omega,show 4<(ws.length:Int)by omega]
 simp[show ¬ (ws.length:Int)<1 by omega,show ¬ 4<(ws.length:Int)by omega];obtain⟨j,h1',h2⟩:=jA dK ws;rw[aV (VX ws) j (by simp[VX])]
 ·rw[aG]
  rcases h2 with ⟨hj,ha⟩|⟨x,h3,_,h5,ha⟩
  ·simp[VX,hj,J9,h4,ha,show 1≤ws.length by omega]
  ·have r1:=(zY.1 h3).1;have r2:=bO h3;simp[VX,r1,r2,h5,J9,ha]
 ·intro i hi;obtain⟨x,h3,_,h5⟩:=h1' i hi;have r1:=(zY.1 h3).1;have r2:=bO h3;have w2:IntKind.i64.wrap ((i:Int)+1)=i+1:=wrO;have h3':ws[i]=x:=(zY.1 h3).2;simp[VX,r1,r2,h5,w2,h3']
theorem GQ {ws:List Int} (h:J9 ws=true):∀ w∈ws,0≤w∧w≤6:=by
 intro w hw;simp only[J9,zU]at h;have:=yV.1 h.2 w hw;simp[dK]at this;omega
theorem nY (p:Pn) (ws:List Int):aH C0 24 [.i (.agg p.cells), .i (.isl (aF ws))] []=some (.int (p.width ws),[]):=by
 rw[aI rfl Try.func24 rfl rfl];have hv:=F6 ws
 cases h:J9 ws with
 | false=>rw[h]at hv;rw[Pn.aB];simp[hv,Pn.width,h]
 | true =>
  rw[h]at hv;have hb:=IP (GQ h) p 8 (by omega);rw[show((8:Nat):Int)=8 from rfl]at hb;rw[Pn.aB]at hb ⊢;simp[hv,Pn.width,h,hb]
def only (k t:Int) (es:List Ex) (cs:List Int) (ks:List Pn):Bool:=decide (1≤k∧k≤8) && (decide ((ks.length:Int)=jO k) && (decide ((es.length:Int)=if k=3 then(es.length:Int)else gV k) && ((decide (t=0) || decide (k=1)) && (decide (cs=[]) || decide (k=8)))))
theorem dN (k t:Int) (es:List Ex) (cs:List Int) (ks:List Pn):aH C0 70 [.i (.agg [.int k, .int t, .isl (Ex.aA es), .isl (aF cs), .isl (Pn.aA ks)])] []=some (.bool (only k t es cs ks),[]):=by
 rw[aI rfl Try.func70 rfl rfl]
 rcases nZ k with rfl|rfl|rfl|rfl|rfl|rfl|rfl|rfl|h
 case inr.inr.inr.inr.inr.inr.inr.inr =>
  have h1:¬ (1≤k∧k≤8):=by omega
  simp[h.1,h.2.1,h.2.2.1,h.2.2.2.1,h.2.2.2.2.1,h.2.2.2.2.2.1,h1,only]
 case inr.inr.inl =>
  by_cases c1:(ks.length:Int)=1
  case neg=>simp[c1,only]
  by_cases c3:t=0
  case neg=>simp[c1,c3,only]
  by_cases c5:cs=[]<;>simp[c1,c3,c5,only,aF]
 case inl =>
  by_cases c1:ks=[]
  case neg=>simp[c1,only]
  by_cases c2:es=[]
  case neg=>simp[c1,c2,only]
  by_cases c3:t=0<;>by_cases c5:cs=[]<;>simp[c1,c2,c3,c5,only,aF,Ex.aA,Pn.aA]
 case inr.inl =>
  by_cases c1:(ks.length:Int)=1
  case neg=>simp[c1,only]
  by_cases c2:(es.length:Int)=1
  case neg=>simp[c1,c2,only]
  by_cases c3:t=0
  case neg=>simp[c1,c2,c3,only]
  by_cases c5:cs=[]<;>simp[c1,c2,c3,c5,only,aF]
 case inr.inr.inr.inl =>
  by_cases c1:(ks.length:Int)=2
  case neg=>simp[c1,only]
  by_cases c2:(es.length:Int)=1
  case neg=>simp[c1,c2,only]
  by_cases c3:t=0
  case neg=>simp[c1,c2,c3,only]
  by_cases c5:cs=[]<;>simp[c1,c2,c3,c5,only,aF]
 case inr.inr.inr.inr.inl =>
  by_cases c1:(ks.length:Int)=2
  case neg=>simp[c1,only]
  by_cases c2:(es.length:Int)=1
  case neg=>simp[c1,c2,only]
  by_cases c3:t=0
  case neg=>simp[c1,c2,c3,only]
  by_cases c5:cs=[]<;>simp[c1,c2,c3,c5,only,aF]
 case inr.inr.inr.inr.inr.inl =>
  by_cases c1:(ks.length:Int)=2
  case neg=>simp[c1,only]
  by_cases c2:es=[]
  case neg=>simp[c1,c2,only]
  by_cases c3:t=0
  case neg=>simp[c1,c2,c3,only]
  by_cases c5:cs=[]<;>simp[c1,c2,c3,c5,only,aF,Ex.aA]
 case inr.inr.inr.inr.inr.inr.inl =>
  by_cases c1:(ks.length:Int)=1
  case neg=>simp[c1,only]
  by_cases c2:es=[]
  case neg=>simp[c1,c2,only]
  by_cases c3:t=0
  case neg=>simp[c1,c2,c3,only]
  by_cases c5:cs=[]<;>simp[c1,c2,c3,c5,only,aF,Ex.aA]
 case inr.inr.inr.inr.inr.inr.inr.inl =>
  by_cases c1:(ks.length:Int)=1
  case neg=>simp[c1,only]
  by_cases c2:es=[]
  case neg=>simp[c1,c2,only]
  by_cases c3:t=0
  case neg=>simp[c1,c2,c3,only]
  by_cases c5:cs=[]<;>simp[c1,c2,c3,c5,only,aF,Ex.aA]
theorem ADN {cs:List Int} {w:Int}:∀ {i:Nat},(∀ k,k<i→∃ x,(cs.zip (-1::cs))[k]?=some x∧x∈cs.zip (-1::cs)∧decide (x.2<x.1∧x.1<w)=true)→-1≤pv cs i∧(i≠0→0≤pv cs i)
 | 0,_=>by simp[pv]
 | i+1,h=>by
  obtain⟨x,h3,_,h4⟩:=h i (by omega);obtain⟨c1,c2⟩:=tO h3;rw[VT c1];have hb:x.2<x.1∧x.1<w:=by simpa using h4
  have:=ADN (i:=i) fun k hk=>h k (by omega)
  omega
def CX (cs:List Int) (w:Int) (i:Nat):AS :=
 { env:=[(0, .i (.isl (aF cs))),(1, .int w),(4, .bool false),(5, .int i),(9,jk i (.bool true)),(35,jk i (.bool false))],st:=[] }
theorem KI (cs:List Int) (w:Int) (hl:cs.length<9223372036854775808) (hw:0≤w∧w≤6):aH C0 73 [.i (.isl (aF cs)), .int w] []=some (.bool (nP w cs),[]):=by
 rw[aI rfl Try.func73 rfl rfl];have w1:IntKind.i64.wrap (w-1)=w-1:=wrO;simp;obtain⟨j,h1,h2⟩:=jA (fun x:Int×Int=>decide (x.2<x.1∧x.1<w)) (cs.zip (-1::cs));rw[aV (CX cs w) j (by simp[CX])]
 ·rw[aG]
  rcases h2 with ⟨hj,ha⟩|⟨x,h3,_,h4,ha⟩
  ·rw[QI]at hj;have ha:nP w cs=true:=ha;simp[CX,hj,ha]
  ·obtain⟨c1,c2⟩:=tO h3;have r1:=(zY.1 c1).1;have r2:=bO c1;have hb:¬ (x.2<x.1∧x.1<w):=by simpa using h4
   have ha:nP w cs=false:=ha;have hp:=ADN (i:=j) h1;by_cases hin:0≤x.1∧x.1≤w-1
   ·have hj:j≠0:=fun h=>by subst h;simp[pv]at c2;omega
    obtain⟨j,rfl⟩:∃ i,j=i+1:=⟨j-1,by omega⟩
    have q1:cs[j]?=some x.2:=by
     have:pv cs (j+1)=x.2:=c2;simp only[pv,xQ]at this;rw[zW (by omega)]at this ⊢;simpa using this
    have q2:=bO q1;have w4:IntKind.i64.wrap ((j:Int)+1-1)=j:=by rw[wrO];omega
    have w5:IntKind.i64.wrap ((j:Int))=j:=by rw[wrO]
    simp[CX,r1,r2,w1,hin,ha,q2,w4,w5,show(0:Int)<j+1 by omega,show x.1≤x.2 by omega,show(0:Int)≤(j:Int)+1 by omega,show j<cs.length by omega,show((j:Int)+1<cs.length)by omega]
   ·simp[CX,r1,r2,w1,hin,ha]
 ·intro i hi;obtain⟨x,h3,_,h4⟩:=h1 i hi;obtain⟨c1,c2⟩:=tO h3;have r1:=(zY.1 c1).1;have r2:=bO c1;have hb:x.2<x.1∧x.1<w:=by simpa using h4
  have hp:=ADN (i:=i) fun k hk=>h1 k (by omega)
  have hin:0≤x.1∧x.1≤w-1:=by omega
  have w2:IntKind.i64.wrap ((i:Int)+1)=i+1:=wrO;by_cases h0:i=0
  ·subst h0;simp[CX,r1,r2,w1,hin,bS]
  ·obtain⟨i,rfl⟩:∃ j,i=j+1:=⟨i-1,by omega⟩
   have q1:cs[i]?=some x.2:=by
    have:pv cs (i+1)=x.2:=c2;simp only[pv,xQ]at this;rw[zW (by omega)]at this ⊢;simpa using this
   have q2:=bO q1;have w5:IntKind.i64.wrap ((i:Int))=i:=by rw[wrO]
   have w2':IntKind.i64.wrap ((i:Int)+1+1)=i+1+1:=wrO;simp[CX,r1,r2,w1,hin,q2,w5,w2',show(0:Int)<i+1 by omega,show ¬ x.1≤x.2 by omega,show(0:Int)≤(i:Int)+1 by omega,show i<cs.length by omega,show((i:Int)+1<cs.length)by omega]
def pW (es:List Ex) (w:Int):Int:=if es.all (Ex.ok w)=true∧es.length≤6 then(es.length:Int)else 0
def QX (es:List Ex) (w:Int) (i:Nat):AS :=
 { env:=[(0, .i (.isl (Ex.aA es))),(1, .int w),(4, .int 0),(5, .int i),(9,jk i (.bool true)),(18,jk i (.bool false)),(21, .junk)],st:=[] }
theorem BX (es:List Ex) (w:Int) (hl:es.length<9223372036854775808):aH C0 72 [.i (.isl (Ex.aA es)), .int w] []=some (.int (pW es w),[]):=by
 rw[aI rfl Try.func72 rfl rfl];simp;obtain⟨j,h1,h2⟩:=jA (Ex.ok w) es;rw[aV (QX es w) j (by simp[QX])]
 ·rw[aG]
  rcases h2 with ⟨hj,hall⟩|⟨x,h3,_,h5,hall⟩
  ·by_cases h6:es.length≤6
   ·have hq:pW es w=es.length:=if_pos ⟨hall,h6⟩;simp[QX,hj,hq,show ¬ (6:Int)<es.length by omega]
   ·have hq:pW es w=0:=if_neg fun h=>h6 h.2
    simp[QX,hj,hq,show(6:Int)<es.length by omega]
  ·have r1:=(zY.1 h3).1;have r2:=Ex.aP h3;have r3:=KV w x;rw[h5]at r3;rw[Ex.aB]at r2 r3;have hq:pW es w=0:=if_neg fun h=>by rw[hall]at h;simp at h
   simp[QX,r1,r2,r3,hq]
 ·intro i hi;obtain⟨x,h3,_,h5⟩:=h1 i hi;have r1:=(zY.1 h3).1;have r2:=Ex.aP h3;have r3:=KV w x;rw[h5]at r3;rw[Ex.aB]at r2 r3;have w2:IntKind.i64.wrap ((i:Int)+1)=i+1:=wrO;simp[QX,r1,r2,r3,w2]
def UX (ws:List Int) (i:Nat):AS :=
 { env:=[(0, .i (.isl (aF ws))),(2, .bool false),(3, .int i),(7,jk i (.bool true)),(15,jk i (.bool false))],st:=[] }
theorem BF (ws:List Int) (hl:ws.length<9223372036854775808):aH C0 58 [.i (.isl (aF ws))] []=some (.bool (J9 ws),[]):=by
 rw[aI rfl Try.func58 rfl rfl];simp;obtain⟨j,h1',h2⟩:=jA dK ws;rw[aV (UX ws) j (by simp[UX])]
 ·rw[aG]
  rcases h2 with ⟨hj,ha⟩|⟨x,h3,_,h5,ha⟩
  ·by_cases h4:1≤ws.length∧ws.length≤4
   ·simp[UX,hj,J9,h4,ha,show(1:Int)≤ws.length∧(ws.length:Int)≤4 by omega]
   ·simp[UX,hj,J9,h4,ha,show ¬ ((1:Int)≤ws.length∧(ws.length:Int)≤4)by omega]
  ·have r1:=(zY.1 h3).1;have r2:=bO h3;have h5:¬ (1≤x∧x≤6):=by simpa [dK]using h5
   simp[UX,r1,r2,h5,J9,ha]
 ·intro i hi;obtain⟨x,h3,_,h5⟩:=h1' i hi;have r1:=(zY.1 h3).1;have r2:=bO h3;have h5:1≤x∧x≤6:=by simpa [dK]using h5
  have w2:IntKind.i64.wrap ((i:Int)+1)=i+1:=wrO;simp[UX,r1,r2,h5,w2]
theorem ZN {ws:List Int} {k t:Int} {es:List Ex} {cs:List Int} {ks:List Pn} {lv:Nat} (h:¬ (only k t es cs ks=true∧(ks=[]∨lv≠0))):aH C0 59 [.i (.agg [.int k, .int t, .isl (Ex.aA es), .isl (aF cs), .isl (Pn.aA ks)]), .i (.isl (aF ws)), .int lv] []=some (.int 0,[]):=by
 rw[aI rfl Try.func59 rfl rfl];have ho:=dN k t es cs ks
 cases hq:only k t es cs ks with
 | false=>rw[hq]at ho;simp[ho]
 | true =>
  rw[hq]at ho;by_cases hk:ks=[]
  ·exact absurd ⟨hq, .inl hk⟩ h
  by_cases hl:lv=0
  ·have:0<ks.length:=xW.2 hk;subst hl;simp[ho,hk,this]
  ·exact absurd ⟨hq, .inr hl⟩ h
theorem RJ {ws:List Int} {lv:Nat} {t:Int} (ho:only 1 t [] [] []=true) (hw:ws.length<1000000000):aH C0 59 [.i (.agg [.int 1, .int t, .isl (Ex.aA []), .isl (aF []), .isl (Pn.aA [])]), .i (.isl (aF ws)), .int lv] []=some (.int (if 0≤t then(ws[t.toNat]?).getD 0 else 0),[]):=by
 rw[aI rfl Try.func59 rfl rfl];have hf:=dN 1 t [] [] [];rw[ho]at hf;have w1:IntKind.i64.wrap ((ws.length:Int)-1)=ws.length-1:=wrO;simp only[Ex.aA,Pn.aA,aF]at hf ⊢;simp[hf,w1];rw[aG];by_cases h0:0≤t
 case neg=>simp[h0,w1]
 cases hx:ws[t.toNat]? with
 | none =>
  have:=zB0.1 hx;simp[h0,w1,show ¬ t≤ws.length-1 by omega]
 | some x =>
  have r1:=(zY.1 hx).1;have r2:=bO hx;simp[h0,w1,show t≤ws.length-1 by omega,show t<ws.length by omega,r2]
theorem RI {ws:List Int} {lv:Nat} {a:Pn} {va:Int} {e:Ex} (ho:only 2 0 [e] [] [a]=true) (hl:lv≠0) (hl8:lv≤8) (ha:aH C0 59 [.i (.agg a.cells), .i (.isl (aF ws)), .int (lv-1:Nat)] []=some (.int va,[])) (ra:0≤va∧va≤6):aH C0 59 [.i (.agg [.int 2, .int 0, .isl (Ex.aA [e]), .isl (aF []), .isl (Pn.aA [a])]), .i (.isl (aF ws)), .int lv] []=some (.int (if va=0 then 0 else if e.ok va=true then va else 0),[]):=by
 rw[aI rfl Try.func59 rfl rfl];have hf:=dN 2 0 [e] [] [a];rw[ho]at hf;have c3':¬ (lv:Int)=0:=by omega
 have w1:IntKind.i64.wrap ((lv:Int)-1)=(lv-1:Nat):=by rw[wrO];omega
 have w2:IntKind.i64.wrap (1:Int)=1:=bS;have w3:IntKind.i64.wrap (2:Int)=2:=wrO;have r0:gB [a.cells] 0=some a.cells:=rfl;simp only[Pn.aA,aF,Ex.aA]at hf ⊢;have q0:gB [e.cells] 0=some e.cells:=rfl;have qe:=KV (va) e;rw[Ex.aB e]at q0 qe hf ⊢;rw[Pn.aB a]at ha r0 hf ⊢;simp[hf,hl,c3'];rw[aG];by_cases z1:va=0
 case pos=>simp[w1,ha,r0,z1]
 simp[w1,w2,ha,r0,z1];rw[aG]
 cases hv:e.ok va<;>rw[hv]at qe<;>simp[z1,q0,qe]
theorem G9 {ws:List Int} {lv:Nat} {a:Pn} {va:Int} {es:List Ex} (ho:only 3 0 es [] [a]=true) (hl:lv≠0) (hl8:lv≤8) (ha:aH C0 59 [.i (.agg a.cells), .i (.isl (aF ws)), .int (lv-1:Nat)] []=some (.int va,[])) (ra:0≤va∧va≤6) (he:es.length<9223372036854775808):aH C0 59 [.i (.agg [.int 3, .int 0, .isl (Ex.aA es), .isl (aF []), .isl (Pn.aA [a])]), .i (.isl (aF ws)), .int lv] []=some (.int (if va=0 then 0 else pW es va),[]):=by
 rw[aI rfl Try.func59 rfl rfl];have hf:=dN 3 0 es [] [a];rw[ho]at hf;have c3':¬ (lv:Int)=0:=by omega
 have w1:IntKind.i64.wrap ((lv:Int)-1)=(lv-1:Nat):=by rw[wrO];omega
 have w2:IntKind.i64.wrap (1:Int)=1:=bS;have w3:IntKind.i64.wrap (2:Int)=2:=wrO;have r0:gB [a.cells] 0=some a.cells:=rfl;simp only[Pn.aA,aF,Ex.aA]at hf ⊢;rw[Pn.aB a]at ha r0 hf ⊢;simp[hf,hl,c3'];rw[aG];by_cases z1:va=0
 case pos=>simp[w1,ha,r0,z1]
 simp[w1,w2,ha,r0,z1];rw[aG];have hp:=BX es va he;simp[z1,hp]
theorem RH {ws:List Int} {lv:Nat} {a:Pn} {va:Int} {b:Pn} {vb:Int} {e:Ex} (ho:only 4 0 [e] [] [a,b]=true) (hl:lv≠0) (hl8:lv≤8) (ha:aH C0 59 [.i (.agg a.cells), .i (.isl (aF ws)), .int (lv-1:Nat)] []=some (.int va,[])) (ra:0≤va∧va≤6) (hb:aH C0 59 [.i (.agg b.cells), .i (.isl (aF ws)), .int (lv-1:Nat)] []=some (.int vb,[])) (rb:0≤vb∧vb≤6):aH C0 59 [.i (.agg [.int 4, .int 0, .isl (Ex.aA [e]), .isl (aF []), .isl (Pn.aA [a,b])]), .i (.isl (aF ws)), .int lv] []=some (.int (if va=0∨vb=0 then 0 else if va+vb≤6∧e.ok (va+vb)=true then va+vb else 0),[]):=by
 rw[aI rfl Try.func59 rfl rfl];have hf:=dN 4 0 [e] [] [a,b];rw[ho]at hf;have c3':¬ (lv:Int)=0:=by omega
 have w1:IntKind.i64.wrap ((lv:Int)-1)=(lv-1:Nat):=by rw[wrO];omega
 have w2:IntKind.i64.wrap (1:Int)=1:=bS;have w3:IntKind.i64.wrap (2:Int)=2:=wrO;have r0:gB [a.cells,b.cells] 0=some a.cells:=rfl;have r1:gB [a.cells,b.cells] 1=some b.cells:=rfl;simp only[Pn.aA,aF,Ex.aA]at hf ⊢;have q0:gB [e.cells] 0=some e.cells:=rfl;have qe:=KV (va+vb) e;rw[Ex.aB e]at q0 qe hf ⊢;rw[Pn.aB a]at ha r0 hf ⊢;rw[Pn.aB a]at r1;rw[Pn.aB b]at hb r0 r1 hf ⊢;simp[hf,hl,c3'];rw[aG];by_cases z1:va=0
 case pos=>simp[w1,ha,r0,z1]
 simp[w1,w2,ha,r0,z1];rw[aG];by_cases z2:vb=0
 case pos=>simp[w1,hb,r1,z2]
 simp[w1,hb,r1,z1,z2,w2,w3];rw[aG];have w4:IntKind.i64.wrap (va+vb)=va+vb:=wrO;by_cases h6:va+vb≤6
 ·cases hv:e.ok (va+vb)<;>rw[hv]at qe<;>simp[z1,z2,q0,qe,w4,h6]
 ·simp[z1,z2,w4,h6]
theorem RG {ws:List Int} {lv:Nat} {a:Pn} {va:Int} {b:Pn} {vb:Int} {e:Ex} (ho:only 5 0 [e] [] [a,b]=true) (hl:lv≠0) (hl8:lv≤8) (ha:aH C0 59 [.i (.agg a.cells), .i (.isl (aF ws)), .int (lv-1:Nat)] []=some (.int va,[])) (ra:0≤va∧va≤6) (hb:aH C0 59 [.i (.agg b.cells), .i (.isl (aF ws)), .int (lv-1:Nat)] []=some (.int vb,[])) (rb:0≤vb∧vb≤6):aH C0 59 [.i (.agg [.int 5, .int 0, .isl (Ex.aA [e]), .isl (aF []), .isl (Pn.aA [a,b])]), .i (.isl (aF ws)), .int lv] []=some (.int (if va=0∨vb=0 then 0 else if va+vb≤6∧e.ok (va+vb)=true then va+vb else 0),[]):=by
 rw[aI rfl Try.func59 rfl rfl];have hf:=dN 5 0 [e] [] [a,b];rw[ho]at hf;have c3':¬ (lv:Int)=0:=by omega
 have w1:IntKind.i64.wrap ((lv:Int)-1)=(lv-1:Nat):=by rw[wrO];omega
 have w2:IntKind.i64.wrap (1:Int)=1:=bS;have w3:IntKind.i64.wrap (2:Int)=2:=wrO;have r0:gB [a.cells,b.cells] 0=some a.cells:=rfl;have r1:gB [a.cells,b.cells] 1=some b.cells:=rfl;simp only[Pn.aA,aF,Ex.aA]at hf ⊢;have q0:gB [e.cells] 0=some e.cells:=rfl;have qe:=KV (va+vb) e;rw[Ex.aB e]at q0 qe hf ⊢;rw[Pn.aB a]at ha r0 hf ⊢;rw[Pn.aB a]at r1;rw[Pn.aB b]at hb r0 r1 hf ⊢;simp[hf,hl,c3'];rw[aG];by_cases z1:va=0
 case pos=>simp[w1,ha,r0,z1]
 simp[w1,w2,ha,r0,z1];rw[aG];by_cases z2:vb=0
 case pos=>simp[w1,hb,r1,z2]
 simp[w1,hb,r1,z1,z2,w2,w3];rw[aG];have w4:IntKind.i64.wrap (va+vb)=va+vb:=wrO;by_cases h6:va+vb≤6
 ·cases hv:e.ok (va+vb)<;>rw[hv]at qe<;>simp[z1,z2,q0,qe,w4,h6]
 ·simp[z1,z2,w4,h6]
theorem RF {ws:List Int} {lv:Nat} {a:Pn} {va:Int} {b:Pn} {vb:Int} (ho:only 6 0 [] [] [a,b]=true) (hl:lv≠0) (hl8:lv≤8) (ha:aH C0 59 [.i (.agg a.cells), .i (.isl (aF ws)), .int (lv-1:Nat)] []=some (.int va,[])) (ra:0≤va∧va≤6) (hb:aH C0 59 [.i (.agg b.cells), .i (.isl (aF ws)), .int (lv-1:Nat)] []=some (.int vb,[])) (rb:0≤vb∧vb≤6):aH C0 59 [.i (.agg [.int 6, .int 0, .isl (Ex.aA []), .isl (aF []), .isl (Pn.aA [a,b])]), .i (.isl (aF ws)), .int lv] []=some (.int (if va=0∨vb=0 then 0 else if va=vb then va else 0),[]):=by
 rw[aI rfl Try.func59 rfl rfl];have hf:=dN 6 0 [] [] [a,b];rw[ho]at hf;have c3':¬ (lv:Int)=0:=by omega
 have w1:IntKind.i64.wrap ((lv:Int)-1)=(lv-1:Nat):=by rw[wrO];omega
 have w2:IntKind.i64.wrap (1:Int)=1:=bS;have w3:IntKind.i64.wrap (2:Int)=2:=wrO;have r0:gB [a.cells,b.cells] 0=some a.cells:=rfl;have r1:gB [a.cells,b.cells] 1=some b.cells:=rfl;simp only[Pn.aA,aF,Ex.aA]at hf ⊢;rw[Pn.aB a]at ha r0 hf ⊢;rw[Pn.aB a]at r1;rw[Pn.aB b]at hb r0 r1 hf ⊢;simp[hf,hl,c3'];rw[aG];by_cases z1:va=0
 case pos=>simp[w1,ha,r0,z1]
 simp[w1,w2,ha,r0,z1];rw[aG];by_cases z2:vb=0
 case pos=>simp[w1,hb,r1,z2]
 simp[w1,hb,r1,z1,z2,w2,w3];rw[aG];by_cases h6:va=vb<;>simp[z1,z2,h6]
theorem RD {ws:List Int} {lv:Nat} {a:Pn} {va:Int} (ho:only 7 0 [] [] [a]=true) (hl:lv≠0) (hl8:lv≤8) (ha:aH C0 59 [.i (.agg a.cells), .i (.isl (aF ws)), .int (lv-1:Nat)] []=some (.int va,[])) (ra:0≤va∧va≤6):aH C0 59 [.i (.agg [.int 7, .int 0, .isl (Ex.aA []), .isl (aF []), .isl (Pn.aA [a])]), .i (.isl (aF ws)), .int lv] []=some (.int (if va=0 then 0 else va),[]):=by
 rw[aI rfl Try.func59 rfl rfl];have hf:=dN 7 0 [] [] [a];rw[ho]at hf;have c3':¬ (lv:Int)=0:=by omega
 have w1:IntKind.i64.wrap ((lv:Int)-1)=(lv-1:Nat):=by rw[wrO];omega
 have w2:IntKind.i64.wrap (1:Int)=1:=bS;have w3:IntKind.i64.wrap (2:Int)=2:=wrO;have r0:gB [a.cells] 0=some a.cells:=rfl;simp only[Pn.aA,aF,Ex.aA]at hf ⊢;rw[Pn.aB a]at ha r0 hf ⊢;simp[hf,hl,c3'];rw[aG];by_cases z1:va=0
 case pos=>simp[w1,ha,r0,z1]
 simp[w1,w2,ha,r0,z1];rw[aG];simp[z1]
theorem RB {ws:List Int} {lv:Nat} {a:Pn} {va:Int} {cs:List Int} (ho:only 8 0 [] cs [a]=true) (hl:lv≠0) (hl8:lv≤8) (ha:aH C0 59 [.i (.agg a.cells), .i (.isl (aF ws)), .int (lv-1:Nat)] []=some (.int va,[])) (ra:0≤va∧va≤6) (hc:cs.length<9223372036854775808):aH C0 59 [.i (.agg [.int 8, .int 0, .isl (Ex.aA []), .isl (aF cs), .isl (Pn.aA [a])]), .i (.isl (aF ws)), .int lv] []=some (.int (if va=0 then 0 else if cs.length<6∧nP va cs=true then(cs.length:Int)+1 else 0),[]):=by
 rw[aI rfl Try.func59 rfl rfl];have hf:=dN 8 0 [] cs [a];rw[ho]at hf;have c3':¬ (lv:Int)=0:=by omega
 have w1:IntKind.i64.wrap ((lv:Int)-1)=(lv-1:Nat):=by rw[wrO];omega
 have w2:IntKind.i64.wrap (1:Int)=1:=bS;have w3:IntKind.i64.wrap (2:Int)=2:=wrO;have r0:gB [a.cells] 0=some a.cells:=rfl;simp only[Pn.aA,aF,Ex.aA]at hf ⊢;rw[Pn.aB a]at ha r0 hf ⊢;simp[hf,hl,c3'];rw[aG];by_cases z1:va=0
 case pos=>simp[w1,ha,r0,z1]
 simp[w1,w2,ha,r0,z1];rw[aG];have hp:=KI cs va hc ra;by_cases h6:cs.length<6
 ·have w5:IntKind.i64.wrap ((cs.length:Int)+1)=cs.length+1:=wrO
  cases hv:nP va cs<;>rw[hv]at hp<;>simp[z1,hp,h6,show(cs.length:Int)<6 by omega,w5]
 ·cases hv:nP va cs<;>rw[hv]at hp<;>simp[z1,hp,h6,show ¬ (cs.length:Int)<6 by omega]
theorem PH (k t:Int) (es:List Ex) (cs:List Int) (ks:List Pn):only k t es cs ks=true↔((1≤k∧k≤8)∧(ks.length:Int)=jO k∧((es.length:Int)=if k=3 then(es.length:Int)else gV k)∧(t=0∨k=1)∧(cs=[]∨k=8)):=by
 unfold only;simp only[zU,zC0,yT]
theorem IZ {ws:List Int} (hw:∀ w∈ws,0≤w∧w≤6) (hwl:ws.length<1000000000):∀ (p:Pn),p.lim→∀ (lv:Nat),lv≤8→aH C0 59 [.i (.agg p.cells), .i (.isl (aF ws)), .int lv] []=some (.int (p.wd ws lv),[]):=by
 intro p
 induction p using Pn.ind with
 | h k t es cs ks ih =>
  intro hp lv hlv;have hp:=(Pn.CR _).1 hp;simp only[Pn.bD,Pn.bW,Pn.dF]at hp;obtain⟨he,hc,-,hks⟩:=hp;rw[Pn.bV];have hr:=fun a=>Pn.IQ hw a (lv-1)
  by_cases ho:only k t es cs ks=true∧(ks=[]∨lv≠0)
  case neg =>
   rw[ZN ho,Pn.ACX];intro hh;apply ho;refine⟨?_,hh.2⟩;have h:=(kI k t es cs ks).1 hh.1;rw[PH];refine⟨?_,h.1,?_,h.2.2.1.symm,h.2.2.2.symm⟩
   ·rcases NL k with h1|h1|h1|h1<;>omega
   ·by_cases h3:k=3
    ·rw[if_pos h3]
    ·have:=h.2.1;rw[if_neg fun h=>h3 h.1]at this;rw[if_neg h3];exact this
  have hoo:=ho.1;have hq:=(PH k t es cs ks).1 ho.1;obtain⟨h0,h1,h2,h3,h4⟩:=hq;have h5:=ho.2;by_cases hd:Pn.headOk (.mk k t es cs ks)=true
  case neg =>
   rw[Pn.ACX fun h=>hd h.1]
   have hk3:k=3∧¬ dK es.length=true∧(es.length:Int)≠1:=by
    by_cases hk:k=3
    ·refine⟨hk,?_,?_⟩
     ·intro hv;exact hd ((kI k t es cs ks).2 ⟨h1,by rw[if_pos ⟨hk,hv⟩],h3.symm,h4.symm⟩)
     ·intro hv;have:dK es.length=true:=by rw[hv];decide
      exact hd ((kI k t es cs ks).2 ⟨h1,by rw[if_pos ⟨hk,this⟩],h3.symm,h4.symm⟩)
    ·exact absurd ((kI k t es cs ks).2 ⟨h1,by rw[if_neg fun h=>hk h.1];rwa [if_neg hk]at h2,h3.symm,h4.symm⟩) hd
   obtain⟨rfl,hv,hv1⟩:=hk3;obtain⟨a,rfl⟩:=jP (by simpa using h1);obtain rfl:cs=[]:=by simpa using h4
   obtain rfl:t=0:=by simpa using h3
   have hl:lv≠0:=by simpa using h5
   rw[G9 hoo hl hlv (ih a (by simp) (hks a (by simp)) (lv-1) (by omega)) (hr a) he]
   have:pW es (a.wd ws (lv-1))=0:=by
    unfold pW;split
    ·rename_i h;have:¬ (1≤(es.length:Int)∧(es.length:Int)≤6):=by simpa [dK]using hv
     omega
    ·rfl
   simp[this]
  have hx:=Pn.QV ws lv (.mk k t es cs ks);rw[if_pos (by simpa using (⟨hd,h5⟩:_∧_))]at hx;simp only[Pn.bK,Pn.bY,Pn.bD,Pn.bW,Pn.dF]at hx;rw[hx]
  rcases nZ k with rfl|rfl|rfl|rfl|rfl|rfl|rfl|rfl|h
  ·obtain rfl:=fH (by simpa using h1);obtain rfl:es=[]:=fH (by simpa using h2);obtain rfl:cs=[]:=by simpa using h4
   exact RJ hoo hwl
  ·obtain⟨a,rfl⟩:=jP (by simpa using h1);obtain⟨e,rfl⟩:=jP (by simpa using h2);obtain rfl:cs=[]:=by simpa using h4
   obtain rfl:t=0:=by simpa using h3
   have hl:lv≠0:=by simpa using h5
   rw[RI hoo hl hlv (ih a (by simp) (hks a (by simp)) (lv-1) (by omega)) (hr a)];by_cases z:a.wd ws (lv-1)=0<;>simp[z,dI]
  ·obtain⟨a,rfl⟩:=jP (by simpa using h1);obtain rfl:cs=[]:=by simpa using h4
   obtain rfl:t=0:=by simpa using h3
   have hl:lv≠0:=by simpa using h5
   rw[G9 hoo hl hlv (ih a (by simp) (hks a (by simp)) (lv-1) (by omega)) (hr a) he];have h6:=Pn.oF hd;simp only[Pn.bD]at h6;by_cases z:a.wd ws (lv-1)=0<;>simp[z,dI,pW,h6]
  ·obtain⟨a,b,rfl⟩:=uN (by simpa using h1);obtain⟨e,rfl⟩:=jP (by simpa using h2);obtain rfl:cs=[]:=by simpa using h4
   obtain rfl:t=0:=by simpa using h3
   have hl:lv≠0:=by simpa using h5
   rw[RH hoo hl hlv (ih a (by simp) (hks a (by simp)) (lv-1) (by omega)) (hr a) (ih b (by simp) (hks b (by simp)) (lv-1) (by omega)) (hr b)];by_cases z:a.wd ws (lv-1)=0<;>by_cases z2:b.wd ws (lv-1)=0<;>simp[z,z2,dI]
  ·obtain⟨a,b,rfl⟩:=uN (by simpa using h1);obtain⟨e,rfl⟩:=jP (by simpa using h2);obtain rfl:cs=[]:=by simpa using h4
   obtain rfl:t=0:=by simpa using h3
   have hl:lv≠0:=by simpa using h5
   rw[RG hoo hl hlv (ih a (by simp) (hks a (by simp)) (lv-1) (by omega)) (hr a) (ih b (by simp) (hks b (by simp)) (lv-1) (by omega)) (hr b)];by_cases z:a.wd ws (lv-1)=0<;>by_cases z2:b.wd ws (lv-1)=0<;>simp[z,z2,dI]
  ·obtain⟨a,b,rfl⟩:=uN (by simpa using h1);obtain rfl:es=[]:=fH (by simpa using h2);obtain rfl:cs=[]:=by simpa using h4
   obtain rfl:t=0:=by simpa using h3
   have hl:lv≠0:=by simpa using h5
   rw[RF hoo hl hlv (ih a (by simp) (hks a (by simp)) (lv-1) (by omega)) (hr a) (ih b (by simp) (hks b (by simp)) (lv-1) (by omega)) (hr b)];by_cases z:a.wd ws (lv-1)=0<;>by_cases z2:b.wd ws (lv-1)=0<;>simp[z,z2,dI]
  ·obtain⟨a,rfl⟩:=jP (by simpa using h1);obtain rfl:es=[]:=fH (by simpa using h2);obtain rfl:cs=[]:=by simpa using h4
   obtain rfl:t=0:=by simpa using h3
   have hl:lv≠0:=by simpa using h5
   rw[RD hoo hl hlv (ih a (by simp) (hks a (by simp)) (lv-1) (by omega)) (hr a)];by_cases z:a.wd ws (lv-1)=0<;>simp[z,dI]
  ·obtain⟨a,rfl⟩:=jP (by simpa using h1);obtain rfl:es=[]:=fH (by simpa using h2);obtain rfl:t=0:=by simpa using h3
   have hl:lv≠0:=by simpa using h5
   rw[RB hoo hl hlv (ih a (by simp) (hks a (by simp)) (lv-1) (by omega)) (hr a) hc];by_cases z:a.wd ws (lv-1)=0<;>simp[z,dI]
  ·omega
theorem uC (p:Pn) (hp:p.lim) (ws:List Int) (hl:ws.length<9223372036854775808):aH C0 38 [.i (.agg p.cells), .i (.isl (aF ws))] []=some (.int (p.width ws),[]):=by
 rw[aI rfl Try.func38 rfl rfl];have hv:=BF ws hl
 cases h:J9 ws with
 | false=>rw[h]at hv;rw[Pn.aB];simp[hv,Pn.width,h]
 | true =>
  rw[h]at hv;have h4:ws.length≤4:=by simp[J9]at h;omega
  have hb:=IZ (GQ h) (by omega) p hp 8 (by omega);rw[show((8:Nat):Int)=8 from rfl]at hb;rw[Pn.aB]at hb ⊢;simp[hv,Pn.width,h,hb]
def EX (a b:Ex) (i:Nat):AS :=
 { env:=[(0, .i (.iref [.int a.kind, .int a.col, .bool a.val.null, .int a.val.n, .isl (Ex.aA a.kids)])),(1, .i (.iref [.int b.kind, .int b.col, .bool b.val.null, .int b.val.n, .isl (Ex.aA b.kids)])),(4, .bool false),(5,jk i (.int (i-1))),(49, .bool false),(54, .int a.kids.length),(55, .int i),(56,jk i (.bool true)),(71,jk i (.bool false))],st:=[] }
def HX (p q:Pn) (n m:Nat) (i j k:AV) (x51 x65 x70 x83 x88 x102:AV):AS :=
 { env:=[(0, .i (.agg [.int p.kind, .int p.table, .isl (Ex.aA p.exprs), .isl (aF p.cols), .isl (Pn.aA p.kids)])),(1, .i (.agg [.int q.kind, .int q.table, .isl (Ex.aA q.exprs), .isl (aF q.cols), .isl (Pn.aA q.kids)])),(2, .own 0 0),(3, .own 1 0),(4, .bool false),(5,i),(6,j),(7,k),(46, .bool false),(51,x51),(65,x65),(70,x70),(83,x83),(88,x88),(102,x102)],
   st:=[some (.box [.int p.kind, .int p.table, .i (.isl (Ex.aA p.exprs)), .i (.isl (aF p.cols)), .i (.isl (Pn.aA p.kids))]),some (.box [.int q.kind, .int q.table, .i (.isl (Ex.aA q.exprs)), .i (.isl (aF q.cols)), .i (.isl (Pn.aA q.kids))])] }
def H1 (p q:Pn) (i:Nat):AS:=HX p q 0 0 (.int i) .junk .junk (jk i (.bool true)) (jk i (.bool false)) .junk .junk .junk .junk
def H2 (p q:Pn) (i:Nat):AS:=HX p q 0 0 (.int p.exprs.length) (.int i) .junk (.bool false) (jk p.exprs.length (.bool false)) (jk i (.bool true)) (jk i (.bool false)) .junk .junk
def KX (p:Pn) (i:Nat):AS :=
 { env:=[(0, .i (.agg [.int p.kind, .int p.table, .isl (Ex.aA p.exprs), .isl (aF p.cols), .isl (Pn.aA p.kids)])),(1, .own 0 0),(2, .own 1 0),(3, .own 2 0),(4, .int i),(5, .junk),(19,jk i (.bool true)),(37, .junk)],
   st:=some (.box [.int p.kind, .int p.table, .i (.isl (Ex.aA p.exprs)), .i (.isl (aF p.cols)), .i (.isl (Pn.aA p.kids))])::some (.box [.int 0, .int 0, .nils, .nils, .nils]) ::
    some (.box [.int p.kind, .int p.table,gro 3 5 i, .osl (if i=0 then 3 else 4) 1 0 p.cols.length, .nils])::(AAH 5 (Ex.aA (p.exprs.take i)) i++[some (.arr 1 (aF p.cols))]) }
def K2 (p:Pn) (i:Nat):AS :=
 { env:=[(0, .i (.agg [.int p.kind, .int p.table, .isl (Ex.aA p.exprs), .isl (aF p.cols), .isl (Pn.aA p.kids)])),(1, .own 0 0),(2, .own 1 0),(3, .own 2 0),(4, .int p.exprs.length),(5, .int i),(19, .bool false),(37,jk i (.bool true))],
   st:=some (.box [.int p.kind, .int p.table, .i (.isl (Ex.aA p.exprs)), .i (.isl (aF p.cols)), .i (.isl (Pn.aA p.kids))])::some (.box [.int 0, .int 0, .nils, .nils, .nils]) ::
    some (.box [.int p.kind, .int p.table,gro 3 5 p.exprs.length, .osl (if p.exprs.length=0 then 3 else 4) 1 0 p.cols.length,gro (if p.exprs.length=0 then 4 else 5) 5 i])::(AAH 5 (Ex.aA p.exprs) p.exprs.length++some (.arr 1 (aF p.cols))::AAH 5 (Pn.aA (p.kids.take i)) i) }
def pcX (p:Pn):AV:=.agg [.int p.kind, .int p.table,gro 0 5 p.exprs.length, .osl (if p.exprs.length=0 then 0 else 1) 1 0 p.cols.length,gro (if p.exprs.length=0 then 1 else 2) 5 p.kids.length]
def pcS (p:Pn):StL:=AAH 5 (Ex.aA p.exprs) p.exprs.length++some (.arr 1 (aF p.cols))::AAH 5 (Pn.aA p.kids) p.kids.length
theorem JQ {p:Pn} (hp:p.thin) (ih:∀ a∈p.kids,aH C0 47 [.i (.agg a.cells)] []=some (pcX a,pcS a)) :
 aH C0 47 [.i (.agg p.cells)] []=some (pcX p,pcS p):=by
 have ht:=(Pn.bR _).1 hp;obtain⟨t1,t2,t3,t4,-⟩:=ht;rw[aI rfl Try.func47 rfl rfl,Pn.aB];by_cases hc:p.cols=[]
 ·simp[hc,aF];rw[aV (KX p) p.exprs.length (by simp[KX,hc,aF])]
  ·rw[aG]
   cases hn:p.exprs.length with
   | zero =>
    have he:p.exprs=[]:=zZ.1 hn;simp[KX,he,hc,aF,Ex.aA];rw[aV (K2 p) p.kids.length (by simp[K2,he,hc,aF,Ex.aA])]
    ·rw[aG]
     cases hm:p.kids.length with
     | zero =>
      have hk:p.kids=[]:=zZ.1 hm;simp[K2,he,hc,aF,hk,Ex.aA,Pn.aA,pcX,pcS]
     | succ m =>
      have hk:p.kids.take (m+1)=p.kids:=zX (by omega);simp[K2,he,hc,aF,hm,hk,Ex.aA,pcX,pcS]
    ·intro i hi;have h3:=zW hi;have hc':=ih _ (zT h3);have r2:=Pn.aP h3;generalize p.kids[i]=a at h3 hc' r2;have w2:IntKind.i64.wrap ((i:Int)+1)=i+1:=wrO;rw[Pn.aB]at r2 hc';simp only[pcX,pcS]at hc';have hl1:(i+1)*88≤140737488355328:=by omega
     have hl2:min i p.kids.length=i:=by omega
     by_cases a1:a.exprs=[]
     ·by_cases a2:a.kids=[]
      ·simp[a1,a2,Ex.aA,Pn.aA]at hc' r2;by_cases h0:i=0
       ·subst h0;simp[K2,he,hc,aF,hi,r2,hc',bS,aN h3,Ex.aA,Pn.aA,Pn.aB a,a1,a2]
       ·simp[K2,he,hc,aF,aO h0,aJ h0,d9 h0,hi,r2,hc',w2,aN h3,Ex.aA,Pn.aA,Pn.aX,hl1,hl2,zG,Pn.aB a,h0,a1,a2]
      ·have a2':a.kids.length≠0:=fun h=>a2 (zZ.1 h)
       simp[a1,aO a2',aJ a2',a2,Ex.aA,Pn.aA]at hc' r2;by_cases h0:i=0
       ·subst h0;simp[K2,he,hc,aF,hi,r2,hc',bS,aN h3,Ex.aA,Pn.aA,Pn.aB a,a1,aO a2',aJ a2',a2]
       ·simp[K2,he,hc,aF,aO h0,aJ h0,d9 h0,hi,r2,hc',w2,aN h3,Ex.aA,Pn.aA,Pn.aX,hl1,hl2,zG,Pn.aB a,h0,a1,aO a2',aJ a2',a2]
     ·by_cases a2:a.kids=[]
      ·have a1':a.exprs.length≠0:=fun h=>a1 (zZ.1 h)
       simp[aO a1',aJ a1',a1,a2,Ex.aA,Pn.aA]at hc' r2;by_cases h0:i=0
       ·subst h0;simp[K2,he,hc,aF,hi,r2,hc',bS,aN h3,Ex.aA,Pn.aA,Pn.aB a,aO a1',aJ a1',a1,a2]
       ·simp[K2,he,hc,aF,aO h0,aJ h0,d9 h0,hi,r2,hc',w2,aN h3,Ex.aA,Pn.aA,Pn.aX,hl1,hl2,zG,Pn.aB a,h0,aO a1',aJ a1',a1,a2]
      ·have a1':a.exprs.length≠0:=fun h=>a1 (zZ.1 h)
       have a2':a.kids.length≠0:=fun h=>a2 (zZ.1 h)
       simp[aO a1',aJ a1',a1,aO a2',aJ a2',a2,Ex.aA,Pn.aA]at hc' r2;by_cases h0:i=0
       ·subst h0;simp[K2,he,hc,aF,hi,r2,hc',bS,aN h3,Ex.aA,Pn.aA,Pn.aB a,aO a1',aJ a1',a1,aO a2',aJ a2',a2]
       ·simp[K2,he,hc,aF,aO h0,aJ h0,d9 h0,hi,r2,hc',w2,aN h3,Ex.aA,Pn.aA,Pn.aX,hl1,hl2,zG,Pn.aB a,h0,aO a1',aJ a1',a1,aO a2',aJ a2',a2]
   | succ n =>
    have he:p.exprs.take (n+1)=p.exprs:=zX (by omega);simp[KX,hn,he,hc,aF];rw[aV (K2 p) p.kids.length (by simp[K2,hn,hc,aF,Ex.aA])]
    ·rw[aG]
     cases hm:p.kids.length with
     | zero =>
      have hk:p.kids=[]:=zZ.1 hm;simp[K2,hn,hc,aF,hk,Ex.aA,Pn.aA,pcX,pcS]
     | succ m =>
      have hk:p.kids.take (m+1)=p.kids:=zX (by omega);simp[K2,hn,hc,aF,hm,hk,Ex.aA,pcX,pcS]
    ·intro i hi;have h3:=zW hi;have hc':=ih _ (zT h3);have r2:=Pn.aP h3;generalize p.kids[i]=a at h3 hc' r2;have w2:IntKind.i64.wrap ((i:Int)+1)=i+1:=wrO;rw[Pn.aB]at r2 hc';simp only[pcX,pcS]at hc';have hl1:(i+1)*88≤140737488355328:=by omega
     have hl2:min i p.kids.length=i:=by omega
     by_cases a1:a.exprs=[]
     ·by_cases a2:a.kids=[]
      ·simp[a1,a2,Ex.aA,Pn.aA]at hc' r2;by_cases h0:i=0
       ·subst h0;simp[K2,hn,hc,aF,hi,r2,hc',bS,aN h3,Ex.aA,Pn.aA,Pn.aB a,a1,a2]
       ·simp[K2,hn,hc,aF,aO h0,aJ h0,d9 h0,hi,r2,hc',w2,aN h3,Ex.aA,Pn.aA,Pn.aX,hl1,hl2,zG,Pn.aB a,h0,a1,a2]
      ·have a2':a.kids.length≠0:=fun h=>a2 (zZ.1 h)
       simp[a1,aO a2',aJ a2',a2,Ex.aA,Pn.aA]at hc' r2;by_cases h0:i=0
       ·subst h0;simp[K2,hn,hc,aF,hi,r2,hc',bS,aN h3,Ex.aA,Pn.aA,Pn.aB a,a1,aO a2',aJ a2',a2]
       ·simp[K2,hn,hc,aF,aO h0,aJ h0,d9 h0,hi,r2,hc',w2,aN h3,Ex.aA,Pn.aA,Pn.aX,hl1,hl2,zG,Pn.aB a,h0,a1,aO a2',aJ a2',a2]
     ·by_cases a2:a.kids=[]
      ·have a1':a.exprs.length≠0:=fun h=>a1 (zZ.1 h)
       simp[aO a1',aJ a1',a1,a2,Ex.aA,Pn.aA]at hc' r2;by_cases h0:i=0
       ·subst h0;simp[K2,hn,hc,aF,hi,r2,hc',bS,aN h3,Ex.aA,Pn.aA,Pn.aB a,aO a1',aJ a1',a1,a2]
       ·simp[K2,hn,hc,aF,aO h0,aJ h0,d9 h0,hi,r2,hc',w2,aN h3,Ex.aA,Pn.aA,Pn.aX,hl1,hl2,zG,Pn.aB a,h0,aO a1',aJ a1',a1,a2]
      ·have a1':a.exprs.length≠0:=fun h=>a1 (zZ.1 h)
       have a2':a.kids.length≠0:=fun h=>a2 (zZ.1 h)
       simp[aO a1',aJ a1',a1,aO a2',aJ a2',a2,Ex.aA,Pn.aA]at hc' r2;by_cases h0:i=0
       ·subst h0;simp[K2,hn,hc,aF,hi,r2,hc',bS,aN h3,Ex.aA,Pn.aA,Pn.aB a,aO a1',aJ a1',a1,aO a2',aJ a2',a2]
       ·simp[K2,hn,hc,aF,aO h0,aJ h0,d9 h0,hi,r2,hc',w2,aN h3,Ex.aA,Pn.aA,Pn.aX,hl1,hl2,zG,Pn.aB a,h0,aO a1',aJ a1',a1,aO a2',aJ a2',a2]
  ·intro i hi;have h3:=zW hi;have hc':=EJ _ (t2 _ (zT h3));have r2:=Ex.aP h3;generalize p.exprs[i]=a at h3 hc' r2;have w2:IntKind.i64.wrap ((i:Int)+1)=i+1:=wrO;rw[Ex.aB]at r2 hc';by_cases h0:i=0
   ·subst h0;simp[KX,hc,aF,hi,r2,hc',bS,aN h3,Ex.aA,Ex.aB a]
   ·simp[KX,hc,aF,aO h0,aJ h0,d9 h0,hi,r2,hc',w2,aN h3,Ex.aX,show min i p.exprs.length=i by omega,show(i+1)*56≤140737488355328 by omega,zG,Ex.aB a,h0]
 simp[hc,show p.cols.length*8≤140737488355328 by omega];rw[aV (KX p) p.exprs.length (by simp[KX,hc])]
 ·rw[aG]
  cases hn:p.exprs.length with
  | zero =>
   have he:p.exprs=[]:=zZ.1 hn;simp[KX,he,hc,Ex.aA];rw[aV (K2 p) p.kids.length (by simp[K2,he,hc,Ex.aA])]
   ·rw[aG]
    cases hm:p.kids.length with
    | zero =>
     have hk:p.kids=[]:=zZ.1 hm;simp[K2,he,hc,hk,Ex.aA,Pn.aA,pcX,pcS]
    | succ m =>
     have hk:p.kids.take (m+1)=p.kids:=zX (by omega);simp[K2,he,hc,hm,hk,Ex.aA,pcX,pcS]
   ·intro i hi;have h3:=zW hi;have hc':=ih _ (zT h3);have r2:=Pn.aP h3;generalize p.kids[i]=a at h3 hc' r2;have w2:IntKind.i64.wrap ((i:Int)+1)=i+1:=wrO;rw[Pn.aB]at r2 hc';simp only[pcX,pcS]at hc';have hl1:(i+1)*88≤140737488355328:=by omega
    have hl2:min i p.kids.length=i:=by omega
    by_cases a1:a.exprs=[]
    ·by_cases a2:a.kids=[]
     ·simp[a1,a2,Ex.aA,Pn.aA]at hc' r2;by_cases h0:i=0
      ·subst h0;simp[K2,he,hc,hi,r2,hc',bS,aN h3,Ex.aA,Pn.aA,Pn.aB a,a1,a2]
      ·simp[K2,he,hc,aO h0,aJ h0,d9 h0,hi,r2,hc',w2,aN h3,Ex.aA,Pn.aA,Pn.aX,hl1,hl2,zG,Pn.aB a,h0,a1,a2]
     ·have a2':a.kids.length≠0:=fun h=>a2 (zZ.1 h)
      simp[a1,aO a2',aJ a2',a2,Ex.aA,Pn.aA]at hc' r2;by_cases h0:i=0
      ·subst h0;simp[K2,he,hc,hi,r2,hc',bS,aN h3,Ex.aA,Pn.aA,Pn.aB a,a1,aO a2',aJ a2',a2]
      ·simp[K2,he,hc,aO h0,aJ h0,d9 h0,hi,r2,hc',w2,aN h3,Ex.aA,Pn.aA,Pn.aX,hl1,hl2,zG,Pn.aB a,h0,a1,aO a2',aJ a2',a2]
    ·by_cases a2:a.kids=[]
     ·have a1':a.exprs.length≠0:=fun h=>a1 (zZ.1 h)
      simp[aO a1',aJ a1',a1,a2,Ex.aA,Pn.aA]at hc' r2;by_cases h0:i=0
      ·subst h0;simp[K2,he,hc,hi,r2,hc',bS,aN h3,Ex.aA,Pn.aA,Pn.aB a,aO a1',aJ a1',a1,a2]
      ·simp[K2,he,hc,aO h0,aJ h0,d9 h0,hi,r2,hc',w2,aN h3,Ex.aA,Pn.aA,Pn.aX,hl1,hl2,zG,Pn.aB a,h0,aO a1',aJ a1',a1,a2]
     ·have a1':a.exprs.length≠0:=fun h=>a1 (zZ.1 h)
      have a2':a.kids.length≠0:=fun h=>a2 (zZ.1 h)
      simp[aO a1',aJ a1',a1,aO a2',aJ a2',a2,Ex.aA,Pn.aA]at hc' r2;by_cases h0:i=0
      ·subst h0;simp[K2,he,hc,hi,r2,hc',bS,aN h3,Ex.aA,Pn.aA,Pn.aB a,aO a1',aJ a1',a1,aO a2',aJ a2',a2]
      ·simp[K2,he,hc,aO h0,aJ h0,d9 h0,hi,r2,hc',w2,aN h3,Ex.aA,Pn.aA,Pn.aX,hl1,hl2,zG,Pn.aB a,h0,aO a1',aJ a1',a1,aO a2',aJ a2',a2]
  | succ n =>
   have he:p.exprs.take (n+1)=p.exprs:=zX (by omega);simp[KX,hn,he,hc];rw[aV (K2 p) p.kids.length (by simp[K2,hn,hc,Ex.aA])]
   ·rw[aG]
    cases hm:p.kids.length with
    | zero =>
     have hk:p.kids=[]:=zZ.1 hm;simp[K2,hn,hc,hk,Ex.aA,Pn.aA,pcX,pcS]
    | succ m =>
     have hk:p.kids.take (m+1)=p.kids:=zX (by omega);simp[K2,hn,hc,hm,hk,Ex.aA,pcX,pcS]
   ·intro i hi;have h3:=zW hi;have hc':=ih _ (zT h3);have r2:=Pn.aP h3;generalize p.kids[i]=a at h3 hc' r2;have w2:IntKind.i64.wrap ((i:Int)+1)=i+1:=wrO;rw[Pn.aB]at r2 hc';simp only[pcX,pcS]at hc';have hl1:(i+1)*88≤140737488355328:=by omega
    have hl2:min i p.kids.length=i:=by omega
    by_cases a1:a.exprs=[]
    ·by_cases a2:a.kids=[]
     ·simp[a1,a2,Ex.aA,Pn.aA]at hc' r2;by_cases h0:i=0
      ·subst h0;simp[K2,hn,hc,hi,r2,hc',bS,aN h3,Ex.aA,Pn.aA,Pn.aB a,a1,a2]
      ·simp[K2,hn,hc,aO h0,aJ h0,d9 h0,hi,r2,hc',w2,aN h3,Ex.aA,Pn.aA,Pn.aX,hl1,hl2,zG,Pn.aB a,h0,a1,a2]
     ·have a2':a.kids.length≠0:=fun h=>a2 (zZ.1 h)
      simp[a1,aO a2',aJ a2',a2,Ex.aA,Pn.aA]at hc' r2;by_cases h0:i=0
      ·subst h0;simp[K2,hn,hc,hi,r2,hc',bS,aN h3,Ex.aA,Pn.aA,Pn.aB a,a1,aO a2',aJ a2',a2]
      ·simp[K2,hn,hc,aO h0,aJ h0,d9 h0,hi,r2,hc',w2,aN h3,Ex.aA,Pn.aA,Pn.aX,hl1,hl2,zG,Pn.aB a,h0,a1,aO a2',aJ a2',a2]
    ·by_cases a2:a.kids=[]
     ·have a1':a.exprs.length≠0:=fun h=>a1 (zZ.1 h)
      simp[aO a1',aJ a1',a1,a2,Ex.aA,Pn.aA]at hc' r2;by_cases h0:i=0
      ·subst h0;simp[K2,hn,hc,hi,r2,hc',bS,aN h3,Ex.aA,Pn.aA,Pn.aB a,aO a1',aJ a1',a1,a2]
      ·simp[K2,hn,hc,aO h0,aJ h0,d9 h0,hi,r2,hc',w2,aN h3,Ex.aA,Pn.aA,Pn.aX,hl1,hl2,zG,Pn.aB a,h0,aO a1',aJ a1',a1,a2]
     ·have a1':a.exprs.length≠0:=fun h=>a1 (zZ.1 h)
      have a2':a.kids.length≠0:=fun h=>a2 (zZ.1 h)
      simp[aO a1',aJ a1',a1,aO a2',aJ a2',a2,Ex.aA,Pn.aA]at hc' r2;by_cases h0:i=0
      ·subst h0;simp[K2,hn,hc,hi,r2,hc',bS,aN h3,Ex.aA,Pn.aA,Pn.aB a,aO a1',aJ a1',a1,aO a2',aJ a2',a2]
      ·simp[K2,hn,hc,aO h0,aJ h0,d9 h0,hi,r2,hc',w2,aN h3,Ex.aA,Pn.aA,Pn.aX,hl1,hl2,zG,Pn.aB a,h0,aO a1',aJ a1',a1,aO a2',aJ a2',a2]
 ·intro i hi;have h3:=zW hi;have hc':=EJ _ (t2 _ (zT h3));have r2:=Ex.aP h3;generalize p.exprs[i]=a at h3 hc' r2;have w2:IntKind.i64.wrap ((i:Int)+1)=i+1:=wrO;rw[Ex.aB]at r2 hc';by_cases h0:i=0
  ·subst h0;simp[KX,hc,hi,r2,hc',bS,aN h3,Ex.aA,Ex.aB a]
  ·simp[KX,hc,aO h0,aJ h0,d9 h0,hi,r2,hc',w2,aN h3,Ex.aX,show min i p.exprs.length=i by omega,show(i+1)*56≤140737488355328 by omega,zG,Ex.aB a,h0]
theorem nG:∀ (p:Pn),p.thin→aH C0 47 [.i (.agg p.cells)] []=some (pcX p,pcS p):=by
 intro p
 induction p using Pn.ind with
 | h k t es cs ks ih =>
  intro ht;exact JQ ht fun a ha=>ih a ha (((Pn.bR _).1 ht).2.2.2.2 a ha)
def vB (x:Bool) (v:Pn):Option Blk:=if x=true then some (.fbox v.cells)else some (.box (jV v.cells))
@[simp] theorem AIF (x:Bool) (v:Pn):fI (vB x v)=[]:=by cases x<;>simp[vB,Pn.aB]
@[simp] theorem AK5 (r:Nat→Option Nat) (x:Bool) (v:Pn):tX r (vB x v)=vB x v:=by cases x<;>simp[vB,Pn.aB]
@[simp] theorem AJQ (x:Bool) (v:Pn):WY (vB x v)=true:=by cases x<;>rfl
theorem wI:aH C0 51 [.i (.isl [])] []=some (.nils,[]):=by
 rw[aI rfl Try.func51 rfl rfl];simp
theorem EL {ks:List Ex} (h:ks≠[]) (hl:ks.length<1000000000):aH C0 51 [.i (.isl (Ex.aA ks))] []=some (.osl 0 5 0 ks.length,[some (.arr 5 (Ex.aA ks))]):=by
 rw[aI rfl Try.func51 rfl rfl];have h1:56*(ks.length:Int)≤281474976710656:=by omega
 simp[h,h1];unfold over;simp
theorem wH:aH C0 52 [.i (.isl [])] []=some (.nils,[]):=by
 rw[aI rfl Try.func52 rfl rfl];simp
theorem EK {l:List Int} (h:l≠[]) (hl:l.length<1000000000):aH C0 52 [.i (.isl (aF l))] []=some (.osl 0 1 0 l.length,[some (.arr 1 (aF l))]):=by
 rw[aI rfl Try.func52 rfl rfl];have h1:8*(l.length:Int)≤281474976710656:=by omega
 simp[h,h1];unfold over;simp
set_option maxHeartbeats 4000000
end Go.Proofs.Ytjdfjgmebalaaaa.P
namespace Go.Proofs.Ytjdfjgmebalaaaa.G
open Go Go.Av
set_option maxRecDepth 4000
set_option maxHeartbeats 4000000
noncomputable def ADW:FuncId→Option (List AV→StL→Option (AV×StL))
 | 53=>some (CV (aH P.C3) 53)
 | _=>none
noncomputable def C2:Ctx:={ P:=Try.prog,G:=GS,ownArgs:=eU,keepRes:=keepR,eqT:=EB,prim:=ADW,tree:=true }
@[simp] theorem AU9:C2.P=Try.prog:=(rfl)
@[simp] theorem AUA (f):C2.G f=GS f:=(rfl)
@[simp] theorem AU6 (f):C2.ownArgs f=eU f:=(rfl)
@[simp] theorem AU7 (f):C2.keepRes f=keepR f:=(rfl)
@[simp] theorem AU8 (f):C2.eqT f=EB f:=(rfl)
@[simp] theorem AU5:C2.tree=true:=(rfl)
theorem ZW:PrimOk C2:=by
 have h3:=aY P.AC4
 have key:∀ g q,C2.prim g=some q→g=53∧q=CV (aH P.C3) g:=by
  intro g q h;have h:ADW g=some q:=h;unfold ADW at h;split at h
  ·injection h with h;exact⟨rfl,h.symm⟩
  ·cases h
 constructor
 ·intro g args st p h;unfold dB at h
  cases hq:C2.prim g with
  | none=>rw[hq]at h;cases h
  | some q =>
   obtain⟨rfl,rfl⟩:=key g q hq;rw[hq]at h;exact(mX h3 (r:=p.1) (stl':=p.2) h).1
 ·intro g args stl r stl' h w m φ vs hi hr h0;unfold dB at h
  cases hq:C2.prim g with
  | none=>rw[hq]at h;cases h
  | some q =>
   obtain⟨rfl,rfl⟩:=key g q hq;rw[hq]at h;exact(mX h3 h).2 w m φ vs hi hr h0
theorem lS:SoundOk C2:=jW (C:=C2) ft nt eqS mo ZW
theorem AIP:aH C2 51 [.i (.isl [])] []=some (.nils,[]):=by
 rw[aI rfl Try.func51 rfl rfl];simp
theorem AF9 {ks:List Ex} (h:ks≠[]) (hl:ks.length<1000000000):aH C2 51 [.i (.isl (Ex.aA ks))] []=some (.osl 0 5 0 ks.length,[some (.arr 5 (Ex.aA ks))]):=by
 rw[aI rfl Try.func51 rfl rfl];have h1:56*(ks.length:Int)≤281474976710656:=by omega
 simp[h,h1];unfold over;simp
theorem ACT:aH C2 52 [.i (.isl [])] []=some (.nils,[]):=by
 rw[aI rfl Try.func52 rfl rfl];simp
theorem XW {l:List Int} (h:l≠[]) (hl:l.length<1000000000):aH C2 52 [.i (.isl (aF l))] []=some (.osl 0 1 0 l.length,[some (.arr 1 (aF l))]):=by
 rw[aI rfl Try.func52 rfl rfl];have h1:8*(l.length:Int)≤281474976710656:=by omega
 simp[h,h1];unfold over;simp
theorem QJ:aH C2 62 [.i (.isl [])] []=some (.nils,[]):=by
 rw[aI rfl Try.func62 rfl rfl];simp
theorem JU {ks:List Pn} (h:ks≠[]) (hl:ks.length<1000000000):aH C2 62 [.i (.isl (Pn.aA ks))] []=some (.osl 0 5 0 ks.length,[some (.arr 5 (Pn.aA ks))]):=by
 rw[aI rfl Try.func62 rfl rfl];have h1:88*(ks.length:Int)≤281474976710656:=by omega
 simp[h,h1];unfold over;simp
theorem AIO {es:List Ex} {i:Nat} {a:Ex} (ha:es[i]?=some a) (hs:a.size<1000000000):aH C2 53 [.ownE 0 5 i 0] [some (tY es i)]=some (if a.kids=[]then .i (.agg a.cells)else tE a 1,if a.kids=[]then [some (tY es i)]else [some (tY es i),some (Mk.kL Ex.cells 5 a.kids)]):=by
 rw[aZ (C:=C2) (p:=CV (aH P.C3) 53) rfl];exact P.CS ha hs
def zp:List AV:=[.int 0, .int 0, .nils, .nils, .nils]
def EV (b3:Nat) (v4 v5 v6 v7 v14 v38 v39 v40 v76 v77 v78:AV):List (Nat×AV):=[(0, .junk),(2, .own 0 0),(3, .i (ptr (b3,0))),(4,v4),(5,v5),(6,v6),(7,v7),(14,v14),(38,v38),(39,v39),(40,v40),(76,v76),(77,v77),(78,v78)]
def jN (l:PL):List (List IV):=l.map fun k=>[ptr k.1]
def SLp (b3:Nat) (todo X:PL):AS:={ env:=EV b3 (.osl 1 1 0 todo.length) .junk .junk .junk .junk .junk .junk .junk .junk .junk .junk,st:=[some (.box zp),some (.arr 1 (jN (todo++X)))] }
def SRp (b3 n o:Nat) (ES:List (List IV)) (v6 v7 v14 v38 v39 v40 v76 v77 v78:AV) (cells:List AV) (L:StL):AS:={ env:=EV b3 (.osl 1 1 0 n) (.own 2 o) v6 v7 v14 v38 v39 v40 v76 v77 v78,st:=some (.box zp)::some (.arr 1 ES)::some (.box cells)::L }
theorem J6:∀ (l:PL),∀ c∈(jN l).flatten,∃ v,c=.lit v
 | [],c,h=>by simp[jN]at h
 | k::l,c,h=>by
  simp only[jN,yS,zB,zV,xL]at h
  rcases h with rfl|h
  ·exact⟨_,rfl⟩
  ·exact J6 l c h
theorem BI (a b x:Option Blk):upd (aS [a,b]) 2 x=aS [a,b,x]:=by
 funext i;rcases i with _|_|_|i<;>simp[aS,upd]
theorem AKT (b3:Nat) (v4 v5 v5' v6 v7 v14 v38 v39 v40 v76 v77 v78:AV):upd (aQ (EV b3 v4 v5 v6 v7 v14 v38 v39 v40 v76 v77 v78)) 5 v5'=aQ (EV b3 v4 v5' v6 v7 v14 v38 v39 v40 v76 v77 v78):=by
 funext t;simp only[upd,EV,aQ];by_cases h5:t=5
 ·subst h5;simp
 ·simp only[h5,if_false]
def XS (b3 n:Nat) (ES:List (List IV)) (pre post:List Value) (k t:Int) (es:List Ex) (aC aK:AV) (v14:AV) (i:Nat):AS :=
 SRp b3 n pre.length ES (jk i (.int (i-1))) .junk v14 (.int es.length) (.int i) (jk i (.bool true)) .junk .junk .junk (lG pre [.int k, .int t, .osl 3 5 0 es.length,aC,aK] post) [some (tY es i)]
set_option maxHeartbeats 8000000
def jj:List (Nat×AV):=[(4, .junk),(5, .junk),(6, .junk),(7, .junk),(14, .junk),(38, .junk),(39, .junk),(40, .junk),(76, .junk),(77, .junk),(78, .junk)]
theorem AC3:AFI (fun _ _ _=>True):=fun _ _ _ _ _ _ _ _=>trivial
theorem ACU:IntKind.i64.wrap 1=1:=wrO
def RWp (init:PL) (b' i:Nat):List (List IV):=jN init++(List.range i).map fun j=>[ptr (b',j*5)]
theorem YJ (init:PL) (b' i:Nat):(RWp init b' i).length=init.length+i:=by simp[RWp,jN]
theorem ABF (init:PL) (b' i:Nat):RWp init b' i++[[ptr (b',i*5)]]=RWp init b' (i+1):=by simp[RWp,zB9]
theorem H6 (b:Nat):∀ (o:Nat) (l:List Pn),jN (kD b o l)=(List.range l.length).map fun j=>[ptr (b,o+j*5)]
 | _,[]=>by simp[kD,jN]
 | o,a::l=>by
  have ih:=H6 b (o+5) l;simp only[jN]at ih ⊢;simp only[kD,yS,ih,zP,zB6,List.map_map];simp only[List.cons.injEq,Nat.zero_mul,xV,true_and];apply List.map_congr_left;intro j _;simp only[Function.comp,Nat.succ_eq_add_one];rw[show o+5+j*5=o+(j+1)*5 by omega]
theorem LV (b:Nat):∀ (o:Nat) (l:List Pn),(kD b o l).length=l.length
 | _,[]=>rfl
 | o,a::l=>by simp[kD,LV b (o+5) l]
theorem LQ (b:Nat):∀ (o:Nat) (l:List Pn),((kD b o l).map fun k=>k.2.size).sum=Pn.aL l
 | _,[]=>by simp[kD,Pn.aL]
 | o,a::l=>by simp[kD,Pn.aL,LQ b (o+5) l]
theorem LU {b:Nat}:∀ {o:Nat} {l:List Pn},∀ q∈kD b o l,q.2∈l∧q.1.1=b
 | _,[],q,h=>by simp[kD]at h
 | o,a::l,q,h=>by
  simp only[kD,zS]at h
  rcases h with rfl|h
  ·simp
  ·have:=LU q h;exact⟨by simp[this.1],this.2⟩
def iE (es:List Ex):Nat:=if es.length=0 then 100 else 3
def lE0 (es:List Ex):StL:=if es.length=0 then []else [some (.arr 5 (Ex.aA es))]
def lE (es:List Ex):StL:=if es.length=0 then []else [some (.tre 5 (Ex.aA es))]
def iC (es:List Ex) (cs:List Int):Nat:=if cs.length=0 then 101 else 3+(lE es).length
def lC (es:List Ex) (cs:List Int):StL:=if cs.length=0 then lE es else lE es++[some (.arr 1 (aF cs))]
def iK (es:List Ex) (cs:List Int) (ks:List Pn):Nat:=if ks.length=0 then 102 else 3+(lC es cs).length
def lK (es:List Ex) (cs:List Int) (ks:List Pn):StL:=if ks.length=0 then lC es cs else lC es cs++[some (.arr 5 (Pn.aA ks))]
def YP (b3 n o:Nat) (ES:List (List IV)) (init:PL) (b' nk:Nat) (cells:List AV) (i:Nat):AS :=
 { env:=EV b3 (if i=0 then .osl 1 1 0 n else .osl 3 1 0 (n+i)) (.own 2 o) .junk (jk i (.int (i-1))) (.bool true) .junk .junk .junk (.int nk) (.int i) (jk i (.bool true)),
   st:=some (.box zp)::(if i=0 then some (.arr 1 ES)else none)::some (.box cells)::(if i=0 then []else [some (.arr 1 (RWp init b' i))]) }
theorem VL (a b c:Option Blk):∀ (l:StL) {x:Option Blk},aS (a::b::c::(l++[x])) (3+l.length)=x:=by
 intro l x;rw[mI]
 have:(a::b::c::(l++[x]))[3+l.length]?=some x:=by
  rw[show 3+l.length=l.length+1+1+1 by omega];simp
 rw[this];rfl
theorem oN {p:Pn} (hsz:p.size<1000000000) (hth:p.thin) (hty:p.tiny) {wi:World} {mi:Mem} {vs:List Value} (hi:Inv wi mi (fun _=>none) (aS [])) (hr:RepL mi (fun _=>none) [.i (.iref p.cells)] vs) :
 Calls Try.prog 43 vs.toArray wi (EY wi mi p):=by
 refine calls_of_wp (fn:=Try.f43) Try.func43 rfl ?_;have hv1:vs.length=1:=by simpa using hr.length.symm
 have g0:GR wi mi 91 (fun id=>id<({ env:=[(0, .i (.iref p.cells))],st:=[] }:AS).st.length) (fun _ _ _=>True) (aQ [(0, .i (.iref p.cells))]) (aS []) { tmps:=vs.toArray++Array.replicate (91-vs.toArray.size) undef,defers:=[] } wi:=by
  refine⟨⟨mi,fun _=>none,hi,?_, .refl _ _ _,fun id h=>absurd rfl h,trivial⟩,by simp;omega,rfl⟩;intro t;have:=tN (m:=mi) (φ:=fun _=>none) (91-vs.toArray.size) hr t
  cases t with
  | zero=>simpa [aQ,wV]using this
  | succ t=>simp only[aQ];simp;exact .junk _
 refine wp_seq (wp_mono (GR.gG lS (G:=GS 43) (S:={ env:=[(0, .i (.iref p.cells))],st:=[] }) (e:=.normal) (S':={ env:=[(0, .i (.iref p.cells)),(2, .own 0 0),(3, .junk)]++jj,st:=[some (.box zp)] }) AC3 (by kernel_rfl) (by simp[zp,jj]) g0) ?_);rintro _ a1 w1 ⟨rfl,g1⟩;refine wp_seq (wp_mono (GR.gG lS (G:=GS 43) (S:={ env:=[(0, .i (.iref p.cells)),(2, .own 0 0),(3, .junk)]++jj,st:=[some (.box zp)] }) (e:=.normal) (S':={ env:=[(0, .i (.iref p.cells)),(2, .own 0 0),(3, .own 1 0)]++jj,st:=[some (.box zp),some (.box (jV p.cells))] }) AC3 (by kernel_rfl) (by rw[Pn.aB];simp[zp,jj]) g1) ?_);rintro _ a2 w2 ⟨rfl,g2⟩
 obtain⟨b3,g3⟩:=g2.AMF (u:=3) (id:=1) (p:=p) (st':=aS [some (.box zp)]) rfl rfl (by
  intro i blk h
  cases i with
  | zero=>simp[aS]at h;subst h;exact⟨by omega,rfl,by simp[eZ,zp]⟩
  | succ i=>simp[aS]at h)
 have g3:=g3 (aQ [(2, .own 0 0),(3, .i (ptr (b3,0)))]) (by
  intro t;simp only[aQ];by_cases h2:t=2
  ·subst h2;exact .inr (.inr ⟨rfl,by simp[aQ,iB,aS,jj]⟩)
  ·by_cases h3:t=3
   ·subst h3;exact .inr (.inl ⟨rfl,rfl⟩)
   ·simp[h2,h3])
 have g3:=g3.ok' (ok':=fun id=>id<({ env:=[(2, .own 0 0),(3, .i (ptr (b3,0)))],st:=[some (.box zp)] }:AS).st.length) (by
  intro i h
  cases i with
  | zero=>simp
  | succ i=>simp[aS]at h)
 refine wp_seq (wp_mono (GR.gG lS (G:=GS 43) (S:={ env:=[(2, .own 0 0),(3, .i (ptr (b3,0)))],st:=[some (.box zp)] }) (e:=.normal) (S':=SLp b3 [((b3,0),p)] []) (RAW.YQ _ _ _ _ _) (by kernel_rfl) (by simp[SLp,EV,jN,ptr,zp]) g3) ?_);rintro _ a3 w3 ⟨rfl,g4⟩;clear g0 g1 g2 g3;refine wp_seq (wp_block ?_);refine rP (fun n a w=>∃ (todo X H:PL) (F:List Nat),H.Perm todo∧(todo.map fun k=>k.2.size).sum=n∧n<1000000000∧(∀ q∈todo,q.2.thin∧q.2.tiny)∧GR wi mi 91 (fun id=>id<(SLp b3 todo X).st.length) (RAW wi b3 p F H) (aQ (SLp b3 todo X).env) (aS (SLp b3 todo X).st) a w) ?_ (n:=p.size) ⟨[((b3,0),p)],[],[((b3,0),p)],[], .refl _,by simp,hsz,by simpa using ⟨hth,hty⟩,g4⟩;clear g4;rintro n a w ⟨todo,X,H,F,hperm,hsum,hn,hall,g⟩
 rcases List.eq_nil_or_concat todo with rfl|⟨init,k,rfl⟩
 ·obtain rfl:=List.perm_nil.1 hperm;refine wp_mono (GR.gG lS (G:=GS 43) (S:=SLp b3 [] X) (e:=.exit 0) (S':={ env:=EV b3 (.osl 1 1 0 0) .junk .junk .junk (.bool false) .junk .junk .junk .junk .junk .junk,st:=[some (.box zp),some (.arr 1 (jN X))] }) (RAW.YQ _ _ _ _ _) (by kernel_rfl) (by simp[SLp,EV,zp]) g) ?_;rintro _ a5 w5 ⟨rfl,g5⟩;simp only[gK,Exit.then,Exit.inBlock,if_true];obtain⟨v0,v1,v2,v3,v4,post,hone,g6⟩:=g5.AIY (u:=3) (k:=2) rfl rfl (by simp)
  have g6:=(g6 (aQ [(2, .own 0 0),(3, .own 2 0)]) (by
   intro t;simp only[aQ];by_cases h2:t=2
   ·subst h2;exact .inr (.inr (by simp[aQ,EV]))
   ·by_cases h3:t=3
    ·subst h3;exact .inr (.inl ⟨rfl,rfl⟩)
    ·simp[h2,h3])).ok' (ok':=fun id=>id<({ env:=[(2, .own 0 0),(3, .own 2 0)],st:=[some (.box zp),some (.arr 1 (jN X)),some (.box (dO [v0,v1,v2,v3,v4]++dO post))] }:AS).st.length) (by
   intro i h
   simp at h ⊢;omega)
  rw[BI]at g6
  refine wp_mono (GR.gG lS (G:=GS 43) (S:={ env:=[(2, .own 0 0),(3, .own 2 0)],st:=[some (.box zp),some (.arr 1 (jN X)),some (.box (dO [v0,v1,v2,v3,v4]++dO post))] }) (e:=.ret) (S':={ env:=[(0, .junk),(2, .own 0 0),(3, .own 2 0)]++jj,st:=[some (.box (dO [v0,v1,v2,v3,v4])),some (.arr 1 (jN X)),some (.box (dO [v0,v1,v2,v3,v4]++dO post))] }) (CPY.YQ _ _ _ _ _ _ _ _) (by kernel_rfl) (by
   have hz:dO [v0,v1,v2,v3,v4]=[.i (.lit v0), .i (.lit v1), .i (.lit v2), .i (.lit v3), .i (.lit v4)]:=rfl;rw[hz]
   simp[zp,jj,D9,GM]) g6) ?_
  rintro _ a6 w6 ⟨rfl,g7⟩;obtain⟨⟨m,φ,q1,q2,q3,q4,q5⟩,q6,q7⟩:=g7
  obtain⟨v,k1,k2⟩:=jJ (C:=C2) (fn:=Try.f43) (keep:=false) (na:=0) (S:={ env:=[(0, .junk),(2, .own 0 0),(3, .own 2 0)]++jj,st:=[some (.box (dO [v0,v1,v2,v3,v4])),some (.arr 1 (jN X)),some (.box (dO [v0,v1,v2,v3,v4]++dO post))] }) (r:=.i (.agg [.lit v0, .lit v1, .lit v2, .lit v3, .lit v4])) (stl':=[]) (fun id h=>absurd rfl h) ⟨⟨⟨m,φ,q1,q2,q3,q4, .nil _ _ _⟩,q6,q7⟩,zB3 _⟩ (by
   show finish C2 false [ResultVar.cell 2 31] 0 _=_;have hz:dO [v0,v1,v2,v3,v4]=[.i (.lit v0), .i (.lit v1), .i (.lit v2), .i (.lit v3), .i (.lit v4)]:=rfl;rw[hz]
   simp)
  have hv:v=.agg #[v0,v1,v2,v3,v4]:=by
   obtain⟨_,_,_,e,r,_⟩:=k2;injection e with e;subst e
   cases r with
   | i r=>cases r with
    | agg r =>
     cases r with|cons a0 _ r=>cases r with|cons a1 _ r=>cases r with|cons a2 _ r=>cases r with|cons a3 _ r=>cases r with|cons a4 _ r =>
     cases r
     rw[kP a0,kP a1,kP a2,kP a3,kP a4]
  subst hv;refine⟨q7,_,k1,v0,v1,v2,v3,v4,F,m,rfl,hone,q1.mem,⟨q3.size,q3.os,q3.tape,q3.output,q3.block,q3.mle,q3.mnew, .refl _,fun _ _ _ _ e=>by cases e⟩,q5.th,q5.cells,q5.nd,fun f hf=>?_,q5.kc⟩;obtain⟨z1,z2,z3,z4,z5⟩:=q5.all f hf;exact⟨z1,z2,(by intro _ _ _ e;cases e),z4,z5⟩
 ·obtain⟨⟨b,o⟩,x⟩:=k;rw[List.concat_eq_append]at hperm hsum hall g
  have hlen:∀ l:PL,l.length≤(l.map fun k=>k.2.size).sum:=by
   intro l
   induction l with
   | nil=>simp
   | cons a l ih=>have:=Pn.jX a.2;simp;omega
  have hil:=hlen init;simp at hsum;have hq:((b,o),x)∈H:=hperm.mem_iff.2 (by simp);have hxs:=Pn.size_eq x;have hkl:=Pn.dJ x.kids;have hpos:(0:Int)<(init.length:Int)+1:=by omega
  have w1:IntKind.i64.wrap (init.length:Int)=init.length:=wrO;generalize hES:jN (init++[((b,o),x)]++X)=ES at *
  have hnth:gB ES init.length=some [ptr (b,o)]:=by
   rw[fE,← hES];simp[jN]
  have hlit:∀ c∈ES.flatten,∃ v,c=.lit v:=by rw[← hES];exact J6 _
  have htake:ES.take init.length=jN init:=by rw[← hES];simp[jN]
  have hESl:init.length≤ES.length:=by rw[← hES];simp[jN]
  have hlt:(init.length:Int)<(init.length:Int)+1:=by omega
  have hlt2:(init.length:Int)≤(init.length:Int)+1:=by omega
  obtain⟨hxt,hxy⟩:=hall ((b,o),x) (by simp);simp only at hxt hxy;refine wp_seq (wp_mono (GR.gG lS (G:=GS 43) (S:=SLp b3 (init++[((b,o),x)]) X) (e:=.normal) (S':={ env:=EV b3 (.osl 1 1 0 (init.length+1)) .junk .junk .junk (.bool true) .junk .junk .junk .junk .junk .junk,st:=[some (.box zp),some (.arr 1 ES)] }) (RAW.YQ _ _ _ _ _) (by kernel_rfl) (by simp only[SLp,hES];simp[EV,zp,hpos]) g) ?_);rintro _ a5 w5 ⟨rfl,g5⟩;clear g;refine wp_block ?_;refine wp_seq (wp_mono (GR.gG lS (G:=GS 43) (S:={ env:=EV b3 (.osl 1 1 0 (init.length+1)) .junk .junk .junk (.bool true) .junk .junk .junk .junk .junk .junk,st:=[some (.box zp),some (.arr 1 ES)] }) (e:=.normal) (S':={ env:=EV b3 (.osl 1 1 0 (init.length+1)) (.i (ptr (b,o))) .junk .junk (.bool true) .junk .junk .junk .junk .junk .junk,st:=[some (.box zp),some (.arr 1 ES)] }) (RAW.YQ _ _ _ _ _) (by kernel_rfl) (by simp only[ptr]at hnth;simp[EV,ptr,zp,hnth,w1,hlt]) g5) ?_);rintro _ a6 w6 ⟨rfl,g6⟩;clear g5;refine wp_seq (wp_mono (GR.gG lS (G:=GS 43) (S:={ env:=EV b3 (.osl 1 1 0 (init.length+1)) (.i (ptr (b,o))) .junk .junk (.bool true) .junk .junk .junk .junk .junk .junk,st:=[some (.box zp),some (.arr 1 ES)] }) (e:=.normal) (S':={ env:=EV b3 (.osl 1 1 0 init.length) (.i (ptr (b,o))) .junk .junk (.bool true) .junk .junk .junk .junk .junk .junk,st:=[some (.box zp),some (.arr 1 ES)] }) (RAW.YQ _ _ _ _ _) (by kernel_rfl) (by simp[EV,ptr,zp,w1,hlt2]) g6) ?_);rintro _ a7 w7 ⟨rfl,g7⟩;clear g6;obtain⟨pre,post,us,ma,e1,e2,e3,e4,e5,g8⟩:=g7.OP (u:=5) (y:=x) rfl (by simp) hq rfl;clear g7;rw[AKT,BI]at g8;subst e3;obtain⟨kd,tb,es,cs,ks⟩:=x;obtain⟨t1,t2,t3,t4,t5⟩:=(Pn.bR _).1 hxt;obtain⟨y1,y2⟩:=(Pn.rV _).1 hxy;simp only[Pn.dF,Pn.bD,Pn.bW]at t1 t2 t3 t4 t5 y1 y2 hxs hkl;rw[Pn.bV]at g8;have hst:=ADP.YQ wi b3 p F H b us w7 ma
  refine wp_seq (wp_mono (GR.gG lS (G:=GS 43) (S:=SRp b3 init.length pre.length ES .junk .junk (.bool true) .junk .junk .junk .junk .junk .junk (lG pre [.int kd, .int tb, .i (.isl (Ex.aA es)), .i (.isl (aF cs)), .i (.isl (Pn.aA ks))] post) []) (e:=.normal) (S':=SRp b3 init.length pre.length ES .junk .junk (.bool true) .junk .junk .junk .junk .junk .junk (lG pre [.int kd, .int tb,slA es.length (iE es) 5, .i (.isl (aF cs)), .i (.isl (Pn.aA ks))] post) (lE0 es)) hst (by kernel_rfl) (by
   by_cases he:es=[]
   ·subst he;simp[SRp,EV,zp,AD6,NC,aW,bG,Ex.aA,AIP,slA,lE0]
   ·have hel:es.length≠0:=fun h=>he (zZ.1 h)
    simp[SRp,EV,zp,AD6,NC,aW,bG,AF9 he t1,slA,lE0,iE,he]) (g8.ok' fun id h=>by simp at h ⊢;simp[SRp];omega)) ?_)
  rintro _ a9 w9 ⟨rfl,g9⟩;clear g8
  refine wp_seq (wp_mono (GR.AIL lS (G:=GS 43) (S:=SRp b3 init.length pre.length ES .junk .junk (.bool true) .junk .junk .junk .junk .junk .junk (lG pre [.int kd, .int tb,slA es.length (iE es) 5, .i (.isl (aF cs)), .i (.isl (Pn.aA ks))] post) (lE0 es)) hst
   (PP:=fun e S'=>e=.normal∧∃ v6 v38 v39 v40,S'=SRp b3 init.length pre.length ES v6 .junk (.bool true) v38 v39 v40 .junk .junk .junk (lG pre [.int kd, .int tb,slA es.length (iE es) 5, .i (.isl (aF cs)), .i (.isl (Pn.aA ks))] post) (lE es)) (by kernel_rfl) (by
   by_cases he:es=[]
   ·subst he;refine⟨.normal,SRp b3 init.length pre.length ES .junk .junk (.bool true) (.int 0) (.int 0) (.bool false) .junk .junk .junk (lG pre [.int kd, .int tb,slA 0 (iE []) 5, .i (.isl (aF cs)), .i (.isl (Pn.aA ks))] post) (lE []),?_,rfl,_,_,_,_,rfl⟩;simp[SRp,EV,zp,AD6,NC,aW,bG,slA,lE,lE0];rw[aG];simp[aW,bG]
   ·have hel:es.length≠0:=fun h=>he (zZ.1 h)
    refine⟨.normal,SRp b3 init.length pre.length ES (.int (es.length-1)) .junk (.bool true) (.int es.length) (.int es.length) (.bool false) .junk .junk .junk (lG pre [.int kd, .int tb,slA es.length (iE es) 5, .i (.isl (aF cs)), .i (.isl (Pn.aA ks))] post) (lE es),?_,rfl,_,_,_,_,rfl⟩;simp[SRp,EV,zp,AD6,NC,aW,bG,slA,lE,lE0,iE,he];rw[aV (XS b3 init.length ES pre post kd tb es (.i (.isl (aF cs))) (.i (.isl (Pn.aA ks))) (.bool true)) es.length (by simp[XS,SRp,EV,zp,tY])]
    ·rw[aG];have hend:=JD he;simp[hend,XS,SRp,EV,zp,AD6,NC,aW,bG,d9 hel]
    ·intro i hi;have h3:=zW hi;have hs:=y1 _ (zT h3);generalize es[i]=a at h3 hs;have hk:=AIO h3 hs;have hput:=JC h3;have w2:IntKind.i64.wrap ((i:Int)+1)=i+1:=wrO;by_cases hkk:a.kids=[]
     ·simp only[hkk,if_true,Ex.aB,Ex.aA]at hk hput;simp[XS,SRp,EV,zp,AD6,NC,aW,bG,hi,hk,w2,hput]
     ·simp only[hkk,if_false,tE]at hk;simp only[Ex.aB,Ex.aU]at hput
      simp[XS,SRp,EV,zp,AD6,NC,aW,bG,hi,hk,w2,hput]) g9) ?_)
  rintro _ a10 w10 ⟨e,S',rfl,⟨rfl,v6,v38,v39,v40,rfl⟩,g10⟩;clear g9
  have g10:=(g10.envTo (env':=aQ (SRp b3 init.length pre.length ES .junk .junk (.bool true) .junk .junk .junk .junk .junk .junk (lG pre [.int kd, .int tb,slA es.length (iE es) 5, .i (.isl (aF cs)), .i (.isl (Pn.aA ks))] post) (lE es)).env) (by
   intro t;simp only[SRp,EV,aQ];by_cases h6:t=6
   ·subst h6;simp
   by_cases h38:t=38
   ·subst h38;simp
   by_cases h39:t=39
   ·subst h39;simp
   by_cases h40:t=40
   ·subst h40;simp
   ·simp[h6,h38,h39,h40]))
  refine wp_seq (wp_mono (GR.gG lS (G:=GS 43) (S:=SRp b3 init.length pre.length ES .junk .junk (.bool true) .junk .junk .junk .junk .junk .junk (lG pre [.int kd, .int tb,slA es.length (iE es) 5, .i (.isl (aF cs)), .i (.isl (Pn.aA ks))] post) (lE es)) (e:=.normal) (S':=SRp b3 init.length pre.length ES .junk .junk (.bool true) .junk .junk .junk .junk .junk .junk (lG pre [.int kd, .int tb,slA es.length (iE es) 5,slA cs.length (iC es cs) 1, .i (.isl (Pn.aA ks))] post) (lC es cs)) hst (by kernel_rfl) (by
   by_cases he:es=[]<;>by_cases hc:cs=[]
   ·subst he;subst hc;simp[SRp,EV,zp,AJA,ZO,aW,bG,aF,ACT,slA,lE,lC]
   ·have hcl:cs.length≠0:=fun h=>hc (zZ.1 h)
    subst he;simp[SRp,EV,zp,AJA,ZO,aW,bG,XW hc t3,slA,lE,lC,iC,hc]
   ·have hel:es.length≠0:=fun h=>he (zZ.1 h)
    subst hc;simp[SRp,EV,zp,AJA,ZO,aW,bG,aF,ACT,slA,lE,lC,iE,he]
   ·have hel:es.length≠0:=fun h=>he (zZ.1 h)
    have hcl:cs.length≠0:=fun h=>hc (zZ.1 h)
    simp[SRp,EV,zp,AJA,ZO,aW,bG,XW hc t3,slA,lE,lC,iE,iC,he,hc]) g10) ?_)
  rintro _ a11 w11 ⟨rfl,g11⟩;clear g10
  refine wp_seq (wp_mono (GR.gG lS (G:=GS 43) (S:=SRp b3 init.length pre.length ES .junk .junk (.bool true) .junk .junk .junk .junk .junk .junk (lG pre [.int kd, .int tb,slA es.length (iE es) 5,slA cs.length (iC es cs) 1, .i (.isl (Pn.aA ks))] post) (lC es cs)) (e:=.normal) (S':=SRp b3 init.length pre.length ES .junk .junk (.bool true) .junk .junk .junk .junk .junk .junk (lG pre [.int kd, .int tb,slA es.length (iE es) 5,slA cs.length (iC es cs) 1,slA ks.length (iK es cs ks) 5] post) (lK es cs ks)) hst (by kernel_rfl) (by
   by_cases he:es=[]<;>by_cases hc:cs=[]<;>by_cases hk:ks=[]
   all_goals (try subst he)
   all_goals (try subst hc)
   all_goals (try subst hk)
   ·simp[SRp,EV,zp,QZ,KU,aW,bG,Pn.aA,QJ,slA,lE,lC,lK]
   ·simp[SRp,EV,zp,QZ,KU,aW,bG,JU hk t4,slA,lE,lC,lK,iK,hk]
   ·simp[SRp,EV,zp,QZ,KU,aW,bG,Pn.aA,QJ,slA,lE,lC,lK,iC,hc]
   ·simp[SRp,EV,zp,QZ,KU,aW,bG,JU hk t4,slA,lE,lC,lK,iC,iK,hc,hk]
   ·simp[SRp,EV,zp,QZ,KU,aW,bG,Pn.aA,QJ,slA,lE,lC,lK,iE,he]
   ·simp[SRp,EV,zp,QZ,KU,aW,bG,JU hk t4,slA,lE,lC,lK,iE,iK,he,hk]
   ·simp[SRp,EV,zp,QZ,KU,aW,bG,Pn.aA,QJ,slA,lE,lC,lK,iE,iC,he,hc]
   ·simp[SRp,EV,zp,QZ,KU,aW,bG,JU hk t4,slA,lE,lC,lK,iE,iC,iK,he,hc,hk]) g11) ?_)
  rintro _ a12 w12 ⟨rfl,g12⟩;clear g11
  obtain⟨F',H',us',b',cap,vE,vC,m2,hpm,hus,hone,hbn,g13⟩:=g12.AK6 (u:=5) (st':=aS [some (.box zp),some (.arr 1 ES)]) (env':=aQ (EV b3 (.osl 1 1 0 init.length) (.own 2 pre.length) .junk .junk (.bool true) .junk .junk .junk .junk .junk .junk)) (idE:=iE es) (idC:=iC es cs) (idK:=iK es cs ks) (oq:=pre.length) e1 e2 rfl e4 hq rfl
   (fun h=>by simp[SRp,iE,lE,lC,lK,h];split<;>split<;>simp[aS])
   (fun h=>by simp only[SRp,iC,lC,lK,h,if_false];cases hh:lE es with
    | nil=>split<;>simp[aS]
    | cons a l =>
     have:l=[]:=by unfold lE at hh;split at hh<;>simp_all
     subst this;split<;>simp[aS])
   (fun h=>by simp only[SRp,iK,lK,h,if_false];exact VL _ _ _ _)
   (by unfold iE iC iK lC lE;repeat' split<;>simp_all)
   (by
    intro i blk h
    rcases i with _|_|i
    ·simp[aS]at h;subst h;exact⟨by omega,rfl,by simp[eZ,zp]⟩
    ·simp[aS]at h;subst h;exact⟨by omega,rfl,hlit⟩
    ·simp[aS]at h)
   (by
    intro t;simp only[SRp,EV,aQ];by_cases h0:t=0
    ·subst h0;simp
    by_cases h2:t=2
    ·subst h2;exact .inr ⟨by simp, .inr (by simp[iB,aS])⟩
    by_cases h3:t=3
    ·subst h3;exact .inr ⟨by simp, .inr (by simp[iB,ptr])⟩
    by_cases h4:t=4
    ·subst h4;exact .inr ⟨by simp, .inr (by simp[iB,aS])⟩
    by_cases h5:t=5
    ·subst h5;exact .inr ⟨by simp, .inl (by simp)⟩
    by_cases h14:t=14
    ·subst h14;exact .inr ⟨by simp, .inr (by simp[iB])⟩
    simp[h0,h2,h3,h4,h5,h14])
  clear g12;rw[BI]at g13;have hbx:dO us'=lG pre [.i (.lit (.int .i64 kd)), .i (.lit (.int .i64 tb)), .i (.lit vE), .i (.lit vC), .i (.lit (if ks.length=0 then .slice none 0 0 else .slice (some ⟨b',0,none⟩) ks.length cap))] post:=by rw[hus];simp[lG,dO]
  rw[hbx]at g13;have hst':=ADP.YQ wi b3 p F' H' b us' w12 m2
  refine wp_mono (GR.AIL lS (G:=GS 43) (S:=SRp b3 init.length pre.length ES .junk .junk (.bool true) .junk .junk .junk .junk .junk .junk (lG pre [.i (.lit (.int .i64 kd)), .i (.lit (.int .i64 tb)), .i (.lit vE), .i (.lit vC), .i (.lit (if ks.length=0 then .slice none 0 0 else .slice (some ⟨b',0,none⟩) ks.length cap))] post) []) hst'
   (PP:=fun e S'=>e=.normal∧∃ v7 v76 v77 v78,S'={ env:=EV b3 (if ks.length=0 then .osl 1 1 0 init.length else .osl 3 1 0 (init.length+ks.length)) (.own 2 pre.length) .junk v7 (.bool true) .junk .junk .junk v76 v77 v78,st:=some (.box zp)::(if ks.length=0 then some (.arr 1 ES)else none)::some (.box (lG pre [.i (.lit (.int .i64 kd)), .i (.lit (.int .i64 tb)), .i (.lit vE), .i (.lit vC), .i (.lit (if ks.length=0 then .slice none 0 0 else .slice (some ⟨b',0,none⟩) ks.length cap))] post))::(if ks.length=0 then []else [some (.arr 1 (RWp init b' ks.length))]) }) (by kernel_rfl) (by
   by_cases h0:ks.length=0
   ·refine⟨.normal,{ env:=EV b3 (.osl 1 1 0 init.length) (.own 2 pre.length) .junk .junk (.bool true) .junk .junk .junk (.int 0) (.int 0) (.bool false),st:=some (.box zp)::some (.arr 1 ES)::some (.box (lG pre [.i (.lit (.int .i64 kd)), .i (.lit (.int .i64 tb)), .i (.lit vE), .i (.lit vC), .i (.lit (if ks.length=0 then .slice none 0 0 else .slice (some ⟨b',0,none⟩) ks.length cap))] post))::[] },?_,rfl, .junk, .int 0, .int 0, .bool false,by simp[h0]⟩;simp[SRp,EV,zp,QZ,aW,bG,h0];rw[aG];simp[aW,bG]
   ·refine⟨.normal,{ env:=EV b3 (.osl 3 1 0 (init.length+ks.length)) (.own 2 pre.length) .junk (.int (ks.length-1)) (.bool true) .junk .junk .junk (.int ks.length) (.int ks.length) (.bool false),st:=some (.box zp)::none::some (.box (lG pre [.i (.lit (.int .i64 kd)), .i (.lit (.int .i64 tb)), .i (.lit vE), .i (.lit vC), .i (.lit (if ks.length=0 then .slice none 0 0 else .slice (some ⟨b',0,none⟩) ks.length cap))] post))::[some (.arr 1 (RWp init b' ks.length))] },?_,rfl, .int (ks.length-1), .int ks.length, .int ks.length, .bool false,by simp[h0]⟩;simp only[h0,if_false];simp[SRp,EV,zp,QZ,aW,bG];rw[aV (YP b3 init.length pre.length ES init b' ks.length (lG pre [.i (.lit (.int .i64 kd)), .i (.lit (.int .i64 tb)), .i (.lit vE), .i (.lit vC), .i (.lit (if ks.length=0 then .slice none 0 0 else .slice (some ⟨b',0,none⟩) ks.length cap))] post)) ks.length (by simp[YP,EV,zp,h0])]
    ·rw[aG];simp[YP,EV,zp,QZ,aW,bG,h0,d9 h0]
    ·intro i hi;have w2:IntKind.i64.wrap ((i:Int)+1)=i+1:=wrO;by_cases hi0:i=0
     ·subst hi0;have hR:jN init++[[.lit (.pointer (some ⟨b',0,none⟩))]]=RWp init b' 1:=by simp[RWp,ptr]
      have hl:(init.length+1)*8≤140737488355328:=by omega
      simp[YP,EV,zp,QZ,aW,bG,h0,ACU,hi,htake,hR,hl,hESl]
     ·have hl:(init.length+i+1)*8≤140737488355328:=by omega
      have hT:(RWp init b' i).take (init.length+i)=RWp init b' i:=zX (by rw[YJ];omega);have hR:RWp init b' i++[[.lit (.pointer (some ⟨b',i*5,none⟩))]]=RWp init b' (i+1):=by simpa [ptr]using ABF init b' i
      simp[YP,EV,zp,QZ,aW,bG,h0,hi0,d9 hi0,w2,hi,hT,YJ,hl,hR,← Nat.add_assoc]) (g13.ok' fun id h=>by simp[SRp];omega)) ?_
  rintro _ a13 w13 ⟨e,S',rfl,⟨rfl,v7,v76,v77,v78,rfl⟩,g14⟩;clear g13;simp only[gK,Exit.then,Exit.inBlock]
  have hpm2:H'.Perm (init++kD b' 0 ks):=by
   have h1:(((b,pre.length),Pn.mk kd tb es cs ks)::H').Perm (((b,pre.length),Pn.mk kd tb es cs ks)::(init++kD b' 0 ks)):=by
    refine hpm.trans ((hperm.append_right _).trans ?_);rw[yY];exact List.perm_middle
   exact(List.perm_cons _).1 h1
  have hszx:(Pn.mk kd tb es cs ks).size=1+Pn.aL ks:=hxs
  have hall2:∀ q∈init++kD b' 0 ks,q.2.thin∧q.2.tiny:=by
   intro q hq'
   rcases zV.1 hq' with h|h
   ·exact hall q (by simp[h])
   ·have:=(LU q h).1;exact⟨t5 _ this,y2 _ this⟩
  have hsum2:((init++kD b' 0 ks).map fun k=>k.2.size).sum=n-1:=by
   rw[yF,List.sum_append,LQ];omega
  by_cases hk0:ks.length=0
  ·have hks:ks=[]:=zZ.1 hk0;subst hks;simp only[yI,if_true]at g14 hbx
   have g15:=g14.Q7 (st':=aS [some (.box zp),some (.arr 1 ES)]) (env':=aQ (EV b3 (.osl 1 1 0 init.length) .junk .junk .junk .junk .junk .junk .junk .junk .junk .junk)) (by rw[hbx];rfl) (by
    intro i blk h
    rcases i with _|_|i
    ·simp[aS]at h;subst h;exact⟨by omega,rfl,by simp[eZ,zp]⟩
    ·simp[aS]at h;subst h;exact⟨by omega,rfl,hlit⟩
    ·simp[aS]at h) (by
    intro t;simp only[EV,aQ];by_cases h0:t=0
    ·subst h0;simp
    by_cases h2:t=2
    ·subst h2;exact .inr ⟨by simp,by simp[iB,aS]⟩
    by_cases h3:t=3
    ·subst h3;exact .inr ⟨by simp,by simp[iB,ptr]⟩
    by_cases h4:t=4
    ·subst h4;exact .inr ⟨by simp,by simp[iB,aS]⟩
    simp[h0,h2,h3,h4])
   simp only[kD,zO]at hpm2 hall2 hsum2;refine⟨n-1,by omega,init,[((b,pre.length),Pn.mk kd tb es cs [])]++X,H',F',hpm2,hsum2,by omega,hall2,?_⟩;have hES2:jN (init++([((b,pre.length),Pn.mk kd tb es cs [])]++X))=ES:=by rw[← hES,yY]
   simp only[SLp,hES2]
   exact g15.ok' (by
    intro i h
    rcases i with _|_|i
    ·simp
    ·simp
    ·simp[aS]at h)
  ·simp only[hk0,if_false]at g14 hbx
   have g15:=g14.Q7 (st':=aS [some (.box zp),none,none,some (.arr 1 (RWp init b' ks.length))]) (env':=aQ [(2, .own 0 0),(3, .i (ptr (b3,0))),(4, .osl 3 1 0 (init.length+ks.length))]) (by rw[hbx];rfl) (by
    intro i blk h
    rcases i with _|_|_|_|i
    ·simp[aS]at h;subst h;exact⟨by omega,rfl,by simp[eZ,zp]⟩
    ·simp[aS]at h
    ·simp[aS]at h
    ·simp[aS]at h;subst h;exact⟨by omega,rfl,by
      intro c hc;rw[List.mem_flatten]at hc;obtain⟨r,hr1,hr2⟩:=hc;unfold RWp at hr1
      rcases zV.1 hr1 with h|h
      ·exact J6 init c (List.mem_flatten.2 ⟨r,h,hr2⟩)
      ·obtain⟨j,_,rfl⟩:=yD.1 h
       simp at hr2;subst hr2;exact⟨_,rfl⟩⟩
    ·simp[aS]at h) (by
    intro t;simp only[EV,aQ];by_cases h2:t=2
    ·subst h2;exact .inr ⟨by simp,by simp[iB,aS]⟩
    by_cases h3:t=3
    ·subst h3;exact .inr ⟨by simp,by simp[iB,ptr]⟩
    by_cases h4:t=4
    ·subst h4;exact .inr ⟨by simp,by simp[iB,aS]⟩
    simp[h2,h3,h4])
   have g16:=g15.settle (fun w m φ ids h=>RAW.keep ids h) [2,3,4]
   have hs:Av.settle [2,3,4] 0 (aQ [(2, .own 0 0),(3, .i (ptr (b3,0))),(4, .osl 3 1 0 (init.length+ks.length))]) (aS [some (.box zp),none,none,some (.arr 1 (RWp init b' ks.length))])={ env:=[(2, .own 0 0),(3, .i (ptr (b3,0))),(4, .osl 1 1 0 (init.length+ks.length))],st:=[some (.box zp),some (.arr 1 (RWp init b' ks.length))] }:=by
    simp[zp,ptr]
   rw[hs]at g16;refine⟨n-1,by omega,init++kD b' 0 ks,[],H',F',hpm2,hsum2,by omega,hall2,?_⟩
   have hR:jN (init++kD b' 0 ks++[])=RWp init b' ks.length:=by
    rw[zO];have:=H6 b' 0 ks;simp only[jN]at this;simp only[jN,RWp,yF,this,zL]
   have hl:(init++kD b' 0 ks).length=init.length+ks.length:=by rw[zM,LV]
   simp only[SLp,hR,hl]
   exact g16.envTo (by
    intro t;simp only[EV,aQ];by_cases h0:t=0
    ·subst h0;simp
    by_cases h2:t=2
    ·subst h2;simp
    by_cases h3:t=3
    ·subst h3;simp
    by_cases h4:t=4
    ·subst h4;simp
    ·simp[h0,h2,h3,h4])
theorem JR {p:Pn} (hsz:p.size<1000000000) (hth:p.thin) (hty:p.tiny) {wi:World} {mi:Mem} {φ:Pl} {vs:List Value} (hi:Inv wi mi φ (aS [])) (hr:RepL mi φ [.i (.iref p.cells)] vs) (h0:∀ id,φ id≠none→id<0) :
 Calls Try.prog 43 vs.toArray wi (dC wi mi φ (.i (.agg p.cells)) []):=by
 obtain rfl:φ=fun _=>none:=by
  funext id
  cases h:φ id with
  | none=>rfl
  | some p=>exact absurd (h0 id (by rw[h];simp)) (xJ _)
 exact(oN hsz hth hty hi hr).mono fun _ _ h=>h.tree
end Go.Proofs.Ytjdfjgmebalaaaa.G
namespace Go.Proofs.Ytjdfjgmebalaaaa
open Go Go.Av
theorem LB {g:FuncId} {q:List AV→StL→Option (AV×StL)} (h:C0.prim g=some q):(g=53∧q=AAV)∨(g=43∧q=AAU):=by
 have h:ADT g=some q:=h;unfold ADT at h;split at h
 ·injection h with h;exact .inl ⟨rfl,h.symm⟩
 ·injection h with h;exact .inr ⟨rfl,h.symm⟩
 ·cases h
theorem AKA:PrimOk C0:=by
 constructor
 ·intro g args st p h;unfold dB at h
  cases hq:C0.prim g with
  | none=>rw[hq]at h;cases h
  | some q =>
   rcases LB hq with ⟨rfl,rfl⟩|⟨rfl,rfl⟩
   ·exact⟨Try.f53,Try.func53,by decide,rfl⟩
   ·exact⟨Try.f43,Try.func43,by decide,rfl⟩
 ·intro g args stl r stl' h w m φ vs hi hr h0;unfold dB at h
  cases hq:C0.prim g with
  | none=>rw[hq]at h;cases h
  | some q =>
   rcases LB hq with ⟨rfl,rfl⟩|⟨rfl,rfl⟩
   ·rw[hq]at h;obtain⟨e,he,hres,hor⟩:=TR h;injection hres with h1 h2;subst h1;subst h2
    rcases hor with ⟨rfl,rfl⟩|⟨j,es,rfl,rfl,hes⟩
    ·exact wG he hi hr h0
    ·exact TS he hes hi hr h0
   ·rw[hq]at h;obtain⟨p,⟨k1,k2,k3⟩,rfl,rfl,hres⟩:=TQ h;injection hres with h1 h2;subst h1;subst h2;exact G.JR k1 k2 k3 hi hr h0
theorem eH:SoundOk C0:=jW (C:=C0) ft nt eqS mo AKA
end Go.Proofs.Ytjdfjgmebalaaaa
namespace Go.Av
theorem DY (P:Nat→Prop) [DecidablePred P]:∀ n:Nat,(∀ i,i<n→P i)∨∃ j,j<n∧(∀ i,i<j→P i)∧¬ P j
 | 0=>.inl fun i hi=>by omega
 | n+1=>by
  rcases DY P n with h|⟨j,h1,h2,h3⟩
  ·by_cases hn:P n
   ·exact .inl fun i hi=>by
     by_cases e:i=n
     ·subst e;exact hn
     ·exact h i (by omega)
   ·exact .inr ⟨n,by omega,h,hn⟩
  ·exact .inr ⟨j,by omega,h2,h3⟩
def dD (left:Int) (n:Nat):Int:=if(n:Int)≤left then left-n else -1
theorem BJ (l:List Ex) {i:Nat} {a:Ex} (h:l[i]?=some a):Ex.aL (l.take (i+1))=Ex.aL (l.take i)+a.size:=by
 induction l generalizing i with
 | nil=>simp at h
 | cons b l ih =>
  cases i with
  | zero=>simp at h;subst h;simp[Ex.aL]
  | succ i=>have:=ih (i:=i) (by simpa using h);simp only[yP,Ex.aL]at this ⊢;omega
theorem GA (l:List Ex) (i:Nat):Ex.aL (l.take i)≤Ex.aL l:=by
 induction l generalizing i with
 | nil=>simp[Ex.aL]
 | cons b l ih =>
  cases i with
  | zero=>simp[Ex.aL]
  | succ i=>simp only[yP,Ex.aL];have:=ih i;omega
theorem qD:∀ (l:List Ex) (i:Nat),i≤l.length→i≤Ex.aL (l.take i)
 | [],i,h=>by simp at h;subst h;simp
 | a::l,0,_=>by simp
 | a::l,i+1,h=>by
  have:=qD l i (by simpa using h);have:=Ex.jX a;simp only[yP,Ex.aL];omega
end Go.Av
namespace Go.Proofs.Ytjdfjgmebalaaaa
open Go Go.Av
set_option maxRecDepth 4000
set_option maxHeartbeats 1000000
theorem AH8 {e:Ex} {left:Int} (h:aH C0 17 [.i (.isl (Ex.aA e.kids)), .int left] []=some (.int (dD left (Ex.aL e.kids)),[])) :
 aH C0 44 [.i (.agg e.cells), .int left] []=some (.int (dD left (Ex.aL e.kids)),[]):=by
 rw[aI rfl Try.func44 rfl rfl,Ex.aB];simp[h];by_cases h0:dD left (Ex.aL e.kids)<0
 ·have:dD left (Ex.aL e.kids)=-1:=by unfold dD at h0 ⊢;split<;>rename_i hc<;>simp[hc]at h0 ⊢;omega
  simp[h0,this]
 ·simp[h0]
def szI (l:List Ex) (left:Int) (i:Nat):Int:=left-l.length-(Ex.aL (l.take i)-i)
def SZ (l:List Ex) (left:Int) (i:Nat):AS :=
 { env:=[(0, .i (.isl (Ex.aA l))),(1, .int (szI l left i)),(4, .int 0),(5, .int i),(11, .bool false),(15,jk i (.bool true)),(25,jk i (.bool false))],st:=[] }
theorem OZ {l:List Ex} {left:Int} (h0:0≤left) (h1:left<1000000000) (hl:l.length<9223372036854775808)
 (ih:∀ a∈l,∀ left:Int,0≤left→left<1000000000→aH C0 44 [.i (.agg a.cells), .int left] []=some (.int (dD left (Ex.aL a.kids)),[])) :
 aH C0 17 [.i (.isl (Ex.aA l)), .int left] []=some (.int (dD left (Ex.aL l)),[]):=by
 rw[aI rfl Try.func17 rfl rfl];have w1:IntKind.i64.wrap (left-l.length)=left-l.length:=wrO;have hsl:=Ex.dJ l;by_cases hc:left-l.length<0
 ·have:¬ ((Ex.aL l:Nat):Int)≤left:=by omega
  simp[w1,hc,dD,this]
 simp[w1,hc]
 have hpre:∀ i,i<l.length→∃ a,l[i]?=some a∧a∈l∧Ex.aL (l.take (i+1))=Ex.aL (l.take i)+(1+Ex.aL a.kids)∧gB (Ex.aA l) i=some a.cells:=by
  intro i hi;have h3:=zW hi;refine⟨_,h3,zT h3,?_,Ex.aP h3⟩;rw[BJ l h3,Ex.size_eq]
 have hround:∀ i,i<l.length→0≤szI l left i→∃ a:Ex,gB (Ex.aA l) i=some a.cells∧aH C0 44 [.i (.agg a.cells), .int (szI l left i)] []=some (.int (if 0≤szI l left (i+1)then szI l left (i+1)else -1),[]):=by
  intro i hi hs;obtain⟨a,h3,hm,hz,hn⟩:=hpre i hi;have hti:=qD l i (by omega);refine⟨a,hn,?_⟩;rw[ih a hm _ hs (by unfold szI;omega)];congr 2;unfold dD;congr 1;by_cases hle:((Ex.aL a.kids:Nat):Int)≤szI l left i
  ·rw[if_pos hle,if_pos (by unfold szI at hle ⊢;omega)];unfold szI;omega
  ·rw[if_neg hle,if_neg (by unfold szI at hle ⊢;omega)]
 rcases DY (fun i=>0≤szI l left (i+1)) l.length with hall|⟨j,hj,hlt,hbad⟩
 ·rw[aV (SZ l left) l.length (by simp[SZ,szI,Ex.aL])]
  ·rw[aG]
   have hfin:dD left (Ex.aL l)=szI l left l.length:=by
    have hT:l.take l.length=l:=zX (by simp)
    have hge:0≤szI l left l.length:=by
     cases hn:l.length with
     | zero=>unfold szI;rw[hn];simp[Ex.aL];omega
     | succ n=>exact hn ▸ hall n (by omega)
    unfold dD;unfold szI at hge ⊢;rw[hT]at hge ⊢;rw[if_pos (by omega)];omega
   rw[hfin];simp[SZ]
  ·intro i hi
   have hs:0≤szI l left i:=by
    cases i with
    | zero=>unfold szI;simp[Ex.aL];omega
    | succ i=>exact hall i (by omega)
   obtain⟨a,hn,hc⟩:=hround i hi hs;have hs1:=hall i hi;have hs1:0≤szI l left (i+1):=hs1;rw[if_pos hs1]at hc;have w2:IntKind.i64.wrap ((i:Int)+1)=i+1:=wrO;rw[Ex.aB]at hn hc;simp[SZ,hi,hn,hc,w2,show ¬ szI l left (i+1)<0 by omega]
 ·have hsl2:dD left (Ex.aL l)=-1:=by
   have hm:=GA l (j+1);have hbad:¬ 0≤szI l left (j+1):=hbad;obtain⟨a,h3,_,_,_⟩:=hpre j hj
   have hrest:Ex.aL (l.take (j+1))+(l.length-(j+1))≤Ex.aL l:=by
    have e1:Ex.aL l=Ex.aL (l.take (j+1))+Ex.aL (l.drop (j+1)):=by
     have key:∀ (n:Nat) (l:List Ex),Ex.aL l=Ex.aL (l.take n)+Ex.aL (l.drop n):=by
      intro n
      induction n with
      | zero=>intro l;simp[Ex.aL]
      | succ n ih=>intro l;cases l with
       | nil=>simp[Ex.aL]
       | cons b l=>simp only[yP,zA7,Ex.aL];have:=ih l;omega
     exact key _ _
    have e2:=Ex.dJ (l.drop (j+1));simp at e2;omega
   unfold dD;unfold szI at hbad;rw[if_neg (by omega)]
  rw[hsl2,aV (SZ l left) j (by simp[SZ,szI,Ex.aL])]
  ·rw[aG]
   have hs:0≤szI l left j:=by
    cases j with
    | zero=>unfold szI;simp[Ex.aL];omega
    | succ j=>exact hlt j (by omega)
   obtain⟨a,hn,hc⟩:=hround j hj hs;have hbad:¬ 0≤szI l left (j+1):=hbad;rw[if_neg hbad]at hc;rw[Ex.aB]at hn hc;simp[SZ,hj,hn,hc]
  ·intro i hi
   have hs:0≤szI l left i:=by
    cases i with
    | zero=>unfold szI;simp[Ex.aL];omega
    | succ i=>exact hlt i (by omega)
   obtain⟨a,hn,hc⟩:=hround i (by omega) hs;have hs1:0≤szI l left (i+1):=hlt i hi;rw[if_pos hs1]at hc;have w2:IntKind.i64.wrap ((i:Int)+1)=i+1:=wrO;rw[Ex.aB]at hn hc;simp[SZ,show i<l.length by omega,hn,hc,w2,show ¬ szI l left (i+1)<0 by omega]
set_option maxHeartbeats 2000000
theorem AK4:∀ (e:Ex),e.fat→∀ left:Int,0≤left→left<1000000000→aH C0 44 [.i (.agg e.cells), .int left] []=some (.int (dD left (Ex.aL e.kids)),[]):=by
 intro e
 induction e using Ex.ind with
 | h k c v ks ih =>
  intro hf left h0 h1;have hf':=(Ex.nA _).1 hf;exact AH8 (OZ h0 h1 hf'.1 fun a ha=>ih a ha (hf'.2 a ha))
theorem AH6 (l:List Ex) (hl:l.length<9223372036854775808) (hf:∀ a∈l,a.fat) (left:Int) (h0:0≤left) (h1:left<1000000000):aH C0 17 [.i (.isl (Ex.aA l)), .int left] []=some (.int (dD left (Ex.aL l)),[]) :=
 OZ h0 h1 hl fun a ha=>AK4 a (hf a ha)
theorem AAP (v:Val):aH C0 69 [.i (.agg [.bool v.null, .int v.n]), .i (.agg [.bool v.null, .int v.n])] []=some (.bool true,[]):=by
 rw[aI rfl Try.func69 rfl rfl];simp
theorem AIJ {e:Ex} (h:aH C0 29 [.i (.isl (Ex.aA e.kids)), .i (.isl (Ex.aA e.kids))] []=some (.bool true,[])):aH C0 56 [.i (.agg e.cells), .i (.agg e.cells)] []=some (.bool true,[]):=by
 rw[aI rfl Try.func56 rfl rfl,Ex.aB];have hv:=AAP e.val;simp[hv,h]
def EQ (l:List Ex) (i:Nat):AS :=
 { env:=[(0, .i (.isl (Ex.aA l))),(1, .i (.isl (Ex.aA l))),(4, .bool false),(5, .int i),(10, .bool false),(14,jk i (.bool true)),(26,jk i (.bool false))],st:=[] }
theorem ACN {l:List Ex} (hl:l.length<9223372036854775808) (ih:∀ a∈l,aH C0 56 [.i (.agg a.cells), .i (.agg a.cells)] []=some (.bool true,[])):aH C0 29 [.i (.isl (Ex.aA l)), .i (.isl (Ex.aA l))] []=some (.bool true,[]):=by
 rw[aI rfl Try.func29 rfl rfl];simp;rw[aV (EQ l) l.length (by simp[EQ])]
 ·rw[aG];simp[EQ]
 ·intro i hi;have h3:=zW hi;have hc:=ih _ (zT h3);have r2:=Ex.aP h3;generalize l[i]=a at h3 hc r2;have w2:IntKind.i64.wrap ((i:Int)+1)=i+1:=wrO;rw[Ex.aB]at hc r2;simp[EQ,hi,r2,hc,w2]
theorem AAR:∀ (e:Ex),e.fat→aH C0 56 [.i (.agg e.cells), .i (.agg e.cells)] []=some (.bool true,[]):=by
 intro e
 induction e using Ex.ind with
 | h k c v ks ih =>
  intro hf;have hf':=(Ex.nA _).1 hf;exact AIJ (ACN hf'.1 fun a ha=>ih a ha (hf'.2 a ha))
theorem AAQ (l:List Ex) (hl:l.length<9223372036854775808) (hf:∀ a∈l,a.fat):aH C0 29 [.i (.isl (Ex.aA l)), .i (.isl (Ex.aA l))] []=some (.bool true,[]):=ACN hl fun a ha=>AAR a (hf a ha)
def HD (l:List Ex) (k:Int) (i:Nat):AS :=
 { env:=[(0, .i (.isl (Ex.aA (Ex.iW k l)))),(1, .int (k+4*(Ex.aL (l.take i):Nat))),(4, .int 0),(5, .int i),(9,jk i (.bool true)),(18,jk i (.bool false)),(27,jk i (.bool false)),(39,jk i (.bool false)),(49,jk i (.bool false)),(60,jk i (.bool false))],st:=[] }
theorem SY {l:List Ex} {k:Int} (hk:0≤k) (hb:k+4*(Ex.aL l:Nat)<1000000000000) (ih:∀ a∈l,∀ k:Int,0≤k→k+4*(Ex.aL a.kids:Nat)<1000000000000→aH C0 33 [.i (.isl (Ex.aA (Ex.iW k a.kids))), .int k] []=some (.int (k+4*(Ex.aL a.kids:Nat)),[])) :
 aH C0 33 [.i (.isl (Ex.aA (Ex.iW k l))), .int k] []=some (.int (k+4*(Ex.aL l:Nat)),[]):=by
 rw[aI rfl Try.func33 rfl rfl];have hlen:=Ex.vX l k;have hsl:=Ex.dJ l;simp;rw[aV (HD l k) l.length (by simp[HD,Ex.aL])]
 ·rw[aG];have hT:l.take l.length=l:=zX (by simp);simp[HD,hlen,hT]
 ·intro i hi;have h3:=zW hi;have r2:=Ex.aP (Ex.LK l k h3);have hz:=BJ l h3;have hmono:=GA l (i+1);have hm:=zT h3;rw[Ex.size_eq]at hz;generalize hq:k+4*((Ex.aL (l.take i):Nat):Int)=q at r2;have hc:=ih _ hm (q+1+1+1+1) (by omega) (by omega);generalize l[i]=a at h3 r2 hc hz;rw[Ex.CK]at r2;have w2:IntKind.i64.wrap ((i:Int)+1)=i+1:=wrO;have w3:IntKind.i64.wrap (q+1)=q+1:=wrO;have w4:IntKind.i64.wrap (q+1+1)=q+1+1:=wrO;have w5:IntKind.i64.wrap (q+1+1+1)=q+1+1+1:=wrO;have w6:IntKind.i64.wrap (q+1+1+1+1)=q+1+1+1+1:=wrO;have hn:k+4*((Ex.aL (l.take (i+1)):Nat):Int)=q+1+1+1+1+4*(Ex.aL a.kids:Nat):=by rw[hz];push_cast;omega
  have hneg:¬ q+1+1+1+1+4*((Ex.aL a.kids:Nat):Int)<0:=by omega
  simp[HD,hlen,hi,r2,hc,hq,hn,w2,w3,w4,w5,w6,hneg]
theorem AAE:∀ (e:Ex) (k:Int),0≤k→k+4*(Ex.aL e.kids:Nat)<1000000000000→aH C0 33 [.i (.isl (Ex.aA (Ex.iW k e.kids))), .int k] []=some (.int (k+4*(Ex.aL e.kids:Nat)),[]):=by
 intro e
 induction e using Ex.ind with
 | h k c v ks ih =>
  intro k hk hb;exact SY hk hb ih
end Go.Proofs.Ytjdfjgmebalaaaa

/- Part 3 of what the proof rests on: the executor and what it is worth, and the program's functions as it runs them. No condition. -/
import Derived.Test.YtnmimmaahhlgeaaGreatT2
import Derived.Test.YtnmimmaahhlgeaaGreatProg
import Derived.KernelRfl
set_option linter.unusedVariables false
set_option linter.unusedSimpArgs false
namespace Go.Av
structure RAW (wi:World) (root:Nat) (p:Pn) (F:List Nat) (H:PL) (w:World) (m:Mem) (φ:Pl):Prop where
 th:TH w m p root 0 F H
 nr:root ∉ F
 nd:F.Nodup
 all:∀ f∈root::F,wi.heap.size≤f∧f<w.heap.size∧lV φ f∧(∀ o,m f o=none)∧∃ (vs:List Value) (T:TypeId),w.heap[f]?=some (.cells vs.toArray T (0,0))∧∀ v∈vs,v.oneCell'=true
theorem l8 {w w':World} {f:Nat} (h:w'.heap[f]?=w.heap[f]?) (j:Nat):w'.cell? ⟨f,j,none⟩=w.cell? ⟨f,j,none⟩:=cell_of_heap h
theorem RAW.pM (wi:World) (root:Nat) (p:Pn) (F:List Nat) (H:PL):AH1 (RAW wi root p F H):=by
 intro w m φ w' m' φ' ha h;have hs:∀ f∈root::F,w'.heap[f]?=w.heap[f]?:=fun f hf=>ha.block f (h.all f hf).2.1 (h.all f hf).2.2.1
 refine⟨h.th.frame ha.mle (fun j _ _=>l8 (hs root (by simp)) j) (fun f hf j=>l8 (hs f (by simp[hf])) j),h.nr,h.nd,fun f hf=>?_⟩;obtain⟨k1,k2,k3,k4,vs,T,k5,k6⟩:=h.all f hf;exact⟨k1,yV k2 ha.size,ha.range k2 k3,fun o=>(ha.mnew f k2 k3 o).trans (k4 o),vs,T,by rw[hs f hf];exact k5,k6⟩
structure ADP (wi:World) (root:Nat) (p:Pn) (F:List Nat) (H:PL) (bq:Nat) (us:List Value) (wa:World) (ma:Mem) (w:World) (m:Mem) (φ:Pl):Prop where
 th:TH wa ma p root 0 F H
 nr:root ∉ F
 nd:F.Nodup
 le:MLe ma m
 inF:bq∈root::F
 own:∃ n,φ 2=some (bq,n)
 row:∃ T,wa.heap[bq]?=some (.cells us.toArray T (0,0))
 bqn:wi.heap.size≤bq
 oth:∀ f∈root::F,f≠bq→wi.heap.size≤f∧f<w.heap.size∧lV φ f∧(∀ o,m f o=none)∧w.heap[f]?=wa.heap[f]?∧∃ (vs:List Value) (T:TypeId),wa.heap[f]?=some (.cells vs.toArray T (0,0))∧∀ v∈vs,v.oneCell'=true
theorem ADP.pM (wi:World) (root:Nat) (p:Pn) (F:List Nat) (H:PL) (bq:Nat) (us:List Value) (wa:World) (ma:Mem):AH1 (ADP wi root p F H bq us wa ma):=by
 intro w m φ w' m' φ' ha h;refine⟨h.th,h.nr,h.nd,h.le.trans ha.mle,h.inF,?_,h.row,h.bqn,fun f hf hne=>?_⟩
 ·obtain⟨n,e⟩:=h.own;obtain⟨n',e',_⟩:=ha.ple _ _ _ e;exact⟨n',e'⟩
 ·obtain⟨k1,k2,k3,k4,k5,k6⟩:=h.oth f hf hne;exact⟨k1,yV k2 ha.size,ha.range k2 k3,fun o=>(ha.mnew f k2 k3 o).trans (k4 o),(ha.block f k2 k3).trans k5,k6⟩
theorem RF {us:List Value} {o:Nat} {v0 v1 v2 v3 v4:Value} (h0:us[o]?=some v0) (h1:us[o+1]?=some v1) (h2:us[o+2]?=some v2) (h3:us[o+3]?=some v3) (h4:us[o+4]?=some v4):us=us.take o++([v0,v1,v2,v3,v4]++us.drop (o+5)):=by
 have g:∀ {o:Nat} {v:Value},us[o]?=some v→us.drop o=v::us.drop (o+1):=by
  intro o v h;obtain⟨hl,rfl⟩:=zY.1 h;exact y8 hl
 have:us.drop o=[v0,v1,v2,v3,v4]++us.drop (o+5):=by rw[g h0,g h1,g h2,g h3,g h4];rfl
 rw[← this,zA]
mutual
theorem TH.hole {w:World} {m:Mem} {x:Pn} {b o:Nat} {F:List Nat} {H:PL}:TH w m x b o F H→∀ q∈H,∃ v0 v1 v2 v3 v4,ICells m q.2.cells [v0,v1,v2,v3,v4]∧At5 w q.1.1 q.1.2 v0 v1 v2 v3 v4
 | .fresh h1 h2,q,hq=>by simp at hq;subst hq;exact⟨_,_,_,_,_,h1,h2⟩
 | .leaf _ _ _ _,q,hq=>by simp at hq
 | .node _ _ _ _ _ h6,q,hq=>THL.hole h6 q hq
theorem THL.hole {w:World} {m:Mem} {xs:List Pn} {b o:Nat} {F:List Nat} {H:PL}:THL w m xs b o F H→∀ q∈H,∃ v0 v1 v2 v3 v4,ICells m q.2.cells [v0,v1,v2,v3,v4]∧At5 w q.1.1 q.1.2 v0 v1 v2 v3 v4
 | .nil _ _,q,hq=>by simp at hq
 | .cons h1 h2,q,hq=>by
  rcases zT.1 hq with h|h
  ·exact TH.hole h1 q h
  ·exact THL.hole h2 q h
end
theorem ACI {m:Mem} {φ:Pl}:∀ {cs:List IV} {vs:List Value},ICells m cs vs→RepC m φ (lZ cs) vs
 | [],_, .nil=>.nil
 | c::cs,_, .cons a o b=>.cons (.i a) o (ACI b)
section
variable {wi:World} {mi:Mem} {nt:Nat}
def mO (pre:List Value) (row:List AV) (post:List Value):List AV:=dW pre++(row++dW post)
theorem GR.adopt {ok:Nat→Prop} {root:Nat} {p:Pn} {F:List Nat} {H:PL} {env:Nat→AV} {st:Store} {a:Act} {w:World} {u bq oq:Nat} {y:Pn} (h:GR wi mi nt ok (RAW wi root p F H) env st a w) (hst:st 2=none) (hok:¬ ok 2) (hq:((bq,oq),y)∈H) (hu:env u=.i (.lit (.pointer (some ⟨bq,oq,none⟩)))) :
 ∃ pre post us ma,us.take oq=pre∧us.drop (oq+5)=post∧pre.length=oq∧us.length=oq+5+post.length∧(∀ v∈us,v.oneCell'=true) ∧
   GR wi mi nt (fun id=>ok id∨id=2) (ADP wi root p F H bq us w ma) (upd env u (.own 2 oq)) (upd st 2 (some (.box (mO pre (lZ y.cells) post)))) a w:=by
 obtain⟨⟨m,φ,hi,henv,hadv,hk,hr⟩,h6,h7⟩:=h;obtain⟨v0,v1,v2,v3,v4,hc,h5⟩:=hr.th.hole _ hq;simp only at hc h5
 have hinF:bq∈root::F:=by
  rcases hr.th.holes _ hq with e|e
  ·simp at e;simp[e]
  ·simp at e;simp[e]
 obtain⟨k1,k2,k3,k4,us,T,k5,k6⟩:=hr.all bq hinF;have gc:∀ {o:Nat} {v:Value},w.cell? ⟨bq,o,none⟩=some v→us[o]?=some v:=fun h=>by rwa [bR k5]at h
 have hrow:=RF (gc h5.c0) (gc h5.c1) (gc h5.c2) (gc h5.c3) (gc h5.c4);have hl4:=(zY.1 (gc h5.c4)).1;refine⟨us.take oq,us.drop (oq+5),us,m,rfl,rfl,by rw[yE];omega,by rw[zG1];omega,k6,?_⟩
 have hφ2:φ 2=none:=by
  cases e:φ 2 with
  | none=>rfl
  | some q=>exact absurd (hk 2 (by rw[e];simp)) hok
 have hrep:RepC m (upd φ 2 (some (bq,one bq us.length))) (mO (us.take oq) (lZ y.cells) (us.drop (oq+5))) us:=by
  have h1:=rQ (m:=m) (φ:=upd φ 2 (some (bq,one bq us.length))) (vs:=us.take oq) fun v hv=>k6 v (zH hv)
  have h2:=rQ (m:=m) (φ:=upd φ 2 (some (bq,one bq us.length))) (vs:=us.drop (oq+5)) fun v hv=>k6 v (yK hv)
  have h3:=KE h1 (KE (ACI hc) h2);rw[← hrow]at h3;exact h3
 have hp:PLe φ (upd φ 2 (some (bq,one bq us.length))):=fun i r n e=>by
  refine⟨n,?_,rfl,fun _ h=>h⟩;have:i≠2:=fun h=>by rw[h,hφ2]at e;cases e
  simp[upd,this,e]
 refine⟨⟨m,upd φ 2 (some (bq,one bq us.length)),hi.adopt hst hφ2 k3 k4 k5 hrep,fun t=>?_,hadv.adopt k1,fun id hid=>?_,?_⟩,h6,h7⟩
 ·by_cases ht:t=u
  ·subst ht;have:=henv t;rw[hu]at this;simp only[upd,if_true];rw[this.dG];exact .own (n:=one bq us.length) (by simp[upd])
  ·simp only[upd,ht,if_false];exact(henv t).mono (.refl _) hp
 ·by_cases e:id=2
  ·exact .inr e
  ·simp[upd,e]at hid;exact .inl (hk id hid)
 ·refine⟨hr.th,hr.nr,hr.nd, .refl _,hinF,⟨one bq us.length,by simp[upd]⟩,⟨T,k5⟩,k1,fun f hf hne=>?_⟩;obtain⟨q1,q2,q3,q4,q5⟩:=hr.all f hf;refine⟨q1,q2,fun i r n e ho=>?_,q4,rfl,q5⟩;by_cases e2:i=2
  ·subst e2;simp[upd]at e;obtain⟨rfl,rfl⟩:=e;exact hne ho
  ·simp[upd,e2]at e;exact q3 i r n e ho
def slA (n id k:Nat):AV:=if n=0 then .nils else .osl id k 0 n
def nY (b:Nat):Nat→List Pn→PL
 | _,[]=>[]
 | o,x::l=>((b,o),x)::nY b (o+5) l
theorem Inv.AYJ {w:World} {m:Mem} {φ:Pl} {st:Store} {id b:Nat} {n:Ext} {blk blk':Blk} (hi:Inv w m φ st) (h:st id=some blk) (e:φ id=some (b,n)) (hb:BlkOk w m φ b n blk'):Inv w m φ (upd st id (some blk')):=by
 refine⟨hi.mem,?_,?_,hi.low⟩
 ·intro i bl hbl;by_cases hid:i=id
  ·subst hid;simp[upd]at hbl;subst hbl;exact⟨b,n,e,(eQ hi e h).1,hb⟩
  ·simp[upd,hid]at hbl;exact hi.live i bl hbl
 ·intro i j r r' n1 n2 b1 b2 f e1 e2 p1 p2 o1 o2
  have g:∀ i b1,upd st id (some blk') i=some b1→∃ b2,st i=some b2:=fun i b1 h1=>by
   by_cases hid:i=id
   ·subst hid;exact⟨blk,h⟩
   ·simp[upd,hid]at h1;exact⟨b1,h1⟩
  obtain⟨x1,y1⟩:=g i b1 e1;obtain⟨x2,y2⟩:=g j b2 e2;exact hi.inj i j r r' n1 n2 x1 x2 f y1 y2 p1 p2 o1 o2
theorem AI7 {w:World} {m:Mem} {φ:Pl} {st:Store} {n id k:Nat} {v:Value} {es:List (List IV)} (hn:es.length=n) (hi:Inv w m φ st) (hr:Rep m φ (slA n id k) v) (hst:n≠0→st id=some (.arr k es)) :
 ∃ m1,IRep m1 (.isl es) v∧Inv w m1 φ (if n=0 then st else upd st id (some (.frz k es)))∧Adv w m φ w m1 φ:=by
 unfold slA at hr;by_cases h0:n=0
 ·simp only[h0,if_true]at hr ⊢;have:es=[]:=zW.1 (by omega);subst this
  cases hr
  exact⟨m, .isl0 _ _ (fun _=>rfl),hi, .refl _ _ _⟩
 ·simp only[h0,if_false]at hr ⊢;have hid:=hst h0
  have hfr:tJ st (.osl id k 0 n)=some (.isl es,upd st id (some (.frz k es))):=by
   simp[tJ,frz,BO,AB,hid,tst,window,bnd,jX,zZ,hn]
  exact kZ hi hr hfr
theorem PS {w:World} {m:Mem} {b:Nat}:∀ {ks:List Pn} {o:Nat} {vs:List Value},ICells m (Pn.aB ks).flatten vs→(∀ j v,vs[j]?=some v→w.cell? ⟨b,o+j,none⟩=some v)→THL w m ks b o [] (nY b o ks)
 | [],o,_,_,_=>.nil b o
 | k::ks,o,vs,h,hw=>by
  simp only[Pn.aB,yZ]at h;have h1:=h.take 5;have h2:=h.drop 5;rw[List.take_left' (Pn.eP k)]at h1;rw[List.drop_left' (Pn.eP k)]at h2;have hl:=h1.length;rw[Pn.eP]at hl;have hlen:5≤vs.length:=by rw[yE]at hl;omega
  have hf:THL w m (k::ks) b o ([]++[]) ([((b,o),k)]++nY b (o+5) ks):=by
   refine .cons ?_ (PS h2 fun j v hj=>?_)
   ·have e:vs.take 5=[vs[0],vs[1],vs[2],vs[3],vs[4]]:=by
     apply List.ext_getElem (by simp;omega);intro i l1 l2;simp at l1 l2
     rcases i with _|_|_|_|_|i
     ·simp
     ·simp
     ·simp
     ·simp
     ·simp
     ·omega
    rw[e]at h1;exact .fresh h1 ⟨hw 0 _ (by simp),hw 1 _ (by simp),hw 2 _ (by simp),hw 3 _ (by simp),hw 4 _ (by simp)⟩
   ·rw[yN]at hj;have:=hw (5+j) v hj
    rwa [← y7]at this
  exact hf
theorem GR.Ac3 {ok:Nat→Prop} {root:Nat} {p:Pn} {F:List Nat} {H:PL} {env env':Nat→AV} {st st':Store} {a:Act} {w wa:World} {ma:Mem} {u bq oq idE idC idK:Nat} {pre post us:List Value} {k t:Int} {es:List Ex} {cs:List Int} {ks:List Pn}
 (h:GR wi mi nt ok (ADP wi root p F H bq us wa ma) env st a w) (h1:us.take oq=pre) (h2:us.drop (oq+5)=post) (h3:pre.length=oq) (h4:us.length=oq+5+post.length)
 (hq:((bq,oq),Pn.mk k t es cs ks)∈H) (hbox:st 2=some (.box (mO pre [.int k, .int t,slA es.length idE 5,slA cs.length idC 1,slA ks.length idK 5] post)))
 (hE:es.length≠0→st idE=some (.arr 5 (Ex.aB es))) (hC:cs.length≠0→st idC=some (.arr 1 (aH cs))) (hK:ks.length≠0→st idK=some (.arr 5 (Pn.aB ks)))
 (hd:2<idE∧2<idC∧2<idK∧idE≠idC∧idE≠idK∧idC≠idK)
 (hst:∀ i blk,st' i=some blk→i<2∧st i=some blk∧lD blk) (he:∀ t,env' t=.junk∨(env' t=env t∧(env t=.own 2 oq∨o7 st' (env t)))) :
 ∃ F' H' us' b' cap vE vC m2,(((bq,oq),Pn.mk k t es cs ks)::H').Perm (H++nY b' 0 ks)∧us'=pre++([.int .i64 k, .int .i64 t,vE,vC,if ks.length=0 then .slice none 0 0 else .slice (some ⟨b',0,none⟩) ks.length cap]++post)∧(∀ v∈us',v.oneCell'=true)∧(∀ q∈H,q.1.1≠b') ∧
   GR wi mi nt (fun id=>id≤2) (ADP wi root p F' H' bq us' w m2) env' (upd st' 2 (some (.box (dW us')))) a w:=by
 obtain⟨⟨m,φ,hi,henv,hadv,hk,hr⟩,h6,h7⟩:=h;obtain⟨n2,e2⟩:=hr.own;obtain⟨hb2,hok2⟩:=eQ hi e2 hbox;obtain⟨d1,d2,d3,d4,d5,d6⟩:=hd
 cases hok2 with
 | @box T _ vs hh hl hrc hm =>
  have hone:=hrc.one;obtain⟨vp,x,rfl,r1,r2⟩:=oN hrc;obtain⟨vr,vq,rfl,r3,r4⟩:=oN r2;obtain rfl:=(sW r1).symm;obtain rfl:=(sW r4).symm
  cases r3 with
  | cons a0 o0 r3 =>
  cases r3 with
  | cons a1 o1 r3 =>
  cases r3 with
  | @cons _ vE _ _ aE oE r3 =>
  cases r3 with
  | @cons _ vC _ _ aC oC r3 =>
  cases r3 with
  | @cons _ vK _ _ aK oK r3 =>
  cases r3
  obtain rfl:=a0.dG;obtain rfl:=a1.dG;obtain⟨m1,f1,i1,g1⟩:=AI7 (es:=Ex.aB es) (by simp) hi aE hE
  have s1:∀ i,i≠idE→(if es.length=0 then st else upd st idE (some (.frz 5 (Ex.aB es)))) i=st i:=fun i hne=>by
   split
   ·rfl
   ·simp[upd,hne]
  generalize (if es.length=0 then st else upd st idE (some (.frz 5 (Ex.aB es))))=st1 at i1 s1;obtain⟨m2,f2,i2,g2⟩:=AI7 (es:=aH cs) (by simp) i1 (aC.mono g1.mle (.refl _)) (fun h0=>by rw[s1 _ (by omega)];exact hC h0)
  have s2:∀ i,i≠idE→i≠idC→(if cs.length=0 then st1 else upd st1 idC (some (.frz 1 (aH cs)))) i=st i:=fun i hne hne2=>by
   split
   ·exact s1 i hne
   ·simp[upd,hne2,s1 i hne]
  generalize (if cs.length=0 then st1 else upd st1 idC (some (.frz 1 (aH cs))))=st2 at i2 s2;have hA:=(hadv.trans g1).trans g2
  have hm2:∀ o,m2 bq o=none:=by
   have hb:=s2 2 (by omega) (by omega);rw[hbox]at hb;obtain⟨_,hok⟩:=eQ i2 e2 hb
   cases hok with|box _ _ _ q=>exact q
  have hlit:BlkOk w m2 φ bq n2 (.box (dW (pre++([.int .i64 k, .int .i64 t,vE,vC,vK]++post)))):=.box hh hl (rQ hone) hm2;have i3:=i2.AYJ (by rw[s2 2 (by omega) (by omega)];exact hbox) e2 hlit;generalize hus:pre++([.int .i64 k, .int .i64 t,vE,vC,vK]++post)=us' at hh hl hone hlit i3
  have hst2:∀ i blk,upd st' 2 (some (.box (dW us'))) i=some blk→upd st2 2 (some (.box (dW us'))) i=some blk∧lD blk:=by
   intro i blk hb;by_cases hid:i=2
   ·subst hid;simp[upd]at hb ⊢;refine⟨hb,?_⟩;subst hb;intro c hc;obtain⟨v,_,rfl⟩:=zG.1 hc;exact .inl ⟨v,rfl⟩
   ·simp[upd,hid]at hb ⊢;obtain⟨q1,q2,q3⟩:=hst i blk hb;exact⟨by rw[s2 i (by omega) (by omega)];exact q2,q3⟩
  have i4:=i3.cut hst2
  have hat:At5 w bq oq (.int .i64 k) (.int .i64 t) vE vC vK:=by
   have g:∀ (j:Nat) (v:Value),[Value.int .i64 k, .int .i64 t,vE,vC,vK][j]?=some v→w.cell? ⟨bq,oq+j,none⟩=some v:=by
    intro j v hj;have hj5:=(zY.1 hj).1;rw[bR hh,← hus,zN (by omega),h3,xM,zM hj5];exact hj
   exact⟨g 0 _ rfl,g 1 _ rfl,g 2 _ rfl,g 3 _ rfl,g 4 _ rfl⟩
  have hHlt:∀ q∈H,q.1.1∈root::F:=fun q hq=>by
   rcases hr.th.holes q hq with e|e
   ·simp[e]
   ·simp[e]
  have hlt:∀ f∈root::F,f<w.heap.size:=fun f hf=>by
   by_cases hne:f=bq
   ·subst hne;exact(z8.1 hh).1
   ·exact(hr.oth f hf hne).2.1
  have hmon:=hr.le.trans (g1.mle.trans g2.mle);have fE:IRep m2 (.isl (Ex.aB es)) vE:=f1.mono g2.mle
  obtain⟨b',cap,G,hvK,hTH,hG,hGn,hbn⟩:∃ b' cap G,vK=(if ks.length=0 then Value.slice none 0 0 else Value.slice (some ⟨b',0,none⟩) ks.length cap)∧TH w m2 (.mk k t es cs ks) bq oq G (nY b' 0 ks) ∧
   (∀ f∈G,wi.heap.size≤f∧f<w.heap.size∧lV (CL (upd st' 2 (some (.box (dW us')))) φ) f∧(∀ o,m2 f o=none)∧(∃ (vs:List Value) (T:TypeId),w.heap[f]?=some (.cells vs.toArray T (0,0))∧∀ v∈vs,v.oneCell'=true)∧f≠bq∧f ∉ root::F)∧G.Nodup∧∀ q∈H,q.1.1≠b':=by
   by_cases h0:ks.length=0
   ·have hks:ks=[]:=zW.1 h0;subst hks;simp only[slA,yJ,if_true]at aK
    cases aK
    exact⟨w.heap.size,0,[],rfl, .leaf hat fE f2 (fun _=>rfl),by simp,List.nodup_nil,fun q hq e=>by have:=hlt _ (hHlt q hq);omega⟩
   ·simp only[slA,h0,if_false]at aK
    cases aK with
    | @osl _ _ _ _ cap b' nK ao eK l1 l2 l3 l4 =>
     have hao:=l3 (by omega);subst hao;have hK2:st2 idK=some (.arr 5 (Pn.aB ks)):=by rw[s2 idK (by omega) (by omega)];exact hK h0
     obtain⟨hbK,hokK⟩:=eQ i2 eK hK2
     cases hokK with
     | @arr TK _ _ vk q1 q2 q3 q4 q5 q6 q7 q8 q9 =>
      have hb'q:b'≠bq:=fun e=>by
       subst e;have:=hi.inj idK 2 b' b' nK n2 _ _ b' (hK h0) hbox eK e2 hbK.1 hb2.1;omega
      have hnF:b' ∉ root::F:=fun hm=>by
       exact(hr.oth b' hm hb'q).2.2.1 idK b' nK eK hbK.1
      refine⟨b',cap,[b'],by simp[h0],?_,?_,by simp,fun q hq e=>hnF (e ▸ hHlt q hq)⟩
      ·refine .node hat fE f2 (fun e=>h0 (by rw[e];rfl)) (by omega) ?_;rw[Pn.bE]at q5
       exact PS q5 fun j v hj=>by
        rw[zB,bR q1];rw[zD]at hj;split at hj
        ·exact hj
        ·cases hj
      ·intro f hf;simp at hf;subst hf;refine⟨KV hadv eK hbK.1,hbK.2 _ hbK.1,?_,q7,⟨vk,TK,q1,q9⟩,hb'q,hnF⟩;refine vR i3 hst2 (id:=idK) (blk:=.arr 5 (Pn.aB ks)) (by simp[upd,show idK≠2 by omega,hK2]) ?_ eK hbK.1;have:idK≠2:=by omega
       simp only[upd,this,if_false]
       cases hx:st' idK with
       | none=>rfl
       | some blk=>have:=(hst idK blk hx).1;omega
  obtain⟨T0,hrow0⟩:=hr.row
  have hsame:∀ f∈root::F,∀ j,(f≠bq∨j<oq∨oq+5≤j)→w.cell? ⟨f,j,none⟩=wa.cell? ⟨f,j,none⟩:=by
   intro f hf j hj;by_cases hne:f=bq
   ·subst hne;rw[bR hh,bR hrow0,← hus]
    rcases hj with hj|hj|hj
    ·exact absurd rfl hj
    ·rw[zM (by omega),← h1,zD];simp[hj]
    ·rw[zN (by omega),zN (by simp;omega),← h2,yN];simp only[zI,yJ,h3];congr 1;omega
   ·exact l8 (hr.oth f hf hne).2.2.2.2.1 j
  obtain⟨F1,H1,k1,k2,k3⟩:=TH.fill hmon hTH hr.th hr.nr hr.nd hq hsame;have hF1:∀ f,f∈F1↔f∈F∨f∈G:=fun f=>by rw[k2.mem_iff,zT]
  refine⟨F1,H1,us',b',cap,vE,vC,m2,k3,by rw[← hus,hvK],hone,hbn,⟨⟨m2,CL (upd st' 2 (some (.box (dW us')))) φ,i4,fun x=>?_,hA.cut,fun id hid=>?_,?_⟩,h6,h7⟩⟩
  ·rcases he x with e|⟨e,e'|e'⟩
   ·rw[e];exact .junk _
   ·rw[e,e'];have hx:=henv x;rw[e']at hx;generalize a.tmps.getD x undef=yy at hx ⊢
    cases hx with
    | own e3=>exact .own (by rw[qX (by simp[upd])];exact e3)
   ·rw[e];refine o7.rep e' (fun i hi'=>?_) (henv x);refine qX ?_;by_cases hid:i=2
    ·subst hid;simp[upd]
    ·simpa [upd,hid]using hi'
  ·cases hx:CL (upd st' 2 (some (.box (dW us')))) φ id with
   | none=>exact absurd hx hid
   | some q =>
    have:=(fD hx).2;by_cases hid2:id=2
    ·omega
    ·simp[upd,hid2]at this
     cases hy:st' id with
     | none=>exact absurd hy this
     | some blk=>have:=(hst id blk hy).1;omega
  ·refine⟨k1,fun hm=>?_,?_, .refl _,?_,⟨n2,by rw[qX (by simp[upd])];exact e2⟩,⟨T,hh⟩,hr.bqn,fun f hf hne=>?_⟩
   ·rcases(hF1 root).1 hm with h|h
    ·exact hr.nr h
    ·exact(hG root h).2.2.2.2.2.2 (by simp)
   ·rw[k2.nodup_iff];exact yS.2 ⟨hr.nd,hGn,fun x hx y hy e=>(hG y hy).2.2.2.2.2.2 (by rw[← e];simp[hx])⟩
   ·rcases zP.1 hr.inF with e|e
    ·simp[e]
    ·simp[(hF1 bq).2 (.inl e)]
   ·have hf':f∈root::F∨f∈G:=by
     rcases zP.1 hf with e|e
     ·exact .inl (by simp[e])
     ·rcases(hF1 f).1 e with e|e
      ·exact .inl (by simp[e])
      ·exact .inr e
    rcases hf' with hf'|hf'
    ·obtain⟨q1,q2,q3,q4,q5,vs,T',q6,q7⟩:=hr.oth f hf' hne;refine⟨q1,q2,q3.cut,fun o=>?_,rfl,vs,T',by rw[q5];exact q6,q7⟩;rw[(g1.trans g2).mnew f q2 q3 o];exact q4 o
    ·obtain⟨q1,q2,q3,q4,q5,_⟩:=hG f hf';exact⟨q1,q2,q3,q4,rfl,q5⟩
theorem GR.ACM {ok:Nat→Prop} {root:Nat} {p:Pn} {F:List Nat} {H:PL} {env env':Nat→AV} {st st':Store} {a:Act} {w wa:World} {ma:Mem} {bq:Nat} {us:List Value}
 (h:GR wi mi nt ok (ADP wi root p F H bq us wa ma) env st a w) (hbox:st 2=some (.box (dW us)))
 (hst:∀ i blk,st' i=some blk→i≠2∧st i=some blk∧lD blk) (he:∀ t,env' t=.junk∨(env' t=env t∧o7 st' (env t))) :
 GR wi mi nt (fun id=>st' id≠none) (RAW wi root p F H) env' st' a w:=by
 obtain⟨⟨m,φ,hi,henv,hadv,hk,hr⟩,h6,h7⟩:=h;obtain⟨n2,e2⟩:=hr.own;obtain⟨hb2,hok2⟩:=eQ hi e2 hbox;have hst2:∀ i blk,st' i=some blk→st i=some blk∧lD blk:=fun i blk hb=>(hst i blk hb).2
 cases hok2 with
 | @box T _ vs hh hl hrc hm =>
  have hone:=hrc.one;obtain rfl:=(sW hrc).symm;obtain⟨T0,hrow0⟩:=hr.row
  have hcell:∀ f∈root::F,∀ j,w.cell? ⟨f,j,none⟩=wa.cell? ⟨f,j,none⟩:=by
   intro f hf j;by_cases hne:f=bq
   ·subst hne;rw[bR hh,bR hrow0]
   ·exact l8 (hr.oth f hf hne).2.2.2.2.1 j
  refine⟨⟨m,CL st' φ,hi.cut hst2,fun x=>?_,hadv.cut,fun id hid=>?_,?_⟩,h6,h7⟩
  ·rcases he x with e|⟨e,e'⟩
   ·rw[e];exact .junk _
   ·rw[e];exact e'.rep (fun i hi'=>qX hi') (henv x)
  ·cases hx:CL st' φ id with
   | none=>exact absurd hx hid
   | some q=>exact(fD hx).2
  ·refine⟨hr.th.frame hr.le (fun j _ _=>hcell root (by simp) j) (fun f hf j=>hcell f (by simp[hf]) j),hr.nr,hr.nd,fun f hf=>?_⟩;by_cases hne:f=bq
   ·subst hne;refine⟨hr.bqn,(z8.1 hh).1,?_,hm,us,T,hh,hone⟩;refine vR hi hst2 hbox ?_ e2 hb2.1
    cases hx:st' 2 with
    | none=>rfl
    | some blk=>exact absurd rfl (hst 2 blk hx).1
   ·obtain⟨q1,q2,q3,q4,q5,vs',T',q6,q7⟩:=hr.oth f hf hne;exact⟨q1,q2,q3.cut,q4,vs',T',by rw[q5];exact q6,q7⟩
end
theorem KF {m:Mem} {φ:Pl}:∀ {cs:List IV} {vs:List Value},RepC m φ (lZ cs) vs→ICells m cs vs
 | [],_, .nil=>.nil
 | c::cs,_, .cons a o b=>by
  cases a with
  | i a=>exact .cons a o (KF b)
section
variable {wi:World} {mi:Mem} {nt:Nat}
theorem GR.AeV {ok:Nat→Prop} {R:World→Mem→Pl→Prop} {p:Pn} {env:Nat→AV} {st st':Store} {a:Act} {w:World} {u id:Nat} (h:GR wi mi nt ok R env st a w) (hu:env u=.own id 0) (hbox:st id=some (.box (lZ p.cells)))
 (hst:∀ i blk,st' i=some blk→i≠id∧st i=some blk∧lD blk) :
 ∃ b3,∀ env',(∀ t,env' t=.junk∨(t=u∧env' t=.i (.lit (.pointer (some ⟨b3,0,none⟩))))∨(env' t=env t∧o7 st' (env t)))→GR wi mi nt (fun i=>st' i≠none) (RAW wi b3 p [] [((b3,0),p)]) env' st' a w:=by
 obtain⟨⟨m,φ,hi,henv,hadv,hk,_⟩,h6,h7⟩:=h;have hr:=henv u;rw[hu]at hr;generalize hy:a.tmps.getD u undef=yy at hr
 cases hr with
 | @own _ _ b3 n3 e3 =>
  obtain⟨hb,hok⟩:=eQ hi e3 hbox;have hst2:∀ i blk,st' i=some blk→st i=some blk∧lD blk:=fun i blk hb=>(hst i blk hb).2
  cases hok with
  | @box T _ vs hh hl hrc hm =>
   have hc:=KF hrc;have hlen:=hc.length;rw[Pn.eP]at hlen
   obtain⟨v0,v1,v2,v3,v4,rfl⟩:∃ v0 v1 v2 v3 v4,vs=[v0,v1,v2,v3,v4]:=by
    match vs,hlen with
    | [v0,v1,v2,v3,v4],_=>exact⟨v0,v1,v2,v3,v4,rfl⟩
   refine⟨b3,fun env' he=>⟨⟨m,CL st' φ,hi.cut hst2,fun t=>?_,hadv.cut,fun i hi'=>?_,?_⟩,h6,h7⟩⟩
   ·rcases he t with e|⟨rfl,e⟩|⟨e,e'⟩
    ·rw[e];exact .junk _
    ·rw[e,hy];exact .i (.lit _)
    ·rw[e];exact e'.rep (fun i hi'=>qX hi') (henv t)
   ·cases hx:CL st' φ i with
    | none=>exact absurd hx hi'
    | some q=>exact(fD hx).2
   ·refine⟨.fresh hc ⟨by rw[bR hh];rfl,by rw[bR hh];rfl,by rw[bR hh];rfl,by rw[bR hh];rfl,by rw[bR hh];rfl⟩,by simp,List.nodup_nil,fun f hf=>?_⟩;simp at hf;subst hf;refine⟨KV hadv e3 hb.1,hb.2 _ hb.1,?_,hm,_,T,hh,hrc.one⟩;refine vR hi hst2 hbox ?_ e3 hb.1
    cases hx:st' id with
    | none=>rfl
    | some blk=>exact absurd rfl (hst id blk hx).1
theorem GR.fin {ok:Nat→Prop} {root:Nat} {p:Pn} {F:List Nat} {env:Nat→AV} {st:Store} {a:Act} {w:World} (h:GR wi mi nt ok (RAW wi root p F []) env st a w) (hst:∀ i blk,st i=some blk→lD blk) {u:Nat} (hu:env u=.i (.lit (.pointer (some ⟨root,0,none⟩)))) {env':Nat→AV} (he:∀ t,env' t=.junk∨(t=u∧env' t=.i (.iref p.cells))∨(env' t=env t∧o7 st (env t))) :
 GR wi mi nt ok (fun _ _ _=>True) env' st a w:=by
 classical
 obtain⟨⟨m,φ,hi,henv,hadv,hk,hr⟩,h6,h7⟩:=h
 let m':Mem:=fun f o=>if f∈root::F then w.cell? ⟨f,o,none⟩else m f o
 have hin:∀ f,f∈root::F→∀ o,m' f o=w.cell? ⟨f,o,none⟩:=fun f hf o=>by show(if f∈root::F then _ else _)=_;rw[if_pos hf]
 have hout:∀ f,f ∉ root::F→∀ o,m' f o=m f o:=fun f hf o=>by show(if f∈root::F then _ else _)=_;rw[if_neg hf]
 have hle:MLe m m':=fun f o v e=>by
  by_cases hf:f∈root::F
  ·rw[(hr.all f hf).2.2.2.1 o]at e;cases e
  ·rw[hout f hf];exact e
 have hmem:o8 w m':=fun f o v e=>by
  by_cases hf:f∈root::F
  ·rw[hin f hf]at e;exact e
  ·rw[hout f hf]at e;exact hi.mem f o v e
 have hat:IAt m' root 0 p.cells:=hr.th.iat hle (fun j _ _=>hin root (by simp) j) (fun f hf j=>hin f (by simp[hf]) j);refine⟨⟨m',φ,⟨hmem,fun i blk hb=>?_,hi.inj,hi.low⟩,fun t=>?_,⟨hadv.size,hadv.os,hadv.tape,hadv.output,hadv.block,hadv.mle.trans hle,fun f hf hfr o=>?_,hadv.ple,hadv.pnew⟩,hk,trivial⟩,h6,h7⟩
 ·obtain⟨b,n,q1,q2,q3⟩:=hi.live i blk hb;refine⟨b,n,q1,q2,q3.AH9 (hst i blk hb) rfl fun o ho=>?_⟩;rw[hout b (fun hf=>(hr.all b hf).2.2.1 i b n q1 q2.1)];exact ho
 ·rcases he t with e|⟨rfl,e⟩|⟨e,e'⟩
  ·rw[e];exact .junk _
  ·have hx:=henv t;rw[hu]at hx;rw[e,hx.dG];exact .i (.iref hat)
  ·rw[e];exact e'.rep (fun _ _=>rfl) (henv t)
 ·rw[hout f (fun hf'=>by have:=(hr.all f hf').1;omega)];exact hadv.mnew f hf hfr o
theorem RAW.keep {root:Nat} {p:Pn} {F:List Nat} {H:PL} {w:World} {m:Mem} {φ:Pl} (ids:List Nat) (h:RAW wi root p F H w m φ):RAW wi root p F H w m (gL ids φ):=by
 refine⟨h.th,h.nr,h.nd,fun f hf=>?_⟩;obtain⟨k1,k2,k3,k4,k5⟩:=h.all f hf;refine⟨k1,k2,fun id r n e=>?_,k4,k5⟩;unfold gL at e
 cases hx:ids[id]? with
 | none=>rw[hx]at e;cases e
 | some j=>rw[hx]at e;exact k3 j r n e
theorem GR.settle {ok:Nat→Prop} {R:World→Mem→Pl→Prop} (hR:∀ w m φ ids,R w m φ→R w m (gL ids φ)) {env:Nat→AV} {st:Store} {a:Act} {w:World} (G:List Nat) (h:GR wi mi nt ok R env st a w) :
 GR wi mi nt (fun id=>id<(Av.settle G 0 env st).st.length) R (aW (Av.settle G 0 env st).env) (bJ (Av.settle G 0 env st).st) a w:=by
 obtain⟨⟨m,φ,hi,henv,hadv,hok,hK⟩,hsz,hdf⟩:=h;unfold Av.settle ET;generalize hids:kG st 0 (FN env G)=ids;have hd:ids.Nodup:=by rw[← hids];exact jR _ _ _
 refine⟨⟨m,gL ids φ,hi.keep hd,?_,hadv.keep (fun id h=>absurd rfl h) (fun j hj=>absurd hj (zB5 j)),?_,hR _ _ _ ids hK⟩,hsz,hdf⟩
 ·intro t
  have key:∀ G:List Nat,Rep m (gL ids φ) (aW (qR (jH ids) env G) t) (a.tmps.getD t undef):=by
   intro G
   induction G with
   | nil=>exact .junk _
   | cons u G ih =>
    simp only[qR,aW];by_cases e:t=u
    ·subst e;simp only[if_true];exact(henv t).ren (oQ ids φ)
    ·simp only[e,if_false];exact ih
  exact key G
 ·intro id hne;simp only[jN];unfold gL at hne
  cases hx:ids[id]? with
  | none=>rw[hx]at hne;exact absurd rfl hne
  | some i=>exact(zY.1 hx).1
theorem GR.envTo {ok:Nat→Prop} {R:World→Mem→Pl→Prop} {env env':Nat→AV} {st:Store} {a:Act} {w:World} (h:GR wi mi nt ok R env st a w) (he:∀ t,env' t=.junk∨env' t=env t):GR wi mi nt ok R env' st a w:=by
 refine h.turn fun m φ h1 h2 h3 h4 h5=>⟨m,φ,h1,fun t=>?_,h3,h4,h5⟩
 rcases he t with e|e
 ·rw[e];exact .junk _
 ·rw[e];exact h2 t
theorem GR.ok' {ok ok':Nat→Prop} {R:World→Mem→Pl→Prop} {env:Nat→AV} {st:Store} {a:Act} {w:World} (h:GR wi mi nt ok R env st a w) (he:∀ id,ok id→ok' id):GR wi mi nt ok' R env st a w :=
 h.turn fun m φ h1 h2 h3 h4 h5=>⟨m,φ,h1,h2,h3,fun id hi=>he id (h4 id hi),h5⟩
theorem GR.AZQ {C:Ctx} (hS:SoundOk C) {G:List Nat} {c:Code} {S:AS} {a:Act} {w:World} {R:World→Mem→Pl→Prop} (hR:AH1 R) {PP:AExit→AS→Prop} (hc:codeOk nt c=true) (hx:∃ e S',cK C G S.st.length c S=some (e,S')∧PP e S') (h:GR wi mi nt (fun id=>id<S.st.length) R (aW S.env) (bJ S.st) a w) (hnr:cZ c=true:=by rfl) :
 c.wp C.P (fun e' a' w'=>∃ e S',e'=nN e∧PP e S'∧GR wi mi nt (fun id=>id<S'.st.length) R (aW S'.env) (bJ S'.st) a' w') a w:=by
 obtain⟨e,S',h1,h2⟩:=hx;refine wp_mono (GR.fM hS hR hc h1 h hnr) ?_;rintro e' a' w' ⟨rfl,hg⟩;exact⟨e,S',rfl,h2,hg⟩
end
@[simp] theorem I1 (a:List Value):(dW a).length=a.length:=by simp[dW]
theorem XT {α:Type}:∀ (a b:List α) (n:Nat),dropE (a.length+n) (a++b)=dropE n b
 | [],b,n=>by simp
 | x::a,b,n=>by
  rw[zI,show a.length+1+n=(a.length+n)+1 by omega];exact XT a b n
theorem OW {α:Type}:∀ (a b:List α) (n:Nat) (xs:List α),splice (a++b) (a.length+n) xs=bnd (splice b n xs) fun l=>some (a++l)
 | [],b,n,xs=>by simp;cases splice b n xs<;>rfl
 | x::a,b,n,xs=>by
  rw[zI,show a.length+1+n=(a.length+n)+1 by omega];show bnd (splice (a++b) (a.length+n) xs) _=_;rw[OW a b n xs]
  cases splice b n xs<;>rfl
theorem TC (pre post:List Value) (row:List AV) (j n:Nat):cut (mO pre row post) (pre.length+j) n=cut (row++dW post) j n:=by
 unfold cut mO;have:=XT (dW pre) (row++dW post) j;rw[I1]at this;rw[this]
theorem sJ (pre post:List Value) (row:List AV) (j:Nat) (xs:List AV):splice (mO pre row post) (pre.length+j) xs=bnd (splice (row++dW post) j xs) fun l=>some (dW pre++l):=by
 unfold mO;have:=OW (dW pre) (row++dW post) j xs;rw[I1]at this;exact this
theorem LW (a:List Value):bF (dW a)=[]:=by
 induction a with
 | nil=>rfl
 | cons v a ih=>simpa [dW,bF,eZ]using ih
theorem P8 (r:Nat→Option Nat) (a:List Value):AO r (dW a)=dW a:=by
 induction a with
 | nil=>rfl
 | cons v a ih=>simpa [dW,AO,ren]using ih
theorem AFP (a b:List AV):bF (a++b)=bF a++bF b:=by
 induction a with
 | nil=>rfl
 | cons c a ih=>simp[bF,ih]
theorem AO5 (r:Nat→Option Nat) (a b:List AV):AO r (a++b)=AO r a++AO r b:=by
 induction a with
 | nil=>rfl
 | cons c a ih=>simp[AO,ih]
theorem bM (pre post:List Value) (row:List AV):bF (mO pre row post)=bF row:=by
 simp[mO,AFP,LW]
theorem dD (r:Nat→Option Nat) (pre post:List Value) (row:List AV):AO r (mO pre row post)=mO pre (AO r row) post:=by
 simp[mO,AO5,P8]
section
variable (pre post:List Value) (a0 a1 a2 a3 a4 x:AV)
theorem Ad1:cut (mO pre [a0,a1,a2,a3,a4] post) (pre.length+2) 1=some [a2]:=by rw[TC];rfl
theorem Ad0:cut (mO pre [a0,a1,a2,a3,a4] post) (pre.length+3) 1=some [a3]:=by rw[TC];rfl
theorem AcZ:cut (mO pre [a0,a1,a2,a3,a4] post) (pre.length+4) 1=some [a4]:=by rw[TC];rfl
theorem AEK:splice (mO pre [a0,a1,a2,a3,a4] post) (pre.length+2) [x]=some (mO pre [a0,a1,x,a3,a4] post):=by rw[sJ];rfl
theorem ANQ:splice (mO pre [a0,a1,a2,a3,a4] post) (pre.length+3) [x]=some (mO pre [a0,a1,a2,x,a4] post):=by rw[sJ];rfl
theorem UU:splice (mO pre [a0,a1,a2,a3,a4] post) (pre.length+4) [x]=some (mO pre [a0,a1,a2,a3,x] post):=by rw[sJ];cases post<;>rfl
theorem AWH:A7 1 (dropE (pre.length+2) (mO pre [a0,a1,a2,a3,a4] post))=some [a2]:=Ad1 pre post a0 a1 a2 a3 a4
theorem AaQ:A7 1 (dropE (pre.length+3) (mO pre [a0,a1,a2,a3,a4] post))=some [a3]:=Ad0 pre post a0 a1 a2 a3 a4
theorem ADW:A7 1 (dropE (pre.length+4) (mO pre [a0,a1,a2,a3,a4] post))=some [a4]:=AcZ pre post a0 a1 a2 a3 a4
end
mutual
theorem TH.AdU {w:World} {m m':Mem} (hm:MLe m m') {x:Pn} {b o:Nat} {F:List Nat} {H:PL}:TH w m x b o F H→(∀ j,o≤j→j<o+5→m' b j=w.cell? ⟨b,j,none⟩)→(∀ f∈F,∀ j,m' f j=w.cell? ⟨f,j,none⟩)→IAt m' b o x.cells
 | .fresh h1 h2,hb,hF=>by
  refine IAt.mk o (h1.mono hm) fun j v hj=>?_
  rcases j with _|_|_|_|_|j
  ·simp at hj;subst hj;exact(hb _ (by omega) (by omega)).trans h2.c0
  ·simp at hj;subst hj;exact(hb _ (by omega) (by omega)).trans h2.c1
  ·simp at hj;subst hj;exact(hb _ (by omega) (by omega)).trans h2.c2
  ·simp at hj;subst hj;exact(hb _ (by omega) (by omega)).trans h2.c3
  ·simp at hj;subst hj;exact(hb _ (by omega) (by omega)).trans h2.c4
  ·simp at hj
 | .leaf h1 h2 h3 h4,hb,hF=>by
  rw[Pn.aZ];have o2:(∀ es v,IRep m (.isl es) v→v.oneCell'=true):=fun es v h=>by cases h<;>rfl
  exact .cons ((hb _ (by omega) (by omega)).trans h1.c0) (.lit _) rfl (.cons ((hb _ (by omega) (by omega)).trans h1.c1) (.lit _) rfl (.cons ((hb _ (by omega) (by omega)).trans h1.c2) (h2.mono hm) (o2 _ _ h2) (.cons ((hb _ (by omega) (by omega)).trans h1.c3) (h3.mono hm) (o2 _ _ h3) (.cons ((hb _ (by omega) (by omega)).trans h1.c4) (.isl0 _ _ h4) rfl (.nil _ _)))))
 | .node h1 h2 h3 h4 h5 h6,hb,hF=>by
  rename_i ks b' cap vE vC F;rw[Pn.aZ];have o2:(∀ es v,IRep m (.isl es) v→v.oneCell'=true):=fun es v h=>by cases h<;>rfl
  have he:=THL.AcJ hm h6 (fun j _ _=>hF b' (by simp) j) (fun f hf=>hF f (by simp[hf]));have hl:(Pn.aB ks).length=ks.length:=by simp
  have hn:Pn.aB ks≠[]:=fun e=>by rw[e]at hl;simp at hl;exact h4 (zW.1 hl.symm)
  have hk:IRep m' (.isl (Pn.aB ks)) (.slice (some ⟨b',0,none⟩) ks.length cap):=by
   have:=IRep.isl (cap:=cap) hn he (by omega)
   rwa [hl]at this
  exact .cons ((hb _ (by omega) (by omega)).trans h1.c0) (.lit _) rfl (.cons ((hb _ (by omega) (by omega)).trans h1.c1) (.lit _) rfl (.cons ((hb _ (by omega) (by omega)).trans h1.c2) (h2.mono hm) (o2 _ _ h2) (.cons ((hb _ (by omega) (by omega)).trans h1.c3) (h3.mono hm) (o2 _ _ h3) (.cons ((hb _ (by omega) (by omega)).trans h1.c4) hk rfl (.nil _ _)))))
theorem THL.AcJ {w:World} {m m':Mem} (hm:MLe m m') {xs:List Pn} {b o:Nat} {F:List Nat} {H:PL}:THL w m xs b o F H→(∀ j,o≤j→j<o+5*xs.length→m' b j=w.cell? ⟨b,j,none⟩)→(∀ f∈F,∀ j,m' f j=w.cell? ⟨f,j,none⟩)→IElems m' b o 5 (Pn.aB xs)
 | .nil b o,hb,hF=>by simp only[Pn.aB];exact .nil b o 5
 | .cons h1 h2,hb,hF=>by
  simp only[Pn.aB];exact .cons (TH.AdU hm h1 (fun j l1 l2=>hb j l1 (by simp only[zI];omega)) (fun f hf=>hF f (by simp[hf]))) (Pn.eP _) (THL.AcJ hm h2 (fun j l1 l2=>hb j (by omega) (by simp only[zI];omega)) (fun f hf=>hF f (by simp[hf])))
end
theorem THL.nth {w:World} {m:Mem} {b:Nat}:∀ {xs:List Pn} {o:Nat} {F:List Nat} {i:Nat} {x:Pn},THL w m xs b o F []→xs[i]?=some x →
 ∃ Fa Fi Fz,F=Fa++(Fi++Fz)∧TH w m x b (o+5*i) Fi []∧∀ {w':World} {m':Mem} {y:Pn} {G:List Nat} {HY:PL},MLe m m'→(∀ j,o≤j→j<o+5*xs.length→(j<o+5*i∨o+5*i+5≤j)→w'.cell? ⟨b,j,none⟩=w.cell? ⟨b,j,none⟩) →
   (∀ f∈Fa++Fz,∀ j,w'.cell? ⟨f,j,none⟩=w.cell? ⟨f,j,none⟩)→TH w' m' y b (o+5*i) G HY→THL w' m' (xs.set i y) b o (Fa++(G++Fz)) HY:=by
 intro xs
 induction xs with
 | nil=>intro o F i x _ h;simp at h
 | cons a xs ih =>
  intro o F i x h hx;generalize hH:([]:PL)=H at h
  cases h with
  | @cons _ _ _ _ F1 F2 H1 H2 h1 h2 =>
   obtain⟨rfl,rfl⟩:=List.append_eq_nil_iff.1 hH.symm
   cases i with
   | zero =>
    simp at hx;subst hx;refine⟨[],F1,F2,by simp,by simpa using h1,fun {w' m' y G HY} hm hw hF hy=>?_⟩;have k2:=THL.frame hm (fun j l1 l2=>hw j (by omega) (by simp only[zI];omega) (.inr (by omega))) (fun f hf=>hF f (by simp[hf])) h2;have:=THL.cons hy k2;simpa using this
   | succ i =>
    obtain⟨Fa,Fi,Fz,e,h3,h4⟩:=ih h2 (by simpa using hx);subst e;refine⟨F1++Fa,Fi,Fz,by simp,by rw[show o+5*(i+1)=o+5+5*i by omega];exact h3,fun {w' m' y G HY} hm hw hF hy=>?_⟩;rw[show o+5*(i+1)=o+5+5*i by omega]at hy;have k1:=TH.frame hm (fun j l1 l2=>hw j l1 (by simp only[zI];omega) (.inl (by omega))) (fun f hf=>hF f (by simp[hf])) h1;have k2:=h4 hm (fun j l1 l2 l3=>hw j (by omega) (by simp only[zI];omega) (by omega)) (fun f hf=>hF f (by rcases zT.1 hf with h|h<;>simp[h])) hy;have:=THL.cons k1 k2;simpa using this
theorem AO8 {path:List Int} {x y z:Pn} {i:Nat} (h:Pn.at path x=some y):Pn.put (path++[(i:Int)]) x z=Pn.put path x (.mk y.kind y.table y.exprs y.cols (y.kids.set i z)):=by
 induction path generalizing x with
 | nil =>
  simp only[Pn.at,Option.some.injEq]at h;subst h
  cases hk:x.kids[i]? with
  | none =>
   have:x.kids.length≤i:=by simpa using hk
   simp[Pn.put,hk,List.set_eq_of_length_le this,Pn.eta]
  | some k=>simp[Pn.put,hk]
 | cons j path ih =>
  simp only[Pn.at]at h;split at h
  ·rename_i h0
   cases hk:x.kids[j.toNat]? with
   | none=>rw[hk]at h;cases h
   | some k =>
    rw[hk]at h;have:=ih h;simp[Pn.put,hk,this]
  ·cases h
structure AtP (w:World) (m:Mem) (x:Pn) (b o:Nat) (F:List Nat) (path:List Int) (y:Pn) (bq oq:Nat) (Fa Fy Fz:List Nat):Prop where
 eq:F=Fa++(Fy++Fz)
 inb:bq∈b::Fa
 nr:b ∉ F
 nd:F.Nodup
 is:Pn.at path x=some y
 th:TH w m y bq oq Fy []
 fill:∀ {w':World} {m':Mem} {y':Pn} {G:List Nat} {HY:PL},MLe m m'→(∀ f∈b::(Fa++Fz),∀ j,(f≠bq∨j<oq∨oq+5≤j)→w'.cell? ⟨f,j,none⟩=w.cell? ⟨f,j,none⟩)→TH w' m' y' bq oq G HY→TH w' m' (Pn.put path x y') b o (Fa++(G++Fz)) HY
theorem AtP.start {w:World} {m:Mem} {x:Pn} {b o:Nat} {F:List Nat} (h:TH w m x b o F []) (hr:b ∉ F) (hn:F.Nodup):AtP w m x b o F [] x b o [] F [] :=
 ⟨by simp,by simp,hr,hn,rfl,h,fun _ _ hy=>by simpa [Pn.put]using hy⟩
theorem AtP.mem {w:World} {m:Mem} {x:Pn} {b o:Nat} {F:List Nat} {path:List Int} {y:Pn} {bq oq:Nat} {Fa Fy Fz:List Nat} (h:AtP w m x b o F path y bq oq Fa Fy Fz):bq∈b::F:=by
 rw[h.eq]
 rcases zP.1 h.inb with e|e
 ·simp[e]
 ·simp[e]
theorem AtP.frame {w w':World} {m m':Mem} {x:Pn} {b o:Nat} {F:List Nat} {path:List Int} {y:Pn} {bq oq:Nat} {Fa Fy Fz:List Nat} (h:AtP w m x b o F path y bq oq Fa Fy Fz) (hm:MLe m m') (hF:∀ f∈b::F,∀ j,w'.cell? ⟨f,j,none⟩=w.cell? ⟨f,j,none⟩):AtP w' m' x b o F path y bq oq Fa Fy Fz:=by
 refine⟨h.eq,h.inb,h.nr,h.nd,h.is,h.th.frame hm (fun j _ _=>hF bq h.mem j) (fun f hf j=>hF f (by rw[h.eq];simp[hf]) j),fun hm' hw hy=>h.fill (hm.trans hm') (fun f hf j hj=>?_) hy⟩;rw[hw f hf j hj];refine hF f ?_ j;rw[h.eq]
 rcases zP.1 hf with e|e
 ·simp[e]
 ·rcases zT.1 e with e|e<;>simp[e]
theorem AtP.step {w:World} {m:Mem} {x:Pn} {b o:Nat} {F:List Nat} {path:List Int} {y z:Pn} {bq oq:Nat} {Fa Fy Fz:List Nat} {i:Nat} (h:AtP w m x b o F path y bq oq Fa Fy Fz) (hz:y.kids[i]?=some z) :
 ∃ b' cap,w.cell? ⟨bq,oq+4,none⟩=some (.slice (some ⟨b',0,none⟩) y.kids.length cap)∧y.kids.length≤cap∧∃ Fa' Fy' Fz',AtP w m x b o F (path++[(i:Int)]) z b' (5*i) Fa' Fy' Fz':=by
 have ht:=h.th;have hFq:=h.eq;generalize hH:([]:PL)=H at ht
 cases ht with
 | fresh=>cases hH
 | leaf h1 h2 h3 h4=>simp[Pn.kids]at hz
 | @node k t es cs ks _ _ b' cap vE vC F1 _ h1 h2 h3 h4 h5 h6 =>
  subst hH;have hz:ks[i]?=some z:=hz;obtain⟨Ga,Gi,Gz,e,t1,t2⟩:=h6.nth hz;subst e;have hnd:=h.nd;rw[hFq]at hnd;have hnr:=h.nr;rw[hFq]at hnr
  have hne:bq≠b':=by
   intro e
   rcases zP.1 h.inb with e'|e'
   ·exact hnr (by rw[← e',e];simp)
   ·rw[yS]at hnd;exact hnd.2.2 _ e' b' (by simp) e
  refine⟨b',cap,h1.c4,h5,Fa++(b'::Ga),Gi,Gz++Fz,by rw[hFq];simp,by simp,h.nr,h.nd,?_,by simpa using t1,fun {w' m' y' G HY} hm hw hy=>?_⟩
  ·rw[wB path x _ [(i:Int)] h.is];simp[Pn.at,Pn.kids,hz]
  ·rw[AO8 h.is]
   have hK:THL w' m' (ks.set i y') b' 0 (Ga++(G++Gz)) HY:=by
    refine t2 hm (fun j _ _ hj=>hw b' (by simp) j (.inr (by omega))) (fun f hf j=>hw f (by rcases zT.1 hf with e|e<;>simp[e]) j (.inl ?_)) (by simpa using hy);intro e;subst e;have hb:=(yS.1 hnd).2.1;simp only[yO,yX]at hb;exact hb.1 (by rcases zT.1 hf with e|e<;>simp[e])
   have hlen:(ks.set i y').length=ks.length:=by simp
   have hn:ks.set i y'≠[]:=fun e=>by rw[e]at hlen;simp at hlen;exact h4 (zW.1 hlen.symm)
   have hbq:bq∈b::((Fa++b'::Ga)++(Gz++Fz)):=by
    rcases zP.1 h.inb with e'|e'
    ·simp[e']
    ·simp[e']
   have hA:=h1.frame (w':=w') (fun j l1 l2=>hw bq hbq j (.inl hne));rw[← hlen]at hA
   have hY:TH w' m' (.mk k t es cs (ks.set i y')) bq oq (b'::(Ga++(G++Gz))) HY :=
    .node hA (h2.mono hm) (h3.mono hm) hn (by rw[hlen];exact h5) hK
   have:=h.fill hm (fun f hf j hj=>hw f (by
    rcases zP.1 hf with e|e
    ·simp[e]
    ·rcases zT.1 e with e|e<;>simp[e]) j (by
    by_cases e:f=b'
    ·subst e;exfalso
     rcases zP.1 hf with e|e
     ·exact hnr (by rw[← e];simp)
     ·rcases zT.1 e with e|e
      ·exact(yS.1 hnd).2.2 _ e f (by simp) rfl
      ·have hb:=(yS.1 hnd).2.1;simp only[yO,yX]at hb;exact hb.1 (by simp[e])
    ·exact .inl e)) hY
   simpa [Pn.kind,Pn.table,Pn.exprs,Pn.cols,Pn.kids]using this
def mG:Blk→Prop
 | .box cs=>∀ c∈cs,(∃ v,c=.i v)∨c=.nils
 | .loop _ _ _=>False
 | _=>True
theorem RepC.tree {m:Mem} {φ φ':Pl}:∀ {cs:List AV} {vs:List Value},(∀ c∈cs,(∃ v,c=.i v)∨c=.nils)→RepC m φ cs vs→RepC m φ' cs vs
 | [],_,_, .nil=>.nil
 | c::cs,_,h, .cons a o r=>by
  have hr:=RepC.tree (m:=m) (φ':=φ') (fun d hd=>h d (by simp[hd])) r
  rcases h c (by simp)with ⟨v,rfl⟩|rfl
  ·cases a with|i a=>exact .cons (.i a) o hr
  ·cases a;exact .cons .nils o hr
theorem BlkOk.tree {w:World} {m:Mem} {φ φ':Pl} {b:Nat} {n:Ext} {blk:Blk} (hl:mG blk) (h:BlkOk w m φ b n blk):BlkOk w m φ' b n blk:=by
 cases h with
 | box h1 h2 h3 h4=>exact .box h1 h2 (h3.tree hl) h4
 | arr h1 h2 h3 h4 h5 h6 h7 h8 h9=>exact .arr h1 h2 h3 h4 h5 h6 h7 h8 h9
 | frz h1 h2=>exact .frz h1 h2
 | fbox h1=>exact .fbox h1
 | tre h1 h2 h3 h4 h5 h6 h7 h8 h9 h10=>exact .tre h1 h2 h3 h4 h5 h6 h7 h8 h9 h10
 | loop=>cases hl
theorem Inv.AcY {w:World} {m:Mem} {φ:Pl} {st st':Store} (hi:Inv w m φ st) (hst:∀ i blk,st' i=some blk→st i=some blk∧mG blk):Inv w m (CL st' φ) st':=by
 refine⟨hi.mem,?_,?_,fun i b n f e ho=>hi.low i b n f (fD e).1 ho⟩
 ·intro i blk hb;obtain⟨h1,h2⟩:=hst i blk hb;obtain⟨b,n,q1,q2,q3⟩:=hi.live i blk h1;exact⟨b,n,by rw[qX (by rw[hb];simp)];exact q1,q2,q3.tree h2⟩
 ·intro i j b bx n n2 b1 b2 f h1 h2 h3 h4 o1 o2;exact hi.inj i j b bx n n2 b1 b2 f (hst i b1 h1).1 (hst j b2 h2).1 (fD h3).1 (fD h4).1 o1 o2
theorem EC {w:World} {m:Mem} {φ:Pl} {st st':Store} {id b f:Nat} {n:Ext} {blk:Blk} (hi:Inv w m φ st) (hst:∀ i blk,st' i=some blk→st i=some blk) (hid:st id=some blk) (hn:st' id=none) (e:φ id=some (b,n)) (ho:n.own f):lV (CL st' φ) f:=by
 intro i r n' e' ho';obtain⟨h1,h2⟩:=fD e'
 cases hb:st' i with
 | none=>exact h2 hb
 | some blk' =>
  have:=hi.inj i id r b n' n blk' blk f (hst i blk' hb) hid h1 e ho' ho;rw[this,hn]at hb;cases hb
def qM (st':Store):AV→Prop
 | .i _=>True
 | .own id _=>st' id≠none
 | .osl id _ _ _=>st' id≠none
 | .nils=>True
 | _=>False
theorem qM.rep {m:Mem} {φ φ':Pl} {st':Store} {v:AV} {x:Value} (h:qM st' v) (he:∀ i,st' i≠none→φ' i=φ i) (hr:Rep m φ v x):Rep m φ' v x:=by
 unfold qM at h;split at h
 ·cases hr with|i k=>exact .i k
 ·cases hr with
  | own e=>exact .own (by rw[he _ h];exact e)
 ·cases hr with
  | osl e a b c d=>exact .osl (by rw[he _ h];exact e) a b c d
 ·cases hr;exact .nils
 ·cases h
theorem Inv.AZA {w w':World} {m m':Mem} {φ:Pl} {st:Store} (hi:Inv w m φ st) (ha:Adv w m (fun _=>none) w' m' (fun _=>none)) (hm:o8 w' m'):Inv w' m' φ st∧Adv w m φ w' m' φ:=by
 have hb:∀ f,f<w.heap.size→w'.heap[f]?=w.heap[f]?:=fun f hf=>ha.block f hf fun _ _ _ e=>by cases e
 have hn:∀ f,f<w.heap.size→∀ o,m' f o=m f o:=fun f hf=>ha.mnew f hf fun _ _ _ e=>by cases e
 refine⟨⟨hm,fun id blk e=>?_,hi.inj,fun id b n f e ho=>yV (hi.low id b n f e ho) ha.size⟩,⟨ha.size,ha.os,ha.tape,ha.output,fun b hb' _=>hb b hb',ha.mle,fun b hb' _=>hn b hb', .refl _,fun _ _ _ _ e ho=>.inr (lV.not e ho)⟩⟩;obtain⟨b,n,k1,k2,k3⟩:=hi.live id blk e;exact⟨b,n,k1,⟨k2.1,fun f hf=>yV (k2.2 f hf) ha.size⟩,k3.mono k2.1 (fun f hf=>hb f (k2.2 f hf)) ha.mle (.refl _) fun f hf=>hn f (k2.2 f hf)⟩
structure CPY (wi:World) (p:Pn) (F:List Nat) (v0 v1 v2 v3 v4:Value) (w:World) (m:Mem) (φ:Pl):Prop where
 th:∀ {w':World} {m':Mem} {b o:Nat},MLe m m'→(∀ f∈F,∀ j,w'.cell? ⟨f,j,none⟩=w.cell? ⟨f,j,none⟩)→At5 w' b o v0 v1 v2 v3 v4→TH w' m' p b o F []
 cells:∀ {m':Mem},MLe m m'→(∀ f∈F,∀ j,m' f j=w.cell? ⟨f,j,none⟩)→ICells m' p.cells [v0,v1,v2,v3,v4]
 nd:F.Nodup
 all:∀ f∈F,wi.heap.size≤f∧f<w.heap.size∧lV φ f∧(∀ o,m f o=none)∧∃ (vs:List Value) (T:TypeId),w.heap[f]?=some (.cells vs.toArray T (0,0))∧∀ v∈vs,v.oneCell'=true
theorem CPY.pM (wi:World) (p:Pn) (F:List Nat) (v0 v1 v2 v3 v4:Value):AH1 (CPY wi p F v0 v1 v2 v3 v4):=by
 intro w m φ w' m' φ' ha h;have hs:∀ f∈F,w'.heap[f]?=w.heap[f]?:=fun f hf=>ha.block f (h.all f hf).2.1 (h.all f hf).2.2.1
 refine⟨fun hm hw h5=>h.th (ha.mle.trans hm) (fun f hf j=>(hw f hf j).trans (l8 (hs f hf) j)) h5,fun hm hw=>h.cells (ha.mle.trans hm) fun f hf j=>(hw f hf j).trans (l8 (hs f hf) j),h.nd,fun f hf=>?_⟩;obtain⟨k1,k2,k3,k4,vs,T,k5,k6⟩:=h.all f hf;exact⟨k1,yV k2 ha.size,ha.range k2 k3,fun o=>(ha.mnew f k2 k3 o).trans (k4 o),vs,T,by rw[hs f hf];exact k5,k6⟩
theorem TH.cells {w:World} {m:Mem} {x:Pn} {b o:Nat} {F:List Nat} (h:TH w m x b o F []):∃ v0 v1 v2 v3 v4,At5 w b o v0 v1 v2 v3 v4∧(∀ v∈[v0,v1,v2,v3,v4],v.oneCell'=true)∧(∃ ao cap,v4=.slice ao x.kids.length cap)∧(∀ {w':World} {m':Mem} {b' o':Nat},MLe m m'→(∀ f∈F,∀ j,w'.cell? ⟨f,j,none⟩=w.cell? ⟨f,j,none⟩)→At5 w' b' o' v0 v1 v2 v3 v4→TH w' m' x b' o' F []) ∧
 ∀ {m':Mem},MLe m m'→(∀ f∈F,∀ j,m' f j=w.cell? ⟨f,j,none⟩)→ICells m' x.cells [v0,v1,v2,v3,v4]:=by
 have o2:∀ {m:Mem} es v,IRep m (.isl es) v→v.oneCell'=true:=fun es v h=>by cases h<;>rfl
 generalize hH:([]:PL)=H at h
 cases h with
 | fresh=>cases hH
 | leaf h1 h2 h3 h4 =>
  refine⟨_,_,_,_,_,h1,(by intro v hv;simp only[zP,zE0,or_false]at hv;rcases hv with rfl|rfl|rfl|rfl|rfl<;>first|rfl|exact o2 _ _ h2|exact o2 _ _ h3),⟨_,_,rfl⟩,fun hm _ h5=>.leaf h5 (h2.mono hm) (h3.mono hm) h4,fun hm _=>?_⟩;rw[Pn.aZ];exact .cons (.lit _) rfl (.cons (.lit _) rfl (.cons (h2.mono hm) (o2 _ _ h2) (.cons (h3.mono hm) (o2 _ _ h3) (.cons (.isl0 _ _ h4) rfl .nil))))
 | @node k t es cs ks _ _ b' cap vE vC F1 _ h1 h2 h3 h4 h5 h6 =>
  subst hH;refine⟨_,_,_,_,_,h1,(by intro v hv;simp only[zP,zE0,or_false]at hv;rcases hv with rfl|rfl|rfl|rfl|rfl<;>first|rfl|exact o2 _ _ h2|exact o2 _ _ h3),⟨_,_,rfl⟩,fun hm hF k5=>.node k5 (h2.mono hm) (h3.mono hm) h4 h5 (h6.frame hm (fun j _ _=>hF _ (by simp) j) fun f hf=>hF f (by simp[hf])),fun hm hF=>?_⟩;rw[Pn.aZ];have he:=THL.AcJ hm h6 (fun j _ _=>hF b' (by simp) j) (fun f hf=>hF f (by simp[hf]));have hl:(Pn.aB ks).length=ks.length:=by simp
  have hn:Pn.aB ks≠[]:=fun e=>by rw[e]at hl;simp at hl;exact h4 (zW.1 hl.symm)
  have hk:=IRep.isl (cap:=cap) hn he (by omega);rw[hl]at hk;exact .cons (.lit _) rfl (.cons (.lit _) rfl (.cons (h2.mono hm) (o2 _ _ h2) (.cons (h3.mono hm) (o2 _ _ h3) (.cons hk rfl .nil))))
structure RAT (wi:World) (root:Nat) (p:Pn) (F:List Nat) (path:List Int) (y:Pn) (bq oq:Nat) (Fa Fy Fz:List Nat) (w:World) (m:Mem) (φ:Pl):Prop where
 raw:RAW wi root p F [] w m φ
 pos:AtP w m p root 0 F path y bq oq Fa Fy Fz
theorem RAT.pM (wi:World) (root:Nat) (p:Pn) (F:List Nat) (path:List Int) (y:Pn) (bq oq:Nat) (Fa Fy Fz:List Nat):AH1 (RAT wi root p F path y bq oq Fa Fy Fz):=by
 intro w m φ w' m' φ' ha h;exact⟨RAW.pM wi root p F [] w m φ w' m' φ' ha h.raw,h.pos.frame ha.mle fun f hf j=>l8 (ha.block f (h.raw.all f hf).2.1 (h.raw.all f hf).2.2.1) j⟩
structure ADK (wi:World) (root:Nat) (p:Pn) (F:List Nat) (path:List Int) (y:Pn) (bq oq:Nat) (Fa Fy Fz:List Nat) (k:Nat) (wa:World) (ma:Mem) (w:World) (m:Mem) (φ:Pl):Prop where
 pos:AtP wa ma p root 0 F path y bq oq Fa Fy Fz
 le:MLe ma m
 own:∃ n,φ k=some (bq,n)
 bqn:wi.heap.size≤bq
 oth:∀ f∈root::F,f≠bq→wi.heap.size≤f∧f<w.heap.size∧lV φ f∧(∀ o,m f o=none)∧w.heap[f]?=wa.heap[f]?∧∃ (vs:List Value) (T:TypeId),wa.heap[f]?=some (.cells vs.toArray T (0,0))∧∀ v∈vs,v.oneCell'=true
theorem ADK.pM (wi:World) (root:Nat) (p:Pn) (F:List Nat) (path:List Int) (y:Pn) (bq oq:Nat) (Fa Fy Fz:List Nat) (k:Nat) (wa:World) (ma:Mem):AH1 (ADK wi root p F path y bq oq Fa Fy Fz k wa ma):=by
 intro w m φ w' m' φ' ha h;refine⟨h.pos,h.le.trans ha.mle,?_,h.bqn,fun f hf hne=>?_⟩
 ·obtain⟨n,e⟩:=h.own;obtain⟨n',e',_⟩:=ha.ple _ _ _ e;exact⟨n',e'⟩
 ·obtain⟨k1,k2,k3,k4,k5,k6⟩:=h.oth f hf hne;exact⟨k1,yV k2 ha.size,ha.range k2 k3,fun o=>(ha.mnew f k2 k3 o).trans (k4 o),(ha.block f k2 k3).trans k5,k6⟩
def TV (wi:World) (mi:Mem) (p:Pn) (e:Ending) (w:World):Prop :=
 ∃ v0 v1 v2 v3 v4 F m,e=.returned (.agg #[v0,v1,v2,v3,v4])∧(∀ v∈[v0,v1,v2,v3,v4],v.oneCell'=true)∧o8 w m∧Adv wi mi (fun _=>none) w m (fun _=>none)∧CPY wi p F v0 v1 v2 v3 v4 w m (fun _=>none)
theorem TV.tree {wi:World} {mi:Mem} {p:Pn} {e:Ending} {w:World} (h:TV wi mi p e w):bY wi mi (fun _=>none) (.i (.agg p.cells)) [] e w:=by
 classical
 obtain⟨v0,v1,v2,v3,v4,F,m,rfl,hone,hm,ha,hc⟩:=h
 let m':Mem:=fun f o=>if f∈F then w.cell? ⟨f,o,none⟩else m f o
 have hin:∀ f,f∈F→∀ o,m' f o=w.cell? ⟨f,o,none⟩:=fun f hf o=>by show(if f∈F then _ else _)=_;rw[if_pos hf]
 have hout:∀ f,f ∉ F→∀ o,m' f o=m f o:=fun f hf o=>by show(if f∈F then _ else _)=_;rw[if_neg hf]
 have hle:MLe m m':=fun f o v e=>by
  by_cases hf:f∈F
  ·rw[(hc.all f hf).2.2.2.1 o]at e;cases e
  ·rw[hout f hf];exact e
 have hmem:o8 w m':=fun f o v e=>by
  by_cases hf:f∈F
  ·rw[hin f hf]at e;exact e
  ·rw[hout f hf]at e;exact hm f o v e
 refine⟨_,m',fun _=>none,rfl, .i (.agg (hc.cells hle hin)),⟨hmem,fun id blk e=>by simp[bJ]at e,fun id id' b b' n n' blk blk' f e=>by simp[bJ]at e,fun _ _ _ _ e=>by cases e⟩,⟨ha.size,ha.os,ha.tape,ha.output,ha.block,ha.mle.trans hle,fun f hf hfr o=>?_, .refl _,fun _ _ _ _ e=>by cases e⟩,fun id h=>absurd rfl h⟩;rw[hout f (fun hf'=>by have:=(hc.all f hf').1;omega)];exact ha.mnew f hf hfr o
section
variable {C:Ctx} {wi:World} {mi:Mem} {nt:Nat}
theorem GR.ops (hS:SoundOk C) {ops:Array Oper} {Q:Exit→Act→World→Prop} {base:Nat} {js:List Nat} {R:World→Mem→Pl→Prop} (hR:AH1 R) (hs:ops.all (mW nt)=true) {os:List Oper} {i:Nat} {R0 R1:RS} {a:Act} {w:World} (hl:∀ j,j<os.length→os[j]?=ops[i+j]?) (hx:eH C (aG C) ops.toList false base os i R0=some R1)
 (h:GR wi mi nt (J6 base fun j=>j<i) R R0.env R0.st a w) (hQ:∀ a' w',GR wi mi nt (J6 base fun j=>j<i+os.length) R R1.env R1.st a' w'→wpOpsIn (FR none) 0 C.P ops Q js a' w'):wpOpsIn (FR none) 0 C.P ops Q (List.range' i os.length++js) a w:=by
 obtain⟨⟨m,φ,h1,h2,h3,h4,h5⟩,h6,h7⟩:=h;refine nS hS.ctx (bI hS) (fun o ho=>xC.1 hs o ho) os i R0 R1 a w hl hx ⟨⟨m,φ,h1,h2, .refl _ _ _,h4, .nil _ _ _⟩,h6,h7⟩ fun a' w' k=>hQ a' w' ?_
 obtain⟨⟨m',φ',k1,k2,k3,k4,_⟩,k5,k6⟩:=k;exact⟨⟨m',φ',k1,k2,h3.trans k3,k4,hR _ _ _ _ _ _ k3 h5⟩,k5,k6⟩
theorem GR.AMR (hS:SoundOk C) {ops:Array Oper} {Q:Exit→Act→World→Prop} {base:Nat} {js:List Nat} {R:World→Mem→Pl→Prop} (hR:AH1 R) (i k:Nat) (hk:decide (i+k≤ops.toList.length)=true) (hs:ops.all (mW nt)=true) {R0 R1:RS} {a:Act} {w:World} (hx:eH C (aG C) ops.toList false base ((ops.toList.drop i).take k) i R0=some R1)
 (h:GR wi mi nt (J6 base fun j=>j<i) R R0.env R0.st a w) (hQ:∀ a' w',GR wi mi nt (J6 base fun j=>j<i+k) R R1.env R1.st a' w'→wpOpsIn (FR none) 0 C.P ops Q js a' w'):wpOpsIn (FR none) 0 C.P ops Q (List.range' i k++js) a w:=by
 have hk:=zO hk;have hl:((ops.toList.drop i).take k).length=k:=by rw[yE,zG1];omega
 have:=GR.ops (js:=js) hS hR hs (os:=(ops.toList.drop i).take k) (i:=i) (fun j hj=>by
  rw[hl]at hj
  rw[zD,if_pos hj,yN,zB4]) hx h (by rw[hl];exact hQ)
 rwa [hl]at this
theorem OA {P:Program} {ops:Array Oper} {Q:Exit→Act→World→Prop} {K:Act→World→Prop} {i d:Nat} {g:FuncId} {args:Array Operand} {ts:Array TypeId} {a:Act} {w:World} {fn:Func} {o:Oper} (ho:ops[i]?=some o) (hop:o.op=.call ⟨.value (.func g),args,ts⟩) (hd:o.dst=some d) (hg:o.guard=none)
 (hf:P.funcs[g]?=some fn) (hn:fn.name≠ "runtime.NumGoroutine") (hb:fn.body.isSome=true) {vs:List Value} (hargs:args.toList.map a.eval=vs) (hc:Calls P g vs.toArray w fun e w'=>∃ y,e=.returned y∧K (a.put (some d) y) w'):wpOpIn (FR none) 0 P ops Q i K a w:=by
 obtain⟨dst,op,ty,pos,after,guard⟩:=o;simp only at hop hd hg;subst hop hd hg;have hmap:args.map a.eval=vs.toArray:=by apply Array.ext';simp[hargs]
 rw[← hmap]at hc;unfold wpOpIn;rw[ho];simp only[Region.wanted,if_true];refine⟨fun _ _=>trivial,?_⟩;rw[Oper.semAt_eq _ _ _ (fun c e=>by cases e)];have hbody:fn.body≠none:=by intro h;rw[h]at hb;cases hb
 have hrun:(execOp a.eval ⟨some d, .call ⟨.value (.func g),args,ts⟩,ty,pos,after,none⟩).run P w=.ok (.enter g (args.map a.eval)) w:=by
  unfold execOp;simp[resolve,Deferred.ofValue,Act.eval,invoke,callFunc,hf,hn,hbody]
 rw[hrun];rw[Oper.uponIn_enter];refine⟨fun h=>(by cases h),AB4 (hc.mono ?_)⟩;rintro e w' ⟨y,rfl,k⟩;exact k
theorem GR.put {ok:Nat→Prop} {R:World→Mem→Pl→Prop} {env:Nat→AV} {st:Store} {a:Act} {w:World} {d:Nat} {x:AV} {v:Value} (hd:d<nt) (h:GR wi mi nt ok R env st a w) (hr:∀ m φ,R w m φ→Rep m φ x v):GR wi mi nt ok R (upd env d x) st (a.put (some d) v) w:=by
 obtain⟨⟨m,φ,hi,henv,hadv,hok,hK⟩,hsz,hdf⟩:=h;exact⟨⟨m,φ,hi,nV (dst:=some d) henv hsz (by simpa [O5]using hd) (hr m φ hK),hadv,hok,hK⟩,by rw[nT];exact hsz,by rw[iM];exact hdf⟩
theorem GR.AeW {ok:Nat→Prop} {wx:World} {p:Pn} {F:List Nat} {v0 v1 v2 v3 v4:Value} {env:Nat→AV} {st st':Store} {a:Act} {w:World} {u id:Nat} (h:GR wi mi nt ok (CPY wx p F v0 v1 v2 v3 v4) env st a w) (hwx:wi.heap.size≤wx.heap.size) (hu:env u=.own id 0) (hbox:st id=some (.box (dW [v0,v1,v2,v3,v4])))
 (hst:∀ i blk,st' i=some blk→i≠id∧st i=some blk∧mG blk) :
 ∃ b3,∀ env',(∀ t,env' t=.junk∨(t=u∧env' t=.i (.lit (.pointer (some ⟨b3,0,none⟩))))∨(env' t=env t∧qM st' (env t)))→GR wi mi nt (fun i=>st' i≠none) (RAW wi b3 p F []) env' st' a w:=by
 obtain⟨⟨m,φ,hi,henv,hadv,hk,hc⟩,h6,h7⟩:=h;have hr:=henv u;rw[hu]at hr;generalize hy:a.tmps.getD u undef=yy at hr
 cases hr with
 | @own _ _ b3 n3 e3 =>
  obtain⟨hb,hok⟩:=eQ hi e3 hbox;have hst2:∀ i blk,st' i=some blk→st i=some blk∧mG blk:=fun i blk hb=>(hst i blk hb).2
  cases hok with
  | @box T _ vs hh hl hrc hm =>
   obtain rfl:=(sW hrc).symm;have hnF:b3 ∉ F:=fun hf=>(hc.all b3 hf).2.2.1 id b3 n3 e3 hb.1
   refine⟨b3,fun env' he=>⟨⟨m,CL st' φ,hi.AcY hst2,fun t=>?_,hadv.cut,fun i hi'=>?_,?_⟩,h6,h7⟩⟩
   ·rcases he t with e|⟨rfl,e⟩|⟨e,e'⟩
    ·rw[e];exact .junk _
    ·rw[e,hy];exact .i (.lit _)
    ·rw[e];exact e'.rep (fun i hi'=>qX hi') (henv t)
   ·cases hx:CL st' φ i with
    | none=>exact absurd hx hi'
    | some q=>exact(fD hx).2
   ·refine⟨hc.th (.refl _) (fun _ _ _=>rfl) ⟨by rw[bR hh];rfl,by rw[bR hh];rfl,by rw[bR hh];rfl,by rw[bR hh];rfl,by rw[bR hh];rfl⟩,hnF,hc.nd,fun f hf=>?_⟩
    rcases zP.1 hf with rfl|hf
    ·refine⟨KV hadv e3 hb.1,hb.2 _ hb.1,?_,hm,_,T,hh,hrc.one⟩;refine EC hi (fun i blk h=>(hst2 i blk h).1) hbox ?_ e3 hb.1
     cases hx:st' id with
     | none=>rfl
     | some blk=>exact absurd rfl (hst id blk hx).1
    ·obtain⟨q1,q2,q3,q4,q5⟩:=hc.all f hf;exact⟨Nat.le_trans hwx q1,q2,q3.cut,q4,q5⟩
theorem GR.AaB {ok:Nat→Prop} {root:Nat} {p:Pn} {F:List Nat} {env:Nat→AV} {st:Store} {a:Act} {w:World} {u k:Nat} (h:GR wi mi nt ok (RAW wi root p F []) env st a w) (hu:env u=.i (.lit (.pointer (some ⟨root,0,none⟩)))) (hk:st k=none) (hok:¬ ok k) :
 ∃ v0 v1 v2 v3 v4 post,(∀ v∈[v0,v1,v2,v3,v4],v.oneCell'=true)∧∀ env',(∀ t,env' t=.junk∨(t=u∧env' t=.own k 0)∨env' t=env t) →
   GR wi mi nt (fun id=>ok id∨id=k) (CPY wi p F v0 v1 v2 v3 v4) env' (upd st k (some (.box (dW [v0,v1,v2,v3,v4]++dW post)))) a w:=by
 obtain⟨⟨m,φ,hi,henv,hadv,hid,hr⟩,h6,h7⟩:=h;obtain⟨k1,k2,k3,k4,us,T,k5,k6⟩:=hr.all root (by simp);obtain⟨v0,v1,v2,v3,v4,h5,_,_,hth,hce⟩:=hr.th.cells;have gc:∀ {o:Nat} {v:Value},w.cell? ⟨root,o,none⟩=some v→us[o]?=some v:=fun h=>by rwa [bR k5]at h
 have hrow:=RF (gc h5.c0) (gc h5.c1) (gc h5.c2) (gc h5.c3) (gc h5.c4);simp only[zF1,xU,zB]at hrow
 have hφk:φ k=none:=by
  cases e:φ k with
  | none=>rfl
  | some q=>exact absurd (hid k (by rw[e];simp)) hok
 refine⟨v0,v1,v2,v3,v4,us.drop 5,fun v hv=>k6 v (by rw[hrow];exact yD _ hv),fun env' he=>?_⟩
 have hrep:RepC m (upd φ k (some (root,one root us.length))) (dW [v0,v1,v2,v3,v4]++dW (us.drop 5)) us:=by
  have h1:=rQ (m:=m) (φ:=upd φ k (some (root,one root us.length))) (vs:=us) k6
  have:dW us=dW [v0,v1,v2,v3,v4]++dW (us.drop 5):=by
   conv=>lhs;rw[hrow]
   simp[dW]
  rwa [this]at h1
 have hp:PLe φ (upd φ k (some (root,one root us.length))):=fun i r n e=>by
  refine⟨n,?_,rfl,fun _ h=>h⟩;have:i≠k:=fun h=>by rw[h,hφk]at e;cases e
  simp[upd,this,e]
 refine⟨⟨m,upd φ k (some (root,one root us.length)),hi.adopt hk hφk k3 k4 k5 hrep,fun t=>?_,hadv.adopt k1,fun id hne=>?_,?_⟩,h6,h7⟩
 ·rcases he t with e|⟨rfl,e⟩|e
  ·rw[e];exact .junk _
  ·have:=henv t;rw[hu]at this;rw[e,this.dG];exact .own (n:=one root us.length) (by simp[upd])
  ·rw[e];exact(henv t).mono (.refl _) hp
 ·by_cases e:id=k
  ·exact .inr e
  ·simp[upd,e]at hne;exact .inl (hid id hne)
 ·refine⟨hth,hce,hr.nd,fun f hf=>?_⟩;obtain⟨q1,q2,q3,q4,q5⟩:=hr.all f (by simp[hf]);refine⟨q1,q2,fun i r n e ho=>?_,q4,q5⟩;by_cases e2:i=k
  ·subst e2;simp[upd]at e;obtain⟨rfl,rfl⟩:=e;have:f=root:=ho;exact hr.nr (this ▸ hf)
  ·simp[upd,e2]at e;exact q3 i r n e ho
theorem GR.AaA {ok:Nat→Prop} {root:Nat} {p:Pn} {F:List Nat} {path:List Int} {y:Pn} {bq oq:Nat} {Fa Fy Fz:List Nat} {env:Nat→AV} {st st':Store} {a:Act} {w:World} {u k:Nat} (h:GR wi mi nt ok (RAT wi root p F path y bq oq Fa Fy Fz) env st a w) (hu:env u=.i (.lit (.pointer (some ⟨bq,oq,none⟩))))
 (hst:∀ i blk,st' i=some blk→st i=some blk∧mG blk) (hk:st' k=none) :
 ∃ pre row post ma,row.length=5∧pre.length=oq∧∀ env',(∀ t,env' t=.junk∨(t=u∧env' t=.own k oq)∨(env' t=env t∧qM st' (env t))) →
   GR wi mi nt (fun id=>st' id≠none∨id=k) (fun w' m' φ'=>ADK wi root p F path y bq oq Fa Fy Fz k w ma w' m' φ'∧(∃ T,w.heap[bq]?=some (.cells (pre++(row++post)).toArray T (0,0)))) env' (upd st' k (some (.box (mO pre (dW row) post)))) a w:=by
 obtain⟨⟨m,φ,hi,henv,hadv,hok,hr⟩,h6,h7⟩:=h;have hinF:=hr.pos.mem;obtain⟨k1,k2,k3,k4,us,T,k5,k6⟩:=hr.raw.all bq hinF;obtain⟨v0,v1,v2,v3,v4,h5,_,_,_,_⟩:=hr.pos.th.cells;have gc:∀ {o:Nat} {v:Value},w.cell? ⟨bq,o,none⟩=some v→us[o]?=some v:=fun h=>by rwa [bR k5]at h
 have hrow:=RF (gc h5.c0) (gc h5.c1) (gc h5.c2) (gc h5.c3) (gc h5.c4);have hl4:=(zY.1 (gc h5.c4)).1;have hi2:=hi.AcY hst;have hφk:CL st' φ k=none:=by unfold CL;rw[hk]
 have hfr:lV (CL st' φ) bq:=k3.cut;refine⟨us.take oq,[v0,v1,v2,v3,v4],us.drop (oq+5),m,rfl,by rw[yE];omega,fun env' he=>?_⟩
 have hrep:RepC m (upd (CL st' φ) k (some (bq,one bq us.length))) (mO (us.take oq) (dW [v0,v1,v2,v3,v4]) (us.drop (oq+5))) us:=by
  have h1:=rQ (m:=m) (φ:=upd (CL st' φ) k (some (bq,one bq us.length))) (vs:=us) k6
  have:dW us=mO (us.take oq) (dW [v0,v1,v2,v3,v4]) (us.drop (oq+5)):=by
   conv=>lhs;rw[hrow]
   simp[mO,dW]
  rwa [this]at h1
 have hp:PLe (CL st' φ) (upd (CL st' φ) k (some (bq,one bq us.length))):=fun i r n e=>by
  refine⟨n,?_,rfl,fun _ h=>h⟩;have:i≠k:=fun h=>by rw[h,hφk]at e;cases e
  simp[upd,this,e]
 refine⟨⟨m,upd (CL st' φ) k (some (bq,one bq us.length)),hi2.adopt hk hφk hfr k4 k5 hrep,fun t=>?_,(Adv.cut hadv).adopt k1,fun id hid=>?_,?_,?_⟩,h6,h7⟩
 ·rcases he t with e|⟨rfl,e⟩|⟨e,e'⟩
  ·rw[e];exact .junk _
  ·have:=henv t;rw[hu]at this;rw[e,this.dG];exact .own (n:=one bq us.length) (by simp[upd])
  ·rw[e];exact(e'.rep (fun i hi'=>qX hi') (henv t)).mono (.refl _) hp
 ·by_cases e:id=k
  ·exact .inr e
  ·simp[upd,e]at hid
   cases hx:CL st' φ id with
   | none=>exact absurd hx hid
   | some q=>exact .inl (fD hx).2
 ·refine⟨hr.pos, .refl _,⟨one bq us.length,by simp[upd]⟩,k1,fun f hf hne=>?_⟩;obtain⟨q1,q2,q3,q4,q5⟩:=hr.raw.all f hf;refine⟨q1,q2,fun i r n e ho=>?_,q4,rfl,q5⟩;by_cases e2:i=k
  ·subst e2;simp[upd]at e;obtain⟨rfl,rfl⟩:=e;exact hne ho
  ·simp[upd,e2]at e;exact q3 i r n (fD e).1 ho
 ·exact⟨T,by rw[← hrow];exact k5⟩
theorem GR.AcO {ok:Nat→Prop} {root:Nat} {p q:Pn} {F:List Nat} {path:List Int} {y:Pn} {bq oq:Nat} {Fa Fy Fz:List Nat} {env env':Nat→AV} {st st':Store} {a:Act} {w wa:World} {ma:Mem} {k:Nat} {pre row post:List Value}
 (h:GR wi mi nt ok (fun w' m' φ'=>ADK wi root p F path y bq oq Fa Fy Fz k wa ma w' m' φ'∧(∃ T,wa.heap[bq]?=some (.cells (pre++(row++post)).toArray T (0,0)))) env st a w) (hrl:row.length=5) (hpl:pre.length=oq) (hbox:st k=some (.box (mO pre (lZ q.cells) post)))
 (hst:∀ i blk,st' i=some blk→i≠k∧st i=some blk∧mG blk) (he:∀ t,env' t=.junk∨(env' t=env t∧qM st' (env t))) :
 GR wi mi nt (fun id=>st' id≠none) (RAW wi root (Pn.put path p q) (Fa++([]++Fz)) [((bq,oq),q)]) env' st' a w:=by
 obtain⟨⟨m,φ,hi,henv,hadv,hk,hr,T0,hrow0⟩,h6,h7⟩:=h;obtain⟨n2,e2⟩:=hr.own;obtain⟨hb2,hok2⟩:=eQ hi e2 hbox;have hst2:∀ i blk,st' i=some blk→st i=some blk∧mG blk:=fun i blk hb=>(hst i blk hb).2
 cases hok2 with
 | @box T _ vs hh hl hrc hm =>
  have hone:=hrc.one;obtain⟨vp,x,rfl,r1,r2⟩:=oN hrc;obtain⟨vr,vq,rfl,r3,r4⟩:=oN r2;obtain rfl:=(sW r1).symm;obtain rfl:=(sW r4).symm;have hc:=KF r3;have hlen:=hc.length;rw[Pn.eP]at hlen
  obtain⟨v0,v1,v2,v3,v4,rfl⟩:∃ v0 v1 v2 v3 v4,vr=[v0,v1,v2,v3,v4]:=by
   match vr,hlen with
   | [v0,v1,v2,v3,v4],_=>exact⟨v0,v1,v2,v3,v4,rfl⟩
  have hcell:∀ f∈root::F,f≠bq→∀ j,w.cell? ⟨f,j,none⟩=wa.cell? ⟨f,j,none⟩:=fun f hf hne j=>l8 (hr.oth f hf hne).2.2.2.2.1 j
  have sub:∀ f∈root::(Fa++([]++Fz)),f∈root::F:=fun f hf=>by
   rw[hr.pos.eq]
   rcases zP.1 hf with e|e
   ·simp[e]
   ·rcases zT.1 e with e|e
    ·simp[e]
    ·simp at e;simp[e]
  have g:∀ (i:Nat),i<5→(pre++([v0,v1,v2,v3,v4]++post))[oq+i]?=[v0,v1,v2,v3,v4][i]?:=fun i hi=>by
   rw[zN (by omega),zM (by simp;omega),hpl,xM]
  have far:∀ (r:List Value),r.length=5→∀ j,oq+5≤j→(pre++(r++post))[j]?=post[j-oq-5]?:=fun r hr j hj=>by
   rw[zN (by omega),zN (by omega),hr,hpl]
  have hth:TH w m (Pn.put path p q) root 0 (Fa++([]++Fz)) [((bq,oq),q)]:=by
   refine hr.pos.fill hr.le (fun f hf j hj=>?_) (.fresh hc ⟨?_,?_,?_,?_,?_⟩)
   ·by_cases hne:f=bq
    ·subst hne;rw[bR hh,bR hrow0]
     rcases hj with hj|hj|hj
     ·exact absurd rfl hj
     ·rw[zM (by omega),zM (by omega)]
     ·rw[far _ rfl j hj,far _ hrl j hj]
    ·refine hcell f ?_ hne j;rw[hr.pos.eq]
     rcases zP.1 hf with e|e
     ·simp[e]
     ·rcases zT.1 e with e|e<;>simp[e]
   ·rw[bR hh];exact g 0 (by omega)
   ·rw[bR hh];exact g 1 (by omega)
   ·rw[bR hh];exact g 2 (by omega)
   ·rw[bR hh];exact g 3 (by omega)
   ·rw[bR hh];exact g 4 (by omega)
  refine⟨⟨m,CL st' φ,hi.AcY hst2,fun x=>?_,hadv.cut,fun id hid=>?_,?_⟩,h6,h7⟩
  ·rcases he x with e|⟨e,e'⟩
   ·rw[e];exact .junk _
   ·rw[e];exact e'.rep (fun i hi'=>qX hi') (henv x)
  ·cases hx:CL st' φ id with
   | none=>exact absurd hx hid
   | some q=>exact(fD hx).2
  ·have hnd:=hr.pos.nd;rw[hr.pos.eq]at hnd;refine⟨hth,fun hm'=>?_,?_,fun f hf=>?_⟩
   ·have:=sub root (by simp);refine hr.pos.nr ?_;rw[hr.pos.eq]
    rcases zT.1 hm' with e|e
    ·simp[e]
    ·simp at e;simp[e]
   ·rw[xU];rw[yS]at hnd ⊢;refine⟨hnd.1,(yS.1 hnd.2.1).2.1,fun x hx z hz=>hnd.2.2 x hx z (by simp[hz])⟩
   ·have hf':=sub f hf;by_cases hne:f=bq
    ·subst hne;refine⟨hr.bqn,(z8.1 hh).1,?_,hm,_,T,hh,hone⟩;refine EC hi (fun i blk h=>(hst2 i blk h).1) hbox ?_ e2 hb2.1
     cases hx:st' k with
     | none=>rfl
     | some blk=>exact absurd rfl (hst k blk hx).1
    ·obtain⟨q1,q2,q3,q4,q5,vs',T',q6,q7⟩:=hr.oth f hf' hne;exact⟨q1,q2,q3.cut,q4,vs',T',by rw[q5];exact q6,q7⟩
theorem GR.AmG {ok:Nat→Prop} {root:Nat} {p:Pn} {F:List Nat} {H:PL} {env:Nat→AV} {st:Store} {a:Act} {w:World} (h:GR wi mi nt ok (RAW wi root p F H) env st a w) {u:Nat} (hu:env u=.i (.lit (.pointer (some ⟨root,0,none⟩)))) {env':Nat→AV} (he:∀ t,env' t=.junk∨(t=u∧env' t=.i (.iref p.cells))∨env' t=env t) :
 GR wi mi nt ok (fun _ _ _=>True) env' st a w:=by
 classical
 obtain⟨⟨m,φ,hi,henv,hadv,hk,hr⟩,h6,h7⟩:=h
 let m':Mem:=fun f o=>if f∈root::F then w.cell? ⟨f,o,none⟩else m f o
 have hin:∀ f,f∈root::F→∀ o,m' f o=w.cell? ⟨f,o,none⟩:=fun f hf o=>by show(if f∈root::F then _ else _)=_;rw[if_pos hf]
 have hout:∀ f,f ∉ root::F→∀ o,m' f o=m f o:=fun f hf o=>by show(if f∈root::F then _ else _)=_;rw[if_neg hf]
 have hle:MLe m m':=fun f o v e=>by
  by_cases hf:f∈root::F
  ·rw[(hr.all f hf).2.2.2.1 o]at e;cases e
  ·rw[hout f hf];exact e
 have hmem:o8 w m':=fun f o v e=>by
  by_cases hf:f∈root::F
  ·rw[hin f hf]at e;exact e
  ·rw[hout f hf]at e;exact hi.mem f o v e
 have hat:IAt m' root 0 p.cells:=hr.th.AdU hle (fun j _ _=>hin root (by simp) j) (fun f hf j=>hin f (by simp[hf]) j);refine⟨⟨m',φ,⟨hmem,fun i blk hb=>?_,hi.inj,hi.low⟩,fun t=>?_,⟨hadv.size,hadv.os,hadv.tape,hadv.output,hadv.block,hadv.mle.trans hle,fun f hf hfr o=>?_,hadv.ple,hadv.pnew⟩,hk,trivial⟩,h6,h7⟩
 ·obtain⟨b,n,q1,q2,q3⟩:=hi.live i blk hb;exact⟨b,n,q1,q2,q3.mono q2.1 (fun _ _=>rfl) hle (.refl _) fun f hf o=>hout f (fun hf'=>(hr.all f hf').2.2.1 i b n q1 hf) o⟩
 ·rcases he t with e|⟨rfl,e⟩|e
  ·rw[e];exact .junk _
  ·have hx:=henv t;rw[hu]at hx;rw[e,hx.dG];exact .i (.iref hat)
  ·rw[e];exact(henv t).mono hle (.refl _)
 ·rw[hout f (fun hf'=>by have:=(hr.all f hf').1;omega)];exact hadv.mnew f hf hfr o
end
theorem EB:∀ {l m:List Int},aH l=aH m→l=m:=by
 intro l
 induction l with
 | nil=>intro m h;cases m with
  | nil=>rfl
  | cons b m=>simp[aH]at h
 | cons a l ih=>intro m h;cases m with
  | nil=>simp[aH]at h
  | cons b m =>
   simp only[aH,List.cons.injEq]at h;rw[show a=b by simpa using h.1,ih h.2]
theorem Ex.AGG:∀ (a b:Ex),a.cells=b.cells→a=b:=by
 intro a
 induction a using Ex.ind with
 | h k c v ks ih =>
  intro b h;obtain⟨k',c',v',ks'⟩:=b
  have key:∀ {l m:List Ex},(∀ a∈l,∀ b,a.cells=b.cells→a=b)→Ex.aB l=Ex.aB m→l=m:=by
   intro l
   induction l with
   | nil=>intro m _ h;cases m with
    | nil=>rfl
    | cons b m=>simp[Ex.aB]at h
   | cons a l ihl=>intro m hi h;cases m with
    | nil=>simp[Ex.aB]at h
    | cons b m =>
     simp only[Ex.aB,List.cons.injEq]at h;rw[hi a (by simp) b h.1,ihl (fun x hx=>hi x (by simp[hx])) h.2]
  rw[Ex.aA,Ex.aA]at h;simp only[List.cons.injEq,IV.lit.injEq,Value.int.injEq,Value.bool.injEq,IV.isl.injEq,true_and,and_true]at h;obtain⟨h1,h2,h3,h4,h5⟩:=h;have h5:=key ih h5;obtain⟨b1,n1⟩:=v;obtain⟨b2,n2⟩:=v';simp only[Ex.kind,Ex.col,Ex.val,Ex.kids]at h1 h2 h3 h4 h5;subst h1 h2 h3 h4 h5;rfl
theorem Ex.AB3:∀ {l m:List Ex},Ex.aB l=Ex.aB m→l=m:=by
 intro l
 induction l with
 | nil=>intro m h;cases m with
  | nil=>rfl
  | cons b m=>simp[Ex.aB]at h
 | cons a l ihl=>intro m h;cases m with
  | nil=>simp[Ex.aB]at h
  | cons b m =>
   simp only[Ex.aB,List.cons.injEq]at h;rw[Ex.AGG a b h.1,ihl h.2]
theorem Pn.ALO:∀ (a b:Pn),a.cells=b.cells→a=b:=by
 intro a
 induction a using Pn.ind with
 | h k t es cs ks ih =>
  intro b h;obtain⟨k',t',es',cs',ks'⟩:=b
  have key:∀ {l m:List Pn},(∀ a∈l,∀ b,a.cells=b.cells→a=b)→Pn.aB l=Pn.aB m→l=m:=by
   intro l
   induction l with
   | nil=>intro m _ h;cases m with
    | nil=>rfl
    | cons b m=>simp[Pn.aB]at h
   | cons a l ihl=>intro m hi h;cases m with
    | nil=>simp[Pn.aB]at h
    | cons b m =>
     simp only[Pn.aB,List.cons.injEq]at h;rw[hi a (by simp) b h.1,ihl (fun x hx=>hi x (by simp[hx])) h.2]
  rw[Pn.aZ,Pn.aZ]at h;simp only[List.cons.injEq,IV.lit.injEq,Value.int.injEq,IV.isl.injEq,true_and,and_true]at h;obtain⟨h1,h2,h3,h4,h5⟩:=h;rw[h1,h2,Ex.AB3 h3,EB h4,key ih h5]
def apO (p:Pn) (ws:List Int) (r:Int) (path:List Int):Option Pn:=if p.width ws=0 then none else apI ws r path p
def apR:Option Pn→AV×StL
 | some q=>(.tup [.i (.agg q.cells), .bool true],[])
 | none=>(.tup [.i (.agg Pn.zero.cells), .bool false],[])
def ApA (args:List AV) (x:Pn×List Int×Int×List Int):Prop:=args=[.i (.agg x.1.cells), .i (.isl (aH x.2.1)), .i (.agg [.int x.2.2.1, .isl (aH x.2.2.2)])]
noncomputable def BB:List AV→StL→Option (AV×StL)
 | args,[]=>open Classical in if h:∃ x,ApA args x then some (apR (apO h.choose.1 h.choose.2.1 h.choose.2.2.1 h.choose.2.2.2))else none
 | _,_=>none
theorem ApA.inj {args:List AV} {x y:Pn×List Int×Int×List Int} (hx:ApA args x) (hy:ApA args y):x=y:=by
 unfold ApA at hx hy;rw[hx]at hy;simp only[List.cons.injEq,AV.i.injEq,IV.agg.injEq,IV.isl.injEq,IV.lit.injEq,Value.int.injEq,true_and,and_true]at hy;obtain⟨h1,h2,h3,h4⟩:=hy;obtain⟨a,b,c,d⟩:=x;obtain⟨a',b',c',d'⟩:=y;simp only at h1 h2 h3 h4;rw[Pn.ALO _ _ h1,EB h2,h3,EB h4]
theorem YH (p:Pn) (ws:List Int) (r:Int) (path:List Int):BB [.i (.agg p.cells), .i (.isl (aH ws)), .i (.agg [.int r, .isl (aH path)])] []=some (apR (apO p ws r path)):=by
 have h:∃ x,ApA [.i (.agg p.cells), .i (.isl (aH ws)), .i (.agg [.int r, .isl (aH path)])] x:=⟨(p,ws,r,path),rfl⟩
 unfold BB;simp only;rw[dif_pos h];have:=h.choose_spec.inj (y:=(p,ws,r,path)) rfl;rw[this]
theorem AB9 {args:List AV} {st:StL} {q:AV×StL} (h:BB args st=some q):∃ p ws r path,args=[.i (.agg (Pn.cells p)), .i (.isl (aH ws)), .i (.agg [.int r, .isl (aH path)])]∧st=[]∧q=apR (apO p ws r path):=by
 unfold BB at h;split at h
 ·split at h
  ·rename_i hx;injection h with h;exact⟨_,_,_,_,hx.choose_spec,rfl,h.symm⟩
  ·cases h
 ·cases h
theorem uH {p:Pn} {ws:List Int} (h:p.width ws≠0):pO ws=true∧p.wd ws 8≠0:=by
 unfold Pn.width at h;by_cases hw:pO ws=true
 ·rw[if_pos hw]at h;exact⟨hw,h⟩
 ·rw[if_neg hw]at h;exact absurd rfl h
noncomputable def AXS (C:Ctx) (G:List Nat) (na:Nat) (b:Code) (S:AS):XR:=cK C G na b S
@[simp] theorem AX1 {C:Ctx} {G:List Nat} {na:Nat} (a b:Code) (S:AS):cK C G na (.seq a b) S=AEN (cK C G na a S) (AXS C G na b):=AKY a b
@[simp] theorem AaR {C:Ctx} {G:List Nat} {na:Nat} (b:Code) (e:List (Nat×AV)) (st:StL):AXS C G na b ⟨e,st⟩=cK C G na b ⟨e,st⟩:=(rfl)
def ALF (C:Ctx) (call:eY) (all:List Oper) (draw:Bool) (base:Nat) (os:List Oper) (i:Nat) (env:Nat→AV) (dst:Option Tmp) (log:List (Nat×List Nat×Bool)) (p:AV×Store):Option RS:=eH C call all draw base os i ⟨CK env dst p.1,p.2,log⟩
@[simp] theorem AbI {C:Ctx} {call:eY} (all:List Oper) (draw:Bool) (base:Nat) (os:List Oper) (i:Nat) (env:Nat→AV) (dst:Option Tmp) (log:List (Nat×List Nat×Bool)) (v:AV) (st:Store):ALF C call all draw base os i env dst log (v,st)=eH C call all draw base os i ⟨CK env dst v,st,log⟩:=(rfl)
attribute [simp] AAQ XL AG2 AAR AFZ AKZ AG1 AHL
@[simp] theorem AWA (k:Nat):iB k []=true:=(rfl)
@[simp] theorem ASM (k:Nat) (e:List IV) (es:List (List IV)):iB k (e::es)=(e.length == k && iB k es):=(rfl)
@[simp] theorem ARG:kU (.slice none 0 0)=.nils:=(rfl)
@[simp] theorem AWT:FB (.slice none 0 0)=.nils:=(rfl)
@[simp] theorem ARH (b:Bool):kU (.bool b)=.i (.lit (.bool b)):=(rfl)
@[simp] theorem AWU (b:Bool):FB (.bool b)=.i (.lit (.bool b)):=(rfl)
@[simp] theorem AS7 (b:Bool):cellsOf (.i (.lit (.bool b)))=some [.i (.lit (.bool b))]:=(rfl)
@[simp] theorem AU8 (k:IntKind) (n:Int):kU (.int k n)=.i (.lit (.int k n)):=(rfl)
@[simp] theorem AZ0 (k:IntKind) (n:Int):FB (.int k n)=.i (.lit (.int k n)):=(rfl)
@[simp] theorem AVL (k:IntKind) (n:Int):cellsOf (.i (.lit (.int k n)))=some [.i (.lit (.int k n))]:=(rfl)
@[simp] theorem AMS (s:ByteArray):kU (.string s)=.i (.lit (.string s)):=(rfl)
@[simp] theorem ARI (s:ByteArray):FB (.string s)=.i (.lit (.string s)):=(rfl)
@[simp] theorem AMY (s:ByteArray):cellsOf (.i (.lit (.string s)))=some [.i (.lit (.string s))]:=(rfl)
@[simp] theorem AK5 (a:Option Addr):kU (.pointer a)=.i (.lit (.pointer a)):=(rfl)
@[simp] theorem AON (a:Option Addr):FB (.pointer a)=.i (.lit (.pointer a)):=(rfl)
@[simp] theorem ALP (a:Option Addr):cellsOf (.i (.lit (.pointer a)))=some [.i (.lit (.pointer a))]:=(rfl)
@[simp] theorem AU7 (r:Option Nat):kU (.map r)=.i (.lit (.map r)):=(rfl)
@[simp] theorem AYZ (r:Option Nat):FB (.map r)=.i (.lit (.map r)):=(rfl)
@[simp] theorem AVJ (r:Option Nat):cellsOf (.i (.lit (.map r)))=some [.i (.lit (.map r))]:=(rfl)
@[simp] theorem AK6 :kU (.nilFunc)=.i (.lit (.nilFunc)):=(rfl)
@[simp] theorem AOO :FB (.nilFunc)=.i (.lit (.nilFunc)):=(rfl)
@[simp] theorem ALQ :cellsOf (.i (.lit (.nilFunc)))=some [.i (.lit (.nilFunc))]:=(rfl)
@[simp] theorem AHA :kU (.nilIface)=.i (.lit (.nilIface)):=(rfl)
@[simp] theorem AMU :FB (.nilIface)=.i (.lit (.nilIface)):=(rfl)
@[simp] theorem AHC :cellsOf (.i (.lit (.nilIface)))=some [.i (.lit (.nilIface))]:=(rfl)
@[simp] theorem AOM (a:Array Value):kU (.tuple a)=.i (.lit (.tuple a)):=(rfl)
@[simp] theorem AUA (a:Array Value):FB (.tuple a)=.i (.lit (.tuple a)):=(rfl)
@[simp] theorem AZ1 (cs:Array Value):FB (.agg cs)=WN (fI cs.toList):=(rfl)
attribute [simp] fI.eq_1 fI.eq_2 cellsOf.eq_3 cellsOf.eq_4
@[simp] theorem AS5 :cellsOf .nils=some [.nils]:=(rfl)
@[simp] theorem AVH (i o:Nat):cellsOf (.own i o)=some [(.own i o)]:=(rfl)
@[simp] theorem AS4 (i k j o:Nat):cellsOf (.ownE i k j o)=some [(.ownE i k j o)]:=(rfl)
@[simp] theorem AVI (i k o l:Nat):cellsOf (.osl i k o l)=some [(.osl i k o l)]:=(rfl)
@[simp] theorem AX8 (f:Fn) (cs:List AV):cellsOf (.fn f cs)=some [(.fn f cs)]:=(rfl)
@[simp] theorem APR (a:Option Addr) (l c:Nat):cellsOf (.i (.lit (.slice a l c)))=some [(.i (.lit (.slice a l c)))]:=(rfl)
@[simp] theorem AVK (es:List (List IV)):cellsOf (.i (.isl es))=some [(.i (.isl es))]:=(rfl)
@[simp] theorem AS6 (cs:List IV):cellsOf (.i (.iref cs))=some [(.i (.iref cs))]:=(rfl)
@[simp] theorem AX7  (x:Option (List IV)):TF .nils x=none:=by cases x<;>rfl
@[simp] theorem AZD (st:Store) :tJ st .nils=bnd (frz st BO .nils) fun p=>some (p.1,jX st p.2):=(rfl)
@[simp] theorem AVX (st:Store) :jY st .nils=bnd (tJ st .nils) fun p=>some (.i p.1,p.2):=(rfl)
@[simp] theorem AZO (i o:Nat) (x:Option (List IV)):TF (.own i o) x=none:=by cases x<;>rfl
@[simp] theorem AbC (st:Store) (i o:Nat):tJ st (.own i o)=bnd (frz st BO (.own i o)) fun p=>some (p.1,jX st p.2):=(rfl)
@[simp] theorem AXC (st:Store) (i o:Nat):jY st (.own i o)=bnd (tJ st (.own i o)) fun p=>some (.i p.1,p.2):=(rfl)
@[simp] theorem AZP (i k o l:Nat) (x:Option (List IV)):TF (.osl i k o l) x=none:=by cases x<;>rfl
@[simp] theorem AbD (st:Store) (i k o l:Nat):tJ st (.osl i k o l)=bnd (frz st BO (.osl i k o l)) fun p=>some (p.1,jX st p.2):=(rfl)
@[simp] theorem AXD (st:Store) (i k o l:Nat):jY st (.osl i k o l)=bnd (tJ st (.osl i k o l)) fun p=>some (.i p.1,p.2):=(rfl)
@[simp] theorem AbK (f:Fn) (cs:List AV) (x:Option (List IV)):TF (.fn f cs) x=none:=by cases x<;>rfl
@[simp] theorem AbE (st:Store) (cs:List AV):tJ st (.agg cs)=bnd (frz st BO (.agg cs)) fun p=>some (p.1,jX st p.2):=(rfl)
@[simp] theorem AXE (st:Store) (cs:List AV):jY st (.agg cs)=bnd (tJ st (.agg cs)) fun p=>some (.i p.1,p.2):=(rfl)
@[simp] theorem AdE (v:IV) (l:List IV):TF (.i v) (some l)=some (v::l):=(rfl)
@[simp] theorem AbJ (v:IV):TF (.i v) none=none:=(rfl)
@[simp] theorem AdV (st:Store) (v:IV):tJ st (.i v)=some (v,st):=(rfl)
@[simp] theorem AbN (st:Store) (v:IV):jY st (.i v)=some (.i v,st):=(rfl)
@[simp] theorem Aa5 (st:Store) (f:Fn) (cs:List AV):jY st (.fn f cs)=some (.fn f cs,st):=(rfl)
@[simp] theorem AXF:EM (some .strct)=some true:=(rfl)
@[simp] theorem AXG (e:TypeId):EM (some (.slice e))=some false:=(rfl)
@[simp] theorem AbO (k:IntKind):EM (some (.int k))=some false:=(rfl)
@[simp] theorem AW5:EM (some .string)=some false:=(rfl)
@[simp] theorem Aa9:EM (some .bool)=some false:=(rfl)
@[simp] theorem AXH:EM (some .other)=some false:=(rfl)
@[simp] theorem AXI (n:Nat) (e:TypeId):EM (some (.array n e))=some true:=(rfl)
@[simp] theorem AUT:fU .add=false:=(rfl)
@[simp] theorem AUG:fU .sub=false:=(rfl)
@[simp] theorem AUM:fU .mul=false:=(rfl)
@[simp] theorem AUK:fU .quo=false:=(rfl)
@[simp] theorem AUJ:fU .rem=false:=(rfl)
@[simp] theorem AUS:fU .and=false:=(rfl)
@[simp] theorem AWY:fU .or=false:=(rfl)
@[simp] theorem AUF:fU .xor=false:=(rfl)
@[simp] theorem AMV:fU .andNot=false:=(rfl)
@[simp] theorem AUR:fU .eql=false:=(rfl)
@[simp] theorem AUL:fU .neq=false:=(rfl)
@[simp] theorem AUN:fU .lss=false:=(rfl)
@[simp] theorem AUO:fU .leq=false:=(rfl)
@[simp] theorem AUP:fU .gtr=false:=(rfl)
@[simp] theorem AUQ:fU .geq=false:=(rfl)
@[simp] theorem AUI:fU .shl=true:=(rfl)
@[simp] theorem AUH:fU .shr=true:=(rfl)
@[simp] theorem AaX:P7 []=.tup []:=(rfl)
@[simp] theorem AaW (v:AV):P7 [v]=v:=(rfl)
@[simp] theorem AaV (a b:AV) (l:List AV):P7 (a::b::l)=.tup (a::b::l):=(rfl)
attribute [simp] vJ.eq_1 vJ.eq_2 fO.eq_1 fO.eq_2 fO.eq_3
section
variable (C:Ctx) (call:eY) (env:Nat→AV) (st:Store) (nb:Nat)
@[simp] theorem AT1 (x:Operand):dN C call (.move x) env st nb=some (ev env x,st):=(rfl)
@[simp] theorem ANN (x:Operand):dN C call (.assign x) env st nb=some (ev env x,st):=(rfl)
@[simp] theorem AT0 (c a b:Operand):dN C call (.pick c a b) env st nb=bnd (AJE (ev env a) (ev env b) (ev env c)) fun v=>some (v,st):=(rfl)
@[simp] theorem AQY (t:TypeId):dN C call (.alloc t) env st nb=bnd (zeroOf C.P t) fun z=>some (.own nb 0,upd st nb (some (.box (fI z)))):=(rfl)
@[simp] theorem AWK (t:TypeId) (x:Operand):dN C call (.box t x) env st nb=bnd (cellsOf (ev env x)) fun cs=>some (.own nb 0,upd st nb (some (.box cs))):=(rfl)
@[simp] theorem AQW (t:TypeId) (ps:Array (Nat×Operand)):dN C call (.build t ps) env st nb=bnd (EM (bO C.P t)) fun g=>tst g (bnd (zeroOf C.P t) fun z=>bnd (partsOf env ps.toList) fun ps=>bnd (SS (KN C.P t) (fI z) ps) fun cs=>some (WN cs,st)):=(rfl)
@[simp] theorem AE9 (t:TypeId) (n:Nat) (ps:Array (Nat×Operand)):dN C call (.buildSlice t n ps) env st nb=bnd (BS (bO C.P t)) fun e=>bnd (partsOf env ps.toList) fun ps=>qA C e n st nb ps:=(rfl)
@[simp] theorem AT2 (t:TypeId) (a:Operand):dN C call (.load t a) env st nb=bnd (LC C t (ev env a) st) fun v=>some (v,st):=(rfl)
@[simp] theorem AQR (t:TypeId) (a x:Operand):dN C call (.store t a x) env st nb=bnd (GK C t (ev env a) (ev env x) st) fun st1=>some (.i (.lit undef),st1):=(rfl)
@[simp] theorem AHW (x:Operand):dN C call (.nilCheck x) env st nb=bnd (AOG (ev env x)) fun v=>some (v,st):=(rfl)
@[simp] theorem AQX (op:BinOp) (t:TypeId) (x y:Operand) (u:TypeId):dN C call (.binOp op t x y u) env st nb=bnd (AQ0 C op t (ev env x) (ev env y)) fun v=>some (.i v,st):=(rfl)
@[simp] theorem ASZ (op:UnOp) (t:TypeId) (x:Operand):dN C call (.unOp op t x) env st nb=bnd (unA op (ev env x)) fun v=>some (.i v,st):=(rfl)
@[simp] theorem AMN (s d:TypeId) (x:Operand):dN C call (.convert s d x) env st nb=bnd (AGA (bO C.P s) (bO C.P d) (ev env x)) fun v=>some (v,st):=(rfl)
@[simp] theorem AH5 (t:TypeId) (l c:Operand):dN C call (.makeSlice t l c) env st nb=AA0 C t st nb (ev env l) (ev env c):=(rfl)
@[simp] theorem AQS (t:TypeId) (x:Operand) (lo hi:Option Operand):dN C call (.slice t x lo hi none) env st nb=bnd (GL C t (evO env lo) (evO env hi) (ev env x)) fun v=>some (v,st):=(rfl)
@[simp] theorem AH7 (s:TypeId) (x:Operand) (f:Nat):dN C call (.fieldAddr s x f) env st nb=bnd (gN C.P s f) fun p=>bnd (jW C.P p.1) fun n=>tst (decide (0<n)) (bnd (l5 p.2 (ev env x)) fun v=>some (v,st)):=(rfl)
@[simp] theorem AQU (s:TypeId) (x:Operand) (f:Nat):dN C call (.field s x f) env st nb=bnd (gN C.P s f) fun p=>bnd (jW C.P p.1) fun n=>bnd (EM (bO C.P p.1)) fun g=>bnd (QC p.2 n g (ev env x)) fun v=>some (v,st):=(rfl)
@[simp] theorem AH6 (t:TypeId) (x i:Operand):dN C call (.indexAddr t x i) env st nb=bnd (oD C (ev env x) (ev env i) (bO C.P t)) fun v=>some (v,st):=(rfl)
@[simp] theorem AQT (t:TypeId) (x i:Operand):dN C call (.index t x i) env st nb=bnd (PZ C (ev env i) (bO C.P t) (ev env x)) fun v=>some (v,st):=(rfl)
@[simp] theorem AMM (x:Operand) (j:Nat):dN C call (.extract x j) env st nb=bnd (ED j (ev env x)) fun v=>some (v,st):=(rfl)
@[simp] theorem AHX (f:Fn) (fs cs:Array Operand):dN C call (.makeFunc f fs cs) env st nb=tst fs.toList.isEmpty (bnd (AOH (evL env cs.toList) f) fun v=>some (v,st)):=(rfl)
@[simp] theorem AWS (cs:List AV) (g:FuncId):AOH cs (.func g)=some (.fn (.func g) cs):=(rfl)
@[simp] theorem AMO (b:Builtin) (as1:Array Operand) (ts:Array TypeId):dN C call (.call ⟨.builtin b,as1,ts⟩) env st nb=jV C st nb b ts.toList (evL env as1.toList):=(rfl)
@[simp] theorem AQV (f:Operand) (as1:Array Operand) (ts:Array TypeId):dN C call (.call ⟨.value f,as1,ts⟩) env st nb=NL C call (evL env as1.toList) st nb (ev env f):=(rfl)
@[simp] theorem ASV (x:Operand):bP env (.move x)=([],true):=(rfl)
@[simp] theorem ANC (x:Operand):bP env (.assign x)=([],true):=(rfl)
@[simp] theorem ASU (c a b:Operand):bP env (.pick c a b)=([],true):=(rfl)
@[simp] theorem AQN (t:TypeId):bP env (.alloc t)=([],true):=(rfl)
@[simp] theorem AWG (t:TypeId) (x:Operand):bP env (.box t x)=([],true):=(rfl)
@[simp] theorem AQL (t:TypeId) (ps:Array (Nat×Operand)):bP env (.build t ps)=([],true):=(rfl)
@[simp] theorem AHN (x:Operand):bP env (.nilCheck x)=([],true):=(rfl)
@[simp] theorem AQM (op:BinOp) (t:TypeId) (x y:Operand) (u:TypeId):bP env (.binOp op t x y u)=([],true):=(rfl)
@[simp] theorem AST (op:UnOp) (t:TypeId) (x:Operand):bP env (.unOp op t x)=([],true):=(rfl)
@[simp] theorem AML (s d:TypeId) (x:Operand):bP env (.convert s d x)=([],true):=(rfl)
@[simp] theorem AH2 (t:TypeId) (l c:Operand):bP env (.makeSlice t l c)=([],true):=(rfl)
@[simp] theorem AQI (t:TypeId) (x:Operand) (lo hi:Option Operand):bP env (.slice t x lo hi none)=([],true):=(rfl)
@[simp] theorem AH4 (s:TypeId) (x:Operand) (f:Nat):bP env (.fieldAddr s x f)=([],true):=(rfl)
@[simp] theorem AQK (s:TypeId) (x:Operand) (f:Nat):bP env (.field s x f)=([],true):=(rfl)
@[simp] theorem AH3 (t:TypeId) (x i:Operand):bP env (.indexAddr t x i)=([],true):=(rfl)
@[simp] theorem AQJ (t:TypeId) (x i:Operand):bP env (.index t x i)=([],true):=(rfl)
@[simp] theorem AMK (x:Operand) (j:Nat):bP env (.extract x j)=([],true):=(rfl)
@[simp] theorem AHO (f:Fn) (fs cs:Array Operand):bP env (.makeFunc f fs cs)=([],true):=(rfl)
attribute [simp] bP.eq_1 bP.eq_2 bP.eq_3 bP.eq_4 bP.eq_5 bP.eq_6
@[simp] theorem AWF (as1:Array Operand) (ts:Array TypeId):bP env (.call ⟨.builtin .len,as1,ts⟩)=([],true):=(rfl)
@[simp] theorem AWD (as1:Array Operand) (ts:Array TypeId):bP env (.call ⟨.builtin .min,as1,ts⟩)=([],true):=(rfl)
@[simp] theorem AWE (as1:Array Operand) (ts:Array TypeId):bP env (.call ⟨.builtin .max,as1,ts⟩)=([],true):=(rfl)
@[simp] theorem AaT (args:List AV) (g:FuncId) (cs:List AV):NL C call args st nb (.fn (.func g) cs)=if g=1000000007 then none else iD call (C.ownArgs g) g (args++cs) st nb:=(rfl)
@[simp] theorem AXZ (args:List AV) (id:Nat):NL C call args st nb (.fn (.yield 0) [.own id 0])=iD call true sF (.fn (.yield 0) [.own id 0]::args) st nb:=(rfl)
variable (all:List Oper) (base i:Nat) (log:List (Nat×List Nat×Bool)) (dst:Option Tmp) (op:Op) (ty:TypeId) (pos:String) (after:Array Edge) (os:List Oper)
@[simp] theorem AYK (t:Tmp) (v:AV):CK env (some t) v=upd env t v:=(rfl)
@[simp] theorem AYL (v:AV):CK env none v=env:=(rfl)
@[simp] theorem AWN (draw:Bool) (R:RS):eH C call all draw base [] i R=some R:=(rfl)
@[simp] theorem AY9:eH C call all false base (⟨dst,op,ty,pos,after,none⟩::os) i ⟨env,st,log⟩ =
 bnd (dN C call op env st (base+8*i)) (ALF C call all false base os (i+1) env dst []):=(rfl)
@[simp] theorem AY8 (g:Nat×Bool):eH C call all false base (⟨dst,op,ty,pos,after,some g⟩::os) i ⟨env,st,log⟩ =
 bnd (U7 env g.2 ((all[g.1]?).bind (·.dst))) fun b=>if b=true then bnd (dN C call op env st (base+8*i)) (ALF C call all false base os (i+1) env dst [])
  else eH C call all false base os (i+1) ⟨CK env dst (.i (.lit undef)),st,log⟩:=(rfl)
@[simp] theorem AY7:eH C call all true base (⟨dst,op,ty,pos,after,none⟩::os) i ⟨env,st,log⟩ =
 tst (AZS base all ⟨dst,op,ty,pos,after,none⟩ st (bP env op).1 (GD st (bP env op)).1 (bP env op).2 log)
  (bnd (dN C call op env st (base+8*i)) (ALF C call all true base os (i+1) env dst (NB i (bP env op).2 log (GD st (bP env op)).1))):=(rfl)
@[simp] theorem AY6 (g:Nat×Bool):eH C call all true base (⟨dst,op,ty,pos,after,some g⟩::os) i ⟨env,st,log⟩ =
 bnd (U7 env g.2 ((all[g.1]?).bind (·.dst))) fun b=>if b=true then
  tst (AZS base all ⟨dst,op,ty,pos,after,some g⟩ st (bP env op).1 (GD st (bP env op)).1 (bP env op).2 log)
   (bnd (dN C call op env st (base+8*i)) (ALF C call all true base os (i+1) env dst (NB i (bP env op).2 log (GD st (bP env op)).1)))
  else eH C call all true base os (i+1) ⟨CK env dst (.i (.lit undef)),st,log⟩:=(rfl)
end
attribute [simp] aW.eq_1 aW.eq_2
attribute [simp] bJ.eq_1 bJ.eq_2 bJ.eq_3
attribute [simp] AN1.eq_1 AN1.eq_2
attribute [simp] AW4.eq_1 AW4.eq_2
attribute [simp] WN.eq_1
attribute [simp] lZ.eq_1 lZ.eq_2
attribute [simp] sU.eq_1 sU.eq_2
attribute [simp] jP.eq_1 jP.eq_2
attribute [simp] dropE.eq_1 dropE.eq_2 dropE.eq_3
attribute [simp] A7.eq_1 A7.eq_2 A7.eq_3
attribute [simp] cut.eq_1
attribute [simp] splice.eq_1 splice.eq_2 splice.eq_3 splice.eq_4 splice.eq_5
attribute [simp] BS.eq_1
attribute [simp] AB.eq_1 AB.eq_2
attribute [simp] frz.eq_1 frz.eq_2 frz.eq_3 frz.eq_4 frz.eq_5 frz.eq_6
attribute [simp] I9.eq_1 I9.eq_2 I9.eq_3
attribute [simp] Q6.eq_1 Q6.eq_2 Q6.eq_3
attribute [simp] BO.eq_1
attribute [simp] jX.eq_1 jX.eq_2
attribute [simp] oU.eq_1 oU.eq_2
attribute [simp] eZ.eq_1 eZ.eq_2 eZ.eq_3 eZ.eq_4 eZ.eq_5 eZ.eq_6 eZ.eq_7 eZ.eq_8 eZ.eq_9
attribute [simp] bF.eq_1 bF.eq_2
attribute [simp] kX.eq_1 kX.eq_2 kX.eq_3 kX.eq_4 kX.eq_5 kX.eq_6 kX.eq_7
attribute [simp] ren.eq_1 ren.eq_2 ren.eq_3 ren.eq_4 ren.eq_5 ren.eq_6 ren.eq_7 ren.eq_8 ren.eq_9
attribute [simp] AO.eq_1 AO.eq_2
attribute [simp] NS.eq_1 NS.eq_2 NS.eq_3 NS.eq_4 NS.eq_5 NS.eq_6 NS.eq_7
attribute [simp] lX.eq_1 lX.eq_2
attribute [simp] jH.eq_1
attribute [simp] O4.eq_1 O4.eq_2
attribute [simp] reach.eq_1 reach.eq_2 reach.eq_3
attribute [simp] M8.eq_1
attribute [simp] tC.eq_1 tC.eq_2
attribute [simp] upto.eq_1 upto.eq_2
attribute [simp] kG.eq_1
attribute [simp] mQ.eq_1 mQ.eq_2
attribute [simp] ev.eq_1 ev.eq_2 ev.eq_3 ev.eq_4
attribute [simp] evL.eq_1 evL.eq_2
attribute [simp] evO.eq_1 evO.eq_2
attribute [simp] U1.eq_1 U1.eq_2 U1.eq_3 U1.eq_4 U1.eq_5 U1.eq_6 U1.eq_7 U1.eq_8 U1.eq_9 U1.eq_10 U1.eq_11 U1.eq_12 U1.eq_13 U1.eq_14 U1.eq_15
attribute [simp] shI.eq_1 shI.eq_2
attribute [simp] AN0.eq_1 AN0.eq_2 AN0.eq_3 AN0.eq_4 AN0.eq_5 AN0.eq_6 AN0.eq_7
attribute [simp] Aa3.eq_1 Aa3.eq_2
attribute [simp] Aa1.eq_1 Aa1.eq_2
attribute [simp] AVS.eq_1 AVS.eq_2
attribute [simp] AQ0.eq_1 AQ0.eq_2 AQ0.eq_3 AQ0.eq_4 AQ0.eq_5 AU1.eq_1 AU1.eq_2 AU1.eq_3 AU1.eq_4 Aa2.eq_1 Aa2.eq_2
attribute [simp] unA.eq_1 unA.eq_2
attribute [simp] nZ.eq_1
attribute [simp] lL.eq_1 lL.eq_2
attribute [simp] qW.eq_1 qW.eq_2
attribute [simp] dZ.eq_1 dZ.eq_2 dZ.eq_3 dZ.eq_4
attribute [simp] IM.eq_1 IM.eq_2
attribute [simp] wE.eq_1
attribute [simp] YJ.eq_1 YJ.eq_2
attribute [simp] AVY.eq_1
attribute [simp] p8.eq_1
attribute [simp] MO.eq_1 MO.eq_2
attribute [simp] AAY.eq_1
attribute [simp] ARJ.eq_1 ARJ.eq_2 ARJ.eq_3 ARJ.eq_4 ARJ.eq_5
attribute [simp] GL.eq_1 GL.eq_2 GL.eq_3 GL.eq_4
attribute [simp] SS.eq_1 SS.eq_2
attribute [simp] partsOf.eq_1 partsOf.eq_2
attribute [simp] WA.eq_1 WA.eq_2
attribute [simp] KN.eq_1
attribute [simp] qO.eq_1 qO.eq_2 qO.eq_3
attribute [simp] nR.eq_1 nR.eq_2
attribute [simp] fZ.eq_1 fZ.eq_2
attribute [simp] AGB.eq_1 AGB.eq_2
attribute [simp] NH.eq_1 NH.eq_2
attribute [simp] AR6.eq_1 AR6.eq_2
attribute [simp] O3.eq_1 O3.eq_2
attribute [simp] O0.eq_1 O0.eq_2
attribute [simp] loadAt.eq_1 loadAt.eq_2 loadAt.eq_3
attribute [simp] LC.eq_1
attribute [simp] tZ.eq_1
attribute [simp] rF.eq_1
attribute [simp] storeAt.eq_1 storeAt.eq_2
attribute [simp] GK.eq_1
attribute [simp] iO.eq_1 iO.eq_2
attribute [simp] wC.eq_1 wC.eq_2
attribute [simp] lI.eq_1 lI.eq_2 lI.eq_3
attribute [simp] qK.eq_1 qK.eq_2 qK.eq_3
attribute [simp] wV.eq_1
attribute [simp] lN.eq_1
attribute [simp] iD.eq_1
attribute [simp] uB.eq_1 uB.eq_2
attribute [simp] jV.eq_1 jV.eq_2 jV.eq_3 jV.eq_4 jV.eq_5
attribute [simp] AGA.eq_1 AGA.eq_2
attribute [simp] AJE.eq_1
attribute [simp] AOG.eq_1 AOG.eq_2 AOG.eq_3 AOG.eq_4 AOG.eq_5
attribute [simp] AA0.eq_1
attribute [simp] l5.eq_1 l5.eq_2 l5.eq_3 l5.eq_4
attribute [simp] QC.eq_1 QC.eq_2
attribute [simp] LQ.eq_1 LQ.eq_2 LQ.eq_3
attribute [simp] AA9.eq_1
attribute [simp] oD.eq_1 oD.eq_2
attribute [simp] PZ.eq_1 PZ.eq_2
attribute [simp] ED.eq_1
attribute [simp] qA.eq_1
attribute [simp] ABC.eq_1 ABC.eq_2
attribute [simp] U7.eq_1 U7.eq_2
attribute [simp] CU.eq_1 CU.eq_2
attribute [simp] iN.eq_1 iN.eq_2
attribute [simp] GD.eq_1
attribute [simp] allIn.eq_1 allIn.eq_2
attribute [simp] ZY.eq_1 ZY.eq_2
attribute [simp] AZS.eq_1
attribute [simp] AOL.eq_1 AOL.eq_2
attribute [simp] sV.eq_1 sV.eq_2
attribute [simp] AKH.eq_1
attribute [simp] fF.eq_1 fF.eq_2
attribute [simp] CV.eq_1
attribute [simp] GY.eq_1 GY.eq_2
attribute [simp] AFG.eq_1 AFG.eq_2
attribute [simp] NB.eq_1 NB.eq_2
attribute [simp] qR.eq_1 qR.eq_2
attribute [simp] FN.eq_1 FN.eq_2
attribute [simp] ET.eq_1
attribute [simp] settle.eq_1
attribute [simp] ADF.eq_1 DN.eq_1 DN.eq_2 wH.eq_1 wH.eq_2 VI.eq_1 qQ.eq_1 ALW.eq_1 R8.eq_1 M6.eq_1 ABT.eq_1 qD.eq_1 qD.eq_2 V8.eq_1 DL.eq_1 YU.eq_1 O8.eq_1 setSt.eq_1 setSt.eq_2 setSt.eq_3
@[simp] theorem AWJ (k:Nat):R8 (.exit k)=.over (.exit k):=(rfl)
@[simp] theorem AUX (k:Nat):M6 (.exit k)=false:=(rfl)
@[simp] theorem AX0:M6 .ret=false:=(rfl)
@[simp] theorem AXX:R8 .ret=.over .ret:=(rfl)
@[simp] theorem AbG (vs:List AV):YU [] vs=[]:=(rfl)
@[simp] theorem Aa0 (vs:List AV) (E:List (Nat×AV)):O8 [] vs E=E:=(rfl)
attribute [simp] AEN.eq_1 AEN.eq_2 AEN.eq_3 AEN.eq_4
attribute [simp] MW.eq_1 MW.eq_2 MW.eq_3 MW.eq_4
attribute [simp] AB1.eq_1
attribute [simp] AL7.eq_1 AL7.eq_2
attribute [simp] ABU.eq_1 ABU.eq_2
attribute [simp] KC.eq_1 KC.eq_2
attribute [simp] vP.eq_1 vP.eq_2
attribute [simp] ABV.eq_1 ABV.eq_2
attribute [simp] AR.eq_1 AR.eq_2
attribute [simp] ZW.eq_1
attribute [simp] finish.eq_1
attribute [simp] ACW.eq_1 ACW.eq_2 ACW.eq_3 ACW.eq_4
attribute [simp] uF.eq_1 uF.eq_2 uF.eq_3
attribute [simp] MK.eq_1 MK.eq_2
attribute [simp] enter.eq_1
attribute [simp] D8.eq_1 D8.eq_2
attribute [simp] ABW.eq_1 ABW.eq_2
attribute [simp] pF.eq_1 pF.eq_2 pF.eq_3 pF.eq_4 pF.eq_5
attribute [simp] uE.eq_1 uE.eq_2
attribute [simp] MX.eq_1 MX.eq_2
attribute [simp] AMT.eq_1 AMT.eq_2 AMT.eq_3 AMT.eq_4
attribute [simp] F9.eq_1 F9.eq_2
attribute [simp] AN2.eq_1 AN2.eq_2
attribute [simp] YW.eq_1 YW.eq_2 YW.eq_3
attribute [simp] QU.eq_1 QU.eq_2
attribute [simp] OL.eq_1
attribute [simp] kD.eq_1 kD.eq_2
attribute [simp] storeT.eq_1 storeT.eq_2
@[simp] theorem ATM (st:Store) (v:AV):KD st [v]=some ([v],st):=(rfl)
@[simp] theorem ATN (st:Store):KD st []=some ([],st):=(rfl)
@[simp] theorem ATL (st:Store) (a b:AV) (r:List AV):KD st (a::b::r)=AR st (a::b::r):=(rfl)
@[simp] theorem AZ7 (st:Store) (cs:List AV):FE st (.agg cs)=bnd (tJ st (.agg cs)) fun p=>some (.i p.1,p.2):=(rfl)
@[simp] theorem AWW (st:Store) :FE st .nils=some (.nils,st):=(rfl)
@[simp] theorem AZ5 (st:Store) (i o:Nat):FE st (.own i o)=some ((.own i o),st):=(rfl)
@[simp] theorem AWV (st:Store) (i k j o:Nat):FE st (.ownE i k j o)=some ((.ownE i k j o),st):=(rfl)
@[simp] theorem AZ6 (st:Store) (i k o l:Nat):FE st (.osl i k o l)=some ((.osl i k o l),st):=(rfl)
@[simp] theorem Ab8 (st:Store) (f:Fn) (cs:List AV):FE st (.fn f cs)=some ((.fn f cs),st):=(rfl)
@[simp] theorem AcG (st:Store) (v:IV):FE st (.i v)=some ((.i v),st):=(rfl)
@[simp] theorem AZ4 (st:Store) (cs:List AV):FE st (.tup cs)=some ((.tup cs),st):=(rfl)
@[simp] theorem AWX (st:Store) :FE st .junk=some (.junk,st):=(rfl)
@[simp] theorem AaL (all:List Oper) (after:List Edge) (j:Nat):iP all 3 after j=if CV after j=true then true else after.any fun e=>Region.binds .any e && iP all 2 (wY all e.on) j:=(rfl)
@[simp] theorem AaM (all:List Oper) (after:List Edge) (j:Nat):iP all 2 after j=if CV after j=true then true else after.any fun e=>Region.binds .any e && iP all 1 (wY all e.on) j:=(rfl)
@[simp] theorem AaN (all:List Oper) (after:List Edge) (j:Nat):iP all 1 after j=if CV after j=true then true else after.any fun e=>Region.binds .any e && iP all 0 (wY all e.on) j:=(rfl)
@[simp] theorem AaO (all:List Oper) (after:List Edge) (j:Nat):iP all 0 after j=CV after j:=(rfl)
attribute [simp] wY.eq_1
attribute [simp] undef
attribute [simp] wide
end Go.Av
namespace Go.Proofs.YtnmimmaahhlgeaaGreat
open Go Go.Av
def GS:FuncId→List Nat
 | 3=>[0,2,3,4,5,6,7,8,9,10,13,43,50,63,85]
 | 4=>[0,2,3,4,5,6,7,8,9,11,12,15,45]
 | 5=>[0,2,3,4,5,6,7,9,10,11,12,13,14,15,18,32,69]
 | 6=>[0,2,3]
 | 7=>[0,1,2,4,6,7,15]
 | 8=>[0,1,2,4,9]
 | 9=>[0,1,2,3,5,6,7,8,9,10,11,15,21,36]
 | 10=>[0,2,3,4,9]
 | 11=>[0,1,2,4,5,6,8]
 | 12=>[0,1,2,4,9]
 | 13=>[0,2,3]
 | 14=>[0,1,2,4,5,10]
 | 15=>[0,1,2,3,4]
 | 16=>[0,1,2,4,5,6,7,8,9,13,18,25]
 | 17=>[0,2,3,4,5,6,7]
 | 18=>[0,1,2,3,5,6,7,17]
 | 19=>[0,1,2,3,4,5,42,47,61]
 | 20=>[0,2,3,4,5,6,17]
 | 21=>[0,2,5]
 | 22=>[0,1,4,5,6,7,8,9,10,25]
 | 23=>[0,1,2,4,7]
 | 24=>[0,2,3,4,9,17]
 | 25=>[0,1,2,4,5,6,16]
 | 26=>[0,1,2,4,7]
 | 27=>[0,1,4,6,9,10,11,12,13,26]
 | 28=>[0,1,2,3,8,9,10,11,12,19,37]
 | 29=>[0,2,3,4,5,6,7,14,38,39,40,76,77,78]
 | 30=>[0,1,2,4,5,8,29,30,38,44,62,72]
 | 31=>[0,1,4,5,10,14,26]
 | 32=>[0,1,4,5,6,9,10,12]
 | 33=>[0,1,2,4,6,7,8,19]
 | 34=>[0,1,2,3,5,6,7,8,9,10,19,30,40]
 | 35=>[0,1,4,5,10,14,26]
 | 36=>[0,1,4,5,10,14,25]
 | 37=>[0,2,3,4,10]
 | 38=>[0,1,4,5,10,11,17,23,33]
 | 39=>[0,1,4,5,6,11]
 | 40=>[0,1,4,5,6,24,36]
 | 41=>[0,1,2,6,7,13,14,20,25,36,41]
 | 42=>[0,2,3,4,6,14,15,16,17,18,23]
 | 43=>[0,1,2,6,7,8,9,10,11,16,17,18,38,39,58,64,75,89,100,106]
 | 44=>[0,2,3,7,15]
 | 45=>[0,1,2,3,6,7,8,9,23,28,41,47,48,55,61,70,74,82,106,114,122,126,131,144]
 | 46=>[0,1,2,3,8,47]
 | 47=>[0,2,4,12,13,14,15,16,21]
 | 48=>[0,1,2,6,7,8,9,10,31,60,87,92,106,118,119,120,137]
 | 49=>[0,4,5,6,7,8,16]
 | 50=>[0,4,5,6,21]
 | 51=>[0,1,4,5,6,7,8,16,38]
 | 52=>[0,1,4,5,6,7,8,9,10,18,34]
 | 53=>[0,4,5,6,7,8,16]
 | 54=>[0,1,4,5,6,7,8,9,10,15,37,38,39]
 | 55=>[0,1,4,5,6,7,8,9,10,11,19,36,49]
 | 56=>[0,4,5,6,7,8,16]
 | 57=>[0,4,5,30]
 | 58=>[0,1,4,5,6,7,8,9,17]
 | 59=>[0,1,4,5,6,7,8,9,10,11,26,50,51,52,71]
 | 60=>[0,2,3,6]
 | 61=>[0,2,3,4,5,6,13,37,38,39]
 | 62=>[0,2,3,6]
 | 63=>[0,2,3,6]
 | 64=>[0,1,4,5,6,11,16]
 | 65=>[0,1,2,3,4,5,6,12,21]
 | 66=>[0,1,2,4,5,6,7,8,14,21]
 | 67=>[0,1,2,3,4,5,6,8,9,10,11,12,13,19,26,42,51]
 | 68=>[0,1,2,3,4]
 | 69=>[0,1,2,3,4,12,31]
 | 70=>[0,1,2,4,5,6,7,8,9,10,11,18,40,46,66]
 | 71=>[0,1,4,5,10,14,25]
 | 72=>[0,1,2,3,4]
 | 73=>[0,1,2]
 | 74=>[0,1,2,4,8]
 | 75=>[0,2,3,4,9]
 | 76=>[0,1,2,4,5,6,10,22]
 | 77=>[0,1,2,3,6,7,8,9,10,11,12,13,14,24,71,99,120]
 | 78=>[0,1,2,3,5,6,7,10]
 | 79=>[0,1,2,3,4]
 | 80=>[0,1,4,5,6,18]
 | 81=>[0,1,4]
 | 82=>[0,1,4,5,10,11,17,24]
 | 83=>[0,1,2,6,7,8,15]
 | 84=>[0,2]
 | 85=>[0,1,4,5,10,11,14,18]
 | 86=>[0,1,2,3,4,14,16,17,18,19,32,45]
 | 87=>[0,1,2]
 | 88=>[0,1,2,3,4]
 | 89=>[0,1,2,3,4]
 | 90=>[0,1,2,3,4,5,6]
 | 91=>[0,2,3,5,6,8,9,10,11,12,20,25,26,27,28]
 | 92=>[0,1,2]
 | 93=>[0,1,2,3,4]
 | 94=>[0,1,2,4,5,6,7,8,11]
 | 95=>[0,1,2,6]
 | 96=>[0,1,2,3,4,6,7,9,12,14,16]
 | 97=>[0,1,2,4]
 | 98=>[0,1,4,5,9,18,21]
 | 99=>[0,1,4,5,9,35]
 | 100=>[0,2,3,7,15]
 | 101=>[0,1,4,5,6,16,29]
 | 102=>[0,2]
 | 103=>[0,2,3,4,5,7,10,13,15]
 | 104=>[0,1,2,6,7,8,13,14,21,22,26,27,35,46,47,48,59,65]
 | 105=>[0,1,4,5,6,22]
 | 106=>[0,1,2,3,4]
 | 107=>[0,1,2,3,4]
 | 108=>[0,2,3,4,9,19,20,21]
 | 109=>[0,1,2,3,5,6,7,8]
 | 110=>[0,1,3,4]
 | 111=>[0,1,3]
 | 112=>[0,1,2,4,7]
 | 113=>[0,2]
 | 114=>[0,1,2,3,6,7,8,10,14,18,19,20,26,27,28,29,38]
 | 115=>[0,1,2,3,4,6,7,8,9,14,20,21,22,30,42]
 | 116=>[0,1,4,5,6,7,8,13,24]
 | 117=>[0,1,2,4]
 | 118=>[0,1,2,4,6,7,14,18,29]
 | 119=>[0,1,4]
 | 120=>[0,2,3,4,8]
 | 121=>[0,1,4,5,6,11]
 | 122=>[0,1,2]
 | 123=>[0,1,2,3,8,9,11,12,14,28,35,40,41,42,58]
 | 124=>[0,1,2,4,5,6,7,8,9,11,20,24,42]
 | 125=>[0,1,2,3,6,7,8,9,10,11,12,13,14,26,42,62,81,112,150,169,190,212]
 | 126=>[0,1,4,5,6,10]
 | 127=>[0,1,2,4,5,6,9,27]
 | 128=>[0,1,2,3,4,5,19,37]
 | 129=>[0,1,4,5,6,7,8,9,10,11,12,31,44,45,54,62,77,88,110,122,128,146,151,154]
 | 130=>[0,1,2,3,4]
 | 131=>[0,1,4]
 | 132=>[0,1,2,6,7,8,9,10,18,21,37]
 | 133=>[0,2,3,7,8,11]
 | 134=>[0,1,4,5,6,10]
 | 135=>[0,2,4,8,9,10,11,12,17]
 | 136=>[0,1,4]
 | 137=>[0,1,4,5,6,7,8,14]
 | 138=>[0,1,2,5,7,8,9,10,27]
 | 139=>[0,1,2,3,6]
 | 140=>[0,1,4,5,9,10,19,35,36,42]
 | 141=>[0,1,2,4,6,7,15,16,17,18,25,26,27,44]
 | 142=>[0,1,2,3,5,7,8,10,11,19,20,21,22,29,30,31,32,49,53,62,68,78]
 | 143=>[0]
 | 144=>[0,1,4,6,16]
 | 145=>[0,1,3,4,5,6,7,8,23,27]
 | 146=>[0,1,2,5,11,12,13,14,32]
 | 147=>[0,1,2,3,4,5,6,7,8,9,10,18,19,20,21,37]
 | 148=>[0,1,4,5,7,8,9,10,11]
 | 149=>[0,2]
 | 150=>[0,2,3,6]
 | 151=>[0,1,4]
 | 152=>[0,1,2,3,6,7,24,29,41,43,44,57]
 | 153=>[0,1,2]
 | 154=>[0,1,2,3,4,5,9]
 | 155=>[0,1,4,5,7,10,11,12,13,14,24]
 | 156=>[0,1,2,4]
 | 157=>[0,1,4,5,6,12,39,40,41]
 | 158=>[0,1,3,8]
 | 159=>[0,1,4,5,6,10,11,20,37,38,50,54,59]
 | 160=>[0,2,3,4,9,10,11]
 | 161=>[0,1,2,6,7,27,32,33,34,46]
 | 162=>[0,1,3,8]
 | 163=>[0,1,2,3,6]
 | 164=>[0,2,4]
 | 165=>[0,2,4]
 | 166=>[0,2,3]
 | 167=>[0,1,2,4,5,6,7,8,16,32,34,35,43,51,59]
 | 168=>[0,1,2,4,6,7,18]
 | 169=>[0,1,2,3,6,7]
 | 170=>[0,1,2,3,6]
 | 171=>[0,1,4,5,6,11]
 | 172=>[0,1,2,3,4,16]
 | 173=>[0,1,2,6,7,8,9,20,32,33,34,39,46,59,66]
 | 174=>[0,1,2]
 | 175=>[0,2,5]
 | 176=>[0,2,3,4,7,10]
 | 177=>[0,1,2,4]
 | 178=>[0,1,2,6,7,8,9,10,11,12,13,14,21,31,38]
 | 179=>[0,1,2,3,4,5,12,15]
 | 180=>[0,2,4]
 | 181=>[0,2,3]
 | 182=>[0,1,2,4,5,6,7,16,25,33,34,42,50,58]
 | 183=>[0,2,3,6]
 | 184=>[0,1,2,5]
 | 185=>[0,1]
 | 186=>[0,1,2,3,4,10,11,12,13,14,15,16,17,18,19,20,25,32,39,56,75,80,97,125]
 | 188=>[0,1,2,6,7,8,28,62,90,95,96,97,109]
 | 189=>[0,1,2,3,6]
 | 190=>[0,1,2,6,7,9,11,17,19,20,21,22,26,27,28,29,46,54,66]
 | 191=>[0,1,4,5,12]
 | 192=>[0,2,5]
 | 193=>[0,1,3,4,5,8,17]
 | 194=>[0,1,2,4,5,6,7,9,10,17,29,30,42,46,49,66,76,84,89]
 | 195=>[0,1,4,5,6,7,8,12,18,26]
 | 196=>[0,1,4,5,6,11,12,13,16,19]
 | 197=>[0,2,3,7]
 | 198=>[0,1,2,6,7,8,9,13,30,35,54]
 | 199=>[0,1,2,3,8,9,14,34]
 | 200=>[0,1,2,3,8,9,10,11,12,21,33]
 | 201=>[0,1,2,8,9,10,11,12,17,35,45]
 | 202=>[0,1,2,3,8,9,10,11,12,13,14,34,36,55,57,60]
 | 203=>[0,1,2,8,9,15]
 | 204=>[0,1,2,3,8,9,10,11,12,16,36,41,45,65,69,84,104,109,124]
 | 205=>[0,1,2,3,4,10,11,12,47,65,70]
 | 206=>[0,1,2,3,4,10,11,12,13,47,66,71,120,139,144]
 | 209=>[0,2,3,4,7,10]
 | 210=>[0,2,3,5,9,10,11,12,19]
 | 211=>[0,1,4,5,6,18,32]
 | 212=>[0,1,2,3,6]
 | 213=>[0,1,2,6,7,8,9,11,15,29]
 | 214=>[0,2]
 | 215=>[0,1,2,3,4,10,11,12,13,14,15,16,17,18,19,20,21,22,23,24,28,33,50,58,80,85,103,110,140,151,171,185,199,213]
 | 216=>[0,1,2,3,4,10,11,18,40,58]
 | 217=>[0,2]
 | 219=>[0,1,2,3,8]
 | 220=>[0,1,2,3,4,5,12]
 | 221=>[0,2,3,4,7]
 | 222=>[0,1,2,3,4,10,11,20,23]
 | 223=>[0,1,2,3,4,10,11,22]
 | 224=>[0,1,2,3,10,13]
 | 240=>[]
 | _=>[]
def bV:FuncId→Bool
 | 20=>true
 | 33=>true
 | 37=>true
 | 38=>true
 | 39=>true
 | 40=>true
 | 41=>true
 | 43=>true
 | 61=>true
 | 75=>true
 | 80=>true
 | 81=>true
 | 82=>true
 | 83=>true
 | 85=>true
 | 94=>true
 | 111=>true
 | 112=>true
 | 122=>true
 | 129=>true
 | 131=>true
 | 132=>true
 | 133=>true
 | 134=>true
 | 137=>true
 | 138=>true
 | 141=>true
 | 142=>true
 | 145=>true
 | 146=>true
 | 150=>true
 | 151=>true
 | 158=>true
 | 162=>true
 | 168=>true
 | 173=>true
 | 175=>true
 | 184=>true
 | 185=>true
 | 198=>true
 | 199=>true
 | 215=>true
 | 222=>true
 | 224=>true
 | _=>false
def keepR:FuncId→Bool
 | 21=>true
 | 134=>true
 | 85=>true
 | 83=>true
 | 41=>true
 | 37=>true
 | 39=>true
 | 38=>true
 | 82=>true
 | 60=>true
 | 63=>true
 | 62=>true
 | 126=>true
 | 128=>true
 | 168=>true
 | 72=>true
 | 88=>true
 | 89=>true
 | 90=>true
 | 93=>true
 | 92=>true
 | 87=>true
 | 144=>true
 | 148=>true
 | 183=>true
 | 116=>true
 | 84=>true
 | _=>false
def MJ:TypeId→Bool
 | 87=>true
 | 88=>true
 | _=>false
@[simp] theorem kR3:keepR 3=false:=(rfl)
@[simp] theorem gS3:GS 3=[0,2,3,4,5,6,7,8,9,10,13,43,50,63,85]:=(rfl)
@[simp] theorem kR4:keepR 4=false:=(rfl)
@[simp] theorem gS4:GS 4=[0,2,3,4,5,6,7,8,9,11,12,15,45]:=(rfl)
@[simp] theorem oA6:bV 6=false:=(rfl)
@[simp] theorem kR6:keepR 6=false:=(rfl)
@[simp] theorem gS6:GS 6=[0,2,3]:=(rfl)
@[simp] theorem oA7:bV 7=false:=(rfl)
@[simp] theorem kR7:keepR 7=false:=(rfl)
@[simp] theorem gS7:GS 7=[0,1,2,4,6,7,15]:=(rfl)
@[simp] theorem oA8:bV 8=false:=(rfl)
@[simp] theorem kR8:keepR 8=false:=(rfl)
@[simp] theorem gS8:GS 8=[0,1,2,4,9]:=(rfl)
@[simp] theorem oA9:bV 9=false:=(rfl)
@[simp] theorem kR9:keepR 9=false:=(rfl)
@[simp] theorem gS9:GS 9=[0,1,2,3,5,6,7,8,9,10,11,15,21,36]:=(rfl)
@[simp] theorem ApP:bV 10=false:=(rfl)
@[simp] theorem ArR:keepR 10=false:=(rfl)
@[simp] theorem Au7:GS 10=[0,2,3,4,9]:=(rfl)
@[simp] theorem ApO:bV 11=false:=(rfl)
@[simp] theorem ArQ:keepR 11=false:=(rfl)
@[simp] theorem Au6:GS 11=[0,1,2,4,5,6,8]:=(rfl)
@[simp] theorem ApN:bV 12=false:=(rfl)
@[simp] theorem ArP:keepR 12=false:=(rfl)
@[simp] theorem Au5:GS 12=[0,1,2,4,9]:=(rfl)
@[simp] theorem ApM:bV 13=false:=(rfl)
@[simp] theorem ArO:keepR 13=false:=(rfl)
@[simp] theorem Au4:GS 13=[0,2,3]:=(rfl)
@[simp] theorem ApL:bV 14=false:=(rfl)
@[simp] theorem ArN:keepR 14=false:=(rfl)
@[simp] theorem Au3:GS 14=[0,1,2,4,5,10]:=(rfl)
@[simp] theorem ApK:bV 15=false:=(rfl)
@[simp] theorem ArM:keepR 15=false:=(rfl)
@[simp] theorem Au2:GS 15=[0,1,2,3,4]:=(rfl)
@[simp] theorem ApJ:bV 16=false:=(rfl)
@[simp] theorem ArL:keepR 16=false:=(rfl)
@[simp] theorem Au1:GS 16=[0,1,2,4,5,6,7,8,9,13,18,25]:=(rfl)
@[simp] theorem ApI:bV 20=true:=(rfl)
@[simp] theorem ArK:keepR 20=false:=(rfl)
@[simp] theorem Au0:GS 20=[0,2,3,4,5,6,17]:=(rfl)
@[simp] theorem ApH:bV 21=false:=(rfl)
@[simp] theorem ArJ:keepR 21=true:=(rfl)
@[simp] theorem AtZ:GS 21=[0,2,5]:=(rfl)
@[simp] theorem ApG:bV 22=false:=(rfl)
@[simp] theorem ArI:keepR 22=false:=(rfl)
@[simp] theorem AtY:GS 22=[0,1,4,5,6,7,8,9,10,25]:=(rfl)
@[simp] theorem ApF:bV 23=false:=(rfl)
@[simp] theorem ArH:keepR 23=false:=(rfl)
@[simp] theorem AtX:GS 23=[0,1,2,4,7]:=(rfl)
@[simp] theorem ApE:bV 24=false:=(rfl)
@[simp] theorem ArG:keepR 24=false:=(rfl)
@[simp] theorem AtW:GS 24=[0,2,3,4,9,17]:=(rfl)
@[simp] theorem ApD:bV 25=false:=(rfl)
@[simp] theorem ArF:keepR 25=false:=(rfl)
@[simp] theorem AtV:GS 25=[0,1,2,4,5,6,16]:=(rfl)
@[simp] theorem ApC:bV 26=false:=(rfl)
@[simp] theorem ArE:keepR 26=false:=(rfl)
@[simp] theorem AtU:GS 26=[0,1,2,4,7]:=(rfl)
@[simp] theorem ApB:bV 27=false:=(rfl)
@[simp] theorem ArD:keepR 27=false:=(rfl)
@[simp] theorem AtT:GS 27=[0,1,4,6,9,10,11,12,13,26]:=(rfl)
@[simp] theorem Ap9:bV 28=false:=(rfl)
@[simp] theorem ArC:keepR 28=false:=(rfl)
@[simp] theorem AtS:GS 28=[0,1,2,3,8,9,10,11,12,19,37]:=(rfl)
@[simp] theorem Ap8:bV 29=false:=(rfl)
@[simp] theorem AtQ:GS 29=[0,2,3,4,5,6,7,14,38,39,40,76,77,78]:=(rfl)
@[simp] theorem Ap7:bV 30=false:=(rfl)
@[simp] theorem ArB:keepR 30=false:=(rfl)
@[simp] theorem AtO:GS 30=[0,1,2,4,5,8,29,30,38,44,62,72]:=(rfl)
@[simp] theorem Ap6:bV 31=false:=(rfl)
@[simp] theorem ArA:keepR 31=false:=(rfl)
@[simp] theorem AtN:GS 31=[0,1,4,5,10,14,26]:=(rfl)
@[simp] theorem AtM:GS 32=[0,1,4,5,6,9,10,12]:=(rfl)
@[simp] theorem Ap5:bV 37=true:=(rfl)
@[simp] theorem Ar9:keepR 37=true:=(rfl)
@[simp] theorem AtL:GS 37=[0,2,3,4,10]:=(rfl)
@[simp] theorem Ap4:bV 38=true:=(rfl)
@[simp] theorem Ar8:keepR 38=true:=(rfl)
@[simp] theorem AtJ:GS 38=[0,1,4,5,10,11,17,23,33]:=(rfl)
@[simp] theorem Ap3:bV 39=true:=(rfl)
@[simp] theorem Ar7:keepR 39=true:=(rfl)
@[simp] theorem AtI:GS 39=[0,1,4,5,6,11]:=(rfl)
@[simp] theorem Ap2:bV 40=true:=(rfl)
@[simp] theorem Ar6:keepR 40=false:=(rfl)
@[simp] theorem AtH:GS 40=[0,1,4,5,6,24,36]:=(rfl)
@[simp] theorem Ap1:bV 41=true:=(rfl)
@[simp] theorem Ar5:keepR 41=true:=(rfl)
@[simp] theorem AtG:GS 41=[0,1,2,6,7,13,14,20,25,36,41]:=(rfl)
@[simp] theorem Ap0:bV 42=false:=(rfl)
@[simp] theorem Ar4:keepR 42=false:=(rfl)
@[simp] theorem AtF:GS 42=[0,2,3,4,6,14,15,16,17,18,23]:=(rfl)
@[simp] theorem AoZ:bV 43=true:=(rfl)
@[simp] theorem Ar3:keepR 43=false:=(rfl)
@[simp] theorem AtE:GS 43=[0,1,2,6,7,8,9,10,11,16,17,18,38,39,58,64,75,89,100,106]:=(rfl)
@[simp] theorem AoY:bV 44=false:=(rfl)
@[simp] theorem Ar2:keepR 44=false:=(rfl)
@[simp] theorem AtC:GS 44=[0,2,3,7,15]:=(rfl)
@[simp] theorem AoX:bV 45=false:=(rfl)
@[simp] theorem Ar1:keepR 45=false:=(rfl)
@[simp] theorem AtB:GS 45=[0,1,2,3,6,7,8,9,23,28,41,47,48,55,61,70,74,82,106,114,122,126,131,144]:=(rfl)
@[simp] theorem AoW:bV 46=false:=(rfl)
@[simp] theorem Ar0:keepR 46=false:=(rfl)
@[simp] theorem AtA:GS 46=[0,1,2,3,8,47]:=(rfl)
@[simp] theorem AoV:bV 47=false:=(rfl)
@[simp] theorem AqZ:keepR 47=false:=(rfl)
@[simp] theorem At9:GS 47=[0,2,4,12,13,14,15,16,21]:=(rfl)
@[simp] theorem AoU:bV 48=false:=(rfl)
@[simp] theorem AqY:keepR 48=false:=(rfl)
@[simp] theorem At8:GS 48=[0,1,2,6,7,8,9,10,31,60,87,92,106,118,119,120,137]:=(rfl)
@[simp] theorem AoT:bV 49=false:=(rfl)
@[simp] theorem AqX:keepR 49=false:=(rfl)
@[simp] theorem At7:GS 49=[0,4,5,6,7,8,16]:=(rfl)
@[simp] theorem AoS:bV 50=false:=(rfl)
@[simp] theorem AqW:keepR 50=false:=(rfl)
@[simp] theorem At6:GS 50=[0,4,5,6,21]:=(rfl)
@[simp] theorem AoR:bV 51=false:=(rfl)
@[simp] theorem AqV:keepR 51=false:=(rfl)
@[simp] theorem At4:GS 51=[0,1,4,5,6,7,8,16,38]:=(rfl)
@[simp] theorem AoQ:bV 52=false:=(rfl)
@[simp] theorem AqU:keepR 52=false:=(rfl)
@[simp] theorem At3:GS 52=[0,1,4,5,6,7,8,9,10,18,34]:=(rfl)
@[simp] theorem AoP:bV 53=false:=(rfl)
@[simp] theorem AqT:keepR 53=false:=(rfl)
@[simp] theorem At2:GS 53=[0,4,5,6,7,8,16]:=(rfl)
@[simp] theorem AoO:bV 54=false:=(rfl)
@[simp] theorem AqS:keepR 54=false:=(rfl)
@[simp] theorem At1:GS 54=[0,1,4,5,6,7,8,9,10,15,37,38,39]:=(rfl)
@[simp] theorem AoN:bV 55=false:=(rfl)
@[simp] theorem AqR:keepR 55=false:=(rfl)
@[simp] theorem At0:GS 55=[0,1,4,5,6,7,8,9,10,11,19,36,49]:=(rfl)
@[simp] theorem AoM:bV 56=false:=(rfl)
@[simp] theorem AqQ:keepR 56=false:=(rfl)
@[simp] theorem AsZ:GS 56=[0,4,5,6,7,8,16]:=(rfl)
@[simp] theorem AoL:bV 57=false:=(rfl)
@[simp] theorem AqP:keepR 57=false:=(rfl)
@[simp] theorem AsY:GS 57=[0,4,5,30]:=(rfl)
@[simp] theorem AoK:bV 58=false:=(rfl)
@[simp] theorem AqO:keepR 58=false:=(rfl)
@[simp] theorem AsX:GS 58=[0,1,4,5,6,7,8,9,17]:=(rfl)
@[simp] theorem AoJ:bV 59=false:=(rfl)
@[simp] theorem AqN:keepR 59=false:=(rfl)
@[simp] theorem AsW:GS 59=[0,1,4,5,6,7,8,9,10,11,26,50,51,52,71]:=(rfl)
@[simp] theorem AoI:bV 60=false:=(rfl)
@[simp] theorem AqM:keepR 60=true:=(rfl)
@[simp] theorem AsV:GS 60=[0,2,3,6]:=(rfl)
@[simp] theorem AoH:bV 61=true:=(rfl)
@[simp] theorem AsU:GS 61=[0,2,3,4,5,6,13,37,38,39]:=(rfl)
@[simp] theorem AoG:bV 62=false:=(rfl)
@[simp] theorem AqL:keepR 62=true:=(rfl)
@[simp] theorem AsT:GS 62=[0,2,3,6]:=(rfl)
@[simp] theorem AoF:bV 63=false:=(rfl)
@[simp] theorem AqK:keepR 63=true:=(rfl)
@[simp] theorem AsS:GS 63=[0,2,3,6]:=(rfl)
@[simp] theorem AoE:bV 64=false:=(rfl)
@[simp] theorem AqJ:keepR 64=false:=(rfl)
@[simp] theorem AsR:GS 64=[0,1,4,5,6,11,16]:=(rfl)
@[simp] theorem AoD:bV 65=false:=(rfl)
@[simp] theorem AqI:keepR 65=false:=(rfl)
@[simp] theorem AsQ:GS 65=[0,1,2,3,4,5,6,12,21]:=(rfl)
@[simp] theorem AoC:bV 66=false:=(rfl)
@[simp] theorem AqH:keepR 66=false:=(rfl)
@[simp] theorem AsP:GS 66=[0,1,2,4,5,6,7,8,14,21]:=(rfl)
@[simp] theorem AoB:bV 67=false:=(rfl)
@[simp] theorem AqG:keepR 67=false:=(rfl)
@[simp] theorem AsO:GS 67=[0,1,2,3,4,5,6,8,9,10,11,12,13,19,26,42,51]:=(rfl)
@[simp] theorem AoA:bV 68=false:=(rfl)
@[simp] theorem AqF:keepR 68=false:=(rfl)
@[simp] theorem AsN:GS 68=[0,1,2,3,4]:=(rfl)
@[simp] theorem Ao9:bV 69=false:=(rfl)
@[simp] theorem AqE:keepR 69=false:=(rfl)
@[simp] theorem AsM:GS 69=[0,1,2,3,4,12,31]:=(rfl)
@[simp] theorem Ao8:bV 70=false:=(rfl)
@[simp] theorem AqD:keepR 70=false:=(rfl)
@[simp] theorem AsL:GS 70=[0,1,2,4,5,6,7,8,9,10,11,18,40,46,66]:=(rfl)
@[simp] theorem Ao7:bV 71=false:=(rfl)
@[simp] theorem AqC:keepR 71=false:=(rfl)
@[simp] theorem AsK:GS 71=[0,1,4,5,10,14,25]:=(rfl)
@[simp] theorem Ao6:bV 72=false:=(rfl)
@[simp] theorem AqB:keepR 72=true:=(rfl)
@[simp] theorem AsJ:GS 72=[0,1,2,3,4]:=(rfl)
@[simp] theorem Ao5:bV 73=false:=(rfl)
@[simp] theorem AqA:keepR 73=false:=(rfl)
@[simp] theorem AsI:GS 73=[0,1,2]:=(rfl)
@[simp] theorem Ao4:bV 80=true:=(rfl)
@[simp] theorem Aq9:keepR 80=false:=(rfl)
@[simp] theorem AsH:GS 80=[0,1,4,5,6,18]:=(rfl)
@[simp] theorem Ao3:bV 81=true:=(rfl)
@[simp] theorem Aq8:keepR 81=false:=(rfl)
@[simp] theorem AsG:GS 81=[0,1,4]:=(rfl)
@[simp] theorem Ao2:bV 82=true:=(rfl)
@[simp] theorem Aq7:keepR 82=true:=(rfl)
@[simp] theorem AsF:GS 82=[0,1,4,5,10,11,17,24]:=(rfl)
@[simp] theorem Ao1:bV 83=true:=(rfl)
@[simp] theorem Aq6:keepR 83=true:=(rfl)
@[simp] theorem AsE:GS 83=[0,1,2,6,7,8,15]:=(rfl)
@[simp] theorem Ao0:bV 84=false:=(rfl)
@[simp] theorem Aq5:keepR 84=true:=(rfl)
@[simp] theorem AsD:GS 84=[0,2]:=(rfl)
@[simp] theorem AnZ:bV 85=true:=(rfl)
@[simp] theorem Aq4:keepR 85=true:=(rfl)
@[simp] theorem AsC:GS 85=[0,1,4,5,10,11,14,18]:=(rfl)
@[simp] theorem AnY:bV 86=false:=(rfl)
@[simp] theorem Aq3:keepR 86=false:=(rfl)
@[simp] theorem AsB:GS 86=[0,1,2,3,4,14,16,17,18,19,32,45]:=(rfl)
@[simp] theorem AnX:bV 87=false:=(rfl)
@[simp] theorem Aq2:keepR 87=true:=(rfl)
@[simp] theorem AsA:GS 87=[0,1,2]:=(rfl)
@[simp] theorem AnW:bV 88=false:=(rfl)
@[simp] theorem Aq1:keepR 88=true:=(rfl)
@[simp] theorem As9:GS 88=[0,1,2,3,4]:=(rfl)
@[simp] theorem AnV:bV 89=false:=(rfl)
@[simp] theorem Aq0:keepR 89=true:=(rfl)
@[simp] theorem As8:GS 89=[0,1,2,3,4]:=(rfl)
@[simp] theorem AnU:bV 90=false:=(rfl)
@[simp] theorem ApZ:keepR 90=true:=(rfl)
@[simp] theorem As7:GS 90=[0,1,2,3,4,5,6]:=(rfl)
@[simp] theorem AnT:bV 91=false:=(rfl)
@[simp] theorem ApY:keepR 91=false:=(rfl)
@[simp] theorem As6:GS 91=[0,2,3,5,6,8,9,10,11,12,20,25,26,27,28]:=(rfl)
@[simp] theorem AnS:bV 92=false:=(rfl)
@[simp] theorem ApX:keepR 92=true:=(rfl)
@[simp] theorem As5:GS 92=[0,1,2]:=(rfl)
@[simp] theorem AnR:bV 93=false:=(rfl)
@[simp] theorem ApW:keepR 93=true:=(rfl)
@[simp] theorem As4:GS 93=[0,1,2,3,4]:=(rfl)
@[simp] theorem AnQ:bV 94=true:=(rfl)
@[simp] theorem ApV:keepR 94=false:=(rfl)
@[simp] theorem As3:GS 94=[0,1,2,4,5,6,7,8,11]:=(rfl)
@[simp] theorem AnP:bV 95=false:=(rfl)
@[simp] theorem ApU:keepR 95=false:=(rfl)
@[simp] theorem As2:GS 95=[0,1,2,6]:=(rfl)
@[simp] theorem AnO:bV 96=false:=(rfl)
@[simp] theorem ApT:keepR 96=false:=(rfl)
@[simp] theorem As1:GS 96=[0,1,2,3,4,6,7,9,12,14,16]:=(rfl)
@[simp] theorem AnN:bV 97=false:=(rfl)
@[simp] theorem ApS:keepR 97=false:=(rfl)
@[simp] theorem As0:GS 97=[0,1,2,4]:=(rfl)
@[simp] theorem AnM:bV 98=false:=(rfl)
@[simp] theorem ApR:keepR 98=false:=(rfl)
@[simp] theorem ArZ:GS 98=[0,1,4,5,9,18,21]:=(rfl)
@[simp] theorem AnL:bV 99=false:=(rfl)
@[simp] theorem ApQ:keepR 99=false:=(rfl)
@[simp] theorem ArY:GS 99=[0,1,4,5,9,35]:=(rfl)
@[simp] theorem Ah9:bV 100=false:=(rfl)
@[simp] theorem AjS:keepR 100=false:=(rfl)
@[simp] theorem AmF:GS 100=[0,2,3,7,15]:=(rfl)
@[simp] theorem Ah8:bV 101=false:=(rfl)
@[simp] theorem AjR:keepR 101=false:=(rfl)
@[simp] theorem AmE:GS 101=[0,1,4,5,6,16,29]:=(rfl)
@[simp] theorem Ah7:bV 102=false:=(rfl)
@[simp] theorem AjQ:keepR 102=false:=(rfl)
@[simp] theorem AmD:GS 102=[0,2]:=(rfl)
@[simp] theorem Ah6:bV 103=false:=(rfl)
@[simp] theorem AjP:keepR 103=false:=(rfl)
@[simp] theorem AmC:GS 103=[0,2,3,4,5,7,10,13,15]:=(rfl)
@[simp] theorem Ah5:bV 104=false:=(rfl)
@[simp] theorem AjO:keepR 104=false:=(rfl)
@[simp] theorem AmB:GS 104=[0,1,2,6,7,8,13,14,21,22,26,27,35,46,47,48,59,65]:=(rfl)
@[simp] theorem Ah4:bV 105=false:=(rfl)
@[simp] theorem AjN:keepR 105=false:=(rfl)
@[simp] theorem AmA:GS 105=[0,1,4,5,6,22]:=(rfl)
@[simp] theorem Ah3:bV 106=false:=(rfl)
@[simp] theorem AjM:keepR 106=false:=(rfl)
@[simp] theorem Am9:GS 106=[0,1,2,3,4]:=(rfl)
@[simp] theorem Ah2:bV 107=false:=(rfl)
@[simp] theorem AjL:keepR 107=false:=(rfl)
@[simp] theorem Am8:GS 107=[0,1,2,3,4]:=(rfl)
@[simp] theorem Ah1:bV 108=false:=(rfl)
@[simp] theorem AjK:keepR 108=false:=(rfl)
@[simp] theorem Am7:GS 108=[0,2,3,4,9,19,20,21]:=(rfl)
@[simp] theorem Ah0:bV 109=false:=(rfl)
@[simp] theorem AjJ:keepR 109=false:=(rfl)
@[simp] theorem Am6:GS 109=[0,1,2,3,5,6,7,8]:=(rfl)
@[simp] theorem AgZ:bV 110=false:=(rfl)
@[simp] theorem AjI:keepR 110=false:=(rfl)
@[simp] theorem Am5:GS 110=[0,1,3,4]:=(rfl)
@[simp] theorem AgY:bV 111=true:=(rfl)
@[simp] theorem AjH:keepR 111=false:=(rfl)
@[simp] theorem Am4:GS 111=[0,1,3]:=(rfl)
@[simp] theorem AgX:bV 112=true:=(rfl)
@[simp] theorem AjG:keepR 112=false:=(rfl)
@[simp] theorem Am3:GS 112=[0,1,2,4,7]:=(rfl)
@[simp] theorem AgW:bV 113=false:=(rfl)
@[simp] theorem AjF:keepR 113=false:=(rfl)
@[simp] theorem Am2:GS 113=[0,2]:=(rfl)
@[simp] theorem AgV:bV 114=false:=(rfl)
@[simp] theorem AjE:keepR 114=false:=(rfl)
@[simp] theorem Am1:GS 114=[0,1,2,3,6,7,8,10,14,18,19,20,26,27,28,29,38]:=(rfl)
@[simp] theorem AgU:bV 115=false:=(rfl)
@[simp] theorem AjD:keepR 115=false:=(rfl)
@[simp] theorem Am0:GS 115=[0,1,2,3,4,6,7,8,9,14,20,21,22,30,42]:=(rfl)
@[simp] theorem AgT:bV 116=false:=(rfl)
@[simp] theorem AjC:keepR 116=true:=(rfl)
@[simp] theorem AlZ:GS 116=[0,1,4,5,6,7,8,13,24]:=(rfl)
@[simp] theorem AgS:bV 117=false:=(rfl)
@[simp] theorem AjB:keepR 117=false:=(rfl)
@[simp] theorem AlY:GS 117=[0,1,2,4]:=(rfl)
@[simp] theorem AgR:bV 118=false:=(rfl)
@[simp] theorem AjA:keepR 118=false:=(rfl)
@[simp] theorem AlX:GS 118=[0,1,2,4,6,7,14,18,29]:=(rfl)
@[simp] theorem AgQ:bV 119=false:=(rfl)
@[simp] theorem Aj9:keepR 119=false:=(rfl)
@[simp] theorem AlW:GS 119=[0,1,4]:=(rfl)
@[simp] theorem AgP:bV 120=false:=(rfl)
@[simp] theorem Aj8:keepR 120=false:=(rfl)
@[simp] theorem AlV:GS 120=[0,2,3,4,8]:=(rfl)
@[simp] theorem AgO:bV 121=false:=(rfl)
@[simp] theorem Aj7:keepR 121=false:=(rfl)
@[simp] theorem AlU:GS 121=[0,1,4,5,6,11]:=(rfl)
@[simp] theorem Aj6:keepR 122=false:=(rfl)
@[simp] theorem AlT:GS 122=[0,1,2]:=(rfl)
@[simp] theorem AgN:bV 123=false:=(rfl)
@[simp] theorem Aj5:keepR 123=false:=(rfl)
@[simp] theorem AlS:GS 123=[0,1,2,3,8,9,11,12,14,28,35,40,41,42,58]:=(rfl)
@[simp] theorem AgM:bV 128=false:=(rfl)
@[simp] theorem Aj4:keepR 128=true:=(rfl)
@[simp] theorem AlR:GS 128=[0,1,2,3,4,5,19,37]:=(rfl)
@[simp] theorem AgL:bV 129=true:=(rfl)
@[simp] theorem Aj3:keepR 129=false:=(rfl)
@[simp] theorem AlQ:GS 129=[0,1,4,5,6,7,8,9,10,11,12,31,44,45,54,62,77,88,110,122,128,146,151,154]:=(rfl)
@[simp] theorem AgK:bV 130=false:=(rfl)
@[simp] theorem Aj2:keepR 130=false:=(rfl)
@[simp] theorem AlP:GS 130=[0,1,2,3,4]:=(rfl)
@[simp] theorem AgJ:bV 131=true:=(rfl)
@[simp] theorem Aj1:keepR 131=false:=(rfl)
@[simp] theorem AlO:GS 131=[0,1,4]:=(rfl)
@[simp] theorem AgI:bV 132=true:=(rfl)
@[simp] theorem Aj0:keepR 132=false:=(rfl)
@[simp] theorem AlN:GS 132=[0,1,2,6,7,8,9,10,18,21,37]:=(rfl)
@[simp] theorem AgH:bV 133=true:=(rfl)
@[simp] theorem AiZ:keepR 133=false:=(rfl)
@[simp] theorem AlM:GS 133=[0,2,3,7,8,11]:=(rfl)
@[simp] theorem AgG:bV 134=true:=(rfl)
@[simp] theorem AiY:keepR 134=true:=(rfl)
@[simp] theorem AlL:GS 134=[0,1,4,5,6,10]:=(rfl)
@[simp] theorem AgF:bV 135=false:=(rfl)
@[simp] theorem AiX:keepR 135=false:=(rfl)
@[simp] theorem AlK:GS 135=[0,2,4,8,9,10,11,12,17]:=(rfl)
@[simp] theorem AgE:bV 136=false:=(rfl)
@[simp] theorem AiW:keepR 136=false:=(rfl)
@[simp] theorem AlJ:GS 136=[0,1,4]:=(rfl)
@[simp] theorem AiV:keepR 137=false:=(rfl)
@[simp] theorem AlI:GS 137=[0,1,4,5,6,7,8,14]:=(rfl)
@[simp] theorem AiU:keepR 138=false:=(rfl)
@[simp] theorem AlH:GS 138=[0,1,2,5,7,8,9,10,27]:=(rfl)
@[simp] theorem AgD:bV 139=false:=(rfl)
@[simp] theorem AiT:keepR 139=false:=(rfl)
@[simp] theorem AlG:GS 139=[0,1,2,3,6]:=(rfl)
@[simp] theorem AgC:bV 140=false:=(rfl)
@[simp] theorem AiS:keepR 140=false:=(rfl)
@[simp] theorem AlF:GS 140=[0,1,4,5,9,10,19,35,36,42]:=(rfl)
@[simp] theorem AiR:keepR 141=false:=(rfl)
@[simp] theorem AlE:GS 141=[0,1,2,4,6,7,15,16,17,18,25,26,27,44]:=(rfl)
@[simp] theorem AiQ:keepR 142=false:=(rfl)
@[simp] theorem AlD:GS 142=[0,1,2,3,5,7,8,10,11,19,20,21,22,29,30,31,32,49,53,62,68,78]:=(rfl)
@[simp] theorem AgB:bV 143=false:=(rfl)
@[simp] theorem AiP:keepR 143=false:=(rfl)
@[simp] theorem AlC:GS 143=[0]:=(rfl)
@[simp] theorem AiO:keepR 145=false:=(rfl)
@[simp] theorem AlB:GS 145=[0,1,3,4,5,6,7,8,23,27]:=(rfl)
@[simp] theorem AiN:keepR 146=false:=(rfl)
@[simp] theorem AlA:GS 146=[0,1,2,5,11,12,13,14,32]:=(rfl)
@[simp] theorem AgA:bV 147=false:=(rfl)
@[simp] theorem AiM:keepR 147=false:=(rfl)
@[simp] theorem Al9:GS 147=[0,1,2,3,4,5,6,7,8,9,10,18,19,20,21,37]:=(rfl)
@[simp] theorem Ag9:bV 148=false:=(rfl)
@[simp] theorem AiL:keepR 148=true:=(rfl)
@[simp] theorem Al8:GS 148=[0,1,4,5,7,8,9,10,11]:=(rfl)
@[simp] theorem Ag8:bV 149=false:=(rfl)
@[simp] theorem AiK:keepR 149=false:=(rfl)
@[simp] theorem Al7:GS 149=[0,2]:=(rfl)
@[simp] theorem Ag7:bV 150=true:=(rfl)
@[simp] theorem AiJ:keepR 150=false:=(rfl)
@[simp] theorem Al6:GS 150=[0,2,3,6]:=(rfl)
@[simp] theorem Ag6:bV 151=true:=(rfl)
@[simp] theorem Ag5:bV 152=false:=(rfl)
@[simp] theorem AiI:keepR 152=false:=(rfl)
@[simp] theorem Al5:GS 152=[0,1,2,3,6,7,24,29,41,43,44,57]:=(rfl)
@[simp] theorem Ag4:bV 153=false:=(rfl)
@[simp] theorem AiH:keepR 153=false:=(rfl)
@[simp] theorem Al4:GS 153=[0,1,2]:=(rfl)
@[simp] theorem Ag3:bV 154=false:=(rfl)
@[simp] theorem AiG:keepR 154=false:=(rfl)
@[simp] theorem Al3:GS 154=[0,1,2,3,4,5,9]:=(rfl)
@[simp] theorem Ag2:bV 155=false:=(rfl)
@[simp] theorem AiF:keepR 155=false:=(rfl)
@[simp] theorem Al2:GS 155=[0,1,4,5,7,10,11,12,13,14,24]:=(rfl)
@[simp] theorem Ag1:bV 156=false:=(rfl)
@[simp] theorem AiE:keepR 156=false:=(rfl)
@[simp] theorem Al1:GS 156=[0,1,2,4]:=(rfl)
@[simp] theorem Ag0:bV 157=false:=(rfl)
@[simp] theorem AiD:keepR 157=false:=(rfl)
@[simp] theorem Al0:GS 157=[0,1,4,5,6,12,39,40,41]:=(rfl)
@[simp] theorem AfZ:bV 158=true:=(rfl)
@[simp] theorem AiC:keepR 158=false:=(rfl)
@[simp] theorem AkZ:GS 158=[0,1,3,8]:=(rfl)
@[simp] theorem AfY:bV 159=false:=(rfl)
@[simp] theorem AiB:keepR 159=false:=(rfl)
@[simp] theorem AkY:GS 159=[0,1,4,5,6,10,11,20,37,38,50,54,59]:=(rfl)
@[simp] theorem AfX:bV 160=false:=(rfl)
@[simp] theorem AiA:keepR 160=false:=(rfl)
@[simp] theorem AkX:GS 160=[0,2,3,4,9,10,11]:=(rfl)
@[simp] theorem AfW:bV 161=false:=(rfl)
@[simp] theorem Ai9:keepR 161=false:=(rfl)
@[simp] theorem AkW:GS 161=[0,1,2,6,7,27,32,33,34,46]:=(rfl)
@[simp] theorem AfV:bV 162=true:=(rfl)
@[simp] theorem Ai8:keepR 162=false:=(rfl)
@[simp] theorem AkV:GS 162=[0,1,3,8]:=(rfl)
@[simp] theorem AfU:bV 163=false:=(rfl)
@[simp] theorem Ai7:keepR 163=false:=(rfl)
@[simp] theorem AkU:GS 163=[0,1,2,3,6]:=(rfl)
@[simp] theorem AfT:bV 164=false:=(rfl)
@[simp] theorem Ai6:keepR 164=false:=(rfl)
@[simp] theorem AkT:GS 164=[0,2,4]:=(rfl)
@[simp] theorem AfS:bV 165=false:=(rfl)
@[simp] theorem Ai5:keepR 165=false:=(rfl)
@[simp] theorem AkS:GS 165=[0,2,4]:=(rfl)
@[simp] theorem AfR:bV 166=false:=(rfl)
@[simp] theorem Ai4:keepR 166=false:=(rfl)
@[simp] theorem AkR:GS 166=[0,2,3]:=(rfl)
@[simp] theorem AfQ:bV 167=false:=(rfl)
@[simp] theorem Ai3:keepR 167=false:=(rfl)
@[simp] theorem AkQ:GS 167=[0,1,2,4,5,6,7,8,16,32,34,35,43,51,59]:=(rfl)
@[simp] theorem AfP:bV 172=false:=(rfl)
@[simp] theorem Ai2:keepR 172=false:=(rfl)
@[simp] theorem AkP:GS 172=[0,1,2,3,4,16]:=(rfl)
@[simp] theorem AfO:bV 173=true:=(rfl)
@[simp] theorem Ai1:keepR 173=false:=(rfl)
@[simp] theorem AkO:GS 173=[0,1,2,6,7,8,9,20,32,33,34,39,46,59,66]:=(rfl)
@[simp] theorem AfN:bV 174=false:=(rfl)
@[simp] theorem Ai0:keepR 174=false:=(rfl)
@[simp] theorem AkN:GS 174=[0,1,2]:=(rfl)
@[simp] theorem AfM:bV 175=true:=(rfl)
@[simp] theorem AhZ:keepR 175=false:=(rfl)
@[simp] theorem AkM:GS 175=[0,2,5]:=(rfl)
@[simp] theorem AfL:bV 176=false:=(rfl)
@[simp] theorem AhY:keepR 176=false:=(rfl)
@[simp] theorem AkL:GS 176=[0,2,3,4,7,10]:=(rfl)
@[simp] theorem AfK:bV 177=false:=(rfl)
@[simp] theorem AhX:keepR 177=false:=(rfl)
@[simp] theorem AkK:GS 177=[0,1,2,4]:=(rfl)
@[simp] theorem AfJ:bV 178=false:=(rfl)
@[simp] theorem AhW:keepR 178=false:=(rfl)
@[simp] theorem AkJ:GS 178=[0,1,2,6,7,8,9,10,11,12,13,14,21,31,38]:=(rfl)
@[simp] theorem AfI:bV 179=false:=(rfl)
@[simp] theorem AhV:keepR 179=false:=(rfl)
@[simp] theorem AkI:GS 179=[0,1,2,3,4,5,12,15]:=(rfl)
@[simp] theorem AfH:bV 180=false:=(rfl)
@[simp] theorem AhU:keepR 180=false:=(rfl)
@[simp] theorem AkH:GS 180=[0,2,4]:=(rfl)
@[simp] theorem AfG:bV 181=false:=(rfl)
@[simp] theorem AhT:keepR 181=false:=(rfl)
@[simp] theorem AkG:GS 181=[0,2,3]:=(rfl)
@[simp] theorem AfF:bV 182=false:=(rfl)
@[simp] theorem AhS:keepR 182=false:=(rfl)
@[simp] theorem AkF:GS 182=[0,1,2,4,5,6,7,16,25,33,34,42,50,58]:=(rfl)
@[simp] theorem AfE:bV 183=false:=(rfl)
@[simp] theorem AhR:keepR 183=true:=(rfl)
@[simp] theorem AkE:GS 183=[0,2,3,6]:=(rfl)
@[simp] theorem AfD:bV 184=true:=(rfl)
@[simp] theorem AhQ:keepR 184=false:=(rfl)
@[simp] theorem AkD:GS 184=[0,1,2,5]:=(rfl)
@[simp] theorem AfC:bV 185=true:=(rfl)
@[simp] theorem AhP:keepR 185=false:=(rfl)
@[simp] theorem AkC:GS 185=[0,1]:=(rfl)
@[simp] theorem AfB:bV 188=false:=(rfl)
@[simp] theorem AhO:keepR 188=false:=(rfl)
@[simp] theorem AkB:GS 188=[0,1,2,6,7,8,28,62,90,95,96,97,109]:=(rfl)
@[simp] theorem AfA:bV 189=false:=(rfl)
@[simp] theorem AhN:keepR 189=false:=(rfl)
@[simp] theorem AkA:GS 189=[0,1,2,3,6]:=(rfl)
@[simp] theorem Af9:bV 190=false:=(rfl)
@[simp] theorem AhM:keepR 190=false:=(rfl)
@[simp] theorem Ak9:GS 190=[0,1,2,6,7,9,11,17,19,20,21,22,26,27,28,29,46,54,66]:=(rfl)
@[simp] theorem Af8:bV 191=false:=(rfl)
@[simp] theorem AhL:keepR 191=false:=(rfl)
@[simp] theorem Ak8:GS 191=[0,1,4,5,12]:=(rfl)
@[simp] theorem Af7:bV 192=false:=(rfl)
@[simp] theorem AhK:keepR 192=false:=(rfl)
@[simp] theorem Ak7:GS 192=[0,2,5]:=(rfl)
@[simp] theorem Af6:bV 196=false:=(rfl)
@[simp] theorem AhJ:keepR 196=false:=(rfl)
@[simp] theorem Ak6:GS 196=[0,1,4,5,6,11,12,13,16,19]:=(rfl)
@[simp] theorem Af5:bV 197=false:=(rfl)
@[simp] theorem AhI:keepR 197=false:=(rfl)
@[simp] theorem Ak5:GS 197=[0,2,3,7]:=(rfl)
@[simp] theorem Af4:bV 198=true:=(rfl)
@[simp] theorem AhH:keepR 198=false:=(rfl)
@[simp] theorem Ak4:GS 198=[0,1,2,6,7,8,9,13,30,35,54]:=(rfl)
@[simp] theorem Af3:bV 199=true:=(rfl)
@[simp] theorem AhG:keepR 199=false:=(rfl)
@[simp] theorem Ak3:GS 199=[0,1,2,3,8,9,14,34]:=(rfl)
@[simp] theorem Af2:bV 209=false:=(rfl)
@[simp] theorem AhF:keepR 209=false:=(rfl)
@[simp] theorem Ak2:GS 209=[0,2,3,4,7,10]:=(rfl)
@[simp] theorem Af1:bV 210=false:=(rfl)
@[simp] theorem AhE:keepR 210=false:=(rfl)
@[simp] theorem Ak1:GS 210=[0,2,3,5,9,10,11,12,19]:=(rfl)
@[simp] theorem Af0:bV 214=false:=(rfl)
@[simp] theorem AhD:keepR 214=false:=(rfl)
@[simp] theorem Ak0:GS 214=[0,2]:=(rfl)
@[simp] theorem AeZ:bV 215=true:=(rfl)
@[simp] theorem AhC:keepR 215=false:=(rfl)
@[simp] theorem AjZ:GS 215=[0,1,2,3,4,10,11,12,13,14,15,16,17,18,19,20,21,22,23,24,28,33,50,58,80,85,103,110,140,151,171,185,199,213]:=(rfl)
@[simp] theorem AeY:bV 222=true:=(rfl)
@[simp] theorem AhB:keepR 222=false:=(rfl)
@[simp] theorem AjY:GS 222=[0,1,2,3,4,10,11,20,23]:=(rfl)
@[simp] theorem AeX:bV 224=true:=(rfl)
@[simp] theorem AhA:keepR 224=false:=(rfl)
@[simp] theorem AjX:GS 224=[0,1,2,3,10,13]:=(rfl)
@[simp] theorem Au8:MJ 88=true:=(rfl)
noncomputable def ATV:FuncId→Option (List AV→StL→Option (AV×StL))
 | 61=>some MP
 | 29=>some XY
 | _=>none
noncomputable def C0:Ctx:={ P:=Tryz.prog,G:=GS,ownArgs:=bV,keepRes:=keepR,eqT:=MJ,prim:=ATV }
@[simp] theorem dk3:bO Tryz.prog 3=some (.int .i64):=by kernel_rfl
@[simp] theorem sz3:jW Tryz.prog 3=some 1:=by kernel_rfl
@[simp] theorem by3:U0 Tryz.prog 3=some 8:=by kernel_rfl
@[simp] theorem ze3:zeroOf Tryz.prog 3=some [(.int .i64 0)]:=by kernel_rfl
@[simp] theorem dk4:bO Tryz.prog 4=some .bool:=by kernel_rfl
@[simp] theorem sz4:jW Tryz.prog 4=some 1:=by kernel_rfl
@[simp] theorem ze4:zeroOf Tryz.prog 4=some [(.bool false)]:=by kernel_rfl
@[simp] theorem dk5:bO Tryz.prog 5=some (.int .u8):=by kernel_rfl
@[simp] theorem sz5:jW Tryz.prog 5=some 1:=by kernel_rfl
@[simp] theorem sz6:jW Tryz.prog 6=some 1:=by kernel_rfl
@[simp] theorem AdP:jW Tryz.prog 10=some 1:=by kernel_rfl
@[simp] theorem AuR:bO Tryz.prog 22=some (.slice 5):=by kernel_rfl
@[simp] theorem AnI:jW Tryz.prog 22=some 1:=by kernel_rfl
@[simp] theorem AuQ:bO Tryz.prog 23=some (.slice 90):=by kernel_rfl
@[simp] theorem AnH:jW Tryz.prog 23=some 1:=by kernel_rfl
@[simp] theorem AuP:bO Tryz.prog 24=some (.slice 3):=by kernel_rfl
@[simp] theorem AnG:jW Tryz.prog 24=some 1:=by kernel_rfl
@[simp] theorem AuO:bO Tryz.prog 25=some (.slice 27):=by kernel_rfl
@[simp] theorem AnF:jW Tryz.prog 25=some 1:=by kernel_rfl
@[simp] theorem AuN:bO Tryz.prog 27=some .strct:=by kernel_rfl
@[simp] theorem AnE:jW Tryz.prog 27=some 5:=by kernel_rfl
@[simp] theorem AuY:U0 Tryz.prog 27=some 88:=by kernel_rfl
@[simp] theorem An3:zeroOf Tryz.prog 27=some [(.int .i64 0),(.int .i64 0),(.slice none 0 0),(.slice none 0 0),(.slice none 0 0)]:=by kernel_rfl
@[simp] theorem AeC:gN Tryz.prog 27 0=some (3,0):=by kernel_rfl
@[simp] theorem AeB:gN Tryz.prog 27 1=some (3,1):=by kernel_rfl
@[simp] theorem AeA:gN Tryz.prog 27 2=some (23,2):=by kernel_rfl
@[simp] theorem Ae9:gN Tryz.prog 27 3=some (24,3):=by kernel_rfl
@[simp] theorem Ae8:gN Tryz.prog 27 4=some (25,4):=by kernel_rfl
@[simp] theorem AuM:bO Tryz.prog 28=some (.slice 39):=by kernel_rfl
@[simp] theorem AuL:bO Tryz.prog 36=some .strct:=by kernel_rfl
@[simp] theorem AnD:jW Tryz.prog 36=some 2:=by kernel_rfl
@[simp] theorem AuX:U0 Tryz.prog 36=some 32:=by kernel_rfl
@[simp] theorem An2:zeroOf Tryz.prog 36=some [(.int .i64 0),(.slice none 0 0)]:=by kernel_rfl
@[simp] theorem Ae7:gN Tryz.prog 36 0=some (3,0):=by kernel_rfl
@[simp] theorem Ae6:gN Tryz.prog 36 1=some (24,1):=by kernel_rfl
@[simp] theorem AuK:bO Tryz.prog 37=some (.slice 102):=by kernel_rfl
@[simp] theorem AnC:jW Tryz.prog 37=some 1:=by kernel_rfl
@[simp] theorem AuW:U0 Tryz.prog 37=some 24:=by kernel_rfl
@[simp] theorem An1:zeroOf Tryz.prog 37=some [(.slice none 0 0)]:=by kernel_rfl
@[simp] theorem AuJ:bO Tryz.prog 39=some .strct:=by kernel_rfl
@[simp] theorem AnB:jW Tryz.prog 39=some 2:=by kernel_rfl
@[simp] theorem AuV:U0 Tryz.prog 39=some 32:=by kernel_rfl
@[simp] theorem An0:zeroOf Tryz.prog 39=some [(.int .i64 0),(.slice none 0 0)]:=by kernel_rfl
@[simp] theorem Ae5:gN Tryz.prog 39 0=some (3,0):=by kernel_rfl
@[simp] theorem Ae4:gN Tryz.prog 39 1=some (37,1):=by kernel_rfl
@[simp] theorem AuI:bO Tryz.prog 45=some (.slice 36):=by kernel_rfl
@[simp] theorem AuH:bO Tryz.prog 52=some .other:=by kernel_rfl
@[simp] theorem AnA:jW Tryz.prog 52=some 1:=by kernel_rfl
@[simp] theorem AuG:bO Tryz.prog 56=some .other:=by kernel_rfl
@[simp] theorem ArX:X7 Tryz.prog 56=true:=by kernel_rfl
@[simp] theorem An9:jW Tryz.prog 56=some 1:=by kernel_rfl
@[simp] theorem AuU:U0 Tryz.prog 56=some 8:=by kernel_rfl
@[simp] theorem AmZ:zeroOf Tryz.prog 56=some [(.pointer none)]:=by kernel_rfl
@[simp] theorem AuF:bO Tryz.prog 71=some .other:=by kernel_rfl
@[simp] theorem An8:jW Tryz.prog 71=some 1:=by kernel_rfl
@[simp] theorem AuE:bO Tryz.prog 74=some .strct:=by kernel_rfl
@[simp] theorem AmY:zeroOf Tryz.prog 74=some [(.slice none 0 0),(.int .i64 0)]:=by kernel_rfl
@[simp] theorem Ae3:gN Tryz.prog 74 0=some (22,0):=by kernel_rfl
@[simp] theorem Ae2:gN Tryz.prog 74 1=some (3,1):=by kernel_rfl
@[simp] theorem AuD:bO Tryz.prog 83=some .other:=by kernel_rfl
@[simp] theorem An7:jW Tryz.prog 83=some 1:=by kernel_rfl
@[simp] theorem AuC:bO Tryz.prog 84=some (.array 12 83):=by kernel_rfl
@[simp] theorem An6:jW Tryz.prog 84=some 12:=by kernel_rfl
@[simp] theorem AmX:zeroOf Tryz.prog 84=some [(.nilFunc),(.nilFunc),(.nilFunc),(.nilFunc),(.nilFunc),(.nilFunc),(.nilFunc),(.nilFunc),(.nilFunc),(.nilFunc),(.nilFunc),(.nilFunc)]:=by kernel_rfl
@[simp] theorem AuB:bO Tryz.prog 85=some (.slice 56):=by kernel_rfl
@[simp] theorem AuA:bO Tryz.prog 88=some .strct:=by kernel_rfl
@[simp] theorem An5:jW Tryz.prog 88=some 2:=by kernel_rfl
@[simp] theorem AuT:U0 Tryz.prog 88=some 16:=by kernel_rfl
@[simp] theorem AmW:zeroOf Tryz.prog 88=some [(.bool false),(.int .i64 0)]:=by kernel_rfl
@[simp] theorem Ae1:gN Tryz.prog 88 0=some (4,0):=by kernel_rfl
@[simp] theorem Ae0:gN Tryz.prog 88 1=some (3,1):=by kernel_rfl
@[simp] theorem Au9:bO Tryz.prog 90=some .strct:=by kernel_rfl
@[simp] theorem An4:jW Tryz.prog 90=some 5:=by kernel_rfl
@[simp] theorem AuS:U0 Tryz.prog 90=some 56:=by kernel_rfl
@[simp] theorem AmV:zeroOf Tryz.prog 90=some [(.int .i64 0),(.int .i64 0),(.bool false),(.int .i64 0),(.slice none 0 0)]:=by kernel_rfl
@[simp] theorem AdZ:gN Tryz.prog 90 0=some (3,0):=by kernel_rfl
@[simp] theorem AdY:gN Tryz.prog 90 1=some (3,1):=by kernel_rfl
@[simp] theorem AdX:gN Tryz.prog 90 2=some (88,2):=by kernel_rfl
@[simp] theorem AdW:gN Tryz.prog 90 3=some (23,4):=by kernel_rfl
@[simp] theorem AmP:bO Tryz.prog 102=some (.slice 88):=by kernel_rfl
@[simp] theorem AeR:jW Tryz.prog 102=some 1:=by kernel_rfl
@[simp] theorem AmS:U0 Tryz.prog 102=some 24:=by kernel_rfl
@[simp] theorem AeO:zeroOf Tryz.prog 102=some [(.slice none 0 0)]:=by kernel_rfl
@[simp] theorem AmO:bO Tryz.prog 116=some (.array 2 39):=by kernel_rfl
@[simp] theorem AeN:zeroOf Tryz.prog 116=some [(.int .i64 0),(.slice none 0 0),(.int .i64 0),(.slice none 0 0)]:=by kernel_rfl
@[simp] theorem AmN:bO Tryz.prog 134=some (.array 2 3):=by kernel_rfl
@[simp] theorem AeM:zeroOf Tryz.prog 134=some [(.int .i64 0),(.int .i64 0)]:=by kernel_rfl
@[simp] theorem AmM:bO Tryz.prog 136=some .other:=by kernel_rfl
@[simp] theorem AeQ:jW Tryz.prog 136=some 1:=by kernel_rfl
@[simp] theorem AmR:U0 Tryz.prog 136=some 8:=by kernel_rfl
@[simp] theorem AeL:zeroOf Tryz.prog 136=some [(.pointer none)]:=by kernel_rfl
@[simp] theorem AmL:bO Tryz.prog 148=some (.slice 136):=by kernel_rfl
@[simp] theorem AmK:bO Tryz.prog 162=some .strct:=by kernel_rfl
@[simp] theorem AeK:zeroOf Tryz.prog 162=some [(.pointer none),(.slice none 0 0),(.int .i64 0),(.int .i64 0)]:=by kernel_rfl
@[simp] theorem AcU:gN Tryz.prog 162 0=some (52,0):=by kernel_rfl
@[simp] theorem AcT:gN Tryz.prog 162 1=some (24,1):=by kernel_rfl
@[simp] theorem AcS:gN Tryz.prog 162 2=some (3,2):=by kernel_rfl
@[simp] theorem AcR:gN Tryz.prog 162 3=some (3,3):=by kernel_rfl
@[simp] theorem AmJ:bO Tryz.prog 170=some (.slice 37):=by kernel_rfl
@[simp] theorem AmI:bO Tryz.prog 193=some (.int .u64):=by kernel_rfl
end Go.Proofs.YtnmimmaahhlgeaaGreat
namespace Go.Av
def fnT (fn:Func):Bool:=(fn.name != "runtime.NumGoroutine") && match fn.body with
 | some c=>codeOk fn.ntmps c
 | none=>true
theorem AGX {α:Type} {p:α→Bool} {l:List α} (c n:Nat) (hc:0<c) (hl:l.length≤c*n) (h:∀ i,i<n→((l.drop (c*i)).take c).all p=true):l.all p=true:=by
 rw[zS];intro x hx;obtain⟨j,hj,rfl⟩:=List.getElem_of_mem hx;have hd:c*(j / c)+j % c=j:=Nat.div_add_mod j c;have hm:j % c<c:=Nat.mod_lt _ hc
 have hi:j / c<n:=by
  rw[Nat.div_lt_iff_lt_mul hc,yU];omega
 refine zS.1 (h (j / c) hi) _ ?_;refine zV (i:=j % c) ?_;rw[zD,if_pos hm,yN,hd,zX hj]
theorem AKU {P:Program} (h:P.funcs.toList.all fnT=true):ACO P=true:=h
end Go.Av
namespace Go.Proofs.YtnmimmaahhlgeaaGreat
open Go Go.Av
set_option maxHeartbeats 2000000
theorem ft:ME Tryz.prog=true:=by kernel_rfl
theorem nt0:((Tryz.prog.funcs.toList.drop (25*0)).take 25).all fnT=true:=by kernel_rfl
theorem nt1:((Tryz.prog.funcs.toList.drop (25*1)).take 25).all fnT=true:=by kernel_rfl
theorem nt2:((Tryz.prog.funcs.toList.drop (25*2)).take 25).all fnT=true:=by kernel_rfl
theorem nt3:((Tryz.prog.funcs.toList.drop (25*3)).take 25).all fnT=true:=by kernel_rfl
theorem nt4:((Tryz.prog.funcs.toList.drop (25*4)).take 25).all fnT=true:=by kernel_rfl
theorem nt5:((Tryz.prog.funcs.toList.drop (25*5)).take 25).all fnT=true:=by kernel_rfl
theorem nt6:((Tryz.prog.funcs.toList.drop (25*6)).take 25).all fnT=true:=by kernel_rfl
theorem nt7:((Tryz.prog.funcs.toList.drop (25*7)).take 25).all fnT=true:=by kernel_rfl
theorem nt8:((Tryz.prog.funcs.toList.drop (25*8)).take 25).all fnT=true:=by kernel_rfl
theorem nt9:((Tryz.prog.funcs.toList.drop (25*9)).take 25).all fnT=true:=by kernel_rfl
theorem ntl:Tryz.prog.funcs.toList.length≤25*10:=zO (by kernel_rfl)
theorem nt:ACO Tryz.prog=true:=AKU (AGX 25 10 (by decide) ntl fun i hi=>by
 have h:i=0∨i=1∨i=2∨i=3∨i=4∨i=5∨i=6∨i=7∨i=8∨i=9:=by omega
 rcases h with rfl|rfl|rfl|rfl|rfl|rfl|rfl|rfl|rfl|rfl
 ·exact nt0
 ·exact nt1
 ·exact nt2
 ·exact nt3
 ·exact nt4
 ·exact nt5
 ·exact nt6
 ·exact nt7
 ·exact nt8
 ·exact nt9)
theorem mo:Tryz.prog.follows .mixedOrders=true:=by kernel_rfl
theorem eqS:∀ t,MJ t=true→ACU Tryz.prog t=true:=by
 intro t h;unfold MJ at h;split at h
 ·kernel_rfl
 ·kernel_rfl
 ·cases h
@[simp] theorem C_P:C0.P=Tryz.prog:=(rfl)
@[simp] theorem C_G (f):C0.G f=GS f:=(rfl)
@[simp] theorem C_o (f):C0.ownArgs f=bV f:=(rfl)
@[simp] theorem C_k (f):C0.keepRes f=keepR f:=(rfl)
@[simp] theorem C_e (f):C0.eqT f=MJ f:=(rfl)
@[simp] theorem C_t:C0.tree=false:=(rfl)
theorem wX:∀ {l:List UInt8} {j:Nat},j<l.length→∃ x:Nat,x<256∧fO (fF l) j=some [.lit (.int .u8 x)]
 | [],j,h=>by simp at h
 | b::l,0,_=>⟨b.toNat,b.toNat_lt,by simp[fF,fO]⟩
 | b::l,j+1,h=>by
  obtain⟨x,h1,h2⟩:=wX (l:=l) (j:=j) (by simpa using h);exact⟨x,h1,by simpa [fF,fO]using h2⟩
theorem cO:∀ (l:List UInt8),(fF l).length=l.length
 | []=>rfl
 | _::l=>by simp[fF,cO l]
theorem wrap64 {x:Int} (h1:-9223372036854775808≤x) (h2:x<9223372036854775808):IntKind.i64.wrap x=x:=by
 unfold IntKind.wrap;simp[IntKind.signed,IntKind.bits];omega
theorem wrO {n:Int} (h1:-9223372036854775808≤n:=by omega) (h2:n<9223372036854775808:=by omega):IntKind.i64.wrap n=n:=wrap64 h1 h2
abbrev Rd (l:List UInt8) (p:Int):Option Blk:=some (.box [.i (.isl (fF l)), .int p])
set_option maxRecDepth 4000
noncomputable def C1:Ctx:={ P:=Tryz.prog,G:=GS,ownArgs:=bV,keepRes:=keepR,eqT:=MJ,prim:=fun _=>none }
@[simp] theorem AwF:C1.P=Tryz.prog:=(rfl)
@[simp] theorem AwG (f):C1.G f=GS f:=(rfl)
@[simp] theorem AwC (f):C1.ownArgs f=bV f:=(rfl)
@[simp] theorem AwD (f):C1.keepRes f=keepR f:=(rfl)
@[simp] theorem AwE (f):C1.eqT f=MJ f:=(rfl)
@[simp] theorem AwB:C1.tree=false:=(rfl)
theorem AVB:aG C1 60 [.i (.isl [])] []=some (.nils,[]):=by
 rw[aD rfl Tryz.func60 rfl rfl];simp
theorem API {ks:List Ex} (h:ks≠[]) (hl:ks.length<1000000000):aG C1 60 [.i (.isl (Ex.aB ks))] []=some (.osl 0 5 0 ks.length,[some (.arr 5 (Ex.aB ks))]):=by
 rw[aD rfl Tryz.func60 rfl rfl];have h1:56*(ks.length:Int)≤281474976710656:=by omega
 simp[h,h1];unfold over;simp
theorem u7:SoundOk C1:=mI (C:=C1) ft nt eqS mo (AJ5 fun _=>rfl)
def ptr (p:Nat×Nat):IV:=.lit (.pointer (some ⟨p.1,p.2,none⟩))
def zc:List AV:=[.int 0, .int 0, .bool false, .int 0, .nils]
def AW7 (p:Nat×Nat):AS:={ env:=[(0, .i (ptr p))],st:=[] }
def AdO (e:Ex) (p:Nat×Nat):AS:={ env:=[(0, .i (ptr p)),(2, .own 0 0),(3, .own 1 0),(4, .junk),(5, .junk),(6, .junk),(13, .junk),(37, .junk),(38, .junk),(39, .junk)],st:=[some (.box zc),some (.box (lZ e.cells))] }
def SL (b3:Nat) (todo X:KL):AS :=
 { env:=[(0, .junk),(2, .own 0 0),(3, .i (ptr (b3,0))),(4, .osl 1 1 0 todo.length),(5, .junk),(6, .junk),(13, .junk),(37, .junk),(38, .junk),(39, .junk)],st:=[some (.box zc),some (.arr 1 ((todo++X).map fun k=>[ptr k.1]))] }
theorem AJ4:∀ (l:KL),∀ c∈(l.map fun k=>[ptr k.1]).flatten,∃ v,c=.lit v
 | [],c,h=>by simp at h
 | k::l,c,h=>by
  simp only[yR,yZ,zT,yA]at h
  rcases h with rfl|h
  ·exact⟨_,rfl⟩
  ·exact AJ4 l c h
def PP (b3:Nat) (b o n:Nat) (x:Ex) (ES:List (List IV)) (env:Nat→AV) (st:Store):Prop :=
 env 2=.own 0 0∧env 3=.i (ptr (b3,0))∧env 4=.osl 1 1 0 n∧env 5=.i (ptr (b,o))∧env 32=.i (ptr (b,o+4))∧st 0=some (.box zc)∧st 1=some (.arr 1 ES) ∧
  ((env 30=.nils∧x.kids=[])∨∃ id,env 30=.osl id 5 0 x.kids.length∧x.kids≠[]∧st id=some (.arr 5 (Ex.aB x.kids))∧2≤id)
theorem ASL:IntKind.i64.wrap 1=1:=wrO
def RW (init:KL) (b' i:Nat):List (List IV):=(init.map fun k=>[ptr k.1])++(List.range i).map fun j=>[ptr (b',j*5)]
theorem ASI (init:KL) (b' i:Nat):(RW init b' i).length=init.length+i:=by simp[RW]
theorem AMJ (init:KL) (b' i:Nat):RW init b' i++[[ptr (b',i*5)]]=RW init b' (i+1):=by simp[RW,zG7]
theorem PV (b:Nat):∀ (o:Nat) (l:List Ex),(kW b o l).map (fun k=>[ptr k.1])=(List.range l.length).map fun j=>[ptr (b,o+j*5)]
 | _,[]=>by simp[kW]
 | o,a::l=>by
  simp only[kW,yR,PV b (o+5) l,zI,List.range_succ_eq_map,zC5];simp only[List.cons.injEq,Nat.zero_mul,xH,true_and];apply xN;intro j _;simp only[Function.comp,Nat.succ_eq_add_one];rw[show o+5+j*5=o+(j+1)*5 by omega]
theorem PW (b:Nat):∀ (o:Nat) (l:List Ex),(kW b o l).length=l.length
 | _,[]=>rfl
 | o,a::l=>by simp[kW,PW b (o+5) l]
theorem PU (b:Nat):∀ (o:Nat) (l:List Ex),((kW b o l).map fun k=>k.2.size).sum=Ex.dV l
 | _,[]=>rfl
 | o,a::l=>by simp[kW,Ex.dV,PU b (o+5) l]
def YS (b3 b' cap:Nat) (x:Ex) (init:KL) (ES:List (List IV)) (i:Nat):AS :=
 { env:=[(0, .junk),(2, .own 0 0),(3, .i (ptr (b3,0))),(4,if i=0 then .osl 1 1 0 init.length else .osl 2 1 0 (init.length+i)),(5, .i (.iref [.int x.kind, .int x.col, .bool x.val.null, .int x.val.n, .lit (.slice (some ⟨b',0,none⟩) x.kids.length cap)])),(6,jk i (.int (i-1))),(13, .junk),(37, .int x.kids.length),(38, .int i),(39,jk i (.bool true))],
   st:=some (.box zc)::if i=0 then [some (.arr 1 ES)]else [none,some (.arr 1 (RW init b' i))] }
set_option maxHeartbeats 1000000
theorem Y1 {e:Ex} (he:e.size<1000000000) {wi:World} {mi:Mem} {b o:Nat} (hi:Inv wi mi (fun _=>none) (bJ []))
 (hrun:∀ w',wi.heap.size≤w'.heap.size→(∀ f,f<wi.heap.size→w'.heap[f]?=wi.heap[f]?)→∃ y,(Instr.loadAt 90 (.pointer (some ⟨b,o,none⟩))).run C1.P w'=.ok y w'∧IRep mi (.agg e.cells) y) :
 Calls Tryz.prog 61 #[.pointer (some ⟨b,o,none⟩)] wi (bY wi mi (fun _=>none) (.i (.agg e.cells)) []):=by
 refine calls_of_wp (fn:=Tryz.f61) Tryz.func61 rfl ?_
 have g0:GG wi mi 52 (fun id=>id<(AW7 (b,o)).st.length) [] (aW (AW7 (b,o)).env) (bJ (AW7 (b,o)).st) { tmps:=[Value.pointer (some ⟨b,o,none⟩)].toArray++Array.replicate (52-1) undef,defers:=[] } wi:=by
  refine⟨⟨mi,fun _=>none,hi,?_, .refl _ _ _,fun id h=>absurd rfl h,fun k hk=>by simp at hk⟩,by simp,rfl⟩;intro t;have:=nA (m:=mi) (φ:=fun _=>none) (52-1) (show RepL mi (fun _=>none) [.i (ptr (b,o))] [.pointer (some ⟨b,o,none⟩)]from .cons (.i (.lit _)) .nil) t
  cases t with
  | zero=>simpa [AW7,aW,uF]using this
  | succ t=>simp only[AW7,aW];simp;exact .junk _
 refine wp_seq (wp_mono (GG.fM u7 (G:=GS 61) (S:=AW7 (b,o)) (e:=.normal) (S':={ env:=[(0, .i (ptr (b,o))),(2, .own 0 0),(3, .junk),(4, .junk),(5, .junk),(6, .junk),(13, .junk),(37, .junk),(38, .junk),(39, .junk)],st:=[some (.box zc)] }) (by kernel_rfl) (by simp[AW7,zc,ptr]) g0) ?_);rintro _ a1 w1 ⟨rfl,g1⟩
 refine wp_seq (GG.ATR u7 (os1:=[_,_]) (os2:=[_,_]) (G:=GS 61) (S:={ env:=[(0, .i (ptr (b,o))),(2, .own 0 0),(3, .junk),(4, .junk),(5, .junk),(6, .junk),(13, .junk),(37, .junk),(38, .junk),(39, .junk)],st:=[some (.box zc)] }) (S':=AdO e (b,o)) rfl (by
  have h:∀ ops:Array Oper,ops.all (mW 52)=true→∀ o∈ops,mW 52 o=true:=fun ops h o ho=>xC.1 h o ho
  exact h _ (by kernel_rfl)) g1 (by decide) hrun ?_ ?_)
 ·rw[Ex.aA];simp[AdO,zc,ptr,Ex.aA]
 intro a2 w2 g2
 obtain⟨b3,g3⟩:=g2.pub (u:=3) (id:=1) (e:=e) (st':=bJ [some (.box zc)]) (ok':=fun id=>id<1) rfl rfl (by
  intro i blk h
  cases i with
  | zero=>simp[bJ]at h;subst h;exact⟨by omega,rfl,by simp[lD,zc]⟩
  | succ i=>simp[bJ]at h) (by
  intro i h
  cases i with
  | zero=>omega
  | succ i=>simp[bJ]at h)
 have g3:=g3 (aW [(2, .own 0 0),(3, .i (ptr (b3,0)))]) (by
  intro t;simp only[aW];by_cases h2:t=2
  ·subst h2;exact .inr (.inr ⟨rfl,by simp[AdO,aW,o7,bJ]⟩)
  ·by_cases h3:t=3
   ·subst h3;exact .inr (.inl ⟨rfl,rfl⟩)
   ·simp[h2,h3])
 refine wp_seq (wp_mono (GG.fM u7 (G:=GS 61) (S:={ env:=[(2, .own 0 0),(3, .i (ptr (b3,0)))],st:=[some (.box zc)] }) (e:=.normal) (S':=SL b3 [((b3,0),e)] []) (by kernel_rfl) (by simp[SL,ptr,zc]) g3) ?_);rintro _ a3 w3 ⟨rfl,g4⟩;refine wp_seq (wp_block ?_);refine CO (fun n a w=>∃ todo X K:KL,(∀ k∈todo,k∈K)∧((b3,0),e)∈K∧(todo.map fun k=>k.2.size).sum=n∧n<1000000000∧GG wi mi 52 (fun id=>id<(SL b3 todo X).st.length) K (aW (SL b3 todo X).env) (bJ (SL b3 todo X).st) a w) ?_ (n:=e.size) ⟨[((b3,0),e)],[],[((b3,0),e)],fun k hk=>hk,by simp,by simp,he,g4⟩;rintro n a w ⟨todo,X,K,hsub,hb3,hsum,hn,g⟩
 rcases zB8 todo with rfl|⟨init,k,rfl⟩
 ·refine wp_mono (GG.fM u7 (G:=GS 61) (S:=SL b3 [] X) (e:=.exit 0) (S':={ env:=[(0, .junk),(2, .own 0 0),(3, .i (ptr (b3,0))),(4, .osl 1 1 0 0),(5, .junk),(6, .junk),(13, .bool false),(37, .junk),(38, .junk),(39, .junk)],st:=[some (.box zc),some (.arr 1 (X.map fun k=>[ptr k.1]))] }) (by kernel_rfl) (by simp[SL,ptr,zc]) g) ?_;rintro _ a5 w5 ⟨rfl,g5⟩;simp only[nN,Exit.then,Exit.inBlock,if_true]
  have g6:=(g5.see (u:=3) (b:=b3) (o:=0) rfl hb3).envTo (env':=aW [(2, .own 0 0),(3, .i (.iref e.cells))]) (by
   intro t;simp only[aW,upd];by_cases h2:t=2
   ·subst h2;simp
   ·by_cases h3:t=3
    ·subst h3;simp
    ·simp[h2,h3])
  refine wp_mono (GG.fM u7 (G:=GS 61) (S:={ env:=[(2, .own 0 0),(3, .i (.iref e.cells))],st:=[some (.box zc),some (.arr 1 (X.map fun k=>[ptr k.1]))] }) (e:=.ret) (S':={ env:=[(0, .junk),(2, .own 0 0),(3, .i (.iref e.cells)),(4, .junk),(5, .junk),(6, .junk),(13, .junk),(37, .junk),(38, .junk),(39, .junk)],st:=[some (.box (lZ e.cells)),some (.arr 1 (X.map fun k=>[ptr k.1]))] }) (by kernel_rfl) (by simp[zc]) g6) ?_;rintro _ a6 w6 ⟨rfl,g7⟩;obtain⟨⟨m,φ,q1,q2,q3,q4,q5⟩,q6,q7⟩:=g7
  obtain⟨v,k1,k2⟩:=iJ (C:=C1) (fn:=Tryz.f61) (keep:=false) (na:=0) (S:={ env:=[(0, .junk),(2, .own 0 0),(3, .i (.iref e.cells)),(4, .junk),(5, .junk),(6, .junk),(13, .junk),(37, .junk),(38, .junk),(39, .junk)],st:=[some (.box (lZ e.cells)),some (.arr 1 (X.map fun k=>[ptr k.1]))] }) (r:=.i (.agg e.cells)) (stl':=[]) (fun id h=>absurd rfl h) ⟨⟨⟨m,φ,q1,q2,q3,q4, .nil _ _ _⟩,q6,q7⟩,xG _⟩ (by
   show finish C1 false [ResultVar.cell 2 90] 0 _=_
   simp)
  exact⟨q7,v,k1,k2⟩
 ·clear g0 g4 g3 g1 g2;obtain⟨⟨b,o⟩,x⟩:=k
  have hlen:∀ l:KL,l.length≤(l.map fun k=>k.2.size).sum:=by
   intro l
   induction l with
   | nil=>simp
   | cons a l ih=>have:=Ex.D9 a.2;simp;omega
  have hil:=hlen init;simp at hsum;have hxk:((b,o),x)∈K:=hsub _ (by simp);have hxs:=Ex.size_eq x;have hkl:=Ex.eG x.kids;have hne:¬ ((init.length:Int)+1≤0):=by omega
  have hpos:(0:Int)<(init.length:Int)+1:=by omega
  have w1:IntKind.i64.wrap (init.length:Int)=init.length:=wrO;generalize hES:((init++[((b,o),x)]++X).map fun k=>[ptr k.1])=ES
  have hnth:fO ES init.length=some [ptr (b,o)]:=by
   rw[dO,← hES];simp
  have hlit:∀ c∈ES.flatten,∃ v,c=.lit v:=by rw[← hES];exact AJ4 _
  have hlt:(init.length:Int)<(init.length:Int)+1:=by omega
  have hlt2:(init.length:Int)≤(init.length:Int)+1:=by omega
  refine wp_seq (wp_mono (GG.fM u7 (G:=GS 61) (S:=SL b3 (init++[((b,o),x)]) X) (e:=.normal) (S':={ env:=[(0, .junk),(2, .own 0 0),(3, .i (ptr (b3,0))),(4, .osl 1 1 0 (init.length+1)),(5, .junk),(6, .junk),(13, .bool true),(37, .junk),(38, .junk),(39, .junk)],st:=[some (.box zc),some (.arr 1 ES)] }) (by kernel_rfl) (by simp only[SL,hES];simp[ptr,zc,hpos]) (by simpa using g)) ?_);rintro _ a5 w5 ⟨rfl,g5⟩;clear g;refine wp_block ?_;refine wp_seq (wp_mono (GG.fM u7 (G:=GS 61) (S:={ env:=[(0, .junk),(2, .own 0 0),(3, .i (ptr (b3,0))),(4, .osl 1 1 0 (init.length+1)),(5, .junk),(6, .junk),(13, .bool true),(37, .junk),(38, .junk),(39, .junk)],st:=[some (.box zc),some (.arr 1 ES)] }) (e:=.normal) (S':={ env:=[(0, .junk),(2, .own 0 0),(3, .i (ptr (b3,0))),(4, .osl 1 1 0 (init.length+1)),(5,(.i (ptr (b,o)))),(6, .junk),(13, .bool true),(37, .junk),(38, .junk),(39, .junk)],st:=[some (.box zc),some (.arr 1 ES)] }) (by kernel_rfl) (by simp only[ptr]at hnth;simp[ptr,zc,hnth,w1,hlt]) g5) ?_);rintro _ a6 w6 ⟨rfl,g6⟩;clear g5;refine wp_seq (wp_mono (GG.fM u7 (G:=GS 61) (S:={ env:=[(0, .junk),(2, .own 0 0),(3, .i (ptr (b3,0))),(4, .osl 1 1 0 (init.length+1)),(5,(.i (ptr (b,o)))),(6, .junk),(13, .bool true),(37, .junk),(38, .junk),(39, .junk)],st:=[some (.box zc),some (.arr 1 ES)] }) (e:=.normal) (S':={ env:=[(0, .junk),(2, .own 0 0),(3, .i (ptr (b3,0))),(4, .osl 1 1 0 init.length),(5,(.i (ptr (b,o)))),(6, .junk),(13, .bool true),(37, .junk),(38, .junk),(39, .junk)],st:=[some (.box zc),some (.arr 1 ES)] }) (by kernel_rfl) (by simp[ptr,zc,w1,hlt2]) g6) ?_);rintro _ a7 w7 ⟨rfl,g7⟩;clear g6
  refine wp_seq (GG.region u7 (os1:=[_,_]) (os2:=[_,_,_,_,_,_]) (u:=26) (PP:=PP b3 b o init.length x ES) rfl (by
   have h:∀ ops:Array Oper,ops.all (mW 52)=true→∀ o∈ops,mW 52 o=true:=fun ops h o ho=>xC.1 h o ho
   exact h _ (by kernel_rfl)) g7 hxk ?_ ?_)
  ·rw[Ex.aA];by_cases hx:x.kids=[]
   ·simp[ptr,zc,hx,PP,Ex.aB,AVB]
   ·simp[ptr,zc,PP,API hx (by omega),hx]
  ·rintro env st a8 w8 ⟨p2,p3,p4,p5,p32,q0,q1,p30⟩ g8;clear g7
   obtain⟨w9,b',ao,cap,e1,e2,hrun,hG⟩:=GG.turn (C:=C1) (ok':=fun id=>id<2) (st':=bJ [some (.box zc),some (.arr 1 ES)]) (u:=30) (t:=23) g8 (by simp) hi.mem hxk rfl (by
    rcases p30 with ⟨h1,h2⟩|⟨id,h1,h2,h3,h4⟩
    ·refine .inl ⟨h1,h2,?_⟩;intro i blk h
     rcases i with _|_|i
     ·simp[bJ]at h;subst h;exact q0
     ·simp[bJ]at h;subst h;exact q1
     ·simp[bJ]at h
    ·refine .inr ⟨id,h1,h2,h3,?_⟩;intro i blk h
     rcases i with _|_|i
     ·simp[bJ]at h;subst h;exact⟨by omega,q0⟩
     ·simp[bJ]at h;subst h;exact⟨by omega,q1⟩
     ·simp[bJ]at h) (by
    intro i blk h
    rcases i with _|_|i
    ·simp[bJ]at h;subst h;simp[lD,zc]
    ·simp[bJ]at h;subst h;exact hlit
    ·simp[bJ]at h) (by
    intro i h
    rcases i with _|_|i
    ·omega
    ·omega
    ·simp[bJ]at h)
   have ev5:=g8.AU9 (t:=5) p5;have ev32:=g8.AU9 (t:=32) p32
   refine ADR (C:=C1) (w':=w9) rfl (by
    show(Instr.storeAt 23 (a8.tmps.getD 32 undef) (a8.tmps.getD 30 undef)).run C1.P w8=_
    rw[ev32];exact hrun) ?_
   have g9:=hG (aW [(2, .own 0 0),(3, .i (ptr (b3,0))),(4, .osl 1 1 0 init.length),(5,(.i (.iref [.int x.kind, .int x.col, .bool x.val.null, .int x.val.n, .lit (.slice ao x.kids.length cap)])))]) (by
    intro t;simp only[aW];by_cases h2:t=2
    ·subst h2;exact .inr (.inr ⟨by simp[p2],by rw[p2];simp[o7,bJ]⟩)
    by_cases h3:t=3
    ·subst h3;exact .inr (.inr ⟨by simp[p3],by rw[p3];simp[o7,ptr]⟩)
    by_cases h4:t=4
    ·subst h4;exact .inr (.inr ⟨by simp[p4],by rw[p4];simp[o7,bJ]⟩)
    by_cases h5:t=5
    ·subst h5;exact .inr (.inl ⟨ev5,by simp⟩)
    ·simp[h2,h3,h4,h5])
   clear hG g8;show Code.wp _ _ _ _ _;refine wp_seq (wp_mono (GG.fM u7 (G:=GS 61) (S:={ env:=[(2, .own 0 0),(3, .i (ptr (b3,0))),(4, .osl 1 1 0 init.length),(5,(.i (.iref [.int x.kind, .int x.col, .bool x.val.null, .int x.val.n, .lit (.slice ao x.kids.length cap)])))],st:=[some (.box zc),some (.arr 1 ES)] }) (e:=.normal) (S':={ env:=[(0, .junk),(2, .own 0 0),(3, .i (ptr (b3,0))),(4, .osl 1 1 0 init.length),(5,(.i (.iref [.int x.kind, .int x.col, .bool x.val.null, .int x.val.n, .lit (.slice ao x.kids.length cap)]))),(6, .junk),(13, .junk),(37, .int x.kids.length),(38, .int 0),(39, .junk)],st:=[some (.box zc),some (.arr 1 ES)] }) (by kernel_rfl) (by simp[ptr,zc]) g9) ?_);rintro _ a10 w10 ⟨rfl,g10⟩;clear g9;by_cases hx:x.kids=[]
   ·refine wp_mono (GG.fM u7 (G:=GS 61) (S:={ env:=[(0, .junk),(2, .own 0 0),(3, .i (ptr (b3,0))),(4, .osl 1 1 0 init.length),(5,(.i (.iref [.int x.kind, .int x.col, .bool x.val.null, .int x.val.n, .lit (.slice ao x.kids.length cap)]))),(6, .junk),(13, .junk),(37, .int x.kids.length),(38, .int 0),(39, .junk)],st:=[some (.box zc),some (.arr 1 ES)] }) (e:=.normal) (S':={ env:=[(0, .junk),(2, .own 0 0),(3, .i (ptr (b3,0))),(4, .osl 1 1 0 init.length),(5,(.i (.iref [.int x.kind, .int x.col, .bool x.val.null, .int x.val.n, .lit (.slice ao x.kids.length cap)]))),(6, .junk),(13, .junk),(37, .int x.kids.length),(38, .int 0),(39, .bool false)],st:=[some (.box zc),some (.arr 1 ES)] }) (by kernel_rfl) (by
     simp only[hx,yJ];simp;rw[aF]
     simp[ptr,zc]) g10) ?_
    rintro _ a11 w11 ⟨rfl,g11⟩;simp only[nN,Exit.then,Exit.inBlock];refine⟨n-1,by omega,init,((b,o),x)::X,K++kW b' 0 x.kids,fun k hk=>yD _ (hsub k (by simp[hk])),yD _ hb3,?_,by omega,?_⟩
    ·rw[hx]at hxs;simp[Ex.dV]at hxs;omega
    ·have hES2:((init++((b,o),x)::X).map fun k=>[ptr k.1])=ES:=by rw[← hES];simp
     simp only[SL,hES2]
     exact g11.envTo (by
      intro t;simp only[aW];by_cases h2:t=2
      ·subst h2;simp
      by_cases h3:t=3
      ·subst h3;simp
      by_cases h4:t=4
      ·subst h4;simp
      ·simp[h2,h3,h4])
   ·obtain rfl:=e2 hx;have hET:ES.take init.length=RW init b' 0:=by rw[← hES];simp[RW]
    have hEL:init.length≤ES.length:=by rw[← hES];simp
    have hlim:∀ i,i≤x.kids.length→(init.length+i+1)*8≤140737488355328:=fun i hi=>by omega
    have hk0:x.kids.length≠0:=fun h=>hx (zW.1 h)
    refine wp_mono (GG.fM u7 (G:=GS 61) (S:={ env:=[(0, .junk),(2, .own 0 0),(3, .i (ptr (b3,0))),(4, .osl 1 1 0 init.length),(5,(.i (.iref [.int x.kind, .int x.col, .bool x.val.null, .int x.val.n, .lit (.slice (some ⟨b',0,none⟩) x.kids.length cap)]))),(6, .junk),(13, .junk),(37, .int x.kids.length),(38, .int 0),(39, .junk)],st:=[some (.box zc),some (.arr 1 ES)] }) (e:=.normal) (S':={ env:=[(0, .junk),(2, .own 0 0),(3, .i (ptr (b3,0))),(4, .osl 2 1 0 (init.length+x.kids.length)),(5,(.i (.iref [.int x.kind, .int x.col, .bool x.val.null, .int x.val.n, .lit (.slice (some ⟨b',0,none⟩) x.kids.length cap)]))),(6, .int (x.kids.length-1)),(13, .junk),(37, .int x.kids.length),(38, .int x.kids.length),(39, .bool false)],st:=[some (.box zc),none,some (.arr 1 (RW init b' x.kids.length))] }) (by kernel_rfl) (by
     simp;rw[aS (YS b3 b' cap x init ES) x.kids.length (by simp[YS])]
     ·rw[aF];simp[YS,hk0,dR hk0,zc,ptr]
     ·intro i hi;have w2:IntKind.i64.wrap ((i:Int)+1)=i+1:=wrO;have hi0:(i:Int)<x.kids.length:=by omega
      by_cases h0:i=0
      ·subst h0;have hl:(init.length+1)*8≤140737488355328:=by omega
       have hR:RW init b' 0++[[.lit (.pointer (some ⟨b',0,none⟩))]]=RW init b' 1:=by simpa [ptr]using AMJ init b' 0
       simp[YS,zc,ptr,ASL,hi,hET,hEL,hl,hR]
      ·have hl:=hlim i (by omega);have hT:(RW init b' i).take (init.length+i)=RW init b' i:=zZ (by rw[ASI];omega);have hR:RW init b' i++[[.lit (.pointer (some ⟨b',i*5,none⟩))]]=RW init b' (i+1):=by simpa [ptr]using AMJ init b' i
       simp[YS,h0,dR h0,zc,ptr,w2,hi,hT,ASI,hl,hR,← y7]) g10) ?_
    rintro _ a11 w11 ⟨rfl,g11⟩;simp only[nN,Exit.then,Exit.inBlock];refine⟨n-1,by omega,init++kW b' 0 x.kids,[],K++kW b' 0 x.kids,?_,yD _ hb3,?_,by omega,?_⟩
    ·intro k hk
     rcases zT.1 hk with h|h
     ·exact yD _ (hsub k (by simp[h]))
     ·exact xA _ h
    ·rw[yI,List.sum_append,PU];omega
    ·have g12:=g11.settle [2,3,4]
     have hR:List.map (fun k:(Nat×Nat)×Ex=>[ptr k.1]) (init++kW b' 0 x.kids++[])=RW init b' x.kids.length:=by
      rw[y9,yI,PV];simp[RW]
     have hl:(init++kW b' 0 x.kids).length=init.length+x.kids.length:=by rw[zQ,PW]
     simp only[SL,hR,hl]
     have hs:Av.settle [2,3,4] 0 (aW [(0, .junk),(2, .own 0 0),(3, .i (ptr (b3,0))),(4, .osl 2 1 0 (init.length+x.kids.length)),(5, .i (.iref [.int x.kind, .int x.col, .bool x.val.null, .int x.val.n, .lit (.slice (some ⟨b',0,none⟩) x.kids.length cap)])),(6, .int (x.kids.length-1)),(13, .junk),(37, .int x.kids.length),(38, .int x.kids.length),(39, .bool false)]) (bJ [some (.box zc),none,some (.arr 1 (RW init b' x.kids.length))])={ env:=[(2, .own 0 0),(3, .i (ptr (b3,0))),(4, .osl 1 1 0 (init.length+x.kids.length))],st:=[some (.box zc),some (.arr 1 (RW init b' x.kids.length))] }:=by
      simp[zc,ptr]
     rw[hs]at g12
     exact g12.envTo (by
      intro t;simp only[aW];by_cases h2:t=2
      ·subst h2;simp
      by_cases h3:t=3
      ·subst h3;simp
      by_cases h4:t=4
      ·subst h4;simp
      ·simp[h2,h3,h4])
theorem ACB {w:World} {m:Mem} {φ:Pl} {st:Store} {t:TypeId} {a v:AV} {x:Value} (hi:Inv w m φ st) (hr:Rep m φ a x) (h:LC C1 t a st=some v):∃ y,(Instr.loadAt t x).run C1.P w=.ok y w∧Rep m φ v y:=by
 obtain⟨ad,y,k1,k2,k3⟩:=BL hi hr h;exact⟨y,by subst k1;simpa [Instr.loadAt,Instr.sureAddr]using k2,k3⟩
theorem AOY {w:World} {m:Mem} (h:o8 w m):Inv w m (fun _=>none) (bJ []):=⟨h,fun id blk e=>(by simp[bJ]at e),fun i j b b' n n' b1 b2 f e=>(by simp[bJ]at e),fun _ _ _ _ e=>(by cases e)⟩
theorem IG {e:Ex} (he:e.size<1000000000) {wi:World} {mi:Mem} {φ:Pl} {vs:List Value} (hi:Inv wi mi φ (bJ [])) (hr:RepL mi φ [.i (.iref e.cells)] vs) (h0:∀ id,φ id≠none→id<0) :
 Calls Tryz.prog 61 vs.toArray wi (bY wi mi φ (.i (.agg e.cells)) []):=by
 obtain rfl:φ=fun _=>none:=by
  funext id
  cases h:φ id with
  | none=>rfl
  | some p=>exact absurd (h0 id (by rw[h];simp)) (zB5 _)
 cases hr with
 | cons h1 h2 =>
  cases h2
  have hp:=h1
  cases h1 with
  | i h1=>cases h1 with
   | iref ha =>
    refine Y1 he hi fun w' hs hw=>?_
    obtain⟨y,k1,k2⟩:=ACB (t:=90) (v:=.i (.agg e.cells)) (hi.later hs hw) hp (by rw[Ex.aA];simp)
    cases k2 with
    | i k2=>exact⟨y,k1,k2⟩
theorem QK {e:Ex} (he:e.size<1000000000) {w:World} {m:Mem} {φ:Pl} {vs:List Value} {es:List (List IV)} {j:Nat} (hes:es[j]?=some e.cells) (hi:Inv w m φ (bJ [some (.arr 5 es)])) (hr:RepL m φ [.ownE 0 5 j 0] vs) (h0:∀ id,φ id≠none→id<1) :
 Calls Tryz.prog 61 vs.toArray w (bY w m φ (.i (.agg e.cells)) [some (.arr 5 es)]):=by
 cases hr with
 | cons h1 h2 =>
  cases h2
  have hp:=h1
  cases h1 with
  | ownE hφ =>
   refine(Y1 he (AOY hi.mem) fun w' hs hw=>?_).mono ?_
   ·obtain⟨y,k1,k2⟩:=ACB (t:=90) (v:=.i (.agg e.cells)) (hi.later hs hw) hp (by
     have h5:=hes;rw[← dO]at h5
     rw[Ex.aA]at h5 ⊢;simp[h5])
    cases k2 with
    | i k2=>exact⟨y,k1,k2⟩
   ·rintro en w' ⟨v,m',φ',rfl,j1,j2,j3,j4⟩;have free0:∀ b,lV (fun _=>none) b:=fun b id r n e=>by cases e
    have hsame:∀ f,f<w.heap.size→w'.heap[f]?=w.heap[f]?:=fun f hf=>j3.block f hf (free0 f)
    refine⟨v,m',φ,rfl,?_,⟨j2.mem,fun id blk hb=>?_,hi.inj,fun id b n f e ho=>yV (hi.low id b n f e ho) j3.size⟩,⟨j3.size,j3.os,j3.tape,j3.output,fun b hb' _=>hsame b hb',j3.mle,fun b hb' _ o=>j3.mnew b hb' (free0 b) o, .refl _,fun _ _ _ _ e ho=>.inr (lV.not e ho)⟩,h0⟩
    ·cases j1 with
     | i j1=>exact .i j1
    ·obtain⟨b,n,k1,k2,k3⟩:=hi.live id blk hb;exact⟨b,n,k1,⟨k2.1,fun f hf=>yV (k2.2 f hf) j3.size⟩,k3.mono k2.1 (fun f hf=>hsame f (k2.2 f hf)) j3.mle (.refl _) fun f hf o=>j3.mnew f (k2.2 f hf) (free0 f) o⟩
end Go.Proofs.YtnmimmaahhlgeaaGreat
namespace Go.Proofs.YtnmimmaahhlgeaaGreat.G
open Go Go.Av
set_option maxRecDepth 4000
set_option maxHeartbeats 4000000
noncomputable def ATW:FuncId→Option (List AV→StL→Option (AV×StL))
 | 61=>some MP
 | _=>none
noncomputable def C2:Ctx:={ P:=Tryz.prog,G:=GS,ownArgs:=bV,keepRes:=keepR,eqT:=MJ,prim:=ATW }
@[simp] theorem Aw9:C2.P=Tryz.prog:=(rfl)
@[simp] theorem AwA (f):C2.G f=GS f:=(rfl)
@[simp] theorem Aw6 (f):C2.ownArgs f=bV f:=(rfl)
@[simp] theorem Aw7 (f):C2.keepRes f=keepR f:=(rfl)
@[simp] theorem Aw8 (f):C2.eqT f=MJ f:=(rfl)
@[simp] theorem Aw5:C2.tree=false:=(rfl)
theorem AO9:PrimOk C2:=by
 have key:∀ g q,C2.prim g=some q→g=61∧q=MP:=by
  intro g q h;have h:ATW g=some q:=h;unfold ATW at h;split at h
  ·injection h with h;exact⟨rfl,h.symm⟩
  ·cases h
 constructor
 ·intro g args st p h;unfold dE at h
  cases hq:C2.prim g with
  | none=>rw[hq]at h;cases h
  | some q =>
   obtain⟨rfl,rfl⟩:=key g q hq;exact⟨Tryz.f61,Tryz.func61,by decide,rfl⟩
 ·intro g args stl r stl' h w m φ vs hi hr h0;unfold dE at h
  cases hq:C2.prim g with
  | none=>rw[hq]at h;cases h
  | some q =>
   obtain⟨rfl,rfl⟩:=key g q hq;rw[hq]at h;obtain⟨e,he,hres,hor⟩:=QI h;injection hres with h1 h2;subst h1;subst h2
   rcases hor with ⟨rfl,rfl⟩|⟨j,es,rfl,rfl,hes⟩
   ·exact IG he hi hr h0
   ·exact QK he hes hi hr h0
theorem lG:SoundOk C2:=mI (C:=C2) ft nt eqS mo AO9
theorem AZY:aG C2 60 [.i (.isl [])] []=some (.nils,[]):=by
 rw[aD rfl Tryz.func60 rfl rfl];simp
theorem AVP {ks:List Ex} (h:ks≠[]) (hl:ks.length<1000000000):aG C2 60 [.i (.isl (Ex.aB ks))] []=some (.osl 0 5 0 ks.length,[some (.arr 5 (Ex.aB ks))]):=by
 rw[aD rfl Tryz.func60 rfl rfl];have h1:56*(ks.length:Int)≤281474976710656:=by omega
 simp[h,h1];unfold over;simp
theorem ASB:aG C2 62 [.i (.isl [])] []=some (.nils,[]):=by
 rw[aD rfl Tryz.func62 rfl rfl];simp
theorem ALS {l:List Int} (h:l≠[]) (hl:l.length<1000000000):aG C2 62 [.i (.isl (aH l))] []=some (.osl 0 1 0 l.length,[some (.arr 1 (aH l))]):=by
 rw[aD rfl Tryz.func62 rfl rfl];have h1:8*(l.length:Int)≤281474976710656:=by omega
 simp[h,h1];unfold over;simp
theorem AD8:aG C2 63 [.i (.isl [])] []=some (.nils,[]):=by
 rw[aD rfl Tryz.func63 rfl rfl];simp
theorem TM {ks:List Pn} (h:ks≠[]) (hl:ks.length<1000000000):aG C2 63 [.i (.isl (Pn.aB ks))] []=some (.osl 0 5 0 ks.length,[some (.arr 5 (Pn.aB ks))]):=by
 rw[aD rfl Tryz.func63 rfl rfl];have h1:88*(ks.length:Int)≤281474976710656:=by omega
 simp[h,h1];unfold over;simp
theorem AZX {e:Ex} {es:List (List IV)} {j:Nat} (h:e.size<1000000000) (he:fO es j=some e.cells):aG C2 61 [.ownE 0 5 j 0] [some (.arr 5 es)]=some (.i (.agg e.cells),[some (.arr 5 es)]):=by
 rw[aN (p:=MP) rfl];exact ALC h (by rw[← dO];exact he)
def zp:List AV:=[.int 0, .int 0, .nils, .nils, .nils]
def EV (b3:Nat) (v4 v5 v6 v7 v14 v38 v39 v40 v76 v77 v78:AV):List (Nat×AV):=[(0, .junk),(2, .own 0 0),(3, .i (ptr (b3,0))),(4,v4),(5,v5),(6,v6),(7,v7),(14,v14),(38,v38),(39,v39),(40,v40),(76,v76),(77,v77),(78,v78)]
def nE (l:PL):List (List IV):=l.map fun k=>[ptr k.1]
def SLp (b3:Nat) (todo X:PL):AS:={ env:=EV b3 (.osl 1 1 0 todo.length) .junk .junk .junk .junk .junk .junk .junk .junk .junk .junk,st:=[some (.box zp),some (.arr 1 (nE (todo++X)))] }
def SRp (b3 n o:Nat) (ES:List (List IV)) (v6 v7 v14 v38 v39 v40 v76 v77 v78:AV) (cells:List AV) (L:StL):AS:={ env:=EV b3 (.osl 1 1 0 n) (.own 2 o) v6 v7 v14 v38 v39 v40 v76 v77 v78,st:=some (.box zp)::some (.arr 1 ES)::some (.box cells)::L }
theorem RO:∀ (l:PL),∀ c∈(nE l).flatten,∃ v,c=.lit v
 | [],c,h=>by simp[nE]at h
 | k::l,c,h=>by
  simp only[nE,yR,yZ,zT,yA]at h
  rcases h with rfl|h
  ·exact⟨_,rfl⟩
  ·exact RO l c h
theorem JV (a b x:Option Blk):upd (bJ [a,b]) 2 x=bJ [a,b,x]:=by
 funext i;rcases i with _|_|_|i<;>simp[bJ,upd]
theorem AcW (b3:Nat) (v4 v5 v5' v6 v7 v14 v38 v39 v40 v76 v77 v78:AV):upd (aW (EV b3 v4 v5 v6 v7 v14 v38 v39 v40 v76 v77 v78)) 5 v5'=aW (EV b3 v4 v5' v6 v7 v14 v38 v39 v40 v76 v77 v78):=by
 funext t;simp only[upd,EV,aW];by_cases h5:t=5
 ·subst h5;simp
 ·simp only[h5,if_false]
def XS (b3 n:Nat) (ES:List (List IV)) (pre post:List Value) (k t:Int) (es:List Ex) (aC aK:AV) (v14:AV) (i:Nat):AS :=
 SRp b3 n pre.length ES (jk i (.int (i-1))) .junk v14 (.int es.length) (.int i) (jk i (.bool true)) .junk .junk .junk (mO pre [.int k, .int t, .osl 3 5 0 es.length,aC,aK] post) [some (.arr 5 (Ex.aB es))]
set_option maxHeartbeats 8000000
def jj:List (Nat×AV):=[(4, .junk),(5, .junk),(6, .junk),(7, .junk),(14, .junk),(38, .junk),(39, .junk),(40, .junk),(76, .junk),(77, .junk),(78, .junk)]
theorem nM:AH1 (fun _ _ _=>True):=fun _ _ _ _ _ _ _ _=>trivial
theorem ASJ:IntKind.i64.wrap 1=1:=wrO
def RWp (init:PL) (b' i:Nat):List (List IV):=nE init++(List.range i).map fun j=>[ptr (b',j*5)]
theorem AMI (init:PL) (b' i:Nat):(RWp init b' i).length=init.length+i:=by simp[RWp,nE]
theorem AQ8 (init:PL) (b' i:Nat):RWp init b' i++[[ptr (b',i*5)]]=RWp init b' (i+1):=by simp[RWp,zG7]
theorem PT (b:Nat):∀ (o:Nat) (l:List Pn),nE (nY b o l)=(List.range l.length).map fun j=>[ptr (b,o+j*5)]
 | _,[]=>by simp[nY,nE]
 | o,a::l=>by
  have ih:=PT b (o+5) l;simp only[nE]at ih ⊢;simp only[nY,yR,ih,zI,List.range_succ_eq_map,zC5];simp only[List.cons.injEq,Nat.zero_mul,xH,true_and];apply xN;intro j _;simp only[Function.comp,Nat.succ_eq_add_one];rw[show o+5+j*5=o+(j+1)*5 by omega]
theorem X0 (b:Nat):∀ (o:Nat) (l:List Pn),(nY b o l).length=l.length
 | _,[]=>rfl
 | o,a::l=>by simp[nY,X0 b (o+5) l]
theorem WY (b:Nat):∀ (o:Nat) (l:List Pn),((nY b o l).map fun k=>k.2.size).sum=Pn.dV l
 | _,[]=>by simp[nY,Pn.dV]
 | o,a::l=>by simp[nY,Pn.dV,WY b (o+5) l]
theorem WZ {b:Nat}:∀ {o:Nat} {l:List Pn},∀ q∈nY b o l,q.2∈l∧q.1.1=b
 | _,[],q,h=>by simp[nY]at h
 | o,a::l,q,h=>by
  simp only[nY,zP]at h
  rcases h with rfl|h
  ·simp
  ·have:=WZ q h;exact⟨by simp[this.1],this.2⟩
def iE (es:List Ex):Nat:=if es.length=0 then 100 else 3
def lE (es:List Ex):StL:=if es.length=0 then []else [some (.arr 5 (Ex.aB es))]
def iC (es:List Ex) (cs:List Int):Nat:=if cs.length=0 then 101 else 3+(lE es).length
def lC (es:List Ex) (cs:List Int):StL:=if cs.length=0 then lE es else lE es++[some (.arr 1 (aH cs))]
def iK (es:List Ex) (cs:List Int) (ks:List Pn):Nat:=if ks.length=0 then 102 else 3+(lC es cs).length
def lK (es:List Ex) (cs:List Int) (ks:List Pn):StL:=if ks.length=0 then lC es cs else lC es cs++[some (.arr 5 (Pn.aB ks))]
def YP (b3 n o:Nat) (ES:List (List IV)) (init:PL) (b' nk:Nat) (cells:List AV) (i:Nat):AS :=
 { env:=EV b3 (if i=0 then .osl 1 1 0 n else .osl 3 1 0 (n+i)) (.own 2 o) .junk (jk i (.int (i-1))) (.bool true) .junk .junk .junk (.int nk) (.int i) (jk i (.bool true)),
   st:=some (.box zp)::(if i=0 then some (.arr 1 ES)else none)::some (.box cells)::(if i=0 then []else [some (.arr 1 (RWp init b' i))]) }
theorem AI0 (a b c:Option Blk):∀ (l:StL) {x:Option Blk},bJ (a::b::c::(l++[x])) (3+l.length)=x:=by
 intro l x;rw[ABN]
 have:(a::b::c::(l++[x]))[3+l.length]?=some x:=by
  rw[show 3+l.length=l.length+1+1+1 by omega];simp
 rw[this];rfl
theorem vW {p:Pn} (hsz:p.size<1000000000) (hth:p.thin) (hty:p.tiny) {wi:World} {mi:Mem} {vs:List Value} (hi:Inv wi mi (fun _=>none) (bJ [])) (hr:RepL mi (fun _=>none) [.i (.iref p.cells)] vs) :
 Calls Tryz.prog 29 vs.toArray wi (TV wi mi p):=by
 refine calls_of_wp (fn:=Tryz.f29) Tryz.func29 rfl ?_;have hv1:vs.length=1:=by simpa using hr.length.symm
 have g0:GR wi mi 91 (fun id=>id<({ env:=[(0, .i (.iref p.cells))],st:=[] }:AS).st.length) (fun _ _ _=>True) (aW [(0, .i (.iref p.cells))]) (bJ []) { tmps:=vs.toArray++Array.replicate (91-vs.toArray.size) undef,defers:=[] } wi:=by
  refine⟨⟨mi,fun _=>none,hi,?_, .refl _ _ _,fun id h=>absurd rfl h,trivial⟩,by simp;omega,rfl⟩;intro t;have:=nA (m:=mi) (φ:=fun _=>none) (91-vs.toArray.size) hr t
  cases t with
  | zero=>simpa [aW,uF]using this
  | succ t=>simp only[aW];simp;exact .junk _
 refine wp_seq (wp_mono (GR.fM lG (G:=GS 29) (S:={ env:=[(0, .i (.iref p.cells))],st:=[] }) (e:=.normal) (S':={ env:=[(0, .i (.iref p.cells)),(2, .own 0 0),(3, .junk)]++jj,st:=[some (.box zp)] }) nM (by kernel_rfl) (by simp[zp,jj]) g0) ?_);rintro _ a1 w1 ⟨rfl,g1⟩;refine wp_seq (wp_mono (GR.fM lG (G:=GS 29) (S:={ env:=[(0, .i (.iref p.cells)),(2, .own 0 0),(3, .junk)]++jj,st:=[some (.box zp)] }) (e:=.normal) (S':={ env:=[(0, .i (.iref p.cells)),(2, .own 0 0),(3, .own 1 0)]++jj,st:=[some (.box zp),some (.box (lZ p.cells))] }) nM (by kernel_rfl) (by rw[Pn.aA];simp[zp,jj]) g1) ?_);rintro _ a2 w2 ⟨rfl,g2⟩
 obtain⟨b3,g3⟩:=g2.AeV (u:=3) (id:=1) (p:=p) (st':=bJ [some (.box zp)]) rfl rfl (by
  intro i blk h
  cases i with
  | zero=>simp[bJ]at h;subst h;exact⟨by omega,rfl,by simp[lD,zp]⟩
  | succ i=>simp[bJ]at h)
 have g3:=g3 (aW [(2, .own 0 0),(3, .i (ptr (b3,0)))]) (by
  intro t;simp only[aW];by_cases h2:t=2
  ·subst h2;exact .inr (.inr ⟨rfl,by simp[aW,o7,bJ,jj]⟩)
  ·by_cases h3:t=3
   ·subst h3;exact .inr (.inl ⟨rfl,rfl⟩)
   ·simp[h2,h3])
 have g3:=g3.ok' (ok':=fun id=>id<({ env:=[(2, .own 0 0),(3, .i (ptr (b3,0)))],st:=[some (.box zp)] }:AS).st.length) (by
  intro i h
  cases i with
  | zero=>simp
  | succ i=>simp[bJ]at h)
 refine wp_seq (wp_mono (GR.fM lG (G:=GS 29) (S:={ env:=[(2, .own 0 0),(3, .i (ptr (b3,0)))],st:=[some (.box zp)] }) (e:=.normal) (S':=SLp b3 [((b3,0),p)] []) (RAW.pM _ _ _ _ _) (by kernel_rfl) (by simp[SLp,EV,nE,ptr,zp]) g3) ?_);rintro _ a3 w3 ⟨rfl,g4⟩;clear g0 g1 g2 g3;refine wp_seq (wp_block ?_);refine CO (fun n a w=>∃ (todo X H:PL) (F:List Nat),H.Perm todo∧(todo.map fun k=>k.2.size).sum=n∧n<1000000000∧(∀ q∈todo,q.2.thin∧q.2.tiny)∧GR wi mi 91 (fun id=>id<(SLp b3 todo X).st.length) (RAW wi b3 p F H) (aW (SLp b3 todo X).env) (bJ (SLp b3 todo X).st) a w) ?_ (n:=p.size) ⟨[((b3,0),p)],[],[((b3,0),p)],[], .refl _,by simp,hsz,by simpa using ⟨hth,hty⟩,g4⟩;clear g4;rintro n a w ⟨todo,X,H,F,hperm,hsum,hn,hall,g⟩
 rcases zB8 todo with rfl|⟨init,k,rfl⟩
 ·obtain rfl:=List.perm_nil.1 hperm;refine wp_mono (GR.fM lG (G:=GS 29) (S:=SLp b3 [] X) (e:=.exit 0) (S':={ env:=EV b3 (.osl 1 1 0 0) .junk .junk .junk (.bool false) .junk .junk .junk .junk .junk .junk,st:=[some (.box zp),some (.arr 1 (nE X))] }) (RAW.pM _ _ _ _ _) (by kernel_rfl) (by simp[SLp,EV,zp]) g) ?_;rintro _ a5 w5 ⟨rfl,g5⟩;simp only[nN,Exit.then,Exit.inBlock,if_true];obtain⟨v0,v1,v2,v3,v4,post,hone,g6⟩:=g5.AaB (u:=3) (k:=2) rfl rfl (by simp)
  have g6:=(g6 (aW [(2, .own 0 0),(3, .own 2 0)]) (by
   intro t;simp only[aW];by_cases h2:t=2
   ·subst h2;exact .inr (.inr (by simp[aW,EV]))
   ·by_cases h3:t=3
    ·subst h3;exact .inr (.inl ⟨rfl,rfl⟩)
    ·simp[h2,h3])).ok' (ok':=fun id=>id<({ env:=[(2, .own 0 0),(3, .own 2 0)],st:=[some (.box zp),some (.arr 1 (nE X)),some (.box (dW [v0,v1,v2,v3,v4]++dW post))] }:AS).st.length) (by
   intro i h
   simp at h ⊢;omega)
  rw[JV]at g6
  refine wp_mono (GR.fM lG (G:=GS 29) (S:={ env:=[(2, .own 0 0),(3, .own 2 0)],st:=[some (.box zp),some (.arr 1 (nE X)),some (.box (dW [v0,v1,v2,v3,v4]++dW post))] }) (e:=.ret) (S':={ env:=[(0, .junk),(2, .own 0 0),(3, .own 2 0)]++jj,st:=[some (.box (dW [v0,v1,v2,v3,v4])),some (.arr 1 (nE X)),some (.box (dW [v0,v1,v2,v3,v4]++dW post))] }) (CPY.pM _ _ _ _ _ _ _ _) (by kernel_rfl) (by
   have hz:dW [v0,v1,v2,v3,v4]=[.i (.lit v0), .i (.lit v1), .i (.lit v2), .i (.lit v3), .i (.lit v4)]:=rfl;rw[hz]
   simp[zp,jj,LW,P8]) g6) ?_
  rintro _ a6 w6 ⟨rfl,g7⟩;obtain⟨⟨m,φ,q1,q2,q3,q4,q5⟩,q6,q7⟩:=g7
  obtain⟨v,k1,k2⟩:=iJ (C:=C2) (fn:=Tryz.f29) (keep:=false) (na:=0) (S:={ env:=[(0, .junk),(2, .own 0 0),(3, .own 2 0)]++jj,st:=[some (.box (dW [v0,v1,v2,v3,v4])),some (.arr 1 (nE X)),some (.box (dW [v0,v1,v2,v3,v4]++dW post))] }) (r:=.i (.agg [.lit v0, .lit v1, .lit v2, .lit v3, .lit v4])) (stl':=[]) (fun id h=>absurd rfl h) ⟨⟨⟨m,φ,q1,q2,q3,q4, .nil _ _ _⟩,q6,q7⟩,xG _⟩ (by
   show finish C2 false [ResultVar.cell 2 27] 0 _=_;have hz:dW [v0,v1,v2,v3,v4]=[.i (.lit v0), .i (.lit v1), .i (.lit v2), .i (.lit v3), .i (.lit v4)]:=rfl;rw[hz]
   simp)
  have hv:v=.agg #[v0,v1,v2,v3,v4]:=by
   obtain⟨_,_,_,e,r,_⟩:=k2;injection e with e;subst e
   cases r with
   | i r=>cases r with
    | agg r =>
     cases r with|cons a0 _ r=>cases r with|cons a1 _ r=>cases r with|cons a2 _ r=>cases r with|cons a3 _ r=>cases r with|cons a4 _ r =>
     cases r
     rw[oP a0,oP a1,oP a2,oP a3,oP a4]
  subst hv;refine⟨q7,_,k1,v0,v1,v2,v3,v4,F,m,rfl,hone,q1.mem,⟨q3.size,q3.os,q3.tape,q3.output,q3.block,q3.mle,q3.mnew, .refl _,fun _ _ _ _ e=>by cases e⟩,q5.th,q5.cells,q5.nd,fun f hf=>?_⟩;obtain⟨z1,z2,z3,z4,z5⟩:=q5.all f hf;exact⟨z1,z2,(by intro _ _ _ e;cases e),z4,z5⟩
 ·obtain⟨⟨b,o⟩,x⟩:=k;rw[List.concat_eq_append]at hperm hsum hall g
  have hlen:∀ l:PL,l.length≤(l.map fun k=>k.2.size).sum:=by
   intro l
   induction l with
   | nil=>simp
   | cons a l ih=>have:=Pn.D9 a.2;simp;omega
  have hil:=hlen init;simp at hsum;have hq:((b,o),x)∈H:=hperm.mem_iff.2 (by simp);have hxs:=Pn.size_eq x;have hkl:=Pn.eG x.kids;have hpos:(0:Int)<(init.length:Int)+1:=by omega
  have w1:IntKind.i64.wrap (init.length:Int)=init.length:=wrO;generalize hES:nE (init++[((b,o),x)]++X)=ES at *
  have hnth:fO ES init.length=some [ptr (b,o)]:=by
   rw[dO,← hES];simp[nE]
  have hlit:∀ c∈ES.flatten,∃ v,c=.lit v:=by rw[← hES];exact RO _
  have htake:ES.take init.length=nE init:=by rw[← hES];simp[nE]
  have hESl:init.length≤ES.length:=by rw[← hES];simp[nE]
  have hlt:(init.length:Int)<(init.length:Int)+1:=by omega
  have hlt2:(init.length:Int)≤(init.length:Int)+1:=by omega
  obtain⟨hxt,hxy⟩:=hall ((b,o),x) (by simp);simp only at hxt hxy;refine wp_seq (wp_mono (GR.fM lG (G:=GS 29) (S:=SLp b3 (init++[((b,o),x)]) X) (e:=.normal) (S':={ env:=EV b3 (.osl 1 1 0 (init.length+1)) .junk .junk .junk (.bool true) .junk .junk .junk .junk .junk .junk,st:=[some (.box zp),some (.arr 1 ES)] }) (RAW.pM _ _ _ _ _) (by kernel_rfl) (by simp only[SLp,hES];simp[EV,zp,hpos]) g) ?_);rintro _ a5 w5 ⟨rfl,g5⟩;clear g;refine wp_block ?_;refine wp_seq (wp_mono (GR.fM lG (G:=GS 29) (S:={ env:=EV b3 (.osl 1 1 0 (init.length+1)) .junk .junk .junk (.bool true) .junk .junk .junk .junk .junk .junk,st:=[some (.box zp),some (.arr 1 ES)] }) (e:=.normal) (S':={ env:=EV b3 (.osl 1 1 0 (init.length+1)) (.i (ptr (b,o))) .junk .junk (.bool true) .junk .junk .junk .junk .junk .junk,st:=[some (.box zp),some (.arr 1 ES)] }) (RAW.pM _ _ _ _ _) (by kernel_rfl) (by simp only[ptr]at hnth;simp[EV,ptr,zp,hnth,w1,hlt]) g5) ?_);rintro _ a6 w6 ⟨rfl,g6⟩;clear g5;refine wp_seq (wp_mono (GR.fM lG (G:=GS 29) (S:={ env:=EV b3 (.osl 1 1 0 (init.length+1)) (.i (ptr (b,o))) .junk .junk (.bool true) .junk .junk .junk .junk .junk .junk,st:=[some (.box zp),some (.arr 1 ES)] }) (e:=.normal) (S':={ env:=EV b3 (.osl 1 1 0 init.length) (.i (ptr (b,o))) .junk .junk (.bool true) .junk .junk .junk .junk .junk .junk,st:=[some (.box zp),some (.arr 1 ES)] }) (RAW.pM _ _ _ _ _) (by kernel_rfl) (by simp[EV,ptr,zp,w1,hlt2]) g6) ?_);rintro _ a7 w7 ⟨rfl,g7⟩;clear g6;obtain⟨pre,post,us,ma,e1,e2,e3,e4,e5,g8⟩:=g7.adopt (u:=5) (y:=x) rfl (by simp) hq rfl;clear g7;rw[AcW,JV]at g8;subst e3;obtain⟨kd,tb,es,cs,ks⟩:=x;obtain⟨t1,t2,t3,t4,t5⟩:=(Pn.kN _).1 hxt;obtain⟨y1,y2⟩:=(Pn.R5 _).1 hxy;simp only[Pn.fK,Pn.dL,Pn.gT]at t1 t2 t3 t4 t5 y1 y2 hxs hkl;rw[Pn.aZ]at g8;have hst:=ADP.pM wi b3 p F H b us w7 ma
  refine wp_seq (wp_mono (GR.fM lG (G:=GS 29) (S:=SRp b3 init.length pre.length ES .junk .junk (.bool true) .junk .junk .junk .junk .junk .junk (mO pre [.int kd, .int tb, .i (.isl (Ex.aB es)), .i (.isl (aH cs)), .i (.isl (Pn.aB ks))] post) []) (e:=.normal) (S':=SRp b3 init.length pre.length ES .junk .junk (.bool true) .junk .junk .junk .junk .junk .junk (mO pre [.int kd, .int tb,slA es.length (iE es) 5, .i (.isl (aH cs)), .i (.isl (Pn.aB ks))] post) (lE es)) hst (by kernel_rfl) (by
   by_cases he:es=[]
   ·subst he;simp[SRp,EV,zp,AWH,AEK,bM,dD,Ex.aB,AZY,slA,lE]
   ·have hel:es.length≠0:=fun h=>he (zW.1 h)
    simp[SRp,EV,zp,AWH,AEK,bM,dD,AVP he t1,slA,lE,iE,he]) (g8.ok' fun id h=>by simp at h ⊢;simp[SRp];omega)) ?_)
  rintro _ a9 w9 ⟨rfl,g9⟩;clear g8
  refine wp_seq (wp_mono (GR.AZQ lG (G:=GS 29) (S:=SRp b3 init.length pre.length ES .junk .junk (.bool true) .junk .junk .junk .junk .junk .junk (mO pre [.int kd, .int tb,slA es.length (iE es) 5, .i (.isl (aH cs)), .i (.isl (Pn.aB ks))] post) (lE es)) hst
   (PP:=fun e S'=>e=.normal∧∃ v6 v38 v39 v40,S'=SRp b3 init.length pre.length ES v6 .junk (.bool true) v38 v39 v40 .junk .junk .junk (mO pre [.int kd, .int tb,slA es.length (iE es) 5, .i (.isl (aH cs)), .i (.isl (Pn.aB ks))] post) (lE es)) (by kernel_rfl) (by
   by_cases he:es=[]
   ·subst he;refine⟨.normal,SRp b3 init.length pre.length ES .junk .junk (.bool true) (.int 0) (.int 0) (.bool false) .junk .junk .junk (mO pre [.int kd, .int tb,slA 0 (iE []) 5, .i (.isl (aH cs)), .i (.isl (Pn.aB ks))] post) (lE []),?_,rfl,_,_,_,_,rfl⟩;simp[SRp,EV,zp,AWH,AEK,bM,dD,slA,lE];rw[aF];simp[bM,dD]
   ·have hel:es.length≠0:=fun h=>he (zW.1 h)
    refine⟨.normal,SRp b3 init.length pre.length ES (.int (es.length-1)) .junk (.bool true) (.int es.length) (.int es.length) (.bool false) .junk .junk .junk (mO pre [.int kd, .int tb,slA es.length (iE es) 5, .i (.isl (aH cs)), .i (.isl (Pn.aB ks))] post) (lE es),?_,rfl,_,_,_,_,rfl⟩;simp[SRp,EV,zp,AWH,AEK,bM,dD,slA,lE,iE,he];rw[aS (XS b3 init.length ES pre post kd tb es (.i (.isl (aH cs))) (.i (.isl (Pn.aB ks))) (.bool true)) es.length (by simp[XS,SRp,EV,zp])]
    ·rw[aF];simp[XS,SRp,EV,zp,AWH,AEK,bM,dD,dR hel]
    ·intro i hi;have h3:=zX hi;have hs:=y1 _ (zV h3);have r2:=Ex.aV h3;generalize es[i]=a at h3 hs r2;have hk:=AZX hs r2;have hput:=Ex.FQ h3;have w2:IntKind.i64.wrap ((i:Int)+1)=i+1:=wrO;rw[Ex.aA]at r2 hk hput
     simp[XS,SRp,EV,zp,AWH,AEK,bM,dD,hi,r2,hk,w2,hput]) g9) ?_)
  rintro _ a10 w10 ⟨e,S',rfl,⟨rfl,v6,v38,v39,v40,rfl⟩,g10⟩;clear g9
  have g10:=(g10.envTo (env':=aW (SRp b3 init.length pre.length ES .junk .junk (.bool true) .junk .junk .junk .junk .junk .junk (mO pre [.int kd, .int tb,slA es.length (iE es) 5, .i (.isl (aH cs)), .i (.isl (Pn.aB ks))] post) (lE es)).env) (by
   intro t;simp only[SRp,EV,aW];by_cases h6:t=6
   ·subst h6;simp
   by_cases h38:t=38
   ·subst h38;simp
   by_cases h39:t=39
   ·subst h39;simp
   by_cases h40:t=40
   ·subst h40;simp
   ·simp[h6,h38,h39,h40]))
  refine wp_seq (wp_mono (GR.fM lG (G:=GS 29) (S:=SRp b3 init.length pre.length ES .junk .junk (.bool true) .junk .junk .junk .junk .junk .junk (mO pre [.int kd, .int tb,slA es.length (iE es) 5, .i (.isl (aH cs)), .i (.isl (Pn.aB ks))] post) (lE es)) (e:=.normal) (S':=SRp b3 init.length pre.length ES .junk .junk (.bool true) .junk .junk .junk .junk .junk .junk (mO pre [.int kd, .int tb,slA es.length (iE es) 5,slA cs.length (iC es cs) 1, .i (.isl (Pn.aB ks))] post) (lC es cs)) hst (by kernel_rfl) (by
   by_cases he:es=[]<;>by_cases hc:cs=[]
   ·subst he;subst hc;simp[SRp,EV,zp,AaQ,ANQ,bM,dD,aH,ASB,slA,lE,lC]
   ·have hcl:cs.length≠0:=fun h=>hc (zW.1 h)
    subst he;simp[SRp,EV,zp,AaQ,ANQ,bM,dD,ALS hc t3,slA,lE,lC,iC,hc]
   ·have hel:es.length≠0:=fun h=>he (zW.1 h)
    subst hc;simp[SRp,EV,zp,AaQ,ANQ,bM,dD,aH,ASB,slA,lE,lC,iE,he]
   ·have hel:es.length≠0:=fun h=>he (zW.1 h)
    have hcl:cs.length≠0:=fun h=>hc (zW.1 h)
    simp[SRp,EV,zp,AaQ,ANQ,bM,dD,ALS hc t3,slA,lE,lC,iE,iC,he,hc]) g10) ?_)
  rintro _ a11 w11 ⟨rfl,g11⟩;clear g10
  refine wp_seq (wp_mono (GR.fM lG (G:=GS 29) (S:=SRp b3 init.length pre.length ES .junk .junk (.bool true) .junk .junk .junk .junk .junk .junk (mO pre [.int kd, .int tb,slA es.length (iE es) 5,slA cs.length (iC es cs) 1, .i (.isl (Pn.aB ks))] post) (lC es cs)) (e:=.normal) (S':=SRp b3 init.length pre.length ES .junk .junk (.bool true) .junk .junk .junk .junk .junk .junk (mO pre [.int kd, .int tb,slA es.length (iE es) 5,slA cs.length (iC es cs) 1,slA ks.length (iK es cs ks) 5] post) (lK es cs ks)) hst (by kernel_rfl) (by
   by_cases he:es=[]<;>by_cases hc:cs=[]<;>by_cases hk:ks=[]
   all_goals (try subst he)
   all_goals (try subst hc)
   all_goals (try subst hk)
   ·simp[SRp,EV,zp,ADW,UU,bM,dD,Pn.aB,AD8,slA,lE,lC,lK]
   ·simp[SRp,EV,zp,ADW,UU,bM,dD,TM hk t4,slA,lE,lC,lK,iK,hk]
   ·simp[SRp,EV,zp,ADW,UU,bM,dD,Pn.aB,AD8,slA,lE,lC,lK,iC,hc]
   ·simp[SRp,EV,zp,ADW,UU,bM,dD,TM hk t4,slA,lE,lC,lK,iC,iK,hc,hk]
   ·simp[SRp,EV,zp,ADW,UU,bM,dD,Pn.aB,AD8,slA,lE,lC,lK,iE,he]
   ·simp[SRp,EV,zp,ADW,UU,bM,dD,TM hk t4,slA,lE,lC,lK,iE,iK,he,hk]
   ·simp[SRp,EV,zp,ADW,UU,bM,dD,Pn.aB,AD8,slA,lE,lC,lK,iE,iC,he,hc]
   ·simp[SRp,EV,zp,ADW,UU,bM,dD,TM hk t4,slA,lE,lC,lK,iE,iC,iK,he,hc,hk]) g11) ?_)
  rintro _ a12 w12 ⟨rfl,g12⟩;clear g11
  obtain⟨F',H',us',b',cap,vE,vC,m2,hpm,hus,hone,hbn,g13⟩:=g12.Ac3 (u:=5) (st':=bJ [some (.box zp),some (.arr 1 ES)]) (env':=aW (EV b3 (.osl 1 1 0 init.length) (.own 2 pre.length) .junk .junk (.bool true) .junk .junk .junk .junk .junk .junk)) (idE:=iE es) (idC:=iC es cs) (idK:=iK es cs ks) (oq:=pre.length) e1 e2 rfl e4 hq rfl
   (fun h=>by simp[SRp,iE,lE,lC,lK,h];split<;>split<;>simp[bJ])
   (fun h=>by simp only[SRp,iC,lC,lK,h,if_false];cases hh:lE es with
    | nil=>split<;>simp[bJ]
    | cons a l =>
     have:l=[]:=by unfold lE at hh;split at hh<;>simp_all
     subst this;split<;>simp[bJ])
   (fun h=>by simp only[SRp,iK,lK,h,if_false];exact AI0 _ _ _ _)
   (by unfold iE iC iK lC lE;repeat' split<;>simp_all)
   (by
    intro i blk h
    rcases i with _|_|i
    ·simp[bJ]at h;subst h;exact⟨by omega,rfl,by simp[lD,zp]⟩
    ·simp[bJ]at h;subst h;exact⟨by omega,rfl,hlit⟩
    ·simp[bJ]at h)
   (by
    intro t;simp only[SRp,EV,aW];by_cases h0:t=0
    ·subst h0;simp
    by_cases h2:t=2
    ·subst h2;exact .inr ⟨by simp, .inr (by simp[o7,bJ])⟩
    by_cases h3:t=3
    ·subst h3;exact .inr ⟨by simp, .inr (by simp[o7,ptr])⟩
    by_cases h4:t=4
    ·subst h4;exact .inr ⟨by simp, .inr (by simp[o7,bJ])⟩
    by_cases h5:t=5
    ·subst h5;exact .inr ⟨by simp, .inl (by simp)⟩
    by_cases h14:t=14
    ·subst h14;exact .inr ⟨by simp, .inr (by simp[o7])⟩
    simp[h0,h2,h3,h4,h5,h14])
  clear g12;rw[JV]at g13;have hbx:dW us'=mO pre [.i (.lit (.int .i64 kd)), .i (.lit (.int .i64 tb)), .i (.lit vE), .i (.lit vC), .i (.lit (if ks.length=0 then .slice none 0 0 else .slice (some ⟨b',0,none⟩) ks.length cap))] post:=by rw[hus];simp[mO,dW]
  rw[hbx]at g13;have hst':=ADP.pM wi b3 p F' H' b us' w12 m2
  refine wp_mono (GR.AZQ lG (G:=GS 29) (S:=SRp b3 init.length pre.length ES .junk .junk (.bool true) .junk .junk .junk .junk .junk .junk (mO pre [.i (.lit (.int .i64 kd)), .i (.lit (.int .i64 tb)), .i (.lit vE), .i (.lit vC), .i (.lit (if ks.length=0 then .slice none 0 0 else .slice (some ⟨b',0,none⟩) ks.length cap))] post) []) hst'
   (PP:=fun e S'=>e=.normal∧∃ v7 v76 v77 v78,S'={ env:=EV b3 (if ks.length=0 then .osl 1 1 0 init.length else .osl 3 1 0 (init.length+ks.length)) (.own 2 pre.length) .junk v7 (.bool true) .junk .junk .junk v76 v77 v78,st:=some (.box zp)::(if ks.length=0 then some (.arr 1 ES)else none)::some (.box (mO pre [.i (.lit (.int .i64 kd)), .i (.lit (.int .i64 tb)), .i (.lit vE), .i (.lit vC), .i (.lit (if ks.length=0 then .slice none 0 0 else .slice (some ⟨b',0,none⟩) ks.length cap))] post))::(if ks.length=0 then []else [some (.arr 1 (RWp init b' ks.length))]) }) (by kernel_rfl) (by
   by_cases h0:ks.length=0
   ·refine⟨.normal,{ env:=EV b3 (.osl 1 1 0 init.length) (.own 2 pre.length) .junk .junk (.bool true) .junk .junk .junk (.int 0) (.int 0) (.bool false),st:=some (.box zp)::some (.arr 1 ES)::some (.box (mO pre [.i (.lit (.int .i64 kd)), .i (.lit (.int .i64 tb)), .i (.lit vE), .i (.lit vC), .i (.lit (if ks.length=0 then .slice none 0 0 else .slice (some ⟨b',0,none⟩) ks.length cap))] post))::[] },?_,rfl, .junk, .int 0, .int 0, .bool false,by simp[h0]⟩;simp[SRp,EV,zp,ADW,bM,dD,h0];rw[aF];simp[bM,dD]
   ·refine⟨.normal,{ env:=EV b3 (.osl 3 1 0 (init.length+ks.length)) (.own 2 pre.length) .junk (.int (ks.length-1)) (.bool true) .junk .junk .junk (.int ks.length) (.int ks.length) (.bool false),st:=some (.box zp)::none::some (.box (mO pre [.i (.lit (.int .i64 kd)), .i (.lit (.int .i64 tb)), .i (.lit vE), .i (.lit vC), .i (.lit (if ks.length=0 then .slice none 0 0 else .slice (some ⟨b',0,none⟩) ks.length cap))] post))::[some (.arr 1 (RWp init b' ks.length))] },?_,rfl, .int (ks.length-1), .int ks.length, .int ks.length, .bool false,by simp[h0]⟩;simp only[h0,if_false];simp[SRp,EV,zp,ADW,bM,dD];rw[aS (YP b3 init.length pre.length ES init b' ks.length (mO pre [.i (.lit (.int .i64 kd)), .i (.lit (.int .i64 tb)), .i (.lit vE), .i (.lit vC), .i (.lit (if ks.length=0 then .slice none 0 0 else .slice (some ⟨b',0,none⟩) ks.length cap))] post)) ks.length (by simp[YP,EV,zp,h0])]
    ·rw[aF];simp[YP,EV,zp,ADW,bM,dD,h0,dR h0]
    ·intro i hi;have w2:IntKind.i64.wrap ((i:Int)+1)=i+1:=wrO;by_cases hi0:i=0
     ·subst hi0;have hR:nE init++[[.lit (.pointer (some ⟨b',0,none⟩))]]=RWp init b' 1:=by simp[RWp,ptr]
      have hl:(init.length+1)*8≤140737488355328:=by omega
      simp[YP,EV,zp,ADW,bM,dD,h0,ASJ,hi,htake,hR,hl,hESl]
     ·have hl:(init.length+i+1)*8≤140737488355328:=by omega
      have hT:(RWp init b' i).take (init.length+i)=RWp init b' i:=zZ (by rw[AMI];omega);have hR:RWp init b' i++[[.lit (.pointer (some ⟨b',i*5,none⟩))]]=RWp init b' (i+1):=by simpa [ptr]using AQ8 init b' i
      simp[YP,EV,zp,ADW,bM,dD,h0,hi0,dR hi0,w2,hi,hT,AMI,hl,hR,← y7]) (g13.ok' fun id h=>by simp[SRp];omega)) ?_
  rintro _ a13 w13 ⟨e,S',rfl,⟨rfl,v7,v76,v77,v78,rfl⟩,g14⟩;clear g13;simp only[nN,Exit.then,Exit.inBlock]
  have hpm2:H'.Perm (init++nY b' 0 ks):=by
   have h1:(((b,pre.length),Pn.mk kd tb es cs ks)::H').Perm (((b,pre.length),Pn.mk kd tb es cs ks)::(init++nY b' 0 ks)):=by
    refine hpm.trans ((hperm.append_right _).trans ?_);rw[zK];exact xB
   exact(List.perm_cons _).1 h1
  have hszx:(Pn.mk kd tb es cs ks).size=1+Pn.dV ks:=hxs
  have hall2:∀ q∈init++nY b' 0 ks,q.2.thin∧q.2.tiny:=by
   intro q hq'
   rcases zT.1 hq' with h|h
   ·exact hall q (by simp[h])
   ·have:=(WZ q h).1;exact⟨t5 _ this,y2 _ this⟩
  have hsum2:((init++nY b' 0 ks).map fun k=>k.2.size).sum=n-1:=by
   rw[yI,List.sum_append,WY];omega
  by_cases hk0:ks.length=0
  ·have hks:ks=[]:=zW.1 hk0;subst hks;simp only[yJ,if_true]at g14 hbx
   have g15:=g14.ACM (st':=bJ [some (.box zp),some (.arr 1 ES)]) (env':=aW (EV b3 (.osl 1 1 0 init.length) .junk .junk .junk .junk .junk .junk .junk .junk .junk .junk)) (by rw[hbx];rfl) (by
    intro i blk h
    rcases i with _|_|i
    ·simp[bJ]at h;subst h;exact⟨by omega,rfl,by simp[lD,zp]⟩
    ·simp[bJ]at h;subst h;exact⟨by omega,rfl,hlit⟩
    ·simp[bJ]at h) (by
    intro t;simp only[EV,aW];by_cases h0:t=0
    ·subst h0;simp
    by_cases h2:t=2
    ·subst h2;exact .inr ⟨by simp,by simp[o7,bJ]⟩
    by_cases h3:t=3
    ·subst h3;exact .inr ⟨by simp,by simp[o7,ptr]⟩
    by_cases h4:t=4
    ·subst h4;exact .inr ⟨by simp,by simp[o7,bJ]⟩
    simp[h0,h2,h3,h4])
   simp only[nY,y9]at hpm2 hall2 hsum2;refine⟨n-1,by omega,init,[((b,pre.length),Pn.mk kd tb es cs [])]++X,H',F',hpm2,hsum2,by omega,hall2,?_⟩;have hES2:nE (init++([((b,pre.length),Pn.mk kd tb es cs [])]++X))=ES:=by rw[← hES,zK]
   simp only[SLp,hES2]
   exact g15.ok' (by
    intro i h
    rcases i with _|_|i
    ·simp
    ·simp
    ·simp[bJ]at h)
  ·simp only[hk0,if_false]at g14 hbx
   have g15:=g14.ACM (st':=bJ [some (.box zp),none,none,some (.arr 1 (RWp init b' ks.length))]) (env':=aW [(2, .own 0 0),(3, .i (ptr (b3,0))),(4, .osl 3 1 0 (init.length+ks.length))]) (by rw[hbx];rfl) (by
    intro i blk h
    rcases i with _|_|_|_|i
    ·simp[bJ]at h;subst h;exact⟨by omega,rfl,by simp[lD,zp]⟩
    ·simp[bJ]at h
    ·simp[bJ]at h
    ·simp[bJ]at h;subst h;exact⟨by omega,rfl,by
      intro c hc;rw[List.mem_flatten]at hc;obtain⟨r,hr1,hr2⟩:=hc;unfold RWp at hr1
      rcases zT.1 hr1 with h|h
      ·exact RO init c (List.mem_flatten.2 ⟨r,h,hr2⟩)
      ·obtain⟨j,_,rfl⟩:=zG.1 h
       simp at hr2;subst hr2;exact⟨_,rfl⟩⟩
    ·simp[bJ]at h) (by
    intro t;simp only[EV,aW];by_cases h2:t=2
    ·subst h2;exact .inr ⟨by simp,by simp[o7,bJ]⟩
    by_cases h3:t=3
    ·subst h3;exact .inr ⟨by simp,by simp[o7,ptr]⟩
    by_cases h4:t=4
    ·subst h4;exact .inr ⟨by simp,by simp[o7,bJ]⟩
    simp[h2,h3,h4])
   have g16:=g15.settle (fun w m φ ids h=>RAW.keep ids h) [2,3,4]
   have hs:Av.settle [2,3,4] 0 (aW [(2, .own 0 0),(3, .i (ptr (b3,0))),(4, .osl 3 1 0 (init.length+ks.length))]) (bJ [some (.box zp),none,none,some (.arr 1 (RWp init b' ks.length))])={ env:=[(2, .own 0 0),(3, .i (ptr (b3,0))),(4, .osl 1 1 0 (init.length+ks.length))],st:=[some (.box zp),some (.arr 1 (RWp init b' ks.length))] }:=by
    simp[zp,ptr]
   rw[hs]at g16;refine⟨n-1,by omega,init++nY b' 0 ks,[],H',F',hpm2,hsum2,by omega,hall2,?_⟩
   have hR:nE (init++nY b' 0 ks++[])=RWp init b' ks.length:=by
    rw[y9];have:=PT b' 0 ks;simp only[nE]at this;simp only[nE,RWp,yI,this,zB]
   have hl:(init++nY b' 0 ks).length=init.length+ks.length:=by rw[zQ,X0]
   simp only[SLp,hR,hl]
   exact g16.envTo (by
    intro t;simp only[EV,aW];by_cases h0:t=0
    ·subst h0;simp
    by_cases h2:t=2
    ·subst h2;simp
    by_cases h3:t=3
    ·subst h3;simp
    by_cases h4:t=4
    ·subst h4;simp
    ·simp[h0,h2,h3,h4])
theorem TE {p:Pn} (hsz:p.size<1000000000) (hth:p.thin) (hty:p.tiny) {wi:World} {mi:Mem} {φ:Pl} {vs:List Value} (hi:Inv wi mi φ (bJ [])) (hr:RepL mi φ [.i (.iref p.cells)] vs) (h0:∀ id,φ id≠none→id<0) :
 Calls Tryz.prog 29 vs.toArray wi (bY wi mi φ (.i (.agg p.cells)) []):=by
 obtain rfl:φ=fun _=>none:=by
  funext id
  cases h:φ id with
  | none=>rfl
  | some p=>exact absurd (h0 id (by rw[h];simp)) (zB5 _)
 exact(vW hsz hth hty hi hr).mono fun _ _ h=>h.tree
end Go.Proofs.YtnmimmaahhlgeaaGreat.G
